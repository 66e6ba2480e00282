/-
  What functions of the program compute: walks, part 1. No conditions: definitions and laws.
-/
import Derived.Test.YtbifkbdapfadfaaGreatDoorHames
set_option linter.all false
noncomputable section
namespace Go.Lyc
open Go.RowKit Go.Lyc.T
structure Keep (W : Nat → Prop) (σ σ' : St) : Prop where
 next : σ.next ≤ σ'.next
 keep : ∀ i o, ¬ W i → σ.get i = some o → σ'.get i = some o
theorem Keep.refl {W : Nat → Prop} {σ : St} : Keep W σ σ := ⟨Nat.le_refl _, fun _ _ _ h => h⟩
theorem Keep.trans {W : Nat → Prop} {σ σ1 σ2 : St} (h : Keep W σ σ1) (h' : Keep W σ1 σ2) : Keep W σ σ2 := ⟨Nat.le_trans h.next h'.next, fun i o hi ho => h'.keep i o hi (h.keep i o hi ho)⟩
theorem Keep.of {W : Nat → Prop} {σ σ1 : St} (hn : σ.next ≤ σ1.next) (h : ∀ i o, σ.get i = some o → σ1.get i = some o) : Keep W σ σ1 := ⟨hn, fun i o _ ho => h i o ho⟩
structure Here (env : Env) (g : Nat) (af : AFunc) : Prop where
 f : env.funcs g = some af
 e : env.ext g = 0
 p : env.pure g = false
theorem visit_go {env : Env} (hv : Here env n_visit c_visit) (o : Bool) {W : Nat → Prop} {B : Nat} (hW : ∀ i, W i → i < B) (I : List Fm → St → Prop) (hI : ∀ l σ σ', I l σ → σ.next ≤ σ'.next → (∀ i o, σ.get i = some o → σ'.get i = some o) → I l σ') (yv : AV)
  (hy : ∀ f rest σ, f.few → B ≤ σ.next → I (f :: rest) σ → GoesCall env 0 yv [f.A o] σ (fun r σ' => r = .ok (.b true) ∧ I rest σ' ∧ Keep W σ σ')) :
  ∀ (d : Nat) (f : Fm) (rest : List Fm) (σ : St), f.dep ≤ d → f.few → B ≤ σ.next → I (f.parts ++ rest) σ → GoesCall env 0 (.f (.func n_visit) [] []) [f.A o, yv] σ (fun r σ' => r = .ok (.b true) ∧ I rest σ' ∧ Keep W σ σ')
 | 0, f, _, _, h, _, _, _ => by rw [Fm.dep_eq] at h; omega
 | d + 1, F, rest, σ0, hd, hF, hB, h0 => by
  refine GoesCall.code hv.e hv.p hv.f rfl rfl rfl rfl ?_
  generalize hk : σ0.next = k at hB
  refine GoF.seq (GoF.region (GoO.box (v := F.A o) (c := F.cells o) k hk rfl rfl rfl rfl rfl fun σ hn h1 k1 => ?_))
  have hI1 := hI _ _ _ h0 (by omega) k1
  have K1 : Keep W σ0 σ := .of (by omega) k1
  have hWk : ¬ W k := fun h => by have := hW _ h; omega
  rw [Fm.parts_eq] at hI1
  repeat (first | refine GoO.go rfl rfl rfl rfl ?_ | refine GoO.cmp rfl rfl rfl rfl rfl ?_ | refine GoO.off rfl rfl ?_ | refine GoO.nil ?_)
  refine GoF.seq (GoF.seq (GoF.region ?_))
  repeat (first | refine GoO.go rfl rfl rfl rfl ?_ | refine GoO.cmp rfl rfl rfl rfl rfl ?_ | refine GoO.off rfl rfl ?_ | refine GoO.nil ?_)
  refine GoO.ld h1 rfl rfl rfl (Fm.ld o F) ?_
  refine GoO.callG rfl rfl rfl (hy F _ σ hF (by omega) hI1) fun r τ ⟨e1, hI2, K2⟩ => ⟨_, e1, ?_⟩
  replace h1 := K2.keep _ _ hWk h1
  have hn2 := K2.next
  repeat (first | refine GoO.go rfl rfl rfl rfl ?_ | refine GoO.cmp rfl rfl rfl rfl rfl ?_ | refine GoO.off rfl rfl ?_ | refine GoO.nil ?_)
  refine GoF.cnd rfl (fun h => by cases h) (fun _ => ?_)
  refine GoF.skip ?_
  refine GoF.seq (GoF.seq (GoF.region ?_))
  repeat (first | refine GoO.go rfl rfl rfl rfl ?_ | refine GoO.cmp rfl rfl rfl rfl rfl ?_ | refine GoO.off rfl rfl ?_ | refine GoO.nil ?_)
  refine GoO.ld h1 rfl rfl rfl (Fm.ldS o F) ?_
  refine GoO.len rfl rfl rfl fmsA_len ?_
  repeat (first | refine GoO.go rfl rfl rfl rfl ?_ | refine GoO.cmp rfl rfl rfl rfl rfl ?_ | refine GoO.off rfl rfl ?_ | refine GoO.nil ?_)
  refine GoF.block ?_
  refine GoF.loop (fun m f σ' => k + 1 ≤ σ'.next ∧ Keep W σ0 σ' ∧ ∃ i, i + m = F.sub.length ∧ I (Fm.partsL (F.sub.drop i) ++ rest) σ' ∧
   sat [(1, yv), (12, fmsA o F.osub), (13, nI F.sub.length), (14, nI i)] f) ?_ F.sub.length ⟨by omega, K1.trans K2, 0, by omega, by rw [List.drop_zero]; exact hI2, rfl, rfl, rfl, rfl, trivial⟩
  clear h1 hI1 hI2 K1 K2 hn hn2 k1
  intro m g σ ⟨hn, K1, i, hi, hI1, hL⟩
  refine GoF.norm _ hL fun g => ?_
  clear hL
  repeat (first | refine GoO.go rfl rfl rfl rfl ?_ | refine GoO.cmp rfl rfl rfl rfl rfl ?_ | refine GoO.off rfl rfl ?_ | refine GoO.nil ?_ | refine GoF.seq ?_ | refine GoF.region ?_ | refine GoF.skip ?_ | refine GoF.block ?_)
  refine GoF.cnd rfl (fun ht => ?_) (fun hf => ?_)
  ·have hlt : i < F.sub.length := of_decide_eq_true ht
   have hl62 := hF.slen
   rw [List.drop_eq_getElem_cons hlt, Fm.partsL, List.append_assoc] at hI1
   generalize hg : F.sub[i] = G at hI1
   have hGm : G ∈ F.sub := by rw [← hg]; exact List.getElem_mem hlt
   refine GoF.skip (GoF.seq (GoF.block (GoF.seq (GoF.region ?_))))
   refine GoO.idx (v := .tp o (G.A o)) rfl rfl rfl rfl (by rw [← hg]; exact fmsA_idx hlt) ?_
   refine GoO.ldt rfl rfl rfl (Fm.conf o G) ?_
   refine GoO.var (v := G.A o) (c := G.cells o) σ.next rfl rfl rfl rfl (Fm.conf o G) rfl (Fm.len o G) fun τ hn2 h4 k2 => ?_
   have K2 := K1.trans (.of (W := W) (by omega) k2)
   have hI2 := hI _ _ _ hI1 (by omega) k2
   refine GoO.nil (GoF.seq (GoF.region ?_))
   refine GoO.ld h4 rfl rfl rfl (Fm.ld o G) ?_
   repeat (first | refine GoO.go rfl rfl rfl rfl ?_ | refine GoO.cmp rfl rfl rfl rfl rfl ?_ | refine GoO.off rfl rfl ?_ | refine GoO.nil ?_)
   refine GoO.callG rfl rfl rfl (visit_go hv o hW I hI yv hy d G _ τ (by have := Fm.dep_sub hGm; omega) (hF.sb G hGm) (by omega) hI2) fun r τ' ⟨e1, hI3, K3⟩ => ⟨_, e1, ?_⟩
   have hn3 := K3.next
   repeat (first | refine GoO.go rfl rfl rfl rfl ?_ | refine GoO.cmp rfl rfl rfl rfl rfl ?_ | refine GoO.off rfl rfl ?_ | refine GoO.nil ?_)
   refine GoF.cnd rfl (fun h => by cases h) (fun _ => ?_)
   refine GoF.skip ?_
   refine GoF.region ?_
   refine GoO.bin (a := nI i) (b := nI 1) rfl rfl rfl rfl (bin_add (by omega)) ?_
   repeat (first | refine GoO.go rfl rfl rfl rfl ?_ | refine GoO.cmp rfl rfl rfl rfl rfl ?_ | refine GoO.off rfl rfl ?_ | refine GoO.nil ?_)
   exact ⟨m - 1, by omega, by omega, K2.trans K3, i + 1, by omega, hI3, rfl, rfl, rfl, rfl, trivial⟩
  ·have hge : ¬ i < F.sub.length := of_decide_eq_false hf
   obtain rfl : i = F.sub.length := by omega
   rw [List.drop_length] at hI1
   refine GoF.exit ?_
   repeat (first | refine GoO.go rfl rfl rfl rfl ?_ | refine GoO.cmp rfl rfl rfl rfl rfl ?_ | refine GoO.off rfl rfl ?_ | refine GoO.nil ?_ | refine GoF.seq ?_ | refine GoF.region ?_ | refine GoF.skip ?_ | refine GoF.block ?_)
   exact GoF.ret ⟨rfl, rfl, hI1, K1⟩
theorem walk1_go {env : Env} (hv : Here env n_visit c_visit) (hw : Here env n_walk1 c_walk1) (o : Bool) {W : Nat → Prop} {B : Nat} (hW : ∀ i, W i → i < B) (I : List Fm → St → Prop) (hI : ∀ l σ σ', I l σ → σ.next ≤ σ'.next → (∀ i o, σ.get i = some o → σ'.get i = some o) → I l σ') (yv : AV)
  (hy : ∀ f rest σ, f.few → B ≤ σ.next → I (f :: rest) σ → GoesCall env 0 yv [f.A o] σ (fun r σ' => r = .ok (.b true) ∧ I rest σ' ∧ Keep W σ σ')) (F : Fm) (hF : F.few) (rest : List Fm) (σ : St) (bx : Nat) (hbx : σ.get bx = some (.cells (F.cells o))) (hB : B ≤ σ.next) (h0 : I (F.parts ++ rest) σ) :
  GoesCall env 0 (.f (.func n_walk1) [] [.p (some (bx, 0))]) [yv] σ (fun r σ' => r = .ok (.tu []) ∧ I rest σ' ∧ Keep W σ σ') := by
 refine GoesCall.code0 hw.e hw.p hw.f rfl rfl rfl ?_
 refine GoF.region ?_
 refine GoO.ld hbx rfl rfl rfl (Fm.ld o F) ?_
 repeat (first | refine GoO.go rfl rfl rfl rfl ?_ | refine GoO.cmp rfl rfl rfl rfl rfl ?_ | refine GoO.off rfl rfl ?_ | refine GoO.nil ?_)
 refine GoO.callG rfl rfl rfl (visit_go hv o hW I hI yv hy _ F rest σ (Nat.le_refl _) hF hB h0) fun r τ ⟨e1, h1, h2⟩ => ⟨_, e1, ?_⟩
 repeat (first | refine GoO.go rfl rfl rfl rfl ?_ | refine GoO.cmp rfl rfl rfl rfl rfl ?_ | refine GoO.off rfl rfl ?_ | refine GoO.nil ?_)
 exact ⟨.inr rfl, rfl, h1, h2⟩
theorem walkG {env : Env} (hw : Here env n_walk c_walk) (o : Bool) (F : Fm) (σ : St) (k : Nat) (hk : σ.next = k) : GoesCall env 0 (.f (.func n_walk) [] []) [F.A o] σ (fun r σ' => r = .ok (.f (.func n_walk1) [] [.p (some (k, 0))]) ∧ σ'.next = k + 1 ∧ σ'.get k = some (.cells (F.cells o)) ∧ ∀ i o, σ.get i = some o → σ'.get i = some o) := by
 refine GoesCall.code hw.e hw.p hw.f rfl rfl rfl rfl ?_
 refine GoF.seq (GoF.region (GoO.box (v := F.A o) (c := F.cells o) k hk rfl rfl rfl rfl rfl fun τ hn h1 k1 => ?_))
 repeat (first | refine GoO.go rfl rfl rfl rfl ?_ | refine GoO.cmp rfl rfl rfl rfl rfl ?_ | refine GoO.off rfl rfl ?_ | refine GoO.nil ?_ | refine GoF.seq ?_ | refine GoF.region ?_ | refine GoF.skip ?_ | refine GoF.block ?_)
 exact GoF.ret ⟨rfl, rfl, hn, h1, k1⟩
theorem GoX.walk {env : Env} {D : List (Nat ⊕ (AV × List AV))} {n : Nat} {f : Nat → AV} {σ : St} {Q : PostF} (hv : Here env n_visit c_visit) (hw : Here env n_walk1 c_walk1) (o : Bool) {fo : AOpd} {p : Nat} {asn b : ACode} {bx : Nat} {F : Fm} (W : Nat → Prop) (S : List Fm → St → Prop) (k : Nat) (hk : σ.next = k)
  (hfo : evF env n f fo = some (.f (.func n_walk1) [] [.p (some (bx, 0))])) (hp : Nat.blt p n = true) (hF : F.few) (hbx : σ.get bx = some (.cells (F.cells o))) (hW : ∀ i, W i → i < k) (hS : ∀ l σ σ', S l σ → (∀ i o, W i → σ.get i = some o → σ'.get i = some o) → S l σ') (h0 : S F.parts σ)
  (hround : ∀ G rest τ, G.few → k + 2 ≤ τ.next → S (G :: rest) τ → GoW env (some (k + 1)) [] n asn (upd f p (G.A o)) τ (fun x f1 τ1 => x = .normal ∧ Keep W τ τ1 ∧
   ∀ τ2, τ2.next = τ1.next → (∀ i o, i ≠ k + 1 → τ1.get i = some o → τ2.get i = some o) → GoW env (some (k + 1)) [] n b f1 τ2 (fun x _ τ3 => x = .normal ∧ S rest τ3 ∧ Keep W τ2 τ3)))
  (hend : ∀ τ, S [] τ → k + 2 ≤ τ.next → τ.get k = some .dblk → (∀ i o, ¬ W i → σ.get i = some o → τ.get i = some o) → Q .normal f τ) : GoX env D (.inl k :: D) n (.rangeFunc fo [p] asn b) f σ Q := by
 subst hk
 refine GoX.range hfo hw.e fun sl hsl => ?_
 generalize hk : σ.next = k at *
 have hWk : ∀ i, W i → i < k := hW
 have hp1 : ((σ.push .dblk).push (.loop .ready none sl [p] asn b k)).get (k + 1) = some (.loop .ready none sl [p] asn b k) := by
  have := St.get_push_new (σ := σ.push .dblk) (.loop .ready none sl [p] asn b k)
  rwa [show (σ.push .dblk).next = k + 1 from by show σ.next + 1 = _; rw [hk]] at this
 have hp2 : ∀ i o, σ.get i = some o → ((σ.push .dblk).push (.loop .ready none sl [p] asn b k)).get i = some o := fun i o ho => by
  have := St.get_lt ho
  rw [St.get_push_old trivial _ (show i < (σ.push .dblk).next from by show i < σ.next + 1; omega), St.get_push_old trivial _ this]; exact ho
 have hp3 : ((σ.push .dblk).push (.loop .ready none sl [p] asn b k)).get k = some .dblk := by
  rw [St.get_push_old trivial _ (show k < (σ.push .dblk).next from by show k < σ.next + 1; omega)]
  have := St.get_push_new (σ := σ) .dblk
  rwa [hk] at this
 have hpn : ((σ.push .dblk).push (.loop .ready none sl [p] asn b k)).next = k + 2 := by show σ.next + 1 + 1 = _; rw [hk]
 generalize (σ.push .dblk).push (.loop .ready none sl [p] asn b k) = σ2 at *
 refine (walk1_go hv hw o (W := fun i => W i ∨ i = k + 1) (B := k + 2) (fun i hi => by rcases hi with hi | hi; have := hWk i hi; omega; omega)
  (fun l τ => S l τ ∧ τ.get (k + 1) = some (.loop .ready none sl [p] asn b k) ∧ k + 2 ≤ τ.next ∧ τ.get k = some .dblk ∧ ∀ i o, ¬ W i → σ.get i = some o → τ.get i = some o)
  (fun l τ τ' ⟨a1, a2, a3, a4, a5⟩ b1 b2 => ⟨hS _ _ _ a1 fun i o _ ho => b2 i o ho, b2 _ _ a2, by omega, b2 _ _ a4, fun i o hi ho => b2 _ _ (a5 i o hi ho)⟩) (.f (.yield (k + 1)) [] []) ?_ F hF [] σ2 bx (hp2 _ _ hbx) (by omega) ?_).mono ?_
 ·intro G rest τ hG hB ⟨a1, a2, a3, a4, a5⟩
  refine (GoesCall.round (R := fun σ' => (S rest σ' ∧ σ'.get (k + 1) = some (.loop .ready none sl [p] asn b k) ∧ k + 2 ≤ σ'.next ∧ σ'.get k = some .dblk ∧ ∀ i o, ¬ W i → σ.get i = some o → σ'.get i = some o) ∧ Keep (fun i => W i ∨ i = k + 1) τ σ') (f := f) (n := n) a2 hsl (by show cond (Nat.blt p n) _ _ = true; rw [hp]; rfl) rfl ?_).mono fun r σ' h => h
  refine (hround G rest τ hG a3 a1).mono fun x f1 τ1 ⟨e1, K1, h1⟩ => ?_
  have hWl : ¬ W (k + 1) := fun h => by have := hWk _ h; omega
  have hl1 := K1.keep _ _ hWl a2
  have hset := set_get (o' := .loop .busy none sl [p] asn b k) hl1
  refine ⟨e1, hl1, (h1 (τ1.set (k + 1) (.loop .busy none sl [p] asn b k)) rfl (fun i o hi ho => hset.2 i o hi ho)).mono fun x _ τ3 ⟨e2, hS3, K3⟩ => ?_⟩
  have hl3 := K3.keep _ _ hWl hset.1
  have hset3 := set_get (o' := .loop .ready none sl [p] asn b k) hl3
  have n1 := K1.next
  have n3 : τ1.next ≤ τ3.next := K3.next
  have kk : ∀ i o, ¬ W i → i ≠ k + 1 → τ.get i = some o → (τ3.set (k + 1) (.loop .ready none sl [p] asn b k)).get i = some o := fun i o hi hne ho => hset3.2 i o hne (K3.keep i o hi (hset.2 i o hne (K1.keep i o hi ho)))
  refine ⟨e2, hl3, ⟨hS _ _ _ hS3 fun i o hi ho => hset3.2 i o (by have := hWk i hi; omega) ho, hset3.1, by show k + 2 ≤ τ3.next; omega, kk k _ (fun h => by have := hWk _ h; omega) (by omega) a4, fun i o hi ho => kk i o hi (by have := St.get_lt ho; omega) (a5 i o hi ho)⟩, ⟨by show τ.next ≤ τ3.next; omega, fun i o hi ho => kk i o (fun h => hi (.inl h)) (fun h => hi (.inr h)) ho⟩⟩
 ·rw [List.append_nil]
  exact ⟨hS _ _ _ h0 fun i o _ ho => hp2 i o ho, hp1, by omega, hp3, fun i o _ ho => hp2 i o ho⟩
 ·rintro r τ ⟨e1, ⟨a1, a2, a3, a4, a5⟩, _⟩
  have hset := set_get (o' := .loop .exhausted none sl [p] asn b k) a2
  exact ⟨_, .ready, e1, a2, by simp, hend _ (hS _ _ _ a1 fun i o hi ho => hset.2 i o (by have := hWk i hi; omega) ho) a3 (hset.2 _ _ (by omega) a4) fun i o hi ho => hset.2 i o (by have := St.get_lt ho; omega) (a5 i o hi ho)⟩
theorem wrap32 {n : Nat} (h : n < 2 ^ 32) : IntKind.wrap .u32 (n : Int) = (n : Int) := by
 have h : (n : Int) < 4294967296 := by omega
 simp only [IntKind.wrap, IntKind.bits, IntKind.signed]
 simp
 omega
theorem ofInt32 (n : Nat) (h : n < 2 ^ 32) : (BitVec.ofInt IntKind.u32.bits (Int.ofNat n)).toNat = n := by
 simp [IntKind.bits]
 omega
theorem bin_or32 {a b : Nat} (ha : a < 2 ^ 32) (hb : b < 2 ^ 32) : binop .or (.i .u32 (Int.ofNat a)) (.i .u32 (Int.ofNat b)) = some (.i .u32 (Int.ofNat (a ||| b))) := by
 have h : (BitVec.ofInt IntKind.u32.bits (Int.ofNat a) ||| BitVec.ofInt IntKind.u32.bits (Int.ofNat b)).toNat = a ||| b := by
  rw [BitVec.toNat_or, ofInt32 a ha, ofInt32 b hb]
 show some (AV.i .u32 (IntKind.wrap .u32 ((BitVec.ofInt IntKind.u32.bits (Int.ofNat a) ||| BitVec.ofInt IntKind.u32.bits (Int.ofNat b)).toNat : Int))) = _
 rw [h, wrap32 (Nat.or_lt_two_pow ha hb)]; rfl
theorem bin_shl32 {k : IntKind} {a : Nat} (h : a < 32) : binop .shl (.i .u32 (Int.ofNat 1)) (.i k (Int.ofNat a)) = some (.i .u32 (Int.ofNat (2 ^ a))) := by
 show (if (Int.ofNat a) < 0 then none else some (AV.i .u32 (IntKind.wrap .u32 (Int.ofNat 1 * 2 ^ (min (Int.ofNat a).toNat IntKind.u32.bits))))) = _
 rw [if_neg (by simp)]
 have e : min (Int.ofNat a).toNat IntKind.u32.bits = a := by show min a 32 = a; omega
 rw [e]
 have : (Int.ofNat 1 * 2 ^ a : Int) = ((2 ^ a : Nat) : Int) := by show (1 : Int) * _ = _; rw [Int.one_mul]; simp
 rw [this, wrap32 (Nat.pow_lt_pow_right (by omega) h)]; rfl
def opM (f : Fm) : Nat := if f.op < 32 then 2 ^ f.op else 0
def opsL (l : List Fm) (m : Nat) : Nat := l.foldl (fun m f => m ||| opM f) m
def opsN (f : Fm) : Nat := opsL f.parts 0
theorem opM_lt (f : Fm) : opM f < 2 ^ 32 := by
 unfold opM; split
 ·exact Nat.pow_lt_pow_right (by omega) ‹_›
 ·exact Nat.two_pow_pos _
theorem opsL_lt : ∀ {l : List Fm} {m : Nat}, m < 2 ^ 32 → opsL l m < 2 ^ 32
 | [], _, h => h
 | f :: l, m, h => by
  show opsL l (m ||| opM f) < _
  exact opsL_lt (Nat.or_lt_two_pow h (opM_lt f))
theorem Ops_go {b : Base} {K : Nat → List AV → AV → Prop} (hv : Here (b.envK K) n_visit c_visit) (hw1 : Here (b.envK K) n_walk1 c_walk1) (hw : Here (b.envK K) n_walk c_walk) (F : Fm) (hF : F.few) (body : ACode) (hb : c_Ops.body = some body) :
  GoX (b.envK K) [] [.inl 3] 17 body (argF [F.A true]) ⟨.nil, 0⟩ (fun x f σ' => x = .ret ∧ σ'.get 3 = some .dblk ∧ freeze (σ'.set 3 .dead) 0 1000 (f 2) = some (.i .u32 (Int.ofNat (opsN F)))) := by
 cases hb
 refine GoX.seqA (GoF.region (GoO.box (v := F.A true) (c := F.cells true) 0 rfl rfl rfl rfl rfl rfl fun σ1 hn1 h1 _ => ?_))
 repeat (first | refine GoO.go rfl rfl rfl rfl ?_ | refine GoO.cmp rfl rfl rfl rfl rfl ?_ | refine GoO.off rfl rfl ?_ | refine GoO.nil ?_)
 refine ⟨rfl, GoX.seqA (GoF.region (GoO.alloc 1 hn1 rfl rfl rfl fun σ2 hn2 h2 k2 => ?_))⟩
 replace h1 := k2 _ _ h1
 repeat (first | refine GoO.go rfl rfl rfl rfl ?_ | refine GoO.cmp rfl rfl rfl rfl rfl ?_ | refine GoO.off rfl rfl ?_ | refine GoO.nil ?_)
 refine ⟨rfl, GoX.seqB (GoX.seqA (GoF.region ?_))⟩
 refine GoO.ld h1 rfl rfl rfl (Fm.ld true F) ?_
 refine GoO.callG rfl rfl rfl (walkG hw true F σ2 2 hn2) fun r σ ⟨e1, hn, h3, k3⟩ => ⟨_, e1, ?_⟩
 replace h1 := k3 _ _ h1
 replace h2 := k3 _ _ h2
 repeat (first | refine GoO.go rfl rfl rfl rfl ?_ | refine GoO.cmp rfl rfl rfl rfl rfl ?_ | refine GoO.off rfl rfl ?_ | refine GoO.nil ?_)
 refine ⟨rfl, GoX.block ?_⟩
 refine GoX.walk hv hw1 true (fun i => i = 1) (fun l τ => ∃ m, m < 2 ^ 32 ∧ opsL l m = opsN F ∧ τ.get 1 = some (.cells [.i .u32 (Int.ofNat m)])) 3 hn rfl rfl hF h3 (fun i hi => by omega) (fun l τ τ' ⟨m, a1, a2, a3⟩ hk => ⟨m, a1, a2, hk _ _ rfl a3⟩) ⟨0, Nat.two_pow_pos _, rfl, h2⟩ ?_ ?_
 ·intro G rest τ hG hτ ⟨m, a1, a2, a3⟩
  refine GoF.region ?_
  refine GoO.var (v := G.A true) (c := G.cells true) τ.next rfl rfl rfl rfl (Fm.conf true G) rfl (Fm.len true G) fun τ1 hn4 h4 k4 => ?_
  refine GoO.nil ⟨rfl, .of (by omega) k4, fun τ2 hn5 k5 => ?_⟩
  replace h4 := k5 _ _ (by omega) h4
  replace a3 := k5 _ _ (by omega) (k4 _ _ a3)
  refine GoF.block (GoF.seq (GoF.region ?_))
  repeat (first | refine GoO.go rfl rfl rfl rfl ?_ | refine GoO.cmp rfl rfl rfl rfl rfl ?_ | refine GoO.off rfl rfl ?_ | refine GoO.nil ?_)
  refine GoO.ld h4 rfl rfl rfl (Fm.ldO true G) ?_
  repeat (first | refine GoO.go rfl rfl rfl rfl ?_ | refine GoO.cmp rfl rfl rfl rfl rfl ?_ | refine GoO.off rfl rfl ?_ | refine GoO.nil ?_)
  refine GoF.cnd rfl (fun h => ?_) (fun h => ?_)
  ·have hop : G.op < 32 := of_decide_eq_true h
   have hom : opM G = 2 ^ G.op := by unfold opM; rw [if_pos hop]
   refine GoF.region ?_
   repeat (first | refine GoO.go rfl rfl rfl rfl ?_ | refine GoO.ld a3 rfl rfl rfl rfl ?_ | refine GoO.cmp rfl rfl rfl rfl rfl ?_ | refine GoO.off rfl rfl ?_ | refine GoO.nil ?_)
   refine GoO.ld h4 rfl rfl rfl (Fm.ldO true G) ?_
   refine GoO.bin (a := .i .u32 (Int.ofNat 1)) (b := .i .u8 (Int.ofNat G.op)) rfl rfl rfl rfl (bin_shl32 hop) ?_
   refine GoO.bin (a := .i .u32 (Int.ofNat m)) (b := .i .u32 (Int.ofNat (2 ^ G.op))) rfl rfl rfl rfl (bin_or32 a1 (Nat.pow_lt_pow_right (by omega) hop)) ?_
   refine GoO.store (c' := [.i .u32 (Int.ofNat (m ||| 2 ^ G.op))]) a3 rfl rfl rfl rfl rfl fun τ3 hn6 h6 k6 => ?_
   exact GoO.nil ⟨rfl, ⟨_, Nat.or_lt_two_pow a1 (Nat.pow_lt_pow_right (by omega) hop), by rw [← a2, ← hom]; rfl, h6⟩, ⟨by omega, fun i o hi ho => k6 i o hi ho⟩⟩
  ·have hop : ¬ G.op < 32 := of_decide_eq_false h
   have hom : opM G = 0 := by unfold opM; rw [if_neg hop]
   exact GoF.skip ⟨rfl, ⟨m, a1, by rw [← a2]; show opsL rest m = opsL rest (m ||| opM G); rw [hom, Nat.or_zero], a3⟩, .refl⟩
 ·intro τ ⟨m, a1, a2, a3⟩ hτ hd _
  refine ⟨rfl, rfl, ?_⟩
  refine GoF.seq (GoF.region ?_)
  repeat (first | refine GoO.go rfl rfl rfl rfl ?_ | refine GoO.ld a3 rfl rfl rfl rfl ?_ | refine GoO.cmp rfl rfl rfl rfl rfl ?_ | refine GoO.off rfl rfl ?_ | refine GoO.nil ?_)
  refine GoF.ret ⟨rfl, hd, ?_⟩
  show some (AV.i .u32 (Int.ofNat m)) = _
  rw [← a2]; rfl
end Go.Lyc
end
noncomputable section
namespace Go.Lyc
open Go.RowKit Go.Lyc.T
theorem ctrue {p : Prop} [Decidable p] (h : p) : some (AV.b (decide p)) = some (AV.b true) := by rw [decide_eq_true h]
theorem cfalse {p : Prop} [Decidable p] (h : ¬ p) : some (AV.b (decide p)) = some (AV.b false) := by rw [decide_eq_false h]
def isSmall (c : Nat) : Bool := decide (97 ≤ c) && decide (c ≤ 122)
def isCap (c : Nat) : Bool := decide (65 ≤ c) && decide (c ≤ 90)
def isDig (c : Nat) : Bool := decide (48 ≤ c) && decide (c ≤ 57)
def isAl (c : Nat) : Bool := isSmall c || (isCap c || isDig c)
def isVar1 (c : Nat) : Bool := decide (117 ≤ c) && decide (c ≤ 122)
def isFun1 (c : Nat) : Bool := decide (97 ≤ c) && decide (c ≤ 116)
abbrev uB (c : Nat) : AV := .i .u8 (Int.ofNat c)
def resv (l : List Nat) : Bool := eqL l [97, 108, 108] || (eqL l [115, 111, 109, 101] || (eqL l [102, 97, 108, 115, 101] || (eqL l [110, 101, 120, 116] || (eqL l [97, 108, 119, 97, 121, 115] || eqL l [117, 110, 116, 105, 108]))))
def nameB (first other : Nat → Bool) : List Nat → Bool
 | [] => false
 | c :: l => decide (l.length + 1 ≤ 16) && (!resv (c :: l) && (first c && l.all other))
def isPred (l : List Nat) : Bool := nameB isCap isAl l
def isVar (l : List Nat) : Bool := nameB isVar1 isDig l
def isFun (l : List Nat) : Bool := nameB isFun1 isAl l
def metaB (p : List Nat → Bool) : List Nat → Bool
 | [] => false
 | c :: l => decide (l.length + 1 ≤ 16) && (decide (c = 63) && p l)
def isFMeta (l : List Nat) : Bool := metaB isPred l
def isTMeta (l : List Nat) : Bool := metaB isFun l
section
variable {b : Base} {K : Nat → List AV → AV → Prop} (hf : ∀ g ar r r', K g ar r → K g ar r' → r = r')
abbrev Done (d : Nat) (r : AV) : PostF := fun x f σ' => x = .ret ∧ freeze σ' 0 1000 (f d) = some r
theorem small_go (c : Nat) (body : ACode) (hb : c_small.body = some body) : GoF (b.envK K) 9 body (argF [uB c]) ⟨.nil, 0⟩ (Done 2 (.b (isSmall c))) := by
 cases hb
 refine GoF.seq (GoF.region ?_)
 refine GoO.go rfl rfl rfl rfl ?_
 refine GoO.nil (GoF.seq (GoF.region ?_))
 refine GoO.go rfl rfl rfl rfl ?_
 by_cases h1 : 97 ≤ c
 ·refine GoO.bin (a := uB c) (b := uB 97) (v := .b true) rfl rfl rfl rfl (bin_cmp (ctrue h1)) ?_
  repeat (first | refine GoO.go rfl rfl rfl rfl ?_ | refine GoO.cmp rfl rfl rfl rfl rfl ?_ | refine GoO.off rfl rfl ?_ | refine GoO.nil ?_ | refine GoF.seq ?_ | refine GoF.region ?_ | refine GoF.skip ?_ | refine GoF.block ?_)
  refine GoF.ret ⟨rfl, ?_⟩
  show some (AV.b (decide (c ≤ 122))) = some (AV.b (isSmall c))
  unfold isSmall; rw [decide_eq_true h1]; rfl
 ·refine GoO.bin (a := uB c) (b := uB 97) (v := .b false) rfl rfl rfl rfl (bin_cmp (cfalse h1)) ?_
  repeat (first | refine GoO.go rfl rfl rfl rfl ?_ | refine GoO.cmp rfl rfl rfl rfl rfl ?_ | refine GoO.off rfl rfl ?_ | refine GoO.nil ?_ | refine GoF.seq ?_ | refine GoF.region ?_ | refine GoF.skip ?_ | refine GoF.block ?_)
  refine GoF.ret ⟨rfl, ?_⟩
  show some (AV.b false) = some (AV.b (isSmall c))
  unfold isSmall; rw [decide_eq_false h1]; rfl
theorem capital_go (c : Nat) (body : ACode) (hb : c_capital.body = some body) : GoF (b.envK K) 9 body (argF [uB c]) ⟨.nil, 0⟩ (Done 2 (.b (isCap c))) := by
 cases hb
 refine GoF.seq (GoF.region ?_)
 refine GoO.go rfl rfl rfl rfl ?_
 refine GoO.nil (GoF.seq (GoF.region ?_))
 refine GoO.go rfl rfl rfl rfl ?_
 by_cases h1 : 65 ≤ c
 ·refine GoO.bin (a := uB c) (b := uB 65) (v := .b true) rfl rfl rfl rfl (bin_cmp (ctrue h1)) ?_
  repeat (first | refine GoO.go rfl rfl rfl rfl ?_ | refine GoO.cmp rfl rfl rfl rfl rfl ?_ | refine GoO.off rfl rfl ?_ | refine GoO.nil ?_ | refine GoF.seq ?_ | refine GoF.region ?_ | refine GoF.skip ?_ | refine GoF.block ?_)
  refine GoF.ret ⟨rfl, ?_⟩
  show some (AV.b (decide (c ≤ 90))) = some (AV.b (isCap c))
  unfold isCap; rw [decide_eq_true h1]; rfl
 ·refine GoO.bin (a := uB c) (b := uB 65) (v := .b false) rfl rfl rfl rfl (bin_cmp (cfalse h1)) ?_
  repeat (first | refine GoO.go rfl rfl rfl rfl ?_ | refine GoO.cmp rfl rfl rfl rfl rfl ?_ | refine GoO.off rfl rfl ?_ | refine GoO.nil ?_ | refine GoF.seq ?_ | refine GoF.region ?_ | refine GoF.skip ?_ | refine GoF.block ?_)
  refine GoF.ret ⟨rfl, ?_⟩
  show some (AV.b false) = some (AV.b (isCap c))
  unfold isCap; rw [decide_eq_false h1]; rfl
theorem digit_go (c : Nat) (body : ACode) (hb : c_digit.body = some body) : GoF (b.envK K) 9 body (argF [uB c]) ⟨.nil, 0⟩ (Done 2 (.b (isDig c))) := by
 cases hb
 refine GoF.seq (GoF.region ?_)
 refine GoO.go rfl rfl rfl rfl ?_
 refine GoO.nil (GoF.seq (GoF.region ?_))
 refine GoO.go rfl rfl rfl rfl ?_
 by_cases h1 : 48 ≤ c
 ·refine GoO.bin (a := uB c) (b := uB 48) (v := .b true) rfl rfl rfl rfl (bin_cmp (ctrue h1)) ?_
  repeat (first | refine GoO.go rfl rfl rfl rfl ?_ | refine GoO.cmp rfl rfl rfl rfl rfl ?_ | refine GoO.off rfl rfl ?_ | refine GoO.nil ?_ | refine GoF.seq ?_ | refine GoF.region ?_ | refine GoF.skip ?_ | refine GoF.block ?_)
  refine GoF.ret ⟨rfl, ?_⟩
  show some (AV.b (decide (c ≤ 57))) = some (AV.b (isDig c))
  unfold isDig; rw [decide_eq_true h1]; rfl
 ·refine GoO.bin (a := uB c) (b := uB 48) (v := .b false) rfl rfl rfl rfl (bin_cmp (cfalse h1)) ?_
  repeat (first | refine GoO.go rfl rfl rfl rfl ?_ | refine GoO.cmp rfl rfl rfl rfl rfl ?_ | refine GoO.off rfl rfl ?_ | refine GoO.nil ?_ | refine GoF.seq ?_ | refine GoF.region ?_ | refine GoF.skip ?_ | refine GoF.block ?_)
  refine GoF.ret ⟨rfl, ?_⟩
  show some (AV.b false) = some (AV.b (isDig c))
  unfold isDig; rw [decide_eq_false h1]; rfl
theorem Variable1_go (c : Nat) (body : ACode) (hb : c_Variable1.body = some body) : GoF (b.envK K) 9 body (argF [uB c]) ⟨.nil, 0⟩ (Done 2 (.b (isVar1 c))) := by
 cases hb
 refine GoF.seq (GoF.region ?_)
 refine GoO.go rfl rfl rfl rfl ?_
 refine GoO.nil (GoF.seq (GoF.region ?_))
 refine GoO.go rfl rfl rfl rfl ?_
 by_cases h1 : 117 ≤ c
 ·refine GoO.bin (a := uB c) (b := uB 117) (v := .b true) rfl rfl rfl rfl (bin_cmp (ctrue h1)) ?_
  repeat (first | refine GoO.go rfl rfl rfl rfl ?_ | refine GoO.cmp rfl rfl rfl rfl rfl ?_ | refine GoO.off rfl rfl ?_ | refine GoO.nil ?_ | refine GoF.seq ?_ | refine GoF.region ?_ | refine GoF.skip ?_ | refine GoF.block ?_)
  refine GoF.ret ⟨rfl, ?_⟩
  show some (AV.b (decide (c ≤ 122))) = some (AV.b (isVar1 c))
  unfold isVar1; rw [decide_eq_true h1]; rfl
 ·refine GoO.bin (a := uB c) (b := uB 117) (v := .b false) rfl rfl rfl rfl (bin_cmp (cfalse h1)) ?_
  repeat (first | refine GoO.go rfl rfl rfl rfl ?_ | refine GoO.cmp rfl rfl rfl rfl rfl ?_ | refine GoO.off rfl rfl ?_ | refine GoO.nil ?_ | refine GoF.seq ?_ | refine GoF.region ?_ | refine GoF.skip ?_ | refine GoF.block ?_)
  refine GoF.ret ⟨rfl, ?_⟩
  show some (AV.b false) = some (AV.b (isVar1 c))
  unfold isVar1; rw [decide_eq_false h1]; rfl
theorem Function1_go (c : Nat) (body : ACode) (hb : c_Function1.body = some body) : GoF (b.envK K) 9 body (argF [uB c]) ⟨.nil, 0⟩ (Done 2 (.b (isFun1 c))) := by
 cases hb
 refine GoF.seq (GoF.region ?_)
 refine GoO.go rfl rfl rfl rfl ?_
 refine GoO.nil (GoF.seq (GoF.region ?_))
 refine GoO.go rfl rfl rfl rfl ?_
 by_cases h1 : 97 ≤ c
 ·refine GoO.bin (a := uB c) (b := uB 97) (v := .b true) rfl rfl rfl rfl (bin_cmp (ctrue h1)) ?_
  repeat (first | refine GoO.go rfl rfl rfl rfl ?_ | refine GoO.cmp rfl rfl rfl rfl rfl ?_ | refine GoO.off rfl rfl ?_ | refine GoO.nil ?_ | refine GoF.seq ?_ | refine GoF.region ?_ | refine GoF.skip ?_ | refine GoF.block ?_)
  refine GoF.ret ⟨rfl, ?_⟩
  show some (AV.b (decide (c ≤ 116))) = some (AV.b (isFun1 c))
  unfold isFun1; rw [decide_eq_true h1]; rfl
 ·refine GoO.bin (a := uB c) (b := uB 97) (v := .b false) rfl rfl rfl rfl (bin_cmp (cfalse h1)) ?_
  repeat (first | refine GoO.go rfl rfl rfl rfl ?_ | refine GoO.cmp rfl rfl rfl rfl rfl ?_ | refine GoO.off rfl rfl ?_ | refine GoO.nil ?_ | refine GoF.seq ?_ | refine GoF.region ?_ | refine GoF.skip ?_ | refine GoF.block ?_)
  refine GoF.ret ⟨rfl, ?_⟩
  show some (AV.b false) = some (AV.b (isFun1 c))
  unfold isFun1; rw [decide_eq_false h1]; rfl
include hf in
theorem alnum_go (hs : ∀ c, K n_small [uB c] (.b (isSmall c))) (hc : ∀ c, K n_capital [uB c] (.b (isCap c))) (hd : ∀ c, K n_digit [uB c] (.b (isDig c))) (es : b.ext n_small = 0 ∧ b.pure n_small = true) (ec : b.ext n_capital = 0 ∧ b.pure n_capital = true) (ed : b.ext n_digit = 0 ∧ b.pure n_digit = true)
  (c : Nat) (body : ACode) (hb : c_alnum.body = some body) : GoF (b.envK K) 13 body (argF [uB c]) ⟨.nil, 0⟩ (Done 2 (.b (isAl c))) := by
 cases hb
 repeat (first | refine GoO.go rfl rfl rfl rfl ?_ | refine GoO.cmp rfl rfl rfl rfl rfl ?_ | refine GoO.off rfl rfl ?_ | refine GoO.nil ?_ | refine GoF.seq ?_ | refine GoF.region ?_ | refine GoF.skip ?_ | refine GoF.block ?_)
 refine GoO.known hf es.1 es.2 (hs c) rfl rfl rfl (snaps1 rfl) ?_
 cases h1 : isSmall c with
 | true =>
  repeat (first | refine GoO.go rfl rfl rfl rfl ?_ | refine GoO.cmp rfl rfl rfl rfl rfl ?_ | refine GoO.off rfl rfl ?_ | refine GoO.nil ?_ | refine GoF.seq ?_ | refine GoF.region ?_ | refine GoF.skip ?_ | refine GoF.block ?_)
  exact GoF.ret ⟨rfl, by show some (AV.b true) = some (AV.b (isAl c)); unfold isAl; rw [h1]; rfl⟩
 | false =>
  repeat (first | refine GoO.go rfl rfl rfl rfl ?_ | refine GoO.cmp rfl rfl rfl rfl rfl ?_ | refine GoO.off rfl rfl ?_ | refine GoO.nil ?_ | refine GoF.seq ?_ | refine GoF.region ?_ | refine GoF.skip ?_ | refine GoF.block ?_)
  refine GoO.known hf ec.1 ec.2 (hc c) rfl rfl rfl (snaps1 rfl) ?_
  cases h2 : isCap c with
  | true =>
   repeat (first | refine GoO.go rfl rfl rfl rfl ?_ | refine GoO.cmp rfl rfl rfl rfl rfl ?_ | refine GoO.off rfl rfl ?_ | refine GoO.nil ?_ | refine GoF.seq ?_ | refine GoF.region ?_ | refine GoF.skip ?_ | refine GoF.block ?_)
   exact GoF.ret ⟨rfl, by show some (AV.b true) = some (AV.b (isAl c)); unfold isAl; rw [h1, h2]; rfl⟩
  | false =>
   repeat (first | refine GoO.go rfl rfl rfl rfl ?_ | refine GoO.cmp rfl rfl rfl rfl rfl ?_ | refine GoO.off rfl rfl ?_ | refine GoO.nil ?_ | refine GoF.seq ?_ | refine GoF.region ?_ | refine GoF.skip ?_ | refine GoF.block ?_)
   refine GoO.known hf ed.1 ed.2 (hd c) rfl rfl rfl (snaps1 rfl) ?_
   repeat (first | refine GoO.go rfl rfl rfl rfl ?_ | refine GoO.cmp rfl rfl rfl rfl rfl ?_ | refine GoO.off rfl rfl ?_ | refine GoO.nil ?_ | refine GoF.seq ?_ | refine GoF.region ?_ | refine GoF.skip ?_ | refine GoF.block ?_)
   exact GoF.ret ⟨rfl, by show some (AV.b (isDig c)) = some (AV.b (isAl c)); unfold isAl; rw [h1, h2]; rfl⟩
theorem reserved_go (l : List Nat) (body : ACode) (hb : c_reserved.body = some body) : GoF (b.envK K) 11 body (argF [.s l]) ⟨.nil, 0⟩ (Done 2 (.b (resv l))) := by
 cases hb
 refine GoF.seq (GoF.region ?_)
 repeat (first | refine GoO.go rfl rfl rfl rfl ?_ | refine GoO.cmp rfl rfl rfl rfl rfl ?_ | refine GoO.off rfl rfl ?_ | refine GoO.nil ?_)
 refine GoF.seq (GoF.seq (GoF.region ?_))
 repeat (first | refine GoO.go rfl rfl rfl rfl ?_ | refine GoO.cmp rfl rfl rfl rfl rfl ?_ | refine GoO.off rfl rfl ?_ | refine GoO.nil ?_)
 refine GoF.block ?_
 refine GoF.cut [(4, .b (resv l))] ?_ fun g => ?_
 ·refine GoF.seq (GoF.region ?_)
  refine GoO.bin (v := .b (eqL l [97, 108, 108])) rfl rfl rfl rfl rfl ?_
  repeat (first | refine GoO.go rfl rfl rfl rfl ?_ | refine GoO.cmp rfl rfl rfl rfl rfl ?_ | refine GoO.off rfl rfl ?_ | refine GoO.nil ?_)
  refine GoF.cnd rfl (fun h => ?_) (fun h => ?_)
  ·exact GoF.skip ⟨rfl, rfl, congrArg AV.b (by unfold resv; rw [h]; rfl), trivial⟩
  refine GoF.seq (GoF.region ?_)
  refine GoO.bin (v := .b (eqL l [115, 111, 109, 101])) rfl rfl rfl rfl rfl ?_
  repeat (first | refine GoO.go rfl rfl rfl rfl ?_ | refine GoO.cmp rfl rfl rfl rfl rfl ?_ | refine GoO.off rfl rfl ?_ | refine GoO.nil ?_)
  refine GoF.cnd rfl (fun h2 => ?_) (fun h2 => ?_)
  ·exact GoF.skip ⟨rfl, rfl, congrArg AV.b (by unfold resv; rw [h, h2]; rfl), trivial⟩
  refine GoF.seq (GoF.region ?_)
  refine GoO.bin (v := .b (eqL l [102, 97, 108, 115, 101])) rfl rfl rfl rfl rfl ?_
  repeat (first | refine GoO.go rfl rfl rfl rfl ?_ | refine GoO.cmp rfl rfl rfl rfl rfl ?_ | refine GoO.off rfl rfl ?_ | refine GoO.nil ?_)
  refine GoF.cnd rfl (fun h3 => ?_) (fun h3 => ?_)
  ·exact GoF.skip ⟨rfl, rfl, congrArg AV.b (by unfold resv; rw [h, h2, h3]; rfl), trivial⟩
  refine GoF.seq (GoF.region ?_)
  refine GoO.bin (v := .b (eqL l [110, 101, 120, 116])) rfl rfl rfl rfl rfl ?_
  repeat (first | refine GoO.go rfl rfl rfl rfl ?_ | refine GoO.cmp rfl rfl rfl rfl rfl ?_ | refine GoO.off rfl rfl ?_ | refine GoO.nil ?_)
  refine GoF.cnd rfl (fun h4 => ?_) (fun h4 => ?_)
  ·exact GoF.skip ⟨rfl, rfl, congrArg AV.b (by unfold resv; rw [h, h2, h3, h4]; rfl), trivial⟩
  refine GoF.seq (GoF.region ?_)
  refine GoO.bin (v := .b (eqL l [97, 108, 119, 97, 121, 115])) rfl rfl rfl rfl rfl ?_
  repeat (first | refine GoO.go rfl rfl rfl rfl ?_ | refine GoO.cmp rfl rfl rfl rfl rfl ?_ | refine GoO.off rfl rfl ?_ | refine GoO.nil ?_)
  refine GoF.cnd rfl (fun h5 => ?_) (fun h5 => ?_)
  ·exact GoF.skip ⟨rfl, rfl, congrArg AV.b (by unfold resv; rw [h, h2, h3, h4, h5]; rfl), trivial⟩
  refine GoF.region ?_
  refine GoO.bin (v := .b (eqL l [117, 110, 116, 105, 108])) rfl rfl rfl rfl rfl ?_
  repeat (first | refine GoO.go rfl rfl rfl rfl ?_ | refine GoO.cmp rfl rfl rfl rfl rfl ?_ | refine GoO.off rfl rfl ?_ | refine GoO.nil ?_)
  exact ⟨rfl, rfl, congrArg AV.b (by unfold resv; rw [h, h2, h3, h4, h5]; rfl), trivial⟩
 refine GoF.cnd rfl (fun h => ?_) (fun h => ?_)
 ·repeat (first | refine GoO.go rfl rfl rfl rfl ?_ | refine GoO.cmp rfl rfl rfl rfl rfl ?_ | refine GoO.off rfl rfl ?_ | refine GoO.nil ?_ | refine GoF.seq ?_ | refine GoF.region ?_ | refine GoF.skip ?_ | refine GoF.block ?_)
  exact GoF.ret ⟨rfl, by rw [h]; rfl⟩
 ·repeat (first | refine GoO.go rfl rfl rfl rfl ?_ | refine GoO.cmp rfl rfl rfl rfl rfl ?_ | refine GoO.off rfl rfl ?_ | refine GoO.nil ?_ | refine GoF.seq ?_ | refine GoF.region ?_ | refine GoF.skip ?_ | refine GoF.block ?_)
  exact GoF.ret ⟨rfl, by rw [h]; rfl⟩
include hf in
set_option maxHeartbeats 0 in
theorem checker1_go {g1 g2 : Nat} {p1 p2 : Nat → Bool} (h1 : ∀ c, K g1 [uB c] (.b (p1 c))) (e1 : b.ext g1 = 0 ∧ b.pure g1 = true) (h2 : ∀ c, K g2 [uB c] (.b (p2 c))) (e2 : b.ext g2 = 0 ∧ b.pure g2 = true) (hr : ∀ l, K n_reserved [.s l] (.b (resv l))) (er : b.ext n_reserved = 0 ∧ b.pure n_reserved = true)
  (hc : Here (b.envK K) n_checker1 c_checker1) (l : List Nat) (hl : l.length < 2 ^ 62) (i1 i2 : Nat) (σ : St) (hs1 : σ.get i1 = some (.cells [.f (.func g1) [] []])) (hs2 : σ.get i2 = some (.cells [.f (.func g2) [] []])) :
  GoesCall (b.envK K) 0 (.f (.func n_checker1) [] [.p (some (i1, 0)), .p (some (i2, 0))]) [.s l] σ (fun r σ' => r = .ok (.b (nameB p1 p2 l)) ∧ σ' = σ) := by
 refine GoesCall.code hc.e hc.p hc.f rfl rfl rfl rfl ?_
 refine GoF.seq (GoF.region ?_)
 repeat (first | refine GoO.go rfl rfl rfl rfl ?_ | refine GoO.cmp rfl rfl rfl rfl rfl ?_ | refine GoO.off rfl rfl ?_ | refine GoO.nil ?_)
 cases l with
 | nil =>
  refine GoF.seq (GoF.seq (GoF.draw rfl rfl ?_))
  repeat (first | refine GoP.go rfl rfl rfl rfl ?_ | refine GoP.cmp rfl rfl rfl rfl rfl ?_ | refine GoP.off rfl rfl ?_ | refine GoP.nil ?_)
  refine GoF.cnd rfl (fun _ => ?_) (fun h => by cases h)
  repeat (first | refine GoO.go rfl rfl rfl rfl ?_ | refine GoO.cmp rfl rfl rfl rfl rfl ?_ | refine GoO.off rfl rfl ?_ | refine GoO.nil ?_ | refine GoF.seq ?_ | refine GoF.region ?_ | refine GoF.skip ?_ | refine GoF.block ?_)
  exact GoF.ret ⟨rfl, rfl, rfl⟩
 | cons c t =>
  have hlt : t.length + 1 < 2 ^ 62 := hl
  have h01 : ¬ t.length + 1 < 1 := by omega
  refine GoF.seq ?_
  refine GoF.seq (GoF.draw rfl rfl ?_)
  refine GoP.go rfl rfl rfl rfl ?_
  refine GoP.go rfl rfl rfl rfl ?_
  refine GoP.bin (a := nI (t.length + 1)) (b := nI 1) (v := .b false) rfl rfl rfl rfl (bin_cmp (cfalse h01)) ?_
  refine GoP.go rfl rfl rfl rfl ?_
  refine GoP.go rfl rfl rfl rfl ?_
  refine GoP.go rfl rfl rfl rfl ?_
  by_cases h16 : 16 < t.length + 1
  ·refine GoP.bin (a := nI (t.length + 1)) (b := nI 16) (v := .b true) rfl rfl rfl rfl (bin_cmp (ctrue h16)) ?_
   repeat (first | refine GoP.go rfl rfl rfl rfl ?_ | refine GoP.cmp rfl rfl rfl rfl rfl ?_ | refine GoP.off rfl rfl ?_ | refine GoP.nil ?_)
   refine GoF.cnd rfl (fun _ => ?_) (fun h => by cases h)
   repeat (first | refine GoO.go rfl rfl rfl rfl ?_ | refine GoO.cmp rfl rfl rfl rfl rfl ?_ | refine GoO.off rfl rfl ?_ | refine GoO.nil ?_ | refine GoF.seq ?_ | refine GoF.region ?_ | refine GoF.skip ?_ | refine GoF.block ?_)
   refine GoF.ret ⟨rfl, ?_, rfl⟩
   show Ret.ok (.b false) = Ret.ok (.b (nameB p1 p2 (c :: t)))
   rw [nameB, decide_eq_false (by omega)]; rfl
  ·refine GoP.bin (a := nI (t.length + 1)) (b := nI 16) (v := .b false) rfl rfl rfl rfl (bin_cmp (cfalse h16)) ?_
   have h16' : t.length + 1 ≤ 16 := by omega
   repeat (first | refine GoP.go rfl rfl rfl rfl ?_ | refine GoP.cmp rfl rfl rfl rfl rfl ?_ | refine GoP.off rfl rfl ?_ | refine GoP.nil ?_)
   refine GoP.known hf er.1 er.2 (hr (c :: t)) rfl rfl rfl (snaps1 rfl) ?_
   cases hrs : resv (c :: t) with
   | true =>
    repeat (first | refine GoP.go rfl rfl rfl rfl ?_ | refine GoP.cmp rfl rfl rfl rfl rfl ?_ | refine GoP.off rfl rfl ?_ | refine GoP.nil ?_)
    refine GoF.cnd rfl (fun _ => ?_) (fun h => by cases h)
    repeat (first | refine GoO.go rfl rfl rfl rfl ?_ | refine GoO.cmp rfl rfl rfl rfl rfl ?_ | refine GoO.off rfl rfl ?_ | refine GoO.nil ?_ | refine GoF.seq ?_ | refine GoF.region ?_ | refine GoF.skip ?_ | refine GoF.block ?_)
    refine GoF.ret ⟨rfl, ?_, rfl⟩
    show Ret.ok (.b false) = Ret.ok (.b (nameB p1 p2 (c :: t)))
    rw [nameB, decide_eq_true h16', hrs]; rfl
   | false =>
    repeat (first | refine GoP.go rfl rfl rfl rfl ?_ | refine GoP.ld hs1 rfl rfl rfl rfl ?_ | refine GoP.cmp rfl rfl rfl rfl rfl ?_ | refine GoP.off rfl rfl ?_ | refine GoP.nil ?_)
    refine GoP.known hf e1.1 e1.2 (h1 c) rfl rfl rfl (snaps1 rfl) ?_
    cases hp1 : p1 c with
    | false =>
     repeat (first | refine GoP.go rfl rfl rfl rfl ?_ | refine GoP.cmp rfl rfl rfl rfl rfl ?_ | refine GoP.off rfl rfl ?_ | refine GoP.nil ?_)
     refine GoF.cnd rfl (fun _ => ?_) (fun h => by cases h)
     repeat (first | refine GoO.go rfl rfl rfl rfl ?_ | refine GoO.cmp rfl rfl rfl rfl rfl ?_ | refine GoO.off rfl rfl ?_ | refine GoO.nil ?_ | refine GoF.seq ?_ | refine GoF.region ?_ | refine GoF.skip ?_ | refine GoF.block ?_)
     refine GoF.ret ⟨rfl, ?_, rfl⟩
     show Ret.ok (.b false) = Ret.ok (.b (nameB p1 p2 (c :: t)))
     rw [nameB, decide_eq_true h16', hrs, hp1]; rfl
    | true =>
     have hres : nameB p1 p2 (c :: t) = t.all p2 := by rw [nameB, decide_eq_true h16', hrs, hp1]; rfl
     rw [hres]
     repeat (first | refine GoP.go rfl rfl rfl rfl ?_ | refine GoP.cmp rfl rfl rfl rfl rfl ?_ | refine GoP.off rfl rfl ?_ | refine GoP.nil ?_)
     refine GoF.cnd rfl (fun h => by cases h) (fun _ => ?_)
     refine GoF.skip (GoF.seq (GoF.seq (GoF.region ?_)))
     repeat (first | refine GoO.go rfl rfl rfl rfl ?_ | refine GoO.cmp rfl rfl rfl rfl rfl ?_ | refine GoO.off rfl rfl ?_ | refine GoO.nil ?_)
     refine GoF.block ?_
     refine GoF.loop (fun m f σ' => σ' = σ ∧ ∃ i, i + m = t.length + 1 ∧ (((c :: t).drop i).all p2) = t.all p2 ∧ sat [(0, .s (c :: t)), (1, .p (some (i1, 0))), (2, .p (some (i2, 0))), (5, nI i)] f) ?_ t.length ⟨rfl, 1, by omega, rfl, rfl, rfl, rfl, rfl, trivial⟩
     intro m g σ' ⟨e, i, hi, hall, hL⟩
     rw [e]; clear e σ'
     refine GoF.norm _ hL fun g => ?_
     clear hL
     refine GoF.seq (GoF.seq (GoF.region ?_))
     refine GoO.go rfl rfl rfl rfl ?_
     refine GoO.go rfl rfl rfl rfl ?_
     refine GoO.go rfl rfl rfl rfl ?_
     refine GoO.bin (a := nI i) (b := nI (t.length + 1)) (v := .b (decide (i < t.length + 1))) rfl rfl rfl rfl (bin_cmp rfl) ?_
     repeat (first | refine GoO.go rfl rfl rfl rfl ?_ | refine GoO.cmp rfl rfl rfl rfl rfl ?_ | refine GoO.off rfl rfl ?_ | refine GoO.nil ?_)
     refine GoF.cnd rfl (fun ht => ?_) (fun hf => ?_)
     ·have hit : i < t.length + 1 := of_decide_eq_true ht
      have hil : i < (c :: t).length := hit
      rw [List.drop_eq_getElem_cons hil] at hall
      refine GoF.skip (GoF.seq (GoF.block (GoF.seq (GoF.draw rfl rfl ?_))))
      repeat (first | refine GoP.go rfl rfl rfl rfl ?_ | refine GoP.ld hs2 rfl rfl rfl rfl ?_ | refine GoP.cmp rfl rfl rfl rfl rfl ?_ | refine GoP.off rfl rfl ?_ | refine GoP.nil ?_)
      refine GoP.val rfl rfl (op_istr (j := i) rfl rfl (nth_get hil)) ?_
      refine GoP.known hf e2.1 e2.2 (h2 _) rfl rfl rfl (snaps1 rfl) ?_
      cases hp2 : p2 (c :: t)[i] with
      | true =>
       rw [List.all_cons, hp2, Bool.true_and] at hall
       repeat (first | refine GoP.go rfl rfl rfl rfl ?_ | refine GoP.cmp rfl rfl rfl rfl rfl ?_ | refine GoP.off rfl rfl ?_ | refine GoP.nil ?_)
       refine GoF.cnd rfl (fun h => by cases h) (fun _ => ?_)
       refine GoF.skip ?_
       refine GoF.region ?_
       refine GoO.go rfl rfl rfl rfl ?_
       refine GoO.bin (a := nI i) (b := nI 1) rfl rfl rfl rfl (bin_add (by omega)) ?_
       repeat (first | refine GoO.go rfl rfl rfl rfl ?_ | refine GoO.cmp rfl rfl rfl rfl rfl ?_ | refine GoO.off rfl rfl ?_ | refine GoO.nil ?_)
       exact ⟨m - 1, by omega, rfl, i + 1, by omega, hall, rfl, rfl, rfl, rfl, trivial⟩
      | false =>
       rw [List.all_cons, hp2, Bool.false_and] at hall
       repeat (first | refine GoP.go rfl rfl rfl rfl ?_ | refine GoP.cmp rfl rfl rfl rfl rfl ?_ | refine GoP.off rfl rfl ?_ | refine GoP.nil ?_)
       refine GoF.cnd rfl (fun _ => ?_) (fun h => by cases h)
       repeat (first | refine GoO.go rfl rfl rfl rfl ?_ | refine GoO.cmp rfl rfl rfl rfl rfl ?_ | refine GoO.off rfl rfl ?_ | refine GoO.nil ?_ | refine GoF.seq ?_ | refine GoF.region ?_ | refine GoF.skip ?_ | refine GoF.block ?_)
       exact GoF.ret ⟨rfl, by rw [← hall]; rfl, rfl⟩
     ·have hge : ¬ i < t.length + 1 := of_decide_eq_false hf
      rw [List.drop_of_length_le (by show t.length + 1 ≤ i; omega)] at hall
      refine GoF.exit ?_
      repeat (first | refine GoO.go rfl rfl rfl rfl ?_ | refine GoO.cmp rfl rfl rfl rfl rfl ?_ | refine GoO.off rfl rfl ?_ | refine GoO.nil ?_ | refine GoF.seq ?_ | refine GoF.region ?_ | refine GoF.skip ?_ | refine GoF.block ?_)
      exact GoF.ret ⟨rfl, by rw [← hall]; rfl, rfl⟩
theorem checker_go (hc : Here (b.envK K) n_checker c_checker) (g1 g2 : Nat) (σ : St) (k : Nat) (hk : σ.next = k) : GoesCall (b.envK K) 0 (.f (.func n_checker) [] []) [.f (.func g1) [] [], .f (.func g2) [] []] σ
  (fun r σ' => r = .ok (.f (.func n_checker1) [] [.p (some (k, 0)), .p (some (k + 1, 0))]) ∧ σ'.get k = some (.cells [.f (.func g1) [] []]) ∧ σ'.get (k + 1) = some (.cells [.f (.func g2) [] []])) := by
 refine GoesCall.code hc.e hc.p hc.f rfl rfl rfl rfl ?_
 refine GoF.seq (GoF.region (GoO.box (v := .f (.func g1) [] []) k hk rfl rfl rfl rfl rfl fun σ1 hn1 h1 _ => GoO.box (v := .f (.func g2) [] []) (k + 1) hn1 rfl rfl rfl rfl rfl fun σ2 hn2 h2 k2 => ?_))
 replace h1 := k2 _ _ h1
 repeat (first | refine GoO.go rfl rfl rfl rfl ?_ | refine GoO.cmp rfl rfl rfl rfl rfl ?_ | refine GoO.off rfl rfl ?_ | refine GoO.nil ?_ | refine GoF.seq ?_ | refine GoF.region ?_ | refine GoF.skip ?_ | refine GoF.block ?_)
 exact GoF.ret ⟨rfl, rfl, h1, h2⟩
def prefB : List Nat → List Nat → Bool
 | _, [] => true
 | [], _ :: _ => false
 | a :: l, b :: m => Nat.beq b a && prefB l m
theorem eqL_comm : ∀ (a b : List Nat), eqL a b = eqL b a
 | [], [] => rfl
 | [], _ :: _ => rfl
 | _ :: _, [] => rfl
 | x :: a, y :: b => by
  show cond (Nat.beq x y) (eqL a b) false = cond (Nat.beq y x) (eqL b a) false
  have : Nat.beq x y = Nat.beq y x := by
   rw [Bool.eq_iff_iff, Nat.beq_eq, Nat.beq_eq]; exact eq_comm
  rw [this, eqL_comm a b]
theorem prefB_take : ∀ (a b : List Nat), b.length ≤ a.length → eqL (a.take b.length) b = prefB a b
 | [], [], _ => rfl
 | _ :: _, [], _ => rfl
 | [], _ :: _, h => by simp at h
 | x :: a, y :: b, h => by
  show cond (Nat.beq x y) (eqL (a.take b.length) b) false = (Nat.beq y x && prefB a b)
  have e : Nat.beq x y = Nat.beq y x := by
   rw [Bool.eq_iff_iff, Nat.beq_eq, Nat.beq_eq]; exact eq_comm
  rw [e, prefB_take a b (by simpa using h)]
  cases Nat.beq y x <;> rfl
theorem prefB_short : ∀ (a b : List Nat), a.length < b.length → prefB a b = false
 | [], [], h => by simp at h
 | _ :: _, [], h => by simp at h
 | [], _ :: _, _ => rfl
 | x :: a, y :: b, h => by
  show (Nat.beq y x && prefB a b) = false
  rw [prefB_short a b (by simpa using h)]; simp
theorem slHasPrefix_go (x y : List Nat) (body : ACode) (hb : c_slHasPrefix.body = some body) : GoF (b.envK K) 18 body (argF [.s x, .s y]) ⟨.nil, 0⟩ (Done 4 (.b (prefB x y))) := by
 cases hb
 refine GoF.seq (GoF.region ?_)
 repeat (first | refine GoO.go rfl rfl rfl rfl ?_ | refine GoO.cmp rfl rfl rfl rfl rfl ?_ | refine GoO.off rfl rfl ?_ | refine GoO.nil ?_)
 refine GoF.seq (GoF.region ?_)
 repeat (first | refine GoO.go rfl rfl rfl rfl ?_ | refine GoO.off rfl rfl ?_ | refine GoO.nil ?_)
 by_cases h : y.length ≤ x.length
 ·refine GoO.bin (a := nI x.length) (b := nI y.length) (v := .b true) rfl rfl rfl rfl (bin_cmp (ctrue h)) ?_
  repeat (first | refine GoO.go rfl rfl rfl rfl ?_ | refine GoO.off rfl rfl ?_ | refine GoO.nil ?_)
  refine GoO.val rfl rfl (op_sstr (l := 0) (h := y.length) rfl rfl rfl (by omega) h) ?_
  repeat (first | refine GoO.go rfl rfl rfl rfl ?_ | refine GoO.off rfl rfl ?_ | refine GoO.nil ?_)
  refine GoO.bin (a := .s (x.take y.length)) (b := .s y) (v := .b (eqL (x.take y.length) y)) rfl rfl rfl rfl rfl ?_
  repeat (first | refine GoO.go rfl rfl rfl rfl ?_ | refine GoO.cmp rfl rfl rfl rfl rfl ?_ | refine GoO.off rfl rfl ?_ | refine GoO.nil ?_)
  refine GoF.ret ⟨rfl, ?_⟩
  show some (AV.b (eqL (x.take y.length) y)) = _
  rw [prefB_take x y h]
 ·refine GoO.bin (a := nI x.length) (b := nI y.length) (v := .b false) rfl rfl rfl rfl (bin_cmp (cfalse h)) ?_
  repeat (first | refine GoO.go rfl rfl rfl rfl ?_ | refine GoO.cmp rfl rfl rfl rfl rfl ?_ | refine GoO.off rfl rfl ?_ | refine GoO.nil ?_)
  refine GoF.ret ⟨rfl, ?_⟩
  show some (AV.b false) = _
  rw [prefB_short x y (by omega)]
include hf in
theorem HasPrefix_go (hp : ∀ x y, K n_slHasPrefix [.s x, .s y] (.b (prefB x y))) (ep : b.ext n_slHasPrefix = 0 ∧ b.pure n_slHasPrefix = true) (x y : List Nat) (body : ACode) (hb : c_HasPrefix.body = some body) : GoF (b.envK K) 8 body (argF [.s x, .s y]) ⟨.nil, 0⟩ (Done 4 (.b (prefB x y))) := by
 cases hb
 refine GoF.seq (GoF.region ?_)
 repeat (first | refine GoO.go rfl rfl rfl rfl ?_ | refine GoO.cmp rfl rfl rfl rfl rfl ?_ | refine GoO.off rfl rfl ?_ | refine GoO.nil ?_)
 refine GoF.seq (GoF.region ?_)
 repeat (first | refine GoO.go rfl rfl rfl rfl ?_ | refine GoO.cmp rfl rfl rfl rfl rfl ?_ | refine GoO.off rfl rfl ?_ | refine GoO.nil ?_)
 refine GoO.known hf ep.1 ep.2 (hp x y) rfl rfl rfl (snaps2 rfl rfl) ?_
 repeat (first | refine GoO.go rfl rfl rfl rfl ?_ | refine GoO.cmp rfl rfl rfl rfl rfl ?_ | refine GoO.off rfl rfl ?_ | refine GoO.nil ?_)
 exact GoF.ret ⟨rfl, rfl⟩
include hf in
theorem Predicate_go (h1 : ∀ c, K n_capital [uB c] (.b (isCap c))) (e1 : b.ext n_capital = 0 ∧ b.pure n_capital = true) (h2 : ∀ c, K n_alnum [uB c] (.b (isAl c))) (e2 : b.ext n_alnum = 0 ∧ b.pure n_alnum = true) (hr : ∀ l, K n_reserved [.s l] (.b (resv l))) (er : b.ext n_reserved = 0 ∧ b.pure n_reserved = true)
  (hc1 : Here (b.envK K) n_checker1 c_checker1) (hc : Here (b.envK K) n_checker c_checker) (l : List Nat) (hl : l.length < 2 ^ 62) (body : ACode) (hb : c_Predicate.body = some body) : GoF (b.envK K) 6 body (argF [.s l]) ⟨.nil, 0⟩ (Done 2 (.b (isPred l))) := by
 cases hb
 refine GoF.seq (GoF.region ?_)
 repeat (first | refine GoO.go rfl rfl rfl rfl ?_ | refine GoO.cmp rfl rfl rfl rfl rfl ?_ | refine GoO.off rfl rfl ?_ | refine GoO.nil ?_)
 refine GoF.seq (GoF.region ?_)
 refine GoO.callG rfl rfl rfl (checker_go hc n_capital n_alnum ⟨.nil, 0⟩ 0 rfl) fun r σ ⟨e, a1, a2⟩ => ⟨_, e, ?_⟩
 repeat (first | refine GoO.go rfl rfl rfl rfl ?_ | refine GoO.cmp rfl rfl rfl rfl rfl ?_ | refine GoO.off rfl rfl ?_ | refine GoO.nil ?_)
 refine GoO.callG rfl rfl rfl (checker1_go hf h1 e1 h2 e2 hr er hc1 l hl 0 1 σ a1 a2) fun r τ ⟨e, e3⟩ => ⟨_, e, ?_⟩
 repeat (first | refine GoO.go rfl rfl rfl rfl ?_ | refine GoO.cmp rfl rfl rfl rfl rfl ?_ | refine GoO.off rfl rfl ?_ | refine GoO.nil ?_ | refine GoF.seq ?_ | refine GoF.region ?_ | refine GoF.skip ?_ | refine GoF.block ?_)
 exact GoF.ret ⟨rfl, rfl⟩
include hf in
theorem Variable_go (h1 : ∀ c, K n_Variable1 [uB c] (.b (isVar1 c))) (e1 : b.ext n_Variable1 = 0 ∧ b.pure n_Variable1 = true) (h2 : ∀ c, K n_digit [uB c] (.b (isDig c))) (e2 : b.ext n_digit = 0 ∧ b.pure n_digit = true) (hr : ∀ l, K n_reserved [.s l] (.b (resv l))) (er : b.ext n_reserved = 0 ∧ b.pure n_reserved = true)
  (hc1 : Here (b.envK K) n_checker1 c_checker1) (hc : Here (b.envK K) n_checker c_checker) (l : List Nat) (hl : l.length < 2 ^ 62) (body : ACode) (hb : c_Variable.body = some body) : GoF (b.envK K) 6 body (argF [.s l]) ⟨.nil, 0⟩ (Done 2 (.b (isVar l))) := by
 cases hb
 refine GoF.seq (GoF.region ?_)
 repeat (first | refine GoO.go rfl rfl rfl rfl ?_ | refine GoO.cmp rfl rfl rfl rfl rfl ?_ | refine GoO.off rfl rfl ?_ | refine GoO.nil ?_)
 refine GoF.seq (GoF.region ?_)
 refine GoO.callG rfl rfl rfl (checker_go hc n_Variable1 n_digit ⟨.nil, 0⟩ 0 rfl) fun r σ ⟨e, a1, a2⟩ => ⟨_, e, ?_⟩
 repeat (first | refine GoO.go rfl rfl rfl rfl ?_ | refine GoO.cmp rfl rfl rfl rfl rfl ?_ | refine GoO.off rfl rfl ?_ | refine GoO.nil ?_)
 refine GoO.callG rfl rfl rfl (checker1_go hf h1 e1 h2 e2 hr er hc1 l hl 0 1 σ a1 a2) fun r τ ⟨e, e3⟩ => ⟨_, e, ?_⟩
 repeat (first | refine GoO.go rfl rfl rfl rfl ?_ | refine GoO.cmp rfl rfl rfl rfl rfl ?_ | refine GoO.off rfl rfl ?_ | refine GoO.nil ?_ | refine GoF.seq ?_ | refine GoF.region ?_ | refine GoF.skip ?_ | refine GoF.block ?_)
 exact GoF.ret ⟨rfl, rfl⟩
include hf in
theorem Function_go (h1 : ∀ c, K n_Function1 [uB c] (.b (isFun1 c))) (e1 : b.ext n_Function1 = 0 ∧ b.pure n_Function1 = true) (h2 : ∀ c, K n_alnum [uB c] (.b (isAl c))) (e2 : b.ext n_alnum = 0 ∧ b.pure n_alnum = true) (hr : ∀ l, K n_reserved [.s l] (.b (resv l))) (er : b.ext n_reserved = 0 ∧ b.pure n_reserved = true)
  (hc1 : Here (b.envK K) n_checker1 c_checker1) (hc : Here (b.envK K) n_checker c_checker) (l : List Nat) (hl : l.length < 2 ^ 62) (body : ACode) (hb : c_Function.body = some body) : GoF (b.envK K) 6 body (argF [.s l]) ⟨.nil, 0⟩ (Done 2 (.b (isFun l))) := by
 cases hb
 refine GoF.seq (GoF.region ?_)
 repeat (first | refine GoO.go rfl rfl rfl rfl ?_ | refine GoO.cmp rfl rfl rfl rfl rfl ?_ | refine GoO.off rfl rfl ?_ | refine GoO.nil ?_)
 refine GoF.seq (GoF.region ?_)
 refine GoO.callG rfl rfl rfl (checker_go hc n_Function1 n_alnum ⟨.nil, 0⟩ 0 rfl) fun r σ ⟨e, a1, a2⟩ => ⟨_, e, ?_⟩
 repeat (first | refine GoO.go rfl rfl rfl rfl ?_ | refine GoO.cmp rfl rfl rfl rfl rfl ?_ | refine GoO.off rfl rfl ?_ | refine GoO.nil ?_)
 refine GoO.callG rfl rfl rfl (checker1_go hf h1 e1 h2 e2 hr er hc1 l hl 0 1 σ a1 a2) fun r τ ⟨e, e3⟩ => ⟨_, e, ?_⟩
 repeat (first | refine GoO.go rfl rfl rfl rfl ?_ | refine GoO.cmp rfl rfl rfl rfl rfl ?_ | refine GoO.off rfl rfl ?_ | refine GoO.nil ?_ | refine GoF.seq ?_ | refine GoF.region ?_ | refine GoF.skip ?_ | refine GoF.block ?_)
 exact GoF.ret ⟨rfl, rfl⟩
include hf in
theorem formMeta_go (h1 : ∀ l, l.length < 2 ^ 62 → K n_Predicate [.s l] (.b (isPred l))) (e1 : b.ext n_Predicate = 0 ∧ b.pure n_Predicate = true) (hp : ∀ x y, y.length < 2 ^ 62 → x.length < 2 ^ 62 → K n_HasPrefix [.s x, .s y] (.b (prefB x y))) (ep : b.ext n_HasPrefix = 0 ∧ b.pure n_HasPrefix = true) (l : List Nat) (hl : l.length < 2 ^ 62) (body : ACode) (hb : c_formMeta.body = some body) :
  GoF (b.envK K) 15 body (argF [.s l]) ⟨.nil, 0⟩ (Done 2 (.b (isFMeta l))) := by
 cases hb
 refine GoF.seq (GoF.region ?_)
 repeat (first | refine GoO.go rfl rfl rfl rfl ?_ | refine GoO.cmp rfl rfl rfl rfl rfl ?_ | refine GoO.off rfl rfl ?_ | refine GoO.nil ?_)
 refine GoF.seq (GoF.region ?_)
 refine GoO.go rfl rfl rfl rfl ?_
 refine GoO.go rfl rfl rfl rfl ?_
 by_cases h16 : l.length ≤ 16
 ·refine GoO.bin (a := nI l.length) (b := nI 16) (v := .b true) rfl rfl rfl rfl (bin_cmp (ctrue h16)) ?_
  repeat (first | refine GoO.go rfl rfl rfl rfl ?_ | refine GoO.cmp rfl rfl rfl rfl rfl ?_ | refine GoO.off rfl rfl ?_ | refine GoO.nil ?_)
  refine GoO.known hf ep.1 ep.2 (hp l [63] (by decide) hl) rfl rfl rfl (snaps2 rfl rfl) ?_
  cases l with
  | nil =>
   repeat (first | refine GoO.go rfl rfl rfl rfl ?_ | refine GoO.cmp rfl rfl rfl rfl rfl ?_ | refine GoO.off rfl rfl ?_ | refine GoO.nil ?_)
   exact GoF.ret ⟨rfl, rfl⟩
  | cons c t =>
   have h16' : t.length + 1 ≤ 16 := h16
   by_cases hc : c = 63
   ·subst hc
    rw [show prefB (63 :: t) [63] = true from by simp [prefB]]
    repeat (first | refine GoO.go rfl rfl rfl rfl ?_ | refine GoO.cmp rfl rfl rfl rfl rfl ?_ | refine GoO.off rfl rfl ?_ | refine GoO.nil ?_)
    refine GoO.val rfl rfl (op_sstr (s := 63 :: t) (l := 1) (h := t.length + 1) rfl rfl rfl (by omega) (Nat.le_refl _)) ?_
    rw [show ((63 :: t).drop 1).take (t.length + 1 - 1) = t from by simp]
    repeat (first | refine GoO.go rfl rfl rfl rfl ?_ | refine GoO.cmp rfl rfl rfl rfl rfl ?_ | refine GoO.off rfl rfl ?_ | refine GoO.nil ?_)
    refine GoO.known hf e1.1 e1.2 (h1 t (by omega)) rfl rfl rfl (snaps1 rfl) ?_
    repeat (first | refine GoO.go rfl rfl rfl rfl ?_ | refine GoO.cmp rfl rfl rfl rfl rfl ?_ | refine GoO.off rfl rfl ?_ | refine GoO.nil ?_)
    refine GoF.ret ⟨rfl, ?_⟩
    show some (AV.b (isPred t)) = some (AV.b (decide (t.length + 1 ≤ 16) && (decide (63 = 63) && isPred t)))
    rw [decide_eq_true h16']; rfl
   ·have hpf : prefB (c :: t) [63] = false := by
     have hb : Nat.beq 63 c = false := by cases hb : Nat.beq 63 c with
      | false => rfl
      | true => exact absurd (Nat.eq_of_beq_eq_true hb).symm hc
     simp only [prefB, hb, Bool.false_and]
    rw [hpf]
    repeat (first | refine GoO.go rfl rfl rfl rfl ?_ | refine GoO.cmp rfl rfl rfl rfl rfl ?_ | refine GoO.off rfl rfl ?_ | refine GoO.nil ?_)
    refine GoF.ret ⟨rfl, ?_⟩
    show some (AV.b false) = some (AV.b (decide (t.length + 1 ≤ 16) && (decide (c = 63) && isPred t)))
    rw [decide_eq_false hc]; simp
 ·refine GoO.bin (a := nI l.length) (b := nI 16) (v := .b false) rfl rfl rfl rfl (bin_cmp (cfalse h16)) ?_
  repeat (first | refine GoO.go rfl rfl rfl rfl ?_ | refine GoO.cmp rfl rfl rfl rfl rfl ?_ | refine GoO.off rfl rfl ?_ | refine GoO.nil ?_)
  refine GoF.ret ⟨rfl, ?_⟩
  show some (AV.b false) = some (AV.b (isFMeta l))
  cases l with
  | nil => rfl
  | cons c t =>
   show some (AV.b false) = some (AV.b (decide (t.length + 1 ≤ 16) && (decide (c = 63) && isPred t)))
   rw [decide_eq_false (by simpa using h16)]; rfl
include hf in
theorem termMeta_go (h1 : ∀ l, l.length < 2 ^ 62 → K n_Function [.s l] (.b (isFun l))) (e1 : b.ext n_Function = 0 ∧ b.pure n_Function = true) (hp : ∀ x y, y.length < 2 ^ 62 → x.length < 2 ^ 62 → K n_HasPrefix [.s x, .s y] (.b (prefB x y))) (ep : b.ext n_HasPrefix = 0 ∧ b.pure n_HasPrefix = true) (l : List Nat) (hl : l.length < 2 ^ 62) (body : ACode) (hb : c_termMeta.body = some body) :
  GoF (b.envK K) 15 body (argF [.s l]) ⟨.nil, 0⟩ (Done 2 (.b (isTMeta l))) := by
 cases hb
 refine GoF.seq (GoF.region ?_)
 repeat (first | refine GoO.go rfl rfl rfl rfl ?_ | refine GoO.cmp rfl rfl rfl rfl rfl ?_ | refine GoO.off rfl rfl ?_ | refine GoO.nil ?_)
 refine GoF.seq (GoF.region ?_)
 refine GoO.go rfl rfl rfl rfl ?_
 refine GoO.go rfl rfl rfl rfl ?_
 by_cases h16 : l.length ≤ 16
 ·refine GoO.bin (a := nI l.length) (b := nI 16) (v := .b true) rfl rfl rfl rfl (bin_cmp (ctrue h16)) ?_
  repeat (first | refine GoO.go rfl rfl rfl rfl ?_ | refine GoO.cmp rfl rfl rfl rfl rfl ?_ | refine GoO.off rfl rfl ?_ | refine GoO.nil ?_)
  refine GoO.known hf ep.1 ep.2 (hp l [63] (by decide) hl) rfl rfl rfl (snaps2 rfl rfl) ?_
  cases l with
  | nil =>
   repeat (first | refine GoO.go rfl rfl rfl rfl ?_ | refine GoO.cmp rfl rfl rfl rfl rfl ?_ | refine GoO.off rfl rfl ?_ | refine GoO.nil ?_)
   exact GoF.ret ⟨rfl, rfl⟩
  | cons c t =>
   have h16' : t.length + 1 ≤ 16 := h16
   by_cases hc : c = 63
   ·subst hc
    rw [show prefB (63 :: t) [63] = true from by simp [prefB]]
    repeat (first | refine GoO.go rfl rfl rfl rfl ?_ | refine GoO.cmp rfl rfl rfl rfl rfl ?_ | refine GoO.off rfl rfl ?_ | refine GoO.nil ?_)
    refine GoO.val rfl rfl (op_sstr (s := 63 :: t) (l := 1) (h := t.length + 1) rfl rfl rfl (by omega) (Nat.le_refl _)) ?_
    rw [show ((63 :: t).drop 1).take (t.length + 1 - 1) = t from by simp]
    repeat (first | refine GoO.go rfl rfl rfl rfl ?_ | refine GoO.cmp rfl rfl rfl rfl rfl ?_ | refine GoO.off rfl rfl ?_ | refine GoO.nil ?_)
    refine GoO.known hf e1.1 e1.2 (h1 t (by omega)) rfl rfl rfl (snaps1 rfl) ?_
    repeat (first | refine GoO.go rfl rfl rfl rfl ?_ | refine GoO.cmp rfl rfl rfl rfl rfl ?_ | refine GoO.off rfl rfl ?_ | refine GoO.nil ?_)
    refine GoF.ret ⟨rfl, ?_⟩
    show some (AV.b (isFun t)) = some (AV.b (decide (t.length + 1 ≤ 16) && (decide (63 = 63) && isFun t)))
    rw [decide_eq_true h16']; rfl
   ·have hpf : prefB (c :: t) [63] = false := by
     have hb : Nat.beq 63 c = false := by cases hb : Nat.beq 63 c with
      | false => rfl
      | true => exact absurd (Nat.eq_of_beq_eq_true hb).symm hc
     simp only [prefB, hb, Bool.false_and]
    rw [hpf]
    repeat (first | refine GoO.go rfl rfl rfl rfl ?_ | refine GoO.cmp rfl rfl rfl rfl rfl ?_ | refine GoO.off rfl rfl ?_ | refine GoO.nil ?_)
    refine GoF.ret ⟨rfl, ?_⟩
    show some (AV.b false) = some (AV.b (decide (t.length + 1 ≤ 16) && (decide (c = 63) && isFun t)))
    rw [decide_eq_false hc]; simp
 ·refine GoO.bin (a := nI l.length) (b := nI 16) (v := .b false) rfl rfl rfl rfl (bin_cmp (cfalse h16)) ?_
  repeat (first | refine GoO.go rfl rfl rfl rfl ?_ | refine GoO.cmp rfl rfl rfl rfl rfl ?_ | refine GoO.off rfl rfl ?_ | refine GoO.nil ?_)
  refine GoF.ret ⟨rfl, ?_⟩
  show some (AV.b false) = some (AV.b (isTMeta l))
  cases l with
  | nil => rfl
  | cons c t =>
   show some (AV.b false) = some (AV.b (decide (t.length + 1 ≤ 16) && (decide (c = 63) && isFun t)))
   rw [decide_eq_false (by simpa using h16)]; rfl
end
end Go.Lyc
end
noncomputable section
namespace Go.Lyc
open Go.RowKit Go.Lyc.T
def nodeJ (deep depth : Nat) : Nat → Option Nat
 | 0 => none
 | L + 1 => if depth ≤ deep then some L else none
mutual
def termJ (sch : Bool) (deep : Nat) : Tm → Nat → Nat → Option Nat
 | .mk v n none, depth, L => match nodeJ deep depth L with
  | none => none
  | some L => if v then (if (isVar n || (sch && isTMeta n)) = true then some L else none) else (if isFun n = true then some L else none)
 | .mk v n (some l), depth, L => match nodeJ deep depth L with
  | none => none
  | some L => if v then (if l.length = 0 ∧ (isVar n || (sch && isTMeta n)) = true then some L else none) else (if l.length ≤ 4 ∧ isFun n = true then termsJ sch deep l (depth + 1) L else none)
def termsJ (sch : Bool) (deep : Nat) : List Tm → Nat → Nat → Option Nat
 | [], _, L => some L
 | t :: l, depth, L => match termJ sch deep t depth L with
  | none => none
  | some L => termsJ sch deep l depth L
end
theorem termJ_eq (sch : Bool) (deep : Nat) (t : Tm) (depth L : Nat) : termJ sch deep t depth L = match nodeJ deep depth L with
  | none => none
  | some L => if t.var then (if t.args.length = 0 ∧ (isVar t.name || (sch && isTMeta t.name)) = true then some L else none) else (if t.args.length ≤ 4 ∧ isFun t.name = true then termsJ sch deep t.args (depth + 1) L else none) := by
 obtain ⟨v, n, a⟩ := t
 cases a with
 | none =>
  rw [termJ]
  cases nodeJ deep depth L with
  | none => rfl
  | some L =>
   show (if v then _ else _) = (if v then (if (0 = 0 ∧ _) then _ else _) else (if 0 ≤ 4 ∧ isFun n = true then termsJ sch deep [] (depth + 1) L else none))
   simp [termsJ, Tm.name]
 | some l => rw [termJ]; rfl
def rowR (op : Nat) : Bool := decide (1 ≤ op) && decide (op ≤ 14)
def rowS (op : Nat) : Bool := decide (1 ≤ op) && decide (op ≤ 16)
def rowN (op : Nat) : Nat := if op = 1 then 1 else if op = 8 ∨ op = 9 then 2 else if op = 15 ∨ op = 16 then 3 else 0
def rowA (op : Nat) : Nat := if op = 1 then 4 else if op = 16 then 2 else 0
def rowB (op : Nat) : Nat := if op = 3 ∨ op = 8 ∨ op = 9 ∨ op = 10 ∨ op = 11 ∨ op = 12 ∨ op = 13 then 1 else if op = 4 ∨ op = 5 ∨ op = 6 ∨ op = 7 ∨ op = 14 then 2 else 0
def rowC (op : Nat) : List AV := [.b (rowR op), .b (rowS op), .i .u8 (Int.ofNat (rowN op)), nI (rowA op), nI (rowB op)]
def rowsL : List AV := (List.range 17).flatMap rowC
theorem rows_ld {op : Nat} (h : op < 17) : takeSh (some 5) (rowsL.drop (op * 5)) = some (.ag (rowC op)) := by
 have : op = 0 ∨ op = 1 ∨ op = 2 ∨ op = 3 ∨ op = 4 ∨ op = 5 ∨ op = 6 ∨ op = 7 ∨ op = 8 ∨ op = 9 ∨ op = 10 ∨ op = 11 ∨ op = 12 ∨ op = 13 ∨ op = 14 ∨ op = 15 ∨ op = 16 := by omega
 rcases this with rfl | rfl | rfl | rfl | rfl | rfl | rfl | rfl | rfl | rfl | rfl | rfl | rfl | rfl | rfl | rfl | rfl <;> rfl
def namedB (sort : Nat) (s : List Nat) : Bool := if sort = 1 then isPred s else if sort = 2 then isVar s else if sort = 3 then isFMeta s else eqL s []
def instB (l : List Tm) : Bool := match l with | [a, b] => a.var && (isVar a.name && (b.var && isTMeta b.name)) | _ => false
mutual
def formJ (sch : Bool) (deep : Nat) : Fm → Nat → Nat → Option Nat
 | .mk op n a none, depth, L => match nodeJ deep depth L with
  | none => none
  | some L => if op < 17 ∧ (rowR op || (sch && rowS op)) = true ∧ namedB (rowN op) n = true ∧ (a.getD []).length ≤ rowA op ∧ 0 = rowB op ∧ (op = 16 → instB (a.getD []) = true) then termsJ sch deep (a.getD []) (depth + 1) L else none
 | .mk op n a (some l), depth, L => match nodeJ deep depth L with
  | none => none
  | some L => if op < 17 ∧ (rowR op || (sch && rowS op)) = true ∧ namedB (rowN op) n = true ∧ (a.getD []).length ≤ rowA op ∧ l.length = rowB op ∧ (op = 16 → instB (a.getD []) = true) then
    match termsJ sch deep (a.getD []) (depth + 1) L with
    | none => none
    | some L => formsJ sch deep l (depth + 1) L
   else none
def formsJ (sch : Bool) (deep : Nat) : List Fm → Nat → Nat → Option Nat
 | [], _, L => some L
 | t :: l, depth, L => match formJ sch deep t depth L with
  | none => none
  | some L => formsJ sch deep l depth L
end
theorem formJ_eq (sch : Bool) (deep : Nat) (f : Fm) (depth L : Nat) : formJ sch deep f depth L = match nodeJ deep depth L with
  | none => none
  | some L => if f.op < 17 ∧ (rowR f.op || (sch && rowS f.op)) = true ∧ namedB (rowN f.op) f.name = true ∧ f.args.length ≤ rowA f.op ∧ f.sub.length = rowB f.op ∧ (f.op = 16 → instB f.args = true) then
    match termsJ sch deep f.args (depth + 1) L with
    | none => none
    | some L => formsJ sch deep f.sub (depth + 1) L
   else none := by
 obtain ⟨op, n, a, s⟩ := f
 cases s with
 | none =>
  rw [formJ]
  cases nodeJ deep depth L with
  | none => rfl
  | some L =>
   show (if op < 17 ∧ _ then termsJ sch deep (a.getD []) (depth + 1) L else none) = (if op < 17 ∧ _ then (match termsJ sch deep (a.getD []) (depth + 1) L with | none => none | some L => formsJ sch deep [] (depth + 1) L) else none)
   have : (match termsJ sch deep (a.getD []) (depth + 1) L with | none => none | some L => formsJ sch deep [] (depth + 1) L) = termsJ sch deep (a.getD []) (depth + 1) L := by
    cases termsJ sch deep (a.getD []) (depth + 1) L with
    | none => rfl
    | some L => show formsJ sch deep [] (depth + 1) L = some L; rw [formsJ]
   rw [this]; rfl
 | some l => rw [formJ]; rfl
def rightB (f : Fm) : Bool := (formJ false 40 f 1 400).isSome
theorem op_conv {ev : AOpd → Option AV} {σ : St} {k : IntKind} {x : AOpd} {a : Nat} (h1 : ev x = some (.i k (Int.ofNat a))) (h : a < 2 ^ 63) : opx 0 ev σ (.conv .i64 x) = some (.val (nI a) σ) := by
 show (match ev x with | some (.i _ n) => some (OpR.val (.i .i64 (wrapN .i64 n)) σ) | some (.um _ d j) => some (.val (.um .i64 d j) σ) | _ => none) = _
 rw [h1]
 show some (OpR.val (.i .i64 (wrapN .i64 (Int.ofNat a))) σ) = _
 rw [wrapN_nat h]
def JR (j : Nat) (sch : Bool) (deep : Nat) (o : Option Nat) (σ : St) (r : Ret) (σ' : St) : Prop := r = .ok (.b o.isSome) ∧ (∀ L, o = some L → σ'.get j = some (.cells [.b sch, nI L, nI deep])) ∧ Keep (fun i => i = j) σ σ'
section
variable {b : Base} {K : Nat → List AV → AV → Prop} (hf : ∀ g ar r r', K g ar r → K g ar r' → r = r')
theorem jnode_go (hn : Here (b.envK K) n_jnode c_jnode) (j : Nat) (sch : Bool) (deep depth L : Nat) (hd : deep < 2 ^ 63) (hdp : depth < 2 ^ 63) (hL : L < 2 ^ 63) (σ : St) (hj : σ.get j = some (.cells [.b sch, nI L, nI deep])) :
  GoesCall (b.envK K) 0 (.f (.func n_jnode) [] []) [.p (some (j, 0)), nI depth] σ (JR j sch deep (nodeJ deep depth L) σ) := by
 refine GoesCall.code hn.e hn.p hn.f rfl rfl rfl rfl ?_
 refine GoF.seq (GoF.region ?_)
 repeat (first | refine GoO.go rfl rfl rfl rfl ?_ | refine GoO.cmp rfl rfl rfl rfl rfl ?_ | refine GoO.off rfl rfl ?_ | refine GoO.nil ?_)
 refine GoF.seq (GoF.region ?_)
 repeat (first | refine GoO.go rfl rfl rfl rfl ?_ | refine GoO.ld hj rfl rfl rfl rfl ?_ | refine GoO.cmp rfl rfl rfl rfl rfl ?_ | refine GoO.off rfl rfl ?_ | refine GoO.nil ?_)
 cases L with
 | zero =>
  refine GoO.bin (a := nI 0) (b := nI 1) (v := .i .i64 (-1)) rfl rfl rfl rfl rfl ?_
  repeat (first | refine GoO.go rfl rfl rfl rfl ?_ | refine GoO.ld hj rfl rfl rfl rfl ?_ | refine GoO.cmp rfl rfl rfl rfl rfl ?_ | refine GoO.off rfl rfl ?_ | refine GoO.nil ?_)
  refine GoO.store (c' := [.b sch, .i .i64 (-1), nI deep]) hj rfl rfl rfl rfl rfl fun τ hn1 h1 k1 => ?_
  refine GoO.nil (GoF.seq (GoF.region ?_))
  repeat (first | refine GoO.go rfl rfl rfl rfl ?_ | refine GoO.ld h1 rfl rfl rfl rfl ?_ | refine GoO.cmp rfl rfl rfl rfl rfl ?_ | refine GoO.off rfl rfl ?_ | refine GoO.nil ?_)
  refine GoO.bin (a := .i .i64 (-1)) (b := .i .i64 0) (v := .b false) rfl rfl rfl rfl rfl ?_
  repeat (first | refine GoO.go rfl rfl rfl rfl ?_ | refine GoO.ld h1 rfl rfl rfl rfl ?_ | refine GoO.cmp rfl rfl rfl rfl rfl ?_ | refine GoO.off rfl rfl ?_ | refine GoO.nil ?_)
  exact GoF.ret ⟨rfl, rfl, fun L h => (by cases h), ⟨by omega, fun i o hi ho => k1 i o hi ho⟩⟩
 | succ L =>
  refine GoO.bin (a := nI (L + 1)) (b := nI 1) rfl rfl rfl rfl (bin_sub (by omega) hL) ?_
  repeat (first | refine GoO.go rfl rfl rfl rfl ?_ | refine GoO.ld hj rfl rfl rfl rfl ?_ | refine GoO.cmp rfl rfl rfl rfl rfl ?_ | refine GoO.off rfl rfl ?_ | refine GoO.nil ?_)
  refine GoO.store (c' := [.b sch, nI L, nI deep]) hj rfl rfl rfl rfl rfl fun τ hn1 h1 k1 => ?_
  refine GoO.nil (GoF.seq (GoF.region ?_))
  repeat (first | refine GoO.go rfl rfl rfl rfl ?_ | refine GoO.ld h1 rfl rfl rfl rfl ?_ | refine GoO.off rfl rfl ?_ | refine GoO.nil ?_)
  refine GoO.bin (a := nI L) (b := nI 0) (v := .b true) rfl rfl rfl rfl (bin_cmp (ctrue (Nat.zero_le _))) ?_
  repeat (first | refine GoO.go rfl rfl rfl rfl ?_ | refine GoO.ld h1 rfl rfl rfl rfl ?_ | refine GoO.off rfl rfl ?_ | refine GoO.nil ?_)
  have hk : Keep (fun i => i = j) σ τ := ⟨by omega, fun i o hi ho => k1 i o hi ho⟩
  by_cases h : depth ≤ deep
  ·refine GoO.bin (a := nI depth) (b := nI deep) (v := .b true) rfl rfl rfl rfl (bin_cmp (ctrue h)) ?_
   repeat (first | refine GoO.go rfl rfl rfl rfl ?_ | refine GoO.cmp rfl rfl rfl rfl rfl ?_ | refine GoO.off rfl rfl ?_ | refine GoO.nil ?_)
   refine GoF.ret ⟨rfl, ?_⟩
   rw [nodeJ, if_pos h]
   exact ⟨rfl, fun L' e => by cases e; exact h1, hk⟩
  ·refine GoO.bin (a := nI depth) (b := nI deep) (v := .b false) rfl rfl rfl rfl (bin_cmp (cfalse h)) ?_
   repeat (first | refine GoO.go rfl rfl rfl rfl ?_ | refine GoO.cmp rfl rfl rfl rfl rfl ?_ | refine GoO.off rfl rfl ?_ | refine GoO.nil ?_)
   refine GoF.ret ⟨rfl, ?_⟩
   rw [nodeJ, if_neg h]
   exact ⟨rfl, fun L' e => (by cases e), hk⟩
structure NmK (b : Base) (K : Nat → List AV → AV → Prop) : Prop where
 fn : ∀ g ar r r', K g ar r → K g ar r' → r = r'
 var : ∀ l, l.length < 2 ^ 62 → K n_Variable [.s l] (.b (isVar l))
 fun_ : ∀ l, l.length < 2 ^ 62 → K n_Function [.s l] (.b (isFun l))
 tmeta : ∀ l, l.length < 2 ^ 62 → K n_termMeta [.s l] (.b (isTMeta l))
 named : ∀ k l, l.length < 2 ^ 62 → K n_named [.i .u8 (Int.ofNat k), .s l] (.b (namedB k l))
 inst : ∀ l : Option (List Tm), (l.getD []).length < 2 ^ 62 → (∀ t ∈ l.getD [], t.name.length < 2 ^ 62 ∧ t.dep ≤ 400) → K n_instance [tmsA true l] (.b (instB (l.getD [])))
 e_var : b.ext n_Variable = 0 ∧ b.pure n_Variable = true
 e_fun : b.ext n_Function = 0 ∧ b.pure n_Function = true
 e_tmeta : b.ext n_termMeta = 0 ∧ b.pure n_termMeta = true
 e_named : b.ext n_named = 0 ∧ b.pure n_named = true
 e_inst : b.ext n_instance = 0 ∧ b.pure n_instance = true
 node : Here (b.envK K) n_jnode c_jnode
 term : Here (b.envK K) n_jterm c_jterm
 terms : Here (b.envK K) n_jterms c_jterms
 form : Here (b.envK K) n_jform c_jform
inductive Tm.ok : Tm → Prop
 | mk {v : Bool} {n : List Nat} {a : Option (List Tm)} (hn : n.length < 2 ^ 62) (hl : (a.getD []).length < 2 ^ 62) (h : ∀ x ∈ a.getD [], Tm.ok x) : Tm.ok (.mk v n a)
theorem Tm.ok.nm {t : Tm} (h : t.ok) : t.name.length < 2 ^ 62 := by cases h with | mk h _ _ => exact h
theorem Tm.ok.len {t : Tm} (h : t.ok) : t.args.length < 2 ^ 62 := by cases h with | mk _ h _ => exact h
theorem Tm.ok.arg {t : Tm} (h : t.ok) : ∀ x ∈ t.args, x.ok := by cases h with | mk _ _ h => exact h
inductive Fm.ok : Fm → Prop
 | mk {op : Nat} {n : List Nat} {a : Option (List Tm)} {s : Option (List Fm)} (ho : op < 256) (hn : n.length < 2 ^ 62) (hal : (a.getD []).length < 2 ^ 62) (ha : ∀ x ∈ a.getD [], Tm.ok x) (hl : (s.getD []).length < 2 ^ 62) (h : ∀ x ∈ s.getD [], Fm.ok x) : Fm.ok (.mk op n a s)
theorem Fm.ok.op {t : Fm} (h : t.ok) : t.op < 256 := by cases h with | mk h _ _ _ _ _ => exact h
theorem Fm.ok.nm {t : Fm} (h : t.ok) : t.name.length < 2 ^ 62 := by cases h with | mk _ h _ _ _ _ => exact h
theorem Fm.ok.alen {t : Fm} (h : t.ok) : t.args.length < 2 ^ 62 := by cases h with | mk _ _ h _ _ _ => exact h
theorem Fm.ok.arg {t : Fm} (h : t.ok) : ∀ x ∈ t.args, x.ok := by cases h with | mk _ _ _ h _ _ => exact h
theorem Fm.ok.slen {t : Fm} (h : t.ok) : t.sub.length < 2 ^ 62 := by cases h with | mk _ _ _ _ h _ => exact h
theorem Fm.ok.sb {t : Fm} (h : t.ok) : ∀ x ∈ t.sub, x.ok := by cases h with | mk _ _ _ _ _ h => exact h
theorem nodeJ_some {deep depth L L' : Nat} (h : nodeJ deep depth L = some L') : L = L' + 1 ∧ depth ≤ deep := by
 cases L with
 | zero => cases h
 | succ L =>
  rw [nodeJ] at h
  split at h
  ·cases h; exact ⟨rfl, ‹_›⟩
  ·cases h
mutual
theorem termJ_le {sch : Bool} {deep : Nat} : ∀ (t : Tm) {depth L L' : Nat}, termJ sch deep t depth L = some L' → L' ≤ L
 | .mk v n none, depth, L, L', h => by
  rw [termJ] at h
  cases hn : nodeJ deep depth L with
  | none => rw [hn] at h; cases h
  | some M =>
   have := (nodeJ_some hn).1
   rw [hn] at h
   simp only [] at h
   split at h <;> split at h <;> (first | (cases h; omega) | cases h)
 | .mk v n (some l), depth, L, L', h => by
  rw [termJ] at h
  cases hn : nodeJ deep depth L with
  | none => rw [hn] at h; cases h
  | some M =>
   have := (nodeJ_some hn).1
   rw [hn] at h
   simp only [] at h
   split at h
   ·split at h
    ·cases h; omega
    ·cases h
   ·split at h
    ·have := termsJ_le l h; omega
    ·cases h
theorem termsJ_le {sch : Bool} {deep : Nat} : ∀ (l : List Tm) {depth L L' : Nat}, termsJ sch deep l depth L = some L' → L' ≤ L
 | [], depth, L, L', h => by rw [termsJ] at h; cases h; exact Nat.le_refl _
 | t :: l, depth, L, L', h => by
  rw [termsJ] at h
  cases ht : termJ sch deep t depth L with
  | none => rw [ht] at h; cases h
  | some M =>
   rw [ht] at h
   have h1 := termJ_le t ht
   have h2 := termsJ_le l h
   omega
end
theorem jterms_of (hk : NmK b K) {j : Nat} {sch : Bool} {deep : Nat} (hdeep : deep < 2 ^ 62) {d : Nat}
  (ih : ∀ (t : Tm), t.dep ≤ d → t.ok → ∀ (depth L : Nat), depth ≤ deep + 1 → L < 2 ^ 63 → ∀ σ : St, σ.get j = some (.cells [.b sch, nI L, nI deep]) → GoesCall (b.envK K) 0 (.f (.func n_jterm) [] []) [.p (some (j, 0)), t.A true, nI depth] σ (JR j sch deep (termJ sch deep t depth L) σ))
  (a : Option (List Tm)) (ha : ∀ t ∈ a.getD [], t.dep ≤ d ∧ t.ok) (hl : (a.getD []).length < 2 ^ 62) (depth L : Nat) (hdp : depth ≤ deep + 1) (hL : L < 2 ^ 63) (σ0 : St) (hj : σ0.get j = some (.cells [.b sch, nI L, nI deep])) :
  GoesCall (b.envK K) 0 (.f (.func n_jterms) [] []) [.p (some (j, 0)), tmsA true a, nI depth] σ0 (JR j sch deep (termsJ sch deep (a.getD []) depth L) σ0) := by
 refine GoesCall.code hk.terms.e hk.terms.p hk.terms.f rfl rfl rfl rfl ?_
 refine GoF.seq (GoF.region ?_)
 repeat (first | refine GoO.go rfl rfl rfl rfl ?_ | refine GoO.cmp rfl rfl rfl rfl rfl ?_ | refine GoO.off rfl rfl ?_ | refine GoO.nil ?_)
 refine GoF.seq (GoF.seq (GoF.region ?_))
 repeat (first | refine GoO.go rfl rfl rfl rfl ?_ | refine GoO.cmp rfl rfl rfl rfl rfl ?_ | refine GoO.off rfl rfl ?_ | refine GoO.nil ?_)
 refine GoO.len rfl rfl rfl tmsA_len ?_
 repeat (first | refine GoO.go rfl rfl rfl rfl ?_ | refine GoO.cmp rfl rfl rfl rfl rfl ?_ | refine GoO.off rfl rfl ?_ | refine GoO.nil ?_)
 refine GoF.block ?_
 refine GoF.loop (fun m f σ' => Keep (fun i => i = j) σ0 σ' ∧ ∃ i M, i + m = (a.getD []).length ∧ M < 2 ^ 63 ∧ σ'.get j = some (.cells [.b sch, nI M, nI deep]) ∧ termsJ sch deep ((a.getD []).drop i) depth M = termsJ sch deep (a.getD []) depth L ∧
  sat [(0, .p (some (j, 0))), (2, nI depth), (9, tmsA true a), (10, nI (a.getD []).length), (11, nI i)] f) ?_ (a.getD []).length ⟨.refl, 0, L, by omega, hL, hj, by rw [List.drop_zero], rfl, rfl, rfl, rfl, rfl, trivial⟩
 intro m g σ ⟨K1, i, M, hi, hM, hj, hrest, hL'⟩
 refine GoF.norm _ hL' fun g => ?_
 clear hL'
 repeat (first | refine GoO.go rfl rfl rfl rfl ?_ | refine GoO.cmp rfl rfl rfl rfl rfl ?_ | refine GoO.off rfl rfl ?_ | refine GoO.nil ?_ | refine GoF.seq ?_ | refine GoF.region ?_ | refine GoF.skip ?_ | refine GoF.block ?_)
 refine GoF.cnd rfl (fun ht => ?_) (fun hf => ?_)
 ·have hlt : i < (a.getD []).length := of_decide_eq_true ht
  rw [List.drop_eq_getElem_cons hlt, termsJ] at hrest
  generalize hg : (a.getD [])[i] = t at hrest
  have htm : t ∈ a.getD [] := by rw [← hg]; exact List.getElem_mem hlt
  obtain ⟨htd, hto⟩ := ha t htm
  refine GoF.skip (GoF.seq (GoF.block (GoF.seq (GoF.region ?_))))
  refine GoO.idx (v := .tp true (t.A true)) rfl rfl rfl rfl (by rw [← hg]; exact tmsA_idx hlt) ?_
  refine GoO.ldt rfl rfl rfl (Tm.conf true t) ?_
  refine GoO.var (v := t.A true) (c := t.cells true) σ.next rfl rfl rfl rfl (Tm.conf true t) rfl (Tm.len true t) fun τ hn2 h4 k2 => ?_
  replace hj := k2 _ _ hj
  refine GoO.nil (GoF.seq (GoF.region ?_))
  repeat (first | refine GoO.go rfl rfl rfl rfl ?_ | refine GoO.cmp rfl rfl rfl rfl rfl ?_ | refine GoO.off rfl rfl ?_ | refine GoO.nil ?_)
  refine GoO.ld h4 rfl rfl rfl (Tm.ld true t) ?_
  repeat (first | refine GoO.go rfl rfl rfl rfl ?_ | refine GoO.cmp rfl rfl rfl rfl rfl ?_ | refine GoO.off rfl rfl ?_ | refine GoO.nil ?_)
  refine GoO.callG rfl rfl rfl (ih t htd hto depth M hdp hM τ hj) fun r τ' ⟨e1, hj', K3⟩ => ⟨_, e1, ?_⟩
  have K4 : Keep (fun i => i = j) σ0 τ' := (K1.trans (.of (by omega) k2)).trans K3
  cases htj : termJ sch deep t depth M with
  | none =>
   rw [htj] at hrest
   repeat (first | refine GoO.go rfl rfl rfl rfl ?_ | refine GoO.cmp rfl rfl rfl rfl rfl ?_ | refine GoO.off rfl rfl ?_ | refine GoO.nil ?_)
   refine GoF.cnd rfl (fun _ => ?_) (fun h => by cases h)
   repeat (first | refine GoO.go rfl rfl rfl rfl ?_ | refine GoO.cmp rfl rfl rfl rfl rfl ?_ | refine GoO.off rfl rfl ?_ | refine GoO.nil ?_ | refine GoF.seq ?_ | refine GoF.region ?_ | refine GoF.skip ?_ | refine GoF.block ?_)
   refine GoF.ret ⟨rfl, ?_⟩
   rw [← hrest]
   exact ⟨rfl, fun L e => (by cases e), K4⟩
  | some M' =>
   rw [htj] at hrest
   have hM' := termJ_le t htj
   repeat (first | refine GoO.go rfl rfl rfl rfl ?_ | refine GoO.cmp rfl rfl rfl rfl rfl ?_ | refine GoO.off rfl rfl ?_ | refine GoO.nil ?_)
   refine GoF.cnd rfl (fun h => by cases h) (fun _ => ?_)
   refine GoF.skip ?_
   refine GoF.region ?_
   refine GoO.bin (a := nI i) (b := nI 1) rfl rfl rfl rfl (bin_add (by omega)) ?_
   repeat (first | refine GoO.go rfl rfl rfl rfl ?_ | refine GoO.cmp rfl rfl rfl rfl rfl ?_ | refine GoO.off rfl rfl ?_ | refine GoO.nil ?_)
   exact ⟨m - 1, by omega, K4, i + 1, M', by omega, by omega, hj' M' htj, hrest, rfl, rfl, rfl, rfl, rfl, trivial⟩
 ·have hge : ¬ i < (a.getD []).length := of_decide_eq_false hf
  rw [List.drop_of_length_le (by omega), termsJ] at hrest
  refine GoF.exit ?_
  repeat (first | refine GoO.go rfl rfl rfl rfl ?_ | refine GoO.cmp rfl rfl rfl rfl rfl ?_ | refine GoO.off rfl rfl ?_ | refine GoO.nil ?_ | refine GoF.seq ?_ | refine GoF.region ?_ | refine GoF.skip ?_ | refine GoF.block ?_)
  refine GoF.ret ⟨rfl, ?_⟩
  rw [← hrest]
  exact ⟨rfl, fun L e => by cases e; exact hj, K1⟩
set_option maxHeartbeats 0 in
theorem jterm_go (hk : NmK b K) {j : Nat} {sch : Bool} {deep : Nat} (hdeep : deep < 2 ^ 62) : ∀ (d : Nat) (t : Tm), t.dep ≤ d → t.ok → ∀ (depth L : Nat), depth ≤ deep + 1 → L < 2 ^ 63 → ∀ σ : St, σ.get j = some (.cells [.b sch, nI L, nI deep]) →
  GoesCall (b.envK K) 0 (.f (.func n_jterm) [] []) [.p (some (j, 0)), t.A true, nI depth] σ (JR j sch deep (termJ sch deep t depth L) σ)
 | 0, t, h, _, _, _, _, _, _, _ => by rw [Tm.dep_eq] at h; omega
 | d + 1, t, hd, ht, depth, L, hdp, hL, σ0, hj => by
  have hnm := ht.nm
  refine GoesCall.code hk.term.e hk.term.p hk.term.f rfl rfl rfl rfl ?_
  generalize hkn : σ0.next = k
  have hjk : j < k := by have := St.get_lt hj; omega
  refine GoF.seq (GoF.region (GoO.box (v := t.A true) (c := t.cells true) k hkn rfl rfl rfl rfl rfl fun σ hn h1 k1 => ?_))
  have K1 : Keep (fun i => i = j) σ0 σ := .of (by omega) k1
  replace hj := k1 _ _ hj
  repeat (first | refine GoO.go rfl rfl rfl rfl ?_ | refine GoO.cmp rfl rfl rfl rfl rfl ?_ | refine GoO.off rfl rfl ?_ | refine GoO.nil ?_)
  refine GoF.seq (GoF.seq (GoF.region ?_))
  repeat (first | refine GoO.go rfl rfl rfl rfl ?_ | refine GoO.cmp rfl rfl rfl rfl rfl ?_ | refine GoO.off rfl rfl ?_ | refine GoO.nil ?_)
  refine GoO.callG rfl rfl rfl (jnode_go hk.node j sch deep depth L (by omega) (by omega) hL σ hj) fun r τ ⟨e1, hj', K2⟩ => ⟨_, e1, ?_⟩
  replace h1 := K2.keep _ _ (by omega) h1
  have K3 := K1.trans K2
  obtain ⟨o, ho⟩ : ∃ o, termJ sch deep t depth L = o := ⟨_, rfl⟩
  rw [ho]
  rw [termJ_eq] at ho
  cases hnode : nodeJ deep depth L with
  | none =>
   rw [hnode] at ho
   subst ho
   repeat (first | refine GoO.go rfl rfl rfl rfl ?_ | refine GoO.cmp rfl rfl rfl rfl rfl ?_ | refine GoO.off rfl rfl ?_ | refine GoO.nil ?_)
   refine GoF.cnd rfl (fun _ => ?_) (fun h => by cases h)
   repeat (first | refine GoO.go rfl rfl rfl rfl ?_ | refine GoO.cmp rfl rfl rfl rfl rfl ?_ | refine GoO.off rfl rfl ?_ | refine GoO.nil ?_ | refine GoF.seq ?_ | refine GoF.region ?_ | refine GoF.skip ?_ | refine GoF.block ?_)
   exact GoF.ret ⟨rfl, rfl, fun L e => (by cases e), K3⟩
  | some M =>
   obtain ⟨hML, hdd⟩ := nodeJ_some hnode
   replace hj := hj' M hnode
   rw [hnode] at ho
   replace ho : (if t.var = true then (if t.args.length = 0 ∧ (isVar t.name || (sch && isTMeta t.name)) = true then some M else none) else (if t.args.length ≤ 4 ∧ isFun t.name = true then termsJ sch deep t.args (depth + 1) M else none)) = o := ho
   repeat (first | refine GoO.go rfl rfl rfl rfl ?_ | refine GoO.cmp rfl rfl rfl rfl rfl ?_ | refine GoO.off rfl rfl ?_ | refine GoO.nil ?_)
   refine GoF.cnd rfl (fun h => by cases h) (fun _ => ?_)
   refine GoF.skip (GoF.seq (GoF.seq (GoF.region ?_)))
   repeat (first | refine GoO.go rfl rfl rfl rfl ?_ | refine GoO.cmp rfl rfl rfl rfl rfl ?_ | refine GoO.off rfl rfl ?_ | refine GoO.nil ?_)
   refine GoO.ld h1 rfl rfl rfl (Tm.ldV true t) ?_
   repeat (first | refine GoO.go rfl rfl rfl rfl ?_ | refine GoO.cmp rfl rfl rfl rfl rfl ?_ | refine GoO.off rfl rfl ?_ | refine GoO.nil ?_)
   refine GoF.cnd rfl (fun hv => ?_) (fun hv => ?_)
   ·-- a variable
    rw [if_pos hv] at ho
    refine GoF.seq (GoF.region ?_)
    repeat (first | refine GoO.go rfl rfl rfl rfl ?_ | refine GoO.cmp rfl rfl rfl rfl rfl ?_ | refine GoO.off rfl rfl ?_ | refine GoO.nil ?_)
    refine GoO.ld h1 rfl rfl rfl (Tm.ldA true t) ?_
    refine GoO.len rfl rfl rfl tmsA_len ?_
    have hyes : t.args.length = 0 ∧ (isVar t.name || (sch && isTMeta t.name)) = true → JR j sch deep o σ0 (.ok (.b true)) τ := fun h => by
     rw [if_pos h] at ho; subst ho; exact ⟨rfl, fun L e => by cases e; exact hj, K3⟩
    have hno : ¬ (t.args.length = 0 ∧ (isVar t.name || (sch && isTMeta t.name)) = true) → JR j sch deep o σ0 (.ok (.b false)) τ := fun h => by
     rw [if_neg h] at ho; subst ho; exact ⟨rfl, fun L e => (by cases e), K3⟩
    clear ho
    by_cases h0 : t.args.length = 0
    ·refine GoO.bin (a := nI t.args.length) (b := nI 0) (v := .b true) rfl rfl rfl rfl (bin_cmp (ctrue h0)) ?_
     repeat (first | refine GoO.go rfl rfl rfl rfl ?_ | refine GoO.cmp rfl rfl rfl rfl rfl ?_ | refine GoO.off rfl rfl ?_ | refine GoO.nil ?_)
     refine GoO.ld h1 rfl rfl rfl (Tm.ldN true t) ?_
     refine GoO.known hk.fn hk.e_var.1 hk.e_var.2 (hk.var t.name hnm) rfl rfl rfl (snaps1 rfl) ?_
     cases hvr : isVar t.name with
     | true =>
      repeat (first | refine GoO.go rfl rfl rfl rfl ?_ | refine GoO.cmp rfl rfl rfl rfl rfl ?_ | refine GoO.off rfl rfl ?_ | refine GoO.nil ?_)
      exact GoF.ret ⟨rfl, hyes ⟨h0, by rw [hvr]; rfl⟩⟩
     | false =>
      rw [hvr, Bool.false_or] at hyes hno
      repeat (first | refine GoO.go rfl rfl rfl rfl ?_ | refine GoO.ld hj rfl rfl rfl rfl ?_ | refine GoO.cmp rfl rfl rfl rfl rfl ?_ | refine GoO.off rfl rfl ?_ | refine GoO.nil ?_)
      cases hsc : sch with
      | false =>
       repeat (first | refine GoO.go rfl rfl rfl rfl ?_ | refine GoO.cmp rfl rfl rfl rfl rfl ?_ | refine GoO.off rfl rfl ?_ | refine GoO.nil ?_)
       exact GoF.ret ⟨rfl, hsc ▸ hno fun h => by rw [hsc] at h; cases h.2⟩
      | true =>
       repeat (first | refine GoO.go rfl rfl rfl rfl ?_ | refine GoO.cmp rfl rfl rfl rfl rfl ?_ | refine GoO.off rfl rfl ?_ | refine GoO.nil ?_)
       refine GoO.ld h1 rfl rfl rfl (Tm.ldN true t) ?_
       refine GoO.known hk.fn hk.e_tmeta.1 hk.e_tmeta.2 (hk.tmeta t.name hnm) rfl rfl rfl (snaps1 rfl) ?_
       rw [hsc, Bool.true_and] at hyes hno
       cases htm : isTMeta t.name with
       | true =>
        repeat (first | refine GoO.go rfl rfl rfl rfl ?_ | refine GoO.cmp rfl rfl rfl rfl rfl ?_ | refine GoO.off rfl rfl ?_ | refine GoO.nil ?_)
        exact GoF.ret ⟨rfl, hyes ⟨h0, htm⟩⟩
       | false =>
        repeat (first | refine GoO.go rfl rfl rfl rfl ?_ | refine GoO.cmp rfl rfl rfl rfl rfl ?_ | refine GoO.off rfl rfl ?_ | refine GoO.nil ?_)
        exact GoF.ret ⟨rfl, hno fun h => by rw [htm] at h; cases h.2⟩
    ·refine GoO.bin (a := nI t.args.length) (b := nI 0) (v := .b false) rfl rfl rfl rfl (bin_cmp (cfalse h0)) ?_
     repeat (first | refine GoO.go rfl rfl rfl rfl ?_ | refine GoO.cmp rfl rfl rfl rfl rfl ?_ | refine GoO.off rfl rfl ?_ | refine GoO.nil ?_)
     exact GoF.ret ⟨rfl, hno fun h => h0 h.1⟩
   ·rw [hv] at ho
    replace ho : (if t.args.length ≤ 4 ∧ isFun t.name = true then termsJ sch deep t.args (depth + 1) M else none) = o := ho
    refine GoF.skip (GoF.seq (GoF.region ?_))
    repeat (first | refine GoO.go rfl rfl rfl rfl ?_ | refine GoO.cmp rfl rfl rfl rfl rfl ?_ | refine GoO.off rfl rfl ?_ | refine GoO.nil ?_)
    refine GoO.ld h1 rfl rfl rfl (Tm.ldA true t) ?_
    refine GoO.len rfl rfl rfl tmsA_len ?_
    by_cases h4 : t.args.length ≤ 4
    ·refine GoO.bin (a := nI t.args.length) (b := nI 4) (v := .b true) rfl rfl rfl rfl (bin_cmp (ctrue h4)) ?_
     repeat (first | refine GoO.go rfl rfl rfl rfl ?_ | refine GoO.cmp rfl rfl rfl rfl rfl ?_ | refine GoO.off rfl rfl ?_ | refine GoO.nil ?_)
     refine GoO.ld h1 rfl rfl rfl (Tm.ldN true t) ?_
     refine GoO.known hk.fn hk.e_fun.1 hk.e_fun.2 (hk.fun_ t.name hnm) rfl rfl rfl (snaps1 rfl) ?_
     cases hfn : isFun t.name with
     | true =>
      rw [if_pos ⟨h4, hfn⟩] at ho
      repeat (first | refine GoO.go rfl rfl rfl rfl ?_ | refine GoO.cmp rfl rfl rfl rfl rfl ?_ | refine GoO.off rfl rfl ?_ | refine GoO.nil ?_)
      refine GoO.ld h1 rfl rfl rfl (Tm.ldA true t) ?_
      repeat (first | refine GoO.go rfl rfl rfl rfl ?_ | refine GoO.cmp rfl rfl rfl rfl rfl ?_ | refine GoO.off rfl rfl ?_ | refine GoO.nil ?_)
      refine GoO.bin (a := nI depth) (b := nI 1) rfl rfl rfl rfl (bin_add (by omega)) ?_
      refine GoO.callG rfl rfl rfl (jterms_of hk hdeep (d := d) (fun u hu huo dp L' h1 h2 σ' h3 => jterm_go hk hdeep d u hu huo dp L' h1 h2 σ' h3) t.oargs (fun u hu => ⟨by have := Tm.dep_arg (t := t) hu; omega, ht.arg u hu⟩) ht.len (depth + 1) M (by omega) (by omega) τ hj) fun r τ' ⟨e2, hj2, K4⟩ => ⟨_, e2, ?_⟩
      have ho : termsJ sch deep (t.oargs.getD []) (depth + 1) M = o := ho
      rw [ho] at hj2 ⊢
      repeat (first | refine GoO.go rfl rfl rfl rfl ?_ | refine GoO.cmp rfl rfl rfl rfl rfl ?_ | refine GoO.off rfl rfl ?_ | refine GoO.nil ?_)
      refine GoF.ret ⟨rfl, ?_, hj2, K3.trans K4⟩
      cases o <;> rfl
     | false =>
      rw [if_neg (fun h => by rw [hfn] at h; cases h.2)] at ho
      subst ho
      repeat (first | refine GoO.go rfl rfl rfl rfl ?_ | refine GoO.cmp rfl rfl rfl rfl rfl ?_ | refine GoO.off rfl rfl ?_ | refine GoO.nil ?_)
      exact GoF.ret ⟨rfl, rfl, fun L e => (by cases e), K3⟩
    ·refine GoO.bin (a := nI t.args.length) (b := nI 4) (v := .b false) rfl rfl rfl rfl (bin_cmp (cfalse h4)) ?_
     rw [if_neg (fun h => h4 h.1)] at ho
     subst ho
     repeat (first | refine GoO.go rfl rfl rfl rfl ?_ | refine GoO.cmp rfl rfl rfl rfl rfl ?_ | refine GoO.off rfl rfl ?_ | refine GoO.nil ?_)
     exact GoF.ret ⟨rfl, rfl, fun L e => (by cases e), K3⟩
theorem formsJ_le_of {sch : Bool} {deep : Nat} {l : List Fm} (h : ∀ f ∈ l, ∀ depth L L', formJ sch deep f depth L = some L' → L' ≤ L) : ∀ {depth L L' : Nat}, formsJ sch deep l depth L = some L' → L' ≤ L := by
 induction l with
 | nil => intro depth L L' e; rw [formsJ] at e; cases e; exact Nat.le_refl _
 | cons f l ih =>
  intro depth L L' e
  rw [formsJ] at e
  cases hf : formJ sch deep f depth L with
  | none => rw [hf] at e; cases e
  | some M =>
   rw [hf] at e
   have h1 := h f (by simp) _ _ _ hf
   have h2 := ih (fun g hg => h g (List.mem_cons_of_mem _ hg)) e
   omega
theorem formJ_le {sch : Bool} {deep : Nat} : ∀ (d : Nat) (f : Fm), f.dep ≤ d → ∀ {depth L L' : Nat}, formJ sch deep f depth L = some L' → L' ≤ L
 | 0, f, h, _, _, _, _ => by rw [Fm.dep_eq] at h; omega
 | d + 1, f, h, depth, L, L', e => by
  rw [formJ_eq] at e
  cases hn : nodeJ deep depth L with
  | none => rw [hn] at e; cases e
  | some M =>
   have := (nodeJ_some hn).1
   rw [hn] at e
   simp only [] at e
   split at e
   ·cases ht : termsJ sch deep f.args (depth + 1) M with
    | none => rw [ht] at e; cases e
    | some N =>
     rw [ht] at e
     have h1 := termsJ_le _ ht
     have h2 := formsJ_le_of (fun g hg _ _ _ e => formJ_le d g (by have := Fm.dep_sub hg; omega) e) e
     omega
   ·cases e
set_option maxHeartbeats 0 in
theorem jform_go (hk : NmK b K) (hg : b.glob n_rows = some (.ag rowsL)) {j : Nat} {sch : Bool} {deep : Nat} (hdeep : deep < 2 ^ 62) : ∀ (d : Nat) (F : Fm), F.dep ≤ d → F.dep ≤ 400 → F.ok → ∀ (depth L : Nat), depth ≤ deep + 1 → L < 2 ^ 63 → ∀ σ : St, σ.get j = some (.cells [.b sch, nI L, nI deep]) →
  GoesCall (b.envK K) 0 (.f (.func n_jform) [] []) [.p (some (j, 0)), F.A true, nI depth] σ (JR j sch deep (formJ sch deep F depth L) σ)
 | 0, t, h, _, _, _, _, _, _, _, _ => by rw [Fm.dep_eq] at h; omega
 | d + 1, F, hd, h400, hF, depth, L, hdp, hL, σ0, hj => by
  have hnm := hF.nm
  have hop := hF.op
  refine GoesCall.code hk.form.e hk.form.p hk.form.f rfl rfl rfl rfl ?_
  generalize hkn : σ0.next = k
  have hjk : j < k := by have := St.get_lt hj; omega
  refine GoF.seq (GoF.region (GoO.box (v := F.A true) (c := F.cells true) k hkn rfl rfl rfl rfl rfl fun σ hn h1 k1 => ?_))
  have K1 : Keep (fun i => i = j) σ0 σ := .of (by omega) k1
  replace hj := k1 _ _ hj
  repeat (first | refine GoO.go rfl rfl rfl rfl ?_ | refine GoO.cmp rfl rfl rfl rfl rfl ?_ | refine GoO.off rfl rfl ?_ | refine GoO.nil ?_)
  refine GoF.seq (GoF.seq (GoF.region ?_))
  repeat (first | refine GoO.go rfl rfl rfl rfl ?_ | refine GoO.cmp rfl rfl rfl rfl rfl ?_ | refine GoO.off rfl rfl ?_ | refine GoO.nil ?_)
  refine GoO.callG rfl rfl rfl (jnode_go hk.node j sch deep depth L (by omega) (by omega) hL σ hj) fun r τ ⟨e1, hj', K2⟩ => ⟨_, e1, ?_⟩
  replace h1 := K2.keep _ _ (by omega) h1
  have K3 := K1.trans K2
  have hn2 := K2.next
  obtain ⟨o, ho⟩ : ∃ o, formJ sch deep F depth L = o := ⟨_, rfl⟩
  rw [ho]
  rw [formJ_eq] at ho
  cases hnode : nodeJ deep depth L with
  | none =>
   rw [hnode] at ho
   subst ho
   repeat (first | refine GoO.go rfl rfl rfl rfl ?_ | refine GoO.cmp rfl rfl rfl rfl rfl ?_ | refine GoO.off rfl rfl ?_ | refine GoO.nil ?_)
   refine GoF.cnd rfl (fun _ => ?_) (fun h => by cases h)
   repeat (first | refine GoO.go rfl rfl rfl rfl ?_ | refine GoO.cmp rfl rfl rfl rfl rfl ?_ | refine GoO.off rfl rfl ?_ | refine GoO.nil ?_ | refine GoF.seq ?_ | refine GoF.region ?_ | refine GoF.skip ?_ | refine GoF.block ?_)
   exact GoF.ret ⟨rfl, rfl, fun L e => (by cases e), K3⟩
  | some M =>
   obtain ⟨hML, hdd⟩ := nodeJ_some hnode
   replace hj := hj' M hnode
   rw [hnode] at ho
   replace ho : (if F.op < 17 ∧ (rowR F.op || (sch && rowS F.op)) = true ∧ namedB (rowN F.op) F.name = true ∧ F.args.length ≤ rowA F.op ∧ F.sub.length = rowB F.op ∧ (F.op = 16 → instB F.args = true) then
    (match termsJ sch deep F.args (depth + 1) M with
    | none => none
    | some L => formsJ sch deep F.sub (depth + 1) L)
    else none) = o := ho
   have hbad : ¬ (F.op < 17 ∧ (rowR F.op || (sch && rowS F.op)) = true ∧ namedB (rowN F.op) F.name = true ∧ F.args.length ≤ rowA F.op ∧ F.sub.length = rowB F.op ∧ (F.op = 16 → instB F.args = true)) → o = none := fun h => by rw [if_neg h] at ho; exact ho.symm
   have hno : o = none → ∀ {τ' : St}, Keep (fun i => i = j) σ0 τ' → JR j sch deep o σ0 (.ok (.b false)) τ' := fun h τ' hK => by subst h; exact ⟨rfl, fun L e => (by cases e), hK⟩
   repeat (first | refine GoO.go rfl rfl rfl rfl ?_ | refine GoO.cmp rfl rfl rfl rfl rfl ?_ | refine GoO.off rfl rfl ?_ | refine GoO.nil ?_)
   refine GoO.ld h1 rfl rfl rfl (Fm.ldO true F) ?_
   refine GoO.val rfl rfl (op_conv (a := F.op) rfl (by omega)) ?_
   by_cases h17 : 17 ≤ F.op
   ·refine GoO.bin (a := nI F.op) (b := nI 17) (v := .b true) rfl rfl rfl rfl (bin_cmp (ctrue h17)) ?_
    repeat (first | refine GoO.go rfl rfl rfl rfl ?_ | refine GoO.cmp rfl rfl rfl rfl rfl ?_ | refine GoO.off rfl rfl ?_ | refine GoO.nil ?_)
    refine GoF.cnd rfl (fun _ => ?_) (fun h => by cases h)
    repeat (first | refine GoO.go rfl rfl rfl rfl ?_ | refine GoO.cmp rfl rfl rfl rfl rfl ?_ | refine GoO.off rfl rfl ?_ | refine GoO.nil ?_ | refine GoF.seq ?_ | refine GoF.region ?_ | refine GoF.skip ?_ | refine GoF.block ?_)
    exact GoF.ret ⟨rfl, hno (hbad fun h => by omega) K3⟩
   have h17' : F.op < 17 := by omega
   refine GoO.bin (a := nI F.op) (b := nI 17) (v := .b false) rfl rfl rfl rfl (bin_cmp (cfalse h17)) ?_
   repeat (first | refine GoO.go rfl rfl rfl rfl ?_ | refine GoO.cmp rfl rfl rfl rfl rfl ?_ | refine GoO.off rfl rfl ?_ | refine GoO.nil ?_)
   refine GoF.cnd rfl (fun h => by cases h) (fun _ => ?_)
   refine GoF.skip ?_
   refine GoF.norm [(0, .p (some (j, 0))), (2, nI depth), (4, .p (some (k, 0))), (6, .b false), (7, undefA), (27, undefA), (32, undefA)] ⟨rfl, rfl, rfl, rfl, rfl, rfl, rfl, trivial⟩ fun g => ?_
   refine GoF.seq (GoF.region ?_)
   repeat (first | refine GoO.go rfl rfl rfl rfl ?_ | refine GoO.cmp rfl rfl rfl rfl rfl ?_ | refine GoO.off rfl rfl ?_ | refine GoO.nil ?_)
   refine GoO.ld h1 rfl rfl rfl (Fm.ldO true F) ?_
   refine GoO.val rfl rfl (op_idxArrT (j := F.op) (cs := rowsL) (o := true) (by show (match b.glob n_rows with | some v => some (AV.tp true v) | none => none) = _; rw [hg]) rfl h17' (rows_ld h17')) ?_
   refine GoO.ldt rfl rfl rfl rfl ?_
   generalize hzn : τ.next = z
   refine GoO.var (v := .ag (rowC F.op)) (c := rowC F.op) z hzn rfl rfl rfl rfl rfl rfl fun τ2 hn3 h2 k2 => ?_
   have hkz : k < z := by omega
   replace h1 := k2 _ _ h1
   replace hj := k2 _ _ hj
   have K4 : Keep (fun i => i = j) σ0 τ2 := K3.trans (.of (by omega) k2)
   clear K1 K2 K3 k1 k2 hj' e1
   refine GoO.nil ?_
   refine GoF.norm [(0, .p (some (j, 0))), (2, nI depth), (4, .p (some (k, 0))), (6, .b false), (7, .p (some (z, 0)))] ⟨rfl, rfl, rfl, rfl, rfl, trivial⟩ fun g => ?_
   -- the row is one of right ones
   refine GoF.cutR [(0, .p (some (j, 0))), (2, nI depth), (4, .p (some (k, 0))), (6, .b false), (7, .p (some (z, 0)))] (E := fun x f' σ' => x = .ret ∧ f' 6 = .b false ∧ σ' = τ2 ∧ o = none) (M := (rowR F.op || (sch && rowS F.op)) = true) ?_ ?_ fun hR g => ?_
   ·-- the row stands in what is right
    refine GoF.seq (GoF.region ?_)
    repeat (first | refine GoO.go rfl rfl rfl rfl ?_ | refine GoO.ld h2 rfl rfl rfl rfl ?_ | refine GoO.cmp rfl rfl rfl rfl rfl ?_ | refine GoO.off rfl rfl ?_ | refine GoO.nil ?_)
    cases hr1 : rowR F.op with
    | true =>
     repeat (first | refine GoO.go rfl rfl rfl rfl ?_ | refine GoO.ld h2 rfl rfl rfl rfl ?_ | refine GoO.cmp rfl rfl rfl rfl rfl ?_ | refine GoO.off rfl rfl ?_ | refine GoO.nil ?_)
     refine GoF.cnd rfl (fun h => by cases h) (fun _ => ?_)
     exact GoF.skip (.inl ⟨rfl, rfl, ⟨rfl, rfl, rfl, rfl, rfl, trivial⟩, rfl⟩)
    | false =>
     repeat (first | refine GoO.go rfl rfl rfl rfl ?_ | refine GoO.ld hj rfl rfl rfl rfl ?_ | refine GoO.cmp rfl rfl rfl rfl rfl ?_ | refine GoO.off rfl rfl ?_ | refine GoO.nil ?_)
     cases hsc : sch with
     | false =>
      repeat (first | refine GoO.go rfl rfl rfl rfl ?_ | refine GoO.cmp rfl rfl rfl rfl rfl ?_ | refine GoO.off rfl rfl ?_ | refine GoO.nil ?_)
      refine GoF.cnd rfl (fun _ => ?_) (fun h => by cases h)
      repeat (first | refine GoO.go rfl rfl rfl rfl ?_ | refine GoO.cmp rfl rfl rfl rfl rfl ?_ | refine GoO.off rfl rfl ?_ | refine GoO.nil ?_ | refine GoF.seq ?_ | refine GoF.region ?_ | refine GoF.skip ?_ | refine GoF.block ?_)
      exact GoF.ret (.inr ⟨rfl, rfl, rfl, hbad fun hc => by rw [hr1, hsc] at hc; cases hc.2.1⟩)
     | true =>
      repeat (first | refine GoO.go rfl rfl rfl rfl ?_ | refine GoO.ld h2 rfl rfl rfl rfl ?_ | refine GoO.cmp rfl rfl rfl rfl rfl ?_ | refine GoO.off rfl rfl ?_ | refine GoO.nil ?_)
      cases hr2 : rowS F.op with
      | true =>
       repeat (first | refine GoO.go rfl rfl rfl rfl ?_ | refine GoO.cmp rfl rfl rfl rfl rfl ?_ | refine GoO.off rfl rfl ?_ | refine GoO.nil ?_)
       refine GoF.cnd rfl (fun h => by cases h) (fun _ => ?_)
       exact GoF.skip (.inl ⟨rfl, rfl, ⟨rfl, rfl, rfl, rfl, rfl, trivial⟩, rfl⟩)
      | false =>
       repeat (first | refine GoO.go rfl rfl rfl rfl ?_ | refine GoO.cmp rfl rfl rfl rfl rfl ?_ | refine GoO.off rfl rfl ?_ | refine GoO.nil ?_)
       refine GoF.cnd rfl (fun _ => ?_) (fun h => by cases h)
       repeat (first | refine GoO.go rfl rfl rfl rfl ?_ | refine GoO.cmp rfl rfl rfl rfl rfl ?_ | refine GoO.off rfl rfl ?_ | refine GoO.nil ?_ | refine GoF.seq ?_ | refine GoF.region ?_ | refine GoF.skip ?_ | refine GoF.block ?_)
       exact GoF.ret (.inr ⟨rfl, rfl, rfl, hbad fun hc => by rw [hr1, hsc, hr2] at hc; cases hc.2.1⟩)
   ·rintro x f' σ' ⟨rfl, h6, rfl, h⟩
    exact ⟨by simp, rfl, by rw [h6]; exact hno h K4⟩
   refine GoF.cutR [(0, .p (some (j, 0))), (2, nI depth), (4, .p (some (k, 0))), (6, .b false), (7, .p (some (z, 0)))] (E := fun x f' σ' => x = .ret ∧ f' 6 = .b false ∧ σ' = τ2 ∧ o = none) (M := namedB (rowN F.op) F.name = true ∧ F.args.length ≤ rowA F.op ∧ F.sub.length = rowB F.op) ?_ ?_ fun hN g => ?_
   ·-- name, arguments, parts
    refine GoF.seq (GoF.region ?_)
    repeat (first | refine GoO.go rfl rfl rfl rfl ?_ | refine GoO.ld h2 rfl rfl rfl rfl ?_ | refine GoO.cmp rfl rfl rfl rfl rfl ?_ | refine GoO.off rfl rfl ?_ | refine GoO.nil ?_)
    refine GoO.ld h1 rfl rfl rfl (Fm.ldN true F) ?_
    refine GoO.known hk.fn hk.e_named.1 hk.e_named.2 (hk.named (rowN F.op) F.name hnm) rfl rfl rfl (snaps2 rfl rfl) ?_
    cases hn1 : namedB (rowN F.op) F.name with
    | false =>
     repeat (first | refine GoO.go rfl rfl rfl rfl ?_ | refine GoO.cmp rfl rfl rfl rfl rfl ?_ | refine GoO.off rfl rfl ?_ | refine GoO.nil ?_)
     refine GoF.cnd rfl (fun _ => ?_) (fun h => by cases h)
     repeat (first | refine GoO.go rfl rfl rfl rfl ?_ | refine GoO.cmp rfl rfl rfl rfl rfl ?_ | refine GoO.off rfl rfl ?_ | refine GoO.nil ?_ | refine GoF.seq ?_ | refine GoF.region ?_ | refine GoF.skip ?_ | refine GoF.block ?_)
     exact GoF.ret (.inr ⟨rfl, rfl, rfl, hbad fun hc => by rw [hn1] at hc; cases hc.2.2.1⟩)
    | true =>
     repeat (first | refine GoO.go rfl rfl rfl rfl ?_ | refine GoO.cmp rfl rfl rfl rfl rfl ?_ | refine GoO.off rfl rfl ?_ | refine GoO.nil ?_)
     refine GoO.ld h1 rfl rfl rfl (Fm.ldA true F) ?_
     refine GoO.len rfl rfl rfl tmsA_len ?_
     repeat (first | refine GoO.go rfl rfl rfl rfl ?_ | refine GoO.ld h2 rfl rfl rfl rfl ?_ | refine GoO.off rfl rfl ?_ | refine GoO.nil ?_)
     by_cases hal : F.args.length ≤ rowA F.op
     ·refine GoO.bin (a := nI F.args.length) (b := nI (rowA F.op)) (v := .b false) rfl rfl rfl rfl (bin_cmp (cfalse (by omega))) ?_
      repeat (first | refine GoO.go rfl rfl rfl rfl ?_ | refine GoO.cmp rfl rfl rfl rfl rfl ?_ | refine GoO.off rfl rfl ?_ | refine GoO.nil ?_)
      refine GoO.ld h1 rfl rfl rfl (Fm.ldS true F) ?_
      refine GoO.len rfl rfl rfl fmsA_len ?_
      repeat (first | refine GoO.go rfl rfl rfl rfl ?_ | refine GoO.ld h2 rfl rfl rfl rfl ?_ | refine GoO.off rfl rfl ?_ | refine GoO.nil ?_)
      by_cases hsl : F.sub.length = rowB F.op
      ·refine GoO.bin (a := nI F.sub.length) (b := nI (rowB F.op)) (v := .b false) rfl rfl rfl rfl (bin_cmp (show some (AV.b (!decide (F.sub.length = rowB F.op))) = some (AV.b false) by rw [decide_eq_true hsl]; rfl)) ?_
       repeat (first | refine GoO.go rfl rfl rfl rfl ?_ | refine GoO.cmp rfl rfl rfl rfl rfl ?_ | refine GoO.off rfl rfl ?_ | refine GoO.nil ?_)
       refine GoF.cnd rfl (fun h => by cases h) (fun _ => ?_)
       exact GoF.skip (.inl ⟨rfl, rfl, ⟨rfl, rfl, rfl, rfl, rfl, trivial⟩, rfl, hal, hsl⟩)
      ·refine GoO.bin (a := nI F.sub.length) (b := nI (rowB F.op)) (v := .b true) rfl rfl rfl rfl (bin_cmp (show some (AV.b (!decide (F.sub.length = rowB F.op))) = some (AV.b true) by rw [decide_eq_false hsl]; rfl)) ?_
       repeat (first | refine GoO.go rfl rfl rfl rfl ?_ | refine GoO.cmp rfl rfl rfl rfl rfl ?_ | refine GoO.off rfl rfl ?_ | refine GoO.nil ?_)
       refine GoF.cnd rfl (fun _ => ?_) (fun h => by cases h)
       repeat (first | refine GoO.go rfl rfl rfl rfl ?_ | refine GoO.cmp rfl rfl rfl rfl rfl ?_ | refine GoO.off rfl rfl ?_ | refine GoO.nil ?_ | refine GoF.seq ?_ | refine GoF.region ?_ | refine GoF.skip ?_ | refine GoF.block ?_)
       exact GoF.ret (.inr ⟨rfl, rfl, rfl, hbad fun hc => hsl hc.2.2.2.2.1⟩)
     ·refine GoO.bin (a := nI F.args.length) (b := nI (rowA F.op)) (v := .b true) rfl rfl rfl rfl (bin_cmp (ctrue (by omega))) ?_
      repeat (first | refine GoO.go rfl rfl rfl rfl ?_ | refine GoO.cmp rfl rfl rfl rfl rfl ?_ | refine GoO.off rfl rfl ?_ | refine GoO.nil ?_)
      refine GoF.cnd rfl (fun _ => ?_) (fun h => by cases h)
      repeat (first | refine GoO.go rfl rfl rfl rfl ?_ | refine GoO.cmp rfl rfl rfl rfl rfl ?_ | refine GoO.off rfl rfl ?_ | refine GoO.nil ?_ | refine GoF.seq ?_ | refine GoF.region ?_ | refine GoF.skip ?_ | refine GoF.block ?_)
      exact GoF.ret (.inr ⟨rfl, rfl, rfl, hbad fun hc => hal hc.2.2.2.1⟩)
   ·rintro x f' σ' ⟨rfl, h6, rfl, h⟩
    exact ⟨by simp, rfl, by rw [h6]; exact hno h K4⟩
   refine GoF.cutR [(0, .p (some (j, 0))), (2, nI depth), (4, .p (some (k, 0))), (6, .b false), (7, .p (some (z, 0)))] (E := fun x f' σ' => x = .ret ∧ f' 6 = .b false ∧ σ' = τ2 ∧ o = none) (M := F.op = 16 → instB F.args = true) ?_ ?_ fun hI g => ?_
   ·-- an instance
    refine GoF.seq (GoF.region ?_)
    repeat (first | refine GoO.go rfl rfl rfl rfl ?_ | refine GoO.cmp rfl rfl rfl rfl rfl ?_ | refine GoO.off rfl rfl ?_ | refine GoO.nil ?_)
    refine GoO.ld h1 rfl rfl rfl (Fm.ldO true F) ?_
    by_cases h16 : F.op = 16
    ·refine GoO.bin (a := .i .u8 (Int.ofNat F.op)) (b := .i .u8 (Int.ofNat 16)) (v := .b true) rfl rfl rfl rfl (bin_cmp (ctrue h16)) ?_
     repeat (first | refine GoO.go rfl rfl rfl rfl ?_ | refine GoO.cmp rfl rfl rfl rfl rfl ?_ | refine GoO.off rfl rfl ?_ | refine GoO.nil ?_)
     refine GoO.ld h1 rfl rfl rfl (Fm.ldA true F) ?_
     refine GoO.known hk.fn hk.e_inst.1 hk.e_inst.2 (hk.inst F.oargs hF.alen fun t ht => ⟨(hF.arg t ht).nm, by have := Fm.dep_arg (f := F) ht; omega⟩) rfl rfl rfl (snaps1 (snap_osl (k := 999) fun t ht => Tm.snap _ true 400 t 999 (by have := Fm.dep_arg (f := F) ht; omega) (by omega))) ?_
     cases hi : instB F.args with
     | true =>
      rw [show instB (F.oargs.getD []) = true from hi]
      repeat (first | refine GoO.go rfl rfl rfl rfl ?_ | refine GoO.cmp rfl rfl rfl rfl rfl ?_ | refine GoO.off rfl rfl ?_ | refine GoO.nil ?_)
      refine GoF.cnd rfl (fun h => by cases h) (fun _ => ?_)
      exact GoF.skip (.inl ⟨rfl, rfl, ⟨rfl, rfl, rfl, rfl, rfl, trivial⟩, fun _ => rfl⟩)
     | false =>
      rw [show instB (F.oargs.getD []) = false from hi]
      repeat (first | refine GoO.go rfl rfl rfl rfl ?_ | refine GoO.cmp rfl rfl rfl rfl rfl ?_ | refine GoO.off rfl rfl ?_ | refine GoO.nil ?_)
      refine GoF.cnd rfl (fun _ => ?_) (fun h => by cases h)
      repeat (first | refine GoO.go rfl rfl rfl rfl ?_ | refine GoO.cmp rfl rfl rfl rfl rfl ?_ | refine GoO.off rfl rfl ?_ | refine GoO.nil ?_ | refine GoF.seq ?_ | refine GoF.region ?_ | refine GoF.skip ?_ | refine GoF.block ?_)
      exact GoF.ret (.inr ⟨rfl, rfl, rfl, hbad fun hc => by have := hc.2.2.2.2.2 h16; rw [hi] at this; cases this⟩)
    ·refine GoO.bin (a := .i .u8 (Int.ofNat F.op)) (b := .i .u8 (Int.ofNat 16)) (v := .b false) rfl rfl rfl rfl (bin_cmp (cfalse h16)) ?_
     repeat (first | refine GoO.go rfl rfl rfl rfl ?_ | refine GoO.cmp rfl rfl rfl rfl rfl ?_ | refine GoO.off rfl rfl ?_ | refine GoO.nil ?_)
     refine GoF.cnd rfl (fun h => by cases h) (fun _ => ?_)
     exact GoF.skip (.inl ⟨rfl, rfl, ⟨rfl, rfl, rfl, rfl, rfl, trivial⟩, fun h => absurd h h16⟩)
   ·rintro x f' σ' ⟨rfl, h6, rfl, h⟩
    exact ⟨by simp, rfl, by rw [h6]; exact hno h K4⟩
   rw [if_pos ⟨h17', hR, hN.1, hN.2.1, hN.2.2, hI⟩] at ho
   -- the arguments
   refine GoF.seq (GoF.seq (GoF.region ?_))
   repeat (first | refine GoO.go rfl rfl rfl rfl ?_ | refine GoO.cmp rfl rfl rfl rfl rfl ?_ | refine GoO.off rfl rfl ?_ | refine GoO.nil ?_)
   refine GoO.ld h1 rfl rfl rfl (Fm.ldA true F) ?_
   repeat (first | refine GoO.go rfl rfl rfl rfl ?_ | refine GoO.cmp rfl rfl rfl rfl rfl ?_ | refine GoO.off rfl rfl ?_ | refine GoO.nil ?_)
   refine GoO.bin (a := nI depth) (b := nI 1) rfl rfl rfl rfl (bin_add (by omega)) ?_
   refine GoO.callG rfl rfl rfl (jterms_of hk hdeep (d := F.dep) (fun u hu huo dp L' h1 h2 σ' h3 => jterm_go hk hdeep _ u hu huo dp L' h1 h2 σ' h3) F.oargs (fun u hu => ⟨by have := Fm.dep_arg (f := F) hu; omega, hF.arg u hu⟩) hF.alen (depth + 1) M (by omega) (by omega) τ2 hj) fun r τ3 ⟨e2, hj3, K5⟩ => ⟨_, e2, ?_⟩
   replace h1 := K5.keep _ _ (by omega) h1
   have K6 := K4.trans K5
   have hn5 := K5.next
   cases hts : termsJ sch deep F.args (depth + 1) M with
   | none =>
    rw [hts] at ho
    rw [show termsJ sch deep (F.oargs.getD []) (depth + 1) M = none from hts]
    repeat (first | refine GoO.go rfl rfl rfl rfl ?_ | refine GoO.cmp rfl rfl rfl rfl rfl ?_ | refine GoO.off rfl rfl ?_ | refine GoO.nil ?_)
    refine GoF.cnd rfl (fun _ => ?_) (fun h => by cases h)
    repeat (first | refine GoO.go rfl rfl rfl rfl ?_ | refine GoO.cmp rfl rfl rfl rfl rfl ?_ | refine GoO.off rfl rfl ?_ | refine GoO.nil ?_ | refine GoF.seq ?_ | refine GoF.region ?_ | refine GoF.skip ?_ | refine GoF.block ?_)
    exact GoF.ret ⟨rfl, hno ho.symm K6⟩
   | some N =>
    rw [hts] at ho
    replace hj := hj3 N hts
    have hNM := termsJ_le _ hts
    rw [show termsJ sch deep (F.oargs.getD []) (depth + 1) M = some N from hts]
    replace ho : formsJ sch deep F.sub (depth + 1) N = o := ho
    repeat (first | refine GoO.go rfl rfl rfl rfl ?_ | refine GoO.cmp rfl rfl rfl rfl rfl ?_ | refine GoO.off rfl rfl ?_ | refine GoO.nil ?_)
    refine GoF.cnd rfl (fun h => by cases h) (fun _ => ?_)
    refine GoF.skip (GoF.seq (GoF.seq (GoF.region ?_)))
    repeat (first | refine GoO.go rfl rfl rfl rfl ?_ | refine GoO.cmp rfl rfl rfl rfl rfl ?_ | refine GoO.off rfl rfl ?_ | refine GoO.nil ?_)
    refine GoO.ld h1 rfl rfl rfl (Fm.ldS true F) ?_
    refine GoO.len rfl rfl rfl fmsA_len ?_
    repeat (first | refine GoO.go rfl rfl rfl rfl ?_ | refine GoO.cmp rfl rfl rfl rfl rfl ?_ | refine GoO.off rfl rfl ?_ | refine GoO.nil ?_)
    refine GoF.block ?_
    refine GoF.loop (fun m f σ' => Keep (fun i => i = j) σ0 σ' ∧ ∃ i P, i + m = F.sub.length ∧ P < 2 ^ 63 ∧ σ'.get j = some (.cells [.b sch, nI P, nI deep]) ∧ formsJ sch deep (F.sub.drop i) (depth + 1) P = o ∧
     sat [(0, .p (some (j, 0))), (2, nI depth), (77, fmsA true F.osub), (78, nI F.sub.length), (79, nI i)] f) ?_ F.sub.length ⟨K6, 0, N, by omega, by omega, hj, by rw [List.drop_zero]; exact ho, rfl, rfl, rfl, rfl, rfl, trivial⟩
    clear hj h1 h2 K4 K5 K6 hj3 hno hbad ho
    intro m g σ ⟨K1, i, P, hi, hP, hj, hrest, hL'⟩
    refine GoF.norm _ hL' fun g => ?_
    clear hL'
    repeat (first | refine GoO.go rfl rfl rfl rfl ?_ | refine GoO.cmp rfl rfl rfl rfl rfl ?_ | refine GoO.off rfl rfl ?_ | refine GoO.nil ?_ | refine GoF.seq ?_ | refine GoF.region ?_ | refine GoF.skip ?_ | refine GoF.block ?_)
    refine GoF.cnd rfl (fun ht => ?_) (fun hf => ?_)
    ·have hlt : i < F.sub.length := of_decide_eq_true ht
     have hs62 := hF.slen
     rw [List.drop_eq_getElem_cons hlt, formsJ] at hrest
     generalize hg : F.sub[i] = G at hrest
     have hGm : G ∈ F.sub := by rw [← hg]; exact List.getElem_mem hlt
     have hGd := Fm.dep_sub hGm
     refine GoF.skip (GoF.seq (GoF.block (GoF.seq (GoF.region ?_))))
     refine GoO.idx (v := .tp true (G.A true)) rfl rfl rfl rfl (by rw [← hg]; exact fmsA_idx hlt) ?_
     refine GoO.ldt rfl rfl rfl (Fm.conf true G) ?_
     refine GoO.var (v := G.A true) (c := G.cells true) σ.next rfl rfl rfl rfl (Fm.conf true G) rfl (Fm.len true G) fun τ hn2 h4 k2 => ?_
     replace hj := k2 _ _ hj
     refine GoO.nil (GoF.seq (GoF.region ?_))
     repeat (first | refine GoO.go rfl rfl rfl rfl ?_ | refine GoO.cmp rfl rfl rfl rfl rfl ?_ | refine GoO.off rfl rfl ?_ | refine GoO.nil ?_)
     refine GoO.ld h4 rfl rfl rfl (Fm.ld true G) ?_
     repeat (first | refine GoO.go rfl rfl rfl rfl ?_ | refine GoO.cmp rfl rfl rfl rfl rfl ?_ | refine GoO.off rfl rfl ?_ | refine GoO.nil ?_)
     refine GoO.bin (a := nI depth) (b := nI 1) rfl rfl rfl rfl (bin_add (by omega)) ?_
     refine GoO.callG rfl rfl rfl (jform_go hk ‹_› hdeep d G (by omega) (by omega) (hF.sb G hGm) (depth + 1) P (by omega) hP τ hj) fun r τ' ⟨e1, hj', K3⟩ => ⟨_, e1, ?_⟩
     have K4 : Keep (fun i => i = j) σ0 τ' := (K1.trans (.of (by omega) k2)).trans K3
     cases htj : formJ sch deep G (depth + 1) P with
     | none =>
      rw [htj] at hrest
      repeat (first | refine GoO.go rfl rfl rfl rfl ?_ | refine GoO.cmp rfl rfl rfl rfl rfl ?_ | refine GoO.off rfl rfl ?_ | refine GoO.nil ?_)
      refine GoF.cnd rfl (fun _ => ?_) (fun h => by cases h)
      repeat (first | refine GoO.go rfl rfl rfl rfl ?_ | refine GoO.cmp rfl rfl rfl rfl rfl ?_ | refine GoO.off rfl rfl ?_ | refine GoO.nil ?_ | refine GoF.seq ?_ | refine GoF.region ?_ | refine GoF.skip ?_ | refine GoF.block ?_)
      refine GoF.ret ⟨rfl, ?_⟩
      rw [← hrest]
      exact ⟨rfl, fun L e => (by cases e), K4⟩
     | some M' =>
      rw [htj] at hrest
      have hM' := formJ_le _ G (Nat.le_refl _) htj
      repeat (first | refine GoO.go rfl rfl rfl rfl ?_ | refine GoO.cmp rfl rfl rfl rfl rfl ?_ | refine GoO.off rfl rfl ?_ | refine GoO.nil ?_)
      refine GoF.cnd rfl (fun h => by cases h) (fun _ => ?_)
      refine GoF.skip ?_
      refine GoF.region ?_
      refine GoO.bin (a := nI i) (b := nI 1) rfl rfl rfl rfl (bin_add (by omega)) ?_
      repeat (first | refine GoO.go rfl rfl rfl rfl ?_ | refine GoO.cmp rfl rfl rfl rfl rfl ?_ | refine GoO.off rfl rfl ?_ | refine GoO.nil ?_)
      exact ⟨m - 1, by omega, K4, i + 1, M', by omega, by omega, hj' M' htj, hrest, rfl, rfl, rfl, rfl, rfl, trivial⟩
    ·have hge : ¬ i < F.sub.length := of_decide_eq_false hf
     rw [List.drop_of_length_le (by omega), formsJ] at hrest
     refine GoF.exit ?_
     repeat (first | refine GoO.go rfl rfl rfl rfl ?_ | refine GoO.cmp rfl rfl rfl rfl rfl ?_ | refine GoO.off rfl rfl ?_ | refine GoO.nil ?_ | refine GoF.seq ?_ | refine GoF.region ?_ | refine GoF.skip ?_ | refine GoF.block ?_)
     refine GoF.ret ⟨rfl, ?_⟩
     rw [← hrest]
     exact ⟨rfl, fun L e => by cases e; exact hj, K1⟩
end
end Go.Lyc
end
noncomputable section
namespace Go.Lyc
open Go.RowKit Go.Lyc.T
section
variable {b : Base} {K : Nat → List AV → AV → Prop}
theorem Right_go (hk : NmK b K) (hg : b.glob n_rows = some (.ag rowsL)) (F : Fm) (h400 : F.dep ≤ 400) (hF : F.ok) (body : ACode) (hb : c_Right.body = some body) : GoF (b.envK K) 7 body (argF [F.A true]) ⟨.nil, 0⟩ (Done 2 (.b (rightB F))) := by
 cases hb
 refine GoF.seq (GoF.region (GoO.box (v := F.A true) (c := F.cells true) 0 rfl rfl rfl rfl rfl rfl fun σ1 hn1 h1 _ => ?_))
 repeat (first | refine GoO.go rfl rfl rfl rfl ?_ | refine GoO.cmp rfl rfl rfl rfl rfl ?_ | refine GoO.off rfl rfl ?_ | refine GoO.nil ?_)
 refine GoF.seq (GoF.region ?_)
 refine GoO.go (v := .ag [.b false, nI 400, nI 40]) rfl rfl rfl rfl ?_
 refine GoO.var (v := .ag [.b false, nI 400, nI 40]) (c := [.b false, nI 400, nI 40]) 1 hn1 rfl rfl rfl rfl rfl rfl fun σ hn h2 k2 => ?_
 replace h1 := k2 _ _ h1
 refine GoO.nil (GoF.seq (GoF.region ?_))
 refine GoO.ld h1 rfl rfl rfl (Fm.ld true F) ?_
 refine GoO.callG rfl rfl rfl (jform_go hk hg (j := 1) (sch := false) (deep := 40) (by omega) F.dep F (Nat.le_refl _) h400 hF 1 400 (by omega) (by omega) σ h2) fun r τ ⟨e1, _, _⟩ => ⟨_, e1, ?_⟩
 repeat (first | refine GoO.go rfl rfl rfl rfl ?_ | refine GoO.cmp rfl rfl rfl rfl rfl ?_ | refine GoO.off rfl rfl ?_ | refine GoO.nil ?_)
 exact GoF.ret ⟨rfl, rfl⟩
variable (hf : ∀ g ar r r', K g ar r → K g ar r' → r = r')
include hf in
theorem named_go (hp : ∀ l, l.length < 2 ^ 62 → K n_Predicate [.s l] (.b (isPred l))) (ep : b.ext n_Predicate = 0 ∧ b.pure n_Predicate = true) (hv : ∀ l, l.length < 2 ^ 62 → K n_Variable [.s l] (.b (isVar l))) (ev : b.ext n_Variable = 0 ∧ b.pure n_Variable = true) (hm : ∀ l, l.length < 2 ^ 62 → K n_formMeta [.s l] (.b (isFMeta l))) (em : b.ext n_formMeta = 0 ∧ b.pure n_formMeta = true)
  (k : Nat) (l : List Nat) (hl : l.length < 2 ^ 62) (body : ACode) (hb : c_named.body = some body) : GoF (b.envK K) 20 body (argF [.i .u8 (Int.ofNat k), .s l]) ⟨.nil, 0⟩ (Done 4 (.b (namedB k l))) := by
 cases hb
 refine GoF.seq (GoF.region ?_)
 repeat (first | refine GoO.go rfl rfl rfl rfl ?_ | refine GoO.cmp rfl rfl rfl rfl rfl ?_ | refine GoO.off rfl rfl ?_ | refine GoO.nil ?_)
 refine GoF.seq (GoF.seq (GoF.region ?_))
 repeat (first | refine GoO.go rfl rfl rfl rfl ?_ | refine GoO.cmp rfl rfl rfl rfl rfl ?_ | refine GoO.off rfl rfl ?_ | refine GoO.nil ?_)
 refine GoF.block (GoF.seq (GoF.region ?_))
 refine GoO.bin (a := .i .u8 (Int.ofNat k)) (b := .i .u8 (Int.ofNat 1)) (v := .b (decide (k = 1))) rfl rfl rfl rfl (bin_cmp rfl) ?_
 repeat (first | refine GoO.go rfl rfl rfl rfl ?_ | refine GoO.cmp rfl rfl rfl rfl rfl ?_ | refine GoO.off rfl rfl ?_ | refine GoO.nil ?_)
 refine GoF.cnd rfl (fun h => ?_) (fun h => ?_)
 ·have hk := of_decide_eq_true h
  repeat (first | refine GoO.go rfl rfl rfl rfl ?_ | refine GoO.cmp rfl rfl rfl rfl rfl ?_ | refine GoO.off rfl rfl ?_ | refine GoO.nil ?_ | refine GoF.seq ?_ | refine GoF.region ?_ | refine GoF.skip ?_ | refine GoF.block ?_)
  refine GoO.known hf ep.1 ep.2 (hp l hl) rfl rfl rfl (snaps1 rfl) ?_
  repeat (first | refine GoO.go rfl rfl rfl rfl ?_ | refine GoO.cmp rfl rfl rfl rfl rfl ?_ | refine GoO.off rfl rfl ?_ | refine GoO.nil ?_ | refine GoF.seq ?_ | refine GoF.region ?_ | refine GoF.skip ?_ | refine GoF.block ?_)
  exact GoF.ret ⟨rfl, by show some (AV.b (isPred l)) = some (AV.b (namedB k l)); unfold namedB; rw [if_pos hk]⟩
 have h1 := of_decide_eq_false h
 refine GoF.seq (GoF.region ?_)
 refine GoO.bin (a := .i .u8 (Int.ofNat k)) (b := .i .u8 (Int.ofNat 2)) (v := .b (decide (k = 2))) rfl rfl rfl rfl (bin_cmp rfl) ?_
 repeat (first | refine GoO.go rfl rfl rfl rfl ?_ | refine GoO.cmp rfl rfl rfl rfl rfl ?_ | refine GoO.off rfl rfl ?_ | refine GoO.nil ?_)
 refine GoF.cnd rfl (fun h => ?_) (fun h => ?_)
 ·have hk := of_decide_eq_true h
  repeat (first | refine GoO.go rfl rfl rfl rfl ?_ | refine GoO.cmp rfl rfl rfl rfl rfl ?_ | refine GoO.off rfl rfl ?_ | refine GoO.nil ?_ | refine GoF.seq ?_ | refine GoF.region ?_ | refine GoF.skip ?_ | refine GoF.block ?_)
  refine GoO.known hf ev.1 ev.2 (hv l hl) rfl rfl rfl (snaps1 rfl) ?_
  repeat (first | refine GoO.go rfl rfl rfl rfl ?_ | refine GoO.cmp rfl rfl rfl rfl rfl ?_ | refine GoO.off rfl rfl ?_ | refine GoO.nil ?_ | refine GoF.seq ?_ | refine GoF.region ?_ | refine GoF.skip ?_ | refine GoF.block ?_)
  exact GoF.ret ⟨rfl, by show some (AV.b (isVar l)) = some (AV.b (namedB k l)); unfold namedB; rw [if_neg h1, if_pos hk]⟩
 have h2 := of_decide_eq_false h
 refine GoF.seq (GoF.region ?_)
 refine GoO.bin (a := .i .u8 (Int.ofNat k)) (b := .i .u8 (Int.ofNat 3)) (v := .b (decide (k = 3))) rfl rfl rfl rfl (bin_cmp rfl) ?_
 repeat (first | refine GoO.go rfl rfl rfl rfl ?_ | refine GoO.cmp rfl rfl rfl rfl rfl ?_ | refine GoO.off rfl rfl ?_ | refine GoO.nil ?_)
 refine GoF.cnd rfl (fun h => ?_) (fun h => ?_)
 ·have hk := of_decide_eq_true h
  repeat (first | refine GoO.go rfl rfl rfl rfl ?_ | refine GoO.cmp rfl rfl rfl rfl rfl ?_ | refine GoO.off rfl rfl ?_ | refine GoO.nil ?_ | refine GoF.seq ?_ | refine GoF.region ?_ | refine GoF.skip ?_ | refine GoF.block ?_)
  refine GoO.known hf em.1 em.2 (hm l hl) rfl rfl rfl (snaps1 rfl) ?_
  repeat (first | refine GoO.go rfl rfl rfl rfl ?_ | refine GoO.cmp rfl rfl rfl rfl rfl ?_ | refine GoO.off rfl rfl ?_ | refine GoO.nil ?_ | refine GoF.seq ?_ | refine GoF.region ?_ | refine GoF.skip ?_ | refine GoF.block ?_)
  exact GoF.ret ⟨rfl, by show some (AV.b (isFMeta l)) = some (AV.b (namedB k l)); unfold namedB; rw [if_neg h1, if_neg h2, if_pos hk]⟩
 have h3 := of_decide_eq_false h
 repeat (first | refine GoO.go rfl rfl rfl rfl ?_ | refine GoO.cmp rfl rfl rfl rfl rfl ?_ | refine GoO.off rfl rfl ?_ | refine GoO.nil ?_ | refine GoF.seq ?_ | refine GoF.region ?_ | refine GoF.skip ?_ | refine GoF.block ?_)
 refine GoO.bin (a := .s l) (b := .s []) (v := .b (eqL l [])) rfl rfl rfl rfl rfl ?_
 repeat (first | refine GoO.go rfl rfl rfl rfl ?_ | refine GoO.cmp rfl rfl rfl rfl rfl ?_ | refine GoO.off rfl rfl ?_ | refine GoO.nil ?_ | refine GoF.seq ?_ | refine GoF.region ?_ | refine GoF.skip ?_ | refine GoF.block ?_)
 exact GoF.ret ⟨rfl, by show some (AV.b (eqL l [])) = some (AV.b (namedB k l)); unfold namedB; rw [if_neg h1, if_neg h2, if_neg h3]⟩
theorem op_fieldT {ev : AOpd → Option AV} {σ : St} {off : Nat} {sh : Option Nat} {x : AOpd} {o : Bool} {cs : List AV} {v : AV} (h1 : ev x = some (.tp o (.ag cs))) (h2 : takeSh sh (cs.drop off) = some v) : opx 0 ev σ (.fieldAddr off sh x) = some (.val (.tp o v) σ) := by
 show (match ev x with | some x => (match fieldAddrA off sh x with | some v => some (OpR.val v σ) | none => none) | none => none) = _
 rw [h1]
 show (match (match takeSh sh (cs.drop off) with | some v => some (AV.tp o v) | none => none) with | some v => some (OpR.val v σ) | none => none) = _
 rw [h2]
include hf in
theorem instance_go (hv : ∀ l, l.length < 2 ^ 62 → K n_Variable [.s l] (.b (isVar l))) (ev : b.ext n_Variable = 0 ∧ b.pure n_Variable = true) (hm : ∀ l, l.length < 2 ^ 62 → K n_termMeta [.s l] (.b (isTMeta l))) (em : b.ext n_termMeta = 0 ∧ b.pure n_termMeta = true)
  (a : Option (List Tm)) (hl : (a.getD []).length < 2 ^ 62) (hn : ∀ t ∈ a.getD [], t.name.length < 2 ^ 62) (body : ACode) (hb : c_instance.body = some body) : GoF (b.envK K) 32 body (argF [tmsA true a]) ⟨.nil, 0⟩ (Done 2 (.b (instB (a.getD [])))) := by
 cases hb
 refine GoF.seq (GoF.region ?_)
 repeat (first | refine GoO.go rfl rfl rfl rfl ?_ | refine GoO.cmp rfl rfl rfl rfl rfl ?_ | refine GoO.off rfl rfl ?_ | refine GoO.nil ?_)
 refine GoF.seq (GoF.region ?_)
 refine GoO.go rfl rfl rfl rfl ?_
 refine GoO.len rfl rfl rfl tmsA_len ?_
 by_cases h2 : (a.getD []).length = 2
 ·refine GoO.bin (a := nI (a.getD []).length) (b := nI 2) (v := .b true) rfl rfl rfl rfl (bin_cmp (ctrue h2)) ?_
  obtain ⟨x, y, hxy⟩ : ∃ x y, a.getD [] = [x, y] := by
   match hl2 : a.getD [], h2 with
   | [x, y], _ => exact ⟨x, y, rfl⟩
  have i0 : idxSlA (some 3) (tmsA true a) 0 = some (.tp true (x.A true)) := by
   rw [tmsA_idx (by omega)]; congr 2; simp [hxy]
  have i1 : idxSlA (some 3) (tmsA true a) 1 = some (.tp true (y.A true)) := by
   rw [tmsA_idx (by omega)]; congr 2; simp [hxy]
  have hnx := hn x (by rw [hxy]; simp)
  have hny := hn y (by rw [hxy]; simp)
  rw [hxy]
  have hi : instB [x, y] = (x.var && (isVar x.name && (y.var && isTMeta y.name))) := rfl
  rw [hi]
  repeat (first | refine GoO.go rfl rfl rfl rfl ?_ | refine GoO.cmp rfl rfl rfl rfl rfl ?_ | refine GoO.off rfl rfl ?_ | refine GoO.nil ?_)
  refine GoO.idx (j := 0) rfl rfl rfl rfl i0 ?_
  refine GoO.val rfl rfl (op_fieldT (cs := x.cells true) rfl (Tm.ldV true x)) ?_
  refine GoO.ldt rfl rfl rfl rfl ?_
  cases hxv : x.var with
  | false =>
   repeat (first | refine GoO.go rfl rfl rfl rfl ?_ | refine GoO.cmp rfl rfl rfl rfl rfl ?_ | refine GoO.off rfl rfl ?_ | refine GoO.nil ?_)
   exact GoF.ret ⟨rfl, rfl⟩
  | true =>
   repeat (first | refine GoO.go rfl rfl rfl rfl ?_ | refine GoO.cmp rfl rfl rfl rfl rfl ?_ | refine GoO.off rfl rfl ?_ | refine GoO.nil ?_)
   refine GoO.idx (j := 0) rfl rfl rfl rfl i0 ?_
   refine GoO.val rfl rfl (op_fieldT (cs := x.cells true) rfl (Tm.ldN true x)) ?_
   refine GoO.ldt rfl rfl rfl rfl ?_
   refine GoO.known hf ev.1 ev.2 (hv x.name hnx) rfl rfl rfl (snaps1 rfl) ?_
   cases hxn : isVar x.name with
   | false =>
    repeat (first | refine GoO.go rfl rfl rfl rfl ?_ | refine GoO.cmp rfl rfl rfl rfl rfl ?_ | refine GoO.off rfl rfl ?_ | refine GoO.nil ?_)
    exact GoF.ret ⟨rfl, rfl⟩
   | true =>
    repeat (first | refine GoO.go rfl rfl rfl rfl ?_ | refine GoO.cmp rfl rfl rfl rfl rfl ?_ | refine GoO.off rfl rfl ?_ | refine GoO.nil ?_)
    refine GoO.idx (j := 1) rfl rfl rfl rfl i1 ?_
    refine GoO.val rfl rfl (op_fieldT (cs := y.cells true) rfl (Tm.ldV true y)) ?_
    refine GoO.ldt rfl rfl rfl rfl ?_
    cases hyv : y.var with
    | false =>
     repeat (first | refine GoO.go rfl rfl rfl rfl ?_ | refine GoO.cmp rfl rfl rfl rfl rfl ?_ | refine GoO.off rfl rfl ?_ | refine GoO.nil ?_)
     exact GoF.ret ⟨rfl, rfl⟩
    | true =>
     repeat (first | refine GoO.go rfl rfl rfl rfl ?_ | refine GoO.cmp rfl rfl rfl rfl rfl ?_ | refine GoO.off rfl rfl ?_ | refine GoO.nil ?_)
     refine GoO.idx (j := 1) rfl rfl rfl rfl i1 ?_
     refine GoO.val rfl rfl (op_fieldT (cs := y.cells true) rfl (Tm.ldN true y)) ?_
     refine GoO.ldt rfl rfl rfl rfl ?_
     refine GoO.known hf em.1 em.2 (hm y.name hny) rfl rfl rfl (snaps1 rfl) ?_
     repeat (first | refine GoO.go rfl rfl rfl rfl ?_ | refine GoO.cmp rfl rfl rfl rfl rfl ?_ | refine GoO.off rfl rfl ?_ | refine GoO.nil ?_)
     exact GoF.ret ⟨rfl, rfl⟩
 ·refine GoO.bin (a := nI (a.getD []).length) (b := nI 2) (v := .b false) rfl rfl rfl rfl (bin_cmp (cfalse h2)) ?_
  repeat (first | refine GoO.go rfl rfl rfl rfl ?_ | refine GoO.cmp rfl rfl rfl rfl rfl ?_ | refine GoO.off rfl rfl ?_ | refine GoO.nil ?_)
  refine GoF.ret ⟨rfl, ?_⟩
  have : instB (a.getD []) = false := by
   unfold instB
   split
   ·rename_i x y e; rw [e] at h2; simp at h2
   ·rfl
  rw [this]; rfl
end
end Go.Lyc
end
noncomputable section
namespace Go.Lyc
open Go.RowKit Go.Lyc.T
theorem Tm.frz (σ : St) (n : Nat) (t : Tm) (o : Bool) : freeze σ 0 (n + 2) (t.A o) = some (t.A o) := by
 unfold Tm.A
 rw [Tm.cells_eq, freeze_succ]
 simp only []
 have : mapO (freeze σ 0 (n + 1)) [.b t.var, .s t.name, tmsA o t.oargs] = some [.b t.var, .s t.name, tmsA o t.oargs] := by
  rw [mapO_cons', mapO_cons', mapO_cons']
  cases t.oargs <;> rfl
 rw [this]
theorem Fm.frz (σ : St) (n : Nat) (t : Fm) (o : Bool) : freeze σ 0 (n + 2) (t.A o) = some (t.A o) := by
 unfold Fm.A
 rw [Fm.cells_eq, freeze_succ]
 simp only []
 have : mapO (freeze σ 0 (n + 1)) [.i .u8 (Int.ofNat t.op), .s t.name, tmsA o t.oargs, fmsA o t.osub] = some [.i .u8 (Int.ofNat t.op), .s t.name, tmsA o t.oargs, fmsA o t.osub] := by
  rw [mapO_cons', mapO_cons', mapO_cons', mapO_cons']
  cases t.oargs <;> cases t.osub <;> rfl
 rw [this]
theorem snap_eqb {σ : St} : ∀ (n : Nat) (v w : AV), snapshot σ n v = some w → AV.eqb n v v = true
 | 0, v, w, h => by cases h
 | n + 1, v, w, h => by
  have ih := snap_eqb (σ := σ) n
  have all : ∀ {l r : List AV}, mapO (snapshot σ n) l = some r → all2 (AV.eqb n) l l = true := fun {l r} hm => all2_refl fun x hx => by
   obtain ⟨i, hi, rfl⟩ := List.getElem_of_mem hx
   have := mapO_some hm
   exact ih _ _ (this.2 i hi (by rw [this.1]; exact hi))
  cases v with
  | b x => show (x == x) = true; simp
  | i k x => show (decide (k = k) && decide (x = x)) = true; simp
  | s l => exact eqL_refl l
  | p a => cases a with
   | none => rfl
   | some a => cases h
  | tp o v => cases h
  | sl a b c d e => show (Nat.beq a a && Nat.beq b b && Nat.beq c c && decide (d = d) && decide (e = e)) = true; simp
  | nilsl => rfl
  | tl o sh xs =>
   obtain ⟨zs, hm, _⟩ := snap_tl h
   show ((o == o) && decide (sh = sh) && all2 (AV.eqb n) xs xs) = true
   rw [all hm]; simp
  | m r => cases r with
   | none => rfl
   | some r => cases h
  | f a b c => cases h
  | nf => rfl
  | it t v =>
   rw [snapshot_succ] at h
   simp only [] at h
   cases hm : snapshot σ n v with
   | none => rw [hm] at h; cases h
   | some y =>
    show (Nat.beq t t && AV.eqb n v v) = true
    rw [ih v y hm]; simp
  | ni => rfl
  | ag l =>
   obtain ⟨zs, hm, _⟩ := snap_agI h
   exact all hm
  | tu l =>
   rw [snapshot_succ] at h
   simp only [] at h
   cases hm : mapO (snapshot σ n) l with
   | none => rw [hm] at h; cases h
   | some y => exact all hm
  | um k d j => show (decide (k = k) && (Nat.beq d d && Nat.beq j j)) = true; simp
  | sx l => exact all2_refl fun x _ => eqL_refl x
theorem fresh_osl {k : Nat} {sh : Option Nat} {l : List AV} (h : ∀ x ∈ l, ∀ y ∈ x.cells, freshA k y = true) : freshA (k + 1) (.tl false sh l) = true := by
 rw [freshA_succ]
 show ((!false || l.isEmpty) && allB (fun x => allB (freshA k) x.cells) l) = true
 rw [Bool.not_false, Bool.true_or, Bool.true_and]
 exact allB_of fun x hx => allB_of fun y hy => h x hx y hy
theorem Tm.fresh : ∀ (d : Nat) (t : Tm) (k : Nat), t.dep ≤ d → d + 1 ≤ k → ∀ x ∈ t.cells false, freshA k x = true
 | 0, t, k, h, _, _, _ => by rw [Tm.dep_eq] at h; omega
 | d + 1, t, k, h, hk, x, hx => by
  obtain ⟨k, rfl⟩ : ∃ j, k = j + 2 := ⟨k - 2, by omega⟩
  rw [Tm.cells_eq] at hx
  simp only [List.mem_cons, List.not_mem_nil, or_false] at hx
  rcases hx with rfl | rfl | rfl
  ·rfl
  ·rfl
  ·cases ha : t.oargs with
   | none => rfl
   | some l =>
    refine fresh_osl (k := k + 1) fun y hy z hz => ?_
    obtain ⟨u, hu, rfl⟩ := List.mem_map.1 hy
    have hu' : u ∈ t.args := by unfold Tm.args; rw [ha]; exact hu
    exact Tm.fresh d u (k + 1) (by have := Tm.dep_arg hu'; omega) (by omega) z hz
theorem Fm.fresh : ∀ (d : Nat) (t : Fm) (k : Nat), t.dep ≤ d → d + 1 ≤ k → ∀ x ∈ t.cells false, freshA k x = true
 | 0, t, k, h, _, _, _ => by rw [Fm.dep_eq] at h; omega
 | d + 1, t, k, h, hk, x, hx => by
  obtain ⟨k, rfl⟩ : ∃ j, k = j + 2 := ⟨k - 2, by omega⟩
  rw [Fm.cells_eq] at hx
  simp only [List.mem_cons, List.not_mem_nil, or_false] at hx
  rcases hx with rfl | rfl | rfl | rfl
  ·rfl
  ·rfl
  ·cases ha : t.oargs with
   | none => rfl
   | some l =>
    refine fresh_osl (k := k + 1) fun y hy z hz => ?_
    obtain ⟨u, hu, rfl⟩ := List.mem_map.1 hy
    have hu' : u ∈ t.args := by unfold Fm.args; rw [ha]; exact hu
    exact Tm.fresh d u (k + 1) (by have := Fm.dep_arg hu'; omega) (by omega) z hz
  ·cases ha : t.osub with
   | none => rfl
   | some l =>
    refine fresh_osl (k := k + 1) fun y hy z hz => ?_
    obtain ⟨u, hu, rfl⟩ := List.mem_map.1 hy
    have hu' : u ∈ t.sub := by unfold Fm.sub; rw [ha]; exact hu
    exact Fm.fresh d u (k + 1) (by have := Fm.dep_sub hu'; omega) (by omega) z hz
theorem Fm.res (F : Fm) (h : F.dep ≤ 400) : freshA 1000 (F.A false) = true ∧ AV.eqb 1000 (F.A false) (F.A false) = true :=
 ⟨by rw [freshA_succ]; exact allB_of (Fm.fresh 400 F 999 h (by omega)), snap_eqb 1000 _ _ (Fm.snap ⟨.nil, 0⟩ false 400 F 1000 h (by omega))⟩
theorem Tm.res (F : Tm) (h : F.dep ≤ 400) : freshA 1000 (F.A false) = true ∧ AV.eqb 1000 (F.A false) (F.A false) = true :=
 ⟨by rw [freshA_succ]; exact allB_of (Tm.fresh 400 F 999 h (by omega)), snap_eqb 1000 _ _ (Tm.snap ⟨.nil, 0⟩ false 400 F 1000 h (by omega))⟩
section
variable {b : Base} {K : Nat → List AV → AV → Prop}
abbrev More (σ σ' : St) : Prop := σ.next ≤ σ'.next ∧ ∀ i o, σ.get i = some o → σ'.get i = some o
theorem v_go (hh : Here (b.envK K) n_v c_v) (nm : List Nat) (σ : St) : GoesCall (b.envK K) 0 (.f (.func n_v) [] []) [.s nm] σ (fun r σ' => r = .ok (.ag [.b true, .s nm, .nilsl]) ∧ More σ σ') := by
 refine GoesCall.codeB hh.e hh.p hh.f rfl rfl rfl rfl ?_
 refine GoF.seq (GoF.region (GoO.alloc σ.next rfl rfl rfl rfl fun τ hn h1 k1 => ?_))
 refine GoO.nil (GoF.seq (GoF.region ?_))
 refine GoO.go rfl rfl rfl rfl ?_
 refine GoO.go (v := .ag [.b true, .s nm, .nilsl]) rfl rfl rfl rfl ?_
 refine GoO.store (c' := [.b true, .s nm, .nilsl]) h1 rfl rfl rfl rfl rfl fun τ2 hn2 h2 k2 => ?_
 exact GoO.nil (GoF.ret ⟨rfl, _, _, _, _, rfl, h2, rfl, rfl, by omega, fun i o ho => k2 i o (by have := St.get_lt ho; omega) (k1 i o ho)⟩)
theorem fn_go (hh : Here (b.envK K) n_fn c_fn) (nm : List Nat) (l : AV) (hl : l = .nilsl ∨ ∃ a b c d e, l = .sl a b c d e) (σ : St) : GoesCall (b.envK K) 0 (.f (.func n_fn) [] []) [.s nm, l] σ (fun r σ' => r = .ok (.ag [.b false, .s nm, l]) ∧ More σ σ') := by
 refine GoesCall.codeB hh.e hh.p hh.f rfl rfl rfl rfl ?_
 refine GoF.seq (GoF.region (GoO.alloc σ.next rfl rfl rfl rfl fun τ hn h1 k1 => ?_))
 refine GoO.nil (GoF.seq (GoF.region ?_))
 refine GoO.go rfl rfl rfl rfl ?_
 refine GoO.go rfl rfl rfl rfl ?_
 rcases hl with rfl | ⟨a, b', c, d, e, rfl⟩
 all_goals
  refine GoO.go (v := .ag [.b false, .s nm, _]) rfl rfl rfl rfl ?_
  refine GoO.store (c' := [.b false, .s nm, _]) h1 rfl rfl rfl rfl rfl fun τ2 hn2 h2 k2 => ?_
  exact GoO.nil (GoF.ret ⟨rfl, _, _, _, _, rfl, h2, rfl, rfl, by omega, fun i o ho => k2 i o (by have := St.get_lt ho; omega) (k1 i o ho)⟩)
theorem atom8_go (hh : Here (b.envK K) n_atom8 c_atom8) (nm : List Nat) (l : AV) (hl : l = .nilsl ∨ ∃ a b c d e, l = .sl a b c d e) (σ : St) : GoesCall (b.envK K) 0 (.f (.func n_atom8) [] []) [.s nm, l] σ (fun r σ' => r = .ok (.ag [.i .u8 1, .s nm, l, .nilsl]) ∧ More σ σ') := by
 refine GoesCall.codeB hh.e hh.p hh.f rfl rfl rfl rfl ?_
 refine GoF.seq (GoF.region (GoO.alloc σ.next rfl rfl rfl rfl fun τ hn h1 k1 => ?_))
 refine GoO.nil (GoF.seq (GoF.region ?_))
 refine GoO.go rfl rfl rfl rfl ?_
 refine GoO.go rfl rfl rfl rfl ?_
 rcases hl with rfl | ⟨a, b', c, d, e, rfl⟩
 all_goals
  refine GoO.go (v := .ag [.i .u8 1, .s nm, _, .nilsl]) rfl rfl rfl rfl ?_
  refine GoO.store (c' := [.i .u8 1, .s nm, _, .nilsl]) h1 rfl rfl rfl rfl rfl fun τ2 hn2 h2 k2 => ?_
  exact GoO.nil (GoF.ret ⟨rfl, _, _, _, _, rfl, h2, rfl, rfl, by omega, fun i o ho => k2 i o (by have := St.get_lt ho; omega) (k1 i o ho)⟩)
theorem join8_go (hh : Here (b.envK K) n_join8 c_join8) (op : Nat) (l : AV) (hl : l = .nilsl ∨ ∃ a b c d e, l = .sl a b c d e) (σ : St) : GoesCall (b.envK K) 0 (.f (.func n_join8) [] []) [.i .u8 (Int.ofNat op), l] σ (fun r σ' => r = .ok (.ag [.i .u8 (Int.ofNat op), .s [], .nilsl, l]) ∧ More σ σ') := by
 refine GoesCall.codeB hh.e hh.p hh.f rfl rfl rfl rfl ?_
 refine GoF.seq (GoF.region (GoO.alloc σ.next rfl rfl rfl rfl fun τ hn h1 k1 => ?_))
 refine GoO.nil (GoF.seq (GoF.region ?_))
 refine GoO.go rfl rfl rfl rfl ?_
 refine GoO.go rfl rfl rfl rfl ?_
 rcases hl with rfl | ⟨a, b', c, d, e, rfl⟩
 all_goals
  refine GoO.go (v := .ag [.i .u8 (Int.ofNat op), .s [], .nilsl, _]) rfl rfl rfl rfl ?_
  refine GoO.store (c' := [.i .u8 (Int.ofNat op), .s [], .nilsl, _]) h1 rfl rfl rfl rfl rfl fun τ2 hn2 h2 k2 => ?_
  exact GoO.nil (GoF.ret ⟨rfl, _, _, _, _, rfl, h2, rfl, rfl, by omega, fun i o ho => k2 i o (by have := St.get_lt ho; omega) (k1 i o ho)⟩)
def vT (c : Nat) : Tm := .mk true [c] none
def fT (t : Tm) : Tm := .mk false [102] (some [t])
def baseT (q : Nat) : Tm := if q = 0 then vT 120 else if q = 1 then vT 121 else if q = 2 then vT 122 else .mk false [97] none
def itT (t : Tm) : Nat → Tm
 | 0 => t
 | k + 1 => fT (itT t k)
def builtT (c : Nat) : Tm := itT (baseT (c % 4)) ((c / 4) % 3)
theorem BuiltTerm_go (hv : Here (b.envK K) n_v c_v) (hfn : Here (b.envK K) n_fn c_fn) (c : Nat) (hc : c < 256) (body : ACode) (hb : c_BuiltTerm.body = some body) : GoF (b.envK K) 26 body (argF [uB c]) ⟨.nil, 0⟩ (BoxR 2 (some 3) fun v σ' => freeze σ' 0 1000 v = some ((builtT c).A false)) := by
 cases hb
 refine GoF.seq (GoF.region (GoO.alloc 0 rfl rfl rfl rfl fun τ hn h0 _ => ?_))
 refine GoO.nil (GoF.seq (GoF.region ?_))
 refine GoO.callG rfl rfl rfl (v_go hv [120] τ) fun r τ1 ⟨e1, n1, k1⟩ => ⟨_, e1, ?_⟩
 refine GoO.callG rfl rfl rfl (v_go hv [121] τ1) fun r τ2 ⟨e2, n2, k2⟩ => ⟨_, e2, ?_⟩
 refine GoO.callG rfl rfl rfl (v_go hv [122] τ2) fun r τ3 ⟨e3, n3, k3⟩ => ⟨_, e3, ?_⟩
 refine GoO.callG rfl rfl rfl (fn_go hfn [97] .nilsl (.inl rfl) τ3) fun r τ4 ⟨e4, n4, k4⟩ => ⟨_, e4, ?_⟩
 replace h0 := k4 _ _ (k3 _ _ (k2 _ _ (k1 _ _ h0)))
 clear k1 k2 k3 k4 e1 e2 e3 e4
 generalize hk : τ4.next = k
 refine GoO.bsl (c := [.b true, .s [120], .nilsl, .b true, .s [121], .nilsl, .b true, .s [122], .nilsl, .b false, .s [97], .nilsl]) k hk rfl rfl rfl fun τ5 n5 h5 k5 => ?_
 replace h0 := k5 _ _ h0
 refine GoO.go rfl rfl rfl rfl ?_
 refine GoO.bin (a := uB c) (b := uB 4) rfl rfl rfl rfl (bin_rem (by omega)) ?_
 have hq : c % 4 < 4 := Nat.mod_lt _ (by omega)
 refine GoO.idx (j := c % 4) rfl rfl rfl rfl (idxSlA_sl hq) ?_
 have hbase : takeSh (some 3) (([.b true, .s [120], .nilsl, .b true, .s [121], .nilsl, .b true, .s [122], .nilsl, .b false, .s [97], .nilsl] : List AV).drop (0 + c % 4 * 3)) = some ((baseT (c % 4)).A false) := by
  generalize c % 4 = q at hq
  have : q = 0 ∨ q = 1 ∨ q = 2 ∨ q = 3 := by omega
  rcases this with rfl | rfl | rfl | rfl <;> rfl
 refine GoO.ld h5 rfl rfl rfl hbase ?_
 refine GoO.var (v := (baseT (c % 4)).A false) (c := (baseT (c % 4)).cells false) (k + 1) (by omega) rfl rfl rfl (Tm.conf false _) rfl (Tm.len false _) fun τ6 n6 h6 k6 => ?_
 replace h0 := k6 _ _ h0
 have hkk : 0 < k := by have := St.get_lt h0; omega
 refine GoO.nil (GoF.seq (GoF.seq (GoF.region ?_)))
 repeat (first | refine GoO.go rfl rfl rfl rfl ?_ | refine GoO.cmp rfl rfl rfl rfl rfl ?_ | refine GoO.off rfl rfl ?_ | refine GoO.nil ?_)
 refine GoF.block ?_
 refine GoF.loop (fun m f σ' => k + 2 ≤ σ'.next ∧ σ'.get 0 = some (.cells (AV.ag [.b false, .s [], .nilsl]).cells) ∧ ∃ i v, i + m = (c / 4) % 3 ∧ σ'.get (k + 1) = some (.cells v.cells) ∧ conf (some 3) v = true ∧ Frz (fun i => i = k + 1 ∨ i = 0) σ' (2 + 2 * i) v ((itT (baseT (c % 4)) i).A false) ∧
  sat [(0, uB c), (2, .p (some (0, 0))), (3, .p (some (k + 1, 0))), (4, nI i)] f) ?_ ((c / 4) % 3) ⟨by omega, h0, 0, (baseT (c % 4)).A false, by omega, h6, Tm.conf false _, fun σ' _ => Tm.frz σ' 0 _ false, rfl, rfl, rfl, rfl, trivial⟩
 clear h0 h5 h6 k5 k6 n5 n6
 intro m g σ ⟨hn, h0, i, v, hi, h6, hcf, hfz, hL⟩
 refine GoF.norm _ hL fun g => ?_
 clear hL
 refine GoF.seq (GoF.seq (GoF.region ?_))
 refine GoO.go rfl rfl rfl rfl ?_
 refine GoO.go rfl rfl rfl rfl ?_
 refine GoO.bin (a := uB c) (b := uB 4) rfl rfl rfl rfl (bin_quo8 (by omega) hc) ?_
 refine GoO.val rfl rfl (op_conv (a := c / 4) rfl (by omega)) ?_
 refine GoO.bin (a := nI (c / 4)) (b := nI 3) rfl rfl rfl rfl (bin_rem (by omega)) ?_
 refine GoO.bin (a := nI i) (b := nI (c / 4 % 3)) (v := .b (decide (i < c / 4 % 3))) rfl rfl rfl rfl (bin_cmp rfl) ?_
 repeat (first | refine GoO.go rfl rfl rfl rfl ?_ | refine GoO.cmp rfl rfl rfl rfl rfl ?_ | refine GoO.off rfl rfl ?_ | refine GoO.nil ?_)
 refine GoF.cnd rfl (fun ht => ?_) (fun hf => ?_)
 ·have hlt : i < c / 4 % 3 := of_decide_eq_true ht
  obtain ⟨l, rfl, hl3⟩ := conf_some hcf
  refine GoF.skip (GoF.seq (GoF.block (GoF.region ?_)))
  refine GoO.ld (v := .ag l) h6 rfl rfl rfl (take_conf hcf) ?_
  generalize hz : σ.next = z at hn
  obtain ⟨x0, x1, x2, rfl⟩ : ∃ x0 x1 x2, l = [x0, x1, x2] := by
   match l, hl3 with
   | [x0, x1, x2], _ => exact ⟨x0, x1, x2, rfl⟩
  refine GoO.bsl (c := [x0, x1, x2]) z hz rfl rfl rfl fun τ1 n1 h7 k7 => ?_
  refine GoO.callG rfl rfl rfl (fn_go hfn [102] (.sl z 0 1 (some 3) (some 1)) (.inr ⟨_, _, _, _, _, rfl⟩) τ1) fun r τ2 ⟨e2, n2, k2⟩ => ⟨_, e2, ?_⟩
  have h7' := k2 _ _ h7
  have h6' := k2 _ _ (k7 _ _ h6)
  have h0' := k2 _ _ (k7 _ _ h0)
  have hfz' := hfz.keep (σ' := τ2) fun j o _ hj => k2 _ _ (k7 _ _ hj)
  refine GoO.store (c' := [.b false, .s [102], .sl z 0 1 (some 3) (some 1)]) h6' rfl rfl rfl rfl rfl fun τ3 n3 h8 k8 => ?_
  refine GoO.nil (GoF.region ?_)
  refine GoO.go rfl rfl rfl rfl ?_
  refine GoO.bin (a := nI i) (b := nI 1) rfl rfl rfl rfl (bin_add (by omega)) ?_
  repeat (first | refine GoO.go rfl rfl rfl rfl ?_ | refine GoO.cmp rfl rfl rfl rfl rfl ?_ | refine GoO.off rfl rfl ?_ | refine GoO.nil ?_)
  have h7'' := k8 z _ (by omega) h7'
  have hfz'' := hfz'.keep (σ' := τ3) fun j o hj ho => k8 _ _ (fun e => hj (.inl e)) ho
  have hsl := Frz.one (sh := some 3) (cap := some 1) (v := .ag [x0, x1, x2]) h7'' (by omega) rfl hfz''
  refine ⟨m - 1, by omega, by omega, k8 _ _ (by omega) h0', i + 1, .ag [.b false, .s [102], .sl z 0 1 (some 3) (some 1)], by omega, h8, rfl, ?_, rfl, rfl, rfl, rfl, trivial⟩
  have e : 2 + 2 * (i + 1) = (2 + 2 * i + 1) + 1 := by omega
  rw [e]
  exact Frz.ag fun σ' h' => by rw [mapO_cons', mapO_cons', mapO_cons', hsl σ' h']; rfl
 ·have hge : ¬ i < c / 4 % 3 := of_decide_eq_false hf
  obtain rfl : i = c / 4 % 3 := by omega
  obtain ⟨l, rfl, hl3⟩ := conf_some hcf
  refine GoF.exit ?_
  refine GoF.seq (GoF.region ?_)
  refine GoO.ld (v := .ag l) h6 rfl rfl rfl (take_conf hcf) ?_
  refine GoO.store (c' := l) h0 rfl rfl rfl hcf (storeAll hl3) fun τ3 n3 h8 k8 => ?_
  have hkz : 0 < k + 1 := by omega
  refine GoO.nil (GoF.ret ⟨rfl, _, _, _, .ag l, rfl, h8, take_conf hcf, ?_⟩)
  exact freeze_le (hfz τ3 fun i o hi ho => k8 i o (fun e => hi (.inr e)) ho) (by have := Nat.mod_lt (c / 4) (show 0 < 3 by omega); omega)
end
end Go.Lyc
end
noncomputable section
namespace Go.Lyc
open Go.RowKit Go.Lyc.T
def optN {α : Type} : List α → Option (List α)
 | [] => none
 | x :: l => some (x :: l)
mutual
def Fm.strip : Fm → Fm
 | .mk op n _ none => .mk op n none none
 | .mk op n _ (some l) => if op = 8 ∨ op = 9 then Fm.stripH l else .mk op n none (optN (Fm.strips l))
def Fm.stripH : List Fm → Fm
 | [] => .mk 0 [] none none
 | f :: _ => f.strip
def Fm.strips : List Fm → List Fm
 | [] => []
 | f :: l => f.strip :: Fm.strips l
end
theorem Fm.strips_map : ∀ l : List Fm, Fm.strips l = l.map Fm.strip
 | [] => by rw [Fm.strips]; rfl
 | f :: l => by rw [Fm.strips, Fm.strips_map l]; rfl
theorem Fm.strip_q {F : Fm} (h : F.op = 8 ∨ F.op = 9) (h1 : 0 < F.sub.length) : F.strip = (F.sub[0]).strip := by
 obtain ⟨op, n, a, s⟩ := F
 cases s with
 | none => exact absurd h1 (Nat.lt_irrefl 0)
 | some l =>
  cases l with
  | nil => exact absurd h1 (Nat.lt_irrefl 0)
  | cons g l =>
   rw [Fm.strip, if_pos (show op = 8 ∨ op = 9 from h), Fm.stripH]; rfl
theorem Fm.strip_n {F : Fm} (h : ¬ (F.op = 8 ∨ F.op = 9)) : F.strip = .mk F.op F.name none (optN (F.sub.map Fm.strip)) := by
 obtain ⟨op, n, a, s⟩ := F
 cases s with
 | none => rw [Fm.strip]; rfl
 | some l => rw [Fm.strip, if_neg (show ¬ (op = 8 ∨ op = 9) from h), Fm.strips_map]; rfl
theorem slA_optN {o : Bool} {l : List Fm} : slA o (some 4) (l.map fun f => f.A o) = fmsA o (optN l) := by cases l <;> rfl
theorem Acc.take0 {σ : St} {sh : Option Nat} {v : AV} {xs l : List AV} (h : Acc σ sh v xs) : takeSh none (v :: l) = some v := by cases h <;> rfl
theorem Acc.conf0 {σ : St} {sh : Option Nat} {v : AV} {xs : List AV} (h : Acc σ sh v xs) : Go.Lyc.conf none v = true := by cases h <;> rfl
theorem Acc.eqb0 {σ : St} {sh : Option Nat} {v : AV} {xs : List AV} (h : Acc σ sh v xs) : AV.eqb 1000 v v = true := by
 cases h with
 | nil => rfl
 | sl o x xs h hc =>
  show (Nat.beq o o && Nat.beq 0 0 && Nat.beq (xs.length + 1) (xs.length + 1) && decide (sh = sh) && decide ((none : Option Nat) = none)) = true
  simp
theorem newOf_one {σ : St} {id : Nat} {sh cap : Option Nat} {y : AV} (hg : σ.get id = some (.cells y.cells)) (hc : conf sh y = true) : newOf σ (.sl id 0 1 sh cap) = some [y] := by
 show readList σ (.sl id 0 1 sh cap) = _
 show (match σ.get id with | some (.cells c) => elems sh 1 (c.drop 0) | _ => none) = _
 rw [hg]
 have := elems_flat (sh := sh) (xs := [y]) (r := []) (by intro w hw; rw [List.mem_singleton.1 hw]; exact hc)
 simpa using this
section
variable {b : Base} {K : Nat → List AV → AV → Prop} (hf : ∀ g ar r r', K g ar r → K g ar r' → r = r')
include hf in
theorem stripped_go (he : b.ext n_stripped = 0) (hp : b.pure n_stripped = true) (F : Fm) (hs : ∀ G ∈ F.sub, K n_stripped [G.A true] (G.strip.A false)) (hd : F.dep ≤ 400) (hlen : F.sub.length < 1000) (hop : F.op < 256) (hq : F.op = 8 ∨ F.op = 9 → 0 < F.sub.length) (body : ACode) (hb : c_stripped.body = some body) :
  GoF (b.envK K) 40 body (argF [F.A true]) ⟨.nil, 0⟩ (BoxR 2 (some 4) fun v σ' => freeze σ' 0 1000 v = some (F.strip.A false)) := by
 cases hb
 have hsn : ∀ G ∈ F.sub, ∀ σ : St, snapshot σ 1000 (G.A true) = some (G.A true) := fun G hG σ => Fm.snap σ true 400 G 1000 (by have := Fm.dep_sub hG; omega) (by omega)
 refine GoF.seq (GoF.region (GoO.box (v := F.A true) (c := F.cells true) 0 rfl rfl rfl rfl rfl rfl fun σ1 hn1 h0 _ => ?_))
 refine GoO.alloc 1 hn1 rfl rfl rfl fun σ hn h1 k1 => ?_
 replace h0 := k1 _ _ h0
 clear k1 hn1
 refine GoO.nil ?_
 refine GoF.cutR [(1, .p (some (0, 0))), (2, .p (some (1, 0)))] (E := BoxR 2 (some 4) fun v σ' => freeze σ' 0 1000 v = some (F.strip.A false)) (M := ¬ (F.op = 8 ∨ F.op = 9)) ?_ (fun x f' σ' h => ⟨fun e => (by have := h.1; rw [e] at this; cases this), h⟩) fun hnq g => ?_
 ·refine GoF.seq (GoF.region ?_)
  refine GoO.go rfl rfl rfl rfl ?_
  refine GoO.ld h0 rfl rfl rfl (Fm.ldO true F) ?_
  refine GoO.bin (a := .i .u8 (Int.ofNat F.op)) (b := .i .u8 (Int.ofNat 8)) (v := .b (decide (F.op = 8))) rfl rfl rfl rfl (bin_cmp rfl) ?_
  have quant : ∀ {g : Nat → AV}, sat [(1, .p (some (0, 0))), (2, .p (some (1, 0)))] g → (F.op = 8 ∨ F.op = 9) → GoF (b.envK K) 40 (.seq (.region [⟨(some 14), .fieldAddr 3 none (.t 1), none, []⟩, ⟨(some 15), .load none (.t 14), none, []⟩, ⟨(some 16), .idxSl (some 4) (.t 15) (.c (.i .i64 0)), none, []⟩, ⟨(some 17), .load (some 4) (.t 16), none, []⟩, ⟨(some 18), .call (.fn 12) [(.t 17)], none, []⟩, ⟨none, .store (some 4) (.t 2) (.t 18), none, []⟩]) .ret) g σ (BoxR 2 (some 4) fun v σ' => freeze σ' 0 1000 v = some (F.strip.A false)) := fun {g} hL h89 => by
   refine GoF.norm _ hL fun g => ?_
   have hl := hq h89
   refine GoF.seq (GoF.region ?_)
   refine GoO.go rfl rfl rfl rfl ?_
   refine GoO.ld h0 rfl rfl rfl (Fm.ldS true F) ?_
   refine GoO.idx (j := 0) rfl rfl rfl rfl (fmsA_idx hl) ?_
   refine GoO.ldt rfl rfl rfl (Fm.conf true _) ?_
   have hm : F.sub[0] ∈ F.sub := List.getElem_mem hl
   refine GoO.known hf he hp (hs _ hm) rfl rfl rfl (snaps1 (hsn _ hm σ)) ?_
   refine GoO.store (c' := (F.sub[0]).strip.cells false) h1 rfl rfl rfl (Fm.conf false _) (storeAll (Fm.len false _)) fun τ n2 h2 k2 => ?_
   refine GoO.nil (GoF.ret ⟨rfl, _, _, _, _, rfl, h2, take_conf (v := (F.sub[0]).strip.A false) (Fm.conf false _), ?_⟩)
   rw [Fm.strip_q h89 hl]
   exact Fm.frz τ 998 _ false
  by_cases h8 : F.op = 8
  ·rw [show decide (F.op = 8) = true from decide_eq_true h8]
   repeat (first | refine GoO.go rfl rfl rfl rfl ?_ | refine GoO.cmp rfl rfl rfl rfl rfl ?_ | refine GoO.off rfl rfl ?_ | refine GoO.nil ?_)
   refine GoF.cnd rfl (fun _ => ?_) (fun h => by cases h)
   exact (quant (g := _) ⟨rfl, rfl, trivial⟩ (.inl h8)).mono fun x f σ h => .inr h
  ·rw [show decide (F.op = 8) = false from decide_eq_false h8]
   refine GoO.go rfl rfl rfl rfl ?_
   refine GoO.go rfl rfl rfl rfl ?_
   refine GoO.ld h0 rfl rfl rfl (Fm.ldO true F) ?_
   refine GoO.bin (a := .i .u8 (Int.ofNat F.op)) (b := .i .u8 (Int.ofNat 9)) (v := .b (decide (F.op = 9))) rfl rfl rfl rfl (bin_cmp rfl) ?_
   by_cases h9 : F.op = 9
   ·rw [show decide (F.op = 9) = true from decide_eq_true h9]
    repeat (first | refine GoO.go rfl rfl rfl rfl ?_ | refine GoO.cmp rfl rfl rfl rfl rfl ?_ | refine GoO.off rfl rfl ?_ | refine GoO.nil ?_)
    refine GoF.cnd rfl (fun _ => ?_) (fun h => by cases h)
    exact (quant (g := _) ⟨rfl, rfl, trivial⟩ (.inr h9)).mono fun x f σ h => .inr h
   ·rw [show decide (F.op = 9) = false from decide_eq_false h9]
    repeat (first | refine GoO.go rfl rfl rfl rfl ?_ | refine GoO.cmp rfl rfl rfl rfl rfl ?_ | refine GoO.off rfl rfl ?_ | refine GoO.nil ?_)
    refine GoF.cnd rfl (fun h => by cases h) (fun _ => ?_)
    exact GoF.skip (.inl ⟨rfl, rfl, ⟨rfl, rfl, trivial⟩, fun h => h.elim h8 h9⟩)
 rw [Fm.strip_n hnq]
 clear hq hnq
 refine GoF.seq (GoF.region ?_)
 refine GoO.go rfl rfl rfl rfl ?_
 refine GoO.ld h0 rfl rfl rfl (Fm.ldO true F) ?_
 refine GoO.go rfl rfl rfl rfl ?_
 refine GoO.ld h0 rfl rfl rfl (Fm.ldN true F) ?_
 refine GoO.go (v := .ag [.i .u8 (Int.ofNat F.op), .s F.name, .nilsl, .nilsl]) rfl rfl rfl rfl ?_
 refine GoO.var (v := .ag [.i .u8 (Int.ofNat F.op), .s F.name, .nilsl, .nilsl]) (c := [.i .u8 (Int.ofNat F.op), .s F.name, .nilsl, .nilsl]) 2 hn rfl rfl rfl rfl rfl rfl fun τ n2 h2 k2 => ?_
 replace h0 := k2 _ _ h0
 replace h1 := k2 _ _ h1
 clear k2
 refine GoO.nil (GoF.seq (GoF.seq (GoF.region ?_)))
 refine GoO.go rfl rfl rfl rfl ?_
 refine GoO.ld h0 rfl rfl rfl (Fm.ldS true F) ?_
 refine GoO.len rfl rfl rfl fmsA_len ?_
 refine GoO.go rfl rfl rfl rfl ?_
 refine GoO.nil (GoF.block ?_)
 refine GoF.loop (fun m f σ' => ∃ i v, i + m = F.sub.length ∧ 3 ≤ σ'.next ∧ σ'.get 1 = some (.cells [.i .u8 0, .s [], .nilsl, .nilsl]) ∧ σ'.get 2 = some (.cells [.i .u8 (Int.ofNat F.op), .s F.name, .nilsl, v]) ∧ Acc σ' (some 4) v ((F.sub.take i).map fun G => G.strip.A false) ∧ (∀ a, v.at? = some a → 3 ≤ a) ∧
  sat [(2, .p (some (1, 0))), (3, .p (some (2, 0))), (25, fmsA true F.osub), (26, nI F.sub.length), (27, nI i)] f) ?_ F.sub.length ⟨0, .nilsl, by omega, by omega, h1, h2, .nil, fun a h => (by cases h), rfl, rfl, rfl, rfl, rfl, trivial⟩
 clear h0 h1 h2 n2 hn
 intro m g σ ⟨i, v, hi, hn, h1, h2, hA, hat, hL⟩
 refine GoF.norm _ hL fun g => ?_
 clear hL
 refine GoF.seq (GoF.region ?_)
 refine GoO.bin (a := nI i) (b := nI F.sub.length) (v := .b (decide (i < F.sub.length))) rfl rfl rfl rfl (bin_cmp rfl) ?_
 refine GoO.nil (GoF.seq ?_)
 refine GoF.cnd rfl (fun ht => ?_) (fun hfl => ?_)
 ·have hlt : i < F.sub.length := of_decide_eq_true ht
  refine GoF.skip (GoF.seq (GoF.block (GoF.seq (GoF.region ?_))))
  refine GoO.idx (j := i) rfl rfl rfl rfl (fmsA_idx hlt) ?_
  refine GoO.ldt rfl rfl rfl (Fm.conf true _) ?_
  generalize hz : σ.next = z at hn
  refine GoO.var (v := (F.sub[i]).A true) (c := (F.sub[i]).cells true) z hz rfl rfl rfl (Fm.conf true _) rfl (Fm.len true _) fun σ2 n2 h3 k2 => ?_
  replace h1 := k2 _ _ h1
  replace h2 := k2 _ _ h2
  replace hA := hA.keep fun i o _ ho => k2 i o ho
  clear k2
  refine GoO.nil ?_
  have hm : F.sub[i] ∈ F.sub := List.getElem_mem hlt
  refine GoF.drawK 5 rfl ?_
  have hone : Ones (b.envK K) [12] := .cons (fun F args σ => call_onep he hp F args σ) .nil
  refine GoK.seg 1 rfl hone rfl ?_
  refine GoO.go rfl rfl rfl rfl ?_
  refine GoO.nil ⟨rfl, fun _ _ h => h, ?_⟩
  refine GoK.ldw (v := v) rfl rfl rfl (fun τ hk => op_load _ _ rfl (loadA_p (hk _ _ h2) hA.take0)) hA.eqb0 ?_
  refine GoK.seg 3 rfl hone rfl ?_
  refine GoO.ld h3 rfl rfl rfl (Fm.ld true _) ?_
  refine GoO.known hf he hp (hs _ hm) rfl rfl rfl (snaps1 (hsn _ hm σ2)) ?_
  refine GoO.bsl (c := (F.sub[i]).strip.cells false) (z + 1) n2 rfl rfl (by simp only [Fm.A, Fm.cells_eq]; rfl) fun σ3 n3 h4 k3 => ?_
  replace hA := hA.keep fun i o _ ho => k3 i o ho
  have h1' := k3 _ _ h1
  have h2' := k3 _ _ h2
  refine GoO.nil ⟨rfl, k3, ?_⟩
  refine GoK.fin hone rfl ?_
  refine GoO.append (y := (F.sub[i]).strip.A false) (ys := []) hA (newOf_one h4 (Fm.conf false _)) (fun x hx => by rw [List.mem_singleton.1 hx]; exact Fm.conf false _) (by simp only [List.length_map, List.length_take, List.length_cons, List.length_nil]; omega) rfl rfl rfl rfl fun v' σ4 hA' hat' n4 k4 => ?_
  refine GoO.go rfl rfl rfl rfl ?_
  replace h1' := k4 1 _ (fun e => by have := hat 1 e; omega) h1'
  replace h2' := k4 2 _ (fun e => by have := hat 2 e; omega) h2'
  refine GoO.store (c' := [.i .u8 (Int.ofNat F.op), .s F.name, .nilsl, v']) h2' rfl rfl rfl hA'.conf0 (by show storeCells _ 3 v'.cells = _; rw [conf_none_cells hA'.conf0]; rfl) fun σ5 n5 h6 k5 => ?_
  refine GoO.nil ⟨rfl, ?_⟩
  refine GoF.region ?_
  refine GoO.bin (a := nI i) (b := nI 1) rfl rfl rfl rfl (bin_add (by omega)) ?_
  refine GoO.go rfl rfl rfl rfl ?_
  refine GoO.nil ⟨m - 1, by omega, i + 1, v', by omega, by omega, k5 _ _ (by omega) h1', h6, ?_, fun a e => by rw [hat'] at e; cases e; omega, rfl, rfl, rfl, rfl, rfl, trivial⟩
  rw [List.take_succ_eq_append_getElem hlt, List.map_append]
  exact hA'.keep fun j o hj ho => k5 j o (fun e => by rw [hat'] at hj; cases hj; omega) ho
 ·have hge : ¬ i < F.sub.length := of_decide_eq_false hfl
  obtain rfl : i = F.sub.length := by omega
  refine GoF.exit ?_
  refine GoF.seq (GoF.region ?_)
  refine GoO.ld (v := .ag [.i .u8 (Int.ofNat F.op), .s F.name, .nilsl, v]) h2 rfl rfl rfl rfl ?_
  refine GoO.store (c' := [.i .u8 (Int.ofNat F.op), .s F.name, .nilsl, v]) h1 rfl rfl rfl rfl rfl fun σ2 n2 h3 k3 => ?_
  refine GoO.nil (GoF.ret ⟨rfl, _, _, _, .ag [.i .u8 (Int.ofNat F.op), .s F.name, .nilsl, v], rfl, h3, rfl, ?_⟩)
  replace hA := hA.keep (σ' := σ2) fun j o hj ho => k3 j o (fun e => by have := hat j hj; omega) ho
  rw [List.take_length] at hA
  have h5 := hA.freeze (n := 998) (ys := F.sub.map fun G => G.strip.A false) (mapO_id fun x hx => by
   obtain ⟨G, _, rfl⟩ := List.mem_map.1 hx
   exact Fm.frz σ2 996 _ false)
  have e6 : slA false (some 4) (F.sub.map fun G => G.strip.A false) = fmsA false (optN (F.sub.map Fm.strip)) := by
   rw [← slA_optN, List.map_map]; rfl
  rw [e6] at h5
  show freeze σ2 0 (999 + 1) _ = _
  rw [freeze_succ]
  simp only []
  rw [mapO_cons', mapO_cons', mapO_cons', mapO_cons', h5]
  unfold Fm.A
  rw [Fm.cells_eq]; rfl
end
end Go.Lyc
end
noncomputable section
namespace Go.Lyc
open Go.RowKit Go.Lyc.T
theorem Acc.inv {σ : St} {sh : Option Nat} {v : AV} {xs : List AV} (h : Acc σ sh v xs) (hx : 0 < xs.length) : ∃ o, v = .sl o 0 xs.length sh none ∧ σ.get o = some (.cells (xs.flatMap AV.cells)) ∧ ∀ y ∈ xs, Go.Lyc.conf sh y = true := by
 cases h with
 | nil => cases hx
 | sl o x xs h hc => exact ⟨o, rfl, h, hc⟩
theorem Acc.of {σ : St} {sh : Option Nat} {o : Nat} {xs : List AV} (hx : 0 < xs.length) (h : σ.get o = some (.cells (xs.flatMap AV.cells))) (hc : ∀ y ∈ xs, Go.Lyc.conf sh y = true) : Acc σ sh (.sl o 0 xs.length sh none) xs := by
 cases xs with
 | nil => cases hx
 | cons x xs => exact .sl o x xs h hc
theorem conf_lenN {sh : Option Nat} {x : AV} (h : conf sh x = true) : x.cells.length = shN sh := by
 cases sh with
 | none => rw [conf_none_cells h]; rfl
 | some k => obtain ⟨l, rfl, hl⟩ := conf_some h; exact hl
theorem drop_flat {sh : Option Nat} : ∀ {xs : List AV} (j : Nat), (∀ x ∈ xs, conf sh x = true) → (xs.flatMap AV.cells).drop (j * shN sh) = (xs.drop j).flatMap AV.cells
 | xs, 0, _ => by rw [Nat.zero_mul]; rfl
 | [], j + 1, _ => by simp
 | x :: xs, j + 1, h => by
  have e : (j + 1) * shN sh = x.cells.length + j * shN sh := by rw [conf_lenN (h x (by simp)), Nat.add_mul, Nat.one_mul, Nat.add_comm]
  rw [List.flatMap_cons, e, ← List.drop_drop, List.drop_left, drop_flat j fun y hy => h y (List.mem_cons_of_mem _ hy)]; rfl
theorem take_elem {sh : Option Nat} {xs : List AV} {j : Nat} (hj : j < xs.length) (h : ∀ x ∈ xs, conf sh x = true) : takeSh sh ((xs.flatMap AV.cells).drop (0 + j * shN sh)) = some xs[j] := by
 rw [Nat.zero_add, drop_flat j h, List.drop_eq_getElem_cons hj, List.flatMap_cons]
 exact (takeSh_app (h _ (List.getElem_mem hj))).1
theorem take_flat {sh : Option Nat} {xs : List AV} {k : Nat} (hk : k ≤ xs.length) (h : ∀ x ∈ xs, conf sh x = true) : elems sh k (xs.flatMap AV.cells) = some (xs.take k) := by
 have e : xs.flatMap AV.cells = (xs.take k).flatMap AV.cells ++ (xs.drop k).flatMap AV.cells := by rw [← List.flatMap_append, List.take_append_drop]
 have := elems_flat (sh := sh) (xs := xs.take k) (r := (xs.drop k).flatMap AV.cells) fun x hx => h x (List.mem_of_mem_take hx)
 rw [← e, List.length_take, Nat.min_eq_left hk] at this
 exact this
theorem op_slice3 {ev : AOpd → Option AV} {σ : St} {sh : Option Nat} {s hi mx : AOpd} {o n k : Nat} (h1 : ev s = some (.sl o 0 n sh none)) (h2 : ev hi = some (nI k)) (h3 : ev mx = some (nI k)) (hk : k ≤ n) : opx 0 ev σ (.sliceSl sh s none (some hi) (some mx)) = some (.val (.sl o 0 k sh (some k)) σ) := by
 have e : sliceA ev sh (.sl o 0 n sh none) none (some hi) (some mx) = some (.sl o 0 k sh (some k)) := by
  have b1 : ∀ d, bndO ev (some hi) d = some k := fun d => by unfold bndO; simp only [h2]; rfl
  have b2 : ∀ d, bndO ev (some mx) d = some k := fun d => by unfold bndO; simp only [h3]; rfl
  unfold sliceA
  simp only [if_pos]
  rw [b1, b2]
  show (match some 0, some k with | some l, some h => _ | _, _ => none) = _
  simp [Nat.ble_eq_true_of_le hk, bndO]
 show (match ev s with | some v => (match sliceA ev sh v none (some hi) (some mx) with | some v => some (OpR.val v σ) | none => none) | none => none) = _
 rw [h1]
 show (match sliceA ev sh (.sl o 0 n sh none) none (some hi) (some mx) with | some v => some (OpR.val v σ) | none => none) = _
 rw [e]
theorem cut_append {σ : St} {sh : Option Nat} {xs : List AV} {o k : Nat} {x y : AV} {bytes : Nat} (h : σ.get o = some (.cells (xs.flatMap AV.cells))) (hc : ∀ z ∈ xs, conf sh z = true) (hk : k ≤ xs.length) (hx : newOf σ x = some [y]) (hy : conf sh y = true) (hb : (3 * (k + 1) + 2000) * bytes ≤ 281474976710656) :
  appendO 0 σ sh bytes (.sl o 0 k sh (some k)) x = some (.sl σ.next 0 (k + 1) sh none, σ.push (.cells ((xs.take k ++ [y]).flatMap AV.cells))) := by
 have hr : readList σ (.sl o 0 k sh (some k)) = some (xs.take k) := by
  show (match σ.get o with | some (.cells c) => elems sh k (c.drop 0) | _ => none) = _
  rw [h]
  exact take_flat hk hc
 unfold appendO
 rw [hr, hx]
 show cond (allB (conf sh) (xs.take k) && allB (conf sh) [y] && Nat.ble ((3 * ((xs.take k).length + 1) + 2000) * bytes) 281474976710656) _ none = _
 rw [allB_of fun z hz => hc z (List.mem_of_mem_take hz), allB_of fun z hz => (by rw [List.mem_singleton.1 hz]; exact hy), List.length_take, Nat.min_eq_left hk, Nat.ble_eq_true_of_le hb]
 show (if sh = sh then cond (Nat.ble (k + 1) k) _ _ else none) = _
 rw [if_pos rfl, show Nat.ble (k + 1) k = false from by rw [Bool.eq_false_iff]; exact fun e => by have := Nat.le_of_ble_eq_true e; omega, cond_false]
 rw [List.flatMap_append]; rfl
section
variable {env : Env} {wh : Option Nat} {D : List (Nat ⊕ (AV × List AV))} {n : Nat} {f : Nat → AV} {σ : St} {Q : PostF}
theorem GoO.cutApp {d : Nat} {sh : Option Nat} {bytes : Nat} {s x : AOpd} {wn : List Nat} {ops : List AOper} {xs : List AV} {o k : Nat} {b y : AV} (h : σ.get o = some (.cells (xs.flatMap AV.cells))) (hc : ∀ z ∈ xs, conf sh z = true) (hk : k ≤ xs.length) (hx : newOf σ b = some [y]) (hy : conf sh y = true) (hb : (3 * (k + 1) + 2000) * bytes ≤ 281474976710656)
  (hd : Nat.blt d n = true) (h1 : evF env n f s = some (.sl o 0 k sh (some k))) (h2 : evF env n f x = some b)
  (hQ : ∀ v σ', Acc σ' sh v (xs.take k ++ [y]) → v.at? = some σ.next → σ'.next = σ.next + 1 → (∀ i o, σ.get i = some o → σ'.get i = some o) → GoV env wh D n ops (upd f d v) σ' Q) : GoV env wh D n (⟨some d, .append sh bytes s x, none, wn⟩ :: ops) f σ Q := by
 refine GoO.val hd rfl (op_append h1 h2 (cut_append h hc hk hx hy hb)) (hQ _ _ ?_ rfl rfl fun i o ho => by rw [St.get_push_old trivial _ (St.get_lt ho)]; exact ho)
 have e : k + 1 = (xs.take k ++ [y]).length := by rw [List.length_append, List.length_take, Nat.min_eq_left hk]; rfl
 rw [e]
 refine Acc.of (by rw [← e]; omega) (St.get_push_new _) fun z hz => ?_
 rcases List.mem_append.1 hz with hz | hz
 ·exact hc z (List.mem_of_mem_take hz)
 ·rw [List.mem_singleton.1 hz]; exact hy
end
end Go.Lyc
end
noncomputable section
namespace Go.Lyc
open Go.RowKit Go.Lyc.T
def Pf (b : Nat) : Fm := .mk 1 [80] (some [builtT b]) none
def Qf : Fm := .mk 1 [81] none none
def Rf (b : Nat) : Fm := .mk 1 [82] (some [builtT (b % 4), builtT (b / 4)]) none
def lastN (s : List Fm) (j : Nat) : Fm := s[s.length - j]?.getD Qf
def nameQ (q : Nat) : List Nat := if q = 0 then [120] else if q = 1 then [121] else [122]
def stepB (c : Nat) (s : List Fm) (k : Nat) : List Fm × Nat :=
 if c % 12 < 2 then (s ++ [Pf (c / 12)], k)
 else if c % 12 = 2 then (s ++ [Qf], k)
 else if c % 12 = 3 ∨ c % 12 = 4 then (s ++ [Rf (c / 12)], k)
 else if c % 12 = 5 ∧ 1 ≤ s.length then (s.take (s.length - 1) ++ [.mk 3 [] none (some [lastN s 1])], k)
 else if 6 ≤ c % 12 ∧ c % 12 < 10 ∧ 2 ≤ s.length then (s.take (s.length - 2) ++ [.mk (c % 12 - 2) [] none (some [lastN s 2, lastN s 1])], k)
 else if 10 ≤ c % 12 ∧ 1 ≤ s.length ∧ k < 4 then (s.take (s.length - 1) ++ [.mk (c % 12 - 2) (nameQ (c / 12 % 3)) none (some [lastN s 1])], k + 1)
 else (s, k)
def runB : List Nat → List Fm × Nat → List Fm × Nat
 | [], p => p
 | c :: l, p => runB l (stepB c p.1 p.2)
def orsB : Fm → List Fm → Fm
 | f, [] => f
 | f, g :: l => orsB (.mk 5 [] none (some [f, g])) l
def finB : List Fm → Fm
 | [] => .mk 2 [] none none
 | f :: l => orsB f l
def builtF (l : List Nat) : Fm := finB (runB (l.take 24) ([], 0)).1
theorem Frz.sub {W W1 : Nat → Prop} {σ : St} {n : Nat} {v r : AV} (h : Frz W σ n v r) (hw : ∀ i, W1 i → W i) : Frz W1 σ n v r := fun σ' h' => h σ' fun i o hi ho => h' i o (fun e => hi (hw i e)) ho
structure BInv (i : Nat) (σ : St) (v : AV) (ps : List (AV × Fm)) (W : Nat → Prop) : Prop where
 acc : Acc σ (some 4) v (ps.map Prod.fst)
 frz : ∀ p ∈ ps, Frz W σ (10 + 2 * i) p.1 (p.2.A false) ∧ p.2.dep ≤ 4 + i
 at' : ∀ a, v.at? = some a → W a
 zero : W 0
 old : ∀ j, ¬ W j → j < σ.next
 res : σ.get 0 = some (.cells [.i .u8 0, .s [], .nilsl, .nilsl])
 len : ps.length ≤ i
 nz : v.at? ≠ some 0
theorem BInv.next {i : Nat} {σ : St} {v : AV} {ps : List (AV × Fm)} {W : Nat → Prop} (h : BInv i σ v ps W) : BInv (i + 1) σ v ps W :=
 ⟨h.acc, fun p hp => ⟨(h.frz p hp).1.le (by omega), by have := (h.frz p hp).2; omega⟩, h.at', h.zero, h.old, h.res, by have := h.len; omega, h.nz⟩
theorem BInv.step {i : Nat} {σ σ3 σ4 : St} {v v' y : AV} {F : Fm} {ps : List (AV × Fm)} {W : Nat → Prop} (N : Nat → Prop) (k : Nat) (h : BInv i σ v ps W) (hN : ∀ j, N j → σ.next ≤ j ∧ j < σ3.next) (hk : Kp σ σ3) (hn : σ.next ≤ σ3.next)
  (hA : Acc σ4 (some 4) v' ((ps.map Prod.fst).take k ++ [y])) (hat : v'.at? = some σ3.next) (n4 : σ4.next = σ3.next + 1) (k4 : ∀ j o, v.at? ≠ some j → σ3.get j = some o → σ4.get j = some o) (hy : Frz (fun j => W j ∧ ¬ N j) σ3 (10 + 2 * (i + 1)) y (F.A false)) (hd : F.dep ≤ 4 + (i + 1)) :
  BInv (i + 1) σ4 v' (ps.take k ++ [(y, F)]) (fun j => W j ∧ ¬ N j) := by
 have hlt0 := St.get_lt h.res
 have hat1 : ∀ a, v.at? = some a → W a ∧ ¬ N a := fun a ha => ⟨h.at' a ha, fun e => by have := h.acc.lt ha; have := hN a e; omega⟩
 have hk4 : ∀ j o, ¬ (W j ∧ ¬ N j) → σ3.get j = some o → σ4.get j = some o := fun j o hj ho => k4 j o (fun e => hj (hat1 j e)) ho
 refine ⟨?_, fun p hp => ?_, fun a ha => ?_, ⟨h.zero, fun e => by have := hN 0 e; omega⟩, fun j hj => ?_, k4 0 _ h.nz (hk 0 _ h.res), ?_, fun e => ?_⟩
 ·rw [List.map_append, List.map_take]; exact hA
 ·rcases List.mem_append.1 hp with hp | hp
  ·have hm := h.frz p (List.mem_of_mem_take hp)
   refine ⟨Frz.le (n := 10 + 2 * i) ?_ (by omega), by omega⟩
   exact ((hm.1.keep fun j o _ ho => hk j o ho).sub fun j hj => hj.1).keep hk4
  ·rw [List.mem_singleton.1 hp]; exact ⟨hy.keep hk4, hd⟩
 ·rw [hat] at ha; cases ha
  refine ⟨Classical.byContradiction fun e => ?_, fun e => by have := hN _ e; omega⟩
  have := h.old _ e; omega
 ·by_cases e : N j
  ·have := hN j e; omega
  ·have := h.old j fun e1 => hj ⟨e1, e⟩
   omega
 ·rw [List.length_append, List.length_take, List.length_singleton]; have := h.len; omega
 ·rw [hat] at e; injection e with e; omega
section
variable {env : Env} {wh : Option Nat} {D : List (Nat ⊕ (AV × List AV))} {n : Nat} {f : Nat → AV} {σ : St} {Q : PostF}
theorem GoF.cutE {α : Type} {a b : ACode} (L : α → List (Nat × AV)) (R : α → St → Prop) (h1 : GoW env wh D n a f σ (fun x f' σ' => x = .normal ∧ ∃ t, R t σ' ∧ sat (L t) f')) (h2 : ∀ t σ' g, R t σ' → GoW env wh D n b (upds (L t) g) σ' Q) : GoW env wh D n (.seq a b) f σ Q := GoF.seq (h1.mono fun x f' σ' ⟨e1, t, e2, e3⟩ => by
 subst e1
 show GoW env wh D n b f' σ' Q
 exact GoF.norm (L t) e3 fun g => h2 t σ' g e2)
end
theorem BInv.elem {i : Nat} {σ : St} {v : AV} {ps : List (AV × Fm)} {W : Nat → Prop} (h : BInv i σ v ps W) {j : Nat} (hj : j < ps.length) (hcf : ∀ y ∈ ps.map Prod.fst, conf (some 4) y = true) :
  ∃ x0 x1 x2 x3 G, takeSh (some 4) (((ps.map Prod.fst).flatMap AV.cells).drop (0 + j * shN (some 4))) = some (.ag [x0, x1, x2, x3]) ∧ Frz W σ (10 + 2 * i) (.ag [x0, x1, x2, x3]) (G.A false) ∧ G.dep ≤ 4 + i ∧ (ps.map Prod.snd)[j]? = some G := by
 have hx : (ps.map Prod.fst)[j]'(by rw [List.length_map]; exact hj) = (ps[j]).1 := List.getElem_map ..
 have hm : ps[j] ∈ ps := List.getElem_mem hj
 obtain ⟨hF, hFd⟩ := h.frz _ hm
 have htk := take_elem (sh := some 4) (xs := ps.map Prod.fst) (j := j) (by rw [List.length_map]; exact hj) hcf
 rw [hx] at htk
 obtain ⟨lx, hlx, hl4⟩ := conf_some (hcf (ps[j]).1 (List.mem_map.2 ⟨_, hm, rfl⟩))
 obtain ⟨x0, x1, x2, x3, rfl⟩ : ∃ x0 x1 x2 x3, lx = [x0, x1, x2, x3] := by
  match lx, hl4 with
  | [x0, x1, x2, x3], _ => exact ⟨x0, x1, x2, x3, rfl⟩
 rw [hlx] at htk hF
 refine ⟨x0, x1, x2, x3, (ps[j]).2, htk, hF, hFd, ?_⟩
 rw [List.getElem?_eq_getElem (by rw [List.length_map]; exact hj), List.getElem_map]
theorem wrapN8 {n : Nat} (h : n < 256) : wrapN .u8 (Int.ofNat n) = Int.ofNat n := by
 have h : (n : Int) < 256 := by omega
 simp [wrapN, IntKind.wrap, IntKind.bits, IntKind.signed]
 omega
theorem bin_add8 {a b : Nat} (h : a + b < 256) : binop .add (uB a) (uB b) = some (uB (a + b)) := by
 show some (AV.i .u8 (wrapN .u8 (Int.ofNat (a + b)))) = _
 rw [wrapN8 h]
theorem bin_sub8 {a b : Nat} (hb : b ≤ a) (h : a < 256) : binop .sub (uB a) (uB b) = some (uB (a - b)) := by
 show some (AV.i .u8 (wrapN .u8 (Int.ofNat a - Int.ofNat b))) = _
 have : Int.ofNat a - Int.ofNat b = Int.ofNat (a - b) := by simp only [Int.ofNat_eq_natCast]; omega
 rw [this, wrapN8 (by omega)]
theorem orsB_snoc : ∀ (l : List Fm) (f g : Fm), orsB f (l ++ [g]) = .mk 5 [] none (some [orsB f l, g])
 | [], f, g => rfl
 | x :: l, f, g => by rw [List.cons_append, orsB, orsB_snoc l]; rfl
theorem Here.one {env : Env} {g : Nat} {af : AFunc} {body : ACode} (hh : Here env g af) (hb : af.body = some body) (hc : calmC body = true) : ∀ F args σ, OneL (callV env (exec env F) 0 (.f (.func g) [] []) args σ) := fun F args σ => call_one hh.e hh.p hh.f hb hc F [] [] args σ
theorem itT_dep : ∀ (k : Nat) (t : Tm), (itT t k).dep = t.dep + k
 | 0, t => rfl
 | k + 1, t => by
  rw [itT, fT, Tm.dep_eq]
  show Tm.deps [itT t k] + 1 = _
  rw [Tm.deps, Tm.deps, itT_dep k t]; omega
theorem baseT_dep (q : Nat) : (baseT q).dep = 1 := by
 unfold baseT
 repeat' split
 all_goals (try unfold vT); rw [Tm.dep_eq]; simp [Tm.args, Tm.oargs, Tm.deps]
theorem builtT_dep (c : Nat) : (builtT c).dep ≤ 3 := by
 unfold builtT
 rw [itT_dep, baseT_dep]
 have := Nat.mod_lt (c / 4) (show 0 < 3 by omega); omega
theorem Pf_dep (b : Nat) : (Pf b).dep ≤ 4 := by
 rw [Fm.dep_eq]
 show max (Tm.deps [builtT b]) (Fm.deps []) + 1 ≤ 4
 rw [Tm.deps, Tm.deps, Fm.deps]
 have := builtT_dep b; omega
theorem Qf_dep : Qf.dep = 1 := by
 rw [Fm.dep_eq]
 show max (Tm.deps []) (Fm.deps []) + 1 = 1
 rw [Tm.deps, Fm.deps]; rfl
theorem Rf_dep (b : Nat) : (Rf b).dep ≤ 4 := by
 rw [Fm.dep_eq]
 show max (Tm.deps [builtT (b % 4), builtT (b / 4)]) (Fm.deps []) + 1 ≤ 4
 rw [Tm.deps, Tm.deps, Tm.deps, Fm.deps]
 have := builtT_dep (b % 4); have := builtT_dep (b / 4); omega
theorem mk1_dep (op : Nat) (nm : List Nat) (F : Fm) : (Fm.mk op nm none (some [F])).dep = F.dep + 1 := by
 rw [Fm.dep_eq]
 show max (Tm.deps []) (Fm.deps [F]) + 1 = _
 rw [Tm.deps, Fm.deps, Fm.deps]; omega
theorem mk2_dep (op : Nat) (nm : List Nat) (F G : Fm) : (Fm.mk op nm none (some [F, G])).dep = max F.dep G.dep + 1 := by
 rw [Fm.dep_eq]
 show max (Tm.deps []) (Fm.deps [F, G]) + 1 = _
 rw [Tm.deps, Fm.deps, Fm.deps, Fm.deps]; omega
theorem runB_snoc : ∀ (l : List Nat) (c : Nat) (p : List Fm × Nat), runB (l ++ [c]) p = stepB c (runB l p).1 (runB l p).2
 | [], c, p => rfl
 | x :: l, c, p => by rw [List.cons_append, runB, runB_snoc l c, runB]
end Go.Lyc
end
noncomputable section
namespace Go.Lyc
open Go.RowKit Go.Lyc.T
structure BT where
 v : AV
 k : Nat
abbrev BL (a : AV) (i : Nat) (t : BT) : List (Nat × AV) := [(0, a), (2, .p (some (0, 0))), (3, t.v), (4, nI t.k), (5, nI i)]
abbrev BR (i : Nat) (p : List Fm × Nat) (t : BT) (σ : St) : Prop := t.k = p.2 ∧ ∃ ps W, BInv i σ t.v ps W ∧ ps.map Prod.snd = p.1
section
variable {b : Base} {K : Nat → List AV → AV → Prop} (hf : ∀ g ar r r', K g ar r → K g ar r' → r = r')
include hf in
theorem Built_go (ha8 : Here (b.envK K) n_atom8 c_atom8) (hj8 : Here (b.envK K) n_join8 c_join8) (hT : ∀ c, c < 256 → K n_BuiltTerm [uB c] ((builtT c).A false)) (eT : b.ext n_BuiltTerm = 0 ∧ b.pure n_BuiltTerm = true)
  (l : List Nat) (hl : ∀ c ∈ l, c < 256) (a : AV) (hlen : ∀ τ, lenA τ 1 a = some l.length) (hidx : ∀ i (h : i < l.length), idxSlA none a i = some (.tp true (uB l[i]))) (body : ACode) (hb : c_Built.body = some body) :
  GoF (b.envK K) 181 body (argF [a]) ⟨.nil, 0⟩ (BoxR 2 (some 4) fun v σ' => freeze σ' 0 1000 v = some ((builtF l).A false)) := by
 cases hb
 refine GoF.seq (GoF.region (GoO.alloc 0 rfl rfl rfl rfl fun τ hn h0 _ => ?_))
 refine GoO.nil (GoF.seq (GoF.region ?_))
 refine GoO.go rfl rfl rfl rfl ?_
 refine GoO.nil (GoF.seq (GoF.region ?_))
 refine GoO.go rfl rfl rfl rfl ?_
 refine GoO.nil ?_
 refine GoF.cutE (BL a (min l.length 24)) (fun t σ => BR (min l.length 24) (runB (l.take 24) ([], 0)) t σ) ?_ ?_
 ·refine GoF.seq (GoF.region ?_)
  refine GoO.go rfl rfl rfl rfl ?_
  refine GoO.nil (GoF.block ?_)
  refine GoF.loop (fun m f σ' => ∃ i t, i + m = min l.length 24 ∧ BR i (runB (l.take i) ([], 0)) t σ' ∧ sat (BL a i t) f) ?_ (min l.length 24) ⟨0, ⟨.nilsl, 0⟩, by omega, ⟨rfl, [], fun _ => True, ⟨.nil, fun p hp => absurd hp (by simp), fun _ _ => trivial, trivial, fun j h => absurd trivial h, h0, by simp, fun e => by cases e⟩, rfl⟩, rfl, rfl, rfl, rfl, rfl, trivial⟩
  clear h0 hn
  intro m g σ ⟨i, t, hi, hR, hL⟩
  refine GoF.norm _ hL fun g => ?_
  clear hL
  have htake : l.take (min l.length 24) = l.take 24 := by
   rcases Nat.le_total l.length 24 with h | h
   ·rw [Nat.min_eq_left h, List.take_length, List.take_of_length_le h]
   ·rw [Nat.min_eq_right h]
  refine GoF.seq (GoF.seq (GoF.region ?_))
  refine GoO.go rfl rfl rfl rfl ?_
  refine GoO.go rfl rfl rfl rfl ?_
  refine GoO.len rfl rfl rfl (hlen _) ?_
  refine GoO.bin (a := nI i) (b := nI l.length) (v := .b (decide (i < l.length))) rfl rfl rfl rfl (bin_cmp rfl) ?_
  refine GoO.go rfl rfl rfl rfl ?_
  by_cases hi1 : i < l.length
  case neg =>
   rw [show decide (i < l.length) = false from decide_eq_false hi1]
   repeat (first | refine GoO.go rfl rfl rfl rfl ?_ | refine GoO.cmp rfl rfl rfl rfl rfl ?_ | refine GoO.off rfl rfl ?_ | refine GoO.nil ?_)
   refine GoF.cnd rfl (fun h => by cases h) (fun _ => ?_)
   refine GoF.exit ?_
   obtain rfl : i = min l.length 24 := by omega
   rw [htake] at hR
   exact ⟨rfl, t, hR, rfl, rfl, rfl, rfl, rfl, trivial⟩
  rw [show decide (i < l.length) = true from decide_eq_true hi1]
  refine GoO.go rfl rfl rfl rfl ?_
  refine GoO.bin (a := nI i) (b := nI 24) (v := .b (decide (i < 24))) rfl rfl rfl rfl (bin_cmp rfl) ?_
  by_cases hi2 : i < 24
  case neg =>
   rw [show decide (i < 24) = false from decide_eq_false hi2]
   repeat (first | refine GoO.go rfl rfl rfl rfl ?_ | refine GoO.cmp rfl rfl rfl rfl rfl ?_ | refine GoO.off rfl rfl ?_ | refine GoO.nil ?_)
   refine GoF.cnd rfl (fun h => by cases h) (fun _ => ?_)
   refine GoF.exit ?_
   obtain rfl : i = min l.length 24 := by omega
   rw [htake] at hR
   exact ⟨rfl, t, hR, rfl, rfl, rfl, rfl, rfl, trivial⟩
  rw [show decide (i < 24) = true from decide_eq_true hi2]
  repeat (first | refine GoO.go rfl rfl rfl rfl ?_ | refine GoO.cmp rfl rfl rfl rfl rfl ?_ | refine GoO.off rfl rfl ?_ | refine GoO.nil ?_)
  refine GoF.cnd rfl (fun _ => ?_) (fun h => by cases h)
  refine GoF.skip ?_
  refine GoF.cutE (BL a i) (fun t σ => BR (i + 1) (runB (l.take (i + 1)) ([], 0)) t σ) ?_ fun t σ' g hR => ?_
  case refine_2 =>
   refine GoF.region ?_
   refine GoO.go rfl rfl rfl rfl ?_
   refine GoO.bin (a := nI i) (b := nI 1) rfl rfl rfl rfl (bin_add (by omega)) ?_
   refine GoO.go rfl rfl rfl rfl ?_
   exact GoO.nil ⟨m - 1, by omega, i + 1, t, by omega, hR, rfl, rfl, rfl, rfl, rfl, trivial⟩
  rw [List.take_succ_eq_append_getElem hi1, runB_snoc]
  have hc := hl _ (List.getElem_mem hi1)
  have hix := hidx i hi1
  generalize l[i] = c at hc hix
  generalize runB (l.take i) ([], 0) = p at hR
  obtain ⟨s, k⟩ := p
  obtain ⟨v, k'⟩ := t
  obtain ⟨e, ps, W, hI, rfl⟩ := hR
  obtain rfl : k' = k := e
  have hpl := hI.len
  refine GoF.block (GoF.seq (GoF.drawK 0 rfl (GoK.fin (gs := []) .nil rfl ?_)))
  refine GoO.go rfl rfl rfl rfl ?_
  refine GoO.len rfl rfl rfl hI.acc.len ?_
  refine GoO.go rfl rfl rfl rfl ?_
  refine GoO.go rfl rfl rfl rfl ?_
  refine GoO.idx (j := i) rfl rfl rfl rfl hix ?_
  refine GoO.ldt rfl rfl rfl rfl ?_
  refine GoO.bin (a := uB c) (b := uB 12) rfl rfl rfl rfl (bin_quo8 (by omega) hc) ?_
  refine GoO.go rfl rfl rfl rfl ?_
  refine GoO.go rfl rfl rfl rfl ?_
  refine GoO.nil ⟨rfl, ?_⟩
  refine GoF.seq (GoF.region ?_)
  refine GoO.go rfl rfl rfl rfl ?_
  refine GoO.go rfl rfl rfl rfl ?_
  refine GoO.idx (j := i) rfl rfl rfl rfl hix ?_
  refine GoO.ldt rfl rfl rfl rfl ?_
  refine GoO.bin (a := uB c) (b := uB 12) rfl rfl rfl rfl (bin_rem (by omega)) ?_
  refine GoO.go rfl rfl rfl rfl ?_
  refine GoO.nil ?_
  rw [List.length_map]
  refine GoF.norm [(0, a), (2, .p (some (0, 0))), (3, v), (4, nI k'), (5, nI i), (6, nI ps.length), (7, uB (c / 12)), (8, uB (c % 12))] ⟨rfl, rfl, rfl, rfl, rfl, rfl, rfl, rfl, trivial⟩ fun g => ?_
  have hb21 : c / 12 < 22 := by omega
  have hq12 : c % 12 < 12 := Nat.mod_lt _ (by omega)
  unfold stepB
  generalize c / 12 = u at hb21
  generalize c % 12 = q at hq12
  refine GoF.block (GoF.seq (GoF.region ?_))
  refine GoO.go rfl rfl rfl rfl ?_
  refine GoO.bin (a := uB q) (b := uB 2) (v := .b (decide (q < 2))) rfl rfl rfl rfl (bin_cmp rfl) ?_
  refine GoO.go rfl rfl rfl rfl ?_
  refine GoO.nil (GoF.cnd rfl (fun h => ?_) (fun h => ?_))
  ·rw [if_pos (of_decide_eq_true h)]
   refine GoF.region ?_
   refine GoO.go rfl rfl rfl rfl ?_
   refine GoO.go rfl rfl rfl rfl ?_
   refine GoO.known hf eT.1 eT.2 (hT u (by omega)) rfl rfl rfl (snaps1 rfl) ?_
   generalize hz : σ.next = z
   refine GoO.bsl (c := (builtT u).cells false) z hz rfl rfl (by simp only [Tm.A, Tm.cells_eq]; rfl) fun σ1 n1 g1 k1 => ?_
   refine GoO.callG rfl rfl rfl (atom8_go ha8 [80] (.sl z 0 1 (some 3) (some 1)) (.inr ⟨_, _, _, _, _, rfl⟩) σ1) fun r σ2 ⟨e2, n2, k2⟩ => ⟨_, e2, ?_⟩
   refine GoO.bsl (c := [.i .u8 1, .s [80], .sl z 0 1 (some 3) (some 1), .nilsl]) σ2.next rfl rfl rfl rfl fun σ3 n3 g3 k3 => ?_
   have kk : Kp σ σ3 := fun j o ho => k3 j o (k2 j o (k1 j o ho))
   refine GoO.append (y := .ag [.i .u8 1, .s [80], .sl z 0 1 (some 3) (some 1), .nilsl]) (ys := []) (hI.acc.keep fun j o _ ho => kk j o ho) (newOf_one g3 rfl) (fun x hx => by rw [List.mem_singleton.1 hx]; rfl) (by simp only [List.length_map, List.length_cons, List.length_nil]; omega) rfl rfl rfl rfl fun v' σ4 hA4 hat4 n4 k4 => ?_
   refine GoO.go rfl rfl rfl rfl ?_
   refine GoO.nil ⟨rfl, ⟨v', k'⟩, ⟨rfl, ps.take ps.length ++ [(.ag [.i .u8 1, .s [80], .sl z 0 1 (some 3) (some 1), .nilsl], Pf u)], _, BInv.step (σ3 := σ3) (fun j => j = z) ps.length hI (fun j hj => by subst hj; omega) kk (by omega) ?_ hat4 n4 k4 ?_ (by have := Pf_dep u; omega), ?_⟩, rfl, rfl, rfl, rfl, rfl, trivial⟩
   ·rw [List.take_of_length_le (by rw [List.length_map]; exact Nat.le_refl _)]; exact hA4
   ·have h1 := Frz.one (W := fun j => W j ∧ ¬ j = z) (σ := σ3) (n := 2) (cap := some 1) (v := (builtT u).A false) (w := (builtT u).A false) (k3 _ _ (k2 _ _ g1)) (fun h => h.2 rfl) (Tm.conf false _) fun σ' _ => Tm.frz σ' 0 _ false
    refine Frz.le (n := 4) (Frz.ag (n := 3) fun σ' h' => ?_) (by omega)
    rw [mapO_cons', mapO_cons', mapO_cons', mapO_cons', h1 σ' h']; rfl
   ·rw [List.take_length, List.map_append]; rfl
  rw [if_neg (of_decide_eq_false h)]
  have hq2 : ¬ q < 2 := of_decide_eq_false h
  refine GoF.seq (GoF.region ?_)
  refine GoO.go rfl rfl rfl rfl ?_
  refine GoO.bin (a := uB q) (b := uB 2) (v := .b (decide (q = 2))) rfl rfl rfl rfl (bin_cmp rfl) ?_
  refine GoO.go rfl rfl rfl rfl ?_
  refine GoO.nil (GoF.cnd rfl (fun h => ?_) (fun h => ?_))
  ·rw [if_pos (of_decide_eq_true h)]
   refine GoF.region ?_
   refine GoO.go rfl rfl rfl rfl ?_
   refine GoO.callG rfl rfl rfl (atom8_go ha8 [81] .nilsl (.inl rfl) σ) fun r σ2 ⟨e2, n2, k2⟩ => ⟨_, e2, ?_⟩
   refine GoO.bsl (c := [.i .u8 1, .s [81], .nilsl, .nilsl]) σ2.next rfl rfl rfl rfl fun σ3 n3 g3 k3 => ?_
   have kk : Kp σ σ3 := fun j o ho => k3 j o (k2 j o ho)
   refine GoO.append (y := .ag [.i .u8 1, .s [81], .nilsl, .nilsl]) (ys := []) (hI.acc.keep fun j o _ ho => kk j o ho) (newOf_one g3 rfl) (fun x hx => by rw [List.mem_singleton.1 hx]; rfl) (by simp only [List.length_map, List.length_cons, List.length_nil]; omega) rfl rfl rfl rfl fun v' σ4 hA4 hat4 n4 k4 => ?_
   refine GoO.go rfl rfl rfl rfl ?_
   refine GoO.nil ⟨rfl, ⟨v', k'⟩, ⟨rfl, ps.take ps.length ++ [(.ag [.i .u8 1, .s [81], .nilsl, .nilsl], Qf)], _, BInv.step (σ3 := σ3) (fun j => False) ps.length hI (fun j hj => hj.elim) kk (by omega) ?_ hat4 n4 k4 ?_ (by rw [Qf_dep]; omega), ?_⟩, rfl, rfl, rfl, rfl, rfl, trivial⟩
   ·rw [List.take_of_length_le (by rw [List.length_map]; exact Nat.le_refl _)]; exact hA4
   ·exact fun σ' h' => Fm.frz σ' _ Qf false
   ·rw [List.take_length, List.map_append]; rfl
  rw [if_neg (of_decide_eq_false h)]
  have hq3 : ¬ q = 2 := of_decide_eq_false h
  refine GoF.seq (GoF.region ?_)
  refine GoO.go rfl rfl rfl rfl ?_
  refine GoO.bin (a := uB q) (b := uB 3) (v := .b (decide (q = 3))) rfl rfl rfl rfl (bin_cmp rfl) ?_
  refine GoO.go rfl rfl rfl rfl ?_
  have hR : ∀ {g : Nat → AV}, sat [(0, a), (2, .p (some (0, 0))), (3, v), (4, nI k'), (5, nI i), (7, uB u)] g → GoF (b.envK K) 181 (.region [⟨(some 57), .mv (.t 3), none, []⟩, ⟨(some 58), .mv (.t 7), none, []⟩, ⟨(some 59), .bin .rem (.t 58) (.c (.i .u8 4)), none, []⟩, ⟨(some 60), .call (.fn 38) [(.t 59)], none, []⟩, ⟨(some 61), .mv (.t 7), none, []⟩, ⟨(some 62), .bin .quo (.t 61) (.c (.i .u8 4)), none, []⟩, ⟨(some 63), .call (.fn 38) [(.t 62)], none, []⟩, ⟨(some 64), .buildSlice (some 3) 2 [(.b false), (.s []), .nilsl] [(0, (.t 60)), (1, (.t 63))], none, []⟩, ⟨(some 65), .call (.fn 37) [(.c (.s [82])), (.t 64)], none, []⟩, ⟨(some 66), .buildSlice (some 4) 1 [(.i .u8 0), (.s []), .nilsl, .nilsl] [(0, (.t 65))], none, []⟩, ⟨(some 67), .append (some 4) 72 (.t 57) (.t 66), none, []⟩, ⟨(some 3), .mv (.t 67), none, []⟩]) g σ
    (fun x f' σ' => x = .normal ∧ ∃ t, BR (i + 1) (ps.map Prod.snd ++ [Rf u], k') t σ' ∧ sat (BL a i t) f') := fun {g} hL => by
   refine GoF.norm _ hL fun g => ?_
   refine GoF.region ?_
   refine GoO.go rfl rfl rfl rfl ?_
   refine GoO.go rfl rfl rfl rfl ?_
   refine GoO.bin (a := uB u) (b := uB 4) rfl rfl rfl rfl (bin_rem (by omega)) ?_
   refine GoO.known hf eT.1 eT.2 (hT (u % 4) (by omega)) rfl rfl rfl (snaps1 rfl) ?_
   refine GoO.go rfl rfl rfl rfl ?_
   refine GoO.bin (a := uB u) (b := uB 4) rfl rfl rfl rfl (bin_quo8 (by omega) (by omega)) ?_
   refine GoO.known hf eT.1 eT.2 (hT (u / 4) (by omega)) rfl rfl rfl (snaps1 rfl) ?_
   generalize hz : σ.next = z
   refine GoO.bsl (c := (builtT (u % 4)).cells false ++ (builtT (u / 4)).cells false) z hz rfl rfl (by simp only [Tm.A, Tm.cells_eq]; rfl) fun σ1 n1 g1 k1 => ?_
   refine GoO.callG rfl rfl rfl (atom8_go ha8 [82] (.sl z 0 2 (some 3) (some 2)) (.inr ⟨_, _, _, _, _, rfl⟩) σ1) fun r σ2 ⟨e2, n2, k2⟩ => ⟨_, e2, ?_⟩
   refine GoO.bsl (c := [.i .u8 1, .s [82], .sl z 0 2 (some 3) (some 2), .nilsl]) σ2.next rfl rfl rfl rfl fun σ3 n3 g3 k3 => ?_
   have kk : Kp σ σ3 := fun j o ho => k3 j o (k2 j o (k1 j o ho))
   refine GoO.append (y := .ag [.i .u8 1, .s [82], .sl z 0 2 (some 3) (some 2), .nilsl]) (ys := []) (hI.acc.keep fun j o _ ho => kk j o ho) (newOf_one g3 rfl) (fun x hx => by rw [List.mem_singleton.1 hx]; rfl) (by simp only [List.length_map, List.length_cons, List.length_nil]; omega) rfl rfl rfl rfl fun v' σ4 hA4 hat4 n4 k4 => ?_
   refine GoO.go rfl rfl rfl rfl ?_
   refine GoO.nil ⟨rfl, ⟨v', k'⟩, ⟨rfl, ps.take ps.length ++ [(.ag [.i .u8 1, .s [82], .sl z 0 2 (some 3) (some 2), .nilsl], Rf u)], _, BInv.step (σ3 := σ3) (fun j => j = z) ps.length hI (fun j hj => by subst hj; omega) kk (by omega) ?_ hat4 n4 k4 ?_ (by have := Rf_dep u; omega), ?_⟩, rfl, rfl, rfl, rfl, rfl, trivial⟩
   ·rw [List.take_of_length_le (by rw [List.length_map]; exact Nat.le_refl _)]; exact hA4
   ·have h1 := Frz.two (W := fun j => W j ∧ ¬ j = z) (σ := σ3) (n := 2) (cap := some 2) (v := (builtT (u % 4)).A false) (w := (builtT (u % 4)).A false) (v2 := (builtT (u / 4)).A false) (w2 := (builtT (u / 4)).A false) (k3 _ _ (k2 _ _ g1)) (fun h => h.2 rfl) (Tm.conf false _) (Tm.conf false _) (fun σ' _ => Tm.frz σ' 0 _ false) fun σ' _ => Tm.frz σ' 0 _ false
    refine Frz.le (n := 4) (Frz.ag (n := 3) fun σ' h' => ?_) (by omega)
    rw [mapO_cons', mapO_cons', mapO_cons', mapO_cons', h1 σ' h']; rfl
   ·rw [List.take_length, List.map_append]; rfl
  by_cases h3 : q = 3
  ·rw [show decide (q = 3) = true from decide_eq_true h3, if_pos (.inl h3)]
   repeat (first | refine GoO.go rfl rfl rfl rfl ?_ | refine GoO.cmp rfl rfl rfl rfl rfl ?_ | refine GoO.off rfl rfl ?_ | refine GoO.nil ?_)
   refine GoF.cnd rfl (fun _ => ?_) (fun h => by cases h)
   refine GoF.mono (hR ?_) fun x f τ h => ?_
   ·exact ⟨rfl, rfl, rfl, rfl, rfl, rfl, trivial⟩
   ·obtain ⟨rfl, h⟩ := h
    exact ⟨rfl, h⟩
  rw [show decide (q = 3) = false from decide_eq_false h3]
  refine GoO.go rfl rfl rfl rfl ?_
  refine GoO.bin (a := uB q) (b := uB 4) (v := .b (decide (q = 4))) rfl rfl rfl rfl (bin_cmp rfl) ?_
  by_cases h4 : q = 4
  ·rw [show decide (q = 4) = true from decide_eq_true h4, if_pos (.inr h4)]
   repeat (first | refine GoO.go rfl rfl rfl rfl ?_ | refine GoO.cmp rfl rfl rfl rfl rfl ?_ | refine GoO.off rfl rfl ?_ | refine GoO.nil ?_)
   refine GoF.cnd rfl (fun _ => ?_) (fun h => by cases h)
   refine GoF.mono (hR ?_) fun x f τ h => ?_
   ·exact ⟨rfl, rfl, rfl, rfl, rfl, rfl, trivial⟩
   ·obtain ⟨rfl, h⟩ := h
    exact ⟨rfl, h⟩
  rw [show decide (q = 4) = false from decide_eq_false h4, if_neg (fun h => h.elim h3 h4)]
  clear hR
  repeat (first | refine GoO.go rfl rfl rfl rfl ?_ | refine GoO.cmp rfl rfl rfl rfl rfl ?_ | refine GoO.off rfl rfl ?_ | refine GoO.nil ?_)
  refine GoF.cnd rfl (fun h => by cases h) (fun _ => ?_)
  refine GoF.norm [(0, a), (2, .p (some (0, 0))), (3, v), (4, nI k'), (5, nI i), (6, nI ps.length), (7, uB u), (8, uB q)] ⟨rfl, rfl, rfl, rfl, rfl, rfl, rfl, rfl, trivial⟩ fun g => ?_
  refine GoF.cut [(0, a), (2, .p (some (0, 0))), (3, v), (4, nI k'), (5, nI i), (6, nI ps.length), (7, uB u), (8, uB q), (68, .b (decide (q = 5 ∧ 1 ≤ ps.length)))] ?_ fun g => ?_
  ·refine GoF.region ?_
   refine GoO.go rfl rfl rfl rfl ?_
   refine GoO.bin (a := uB q) (b := uB 5) (v := .b (decide (q = 5))) rfl rfl rfl rfl (bin_cmp rfl) ?_
   refine GoO.go rfl rfl rfl rfl ?_
   by_cases h5 : q = 5
   ·rw [show decide (q = 5) = true from decide_eq_true h5]
    refine GoO.go rfl rfl rfl rfl ?_
    by_cases hn : 1 ≤ ps.length
    ·refine GoO.bin (a := nI ps.length) (b := nI 1) (v := .b true) rfl rfl rfl rfl (bin_cmp (ctrue hn)) ?_
     repeat (first | refine GoO.go rfl rfl rfl rfl ?_ | refine GoO.cmp rfl rfl rfl rfl rfl ?_ | refine GoO.off rfl rfl ?_ | refine GoO.nil ?_)
     exact ⟨rfl, rfl, rfl, rfl, rfl, rfl, rfl, rfl, rfl, rfl, by rw [decide_eq_true (And.intro h5 hn)]; rfl, trivial⟩
    ·refine GoO.bin (a := nI ps.length) (b := nI 1) (v := .b false) rfl rfl rfl rfl (bin_cmp (cfalse hn)) ?_
     repeat (first | refine GoO.go rfl rfl rfl rfl ?_ | refine GoO.cmp rfl rfl rfl rfl rfl ?_ | refine GoO.off rfl rfl ?_ | refine GoO.nil ?_)
     exact ⟨rfl, rfl, rfl, rfl, rfl, rfl, rfl, rfl, rfl, rfl, by rw [decide_eq_false (fun h => hn h.2)]; rfl, trivial⟩
   ·rw [show decide (q = 5) = false from decide_eq_false h5]
    repeat (first | refine GoO.go rfl rfl rfl rfl ?_ | refine GoO.cmp rfl rfl rfl rfl rfl ?_ | refine GoO.off rfl rfl ?_ | refine GoO.nil ?_)
    exact ⟨rfl, rfl, rfl, rfl, rfl, rfl, rfl, rfl, rfl, rfl, by rw [decide_eq_false (fun h => h5 h.1)]; rfl, trivial⟩
  have lnl : (ps.map Prod.snd).length = ps.length := List.length_map ..
  refine GoF.cnd rfl (fun h => ?_) (fun h => ?_)
  ·have h51 := of_decide_eq_true h
   rw [if_pos (by rw [lnl]; exact h51), lnl]
   have hn1 := h51.2
   obtain ⟨o, hv, ho, hcf⟩ := hI.acc.inv (by rw [List.length_map]; exact hn1)
   rw [List.length_map] at hv
   subst hv
   have hlt : ps.length - 1 < ps.length := by omega
   have hx : (ps.map Prod.fst)[ps.length - 1]'(by rw [List.length_map]; exact hlt) = (ps[ps.length - 1]).1 := List.getElem_map ..
   have hG : lastN (ps.map Prod.snd) 1 = (ps[ps.length - 1]).2 := by
    unfold lastN
    rw [lnl, List.getElem?_eq_getElem (by rw [lnl]; exact hlt), List.getElem_map]; rfl
   rw [hG]
   have hm : ps[ps.length - 1] ∈ ps := List.getElem_mem hlt
   obtain ⟨hF, hFd⟩ := hI.frz _ hm
   have htk := take_elem (sh := some 4) (xs := ps.map Prod.fst) (j := ps.length - 1) (by rw [List.length_map]; exact hlt) hcf
   rw [hx] at htk
   obtain ⟨lx, hlx, hl4⟩ := conf_some (hcf (ps[ps.length - 1]).1 (List.mem_map.2 ⟨_, hm, rfl⟩))
   obtain ⟨x0, x1, x2, x3, rfl⟩ : ∃ x0 x1 x2 x3, lx = [x0, x1, x2, x3] := by
    match lx, hl4 with
    | [x0, x1, x2, x3], _ => exact ⟨x0, x1, x2, x3, rfl⟩
   generalize ps[ps.length - 1] = pr at hm hF hFd htk hlx
   obtain ⟨xv, G⟩ := pr
   simp only at hlx
   subst hlx
   have hone : Ones (b.envK K) [39] := .cons (hj8.one rfl rfl) .nil
   refine GoF.drawK 12 rfl ?_
   refine GoK.seg 10 rfl hone rfl ?_
   refine GoO.go rfl rfl rfl rfl ?_
   refine GoO.go rfl rfl rfl rfl ?_
   refine GoO.bin (a := nI ps.length) (b := nI 1) rfl rfl rfl rfl (bin_sub (by omega) (by omega)) ?_
   refine GoO.go rfl rfl rfl rfl ?_
   refine GoO.bin (a := nI ps.length) (b := nI 1) rfl rfl rfl rfl (bin_sub (by omega) (by omega)) ?_
   refine GoO.val rfl rfl (op_slice3 (k := ps.length - 1) rfl rfl rfl (by omega)) ?_
   refine GoO.go rfl rfl rfl rfl ?_
   refine GoO.go rfl rfl rfl rfl ?_
   refine GoO.bin (a := nI ps.length) (b := nI 1) rfl rfl rfl rfl (bin_sub (by omega) (by omega)) ?_
   refine GoO.idx (j := ps.length - 1) rfl rfl rfl rfl (idxSlA_sl hlt) ?_
   refine GoO.nil ⟨rfl, fun _ _ h => h, ?_⟩
   refine GoK.ldw (v := .ag [x0, x1, x2, x3]) rfl rfl rfl (fun τ hk => op_load _ _ rfl (loadA_p (hk _ _ ho) htk)) (snap_eqb 1000 _ _ (Is.snap (σ := σ) (n := 1000) (F := G) (hF.le (by omega)).now (by simp only at hFd; omega))) ?_
   generalize hz : σ.next = z
   refine GoK.seg 1 rfl hone rfl ?_
   refine GoO.bsl (c := [x0, x1, x2, x3]) z hz rfl rfl rfl fun σ1 n1 g1 k1 => ?_
   refine GoO.nil ⟨rfl, k1, ?_⟩
   refine GoK.fin hone rfl ?_
   refine GoO.callG rfl rfl rfl (join8_go hj8 3 (.sl z 0 1 (some 4) (some 1)) (.inr ⟨_, _, _, _, _, rfl⟩) σ1) fun r σ2 ⟨e2, n2, k2⟩ => ⟨_, e2, ?_⟩
   refine GoO.bsl (c := [.i .u8 3, .s [], .nilsl, .sl z 0 1 (some 4) (some 1)]) σ2.next rfl rfl rfl rfl fun σ3 n3 g3 k3 => ?_
   have kk : Kp σ σ3 := fun j o ho => k3 j o (k2 j o (k1 j o ho))
   refine GoO.cutApp (y := .ag [.i .u8 3, .s [], .nilsl, .sl z 0 1 (some 4) (some 1)]) (k := ps.length - 1) (kk _ _ ho) hcf (by rw [List.length_map]; omega) (newOf_one g3 rfl) rfl (by omega) rfl rfl rfl fun v' σ4 hA4 hat4 n4 k4 => ?_
   refine GoO.go rfl rfl rfl rfl ?_
   refine GoO.nil ⟨rfl, rfl, ⟨v', k'⟩, ⟨rfl, ps.take (ps.length - 1) ++ [(.ag [.i .u8 3, .s [], .nilsl, .sl z 0 1 (some 4) (some 1)], .mk 3 [] none (some [G]))], _, BInv.step (σ3 := σ3) (fun j => j = z) (ps.length - 1) hI (fun j hj => by subst hj; omega) kk (by omega) hA4 hat4 n4 (fun j o _ h => k4 j o h) ?_ (by rw [mk1_dep]; simp only at hFd; omega), ?_⟩, rfl, rfl, rfl, rfl, rfl, trivial⟩
   ·have h1 := Frz.one (W := fun j => W j ∧ ¬ j = z) (σ := σ3) (n := 10 + 2 * i) (cap := some 1) (sh := some 4) (v := .ag [x0, x1, x2, x3]) (w := G.A false) (k3 _ _ (k2 _ _ g1)) (fun h => h.2 rfl) rfl ((hF.keep fun j o _ h => kk j o h).sub fun j h => h.1)
    refine Frz.ag (n := 10 + 2 * i + 1) fun σ' h' => ?_
    rw [mapO_cons', mapO_cons', mapO_cons', mapO_cons', h1 σ' h']; rfl
   ·rw [List.map_append, List.map_take]; rfl
  rw [if_neg (by rw [lnl]; exact of_decide_eq_false h)]
  refine GoF.norm [(0, a), (2, .p (some (0, 0))), (3, v), (4, nI k'), (5, nI i), (6, nI ps.length), (7, uB u), (8, uB q)] ⟨rfl, rfl, rfl, rfl, rfl, rfl, rfl, rfl, trivial⟩ fun g => ?_
  refine GoF.cut [(0, a), (2, .p (some (0, 0))), (3, v), (4, nI k'), (5, nI i), (6, nI ps.length), (7, uB u), (8, uB q), (90, .b (decide (6 ≤ q ∧ q < 10 ∧ 2 ≤ ps.length)))] ?_ fun g => ?_
  ·refine GoF.region ?_
   refine GoO.go rfl rfl rfl rfl ?_
   by_cases h6 : 6 ≤ q
   ·refine GoO.bin (a := uB q) (b := uB 6) (v := .b true) rfl rfl rfl rfl (bin_cmp (ctrue h6)) ?_
    refine GoO.go rfl rfl rfl rfl ?_
    refine GoO.go rfl rfl rfl rfl ?_
    by_cases h10 : q < 10
    ·refine GoO.bin (a := uB q) (b := uB 10) (v := .b true) rfl rfl rfl rfl (bin_cmp (ctrue h10)) ?_
     refine GoO.go rfl rfl rfl rfl ?_
     refine GoO.go rfl rfl rfl rfl ?_
     refine GoO.go rfl rfl rfl rfl ?_
     by_cases hn : 2 ≤ ps.length
     ·refine GoO.bin (a := nI ps.length) (b := nI 2) (v := .b true) rfl rfl rfl rfl (bin_cmp (ctrue hn)) ?_
      repeat (first | refine GoO.go rfl rfl rfl rfl ?_ | refine GoO.cmp rfl rfl rfl rfl rfl ?_ | refine GoO.off rfl rfl ?_ | refine GoO.nil ?_)
      exact ⟨rfl, rfl, rfl, rfl, rfl, rfl, rfl, rfl, rfl, rfl, by rw [decide_eq_true (And.intro h6 (And.intro h10 hn))]; rfl, trivial⟩
     ·refine GoO.bin (a := nI ps.length) (b := nI 2) (v := .b false) rfl rfl rfl rfl (bin_cmp (cfalse hn)) ?_
      repeat (first | refine GoO.go rfl rfl rfl rfl ?_ | refine GoO.cmp rfl rfl rfl rfl rfl ?_ | refine GoO.off rfl rfl ?_ | refine GoO.nil ?_)
      exact ⟨rfl, rfl, rfl, rfl, rfl, rfl, rfl, rfl, rfl, rfl, by rw [decide_eq_false (fun h => hn h.2.2)]; rfl, trivial⟩
    ·refine GoO.bin (a := uB q) (b := uB 10) (v := .b false) rfl rfl rfl rfl (bin_cmp (cfalse h10)) ?_
     repeat (first | refine GoO.go rfl rfl rfl rfl ?_ | refine GoO.cmp rfl rfl rfl rfl rfl ?_ | refine GoO.off rfl rfl ?_ | refine GoO.nil ?_)
     exact ⟨rfl, rfl, rfl, rfl, rfl, rfl, rfl, rfl, rfl, rfl, by rw [decide_eq_false (fun h => h10 h.2.1)]; rfl, trivial⟩
   ·refine GoO.bin (a := uB q) (b := uB 6) (v := .b false) rfl rfl rfl rfl (bin_cmp (cfalse h6)) ?_
    repeat (first | refine GoO.go rfl rfl rfl rfl ?_ | refine GoO.cmp rfl rfl rfl rfl rfl ?_ | refine GoO.off rfl rfl ?_ | refine GoO.nil ?_)
    exact ⟨rfl, rfl, rfl, rfl, rfl, rfl, rfl, rfl, rfl, rfl, by rw [decide_eq_false (fun h => h6 h.1)]; rfl, trivial⟩
  refine GoF.cnd rfl (fun h => ?_) (fun h => ?_)
  ·have h62 := of_decide_eq_true h
   rw [if_pos (by rw [lnl]; exact h62), lnl]
   obtain ⟨h6, h10, hn2⟩ := h62
   obtain ⟨o, hv, ho, hcf⟩ := hI.acc.inv (by rw [List.length_map]; omega)
   rw [List.length_map] at hv
   subst hv
   have hlt : ps.length - 1 < ps.length := by omega
   have hlt2 : ps.length - 2 < ps.length := by omega
   obtain ⟨x0, x1, x2, x3, G, htk, hF, hFd, hG⟩ := hI.elem hlt2 hcf
   obtain ⟨y0, y1, y2, y3, H, htk2, hH, hHd, hHG⟩ := hI.elem hlt hcf
   rw [show lastN (ps.map Prod.snd) 2 = G from by unfold lastN; rw [lnl, hG]; rfl, show lastN (ps.map Prod.snd) 1 = H from by unfold lastN; rw [lnl, hHG]; rfl]
   have hone : Ones (b.envK K) [39] := .cons (hj8.one rfl rfl) .nil
   have hadd : binop .add (.i .u8 4) (uB q) = some (uB (4 + q)) := bin_add8 (a := 4) (by omega)
   have hsub : binop .sub (uB (4 + q)) (.i .u8 6) = some (uB (q - 2)) := by
    have := bin_sub8 (a := 4 + q) (b := 6) (by omega) (by omega)
    rw [show 4 + q - 6 = q - 2 from by omega] at this
    exact this
   refine GoF.drawK 20 rfl ?_
   refine GoK.seg 13 rfl hone rfl ?_
   refine GoO.go rfl rfl rfl rfl ?_
   refine GoO.go rfl rfl rfl rfl ?_
   refine GoO.bin (a := nI ps.length) (b := nI 2) rfl rfl rfl rfl (bin_sub (by omega) (by omega)) ?_
   refine GoO.go rfl rfl rfl rfl ?_
   refine GoO.bin (a := nI ps.length) (b := nI 2) rfl rfl rfl rfl (bin_sub (by omega) (by omega)) ?_
   refine GoO.val rfl rfl (op_slice3 (k := ps.length - 2) rfl rfl rfl (by omega)) ?_
   refine GoO.go rfl rfl rfl rfl ?_
   refine GoO.bin (a := .i .u8 4) (b := uB q) rfl rfl rfl rfl hadd ?_
   refine GoO.bin (a := uB (4 + q)) (b := .i .u8 6) rfl rfl rfl rfl hsub ?_
   refine GoO.go rfl rfl rfl rfl ?_
   refine GoO.go rfl rfl rfl rfl ?_
   refine GoO.bin (a := nI ps.length) (b := nI 2) rfl rfl rfl rfl (bin_sub (by omega) (by omega)) ?_
   refine GoO.idx (j := ps.length - 2) rfl rfl rfl rfl (idxSlA_sl hlt2) ?_
   refine GoO.nil ⟨rfl, fun _ _ h => h, ?_⟩
   refine GoK.ldw (v := .ag [x0, x1, x2, x3]) rfl rfl rfl (fun τ hk => op_load _ _ rfl (loadA_p (hk _ _ ho) htk)) (snap_eqb 1000 _ _ (Is.snap (σ := σ) (n := 1000) (F := G) (hF.le (by omega)).now (by omega))) ?_
   refine GoK.seg 4 rfl hone rfl ?_
   refine GoO.go rfl rfl rfl rfl ?_
   refine GoO.go rfl rfl rfl rfl ?_
   refine GoO.bin (a := nI ps.length) (b := nI 1) rfl rfl rfl rfl (bin_sub (by omega) (by omega)) ?_
   refine GoO.idx (j := ps.length - 1) rfl rfl rfl rfl (idxSlA_sl hlt) ?_
   refine GoO.nil ⟨rfl, fun _ _ h => h, ?_⟩
   refine GoK.ldw (v := .ag [y0, y1, y2, y3]) rfl rfl rfl (fun τ hk => op_load _ _ rfl (loadA_p (hk _ _ ho) htk2)) (snap_eqb 1000 _ _ (Is.snap (σ := σ) (n := 1000) (F := H) (hH.le (by omega)).now (by omega))) ?_
   generalize hz : σ.next = z
   refine GoK.seg 1 rfl hone rfl ?_
   refine GoO.bsl (c := [x0, x1, x2, x3, y0, y1, y2, y3]) z hz rfl rfl rfl fun σ1 n1 g1 k1 => ?_
   refine GoO.nil ⟨rfl, k1, ?_⟩
   refine GoK.fin hone rfl ?_
   refine GoO.callG rfl rfl rfl (join8_go hj8 (q - 2) (.sl z 0 2 (some 4) (some 2)) (.inr ⟨_, _, _, _, _, rfl⟩) σ1) fun r σ2 ⟨e2, n2, k2⟩ => ⟨_, e2, ?_⟩
   refine GoO.bsl (c := [uB (q - 2), .s [], .nilsl, .sl z 0 2 (some 4) (some 2)]) σ2.next rfl rfl rfl rfl fun σ3 n3 g3 k3 => ?_
   have kk : Kp σ σ3 := fun j o ho => k3 j o (k2 j o (k1 j o ho))
   refine GoO.cutApp (y := .ag [uB (q - 2), .s [], .nilsl, .sl z 0 2 (some 4) (some 2)]) (k := ps.length - 2) (kk _ _ ho) hcf (by rw [List.length_map]; omega) (newOf_one g3 rfl) rfl (by omega) rfl rfl rfl fun v' σ4 hA4 hat4 n4 k4 => ?_
   refine GoO.go rfl rfl rfl rfl ?_
   refine GoO.nil ⟨rfl, rfl, ⟨v', k'⟩, ⟨rfl, ps.take (ps.length - 2) ++ [(.ag [uB (q - 2), .s [], .nilsl, .sl z 0 2 (some 4) (some 2)], .mk (q - 2) [] none (some [G, H]))], _, BInv.step (σ3 := σ3) (fun j => j = z) (ps.length - 2) hI (fun j hj => by subst hj; omega) kk (by omega) hA4 hat4 n4 (fun j o _ h => k4 j o h) ?_ (by rw [mk2_dep]; omega), ?_⟩, rfl, rfl, rfl, rfl, rfl, trivial⟩
   ·have h1 := Frz.two (W := fun j => W j ∧ ¬ j = z) (σ := σ3) (n := 10 + 2 * i) (cap := some 2) (sh := some 4) (v := .ag [x0, x1, x2, x3]) (w := G.A false) (v2 := .ag [y0, y1, y2, y3]) (w2 := H.A false) (k3 _ _ (k2 _ _ g1)) (fun h => h.2 rfl) rfl rfl ((hF.keep fun j o _ h => kk j o h).sub fun j h => h.1) ((hH.keep fun j o _ h => kk j o h).sub fun j h => h.1)
    refine Frz.ag (n := 10 + 2 * i + 1) fun σ' h' => ?_
    rw [mapO_cons', mapO_cons', mapO_cons', mapO_cons', h1 σ' h']; rfl
   ·rw [List.map_append, List.map_take]; rfl
  rw [if_neg (by rw [lnl]; exact of_decide_eq_false h)]
  refine GoF.norm [(0, a), (2, .p (some (0, 0))), (3, v), (4, nI k'), (5, nI i), (6, nI ps.length), (7, uB u), (8, uB q)] ⟨rfl, rfl, rfl, rfl, rfl, rfl, rfl, rfl, trivial⟩ fun g => ?_
  refine GoF.cut [(0, a), (2, .p (some (0, 0))), (3, v), (4, nI k'), (5, nI i), (6, nI ps.length), (7, uB u), (8, uB q), (124, .b (decide (10 ≤ q ∧ 1 ≤ ps.length ∧ k' < 4)))] ?_ fun g => ?_
  ·refine GoF.region ?_
   refine GoO.go rfl rfl rfl rfl ?_
   by_cases h6 : 10 ≤ q
   ·refine GoO.bin (a := uB q) (b := uB 10) (v := .b true) rfl rfl rfl rfl (bin_cmp (ctrue h6)) ?_
    refine GoO.go rfl rfl rfl rfl ?_
    refine GoO.go rfl rfl rfl rfl ?_
    by_cases hn : 1 ≤ ps.length
    ·refine GoO.bin (a := nI ps.length) (b := nI 1) (v := .b true) rfl rfl rfl rfl (bin_cmp (ctrue hn)) ?_
     refine GoO.go rfl rfl rfl rfl ?_
     refine GoO.go rfl rfl rfl rfl ?_
     refine GoO.go rfl rfl rfl rfl ?_
     by_cases h4 : k' < 4
     ·refine GoO.bin (a := nI k') (b := nI 4) (v := .b true) rfl rfl rfl rfl (bin_cmp (ctrue h4)) ?_
      repeat (first | refine GoO.go rfl rfl rfl rfl ?_ | refine GoO.cmp rfl rfl rfl rfl rfl ?_ | refine GoO.off rfl rfl ?_ | refine GoO.nil ?_)
      exact ⟨rfl, rfl, rfl, rfl, rfl, rfl, rfl, rfl, rfl, rfl, by rw [decide_eq_true (And.intro h6 (And.intro hn h4))]; rfl, trivial⟩
     ·refine GoO.bin (a := nI k') (b := nI 4) (v := .b false) rfl rfl rfl rfl (bin_cmp (cfalse h4)) ?_
      repeat (first | refine GoO.go rfl rfl rfl rfl ?_ | refine GoO.cmp rfl rfl rfl rfl rfl ?_ | refine GoO.off rfl rfl ?_ | refine GoO.nil ?_)
      exact ⟨rfl, rfl, rfl, rfl, rfl, rfl, rfl, rfl, rfl, rfl, by rw [decide_eq_false (fun h => h4 h.2.2)]; rfl, trivial⟩
    ·refine GoO.bin (a := nI ps.length) (b := nI 1) (v := .b false) rfl rfl rfl rfl (bin_cmp (cfalse hn)) ?_
     repeat (first | refine GoO.go rfl rfl rfl rfl ?_ | refine GoO.cmp rfl rfl rfl rfl rfl ?_ | refine GoO.off rfl rfl ?_ | refine GoO.nil ?_)
     exact ⟨rfl, rfl, rfl, rfl, rfl, rfl, rfl, rfl, rfl, rfl, by rw [decide_eq_false (fun h => hn h.2.1)]; rfl, trivial⟩
   ·refine GoO.bin (a := uB q) (b := uB 10) (v := .b false) rfl rfl rfl rfl (bin_cmp (cfalse h6)) ?_
    repeat (first | refine GoO.go rfl rfl rfl rfl ?_ | refine GoO.cmp rfl rfl rfl rfl rfl ?_ | refine GoO.off rfl rfl ?_ | refine GoO.nil ?_)
    exact ⟨rfl, rfl, rfl, rfl, rfl, rfl, rfl, rfl, rfl, rfl, by rw [decide_eq_false (fun h => h6 h.1)]; rfl, trivial⟩
  refine GoF.cnd rfl (fun h => ?_) (fun h => ?_)
  ·have h62 := of_decide_eq_true h
   rw [if_pos (by rw [lnl]; exact h62), lnl]
   obtain ⟨h10, hn1, hk4⟩ := h62
   obtain ⟨o, hv, ho, hcf⟩ := hI.acc.inv (by rw [List.length_map]; omega)
   rw [List.length_map] at hv
   subst hv
   have hlt : ps.length - 1 < ps.length := by omega
   obtain ⟨y0, y1, y2, y3, H, htk2, hH, hHd, hHG⟩ := hI.elem hlt hcf
   rw [show lastN (ps.map Prod.snd) 1 = H from by unfold lastN; rw [lnl, hHG]; rfl]
   refine GoF.seq (GoF.region ?_)
   refine GoO.go rfl rfl rfl rfl ?_
   refine GoO.bin (a := nI k') (b := nI 1) rfl rfl rfl rfl (bin_add (by omega)) ?_
   refine GoO.go rfl rfl rfl rfl ?_
   refine GoO.nil ?_
   have hu3 : u % 3 < 3 := Nat.mod_lt _ (by omega)
   refine GoF.drawK 22 rfl ?_
   refine GoK.seg 13 rfl .nil (gs := []) rfl ?_
   refine GoO.go rfl rfl rfl rfl ?_
   refine GoO.go rfl rfl rfl rfl ?_
   refine GoO.bin (a := nI ps.length) (b := nI 1) rfl rfl rfl rfl (bin_sub (by omega) (by omega)) ?_
   refine GoO.go rfl rfl rfl rfl ?_
   refine GoO.bin (a := nI ps.length) (b := nI 1) rfl rfl rfl rfl (bin_sub (by omega) (by omega)) ?_
   refine GoO.val rfl rfl (op_slice3 (k := ps.length - 1) rfl rfl rfl (by omega)) ?_
   refine GoO.go rfl rfl rfl rfl ?_
   refine GoO.bin (a := uB 8) (b := uB q) rfl rfl rfl rfl (bin_add8 (by omega)) ?_
   refine GoO.bin (a := uB (8 + q)) (b := uB 10) rfl rfl rfl rfl (bin_sub8 (by omega) (by omega)) ?_
   generalize hz : σ.next = z
   refine GoO.bsl (c := [.s [120], .s [121], .s [122]]) z hz rfl rfl rfl fun σ1 n1 g1 k1 => ?_
   refine GoO.go rfl rfl rfl rfl ?_
   refine GoO.bin (a := uB u) (b := uB 3) rfl rfl rfl rfl (bin_rem (by omega)) ?_
   refine GoO.idx (j := u % 3) rfl rfl rfl rfl (idxSlA_sl hu3) ?_
   refine GoO.nil ⟨rfl, k1, ?_⟩
   have hname : takeSh none (([.s [120], .s [121], .s [122]] : List AV).drop (0 + u % 3 * shN none)) = some (.s (nameQ (u % 3))) := by
    generalize u % 3 = w at hu3
    have : w = 0 ∨ w = 1 ∨ w = 2 := by omega
    rcases this with rfl | rfl | rfl <;> rfl
   refine GoK.ldw (v := .s (nameQ (u % 3))) rfl rfl rfl (fun τ hk => op_load _ _ rfl (loadA_p (hk _ _ g1) hname)) (eqL_refl _) ?_
   refine GoK.seg 4 rfl .nil (gs := []) rfl ?_
   refine GoO.go rfl rfl rfl rfl ?_
   refine GoO.go rfl rfl rfl rfl ?_
   refine GoO.bin (a := nI ps.length) (b := nI 1) rfl rfl rfl rfl (bin_sub (by omega) (by omega)) ?_
   refine GoO.idx (j := ps.length - 1) rfl rfl rfl rfl (idxSlA_sl hlt) ?_
   refine GoO.nil ⟨rfl, fun _ _ h => h, ?_⟩
   refine GoK.ldw (v := .ag [y0, y1, y2, y3]) rfl rfl rfl (fun τ hk => op_load _ _ rfl (loadA_p (hk _ _ (k1 _ _ ho)) htk2)) (snap_eqb 1000 _ _ (Is.snap (σ := σ) (n := 1000) (F := H) (hH.le (by omega)).now (by omega))) ?_
   refine GoK.seg 3 rfl .nil (gs := []) rfl ?_
   refine GoO.bsl (c := [y0, y1, y2, y3]) (z + 1) n1 rfl rfl rfl fun σ2 n2 g2 k2 => ?_
   have hq2 : 8 + q - 10 = q - 2 := by omega
   rw [hq2]
   refine GoO.go (v := .ag [uB (q - 2), .s (nameQ (u % 3)), .nilsl, .sl (z + 1) 0 1 (some 4) (some 1)]) rfl rfl rfl rfl ?_
   refine GoO.bsl (c := [uB (q - 2), .s (nameQ (u % 3)), .nilsl, .sl (z + 1) 0 1 (some 4) (some 1)]) (z + 2) n2 rfl rfl rfl fun σ3 n3 g3 k3 => ?_
   refine GoO.nil ⟨rfl, fun j o h => k3 j o (k2 j o h), ?_⟩
   have kk : Kp σ σ3 := fun j o ho => k3 j o (k2 j o (k1 j o ho))
   refine GoK.fin .nil (gs := []) rfl ?_
   refine GoO.cutApp (y := .ag [uB (q - 2), .s (nameQ (u % 3)), .nilsl, .sl (z + 1) 0 1 (some 4) (some 1)]) (k := ps.length - 1) (kk _ _ ho) hcf (by rw [List.length_map]; omega) (newOf_one g3 rfl) rfl (by omega) rfl rfl rfl fun v' σ4 hA4 hat4 n4 k4 => ?_
   refine GoO.go rfl rfl rfl rfl ?_
   refine GoO.nil ⟨rfl, rfl, ⟨v', k' + 1⟩, ⟨rfl, ps.take (ps.length - 1) ++ [(.ag [uB (q - 2), .s (nameQ (u % 3)), .nilsl, .sl (z + 1) 0 1 (some 4) (some 1)], .mk (q - 2) (nameQ (u % 3)) none (some [H]))], _, BInv.step (σ3 := σ3) (fun j => j = z + 1) (ps.length - 1) hI (fun j hj => by subst hj; omega) kk (by omega) hA4 hat4 n4 (fun j o _ h => k4 j o h) ?_ (by rw [mk1_dep]; omega), ?_⟩, rfl, rfl, rfl, rfl, rfl, trivial⟩
   ·have h1 := Frz.one (W := fun j => W j ∧ ¬ j = z + 1) (σ := σ3) (n := 10 + 2 * i) (cap := some 1) (sh := some 4) (v := .ag [y0, y1, y2, y3]) (w := H.A false) (k3 _ _ g2) (fun h => h.2 rfl) rfl ((hH.keep fun j o _ h => kk j o h).sub fun j h => h.1)
    refine Frz.ag (n := 10 + 2 * i + 1) fun σ' h' => ?_
    rw [mapO_cons', mapO_cons', mapO_cons', mapO_cons', h1 σ' h']; rfl
   ·rw [List.map_append, List.map_take]; rfl
  rw [if_neg (by rw [lnl]; exact of_decide_eq_false h)]
  exact GoF.skip ⟨rfl, ⟨v, k'⟩, ⟨rfl, ps, W, hI.next, rfl⟩, rfl, rfl, rfl, rfl, rfl, trivial⟩
 ·intro t σ g ⟨_, ps, W, hI, e⟩
  unfold builtF
  rw [← e]
  clear e h0 hn
  obtain ⟨v, k⟩ := t
  have hi24 : min l.length 24 ≤ 24 := Nat.min_le_right ..
  have hpl := hI.len
  generalize min l.length 24 = i at hi24 hI hpl
  refine GoF.cutR [(2, .p (some (0, 0))), (3, v)] (E := BoxR 2 (some 4) fun v σ' => freeze σ' 0 1000 v = some ((finB (ps.map Prod.snd)).A false)) (M := 0 < ps.length) ?_ (fun x f' σ' h => ⟨fun e => (by have := h.1; rw [e] at this; cases this), h⟩) fun hpos g => ?_
  ·refine GoF.seq (GoF.region ?_)
   refine GoO.go rfl rfl rfl rfl ?_
   refine GoO.len rfl rfl rfl hI.acc.len ?_
   rw [List.length_map]
   refine GoO.bin (a := nI ps.length) (b := nI 0) (v := .b (decide (ps.length = 0))) rfl rfl rfl rfl (bin_cmp rfl) ?_
   refine GoO.nil (GoF.cnd rfl (fun h => ?_) (fun h => ?_))
   ·have h0 := of_decide_eq_true h
    obtain rfl : ps = [] := List.length_eq_zero_iff.1 h0
    refine GoF.seq (GoF.region ?_)
    refine GoO.callG rfl rfl rfl (join8_go hj8 2 .nilsl (.inl rfl) σ) fun r σ2 ⟨e2, n2, k2⟩ => ⟨_, e2, ?_⟩
    refine GoO.store (c' := [uB 2, .s [], .nilsl, .nilsl]) (k2 _ _ hI.res) rfl rfl rfl rfl rfl fun σ3 n3 h3 k3 => ?_
    exact GoO.nil (GoF.ret (.inr ⟨rfl, _, _, _, .ag [uB 2, .s [], .nilsl, .nilsl], rfl, h3, rfl, Fm.frz σ3 998 (.mk 2 [] none none) false⟩))
   ·exact GoF.skip (.inl ⟨rfl, rfl, ⟨rfl, rfl, trivial⟩, Nat.pos_of_ne_zero (of_decide_eq_false h)⟩)
  obtain ⟨o, hv, ho, hcf⟩ := hI.acc.inv (by rw [List.length_map]; omega)
  rw [List.length_map] at hv
  subst hv
  obtain ⟨x0, x1, x2, x3, F0, htk, hF, hFd, hFG⟩ := hI.elem hpos hcf
  refine GoF.seq (GoF.region ?_)
  refine GoO.go rfl rfl rfl rfl ?_
  refine GoO.idx (j := 0) rfl rfl rfl rfl (idxSlA_sl hpos) ?_
  refine GoO.ld ho rfl rfl rfl htk ?_
  have hlt0 := St.get_lt hI.res
  have hlto := St.get_lt ho
  have honz : o ≠ 0 := fun e => hI.nz (by rw [e]; rfl)
  generalize hz : σ.next = z at hlt0 hlto
  refine GoO.var (v := .ag [x0, x1, x2, x3]) (c := [x0, x1, x2, x3]) z hz rfl rfl rfl rfl rfl rfl fun σ2 n2 h2 k2 => ?_
  have hWz : W z := Classical.byContradiction fun e => by have := hI.old z e; omega
  obtain ⟨tl, htl⟩ : ∃ tl, ps.map Prod.snd = F0 :: tl := by
   cases hps : ps.map Prod.snd with
   | nil => rw [hps] at hFG; cases hFG
   | cons y tl => rw [hps] at hFG; cases hFG; exact ⟨tl, rfl⟩
  have htll : tl.length + 1 = ps.length := by
   have := congrArg List.length htl
   rw [List.length_map] at this; exact this.symm
  rw [htl]
  refine GoO.nil ?_
  show GoF (b.envK K) 181 _ _ _ (BoxR 2 (some 4) fun v σ' => freeze σ' 0 1000 v = some ((orsB F0 tl).A false))
  refine GoF.seq (GoF.seq (GoF.region ?_))
  refine GoO.go rfl rfl rfl rfl ?_
  refine GoO.nil (GoF.block ?_)
  refine GoF.loop (fun m f σ' => ∃ j fv W', j + 1 + m = ps.length ∧ z < σ'.next ∧ σ'.get 0 = some (.cells [.i .u8 0, .s [], .nilsl, .nilsl]) ∧ σ'.get z = some (.cells fv.cells) ∧ conf (some 4) fv = true ∧ Frz W' σ' (60 + 2 * j) fv ((orsB F0 (tl.take j)).A false) ∧ (orsB F0 (tl.take j)).dep ≤ 30 + j ∧ W' z ∧ W' 0 ∧ (∀ j, ¬ W' j → j < σ'.next) ∧ (∀ p ∈ ps, Frz W' σ' 58 p.1 (p.2.A false)) ∧ σ'.get o = some (.cells ((ps.map Prod.fst).flatMap AV.cells)) ∧
   sat [(2, .p (some (0, 0))), (3, .sl o 0 ps.length (some 4) none), (9, .p (some (z, 0))), (10, nI (j + 1))] f) ?_ (ps.length - 1) ⟨0, .ag [x0, x1, x2, x3], W, by omega, by omega, k2 _ _ hI.res, h2, rfl, (hF.keep fun j o _ h => k2 j o h).le (by omega), (by show F0.dep ≤ _; omega), hWz, hI.zero, (fun j h => by have := hI.old j h; omega), (fun p hp => ((hI.frz p hp).1.keep fun j o _ h => k2 j o h).le (by omega)), k2 _ _ ho, rfl, rfl, rfl, rfl, trivial⟩
  have hps := hI.frz
  clear hF hFd htk hI h2 k2 n2 ho hz hFG
  intro m g σ ⟨j, fv, W', hjm, hzn, h0, hz, hfc, hfF, hfd, hWz', hW0, hold, hel, ho, hL⟩
  refine GoF.norm _ hL fun g => ?_
  clear hL
  refine GoF.seq (GoF.seq (GoF.region ?_))
  refine GoO.go rfl rfl rfl rfl ?_
  refine GoO.go rfl rfl rfl rfl ?_
  refine GoO.len (m := ps.length) rfl rfl rfl rfl ?_
  refine GoO.bin (a := nI (j + 1)) (b := nI ps.length) (v := .b (decide (j + 1 < ps.length))) rfl rfl rfl rfl (bin_cmp rfl) ?_
  obtain ⟨lf, rfl, hl4⟩ := conf_some hfc
  obtain ⟨f0, f1, f2, f3, rfl⟩ : ∃ x0 x1 x2 x3, lf = [x0, x1, x2, x3] := by
   match lf, hl4 with
   | [x0, x1, x2, x3], _ => exact ⟨x0, x1, x2, x3, rfl⟩
  refine GoO.nil (GoF.cnd rfl (fun h => ?_) (fun h => ?_))
  ·have hlt : j + 1 < ps.length := of_decide_eq_true h
   refine GoF.skip ?_
   have hx : (ps.map Prod.fst)[j + 1]'(by rw [List.length_map]; exact hlt) = (ps[j + 1]).1 := List.getElem_map ..
   have hm : ps[j + 1] ∈ ps := List.getElem_mem hlt
   have hH := hel _ hm
   have hHd := (hps _ hm).2
   have htk2 := take_elem (sh := some 4) (xs := ps.map Prod.fst) (j := j + 1) (by rw [List.length_map]; exact hlt) hcf
   rw [hx] at htk2
   obtain ⟨ly, hly, hl4⟩ := conf_some (hcf (ps[j + 1]).1 (List.mem_map.2 ⟨_, hm, rfl⟩))
   obtain ⟨y0, y1, y2, y3, rfl⟩ : ∃ x0 x1 x2 x3, ly = [x0, x1, x2, x3] := by
    match ly, hl4 with
    | [x0, x1, x2, x3], _ => exact ⟨x0, x1, x2, x3, rfl⟩
   rw [hly] at htk2 hH
   have hjt : j < tl.length := by omega
   have htlj : tl[j] = (ps[j + 1]).2 := by
    have e1 : (ps.map Prod.snd)[j + 1]'(by rw [List.length_map]; exact hlt) = (ps[j + 1]).2 := List.getElem_map ..
    rw [← e1]
    simp only [htl, List.getElem_cons_succ]
   have hone : Ones (b.envK K) [39] := .cons (hj8.one rfl rfl) .nil
   refine GoF.seq (GoF.block (GoF.drawK 6 rfl ?_))
   refine GoK.ldw (v := .ag [f0, f1, f2, f3]) rfl rfl rfl (fun τ hk => op_load _ _ rfl (loadA_p (hk _ _ hz) (take_conf (sh := some 4) (v := .ag [f0, f1, f2, f3]) rfl))) (snap_eqb 1000 _ _ (Is.snap (σ := σ) (n := 1000) (F := orsB F0 (tl.take j)) (hfF.le (by omega)).now (by omega))) ?_
   refine GoK.seg 3 rfl hone rfl ?_
   refine GoO.go rfl rfl rfl rfl ?_
   refine GoO.go rfl rfl rfl rfl ?_
   refine GoO.idx (j := j + 1) rfl rfl rfl rfl (idxSlA_sl hlt) ?_
   refine GoO.nil ⟨rfl, fun _ _ h => h, ?_⟩
   refine GoK.ldw (v := .ag [y0, y1, y2, y3]) rfl rfl rfl (fun τ hk => op_load _ _ rfl (loadA_p (hk _ _ ho) htk2)) (snap_eqb 1000 _ _ (Is.snap (σ := σ) (n := 1000) (F := (ps[j + 1]).2) (hH.le (by omega)).now (by omega))) ?_
   generalize hw : σ.next = w
   refine GoK.seg 1 rfl hone rfl ?_
   refine GoO.bsl (c := [f0, f1, f2, f3, y0, y1, y2, y3]) w hw rfl rfl rfl fun σ1 n1 g1 k1 => ?_
   refine GoO.nil ⟨rfl, k1, ?_⟩
   refine GoK.fin hone rfl ?_
   refine GoO.callG rfl rfl rfl (join8_go hj8 5 (.sl w 0 2 (some 4) (some 2)) (.inr ⟨_, _, _, _, _, rfl⟩) σ1) fun r σ2 ⟨e2, n2, k2⟩ => ⟨_, e2, ?_⟩
   have kk : Kp σ σ2 := fun j o ho => k2 j o (k1 j o ho)
   refine GoO.store (c' := [uB 5, .s [], .nilsl, .sl w 0 2 (some 4) (some 2)]) (kk _ _ hz) rfl rfl rfl rfl rfl fun σ3 n3 h3 k3 => ?_
   refine GoO.nil ⟨rfl, ?_⟩
   refine GoF.region ?_
   refine GoO.go rfl rfl rfl rfl ?_
   refine GoO.bin (a := nI (j + 1)) (b := nI 1) rfl rfl rfl rfl (bin_add (by omega)) ?_
   refine GoO.go rfl rfl rfl rfl ?_
   have kW : ∀ i o, ¬ (W' i ∧ ¬ i = w) → σ2.get i = some o → σ3.get i = some o := fun i o hi h => k3 i o (fun e => hi (by subst e; exact ⟨hWz', by omega⟩)) h
   have hz0 : (0 : Nat) ≠ z := by have := St.get_lt h0; omega
   have hoz : o ≠ z := by omega
   refine GoO.nil ⟨m - 1, by omega, j + 1, .ag [uB 5, .s [], .nilsl, .sl w 0 2 (some 4) (some 2)], fun i => W' i ∧ ¬ i = w, by omega, by omega, k3 _ _ hz0 (kk _ _ h0), h3, rfl, ?_, ?_, ⟨hWz', by omega⟩, ⟨hW0, by omega⟩, ?_, ?_, k3 _ _ hoz (kk _ _ ho), rfl, rfl, rfl, rfl, trivial⟩
   ·rw [List.take_succ_eq_append_getElem hjt, orsB_snoc, htlj]
    have h1 := Frz.two (W := fun i => W' i ∧ ¬ i = w) (σ := σ2) (n := 60 + 2 * j) (cap := some 2) (sh := some 4) (v := .ag [f0, f1, f2, f3]) (w := (orsB F0 (tl.take j)).A false) (v2 := .ag [y0, y1, y2, y3]) (w2 := (ps[j + 1]).2.A false) (k2 _ _ g1) (fun h => h.2 rfl) rfl rfl ((hfF.keep fun j o _ h => kk j o h).sub fun j h => h.1) (((hH.keep fun j o _ h => kk j o h).sub fun j h => h.1).le (by omega))
    refine Frz.keep (σ := σ2) (Frz.ag (n := 60 + 2 * j + 1) fun σ' h' => ?_) kW
    rw [mapO_cons', mapO_cons', mapO_cons', mapO_cons', h1 σ' h']; rfl
   ·rw [List.take_succ_eq_append_getElem hjt, orsB_snoc, mk2_dep, htlj]; omega
   ·intro i hi
    by_cases e : i = w
    ·omega
    ·have := hold i fun h => hi ⟨h, e⟩
     omega
   ·intro p hp
    exact (((hel p hp).keep fun j o _ h => kk j o h).sub fun j h => h.1).keep kW
  ·have hge : ¬ j + 1 < ps.length := of_decide_eq_false h
   obtain rfl : j = tl.length := by omega
   rw [List.take_length] at hfF hfd
   refine GoF.exit ?_
   refine GoF.seq (GoF.region ?_)
   refine GoO.ld (v := .ag [f0, f1, f2, f3]) hz rfl rfl rfl rfl ?_
   refine GoO.store (c' := [f0, f1, f2, f3]) h0 rfl rfl rfl rfl rfl fun σ3 n3 h3 k3 => ?_
   refine GoO.nil (GoF.ret ⟨rfl, _, _, _, .ag [f0, f1, f2, f3], rfl, h3, rfl, ?_⟩)
   exact ((hfF.keep (σ' := σ3) fun i o hi h => k3 i o (fun e => hi (by subst e; exact hW0)) h).le (by omega)).now
end
end Go.Lyc
end
noncomputable section
namespace Go.Lyc
open Go.RowKit Go.Lyc.T
abbrev Sy := List Nat × Nat
abbrev symA (s : Sy) : AV := .ag [.s s.1, nI s.2]
theorem eqL_dec : ∀ (a b : List Nat), eqL a b = decide (a = b)
 | [], [] => rfl
 | [], _ :: _ => rfl
 | _ :: _, [] => rfl
 | x :: a, y :: b => by
  show cond (Nat.beq x y) (eqL a b) false = _
  cases h : Nat.beq x y with
  | false =>
   have : x ≠ y := fun e => by rw [e, Nat.beq_refl] at h; cases h
   rw [decide_eq_false (fun e => this (by injection e))]; rfl
  | true =>
   rw [Nat.eq_of_beq_eq_true h, cond_true, eqL_dec a b]
   simp
theorem keyEq_sym (a b : Sy) : keyEq (.inr [1, 0]) (symA a) (symA b) = some (decide (a = b)) := by
 show (match leafEq 1 (.s a.1) (.s b.1), leafEqs [0] [nI a.2] [nI b.2] with | some a, some b => some (a && b) | _, _ => none) = _
 have e : leafEqs [0] [nI a.2] [nI b.2] = some (decide (a.2 = b.2)) := by
  show (match leafEq 0 (nI a.2) (nI b.2), leafEqs [] [] [] with | some a, some b => some (a && b) | _, _ => none) = _
  show (match (if (IntKind.i64 = .i64) then some (decide (Int.ofNat a.2 = Int.ofNat b.2)) else none), some true with | some a, some b => some (a && b) | _, _ => none) = _
  rw [if_pos rfl]
  simp only [Int.ofNat_eq_natCast, Int.natCast_inj, Bool.and_true]
 rw [e]
 show some (eqL a.1 b.1 && decide (a.2 = b.2)) = _
 rw [eqL_dec]
 obtain ⟨a1, a2⟩ := a
 obtain ⟨b1, b2⟩ := b
 by_cases h1 : a1 = b1 <;> by_cases h2 : a2 = b2 <;> simp [h1, h2]
section
variable {α : Type} [DecidableEq α] {ka : α → AV} {sh : KeyK}
def setE (ka : α → AV) : Nat → List α → List (AV × AV × Nat)
 | _, [] => []
 | i, k :: ks => (ka k, .b true, i) :: setE ka (i + 1) ks
def insE (k : α) (l : List α) : List α := if k ∈ l then l else l ++ [k]
theorem setE_app : ∀ (l : List α) (i : Nat) (k : α), setE ka i (l ++ [k]) = setE ka i l ++ [(ka k, .b true, i + l.length)]
 | [], i, k => rfl
 | x :: l, i, k => by
  show _ :: setE ka (i + 1) (l ++ [k]) = _
  rw [setE_app l (i + 1) k]
  show _ = (ka x, AV.b true, i) :: (setE ka (i + 1) l ++ [(ka k, .b true, i + (l.length + 1))])
  rw [show i + 1 + l.length = i + (l.length + 1) from by omega]
theorem updE_set (hk : ∀ a b, keyEq sh (ka a) (ka b) = some (decide (a = b))) (k : α) : ∀ (l : List α) (i : Nat), updE sh (ka k) (.b true) (setE ka i l) = some (if k ∈ l then some (setE ka i l) else none)
 | [], i => rfl
 | x :: l, i => by
  show (match keyEq sh (ka k) (ka x) with
   | none => none
   | some true => some (some ((ka k, AV.b true, i) :: setE ka (i + 1) l))
   | some false => match updE sh (ka k) (AV.b true) (setE ka (i + 1) l) with | none => none | some none => some none | some (some es) => some (some ((ka x, AV.b true, i) :: es))) = _
  rw [hk, updE_set hk k l (i + 1)]
  by_cases h : k = x
  ·subst h
   rw [decide_eq_true rfl, if_pos (List.mem_cons_self)]; rfl
  ·rw [decide_eq_false h]
   by_cases hm : k ∈ l
   ·rw [if_pos hm, if_pos (List.mem_cons_of_mem _ hm)]; rfl
   ·rw [if_neg hm, if_neg (by simp [h, hm])]
theorem mapUpdS {env : Env} {n : Nat} {f : Nat → AV} {σ : St} (hk : ∀ a b, keyEq sh (ka a) (ka b) = some (decide (a = b))) {x y : AOpd} {mid : Nat} {k : α} {l : List α} (h1 : evF env n f x = some (.m (some mid))) (h2 : evF env n f y = some (ka k)) (hm : σ.get mid = some (.map (setE ka 0 l) l.length)) :
  opx 0 (evF env n f) σ (.mapUpd sh x y (.c (.b true))) = some (.val undefA (σ.set mid (.map (setE ka 0 (insE k l)) (insE k l).length))) := by
 show (match evF env n f x, evF env n f y, some (AV.b true) with
  | some (.m (some id)), some k, some v =>
   if Nat.blt id 0 then none else
   match σ.get id with
   | some (.map es cl) => match keyEq sh k k with
    | none => none
    | some _ => match updE sh k v es with
    | some (some es) => some (OpR.val undefA (σ.set id (.map es cl)))
    | some none => some (OpR.val undefA (σ.set id (.map (es ++ [(k, v, cl)]) (cl + 1))))
    | none => none
   | _ => none
  | _, _, _ => none) = _
 rw [h1, h2]
 show (if Nat.blt mid 0 then none else
   match σ.get mid with
   | some (.map es cl) => (match keyEq sh (ka k) (ka k) with
    | none => none
    | some _ => match updE sh (ka k) (.b true) es with
    | some (some es) => some (OpR.val undefA (σ.set mid (.map es cl)))
    | some none => some (OpR.val undefA (σ.set mid (.map (es ++ [(ka k, AV.b true, cl)]) (cl + 1))))
    | none => none)
   | _ => none) = _
 rw [if_neg (by simp [Nat.blt, Nat.ble]), hm]
 show (match keyEq sh (ka k) (ka k) with
    | none => none
    | some _ => match updE sh (ka k) (.b true) (setE ka 0 l) with
    | some (some es) => some (OpR.val undefA (σ.set mid (.map es l.length)))
    | some none => some (OpR.val undefA (σ.set mid (.map (setE ka 0 l ++ [(ka k, AV.b true, l.length)]) (l.length + 1))))
    | none => none) = _
 rw [hk, updE_set hk]
 unfold insE
 by_cases hmem : k ∈ l
 ·rw [if_pos hmem, if_pos hmem]
 ·rw [if_neg hmem, if_neg hmem, setE_app, List.length_append, Nat.zero_add]; rfl
theorem setE_lt : ∀ (l : List α) (i c : Nat), i + l.length ≤ c → allB (fun (e : AV × AV × Nat) => Nat.blt e.2.2 c) (setE ka i l) = true
 | [], _, _, _ => rfl
 | x :: l, i, c, h => by
  show cond (Nat.blt i c) (allB _ (setE ka (i + 1) l)) false = true
  have h : i + (l.length + 1) ≤ c := h
  rw [show Nat.blt i c = true from Nat.ble_eq_true_of_le (by omega), cond_true]
  exact setE_lt l (i + 1) c (by omega)
def leftK (seen : List Nat) : Nat → List α → List (α × Nat)
 | _, [] => []
 | i, k :: ks => cond (memN i seen) (leftK seen (i + 1) ks) ((k, i) :: leftK seen (i + 1) ks)
theorem leftE_set (seen : List Nat) : ∀ (l : List α) (i : Nat), leftE seen (setE ka i l) = (leftK seen i l).map fun p => (ka p.1, .b true, p.2)
 | [], _ => rfl
 | x :: l, i => by
  show cond (memN i seen) (leftE seen (setE ka (i + 1) l)) ((ka x, .b true, i) :: leftE seen (setE ka (i + 1) l)) = _
  rw [leftE_set seen l (i + 1), leftK]
  cases memN i seen <;> rfl
theorem memN_app (n : Nat) (j : Nat) : ∀ (l : List Nat), memN n (l ++ [j]) = (memN n l || Nat.beq j n)
 | [] => by show cond (Nat.beq j n) true false = _; cases Nat.beq j n <;> rfl
 | x :: l => by
  show cond (Nat.beq x n) true (memN n (l ++ [j])) = (cond (Nat.beq x n) true (memN n l) || Nat.beq j n)
  rw [memN_app n j l]; cases Nat.beq x n <;> rfl
theorem leftK_nil : ∀ (l : List α) (i : Nat), (leftK [] i l).map Prod.fst = l
 | [], _ => rfl
 | x :: l, i => by
  show x :: (leftK [] (i + 1) l).map Prod.fst = _
  rw [leftK_nil l (i + 1)]
theorem leftK_ge (seen : List Nat) : ∀ (l : List α) (i : Nat) (p : α × Nat), p ∈ leftK seen i l → i ≤ p.2
 | [], _, _, h => by simp [leftK] at h
 | x :: l, i, p, h => by
  rw [leftK] at h
  cases hm : memN i seen with
  | true => rw [hm] at h; have := leftK_ge seen l (i + 1) p h; omega
  | false =>
   rw [hm, cond_false] at h
   rcases List.mem_cons.1 h with rfl | h
   ·exact Nat.le_refl _
   ·have := leftK_ge seen l (i + 1) p h; omega
theorem leftK_skip (seen : List Nat) (j : Nat) : ∀ (l : List α) (i : Nat), j < i → leftK (seen ++ [j]) i l = leftK seen i l
 | [], _, _ => rfl
 | x :: l, i, h => by
  rw [leftK, leftK, memN_app, leftK_skip seen j l (i + 1) (by omega)]
  have : Nat.beq j i = false := by
   cases hb : Nat.beq j i with
   | false => rfl
   | true => have := Nat.eq_of_beq_eq_true hb; omega
  rw [this, Bool.or_false]
theorem leftK_step (seen : List Nat) : ∀ (l : List α) (i : Nat) (p : α × Nat), p ∈ leftK seen i l → (p :: leftK (seen ++ [p.2]) i l).Perm (leftK seen i l)
 | [], _, _, h => by simp [leftK] at h
 | x :: l, i, p, h => by
  rw [leftK] at h ⊢
  rw [leftK, memN_app]
  cases hm : memN i seen with
  | true =>
   rw [hm, cond_true] at h
   rw [Bool.true_or, cond_true, cond_true]
   exact leftK_step seen l (i + 1) p h
  | false =>
   rw [hm, cond_false] at h
   rw [Bool.false_or, cond_false]
   rcases List.mem_cons.1 h with rfl | h
   ·rw [Nat.beq_refl, cond_true, leftK_skip seen i l (i + 1) (by omega)]
   ·have hge := leftK_ge seen l (i + 1) p h
    have : Nat.beq p.2 i = false := by
     cases hb : Nat.beq p.2 i with
     | false => rfl
     | true => have := Nat.eq_of_beq_eq_true hb; omega
    rw [this, cond_false]
    exact (List.Perm.swap _ _ _).trans ((leftK_step seen l (i + 1) p h).cons _)
theorem bornE_set (seen : List Nat) : ∀ (l : List α) (i : Nat) (p : α × Nat), p ∈ leftK seen i l → bornE p.2 (setE ka i l) = some (ka p.1, .b true, p.2)
 | [], _, _, h => by simp [leftK] at h
 | x :: l, i, p, h => by
  rw [leftK] at h
  show cond (Nat.beq i p.2) (some (ka x, AV.b true, i)) (bornE p.2 (setE ka (i + 1) l)) = _
  have key : ∀ h : p ∈ leftK seen (i + 1) l, cond (Nat.beq i p.2) (some (ka x, AV.b true, i)) (bornE p.2 (setE ka (i + 1) l)) = some (ka p.1, .b true, p.2) := fun h => by
   have hge := leftK_ge seen l (i + 1) p h
   have : Nat.beq i p.2 = false := by
    cases hb : Nat.beq i p.2 with
    | false => rfl
    | true => have := Nat.eq_of_beq_eq_true hb; omega
   rw [this, cond_false]
   exact bornE_set seen l (i + 1) p h
  cases hm : memN i seen with
  | true => rw [hm, cond_true] at h; exact key h
  | false =>
   rw [hm, cond_false] at h
   rcases List.mem_cons.1 h with rfl | h
   ·rw [Nat.beq_refl]; rfl
   ·exact key h
theorem lastE_app (j : Nat) : ∀ (l : List Nat), lastE (l ++ [j]) = some j
 | [] => rfl
 | x :: l => by
  show (match lastE (l ++ [j]) with | none => some x | some y => some y) = _
  rw [lastE_app j l]
section
variable {env : Env} {wh : Option Nat} {D : List (Nat ⊕ (AV × List AV))} {n : Nat} {f : Nat → AV} {σ : St} {Q : PostF}
theorem GoO.mkMap {d : Nat} {wn : List Nat} {ops : List AOper} (k : Nat) (hn : σ.next = k) (hd : Nat.blt d n = true)
  (h : ∀ σ' : St, σ'.next = k + 1 → σ'.get k = some (.map [] 0) → (∀ i o, σ.get i = some o → σ'.get i = some o) → GoV env wh D n ops (upd f d (.m (some k))) σ' Q) : GoV env wh D n (⟨some d, .mkMap, none, wn⟩ :: ops) f σ Q := by
 subst hn
 exact GoO.val (v := .m (some σ.next)) (σ' := σ.push (.map [] 0)) hd rfl rfl (h (σ.push (.map [] 0)) rfl (St.get_push_new _) fun i o ho => by rw [St.get_push_old trivial _ (St.get_lt ho)]; exact ho)
theorem GoO.mapUpdS (hk : ∀ a b, keyEq sh (ka a) (ka b) = some (decide (a = b))) {wn : List Nat} {ops : List AOper} {x y : AOpd} {mid : Nat} {k : α} {l : List α} (hm : σ.get mid = some (.map (setE ka 0 l) l.length)) (h1 : evF env n f x = some (.m (some mid))) (h2 : evF env n f y = some (ka k))
  (h : ∀ σ' : St, σ'.next = σ.next → σ'.get mid = some (.map (setE ka 0 (insE k l)) (insE k l).length) → (∀ i o, i ≠ mid → σ.get i = some o → σ'.get i = some o) → GoV env wh D n ops f σ' Q) : GoV env wh D n (⟨none, .mapUpd sh x y (.c (.b true)), none, wn⟩ :: ops) f σ Q :=
 GoO.eff rfl (Go.Lyc.mapUpdS hk h1 h2 hm) (h _ rfl (set_get hm).1 (set_get hm).2)
theorem GoO.rangeS {d : Nat} {wn : List Nat} {ops : List AOper} {x : AOpd} {mid c : Nat} {es : List (AV × AV × Nat)} (k : Nat) (hn : σ.next = k) (hm : σ.get mid = some (.map es c)) (hd : Nat.blt d n = true) (h1 : evF env n f x = some (.m (some mid)))
  (h : ∀ σ' : St, σ'.next = k + 1 → σ'.get k = some (.mapIter (some mid) c [] c) → (∀ i o, σ.get i = some o → σ'.get i = some o) → GoV env wh D n ops (upd f d (.p (some (k, 0)))) σ' Q) : GoV env wh D n (⟨some d, .rangeMap x, none, wn⟩ :: ops) f σ Q := by
 subst hn
 refine GoO.val (v := .p (some (σ.next, 0))) (σ' := σ.push (.mapIter (some mid) c [] c)) hd rfl ?_ (h (σ.push (.mapIter (some mid) c [] c)) rfl (St.get_push_new _) fun i o ho => by rw [St.get_push_old trivial _ (St.get_lt ho)]; exact ho)
 show (match evF env n f x with
  | some (.m none) => some (OpR.val (ptrId σ.next 0) (σ.push (.mapIter none 0 [] 0)))
  | some (.m (some id)) => match σ.get id with
   | some (.map _ cl) => some (OpR.val (ptrId σ.next 0) (σ.push (.mapIter (some id) cl [] cl)))
   | _ => none
  | _ => none) = _
 rw [h1]
 show (match σ.get mid with
   | some (.map _ cl) => some (OpR.val (ptrId σ.next 0) (σ.push (.mapIter (some mid) cl [] cl)))
   | _ => none) = _
 rw [hm]; rfl
theorem GoO.nextS {d : Nat} {wn : List Nat} {ops : List AOper} {x : AOpd} {mid it : Nat} {l : List α} {seen : List Nat} (hit : σ.get it = some (.mapIter (some mid) l.length seen l.length)) (hm : σ.get mid = some (.map (setE ka 0 l) l.length)) (hd : Nat.blt d n = true) (h1 : evF env n f x = some (.p (some (it, 0))))
  (h0 : leftK seen 0 l = [] → GoV env wh D n ops (upd f d (.tu [.b false])) σ Q)
  (hs : ∀ p ∈ leftK seen 0 l, ∀ σ' : St, σ'.next = σ.next → σ'.get it = some (.mapIter (some mid) l.length (seen ++ [p.2]) l.length) → (∀ i o, i ≠ it → σ.get i = some o → σ'.get i = some o) → GoV env wh D n ops (upd f d (.tu [.b true, ka p.1, .b true])) σ' Q) : GoV env wh D n (⟨some d, .nextMap x, none, wn⟩ :: ops) f σ Q := by
 have e : opx 0 (evF env n f) σ (.nextMap x) = (match leftE seen (setE ka 0 l) with
       | [] => some (OpR.val (.tu [.b false]) σ)
       | l' => some (OpR.nexts (l'.map fun (e : AV × AV × Nat) => (.tu [.b true, e.1, e.2.1], σ.set it (.mapIter (some mid) l.length (seen ++ [e.2.2]) l.length))))) := by
  show (match evF env n f x with
   | some (.p (some (it, 0))) => if Nat.blt it 0 then none else
    match σ.get it with
    | some (.mapIter none _ _ _) => some (OpR.val (.tu [.b false]) σ)
    | some (.mapIter (some id) since seen stepped) => match σ.get id with
     | some (.map es cl) =>
      cond (Nat.beq cl since && Nat.beq stepped since && allB (fun (e : AV × AV × Nat) => Nat.blt e.2.2 since) es)
       (match leftE seen es with
        | [] => some (OpR.val (.tu [.b false]) σ)
        | l => some (OpR.nexts (l.map fun (e : AV × AV × Nat) => (.tu [.b true, e.1, e.2.1], σ.set it (.mapIter (some id) since (seen ++ [e.2.2]) cl))))) none
     | _ => none
    | _ => none
   | _ => none) = _
  rw [h1]
  show (if Nat.blt it 0 then none else
    match σ.get it with
    | some (.mapIter none _ _ _) => some (OpR.val (.tu [.b false]) σ)
    | some (.mapIter (some id) since seen stepped) => match σ.get id with
     | some (.map es cl) =>
      cond (Nat.beq cl since && Nat.beq stepped since && allB (fun (e : AV × AV × Nat) => Nat.blt e.2.2 since) es)
       (match leftE seen es with
        | [] => some (OpR.val (.tu [.b false]) σ)
        | l => some (OpR.nexts (l.map fun (e : AV × AV × Nat) => (.tu [.b true, e.1, e.2.1], σ.set it (.mapIter (some id) since (seen ++ [e.2.2]) cl))))) none
     | _ => none
    | _ => none) = _
  rw [if_neg (by simp [Nat.blt, Nat.ble]), hit]
  show (match σ.get mid with
     | some (.map es cl) =>
      cond (Nat.beq cl l.length && Nat.beq l.length l.length && allB (fun (e : AV × AV × Nat) => Nat.blt e.2.2 l.length) es)
       (match leftE seen es with
        | [] => some (OpR.val (.tu [.b false]) σ)
        | l' => some (OpR.nexts (l'.map fun (e : AV × AV × Nat) => (.tu [.b true, e.1, e.2.1], σ.set it (.mapIter (some mid) l.length (seen ++ [e.2.2]) cl))))) none
     | _ => none) = _
  rw [hm]
  show cond (Nat.beq l.length l.length && Nat.beq l.length l.length && allB (fun (e : AV × AV × Nat) => Nat.blt e.2.2 l.length) (setE ka 0 l)) _ none = _
  rw [Nat.beq_refl, setE_lt l 0 l.length (by omega)]; rfl
 rw [leftE_set] at e
 cases hl : leftK seen 0 l with
 | nil =>
  rw [hl] at e
  exact GoO.val hd rfl e (h0 hl)
 | cons p0 t =>
  rw [hl] at e
  refine GoO.nexts hd rfl e (by simp) fun q hq => ?_
  rw [List.map_map] at hq
  obtain ⟨p, hp, rfl⟩ := List.mem_map.1 hq
  rw [← hl] at hp
  exact hs p hp _ rfl (set_get hit).1 (set_get hit).2
theorem GoO.entryS {d : Nat} {wn : List Nat} {ops : List AOper} {x : AOpd} {mid it : Nat} {l : List α} {seen : List Nat} {p : α × Nat} (hp : p ∈ leftK seen 0 l) (hit : σ.get it = some (.mapIter (some mid) l.length (seen ++ [p.2]) l.length)) (hm : σ.get mid = some (.map (setE ka 0 l) l.length)) (hd : Nat.blt d n = true) (h1 : evF env n f x = some (.p (some (it, 0))))
  (h : GoV env wh D n ops (upd f d (.tu [ka p.1, .b true])) σ Q) : GoV env wh D n (⟨some d, .entry x, none, wn⟩ :: ops) f σ Q := by
 refine GoO.val hd rfl ?_ h
 show (match evF env n f x with
  | some (.p (some (it, 0))) => match σ.get it with
   | some (.mapIter (some id) since seen stepped) => match σ.get id with
    | some (.map es cl) => cond (Nat.beq cl stepped) (match lastE seen with
     | some b => match bornE b es with
      | some e => some (OpR.val (.tu [e.1, e.2.1]) σ)
      | none => none
     | none => none) none
    | _ => none
   | _ => none
  | _ => none) = _
 rw [h1]
 show (match σ.get it with
   | some (.mapIter (some id) since seen stepped) => match σ.get id with
    | some (.map es cl) => cond (Nat.beq cl stepped) (match lastE seen with
     | some b => match bornE b es with
      | some e => some (OpR.val (.tu [e.1, e.2.1]) σ)
      | none => none
     | none => none) none
    | _ => none
   | _ => none) = _
 rw [hit]
 show (match σ.get mid with
    | some (.map es cl) => cond (Nat.beq cl l.length) (match lastE (seen ++ [p.2]) with
     | some b => match bornE b es with
      | some e => some (OpR.val (.tu [e.1, e.2.1]) σ)
      | none => none
     | none => none) none
    | _ => none) = _
 rw [hm]
 show cond (Nat.beq l.length l.length) (match lastE (seen ++ [p.2]) with
     | some b => match bornE b (setE ka 0 l) with
      | some e => some (OpR.val (.tu [e.1, e.2.1]) σ)
      | none => none
     | none => none) none = _
 rw [Nat.beq_refl, cond_true, lastE_app]
 show (match bornE p.2 (setE ka 0 l) with
      | some e => some (OpR.val (.tu [e.1, e.2.1]) σ)
      | none => none) = _
 rw [bornE_set seen l 0 p hp]
end
end
end Go.Lyc
end
noncomputable section
namespace Go.Lyc
open Go.RowKit Go.Lyc.T
structure KI (B : Nat) (W : Nat → Prop) (σ σ' : St) : Prop where
 next : σ.next ≤ σ'.next
 old : ∀ i o, i < B → ¬ W i → σ.get i = some o → σ'.get i = some o
 it : ∀ i a b c d, σ.get i = some (.mapIter a b c d) → σ'.get i = some (.mapIter a b c d)
theorem KI.refl {B : Nat} {W : Nat → Prop} {σ : St} : KI B W σ σ := ⟨Nat.le_refl _, fun _ _ _ _ h => h, fun _ _ _ _ _ h => h⟩
theorem KI.of {B : Nat} {W : Nat → Prop} {σ σ' : St} (h : More σ σ') : KI B W σ σ' := ⟨h.1, fun i o _ _ ho => h.2 i o ho, fun i _ _ _ _ ho => h.2 i _ ho⟩
abbrev NoIt (σ σ' : St) : Prop := σ.next ≤ σ'.next ∧ ∀ i o, (∀ a b c d, o ≠ .mapIter a b c d) → σ.get i = some o → σ'.get i = some o
theorem Acc.keepC {σ σ' : St} {sh : Option Nat} {v : AV} {xs : List AV} (h : Acc σ sh v xs) (hk : ∀ i c, σ.get i = some (.cells c) → σ'.get i = some (.cells c)) : Acc σ' sh v xs := by
 cases h with
 | nil => exact .nil
 | sl o x xs h hc => exact .sl o x xs (hk _ _ h) hc
theorem Acc.keep' {σ σ' : St} {sh : Option Nat} {v : AV} {xs : List AV} (h : Acc σ sh v xs) (hk : ∀ i c, v.at? = some i → σ.get i = some (.cells c) → σ'.get i = some (.cells c)) : Acc σ' sh v xs := by
 cases h with
 | nil => exact .nil
 | sl o x xs h hc => exact .sl o x xs (hk _ _ rfl h) hc
theorem Acc.isc {σ : St} {sh : Option Nat} {v : AV} {xs : List AV} (h : Acc σ sh v xs) {i : Nat} (hi : v.at? = some i) : ∃ c, σ.get i = some (.cells c) := by
 cases h with
 | nil => cases hi
 | sl o x xs h hc => cases hi; exact ⟨_, h⟩
theorem Keys1_go {env : Env} (hh : Here env n_Keys1 c_Keys1) {W : Nat → Prop} {B mid bx : Nat} {ks : List Sy} (I : List Sy → St → Prop) (hI : ∀ c σ σ', I c σ → NoIt σ σ' → I c σ') (yv : AV)
  (hy : ∀ k c σ, B ≤ σ.next → c.length < ks.length → I c σ → GoesCall env 0 yv [symA k] σ (fun r σ' => r = .ok (.b true) ∧ I (c ++ [k]) σ' ∧ KI B W σ σ')) (σ : St) (hB : B ≤ σ.next) (hmB : mid < B) (hmW : ¬ W mid)
  (hm : σ.get mid = some (.map (setE symA 0 ks) ks.length)) (hbx : σ.get bx = some (.cells [.m (some mid)])) (h0 : I [] σ) :
  GoesCall env 0 (.f (.func n_Keys1) [] [.p (some (bx, 0))]) [yv] σ (fun r σ' => r = .ok (.tu []) ∧ ∃ c, c.Perm ks ∧ I c σ' ∧ σ.next ≤ σ'.next ∧ ∀ i o, i < B → ¬ W i → σ.get i = some o → σ'.get i = some o) := by
 refine GoesCall.code0 hh.e hh.p hh.f rfl rfl rfl ?_
 refine GoF.seq (GoF.region ?_)
 refine GoO.ld (v := .m (some mid)) hbx rfl rfl rfl rfl ?_
 generalize hk : σ.next = k at hB
 refine GoO.rangeS k hk hm rfl rfl fun σ1 n1 hit k1 => ?_
 refine GoO.nil (GoF.block ?_)
 refine GoF.loop (fun m f τ => k + 1 ≤ τ.next ∧ ∃ seen c, m = (leftK seen 0 ks).length ∧ (c ++ (leftK seen 0 ks).map Prod.fst).Perm ks ∧ τ.get k = some (.mapIter (some mid) ks.length seen ks.length) ∧ I c τ ∧ (∀ i o, i < B → ¬ W i → σ.get i = some o → τ.get i = some o) ∧
  sat [(0, yv), (5, .p (some (k, 0)))] f) ?_ (leftK [] 0 ks).length ⟨by omega, [], [], rfl, by rw [leftK_nil]; exact .refl _, hit, hI _ _ _ h0 ⟨by omega, fun i o _ ho => k1 i o ho⟩, fun i o _ _ ho => k1 i o ho, rfl, rfl, trivial⟩
 clear hit n1 k1 h0
 intro m g τ ⟨hn, seen, c, hmm, hperm, hit, hIc, hold, hL⟩
 refine GoF.norm _ hL fun g => ?_
 clear hL
 have hm' := hold mid _ hmB hmW hm
 refine GoF.seq (GoF.region ?_)
 refine GoO.nextS hit hm' rfl rfl (fun hnil => ?_) (fun p hp σ2 n2 hit2 k2 => ?_)
 ·refine GoO.go rfl rfl rfl rfl ?_
  refine GoO.nil (GoF.seq ?_)
  refine GoF.cnd rfl (fun h => by cases h) (fun _ => ?_)
  refine GoF.exit ?_
  rw [hnil, List.map_nil, List.append_nil] at hperm
  exact ⟨.inr rfl, rfl, c, hperm, hIc, by omega, hold⟩
 ·refine GoO.go rfl rfl rfl rfl ?_
  refine GoO.nil (GoF.seq ?_)
  refine GoF.cnd rfl (fun _ => ?_) (fun h => by cases h)
  have hmk : mid ≠ k := by omega
  have hm2 := k2 _ _ hmk hm'
  refine GoF.skip (GoF.block (GoF.seq (GoF.region ?_)))
  refine GoO.entryS hp hit2 hm2 rfl rfl ?_
  refine GoO.go rfl rfl rfl rfl ?_
  refine GoO.var (v := symA p.1) (c := [.s p.1.1, nI p.1.2]) τ.next n2 rfl rfl rfl rfl rfl rfl fun σ3 n3 h3 k3 => ?_
  refine GoO.nil (GoF.seq (GoF.region ?_))
  refine GoO.go rfl rfl rfl rfl ?_
  refine GoO.ld (v := symA p.1) h3 rfl rfl rfl rfl ?_
  have hstep := leftK_step seen ks 0 p hp
  have hlen := hperm.length_eq
  have hlen2 := hstep.length_eq
  rw [List.length_append, List.length_map] at hlen
  rw [List.length_cons] at hlen2
  have hI3 : I c σ3 := hI _ _ _ (hI _ _ _ hIc ⟨by omega, fun i o hne ho => k2 i o (fun e => by subst e; rw [hit] at ho; cases ho; exact hne _ _ _ _ rfl) ho⟩) ⟨by omega, fun i o _ ho => k3 i o ho⟩
  refine GoO.callG rfl rfl rfl (hy p.1 c σ3 (by omega) (by omega) hI3) fun r σ4 ⟨e4, hI4, K4⟩ => ⟨_, e4, ?_⟩
  refine GoO.go rfl rfl rfl rfl ?_
  refine GoO.nil (GoF.cnd rfl (fun h => by cases h) (fun _ => ?_))
  have n4 := K4.next
  refine GoF.skip ⟨(leftK (seen ++ [p.2]) 0 ks).length, by omega, by omega, seen ++ [p.2], c ++ [p.1], rfl, ?_, K4.it _ _ _ _ _ (k3 _ _ hit2), hI4, fun i o hi hw ho => K4.old i o hi hw (k3 i o (k2 i o (by omega) (hold i o hi hw ho))), rfl, rfl, trivial⟩
  refine List.Perm.trans ?_ hperm
  rw [List.append_assoc]
  exact (hstep.map Prod.fst).append_left c
theorem Keys_go {env : Env} (hh : Here env n_Keys c_Keys) (mid : Nat) (σ : St) (k : Nat) (hk : σ.next = k) : GoesCall env 0 (.f (.func n_Keys) [] []) [.m (some mid)] σ (fun r σ' => r = .ok (.f (.func n_Keys1) [] [.p (some (k, 0))]) ∧ σ'.next = k + 1 ∧ σ'.get k = some (.cells [.m (some mid)]) ∧ ∀ i o, σ.get i = some o → σ'.get i = some o) := by
 refine GoesCall.code hh.e hh.p hh.f rfl rfl rfl rfl ?_
 refine GoF.seq (GoF.region (GoO.box (v := .m (some mid)) (c := [.m (some mid)]) k hk rfl rfl rfl rfl rfl fun τ hn h1 k1 => ?_))
 repeat (first | refine GoO.go rfl rfl rfl rfl ?_ | refine GoO.cmp rfl rfl rfl rfl rfl ?_ | refine GoO.off rfl rfl ?_ | refine GoO.nil ?_ | refine GoF.seq ?_ | refine GoF.region ?_ | refine GoF.skip ?_ | refine GoF.block ?_)
 exact GoF.ret ⟨rfl, rfl, hn, h1, k1⟩
theorem GoX.keys {env : Env} {D : List (Nat ⊕ (AV × List AV))} {n : Nat} {f : Nat → AV} {σ : St} {Q : PostF} (hk1 : Here env n_Keys1 c_Keys1) {fo : AOpd} {p : Nat} {asn b : ACode} {mid bx : Nat} {ks : List Sy} (W : Nat → Prop) (S : List Sy → St → Prop) (k : Nat) (hk : σ.next = k)
  (hfo : evF env n f fo = some (.f (.func n_Keys1) [] [.p (some (bx, 0))])) (hp : Nat.blt p n = true) (hm : σ.get mid = some (.map (setE symA 0 ks) ks.length)) (hbx : σ.get bx = some (.cells [.m (some mid)])) (hW : ∀ i, W i → i < k) (hmW : ¬ W mid)
  (hS : ∀ c τ τ', S c τ → τ.next ≤ τ'.next → (∀ i o, i ≠ k + 1 → (∀ a b c d, o ≠ .mapIter a b c d) → τ.get i = some o → τ'.get i = some o) → S c τ') (h0 : S [] σ)
  (hround : ∀ y c τ, k + 2 ≤ τ.next → c.length < ks.length → S c τ → GoW env (some (k + 1)) [] n asn (upd f p (symA y)) τ (fun x f1 τ1 => x = .normal ∧ More τ τ1 ∧
   ∀ τ2, τ2.next = τ1.next → (∀ i o, i ≠ k + 1 → τ1.get i = some o → τ2.get i = some o) → GoW env (some (k + 1)) [] n b f1 τ2 (fun x _ τ3 => x = .normal ∧ S (c ++ [y]) τ3 ∧ KI (k + 2) W τ2 τ3)))
  (hend : ∀ c τ, c.Perm ks → S c τ → k + 2 ≤ τ.next → τ.get k = some .dblk → (∀ i o, ¬ W i → σ.get i = some o → τ.get i = some o) → Q .normal f τ) : GoX env D (.inl k :: D) n (.rangeFunc fo [p] asn b) f σ Q := by
 subst hk
 refine GoX.range hfo hk1.e fun sl hsl => ?_
 generalize hk : σ.next = k at *
 obtain ⟨σ2, e2, n2, hl2, hd2, k2⟩ : ∃ σ2 : St, (σ.push .dblk).push (.loop .ready none sl [p] asn b k) = σ2 ∧ σ2.next = k + 2 ∧ σ2.get (k + 1) = some (.loop .ready none sl [p] asn b k) ∧ σ2.get k = some .dblk ∧ ∀ i o, σ.get i = some o → σ2.get i = some o := by
  refine ⟨_, rfl, by show σ.next + 1 + 1 = _; omega, ?_, ?_, fun i o ho => ?_⟩
  ·have := St.get_push_new (σ := σ.push .dblk) (.loop .ready none sl [p] asn b k)
   rwa [show (σ.push .dblk).next = k + 1 from by show σ.next + 1 = _; omega] at this
  ·rw [St.get_push_old trivial _ (show k < (σ.push .dblk).next from by show k < σ.next + 1; omega)]
   have := St.get_push_new (σ := σ) .dblk
   rwa [hk] at this
  ·have := St.get_lt ho
   rw [St.get_push_old trivial _ (show i < (σ.push .dblk).next from by show i < σ.next + 1; omega), St.get_push_old trivial _ this]; exact ho
 rw [e2]
 clear e2
 have hmk := St.get_lt hm
 have hWl : ¬ W (k + 1) := fun h => by have := hW _ h; omega
 have hWk : ¬ W k := fun h => by have := hW _ h; omega
 refine (Keys1_go hk1 (W := fun i => W i ∨ i = k + 1) (B := k + 2) (mid := mid) (bx := bx) (ks := ks)
  (fun c τ => S c τ ∧ τ.get (k + 1) = some (.loop .ready none sl [p] asn b k)) ?_ (.f (.yield (k + 1)) [] []) ?_ σ2 (by omega) (by omega) (fun h => h.elim hmW (by omega)) (k2 _ _ hm) (k2 _ _ hbx) ⟨hS _ _ _ h0 (by omega) fun i o _ _ ho => k2 i o ho, hl2⟩).mono ?_
 ·rintro c τ τ' ⟨a1, a2⟩ ⟨b1, b2⟩
  exact ⟨hS _ _ _ a1 b1 fun i o _ h ho => b2 i o h ho, b2 _ _ (by intros; simp) a2⟩
 ·rintro y c τ hB hlt ⟨a1, a2⟩
  refine (GoesCall.round (R := fun σ' => (S (c ++ [y]) σ' ∧ σ'.get (k + 1) = some (.loop .ready none sl [p] asn b k)) ∧ KI (k + 2) (fun i => W i ∨ i = k + 1) τ σ') (f := f) (n := n) a2 hsl (by show cond (Nat.blt p n) _ _ = true; rw [hp]; rfl) rfl ?_).mono fun r σ' h => h
  refine (hround y c τ hB hlt a1).mono fun x f1 τ1 ⟨e1, K1, h1⟩ => ?_
  have hl1 := K1.2 _ _ a2
  have hset := set_get (o' := .loop .busy none sl [p] asn b k) hl1
  refine ⟨e1, hl1, (h1 (τ1.set (k + 1) (.loop .busy none sl [p] asn b k)) rfl (fun i o hi ho => hset.2 i o hi ho)).mono fun x _ τ3 ⟨e2, hS3, K3⟩ => ?_⟩
  have hl3 := K3.old _ _ (by omega) hWl hset.1
  have hset3 := set_get (o' := .loop .ready none sl [p] asn b k) hl3
  have n1 := K1.1
  have n3 : τ1.next ≤ τ3.next := K3.next
  have hne : ∀ {i : Nat} {a b' c' d'}, τ1.get i = some (.mapIter a b' c' d') → i ≠ k + 1 := fun h e => by subst e; rw [hl1] at h; cases h
  have hne3 : ∀ {i : Nat} {a b' c' d'}, τ3.get i = some (.mapIter a b' c' d') → i ≠ k + 1 := fun h e => by subst e; rw [hl3] at h; cases h
  refine ⟨e2, hl3, ⟨hS _ _ _ hS3 (Nat.le_refl _) fun i o hi _ ho => hset3.2 i o hi ho, hset3.1⟩, by show τ.next ≤ τ3.next; omega, fun i o hi hw ho => ?_, fun i a b' c' d' ho => ?_⟩
  ·have hi1 : i ≠ k + 1 := fun e => hw (.inr e)
   exact hset3.2 i o hi1 (K3.old i o hi (fun e => hw (.inl e)) (hset.2 i o hi1 (K1.2 i o ho)))
  ·have h1 := K1.2 _ _ ho
   have h3 := K3.it _ _ _ _ _ (hset.2 _ _ (hne h1) h1)
   exact hset3.2 _ _ (hne3 h3) h3
 ·rintro r τ ⟨e1, c, hc, ⟨a1, a2⟩, b1, b2⟩
  have hset := set_get (o' := .loop .exhausted none sl [p] asn b k) a2
  refine ⟨_, .ready, e1, a2, by simp, hend c _ hc (hS _ _ _ a1 (Nat.le_refl _) fun i o hi _ ho => hset.2 i o hi ho) (by show k + 2 ≤ τ.next; omega) (hset.2 _ _ (by omega) (b2 _ _ (by omega) (fun h => h.elim hWk (by omega)) hd2)) fun i o hi ho => ?_⟩
  have := St.get_lt ho
  exact hset.2 i o (by omega) (b2 i o (by omega) (fun h => h.elim hi (by omega)) (k2 i o ho))
theorem AppendSeq_go {env : Env} (hh : Here env n_AppendSeq c_AppendSeq) (hk1 : Here env n_Keys1 c_Keys1) {mid bx : Nat} {ks : List Sy} (hks : ks.length ≤ 1000000) (σ : St) (hm : σ.get mid = some (.map (setE symA 0 ks) ks.length)) (hbx : σ.get bx = some (.cells [.m (some mid)])) :
  GoesCall env 0 (.f (.func n_AppendSeq) [] []) [.nilsl, .f (.func n_Keys1) [] [.p (some (bx, 0))]] σ (fun r σ' => ∃ (v : AV) (c : List Sy), r = .ok v ∧ c.Perm ks ∧ Acc σ' (some 2) v (c.map symA) ∧ (∀ a, v.at? = some a → σ.next ≤ a) ∧ More σ σ') := by
 generalize hk : σ.next = k
 refine GoesCall.codeX (d := k + 1) hh.e hh.p hh.f rfl rfl rfl rfl ?_
 refine GoX.seqA (GoF.region (GoO.box (v := .nilsl) (c := [.nilsl]) k hk rfl rfl rfl rfl rfl fun σ1 n1 h1 k1 => ?_))
 repeat (first | refine GoO.go rfl rfl rfl rfl ?_ | refine GoO.cmp rfl rfl rfl rfl rfl ?_ | refine GoO.off rfl rfl ?_ | refine GoO.nil ?_)
 refine ⟨rfl, GoX.seqB (GoX.seqA (GoF.region ?_))⟩
 repeat (first | refine GoO.go rfl rfl rfl rfl ?_ | refine GoO.cmp rfl rfl rfl rfl rfl ?_ | refine GoO.off rfl rfl ?_ | refine GoO.nil ?_)
 refine ⟨rfl, GoX.block ?_⟩
 have hmk := St.get_lt hm
 refine GoX.keys hk1 (fun i => i = k) (fun c τ => ∃ v, τ.get k = some (.cells [v]) ∧ Acc τ (some 2) v (c.map symA) ∧ ∀ a, v.at? = some a → k + 3 ≤ a ∧ a < τ.next) (k + 1) n1 rfl rfl (k1 _ _ hm) (k1 _ _ hbx) (fun i hi => by omega) (by omega) ?_ ⟨.nilsl, h1, .nil, fun a h => by cases h⟩ ?_ ?_
 ·rintro c τ τ' ⟨v, a4, a5, a6⟩ b1 b2
  exact ⟨v, b2 _ _ (by omega) (by intros; simp) a4, a5.keep' fun i c hi h => b2 _ _ (by have := a6 i hi; omega) (by intros; simp) h, fun a h => by have := a6 a h; omega⟩
 ·rintro y c τ hB hlt ⟨v, a4, a5, a6⟩
  refine GoF.region ?_
  refine GoO.var (v := symA y) (c := [.s y.1, nI y.2]) τ.next rfl rfl rfl rfl rfl rfl rfl fun τ1 m1 g1 q1 => ?_
  refine GoO.nil ⟨rfl, ⟨by omega, q1⟩, fun τ2 m2 r2 => ?_⟩
  have q2 : ∀ i o, i ≠ k + 2 → τ.get i = some o → τ2.get i = some o := fun i o hi ho => r2 i o hi (q1 i o ho)
  have a4' := q2 _ _ (by omega) a4
  have hA := a5.keep fun i o hi ho => q2 i o (by have := a6 i hi; omega) ho
  refine GoF.block (GoF.region ?_)
  refine GoO.ld (v := v) a4' rfl rfl rfl hA.take0 ?_
  refine GoO.ld (v := symA y) (r2 _ _ (by omega) g1) rfl rfl rfl rfl ?_
  refine GoO.push1 (y := symA y) hA rfl rfl rfl (by rw [List.length_map]; omega) rfl rfl fun v' τ3 hA' hat m3 q3 => ?_
  refine GoO.store (c' := [v']) (q3 _ _ (fun e => by have := a6 _ e; omega) a4') rfl rfl rfl hA'.conf0 (by show storeCells _ 0 v'.cells = _; rw [conf_none_cells hA'.conf0]; rfl) fun τ4 m4 g4 q4 => ?_
  refine GoO.nil ⟨rfl, ⟨v', g4, ?_, fun a e => by rw [hat] at e; cases e; omega⟩, by omega, fun i o hi hw ho => q4 i o hw (q3 i o (fun e => by have := a6 _ e; omega) ho), fun i a b' c' d' ho => ?_⟩
  ·rw [List.map_append]
   exact hA'.keep fun i o hi ho => by
    rw [hat] at hi; cases hi
    exact q4 _ _ (by omega) ho
  ·refine q4 _ _ (fun e => by subst e; rw [a4'] at ho; cases ho) (q3 _ _ (fun e => ?_) ho)
   obtain ⟨c0, hc0⟩ := hA.isc e
   rw [hc0] at ho; cases ho
 ·rintro c τ hc ⟨v, a4, a5, a6⟩ hn hd hold
  refine ⟨rfl, rfl, ?_⟩
  refine GoF.seq (GoF.region ?_)
  refine GoO.ld (v := v) a4 rfl rfl rfl a5.take0 ?_
  repeat (first | refine GoO.go rfl rfl rfl rfl ?_ | refine GoO.cmp rfl rfl rfl rfl rfl ?_ | refine GoO.off rfl rfl ?_ | refine GoO.nil ?_)
  have hset := set_get (o' := AO.dead) hd
  refine GoF.ret ⟨rfl, hd, v, c, rfl, hc, a5.keep fun i o hi ho => hset.2 i o (by have := a6 i hi; omega) ho, fun a h => by have := a6 a h; omega, by show σ.next ≤ τ.next; omega, fun i o ho => ?_⟩
  have := St.get_lt ho
  exact hset.2 i o (by omega) (hold i o (by omega) (k1 i o ho))
end Go.Lyc
end
noncomputable section
namespace Go.Lyc
open Go.RowKit Go.Lyc.T
theorem takeN_flat {sh : Option Nat} : ∀ {xs : List AV} (j : Nat), (∀ x ∈ xs, conf sh x = true) → (xs.flatMap AV.cells).take (j * shN sh) = (xs.take j).flatMap AV.cells
 | xs, 0, _ => by rw [Nat.zero_mul]; rfl
 | [], j + 1, _ => by simp
 | x :: xs, j + 1, h => by
  have e : (j + 1) * shN sh = x.cells.length + j * shN sh := by rw [conf_lenN (h x (by simp)), Nat.add_mul, Nat.one_mul, Nat.add_comm]
  rw [List.flatMap_cons, e, List.take_length_add_append, takeN_flat j fun y hy => h y (List.mem_cons_of_mem _ hy)]; rfl
theorem flat_len {sh : Option Nat} : ∀ {xs : List AV}, (∀ x ∈ xs, conf sh x = true) → (xs.flatMap AV.cells).length = xs.length * shN sh
 | [], _ => by simp
 | x :: xs, h => by
  rw [List.flatMap_cons, List.length_append, conf_lenN (h x (by simp)), flat_len fun y hy => h y (List.mem_cons_of_mem _ hy), List.length_cons, Nat.add_mul, Nat.one_mul, Nat.add_comm]
theorem store_flat {sh : Option Nat} {xs : List AV} {j : Nat} {y : AV} (hj : j < xs.length) (h : ∀ x ∈ xs, conf sh x = true) (hy : conf sh y = true) : storeCells (xs.flatMap AV.cells) (0 + j * shN sh) y.cells = some ((xs.set j y).flatMap AV.cells) := by
 have e1 : 0 + j * shN sh + y.cells.length = (j + 1) * shN sh := by rw [conf_lenN hy, Nat.add_mul, Nat.one_mul, Nat.zero_add]
 unfold storeCells
 rw [e1, Nat.zero_add, if_pos (Nat.ble_eq_true_of_le (by rw [flat_len h]; exact Nat.mul_le_mul_right _ (by omega))), takeN_flat j h, drop_flat (j + 1) h, List.set_eq_take_append_cons_drop, if_pos hj, List.flatMap_append, List.flatMap_cons]
section
variable {env : Env} {wh : Option Nat} {D : List (Nat ⊕ (AV × List AV))} {n : Nat} {f : Nat → AV} {σ : St} {Q : PostF}
theorem GoO.setA {sh : Option Nat} {a x : AOpd} {g : Option (Nat × Bool)} {wn : List Nat} {ops : List AOper} {xs : List AV} {v y : AV} {j o : Nat} (hA : Acc σ sh v xs) (hat : v.at? = some o) (hj : j < xs.length) (hy : conf sh y = true) (hw : wantedF g n f = true) (h1 : evF env n f a = some (.p (some (o, 0 + j * shN sh)))) (h2 : evF env n f x = some y)
  (h : ∀ σ' : St, σ'.next = σ.next → Acc σ' sh v (xs.set j y) → (∀ i o', i ≠ o → σ.get i = some o' → σ'.get i = some o') → GoV env wh D n ops f σ' Q) : GoV env wh D n (⟨none, .store sh a x, g, wn⟩ :: ops) f σ Q := by
 obtain ⟨o', hv, ho, hc⟩ := hA.inv (by omega)
 subst hv
 cases hat
 refine GoO.store ho hw h1 h2 hy (store_flat hj hc hy) fun σ' n' h' k' => h σ' n' ?_ k'
 have := Acc.of (σ := σ') (sh := sh) (o := o) (xs := xs.set j y) (by rw [List.length_set]; omega) h' (fun z hz => by
  rcases List.mem_or_eq_of_mem_set hz with hz | hz
  ·exact hc z hz
  ·rw [hz]; exact hy)
 rwa [List.length_set] at this
end
def cmpN (a b : Nat) : Int := if a < b then -1 else if b < a then 1 else 0
def cmpS (a b : List Nat) : Int := cond (lssL a b) (-1) (cond (eqL a b) 0 1)
def cmpSy (a b : Sy) : Int := if cmpS a.1 b.1 = 0 then cmpN a.2 b.2 else cmpS a.1 b.1
theorem swap_perm {l : List Sy} {j : Nat} (hj : j + 1 < l.length) : ((l.set (j + 1) l[j]).set j l[j + 1]).Perm l := by
 exact List.set_set_perm (i := j + 1) (j := j) (by omega) (by omega)
section
variable {b : Base} {K : Nat → List AV → AV → Prop} (hf : ∀ g ar r r', K g ar r → K g ar r' → r = r')
include hf in
theorem inssort_go (hh : Here (b.envK K) n_inssort c_inssort) (hs1 : ∀ a c : Sy, K 179 [symA a, symA c] (.i .i64 (cmpSy a c))) (es1 : b.ext 179 = 0 ∧ b.pure 179 = true) {l : List Sy} {v : AV} (hl : l.length ≤ 1000000) (σ : St) (hA : Acc σ (some 2) v (l.map symA)) :
  GoesCall (b.envK K) 0 (.f (.func n_inssort) [] []) [v, nI 0, nI l.length, .f (.func 179) [] []] σ (fun r σ' => r = .ok (.tu []) ∧ σ'.next = σ.next ∧ (∃ l' : List Sy, l'.Perm l ∧ Acc σ' (some 2) v (l'.map symA)) ∧ ∀ i o, v.at? ≠ some i → σ.get i = some o → σ'.get i = some o) := by
 refine GoesCall.code0 hh.e hh.p hh.f rfl rfl rfl ?_
 refine GoF.seq (GoF.region ?_)
 refine GoO.go rfl rfl rfl rfl ?_
 refine GoO.bin (a := nI 0) (b := nI 1) rfl rfl rfl rfl (bin_add (by omega)) ?_
 refine GoO.go rfl rfl rfl rfl ?_
 refine GoO.nil (GoF.block ?_)
 refine GoF.loop (fun m f τ => ∃ (i : Nat) (l' : List Sy), i + m = l.length + 1 ∧ 1 ≤ i ∧ l'.Perm l ∧ Acc τ (some 2) v (l'.map symA) ∧ τ.next = σ.next ∧ (∀ i o, v.at? ≠ some i → σ.get i = some o → τ.get i = some o) ∧
  sat [(0, v), (1, nI 0), (2, nI l.length), (3, .f (.func 179) [] []), (8, nI i)] f) ?_ l.length ⟨1, l, by omega, by omega, .refl _, hA, rfl, fun i o _ h => h, rfl, rfl, rfl, rfl, rfl, trivial⟩
 intro m g τ ⟨i, l', hi, hi1, hp, hA', hn, hold, hL⟩
 refine GoF.norm _ hL fun g => ?_
 clear hL
 refine GoF.seq (GoF.seq (GoF.region ?_))
 refine GoO.go rfl rfl rfl rfl ?_
 refine GoO.go rfl rfl rfl rfl ?_
 refine GoO.bin (a := nI i) (b := nI l.length) (v := .b (decide (i < l.length))) rfl rfl rfl rfl (bin_cmp rfl) ?_
 refine GoO.nil ?_
 refine GoF.cnd rfl (fun ht => ?_) (fun hfl => ?_)
 ·have hlt : i < l.length := of_decide_eq_true ht
  have hll := hp.length_eq
  refine GoF.skip (GoF.seq ?_)
  refine GoF.block (GoF.seq (GoF.region ?_))
  refine GoO.go rfl rfl rfl rfl ?_
  refine GoO.go rfl rfl rfl rfl ?_
  refine GoO.nil (GoF.block ?_)
  refine GoF.loop (fun m f τ => m ≤ i ∧ ∃ l' : List Sy, l'.Perm l ∧ Acc τ (some 2) v (l'.map symA) ∧ τ.next = σ.next ∧ (∀ i o, v.at? ≠ some i → σ.get i = some o → τ.get i = some o) ∧
   sat [(0, v), (1, nI 0), (2, nI l.length), (3, .f (.func 179) [] []), (8, nI i), (9, nI m)] f) ?_ i ⟨Nat.le_refl _, l', hp, hA', hn, hold, rfl, rfl, rfl, rfl, rfl, rfl, trivial⟩
  clear hA' hold hn hp hll
  intro j g τ ⟨hji, l', hp, hA', hn, hold, hL⟩
  refine GoF.norm _ hL fun g => ?_
  clear hL
  have hll := hp.length_eq
  have fin : ∀ {f : Nat → AV}, sat [(0, v), (1, nI 0), (2, nI l.length), (3, .f (.func 179) [] []), (8, nI i)] f → GoW (b.envK K) none [] 53 (.region [⟨(some 15), .mv (.t 8), none, []⟩, ⟨(some 16), .bin .add (.t 15) (.c (.i .i64 1)), none, []⟩, ⟨(some 8), .mv (.t 16), none, []⟩]) f τ (fun x f' σ' => match x with
   | .normal => ∃ m', m' < m ∧ ∃ (i : Nat) (l' : List Sy), i + m' = l.length + 1 ∧ 1 ≤ i ∧ l'.Perm l ∧ Acc σ' (some 2) v (l'.map symA) ∧ σ'.next = σ.next ∧ (∀ i o, v.at? ≠ some i → σ.get i = some o → σ'.get i = some o) ∧ sat [(0, v), (1, nI 0), (2, nI l.length), (3, .f (.func 179) [] []), (8, nI i)] f'
   | _ => False) := by
   intro f hs
   refine GoF.norm _ hs fun g => ?_
   refine GoF.region ?_
   refine GoO.go rfl rfl rfl rfl ?_
   refine GoO.bin (a := nI i) (b := nI 1) rfl rfl rfl rfl (bin_add (by omega)) ?_
   refine GoO.go rfl rfl rfl rfl ?_
   exact GoO.nil ⟨m - 1, by omega, i + 1, l', by omega, by omega, hp, hA', hn, hold, rfl, rfl, rfl, rfl, rfl, trivial⟩
  obtain ⟨o, hv, ho, hcf⟩ := hA'.inv (by rw [List.length_map]; omega)
  rw [List.length_map] at hv
  subst hv
  refine GoF.seq (GoF.seq (GoF.draw rfl rfl ?_))
  refine GoP.go rfl rfl rfl rfl ?_
  refine GoP.go rfl rfl rfl rfl ?_
  refine GoP.cmp (a := j) (b := 0) rfl rfl rfl rfl rfl ?_
  by_cases hj0 : 0 < j
  ·rw [show decide (0 < j) = true from decide_eq_true hj0]
   obtain ⟨j, rfl⟩ : ∃ q, j = q + 1 := ⟨j - 1, by omega⟩
   have hj1 : j + 1 < l'.length := by omega
   have e1 : takeSh (some 2) (((l'.map symA).flatMap AV.cells).drop (0 + (j + 1) * shN (some 2))) = some (symA l'[j + 1]) := by
    rw [take_elem (by rw [List.length_map]; omega) hcf, List.getElem_map]
   have e2 : takeSh (some 2) (((l'.map symA).flatMap AV.cells).drop (0 + j * shN (some 2))) = some (symA (l'[j]'(by omega))) := by
    rw [take_elem (by rw [List.length_map]; omega) hcf, List.getElem_map]
   refine GoP.go rfl rfl rfl rfl ?_
   refine GoP.go rfl rfl rfl rfl ?_
   refine GoP.go rfl rfl rfl rfl ?_
   refine GoP.go rfl rfl rfl rfl ?_
   refine GoP.idx (j := j + 1) rfl rfl rfl rfl (idxSlA_sl hj1) ?_
   refine GoP.ld (v := symA l'[j + 1]) ho rfl rfl rfl e1 ?_
   refine GoP.go rfl rfl rfl rfl ?_
   refine GoP.go rfl rfl rfl rfl ?_
   refine GoP.bin (a := nI (j + 1)) (b := nI 1) rfl rfl rfl rfl (bin_sub (by omega) (by omega)) ?_
   refine GoP.idx (j := j) rfl rfl rfl rfl (idxSlA_sl (by omega)) ?_
   refine GoP.ld (v := symA (l'[j]'(by omega))) ho rfl rfl rfl e2 ?_
   refine GoP.known hf es1.1 es1.2 (hs1 l'[j + 1] (l'[j]'(by omega))) rfl rfl rfl (snaps2 rfl rfl) ?_
   refine GoP.bin (v := .b (decide (cmpSy l'[j + 1] (l'[j]'(by omega)) < 0))) rfl rfl rfl rfl rfl ?_
   refine GoP.go rfl rfl rfl rfl ?_
   refine GoP.nil ?_
   refine GoF.cnd rfl (fun _ => ?_) (fun _ => ?_)
   ·refine GoF.skip (GoF.seq (GoF.block (GoF.drawK 0 rfl (GoK.fin (gs := []) .nil rfl ?_))))
    refine GoO.go rfl rfl rfl rfl ?_
    refine GoO.go rfl rfl rfl rfl ?_
    refine GoO.go rfl rfl rfl rfl ?_
    refine GoO.go rfl rfl rfl rfl ?_
    refine GoO.bin (a := nI (j + 1)) (b := nI 1) rfl rfl rfl rfl (bin_sub (by omega) (by omega)) ?_
    refine GoO.go rfl rfl rfl rfl ?_
    refine GoO.go rfl rfl rfl rfl ?_
    refine GoO.bin (a := nI (j + 1)) (b := nI 1) rfl rfl rfl rfl (bin_sub (by omega) (by omega)) ?_
    refine GoO.idx (j := j) rfl rfl rfl rfl (idxSlA_sl (by omega)) ?_
    refine GoO.ld (v := symA (l'[j]'(by omega))) ho rfl rfl rfl e2 ?_
    refine GoO.go rfl rfl rfl rfl ?_
    refine GoO.go rfl rfl rfl rfl ?_
    refine GoO.idx (j := j + 1) rfl rfl rfl rfl (idxSlA_sl hj1) ?_
    refine GoO.ld (v := symA l'[j + 1]) ho rfl rfl rfl e1 ?_
    refine GoO.idx (j := j + 1) rfl rfl rfl rfl (idxSlA_sl hj1) ?_
    refine GoO.setA (j := j + 1) (y := symA (l'[j]'(by omega))) (v := .sl o 0 l'.length (some 2) none) hA' rfl (by rw [List.length_map]; omega) rfl rfl rfl rfl fun τ1 n1 A1 k1 => ?_
    refine GoO.idx (j := j) rfl rfl rfl rfl (idxSlA_sl (by omega)) ?_
    refine GoO.setA (j := j) (y := symA l'[j + 1]) A1 rfl (by rw [List.length_set, List.length_map]; omega) rfl rfl rfl rfl fun τ2 n2 A2 k2 => ?_
    refine GoO.nil ⟨rfl, ?_⟩
    refine GoF.region ?_
    refine GoO.go rfl rfl rfl rfl ?_
    refine GoO.bin (a := nI (j + 1)) (b := nI 1) rfl rfl rfl rfl (bin_sub (by omega) (by omega)) ?_
    refine GoO.go rfl rfl rfl rfl ?_
    refine GoO.nil ⟨j, by omega, by omega, (l'.set (j + 1) (l'[j]'(by omega))).set j l'[j + 1], (swap_perm hj1).trans hp, ?_, by omega, fun i o' h ho' => k2 i o' (fun e => h (by rw [e]; rfl)) (k1 i o' (fun e => h (by rw [e]; rfl)) (hold i o' h ho')), rfl, rfl, rfl, rfl, rfl, rfl, trivial⟩
    rw [List.map_set, List.map_set]
    exact A2
   ·refine GoF.exit ?_
    exact (fin ⟨rfl, rfl, rfl, rfl, rfl, trivial⟩).mono fun x f σ h => by cases x <;> first | exact h | exact h.elim
  ·rw [show decide (0 < j) = false from decide_eq_false hj0]
   repeat (first | refine GoP.go rfl rfl rfl rfl ?_ | refine GoP.cmp rfl rfl rfl rfl rfl ?_ | refine GoP.off rfl rfl ?_ | refine GoP.nil ?_)
   refine GoF.cnd rfl (fun h => by cases h) (fun _ => ?_)
   refine GoF.exit ?_
   exact (fin ⟨rfl, rfl, rfl, rfl, rfl, trivial⟩).mono fun x f σ h => by cases x <;> first | exact h | exact h.elim
 ·have hge : ¬ i < l.length := of_decide_eq_false hfl
  refine GoF.exit ?_
  exact ⟨.inr rfl, rfl, hn, ⟨l', hp, hA'⟩, hold⟩
end
end Go.Lyc
end
noncomputable section
namespace Go.Lyc
open Go.RowKit Go.Lyc.T
section
variable {b : Base} {K : Nat → List AV → AV → Prop}
theorem op_conv64 {ev : AOpd → Option AV} {σ : St} {x : AOpd} {k : IntKind} {m : Int} (h : ev x = some (.i k m)) (k2 : IntKind) : opx 0 ev σ (.conv k2 x) = some (.val (.i k2 (wrapN k2 m)) σ) := by
 show (match ev x with | some (.i _ n) => some (OpR.val (.i k2 (wrapN k2 n)) σ) | some (.um _ d j) => (match k2 with | .i64 => some (.val (.um .i64 d j) σ) | _ => none) | _ => none) = _
 rw [h]
set_option maxRecDepth 100000 in
theorem Len64_go (hh : Here (b.envK K) n_Len64 c_Len64) (m : Nat) (hm : m < 256) (σ : St) : GoesCall (b.envK K) 0 (.f (.func n_Len64) [] []) [.i .u64 (Int.ofNat m)] σ (fun r σ' => (∃ q, r = .ok (.i .i64 q)) ∧ σ' = σ) := by
 refine GoesCall.code hh.e hh.p hh.f rfl rfl rfl rfl ?_
 refine GoF.seq (GoF.region ?_)
 repeat (first | refine GoO.go rfl rfl rfl rfl ?_ | refine GoO.cmp rfl rfl rfl rfl rfl ?_ | refine GoO.off rfl rfl ?_ | refine GoO.nil ?_)
 refine GoF.seq (GoF.seq (GoF.region ?_))
 refine GoO.go rfl rfl rfl rfl ?_
 refine GoO.bin (a := .i .u64 (Int.ofNat m)) (b := .i .u64 (Int.ofNat 4294967296)) (v := .b false) rfl rfl rfl rfl (bin_cmp (by show some (AV.b (decide (4294967296 ≤ m))) = _; rw [decide_eq_false (by omega)])) ?_
 refine GoO.nil (GoF.cnd rfl (fun h => by cases h) fun _ => GoF.skip ?_)
 refine GoF.seq (GoF.seq (GoF.region ?_))
 refine GoO.go rfl rfl rfl rfl ?_
 refine GoO.bin (a := .i .u64 (Int.ofNat m)) (b := .i .u64 (Int.ofNat 65536)) (v := .b false) rfl rfl rfl rfl (bin_cmp (by show some (AV.b (decide (65536 ≤ m))) = _; rw [decide_eq_false (by omega)])) ?_
 refine GoO.nil (GoF.cnd rfl (fun h => by cases h) fun _ => GoF.skip ?_)
 refine GoF.seq (GoF.seq (GoF.region ?_))
 refine GoO.go rfl rfl rfl rfl ?_
 refine GoO.bin (a := .i .u64 (Int.ofNat m)) (b := .i .u64 (Int.ofNat 256)) (v := .b false) rfl rfl rfl rfl (bin_cmp (by show some (AV.b (decide (256 ≤ m))) = _; rw [decide_eq_false (by omega)])) ?_
 refine GoO.nil (GoF.cnd rfl (fun h => by cases h) fun _ => GoF.skip ?_)
 refine GoF.seq (GoF.region ?_)
 refine GoO.go rfl rfl rfl rfl ?_
 refine GoO.go rfl rfl rfl rfl ?_
 have h8 : wrapN .u8 (Int.ofNat m) = Int.ofNat m := wrapN8 hm
 refine GoO.val rfl rfl (op_conv64 (m := Int.ofNat m) rfl _) ?_
 rw [h8]
 refine GoO.val rfl rfl (op_istr (j := m) rfl rfl (nth_get (Nat.lt_of_lt_of_le hm (by decide)))) ?_
 refine GoO.val rfl rfl (op_conv64 rfl _) ?_
 refine GoO.bin rfl rfl rfl rfl rfl ?_
 refine GoO.go rfl rfl rfl rfl ?_
 exact GoO.nil (GoF.ret ⟨rfl, ⟨_, rfl⟩, rfl⟩)
theorem Len_go (hh : Here (b.envK K) n_Len c_Len) (h6 : Here (b.envK K) n_Len64 c_Len64) (m : Nat) (hm : m < 256) (σ : St) : GoesCall (b.envK K) 0 (.f (.func n_Len) [] []) [.i .u64 (Int.ofNat m)] σ (fun r σ' => (∃ q, r = .ok (.i .i64 q)) ∧ σ' = σ) := by
 refine GoesCall.code hh.e hh.p hh.f rfl rfl rfl rfl ?_
 refine GoF.seq (GoF.region ?_)
 repeat (first | refine GoO.go rfl rfl rfl rfl ?_ | refine GoO.cmp rfl rfl rfl rfl rfl ?_ | refine GoO.off rfl rfl ?_ | refine GoO.nil ?_)
 refine GoF.seq (GoF.cnd rfl (fun h => by cases h) fun _ => GoF.skip ?_)
 refine GoF.seq (GoF.region ?_)
 refine GoO.go rfl rfl rfl rfl ?_
 refine GoO.callG rfl rfl rfl (Len64_go h6 m hm σ) fun r σ2 ⟨⟨q, e1⟩, e2⟩ => ⟨_, e1, ?_⟩
 refine GoO.go rfl rfl rfl rfl ?_
 exact GoO.nil (GoF.ret ⟨rfl, ⟨_, rfl⟩, e2⟩)
variable (hf : ∀ g ar r r', K g ar r → K g ar r' → r = r')
include hf in
theorem pdq_go (hh : Here (b.envK K) n_pdq c_pdq) (hi : Here (b.envK K) n_inssort c_inssort) (hs1 : ∀ a c : Sy, K 179 [symA a, symA c] (.i .i64 (cmpSy a c))) (es1 : b.ext 179 = 0 ∧ b.pure 179 = true) {l : List Sy} {v : AV} (hl : l.length ≤ 12) (q : Int) (σ : St) (hA : Acc σ (some 2) v (l.map symA)) :
  GoesCall (b.envK K) 0 (.f (.func n_pdq) [] []) [v, nI 0, nI l.length, .i .i64 q, .f (.func 179) [] []] σ (fun r σ' => r = .ok (.tu []) ∧ σ'.next = σ.next ∧ (∃ l' : List Sy, l'.Perm l ∧ Acc σ' (some 2) v (l'.map symA)) ∧ ∀ i o, v.at? ≠ some i → σ.get i = some o → σ'.get i = some o) := by
 refine GoesCall.code0 hh.e hh.p hh.f rfl rfl rfl ?_
 refine GoF.seq (GoF.region ?_)
 refine GoO.go rfl rfl rfl rfl ?_
 refine GoO.nil (GoF.seq (GoF.region ?_))
 refine GoO.go rfl rfl rfl rfl ?_
 refine GoO.nil (GoF.block ?_)
 refine GoF.loop (fun m f τ => τ = σ ∧ sat [(0, v), (1, nI 0), (2, nI l.length), (4, .f (.func 179) [] [])] f) ?_ 0 ⟨rfl, rfl, rfl, rfl, rfl, trivial⟩
 rintro m g τ ⟨rfl, hL⟩
 refine GoF.norm _ hL fun g => ?_
 clear hL
 refine GoF.block (GoF.seq (GoF.region ?_))
 refine GoO.go rfl rfl rfl rfl ?_
 refine GoO.go rfl rfl rfl rfl ?_
 refine GoO.bin (a := nI l.length) (b := nI 0) rfl rfl rfl rfl (bin_sub (by omega) (by omega)) ?_
 refine GoO.go rfl rfl rfl rfl ?_
 refine GoO.nil (GoF.seq (GoF.seq (GoF.region ?_)))
 refine GoO.go rfl rfl rfl rfl ?_
 refine GoO.bin (a := nI (l.length - 0)) (b := nI 12) (v := .b true) rfl rfl rfl rfl (bin_cmp (by show some (AV.b (decide (l.length - 0 ≤ 12))) = _; rw [decide_eq_true (by omega)])) ?_
 refine GoO.nil (GoF.cnd rfl (fun _ => ?_) (fun h => by cases h))
 refine GoF.seq (GoF.region ?_)
 refine GoO.go rfl rfl rfl rfl ?_
 refine GoO.go rfl rfl rfl rfl ?_
 refine GoO.go rfl rfl rfl rfl ?_
 refine GoO.go rfl rfl rfl rfl ?_
 refine GoO.callG rfl rfl rfl (inssort_go hf hi hs1 es1 (by omega) τ hA) fun r σ2 ⟨e1, h1, h2, h3⟩ => ⟨_, e1, ?_⟩
 exact GoO.nil (GoF.ret ⟨.inl rfl, rfl, h1, h2, h3⟩)
include hf in
theorem SortFunc_go (hh : Here (b.envK K) n_SortFunc c_SortFunc) (hln : Here (b.envK K) n_Len c_Len) (h6 : Here (b.envK K) n_Len64 c_Len64) (hp : Here (b.envK K) n_pdq c_pdq) (hi : Here (b.envK K) n_inssort c_inssort) (hs1 : ∀ a c : Sy, K 179 [symA a, symA c] (.i .i64 (cmpSy a c))) (es1 : b.ext 179 = 0 ∧ b.pure 179 = true) {l : List Sy} {v : AV} (hl : l.length ≤ 12) (σ : St) (hA : Acc σ (some 2) v (l.map symA)) :
  GoesCall (b.envK K) 0 (.f (.func n_SortFunc) [] []) [v, .f (.func 179) [] []] σ (fun r σ' => r = .ok (.tu []) ∧ σ'.next = σ.next ∧ (∃ l' : List Sy, l'.Perm l ∧ Acc σ' (some 2) v (l'.map symA)) ∧ ∀ i o, v.at? ≠ some i → σ.get i = some o → σ'.get i = some o) := by
 refine GoesCall.code0 hh.e hh.p hh.f rfl rfl rfl ?_
 refine GoF.seq (GoF.region ?_)
 refine GoO.go rfl rfl rfl rfl ?_
 refine GoO.len (m := l.length) rfl rfl rfl (by have := hA.len (τ := σ); rwa [List.length_map] at this) ?_
 refine GoO.go rfl rfl rfl rfl ?_
 refine GoO.nil (GoF.region ?_)
 refine GoO.go rfl rfl rfl rfl ?_
 refine GoO.go rfl rfl rfl rfl ?_
 refine GoO.go rfl rfl rfl rfl ?_
 refine GoO.val rfl rfl (op_conv64 (m := Int.ofNat l.length) rfl _) ?_
 have hw : wrapN .u64 (Int.ofNat l.length) = Int.ofNat l.length := by
  have : (l.length : Int) < 18446744073709551616 := by omega
  simp [wrapN, IntKind.wrap, IntKind.bits, IntKind.signed]
  omega
 rw [hw]
 refine GoO.callG rfl rfl rfl (Len_go hln h6 l.length (by omega) σ) fun r σ2 ⟨⟨q, e1⟩, e2⟩ => ⟨_, e1, ?_⟩
 subst e2
 refine GoO.go rfl rfl rfl rfl ?_
 refine GoO.callG rfl rfl rfl (pdq_go hf hp hi hs1 es1 hl q σ2 hA) fun r σ3 ⟨e1, h1, h2, h3⟩ => ⟨_, e1, ?_⟩
 exact GoO.nil ⟨.inr rfl, rfl, h1, h2, h3⟩
theorem Collect_go (hh : Here (b.envK K) n_Collect c_Collect) (ha : Here (b.envK K) n_AppendSeq c_AppendSeq) (hk1 : Here (b.envK K) n_Keys1 c_Keys1) {mid bx : Nat} {ks : List Sy} (hks : ks.length ≤ 1000000) (σ : St) (hm : σ.get mid = some (.map (setE symA 0 ks) ks.length)) (hbx : σ.get bx = some (.cells [.m (some mid)])) :
  GoesCall (b.envK K) 0 (.f (.func n_Collect) [] []) [.f (.func n_Keys1) [] [.p (some (bx, 0))]] σ (fun r σ' => ∃ (v : AV) (c : List Sy), r = .ok v ∧ c.Perm ks ∧ Acc σ' (some 2) v (c.map symA) ∧ (∀ a, v.at? = some a → σ.next ≤ a) ∧ More σ σ') := by
 refine GoesCall.code hh.e hh.p hh.f rfl rfl rfl rfl ?_
 refine GoF.seq (GoF.region ?_)
 refine GoO.go rfl rfl rfl rfl ?_
 refine GoO.nil (GoF.seq (GoF.region ?_))
 refine GoO.go rfl rfl rfl rfl ?_
 refine GoO.callG rfl rfl rfl (AppendSeq_go ha hk1 hks σ hm hbx) fun r σ2 ⟨v, c, e1, h1, h2, h3, h4⟩ => ⟨_, e1, ?_⟩
 refine GoO.go rfl rfl rfl rfl ?_
 exact GoO.nil (GoF.ret ⟨rfl, _, c, rfl, h1, h2, h3, h4⟩)
include hf in
theorem SortedFunc_go (hh : Here (b.envK K) n_SortedFunc c_SortedFunc) (hc : Here (b.envK K) n_Collect c_Collect) (ha : Here (b.envK K) n_AppendSeq c_AppendSeq) (hk1 : Here (b.envK K) n_Keys1 c_Keys1) (hs : Here (b.envK K) n_SortFunc c_SortFunc) (hln : Here (b.envK K) n_Len c_Len) (h6 : Here (b.envK K) n_Len64 c_Len64) (hp : Here (b.envK K) n_pdq c_pdq) (hi : Here (b.envK K) n_inssort c_inssort) (hs1 : ∀ a c : Sy, K 179 [symA a, symA c] (.i .i64 (cmpSy a c))) (es1 : b.ext 179 = 0 ∧ b.pure 179 = true)
  {mid bx : Nat} {ks : List Sy} (hks : ks.length ≤ 12) (σ : St) (hm : σ.get mid = some (.map (setE symA 0 ks) ks.length)) (hbx : σ.get bx = some (.cells [.m (some mid)])) :
  GoesCall (b.envK K) 0 (.f (.func n_SortedFunc) [] []) [.f (.func n_Keys1) [] [.p (some (bx, 0))], .f (.func 179) [] []] σ (fun r σ' => ∃ (v : AV) (c : List Sy), r = .ok v ∧ c.Perm ks ∧ Acc σ' (some 2) v (c.map symA) ∧ (∀ a, v.at? = some a → σ.next ≤ a) ∧ More σ σ') := by
 refine GoesCall.code hh.e hh.p hh.f rfl rfl rfl rfl ?_
 refine GoF.seq (GoF.region ?_)
 refine GoO.go rfl rfl rfl rfl ?_
 refine GoO.nil (GoF.seq (GoF.region ?_))
 refine GoO.go rfl rfl rfl rfl ?_
 refine GoO.callG rfl rfl rfl (Collect_go hc ha hk1 (by omega) σ hm hbx) fun r σ2 ⟨v, c, e1, h1, h2, h3, h4⟩ => ⟨_, e1, ?_⟩
 have hcl := h1.length_eq
 refine GoO.go rfl rfl rfl rfl ?_
 refine GoO.nil (GoF.seq (GoF.region ?_))
 refine GoO.go rfl rfl rfl rfl ?_
 refine GoO.go rfl rfl rfl rfl ?_
 refine GoO.callG rfl rfl rfl (SortFunc_go hf hs hln h6 hp hi hs1 es1 (l := c) (by omega) σ2 h2) fun r σ3 ⟨e2, n3, ⟨l', hp', hA'⟩, k3⟩ => ⟨_, e2, ?_⟩
 refine GoO.nil (GoF.seq (GoF.region ?_))
 refine GoO.go rfl rfl rfl rfl ?_
 refine GoO.go rfl rfl rfl rfl ?_
 have hn := h4.1
 exact GoO.nil (GoF.ret ⟨rfl, _, l', rfl, hp'.trans h1, hA', h3, by omega, fun i o ho => k3 i o (fun e => by have := h3 i e; have := St.get_lt ho; omega) (h4.2 i o ho)⟩)
include hf in
theorem sorted_go (hh : Here (b.envK K) n_sorted c_sorted) (hk : Here (b.envK K) n_Keys c_Keys) (hsf : Here (b.envK K) n_SortedFunc c_SortedFunc) (hc : Here (b.envK K) n_Collect c_Collect) (ha : Here (b.envK K) n_AppendSeq c_AppendSeq) (hk1 : Here (b.envK K) n_Keys1 c_Keys1) (hs : Here (b.envK K) n_SortFunc c_SortFunc) (hln : Here (b.envK K) n_Len c_Len) (h6 : Here (b.envK K) n_Len64 c_Len64) (hp : Here (b.envK K) n_pdq c_pdq) (hi : Here (b.envK K) n_inssort c_inssort) (hs1 : ∀ a c : Sy, K 179 [symA a, symA c] (.i .i64 (cmpSy a c))) (es1 : b.ext 179 = 0 ∧ b.pure 179 = true)
  {mid : Nat} {ks : List Sy} (hks : ks.length ≤ 12) (σ : St) (hm : σ.get mid = some (.map (setE symA 0 ks) ks.length)) :
  GoesCall (b.envK K) 0 (.f (.func n_sorted) [] []) [.m (some mid)] σ (fun r σ' => ∃ (v : AV) (c : List Sy), r = .ok v ∧ c.Perm ks ∧ Acc σ' (some 2) v (c.map symA) ∧ (∀ a, v.at? = some a → σ.next ≤ a) ∧ More σ σ') := by
 refine GoesCall.code hh.e hh.p hh.f rfl rfl rfl rfl ?_
 refine GoF.seq (GoF.region ?_)
 refine GoO.go rfl rfl rfl rfl ?_
 refine GoO.nil (GoF.seq (GoF.region ?_))
 refine GoO.go rfl rfl rfl rfl ?_
 generalize hz : σ.next = z
 refine GoO.callG rfl rfl rfl (Keys_go hk mid σ z hz) fun r σ2 ⟨e1, n2, h2, k2⟩ => ⟨_, e1, ?_⟩
 refine GoO.callG rfl rfl rfl (SortedFunc_go hf hsf hc ha hk1 hs hln h6 hp hi hs1 es1 hks σ2 (k2 _ _ hm) h2) fun r σ3 ⟨v, c, e1, h1, h3, h4, h5⟩ => ⟨_, e1, ?_⟩
 refine GoO.go rfl rfl rfl rfl ?_
 have := h5.1
 exact GoO.nil (GoF.ret ⟨rfl, _, c, rfl, h1, h3, fun a e => by have := h4 a e; omega, by omega, fun i o ho => h5.2 i o (k2 i o ho)⟩)
end
end Go.Lyc
end
noncomputable section
namespace Go.Lyc
open Go.RowKit Go.Lyc.T
structure SrtH (b : Base) (K : Nat → List AV → AV → Prop) : Prop where
 sorted : Here (b.envK K) n_sorted c_sorted
 keys : Here (b.envK K) n_Keys c_Keys
 sfn : Here (b.envK K) n_SortedFunc c_SortedFunc
 col : Here (b.envK K) n_Collect c_Collect
 app : Here (b.envK K) n_AppendSeq c_AppendSeq
 keys1 : Here (b.envK K) n_Keys1 c_Keys1
 srt : Here (b.envK K) n_SortFunc c_SortFunc
 len : Here (b.envK K) n_Len c_Len
 len64 : Here (b.envK K) n_Len64 c_Len64
 pdq : Here (b.envK K) n_pdq c_pdq
 ins : Here (b.envK K) n_inssort c_inssort
 cmp : ∀ a c : Sy, K 179 [symA a, symA c] (.i .i64 (cmpSy a c))
 ec : b.ext 179 = 0 ∧ b.pure 179 = true
def predF (f : Fm) (ks : List Sy) : List Sy := if f.op = 1 then insE (f.name, f.args.length) ks else ks
def predsL (l : List Fm) (ks : List Sy) : List Sy := l.foldl (fun ks f => predF f ks) ks
def predsN (F : Fm) : List Sy := predsL F.parts []
def funT (t : Tm) (ks : List Sy) : List Sy := if t.var = false then insE (t.name, t.args.length) ks else ks
def funsT (l : List Tm) (ks : List Sy) : List Sy := l.foldl (fun ks f => funT f ks) ks
def funsL (l : List Fm) (ks : List Sy) : List Sy := l.foldl (fun ks f => funsT (Tm.partsL f.args) ks) ks
def funsN (F : Fm) : List Sy := funsL F.parts []
section
variable {b : Base} {K : Nat → List AV → AV → Prop} (hf : ∀ g ar r r', K g ar r → K g ar r' → r = r')
include hf in
theorem Predicates_go (hs : SrtH b K) (hh : Here (b.envK K) n_Predicates c_Predicates) (hv : Here (b.envK K) n_visit c_visit) (hw1 : Here (b.envK K) n_walk1 c_walk1) (hw : Here (b.envK K) n_walk c_walk) (F : Fm) (hF : F.few) (hn12 : (predsN F).length ≤ 12) (σ : St) :
  GoesCall (b.envK K) 0 (.f (.func n_Predicates) [] []) [F.A true] σ (fun r σ' => ∃ (v : AV) (c : List Sy), r = .ok v ∧ c.Perm (predsN F) ∧ Acc σ' (some 2) v (c.map symA) ∧ (∀ a, v.at? = some a → σ.next ≤ a) ∧ More σ σ') := by
 generalize hk : σ.next = k
 refine GoesCall.codeX (d := k + 4) hh.e hh.p hh.f rfl rfl rfl rfl ?_
 refine GoX.seqA (GoF.region (GoO.box (v := F.A true) (c := F.cells true) k hk rfl rfl rfl rfl rfl fun σ1 hn1 h1 k1 => ?_))
 repeat (first | refine GoO.go rfl rfl rfl rfl ?_ | refine GoO.cmp rfl rfl rfl rfl rfl ?_ | refine GoO.off rfl rfl ?_ | refine GoO.nil ?_)
 refine ⟨rfl, GoX.seqA (GoF.region (GoO.mkMap (k + 1) hn1 rfl fun σ2 hn2 h2 k2 => ?_))⟩
 refine GoO.var (v := .m (some (k + 1))) (c := [.m (some (k + 1))]) (k + 2) hn2 rfl rfl rfl rfl rfl rfl fun σ3 hn3 h3 k3 => ?_
 replace h1 := k3 _ _ (k2 _ _ h1)
 replace h2 := k3 _ _ h2
 refine GoO.nil ⟨rfl, GoX.seqB (GoX.seqA (GoF.region ?_))⟩
 refine GoO.ld h1 rfl rfl rfl (Fm.ld true F) ?_
 refine GoO.callG rfl rfl rfl (walkG hw true F σ3 (k + 3) hn3) fun r σ4 ⟨e1, hn4, h4, k4⟩ => ⟨_, e1, ?_⟩
 replace h1 := k4 _ _ h1
 replace h2 := k4 _ _ h2
 replace h3 := k4 _ _ h3
 have kk : ∀ i o, σ.get i = some o → σ4.get i = some o := fun i o ho => k4 i o (k3 i o (k2 i o (k1 i o ho)))
 refine GoO.nil ⟨rfl, GoX.block ?_⟩
 refine GoX.walk hv hw1 true (fun i => i = k + 1 ∨ i = k + 2) (fun l τ => ∃ ks, predsL l ks = predsN F ∧ τ.get (k + 1) = some (.map (setE symA 0 ks) ks.length) ∧ τ.get (k + 2) = some (.cells [.m (some (k + 1))])) (k + 4) hn4 rfl rfl hF h4 (fun i hi => by omega) (fun l τ τ' ⟨ks, a1, a2, a3⟩ hk => ⟨ks, a1, hk _ _ (.inl rfl) a2, hk _ _ (.inr rfl) a3⟩) ⟨[], rfl, h2, h3⟩ ?_ ?_
 ·intro G rest τ hG hτ ⟨ks, a1, a2, a3⟩
  refine GoF.region ?_
  refine GoO.var (v := G.A true) (c := G.cells true) τ.next rfl rfl rfl rfl (Fm.conf true G) rfl (Fm.len true G) fun τ1 hn4 h4 k4 => ?_
  refine GoO.nil ⟨rfl, .of (by omega) k4, fun τ2 hn5 k5 => ?_⟩
  replace h4 := k5 _ _ (by omega) h4
  replace a2 := k5 _ _ (by omega) (k4 _ _ a2)
  replace a3 := k5 _ _ (by omega) (k4 _ _ a3)
  refine GoF.block (GoF.seq (GoF.region ?_))
  repeat (first | refine GoO.go rfl rfl rfl rfl ?_ | refine GoO.cmp rfl rfl rfl rfl rfl ?_ | refine GoO.off rfl rfl ?_ | refine GoO.nil ?_)
  refine GoO.ld h4 rfl rfl rfl (Fm.ldO true G) ?_
  refine GoO.bin (a := .i .u8 (Int.ofNat G.op)) (b := .i .u8 (Int.ofNat 1)) (v := .b (decide (G.op = 1))) rfl rfl rfl rfl (bin_cmp rfl) ?_
  refine GoO.nil (GoF.cnd rfl (fun h => ?_) (fun h => ?_))
  ·have hop : G.op = 1 := of_decide_eq_true h
   refine GoF.region ?_
   refine GoO.ld (v := .m (some (k + 1))) a3 rfl rfl rfl rfl ?_
   refine GoO.go rfl rfl rfl rfl ?_
   refine GoO.ld h4 rfl rfl rfl (Fm.ldN true G) ?_
   refine GoO.go rfl rfl rfl rfl ?_
   refine GoO.ld h4 rfl rfl rfl (Fm.ldA true G) ?_
   refine GoO.len rfl rfl rfl tmsA_len ?_
   refine GoO.go (v := symA (G.name, G.args.length)) rfl rfl rfl rfl ?_
   refine GoO.mapUpdS (ka := symA) (k := (G.name, G.args.length)) keyEq_sym a2 rfl rfl fun τ3 n6 h6 k6 => ?_
   refine GoO.nil ⟨rfl, ⟨_, by rw [← a1]; show predsL rest _ = predsL rest (predF G ks); unfold predF; rw [if_pos hop], h6, k6 _ _ (by omega) a3⟩, ⟨by omega, fun i o hi ho => k6 i o (fun e => hi (.inl e)) ho⟩⟩
  ·have hop : ¬ G.op = 1 := of_decide_eq_false h
   exact GoF.skip ⟨rfl, ⟨ks, by rw [← a1]; show predsL rest _ = predsL rest (predF G ks); unfold predF; rw [if_neg hop], a2, a3⟩, .refl⟩
 ·intro τ ⟨ks, a1, a2, a3⟩ hτ hd hold
  have a1 : ks = predsN F := a1
  subst a1
  refine ⟨rfl, rfl, ?_⟩
  refine GoF.seq (GoF.region ?_)
  refine GoO.ld (v := .m (some (k + 1))) a3 rfl rfl rfl rfl ?_
  refine GoO.callG rfl rfl rfl (sorted_go hf hs.sorted hs.keys hs.sfn hs.col hs.app hs.keys1 hs.srt hs.len hs.len64 hs.pdq hs.ins hs.cmp hs.ec hn12 τ a2) fun r τ2 ⟨v, c, e1, b1, b2, b3, b4⟩ => ⟨_, e1, ?_⟩
  refine GoO.go rfl rfl rfl rfl ?_
  have hn := b4.1
  have hset := set_get (o' := AO.dead) (b4.2 _ _ hd)
  refine GoO.nil (GoF.ret ⟨rfl, b4.2 _ _ hd, v, c, rfl, b1, b2.keep fun i o hi ho => hset.2 i o (by have := b3 i hi; omega) ho, fun a e => by have := b3 a e; omega, by show σ.next ≤ τ2.next; omega, fun i o ho => ?_⟩)
  have := St.get_lt ho
  exact hset.2 i o (by omega) (b4.2 i o (hold i o (by omega) (kk i o ho)))
theorem visitTerms_go {env : Env} (hv : Here env n_visitTerms c_visitTerms) (o : Bool) {W : Nat → Prop} {B : Nat} (hW : ∀ i, W i → i < B) (I : List Tm → St → Prop) (hI : ∀ l σ σ', I l σ → σ.next ≤ σ'.next → (∀ i o, σ.get i = some o → σ'.get i = some o) → I l σ') (fv : AV)
  (hy : ∀ t rest σ, t.few → B ≤ σ.next → I (t :: rest) σ → GoesCall env 0 fv [t.A o] σ (fun r σ' => r = .ok (.b true) ∧ I rest σ' ∧ Keep W σ σ')) :
  ∀ (d : Nat) (a : Option (List Tm)) (rest : List Tm) (σ : St), Tm.deps (a.getD []) < d → (∀ t ∈ a.getD [], t.few) → (a.getD []).length < 2 ^ 62 → B ≤ σ.next → I (Tm.partsL (a.getD []) ++ rest) σ → GoesCall env 0 (.f (.func n_visitTerms) [] []) [tmsA o a, fv] σ (fun r σ' => r = .ok (.b true) ∧ I rest σ' ∧ Keep W σ σ')
 | 0, _, _, _, h, _, _, _, _ => by omega
 | d + 1, a, rest, σ0, hd, hfew, hl62, hB, h0 => by
  refine GoesCall.code hv.e hv.p hv.f rfl rfl rfl rfl ?_
  refine GoF.seq (GoF.region ?_)
  refine GoO.go rfl rfl rfl rfl ?_
  refine GoO.nil (GoF.seq (GoF.seq (GoF.region ?_)))
  refine GoO.go rfl rfl rfl rfl ?_
  refine GoO.len rfl rfl rfl tmsA_len ?_
  refine GoO.go rfl rfl rfl rfl ?_
  refine GoO.nil (GoF.block ?_)
  refine GoF.loop (fun m f τ => σ0.next ≤ τ.next ∧ Keep W σ0 τ ∧ ∃ i, i + m = (a.getD []).length ∧ I (Tm.partsL ((a.getD []).drop i) ++ rest) τ ∧
   sat [(1, fv), (7, tmsA o a), (8, nI (a.getD []).length), (9, nI i)] f) ?_ (a.getD []).length ⟨Nat.le_refl _, .refl, 0, by omega, by rw [List.drop_zero]; exact h0, rfl, rfl, rfl, rfl, trivial⟩
  clear h0
  intro m g σ ⟨hn, K1, i, hi, hI1, hL⟩
  refine GoF.norm _ hL fun g => ?_
  clear hL
  refine GoF.seq (GoF.region ?_)
  refine GoO.bin (a := nI i) (b := nI (a.getD []).length) (v := .b (decide (i < (a.getD []).length))) rfl rfl rfl rfl (bin_cmp rfl) ?_
  refine GoO.nil (GoF.seq ?_)
  refine GoF.cnd rfl (fun ht => ?_) (fun hfl => ?_)
  ·have hlt : i < (a.getD []).length := of_decide_eq_true ht
   rw [List.drop_eq_getElem_cons hlt, Tm.partsL, Tm.parts_eq, List.cons_append, List.cons_append, List.append_assoc] at hI1
   have hidx := tmsA_idx (o := o) hlt
   have hGm : (a.getD [])[i] ∈ a.getD [] := List.getElem_mem hlt
   generalize (a.getD [])[i] = G at hI1 hidx hGm
   have hdG : Tm.deps G.args < d := by
    have h1 := Tm.dep_mem hGm
    rw [Tm.dep_eq] at h1; omega
   refine GoF.skip (GoF.seq (GoF.block (GoF.seq (GoF.region ?_))))
   refine GoO.idx (v := .tp o (G.A o)) rfl rfl rfl rfl hidx ?_
   refine GoO.ldt rfl rfl rfl (Tm.conf o G) ?_
   refine GoO.var (v := G.A o) (c := G.cells o) σ.next rfl rfl rfl rfl (Tm.conf o G) rfl (Tm.len o G) fun τ hn2 h4 k2 => ?_
   have hWk : ¬ W σ.next := fun h => by have := hW _ h; omega
   have K2 := K1.trans (.of (W := W) (by omega) k2)
   have hI2 := hI _ _ _ hI1 (by omega) k2
   refine GoO.nil (GoF.seq (GoF.region ?_))
   refine GoO.go rfl rfl rfl rfl ?_
   refine GoO.ld h4 rfl rfl rfl (Tm.ld o G) ?_
   refine GoO.callG rfl rfl rfl (hy G _ τ (hfew G hGm) (by omega) hI2) fun r τ2 ⟨e1, hI3, K3⟩ => ⟨_, e1, ?_⟩
   have h4' := K3.keep _ _ hWk h4
   have hn3 := K3.next
   repeat (first | refine GoO.go rfl rfl rfl rfl ?_ | refine GoO.cmp rfl rfl rfl rfl rfl ?_ | refine GoO.off rfl rfl ?_ | refine GoO.nil ?_)
   refine GoO.ld h4' rfl rfl rfl (Tm.ldA o G) ?_
   repeat (first | refine GoO.go rfl rfl rfl rfl ?_ | refine GoO.cmp rfl rfl rfl rfl rfl ?_ | refine GoO.off rfl rfl ?_ | refine GoO.nil ?_)
   refine GoO.callG rfl rfl rfl (visitTerms_go hv o hW I hI fv hy d G.oargs _ τ2 hdG (hfew G hGm).arg (hfew G hGm).len (by omega) hI3) fun r τ3 ⟨e1, hI4, K4⟩ => ⟨_, e1, ?_⟩
   have hn4 := K4.next
   repeat (first | refine GoO.go rfl rfl rfl rfl ?_ | refine GoO.cmp rfl rfl rfl rfl rfl ?_ | refine GoO.off rfl rfl ?_ | refine GoO.nil ?_)
   refine GoF.cnd rfl (fun h => by cases h) (fun _ => GoF.skip ?_)
   refine GoF.region ?_
   refine GoO.bin (a := nI i) (b := nI 1) rfl rfl rfl rfl (bin_add (by omega)) ?_
   refine GoO.go rfl rfl rfl rfl ?_
   exact GoO.nil ⟨m - 1, by omega, by omega, (K2.trans K3).trans K4, i + 1, by omega, hI4, rfl, rfl, rfl, rfl, trivial⟩
  ·have hge : ¬ i < (a.getD []).length := of_decide_eq_false hfl
   obtain rfl : i = (a.getD []).length := by omega
   rw [List.drop_length] at hI1
   refine GoF.exit ?_
   refine GoF.seq (GoF.region ?_)
   refine GoO.go rfl rfl rfl rfl ?_
   exact GoO.nil (GoF.ret ⟨rfl, rfl, hI1, K1⟩)
end
end Go.Lyc
end
