/-
  An abstract executor of the program's code, and that it is sound: part 3. No conditions: definitions and laws.
-/
import Derived.Test.YtknkjkicpohpkaaGreatDoorEng2
import Derived.Lib.Bytealg
import Derived.OpenShut
set_option linter.all false
/-! Snd32: A region that draws its order: each operation that is ready; and the whole. No conditions: small laws. -/
namespace Go.Lyc
open Go.RowKit

section
variable {P : Program} {env : Env} {B f : Nat} {r : Option Nat} {ops : Array Oper} {pl : List AOper} {π ρ : Nat → Nat} {anc : Nat → Nat → Bool} {call : CallK} {s : Nat → Tr AV} {S : Nat → St} {v : Nat → AV}
variable {ds : List (Nat ⊕ (AV × List AV))} {rc : Bool} {σ0 : St} {w0 : World} {m0 : Nat → Option Nat} {listed : Array Bool} {a : Act} {w : World} {q0 : Nat} {m : Nat → Option Nat} {sd : Tr AV}

theorem calm_const (c : DC P env B f r ops pl π ρ anc call s S v) : ∀ (d k : Nat), k + d ≤ ops.size → (∀ (e : Nat) (ae : AOper), pl[e]? = some ae → k ≤ e → e < k + d → ae.op.isEffect = false ∧ ae.op.isAlloc = false) → S (k + d) = S k
  | 0, _, _, _ => rfl
  | d + 1, k, hk, h => by
    obtain ⟨ao, hao⟩ := c.get (p := k + d) (by omega)
    obtain ⟨h1, h2⟩ := h (k + d) ao hao (by omega) (by omega)
    rcases c.calm hao h1 with ⟨h3, _⟩ | ⟨ob, h3, _⟩
    · show S (k + d + 1) = _
      rw [h3]; exact calm_const c d k (by omega) (fun e ae h4 h5 h6 => h e ae h4 h5 (by omega))
    · rw [h2] at h3; cases h3

/-- A pending variable's place, after another one has been made. -/
theorem Pend.mono {D D' : Nat → Prop} {k : Nat} (h : Pend pl s S σ0 D m k) (hD : ∀ (p : Nat) (ao : AOper), pl[p]? = some ao → ¬ D' p → ¬ D p) : Pend pl s S σ0 D' m k :=
  ⟨fun p ao h1 h2 h3 h4 h5 => h.one p ao h1 h2 h3 h4 (hD p ao h2 h5), fun p p' ao ao' h1 h2 h3 h4 h5 h6 h7 h8 h9 h10 => h.lt p p' ao ao' h1 h2 h3 h4 h5 h6 h7 h8 (hD p ao h3 h9) (hD p' ao' h4 h10)⟩

def StEq (σ σ' : St) : Prop := (∀ id, σ.get id = σ'.get id) ∧ σ.next = σ'.next
/-- Behind the second of two stores that Go leaves unordered, run first. -/
structure Inv2 (P : Program) (env : Env) (B f : Nat) (ops : Array Oper) (pl : List AOper) (π : Nat → Nat) (anc : Nat → Nat → Bool) (s : Nat → Tr AV) (S : Nat → St) (v : Nat → AV) (ds : List (Nat ⊕ (AV × List AV))) (rc : Bool) (σ0 : St) (w0 : World) (m0 : Nat → Option Nat)
    (listed : Array Bool) (a : Act) (w : World) (x : Nat) (T : St) (m : Nat → Option Nat) (sd : Tr AV) : Prop where
  rel0 : Rel P σ0 w0 m0 B
  size : listed.size = ops.size
  closed : ∀ p, p < ops.size → Dn π listed p → ∀ q, anc q p = true → Dn π listed q
  pure : ∀ (p : Nat) (ao : AOper), pl[p]? = some ao → ¬ Dn π listed p → p = x ∨ (ao.op.isEffect = false ∧ ao.op.isAlloc = false ∧ ao.op.looks = false)
  fin : Dn π listed x → StEq T (S ops.size)
  rest : ¬ Dn π listed x → ∃ ax T', pl[x]? = some ax ∧ ax.op.isEffect = true ∧ (∀ c as, ax.op ≠ .call c as) ∧ wantedA ax.guard (s x) = true ∧ opx f (evalA env (s x)) T ax.op = some (.val (v x) T') ∧ StEq T' (S ops.size)
  slots : SlotsD pl v (s 0) (Dn π listed) sd
  st : St8 P env ⟨sd, ds, rc⟩ a T w m B
  ext : Ext f σ0 w0 m0 T w m

theorem ready_inv0 (c : DC P env B f r ops pl π ρ anc call s S v) (hsz : listed.size = ops.size) (hcl : ∀ p, p < ops.size → Dn π listed p → ∀ q, anc q p = true → Dn π listed q) {i : Nat} (hi : i ∈ Region.ready .any ops listed) :
    ∃ p ao o ao0, p < ops.size ∧ i = π p ∧ pl[p]? = some ao ∧ ops[i]? = some o ∧ coper P ops o = some ao0 ∧ ao.op = ao0.op ∧ ao.dst = ao0.dst ∧ ao.guard = ao0.guard ∧ ¬ Dn π listed p ∧ (∀ q, anc q p = true → Dn π listed q) := by
  obtain ⟨h1, o, ho, h2⟩ := mem_ready.1 hi
  have hin : i < ops.size := (Array.getElem?_eq_some_iff.1 ho).1
  obtain ⟨h3, h4⟩ := c.spec.rho i hin
  obtain ⟨ao, hao⟩ := c.get h3
  obtain ⟨o', ao0, ho', hc, e1, e2, e3⟩ := c.spec.code _ ao hao
  rw [h4, ho] at ho'
  cases ho'
  refine ⟨ρ i, ao, o, ao0, h3, h4.symm, hao, ho, hc, e1, e2, e3, not_Dn c hsz h3 (by rw [h4]; exact h1), fun q hq => ?_⟩
  obtain ⟨o', ho', e, he, hb, hor⟩ := c.spec.ancS (ρ i) h3 q hq
  rw [h4, ho] at ho'
  cases ho'
  have hlist := h2 e he hb
  have hback := c.spec.back (ρ i) h3 o (by rw [h4]; exact ho) e he hb
  have hrho := c.spec.rho e.on hback.1
  have hDe : Dn π listed (ρ e.on) := by unfold Dn; rw [hrho.2]; exact hlist
  rcases hor with rfl | hor
  · exact hDe
  · exact hcl _ hrho.1 hDe q hor

theorem Dn_mono (c : DC P env B f r ops pl π ρ anc call s S v) (hsz : listed.size = ops.size) {p : Nat} (hpn : p < ops.size) : ∀ q, Dn π listed q → Dn π (listed.setIfInBounds (π p) true) q := fun q hq => by
  unfold Dn at hq ⊢
  by_cases h : π p = π q
  · rw [← h]; simp [Array.getD_eq_getD_getElem?, hsz, (c.spec.pi p hpn).1]
  · rw [getD_set_ne false h]; exact hq

theorem Inv2.next (c : DC P env B f r ops pl π ρ anc call s S v) {x : Nat} {T T2 : St} (inv : Inv2 P env B f ops pl π anc s S v ds rc σ0 w0 m0 listed a w x T m sd) {p : Nat} {ao : AOper} (hp : pl[p]? = some ao) (hD : ¬ Dn π listed p) (hanc : ∀ q, anc q p = true → Dn π listed q)
    (hT : p = x ∧ StEq T2 (S ops.size) ∨ p ≠ x ∧ T2 = T) {a' : Act} {w' : World} {m' : Nat → Option Nat} (hx : x < ops.size) (st : St8 P env ⟨putL sd ao.dst (v p), ds, rc⟩ a' T2 w' m' B) (ext : Ext f σ0 w0 m0 T2 w' m') :
    Inv2 P env B f ops pl π anc s S v ds rc σ0 w0 m0 (listed.setIfInBounds (π p) true) a' w' x T2 m' (putL sd ao.dst (v p)) := by
  have hpn := c.lt hp
  have hs : ∀ q, q < ops.size → (Dn π (listed.setIfInBounds (π p) true) q ↔ Dn π listed q ∨ q = p) := fun q hq => Dn_set c inv.size hpn hq
  have hmono := Dn_mono c inv.size hpn
  refine ⟨inv.rel0, by simpa using inv.size, fun q hq hd y hy => ?_, fun q aq hq hd => inv.pure q aq hq (fun h => hd (hmono q h)), fun hd => ?_, fun hd => ?_, inv.slots.put c hp hD (fun q aq hq => hs q (c.lt hq)), st, ext⟩
  · rcases (hs q hq).1 hd with h | rfl
    · exact hmono y (inv.closed q hq h y hy)
    · exact hmono y (hanc y hy)
  · rcases hT with ⟨_, h⟩ | ⟨hne, rfl⟩
    · exact h
    · exact inv.fin (((hs x hx).1 hd).resolve_right (Ne.symm hne))
  · rcases hT with ⟨rfl, _⟩ | ⟨hne, rfl⟩
    · exact absurd ((hs p hpn).2 (.inr rfl)) hd
    · exact inv.rest (fun h => hd (hmono x h))

theorem step2 (c : DC P env B f r ops pl π ρ anc call s S v) {k : Nat} {Q : Exit → Act → World → Prop} {x : Nat} {T : St} (hxn : x < ops.size) (inv : Inv2 P env B f ops pl π anc s S v ds rc σ0 w0 m0 listed a w x T m sd) {i : Nat} (hi : i ∈ Region.ready .any ops listed)
    {K : Act → World → Prop} (hK : ∀ a' w' T' m' sd', Inv2 P env B f ops pl π anc s S v ds rc σ0 w0 m0 (listed.setIfInBounds i true) a' w' x T' m' sd' → K a' w') : wpOpIn (FF r) k P ops Q i K a w := by
  obtain ⟨p, ao, o, ao0, hpn, rfl, hp, ho, hc, e1, e2, e3, hD, hanc⟩ := ready_inv0 c inv.size inv.closed hi
  have hreads := reads_eq c inv.slots hp hD hanc inv.closed
  have hev : ∀ σ, opx f (evalA env sd) σ ao.op = opx f (evalA env (s p)) σ ao.op := fun σ => opx_congr (evalA_reads hreads)
  have hw := wantedA_reads hreads
  obtain ⟨hop, hdst⟩ := coper_op hc
  rw [← e1] at hop
  rw [← e2] at hdst
  unfold wpOpIn
  simp only [ho]
  rw [wanted_ok hc inv.st.ctx.slots, ← e3]
  show if wantedA ao.guard sd = true then _ else _
  rw [hw]
  have hcop : ∀ res, opx f (evalA env sd) T ao.op = some res → cop P o = some ao.op := fun res hres => copB_some hop.symm (fun hb => by rw [hb] at hres; simp [opx] at hres)
  have noDefer : ∀ v σ1, opx f (evalA env sd) T ao.op = some (.val v σ1) → cop P o = some ao.op → ∀ c, o.op ≠ .defer c := fun v σ1 hx hcp c hd => by
    obtain ⟨ac, as, h⟩ := cop_defer hd hcp
    rw [h] at hx
    simp only [opx] at hx
    split at hx <;> cases hx
  have val : ∀ T2, wantedA ao.guard (s p) = true → opx f (evalA env sd) T ao.op = some (.val (v p) T2) → (p = x ∧ StEq T2 (S ops.size) ∨ p ≠ x ∧ T2 = T) →
      if wantedA ao.guard (s p) = true then o.wpIn (FF r) k P a w K Q else (∀ f, o.about P w a.eval = some f → (FF r).fn f) ∧ K (a.put o.dst undef) w := fun T2 hwt hx' hT => by
    rw [hwt]
    simp only [if_true]
    obtain ⟨u, w1, m1, hrun, hR, hrel, hext⟩ := opx_val inv.st.ctx (hcop _ hx') hx'
    have hs : (o.semAt (FF r).round a.eval) = execOp a.eval o := Oper.semAt_eq _ _ _ (noDefer _ _ hx' (hcop _ hx'))
    have st1 := (inv.st.ext hext hrel).put ao.dst hR
    rw [put_eq] at st1
    have inv' := inv.next c hp hD hanc hT hxn st1 (inv.ext.trans inv.rel0 hext)
    rw [hdst] at inv'
    refine ⟨fun f _ => trivial, ?_⟩
    rw [hs]
    rcases hrun with hrun | ⟨hrun, rfl⟩
    · rw [hrun]; exact hK _ _ _ _ _ inv'
    · rw [hrun]; exact hK _ _ _ _ _ inv'
  rcases c.tr.step p ao hp with ⟨hwf, hv, hS⟩ | ⟨hwt, hx⟩ | ⟨hwt, fv, args, hx, hcl⟩
  · -- not wanted
    have hpx : p ≠ x := fun he => by
      subst he
      obtain ⟨ax, T', h1, _, _, h2, _⟩ := inv.rest hD
      rw [hp] at h1; cases h1
      rw [hwf] at h2; cases h2
    rw [hwf]
    simp only [Bool.false_eq_true, if_false]
    refine ⟨fun _ _ => trivial, ?_⟩
    have st1 := inv.st.put ao.dst (v := undefA) (u := undef) R.undef
    rw [put_eq, ← hv] at st1
    have inv' := inv.next c hp hD hanc (.inr ⟨hpx, rfl⟩) hxn st1 inv.ext
    rw [hdst] at inv'
    exact hK _ _ _ _ _ inv'
  · by_cases hpx : p = x
    · subst hpx
      obtain ⟨ax, T', h1, _, _, h2, h3, h4⟩ := inv.rest hD
      rw [hp] at h1; cases h1
      exact val T' hwt (by rw [hev]; exact h3) (.inl ⟨rfl, h4⟩)
    · obtain ⟨g1, g2, g3⟩ := (inv.pure p ao hp hD).resolve_left hpx
      obtain ⟨v', h1, h2⟩ := opx_pure g1 g2 hx
      simp only [OpR.val.injEq] at h1
      obtain ⟨rfl, _⟩ := h1
      exact val T hwt (by rw [hev]; exact h2 g3 T) (.inr ⟨hpx, rfl⟩)
  · obtain ⟨cc, as, hopc, _, _⟩ := opx_call hx
    exfalso
    rcases inv.pure p ao hp hD with rfl | ⟨g1, _, _⟩
    · obtain ⟨ax, T', h1, _, h2, _⟩ := inv.rest hD
      rw [hp] at h1; cases h1
      exact h2 _ _ hopc
    · rw [hopc] at g1; cases g1

theorem step_draw (c : DC P env B f r ops pl π ρ anc call s S v) {k : Nat} {Q : Exit → Act → World → Prop} (inv : Inv P env B f ops pl π anc s S v ds rc σ0 w0 m0 listed a w q0 m sd) {i : Nat} (hi : i ∈ Region.ready .any ops listed)
    {K : Act → World → Prop} (hK : ∀ a' w' q0' m' sd', Inv P env B f ops pl π anc s S v ds rc σ0 w0 m0 (listed.setIfInBounds i true) a' w' q0' m' sd' → K a' w')
    (hK2 : ∀ a' w' x T m' sd', x < ops.size → Inv2 P env B f ops pl π anc s S v ds rc σ0 w0 m0 (listed.setIfInBounds i true) a' w' x T m' sd' → K a' w') : wpOpIn (FF r) k P ops Q i K a w := by
  obtain ⟨p, ao, o, ao0, hpn, rfl, hp, ho, hc, e1, e2, e3, hD, hanc⟩ := ready_inv c inv hi
  have hreads := reads_eq c inv.slots hp hD hanc inv.closed
  have hev : ∀ σ, opx f (evalA env sd) σ ao.op = opx f (evalA env (s p)) σ ao.op := fun σ => opx_congr (evalA_reads hreads)
  have hw := wantedA_reads hreads
  obtain ⟨hop, hdst⟩ := coper_op hc
  rw [← e1] at hop
  rw [← e2] at hdst
  have hpq : ao.op.isEffect = false → p < q0 := fun he => by
    rcases inv.q0e with h | ⟨ae, h1, h2, h3⟩
    · omega
    · rcases Nat.lt_trichotomy p q0 with h | h | h
      · exact h
      · subst h; rw [hp] at h1; cases h1; rw [he] at h2; cases h2
      · rcases c.spec.eff q0 p ae h hpn h1 h2 with h4 | h4
        · exact absurd (hanc q0 h4) h3
        · obtain ⟨_, ay, _, _, _, _, _, _, _, g2, _, g4, _⟩ := h4.ops
          rw [hp] at g2; cases g2
          rw [g4] at he; cases he
  have hpe : ao.op.isEffect = true → p = q0 ∨ Swap pl anc q0 p := fun he => by
    rcases Nat.lt_trichotomy p q0 with h | h | h
    · exact absurd (inv.before p ao h hp he) hD
    · exact .inl h
    · rcases inv.q0e with h1 | ⟨ae, h1, h2, h3⟩
      · omega
      · rcases c.spec.eff q0 p ae h hpn h1 h2 with h4 | h4
        · exact absurd (hanc q0 h4) h3
        · exact .inr h4
  have hDmono : ∀ q aq, pl[q]? = some aq → ¬ Dn π (listed.setIfInBounds (π p) true) q → ¬ Dn π listed q := fun q aq hq h h2 => h ((Dn_set c inv.size hpn (c.lt hq)).2 (.inl h2))
  have pend0 : Pend pl s S σ0 (Dn π (listed.setIfInBounds (π p) true)) m q0 := inv.pend.mono hDmono
  unfold wpOpIn
  simp only [ho]
  rw [wanted_ok hc inv.st.ctx.slots, ← e3]
  show if wantedA ao.guard sd = true then _ else _
  rw [hw]
  have hcop : ∀ res, opx f (evalA env sd) (S q0) ao.op = some res → cop P o = some ao.op := fun res hres => copB_some hop.symm (fun hb => by rw [hb] at hres; simp [opx] at hres)
  by_cases hsw : ao.op.isEffect = true ∧ p ≠ q0
  · -- the second of two stores, first
    have sw := (hpe hsw.1).resolve_left hsw.2
    rcases inv.q0e with h0 | ⟨ax, hax, hae, hDx⟩
    · have := sw.pq; omega
    have hq0n := c.lt hax
    obtain ⟨g1, g2, T, T', g3, g4, g5, g6, g7, g8⟩ := swap_facts c sw hax hp
    have hx' : opx f (evalA env sd) (S q0) ao.op = some (.val (v p) T) := by rw [hev]; exact g3
    rw [g6]
    simp only [if_true]
    obtain ⟨u, w1, m1, hrun, hR, hrel, hext⟩ := opx_val inv.st.ctx (hcop _ hx') hx'
    have hnd : ∀ c, o.op ≠ .defer c := fun c hd => by
      obtain ⟨ac, as, h⟩ := cop_defer hd (hcop _ hx')
      rw [h] at hx'
      simp only [opx] at hx'
      split at hx' <;> cases hx'
    have hs : (o.semAt (FF r).round a.eval) = execOp a.eval o := Oper.semAt_eq _ _ _ hnd
    have st1 := (inv.st.ext hext hrel).put ao.dst hR
    rw [put_eq] at st1
    have hsD : ∀ q, q < ops.size → (Dn π (listed.setIfInBounds (π p) true) q ↔ Dn π listed q ∨ q = p) := fun q hq => Dn_set c inv.size hpn hq
    have hmono := Dn_mono c inv.size hpn
    have hxc : ∀ cc as, ax.op ≠ .call cc as := fun cc as hh => by
      obtain ⟨ax', _, _, _, _, _, _, _, k1, _, k3, _⟩ := sw.ops
      rw [hax] at k1; cases k1
      rw [k3] at hh; cases hh
    have hnx : ¬ Dn π (listed.setIfInBounds (π p) true) q0 := fun h => by
      rcases (hsD q0 hq0n).1 h with h | h
      · exact hDx h
      · exact hsw.2 h.symm
    have inv' : Inv2 P env B f ops pl π anc s S v ds rc σ0 w0 m0 (listed.setIfInBounds (π p) true) (a.put ao.dst u) w1 q0 T m1 (putL sd ao.dst (v p)) := by
      refine ⟨inv.rel0, by simpa using inv.size, fun q hq hd y hy => ?_, fun q aq hq hd => ?_, fun hd => absurd hd hnx, fun _ => ⟨ax, T', hax, hae, hxc, g5, g4, g7, g8⟩, inv.slots.put c hp hD (fun q aq hq => hsD q (c.lt hq)), st1, inv.ext.trans inv.rel0 hext⟩
      · rcases (hsD q hq).1 hd with h | rfl
        · exact hmono y (inv.closed q hq h y hy)
        · exact hmono y (hanc y hy)
      · have hqn := c.lt hq
        have hl := sw.last
        have hl2 := c.spec.len
        have hpq2 := sw.pq
        rcases Nat.lt_trichotomy q q0 with h | h | h
        · rcases sw.rest q aq h hq with h5 | h5
          · exact absurd (hmono q (hanc q h5)) hd
          · exact .inr h5
        · exact .inl h
        · have : q = p := by omega
          exact absurd ((hsD q hqn).2 (.inr this)) hd
    rw [hdst] at inv'
    refine ⟨fun f _ => trivial, ?_⟩
    rw [hs]
    rcases hrun with hrun | ⟨hrun, rfl⟩
    · rw [hrun]; exact hK2 _ _ _ _ _ _ hq0n inv'
    · rw [hrun]; exact hK2 _ _ _ _ _ _ hq0n inv'
  replace hpe : ao.op.isEffect = true → p = q0 := fun he => Classical.byContradiction fun h => hsw ⟨he, h⟩
  rcases c.tr.step p ao hp with ⟨hwf, hv, hS⟩ | ⟨hwt, hx⟩ | ⟨hwt, fv, args, hx, hcl⟩
  · -- not wanted
    rw [hwf]
    simp only [Bool.false_eq_true, if_false]
    refine ⟨fun _ _ => trivial, ?_⟩
    have st1 := inv.st.put ao.dst (v := undefA) (u := undef) R.undef
    rw [put_eq, ← hv, hdst] at st1
    rw [← hdst] at st1
    have st1 : St8 P env ⟨putL sd ao.dst (v p), ds, rc⟩ (a.put o.dst undef) (S q0) w m B := by rw [← hdst]; exact st1
    by_cases hpq0 : p = q0
    · subst hpq0
      cases he : ao.op.isEffect with
      | true =>
        obtain ⟨q', inv'⟩ := inv.effect c hp hD hanc he rfl (a' := a.put o.dst undef) (w' := w) (m' := m) (by rw [hS]; exact st1) (by rw [hS]; exact Ext.refl _ _ _ _)
        exact hK _ _ _ _ _ inv'
      | false => have := hpq he; omega
    · exact hK _ _ _ _ _ (inv.calm c hp hD hanc hpq0 (by cases he : ao.op.isEffect with | false => exact .inl rfl | true => exact absurd (hpe he) hpq0) st1 inv.ext pend0)
  · -- a value
    rw [hwt]
    simp only [if_true]
    have noDefer : ∀ v σ σ1, opx f (evalA env sd) σ ao.op = some (.val v σ1) → cop P o = some ao.op → ∀ c, o.op ≠ .defer c := fun v σ σ1 hx hcp c hd => by
      obtain ⟨ac, as, h⟩ := cop_defer hd hcp
      rw [h] at hx
      simp only [opx] at hx
      split at hx <;> cases hx
    cases he : ao.op.isEffect with
    | true =>
      obtain rfl := hpe he
      have hx' : opx f (evalA env sd) (S p) ao.op = some (.val (v p) (S (p + 1))) := by rw [hev]; exact hx
      obtain ⟨u, w1, m1, hrun, hR, hrel, hext⟩ := opx_val inv.st.ctx (hcop _ hx') hx'
      have hs : (o.semAt (FF r).round a.eval) = execOp a.eval o := Oper.semAt_eq _ _ _ (noDefer _ _ _ hx' (hcop _ hx'))
      have st1 := (inv.st.ext hext hrel).put ao.dst hR
      rw [put_eq] at st1
      obtain ⟨q', inv'⟩ := inv.effect c hp hD hanc he rfl st1 hext
      rw [hdst] at inv'
      refine ⟨fun f _ => trivial, ?_⟩
      rw [hs]
      rcases hrun with hrun | ⟨hrun, rfl⟩
      · rw [hrun]; exact hK _ _ _ _ _ inv'
      · rw [hrun]; exact hK _ _ _ _ _ inv'
    | false =>
      have hlt := hpq he
      cases ha : ao.op.isAlloc with
      | false =>
        have hx' : opx f (evalA env sd) (S q0) ao.op = some (.val (v p) (S q0)) := by
          rw [hev]
          obtain ⟨v', h1, h2⟩ := opx_pure he ha hx
          simp only [OpR.val.injEq] at h1
          obtain ⟨hv1, hS1⟩ := h1
          subst hv1
          cases hl : ao.op.looks with
          | false => exact h2 hl _
          | true =>
            have hq0 : q0 = ops.size ∨ ∃ (aq : AOper), pl[q0]? = some aq ∧ aq.op.isEffect = true := by
              rcases inv.q0e with h | ⟨ae, h1, h2, _⟩
              · exact .inl h
              · exact .inr ⟨ae, h1, h2⟩
            rcases c.spec.win p ao hp hl q0 hlt hq0 with h | ⟨e, ae, g1, g2, g3, g4, g5⟩ | h
            · obtain ⟨σ2, h3⟩ := c.steady p ao hp hwt he q0 h
              obtain ⟨v2, h4, _⟩ := opx_pure he ha h3
              cases h4
              exact h3
            · exact absurd (inv.closed e (c.lt g1) (inv.before e ae g4 g1 g2) p g5) hD
            · have hc1 := calm_const c (q0 - (p + 1)) (p + 1) (by have := inv.q0n; omega) (fun e ae g1 g2 g3 => h e ae g1 (by omega) (by omega))
              have e4 : p + 1 + (q0 - (p + 1)) = q0 := by omega
              rw [e4] at hc1
              rw [hc1, hS1]
              rw [hS1] at hx
              exact hx
        obtain ⟨u, w1, m1, hrun, hR, hrel, hext⟩ := opx_val inv.st.ctx (hcop _ hx') hx'
        have hs : (o.semAt (FF r).round a.eval) = execOp a.eval o := Oper.semAt_eq _ _ _ (noDefer _ _ _ hx' (hcop _ hx'))
        have st1 := (inv.st.ext hext hrel).put ao.dst hR
        rw [put_eq] at st1
        have pend1 : Pend pl s S σ0 (Dn π (listed.setIfInBounds (π p) true)) m1 q0 := by
          refine ⟨fun p' ao' h1 h2 h3 h4 h5 => ?_, pend0.lt⟩
          obtain ⟨j1, j2, j3, j4⟩ := pend0.one p' ao' h1 h2 h3 h4 h5
          refine ⟨?_, j2, j3, j4⟩
          cases hm : m1 (S p').next with
          | none => rfl
          | some b =>
            rcases hext.new _ _ hm with h | ⟨h, _⟩
            · rw [j1] at h; cases h
            · omega
        have inv' := inv.calm c hp hD hanc (by omega) (.inl he) st1 (inv.ext.trans inv.rel0 hext) pend1
        rw [hdst] at inv'
        refine ⟨fun f _ => trivial, ?_⟩
        rw [hs]
        rcases hrun with hrun | ⟨hrun, rfl⟩
        · rw [hrun]; exact hK _ _ _ _ _ inv'
        · rw [hrun]; exact hK _ _ _ _ _ inv'
      | true =>
        obtain ⟨ob, vf, h1, hdead, h2⟩ := opx_alloc ha hx
        simp only [OpR.val.injEq] at h1
        obtain ⟨hv1, hS1⟩ := h1
        have h2' : ∀ σ2, opx f (evalA env sd) σ2 ao.op = some (.val (vf σ2.next) (σ2.push ob)) := fun σ2 => by rw [hev]; exact h2 σ2
        have hcp := hcop _ (h2' (S q0))
        obtain ⟨u, w', o', hrun, hh, hos, htp, hout, hor, hval⟩ := place_ok inv.st.ctx hcp ha h2'
        obtain ⟨j1, j2, j3, j4⟩ := inv.pend.one p ao hlt hp ha hwt hD
        have hg : (S q0).get (S p).next = some ob := by rw [j4, hS1]; exact St.get_push_new ob
        obtain ⟨hrel, hm1, hsz, hbs, hold, hun, hnew⟩ := inv.st.ctx.rel.bindAt j3 j1 hg hh hor
        have hs : (o.semAt (FF r).round a.eval) = execOp a.eval o := Oper.semAt_eq _ _ _ (noDefer _ _ _ (h2' (S q0)) hcp)
        have hR : R w' (bindM m (S p).next w.heap.size) (Own (S q0) (bindM m (S p).next w.heap.size)) B (v p) u := by
          rw [hv1]; exact hval _ _ _ _ _ (bindM_same _ _ _) hnew
        have st1 := (inv.st.mono hrel hm1 hsz hbs hun).put ao.dst hR
        rw [put_eq] at st1
        have pend1 : Pend pl s S σ0 (Dn π (listed.setIfInBounds (π p) true)) (bindM m (S p).next w.heap.size) q0 := by
          refine ⟨fun p' ao' g1 g2 g3 g4 g5 => ?_, pend0.lt⟩
          obtain ⟨i1, i2, i3, i4⟩ := pend0.one p' ao' g1 g2 g3 g4 g5
          refine ⟨?_, i2, i3, i4⟩
          have hD' := hDmono p' ao' g2 g5
          have hne : p' ≠ p := fun e => g5 ((Dn_set c inv.size hpn (c.lt g2)).2 (.inr e))
          rw [bindM_other m _ _ (fun e => ?_)]
          · exact i1
          · rcases Nat.lt_or_ge p' p with h | h
            · have := inv.pend.lt p' p ao' ao h hlt g2 hp g3 ha g4 hwt hD' hD; omega
            · have := inv.pend.lt p p' ao ao' (by omega) g1 hp g2 ha g3 hwt g4 hD hD'; omega
        have inv' := inv.calm c hp hD hanc (by omega) (.inl he) st1 (inv.ext.bindAt j2 j1 hh hos htp hout) pend1
        rw [hdst] at inv'
        refine ⟨fun f _ => trivial, ?_⟩
        rw [hs, hrun]
        exact hK _ _ _ _ _ inv'
  · -- a call
    rw [hwt]
    simp only [if_true]
    obtain ⟨cc, as, hopc, _, _⟩ := opx_call hx
    have he : ao.op.isEffect = true := by rw [hopc]; rfl
    obtain rfl := hpe he
    have hx' : opx f (evalA env sd) (S p) ao.op = some (.call fv args) := by rw [hev]; exact hx
    have hcp := hcop _ hx'
    rw [hopc] at hcp hx'
    obtain ⟨c', as', h1, hfv, has⟩ := opx_call hx'
    cases h1
    obtain ⟨cl, hocl, hcallee, hargs⟩ := cop_call hcp
    obtain ⟨x, hxv, hRf⟩ := calleeOf_ok hcallee inv.st.ctx hfv
    have hRa := evalsA_R inv.st.ctx.rel.own_base inv.st.ctx.globs inv.st.ctx.slots hargs has
    have hres := c.callOk _ _ _ _ hcl (k - 1) w m _ _ inv.st.ctx.rel inv.st.ctx.globs hRf hRa
    refine call_upon hocl hxv (us := cl.args.map a.eval) rfl (fun _ => trivial) rfl (by
      have e1 : (cl.args.toList.map a.eval).toArray = cl.args.map a.eval := by apply Array.ext'; simp
      rw [e1] at hres; exact hres) (fun e1 w1 hr => ?_)
    obtain ⟨ret, σ1, hmem, m1, h1, h2, h3⟩ := hr
    obtain ⟨rfl, rfl⟩ : ret = .ok (v p) ∧ σ1 = S (p + 1) := by
      have := List.mem_singleton.1 hmem
      exact ⟨congrArg Prod.fst this, congrArg Prod.snd this⟩
    cases e1 with
    | returned u =>
      have st1 := (inv.st.ext h3 h2).put ao.dst h1
      rw [put_eq] at st1
      obtain ⟨q', inv'⟩ := inv.effect c hp hD hanc he rfl st1 h3
      rw [hdst] at inv'
      exact hK _ _ _ _ _ inv'
    | panicked ch => exact h1.elim
    | outgrown => exact h1.elim

/-- All is done where nothing is ready. -/
theorem all_done (c : DC P env B f r ops pl π ρ anc call s S v) (hsz : listed.size = ops.size) (hr : Region.ready .any ops listed = []) : ∀ p, p < ops.size → Dn π listed p := by
  intro p
  induction p using Nat.strongRecOn with
  | _ p ih =>
    intro hp
    refine Classical.byContradiction fun hD => ?_
    have hpi := c.spec.pi p hp
    have : π p ∈ Region.ready .any ops listed := by
      refine mem_ready.2 ⟨?_, ops[π p], Array.getElem?_eq_getElem hpi.1, fun e he hb => ?_⟩
      · unfold Dn at hD
        have hlt : π p < listed.size := by rw [hsz]; exact hpi.1
        simp [Array.getD_eq_getD_getElem?, hlt] at hD ⊢
        exact hD
      · have hback := c.spec.back p hp _ (Array.getElem?_eq_getElem hpi.1) e he hb
        have hrho := c.spec.rho e.on hback.1
        have := ih (ρ e.on) hback.2 hrho.1
        unfold Dn at this
        rw [hrho.2] at this
        exact this
    rw [hr] at this
    cases this

theorem slots_end (c : DC P env B f r ops pl π ρ anc call s S v) (hall : ∀ p, p < ops.size → Dn π listed p) (hsl : SlotsD pl v (s 0) (Dn π listed) sd) : ∀ t, sd.get t = (s ops.size).get t := by
  have hc := slots_canon c ops.size (Nat.le_refl _)
  intro t
  by_cases hex : ∃ (q : Nat) (aq : AOper), pl[q]? = some aq ∧ aq.dst = some t
  · obtain ⟨q, aq, h1, h2⟩ := hex
    by_cases hlt : ((s 0).get t).isSome = true
    · rw [hsl.hit q aq t h1 (hall q (c.lt h1)) h2 hlt, hc.hit q aq t h1 (c.lt h1) h2 hlt]
    · have e1 := hsl.dom t
      have e2 := hc.dom t
      cases hg : (s 0).get t with
      | some y => rw [hg] at hlt; exact absurd rfl hlt
      | none =>
        rw [hg] at e1 e2
        cases hg1 : sd.get t with
        | some y => rw [hg1] at e1; cases e1
        | none =>
          cases hg2 : (s ops.size).get t with
          | some y => rw [hg2] at e2; cases e2
          | none => rfl
  · rw [hsl.miss t (fun q aq h1 _ h2 => hex ⟨q, aq, h1, h2⟩), hc.miss t (fun q aq h1 _ h2 => hex ⟨q, aq, h1, h2⟩)]
theorem inv_end (c : DC P env B f r ops pl π ρ anc call s S v) (inv : Inv P env B f ops pl π anc s S v ds rc σ0 w0 m0 listed a w q0 m sd) (hr : Region.ready .any ops listed = []) :
    St8 P env ⟨s ops.size, ds, rc⟩ a (S ops.size) w m B ∧ Ext f σ0 w0 m0 (S ops.size) w m := by
  have hall := all_done c inv.size hr
  have hq : q0 = ops.size := by
    rcases inv.q0e with h | ⟨ae, h1, _, h3⟩
    · exact h
    · exact absurd (hall q0 (c.lt h1)) h3
  subst hq
  have hsd := slots_end c hall inv.slots
  have hsl := inv.st.ctx.slots
  refine ⟨⟨⟨inv.st.ctx.rel, ⟨fun i x hi => hsl.1 i x (by rw [hsd i]; exact hi), fun i hi => hsl.2 i (by rw [hsd i]; exact hi)⟩, inv.st.ctx.globs⟩, inv.st.defs⟩, inv.ext⟩

theorem inv2_end (c : DC P env B f r ops pl π ρ anc call s S v) {x : Nat} {T : St} (hx : x < ops.size) (inv : Inv2 P env B f ops pl π anc s S v ds rc σ0 w0 m0 listed a w x T m sd) (hr : Region.ready .any ops listed = []) :
    St8 P env ⟨s ops.size, ds, rc⟩ a (S ops.size) w m B ∧ Ext f σ0 w0 m0 (S ops.size) w m := by
  have hall := all_done c inv.size hr
  obtain ⟨e1, e2⟩ := inv.fin (hall x hx)
  have hsd := slots_end c hall inv.slots
  have hsl := inv.st.ctx.slots
  have st : St8 P env ⟨s ops.size, ds, rc⟩ a T w m B := ⟨⟨inv.st.ctx.rel, ⟨fun i x hi => hsl.1 i x (by rw [hsd i]; exact hi), fun i hi => hsl.2 i (by rw [hsd i]; exact hi)⟩, inv.st.ctx.globs⟩, inv.st.defs⟩
  exact ⟨st.congr e1 e2, inv.ext.congr e1 e2⟩

theorem count_set {l : Array Bool} {i : Nat} (h : l.getD i true = false) : (l.setIfInBounds i true).toList.count false + 1 = l.toList.count false := by
  have hlt : i < l.size := by
    rcases Nat.lt_or_ge i l.size with h1 | h1
    · exact h1
    · simp [Array.getD_eq_getD_getElem?, Array.getElem?_eq_none h1] at h
  have hv : l[i] = false := by simpa [Array.getD_eq_getD_getElem?, hlt] using h
  rw [Array.toList_setIfInBounds, List.count_set (by simpa using hlt)]
  have hpos : 0 < l.toList.count false := List.count_pos_iff.2 (by rw [← hv]; simp)
  have hv' : (l.toList[i]'(by simpa using hlt)) = false := by simpa using hv
  rw [hv']
  have e1 : (if (false == false) = true then 1 else 0) = 1 := rfl
  have e2 : (if (true == false) = true then 1 else 0) = 0 := rfl
  rw [e1, e2]
  omega

theorem draw_wp2 (c : DC P env B f r ops pl π ρ anc call s S v) {k : Nat} {Q : Exit → Act → World → Prop} (hQ : ∀ a' w' m', St8 P env ⟨s ops.size, ds, rc⟩ a' (S ops.size) w' m' B → Ext f σ0 w0 m0 (S ops.size) w' m' → Q .normal a' w') {x : Nat} (hx : x < ops.size) :
    ∀ (fuel : Nat) (listed : Array Bool) (a : Act) (w : World) (T : St) (m : Nat → Option Nat) (sd : Tr AV), Inv2 P env B f ops pl π anc s S v ds rc σ0 w0 m0 listed a w x T m sd → listed.toList.count false ≤ fuel → wpAnyIn (FF r) k P .any ops Q fuel listed a w
  | 0, listed, a, w, T, m, sd, inv, hf => by
    have hr : Region.ready .any ops listed = [] := by
      refine List.eq_nil_iff_forall_not_mem.2 fun i hi => ?_
      have := count_set (mem_ready.1 hi).1
      omega
    obtain ⟨h1, h2⟩ := inv2_end c hx inv hr
    exact ⟨hr, hQ _ _ _ h1 h2⟩
  | fuel + 1, listed, a, w, T, m, sd, inv, hf => by
    refine ⟨fun hr => ?_, fun i hi => ?_⟩
    · obtain ⟨h1, h2⟩ := inv2_end c hx inv hr
      exact hQ _ _ _ h1 h2
    · have hcount := count_set (mem_ready.1 hi).1
      exact step2 c hx inv hi (fun a' w' T' m' sd' inv' => draw_wp2 c hQ hx fuel _ a' w' T' m' sd' inv' (by omega))
theorem draw_wp (c : DC P env B f r ops pl π ρ anc call s S v) {k : Nat} {Q : Exit → Act → World → Prop} (hQ : ∀ a' w' m', St8 P env ⟨s ops.size, ds, rc⟩ a' (S ops.size) w' m' B → Ext f σ0 w0 m0 (S ops.size) w' m' → Q .normal a' w') :
    ∀ (fuel : Nat) (listed : Array Bool) (a : Act) (w : World) (q0 : Nat) (m : Nat → Option Nat) (sd : Tr AV), Inv P env B f ops pl π anc s S v ds rc σ0 w0 m0 listed a w q0 m sd → listed.toList.count false ≤ fuel → wpAnyIn (FF r) k P .any ops Q fuel listed a w
  | 0, listed, a, w, q0, m, sd, inv, hf => by
    have hr : Region.ready .any ops listed = [] := by
      refine List.eq_nil_iff_forall_not_mem.2 fun i hi => ?_
      have := count_set (mem_ready.1 hi).1
      omega
    obtain ⟨h1, h2⟩ := inv_end c inv hr
    exact ⟨hr, hQ _ _ _ h1 h2⟩
  | fuel + 1, listed, a, w, q0, m, sd, inv, hf => by
    refine ⟨fun hr => ?_, fun i hi => ?_⟩
    · obtain ⟨h1, h2⟩ := inv_end c inv hr
      exact hQ _ _ _ h1 h2
    · have hcount := count_set (mem_ready.1 hi).1
      exact step_draw c inv hi (fun a' w' q0' m' sd' inv' => draw_wp c hQ fuel _ a' w' q0' m' sd' inv' (by omega))
        (fun a' w' x T m' sd' hx inv' => draw_wp2 c hQ hx fuel _ a' w' T m' sd' inv' (by omega))
end

section
variable {P : Program} {env : Env} {B : Nat}

theorem drawn_ok {fr : Fr} {a : Act} {σ : St} {w : World} {m : Nat → Option Nat} (st : St8 P env fr a σ w m B) (f n : Nat) : St8 P env fr a σ { w with drawn := n } m B ∧ Ext f σ w m σ { w with drawn := n } m := by
  have hr := st.ctx.rel
  have hk : ∀ blk, blk < w.heap.size → ¬ Own σ m blk → w.heap[blk]? = w.heap[blk]? ∧ ¬ Own σ m blk := fun _ _ h => ⟨rfl, h⟩
  refine ⟨st.mono ⟨hr.len, hr.dom, fun id blk o h1 h2 h3 => ?_, hr.inj, hr.base, hr.bb⟩ (fun _ _ h => h) (Nat.le_refl _) (fun _ _ h => h) hk,
    ⟨fun _ _ h => h, fun _ _ h => .inl h, Nat.le_refl _, Nat.le_refl _, fun _ _ h => h, fun _ _ _ => rfl, fun _ _ _ => rfl, fun _ _ h => h, rfl, rfl, rfl, fun _ _ _ => rfl⟩⟩
  obtain ⟨o', h4, h5⟩ := hr.obj id blk o h1 h2 h3
  exact ⟨o', h4, OR.mono (w := w) (w' := { w with drawn := n }) (fun _ _ h => h) (Nat.le_refl _) (fun _ _ h => h) hk h5⟩

theorem swap_ids {f : Nat} {call : CallK} {pl : List AOper} {s : Nat → Tr AV} {S : Nat → St} {v : Nat → AV} {anc : Nat → Nat → Bool} {sl : Tr AV} (tr : Trace env f call pl s S v) (he : s pl.length = sl) (h : swapOk env sl pl = true) {p q : Nat} (sw : Swap pl anc p q)
    {ax ay : AOper} {s1 s2 : Option Nat} {a1 x1 a2 x2 : AOpd} (hax : pl[p]? = some ax) (hay : pl[q]? = some ay) (hx : ax.op = .store s1 a1 x1) (hy : ay.op = .store s2 a2 x2) : ∃ i oi j oj, evalA env (s p) a1 = some (.p (some (i, oi))) ∧ evalA env (s q) a2 = some (.p (some (j, oj))) ∧ i ≠ j := by
  have hpq := sw.pq
  have hl := sw.last
  obtain ⟨ax', ay', _, _, _, _, _, _, k1, k2, _, _, k5, k6, _, _, k9⟩ := sw.ops
  rw [hax] at k1; cases k1
  rw [hay] at k2; cases k2
  have e1 : s q = s p := by rw [← hpq, tr.put p ax hax, k5]; rfl
  have e2 : s pl.length = s q := by rw [← hl, tr.put q ay hay, k6]; rfl
  have hrev : ∃ t, pl.reverse = ay :: ax :: t := by
    have g1 : pl.reverse[0]? = some ay := by rw [List.getElem?_reverse (by omega), ← hay]; congr 1; omega
    have g2 : pl.reverse[1]? = some ax := by rw [List.getElem?_reverse (by omega), ← hax]; congr 1; omega
    match pl.reverse, g1, g2 with
    | a :: b :: t, g1, g2 => simp at g1 g2; exact ⟨t, by rw [g1, g2]⟩
  obtain ⟨t, ht⟩ := hrev
  unfold swapOk at h
  rw [ht] at h
  simp only at h
  split at h
  · rename_i hw; exact absurd hw k9
  · rw [hy, hx] at h
    simp only at h
    rw [← he, e2, e1] at h
    rw [e1]
    split at h
    · rename_i i oi j oj g1 g2
      refine ⟨i, oi, j, oj, g1, g2, fun hij => ?_⟩
      subst hij
      rw [Nat.beq_refl] at h; cases h
    · cases h

/-- A REGION THAT DRAWS ITS ORDER. -/
theorem draw_ok {run : Run} (hfo : P.follows .mixedOrders = true) (hcall : ∀ f r, CallOk P env B f r (callV env run f)) : DrawOk P env B run := by
  intro floor pl fr σ fr' ss ws σ' hrun hst hswp k r id ops a w m hcd st Q hQ
  obtain ⟨π, ρ, anc, spec⟩ := cdraw_spec hcd
  obtain ⟨s, S, v, tr, e1, e2, e3, e4, e5, e6, e7, _, e9⟩ := runDraw_trace _ _ _ _ _ _ _ _ _ hrun
  have c : DC P env B floor r ops pl π ρ anc (callV env run floor) s S v := by
    refine ⟨spec, hcall floor r, tr, fun p ao hp hw he q hq => ?_, fun p q sw ax ay s1 a1 x1 s2 a2 x2 hax hay hx hy => swap_ids tr e3 hswp sw hax hay hx hy⟩
    have hmem := e9 p ao hp hw he (fun h => by rw [h] at hq; cases hq)
    rw [List.all_eq_true] at hst
    have h1 := hst _ hmem
    unfold steady at h1
    have h2 := allB_all h1 q hq
    simp only [e7, List.reverse_nil, List.nil_append, nth_eq, opxF_eq] at h2
    split at h2
    · rename_i σq hσq
      simp only [List.getElem?_map, Option.map_eq_some_iff] at hσq
      obtain ⟨q', hq', rfl⟩ := hσq
      obtain rfl : q = q' := by
        have := List.getElem?_range (i := q) (n := pl.length + 1) (by have := (List.getElem?_eq_some_iff.1 hq').1; simpa using this)
        rw [this] at hq'; cases hq'; rfl
      split at h2
      · rename_i v1 σ1 hx
        rw [AV.eqb_eq _ _ _ h2] at hx
        exact ⟨σ1, hx⟩
      · cases h2
    · cases h2
  refine wpIn_region_any hfo ?_
  obtain ⟨st1, ext1⟩ := drawn_ok st floor (w.drawn + 1)
  have hfr : fr = ⟨s 0, fr.defers, fr.rcv⟩ := by rw [e1]
  obtain ⟨q, h1, h2, h3, h4⟩ := next_eff c ops.size 0 (by omega)
  have hno : ∀ p, ¬ Dn π (Array.replicate ops.size false) p := fun p h => by
    unfold Dn at h
    simp only [Array.getD_eq_getD_getElem?] at h
    rw [Array.getElem?_replicate] at h
    split at h <;> simp at h
  have hpend0 : Pend pl s S σ (Dn π (Array.replicate ops.size false)) m 0 := ⟨fun p ao h => by omega, fun p p' ao ao' h h' => by omega⟩
  obtain ⟨st2, ext2, pend2⟩ := advance c (D := Dn π (Array.replicate ops.size false)) q 0 (by omega) (fun p ao h5 h6 h7 => h4 p ao h5 (by omega) h7) (by rw [e2]; exact st1) (by rw [e2]; exact ext1) hpend0
  rw [Nat.zero_add] at st2 ext2 pend2
  refine draw_wp (σ0 := σ) (w0 := w) (m0 := m) (ds := fr.defers) (rc := fr.rcv) c (fun a' w' m' g1 g2 => ?_) ops.size _ a _ q m (s 0) ⟨st.ctx.rel, by simp, fun p hp hd => absurd hd (hno p), h2, ?_, fun e ae h5 h6 h7 => ?_, fun e ae _ _ _ h => hno e h, ⟨fun _ => rfl, fun p ao t hp hd => absurd hd (hno p), fun t _ => rfl⟩, by rw [← hfr]; exact st2, ext2, pend2⟩ (by simp)
  · rw [← spec.len, e4] at g1 g2
    rw [e3] at g1
    refine hQ a' w' m' ?_ g2
    have : fr' = ⟨fr'.slots, fr.defers, fr.rcv⟩ := by rw [← e5, ← e6]
    rw [this]; exact g1
  · rcases h3 with h | ⟨ae, h5, h6⟩
    · exact .inl h
    · exact .inr ⟨ae, h5, h6, hno q⟩
  · have := h4 e ae (by omega) h5 h6
    rw [this] at h7; cases h7
end
end Go.Lyc

/-! Snd33: The top: a run from an empty store. No conditions: small laws. -/
noncomputable section
namespace Go.Lyc
open Go.RowKit

section
variable {P : Program} {env : Env} {B : Nat}

/-- CODE, with so much fuel. -/
theorem exec_ok (hfs : FuncsOk P env) (hsp : SpecOk P env B) (hex : ExtOk P env) (hfo : P.follows .mixedOrders = true) : ∀ n, RunOk P env B (exec env n)
  | 0 => RunOk.zero
  | n + 1 => by
    have ih := exec_ok hfs hsp hex hfo n
    rw [exec_succ]
    exact step_ok ih (fun f r => callV_ok hfs hsp hex ih f r) (draw_ok hfo (fun f r => callV_ok hfs hsp hex ih f r)) (range_ok hfs hsp ih)

/-- Nothing in it is older than the run. -/
def freshA (n : Nat) : AV → Bool :=
  Nat.rec (motive := fun _ => AV → Bool) (fun _ => false) (fun _ ih v =>
    match v with
    | .tp o v => !o && allB ih v.cells
    | .tl o _ xs => (!o || xs.isEmpty) && allB (fun x => allB ih x.cells) xs
    | .it _ v => ih v
    | .ag l => allB ih l
    | .tu l => allB ih l
    | .f _ x y => allB ih x && allB ih y
    | _ => true) n
theorem freshA_succ (n : Nat) (v : AV) : freshA (n + 1) v = match v with
    | .tp o v => !o && allB (freshA n) v.cells
    | .tl o _ xs => (!o || xs.isEmpty) && allB (fun x => allB (freshA n) x.cells) xs
    | .it _ v => freshA n v
    | .ag l => allB (freshA n) l
    | .tu l => allB (freshA n) l
    | .f _ x y => allB (freshA n) x && allB (freshA n) y
    | _ => true := rfl

theorem fresh_R {w : World} {O : Nat → Prop} : ∀ (n : Nat) (v : AV) (u : Value), freshA n v = true → R w (fun _ => none) O B v u → R w (fun _ => none) (fun b => b < B) B v u
  | 0, _, _, h, _ => by cases h
  | n + 1, v, u, h, hR => by
    have ih := fresh_R (w := w) (O := O) n
    rw [freshA_succ] at h
    cases hR with
    | b x => exact .b x
    | i k n => exact .i k n
    | s l hs => exact .s l hs
    | pn => exact .pn
    | p hm => simp at hm
    | tp ys hO hb hB hc hr hf =>
      simp only [Bool.and_eq_true, Bool.not_eq_true'] at h
      exact .tp ys (fun hlt => by have := hB h.1; omega) hb hB hc (fun j hj => ih _ _ (allB_all h.2 _ (List.getElem_mem hj)) (hr j hj)) hf
    | nilsl => exact .nilsl
    | sl hm => simp at hm
    | tlz => exact .tlz
    | tl ys hO hs hc hr hl hf =>
      simp only [Bool.and_eq_true, Bool.or_eq_true, Bool.not_eq_true', List.isEmpty_iff] at h
      refine .tl ys (fun hne => ?_) hs hc (fun i hi j hj => ih _ _ (allB_all (allB_all h.2 _ (List.getElem_mem hi)) _ (List.getElem_mem hj)) (hr i hi j hj)) hl hf
      have h1 := h.1.resolve_right hne
      exact ⟨fun hlt => by have := (hO hne).2.2 h1; omega, (hO hne).2.1, (hO hne).2.2⟩
    | mn => exact .mn
    | mp hm => simp at hm
    | ff hf hfr hc hcr =>
      simp only [Bool.and_eq_true] at h
      exact .ff hf (fun i a b => ih _ _ (allB_all h.1 _ (List.getElem_mem a)) (hfr i a b)) hc (fun i a b => ih _ _ (allB_all h.2 _ (List.getElem_mem a)) (hcr i a b))
    | fy hm => simp at hm
    | nf => exact .nf
    | it hv => exact .it (ih _ _ h hv)
    | ni => exact .ni
    | ag hs hr hf => exact .ag hs (fun i a b => ih _ _ (allB_all h _ (List.getElem_mem a)) (hr i a b)) hf
    | tu hs hr => exact .tu hs (fun i a b => ih _ _ (allB_all h _ (List.getElem_mem a)) (hr i a b))
    | um hu hn => exact .um hu hn
    | sx hs => exact .sx hs

/-- What is known of a pure call. -/
def SpecEntry (P : Program) (env : Env) (B0 g : Nat) (ar : List AV) (r : AV) : Prop :=
  (∃ fn c, P.funcs[g]? = some fn ∧ fn.body = some c ∧ (fn.name == "runtime.NumGoroutine") = false) ∧
    ∀ k rd w us, B0 ≤ w.heap.size → Globs env w B0 → RL w (fun _ => none) (fun _ => False) w.heap.size ar us.toList →
      CallsIn (FF rd) k P g us w (fun e w1 => ∃ u, e = .returned u ∧ R w1 (fun _ => none) (fun b => b < w.heap.size) w.heap.size r u ∧ w.heap.size ≤ w1.heap.size ∧ (∀ b, b < w.heap.size → w1.heap[b]? = w.heap[b]?) ∧ w1.os = w.os ∧ w1.tape = w.tape ∧ w1.output = w.output)

def SpecAll (P : Program) (env : Env) : Prop := ∀ B0, SpecOk P env B0

theorem rel_empty (w : World) : Rel P ⟨.nil, 0⟩ w (fun _ => none) w.heap.size :=
  ⟨trivial, fun _ _ h => by simp at h, fun _ _ _ h => by simp at h, fun _ _ _ h => by simp at h, fun _ _ h => by simp at h, Nat.le_refl _⟩
theorem own_empty (blk : Nat) : ¬ Own ⟨.nil, 0⟩ (fun _ => none) blk := fun ⟨_, h, _⟩ => by simp at h

/-- A RUN FROM AN EMPTY STORE IS KNOWN FROM THEN ON. -/
theorem spec_of_run (hfs : FuncsOk P env) (hsp : SpecAll P env) (hex : ExtOk P env) (hfo : P.follows .mixedOrders = true) {n g : Nat} {ar : List AV} {r : AV} {l : List (Ret × St)} (h : runF env (exec env n) 0 g ar ⟨.nil, 0⟩ = some l) (hz : joinF 0 l = some r) (hfr : freshA 60 r = true) (B0 : Nat) :
    SpecEntry P env B0 g ar r := by
  refine ⟨?_, fun k rd w us hB hG ha => ?_⟩
  · unfold runF at h
    cases hg : env.funcs g with
    | none => simp [hg] at h
    | some af =>
      obtain ⟨fn, h1, h2, h3⟩ := hfs.funcs g af hg
      obtain ⟨_, c, _, _, h4, _⟩ := cfunc_inv h2
      exact ⟨fn, c, h1, h4, h3⟩
  · have hG' : Globs env w w.heap.size := fun g v hg B' => (hG g v hg B').mono (fun _ _ h => h) (Nat.le_refl _) (fun _ _ h => h) (fun b _ hb => ⟨rfl, fun ho => hb (Nat.le_trans hB ho)⟩)
    have hrun := exec_ok hfs (hsp w.heap.size) hex hfo n
    have hr0 := rel_empty (P := P) w
    have ha' : RL w (fun _ => none) (Own ⟨.nil, 0⟩ (fun _ => none)) w.heap.size ar us.toList := ha.mono (fun _ _ h => h) (Nat.le_refl _) (fun _ _ h => h) (fun b _ _ => ⟨rfl, own_empty b⟩)
    obtain ⟨_, hc⟩ := runF_ok hfs hrun (callD_ok hfs 0) h k rd hr0 hG' ha'
    refine CallsIn.mono hc (fun e w1 hres => ?_)
    obtain ⟨ret, σ', hmem, m1, hret, hr1, he1⟩ := hres
    obtain ⟨v, rfl, hz1⟩ := joinF_some hz _ _ hmem
    cases e with
    | returned u =>
      have he1' : Ext (⟨.nil, 0⟩ : St).next ⟨.nil, 0⟩ w (fun _ => none) σ' w1 m1 := he1
      have hR := freeze_ok hr0 hr1 he1' 60 v r u hz1 hret
      exact ⟨u, rfl, fresh_R 60 r u hfr hR, he1.size, fun b hb => he1.keep b hb (fun ⟨_, _, h, _⟩ => by simp at h), he1.os, he1.tape, he1.out⟩
    | panicked ch => exact hret.elim
    | outgrown => exact hret.elim
end

/-! ### Tables -/

/-- What is known, in a row: function, arguments, result. -/
def tabSpec (tab : List (Nat × List AV × AV)) (g : Nat) (ar : List AV) : Option AV :=
  List.rec none (fun e _ ih => cond (Nat.beq e.1 g) (cond (all2 (AV.eqb 60) ar e.2.1) (some e.2.2) ih) ih) tab
theorem tabSpec_cons (e : Nat × List AV × AV) (tab : List (Nat × List AV × AV)) (g : Nat) (ar : List AV) : tabSpec (e :: tab) g ar = cond (Nat.beq e.1 g) (cond (all2 (AV.eqb 60) ar e.2.1) (some e.2.2) (tabSpec tab g ar)) (tabSpec tab g ar) := rfl
theorem tabSpec_mem {g : Nat} {ar : List AV} {r : AV} : ∀ {tab : List (Nat × List AV × AV)}, tabSpec tab g ar = some r → (g, ar, r) ∈ tab
  | [], h => by cases h
  | e :: tab, h => by
    rw [tabSpec_cons] at h
    cases h1 : Nat.beq e.1 g with
    | false => rw [h1, cond_false] at h; exact List.mem_cons_of_mem _ (tabSpec_mem h)
    | true =>
      rw [h1, cond_true] at h
      cases h2 : all2 (AV.eqb 60) ar e.2.1 with
      | false => rw [h2, cond_false] at h; exact List.mem_cons_of_mem _ (tabSpec_mem h)
      | true =>
        rw [h2, cond_true] at h
        cases h
        have e1 := Nat.eq_of_beq_eq_true h1
        have e2 := all2_eq (AV.eqb_eq 60) _ _ h2
        subst e1; subst e2
        exact List.mem_cons_self

inductive FT where
  | nil
  | one (k : Nat) (a : AFunc)
  | node (k : Nat) (l r : FT)
def FT.get (t : FT) : Nat → Option AFunc :=
  FT.rec (fun _ => none) (fun k a i => cond (Nat.beq i k) (some a) none) (fun k _ _ l r i => cond (Nat.blt i k) (l i) (r i)) t
def FT.All (p : Nat → AFunc → Prop) : FT → Prop
  | .nil => True
  | .one k a => p k a
  | .node _ l r => l.All p ∧ r.All p
theorem FT.get_all {p : Nat → AFunc → Prop} : ∀ {t : FT}, t.All p → ∀ g af, t.get g = some af → p g af
  | .nil, _, g, af, h => by cases h
  | .one k a, hp, g, af, h => by
    have h : cond (Nat.beq g k) (some a) none = some af := h
    cases h1 : Nat.beq g k with
    | false => rw [h1] at h; cases h
    | true =>
      rw [h1] at h; cases h
      have := Nat.eq_of_beq_eq_true h1
      subst this; exact hp
  | .node k l r, hp, g, af, h => by
    have h : cond (Nat.blt g k) (l.get g) (r.get g) = some af := h
    cases h1 : Nat.blt g k with
    | false => rw [h1] at h; exact FT.get_all hp.2 g af h
    | true => rw [h1] at h; exact FT.get_all hp.1 g af h

/-- What a program is run over: its code, its variables. -/
structure Base where
  funcs : FT
  glob : Nat → Option AV
  pure : Nat → Bool
  ext : Nat → Nat
def Base.env (b : Base) (tab : List (Nat × List AV × AV)) : Env := { funcs := b.funcs.get, glob := b.glob, pure := b.pure, spec := tabSpec tab, ext := b.ext }
def FuncIs (P : Program) (g : Nat) (af : AFunc) : Prop := ∃ fn, P.funcs[g]? = some fn ∧ cfunc P fn = some af ∧ (fn.name == "runtime.NumGoroutine") = false
structure BaseOk (P : Program) (b : Base) : Prop where
  funcs : b.funcs.All (FuncIs P)
  ext : ∀ g, b.ext g ≠ 0 → ∀ args v, extRow (b.ext g) args = some v → ∀ w m O B us cs, RL w m O B args (us ++ cs).toList → ∃ u, (invoke (.fn (.func g) cs) us).run P w = .ok (.value u) w ∧ R w m O B v u
  orders : P.follows .mixedOrders = true

/-- One call, run in the kernel. -/
def runsTo (b : Base) (tab : List (Nat × List AV × AV)) (n : Nat) (e : Nat × List AV × AV) : Bool :=
  match callTop (b.env tab) n e.1 e.2.1 with
  | some v => AV.eqb 60 v e.2.2 && freshA 60 e.2.2
  | none => false

section
variable {P : Program} {b : Base} {tab : List (Nat × List AV × AV)}

def TabOk (P : Program) (b : Base) (tab : List (Nat × List AV × AV)) : Prop := ∀ e ∈ tab, ∀ B0, SpecEntry P (b.env []) B0 e.1 e.2.1 e.2.2

theorem TabOk.nil : TabOk P b [] := fun e h => by cases h
theorem TabOk.specAll (h : TabOk P b tab) : SpecAll P (b.env tab) := fun B0 g ar r hs => h _ (tabSpec_mem hs) B0
theorem TabOk.entry (hb : BaseOk P b) (h : TabOk P b tab) {n : Nat} {e : Nat × List AV × AV} (hr : runsTo b tab n e = true) (B0 : Nat) : SpecEntry P (b.env []) B0 e.1 e.2.1 e.2.2 := by
  unfold runsTo callTop at hr
  split at hr
  · rename_i v hv
    split at hv <;> try (cases hv; done)
    rename_i l hrun
    simp only [Bool.and_eq_true] at hr
    rw [AV.eqb_eq _ _ _ hr.1] at hv
    exact spec_of_run (env := b.env tab) ⟨fun g af hg => FT.get_all hb.funcs g af hg⟩ h.specAll hb.ext hb.orders hrun hv hr.2 B0
  · cases hr
theorem TabOk.cons (hb : BaseOk P b) (h : TabOk P b tab) {n : Nat} {e : Nat × List AV × AV} (hr : runsTo b tab n e = true) : TabOk P b (e :: tab) := fun e' he => by
  rcases List.mem_cons.1 he with rfl | he
  · exact h.entry hb hr
  · exact h e' he
theorem TabOk.append {tab' : List (Nat × List AV × AV)} (h : TabOk P b tab) (h' : TabOk P b tab') : TabOk P b (tab ++ tab') := fun e he => by
  rcases List.mem_append.1 he with he | he
  · exact h e he
  · exact h' e he
end
end Go.Lyc
end

/-! Snd34: Functions without a body: strings.IndexByte's and the order of strings. No conditions: small laws. -/
namespace Go.Lyc
open Go.RowKit

theorem idxB_cons (c x : Nat) (l : List Nat) (k : Nat) : idxB c (x :: l) k = cond (Nat.beq x c) (Int.ofNat k) (idxB c l (k + 1)) := rfl
theorem toUInt8_inj {a b : Nat} (ha : a < 256) (hb : b < 256) : (a.toUInt8 == b.toUInt8) = Nat.beq a b := by
  rw [Bool.eq_iff_iff, Nat.beq_eq, beq_iff_eq]
  constructor
  · intro h
    have := congrArg UInt8.toNat h
    simp at this
    omega
  · intro h; rw [h]
theorem idxB_eq {c : Nat} (hc : c < 256) : ∀ (l : List Nat) (k : Nat), (∀ x ∈ l, x < 256) → idxB c l k = if Lib.indexByte (l.map Nat.toUInt8) c.toUInt8 = -1 then -1 else Lib.indexByte (l.map Nat.toUInt8) c.toUInt8 + k
  | [], k, _ => rfl
  | x :: l, k, h => by
    have hx : x < 256 := h x (by simp)
    have ih := idxB_eq hc l (k + 1) (fun y hy => h y (by simp [hy]))
    have hge := Lib.indexByte_ge (l.map Nat.toUInt8) c.toUInt8
    rw [idxB_cons, ih, List.map_cons]
    simp only [Lib.indexByte, toUInt8_inj hx hc]
    cases hb : Nat.beq x c with
    | true => simp
    | false =>
      simp only [cond_false, Bool.false_eq_true, if_false]
      by_cases h1 : Lib.indexByte (l.map Nat.toUInt8) c.toUInt8 = -1
      · simp [h1]
      · have h2 : (Lib.indexByte (l.map Nat.toUInt8) c.toUInt8 == -1) = false := by simpa using h1
        rw [h2]
        simp only [h1, if_false, Bool.false_eq_true]
        rw [if_neg (by omega)]
        omega
theorem lssL_cons (x : Nat) (l : List Nat) (y : Nat) (r : List Nat) : lssL (x :: l) (y :: r) = cond (Nat.blt x y) true (cond (Nat.beq x y) (lssL l r) false) := rfl
theorem eqL_cons (x : Nat) (l : List Nat) (y : Nat) (r : List Nat) : eqL (x :: l) (y :: r) = cond (Nat.beq x y) (eqL l r) false := rfl
theorem cmp_eq : ∀ (a b : List Nat), (∀ x ∈ a, x < 256) → (∀ x ∈ b, x < 256) → Lib.compareBytes (a.map Nat.toUInt8) (b.map Nat.toUInt8) = cond (lssL a b) (-1) (cond (eqL a b) 0 1)
  | [], [], _, _ => rfl
  | [], _ :: _, _, _ => rfl
  | _ :: _, [], _, _ => rfl
  | x :: a, y :: b, ha, hb => by
    have hx : x < 256 := ha x (by simp)
    have hy : y < 256 := hb y (by simp)
    have ih := cmp_eq a b (fun z hz => ha z (by simp [hz])) (fun z hz => hb z (by simp [hz]))
    have lt1 : ∀ {p q : Nat}, p < 256 → q < 256 → (p.toUInt8 < q.toUInt8 ↔ p < q) := fun hp hq => by
      rw [UInt8.lt_iff_toNat_lt]; simp; omega
    simp only [List.map_cons, Lib.compareBytes, lssL_cons, eqL_cons, lt1 hx hy, lt1 hy hx]
    rcases Nat.lt_trichotomy x y with h | h | h
    · have : Nat.blt x y = true := (blt_iff.2 h)
      simp [h, this]
    · subst h
      have h1 : Nat.blt x x = false := by cases h : Nat.blt x x with | false => rfl | true => exact absurd ((blt_iff.1 h)) (Nat.lt_irrefl x)
      simp [h1, ih]
    · have h1 : Nat.blt x y = false := by cases h' : Nat.blt x y with | false => rfl | true => have := (blt_iff.1 h'); omega
      have h2 : Nat.beq x y = false := by cases h' : Nat.beq x y with | false => rfl | true => have := Nat.eq_of_beq_eq_true h'; omega
      have h3 : ¬ x < y := by omega
      simp [h, h1, h2, h3]

section
variable {P : Program} {g : Nat} {fn : Func}

theorem args1 {w : World} {m : Nat → Option Nat} {O : Nat → Prop} {B : Nat} {x : AV} {l : List Value} (h : RL w m O B [x] l) : ∃ u, l = [u] ∧ R w m O B x u := by
  obtain ⟨h1, h2⟩ := h
  match l, h1, h2 with
  | [u], _, h2 => exact ⟨u, rfl, h2 0 (by simp) (by simp)⟩
theorem args2 {w : World} {m : Nat → Option Nat} {O : Nat → Prop} {B : Nat} {x y : AV} {l : List Value} (h : RL w m O B [x, y] l) : ∃ u v, l = [u, v] ∧ R w m O B x u ∧ R w m O B y v := by
  obtain ⟨h1, h2⟩ := h
  match l, h1, h2 with
  | [u, v], _, h2 => exact ⟨u, v, rfl, h2 0 (by simp) (by simp), h2 1 (by simp) (by simp)⟩

/-- strings.IndexByte's own, below it. -/
theorem ext_index (hf : P.funcs[g]? = some fn) (hname : (fn.name == "runtime.NumGoroutine") = false) (hb : fn.body.isNone = true) (hn : Extern.findNext fn = none) (he : Extern.find fn = some Extern.BytealgIndexByte.indexByte)
    (args : List AV) (v : AV) (h : extRow 1 args = some v) (w : World) (m : Nat → Option Nat) (O : Nat → Prop) (B : Nat) (us cs : Array Value) (ha : RL w m O B args (us ++ cs).toList) : ∃ u, (invoke (.fn (.func g) cs) us).run P w = .ok (.value u) w ∧ R w m O B v u := by
  have key : ∃ l c, args = [.s l, .i .u8 (Int.ofNat c)] ∧ c < 256 ∧ v = .i .i64 (idxB c l 0) := by
    unfold extRow at h
    split at h
    · rename_i l c _
      cases hc : Nat.blt c 256 with
      | false => rw [hc] at h; cases h
      | true => rw [hc, cond_true] at h; cases h; exact ⟨l, c, rfl, (blt_iff.1 hc), rfl⟩
    · rename_i h1; exact absurd h1 (by decide)
    · cases h
  obtain ⟨l, c, rfl, hc, rfl⟩ := key
  obtain ⟨u1, u2, hl, h1, h2⟩ := args2 ha
  have hus : us ++ cs = #[u1, u2] := by apply Array.ext'; simpa using hl
  cases h1 with
  | s _ hlt =>
    cases h2 with
    | i _ _ =>
      refine ⟨.int .i64 (idxB c l 0), ?_, .i _ _⟩
      show (callFunc g (us ++ cs)).run P w = _
      rw [run_callFunc_extern hf hname hb hn he, hus, Lib.run_indexByteString]
      have e1 : (strOf l).data.toList = l.map Nat.toUInt8 := by simp [strOf]
      have e2 : (Int.ofNat c).toNat = c := rfl
      rw [e1, e2, idxB_eq hc l 0 hlt]
      simp only [Result.andThen_ok]
      split
      · rename_i h; rw [h]
      · simp
theorem ext_cmp (hf : P.funcs[g]? = some fn) (hname : (fn.name == "runtime.NumGoroutine") = false) (hb : fn.body.isNone = true) (hn : Extern.findNext fn = none) (he : Extern.find fn = some Extern.BytealgCompare.compare)
    (args : List AV) (v : AV) (h : extRow 2 args = some v) (w : World) (m : Nat → Option Nat) (O : Nat → Prop) (B : Nat) (us cs : Array Value) (ha : RL w m O B args (us ++ cs).toList) : ∃ u, (invoke (.fn (.func g) cs) us).run P w = .ok (.value u) w ∧ R w m O B v u := by
  have key : ∃ a b, args = [.s a, .s b] ∧ v = .i .i64 (cond (lssL a b) (-1) (cond (eqL a b) 0 1)) := by
    unfold extRow at h
    split at h
    · rename_i h1; exact absurd h1 (by decide)
    · cases h; exact ⟨_, _, rfl, rfl⟩
    · cases h
  obtain ⟨a, b, rfl, rfl⟩ := key
  obtain ⟨u1, u2, hl, h1, h2⟩ := args2 ha
  have hus : us ++ cs = #[u1, u2] := by apply Array.ext'; simpa using hl
  cases h1 with
  | s _ hlt =>
    cases h2 with
    | s _ hlt2 =>
      refine ⟨.int .i64 (cond (lssL a b) (-1) (cond (eqL a b) 0 1)), ?_, .i _ _⟩
      show (callFunc g (us ++ cs)).run P w = _
      rw [run_callFunc_extern hf hname hb hn he, hus, Lib.run_compareString]
      have e1 : ∀ l, (strOf l).data.toList = l.map Nat.toUInt8 := fun l => by simp [strOf]
      rw [e1, e1, cmp_eq a b hlt hlt2]
      rfl
end
end Go.Lyc

/-! Snd35: What is known of a call, as a plain contract. No conditions: small laws. -/
namespace Go.Lyc
open Go.RowKit

theorem SpecEntry.calls {P : Program} {env : Env} {B0 g : Nat} {ar : List AV} {r : AV} (h : SpecEntry P env B0 g ar r) {w : World} {us : Array Value} (hB : B0 ≤ w.heap.size) (hG : Globs env w B0) (ha : RL w (fun _ => none) (fun _ => False) w.heap.size ar us.toList) :
    Calls P g us w (fun e w1 => ∃ u, e = .returned u ∧ R w1 (fun _ => none) (fun b => b < w.heap.size) w.heap.size r u ∧ w.heap.size ≤ w1.heap.size ∧ (∀ b, b < w.heap.size → w1.heap[b]? = w.heap[b]?) ∧ w1.os = w.os ∧ w1.tape = w.tape ∧ w1.output = w.output) :=
  (h.2 0 none w us hB hG ha).calls (fun k => by simp [Fence.room, FF])
end Go.Lyc

/-! Glb: Package-level variables that read as known data: what they hold, as abstract values. No conditions: small laws. -/
namespace Go.Lyc
open Go.RowKit

theorem mapOL_len {α β : Type} {f : α → Option β} : ∀ {l : List α} {r : List β}, mapOL f l = some r → r.length = l.length ∧ ∀ i (h : i < l.length) (h' : i < r.length), f l[i] = some r[i]
  | [], r, h => by cases h; exact ⟨rfl, fun i h => by simp at h⟩
  | x :: xs, r, h => by
    unfold mapOL at h
    split at h <;> cases h
    rename_i y ys h1 h2
    obtain ⟨h3, h4⟩ := mapOL_len h2
    refine ⟨by simp [h3], fun i hi hi' => ?_⟩
    cases i with
    | zero => simpa using h1
    | succ i => simpa using h4 i (by simpa using hi) (by simpa using hi')

def packA (sh : Option Nat) (l : List AV) : Option AV :=
  match sh, l with
  | none, [x] => some x
  | none, _ => none
  | some n, l => if l.length = n then some (.ag l) else none

def avCat (f : TypeId → DataW Unit → Option (List AV)) (cells : TypeId → Nat) : List (Nat × TypeId) → Nat → List (DataW Unit) → Option (List AV)
  | [], _, [] => some []
  | (o, t) :: fs, k, d :: ds =>
    if o = k then match f t d, avCat f cells fs (k + cells t) ds with
      | some l, some r => if l.length = cells t then some (l ++ r) else none
      | _, _ => none
    else none
  | _, _, _ => none

/-- The cells of a datum. -/
def avCells (P : Program) : Nat → TypeId → DataW Unit → Option (List AV)
  | 0, _, _ => none
  | n + 1, t, d =>
    match P.underlying t, d with
    | some .bool, .lit (.bool b) => some [.b b]
    | some (.int _), .lit (.int k x) => some [.i k x]
    | some .string, .lit (.string l) => some [.s (l.map (·.toNat))]
    | some (.pointer _), .nil => some [.p none]
    | some (.slice _), .nil => some [.nilsl]
    | some (.slice e), .slice (y :: ys) _ => match shapeOf P e, P.cellsOf e with
      | some sh, c + 1 => if shN sh = c + 1 then match mapOL (fun d => match avCells P n e d with | some l => packA sh l | none => none) (y :: ys) with
          | some xs => some [.tl true sh xs]
          | none => none
        else none
      | _, _ => none
    | some (.struct fs), .agg ps => match avCat (avCells P n) P.cellsOf (fs.toList.map fun f => (f.offset, f.type)) 0 ps with
      | some l => if l.length = P.cellsOf t then some l else none
      | none => none
    | some (.array k e), .agg ps => match avCat (avCells P n) P.cellsOf ((List.range k).map fun i => (i * P.cellsOf e, e)) 0 ps with
      | some l => if l.length = P.cellsOf t then some l else none
      | none => none
    | _, _ => none

section
variable {P : Program} {w : World}

theorem cells?_get {base : Nat} {a : Addr} {n : Nat} {cs : List Value} (h : w.cells? base a n = some cs) : cs.length = n ∧ ∀ i, i < n → w.cell? (a.add i) = cs[i]? := by
  unfold World.cells? at h
  split at h
  · exact ⟨by simpa using mapM_some_length h, fun i hi => mapM_some_get h i i (by simp [hi])⟩
  · cases h

theorem spot_none {a : Addr} {v : Value} (h : w.cell? a = some v) : a.spot = none ∧ a.block < w.heap.size := by
  unfold World.cell? at h
  split at h
  · rename_i hh
    split at h
    · cases h
    · rename_i hs
      refine ⟨by cases hx : a.spot with | none => rfl | some _ => simp [hx] at hs, ?_⟩
      exact (Array.getElem?_eq_some_iff.1 hh).1
  · cases h

theorem avCat_ok {f : TypeId → DataW Unit → Option (List AV)} {B' m : Nat} (ih : ∀ t cs d ps l, DataW.trod (fun _ => ()) P w 0 (fun _ => true) false m t cs = some (d, ps) → f t d = some l → RL w (fun _ => none) (fun b => w.heap.size ≤ b) B' l cs ∧ ∀ x ∈ l, conf none x = true) (cs : List Value) :
    ∀ (fs : List (Nat × TypeId)) (k : Nat) (xs : List (DataW Unit × List MemPlace)) (l : List AV), (∀ (i o : Nat) (t : TypeId), fs[i]? = some (o, t) → DataW.trod (fun _ => ()) P w 0 (fun _ => true) false m t ((cs.drop o).take (P.cellsOf t)) = xs[i]?) →
      avCat f P.cellsOf fs k (xs.map (·.1)) = some l → k + l.length = cs.length → RL w (fun _ => none) (fun b => w.heap.size ≤ b) B' l (cs.drop k) ∧ ∀ x ∈ l, conf none x = true
  | [], k, [], l, _, h, hk => by
    cases h
    rw [List.drop_eq_nil_of_le (by simp at hk; omega)]
    exact ⟨.nil, fun x hx => by cases hx⟩
  | [], k, x :: xs, l, _, h, hk => by simp [avCat] at h
  | (o, t) :: fs, k, [], l, _, h, hk => by simp [avCat] at h
  | (o, t) :: fs, k, x :: xs, l, hx, h, hk => by
    simp only [List.map_cons, avCat] at h
    split at h
    · rename_i ho
      subst ho
      split at h
      · rename_i l1 r1 h1 h2
        split at h <;> cases h
        rename_i hl1
        have h0 := hx 0 o t rfl
        simp only [List.getElem?_cons_zero] at h0
        obtain ⟨a1, a2⟩ := ih t _ x.1 x.2 l1 (by rw [h0]) h1
        have hr := avCat_ok ih cs fs (o + P.cellsOf t) xs r1 (fun i o' t' hi => by simpa using hx (i + 1) o' t' (by simpa using hi)) h2 (by rw [List.length_append] at hk; omega)
        refine ⟨?_, fun y hy => (List.mem_append.1 hy).elim (a2 y) (hr.2 y)⟩
        have hd := hr.1
        rw [← List.drop_drop] at hd
        have := a1.append hd
        rwa [List.take_append_drop] at this
      · cases h
    · cases h

theorem pack_conf {sh : Option Nat} {l : List AV} {x : AV} (h : packA sh l = some x) (hl : ∀ y ∈ l, conf none y = true) : conf sh x = true ∧ x.cells = l := by
  unfold packA at h
  split at h
  · cases h
    have := hl x (by simp)
    refine ⟨this, ?_⟩
    cases x <;> simp_all [conf, AV.cells]
  · cases h
  · split at h <;> cases h
    rename_i hn
    exact ⟨by simp [conf, hn], rfl⟩

theorem avCells_ok (B' : Nat) : ∀ (n fuel : Nat) (t : TypeId) (cs : List Value) (d : DataW Unit) (ps : List MemPlace) (l : List AV), DataW.trod (fun _ => ()) P w 0 (fun _ => true) false fuel t cs = some (d, ps) → avCells P n t d = some l →
    RL w (fun _ => none) (fun b => w.heap.size ≤ b) B' l cs ∧ ∀ x ∈ l, conf none x = true
  | 0, _, _, _, _, _, _, _, h => by cases h
  | n + 1, fuel, t, cs, d, ps, l, hd, h => by
    have ih := fun m t cs d ps l => avCells_ok B' n m t cs d ps l
    unfold avCells at h
    split at h
    · rename_i ht
      obtain ⟨b, rfl, hx⟩ := DataW.trod_bool ht hd
      cases h; cases hx
      exact ⟨.cons (.b _) .nil, fun x hx => by simp at hx; subst hx; rfl⟩
    · rename_i ht
      obtain ⟨b, rfl, hx, _⟩ := DataW.trod_int ht hd
      cases h; cases hx
      exact ⟨.cons (.i _ _) .nil, fun x hx => by simp at hx; subst hx; rfl⟩
    · rename_i ht
      obtain ⟨s, rfl, hx, _⟩ := DataW.trod_string ht hd
      cases h; cases hx
      have := R.s (w := w) (m := fun _ => none) (O := fun b => w.heap.size ≤ b) (B := B') (natsOf s) (natsOf_lt s)
      rw [strOf_natsOf] at this
      exact ⟨.cons this .nil, fun x hx => by simp at hx; subst hx; rfl⟩
    · rename_i ht
      rcases DataW.trod_pointer ht hd with ⟨rfl, _⟩ | ⟨_, _, _, _, _, _, hx, _⟩
      · cases h
        exact ⟨.cons .pn .nil, fun x hx => by simp at hx; subst hx; rfl⟩
      · cases hx
    · rename_i ht
      rcases DataW.trod_slice ht hd with ⟨rfl, _⟩ | ⟨_, _, _, _, _, _, _, _, hx, _⟩
      · cases h
        exact ⟨.cons .nilsl .nil, fun x hx => by simp at hx; subst hx; rfl⟩
      · cases hx
    · rename_i e y ys _ ht
      split at h <;> try (cases h; done)
      rename_i sh c hsh hc
      split at h <;> try (cases h; done)
      rename_i hshN
      split at h <;> cases h
      rename_i xs hxs
      obtain ⟨h1, h2⟩ := mapOL_len hxs
      rcases DataW.trod_slice ht hd with ⟨_, hx⟩ | ⟨a, len, cap, elems, rest, m, rfl, rfl, hx, _, hlc, hcm, hel, hget, _, _⟩
      · cases hx
      simp only [Prod.mk.injEq, DataW.slice.injEq] at hx
      obtain ⟨⟨hx1, _⟩, _⟩ := hx
      have hlen : xs.length = len := by rw [h1, hx1]; simpa using hel
      have each : ∀ i (hi : i < xs.length), ∃ us, w.cells? 0 (a.add (i * P.cellsOf e)) (P.cellsOf e) = some us ∧ RL w (fun _ => none) (fun b => w.heap.size ≤ b) B' (xs[i]).cells us ∧ conf sh xs[i] = true ∧ ∀ x ∈ (xs[i]).cells, conf none x = true := fun i hi => by
        have hg := hget i (by omega)
        have hi' : i < elems.length := by omega
        rw [List.getElem?_eq_getElem hi'] at hg
        simp only [Option.bind_eq_some_iff] at hg
        obtain ⟨us, hu, htr⟩ := hg
        have h3 := h2 i (by omega) hi
        have e1 : (y :: ys)[i]'(by omega) = (elems[i]).1 := by
          have : (y :: ys)[i]? = (elems.map (·.1))[i]? := by rw [hx1]
          rw [List.getElem?_eq_getElem (by omega), List.getElem?_eq_getElem (by simpa using hi'), Option.some.injEq] at this
          simpa using this
        rw [e1] at h3
        split at h3 <;> try (cases h3; done)
        rename_i l1 hl1
        obtain ⟨a1, a2⟩ := ih m e us _ _ l1 htr hl1
        obtain ⟨a3, a4⟩ := pack_conf h3 a2
        exact ⟨us, hu, by rw [a4]; exact a1, a3, by rw [a4]; exact a2⟩
      have hpos : 0 < xs.length := by rw [h1]; simp
      obtain ⟨us0, hu0, hr0, hc0, _⟩ := each 0 hpos
      obtain ⟨hlu, hcell⟩ := cells?_get hu0
      have hcc : P.cellsOf e = c + 1 := hc
      have h00 := hcell 0 (by omega)
      rw [List.getElem?_eq_getElem (by omega)] at h00
      simp only [Nat.zero_mul] at h00
      have hadd0 : (a.add 0).add 0 = a := rfl
      rw [hadd0] at h00
      obtain ⟨hsp, hblk⟩ := spot_none h00
      obtain ⟨blk, off, sp⟩ := a
      cases hsp
      refine ⟨.cons ?_ .nil, fun x hx => by simp at hx; subst hx; rfl⟩
      rw [← hlen]
      refine .tl (fun i j => (w.cell? ⟨blk, off + i * shN sh + j, none⟩).getD undef) (fun _ => ⟨by show ¬ w.heap.size ≤ blk; exact Nat.not_le.2 hblk, hblk, fun h => by cases h⟩) (fun i hi => (each i hi).choose_spec.2.2.1) (fun i hi j hj => ?_) (fun i hi j hj => ?_) (by omega) (fun v hv x hx => ?_)
      · obtain ⟨us, hu, hr, hcf, _⟩ := each i hi
        obtain ⟨hl, hg⟩ := cells?_get hu
        have hj' : j < P.cellsOf e := by rw [conf_len hcf] at hj; omega
        have := hg j hj'
        rw [add_mk, add_mk, List.getElem?_eq_getElem (by omega)] at this
        rw [hcc, ← hshN] at this
        rw [this]; rfl
      · obtain ⟨us, hu, hr, hcf, _⟩ := each i hi
        obtain ⟨hl, hg⟩ := cells?_get hu
        have hj' : j < P.cellsOf e := by rw [conf_len hcf] at hj; omega
        have := hg j hj'
        rw [add_mk, add_mk, List.getElem?_eq_getElem (by omega)] at this
        rw [hcc, ← hshN] at this
        rw [this]
        exact hr.2 j hj (by omega)
      · obtain ⟨i, hi, rfl⟩ := List.getElem_of_mem hv
        exact (each i hi).choose_spec.2.2.2 x hx
    · rename_i fs ps' ht
      split at h <;> try (cases h; done)
      rename_i l1 hl1
      split at h <;> cases h
      rename_i hlen
      obtain ⟨xs, m, rfl, hx, hcs, hxl, hget⟩ := DataW.trod_struct ht hd
      simp only [Prod.mk.injEq, DataW.agg.injEq] at hx
      obtain ⟨rfl, _⟩ := hx
      have := avCat_ok (B' := B') (m := m) (fun t cs d ps l => ih m t cs d ps l) cs _ 0 xs l (fun i o t' hi => by
        simp only [List.getElem?_map, Option.map_eq_some_iff, Prod.mk.injEq] at hi
        obtain ⟨f, hf, rfl, rfl⟩ := hi
        exact hget i f (by simpa using hf)) hl1 (by omega)
      simpa using this
    · rename_i k e ps' ht
      split at h <;> try (cases h; done)
      rename_i l1 hl1
      split at h <;> cases h
      rename_i hlen
      obtain ⟨xs, m, rfl, hx, hcs, hxl, hget⟩ := DataW.trod_array ht hd
      simp only [Prod.mk.injEq, DataW.agg.injEq] at hx
      obtain ⟨rfl, _⟩ := hx
      have := avCat_ok (B' := B') (m := m) (fun t cs d ps l => ih m t cs d ps l) cs _ 0 xs l (fun i o t' hi => by
        simp only [List.getElem?_map, Option.map_eq_some_iff, Prod.mk.injEq] at hi
        obtain ⟨j, hj, rfl, rfl⟩ := hi
        have hj2 := List.getElem?_eq_some_iff.1 hj
        obtain ⟨hj3, hj4⟩ := hj2
        simp at hj3 hj4
        subst hj4
        exact hget i hj3) hl1 (by omega)
      simpa using this
    · cases h

/-- A variable's value out of its cells: as it reads. -/
def avVar (P : Program) (n : Nat) (x : String × DataW Unit) : Option (Nat × AV) :=
  match P.globalNamed x.1 with
  | some g => match P.globals[g]? with
    | some gl => match shapeOf P gl.type, avCells P n gl.type x.2 with
      | some sh, some l => match packA sh l with
        | some v => some (g, v)
        | none => none
      | _, _ => none
    | none => none
  | none => none

noncomputable def lookG (l : List (Nat × AV)) (g : Nat) : Option AV := List.rec none (fun e _ ih => cond (Nat.beq e.1 g) (some e.2) ih) l
theorem lookG_mem {g : Nat} {v : AV} : ∀ {l : List (Nat × AV)}, lookG l g = some v → (g, v) ∈ l
  | [], h => by cases h
  | e :: l, h => by
    have h : cond (Nat.beq e.1 g) (some e.2) (lookG l g) = some v := h
    cases h1 : Nat.beq e.1 g with
    | false => rw [h1, cond_false] at h; exact List.mem_cons_of_mem _ (lookG_mem h)
    | true =>
      rw [h1, cond_true] at h; cases h
      have := Nat.eq_of_beq_eq_true h1
      subst this; exact List.mem_cons_self

theorem var?_heap {n : String} {g : Nat} {cs : Array Value} (hg : P.globalNamed n = some g) (h : w.var? P n = some cs) : ∃ t fz, w.heap[g]? = some (.cells cs t fz) := by
  unfold World.var? at h
  rw [hg] at h
  simp only [Option.bind_some] at h
  split at h <;> cases h
  exact ⟨_, _, by assumption⟩

theorem laidVars_mem : ∀ {laid : List (String × DataW Unit)} {ps : List MemPlace}, DataW.LaidVars P w laid ps → ∀ x ∈ laid, ∃ g t cs fuel p, P.globalNamed x.1 = some g ∧ (P.globals[g]?).map (·.type) = some t ∧ w.var? P x.1 = some cs ∧ DataW.trod (fun _ => ()) P w 0 (fun _ => true) false fuel t cs.toList = some (x.2, p)
  | [], _, _, x, hx => by cases hx
  | y :: laid, ps, hl, x, hx => by
    obtain ⟨g0, t0, cs0, f0, p0, q0, hg0, ht0, hv0, hd0, hrest, _⟩ := hl
    rcases List.mem_cons.1 hx with rfl | hx
    · exact ⟨g0, t0, cs0, f0, p0, hg0, ht0, hv0, hd0⟩
    · exact laidVars_mem hrest x hx

theorem avVar_ok {n : Nat} {x : String × DataW Unit} {g : Nat} {v : AV} (h1 : avVar P n x = some (g, v)) {g0 t0 f0 : Nat} {cs0 : Array Value} {p0 : List MemPlace} (hg0 : P.globalNamed x.1 = some g0) (ht0 : (P.globals[g0]?).map (·.type) = some t0)
    (hv0 : w.var? P x.1 = some cs0) (hd0 : DataW.trod (fun _ => ()) P w 0 (fun _ => true) false f0 t0 cs0.toList = some (x.2, p0)) (B' : Nat) :
    R w (fun _ => none) (fun b => w.heap.size ≤ b) B' (.tp true v) (.pointer (some ⟨g, 0, none⟩)) := by
  unfold avVar at h1
  rw [hg0] at h1
  simp only [] at h1
  cases hgl : P.globals[g0]? with
  | none => simp [hgl] at h1
  | some gl0 =>
    simp only [hgl] at h1 ht0
    simp only [Option.map_some, Option.some.injEq] at ht0
    subst ht0
    split at h1 <;> try (cases h1; done)
    rename_i sh l1 hs hl1
    split at h1 <;> cases h1
    rename_i hp
    obtain ⟨a1, a2⟩ := avCells_ok B' n f0 _ _ _ _ _ hd0 hl1
    obtain ⟨a3, a4⟩ := pack_conf hp a2
    obtain ⟨tt, fz, hh⟩ := var?_heap hg0 hv0
    have hlt : g < w.heap.size := (Array.getElem?_eq_some_iff.1 hh).1
    refine .tp (fun j => (cs0[j]?).getD undef) (by show ¬ w.heap.size ≤ g; omega) hlt (fun h => by cases h) (fun j hj => ?_) (fun j hj => ?_) (by rw [a4]; exact a2)
    · rw [a4] at hj
      have hj' : j < cs0.size := by have := a1.1; simp at this; omega
      unfold World.cell?
      rw [hh]
      simp [hj']
    · have hj2 := hj
      rw [a4] at hj2
      have hj' : j < cs0.size := by have := a1.1; simp at this; omega
      have := a1.2 j hj2 (by simpa using hj')
      simp only [a4]
      simpa [hj'] using this

theorem laid_globs {n : Nat} {laid : List (String × DataW Unit)} {ps : List MemPlace} (hl : DataW.LaidVars P w laid ps) : ∀ {L : List (String × DataW Unit)} {gl : List (Nat × AV)}, (∀ x ∈ L, x ∈ laid) → mapOL (avVar P n) L = some gl →
    ∀ g v, (g, v) ∈ gl → ∀ B', R w (fun _ => none) (fun b => w.heap.size ≤ b) B' (.tp true v) (.pointer (some ⟨g, 0, none⟩))
  | [], gl, _, h, g, v, hm => by cases h; cases hm
  | x :: L, gl, hL, h, g, v, hm => by
    unfold mapOL at h
    split at h <;> cases h
    rename_i y ys h1 h2
    rcases List.mem_cons.1 hm with rfl | hm
    · intro B'
      obtain ⟨g0, t0, cs0, f0, p0, hg0, ht0, hv0, hd0⟩ := laidVars_mem hl x (hL x (by simp))
      exact avVar_ok h1 hg0 ht0 hv0 hd0 B'
    · exact laid_globs hl (fun x hx => hL x (by simp [hx])) h2 g v hm

/-- THE LISTED VARIABLES ARE KNOWN: those of some names. -/
theorem globs_of_laid {env : Env} {laid : List (String × DataW Unit)} {n : Nat} {gl : List (Nat × AV)} (hl : laidMet P laid w) (names : List String) (h : mapOL (avVar P n) (laid.filter fun x => names.contains x.1) = some gl) (hg : env.glob = lookG gl) : Globs env w w.heap.size := by
  obtain ⟨ps, hl, _⟩ := hl
  intro g v hv B'
  rw [hg] at hv
  exact laid_globs hl (fun x hx => (List.mem_filter.1 hx).1) h g v (lookG_mem hv) B'
end
end Go.Lyc
