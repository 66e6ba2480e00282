/-
  From what is known of a call to a law's row: it returns true, and what was there is as it was. No conditions: small laws.
-/
import Derived.Test.YtbifkbdapfadfaaGreatDoorEng9
import Derived.ProofKit
import Derived.LaidMore
import Derived.Lay
import Derived.SevenTiedAt
namespace Go.Lyc
open Go.RowKit Go.ChangeShapes Go.WideShapes

theorem kept_of_heap {W W' : World} {may : MemPlace → Prop} (hk : ∀ b, b < W.heap.size → W'.heap[b]? = W.heap[b]?) (hos : W'.os = W.os) (hout : W'.output = W.output) : W.keptBut W' may := by
  refine ⟨hos, hout, fun i hi => ?_⟩
  rw [hk i hi]
  cases h : W.heap[i]? with
  | none => rfl
  | some o =>
    cases o with
    | cells c t fr => exact ⟨rfl, rfl, rfl, fun j _ => rfl⟩
    | map es clock => exact .inr ⟨rfl, rfl⟩
    | _ => rfl

/-- A law of plain arguments returns true: what it left is what its row says. -/
theorem post_true {H : Type} {enc : TypeId × Value → H} {P : Program} {f : Func} {s : ChangeSpec} {apart fresh handsOn : Bool} {W W' : World} {args : Array Value} {ds : List (DataW H)} {tb : TypeId}
    (hf : f.resultTypes = #[tb]) (hb : P.underlying tb = some .bool) (hv : s.vars = []) (hfn : s.fn H ds = { results := [.lit (.bool true)], args := ds })
    (hW : DataW.Whole enc P f.params.toList s.vars apart W args.toList ds [] []) (hargs : ∀ sp : Nat → Bool, DataW.TrodAll enc P W' 0 sp true f.params.toList args.toList ds [])
    (hk : ∀ b, b < W.heap.size → W'.heap[b]? = W.heap[b]?) (hos : W'.os = W.os) (hout : W'.output = W.output) : s.post enc P f apart fresh handsOn false W args (.bool true) W' := by
  refine ⟨ds, [], [], [], [], [], hW, ?_, ?_, ?_, kept_of_heap hk hos hout, fun h => by cases h⟩
  · rw [List.append_nil, hfn, hf]
    exact trodAll_mk1 (shut_bool hb _)
  · rw [List.append_nil, hfn]
    exact hargs _
  · rw [List.append_nil, hfn, hv]
    rfl

/-- THE CALL, FROM WHAT IS KNOWN OF IT. -/
theorem calls_true {H : Type} {enc : TypeId × Value → H} {P : Program} {env : Env} {f : Func} {s : ChangeSpec} {apart fresh handsOn : Bool} {W : World} {args : Array Value} {ds : List (DataW H)} {tb : TypeId} {g : Nat} {ar : List AV}
    (hS : ∀ B0, SpecEntry P env B0 g ar (.b true)) (hG : Globs env W W.heap.size) (ha : RL W (fun _ => none) (fun _ => False) W.heap.size ar args.toList)
    (hf : f.resultTypes = #[tb]) (hb : P.underlying tb = some .bool) (hv : s.vars = []) (hfn : s.fn H ds = { results := [.lit (.bool true)], args := ds })
    (hW : DataW.Whole enc P f.params.toList s.vars apart W args.toList ds [] []) (hargs : ∀ (W' : World) (sp : Nat → Bool), DataW.TrodAll enc P W' 0 sp true f.params.toList args.toList ds []) :
    Calls P g args W fun e W' => ∃ v, e = .returned v ∧ s.post enc P f apart fresh handsOn false W args v W' := by
  refine ((hS W.heap.size).calls (Nat.le_refl _) hG ha).mono fun e W' ⟨u, he, hR, hsz, hk, hos, _, hout⟩ => ?_
  cases hR
  exact ⟨_, he, post_true hf hb hv hfn hW (hargs W') hk hos hout⟩

theorem byte_um {w : World} {m : Nat → Option Nat} {O : Nat → Prop} {B d : Nat} {x : Int} (hx : (Lit.int .u8 x).wf = true) : R w m O B (.um .u8 d (x.toNat % d)) (.int .u8 x) := by
  have := bounds_u8 hx
  have e : Int.ofNat x.toNat = x := by show ((x.toNat : Nat) : Int) = x; omega
  have := R.um (w := w) (m := m) (O := O) (B := B) (k := .u8) (d := d) (j := x.toNat % d) (n := x.toNat) rfl (by omega)
  rwa [e] at this
theorem byte_lt {x : Int} (hx : (Lit.int .u8 x).wf = true) : x.toNat < 256 := by
  have := bounds_u8 hx
  omega
theorem str_R {w : World} {m : Nat → Option Nat} {O : Nat → Prop} {B : Nat} (s : ByteArray) : R w m O B (.s (natsOf s)) (.string s) := by
  have := R.s (w := w) (m := m) (O := O) (B := B) (natsOf s) (natsOf_lt s)
  rwa [strOf_natsOf] at this
/-- A string is one of some, or none of them. -/
theorem str_one {w : World} {m : Nat → Option Nat} {O : Nat → Prop} {B : Nat} (ex : List (List Nat)) (hex : ∀ l ∈ ex, ∀ c ∈ l, c < 256) (s : ByteArray) : (∃ l ∈ ex, R w m O B (.s l) (.string s)) ∨ R w m O B (.sx ex) (.string s) := by
  by_cases h : ∃ l ∈ ex, s = strOf l
  · obtain ⟨l, hl, rfl⟩ := h
    exact .inl ⟨l, hl, .s l (hex l hl)⟩
  · exact .inr (.sx fun e he hs => h ⟨e, he, hs⟩)
end Go.Lyc
