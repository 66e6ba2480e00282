/-
  From what is known of a call to a law's row. No conditions: small laws.
-/
import Derived.Test.YtbifkbdapfadfaaGreatDoorHng9
import Derived.ProofKit
import Derived.LaidMore
import Derived.Lay
import Derived.SevenTiedAt
import Derived.Carry
import Derived.OpenShut
import Derived.ChangeSlices
set_option linter.all false
namespace Go.Lyc
open Go.RowKit Go.ChangeShapes Go.WideShapes
theorem kept_of_heap {W W' : World} {may : MemPlace → Prop} (hk : ∀ b, b < W.heap.size → W'.heap[b]? = W.heap[b]?) (hos : W'.os = W.os) (hout : W'.output = W.output) : W.keptBut W' may := by
 refine ⟨hos, hout, fun i hi => ?_⟩
 rw [hk i hi]
 cases h : W.heap[i]? with
 | none => rfl
 | some o =>
  cases o with
  | cells c t fr => exact ⟨rfl, rfl, rfl, fun j _ => rfl⟩
  | map es clock => exact .inr ⟨rfl, rfl⟩
  | _ => rfl
theorem post_true {H : Type} {enc : TypeId × Value → H} {P : Program} {f : Func} {s : ChangeSpec} {apart fresh handsOn : Bool} {W W' : World} {args : Array Value} {ds : List (DataW H)} {tb : TypeId}
  (hf : f.resultTypes = #[tb]) (hb : P.underlying tb = some .bool) (hv : s.vars = []) (hfn : s.fn H ds = { results := [.lit (.bool true)], args := ds })
  (hW : DataW.Whole enc P f.params.toList s.vars apart W args.toList ds [] []) (hargs : ∀ sp : Nat → Bool, DataW.TrodAll enc P W' 0 sp true f.params.toList args.toList ds [])
  (hk : ∀ b, b < W.heap.size → W'.heap[b]? = W.heap[b]?) (hos : W'.os = W.os) (hout : W'.output = W.output) : s.post enc P f apart fresh handsOn false W args (.bool true) W' := by
 refine ⟨ds, [], [], [], [], [], hW, ?_, ?_, ?_, kept_of_heap hk hos hout, fun h => by cases h⟩
 ·rw [List.append_nil, hfn, hf]
  exact trodAll_mk1 (shut_bool hb _)
 ·rw [List.append_nil, hfn]
  exact hargs _
 ·rw [List.append_nil, hfn, hv]
  rfl
theorem calls_true {H : Type} {enc : TypeId × Value → H} {P : Program} {env : Env} {f : Func} {s : ChangeSpec} {apart fresh handsOn : Bool} {W : World} {args : Array Value} {ds : List (DataW H)} {tb : TypeId} {g : Nat} {ar : List AV}
  (hS : ∀ B0, SpecEntry P env B0 g ar (.b true)) (hG : Globs env W W.heap.size) (ha : RL W (fun _ => none) (fun _ => False) W.heap.size ar args.toList)
  (hf : f.resultTypes = #[tb]) (hb : P.underlying tb = some .bool) (hv : s.vars = []) (hfn : s.fn H ds = { results := [.lit (.bool true)], args := ds })
  (hW : DataW.Whole enc P f.params.toList s.vars apart W args.toList ds [] []) (hargs : ∀ (W' : World) (sp : Nat → Bool), DataW.TrodAll enc P W' 0 sp true f.params.toList args.toList ds []) :
  Calls P g args W fun e W' => ∃ v, e = .returned v ∧ s.post enc P f apart fresh handsOn false W args v W' := by
 refine ((hS W.heap.size).calls (Nat.le_refl _) hG ha).mono fun e W' ⟨u, he, hR, hsz, hk, hos, _, hout⟩ => ?_
 cases hR
 exact ⟨_, he, post_true hf hb hv hfn hW (hargs W') hk hos hout⟩
theorem byte_um {w : World} {m : Nat → Option Nat} {O : Nat → Prop} {B d : Nat} {x : Int} (hx : (Lit.int .u8 x).wf = true) : R w m O B (.um .u8 d (x.toNat % d)) (.int .u8 x) := by
 have := bounds_u8 hx
 have e : Int.ofNat x.toNat = x := by show ((x.toNat : Nat) : Int) = x; omega
 have := R.um (w := w) (m := m) (O := O) (B := B) (k := .u8) (d := d) (j := x.toNat % d) (n := x.toNat) rfl (by omega)
 rwa [e] at this
theorem byte_lt {x : Int} (hx : (Lit.int .u8 x).wf = true) : x.toNat < 256 := by
 have := bounds_u8 hx
 omega
theorem str_R {w : World} {m : Nat → Option Nat} {O : Nat → Prop} {B : Nat} (s : ByteArray) : R w m O B (.s (natsOf s)) (.string s) := by
 have := R.s (w := w) (m := m) (O := O) (B := B) (natsOf s) (natsOf_lt s)
 rwa [strOf_natsOf] at this
theorem str_one {w : World} {m : Nat → Option Nat} {O : Nat → Prop} {B : Nat} (ex : List (List Nat)) (hex : ∀ l ∈ ex, ∀ c ∈ l, c < 256) (s : ByteArray) : (∃ l ∈ ex, R w m O B (.s l) (.string s)) ∨ R w m O B (.sx ex) (.string s) := by
 by_cases h : ∃ l ∈ ex, s = strOf l
 ·obtain ⟨l, hl, rfl⟩ := h
  exact .inl ⟨l, hl, .s l (hex l hl)⟩
 ·exact .inr (.sx fun e he hs => h ⟨e, he, hs⟩)
end Go.Lyc
namespace Go.Lyc
open Go Go.RowKit Go.ChangeShapes Go.WideShapes
theorem post_trueS {H : Type} {enc : TypeId × Value → H} {P : Program} {f : Func} {s : ChangeSpec} {apart fresh handsOn : Bool} {W W' : World} {args : Array Value} {ds : List (DataW H)} {tb : TypeId} {ps pa : List MemPlace}
  (hf : f.resultTypes = #[tb]) (hb : P.underlying tb = some .bool) (hv : s.vars = []) (hfn : s.fn H ds = { results := [.lit (.bool true)], args := ds })
  (hW : DataW.Whole enc P f.params.toList s.vars apart W args.toList ds [] ps) (hargs : DataW.TrodAll enc P W' 0 (fun b => decide (b < W.heap.size)) true f.params.toList args.toList ds pa)
  (hk : ∀ b, b < W.heap.size → W'.heap[b]? = W.heap[b]?) (hos : W'.os = W.os) (hout : W'.output = W.output) : s.post enc P f apart fresh handsOn false W args (.bool true) W' := by
 refine ⟨ds, [], ps, [], pa, [], hW, ?_, ?_, ?_, kept_of_heap hk hos hout, fun h => by cases h⟩
 ·rw [List.append_nil, hfn, hf]
  exact trodAll_mk1 (shut_bool hb _)
 ·rw [List.append_nil, hfn]
  exact hargs
 ·rw [List.append_nil, hfn, hv]
  rfl
theorem calls_trueS {H : Type} {enc : TypeId × Value → H} {P : Program} {env : Env} {f : Func} {s : ChangeSpec} {apart fresh handsOn : Bool} {W : World} {args : Array Value} {ds : List (DataW H)} {tb : TypeId} {g : Nat} {ar : List AV} {ps pa : List MemPlace}
  (hS : ∀ B0, SpecEntry P env B0 g ar (.b true)) (hG : Globs env W W.heap.size) (ha : RL W (fun _ => none) (fun _ => False) W.heap.size ar args.toList)
  (hf : f.resultTypes = #[tb]) (hb : P.underlying tb = some .bool) (hv : s.vars = []) (hfn : s.fn H ds = { results := [.lit (.bool true)], args := ds })
  (hW : DataW.Whole enc P f.params.toList s.vars apart W args.toList ds [] ps) (hargs : ∀ W' : World, Below W.heap.size W W' → DataW.TrodAll enc P W' 0 (fun b => decide (b < W.heap.size)) true f.params.toList args.toList ds pa) :
  Calls P g args W fun e W' => ∃ v, e = .returned v ∧ s.post enc P f apart fresh handsOn false W args v W' := by
 refine ((hS W.heap.size).calls (Nat.le_refl _) hG ha).mono fun e W' ⟨u, he, hR, hsz, hk, hos, htp, hout⟩ => ?_
 cases hR
 exact ⟨_, he, post_trueS hf hb hv hfn hW (hargs W' ⟨hos, htp, hout, hsz, hk⟩) hk hos hout⟩
theorem bytes_R {H : Type} {enc : TypeId × Value → H} {P : Program} {W : World} {t e : TypeId} {v : Value} {d : DataW H} {ps : List MemPlace} {b0 : Nat} (ht : P.underlying t = some (.slice e)) (he : P.underlying e = some (.int .u8)) (hc : P.cellsOf e = 1)
  (hval : Value.okWide P W .any b0 t v) (hd : DataW.Trod enc P W 0 (fun _ => true) true t v d ps) :
  ∃ o : Option (List Nat), R W (fun _ => none) (fun _ => False) W.heap.size (osl true none (o.map fun l => l.map fun c => AV.i .u8 (Int.ofNat c))) v ∧ ∀ c ∈ o.getD [], c < 256 := by
 obtain ⟨a, len, cap, rfl⟩ := okWide_slice ht hval
 obtain ⟨fuel, hf⟩ := hd
 rcases open_ints ht he hc hf with ⟨h0, _⟩ | ⟨a', len', cap', zs, h0, _, hl, hm, hz, _, hcell, hwf⟩
 ·have h0 : [Value.slice a len cap] = [.slice none 0 0] := h0
  injection h0 with h0 _
  rw [h0]
  exact ⟨none, .nilsl, by simp⟩
 ·have h0 : [Value.slice a len cap] = [.slice (some a') len' cap'] := h0
  injection h0 with h0 _
  injection h0 with h1 h2 h3
  subst h1 h2 h3
  have hval : a'.spot = none ∧ ∃ row cells, W.shape? a'.block = some (row, cells) := by
   have hv := hval
   simp only [Value.okWide, ht, Cell.okWide, Cell.ok] at hv
   obtain ⟨_, _, _, h, row, cells, h2, _⟩ := hv
   exact ⟨h, row, cells, h2⟩
  obtain ⟨hsp, row, cells, hshape⟩ := hval
  obtain ⟨blk, off, sp⟩ := a'
  have hsp : sp = none := hsp
  subst hsp
  have hzl : zs.length = cap := by simpa using hz
  have hb : ∀ i, i < zs.length → 0 ≤ zs.getD i 0 ∧ zs.getD i 0 ≤ 255 := fun i hi => by
   have hm : zs.getD i 0 ∈ zs := by
    rw [List.getD_eq_getElem?_getD, List.getElem?_eq_getElem hi]
    exact List.getElem_mem hi
   exact bounds_u8 (hwf _ hm)
  refine ⟨some ((zs.take len).map Int.toNat), ?_, fun c hc => ?_⟩
  ·have e : osl true none ((some ((zs.take len).map Int.toNat)).map fun l => l.map fun c => AV.i .u8 (Int.ofNat c)) = .tl true none (((zs.take len).map Int.toNat).map fun c => AV.i .u8 (Int.ofNat c)) := rfl
   rw [e]
   have hlen : (((zs.take len).map Int.toNat).map fun c => AV.i .u8 (Int.ofNat c)).length = len := by simp; omega
   have hget : ∀ i (h : i < (((zs.take len).map Int.toNat).map fun c => AV.i .u8 (Int.ofNat c)).length), (((zs.take len).map Int.toNat).map fun c => AV.i .u8 (Int.ofNat c))[i] = .i .u8 (zs.getD i 0) := fun i h => by
    rw [hlen] at h
    have := (hb i (by omega)).1
    simp only [List.getElem_map, List.getElem_take]
    congr 1
    rw [List.getD_eq_getElem?_getD, List.getElem?_eq_getElem (by omega)] at this ⊢
    show ((zs[i].toNat : Nat) : Int) = zs[i]
    exact Int.toNat_of_nonneg this
   have key := R.tl (w := W) (m := fun _ => none) (O := fun _ => False) (B := W.heap.size) (old := true) (sh := none) (xs := ((zs.take len).map Int.toNat).map fun c => AV.i .u8 (Int.ofNat c)) (blk := blk) (off := off) (cap' := cap) (fun i _ => .int .u8 (zs.getD i 0))
    (fun _ => ⟨fun h => h, ?_, fun h => by cases h⟩) (fun i h => by rw [hget i h]; rfl) (fun i h j hj => ?_) (fun i h j hj => ?_) (by rw [hlen]; exact hl) (fun v hv x hx => ?_)
   ·rwa [hlen] at key
   ·unfold World.shape? at hshape
    cases hh : W.heap[blk]? with
    | none => rw [hh] at hshape; cases hshape
    | some o => exact (Array.getElem?_eq_some_iff.1 hh).1
   ·rw [hlen] at h
    rw [hget i (by rw [hlen]; exact h)] at hj
    have hj : j < 1 := hj
    obtain rfl : j = 0 := by omega
    have := hcell i (by omega)
    rw [add_plain] at this
    show W.cell? ⟨blk, off + i * 1 + 0, none⟩ = _
    rw [Nat.mul_one, Nat.add_zero]; exact this
   ·have hg := hget i h
    generalize (((zs.take len).map Int.toNat).map fun c => AV.i .u8 (Int.ofNat c))[i] = y at hg hj ⊢
    subst hg
    have hj' : j < 1 := hj
    obtain rfl : j = 0 := by omega
    exact .i _ _
   ·obtain ⟨c, _, rfl⟩ := List.mem_map.1 hv
    have hx : x ∈ [AV.i .u8 (Int.ofNat c)] := hx
    rw [List.mem_singleton.1 hx]; rfl
  ·have hc : c ∈ (zs.take len).map Int.toNat := hc
   obtain ⟨z, hz, rfl⟩ := List.mem_map.1 hc
   have := bounds_u8 (hwf z (List.mem_of_mem_take hz))
   omega
end Go.Lyc
