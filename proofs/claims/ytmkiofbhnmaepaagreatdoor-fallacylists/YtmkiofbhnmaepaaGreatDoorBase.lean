/-
  The code is the program's. No conditions: definitions and closed facts.
-/
import Derived.Test.YtmkiofbhnmaepaaGreatDoorCodes0
import Derived.Test.YtmkiofbhnmaepaaGreatDoorRows
import Derived.KernelRfl
import Derived.Shelf.Lays
noncomputable section
namespace Go.Lyc.T
open Go.Lyc Go.Proofs Tryz
set_option maxRecDepth 100000
set_option maxHeartbeats 4000000
theorem hn : Tryz.prog.funcs.toList.all (fun f => !(f.name == "runtime.NumGoroutine")) = true := by decide +kernel
def ME : o_ := ⟨fun g => match Tryz.prog.funcs[g]? with | some f => cfunc Tryz.prog f | none => none⟩
theorem c5B : ME.L0 (WO Tryz.prog) := by
  intro g cA h;simp only [ME] at h;split at h
  · next f e =>
    refine ⟨f, e, h, ?_⟩;have := fI.1 hn f (Array.mem_toList_iff.2 (U1 e));simpa using this
  · cases h
def c5C : Nat := 3440247923985113410228516667708975801165846204863373347667678087473260850725261492445979223764655227009976
def s7 (i : Nat) : Nat := cond (Nat.beq i 6) 7 (cond (Nat.beq i 36) 7 (cond (Nat.beq i 97) 9 (cond (Nat.beq i 337) 1 (cond (Nat.beq i 398) 2 (cond (Nat.beq i 200) 3 0)))))

def W2 : AV := (.ag [(.b false), (.b false), (.i .u8 0), (.i .i64 0), (.i .i64 0), (.b true), (.b true), (.i .u8 1), (.i .i64 4), (.i .i64 0), (.b true), (.b true), (.i .u8 0), (.i .i64 0), (.i .i64 0), (.b true), (.b true), (.i .u8 0), (.i .i64 0), (.i .i64 1), (.b true), (.b true), (.i .u8 0), (.i .i64 0), (.i .i64 2), (.b true), (.b true), (.i .u8 0), (.i .i64 0), (.i .i64 2), (.b true), (.b true), (.i .u8 0), (.i .i64 0), (.i .i64 2), (.b true), (.b true), (.i .u8 0), (.i .i64 0), (.i .i64 2), (.b true), (.b true), (.i .u8 2), (.i .i64 0), (.i .i64 1), (.b true), (.b true), (.i .u8 2), (.i .i64 0), (.i .i64 1), (.b true), (.b true), (.i .u8 0), (.i .i64 0), (.i .i64 1), (.b true), (.b true), (.i .u8 0), (.i .i64 0), (.i .i64 1), (.b true), (.b true), (.i .u8 0), (.i .i64 0), (.i .i64 1), (.b true), (.b true), (.i .u8 0), (.i .i64 0), (.i .i64 1), (.b true), (.b true), (.i .u8 0), (.i .i64 0), (.i .i64 2), (.b false), (.b true), (.i .u8 3), (.i .i64 0), (.i .i64 0), (.b false), (.b true), (.i .u8 3), (.i .i64 2), (.i .i64 0)])
def c5D : AV := (.ag [(.s [60, 45, 62]), (.i .u8 7), (.b false), (.s [45, 62]), (.i .u8 6), (.b true), (.s [117, 110, 116, 105, 108]), (.i .u8 14), (.b true), (.s [124]), (.i .u8 5), (.b false), (.s [38]), (.i .u8 4), (.b false)])
def c5E : AV := (.ag [(.i .u8 0), (.i .u8 0), (.i .u8 0), (.i .u8 0), (.i .u8 0), (.i .u8 0), (.i .u8 0), (.i .u8 0), (.i .u8 0), (.i .u8 1), (.i .u8 1), (.i .u8 1), (.i .u8 1), (.i .u8 1), (.i .u8 0), (.i .u8 0), (.i .u8 0), (.i .u8 0), (.i .u8 0), (.i .u8 0), (.i .u8 0), (.i .u8 0), (.i .u8 0), (.i .u8 0), (.i .u8 0), (.i .u8 0), (.i .u8 0), (.i .u8 0), (.i .u8 0), (.i .u8 0), (.i .u8 0), (.i .u8 0), (.i .u8 1), (.i .u8 0), (.i .u8 0), (.i .u8 0), (.i .u8 0), (.i .u8 0), (.i .u8 0), (.i .u8 0), (.i .u8 0), (.i .u8 0), (.i .u8 0), (.i .u8 0), (.i .u8 0), (.i .u8 0), (.i .u8 0), (.i .u8 0), (.i .u8 0), (.i .u8 0), (.i .u8 0), (.i .u8 0), (.i .u8 0), (.i .u8 0), (.i .u8 0), (.i .u8 0), (.i .u8 0), (.i .u8 0), (.i .u8 0), (.i .u8 0), (.i .u8 0), (.i .u8 0), (.i .u8 0), (.i .u8 0), (.i .u8 0), (.i .u8 0), (.i .u8 0), (.i .u8 0), (.i .u8 0), (.i .u8 0), (.i .u8 0), (.i .u8 0), (.i .u8 0), (.i .u8 0), (.i .u8 0), (.i .u8 0), (.i .u8 0), (.i .u8 0), (.i .u8 0), (.i .u8 0), (.i .u8 0), (.i .u8 0), (.i .u8 0), (.i .u8 0), (.i .u8 0), (.i .u8 0), (.i .u8 0), (.i .u8 0), (.i .u8 0), (.i .u8 0), (.i .u8 0), (.i .u8 0), (.i .u8 0), (.i .u8 0), (.i .u8 0), (.i .u8 0), (.i .u8 0), (.i .u8 0), (.i .u8 0), (.i .u8 0), (.i .u8 0), (.i .u8 0), (.i .u8 0), (.i .u8 0), (.i .u8 0), (.i .u8 0), (.i .u8 0), (.i .u8 0), (.i .u8 0), (.i .u8 0), (.i .u8 0), (.i .u8 0), (.i .u8 0), (.i .u8 0), (.i .u8 0), (.i .u8 0), (.i .u8 0), (.i .u8 0), (.i .u8 0), (.i .u8 0), (.i .u8 0), (.i .u8 0), (.i .u8 0), (.i .u8 0), (.i .u8 0), (.i .u8 0), (.i .u8 0), (.i .u8 0), (.i .u8 0), (.i .u8 0), (.i .u8 0), (.i .u8 0), (.i .u8 0), (.i .u8 0), (.i .u8 0), (.i .u8 0), (.i .u8 0), (.i .u8 0), (.i .u8 0), (.i .u8 0), (.i .u8 0), (.i .u8 0), (.i .u8 0), (.i .u8 0), (.i .u8 0), (.i .u8 0), (.i .u8 0), (.i .u8 0), (.i .u8 0), (.i .u8 0), (.i .u8 0), (.i .u8 0), (.i .u8 0), (.i .u8 0), (.i .u8 0), (.i .u8 0), (.i .u8 0), (.i .u8 0), (.i .u8 0), (.i .u8 0), (.i .u8 0), (.i .u8 0), (.i .u8 0), (.i .u8 0), (.i .u8 0), (.i .u8 0), (.i .u8 0), (.i .u8 0), (.i .u8 0), (.i .u8 0), (.i .u8 0), (.i .u8 0), (.i .u8 0), (.i .u8 0), (.i .u8 0), (.i .u8 0), (.i .u8 0), (.i .u8 0), (.i .u8 0), (.i .u8 0), (.i .u8 0), (.i .u8 0), (.i .u8 0), (.i .u8 0), (.i .u8 0), (.i .u8 0), (.i .u8 0), (.i .u8 0), (.i .u8 0), (.i .u8 0), (.i .u8 0), (.i .u8 0), (.i .u8 0), (.i .u8 0), (.i .u8 0), (.i .u8 0), (.i .u8 0), (.i .u8 0), (.i .u8 0), (.i .u8 0), (.i .u8 0), (.i .u8 0), (.i .u8 0), (.i .u8 0), (.i .u8 0), (.i .u8 0), (.i .u8 0), (.i .u8 0), (.i .u8 0), (.i .u8 0), (.i .u8 0), (.i .u8 0), (.i .u8 0), (.i .u8 0), (.i .u8 0), (.i .u8 0), (.i .u8 0), (.i .u8 0), (.i .u8 0), (.i .u8 0), (.i .u8 0), (.i .u8 0), (.i .u8 0), (.i .u8 0), (.i .u8 0), (.i .u8 0), (.i .u8 0), (.i .u8 0), (.i .u8 0), (.i .u8 0), (.i .u8 0), (.i .u8 0), (.i .u8 0), (.i .u8 0), (.i .u8 0), (.i .u8 0), (.i .u8 0), (.i .u8 0), (.i .u8 0), (.i .u8 0), (.i .u8 0), (.i .u8 0), (.i .u8 0), (.i .u8 0), (.i .u8 0), (.i .u8 0), (.i .u8 0), (.i .u8 0), (.i .u8 0), (.i .u8 0), (.i .u8 0), (.i .u8 0), (.i .u8 0), (.i .u8 0), (.i .u8 0), (.i .u8 0)])
def c5F : AV := (.ag [(.s [60, 45, 62]), (.s [45, 62]), (.s [91, 93]), (.s [60, 62]), (.s [40]), (.s [41]), (.s [44]), (.s [126]), (.s [38]), (.s [124]), (.s [47]), (.s [91]), (.s [93])])
def laid : List (String × DataW Unit) := Go.Proofs.YtmkiofbhnmaepaaGreatDoor.Rows.fallacyListsRow.laid
def laidNames : List String := ((laid.drop 5).take 4).map Prod.fst
def Yf : List (Nat × AV) := [(2, c5E), (0, W2), (7, c5F), (1, c5D)]
theorem globL_ok : mapOL (avVar Tryz.prog 12) (laid.filter fun x => laidNames.contains x.1) = some Yf := by kernel_rfl
def base : cv := { funcs := ME, jm := FX Yf, pure := fun g => Nat.testBit c5C g, aT := 0, ext := s7 }
open Go Go.Shelf in
def Yg : Ren := ⟨fun x => match x with | 190 => 97 | 125 => 153 | 258 => 152 | 128 => 226 | 129 => 227 | 302 => 217 | 303 => 218 | 304 => 219 | 305 => 220 | 306 => 221 | 307 => 222 | 308 => 223 | 309 => 224 | 310 => 225 | 333 => 294 | 329 => 295 | 330 => 296 | 334 => 297 | 335 => 298 | 336 => 299 | 344 => 351 | n => n, fun x => match x with | 31 => 42 | 46 => 98 | 51 => 22 | 53 => 307 | 183 => 298 | 182 => 297 | 131 => 303 | 218 => 362 | 222 => 366 | 228 => 402 | 229 => 290 | n => n, fun n => n⟩
open Go Go.Shelf in
theorem c5G : Lays.n190 Tryz.prog Yg where
  mixed := by kernel_rfl
  f125 := Tryz.func153.trans (by kernel_rfl)
  f128 := Tryz.func226.trans (by kernel_rfl)
  f129 := Tryz.func227.trans (by kernel_rfl)
  f190 := Tryz.func97.trans (by kernel_rfl)
  f258 := Tryz.func152.trans (by kernel_rfl)
  f302 := Tryz.func217.trans (by kernel_rfl)
  f303 := Tryz.func218.trans (by kernel_rfl)
  f304 := Tryz.func219.trans (by kernel_rfl)
  f305 := Tryz.func220.trans (by kernel_rfl)
  f306 := Tryz.func221.trans (by kernel_rfl)
  f307 := Tryz.func222.trans (by kernel_rfl)
  f308 := Tryz.func223.trans (by kernel_rfl)
  f309 := Tryz.func224.trans (by kernel_rfl)
  f310 := Tryz.func225.trans (by kernel_rfl)
  f329 := Tryz.func295.trans (by kernel_rfl)
  f330 := Tryz.func296.trans (by kernel_rfl)
  f333 := Tryz.func294.trans (by kernel_rfl)
  f334 := Tryz.func297.trans (by kernel_rfl)
  f335 := Tryz.func298.trans (by kernel_rfl)
  f336 := Tryz.func299.trans (by kernel_rfl)
  f344 := Tryz.func351.trans (by kernel_rfl)
  t0 := Tryz.underlying0
  a0 := Tryz.isAgg0
  z0 := Tryz.sizeOf0
  v0 := Tryz.zeroValue0
  t3 := Tryz.underlying3
  a3 := Tryz.isAgg3
  z3 := Tryz.sizeOf3
  v3 := Tryz.zeroValue3
  t4 := Tryz.underlying4
  a4 := Tryz.isAgg4
  z4 := Tryz.sizeOf4
  v4 := Tryz.zeroValue4
  t5 := Tryz.underlying5
  a5 := Tryz.isAgg5
  z5 := Tryz.sizeOf5
  v5 := Tryz.zeroValue5
  t9 := Tryz.underlying9
  a9 := Tryz.isAgg9
  z9 := Tryz.sizeOf9
  v9 := Tryz.zeroValue9
  t31 := Tryz.underlying42
  a31 := Tryz.isAgg42
  z31 := Tryz.sizeOf42
  v31 := Tryz.zeroValue42
  t46 := Tryz.underlying98
  a46 := Tryz.isAgg98
  z46 := Tryz.sizeOf98
  v46 := Tryz.zeroValue98
  t51 := Tryz.underlying22
  a51 := Tryz.isAgg22
  z51 := Tryz.sizeOf22
  v51 := Tryz.zeroValue22
  t53 := Tryz.underlying307
  a53 := Tryz.isAgg307
  z53 := Tryz.sizeOf307
  v53 := Tryz.zeroValue307
  t131 := Tryz.underlying303
  a131 := Tryz.isAgg303
  z131 := Tryz.sizeOf303
  v131 := Tryz.zeroValue303
  t182 := Tryz.underlying297
  a182 := Tryz.isAgg297
  z182 := Tryz.sizeOf297
  v182 := Tryz.zeroValue297
  t183 := Tryz.underlying298
  a183 := Tryz.isAgg298
  z183 := Tryz.sizeOf298
  v183 := Tryz.zeroValue298
  t218 := Tryz.underlying362
  a218 := Tryz.isAgg362
  z218 := Tryz.sizeOf362
  v218 := Tryz.zeroValue362
  t222 := Tryz.underlying366
  a222 := Tryz.isAgg366
  z222 := Tryz.sizeOf366
  v222 := Tryz.zeroValue366
  t228 := Tryz.underlying402
  a228 := Tryz.isAgg402
  z228 := Tryz.sizeOf402
  v228 := Tryz.zeroValue402
  t229 := Tryz.underlying290
  a229 := Tryz.isAgg290
  z229 := Tryz.sizeOf290
  v229 := Tryz.zeroValue290
theorem uJ : Lf Tryz.prog 97 := c4T (cD := Yg) c5G Tryz.func97 (c := match Tryz.f97.body with | some c => c | none => .skip) (by kernel_rfl) (by kernel_rfl)
variable [Tok] [TokOk]
theorem CA : iE Tryz.prog base where
  funcs := c5B
  rG := by kernel_rfl
  ext := ⟨⟨( fun g hg args v h w m O B us cs ha => by
    have hb : base.ext g = cond (Nat.beq g 6) 7 (cond (Nat.beq g 36) 7 (cond (Nat.beq g 97) 9 (cond (Nat.beq g 337) 1 (cond (Nat.beq g 398) 2 (cond (Nat.beq g 200) 3 0))))) := rfl;replace hg : base.ext g ≠ 0 := hg;replace h : extRow (base.ext g) args = some v := h;rw [hb] at hg h;cases cC : Nat.beq g 6 with
    | true =>
      rw [cC, cond_true] at h;cases (show (none : Option AV) = some v from h)
    | false =>
    rw [cC, cond_false] at hg h;cases gM : Nat.beq g 36 with
    | true =>
      rw [gM, cond_true] at h;cases (show (none : Option AV) = some v from h)
    | false =>
    rw [gM, cond_false] at hg h;cases fz : Nat.beq g 97 with
    | true =>
      rw [fz, cond_true] at h;cases (show (none : Option AV) = some v from h)
    | false =>
    rw [fz, cond_false] at hg h;cases h1 : Nat.beq g 337 with
    | true =>
      obtain rfl := eM h1;exact c4u Tryz.func337 (by kernel_rfl) (by kernel_rfl) (by kernel_rfl) (by kernel_rfl) args v h w m O B us cs ha
    | false =>
      rw [h1] at hg h;cases h2 : Nat.beq g 398 with
      | true =>
        obtain rfl := eM h2;exact c4v Tryz.func398 (by kernel_rfl) (by kernel_rfl) (by kernel_rfl) (by kernel_rfl) args v h w m O B us cs ha
      | false =>
        rw [h2] at hg h;cases h3 : Nat.beq g 200 with
        | true =>
          obtain rfl := eM h3;exact c4x Tryz.func200 (by kernel_rfl) (by kernel_rfl) (by kernel_rfl) (by kernel_rfl) args v h w m O B us cs ha
        | false => rw [h3] at hg; exact absurd rfl hg
    ), ⟨fun g hg => by
    have hb : base.ext g = cond (Nat.beq g 6) 7 (cond (Nat.beq g 36) 7 (cond (Nat.beq g 97) 9 (cond (Nat.beq g 337) 1 (cond (Nat.beq g 398) 2 (cond (Nat.beq g 200) 3 0))))) := rfl;replace hg : base.ext g = 8 := hg;rw [hb] at hg;revert hg;cases Nat.beq g 6 <;> cases Nat.beq g 36 <;> cases Nat.beq g 97 <;> cases Nat.beq g 337 <;> cases Nat.beq g 398 <;> cases Nat.beq g 200 <;> simp, fun g hg => by
    have hb : base.ext g = cond (Nat.beq g 6) 7 (cond (Nat.beq g 36) 7 (cond (Nat.beq g 97) 9 (cond (Nat.beq g 337) 1 (cond (Nat.beq g 398) 2 (cond (Nat.beq g 200) 3 0))))) := rfl;replace hg : base.ext g = 9 := hg;rw [hb] at hg;cases q : Nat.beq g 97 with
    | true =>
      obtain rfl := eM q;exact uJ
    | false =>
      rw [q] at hg;revert hg;cases Nat.beq g 6 <;> cases Nat.beq g 36 <;> cases Nat.beq g 337 <;> cases Nat.beq g 398 <;> cases Nat.beq g 200 <;> simp⟩⟩, fun _ _ _ _ h => by cases h⟩
/-- What is known of a call. -/
def EOk (e : Nat × List AV × AV) : Prop := ∀ cM, SpecEntry Tryz.prog (base.env []) cM e.1 e.2.1 e.2.2
def cI : List (Nat × List AV × AV) → Prop
  | [] => True
  | e :: l => EOk e ∧ cI l
omit [TokOk] in
theorem cI.mem : ∀ {l : List (Nat × List AV × AV)}, cI l → ∀ e ∈ l, EOk e
  | [], _, e, he => by cases he
  | x :: l, h, e, he => by
    rcases dP.1 he with rfl | he
    · exact h.1
    · exact cI.mem h.2 e he
theorem Yh (l : List (Nat × List AV × AV)) (au : cI l) {e : Nat × List AV × AV} (af : runsTo base l 100000 e = true) : EOk e := fun cM => sR.entry CA (fun e he => au.mem e he) af cM
theorem aF (l : List (Nat × List AV × AV)) (au : cI l) {e : Nat × List AV × AV} (af : runsTo base l 100000 e = true := by decide +kernel) : EOk e := Yh l au af
theorem bb {e : Nat × List AV × AV} (af : runsTo base [] 100000 e = true := by decide +kernel) : EOk e := Yh [] trivial af
abbrev ak := Nat × List AV × AV
end Go.Lyc.T
