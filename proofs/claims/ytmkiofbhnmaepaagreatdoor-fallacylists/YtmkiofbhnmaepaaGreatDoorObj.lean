/-
  Calls whose results have objects, and calls that use such; two more bases. No conditions: definitions and laws.
-/
import Derived.Test.YtmkiofbhnmaepaaGreatDoorW2
set_option linter.all false
noncomputable section
namespace Go.Lyc.T
open Go.Lyc Go.RowKit Go.Proofs
variable [Tok] [TokOk]
set_option maxRecDepth 100000
set_option maxHeartbeats 0
/-- What is known of a call whose result has objects. -/
def ey (e : dh) : Prop := xv Tryz.prog base e
def vk : List dh → Prop
  | [] => True
  | e :: l => ey e ∧ vk l
theorem vk.mem : ∀ {l : List dh}, vk l → ∀ e ∈ l, ey e
  | [], _, e, he => by cases he
  | x :: l, h, e, he => by
    rcases dP.1 he with rfl | he
    · exact h.1
    · exact vk.mem h.2 e he
theorem dy (l : List ak) (au : cI l) (I : List dh) (aj : vk I) {e : ak} (af : runsTo (base.cw I) l 100000 e = true := by decide +kernel) : EOk e := fun cM => sR.entry (b := base.cw I) (iE.cw CA aj.mem) (fun e he => au.mem e he) af cM
theorem eH (l : List ak) (au : cI l) (I : List dh) (aj : vk I) (ids : List Nat) {e : dh} (af : objTo (base.cw I) l 100000 e ids = true := by decide +kernel) : ey e := xv.of (d2y (b := base.cw I) (iE.cw CA aj.mem) (fun e he => au.mem e he) af)
/-- The same without calls whose results have objects. -/
def d2z (i : Nat) : Nat := cond (Nat.beq (s7 i) 7) 0 (s7 i)
def baseZ : cv := { base with ext := d2z, pure := fun g => Nat.testBit 3440247923985113410228516667708975801165846204863373347667678087473260850725261492445979223764723946486776 g }
theorem baseZ_ok : iE Tryz.prog baseZ := iE.less CA rfl (fun g => by show cond (Nat.beq (s7 g) 7) 0 (s7 g) = 0 ∨ cond (Nat.beq (s7 g) 7) 0 (s7 g) = s7 g; cases Nat.beq (s7 g) 7 <;> simp) fun _ _ => rfl
theorem a2d (l : List ak) (au : cI l) {e : ak} (af : runsTo baseZ l 100000 e = true := by decide +kernel) : EOk e := fx.base (b := baseZ) (b' := base) rfl fun cM => sR.entry baseZ_ok (fun e he => fx.base (b := base) (b' := baseZ) rfl (au.mem e he)) af cM
theorem fB {e : ak} (af : runsTo baseZ [] 100000 e = true := by decide +kernel) : EOk e := a2d [] trivial af
/-- The same, where the free names are run. -/
def Dh : cv := { base with pure := fun g => Nat.testBit 3440247923985113410228516667708975801165846204863372964543792871001046178061754968311441262591933413587896 g }
theorem d2A : iE Tryz.prog Dh := iE.less CA rfl (fun g => .inr rfl) fun _ _ => rfl
theorem d2B (l : List ak) (au : cI l) (I : List dh) (aj : vk I) {e : ak} (af : runsTo (Dh.cw I) l 100000 e = true := by decide +kernel) : EOk e := fx.base (b := Dh.cw I) (b' := base) rfl fun cM => sR.entry (b := Dh.cw I) (iE.cw d2A fun e he => aj.mem e he) (fun e he => fx.base (b := base) (b' := Dh.cw I) rfl (au.mem e he)) af cM
theorem d2C {e eQ : ak} (h : EOk e) (he : e = eQ := by kernel_rfl) : EOk eQ := he ▸ h
theorem a2e {e : ak} (h : EOk e) {g : Nat} {aO : List AV} {r : AV} (he : e = (g, aO, r) := by kernel_rfl) : fx Tryz.prog base g aO r := fun cM => d2C h he cM
theorem bx {g : Nat} {c : bV} {p : Bool} (h1 : baseZ.funcs.get g = some c := by kernel_rfl) (h2 : baseZ.ext g = 0 := by kernel_rfl) (h3 : baseZ.pure g = p := by kernel_rfl) : baseZ.funcs.get g = some c ∧ baseZ.ext g = 0 ∧ baseZ.pure g = p := ⟨h1, h2, h3⟩
theorem cJ {g : Nat} (h2 : baseZ.ext g = 0 := by kernel_rfl) (h3 : baseZ.pure g = true := by kernel_rfl) : baseZ.ext g = 0 ∧ baseZ.pure g = true := ⟨h2, h3⟩
omit [TokOk] in
theorem cI.app : ∀ {l m : List ak}, cI l → cI m → cI (l ++ m)
  | [], _, _, h => h
  | _ :: _, _, h, h' => ⟨h.1, cI.app h.2 h'⟩
end Go.Lyc.T
