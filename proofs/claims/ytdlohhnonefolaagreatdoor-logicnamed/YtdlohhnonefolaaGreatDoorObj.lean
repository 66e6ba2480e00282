/-
  Calls whose results have objects, and calls that use such. No conditions: definitions and laws.
-/
import Derived.Test.YtdlohhnonefolaaGreatDoorW1
set_option linter.all false
noncomputable section
namespace Go.Lyc.T
open Go.Lyc Go.RowKit Go.Proofs
variable [Tok] [TokOk]
set_option maxRecDepth 100000
set_option maxHeartbeats 0
/-- What is known of a call whose result has objects. -/
def OOk (e : ObjE) : Prop := ObjOk Tryz.prog base e
def AllO : List ObjE → Prop
  | [] => True
  | e :: l => OOk e ∧ AllO l
theorem AllO.mem : ∀ {l : List ObjE}, AllO l → ∀ e ∈ l, OOk e
  | [], _, e, he => by cases he
  | x :: l, h, e, he => by
    rcases List.mem_cons.1 he with rfl | he
    · exact h.1
    · exact AllO.mem h.2 e he
theorem ok1 (l : List En) (hl : AllOk l) (o : List ObjE) (ho : AllO o) {e : En} (hr : runsTo (base.ob o) l 100000 e = true := by decide +kernel) : EOk e := fun B0 => TabOk.entry (b := base.ob o) (BaseOk.ob base_ok ho.mem) (fun e he => hl.mem e he) hr B0
theorem ok2 (l : List En) (hl : AllOk l) (o : List ObjE) (ho : AllO o) (ids : List Nat) {e : ObjE} (hr : objTo (base.ob o) l 100000 e ids = true := by decide +kernel) : OOk e := ObjOk.of (objTo_ok (b := base.ob o) (BaseOk.ob base_ok ho.mem) (fun e he => hl.mem e he) hr)
theorem toB (o : List ObjE) {g : Nat} {ar : List AV} {r : AV} (h : KnB Tryz.prog (base.ob o) g ar r) : EOk (g, ar, r) := fun B0 => h B0
theorem ofB (o : List ObjE) {g : Nat} {ar : List AV} {r : AV} (h : EOk (g, ar, r)) : KnB Tryz.prog (base.ob o) g ar r := fun B0 => h B0
end Go.Lyc.T
