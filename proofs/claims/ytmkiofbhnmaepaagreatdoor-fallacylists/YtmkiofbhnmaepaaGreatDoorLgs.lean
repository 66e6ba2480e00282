/-
  What is given to the law by runs. No conditions: definitions and laws.
-/
import Derived.Test.YtmkiofbhnmaepaaGreatDoorRun0
import Derived.Test.YtmkiofbhnmaepaaGreatDoorRun1
import Derived.Test.YtmkiofbhnmaepaaGreatDoorRun2
import Derived.Test.YtmkiofbhnmaepaaGreatDoorRun3
import Derived.KernelRfl
set_option linter.all false
noncomputable section
namespace Go.Lyc.T
open Go.Lyc.C Go.Lyc Go.RowKit Go.Proofs
variable [Tok] [TokOk]
set_option maxRecDepth 1000000
set_option maxHeartbeats 0
theorem fQ : xt baseZ := ⟨bx,bx,bx,bx,bx,bx,bx,bx,bx,bx,bx,bx,bx,bx,bx,bx,bx,bx,bx,bx,bx,bx,bx,bx,bx,bx,bx,bx,bx,bx,bx,bx,bx,bx,bx,bx,bx,bx,bx,bx,bx,bx,bx,bx,bx,bx,bx,bx,cJ,bx,bx,bx,bx,bx,bx,bx,cJ,cJ,bx,bx,bx,bx,bx,bx,bx,bx,bx,bx,bx,bx,bx,bx,bx,bx,bx,bx,bx,bx,bx,bx,bx,bx,bx,bx,bx,bx,bx,bx,bx,by kernel_rfl,fun _ => rfl,by kernel_rfl⟩
theorem d5s : [1, 2, 3, 4, 5].all (fun k => runsTo baseZ [] 100000 (uQ, [b5 k], cN (k3 k))) = true := by decide +kernel
theorem Ti {g : Nat} {aO : List AV} {r : AV} (h : fx Tryz.prog base g aO r) : fx Tryz.prog baseZ g aO r := fx.base rfl h
theorem gQ (n : Nat) : r2 Tryz.prog (baseZ.m5 n) := r2.of n (Ti (a2e d4p)) (Ti (a2e t387)) fun k h1 h2 => Ti (fB (fI.1 d5s k (by
  have : k = 1 ∨ k = 2 ∨ k = 3 ∨ k = 4 ∨ k = 5 := by omega
  rcases this with h | h | h | h | h <;> rw [h] <;> decide)))
theorem allM (h : cI Th) : ∀ nm ∈ AH, EOk (dn nm) := fun nm hn => dy (Th ++ [Jc]) (h.app ⟨t348, trivial⟩) [] trivial (fI.1 (show AH.all (fun nm => runsTo (base.cw []) (Th ++ [Jc]) 100000 (dn nm)) = true by decide +kernel) nm hn)
theorem d5t (h : cI dD) : cI (((List.range 32).map dz).map dn) := ⟨r0 h,r1 h,jJ h,km h,pU h,A_ h,NJ h,d4s h,d4t h,N0 h,d4u h,d4v h,d4w h,d4x h,d4y h,d4z h,d4A h,d4B h,d4C h,d4D h,d4E h,d4F h,d4G h,d4H h,d4I h,d4J h,d4K h,d4L h,d4M h,d4N h,d4O h,d4P h,trivial⟩
theorem d5u (h : cI dE) : cI (((List.range 32).map dz).map dn) := ⟨eC h,bn h,lQ h,sK h,d4Q h,d4R h,d4S h,d4T h,d4U h,d4V h,d4W h,d4X h,d4Y h,d4Z h,d5a h,d5b h,d5c h,d5d h,d5e h,d5f h,d5g h,d5h h,d5i h,d5j h,d5k h,d5l h,d5m h,d5n h,d5o h,d5p h,d5q h,d5r h,trivial⟩
theorem b6W : (List.range 32).map dz = AH := by kernel_rfl
theorem b6X {l : List AV} (h : cI (l.map dn)) (au : l = AH) : ∀ nm ∈ nmA, fx Tryz.prog base s9 (zN nm) (.b true) := fun nm hn => by
  rw [← b6U, ← au] at hn;exact h.mem _ (fq.2 ⟨nm, hn, rfl⟩)
theorem gL : OD Tryz.prog base := ⟨fun h nm hn => allM ⟨h, trivial⟩ nm (by rw [b6U]; exact hn), fun h1 h2 h3 => b6X (d5u ⟨h1, h2, h3, trivial⟩) b6W, fun h1 h2 h3 aN => b6X (d5t ⟨h1, h2, h3, aN, trivial⟩) b6W⟩
end Go.Lyc.T
