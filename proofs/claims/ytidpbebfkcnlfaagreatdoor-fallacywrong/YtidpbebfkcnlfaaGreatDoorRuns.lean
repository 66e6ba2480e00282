/-
  The law, run: definitions. No conditions: definitions and small laws.
-/
import Derived.Test.YtidpbebfkcnlfaaGreatDoorLgs
set_option linter.all false
noncomputable section
namespace Go.Lyc.T
open Go.Lyc Go.RowKit Go.Proofs
variable [Tok] [TokOk]
set_option maxRecDepth 1000000
set_option maxHeartbeats 0
def pns : List (List Nat) := [[99, 111, 110, 115, 101, 113, 117, 101, 110, 116], [97, 110, 116, 101, 99, 101, 100, 101, 110, 116], [99, 111, 110, 118, 101, 114, 115, 101], [105, 110, 118, 101, 114, 115, 101], [100, 105, 115, 106, 117, 110, 99, 116], [111, 116, 104, 101, 114], [101, 120, 99, 108, 117, 115, 105, 118, 101], [99, 111, 110, 106, 117, 110, 99, 116], [109, 111, 114, 103, 97, 110], [101, 113, 117, 105, 118, 97, 108, 101, 110, 116], [99, 111, 110, 116, 114, 97], [99, 104, 111, 105, 99, 101], [100, 111, 117, 98, 108, 101], [101, 120, 99, 108, 117, 100, 101, 100], [112, 101, 105, 114, 99, 101], [103, 101, 110, 101, 114, 97, 108], [105, 110, 115, 116, 97, 110, 99, 101], [115, 119, 97, 112], [119, 105, 116, 110, 101, 115, 115], [115, 112, 108, 105, 116], [105, 109, 112, 111, 114, 116], [110, 101, 99, 101, 115, 115, 105, 116, 121], [112, 111, 115, 115, 105, 98, 108, 101], [97, 99, 116, 117, 97, 108], [97, 103, 97, 105, 110], [109, 105, 114, 114, 111, 114], [101, 105, 116, 104, 101, 114], [116, 111, 103, 101, 116, 104, 101, 114], [102, 111, 114, 101, 118, 101, 114], [115, 111, 111, 110], [98, 101, 103, 117, 110]]
def sxN : AV := .sx pns
def nmA : List AV := sxN :: pns.map AV.s
def tS : List (Nat × List AV × AV) := [e1, e3, e5, e12, e20, e97, e99, e101, e105, e109, e113, e119, e125, e129, e133, e137, e141, e143, e147, e151, e153]
def tP : List (Nat × List AV × AV) := [e493, e499, e503, e507, e510, e512, e514, e517, e523, e527, e531, e535, e538, e542, e546, e558, e588, e604, e612, e618, e621, e625, e627, e631, e635, e641, e647, e651, e655, e659, e660, e876]
theorem tS_ok : AllOk tS := ⟨t1, t3, t5, t12, t20, t97, t99, t101, t105, t109, t113, t119, t125, t129, t133, t137, t141, t143, t147, t151, t153, trivial⟩
theorem tP_ok : AllOk tP := ⟨t493, t499, t503, t507, t510, t512, t514, t517, t523, t527, t531, t535, t538, t542, t546, t558, t588, t604, t612, t618, t621, t625, t627, t631, t635, t641, t647, t651, t655, t659, t660, t876, trivial⟩
theorem AllOk.app : ∀ {l m : List (Nat × List AV × AV)}, AllOk l → AllOk m → AllOk (l ++ m)
 | [], _, _, h => h
 | _ :: _, _, h, h' => ⟨h.1, AllOk.app h.2 h'⟩
def lawA (w f : AV) (nm : AV) : List AV := [w, tokF, f, nm]
def lawAll (tab : List (Nat × List AV × AV)) (k j : Nat) : Bool := allB (fun nm => runsTo base (tab ++ (tP ++ tS)) 100000 (n_FallacyWrong, lawA (.um .u8 8 k) (.um .u8 6 j) nm, .b true)) nmA
theorem law_of {tab : List (Nat × List AV × AV)} {k j : Nat} (h : lawAll tab k j = true) (ht : AllOk tab) {nm : AV} (hn : nm ∈ nmA) : EOk (n_FallacyWrong, lawA (.um .u8 8 k) (.um .u8 6 j) nm, .b true) :=
 eok _ (ht.app (tP_ok.app tS_ok)) (allB_all h nm hn)
end Go.Lyc.T
