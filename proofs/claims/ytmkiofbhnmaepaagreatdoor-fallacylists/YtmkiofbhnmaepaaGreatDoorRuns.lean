/-
  The law, run: what its runs lean on. No conditions: definitions and closed facts.
-/
import Derived.Test.YtmkiofbhnmaepaaGreatDoorMemo14
import Derived.Test.YtmkiofbhnmaepaaGreatDoorMemoz2
set_option linter.all false
noncomputable section
namespace Go.Lyc.T
open Go.Lyc.C Go.Lyc Go.RowKit Go.Proofs
variable [Tok] [TokOk]
set_option maxRecDepth 1000000
set_option maxHeartbeats 0
def AH : List AV := [.fY zM, .s [99,111,110,115,101,113,117,101,110,116], .s [97,110,116,101,99,101,100,101,110,116], .s [99,111,110,118,101,114,115,101], .s [105,110,118,101,114,115,101], .s [100,105,115,106,117,110,99,116], .s [111,116,104,101,114], .s [101,120,99,108,117,115,105,118,101], .s [99,111,110,106,117,110,99,116], .s [109,111,114,103,97,110], .s [101,113,117,105,118,97,108,101,110,116], .s [99,111,110,116,114,97], .s [99,104,111,105,99,101], .s [100,111,117,98,108,101], .s [101,120,99,108,117,100,101,100], .s [112,101,105,114,99,101], .s [103,101,110,101,114,97,108], .s [105,110,115,116,97,110,99,101], .s [115,119,97,112], .s [119,105,116,110,101,115,115], .s [115,112,108,105,116], .s [105,109,112,111,114,116], .s [110,101,99,101,115,115,105,116,121], .s [112,111,115,115,105,98,108,101], .s [97,99,116,117,97,108], .s [97,103,97,105,110], .s [109,105,114,114,111,114], .s [101,105,116,104,101,114], .s [116,111,103,101,116,104,101,114], .s [102,111,114,101,118,101,114], .s [115,111,111,110], .s [98,101,103,117,110]]
theorem b6U : AH = nmA := by kernel_rfl
def dn (nm : AV) : ak := (s9, zN nm, .b true)
def b6V : List ak := [Jc,gG,qX,vw,As,Av,b1R,r9,b1S,Jd,Rl,b1U,b1V,Jf,b1W,Rn,b1Y,b1Z,b2a,b2d,b2e,b2h,b2j,b2m,b2n,Jh,b2p,b2t,b2v,b2x,b2y,b2A,b2D,b2F,Ji,Rq,Rr,b2G,b2H,b2J,b2M,b2O,b2P,b2Q,b2S,b2U]
theorem d4q : cI b6V := ⟨t348,t387,t388,t389,t390,t392,t393,t394,t396,t398,t399,t401,t403,t405,t406,t407,t410,t411,t412,t415,t416,t419,t421,t424,t426,t427,t429,t433,t435,t437,t438,t440,t443,t445,t446,t448,t449,t450,t451,t453,t456,t458,t459,t460,t462,t464,trivial⟩
def Tg : List dh := [fC]
theorem d4r : vk Tg := ⟨t106,trivial⟩
def dD : List ak := [(uN, [.ag l2], .b true), (zj, [.ag l2], .aK [.eN false 1, aC 0]), (zl, [.ag l2], .aK [.eN false 1, aC 0]), (G_, [.eN true 1, .eN true 1], .b true)]
def dE : List ak := [(uN, [.ag l2], .b true), (zj, [.ag l2], .aK [.J, aC 2]), (zl, [.ag l2], .aK [.J, aC 2])]
def Th : List ak := [(uN, [.ag l2], .b false)]
def dz (i : Nat) : AV := AH.getD i .J
theorem run (l : List ak) (au : cI l) (x : List ak) (hx : cI x) {e : ak} (af : runsTo (base.cw Tg) (l ++ (x ++ b6V)) 100000 e = true := by decide +kernel) : EOk e := dy _ (au.app (hx.app d4q)) Tg d4r af
end Go.Lyc.T
