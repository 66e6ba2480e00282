/-
  What is given to the law by runs. No conditions: definitions and laws.
-/
import Derived.Test.YtepnpmoabkhboaaGreatDoorRul0
import Derived.Test.YtepnpmoabkhboaaGreatDoorRul1
import Derived.Test.YtepnpmoabkhboaaGreatDoorRul2
import Derived.Test.YtepnpmoabkhboaaGreatDoorFul0
import Derived.Test.YtepnpmoabkhboaaGreatDoorFul1
import Derived.Test.YtepnpmoabkhboaaGreatDoorFul2
set_option linter.all false
noncomputable section
namespace Go.Lyc.T
open Go.Lyc.C Go.Lyc Go.RowKit Go.Proofs
variable [Tok] [TokOk]
set_option maxRecDepth 1000000
set_option maxHeartbeats 0
theorem c7o {e : aM} (h : aL e) {g : Nat} {aB : List AV} {r : AV} (he : e = (g, aB, r) := by kernel_rfl) : dd Tryz.prog base g aB r := λbN => gd h he bN
theorem c3q:Gt base:=⟨bj,bj,bj,bj,bj,bj,bj,ba,bj,bj,ba,ba,bj,bj,bj⟩
theorem c3r:R1 base:=⟨bj,bj,bj,bj,bj,bj,bj,bj,bj⟩
theorem na:LM base:=⟨bj,bj,bj,bj,bj,by kernel_rfl,bj,bj,bj,bj,bj,bj,bj,bj,bj,bj,bj,bj,bj,bj,by kernel_rfl⟩
theorem c3s:Si base:=⟨bj,bj,bj,bj,bj,bj,bj,bj,bj,bj,bj,bj,bj,bj,bj,bj,bj,bj,bj,bj,bj,bj,bj,bj,bj,bj,bj,bj,bj,bj,bj,bj,bj,bj,bj,bj,bj,bj,bj,bj,bj,bj,bj,bj,bj,bj,bj,bj,bj,bj,bj,bj,bj,bj,bj,bj,bj,ba,ba,by kernel_rfl,ba,by kernel_rfl,by kernel_rfl⟩
theorem c3t:GZ base:=⟨c3q,c3r,na,c3s,bj,ba,by kernel_rfl,by kernel_rfl⟩
theorem eF:x_ Tryz.prog base:=x_.of ⟨gd t0,gd t2,gd t4,gd t6,trivial⟩ (c7o t8) ⟨gd t1,gd t3,gd t5,gd t7,trivial⟩ ⟨gd t9,gd t10,gd t11,gd t12,gd t13,gd t14,gd t15,gd t16,gd t17,gd t18,gd t19,gd t20,gd t21,gd t22,gd t23,trivial⟩ (a3F t24) (a3F t25)
theorem c3u:Mi base m5:=⟨AK 4 c3c c3d,AK 4 c3e c3f,AK 4 c3g c3h,AK 4 c3i c3j,AK 8 c3k c3l,AK 8 c3m c3n,AK 64 c3o c3p⟩
theorem f_:a3w Tryz.prog base m5:=⟨KB,c3t,eF,λe he=>c3b.mem e he,c3u,bj,bj,ba,ba,ba,c7o t322⟩
theorem c3v:lW Tryz.prog base 0 (lC (.a6 [S9,(.b true)]) AQ):=lW.of I (by decide +kernel) (c7o t64) (c7o t98) (l:=[kl,km,kn,ko,kp,kq,kr,ks,kt,j3,ku,kv,kx,ky,lD]) (by kernel_rfl) ⟨cM,iB,gO,h9,iE,nY,vX,yw,yx,pX,yy,yz,yA,yB,AY,trivial⟩
theorem c3w:lW Tryz.prog base 1 (lC (.a6 [S_,(.b true)]) (.ad [(.s [74]),(.i .u32 254),(B 3),(B 0),(.aR true (some 6) [kl,km,kn,ko,kp,kq,kr,ks,kt,j3,ku,kv,kx,ky])])):=lW.of I (by decide +kernel) (c7o t101) (c7o t102) (l:=[kl,km,kn,ko,kp,kq,kr,ks,kt,j3,ku,kv,kx,ky]) (by kernel_rfl) ⟨cM,iB,gO,h9,iE,nY,vX,yw,yx,pX,yy,yz,yA,yB,trivial⟩
theorem c3x:lW Tryz.prog base 2 (lC (.a6 [Tb,(.b true)]) My):=lW.of I (by decide +kernel) (c7o t118) (c7o t131) (l:=[kl,km,kn,ko,kp,kq,kr,ks,kt,j3,ku,kv,kx,ky,lD,Mu,Mv,Mw,Mx]) (by kernel_rfl) ⟨cM,iB,gO,h9,iE,nY,vX,yw,yx,pX,yy,yz,yA,yB,AY,c2G,c2H,c2I,c2J,trivial⟩
theorem c3y:lW Tryz.prog base 3 (lC (.a6 [Tg,(.b true)]) C0):=lW.of I (by decide +kernel) (c7o t158) (c7o t179) (l:=[kl,km,kn,ko,kp,kq,kr,ks,kt,j3,ku,kv,kx,ky,lD,p6,p7,p8,p9,p_,qa]) (by kernel_rfl) ⟨cM,iB,gO,h9,iE,nY,vX,yw,yx,pX,yy,yz,yA,yB,AY,M7,M8,M9,M_,Na,Nb,trivial⟩
theorem c3z:lW Tryz.prog base 4 (lC (.a6 [Tn,(.b true)]) (.ad [(.s [84]),(.i .u32 3326),(B 4),(B 1),(.aR true (some 6) [kl,km,kn,ko,kp,kq,kr,ks,kt,j3,ku,kv,kx,ky,lD,p6,p7,p8,p9,p_,qa,sO])])):=lW.of I (by decide +kernel) (c7o t181) (c7o t183) (l:=[kl,km,kn,ko,kp,kq,kr,ks,kt,j3,ku,kv,kx,ky,lD,p6,p7,p8,p9,p_,qa,sO]) (by kernel_rfl) ⟨cM,iB,gO,h9,iE,nY,vX,yw,yx,pX,yy,yz,yA,yB,AY,M7,M8,M9,M_,Na,Nb,UD,trivial⟩
theorem c3A:lW Tryz.prog base 5 (lC (.a6 [To,(.b true)]) (.ad [(.s [83,52]),(.i .u32 3326),(B 4),(B 3),(.aR true (some 6) [kl,km,kn,ko,kp,kq,kr,ks,kt,j3,ku,kv,kx,ky,lD,p6,p7,p8,p9,p_,qa,sO,yr])])):=lW.of I (by decide +kernel) (c7o t187) (c7o t191) (l:=[kl,km,kn,ko,kp,kq,kr,ks,kt,j3,ku,kv,kx,ky,lD,p6,p7,p8,p9,p_,qa,sO,yr]) (by kernel_rfl) ⟨cM,iB,gO,h9,iE,nY,vX,yw,yx,pX,yy,yz,yA,yB,AY,M7,M8,M9,M_,Na,Nb,UD,a7p,trivial⟩
theorem c3B:lW Tryz.prog base 6 (lC (.a6 [Tp,(.b true)]) (.ad [(.s [83,53]),(.i .u32 3326),(B 4),(B 7),(.aR true (some 6) [kl,km,kn,ko,kp,kq,kr,ks,kt,j3,ku,kv,kx,ky,lD,p6,p7,p8,p9,p_,qa,sO,yr,Hc])])):=lW.of I (by decide +kernel) (c7o t195) (c7o t199) (l:=[kl,km,kn,ko,kp,kq,kr,ks,kt,j3,ku,kv,kx,ky,lD,p6,p7,p8,p9,p_,qa,sO,yr,Hc]) (by kernel_rfl) ⟨cM,iB,gO,h9,iE,nY,vX,yw,yx,pX,yy,yz,yA,yB,AY,M7,M8,M9,M_,Na,Nb,UD,a7p,c2K,trivial⟩
theorem c3C:lW Tryz.prog base 7 (lC (.a6 [Tv,(.b true)]) (.ad [(.s [76]),(.i .u32 28926),(B 5),(B 0),(.aR true (some 6) [kl,km,kn,ko,kp,kq,kr,ks,kt,j3,ku,kv,kx,ky,lD,Hf,Hg,Hh,Hi,Hj,Hk,Hl,Hm,Hn,Ho,Hp,Hq,Hr,Hs,Ht,Hu])])):=lW.of I (by decide +kernel) (c7o t243) (c7o t286) (l:=[kl,km,kn,ko,kp,kq,kr,ks,kt,j3,ku,kv,kx,ky,lD,Hf,Hg,Hh,Hi,Hj,Hk,Hl,Hm,Hn,Ho,Hp,Hq,Hr,Hs,Ht,Hu]) (by kernel_rfl) ⟨cM,iB,gO,h9,iE,nY,vX,yw,yx,pX,yy,yz,yA,yB,AY,c2L,c2M,c2N,c2O,c2P,c2Q,c2R,c2S,c2T,c2U,c2V,c2W,c2X,c2Y,c2Z,c3a,trivial⟩
theorem law_any {o : Option (List Nat)} (ho : ∀ c ∈ o.getD [], c < 256) (bb : Bool) (x : Nat) (ay : p5 (pOf (cond bb (builtF (o.getD [])).strip (builtF (o.getD []))))) : aL (QB, [ob o, .e3 .u8 8 (x % 8), .b bb], .b true) := by
  have : x % 8 = 0 ∨ x % 8 = 1 ∨ x % 8 = 2 ∨ x % 8 = 3 ∨ x % 8 = 4 ∨ x % 8 = 5 ∨ x % 8 = 6 ∨ x % 8 = 7 := by omega
  rcases this with h | h | h | h | h | h | h | h <;> rw [h]
  · exact yc f_ ho bb c3v ay
  · exact yc f_ ho bb c3w ay
  · exact yc f_ ho bb c3x ay
  · exact yc f_ ho bb c3y ay
  · exact yc f_ ho bb c3z ay
  · exact yc f_ ho bb c3A ay
  · exact yc f_ ho bb c3B ay
  · exact yc f_ ho bb c3C ay
end Go.Lyc.T
