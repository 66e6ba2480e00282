/-
  An abstract executor of the program's code, and that it is sound, part 2. No conditions: definitions and laws.
-/
import Derived.Test.YtiakhfkclbnpoaaGreatDoorEng1
import Derived.TacticsIn
import Derived.Scope
import Derived.RangeFuncRecord
import Derived.RecoverIn
import Derived.Lib.Bytealg
import Derived.OpenShut
import Derived.ProofKit
import Derived.LaidMore
import Derived.Lay
import Derived.SevenTiedAt
set_option linter.all false
noncomputable section
namespace Go.Lyc
def NJ:=@Nat.ble_eq
def A2:=@Bool.cond_eq_ite
def NK:=@List.mem_append_left
def VK:=@List.mem_append_right
def vi:=@Go.Oper.semAt_eq
def DF:=@Go.CallsIn.mono
def VL:=@Go.World.putObj_heap_other
def VM:=@Array.toList_setIfInBounds
def DG:=@List.replicate_succ
def q1:=@List.getElem?_eq_none
def NL:=@Array.toList_append
def NM:=@List.drop_eq_nil_of_le
def yQ:=@List.nil_append
def yR:=@Nat.lt_of_lt_of_le
def yS:=@Prod.mk.injEq
def iE:=@List.append_assoc
def VN:=@List.getElem?_cons_zero
def fL:=@List.mem_of_getElem?
def NN:=@List.mem_filter
def o6:=@List.mem_zipIdx_iff_getElem?
def yT:=@List.getD_eq_getElem?_getD
def fG:=@List.getElem?_map
def jd:=@List.getElem?_zipIdx
def NO:=@Bool.not_true
def NP:=@List.any_eq_true
def NQ:=@List.not_mem_nil
def gR:=@Nat.lt_trichotomy
def wT:=@Classical.byContradiction
def NR:=@List.eq_nil_iff_forall_not_mem
def VO:=@List.getElem?_reverse
def VP:=@List.getElem?_range
def NS:=@Nat.zero_add
def q2:=@List.isEmpty_iff
def yU:=@List.take_append_drop
def DH:=@Nat.zero_mul
set_option maxHeartbeats 0
section
variable [Tok]
open Go.RowKit
def HU{x:Option Operand}{bS:Option aJ}(h:opdO x=some bS):bS.isSome=x.isSome:=by
 cases x with
 |none=>cases h;rfl
 |some x=>
  simp only[opdO] at h;split at h<;>cases h;rfl
section
variable {P:Program}{env:Env}{J:ae}{w:World}{m:Nat->Option Nat}{B:Nat}{f:Nat}{al:a1 AV}{a:Act}{o:Oper}{cJ:AOp}{v:AV}{ai:ae}
def b1U(c:Ctx P env J w m B al a){t:TypeId}{aC:Array (Nat×Operand)}(ho:o.op= .build t aC)(ab:cop P o=some cJ)(h:opx f (evalA env al) J cJ=some (.val v ai)):fF P B f J w m v ai ((execOp a.eval o).run P w):=by
 simp only[cop,ho,eD,dU] at ab;obtain⟨HV,a6,ab⟩:=ab;simp only[execOp,ho];split at ab<;>try (cases ab;done)
 rename_i z;split at ab
 ·rename_i a8 hu;split at ab<;>try (cases ab;done)
  rename_i b1V;simp only[eD,dU,eU,cL] at ab;obtain⟨l,hl,rfl⟩:=ab;simp only[opx] at h;split at h<;>cases h;rename_i cs tI;refine fT c (b0C hu (b0Q b1V) a6 (aC:=l) ?_ tI);rw[uY];refine Dr (λp q iK=>?_) hl;split at iK<;>cases iK;rename_i off aa x h1 h2;exact⟨⟨aa,h1,rfl⟩,λv au=>c.ar h2 au⟩
 ·rename_i n e hu;simp only[eD,dU,eU,cL] at ab;obtain⟨aa,ao,l,hl,rfl⟩:=ab;simp only[opx] at h;split at h<;>cases h;rename_i cs tI;refine fT c (b0E hu ao a6 (aC:=l) ?_ tI);rw[uY];refine Dr (λp q iK=>?_) hl;split at iK<;>cases iK;rename_i x h2;exact⟨⟨rfl,rfl⟩,λv au=>c.ar h2 au⟩
 ·cases ab
def A3{t e:TypeId}{aa:Option Nat}(h:elemOf' P t=some (e,aa)):P.underlying t=some (.slice e)/\shapeOf P e=some aa:=by
 unfold elemOf' at h;split at h<;>try (cases h;done)
 rename_i c4 hu;split at h<;>cases h;rename_i ao;exact⟨hu,ao⟩
def b1W(c:Ctx P env J w m B al a){t:TypeId}{n:Nat}{aC:Array (Nat×Operand)}(ho:o.op= .buildSlice t n aC)(ab:cop P o=some cJ)(h:opx f (evalA env al) J cJ=some (.val v ai)):fF P B f J w m v ai ((execOp a.eval o).run P w):=by
 simp only[cop,ho,eD,dU] at ab;obtain⟨⟨e,aa⟩,he,z,a6,l,hl,ab⟩:=ab;split at ab<;>cases ab;rename_i gm;obtain⟨hu,ao⟩:=A3 he;simp only[opx] at h;split at h<;>cases h;rename_i cs tI;simp only[execOp,ho];refine q0 (b0G c.rel hu ao a6 gm.2 gm.1 ?_ tI);rw[uY];have:=Dr (g:=λ(x:Nat×Operand)=>(x.1,a.eval x.2)) (r:=λ(p:Nat×aJ) (q:Nat×Value)=>p.1=q.1/\∀v,evalA env al p.2=some v->ag w m (bq J m) B v q.2) (λp q iK=>by
  split at iK<;>cases iK;rename_i x h2;exact⟨rfl,λv au=>c.ar h2 au⟩) hl
 revert this;generalize aC.toList.map (λ(x:Nat×Operand)=>(x.1,a.eval x.2))=g1;clear tI hl
 induction l generalizing g1 with
 |nil=>cases g1<;>exact id
 |cons p l aH=>
  cases g1 with
  |nil=>exact id
  |cons q g1=>
   rintro⟨⟨h1,h2⟩,h3⟩;exact⟨⟨⟨h1,rfl⟩,h2⟩,aH g1 h3⟩
def VQ(c:Ctx P env J w m B al a){t:TypeId}{x k y:Operand}(ho:o.op= .mapUpdate t x k y\/o.op= .insert t x k y)(ab:cop P o=some cJ)(h:opx f (evalA env al) J cJ=some (.val v ai)):fF P B f J w m v ai ((execOp a.eval o).run P w):=by
 have e:execOp a.eval o=(do Instr.mapUpdate t (a.eval x) (a.eval k) (a.eval y);pure .skip:Sem Next):=by unfold execOp;rcases ho with ho|ho<;>rw[ho]
 have iD:∃i_ DI aa bS DJ eY,P.underlying t=some (.map i_ DI)/\keyOk P i_=some aa/\opdOf x=some bS/\opdOf k=some DJ/\opdOf y=some eY/\cJ= .ki aa bS DJ eY:=by
  unfold cop at ab;rcases ho with ho|ho<;>
  ·rw[ho] at ab;simp only at ab;split at ab<;>try (cases ab;done)
   rename_i i_ DI hu;simp only[eD,dU,eU,cL] at ab;obtain⟨aa,ao,bS,hx,DJ,ay,eY,hy,rfl⟩:=ab;exact⟨i_,DI,aa,bS,DJ,eY,hu,ao,hx,ay,hy,rfl⟩
 obtain⟨i_,DI,aa,bS,DJ,eY,hu,ao,hx,ay,hy,rfl⟩:=iD;rw[e];simp only[opx] at h;split at h<;>try (cases h;done)
 rename_i id km g_ aw VR sc;split at h<;>try (cases h;done)
 rename_i ep;split at h<;>try (cases h;done)
 rename_i es an hg;split at h<;>try (cases h;done)
 rename_i pX r_;obtain⟨aD,hm,mW⟩:=(c.ar hx aw).Hz;rw[mW];split at h<;>cases h
 ·rename_i qW NT;exact NF (Vt c.rel hu ao (by simpa [MD] using ep) hm hg (c.ar ay VR) (c.ar hy sc) r_ NT)
 ·rename_i NT;exact NF (Vt c.rel hu ao (by simpa [MD] using ep) hm hg (c.ar ay VR) (c.ar hy sc) r_ NT)
def b1X(c:Ctx P env J w m B al a){t:TypeId}{x:Operand}{i:Nat}(ho:o.op= .fieldAddr t x i)(ab:cop P o=some cJ)(h:opx f (evalA env al) J cJ=some (.val v ai)):fF P B f J w m v ai ((execOp a.eval o).run P w):=by
 simp only[cop,ho,eD,dU,eU,cL] at ab;obtain⟨⟨off,aa⟩,hf,bS,hx,rfl⟩:=ab;simp only[opx] at h;split at h<;>try (cases h;done)
 rename_i aw;split at h<;>cases h;rename_i au;simp only[execOp,ho];exact fT c (b0a hf (c.ar hx aw) au)
def b1Y(c:Ctx P env J w m B al a){t:TypeId}{x:Operand}{i:Nat}(ho:o.op= .field t x i)(ab:cop P o=some cJ)(h:opx f (evalA env al) J cJ=some (.val v ai)):fF P B f J w m v ai ((execOp a.eval o).run P w):=by
 simp only[cop,ho,eD,dU,eU,cL] at ab;obtain⟨⟨off,aa⟩,hf,bS,hx,rfl⟩:=ab;simp only[opx] at h;split at h<;>try (cases h;done)
 rename_i aw;split at h<;>cases h;rename_i au;simp only[execOp,ho];exact fT c (b0b hf (c.ar hx aw) au)
def b1Z(c:Ctx P env J w m B al a){t:TypeId}{x y:Operand}(ho:o.op= .indexAddr t x y)(ab:cop P o=some cJ)(h:opx f (evalA env al) J cJ=some (.val v ai)):fF P B f J w m v ai ((execOp a.eval o).run P w):=by
 simp only[cop,ho] at ab;simp only[execOp,ho];split at ab
 ·rename_i n e hu;simp only[eD,dU,eU,cL] at ab;obtain⟨aa,ao,bS,hx,eY,hy,rfl⟩:=ab;simp only[opx] at h;split at h<;>try (cases h;done)
  rename_i p j aw ax;split at h<;>try (cases h;done)
  rename_i NU wU;split at h<;>try (cases h;done)
  rename_i hlt;split at h<;>cases h;rename_i au;obtain⟨k,rfl⟩:=Dl wU;have yV:=(c.ar hy ax).mr;rw[yV];exact fT c (b0c hu ao (c.ar hx aw) (by simpa [MD] using hlt) au)
 ·rename_i e hu;simp only[eD,dU,eU,cL] at ab;obtain⟨aa,ao,bS,hx,eY,hy,rfl⟩:=ab;simp only[opx] at h;split at h<;>try (cases h;done)
  rename_i p j aw ax;split at h<;>try (cases h;done)
  rename_i NU wU;split at h<;>cases h;rename_i au;obtain⟨k,rfl⟩:=Dl wU;have yV:=(c.ar hy ax).mr;rw[yV];exact fT c (b0d hu ao (c.ar hx aw) au)
 ·cases ab
def b2a(c:Ctx P env J w m B al a){t:TypeId}{x y:Operand}(ho:o.op= .index t x y)(ab:cop P o=some cJ)(h:opx f (evalA env al) J cJ=some (.val v ai)):fF P B f J w m v ai ((execOp a.eval o).run P w):=by
 simp only[cop,ho] at ab;simp only[execOp,ho];split at ab
 ·rename_i n e hu;simp only[eD,dU,eU,cL] at ab;obtain⟨aa,ao,bS,hx,eY,hy,rfl⟩:=ab;simp only[opx] at h;split at h<;>try (cases h;done)
  rename_i cs j aw ax;split at h<;>try (cases h;done)
  rename_i NU wU;split at h<;>try (cases h;done)
  rename_i hlt;split at h<;>cases h;rename_i au;obtain⟨k,rfl⟩:=Dl wU;have yV:=(c.ar hy ax).mr;rw[yV];exact fT c (b0g hu ao (c.ar hx aw) (by simpa [MD] using hlt) au)
 ·rename_i hu;simp only[eD,dU,eU,cL] at ab;obtain⟨bS,hx,eY,hy,rfl⟩:=ab;simp only[opx] at h;split at h<;>try (cases h;done)
  rename_i l j aw ax;split at h<;>try (cases h;done)
  rename_i NU wU;split at h<;>cases h;rename_i oc au;obtain⟨k,rfl⟩:=Dl wU;have yV:=(c.ar hy ax).mr;rw[yV];exact fT c ⟨_,b0f hu (c.ar hx aw) au,.i _ _⟩
 ·cases ab
def b2b(c:Ctx P env J w m B al a){t:TypeId}{x y:Operand}{two:Bool}(ho:o.op= .lookup t x y two)(ab:cop P o=some cJ)(h:opx f (evalA env al) J cJ=some (.val v ai)):fF P B f J w m v ai ((execOp a.eval o).run P w):=by
 simp only[cop,ho] at ab;simp only[execOp,ho];split at ab<;>try (cases ab;done)
 rename_i i_ e hu;simp only[eD,dU,eU,cL] at ab;obtain⟨aa,ao,bS,hx,eY,hy,z,a6,rfl⟩:=ab;simp only[opx] at h;split at h<;>try (cases h;done)
 rename_i p j aw ax;split at h<;>cases h;rename_i au;exact fT c (b1g c.rel hu ao a6 two (c.ar hx aw) (c.ar hy ax) au)
def b2c(c:Ctx P env J w m B al a){t Nb:TypeId}{x:Operand}{two:Bool}(ho:o.op= .typeAssert x Nb t two)(ab:cop P o=some cJ)(h:opx f (evalA env al) J cJ=some (.val v ai)):fF P B f J w m v ai ((execOp a.eval o).run P w):=by
 simp only[cop,ho] at ab;simp only[execOp,ho];split at ab<;>try (cases ab;done)
 rename_i d a7 hd;simp only[eD,dU,eU,cL] at ab;obtain⟨bS,hx,z,a6,rfl⟩:=ab;simp only[opx] at h;split at h<;>try (cases h;done)
 rename_i p aw;split at h<;>cases h;rename_i au;exact fT c (b0w hd (λms e=>a7 ms e) a6 (c.ar hx aw) au)
def b2d(c:Ctx P env J w m B al a){x:Operand}{i:Nat}(ho:o.op= .extract x i)(ab:cop P o=some cJ)(h:opx f (evalA env al) J cJ=some (.val v ai)):fF P B f J w m v ai ((execOp a.eval o).run P w):=by
 simp only[cop,ho,eD,dU,eU,cL] at ab;obtain⟨bS,hx,rfl⟩:=ab;simp only[opx] at h;split at h<;>try (cases h;done)
 rename_i l aw;split at h<;>cases h;rename_i au;simp only[execOp,ho];exact fT c (b0h (c.ar hx aw) au)
def b2e{d:Nat}{x:Option Value}{n:Nat}(h:lZ d x n)(ao:x.isSome=true):∃k,x=some (.int k (Int.ofNat n)):=by
 cases h with
 |none=>simp at ao
 |some k n=>exact⟨k,rfl⟩
def b2f(c:Ctx P env J w m B al a){t:TypeId}{x:Operand}{cY hi gd:Option Operand}(ho:o.op= .slice t x cY hi gd)(ab:cop P o=some cJ)(h:opx f (evalA env al) J cJ=some (.val v ai)):fF P B f J w m v ai ((execOp a.eval o).run P w):=by
 simp only[cop,ho,eD,dU] at ab;obtain⟨cC,k5,VS,A4,am,yW,ab⟩:=ab;simp only[execOp,ho];split at ab
 ·-- C6 array behind a pointer
  rename_i n e hu;split at ab<;>try (cases ab;done)
  simp only[eD,dU,eU,cL] at ab;obtain⟨aa,ao,bS,hx,rfl⟩:=ab;have yX:gd=none:=by
   have:=HU yW;cases gd with|none=>rfl|some _=>simp at this
  subst yX;simp only[opx] at h;split at h<;>try (cases h;done)
  rename_i id off l hh aw hl pS;split at h<;>try (cases h;done)
  rename_i vj;split at h<;>try (cases h;done)
  rename_i cs hg;split at h<;>cases h;rename_i U9;simp only[C2] at vj;have h1:=pL vj.1;have h2:=pL vj.2;obtain⟨aD,hm,mW⟩:=(c.ar hx aw).wL;obtain⟨arr,el,bp,b2g,_,r4,_⟩:=c.rel.cells hm hg;rw[mW];exact fT c (b0m hu ao hm (k:=arr.size) (by unfold eK;rw[b2g]) (by have:=pL U9;omega) (c.qZ k5 hl) (c.qZ A4 pS) h1 h2)
 ·-- a slice
  rename_i e hu;split at ab<;>try (cases ab;done)
  rename_i aa ao;split at ab<;>try (cases ab;done)
  rename_i VT;simp only[eD,dU,eU,cL] at ab;obtain⟨bS,hx,rfl⟩:=ab;have aL:=HU yW;have a5:=HU A4;simp only[opx] at h;split at h<;>try (cases h;done)
  rename_i p aw;split at h<;>cases h;rename_i au;have hR:=c.ar hx aw;refine fT c ?_;unfold sliceA at au;split at au
  ·rename_i id off len hS cap;split at au<;>try (cases au;done)
   rename_i iA;split at au<;>try (cases au;done)
   rename_i l hh hl pS;split at au<;>try (cases au;done)
   rename_i vj;have h1:=pL vj;obtain⟨bx,bb,k3,b1,c9⟩:=b0n hu ao iA hR (c.qZ k5 hl) (c.qZ A4 pS) h1;split at au
   ·rename_i c7J;split at au<;>try (cases au;done)
    rename_i k ay;rw[Option.ite_none_right_eq_some] at au;obtain⟨gm,au⟩:=au;cases au;simp only[C2] at gm;have NV:gd.isSome=true:=by rw[<-aL];rfl
    have hb:=c.qZ yW (d:=0) (n:=k) ay;obtain⟨vb,NW⟩:=b2e hb (by simpa using NV);have b2h:hi.isSome=true:=by
     cases hi with
     |some _=>rfl
     |none=>exfalso;apply VT;exact⟨rfl,by cases VS with|none=>rfl|some _=>simp at a5⟩
    exact bx _ vb k NW (by simpa using b2h) (pL gm.1) (pL gm.2)
   ·have yX:gd=none:=by cases gd with|none=>rfl|some _=>simp at aL
    subst yX;split at au
    ·split at au<;>cases au;rename_i gm;exact bb _ I (pL gm)
    ·split at au
     ·cases au;rename_i gm;simp only[C2] at gm;exact k3 I (pL gm.1) (gb gm.2)
     ·split at au
      ·cases au;rename_i gm;simp only[C2] at gm;exact b1 I (pL gm.1) (pL gm.2)
      ·split at au<;>cases au;rename_i gm;simp only[C2] at gm;exact c9 I (gb gm.1) (gb gm.2)
  ·split at au<;>cases au;rename_i hl pS wV;have DK:a.eval x= .slice none 0 0:=by
    revert hR;generalize a.eval x=u;intro hR;cases hR;rfl
   rw[DK];exact⟨_,b0p hu ao (c.qZ k5 hl) (c.qZ A4 pS) (c.qZ yW wV) (λNV=>by
    cases hi with
    |some _=>rfl
    |none=>exfalso;apply VT;exact⟨by rw[aL];simpa using NV,by cases VS with|none=>rfl|some _=>simp at a5⟩),.af⟩
  ·split at au<;>try (cases au;done)
   rename_i iA;split at au<;>try (cases au;done)
   rename_i l hh hl pS;split at au<;>cases au;rename_i gm;simp only[C2] at gm;have yX:gd=none:=by cases gd with|none=>rfl|some _=>simp at aL
   subst yX;subst iA;exact b1D hu ao hR (c.qZ k5 hl) (c.qZ A4 pS) (pL gm.1) (pL gm.2)
  ·cases au
 ·-- a string
  rename_i hu;split at ab<;>try (cases ab;done)
  simp only[eD,dU,eU,cL] at ab;obtain⟨bS,hx,rfl⟩:=ab;have yX:gd=none:=by
   have:=HU yW;cases gd with|none=>rfl|some _=>simp at this
  subst yX;simp only[opx] at h;split at h<;>try (cases h;done)
  rename_i s aw;split at h<;>try (cases h;done)
  rename_i l hh hl pS;split at h<;>cases h;rename_i vj;simp only[C2] at vj;exact fT c (b0l hu (c.ar hx aw) (c.qZ k5 hl) (c.qZ A4 pS) (pL vj.1) (pL vj.2))
 ·cases ab
end
section
variable {P:Program}{env:Env}{J:ae}{w:World}{m:Nat->Option Nat}{B:Nat}{f:Nat}{al:a1 AV}{a:Act}{o:Oper}{cJ:AOp}{v:AV}{ai:ae}
def HW{b:Builtin}{xs:Array Operand}{lE:Array TypeId}(ho:o.op= .call {callee:=.builtin b,args:=xs,argTypes:=lE}):
  execOp a.eval o=builtin b lE o.type (xs.map fun| .const _=>true|_=>false) (xs.map a.eval):=by
 unfold execOp;rw[ho];rfl
def b2i{e:TypeId}{z:AV}{n:Nat}(a6:zeroOf P e=some z)(hn:z.cells.length=n):∃i wP,P.info? e=some i/\i.zero=some wP/\wP.cells.size=n:=by
 unfold zeroOf at a6;split at a6<;>try (cases a6;done)
 rename_i i hi;split at a6<;>try (cases a6;done)
 rename_i wP au;have:=(ag.ofValue (w:=(default:World)) (m:=λ_=>none) (O:=λ_=>False) (B:=0) a6).cells.1;exact⟨i,wP,hi,au,by simp at this;omega⟩
def b2j{t:TypeId}(h:isText P t=true):(∃c4,P.underlying t=some (.slice c4))\/P.underlying t=some .string:=by
 unfold isText at h;split at h
 ·exact .inl ⟨_,by assumption⟩
 ·exact .inr (by assumption)
 ·cases h
def b2k{w:World}{m:Nat->Option Nat}{O:Nat->Prop}{B:Nat}{u:Value}(h:ag w m O B .af u):u= .slice none 0 0:=by cases h;rfl
def b2l{t:TypeId}(h:isInt P t=true):∃k,P.underlying t=some (.int k):=by
 unfold isInt at h;split at h
 ·exact⟨_,by assumption⟩
 ·cases h
def HX{α:Type}{x:Array α}{p q:α}(h:x.toList=[p,q]):x= #[p,q]:=by
 apply T9;simpa using h
def vk{α:Type}{x:Array α}{p:α}(h:x.toList=[p]):x= #[p]:=by
 apply T9;simpa using h
def NX{α β:Type}(g:α->β)(x y:α):(#[x,y]:Array α).map g= #[g x,g y]:=by simp
def HY{α β:Type}(g:α->β)(x:α):(#[x]:Array α).map g= #[g x]:=by simp
def DL{w:World}{m:Nat->Option Nat}{O:Nat->Prop}{B:Nat}:ag w m O B ei (.tuple #[]):=.a0 I λi h=>by simp at h
def b2m(c:Ctx P env J w m B al a){b:Builtin}{xs:Array Operand}{lE:Array TypeId}(ho:o.op= .call {callee:=.builtin b,args:=xs,argTypes:=lE})(ab:cop P o=some cJ)(h:opx f (evalA env al) J cJ=some (.val v ai)):fF P B f J w m v ai ((execOp a.eval o).run P w):=by
 rw[HW ho];simp only[cop,ho] at ab;split at ab
 ·-- append
  rename_i s x t u dG sd;obtain rfl:=HX dG;rw[NX a.eval];obtain rfl:=HX sd;simp only[eD,dU] at ab;obtain⟨⟨e,aa⟩,he,i,hi,z,a6,ab⟩:=ab;split at ab
  ·rename_i gm;simp only[dU,eU,cL] at ab;obtain⟨as,ao,bS,hx,rfl⟩:=ab;obtain⟨hu,iA⟩:=A3 he;simp only[opx] at h;split at h<;>try (cases h;done)
   rename_i p3 DE b2n hC;split at h<;>cases h;rename_i b2o;obtain⟨gE,wP,dq,yN,wM⟩:=b2i a6 gm.2.2;rw[hi] at dq;cases dq;obtain⟨_,_,i2,r5,cz⟩:=lz iA w;rw[hi] at r5;cases r5;exact q0 (b0R c.rel hu hi cz yN wM gm.2.1 (b2j gm.1) (c.ar ao b2n) (c.ar hx hC) b2o)
  ·split at ab<;>try (cases ab;done)
   rename_i gm;simp only[dU,eU,cL] at ab;obtain⟨as,ao,bS,hx,rfl⟩:=ab;obtain⟨hu,iA⟩:=A3 he;obtain⟨e3,A5⟩:=b2l gm.1;simp only[opx] at h;split at h<;>try (cases h;done)
   ·cases aV:Nat.beq (AV.fP::z.cells).length (shN aa) with
    |false=>rw[aV] at h;cases h
    |true=>have nB:=gb aV;rw[CZ,gm.2.2.1] at nB;exact absurd nB.symm (Nat.ne_of_lt (lV _))
   ·rename_i bb q hC sc;cases aV:(Nat.beq (AV.fP::z.cells).length (Nat.succ (shN aa))&&(Nat.blt 0 q&&Nat.ble ((3*q+2000)*i.bytes) 281474976710656)) with
    |false=>rw[aV] at h;cases h
    |true=>
     rw[aV,cond_true] at h;cases h;simp only[C2] at aV;have aL:=b2k (c.ar ao hC);have a5:=(c.ar hx sc).mr;rw[aL,a5];exact q0 (b1s c.rel f hu A5 iA hi a6 gm.2.2.1 gm.2.1 gm.2.2.2 (by simpa only[MD] using aV.2.1) (pL aV.2.2))
 ·-- len
  rename_i x t dG sd;obtain rfl:=vk dG;rw[HY a.eval];obtain rfl:=vk sd;split at ab
  ·rename_i n e ht;cases ab;simp only[opx] at h;cases h;exact fT c ⟨_,b0W ht _,.i _ _⟩
  all_goals try (cases ab;done)
  all_goals
   rename_i ht;simp only[fs] at ab;obtain⟨bS,hx,rfl⟩:=ab;simp only[opx] at h;split at h<;>try (cases h;done)
   rename_i hC;split at h
   case h_2=>cases Dx h
   rename_i cP hn;cases h
  ·exact fT c ⟨_,Nq c.rel (.inr (.inl ⟨rfl,ht⟩)) (c.ar hx hC) hn,.i _ _⟩
  ·exact fT c ⟨_,Nq c.rel (.inl ⟨rfl,_,ht⟩) (c.ar hx hC) hn,.i _ _⟩
  ·exact fT c ⟨_,Nq c.rel (.inr (.inr ⟨rfl,_,_,ht⟩)) (c.ar hx hC) hn,.i _ _⟩
 ·-- cap
  rename_i x t dG sd;obtain rfl:=vk dG;rw[HY a.eval];obtain rfl:=vk sd;split at ab<;>try (cases ab;done)
  rename_i ht;simp only[fs] at ab;obtain⟨bS,hx,rfl⟩:=ab;simp only[opx] at h;split at h<;>try (cases h;done)
  rename_i hC;split at h<;>cases h;rename_i hn;exact fT c ⟨_,b0X ht (c.ar hx hC) hn,.i _ _⟩
 ·-- copy
  split at ab<;>try (cases ab;done)
  rename_i x t dG sd _ e aa he;obtain rfl:=vk dG;rw[HY a.eval];obtain rfl:=vk sd;simp only[eD,dU] at ab;obtain⟨z,a6,ab⟩:=ab;split at ab<;>try (cases ab;done)
  simp only[dU,eU,cL] at ab;obtain⟨bS,hx,rfl⟩:=ab;obtain⟨hu,iA⟩:=A3 he;obtain⟨eP,iJ,k0,mZ⟩:=r6 a6 w;simp only[opx] at h;split at h<;>try (cases h;done)
  ·rename_i hC _;cases h;have hR:=c.ar hx hC;generalize a.eval x=u at hR ⊢;cases hR;exact fT c ⟨_,by simp[Builtin.clear_,run_underlying hu],DL⟩
  ·rename_i id off len hS HZ b2p hC yN;have b2q:b2p=z.cells:=by cases yN;rfl
   subst b2q;split at h<;>try (cases h;done)
   rename_i ep hg;split at h<;>cases h;rename_i bD cR;have hR:=c.ar hx hC;generalize a.eval x=u at hR ⊢;cases hR with
   |al hm hlen n6 hn mU=>
   have DC:=(k0 w m (bq J m) B).cells;have iT:=AM DC (len+1);have b2r:f<=id:=Nat.le_of_not_lt λh=>by rw[show Nat.blt id f=true from iR h] at ep;cases ep
   obtain⟨av,aL,a5,cy⟩:=M7 (f:=f) c.rel b2r hm hg cR iT (AN mZ (len+1));refine q0 ⟨_,av,m,?_,DL,a5,cy⟩;have hh:(Builtin.zeroCells eP.cells (len+1)).toList=(List.range ((len+1)*eP.cells.toList.length)).map λi=>eP.cells.toList[i%eP.cells.toList.length]! :=by
    simp only[Builtin.zeroCells,uY,yo,dD];exact mj λi _=>by simp only[getElem!_def,C0]
   rw[<-hh] at aL;simp[Builtin.clear_,run_underlying hu,iJ,aL]
  ·rename_i hC _;cases h;have hR:=c.ar hx hC;generalize a.eval x=u at hR ⊢;cases hR;exact fT c ⟨_,by simp[Builtin.clear_,run_underlying hu],DL⟩
  ·rename_i hC _;cases h;have hR:=c.ar hx hC;generalize a.eval x=u at hR ⊢;cases hR
   ·exact fT c ⟨_,by simp[Builtin.clear_,run_underlying hu],DL⟩
   ·exact fT c ⟨_,by simp[Builtin.clear_,run_underlying hu],DL⟩
 ·rename_i x y dG;obtain rfl:=HX dG;rw[NX a.eval];simp only[eD,dU,eU,cL] at ab;obtain⟨bS,hx,eY,hy,rfl⟩:=ab;simp only[opx] at h;split at h<;>try (cases h;done)
  rename_i k n l q hC sc;split at h<;>cases h;rename_i mu;subst mu;have:=(Vk (P:=P) (w:=w) (c.ar hx hC) (c.ar hy sc) o.type lE).1;exact fT c ⟨_,this,.i _ _⟩
 ·rename_i x y dG;obtain rfl:=HX dG;rw[NX a.eval];simp only[eD,dU,eU,cL] at ab;obtain⟨bS,hx,eY,hy,rfl⟩:=ab;simp only[opx] at h;split at h<;>try (cases h;done)
  rename_i k n l q hC sc;split at h<;>cases h;rename_i mu;subst mu;have:=(Vk (P:=P) (w:=w) (c.ar hx hC) (c.ar hy sc) o.type lE).2;exact fT c ⟨_,this,.i _ _⟩
 ·cases ab;simp[opx] at h
 ·simp only[fs] at ab;obtain⟨bS,hx,rfl⟩:=ab;simp only[opx] at h;split at h<;>cases h
 ·cases ab
def b2s(c:Ctx P env J w m B al a){t:TypeId}{x y:Operand}(ho:o.op= .makeSlice t x y)(ab:cop P o=some cJ)(h:opx f (evalA env al) J cJ=some (.val v ai)):fF P B f J w m v ai ((execOp a.eval o).run P w):=by
 simp only[cop,ho,eD,dU] at ab;obtain⟨⟨e,aa⟩,he,z,a6,i,hi,ab⟩:=ab;split at ab<;>try (cases ab;done)
 rename_i wM;simp only[dU,eU,cL] at ab;obtain⟨bS,hx,eY,hy,rfl⟩:=ab;obtain⟨hu,ao⟩:=A3 he;simp only[opx] at h;split at h<;>try (cases h;done)
 ·rename_i bx n bb q hC sc;cases aV:(Nat.beq z.cells.length (shN aa)&&(Nat.ble n q&&(Nat.ble (i.bytes*q) 281474976710656&&Nat.ble q 281474976710656))) with
  |false=>rw[aV] at h;cases h
  |true=>
   rw[aV,cond_true] at h;cases h;simp only[C2,NJ] at aV;have aL:=(c.ar hx hC).mr;have a5:=(c.ar hy sc).mr;simp only[execOp,ho,aL,a5];exact q0 (b1p c.rel f hu ao hi a6 wM aV.2.1 aV.2.2.1 aV.2.2.2)
 ·rename_i bb q hC sc;cases aV:Nat.beq z.cells.length (Nat.succ (shN aa)) with
  |false=>rw[aV] at h;cases h
  |true=>have nB:=gb aV;rw[wM] at nB;exact absurd nB (Nat.ne_of_lt (lV _))
def b2t(c:Ctx P env J w m B al a){t:TypeId}{x:Operand}(ho:o.op= .range t x)(ab:cop P o=some cJ)(h:opx f (evalA env al) J cJ=some (.val v ai)):fF P B f J w m v ai ((execOp a.eval o).run P w):=by
 simp only[cop,ho] at ab;split at ab<;>try (cases ab;done)
 rename_i i_ DI hu;simp only[fs] at ab;obtain⟨bS,hx,rfl⟩:=ab;simp only[opx] at h;simp only[execOp,ho];split at h<;>try (cases h;done)
 ·rename_i au;cases h;exact q0 (Vz c.rel f hu (c.ar hx au) I)
 ·rename_i id au;split at h<;>cases h;rename_i es an hg;exact q0 (Vz c.rel f hu (c.ar hx au) ⟨_,_,hg,rfl⟩)
def b2u(c:Ctx P env J w m B al a){x:Operand}(ho:o.op= .next x false)(ab:cop P o=some cJ)(h:opx f (evalA env al) J cJ=some (.val v ai)):fF P B f J w m v ai ((execOp a.eval o).run P w):=by
 simp only[cop,ho,fs] at ab;obtain⟨bS,hx,rfl⟩:=ab;simp only[opx] at h;simp only[execOp,ho];split at h<;>try (cases h;done)
 rename_i it au;obtain⟨aD,hm,mz⟩:=(c.ar hx au).wL;rw[mz];split at h<;>try (cases h;done)
 rename_i ep;have pW:f<=it:=by simpa [MD] using ep
 split at h<;>try (cases h;done)
 ·rename_i since seen g7 hg;cases h;exact fT c ⟨_,b1C c.rel hm hg o.type,ag.u9 (bQ.cons (.b false) bQ.nil)⟩
 ·rename_i id since seen g7 hg;split at h<;>try (cases h;done)
  rename_i es an k4;cases aV:(Nat.beq an since&&Nat.beq g7 since&&cD (λ(e:AV×AV×Nat)=>Nat.blt e.2.2 since) es) with
  |false=>rw[aV] at h;cases h
  |true=>
   rw[aV,cond_true] at h;simp only[C2,tn] at aV;obtain⟨⟨rfl,rfl⟩,hall⟩:=aV;split at h<;>cases h;rename_i DK;rcases VC (f:=f) c.rel pW hm hg k4 (λe he=>by have:=n8 hall e he;simpa [MD] using this) o.type with⟨_,h2⟩|⟨e,he,_⟩
   ·exact fT c ⟨_,h2,ag.u9 (bQ.cons (.b false) bQ.nil)⟩
   ·rw[DK] at he;cases he
def b2v(c:Ctx P env J w m B al a){x:Operand}(ho:o.op= .entry x)(ab:cop P o=some cJ)(h:opx f (evalA env al) J cJ=some (.val v ai)):fF P B f J w m v ai ((execOp a.eval o).run P w):=by
 simp only[cop,ho,fs] at ab;obtain⟨bS,hx,rfl⟩:=ab;simp only[opx] at h;simp only[execOp,ho];split at h<;>try (cases h;done)
 rename_i it au;obtain⟨aD,hm,mz⟩:=(c.ar hx au).wL;rw[mz];split at h<;>try (cases h;done)
 rename_i id since seen g7 hg;split at h<;>try (cases h;done)
 rename_i es an k4;cases aV:Nat.beq an g7 with
 |false=>rw[aV] at h;cases h
 |true=>
  rw[aV,cond_true] at h;obtain rfl:=gb aV;split at h<;>try (cases h;done)
  rename_i pY hl;split at h<;>cases h;rename_i e he;exact fT c (b1B c.rel hm hg k4 hl he)
def ag.b2w{w:World}{m:Nat->Option Nat}{O:Nat->Prop}{B:Nat}{ex:List (List Nat)}{u:Value}(h:ag w m O B (.ic ex) u):∃s,u= .string s:=by cases h;exact⟨_,rfl⟩
def VU{k:Nat}{bS:aJ}(ab:cop P o=some (.len k bS)):∃x t as lE,o.op= .call {callee:=.builtin .len,args:=as,argTypes:=lE}/\as.toList=[x]/\lE.toList=[t]/\opdOf x=some bS/\(k=0->P.underlying t=some .string):=by
 unfold cop at ab;split at ab
 all_goals first
  |(cases ab;done)
  |(
    exfalso
    (repeat' first
     |(cases ab;done)
     |(simp only[fs,reduceCtorEq,and_false,exists_false] at ab;done)
     |(simp only[eD,dU,eU,cL,reduceCtorEq,and_false,exists_false] at ab;done)
     |split at ab
     |(obtain⟨_,_,ab⟩:=ab)
     |(simp only[eD,dU,eU,cL] at ab))
    done)
  |(
    rename_i ho;split at ab
    all_goals first
     |(cases ab;done)
     |(
      exfalso
      (repeat' first
       |(cases ab;done)
       |(simp only[fs,reduceCtorEq,and_false,exists_false] at ab;done)
       |(simp only[eD,dU,eU,cL,reduceCtorEq,and_false,exists_false] at ab;done)
       |split at ab
       |(obtain⟨_,_,ab⟩:=ab)
       |(simp only[eD,dU,eU,cL] at ab))
      done)
     |(
      rename_i dG sd;split at ab
      all_goals first
       |(cases ab;done)
       |(
         rename_i ht;simp only[fs] at ab;obtain⟨aX,h1,ab⟩:=ab;cases ab;exact⟨_,_,_,_,ho,dG,sd,h1,λay=>by first|exact ht|cases ay⟩)))
def b2x{k:Nat}{bS:aJ}(ab:cop P o=some (.len k bS)):∀c,o.op≠ .defer c:=λc hd=>by
 obtain⟨x,t,as,lE,ho,_⟩:=VU ab;rw[ho] at hd;cases hd
def b2y{l:List (AV×ae)}{k:Nat}{bS:aJ}(c:Ctx P env J w m B al a)(ab:cop P o=some (.len k bS))(h:opx f (evalA env al) J (.len k bS)=some (.j1 l)):∃p∈l,fF P B f J w m p.1 p.2 ((execOp a.eval o).run P w):=by
 obtain⟨x,t,as,lE,ho,has,sd,hx,ht⟩:=VU ab;obtain rfl:=vk has;obtain rfl:=vk sd;simp only[opx] at h;split at h<;>try (cases h;done)
 rename_i p aw;split at h
 ·cases h
 obtain⟨rfl,ex,rfl,e⟩:=Vj h;injection e with e
 subst e;obtain⟨s,ao⟩:=(c.ar hx aw).b2w;have ht:=ht I;refine⟨(.iI (decide ((40:Int)<Int.ofNat s.size)),J),by cases decide ((40:Int)<Int.ofNat s.size)<;>simp,?_⟩;rw[HW ho,HY a.eval,ao];refine fT c ⟨.int .i64 (Int.ofNat s.size),?_,.iI _ I⟩;simp[builtin,Builtin.len_,run_underlying ht,goInt]
def b2z{l:List (AV×ae)}(c:Ctx P env J w m B al a)(ab:cop P o=some cJ)(h:opx f (evalA env al) J cJ=some (.j1 l)):(∀c,o.op≠ .defer c)/\∃p∈l,fF P B f J w m p.1 p.2 ((execOp a.eval o).run P w):=by
 have NY:(∃k bS,cJ= .len k bS)\/∃bS,cJ= .tq bS:=by
  cases cJ<;>simp only[opx] at h
  all_goals first
   |(exact .inl ⟨_,_,rfl⟩)
   |(exact .inr ⟨_,rfl⟩)
   |(cases h;done)
   |(exfalso;repeat' first|(cases h;done)|split at h|(simp only[A2] at h))
 rcases NY with⟨k,bS,rfl⟩|⟨bS,rfl⟩
 ·exact⟨b2x ab,b2y c ab h⟩
 have b2A:∃x,o.op= .next x false/\opdOf x=some bS:=by
  unfold cop at ab;split at ab
  all_goals first
   |(cases ab;done)
   |(rename_i ho;simp only[fs] at ab;obtain⟨y,hy,he⟩:=ab;cases he;exact⟨_,ho,hy⟩)
   |(
     exfalso
     repeat' first
      |(cases ab;done)
      |(simp only[fs,reduceCtorEq,and_false,exists_false] at ab;done)
      |(simp only[eD,dU,eU,cL,reduceCtorEq,and_false,exists_false] at ab;done)
      |split at ab
      |(obtain⟨_,_,ab⟩:=ab)
      |(simp only[eD,dU,eU,cL] at ab))
 obtain⟨x,ho,hx⟩:=b2A;refine⟨λc hd=>(by rw[ho] at hd;cases hd),?_⟩;simp only[opx] at h;simp only[execOp,ho];split at h<;>try (cases h;done)
 rename_i it au;obtain⟨aD,hm,mz⟩:=(c.ar hx au).wL;rw[mz];split at h<;>try (cases h;done)
 rename_i ep;have pW:f<=it:=by simpa [MD] using ep
 split at h<;>try (cases h;done)
 rename_i id since seen g7 hg;split at h<;>try (cases h;done)
 rename_i es an k4;cases aV:(Nat.beq an since&&Nat.beq g7 since&&cD (λ(e:AV×AV×Nat)=>Nat.blt e.2.2 since) es) with
 |false=>rw[aV] at h;cases h
 |true=>
  rw[aV,cond_true] at h;simp only[C2,tn] at aV;obtain⟨⟨rfl,rfl⟩,hall⟩:=aV;split at h<;>cases h;rename_i a7;rcases VC (f:=f) c.rel pW hm hg k4 (λe he=>by have:=n8 hall e he;simpa [MD] using this) o.type with⟨h1,_⟩|⟨e,he,u,av,h2,h3,aO,bI⟩
  ·exact absurd h1 a7
  ·exact⟨_,ti.2 ⟨e,he,rfl⟩,q0 ⟨u,av,m,h2,h3,aO,bI⟩⟩
def A6(c:Ctx P env J w m B al a)(ab:cop P o=some cJ)(h:opx f (evalA env al) J cJ=some (.val v ai)):fF P B f J w m v ai ((execOp a.eval o).run P w):=by
 have iu:=ab;unfold cop at ab;split at ab
 all_goals first|(cases ab;done)|skip
 all_goals first
  |(rename_i ho;first
    |exact VF c (.inl ho) iu h|exact VF c (.inr ho) iu h|exact b1F c ho iu h|exact b1G c ho iu h|exact b1H c ho iu h|exact b1U c ho iu h
    |exact b1W c ho iu h|exact VQ c (.inl ho) iu h|exact VQ c (.inr ho) iu h|exact b1I c ho iu h|exact b1J c ho iu h|exact b1K c ho iu h
    |exact b1O c ho iu h|exact b1L c ho iu h|exact b1P c ho iu h|exact b1R c ho iu h|exact b1S c ho iu h|exact b1T c ho iu h
    |exact b2f c ho iu h|exact b1X c ho iu h|exact b1Y c ho iu h|exact b1Z c ho iu h|exact b2a c ho iu h|exact b2b c ho iu h
    |exact b2c c ho iu h|exact b2d c ho iu h|exact b2m c ho iu h)
  |skip
 ·rename_i ho;exact b2s c ho iu h
 ·rename_i ho;exact b2t c ho iu h
 ·rename_i ho;exact b2u c ho iu h
 ·rename_i ho;exact b2v c ho iu h
 ·simp only[eD,dU,eU,cL] at ab;obtain⟨ac,p4,cC,k5,rfl⟩:=ab;simp only[opx] at h;split at h<;>cases h
 ·simp only[eD,dU,eU,cL] at ab;obtain⟨ac,p4,cC,k5,rfl⟩:=ab;simp only[opx] at h;split at h<;>cases h
 ·simp only[fs] at ab;obtain⟨bS,hx,rfl⟩:=ab;simp only[opx] at h;split at h<;>cases h
end
def b2B{α β:Type}(f:α->Option (List β))(x:α)(xs:List α):oX f (x::xs)=match f x with|none=>none|some a=>match oX f xs with|none=>none|some b=>some (a++b):=by
 cases xs with
 |nil=>show f x=_;cases f x<;>simp[oX]
 |cons y bf=>rfl
def NZ{α β:Type}{f:α->Option (List β)}:∀ {l:List α} {out:List β},oX f l=some out->∀x∈l,∃o,f x=some o/\∀y∈o,y∈out
 |[],_,_,x,hx=>by cases hx
 |x::l,out,h,y,hy=>by
  rw[b2B] at h;cases hf:f x with
  |none=>rw[hf] at h;cases h
  |some a=>
   rw[hf] at h;cases hl:oX f l with
   |none=>rw[hl] at h;cases h
   |some b=>
    rw[hl] at h;cases h;rcases dB.1 hy with rfl|hy
    ·exact⟨a,hf,λz a6=>NK _ a6⟩
    ·obtain⟨o,h1,h2⟩:=NZ hl y hy;exact⟨o,h1,λz a6=>VK _ (h2 z a6)⟩
def wW{α β:Type}{r:Option (List α)}{f:α->Option (List β)}{out:List β}(h:hT r f=some out):∃l,r=some l/\∀x∈l,∃o,f x=some o/\∀y∈o,y∈out:=by
 cases r with
 |none=>cases h
 |some l=>exact⟨l,rfl,NZ h⟩
def fB(r:Option Nat):Fence:={fn:=λ_=>True,depth:=none,alive:=false,round:=r}
def A7(w:World)(m:Nat->Option Nat)(O:Nat->Prop)(B:Nat):(Nat ⊕ (AV×List AV))->Deferred->Prop
 | .inl id,d=>∃aD,m id=some aD/\d={target:=.collected aD,args:=#[]}
 | .inr (ct,args),d=>∃g a8 cs g0 fz us,ct= .f (.func g) a8 cs/\d={target:=.fn (.func g) fz,args:=g0++us}/\bQ w m O B a8 g0.toList/\bQ w m O B cs fz.toList/\bQ w m O B args us.toList
structure ff(P:Program)(env:Env)(ad:Fr)(a:Act)(J:ae)(w:World)(m:Nat->Option Nat)(B:Nat):Prop where
 ctx:Ctx P env J w m B ad.bj a
 defs:jc (A7 w m (bq J m) B) ad.defers a.defers
def se(w:World)(m:Nat->Option Nat)(O:Nat->Prop)(B:Nat):en->Ending->Prop
 | .ok v,.returned u=>ag w m O B v u
 | .err v,.panicked oc=>∃u,oc=[{v:=u,recovered:=false}]/\ag w m O B v u
 |_,_=>False
def ExR(w:World)(m:Nat->Option Nat)(O:Nat->Prop)(B:Nat):fZ->Exit->Prop
 | .normal,.normal=>True
 | .exit i,.exit j=>i=j
 | .ret,.ret=>True
 | .panic v,.panic oc=>∃u,oc=[{v:=u,recovered:=false}]/\ag w m O B v u
 |_,_=>False
def CallRes(P:Program)(F:Fence)(n:Nat)(u:Value)(us:Array Value)(w:World)(ag:Ending->World->Prop):Prop:=
 ∃d,(∀av,(Deferred.ofValue u us).run P av= .ok d av)∧
  match(invoke d.target d.args).run P w with
  | .ok (.enter f args) av=>CallsIn F n P f args av ag
  | .ok (.round l f tmps as b) av=>RoundIn F n P l f tmps as b av ag
  | .ok (.value v) av=>ag (.returned v) av
  |_=>False
section
variable {P:Program}{env:Env}{J ai:ae}{w av:World}{m aT:Nat->Option Nat}{B f:Nat}
def Globs.ext(cW:Globs env w B)(h:Ext f J w m ai av aT)(aq:Rel P J w m B):Globs env av B:=λg v hg eL=>
 (cW g v hg eL).mono (λ_ _ h=>h) h.size h.bK (λb hb ch=>⟨h.aP b hb (λ⟨_,_,h1,_⟩=>ch (aq.base _ _ h1)),ch⟩)
def A7.ext{d:Nat ⊕ (AV×List AV)}{jt:Deferred}(hd:A7 w m (bq J m) B d jt)(h:Ext f J w m ai av aT)(aq:Rel P J w m B):A7 av aT (bq ai aT) B d jt:=by
 cases d with
 |inl id=>obtain⟨aD,h1,h2⟩:=hd;exact⟨aD,h.mono _ _ h1,h2⟩
 |inr p=>obtain⟨g,a8,cs,g0,fz,us,h1,h2,h3,aO,bI⟩:=hd;exact⟨g,a8,cs,g0,fz,us,h1,h2,h3.ext h aq,aO.ext h aq,bI.ext h aq⟩
def DM{α β:Type}{r b5:α->β->Prop}(h:∀x y,r x y->b5 x y):∀ {l:List α} {cu:List β},jc r l cu->jc b5 l cu
 |[],[],_=>trivial
 |[],_::_,h'=>h'.elim
 |_::_,[],h'=>h'.elim
 |_::_,_::_,h'=>⟨h _ _ h'.1,DM h h'.2⟩
def Ctx.ext{al:a1 AV}{a:Act}(c:Ctx P env J w m B al a)(h:Ext f J w m ai av aT)(sa:Rel P ai av aT B):Ctx P env ai av aT B al a:=
 ⟨sa,c.bj.ext h c.rel,Globs.ext c.globs h c.rel⟩
def ff.ext{ad:Fr}{a:Act}(s:ff P env ad a J w m B)(h:Ext f J w m ai av aT)(sa:Rel P ai av aT B):ff P env ad a ai av aT B:=
 ⟨s.ctx.ext h sa,DM (λ_ _ hd=>hd.ext h s.ctx.rel) s.defs⟩
def ja.put{O:Nat->Prop}{al:a1 AV}{tmps:Array Value}(h:ja w m O B al tmps.toList)(d:Nat){v:AV}{u:Value}(au:ag w m O B v u):ja w m O B (al.set d v) (tmps.setIfInBounds d u).toList:=by
 refine⟨λi x hx=>?_,λi hx=>?_⟩
 ·rw[a1.jw] at hx;rw[C0];by_cases hi:i=d
  ·subst hi;rw[if_pos I] at hx;cases hg:al.get i with
   |none=>rw[hg] at hx;cases hx
   |some y=>
    rw[hg] at hx;cases hx;obtain⟨VV,h1,_⟩:=h.1 i y hg;rw[C0] at h1;have hlt:=(ME.1 h1).1;exact⟨u,by simp[G7,hlt],au⟩
  ·rw[if_neg hi] at hx;obtain⟨VV,h1,h2⟩:=h.1 i x hx;rw[C0] at h1;exact⟨VV,by rw[G8 (λe=>hi e.symm)];exact h1,h2⟩
 ·rw[a1.jw] at hx;rw[C0];have hg:al.get i=none:=by
   by_cases hi:i=d
   ·subst hi;rw[if_pos I] at hx;cases hg:al.get i with
    |none=>rfl
    |some y=>rw[hg] at hx;cases hx
   ·rw[if_neg hi] at hx;exact hx
  have h1:=h.2 i hg;rw[C0] at h1;have:=Array.getElem?_eq_none_iff.1 h1;exact oQ (by simpa using this)
def b2C{O:Nat->Prop}{al:a1 AV}{a:Act}(h:ja w m O B al a.tmps.toList)(d:Nat){v:AV}{u:Value}(au:ag w m O B v u):ja w m O B (al.set d v) (a.put (some d) u).tmps.toList:=
 h.put d au
def ff.put{ad:Fr}{a:Act}(s:ff P env ad a J w m B)(d:Option Nat){v:AV}{u:Value}(au:ag w m (bq J m) B v u):ff P env (ad.put d v) (a.put d u) J w m B:=by
 cases d with
 |none=>exact s
 |some d=>exact⟨⟨s.ctx.rel,b2C s.ctx.bj d au,s.ctx.globs⟩,s.defs⟩
def H0{ops:Array Oper}{o:Oper}{aY:a4}{O:Nat->Prop}{al:a1 AV}{tmps:Array Value}(ab:coper P ops o=some aY)(ao:ja w m O B al tmps.toList):Region.wanted o (yielded ops tmps)=wantedA aY.guard al:=by
 unfold coper at ab;split at ab<;>cases ab;rename_i g hg;unfold guardOf at hg;unfold Region.wanted wantedA;split at hg
 ·rename_i wX;cases hg;simp[wX]
 ·rename_i j wt wX;split at hg<;>cases hg;rename_i d hd;simp only[wX,yielded,hd,Option.bind_some];cases hc:al.get d with
  |none=>
   have:=ao.2 d hc;rw[C0] at this;simp[this]
  |some v=>
   obtain⟨u,hu,j4⟩:=ao.1 d v hc;rw[C0] at hu;simp only[hu];cases j4 with
   |y h=>rcases h.alt with⟨_,_,rfl⟩|⟨_,rfl⟩<;>simp
   |gu hu h=>subst hu;simp
   |_=>simp
def N0{c:Callee}{ac:tp}(ab:calleeOf c=some ac){al:a1 AV}{a:Act}(ctx:Ctx P env J w m B al a){ct:AV}(au:calleeV (evalA env al) ac=some ct):
  ∃x,c= .value x/\ag w m (bq J m) B ct (a.eval x):=by
 unfold calleeOf at ab;split at ab
 ·cases ab;cases au;exact⟨_,rfl,.cO I (λi h=>by simp at h) I (λi h=>by simp at h)⟩
 ·split at ab<;>cases ab;rename_i hx;exact⟨_,rfl,ctx.ar hx au⟩
 ·cases ab
def VW{F:Fence}{n:Nat}{o:Oper}{a:Act}{x:Operand}{c:Call}(ho:o.op= .call c)(gj:c.callee= .value x){us:Array Value}(l0:c.args.map a.eval=us)(b2:∀f,F.fn f)(hd:F.depth=none)
  {ag:Ending->World->Prop} (h:CallRes P F (n-1) (a.eval x) us w ag) {next:Act->World->Prop} {Q:Exit->Act->World->Prop}
  (hR:∀e av,ag e av->match e with| .returned v=>next (a.put o.dst v) av| .panicked oc=>Q (.panic oc) a av| .outgrown=>False):o.wpIn F n P a w next Q:=by
 obtain⟨d,h1,h2⟩:=h;have df:∀av,(resolve a.eval c o.type).run P av= .ok d av:=λav=>by
  unfold resolve;rw[gj];simp only[l0];exact h1 av
 have he:(o.semAt F.round a.eval).run P w=(invoke d.target d.args).run P w:=by
  rw[vi _ _ _ (λc ab=>by rw[ho] at ab;cases ab)];unfold execOp;rw[ho];simp only[cB,df,e7]
 refine⟨λf _=>b2 f,?_⟩;rw[he];generalize(invoke d.target d.args).run P w=res at h2;cases res with
 |halt h av=>exact h2.elim
 |ok sf av=>
  cases sf<;>try exact h2.elim
  ·exact hR _ _ h2
  ·exact⟨λao=>by rw[hd] at ao;simp at ao,DF h2 (λe AH aq=>by have:=hR e AH aq;cases e<;>first|exact this|exact this.elim)⟩
  ·exact⟨λao=>by rw[hd] at ao;simp at ao,RoundIn.mono h2 (λe AH aq=>by have:=hR e AH aq;cases e<;>first|exact this|exact this.elim)⟩
def DN(P:Program)(env:Env)(B f:Nat)(r:Option Nat)(call:mT):Prop:=
 ∀ct args J kn,call ct args J=some kn->∀k w m u us,Rel P J w m B->Globs env w B->ag w m (bq J m) B ct u->bQ w m (bq J m) B args us→
  CallRes P (fB r) k u us.toArray w (λe av=>∃ret ai,(ret,ai)∈kn/\∃aT,se av aT (bq ai aT) B ret e/\Rel P ai av aT B/\Ext f J w m ai av aT)
def VX{o:Oper}{c:tp}{args:List aJ}(h:cop P o=some (.call c args)):∃an,o.op= .call an/\calleeOf an.callee=some c/\yu an.args.toList=some args:=by
 unfold cop at h;split at h
 all_goals first
  |(cases h;done)
  |(simp only[fs,reduceCtorEq,and_false,exists_false] at h;done)
  |(simp only[eD,dU,eU,cL,reduceCtorEq,and_false,exists_false] at h;done)
  |(
    rename_i ho _;simp only[eD,dU,eU,cL] at h;obtain⟨ac,p4,cC,k5,he⟩:=h;cases he;exact⟨_,ho,p4,k5⟩)
  |(
    rename_i ho;simp only[eD,dU,eU,cL] at h;obtain⟨ac,p4,cC,k5,he⟩:=h;cases he;exact⟨_,ho,p4,k5⟩)
  |(
    exfalso
    repeat' first
     |(cases h;done)
     |(simp only[fs,reduceCtorEq,and_false,exists_false] at h;done)
     |(simp only[eD,dU,eU,cL,reduceCtorEq,and_false,exists_false] at h;done)
     |split at h
     |(obtain⟨_,_,h⟩:=h)
     |(simp only[eD,dU,eU,cL] at h))
def b2D{o:Oper}{c:tp}{args:List aJ}(h:cop P o=some (.lv c args)):∃an,o.op= .defer an/\calleeOf an.callee=some c/\yu an.args.toList=some args:=by
 unfold cop at h;split at h
 all_goals first
  |(cases h;done)
  |(simp only[fs,reduceCtorEq,and_false,exists_false] at h;done)
  |(simp only[eD,dU,eU,cL,reduceCtorEq,and_false,exists_false] at h;done)
  |(
    rename_i ho _;simp only[eD,dU,eU,cL] at h;obtain⟨ac,p4,cC,k5,he⟩:=h;cases he;exact⟨_,ho,p4,k5⟩)
  |(
    rename_i ho;simp only[eD,dU,eU,cL] at h;obtain⟨ac,p4,cC,k5,he⟩:=h;cases he;exact⟨_,ho,p4,k5⟩)
  |(
    exfalso
    repeat' first
     |(cases h;done)
     |(simp only[fs,reduceCtorEq,and_false,exists_false] at h;done)
     |(simp only[eD,dU,eU,cL,reduceCtorEq,and_false,exists_false] at h;done)
     |split at h
     |(obtain⟨_,_,h⟩:=h)
     |(simp only[eD,dU,eU,cL] at h))
end
section
variable {P:Program}{env:Env}{B f:Nat}
def VY{o:Oper}{bS:aJ}(h:cop P o=some (.panic bS)):∃x,opdOf x=some bS/\(o.op= .panic x\/∃xs lE,o.op= .call {callee:=.builtin .panic,args:=xs,argTypes:=lE}/\xs.toList=[x]):=by
 unfold cop at h;split at h
 all_goals first
  |(cases h;done)
  |(simp only[fs,reduceCtorEq,and_false,exists_false] at h;done)
  |(simp only[eD,dU,eU,cL,reduceCtorEq,and_false,exists_false] at h;done)
  |(
    rename_i ho;simp only[fs] at h;obtain⟨ac,p4,he⟩:=h;cases he;exact⟨_,p4,.inl ho⟩)
  |skip
 all_goals first
  |(
    rename_i ho;split at h
    all_goals first
     |(cases h;done)
     |(
      simp only[fs] at h;obtain⟨ac,p4,he⟩:=h;cases he;rename_i dG;exact⟨_,p4,.inr ⟨_,_,ho,dG⟩⟩)
     |(
      exfalso
      repeat' first
       |(cases h;done)
       |(simp only[fs,reduceCtorEq,and_false,exists_false] at h;done)
       |(simp only[eD,dU,eU,cL,reduceCtorEq,and_false,exists_false] at h;done)
       |split at h
       |(obtain⟨_,_,h⟩:=h)
       |(simp only[eD,dU,eU,cL] at h)))
  |(
    exfalso
    repeat' first
     |(cases h;done)
     |(simp only[fs,reduceCtorEq,and_false,exists_false] at h;done)
     |(simp only[eD,dU,eU,cL,reduceCtorEq,and_false,exists_false] at h;done)
     |split at h
     |(obtain⟨_,_,h⟩:=h)
     |(simp only[eD,dU,eU,cL] at h))
def VZ{o:Oper}{a:Act}{x:Operand}(ho:o.op= .panic x\/∃xs lE,o.op= .call {callee:=.builtin .panic,args:=xs,argTypes:=lE}/\xs.toList=[x]){t:TypeId}{u:Value}(hx:a.eval x= .iface t u)(w:World):
  (execOp a.eval o).run P w= .halt (.panic (.iface t u)) w:=by
 rcases ho with ho|⟨xs,lE,ho,dG⟩
 ·simp[execOp,ho,hx,Instr.panic,goPanic]
 ·obtain rfl:=vk dG;rw[HW ho];simp[builtin,hx,Instr.panic,goPanic]
def wY{ar:aJ->Option AV}{J:ae}{op:AOp}{ct:AV}{args:List AV}(h:opx f ar J op=some (.call ct args)):∃c as,op= .call c as/\calleeV ar c=some ct/\mapO ar as=some args:=by
 cases op<;>simp only[opx] at h
 all_goals first
  |(cases h;done)
  |(
    rename_i c as;split at h<;>cases h;rename_i h1 h2;exact⟨c,as,rfl,h1,h2⟩)
  |(exfalso;repeat' first|(cases h;done)|(cases Dx h;done)|split at h|(simp only[A2] at h))
def b2E{ar:aJ->Option AV}{J:ae}{op:AOp}{ct:AV}{args:List AV}(h:opx f ar J op=some (.lv ct args)):∃c as,op= .lv c as/\calleeV ar c=some ct/\mapO ar as=some args:=by
 cases op<;>simp only[opx] at h
 all_goals first
  |(cases h;done)
  |(
    rename_i c as;split at h<;>cases h;rename_i h1 h2;exact⟨c,as,rfl,h1,h2⟩)
  |(exfalso;repeat' first|(cases h;done)|(cases Dx h;done)|split at h|(simp only[A2] at h))
def V0{ar:aJ->Option AV}{J:ae}{op:AOp}{v:AV}(h:opx f ar J op=some (.panic v)):∃x t u,op= .panic x/\ar x=some (.it t u)/\v= .it t u:=by
 cases op<;>simp only[opx] at h
 all_goals first
  |(cases h;done)
  |(
    rename_i x;split at h<;>cases h;rename_i h1;exact⟨x,_,_,rfl,h1,rfl⟩)
  |(exfalso;repeat' first|(cases h;done)|(cases Dx h;done)|split at h|(simp only[A2] at h))
def H2{o:Oper}{c:Call}{cJ:AOp}(hd:o.op= .defer c)(h:cop P o=some cJ):∃ac as,cJ= .lv ac as:=by
 obtain⟨callee,args,c7K⟩:=c;unfold cop at h;rw[hd] at h;cases callee with
 |builtin b=>cases h
 |value x=>
  simp only[eD,dU,eU,cL] at h;obtain⟨ac,_,as,_,he⟩:=h;exact⟨ac,as,he.symm⟩
 |invoke x n=>
  simp only[eD,dU,eU,cL] at h;obtain⟨ac,_,as,_,he⟩:=h;exact⟨ac,as,he.symm⟩
def DO{o:Oper}{cJ:AOp}(h:copB P o=cJ)(hb:cJ≠ .bad):cop P o=some cJ:=by
 unfold copB at h;split at h
 ·subst h;assumption
 ·exact absurd h.symm hb
def H3{ops:Array Oper}{o:Oper}{aY:a4}(h:coper P ops o=some aY):aY.op=copB P o/\aY.dst=o.dst:=by
 unfold coper at h;split at h<;>cases h;exact⟨rfl,rfl⟩
def yY(op:AOp)(floor:Nat)(ar:aJ->Option AV)(J:ae):tt op floor ar J=opx floor ar J op:=by
 cases op<;>rfl
def b2F(floor:Nat)(call:AV->List AV->ae->Option (en×ae))(rc:Option AV)(dX:Bool)(ad:Fr)(J:ae):rZ env floor call rc dX [] ad J=some (.normal,ad,J):=rfl
def runOpsD_cons(floor:Nat)(call:AV->List AV->ae->Option (en×ae))(rc:Option AV)(dX:Bool)(o:a4)(ops:List a4)(ad:Fr)(J:ae):rZ env floor call rc dX (o::ops) ad J=
  cond (wantedA o.guard ad.bj)
   (match o.op with
    | .recover=>match rc with
     |some v=>rZ env floor call rc dX ops (Fr.put ⟨ad.bj,ad.defers,true⟩ o.dst (cond ad.gg .fP v)) J
     |none=>none
    |op=>match opx floor (evalA env ad.bj) J op with
     |some (.val v J)=>rZ env floor call rc dX ops (ad.put o.dst v) J
     |some (.call ct args)=>match call ct args J with
      |some (.ok v,J)=>rZ env floor call rc dX ops (ad.put o.dst v) J
      |some (.err v,J)=>some (.panic v,ad,J)
      |none=>none
     |some (.lv ct args)=>cond (dX&&isFn ct) (rZ env floor call rc dX ops (Fr.put ⟨ad.bj,.inr (ct,args)::ad.defers,ad.gg⟩ o.dst ei) J) none
     |some (.panic v)=>some (.panic v,ad,J)
     |some (.j1 _)=>none
     |none=>none)
   (rZ env floor call rc dX ops (ad.put o.dst ei) J):=by
 show cond (wantedA o.guard ad.bj) (cond o.op.isRec _ (match tt o.op floor (evalA env ad.bj) J with|some (.val v J)=>_|some (.call ct args)=>_|some (.lv ct args)=>_|some (.panic v)=>_|some (.j1 _)=>_|none=>none)) _=_;rw[yY];rcases o with⟨dst,op,g,wn⟩
 cases op<;>rfl
def b2G(floor:Nat)(call:mT)(dX:Bool)(ad:Fr)(J:ae):runOps env floor call dX [] ad J=some [(.normal,ad,J)]:=rfl
def yZ(floor:Nat)(call:mT)(dX:Bool)(o:a4)(ops:List a4)(ad:Fr)(J:ae):runOps env floor call dX (o::ops) ad J=
  cond (wantedA o.guard ad.bj)
   (match opx floor (evalA env ad.bj) J o.op with
    |some (.val v J)=>runOps env floor call dX ops (ad.put o.dst v) J
    |some (.call ct args)=>hT (call ct args J) (λr=>match r with
     |(.ok v,J)=>runOps env floor call dX ops (ad.put o.dst v) J
     |(.err v,J)=>some [(.panic v,ad,J)])
    |some (.lv ct args)=>cond (dX&&isFn ct) (runOps env floor call dX ops (Fr.put ⟨ad.bj,.inr (ct,args)::ad.defers,ad.gg⟩ o.dst ei) J) none
    |some (.panic v)=>some [(.panic v,ad,J)]
    |some (.j1 l)=>oX (λp=>runOps env floor call dX ops (ad.put o.dst p.1) p.2) l
    |none=>none)
   (runOps env floor call dX ops (ad.put o.dst ei) J):=by
 show Bool.rec (motive:=λ_=>Option nu) (runOps env floor call dX ops (ad.oW o.dst ei) J)
   (Option.rec (motive:=λ_=>Option nu) none (λr=>bZ.rec (motive:=λ_=>Option nu)
    (λv J=>runOps env floor call dX ops (ad.oW o.dst v) J)
    (λct args=>hT (call ct args J) (λr=>match r with
     |(.ok v,J)=>runOps env floor call dX ops (ad.oW o.dst v) J
     |(.err v,J)=>some [(.panic v,ad,J)]))
    (λct args=>cond (dX&&isFn ct) (runOps env floor call dX ops (Fr.oW ⟨ad.bj,.inr (ct,args)::ad.defers,ad.gg⟩ o.dst ei) J) none)
    (λv=>some [(.panic v,ad,J)])
    (λl=>oX (λp=>runOps env floor call dX ops (ad.oW o.dst p.1) p.2) l) r)
    (tt o.op floor (AB env ad.bj) J))
   (Hm o.guard ad.bj)=_
 rw[r3,UB,UC,MZ,yY];cases opx floor (evalA env ad.bj) J o.op with
 |none=>rfl
 |some r=>cases r<;>rfl
def V1{r:Option Nat}{call:mT}(q3:DN P env B f r call){ops:Array Oper}{k:Nat}{dX:Bool}(hnd:dX=true->r=none):
  ∀(ol:List Oper) (cC:List a4) (ad:Fr) (J:ae) (outs:nu) (a:Act) (w:World) (m:Nat->Option Nat),mapOL (coper P ops) ol=some cC->runOps env f call dX cC ad J=some outs->ff P env ad a J w m B→
   ∀Q:Exit->Act->World->Prop,(∀e bd ai,(e,bd,ai)∈outs->∀x cH av aT,ExR av aT (bq ai aT) B e x->ff P env bd cH ai av aT B->Ext f J w m ai av aT->Q x cH av)->wpListIn (fB r) k P ops Q ol a w
 |[],cC,ad,J,outs,a,w,m,hm,h,st,Q,b6=>by
  simp[mapOL] at hm;subst hm;rw[b2G] at h;cases h;exact b6 _ _ _ (uT.2 I) .normal a w m trivial st (Ext.refl _ _ _ _)
 |o::ol,cC,ad,J,outs,a,w,m,hm,h,st,Q,b6=>by
  rw[mapOL] at hm;split at hm<;>cases hm;rename_i aY DP ho pT;obtain⟨dP,jy⟩:=H3 ho;rw[yZ] at h;rw[wpListIn,H0 ho st.ctx.bj];have next:∀ {ej:Fr} {aX:Act} {b8:ae} {bW:World} {db:Nat->Option Nat} {eb:nu},runOps env f call dX DP ej b8=some eb->(∀y∈eb,y∈outs)->ff P env ej aX b8 bW db B->Ext f J w m b8 bW db->wpListIn (fB r) k P ops Q ol aX bW:=
   λ{ej aX b8 bW db eb} h1 e8 hD dO=>V1 q3 hnd ol DP ej b8 eb aX bW db pT h1 hD Q (λe bd ai gn x cH av aT hx cR hex=>b6 e bd ai (e8 _ gn) x cH av aT hx cR (dO.trans st.ctx.rel hex))
  cases hw:wantedA aY.guard ad.bj with
  |false=>
   rw[hw,cond_false] at h;simp only[T8,if_false];refine⟨λf _=>trivial,next h (λ_ h=>h) ?_ (Ext.refl _ _ _ _)⟩;rw[jy];exact st.put _ ag.undef
  |true=>
   rw[hw,cond_true] at h;simp only[if_true];generalize NY:aY.op=cJ at h dP;have ab:∀res,opx f (evalA env ad.bj) J cJ=some res->cop P o=some cJ:=λres df=>DO dP.symm (λhb=>by subst hb;simp[opx] at df);have y0:∀v b8,opx f (evalA env ad.bj) J cJ=some (.val v b8)->∀c,o.op≠ .defer c:=λv b8 hx c hd=>by
    have hh:=H2 hd (ab _ hx);obtain⟨ac,as,rfl⟩:=hh;simp only[opx] at hx;split at hx<;>cases hx
   split at h
   ·-- a value
    rename_i v b8 hx;have ay:=A6 st.ctx (ab _ hx) hx;obtain⟨u,bW,db,cf,hR,od,dO⟩:=ay;have ao:(o.semAt (fB r).round a.eval)=execOp a.eval o:=vi _ _ _ (y0 _ _ hx);have cR:=(st.ext dO od).put aY.dst hR;rw[jy] at cR h;refine⟨λf _=>trivial,?_⟩;rw[ao];rcases cf with cf|⟨cf,rfl⟩
    ·rw[cf];exact next h (λ_ h=>h) cR dO
    ·rw[cf];exact next h (λ_ h=>h) cR dO
   ·-- a call
    rename_i ct args hx;obtain⟨c,as,rfl,kH,has⟩:=wY hx;obtain⟨an,DQ,DR,p5⟩:=VX (ab _ hx);obtain⟨x,hC,y1⟩:=N0 DR st.ctx kH;have DS:=Dk st.ctx.rel.yP st.ctx.globs st.ctx.bj p5 has;obtain⟨kn,gj,p6⟩:=wW h;have df:=q3 _ _ _ _ gj (k-1) w m _ _ st.ctx.rel st.ctx.globs y1 DS;refine VW DQ hC (us:=an.args.map a.eval) I (λ_=>trivial) I (by
     have aL:(an.args.toList.map a.eval).toArray=an.args.map a.eval:=by apply T9;simp
     rw[aL] at df;exact df) (λaL bW aq=>?_)
    obtain⟨ret,b8,gn,db,h1,h2,h3⟩:=aq;obtain⟨eb,eG,e8⟩:=p6 _ gn;cases ret with
    |ok v=>
     cases aL with
     |returned u=>
      have cR:=(st.ext h3 h2).put aY.dst h1;rw[jy] at cR eG;exact next eG e8 cR h3
     |panicked oc=>exact h1.elim
     |outgrown=>exact h1.elim
    |err v=>
     simp only[cL] at eG;subst eG;cases aL with
     |returned u=>exact h1.elim
     |panicked oc=>exact b6 _ _ _ (e8 _ (uT.2 I)) _ _ _ db h1 (st.ext h3 h2) h3
     |outgrown=>exact h1.elim
   ·-- a deferred call
    rename_i ct args hx;obtain⟨c,as,rfl,kH,has⟩:=b2E hx;obtain⟨an,DQ,DR,p5⟩:=b2D (ab _ hx);obtain⟨x,hC,y1⟩:=N0 DR st.ctx kH;have DS:=Dk st.ctx.rel.yP st.ctx.globs st.ctx.bj p5 has;cases DT:(dX&&isFn ct) with
    |false=>rw[DT] at h;cases h
    |true=>
     rw[DT,cond_true] at h;simp only[C2] at DT;have p7:=hnd DT.1;subst p7;have hval:∃g a8 cs g0 fz,ct= .f (.func g) a8 cs/\a.eval x= .func (.func g) g0 fz/\bQ w m (bq J m) B a8 g0.toList/\bQ w m (bq J m) B cs fz.toList:=by
      revert y1;generalize a.eval x=nC;intro y1;cases y1 with
      |cO hf bH gS tv=>exact⟨_,_,_,_,_,rfl,rfl,⟨by simpa using hf,λi p q=>by simpa using bH i p (by simpa using q)⟩,⟨by simpa using gS,λi p q=>by simpa using tv i p (by simpa using q)⟩⟩
      |_=>simp[isFn] at DT
     obtain⟨g,a8,cs,g0,fz,rfl,hex,gT,gS⟩:=hval;have cf:(o.semAt (fB none).round a.eval).run P w= .ok (.defer {target:=.fn (.func g) fz,args:=g0++an.args.map a.eval}) w:=by
      show(execOp a.eval o).run P w=_;unfold execOp;rw[DQ];simp[resolve,hC,Deferred.ofValue,hex]
     refine⟨λf _=>trivial,?_⟩;rw[cf];have aL:(an.args.map a.eval).toList=an.args.toList.map a.eval:=by simp
     have cR:ff P env ⟨ad.bj,.inr (.f (.func g) a8 cs,args)::ad.defers,ad.gg⟩ {a with defers:={target:=.fn (.func g) fz,args:=g0++an.args.map a.eval}::a.defers} J w m B:=
      ⟨⟨st.ctx.rel,st.ctx.bj,st.ctx.globs⟩,⟨⟨g,a8,cs,g0,fz,an.args.map a.eval,rfl,rfl,gT,gS,by rw[aL];exact DS⟩,st.defs⟩⟩
     have q4:=cR.put aY.dst ag.undef;rw[jy] at q4 h;exact next h (λ_ h=>h) q4 (Ext.refl _ _ _ _)
   ·-- a panic
    rename_i v hx;cases h;obtain⟨x,t,u,rfl,q5,rfl⟩:=V0 hx;obtain⟨q6,N1,wZ⟩:=VY (ab _ hx);have sg:=st.ctx.ar N1 q5;obtain⟨cj,tA⟩:∃cj,a.eval q6= .iface t cj:=by
     revert sg;generalize a.eval q6=nC;intro sg;cases sg;exact⟨_,rfl⟩
    have cf:=VZ (P:=P) wZ tA w;have ao:(o.semAt (fB r).round a.eval)=execOp a.eval o:=vi _ _ _ (λc hd=>by rcases wZ with wZ|⟨_,_,wZ,_⟩<;>(rw[hd] at wZ;cases wZ));refine⟨λf _=>trivial,?_⟩;rw[ao,cf];rw[tA] at sg;exact b6 _ _ _ (uT.2 I) _ _ _ m ⟨_,rfl,sg⟩ st (Ext.refl _ _ _ _)
   ·-- a step of C6 iterator
    rename_i l hx;obtain⟨b2H,p,aw,ay⟩:=b2z st.ctx (ab _ hx) hx;obtain⟨eb,eG,e8⟩:=NZ h p aw;obtain⟨u,bW,db,cf,hR,od,dO⟩:=ay;have ao:(o.semAt (fB r).round a.eval)=execOp a.eval o:=vi _ _ _ b2H;have cR:=(st.ext dO od).put aY.dst hR;rw[jy] at cR eG;refine⟨λf _=>trivial,?_⟩;rw[ao];rcases cf with cf|⟨cf,rfl⟩
    ·rw[cf];exact next eG e8 cR dO
    ·rw[cf];exact next eG e8 cR dO
   ·cases h
end
def A8(m:Nat->Option Nat):Option Nat->Option Nat->Prop
 |none,none=>True
 |some l,some b=>m l=some b
 |_,_=>False
def A8.mono{m aT:Nat->Option Nat}(hm:∀id aD,m id=some aD->aT id=some aD){aR r:Option Nat}(h:A8 m aR r):A8 aT aR r:=by
 cases aR<;>cases r<;>first|trivial|exact h.elim|exact hm _ _ h
def vl(F:Fence)(n:Nat)(P:Program)(c:Code)(Q:Exit->Act->World->Prop)(a:Act)(w:World):Prop:=
 ∀(b:Frame) (k:List Item) (cs:List Frame),b.roundOf=F.round->F.fn b.fn->F.room (cs.length+1+n)→
  ∃e cH av,Q e cH av/\ArrivesIn (Machine.fenced P F) P (lone (b.atR a (.code c:: .inLoop c::k)) cs w) b k cs e cH av
def vl.wpIn{F:Fence}{n:Nat}{P:Program}{c:Code}{Q:Exit->Act->World->Prop}{a:Act}{w:World}(h:vl F n P c Q a w):(Code.loop c).wpIn F n P Q a w:=by
 intro b k cs A9 hb aq;obtain⟨e,cH,av,aV,oe⟩:=h b k cs A9 hb aq;exact⟨e,cH,av,aV,.of_steps (.one (fenced_calm hb aq I) stepR_loop) oe⟩
def vl.round{F:Fence}{n:Nat}{P:Program}{c:Code}{Q:Exit->Act->World->Prop}{a:Act}{w:World}(h:c.wpIn F n P (Exit.then (vl F n P c Q) Q) a w):vl F n P c Q a w:=by
 intro b k cs A9 hb aq;obtain⟨e,sh,si,aV,oe⟩:=h b (.inLoop c::k) cs A9 hb aq;cases e with
 |normal=>
  obtain⟨b2I,b2J,b2K,b2L,b2M⟩:=aV b k cs A9 hb aq;exact⟨b2I,b2J,b2K,b2L,.of_steps (StepsIn.trans oe (.one (fenced_calm hb aq I) stepR_inLoop)) b2M⟩
 |exit id=>exact⟨_,sh,si,aV,.pass (x:=.inLoop c) I (λ_ _=>.inl aF) oe⟩
 |goto l=>exact⟨_,sh,si,aV,.pass (x:=.inLoop c) I (λ_ _=>.inl aF) oe⟩
 |ret=>exact⟨_,sh,si,aV,.pass (x:=.inLoop c) I (λ_ _=>.inl aF) oe⟩
 |panic oc=>exact⟨_,sh,si,aV,.pass (x:=.inLoop c) I (λ_ _=>.inl aF) oe⟩
 |outgrown=>exact⟨_,sh,si,aV,.pass (x:=.inLoop c) I (λ_ _=>.inl aF) oe⟩
def A_{P:Program}{b:Frame}{a:Act}{k:List Item}{cs:List Frame}{w:World}{c:Code}:Go.step P (lone (b.atR a (.code (.scope c)::k)) cs w)= .next (lone (b.atR a (.code c:: .inScope c::k)) cs w):=
 step_lone_go (by simp[stepG,stepG.exec,Frame.atR])
def b2N{P:Program}{b:Frame}{a:Act}{k:List Item}{cs:List Frame}{w:World}{c:Code}:Go.step P (lone (b.atR a (.inScope c::k)) cs w)= .next (lone (b.atR a k) cs w):=
 step_lone_go (by simp[stepG,stepG.exec,Frame.atR])
def b2O{F:Fence}{n:Nat}{P:Program}{Q:Exit->Act->World->Prop}{a:Act}{w:World}{c:Code}(h:c.wpIn F n P (Exit.noGoto Q) a w):(Code.scope c).wpIn F n P Q a w:=by
 intro b k cs A9 hb aq;have h0:(lone (b.atR a (.code (.scope c)::k)) cs w).fenced P F:=fenced_calm hb aq I;obtain⟨e,sh,si,aV,oe⟩:=h b (.inScope c::k) cs A9 hb aq;cases e with
 |normal=>exact⟨.normal,sh,si,aV,.head h0 A_ (StepsIn.trans oe (.one (fenced_calm hb aq I) b2N))⟩
 |exit id=>
  have hx:exitTo id (.inScope c::k)=exitTo id k:=by simp[exitTo]
  exact⟨.exit id,sh,si,aV,λdF ay=>.head h0 A_ (oe.1 dF (by rw[hx];exact ay)),
   λsa ay=>let⟨k₁,h1,h2⟩:=oe.2 sa (by rw[hx];exact ay);⟨k₁,h1,.head h0 A_ h2⟩⟩
 |goto l=>exact aV.elim
 |ret=>exact⟨_,sh,si,aV,.of_steps (.one h0 A_) oe⟩
 |panic oc=>exact⟨_,sh,si,aV,.of_steps (.one h0 A_) oe⟩
 |outgrown=>exact⟨_,sh,si,aV,.of_steps (.one h0 A_) oe⟩
def q7(P:Program)(env:Env)(B:Nat)(run:ju):Prop:=
 ∀floor aR ac ad J outs,run floor aR ac ad J=some outs->∀k r c a w m,ccode P c=some ac->A8 m aR r->ff P env ad a J w m B→
  ∀Q:Exit->Act->World->Prop,(∀e bd ai,(e,bd,ai)∈outs->∀x cH av aT,ExR av aT (bq ai aT) B e x->ff P env bd cH ai av aT B->Ext floor J w m ai av aT->Q x cH av)→
   c.wpIn (fB r) k P Q a w/\∀bD,c= .loop bD->vl (fB r) k P bD Q a w
section
variable {P:Program}{env:Env}{B:Nat}
def b2P(env:Env):exec env 0=λ_ _ _ _ _=>none:=rfl
def og(env:Env)(n:Nat):exec env (n+1)=step env (exec env n):=a9H env (exec env n)
def q7.zero:q7 P env B (exec env 0):=λfloor aR ac ad J outs h=>by rw[b2P] at h;cases h
def V2(P:Program)(env:Env)(B:Nat)(run:ju):Prop:=
 ∀floor ops ad J bd cN ws ai,jv env floor (callV env run floor) ops ad [] [] J=some (bd,cN,ws,ai)->ws.all (steady env floor (ai::cN).reverse)=true->swapOk env bd.bj ops=true->∀k r id V3 a w m,cdraw P V3=some ops->ff P env ad a J w m B→
  ∀Q:Exit->Act->World->Prop,(∀cH av aT,ff P env bd cH ai av aT B->Ext floor J w m ai av aT->Q .normal cH av)->(Code.region id V3 true).wpIn (fB r) k P Q a w
def V4(P:Program)(env:Env)(B:Nat)(run:ju):Prop:=
 ∀floor aR f aC as b ad J outs,step env run floor aR (.rangeFunc f aC as b) ad J=some outs->∀k r c a w m,ccode P c=some (.rangeFunc f aC as b)->A8 m aR r->ff P env ad a J w m B→
  ∀Q:Exit->Act->World->Prop,(∀e bd ai,(e,bd,ai)∈outs->∀x cH av aT,ExR av aT (bq ai aT) B e x->ff P env bd cH ai av aT B->Ext floor J w m ai av aT->Q x cH av)->c.wpIn (fB r) k P Q a w
def kM{α:Type}(x:α):x∈[x]:=uT.2 I
def b2Q{run:ju}(cf:q7 P env B run)(q3:∀f r,DN P env B f r (callV env run f))(b2R:V2 P env B run)(b2S:V4 P env B run):q7 P env B (step env run):=by
 intro floor aR ac ad J outs h k r c a w m ab m1 st Q b6;have tJ:(∀bD,c≠ .loop bD)->c.wpIn (fB r) k P Q a w->c.wpIn (fB r) k P Q a w/\∀bD,c= .loop bD->vl (fB r) k P bD Q a w:=λh1 h2=>⟨h2,λbD he=>absurd he (h1 bD)⟩
 have trans:∀ {b8:ae} {bW:World} {db:Nat->Option Nat} {eb:nu},Ext floor J w m b8 bW db->(∀y∈eb,y∈outs)->∀e bd ai,(e,bd,ai)∈eb->∀x cH av aT,ExR av aT (bq ai aT) B e x->ff P env bd cH ai av aT B->Ext floor b8 bW db ai av aT->Q x cH av:=
  λdO e8 e bd ai gn x cH av aT hx cR hex=>b6 e bd ai (e8 _ gn) x cH av aT hx cR (dO.trans st.ctx.rel hex)
 cases c with
 |skip=>
  simp only[ccode,cL] at ab;subst ab;simp only[step] at h;cases h;exact tJ (λ_ h=>by cases h) (wpIn_skip (b6 _ _ _ (kM _) .normal a w m trivial st (Ext.refl _ _ _ _)))
 |label l=>
  simp only[ccode,cL] at ab;subst ab;simp only[step] at h;cases h;exact tJ (λ_ h=>by cases h) (wpIn_label (b6 _ _ _ (kM _) .normal a w m trivial st (Ext.refl _ _ _ _)))
 |goto l=>simp only[ccode,cL] at ab;subst ab;simp[step] at h
 |refuse l=>simp only[ccode,cL] at ab;subst ab;simp[step] at h
 |exit id=>
  simp only[ccode,cL] at ab;subst ab;simp only[step] at h;cases h;exact tJ (λ_ h=>by cases h) (wpIn_exit (b6 _ _ _ (kM _) (.exit id) a w m rfl st (Ext.refl _ _ _ _)))
 |ret=>
  simp only[ccode,cL] at ab;subst ab;simp only[step] at h;cases h;exact tJ (λ_ h=>by cases h) (wpIn_ret (b6 _ _ _ (kM _) .ret a w m trivial st (Ext.refl _ _ _ _)))
 |region id ops dw=>
  refine tJ (λ_ h=>by cases h) ?_;cases dw with
  |true=>
   simp only[ccode] at ab;split at ab<;>cases ab
   ·rename_i l hl;simp only[step] at h;split at h<;>try (cases h;done)
    rename_i ej cN ws b8 hd;cases ao:(ws.all (steady env floor (b8::cN).reverse)&&swapOk env ej.bj l) with
    |false=>rw[ao] at h;cases h
    |true=>
     rw[ao,cond_true] at h;cases h;rw[C2] at ao;exact b2R _ _ _ _ _ _ _ _ hd ao.1 ao.2 k r id ops a w m hl st Q (λcH av aT h1 h2=>b6 _ _ _ (kM _) .normal cH av aT trivial h1 h2)
   ·simp[step] at h
  |false=>
   simp only[ccode] at ab;split at ab<;>cases ab
   ·rename_i l hl;simp only[step] at h;refine wpIn_region_list (V1 (q3 floor r) (λhn=>?_) _ _ _ _ _ _ _ _ hl h st Q b6);cases aR<;>cases r<;>first|rfl|exact m1.elim|simp at hn
   ·simp[step] at h
 |seq x y=>
  refine tJ (λ_ h=>by cases h) ?_;simp only[ccode] at ab;split at ab<;>cases ab;rename_i bS eY hx hy;simp only[step] at h;refine wpIn_seq ?_;obtain⟨l,vm,p6⟩:=wW h;refine(cf _ _ _ _ _ _ vm k r x a w m hx m1 st _ (λaL ej b8 gn gf aX bW db ft ga hE=>?_)).1;obtain⟨eb,eG,e8⟩:=p6 _ gn;cases aL with
  |normal=>
   cases gf<;>try exact ft.elim
   exact(cf _ _ _ _ _ _ eG k r y aX bW db hy (m1.mono hE.mono) ga Q (trans hE e8)).1
  |exit id=>cases eG;cases gf<;>first|exact ft.elim|exact b6 _ _ _ (e8 _ (kM _)) _ aX bW db ft ga hE
  |ret=>cases eG;cases gf<;>first|exact ft.elim|exact b6 _ _ _ (e8 _ (kM _)) _ aX bW db ft ga hE
  |panic v=>cases eG;cases gf<;>first|exact ft.elim|exact b6 _ _ _ (e8 _ (kM _)) _ aX bW db ft ga hE
 |cond t x y=>
  refine tJ (λ_ h=>by cases h) ?_;simp only[ccode] at ab;split at ab<;>cases ab;rename_i at' bS eY ht hx hy;simp only[step] at h;split at h<;>try (cases h;done)
  rename_i gL N2;have N3:=(st.ctx.ar ht N2).wK;refine wpIn_cond N3 ?_;cases gL with
  |true=>exact(cf _ _ _ _ _ _ h k r x a w m hx m1 st Q b6).1
  |false=>exact(cf _ _ _ _ _ _ h k r y a w m hy m1 st Q b6).1
 |block id x=>
  refine tJ (λ_ h=>by cases h) ?_;simp only[ccode] at ab;split at ab<;>cases ab;rename_i bS hx;simp only[step] at h;refine wpIn_block ?_;obtain⟨l,vm,p6⟩:=wW h;refine(cf _ _ _ _ _ _ vm k r x a w m hx m1 st _ (λaL ej b8 gn gf aX bW db ft ga hE=>?_)).1;obtain⟨eb,eG,e8⟩:=p6 _ gn;cases aL with
  |normal=>cases eG;cases gf<;>first|exact ft.elim|exact b6 _ _ _ (e8 _ (kM _)) _ aX bW db ft ga hE
  |ret=>cases eG;cases gf<;>first|exact ft.elim|exact b6 _ _ _ (e8 _ (kM _)) _ aX bW db ft ga hE
  |panic v=>cases eG;cases gf<;>first|exact ft.elim|exact b6 _ _ _ (e8 _ (kM _)) _ aX bW db ft ga hE
  |exit j=>
   cases gf<;>try exact ft.elim
   rename_i tr;have ax:j=tr:=ft;subst ax;have eG:cond (Nat.beq j id) (some [(fZ.normal,ej,b8)]) (some [(fZ.exit j,ej,b8)])=some eb:=eG;cases hb:Nat.beq j id with
   |true=>
    rw[hb,cond_true] at eG;cases eG;have:=gb hb;simp only[Exit.inBlock,this,if_true];exact b6 _ _ _ (e8 _ (kM _)) .normal aX bW db trivial ga hE
   |false=>
    rw[hb,cond_false] at eG;cases eG;have:j≠id:=λhe=>by rw[he,gQ] at hb;cases hb
    simp only[Exit.inBlock,this,if_false];exact b6 _ _ _ (e8 _ (kM _)) (.exit j) aX bW db I ga hE
 |loop x=>
  simp only[ccode] at ab;split at ab<;>cases ab;rename_i bS hx;have hL:vl (fB r) k P x Q a w:=by
   refine vl.round ?_;simp only[step] at h;obtain⟨l,vm,p6⟩:=wW h;refine(cf _ _ _ _ _ _ vm k r x a w m hx m1 st _ (λaL ej b8 gn gf aX bW db ft ga hE=>?_)).1;obtain⟨eb,eG,e8⟩:=p6 _ gn;cases aL with
   |normal=>
    cases gf<;>try exact ft.elim
    exact(cf _ _ _ _ _ _ eG k r (.loop x) aX bW db (by simp only[ccode,hx]) (m1.mono hE.mono) ga Q (trans hE e8)).2 x I
   |exit id=>cases eG;cases gf<;>first|exact ft.elim|exact b6 _ _ _ (e8 _ (kM _)) _ aX bW db ft ga hE
   |ret=>cases eG;cases gf<;>first|exact ft.elim|exact b6 _ _ _ (e8 _ (kM _)) _ aX bW db ft ga hE
   |panic v=>cases eG;cases gf<;>first|exact ft.elim|exact b6 _ _ _ (e8 _ (kM _)) _ aX bW db ft ga hE
  exact⟨hL.wpIn,λbD he=>by cases he;exact hL⟩
 |scope x=>
  refine tJ (λ_ h=>by cases h) ?_;simp only[ccode] at ab;split at ab<;>cases ab;rename_i bS hx;simp only[step] at h;refine b2O ((cf _ _ _ _ _ _ h k r x a w m hx m1 st _ (λaL ej b8 gn gf aX bW db ft ga hE=>?_)).1);cases gf with
  |goto l=>cases aL<;>exact ft.elim
  |_=>exact b6 _ _ _ gn _ aX bW db ft ga hE
 |rangeFunc g aC as b=>
  refine tJ (λ_ h=>by cases h) ?_;have iu:=ab;simp only[ccode] at ab;split at ab<;>cases ab;exact b2S _ _ _ _ _ _ _ _ _ h k r _ a w m iu m1 st Q b6
end
structure tK(P:Program)(env:Env):Prop where
 funcs:∀g b3,env.funcs g=some b3->∃fn,P.funcs[g]? =some fn/\cfunc P fn=some b3/\(fn.name== "runtime.NumGoroutine")=false
def N4{P:Program}{fn:Func}{b3:aN}(h:cfunc P fn=some b3):∃rs c ac,mapOL (resOf P) fn.results.toList=some rs/\fn.body=some c/\ccode P c=some ac/\b3={j0:=fn.params.size+fn.nfree,ntmps:=fn.ntmps,results:=rs,body:=some ac}:=by
 unfold cfunc at h;split at h<;>try (cases h;done)
 rename_i rs vn;split at h<;>try (cases h;done)
 rename_i c ab;split at h<;>cases h;rename_i ac eH;exact⟨rs,c,ac,vn,ab,eH,rfl⟩
section
variable {P:Program}{env:Env}{B:Nat}{J:ae}{w:World}{m:Nat->Option Nat}
def res1(tmps:Array Value):ResultVar->Sem Value
 | .tmp t=>pure (tmps.getD t undef)
 | .cell a t=>do loadVar t (←asAddr (tmps.getD a undef))
def b2T(fn:Func)(tmps:Array Value):results fn tmps=(do let bo <-fn.results.mapM (res1 tmps);pure (if h:bo.size=1 then bo[0] else .tuple bo)):=by
 have:(λ(x:ResultVar)=>(match x with| .tmp t=>pure (tmps.getD t undef)| .cell a t=>(do loadVar t (←asAddr (tmps.getD a undef))):Sem Value))=res1 tmps:=by
  funext x;cases x<;>rfl
 unfold results;rw[<-this];rfl
def b2U(aq:Rel P J w m B){al:a1 AV}{tmps:Array Value}(ao:ja w m (bq J m) B al tmps.toList){x:ResultVar}{r:Nat×Option (Option Nat)}(hx:resOf P x=some r){v:AV}(h:resultOf J al r=some v):
  ∃u,(res1 tmps x).run P w= .ok u w/\ag w m (bq J m) B v u:=by
 have getD:∀ {t:Nat} {u:Value},tmps.toList[t]? =some u->tmps.getD t undef=u:=λ{t u} h=>by
  rw[C0] at h;simp[h]
 cases x with
 |tmp t=>
  simp only[resOf,cL] at hx;subst hx;simp only[resultOf] at h;cases au:al.get t with
  |none=>simp[au] at h
  |some bR=>
   simp only[au,cL] at h;subst h;obtain⟨u,hu,j4⟩:=ao.1 _ _ au;exact⟨u,by simp only[res1,getD hu,fX],j4⟩
 |cell b t=>
  simp only[resOf] at hx;cases iA:shapeOf P t with
  |none=>simp[iA] at hx
  |some aa=>
   simp only[iA,cL] at hx;subst hx;simp only[resultOf] at h;split at h<;>try (cases h;done)
   ·rename_i aV;cases aV
   ·rename_i id off hS au aV;cases aV;split at h<;>try (cases h;done)
    rename_i c hg;obtain⟨u,hu,j4⟩:=ao.1 _ _ au;obtain⟨aD,hm,rfl⟩:=j4.wL;obtain⟨cj,h1,h2⟩:=UK aq iA hm hg h;exact⟨cj,by simp only[res1,getD hu,asAddr,cB,fX,e7,h1],h2⟩
def V5(aq:Rel P J w m B){al:a1 AV}{tmps:Array Value}(ao:ja w m (bq J m) B al tmps.toList){fn:Func}{rs:List (Nat×Option (Option Nat))}(hx:mapOL (resOf P) fn.results.toList=some rs){v:AV}(h:resultsOf J al rs=some v):
  ∃u,(results fn tmps).run P w= .ok u w/\ag w m (bq J m) B v u:=by
 have key:∀(l:List ResultVar) (rs:List (Nat×Option (Option Nat))) (bo:List AV),mapOL (resOf P) l=some rs->mapO (resultOf J al) rs=some bo→
   ∃us:List Value,(l.mapM (res1 tmps)).run P w= .ok us w/\bQ w m (bq J m) B bo us:=by
  intro l
  induction l with
  |nil=>
   intro rs bo h1 h2;simp[mapOL] at h1;subst h1;rw[Hr] at h2;cases h2;exact⟨[],aF,bQ.nil⟩
  |cons x l aH=>
   intro rs bo h1 h2;rw[mapOL] at h1;split at h1<;>cases h1;rename_i r b2V mx q8;rw[mapO_cons] at h2;split at h2<;>try (cases h2;done)
   rename_i bR n5;split at h2<;>cases h2;rename_i tx b2W;obtain⟨u,hu,j4⟩:=b2U aq ao mx n5;obtain⟨us,l0,b2X⟩:=aH b2V tx q8 b2W;exact⟨u::us,by simp only[List.mapM_cons,cB,hu,e7,l0,fX],bQ.cons j4 b2X⟩
 have run:∀(bo:List AV),mapO (resultOf J al) rs=some bo->∃us:List Value,(fn.results.mapM (res1 tmps)).run P w= .ok us.toArray w/\bQ w m (bq J m) B bo us:=λbo n2=>by
  obtain⟨us,h1,h2⟩:=key _ _ _ hx n2;refine⟨us,?_,h2⟩;rw[Ua];simp only[Sem.run_map,h1,e7]
 unfold resultsOf at h;rw[b2T];split at h<;>cases h
 ·rename_i au;obtain⟨us,h1,h2⟩:=run _ au;have hl:us.length=1:=h2.1;obtain⟨u,rfl⟩:∃u,us=[u]:=by cases us with|nil=>simp at hl|cons u t=>cases t with|nil=>exact⟨u,rfl⟩|cons _ _=>simp at hl
  refine⟨u,?_,h2.2 0 aF aF⟩;simp only[cB,h1,e7,fX];simp
 ·rename_i bo a7 au;obtain⟨us,h1,h2⟩:=run _ au;refine⟨.tuple us.toArray,?_,ag.u9 h2⟩;have hl:us.length≠1:=λh=>by
   rw[h2.1] at h;cases bo with
   |nil=>simp at h
   |cons v t=>cases t with|nil=>exact a7 v rfl|cons _ _=>simp at h
  simp only[cB,h1,e7,fX];simp[hl]
def o7(w:World)(m:Nat->Option Nat)(O:Nat->Prop)(B:Nat):Option AV->FrameMode->Prop
 |none,.returning=>True
 |some v,.panicking oc=>∃u,oc=[{v:=u,recovered:=false}]/\ag w m O B v u
 |_,_=>False
def o7.ext{f:Nat}{ai:ae}{av:World}{aT:Nat->Option Nat}{p:Option AV}{u:FrameMode}(h:o7 w m (bq J m) B p u)(he:Ext f J w m ai av aT)(aq:Rel P J w m B):o7 av aT (bq ai aT) B p u:=by
 cases p<;>cases u<;>first|exact h|(obtain⟨nC,h1,h2⟩:=h;exact⟨nC,h1,h2.ext he aq⟩)
def N5(P:Program)(env:Env)(B f:Nat)(call:AV->List AV->AV->ae->Option (Bool×ae)):Prop:=
 ∀ct args p J r ai,call ct args (p.getD .fP) J=some (r,ai)->∀k w m u d,Rel P J w m B->Globs env w B->o7 w m (bq J m) B p u->A7 w m (bq J m) B (.inr (ct,args)) d→
  ∃N6 cap g Ba,d.target= .fn N6 cap/\(invoke d.target d.args).run P w= .ok (.enter g Ba) w∧
   CallsDIn (fB none) k P g Ba u w (λe cj av=>(∃v,e= .returned v)/\∃aT,o7 av aT (bq ai aT) B (cond r none p) (settle cj)/\Rel P ai av aT B/\Ext f J w m ai av aT)
def b2Y(f:Nat)(call:AV->List AV->AV->ae->Option (Bool×ae))(p:Option AV)(J:ae):leave f call [] p J=some (p,J):=rfl
def leave_cons(f:Nat)(call:AV->List AV->AV->ae->Option (Bool×ae))(d:Nat ⊕ (AV×List AV))(ds:List (Nat ⊕ (AV×List AV)))(p:Option AV)(J:ae):leave f call (d::ds) p J=match d with
  | .inl b=>if Nat.blt b f then none else match J.get b with
   |some .eE=>leave f call ds p (J.set b .dead)
   |_=>none
  | .inr (ct,args)=>match call ct args (p.getD .fP) J with
   |some (r,J)=>leave f call ds (cond r none p) J
   |none=>none:=rfl
def N7{f:Nat}{call:AV->List AV->AV->ae->Option (Bool×ae)}(q3:N5 P env B f call){fn:Func}{rs:List (Nat×Option (Option Nat))}(hx:mapOL (resOf P) fn.results.toList=some rs){k:Nat}{tmps:Array Value}{al:a1 AV}:
  ∀(ds:List (Nat ⊕ (AV×List AV))) (vo:List Deferred) (p eQ:Option AV) (u:FrameMode) (J ai:ae) (w:World) (m:Nat->Option Nat),leave f call ds p J=some (eQ,ai)->jc (A7 w m (bq J m) B) ds vo->o7 w m (bq J m) B p u→
   Rel P J w m B->ja w m (bq J m) B al tmps.toList->Globs env w B->∀(ret:en),(match eQ with|some v=>some (en.err v)|none=>(resultsOf ai al rs).map en.ok)=some ret→
   ∀Q:Ending->World->Prop,(∀e av aT,se av aT (bq ai aT) B ret e->Rel P ai av aT B->Ext f J w m ai av aT->Q e av)->LeavesInM (fB none) k P fn tmps Q vo u w
 |[],vo,p,eQ,u,J,ai,w,m,h,hd,hu,aq,ao,cW,ret,l1,Q,b6=>by
  cases vo with
  |cons _ _=>exact hd.elim
  |nil=>
  rw[b2Y] at h;cases h;cases p with
  |none=>
   cases u<;>try exact hu.elim
   simp only[fs] at l1;obtain⟨v,au,rfl⟩:=l1;obtain⟨w0,h1,h2⟩:=V5 aq ao hx au;exact⟨w0,h1,b6 _ _ m h2 aq (Ext.refl _ _ _ _)⟩
  |some v=>
   cases u<;>try exact hu.elim
   simp only[cL] at l1;subst l1;exact b6 _ _ m hu aq (Ext.refl _ _ _ _)
 |d::ds,vo,p,eQ,u,J,ai,w,m,h,hd,hu,aq,ao,cW,ret,l1,Q,b6=>by
  cases vo with
  |nil=>exact hd.elim
  |cons jt vo=>
  obtain⟨ko,jO⟩:=hd;have cf:u≠ .run:=λhe=>by subst he;cases p<;>exact hu.elim
  rw[leave_cons] at h;refine⟨cf,?_⟩;cases d with
  |inl b=>
   simp only at h;split at h<;>try (cases h;done)
   rename_i ep;split at h<;>try (cases h;done)
   rename_i hg;obtain⟨aD,hm,rfl⟩:=ko;obtain⟨bX,eG,n_⟩:=aq.obj _ _ _ hm hg I;cases n_;left;have hb:=AI eG;obtain⟨mx,g9⟩:=aq.dd (f:=f) (by simpa [MD] using ep) hm ⟨_,hg,rfl⟩ (w.putObj aD (.deferred none)) .dead aF (λb a7=>VL a7) (λn hn=>by unfold eK at hn;rw[eG] at hn;cases hn) rfl rfl rfl (λh=>by cases h);refine⟨aD,w.putObj aD (.deferred none),rfl,run_takeDeferred eG,?_⟩;exact N7 q3 hx ds vo p eQ u _ ai _ m h (DM (λ_ _ hd=>hd.ext g9 aq) jO) (by
    cases p<;>cases u<;>first|exact hu|(obtain⟨nC,h1,h2⟩:=hu;exact⟨nC,h1,h2.ext g9 aq⟩)) mx (ao.ext g9 aq) (Globs.ext cW g9 aq) ret l1 Q
    (λe av aT h1 h2 h3=>b6 e av aT h1 h2 (g9.trans aq h3))
  |inr q=>
   obtain⟨ct,args⟩:=q;simp only at h;split at h<;>try (cases h;done)
   rename_i r b8 ab;obtain⟨N6,cap,g,Ba,ht,hinv,y3⟩:=q3 ct args p J r b8 ab (k-1) w m u jt aq cW hu ko;right;refine⟨λao=>by simp[fB] at ao,N6,cap,g,Ba,ht,hinv,λ_ _=>trivial,?_⟩;refine CallsDIn.mono y3 (λe cj av df=>?_);obtain⟨⟨v,rfl⟩,aT,n1,mx,g9⟩:=df;exact N7 q3 hx ds vo _ eQ (settle cj) b8 ai av aT h (DM (λ_ _ hd=>hd.ext g9 aq) jO) n1 mx (ao.ext g9 aq) (Globs.ext cW g9 aq) ret l1 Q
    (λe av aT h1 h2 h3=>b6 e av aT h1 h2 (g9.trans aq h3))
end
section
variable {P:Program}{env:Env}{B:Nat}
def N8{g:Nat}{fn:Func}(hf:P.funcs[g]? =some fn){c:Code}(hb:fn.body=some c)(hn:(fn.name== "runtime.NumGoroutine")=false)(cs args:Array Value)(w:World):
  (invoke (.fn (.func g) cs) args).run P w= .ok (.enter g (args++cs)) w:=by
 simp only[beq_eq_false_iff_ne,ne_eq] at hn;have aw:(program).run P w= .ok P w:=rfl;simp only[invoke,callFunc,cB,aw,e7,hf];simp[hn,hb]
def b2Z{α:Type}(i:Nat)(t:a1 α):a1.lay [] i t=t:=rfl
def b3a{α:Type}(x:α)(l:List α)(i:Nat)(t:a1 α):a1.lay (x::l) i t=a1.lay l (i+1) (t.set i x):=rfl
def V6{w:World}{m:Nat->Option Nat}{O:Nat->Prop}:∀(args:List AV) (us:List Value) (i:Nat) (t:a1 AV) (pre:List Value) (n:Nat),bQ w m O B args us->pre.length=i→
  ja w m O B t (pre++List.replicate (args.length+n) undef)->ja w m O B (a1.lay args i t) (pre++(us++List.replicate n undef))
 |[],us,i,t,pre,n,ha,aw,h=>by
  have:us=[]:=oU (by simpa using ha.1);subst this;rw[b2Z];simpa using h
 |x::args,us,i,t,pre,n,ha,aw,h=>by
  cases us with
  |nil=>have:=ha.1;simp at this
  |cons u us=>
   rw[b3a];have hx:ag w m O B x u:=ha.2 0 aF aF;have N9:bQ w m O B args us:=by simpa using ha.drop 1
   have key:=V6 args us (i+1) (t.set i x) (pre++[u]) n N9 (by simp[aw]) (by
    have V7:=ja.put (tmps:=(pre++List.replicate ((x::args).length+n) undef).toArray) (by simpa using h) i hx;have aL:((pre++List.replicate ((x::args).length+n) undef).toArray.setIfInBounds i u).toList=(pre++[u])++List.replicate (args.length+n) undef:=by
     simp only[VM];rw[<-aw,List.set_append_right _ _ (bs _),Hd];have a5:(x::args).length+n=(args.length+n)+1:=by simp;omega
     rw[a5,DG,List.set_cons_zero];simp
    rw[aL] at V7;exact V7)
   simpa using key
def b3b{w:World}{m:Nat->Option Nat}{O:Nat->Prop}(n:Nat):ja w m O B (a1.full n ei n) (List.replicate n undef):=by
 refine⟨λi v au=>?_,λi au=>?_⟩
 ·obtain⟨rfl,hi⟩:=a1.Ht _ _ _ _ _ au;exact⟨undef,by simp[hi],ag.undef⟩
 ·rcases MG i n with h|h
  ·rw[a1.Hs n n i ei h (bs _)] at au;cases au
  ·exact q1 (by simpa using h)
def V8{fn:Func}{b3:aN}(b3c:b3.ntmps=fn.ntmps){J:ae}{w:World}{m:Nat->Option Nat}(aq:Rel P J w m B)(cW:Globs env w B){args:List AV}(hle:args.length<=fn.ntmps){us:Array Value}(ha:bQ w m (bq J m) B args us.toList):
  ff P env (u3 b3 args) {tmps:=us++Array.replicate (fn.ntmps-us.size) undef,defers:=[]} J w m B:=by
 refine⟨⟨aq,?_,cW⟩,trivial⟩;have hl:us.size=args.length:=by have:=ha.1;simpa using this
 simp only[u3,NL,Array.toList_replicate,b3c,hl];have:=V6 args us.toList 0 (a1.full fn.ntmps ei fn.ntmps) [] (fn.ntmps-args.length) ha I (by
  have e:args.length+(fn.ntmps-args.length)=fn.ntmps:=by omega
  rw[e];simpa using b3b fn.ntmps)
 simpa using this
def N_(gT:tK P env){run:ju}(cf:q7 P env B run){f:Nat}(hd:N5 P env B f (callD env f)){g:Nat}{args:List AV}{J:ae}{kn:List (en×ae)}(h:runF env run f g args J=some kn)(k:Nat)(r:Option Nat)
  {w:World} {m:Nat->Option Nat} (aq:Rel P J w m B) (cW:Globs env w B) {us:Array Value} (ha:bQ w m (bq J m) B args us.toList):
  (∃fn c,P.funcs[g]? =some fn/\fn.body=some c/\(fn.name== "runtime.NumGoroutine")=false)∧
  CallsIn (fB r) k P g us w (λe av=>∃ret ai,(ret,ai)∈kn/\∃aT,se av aT (bq ai aT) B ret e/\Rel P ai av aT B/\Ext f J w m ai av aT):=by
 unfold runF at h;cases hg:env.funcs g with
 |none=>simp[hg] at h
 |some b3=>
  obtain⟨fn,hfn,h7,y4⟩:=gT.funcs g b3 hg;obtain⟨rs,c,ac,vn,y5,eH,rfl⟩:=N4 h7;simp only[hg] at h;refine⟨⟨fn,c,hfn,y5,y4⟩,?_⟩;cases hb:(Nat.beq args.length (fn.params.size+fn.nfree)&&Nat.ble args.length fn.ntmps) with
  |false=>rw[hb] at h;cases h
  |true=>
   rw[hb,cond_true] at h;simp only[C2,NJ] at hb;obtain⟨l,hex,p6⟩:=wW h;have cR:=V8 (fn:=fn) (b3:={j0:=fn.params.size+fn.nfree,ntmps:=fn.ntmps,results:=rs,body:=some ac}) I aq cW hb.2 ha;show CallsIn (fB none) k P g us w _;refine callsIn_of_wp_marks hfn y5 trivial ((cf _ _ _ _ _ _ hex k none c _ w m eH trivial cR _ (λe ej b8 gn gf aX bW db ft ga hE=>?_)).1);obtain⟨eb,eG,e8⟩:=p6 _ gn;have fin:∀(eQ:Option AV) (cT:ae) (ret:en),leave f (callD env f) ej.defers (Hn e) b8=some (eQ,cT)->(match eQ with|some v=>some (en.err v)|none=>(resultsOf cT ej.bj rs).map en.ok)=some ret->(ret,cT)∈kn→
     ∀u,o7 bW db (bq b8 db) B (Hn e) u->LeavesInM (fB none) k P fn aX.tmps (λe av=>∃ret ai,(ret,ai)∈kn/\∃aT,se av aT (bq ai aT) B ret e/\Rel P ai av aT B/\Ext f J w m ai av aT) aX.defers u bW:=λeQ cT ret hl l1 j5 u hu=>
    N7 hd vn _ _ _ _ _ _ _ _ _ hl ga.defs hu ga.ctx.rel ga.ctx.bj ga.ctx.globs ret l1 _ (λe av aT h1 h2 h3=>⟨ret,cT,j5,aT,h1,h2,hE.trans aq h3⟩)
   have go:(∀id,e≠ .exit id)->∀u,o7 bW db (bq b8 db) B (Hn e) u->LeavesInM (fB none) k P fn aX.tmps (λe av=>∃ret ai,(ret,ai)∈kn/\∃aT,se av aT (bq ai aT) B ret e/\Rel P ai av aT B/\Ext f J w m ai av aT) aX.defers u bW:=λa7 u hu=>by
    unfold endF at eG;split at eG
    ·rename_i he;cases he;exact absurd I (a7 _)
    rename_i c4 bd ai g9 nA;cases nA;split at eG<;>try (cases eG;done)
    ·rename_i mY;cases eG;exact fin _ _ _ mY I (e8 _ (kM _)) u hu
    ·rename_i mY;split at eG<;>cases eG;rename_i df;exact fin _ _ _ mY (by simp[df]) (e8 _ (kM _)) u hu
   cases e with
   |exit id=>cases eG
   |normal=>cases gf<;>first|exact ft.elim|exact go (λ_ h=>by cases h) _ trivial
   |ret=>cases gf<;>first|exact ft.elim|exact go (λ_ h=>by cases h) _ trivial
   |panic v=>cases gf<;>first|exact ft.elim|exact go (λ_ h=>by cases h) _ ft
end
def wpListS(F:Fence)(n:Nat)(P:Program)(ops:Array Oper)(Q:Exit->Act->List Frame->World->Prop):List Oper->Act->List Frame->World->Prop
 |[],a,cs,w=>Q .normal a cs w
 |o::rest,a,cs,w=>
   (∀f,o.about P w a.eval=some f->F.fn f)∧
   if Region.wanted o (yielded ops a.tmps) then
    match(execOp a.eval o).run P w with
    | .ok .recover av=>
     match recoverD cs with
     |some (v,fz)=>wpListS F n P ops Q rest (a.put o.dst v) fz av
     |none=>wpListS F n P ops Q rest (a.put o.dst .nilIface) cs av
    | .ok (.value v) av=>wpListS F n P ops Q rest (a.put o.dst v) cs av
    | .ok .skip av=>wpListS F n P ops Q rest (a.put o.dst undef) cs av
    | .halt (.panic v) av=>Q (.panic [{v,recovered:=false}]) a cs av
    |_=>False
   else wpListS F n P ops Q rest (a.put o.dst undef) cs w
def b3d{F:Fence}{n:Nat}{P:Program}{ops:Array Oper}{Q:Exit->Act->List Frame->World->Prop}(l:List Oper):∀k,(∀j,l[j]? =ops[k+j]?)->∀a cs w,wpListS F n P ops Q l a cs w->wpOpsSIn F n P ops Q (List.range' k l.length) a cs w:=by
 induction l with
 |nil=>intro k _ a cs w h;simpa [wpOpsSIn,wpListS] using h
 |cons o l aH=>
  intro k h a cs w hh;have h0:ops[k]? =some o:=by simpa using (h 0).symm
  have DU:=aH (k+1) (λj=>by have:=h (j+1);simpa [MJ,uX 1 j] using this);simp only[CZ,List.range'_succ,wpOpsSIn,h0];simp only[wpListS] at hh;refine⟨hh.1,?_⟩;have hh:=hh.2;split at hh
  ·rename_i hw;rw[if_pos hw];split at hh
   ·rename_i aq;simp only[aq];split at hh
    ·rename_i DV;simp only[DV];exact DU _ _ _ hh
    ·rename_i DV;simp only[DV];exact DU _ _ _ hh
   ·rename_i aq;simp only[aq];exact DU _ _ _ hh
   ·rename_i aq;simp only[aq];exact DU _ _ _ hh
   ·rename_i aq;simp only[aq];exact hh
   ·exact hh.elim
  ·rename_i hw;rw[if_neg hw];exact DU _ _ _ hh
def b3e{F:Fence}{n:Nat}{P:Program}{id:Nat}{ops:Array Oper}{Q:Exit->Act->List Frame->World->Prop}{a:Act}{cs:List Frame}{w:World}(h:wpListS F n P ops Q ops.toList a cs w):(Code.region id ops false).wpSIn F n P Q a cs w:=
 wpSIn_region (by rw[List.range_eq_range',← dD];exact b3d _ 0 aF _ _ _ h)
def DW:FrameMode->FrameMode
 | .panicking [{v,..}]=>.panicking [{v,recovered:=true}]
 |u=>u
section
variable {P:Program}{env:Env}{B:Nat}
def w1(mB:Frame)(cs:List Frame)(u:FrameMode)(gg:Bool)(fz:List Frame):Prop:=fz={mB with mode:=if gg then DW u else u}::cs
def b3f{o:Oper}(h:cop P o=some .recover)(a:Act)(w:World):(execOp a.eval o).run P w= .ok .recover w:=by
 unfold cop at h;split at h
 all_goals first
  |(cases h;done)
  |(simp only[fs,reduceCtorEq,and_false,exists_false] at h;done)
  |(simp only[eD,dU,eU,cL,reduceCtorEq,and_false,exists_false] at h;done)
  |skip
 all_goals first
  |(
    rename_i ho;split at h
    all_goals first
     |(cases h;done)
     |(rw[HW ho];simp[builtin];done)
     |(
      exfalso
      repeat' first
       |(cases h;done)
       |(simp only[fs,reduceCtorEq,and_false,exists_false] at h;done)
       |(simp only[eD,dU,eU,cL,reduceCtorEq,and_false,exists_false] at h;done)
       |split at h
       |(obtain⟨_,_,h⟩:=h)
       |(simp only[eD,dU,eU,cL] at h)))
  |(
    exfalso
    repeat' first
     |(cases h;done)
     |(simp only[fs,reduceCtorEq,and_false,exists_false] at h;done)
     |(simp only[eD,dU,eU,cL,reduceCtorEq,and_false,exists_false] at h;done)
     |split at h
     |(obtain⟨_,_,h⟩:=h)
     |(simp only[eD,dU,eU,cL] at h))
def V9{f:Nat}{p:Option AV}{u:FrameMode}{mB:Frame}{cs:List Frame}{ops:Array Oper}{k:Nat}:
  ∀(ol:List Oper) (cC:List a4) (ad bd:Fr) (J ai:ae) (e:fZ) (a:Act) (w:World) (m:Nat->Option Nat) (je:List Frame),mapOL (coper P ops) ol=some cC→
   rZ env f (λ_ _ _=>none) (some (p.getD .fP)) false cC ad J=some (e,bd,ai)->ff P env ad a J w m B->o7 w m (bq J m) B p u->w1 mB cs u ad.gg je→
   ∀Q:Exit->Act->List Frame->World->Prop,(∀x cH fz av aT,ExR av aT (bq ai aT) B e x->ff P env bd cH ai av aT B->Ext f J w m ai av aT->w1 mB cs u bd.gg fz->Q x cH fz av)->wpListS (fB none) k P ops Q ol a je w
 |[],cC,ad,bd,J,ai,e,a,w,m,je,hm,h,st,hu,hd,Q,b6=>by
  simp[mapOL] at hm;subst hm;rw[b2F] at h;cases h;exact b6 .normal a je w m trivial st (Ext.refl _ _ _ _) hd
 |o::ol,cC,ad,bd,J,ai,e,a,w,m,je,hm,h,st,hu,hd,Q,b6=>by
  rw[mapOL] at hm;split at hm<;>cases hm;rename_i aY DP ho pT;obtain⟨dP,jy⟩:=H3 ho;rw[runOpsD_cons] at h;rw[wpListS,H0 ho st.ctx.bj];refine⟨λ_ _=>trivial,?_⟩;have next:∀ {ej:Fr} {aX:Act} {b8:ae} {bW:World} {db:Nat->Option Nat} {sj:List Frame},rZ env f (λ_ _ _=>none) (some (p.getD .fP)) false DP ej b8=some (e,bd,ai)->ff P env ej aX b8 bW db B->Ext f J w m b8 bW db->w1 mB cs u ej.gg sj->wpListS (fB none) k P ops Q ol aX sj bW:=
   λ{ej aX b8 bW db sj} h1 hD dO ko=>V9 ol DP ej bd b8 ai e aX bW db sj pT h1 hD (hu.ext dO st.ctx.rel) ko Q (λx cH fz av aT hx cR hex=>b6 x cH fz av aT hx cR (dO.trans st.ctx.rel hex))
  have Bb:∀(ad:Fr) d v,(ad.put d v).gg=ad.gg:=λad d v=>by cases d<;>rfl
  cases hw:wantedA aY.guard ad.bj with
  |false=>
   rw[hw,cond_false] at h;simp only[T8,if_false];refine next h ?_ (Ext.refl _ _ _ _) (by rw[Bb];exact hd)
   rw[jy];exact st.put _ ag.undef
  |true=>
   rw[hw,cond_true] at h;simp only[if_true];split at h
   ·-- recover
    rename_i DV;simp only at h;have cf:=b3f (P:=P) (DO (dP.symm.trans DV) aF) a w;rw[cf];simp only;unfold w1 at hd;subst hd;have Oa:ff P env ⟨ad.bj,ad.defers,true⟩ a J w m B:=⟨st.ctx,st.defs⟩
    cases aq:ad.gg with
    |true=>
     rw[aq] at h;have u7:recoverD ({mB with mode:=if true=true then DW u else u}::cs)=none:=by
      cases p<;>cases u<;>first|exact hu.elim|rfl|(obtain⟨nC,rfl,_⟩:=hu;rfl)
     rw[u7];simp only;have oh:=Oa.put aY.dst (v:=.fP) (u:=.nilIface) ag.fP;rw[jy] at oh h;exact next h oh (Ext.refl _ _ _ _) (by rw[Bb];rfl)
    |false=>
     rw[aq] at h;cases p with
     |none=>
      cases u<;>try exact hu.elim
      have u7:recoverD ({mB with mode:=if false=true then DW .returning else .returning}::cs)=none:=rfl;rw[u7];simp only;have oh:=Oa.put aY.dst (v:=.fP) (u:=.nilIface) ag.fP;rw[jy] at oh h;exact next h oh (Ext.refl _ _ _ _) (by rw[Bb];rfl)
     |some v=>
      cases u<;>try exact hu.elim
      obtain⟨nC,rfl,j4⟩:=hu;have Np:recoverD ({mB with mode:=if false=true then DW (.panicking [{v:=nC,recovered:=false}]) else .panicking [{v:=nC,recovered:=false}]}::cs)=some (nC,{mB with mode:=.panicking [{v:=nC,recovered:=true}]}::cs):=rfl;rw[Np];simp only;have oh:=Oa.put aY.dst j4;rw[jy] at oh h;exact next h oh (Ext.refl _ _ _ _) (by rw[Bb];rfl)
   ·rename_i op a7;generalize NY:aY.op=cJ at h dP;have ab:∀res,opx f (evalA env ad.bj) J cJ=some res->cop P o=some cJ:=λres df=>DO dP.symm (λhb=>by subst hb;simp[opx] at df);split at h
    ·rename_i v b8 hx;obtain⟨w0,bW,db,cf,hR,od,dO⟩:=A6 st.ctx (ab _ hx) hx;have cR:=(st.ext dO od).put aY.dst hR;rw[jy] at cR h;rcases cf with cf|⟨cf,rfl⟩
     ·rw[cf];exact next h cR dO (by rw[Bb];exact hd)
     ·rw[cf];exact next h cR dO (by rw[Bb];exact hd)
    ·cases h
    ·simp at h
    ·rename_i v hx;cases h;obtain⟨x,t,nC,rfl,q5,rfl⟩:=V0 hx;obtain⟨q6,N1,wZ⟩:=VY (ab _ hx);have sg:=st.ctx.ar N1 q5;obtain⟨cj,tA⟩:∃cj,a.eval q6= .iface t cj:=by
      revert sg;generalize a.eval q6=nC;intro sg;cases sg;exact⟨_,rfl⟩
     have cf:=VZ (P:=P) wZ tA w;rw[cf];rw[tA] at sg;exact b6 _ _ _ _ m ⟨_,rfl,sg⟩ st (Ext.refl _ _ _ _) hd
    ·cases h
    ·cases h
def runD_ok{f:Nat}{p:Option AV}{u:FrameMode}{mB:Frame}{cs:List Frame}{k:Nat}:
  ∀(c:Code) (ac:bF) (ad bd:Fr) (J ai:ae) (e:fZ) (a:Act) (w:World) (m:Nat->Option Nat) (je:List Frame),ccode P c=some ac→
   wI env f (p.getD .fP) ac ad J=some (e,bd,ai)->ff P env ad a J w m B->o7 w m (bq J m) B p u->w1 mB cs u ad.gg je→
   ∀Q:Exit->Act->List Frame->World->Prop,(∀x cH fz av aT,ExR av aT (bq ai aT) B e x->ff P env bd cH ai av aT B->Ext f J w m ai av aT->w1 mB cs u bd.gg fz->Q x cH fz av)->c.wpSIn (fB none) k P Q a je w:=by
 intro c
 induction c with
 |skip=>
  intro ac ad bd J ai e a w m je ab h st hu hd Q b6;simp only[ccode,cL] at ab;subst ab;have h':some (fZ.normal,ad,J)=some (e,bd,ai):=h;cases h';exact wpSIn_of_wpIn I (wpIn_skip (b6 .normal a je w m trivial st (Ext.refl _ _ _ _) hd))
 |ret=>
  intro ac ad bd J ai e a w m je ab h st hu hd Q b6;simp only[ccode,cL] at ab;subst ab;have h':some (fZ.ret,ad,J)=some (e,bd,ai):=h;cases h';exact wpSIn_of_wpIn I (wpIn_ret (b6 .ret a je w m trivial st (Ext.refl _ _ _ _) hd))
 |label l=>
  intro ac ad bd J ai e a w m je ab h st hu hd Q b6;simp only[ccode,cL] at ab;subst ab;have h':some (fZ.normal,ad,J)=some (e,bd,ai):=h;cases h';exact wpSIn_of_wpIn I (wpIn_label (b6 .normal a je w m trivial st (Ext.refl _ _ _ _) hd))
 |region id ops dw=>
  intro ac ad bd J ai e a w m je ab h st hu hd Q b6;cases dw with
  |true=>
   simp only[ccode] at ab;split at ab<;>cases ab<;>(have h':none=some (e,bd,ai):=h;cases h')
  |false=>
   simp only[ccode] at ab;split at ab<;>cases ab
   ·rename_i l hl;have h':rZ env f (λ_ _ _=>none) (some (p.getD .fP)) false l ad J=some (e,bd,ai):=h;exact b3e (V9 _ _ _ _ _ _ _ _ _ _ _ hl h' st hu hd Q b6)
   ·have h':none=some (e,bd,ai):=h;cases h'
 |seq x y H4 H5=>
  intro ac ad bd J ai e a w m je ab h st hu hd Q b6;simp only[ccode] at ab;split at ab<;>cases ab;rename_i bS eY hx hy;have h':(match wI env f (p.getD .fP) bS ad J with|some (.normal,ad,J)=>wI env f (p.getD .fP) eY ad J|r=>r)=some (e,bd,ai):=h;refine wpSIn_seq ?_;cases vm:wI env f (p.getD .fP) bS ad J with
  |none=>simp[vm] at h'
  |some res=>
   obtain⟨aL,ej,b8⟩:=res;simp only[vm] at h';refine H4 bS ad ej J b8 aL a w m je hx vm st hu hd _ (λgf aX sj bW db ft ga hE ko=>?_);cases aL with
   |normal=>
    cases gf<;>try exact ft.elim
    exact H5 eY ej bd b8 ai e aX bW db sj hy h' ga (hu.ext hE st.ctx.rel) ko Q (λx cH fz av aT h1 h2 h3 aO=>b6 x cH fz av aT h1 h2 (hE.trans st.ctx.rel h3) aO)
   |exit id=>cases h';cases gf<;>first|exact ft.elim|exact b6 _ aX sj bW db ft ga hE ko
   |ret=>cases h';cases gf<;>first|exact ft.elim|exact b6 _ aX sj bW db ft ga hE ko
   |panic v=>cases h';cases gf<;>first|exact ft.elim|exact b6 _ aX sj bW db ft ga hE ko
 |cond t x y H4 H5=>
  intro ac ad bd J ai e a w m je ab h st hu hd Q b6;simp only[ccode] at ab;split at ab<;>cases ab;rename_i at' bS eY ht hx hy;have h':(match evalA env ad.bj at' with|some (.b t)=>cond t (wI env f (p.getD .fP) bS ad J) (wI env f (p.getD .fP) eY ad J)|_=>none)=some (e,bd,ai):=h;split at h'<;>try (cases h';done)
  rename_i gL N2;have N3:=(st.ctx.ar ht N2).wK;refine wpSIn_cond N3 ?_;cases gL with
  |true=>exact H4 bS ad bd J ai e a w m je hx h' st hu hd Q b6
  |false=>exact H5 eY ad bd J ai e a w m je hy h' st hu hd Q b6
 |block id x aH=>
  intro ac ad bd J ai e a w m je ab h st hu hd Q b6;simp only[ccode] at ab;split at ab<;>cases ab;have h':none=some (e,bd,ai):=h;cases h'
 |loop x aH=>
  intro ac ad bd J ai e a w m je ab h st hu hd Q b6;simp only[ccode] at ab;split at ab<;>cases ab;have h':none=some (e,bd,ai):=h;cases h'
 |scope x aH=>
  intro ac ad bd J ai e a w m je ab h st hu hd Q b6;simp only[ccode] at ab;split at ab<;>cases ab;have h':none=some (e,bd,ai):=h;cases h'
 |rangeFunc g aC x y H4 H5=>
  intro ac ad bd J ai e a w m je ab h st hu hd Q b6;simp only[ccode] at ab;split at ab<;>cases ab;have h':none=some (e,bd,ai):=h;cases h'
 |exit id=>
  intro ac ad bd J ai e a w m je ab h st hu hd Q b6;simp only[ccode,cL] at ab;subst ab;have h':none=some (e,bd,ai):=h;cases h'
 |goto l=>
  intro ac ad bd J ai e a w m je ab h st hu hd Q b6;simp only[ccode,cL] at ab;subst ab;have h':none=some (e,bd,ai):=h;cases h'
 |refuse l=>
  intro ac ad bd J ai e a w m je ab h st hu hd Q b6;simp only[ccode,cL] at ab;subst ab;have h':none=some (e,bd,ai):=h;cases h'
def b3g{J:ae}{w:World}{m:Nat->Option Nat}{O:Nat->Prop}{p:Option AV}{u:FrameMode}(h:o7 w m O B p u)(r:Bool):o7 w m O B (cond r none p) (settle (if r then DW u else u)):=by
 cases p with
 |none=>cases u<;>first|exact h.elim|(cases r<;>trivial)
 |some v=>
  cases u<;>try exact h.elim
  obtain⟨nC,rfl,hR⟩:=h;cases r with
  |true=>trivial
  |false=>exact⟨nC,rfl,hR⟩
def Ob(gT:tK P env)(f:Nat):N5 P env B f (callD env f):=by
 intro ct args p J r ai h k w m u d aq cW hu hd;obtain⟨g,a8,cs,g0,fz,us,rfl,rfl,Oc,Od,l0⟩:=hd;unfold callD at h;simp only at h;split at h<;>try (cases h;done)
 rename_i b3 hg;obtain⟨fn,hfn,h7,y4⟩:=gT.funcs g b3 hg;obtain⟨rs,c,ac,vn,y5,eH,rfl⟩:=N4 h7;simp only at h;cases hb:(Nat.beq (a8++args++cs).length (fn.params.size+fn.nfree)&&Nat.ble (a8++args++cs).length fn.ntmps) with
 |false=>rw[hb] at h;cases h
 |true=>
  rw[hb,cond_true] at h;simp only[C2,NJ] at hb;have hinv:=N8 (P:=P) hfn y5 y4 fz (g0++us) w;have p5:bQ w m (bq J m) B (a8++args++cs) (g0++us++fz).toList:=by
   simp only[NL];exact(Oc.append l0).append Od
  have cR:=V8 (fn:=fn) (b3:={j0:=fn.params.size+fn.nfree,ntmps:=fn.ntmps,results:=rs,body:=some ac}) I aq cW hb.2 p5;refine⟨_,_,g,_,rfl,hinv,?_⟩;refine callsDIn_of_wpSIn hfn y5 trivial (λmB o8 b3h=>?_);have oi:w1 mB o8 u false (mB::o8):=by
   unfold w1;simp only[T8,if_false];rw[<-b3h]
  have fin:∀(e:fZ) (ej:Fr) (b8:ae),wI env f (p.getD .fP) ac (u3 {j0:=fn.params.size+fn.nfree,ntmps:=fn.ntmps,results:=rs,body:=some ac} (a8++args++cs)) J=some (e,ej,b8)->(e= .normal\/e= .ret)->ej.defers=[]->(∃v,resultsOf b8 ej.bj rs=some v)->r=ej.gg->ai=b8→
    c.wpSIn (fB none) k P (bodyPostS P fn mB o8 (λe cj av=>(∃v,e= .returned v)/\∃aT,o7 av aT (bq ai aT) B (cond r none p) (settle cj)/\Rel P ai av aT B/\Ext f J w m ai av aT)) {tmps:=g0++us++fz++Array.replicate (fn.ntmps-(g0++us++fz).size) undef,defers:=[]} (mB::o8) w:=by
   rintro e ej b8 cf he b3i ⟨v,df⟩ rfl rfl;refine runD_ok c ac _ ej J ai e _ w m _ eH cf cR hu oi _ (λx aX sj bW db ft ga hE ko=>?_);have Bc:aX.defers=[]:=by
    have:=ga.defs;rw[b3i] at this;cases aV:aX.defers with
    |nil=>rfl
    |cons _ _=>rw[aV] at this;exact this.elim
   obtain⟨w0,j4,_⟩:=V5 (fn:=fn) ga.ctx.rel ga.ctx.bj vn df;have V_:aX.defers=[]/\∃cj,sj={mB with mode:=cj}::o8/\∃v,(results fn aX.tmps).run P bW= .ok v bW/\((∃bR,Ending.returned v= .returned bR)/\∃aT,o7 bW aT (bq ai aT) B (cond ej.gg none p) (settle cj)/\Rel P ai bW aT B/\Ext f J w m ai bW aT):=
    ⟨Bc,_,ko,w0,j4,⟨w0,rfl⟩,db,b3g (J:=ai) (hu.ext hE aq) ej.gg,ga.ctx.rel,hE⟩
   rcases he with rfl|rfl
   ·cases x<;>first|exact ft.elim|exact V_
   ·cases x<;>first|exact ft.elim|exact V_
  split at h<;>try (cases h;done)
  ·rename_i ej b8 cf;split at h<;>cases h;rename_i ko df;exact fin .normal ej ai cf (.inl I) ko ⟨_,df⟩ I I
  ·rename_i ej b8 cf;split at h<;>cases h;rename_i ko df;exact fin .ret ej ai cf (.inr I) ko ⟨_,df⟩ I I
end
def Wa{w:World}{b n:Nat}(h:eK w b=some n):b<w.heap.size:=by
 rcases MG b w.heap.size with h1|h1
 ·exact h1
 ·simp[eK,oQ h1] at h
def Wb(J:ae)(base:Nat)(v:AV):freeze J base 0 v=none:=rfl
def freeze_succ(J:ae)(base n:Nat)(v:AV):freeze J base (n+1) v=match v with
  | .al id off len aa cap=>if Nat.blt id base then none else
   match readList J (.al id off len aa cap) with
   |none=>none
   |some xs=>match mapO (freeze J base n) xs with|none=>none|some xs=>some (.a_ false aa xs)
  | .R l=>match mapO (freeze J base n) l with|none=>none|some l=>some (.R l)
  | .a0 l=>match mapO (freeze J base n) l with|none=>none|some l=>some (.a0 l)
  | .it t v=>match freeze J base n v with|none=>none|some v=>some (.it t v)
  | .p (some _)=>none
  | .m (some _)=>none
  | .f _ _ _=>none
  |v=>some v:=rfl
def Wc{J:ae}{base:Nat}{aa:Option Nat}:∀ {n:Nat} {v bR:AV},freeze J base n v=some bR->conf aa v=true->conf aa bR=true
 |0,v,bR,h,_=>by rw[Wb] at h;cases h
 |n+1,v,bR,h,ab=>by
  rw[freeze_succ] at h;split at h
  ·split at h<;>try (cases h;done)
   split at h<;>try (cases h;done)
   split at h<;>cases h;cases aa<;>simp[conf] at ab ⊢
  ·split at h<;>cases h;rename_i l cu hl;have:=(o0 hl).1;cases aa with
   |none=>simp[conf] at ab
   |some k=>simp[conf] at ab ⊢;omega
  ·split at h<;>cases h;cases aa<;>simp[conf] at ab
  ·split at h<;>cases h;cases aa<;>simp[conf] at ab ⊢
  ·cases h
  ·cases h
  ·cases h
  ·cases h;exact ab
section
variable {P:Program}{J:ae}{w:World}{m:Nat->Option Nat}{B:Nat}
def ag.Wd{O:Nat->Prop}{v:AV}{aa:Option Nat}(ab:conf aa v=true){us:List Value}(h:bQ w m O B v.cells us)(hf:∀x∈v.cells,conf none x=true):∃u,ag w m O B v u/\u.cells.toList=us:=by
 cases aa with
 |none=>
  have au:v.cells=[v]:=by cases v<;>simp[conf] at ab<;>rfl
  rw[au] at h;have hl:us.length=1:=h.1;obtain⟨u,rfl⟩:∃u,us=[u]:=by cases us with|nil=>simp at hl|cons u t=>cases t with|nil=>exact⟨u,rfl⟩|cons _ _=>simp at hl
  have aq:=h.2 0 aF aF;simp at aq;refine⟨u,aq,?_⟩;have:=aq.cells;cases aq with
  |y h=>rcases h.alt with⟨_,_,rfl⟩|⟨_,rfl⟩<;>rfl
  |gu hu h=>subst hu;rfl
  |_=>first|rfl|(simp[conf] at ab)
 |some n=>
  cases v<;>simp[conf] at ab;rename_i l;exact⟨.agg us.toArray,ag.yz h hf,by simp[Value.cells]⟩
def Oe{di:ae}{eM:World}{e9:Nat->Option Nat}(p7:Rel P di eM e9 B)(aq:Rel P J w m B)(he:Ext di.next di eM e9 J w m):
  ∀(n:Nat) (v bR:AV) (u:Value),freeze J di.next n v=some bR->ag w m (bq J m) B v u->ag w (λ_=>none) (bq di e9) B bR u
 |0,v,bR,u,h,_=>by rw[Wb] at h;cases h
 |n+1,v,bR,u,h,au=>by
  have ch:∀aD,bq di e9 aD->bq J m aD:=λaD ⟨id,h1,o,h2,h3⟩=>⟨id,he.mono _ _ h1,o,by rw[he.low id (p7.gi _ _ h1).2 (p7.gi _ _ h1).2];exact h2,h3⟩
  have aH:=λv bR u h au=>Oe p7 aq he n v bR u h au;have jP:∀ {v:AV} {u:Value},ag w (λ_=>none) (bq J m) B v u->ag w (λ_=>none) (bq di e9) B v u:=λh=>h.mono (λ_ _ h=>h) (bs _) (λ_ _ h=>h) (λb _ hb=>⟨rfl,λho=>hb (ch b ho)⟩);have list:∀ {l cu:List AV} {us:List Value},mapO (freeze J di.next n) l=some cu->bQ w m (bq J m) B l us->bQ w (λ_=>none) (bq di e9) B cu us:=λ{l cu us} hl l0=>by
   obtain⟨h1,h2⟩:=o0 hl;refine⟨by rw[l0.1,h1],λi hi dq=>?_⟩;exact aH _ _ _ (h2 i U hi) (l0.2 i U dq)
  rw[freeze_succ] at h;split at h
  ·-- a slice over u1 c7L own part
   rename_i id off len aa cap;split at h<;>try (cases h;done)
   rename_i HS;split at h<;>try (cases h;done)
   rename_i xs dG;split at h<;>cases h;rename_i p8 y6;have c7M:di.next<=id:=by simpa [MD] using HS
   have vh:∀a∈xs,conf aa a=true:=by
    simp only[readList] at dG;split at dG<;>try (cases dG;done)
    rename_i c hg;cases au with
    |al hm hl hB hn mU=>
     obtain⟨arr,el,bp,hh,n6,r4,a6,kZ⟩:=aq.cells hm hg;exact(AQ (λx hx=>kZ x (pK hx)) dG).2.2.2
   have hlen:xs.length=len:=by
    simp only[readList] at dG;split at dG<;>try (cases dG;done)
    rename_i c hg;cases au with
    |al hm hl hB hn mU=>
     obtain⟨arr,el,bp,hh,n6,r4,a6,kZ⟩:=aq.cells hm hg;exact(AQ (λx hx=>kZ x (pK hx)) dG).1
   obtain⟨h1,h2⟩:=o0 y6;obtain⟨base,c,us,hu,hle,AT,A1,kI,n3⟩:=Du aq au dG vh;cases au with
   | @al _ _ _ _ _ _ aD hF gl _ _ hm hl hB hn mU=>
    cases hu;simp only at n3;have ly:¬bq di e9 aD/\B<=aD:=by
     refine⟨λho=>?_,aq.base _ _ hm⟩;rcases he.new _ _ hm with h3|⟨_,h3|⟨i,hi,aO,bI⟩⟩
     ·have:=(p7.gi _ _ h3).2;omega
     ·have:=p7.UE ho;omega
     ·have:=UF bI;omega
    have hmul:∀i,i<xs.length->i*shN aa+shN aa<=xs.length*shN aa:=λi hi=>by
     have:=jX (shN aa) (show i+1<=xs.length from hi);rw[G_,qK] at this;exact this
    have AR:∀(l:List AV),(∀a∈l,conf aa a=true)->∀i (hi:i<l.length),(l[i]).cells=((l.flatMap AV.cells).drop (i*shN aa)).take (shN aa):=by
     intro l
     induction l with
     |nil=>intro _ i hi;simp at hi
     |cons x l g6=>
      intro hl i hi;have hx:=vc (hl x aF);cases i with
      |zero=>simp[jY,hx]
      |succ i=>
       have:=g6 (λa ha=>hl a (by simp[ha])) i (by simpa using hi);rw[Hb,this,jY,List.drop_append];have aL:(i+1)*shN aa-x.cells.length=i*shN aa:=by rw[hx,G_,qK];omega
       have a5:x.cells.drop ((i+1)*shN aa)=[]:=NM (by rw[hx,G_,qK];omega);rw[aL,a5,yQ]
    have elem:∀i (hi:i<xs.length) (dq:i<p8.length),bQ w (λ_=>none) (bq di e9) B (p8[i]).cells ((us.drop (i*shN aa)).take (shN aa))/\conf aa (p8[i])=true/\∀x∈(p8[i]).cells,conf none x=true:=λi hi dq=>by
     have w2:=vh _ (gC hi);have l2:∀x∈(xs[i]).cells,conf none x=true:=λx hx=>kI x (Ay.2 ⟨_,gC hi,hx⟩);have Of:bQ w m (bq J m) B (xs[i]).cells ((us.drop (i*shN aa)).take (shN aa)):=by
      rw[AR xs vh i hi];exact(AT.drop _).take _
     obtain⟨b3j,Og,Oh⟩:=ag.Wd w2 Of l2;have bH:=aH _ _ _ (h2 i hi dq) Og;have iD:=Wc (h2 i hi dq) w2;have:=bH.cells;rw[Oh] at this;exact⟨this,iD,bH.leafs iD⟩
    have e8:∀i,i<p8.length->∀j,j<shN aa->∃ax:i*shN aa+j<us.length,((us.drop (i*shN aa)).take (shN aa))[j]? =some (us[i*shN aa+j]):=λi hi j ax=>by
     have:=hmul i U;refine⟨U,?_⟩;rw[tk ax,oR,fw U]
    rw[<-h1];refine .a_ (λi j=>(us[i*shN aa+j]?).getD undef) (λ_=>⟨ly.1,Wa hn,λ_=>ly.2⟩) (λi hi=>(elem i U hi).2.1) (λi hi j ax=>?_) (λi hi j ax=>?_) U (λv au=>?_) (λ_=>rfl)
    ·have fA:j<shN aa:=by rw[vc (elem i U hi).2.1] at ax;exact ax
     obtain⟨hlt,_⟩:=e8 i hi j fA;have:=n3.2.1 (i*shN aa+j) _ (fw hlt);rw[lB,← MJ] at this;rw[this,fw hlt];rfl
    ·have fA:j<shN aa:=by rw[vc (elem i U hi).2.1] at ax;exact ax
     obtain⟨hlt,m0⟩:=e8 i hi j fA;obtain⟨b3k,DX,Oi⟩:=(elem i U hi).1.get (fw ax);rw[m0] at DX;cases DX;rw[fw hlt];exact Oi
    ·obtain⟨i,hi,rfl⟩:=tj au;exact(elem i U hi).2.2
  ·split at h<;>cases h;rename_i l cu hl;obtain⟨bo,rfl,n2,kI⟩:=au.qR;refine ag.yz (list hl n2) (λx hx=>?_) |> λh=>by simpa using h
   obtain⟨i,hi,rfl⟩:=tj hx;have:=o0 hl;exact Wc (this.2 i U hi) (kI _ (gC _))
  ·split at h<;>cases h;rename_i l cu hl;obtain⟨bo,rfl,n2⟩:=au.M5;have:=ag.u9 (list hl n2);simpa using this
  ·split at h<;>cases h;rename_i Bd;cases au with
   |it h=>exact .it (aH _ _ _ Bd h)
  ·cases h
  ·cases h
  ·cases h
  ·rename_i iC h6 n9 tL Be We Wf;cases h;cases au with
   |b x=>exact .b x
   |i k n=>exact .i k n
   |s l h=>exact .s l h
   |qQ=>exact .qQ
   |p h=>exact absurd I (Be _)
   |dh bf h1 hb ca ab iT hf=>exact .dh bf (λho=>h1 (ch _ ho)) hb ca ab (λj ax=>jP (iT j ax)) hf
   |af=>exact .af
   |al=>exact absurd I (iC _ _ _ _ _)
   |lW=>exact .lW
   |a_ bf h1 ao ab iT hl hf fy=>exact .a_ bf (λa7=>⟨λho=>(h1 a7).1 (ch _ ho),(h1 a7).2⟩) ao ab (λi hi j ax=>jP (iT i hi j ax)) hl hf fy
   |r1=>exact .r1
   |mp h=>exact absurd I (We _)
   |cO=>exact absurd I (Wf _ _ _)
   |u5=>exact absurd I (Wf _ _ _)
   |eh=>exact .eh
   |it h=>exact absurd I (tL _ _)
   |fP=>exact .fP
   |R=>exact absurd I (h6 _)
   |a0=>exact absurd I (n9 _)
   |hv h hn=>exact .hv h hn
   |ic h=>exact .ic h
   |iI n h=>exact .iI n h
   |y h=>exact .y h
   |gu hu h=>exact .gu hu (jP h)
end
section
def ag.b3l{w:World}{m:Nat->Option Nat}{O:Nat->Prop}{B eL:Nat}(ca:eL<=B){v:AV}{u:Value}(h:ag w m O B v u):ag w m O eL v u:=by
 induction h with
 |b x=>exact .b x
 |i k n=>exact .i k n
 |s l h=>exact .s l h
 |qQ=>exact .qQ
 |p h=>exact .p h
 |dh bf ch hb b3m ab aq hf aH=>exact .dh bf ch hb (λh=>qH ca (b3m h)) ab (λj ax=>aH j ax ca) hf
 |af=>exact .af
 |al h hl ab hn mU=>exact .al h hl ab hn mU
 |lW=>exact .lW
 |a_ bf ch ao ab aq hl hf fy aH=>exact .a_ bf (λa7=>⟨(ch a7).1,(ch a7).2.1,λh=>qH ca ((ch a7).2.2 h)⟩) ao ab (λi h j ax=>aH i h j ax ca) hl hf fy
 |r1=>exact .r1
 |mp h=>exact .mp h
 |cO hf bH ab tv MV r2=>exact .cO hf (λi h h'=>MV i h h' ca) ab (λi h h'=>r2 i h h' ca)
 |u5 h=>exact .u5 h
 |eh=>exact .eh
 |it _ aH=>exact .it (aH ca)
 |fP=>exact .fP
 |R ao _ hf aH=>exact .R ao (λi h h'=>aH i h h' ca) hf
 |a0 ao _ aH=>exact .a0 ao (λi h h'=>aH i h h' ca)
 |hv h hn=>exact .hv h hn
 |ic h=>exact .ic h
 |iI n h=>exact .iI n h
 |y h=>exact .y h
 |gu hu _ aH=>exact .gu hu (aH ca)
variable [TokOk]
section
variable {P:Program}{env:Env}{J:ae}{w:World}{m:Nat->Option Nat}{B f:Nat}
def Wg{b8:ae}{bW:World}{db:Nat->Option Nat}(aq:Rel P J w m B)(he:Ext J.next J w m b8 bW db):Rel P J bW m B/\Ext f J w m J bW m:=by
 have l3:∀aD,¬yv J.next J m aD:=λaD ⟨id,h1,h2,h3⟩=>by have:=UF h3;omega
 have dO:Ext f J w m J bW m:=⟨λ_ _ h=>h,λ_ _ h=>.inl h,bs _,he.size,he.bK,λb hb _=>he.aP b hb (l3 b),λ_ _ _=>rfl,λ_ _ h=>h,he.os,he.tape,he.out,λ_ _ _=>rfl⟩
 refine⟨⟨aq.len,λid aD h=>⟨yR (aq.gi _ _ h).1 he.size,(aq.gi _ _ h).2⟩,λid aD o h hg hd=>?_,aq.inj,aq.base,qH aq.mX he.size⟩,dO⟩;obtain⟨bX,h1,h2⟩:=aq.obj id aD o h hg hd;exact⟨bX,by rw[he.aP aD (aq.gi _ _ h).1 (l3 aD)];exact h1,h2.mono dO.mono dO.size dO.bK (dO.tw aq)⟩
def Bf(P:Program)(env:Env)(bz:Nat):Prop:=
 ∀g aQ r,env.spec g aQ=some r->(∃fn c,P.funcs[g]? =some fn/\fn.body=some c/\(fn.name== "runtime.NumGoroutine")=false)∧
  ∀k rd w us,bz<=w.heap.size->Globs env w bz->bQ w (λ_=>none) (λ_=>False) w.heap.size aQ us.toList→
   CallsIn (fB rd) k P g us w (λe bW=>∃u,e= .returned u/\ag bW (λ_=>none) (λb=>b<w.heap.size) w.heap.size r u/\w.heap.size<=bW.heap.size/\(∀b,b<w.heap.size->bW.heap[b]? =w.heap[b]?)/\bW.os=w.os/\bW.tape=w.tape/\bW.output=w.output)
def Bg(P:Program)(env:Env):Prop:=
 ∀g,env.ext g≠0->∀args v,extRow (env.ext g) args=some v->∀w m O B us cs,bQ w m O B args (us++cs).toList->∃u,(invoke (.fn (.func g) cs) us).run P w= .ok (.value u) w/\ag w m O B v u
def Wh(J:ae)(v:AV):bM J 0 v=none:=rfl
def snapshot_succ(J:ae)(n:Nat)(v:AV):bM J (n+1) v=match v with
  | .al id off len aa cap=>
   match readList J (.al id off len aa cap) with
   |none=>none
   |some xs=>match mapO (bM J n) xs with|none=>none|some xs=>some (.a_ true aa xs)
  | .af=>some .af
  | .a_ _ aa xs=>match mapO (bM J n) xs with|none=>none|some xs=>some (.a_ true aa xs)
  | .R l=>match mapO (bM J n) l with|none=>none|some l=>some (.R l)
  | .a0 l=>match mapO (bM J n) l with|none=>none|some l=>some (.a0 l)
  | .it t v=>match bM J n v with|none=>none|some v=>some (.it t v)
  | .p (some _)=>none
  | .m (some _)=>none
  | .dh _ _=>none
  | .f _ _ _=>none
  | .gu _ i=>some (.gu true i)
  |v=>some v:=rfl
def Wi{aa:Option Nat}:∀ {n:Nat} {v bR:AV},bM J n v=some bR->conf aa v=true->conf aa bR=true
 |0,v,bR,h,_=>by rw[Wh] at h;cases h
 |n+1,v,bR,h,ab=>by
  rw[snapshot_succ] at h;split at h
  ·split at h<;>try (cases h;done)
   split at h<;>cases h;cases aa<;>simp[conf] at ab ⊢
  ·cases h;exact ab
  ·split at h<;>cases h;cases aa<;>simp[conf] at ab ⊢
  ·split at h<;>cases h;rename_i l cu hl;have:=(o0 hl).1;cases aa with
   |none=>simp[conf] at ab
   |some k=>simp[conf] at ab ⊢;omega
  ·split at h<;>cases h;cases aa<;>simp[conf] at ab
  ·split at h<;>cases h;cases aa<;>simp[conf] at ab ⊢
  ·cases h
  ·cases h
  ·cases h
  ·cases h
  ·cases h;cases aa<;>simp[conf] at ab ⊢
  ·cases h;exact ab
def b3n{aa:Option Nat}:∀(l:List AV),(∀a∈l,conf aa a=true)->∀i (hi:i<l.length),(l[i]).cells=((l.flatMap AV.cells).drop (i*shN aa)).take (shN aa):=by
 intro l
 induction l with
 |nil=>intro _ i hi;simp at hi
 |cons x l g6=>
  intro hl i hi;have hx:=vc (hl x aF);cases i with
  |zero=>simp[jY,hx]
  |succ i=>
   have:=g6 (λa ha=>hl a (by simp[ha])) i (by simpa using hi);rw[Hb,this,jY,List.drop_append];have aL:(i+1)*shN aa-x.cells.length=i*shN aa:=by rw[hx,G_,qK];omega
   have a5:x.cells.drop ((i+1)*shN aa)=[]:=NM (by rw[hx,G_,qK];omega);rw[aL,a5,yQ]
def b3o{O:Nat->Prop}{old:Bool}{aa:Option Nat}{aD off c:Nat}{xs:List AV}{us:List Value}(ch:xs≠[]->¬O aD/\aD<w.heap.size/\(old=false->B<=aD))(A1:us.length=xs.length*shN aa)
  (n3:∀j u,us[j]? =some u->w.cell? ⟨aD,off+j,none⟩=some u)
  (elem:∀i (hi:i<xs.length),bQ w (λ_=>none) O B (xs[i]).cells ((us.drop (i*shN aa)).take (shN aa))/\conf aa (xs[i])=true/\∀x∈(xs[i]).cells,conf none x=true) (hle:xs.length<=c):
  ag w m O B (.a_ old aa xs) (.slice (some ⟨aD,off,none⟩) xs.length c):=by
 have hmul:∀i,i<xs.length->i*shN aa+shN aa<=xs.length*shN aa:=λi hi=>by
  have:=jX (shN aa) (show i+1<=xs.length from hi);rw[G_,qK] at this;exact this
 have e8:∀i,i<xs.length->∀j,j<shN aa->∃ax:i*shN aa+j<us.length,((us.drop (i*shN aa)).take (shN aa))[j]? =some (us[i*shN aa+j]):=λi hi j ax=>by
  have:=hmul i hi;refine⟨U,?_⟩;rw[tk ax,oR,fw U]
 refine .a_ (λi j=>(us[i*shN aa+j]?).getD undef) ch (λi hi=>(elem i hi).2.1) (λi hi j ax=>?_) (λi hi j ax=>?_) hle (λv au=>?_) (λ_=>rfl)
 ·have fA:j<shN aa:=by rw[vc (elem i hi).2.1] at ax;exact ax
  obtain⟨hlt,_⟩:=e8 i hi j fA;have:=n3 (i*shN aa+j) _ (fw hlt);rw[<-MJ] at this;rw[this,fw hlt];rfl
 ·have fA:j<shN aa:=by rw[vc (elem i hi).2.1] at ax;exact ax
  obtain⟨hlt,m0⟩:=e8 i hi j fA;obtain⟨b3k,DX,Oi⟩:=(elem i hi).1.get (fw ax);rw[m0] at DX;cases DX;rw[fw hlt];exact Oi
 ·obtain⟨i,hi,rfl⟩:=tj au;exact(elem i hi).2.2
def Wj(aq:Rel P J w m B)(eL:Nat):∀(n:Nat) (v bR:AV) (u:Value),bM J n v=some bR->ag w m (bq J m) B v u->ag w (λ_=>none) (λ_=>False) eL bR u
 |0,v,bR,u,h,_=>by rw[Wh] at h;cases h
 |n+1,v,bR,u,h,au=>by
  have aH:=λv bR u h au=>Wj aq eL n v bR u h au;have list:∀ {l cu:List AV} {us:List Value},mapO (bM J n) l=some cu->bQ w m (bq J m) B l us->bQ w (λ_=>none) (λ_=>False) eL cu us:=λ{l cu us} hl l0=>by
   obtain⟨h1,h2⟩:=o0 hl;refine⟨by rw[l0.1,h1],λi hi dq=>?_⟩;exact aH _ _ _ (h2 i U hi) (l0.2 i U dq)
  have slice:∀ {x:AV} {aa:Option Nat} {xs p8:List AV},readList J x=some xs->mapO (bM J n) xs=some p8->ag w m (bq J m) B x u->(∀a∈xs,conf aa a=true)->ag w (λ_=>none) (λ_=>False) eL (.a_ true aa p8) u:=λ{x aa xs p8} dG y6 hx vh=>by
   obtain⟨h1,h2⟩:=o0 y6;obtain⟨base,c,us,rfl,hle,AT,A1,kI,n3⟩:=Du aq hx dG vh;cases base with
   |none=>
    obtain⟨rfl,rfl⟩:=n3;have:p8=[]:=oU (by simpa using h1);subst this;exact .lW
   |some a=>
    obtain⟨aD,off,sp⟩:=a;obtain⟨fy,n3,hlt⟩:=n3;by_cases mz:xs=[]
    ·subst mz;have:p8=[]:=oU (by simpa using h1);subst this;exact .a_ (xs:=[]) (λ_ _=>undef) (λh=>absurd I h) (λi h=>by simp at h) (λi h=>by simp at h) (λi h=>by simp at h) (rU _) (λv au=>by simp at au) (λh=>absurd I h)
    obtain rfl:=fy mz;rw[<-h1];refine b3o (us:=us) (λa7=>⟨λh=>h,?_,λh=>by cases h⟩) (by rw[h1];exact A1) (λj u hu=>by have:=n3 j u hu;rw[lB] at this;exact this) (λi hi=>?_) U
    ·exact hlt (λhe=>a7 (oU (by rw[h1,he];rfl)))
    ·have vp:i<xs.length:=by omega
     have w2:=vh _ (gC vp);have l2:∀x∈(xs[i]).cells,conf none x=true:=λx hx=>kI x (Ay.2 ⟨_,gC vp,hx⟩);have Of:bQ w m (bq J m) B (xs[i]).cells ((us.drop (i*shN aa)).take (shN aa)):=by
      rw[b3n xs vh i vp];exact(AT.drop _).take _
     obtain⟨b3j,Og,Oh⟩:=ag.Wd w2 Of l2;have bH:=aH _ _ _ (h2 i vp hi) Og;have iD:=Wi (h2 i vp hi) w2;have:=bH.cells;rw[Oh] at this;exact⟨this,iD,bH.leafs iD⟩
  rw[snapshot_succ] at h;split at h
  ·rename_i id off len aa cap;split at h<;>try (cases h;done)
   rename_i xs dG;split at h<;>cases h;rename_i p8 y6;refine slice dG y6 au ?_;have c7N:=dG;simp only[readList] at dG;split at dG<;>try (cases dG;done)
   rename_i c hg;cases au with
   |al hm hl hB hn mU=>
    obtain⟨arr,el,bp,hh,n6,r4,a6,kZ⟩:=aq.cells hm hg;exact(AQ (λx hx=>kZ x (pK hx)) dG).2.2.2
  ·cases h;cases au;exact .af
  ·rename_i o aa xs;split at h<;>cases h;rename_i p8 y6;refine slice (x:=.a_ o aa xs) I y6 au ?_;intro a ha;cases au with
   |lW=>simp at ha
   |a_ bf ch ao ab iT hl hf fy=>
    obtain⟨i,hi,rfl⟩:=tj ha;exact ao i hi
  ·split at h<;>cases h;rename_i l cu hl;obtain⟨bo,rfl,n2,kI⟩:=au.qR;refine ag.yz (list hl n2) (λx hx=>?_) |> λh=>by simpa using h
   obtain⟨i,hi,rfl⟩:=tj hx;have:=o0 hl;exact Wi (this.2 i U hi) (kI _ (gC _))
  ·split at h<;>cases h;rename_i l cu hl;obtain⟨bo,rfl,n2⟩:=au.M5;have:=ag.u9 (list hl n2);simpa using this
  ·split at h<;>cases h;rename_i Bd;cases au with
   |it h=>exact .it (aH _ _ _ Bd h)
  ·cases h
  ·cases h
  ·cases h
  ·cases h
  ·cases h;cases au with
   |gu hu h=>exact .gu hu (TokOk.snap h)
  ·rename_i cP c8 er e_ iW jf k6 vq sk Wl b3p;cases h;cases au with
   |b x=>exact .b x
   |i k n=>exact .i k n
   |s l h=>exact .s l h
   |qQ=>exact .qQ
   |r1=>exact .r1
   |eh=>exact .eh
   |fP=>exact .fP
   |af=>exact .af
   |p h=>exact absurd I (k6 _)
   |mp h=>exact absurd I (vq _)
   |dh=>exact absurd I (sk _ _)
   |cO=>exact absurd I (Wl _ _ _)
   |u5=>exact absurd I (Wl _ _ _)
   |al=>exact absurd I (cP _ _ _ _ _)
   |lW=>exact absurd I (er _ _ _)
   |a_=>exact absurd I (er _ _ _)
   |it h=>exact absurd I (jf _ _)
   |R=>exact absurd I (e_ _)
   |a0=>exact absurd I (iW _)
   |iI n h=>exact .iI n h
   |y h=>exact .y h
   |gu hu h=>exact absurd I (b3p _ _)
   |hv h hn=>exact .hv h hn
   |ic h=>exact .ic h
end
end
end
section
variable [Tok][TokOk]
open Go.RowKit
def H6{α:Type}{g:α->α->Bool}(hg:∀x y,g x y=true->x=y):∀(l r:List α),fY g l r=true->l=r
 |[],[],_=>rfl
 |[],_::_,h=>by cases h
 |_::_,[],h=>by cases h
 |x::l,y::r,h=>by
  have h:cond (g x y) (fY g l r) false=true:=h;cases y7:g x y with
  |false=>rw[y7] at h;cases h
  |true=>
   rw[y7,cond_true] at h;rw[hg x y y7,H6 hg l r h]
def AV.Bh:∀(n:Nat) (x y:AV),AV.eqb n x y=true->x=y
 |0,_,_,h=>by cases h
 |n+1,x,z,h=>by
  have aH:=AV.Bh n;have g6:=H6 aH;cases x
  case p a=>
   cases a with
   |none=>
    cases z
    case p b=>
     cases b with
     |none=>rfl
     |some b=>exfalso;revert h;show ¬(false=true);simp
    all_goals (exfalso;revert h;show ¬(false=true);simp)
   |some a=>
    cases z
    case p b=>
     cases b with
     |none=>exfalso;revert h;show ¬(false=true);simp
     |some b=>
      have h:(Nat.beq a.1 b.1&&Nat.beq a.2 b.2)=true:=h;simp only[C2,tn] at h;rw[Prod.ext h.1 h.2]
    all_goals (exfalso;revert h;show ¬(false=true);simp)
  case m a=>
   cases a with
   |none=>
    cases z
    case m b=>
     cases b with
     |none=>rfl
     |some b=>exfalso;revert h;show ¬(false=true);simp
    all_goals (exfalso;revert h;show ¬(false=true);simp)
   |some a=>
    cases z
    case m b=>
     cases b with
     |none=>exfalso;revert h;show ¬(false=true);simp
     |some b=>
      have h:Nat.beq a b=true:=h;rw[gb h]
    all_goals (exfalso;revert h;show ¬(false=true);simp)
  all_goals (cases z<;>first
   |rfl
   |(exfalso;revert h;show ¬(false=true);simp;done)
   |skip)
  case b.b a b=>have h:(a==b)=true:=h;simpa using h
  case i.i k a l b=>
   have h:(decide (k=l)&&decide (a=b))=true:=h;simp at h;rw[h.1,h.2]
  case s.s a b=>have h:eqL a b=true:=h;rw[(o2 _ _).1 h]
  case dh.dh u2 a cw b=>
   have h:((u2==cw)&&AV.eqb n a b)=true:=h;simp only[C2,beq_iff_eq] at h;rw[h.1,aH _ _ h.2]
  case al.al aX bc cq ew eJ eF dE dW fK nZ=>
   have h:(Nat.beq aX eF&&Nat.beq bc dE&&Nat.beq cq dW&&decide (ew=fK)&&decide (eJ=nZ))=true:=h;simp only[C2,tn,decide_eq_true_eq] at h;obtain⟨⟨⟨⟨rfl,rfl⟩,rfl⟩,rfl⟩,rfl⟩:=h;rfl
  case a_.a_ u2 a3 a cw sb b=>
   have h:((u2==cw)&&decide (a3=sb)&&fY (AV.eqb n) a b)=true:=h;simp only[C2,beq_iff_eq,decide_eq_true_eq] at h;rw[h.1.1,h.1.2,g6 _ _ h.2]
  case f.f e6 aX bc fb eF dE=>
   have h:(decide (e6=fb)&&(fY (AV.eqb n) aX eF&&fY (AV.eqb n) bc dE))=true:=h;simp only[C2,decide_eq_true_eq] at h;rw[h.1,g6 _ _ h.2.1,g6 _ _ h.2.2]
  case it.it t a u b=>
   have h:(Nat.beq t u&&AV.eqb n a b)=true:=h;simp only[C2,tn] at h;rw[h.1,aH _ _ h.2]
  case R.R a b=>have h:fY (AV.eqb n) a b=true:=h;rw[g6 _ _ h]
  case a0.a0 a b=>have h:fY (AV.eqb n) a b=true:=h;rw[g6 _ _ h]
  case hv.hv k a b l c d=>
   have h:(decide (k=l)&&(Nat.beq a c&&Nat.beq b d))=true:=h;simp only[C2,tn,decide_eq_true_eq] at h;rw[h.1,h.2.1,h.2.2]
  case iI.iI a b=>have h:(a==b)=true:=h;rw[eq_of_beq h]
  case y.y a b=>
   have h:Nat.beq a b=true:=h;rw[gb h]
  case gu.gu o a p b=>
   have h:((o==p)&&Nat.beq a b)=true:=h;simp only[C2,beq_iff_eq,tn] at h;rw[h.1,h.2]
  case ic.ic a b=>have h:fY eqL a b=true:=h;rw[H6 (λx y h=>(o2 x y).1 h) _ _ h]
def Wm{n base:Nat}{l:List (en×ae)}{v:AV}(h:joinF n base l=some v):∀ret ai,(ret,ai)∈l->∃v0,ret= .ok v0/\freeze ai base n v0=some v:=by
 unfold joinF at h;split at h
 ·cases h
 rename_i x t;split at h
 ·cases h
 rename_i v0 di;split at h
 ·cases h
 rename_i v1 sl;cases hall:cD (ys n base v1) t with
 |false=>rw[hall] at h;cases h
 |true=>
  rw[hall,cond_true] at h;cases h;intro ret ai gn;rcases dB.1 gn with he|gn
  ·cases he;exact⟨_,rfl,sl⟩
  ·have:=n8 hall _ gn;cases ret with
   |err w=>cases this
   |ok w=>
    simp only[ys] at this;split at this
    ·rename_i bW o5;exact⟨w,rfl,by rw[o5,AV.Bh _ _ _ this]⟩
    ·cases this
section
variable {P:Program}{env:Env}{B:Nat}
def Wn(gT:tK P env)(fy:Bf P env B){run:ju}(cf:q7 P env B run){f g:Nat}{args:List AV}{J:ae}{kn:List (en×ae)}(h:callF env run f g args J=some kn)(Bi:env.ext g=0)(k:Nat)(r:Option Nat)
  {w:World} {m:Nat->Option Nat} (aq:Rel P J w m B) (cW:Globs env w B) {us:Array Value} (ha:bQ w m (bq J m) B args us.toList):
  (∃fn c,P.funcs[g]? =some fn/\fn.body=some c/\(fn.name== "runtime.NumGoroutine")=false)∧
  CallsIn (fB r) k P g us w (λe av=>∃ret ai,(ret,ai)∈kn/\∃aT,se av aT (bq ai aT) B ret e/\Rel P ai av aT B/\Ext f J w m ai av aT):=by
 unfold callF at h;rw[Bi] at h;simp only at h;cases aw:env.pure g with
 |false=>
  rw[aw,cond_false] at h;exact N_ gT cf (Ob gT f) h k r aq cW ha
 |true=>
  rw[aw,cond_true] at h;split at h
  ·-- known
   rename_i v au;cases h;split at au<;>try (cases au;done)
   rename_i aQ Oj;obtain⟨hb,ab⟩:=fy g aQ v au;refine⟨hb,?_⟩;have b3q:bQ w (λ_=>none) (λ_=>False) w.heap.size aQ us.toList:=by
    obtain⟨h1,h2⟩:=o0 Oj;refine⟨by rw[ha.1,h1],λi hi dq=>?_⟩;exact Wj aq _ env.bp _ _ _ (h2 i U hi) (ha.2 i U dq)
   refine DF (ab k r w us aq.mX cW b3q) (λe bW df=>?_);obtain⟨u,rfl,hR,cz,HR,mo,pQ,lX⟩:=df;have hz:∀b n,eK w b=some n->eK bW b=some n:=λb n hb=>by
    have:=Wa hb;unfold eK at hb ⊢;rw[HR b this];exact hb
   have he:Ext J.next J w m J bW m:=⟨λ_ _ h=>h,λ_ _ h=>.inl h,bs _,cz,hz,λb hb _=>HR b hb,λ_ _ _=>rfl,λ_ _ h=>h,mo,pQ,lX,λ_ _ _=>rfl⟩
   obtain⟨h1,h2⟩:=Wg (f:=f) aq he;refine⟨_,_,uT.2 I,m,?_,h1,h2⟩;have DY:ag bW (λ_=>none) (bq J m) w.heap.size v u:=hR.mono (λ_ _ h=>h) (bs _) (λ_ _ h=>h) (λb _ hb=>⟨rfl,λho=>hb (aq.UE ho)⟩);exact(DY.b3l aq.mX).up
  ·-- run,and u1 store dropped
   split at h<;>try (cases h;done)
   rename_i l b3r;split at h<;>cases h;rename_i bR hfz;obtain⟨hb,ab⟩:=N_ gT cf (Ob gT J.next) b3r k r aq cW ha;refine⟨hb,?_⟩;refine DF ab (λe bW df=>?_);obtain⟨ret,b8,gn,db,l1,mx,g9⟩:=df;obtain⟨v,rfl,b3s⟩:=Wm hfz _ _ gn;obtain⟨h1,h2⟩:=Wg (f:=f) aq g9;refine⟨_,_,uT.2 I,m,?_,h1,h2⟩;cases e with
   |returned u=>exact(Oe aq mx g9 env.bp v bR u b3s l1).up
   |panicked oc=>exact l1.elim
   |outgrown=>exact l1.elim
def b3t(gT:tK P env)(fy:Bf P env B)(hex:Bg P env){run:ju}(cf:q7 P env B run){f g:Nat}{args:List AV}{J:ae}{kn:List (en×ae)}(h:callF env run f g args J=some kn)(k:Nat)(r:Option Nat)
  {w:World} {m:Nat->Option Nat} (aq:Rel P J w m B) (cW:Globs env w B) {us cs:Array Value} (ha:bQ w m (bq J m) B args (us++cs).toList):
  match(invoke (.fn (.func g) cs) us).run P w with
  | .ok (.enter b_ Ba) av=>CallsIn (fB r) k P b_ Ba av (λe av=>∃ret ai,(ret,ai)∈kn/\∃aT,se av aT (bq ai aT) B ret e/\Rel P ai av aT B/\Ext f J w m ai av aT)
  | .ok (.round l b_ tmps as b) av=>RoundIn (fB r) k P l b_ tmps as b av (λe av=>∃ret ai,(ret,ai)∈kn/\∃aT,se av aT (bq ai aT) B ret e/\Rel P ai av aT B/\Ext f J w m ai av aT)
  | .ok (.value v) av=>(λe av=>∃ret ai,(ret,ai)∈kn/\∃aT,se av aT (bq ai aT) B ret e/\Rel P ai av aT B/\Ext f J w m ai av aT) (.returned v) av
  |_=>False:=by
 by_cases Bi:env.ext g=0
 ·obtain⟨⟨fn,c,h1,h2,h3⟩,ab⟩:=Wn gT fy cf h Bi k r aq cW ha;rw[N8 h1 h2 h3 cs us w];exact ab
 ·unfold callF at h;split at h
  ·rename_i h0;exact absurd h0 Bi
  rename_i n a7;split at h<;>cases h;rename_i v au;obtain⟨u,h1,h2⟩:=hex g (λh0=>a7 h0) args v au w m (bq J m) B us cs ha;rw[h1];exact⟨_,_,uT.2 I,m,h2,aq,Ext.refl _ _ _ _⟩
end
def b3u(args:List AV)(al:a1 AV):layAll [] args al=al:=rfl
def b3v(p:Nat)(aC:List Nat)(args:List AV)(al:a1 AV):layAll (p::aC) args al=match args with|[]=>al|a::args=>layAll aC args (al.set p a):=rfl
def Wo{w:World}{m:Nat->Option Nat}{O:Nat->Prop}{B:Nat}:∀(aC:List Nat) (args:List AV) (us:List Value) (al:a1 AV) (tmps:Array Value),ja w m O B al tmps.toList->bQ w m O B args us->aC.length=args.length→
  ja w m O B (layAll aC args al) ((aC.zip us).foldl (λ(tmps:Array Value) (x:Nat×Value)=>tmps.setIfInBounds x.1 x.2) tmps).toList
 |[],args,us,al,tmps,ao,ha,hl=>by simpa [b3u] using ao
 |p::aC,[],us,al,tmps,ao,ha,hl=>by simp at hl
 |p::aC,a::args,us,al,tmps,ao,ha,hl=>by
  cases us with
  |nil=>have:=ha.1;simp at this
  |cons u us=>
   rw[b3v];simp only[Uf,Ha];refine Wo aC args us _ _ ?_ (by simpa using ha.drop 1) (by simpa using hl);exact ao.put p (ha.2 0 aF aF)
section
variable {P:Program}{env:Env}{B:Nat}
def Rel.DZ{J:ae}{w:World}{m:Nat->Option Nat}(aq:Rel P J w m B){id aD:Nat}{st:LoopState}{mn:Option bF}{al:a1 AV}{aC:List Nat}{as b:bF}{d:Nat}(hm:m id=some aD)(hg:J.get id=some (.loop st mn al aC as b d)):
  ∃n0 fn tmps iz fR D,w.heap[aD]? =some (.loop {state:=st,pending:=n0,fn,tmps,params:=aC.toArray,assign:=iz,body:=fR,defers:=D})/\Hq P mn n0/\ja w m (bq J m) B al tmps.toList/\ccode P iz=some as/\ccode P fR=some b/\m d=some D:=by
 obtain⟨bX,h1,h2⟩:=aq.obj _ _ _ hm hg I;cases h2 with
 |loop mW ao ha hb hd=>exact⟨_,_,_,_,_,_,h1,mW,ao,ha,hb,hd⟩
def Rel.H7{J:ae}{w:World}{m:Nat->Option Nat}(aq:Rel P J w m B){f id aD:Nat}(hf:f<=id)(hm:m id=some aD){o:AO}{r:Loop}(hl:live J id)(hb:eK w aD=none)(hlt:aD<w.heap.size)(hd:o.isDead=false)(ho:mV P w m (bq J m) B o (.loop r)):
  Rel P (J.set id o) (w.putObj aD (.loop r)) m B/\Ext f J w m (J.set id o) (w.putObj aD (.loop r)) m:=
 aq.dd hf hm hl (w.putObj aD (.loop r)) o aF (λb a7=>VL a7) (λn hn=>by rw[hb] at hn;cases hn) rfl rfl rfl (λ_=>⟨_,World.putObj_heap_same hlt,ho⟩)
def b3w{run:ju}(cf:q7 P env B run){f l:Nat}{args:List AV}{J:ae}{kn:List (en×ae)}(h:MS run f l args J=some kn)(k:Nat)(r:Option Nat)
  {w:World} {m:Nat->Option Nat} (aq:Rel P J w m B) (cW:Globs env w B) {us:Array Value} (ha:bQ w m (bq J m) B args us.toList) {aD:Nat} (hm:m l=some aD):
  ∃b_ tmps as b,(invoke (.fn (.yield aD) #[]) us).run P w= .ok (.round aD b_ tmps as b) w/\RoundIn (fB r) k P aD b_ tmps as b w (λe av=>∃ret ai,(ret,ai)∈kn/\∃aT,se av aT (bq ai aT) B ret e/\Rel P ai av aT B/\Ext f J w m ai av aT):=by
 unfold MS at h;split at h<;>try (cases h;done)
 rename_i ep;have pW:f<=l:=by simpa [MD] using ep
 split at h<;>try (cases h;done)
 rename_i mn al aC as b d hg;obtain⟨n0,fn,tmps,iz,fR,D,hh,mW,ao,has,HJ,hd⟩:=aq.DZ hm hg;cases Ok:Nat.beq aC.length args.length with
 |false=>rw[Ok] at h;cases h
 |true=>
  rw[Ok,cond_true] at h;have hlen:=gb Ok;have l0:us.size=aC.length:=by have:=ha.1;simp at this;omega
  have hy:=run_yield (P:=P) (args:=us) hh (by simpa using l0);refine⟨_,_,_,_,hy,?_⟩;have hc:ff P env ⟨layAll aC args al,[],false⟩ {tmps:=(aC.toArray.zip us).foldl (λtmps (t,a)=>tmps.setIfInBounds t a) tmps,defers:=[]} J w m B:=by
   refine⟨⟨aq,?_,cW⟩,trivial⟩;have:=Wo aC args us.toList al tmps ao ha hlen;have aL:(aC.toArray.zip us)=(aC.zip us.toList).toArray:=by
    apply T9;simp
   rw[aL];simpa using this
  obtain⟨vr,mx,b3x⟩:=wW h;refine roundIn_of_wpIn trivial ?_;refine(cf _ _ _ _ _ _ mx k (some aD) iz _ w m has hm hc _ (λaL ej b8 b3y gf aX bW db ft ga hE=>?_)).1;obtain⟨eb,eG,Ol⟩:=b3x _ b3y;cases aL<;>try (cases eG;done)
  cases gf<;>try exact ft.elim
  simp only[roundMid] at eG;split at eG<;>try (cases eG;done)
  rename_i c7O c7P b3z c7Q eF d1 tM;have w3:=hE.mono _ _ hm;obtain⟨b3A,b3B,b3C,b3D,b3E,Wp,Dp,b3F,p9,b3G,b3H,ko⟩:=ga.ctx.rel.DZ w3 tM;have b3I:=AI Dp;have k1:eK bW aD=none:=by unfold eK;rw[Dp]
  obtain⟨q8,nA⟩:=ga.ctx.rel.H7 (f:=f) pW w3 (r:={state:=.busy,pending:=b3A,fn:=b3B,tmps:=b3C,params:=b3z.toArray,assign:=b3D,body:=b3E,defers:=Wp}) ⟨_,tM,rfl⟩ k1 b3I I (.loop b3F p9 b3G b3H ko);refine⟨_,run_beginRound Dp I,?_⟩;have q4:=ga.ext nA q8;obtain⟨b3J,y8,b3K⟩:=wW eG;refine(cf _ _ _ _ _ _ y8 k (some aD) fR aX _ db HJ w3 q4 _ (λcy c7R hX b3L Om cq Bj q9 H8 D0 H9=>?_)).1;obtain⟨c7S,pU,On⟩:=b3K _ b3L;have y9:=H9.mono _ _ w3;have Wq:=(hE.trans aq nA).trans aq H9;have fin:∀(j:Option bF) (tr:Option Code) (b:Bool),Hq P j tr->(b=tr.isNone)->(∃y_ tN tO p_ tP dW d3,hX.get l=some (.loop y_ tN tO p_ tP dW d3))->∀bh,endRound hX l j=some bh->bh∈kn→
    ∃u av,(Instr.endRound aD tr).run P Bj= .ok u av/\∃ret ai,(ret,ai)∈kn/\∃aT,se av aT (bq ai aT) B ret (.returned u)/\Rel P ai av aT B/\Ext f J w m ai av aT:=by
   rintro j tr b ax hb ⟨y_,tN,tO,p_,tP,dW,d3,za⟩ bh oj j5;obtain⟨c7T,H_,Ia,Ib,Ic,Ie,w4,Ig,Ih,Ii,Ij,w5⟩:=D0.ctx.rel.DZ y9 za;have Ik:=AI w4;have tF:eK Bj aD=none:=by unfold eK;rw[w4]
   unfold endRound at oj;rw[za] at oj;cases j with
   |none=>
    cases tr with
    |some _=>exact ax.elim
    |none=>
     simp only[cL] at oj;subst oj;obtain⟨D1,Bk⟩:=D0.ctx.rel.H7 (f:=f) pW y9 (o:=.loop .ready none tO p_ tP dW d3) (r:={state:=.ready,pending:=none,fn:=H_,tmps:=Ia,params:=p_.toArray,assign:=Ib,body:=Ic,defers:=Ie}) ⟨_,za,rfl⟩ tF Ik I (.loop trivial Ih Ii Ij w5);exact⟨_,_,run_endRound none w4,_,_,j5,q9,.b _,D1,Wq.trans aq Bk⟩
   |some c=>
    cases tr with
    |none=>exact ax.elim
    |some bD=>
     simp only[cL] at oj;subst oj;obtain⟨D1,Bk⟩:=D0.ctx.rel.H7 (f:=f) pW y9 (o:=.loop .done (some c) tO p_ tP dW d3) (r:={state:=.done,pending:=some bD,fn:=H_,tmps:=Ia,params:=p_.toArray,assign:=Ib,body:=Ic,defers:=Ie}) ⟨_,za,rfl⟩ tF Ik I (.loop ax Ih Ii Ij w5);exact⟨_,_,run_endRound (some bD) w4,_,_,j5,q9,.b _,D1,Wq.trans aq Bk⟩
  have got:∀ {j:Option bF} {bh:en×ae},endRound hX l j=some bh->∃y_ tN tO p_ tP dW d3,hX.get l=some (.loop y_ tN tO p_ tP dW d3):=λaV=>by
   unfold endRound at aV;split at aV
   ·exact⟨_,_,_,_,_,_,_,by assumption⟩
   ·cases aV
  cases cy with
  |panic v=>cases pU
  |normal=>
   cases Om<;>try exact H8.elim
   simp only[roundEnd,fs] at pU;obtain⟨bh,oj,rfl⟩:=pU;exact fin none none true trivial I (got oj) bh oj (Ol _ (On _ (kM _)))
  |ret=>
   cases Om<;>try exact H8.elim
   simp only[roundEnd,fs] at pU;obtain⟨bh,oj,rfl⟩:=pU;exact fin (some .ret) (some .ret) false ⟨rfl,.inl I⟩ I (got oj) bh oj (Ol _ (On _ (kM _)))
  |exit id=>
   cases Om<;>try exact H8.elim
   have o9:=H8;simp only[ExR] at o9;subst o9;simp only[roundEnd,fs] at pU;obtain⟨bh,oj,rfl⟩:=pU;exact fin (some (.exit _)) (some (.exit _)) false ⟨rfl,.inr ⟨_,rfl⟩⟩ I (got oj) bh oj (Ol _ (On _ (kM _)))
def Wr(gT:tK P env)(fy:Bf P env B)(hex:Bg P env){run:ju}(cf:q7 P env B run)(f:Nat)(r:Option Nat):DN P env B f r (callV env run f):=by
 intro ct args J kn h k w m u us aq cW hf ha;unfold callV at h;split at h<;>try (cases h;done)
 ·rename_i g first cap
  cases hf with
  |cO b3M bH gS tv=>
   rename_i g0 fz;have h1:bQ w m (bq J m) B first g0.toList:=⟨by simpa using b3M,λi p q=>by simpa using bH i p (by simpa using q)⟩
   have h2:bQ w m (bq J m) B cap fz.toList:=⟨by simpa using gS,λi p q=>by simpa using tv i p (by simpa using q)⟩
   refine⟨{target:=.fn (.func g) fz,args:=g0++us.toArray},λav=>rfl,?_⟩;exact b3t gT fy hex cf h k r aq cW (by simpa using (h1.append ha).append h2)
 ·rename_i l a b;cases hf with
  |u5 hm=>
   obtain⟨b_,tmps,as,jQ,h1,h2⟩:=b3w cf h k r aq cW (us:=us.toArray) (by simpa using ha) hm;refine⟨{target:=.fn (.yield _) #[],args:=#[]++us.toArray},λav=>rfl,?_⟩;have aL:(#[]++us.toArray:Array Value)=us.toArray:=by simp
   simp only[aL];rw[h1];exact h2
end
section
variable {P:Program}{env:Env}{B:Nat}
def b3N{aR r:Option Nat}{ad:Fr}{a:Act}{J b8:ae}{w:World}{m:Nat->Option Nat}{d f:Nat}{ds:List (Nat ⊕ (AV×List AV))}(h:Db aR ad J=some (d,b8,ds))(m1:A8 m aR r)(st:ff P env ad a J w m B)
  {aC:List Nat} {as b:bF} {iz fR:Code} (has:ccode P iz=some as) (hb:ccode P fR=some b) (fn:FuncId):
  ∃l mark bW db,(Instr.enterLoop fn a.tmps aC.toArray iz fR r).run P w= .ok (l,mark) bW/\db b8.next=some l∧
   ff P env ⟨ad.bj,ds,ad.gg⟩ {a with defers:=mark++a.defers} (b8.push (.loop .ready none ad.bj aC as b d)) bW db B/\Ext f J w m (b8.push (.loop .ready none ad.bj aC as b d)) bW db:=by
 unfold Db at h;cases aR with
 |none=>
  cases r<;>try exact m1.elim
  simp only[cL,yS] at h;obtain⟨rfl,rfl,rfl⟩:=h;have aq:=st.ctx.rel;obtain⟨mx,g9⟩:=aq.alloc f (w.alloc (.deferred (some []))) .eE (.deferred (some [])) I I I I I .eE;have ga:=st.ext g9 mx;obtain⟨q8,nA⟩:=mx.alloc f ((w.alloc (.deferred (some []))).alloc (.loop {state:=.ready,pending:=none,fn,tmps:=a.tmps,params:=aC.toArray,assign:=iz,body:=fR,defers:=w.heap.size}))
   (.loop .ready none ad.bj aC as b J.next) _ I I I I I (.loop trivial ga.ctx.bj has hb (hY _ _ _))
  have q4:=ga.ext nA q8;refine⟨_,_,_,_,run_enterLoop_outer fn a.tmps aC.toArray iz fR,?_,⟨⟨q8,q4.ctx.bj,q4.ctx.globs⟩,⟨⟨_,nA.mono _ _ (hY _ _ _),rfl⟩,q4.defs⟩⟩,g9.trans aq nA⟩;have:=hY (bindM m J.next w.heap.size) (J.push .eE).next (w.alloc (.deferred (some []))).heap.size;rw[this];simp
 |some Ws=>
  cases r<;>try exact m1.elim
  rename_i aD;have hm:m Ws=some aD:=m1;simp only at h;split at h<;>cases h;rename_i hg;have aq:=st.ctx.rel;obtain⟨n0,c7U,c7V,c7W,Wt,D,hh,_,_,_,_,hd⟩:=aq.DZ hm hg;obtain⟨q8,nA⟩:=aq.alloc f (w.alloc (.loop {state:=.ready,pending:=none,fn,tmps:=a.tmps,params:=aC.toArray,assign:=iz,body:=fR,defers:=D}))
   (.loop .ready none ad.bj aC as b d) _ I I I I I (.loop trivial st.ctx.bj has hb hd)
  have q4:=st.ext nA q8;refine⟨w.heap.size,[],_,_,?_,hY _ _ _,⟨⟨q8,q4.ctx.bj,q4.ctx.globs⟩,q4.defs⟩,nA⟩;unfold Instr.enterLoop;simp only[cB,run_getLoop hh,Result.andThen,fX,run_newObj_alloc]
def b3O{c:bF}{n0:Option Code}(h:Hq P (some c) n0):∃bD,n0=some bD/\ccode P bD=some c:=by
 cases n0 with
 |none=>exact h.elim
 |some d=>exact⟨d,rfl,h.1⟩
def b3P{c:Code}{f:aJ}{aC:List Nat}{as b:bF}(h:ccode P c=some (.rangeFunc f aC as b)):∃g nv iz fR,c= .rangeFunc g nv iz fR/\opdOf g=some f/\aC=nv.toList/\ccode P iz=some as/\ccode P fR=some b:=by
 cases c with
 |rangeFunc g nv iz fR=>
  simp only[ccode] at h;split at h<;>cases h;rename_i h1 h2 h3;exact⟨g,nv,iz,fR,rfl,h1,rfl,h2,h3⟩
 |region id ops dw=>cases dw<;>(simp only[ccode] at h;split at h<;>cases h)
 |_=>
  simp only[ccode] at h
  first|(cases h;done)|(split at h<;>cases h;done)
def b3Q(gT:tK P env)(fy:Bf P env B){run:ju}(cf:q7 P env B run):V4 P env B run:=by
 intro floor aR f aC as b ad J outs h k r c a w m ab m1 st Q b6;obtain⟨c5,Il,iz,fR,rfl,jx,rfl,has,hb⟩:=b3P ab;simp only[step] at h;split at h<;>try (cases h;done)
 rename_i b3R;have Wu:floor<=J.next:=by simpa [MD] using b3R
 split at h<;>try (cases h;done)
 rename_i g first cap sm
 split at h<;>try (cases h;done)
 rename_i d b8 ds Bl;split at h<;>try (cases h;done)
 rename_i Bi;obtain⟨Ws,q3,p6⟩:=wW h;have b3S:=st.ctx.ar jx sm;refine wpIn_rangeFunc (λfn _=>?_);obtain⟨l,mark,bW,db,h1,h2,h3,aO⟩:=b3N (f:=floor) Bl m1 st (aC:=Il.toList) has hb fn;have aq:=st.ctx.rel;have Oo:=b3S.ext aO aq;obtain⟨g0,fz,b3T,Oc,Od⟩:∃g0 fz,a.eval c5= .func (.func g) g0 fz/\bQ bW db (bq (b8.push (.loop .ready none ad.bj Il.toList as b d)) db) B first g0.toList/\bQ bW db (bq (b8.push (.loop .ready none ad.bj Il.toList as b d)) db) B cap fz.toList:=by
  revert Oo;generalize a.eval c5=nC;intro Oo;cases Oo with
  |cO w6 bH gS tv=>exact⟨_,_,rfl,⟨by simpa using w6,λi p q=>by simpa using bH i p (by simpa using q)⟩,⟨by simpa using gS,λi p q=>by simpa using tv i p (by simpa using q)⟩⟩
 have p5:bQ bW db (bq (b8.push (.loop .ready none ad.bj Il.toList as b d)) db) B (first++AV.f (.yield b8.next) [] []::cap) (g0++ #[Value.func (.yield l) #[] #[]]++fz).toList:=by
  simp only[NL,iE];exact Oc.append (bQ.cons (.u5 h2) Od)
 obtain⟨⟨c7X,aI,w6,w7,b3U⟩,b3V⟩:=Wn gT fy cf q3 Bi (k-1) r h3.ctx.rel h3.ctx.globs p5;refine⟨l,mark,bW,{target:=.fn (.func g) fz,args:=g0++ #[Value.func (.yield l) #[] #[]]},bW,g,_,bW,by simpa [fB] using h1,?_,λ_ _=>trivial,N8 w6 w7 b3U fz _ bW,λao=>by simp[fB] at ao,?_⟩
 ·have kL:a.eval (.const (.func (.yield l) #[] #[]))= .func (.yield l) #[] #[]:=rfl;simp only[resolve,b3T,Deferred.ofValue];simp[kL]
 ·refine DF b3V (λcy Bj df=>?_);obtain⟨ret,hX,gn,q9,l1,y8,Oq⟩:=df;obtain⟨eb,eG,e8⟩:=p6 _ gn;cases ret with
  |err v=>cases eG
  |ok q_=>
  cases cy<;>try exact l1.elim
  have y9:=Oq.mono _ _ h2;simp only[rangeK] at eG;split at eG<;>try (cases eG;done)
  rename_i y_ tN tO p_ tP dW d3 za;obtain⟨n0,H_,Ia,Ib,Ic,Ie,w4,Ig,Ih,Ii,Ij,w5⟩:=y8.DZ y9 za;have D0:=h3.ext Oq y8;have H9:=aO.trans aq Oq;have iC:floor<=b8.next:=by
   unfold Db at Bl;split at Bl
   ·split at Bl<;>cases Bl;exact Wu
   ·cases Bl;exact Nat.le_succ_of_le Wu
  have Ik:=AI w4;have tF:eK Bj l=none:=by unfold eK;rw[w4]
  have fin:y_≠ .busy->(match(generalizing:=false) tN with
    |none=>some [(fZ.normal,(⟨ad.bj,ds,ad.gg⟩:Fr),hX.set b8.next (.loop .exhausted tN tO p_ tP dW d3))]
    |some c=>run floor aR c ⟨ad.bj,ds,ad.gg⟩ (hX.set b8.next (.loop .exhausted tN tO p_ tP dW d3)))=some eb→
    ∀w0,rangePost (fB r) k P l Q {a with defers:=mark++a.defers} (.returned w0) Bj:=λDw hh w0=>by
   obtain⟨D1,Bk⟩:=y8.H7 (f:=floor) iC y9 (o:=.loop .exhausted tN tO p_ tP dW d3) (r:={state:=.exhausted,pending:=n0,fn:=H_,tmps:=Ia,params:=p_.toArray,assign:=Ib,body:=Ic,defers:=Ie}) ⟨_,za,rfl⟩ tF Ik I (.loop Ig Ih Ii Ij w5);have Wv:=D0.ext Bk D1;have Ot:=H9.trans aq Bk;refine⟨n0,_,run_endLoop w4 Dw,?_⟩;cases tN with
   |none=>
    cases n0 with
    |some _=>exact Ig.elim
    |none=>
     simp only at hh ⊢;cases hh;exact b6 _ _ _ (e8 _ (kM _)) .normal _ _ q9 trivial Wv Ot
   |some c=>
    obtain⟨bD,rfl,n6⟩:=b3O Ig;simp only at hh ⊢;exact(cf _ _ _ _ _ _ hh k r bD _ _ q9 n6 (m1.mono Ot.mono) Wv Q (λe bd ai Im x cH av aT bU bV cp=>b6 e bd ai (e8 _ Im) x cH av aT bU bV (Ot.trans aq cp))).1
  cases y_<;>first|(cases eG;done)|exact fin aF eG _
end
structure D2(pl:List a4)(da:Nat->Nat->Bool)(p q:Nat):Prop where
 Io:p+1=q
 last:q+1=pl.length
 ops:∃bS eY s1 aX gf s2 bc qa,pl[p]? =some bS/\pl[q]? =some eY/\bS.op= .store s1 aX gf/\eY.op= .store s2 bc qa/\bS.dst=none/\eY.dst=none/\bS.guard=none/\eY.guard=none/\eY.kj≠[]
 rest:∀(r:Nat) (aQ:a4),r<p->pl[r]? =some aQ->da r q=true\/(aQ.op.gh=false/\aQ.op.lx=false/\aQ.op.looks=false)
structure Ww(P:Program)(ops:Array Oper)(pl:List a4)(bl c_:Nat->Nat)(da:Nat->Nat->Bool):Prop where
 len:pl.length=ops.size
 pi:∀p,p<ops.size->bl p<ops.size/\c_ (bl p)=p
 D3:∀i,i<ops.size->c_ i<ops.size/\bl (c_ i)=i
 code:∀p aY,pl[p]? =some aY->∃o lF,ops[bl p]? =some o/\coper P ops o=some lF/\aY.op=lF.op/\aY.dst=lF.dst/\aY.guard=lF.guard
 back:∀p,p<ops.size->∀o,ops[bl p]? =some o->∀e∈o.after,Region.binds .any e=true->e.on<ops.size/\c_ e.on<p
 Wx:∀p,p<ops.size->∀q,da q p=true->∃o,ops[bl p]? =some o/\∃e∈o.after,Region.binds .any e=true/\(q=c_ e.on\/da q (c_ e.on)=true)
 w8:∀(p q:Nat) (aY:a4),p<q->q<ops.size->pl[p]? =some aY->aY.op.gh=true->da p q=true\/D2 pl da p q
 D4:∀(p q:Nat) (aY dL:a4) (d:Nat),p<q->pl[p]? =some aY->pl[q]? =some dL->aY.dst=some d->dL.dst≠some d
 Wy:∀(p q:Nat) (aY dL:a4),p<q->pl[p]? =some aY->pl[q]? =some dL->da p q=true\/(∀d,aY.dst=some d->d∉dL.reads)/\(∀d,dL.dst=some d->d∉aY.reads)
 kj:∀(p:Nat) (aY:a4),pl[p]? =some aY->aY.op.looks=true->∀(q:Nat),p<q->(q=ops.size\/∃dL,pl[q]? =some dL/\dL.op.gh=true)→
  q∈aY.kj\/(∃(e:Nat) (ez:a4),pl[e]? =some ez/\ez.op.gh=true/\p<e/\e<q/\da p e=true)\/(∀(c:Nat) (ac:a4),pl[c]? =some ac->p<c->c<q->ac.op.gh=false/\ac.op.lx=false)
def w9{a b:Nat}:Nat.blt a b=true↔a<b:=by rw[MD]
def Wz{α:Type}{f:α->α->Bool}:∀ {l:List α},Ho f l=true->∀(i j:Nat) (x y:α),i<j->l[i]? =some x->l[j]? =some y->f x y=true
 |[],_,i,j,x,y,_,hx,_=>by simp at hx
 |z::l,h,i,j,x,y,hG,hx,hy=>by
  simp only[Ho,C2,nY] at h;cases j with
  |zero=>omega
  |succ j=>
   cases i with
   |zero=>
    simp only[VN,cL] at hx;subst hx;exact h.1 y (fL (by simpa using hy))
   |succ i=>exact Wz h.2 i j x y U (by simpa using hx) (by simpa using hy)
def WA{A:List Nat}{q:Nat}:∀ {es:List Nat},(AF A es).testBit q=true->∃d∈es,q=d\/(A.getD d 0).testBit q=true
 |[],h=>by simp[AF] at h
 |d::es,h=>by
  have h:((1 <<< d ||| A.getD d 0) ||| AF A es).testBit q=true:=h;rw[Nat.testBit_or,Nat.testBit_or,dA,dA,Nat.one_shiftLeft,Nat.testBit_two_pow,decide_eq_true_eq] at h;rcases h with(h|h)|h
  ·exact⟨d,aF,.inl h.symm⟩
  ·exact⟨d,aF,.inr h⟩
  ·obtain⟨e,he,h2⟩:=WA (es:=es) h;exact⟨e,by simp[he],h2⟩
def WB{α β:Type}{f:α->Option β}{l:List α}{bf:List β}(h:mapOL f l=some bf){i:Nat}{y:β}(hy:bf[i]? =some y):∃x,l[i]? =some x/\f x=some y:=by
 obtain⟨h1,h2⟩:=yy h;obtain⟨hi,rfl⟩:=jK.1 hy;exact⟨l[i]'U,fw U,h2 i U hi⟩
def Ou{p:a4->Bool}{pl:List a4}{i:Nat}:i∈posOf p pl↔∃aY,pl[i]? =some aY/\p aY=true:=by
 unfold posOf;simp only[ti,NN,Prod.exists,exists_eq_right];constructor
 ·rintro⟨aY,h1,h2⟩;exact⟨aY,by simpa using o6.1 h1,h2⟩
 ·rintro⟨aY,h1,h2⟩;exact⟨aY,o6.2 (by simpa using h1),h2⟩
def Ov{α:Type}{l:List α}{i:Nat}{x d:α}(h:l[i]? =some x):l.getD i d=x:=by simp[yT,h]
def b3W{P:Program}{ops:Array Oper}{pl:List a4}(h:cdraw P ops=some pl):∃bl c_ da,Ww P ops pl bl c_ da:=by
 unfold cdraw at h;cases hl:mapOL (coper P ops) ops.toList with
 |none=>rw[hl] at h;cases h
 |some l=>
 rw[hl] at h;simp only at h;cases kJ:Uv l (Dc ops.size (((l.zip (ops.toList.map r0)).zipIdx).map λx=>(x.2,x.1.1.op.gh,x.1.2)) 0) with
 |none=>rw[kJ] at h;cases h
 |some Ow=>
 rw[kJ] at h;simp only at h;generalize hA:List.foldl _ [] (Dc _ _ 0)=A at h;generalize c7Y:List.map _ (List.range ops.size)=c_ at h;generalize c7Z:Dc _ _ 0=bl at h kJ;split at h<;>cases h;rename_i om;generalize WC:Dd A ops.size Ow=pl at om;simp only[Uu,C2] at om;obtain⟨zb,WD,jz,b3X,WE⟩:=om;simp only[Us,C2,tn,nY,MD] at zb;obtain⟨iC,h6,sn,l4⟩:=zb;have Ip:∀p,p<ops.size->bl[p]? =some (bl.getD p 0):=λp aw=>by
  rw[fw U,Ov (fw U)]
 have b3Y:∀p,p<ops.size->c_[p]? =some (c_.getD p 0):=λp aw=>by
  rw[fw U,Ov (fw U)]
 have WG:∀i o,ops[i]? =some o->(ops.toList.map r0).getD i []=r0 o:=λi o ho=>by
  refine Ov ?_;rw[fG,C0,ho];rfl
 have b3Z:∀(o:Oper) e,e∈o.after->Region.binds .any e=true->e.on∈r0 o:=λo e he hb=>by
  unfold r0;exact ti.2 ⟨e,NN.2 ⟨by simpa using he,hb⟩,rfl⟩
 have wN:Ow.length=ops.size:=by have:=(yy kJ).1;omega
 have hlen:pl.length=ops.size:=by rw[<-WC];simp[Dd,wN]
 have j5:∀p aY,pl[p]? =some aY->p<ops.size:=λp aY aw=>by have:=(jK.1 aw).1;omega
 have gn:∀p aY,pl[p]? =some aY->(aY,p)∈pl.zipIdx:=λp aY aw=>o6.2 (by simpa using aw);simp only[Ut,nY,C2,MD,tn] at jz;have WH:∀p,p<ops.size->(∀d∈AG (ops.toList.map r0) c_ (bl.getD p 0),d<p)/\A.getD p 0=AF A (AG (ops.toList.map r0) c_ (bl.getD p 0)):=λp aw=>
  jz (bl.getD p 0,p) (o6.2 (by simpa using Ip p aw))
 have Ox:∀p q aY dL,p<q->pl[p]? =some aY->pl[q]? =some dL->pairOk A pl (aY,p) (dL,q)=true:=λp q aY dL iK h1 h2=>
  Wz b3X p q _ _ iK (by simp[jd,h1]) (by simp[jd,h2])
 refine⟨λp=>bl.getD p 0,λi=>c_.getD i 0,λq p=>(A.getD p 0).testBit q,⟨hlen,?_,?_,?_,?_,?_,?_,?_,?_,?_⟩⟩
 ·intro p aw;have:=sn (bl.getD p 0,p) (o6.2 (by simpa using Ip p aw));exact this
 ·intro i hi;have:=l4 (c_.getD i 0,i) (o6.2 (by simpa using b3Y i hi));exact this
 ·intro p aY aw;have j6:=j5 p aY aw;have hZ:∃zc,Ow[p]? =some zc/\aY.op=zc.op/\aY.dst=zc.dst/\aY.guard=zc.guard:=by
   rw[<-WC] at aw;simp only[Dd,fG,jd,fs,Prod.exists] at aw;obtain⟨zc,i,⟨aX,h1,h2⟩,h3⟩:=aw;cases h2;subst h3;exact⟨_,h1,rfl,rfl,rfl⟩
  obtain⟨zc,h0,aL,a5,cy⟩:=hZ;obtain⟨i,hi,hj⟩:=WB kJ h0;rw[Ip p j6] at hi;cases hi;obtain⟨o,ho,ab⟩:=WB hl hj;exact⟨o,zc,by simpa using ho,ab,aL,a5,cy⟩
 ·intro p aw o ho e he hb;have WI:e.on∈r0 o:=b3Z o e he hb;refine⟨?_,?_⟩
  ·simp only[nY,MD] at WD;exact WD (r0 o) (ti.2 ⟨o,by simpa using Array.mem_of_getElem? ho,rfl⟩) _ WI
  ·exact(WH p aw).1 _ (ti.2 ⟨e.on,by rw[WG _ _ ho];exact WI,rfl⟩)
 ·intro p aw q aV;have D5:=sn (bl.getD p 0,p) (o6.2 (by simpa using Ip p aw));obtain⟨o,ho⟩:∃o,ops[bl.getD p 0]? =some o:=⟨_,b9 D5.1⟩
  refine⟨o,ho,?_⟩;rw[(WH p aw).2] at aV;obtain⟨d,hd,h2⟩:=WA aV;unfold AG at hd;rw[WG _ _ ho] at hd;obtain⟨j,ax,rfl⟩:=ti.1 hd;unfold r0 at ax;obtain⟨e,he,rfl⟩:=ti.1 ax;obtain⟨g9,nA⟩:=NN.1 he;exact⟨e,by simpa using g9,nA,h2⟩
 ·intro p q aY iK aV h1 he;have h2:pl[q]? =some (pl[q]'U):=fw U;have:=Ox p q aY (pl[q]'U) iK h1 h2;simp only[pairOk,C2,dA,he,NO,T8,false_or] at this;rcases this.2 with h3|h3
  ·exact .inl h3
  ·refine .inr ?_;have aO:=h3.2;simp only[Uq,C2,tn,Option.isNone_iff_eq_none,wG,List.isEmpty_eq_false_iff,nY] at aO;obtain⟨aL,a5,cy,iB,hk,mC,Bm,Iq,j7,vs⟩:=aO;obtain⟨s1,aX,gf,p9⟩:∃s a x,aY.op= .store s a x:=by
    revert cy;cases aY.op<;>intro cy<;>first|exact⟨_,_,_,rfl⟩|cases cy
   obtain⟨s2,bc,qa,oh⟩:∃s a x,(pl[q]'U).op= .store s a x:=by
    revert iB;cases(pl[q]'U).op<;>intro iB<;>first|exact⟨_,_,_,rfl⟩|cases iB
   refine⟨aL,a5,⟨_,_,s1,aX,gf,s2,bc,qa,h1,h2,p9,oh,hk,mC,Bm,Iq,j7⟩,λr aQ aq Oj=>?_⟩;have bI:=vs (aQ,r) (gn r aQ Oj);simp only[dA,wG,Up,C2] at bI;rcases bI with bI|bI|bI
   ·rw[w9.2 aq] at bI;cases bI
   ·exact .inl bI
   ·exact .inr bI
 ·intro p q aY dL d iK h1 h2 hd jO;have:=Ox p q aY dL iK h1 h2;simp only[pairOk,C2,hd,jO] at this;simp at this
 ·intro p q aY dL iK h1 h2;have:=Ox p q aY dL iK h1 h2;simp only[pairOk,C2,dA] at this;rcases this.2 with h3|h3
  ·exact .inl h3
  ·refine .inr ?_;have aO:=h3.1;simp only[indep,C2] at aO;refine⟨λd hd=>?_,λd hd=>?_⟩
   ·have:=aO.1;rw[hd] at this;simpa using this
   ·have:=aO.2;rw[hd] at this;simpa using this
 ·intro p aY aw WJ q iK aV;simp only[nY] at WE;have:=WE _ (gn p aY aw);simp only[Ur,WJ,NO,Bool.false_or,nY] at this;have D6:q∈ops.size::posOf (·.op.gh) pl:=by
   rcases aV with rfl|⟨dL,h1,h2⟩
   ·simp
   ·exact C1 _ (Ou.2 ⟨dL,h1,h2⟩)
  have:=this q D6;simp only[dA,wG] at this;rcases this with h1|h1|h1|h1
  ·exfalso;have:Nat.blt p q=true:=(w9.2 iK)
   rw[this] at h1;cases h1
  ·exact .inl (by simpa using h1)
  ·refine .inr (.inl ?_);simp only[NP,C2,MD] at h1;obtain⟨e,he,h2,h3,aO⟩:=h1;obtain⟨ez,bI,cx⟩:=Ou.1 he;exact⟨e,ez,bI,cx,h2,h3,aO⟩
  ·refine .inr (.inr λc ac ab b4a qb=>?_);simp only[nY,wG,Bool.and_eq_false_iff] at h1;cases WK:Hp ac with
   |false=>simpa [Hp] using WK
   |true=>
    exfalso;have:=h1 c (Ou.2 ⟨ac,ab,WK⟩);rw[(w9.2 b4a),(w9.2 qb)] at this;rcases this with h|h<;>cases h
section
variable {f:Nat}{ar lG:aJ->Option AV}{J ai:ae}
def w_{x:Option aJ}{d:Nat}(h:∀y∈qP x,ar y=lG y):bndO ar x d=bndO lG x d:=by
 cases x with
 |none=>rfl
 |some x=>simp only[bndO,h x (by simp[qP])]
def Bn{α β:Type}{g tQ:α->Option β}:∀ {l:List α},(∀x∈l,g x=tQ x)->mapO g l=mapO tQ l
 |[],_=>rfl
 |x::l,h=>by
  rw[mapO_cons,mapO_cons,h x aF,Bn (l:=l) (λy hy=>h y (by simp[hy]))]
def layParts_congr{b0:Nat->Nat->Nat}:∀ {aC:List (Nat×Nat×aJ)} {c:List AV},(∀p∈aC,ar p.2.2=lG p.2.2)->iy ar b0 aC c=iy lG b0 aC c
 |[],_,_=>rfl
 |p::aC,c,h=>by
  show(match ar p.2.2 with|none=>none|some v=>cond _ (match storeCells c (b0 p.1 p.2.1) v.cells with|none=>none|some c=>iy ar b0 aC c) none)=(match lG p.2.2 with|none=>none|some v=>cond _ (match storeCells c (b0 p.1 p.2.1) v.cells with|none=>none|some c=>iy lG b0 aC c) none);rw[h p aF];have:∀c,iy ar b0 aC c=iy lG b0 aC c:=λc=>layParts_congr (λq aV=>h q (by simp[aV]));simp only[this]
def b4b{aa:Option Nat}{x:AV}{cY hi gd:Option aJ}(h1:∀y∈qP cY,ar y=lG y)(h2:∀y∈qP hi,ar y=lG y)(h3:∀y∈qP gd,ar y=lG y):sliceA ar aa x cY hi gd=sliceA lG aa x cY hi gd:=by
 unfold sliceA;simp only[w_ h1,w_ h2,w_ h3];cases gd with
 |none=>rfl
 |some m=>simp only[w_ (x:=some m) h3]
def WL{c:tp}(h:∀y∈(match c with| .fn _=>[]| .val o=>[o]:List aJ),ar y=lG y):calleeV ar c=calleeV lG c:=by
 cases c with
 |fn f=>rfl
 |val o=>exact h o aF
def WM{op:AOp}(h:∀x∈op.opnds,ar x=lG x):opx f ar J op=opx f lG J op:=by
 cases op
 all_goals simp only[AOp.opnds,List.forall_mem_cons,tl,NQ,false_implies,implies_true,and_true] at h
 all_goals try simp only[opx,h]
 case pick c a b=>
  cases ab:lG c with
  |none=>rfl
  |some v=>cases v<;>first|rfl|(rename_i t;cases t<;>simp only[cond_true,cond_false,h])
 case build z aC=>rw[layParts_congr (λp aw=>h _ (ti.2 ⟨p,aw,rfl⟩))]
 case buildSlice aa n z aC=>
  rw[layParts_congr (λp aw=>by
   obtain⟨q,aV,rfl⟩:=ti.1 aw;exact h _ (ti.2 ⟨q,aV,rfl⟩))]
 case fQ fn a c=>rw[Bn (λx hx=>h x (.inl hx)),Bn (g:=ar) (tQ:=lG) (l:=c) (λx hx=>h x (.inr hx))]
 case wH n aa x cY hi=>rw[w_ (λy hy=>h.2 y (.inl hy)),w_ (x:=hi) (λy hy=>h.2 y (.inr hy))]
 case iZ x cY hi=>
  have e:∀d,bndO ar cY d=bndO lG cY d:=λd=>w_ (λy hy=>h.2 y (.inl hy));have a5:∀d,bndO ar hi d=bndO lG hi d:=λd=>w_ (λy hy=>h.2 y (.inr hy));simp only[e,a5]
 case nt aa x cY hi gd=>
  have e:∀v,sliceA ar aa v cY hi gd=sliceA lG aa v cY hi gd:=λv=>b4b (λy hy=>h.2 y (.inl hy)) (λy hy=>h.2 y (.inr (.inl hy))) (λy hy=>h.2 y (.inr (.inr hy)));simp only[e]
 case call c as=>rw[WL (λy hy=>h y (.inl hy)),Bn (λx hx=>h x (.inr hx))]
 case lv c as=>rw[WL (λy hy=>h y (.inl hy)),Bn (λx hx=>h x (.inr hx))]
def Ir{op:AOp}(he:op.gh=false)(ha:op.lx=false){r:bZ}(h:opx f ar J op=some r)(hn:∀l,r≠ .j1 l:=by intro _ h;cases h):∃v,r= .val v J/\(op.looks=false->∀cT,opx f ar cT op=some (.val v cT)):=by
 cases op
 all_goals first|(cases he;done)|(cases ha;done)|skip
 all_goals simp only[opx] at h
 all_goals first
  |(cases h;done)
  |(
    repeat' (first|(cases h;done)|(exact absurd (Dx h) (hn _))|split at h|(simp only[A2] at h))
    all_goals first
     |(cases h;exact⟨_,rfl,λhl=>by first|(cases hl;done)|(intro cT;rfl)|(intro cT;simp only[opx];done)|(intro cT;simp only[opx];simp only[*];first|done|rfl|(simp only[A2];simp only[*];first|done|rfl|simp))⟩)
     |skip)
def WN{op:AOp}(ha:op.lx=true){r:bZ}(h:opx f ar J op=some r):∃(o:AO) (ra:Nat->AV),r= .val (ra J.next) (J.push o)/\o.isDead=false/\∀cT,opx f ar cT op=some (.val (ra cT.next) (cT.push o)):=by
 cases op
 all_goals first|(cases ha;done)|skip
 all_goals simp only[opx] at h
 case alloc v=>cases h;exact⟨_,λn=>j2 n 0,rfl,rfl,λ_=>rfl⟩
 case box x=>
  split at h<;>try (cases h;done)
  rename_i v au;cases hval:v.val with
  |false=>rw[hval] at h;cases h
  |true=>
   rw[hval,cond_true] at h;cases h;exact⟨_,λn=>j2 n 0,rfl,rfl,λcT=>by simp only[opx,au,hval,cond_true]⟩
 case buildSlice aa n z aC=>
  split at h<;>cases h;rename_i c ab;exact⟨_,λk=>.al k 0 n aa (some n),rfl,rfl,λcT=>by simp only[opx,ab]⟩
 case mkMap=>cases h;exact⟨_,λn=>.m (some n),rfl,rfl,λ_=>rfl⟩
end
def b4c(P:Program)(w:World)(m:Nat->Option Nat)(O:Nat->Prop)(B:Nat)(o:AO)(ra:Nat->AV)(r:Result Next):Prop:=
 ∃u av bX,r= .ok (.value u) av/\av.heap=w.heap.push bX/\av.os=w.os/\av.tape=w.tape/\av.output=w.output/\mV P w m O B o bX∧
  ∀(jA:World) (o_:Nat->Option Nat) (D7:Nat->Prop) (D8 id:Nat),o_ id=some w.heap.size->jA.heap[w.heap.size]? =some bX->ag jA o_ D7 D8 (ra id) u
def b4d{P:Program}{o:Oper}{cJ:AOp}(h:cop P o=some cJ)(ha:cJ.lx=true):
  (∃t,o.op= .alloc t)\/(∃t x,o.op= .box t x)\/(∃t n aC,o.op= .buildSlice t n aC)\/(∃t r,o.op= .makeMap t r):=by
 unfold cop at h;split at h
 all_goals first
  |(cases h;done)
  |(rename_i ho;exact .inl ⟨_,ho⟩)
  |(rename_i ho;exact .inr (.inl ⟨_,_,ho⟩))
  |(rename_i ho;exact .inr (.inr (.inl ⟨_,_,_,ho⟩)))
  |(rename_i ho;exact .inr (.inr (.inr ⟨_,_,ho⟩)))
  |(
    exfalso
    repeat' first
     |(cases h;cases ha;done)
     |(cases h;done)
     |(simp only[fs] at h;obtain⟨_,_,h⟩:=h)
     |(simp only[eD,dU,eU,cL] at h)
     |split at h
     |(obtain⟨_,_,h⟩:=h)
     |(subst h;cases ha;done))
section
variable {P:Program}{env:Env}{J:ae}{w:World}{m:Nat->Option Nat}{B:Nat}{f:Nat}{al:a1 AV}{a:Act}{o:Oper}{cJ:AOp}{cw:AO}{ra:Nat->AV}
def b4e{t e:TypeId}{aa:Option Nat}(hu:P.underlying t=some (.slice e))(ao:shapeOf P e=some aa){z:AV}(a6:zeroOf P e=some z)(wM:z.cells.length=shN aa){n:Nat}(hn:n*shN aa<=16777216){ar:aJ->Option AV}
  {aC:List (Nat×Nat×aJ)} {iV:Array (Nat×Value)} {c:List AV}
  (aw:jc (λ(p:Nat×Nat×aJ) (q:Nat×Value)=>(p.1=q.1/\p.2.1=shN aa)/\∀v,ar p.2.2=some v->ag w m (bq J m) B v q.2) aC iV.toList)
  (h:iy ar (λi b0=>i*b0) aC (f_ n z.cells)=some c):
  ∃arr:Array Value,(Instr.buildSlice t n iV).run P w= .ok (.slice (some ⟨w.heap.size,0,none⟩) n n) {w with heap:=w.heap.push (.cells arr e)}/\bQ w m (bq J m) B c arr.toList/\(∀x∈c,conf none x=true)/\arr.size=n*shN aa:=by
 obtain⟨_,cz,_⟩:=lz ao w;obtain⟨eP,iJ,k0,mZ⟩:=r6 a6 w;have ny:=(k0 w m (bq J m) B).cells;have mv:eP.cells.size=shN aa:=by have:=ny.1;simp at this;omega
 have qS:jc (λ(p:Nat×Nat×aJ) (q:Nat×Value)=>(λi=>some (i*shN aa,shN aa)) q.1=some (p.1*p.2.1,p.2.1)/\∀v,ar p.2.2=some v->ag w m (bq J m) B v q.2) aC iV.toList:=by
  clear h;revert aw;generalize iV.toList=g1
  induction aC generalizing g1 with
  |nil=>cases g1<;>exact id
  |cons p aC aH=>
   cases g1 with
   |nil=>exact id
   |cons q g1=>
    rintro⟨⟨⟨h1,h2⟩,au⟩,aq⟩;exact⟨⟨by rw[h1,h2],au⟩,aH g1 aq⟩
 have n4:=AM ny n;have Ng:=AN mZ n;have wN:eP.cells.toList.length=shN aa:=by simp[mv]
 rw[wN] at n4;obtain⟨nx,h1,h2,h3,aO⟩:=Ds (place:=λi=>some (i*shN aa,shN aa)) aC iV.toList (f_ n z.cells) c ((Array.range (n*shN aa)).map λi=>eP.cells.toList[i%shN aa]!) qS
  (by simpa [yo] using n4) Ng h
 have h4:(newRow e nx).run P w= .ok ⟨w.heap.size,0,none⟩ {w with heap:=w.heap.push (.cells nx e)}:=by simp[newRow]
 have AP:nx.size=n*shN aa:=by
  have aX:=h2.1;have bc:=n4.1;simp at aX bc;omega
 refine⟨nx,?_,h2,h3,AP⟩;have Nh:¬(n*shN aa > 2^24):=by omega
 simp only[Instr.buildSlice,cB,run_underlying hu,e7,cz];rw[if_neg Nh];by_cases h0:n*shN aa=0
 ·have aL:((Array.range (n*shN aa)).map λi=>eP.cells.toList[i%shN aa]!)= #[]:=by rw[h0];apply T9;simp
  rw[aL] at h1;rw[if_pos h0];simp only[cB,fX,e7,h0];have cy:((Array.range 0).map λx=>(#[]:Array Value)[x%(#[]:Array Value).size]!)= #[]:=by apply T9;simp
  rw[cy,h1];simp[h4]
 ·have aL:((Array.range (n*shN aa)).map λi=>eP.cells.toList[i%shN aa]!)=((Array.range (n*shN aa)).map λi=>eP.cells[i%eP.cells.size]!):=by
   apply T9;simp only[uY,yo];apply mj;intro a _;rw[mv,MK,qL];simp
  rw[aL] at h1;simp only[h0,if_false,cB,iJ,e7,fX];simp only[h1];simp[h4]
def push_inj{o bX:AO}(h:J.push o=J.push bX):o=bX:=by
 have h1:=ae.jL (J:=J) o;have h2:=ae.jL (J:=J) bX;rw[h,h2] at h1;exact(wF h1).symm
def b4f(c:Ctx P env J w m B al a)(ab:cop P o=some cJ)(ha:cJ.lx=true)(h:∀cT,opx f (evalA env al) cT cJ=some (.val (ra cT.next) (cT.push cw))):
  b4c P w m (bq J m) B cw ra ((execOp a.eval o).run P w):=by
 have Is:∀ {g:Nat->AV},(∀cT:ae,ra cT.next=g cT.next)->ra=g:=λhg=>funext λn=>hg ⟨.nil,n⟩;rcases b4d ab ha with⟨t,ho⟩|⟨t,x,ho⟩|⟨t,n,aC,ho⟩|⟨t,r,ho⟩
 ·simp only[cop,ho,fs] at ab;obtain⟨z,a6,rfl⟩:=ab;simp only[opx,cL,bZ.val.injEq] at h;obtain rfl:=push_inj (h J).2;obtain rfl:=Is (g:=λn=>j2 n 0) (λcT=>(h cT).1.symm);obtain⟨u,h1,h2,hf⟩:=r6 a6 w;have gS:=(h2 w m (bq J m) B).cells;simp only[execOp,ho];refine⟨.pointer (some ⟨w.heap.size,0,none⟩),{w with heap:=w.heap.push (.cells u.cells t)},.cells u.cells t,by simp[Instr.alloc,h1,newVar,newRow],rfl,rfl,rfl,rfl,?_,λjA o_ D7 D8 id o9 _=>.p o9⟩;exact .cells (by have:=gS.1;simp at this;omega) (λi h h'=>by have:=gS.2 i h (by simpa using h');simpa using this) (λi _=>by simp) hf
 ·simp only[cop,ho,fs] at ab;obtain⟨bS,hx,rfl⟩:=ab;have h0:=h J;simp only[opx] at h0;split at h0<;>try (cases h0;done)
  rename_i bR au;cases hval:bR.val with
  |false=>rw[hval] at h0;cases h0
  |true=>
   simp only[opx,au,hval,cond_true,cL,bZ.val.injEq] at h;obtain rfl:=push_inj (h J).2;obtain rfl:=Is (g:=λn=>j2 n 0) (λcT=>(h cT).1.symm);have gS:=(c.ar hx au).cells;simp only[execOp,ho];refine⟨.pointer (some ⟨w.heap.size,0,none⟩),{w with heap:=w.heap.push (.cells (a.eval x).cells t)},.cells (a.eval x).cells t,by simp[Instr.box,newVar,newRow],rfl,rfl,rfl,rfl,?_,λjA o_ D7 D8 id o9 _=>.p o9⟩;exact .cells (by have:=gS.1;simp at this;omega) (λi h h'=>by have:=gS.2 i h (by simpa using h');simpa using this) (λi _=>by simp) (Nc (c.ar hx au) hval)
 ·-- a slice:one new row,made as 'c8a c8b
  simp only[cop,ho,eD,dU] at ab;obtain⟨⟨e,aa⟩,he,z,a6,l,hl,ab⟩:=ab;split at ab<;>cases ab;rename_i gm;obtain⟨hu,ao⟩:=A3 he;have h0:=h J;simp only[opx] at h0;split at h0<;>try (cases h0;done)
  rename_i cs tI;simp only[opx,tI,cL,bZ.val.injEq] at h;obtain rfl:=push_inj (h J).2;obtain rfl:=Is (g:=λk=>.al k 0 n aa (some n)) (λcT=>(h cT).1.symm);simp only[execOp,ho];have hall:jc (λ(p:Nat×Nat×aJ) (q:Nat×Value)=>(p.1=q.1/\p.2.1=shN aa)/\∀v,evalA env al p.2.2=some v->ag w m (bq J m) B v q.2) (l.map λp=>(p.1,shN aa,p.2)) ((aC.map λ(x:Nat×Operand)=>(x.1,a.eval x.2)).toList):=by
   rw[uY];have:=Dr (g:=λ(x:Nat×Operand)=>(x.1,a.eval x.2)) (r:=λ(p:Nat×aJ) (q:Nat×Value)=>p.1=q.1/\∀v,evalA env al p.2=some v->ag w m (bq J m) B v q.2) (λp q iK=>by
    split at iK<;>cases iK;rename_i x h2;exact⟨rfl,λv au=>c.ar h2 au⟩) hl
   revert this;generalize aC.toList.map (λ(x:Nat×Operand)=>(x.1,a.eval x.2))=g1;clear tI hl h h0 ha
   induction l generalizing g1 with
   |nil=>cases g1<;>exact id
   |cons p l aH=>
    cases g1 with
    |nil=>exact id
    |cons q g1=>
     rintro⟨⟨h1,h2⟩,h3⟩;exact⟨⟨⟨h1,rfl⟩,h2⟩,aH g1 h3⟩
  obtain⟨arr,cf,gS,kI,cz⟩:=b4e (J:=J) (m:=m) (B:=B) hu ao a6 gm.2 gm.1 hall tI;refine⟨.slice (some ⟨w.heap.size,0,none⟩) n n,{w with heap:=w.heap.push (.cells arr e)},.cells arr e,by simp[cf],rfl,rfl,rfl,rfl,?_,λjA o_ D7 D8 id o9 k7=>?_⟩
  ·exact .cells (by have:=gS.1;simp at this;omega) (λi h h'=>by have:=gS.2 i h (by simpa using h');simpa using this) (λi _=>by simp) kI
  ·exact .al o9 (bs _) (λc ab=>by cases ab;rfl) (n:=arr.size) (by unfold eK;rw[k7]) U
 ·simp only[cop,ho] at ab;simp only[execOp,ho];have key:(Instr.makeMap t (r.map a.eval)).run P w= .ok (.map (some w.heap.size)) {w with heap:=w.heap.push (.map #[] 0)}/\cJ= .mkMap:=by
   split at ab<;>cases ab
   ·exact⟨by simp[Instr.makeMap],rfl⟩
   ·rename_i ht;exact⟨by simp[Instr.makeMap,run_underlying ht,Act.eval,asInt,asIntOf],rfl⟩
  obtain⟨key,rfl⟩:=key;simp only[opx,cL,bZ.val.injEq] at h;obtain rfl:=push_inj (h J).2;obtain rfl:=Is (g:=λn=>.m (some n)) (λcT=>(h cT).1.symm);exact⟨.map (some w.heap.size),{w with heap:=w.heap.push (.map #[] 0)},.map #[] 0,by simp[key],rfl,rfl,rfl,rfl,.map I (λi h=>by simp at h),λjA o_ D7 D8 id o9 _=>.mp o9⟩
def Rel.Oy(aq:Rel P J w m B){id:Nat}(o9:id<J.next)(hm:m id=none){av:World}{bX:Obj}(hg:J.get id=some cw)(hh:av.heap=w.heap.push bX)(lY:mV P w m (bq J m) B cw bX):
  Rel P J av (bindM m id w.heap.size) B/\(∀i b,m i=some b->bindM m id w.heap.size i=some b)/\w.heap.size<=av.heap.size/\(∀b n,eK w b=some n->eK av b=some n)∧
   (∀b,b<w.heap.size->av.heap[b]? =w.heap[b]?)/\(∀aD,aD<w.heap.size->¬bq J m aD->av.heap[aD]? =w.heap[aD]? ∧¬bq J (bindM m id w.heap.size) aD)/\av.heap[w.heap.size]? =some bX:=by
 have cz:av.heap.size=w.heap.size+1:=by rw[hh];simp
 have hold:∀b,b<w.heap.size->av.heap[b]? =w.heap[b]? :=λb hb=>by
  rw[hh,yk];rw[if_neg U]
 have ly:av.heap[w.heap.size]? =some bX:=by rw[hh];simp
 have jP:∀i b,m i=some b->bindM m id w.heap.size i=some b:=λi b h=>by
  rw[jb m _ _ (λe=>by subst e;rw[hm] at h;cases h)];exact h
 have hz:∀b n,eK w b=some n->eK av b=some n:=by
  intro b n hb;have:b<w.heap.size:=by
   rcases MG b w.heap.size with h|h
   ·exact h
   ·simp[eK,oQ h] at hb
  unfold eK at hb ⊢;rw[hold b this];exact hb
 have D9:∀aD,aD<w.heap.size->¬bq J m aD->av.heap[aD]? =w.heap[aD]? ∧¬bq J (bindM m id w.heap.size) aD:=λaD hb ch=>by
  refine⟨hold aD hb,?_⟩;rintro⟨i,h1,h2⟩;by_cases hi:i=id
  ·subst hi;rw[hY] at h1;cases h1;omega
  ·rw[jb m _ _ hi] at h1;exact ch ⟨i,h1,h2⟩
 refine⟨⟨aq.len,?_,?_,?_,?_,by have:=aq.mX;omega⟩,jP,U,hz,hold,D9,ly⟩
 ·intro i b h;by_cases hi:i=id
  ·subst hi;rw[hY] at h;cases h;exact⟨U,o9⟩
  ·rw[jb m _ _ hi] at h;have:=aq.gi _ _ h;exact⟨U,this.2⟩
 ·intro i b eb h tM hd;by_cases hi:i=id
  ·subst hi;rw[hY] at h;cases h;rw[hg] at tM;cases tM;exact⟨bX,ly,lY.mono jP U hz D9⟩
  ·rw[jb m _ _ hi] at h;obtain⟨iS,h1,h2⟩:=aq.obj i b eb h tM hd;exact⟨iS,by rw[hold _ (aq.gi _ _ h).1];exact h1,h2.mono jP U hz D9⟩
 ·intro i gE b h h' hl u6;by_cases hi:i=id
  ·by_cases dq:gE=id
   ·rw[hi,dq]
   ·subst hi;rw[hY] at h;cases h;rw[jb m _ _ dq] at h';have:=(aq.gi _ _ h').1;omega
  ·rw[jb m _ _ hi] at h;by_cases dq:gE=id
   ·subst dq;rw[hY] at h';cases h';have:=(aq.gi _ _ h).1;omega
   ·rw[jb m _ _ dq] at h';exact aq.inj i gE b h h' hl u6
 ·intro i b h;by_cases hi:i=id
  ·subst hi;rw[hY] at h;cases h;exact aq.mX
  ·rw[jb m _ _ hi] at h;exact aq.base _ _ h
def ff.mono{ad:Fr}{ai:ae}{av:World}{aT:Nat->Option Nat}(s:ff P env ad a J w m B)(sa:Rel P ai av aT B)(hm:∀id aD,m id=some aD->aT id=some aD)(cz:w.heap.size<=av.heap.size)
  (hz:∀b n,eK w b=some n->eK av b=some n) (ay:∀aD,aD<w.heap.size->¬bq J m aD->av.heap[aD]? =w.heap[aD]? ∧¬bq ai aT aD):ff P env ad a ai av aT B:=
 ⟨⟨sa,s.ctx.bj.mono hm cz hz ay,λg v hg eL=>(s.ctx.globs g v hg eL).mono (λ_ _ h=>h) cz hz (λb hb ch=>⟨(ay b hb (λ⟨i,h1,_⟩=>ch (s.ctx.rel.base _ _ h1))).1,ch⟩)⟩,
  DM (λd jt hd=>by
   cases d with
   |inl id=>obtain⟨aD,h1,h2⟩:=hd;exact⟨aD,hm _ _ h1,h2⟩
   |inr p=>obtain⟨g,a8,cs,g0,fz,us,h1,h2,h3,aO,bI⟩:=hd;exact⟨g,a8,cs,g0,fz,us,h1,h2,h3.mono hm cz hz ay,aO.mono hm cz hz ay,bI.mono hm cz hz ay⟩) s.defs⟩
def WO(aq:Rel P J w m B)(o:AO)(aD:Nat):bq (J.push o) m aD↔bq J m aD:=by
 constructor
 ·rintro⟨i,h1,eb,h2,h3⟩;rw[ae.gD aq.len o (aq.gi _ _ h1).2] at h2;exact⟨i,h1,eb,h2,h3⟩
 ·rintro⟨i,h1,eb,h2,h3⟩;exact⟨i,h1,eb,by rw[ae.gD aq.len o (aq.gi _ _ h1).2];exact h2,h3⟩
def Rel.D_(aq:Rel P J w m B)(o:AO):Rel P (J.push o) w m B:=by
 have ay:∀aD,aD<w.heap.size->¬bq J m aD->w.heap[aD]? =w.heap[aD]? ∧¬bq (J.push o) m aD:=λaD _ ch=>⟨rfl,λh=>ch ((WO aq o aD).1 h)⟩
 refine⟨trivial,λi b h=>⟨(aq.gi _ _ h).1,gZ (aq.gi _ _ h).2⟩,λi b eb h hg hd=>?_,λi gE b h h' hl u6=>?_,aq.base,aq.mX⟩
 ·rw[ae.gD aq.len o (aq.gi _ _ h).2] at hg;obtain⟨iS,h1,h2⟩:=aq.obj i b eb h hg hd;exact⟨iS,h1,h2.mono (λ_ _ h=>h) (bs _) (λ_ _ h=>h) ay⟩
 ·refine aq.inj i gE b h h' ?_ ?_
  ·obtain⟨eb,h2,h3⟩:=hl;rw[ae.gD aq.len o (aq.gi _ _ h).2] at h2;exact⟨eb,h2,h3⟩
  ·obtain⟨eb,h2,h3⟩:=u6;rw[ae.gD aq.len o (aq.gi _ _ h').2] at h2;exact⟨eb,h2,h3⟩
def ff.D_{ad:Fr}(s:ff P env ad a J w m B)(o:AO):ff P env ad a (J.push o) w m B:=
 s.mono (s.ctx.rel.D_ o) (λ_ _ h=>h) (bs _) (λ_ _ h=>h) (λaD _ ch=>⟨rfl,λh=>ch ((WO s.ctx.rel o aD).1 h)⟩)
def Ext.D_{di:ae}{eM:World}{e9:Nat->Option Nat}(h:Ext f di eM e9 J w m)(hl:True)(o:AO):Ext f di eM e9 (J.push o) w m where
 mono:=h.mono
 new:=h.new
 next:=qH h.next (MF _)
 size:=h.size
 bK:=h.bK
 aP:=h.aP
 low id h1 h2:=by rw[ae.gD hl o (yR h2 h.next)];exact h.low id h1 h2
 dead id h1 h2:=h.dead id h1 (by
  obtain⟨eb,h3,aO⟩:=h2;rw[ae.gD hl o (yR h1 h.next)] at h3;exact⟨eb,h3,aO⟩)
 os:=h.os
 tape:=h.tape
 out:=h.out
 un id h1 h2:=by rw[ae.gD hl o (yR h1 h.next)];exact h.un id h1 h2
def Ext.Oy{di:ae}{eM:World}{e9:Nat->Option Nat}(h:Ext f di eM e9 J w m){id:Nat}(o9:di.next<=id){av:World}{bX:Obj}(hm:m id=none)(hh:av.heap=w.heap.push bX)(mo:av.os=w.os)(pQ:av.tape=w.tape)(lX:av.output=w.output):
  Ext f di eM e9 J av (bindM m id w.heap.size):=by
 have cz:av.heap.size=w.heap.size+1:=by rw[hh];simp
 have hold:∀b,b<w.heap.size->av.heap[b]? =w.heap[b]? :=λb hb=>by
  rw[hh,yk];rw[if_neg U]
 refine⟨λi b hb=>?_,λi b hb=>?_,h.next,by have:=h.size;omega,λb n hb=>?_,λb hb ch=>?_,h.low,h.dead,mo.trans h.os,pQ.trans h.tape,lX.trans h.out,h.un⟩
 ·have:=h.mono _ _ hb;rw[jb m _ _ (λe=>by subst e;rw[hm] at this;cases this)];exact this
 ·by_cases hi:i=id
  ·subst hi;rw[hY] at hb;cases hb;exact .inr ⟨o9,.inl h.size⟩
  ·rw[jb m _ _ hi] at hb;exact h.new _ _ hb
 ·have h1:=h.bK _ _ hb;have:b<w.heap.size:=by
   rcases MG b w.heap.size with h|h
   ·exact h
   ·simp[eK,oQ h] at h1
  unfold eK at h1 ⊢;rw[hold b this];exact h1
 ·rw[hold b (by have:=h.size;omega)];exact h.aP b hb ch
end
def DStep(env:Env)(f:Nat)(call:mT)(aY:a4)(s:a1 AV)(J:ae)(v:AV)(b8:ae):Prop:=
 (wantedA aY.guard s=false/\v=ei/\b8=J)∨
 (wantedA aY.guard s=true/\opx f (evalA env s) J aY.op=some (.val v b8))∨
 (wantedA aY.guard s=true/\∃ct args,opx f (evalA env s) J aY.op=some (.call ct args)/\call ct args J=some [(.ok v,b8)])
noncomputable def pa (s:a1 AV) (d:Option Nat) (v:AV):a1 AV:=match d with|some d=>s.set d v|none=>s
def b4g(ad:Fr)(d:Option Nat)(v:AV):(ad.put d v).bj=pa ad.bj d v:=by
 cases d<;>rfl
def put_eq(al:a1 AV)(ds:List (Nat ⊕ (AV×List AV)))(rc:Bool)(d:Option Nat)(v:AV):Fr.put ⟨al,ds,rc⟩ d v=⟨pa al d v,ds,rc⟩:=by
 cases d with
 |none=>rfl
 |some d=>rfl
def put_defers(ad:Fr)(d:Option Nat)(v:AV):(ad.put d v).defers=ad.defers/\(ad.put d v).gg=ad.gg:=by
 cases d<;>exact⟨rfl,rfl⟩
structure Trace(env:Env)(f:Nat)(call:mT)(pl:List a4)(s:Nat->a1 AV)(S:Nat->ae)(v:Nat->AV):Prop where
 step:∀(p:Nat) (aY:a4),pl[p]? =some aY->DStep env f call aY (s p) (S p) (v p) (S (p+1))
 put:∀(p:Nat) (aY:a4),pl[p]? =some aY->s (p+1)=pa (s p) aY.dst (v p)
def Oz(env:Env)(f:Nat)(call:mT)(pl:List a4)(ad bd:Fr)(cN fj:List ae)(ws so:List tu)(J ai:ae):Prop:=
 ∃s S v,Trace env f call pl s S v/\s 0=ad.bj/\S 0=J/\s pl.length=bd.bj/\S pl.length=ai/\bd.defers=ad.defers/\bd.gg=ad.gg∧
  (ai::fj).reverse=cN.reverse++(List.range (pl.length+1)).map S/\(∀x∈ws,x∈so)∧
  ∀p aY,pl[p]? =some aY->wantedA aY.guard (s p)=true->aY.op.gh=false->aY.kj≠[]->(aY,s p,v p)∈so
section
variable {env:Env}{f:Nat}{call:mT}
def OA{o:a4}{pl:List a4}{ad bd:Fr}{cN fj:List ae}{ws OB so:List tu}{J b8 ai:ae}{v0:AV}(ao:DStep env f call o ad.bj J v0 b8)
  (aH:Oz env f call pl (ad.put o.dst v0) bd (J::cN) fj OB so b8 ai) (b4h:∀x∈ws,x∈OB)
  (b4i:wantedA o.guard ad.bj=true->o.op.gh=false->o.kj≠[]->(o,ad.bj,v0)∈OB):Oz env f call (o::pl) ad bd cN fj ws so J ai:=by
 obtain⟨s,S,v,ht,h1,h2,h3,aO,bI,cx,dI,fu,nB⟩:=aH;obtain⟨hk,mC⟩:=put_defers ad o.dst v0;refine⟨λp=>Nat.casesOn p ad.bj s,λp=>Nat.casesOn p J S,λp=>Nat.casesOn p v0 v,⟨λp aY aw=>?_,λp aY aw=>?_⟩,rfl,rfl,h3,aO,bI.trans hk,cx.trans mC,?_,λx hx=>fu x (b4h x hx),λp aY aw hw he hn=>?_⟩
 ·cases p with
  |zero=>simp at aw;subst aw;show DStep env f call o ad.bj J v0 (S 0);rw[h2];exact ao
  |succ p=>exact ht.step p aY (by simpa using aw)
 ·cases p with
  |zero=>simp at aw;subst aw;show s 0=pa ad.bj o.dst v0;rw[h1,b4g]
  |succ p=>exact ht.put p aY (by simpa using aw)
 ·rw[dI,CZ,List.range_succ_eq_map (n:=pl.length+1)];simp only[List.reverse_cons,uW,Ax,iE,List.singleton_append];rfl
 ·cases p with
  |zero=>simp at aw;subst aw;exact fu _ (b4i hw he hn)
  |succ p=>exact nB p aY (by simpa using aw) hw he hn
def runDraw_cons(o:a4)(pl:List a4)(ad:Fr)(cN:List ae)(ws:List tu)(J:ae):jv env f call (o::pl) ad cN ws J=
  cond (wantedA o.guard ad.bj)
   (match opx f (evalA env ad.bj) J o.op with
    |some (.val v ai)=>jv env f call pl (ad.put o.dst v) (J::cN) (match o.kj with|[]=>ws|_::_=>(o,ad.bj,v)::ws) ai
    |some (.call ct args)=>match call ct args J with
     |some [(.ok v,ai)]=>jv env f call pl (ad.put o.dst v) (J::cN) ws ai
     |_=>none
    |_=>none)
   (jv env f call pl (ad.put o.dst ei) (J::cN) ws J):=by
 rw[<-yY,← UB,← UC,← MZ];rfl
def It:∀(pl:List a4) (ad bd:Fr) (cN fj:List ae) (ws so:List tu) (J ai:ae),jv env f call pl ad cN ws J=some (bd,fj,so,ai)->Oz env f call pl ad bd cN fj ws so J ai
 |[],ad,bd,cN,fj,ws,so,J,ai,h=>by
  have h:some (ad,cN,ws,J)=some (bd,fj,so,ai):=h;cases h;exact⟨λ_=>ad.bj,λ_=>J,λ_=>ei,⟨λp aY aw=>by simp at aw,λp aY aw=>by simp at aw⟩,rfl,rfl,rfl,rfl,rfl,rfl,aF,λ_ h=>h,λp aY aw=>by simp at aw⟩
 |o::pl,ad,bd,cN,fj,ws,so,J,ai,h=>by
  rw[runDraw_cons] at h;cases hw:wantedA o.guard ad.bj with
  |false=>
   rw[hw,cond_false] at h;exact OA (.inl ⟨hw,rfl,rfl⟩) (It pl _ _ _ _ _ _ _ _ h) (λ_ h=>h) (λh=>by rw[hw] at h;cases h)
  |true=>
   rw[hw,cond_true] at h;split at h
   ·rename_i v b8 hx;refine OA (.inr (.inl ⟨hw,hx⟩)) (It pl _ _ _ _ _ _ _ _ h) (λx hx=>?_) (λ_ _ hn=>?_)
    ·split
     ·exact hx
     ·exact C1 _ hx
    ·split
     ·rename_i he;exact absurd he hn
     ·exact tm
   ·rename_i ct args hx;split at h
    ·rename_i v b8 gj;obtain⟨c,as,dP,_,_⟩:=wY hx;exact OA (.inr (.inr ⟨hw,ct,args,hx,gj⟩)) (It pl _ _ _ _ _ _ _ _ h) (λ_ h=>h) (λ_ he=>by rw[dP] at he;cases he)
    ·cases h
   ·cases h
end
structure h8(P:Program)(env:Env)(B f:Nat)(r:Option Nat)(ops:Array Oper)(pl:List a4)(bl c_:Nat->Nat)(da:Nat->Nat->Bool)(call:mT)(s:Nat->a1 AV)(S:Nat->ae)(v:Nat->AV):Prop where
 spec:Ww P ops pl bl c_ da
 b4j:DN P env B f r call
 oo:Trace env f call pl s S v
 steady:∀(p:Nat) (aY:a4),pl[p]? =some aY->wantedA aY.guard (s p)=true->aY.op.gh=false->∀q∈aY.kj,∃cT,opx f (evalA env (s p)) (S q) aY.op=some (.val (v p) cT)
 l5:∀p q,D2 pl da p q->∀bS eY s1 aX gf s2 bc qa,pl[p]? =some bS->pl[q]? =some eY->bS.op= .store s1 aX gf->eY.op= .store s2 bc qa->∃i Bo j Bp,evalA env (s p) aX=some (.p (some (i,Bo)))/\evalA env (s q) bc=some (.p (some (j,Bp)))/\i≠j
def dH(bl:Nat->Nat)(listed:Array Bool)(p:Nat):Prop:=listed.getD (bl p) false=true
structure xa(pl:List a4)(v:Nat->AV)(Bq:a1 AV)(D:Nat->Prop)(dk:a1 AV):Prop where
 gi:∀t,(dk.get t).isSome=(Bq.get t).isSome
 m2:∀(p:Nat) (aY:a4) (t:Nat),pl[p]? =some aY->D p->aY.dst=some t->(Bq.get t).isSome=true->dk.get t=some (v p)
 zd:∀(t:Nat),(∀(p:Nat) (aY:a4),pl[p]? =some aY->D p->aY.dst≠some t)->dk.get t=Bq.get t
structure qc(pl:List a4)(s:Nat->a1 AV)(S:Nat->ae)(di:ae)(D:Nat->Prop)(m:Nat->Option Nat)(k:Nat):Prop where
 one:∀(p:Nat) (aY:a4),p<k->pl[p]? =some aY->aY.op.lx=true->wantedA aY.guard (s p)=true->¬D p->m (S p).next=none/\di.next<=(S p).next/\(S p).next<(S k).next/\(S k).get (S p).next=(S (p+1)).get (S p).next
 lt:∀(p eQ:Nat) (aY ie:a4),p<eQ->eQ<k->pl[p]? =some aY->pl[eQ]? =some ie->aY.op.lx=true->ie.op.lx=true->wantedA aY.guard (s p)=true->wantedA ie.guard (s eQ)=true->¬D p->¬D eQ->(S p).next<(S eQ).next
section
variable {P:Program}{env:Env}{B f:Nat}{r:Option Nat}{ops:Array Oper}{pl:List a4}{bl c_:Nat->Nat}{da:Nat->Nat->Bool}{call:mT}{s:Nat->a1 AV}{S:Nat->ae}{v:Nat->AV}
def h8.lt(c:h8 P env B f r ops pl bl c_ da call s S v){p:Nat}{aY:a4}(h:pl[p]? =some aY):p<ops.size:=by
 have:=(jK.1 h).1;have:=c.spec.len;omega
def h8.get(c:h8 P env B f r ops pl bl c_ da call s S v){p:Nat}(h:p<ops.size):∃aY,pl[p]? =some aY:=
 ⟨_,fw (by have:=c.spec.len;omega)⟩
def h8.D4(c:h8 P env B f r ops pl bl c_ da call s S v){p q:Nat}{aY dL:a4}{d:Nat}(aw:pl[p]? =some aY)(aV:pl[q]? =some dL)(h1:aY.dst=some d)(h2:dL.dst=some d):p=q:=by
 rcases gR p q with h|h|h
 ·exact absurd h2 (c.spec.D4 p q aY dL d h aw aV h1)
 ·exact h
 ·exact absurd h1 (c.spec.D4 q p dL aY d h aV aw h2)
def WQ{dk:a1 AV}{d:Option Nat}{t:Nat}(h:d≠some t)(x:AV):(pa dk d x).get t=dk.get t:=by
 cases d with
 |none=>rfl
 |some e=>
  show(dk.set e x).get t=_;rw[a1.jw,if_neg (λhe=>h (by rw[he]))]
def xa.put(c:h8 P env B f r ops pl bl c_ da call s S v){Bq dk:a1 AV}{D mD:Nat->Prop}(h:xa pl v Bq D dk){p:Nat}{aY:a4}(aw:pl[p]? =some aY)(c6:¬D p)(Br:∀(q:Nat) (dL:a4),pl[q]? =some dL->(mD q↔D q\/q=p)):xa pl v Bq mD (pa dk aY.dst (v p)):=by
 refine⟨λt=>?_,λq dL t aV hd ht hlt=>?_,λt hm=>?_⟩
 ·rw[<-h.gi t];cases jy:aY.dst with
  |none=>rfl
  |some e=>
   show((dk.set e (v p)).get t).isSome=_;rw[a1.jw];by_cases he:t=e
   ·subst he;rw[if_pos I];cases dk.get t<;>rfl
   ·rw[if_neg he]
 ·rcases(Br q dL aV).1 hd with hd|rfl
  ·have a7:aY.dst≠some t:=λe=>by
    have:=c.D4 aw aV e ht;subst this;exact c6 hd
   rw[<-h.m2 q dL t aV hd ht hlt];exact WQ a7 _
  ·rw[aw] at aV;cases aV;rw[ht];show(dk.set t (v q)).get t=_;rw[a1.jw,if_pos I];have:=h.gi t;rw[hlt] at this;cases hg:dk.get t with
   |none=>rw[hg] at this;cases this
   |some y=>rfl
 ·have a7:=hm p aY aw ((Br p aY aw).2 (.inr I));rw[<-h.zd t (λq dL aV hd=>hm q dL aV ((Br q dL aV).2 (.inl hd)))];exact WQ a7 _
def OC(c:h8 P env B f r ops pl bl c_ da call s S v):∀k,k<=ops.size->xa pl v (s 0) (· <k) (s k)
 |0,_=>⟨λ_=>rfl,λp aY t aw hd=>by omega,λt _=>rfl⟩
 |k+1,ay=>by
  obtain⟨aY,mE⟩:=c.get (p:=k) U;rw[c.oo.put k aY mE];exact(OC c k U).put c mE (Nat.lt_irrefl k) (λq dL _=>⟨λh=>by have:q<k+1:=h;show q<k\/q=k;omega,λh=>by show q<k+1;rcases h with h|h<;>omega⟩)
def WR(c:h8 P env B f r ops pl bl c_ da call s S v){dk:a1 AV}{D:Nat->Prop}(h:xa pl v (s 0) D dk){p:Nat}{aY:a4}(aw:pl[p]? =some aY)(c6:¬D p)
  (jz:∀q,da q p=true->D q) (gj:∀q,q<ops.size->D q->∀x,da x q=true->D x):∀t∈aY.reads,dk.get t=(s p).get t:=by
 intro t ht;have j6:=c.lt aw;have ab:=OC c p U;by_cases hex:∃(q:Nat) (dL:a4),pl[q]? =some dL/\dL.dst=some t
 ·obtain⟨q,dL,aV,Ea⟩:=hex;have WS:∀nD ze,pl[nD]? =some ze->ze.dst=some t->nD=q:=λnD ze h1 h2=>c.D4 h1 aV h2 Ea;have WT:¬D q->dk.get t=(s 0).get t:=λhnd=>h.zd t (λnD ze h1 hd h2=>by have:=WS nD ze h1 h2;subst this;exact hnd hd);have WU:¬q<p->(s p).get t=(s 0).get t:=λhnd=>ab.zd t (λnD ze h1 hd h2=>by have:=WS nD ze h1 h2;subst this;exact hnd hd);by_cases hlt:((s 0).get t).isSome=true
  ·rcases gR q p with zf|zf|zf
   ·have Eb:D q:=by
     rcases c.spec.Wy q p dL aY zf aV aw with h1|h1
     ·exact jz q h1
     ·exact absurd ht (h1.1 t Ea)
    rw[h.m2 q dL t aV Eb Ea hlt,ab.m2 q dL t aV zf Ea hlt]
   ·subst zf;rw[WT c6,WU U]
   ·have Eb:¬D q:=λEb=>by
     rcases c.spec.Wy p q aY dL zf aw aV with h1|h1
     ·exact c6 (gj q (c.lt aV) Eb p h1)
     ·exact absurd ht (h1.2 t Ea)
    rw[WT Eb,WU U]
  ·have aL:=h.gi t;have a5:=ab.gi t;cases hg:(s 0).get t with
   |some y=>rw[hg] at hlt;exact absurd I hlt
   |none=>
    rw[hg] at aL a5;cases tM:dk.get t with
    |some y=>rw[tM] at aL;cases aL
    |none=>
     cases AY:(s p).get t with
     |some y=>rw[AY] at a5;cases a5
     |none=>rfl
 ·rw[h.zd t (λq dL h1 _ h2=>hex ⟨q,dL,h1,h2⟩),ab.zd t (λq dL h1 _ h2=>hex ⟨q,dL,h1,h2⟩)]
def WV{dk sp:a1 AV}{aY:a4}(h:∀t∈aY.reads,dk.get t=sp.get t):∀x∈aY.op.opnds,evalA env dk x=evalA env sp x:=by
 intro x hx;cases x with
 |t i=>
  show dk.get i=sp.get i;exact h i (VK _ (List.mem_filterMap.2 ⟨_,hx,rfl⟩))
 |c v=>rfl
 |g g=>rfl
def WW{dk sp:a1 AV}{aY:a4}(h:∀t∈aY.reads,dk.get t=sp.get t):wantedA aY.guard dk=wantedA aY.guard sp:=by
 cases hg:aY.guard with
 |none=>rfl
 |some g=>
  obtain⟨d,b⟩:=g;simp only[wantedA];rw[h d (by simp[a4.reads,hg])]
def b4k{op:AOp}(h:op.lx=true):op.gh=false:=by
 cases op<;>first|rfl|cases h
def h8.calm(c:h8 P env B f r ops pl bl c_ da call s S v){p:Nat}{aY:a4}(aw:pl[p]? =some aY)(he:aY.op.gh=false):
  S (p+1)=S p/\(aY.op.lx=false\/wantedA aY.guard (s p)=false)\/∃cw,aY.op.lx=true/\wantedA aY.guard (s p)=true/\S (p+1)=(S p).push cw:=by
 rcases c.oo.step p aY aw with⟨h1,_,h2⟩|⟨h1,h2⟩|⟨h1,ct,args,h2,_⟩
 ·exact .inl ⟨h2,.inr h1⟩
 ·cases ha:aY.op.lx with
  |false=>
   obtain⟨bR,h3,_⟩:=Ir he ha h2;simp only[bZ.val.injEq] at h3;exact .inl ⟨h3.2,.inl I⟩
  |true=>
   obtain⟨cw,ra,h3,_,_⟩:=WN ha h2;simp only[bZ.val.injEq] at h3;exact .inr ⟨cw,rfl,h1,h3.2⟩
 ·obtain⟨an,as,dP,_,_⟩:=wY h2;rw[dP] at he;cases he
def advance(c:h8 P env B f r ops pl bl c_ da call s S v){ad:Fr}{a:Act}{w eM:World}{m e9:Nat->Option Nat}{di:ae}{D:Nat->Prop}:∀(d k:Nat),k+d<=ops.size->(∀p aY,k<=p->p<k+d->pl[p]? =some aY->aY.op.gh=false)→
  ff P env ad a (S k) w m B->Ext f di eM e9 (S k) w m->qc pl s S di D m k->ff P env ad a (S (k+d)) w m B/\Ext f di eM e9 (S (k+d)) w m/\qc pl s S di D m (k+d)
 |0,k,_,_,h1,h2,h3=>⟨h1,h2,h3⟩
 |d+1,k,ay,l3,h1,h2,h3=>by
  obtain⟨i1,i2,i3⟩:=advance c d k U (λp aY aO bI=>l3 p aY aO U) h1 h2 h3;obtain⟨aY,mE⟩:=c.get (p:=k+d) U;have he:=l3 (k+d) aY U U mE;show ff P env ad a (S (k+d+1)) w m B/\Ext f di eM e9 (S (k+d+1)) w m/\qc pl s S di D m (k+d+1);rcases c.calm mE he with⟨cQ,lY⟩|⟨cw,k5,hw,cQ⟩
  ·have WX:∀p ie,p<k+d+1->pl[p]? =some ie->ie.op.lx=true->wantedA ie.guard (s p)=true->p<k+d:=λp ie aw hg ha hw=>by
    rcases MG p (k+d) with h|h
    ·exact h
    ·have:p=k+d:=by omega
     subst this;rw[mE] at hg;cases hg;rcases lY with h|h
     ·rw[ha] at h;cases h
     ·rw[hw] at h;cases h
   refine⟨by rw[cQ];exact i1,by rw[cQ];exact i2,⟨λp ie aw hg ha hw hd=>?_,λp eQ Iu Iv aw qS bU bV aX bc bW jA d1 d2=>?_⟩⟩
   ·obtain⟨sr,ss,su,vt⟩:=i3.one p ie (WX p ie aw hg ha hw) hg ha hw hd;exact⟨sr,ss,by rw[cQ];exact su,by rw[cQ];exact vt⟩
   ·exact i3.lt p eQ Iu Iv aw (WX eQ Iv qS bV bc jA) bU bV aX bc bW jA d1 d2
  ·have hlen:=i1.ctx.rel.len;refine⟨by rw[cQ];exact i1.D_ cw,by rw[cQ];exact i2.D_ hlen cw,⟨λp ie aw hg ha hw hd=>?_,λp eQ Iu Iv aw qS bU bV aX bc bW jA d1 d2=>?_⟩⟩
   ·rcases MG p (k+d) with h|h
    ·obtain⟨sr,ss,su,vt⟩:=i3.one p ie h hg ha hw hd;refine⟨sr,ss,by rw[cQ];exact gZ su,by rw[cQ,ae.gD hlen cw su];exact vt⟩
    ·have:p=k+d:=by omega
     subst this;exact⟨i1.ctx.rel.a9I,i2.next,by rw[cQ];exact lV _,rfl⟩
   ·rcases MG eQ (k+d) with h|h
    ·exact i3.lt p eQ Iu Iv aw h bU bV aX bc bW jA d1 d2
    ·have:eQ=k+d:=by omega
     subst this;exact(i3.one p Iu aw bU aX bW d1).2.2.1
end
structure Inv(P:Program)(env:Env)(B f:Nat)(ops:Array Oper)(pl:List a4)(bl:Nat->Nat)(da:Nat->Nat->Bool)(s:Nat->a1 AV)(S:Nat->ae)(v:Nat->AV)(ds:List (Nat ⊕ (AV×List AV)))(rc:Bool)(di:ae)(eM:World)(e9:Nat->Option Nat)
  (listed:Array Bool) (a:Act) (w:World) (dS:Nat) (m:Nat->Option Nat) (dk:a1 AV):Prop where
 vu:Rel P di eM e9 B
 size:listed.size=ops.size
 closed:∀p,p<ops.size->dH bl listed p->∀q,da q p=true->dH bl listed q
 WY:dS<=ops.size
 Bs:dS=ops.size\/∃(ez:a4),pl[dS]? =some ez/\ez.op.gh=true/\¬dH bl listed dS
 before:∀(e:Nat) (ez:a4),e<dS->pl[e]? =some ez->ez.op.gh=true->dH bl listed e
 after:∀(e:Nat) (ez:a4),dS<e->pl[e]? =some ez->ez.op.gh=true->¬dH bl listed e
 bj:xa pl v (s 0) (dH bl listed) dk
 st:ff P env ⟨dk,ds,rc⟩ a (S dS) w m B
 ext:Ext f di eM e9 (S dS) w m
 xb:qc pl s S di (dH bl listed) m dS
section
variable {P:Program}{env:Env}{B f:Nat}{r:Option Nat}{ops:Array Oper}{pl:List a4}{bl c_:Nat->Nat}{da:Nat->Nat->Bool}{call:mT}{s:Nat->a1 AV}{S:Nat->ae}{v:Nat->AV}
variable {ds:List (Nat ⊕ (AV×List AV))}{rc:Bool}{di:ae}{eM:World}{e9:Nat->Option Nat}{listed:Array Bool}{a:Act}{w:World}{dS:Nat}{m:Nat->Option Nat}{dk:a1 AV}
def OD(c:h8 P env B f r ops pl bl c_ da call s S v):∀(d k:Nat),k+d=ops.size->∃q,k<=q/\q<=ops.size/\(q=ops.size\/∃(ez:a4),pl[q]? =some ez/\ez.op.gh=true)/\∀(e:Nat) (ez:a4),k<=e->e<q->pl[e]? =some ez->ez.op.gh=false
 |0,k,h=>⟨k,bs _,U,.inl U,λe ez h1 h2=>by omega⟩
 |d+1,k,h=>by
  obtain⟨aY,mE⟩:=c.get (p:=k) U;cases he:aY.op.gh with
  |true=>exact⟨k,bs _,U,.inr ⟨aY,mE,he⟩,λe ez h1 h2=>by omega⟩
  |false=>
   obtain⟨q,h1,h2,h3,aO⟩:=OD c d (k+1) U;refine⟨q,U,h2,h3,λe ez bI cx dI=>?_⟩;rcases MG k e with fu|fu
   ·exact aO e ez U cx dI
   ·have:e=k:=by omega
    subst this;rw[mE] at dI;cases dI;exact he
def Bt(c:h8 P env B f r ops pl bl c_ da call s S v)(cz:listed.size=ops.size){p q:Nat}(aw:p<ops.size)(aV:q<ops.size):dH bl (listed.setIfInBounds (bl p) true) q↔dH bl listed q\/q=p:=by
 have h1:=c.spec.pi p aw;have h2:=c.spec.pi q aV;unfold dH;by_cases h:q=p
 ·subst h;simp[qL,cz,h1.1]
 ·have a7:bl p≠bl q:=λe=>h (by rw[<-h2.2,← e,h1.2]);rw[getD_set_ne false a7];simp[h]
def WZ(c:h8 P env B f r ops pl bl c_ da call s S v)(cz:listed.size=ops.size){p:Nat}(aw:p<ops.size)(h:listed.getD (bl p) true=false):¬dH bl listed p:=by
 have h1:=c.spec.pi p aw;unfold dH;have hlt:bl p<listed.size:=by omega
 simp[qL,hlt] at h ⊢;exact h
def b4l(c:h8 P env B f r ops pl bl c_ da call s S v)(inv:Inv P env B f ops pl bl da s S v ds rc di eM e9 listed a w dS m dk){i:Nat}(hi:i∈Region.ready .any ops listed):
  ∃p aY o lF,p<ops.size/\i=bl p/\pl[p]? =some aY/\ops[i]? =some o/\coper P ops o=some lF/\aY.op=lF.op/\aY.dst=lF.dst/\aY.guard=lF.guard/\¬dH bl listed p/\(∀q,da q p=true->dH bl listed q):=by
 obtain⟨h1,o,ho,h2⟩:=mem_ready.1 hi;have j5:i<ops.size:=(ME.1 ho).1;obtain⟨h3,aO⟩:=c.spec.D3 i j5;obtain⟨aY,mE⟩:=c.get h3;obtain⟨bX,lF,k8,ab,aL,a5,cy⟩:=c.spec.code _ aY mE;rw[aO,ho] at k8;cases k8;refine⟨c_ i,aY,o,lF,h3,aO.symm,mE,ho,ab,aL,a5,cy,WZ c inv.size h3 (by rw[aO];exact h1),λq aV=>?_⟩;obtain⟨bX,k8,e,he,hb,lY⟩:=c.spec.Wx (c_ i) h3 q aV;rw[aO,ho] at k8;cases k8;have OE:=h2 e he hb;have wR:=c.spec.back (c_ i) h3 o (by rw[aO];exact ho) e he hb;have xc:=c.spec.D3 e.on wR.1;have Ec:dH bl listed (c_ e.on):=by unfold dH;rw[xc.2];exact OE
 rcases lY with rfl|lY
 ·exact Ec
 ·exact inv.closed _ xc.1 Ec q lY
def Inv.calm(c:h8 P env B f r ops pl bl c_ da call s S v)(inv:Inv P env B f ops pl bl da s S v ds rc di eM e9 listed a w dS m dk){p:Nat}{aY:a4}(aw:pl[p]? =some aY)(c6:¬dH bl listed p)(jz:∀q,da q p=true->dH bl listed q)(he:p≠dS)(a7:aY.op.gh=false\/p<dS)
  {cH:Act} {av:World} {aT:Nat->Option Nat} (st:ff P env ⟨pa dk aY.dst (v p),ds,rc⟩ cH (S dS) av aT B) (ext:Ext f di eM e9 (S dS) av aT) (xb:qc pl s S di (dH bl (listed.setIfInBounds (bl p) true)) aT dS):
  Inv P env B f ops pl bl da s S v ds rc di eM e9 (listed.setIfInBounds (bl p) true) cH av dS aT (pa dk aY.dst (v p)):=by
 have j6:=c.lt aw;have ao:∀q,q<ops.size->(dH bl (listed.setIfInBounds (bl p) true) q↔dH bl listed q\/q=p):=λq aV=>Bt c inv.size j6 aV;have jP:∀q,dH bl listed q->dH bl (listed.setIfInBounds (bl p) true) q:=λq aV=>by
  unfold dH at aV ⊢;by_cases h:bl p=bl q
  ·rw[<-h];simp[qL,inv.size,(c.spec.pi p j6).1]
  ·rw[getD_set_ne false h];exact aV
 refine⟨inv.vu,by simpa using inv.size,λq aV hd x hx=>?_,inv.WY,?_,λe ez h1 h2 h3=>jP e (inv.before e ez h1 h2 h3),λe ez h1 h2 h3 aO=>?_,inv.bj.put c aw c6 (λq dL aV=>ao q (c.lt aV)),st,ext,xb⟩
 ·rcases(ao q aV).1 hd with h|rfl
  ·exact jP x (inv.closed q aV h x hx)
  ·exact jP x (jz x hx)
 ·rcases inv.Bs with h|⟨ez,h1,h2,h3⟩
  ·exact .inl h
  ·exact .inr ⟨ez,h1,h2,λh=>by
    rcases(ao dS (c.lt h1)).1 h with h|h
    ·exact h3 h
    ·exact he h.symm⟩
 ·rcases(ao e (c.lt h2)).1 aO with h|h
  ·exact inv.after e ez h1 h2 h3 h
  ·subst h;rcases a7 with a7|a7
   ·rw[aw] at h2;cases h2;rw[a7] at h3;cases h3
   ·omega
def Inv.effect(c:h8 P env B f r ops pl bl c_ da call s S v)(inv:Inv P env B f ops pl bl da s S v ds rc di eM e9 listed a w dS m dk){p:Nat}{aY:a4}(aw:pl[p]? =some aY)(c6:¬dH bl listed p)(jz:∀q,da q p=true->dH bl listed q)(he:aY.op.gh=true)(aV:p=dS)
  {cH:Act} {av:World} {aT:Nat->Option Nat} (st:ff P env ⟨pa dk aY.dst (v p),ds,rc⟩ cH (S (p+1)) av aT B) (ext:Ext f (S p) w m (S (p+1)) av aT):
  ∃Ed,Inv P env B f ops pl bl da s S v ds rc di eM e9 (listed.setIfInBounds (bl p) true) cH av Ed aT (pa dk aY.dst (v p)):=by
 have j6:=c.lt aw;have ao:∀q,q<ops.size->(dH bl (listed.setIfInBounds (bl p) true) q↔dH bl listed q\/q=p):=λq aV=>Bt c inv.size j6 aV;have jP:∀q,dH bl listed q->dH bl (listed.setIfInBounds (bl p) true) q:=λq aV=>by
  unfold dH at aV ⊢;by_cases h:bl p=bl q
  ·rw[<-h];simp[qL,inv.size,(c.spec.pi p j6).1]
  ·rw[getD_set_ne false h];exact aV
 subst aV;obtain⟨q,h1,h2,h3,aO⟩:=OD c (ops.size-(p+1)) (p+1) U;have b4m:qc pl s S di (dH bl (listed.setIfInBounds (bl p) true)) aT (p+1):=by
  have back:∀eQ ie,eQ<p+1->pl[eQ]? =some ie->ie.op.lx=true->¬dH bl (listed.setIfInBounds (bl p) true) eQ->eQ<p/\¬dH bl listed eQ:=λeQ ie hlt hg ha hd=>by
   refine⟨?_,λh=>hd (jP eQ h)⟩;rcases MG eQ p with h|h
   ·exact h
   ·have:eQ=p:=by omega
    subst this;rw[aw] at hg;cases hg;rw[b4k ha] at he;cases he
  refine⟨λeQ ie hlt hg ha hw hd=>?_,λlq nW aX bc hl pb bU bV W0 W1 bW jA d1 d2=>?_⟩
  ·obtain⟨eF,dE⟩:=back eQ ie hlt hg ha hd;obtain⟨sr,ss,su,vt⟩:=inv.xb.one eQ ie eF hg ha hw dE;refine⟨?_,ss,yR su ext.next,by rw[ext.un _ su sr];exact vt⟩;cases hm:aT (S eQ).next with
   |none=>rfl
   |some b=>
    rcases ext.new _ _ hm with h|⟨h,_⟩
    ·rw[sr] at h;cases h
    ·omega
  ·have dE:=back nW bc pb bV W1 d2;have eF:=back lq aX U bU W0 d1;exact inv.xb.lt lq nW aX bc hl dE.1 bU bV W0 W1 bW jA eF.2 dE.2
 obtain⟨Ee,Ef,Eg⟩:=advance c (q-(p+1)) (p+1) U (λe ez bI cx dI=>aO e ez bI U dI) st (inv.ext.trans inv.vu ext) b4m;have aV:p+1+(q-(p+1))=q:=by omega
 rw[aV] at Ee Ef Eg;refine⟨q,inv.vu,by simpa using inv.size,λx hx hd y hy=>?_,h2,?_,λe ez bI cx dI=>?_,λe ez bI cx dI fu=>?_,inv.bj.put c aw c6 (λx bS hx=>ao x (c.lt hx)),Ee,Ef,Eg⟩
 ·rcases(ao x hx).1 hd with h|rfl
  ·exact jP y (inv.closed x hx h y hy)
  ·exact jP y (jz y hy)
 ·rcases h3 with h|⟨ez,bI,cx⟩
  ·exact .inl h
  ·refine .inr ⟨ez,bI,cx,λh=>?_⟩;rcases(ao q (c.lt bI)).1 h with h|h
   ·exact inv.after q ez U bI cx h
   ·omega
 ·rcases gR e p with fu|fu|fu
  ·exact jP e (inv.before e ez fu cx dI)
  ·exact(ao e (c.lt cx)).2 (.inr fu)
  ·have:=aO e ez U bI cx;rw[this] at dI;cases dI
 ·rcases(ao e (c.lt cx)).1 fu with h|h
  ·exact inv.after e ez U cx dI h
  ·omega
end
def W2{f:Nat}{ar:aJ->Option AV}{J b8:ae}{aa:Option Nat}{a x:aJ}{v:AV}(h:opx f ar J (.store aa a x)=some (.val v b8)):
  ∃id off c hU,ar a=some (.p (some (id,off)))/\J.get id=some (.cells c)/\v=ei/\b8=J.set id (.cells hU)/\∀cT:ae,cT.get id=some (.cells c)->opx f ar cT (.store aa a x)=some (.val ei (cT.set id (.cells hU))):=by
 simp only[opx] at h;split at h<;>try (cases h;done)
 rename_i id off u ha hx;split at h<;>try (cases h;done)
 rename_i ep;split at h<;>try (cases h;done)
 rename_i h7;split at h<;>try (cases h;done)
 rename_i c hg;split at h<;>cases h;rename_i hU lD;refine⟨id,off,c,hU,ha,hg,rfl,rfl,λcT h2=>?_⟩;simp only[opx,ha,hx,h2,lD];rw[if_neg ep,if_pos h7]
section
variable {P:Program}{env:Env}{B f:Nat}{r:Option Nat}{ops:Array Oper}{pl:List a4}{bl c_:Nat->Nat}{da:Nat->Nat->Bool}{call:mT}{s:Nat->a1 AV}{S:Nat->ae}{v:Nat->AV}
def b4n(c:h8 P env B f r ops pl bl c_ da call s S v){x y:Nat}(l5:D2 pl da x y){bS eY:a4}(hx:pl[x]? =some bS)(hy:pl[y]? =some eY):
  bS.op.gh=true/\eY.op.gh=true/\∃T m3,opx f (evalA env (s y)) (S x) eY.op=some (.val (v y) T)/\opx f (evalA env (s x)) T bS.op=some (.val (v x) m3)/\wantedA bS.guard (s x)=true/\wantedA eY.guard (s y)=true∧
   (∀id,m3.get id=(S ops.size).get id)/\m3.next=(S ops.size).next:=by
 obtain⟨W3,b4o,s1,aX,gf,s2,bc,qa,h1,h2,h3,aO,bI,cx,dI,fu,_⟩:=l5.ops;rw[hx] at h1;cases h1;rw[hy] at h2;cases h2;have iK:=l5.Io;have hn:y+1=ops.size:=by have:=l5.last;have:=c.spec.len;omega
 have stx:=c.oo.step x bS hx;have b4p:=c.oo.step y eY hy;have rb:wantedA bS.guard (s x)=true:=by rw[dI];rfl
 have qF:wantedA eY.guard (s y)=true:=by rw[fu];rfl
 obtain⟨i,Bo,j,Bp,aL,a5,hG⟩:=c.l5 x y l5 bS eY s1 aX gf s2 bc qa hx hy h3 aO;have ic:opx f (evalA env (s x)) (S x) bS.op=some (.val (v x) (S (x+1))):=by
  rcases stx with⟨h,_⟩|⟨_,h⟩|⟨_,ct,args,h,_⟩
  ·rw[rb] at h;cases h
  ·exact h
  ·obtain⟨_,_,dP,_,_⟩:=wY h;rw[h3] at dP;cases dP
 have W4:opx f (evalA env (s y)) (S y) eY.op=some (.val (v y) (S (y+1))):=by
  rcases b4p with⟨h,_⟩|⟨_,h⟩|⟨_,ct,args,h,_⟩
  ·rw[qF] at h;cases h
  ·exact h
  ·obtain⟨_,_,dP,_,_⟩:=wY h;rw[aO] at dP;cases dP
 rw[h3] at ic;rw[aO] at W4;obtain⟨c8c,c8d,hU,b4q,bU,bV,cp,cX,dm⟩:=W2 ic;obtain⟨c8e,c8f,m4,W5,bx,bb,k3,b1,c9⟩:=W2 W4;rw[aL] at bU;cases bU;rw[a5] at bx;cases bx;have hj:=ae.bt bV;rw[iK] at cX;have ax:(S x).get j=some (.cells m4):=by
  rw[cX,ae.jw trivial _ hj,if_neg (qI hG)] at bb;exact bb
 have Iw:=ae.bt ax;have j8:=c9 (S x) ax;have hi:((S x).set j (.cells W5)).get i=some (.cells hU):=by
  rw[ae.jw trivial _ Iw,if_neg hG];exact bV
 have b4r:=dm _ hi;refine⟨by rw[h3];rfl,by rw[aO];rfl,_,_,by rw[aO,k3];exact j8,by rw[h3,cp];exact b4r,rb,qF,λid=>?_,?_⟩
 ·rw[<-hn,b1,cX];have b4s:i<((S x).set j (.cells W5)).next:=hj;have b4t:j<((S x).set i (.cells b4q)).next:=Iw;rw[ae.jw trivial _ b4s,ae.jw trivial _ Iw,ae.jw trivial _ b4t,ae.jw trivial _ hj];by_cases h1:id=i
  ·by_cases h2:id=j
   ·exact absurd (h1.symm.trans h2) hG
   ·rw[if_pos h1,if_neg h2,if_pos h1]
  ·rw[if_neg h1];by_cases h2:id=j
   ·rw[if_pos h2,if_pos h2]
   ·rw[if_neg h2,if_neg h2,if_neg h1]
 ·rw[<-hn,b1,cX];rfl
def OF{J ai:ae}(h:∀id,J.get id=ai.get id)(id:Nat):live J id↔live ai id:=by unfold live;rw[h id]
def b4u{J ai:ae}{m:Nat->Option Nat}(h:∀id,J.get id=ai.get id):bq J m=bq ai m:=by
 funext b
 simp only[bq,live,h]
def ff.congr{ad:Fr}{a:Act}{J ai:ae}{w:World}{m:Nat->Option Nat}(st:ff P env ad a J w m B)(h:∀id,J.get id=ai.get id)(hn:J.next=ai.next):ff P env ad a ai w m B:=by
 have ho:=b4u (m:=m) h;have aq:=st.ctx.rel;have sa:Rel P ai w m B:=by
  refine⟨trivial,λid b hb=>by rw[<-hn];exact aq.gi id b hb,λid b o h1 h2 h3=>?_,λi gE b h1 h2 h3 aO=>aq.inj i gE b h1 h2 ((OF h i).2 h3) ((OF h gE).2 aO),aq.base,aq.mX⟩;rw[<-ho];exact aq.obj id b o h1 (by rw[h id];exact h2) h3
 exact st.mono sa (λ_ _ h=>h) (bs _) (λ_ _ h=>h) (λb _ hb=>⟨rfl,by rw[<-ho];exact hb⟩)
def Ext.congr{f:Nat}{di J ai:ae}{eM w:World}{e9 m:Nat->Option Nat}(e:Ext f di eM e9 J w m)(h:∀id,J.get id=ai.get id)(hn:J.next=ai.next):Ext f di eM e9 ai w m:=
 ⟨e.mono,e.new,by rw[<-hn];exact e.next,e.size,e.bK,e.aP,λid h1 h2=>by rw[<-h id];exact e.low id h1 h2,λid h1 h2=>e.dead id h1 ((OF h id).2 h2),e.os,e.tape,e.out,λid h1 h2=>by rw[<-h id];exact e.un id h1 h2⟩
end
section
variable {P:Program}{env:Env}{B f:Nat}{r:Option Nat}{ops:Array Oper}{pl:List a4}{bl c_:Nat->Nat}{da:Nat->Nat->Bool}{call:mT}{s:Nat->a1 AV}{S:Nat->ae}{v:Nat->AV}
variable {ds:List (Nat ⊕ (AV×List AV))}{rc:Bool}{di:ae}{eM:World}{e9:Nat->Option Nat}{listed:Array Bool}{a:Act}{w:World}{dS:Nat}{m:Nat->Option Nat}{dk:a1 AV}
def W6(c:h8 P env B f r ops pl bl c_ da call s S v):∀(d k:Nat),k+d<=ops.size->(∀(e:Nat) (ez:a4),pl[e]? =some ez->k<=e->e<k+d->ez.op.gh=false/\ez.op.lx=false)->S (k+d)=S k
 |0,_,_,_=>rfl
 |d+1,k,ay,h=>by
  obtain⟨aY,mE⟩:=c.get (p:=k+d) U;obtain⟨h1,h2⟩:=h (k+d) aY mE U U;rcases c.calm mE h1 with⟨h3,_⟩|⟨cw,h3,_⟩
  ·show S (k+d+1)=_;rw[h3];exact W6 c d k U (λe ez aO bI cx=>h e ez aO bI U)
  ·rw[h2] at h3;cases h3
def qc.mono{D mD:Nat->Prop}{k:Nat}(h:qc pl s S di D m k)(c6:∀(p:Nat) (aY:a4),pl[p]? =some aY->¬mD p->¬D p):qc pl s S di mD m k:=
 ⟨λp aY h1 h2 h3 aO bI=>h.one p aY h1 h2 h3 aO (c6 p aY h2 bI),λp eQ aY ie h1 h2 h3 aO bI cx dI fu nB xd=>h.lt p eQ aY ie h1 h2 h3 aO bI cx dI fu (c6 p aY h3 nB) (c6 eQ ie aO xd)⟩
def Ix(J ai:ae):Prop:=(∀id,J.get id=ai.get id)/\J.next=ai.next
structure Inv2(P:Program)(env:Env)(B f:Nat)(ops:Array Oper)(pl:List a4)(bl:Nat->Nat)(da:Nat->Nat->Bool)(s:Nat->a1 AV)(S:Nat->ae)(v:Nat->AV)(ds:List (Nat ⊕ (AV×List AV)))(rc:Bool)(di:ae)(eM:World)(e9:Nat->Option Nat)
  (listed:Array Bool) (a:Act) (w:World) (x:Nat) (T:ae) (m:Nat->Option Nat) (dk:a1 AV):Prop where
 vu:Rel P di eM e9 B
 size:listed.size=ops.size
 closed:∀p,p<ops.size->dH bl listed p->∀q,da q p=true->dH bl listed q
 pure:∀(p:Nat) (aY:a4),pl[p]? =some aY->¬dH bl listed p->p=x\/(aY.op.gh=false/\aY.op.lx=false/\aY.op.looks=false)
 fin:dH bl listed x->Ix T (S ops.size)
 rest:¬dH bl listed x->∃bS m3,pl[x]? =some bS/\bS.op.gh=true/\(∀c as,bS.op≠ .call c as)/\wantedA bS.guard (s x)=true/\opx f (evalA env (s x)) T bS.op=some (.val (v x) m3)/\Ix m3 (S ops.size)
 bj:xa pl v (s 0) (dH bl listed) dk
 st:ff P env ⟨dk,ds,rc⟩ a T w m B
 ext:Ext f di eM e9 T w m
def b4v(c:h8 P env B f r ops pl bl c_ da call s S v)(cz:listed.size=ops.size)(gj:∀p,p<ops.size->dH bl listed p->∀q,da q p=true->dH bl listed q){i:Nat}(hi:i∈Region.ready .any ops listed):
  ∃p aY o lF,p<ops.size/\i=bl p/\pl[p]? =some aY/\ops[i]? =some o/\coper P ops o=some lF/\aY.op=lF.op/\aY.dst=lF.dst/\aY.guard=lF.guard/\¬dH bl listed p/\(∀q,da q p=true->dH bl listed q):=by
 obtain⟨h1,o,ho,h2⟩:=mem_ready.1 hi;have j5:i<ops.size:=(ME.1 ho).1;obtain⟨h3,aO⟩:=c.spec.D3 i j5;obtain⟨aY,mE⟩:=c.get h3;obtain⟨bX,lF,k8,ab,aL,a5,cy⟩:=c.spec.code _ aY mE;rw[aO,ho] at k8;cases k8;refine⟨c_ i,aY,o,lF,h3,aO.symm,mE,ho,ab,aL,a5,cy,WZ c cz h3 (by rw[aO];exact h1),λq aV=>?_⟩;obtain⟨bX,k8,e,he,hb,lY⟩:=c.spec.Wx (c_ i) h3 q aV;rw[aO,ho] at k8;cases k8;have OE:=h2 e he hb;have wR:=c.spec.back (c_ i) h3 o (by rw[aO];exact ho) e he hb;have xc:=c.spec.D3 e.on wR.1;have Ec:dH bl listed (c_ e.on):=by unfold dH;rw[xc.2];exact OE
 rcases lY with rfl|lY
 ·exact Ec
 ·exact gj _ xc.1 Ec q lY
def W7(c:h8 P env B f r ops pl bl c_ da call s S v)(cz:listed.size=ops.size){p:Nat}(j6:p<ops.size):∀q,dH bl listed q->dH bl (listed.setIfInBounds (bl p) true) q:=λq aV=>by
 unfold dH at aV ⊢;by_cases h:bl p=bl q
 ·rw[<-h];simp[qL,cz,(c.spec.pi p j6).1]
 ·rw[getD_set_ne false h];exact aV
def Inv2.next(c:h8 P env B f r ops pl bl c_ da call s S v){x:Nat}{T pc:ae}(inv:Inv2 P env B f ops pl bl da s S v ds rc di eM e9 listed a w x T m dk){p:Nat}{aY:a4}(aw:pl[p]? =some aY)(c6:¬dH bl listed p)(jz:∀q,da q p=true->dH bl listed q)
  (j8:p=x/\Ix pc (S ops.size)\/p≠x/\pc=T) {cH:Act} {av:World} {aT:Nat->Option Nat} (hx:x<ops.size) (st:ff P env ⟨pa dk aY.dst (v p),ds,rc⟩ cH pc av aT B) (ext:Ext f di eM e9 pc av aT):
  Inv2 P env B f ops pl bl da s S v ds rc di eM e9 (listed.setIfInBounds (bl p) true) cH av x pc aT (pa dk aY.dst (v p)):=by
 have j6:=c.lt aw;have ao:∀q,q<ops.size->(dH bl (listed.setIfInBounds (bl p) true) q↔dH bl listed q\/q=p):=λq aV=>Bt c inv.size j6 aV;have jP:=W7 c inv.size j6;refine⟨inv.vu,by simpa using inv.size,λq aV hd y hy=>?_,λq dL aV hd=>inv.pure q dL aV (λh=>hd (jP q h)),λhd=>?_,λhd=>?_,inv.bj.put c aw c6 (λq dL aV=>ao q (c.lt aV)),st,ext⟩
 ·rcases(ao q aV).1 hd with h|rfl
  ·exact jP y (inv.closed q aV h y hy)
  ·exact jP y (jz y hy)
 ·rcases j8 with⟨_,h⟩|⟨a7,rfl⟩
  ·exact h
  ·exact inv.fin (((ao x hx).1 hd).resolve_right (qI a7))
 ·rcases j8 with⟨rfl,_⟩|⟨a7,rfl⟩
  ·exact absurd ((ao p j6).2 (.inr I)) hd
  ·exact inv.rest (λh=>hd (jP x h))
def b4w(c:h8 P env B f r ops pl bl c_ da call s S v){k:Nat}{Q:Exit->Act->World->Prop}{x:Nat}{T:ae}(W8:x<ops.size)(inv:Inv2 P env B f ops pl bl da s S v ds rc di eM e9 listed a w x T m dk){i:Nat}(hi:i∈Region.ready .any ops listed)
  {K:Act->World->Prop} (c0:∀cH av m3 aT sv,Inv2 P env B f ops pl bl da s S v ds rc di eM e9 (listed.setIfInBounds i true) cH av x m3 aT sv->K cH av):wpOpIn (fB r) k P ops Q i K a w:=by
 obtain⟨p,aY,o,lF,j6,rfl,aw,ho,ab,aL,a5,cy,c6,jz⟩:=b4v c inv.size inv.closed hi;have Eh:=WR c inv.bj aw c6 jz inv.closed;have q5:∀J,opx f (evalA env dk) J aY.op=opx f (evalA env (s p)) J aY.op:=λJ=>WM (WV Eh);have hw:=WW Eh;obtain⟨dP,jy⟩:=H3 ab;rw[<-aL] at dP;rw[<-a5] at jy;unfold wpOpIn;simp only[ho];rw[H0 ab inv.st.ctx.bj,← cy];show if wantedA aY.guard dk=true then _ else _
 rw[hw];have sw:∀res,opx f (evalA env dk) T aY.op=some res->cop P o=some aY.op:=λres df=>DO dP.symm (λhb=>by rw[hb] at df;simp[opx] at df);have y0:∀v b8,opx f (evalA env dk) T aY.op=some (.val v b8)->cop P o=some aY.op->∀c,o.op≠ .defer c:=λv b8 hx m5 c hd=>by
  obtain⟨ac,as,h⟩:=H2 hd m5;rw[h] at hx;simp only[opx] at hx;split at hx<;>cases hx
 have val:∀pc,wantedA aY.guard (s p)=true->opx f (evalA env dk) T aY.op=some (.val (v p) pc)->(p=x/\Ix pc (S ops.size)\/p≠x/\pc=T)→
   if wantedA aY.guard (s p)=true then o.wpIn (fB r) k P a w K Q else(∀f,o.about P w a.eval=some f->(fB r).fn f)/\K (a.put o.dst undef) w:=λpc hwt eo j8=>by
  rw[hwt];simp only[if_true];obtain⟨u,bW,db,cf,hR,od,dO⟩:=A6 inv.st.ctx (sw _ eo) eo;have ao:(o.semAt (fB r).round a.eval)=execOp a.eval o:=vi _ _ _ (y0 _ _ eo (sw _ eo));have hD:=(inv.st.ext dO od).put aY.dst hR;rw[put_eq] at hD;have h9:=inv.next c aw c6 jz j8 W8 hD (inv.ext.trans inv.vu dO);rw[jy] at h9;refine⟨λf _=>trivial,?_⟩;rw[ao];rcases cf with cf|⟨cf,rfl⟩
  ·rw[cf];exact c0 _ _ _ _ _ h9
  ·rw[cf];exact c0 _ _ _ _ _ h9
 rcases c.oo.step p aY aw with⟨zg,au,cQ⟩|⟨hwt,hx⟩|⟨hwt,ct,args,hx,gj⟩
 ·-- not wanted
  have Ei:p≠x:=λhe=>by
   subst he;obtain⟨bS,m3,h1,_,_,h2,_⟩:=inv.rest c6;rw[aw] at h1;cases h1;rw[zg] at h2;cases h2
  rw[zg];simp only[T8,if_false];refine⟨λ_ _=>trivial,?_⟩;have hD:=inv.st.put aY.dst (v:=ei) (u:=undef) ag.undef;rw[put_eq,← au] at hD;have h9:=inv.next c aw c6 jz (.inr ⟨Ei,rfl⟩) W8 hD inv.ext;rw[jy] at h9;exact c0 _ _ _ _ _ h9
 ·by_cases Ei:p=x
  ·subst Ei;obtain⟨bS,m3,h1,_,_,h2,h3,aO⟩:=inv.rest c6;rw[aw] at h1;cases h1;exact val m3 hwt (by rw[q5];exact h3) (.inl ⟨rfl,aO⟩)
  ·obtain⟨bU,bV,cp⟩:=(inv.pure p aY aw c6).resolve_left Ei;obtain⟨bR,h1,h2⟩:=Ir bU bV hx;simp only[bZ.val.injEq] at h1;obtain⟨rfl,_⟩:=h1;exact val T hwt (by rw[q5];exact h2 cp T) (.inr ⟨Ei,rfl⟩)
 ·obtain⟨k2,as,Ej,_,_⟩:=wY hx;exfalso;rcases inv.pure p aY aw c6 with rfl|⟨bU,_,_⟩
  ·obtain⟨bS,m3,h1,_,h2,_⟩:=inv.rest c6;rw[aw] at h1;cases h1;exact h2 _ _ Ej
  ·rw[Ej] at bU;cases bU
def b4x(c:h8 P env B f r ops pl bl c_ da call s S v){k:Nat}{Q:Exit->Act->World->Prop}(inv:Inv P env B f ops pl bl da s S v ds rc di eM e9 listed a w dS m dk){i:Nat}(hi:i∈Region.ready .any ops listed)
  {K:Act->World->Prop} (c0:∀cH av Ed aT sv,Inv P env B f ops pl bl da s S v ds rc di eM e9 (listed.setIfInBounds i true) cH av Ed aT sv->K cH av)
  (W9:∀cH av x T aT sv,x<ops.size->Inv2 P env B f ops pl bl da s S v ds rc di eM e9 (listed.setIfInBounds i true) cH av x T aT sv->K cH av):wpOpIn (fB r) k P ops Q i K a w:=by
 obtain⟨p,aY,o,lF,j6,rfl,aw,ho,ab,aL,a5,cy,c6,jz⟩:=b4l c inv hi;have Eh:=WR c inv.bj aw c6 jz inv.closed;have q5:∀J,opx f (evalA env dk) J aY.op=opx f (evalA env (s p)) J aY.op:=λJ=>WM (WV Eh);have hw:=WW Eh;obtain⟨dP,jy⟩:=H3 ab;rw[<-aL] at dP;rw[<-a5] at jy;have iK:aY.op.gh=false->p<dS:=λhe=>by
  rcases inv.Bs with h|⟨ez,h1,h2,h3⟩
  ·omega
  ·rcases gR p dS with h|h|h
   ·exact h
   ·subst h;rw[aw] at h1;cases h1;rw[he] at h2;cases h2
   ·rcases c.spec.w8 dS p ez h j6 h1 h2 with aO|aO
    ·exact absurd (jz dS aO) h3
    ·obtain⟨_,eY,_,_,_,_,_,_,_,bV,_,cX,_⟩:=aO.ops;rw[aw] at bV;cases bV;rw[cX] at he;cases he
 have mW:aY.op.gh=true->p=dS\/D2 pl da dS p:=λhe=>by
  rcases gR p dS with h|h|h
  ·exact absurd (inv.before p aY h aw he) c6
  ·exact .inl h
  ·rcases inv.Bs with h1|⟨ez,h1,h2,h3⟩
   ·omega
   ·rcases c.spec.w8 dS p ez h j6 h1 h2 with aO|aO
    ·exact absurd (jz dS aO) h3
    ·exact .inr aO
 have W_:∀q dL,pl[q]? =some dL->¬dH bl (listed.setIfInBounds (bl p) true) q->¬dH bl listed q:=λq dL aV h h2=>h ((Bt c inv.size j6 (c.lt aV)).2 (.inl h2));have Ek:qc pl s S di (dH bl (listed.setIfInBounds (bl p) true)) m dS:=inv.xb.mono W_;unfold wpOpIn;simp only[ho];rw[H0 ab inv.st.ctx.bj,← cy];show if wantedA aY.guard dk=true then _ else _
 rw[hw];have sw:∀res,opx f (evalA env dk) (S dS) aY.op=some res->cop P o=some aY.op:=λres df=>DO dP.symm (λhb=>by rw[hb] at df;simp[opx] at df);by_cases Iy:aY.op.gh=true/\p≠dS
 ·-- u1 second of two c8g,first
  have l5:=(mW Iy.1).resolve_left Iy.2;rcases inv.Bs with h0|⟨bS,tR,b4y,b4z⟩
  ·have:=l5.Io;omega
  have OG:=c.lt tR;obtain⟨bU,bV,T,m3,cp,cX,dm,gU,hH,gM⟩:=b4n c l5 tR aw;have eo:opx f (evalA env dk) (S dS) aY.op=some (.val (v p) T):=by rw[q5];exact cp
  rw[gU];simp only[if_true];obtain⟨u,bW,db,cf,hR,od,dO⟩:=A6 inv.st.ctx (sw _ eo) eo;have hnd:∀c,o.op≠ .defer c:=λc hd=>by
   obtain⟨ac,as,h⟩:=H2 hd (sw _ eo);rw[h] at eo;simp only[opx] at eo;split at eo<;>cases eo
  have ao:(o.semAt (fB r).round a.eval)=execOp a.eval o:=vi _ _ _ hnd;have hD:=(inv.st.ext dO od).put aY.dst hR;rw[put_eq] at hD;have Iz:∀q,q<ops.size->(dH bl (listed.setIfInBounds (bl p) true) q↔dH bl listed q\/q=p):=λq aV=>Bt c inv.size j6 aV;have jP:=W7 c inv.size j6;have IA:∀k2 as,bS.op≠ .call k2 as:=λk2 as hh=>by
   obtain⟨W3,_,_,_,_,_,_,_,bx,_,k3,_⟩:=l5.ops;rw[tR] at bx;cases bx;rw[k3] at hh;cases hh
  have mF:¬dH bl (listed.setIfInBounds (bl p) true) dS:=λh=>by
   rcases(Iz dS OG).1 h with h|h
   ·exact b4z h
   ·exact Iy.2 h.symm
  have h9:Inv2 P env B f ops pl bl da s S v ds rc di eM e9 (listed.setIfInBounds (bl p) true) (a.put aY.dst u) bW dS T db (pa dk aY.dst (v p)):=by
   refine⟨inv.vu,by simpa using inv.size,λq aV hd y hy=>?_,λq dL aV hd=>?_,λhd=>absurd hd mF,λ_=>⟨bS,m3,tR,b4y,IA,dm,cX,hH,gM⟩,inv.bj.put c aw c6 (λq dL aV=>Iz q (c.lt aV)),hD,inv.ext.trans inv.vu dO⟩
   ·rcases(Iz q aV).1 hd with h|rfl
    ·exact jP y (inv.closed q aV h y hy)
    ·exact jP y (jz y hy)
   ·have b4A:=c.lt aV;have hl:=l5.last;have pb:=c.spec.len;have c8h:=l5.Io;rcases gR q dS with h|h|h
    ·rcases l5.rest q dL h aV with bI|bI
     ·exact absurd (jP q (jz q bI)) hd
     ·exact .inr bI
    ·exact .inl h
    ·have:q=p:=by omega
     exact absurd ((Iz q b4A).2 (.inr this)) hd
  rw[jy] at h9;refine⟨λf _=>trivial,?_⟩;rw[ao];rcases cf with cf|⟨cf,rfl⟩
  ·rw[cf];exact W9 _ _ _ _ _ _ OG h9
  ·rw[cf];exact W9 _ _ _ _ _ _ OG h9
 replace mW:aY.op.gh=true->p=dS:=λhe=>wT λh=>Iy ⟨he,h⟩;rcases c.oo.step p aY aw with⟨zg,au,cQ⟩|⟨hwt,hx⟩|⟨hwt,ct,args,hx,gj⟩
 ·-- not wanted
  rw[zg];simp only[T8,if_false];refine⟨λ_ _=>trivial,?_⟩;have hD:=inv.st.put aY.dst (v:=ei) (u:=undef) ag.undef;rw[put_eq,← au,jy] at hD;rw[<-jy] at hD;have hD:ff P env ⟨pa dk aY.dst (v p),ds,rc⟩ (a.put o.dst undef) (S dS) w m B:=by rw[<-jy];exact hD
  by_cases OH:p=dS
  ·subst OH;cases he:aY.op.gh with
   |true=>
    obtain⟨nD,h9⟩:=inv.effect c aw c6 jz he I (cH:=a.put o.dst undef) (av:=w) (aT:=m) (by rw[cQ];exact hD) (by rw[cQ];exact Ext.refl _ _ _ _);exact c0 _ _ _ _ _ h9
   |false=>have:=iK he;omega
  ·exact c0 _ _ _ _ _ (inv.calm c aw c6 jz OH (by cases he:aY.op.gh with|false=>exact .inl rfl|true=>exact absurd (mW he) OH) hD inv.ext Ek)
 ·-- a value
  rw[hwt];simp only[if_true];have y0:∀v J b8,opx f (evalA env dk) J aY.op=some (.val v b8)->cop P o=some aY.op->∀c,o.op≠ .defer c:=λv J b8 hx m5 c hd=>by
   obtain⟨ac,as,h⟩:=H2 hd m5;rw[h] at hx;simp only[opx] at hx;split at hx<;>cases hx
  cases he:aY.op.gh with
  |true=>
   obtain rfl:=mW he;have eo:opx f (evalA env dk) (S p) aY.op=some (.val (v p) (S (p+1))):=by rw[q5];exact hx
   obtain⟨u,bW,db,cf,hR,od,dO⟩:=A6 inv.st.ctx (sw _ eo) eo;have ao:(o.semAt (fB r).round a.eval)=execOp a.eval o:=vi _ _ _ (y0 _ _ _ eo (sw _ eo));have hD:=(inv.st.ext dO od).put aY.dst hR;rw[put_eq] at hD;obtain⟨nD,h9⟩:=inv.effect c aw c6 jz he I hD dO;rw[jy] at h9;refine⟨λf _=>trivial,?_⟩;rw[ao];rcases cf with cf|⟨cf,rfl⟩
   ·rw[cf];exact c0 _ _ _ _ _ h9
   ·rw[cf];exact c0 _ _ _ _ _ h9
  |false=>
   have hlt:=iK he;cases ha:aY.op.lx with
   |false=>
    have eo:opx f (evalA env dk) (S dS) aY.op=some (.val (v p) (S dS)):=by
     rw[q5];obtain⟨bR,h1,h2⟩:=Ir he ha hx;simp only[bZ.val.injEq] at h1;obtain⟨sl,vv⟩:=h1;subst sl;cases hl:aY.op.looks with
     |false=>exact h2 hl _
     |true=>
      have b4B:dS=ops.size\/∃(dL:a4),pl[dS]? =some dL/\dL.op.gh=true:=by
       rcases inv.Bs with h|⟨ez,h1,h2,_⟩
       ·exact .inl h
       ·exact .inr ⟨ez,h1,h2⟩
      rcases c.spec.kj p aY aw hl dS hlt b4B with h|⟨e,ez,bU,bV,cp,cX,dm⟩|h
      ·obtain⟨cT,h3⟩:=c.steady p aY aw hwt he dS h;obtain⟨v2,aO,_⟩:=Ir he ha h3;cases aO;exact h3
      ·exact absurd (inv.closed e (c.lt bU) (inv.before e ez cX bU bV) p dm) c6
      ·have lD:=W6 c (dS-(p+1)) (p+1) (by have:=inv.WY;omega) (λe ez bU bV cp=>h e ez bU U U);have iB:p+1+(dS-(p+1))=dS:=by omega
       rw[iB] at lD;rw[lD,vv];rw[vv] at hx;exact hx
    obtain⟨u,bW,db,cf,hR,od,dO⟩:=A6 inv.st.ctx (sw _ eo) eo;have ao:(o.semAt (fB r).round a.eval)=execOp a.eval o:=vi _ _ _ (y0 _ _ _ eo (sw _ eo));have hD:=(inv.st.ext dO od).put aY.dst hR;rw[put_eq] at hD;have OI:qc pl s S di (dH bl (listed.setIfInBounds (bl p) true)) db dS:=by
     refine⟨λeQ ie h1 h2 h3 aO bI=>?_,Ek.lt⟩;obtain⟨sr,ss,su,vt⟩:=Ek.one eQ ie h1 h2 h3 aO bI;refine⟨?_,ss,su,vt⟩;cases hm:db (S eQ).next with
     |none=>rfl
     |some b=>
      rcases dO.new _ _ hm with h|⟨h,_⟩
      ·rw[sr] at h;cases h
      ·omega
    have h9:=inv.calm c aw c6 jz U (.inl he) hD (inv.ext.trans inv.vu dO) OI;rw[jy] at h9;refine⟨λf _=>trivial,?_⟩;rw[ao];rcases cf with cf|⟨cf,rfl⟩
    ·rw[cf];exact c0 _ _ _ _ _ h9
    ·rw[cf];exact c0 _ _ _ _ _ h9
   |true=>
    obtain⟨cw,ra,h1,c8i,h2⟩:=WN ha hx;simp only[bZ.val.injEq] at h1;obtain⟨sl,vv⟩:=h1;have OJ:∀cT,opx f (evalA env dk) cT aY.op=some (.val (ra cT.next) (cT.push cw)):=λcT=>by rw[q5];exact h2 cT
    have m5:=sw _ (OJ (S dS));obtain⟨u,av,bX,cf,hh,mo,pQ,lX,lY,hval⟩:=b4f inv.st.ctx m5 ha OJ;obtain⟨sr,ss,su,vt⟩:=inv.xb.one p aY hlt aw ha hwt c6;have hg:(S dS).get (S p).next=some cw:=by rw[vt,vv];exact ae.jL cw
    obtain⟨od,w3,cz,hz,hold,D9,ly⟩:=inv.st.ctx.rel.Oy su sr hg hh lY;have ao:(o.semAt (fB r).round a.eval)=execOp a.eval o:=vi _ _ _ (y0 _ _ _ (OJ (S dS)) m5);have hR:ag av (bindM m (S p).next w.heap.size) (bq (S dS) (bindM m (S p).next w.heap.size)) B (v p) u:=by
     rw[sl];exact hval _ _ _ _ _ (hY _ _ _) ly
    have hD:=(inv.st.mono od w3 cz hz D9).put aY.dst hR;rw[put_eq] at hD;have OI:qc pl s S di (dH bl (listed.setIfInBounds (bl p) true)) (bindM m (S p).next w.heap.size) dS:=by
     refine⟨λeQ ie bU bV cp cX dm=>?_,Ek.lt⟩;obtain⟨i1,i2,i3,i4⟩:=Ek.one eQ ie bU bV cp cX dm;refine⟨?_,i2,i3,i4⟩;have Br:=W_ eQ ie bV dm;have a7:eQ≠p:=λe=>dm ((Bt c inv.size j6 (c.lt bV)).2 (.inr e));rw[jb m _ _ (λe=>?_)]
     ·exact i1
     ·rcases MG eQ p with h|h
      ·have:=inv.xb.lt eQ p ie aY h hlt bV aw cp ha cX hwt Br c6;omega
      ·have:=inv.xb.lt p eQ aY ie U bU aw bV ha cp hwt cX c6 Br;omega
    have h9:=inv.calm c aw c6 jz U (.inl he) hD (inv.ext.Oy ss sr hh mo pQ lX) OI;rw[jy] at h9;refine⟨λf _=>trivial,?_⟩;rw[ao,cf];exact c0 _ _ _ _ _ h9
 ·-- a call
  rw[hwt];simp only[if_true];obtain⟨k2,as,Ej,_,_⟩:=wY hx;have he:aY.op.gh=true:=by rw[Ej];rfl
  obtain rfl:=mW he;have eo:opx f (evalA env dk) (S p) aY.op=some (.call ct args):=by rw[q5];exact hx
  have m5:=sw _ eo;rw[Ej] at m5 eo;obtain⟨bD,iz,h1,kH,has⟩:=wY eo;cases h1;obtain⟨an,DQ,DR,p5⟩:=VX m5;obtain⟨x,hC,y1⟩:=N0 DR inv.st.ctx kH;have DS:=Dk inv.st.ctx.rel.yP inv.st.ctx.globs inv.st.ctx.bj p5 has;have df:=c.b4j _ _ _ _ gj (k-1) w m _ _ inv.st.ctx.rel inv.st.ctx.globs y1 DS;refine VW DQ hC (us:=an.args.map a.eval) I (λ_=>trivial) I (by
   have aL:(an.args.toList.map a.eval).toArray=an.args.map a.eval:=by apply T9;simp
   rw[aL] at df;exact df) (λaL bW aq=>?_)
  obtain⟨ret,b8,gn,db,h1,h2,h3⟩:=aq;obtain⟨rfl,rfl⟩:ret= .ok (v p)/\b8=S (p+1):=by
   have:=uT.1 gn;exact⟨congrArg Prod.fst this,congrArg Prod.snd this⟩
  cases aL with
  |returned u=>
   have hD:=(inv.st.ext h3 h2).put aY.dst h1;rw[put_eq] at hD;obtain⟨nD,h9⟩:=inv.effect c aw c6 jz he I hD h3;rw[jy] at h9;exact c0 _ _ _ _ _ h9
  |panicked oc=>exact h1.elim
  |outgrown=>exact h1.elim
def Xa(c:h8 P env B f r ops pl bl c_ da call s S v)(cz:listed.size=ops.size)(aq:Region.ready .any ops listed=[]):∀p,p<ops.size->dH bl listed p:=by
 intro p
 induction p using Nat.strongRecOn with
 |_ p aH=>
  intro aw;refine wT λc6=>?_;have D5:=c.spec.pi p aw;have:bl p∈Region.ready .any ops listed:=by
   refine mem_ready.2 ⟨?_,ops[bl p],b9 D5.1,λe he hb=>?_⟩
   ·unfold dH at c6;have hlt:bl p<listed.size:=by rw[cz];exact D5.1
    simp[qL,hlt] at c6 ⊢;exact c6
   ·have wR:=c.spec.back p aw _ (b9 D5.1) e he hb;have xc:=c.spec.D3 e.on wR.1;have:=aH (c_ e.on) wR.2 xc.1;unfold dH at this;rw[xc.2] at this;exact this
  rw[aq] at this;cases this
def Xb(c:h8 P env B f r ops pl bl c_ da call s S v)(hall:∀p,p<ops.size->dH bl listed p)(hc:xa pl v (s 0) (dH bl listed) dk):∀t,dk.get t=(s ops.size).get t:=by
 have ab:=OC c ops.size (bs _);intro t;by_cases hex:∃(q:Nat) (dL:a4),pl[q]? =some dL/\dL.dst=some t
 ·obtain⟨q,dL,h1,h2⟩:=hex;by_cases hlt:((s 0).get t).isSome=true
  ·rw[hc.m2 q dL t h1 (hall q (c.lt h1)) h2 hlt,ab.m2 q dL t h1 (c.lt h1) h2 hlt]
  ·have aL:=hc.gi t;have a5:=ab.gi t;cases hg:(s 0).get t with
   |some y=>rw[hg] at hlt;exact absurd I hlt
   |none=>
    rw[hg] at aL a5;cases tM:dk.get t with
    |some y=>rw[tM] at aL;cases aL
    |none=>
     cases AY:(s ops.size).get t with
     |some y=>rw[AY] at a5;cases a5
     |none=>rfl
 ·rw[hc.zd t (λq dL h1 _ h2=>hex ⟨q,dL,h1,h2⟩),ab.zd t (λq dL h1 _ h2=>hex ⟨q,dL,h1,h2⟩)]
def Xc(c:h8 P env B f r ops pl bl c_ da call s S v)(inv:Inv P env B f ops pl bl da s S v ds rc di eM e9 listed a w dS m dk)(aq:Region.ready .any ops listed=[]):
  ff P env ⟨s ops.size,ds,rc⟩ a (S ops.size) w m B/\Ext f di eM e9 (S ops.size) w m:=by
 have hall:=Xa c inv.size aq;have aV:dS=ops.size:=by
  rcases inv.Bs with h|⟨ez,h1,_,h3⟩
  ·exact h
  ·exact absurd (hall dS (c.lt h1)) h3
 subst aV;have pZ:=Xb c hall inv.bj;have hc:=inv.st.ctx.bj;refine⟨⟨⟨inv.st.ctx.rel,⟨λi x hi=>hc.1 i x (by rw[pZ i];exact hi),λi hi=>hc.2 i (by rw[pZ i];exact hi)⟩,inv.st.ctx.globs⟩,inv.st.defs⟩,inv.ext⟩
def Xd(c:h8 P env B f r ops pl bl c_ da call s S v){x:Nat}{T:ae}(hx:x<ops.size)(inv:Inv2 P env B f ops pl bl da s S v ds rc di eM e9 listed a w x T m dk)(aq:Region.ready .any ops listed=[]):
  ff P env ⟨s ops.size,ds,rc⟩ a (S ops.size) w m B/\Ext f di eM e9 (S ops.size) w m:=by
 have hall:=Xa c inv.size aq;obtain⟨aL,a5⟩:=inv.fin (hall x hx);have pZ:=Xb c hall inv.bj;have hc:=inv.st.ctx.bj;have st:ff P env ⟨s ops.size,ds,rc⟩ a T w m B:=⟨⟨inv.st.ctx.rel,⟨λi x hi=>hc.1 i x (by rw[pZ i];exact hi),λi hi=>hc.2 i (by rw[pZ i];exact hi)⟩,inv.st.ctx.globs⟩,inv.st.defs⟩
 exact⟨st.congr aL a5,inv.ext.congr aL a5⟩
def count_set{l:Array Bool}{i:Nat}(h:l.getD i true=false):(l.setIfInBounds i true).toList.count false+1=l.toList.count false:=by
 have hlt:i<l.size:=by
  rcases MG i l.size with h1|h1
  ·exact h1
  ·simp[qL,oQ h1] at h
 have au:l[i]=false:=by simpa [qL,hlt] using h
 rw[VM,List.count_set (by simpa using hlt)];have Nm:0<l.toList.count false:=List.count_pos_iff.2 (by rw[<-au];simp);have n5:(l.toList[i]'(by simpa using hlt))=false:=by simpa using au
 rw[n5];have aL:(if(false==false)=true then 1 else 0)=1:=rfl;have a5:(if(true==false)=true then 1 else 0)=0:=rfl;rw[aL,a5];omega
def Xe(c:h8 P env B f r ops pl bl c_ da call s S v){k:Nat}{Q:Exit->Act->World->Prop}(b6:∀cH av aT,ff P env ⟨s ops.size,ds,rc⟩ cH (S ops.size) av aT B->Ext f di eM e9 (S ops.size) av aT->Q .normal cH av){x:Nat}(hx:x<ops.size):
  ∀(fuel:Nat) (listed:Array Bool) (a:Act) (w:World) (T:ae) (m:Nat->Option Nat) (dk:a1 AV),Inv2 P env B f ops pl bl da s S v ds rc di eM e9 listed a w x T m dk->listed.toList.count false<=fuel->wpAnyIn (fB r) k P .any ops Q fuel listed a w
 |0,listed,a,w,T,m,dk,inv,hf=>by
  have aq:Region.ready .any ops listed=[]:=by
   refine NR.2 λi hi=>?_;have:=count_set (mem_ready.1 hi).1;omega
  obtain⟨h1,h2⟩:=Xd c hx inv aq;exact⟨aq,b6 _ _ _ h1 h2⟩
 |fuel+1,listed,a,w,T,m,dk,inv,hf=>by
  refine⟨λaq=>?_,λi hi=>?_⟩
  ·obtain⟨h1,h2⟩:=Xd c hx inv aq;exact b6 _ _ _ h1 h2
  ·have b4C:=count_set (mem_ready.1 hi).1;exact b4w c hx inv hi (λcH av m3 aT sv h9=>Xe c b6 hx fuel _ cH av m3 aT sv h9 U)
def Xf(c:h8 P env B f r ops pl bl c_ da call s S v){k:Nat}{Q:Exit->Act->World->Prop}(b6:∀cH av aT,ff P env ⟨s ops.size,ds,rc⟩ cH (S ops.size) av aT B->Ext f di eM e9 (S ops.size) av aT->Q .normal cH av):
  ∀(fuel:Nat) (listed:Array Bool) (a:Act) (w:World) (dS:Nat) (m:Nat->Option Nat) (dk:a1 AV),Inv P env B f ops pl bl da s S v ds rc di eM e9 listed a w dS m dk->listed.toList.count false<=fuel->wpAnyIn (fB r) k P .any ops Q fuel listed a w
 |0,listed,a,w,dS,m,dk,inv,hf=>by
  have aq:Region.ready .any ops listed=[]:=by
   refine NR.2 λi hi=>?_;have:=count_set (mem_ready.1 hi).1;omega
  obtain⟨h1,h2⟩:=Xc c inv aq;exact⟨aq,b6 _ _ _ h1 h2⟩
 |fuel+1,listed,a,w,dS,m,dk,inv,hf=>by
  refine⟨λaq=>?_,λi hi=>?_⟩
  ·obtain⟨h1,h2⟩:=Xc c inv aq;exact b6 _ _ _ h1 h2
  ·have b4C:=count_set (mem_ready.1 hi).1;exact b4x c inv hi (λcH av Ed aT sv h9=>Xf c b6 fuel _ cH av Ed aT sv h9 U)
    (λcH av x T aT sv hx h9=>Xe c b6 hx fuel _ cH av T aT sv h9 U)
end
section
variable {P:Program}{env:Env}{B:Nat}
def b4D{ad:Fr}{a:Act}{J:ae}{w:World}{m:Nat->Option Nat}(st:ff P env ad a J w m B)(f n:Nat):ff P env ad a J {w with drawn:=n} m B/\Ext f J w m J {w with drawn:=n} m:=by
 have aq:=st.ctx.rel;have ay:∀aD,aD<w.heap.size->¬bq J m aD->w.heap[aD]? =w.heap[aD]? ∧¬bq J m aD:=λ_ _ h=>⟨rfl,h⟩
 refine⟨st.mono ⟨aq.len,aq.gi,λid aD o h1 h2 h3=>?_,aq.inj,aq.base,aq.mX⟩ (λ_ _ h=>h) (bs _) (λ_ _ h=>h) ay,
  ⟨λ_ _ h=>h,λ_ _ h=>.inl h,bs _,bs _,λ_ _ h=>h,λ_ _ _=>rfl,λ_ _ _=>rfl,λ_ _ h=>h,rfl,rfl,rfl,λ_ _ _=>rfl⟩⟩
 obtain⟨bX,aO,bI⟩:=aq.obj id aD o h1 h2 h3;exact⟨bX,aO,mV.mono (w:=w) (av:={w with drawn:=n}) (λ_ _ h=>h) (bs _) (λ_ _ h=>h) ay bI⟩
def b4E{f:Nat}{call:mT}{pl:List a4}{s:Nat->a1 AV}{S:Nat->ae}{v:Nat->AV}{da:Nat->Nat->Bool}{al:a1 AV}(oo:Trace env f call pl s S v)(he:s pl.length=al)(h:swapOk env al pl=true){p q:Nat}(l5:D2 pl da p q)
  {bS eY:a4} {s1 s2:Option Nat} {aX gf bc qa:aJ} (tR:pl[p]? =some bS) (El:pl[q]? =some eY) (hx:bS.op= .store s1 aX gf) (hy:eY.op= .store s2 bc qa):∃i Bo j Bp,evalA env (s p) aX=some (.p (some (i,Bo)))/\evalA env (s q) bc=some (.p (some (j,Bp)))/\i≠j:=by
 have iK:=l5.Io;have hl:=l5.last;obtain⟨W3,b4o,_,_,_,_,_,_,bx,bb,_,_,c9,et,_,_,kN⟩:=l5.ops;rw[tR] at bx;cases bx;rw[El] at bb;cases bb;have aL:s q=s p:=by rw[<-iK,oo.put p bS tR,c9];rfl
 have a5:s pl.length=s q:=by rw[<-hl,oo.put q eY El,et];rfl
 have b4F:∃t,pl.reverse=eY::bS::t:=by
  have bU:pl.reverse[0]? =some eY:=by rw[VO U,← El];congr 1;omega
  have bV:pl.reverse[1]? =some bS:=by rw[VO U,← tR];congr 1;omega
  match pl.reverse,bU,bV with
  |a::b::t,bU,bV=>simp at bU bV;exact⟨t,by rw[bU,bV]⟩
 obtain⟨t,ht⟩:=b4F;unfold swapOk at h;rw[ht] at h;simp only at h;split at h
 ·rename_i hw;exact absurd hw kN
 ·rw[hy,hx] at h;simp only at h;rw[<-he,a5,aL] at h;rw[aL];split at h
  ·rename_i i Bo j Bp bU bV;refine⟨i,Bo,j,Bp,bU,bV,λhG=>?_⟩;subst hG;rw[gQ] at h;cases h
  ·cases h
def b4G{run:ju}(nE:P.follows .mixedOrders=true)(q3:∀f r,DN P env B f r (callV env run f)):V2 P env B run:=by
 intro floor pl ad J bd cN ws ai cf cR b4H k r id ops a w m y3 st Q b6;obtain⟨bl,c_,da,spec⟩:=b3W y3;obtain⟨s,S,v,oo,aL,a5,cy,iB,hk,mC,Bm,_,j7⟩:=It _ _ _ _ _ _ _ _ _ cf;have c:h8 P env B floor r ops pl bl c_ da (callV env run floor) s S v:=by
  refine⟨spec,q3 floor r,oo,λp aY aw hw he q aV=>?_,λp q l5 bS eY s1 aX gf s2 bc qa tR El hx hy=>b4E oo cy b4H l5 tR El hx hy⟩;have gn:=j7 p aY aw hw he (λh=>by rw[h] at aV;cases aV);rw[nY] at cR;have h1:=cR _ gn;unfold steady at h1;have h2:=n8 h1 q aV;simp only[Bm,List.reverse_nil,yQ,Dg,yY] at h2;split at h2
  ·rename_i c8j Xg;simp only[fG,fs] at Xg;obtain⟨nD,IB,rfl⟩:=Xg;obtain rfl:q=nD:=by
    have:=VP (i:=q) (n:=pl.length+1) (by have:=(jK.1 IB).1;simpa using this);rw[this] at IB;cases IB;rfl
   split at h2
   ·rename_i v1 b8 hx;rw[AV.Bh _ _ _ h2] at hx;exact⟨b8,hx⟩
   ·cases h2
  ·cases h2
 refine wpIn_region_any nE ?_;obtain⟨hD,b4I⟩:=b4D st floor (w.drawn+1);have bH:ad=⟨s 0,ad.defers,ad.gg⟩:=by rw[aL]
 obtain⟨q,h1,h2,h3,aO⟩:=OD c ops.size 0 U;have l3:∀p,¬dH bl (Array.replicate ops.size false) p:=λp h=>by
  unfold dH at h;simp only[qL] at h;rw[Array.getElem?_replicate] at h;split at h<;>simp at h
 have b4J:qc pl s S J (dH bl (Array.replicate ops.size false)) m 0:=⟨λp aY h=>by omega,λp eQ aY ie h h'=>by omega⟩
 obtain⟨Ee,Ef,Eg⟩:=advance c (D:=dH bl (Array.replicate ops.size false)) q 0 U (λp aY bI cx dI=>aO p aY bI U dI) (by rw[a5];exact hD) (by rw[a5];exact b4I) b4J;rw[NS] at Ee Ef Eg;refine Xf (di:=J) (eM:=w) (e9:=m) (ds:=ad.defers) (rc:=ad.gg) c (λcH av aT bU bV=>?_) ops.size _ a _ q m (s 0) ⟨st.ctx.rel,aF,λp aw hd=>absurd hd (l3 p),h2,?_,λe ez bI cx dI=>?_,λe ez _ _ _ h=>l3 e h,⟨λ_=>rfl,λp aY t aw hd=>absurd hd (l3 p),λt _=>rfl⟩,by rw[<-bH];exact Ee,Ef,Eg⟩ aF
 ·rw[<-spec.len,iB] at bU bV;rw[cy] at bU;refine b6 cH av aT ?_ bV;have:bd=⟨bd.bj,ad.defers,ad.gg⟩:=by rw[<-hk,← mC]
  rw[this];exact bU
 ·rcases h3 with h|⟨ez,bI,cx⟩
  ·exact .inl h
  ·exact .inr ⟨ez,bI,cx,l3 q⟩
 ·have:=aO e ez U bI cx;rw[this] at dI;cases dI
end
section
variable {P:Program}{env:Env}{B:Nat}
def Xh(gT:tK P env)(fy:Bf P env B)(hex:Bg P env)(nE:P.follows .mixedOrders=true):∀n,q7 P env B (exec env n)
 |0=>q7.zero
 |n+1=>by
  have aH:=Xh gT fy hex nE n;rw[og];exact b2Q aH (λf r=>Wr gT fy hex aH f r) (b4G nE (λf r=>Wr gT fy hex aH f r)) (b3Q gT fy aH)
def fk(n:Nat):AV->Bool:=
 Nat.rec (motive:=λ_=>AV->Bool) (λ_=>false) (λ_ aH v=>
  match v with
  | .dh o v=>!o&&cD aH v.cells
  | .a_ o _ xs=>(!o||xs.isEmpty)&&cD (λx=>cD aH x.cells) xs
  | .it _ v=>aH v
  | .R l=>cD aH l
  | .a0 l=>cD aH l
  | .f _ x y=>cD aH x&&cD aH y
  | .gu o _=>!o
  |_=>true) n
def mG(n:Nat)(v:AV):fk (n+1) v=match v with
  | .dh o v=>!o&&cD (fk n) v.cells
  | .a_ o _ xs=>(!o||xs.isEmpty)&&cD (λx=>cD (fk n) x.cells) xs
  | .it _ v=>fk n v
  | .R l=>cD (fk n) l
  | .a0 l=>cD (fk n) l
  | .f _ x y=>cD (fk n) x&&cD (fk n) y
  | .gu o _=>!o
  |_=>true:=rfl
def Xi{w:World}{O:Nat->Prop}:∀(n:Nat) (v:AV) (u:Value),fk n v=true->ag w (λ_=>none) O B v u->ag w (λ_=>none) (λb=>b<B) B v u
 |0,_,_,h,_=>by cases h
 |n+1,v,u,h,hR=>by
  have aH:=Xi (w:=w) (O:=O) n;rw[mG] at h;cases hR with
  |b x=>exact .b x
  |i k n=>exact .i k n
  |s l ao=>exact .s l ao
  |qQ=>exact .qQ
  |p hm=>simp at hm
  |dh bf ch hb ca ab aq hf=>
   simp only[C2,wG] at h;exact .dh bf (λhlt=>by have:=ca h.1;omega) hb ca ab (λj ax=>aH _ _ (n8 h.2 _ (gC ax)) (aq j ax)) hf
  |af=>exact .af
  |al hm=>simp at hm
  |lW=>exact .lW
  |a_ bf ch ao ab aq hl hf fy=>
   simp only[C2,dA,wG,q2] at h;refine .a_ bf (λa7=>?_) ao ab (λi hi j ax=>aH _ _ (n8 (n8 h.2 _ (gC hi)) _ (gC ax)) (aq i hi j ax)) hl hf fy;have h1:=h.1.resolve_right a7;exact⟨λhlt=>by have:=(ch a7).2.2 h1;omega,(ch a7).2.1,(ch a7).2.2⟩
  |r1=>exact .r1
  |mp hm=>simp at hm
  |cO hf bH ab tv=>
   simp only[C2] at h;exact .cO hf (λi a b=>aH _ _ (n8 h.1 _ (gC a)) (bH i a b)) ab (λi a b=>aH _ _ (n8 h.2 _ (gC a)) (tv i a b))
  |u5 hm=>simp at hm
  |eh=>exact .eh
  |it au=>exact .it (aH _ _ h au)
  |fP=>exact .fP
  |R ao aq hf=>exact .R ao (λi a b=>aH _ _ (n8 h _ (gC a)) (aq i a b)) hf
  |a0 ao aq=>exact .a0 ao (λi a b=>aH _ _ (n8 h _ (gC a)) (aq i a b))
  |hv hu hn=>exact .hv hu hn
  |ic ao=>exact .ic ao
  |iI n hn=>exact .iI n hn
  |y ao=>exact .y ao
  |gu hu ao=>
   simp only[wG] at h;subst h;exact .gu hu (TokOk.fresh ao)
def SpecEntry(P:Program)(env:Env)(bz g:Nat)(aQ:List AV)(r:AV):Prop:=
 (∃fn c,P.funcs[g]? =some fn/\fn.body=some c/\(fn.name== "runtime.NumGoroutine")=false)∧
  ∀k rd w us,bz<=w.heap.size->Globs env w bz->bQ w (λ_=>none) (λ_=>False) w.heap.size aQ us.toList→
   CallsIn (fB rd) k P g us w (λe bW=>∃u,e= .returned u/\ag bW (λ_=>none) (λb=>b<w.heap.size) w.heap.size r u/\w.heap.size<=bW.heap.size/\(∀b,b<w.heap.size->bW.heap[b]? =w.heap[b]?)/\bW.os=w.os/\bW.tape=w.tape/\bW.output=w.output)
def IC(P:Program)(env:Env):Prop:=∀bz,Bf P env bz
def b4K(w:World):Rel P ⟨.nil,0⟩ w (λ_=>none) w.heap.size:=
 ⟨trivial,λ_ _ h=>by simp at h,λ_ _ _ h=>by simp at h,λ_ _ _ h=>by simp at h,λ_ _ h=>by simp at h,bs _⟩
def b4L(aD:Nat):¬bq ⟨.nil,0⟩ (λ_=>none) aD:=λ⟨_,h,_⟩=>by simp at h
def Xj(gT:tK P env)(fy:IC P env)(hex:Bg P env)(nE:P.follows .mixedOrders=true){n g:Nat}{aQ:List AV}{r:AV}{l:List (en×ae)}(h:runF env (exec env n) 0 g aQ ⟨.nil,0⟩=some l){bp fn:Nat}(a6:joinF bp 0 l=some r)(bH:fk fn r=true)(bz:Nat):
  SpecEntry P env bz g aQ r:=by
 refine⟨?_,λk rd w us ca cW ha=>?_⟩
 ·unfold runF at h;cases hg:env.funcs g with
  |none=>simp[hg] at h
  |some b3=>
   obtain⟨fn,h1,h2,h3⟩:=gT.funcs g b3 hg;obtain⟨_,c,_,_,aO,_⟩:=N4 h2;exact⟨fn,c,h1,aO,h3⟩
 ·have Em:Globs env w w.heap.size:=λg v hg eL=>(cW g v hg eL).mono (λ_ _ h=>h) (bs _) (λ_ _ h=>h) (λb _ hb=>⟨rfl,λho=>hb (qH ca ho)⟩);have cf:=Xh gT (fy w.heap.size) hex nE n;have p7:=b4K (P:=P) w;have N9:bQ w (λ_=>none) (bq ⟨.nil,0⟩ (λ_=>none)) w.heap.size aQ us.toList:=ha.mono (λ_ _ h=>h) (bs _) (λ_ _ h=>h) (λb _ _=>⟨rfl,b4L b⟩);obtain⟨_,ab⟩:=N_ gT cf (Ob gT 0) h k rd p7 Em N9;refine DF ab (λe bW df=>?_);obtain⟨ret,ai,gn,db,l1,mx,g9⟩:=df;obtain⟨v,rfl,iJ⟩:=Wm a6 _ _ gn;cases e with
  |returned u=>
   have b4M:Ext (⟨.nil,0⟩:ae).next ⟨.nil,0⟩ w (λ_=>none) ai bW db:=g9;have hR:=Oe p7 mx b4M bp v r u iJ l1;exact⟨u,rfl,Xi fn r u bH hR,g9.size,λb hb=>g9.aP b hb (λ⟨_,_,h,_⟩=>by simp at h),g9.os,g9.tape,g9.out⟩
  |panicked oc=>exact l1.elim
  |outgrown=>exact l1.elim
end
def En(j9:List (Nat×List AV×AV))(g:Nat)(aQ:List AV):Option AV:=
 List.rec none (λe _ aH=>cond (Nat.beq e.1 g) (cond (fY (AV.eqb 1000) aQ e.2.1) (some e.2.2) aH) aH) j9
def b4N(e:Nat×List AV×AV)(j9:List (Nat×List AV×AV))(g:Nat)(aQ:List AV):En (e::j9) g aQ=cond (Nat.beq e.1 g) (cond (fY (AV.eqb 1000) aQ e.2.1) (some e.2.2) (En j9 g aQ)) (En j9 g aQ):=rfl
def OK{g:Nat}{aQ:List AV}{r:AV}:∀ {j9:List (Nat×List AV×AV)},En j9 g aQ=some r->(g,aQ,r)∈j9
 |[],h=>by cases h
 |e::j9,h=>by
  rw[b4N] at h;cases h1:Nat.beq e.1 g with
  |false=>rw[h1,cond_false] at h;exact C1 _ (OK h)
  |true=>
   rw[h1,cond_true] at h;cases h2:fY (AV.eqb 1000) aQ e.2.1 with
   |false=>rw[h2,cond_false] at h;exact C1 _ (OK h)
   |true=>
    rw[h2,cond_true] at h;cases h;have aL:=gb h1;have a5:=H6 (AV.Bh 1000) _ _ h2;subst aL;subst a5;exact tm
inductive m6 where
 |nil
 |one (k:Nat) (a:aN)
 |node (k:Nat) (l r:m6)
def m6.get(t:m6):Nat->Option aN:=
 m6.rec (λ_=>none) (λk a i=>cond (Nat.beq i k) (some a) none) (λk _ _ l r i=>cond (Nat.blt i k) (l i) (r i)) t
def m6.Eo(p:Nat->aN->Prop):m6->Prop
 | .nil=>True
 | .one k a=>p k a
 | .node _ l r=>l.Eo p/\r.Eo p
def m6.zh{p:Nat->aN->Prop}:∀ {t:m6},t.Eo p->∀g b3,t.get g=some b3->p g b3
 | .nil,_,g,b3,h=>by cases h
 | .one k a,aw,g,b3,h=>by
  have h:cond (Nat.beq g k) (some a) none=some b3:=h;cases h1:Nat.beq g k with
  |false=>rw[h1] at h;cases h
  |true=>
   rw[h1] at h;cases h;have:=gb h1;subst this;exact aw
 | .node k l r,aw,g,b3,h=>by
  have h:cond (Nat.blt g k) (l.get g) (r.get g)=some b3:=h;cases h1:Nat.blt g k with
  |false=>rw[h1] at h;exact m6.zh aw.2 g b3 h
  |true=>rw[h1] at h;exact m6.zh aw.1 g b3 h
structure bT where
 funcs:m6
 mm:Nat->Option AV
 pure:Nat->Bool
 bp:Nat
 ext:Nat->Nat
def bT.env(b:bT)(j9:List (Nat×List AV×AV)):Env:={funcs:=b.funcs.get,mm:=b.mm,pure:=b.pure,spec:=En j9,bp:=b.bp+1000,ext:=b.ext}
def OL(P:Program)(g:Nat)(b3:aN):Prop:=∃fn,P.funcs[g]? =some fn/\cfunc P fn=some b3/\(fn.name== "runtime.NumGoroutine")=false
structure jR(P:Program)(b:bT):Prop where
 funcs:b.funcs.Eo (OL P)
 ext:∀g,b.ext g≠0->∀args v,extRow (b.ext g) args=some v->∀w m O B us cs,bQ w m O B args (us++cs).toList->∃u,(invoke (.fn (.func g) cs) us).run P w= .ok (.value u) w/\ag w m O B v u
 Bu:P.follows .mixedOrders=true
def runsTo(b:bT)(j9:List (Nat×List AV×AV))(n:Nat)(e:Nat×List AV×AV):Bool:=
 match Uo (b.env j9) n e.1 e.2.1 with
 |some v=>AV.eqb 1000 v e.2.2&&fk 1000 e.2.2
 |none=>false
section
variable {P:Program}{b:bT}{j9:List (Nat×List AV×AV)}
def ug(P:Program)(b:bT)(j9:List (Nat×List AV×AV)):Prop:=∀e∈j9,∀bz,SpecEntry P (b.env []) bz e.1 e.2.1 e.2.2
def ug.b4O(h:ug P b j9):IC P (b.env j9):=λbz g aQ r ao=>h _ (OK ao) bz
def ug.entry(hb:jR P b)(h:ug P b j9){n:Nat}{e:Nat×List AV×AV}(aq:runsTo b j9 n e=true)(bz:Nat):SpecEntry P (b.env []) bz e.1 e.2.1 e.2.2:=by
 unfold runsTo Uo at aq;split at aq
 ·rename_i v au;split at au<;>try (cases au;done)
  rename_i l cf;simp only[C2] at aq;rw[AV.Bh _ _ _ aq.1] at au;exact Xj (env:=b.env j9) ⟨λg b3 hg=>m6.zh hb.funcs g b3 hg⟩ h.b4O hb.ext hb.Bu cf au aq.2 bz
 ·cases aq
end
def b4P(c x:Nat)(l:List Nat)(k:Nat):AD c (x::l) k=cond (Nat.beq x c) (Int.ofNat k) (AD c l (k+1)):=rfl
def b4Q{a b:Nat}(ha:a<256)(hb:b<256):(a.toUInt8==b.toUInt8)=Nat.beq a b:=by
 rw[oS,tn,beq_iff_eq];constructor
 ·intro h;have:=congrArg UInt8.toNat h;simp at this;omega
 ·intro h;rw[h]
def Xk{c:Nat}(ab:c<256):∀(l:List Nat) (k:Nat),(∀x∈l,x<256)->AD c l k=if Lib.indexByte (l.map Nat.toUInt8) c.toUInt8= -1 then-1 else Lib.indexByte (l.map Nat.toUInt8) c.toUInt8+k
 |[],k,_=>rfl
 |x::l,k,h=>by
  have hx:x<256:=h x aF;have aH:=Xk ab l (k+1) (λy hy=>h y (by simp[hy]));have m0:=Lib.indexByte_ge (l.map Nat.toUInt8) c.toUInt8;rw[b4P,aH,uW];simp only[Lib.indexByte,b4Q hx ab];cases hb:Nat.beq x c with
  |true=>simp
  |false=>
   simp only[cond_false,T8,if_false];by_cases h1:Lib.indexByte (l.map Nat.toUInt8) c.toUInt8= -1
   ·simp[h1]
   ·have h2:(Lib.indexByte (l.map Nat.toUInt8) c.toUInt8== -1)=false:=by simpa using h1
    rw[h2];simp only[h1,if_false,T8];rw[if_neg U];omega
def b4R(x:Nat)(l:List Nat)(y:Nat)(r:List Nat):ix (x::l) (y::r)=cond (Nat.blt x y) true (cond (Nat.beq x y) (ix l r) false):=rfl
def b4S(x:Nat)(l:List Nat)(y:Nat)(r:List Nat):eqL (x::l) (y::r)=cond (Nat.beq x y) (eqL l r) false:=rfl
def cmp_eq:∀(a b:List Nat),(∀x∈a,x<256)->(∀x∈b,x<256)->Lib.compareBytes (a.map Nat.toUInt8) (b.map Nat.toUInt8)=cond (ix a b) (-1) (cond (eqL a b) 0 1)
 |[],[],_,_=>rfl
 |[],_::_,_,_=>rfl
 |_::_,[],_,_=>rfl
 |x::a,y::b,ha,hb=>by
  have hx:x<256:=ha x aF;have hy:y<256:=hb y aF;have aH:=cmp_eq a b (λz a6=>ha z (by simp[a6])) (λz a6=>hb z (by simp[a6]));have Xl:∀ {p q:Nat},p<256->q<256->(p.toUInt8<q.toUInt8↔p<q):=λaw aV=>by
   rw[MI];simp;omega
  simp only[uW,Lib.compareBytes,b4R,b4S,Xl hx hy,Xl hy hx];rcases gR x y with h|h|h
  ·have:Nat.blt x y=true:=(w9.2 h)
   simp[h,this]
  ·subst h;have h1:Nat.blt x x=false:=by cases h:Nat.blt x x with|false=>rfl|true=>exact absurd ((w9.1 h)) (Nat.lt_irrefl x)
   simp[h1,aH]
  ·have h1:Nat.blt x y=false:=by cases h':Nat.blt x y with|false=>rfl|true=>have:=(w9.1 h');omega
   have h2:Nat.beq x y=false:=by cases h':Nat.beq x y with|false=>rfl|true=>have:=gb h';omega
   have h3:¬x<y:=by omega
   simp[h,h1,h2,h3]
section
variable {P:Program}{g:Nat}{fn:Func}
def Xm{w:World}{m:Nat->Option Nat}{O:Nat->Prop}{B:Nat}{x y:AV}{l:List Value}(h:bQ w m O B [x,y] l):∃u v,l=[u,v]/\ag w m O B x u/\ag w m O B y v:=by
 obtain⟨h1,h2⟩:=h
 match l,h1,h2 with
 |[u,v],_,h2=>exact⟨u,v,rfl,h2 0 aF aF,h2 1 aF aF⟩
def b4T(hf:P.funcs[g]? =some fn)(y4:(fn.name== "runtime.NumGoroutine")=false)(hb:fn.body.isNone=true)(hn:Extern.findNext fn=none)(he:Extern.find fn=some Extern.BytealgIndexByte.indexByte)
  (args:List AV) (v:AV) (h:extRow 1 args=some v) (w:World) (m:Nat->Option Nat) (O:Nat->Prop) (B:Nat) (us cs:Array Value) (ha:bQ w m O B args (us++cs).toList):∃u,(invoke (.fn (.func g) cs) us).run P w= .ok (.value u) w/\ag w m O B v u:=by
 have key:∃l c,args=[.s l,.i .u8 (Int.ofNat c)]/\c<256/\v= .i .i64 (AD c l 0):=by
  unfold extRow at h;split at h
  ·rename_i l c _;cases ab:Nat.blt c 256 with
   |false=>rw[ab] at h;cases h
   |true=>rw[ab,cond_true] at h;cases h;exact⟨l,c,rfl,(w9.1 ab),rfl⟩
  ·rename_i h1;exact absurd h1 bw
  ·rename_i h1;exact absurd h1 bw
  ·cases h
 obtain⟨l,c,rfl,ab,rfl⟩:=key;obtain⟨OM,ON,hl,h1,h2⟩:=Xm ha;have l0:us++cs= #[OM,ON]:=by apply T9;simpa using hl
 cases h1 with
 |s _ hlt=>
  cases h2 with
  |i _ _=>
   refine⟨.int .i64 (AD c l 0),?_,.i _ _⟩;show(callFunc g (us++cs)).run P w=_;rw[run_callFunc_extern hf y4 hb hn he,l0,Lib.run_indexByteString];have aL:(strOf l).data.toList=l.map Nat.toUInt8:=by simp[strOf]
   have a5:(Int.ofNat c).toNat=c:=rfl;rw[aL,a5,Xk ab l 0 hlt];simp only[e7];split
   ·rename_i h;rw[h]
   ·simp
def b4U(hf:P.funcs[g]? =some fn)(y4:(fn.name== "runtime.NumGoroutine")=false)(hb:fn.body.isNone=true)(hn:Extern.findNext fn=none)(he:Extern.find fn=some Extern.BytealgCompare.compare)
  (args:List AV) (v:AV) (h:extRow 2 args=some v) (w:World) (m:Nat->Option Nat) (O:Nat->Prop) (B:Nat) (us cs:Array Value) (ha:bQ w m O B args (us++cs).toList):∃u,(invoke (.fn (.func g) cs) us).run P w= .ok (.value u) w/\ag w m O B v u:=by
 have key:∃a b,args=[.s a,.s b]/\v= .i .i64 (cond (ix a b) (-1) (cond (eqL a b) 0 1)):=by
  unfold extRow at h;split at h
  ·rename_i h1;exact absurd h1 bw
  ·cases h;exact⟨_,_,rfl,rfl⟩
  ·rename_i h1;exact absurd h1 bw
  ·cases h
 obtain⟨a,b,rfl,rfl⟩:=key;obtain⟨OM,ON,hl,h1,h2⟩:=Xm ha;have l0:us++cs= #[OM,ON]:=by apply T9;simpa using hl
 cases h1 with
 |s _ hlt=>
  cases h2 with
  |s _ b4V=>
   refine⟨.int .i64 (cond (ix a b) (-1) (cond (eqL a b) 0 1)),?_,.i _ _⟩;show(callFunc g (us++cs)).run P w=_;rw[run_callFunc_extern hf y4 hb hn he,l0,Lib.run_compareString];have aL:∀l,(strOf l).data.toList=l.map Nat.toUInt8:=λl=>by simp[strOf]
   rw[aL,aL,cmp_eq a b hlt b4V];rfl
end
def SpecEntry.calls{P:Program}{env:Env}{bz g:Nat}{aQ:List AV}{r:AV}(h:SpecEntry P env bz g aQ r){w:World}{us:Array Value}(ca:bz<=w.heap.size)(cW:Globs env w bz)(ha:bQ w (λ_=>none) (λ_=>False) w.heap.size aQ us.toList):
  Calls P g us w (λe bW=>∃u,e= .returned u/\ag bW (λ_=>none) (λb=>b<w.heap.size) w.heap.size r u/\w.heap.size<=bW.heap.size/\(∀b,b<w.heap.size->bW.heap[b]? =w.heap[b]?)/\bW.os=w.os/\bW.tape=w.tape/\bW.output=w.output):=
 (h.2 0 none w us ca cW ha).calls (λk=>by simp[Fence.room,fB])
def Xn{α β:Type}{f:α->Option β}:∀ {l:List α} {r:List β},mapOL f l=some r->r.length=l.length/\∀i (h:i<l.length) (h':i<r.length),f l[i]=some r[i]
 |[],r,h=>by cases h;exact⟨rfl,λi h=>by simp at h⟩
 |x::xs,r,h=>by
  unfold mapOL at h;split at h<;>cases h;rename_i y bf h1 h2;obtain⟨h3,aO⟩:=Xn h2;refine⟨by simp[h3],λi hi dq=>?_⟩;cases i with
  |zero=>simpa using h1
  |succ i=>simpa using aO i (by simpa using hi) (by simpa using dq)
def packA(aa:Option Nat)(l:List AV):Option AV:=
 match aa,l with
 |none,[x]=>some x
 |none,_=>none
 |some n,l=>if l.length=n then some (.R l) else none
def avCat(f:TypeId->DataW Unit->Option (List AV))(cells:TypeId->Nat):List (Nat×TypeId)->Nat->List (DataW Unit)->Option (List AV)
 |[],_,[]=>some []
 |(o,t)::a8,k,d::ds=>
  if o=k then match f t d,avCat f cells a8 (k+cells t) ds with
   |some l,some r=>if l.length=cells t then some (l++r) else none
   |_,_=>none
  else none
 |_,_,_=>none
def avCells(P:Program):Nat->TypeId->DataW Unit->Option (List AV)
 |0,_,_=>none
 |n+1,t,d=>
  match P.underlying t,d with
  |some .bool,.lit (.bool b)=>some [.b b]
  |some (.int _),.lit (.int k x)=>some [.i k x]
  |some .string,.lit (.string l)=>some [.s (l.map (·.toNat))]
  |some (.pointer _),.nil=>some [.p none]
  |some (.slice _),.nil=>some [.af]
  |some (.slice e),.slice (y::bf) _=>match shapeOf P e,P.cellsOf e with
   |some aa,c+1=>if shN aa=c+1 then match mapOL (λd=>match avCells P n e d with|some l=>packA aa l|none=>none) (y::bf) with
     |some xs=>some [.a_ true aa xs]
     |none=>none
    else none
   |_,_=>none
  |some (.struct a8),.agg aC=>match avCat (avCells P n) P.cellsOf (a8.toList.map λf=>(f.offset,f.type)) 0 aC with
   |some l=>if l.length=P.cellsOf t then some l else none
   |none=>none
  |some (.array k e),.agg aC=>match avCat (avCells P n) P.cellsOf ((List.range k).map λi=>(i*P.cellsOf e,e)) 0 aC with
   |some l=>if l.length=P.cellsOf t then some l else none
   |none=>none
  |_,_=>none
section
variable {P:Program}{w:World}
def OO{base:Nat}{a:Addr}{n:Nat}{cs:List Value}(h:w.cells? base a n=some cs):cs.length=n/\∀i,i<n->w.cell? (a.add i)=cs[i]? :=by
 unfold World.cells? at h;split at h
 ·exact⟨by simpa using mapM_some_length h,λi hi=>mapM_some_get h i i (by simp[hi])⟩
 ·cases h
def b4W{a:Addr}{v:Value}(h:w.cell? a=some v):a.spot=none/\a.block<w.heap.size:=by
 unfold World.cell? at h;split at h
 ·rename_i hh;split at h
  ·cases h
  ·rename_i ao;refine⟨by cases hx:a.spot with|none=>rfl|some _=>simp[hx] at ao,?_⟩;exact(ME.1 hh).1
 ·cases h
def OP{f:TypeId->DataW Unit->Option (List AV)}{eL m:Nat}(aH:∀t cs d aC l,DataW.trod (λ_=>()) P w 0 (λ_=>true) false m t cs=some (d,aC)->f t d=some l->bQ w (λ_=>none) (λb=>w.heap.size<=b) eL l cs/\∀x∈l,conf none x=true)(cs:List Value):
  ∀(a8:List (Nat×TypeId)) (k:Nat) (xs:List (DataW Unit×List MemPlace)) (l:List AV),(∀(i o:Nat) (t:TypeId),a8[i]? =some (o,t)->DataW.trod (λ_=>()) P w 0 (λ_=>true) false m t ((cs.drop o).take (P.cellsOf t))=xs[i]?)→
   avCat f P.cellsOf a8 k (xs.map (·.1))=some l->k+l.length=cs.length->bQ w (λ_=>none) (λb=>w.heap.size<=b) eL l (cs.drop k)/\∀x∈l,conf none x=true
 |[],k,[],l,_,h,ay=>by
  cases h;rw[NM (by simp at ay;omega)];exact⟨.nil,λx hx=>by cases hx⟩
 |[],k,x::xs,l,_,h,ay=>by simp[avCat] at h
 |(o,t)::a8,k,[],l,_,h,ay=>by simp[avCat] at h
 |(o,t)::a8,k,x::xs,l,hx,h,ay=>by
  simp only[uW,avCat] at h;split at h
  ·rename_i ho;subst ho;split at h
   ·rename_i vr h4 h1 h2;split at h<;>cases h;rename_i jM;have h0:=hx 0 o t I;simp only[VN] at h0;obtain⟨aX,bc⟩:=aH t _ x.1 x.2 vr (by rw[h0]) h1;have aq:=OP aH cs a8 (o+P.cellsOf t) xs h4 (λi bX HI hi=>by simpa using hx (i+1) bX HI (by simpa using hi)) h2 (by rw[dv] at ay;omega);refine⟨?_,λy hy=>(tl.1 hy).elim (bc y) (aq.2 y)⟩;have hd:=aq.1;rw[<-oV] at hd;have:=aX.append hd;rwa[yU] at this
   ·cases h
  ·cases h
def Xo{aa:Option Nat}{l:List AV}{x:AV}(h:packA aa l=some x)(hl:∀y∈l,conf none y=true):conf aa x=true/\x.cells=l:=by
 unfold packA at h;split at h
 ·cases h;have:=hl x aF;refine⟨this,?_⟩;cases x<;>simp_all [conf,AV.cells]
 ·cases h
 ·split at h<;>cases h;rename_i hn;exact⟨by simp[conf,hn],rfl⟩
def Xp(eL:Nat):∀(n fuel:Nat) (t:TypeId) (cs:List Value) (d:DataW Unit) (aC:List MemPlace) (l:List AV),DataW.trod (λ_=>()) P w 0 (λ_=>true) false fuel t cs=some (d,aC)->avCells P n t d=some l→
  bQ w (λ_=>none) (λb=>w.heap.size<=b) eL l cs/\∀x∈l,conf none x=true
 |0,_,_,_,_,_,_,_,h=>by cases h
 |n+1,fuel,t,cs,d,aC,l,hd,h=>by
  have aH:=λm t cs d aC l=>Xp eL n m t cs d aC l;unfold avCells at h;split at h
  ·rename_i ht;obtain⟨b,rfl,hx⟩:=DataW.trod_bool ht hd;cases h;cases hx;exact⟨.cons (.b _) .nil,λx hx=>by simp at hx;subst hx;rfl⟩
  ·rename_i ht;obtain⟨b,rfl,hx,_⟩:=DataW.trod_int ht hd;cases h;cases hx;exact⟨.cons (.i _ _) .nil,λx hx=>by simp at hx;subst hx;rfl⟩
  ·rename_i ht;obtain⟨s,rfl,hx,_⟩:=DataW.trod_string ht hd;cases h;cases hx;have:=ag.s (w:=w) (m:=λ_=>none) (O:=λb=>w.heap.size<=b) (B:=eL) (yt s) (UH s);rw[UG] at this;exact⟨.cons this .nil,λx hx=>by simp at hx;subst hx;rfl⟩
  ·rename_i ht;rcases DataW.trod_pointer ht hd with⟨rfl,_⟩|⟨_,_,_,_,_,_,hx,_⟩
   ·cases h;exact⟨.cons .qQ .nil,λx hx=>by simp at hx;subst hx;rfl⟩
   ·cases hx
  ·rename_i ht;rcases DataW.trod_slice ht hd with⟨rfl,_⟩|⟨_,_,_,_,_,_,_,_,hx,_⟩
   ·cases h;exact⟨.cons .af .nil,λx hx=>by simp at hx;subst hx;rfl⟩
   ·cases hx
  ·rename_i e y bf _ ht;split at h<;>try (cases h;done)
   rename_i aa c iA ab;split at h<;>try (cases h;done)
   rename_i Xq;split at h<;>cases h;rename_i xs dG;obtain⟨h1,h2⟩:=Xn dG;rcases DataW.trod_slice ht hd with⟨_,hx⟩|⟨a,len,cap,elems,rest,m,rfl,rfl,hx,_,mq,AS,yG,hZ,_,_⟩
   ·cases hx
   simp only[yS,DataW.slice.injEq] at hx;obtain⟨⟨ft,_⟩,_⟩:=hx;have hlen:xs.length=len:=by rw[h1,ft];simpa using yG
   have each:∀i (hi:i<xs.length),∃us,w.cells? 0 (a.add (i*P.cellsOf e)) (P.cellsOf e)=some us/\bQ w (λ_=>none) (λb=>w.heap.size<=b) eL (xs[i]).cells us/\conf aa xs[i]=true/\∀x∈(xs[i]).cells,conf none x=true:=λi hi=>by
    have hg:=hZ i U;have dq:i<elems.length:=by omega
    rw[fw dq] at hg;simp only[dU] at hg;obtain⟨us,hu,b4X⟩:=hg;have h3:=h2 i U hi;have aL:(y::bf)[i]'U=(elems[i]).1:=by
     have:(y::bf)[i]? =(elems.map (·.1))[i]? :=by rw[ft]
     rw[fw U,fw (by simpa using dq),cL] at this;simpa using this
    rw[aL] at h3;split at h3<;>try (cases h3;done)
    rename_i vr jM;obtain⟨aX,bc⟩:=aH m e us _ _ vr b4X jM;obtain⟨cq,ew⟩:=Xo h3 bc;exact⟨us,hu,by rw[ew];exact aX,cq,by rw[ew];exact bc⟩
   have Nm:0<xs.length:=by rw[h1];simp
   obtain⟨c8k,b4Y,p7,iu,_⟩:=each 0 Nm;obtain⟨c8l,yM⟩:=OO b4Y;have n6:P.cellsOf e=c+1:=ab;have ID:=yM 0 U;rw[fw U] at ID;simp only[DH] at ID;have b4Z:(a.add 0).add 0=a:=rfl;rw[b4Z] at ID;obtain⟨fy,Xr⟩:=b4W ID;obtain⟨aD,off,sp⟩:=a;cases fy;refine⟨.cons ?_ .nil,λx hx=>by simp at hx;subst hx;rfl⟩;rw[<-hlen];refine .a_ (λi j=>(w.cell? ⟨aD,off+i*shN aa+j,none⟩).getD undef) (λ_=>⟨by show ¬w.heap.size<=aD;exact Nat.not_le.2 Xr,Xr,λh=>by cases h⟩) (λi hi=>(each i hi).choose_spec.2.2.1) (λi hi j ax=>?_) (λi hi j ax=>?_) U (λv au x hx=>?_) (λ_=>rfl)
   ·obtain⟨us,hu,aq,h7,_⟩:=each i hi;obtain⟨hl,hg⟩:=OO hu;have fA:j<P.cellsOf e:=by rw[vc h7] at ax;omega
    have:=hg j fA;rw[lB,lB,fw U] at this;rw[n6,← Xq] at this;rw[this];rfl
   ·obtain⟨us,hu,aq,h7,_⟩:=each i hi;obtain⟨hl,hg⟩:=OO hu;have fA:j<P.cellsOf e:=by rw[vc h7] at ax;omega
    have:=hg j fA;rw[lB,lB,fw U] at this;rw[n6,← Xq] at this;rw[this];exact aq.2 j ax U
   ·obtain⟨i,hi,rfl⟩:=tj au;exact(each i hi).choose_spec.2.2.2 x hx
  ·rename_i a8 nv ht;split at h<;>try (cases h;done)
   rename_i vr jM;split at h<;>cases h;rename_i hlen;obtain⟨xs,m,rfl,hx,gS,jB,hZ⟩:=DataW.trod_struct ht hd;simp only[yS,DataW.agg.injEq] at hx;obtain⟨rfl,_⟩:=hx;have:=OP (eL:=eL) (m:=m) (λt cs d aC l=>aH m t cs d aC l) cs _ 0 xs l (λi o HI hi=>by
    simp only[fG,fs,yS] at hi;obtain⟨f,hf,rfl,rfl⟩:=hi;exact hZ i f (by simpa using hf)) jM U
   simpa using this
  ·rename_i k e nv ht;split at h<;>try (cases h;done)
   rename_i vr jM;split at h<;>cases h;rename_i hlen;obtain⟨xs,m,rfl,hx,gS,jB,hZ⟩:=DataW.trod_array ht hd;simp only[yS,DataW.agg.injEq] at hx;obtain⟨rfl,_⟩:=hx;have:=OP (eL:=eL) (m:=m) (λt cs d aC l=>aH m t cs d aC l) cs _ 0 xs l (λi o HI hi=>by
    simp only[fG,fs,yS] at hi;obtain⟨j,ax,rfl,rfl⟩:=hi;have gK:=jK.1 ax;obtain⟨Xs,Bv⟩:=gK;simp at Xs Bv;subst Bv;exact hZ i Xs) jM U
   simpa using this
  ·cases h
def avVar(P:Program)(n:Nat)(x:String×DataW Unit):Option (Nat×AV):=
 match P.globalNamed x.1 with
 |some g=>match P.globals[g]? with
  |some tS=>match shapeOf P tS.type,avCells P n tS.type x.2 with
   |some aa,some l=>match packA aa l with
    |some v=>some (g,v)
    |none=>none
   |_,_=>none
  |none=>none
 |none=>none
noncomputable def IE (l:List (Nat×AV)) (g:Nat):Option AV:=List.rec none (λe _ aH=>cond (Nat.beq e.1 g) (some e.2) aH) l
def OQ{g:Nat}{v:AV}:∀ {l:List (Nat×AV)},IE l g=some v->(g,v)∈l
 |[],h=>by cases h
 |e::l,h=>by
  have h:cond (Nat.beq e.1 g) (some e.2) (IE l g)=some v:=h;cases h1:Nat.beq e.1 g with
  |false=>rw[h1,cond_false] at h;exact C1 _ (OQ h)
  |true=>
   rw[h1,cond_true] at h;cases h;have:=gb h1;subst this;exact tm
def var?_heap{n:String}{g:Nat}{cs:Array Value}(hg:P.globalNamed n=some g)(h:w.var? P n=some cs):∃t bp,w.heap[g]? =some (.cells cs t bp):=by
 unfold World.var? at h;rw[hg] at h;simp only[Option.bind_some] at h;split at h<;>cases h;exact⟨_,_,by assumption⟩
def Xt:∀ {laid:List (String×DataW Unit)} {aC:List MemPlace},DataW.LaidVars P w laid aC->∀x∈laid,∃g t cs fuel p,P.globalNamed x.1=some g/\(P.globals[g]?).map (·.type)=some t/\w.var? P x.1=some cs/\DataW.trod (λ_=>()) P w 0 (λ_=>true) false fuel t cs.toList=some (x.2,p)
 |[],_,_,x,hx=>by cases hx
 |y::laid,aC,hl,x,hx=>by
  obtain⟨c5,t0,o8,f0,p0,dS,xe,zi,k9,oi,p6,_⟩:=hl;rcases dB.1 hx with rfl|hx
  ·exact⟨c5,t0,o8,f0,p0,xe,zi,k9,oi⟩
  ·exact Xt p6 x hx
def b5a{n:Nat}{x:String×DataW Unit}{g:Nat}{v:AV}(h1:avVar P n x=some (g,v)){c5 t0 f0:Nat}{o8:Array Value}{p0:List MemPlace}(xe:P.globalNamed x.1=some c5)(zi:(P.globals[c5]?).map (·.type)=some t0)
  (k9:w.var? P x.1=some o8) (oi:DataW.trod (λ_=>()) P w 0 (λ_=>true) false f0 t0 o8.toList=some (x.2,p0)) (eL:Nat):
  ag w (λ_=>none) (λb=>w.heap.size<=b) eL (.dh true v) (.pointer (some ⟨g,0,none⟩)):=by
 unfold avVar at h1;rw[xe] at h1;simp only[] at h1;cases lH:P.globals[c5]? with
 |none=>simp[lH] at h1
 |some Xu=>
  simp only[lH] at h1 zi;simp only[kD,cL] at zi;subst zi;split at h1<;>try (cases h1;done)
  rename_i aa vr ao jM;split at h1<;>cases h1;rename_i aw;obtain⟨aX,bc⟩:=Xp eL n f0 _ _ _ _ _ oi jM;obtain⟨cq,ew⟩:=Xo aw bc;obtain⟨pO,bp,hh⟩:=var?_heap xe k9;have hlt:g<w.heap.size:=(ME.1 hh).1;refine .dh (λj=>(o8[j]?).getD undef) (by show ¬w.heap.size<=g;omega) hlt (λh=>by cases h) (λj ax=>?_) (λj ax=>?_) (by rw[ew];exact bc)
  ·rw[ew] at ax;have fA:j<o8.size:=by have:=aX.1;simp at this;omega
   unfold World.cell?;rw[hh];simp[fA]
  ·have gK:=ax;rw[ew] at gK;have fA:j<o8.size:=by have:=aX.1;simp at this;omega
   have:=aX.2 j gK (by simpa using fA);simp only[ew];simpa [fA] using this
def Xv{n:Nat}{laid:List (String×DataW Unit)}{aC:List MemPlace}(hl:DataW.LaidVars P w laid aC):∀ {L:List (String×DataW Unit)} {tS:List (Nat×AV)},(∀x∈L,x∈laid)->mapOL (avVar P n) L=some tS→
  ∀g v,(g,v)∈tS->∀eL,ag w (λ_=>none) (λb=>w.heap.size<=b) eL (.dh true v) (.pointer (some ⟨g,0,none⟩))
 |[],tS,_,h,g,v,hm=>by cases h;cases hm
 |x::L,tS,hL,h,g,v,hm=>by
  unfold mapOL at h;split at h<;>cases h;rename_i y bf h1 h2;rcases dB.1 hm with rfl|hm
  ·intro eL;obtain⟨c5,t0,o8,f0,p0,xe,zi,k9,oi⟩:=Xt hl x (hL x aF);exact b5a h1 xe zi k9 oi eL
  ·exact Xv hl (λx hx=>hL x (by simp[hx])) h2 g v hm
def globs_of_laid{env:Env}{laid:List (String×DataW Unit)}{n:Nat}{tS:List (Nat×AV)}(hl:laidMet P laid w)(names:List String)(h:mapOL (avVar P n) (laid.filter λx=>names.contains x.1)=some tS)(hg:env.mm=IE tS):Globs env w w.heap.size:=by
 obtain⟨aC,hl,_⟩:=hl;intro g v au eL;rw[hg] at au;exact Xv hl (λx hx=>(NN.1 hx).1) h g v (OQ au) eL
end
end
section
variable [Tok][TokOk]
open Go.RowKit Go.ChangeShapes Go.WideShapes
def b5b{W W':World}{may:MemPlace->Prop}(ay:∀b,b<W.heap.size->W'.heap[b]? =W.heap[b]?)(mo:W'.os=W.os)(lX:W'.output=W.output):W.keptBut W' may:=by
 refine⟨mo,lX,λi hi=>?_⟩;rw[ay i hi];cases h:W.heap[i]? with
 |none=>rfl
 |some o=>
  cases o with
  |cells c t ad=>exact⟨rfl,rfl,rfl,λj _=>rfl⟩
  |map es clock=>exact .inr ⟨rfl,rfl⟩
  |_=>rfl
end
section
variable [Tok][TokOk]
open Go.RowKit
def dx{α:Type}(f:Nat->Option (List α))(Q:α->Prop):Prop:=∃fC l,l≠[]/\(∀F,fC<=F->f F=some l)/\∀x∈l,Q x
def dx.one{α:Type}{f:Nat->Option (List α)}{Q:α->Prop}{x:α}(h:∀F,f F=some [x])(aV:Q x):dx f Q:=⟨0,[x],aF,λF _=>h F,λ_ hy=>by rw[uT.1 hy];exact aV⟩
def dx.mono{α:Type}{f:Nat->Option (List α)}{Q ot:α->Prop}(h:dx f Q)(aV:∀x,Q x->ot x):dx f ot:=let⟨fC,l,h1,h2,h3⟩:=h;⟨fC,l,h1,h2,λx hx=>aV x (h3 x hx)⟩
def dx.congr{α:Type}{f g:Nat->Option (List α)}{Q:α->Prop}(h:dx f Q)(e:∀F,g F=f F):dx g Q:=let⟨fC,l,h1,h2,h3⟩:=h;⟨fC,l,h1,λF b2=>(e F).trans (h2 F b2),h3⟩
def dx.succ{α:Type}{f g:Nat->Option (List α)}{Q:α->Prop}(h:dx f Q)(e:∀F,g (F+1)=f F):dx g Q:=
 let⟨fC,l,h1,h2,h3⟩:=h
 ⟨fC+1,l,h1,λF b2=>by obtain⟨k,rfl⟩:∃k,F=k+1:=⟨F-1,U⟩;exact(e k).trans (h2 k U),h3⟩
def b5c{α β:Type}(f:α->Option (List β))(x y:α)(t:List α):oX f (x::y::t)=match f x with|none=>none|some a=>match oX f (y::t) with|none=>none|some b=>some (a++b):=rfl
def dx.flat{α β:Type}{g:α->Nat->Option (List β)}{Q:β->Prop}:∀(l:List α),l≠[]->(∀x∈l,dx (g x) Q)->dx (λF=>oX (λx=>g x F) l) Q
 |[],h,_=>absurd I h
 |[x],_,h=>(h x aF).congr λF=>rfl
 |x::y::t,_,h=>by
  obtain⟨tT,vr,aX,eF,hU⟩:=h x aF;obtain⟨b5d,XA,bc,dE,m4⟩:=dx.flat (g:=g) (Q:=Q) (y::t) aF (λz a6=>h z (C1 _ a6));refine⟨max tT b5d,vr++XA,by simp[aX],λF b2=>?_,λz a6=>?_⟩
  ·show oX (λx=>g x F) (x::y::t)=_;have a5:oX (λx=>g x F) (y::t)=some XA:=dE F U;rw[b5c,eF F U,a5]
  ·rcases tl.1 a6 with a6|a6
   ·exact hU z a6
   ·exact m4 z a6
def dx.then{α β:Type}{f:Nat->Option (List α)}{g:α->Nat->Option (List β)}{Q:α->Prop}{ot:β->Prop}(h:dx f Q)(hg:∀x,Q x->dx (g x) ot):dx (λF=>hT (f F) (λx=>g x F)) ot:=by
 obtain⟨fC,l,h1,h2,h3⟩:=h;obtain⟨tT,cu,a,b,c⟩:=dx.flat (g:=g) (Q:=ot) l h1 (λx hx=>hg x (h3 x hx));exact⟨max fC tT,cu,a,λF b2=>by show hT (f F) _=_;rw[h2 F U];exact b F U,c⟩
abbrev sx:=fZ->Fr->ae->Prop
def gv(env:Env)(floor:Nat)(aR:Option Nat)(c:bF)(ad:Fr)(J:ae)(Q:sx):Prop:=dx (λF=>exec env F floor aR c ad J) (λo=>Q o.1 o.2.1 o.2.2)
def kp(env:Env)(floor:Nat)(dX:Bool)(ops:List a4)(ad:Fr)(J:ae)(Q:sx):Prop:=dx (λF=>runOps env floor (callV env (exec env F) floor) dX ops ad J) (λo=>Q o.1 o.2.1 o.2.2)
def bE(env:Env)(floor:Nat)(ct:AV)(args:List AV)(J:ae)(Q:en->ae->Prop):Prop:=dx (λF=>callV env (exec env F) floor ct args J) (λo=>Q o.1 o.2)
section
variable {env:Env}{floor:Nat}{aR:Option Nat}{ad:Fr}{J:ae}{Q:sx}
def gv.mono{c:bF}{ot:sx}(h:gv env floor aR c ad J Q)(aV:∀x ad J,Q x ad J->ot x ad J):gv env floor aR c ad J ot:=dx.mono h λ_ ho=>aV _ _ _ ho
def gv.skip(h:Q .normal ad J):gv env floor aR .skip ad J Q:=(dx.one (f:=λF=>some [(fZ.normal,ad,J)]) (Q:=λo=>Q o.1 o.2.1 o.2.2) (λ_=>rfl) h).succ λF=>by rw[og];rfl
def gv.ret(h:Q .ret ad J):gv env floor aR .ret ad J Q:=(dx.one (f:=λF=>some [(fZ.ret,ad,J)]) (Q:=λo=>Q o.1 o.2.1 o.2.2) (λ_=>rfl) h).succ λF=>by rw[og];rfl
def gv.exit{id:Nat}(h:Q (.exit id) ad J):gv env floor aR (.exit id) ad J Q:=(dx.one (f:=λF=>some [(fZ.exit id,ad,J)]) (Q:=λo=>Q o.1 o.2.1 o.2.2) (λ_=>rfl) h).succ λF=>by rw[og];rfl
def gv.region{ops:List a4}(h:kp env floor aR.isNone ops ad J Q):gv env floor aR (.region ops) ad J Q:=dx.succ h λF=>by rw[og];rfl
def b5e(env:Env)(floor:Nat)(aR:Option Nat)(b:bF)(Q:sx):sx:=λx ad J=>match x with| .normal=>gv env floor aR b ad J Q|x=>Q x ad J
def gv.seq{a b:bF}(h:gv env floor aR a ad J (b5e env floor aR b Q)):gv env floor aR (.seq a b) ad J Q:=by
 refine dx.succ (dx.then (g:=λx F=>AE (exec env F) floor aR b x) h λo ho=>?_) λF=>by rw[og];rfl
 obtain⟨x,bd,ai⟩:=o;cases x with
 |normal=>exact ho
 |exit i=>exact dx.one (λ_=>rfl) ho
 |ret=>exact dx.one (λ_=>rfl) ho
 |panic v=>exact dx.one (λ_=>rfl) ho
def b5f(id:Nat)(Q:sx):sx:=λx ad J=>match x with| .exit j=>if j=id then Q .normal ad J else Q (.exit j) ad J|x=>Q x ad J
def gv.block{a:bF}{id:Nat}(h:gv env floor aR a ad J (b5f id Q)):gv env floor aR (.block id a) ad J Q:=by
 refine dx.succ (dx.then (g:=λx _=>MT id x) h λo ho=>?_) λF=>by rw[og];rfl
 obtain⟨x,bd,ai⟩:=o;cases x with
 |normal=>exact dx.one (λ_=>rfl) ho
 |exit i=>
  have ho:(if i=id then Q .normal bd ai else Q (.exit i) bd ai):=ho;by_cases hi:i=id
  ·subst hi;rw[if_pos I] at ho;refine dx.one (x:=(.normal,bd,ai)) (λ_=>?_) ho;show cond (Nat.beq i i) _ _=_;rw[gQ];rfl
  ·rw[if_neg hi] at ho;refine dx.one (x:=(.exit i,bd,ai)) (λ_=>?_) ho;show cond (Nat.beq i id) _ _=_;rw[show Nat.beq i id=false from by cases hb:Nat.beq i id with|false=>rfl|true=>exact absurd (gb hb) hi];rfl
 |ret=>exact dx.one (λ_=>rfl) ho
 |panic v=>exact dx.one (λ_=>rfl) ho
def gv.jg{o:aJ}{a b:bF}{t:Bool}(ho:evalA env ad.bj o=some (.b t))(ht:t=true->gv env floor aR a ad J Q)(hf:t=false->gv env floor aR b ad J Q):gv env floor aR (.cond o a b) ad J Q:=by
 cases t with
 |true=>
  refine dx.succ (ht I) λF=>?_;rw[og];show(match evalA env ad.bj o with|some (.b t)=>exec env F floor aR (cond t a b) ad J|_=>none)=_;rw[ho];rfl
 |false=>
  refine dx.succ (hf I) λF=>?_;rw[og];show(match evalA env ad.bj o with|some (.b t)=>exec env F floor aR (cond t a b) ad J|_=>none)=_;rw[ho];rfl
def gv.loop{a:bF}(eV:Nat->Fr->ae->Prop)(aW:∀m ad J,eV m ad J->gv env floor aR a ad J (λx bd ai=>match x with| .normal=>∃aT,aT<m/\eV aT bd ai|x=>Q x bd ai)):∀m ad J,eV m ad J->gv env floor aR (.loop a) ad J Q:=by
 intro m
 induction m using Nat.strongRecOn with
 |ind m aH=>
  intro ad J h;refine dx.succ (dx.then (g:=λx F=>AE (exec env F) floor aR (.loop a) x) (aW m ad J h) λo ho=>?_) λF=>by rw[og];rfl
  obtain⟨x,bd,ai⟩:=o;cases x with
  |normal=>obtain⟨aT,h1,h2⟩:=ho;exact aH aT h1 bd ai h2
  |exit i=>exact dx.one (λ_=>rfl) ho
  |ret=>exact dx.one (λ_=>rfl) ho
  |panic v=>exact dx.one (λ_=>rfl) ho
def kp.nil{dX:Bool}(h:Q .normal ad J):kp env floor dX [] ad J Q:=dx.one (λ_=>rfl) h
def kp.val{dX:Bool}{o:a4}{ops:List a4}{v:AV}{ai:ae}(hw:wantedA o.guard ad.bj=true)(ho:opx floor (evalA env ad.bj) J o.op=some (.val v ai))(h:kp env floor dX ops (ad.put o.dst v) ai Q):kp env floor dX (o::ops) ad J Q:=
 dx.congr h λF=>by rw[yZ,hw,cond_true,ho]
def kp.off{dX:Bool}{o:a4}{ops:List a4}(hw:wantedA o.guard ad.bj=false)(h:kp env floor dX ops (ad.put o.dst ei) J Q):kp env floor dX (o::ops) ad J Q:=
 dx.congr h λF=>by rw[yZ,hw,cond_false]
def kp.call{dX:Bool}{o:a4}{ops:List a4}{ct:AV}{args:List AV}(hw:wantedA o.guard ad.bj=true)(ho:opx floor (evalA env ad.bj) J o.op=some (.call ct args))
  (h:bE env floor ct args J (λr ai=>match r with| .ok v=>kp env floor dX ops (ad.put o.dst v) ai Q| .err v=>Q (.panic v) ad ai)):kp env floor dX (o::ops) ad J Q:=by
 refine dx.congr (dx.then (g:=λ(r:en×ae) F=>(match r with
     |(.ok v,J)=>runOps env floor (callV env (exec env F) floor) dX ops (ad.put o.dst v) J
     |(.err v,J)=>some [(.panic v,ad,J)])) h λr aq=>?_) λF=>by rw[yZ,hw,cond_true,ho]<;>rfl
 obtain⟨r,ai⟩:=r;cases r with
 |ok v=>exact aq
 |err v=>exact dx.one (λ_=>rfl) aq
def bE.spec{g:Nat}{first cap args aQ:List AV}{r:AV}{Q:en->ae->Prop}(he:env.ext g=0)(aw:env.pure g=true)(ha:mapO (bM J env.bp) (first++args++cap)=some aQ)(ao:env.spec g aQ=some r)(h:Q (.ok r) J):
  bE env floor (.f (.func g) first cap) args J Q:=by
 refine dx.one (x:=(.ok r,J)) (λF=>?_) h;show callF env (exec env F) floor g (first++args++cap) J=_;unfold callF;rw[he];show cond (env.pure g) _ _=_;rw[aw,cond_true,ha];show(match env.spec g aQ with|some r=>_|none=>_)=_;rw[ao]
def XB(env:Env)(floor:Nat)(fn:aN)(Q:en->ae->Prop):sx:=λx ad J=>∃r ai,endF env floor fn (x,ad,J)=some [(r,ai)]/\Q r ai
def bE.run{g:Nat}{first cap args:List AV}{fn:aN}{body:bF}{Q:en->ae->Prop}(he:env.ext g=0)(aw:env.pure g=false)(hf:env.funcs g=some fn)(hb:fn.body=some body)
  (hn:(Nat.beq (first++args++cap).length fn.j0&&Nat.ble (first++args++cap).length fn.ntmps)=true) (h:gv env floor none body (u3 fn (first++args++cap)) J (XB env floor fn Q)):bE env floor (.f (.func g) first cap) args J Q:=by
 refine dx.congr (dx.then (g:=λx _=>endF env floor fn x) h λo ho=>?_) λF=>?_
 ·obtain⟨r,ai,h1,h2⟩:=ho;exact dx.one (λ_=>h1) h2
 ·show callF env (exec env F) floor g (first++args++cap) J=_;unfold callF;rw[he];show cond (env.pure g) _ _=_;rw[aw,cond_false];unfold runF;rw[hf];show(match fn.body with|none=>none|some body=>_)=_;rw[hb];show cond _ _ _=_;rw[hn,cond_true]
def qd{α β:Type}(f:α->Option β)(x:α)(l:List α):mapO f (x::l)=match f x with|none=>none|some y=>match mapO f l with|none=>none|some bf=>some (y::bf):=rfl
def XC{f g:AV->Option AV}(h:∀x y,f x=some y->g x=some y):∀ {l r:List AV},mapO f l=some r->mapO g l=some r
 |[],r,e=>e
 |x::l,r,e=>by
  rw[qd] at e ⊢;cases hx:f x with
  |none=>rw[hx] at e;cases e
  |some y=>
   rw[hx] at e;cases hl:mapO f l with
   |none=>rw[hl] at e;cases e
   |some bf=>rw[hl] at e;rw[h x y hx,XC h hl];exact e
def XD{J:ae}{base:Nat}:∀(n:Nat) (v r:AV),freeze J base n v=some r->freeze J base (n+1) v=some r
 |0,_,_,h=>by cases h
 |n+1,v,r,h=>by
  have aH:=XD (J:=J) (base:=base) n;have g6:∀ {l cu:List AV},mapO (freeze J base n) l=some cu->mapO (freeze J base (n+1)) l=some cu:=XC aH;rw[freeze_succ] at h;rw[freeze_succ];split at h
  ·split at h<;>try (cases h;done)
   rename_i hb;rw[if_neg hb];split at h<;>try (cases h;done)
   rename_i xs dG;split at h<;>cases h;rename_i bf Ep;simp only[dG,g6 Ep]
  ·split at h<;>cases h;rename_i bf Ep;simp only[g6 Ep]
  ·split at h<;>cases h;rename_i bf Ep;simp only[g6 Ep]
  ·split at h<;>cases h;rename_i y hy;simp only[aH _ _ hy]
  ·cases h
  ·cases h
  ·cases h
  ·exact h
def XE{J:ae}{base n m:Nat}(hn:n<=m){v r:AV}(h:freeze J base n v=some r):freeze J base m v=some r:=by
 obtain⟨k,rfl⟩:∃k,m=n+k:=⟨m-n,U⟩
 induction k with
 |zero=>exact h
 |succ k aH=>exact XD _ _ _ (aH U)
def XF{f g:AV->AV->Bool}(h:∀x y,f x y=true->g x y=true):∀ {l r:List AV},fY f l r=true->fY g l r=true
 |[],[],e=>e
 |[],_::_,e=>by cases e
 |_::_,[],e=>by cases e
 |x::l,y::r,e=>by
  have e:cond (f x y) (fY f l r) false=true:=e;show cond (g x y) (fY g l r) false=true;cases hx:f x y with
  |false=>rw[hx] at e;cases e
  |true=>rw[hx] at e;rw[h x y hx];exact XF h e
def XG:∀(n:Nat) (x y:AV),AV.eqb n x y=true->AV.eqb (n+1) x y=true
 |0,_,_,h=>by cases h
 |n+1,x,y,h=>by
  have aH:=XG n;have g6:∀ {l r:List AV},fY (AV.eqb n) l r=true->fY (AV.eqb (n+1)) l r=true:=XF aH;have e:=AV.Bh _ _ _ h;subst e;cases x
  case a_ o aa xs=>
   have h:((o==o)&&decide (aa=aa)&&fY (AV.eqb n) xs xs)=true:=h;show((o==o)&&decide (aa=aa)&&fY (AV.eqb (n+1)) xs xs)=true;simp only[C2] at h ⊢;exact⟨h.1,g6 h.2⟩
  case dh o v=>
   have h:((o==o)&&AV.eqb n v v)=true:=h;show((o==o)&&AV.eqb (n+1) v v)=true;simp only[C2] at h ⊢;exact⟨h.1,aH _ _ h.2⟩
  case f e6 a c=>
   have h:(decide (e6=e6)&&(fY (AV.eqb n) a a&&fY (AV.eqb n) c c))=true:=h;show(decide (e6=e6)&&(fY (AV.eqb (n+1)) a a&&fY (AV.eqb (n+1)) c c))=true;simp only[C2] at h ⊢;exact⟨h.1,g6 h.2.1,g6 h.2.2⟩
  case it t v=>
   have h:(Nat.beq t t&&AV.eqb n v v)=true:=h;show(Nat.beq t t&&AV.eqb (n+1) v v)=true;simp only[C2] at h ⊢;exact⟨h.1,aH _ _ h.2⟩
  case p a=>cases a<;>exact h
  case m a=>cases a<;>exact h
  case R l=>exact g6 (l:=l) (r:=l) h
  case a0 l=>exact g6 (l:=l) (r:=l) h
  all_goals exact h
def b5g{n m:Nat}(hn:n<=m){x y:AV}(h:AV.eqb n x y=true):AV.eqb m x y=true:=by
 obtain⟨k,rfl⟩:∃k,m=n+k:=⟨m-n,U⟩
 induction k with
 |zero=>exact h
 |succ k aH=>exact XG _ _ _ (aH U)
def ig{α:Type}{p:α->Bool}:∀ {l:List α},(∀y∈l,p y=true)->cD p l=true
 |[],_=>rfl
 |y::t,h=>by
  show cond (p y) (cD p t) false=true;rw[h y aF,cond_true];exact ig λz a6=>h z (C1 _ a6)
def IJ{P:Program}{m:Nat}(hm:m<=env.bp)(gT:tK P env)(fy:IC P env)(hex:Bg P env)(nE:P.follows .mixedOrders=true){g:Nat}{fn:aN}{body:bF}{aQ:List AV}{r:AV}(hf:env.funcs g=some fn)(hb:fn.body=some body)
  (hn:(Nat.beq aQ.length fn.j0&&Nat.ble aQ.length fn.ntmps)=true) {ad:Nat} (aq:fk ad r=true)
  (h:gv env 0 none body (u3 fn aQ) ⟨.nil,0⟩ (XB env 0 fn (λv ai=>∃bR,v= .ok bR/\freeze ai 0 m bR=some r))) (iT:AV.eqb m r r=true) (bz:Nat):SpecEntry P env bz g aQ r:=by
 have h1:dx (λF=>hT (exec env F 0 none body (u3 fn aQ) ⟨.nil,0⟩) (endF env 0 fn)) (λo=>∃bR,o.1= .ok bR/\freeze o.2 0 m bR=some r):=
  dx.then (g:=λx _=>endF env 0 fn x) h λo ho=>by
   obtain⟨v,ai,h1,h2⟩:=ho;exact dx.one (λ_=>h1) h2
 obtain⟨fC,l,hl,h2,h3⟩:=h1;have cf:runF env (exec env fC) 0 g aQ ⟨.nil,0⟩=some l:=by
  unfold runF;rw[hf];show(match fn.body with|none=>none|some body=>_)=_;rw[hb];show cond _ _ _=_;rw[hn,cond_true];exact h2 fC (bs _)
 refine Xj (bp:=env.bp) gT fy hex nE cf ?_ aq bz;cases l with
 |nil=>exact absurd I hl
 |cons x t=>
  obtain⟨v,aO,bI⟩:=h3 x aF;obtain⟨gf,qa⟩:=x;have aO:gf= .ok v:=aO;replace bI:freeze qa 0 env.bp v=some r:=XE hm bI;subst aO;show(match freeze qa 0 env.bp v with|none=>none|some v1=>cond (cD (ys env.bp 0 v1) t) (some v1) none)=_;rw[bI];have:cD (ys env.bp 0 r) t=true:=by
   have OT:∀y∈t,ys env.bp 0 r y=true:=λy hy=>by
    obtain⟨w,cx,dI⟩:=h3 y (C1 _ hy);obtain⟨MO,GI⟩:=y;have cx:MO= .ok w:=cx;replace dI:freeze GI 0 env.bp w=some r:=XE hm dI;subst cx;show(match freeze GI 0 env.bp w with|some bW=>AV.eqb env.bp bW r|none=>false)=true;rw[dI];exact b5g hm iT
   exact ig OT
  show cond (cD (ys env.bp 0 r) t) (some r) none=_;rw[this];rfl
end
end
end Go.Lyc
end
