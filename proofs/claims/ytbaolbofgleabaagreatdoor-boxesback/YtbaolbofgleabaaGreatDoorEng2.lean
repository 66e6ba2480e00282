/-
  An abstract executor of the program's code, and that it is sound, part 2. No conditions: definitions and laws.
-/
import Derived.Test.YtbaolbofgleabaaGreatDoorEng1
import Derived.TacticsIn
import Derived.Scope
import Derived.RangeFuncRecord
import Derived.RecoverIn
import Derived.Lib.Bytealg
import Derived.OpenShut
import Derived.ProofKit
import Derived.LaidMore
import Derived.Lay
import Derived.SevenTiedAt
set_option linter.all false
noncomputable section
namespace Go.Lyc
def Qy:=@Nat.ble_eq
def Cl:=@Bool.cond_eq_ite
def zI:=@List.mem_append_left
def Kb:=@List.mem_append_right
def v9:=@Go.Oper.semAt_eq
def E0:=@Go.CallsIn.mono
def YO:=@Go.World.putObj_heap_other
def YP:=@Array.toList_setIfInBounds
def Qz:=@List.replicate_succ
def te:=@List.getElem?_eq_none
def QA:=@Array.toList_append
def QB:=@List.drop_eq_nil_of_le
def xI:=@List.nil_append
def zJ:=@Nat.lt_of_lt_of_le
def zK:=@Prod.mk.injEq
def iJ:=@List.append_assoc
def YQ:=@Nat.le_succ_of_le
def YR:=@List.getElem?_cons_zero
def eY:=@List.mem_of_getElem?
def mj:=@List.mem_filter
def zL:=@List.mem_zipIdx_iff_getElem?
def fD:=@List.getD_eq_getElem?_getD
def iR:=@List.getElem?_map
def QC:=@List.getElem?_zipIdx
def QD:=@Bool.not_true
def Kc:=@List.any_eq_true
def hj:=@List.not_mem_nil
def v_:=@Nat.lt_trichotomy
def QE:=@List.mem_filterMap
def QF:=@Classical.byContradiction
def YS:=@List.eq_nil_iff_forall_not_mem
def YT:=@List.getElem?_reverse
def E1:=@List.getElem?_range
def nq:=@Nat.zero_add
def wa:=@List.take_append_drop
def E2:=@Nat.zero_mul
set_option maxHeartbeats 0
set_option maxRecDepth 100000
section
variable [Tok]
open Go.RowKit
def Kd{x:Option Operand}{bW:Option aJ}(h:opdO x=some bW):bW.isSome=x.isSome:=by
 cases x with
 |none=>cases h;rfl
 |some x=>
  simp only[opdO] at h;split at h<;>cases h;rfl
section
variable {P:Program}{env:Env}{J:ad}{w:World}{m:Nat->Option Nat}{B:Nat}{f:Nat}{ao:a1 AV}{a:Act}{o:Oper}{cH:AOp}{v:AV}{ai:ad}
def b1u(c:Ctx P env J w m B ao a){t:TypeId}{aE:Array (Nat×Operand)}(ho:o.op= .build t aE)(aa:cop P o=some cH)(h:opx f (evalA env ao) J cH=some (.val v ai)):fT P B f J w m v ai ((execOp a.eval o).run P w):=by
 simp only[cop,ho,eA,dZ] at aa;obtain⟨Ke,a_,aa⟩:=aa;simp only[execOp,ho];split at aa<;>try (cases aa;done)
 rename_i z;split at aa
 ·rename_i a6 hu;split at aa<;>try (cases aa;done)
  rename_i b1v;simp only[eA,dZ,eM,cJ] at aa;obtain⟨l,hl,rfl⟩:=aa;simp only[opx] at h;split at h<;>cases h;rename_i cs uI;refine f_ c (b0e hu (b0r b1v) a_ (aE:=l) ?_ uI);rw[vM];refine EO (λp q iS=>?_) hl;split at iS<;>cases iS;rename_i off ab x h1 h2;exact⟨⟨ab,h1,rfl⟩,λv aq=>c.ar h2 aq⟩
 ·rename_i n e hu;simp only[eA,dZ,eM,cJ] at aa;obtain⟨ab,al,l,hl,rfl⟩:=aa;simp only[opx] at h;split at h<;>cases h;rename_i cs uI;refine f_ c (b0f hu al a_ (aE:=l) ?_ uI);rw[vM];refine EO (λp q iS=>?_) hl;split at iS<;>cases iS;rename_i x h2;exact⟨⟨rfl,rfl⟩,λv aq=>c.ar h2 aq⟩
 ·cases aa
def Cm{t e:TypeId}{ab:Option Nat}(h:elemOf' P t=some (e,ab)):P.underlying t=some (.slice e)/\shapeOf P e=some ab:=by
 unfold elemOf' at h;split at h<;>try (cases h;done)
 rename_i d_ hu;split at h<;>cases h;rename_i al;exact⟨hu,al⟩
def b1w(c:Ctx P env J w m B ao a){t:TypeId}{n:Nat}{aE:Array (Nat×Operand)}(ho:o.op= .buildSlice t n aE)(aa:cop P o=some cH)(h:opx f (evalA env ao) J cH=some (.val v ai)):fT P B f J w m v ai ((execOp a.eval o).run P w):=by
 simp only[cop,ho,eA,dZ] at aa;obtain⟨⟨e,ab⟩,he,z,a_,l,hl,aa⟩:=aa;split at aa<;>cases aa;rename_i gH;obtain⟨hu,al⟩:=Cm he;simp only[opx] at h;split at h<;>cases h;rename_i cs uI;simp only[execOp,ho];refine sf (b0h c.rel hu al a_ gH.2 gH.1 ?_ uI);rw[vM];have:=EO (g:=λ(x:Nat×Operand)=>(x.1,a.eval x.2)) (r:=λ(p:Nat×aJ) (q:Nat×Value)=>p.1=q.1/\∀v,evalA env ao p.2=some v->R w m (bq J m) B v q.2) (λp q iS=>by
  split at iS<;>cases iS;rename_i x h2;exact⟨rfl,λv aq=>c.ar h2 aq⟩) hl
 revert this;generalize aE.toList.map (λ(x:Nat×Operand)=>(x.1,a.eval x.2))=hG;clear uI hl
 induction l generalizing hG with
 |nil=>cases hG<;>exact id
 |cons p l aC=>
  cases hG with
  |nil=>exact id
  |cons q hG=>
   rintro⟨⟨h1,h2⟩,h3⟩;exact⟨⟨⟨h1,rfl⟩,h2⟩,aC hG h3⟩
def YU(c:Ctx P env J w m B ao a){t:TypeId}{x k y:Operand}(ho:o.op= .mapUpdate t x k y\/o.op= .insert t x k y)(aa:cop P o=some cH)(h:opx f (evalA env ao) J cH=some (.val v ai)):fT P B f J w m v ai ((execOp a.eval o).run P w):=by
 have e:execOp a.eval o=(do Instr.mapUpdate t (a.eval x) (a.eval k) (a.eval y);pure .skip:Sem Next):=by unfold execOp;rcases ho with ho|ho<;>rw[ho]
 have h4:∃jT xJ ab bW E3 eN,P.underlying t=some (.map jT xJ)/\keyOk P jT=some ab/\opdOf x=some bW/\opdOf k=some E3/\opdOf y=some eN/\cH= .xv ab bW E3 eN:=by
  unfold cop at aa;rcases ho with ho|ho<;>
  ·rw[ho] at aa;simp only at aa;split at aa<;>try (cases aa;done)
   rename_i jT xJ hu;simp only[eA,dZ,eM,cJ] at aa;obtain⟨ab,al,bW,hx,E3,aB,eN,hy,rfl⟩:=aa;exact⟨jT,xJ,ab,bW,E3,eN,hu,al,hx,aB,hy,rfl⟩
 obtain⟨jT,xJ,ab,bW,E3,eN,hu,al,hx,aB,hy,rfl⟩:=h4;rw[e];simp only[opx] at h;split at h<;>try (cases h;done)
 rename_i id c9l g2 an YV tf;split at h<;>try (cases h;done)
 rename_i du;split at h<;>try (cases h;done)
 rename_i es bm hg;split at h<;>try (cases h;done)
 rename_i hZ td;obtain⟨aG,hm,k7⟩:=(c.ar hx an).JW;rw[k7];split at h<;>cases h
 ·rename_i lW QG;exact Qu (Yx c.rel hu al (by simpa [hC] using du) hm hg (c.ar aB YV) (c.ar hy tf) td QG)
 ·rename_i QG;exact Qu (Yx c.rel hu al (by simpa [hC] using du) hm hg (c.ar aB YV) (c.ar hy tf) td QG)
def b1x(c:Ctx P env J w m B ao a){t:TypeId}{x:Operand}{i:Nat}(ho:o.op= .fieldAddr t x i)(aa:cop P o=some cH)(h:opx f (evalA env ao) J cH=some (.val v ai)):fT P B f J w m v ai ((execOp a.eval o).run P w):=by
 simp only[cop,ho,eA,dZ,eM,cJ] at aa;obtain⟨⟨off,ab⟩,hf,bW,hx,rfl⟩:=aa;simp only[opx] at h;split at h<;>try (cases h;done)
 rename_i an;split at h<;>cases h;rename_i aq;simp only[execOp,ho];exact f_ c (a9D hf (c.ar hx an) aq)
def b1y(c:Ctx P env J w m B ao a){t:TypeId}{x:Operand}{i:Nat}(ho:o.op= .field t x i)(aa:cop P o=some cH)(h:opx f (evalA env ao) J cH=some (.val v ai)):fT P B f J w m v ai ((execOp a.eval o).run P w):=by
 simp only[cop,ho,eA,dZ,eM,cJ] at aa;obtain⟨⟨off,ab⟩,hf,bW,hx,rfl⟩:=aa;simp only[opx] at h;split at h<;>try (cases h;done)
 rename_i an;split at h<;>cases h;rename_i aq;simp only[execOp,ho];exact f_ c (a9E hf (c.ar hx an) aq)
def b1z(c:Ctx P env J w m B ao a){t:TypeId}{x y:Operand}(ho:o.op= .indexAddr t x y)(aa:cop P o=some cH)(h:opx f (evalA env ao) J cH=some (.val v ai)):fT P B f J w m v ai ((execOp a.eval o).run P w):=by
 simp only[cop,ho] at aa;simp only[execOp,ho];split at aa
 ·rename_i n e hu;simp only[eA,dZ,eM,cJ] at aa;obtain⟨ab,al,bW,hx,eN,hy,rfl⟩:=aa;simp only[opx] at h;split at h<;>try (cases h;done)
  rename_i p j an aA;split at h<;>try (cases h;done)
  rename_i QH xK;split at h<;>try (cases h;done)
  rename_i hlt;split at h<;>cases h;rename_i aq;obtain⟨k,rfl⟩:=EM xK;have zM:=(c.ar hy aA).nm;rw[zM];exact f_ c (a9F hu al (c.ar hx an) (by simpa [hC] using hlt) aq)
 ·rename_i e hu;simp only[eA,dZ,eM,cJ] at aa;obtain⟨ab,al,bW,hx,eN,hy,rfl⟩:=aa;simp only[opx] at h;split at h<;>try (cases h;done)
  rename_i p j an aA;split at h<;>try (cases h;done)
  rename_i QH xK;split at h<;>cases h;rename_i aq;obtain⟨k,rfl⟩:=EM xK;have zM:=(c.ar hy aA).nm;rw[zM];exact f_ c (a9G hu al (c.ar hx an) aq)
 ·cases aa
def b1A(c:Ctx P env J w m B ao a){t:TypeId}{x y:Operand}(ho:o.op= .index t x y)(aa:cop P o=some cH)(h:opx f (evalA env ao) J cH=some (.val v ai)):fT P B f J w m v ai ((execOp a.eval o).run P w):=by
 simp only[cop,ho] at aa;simp only[execOp,ho];split at aa
 ·rename_i n e hu;simp only[eA,dZ,eM,cJ] at aa;obtain⟨ab,al,bW,hx,eN,hy,rfl⟩:=aa;simp only[opx] at h;split at h<;>try (cases h;done)
  rename_i cs j an aA;split at h<;>try (cases h;done)
  rename_i QH xK;split at h<;>try (cases h;done)
  rename_i hlt;split at h<;>cases h;rename_i aq;obtain⟨k,rfl⟩:=EM xK;have zM:=(c.ar hy aA).nm;rw[zM];exact f_ c (a9I hu al (c.ar hx an) (by simpa [hC] using hlt) aq)
 ·rename_i hu;simp only[eA,dZ,eM,cJ] at aa;obtain⟨bW,hx,eN,hy,rfl⟩:=aa;simp only[opx] at h;split at h<;>try (cases h;done)
  rename_i l j an aA;split at h<;>try (cases h;done)
  rename_i QH xK;split at h<;>cases h;rename_i pz aq;obtain⟨k,rfl⟩:=EM xK;have zM:=(c.ar hy aA).nm;rw[zM];exact f_ c ⟨_,a9H hu (c.ar hx an) aq,.i _ _⟩
 ·cases aa
def b1B(c:Ctx P env J w m B ao a){t:TypeId}{x y:Operand}{two:Bool}(ho:o.op= .lookup t x y two)(aa:cop P o=some cH)(h:opx f (evalA env ao) J cH=some (.val v ai)):fT P B f J w m v ai ((execOp a.eval o).run P w):=by
 simp only[cop,ho] at aa;simp only[execOp,ho];split at aa<;>try (cases aa;done)
 rename_i jT e hu;simp only[eA,dZ,eM,cJ] at aa;obtain⟨ab,al,bW,hx,eN,hy,z,a_,rfl⟩:=aa;simp only[opx] at h;split at h<;>try (cases h;done)
 rename_i p j an aA;split at h<;>cases h;rename_i aq;exact f_ c (b0G c.rel hu al a_ two (c.ar hx an) (c.ar hy aA) aq)
def b1C(c:Ctx P env J w m B ao a){t P6:TypeId}{x:Operand}{two:Bool}(ho:o.op= .typeAssert x P6 t two)(aa:cop P o=some cH)(h:opx f (evalA env ao) J cH=some (.val v ai)):fT P B f J w m v ai ((execOp a.eval o).run P w):=by
 simp only[cop,ho] at aa;simp only[execOp,ho];split at aa<;>try (cases aa;done)
 rename_i d aY hd;simp only[eA,dZ,eM,cJ] at aa;obtain⟨bW,hx,z,a_,rfl⟩:=aa;simp only[opx] at h;split at h<;>try (cases h;done)
 rename_i p an;split at h<;>cases h;rename_i aq;exact f_ c (a9Y hd (λms e=>aY ms e) a_ (c.ar hx an) aq)
def b1D(c:Ctx P env J w m B ao a){x:Operand}{i:Nat}(ho:o.op= .extract x i)(aa:cop P o=some cH)(h:opx f (evalA env ao) J cH=some (.val v ai)):fT P B f J w m v ai ((execOp a.eval o).run P w):=by
 simp only[cop,ho,eA,dZ,eM,cJ] at aa;obtain⟨bW,hx,rfl⟩:=aa;simp only[opx] at h;split at h<;>try (cases h;done)
 rename_i l an;split at h<;>cases h;rename_i aq;simp only[execOp,ho];exact f_ c (a9J (c.ar hx an) aq)
def b1E{d:Nat}{x:Option Value}{n:Nat}(h:mK d x n)(al:x.isSome=true):∃k,x=some (.int k (Int.ofNat n)):=by
 cases h with
 |none=>simp at al
 |some k n=>exact⟨k,rfl⟩
def b1F(c:Ctx P env J w m B ao a){t:TypeId}{x:Operand}{c1 hi gq:Option Operand}(ho:o.op= .slice t x c1 hi gq)(aa:cop P o=some cH)(h:opx f (evalA env ao) J cH=some (.val v ai)):fT P B f J w m v ai ((execOp a.eval o).run P w):=by
 simp only[cop,ho,eA,dZ] at aa;obtain⟨b6,mM,YW,Cn,am,zN,aa⟩:=aa;simp only[execOp,ho];split at aa
 ·-- Ey array behind a pointer
  rename_i n e hu;split at aa<;>try (cases aa;done)
  simp only[eA,dZ,eM,cJ] at aa;obtain⟨ab,al,bW,hx,rfl⟩:=aa;have zO:gq=none:=by
   have:=Kd zN;cases gq with|none=>rfl|some _=>simp at this
  subst zO;simp only[opx] at h;split at h<;>try (cases h;done)
  rename_i id off l hh an hl qX;split at h<;>try (cases h;done)
  rename_i wb;split at h<;>try (cases h;done)
  rename_i cs hg;split at h<;>cases h;rename_i Yc;simp only[dD] at wb;have h1:=g7 wb.1;have h2:=g7 wb.2;obtain⟨aG,hm,k7⟩:=(c.ar hx an).xA;obtain⟨arr,el,bh,b1G,_,vW,_⟩:=c.rel.cells hm hg;rw[k7];exact f_ c (a9O hu al hm (k:=arr.size) (by unfold eF;rw[b1G]) (by have:=g7 Yc;omega) (c.se mM hl) (c.se Cn qX) h1 h2)
 ·-- a slice
  rename_i e hu;split at aa<;>try (cases aa;done)
  rename_i ab al;split at aa<;>try (cases aa;done)
  rename_i YX;simp only[eA,dZ,eM,cJ] at aa;obtain⟨bW,hx,rfl⟩:=aa;have aM:=Kd zN;have aU:=Kd Cn;simp only[opx] at h;split at h<;>try (cases h;done)
  rename_i p an;split at h<;>cases h;rename_i aq;have hR:=c.ar hx an;refine f_ c ?_;unfold sliceA at aq;split at aq
  ·rename_i id off len iD cap;split at aq<;>try (cases aq;done)
   rename_i jc;split at aq<;>try (cases aq;done)
   rename_i l hh hl qX;split at aq<;>try (cases aq;done)
   rename_i wb;have h1:=g7 wb;obtain⟨bl,bj,k3,bI,cP⟩:=a9P hu al jc hR (c.se mM hl) (c.se Cn qX) h1;split at aq
   ·rename_i c9m;split at aq<;>try (cases aq;done)
    rename_i k aB;rw[Option.ite_none_right_eq_some] at aq;obtain⟨gH,aq⟩:=aq;cases aq;simp only[dD] at gH;have ql:gq.isSome=true:=by rw[<-aM];rfl
    have hb:=c.se zN (d:=0) (n:=k) aB;obtain⟨vZ,QI⟩:=b1E hb (by simpa using ql);have b1H:hi.isSome=true:=by
     cases hi with
     |some _=>rfl
     |none=>exfalso;apply YX;exact⟨rfl,by cases YW with|none=>rfl|some _=>simp at aU⟩
    exact bl _ vZ k QI (by simpa using b1H) (g7 gH.1) (g7 gH.2)
   ·have zO:gq=none:=by cases gq with|none=>rfl|some _=>simp at aM
    subst zO;split at aq
    ·split at aq<;>cases aq;rename_i gH;exact bj _ I (g7 gH)
    ·split at aq
     ·cases aq;rename_i gH;simp only[dD] at gH;exact k3 I (g7 gH.1) (gE gH.2)
     ·split at aq
      ·cases aq;rename_i gH;simp only[dD] at gH;exact bI I (g7 gH.1) (g7 gH.2)
      ·split at aq<;>cases aq;rename_i gH;simp only[dD] at gH;exact cP I (gE gH.1) (gE gH.2)
  ·split at aq<;>cases aq;rename_i hl qX oz;have wc:a.eval x= .slice none 0 0:=by
    revert hR;generalize a.eval x=u;intro hR;cases hR;rfl
   rw[wc];exact⟨_,a9R hu al (c.se mM hl) (c.se Cn qX) (c.se zN oz) (λql=>by
    cases hi with
    |some _=>rfl
    |none=>exfalso;apply YX;exact⟨by rw[aM];simpa using ql,by cases YW with|none=>rfl|some _=>simp at aU⟩),.nilsl⟩
  ·split at aq<;>try (cases aq;done)
   rename_i jc;split at aq<;>try (cases aq;done)
   rename_i l hh hl qX;split at aq<;>cases aq;rename_i gH;simp only[dD] at gH;have zO:gq=none:=by cases gq with|none=>rfl|some _=>simp at aM
   subst zO;subst jc;exact b1d hu al hR (c.se mM hl) (c.se Cn qX) (g7 gH.1) (g7 gH.2)
  ·cases aq
 ·-- a string
  rename_i hu;split at aa<;>try (cases aa;done)
  simp only[eA,dZ,eM,cJ] at aa;obtain⟨bW,hx,rfl⟩:=aa;have zO:gq=none:=by
   have:=Kd zN;cases gq with|none=>rfl|some _=>simp at this
  subst zO;simp only[opx] at h;split at h<;>try (cases h;done)
  rename_i s an;split at h<;>try (cases h;done)
  rename_i l hh hl qX;split at h<;>cases h;rename_i wb;simp only[dD] at wb;exact f_ c (a9N hu (c.ar hx an) (c.se mM hl) (c.se Cn qX) (g7 wb.1) (g7 wb.2))
 ·cases aa
end
section
variable {P:Program}{env:Env}{J:ad}{w:World}{m:Nat->Option Nat}{B:Nat}{f:Nat}{ao:a1 AV}{a:Act}{o:Oper}{cH:AOp}{v:AV}{ai:ad}
def Kf{b:Builtin}{xs:Array Operand}{mi:Array TypeId}(ho:o.op= .call {callee:=.builtin b,args:=xs,argTypes:=mi}):
  execOp a.eval o=builtin b mi o.type (xs.map fun| .const _=>true|_=>false) (xs.map a.eval):=by
 unfold execOp;rw[ho];rfl
def b1I{e:TypeId}{z:AV}{n:Nat}(a_:zeroOf P e=some z)(hn:z.cells.length=n):∃i xE,P.info? e=some i/\i.zero=some xE/\xE.cells.size=n:=by
 unfold zeroOf at a_;split at a_<;>try (cases a_;done)
 rename_i i hi;split at a_<;>try (cases a_;done)
 rename_i xE aq;have:=(R.ofValue (w:=(default:World)) (m:=λ_=>none) (O:=λ_=>False) (B:=0) a_).cells.1;exact⟨i,xE,hi,aq,by simp at this;omega⟩
def b1J{t:TypeId}(h:isText P t=true):(∃d_,P.underlying t=some (.slice d_))\/P.underlying t=some .string:=by
 unfold isText at h;split at h
 ·exact .inl ⟨_,by assumption⟩
 ·exact .inr (by assumption)
 ·cases h
def b1K{w:World}{m:Nat->Option Nat}{O:Nat->Prop}{B:Nat}{u:Value}(h:R w m O B .nilsl u):u= .slice none 0 0:=by cases h;rfl
def b1L{t:TypeId}(h:isInt P t=true):∃k,P.underlying t=some (.int k):=by
 unfold isInt at h;split at h
 ·exact⟨_,by assumption⟩
 ·cases h
def Kg{α:Type}{x:Array α}{p q:α}(h:x.toList=[p,q]):x= #[p,q]:=by
 apply om;simpa using h
def we{α:Type}{x:Array α}{p:α}(h:x.toList=[p]):x= #[p]:=by
 apply om;simpa using h
def QJ{α β:Type}(g:α->β)(x y:α):(#[x,y]:Array α).map g= #[g x,g y]:=by simp
def Kh{α β:Type}(g:α->β)(x:α):(#[x]:Array α).map g= #[g x]:=by simp
def E4{w:World}{m:Nat->Option Nat}{O:Nat->Prop}{B:Nat}:R w m O B dF (.tuple #[]):=.bg I λi h=>by simp at h
def b1M(c:Ctx P env J w m B ao a){b:Builtin}{xs:Array Operand}{mi:Array TypeId}(ho:o.op= .call {callee:=.builtin b,args:=xs,argTypes:=mi})(aa:cop P o=some cH)(h:opx f (evalA env ao) J cH=some (.val v ai)):fT P B f J w m v ai ((execOp a.eval o).run P w):=by
 rw[Kf ho];simp only[cop,ho] at aa;split at aa
 ·-- append
  rename_i s x t u dG q7;obtain rfl:=Kg dG;rw[QJ a.eval];obtain rfl:=Kg q7;simp only[eA,dZ] at aa;obtain⟨⟨e,ab⟩,he,i,hi,z,a_,aa⟩:=aa;split at aa
  ·rename_i gH;simp only[dZ,eM,cJ] at aa;obtain⟨as,al,bW,hx,rfl⟩:=aa;obtain⟨hu,jc⟩:=Cm he;simp only[opx] at h;split at h<;>try (cases h;done)
   rename_i q8 Ck uJ jh;split at h<;>cases h;rename_i QK;obtain⟨nk,xE,dh,zF,xB⟩:=b1I a_ gH.2.2;rw[hi] at dh;cases dh;obtain⟨_,_,i2,ot,cz⟩:=me jc w;rw[hi] at ot;cases ot;exact sf (b0s c.rel hu hi cz zF xB gH.2.1 (b1J gH.1) (c.ar al uJ) (c.ar hx jh) QK)
  ·split at aa<;>try (cases aa;done)
   rename_i gH;simp only[dZ,eM,cJ] at aa;obtain⟨as,al,bW,hx,rfl⟩:=aa;obtain⟨hu,jc⟩:=Cm he;obtain⟨et,uK⟩:=b1L gH.1;simp only[opx] at h;split at h<;>try (cases h;done)
   ·cases aS:Nat.beq (AV.fx::z.cells).length (shN ab) with
    |false=>rw[aS] at h;cases h
    |true=>have lZ:=gE aS;rw[fw,gH.2.2.1] at lZ;exact absurd lZ.symm (Nat.ne_of_lt (mD _))
   ·rename_i bj q jh tf;cases aS:(Nat.beq (AV.fx::z.cells).length (Nat.succ (shN ab))&&(Nat.blt 0 q&&Nat.ble ((3*q+2000)*i.bytes) 281474976710656)) with
    |false=>rw[aS] at h;cases h
    |true=>
     rw[aS,cond_true] at h;cases h;simp only[dD] at aS;have aM:=b1K (c.ar al jh);have aU:=(c.ar hx tf).nm;rw[aM,aU];exact sf (b0S c.rel f hu uK jc hi a_ gH.2.2.1 gH.2.1 gH.2.2.2 (by simpa only[hC] using aS.2.1) (g7 aS.2.2))
 ·-- len
  rename_i x t dG q7;obtain rfl:=we dG;rw[Kh a.eval];obtain rfl:=we q7;split at aa
  ·rename_i n e ht;cases aa;simp only[opx] at h;cases h;exact f_ c ⟨_,b0x ht _,.i _ _⟩
  all_goals try (cases aa;done)
  all_goals
   rename_i ht;simp only[fA] at aa;obtain⟨bW,hx,rfl⟩:=aa;simp only[opx] at h;split at h<;>try (cases h;done)
   rename_i jh;split at h
   case h_2=>cases EU h
   rename_i cy hn;cases h
  ·exact f_ c ⟨_,Qi c.rel (.inr (.inl ⟨rfl,ht⟩)) (c.ar hx jh) hn,.i _ _⟩
  ·exact f_ c ⟨_,Qi c.rel (.inl ⟨rfl,_,ht⟩) (c.ar hx jh) hn,.i _ _⟩
  ·exact f_ c ⟨_,Qi c.rel (.inr (.inr ⟨rfl,_,_,ht⟩)) (c.ar hx jh) hn,.i _ _⟩
 ·-- cap
  rename_i x t dG q7;obtain rfl:=we dG;rw[Kh a.eval];obtain rfl:=we q7;split at aa<;>try (cases aa;done)
  rename_i ht;simp only[fA] at aa;obtain⟨bW,hx,rfl⟩:=aa;simp only[opx] at h;split at h<;>try (cases h;done)
  rename_i jh;split at h<;>cases h;rename_i hn;exact f_ c ⟨_,b0y ht (c.ar hx jh) hn,.i _ _⟩
 ·-- copy
  split at aa<;>try (cases aa;done)
  rename_i x t dG q7 _ e ab he;obtain rfl:=we dG;rw[Kh a.eval];obtain rfl:=we q7;simp only[eA,dZ] at aa;obtain⟨z,a_,aa⟩:=aa;split at aa<;>try (cases aa;done)
  simp only[dZ,eM,cJ] at aa;obtain⟨bW,hx,rfl⟩:=aa;obtain⟨hu,jc⟩:=Cm he;obtain⟨eJ,ju,lV,nQ⟩:=s8 a_ w;simp only[opx] at h;split at h<;>try (cases h;done)
  ·rename_i jh _;cases h;have hR:=c.ar hx jh;generalize a.eval x=u at hR ⊢;cases hR;exact f_ c ⟨_,by simp[Builtin.clear_,run_underlying hu],E4⟩
  ·rename_i id off len iD YY b1N jh zF;have b1O:b1N=z.cells:=by cases zF;rfl
   subst b1O;split at h<;>try (cases h;done)
   rename_i du hg;split at h<;>cases h;rename_i bc cq;have hR:=c.ar hx jh;generalize a.eval x=u at hR ⊢;cases hR with
   |ao hm hlen mh hn ng=>
   have zG:=(lV w m (bq J m) B).cells;have gQ:=B9 zG (len+1);have b1P:f<=id:=Nat.le_of_not_lt λh=>by rw[show Nat.blt id f=true from kE h] at du;cases du
   obtain⟨av,aM,aU,c3⟩:=P0 (f:=f) c.rel b1P hm hg cq gQ (B_ nQ (len+1));refine sf ⟨_,av,m,?_,E4,aU,c3⟩;have hh:(Builtin.zeroCells eJ.cells (len+1)).toList=(List.range ((len+1)*eJ.cells.toList.length)).map λi=>eJ.cells.toList[i%eJ.cells.toList.length]! :=by
    simp only[Builtin.zeroCells,vM,ze,ug];exact pd λi _=>by simp only[getElem!_def,nJ]
   rw[<-hh] at aM;simp[Builtin.clear_,run_underlying hu,ju,aM]
  ·rename_i jh _;cases h;have hR:=c.ar hx jh;generalize a.eval x=u at hR ⊢;cases hR;exact f_ c ⟨_,by simp[Builtin.clear_,run_underlying hu],E4⟩
  ·rename_i jh _;cases h;have hR:=c.ar hx jh;generalize a.eval x=u at hR ⊢;cases hR
   ·exact f_ c ⟨_,by simp[Builtin.clear_,run_underlying hu],E4⟩
   ·exact f_ c ⟨_,by simp[Builtin.clear_,run_underlying hu],E4⟩
 ·rename_i x y dG;obtain rfl:=Kg dG;rw[QJ a.eval];simp only[eA,dZ,eM,cJ] at aa;obtain⟨bW,hx,eN,hy,rfl⟩:=aa;simp only[opx] at h;split at h<;>try (cases h;done)
  rename_i k n l q jh tf;split at h<;>cases h;rename_i r7;subst r7;have:=(Yn (P:=P) (w:=w) (c.ar hx jh) (c.ar hy tf) o.type mi).1;exact f_ c ⟨_,this,.i _ _⟩
 ·rename_i x y dG;obtain rfl:=Kg dG;rw[QJ a.eval];simp only[eA,dZ,eM,cJ] at aa;obtain⟨bW,hx,eN,hy,rfl⟩:=aa;simp only[opx] at h;split at h<;>try (cases h;done)
  rename_i k n l q jh tf;split at h<;>cases h;rename_i r7;subst r7;have:=(Yn (P:=P) (w:=w) (c.ar hx jh) (c.ar hy tf) o.type mi).2;exact f_ c ⟨_,this,.i _ _⟩
 ·cases aa;simp[opx] at h
 ·simp only[fA] at aa;obtain⟨bW,hx,rfl⟩:=aa;simp only[opx] at h;split at h<;>cases h
 ·cases aa
def b1Q(c:Ctx P env J w m B ao a){t:TypeId}{x y:Operand}(ho:o.op= .makeSlice t x y)(aa:cop P o=some cH)(h:opx f (evalA env ao) J cH=some (.val v ai)):fT P B f J w m v ai ((execOp a.eval o).run P w):=by
 simp only[cop,ho,eA,dZ] at aa;obtain⟨⟨e,ab⟩,he,z,a_,i,hi,aa⟩:=aa;split at aa<;>try (cases aa;done)
 rename_i xB;simp only[dZ,eM,cJ] at aa;obtain⟨bW,hx,eN,hy,rfl⟩:=aa;obtain⟨hu,al⟩:=Cm he;simp only[opx] at h;split at h<;>try (cases h;done)
 ·rename_i bl n bj q jh tf;cases aS:(Nat.beq z.cells.length (shN ab)&&(Nat.ble n q&&(Nat.ble (i.bytes*q) 281474976710656&&Nat.ble q 281474976710656))) with
  |false=>rw[aS] at h;cases h
  |true=>
   rw[aS,cond_true] at h;cases h;simp only[dD,Qy] at aS;have aM:=(c.ar hx jh).nm;have aU:=(c.ar hy tf).nm;simp only[execOp,ho,aM,aU];exact sf (b0P c.rel f hu al hi a_ xB aS.2.1 aS.2.2.1 aS.2.2.2)
 ·rename_i bj q jh tf;cases aS:Nat.beq z.cells.length (Nat.succ (shN ab)) with
  |false=>rw[aS] at h;cases h
  |true=>have lZ:=gE aS;rw[xB] at lZ;exact absurd lZ (Nat.ne_of_lt (mD _))
def b1R(c:Ctx P env J w m B ao a){t:TypeId}{x:Operand}(ho:o.op= .range t x)(aa:cop P o=some cH)(h:opx f (evalA env ao) J cH=some (.val v ai)):fT P B f J w m v ai ((execOp a.eval o).run P w):=by
 simp only[cop,ho] at aa;split at aa<;>try (cases aa;done)
 rename_i jT xJ hu;simp only[fA] at aa;obtain⟨bW,hx,rfl⟩:=aa;simp only[opx] at h;simp only[execOp,ho];split at h<;>try (cases h;done)
 ·rename_i aq;cases h;exact sf (YD c.rel f hu (c.ar hx aq) I)
 ·rename_i id aq;split at h<;>cases h;rename_i es bm hg;exact sf (YD c.rel f hu (c.ar hx aq) ⟨_,_,hg,rfl⟩)
def b1S(c:Ctx P env J w m B ao a){x:Operand}(ho:o.op= .next x false)(aa:cop P o=some cH)(h:opx f (evalA env ao) J cH=some (.val v ai)):fT P B f J w m v ai ((execOp a.eval o).run P w):=by
 simp only[cop,ho,fA] at aa;obtain⟨bW,hx,rfl⟩:=aa;simp only[opx] at h;simp only[execOp,ho];split at h<;>try (cases h;done)
 rename_i it aq;obtain⟨aG,hm,oy⟩:=(c.ar hx aq).xA;rw[oy];split at h<;>try (cases h;done)
 rename_i du;have q1:f<=it:=by simpa [hC] using du
 split at h<;>try (cases h;done)
 ·rename_i since seen hP hg;cases h;exact f_ c ⟨_,b1c c.rel hm hg o.type,R.vV (bQ.cons (.b false) bQ.nil)⟩
 ·rename_i id since seen hP hg;split at h<;>try (cases h;done)
  rename_i es bm fi;cases aS:(Nat.beq bm since&&Nat.beq hP since&&cN (λ(e:AV×AV×Nat)=>Nat.blt e.2.2 since) es) with
  |false=>rw[aS] at h;cases h
  |true=>
   rw[aS,cond_true] at h;simp only[dD,p8] at aS;obtain⟨⟨rfl,rfl⟩,hall⟩:=aS;split at h<;>cases h;rename_i wc;rcases YG (f:=f) c.rel q1 hm hg fi (λe he=>by have:=pw hall e he;simpa [hC] using this) o.type with⟨_,h2⟩|⟨e,he,_⟩
   ·exact f_ c ⟨_,h2,R.vV (bQ.cons (.b false) bQ.nil)⟩
   ·rw[wc] at he;cases he
def b1T(c:Ctx P env J w m B ao a){x:Operand}(ho:o.op= .entry x)(aa:cop P o=some cH)(h:opx f (evalA env ao) J cH=some (.val v ai)):fT P B f J w m v ai ((execOp a.eval o).run P w):=by
 simp only[cop,ho,fA] at aa;obtain⟨bW,hx,rfl⟩:=aa;simp only[opx] at h;simp only[execOp,ho];split at h<;>try (cases h;done)
 rename_i it aq;obtain⟨aG,hm,oy⟩:=(c.ar hx aq).xA;rw[oy];split at h<;>try (cases h;done)
 rename_i id since seen hP hg;split at h<;>try (cases h;done)
 rename_i es bm fi;cases aS:Nat.beq bm hP with
 |false=>rw[aS] at h;cases h
 |true=>
  rw[aS,cond_true] at h;obtain rfl:=gE aS;split at h<;>try (cases h;done)
  rename_i q5 hl;split at h<;>cases h;rename_i e he;exact f_ c (b1b c.rel hm hg fi hl he)
def R.b1U{w:World}{m:Nat->Option Nat}{O:Nat->Prop}{B:Nat}{ex:List (List Nat)}{u:Value}(h:R w m O B (.iQ ex) u):∃s,u= .string s:=by cases h;exact⟨_,rfl⟩
def YZ{k:Nat}{bW:aJ}(aa:cop P o=some (.len k bW)):∃x t as mi,o.op= .call {callee:=.builtin .len,args:=as,argTypes:=mi}/\as.toList=[x]/\mi.toList=[t]/\opdOf x=some bW/\(k=0->P.underlying t=some .string):=by
 unfold cop at aa;split at aa
 all_goals first
  |(cases aa;done)
  |(
    exfalso
    (repeat' first
     |(cases aa;done)
     |(simp only[fA,reduceCtorEq,and_false,exists_false] at aa;done)
     |(simp only[eA,dZ,eM,cJ,reduceCtorEq,and_false,exists_false] at aa;done)
     |split at aa
     |(obtain⟨_,_,aa⟩:=aa)
     |(simp only[eA,dZ,eM,cJ] at aa))
    done)
  |(
    rename_i ho;split at aa
    all_goals first
     |(cases aa;done)
     |(
      exfalso
      (repeat' first
       |(cases aa;done)
       |(simp only[fA,reduceCtorEq,and_false,exists_false] at aa;done)
       |(simp only[eA,dZ,eM,cJ,reduceCtorEq,and_false,exists_false] at aa;done)
       |split at aa
       |(obtain⟨_,_,aa⟩:=aa)
       |(simp only[eA,dZ,eM,cJ] at aa))
      done)
     |(
      rename_i dG q7;split at aa
      all_goals first
       |(cases aa;done)
       |(
         rename_i ht;simp only[fA] at aa;obtain⟨aQ,h1,aa⟩:=aa;cases aa;exact⟨_,_,_,_,ho,dG,q7,h1,λaB=>by first|exact ht|cases aB⟩)))
def b1V{k:Nat}{bW:aJ}(aa:cop P o=some (.len k bW)):∀c,o.op≠ .defer c:=λc hd=>by
 obtain⟨x,t,as,mi,ho,_⟩:=YZ aa;rw[ho] at hd;cases hd
def b1W{l:List (AV×ad)}{k:Nat}{bW:aJ}(c:Ctx P env J w m B ao a)(aa:cop P o=some (.len k bW))(h:opx f (evalA env ao) J (.len k bW)=some (.kG l)):∃p∈l,fT P B f J w m p.1 p.2 ((execOp a.eval o).run P w):=by
 obtain⟨x,t,as,mi,ho,has,q7,hx,ht⟩:=YZ aa;obtain rfl:=we has;obtain rfl:=we q7;simp only[opx] at h;split at h<;>try (cases h;done)
 rename_i p an;split at h
 ·cases h
 obtain⟨rfl,ex,rfl,e⟩:=Ym h;injection e with e
 subst e;obtain⟨s,al⟩:=(c.ar hx an).b1U;have ht:=ht I;refine⟨(.jr (decide ((40:Int)<Int.ofNat s.size)),J),by cases decide ((40:Int)<Int.ofNat s.size)<;>simp,?_⟩;rw[Kf ho,Kh a.eval,al];refine f_ c ⟨.int .i64 (Int.ofNat s.size),?_,.jr _ I⟩;simp[builtin,Builtin.len_,run_underlying ht,goInt]
def b1X{l:List (AV×ad)}(c:Ctx P env J w m B ao a)(aa:cop P o=some cH)(h:opx f (evalA env ao) J cH=some (.kG l)):(∀c,o.op≠ .defer c)/\∃p∈l,fT P B f J w m p.1 p.2 ((execOp a.eval o).run P w):=by
 have QL:(∃k bW,cH= .len k bW)\/∃bW,cH= .vP bW:=by
  cases cH<;>simp only[opx] at h
  all_goals first
   |(exact .inl ⟨_,_,rfl⟩)
   |(exact .inr ⟨_,rfl⟩)
   |(cases h;done)
   |(exfalso;repeat' first|(cases h;done)|split at h|(simp only[Cl] at h))
 rcases QL with⟨k,bW,rfl⟩|⟨bW,rfl⟩
 ·exact⟨b1V aa,b1W c aa h⟩
 have b1Y:∃x,o.op= .next x false/\opdOf x=some bW:=by
  unfold cop at aa;split at aa
  all_goals first
   |(cases aa;done)
   |(rename_i ho;simp only[fA] at aa;obtain⟨y,hy,he⟩:=aa;cases he;exact⟨_,ho,hy⟩)
   |(
     exfalso
     repeat' first
      |(cases aa;done)
      |(simp only[fA,reduceCtorEq,and_false,exists_false] at aa;done)
      |(simp only[eA,dZ,eM,cJ,reduceCtorEq,and_false,exists_false] at aa;done)
      |split at aa
      |(obtain⟨_,_,aa⟩:=aa)
      |(simp only[eA,dZ,eM,cJ] at aa))
 obtain⟨x,ho,hx⟩:=b1Y;refine⟨λc hd=>(by rw[ho] at hd;cases hd),?_⟩;simp only[opx] at h;simp only[execOp,ho];split at h<;>try (cases h;done)
 rename_i it aq;obtain⟨aG,hm,oy⟩:=(c.ar hx aq).xA;rw[oy];split at h<;>try (cases h;done)
 rename_i du;have q1:f<=it:=by simpa [hC] using du
 split at h<;>try (cases h;done)
 rename_i id since seen hP hg;split at h<;>try (cases h;done)
 rename_i es bm fi;cases aS:(Nat.beq bm since&&Nat.beq hP since&&cN (λ(e:AV×AV×Nat)=>Nat.blt e.2.2 since) es) with
 |false=>rw[aS] at h;cases h
 |true=>
  rw[aS,cond_true] at h;simp only[dD,p8] at aS;obtain⟨⟨rfl,rfl⟩,hall⟩:=aS;split at h<;>cases h;rename_i aY;rcases YG (f:=f) c.rel q1 hm hg fi (λe he=>by have:=pw hall e he;simpa [hC] using this) o.type with⟨h1,_⟩|⟨e,he,u,av,h2,h3,aH,bT⟩
  ·exact absurd h1 aY
  ·exact⟨_,cT.2 ⟨e,he,rfl⟩,sf ⟨u,av,m,h2,h3,aH,bT⟩⟩
def Co(c:Ctx P env J w m B ao a)(aa:cop P o=some cH)(h:opx f (evalA env ao) J cH=some (.val v ai)):fT P B f J w m v ai ((execOp a.eval o).run P w):=by
 have e6:=aa;unfold cop at aa;split at aa
 all_goals first|(cases aa;done)|skip
 all_goals first
  |(rename_i ho;first
    |exact YJ c (.inl ho) e6 h|exact YJ c (.inr ho) e6 h|exact b1f c ho e6 h|exact b1g c ho e6 h|exact b1h c ho e6 h|exact b1u c ho e6 h
    |exact b1w c ho e6 h|exact YU c (.inl ho) e6 h|exact YU c (.inr ho) e6 h|exact b1i c ho e6 h|exact b1j c ho e6 h|exact b1k c ho e6 h
    |exact b1o c ho e6 h|exact b1l c ho e6 h|exact b1p c ho e6 h|exact b1r c ho e6 h|exact b1s c ho e6 h|exact b1t c ho e6 h
    |exact b1F c ho e6 h|exact b1x c ho e6 h|exact b1y c ho e6 h|exact b1z c ho e6 h|exact b1A c ho e6 h|exact b1B c ho e6 h
    |exact b1C c ho e6 h|exact b1D c ho e6 h|exact b1M c ho e6 h)
  |skip
 ·rename_i ho;exact b1Q c ho e6 h
 ·rename_i ho;exact b1R c ho e6 h
 ·rename_i ho;exact b1S c ho e6 h
 ·rename_i ho;exact b1T c ho e6 h
 ·simp only[eA,dZ,eM,cJ] at aa;obtain⟨ac,q9,b6,mM,rfl⟩:=aa;simp only[opx] at h;split at h<;>cases h
 ·simp only[eA,dZ,eM,cJ] at aa;obtain⟨ac,q9,b6,mM,rfl⟩:=aa;simp only[opx] at h;split at h<;>cases h
 ·simp only[fA] at aa;obtain⟨bW,hx,rfl⟩:=aa;simp only[opx] at h;split at h<;>cases h
end
def b1Z{α β:Type}(f:α->Option (List β))(x:α)(xs:List α):k5 f (x::xs)=match f x with|none=>none|some a=>match k5 f xs with|none=>none|some b=>some (a++b):=by
 cases xs with
 |nil=>show f x=_;cases f x<;>simp[k5]
 |cons y ba=>rfl
def QM{α β:Type}{f:α->Option (List β)}:∀ {l:List α} {out:List β},k5 f l=some out->∀x∈l,∃o,f x=some o/\∀y∈o,y∈out
 |[],_,_,x,hx=>by cases hx
 |x::l,out,h,y,hy=>by
  rw[b1Z] at h;cases hf:f x with
  |none=>rw[hf] at h;cases h
  |some a=>
   rw[hf] at h;cases hl:k5 f l with
   |none=>rw[hl] at h;cases h
   |some b=>
    rw[hl] at h;cases h;rcases c2.1 hy with rfl|hy
    ·exact⟨a,hf,λz a_=>zI _ a_⟩
    ·obtain⟨o,h1,h2⟩:=QM hl y hy;exact⟨o,h1,λz a_=>Kb _ (h2 z a_)⟩
def xL{α β:Type}{r:Option (List α)}{f:α->Option (List β)}{out:List β}(h:ks r f=some out):∃l,r=some l/\∀x∈l,∃o,f x=some o/\∀y∈o,y∈out:=by
 cases r with
 |none=>cases h
 |some l=>exact⟨l,rfl,QM h⟩
def fL(r:Option Nat):Fence:={fn:=λ_=>True,depth:=none,alive:=false,round:=r}
def Cp(w:World)(m:Nat->Option Nat)(O:Nat->Prop)(B:Nat):(Nat ⊕ (AV×List AV))->Deferred->Prop
 | .inl id,d=>∃aG,m id=some aG/\d={target:=.collected aG,args:=#[]}
 | .inr (bG,args),d=>∃g a6 cs hF fJ us,bG= .f (.func g) a6 cs/\d={target:=.fn (.func g) fJ,args:=hF++us}/\bQ w m O B a6 hF.toList/\bQ w m O B cs fJ.toList/\bQ w m O B args us.toList
structure e_(P:Program)(env:Env)(ae:Fr)(a:Act)(J:ad)(w:World)(m:Nat->Option Nat)(B:Nat):Prop where
 ctx:Ctx P env J w m B ae.bk a
 defs:jW (Cp w m (bq J m) B) ae.defers a.defers
def tg(w:World)(m:Nat->Option Nat)(O:Nat->Prop)(B:Nat):ee->Ending->Prop
 | .ok v,.returned u=>R w m O B v u
 | .err v,.panicked pz=>∃u,pz=[{v:=u,recovered:=false}]/\R w m O B v u
 |_,_=>False
def ExR(w:World)(m:Nat->Option Nat)(O:Nat->Prop)(B:Nat):hE->Exit->Prop
 | .normal,.normal=>True
 | .exit i,.exit j=>i=j
 | .ret,.ret=>True
 | .panic v,.panic pz=>∃u,pz=[{v:=u,recovered:=false}]/\R w m O B v u
 |_,_=>False
def CallRes(P:Program)(F:Fence)(n:Nat)(u:Value)(us:Array Value)(w:World)(R:Ending->World->Prop):Prop:=
 ∃d,(∀av,(Deferred.ofValue u us).run P av= .ok d av)∧
  match(invoke d.target d.args).run P w with
  | .ok (.enter f args) av=>CallsIn F n P f args av R
  | .ok (.round l f tmps as b) av=>RoundIn F n P l f tmps as b av R
  | .ok (.value v) av=>R (.returned v) av
  |_=>False
section
variable {P:Program}{env:Env}{J ai:ad}{w av:World}{m aP:Nat->Option Nat}{B f:Nat}
def Globs.ext(dt:Globs env w B)(h:Ext f J w m ai av aP)(ak:Rel P J w m B):Globs env av B:=λg v hg eG=>
 (dt g v hg eG).mono (λ_ _ h=>h) h.size h.bV (λb hb cv=>⟨h.aD b hb (λ⟨_,_,h1,_⟩=>cv (ak.base _ _ h1)),cv⟩)
def Cp.ext{d:Nat ⊕ (AV×List AV)}{iE:Deferred}(hd:Cp w m (bq J m) B d iE)(h:Ext f J w m ai av aP)(ak:Rel P J w m B):Cp av aP (bq ai aP) B d iE:=by
 cases d with
 |inl id=>obtain⟨aG,h1,h2⟩:=hd;exact⟨aG,h.mono _ _ h1,h2⟩
 |inr p=>obtain⟨g,a6,cs,hF,fJ,us,h1,h2,h3,aH,bT⟩:=hd;exact⟨g,a6,cs,hF,fJ,us,h1,h2,h3.ext h ak,aH.ext h ak,bT.ext h ak⟩
def E5{α β:Type}{r bR:α->β->Prop}(h:∀x y,r x y->bR x y):∀ {l:List α} {bD:List β},jW r l bD->jW bR l bD
 |[],[],_=>trivial
 |[],_::_,h'=>h'.elim
 |_::_,[],h'=>h'.elim
 |_::_,_::_,h'=>⟨h _ _ h'.1,E5 h h'.2⟩
def Ctx.ext{ao:a1 AV}{a:Act}(c:Ctx P env J w m B ao a)(h:Ext f J w m ai av aP)(q3:Rel P ai av aP B):Ctx P env ai av aP B ao a:=
 ⟨q3,c.bk.ext h c.rel,Globs.ext c.globs h c.rel⟩
def e_.ext{ae:Fr}{a:Act}(s:e_ P env ae a J w m B)(h:Ext f J w m ai av aP)(q3:Rel P ai av aP B):e_ P env ae a ai av aP B:=
 ⟨s.ctx.ext h q3,E5 (λ_ _ hd=>hd.ext h s.ctx.rel) s.defs⟩
def jU.put{O:Nat->Prop}{ao:a1 AV}{tmps:Array Value}(h:jU w m O B ao tmps.toList)(d:Nat){v:AV}{u:Value}(aq:R w m O B v u):jU w m O B (ao.set d v) (tmps.setIfInBounds d u).toList:=by
 refine⟨λi x hx=>?_,λi hx=>?_⟩
 ·rw[a1.kf] at hx;rw[nJ];by_cases hi:i=d
  ·subst hi;rw[if_pos I] at hx;cases hg:ao.get i with
   |none=>rw[hg] at hx;cases hx
   |some y=>
    rw[hg] at hx;cases hx;obtain⟨Y0,h1,_⟩:=h.1 i y hg;rw[nJ] at h1;have hlt:=(zc.1 h1).1;exact⟨u,by simp[Jz,hlt],aq⟩
  ·rw[if_neg hi] at hx;obtain⟨Y0,h1,h2⟩:=h.1 i x hx;rw[nJ] at h1;exact⟨Y0,by rw[Pt (λe=>hi e.symm)];exact h1,h2⟩
 ·rw[a1.kf] at hx;rw[nJ];have hg:ao.get i=none:=by
   by_cases hi:i=d
   ·subst hi;rw[if_pos I] at hx;cases hg:ao.get i with
    |none=>rfl
    |some y=>rw[hg] at hx;cases hx
   ·rw[if_neg hi] at hx;exact hx
  have h1:=h.2 i hg;rw[nJ] at h1;have:=Array.getElem?_eq_none_iff.1 h1;exact BT (by simpa using this)
def b2a{O:Nat->Prop}{ao:a1 AV}{a:Act}(h:jU w m O B ao a.tmps.toList)(d:Nat){v:AV}{u:Value}(aq:R w m O B v u):jU w m O B (ao.set d v) (a.put (some d) u).tmps.toList:=
 h.put d aq
def e_.put{ae:Fr}{a:Act}(s:e_ P env ae a J w m B)(d:Option Nat){v:AV}{u:Value}(aq:R w m (bq J m) B v u):e_ P env (ae.put d v) (a.put d u) J w m B:=by
 cases d with
 |none=>exact s
 |some d=>exact⟨⟨s.ctx.rel,b2a s.ctx.bk d aq,s.ctx.globs⟩,s.defs⟩
def Ki{ops:Array Oper}{o:Oper}{aT:a2}{O:Nat->Prop}{ao:a1 AV}{tmps:Array Value}(aa:coper P ops o=some aT)(al:jU w m O B ao tmps.toList):Region.wanted o (yielded ops tmps)=wantedA aT.guard ao:=by
 unfold coper at aa;split at aa<;>cases aa;rename_i g hg;unfold guardOf at hg;unfold Region.wanted wantedA;split at hg
 ·rename_i xM;cases hg;simp[xM]
 ·rename_i j wt xM;split at hg<;>cases hg;rename_i d hd;simp only[xM,yielded,hd,Option.bind_some];cases fM:ao.get d with
  |none=>
   have:=al.2 d fM;rw[nJ] at this;simp[this]
  |some v=>
   obtain⟨u,hu,kK⟩:=al.1 d v fM;rw[nJ] at hu;simp only[hu];cases kK with
   |y h=>rcases h.alt with⟨_,_,rfl⟩|⟨_,rfl⟩<;>simp
   |gP hu h=>subst hu;simp
   |_=>simp
def QN{c:Callee}{ac:uq}(aa:calleeOf c=some ac){ao:a1 AV}{a:Act}(ctx:Ctx P env J w m B ao a){bG:AV}(aq:calleeV (evalA env ao) ac=some bG):
  ∃x,c= .value x/\R w m (bq J m) B bG (a.eval x):=by
 unfold calleeOf at aa;split at aa
 ·cases aa;cases aq;exact⟨_,rfl,.cC I (λi h=>by simp at h) I (λi h=>by simp at h)⟩
 ·split at aa<;>cases aa;rename_i hx;exact⟨_,rfl,ctx.ar hx aq⟩
 ·cases aa
def Y1{F:Fence}{n:Nat}{o:Oper}{a:Act}{x:Operand}{c:Call}(ho:o.op= .call c)(eD:c.callee= .value x){us:Array Value}(mL:c.args.map a.eval=us)(bL:∀f,F.fn f)(hd:F.depth=none)
  {R:Ending->World->Prop} (h:CallRes P F (n-1) (a.eval x) us w R) {next:Act->World->Prop} {Q:Exit->Act->World->Prop}
  (hR:∀e av,R e av->match e with| .returned v=>next (a.put o.dst v) av| .panicked pz=>Q (.panic pz) a av| .outgrown=>False):o.wpIn F n P a w next Q:=by
 obtain⟨d,h1,h2⟩:=h;have c0:∀av,(resolve a.eval c o.type).run P av= .ok d av:=λav=>by
  unfold resolve;rw[eD];simp only[mL];exact h1 av
 have he:(o.semAt F.round a.eval).run P w=(invoke d.target d.args).run P w:=by
  rw[v9 _ _ _ (λc aa=>by rw[ho] at aa;cases aa)];unfold execOp;rw[ho];simp only[e3,c0,e8]
 refine⟨λf _=>bL f,?_⟩;rw[he];generalize(invoke d.target d.args).run P w=res at h2;cases res with
 |halt h av=>exact h2.elim
 |ok wg av=>
  cases wg<;>try exact h2.elim
  ·exact hR _ _ h2
  ·exact⟨λal=>by rw[hd] at al;simp at al,E0 h2 (λe B4 ak=>by have:=hR e B4 ak;cases e<;>first|exact this|exact this.elim)⟩
  ·exact⟨λal=>by rw[hd] at al;simp at al,RoundIn.mono h2 (λe B4 ak=>by have:=hR e B4 ak;cases e<;>first|exact this|exact this.elim)⟩
def E6(P:Program)(env:Env)(B f:Nat)(r:Option Nat)(call:mG):Prop:=
 ∀bG args J k_,call bG args J=some k_->∀k w m u us,Rel P J w m B->Globs env w B->R w m (bq J m) B bG u->bQ w m (bq J m) B args us→
  CallRes P (fL r) k u us.toArray w (λe av=>∃ret ai,(ret,ai)∈k_/\∃aP,tg av aP (bq ai aP) B ret e/\Rel P ai av aP B/\Ext f J w m ai av aP)
def Y2{o:Oper}{c:uq}{args:List aJ}(h:cop P o=some (.call c args)):∃bm,o.op= .call bm/\calleeOf bm.callee=some c/\zl bm.args.toList=some args:=by
 unfold cop at h;split at h
 all_goals first
  |(cases h;done)
  |(simp only[fA,reduceCtorEq,and_false,exists_false] at h;done)
  |(simp only[eA,dZ,eM,cJ,reduceCtorEq,and_false,exists_false] at h;done)
  |(
    rename_i ho _;simp only[eA,dZ,eM,cJ] at h;obtain⟨ac,q9,b6,mM,he⟩:=h;cases he;exact⟨_,ho,q9,mM⟩)
  |(
    rename_i ho;simp only[eA,dZ,eM,cJ] at h;obtain⟨ac,q9,b6,mM,he⟩:=h;cases he;exact⟨_,ho,q9,mM⟩)
  |(
    exfalso
    repeat' first
     |(cases h;done)
     |(simp only[fA,reduceCtorEq,and_false,exists_false] at h;done)
     |(simp only[eA,dZ,eM,cJ,reduceCtorEq,and_false,exists_false] at h;done)
     |split at h
     |(obtain⟨_,_,h⟩:=h)
     |(simp only[eA,dZ,eM,cJ] at h))
def b2b{o:Oper}{c:uq}{args:List aJ}(h:cop P o=some (.mE c args)):∃bm,o.op= .defer bm/\calleeOf bm.callee=some c/\zl bm.args.toList=some args:=by
 unfold cop at h;split at h
 all_goals first
  |(cases h;done)
  |(simp only[fA,reduceCtorEq,and_false,exists_false] at h;done)
  |(simp only[eA,dZ,eM,cJ,reduceCtorEq,and_false,exists_false] at h;done)
  |(
    rename_i ho _;simp only[eA,dZ,eM,cJ] at h;obtain⟨ac,q9,b6,mM,he⟩:=h;cases he;exact⟨_,ho,q9,mM⟩)
  |(
    rename_i ho;simp only[eA,dZ,eM,cJ] at h;obtain⟨ac,q9,b6,mM,he⟩:=h;cases he;exact⟨_,ho,q9,mM⟩)
  |(
    exfalso
    repeat' first
     |(cases h;done)
     |(simp only[fA,reduceCtorEq,and_false,exists_false] at h;done)
     |(simp only[eA,dZ,eM,cJ,reduceCtorEq,and_false,exists_false] at h;done)
     |split at h
     |(obtain⟨_,_,h⟩:=h)
     |(simp only[eA,dZ,eM,cJ] at h))
end
section
variable {P:Program}{env:Env}{B f:Nat}
def Y3{o:Oper}{bW:aJ}(h:cop P o=some (.panic bW)):∃x,opdOf x=some bW/\(o.op= .panic x\/∃xs mi,o.op= .call {callee:=.builtin .panic,args:=xs,argTypes:=mi}/\xs.toList=[x]):=by
 unfold cop at h;split at h
 all_goals first
  |(cases h;done)
  |(simp only[fA,reduceCtorEq,and_false,exists_false] at h;done)
  |(simp only[eA,dZ,eM,cJ,reduceCtorEq,and_false,exists_false] at h;done)
  |(
    rename_i ho;simp only[fA] at h;obtain⟨ac,q9,he⟩:=h;cases he;exact⟨_,q9,.inl ho⟩)
  |skip
 all_goals first
  |(
    rename_i ho;split at h
    all_goals first
     |(cases h;done)
     |(
      simp only[fA] at h;obtain⟨ac,q9,he⟩:=h;cases he;rename_i dG;exact⟨_,q9,.inr ⟨_,_,ho,dG⟩⟩)
     |(
      exfalso
      repeat' first
       |(cases h;done)
       |(simp only[fA,reduceCtorEq,and_false,exists_false] at h;done)
       |(simp only[eA,dZ,eM,cJ,reduceCtorEq,and_false,exists_false] at h;done)
       |split at h
       |(obtain⟨_,_,h⟩:=h)
       |(simp only[eA,dZ,eM,cJ] at h)))
  |(
    exfalso
    repeat' first
     |(cases h;done)
     |(simp only[fA,reduceCtorEq,and_false,exists_false] at h;done)
     |(simp only[eA,dZ,eM,cJ,reduceCtorEq,and_false,exists_false] at h;done)
     |split at h
     |(obtain⟨_,_,h⟩:=h)
     |(simp only[eA,dZ,eM,cJ] at h))
def Y4{o:Oper}{a:Act}{x:Operand}(ho:o.op= .panic x\/∃xs mi,o.op= .call {callee:=.builtin .panic,args:=xs,argTypes:=mi}/\xs.toList=[x]){t:TypeId}{u:Value}(hx:a.eval x= .iface t u)(w:World):
  (execOp a.eval o).run P w= .halt (.panic (.iface t u)) w:=by
 rcases ho with ho|⟨xs,mi,ho,dG⟩
 ·simp[execOp,ho,hx,Instr.panic,goPanic]
 ·obtain rfl:=we dG;rw[Kf ho];simp[builtin,hx,Instr.panic,goPanic]
def xN{ar:aJ->Option AV}{J:ad}{op:AOp}{bG:AV}{args:List AV}(h:opx f ar J op=some (.call bG args)):∃c as,op= .call c as/\calleeV ar c=some bG/\mapO ar as=some args:=by
 cases op<;>simp only[opx] at h
 all_goals first
  |(cases h;done)
  |(
    rename_i c as;split at h<;>cases h;rename_i h1 h2;exact⟨c,as,rfl,h1,h2⟩)
  |(exfalso;repeat' first|(cases h;done)|(cases EU h;done)|split at h|(simp only[Cl] at h))
def b2c{ar:aJ->Option AV}{J:ad}{op:AOp}{bG:AV}{args:List AV}(h:opx f ar J op=some (.mE bG args)):∃c as,op= .mE c as/\calleeV ar c=some bG/\mapO ar as=some args:=by
 cases op<;>simp only[opx] at h
 all_goals first
  |(cases h;done)
  |(
    rename_i c as;split at h<;>cases h;rename_i h1 h2;exact⟨c,as,rfl,h1,h2⟩)
  |(exfalso;repeat' first|(cases h;done)|(cases EU h;done)|split at h|(simp only[Cl] at h))
def Y5{ar:aJ->Option AV}{J:ad}{op:AOp}{v:AV}(h:opx f ar J op=some (.panic v)):∃x t u,op= .panic x/\ar x=some (.it t u)/\v= .it t u:=by
 cases op<;>simp only[opx] at h
 all_goals first
  |(cases h;done)
  |(
    rename_i x;split at h<;>cases h;rename_i h1;exact⟨x,_,_,rfl,h1,rfl⟩)
  |(exfalso;repeat' first|(cases h;done)|(cases EU h;done)|split at h|(simp only[Cl] at h))
def Kj{o:Oper}{c:Call}{cH:AOp}(hd:o.op= .defer c)(h:cop P o=some cH):∃ac as,cH= .mE ac as:=by
 obtain⟨callee,args,c9n⟩:=c;unfold cop at h;rw[hd] at h;cases callee with
 |builtin b=>cases h
 |value x=>
  simp only[eA,dZ,eM,cJ] at h;obtain⟨ac,_,as,_,he⟩:=h;exact⟨ac,as,he.symm⟩
 |invoke x n=>
  simp only[eA,dZ,eM,cJ] at h;obtain⟨ac,_,as,_,he⟩:=h;exact⟨ac,as,he.symm⟩
def E7{o:Oper}{cH:AOp}(h:copB P o=cH)(hb:cH≠ .bad):cop P o=some cH:=by
 unfold copB at h;split at h
 ·subst h;assumption
 ·exact absurd h.symm hb
def Kk{ops:Array Oper}{o:Oper}{aT:a2}(h:coper P ops o=some aT):aT.op=copB P o/\aT.dst=o.dst:=by
 unfold coper at h;split at h<;>cases h;exact⟨rfl,rfl⟩
def zP(op:AOp)(floor:Nat)(ar:aJ->Option AV)(J:ad):ur op floor ar J=opx floor ar J op:=by
 cases op<;>rfl
def b2d(floor:Nat)(call:AV->List AV->ad->Option (ee×ad))(rc:Option AV)(dc:Bool)(ae:Fr)(J:ad):s4 env floor call rc dc [] ae J=some (.normal,ae,J):=rfl
def runOpsD_cons(floor:Nat)(call:AV->List AV->ad->Option (ee×ad))(rc:Option AV)(dc:Bool)(o:a2)(ops:List a2)(ae:Fr)(J:ad):s4 env floor call rc dc (o::ops) ae J=
  cond (wantedA o.guard ae.bk)
   (match o.op with
    | .recover=>match rc with
     |some v=>s4 env floor call rc dc ops (Fr.put ⟨ae.bk,ae.defers,true⟩ o.dst (cond ae.gv .fx v)) J
     |none=>none
    |op=>match opx floor (evalA env ae.bk) J op with
     |some (.val v J)=>s4 env floor call rc dc ops (ae.put o.dst v) J
     |some (.call bG args)=>match call bG args J with
      |some (.ok v,J)=>s4 env floor call rc dc ops (ae.put o.dst v) J
      |some (.err v,J)=>some (.panic v,ae,J)
      |none=>none
     |some (.mE bG args)=>cond (dc&&isFn bG) (s4 env floor call rc dc ops (Fr.put ⟨ae.bk,.inr (bG,args)::ae.defers,ae.gv⟩ o.dst dF) J) none
     |some (.panic v)=>some (.panic v,ae,J)
     |some (.kG _)=>none
     |none=>none)
   (s4 env floor call rc dc ops (ae.put o.dst dF) J):=by
 show cond (wantedA o.guard ae.bk) (cond o.op.isRec _ (match ur o.op floor (evalA env ae.bk) J with|some (.val v J)=>_|some (.call bG args)=>_|some (.mE bG args)=>_|some (.panic v)=>_|some (.kG _)=>_|none=>none)) _=_;rw[zP];rcases o with⟨dst,op,g,wn⟩
 cases op<;>rfl
def b2e(floor:Nat)(call:mG)(dc:Bool)(ae:Fr)(J:ad):runOps env floor call dc [] ae J=some [(.normal,ae,J)]:=rfl
def Cq(floor:Nat)(call:mG)(dc:Bool)(o:a2)(ops:List a2)(ae:Fr)(J:ad):runOps env floor call dc (o::ops) ae J=
  cond (wantedA o.guard ae.bk)
   (match opx floor (evalA env ae.bk) J o.op with
    |some (.val v J)=>runOps env floor call dc ops (ae.put o.dst v) J
    |some (.call bG args)=>ks (call bG args J) (λr=>match r with
     |(.ok v,J)=>runOps env floor call dc ops (ae.put o.dst v) J
     |(.err v,J)=>some [(.panic v,ae,J)])
    |some (.mE bG args)=>cond (dc&&isFn bG) (runOps env floor call dc ops (Fr.put ⟨ae.bk,.inr (bG,args)::ae.defers,ae.gv⟩ o.dst dF) J) none
    |some (.panic v)=>some [(.panic v,ae,J)]
    |some (.kG l)=>k5 (λp=>runOps env floor call dc ops (ae.put o.dst p.1) p.2) l
    |none=>none)
   (runOps env floor call dc ops (ae.put o.dst dF) J):=by
 show Bool.rec (motive:=λ_=>Option oo) (runOps env floor call dc ops (ae.p_ o.dst dF) J)
   (Option.rec (motive:=λ_=>Option oo) none (λr=>bO.rec (motive:=λ_=>Option oo)
    (λv J=>runOps env floor call dc ops (ae.p_ o.dst v) J)
    (λbG args=>ks (call bG args J) (λr=>match r with
     |(.ok v,J)=>runOps env floor call dc ops (ae.p_ o.dst v) J
     |(.err v,J)=>some [(.panic v,ae,J)]))
    (λbG args=>cond (dc&&isFn bG) (runOps env floor call dc ops (Fr.p_ ⟨ae.bk,.inr (bG,args)::ae.defers,ae.gv⟩ o.dst dF) J) none)
    (λv=>some [(.panic v,ae,J)])
    (λl=>k5 (λp=>runOps env floor call dc ops (ae.p_ o.dst p.1) p.2) l) r)
    (ur o.op floor (B1 env ae.bk) J))
   (JL o.guard ae.bk)=_
 rw[s7,XF,XG,PT,zP];cases opx floor (evalA env ae.bk) J o.op with
 |none=>rfl
 |some r=>cases r<;>rfl
def Y6{r:Option Nat}{call:mG}(sg:E6 P env B f r call){ops:Array Oper}{k:Nat}{dc:Bool}(hnd:dc=true->r=none):
  ∀(ol:List Oper) (b6:List a2) (ae:Fr) (J:ad) (outs:oo) (a:Act) (w:World) (m:Nat->Option Nat),mapOL (coper P ops) ol=some b6->runOps env f call dc b6 ae J=some outs->e_ P env ae a J w m B→
   ∀Q:Exit->Act->World->Prop,(∀e bZ ai,(e,bZ,ai)∈outs->∀x cF av aP,ExR av aP (bq ai aP) B e x->e_ P env bZ cF ai av aP B->Ext f J w m ai av aP->Q x cF av)->wpListIn (fL r) k P ops Q ol a w
 |[],b6,ae,J,outs,a,w,m,hm,h,st,Q,cc=>by
  simp[mapOL] at hm;subst hm;rw[b2e] at h;cases h;exact cc _ _ _ (cA.2 I) .normal a w m trivial st (Ext.refl _ _ _ _)
 |o::ol,b6,ae,J,outs,a,w,m,hm,h,st,Q,cc=>by
  rw[mapOL] at hm;split at hm<;>cases hm;rename_i aT E8 ho ow;obtain⟨dS,kg⟩:=Kk ho;rw[Cq] at h;rw[wpListIn,Ki ho st.ctx.bk];have next:∀ {ev:Fr} {aQ:Act} {bP:ad} {b4:World} {cV:Nat->Option Nat} {ef:oo},runOps env f call dc E8 ev bP=some ef->(∀y∈ef,y∈outs)->e_ P env ev aQ bP b4 cV B->Ext f J w m bP b4 cV->wpListIn (fL r) k P ops Q ol aQ b4:=
   λ{ev aQ bP b4 cV ef} h1 dM g3 dR=>Y6 sg hnd ol E8 ev bP ef aQ b4 cV ow h1 g3 Q (λe bZ ai eO x cF av aP hx cq hex=>cc e bZ ai (dM _ eO) x cF av aP hx cq (dR.trans st.ctx.rel hex))
  cases hw:wantedA aT.guard ae.bk with
  |false=>
   rw[hw,cond_false] at h;simp only[sX,if_false];refine⟨λf _=>trivial,next h (λ_ h=>h) ?_ (Ext.refl _ _ _ _)⟩;rw[kg];exact st.put _ R.undef
  |true=>
   rw[hw,cond_true] at h;simp only[if_true];generalize QL:aT.op=cH at h dS;have aa:∀res,opx f (evalA env ae.bk) J cH=some res->cop P o=some cH:=λres c0=>E7 dS.symm (λhb=>by subst hb;simp[opx] at c0);have zQ:∀v bP,opx f (evalA env ae.bk) J cH=some (.val v bP)->∀c,o.op≠ .defer c:=λv bP hx c hd=>by
    have hh:=Kj hd (aa _ hx);obtain⟨ac,as,rfl⟩:=hh;simp only[opx] at hx;split at hx<;>cases hx
   split at h
   ·-- a value
    rename_i v bP hx;have aB:=Co st.ctx (aa _ hx) hx;obtain⟨u,b4,cV,cd,hR,pA,dR⟩:=aB;have al:(o.semAt (fL r).round a.eval)=execOp a.eval o:=v9 _ _ _ (zQ _ _ hx);have cq:=(st.ext dR pA).put aT.dst hR;rw[kg] at cq h;refine⟨λf _=>trivial,?_⟩;rw[al];rcases cd with cd|⟨cd,rfl⟩
    ·rw[cd];exact next h (λ_ h=>h) cq dR
    ·rw[cd];exact next h (λ_ h=>h) cq dR
   ·-- a call
    rename_i bG args hx;obtain⟨c,as,rfl,hU,has⟩:=xN hx;obtain⟨bm,E9,E_,q_⟩:=Y2 (aa _ hx);obtain⟨x,jh,zR⟩:=QN E_ st.ctx hU;have Fa:=EL st.ctx.rel.zH st.ctx.globs st.ctx.bk q_ has;obtain⟨k_,eD,oA⟩:=xL h;have c0:=sg _ _ _ _ eD (k-1) w m _ _ st.ctx.rel st.ctx.globs zR Fa;refine Y1 E9 jh (us:=bm.args.map a.eval) I (λ_=>trivial) I (by
     have aM:(bm.args.toList.map a.eval).toArray=bm.args.map a.eval:=by apply om;simp
     rw[aM] at c0;exact c0) (λaM b4 ak=>?_)
    obtain⟨ret,bP,eO,cV,h1,h2,h3⟩:=ak;obtain⟨ef,eB,dM⟩:=oA _ eO;cases ret with
    |ok v=>
     cases aM with
     |returned u=>
      have cq:=(st.ext h3 h2).put aT.dst h1;rw[kg] at cq eB;exact next eB dM cq h3
     |panicked pz=>exact h1.elim
     |outgrown=>exact h1.elim
    |err v=>
     simp only[cJ] at eB;subst eB;cases aM with
     |returned u=>exact h1.elim
     |panicked pz=>exact cc _ _ _ (dM _ (cA.2 I)) _ _ _ cV h1 (st.ext h3 h2) h3
     |outgrown=>exact h1.elim
   ·-- a deferred call
    rename_i bG args hx;obtain⟨c,as,rfl,hU,has⟩:=b2c hx;obtain⟨bm,E9,E_,q_⟩:=b2b (aa _ hx);obtain⟨x,jh,zR⟩:=QN E_ st.ctx hU;have Fa:=EL st.ctx.rel.zH st.ctx.globs st.ctx.bk q_ has;cases Fb:(dc&&isFn bG) with
    |false=>rw[Fb] at h;cases h
    |true=>
     rw[Fb,cond_true] at h;simp only[dD] at Fb;have qm:=hnd Fb.1;subst qm;have hval:∃g a6 cs hF fJ,bG= .f (.func g) a6 cs/\a.eval x= .func (.func g) hF fJ/\bQ w m (bq J m) B a6 hF.toList/\bQ w m (bq J m) B cs fJ.toList:=by
      revert zR;generalize a.eval x=oB;intro zR;cases zR with
      |cC hf bE fj uu=>exact⟨_,_,_,_,_,rfl,rfl,⟨by simpa using hf,λi p q=>by simpa using bE i p (by simpa using q)⟩,⟨by simpa using fj,λi p q=>by simpa using uu i p (by simpa using q)⟩⟩
      |_=>simp[isFn] at Fb
     obtain⟨g,a6,cs,hF,fJ,rfl,hex,hk,fj⟩:=hval;have cd:(o.semAt (fL none).round a.eval).run P w= .ok (.defer {target:=.fn (.func g) fJ,args:=hF++bm.args.map a.eval}) w:=by
      show(execOp a.eval o).run P w=_;unfold execOp;rw[E9];simp[resolve,jh,Deferred.ofValue,hex]
     refine⟨λf _=>trivial,?_⟩;rw[cd];have aM:(bm.args.map a.eval).toList=bm.args.toList.map a.eval:=by simp
     have cq:e_ P env ⟨ae.bk,.inr (.f (.func g) a6 cs,args)::ae.defers,ae.gv⟩ {a with defers:={target:=.fn (.func g) fJ,args:=hF++bm.args.map a.eval}::a.defers} J w m B:=
      ⟨⟨st.ctx.rel,st.ctx.bk,st.ctx.globs⟩,⟨⟨g,a6,cs,hF,fJ,bm.args.map a.eval,rfl,rfl,hk,fj,by rw[aM];exact Fa⟩,st.defs⟩⟩
     have sh:=cq.put aT.dst R.undef;rw[kg] at sh h;exact next h (λ_ h=>h) sh (Ext.refl _ _ _ _)
   ·-- a panic
    rename_i v hx;cases h;obtain⟨x,t,u,rfl,si,rfl⟩:=Y5 hx;obtain⟨qn,QO,xO⟩:=Y3 (aa _ hx);have th:=st.ctx.ar QO si;obtain⟨cn,uy⟩:∃cn,a.eval qn= .iface t cn:=by
     revert th;generalize a.eval qn=oB;intro th;cases th;exact⟨_,rfl⟩
    have cd:=Y4 (P:=P) xO uy w;have al:(o.semAt (fL r).round a.eval)=execOp a.eval o:=v9 _ _ _ (λc hd=>by rcases xO with xO|⟨_,_,xO,_⟩<;>(rw[hd] at xO;cases xO));refine⟨λf _=>trivial,?_⟩;rw[al,cd];rw[uy] at th;exact cc _ _ _ (cA.2 I) _ _ _ m ⟨_,rfl,th⟩ st (Ext.refl _ _ _ _)
   ·-- a step of Ey iterator
    rename_i l hx;obtain⟨b2f,p,an,aB⟩:=b1X st.ctx (aa _ hx) hx;obtain⟨ef,eB,dM⟩:=QM h p an;obtain⟨u,b4,cV,cd,hR,pA,dR⟩:=aB;have al:(o.semAt (fL r).round a.eval)=execOp a.eval o:=v9 _ _ _ b2f;have cq:=(st.ext dR pA).put aT.dst hR;rw[kg] at cq eB;refine⟨λf _=>trivial,?_⟩;rw[al];rcases cd with cd|⟨cd,rfl⟩
    ·rw[cd];exact next eB dM cq dR
    ·rw[cd];exact next eB dM cq dR
   ·cases h
end
def Cr(m:Nat->Option Nat):Option Nat->Option Nat->Prop
 |none,none=>True
 |some l,some b=>m l=some b
 |_,_=>False
def Cr.mono{m aP:Nat->Option Nat}(hm:∀id aG,m id=some aG->aP id=some aG){aK r:Option Nat}(h:Cr m aK r):Cr aP aK r:=by
 cases aK<;>cases r<;>first|trivial|exact h.elim|exact hm _ _ h
def wh(F:Fence)(n:Nat)(P:Program)(c:Code)(Q:Exit->Act->World->Prop)(a:Act)(w:World):Prop:=
 ∀(b:Frame) (k:List Item) (cs:List Frame),b.roundOf=F.round->F.fn b.fn->F.room (cs.length+1+n)→
  ∃e cF av,Q e cF av/\ArrivesIn (Machine.fenced P F) P (lone (b.atR a (.code c:: .inLoop c::k)) cs w) b k cs e cF av
def wh.wpIn{F:Fence}{n:Nat}{P:Program}{c:Code}{Q:Exit->Act->World->Prop}{a:Act}{w:World}(h:wh F n P c Q a w):(Code.loop c).wpIn F n P Q a w:=by
 intro b k cs pB hb ak;obtain⟨e,cF,av,aS,pC⟩:=h b k cs pB hb ak;exact⟨e,cF,av,aS,.of_steps (.one (fenced_calm hb ak I) stepR_loop) pC⟩
def wh.round{F:Fence}{n:Nat}{P:Program}{c:Code}{Q:Exit->Act->World->Prop}{a:Act}{w:World}(h:c.wpIn F n P (Exit.then (wh F n P c Q) Q) a w):wh F n P c Q a w:=by
 intro b k cs pB hb ak;obtain⟨e,ti,tj,aS,pC⟩:=h b (.inLoop c::k) cs pB hb ak;cases e with
 |normal=>
  obtain⟨b2g,b2h,b2i,b2j,b2k⟩:=aS b k cs pB hb ak;exact⟨b2g,b2h,b2i,b2j,.of_steps (StepsIn.trans pC (.one (fenced_calm hb ak I) stepR_inLoop)) b2k⟩
 |exit id=>exact⟨_,ti,tj,aS,.pass (x:=.inLoop c) I (λ_ _=>.inl ay) pC⟩
 |goto l=>exact⟨_,ti,tj,aS,.pass (x:=.inLoop c) I (λ_ _=>.inl ay) pC⟩
 |ret=>exact⟨_,ti,tj,aS,.pass (x:=.inLoop c) I (λ_ _=>.inl ay) pC⟩
 |panic pz=>exact⟨_,ti,tj,aS,.pass (x:=.inLoop c) I (λ_ _=>.inl ay) pC⟩
 |outgrown=>exact⟨_,ti,tj,aS,.pass (x:=.inLoop c) I (λ_ _=>.inl ay) pC⟩
def Cs{P:Program}{b:Frame}{a:Act}{k:List Item}{cs:List Frame}{w:World}{c:Code}:Go.step P (lone (b.atR a (.code (.scope c)::k)) cs w)= .next (lone (b.atR a (.code c:: .inScope c::k)) cs w):=
 step_lone_go (by simp[stepG,stepG.exec,Frame.atR])
def b2l{P:Program}{b:Frame}{a:Act}{k:List Item}{cs:List Frame}{w:World}{c:Code}:Go.step P (lone (b.atR a (.inScope c::k)) cs w)= .next (lone (b.atR a k) cs w):=
 step_lone_go (by simp[stepG,stepG.exec,Frame.atR])
def b2m{F:Fence}{n:Nat}{P:Program}{Q:Exit->Act->World->Prop}{a:Act}{w:World}{c:Code}(h:c.wpIn F n P (Exit.noGoto Q) a w):(Code.scope c).wpIn F n P Q a w:=by
 intro b k cs pB hb ak;have h0:(lone (b.atR a (.code (.scope c)::k)) cs w).fenced P F:=fenced_calm hb ak I;obtain⟨e,ti,tj,aS,pC⟩:=h b (.inScope c::k) cs pB hb ak;cases e with
 |normal=>exact⟨.normal,ti,tj,aS,.head h0 Cs (StepsIn.trans pC (.one (fenced_calm hb ak I) b2l))⟩
 |exit id=>
  have hx:exitTo id (.inScope c::k)=exitTo id k:=by simp[exitTo]
  exact⟨.exit id,ti,tj,aS,λfh aB=>.head h0 Cs (pC.1 fh (by rw[hx];exact aB)),
   λq3 aB=>let⟨k₁,h1,h2⟩:=pC.2 q3 (by rw[hx];exact aB);⟨k₁,h1,.head h0 Cs h2⟩⟩
 |goto l=>exact aS.elim
 |ret=>exact⟨_,ti,tj,aS,.of_steps (.one h0 Cs) pC⟩
 |panic pz=>exact⟨_,ti,tj,aS,.of_steps (.one h0 Cs) pC⟩
 |outgrown=>exact⟨_,ti,tj,aS,.of_steps (.one h0 Cs) pC⟩
def sj(P:Program)(env:Env)(B:Nat)(run:kd):Prop:=
 ∀floor aK ac ae J outs,run floor aK ac ae J=some outs->∀k r c a w m,ccode P c=some ac->Cr m aK r->e_ P env ae a J w m B→
  ∀Q:Exit->Act->World->Prop,(∀e bZ ai,(e,bZ,ai)∈outs->∀x cF av aP,ExR av aP (bq ai aP) B e x->e_ P env bZ cF ai av aP B->Ext floor J w m ai av aP->Q x cF av)→
   c.wpIn (fL r) k P Q a w/\∀bc,c= .loop bc->wh (fL r) k P bc Q a w
section
variable {P:Program}{env:Env}{B:Nat}
def b2n(env:Env):exec env 0=λ_ _ _ _ _=>none:=rfl
def ra(env:Env)(n:Nat):exec env (n+1)=step env (exec env n):=a9k env (exec env n)
def sj.zero:sj P env B (exec env 0):=λfloor aK ac ae J outs h=>by rw[b2n] at h;cases h
def Y7(P:Program)(env:Env)(B:Nat)(run:kd):Prop:=
 ∀floor ops ae J l,runDraws env floor (callV env run floor) ops ae [] [] J=some l->(∀x∈l,x.2.2.1.all (steady env floor (x.2.2.2::x.2.1).reverse)=true/\swapOk env x.1.bk ops=true)->∀k r id Y8 a w m,cdraw P Y8=some ops->e_ P env ae a J w m B→
  ∀Q:Exit->Act->World->Prop,(∀x∈l,∀cF av aP,e_ P env x.1 cF x.2.2.2 av aP B->Ext floor J w m x.2.2.2 av aP->Q .normal cF av)->(Code.region id Y8 true).wpIn (fL r) k P Q a w
def Y9(P:Program)(env:Env)(B:Nat)(run:kd):Prop:=
 ∀floor aK f aE as b ae J outs,step env run floor aK (.rangeFunc f aE as b) ae J=some outs->∀k r c a w m,ccode P c=some (.rangeFunc f aE as b)->Cr m aK r->e_ P env ae a J w m B→
  ∀Q:Exit->Act->World->Prop,(∀e bZ ai,(e,bZ,ai)∈outs->∀x cF av aP,ExR av aP (bq ai aP) B e x->e_ P env bZ cF ai av aP B->Ext floor J w m ai av aP->Q x cF av)->c.wpIn (fL r) k P Q a w
def l0{α:Type}(x:α):x∈[x]:=cA.2 I
def mapO_mem{α β:Type}{f:α->Option β}:∀ {l:List α} {r:List β},mapO f l=some r->∀x∈l,∃y,f x=some y/\y∈r
 |[],_,_,x,hx=>by simp at hx
 |a::l,r,h,x,hx=>by
  have h:(match f a with|none=>none|some y=>match mapO f l with|none=>none|some ba=>some (y::ba))=some r:=h;split at h
  ·cases h
  ·rename_i y hy;split at h
   ·cases h
   ·rename_i ba zS;cases h;rcases c2.1 hx with rfl|hx
    ·exact⟨y,hy,k1⟩
    ·obtain⟨z,h1,h2⟩:=mapO_mem zS x hx;exact⟨z,h1,g1 _ h2⟩
def Y_{env:Env}{floor:Nat}{ops:List a2}{x:ke}{y:hE×Fr×ad}(h:drawn env floor ops x=some y):(x.2.2.1.all (steady env floor (x.2.2.2::x.2.1).reverse)=true/\swapOk env x.1.bk ops=true)/\y=(.normal,x.1,x.2.2.2):=by
 unfold drawn at h;cases al:(x.2.2.1.all (steady env floor (x.2.2.2::x.2.1).reverse)&&swapOk env x.1.bk ops) with
 |false=>rw[al] at h;cases h
 |true=>
  rw[al,cond_true] at h;cases h;rw[dD] at al;exact⟨al,rfl⟩
def b2o{run:kd}(cd:sj P env B run)(sg:∀f r,E6 P env B f r (callV env run f))(b2p:Y7 P env B run)(b2q:Y9 P env B run):sj P env B (step env run):=by
 intro floor aK ac ae J outs h k r c a w m aa nR st Q cc;have uL:(∀bc,c≠ .loop bc)->c.wpIn (fL r) k P Q a w->c.wpIn (fL r) k P Q a w/\∀bc,c= .loop bc->wh (fL r) k P bc Q a w:=λh1 h2=>⟨h2,λbc he=>absurd he (h1 bc)⟩
 have trans:∀ {bP:ad} {b4:World} {cV:Nat->Option Nat} {ef:oo},Ext floor J w m bP b4 cV->(∀y∈ef,y∈outs)->∀e bZ ai,(e,bZ,ai)∈ef->∀x cF av aP,ExR av aP (bq ai aP) B e x->e_ P env bZ cF ai av aP B->Ext floor bP b4 cV ai av aP->Q x cF av:=
  λdR dM e bZ ai eO x cF av aP hx cq hex=>cc e bZ ai (dM _ eO) x cF av aP hx cq (dR.trans st.ctx.rel hex)
 cases c with
 |skip=>
  simp only[ccode,cJ] at aa;subst aa;simp only[step] at h;cases h;exact uL (λ_ h=>by cases h) (wpIn_skip (cc _ _ _ (l0 _) .normal a w m trivial st (Ext.refl _ _ _ _)))
 |label l=>
  simp only[ccode,cJ] at aa;subst aa;simp only[step] at h;cases h;exact uL (λ_ h=>by cases h) (wpIn_label (cc _ _ _ (l0 _) .normal a w m trivial st (Ext.refl _ _ _ _)))
 |goto l=>simp only[ccode,cJ] at aa;subst aa;simp[step] at h
 |refuse l=>simp only[ccode,cJ] at aa;subst aa;simp[step] at h
 |exit id=>
  simp only[ccode,cJ] at aa;subst aa;simp only[step] at h;cases h;exact uL (λ_ h=>by cases h) (wpIn_exit (cc _ _ _ (l0 _) (.exit id) a w m rfl st (Ext.refl _ _ _ _)))
 |ret=>
  simp only[ccode,cJ] at aa;subst aa;simp only[step] at h;cases h;exact uL (λ_ h=>by cases h) (wpIn_ret (cc _ _ _ (l0 _) .ret a w m trivial st (Ext.refl _ _ _ _)))
 |region id ops dp=>
  refine uL (λ_ h=>by cases h) ?_;cases dp with
  |true=>
   simp only[ccode] at aa;split at aa<;>cases aa
   ·rename_i l hl;simp only[step] at h;split at h<;>try (cases h;done)
    rename_i jY hd;have hx:=λx hx=>mapO_mem h x hx;refine b2p _ _ _ _ _ hd (λx hm=>?_) k r id ops a w m hl st Q (λx hm cF av aP h3 aH=>?_)
    ·obtain⟨y,h1,_⟩:=hx x hm;exact(Y_ h1).1
    ·obtain⟨y,h1,sk⟩:=hx x hm;obtain⟨_,rfl⟩:=Y_ h1;exact cc _ _ _ sk .normal cF av aP trivial h3 aH
   ·simp[step] at h
  |false=>
   simp only[ccode] at aa;split at aa<;>cases aa
   ·rename_i l hl;simp only[step] at h;refine wpIn_region_list (Y6 (sg floor r) (λhn=>?_) _ _ _ _ _ _ _ _ hl h st Q cc);cases aK<;>cases r<;>first|rfl|exact nR.elim|simp at hn
   ·simp[step] at h
 |seq x y=>
  refine uL (λ_ h=>by cases h) ?_;simp only[ccode] at aa;split at aa<;>cases aa;rename_i bW eN hx hy;simp only[step] at h;refine wpIn_seq ?_;obtain⟨l,wi,oA⟩:=xL h;refine(cd _ _ _ _ _ _ wi k r x a w m hx nR st _ (λaM ev bP eO gg aQ b4 cV fk gj im=>?_)).1;obtain⟨ef,eB,dM⟩:=oA _ eO;cases aM with
  |normal=>
   cases gg<;>try exact fk.elim
   exact(cd _ _ _ _ _ _ eB k r y aQ b4 cV hy (nR.mono im.mono) gj Q (trans im dM)).1
  |exit id=>cases eB;cases gg<;>first|exact fk.elim|exact cc _ _ _ (dM _ (l0 _)) _ aQ b4 cV fk gj im
  |ret=>cases eB;cases gg<;>first|exact fk.elim|exact cc _ _ _ (dM _ (l0 _)) _ aQ b4 cV fk gj im
  |panic v=>cases eB;cases gg<;>first|exact fk.elim|exact cc _ _ _ (dM _ (l0 _)) _ aQ b4 cV fk gj im
 |cond t x y=>
  refine uL (λ_ h=>by cases h) ?_;simp only[ccode] at aa;split at aa<;>cases aa;rename_i at' bW eN ht hx hy;simp only[step] at h;split at h<;>try (cases h;done)
  rename_i fE QP;have QQ:=(st.ctx.ar ht QP).xz;refine wpIn_cond QQ ?_;cases fE with
  |true=>exact(cd _ _ _ _ _ _ h k r x a w m hx nR st Q cc).1
  |false=>exact(cd _ _ _ _ _ _ h k r y a w m hy nR st Q cc).1
 |block id x=>
  refine uL (λ_ h=>by cases h) ?_;simp only[ccode] at aa;split at aa<;>cases aa;rename_i bW hx;simp only[step] at h;refine wpIn_block ?_;obtain⟨l,wi,oA⟩:=xL h;refine(cd _ _ _ _ _ _ wi k r x a w m hx nR st _ (λaM ev bP eO gg aQ b4 cV fk gj im=>?_)).1;obtain⟨ef,eB,dM⟩:=oA _ eO;cases aM with
  |normal=>cases eB;cases gg<;>first|exact fk.elim|exact cc _ _ _ (dM _ (l0 _)) _ aQ b4 cV fk gj im
  |ret=>cases eB;cases gg<;>first|exact fk.elim|exact cc _ _ _ (dM _ (l0 _)) _ aQ b4 cV fk gj im
  |panic v=>cases eB;cases gg<;>first|exact fk.elim|exact cc _ _ _ (dM _ (l0 _)) _ aQ b4 cV fk gj im
  |exit j=>
   cases gg<;>try exact fk.elim
   rename_i qP;have aA:j=qP:=fk;subst aA;have eB:cond (Nat.beq j id) (some [(hE.normal,ev,bP)]) (some [(hE.exit j,ev,bP)])=some ef:=eB;cases hb:Nat.beq j id with
   |true=>
    rw[hb,cond_true] at eB;cases eB;have:=gE hb;simp only[Exit.inBlock,this,if_true];exact cc _ _ _ (dM _ (l0 _)) .normal aQ b4 cV trivial gj im
   |false=>
    rw[hb,cond_false] at eB;cases eB;have:j≠id:=λhe=>by rw[he,g0] at hb;cases hb
    simp only[Exit.inBlock,this,if_false];exact cc _ _ _ (dM _ (l0 _)) (.exit j) aQ b4 cV I gj im
 |loop x=>
  simp only[ccode] at aa;split at aa<;>cases aa;rename_i bW hx;have hL:wh (fL r) k P x Q a w:=by
   refine wh.round ?_;simp only[step] at h;obtain⟨l,wi,oA⟩:=xL h;refine(cd _ _ _ _ _ _ wi k r x a w m hx nR st _ (λaM ev bP eO gg aQ b4 cV fk gj im=>?_)).1;obtain⟨ef,eB,dM⟩:=oA _ eO;cases aM with
   |normal=>
    cases gg<;>try exact fk.elim
    exact(cd _ _ _ _ _ _ eB k r (.loop x) aQ b4 cV (by simp only[ccode,hx]) (nR.mono im.mono) gj Q (trans im dM)).2 x I
   |exit id=>cases eB;cases gg<;>first|exact fk.elim|exact cc _ _ _ (dM _ (l0 _)) _ aQ b4 cV fk gj im
   |ret=>cases eB;cases gg<;>first|exact fk.elim|exact cc _ _ _ (dM _ (l0 _)) _ aQ b4 cV fk gj im
   |panic v=>cases eB;cases gg<;>first|exact fk.elim|exact cc _ _ _ (dM _ (l0 _)) _ aQ b4 cV fk gj im
  exact⟨hL.wpIn,λbc he=>by cases he;exact hL⟩
 |scope x=>
  refine uL (λ_ h=>by cases h) ?_;simp only[ccode] at aa;split at aa<;>cases aa;rename_i bW hx;simp only[step] at h;refine b2m ((cd _ _ _ _ _ _ h k r x a w m hx nR st _ (λaM ev bP eO gg aQ b4 cV fk gj im=>?_)).1);cases gg with
  |goto l=>cases aM<;>exact fk.elim
  |_=>exact cc _ _ _ eO _ aQ b4 cV fk gj im
 |rangeFunc g aE as b=>
  refine uL (λ_ h=>by cases h) ?_;have e6:=aa;simp only[ccode] at aa;split at aa<;>cases aa;exact b2q _ _ _ _ _ _ _ _ _ h k r _ a w m e6 nR st Q cc
end
structure uM(P:Program)(env:Env):Prop where
 funcs:∀g cj,env.funcs g=some cj->∃fn,P.funcs[g]? =some fn/\cfunc P fn=some cj/\(fn.name== "runtime.NumGoroutine")=false
def QR{P:Program}{fn:Func}{cj:gr}(h:cfunc P fn=some cj):∃rs c ac,mapOL (resOf P) fn.results.toList=some rs/\fn.body=some c/\ccode P c=some ac/\cj={kF:=fn.params.size+fn.nfree,ntmps:=fn.ntmps,results:=rs,body:=some ac}:=by
 unfold cfunc at h;split at h<;>try (cases h;done)
 rename_i rs wj;split at h<;>try (cases h;done)
 rename_i c aa;split at h<;>cases h;rename_i ac fU;exact⟨rs,c,ac,wj,aa,fU,rfl⟩
section
variable {P:Program}{env:Env}{B:Nat}{J:ad}{w:World}{m:Nat->Option Nat}
def res1(tmps:Array Value):ResultVar->Sem Value
 | .tmp t=>pure (tmps.getD t undef)
 | .cell a t=>do loadVar t (←asAddr (tmps.getD a undef))
def b2r(fn:Func)(tmps:Array Value):results fn tmps=(do let bp <-fn.results.mapM (res1 tmps);pure (if h:bp.size=1 then bp[0] else .tuple bp)):=by
 have:(λ(x:ResultVar)=>(match x with| .tmp t=>pure (tmps.getD t undef)| .cell a t=>(do loadVar t (←asAddr (tmps.getD a undef))):Sem Value))=res1 tmps:=by
  funext x;cases x<;>rfl
 unfold results;rw[<-this];rfl
def b2s(ak:Rel P J w m B){ao:a1 AV}{tmps:Array Value}(al:jU w m (bq J m) B ao tmps.toList){x:ResultVar}{r:Nat×Option (Option Nat)}(hx:resOf P x=some r){v:AV}(h:resultOf J ao r=some v):
  ∃u,(res1 tmps x).run P w= .ok u w/\R w m (bq J m) B v u:=by
 have getD:∀ {t:Nat} {u:Value},tmps.toList[t]? =some u->tmps.getD t undef=u:=λ{t u} h=>by
  rw[nJ] at h;simp[h]
 cases x with
 |tmp t=>
  simp only[resOf,cJ] at hx;subst hx;simp only[resultOf] at h;cases aq:ao.get t with
  |none=>simp[aq] at h
  |some bn=>
   simp only[aq,cJ] at h;subst h;obtain⟨u,hu,kK⟩:=al.1 _ _ aq;exact⟨u,by simp only[res1,getD hu,jq],kK⟩
 |cell b t=>
  simp only[resOf] at hx;cases jc:shapeOf P t with
  |none=>simp[jc] at hx
  |some ab=>
   simp only[jc,cJ] at hx;subst hx;simp only[resultOf] at h;split at h<;>try (cases h;done)
   ·rename_i aS;cases aS
   ·rename_i id off iD aq aS;cases aS;split at h<;>try (cases h;done)
    rename_i c hg;obtain⟨u,hu,kK⟩:=al.1 _ _ aq;obtain⟨aG,hm,rfl⟩:=kK.xA;obtain⟨cn,h1,h2⟩:=XO ak jc hm hg h;exact⟨cn,by simp only[res1,getD hu,asAddr,e3,jq,e8,h1],h2⟩
def Za(ak:Rel P J w m B){ao:a1 AV}{tmps:Array Value}(al:jU w m (bq J m) B ao tmps.toList){fn:Func}{rs:List (Nat×Option (Option Nat))}(hx:mapOL (resOf P) fn.results.toList=some rs){v:AV}(h:resultsOf J ao rs=some v):
  ∃u,(results fn tmps).run P w= .ok u w/\R w m (bq J m) B v u:=by
 have key:∀(l:List ResultVar) (rs:List (Nat×Option (Option Nat))) (bp:List AV),mapOL (resOf P) l=some rs->mapO (resultOf J ao) rs=some bp→
   ∃us:List Value,(l.mapM (res1 tmps)).run P w= .ok us w/\bQ w m (bq J m) B bp us:=by
  intro l
  induction l with
  |nil=>
   intro rs bp h1 h2;simp[mapOL] at h1;subst h1;rw[PO] at h2;cases h2;exact⟨[],ay,bQ.nil⟩
  |cons x l aC=>
   intro rs bp h1 h2;rw[mapOL] at h1;split at h1<;>cases h1;rename_i r b2t k9 kx;rw[mapO_cons] at h2;split at h2<;>try (cases h2;done)
   rename_i bn iG;split at h2<;>cases h2;rename_i ux b2u;obtain⟨u,hu,kK⟩:=b2s ak al k9 iG;obtain⟨us,mL,b2v⟩:=aC b2t ux kx b2u;exact⟨u::us,by simp only[List.mapM_cons,e3,hu,e8,mL,jq],bQ.cons kK b2v⟩
 have run:∀(bp:List AV),mapO (resultOf J ao) rs=some bp->∃us:List Value,(fn.results.mapM (res1 tmps)).run P w= .ok us.toArray w/\bQ w m (bq J m) B bp us:=λbp pq=>by
  obtain⟨us,h1,h2⟩:=key _ _ _ hx pq;refine⟨us,?_,h2⟩;rw[Xg];simp only[Sem.run_map,h1,e8]
 unfold resultsOf at h;rw[b2r];split at h<;>cases h
 ·rename_i aq;obtain⟨us,h1,h2⟩:=run _ aq;have hl:us.length=1:=h2.1;obtain⟨u,rfl⟩:∃u,us=[u]:=by cases us with|nil=>simp at hl|cons u t=>cases t with|nil=>exact⟨u,rfl⟩|cons _ _=>simp at hl
  refine⟨u,?_,h2.2 0 ay ay⟩;simp only[e3,h1,e8,jq];simp
 ·rename_i bp aY aq;obtain⟨us,h1,h2⟩:=run _ aq;refine⟨.tuple us.toArray,?_,R.vV h2⟩;have hl:us.length≠1:=λh=>by
   rw[h2.1] at h;cases bp with
   |nil=>simp at h
   |cons v t=>cases t with|nil=>exact aY v rfl|cons _ _=>simp at h
  simp only[e3,h1,e8,jq];simp[hl]
def qo(w:World)(m:Nat->Option Nat)(O:Nat->Prop)(B:Nat):Option AV->FrameMode->Prop
 |none,.returning=>True
 |some v,.panicking pz=>∃u,pz=[{v:=u,recovered:=false}]/\R w m O B v u
 |_,_=>False
def qo.ext{f:Nat}{ai:ad}{av:World}{aP:Nat->Option Nat}{p:Option AV}{u:FrameMode}(h:qo w m (bq J m) B p u)(he:Ext f J w m ai av aP)(ak:Rel P J w m B):qo av aP (bq ai aP) B p u:=by
 cases p<;>cases u<;>first|exact h|(obtain⟨oB,h1,h2⟩:=h;exact⟨oB,h1,h2.ext he ak⟩)
def QS(P:Program)(env:Env)(B f:Nat)(call:AV->List AV->AV->ad->Option (Bool×ad)):Prop:=
 ∀bG args p J r ai,call bG args (p.getD .fx) J=some (r,ai)->∀k w m u d,Rel P J w m B->Globs env w B->qo w m (bq J m) B p u->Cp w m (bq J m) B (.inr (bG,args)) d→
  ∃QT cap g Ct,d.target= .fn QT cap/\(invoke d.target d.args).run P w= .ok (.enter g Ct) w∧
   CallsDIn (fL none) k P g Ct u w (λe cn av=>(∃v,e= .returned v)/\∃aP,qo av aP (bq ai aP) B (cond r none p) (settle cn)/\Rel P ai av aP B/\Ext f J w m ai av aP)
def b2w(f:Nat)(call:AV->List AV->AV->ad->Option (Bool×ad))(p:Option AV)(J:ad):leave f call [] p J=some (p,J):=rfl
def leave_cons(f:Nat)(call:AV->List AV->AV->ad->Option (Bool×ad))(d:Nat ⊕ (AV×List AV))(ds:List (Nat ⊕ (AV×List AV)))(p:Option AV)(J:ad):leave f call (d::ds) p J=match d with
  | .inl b=>if Nat.blt b f then none else match J.get b with
   |some .c7=>leave f call ds p (J.set b .dead)
   |_=>none
  | .inr (bG,args)=>match call bG args (p.getD .fx) J with
   |some (r,J)=>leave f call ds (cond r none p) J
   |none=>none:=rfl
def QU{f:Nat}{call:AV->List AV->AV->ad->Option (Bool×ad)}(sg:QS P env B f call){fn:Func}{rs:List (Nat×Option (Option Nat))}(hx:mapOL (resOf P) fn.results.toList=some rs){k:Nat}{tmps:Array Value}{ao:a1 AV}:
  ∀(ds:List (Nat ⊕ (AV×List AV))) (wk:List Deferred) (p ew:Option AV) (u:FrameMode) (J ai:ad) (w:World) (m:Nat->Option Nat),leave f call ds p J=some (ew,ai)->jW (Cp w m (bq J m) B) ds wk->qo w m (bq J m) B p u→
   Rel P J w m B->jU w m (bq J m) B ao tmps.toList->Globs env w B->∀(ret:ee),(match ew with|some v=>some (ee.err v)|none=>(resultsOf ai ao rs).map ee.ok)=some ret→
   ∀Q:Ending->World->Prop,(∀e av aP,tg av aP (bq ai aP) B ret e->Rel P ai av aP B->Ext f J w m ai av aP->Q e av)->LeavesInM (fL none) k P fn tmps Q wk u w
 |[],wk,p,ew,u,J,ai,w,m,h,hd,hu,ak,al,dt,ret,mN,Q,cc=>by
  cases wk with
  |cons _ _=>exact hd.elim
  |nil=>
  rw[b2w] at h;cases h;cases p with
  |none=>
   cases u<;>try exact hu.elim
   simp only[fA] at mN;obtain⟨v,aq,rfl⟩:=mN;obtain⟨xP,h1,h2⟩:=Za ak al hx aq;exact⟨xP,h1,cc _ _ m h2 ak (Ext.refl _ _ _ _)⟩
  |some v=>
   cases u<;>try exact hu.elim
   simp only[cJ] at mN;subst mN;exact cc _ _ m hu ak (Ext.refl _ _ _ _)
 |d::ds,wk,p,ew,u,J,ai,w,m,h,hd,hu,ak,al,dt,ret,mN,Q,cc=>by
  cases wk with
  |nil=>exact hd.elim
  |cons iE wk=>
  obtain⟨l1,iT⟩:=hd;have cd:u≠ .run:=λhe=>by subst he;cases p<;>exact hu.elim
  rw[leave_cons] at h;refine⟨cd,?_⟩;cases d with
  |inl b=>
   simp only at h;split at h<;>try (cases h;done)
   rename_i du;split at h<;>try (cases h;done)
   rename_i hg;obtain⟨aG,hm,rfl⟩:=l1;obtain⟨bF,eB,px⟩:=ak.obj _ _ _ hm hg I;cases px;left;have hb:=B5 eB;obtain⟨k9,hY⟩:=ak.di (f:=f) (by simpa [hC] using du) hm ⟨_,hg,rfl⟩ (w.putObj aG (.deferred none)) .dead ay (λb aY=>YO aY) (λn hn=>by unfold eF at hn;rw[eB] at hn;cases hn) rfl rfl rfl (λh=>by cases h);refine⟨aG,w.putObj aG (.deferred none),rfl,run_takeDeferred eB,?_⟩;exact QU sg hx ds wk p ew u _ ai _ m h (E5 (λ_ _ hd=>hd.ext hY ak) iT) (by
    cases p<;>cases u<;>first|exact hu|(obtain⟨oB,h1,h2⟩:=hu;exact⟨oB,h1,h2.ext hY ak⟩)) k9 (al.ext hY ak) (Globs.ext dt hY ak) ret mN Q
    (λe av aP h1 h2 h3=>cc e av aP h1 h2 (hY.trans ak h3))
  |inr q=>
   obtain⟨bG,args⟩:=q;simp only at h;split at h<;>try (cases h;done)
   rename_i r bP aa;obtain⟨QT,cap,g,Ct,ht,hinv,wm⟩:=sg bG args p J r bP aa (k-1) w m u iE ak dt hu l1;right;refine⟨λal=>by simp[fL] at al,QT,cap,g,Ct,ht,hinv,λ_ _=>trivial,?_⟩;refine CallsDIn.mono wm (λe cn av c0=>?_);obtain⟨⟨v,rfl⟩,aP,nh,k9,hY⟩:=c0;exact QU sg hx ds wk _ ew (settle cn) bP ai av aP h (E5 (λ_ _ hd=>hd.ext hY ak) iT) nh k9 (al.ext hY ak) (Globs.ext dt hY ak) ret mN Q
    (λe av aP h1 h2 h3=>cc e av aP h1 h2 (hY.trans ak h3))
end
section
variable {P:Program}{env:Env}{B:Nat}
def QV{g:Nat}{fn:Func}(hf:P.funcs[g]? =some fn){c:Code}(hb:fn.body=some c)(hn:(fn.name== "runtime.NumGoroutine")=false)(cs args:Array Value)(w:World):
  (invoke (.fn (.func g) cs) args).run P w= .ok (.enter g (args++cs)) w:=by
 simp only[beq_eq_false_iff_ne,ne_eq] at hn;have an:(program).run P w= .ok P w:=rfl;simp only[invoke,callFunc,e3,an,e8,hf];simp[hn,hb]
def b2x{α:Type}(i:Nat)(t:a1 α):a1.lay [] i t=t:=rfl
def b2y{α:Type}(x:α)(l:List α)(i:Nat)(t:a1 α):a1.lay (x::l) i t=a1.lay l (i+1) (t.set i x):=rfl
def Zb{w:World}{m:Nat->Option Nat}{O:Nat->Prop}:∀(args:List AV) (us:List Value) (i:Nat) (t:a1 AV) (pre:List Value) (n:Nat),bQ w m O B args us->pre.length=i→
  jU w m O B t (pre++List.replicate (args.length+n) undef)->jU w m O B (a1.lay args i t) (pre++(us++List.replicate n undef))
 |[],us,i,t,pre,n,ha,an,h=>by
  have:us=[]:=p9 (by simpa using ha.1);subst this;rw[b2x];simpa using h
 |x::args,us,i,t,pre,n,ha,an,h=>by
  cases us with
  |nil=>have:=ha.1;simp at this
  |cons u us=>
   rw[b2y];have hx:R w m O B x u:=ha.2 0 ay ay;have Fc:bQ w m O B args us:=by simpa using ha.drop 1
   have key:=Zb args us (i+1) (t.set i x) (pre++[u]) n Fc (by simp[an]) (by
    have Zc:=jU.put (tmps:=(pre++List.replicate ((x::args).length+n) undef).toArray) (by simpa using h) i hx;have aM:((pre++List.replicate ((x::args).length+n) undef).toArray.setIfInBounds i u).toList=(pre++[u])++List.replicate (args.length+n) undef:=by
     simp only[YP];rw[<-an,List.set_append_right _ _ (a8 _),Ew];have aU:(x::args).length+n=(args.length+n)+1:=by simp;omega
     rw[aU,Qz,List.set_cons_zero];simp
    rw[aM] at Zc;exact Zc)
   simpa using key
def b2z{w:World}{m:Nat->Option Nat}{O:Nat->Prop}(n:Nat):jU w m O B (a1.full n dF n) (List.replicate n undef):=by
 refine⟨λi v aq=>?_,λi aq=>?_⟩
 ·obtain⟨rfl,hi⟩:=a1.JQ _ _ _ _ _ aq;exact⟨undef,by simp[hi],R.undef⟩
 ·rcases p6 i n with h|h
  ·rw[a1.JP n n i dF h (a8 _)] at aq;cases aq
  ·exact te (by simpa using h)
def Zd{fn:Func}{cj:gr}(b2A:cj.ntmps=fn.ntmps){J:ad}{w:World}{m:Nat->Option Nat}(ak:Rel P J w m B)(dt:Globs env w B){args:List AV}(hle:args.length<=fn.ntmps){us:Array Value}(ha:bQ w m (bq J m) B args us.toList):
  e_ P env (vR cj args) {tmps:=us++Array.replicate (fn.ntmps-us.size) undef,defers:=[]} J w m B:=by
 refine⟨⟨ak,?_,dt⟩,trivial⟩;have hl:us.size=args.length:=by have:=ha.1;simpa using this
 simp only[vR,QA,Array.toList_replicate,b2A,hl];have:=Zb args us.toList 0 (a1.full fn.ntmps dF fn.ntmps) [] (fn.ntmps-args.length) ha I (by
  have e:args.length+(fn.ntmps-args.length)=fn.ntmps:=by omega
  rw[e];simpa using b2z fn.ntmps)
 simpa using this
def QW(hk:uM P env){run:kd}(cd:sj P env B run){f:Nat}(hd:QS P env B f (callD env f)){g:Nat}{args:List AV}{J:ad}{k_:List (ee×ad)}(h:runF env run f g args J=some k_)(k:Nat)(r:Option Nat)
  {w:World} {m:Nat->Option Nat} (ak:Rel P J w m B) (dt:Globs env w B) {us:Array Value} (ha:bQ w m (bq J m) B args us.toList):
  (∃fn c,P.funcs[g]? =some fn/\fn.body=some c/\(fn.name== "runtime.NumGoroutine")=false)∧
  CallsIn (fL r) k P g us w (λe av=>∃ret ai,(ret,ai)∈k_/\∃aP,tg av aP (bq ai aP) B ret e/\Rel P ai av aP B/\Ext f J w m ai av aP):=by
 unfold runF at h;cases hg:env.funcs g with
 |none=>simp[hg] at h
 |some cj=>
  obtain⟨fn,hfn,g4,zT⟩:=hk.funcs g cj hg;obtain⟨rs,c,ac,wj,tk,fU,rfl⟩:=QR g4;simp only[hg] at h;refine⟨⟨fn,c,hfn,tk,zT⟩,?_⟩;cases hb:(Nat.beq args.length (fn.params.size+fn.nfree)&&Nat.ble args.length fn.ntmps) with
  |false=>rw[hb] at h;cases h
  |true=>
   rw[hb,cond_true] at h;simp only[dD,Qy] at hb;obtain⟨l,hex,oA⟩:=xL h;have cq:=Zd (fn:=fn) (cj:={kF:=fn.params.size+fn.nfree,ntmps:=fn.ntmps,results:=rs,body:=some ac}) I ak dt hb.2 ha;show CallsIn (fL none) k P g us w _;refine callsIn_of_wp_marks hfn tk trivial ((cd _ _ _ _ _ _ hex k none c _ w m fU trivial cq _ (λe ev bP eO gg aQ b4 cV fk gj im=>?_)).1);obtain⟨ef,eB,dM⟩:=oA _ eO;have fin:∀(ew:Option AV) (cr:ad) (ret:ee),leave f (callD env f) ev.defers (JM e) bP=some (ew,cr)->(match ew with|some v=>some (ee.err v)|none=>(resultsOf cr ev.bk rs).map ee.ok)=some ret->(ret,cr)∈k_→
     ∀u,qo b4 cV (bq bP cV) B (JM e) u->LeavesInM (fL none) k P fn aQ.tmps (λe av=>∃ret ai,(ret,ai)∈k_/\∃aP,tg av aP (bq ai aP) B ret e/\Rel P ai av aP B/\Ext f J w m ai av aP) aQ.defers u b4:=λew cr ret hl mN gI u hu=>
    QU hd wj _ _ _ _ _ _ _ _ _ hl gj.defs hu gj.ctx.rel gj.ctx.bk gj.ctx.globs ret mN _ (λe av aP h1 h2 h3=>⟨ret,cr,gI,aP,h1,h2,im.trans ak h3⟩)
   have go:(∀id,e≠ .exit id)->∀u,qo b4 cV (bq bP cV) B (JM e) u->LeavesInM (fL none) k P fn aQ.tmps (λe av=>∃ret ai,(ret,ai)∈k_/\∃aP,tg av aP (bq ai aP) B ret e/\Rel P ai av aP B/\Ext f J w m ai av aP) aQ.defers u b4:=λaY u hu=>by
    unfold endF at eB;split at eB
    ·rename_i he;cases he;exact absurd I (aY _)
    rename_i d_ bZ ai hY ox;cases ox;split at eB<;>try (cases eB;done)
    ·rename_i nP;cases eB;exact fin _ _ _ nP I (dM _ (l0 _)) u hu
    ·rename_i nP;split at eB<;>cases eB;rename_i c0;exact fin _ _ _ nP (by simp[c0]) (dM _ (l0 _)) u hu
   cases e with
   |exit id=>cases eB
   |normal=>cases gg<;>first|exact fk.elim|exact go (λ_ h=>by cases h) _ trivial
   |ret=>cases gg<;>first|exact fk.elim|exact go (λ_ h=>by cases h) _ trivial
   |panic v=>cases gg<;>first|exact fk.elim|exact go (λ_ h=>by cases h) _ fk
end
def wpListS(F:Fence)(n:Nat)(P:Program)(ops:Array Oper)(Q:Exit->Act->List Frame->World->Prop):List Oper->Act->List Frame->World->Prop
 |[],a,cs,w=>Q .normal a cs w
 |o::rest,a,cs,w=>
   (∀f,o.about P w a.eval=some f->F.fn f)∧
   if Region.wanted o (yielded ops a.tmps) then
    match(execOp a.eval o).run P w with
    | .ok .recover av=>
     match recoverD cs with
     |some (v,fJ)=>wpListS F n P ops Q rest (a.put o.dst v) fJ av
     |none=>wpListS F n P ops Q rest (a.put o.dst .nilIface) cs av
    | .ok (.value v) av=>wpListS F n P ops Q rest (a.put o.dst v) cs av
    | .ok .skip av=>wpListS F n P ops Q rest (a.put o.dst undef) cs av
    | .halt (.panic v) av=>Q (.panic [{v,recovered:=false}]) a cs av
    |_=>False
   else wpListS F n P ops Q rest (a.put o.dst undef) cs w
def b2B{F:Fence}{n:Nat}{P:Program}{ops:Array Oper}{Q:Exit->Act->List Frame->World->Prop}(l:List Oper):∀k,(∀j,l[j]? =ops[k+j]?)->∀a cs w,wpListS F n P ops Q l a cs w->wpOpsSIn F n P ops Q (List.range' k l.length) a cs w:=by
 induction l with
 |nil=>intro k _ a cs w h;simpa [wpOpsSIn,wpListS] using h
 |cons o l aC=>
  intro k h a cs w hh;have h0:ops[k]? =some o:=by simpa using (h 0).symm
  have Fe:=aC (k+1) (λj=>by have:=h (j+1);simpa [qO,rY 1 j] using this);simp only[fw,List.range'_succ,wpOpsSIn,h0];simp only[wpListS] at hh;refine⟨hh.1,?_⟩;have hh:=hh.2;split at hh
  ·rename_i hw;rw[if_pos hw];split at hh
   ·rename_i ak;simp only[ak];split at hh
    ·rename_i Ff;simp only[Ff];exact Fe _ _ _ hh
    ·rename_i Ff;simp only[Ff];exact Fe _ _ _ hh
   ·rename_i ak;simp only[ak];exact Fe _ _ _ hh
   ·rename_i ak;simp only[ak];exact Fe _ _ _ hh
   ·rename_i ak;simp only[ak];exact hh
   ·exact hh.elim
  ·rename_i hw;rw[if_neg hw];exact Fe _ _ _ hh
def b2C{F:Fence}{n:Nat}{P:Program}{id:Nat}{ops:Array Oper}{Q:Exit->Act->List Frame->World->Prop}{a:Act}{cs:List Frame}{w:World}(h:wpListS F n P ops Q ops.toList a cs w):(Code.region id ops false).wpSIn F n P Q a cs w:=
 wpSIn_region (by rw[List.range_eq_range',← ug];exact b2B _ 0 ay _ _ _ h)
def Fg:FrameMode->FrameMode
 | .panicking [{v,..}]=>.panicking [{v,recovered:=true}]
 |u=>u
section
variable {P:Program}{env:Env}{B:Nat}
def xQ(nr:Frame)(cs:List Frame)(u:FrameMode)(gv:Bool)(fJ:List Frame):Prop:=fJ={nr with mode:=if gv then Fg u else u}::cs
def b2D{o:Oper}(h:cop P o=some .recover)(a:Act)(w:World):(execOp a.eval o).run P w= .ok .recover w:=by
 unfold cop at h;split at h
 all_goals first
  |(cases h;done)
  |(simp only[fA,reduceCtorEq,and_false,exists_false] at h;done)
  |(simp only[eA,dZ,eM,cJ,reduceCtorEq,and_false,exists_false] at h;done)
  |skip
 all_goals first
  |(
    rename_i ho;split at h
    all_goals first
     |(cases h;done)
     |(rw[Kf ho];simp[builtin];done)
     |(
      exfalso
      repeat' first
       |(cases h;done)
       |(simp only[fA,reduceCtorEq,and_false,exists_false] at h;done)
       |(simp only[eA,dZ,eM,cJ,reduceCtorEq,and_false,exists_false] at h;done)
       |split at h
       |(obtain⟨_,_,h⟩:=h)
       |(simp only[eA,dZ,eM,cJ] at h)))
  |(
    exfalso
    repeat' first
     |(cases h;done)
     |(simp only[fA,reduceCtorEq,and_false,exists_false] at h;done)
     |(simp only[eA,dZ,eM,cJ,reduceCtorEq,and_false,exists_false] at h;done)
     |split at h
     |(obtain⟨_,_,h⟩:=h)
     |(simp only[eA,dZ,eM,cJ] at h))
def Ze{f:Nat}{p:Option AV}{u:FrameMode}{nr:Frame}{cs:List Frame}{ops:Array Oper}{k:Nat}:
  ∀(ol:List Oper) (b6:List a2) (ae bZ:Fr) (J ai:ad) (e:hE) (a:Act) (w:World) (m:Nat->Option Nat) (jZ:List Frame),mapOL (coper P ops) ol=some b6→
   s4 env f (λ_ _ _=>none) (some (p.getD .fx)) false b6 ae J=some (e,bZ,ai)->e_ P env ae a J w m B->qo w m (bq J m) B p u->xQ nr cs u ae.gv jZ→
   ∀Q:Exit->Act->List Frame->World->Prop,(∀x cF fJ av aP,ExR av aP (bq ai aP) B e x->e_ P env bZ cF ai av aP B->Ext f J w m ai av aP->xQ nr cs u bZ.gv fJ->Q x cF fJ av)->wpListS (fL none) k P ops Q ol a jZ w
 |[],b6,ae,bZ,J,ai,e,a,w,m,jZ,hm,h,st,hu,hd,Q,cc=>by
  simp[mapOL] at hm;subst hm;rw[b2d] at h;cases h;exact cc .normal a jZ w m trivial st (Ext.refl _ _ _ _) hd
 |o::ol,b6,ae,bZ,J,ai,e,a,w,m,jZ,hm,h,st,hu,hd,Q,cc=>by
  rw[mapOL] at hm;split at hm<;>cases hm;rename_i aT E8 ho ow;obtain⟨dS,kg⟩:=Kk ho;rw[runOpsD_cons] at h;rw[wpListS,Ki ho st.ctx.bk];refine⟨λ_ _=>trivial,?_⟩;have next:∀ {ev:Fr} {aQ:Act} {bP:ad} {b4:World} {cV:Nat->Option Nat} {tl:List Frame},s4 env f (λ_ _ _=>none) (some (p.getD .fx)) false E8 ev bP=some (e,bZ,ai)->e_ P env ev aQ bP b4 cV B->Ext f J w m bP b4 cV->xQ nr cs u ev.gv tl->wpListS (fL none) k P ops Q ol aQ tl b4:=
   λ{ev aQ bP b4 cV tl} h1 g3 dR l1=>Ze ol E8 ev bZ bP ai e aQ b4 cV tl ow h1 g3 (hu.ext dR st.ctx.rel) l1 Q (λx cF fJ av aP hx cq hex=>cc x cF fJ av aP hx cq (dR.trans st.ctx.rel hex))
  have Cu:∀(ae:Fr) d v,(ae.put d v).gv=ae.gv:=λae d v=>by cases d<;>rfl
  cases hw:wantedA aT.guard ae.bk with
  |false=>
   rw[hw,cond_false] at h;simp only[sX,if_false];refine next h ?_ (Ext.refl _ _ _ _) (by rw[Cu];exact hd)
   rw[kg];exact st.put _ R.undef
  |true=>
   rw[hw,cond_true] at h;simp only[if_true];split at h
   ·-- recover
    rename_i Ff;simp only at h;have cd:=b2D (P:=P) (E7 (dS.symm.trans Ff) ay) a w;rw[cd];simp only;unfold xQ at hd;subst hd;have QX:e_ P env ⟨ae.bk,ae.defers,true⟩ a J w m B:=⟨st.ctx,st.defs⟩
    cases ak:ae.gv with
    |true=>
     rw[ak] at h;have vU:recoverD ({nr with mode:=if true=true then Fg u else u}::cs)=none:=by
      cases p<;>cases u<;>first|exact hu.elim|rfl|(obtain⟨oB,rfl,_⟩:=hu;rfl)
     rw[vU];simp only;have oC:=QX.put aT.dst (v:=.fx) (u:=.nilIface) R.fx;rw[kg] at oC h;exact next h oC (Ext.refl _ _ _ _) (by rw[Cu];rfl)
    |false=>
     rw[ak] at h;cases p with
     |none=>
      cases u<;>try exact hu.elim
      have vU:recoverD ({nr with mode:=if false=true then Fg .returning else .returning}::cs)=none:=rfl;rw[vU];simp only;have oC:=QX.put aT.dst (v:=.fx) (u:=.nilIface) R.fx;rw[kg] at oC h;exact next h oC (Ext.refl _ _ _ _) (by rw[Cu];rfl)
     |some v=>
      cases u<;>try exact hu.elim
      obtain⟨oB,rfl,kK⟩:=hu;have Qh:recoverD ({nr with mode:=if false=true then Fg (.panicking [{v:=oB,recovered:=false}]) else .panicking [{v:=oB,recovered:=false}]}::cs)=some (oB,{nr with mode:=.panicking [{v:=oB,recovered:=true}]}::cs):=rfl;rw[Qh];simp only;have oC:=QX.put aT.dst kK;rw[kg] at oC h;exact next h oC (Ext.refl _ _ _ _) (by rw[Cu];rfl)
   ·rename_i op aY;generalize QL:aT.op=cH at h dS;have aa:∀res,opx f (evalA env ae.bk) J cH=some res->cop P o=some cH:=λres c0=>E7 dS.symm (λhb=>by subst hb;simp[opx] at c0);split at h
    ·rename_i v bP hx;obtain⟨xP,b4,cV,cd,hR,pA,dR⟩:=Co st.ctx (aa _ hx) hx;have cq:=(st.ext dR pA).put aT.dst hR;rw[kg] at cq h;rcases cd with cd|⟨cd,rfl⟩
     ·rw[cd];exact next h cq dR (by rw[Cu];exact hd)
     ·rw[cd];exact next h cq dR (by rw[Cu];exact hd)
    ·cases h
    ·simp at h
    ·rename_i v hx;cases h;obtain⟨x,t,oB,rfl,si,rfl⟩:=Y5 hx;obtain⟨qn,QO,xO⟩:=Y3 (aa _ hx);have th:=st.ctx.ar QO si;obtain⟨cn,uy⟩:∃cn,a.eval qn= .iface t cn:=by
      revert th;generalize a.eval qn=oB;intro th;cases th;exact⟨_,rfl⟩
     have cd:=Y4 (P:=P) xO uy w;rw[cd];rw[uy] at th;exact cc _ _ _ _ m ⟨_,rfl,th⟩ st (Ext.refl _ _ _ _) hd
    ·cases h
    ·cases h
def runD_ok{f:Nat}{p:Option AV}{u:FrameMode}{nr:Frame}{cs:List Frame}{k:Nat}:
  ∀(c:Code) (ac:b5) (ae bZ:Fr) (J ai:ad) (e:hE) (a:Act) (w:World) (m:Nat->Option Nat) (jZ:List Frame),ccode P c=some ac→
   xw env f (p.getD .fx) ac ae J=some (e,bZ,ai)->e_ P env ae a J w m B->qo w m (bq J m) B p u->xQ nr cs u ae.gv jZ→
   ∀Q:Exit->Act->List Frame->World->Prop,(∀x cF fJ av aP,ExR av aP (bq ai aP) B e x->e_ P env bZ cF ai av aP B->Ext f J w m ai av aP->xQ nr cs u bZ.gv fJ->Q x cF fJ av)->c.wpSIn (fL none) k P Q a jZ w:=by
 intro c
 induction c with
 |skip=>
  intro ac ae bZ J ai e a w m jZ aa h st hu hd Q cc;simp only[ccode,cJ] at aa;subst aa;have h':some (hE.normal,ae,J)=some (e,bZ,ai):=h;cases h';exact wpSIn_of_wpIn I (wpIn_skip (cc .normal a jZ w m trivial st (Ext.refl _ _ _ _) hd))
 |ret=>
  intro ac ae bZ J ai e a w m jZ aa h st hu hd Q cc;simp only[ccode,cJ] at aa;subst aa;have h':some (hE.ret,ae,J)=some (e,bZ,ai):=h;cases h';exact wpSIn_of_wpIn I (wpIn_ret (cc .ret a jZ w m trivial st (Ext.refl _ _ _ _) hd))
 |label l=>
  intro ac ae bZ J ai e a w m jZ aa h st hu hd Q cc;simp only[ccode,cJ] at aa;subst aa;have h':some (hE.normal,ae,J)=some (e,bZ,ai):=h;cases h';exact wpSIn_of_wpIn I (wpIn_label (cc .normal a jZ w m trivial st (Ext.refl _ _ _ _) hd))
 |region id ops dp=>
  intro ac ae bZ J ai e a w m jZ aa h st hu hd Q cc;cases dp with
  |true=>
   simp only[ccode] at aa;split at aa<;>cases aa<;>(have h':none=some (e,bZ,ai):=h;cases h')
  |false=>
   simp only[ccode] at aa;split at aa<;>cases aa
   ·rename_i l hl;have h':s4 env f (λ_ _ _=>none) (some (p.getD .fx)) false l ae J=some (e,bZ,ai):=h;exact b2C (Ze _ _ _ _ _ _ _ _ _ _ _ hl h' st hu hd Q cc)
   ·have h':none=some (e,bZ,ai):=h;cases h'
 |seq x y Kl Km=>
  intro ac ae bZ J ai e a w m jZ aa h st hu hd Q cc;simp only[ccode] at aa;split at aa<;>cases aa;rename_i bW eN hx hy;have h':(match xw env f (p.getD .fx) bW ae J with|some (.normal,ae,J)=>xw env f (p.getD .fx) eN ae J|r=>r)=some (e,bZ,ai):=h;refine wpSIn_seq ?_;cases wi:xw env f (p.getD .fx) bW ae J with
  |none=>simp[wi] at h'
  |some res=>
   obtain⟨aM,ev,bP⟩:=res;simp only[wi] at h';refine Kl bW ae ev J bP aM a w m jZ hx wi st hu hd _ (λgg aQ tl b4 cV fk gj im l1=>?_);cases aM with
   |normal=>
    cases gg<;>try exact fk.elim
    exact Km eN ev bZ bP ai e aQ b4 cV tl hy h' gj (hu.ext im st.ctx.rel) l1 Q (λx cF fJ av aP h1 h2 h3 aH=>cc x cF fJ av aP h1 h2 (im.trans st.ctx.rel h3) aH)
   |exit id=>cases h';cases gg<;>first|exact fk.elim|exact cc _ aQ tl b4 cV fk gj im l1
   |ret=>cases h';cases gg<;>first|exact fk.elim|exact cc _ aQ tl b4 cV fk gj im l1
   |panic v=>cases h';cases gg<;>first|exact fk.elim|exact cc _ aQ tl b4 cV fk gj im l1
 |cond t x y Kl Km=>
  intro ac ae bZ J ai e a w m jZ aa h st hu hd Q cc;simp only[ccode] at aa;split at aa<;>cases aa;rename_i at' bW eN ht hx hy;have h':(match evalA env ae.bk at' with|some (.b t)=>cond t (xw env f (p.getD .fx) bW ae J) (xw env f (p.getD .fx) eN ae J)|_=>none)=some (e,bZ,ai):=h;split at h'<;>try (cases h';done)
  rename_i fE QP;have QQ:=(st.ctx.ar ht QP).xz;refine wpSIn_cond QQ ?_;cases fE with
  |true=>exact Kl bW ae bZ J ai e a w m jZ hx h' st hu hd Q cc
  |false=>exact Km eN ae bZ J ai e a w m jZ hy h' st hu hd Q cc
 |block id x aC=>
  intro ac ae bZ J ai e a w m jZ aa h st hu hd Q cc;simp only[ccode] at aa;split at aa<;>cases aa;have h':none=some (e,bZ,ai):=h;cases h'
 |loop x aC=>
  intro ac ae bZ J ai e a w m jZ aa h st hu hd Q cc;simp only[ccode] at aa;split at aa<;>cases aa;have h':none=some (e,bZ,ai):=h;cases h'
 |scope x aC=>
  intro ac ae bZ J ai e a w m jZ aa h st hu hd Q cc;simp only[ccode] at aa;split at aa<;>cases aa;have h':none=some (e,bZ,ai):=h;cases h'
 |rangeFunc g aE x y Kl Km=>
  intro ac ae bZ J ai e a w m jZ aa h st hu hd Q cc;simp only[ccode] at aa;split at aa<;>cases aa;have h':none=some (e,bZ,ai):=h;cases h'
 |exit id=>
  intro ac ae bZ J ai e a w m jZ aa h st hu hd Q cc;simp only[ccode,cJ] at aa;subst aa;have h':none=some (e,bZ,ai):=h;cases h'
 |goto l=>
  intro ac ae bZ J ai e a w m jZ aa h st hu hd Q cc;simp only[ccode,cJ] at aa;subst aa;have h':none=some (e,bZ,ai):=h;cases h'
 |refuse l=>
  intro ac ae bZ J ai e a w m jZ aa h st hu hd Q cc;simp only[ccode,cJ] at aa;subst aa;have h':none=some (e,bZ,ai):=h;cases h'
def b2E{J:ad}{w:World}{m:Nat->Option Nat}{O:Nat->Prop}{p:Option AV}{u:FrameMode}(h:qo w m O B p u)(r:Bool):qo w m O B (cond r none p) (settle (if r then Fg u else u)):=by
 cases p with
 |none=>cases u<;>first|exact h.elim|(cases r<;>trivial)
 |some v=>
  cases u<;>try exact h.elim
  obtain⟨oB,rfl,hR⟩:=h;cases r with
  |true=>trivial
  |false=>exact⟨oB,rfl,hR⟩
def QY(hk:uM P env)(f:Nat):QS P env B f (callD env f):=by
 intro bG args p J r ai h k w m u d ak dt hu hd;obtain⟨g,a6,cs,hF,fJ,us,rfl,rfl,QZ,Q0,mL⟩:=hd;unfold callD at h;simp only at h;split at h<;>try (cases h;done)
 rename_i cj hg;obtain⟨fn,hfn,g4,zT⟩:=hk.funcs g cj hg;obtain⟨rs,c,ac,wj,tk,fU,rfl⟩:=QR g4;simp only at h;cases hb:(Nat.beq (a6++args++cs).length (fn.params.size+fn.nfree)&&Nat.ble (a6++args++cs).length fn.ntmps) with
 |false=>rw[hb] at h;cases h
 |true=>
  rw[hb,cond_true] at h;simp only[dD,Qy] at hb;have hinv:=QV (P:=P) hfn tk zT fJ (hF++us) w;have q_:bQ w m (bq J m) B (a6++args++cs) (hF++us++fJ).toList:=by
   simp only[QA];exact(QZ.append mL).append Q0
  have cq:=Zd (fn:=fn) (cj:={kF:=fn.params.size+fn.nfree,ntmps:=fn.ntmps,results:=rs,body:=some ac}) I ak dt hb.2 q_;refine⟨_,_,g,_,rfl,hinv,?_⟩;refine callsDIn_of_wpSIn hfn tk trivial (λnr qp b2F=>?_);have ml:xQ nr qp u false (nr::qp):=by
   unfold xQ;simp only[sX,if_false];rw[<-b2F]
  have fin:∀(e:hE) (ev:Fr) (bP:ad),xw env f (p.getD .fx) ac (vR {kF:=fn.params.size+fn.nfree,ntmps:=fn.ntmps,results:=rs,body:=some ac} (a6++args++cs)) J=some (e,ev,bP)->(e= .normal\/e= .ret)->ev.defers=[]->(∃v,resultsOf bP ev.bk rs=some v)->r=ev.gv->ai=bP→
    c.wpSIn (fL none) k P (bodyPostS P fn nr qp (λe cn av=>(∃v,e= .returned v)/\∃aP,qo av aP (bq ai aP) B (cond r none p) (settle cn)/\Rel P ai av aP B/\Ext f J w m ai av aP)) {tmps:=hF++us++fJ++Array.replicate (fn.ntmps-(hF++us++fJ).size) undef,defers:=[]} (nr::qp) w:=by
   rintro e ev bP cd he b2G ⟨v,c0⟩ rfl rfl;refine runD_ok c ac _ ev J ai e _ w m _ fU cd cq hu ml _ (λx aQ tl b4 cV fk gj im l1=>?_);have Fh:aQ.defers=[]:=by
    have:=gj.defs;rw[b2G] at this;cases aS:aQ.defers with
    |nil=>rfl
    |cons _ _=>rw[aS] at this;exact this.elim
   obtain⟨xP,kK,_⟩:=Za (fn:=fn) gj.ctx.rel gj.ctx.bk wj c0;have Zf:aQ.defers=[]/\∃cn,tl={nr with mode:=cn}::qp/\∃v,(results fn aQ.tmps).run P b4= .ok v b4/\((∃bn,Ending.returned v= .returned bn)/\∃aP,qo b4 aP (bq ai aP) B (cond ev.gv none p) (settle cn)/\Rel P ai b4 aP B/\Ext f J w m ai b4 aP):=
    ⟨Fh,_,l1,xP,kK,⟨xP,rfl⟩,cV,b2E (J:=ai) (hu.ext im ak) ev.gv,gj.ctx.rel,im⟩
   rcases he with rfl|rfl
   ·cases x<;>first|exact fk.elim|exact Zf
   ·cases x<;>first|exact fk.elim|exact Zf
  split at h<;>try (cases h;done)
  ·rename_i ev bP cd;split at h<;>cases h;rename_i l1 c0;exact fin .normal ev ai cd (.inl I) l1 ⟨_,c0⟩ I I
  ·rename_i ev bP cd;split at h<;>cases h;rename_i l1 c0;exact fin .ret ev ai cd (.inr I) l1 ⟨_,c0⟩ I I
end
def Zg{w:World}{b n:Nat}(h:eF w b=some n):b<w.heap.size:=by
 rcases p6 b w.heap.size with h1|h1
 ·exact h1
 ·simp[eF,BT h1] at h
def Zh(J:ad)(base:Nat)(v:AV):freeze J base 0 v=none:=rfl
def freeze_succ(J:ad)(base n:Nat)(v:AV):freeze J base (n+1) v=match v with
  | .ao id off len ab cap=>if Nat.blt id base then none else
   match readList J (.ao id off len ab cap) with
   |none=>none
   |some xs=>match mapO (freeze J base n) xs with|none=>none|some xs=>some (.aV false ab xs)
  | .aj l=>match mapO (freeze J base n) l with|none=>none|some l=>some (.aj l)
  | .bg l=>match mapO (freeze J base n) l with|none=>none|some l=>some (.bg l)
  | .it t v=>match freeze J base n v with|none=>none|some v=>some (.it t v)
  | .p (some _)=>none
  | .m (some _)=>none
  | .f _ _ _=>none
  |v=>some v:=rfl
def Zi{J:ad}{base:Nat}{ab:Option Nat}:∀ {n:Nat} {v bn:AV},freeze J base n v=some bn->conf ab v=true->conf ab bn=true
 |0,v,bn,h,_=>by rw[Zh] at h;cases h
 |n+1,v,bn,h,aa=>by
  rw[freeze_succ] at h;split at h
  ·split at h<;>try (cases h;done)
   split at h<;>try (cases h;done)
   split at h<;>cases h;cases ab<;>simp[conf] at aa ⊢
  ·split at h<;>cases h;rename_i l bD hl;have:=(qc hl).1;cases ab with
   |none=>simp[conf] at aa
   |some k=>simp[conf] at aa ⊢;omega
  ·split at h<;>cases h;cases ab<;>simp[conf] at aa
  ·split at h<;>cases h;cases ab<;>simp[conf] at aa ⊢
  ·cases h
  ·cases h
  ·cases h
  ·cases h;exact aa
section
variable {P:Program}{J:ad}{w:World}{m:Nat->Option Nat}{B:Nat}
def R.Zj{O:Nat->Prop}{v:AV}{ab:Option Nat}(aa:conf ab v=true){us:List Value}(h:bQ w m O B v.cells us)(hf:∀x∈v.cells,conf none x=true):∃u,R w m O B v u/\u.cells.toList=us:=by
 cases ab with
 |none=>
  have aq:v.cells=[v]:=by cases v<;>simp[conf] at aa<;>rfl
  rw[aq] at h;have hl:us.length=1:=h.1;obtain⟨u,rfl⟩:∃u,us=[u]:=by cases us with|nil=>simp at hl|cons u t=>cases t with|nil=>exact⟨u,rfl⟩|cons _ _=>simp at hl
  have ak:=h.2 0 ay ay;simp at ak;refine⟨u,ak,?_⟩;have:=ak.cells;cases ak with
  |y h=>rcases h.alt with⟨_,_,rfl⟩|⟨_,rfl⟩<;>rfl
  |gP hu h=>subst hu;rfl
  |_=>first|rfl|(simp[conf] at aa)
 |some n=>
  cases v<;>simp[conf] at aa;rename_i l;exact⟨.agg us.toArray,R.zs h hf,by simp[Value.cells]⟩
def Q1{c8:ad}{fa:World}{eP:Nat->Option Nat}(qm:Rel P c8 fa eP B)(ak:Rel P J w m B)(he:Ext c8.next c8 fa eP J w m):
  ∀(n:Nat) (v bn:AV) (u:Value),freeze J c8.next n v=some bn->R w m (bq J m) B v u->R w (λ_=>none) (bq c8 eP) B bn u
 |0,v,bn,u,h,_=>by rw[Zh] at h;cases h
 |n+1,v,bn,u,h,aq=>by
  have cv:∀aG,bq c8 eP aG->bq J m aG:=λaG ⟨id,h1,o,h2,h3⟩=>⟨id,he.mono _ _ h1,o,by rw[he.low id (qm.gh _ _ h1).2 (qm.gh _ _ h1).2];exact h2,h3⟩
  have aC:=λv bn u h aq=>Q1 qm ak he n v bn u h aq;have ky:∀ {v:AV} {u:Value},R w (λ_=>none) (bq J m) B v u->R w (λ_=>none) (bq c8 eP) B v u:=λh=>h.mono (λ_ _ h=>h) (a8 _) (λ_ _ h=>h) (λb _ hb=>⟨rfl,λho=>hb (cv b ho)⟩);have list:∀ {l bD:List AV} {us:List Value},mapO (freeze J c8.next n) l=some bD->bQ w m (bq J m) B l us->bQ w (λ_=>none) (bq c8 eP) B bD us:=λ{l bD us} hl mL=>by
   obtain⟨h1,h2⟩:=qc hl;refine⟨by rw[mL.1,h1],λi hi dh=>?_⟩;exact aC _ _ _ (h2 i U hi) (mL.2 i U dh)
  rw[freeze_succ] at h;split at h
  ·-- a slice over vO c9o own part
   rename_i id off len ab cap;split at h<;>try (cases h;done)
   rename_i J9;split at h<;>try (cases h;done)
   rename_i xs dG;split at h<;>cases h;rename_i rb zU;have c9p:c8.next<=id:=by simpa [hC] using J9
   have v8:∀a∈xs,conf ab a=true:=by
    simp only[readList] at dG;split at dG<;>try (cases dG;done)
    rename_i c hg;cases aq with
    |ao hm hl il hn ng=>
     obtain⟨arr,el,bh,hh,mh,vW,a_,lT⟩:=ak.cells hm hg;exact(Cb (λx hx=>lT x (p7 hx)) dG).2.2.2
   have hlen:xs.length=len:=by
    simp only[readList] at dG;split at dG<;>try (cases dG;done)
    rename_i c hg;cases aq with
    |ao hm hl il hn ng=>
     obtain⟨arr,el,bh,hh,mh,vW,a_,lT⟩:=ak.cells hm hg;exact(Cb (λx hx=>lT x (p7 hx)) dG).1
   obtain⟨h1,h2⟩:=qc zU;obtain⟨base,c,us,hu,hle,Cd,Cj,kt,pr⟩:=ES ak aq dG v8;cases aq with
   | @ao _ _ _ _ _ _ aG iq gF _ _ hm hl il hn ng=>
    cases hu;simp only at pr;have nj:¬bq c8 eP aG/\B<=aG:=by
     refine⟨λho=>?_,ak.base _ _ hm⟩;rcases he.new _ _ hm with h3|⟨_,h3|⟨i,hi,aH,bT⟩⟩
     ·have:=(qm.gh _ _ h3).2;omega
     ·have:=qm.XI ho;omega
     ·have:=XJ bT;omega
    have hmul:∀i,i<xs.length->i*shN ab+shN ab<=xs.length*shN ab:=λi hi=>by
     have:=sZ (shN ab) (show i+1<=xs.length from hi);rw[kD,rX] at this;exact this
    have Cc:∀(l:List AV),(∀a∈l,conf ab a=true)->∀i (hi:i<l.length),(l[i]).cells=((l.flatMap AV.cells).drop (i*shN ab)).take (shN ab):=by
     intro l
     induction l with
     |nil=>intro _ i hi;simp at hi
     |cons x l g_=>
      intro hl i hi;have hx:=v3 (hl x ay);cases i with
      |zero=>simp[lR,hx]
      |succ i=>
       have:=g_ (λa ha=>hl a (by simp[ha])) i (by simpa using hi);rw[JB,this,lR,List.drop_append];have aM:(i+1)*shN ab-x.cells.length=i*shN ab:=by rw[hx,kD,rX];omega
       have aU:x.cells.drop ((i+1)*shN ab)=[]:=QB (by rw[hx,kD,rX];omega);rw[aM,aU,xI]
    have elem:∀i (hi:i<xs.length) (dh:i<rb.length),bQ w (λ_=>none) (bq c8 eP) B (rb[i]).cells ((us.drop (i*shN ab)).take (shN ab))/\conf ab (rb[i])=true/\∀x∈(rb[i]).cells,conf none x=true:=λi hi dh=>by
     have re:=v8 _ (bC hi);have mO:∀x∈(xs[i]).cells,conf none x=true:=λx hx=>kt x (uo.2 ⟨_,bC hi,hx⟩);have Q2:bQ w m (bq J m) B (xs[i]).cells ((us.drop (i*shN ab)).take (shN ab)):=by
      rw[Cc xs v8 i hi];exact(Cd.drop _).take _
     obtain⟨b2H,Q3,Q4⟩:=R.Zj re Q2 mO;have bE:=aC _ _ _ (h2 i hi dh) Q3;have h4:=Zi (h2 i hi dh) re;have:=bE.cells;rw[Q4] at this;exact⟨this,h4,bE.leafs h4⟩
    have dM:∀i,i<rb.length->∀j,j<shN ab->∃aA:i*shN ab+j<us.length,((us.drop (i*shN ab)).take (shN ab))[j]? =some (us[i*shN ab+j]):=λi hi j aA=>by
     have:=hmul i U;refine⟨U,?_⟩;rw[vK aA,ui,cp U]
    rw[<-h1];refine .aV (λi j=>(us[i*shN ab+j]?).getD undef) (λ_=>⟨nj.1,Zg hn,λ_=>nj.2⟩) (λi hi=>(elem i U hi).2.1) (λi hi j aA=>?_) (λi hi j aA=>?_) U (λv aq=>?_) (λ_=>rfl)
    ·have fB:j<shN ab:=by rw[v3 (elem i U hi).2.1] at aA;exact aA
     obtain⟨hlt,_⟩:=dM i hi j fB;have:=pr.2.1 (i*shN ab+j) _ (cp hlt);rw[mf,← qO] at this;rw[this,cp hlt];rfl
    ·have fB:j<shN ab:=by rw[v3 (elem i U hi).2.1] at aA;exact aA
     obtain⟨hlt,np⟩:=dM i hi j fB;obtain⟨b2I,Fi,Q5⟩:=(elem i U hi).1.get (cp aA);rw[np] at Fi;cases Fi;rw[cp hlt];exact Q5
    ·obtain⟨i,hi,rfl⟩:=iP aq;exact(elem i U hi).2.2
  ·split at h<;>cases h;rename_i l bD hl;obtain⟨bp,rfl,pq,kt⟩:=aq.r6;refine R.zs (list hl pq) (λx hx=>?_) |> λh=>by simpa using h
   obtain⟨i,hi,rfl⟩:=iP hx;have:=qc hl;exact Zi (this.2 i U hi) (kt _ (bC _))
  ·split at h<;>cases h;rename_i l bD hl;obtain⟨bp,rfl,pq⟩:=aq.PY;have:=R.vV (list hl pq);simpa using this
  ·split at h<;>cases h;rename_i sl;cases aq with
   |it h=>exact .it (aC _ _ _ sl h)
  ·cases h
  ·cases h
  ·cases h
  ·rename_i jf iH qZ uN Kn Zk Zl;cases h;cases aq with
   |b x=>exact .b x
   |i k n=>exact .i k n
   |s l h=>exact .s l h
   |r4=>exact .r4
   |p h=>exact absurd I (Kn _)
   |df ba h1 hb b0 aa gQ hf=>exact .df ba (λho=>h1 (cv _ ho)) hb b0 aa (λj aA=>ky (gQ j aA)) hf
   |nilsl=>exact .nilsl
   |ao=>exact absurd I (jf _ _ _ _ _)
   |mH=>exact .mH
   |aV ba h1 al aa gQ hl hf fI=>exact .aV ba (λaY=>⟨λho=>(h1 aY).1 (cv _ ho),(h1 aY).2⟩) al aa (λi hi j aA=>ky (gQ i hi j aA)) hl hf fI
   |s5=>exact .s5
   |mp h=>exact absurd I (Zk _)
   |cC=>exact absurd I (Zl _ _ _)
   |vT=>exact absurd I (Zl _ _ _)
   |hD=>exact .hD
   |it h=>exact absurd I (uN _ _)
   |fx=>exact .fx
   |aj=>exact absurd I (iH _)
   |bg=>exact absurd I (qZ _)
   |ih h hn=>exact .ih h hn
   |iQ h=>exact .iQ h
   |jr n h=>exact .jr n h
   |y h=>exact .y h
   |gP hu h=>exact .gP hu (ky h)
end
section
def R.b2J{w:World}{m:Nat->Option Nat}{O:Nat->Prop}{B eG:Nat}(b0:eG<=B){v:AV}{u:Value}(h:R w m O B v u):R w m O eG v u:=by
 induction h with
 |b x=>exact .b x
 |i k n=>exact .i k n
 |s l h=>exact .s l h
 |r4=>exact .r4
 |p h=>exact .p h
 |df ba cv hb b2K aa ak hf aC=>exact .df ba cv hb (λh=>p5 b0 (b2K h)) aa (λj aA=>aC j aA b0) hf
 |nilsl=>exact .nilsl
 |ao h hl aa hn ng=>exact .ao h hl aa hn ng
 |mH=>exact .mH
 |aV ba cv al aa ak hl hf fI aC=>exact .aV ba (λaY=>⟨(cv aY).1,(cv aY).2.1,λh=>p5 b0 ((cv aY).2.2 h)⟩) al aa (λi h j aA=>aC i h j aA b0) hl hf fI
 |s5=>exact .s5
 |mp h=>exact .mp h
 |cC hf bE aa uu PN s6=>exact .cC hf (λi h h'=>PN i h h' b0) aa (λi h h'=>s6 i h h' b0)
 |vT h=>exact .vT h
 |hD=>exact .hD
 |it _ aC=>exact .it (aC b0)
 |fx=>exact .fx
 |aj al _ hf aC=>exact .aj al (λi h h'=>aC i h h' b0) hf
 |bg al _ aC=>exact .bg al (λi h h'=>aC i h h' b0)
 |ih h hn=>exact .ih h hn
 |iQ h=>exact .iQ h
 |jr n h=>exact .jr n h
 |y h=>exact .y h
 |gP hu _ aC=>exact .gP hu (aC b0)
variable [TokOk]
section
variable {P:Program}{env:Env}{J:ad}{w:World}{m:Nat->Option Nat}{B f:Nat}
def Zm{bP:ad}{b4:World}{cV:Nat->Option Nat}(ak:Rel P J w m B)(he:Ext J.next J w m bP b4 cV):Rel P J b4 m B/\Ext f J w m J b4 m:=by
 have pD:∀aG,¬zo J.next J m aG:=λaG ⟨id,h1,h2,h3⟩=>by have:=XJ h3;omega
 have dR:Ext f J w m J b4 m:=⟨λ_ _ h=>h,λ_ _ h=>.inl h,a8 _,he.size,he.bV,λb hb _=>he.aD b hb (pD b),λ_ _ _=>rfl,λ_ _ h=>h,he.os,he.tape,he.out,λ_ _ _=>rfl⟩
 refine⟨⟨ak.len,λid aG h=>⟨zJ (ak.gh _ _ h).1 he.size,(ak.gh _ _ h).2⟩,λid aG o h hg hd=>?_,ak.inj,ak.base,p5 ak.lS he.size⟩,dR⟩;obtain⟨bF,h1,h2⟩:=ak.obj id aG o h hg hd;exact⟨bF,by rw[he.aD aG (ak.gh _ _ h).1 (pD aG)];exact h1,h2.mono dR.mono dR.size dR.bV (dR.uv ak)⟩
def Cv(P:Program)(env:Env)(b2:Nat):Prop:=
 ∀g aO r,env.spec g aO=some r->(∃fn c,P.funcs[g]? =some fn/\fn.body=some c/\(fn.name== "runtime.NumGoroutine")=false)∧
  ∀k rd w us,b2<=w.heap.size->Globs env w b2->bQ w (λ_=>none) (λ_=>False) w.heap.size aO us.toList→
   CallsIn (fL rd) k P g us w (λe b4=>∃u,e= .returned u/\R b4 (λ_=>none) (λb=>b<w.heap.size) w.heap.size r u/\w.heap.size<=b4.heap.size/\(∀b,b<w.heap.size->b4.heap[b]? =w.heap[b]?)/\b4.os=w.os/\b4.tape=w.tape/\b4.output=w.output)
def Cw(P:Program)(env:Env):Prop:=
 ∀g,env.ext g≠0->∀args v,extRow (env.ext g) args=some v->∀w m O B us cs,bQ w m O B args (us++cs).toList->∃u,(invoke (.fn (.func g) cs) us).run P w= .ok (.value u) w/\R w m O B v u
def Zn(J:ad)(v:AV):bt J 0 v=none:=rfl
def snapshot_succ(J:ad)(n:Nat)(v:AV):bt J (n+1) v=match v with
  | .ao id off len ab cap=>
   match readList J (.ao id off len ab cap) with
   |none=>none
   |some xs=>match mapO (bt J n) xs with|none=>none|some xs=>some (.aV true ab xs)
  | .nilsl=>some .nilsl
  | .aV _ ab xs=>match mapO (bt J n) xs with|none=>none|some xs=>some (.aV true ab xs)
  | .aj l=>match mapO (bt J n) l with|none=>none|some l=>some (.aj l)
  | .bg l=>match mapO (bt J n) l with|none=>none|some l=>some (.bg l)
  | .it t v=>match bt J n v with|none=>none|some v=>some (.it t v)
  | .p (some _)=>none
  | .m (some _)=>none
  | .df _ _=>none
  | .f _ _ _=>none
  | .gP _ i=>some (.gP true i)
  |v=>some v:=rfl
def Zo{ab:Option Nat}:∀ {n:Nat} {v bn:AV},bt J n v=some bn->conf ab v=true->conf ab bn=true
 |0,v,bn,h,_=>by rw[Zn] at h;cases h
 |n+1,v,bn,h,aa=>by
  rw[snapshot_succ] at h;split at h
  ·split at h<;>try (cases h;done)
   split at h<;>cases h;cases ab<;>simp[conf] at aa ⊢
  ·cases h;exact aa
  ·split at h<;>cases h;cases ab<;>simp[conf] at aa ⊢
  ·split at h<;>cases h;rename_i l bD hl;have:=(qc hl).1;cases ab with
   |none=>simp[conf] at aa
   |some k=>simp[conf] at aa ⊢;omega
  ·split at h<;>cases h;cases ab<;>simp[conf] at aa
  ·split at h<;>cases h;cases ab<;>simp[conf] at aa ⊢
  ·cases h
  ·cases h
  ·cases h
  ·cases h
  ·cases h;cases ab<;>simp[conf] at aa ⊢
  ·cases h;exact aa
def b2L{ab:Option Nat}:∀(l:List AV),(∀a∈l,conf ab a=true)->∀i (hi:i<l.length),(l[i]).cells=((l.flatMap AV.cells).drop (i*shN ab)).take (shN ab):=by
 intro l
 induction l with
 |nil=>intro _ i hi;simp at hi
 |cons x l g_=>
  intro hl i hi;have hx:=v3 (hl x ay);cases i with
  |zero=>simp[lR,hx]
  |succ i=>
   have:=g_ (λa ha=>hl a (by simp[ha])) i (by simpa using hi);rw[JB,this,lR,List.drop_append];have aM:(i+1)*shN ab-x.cells.length=i*shN ab:=by rw[hx,kD,rX];omega
   have aU:x.cells.drop ((i+1)*shN ab)=[]:=QB (by rw[hx,kD,rX];omega);rw[aM,aU,xI]
def b2M{O:Nat->Prop}{old:Bool}{ab:Option Nat}{aG off c:Nat}{xs:List AV}{us:List Value}(cv:xs≠[]->¬O aG/\aG<w.heap.size/\(old=false->B<=aG))(Cj:us.length=xs.length*shN ab)
  (pr:∀j u,us[j]? =some u->w.cell? ⟨aG,off+j,none⟩=some u)
  (elem:∀i (hi:i<xs.length),bQ w (λ_=>none) O B (xs[i]).cells ((us.drop (i*shN ab)).take (shN ab))/\conf ab (xs[i])=true/\∀x∈(xs[i]).cells,conf none x=true) (hle:xs.length<=c):
  R w m O B (.aV old ab xs) (.slice (some ⟨aG,off,none⟩) xs.length c):=by
 have hmul:∀i,i<xs.length->i*shN ab+shN ab<=xs.length*shN ab:=λi hi=>by
  have:=sZ (shN ab) (show i+1<=xs.length from hi);rw[kD,rX] at this;exact this
 have dM:∀i,i<xs.length->∀j,j<shN ab->∃aA:i*shN ab+j<us.length,((us.drop (i*shN ab)).take (shN ab))[j]? =some (us[i*shN ab+j]):=λi hi j aA=>by
  have:=hmul i hi;refine⟨U,?_⟩;rw[vK aA,ui,cp U]
 refine .aV (λi j=>(us[i*shN ab+j]?).getD undef) cv (λi hi=>(elem i hi).2.1) (λi hi j aA=>?_) (λi hi j aA=>?_) hle (λv aq=>?_) (λ_=>rfl)
 ·have fB:j<shN ab:=by rw[v3 (elem i hi).2.1] at aA;exact aA
  obtain⟨hlt,_⟩:=dM i hi j fB;have:=pr (i*shN ab+j) _ (cp hlt);rw[<-qO] at this;rw[this,cp hlt];rfl
 ·have fB:j<shN ab:=by rw[v3 (elem i hi).2.1] at aA;exact aA
  obtain⟨hlt,np⟩:=dM i hi j fB;obtain⟨b2I,Fi,Q5⟩:=(elem i hi).1.get (cp aA);rw[np] at Fi;cases Fi;rw[cp hlt];exact Q5
 ·obtain⟨i,hi,rfl⟩:=iP aq;exact(elem i hi).2.2
def Zp(ak:Rel P J w m B)(eG:Nat):∀(n:Nat) (v bn:AV) (u:Value),bt J n v=some bn->R w m (bq J m) B v u->R w (λ_=>none) (λ_=>False) eG bn u
 |0,v,bn,u,h,_=>by rw[Zn] at h;cases h
 |n+1,v,bn,u,h,aq=>by
  have aC:=λv bn u h aq=>Zp ak eG n v bn u h aq;have list:∀ {l bD:List AV} {us:List Value},mapO (bt J n) l=some bD->bQ w m (bq J m) B l us->bQ w (λ_=>none) (λ_=>False) eG bD us:=λ{l bD us} hl mL=>by
   obtain⟨h1,h2⟩:=qc hl;refine⟨by rw[mL.1,h1],λi hi dh=>?_⟩;exact aC _ _ _ (h2 i U hi) (mL.2 i U dh)
  have slice:∀ {x:AV} {ab:Option Nat} {xs rb:List AV},readList J x=some xs->mapO (bt J n) xs=some rb->R w m (bq J m) B x u->(∀a∈xs,conf ab a=true)->R w (λ_=>none) (λ_=>False) eG (.aV true ab rb) u:=λ{x ab xs rb} dG zU hx v8=>by
   obtain⟨h1,h2⟩:=qc zU;obtain⟨base,c,us,rfl,hle,Cd,Cj,kt,pr⟩:=ES ak hx dG v8;cases base with
   |none=>
    obtain⟨rfl,rfl⟩:=pr;have:rb=[]:=p9 (by simpa using h1);subst this;exact .mH
   |some a=>
    obtain⟨aG,off,sp⟩:=a;obtain⟨fI,pr,hlt⟩:=pr;by_cases oy:xs=[]
    ·subst oy;have:rb=[]:=p9 (by simpa using h1);subst this;exact .aV (xs:=[]) (λ_ _=>undef) (λh=>absurd I h) (λi h=>by simp at h) (λi h=>by simp at h) (λi h=>by simp at h) (jD _) (λv aq=>by simp at aq) (λh=>absurd I h)
    obtain rfl:=fI oy;rw[<-h1];refine b2M (us:=us) (λaY=>⟨λh=>h,?_,λh=>by cases h⟩) (by rw[h1];exact Cj) (λj u hu=>by have:=pr j u hu;rw[mf] at this;exact this) (λi hi=>?_) U
    ·exact hlt (λhe=>aY (p9 (by rw[h1,he];rfl)))
    ·have wo:i<xs.length:=by omega
     have re:=v8 _ (bC wo);have mO:∀x∈(xs[i]).cells,conf none x=true:=λx hx=>kt x (uo.2 ⟨_,bC wo,hx⟩);have Q2:bQ w m (bq J m) B (xs[i]).cells ((us.drop (i*shN ab)).take (shN ab)):=by
      rw[b2L xs v8 i wo];exact(Cd.drop _).take _
     obtain⟨b2H,Q3,Q4⟩:=R.Zj re Q2 mO;have bE:=aC _ _ _ (h2 i wo hi) Q3;have h4:=Zo (h2 i wo hi) re;have:=bE.cells;rw[Q4] at this;exact⟨this,h4,bE.leafs h4⟩
  rw[snapshot_succ] at h;split at h
  ·rename_i id off len ab cap;split at h<;>try (cases h;done)
   rename_i xs dG;split at h<;>cases h;rename_i rb zU;refine slice dG zU aq ?_;have c9q:=dG;simp only[readList] at dG;split at dG<;>try (cases dG;done)
   rename_i c hg;cases aq with
   |ao hm hl il hn ng=>
    obtain⟨arr,el,bh,hh,mh,vW,a_,lT⟩:=ak.cells hm hg;exact(Cb (λx hx=>lT x (p7 hx)) dG).2.2.2
  ·cases h;cases aq;exact .nilsl
  ·rename_i o ab xs;split at h<;>cases h;rename_i rb zU;refine slice (x:=.aV o ab xs) I zU aq ?_;intro a ha;cases aq with
   |mH=>simp at ha
   |aV ba cv al aa gQ hl hf fI=>
    obtain⟨i,hi,rfl⟩:=iP ha;exact al i hi
  ·split at h<;>cases h;rename_i l bD hl;obtain⟨bp,rfl,pq,kt⟩:=aq.r6;refine R.zs (list hl pq) (λx hx=>?_) |> λh=>by simpa using h
   obtain⟨i,hi,rfl⟩:=iP hx;have:=qc hl;exact Zo (this.2 i U hi) (kt _ (bC _))
  ·split at h<;>cases h;rename_i l bD hl;obtain⟨bp,rfl,pq⟩:=aq.PY;have:=R.vV (list hl pq);simpa using this
  ·split at h<;>cases h;rename_i sl;cases aq with
   |it h=>exact .it (aC _ _ _ sl h)
  ·cases h
  ·cases h
  ·cases h
  ·cases h
  ·cases h;cases aq with
   |gP hu h=>exact .gP hu (TokOk.snap h)
  ·rename_i cy c6 dx eC gw h5 j0 oD oE Zq b2N;cases h;cases aq with
   |b x=>exact .b x
   |i k n=>exact .i k n
   |s l h=>exact .s l h
   |r4=>exact .r4
   |s5=>exact .s5
   |hD=>exact .hD
   |fx=>exact .fx
   |nilsl=>exact .nilsl
   |p h=>exact absurd I (j0 _)
   |mp h=>exact absurd I (oD _)
   |df=>exact absurd I (oE _ _)
   |cC=>exact absurd I (Zq _ _ _)
   |vT=>exact absurd I (Zq _ _ _)
   |ao=>exact absurd I (cy _ _ _ _ _)
   |mH=>exact absurd I (dx _ _ _)
   |aV=>exact absurd I (dx _ _ _)
   |it h=>exact absurd I (h5 _ _)
   |aj=>exact absurd I (eC _)
   |bg=>exact absurd I (gw _)
   |jr n h=>exact .jr n h
   |y h=>exact .y h
   |gP hu h=>exact absurd I (b2N _ _)
   |ih h hn=>exact .ih h hn
   |iQ h=>exact .iQ h
end
end
end
section
variable [Tok][TokOk]
open Go.RowKit
def Ko{α:Type}{g:α->α->Bool}(hg:∀x y,g x y=true->x=y):∀(l r:List α),gu g l r=true->l=r
 |[],[],_=>rfl
 |[],_::_,h=>by cases h
 |_::_,[],h=>by cases h
 |x::l,y::r,h=>by
  have h:cond (g x y) (gu g l r) false=true:=h;cases zV:g x y with
  |false=>rw[zV] at h;cases h
  |true=>
   rw[zV,cond_true] at h;rw[hg x y zV,Ko hg l r h]
def AV.Cx:∀(n:Nat) (x y:AV),AV.eqb n x y=true->x=y
 |0,_,_,h=>by cases h
 |n+1,x,z,h=>by
  have aC:=AV.Cx n;have g_:=Ko aC;cases x
  case p a=>
   cases a with
   |none=>
    cases z
    case p b=>
     cases b with
     |none=>rfl
     |some b=>exfalso;revert h;show ¬(false=true);simp
    all_goals (exfalso;revert h;show ¬(false=true);simp)
   |some a=>
    cases z
    case p b=>
     cases b with
     |none=>exfalso;revert h;show ¬(false=true);simp
     |some b=>
      have h:(Nat.beq a.1 b.1&&Nat.beq a.2 b.2)=true:=h;simp only[dD,p8] at h;rw[Prod.ext h.1 h.2]
    all_goals (exfalso;revert h;show ¬(false=true);simp)
  case m a=>
   cases a with
   |none=>
    cases z
    case m b=>
     cases b with
     |none=>rfl
     |some b=>exfalso;revert h;show ¬(false=true);simp
    all_goals (exfalso;revert h;show ¬(false=true);simp)
   |some a=>
    cases z
    case m b=>
     cases b with
     |none=>exfalso;revert h;show ¬(false=true);simp
     |some b=>
      have h:Nat.beq a b=true:=h;rw[gE h]
    all_goals (exfalso;revert h;show ¬(false=true);simp)
  all_goals (cases z<;>first
   |rfl
   |(exfalso;revert h;show ¬(false=true);simp;done)
   |skip)
  case b.b a b=>have h:(a==b)=true:=h;simpa using h
  case i.i k a l b=>
   have h:(decide (k=l)&&decide (a=b))=true:=h;simp at h;rw[h.1,h.2]
  case s.s a b=>have h:eqL a b=true:=h;rw[(qe _ _).1 h]
  case df.df vQ a cu b=>
   have h:((vQ==cu)&&AV.eqb n a b)=true:=h;simp only[dD,beq_iff_eq] at h;rw[h.1,aC _ _ h.2]
  case ao.ao aQ aZ bX cS ed dg cD dn e4 k4=>
   have h:(Nat.beq aQ dg&&Nat.beq aZ cD&&Nat.beq bX dn&&decide (cS=e4)&&decide (ed=k4))=true:=h;simp only[dD,p8,decide_eq_true_eq] at h;obtain⟨⟨⟨⟨rfl,rfl⟩,rfl⟩,rfl⟩,rfl⟩:=h;rfl
  case aV.aV vQ Kp a cu sb b=>
   have h:((vQ==cu)&&decide (Kp=sb)&&gu (AV.eqb n) a b)=true:=h;simp only[dD,beq_iff_eq,decide_eq_true_eq] at h;rw[h.1.1,h.1.2,g_ _ _ h.2]
  case f.f cR aQ aZ fb dg cD=>
   have h:(decide (cR=fb)&&(gu (AV.eqb n) aQ dg&&gu (AV.eqb n) aZ cD))=true:=h;simp only[dD,decide_eq_true_eq] at h;rw[h.1,g_ _ _ h.2.1,g_ _ _ h.2.2]
  case it.it t a u b=>
   have h:(Nat.beq t u&&AV.eqb n a b)=true:=h;simp only[dD,p8] at h;rw[h.1,aC _ _ h.2]
  case aj.aj a b=>have h:gu (AV.eqb n) a b=true:=h;rw[g_ _ _ h]
  case bg.bg a b=>have h:gu (AV.eqb n) a b=true:=h;rw[g_ _ _ h]
  case ih.ih k a b l c d=>
   have h:(decide (k=l)&&(Nat.beq a c&&Nat.beq b d))=true:=h;simp only[dD,p8,decide_eq_true_eq] at h;rw[h.1,h.2.1,h.2.2]
  case jr.jr a b=>have h:(a==b)=true:=h;rw[eq_of_beq h]
  case y.y a b=>
   have h:Nat.beq a b=true:=h;rw[gE h]
  case gP.gP o a p b=>
   have h:((o==p)&&Nat.beq a b)=true:=h;simp only[dD,beq_iff_eq,p8] at h;rw[h.1,h.2]
  case iQ.iQ a b=>have h:gu eqL a b=true:=h;rw[Ko (λx y h=>(qe x y).1 h) _ _ h]
def Zr{n base:Nat}{l:List (ee×ad)}{v:AV}(h:joinF n base l=some v):∀ret ai,(ret,ai)∈l->∃v0,ret= .ok v0/\freeze ai base n v0=some v:=by
 unfold joinF at h;split at h
 ·cases h
 rename_i x t;split at h
 ·cases h
 rename_i v0 c8;split at h
 ·cases h
 rename_i v1 wq;cases hall:cN (zj n base v1) t with
 |false=>rw[hall] at h;cases h
 |true=>
  rw[hall,cond_true] at h;cases h;intro ret ai eO;rcases c2.1 eO with he|eO
  ·cases he;exact⟨_,rfl,wq⟩
  ·have:=pw hall _ eO;cases ret with
   |err w=>cases this
   |ok w=>
    simp only[zj] at this;split at this
    ·rename_i b4 lB;exact⟨w,rfl,by rw[lB,AV.Cx _ _ _ this]⟩
    ·cases this
section
variable {P:Program}{env:Env}{B:Nat}
def Zs(hk:uM P env)(fI:Cv P env B){run:kd}(cd:sj P env B run){f g:Nat}{args:List AV}{J:ad}{k_:List (ee×ad)}(h:callF env run f g args J=some k_)(Cy:env.ext g=0)(k:Nat)(r:Option Nat)
  {w:World} {m:Nat->Option Nat} (ak:Rel P J w m B) (dt:Globs env w B) {us:Array Value} (ha:bQ w m (bq J m) B args us.toList):
  (∃fn c,P.funcs[g]? =some fn/\fn.body=some c/\(fn.name== "runtime.NumGoroutine")=false)∧
  CallsIn (fL r) k P g us w (λe av=>∃ret ai,(ret,ai)∈k_/\∃aP,tg av aP (bq ai aP) B ret e/\Rel P ai av aP B/\Ext f J w m ai av aP):=by
 unfold callF at h;rw[Cy] at h;simp only at h;cases an:env.pure g with
 |false=>
  rw[an,cond_false] at h;exact QW hk cd (QY hk f) h k r ak dt ha
 |true=>
  rw[an,cond_true] at h;split at h
  ·-- known
   rename_i v aq;cases h;split at aq<;>try (cases aq;done)
   rename_i aO Q6;obtain⟨hb,aa⟩:=fI g aO v aq;refine⟨hb,?_⟩;have b2O:bQ w (λ_=>none) (λ_=>False) w.heap.size aO us.toList:=by
    obtain⟨h1,h2⟩:=qc Q6;refine⟨by rw[ha.1,h1],λi hi dh=>?_⟩;exact Zp ak _ env.bh _ _ _ (h2 i U hi) (ha.2 i U dh)
   refine E0 (aa k r w us ak.lS dt b2O) (λe b4 c0=>?_);obtain⟨u,rfl,hR,cz,J8,ni,qU,mI⟩:=c0;have ij:∀b n,eF w b=some n->eF b4 b=some n:=λb n hb=>by
    have:=Zg hb;unfold eF at hb ⊢;rw[J8 b this];exact hb
   have he:Ext J.next J w m J b4 m:=⟨λ_ _ h=>h,λ_ _ h=>.inl h,a8 _,cz,ij,λb hb _=>J8 b hb,λ_ _ _=>rfl,λ_ _ h=>h,ni,qU,mI,λ_ _ _=>rfl⟩
   obtain⟨h1,h2⟩:=Zm (f:=f) ak he;refine⟨_,_,cA.2 I,m,?_,h1,h2⟩;have Fj:R b4 (λ_=>none) (bq J m) w.heap.size v u:=hR.mono (λ_ _ h=>h) (a8 _) (λ_ _ h=>h) (λb _ hb=>⟨rfl,λho=>hb (ak.XI ho)⟩);exact(Fj.b2J ak.lS).up
  ·-- run,and vO store dropped
   split at h<;>try (cases h;done)
   rename_i l b2P;split at h<;>cases h;rename_i bn hfz;obtain⟨hb,aa⟩:=QW hk cd (QY hk J.next) b2P k r ak dt ha;refine⟨hb,?_⟩;refine E0 aa (λe b4 c0=>?_);obtain⟨ret,bP,eO,cV,mN,k9,hY⟩:=c0;obtain⟨v,rfl,b2Q⟩:=Zr hfz _ _ eO;obtain⟨h1,h2⟩:=Zm (f:=f) ak hY;refine⟨_,_,cA.2 I,m,?_,h1,h2⟩;cases e with
   |returned u=>exact(Q1 ak k9 hY env.bh v bn u b2Q mN).up
   |panicked pz=>exact mN.elim
   |outgrown=>exact mN.elim
def b2R(hk:uM P env)(fI:Cv P env B)(hex:Cw P env){run:kd}(cd:sj P env B run){f g:Nat}{args:List AV}{J:ad}{k_:List (ee×ad)}(h:callF env run f g args J=some k_)(k:Nat)(r:Option Nat)
  {w:World} {m:Nat->Option Nat} (ak:Rel P J w m B) (dt:Globs env w B) {us cs:Array Value} (ha:bQ w m (bq J m) B args (us++cs).toList):
  match(invoke (.fn (.func g) cs) us).run P w with
  | .ok (.enter b9 Ct) av=>CallsIn (fL r) k P b9 Ct av (λe av=>∃ret ai,(ret,ai)∈k_/\∃aP,tg av aP (bq ai aP) B ret e/\Rel P ai av aP B/\Ext f J w m ai av aP)
  | .ok (.round l b9 tmps as b) av=>RoundIn (fL r) k P l b9 tmps as b av (λe av=>∃ret ai,(ret,ai)∈k_/\∃aP,tg av aP (bq ai aP) B ret e/\Rel P ai av aP B/\Ext f J w m ai av aP)
  | .ok (.value v) av=>(λe av=>∃ret ai,(ret,ai)∈k_/\∃aP,tg av aP (bq ai aP) B ret e/\Rel P ai av aP B/\Ext f J w m ai av aP) (.returned v) av
  |_=>False:=by
 by_cases Cy:env.ext g=0
 ·obtain⟨⟨fn,c,h1,h2,h3⟩,aa⟩:=Zs hk fI cd h Cy k r ak dt ha;rw[QV h1 h2 h3 cs us w];exact aa
 ·unfold callF at h;split at h
  ·rename_i h0;exact absurd h0 Cy
  rename_i n aY;split at h<;>cases h;rename_i v aq;obtain⟨u,h1,h2⟩:=hex g (λh0=>aY h0) args v aq w m (bq J m) B us cs ha;rw[h1];exact⟨_,_,cA.2 I,m,h2,ak,Ext.refl _ _ _ _⟩
end
def b2S(args:List AV)(ao:a1 AV):layAll [] args ao=ao:=rfl
def b2T(p:Nat)(aE:List Nat)(args:List AV)(ao:a1 AV):layAll (p::aE) args ao=match args with|[]=>ao|a::args=>layAll aE args (ao.set p a):=rfl
def Zt{w:World}{m:Nat->Option Nat}{O:Nat->Prop}{B:Nat}:∀(aE:List Nat) (args:List AV) (us:List Value) (ao:a1 AV) (tmps:Array Value),jU w m O B ao tmps.toList->bQ w m O B args us->aE.length=args.length→
  jU w m O B (layAll aE args ao) ((aE.zip us).foldl (λ(tmps:Array Value) (x:Nat×Value)=>tmps.setIfInBounds x.1 x.2) tmps).toList
 |[],args,us,ao,tmps,al,ha,hl=>by simpa [b2S] using al
 |p::aE,[],us,ao,tmps,al,ha,hl=>by simp at hl
 |p::aE,a::args,us,ao,tmps,al,ha,hl=>by
  cases us with
  |nil=>have:=ha.1;simp at this
  |cons u us=>
   rw[b2T];simp only[Xl,BV];refine Zt aE args us _ _ ?_ (by simpa using ha.drop 1) (by simpa using hl);exact al.put p (ha.2 0 ay ay)
section
variable {P:Program}{env:Env}{B:Nat}
def Rel.Fk{J:ad}{w:World}{m:Nat->Option Nat}(ak:Rel P J w m B){id aG:Nat}{st:LoopState}{nf:Option b5}{ao:a1 AV}{aE:List Nat}{as b:b5}{d:Nat}(hm:m id=some aG)(hg:J.get id=some (.loop st nf ao aE as b d)):
  ∃po fn tmps jb fq D,w.heap[aG]? =some (.loop {state:=st,pending:=po,fn,tmps,params:=aE.toArray,assign:=jb,body:=fq,defers:=D})/\JO P nf po/\jU w m (bq J m) B ao tmps.toList/\ccode P jb=some as/\ccode P fq=some b/\m d=some D:=by
 obtain⟨bF,h1,h2⟩:=ak.obj _ _ _ hm hg I;cases h2 with
 |loop k7 al ha hb hd=>exact⟨_,_,_,_,_,_,h1,k7,al,ha,hb,hd⟩
def Rel.Kq{J:ad}{w:World}{m:Nat->Option Nat}(ak:Rel P J w m B){f id aG:Nat}(hf:f<=id)(hm:m id=some aG){o:AO}{r:Loop}(hl:live J id)(hb:eF w aG=none)(hlt:aG<w.heap.size)(hd:o.isDead=false)(ho:nO P w m (bq J m) B o (.loop r)):
  Rel P (J.set id o) (w.putObj aG (.loop r)) m B/\Ext f J w m (J.set id o) (w.putObj aG (.loop r)) m:=
 ak.di hf hm hl (w.putObj aG (.loop r)) o ay (λb aY=>YO aY) (λn hn=>by rw[hb] at hn;cases hn) rfl rfl rfl (λ_=>⟨_,World.putObj_heap_same hlt,ho⟩)
def b2U{run:kd}(cd:sj P env B run){f l:Nat}{args:List AV}{J:ad}{k_:List (ee×ad)}(h:PK run f l args J=some k_)(k:Nat)(r:Option Nat)
  {w:World} {m:Nat->Option Nat} (ak:Rel P J w m B) (dt:Globs env w B) {us:Array Value} (ha:bQ w m (bq J m) B args us.toList) {aG:Nat} (hm:m l=some aG):
  ∃b9 tmps as b,(invoke (.fn (.yield aG) #[]) us).run P w= .ok (.round aG b9 tmps as b) w/\RoundIn (fL r) k P aG b9 tmps as b w (λe av=>∃ret ai,(ret,ai)∈k_/\∃aP,tg av aP (bq ai aP) B ret e/\Rel P ai av aP B/\Ext f J w m ai av aP):=by
 unfold PK at h;split at h<;>try (cases h;done)
 rename_i du;have q1:f<=l:=by simpa [hC] using du
 split at h<;>try (cases h;done)
 rename_i nf ao aE as b d hg;obtain⟨po,fn,tmps,jb,fq,D,hh,k7,al,has,J1,hd⟩:=ak.Fk hm hg;cases Q7:Nat.beq aE.length args.length with
 |false=>rw[Q7] at h;cases h
 |true=>
  rw[Q7,cond_true] at h;have hlen:=gE Q7;have mL:us.size=aE.length:=by have:=ha.1;simp at this;omega
  have hy:=run_yield (P:=P) (args:=us) hh (by simpa using mL);refine⟨_,_,_,_,hy,?_⟩;have fM:e_ P env ⟨layAll aE args ao,[],false⟩ {tmps:=(aE.toArray.zip us).foldl (λtmps (t,a)=>tmps.setIfInBounds t a) tmps,defers:=[]} J w m B:=by
   refine⟨⟨ak,?_,dt⟩,trivial⟩;have:=Zt aE args us.toList ao tmps al ha hlen;have aM:(aE.toArray.zip us)=(aE.zip us.toList).toArray:=by
    apply om;simp
   rw[aM];simpa using this
  obtain⟨jY,k9,b2V⟩:=xL h;refine roundIn_of_wpIn trivial ?_;refine(cd _ _ _ _ _ _ k9 k (some aG) jb _ w m has hm fM _ (λaM ev bP b2W gg aQ b4 cV fk gj im=>?_)).1;obtain⟨ef,eB,Q8⟩:=b2V _ b2W;cases aM<;>try (cases eB;done)
  cases gg<;>try exact fk.elim
  simp only[roundMid] at eB;split at eB<;>try (cases eB;done)
  rename_i c9r Q9 b2X as1 dg d1 qq;have lC:=im.mono _ _ hm;obtain⟨b2Y,b2Z,b3a,b3b,b3c,Zu,zw,b3d,l2,b3e,b3f,l1⟩:=gj.ctx.rel.Fk lC qq;have b3g:=B5 zw;have jX:eF b4 aG=none:=by unfold eF;rw[zw]
  obtain⟨kx,ox⟩:=gj.ctx.rel.Kq (f:=f) q1 lC (r:={state:=.busy,pending:=b2Y,fn:=b2Z,tmps:=b3a,params:=b2X.toArray,assign:=b3b,body:=b3c,defers:=Zu}) ⟨_,qq,rfl⟩ jX b3g I (.loop b3d l2 b3e b3f l1);refine⟨_,run_beginRound zw I,?_⟩;have sh:=gj.ext ox kx;obtain⟨b3h,zW,b3i⟩:=xL eB;refine(cd _ _ _ _ _ _ zW k (some aG) fq aQ _ cV J1 lC sh _ (λc3 c9s hS b3j Q_ bX wu rf Kr Fl Ks=>?_)).1;obtain⟨c9t,q0,Ra⟩:=b3i _ b3j;have xR:=Ks.mono _ _ lC;have Zv:=(im.trans ak ox).trans ak Ks;have fin:∀(j:Option b5) (qP:Option Code) (b:Bool),JO P j qP->(b=qP.isNone)->(∃zX uO uP rh uQ dn d3,hS.get l=some (.loop zX uO uP rh uQ dn d3))->∀h6,endRound hS l j=some h6->h6∈k_→
    ∃u av,(Instr.endRound aG qP).run P wu= .ok u av/\∃ret ai,(ret,ai)∈k_/\∃aP,tg av aP (bq ai aP) B ret (.returned u)/\Rel P ai av aP B/\Ext f J w m ai av aP:=by
   rintro j qP b aA hb ⟨zX,uO,uP,rh,uQ,dn,d3,zY⟩ h6 pE gI;obtain⟨c9u,Kt,Ku,Kv,Kw,Kx,xS,Ky,Kz,KA,KB,xT⟩:=Fl.ctx.rel.Fk xR zY;have KC:=B5 xS;have uC:eF wu aG=none:=by unfold eF;rw[xS]
   unfold endRound at pE;rw[zY] at pE;cases j with
   |none=>
    cases qP with
    |some _=>exact aA.elim
    |none=>
     simp only[cJ] at pE;subst pE;obtain⟨Fo,Cz⟩:=Fl.ctx.rel.Kq (f:=f) q1 xR (o:=.loop .ready none uP rh uQ dn d3) (r:={state:=.ready,pending:=none,fn:=Kt,tmps:=Ku,params:=rh.toArray,assign:=Kv,body:=Kw,defers:=Kx}) ⟨_,zY,rfl⟩ uC KC I (.loop trivial Kz KA KB xT);exact⟨_,_,run_endRound none xS,_,_,gI,rf,.b _,Fo,Zv.trans ak Cz⟩
   |some c=>
    cases qP with
    |none=>exact aA.elim
    |some bc=>
     simp only[cJ] at pE;subst pE;obtain⟨Fo,Cz⟩:=Fl.ctx.rel.Kq (f:=f) q1 xR (o:=.loop .done (some c) uP rh uQ dn d3) (r:={state:=.done,pending:=some bc,fn:=Kt,tmps:=Ku,params:=rh.toArray,assign:=Kv,body:=Kw,defers:=Kx}) ⟨_,zY,rfl⟩ uC KC I (.loop aA Kz KA KB xT);exact⟨_,_,run_endRound (some bc) xS,_,_,gI,rf,.b _,Fo,Zv.trans ak Cz⟩
  have got:∀ {j:Option b5} {h6:ee×ad},endRound hS l j=some h6->∃zX uO uP rh uQ dn d3,hS.get l=some (.loop zX uO uP rh uQ dn d3):=λaS=>by
   unfold endRound at aS;split at aS
   ·exact⟨_,_,_,_,_,_,_,by assumption⟩
   ·cases aS
  cases c3 with
  |panic v=>cases q0
  |normal=>
   cases Q_<;>try exact Kr.elim
   simp only[roundEnd,fA] at q0;obtain⟨h6,pE,rfl⟩:=q0;exact fin none none true trivial I (got pE) h6 pE (Q8 _ (Ra _ (l0 _)))
  |ret=>
   cases Q_<;>try exact Kr.elim
   simp only[roundEnd,fA] at q0;obtain⟨h6,pE,rfl⟩:=q0;exact fin (some .ret) (some .ret) false ⟨rfl,.inl I⟩ I (got pE) h6 pE (Q8 _ (Ra _ (l0 _)))
  |exit id=>
   cases Q_<;>try exact Kr.elim
   have kz:=Kr;simp only[ExR] at kz;subst kz;simp only[roundEnd,fA] at q0;obtain⟨h6,pE,rfl⟩:=q0;exact fin (some (.exit _)) (some (.exit _)) false ⟨rfl,.inr ⟨_,rfl⟩⟩ I (got pE) h6 pE (Q8 _ (Ra _ (l0 _)))
def Zw(hk:uM P env)(fI:Cv P env B)(hex:Cw P env){run:kd}(cd:sj P env B run)(f:Nat)(r:Option Nat):E6 P env B f r (callV env run f):=by
 intro bG args J k_ h k w m u us ak dt hf ha;unfold callV at h;split at h<;>try (cases h;done)
 ·rename_i g first cap
  cases hf with
  |cC b3k bE fj uu=>
   rename_i hF fJ;have h1:bQ w m (bq J m) B first hF.toList:=⟨by simpa using b3k,λi p q=>by simpa using bE i p (by simpa using q)⟩
   have h2:bQ w m (bq J m) B cap fJ.toList:=⟨by simpa using fj,λi p q=>by simpa using uu i p (by simpa using q)⟩
   refine⟨{target:=.fn (.func g) fJ,args:=hF++us.toArray},λav=>rfl,?_⟩;exact b2R hk fI hex cd h k r ak dt (by simpa using (h1.append ha).append h2)
 ·rename_i l a b;cases hf with
  |vT hm=>
   obtain⟨b9,tmps,as,gx,h1,h2⟩:=b2U cd h k r ak dt (us:=us.toArray) (by simpa using ha) hm;refine⟨{target:=.fn (.yield _) #[],args:=#[]++us.toArray},λav=>rfl,?_⟩;have aM:(#[]++us.toArray:Array Value)=us.toArray:=by simp
   simp only[aM];rw[h1];exact h2
end
section
variable {P:Program}{env:Env}{B:Nat}
def b3l{aK r:Option Nat}{ae:Fr}{a:Act}{J bP:ad}{w:World}{m:Nat->Option Nat}{d f:Nat}{ds:List (Nat ⊕ (AV×List AV))}(h:ED aK ae J=some (d,bP,ds))(nR:Cr m aK r)(st:e_ P env ae a J w m B)
  {aE:List Nat} {as b:b5} {jb fq:Code} (has:ccode P jb=some as) (hb:ccode P fq=some b) (fn:FuncId):
  ∃l mark b4 cV,(Instr.enterLoop fn a.tmps aE.toArray jb fq r).run P w= .ok (l,mark) b4/\cV bP.next=some l∧
   e_ P env ⟨ae.bk,ds,ae.gv⟩ {a with defers:=mark++a.defers} (bP.push (.loop .ready none ae.bk aE as b d)) b4 cV B/\Ext f J w m (bP.push (.loop .ready none ae.bk aE as b d)) b4 cV:=by
 unfold ED at h;cases aK with
 |none=>
  cases r<;>try exact nR.elim
  simp only[cJ,zK] at h;obtain⟨rfl,rfl,rfl⟩:=h;have ak:=st.ctx.rel;obtain⟨k9,hY⟩:=ak.alloc f (w.alloc (.deferred (some []))) .c7 (.deferred (some [])) I I I I I .c7;have gj:=st.ext hY k9;obtain⟨kx,ox⟩:=k9.alloc f ((w.alloc (.deferred (some []))).alloc (.loop {state:=.ready,pending:=none,fn,tmps:=a.tmps,params:=aE.toArray,assign:=jb,body:=fq,defers:=w.heap.size}))
   (.loop .ready none ae.bk aE as b J.next) _ I I I I I (.loop trivial gj.ctx.bk has hb (iF _ _ _))
  have sh:=gj.ext ox kx;refine⟨_,_,_,_,run_enterLoop_outer fn a.tmps aE.toArray jb fq,?_,⟨⟨kx,sh.ctx.bk,sh.ctx.globs⟩,⟨⟨_,ox.mono _ _ (iF _ _ _),rfl⟩,sh.defs⟩⟩,hY.trans ak ox⟩;have:=iF (bindM m J.next w.heap.size) (J.push .c7).next (w.alloc (.deferred (some []))).heap.size;rw[this];simp
 |some Zx=>
  cases r<;>try exact nR.elim
  rename_i aG;have hm:m Zx=some aG:=nR;simp only at h;split at h<;>cases h;rename_i hg;have ak:=st.ctx.rel;obtain⟨po,c9v,c9w,c9x,zZ,D,hh,_,_,_,_,hd⟩:=ak.Fk hm hg;obtain⟨kx,ox⟩:=ak.alloc f (w.alloc (.loop {state:=.ready,pending:=none,fn,tmps:=a.tmps,params:=aE.toArray,assign:=jb,body:=fq,defers:=D}))
   (.loop .ready none ae.bk aE as b d) _ I I I I I (.loop trivial st.ctx.bk has hb hd)
  have sh:=st.ext ox kx;refine⟨w.heap.size,[],_,_,?_,iF _ _ _,⟨⟨kx,sh.ctx.bk,sh.ctx.globs⟩,sh.defs⟩,ox⟩;unfold Instr.enterLoop;simp only[e3,run_getLoop hh,Result.andThen,jq,run_newObj_alloc]
def b3m{c:b5}{po:Option Code}(h:JO P (some c) po):∃bc,po=some bc/\ccode P bc=some c:=by
 cases po with
 |none=>exact h.elim
 |some d=>exact⟨d,rfl,h.1⟩
def b3n{c:Code}{f:aJ}{aE:List Nat}{as b:b5}(h:ccode P c=some (.rangeFunc f aE as b)):∃g oq jb fq,c= .rangeFunc g oq jb fq/\opdOf g=some f/\aE=oq.toList/\ccode P jb=some as/\ccode P fq=some b:=by
 cases c with
 |rangeFunc g oq jb fq=>
  simp only[ccode] at h;split at h<;>cases h;rename_i h1 h2 h3;exact⟨g,oq,jb,fq,rfl,h1,rfl,h2,h3⟩
 |region id ops dp=>cases dp<;>(simp only[ccode] at h;split at h<;>cases h)
 |_=>
  simp only[ccode] at h
  first|(cases h;done)|(split at h<;>cases h;done)
def b3o(hk:uM P env)(fI:Cv P env B){run:kd}(cd:sj P env B run):Y9 P env B run:=by
 intro floor aK f aE as b ae J outs h k r c a w m aa nR st Q cc;obtain⟨cm,KD,jb,fq,rfl,lX,rfl,has,hb⟩:=b3n aa;simp only[step] at h;split at h<;>try (cases h;done)
 rename_i b3p;have Zy:floor<=J.next:=by simpa [hC] using b3p
 split at h<;>try (cases h;done)
 rename_i g first cap ri
 split at h<;>try (cases h;done)
 rename_i d bP ds CA;split at h<;>try (cases h;done)
 rename_i Cy;obtain⟨Zx,sg,oA⟩:=xL h;have b3q:=st.ctx.ar lX ri;refine wpIn_rangeFunc (λfn _=>?_);obtain⟨l,mark,b4,cV,h1,h2,h3,aH⟩:=b3l (f:=floor) CA nR st (aE:=KD.toList) has hb fn;have ak:=st.ctx.rel;have Rb:=b3q.ext aH ak;obtain⟨hF,fJ,b3r,QZ,Q0⟩:∃hF fJ,a.eval cm= .func (.func g) hF fJ/\bQ b4 cV (bq (bP.push (.loop .ready none ae.bk KD.toList as b d)) cV) B first hF.toList/\bQ b4 cV (bq (bP.push (.loop .ready none ae.bk KD.toList as b d)) cV) B cap fJ.toList:=by
  revert Rb;generalize a.eval cm=oB;intro Rb;cases Rb with
  |cC z0 bE fj uu=>exact⟨_,_,rfl,⟨by simpa using z0,λi p q=>by simpa using bE i p (by simpa using q)⟩,⟨by simpa using fj,λi p q=>by simpa using uu i p (by simpa using q)⟩⟩
 have q_:bQ b4 cV (bq (bP.push (.loop .ready none ae.bk KD.toList as b d)) cV) B (first++AV.f (.yield bP.next) [] []::cap) (hF++ #[Value.func (.yield l) #[] #[]]++fJ).toList:=by
  simp only[QA,iJ];exact QZ.append (bQ.cons (.vT h2) Q0)
 obtain⟨⟨c9y,iU,z0,KE,b3s⟩,b3t⟩:=Zs hk fI cd sg Cy (k-1) r h3.ctx.rel h3.ctx.globs q_;refine⟨l,mark,b4,{target:=.fn (.func g) fJ,args:=hF++ #[Value.func (.yield l) #[] #[]]},b4,g,_,b4,by simpa [fL] using h1,?_,λ_ _=>trivial,QV z0 KE b3s fJ _ b4,λal=>by simp[fL] at al,?_⟩
 ·have kv:a.eval (.const (.func (.yield l) #[] #[]))= .func (.yield l) #[] #[]:=rfl;simp only[resolve,b3r,Deferred.ofValue];simp[kv]
 ·refine E0 b3t (λc3 wu c0=>?_);obtain⟨ret,hS,eO,rf,mN,zW,Rc⟩:=c0;obtain⟨ef,eB,dM⟩:=oA _ eO;cases ret with
  |err v=>cases eB
  |ok gk=>
  cases c3<;>try exact mN.elim
  have xR:=Rc.mono _ _ h2;simp only[rangeK] at eB;split at eB<;>try (cases eB;done)
  rename_i zX uO uP rh uQ dn d3 zY;obtain⟨po,Kt,Ku,Kv,Kw,Kx,xS,Ky,Kz,KA,KB,xT⟩:=zW.Fk xR zY;have Fl:=h3.ext Rc zW;have Ks:=aH.trans ak Rc;have jf:floor<=bP.next:=by
   unfold ED at CA;split at CA
   ·split at CA<;>cases CA;exact Zy
   ·cases CA;exact YQ Zy
  have KC:=B5 xS;have uC:eF wu l=none:=by unfold eF;rw[xS]
  have fin:zX≠ .busy->(match(generalizing:=false) uO with
    |none=>some [(hE.normal,(⟨ae.bk,ds,ae.gv⟩:Fr),hS.set bP.next (.loop .exhausted uO uP rh uQ dn d3))]
    |some c=>run floor aK c ⟨ae.bk,ds,ae.gv⟩ (hS.set bP.next (.loop .exhausted uO uP rh uQ dn d3)))=some ef→
    ∀xP,rangePost (fL r) k P l Q {a with defers:=mark++a.defers} (.returned xP) wu:=λxF hh xP=>by
   obtain⟨Fo,Cz⟩:=zW.Kq (f:=floor) jf xR (o:=.loop .exhausted uO uP rh uQ dn d3) (r:={state:=.exhausted,pending:=po,fn:=Kt,tmps:=Ku,params:=rh.toArray,assign:=Kv,body:=Kw,defers:=Kx}) ⟨_,zY,rfl⟩ uC KC I (.loop Ky Kz KA KB xT);have Zz:=Fl.ext Cz Fo;have Re:=Ks.trans ak Cz;refine⟨po,_,run_endLoop xS xF,?_⟩;cases uO with
   |none=>
    cases po with
    |some _=>exact Ky.elim
    |none=>
     simp only at hh ⊢;cases hh;exact cc _ _ _ (dM _ (l0 _)) .normal _ _ rf trivial Zz Re
   |some c=>
    obtain⟨bc,rfl,mh⟩:=b3m Ky;simp only at hh ⊢;exact(cd _ _ _ _ _ _ hh k r bc _ _ rf mh (nR.mono Re.mono) Zz Q (λe bZ ai wv x cF av aP bx bz bY=>cc e bZ ai (dM _ wv) x cF av aP bx bz (Re.trans ak bY))).1
  cases zX<;>first|(cases eB;done)|exact fin ay eB _
end
structure Fp(pl:List a2)(cY:Nat->Nat->Bool)(p q:Nat):Prop where
 mP:p+1=q
 last:q+1=pl.length
 ops:∃bW eN s1 aQ gg s2 aZ pF,pl[p]? =some bW/\pl[q]? =some eN/\bW.op= .store s1 aQ gg/\eN.op= .store s2 aZ pF/\bW.dst=none/\eN.dst=none/\bW.guard=none/\eN.guard=none/\eN.jS≠[]
 rest:∀(r:Nat) (aO:a2),r<p->pl[r]? =some aO->cY r q=true\/(aO.op.isEffect=false/\aO.op.isAlloc=false/\aO.op.looks=false)
structure ZA(P:Program)(ops:Array Oper)(pl:List a2)(bd cZ:Nat->Nat)(cY:Nat->Nat->Bool):Prop where
 len:pl.length=ops.size
 pi:∀p,p<ops.size->bd p<ops.size/\cZ (bd p)=p
 Fq:∀i,i<ops.size->cZ i<ops.size/\bd (cZ i)=i
 code:∀p aT,pl[p]? =some aT->∃o mm,ops[bd p]? =some o/\coper P ops o=some mm/\aT.op=mm.op/\aT.dst=mm.dst/\aT.guard=mm.guard
 back:∀p,p<ops.size->∀o,ops[bd p]? =some o->∀e∈o.after,Region.binds .any e=true->e.on<ops.size/\cZ e.on<p
 ZB:∀p,p<ops.size->∀q,cY q p=true->∃o,ops[bd p]? =some o/\∃e∈o.after,Region.binds .any e=true/\(q=cZ e.on\/cY q (cZ e.on)=true)
 uR:∀(p q:Nat) (aT:a2),p<q->q<ops.size->pl[p]? =some aT->aT.op.isEffect=true->cY p q=true\/Fp pl cY p q
 Fs:∀(p q:Nat) (aT dN:a2) (d:Nat),p<q->pl[p]? =some aT->pl[q]? =some dN->aT.dst=some d->dN.dst≠some d
 ZC:∀(p q:Nat) (aT dN:a2),p<q->pl[p]? =some aT->pl[q]? =some dN->cY p q=true\/(∀d,aT.dst=some d->d∉dN.reads)/\(∀d,dN.dst=some d->d∉aT.reads)
 jS:∀(p:Nat) (aT:a2),pl[p]? =some aT->aT.op.looks=true->∀(q:Nat),p<q->(q=ops.size\/∃dN,pl[q]? =some dN/\dN.op.isEffect=true)→
  q∈aT.jS\/(∃(e:Nat) (en:a2),pl[e]? =some en/\en.op.isEffect=true/\p<e/\e<q/\cY p e=true)\/(∀(c:Nat) (ac:a2),pl[c]? =some ac->p<c->c<q->ac.op.isEffect=false/\ac.op.isAlloc=false)
def xU{a b:Nat}:Nat.blt a b=true↔a<b:=by rw[hC]
def ZD{α:Type}{f:α->α->Bool}:∀ {l:List α},JN f l=true->∀(i j:Nat) (x y:α),i<j->l[i]? =some x->l[j]? =some y->f x y=true
 |[],_,i,j,x,y,_,hx,_=>by simp at hx
 |z::l,h,i,j,x,y,iK,hx,hy=>by
  simp only[JN,dD,pk] at h;cases j with
  |zero=>omega
  |succ j=>
   cases i with
   |zero=>
    simp only[YR,cJ] at hx;subst hx;exact h.1 y (eY (by simpa using hy))
   |succ i=>exact ZD h.2 i j x y U (by simpa using hx) (by simpa using hy)
def ZE{A:List Nat}{q:Nat}:∀ {es:List Nat},(zm A es).testBit q=true->∃d∈es,q=d\/(A.getD d 0).testBit q=true
 |[],h=>by simp[zm] at h
 |d::es,h=>by
  have h:((1 <<< d ||| A.getD d 0) ||| zm A es).testBit q=true:=h;rw[Nat.testBit_or,Nat.testBit_or,um,um,Nat.one_shiftLeft,Nat.testBit_two_pow,decide_eq_true_eq] at h;rcases h with(h|h)|h
  ·exact⟨d,ay,.inl h.symm⟩
  ·exact⟨d,ay,.inr h⟩
  ·obtain⟨e,he,h2⟩:=ZE (es:=es) h;exact⟨e,by simp[he],h2⟩
def ZF{α β:Type}{f:α->Option β}{l:List α}{ba:List β}(h:mapOL f l=some ba){i:Nat}{y:β}(hy:ba[i]? =some y):∃x,l[i]? =some x/\f x=some y:=by
 obtain⟨h1,h2⟩:=zr h;obtain⟨hi,rfl⟩:=fH.1 hy;exact⟨l[i]'U,cp U,h2 i U hi⟩
def Rf{p:a2->Bool}{pl:List a2}{i:Nat}:i∈posOf p pl↔∃aT,pl[i]? =some aT/\p aT=true:=by
 unfold posOf;simp only[cT,mj,Prod.exists,exists_eq_right];constructor
 ·rintro⟨aT,h1,h2⟩;exact⟨aT,by simpa using zL.1 h1,h2⟩
 ·rintro⟨aT,h1,h2⟩;exact⟨aT,zL.2 (by simpa using h1),h2⟩
def Rg{α:Type}{l:List α}{i:Nat}{x d:α}(h:l[i]? =some x):l.getD i d=x:=by simp[fD,h]
def b3u{P:Program}{ops:Array Oper}{pl:List a2}(h:cdraw P ops=some pl):∃bd cZ cY,ZA P ops pl bd cZ cY:=by
 unfold cdraw at h;cases hl:mapOL (coper P ops) ops.toList with
 |none=>rw[hl] at h;cases h
 |some l=>
 rw[hl] at h;simp only at h;cases hX:PM l (orderGo ops.size (((l.zip (ops.toList.map r3)).zipIdx).map λx=>(x.2,x.1.1.op.isEffect,x.1.2)) 0) with
 |none=>rw[hX] at h;cases h
 |some Rh=>
 rw[hX] at h;simp only at h;generalize hA:List.foldl _ [] (orderGo _ _ 0)=A at h;generalize c9z:List.map _ (List.range ops.size)=cZ at h;generalize c9A:orderGo _ _ 0=bd at h hX;split at h<;>cases h;rename_i sm;generalize Ft:EF A ops.size Rh=pl at sm;simp only[Xz,dD] at sm;obtain⟨oF,ZG,kh,b3v,ZH⟩:=sm;simp only[Xx,dD,p8,pk,hC] at oF;obtain⟨jf,iH,pG,lD⟩:=oF;have KF:∀p,p<ops.size->bd[p]? =some (bd.getD p 0):=λp an=>by
  rw[cp U,Rg (cp U)]
 have b3w:∀p,p<ops.size->cZ[p]? =some (cZ.getD p 0):=λp an=>by
  rw[cp U,Rg (cp U)]
 have ZI:∀i o,ops[i]? =some o->(ops.toList.map r3).getD i []=r3 o:=λi o ho=>by
  refine Rg ?_;rw[iR,nJ,ho];rfl
 have b3x:∀(o:Oper) e,e∈o.after->Region.binds .any e=true->e.on∈r3 o:=λo e he hb=>by
  unfold r3;exact cT.2 ⟨e,mj.2 ⟨by simpa using he,hb⟩,rfl⟩
 have xC:Rh.length=ops.size:=by have:=(zr hX).1;omega
 have hlen:pl.length=ops.size:=by rw[<-Ft];simp[EF,xC]
 have gI:∀p aT,pl[p]? =some aT->p<ops.size:=λp aT an=>by have:=(fH.1 an).1;omega
 have eO:∀p aT,pl[p]? =some aT->(aT,p)∈pl.zipIdx:=λp aT an=>zL.2 (by simpa using an);simp only[Xy,pk,dD,hC,p8] at kh;have ZJ:∀p,p<ops.size->(∀d∈zn (ops.toList.map r3) cZ (bd.getD p 0),d<p)/\A.getD p 0=zm A (zn (ops.toList.map r3) cZ (bd.getD p 0)):=λp an=>
  kh (bd.getD p 0,p) (zL.2 (by simpa using KF p an))
 have Ri:∀p q aT dN,p<q->pl[p]? =some aT->pl[q]? =some dN->pairOk A pl (aT,p) (dN,q)=true:=λp q aT dN iS h1 h2=>
  ZD b3v p q _ _ iS (by simp[QC,h1]) (by simp[QC,h2])
 refine⟨λp=>bd.getD p 0,λi=>cZ.getD i 0,λq p=>(A.getD p 0).testBit q,⟨hlen,?_,?_,?_,?_,?_,?_,?_,?_,?_⟩⟩
 ·intro p an;have:=pG (bd.getD p 0,p) (zL.2 (by simpa using KF p an));exact this
 ·intro i hi;have:=lD (cZ.getD i 0,i) (zL.2 (by simpa using b3w i hi));exact this
 ·intro p aT an;have jG:=gI p aT an;have hc:∃nS,Rh[p]? =some nS/\aT.op=nS.op/\aT.dst=nS.dst/\aT.guard=nS.guard:=by
   rw[<-Ft] at an;simp only[EF,iR,QC,fA,Prod.exists] at an;obtain⟨nS,i,⟨aQ,h1,h2⟩,h3⟩:=an;cases h2;subst h3;exact⟨_,h1,rfl,rfl,rfl⟩
  obtain⟨nS,h0,aM,aU,c3⟩:=hc;obtain⟨i,hi,gJ⟩:=ZF hX h0;rw[KF p jG] at hi;cases hi;obtain⟨o,ho,aa⟩:=ZF hl gJ;exact⟨o,nS,by simpa using ho,aa,aM,aU,c3⟩
 ·intro p an o ho e he hb;have ZK:e.on∈r3 o:=b3x o e he hb;refine⟨?_,?_⟩
  ·simp only[pk,hC] at ZG;exact ZG (r3 o) (cT.2 ⟨o,by simpa using Array.mem_of_getElem? ho,rfl⟩) _ ZK
  ·exact(ZJ p an).1 _ (cT.2 ⟨e.on,by rw[ZI _ _ ho];exact ZK,rfl⟩)
 ·intro p an q aS;have Fu:=pG (bd.getD p 0,p) (zL.2 (by simpa using KF p an));obtain⟨o,ho⟩:∃o,ops[bd.getD p 0]? =some o:=⟨_,uj Fu.1⟩
  refine⟨o,ho,?_⟩;rw[(ZJ p an).2] at aS;obtain⟨d,hd,h2⟩:=ZE aS;unfold zn at hd;rw[ZI _ _ ho] at hd;obtain⟨j,aA,rfl⟩:=cT.1 hd;unfold r3 at aA;obtain⟨e,he,rfl⟩:=cT.1 aA;obtain⟨hY,ox⟩:=mj.1 he;exact⟨e,by simpa using hY,ox,h2⟩
 ·intro p q aT iS aS h1 he;have h2:pl[q]? =some (pl[q]'U):=cp U;have:=Ri p q aT (pl[q]'U) iS h1 h2;simp only[pairOk,dD,um,he,QD,sX,false_or] at this;rcases this.2 with h3|h3
  ·exact .inl h3
  ·refine .inr ?_;have aH:=h3.2;simp only[Xv,dD,p8,Option.isNone_iff_eq_none,xt,List.isEmpty_eq_false_iff,pk] at aH;obtain⟨aM,aU,c3,fK,nT,nU,CB,z1,xV,CC⟩:=aH;obtain⟨s1,aQ,gg,l2⟩:∃s a x,aT.op= .store s a x:=by
    revert c3;cases aT.op<;>intro c3<;>first|exact⟨_,_,_,rfl⟩|cases c3
   obtain⟨s2,aZ,pF,oC⟩:∃s a x,(pl[q]'U).op= .store s a x:=by
    revert fK;cases(pl[q]'U).op<;>intro fK<;>first|exact⟨_,_,_,rfl⟩|cases fK
   refine⟨aM,aU,⟨_,_,s1,aQ,gg,s2,aZ,pF,h1,h2,l2,oC,nT,nU,CB,z1,xV⟩,λr aO ak Q6=>?_⟩;have bT:=CC (aO,r) (eO r aO Q6);simp only[um,xt,Xu,dD] at bT;rcases bT with bT|bT|bT
   ·rw[xU.2 ak] at bT;cases bT
   ·exact .inl bT
   ·exact .inr bT
 ·intro p q aT dN d iS h1 h2 hd iT;have:=Ri p q aT dN iS h1 h2;simp only[pairOk,dD,hd,iT] at this;simp at this
 ·intro p q aT dN iS h1 h2;have:=Ri p q aT dN iS h1 h2;simp only[pairOk,dD,um] at this;rcases this.2 with h3|h3
  ·exact .inl h3
  ·refine .inr ?_;have aH:=h3.1;simp only[indep,dD] at aH;refine⟨λd hd=>?_,λd hd=>?_⟩
   ·have:=aH.1;rw[hd] at this;simpa using this
   ·have:=aH.2;rw[hd] at this;simpa using this
 ·intro p aT an ZL q iS aS;simp only[pk] at ZH;have:=ZH _ (eO p aT an);simp only[Xw,ZL,QD,Bool.false_or,pk] at this;have b3y:q∈ops.size::posOf (·.op.isEffect) pl:=by
   rcases aS with rfl|⟨dN,h1,h2⟩
   ·simp
   ·exact g1 _ (Rf.2 ⟨dN,h1,h2⟩)
  have:=this q b3y;simp only[um,xt] at this;rcases this with h1|h1|h1|h1
  ·exfalso;have:Nat.blt p q=true:=(xU.2 iS)
   rw[this] at h1;cases h1
  ·exact .inl (by simpa using h1)
  ·refine .inr (.inl ?_);simp only[Kc,dD,hC] at h1;obtain⟨e,he,h2,h3,aH⟩:=h1;obtain⟨en,bT,cE⟩:=Rf.1 he;exact⟨e,en,bT,cE,h2,h3,aH⟩
  ·refine .inr (.inr λc ac aa b3z KG=>?_);simp only[pk,xt,Bool.and_eq_false_iff] at h1;cases ZM:EE ac with
   |false=>simpa [EE] using ZM
   |true=>
    exfalso;have:=h1 c (Rf.2 ⟨ac,aa,ZM⟩);rw[(xU.2 b3z),(xU.2 KG)] at this;rcases this with h|h<;>cases h
section
variable {f:Nat}{ar lE:aJ->Option AV}{J ai:ad}
def xW{x:Option aJ}{d:Nat}(h:∀y∈r2 x,ar y=lE y):bndO ar x d=bndO lE x d:=by
 cases x with
 |none=>rfl
 |some x=>simp only[bndO,h x (by simp[r2])]
def CD{α β:Type}{g uS:α->Option β}:∀ {l:List α},(∀x∈l,g x=uS x)->mapO g l=mapO uS l
 |[],_=>rfl
 |x::l,h=>by
  rw[mapO_cons,mapO_cons,h x ay,CD (l:=l) (λy hy=>h y (by simp[hy]))]
def layParts_congr{b1:Nat->Nat->Nat}:∀ {aE:List (Nat×Nat×aJ)} {c:List AV},(∀p∈aE,ar p.2.2=lE p.2.2)->ja ar b1 aE c=ja lE b1 aE c
 |[],_,_=>rfl
 |p::aE,c,h=>by
  show(match ar p.2.2 with|none=>none|some v=>cond _ (match storeCells c (b1 p.1 p.2.1) v.cells with|none=>none|some c=>ja ar b1 aE c) none)=(match lE p.2.2 with|none=>none|some v=>cond _ (match storeCells c (b1 p.1 p.2.1) v.cells with|none=>none|some c=>ja lE b1 aE c) none);rw[h p ay];have:∀c,ja ar b1 aE c=ja lE b1 aE c:=λc=>layParts_congr (λq aS=>h q (by simp[aS]));simp only[this]
def b3A{ab:Option Nat}{x:AV}{c1 hi gq:Option aJ}(h1:∀y∈r2 c1,ar y=lE y)(h2:∀y∈r2 hi,ar y=lE y)(h3:∀y∈r2 gq,ar y=lE y):sliceA ar ab x c1 hi gq=sliceA lE ab x c1 hi gq:=by
 unfold sliceA;simp only[xW h1,xW h2,xW h3];cases gq with
 |none=>rfl
 |some m=>simp only[xW (x:=some m) h3]
def ZN{c:uq}(h:∀y∈(match c with| .fn _=>[]| .val o=>[o]:List aJ),ar y=lE y):calleeV ar c=calleeV lE c:=by
 cases c with
 |fn f=>rfl
 |val o=>exact h o ay
def ZO{op:AOp}(h:∀x∈op.opnds,ar x=lE x):opx f ar J op=opx f lE J op:=by
 cases op
 all_goals simp only[AOp.opnds,List.forall_mem_cons,eX,hj,false_implies,implies_true,and_true] at h
 all_goals try simp only[opx,h]
 case pick c a b=>
  cases aa:lE c with
  |none=>rfl
  |some v=>cases v<;>first|rfl|(rename_i t;cases t<;>simp only[cond_true,cond_false,h])
 case build z aE=>rw[layParts_congr (λp an=>h _ (cT.2 ⟨p,an,rfl⟩))]
 case buildSlice ab n z aE=>
  rw[layParts_congr (λp an=>by
   obtain⟨q,aS,rfl⟩:=cT.1 an;exact h _ (cT.2 ⟨q,aS,rfl⟩))]
 case zg fn a c=>rw[CD (λx hx=>h x (.inl hx)),CD (g:=ar) (uS:=lE) (l:=c) (λx hx=>h x (.inr hx))]
 case BY n ab x c1 hi=>rw[xW (λy hy=>h.2 y (.inl hy)),xW (x:=hi) (λy hy=>h.2 y (.inr hy))]
 case EA x c1 hi=>
  have e:∀d,bndO ar c1 d=bndO lE c1 d:=λd=>xW (λy hy=>h.2 y (.inl hy));have aU:∀d,bndO ar hi d=bndO lE hi d:=λd=>xW (λy hy=>h.2 y (.inr hy));simp only[e,aU]
 case xu ab x c1 hi gq=>
  have e:∀v,sliceA ar ab v c1 hi gq=sliceA lE ab v c1 hi gq:=λv=>b3A (λy hy=>h.2 y (.inl hy)) (λy hy=>h.2 y (.inr (.inl hy))) (λy hy=>h.2 y (.inr (.inr hy)));simp only[e]
 case call c as=>rw[ZN (λy hy=>h y (.inl hy)),CD (λx hx=>h x (.inr hx))]
 case mE c as=>rw[ZN (λy hy=>h y (.inl hy)),CD (λx hx=>h x (.inr hx))]
def KH{op:AOp}(he:op.isEffect=false)(ha:op.isAlloc=false){r:bO}(h:opx f ar J op=some r)(hn:∀l,r≠ .kG l:=by intro _ h;cases h):∃v,r= .val v J/\(op.looks=false->∀cr,opx f ar cr op=some (.val v cr)):=by
 cases op
 all_goals first|(cases he;done)|(cases ha;done)|skip
 all_goals simp only[opx] at h
 all_goals first
  |(cases h;done)
  |(
    repeat' (first|(cases h;done)|(exact absurd (EU h) (hn _))|split at h|(simp only[Cl] at h))
    all_goals first
     |(cases h;exact⟨_,rfl,λhl=>by first|(cases hl;done)|(intro cr;rfl)|(intro cr;simp only[opx];done)|(intro cr;simp only[opx];simp only[*];first|done|rfl|(simp only[Cl];simp only[*];first|done|rfl|simp))⟩)
     |skip)
def ZP{op:AOp}(ha:op.isAlloc=true){r:bO}(h:opx f ar J op=some r):∃(o:AO) (sn:Nat->AV),r= .val (sn J.next) (J.push o)/\o.isDead=false/\∀cr,opx f ar cr op=some (.val (sn cr.next) (cr.push o)):=by
 cases op
 all_goals first|(cases ha;done)|skip
 all_goals simp only[opx] at h
 case alloc v=>cases h;exact⟨_,λn=>kH n 0,rfl,rfl,λ_=>rfl⟩
 case box x=>
  split at h<;>try (cases h;done)
  rename_i v aq;cases hval:v.val with
  |false=>rw[hval] at h;cases h
  |true=>
   rw[hval,cond_true] at h;cases h;exact⟨_,λn=>kH n 0,rfl,rfl,λcr=>by simp only[opx,aq,hval,cond_true]⟩
 case buildSlice ab n z aE=>
  split at h<;>cases h;rename_i c aa;exact⟨_,λk=>.ao k 0 n ab (some n),rfl,rfl,λcr=>by simp only[opx,aa]⟩
 case mkMap=>cases h;exact⟨_,λn=>.m (some n),rfl,rfl,λ_=>rfl⟩
end
def b3B(P:Program)(w:World)(m:Nat->Option Nat)(O:Nat->Prop)(B:Nat)(o:AO)(sn:Nat->AV)(r:Result Next):Prop:=
 ∃u av bF,r= .ok (.value u) av/\av.heap=w.heap.push bF/\av.os=w.os/\av.tape=w.tape/\av.output=w.output/\nO P w m O B o bF∧
  ∀(ir:World) (ji:Nat->Option Nat) (Fv:Nat->Prop) (Fw id:Nat),ji id=some w.heap.size->ir.heap[w.heap.size]? =some bF->R ir ji Fv Fw (sn id) u
def b3C{P:Program}{o:Oper}{cH:AOp}(h:cop P o=some cH)(ha:cH.isAlloc=true):
  (∃t,o.op= .alloc t)\/(∃t x,o.op= .box t x)\/(∃t n aE,o.op= .buildSlice t n aE)\/(∃t r,o.op= .makeMap t r):=by
 unfold cop at h;split at h
 all_goals first
  |(cases h;done)
  |(rename_i ho;exact .inl ⟨_,ho⟩)
  |(rename_i ho;exact .inr (.inl ⟨_,_,ho⟩))
  |(rename_i ho;exact .inr (.inr (.inl ⟨_,_,_,ho⟩)))
  |(rename_i ho;exact .inr (.inr (.inr ⟨_,_,ho⟩)))
  |(
    exfalso
    repeat' first
     |(cases h;cases ha;done)
     |(cases h;done)
     |(simp only[fA] at h;obtain⟨_,_,h⟩:=h)
     |(simp only[eA,dZ,eM,cJ] at h)
     |split at h
     |(obtain⟨_,_,h⟩:=h)
     |(subst h;cases ha;done))
section
variable {P:Program}{env:Env}{J:ad}{w:World}{m:Nat->Option Nat}{B:Nat}{f:Nat}{ao:a1 AV}{a:Act}{o:Oper}{cH:AOp}{cu:AO}{sn:Nat->AV}
def b3D{t e:TypeId}{ab:Option Nat}(hu:P.underlying t=some (.slice e))(al:shapeOf P e=some ab){z:AV}(a_:zeroOf P e=some z)(xB:z.cells.length=shN ab){n:Nat}(hn:n*shN ab<=16777216){ar:aJ->Option AV}
  {aE:List (Nat×Nat×aJ)} {jF:Array (Nat×Value)} {c:List AV}
  (an:jW (λ(p:Nat×Nat×aJ) (q:Nat×Value)=>(p.1=q.1/\p.2.1=shN ab)/\∀v,ar p.2.2=some v->R w m (bq J m) B v q.2) aE jF.toList)
  (h:ja ar (λi b1=>i*b1) aE (hQ n z.cells)=some c):
  ∃arr:Array Value,(Instr.buildSlice t n jF).run P w= .ok (.slice (some ⟨w.heap.size,0,none⟩) n n) {w with heap:=w.heap.push (.cells arr e)}/\bQ w m (bq J m) B c arr.toList/\(∀x∈c,conf none x=true)/\arr.size=n*shN ab:=by
 obtain⟨_,cz,_⟩:=me al w;obtain⟨eJ,ju,lV,nQ⟩:=s8 a_ w;have ov:=(lV w m (bq J m) B).cells;have nn:eJ.cells.size=shN ab:=by have:=ov.1;simp at this;omega
 have qf:jW (λ(p:Nat×Nat×aJ) (q:Nat×Value)=>(λi=>some (i*shN ab,shN ab)) q.1=some (p.1*p.2.1,p.2.1)/\∀v,ar p.2.2=some v->R w m (bq J m) B v q.2) aE jF.toList:=by
  clear h;revert an;generalize jF.toList=hG
  induction aE generalizing hG with
  |nil=>cases hG<;>exact id
  |cons p aE aC=>
   cases hG with
   |nil=>exact id
   |cons q hG=>
    rintro⟨⟨⟨h1,h2⟩,aq⟩,ak⟩;exact⟨⟨by rw[h1,h2],aq⟩,aC hG ak⟩
 have pt:=B9 ov n;have P9:=B_ nQ n;have xC:eJ.cells.toList.length=shN ab:=by simp[nn]
 rw[xC] at pt;obtain⟨ou,h1,h2,h3,aH⟩:=EP (place:=λi=>some (i*shN ab,shN ab)) aE jF.toList (hQ n z.cells) c ((Array.range (n*shN ab)).map λi=>eJ.cells.toList[i%shN ab]!) qf
  (by simpa [ze] using pt) P9 h
 have ik:(newRow e ou).run P w= .ok ⟨w.heap.size,0,none⟩ {w with heap:=w.heap.push (.cells ou e)}:=by simp[newRow]
 have Ca:ou.size=n*shN ab:=by
  have aQ:=h2.1;have aZ:=pt.1;simp at aQ aZ;omega
 refine⟨ou,?_,h2,h3,Ca⟩;have P_:¬(n*shN ab > 2^24):=by omega
 simp only[Instr.buildSlice,e3,run_underlying hu,e8,cz];rw[if_neg P_];by_cases h0:n*shN ab=0
 ·have aM:((Array.range (n*shN ab)).map λi=>eJ.cells.toList[i%shN ab]!)= #[]:=by rw[h0];apply om;simp
  rw[aM] at h1;rw[if_pos h0];simp only[e3,jq,e8,h0];have c3:((Array.range 0).map λx=>(#[]:Array Value)[x%(#[]:Array Value).size]!)= #[]:=by apply om;simp
  rw[c3,h1];simp[ik]
 ·have aM:((Array.range (n*shN ab)).map λi=>eJ.cells.toList[i%shN ab]!)=((Array.range (n*shN ab)).map λi=>eJ.cells[i%eJ.cells.size]!):=by
   apply om;simp only[vM,ze];apply pd;intro a _;rw[nn,PA,rZ];simp
  rw[aM] at h1;simp only[h0,if_false,e3,ju,e8,jq];simp only[h1];simp[ik]
def push_inj{o bF:AO}(h:J.push o=J.push bF):o=bF:=by
 have h1:=ad.js (J:=J) o;have h2:=ad.js (J:=J) bF;rw[h,h2] at h1;exact(kr h1).symm
def b3E(c:Ctx P env J w m B ao a)(aa:cop P o=some cH)(ha:cH.isAlloc=true)(h:∀cr,opx f (evalA env ao) cr cH=some (.val (sn cr.next) (cr.push cu))):
  b3B P w m (bq J m) B cu sn ((execOp a.eval o).run P w):=by
 have KI:∀ {g:Nat->AV},(∀cr:ad,sn cr.next=g cr.next)->sn=g:=λhg=>funext λn=>hg ⟨.nil,n⟩;rcases b3C aa ha with⟨t,ho⟩|⟨t,x,ho⟩|⟨t,n,aE,ho⟩|⟨t,r,ho⟩
 ·simp only[cop,ho,fA] at aa;obtain⟨z,a_,rfl⟩:=aa;simp only[opx,cJ,bO.val.injEq] at h;obtain rfl:=push_inj (h J).2;obtain rfl:=KI (g:=λn=>kH n 0) (λcr=>(h cr).1.symm);obtain⟨u,h1,h2,hf⟩:=s8 a_ w;have fj:=(h2 w m (bq J m) B).cells;simp only[execOp,ho];refine⟨.pointer (some ⟨w.heap.size,0,none⟩),{w with heap:=w.heap.push (.cells u.cells t)},.cells u.cells t,by simp[Instr.alloc,h1,newVar,newRow],rfl,rfl,rfl,rfl,?_,λir ji Fv Fw id kz _=>.p kz⟩;exact .cells (by have:=fj.1;simp at this;omega) (λi h h'=>by have:=fj.2 i h (by simpa using h');simpa using this) (λi _=>by simp) hf
 ·simp only[cop,ho,fA] at aa;obtain⟨bW,hx,rfl⟩:=aa;have h0:=h J;simp only[opx] at h0;split at h0<;>try (cases h0;done)
  rename_i bn aq;cases hval:bn.val with
  |false=>rw[hval] at h0;cases h0
  |true=>
   simp only[opx,aq,hval,cond_true,cJ,bO.val.injEq] at h;obtain rfl:=push_inj (h J).2;obtain rfl:=KI (g:=λn=>kH n 0) (λcr=>(h cr).1.symm);have fj:=(c.ar hx aq).cells;simp only[execOp,ho];refine⟨.pointer (some ⟨w.heap.size,0,none⟩),{w with heap:=w.heap.push (.cells (a.eval x).cells t)},.cells (a.eval x).cells t,by simp[Instr.box,newVar,newRow],rfl,rfl,rfl,rfl,?_,λir ji Fv Fw id kz _=>.p kz⟩;exact .cells (by have:=fj.1;simp at this;omega) (λi h h'=>by have:=fj.2 i h (by simpa using h');simpa using this) (λi _=>by simp) (P7 (c.ar hx aq) hval)
 ·-- a slice:one new row,made as 'c9B c9C
  simp only[cop,ho,eA,dZ] at aa;obtain⟨⟨e,ab⟩,he,z,a_,l,hl,aa⟩:=aa;split at aa<;>cases aa;rename_i gH;obtain⟨hu,al⟩:=Cm he;have h0:=h J;simp only[opx] at h0;split at h0<;>try (cases h0;done)
  rename_i cs uI;simp only[opx,uI,cJ,bO.val.injEq] at h;obtain rfl:=push_inj (h J).2;obtain rfl:=KI (g:=λk=>.ao k 0 n ab (some n)) (λcr=>(h cr).1.symm);simp only[execOp,ho];have hall:jW (λ(p:Nat×Nat×aJ) (q:Nat×Value)=>(p.1=q.1/\p.2.1=shN ab)/\∀v,evalA env ao p.2.2=some v->R w m (bq J m) B v q.2) (l.map λp=>(p.1,shN ab,p.2)) ((aE.map λ(x:Nat×Operand)=>(x.1,a.eval x.2)).toList):=by
   rw[vM];have:=EO (g:=λ(x:Nat×Operand)=>(x.1,a.eval x.2)) (r:=λ(p:Nat×aJ) (q:Nat×Value)=>p.1=q.1/\∀v,evalA env ao p.2=some v->R w m (bq J m) B v q.2) (λp q iS=>by
    split at iS<;>cases iS;rename_i x h2;exact⟨rfl,λv aq=>c.ar h2 aq⟩) hl
   revert this;generalize aE.toList.map (λ(x:Nat×Operand)=>(x.1,a.eval x.2))=hG;clear uI hl h h0 ha
   induction l generalizing hG with
   |nil=>cases hG<;>exact id
   |cons p l aC=>
    cases hG with
    |nil=>exact id
    |cons q hG=>
     rintro⟨⟨h1,h2⟩,h3⟩;exact⟨⟨⟨h1,rfl⟩,h2⟩,aC hG h3⟩
  obtain⟨arr,cd,fj,kt,cz⟩:=b3D (J:=J) (m:=m) (B:=B) hu al a_ gH.2 gH.1 hall uI;refine⟨.slice (some ⟨w.heap.size,0,none⟩) n n,{w with heap:=w.heap.push (.cells arr e)},.cells arr e,by simp[cd],rfl,rfl,rfl,rfl,?_,λir ji Fv Fw id kz kA=>?_⟩
  ·exact .cells (by have:=fj.1;simp at this;omega) (λi h h'=>by have:=fj.2 i h (by simpa using h');simpa using this) (λi _=>by simp) kt
  ·exact .ao kz (a8 _) (λc aa=>by cases aa;rfl) (n:=arr.size) (by unfold eF;rw[kA]) U
 ·simp only[cop,ho] at aa;simp only[execOp,ho];have key:(Instr.makeMap t (r.map a.eval)).run P w= .ok (.map (some w.heap.size)) {w with heap:=w.heap.push (.map #[] 0)}/\cH= .mkMap:=by
   split at aa<;>cases aa
   ·exact⟨by simp[Instr.makeMap],rfl⟩
   ·rename_i ht;exact⟨by simp[Instr.makeMap,run_underlying ht,Act.eval,asInt,asIntOf],rfl⟩
  obtain⟨key,rfl⟩:=key;simp only[opx,cJ,bO.val.injEq] at h;obtain rfl:=push_inj (h J).2;obtain rfl:=KI (g:=λn=>.m (some n)) (λcr=>(h cr).1.symm);exact⟨.map (some w.heap.size),{w with heap:=w.heap.push (.map #[] 0)},.map #[] 0,by simp[key],rfl,rfl,rfl,rfl,.map I (λi h=>by simp at h),λir ji Fv Fw id kz _=>.mp kz⟩
def Rel.Rj(ak:Rel P J w m B){id:Nat}(kz:id<J.next)(hm:m id=none){av:World}{bF:Obj}(hg:J.get id=some cu)(hh:av.heap=w.heap.push bF)(mJ:nO P w m (bq J m) B cu bF):
  Rel P J av (bindM m id w.heap.size) B/\(∀i b,m i=some b->bindM m id w.heap.size i=some b)/\w.heap.size<=av.heap.size/\(∀b n,eF w b=some n->eF av b=some n)∧
   (∀b,b<w.heap.size->av.heap[b]? =w.heap[b]?)/\(∀aG,aG<w.heap.size->¬bq J m aG->av.heap[aG]? =w.heap[aG]? ∧¬bq J (bindM m id w.heap.size) aG)/\av.heap[w.heap.size]? =some bF:=by
 have cz:av.heap.size=w.heap.size+1:=by rw[hh];simp
 have hold:∀b,b<w.heap.size->av.heap[b]? =w.heap[b]? :=λb hb=>by
  rw[hh,Pu];rw[if_neg U]
 have nj:av.heap[w.heap.size]? =some bF:=by rw[hh];simp
 have ky:∀i b,m i=some b->bindM m id w.heap.size i=some b:=λi b h=>by
  rw[jV m _ _ (λe=>by subst e;rw[hm] at h;cases h)];exact h
 have ij:∀b n,eF w b=some n->eF av b=some n:=by
  intro b n hb;have:b<w.heap.size:=by
   rcases p6 b w.heap.size with h|h
   ·exact h
   ·simp[eF,BT h] at hb
  unfold eF at hb ⊢;rw[hold b this];exact hb
 have Fx:∀aG,aG<w.heap.size->¬bq J m aG->av.heap[aG]? =w.heap[aG]? ∧¬bq J (bindM m id w.heap.size) aG:=λaG hb cv=>by
  refine⟨hold aG hb,?_⟩;rintro⟨i,h1,h2⟩;by_cases hi:i=id
  ·subst hi;rw[iF] at h1;cases h1;omega
  ·rw[jV m _ _ hi] at h1;exact cv ⟨i,h1,h2⟩
 refine⟨⟨ak.len,?_,?_,?_,?_,by have:=ak.lS;omega⟩,ky,U,ij,hold,Fx,nj⟩
 ·intro i b h;by_cases hi:i=id
  ·subst hi;rw[iF] at h;cases h;exact⟨U,kz⟩
  ·rw[jV m _ _ hi] at h;have:=ak.gh _ _ h;exact⟨U,this.2⟩
 ·intro i b ef h qq hd;by_cases hi:i=id
  ·subst hi;rw[iF] at h;cases h;rw[hg] at qq;cases qq;exact⟨bF,nj,mJ.mono ky U ij Fx⟩
  ·rw[jV m _ _ hi] at h;obtain⟨jE,h1,h2⟩:=ak.obj i b ef h qq hd;exact⟨jE,by rw[hold _ (ak.gh _ _ h).1];exact h1,h2.mono ky U ij Fx⟩
 ·intro i nk b h h' hl uw;by_cases hi:i=id
  ·by_cases dh:nk=id
   ·rw[hi,dh]
   ·subst hi;rw[iF] at h;cases h;rw[jV m _ _ dh] at h';have:=(ak.gh _ _ h').1;omega
  ·rw[jV m _ _ hi] at h;by_cases dh:nk=id
   ·subst dh;rw[iF] at h';cases h';have:=(ak.gh _ _ h).1;omega
   ·rw[jV m _ _ dh] at h';exact ak.inj i nk b h h' hl uw
 ·intro i b h;by_cases hi:i=id
  ·subst hi;rw[iF] at h;cases h;exact ak.lS
  ·rw[jV m _ _ hi] at h;exact ak.base _ _ h
def e_.mono{ae:Fr}{ai:ad}{av:World}{aP:Nat->Option Nat}(s:e_ P env ae a J w m B)(q3:Rel P ai av aP B)(hm:∀id aG,m id=some aG->aP id=some aG)(cz:w.heap.size<=av.heap.size)
  (ij:∀b n,eF w b=some n->eF av b=some n) (aB:∀aG,aG<w.heap.size->¬bq J m aG->av.heap[aG]? =w.heap[aG]? ∧¬bq ai aP aG):e_ P env ae a ai av aP B:=
 ⟨⟨q3,s.ctx.bk.mono hm cz ij aB,λg v hg eG=>(s.ctx.globs g v hg eG).mono (λ_ _ h=>h) cz ij (λb hb cv=>⟨(aB b hb (λ⟨i,h1,_⟩=>cv (s.ctx.rel.base _ _ h1))).1,cv⟩)⟩,
  E5 (λd iE hd=>by
   cases d with
   |inl id=>obtain⟨aG,h1,h2⟩:=hd;exact⟨aG,hm _ _ h1,h2⟩
   |inr p=>obtain⟨g,a6,cs,hF,fJ,us,h1,h2,h3,aH,bT⟩:=hd;exact⟨g,a6,cs,hF,fJ,us,h1,h2,h3.mono hm cz ij aB,aH.mono hm cz ij aB,bT.mono hm cz ij aB⟩) s.defs⟩
def ZQ(ak:Rel P J w m B)(o:AO)(aG:Nat):bq (J.push o) m aG↔bq J m aG:=by
 constructor
 ·rintro⟨i,h1,ef,h2,h3⟩;rw[ad.fX ak.len o (ak.gh _ _ h1).2] at h2;exact⟨i,h1,ef,h2,h3⟩
 ·rintro⟨i,h1,ef,h2,h3⟩;exact⟨i,h1,ef,by rw[ad.fX ak.len o (ak.gh _ _ h1).2];exact h2,h3⟩
def Rel.Fy(ak:Rel P J w m B)(o:AO):Rel P (J.push o) w m B:=by
 have aB:∀aG,aG<w.heap.size->¬bq J m aG->w.heap[aG]? =w.heap[aG]? ∧¬bq (J.push o) m aG:=λaG _ cv=>⟨rfl,λh=>cv ((ZQ ak o aG).1 h)⟩
 refine⟨trivial,λi b h=>⟨(ak.gh _ _ h).1,Er (ak.gh _ _ h).2⟩,λi b ef h hg hd=>?_,λi nk b h h' hl uw=>?_,ak.base,ak.lS⟩
 ·rw[ad.fX ak.len o (ak.gh _ _ h).2] at hg;obtain⟨jE,h1,h2⟩:=ak.obj i b ef h hg hd;exact⟨jE,h1,h2.mono (λ_ _ h=>h) (a8 _) (λ_ _ h=>h) aB⟩
 ·refine ak.inj i nk b h h' ?_ ?_
  ·obtain⟨ef,h2,h3⟩:=hl;rw[ad.fX ak.len o (ak.gh _ _ h).2] at h2;exact⟨ef,h2,h3⟩
  ·obtain⟨ef,h2,h3⟩:=uw;rw[ad.fX ak.len o (ak.gh _ _ h').2] at h2;exact⟨ef,h2,h3⟩
def e_.Fy{ae:Fr}(s:e_ P env ae a J w m B)(o:AO):e_ P env ae a (J.push o) w m B:=
 s.mono (s.ctx.rel.Fy o) (λ_ _ h=>h) (a8 _) (λ_ _ h=>h) (λaG _ cv=>⟨rfl,λh=>cv ((ZQ s.ctx.rel o aG).1 h)⟩)
def Ext.Fy{c8:ad}{fa:World}{eP:Nat->Option Nat}(h:Ext f c8 fa eP J w m)(hl:True)(o:AO):Ext f c8 fa eP (J.push o) w m where
 mono:=h.mono
 new:=h.new
 next:=p5 h.next (Pv _)
 size:=h.size
 bV:=h.bV
 aD:=h.aD
 low id h1 h2:=by rw[ad.fX hl o (zJ h2 h.next)];exact h.low id h1 h2
 dead id h1 h2:=h.dead id h1 (by
  obtain⟨ef,h3,aH⟩:=h2;rw[ad.fX hl o (zJ h1 h.next)] at h3;exact⟨ef,h3,aH⟩)
 os:=h.os
 tape:=h.tape
 out:=h.out
 un id h1 h2:=by rw[ad.fX hl o (zJ h1 h.next)];exact h.un id h1 h2
def Ext.Rj{c8:ad}{fa:World}{eP:Nat->Option Nat}(h:Ext f c8 fa eP J w m){id:Nat}(kz:c8.next<=id){av:World}{bF:Obj}(hm:m id=none)(hh:av.heap=w.heap.push bF)(ni:av.os=w.os)(qU:av.tape=w.tape)(mI:av.output=w.output):
  Ext f c8 fa eP J av (bindM m id w.heap.size):=by
 have cz:av.heap.size=w.heap.size+1:=by rw[hh];simp
 have hold:∀b,b<w.heap.size->av.heap[b]? =w.heap[b]? :=λb hb=>by
  rw[hh,Pu];rw[if_neg U]
 refine⟨λi b hb=>?_,λi b hb=>?_,h.next,by have:=h.size;omega,λb n hb=>?_,λb hb cv=>?_,h.low,h.dead,ni.trans h.os,qU.trans h.tape,mI.trans h.out,h.un⟩
 ·have:=h.mono _ _ hb;rw[jV m _ _ (λe=>by subst e;rw[hm] at this;cases this)];exact this
 ·by_cases hi:i=id
  ·subst hi;rw[iF] at hb;cases hb;exact .inr ⟨kz,.inl h.size⟩
  ·rw[jV m _ _ hi] at hb;exact h.new _ _ hb
 ·have h1:=h.bV _ _ hb;have:b<w.heap.size:=by
   rcases p6 b w.heap.size with h|h
   ·exact h
   ·simp[eF,BT h] at h1
  unfold eF at h1 ⊢;rw[hold b this];exact h1
 ·rw[hold b (by have:=h.size;omega)];exact h.aD b hb cv
end
def DStep(env:Env)(f:Nat)(call:mG)(aT:a2)(s:a1 AV)(J:ad)(v:AV)(bP:ad):Prop:=
 (wantedA aT.guard s=false/\v=dF/\bP=J)∨
 (wantedA aT.guard s=true/\opx f (evalA env s) J aT.op=some (.val v bP))∨
 (wantedA aT.guard s=true/\∃bG args,opx f (evalA env s) J aT.op=some (.call bG args)/\∃l,call bG args J=some l/\(.ok v,bP)∈l/\∀x∈l,∃u,x.1= .ok u)
noncomputable def pH (s:a1 AV) (d:Option Nat) (v:AV):a1 AV:=match d with|some d=>s.set d v|none=>s
def KJ(ae:Fr)(d:Option Nat)(v:AV):(ae.put d v).bk=pH ae.bk d v:=by
 cases d<;>rfl
def put_eq(ao:a1 AV)(ds:List (Nat ⊕ (AV×List AV)))(rc:Bool)(d:Option Nat)(v:AV):Fr.put ⟨ao,ds,rc⟩ d v=⟨pH ao d v,ds,rc⟩:=by
 cases d with
 |none=>rfl
 |some d=>rfl
def put_defers(ae:Fr)(d:Option Nat)(v:AV):(ae.put d v).defers=ae.defers/\(ae.put d v).gv=ae.gv:=by
 cases d<;>exact⟨rfl,rfl⟩
structure Trace(env:Env)(f:Nat)(call:mG)(pl:List a2)(s:Nat->a1 AV)(S:Nat->ad)(v:Nat->AV):Prop where
 step:∀(p:Nat) (aT:a2),pl[p]? =some aT->DStep env f call aT (s p) (S p) (v p) (S (p+1))
 put:∀(p:Nat) (aT:a2),pl[p]? =some aT->s (p+1)=pH (s p) aT.dst (v p)
structure b3F(pl:List a2)(s:Nat->a1 AV)(S:Nat->ad)(v:Nat->AV)(ae:Fr)(ch:List ad)(ws:List md)(x:ke):Prop where
 ao:s pl.length=x.1.bk
 st:S pl.length=x.2.2.2
 rj:x.1.defers=ae.defers
 rc:x.1.gv=ae.gv
 ch:(x.2.2.2::x.2.1).reverse=ch.reverse++(List.range (pl.length+1)).map S
 old:∀y∈ws,y∈x.2.2.1
 wx:∀p aT,pl[p]? =some aT->wantedA aT.guard (s p)=true->aT.op.isEffect=false->aT.jS≠[]->(aT,s p,v p)∈x.2.2.1
def flatO_mem{α β:Type}{f:α->Option (List β)}:∀ {l:List α} {r:List β},k5 f l=some r->∀x∈l,∃a,f x=some a/\∀y∈a,y∈r
 |[],_,_,x,hx=>by simp at hx
 |[a],r,h,x,hx=>by
  rw[cA.1 hx];exact⟨r,h,λ_ h=>h⟩
 |a::b::t,r,h,x,hx=>by
  have h:(match f a with|none=>none|some p=>match k5 f (b::t) with|none=>none|some q=>some (p++q))=some r:=h;split at h
  ·cases h
  ·rename_i p an;split at h
   ·cases h
   ·rename_i q aS;cases h;rcases c2.1 hx with rfl|hx
    ·exact⟨p,an,λy hy=>zI _ hy⟩
    ·obtain⟨z,h1,h2⟩:=flatO_mem aS x hx;exact⟨z,h1,λy hy=>Kb _ (h2 y hy)⟩
def Rk{α:Type}(x:α)(s:Nat->α):Nat->α:=λp=>Nat.casesOn p x s
section
variable {env:Env}{f:Nat}{call:mG}
def Trace.cons{o:a2}{pl:List a2}{lF:a1 AV}{J bP:ad}{v0:AV}{s:Nat->a1 AV}{S:Nat->ad}{v:Nat->AV}(al:DStep env f call o lF J v0 bP)(ht:Trace env f call pl s S v)(h1:s 0=pH lF o.dst v0)(h2:S 0=bP):Trace env f call (o::pl) (Rk lF s) (Rk J S) (Rk v0 v):=by
 refine⟨λp aT an=>?_,λp aT an=>?_⟩
 ·cases p with
  |zero=>simp at an;subst an;show DStep env f call o lF J v0 (S 0);rw[h2];exact al
  |succ p=>exact ht.step p aT (by simpa using an)
 ·cases p with
  |zero=>simp at an;subst an;exact h1
  |succ p=>exact ht.put p aT (by simpa using an)
def Trace.tail{o:a2}{pl:List a2}{s:Nat->a1 AV}{S:Nat->ad}{v:Nat->AV}(h:Trace env f call (o::pl) s S v):Trace env f call pl (λp=>s (p+1)) (λp=>S (p+1)) (λp=>v (p+1)):=⟨λp aT an=>h.step (p+1) aT (by simpa using an),λp aT an=>h.put (p+1) aT (by simpa using an)⟩
def runDraws_cons(o:a2)(pl:List a2)(ae:Fr)(ch:List ad)(ws:List md)(J:ad):runDraws env f call (o::pl) ae ch ws J=
  cond (wantedA o.guard ae.bk)
   (match opx f (evalA env ae.bk) J o.op with
    |some (.val v ai)=>runDraws env f call pl (ae.put o.dst v) (J::ch) (match o.jS with|[]=>ws|_::_=>(o,ae.bk,v)::ws) ai
    |some (.call bG args)=>match call bG args J with
     |some (x::l)=>k5 (λr=>match r with|(.ok v,ai)=>runDraws env f call pl (ae.put o.dst v) (J::ch) ws ai|_=>none) (x::l)
     |_=>none
    |_=>none)
   (runDraws env f call pl (ae.put o.dst dF) (J::ch) ws J):=by
 rw[<-zP,← XF,← XG,← PT];rfl
def b3G{o:a2}{pl:List a2}{ae:Fr}{ch:List ad}{ws:List md}{J:ad}{L:List ke}(h:runDraws env f call (o::pl) ae ch ws J=some L):∃v0 bP,DStep env f call o ae.bk J v0 bP:=by
 rw[runDraws_cons] at h;cases hw:wantedA o.guard ae.bk with
 |false=>exact⟨dF,J,.inl ⟨hw,rfl,rfl⟩⟩
 |true=>
  rw[hw,cond_true] at h;split at h
  ·rename_i v bP hx;exact⟨v,bP,.inr (.inl ⟨hw,hx⟩)⟩
  ·rename_i bG args hx;split at h
   ·rename_i x l eD;have hall:∀y∈x::l,∃u,y.1= .ok u:=λy hy=>by
     obtain⟨a,h1,_⟩:=flatO_mem h y hy;obtain⟨pn,tm⟩:=y;cases pn with
     |ok u=>exact⟨u,rfl⟩
     |err u=>cases h1
    obtain⟨u,hu⟩:=hall x k1;obtain⟨gg,pF⟩:=x;cases hu;exact⟨u,pF,.inr (.inr ⟨hw,bG,args,hx,_,eD,k1,hall⟩)⟩
   ·cases h
  ·cases h
def KK{o:a2}{pl:List a2}{ae:Fr}{ch:List ad}{ws:List md}{J bP:ad}{v0:AV}{L:List ke}(h:runDraws env f call (o::pl) ae ch ws J=some L)(al:DStep env f call o ae.bk J v0 bP):
  ∃z2 mQ,runDraws env f call pl (ae.put o.dst v0) (J::ch) z2 bP=some mQ/\(∀x∈mQ,x∈L)/\(∀x∈ws,x∈z2)/\(wantedA o.guard ae.bk=true->o.op.isEffect=false->o.jS≠[]->(o,ae.bk,v0)∈z2):=by
 rw[runDraws_cons] at h;rcases al with⟨hw,rfl,rfl⟩|⟨hw,hx⟩|⟨hw,bG,args,hx,l,eD,hm,_⟩
 ·rw[hw,cond_false] at h;exact⟨ws,L,h,λ_ h=>h,λ_ h=>h,λh=>by rw[hw] at h;cases h⟩
 ·rw[hw,cond_true,hx] at h;refine⟨_,L,h,λ_ h=>h,λx hx=>?_,λ_ _ hn=>?_⟩
  ·split
   ·exact hx
   ·exact g1 _ hx
  ·split
   ·rename_i he;exact absurd he hn
   ·exact k1
 ·rw[hw,cond_true,hx] at h;simp only[eD] at h;obtain⟨c,as,dS,_,_⟩:=xN hx;cases l with
  |nil=>simp at hm
  |cons x l=>
   obtain⟨a,h1,h2⟩:=flatO_mem h _ hm;exact⟨ws,a,h1,h2,λ_ h=>h,λ_ he=>by rw[dS] at he;cases he⟩
def Rl:∀(pl:List a2) (ae:Fr) (ch:List ad) (ws:List md) (J:ad) {L:List ke},runDraws env f call pl ae ch ws J=some L->∃s S v,Trace env f call pl s S v/\s 0=ae.bk/\S 0=J
 |[],ae,_,_,J,_,_=>⟨λ_=>ae.bk,λ_=>J,λ_=>dF,⟨λp aT an=>by simp at an,λp aT an=>by simp at an⟩,rfl,rfl⟩
 |o::pl,ae,ch,ws,J,L,h=>by
  obtain⟨v0,bP,al⟩:=b3G h;obtain⟨z2,mQ,h1,_⟩:=KK h al;obtain⟨s,S,v,h2,h3,aH⟩:=Rl pl _ _ _ _ h1;exact⟨_,_,_,.cons al h2 (by rw[h3,KJ]) aH,rfl,rfl⟩
def Rm:∀(pl:List a2) (ae:Fr) (ch:List ad) (ws:List md) (J:ad) {L:List ke} {s:Nat->a1 AV} {S:Nat->ad} {v:Nat->AV},runDraws env f call pl ae ch ws J=some L->Trace env f call pl s S v->s 0=ae.bk->S 0=J->∃x∈L,b3F pl s S v ae ch ws x
 |[],ae,ch,ws,J,L,s,S,v,h,ht,h1,h2=>by
  have h:some [(ae,ch,ws,J)]=some L:=h;cases h;exact⟨_,k1,h1,h2,rfl,rfl,by simp[h2],λ_ h=>h,λp aT an=>by simp at an⟩
 |o::pl,ae,ch,ws,J,L,s,S,v,h,ht,h1,h2=>by
  have al:=ht.step 0 o I;rw[h1,h2] at al;obtain⟨z2,mQ,bx,bz,bY,cf⟩:=KK h al;obtain⟨nT,nU⟩:=put_defers ae o.dst (v 0);obtain⟨x,hx,h⟩:=Rm pl _ _ _ _ bx ht.tail (by show s (0+1)=_;rw[ht.put 0 o I,h1,KJ]) I;refine⟨x,bz x hx,h.ao,h.st,h.rj.trans nT,h.rc.trans nU,?_,λy hy=>h.old y (bY y hy),λp aT an hw he hn=>?_⟩
  ·rw[h.ch,fw,List.range_succ_eq_map (n:=pl.length+1)];simp only[List.reverse_cons,pf,kq,iJ,List.singleton_append,h2];rfl
  ·cases p with
   |zero=>simp at an;subst an;rw[h1];rw[h1] at hw;exact h.old _ (cf hw he hn)
   |succ p=>exact h.wx p aT (by simpa using an) hw he hn
def ZR:∀(pl:List a2) (ae:Fr) (ch:List ad) (ws:List md) (J:ad) {L:List ke} {s:Nat->a1 AV} {S:Nat->ad} {v:Nat->AV},runDraws env f call pl ae ch ws J=some L->Trace env f call pl s S v->s 0=ae.bk->S 0=J→
  ∀(p:Nat) (aT:a2) (bG:AV) (args:List AV) (l:List (ee×ad)) (v1:AV) (bP:ad),pl[p]? =some aT->wantedA aT.guard (s p)=true->opx f (evalA env (s p)) (S p) aT.op=some (.call bG args)->call bG args (S p)=some l->(.ok v1,bP)∈l->(∀x∈l,∃u,x.1= .ok u)→
  ∃iV nV bn,Trace env f call pl iV nV bn/\(∀q,q<=p->iV q=s q/\nV q=S q)/\(∀q,q<p->bn q=v q)/\bn p=v1/\nV (p+1)=bP
 |[],_,_,_,_,_,_,_,_,_,_,_,_,p,_,_,_,_,_,_,an,_,_,_,_,_=>by simp at an
 |o::pl,ae,ch,ws,J,L,s,S,v,h,ht,h1,h2,0,aT,bG,args,l,v1,bP,an,hw,hx,aa,hm,hall=>by
  simp at an;subst an;have al:DStep env f call o ae.bk J v1 bP:=.inr (.inr ⟨by rw[<-h1];exact hw,bG,args,by rw[<-h1,← h2];exact hx,l,by rw[<-h2];exact aa,hm,hall⟩);obtain⟨z2,mQ,bx,_⟩:=KK h al;obtain⟨iV,nV,bn,bz,bY,cf⟩:=Rl pl _ _ _ _ bx;refine⟨_,_,_,.cons al bz (by rw[bY,KJ]) cf,λq aS=>?_,λq aS=>by omega,rfl,cf⟩;obtain rfl:q=0:=by omega
  exact⟨h1.symm,h2.symm⟩
 |o::pl,ae,ch,ws,J,L,s,S,v,h,ht,h1,h2,p+1,aT,bG,args,l,v1,bP,an,hw,hx,aa,hm,hall=>by
  have al:=ht.step 0 o I;rw[h1,h2] at al;obtain⟨z2,mQ,bx,_⟩:=KK h al;have aM:s (0+1)=pH ae.bk o.dst (v 0):=by rw[ht.put 0 o I,h1]
  obtain⟨iV,nV,bn,bz,bY,cf,c9,gR⟩:=ZR pl _ _ _ _ bx ht.tail (by rw[KJ];exact aM) I p aT bG args l v1 bP (by simpa using an) hw hx aa hm hall;refine⟨_,_,_,.cons al bz ((bY 0 (jD _)).1.trans aM) (bY 0 (jD _)).2,λq aS=>?_,λq aS=>?_,c9,gR⟩
  ·cases q with
   |zero=>exact⟨h1.symm,h2.symm⟩
   |succ q=>exact bY q U
  ·cases q with
   |zero=>rfl
   |succ q=>exact cf q U
end
structure iu(P:Program)(env:Env)(B f:Nat)(r:Option Nat)(ops:Array Oper)(pl:List a2)(bd cZ:Nat->Nat)(cY:Nat->Nat->Bool)(call:mG)(s:Nat->a1 AV)(S:Nat->ad)(v:Nat->AV):Prop where
 spec:ZA P ops pl bd cZ cY
 b3H:E6 P env B f r call
 iL:Trace env f call pl s S v
 steady:∀(p:Nat) (aT:a2),pl[p]? =some aT->wantedA aT.guard (s p)=true->aT.op.isEffect=false->∀q∈aT.jS,∃cr,opx f (evalA env (s p)) (S q) aT.op=some (.val (v p) cr)
 l3:∀p q,Fp pl cY p q->∀bW eN s1 aQ gg s2 aZ pF,pl[p]? =some bW->pl[q]? =some eN->bW.op= .store s1 aQ gg->eN.op= .store s2 aZ pF->∃i CE j CF,evalA env (s p) aQ=some (.p (some (i,CE)))/\evalA env (s q) aZ=some (.p (some (j,CF)))/\i≠j
structure Rn(P:Program)(env:Env)(B f:Nat)(r:Option Nat)(ops:Array Oper)(pl:List a2)(bd cZ:Nat->Nat)(cY:Nat->Nat->Bool)(call:mG)(lF:a1 AV)(c8:ad):Prop where
 KL:∀s S v,Trace env f call pl s S v->s 0=lF->S 0=c8->iu P env B f r ops pl bd cZ cY call s S v
 l3:∀s S v,Trace env f call pl s S v->s 0=lF->S 0=c8->∀(p:Nat) (aT:a2) (bG:AV) (args:List AV) (l:List (ee×ad)) (v1:AV) (bP:ad),pl[p]? =some aT->wantedA aT.guard (s p)=true->opx f (evalA env (s p)) (S p) aT.op=some (.call bG args)->call bG args (S p)=some l->(.ok v1,bP)∈l->(∀x∈l,∃u,x.1= .ok u)→
  ∃iV nV bn,Trace env f call pl iV nV bn/\(∀q,q<=p->iV q=s q/\nV q=S q)/\(∀q,q<p->bn q=v q)/\bn p=v1/\nV (p+1)=bP
def dH(bd:Nat->Nat)(listed:Array Bool)(p:Nat):Prop:=listed.getD (bd p) false=true
structure xX(pl:List a2)(v:Nat->AV)(lF:a1 AV)(D:Nat->Prop)(dj:a1 AV):Prop where
 gh:∀t,(dj.get t).isSome=(lF.get t).isSome
 iv:∀(p:Nat) (aT:a2) (t:Nat),pl[p]? =some aT->D p->aT.dst=some t->(lF.get t).isSome=true->dj.get t=some (v p)
 xY:∀(t:Nat),(∀(p:Nat) (aT:a2),pl[p]? =some aT->D p->aT.dst≠some t)->dj.get t=lF.get t
structure rk(pl:List a2)(s:Nat->a1 AV)(S:Nat->ad)(c8:ad)(D:Nat->Prop)(m:Nat->Option Nat)(k:Nat):Prop where
 one:∀(p:Nat) (aT:a2),p<k->pl[p]? =some aT->aT.op.isAlloc=true->wantedA aT.guard (s p)=true->¬D p->m (S p).next=none/\c8.next<=(S p).next/\(S p).next<(S k).next/\(S k).get (S p).next=(S (p+1)).get (S p).next
 lt:∀(p ew:Nat) (aT iw:a2),p<ew->ew<k->pl[p]? =some aT->pl[ew]? =some iw->aT.op.isAlloc=true->iw.op.isAlloc=true->wantedA aT.guard (s p)=true->wantedA iw.guard (s ew)=true->¬D p->¬D ew->(S p).next<(S ew).next
section
variable {P:Program}{env:Env}{B f:Nat}{r:Option Nat}{ops:Array Oper}{pl:List a2}{bd cZ:Nat->Nat}{cY:Nat->Nat->Bool}{call:mG}{s:Nat->a1 AV}{S:Nat->ad}{v:Nat->AV}
def iu.lt(c:iu P env B f r ops pl bd cZ cY call s S v){p:Nat}{aT:a2}(h:pl[p]? =some aT):p<ops.size:=by
 have:=(fH.1 h).1;have:=c.spec.len;omega
def iu.get(c:iu P env B f r ops pl bd cZ cY call s S v){p:Nat}(h:p<ops.size):∃aT,pl[p]? =some aT:=
 ⟨_,cp (by have:=c.spec.len;omega)⟩
def iu.Fs(c:iu P env B f r ops pl bd cZ cY call s S v){p q:Nat}{aT dN:a2}{d:Nat}(an:pl[p]? =some aT)(aS:pl[q]? =some dN)(h1:aT.dst=some d)(h2:dN.dst=some d):p=q:=by
 rcases v_ p q with h|h|h
 ·exact absurd h2 (c.spec.Fs p q aT dN d h an aS h1)
 ·exact h
 ·exact absurd h1 (c.spec.Fs q p dN aT d h aS an h2)
def ZS{dj:a1 AV}{d:Option Nat}{t:Nat}(h:d≠some t)(x:AV):(pH dj d x).get t=dj.get t:=by
 cases d with
 |none=>rfl
 |some e=>
  show(dj.set e x).get t=_;rw[a1.kf,if_neg (λhe=>h (by rw[he]))]
def xX.put(c:iu P env B f r ops pl bd cZ cY call s S v){lF dj:a1 AV}{D ns:Nat->Prop}(h:xX pl v lF D dj){p:Nat}{aT:a2}(an:pl[p]? =some aT)(dW:¬D p)(CG:∀(q:Nat) (dN:a2),pl[q]? =some dN->(ns q↔D q\/q=p)):xX pl v lF ns (pH dj aT.dst (v p)):=by
 refine⟨λt=>?_,λq dN t aS hd ht hlt=>?_,λt hm=>?_⟩
 ·rw[<-h.gh t];cases kg:aT.dst with
  |none=>rfl
  |some e=>
   show((dj.set e (v p)).get t).isSome=_;rw[a1.kf];by_cases he:t=e
   ·subst he;rw[if_pos I];cases dj.get t<;>rfl
   ·rw[if_neg he]
 ·rcases(CG q dN aS).1 hd with hd|rfl
  ·have aY:aT.dst≠some t:=λe=>by
    have:=c.Fs an aS e ht;subst this;exact dW hd
   rw[<-h.iv q dN t aS hd ht hlt];exact ZS aY _
  ·rw[an] at aS;cases aS;rw[ht];show(dj.set t (v q)).get t=_;rw[a1.kf,if_pos I];have:=h.gh t;rw[hlt] at this;cases hg:dj.get t with
   |none=>rw[hg] at this;cases this
   |some y=>rfl
 ·have aY:=hm p aT an ((CG p aT an).2 (.inr I));rw[<-h.xY t (λq dN aS hd=>hm q dN aS ((CG q dN aS).2 (.inl hd)))];exact ZS aY _
def Ro(c:iu P env B f r ops pl bd cZ cY call s S v):∀k,k<=ops.size->xX pl v (s 0) (· <k) (s k)
 |0,_=>⟨λ_=>rfl,λp aT t an hd=>by omega,λt _=>rfl⟩
 |k+1,aB=>by
  obtain⟨aT,nt⟩:=c.get (p:=k) U;rw[c.iL.put k aT nt];exact(Ro c k U).put c nt (Nat.lt_irrefl k) (λq dN _=>⟨λh=>by have:q<k+1:=h;show q<k\/q=k;omega,λh=>by show q<k+1;rcases h with h|h<;>omega⟩)
def ZT(c:iu P env B f r ops pl bd cZ cY call s S v){dj:a1 AV}{D:Nat->Prop}(h:xX pl v (s 0) D dj){p:Nat}{aT:a2}(an:pl[p]? =some aT)(dW:¬D p)
  (kh:∀q,cY q p=true->D q) (eD:∀q,q<ops.size->D q->∀x,cY x q=true->D x):∀t∈aT.reads,dj.get t=(s p).get t:=by
 intro t ht;have jG:=c.lt an;have aa:=Ro c p U;by_cases hex:∃(q:Nat) (dN:a2),pl[q]? =some dN/\dN.dst=some t
 ·obtain⟨q,dN,aS,CH⟩:=hex;have ZU:∀oG z3,pl[oG]? =some z3->z3.dst=some t->oG=q:=λoG z3 h1 h2=>c.Fs h1 aS h2 CH;have ZV:¬D q->dj.get t=(s 0).get t:=λhnd=>h.xY t (λoG z3 h1 hd h2=>by have:=ZU oG z3 h1 h2;subst this;exact hnd hd);have ZW:¬q<p->(s p).get t=(s 0).get t:=λhnd=>aa.xY t (λoG z3 h1 hd h2=>by have:=ZU oG z3 h1 h2;subst this;exact hnd hd);by_cases hlt:((s 0).get t).isSome=true
  ·rcases v_ q p with z4|z4|z4
   ·have Fz:D q:=by
     rcases c.spec.ZC q p dN aT z4 aS an with h1|h1
     ·exact kh q h1
     ·exact absurd ht (h1.1 t CH)
    rw[h.iv q dN t aS Fz CH hlt,aa.iv q dN t aS z4 CH hlt]
   ·subst z4;rw[ZV dW,ZW U]
   ·have Fz:¬D q:=λFz=>by
     rcases c.spec.ZC p q aT dN z4 an aS with h1|h1
     ·exact dW (eD q (c.lt aS) Fz p h1)
     ·exact absurd ht (h1.2 t CH)
    rw[ZV Fz,ZW U]
  ·have aM:=h.gh t;have aU:=aa.gh t;cases hg:(s 0).get t with
   |some y=>rw[hg] at hlt;exact absurd I hlt
   |none=>
    rw[hg] at aM aU;cases qq:dj.get t with
    |some y=>rw[qq] at aM;cases aM
    |none=>
     cases uD:(s p).get t with
     |some y=>rw[uD] at aU;cases aU
     |none=>rfl
 ·rw[h.xY t (λq dN h1 _ h2=>hex ⟨q,dN,h1,h2⟩),aa.xY t (λq dN h1 _ h2=>hex ⟨q,dN,h1,h2⟩)]
def ZX{dj sp:a1 AV}{aT:a2}(h:∀t∈aT.reads,dj.get t=sp.get t):∀x∈aT.op.opnds,evalA env dj x=evalA env sp x:=by
 intro x hx;cases x with
 |t i=>
  show dj.get i=sp.get i;exact h i (Kb _ (QE.2 ⟨_,hx,rfl⟩))
 |c v=>rfl
 |g g=>rfl
def ZY{dj sp:a1 AV}{aT:a2}(h:∀t∈aT.reads,dj.get t=sp.get t):wantedA aT.guard dj=wantedA aT.guard sp:=by
 cases hg:aT.guard with
 |none=>rfl
 |some g=>
  obtain⟨d,b⟩:=g;simp only[wantedA];rw[h d (by simp[a2.reads,hg])]
def b3I{op:AOp}(h:op.isAlloc=true):op.isEffect=false:=by
 cases op<;>first|rfl|cases h
def iu.calm(c:iu P env B f r ops pl bd cZ cY call s S v){p:Nat}{aT:a2}(an:pl[p]? =some aT)(he:aT.op.isEffect=false):
  S (p+1)=S p/\(aT.op.isAlloc=false\/wantedA aT.guard (s p)=false)\/∃cu,aT.op.isAlloc=true/\wantedA aT.guard (s p)=true/\S (p+1)=(S p).push cu:=by
 rcases c.iL.step p aT an with⟨h1,_,h2⟩|⟨h1,h2⟩|⟨h1,bG,args,h2,_⟩
 ·exact .inl ⟨h2,.inr h1⟩
 ·cases ha:aT.op.isAlloc with
  |false=>
   obtain⟨bn,h3,_⟩:=KH he ha h2;simp only[bO.val.injEq] at h3;exact .inl ⟨h3.2,.inl I⟩
  |true=>
   obtain⟨cu,sn,h3,_,_⟩:=ZP ha h2;simp only[bO.val.injEq] at h3;exact .inr ⟨cu,rfl,h1,h3.2⟩
 ·obtain⟨bm,as,dS,_,_⟩:=xN h2;rw[dS] at he;cases he
def advance(c:iu P env B f r ops pl bd cZ cY call s S v){ae:Fr}{a:Act}{w fa:World}{m eP:Nat->Option Nat}{c8:ad}{D:Nat->Prop}:∀(d k:Nat),k+d<=ops.size->(∀p aT,k<=p->p<k+d->pl[p]? =some aT->aT.op.isEffect=false)→
  e_ P env ae a (S k) w m B->Ext f c8 fa eP (S k) w m->rk pl s S c8 D m k->e_ P env ae a (S (k+d)) w m B/\Ext f c8 fa eP (S (k+d)) w m/\rk pl s S c8 D m (k+d)
 |0,k,_,_,h1,h2,h3=>⟨h1,h2,h3⟩
 |d+1,k,aB,pD,h1,h2,h3=>by
  obtain⟨i1,i2,i3⟩:=advance c d k U (λp aT aH bT=>pD p aT aH U) h1 h2 h3;obtain⟨aT,nt⟩:=c.get (p:=k+d) U;have he:=pD (k+d) aT U U nt;show e_ P env ae a (S (k+d+1)) w m B/\Ext f c8 fa eP (S (k+d+1)) w m/\rk pl s S c8 D m (k+d+1);rcases c.calm nt he with⟨ct,mJ⟩|⟨cu,mM,hw,ct⟩
  ·have ZZ:∀p iw,p<k+d+1->pl[p]? =some iw->iw.op.isAlloc=true->wantedA iw.guard (s p)=true->p<k+d:=λp iw an hg ha hw=>by
    rcases p6 p (k+d) with h|h
    ·exact h
    ·have:p=k+d:=by omega
     subst this;rw[nt] at hg;cases hg;rcases mJ with h|h
     ·rw[ha] at h;cases h
     ·rw[hw] at h;cases h
   refine⟨by rw[ct];exact i1,by rw[ct];exact i2,⟨λp iw an hg ha hw hd=>?_,λp ew KM KN an qf bx bz aQ aZ b4 ir d1 d2=>?_⟩⟩
   ·obtain⟨tn,tp,tq,wy⟩:=i3.one p iw (ZZ p iw an hg ha hw) hg ha hw hd;exact⟨tn,tp,by rw[ct];exact tq,by rw[ct];exact wy⟩
   ·exact i3.lt p ew KM KN an (ZZ ew KN qf bz aZ ir) bx bz aQ aZ b4 ir d1 d2
  ·have hlen:=i1.ctx.rel.len;refine⟨by rw[ct];exact i1.Fy cu,by rw[ct];exact i2.Fy hlen cu,⟨λp iw an hg ha hw hd=>?_,λp ew KM KN an qf bx bz aQ aZ b4 ir d1 d2=>?_⟩⟩
   ·rcases p6 p (k+d) with h|h
    ·obtain⟨tn,tp,tq,wy⟩:=i3.one p iw h hg ha hw hd;refine⟨tn,tp,by rw[ct];exact Er tq,by rw[ct,ad.fX hlen cu tq];exact wy⟩
    ·have:p=k+d:=by omega
     subst this;exact⟨i1.ctx.rel.a9l,i2.next,by rw[ct];exact mD _,rfl⟩
   ·rcases p6 ew (k+d) with h|h
    ·exact i3.lt p ew KM KN an h bx bz aQ aZ b4 ir d1 d2
    ·have:ew=k+d:=by omega
     subst this;exact(i3.one p KM an bx aQ b4 d1).2.2.1
end
structure Inv(P:Program)(env:Env)(B f:Nat)(ops:Array Oper)(pl:List a2)(bd:Nat->Nat)(cY:Nat->Nat->Bool)(s:Nat->a1 AV)(S:Nat->ad)(v:Nat->AV)(ds:List (Nat ⊕ (AV×List AV)))(rc:Bool)(c8:ad)(fa:World)(eP:Nat->Option Nat)
  (listed:Array Bool) (a:Act) (w:World) (dk:Nat) (m:Nat->Option Nat) (dj:a1 AV):Prop where
 uT:Rel P c8 fa eP B
 size:listed.size=ops.size
 closed:∀p,p<ops.size->dH bd listed p->∀q,cY q p=true->dH bd listed q
 Rp:dk<=ops.size
 xZ:dk=ops.size\/∃(en:a2),pl[dk]? =some en/\en.op.isEffect=true/\¬dH bd listed dk
 before:∀(e:Nat) (en:a2),e<dk->pl[e]? =some en->en.op.isEffect=true->dH bd listed e
 after:∀(e:Nat) (en:a2),dk<e->pl[e]? =some en->en.op.isEffect=true->¬dH bd listed e
 bk:xX pl v (s 0) (dH bd listed) dj
 st:e_ P env ⟨dj,ds,rc⟩ a (S dk) w m B
 ext:Ext f c8 fa eP (S dk) w m
 uU:rk pl s S c8 (dH bd listed) m dk
section
variable {P:Program}{env:Env}{B f:Nat}{r:Option Nat}{ops:Array Oper}{pl:List a2}{bd cZ:Nat->Nat}{cY:Nat->Nat->Bool}{call:mG}{s:Nat->a1 AV}{S:Nat->ad}{v:Nat->AV}
variable {ds:List (Nat ⊕ (AV×List AV))}{rc:Bool}{c8:ad}{fa:World}{eP:Nat->Option Nat}{listed:Array Bool}{a:Act}{w:World}{dk:Nat}{m:Nat->Option Nat}{dj:a1 AV}
def Rq(c:iu P env B f r ops pl bd cZ cY call s S v):∀(d k:Nat),k+d=ops.size->∃q,k<=q/\q<=ops.size/\(q=ops.size\/∃(en:a2),pl[q]? =some en/\en.op.isEffect=true)/\∀(e:Nat) (en:a2),k<=e->e<q->pl[e]? =some en->en.op.isEffect=false
 |0,k,h=>⟨k,a8 _,U,.inl U,λe en h1 h2=>by omega⟩
 |d+1,k,h=>by
  obtain⟨aT,nt⟩:=c.get (p:=k) U;cases he:aT.op.isEffect with
  |true=>exact⟨k,a8 _,U,.inr ⟨aT,nt,he⟩,λe en h1 h2=>by omega⟩
  |false=>
   obtain⟨q,h1,h2,h3,aH⟩:=Rq c d (k+1) U;refine⟨q,U,h2,h3,λe en bT cE eI=>?_⟩;rcases p6 k e with jH|jH
   ·exact aH e en U cE eI
   ·have:e=k:=by omega
    subst this;rw[nt] at eI;cases eI;exact he
def CI(c:iu P env B f r ops pl bd cZ cY call s S v)(cz:listed.size=ops.size){p q:Nat}(an:p<ops.size)(aS:q<ops.size):dH bd (listed.setIfInBounds (bd p) true) q↔dH bd listed q\/q=p:=by
 have h1:=c.spec.pi p an;have h2:=c.spec.pi q aS;unfold dH;by_cases h:q=p
 ·subst h;simp[rZ,cz,h1.1]
 ·have aY:bd p≠bd q:=λe=>h (by rw[<-h2.2,← e,h1.2]);rw[getD_set_ne false aY];simp[h]
def Z0(c:iu P env B f r ops pl bd cZ cY call s S v)(cz:listed.size=ops.size){p:Nat}(an:p<ops.size)(h:listed.getD (bd p) true=false):¬dH bd listed p:=by
 have h1:=c.spec.pi p an;unfold dH;have hlt:bd p<listed.size:=by omega
 simp[rZ,hlt] at h ⊢;exact h
def b3J(c:iu P env B f r ops pl bd cZ cY call s S v)(inv:Inv P env B f ops pl bd cY s S v ds rc c8 fa eP listed a w dk m dj){i:Nat}(hi:i∈Region.ready .any ops listed):
  ∃p aT o mm,p<ops.size/\i=bd p/\pl[p]? =some aT/\ops[i]? =some o/\coper P ops o=some mm/\aT.op=mm.op/\aT.dst=mm.dst/\aT.guard=mm.guard/\¬dH bd listed p/\(∀q,cY q p=true->dH bd listed q):=by
 obtain⟨h1,o,ho,h2⟩:=mem_ready.1 hi;have gI:i<ops.size:=(zc.1 ho).1;obtain⟨h3,aH⟩:=c.spec.Fq i gI;obtain⟨aT,nt⟩:=c.get h3;obtain⟨bF,mm,la,aa,aM,aU,c3⟩:=c.spec.code _ aT nt;rw[aH,ho] at la;cases la;refine⟨cZ i,aT,o,mm,h3,aH.symm,nt,ho,aa,aM,aU,c3,Z0 c inv.size h3 (by rw[aH];exact h1),λq aS=>?_⟩;obtain⟨bF,la,e,he,hb,mJ⟩:=c.spec.ZB (cZ i) h3 q aS;rw[aH,ho] at la;cases la;have Rr:=h2 e he hb;have xG:=c.spec.back (cZ i) h3 o (by rw[aH];exact ho) e he hb;have x0:=c.spec.Fq e.on xG.1;have FA:dH bd listed (cZ e.on):=by unfold dH;rw[x0.2];exact Rr
 rcases mJ with rfl|mJ
 ·exact FA
 ·exact inv.closed _ x0.1 FA q mJ
def Inv.calm(c:iu P env B f r ops pl bd cZ cY call s S v)(inv:Inv P env B f ops pl bd cY s S v ds rc c8 fa eP listed a w dk m dj){p:Nat}{aT:a2}(an:pl[p]? =some aT)(dW:¬dH bd listed p)(kh:∀q,cY q p=true->dH bd listed q)(he:p≠dk)(aY:aT.op.isEffect=false\/p<dk)
  {cF:Act} {av:World} {aP:Nat->Option Nat} (st:e_ P env ⟨pH dj aT.dst (v p),ds,rc⟩ cF (S dk) av aP B) (ext:Ext f c8 fa eP (S dk) av aP) (uU:rk pl s S c8 (dH bd (listed.setIfInBounds (bd p) true)) aP dk):
  Inv P env B f ops pl bd cY s S v ds rc c8 fa eP (listed.setIfInBounds (bd p) true) cF av dk aP (pH dj aT.dst (v p)):=by
 have jG:=c.lt an;have al:∀q,q<ops.size->(dH bd (listed.setIfInBounds (bd p) true) q↔dH bd listed q\/q=p):=λq aS=>CI c inv.size jG aS;have ky:∀q,dH bd listed q->dH bd (listed.setIfInBounds (bd p) true) q:=λq aS=>by
  unfold dH at aS ⊢;by_cases h:bd p=bd q
  ·rw[<-h];simp[rZ,inv.size,(c.spec.pi p jG).1]
  ·rw[getD_set_ne false h];exact aS
 refine⟨inv.uT,by simpa using inv.size,λq aS hd x hx=>?_,inv.Rp,?_,λe en h1 h2 h3=>ky e (inv.before e en h1 h2 h3),λe en h1 h2 h3 aH=>?_,inv.bk.put c an dW (λq dN aS=>al q (c.lt aS)),st,ext,uU⟩
 ·rcases(al q aS).1 hd with h|rfl
  ·exact ky x (inv.closed q aS h x hx)
  ·exact ky x (kh x hx)
 ·rcases inv.xZ with h|⟨en,h1,h2,h3⟩
  ·exact .inl h
  ·exact .inr ⟨en,h1,h2,λh=>by
    rcases(al dk (c.lt h1)).1 h with h|h
    ·exact h3 h
    ·exact he h.symm⟩
 ·rcases(al e (c.lt h2)).1 aH with h|h
  ·exact inv.after e en h1 h2 h3 h
  ·subst h;rcases aY with aY|aY
   ·rw[an] at h2;cases h2;rw[aY] at h3;cases h3
   ·omega
def Inv.effect(c:iu P env B f r ops pl bd cZ cY call s S v)(inv:Inv P env B f ops pl bd cY s S v ds rc c8 fa eP listed a w dk m dj){p:Nat}{aT:a2}(an:pl[p]? =some aT)(dW:¬dH bd listed p)(kh:∀q,cY q p=true->dH bd listed q)(he:aT.op.isEffect=true)(aS:p=dk)
  {cF:Act} {av:World} {aP:Nat->Option Nat} (st:e_ P env ⟨pH dj aT.dst (v p),ds,rc⟩ cF (S (p+1)) av aP B) (ext:Ext f (S p) w m (S (p+1)) av aP):
  ∃FB,Inv P env B f ops pl bd cY s S v ds rc c8 fa eP (listed.setIfInBounds (bd p) true) cF av FB aP (pH dj aT.dst (v p)):=by
 have jG:=c.lt an;have al:∀q,q<ops.size->(dH bd (listed.setIfInBounds (bd p) true) q↔dH bd listed q\/q=p):=λq aS=>CI c inv.size jG aS;have ky:∀q,dH bd listed q->dH bd (listed.setIfInBounds (bd p) true) q:=λq aS=>by
  unfold dH at aS ⊢;by_cases h:bd p=bd q
  ·rw[<-h];simp[rZ,inv.size,(c.spec.pi p jG).1]
  ·rw[getD_set_ne false h];exact aS
 subst aS;obtain⟨q,h1,h2,h3,aH⟩:=Rq c (ops.size-(p+1)) (p+1) U;have b3K:rk pl s S c8 (dH bd (listed.setIfInBounds (bd p) true)) aP (p+1):=by
  have back:∀ew iw,ew<p+1->pl[ew]? =some iw->iw.op.isAlloc=true->¬dH bd (listed.setIfInBounds (bd p) true) ew->ew<p/\¬dH bd listed ew:=λew iw hlt hg ha hd=>by
   refine⟨?_,λh=>hd (ky ew h)⟩;rcases p6 ew p with h|h
   ·exact h
   ·have:ew=p:=by omega
    subst this;rw[an] at hg;cases hg;rw[b3I ha] at he;cases he
  refine⟨λew iw hlt hg ha hw hd=>?_,λp1 kL aQ aZ hl nW bx bz Z1 Z2 b4 ir d1 d2=>?_⟩
  ·obtain⟨dg,cD⟩:=back ew iw hlt hg ha hd;obtain⟨tn,tp,tq,wy⟩:=inv.uU.one ew iw dg hg ha hw cD;refine⟨?_,tp,zJ tq ext.next,by rw[ext.un _ tq tn];exact wy⟩;cases hm:aP (S ew).next with
   |none=>rfl
   |some b=>
    rcases ext.new _ _ hm with h|⟨h,_⟩
    ·rw[tn] at h;cases h
    ·omega
  ·have cD:=back kL aZ nW bz Z2 d2;have dg:=back p1 aQ U bx Z1 d1;exact inv.uU.lt p1 kL aQ aZ hl cD.1 bx bz Z1 Z2 b4 ir dg.2 cD.2
 obtain⟨x1,FC,FD⟩:=advance c (q-(p+1)) (p+1) U (λe en bT cE eI=>aH e en bT U eI) st (inv.ext.trans inv.uT ext) b3K;have aS:p+1+(q-(p+1))=q:=by omega
 rw[aS] at x1 FC FD;refine⟨q,inv.uT,by simpa using inv.size,λx hx hd y hy=>?_,h2,?_,λe en bT cE eI=>?_,λe en bT cE eI jH=>?_,inv.bk.put c an dW (λx bW hx=>al x (c.lt hx)),x1,FC,FD⟩
 ·rcases(al x hx).1 hd with h|rfl
  ·exact ky y (inv.closed x hx h y hy)
  ·exact ky y (kh y hy)
 ·rcases h3 with h|⟨en,bT,cE⟩
  ·exact .inl h
  ·refine .inr ⟨en,bT,cE,λh=>?_⟩;rcases(al q (c.lt bT)).1 h with h|h
   ·exact inv.after q en U bT cE h
   ·omega
 ·rcases v_ e p with jH|jH|jH
  ·exact ky e (inv.before e en jH cE eI)
  ·exact(al e (c.lt cE)).2 (.inr jH)
  ·have:=aH e en U bT cE;rw[this] at eI;cases eI
 ·rcases(al e (c.lt cE)).1 jH with h|h
  ·exact inv.after e en U cE eI h
  ·omega
def Inv.lt(c:iu P env B f r ops pl bd cZ cY call s S v)(inv:Inv P env B f ops pl bd cY s S v ds rc c8 fa eP listed a w dk m dj){p:Nat}{aT:a2}(an:pl[p]? =some aT)(hd:dH bd listed p):p<dk:=by
 have jG:=c.lt an;rcases inv.xZ with h|⟨en,h1,h2,h3⟩
 ·omega
 ·rcases v_ p dk with h|h|h
  ·exact h
  ·subst h;exact absurd hd h3
  ·rcases c.spec.uR dk p en h jG h1 h2 with aH|aH
   ·exact absurd (inv.closed p jG hd dk aH) h3
   ·obtain⟨_,eN,_,_,_,_,_,_,_,bz,_,cf,_⟩:=aH.ops;rw[an] at bz;cases bz;exact absurd hd (inv.after p aT h an (by rw[cf];rfl))
def Inv.switch(c:iu P env B f r ops pl bd cZ cY call s S v)(inv:Inv P env B f ops pl bd cY s S v ds rc c8 fa eP listed a w dk m dj){iV:Nat->a1 AV}{nV:Nat->ad}{bn:Nat->AV}(h1:∀q,q<=dk->iV q=s q/\nV q=S q)(h2:∀q,q<dk->bn q=v q):Inv P env B f ops pl bd cY iV nV bn ds rc c8 fa eP listed a w dk m dj:=by
 refine⟨inv.uT,inv.size,inv.closed,inv.Rp,inv.xZ,inv.before,inv.after,⟨λt=>?_,λp aT t an hd ht hlt=>?_,λt hm=>?_⟩,by rw[(h1 dk (a8 _)).2];exact inv.st,by rw[(h1 dk (a8 _)).2];exact inv.ext,⟨λp aT hlt an ha hw hd=>?_,λp ew aT iw h3 aH bT cE eI jH lZ ki CJ tr=>?_⟩⟩
 ·rw[(h1 0 (jD _)).1];exact inv.bk.gh t
 ·rw[(h1 0 (jD _)).1] at hlt;rw[h2 p (inv.lt c an hd)];exact inv.bk.iv p aT t an hd ht hlt
 ·rw[(h1 0 (jD _)).1];exact inv.bk.xY t hm
 ·rw[(h1 p U).1] at hw;rw[(h1 p U).2,(h1 (p+1) U).2,(h1 dk (a8 _)).2];exact inv.uU.one p aT hlt an ha hw hd
 ·rw[(h1 p U).1] at lZ;rw[(h1 ew U).1] at ki;rw[(h1 p U).2,(h1 ew U).2];exact inv.uU.lt p ew aT iw h3 aH bT cE eI jH lZ ki CJ tr
end
def Z3{f:Nat}{ar:aJ->Option AV}{J bP:ad}{ab:Option Nat}{a x:aJ}{v:AV}(h:opx f ar J (.store ab a x)=some (.val v bP)):
  ∃id off c dU,ar a=some (.p (some (id,off)))/\J.get id=some (.cells c)/\v=dF/\bP=J.set id (.cells dU)/\∀cr:ad,cr.get id=some (.cells c)->opx f ar cr (.store ab a x)=some (.val dF (cr.set id (.cells dU))):=by
 simp only[opx] at h;split at h<;>try (cases h;done)
 rename_i id off u ha hx;split at h<;>try (cases h;done)
 rename_i du;split at h<;>try (cases h;done)
 rename_i g4;split at h<;>try (cases h;done)
 rename_i c hg;split at h<;>cases h;rename_i dU mg;refine⟨id,off,c,dU,ha,hg,rfl,rfl,λcr h2=>?_⟩;simp only[opx,ha,hx,h2,mg];rw[if_neg du,if_pos g4]
section
variable {P:Program}{env:Env}{B f:Nat}{r:Option Nat}{ops:Array Oper}{pl:List a2}{bd cZ:Nat->Nat}{cY:Nat->Nat->Bool}{call:mG}{s:Nat->a1 AV}{S:Nat->ad}{v:Nat->AV}
def b3L(c:iu P env B f r ops pl bd cZ cY call s S v){x y:Nat}(l3:Fp pl cY x y){bW eN:a2}(hx:pl[x]? =some bW)(hy:pl[y]? =some eN):
  bW.op.isEffect=true/\eN.op.isEffect=true/\∃T h7,opx f (evalA env (s y)) (S x) eN.op=some (.val (v y) T)/\opx f (evalA env (s x)) T bW.op=some (.val (v x) h7)/\wantedA bW.guard (s x)=true/\wantedA eN.guard (s y)=true∧
   (∀id,h7.get id=(S ops.size).get id)/\h7.next=(S ops.size).next:=by
 obtain⟨Z4,b3M,s1,aQ,gg,s2,aZ,pF,h1,h2,h3,aH,bT,cE,eI,jH,_⟩:=l3.ops;rw[hx] at h1;cases h1;rw[hy] at h2;cases h2;have iS:=l3.mP;have hn:y+1=ops.size:=by have:=l3.last;have:=c.spec.len;omega
 have stx:=c.iL.step x bW hx;have b3N:=c.iL.step y eN hy;have so:wantedA bW.guard (s x)=true:=by rw[eI];rfl
 have wz:wantedA eN.guard (s y)=true:=by rw[jH];rfl
 obtain⟨i,CE,j,CF,aM,aU,iK⟩:=c.l3 x y l3 bW eN s1 aQ gg s2 aZ pF hx hy h3 aH;have iQ:opx f (evalA env (s x)) (S x) bW.op=some (.val (v x) (S (x+1))):=by
  rcases stx with⟨h,_⟩|⟨_,h⟩|⟨_,bG,args,h,_⟩
  ·rw[so] at h;cases h
  ·exact h
  ·obtain⟨_,_,dS,_,_⟩:=xN h;rw[h3] at dS;cases dS
 have Z5:opx f (evalA env (s y)) (S y) eN.op=some (.val (v y) (S (y+1))):=by
  rcases b3N with⟨h,_⟩|⟨_,h⟩|⟨_,bG,args,h,_⟩
  ·rw[wz] at h;cases h
  ·exact h
  ·obtain⟨_,_,dS,_,_⟩:=xN h;rw[aH] at dS;cases dS
 rw[h3] at iQ;rw[aH] at Z5;obtain⟨c9D,c9E,dU,Rs,bx,bz,bY,cf,c9⟩:=Z3 iQ;obtain⟨c9F,c9G,fr,Rt,bl,bj,k3,bI,cP⟩:=Z3 Z5;rw[aM] at bx;cases bx;rw[aU] at bl;cases bl;have gJ:=ad.a9 bz;rw[iS] at cf;have aA:(S x).get j=some (.cells fr):=by
  rw[cf,ad.kf trivial _ gJ,if_neg (oj iK)] at bj;exact bj
 have KO:=ad.a9 aA;have ix:=cP (S x) aA;have hi:((S x).set j (.cells Rt)).get i=some (.cells dU):=by
  rw[ad.kf trivial _ KO,if_neg iK];exact bz
 have b3O:=c9 _ hi;refine⟨by rw[h3];rfl,by rw[aH];rfl,_,_,by rw[aH,k3];exact ix,by rw[h3,bY];exact b3O,so,wz,λid=>?_,?_⟩
 ·rw[<-hn,bI,cf];have b3P:i<((S x).set j (.cells Rt)).next:=gJ;have b3Q:j<((S x).set i (.cells Rs)).next:=KO;rw[ad.kf trivial _ b3P,ad.kf trivial _ KO,ad.kf trivial _ b3Q,ad.kf trivial _ gJ];by_cases h1:id=i
  ·by_cases h2:id=j
   ·exact absurd (h1.symm.trans h2) iK
   ·rw[if_pos h1,if_neg h2,if_pos h1]
  ·rw[if_neg h1];by_cases h2:id=j
   ·rw[if_pos h2,if_pos h2]
   ·rw[if_neg h2,if_neg h2,if_neg h1]
 ·rw[<-hn,bI,cf];rfl
def Ru{J ai:ad}(h:∀id,J.get id=ai.get id)(id:Nat):live J id↔live ai id:=by unfold live;rw[h id]
def b3R{J ai:ad}{m:Nat->Option Nat}(h:∀id,J.get id=ai.get id):bq J m=bq ai m:=by
 funext b
 simp only[bq,live,h]
def e_.congr{ae:Fr}{a:Act}{J ai:ad}{w:World}{m:Nat->Option Nat}(st:e_ P env ae a J w m B)(h:∀id,J.get id=ai.get id)(hn:J.next=ai.next):e_ P env ae a ai w m B:=by
 have ho:=b3R (m:=m) h;have ak:=st.ctx.rel;have q3:Rel P ai w m B:=by
  refine⟨trivial,λid b hb=>by rw[<-hn];exact ak.gh id b hb,λid b o h1 h2 h3=>?_,λi nk b h1 h2 h3 aH=>ak.inj i nk b h1 h2 ((Ru h i).2 h3) ((Ru h nk).2 aH),ak.base,ak.lS⟩;rw[<-ho];exact ak.obj id b o h1 (by rw[h id];exact h2) h3
 exact st.mono q3 (λ_ _ h=>h) (a8 _) (λ_ _ h=>h) (λb _ hb=>⟨rfl,by rw[<-ho];exact hb⟩)
def Ext.congr{f:Nat}{c8 J ai:ad}{fa w:World}{eP m:Nat->Option Nat}(e:Ext f c8 fa eP J w m)(h:∀id,J.get id=ai.get id)(hn:J.next=ai.next):Ext f c8 fa eP ai w m:=
 ⟨e.mono,e.new,by rw[<-hn];exact e.next,e.size,e.bV,e.aD,λid h1 h2=>by rw[<-h id];exact e.low id h1 h2,λid h1 h2=>e.dead id h1 ((Ru h id).2 h2),e.os,e.tape,e.out,λid h1 h2=>by rw[<-h id];exact e.un id h1 h2⟩
end
section
variable {P:Program}{env:Env}{B f:Nat}{r:Option Nat}{ops:Array Oper}{pl:List a2}{bd cZ:Nat->Nat}{cY:Nat->Nat->Bool}{call:mG}{s:Nat->a1 AV}{S:Nat->ad}{v:Nat->AV}
variable {ds:List (Nat ⊕ (AV×List AV))}{rc:Bool}{c8:ad}{fa:World}{eP:Nat->Option Nat}{listed:Array Bool}{a:Act}{w:World}{dk:Nat}{m:Nat->Option Nat}{dj:a1 AV}
def Z6(c:iu P env B f r ops pl bd cZ cY call s S v):∀(d k:Nat),k+d<=ops.size->(∀(e:Nat) (en:a2),pl[e]? =some en->k<=e->e<k+d->en.op.isEffect=false/\en.op.isAlloc=false)->S (k+d)=S k
 |0,_,_,_=>rfl
 |d+1,k,aB,h=>by
  obtain⟨aT,nt⟩:=c.get (p:=k+d) U;obtain⟨h1,h2⟩:=h (k+d) aT nt U U;rcases c.calm nt h1 with⟨h3,_⟩|⟨cu,h3,_⟩
  ·show S (k+d+1)=_;rw[h3];exact Z6 c d k U (λe en aH bT cE=>h e en aH bT U)
  ·rw[h2] at h3;cases h3
def rk.mono{D ns:Nat->Prop}{k:Nat}(h:rk pl s S c8 D m k)(dW:∀(p:Nat) (aT:a2),pl[p]? =some aT->¬ns p->¬D p):rk pl s S c8 ns m k:=
 ⟨λp aT h1 h2 h3 aH bT=>h.one p aT h1 h2 h3 aH (dW p aT h2 bT),λp ew aT iw h1 h2 h3 aH bT cE eI jH lZ ki=>h.lt p ew aT iw h1 h2 h3 aH bT cE eI jH (dW p aT h3 lZ) (dW ew iw aH ki)⟩
def KP(J ai:ad):Prop:=(∀id,J.get id=ai.get id)/\J.next=ai.next
structure Inv2(P:Program)(env:Env)(B f:Nat)(ops:Array Oper)(pl:List a2)(bd:Nat->Nat)(cY:Nat->Nat->Bool)(s:Nat->a1 AV)(S:Nat->ad)(v:Nat->AV)(ds:List (Nat ⊕ (AV×List AV)))(rc:Bool)(c8:ad)(fa:World)(eP:Nat->Option Nat)
  (listed:Array Bool) (a:Act) (w:World) (x:Nat) (T:ad) (m:Nat->Option Nat) (dj:a1 AV):Prop where
 uT:Rel P c8 fa eP B
 size:listed.size=ops.size
 closed:∀p,p<ops.size->dH bd listed p->∀q,cY q p=true->dH bd listed q
 pure:∀(p:Nat) (aT:a2),pl[p]? =some aT->¬dH bd listed p->p=x\/(aT.op.isEffect=false/\aT.op.isAlloc=false/\aT.op.looks=false)
 fin:dH bd listed x->KP T (S ops.size)
 rest:¬dH bd listed x->∃bW h7,pl[x]? =some bW/\bW.op.isEffect=true/\(∀c as,bW.op≠ .call c as)/\wantedA bW.guard (s x)=true/\opx f (evalA env (s x)) T bW.op=some (.val (v x) h7)/\KP h7 (S ops.size)
 bk:xX pl v (s 0) (dH bd listed) dj
 st:e_ P env ⟨dj,ds,rc⟩ a T w m B
 ext:Ext f c8 fa eP T w m
def b3S(c:iu P env B f r ops pl bd cZ cY call s S v)(cz:listed.size=ops.size)(eD:∀p,p<ops.size->dH bd listed p->∀q,cY q p=true->dH bd listed q){i:Nat}(hi:i∈Region.ready .any ops listed):
  ∃p aT o mm,p<ops.size/\i=bd p/\pl[p]? =some aT/\ops[i]? =some o/\coper P ops o=some mm/\aT.op=mm.op/\aT.dst=mm.dst/\aT.guard=mm.guard/\¬dH bd listed p/\(∀q,cY q p=true->dH bd listed q):=by
 obtain⟨h1,o,ho,h2⟩:=mem_ready.1 hi;have gI:i<ops.size:=(zc.1 ho).1;obtain⟨h3,aH⟩:=c.spec.Fq i gI;obtain⟨aT,nt⟩:=c.get h3;obtain⟨bF,mm,la,aa,aM,aU,c3⟩:=c.spec.code _ aT nt;rw[aH,ho] at la;cases la;refine⟨cZ i,aT,o,mm,h3,aH.symm,nt,ho,aa,aM,aU,c3,Z0 c cz h3 (by rw[aH];exact h1),λq aS=>?_⟩;obtain⟨bF,la,e,he,hb,mJ⟩:=c.spec.ZB (cZ i) h3 q aS;rw[aH,ho] at la;cases la;have Rr:=h2 e he hb;have xG:=c.spec.back (cZ i) h3 o (by rw[aH];exact ho) e he hb;have x0:=c.spec.Fq e.on xG.1;have FA:dH bd listed (cZ e.on):=by unfold dH;rw[x0.2];exact Rr
 rcases mJ with rfl|mJ
 ·exact FA
 ·exact eD _ x0.1 FA q mJ
def Z7(c:iu P env B f r ops pl bd cZ cY call s S v)(cz:listed.size=ops.size){p:Nat}(jG:p<ops.size):∀q,dH bd listed q->dH bd (listed.setIfInBounds (bd p) true) q:=λq aS=>by
 unfold dH at aS ⊢;by_cases h:bd p=bd q
 ·rw[<-h];simp[rZ,cz,(c.spec.pi p jG).1]
 ·rw[getD_set_ne false h];exact aS
def Inv2.next(c:iu P env B f r ops pl bd cZ cY call s S v){x:Nat}{T qs:ad}(inv:Inv2 P env B f ops pl bd cY s S v ds rc c8 fa eP listed a w x T m dj){p:Nat}{aT:a2}(an:pl[p]? =some aT)(dW:¬dH bd listed p)(kh:∀q,cY q p=true->dH bd listed q)
  (ix:p=x/\KP qs (S ops.size)\/p≠x/\qs=T) {cF:Act} {av:World} {aP:Nat->Option Nat} (hx:x<ops.size) (st:e_ P env ⟨pH dj aT.dst (v p),ds,rc⟩ cF qs av aP B) (ext:Ext f c8 fa eP qs av aP):
  Inv2 P env B f ops pl bd cY s S v ds rc c8 fa eP (listed.setIfInBounds (bd p) true) cF av x qs aP (pH dj aT.dst (v p)):=by
 have jG:=c.lt an;have al:∀q,q<ops.size->(dH bd (listed.setIfInBounds (bd p) true) q↔dH bd listed q\/q=p):=λq aS=>CI c inv.size jG aS;have ky:=Z7 c inv.size jG;refine⟨inv.uT,by simpa using inv.size,λq aS hd y hy=>?_,λq dN aS hd=>inv.pure q dN aS (λh=>hd (ky q h)),λhd=>?_,λhd=>?_,inv.bk.put c an dW (λq dN aS=>al q (c.lt aS)),st,ext⟩
 ·rcases(al q aS).1 hd with h|rfl
  ·exact ky y (inv.closed q aS h y hy)
  ·exact ky y (kh y hy)
 ·rcases ix with⟨_,h⟩|⟨aY,rfl⟩
  ·exact h
  ·exact inv.fin (((al x hx).1 hd).resolve_right (oj aY))
 ·rcases ix with⟨rfl,_⟩|⟨aY,rfl⟩
  ·exact absurd ((al p jG).2 (.inr I)) hd
  ·exact inv.rest (λh=>hd (ky x h))
def b3T(c:iu P env B f r ops pl bd cZ cY call s S v){k:Nat}{Q:Exit->Act->World->Prop}{x:Nat}{T:ad}(Z8:x<ops.size)(inv:Inv2 P env B f ops pl bd cY s S v ds rc c8 fa eP listed a w x T m dj){i:Nat}(hi:i∈Region.ready .any ops listed)
  {K:Act->World->Prop} (de:∀cF av h7 aP ts,Inv2 P env B f ops pl bd cY s S v ds rc c8 fa eP (listed.setIfInBounds i true) cF av x h7 aP ts->K cF av):wpOpIn (fL r) k P ops Q i K a w:=by
 obtain⟨p,aT,o,mm,jG,rfl,an,ho,aa,aM,aU,c3,dW,kh⟩:=b3S c inv.size inv.closed hi;have FE:=ZT c inv.bk an dW kh inv.closed;have si:∀J,opx f (evalA env dj) J aT.op=opx f (evalA env (s p)) J aT.op:=λJ=>ZO (ZX FE);have hw:=ZY FE;obtain⟨dS,kg⟩:=Kk aa;rw[<-aM] at dS;rw[<-aU] at kg;unfold wpOpIn;simp only[ho];rw[Ki aa inv.st.ctx.bk,← c3];show if wantedA aT.guard dj=true then _ else _
 rw[hw];have tt:∀res,opx f (evalA env dj) T aT.op=some res->cop P o=some aT.op:=λres c0=>E7 dS.symm (λhb=>by rw[hb] at c0;simp[opx] at c0);have zQ:∀v bP,opx f (evalA env dj) T aT.op=some (.val v bP)->cop P o=some aT.op->∀c,o.op≠ .defer c:=λv bP hx nX c hd=>by
  obtain⟨ac,as,h⟩:=Kj hd nX;rw[h] at hx;simp only[opx] at hx;split at hx<;>cases hx
 have val:∀qs,wantedA aT.guard (s p)=true->opx f (evalA env dj) T aT.op=some (.val (v p) qs)->(p=x/\KP qs (S ops.size)\/p≠x/\qs=T)→
   if wantedA aT.guard (s p)=true then o.wpIn (fL r) k P a w K Q else(∀f,o.about P w a.eval=some f->(fL r).fn f)/\K (a.put o.dst undef) w:=λqs hwt cX ix=>by
  rw[hwt];simp only[if_true];obtain⟨u,b4,cV,cd,hR,pA,dR⟩:=Co inv.st.ctx (tt _ cX) cX;have al:(o.semAt (fL r).round a.eval)=execOp a.eval o:=v9 _ _ _ (zQ _ _ cX (tt _ cX));have g3:=(inv.st.ext dR pA).put aT.dst hR;rw[put_eq] at g3;have iM:=inv.next c an dW kh ix Z8 g3 (inv.ext.trans inv.uT dR);rw[kg] at iM;refine⟨λf _=>trivial,?_⟩;rw[al];rcases cd with cd|⟨cd,rfl⟩
  ·rw[cd];exact de _ _ _ _ _ iM
  ·rw[cd];exact de _ _ _ _ _ iM
 rcases c.iL.step p aT an with⟨z5,aq,ct⟩|⟨hwt,hx⟩|⟨hwt,bG,args,hx,eD⟩
 ·-- not wanted
  have FF:p≠x:=λhe=>by
   subst he;obtain⟨bW,h7,h1,_,_,h2,_⟩:=inv.rest dW;rw[an] at h1;cases h1;rw[z5] at h2;cases h2
  rw[z5];simp only[sX,if_false];refine⟨λ_ _=>trivial,?_⟩;have g3:=inv.st.put aT.dst (v:=dF) (u:=undef) R.undef;rw[put_eq,← aq] at g3;have iM:=inv.next c an dW kh (.inr ⟨FF,rfl⟩) Z8 g3 inv.ext;rw[kg] at iM;exact de _ _ _ _ _ iM
 ·by_cases FF:p=x
  ·subst FF;obtain⟨bW,h7,h1,_,_,h2,h3,aH⟩:=inv.rest dW;rw[an] at h1;cases h1;exact val h7 hwt (by rw[si];exact h3) (.inl ⟨rfl,aH⟩)
  ·obtain⟨bx,bz,bY⟩:=(inv.pure p aT an dW).resolve_left FF;obtain⟨bn,h1,h2⟩:=KH bx bz hx;simp only[bO.val.injEq] at h1;obtain⟨rfl,_⟩:=h1;exact val T hwt (by rw[si];exact h2 bY T) (.inr ⟨FF,rfl⟩)
 ·obtain⟨dd,as,FG,_,_⟩:=xN hx;exfalso;rcases inv.pure p aT an dW with rfl|⟨bx,_,_⟩
  ·obtain⟨bW,h7,h1,_,h2,_⟩:=inv.rest dW;rw[an] at h1;cases h1;exact h2 _ _ FG
  ·rw[FG] at bx;cases bx
def b3U{lF:a1 AV}{z6:ad}(rj:Rn P env B f r ops pl bd cZ cY call lF z6)(c:iu P env B f r ops pl bd cZ cY call s S v)(r9:s 0=lF)(rl:S 0=z6){k:Nat}{Q:Exit->Act->World->Prop}(inv:Inv P env B f ops pl bd cY s S v ds rc c8 fa eP listed a w dk m dj){i:Nat}(hi:i∈Region.ready .any ops listed)
  {K:Act->World->Prop} (Z9:∀s S v,Trace env f call pl s S v->s 0=lF->S 0=z6->∀cF av FB aP ts,Inv P env B f ops pl bd cY s S v ds rc c8 fa eP (listed.setIfInBounds i true) cF av FB aP ts->K cF av)
  (Z_:∀cF av x T aP ts,x<ops.size->Inv2 P env B f ops pl bd cY s S v ds rc c8 fa eP (listed.setIfInBounds i true) cF av x T aP ts->K cF av):wpOpIn (fL r) k P ops Q i K a w:=by
 have de:=Z9 s S v c.iL r9 rl;obtain⟨p,aT,o,mm,jG,rfl,an,ho,aa,aM,aU,c3,dW,kh⟩:=b3J c inv hi;have FE:=ZT c inv.bk an dW kh inv.closed;have si:∀J,opx f (evalA env dj) J aT.op=opx f (evalA env (s p)) J aT.op:=λJ=>ZO (ZX FE);have hw:=ZY FE;obtain⟨dS,kg⟩:=Kk aa;rw[<-aM] at dS;rw[<-aU] at kg;have iS:aT.op.isEffect=false->p<dk:=λhe=>by
  rcases inv.xZ with h|⟨en,h1,h2,h3⟩
  ·omega
  ·rcases v_ p dk with h|h|h
   ·exact h
   ·subst h;rw[an] at h1;cases h1;rw[he] at h2;cases h2
   ·rcases c.spec.uR dk p en h jG h1 h2 with aH|aH
    ·exact absurd (kh dk aH) h3
    ·obtain⟨_,eN,_,_,_,_,_,_,_,bz,_,cf,_⟩:=aH.ops;rw[an] at bz;cases bz;rw[cf] at he;cases he
 have k7:aT.op.isEffect=true->p=dk\/Fp pl cY dk p:=λhe=>by
  rcases v_ p dk with h|h|h
  ·exact absurd (inv.before p aT h an he) dW
  ·exact .inl h
  ·rcases inv.xZ with h1|⟨en,h1,h2,h3⟩
   ·omega
   ·rcases c.spec.uR dk p en h jG h1 h2 with aH|aH
    ·exact absurd (kh dk aH) h3
    ·exact .inr aH
 have a0a:∀q dN,pl[q]? =some dN->¬dH bd (listed.setIfInBounds (bd p) true) q->¬dH bd listed q:=λq dN aS h h2=>h ((CI c inv.size jG (c.lt aS)).2 (.inl h2));have FH:rk pl s S c8 (dH bd (listed.setIfInBounds (bd p) true)) m dk:=inv.uU.mono a0a;unfold wpOpIn;simp only[ho];rw[Ki aa inv.st.ctx.bk,← c3];show if wantedA aT.guard dj=true then _ else _
 rw[hw];have tt:∀res,opx f (evalA env dj) (S dk) aT.op=some res->cop P o=some aT.op:=λres c0=>E7 dS.symm (λhb=>by rw[hb] at c0;simp[opx] at c0);by_cases sr:aT.op.isEffect=true/\p≠dk
 ·-- vO second of two c9H,first
  have l3:=(k7 sr.1).resolve_left sr.2;rcases inv.xZ with h0|⟨bW,uV,b3V,b3W⟩
  ·have:=l3.mP;omega
  have Rv:=c.lt uV;obtain⟨bx,bz,T,h7,bY,cf,c9,gR,fN,ga⟩:=b3L c l3 uV an;have cX:opx f (evalA env dj) (S dk) aT.op=some (.val (v p) T):=by rw[si];exact bY
  rw[gR];simp only[if_true];obtain⟨u,b4,cV,cd,hR,pA,dR⟩:=Co inv.st.ctx (tt _ cX) cX;have hnd:∀c,o.op≠ .defer c:=λc hd=>by
   obtain⟨ac,as,h⟩:=Kj hd (tt _ cX);rw[h] at cX;simp only[opx] at cX;split at cX<;>cases cX
  have al:(o.semAt (fL r).round a.eval)=execOp a.eval o:=v9 _ _ _ hnd;have g3:=(inv.st.ext dR pA).put aT.dst hR;rw[put_eq] at g3;have KQ:∀q,q<ops.size->(dH bd (listed.setIfInBounds (bd p) true) q↔dH bd listed q\/q=p):=λq aS=>CI c inv.size jG aS;have ky:=Z7 c inv.size jG;have KR:∀dd as,bW.op≠ .call dd as:=λdd as hh=>by
   obtain⟨Z4,_,_,_,_,_,_,_,bl,_,k3,_⟩:=l3.ops;rw[uV] at bl;cases bl;rw[k3] at hh;cases hh
  have jj:¬dH bd (listed.setIfInBounds (bd p) true) dk:=λh=>by
   rcases(KQ dk Rv).1 h with h|h
   ·exact b3W h
   ·exact sr.2 h.symm
  have iM:Inv2 P env B f ops pl bd cY s S v ds rc c8 fa eP (listed.setIfInBounds (bd p) true) (a.put aT.dst u) b4 dk T cV (pH dj aT.dst (v p)):=by
   refine⟨inv.uT,by simpa using inv.size,λq aS hd y hy=>?_,λq dN aS hd=>?_,λhd=>absurd hd jj,λ_=>⟨bW,h7,uV,b3V,KR,c9,cf,fN,ga⟩,inv.bk.put c an dW (λq dN aS=>KQ q (c.lt aS)),g3,inv.ext.trans inv.uT dR⟩
   ·rcases(KQ q aS).1 hd with h|rfl
    ·exact ky y (inv.closed q aS h y hy)
    ·exact ky y (kh y hy)
   ·have b3X:=c.lt aS;have hl:=l3.last;have nW:=c.spec.len;have c9I:=l3.mP;rcases v_ q dk with h|h|h
    ·rcases l3.rest q dN h aS with bT|bT
     ·exact absurd (ky q (kh q bT)) hd
     ·exact .inr bT
    ·exact .inl h
    ·have:q=p:=by omega
     exact absurd ((KQ q b3X).2 (.inr this)) hd
  rw[kg] at iM;refine⟨λf _=>trivial,?_⟩;rw[al];rcases cd with cd|⟨cd,rfl⟩
  ·rw[cd];exact Z_ _ _ _ _ _ _ Rv iM
  ·rw[cd];exact Z_ _ _ _ _ _ _ Rv iM
 replace k7:aT.op.isEffect=true->p=dk:=λhe=>QF λh=>sr ⟨he,h⟩;rcases c.iL.step p aT an with⟨z5,aq,ct⟩|⟨hwt,hx⟩|⟨hwt,bG,args,hx,l,eD,FI,hall⟩
 ·-- not wanted
  rw[z5];simp only[sX,if_false];refine⟨λ_ _=>trivial,?_⟩;have g3:=inv.st.put aT.dst (v:=dF) (u:=undef) R.undef;rw[put_eq,← aq,kg] at g3;rw[<-kg] at g3;have g3:e_ P env ⟨pH dj aT.dst (v p),ds,rc⟩ (a.put o.dst undef) (S dk) w m B:=by rw[<-kg];exact g3
  by_cases Rw:p=dk
  ·subst Rw;cases he:aT.op.isEffect with
   |true=>
    obtain⟨oG,iM⟩:=inv.effect c an dW kh he I (cF:=a.put o.dst undef) (av:=w) (aP:=m) (by rw[ct];exact g3) (by rw[ct];exact Ext.refl _ _ _ _);exact de _ _ _ _ _ iM
   |false=>have:=iS he;omega
  ·exact de _ _ _ _ _ (inv.calm c an dW kh Rw (by cases he:aT.op.isEffect with|false=>exact .inl rfl|true=>exact absurd (k7 he) Rw) g3 inv.ext FH)
 ·-- a value
  rw[hwt];simp only[if_true];have zQ:∀v J bP,opx f (evalA env dj) J aT.op=some (.val v bP)->cop P o=some aT.op->∀c,o.op≠ .defer c:=λv J bP hx nX c hd=>by
   obtain⟨ac,as,h⟩:=Kj hd nX;rw[h] at hx;simp only[opx] at hx;split at hx<;>cases hx
  cases he:aT.op.isEffect with
  |true=>
   obtain rfl:=k7 he;have cX:opx f (evalA env dj) (S p) aT.op=some (.val (v p) (S (p+1))):=by rw[si];exact hx
   obtain⟨u,b4,cV,cd,hR,pA,dR⟩:=Co inv.st.ctx (tt _ cX) cX;have al:(o.semAt (fL r).round a.eval)=execOp a.eval o:=v9 _ _ _ (zQ _ _ _ cX (tt _ cX));have g3:=(inv.st.ext dR pA).put aT.dst hR;rw[put_eq] at g3;obtain⟨oG,iM⟩:=inv.effect c an dW kh he I g3 dR;rw[kg] at iM;refine⟨λf _=>trivial,?_⟩;rw[al];rcases cd with cd|⟨cd,rfl⟩
   ·rw[cd];exact de _ _ _ _ _ iM
   ·rw[cd];exact de _ _ _ _ _ iM
  |false=>
   have hlt:=iS he;cases ha:aT.op.isAlloc with
   |false=>
    have cX:opx f (evalA env dj) (S dk) aT.op=some (.val (v p) (S dk)):=by
     rw[si];obtain⟨bn,h1,h2⟩:=KH he ha hx;simp only[bO.val.injEq] at h1;obtain⟨wq,l4⟩:=h1;subst wq;cases hl:aT.op.looks with
     |false=>exact h2 hl _
     |true=>
      have b3Y:dk=ops.size\/∃(dN:a2),pl[dk]? =some dN/\dN.op.isEffect=true:=by
       rcases inv.xZ with h|⟨en,h1,h2,_⟩
       ·exact .inl h
       ·exact .inr ⟨en,h1,h2⟩
      rcases c.spec.jS p aT an hl dk hlt b3Y with h|⟨e,en,bx,bz,bY,cf,c9⟩|h
      ·obtain⟨cr,h3⟩:=c.steady p aT an hwt he dk h;obtain⟨v2,aH,_⟩:=KH he ha h3;cases aH;exact h3
      ·exact absurd (inv.closed e (c.lt bx) (inv.before e en cf bx bz) p c9) dW
      ·have mg:=Z6 c (dk-(p+1)) (p+1) (by have:=inv.Rp;omega) (λe en bx bz bY=>h e en bx U U);have fK:p+1+(dk-(p+1))=dk:=by omega
       rw[fK] at mg;rw[mg,l4];rw[l4] at hx;exact hx
    obtain⟨u,b4,cV,cd,hR,pA,dR⟩:=Co inv.st.ctx (tt _ cX) cX;have al:(o.semAt (fL r).round a.eval)=execOp a.eval o:=v9 _ _ _ (zQ _ _ _ cX (tt _ cX));have g3:=(inv.st.ext dR pA).put aT.dst hR;rw[put_eq] at g3;have Rx:rk pl s S c8 (dH bd (listed.setIfInBounds (bd p) true)) cV dk:=by
     refine⟨λew iw h1 h2 h3 aH bT=>?_,FH.lt⟩;obtain⟨tn,tp,tq,wy⟩:=FH.one ew iw h1 h2 h3 aH bT;refine⟨?_,tp,tq,wy⟩;cases hm:cV (S ew).next with
     |none=>rfl
     |some b=>
      rcases dR.new _ _ hm with h|⟨h,_⟩
      ·rw[tn] at h;cases h
      ·omega
    have iM:=inv.calm c an dW kh U (.inl he) g3 (inv.ext.trans inv.uT dR) Rx;rw[kg] at iM;refine⟨λf _=>trivial,?_⟩;rw[al];rcases cd with cd|⟨cd,rfl⟩
    ·rw[cd];exact de _ _ _ _ _ iM
    ·rw[cd];exact de _ _ _ _ _ iM
   |true=>
    obtain⟨cu,sn,h1,c9J,h2⟩:=ZP ha hx;simp only[bO.val.injEq] at h1;obtain⟨wq,l4⟩:=h1;have sk:∀cr,opx f (evalA env dj) cr aT.op=some (.val (sn cr.next) (cr.push cu)):=λcr=>by rw[si];exact h2 cr
    have nX:=tt _ (sk (S dk));obtain⟨u,av,bF,cd,hh,ni,qU,mI,mJ,hval⟩:=b3E inv.st.ctx nX ha sk;obtain⟨tn,tp,tq,wy⟩:=inv.uU.one p aT hlt an ha hwt dW;have hg:(S dk).get (S p).next=some cu:=by rw[wy,l4];exact ad.js cu
    obtain⟨pA,lC,cz,ij,hold,Fx,nj⟩:=inv.st.ctx.rel.Rj tq tn hg hh mJ;have al:(o.semAt (fL r).round a.eval)=execOp a.eval o:=v9 _ _ _ (zQ _ _ _ (sk (S dk)) nX);have hR:R av (bindM m (S p).next w.heap.size) (bq (S dk) (bindM m (S p).next w.heap.size)) B (v p) u:=by
     rw[wq];exact hval _ _ _ _ _ (iF _ _ _) nj
    have g3:=(inv.st.mono pA lC cz ij Fx).put aT.dst hR;rw[put_eq] at g3;have Rx:rk pl s S c8 (dH bd (listed.setIfInBounds (bd p) true)) (bindM m (S p).next w.heap.size) dk:=by
     refine⟨λew iw bx bz bY cf c9=>?_,FH.lt⟩;obtain⟨i1,i2,i3,i4⟩:=FH.one ew iw bx bz bY cf c9;refine⟨?_,i2,i3,i4⟩;have CG:=a0a ew iw bz c9;have aY:ew≠p:=λe=>c9 ((CI c inv.size jG (c.lt bz)).2 (.inr e));rw[jV m _ _ (λe=>?_)]
     ·exact i1
     ·rcases p6 ew p with h|h
      ·have:=inv.uU.lt ew p iw aT h hlt bz an bY ha cf hwt CG dW;omega
      ·have:=inv.uU.lt p ew aT iw U bx an bz ha bY hwt cf dW CG;omega
    have iM:=inv.calm c an dW kh U (.inl he) g3 (inv.ext.Rj tp tn hh ni qU mI) Rx;rw[kg] at iM;refine⟨λf _=>trivial,?_⟩;rw[al,cd];exact de _ _ _ _ _ iM
 ·-- a call
  rw[hwt];simp only[if_true];obtain⟨dd,as,FG,_,_⟩:=xN hx;have he:aT.op.isEffect=true:=by rw[FG];rfl
  obtain rfl:=k7 he;have cX:opx f (evalA env dj) (S p) aT.op=some (.call bG args):=by rw[si];exact hx
  have nX:=tt _ cX;rw[FG] at nX cX;obtain⟨bc,jb,h1,hU,has⟩:=xN cX;cases h1;obtain⟨bm,E9,E_,q_⟩:=Y2 nX;obtain⟨x,jh,zR⟩:=QN E_ inv.st.ctx hU;have Fa:=EL inv.st.ctx.rel.zH inv.st.ctx.globs inv.st.ctx.bk q_ has;have c0:=c.b3H _ _ _ _ eD (k-1) w m _ _ inv.st.ctx.rel inv.st.ctx.globs zR Fa;refine Y1 E9 jh (us:=bm.args.map a.eval) I (λ_=>trivial) I (by
   have aM:(bm.args.toList.map a.eval).toArray=bm.args.map a.eval:=by apply om;simp
   rw[aM] at c0;exact c0) (λaM b4 ak=>?_)
  obtain⟨ret,bP,eO,cV,h1,h2,h3⟩:=ak;obtain⟨CK,hu⟩:=hall _ eO;have hu:ret= .ok CK:=hu;subst hu;obtain⟨iV,nV,bn,KS,aj,b3Z,lE,b4a⟩:=rj.l3 s S v c.iL r9 rl p aT bG args l CK bP an hwt hx eD eO hall;have es:=(aj 0 (jD _)).1.trans r9;have a0b:=(aj 0 (jD _)).2.trans rl;have bc:=rj.KL iV nV bn KS es a0b;have b4b:=inv.switch c aj b3Z;subst lE b4a;cases aM with
  |returned u=>
   have g3:=(inv.st.ext h3 h2).put aT.dst h1;rw[put_eq] at g3;obtain⟨oG,iM⟩:=b4b.effect bc an dW kh he I g3 (by rw[(aj p (a8 _)).2];exact h3);rw[kg] at iM;exact Z9 iV nV bn KS es a0b _ _ _ _ _ iM
  |panicked pz=>exact h1.elim
  |outgrown=>exact h1.elim
def a0c(c:iu P env B f r ops pl bd cZ cY call s S v)(cz:listed.size=ops.size)(ak:Region.ready .any ops listed=[]):∀p,p<ops.size->dH bd listed p:=by
 intro p
 induction p using Nat.strongRecOn with
 |_ p aC=>
  intro an;refine QF λdW=>?_;have Fu:=c.spec.pi p an;have:bd p∈Region.ready .any ops listed:=by
   refine mem_ready.2 ⟨?_,ops[bd p],uj Fu.1,λe he hb=>?_⟩
   ·unfold dH at dW;have hlt:bd p<listed.size:=by rw[cz];exact Fu.1
    simp[rZ,hlt] at dW ⊢;exact dW
   ·have xG:=c.spec.back p an _ (uj Fu.1) e he hb;have x0:=c.spec.Fq e.on xG.1;have:=aC (cZ e.on) xG.2 x0.1;unfold dH at this;rw[x0.2] at this;exact this
  rw[ak] at this;cases this
def a0d(c:iu P env B f r ops pl bd cZ cY call s S v)(hall:∀p,p<ops.size->dH bd listed p)(fM:xX pl v (s 0) (dH bd listed) dj):∀t,dj.get t=(s ops.size).get t:=by
 have aa:=Ro c ops.size (a8 _);intro t;by_cases hex:∃(q:Nat) (dN:a2),pl[q]? =some dN/\dN.dst=some t
 ·obtain⟨q,dN,h1,h2⟩:=hex;by_cases hlt:((s 0).get t).isSome=true
  ·rw[fM.iv q dN t h1 (hall q (c.lt h1)) h2 hlt,aa.iv q dN t h1 (c.lt h1) h2 hlt]
  ·have aM:=fM.gh t;have aU:=aa.gh t;cases hg:(s 0).get t with
   |some y=>rw[hg] at hlt;exact absurd I hlt
   |none=>
    rw[hg] at aM aU;cases qq:dj.get t with
    |some y=>rw[qq] at aM;cases aM
    |none=>
     cases uD:(s ops.size).get t with
     |some y=>rw[uD] at aU;cases aU
     |none=>rfl
 ·rw[fM.xY t (λq dN h1 _ h2=>hex ⟨q,dN,h1,h2⟩),aa.xY t (λq dN h1 _ h2=>hex ⟨q,dN,h1,h2⟩)]
def a0e(c:iu P env B f r ops pl bd cZ cY call s S v)(inv:Inv P env B f ops pl bd cY s S v ds rc c8 fa eP listed a w dk m dj)(ak:Region.ready .any ops listed=[]):
  e_ P env ⟨s ops.size,ds,rc⟩ a (S ops.size) w m B/\Ext f c8 fa eP (S ops.size) w m:=by
 have hall:=a0c c inv.size ak;have aS:dk=ops.size:=by
  rcases inv.xZ with h|⟨en,h1,_,h3⟩
  ·exact h
  ·exact absurd (hall dk (c.lt h1)) h3
 subst aS;have q6:=a0d c hall inv.bk;have fM:=inv.st.ctx.bk;refine⟨⟨⟨inv.st.ctx.rel,⟨λi x hi=>fM.1 i x (by rw[q6 i];exact hi),λi hi=>fM.2 i (by rw[q6 i];exact hi)⟩,inv.st.ctx.globs⟩,inv.st.defs⟩,inv.ext⟩
def a0f(c:iu P env B f r ops pl bd cZ cY call s S v){x:Nat}{T:ad}(hx:x<ops.size)(inv:Inv2 P env B f ops pl bd cY s S v ds rc c8 fa eP listed a w x T m dj)(ak:Region.ready .any ops listed=[]):
  e_ P env ⟨s ops.size,ds,rc⟩ a (S ops.size) w m B/\Ext f c8 fa eP (S ops.size) w m:=by
 have hall:=a0c c inv.size ak;obtain⟨aM,aU⟩:=inv.fin (hall x hx);have q6:=a0d c hall inv.bk;have fM:=inv.st.ctx.bk;have st:e_ P env ⟨s ops.size,ds,rc⟩ a T w m B:=⟨⟨inv.st.ctx.rel,⟨λi x hi=>fM.1 i x (by rw[q6 i];exact hi),λi hi=>fM.2 i (by rw[q6 i];exact hi)⟩,inv.st.ctx.globs⟩,inv.st.defs⟩
 exact⟨st.congr aM aU,inv.ext.congr aM aU⟩
def count_set{l:Array Bool}{i:Nat}(h:l.getD i true=false):(l.setIfInBounds i true).toList.count false+1=l.toList.count false:=by
 have hlt:i<l.size:=by
  rcases p6 i l.size with h1|h1
  ·exact h1
  ·simp[rZ,BT h1] at h
 have aq:l[i]=false:=by simpa [rZ,hlt] using h
 rw[YP,List.count_set (by simpa using hlt)];have Qe:0<l.toList.count false:=List.count_pos_iff.2 (by rw[<-aq];simp);have iG:(l.toList[i]'(by simpa using hlt))=false:=by simpa using aq
 rw[iG];have aM:(if(false==false)=true then 1 else 0)=1:=rfl;have aU:(if(true==false)=true then 1 else 0)=0:=rfl;rw[aM,aU];omega
def a0g(c:iu P env B f r ops pl bd cZ cY call s S v){k:Nat}{Q:Exit->Act->World->Prop}(cc:∀cF av aP,e_ P env ⟨s ops.size,ds,rc⟩ cF (S ops.size) av aP B->Ext f c8 fa eP (S ops.size) av aP->Q .normal cF av){x:Nat}(hx:x<ops.size):
  ∀(fuel:Nat) (listed:Array Bool) (a:Act) (w:World) (T:ad) (m:Nat->Option Nat) (dj:a1 AV),Inv2 P env B f ops pl bd cY s S v ds rc c8 fa eP listed a w x T m dj->listed.toList.count false<=fuel->wpAnyIn (fL r) k P .any ops Q fuel listed a w
 |0,listed,a,w,T,m,dj,inv,hf=>by
  have ak:Region.ready .any ops listed=[]:=by
   refine YS.2 λi hi=>?_;have:=count_set (mem_ready.1 hi).1;omega
  obtain⟨h1,h2⟩:=a0f c hx inv ak;exact⟨ak,cc _ _ _ h1 h2⟩
 |fuel+1,listed,a,w,T,m,dj,inv,hf=>by
  refine⟨λak=>?_,λi hi=>?_⟩
  ·obtain⟨h1,h2⟩:=a0f c hx inv ak;exact cc _ _ _ h1 h2
  ·have b4c:=count_set (mem_ready.1 hi).1;exact b3T c hx inv hi (λcF av h7 aP ts iM=>a0g c cc hx fuel _ cF av h7 aP ts iM U)
def a0h{lF:a1 AV}{z6:ad}(rj:Rn P env B f r ops pl bd cZ cY call lF z6){k:Nat}{Q:Exit->Act->World->Prop}(cc:∀s S v,Trace env f call pl s S v->s 0=lF->S 0=z6->∀cF av aP,e_ P env ⟨s ops.size,ds,rc⟩ cF (S ops.size) av aP B->Ext f c8 fa eP (S ops.size) av aP->Q .normal cF av):
  ∀(fuel:Nat) (s:Nat->a1 AV) (S:Nat->ad) (v:Nat->AV),Trace env f call pl s S v->s 0=lF->S 0=z6->∀(listed:Array Bool) (a:Act) (w:World) (dk:Nat) (m:Nat->Option Nat) (dj:a1 AV),Inv P env B f ops pl bd cY s S v ds rc c8 fa eP listed a w dk m dj->listed.toList.count false<=fuel->wpAnyIn (fL r) k P .any ops Q fuel listed a w
 |0,s,S,v,iL,r9,rl,listed,a,w,dk,m,dj,inv,hf=>by
  have ak:Region.ready .any ops listed=[]:=by
   refine YS.2 λi hi=>?_;have:=count_set (mem_ready.1 hi).1;omega
  obtain⟨h1,h2⟩:=a0e (rj.KL s S v iL r9 rl) inv ak;exact⟨ak,cc s S v iL r9 rl _ _ _ h1 h2⟩
 |fuel+1,s,S,v,iL,r9,rl,listed,a,w,dk,m,dj,inv,hf=>by
  have c:=rj.KL s S v iL r9 rl;refine⟨λak=>?_,λi hi=>?_⟩
  ·obtain⟨h1,h2⟩:=a0e c inv ak;exact cc s S v iL r9 rl _ _ _ h1 h2
  ·have b4c:=count_set (mem_ready.1 hi).1;exact b3U rj c r9 rl inv hi (λiV nV bn KS Ry b4d cF av FB aP ts iM=>a0h rj cc fuel iV nV bn KS Ry b4d _ cF av FB aP ts iM U)
    (λcF av x T aP ts hx iM=>a0g c (cc s S v iL r9 rl) hx fuel _ cF av T aP ts iM U)
end
section
variable {P:Program}{env:Env}{B:Nat}
def b4e{ae:Fr}{a:Act}{J:ad}{w:World}{m:Nat->Option Nat}(st:e_ P env ae a J w m B)(f n:Nat):e_ P env ae a J {w with drawn:=n} m B/\Ext f J w m J {w with drawn:=n} m:=by
 have ak:=st.ctx.rel;have aB:∀aG,aG<w.heap.size->¬bq J m aG->w.heap[aG]? =w.heap[aG]? ∧¬bq J m aG:=λ_ _ h=>⟨rfl,h⟩
 refine⟨st.mono ⟨ak.len,ak.gh,λid aG o h1 h2 h3=>?_,ak.inj,ak.base,ak.lS⟩ (λ_ _ h=>h) (a8 _) (λ_ _ h=>h) aB,
  ⟨λ_ _ h=>h,λ_ _ h=>.inl h,a8 _,a8 _,λ_ _ h=>h,λ_ _ _=>rfl,λ_ _ _=>rfl,λ_ _ h=>h,rfl,rfl,rfl,λ_ _ _=>rfl⟩⟩
 obtain⟨bF,aH,bT⟩:=ak.obj id aG o h1 h2 h3;exact⟨bF,aH,nO.mono (w:=w) (av:={w with drawn:=n}) (λ_ _ h=>h) (a8 _) (λ_ _ h=>h) aB bT⟩
def b4f{f:Nat}{call:mG}{pl:List a2}{s:Nat->a1 AV}{S:Nat->ad}{v:Nat->AV}{cY:Nat->Nat->Bool}{ao:a1 AV}(iL:Trace env f call pl s S v)(he:s pl.length=ao)(h:swapOk env ao pl=true){p q:Nat}(l3:Fp pl cY p q)
  {bW eN:a2} {s1 s2:Option Nat} {aQ gg aZ pF:aJ} (uV:pl[p]? =some bW) (FJ:pl[q]? =some eN) (hx:bW.op= .store s1 aQ gg) (hy:eN.op= .store s2 aZ pF):∃i CE j CF,evalA env (s p) aQ=some (.p (some (i,CE)))/\evalA env (s q) aZ=some (.p (some (j,CF)))/\i≠j:=by
 have iS:=l3.mP;have hl:=l3.last;obtain⟨Z4,b3M,_,_,_,_,_,_,bl,bj,_,_,cP,dI,_,_,hH⟩:=l3.ops;rw[uV] at bl;cases bl;rw[FJ] at bj;cases bj;have aM:s q=s p:=by rw[<-iS,iL.put p bW uV,cP];rfl
 have aU:s pl.length=s q:=by rw[<-hl,iL.put q eN FJ,dI];rfl
 have b4g:∃t,pl.reverse=eN::bW::t:=by
  have bx:pl.reverse[0]? =some eN:=by rw[YT U,← FJ];congr 1;omega
  have bz:pl.reverse[1]? =some bW:=by rw[YT U,← uV];congr 1;omega
  match pl.reverse,bx,bz with
  |a::b::t,bx,bz=>simp at bx bz;exact⟨t,by rw[bx,bz]⟩
 obtain⟨t,ht⟩:=b4g;unfold swapOk at h;rw[ht] at h;simp only at h;split at h
 ·rename_i hw;exact absurd hw hH
 ·rw[hy,hx] at h;simp only at h;rw[<-he,aU,aM] at h;rw[aM];split at h
  ·rename_i i CE j CF bx bz;refine⟨i,CE,j,CF,bx,bz,λiK=>?_⟩;subst iK;rw[g0] at h;cases h
  ·cases h
def b4h{run:kd}(mn:P.follows .mixedOrders=true)(sg:∀f r,E6 P env B f r (callV env run f)):Y7 P env B run:=by
 intro floor pl ae J L cd Rz k r id ops a w m wm st Q cc;obtain⟨bd,cZ,cY,spec⟩:=b3u wm;have rj:Rn P env B floor r ops pl bd cZ cY (callV env run floor) ae.bk J:=by
  refine⟨λs S v iL h1 h2=>?_,λs S v iL h1 h2=>ZR _ _ _ _ _ cd iL h1 h2⟩;obtain⟨x,RA,to⟩:=Rm _ _ _ _ _ cd iL h1 h2;obtain⟨cq,b4i⟩:=Rz x RA;refine⟨spec,sg floor r,iL,λp aT an hw he q aS=>?_,λp q l3 bW eN s1 aQ gg s2 aZ pF uV FJ hx hy=>b4f iL to.ao b4i l3 uV FJ hx hy⟩;have eO:=to.wx p aT an hw he (λh=>by rw[h] at aS;cases aS);rw[pk] at cq;have h1:=cq _ eO;unfold steady at h1;have h2:=pw h1 q aS;simp only[to.ch,List.reverse_nil,xI,EI,zP] at h2;split at h2
  ·rename_i c9K a0i;simp only[iR,fA] at a0i;obtain⟨oG,KT,rfl⟩:=a0i;obtain rfl:q=oG:=by
    have:=E1 (i:=q) (n:=pl.length+1) (by have:=(fH.1 KT).1;simpa using this);rw[this] at KT;cases KT;rfl
   split at h2
   ·rename_i v1 bP hx;rw[AV.Cx _ _ _ h2] at hx;exact⟨bP,hx⟩
   ·cases h2
  ·cases h2
 obtain⟨s,S,v,iL,aM,aU⟩:=Rl _ _ _ _ _ cd;have c:=rj.KL s S v iL aM aU;refine wpIn_region_any mn ?_;obtain⟨g3,b4j⟩:=b4e st floor (w.drawn+1);have bE:ae=⟨s 0,ae.defers,ae.gv⟩:=by rw[aM]
 obtain⟨q,h1,h2,h3,aH⟩:=Rq c ops.size 0 U;have pD:∀p,¬dH bd (Array.replicate ops.size false) p:=λp h=>by
  unfold dH at h;simp only[rZ] at h;rw[Array.getElem?_replicate] at h;split at h<;>simp at h
 have b4k:rk pl s S J (dH bd (Array.replicate ops.size false)) m 0:=⟨λp aT h=>by omega,λp ew aT iw h h'=>by omega⟩
 obtain⟨x1,FC,FD⟩:=advance c (D:=dH bd (Array.replicate ops.size false)) q 0 U (λp aT bT cE eI=>aH p aT bT U eI) (by rw[aU];exact g3) (by rw[aU];exact b4j) b4k;rw[nq] at x1 FC FD;refine a0h (c8:=J) (fa:=w) (eP:=m) (ds:=ae.defers) (rc:=ae.gv) rj (λs S v iL aM aU cF av aP bx bz=>?_) ops.size s S v iL aM aU _ a _ q m (s 0) ⟨st.ctx.rel,ay,λp an hd=>absurd hd (pD p),h2,?_,λe en bT cE eI=>?_,λe en _ _ _ h=>pD e h,⟨λ_=>rfl,λp aT t an hd=>absurd hd (pD p),λt _=>rfl⟩,by rw[<-bE];exact x1,FC,FD⟩ ay
 ·obtain⟨x,RA,to⟩:=Rm _ _ _ _ _ cd iL aM aU;rw[<-spec.len,to.st] at bx bz;rw[to.ao] at bx;refine cc x RA cF av aP ?_ bz;have:x.1=⟨x.1.bk,ae.defers,ae.gv⟩:=by rw[<-to.rj,← to.rc]
  rw[this];exact bx
 ·rcases h3 with h|⟨en,bT,cE⟩
  ·exact .inl h
  ·exact .inr ⟨en,bT,cE,pD q⟩
 ·have:=aH e en U bT cE;rw[this] at eI;cases eI
end
section
variable {P:Program}{env:Env}{B:Nat}
def a0j(hk:uM P env)(fI:Cv P env B)(hex:Cw P env)(mn:P.follows .mixedOrders=true):∀n,sj P env B (exec env n)
 |0=>sj.zero
 |n+1=>by
  have aC:=a0j hk fI hex mn n;rw[ra];exact b2o aC (λf r=>Zw hk fI hex aC f r) (b4h mn (λf r=>Zw hk fI hex aC f r)) (b3o hk fI aC)
def fs(n:Nat):AV->Bool:=
 Nat.rec (motive:=λ_=>AV->Bool) (λ_=>false) (λ_ aC v=>
  match v with
  | .df o v=>!o&&cN aC v.cells
  | .aV o _ xs=>(!o||xs.isEmpty)&&cN (λx=>cN aC x.cells) xs
  | .it _ v=>aC v
  | .aj l=>cN aC l
  | .bg l=>cN aC l
  | .f _ x y=>cN aC x&&cN aC y
  | .gP o _=>!o
  |_=>true) n
def nu(n:Nat)(v:AV):fs (n+1) v=match v with
  | .df o v=>!o&&cN (fs n) v.cells
  | .aV o _ xs=>(!o||xs.isEmpty)&&cN (λx=>cN (fs n) x.cells) xs
  | .it _ v=>fs n v
  | .aj l=>cN (fs n) l
  | .bg l=>cN (fs n) l
  | .f _ x y=>cN (fs n) x&&cN (fs n) y
  | .gP o _=>!o
  |_=>true:=rfl
def a0k{w:World}{O:Nat->Prop}:∀(n:Nat) (v:AV) (u:Value),fs n v=true->R w (λ_=>none) O B v u->R w (λ_=>none) (λb=>b<B) B v u
 |0,_,_,h,_=>by cases h
 |n+1,v,u,h,hR=>by
  have aC:=a0k (w:=w) (O:=O) n;rw[nu] at h;cases hR with
  |b x=>exact .b x
  |i k n=>exact .i k n
  |s l al=>exact .s l al
  |r4=>exact .r4
  |p hm=>simp at hm
  |df ba cv hb b0 aa ak hf=>
   simp only[dD,xt] at h;exact .df ba (λhlt=>by have:=b0 h.1;omega) hb b0 aa (λj aA=>aC _ _ (pw h.2 _ (bC aA)) (ak j aA)) hf
  |nilsl=>exact .nilsl
  |ao hm=>simp at hm
  |mH=>exact .mH
  |aV ba cv al aa ak hl hf fI=>
   simp only[dD,um,xt,List.isEmpty_iff] at h;refine .aV ba (λaY=>?_) al aa (λi hi j aA=>aC _ _ (pw (pw h.2 _ (bC hi)) _ (bC aA)) (ak i hi j aA)) hl hf fI;have h1:=h.1.resolve_right aY;exact⟨λhlt=>by have:=(cv aY).2.2 h1;omega,(cv aY).2.1,(cv aY).2.2⟩
  |s5=>exact .s5
  |mp hm=>simp at hm
  |cC hf bE aa uu=>
   simp only[dD] at h;exact .cC hf (λi a b=>aC _ _ (pw h.1 _ (bC a)) (bE i a b)) aa (λi a b=>aC _ _ (pw h.2 _ (bC a)) (uu i a b))
  |vT hm=>simp at hm
  |hD=>exact .hD
  |it aq=>exact .it (aC _ _ h aq)
  |fx=>exact .fx
  |aj al ak hf=>exact .aj al (λi a b=>aC _ _ (pw h _ (bC a)) (ak i a b)) hf
  |bg al ak=>exact .bg al (λi a b=>aC _ _ (pw h _ (bC a)) (ak i a b))
  |ih hu hn=>exact .ih hu hn
  |iQ al=>exact .iQ al
  |jr n hn=>exact .jr n hn
  |y al=>exact .y al
  |gP hu al=>
   simp only[xt] at h;subst h;exact .gP hu (TokOk.fresh al)
def SpecEntry(P:Program)(env:Env)(b2 g:Nat)(aO:List AV)(r:AV):Prop:=
 (∃fn c,P.funcs[g]? =some fn/\fn.body=some c/\(fn.name== "runtime.NumGoroutine")=false)∧
  ∀k rd w us,b2<=w.heap.size->Globs env w b2->bQ w (λ_=>none) (λ_=>False) w.heap.size aO us.toList→
   CallsIn (fL rd) k P g us w (λe b4=>∃u,e= .returned u/\R b4 (λ_=>none) (λb=>b<w.heap.size) w.heap.size r u/\w.heap.size<=b4.heap.size/\(∀b,b<w.heap.size->b4.heap[b]? =w.heap[b]?)/\b4.os=w.os/\b4.tape=w.tape/\b4.output=w.output)
def KU(P:Program)(env:Env):Prop:=∀b2,Cv P env b2
def b4l(w:World):Rel P ⟨.nil,0⟩ w (λ_=>none) w.heap.size:=
 ⟨trivial,λ_ _ h=>by simp at h,λ_ _ _ h=>by simp at h,λ_ _ _ h=>by simp at h,λ_ _ h=>by simp at h,a8 _⟩
def b4m(aG:Nat):¬bq ⟨.nil,0⟩ (λ_=>none) aG:=λ⟨_,h,_⟩=>by simp at h
def a0l(hk:uM P env)(fI:KU P env)(hex:Cw P env)(mn:P.follows .mixedOrders=true){n g:Nat}{aO:List AV}{r:AV}{l:List (ee×ad)}(h:runF env (exec env n) 0 g aO ⟨.nil,0⟩=some l){bh fn:Nat}(a_:joinF bh 0 l=some r)(bE:fs fn r=true)(b2:Nat):
  SpecEntry P env b2 g aO r:=by
 refine⟨?_,λk rd w us b0 dt ha=>?_⟩
 ·unfold runF at h;cases hg:env.funcs g with
  |none=>simp[hg] at h
  |some cj=>
   obtain⟨fn,h1,h2,h3⟩:=hk.funcs g cj hg;obtain⟨_,c,_,_,aH,_⟩:=QR h2;exact⟨fn,c,h1,aH,h3⟩
 ·have FK:Globs env w w.heap.size:=λg v hg eG=>(dt g v hg eG).mono (λ_ _ h=>h) (a8 _) (λ_ _ h=>h) (λb _ hb=>⟨rfl,λho=>hb (p5 b0 ho)⟩);have cd:=a0j hk (fI w.heap.size) hex mn n;have qm:=b4l (P:=P) w;have Fc:bQ w (λ_=>none) (bq ⟨.nil,0⟩ (λ_=>none)) w.heap.size aO us.toList:=ha.mono (λ_ _ h=>h) (a8 _) (λ_ _ h=>h) (λb _ _=>⟨rfl,b4m b⟩);obtain⟨_,aa⟩:=QW hk cd (QY hk 0) h k rd qm FK Fc;refine E0 aa (λe b4 c0=>?_);obtain⟨ret,ai,eO,cV,mN,k9,hY⟩:=c0;obtain⟨v,rfl,ju⟩:=Zr a_ _ _ eO;cases e with
  |returned u=>
   have b4n:Ext (⟨.nil,0⟩:ad).next ⟨.nil,0⟩ w (λ_=>none) ai b4 cV:=hY;have hR:=Q1 qm k9 b4n bh v r u ju mN;exact⟨u,rfl,a0k fn r u bE hR,hY.size,λb hb=>hY.aD b hb (λ⟨_,_,h,_⟩=>by simp at h),hY.os,hY.tape,hY.out⟩
  |panicked pz=>exact mN.elim
  |outgrown=>exact mN.elim
end
def FL(l5:List (Nat×List AV×AV))(g:Nat)(aO:List AV):Option AV:=
 List.rec none (λe _ aC=>cond (Nat.beq e.1 g) (cond (gu (AV.eqb 1000) aO e.2.1) (some e.2.2) aC) aC) l5
def b4o(e:Nat×List AV×AV)(l5:List (Nat×List AV×AV))(g:Nat)(aO:List AV):FL (e::l5) g aO=cond (Nat.beq e.1 g) (cond (gu (AV.eqb 1000) aO e.2.1) (some e.2.2) (FL l5 g aO)) (FL l5 g aO):=rfl
def RC{g:Nat}{aO:List AV}{r:AV}:∀ {l5:List (Nat×List AV×AV)},FL l5 g aO=some r->(g,aO,r)∈l5
 |[],h=>by cases h
 |e::l5,h=>by
  rw[b4o] at h;cases h1:Nat.beq e.1 g with
  |false=>rw[h1,cond_false] at h;exact g1 _ (RC h)
  |true=>
   rw[h1,cond_true] at h;cases h2:gu (AV.eqb 1000) aO e.2.1 with
   |false=>rw[h2,cond_false] at h;exact g1 _ (RC h)
   |true=>
    rw[h2,cond_true] at h;cases h;have aM:=gE h1;have aU:=Ko (AV.Cx 1000) _ _ h2;subst aM;subst aU;exact k1
structure nY where
 get:Nat->Option gr
def nY.FM(p:Nat->gr->Prop)(t:nY):Prop:=∀g cj,t.get g=some cj->p g cj
def nY.z7{p:Nat->gr->Prop}{t:nY}(h:t.FM p):∀g cj,t.get g=some cj->p g cj:=h
structure bJ where
 funcs:nY
 nM:Nat->Option AV
 pure:Nat->Bool
 bh:Nat
 ext:Nat->Nat
def bJ.env(b:bJ)(l5:List (Nat×List AV×AV)):Env:={funcs:=b.funcs.get,nM:=b.nM,pure:=b.pure,spec:=FL l5,bh:=b.bh+1000,ext:=b.ext}
def RD(P:Program)(g:Nat)(cj:gr):Prop:=∃fn,P.funcs[g]? =some fn/\cfunc P fn=some cj/\(fn.name== "runtime.NumGoroutine")=false
structure lb(P:Program)(b:bJ):Prop where
 funcs:b.funcs.FM (RD P)
 ext:∀g,b.ext g≠0->∀args v,extRow (b.ext g) args=some v->∀w m O B us cs,bQ w m O B args (us++cs).toList->∃u,(invoke (.fn (.func g) cs) us).run P w= .ok (.value u) w/\R w m O B v u
 CL:P.follows .mixedOrders=true
def runsTo(b:bJ)(l5:List (Nat×List AV×AV))(n:Nat)(e:Nat×List AV×AV):Bool:=
 match Xt (b.env l5) n e.1 e.2.1 with
 |some v=>AV.eqb 1000 v e.2.2&&fs 1000 e.2.2
 |none=>false
section
variable {P:Program}{b:bJ}{l5:List (Nat×List AV×AV)}
def z8(P:Program)(b:bJ)(l5:List (Nat×List AV×AV)):Prop:=∀e∈l5,∀b2,SpecEntry P (b.env []) b2 e.1 e.2.1 e.2.2
def z8.b4p(h:z8 P b l5):KU P (b.env l5):=λb2 g aO r al=>h _ (RC al) b2
def z8.entry(hb:lb P b)(h:z8 P b l5){n:Nat}{e:Nat×List AV×AV}(ak:runsTo b l5 n e=true)(b2:Nat):SpecEntry P (b.env []) b2 e.1 e.2.1 e.2.2:=by
 unfold runsTo Xt at ak;split at ak
 ·rename_i v aq;split at aq<;>try (cases aq;done)
  rename_i l cd;simp only[dD] at ak;rw[AV.Cx _ _ _ ak.1] at aq;exact a0l (env:=b.env l5) ⟨λg cj hg=>nY.z7 hb.funcs g cj hg⟩ h.b4p hb.ext hb.CL cd aq ak.2 b2
 ·cases ak
end
def b4q(c x:Nat)(l:List Nat)(k:Nat):B2 c (x::l) k=cond (Nat.beq x c) (Int.ofNat k) (B2 c l (k+1)):=rfl
def b4r{a b:Nat}(ha:a<256)(hb:b<256):(a.toUInt8==b.toUInt8)=Nat.beq a b:=by
 rw[uk,p8,beq_iff_eq];constructor
 ·intro h;have:=congrArg UInt8.toNat h;simp at this;omega
 ·intro h;rw[h]
def a0m{c:Nat}(aa:c<256):∀(l:List Nat) (k:Nat),(∀x∈l,x<256)->B2 c l k=if Lib.indexByte (l.map Nat.toUInt8) c.toUInt8= -1 then-1 else Lib.indexByte (l.map Nat.toUInt8) c.toUInt8+k
 |[],k,_=>rfl
 |x::l,k,h=>by
  have hx:x<256:=h x ay;have aC:=a0m aa l (k+1) (λy hy=>h y (by simp[hy]));have np:=Lib.indexByte_ge (l.map Nat.toUInt8) c.toUInt8;rw[b4q,aC,pf];simp only[Lib.indexByte,b4r hx aa];cases hb:Nat.beq x c with
  |true=>simp
  |false=>
   simp only[cond_false,sX,if_false];by_cases h1:Lib.indexByte (l.map Nat.toUInt8) c.toUInt8= -1
   ·simp[h1]
   ·have h2:(Lib.indexByte (l.map Nat.toUInt8) c.toUInt8== -1)=false:=by simpa using h1
    rw[h2];simp only[h1,if_false,sX];rw[if_neg U];omega
def b4s(x:Nat)(l:List Nat)(y:Nat)(r:List Nat):i_ (x::l) (y::r)=cond (Nat.blt x y) true (cond (Nat.beq x y) (i_ l r) false):=rfl
def b4t(x:Nat)(l:List Nat)(y:Nat)(r:List Nat):eqL (x::l) (y::r)=cond (Nat.beq x y) (eqL l r) false:=rfl
def cmp_eq:∀(a b:List Nat),(∀x∈a,x<256)->(∀x∈b,x<256)->Lib.compareBytes (a.map Nat.toUInt8) (b.map Nat.toUInt8)=cond (i_ a b) (-1) (cond (eqL a b) 0 1)
 |[],[],_,_=>rfl
 |[],_::_,_,_=>rfl
 |_::_,[],_,_=>rfl
 |x::a,y::b,ha,hb=>by
  have hx:x<256:=ha x ay;have hy:y<256:=hb y ay;have aC:=cmp_eq a b (λz a_=>ha z (by simp[a_])) (λz a_=>hb z (by simp[a_]));have a0n:∀ {p q:Nat},p<256->q<256->(p.toUInt8<q.toUInt8↔p<q):=λan aS=>by
   rw[Xd];simp;omega
  simp only[pf,Lib.compareBytes,b4s,b4t,a0n hx hy,a0n hy hx];rcases v_ x y with h|h|h
  ·have:Nat.blt x y=true:=(xU.2 h)
   simp[h,this]
  ·subst h;have h1:Nat.blt x x=false:=by cases h:Nat.blt x x with|false=>rfl|true=>exact absurd ((xU.1 h)) (Nat.lt_irrefl x)
   simp[h1,aC]
  ·have h1:Nat.blt x y=false:=by cases h':Nat.blt x y with|false=>rfl|true=>have:=(xU.1 h');omega
   have h2:Nat.beq x y=false:=by cases h':Nat.beq x y with|false=>rfl|true=>have:=gE h';omega
   have h3:¬x<y:=by omega
   simp[h,h1,h2,h3]
section
variable {P:Program}{g:Nat}{fn:Func}
def a0o{w:World}{m:Nat->Option Nat}{O:Nat->Prop}{B:Nat}{x y:AV}{l:List Value}(h:bQ w m O B [x,y] l):∃u v,l=[u,v]/\R w m O B x u/\R w m O B y v:=by
 obtain⟨h1,h2⟩:=h
 match l,h1,h2 with
 |[u,v],_,h2=>exact⟨u,v,rfl,h2 0 ay ay,h2 1 ay ay⟩
def b4u(hf:P.funcs[g]? =some fn)(zT:(fn.name== "runtime.NumGoroutine")=false)(hb:fn.body.isNone=true)(hn:Extern.findNext fn=none)(he:Extern.find fn=some Extern.BytealgIndexByte.indexByte)
  (args:List AV) (v:AV) (h:extRow 1 args=some v) (w:World) (m:Nat->Option Nat) (O:Nat->Prop) (B:Nat) (us cs:Array Value) (ha:bQ w m O B args (us++cs).toList):∃u,(invoke (.fn (.func g) cs) us).run P w= .ok (.value u) w/\R w m O B v u:=by
 have key:∃l c,args=[.s l,.i .u8 (Int.ofNat c)]/\c<256/\v= .i .i64 (B2 c l 0):=by
  unfold extRow at h;split at h
  ·rename_i l c _;cases aa:Nat.blt c 256 with
   |false=>rw[aa] at h;cases h
   |true=>rw[aa,cond_true] at h;cases h;exact⟨l,c,rfl,(xU.1 aa),rfl⟩
  ·rename_i h1;exact absurd h1 b_
  ·rename_i h1;exact absurd h1 b_
  ·cases h
 obtain⟨l,c,rfl,aa,rfl⟩:=key;obtain⟨CK,RE,hl,h1,h2⟩:=a0o ha;have mL:us++cs= #[CK,RE]:=by apply om;simpa using hl
 cases h1 with
 |s _ hlt=>
  cases h2 with
  |i _ _=>
   refine⟨.int .i64 (B2 c l 0),?_,.i _ _⟩;show(callFunc g (us++cs)).run P w=_;rw[run_callFunc_extern hf zT hb hn he,mL,Lib.run_indexByteString];have aM:(strOf l).data.toList=l.map Nat.toUInt8:=by simp[strOf]
   have aU:(Int.ofNat c).toNat=c:=rfl;rw[aM,aU,a0m aa l 0 hlt];simp only[e8];split
   ·rename_i h;rw[h]
   ·simp
def b4v(hf:P.funcs[g]? =some fn)(zT:(fn.name== "runtime.NumGoroutine")=false)(hb:fn.body.isNone=true)(hn:Extern.findNext fn=none)(he:Extern.find fn=some Extern.BytealgCompare.compare)
  (args:List AV) (v:AV) (h:extRow 2 args=some v) (w:World) (m:Nat->Option Nat) (O:Nat->Prop) (B:Nat) (us cs:Array Value) (ha:bQ w m O B args (us++cs).toList):∃u,(invoke (.fn (.func g) cs) us).run P w= .ok (.value u) w/\R w m O B v u:=by
 have key:∃a b,args=[.s a,.s b]/\v= .i .i64 (cond (i_ a b) (-1) (cond (eqL a b) 0 1)):=by
  unfold extRow at h;split at h
  ·rename_i h1;exact absurd h1 b_
  ·cases h;exact⟨_,_,rfl,rfl⟩
  ·rename_i h1;exact absurd h1 b_
  ·cases h
 obtain⟨a,b,rfl,rfl⟩:=key;obtain⟨CK,RE,hl,h1,h2⟩:=a0o ha;have mL:us++cs= #[CK,RE]:=by apply om;simpa using hl
 cases h1 with
 |s _ hlt=>
  cases h2 with
  |s _ FN=>
   refine⟨.int .i64 (cond (i_ a b) (-1) (cond (eqL a b) 0 1)),?_,.i _ _⟩;show(callFunc g (us++cs)).run P w=_;rw[run_callFunc_extern hf zT hb hn he,mL,Lib.run_compareString];have aM:∀l,(strOf l).data.toList=l.map Nat.toUInt8:=λl=>by simp[strOf]
   rw[aM,aM,cmp_eq a b hlt FN];rfl
end
def SpecEntry.calls{P:Program}{env:Env}{b2 g:Nat}{aO:List AV}{r:AV}(h:SpecEntry P env b2 g aO r){w:World}{us:Array Value}(b0:b2<=w.heap.size)(dt:Globs env w b2)(ha:bQ w (λ_=>none) (λ_=>False) w.heap.size aO us.toList):
  Calls P g us w (λe b4=>∃u,e= .returned u/\R b4 (λ_=>none) (λb=>b<w.heap.size) w.heap.size r u/\w.heap.size<=b4.heap.size/\(∀b,b<w.heap.size->b4.heap[b]? =w.heap[b]?)/\b4.os=w.os/\b4.tape=w.tape/\b4.output=w.output):=
 (h.2 0 none w us b0 dt ha).calls (λk=>by simp[Fence.room,fL])
def a0p{α β:Type}{f:α->Option β}:∀ {l:List α} {r:List β},mapOL f l=some r->r.length=l.length/\∀i (h:i<l.length) (h':i<r.length),f l[i]=some r[i]
 |[],r,h=>by cases h;exact⟨rfl,λi h=>by simp at h⟩
 |x::xs,r,h=>by
  unfold mapOL at h;split at h<;>cases h;rename_i y ba h1 h2;obtain⟨h3,aH⟩:=a0p h2;refine⟨by simp[h3],λi hi dh=>?_⟩;cases i with
  |zero=>simpa using h1
  |succ i=>simpa using aH i (by simpa using hi) (by simpa using dh)
def packA(ab:Option Nat)(l:List AV):Option AV:=
 match ab,l with
 |none,[x]=>some x
 |none,_=>none
 |some n,l=>if l.length=n then some (.aj l) else none
def avCat(f:TypeId->DataW Unit->Option (List AV))(cells:TypeId->Nat):List (Nat×TypeId)->Nat->List (DataW Unit)->Option (List AV)
 |[],_,[]=>some []
 |(o,t)::a6,k,d::ds=>
  if o=k then match f t d,avCat f cells a6 (k+cells t) ds with
   |some l,some r=>if l.length=cells t then some (l++r) else none
   |_,_=>none
  else none
 |_,_,_=>none
def avCells(P:Program):Nat->TypeId->DataW Unit->Option (List AV)
 |0,_,_=>none
 |n+1,t,d=>
  match P.underlying t,d with
  |some .bool,.lit (.bool b)=>some [.b b]
  |some (.int _),.lit (.int k x)=>some [.i k x]
  |some .string,.lit (.string l)=>some [.s (l.map (·.toNat))]
  |some (.pointer _),.nil=>some [.p none]
  |some (.slice _),.nil=>some [.nilsl]
  |some (.slice e),.slice (y::ba) _=>match shapeOf P e,P.cellsOf e with
   |some ab,c+1=>if shN ab=c+1 then match mapOL (λd=>match avCells P n e d with|some l=>packA ab l|none=>none) (y::ba) with
     |some xs=>some [.aV true ab xs]
     |none=>none
    else none
   |_,_=>none
  |some (.struct a6),.agg aE=>match avCat (avCells P n) P.cellsOf (a6.toList.map λf=>(f.offset,f.type)) 0 aE with
   |some l=>if l.length=P.cellsOf t then some l else none
   |none=>none
  |some (.array k e),.agg aE=>match avCat (avCells P n) P.cellsOf ((List.range k).map λi=>(i*P.cellsOf e,e)) 0 aE with
   |some l=>if l.length=P.cellsOf t then some l else none
   |none=>none
  |_,_=>none
section
variable {P:Program}{w:World}
def RF{base:Nat}{a:Addr}{n:Nat}{cs:List Value}(h:w.cells? base a n=some cs):cs.length=n/\∀i,i<n->w.cell? (a.add i)=cs[i]? :=by
 unfold World.cells? at h;split at h
 ·exact⟨by simpa using mapM_some_length h,λi hi=>mapM_some_get h i i (by simp[hi])⟩
 ·cases h
def b4w{a:Addr}{v:Value}(h:w.cell? a=some v):a.spot=none/\a.block<w.heap.size:=by
 unfold World.cell? at h;split at h
 ·rename_i hh;split at h
  ·cases h
  ·rename_i al;refine⟨by cases hx:a.spot with|none=>rfl|some _=>simp[hx] at al,?_⟩;exact(zc.1 hh).1
 ·cases h
def RG{f:TypeId->DataW Unit->Option (List AV)}{eG m:Nat}(aC:∀t cs d aE l,DataW.trod (λ_=>()) P w 0 (λ_=>true) false m t cs=some (d,aE)->f t d=some l->bQ w (λ_=>none) (λb=>w.heap.size<=b) eG l cs/\∀x∈l,conf none x=true)(cs:List Value):
  ∀(a6:List (Nat×TypeId)) (k:Nat) (xs:List (DataW Unit×List MemPlace)) (l:List AV),(∀(i o:Nat) (t:TypeId),a6[i]? =some (o,t)->DataW.trod (λ_=>()) P w 0 (λ_=>true) false m t ((cs.drop o).take (P.cellsOf t))=xs[i]?)→
   avCat f P.cellsOf a6 k (xs.map (·.1))=some l->k+l.length=cs.length->bQ w (λ_=>none) (λb=>w.heap.size<=b) eG l (cs.drop k)/\∀x∈l,conf none x=true
 |[],k,[],l,_,h,aB=>by
  cases h;rw[QB (by simp at aB;omega)];exact⟨.nil,λx hx=>by cases hx⟩
 |[],k,x::xs,l,_,h,aB=>by simp[avCat] at h
 |(o,t)::a6,k,[],l,_,h,aB=>by simp[avCat] at h
 |(o,t)::a6,k,x::xs,l,hx,h,aB=>by
  simp only[pf,avCat] at h;split at h
  ·rename_i ho;subst ho;split at h
   ·rename_i jY ik h1 h2;split at h<;>cases h;rename_i jd;have h0:=hx 0 o t I;simp only[YR] at h0;obtain⟨aQ,aZ⟩:=aC t _ x.1 x.2 jY (by rw[h0]) h1;have ak:=RG aC cs a6 (o+P.cellsOf t) xs ik (λi bF JZ hi=>by simpa using hx (i+1) bF JZ (by simpa using hi)) h2 (by rw[c5] at aB;omega);refine⟨?_,λy hy=>(eX.1 hy).elim (aZ y) (ak.2 y)⟩;have hd:=ak.1;rw[<-pj] at hd;have:=aQ.append hd;rwa[wa] at this
   ·cases h
  ·cases h
def a0q{ab:Option Nat}{l:List AV}{x:AV}(h:packA ab l=some x)(hl:∀y∈l,conf none y=true):conf ab x=true/\x.cells=l:=by
 unfold packA at h;split at h
 ·cases h;have:=hl x ay;refine⟨this,?_⟩;cases x<;>simp_all [conf,AV.cells]
 ·cases h
 ·split at h<;>cases h;rename_i hn;exact⟨by simp[conf,hn],rfl⟩
def a0r(eG:Nat):∀(n fuel:Nat) (t:TypeId) (cs:List Value) (d:DataW Unit) (aE:List MemPlace) (l:List AV),DataW.trod (λ_=>()) P w 0 (λ_=>true) false fuel t cs=some (d,aE)->avCells P n t d=some l→
  bQ w (λ_=>none) (λb=>w.heap.size<=b) eG l cs/\∀x∈l,conf none x=true
 |0,_,_,_,_,_,_,_,h=>by cases h
 |n+1,fuel,t,cs,d,aE,l,hd,h=>by
  have aC:=λm t cs d aE l=>a0r eG n m t cs d aE l;unfold avCells at h;split at h
  ·rename_i ht;obtain⟨b,rfl,hx⟩:=DataW.trod_bool ht hd;cases h;cases hx;exact⟨.cons (.b _) .nil,λx hx=>by simp at hx;subst hx;rfl⟩
  ·rename_i ht;obtain⟨b,rfl,hx,_⟩:=DataW.trod_int ht hd;cases h;cases hx;exact⟨.cons (.i _ _) .nil,λx hx=>by simp at hx;subst hx;rfl⟩
  ·rename_i ht;obtain⟨s,rfl,hx,_⟩:=DataW.trod_string ht hd;cases h;cases hx;have:=R.s (w:=w) (m:=λ_=>none) (O:=λb=>w.heap.size<=b) (B:=eG) (zk s) (XL s);rw[XK] at this;exact⟨.cons this .nil,λx hx=>by simp at hx;subst hx;rfl⟩
  ·rename_i ht;rcases DataW.trod_pointer ht hd with⟨rfl,_⟩|⟨_,_,_,_,_,_,hx,_⟩
   ·cases h;exact⟨.cons .r4 .nil,λx hx=>by simp at hx;subst hx;rfl⟩
   ·cases hx
  ·rename_i ht;rcases DataW.trod_slice ht hd with⟨rfl,_⟩|⟨_,_,_,_,_,_,_,_,hx,_⟩
   ·cases h;exact⟨.cons .nilsl .nil,λx hx=>by simp at hx;subst hx;rfl⟩
   ·cases hx
  ·rename_i e y ba _ ht;split at h<;>try (cases h;done)
   rename_i ab c jc aa;split at h<;>try (cases h;done)
   rename_i a0s;split at h<;>cases h;rename_i xs dG;obtain⟨h1,h2⟩:=a0p dG;rcases DataW.trod_slice ht hd with⟨_,hx⟩|⟨a,len,cap,elems,rest,m,rfl,rfl,hx,_,lU,je,zz,hc,_,_⟩
   ·cases hx
   simp only[zK,DataW.slice.injEq] at hx;obtain⟨⟨fk,_⟩,_⟩:=hx;have hlen:xs.length=len:=by rw[h1,fk];simpa using zz
   have each:∀i (hi:i<xs.length),∃us,w.cells? 0 (a.add (i*P.cellsOf e)) (P.cellsOf e)=some us/\bQ w (λ_=>none) (λb=>w.heap.size<=b) eG (xs[i]).cells us/\conf ab xs[i]=true/\∀x∈(xs[i]).cells,conf none x=true:=λi hi=>by
    have hg:=hc i U;have dh:i<elems.length:=by omega
    rw[cp dh] at hg;simp only[dZ] at hg;obtain⟨us,hu,b4x⟩:=hg;have h3:=h2 i U hi;have aM:(y::ba)[i]'U=(elems[i]).1:=by
     have:(y::ba)[i]? =(elems.map (·.1))[i]? :=by rw[fk]
     rw[cp U,cp (by simpa using dh),cJ] at this;simpa using this
    rw[aM] at h3;split at h3<;>try (cases h3;done)
    rename_i jY jd;obtain⟨aQ,aZ⟩:=aC m e us _ _ jY b4x jd;obtain⟨bX,cS⟩:=a0q h3 aZ;exact⟨us,hu,by rw[cS];exact aQ,bX,by rw[cS];exact aZ⟩
   have Qe:0<xs.length:=by rw[h1];simp
   obtain⟨c9L,b4y,qm,e6,_⟩:=each 0 Qe;obtain⟨c9M,zE⟩:=RF b4y;have mh:P.cellsOf e=c+1:=aa;have KV:=zE 0 U;rw[cp U] at KV;simp only[E2] at KV;have b4z:(a.add 0).add 0=a:=rfl;rw[b4z] at KV;obtain⟨fI,a0t⟩:=b4w KV;obtain⟨aG,off,sp⟩:=a;cases fI;refine⟨.cons ?_ .nil,λx hx=>by simp at hx;subst hx;rfl⟩;rw[<-hlen];refine .aV (λi j=>(w.cell? ⟨aG,off+i*shN ab+j,none⟩).getD undef) (λ_=>⟨by show ¬w.heap.size<=aG;exact Nat.not_le.2 a0t,a0t,λh=>by cases h⟩) (λi hi=>(each i hi).choose_spec.2.2.1) (λi hi j aA=>?_) (λi hi j aA=>?_) U (λv aq x hx=>?_) (λ_=>rfl)
   ·obtain⟨us,hu,ak,g4,_⟩:=each i hi;obtain⟨hl,hg⟩:=RF hu;have fB:j<P.cellsOf e:=by rw[v3 g4] at aA;omega
    have:=hg j fB;rw[mf,mf,cp U] at this;rw[mh,← a0s] at this;rw[this];rfl
   ·obtain⟨us,hu,ak,g4,_⟩:=each i hi;obtain⟨hl,hg⟩:=RF hu;have fB:j<P.cellsOf e:=by rw[v3 g4] at aA;omega
    have:=hg j fB;rw[mf,mf,cp U] at this;rw[mh,← a0s] at this;rw[this];exact ak.2 j aA U
   ·obtain⟨i,hi,rfl⟩:=iP aq;exact(each i hi).choose_spec.2.2.2 x hx
  ·rename_i a6 oq ht;split at h<;>try (cases h;done)
   rename_i jY jd;split at h<;>cases h;rename_i hlen;obtain⟨xs,m,rfl,hx,fj,gS,hc⟩:=DataW.trod_struct ht hd;simp only[zK,DataW.agg.injEq] at hx;obtain⟨rfl,_⟩:=hx;have:=RG (eG:=eG) (m:=m) (λt cs d aE l=>aC m t cs d aE l) cs _ 0 xs l (λi o JZ hi=>by
    simp only[iR,fA,zK] at hi;obtain⟨f,hf,rfl,rfl⟩:=hi;exact hc i f (by simpa using hf)) jd U
   simpa using this
  ·rename_i k e oq ht;split at h<;>try (cases h;done)
   rename_i jY jd;split at h<;>cases h;rename_i hlen;obtain⟨xs,m,rfl,hx,fj,gS,hc⟩:=DataW.trod_array ht hd;simp only[zK,DataW.agg.injEq] at hx;obtain⟨rfl,_⟩:=hx;have:=RG (eG:=eG) (m:=m) (λt cs d aE l=>aC m t cs d aE l) cs _ 0 xs l (λi o JZ hi=>by
    simp only[iR,fA,zK] at hi;obtain⟨j,aA,rfl,rfl⟩:=hi;have iI:=fH.1 aA;obtain⟨a0u,KW⟩:=iI;simp at a0u KW;subst KW;exact hc i a0u) jd U
   simpa using this
  ·cases h
def avVar(P:Program)(n:Nat)(x:String×DataW Unit):Option (Nat×AV):=
 match P.globalNamed x.1 with
 |some g=>match P.globals[g]? with
  |some uW=>match shapeOf P uW.type,avCells P n uW.type x.2 with
   |some ab,some l=>match packA ab l with
    |some v=>some (g,v)
    |none=>none
   |_,_=>none
  |none=>none
 |none=>none
noncomputable def KX (l:List (Nat×AV)) (g:Nat):Option AV:=List.rec none (λe _ aC=>cond (Nat.beq e.1 g) (some e.2) aC) l
def RH{g:Nat}{v:AV}:∀ {l:List (Nat×AV)},KX l g=some v->(g,v)∈l
 |[],h=>by cases h
 |e::l,h=>by
  have h:cond (Nat.beq e.1 g) (some e.2) (KX l g)=some v:=h;cases h1:Nat.beq e.1 g with
  |false=>rw[h1,cond_false] at h;exact g1 _ (RH h)
  |true=>
   rw[h1,cond_true] at h;cases h;have:=gE h1;subst this;exact k1
def var?_heap{n:String}{g:Nat}{cs:Array Value}(hg:P.globalNamed n=some g)(h:w.var? P n=some cs):∃t bh,w.heap[g]? =some (.cells cs t bh):=by
 unfold World.var? at h;rw[hg] at h;simp only[Option.bind_some] at h;split at h<;>cases h;exact⟨_,_,by assumption⟩
def a0v:∀ {laid:List (String×DataW Unit)} {aE:List MemPlace},DataW.LaidVars P w laid aE->∀x∈laid,∃g t cs fuel p,P.globalNamed x.1=some g/\(P.globals[g]?).map (·.type)=some t/\w.var? P x.1=some cs/\DataW.trod (λ_=>()) P w 0 (λ_=>true) false fuel t cs.toList=some (x.2,p)
 |[],_,_,x,hx=>by cases hx
 |y::laid,aE,hl,x,hx=>by
  obtain⟨cm,t0,qp,f0,p0,dk,ss,z9,z_,ml,oA,_⟩:=hl;rcases c2.1 hx with rfl|hx
  ·exact⟨cm,t0,qp,f0,p0,ss,z9,z_,ml⟩
  ·exact a0v oA x hx
def b4A{n:Nat}{x:String×DataW Unit}{g:Nat}{v:AV}(h1:avVar P n x=some (g,v)){cm t0 f0:Nat}{qp:Array Value}{p0:List MemPlace}(ss:P.globalNamed x.1=some cm)(z9:(P.globals[cm]?).map (·.type)=some t0)
  (z_:w.var? P x.1=some qp) (ml:DataW.trod (λ_=>()) P w 0 (λ_=>true) false f0 t0 qp.toList=some (x.2,p0)) (eG:Nat):
  R w (λ_=>none) (λb=>w.heap.size<=b) eG (.df true v) (.pointer (some ⟨g,0,none⟩)):=by
 unfold avVar at h1;rw[ss] at h1;simp only[] at h1;cases lG:P.globals[cm]? with
 |none=>simp[lG] at h1
 |some a0w=>
  simp only[lG] at h1 z9;simp only[Eu,cJ] at z9;subst z9;split at h1<;>try (cases h1;done)
  rename_i ab jY al jd;split at h1<;>cases h1;rename_i an;obtain⟨aQ,aZ⟩:=a0r eG n f0 _ _ _ _ _ ml jd;obtain⟨bX,cS⟩:=a0q an aZ;obtain⟨qS,bh,hh⟩:=var?_heap ss z_;have hlt:g<w.heap.size:=(zc.1 hh).1;refine .df (λj=>(qp[j]?).getD undef) (by show ¬w.heap.size<=g;omega) hlt (λh=>by cases h) (λj aA=>?_) (λj aA=>?_) (by rw[cS];exact aZ)
  ·rw[cS] at aA;have fB:j<qp.size:=by have:=aQ.1;simp at this;omega
   unfold World.cell?;rw[hh];simp[fB]
  ·have iI:=aA;rw[cS] at iI;have fB:j<qp.size:=by have:=aQ.1;simp at this;omega
   have:=aQ.2 j iI (by simpa using fB);simp only[cS];simpa [fB] using this
def a0x{n:Nat}{laid:List (String×DataW Unit)}{aE:List MemPlace}(hl:DataW.LaidVars P w laid aE):∀ {L:List (String×DataW Unit)} {uW:List (Nat×AV)},(∀x∈L,x∈laid)->mapOL (avVar P n) L=some uW→
  ∀g v,(g,v)∈uW->∀eG,R w (λ_=>none) (λb=>w.heap.size<=b) eG (.df true v) (.pointer (some ⟨g,0,none⟩))
 |[],uW,_,h,g,v,hm=>by cases h;cases hm
 |x::L,uW,hL,h,g,v,hm=>by
  unfold mapOL at h;split at h<;>cases h;rename_i y ba h1 h2;rcases c2.1 hm with rfl|hm
  ·intro eG;obtain⟨cm,t0,qp,f0,p0,ss,z9,z_,ml⟩:=a0v hl x (hL x ay);exact b4A h1 ss z9 z_ ml eG
  ·exact a0x hl (λx hx=>hL x (by simp[hx])) h2 g v hm
def globs_of_laid{env:Env}{laid:List (String×DataW Unit)}{n:Nat}{uW:List (Nat×AV)}(hl:laidMet P laid w)(names:List String)(h:mapOL (avVar P n) (laid.filter λx=>names.contains x.1)=some uW)(hg:env.nM=KX uW):Globs env w w.heap.size:=by
 obtain⟨aE,hl,_⟩:=hl;intro g v aq eG;rw[hg] at aq;exact a0x hl (λx hx=>(mj.1 hx).1) h g v (RH aq) eG
end
end
section
variable [Tok][TokOk]
open Go.RowKit Go.ChangeShapes Go.WideShapes
def b4B{W W':World}{may:MemPlace->Prop}(aB:∀b,b<W.heap.size->W'.heap[b]? =W.heap[b]?)(ni:W'.os=W.os)(mI:W'.output=W.output):W.keptBut W' may:=by
 refine⟨ni,mI,λi hi=>?_⟩;rw[aB i hi];cases h:W.heap[i]? with
 |none=>rfl
 |some o=>
  cases o with
  |cells c t ae=>exact⟨rfl,rfl,rfl,λj _=>rfl⟩
  |map es clock=>exact .inr ⟨rfl,rfl⟩
  |_=>rfl
end
end Go.Lyc
end
