/-
  An abstract executor of the program's code, and that it is sound, part 2. No conditions: definitions and laws.
-/
import Derived.Test.YthdbakjhebkohaaGreatDoorEng1
import Derived.TacticsIn
import Derived.Scope
import Derived.RangeFuncRecord
import Derived.RecoverIn
import Derived.Lib.Bytealg
import Derived.OpenShut
import Derived.ProofKit
import Derived.LaidMore
import Derived.Lay
import Derived.SevenTiedAt
set_option linter.all false
noncomputable section
namespace Go.Lyc
def L7:=@Nat.ble_eq
def zW:=@Bool.cond_eq_ite
def L8:=@List.mem_append_left
def Ul:=@List.mem_append_right
def uG:=@Go.Oper.semAt_eq
def CN:=@Go.CallsIn.mono
def Um:=@Go.World.putObj_heap_other
def Un:=@Array.toList_setIfInBounds
def L9:=@List.replicate_succ
def s6:=@List.getElem?_eq_none
def L_:=@Array.toList_append
def Ma:=@List.drop_eq_nil_of_le
def vW:=@List.nil_append
def vX:=@Nat.lt_of_lt_of_le
def xV:=@Prod.mk.injEq
def jA:=@List.append_assoc
def Uo:=@List.getElem?_cons_zero
def hH:=@List.mem_of_getElem?
def nP:=@List.mem_filter
def xW:=@List.mem_zipIdx_iff_getElem?
def fO:=@List.getD_eq_getElem?_getD
def kA:=@List.getElem?_map
def Mb:=@List.getElem?_zipIdx
def Mc:=@Bool.not_true
def Md:=@List.any_eq_true
def gT:=@List.not_mem_nil
def vY:=@Nat.lt_trichotomy
def Me:=@Classical.byContradiction
def Up:=@List.eq_nil_iff_forall_not_mem
def Uq:=@List.getElem?_reverse
def Mf:=@List.getElem?_range
def qw:=@Nat.zero_add
def xX:=@List.take_append_drop
def CO:=@Nat.zero_mul
set_option maxHeartbeats 0
variable [Tok]
open Go.RowKit
theorem Gt{x:Option Operand}{bP:Option aI}(h:opdO x=some bP):bP.isSome=x.isSome:=by
 cases x with
 |none=>cases h;rfl
 |some x=>
  simp only[opdO] at h;split at h<;>cases h;rfl
section
variable {P:Program}{env:Env}{J:ae}{w:World}{m:Nat->Option Nat}{B:Nat}{f:Nat}{ao:a1 AV}{a:Act}{o:Oper}{cH:AOp}{v:AV}{ag:ae}
theorem a9M(c:Ctx P env J w m B ao a){t:TypeId}{aE:Array (Nat×Operand)}(ho:o.op= .build t aE)(ab:cop P o=some cH)(h:opx f (evalA env ao) J cH=some (.val v ag)):fD P B f J w m v ag ((execOp a.eval o).run P w):=by
 simp only[cop,ho,en,dP] at ab;obtain⟨Gu,bb,ab⟩:=ab;simp only[execOp,ho];split at ab<;>try (cases ab;done)
 rename_i z;split at ab
 ·rename_i a8 hu;split at ab<;>try (cases ab;done)
  rename_i a9N;simp only[en,dP,eK,cJ] at ab;obtain⟨l,hl,rfl⟩:=ab;simp only[opx] at h;split at h<;>cases h;rename_i cs s7;refine fL c (a8u hu (a8I a9N) bb (aE:=l) ?_ s7);rw[ug];refine CA (λp q hp=>?_) hl;split at hp<;>cases hp;rename_i off aa x h1 h2;exact⟨⟨aa,h1,rfl⟩,λv av=>c.ar h2 av⟩
 ·rename_i n e hu;simp only[en,dP,eK,cJ] at ab;obtain⟨aa,an,l,hl,rfl⟩:=ab;simp only[opx] at h;split at h<;>cases h;rename_i cs s7;refine fL c (a8w hu an bb (aE:=l) ?_ s7);rw[ug];refine CA (λp q hp=>?_) hl;split at hp<;>cases hp;rename_i x h2;exact⟨⟨rfl,rfl⟩,λv av=>c.ar h2 av⟩
 ·cases ab
theorem zX{t e:TypeId}{aa:Option Nat}(h:elemOf' P t=some (e,aa)):P.underlying t=some (.slice e)/\shapeOf P e=some aa:=by
 unfold elemOf' at h;split at h<;>try (cases h;done)
 rename_i dS hu;split at h<;>cases h;rename_i an;exact⟨hu,an⟩
theorem a9O(c:Ctx P env J w m B ao a){t:TypeId}{n:Nat}{aE:Array (Nat×Operand)}(ho:o.op= .buildSlice t n aE)(ab:cop P o=some cH)(h:opx f (evalA env ao) J cH=some (.val v ag)):fD P B f J w m v ag ((execOp a.eval o).run P w):=by
 simp only[cop,ho,en,dP] at ab;obtain⟨⟨e,aa⟩,he,z,bb,l,hl,ab⟩:=ab;split at ab<;>cases ab;rename_i f_;obtain⟨hu,an⟩:=zX he;simp only[opx] at h;split at h<;>cases h;rename_i cs s7;simp only[execOp,ho];refine qv (a8y c.rel hu an bb f_.2 f_.1 ?_ s7);rw[ug];have:=CA (g:=λ(x:Nat×Operand)=>(x.1,a.eval x.2)) (r:=λ(p:Nat×aI) (q:Nat×Value)=>p.1=q.1/\∀v,evalA env ao p.2=some v->R w m (bp J m) B v q.2) (λp q hp=>by
  split at hp<;>cases hp;rename_i x h2;exact⟨rfl,λv av=>c.ar h2 av⟩) hl
 revert this;generalize aE.toList.map (λ(x:Nat×Operand)=>(x.1,a.eval x.2))=gS;clear s7 hl
 induction l generalizing gS with
 |nil=>cases gS<;>exact id
 |cons p l aH=>
  cases gS with
  |nil=>exact id
  |cons q gS=>
   rintro⟨⟨h1,h2⟩,h3⟩;exact⟨⟨⟨h1,rfl⟩,h2⟩,aH gS h3⟩
theorem Ur(c:Ctx P env J w m B ao a){t:TypeId}{x k y:Operand}(ho:o.op= .mapUpdate t x k y\/o.op= .insert t x k y)(ab:cop P o=some cH)(h:opx f (evalA env ao) J cH=some (.val v ag)):fD P B f J w m v ag ((execOp a.eval o).run P w):=by
 have e:execOp a.eval o=(do Instr.mapUpdate t (a.eval x) (a.eval k) (a.eval y);pure .skip:Sem Next):=by unfold execOp;rcases ho with ho|ho<;>rw[ho]
 have h_:∃iO CP aa bP CQ eQ,P.underlying t=some (.map iO CP)/\keyOk P iO=some aa/\opdOf x=some bP/\opdOf k=some CQ/\opdOf y=some eQ/\cH= .j9 aa bP CQ eQ:=by
  unfold cop at ab;rcases ho with ho|ho<;>
  ·rw[ho] at ab;simp only at ab;split at ab<;>try (cases ab;done)
   rename_i iO CP hu;simp only[en,dP,eK,cJ] at ab;obtain⟨aa,an,bP,hx,CQ,ay,eQ,hy,rfl⟩:=ab;exact⟨iO,CP,aa,bP,CQ,eQ,hu,an,hx,ay,hy,rfl⟩
 obtain⟨iO,CP,aa,bP,CQ,eQ,hu,an,hx,ay,hy,rfl⟩:=h_;rw[e];simp only[opx] at h;split at h<;>try (cases h;done)
 rename_i id c5D g4 au Us rF;split at h<;>try (cases h;done)
 rename_i ef;split at h<;>try (cases h;done)
 rename_i es aq hg;split at h<;>try (cases h;done)
 rename_i rE rC;obtain⟨aF,hm,my⟩:=(c.ar hx au).Ge;rw[my];split at h<;>cases h
 ·rename_i qq Mg;exact L3 (T5 c.rel hu an (by simpa [gQ] using ef) hm hg (c.ar ay Us) (c.ar hy rF) rC Mg)
 ·rename_i Mg;exact L3 (T5 c.rel hu an (by simpa [gQ] using ef) hm hg (c.ar ay Us) (c.ar hy rF) rC Mg)
theorem a9P(c:Ctx P env J w m B ao a){t:TypeId}{x:Operand}{i:Nat}(ho:o.op= .fieldAddr t x i)(ab:cop P o=some cH)(h:opx f (evalA env ao) J cH=some (.val v ag)):fD P B f J w m v ag ((execOp a.eval o).run P w):=by
 simp only[cop,ho,en,dP,eK,cJ] at ab;obtain⟨⟨off,aa⟩,hf,bP,hx,rfl⟩:=ab;simp only[opx] at h;split at h<;>try (cases h;done)
 rename_i au;split at h<;>cases h;rename_i av;simp only[execOp,ho];exact fL c (a7S hf (c.ar hx au) av)
theorem a9Q(c:Ctx P env J w m B ao a){t:TypeId}{x:Operand}{i:Nat}(ho:o.op= .field t x i)(ab:cop P o=some cH)(h:opx f (evalA env ao) J cH=some (.val v ag)):fD P B f J w m v ag ((execOp a.eval o).run P w):=by
 simp only[cop,ho,en,dP,eK,cJ] at ab;obtain⟨⟨off,aa⟩,hf,bP,hx,rfl⟩:=ab;simp only[opx] at h;split at h<;>try (cases h;done)
 rename_i au;split at h<;>cases h;rename_i av;simp only[execOp,ho];exact fL c (a7T hf (c.ar hx au) av)
theorem a9R(c:Ctx P env J w m B ao a){t:TypeId}{x y:Operand}(ho:o.op= .indexAddr t x y)(ab:cop P o=some cH)(h:opx f (evalA env ao) J cH=some (.val v ag)):fD P B f J w m v ag ((execOp a.eval o).run P w):=by
 simp only[cop,ho] at ab;simp only[execOp,ho];split at ab
 ·rename_i n e hu;simp only[en,dP,eK,cJ] at ab;obtain⟨aa,an,bP,hx,eQ,hy,rfl⟩:=ab;simp only[opx] at h;split at h<;>try (cases h;done)
  rename_i p j au aC;split at h<;>try (cases h;done)
  rename_i Mh vZ;split at h<;>try (cases h;done)
  rename_i hlt;split at h<;>cases h;rename_i av;obtain⟨k,rfl⟩:=Cv vZ;have xY:=(c.ar hy aC).l5;rw[xY];exact fL c (a7U hu an (c.ar hx au) (by simpa [gQ] using hlt) av)
 ·rename_i e hu;simp only[en,dP,eK,cJ] at ab;obtain⟨aa,an,bP,hx,eQ,hy,rfl⟩:=ab;simp only[opx] at h;split at h<;>try (cases h;done)
  rename_i p j au aC;split at h<;>try (cases h;done)
  rename_i Mh vZ;split at h<;>cases h;rename_i av;obtain⟨k,rfl⟩:=Cv vZ;have xY:=(c.ar hy aC).l5;rw[xY];exact fL c (a7V hu an (c.ar hx au) av)
 ·cases ab
theorem a9S(c:Ctx P env J w m B ao a){t:TypeId}{x y:Operand}(ho:o.op= .index t x y)(ab:cop P o=some cH)(h:opx f (evalA env ao) J cH=some (.val v ag)):fD P B f J w m v ag ((execOp a.eval o).run P w):=by
 simp only[cop,ho] at ab;simp only[execOp,ho];split at ab
 ·rename_i n e hu;simp only[en,dP,eK,cJ] at ab;obtain⟨aa,an,bP,hx,eQ,hy,rfl⟩:=ab;simp only[opx] at h;split at h<;>try (cases h;done)
  rename_i cs j au aC;split at h<;>try (cases h;done)
  rename_i Mh vZ;split at h<;>try (cases h;done)
  rename_i hlt;split at h<;>cases h;rename_i av;obtain⟨k,rfl⟩:=Cv vZ;have xY:=(c.ar hy aC).l5;rw[xY];exact fL c (a7Y hu an (c.ar hx au) (by simpa [gQ] using hlt) av)
 ·rename_i hu;simp only[en,dP,eK,cJ] at ab;obtain⟨bP,hx,eQ,hy,rfl⟩:=ab;simp only[opx] at h;split at h<;>try (cases h;done)
  rename_i l j au aC;split at h<;>try (cases h;done)
  rename_i Mh vZ;split at h<;>cases h;rename_i nQ av;obtain⟨k,rfl⟩:=Cv vZ;have xY:=(c.ar hy aC).l5;rw[xY];exact fL c ⟨_,a7X hu (c.ar hx au) av,.i _ _⟩
 ·cases ab
theorem a9T(c:Ctx P env J w m B ao a){t:TypeId}{x y:Operand}{two:Bool}(ho:o.op= .lookup t x y two)(ab:cop P o=some cH)(h:opx f (evalA env ao) J cH=some (.val v ag)):fD P B f J w m v ag ((execOp a.eval o).run P w):=by
 simp only[cop,ho] at ab;simp only[execOp,ho];split at ab<;>try (cases ab;done)
 rename_i iO e hu;simp only[en,dP,eK,cJ] at ab;obtain⟨aa,an,bP,hx,eQ,hy,z,bb,rfl⟩:=ab;simp only[opx] at h;split at h<;>try (cases h;done)
 rename_i p j au aC;split at h<;>cases h;rename_i av;exact fL c (a8Y c.rel hu an bb two (c.ar hx au) (c.ar hy aC) av)
theorem a9U(c:Ctx P env J w m B ao a){t Lz:TypeId}{x:Operand}{two:Bool}(ho:o.op= .typeAssert x Lz t two)(ab:cop P o=some cH)(h:opx f (evalA env ao) J cH=some (.val v ag)):fD P B f J w m v ag ((execOp a.eval o).run P w):=by
 simp only[cop,ho] at ab;simp only[execOp,ho];split at ab<;>try (cases ab;done)
 rename_i d a5 hd;simp only[en,dP,eK,cJ] at ab;obtain⟨bP,hx,z,bb,rfl⟩:=ab;simp only[opx] at h;split at h<;>try (cases h;done)
 rename_i p au;split at h<;>cases h;rename_i av;exact fL c (a8o hd (λms e=>a5 ms e) bb (c.ar hx au) av)
theorem a9V(c:Ctx P env J w m B ao a){x:Operand}{i:Nat}(ho:o.op= .extract x i)(ab:cop P o=some cH)(h:opx f (evalA env ao) J cH=some (.val v ag)):fD P B f J w m v ag ((execOp a.eval o).run P w):=by
 simp only[cop,ho,en,dP,eK,cJ] at ab;obtain⟨bP,hx,rfl⟩:=ab;simp only[opx] at h;split at h<;>try (cases h;done)
 rename_i l au;split at h<;>cases h;rename_i av;simp only[execOp,ho];exact fL c (a7Z (c.ar hx au) av)
theorem a9W{d:Nat}{x:Option Value}{n:Nat}(h:lG d x n)(an:x.isSome=true):∃k,x=some (.int k (Int.ofNat n)):=by
 cases h with
 |none=>simp at an
 |some k n=>exact⟨k,rfl⟩
theorem a9X(c:Ctx P env J w m B ao a){t:TypeId}{x:Operand}{c5 hi fG:Option Operand}(ho:o.op= .slice t x c5 hi fG)(ab:cop P o=some cH)(h:opx f (evalA env ao) J cH=some (.val v ag)):fD P B f J w m v ag ((execOp a.eval o).run P w):=by
 simp only[cop,ho,en,dP] at ab;obtain⟨cB,kc,Ut,zY,am,xZ,ab⟩:=ab;simp only[execOp,ho];split at ab
 ·-- Ch array behind a pointer
  rename_i n e hu;split at ab<;>try (cases ab;done)
  simp only[en,dP,eK,cJ] at ab;obtain⟨aa,an,bP,hx,rfl⟩:=ab;have x0:fG=none:=by
   have:=Gt xZ;cases fG with|none=>rfl|some _=>simp at this
  subst x0;simp only[opx] at h;split at h<;>try (cases h;done)
  rename_i id off l hh au hl ph;split at h<;>try (cases h;done)
  rename_i uH;split at h<;>try (cases h;done)
  rename_i cs hg;split at h<;>cases h;rename_i TL;simp only[du] at uH;have h1:=gB uH.1;have h2:=gB uH.2;obtain⟨aF,hm,my⟩:=(c.ar hx au).vM;obtain⟨arr,el,bt,a9Y,_,uw,_⟩:=c.rel.cells hm hg;rw[my];exact fL c (a8e hu an hm (k:=arr.size) (by unfold eD;rw[a9Y]) (by have:=gB TL;omega) (c.qu kc hl) (c.qu zY ph) h1 h2)
 ·-- a slice
  rename_i e hu;split at ab<;>try (cases ab;done)
  rename_i aa an;split at ab<;>try (cases ab;done)
  rename_i Uu;simp only[en,dP,eK,cJ] at ab;obtain⟨bP,hx,rfl⟩:=ab;have aR:=Gt xZ;have a6:=Gt zY;simp only[opx] at h;split at h<;>try (cases h;done)
  rename_i p au;split at h<;>cases h;rename_i av;have hR:=c.ar hx au;refine fL c ?_;unfold sliceA at av;split at av
  ·rename_i id off len hz cap;split at av<;>try (cases av;done)
   rename_i h6;split at av<;>try (cases av;done)
   rename_i l hh hl ph;split at av<;>try (cases av;done)
   rename_i uH;have h1:=gB uH;obtain⟨bG,bw,bg,b9,c9⟩:=a8f hu an h6 hR (c.qu kc hl) (c.qu zY ph) h1;split at av
   ·rename_i c5E;split at av<;>try (cases av;done)
    rename_i k ay;rw[Option.ite_none_right_eq_some] at av;obtain⟨f_,av⟩:=av;cases av;simp only[du] at f_;have Mi:fG.isSome=true:=by rw[<-aR];rfl
    have hb:=c.qu xZ (d:=0) (n:=k) ay;obtain⟨uz,Mj⟩:=a9W hb (by simpa using Mi);have a9Z:hi.isSome=true:=by
     cases hi with
     |some _=>rfl
     |none=>exfalso;apply Uu;exact⟨rfl,by cases Ut with|none=>rfl|some _=>simp at a6⟩
    exact bG _ uz k Mj (by simpa using a9Z) (gB f_.1) (gB f_.2)
   ·have x0:fG=none:=by cases fG with|none=>rfl|some _=>simp at aR
    subst x0;split at av
    ·split at av<;>cases av;rename_i f_;exact bw _ I (gB f_)
    ·split at av
     ·cases av;rename_i f_;simp only[du] at f_;exact bg I (gB f_.1) (fX f_.2)
     ·split at av
      ·cases av;rename_i f_;simp only[du] at f_;exact b9 I (gB f_.1) (gB f_.2)
      ·split at av<;>cases av;rename_i f_;simp only[du] at f_;exact c9 I (fX f_.1) (fX f_.2)
  ·split at av<;>cases av;rename_i hl ph qx;have CR:a.eval x= .slice none 0 0:=by
    revert hR;generalize a.eval x=u;intro hR;cases hR;rfl
   rw[CR];exact⟨_,a8h hu an (c.qu kc hl) (c.qu zY ph) (c.qu xZ qx) (λMi=>by
    cases hi with
    |some _=>rfl
    |none=>exfalso;apply Uu;exact⟨by rw[aR];simpa using Mi,by cases Ut with|none=>rfl|some _=>simp at a6⟩),.af⟩
  ·split at av<;>try (cases av;done)
   rename_i h6;split at av<;>try (cases av;done)
   rename_i l hh hl ph;split at av<;>cases av;rename_i f_;simp only[du] at f_;have x0:fG=none:=by cases fG with|none=>rfl|some _=>simp at aR
   subst x0;subst h6;exact a9v hu an hR (c.qu kc hl) (c.qu zY ph) (gB f_.1) (gB f_.2)
  ·cases av
 ·-- a string
  rename_i hu;split at ab<;>try (cases ab;done)
  simp only[en,dP,eK,cJ] at ab;obtain⟨bP,hx,rfl⟩:=ab;have x0:fG=none:=by
   have:=Gt xZ;cases fG with|none=>rfl|some _=>simp at this
  subst x0;simp only[opx] at h;split at h<;>try (cases h;done)
  rename_i s au;split at h<;>try (cases h;done)
  rename_i l hh hl ph;split at h<;>cases h;rename_i uH;simp only[du] at uH;exact fL c (a8d hu (c.ar hx au) (c.qu kc hl) (c.qu zY ph) (gB uH.1) (gB uH.2))
 ·cases ab
end
section
variable {P:Program}{env:Env}{J:ae}{w:World}{m:Nat->Option Nat}{B:Nat}{f:Nat}{ao:a1 AV}{a:Act}{o:Oper}{cH:AOp}{v:AV}{ag:ae}
theorem Gv{b:Builtin}{xs:Array Operand}{k9:Array TypeId}(ho:o.op= .call {callee:=.builtin b,args:=xs,argTypes:=k9}):
  execOp a.eval o=builtin b k9 o.type (xs.map fun| .const _=>true|_=>false) (xs.map a.eval):=by
 unfold execOp;rw[ho];rfl
theorem b0a{e:TypeId}{z:AV}{n:Nat}(bb:zeroOf P e=some z)(hn:z.cells.length=n):∃i vR,P.info? e=some i/\i.zero=some vR/\vR.cells.size=n:=by
 unfold zeroOf at bb;split at bb<;>try (cases bb;done)
 rename_i i hi;split at bb<;>try (cases bb;done)
 rename_i vR av;have:=(R.ofValue (w:=(default:World)) (m:=λ_=>none) (O:=λ_=>False) (B:=0) bb).cells.1;exact⟨i,vR,hi,av,by simp at this;omega⟩
theorem b0b{t:TypeId}(h:isText P t=true):(∃dS,P.underlying t=some (.slice dS))\/P.underlying t=some .string:=by
 unfold isText at h;split at h
 ·exact .inl ⟨_,by assumption⟩
 ·exact .inr (by assumption)
 ·cases h
theorem b0c{w:World}{m:Nat->Option Nat}{O:Nat->Prop}{B:Nat}{u:Value}(h:R w m O B .af u):u= .slice none 0 0:=by cases h;rfl
theorem b0d{t:TypeId}(h:isInt P t=true):∃k,P.underlying t=some (.int k):=by
 unfold isInt at h;split at h
 ·exact⟨_,by assumption⟩
 ·cases h
theorem Gw{α:Type}{x:Array α}{p q:α}(h:x.toList=[p,q]):x= #[p,q]:=by
 apply m3;simpa using h
theorem uI{α:Type}{x:Array α}{p:α}(h:x.toList=[p]):x= #[p]:=by
 apply m3;simpa using h
theorem Mk{α β:Type}(g:α->β)(x y:α):(#[x,y]:Array α).map g= #[g x,g y]:=by simp
theorem Gx{α β:Type}(g:α->β)(x:α):(#[x]:Array α).map g= #[g x]:=by simp
theorem CS{w:World}{m:Nat->Option Nat}{O:Nat->Prop}{B:Nat}:R w m O B ea (.tuple #[]):=.a9 I λi h=>by simp at h
theorem b0e(c:Ctx P env J w m B ao a){b:Builtin}{xs:Array Operand}{k9:Array TypeId}(ho:o.op= .call {callee:=.builtin b,args:=xs,argTypes:=k9})(ab:cop P o=some cH)(h:opx f (evalA env ao) J cH=some (.val v ag)):fD P B f J w m v ag ((execOp a.eval o).run P w):=by
 rw[Gv ho];simp only[cop,ho] at ab;split at ab
 ·-- append
  rename_i s x t u dH rG;obtain rfl:=Gw dH;rw[Mk a.eval];obtain rfl:=Gw rG;simp only[en,dP] at ab;obtain⟨⟨e,aa⟩,he,i,hi,z,bb,ab⟩:=ab;split at ab
  ·rename_i f_;simp only[dP,eK,cJ] at ab;obtain⟨as,an,bP,hx,rfl⟩:=ab;obtain⟨hu,h6⟩:=zX he;simp only[opx] at h;split at h<;>try (cases h;done)
   rename_i pv zV b0f ia;split at h<;>cases h;rename_i b0g;obtain⟨l3,vR,dc,xS,vN⟩:=b0a bb f_.2.2;rw[hi] at dc;cases dc;obtain⟨_,_,i2,xG,cv⟩:=k4 h6 w;rw[hi] at xG;cases xG;exact qv (a8J c.rel hu hi cv xS vN f_.2.1 (b0b f_.1) (c.ar an b0f) (c.ar hx ia) b0g)
  ·split at ab<;>try (cases ab;done)
   rename_i f_;simp only[dP,eK,cJ] at ab;obtain⟨as,an,bP,hx,rfl⟩:=ab;obtain⟨hu,h6⟩:=zX he;obtain⟨ga,zZ⟩:=b0d f_.1;simp only[opx] at h;split at h<;>try (cases h;done)
   ·cases aX:Nat.beq (AV.fJ::z.cells).length (shN aa) with
    |false=>rw[aX] at h;cases h
    |true=>have oB:=fX aX;rw[gp,f_.2.2.1] at oB;exact absurd oB.symm (Nat.ne_of_lt (lB _))
   ·rename_i bw q ia rF;cases aX:(Nat.beq (AV.fJ::z.cells).length (Nat.succ (shN aa))&&(Nat.blt 0 q&&Nat.ble ((3*q+2000)*i.bytes) 281474976710656)) with
    |false=>rw[aX] at h;cases h
    |true=>
     rw[aX,cond_true] at h;cases h;simp only[du] at aX;have aR:=b0c (c.ar an ia);have a6:=(c.ar hx rF).l5;rw[aR,a6];exact qv (a9k c.rel f hu zZ h6 hi bb f_.2.2.1 f_.2.1 f_.2.2.2 (by simpa only[gQ] using aX.2.1) (gB aX.2.2))
 ·-- len
  rename_i x t dH rG;obtain rfl:=uI dH;rw[Gx a.eval];obtain rfl:=uI rG;split at ab
  ·rename_i n e ht;cases ab;simp only[opx] at h;cases h;exact fL c ⟨_,a8O ht _,.i _ _⟩
  all_goals try (cases ab;done)
  all_goals
   rename_i ht;simp only[fq] at ab;obtain⟨bP,hx,rfl⟩:=ab;simp only[opx] at h;split at h<;>try (cases h;done)
   rename_i ia;split at h
   case h_2=>cases CG h
   rename_i c_ hn;cases h
  ·exact fL c ⟨_,LO c.rel (.inr (.inl ⟨rfl,ht⟩)) (c.ar hx ia) hn,.i _ _⟩
  ·exact fL c ⟨_,LO c.rel (.inl ⟨rfl,_,ht⟩) (c.ar hx ia) hn,.i _ _⟩
  ·exact fL c ⟨_,LO c.rel (.inr (.inr ⟨rfl,_,_,ht⟩)) (c.ar hx ia) hn,.i _ _⟩
 ·-- cap
  rename_i x t dH rG;obtain rfl:=uI dH;rw[Gx a.eval];obtain rfl:=uI rG;split at ab<;>try (cases ab;done)
  rename_i ht;simp only[fq] at ab;obtain⟨bP,hx,rfl⟩:=ab;simp only[opx] at h;split at h<;>try (cases h;done)
  rename_i ia;split at h<;>cases h;rename_i hn;exact fL c ⟨_,a8P ht (c.ar hx ia) hn,.i _ _⟩
 ·-- copy
  split at ab<;>try (cases ab;done)
  rename_i x t dH rG _ e aa he;obtain rfl:=uI dH;rw[Gx a.eval];obtain rfl:=uI rG;simp only[en,dP] at ab;obtain⟨z,bb,ab⟩:=ab;split at ab<;>try (cases ab;done)
  simp only[dP,eK,cJ] at ab;obtain⟨bP,hx,rfl⟩:=ab;obtain⟨hu,h6⟩:=zX he;obtain⟨eI,ir,mC,mD⟩:=rz bb w;simp only[opx] at h;split at h<;>try (cases h;done)
  ·rename_i ia _;cases h;have hR:=c.ar hx ia;generalize a.eval x=u at hR ⊢;cases hR;exact fL c ⟨_,by simp[Builtin.clear_,run_underlying hu],CS⟩
  ·rename_i id off len hz CT b0h ia xS;have b0i:b0h=z.cells:=by cases xS;rfl
   subst b0i;split at h<;>try (cases h;done)
   rename_i ef hg;split at h<;>cases h;rename_i bX cn;have hR:=c.ar hx ia;generalize a.eval x=u at hR ⊢;cases hR with
   |ao hm hlen nK hn mw=>
   have CL:=(mC w m (bp J m) B).cells;have iA:=zI CL (len+1);have b0j:f<=id:=Nat.le_of_not_lt λh=>by rw[show Nat.blt id f=true from j7 h] at ef;cases ef
   obtain⟨aw,aR,a6,c0⟩:=Lu (f:=f) c.rel b0j hm hg cn iA (zJ mD (len+1));refine qv ⟨_,aw,m,?_,CS,a6,c0⟩;have hh:(Builtin.zeroCells eI.cells (len+1)).toList=(List.range ((len+1)*eI.cells.toList.length)).map λi=>eI.cells.toList[i%eI.cells.toList.length]! :=by
    simp only[Builtin.zeroCells,ug,xv,sF];exact uc λi _=>by simp only[getElem!_def,mn]
   rw[<-hh] at aR;simp[Builtin.clear_,run_underlying hu,ir,aR]
  ·rename_i ia _;cases h;have hR:=c.ar hx ia;generalize a.eval x=u at hR ⊢;cases hR;exact fL c ⟨_,by simp[Builtin.clear_,run_underlying hu],CS⟩
  ·rename_i ia _;cases h;have hR:=c.ar hx ia;generalize a.eval x=u at hR ⊢;cases hR
   ·exact fL c ⟨_,by simp[Builtin.clear_,run_underlying hu],CS⟩
   ·exact fL c ⟨_,by simp[Builtin.clear_,run_underlying hu],CS⟩
 ·rename_i x y dH;obtain rfl:=Gw dH;rw[Mk a.eval];simp only[en,dP,eK,cJ] at ab;obtain⟨bP,hx,eQ,hy,rfl⟩:=ab;simp only[opx] at h;split at h<;>try (cases h;done)
  rename_i k n l q ia rF;split at h<;>cases h;rename_i sW;subst sW;have:=(TW (P:=P) (w:=w) (c.ar hx ia) (c.ar hy rF) o.type k9).1;exact fL c ⟨_,this,.i _ _⟩
 ·rename_i x y dH;obtain rfl:=Gw dH;rw[Mk a.eval];simp only[en,dP,eK,cJ] at ab;obtain⟨bP,hx,eQ,hy,rfl⟩:=ab;simp only[opx] at h;split at h<;>try (cases h;done)
  rename_i k n l q ia rF;split at h<;>cases h;rename_i sW;subst sW;have:=(TW (P:=P) (w:=w) (c.ar hx ia) (c.ar hy rF) o.type k9).2;exact fL c ⟨_,this,.i _ _⟩
 ·cases ab;simp[opx] at h
 ·simp only[fq] at ab;obtain⟨bP,hx,rfl⟩:=ab;simp only[opx] at h;split at h<;>cases h
 ·cases ab
theorem b0k(c:Ctx P env J w m B ao a){t:TypeId}{x y:Operand}(ho:o.op= .makeSlice t x y)(ab:cop P o=some cH)(h:opx f (evalA env ao) J cH=some (.val v ag)):fD P B f J w m v ag ((execOp a.eval o).run P w):=by
 simp only[cop,ho,en,dP] at ab;obtain⟨⟨e,aa⟩,he,z,bb,i,hi,ab⟩:=ab;split at ab<;>try (cases ab;done)
 rename_i vN;simp only[dP,eK,cJ] at ab;obtain⟨bP,hx,eQ,hy,rfl⟩:=ab;obtain⟨hu,an⟩:=zX he;simp only[opx] at h;split at h<;>try (cases h;done)
 ·rename_i bG n bw q ia rF;cases aX:(Nat.beq z.cells.length (shN aa)&&(Nat.ble n q&&(Nat.ble (i.bytes*q) 281474976710656&&Nat.ble q 281474976710656))) with
  |false=>rw[aX] at h;cases h
  |true=>
   rw[aX,cond_true] at h;cases h;simp only[du,L7] at aX;have aR:=(c.ar hx ia).l5;have a6:=(c.ar hy rF).l5;simp only[execOp,ho,aR,a6];exact qv (a9h c.rel f hu an hi bb vN aX.2.1 aX.2.2.1 aX.2.2.2)
 ·rename_i bw q ia rF;cases aX:Nat.beq z.cells.length (Nat.succ (shN aa)) with
  |false=>rw[aX] at h;cases h
  |true=>have oB:=fX aX;rw[vN] at oB;exact absurd oB (Nat.ne_of_lt (lB _))
theorem b0l(c:Ctx P env J w m B ao a){t:TypeId}{x:Operand}(ho:o.op= .range t x)(ab:cop P o=some cH)(h:opx f (evalA env ao) J cH=some (.val v ag)):fD P B f J w m v ag ((execOp a.eval o).run P w):=by
 simp only[cop,ho] at ab;split at ab<;>try (cases ab;done)
 rename_i iO CP hu;simp only[fq] at ab;obtain⟨bP,hx,rfl⟩:=ab;simp only[opx] at h;simp only[execOp,ho];split at h<;>try (cases h;done)
 ·rename_i av;cases h;exact qv (Ua c.rel f hu (c.ar hx av) I)
 ·rename_i id av;split at h<;>cases h;rename_i es aq hg;exact qv (Ua c.rel f hu (c.ar hx av) ⟨_,_,hg,rfl⟩)
theorem b0m(c:Ctx P env J w m B ao a){x:Operand}(ho:o.op= .next x false)(ab:cop P o=some cH)(h:opx f (evalA env ao) J cH=some (.val v ag)):fD P B f J w m v ag ((execOp a.eval o).run P w):=by
 simp only[cop,ho,fq] at ab;obtain⟨bP,hx,rfl⟩:=ab;simp only[opx] at h;simp only[execOp,ho];split at h<;>try (cases h;done)
 rename_i it av;obtain⟨aF,hm,kz⟩:=(c.ar hx av).vM;rw[kz];split at h<;>try (cases h;done)
 rename_i ef;have pq:f<=it:=by simpa [gQ] using ef
 split at h<;>try (cases h;done)
 ·rename_i since seen g1 hg;cases h;exact fL c ⟨_,a9u c.rel hm hg o.type,R.uv (bK.cons (.b false) bK.nil)⟩
 ·rename_i id since seen g1 hg;split at h<;>try (cases h;done)
  rename_i es aq kN;cases aX:(Nat.beq aq since&&Nat.beq g1 since&&cP (λ(e:AV×AV×Nat)=>Nat.blt e.2.2 since) es) with
  |false=>rw[aX] at h;cases h
  |true=>
   rw[aX,cond_true] at h;simp only[du,oh] at aX;obtain⟨⟨rfl,rfl⟩,hall⟩:=aX;split at h<;>cases h;rename_i CR;rcases Ud (f:=f) c.rel pq hm hg kN (λe he=>by have:=nL hall e he;simpa [gQ] using this) o.type with⟨_,h2⟩|⟨e,he,_⟩
   ·exact fL c ⟨_,h2,R.uv (bK.cons (.b false) bK.nil)⟩
   ·rw[CR] at he;cases he
theorem b0n(c:Ctx P env J w m B ao a){x:Operand}(ho:o.op= .entry x)(ab:cop P o=some cH)(h:opx f (evalA env ao) J cH=some (.val v ag)):fD P B f J w m v ag ((execOp a.eval o).run P w):=by
 simp only[cop,ho,fq] at ab;obtain⟨bP,hx,rfl⟩:=ab;simp only[opx] at h;simp only[execOp,ho];split at h<;>try (cases h;done)
 rename_i it av;obtain⟨aF,hm,kz⟩:=(c.ar hx av).vM;rw[kz];split at h<;>try (cases h;done)
 rename_i id since seen g1 hg;split at h<;>try (cases h;done)
 rename_i es aq kN;cases aX:Nat.beq aq g1 with
 |false=>rw[aX] at h;cases h
 |true=>
  rw[aX,cond_true] at h;obtain rfl:=fX aX;split at h<;>try (cases h;done)
  rename_i ps hl;split at h<;>cases h;rename_i e he;exact fL c (a9t c.rel hm hg kN hl he)
theorem R.b0o{w:World}{m:Nat->Option Nat}{O:Nat->Prop}{B:Nat}{ex:List (List Nat)}{u:Value}(h:R w m O B (.hP ex) u):∃s,u= .string s:=by cases h;exact⟨_,rfl⟩
theorem Uv{k:Nat}{bP:aI}(ab:cop P o=some (.len k bP)):∃x t as k9,o.op= .call {callee:=.builtin .len,args:=as,argTypes:=k9}/\as.toList=[x]/\k9.toList=[t]/\opdOf x=some bP/\(k=0->P.underlying t=some .string):=by
 unfold cop at ab;split at ab
 all_goals first
  |(cases ab;done)
  |(
    exfalso
    (repeat' first
     |(cases ab;done)
     |(simp only[fq,reduceCtorEq,and_false,exists_false] at ab;done)
     |(simp only[en,dP,eK,cJ,reduceCtorEq,and_false,exists_false] at ab;done)
     |split at ab
     |(obtain⟨_,_,ab⟩:=ab)
     |(simp only[en,dP,eK,cJ] at ab))
    done)
  |(
    rename_i ho;split at ab
    all_goals first
     |(cases ab;done)
     |(
      exfalso
      (repeat' first
       |(cases ab;done)
       |(simp only[fq,reduceCtorEq,and_false,exists_false] at ab;done)
       |(simp only[en,dP,eK,cJ,reduceCtorEq,and_false,exists_false] at ab;done)
       |split at ab
       |(obtain⟨_,_,ab⟩:=ab)
       |(simp only[en,dP,eK,cJ] at ab))
      done)
     |(
      rename_i dH rG;split at ab
      all_goals first
       |(cases ab;done)
       |(
         rename_i ht;simp only[fq] at ab;obtain⟨a2,h1,ab⟩:=ab;cases ab;exact⟨_,_,_,_,ho,dH,rG,h1,λay=>by first|exact ht|cases ay⟩)))
theorem b0p{k:Nat}{bP:aI}(ab:cop P o=some (.len k bP)):∀c,o.op≠ .defer c:=λc hd=>by
 obtain⟨x,t,as,k9,ho,_⟩:=Uv ab;rw[ho] at hd;cases hd
theorem b0q{l:List (AV×ae)}{k:Nat}{bP:aI}(c:Ctx P env J w m B ao a)(ab:cop P o=some (.len k bP))(h:opx f (evalA env ao) J (.len k bP)=some (.jM l)):∃p∈l,fD P B f J w m p.1 p.2 ((execOp a.eval o).run P w):=by
 obtain⟨x,t,as,k9,ho,has,rG,hx,ht⟩:=Uv ab;obtain rfl:=uI has;obtain rfl:=uI rG;simp only[opx] at h;split at h<;>try (cases h;done)
 rename_i p au;split at h
 ·cases h
 obtain⟨rfl,ex,rfl,e⟩:=TV h;injection e with e
 subst e;obtain⟨s,an⟩:=(c.ar hx au).b0o;have ht:=ht I;refine⟨(.im (decide ((40:Int)<Int.ofNat s.size)),J),by cases decide ((40:Int)<Int.ofNat s.size)<;>simp,?_⟩;rw[Gv ho,Gx a.eval,an];refine fL c ⟨.int .i64 (Int.ofNat s.size),?_,.im _ I⟩;simp[builtin,Builtin.len_,run_underlying ht,goInt]
theorem b0r{l:List (AV×ae)}(c:Ctx P env J w m B ao a)(ab:cop P o=some cH)(h:opx f (evalA env ao) J cH=some (.jM l)):(∀c,o.op≠ .defer c)/\∃p∈l,fD P B f J w m p.1 p.2 ((execOp a.eval o).run P w):=by
 have Ml:(∃k bP,cH= .len k bP)\/∃bP,cH= .sN bP:=by
  cases cH<;>simp only[opx] at h
  all_goals first
   |(exact .inl ⟨_,_,rfl⟩)
   |(exact .inr ⟨_,rfl⟩)
   |(cases h;done)
   |(exfalso;repeat' first|(cases h;done)|split at h|(simp only[zW] at h))
 rcases Ml with⟨k,bP,rfl⟩|⟨bP,rfl⟩
 ·exact⟨b0p ab,b0q c ab h⟩
 have b0s:∃x,o.op= .next x false/\opdOf x=some bP:=by
  unfold cop at ab;split at ab
  all_goals first
   |(cases ab;done)
   |(rename_i ho;simp only[fq] at ab;obtain⟨y,hy,he⟩:=ab;cases he;exact⟨_,ho,hy⟩)
   |(
     exfalso
     repeat' first
      |(cases ab;done)
      |(simp only[fq,reduceCtorEq,and_false,exists_false] at ab;done)
      |(simp only[en,dP,eK,cJ,reduceCtorEq,and_false,exists_false] at ab;done)
      |split at ab
      |(obtain⟨_,_,ab⟩:=ab)
      |(simp only[en,dP,eK,cJ] at ab))
 obtain⟨x,ho,hx⟩:=b0s;refine⟨λc hd=>(by rw[ho] at hd;cases hd),?_⟩;simp only[opx] at h;simp only[execOp,ho];split at h<;>try (cases h;done)
 rename_i it av;obtain⟨aF,hm,kz⟩:=(c.ar hx av).vM;rw[kz];split at h<;>try (cases h;done)
 rename_i ef;have pq:f<=it:=by simpa [gQ] using ef
 split at h<;>try (cases h;done)
 rename_i id since seen g1 hg;split at h<;>try (cases h;done)
 rename_i es aq kN;cases aX:(Nat.beq aq since&&Nat.beq g1 since&&cP (λ(e:AV×AV×Nat)=>Nat.blt e.2.2 since) es) with
 |false=>rw[aX] at h;cases h
 |true=>
  rw[aX,cond_true] at h;simp only[du,oh] at aX;obtain⟨⟨rfl,rfl⟩,hall⟩:=aX;split at h<;>cases h;rename_i a5;rcases Ud (f:=f) c.rel pq hm hg kN (λe he=>by have:=nL hall e he;simpa [gQ] using this) o.type with⟨h1,_⟩|⟨e,he,u,aw,h2,h3,aQ,bF⟩
  ·exact absurd h1 a5
  ·exact⟨_,dx.2 ⟨e,he,rfl⟩,qv ⟨u,aw,m,h2,h3,aQ,bF⟩⟩
theorem z0(c:Ctx P env J w m B ao a)(ab:cop P o=some cH)(h:opx f (evalA env ao) J cH=some (.val v ag)):fD P B f J w m v ag ((execOp a.eval o).run P w):=by
 have fm:=ab;unfold cop at ab;split at ab
 all_goals first|(cases ab;done)|skip
 all_goals first
  |(rename_i ho;first
    |exact Ug c (.inl ho) fm h|exact Ug c (.inr ho) fm h|exact a9x c ho fm h|exact a9y c ho fm h|exact a9z c ho fm h|exact a9M c ho fm h
    |exact a9O c ho fm h|exact Ur c (.inl ho) fm h|exact Ur c (.inr ho) fm h|exact a9A c ho fm h|exact a9B c ho fm h|exact a9C c ho fm h
    |exact a9G c ho fm h|exact a9D c ho fm h|exact a9H c ho fm h|exact a9J c ho fm h|exact a9K c ho fm h|exact a9L c ho fm h
    |exact a9X c ho fm h|exact a9P c ho fm h|exact a9Q c ho fm h|exact a9R c ho fm h|exact a9S c ho fm h|exact a9T c ho fm h
    |exact a9U c ho fm h|exact a9V c ho fm h|exact b0e c ho fm h)
  |skip
 ·rename_i ho;exact b0k c ho fm h
 ·rename_i ho;exact b0l c ho fm h
 ·rename_i ho;exact b0m c ho fm h
 ·rename_i ho;exact b0n c ho fm h
 ·simp only[en,dP,eK,cJ] at ab;obtain⟨ac,pw,cB,kc,rfl⟩:=ab;simp only[opx] at h;split at h<;>cases h
 ·simp only[en,dP,eK,cJ] at ab;obtain⟨ac,pw,cB,kc,rfl⟩:=ab;simp only[opx] at h;split at h<;>cases h
 ·simp only[fq] at ab;obtain⟨bP,hx,rfl⟩:=ab;simp only[opx] at h;split at h<;>cases h
end
theorem b0t{α β:Type}(f:α->Option (List β))(x:α)(xs:List α):oo f (x::xs)=match f x with|none=>none|some a=>match oo f xs with|none=>none|some b=>some (a++b):=by
 cases xs with
 |nil=>show f x=_;cases f x<;>simp[oo]
 |cons y ba=>rfl
theorem Mm{α β:Type}{f:α->Option (List β)}:∀ {l:List α} {out:List β},oo f l=some out->∀x∈l,∃o,f x=some o/\∀y∈o,y∈out
 |[],_,_,x,hx=>by cases hx
 |x::l,out,h,y,hy=>by
  rw[b0t] at h;cases hf:f x with
  |none=>rw[hf] at h;cases h
  |some a=>
   rw[hf] at h;cases hl:oo f l with
   |none=>rw[hl] at h;cases h
   |some b=>
    rw[hl] at h;cases h;rcases dF.1 hy with rfl|hy
    ·exact⟨a,hf,λz bb=>L8 _ bb⟩
    ·obtain⟨o,h1,h2⟩:=Mm hl y hy;exact⟨o,h1,λz bb=>Ul _ (h2 z bb)⟩
theorem v3{α β:Type}{r:Option (List α)}{f:α->Option (List β)}{out:List β}(h:hB r f=some out):∃l,r=some l/\∀x∈l,∃o,f x=some o/\∀y∈o,y∈out:=by
 cases r with
 |none=>cases h
 |some l=>exact⟨l,rfl,Mm h⟩
def fx(r:Option Nat):Fence:={fn:=λ_=>True,depth:=none,alive:=false,round:=r}
def z1(w:World)(m:Nat->Option Nat)(O:Nat->Prop)(B:Nat):(Nat ⊕ (AV×List AV))->Deferred->Prop
 | .inl id,d=>∃aF,m id=some aF/\d={target:=.collected aF,args:=#[]}
 | .inr (cr,args),d=>∃g a8 cs gR fv us,cr= .f (.func g) a8 cs/\d={target:=.fn (.func g) fv,args:=gR++us}/\bK w m O B a8 gR.toList/\bK w m O B cs fv.toList/\bK w m O B args us.toList
structure e4(P:Program)(env:Env)(ad:Fr)(a:Act)(J:ae)(w:World)(m:Nat->Option Nat)(B:Nat):Prop where
 ctx:Ctx P env J w m B ad.bf a
 defs:iR (z1 w m (bp J m) B) ad.defers a.defers
def rH(w:World)(m:Nat->Option Nat)(O:Nat->Prop)(B:Nat):et->Ending->Prop
 | .ok v,.returned u=>R w m O B v u
 | .err v,.panicked nQ=>∃u,nQ=[{v:=u,recovered:=false}]/\R w m O B v u
 |_,_=>False
def ExR(w:World)(m:Nat->Option Nat)(O:Nat->Prop)(B:Nat):fN->Exit->Prop
 | .normal,.normal=>True
 | .exit i,.exit j=>i=j
 | .ret,.ret=>True
 | .panic v,.panic nQ=>∃u,nQ=[{v:=u,recovered:=false}]/\R w m O B v u
 |_,_=>False
def CallRes(P:Program)(F:Fence)(n:Nat)(u:Value)(us:Array Value)(w:World)(R:Ending->World->Prop):Prop:=
 ∃d,(∀aw,(Deferred.ofValue u us).run P aw= .ok d aw)∧
  match(invoke d.target d.args).run P w with
  | .ok (.enter f args) aw=>CallsIn F n P f args aw R
  | .ok (.round l f tmps as b) aw=>RoundIn F n P l f tmps as b aw R
  | .ok (.value v) aw=>R (.returned v) aw
  |_=>False
section
variable {P:Program}{env:Env}{J ag:ae}{w aw:World}{m aW:Nat->Option Nat}{B f:Nat}
theorem Globs.ext(de:Globs env w B)(h:Ext f J w m ag aw aW)(al:Rel P J w m B):Globs env aw B:=λg v hg eE=>
 (de g v hg eE).mono (λ_ _ h=>h) h.size h.bI (λb hb cp=>⟨h.aS b hb (λ⟨_,_,h1,_⟩=>cp (al.base _ _ h1)),cp⟩)
theorem z1.ext{d:Nat ⊕ (AV×List AV)}{je:Deferred}(hd:z1 w m (bp J m) B d je)(h:Ext f J w m ag aw aW)(al:Rel P J w m B):z1 aw aW (bp ag aW) B d je:=by
 cases d with
 |inl id=>obtain⟨aF,h1,h2⟩:=hd;exact⟨aF,h.mono _ _ h1,h2⟩
 |inr p=>obtain⟨g,a8,cs,gR,fv,us,h1,h2,h3,aQ,bF⟩:=hd;exact⟨g,a8,cs,gR,fv,us,h1,h2,h3.ext h al,aQ.ext h al,bF.ext h al⟩
theorem CU{α β:Type}{r cc:α->β->Prop}(h:∀x y,r x y->cc x y):∀ {l:List α} {ct:List β},iR r l ct->iR cc l ct
 |[],[],_=>trivial
 |[],_::_,h'=>h'.elim
 |_::_,[],h'=>h'.elim
 |_::_,_::_,h'=>⟨h _ _ h'.1,CU h h'.2⟩
theorem Ctx.ext{ao:a1 AV}{a:Act}(c:Ctx P env J w m B ao a)(h:Ext f J w m ag aw aW)(rD:Rel P ag aw aW B):Ctx P env ag aw aW B ao a:=
 ⟨rD,c.bf.ext h c.rel,Globs.ext c.globs h c.rel⟩
theorem e4.ext{ad:Fr}{a:Act}(s:e4 P env ad a J w m B)(h:Ext f J w m ag aw aW)(rD:Rel P ag aw aW B):e4 P env ad a ag aw aW B:=
 ⟨s.ctx.ext h rD,CU (λ_ _ hd=>hd.ext h s.ctx.rel) s.defs⟩
theorem iP.put{O:Nat->Prop}{ao:a1 AV}{tmps:Array Value}(h:iP w m O B ao tmps.toList)(d:Nat){v:AV}{u:Value}(av:R w m O B v u):iP w m O B (ao.set d v) (tmps.setIfInBounds d u).toList:=by
 refine⟨λi x hx=>?_,λi hx=>?_⟩
 ·rw[a1.jh] at hx;rw[mn];by_cases hi:i=d
  ·subst hi;rw[if_pos I] at hx;cases hg:ao.get i with
   |none=>rw[hg] at hx;cases hx
   |some y=>
    rw[hg] at hx;cases hx;obtain⟨Uw,h1,_⟩:=h.1 i y hg;rw[mn] at h1;have hlt:=(xt.1 h1).1;exact⟨u,by simp[FO,hlt],av⟩
  ·rw[if_neg hi] at hx;obtain⟨Uw,h1,h2⟩:=h.1 i x hx;rw[mn] at h1;exact⟨Uw,by rw[K3 (λe=>hi e.symm)];exact h1,h2⟩
 ·rw[a1.jh] at hx;rw[mn];have hg:ao.get i=none:=by
   by_cases hi:i=d
   ·subst hi;rw[if_pos I] at hx;cases hg:ao.get i with
    |none=>rfl
    |some y=>rw[hg] at hx;cases hx
   ·rw[if_neg hi] at hx;exact hx
  have h1:=h.2 i hg;rw[mn] at h1;have:=Array.getElem?_eq_none_iff.1 h1;exact zt (by simpa using this)
theorem b0u{O:Nat->Prop}{ao:a1 AV}{a:Act}(h:iP w m O B ao a.tmps.toList)(d:Nat){v:AV}{u:Value}(av:R w m O B v u):iP w m O B (ao.set d v) (a.put (some d) u).tmps.toList:=
 h.put d av
theorem e4.put{ad:Fr}{a:Act}(s:e4 P env ad a J w m B)(d:Option Nat){v:AV}{u:Value}(av:R w m (bp J m) B v u):e4 P env (ad.put d v) (a.put d u) J w m B:=by
 cases d with
 |none=>exact s
 |some d=>exact⟨⟨s.ctx.rel,b0u s.ctx.bf d av,s.ctx.globs⟩,s.defs⟩
theorem Gy{ops:Array Oper}{o:Oper}{aZ:a3}{O:Nat->Prop}{ao:a1 AV}{tmps:Array Value}(ab:coper P ops o=some aZ)(an:iP w m O B ao tmps.toList):Region.wanted o (yielded ops tmps)=wantedA aZ.guard ao:=by
 unfold coper at ab;split at ab<;>cases ab;rename_i g hg;unfold guardOf at hg;unfold Region.wanted wantedA;split at hg
 ·rename_i v5;cases hg;simp[v5]
 ·rename_i j wt v5;split at hg<;>cases hg;rename_i d hd;simp only[v5,yielded,hd,Option.bind_some];cases gK:ao.get d with
  |none=>
   have:=an.2 d gK;rw[mn] at this;simp[this]
  |some v=>
   obtain⟨u,hu,jQ⟩:=an.1 d v gK;rw[mn] at hu;simp only[hu];cases jQ with
   |y h=>rcases h.alt with⟨_,_,rfl⟩|⟨_,rfl⟩<;>simp
   |gi hu h=>subst hu;simp
   |_=>simp
theorem Mn{c:Callee}{ac:sM}(ab:calleeOf c=some ac){ao:a1 AV}{a:Act}(ctx:Ctx P env J w m B ao a){cr:AV}(av:calleeV (evalA env ao) ac=some cr):
  ∃x,c= .value x/\R w m (bp J m) B cr (a.eval x):=by
 unfold calleeOf at ab;split at ab
 ·cases ab;cases av;exact⟨_,rfl,.cQ I (λi h=>by simp at h) I (λi h=>by simp at h)⟩
 ·split at ab<;>cases ab;rename_i hx;exact⟨_,rfl,ctx.ar hx av⟩
 ·cases ab
theorem Ux{F:Fence}{n:Nat}{o:Oper}{a:Act}{x:Operand}{c:Call}(ho:o.op= .call c)(gq:c.callee= .value x){us:Array Value}(lH:c.args.map a.eval=us)(b4:∀f,F.fn f)(hd:F.depth=none)
  {R:Ending->World->Prop} (h:CallRes P F (n-1) (a.eval x) us w R) {next:Act->World->Prop} {Q:Exit->Act->World->Prop}
  (hR:∀e aw,R e aw->match e with| .returned v=>next (a.put o.dst v) aw| .panicked nQ=>Q (.panic nQ) a aw| .outgrown=>False):o.wpIn F n P a w next Q:=by
 obtain⟨d,h1,h2⟩:=h;have dh:∀aw,(resolve a.eval c o.type).run P aw= .ok d aw:=λaw=>by
  unfold resolve;rw[gq];simp only[lH];exact h1 aw
 have he:(o.semAt F.round a.eval).run P w=(invoke d.target d.args).run P w:=by
  rw[uG _ _ _ (λc ab=>by rw[ho] at ab;cases ab)];unfold execOp;rw[ho];simp only[eV,dh,e3]
 refine⟨λf _=>b4 f,?_⟩;rw[he];generalize(invoke d.target d.args).run P w=res at h2;cases res with
 |halt h aw=>exact h2.elim
 |ok s8 aw=>
  cases s8<;>try exact h2.elim
  ·exact hR _ _ h2
  ·exact⟨λan=>by rw[hd] at an;simp at an,CN h2 (λe zD al=>by have:=hR e zD al;cases e<;>first|exact this|exact this.elim)⟩
  ·exact⟨λan=>by rw[hd] at an;simp at an,RoundIn.mono h2 (λe zD al=>by have:=hR e zD al;cases e<;>first|exact this|exact this.elim)⟩
def CV(P:Program)(env:Env)(B f:Nat)(r:Option Nat)(call:mv):Prop:=
 ∀cr args J kd,call cr args J=some kd->∀k w m u us,Rel P J w m B->Globs env w B->R w m (bp J m) B cr u->bK w m (bp J m) B args us→
  CallRes P (fx r) k u us.toArray w (λe aw=>∃ret ag,(ret,ag)∈kd/\∃aW,rH aw aW (bp ag aW) B ret e/\Rel P ag aw aW B/\Ext f J w m ag aw aW)
theorem Uy{o:Oper}{c:sM}{args:List aI}(h:cop P o=some (.call c args)):∃aq,o.op= .call aq/\calleeOf aq.callee=some c/\xA aq.args.toList=some args:=by
 unfold cop at h;split at h
 all_goals first
  |(cases h;done)
  |(simp only[fq,reduceCtorEq,and_false,exists_false] at h;done)
  |(simp only[en,dP,eK,cJ,reduceCtorEq,and_false,exists_false] at h;done)
  |(
    rename_i ho _;simp only[en,dP,eK,cJ] at h;obtain⟨ac,pw,cB,kc,he⟩:=h;cases he;exact⟨_,ho,pw,kc⟩)
  |(
    rename_i ho;simp only[en,dP,eK,cJ] at h;obtain⟨ac,pw,cB,kc,he⟩:=h;cases he;exact⟨_,ho,pw,kc⟩)
  |(
    exfalso
    repeat' first
     |(cases h;done)
     |(simp only[fq,reduceCtorEq,and_false,exists_false] at h;done)
     |(simp only[en,dP,eK,cJ,reduceCtorEq,and_false,exists_false] at h;done)
     |split at h
     |(obtain⟨_,_,h⟩:=h)
     |(simp only[en,dP,eK,cJ] at h))
theorem b0v{o:Oper}{c:sM}{args:List aI}(h:cop P o=some (.k2 c args)):∃aq,o.op= .defer aq/\calleeOf aq.callee=some c/\xA aq.args.toList=some args:=by
 unfold cop at h;split at h
 all_goals first
  |(cases h;done)
  |(simp only[fq,reduceCtorEq,and_false,exists_false] at h;done)
  |(simp only[en,dP,eK,cJ,reduceCtorEq,and_false,exists_false] at h;done)
  |(
    rename_i ho _;simp only[en,dP,eK,cJ] at h;obtain⟨ac,pw,cB,kc,he⟩:=h;cases he;exact⟨_,ho,pw,kc⟩)
  |(
    rename_i ho;simp only[en,dP,eK,cJ] at h;obtain⟨ac,pw,cB,kc,he⟩:=h;cases he;exact⟨_,ho,pw,kc⟩)
  |(
    exfalso
    repeat' first
     |(cases h;done)
     |(simp only[fq,reduceCtorEq,and_false,exists_false] at h;done)
     |(simp only[en,dP,eK,cJ,reduceCtorEq,and_false,exists_false] at h;done)
     |split at h
     |(obtain⟨_,_,h⟩:=h)
     |(simp only[en,dP,eK,cJ] at h))
end
section
variable {P:Program}{env:Env}{B f:Nat}
theorem Uz{o:Oper}{bP:aI}(h:cop P o=some (.panic bP)):∃x,opdOf x=some bP/\(o.op= .panic x\/∃xs k9,o.op= .call {callee:=.builtin .panic,args:=xs,argTypes:=k9}/\xs.toList=[x]):=by
 unfold cop at h;split at h
 all_goals first
  |(cases h;done)
  |(simp only[fq,reduceCtorEq,and_false,exists_false] at h;done)
  |(simp only[en,dP,eK,cJ,reduceCtorEq,and_false,exists_false] at h;done)
  |(
    rename_i ho;simp only[fq] at h;obtain⟨ac,pw,he⟩:=h;cases he;exact⟨_,pw,.inl ho⟩)
  |skip
 all_goals first
  |(
    rename_i ho;split at h
    all_goals first
     |(cases h;done)
     |(
      simp only[fq] at h;obtain⟨ac,pw,he⟩:=h;cases he;rename_i dH;exact⟨_,pw,.inr ⟨_,_,ho,dH⟩⟩)
     |(
      exfalso
      repeat' first
       |(cases h;done)
       |(simp only[fq,reduceCtorEq,and_false,exists_false] at h;done)
       |(simp only[en,dP,eK,cJ,reduceCtorEq,and_false,exists_false] at h;done)
       |split at h
       |(obtain⟨_,_,h⟩:=h)
       |(simp only[en,dP,eK,cJ] at h)))
  |(
    exfalso
    repeat' first
     |(cases h;done)
     |(simp only[fq,reduceCtorEq,and_false,exists_false] at h;done)
     |(simp only[en,dP,eK,cJ,reduceCtorEq,and_false,exists_false] at h;done)
     |split at h
     |(obtain⟨_,_,h⟩:=h)
     |(simp only[en,dP,eK,cJ] at h))
theorem UA{o:Oper}{a:Act}{x:Operand}(ho:o.op= .panic x\/∃xs k9,o.op= .call {callee:=.builtin .panic,args:=xs,argTypes:=k9}/\xs.toList=[x]){t:TypeId}{u:Value}(hx:a.eval x= .iface t u)(w:World):
  (execOp a.eval o).run P w= .halt (.panic (.iface t u)) w:=by
 rcases ho with ho|⟨xs,k9,ho,dH⟩
 ·simp[execOp,ho,hx,Instr.panic,goPanic]
 ·obtain rfl:=uI dH;rw[Gv ho];simp[builtin,hx,Instr.panic,goPanic]
theorem v7{ar:aI->Option AV}{J:ae}{op:AOp}{cr:AV}{args:List AV}(h:opx f ar J op=some (.call cr args)):∃c as,op= .call c as/\calleeV ar c=some cr/\mapO ar as=some args:=by
 cases op<;>simp only[opx] at h
 all_goals first
  |(cases h;done)
  |(
    rename_i c as;split at h<;>cases h;rename_i h1 h2;exact⟨c,as,rfl,h1,h2⟩)
  |(exfalso;repeat' first|(cases h;done)|(cases CG h;done)|split at h|(simp only[zW] at h))
theorem b0w{ar:aI->Option AV}{J:ae}{op:AOp}{cr:AV}{args:List AV}(h:opx f ar J op=some (.k2 cr args)):∃c as,op= .k2 c as/\calleeV ar c=some cr/\mapO ar as=some args:=by
 cases op<;>simp only[opx] at h
 all_goals first
  |(cases h;done)
  |(
    rename_i c as;split at h<;>cases h;rename_i h1 h2;exact⟨c,as,rfl,h1,h2⟩)
  |(exfalso;repeat' first|(cases h;done)|(cases CG h;done)|split at h|(simp only[zW] at h))
theorem UB{ar:aI->Option AV}{J:ae}{op:AOp}{v:AV}(h:opx f ar J op=some (.panic v)):∃x t u,op= .panic x/\ar x=some (.it t u)/\v= .it t u:=by
 cases op<;>simp only[opx] at h
 all_goals first
  |(cases h;done)
  |(
    rename_i x;split at h<;>cases h;rename_i h1;exact⟨x,_,_,rfl,h1,rfl⟩)
  |(exfalso;repeat' first|(cases h;done)|(cases CG h;done)|split at h|(simp only[zW] at h))
theorem Gz{o:Oper}{c:Call}{cH:AOp}(hd:o.op= .defer c)(h:cop P o=some cH):∃ac as,cH= .k2 ac as:=by
 obtain⟨callee,args,c5F⟩:=c;unfold cop at h;rw[hd] at h;cases callee with
 |builtin b=>cases h
 |value x=>
  simp only[en,dP,eK,cJ] at h;obtain⟨ac,_,as,_,he⟩:=h;exact⟨ac,as,he.symm⟩
 |invoke x n=>
  simp only[en,dP,eK,cJ] at h;obtain⟨ac,_,as,_,he⟩:=h;exact⟨ac,as,he.symm⟩
theorem CW{o:Oper}{cH:AOp}(h:copB P o=cH)(hb:cH≠ .bad):cop P o=some cH:=by
 unfold copB at h;split at h
 ·subst h;assumption
 ·exact absurd h.symm hb
theorem GA{ops:Array Oper}{o:Oper}{aZ:a3}(h:coper P ops o=some aZ):aZ.op=copB P o/\aZ.dst=o.dst:=by
 unfold coper at h;split at h<;>cases h;exact⟨rfl,rfl⟩
theorem x1(op:AOp)(floor:Nat)(ar:aI->Option AV)(J:ae):sQ op floor ar J=opx floor ar J op:=by
 cases op<;>rfl
theorem b0x(floor:Nat)(call:AV->List AV->ae->Option (et×ae))(rc:Option AV)(dQ:Bool)(ad:Fr)(J:ae):rq env floor call rc dQ [] ad J=some (.normal,ad,J):=rfl
theorem runOpsD_cons(floor:Nat)(call:AV->List AV->ae->Option (et×ae))(rc:Option AV)(dQ:Bool)(o:a3)(ops:List a3)(ad:Fr)(J:ae):rq env floor call rc dQ (o::ops) ad J=
  cond (wantedA o.guard ad.bf)
   (match o.op with
    | .recover=>match rc with
     |some v=>rq env floor call rc dQ ops (Fr.put ⟨ad.bf,ad.defers,true⟩ o.dst (cond ad.fS .fJ v)) J
     |none=>none
    |op=>match opx floor (evalA env ad.bf) J op with
     |some (.val v J)=>rq env floor call rc dQ ops (ad.put o.dst v) J
     |some (.call cr args)=>match call cr args J with
      |some (.ok v,J)=>rq env floor call rc dQ ops (ad.put o.dst v) J
      |some (.err v,J)=>some (.panic v,ad,J)
      |none=>none
     |some (.k2 cr args)=>cond (dQ&&isFn cr) (rq env floor call rc dQ ops (Fr.put ⟨ad.bf,.inr (cr,args)::ad.defers,ad.fS⟩ o.dst ea) J) none
     |some (.panic v)=>some (.panic v,ad,J)
     |some (.jM _)=>none
     |none=>none)
   (rq env floor call rc dQ ops (ad.put o.dst ea) J):=by
 show cond (wantedA o.guard ad.bf) (cond o.op.isRec _ (match sQ o.op floor (evalA env ad.bf) J with|some (.val v J)=>_|some (.call cr args)=>_|some (.k2 cr args)=>_|some (.panic v)=>_|some (.jM _)=>_|none=>none)) _=_;rw[x1];rcases o with⟨dst,op,g,wn⟩
 cases op<;>rfl
theorem b0y(floor:Nat)(call:mv)(dQ:Bool)(ad:Fr)(J:ae):runOps env floor call dQ [] ad J=some [(.normal,ad,J)]:=rfl
theorem x2(floor:Nat)(call:mv)(dQ:Bool)(o:a3)(ops:List a3)(ad:Fr)(J:ae):runOps env floor call dQ (o::ops) ad J=
  cond (wantedA o.guard ad.bf)
   (match opx floor (evalA env ad.bf) J o.op with
    |some (.val v J)=>runOps env floor call dQ ops (ad.put o.dst v) J
    |some (.call cr args)=>hB (call cr args J) (λr=>match r with
     |(.ok v,J)=>runOps env floor call dQ ops (ad.put o.dst v) J
     |(.err v,J)=>some [(.panic v,ad,J)])
    |some (.k2 cr args)=>cond (dQ&&isFn cr) (runOps env floor call dQ ops (Fr.put ⟨ad.bf,.inr (cr,args)::ad.defers,ad.fS⟩ o.dst ea) J) none
    |some (.panic v)=>some [(.panic v,ad,J)]
    |some (.jM l)=>oo (λp=>runOps env floor call dQ ops (ad.put o.dst p.1) p.2) l
    |none=>none)
   (runOps env floor call dQ ops (ad.put o.dst ea) J):=by
 show Bool.rec (motive:=λ_=>Option m6) (runOps env floor call dQ ops (ad.om o.dst ea) J)
   (Option.rec (motive:=λ_=>Option m6) none (λr=>bV.rec (motive:=λ_=>Option m6)
    (λv J=>runOps env floor call dQ ops (ad.om o.dst v) J)
    (λcr args=>hB (call cr args J) (λr=>match r with
     |(.ok v,J)=>runOps env floor call dQ ops (ad.om o.dst v) J
     |(.err v,J)=>some [(.panic v,ad,J)]))
    (λcr args=>cond (dQ&&isFn cr) (runOps env floor call dQ ops (Fr.om ⟨ad.bf,.inr (cr,args)::ad.defers,ad.fS⟩ o.dst ea) J) none)
    (λv=>some [(.panic v,ad,J)])
    (λl=>oo (λp=>runOps env floor call dQ ops (ad.om o.dst p.1) p.2) l) r)
    (sQ o.op floor (zy env ad.bf) J))
   (F3 o.guard ad.bf)=_
 rw[rv,Tb,Tc,Ln,x1];cases opx floor (evalA env ad.bf) J o.op with
 |none=>rfl
 |some r=>cases r<;>rfl
theorem UC{r:Option Nat}{call:mv}(qy:CV P env B f r call){ops:Array Oper}{k:Nat}{dQ:Bool}(hnd:dQ=true->r=none):
  ∀(ol:List Oper) (cB:List a3) (ad:Fr) (J:ae) (outs:m6) (a:Act) (w:World) (m:Nat->Option Nat),mapOL (coper P ops) ol=some cB->runOps env f call dQ cB ad J=some outs->e4 P env ad a J w m B→
   ∀Q:Exit->Act->World->Prop,(∀e bc ag,(e,bc,ag)∈outs->∀x cL aw aW,ExR aw aW (bp ag aW) B e x->e4 P env bc cL ag aw aW B->Ext f J w m ag aw aW->Q x cL aw)->wpListIn (fx r) k P ops Q ol a w
 |[],cB,ad,J,outs,a,w,m,hm,h,st,Q,b8=>by
  simp[mapOL] at hm;subst hm;rw[b0y] at h;cases h;exact b8 _ _ _ (cu.2 I) .normal a w m trivial st (Ext.refl _ _ _ _)
 |o::ol,cB,ad,J,outs,a,w,m,hm,h,st,Q,b8=>by
  rw[mapOL] at hm;split at hm<;>cases hm;rename_i aZ CX ho qn;obtain⟨eb,jj⟩:=GA ho;rw[x2] at h;rw[wpListIn,Gy ho st.ctx.bf];have next:∀ {eh:Fr} {a2:Act} {b2:ae} {bW:World} {df:Nat->Option Nat} {dJ:m6},runOps env f call dQ CX eh b2=some dJ->(∀y∈dJ,y∈outs)->e4 P env eh a2 b2 bW df B->Ext f J w m b2 bW df->wpListIn (fx r) k P ops Q ol a2 bW:=
   λ{eh a2 b2 bW df dJ} h1 eZ hq dI=>UC qy hnd ol CX eh b2 dJ a2 bW df qn h1 hq Q (λe bc ag gb x cL aw aW hx cn hex=>b8 e bc ag (eZ _ gb) x cL aw aW hx cn (dI.trans st.ctx.rel hex))
  cases hw:wantedA aZ.guard ad.bf with
  |false=>
   rw[hw,cond_false] at h;simp only[rj,if_false];refine⟨λf _=>trivial,next h (λ_ h=>h) ?_ (Ext.refl _ _ _ _)⟩;rw[jj];exact st.put _ R.undef
  |true=>
   rw[hw,cond_true] at h;simp only[if_true];generalize Ml:aZ.op=cH at h eb;have ab:∀res,opx f (evalA env ad.bf) J cH=some res->cop P o=some cH:=λres dh=>CW eb.symm (λhb=>by subst hb;simp[opx] at dh);have x3:∀v b2,opx f (evalA env ad.bf) J cH=some (.val v b2)->∀c,o.op≠ .defer c:=λv b2 hx c hd=>by
    have hh:=Gz hd (ab _ hx);obtain⟨ac,as,rfl⟩:=hh;simp only[opx] at hx;split at hx<;>cases hx
   split at h
   ·-- a value
    rename_i v b2 hx;have ay:=z0 st.ctx (ab _ hx) hx;obtain⟨u,bW,df,cb,hR,nR,dI⟩:=ay;have an:(o.semAt (fx r).round a.eval)=execOp a.eval o:=uG _ _ _ (x3 _ _ hx);have cn:=(st.ext dI nR).put aZ.dst hR;rw[jj] at cn h;refine⟨λf _=>trivial,?_⟩;rw[an];rcases cb with cb|⟨cb,rfl⟩
    ·rw[cb];exact next h (λ_ h=>h) cn dI
    ·rw[cb];exact next h (λ_ h=>h) cn dI
   ·-- a call
    rename_i cr args hx;obtain⟨c,as,rfl,kv,has⟩:=v7 hx;obtain⟨aq,CY,CZ,px⟩:=Uy (ab _ hx);obtain⟨x,ia,x4⟩:=Mn CZ st.ctx kv;have C0:=Cu st.ctx.rel.xU st.ctx.globs st.ctx.bf px has;obtain⟨kd,gq,py⟩:=v3 h;have dh:=qy _ _ _ _ gq (k-1) w m _ _ st.ctx.rel st.ctx.globs x4 C0;refine Ux CY ia (us:=aq.args.map a.eval) I (λ_=>trivial) I (by
     have aR:(aq.args.toList.map a.eval).toArray=aq.args.map a.eval:=by apply m3;simp
     rw[aR] at dh;exact dh) (λaR bW al=>?_)
    obtain⟨ret,b2,gb,df,h1,h2,h3⟩:=al;obtain⟨dJ,eg,eZ⟩:=py _ gb;cases ret with
    |ok v=>
     cases aR with
     |returned u=>
      have cn:=(st.ext h3 h2).put aZ.dst h1;rw[jj] at cn eg;exact next eg eZ cn h3
     |panicked nQ=>exact h1.elim
     |outgrown=>exact h1.elim
    |err v=>
     simp only[cJ] at eg;subst eg;cases aR with
     |returned u=>exact h1.elim
     |panicked nQ=>exact b8 _ _ _ (eZ _ (cu.2 I)) _ _ _ df h1 (st.ext h3 h2) h3
     |outgrown=>exact h1.elim
   ·-- a deferred call
    rename_i cr args hx;obtain⟨c,as,rfl,kv,has⟩:=b0w hx;obtain⟨aq,CY,CZ,px⟩:=b0v (ab _ hx);obtain⟨x,ia,x4⟩:=Mn CZ st.ctx kv;have C0:=Cu st.ctx.rel.xU st.ctx.globs st.ctx.bf px has;cases C1:(dQ&&isFn cr) with
    |false=>rw[C1] at h;cases h
    |true=>
     rw[C1,cond_true] at h;simp only[du] at C1;have oC:=hnd C1.1;subst oC;have hval:∃g a8 cs gR fv,cr= .f (.func g) a8 cs/\a.eval x= .func (.func g) gR fv/\bK w m (bp J m) B a8 gR.toList/\bK w m (bp J m) B cs fv.toList:=by
      revert x4;generalize a.eval x=nc;intro x4;cases x4 with
      |cQ hf bC gL sS=>exact⟨_,_,_,_,_,rfl,rfl,⟨by simpa using hf,λi p q=>by simpa using bC i p (by simpa using q)⟩,⟨by simpa using gL,λi p q=>by simpa using sS i p (by simpa using q)⟩⟩
      |_=>simp[isFn] at C1
     obtain⟨g,a8,cs,gR,fv,rfl,hex,gM,gL⟩:=hval;have cb:(o.semAt (fx none).round a.eval).run P w= .ok (.defer {target:=.fn (.func g) fv,args:=gR++aq.args.map a.eval}) w:=by
      show(execOp a.eval o).run P w=_;unfold execOp;rw[CY];simp[resolve,ia,Deferred.ofValue,hex]
     refine⟨λf _=>trivial,?_⟩;rw[cb];have aR:(aq.args.map a.eval).toList=aq.args.toList.map a.eval:=by simp
     have cn:e4 P env ⟨ad.bf,.inr (.f (.func g) a8 cs,args)::ad.defers,ad.fS⟩ {a with defers:={target:=.fn (.func g) fv,args:=gR++aq.args.map a.eval}::a.defers} J w m B:=
      ⟨⟨st.ctx.rel,st.ctx.bf,st.ctx.globs⟩,⟨⟨g,a8,cs,gR,fv,aq.args.map a.eval,rfl,rfl,gM,gL,by rw[aR];exact C0⟩,st.defs⟩⟩
     have nS:=cn.put aZ.dst R.undef;rw[jj] at nS h;exact next h (λ_ h=>h) nS (Ext.refl _ _ _ _)
   ·-- a panic
    rename_i v hx;cases h;obtain⟨x,t,u,rfl,qz,rfl⟩:=UB hx;obtain⟨oD,Mo,v8⟩:=Uz (ab _ hx);have rI:=st.ctx.ar Mo qz;obtain⟨cj,sX⟩:∃cj,a.eval oD= .iface t cj:=by
     revert rI;generalize a.eval oD=nc;intro rI;cases rI;exact⟨_,rfl⟩
    have cb:=UA (P:=P) v8 sX w;have an:(o.semAt (fx r).round a.eval)=execOp a.eval o:=uG _ _ _ (λc hd=>by rcases v8 with v8|⟨_,_,v8,_⟩<;>(rw[hd] at v8;cases v8));refine⟨λf _=>trivial,?_⟩;rw[an,cb];rw[sX] at rI;exact b8 _ _ _ (cu.2 I) _ _ _ m ⟨_,rfl,rI⟩ st (Ext.refl _ _ _ _)
   ·-- a step of Ch iterator
    rename_i l hx;obtain⟨b0z,p,au,ay⟩:=b0r st.ctx (ab _ hx) hx;obtain⟨dJ,eg,eZ⟩:=Mm h p au;obtain⟨u,bW,df,cb,hR,nR,dI⟩:=ay;have an:(o.semAt (fx r).round a.eval)=execOp a.eval o:=uG _ _ _ b0z;have cn:=(st.ext dI nR).put aZ.dst hR;rw[jj] at cn eg;refine⟨λf _=>trivial,?_⟩;rw[an];rcases cb with cb|⟨cb,rfl⟩
    ·rw[cb];exact next eg eZ cn dI
    ·rw[cb];exact next eg eZ cn dI
   ·cases h
end
def z2(m:Nat->Option Nat):Option Nat->Option Nat->Prop
 |none,none=>True
 |some l,some b=>m l=some b
 |_,_=>False
theorem z2.mono{m aW:Nat->Option Nat}(hm:∀id aF,m id=some aF->aW id=some aF){aN r:Option Nat}(h:z2 m aN r):z2 aW aN r:=by
 cases aN<;>cases r<;>first|trivial|exact h.elim|exact hm _ _ h
def uJ(F:Fence)(n:Nat)(P:Program)(c:Code)(Q:Exit->Act->World->Prop)(a:Act)(w:World):Prop:=
 ∀(b:Frame) (k:List Item) (cs:List Frame),b.roundOf=F.round->F.fn b.fn->F.room (cs.length+1+n)→
  ∃e cL aw,Q e cL aw/\ArrivesIn (Machine.fenced P F) P (lone (b.atR a (.code c:: .inLoop c::k)) cs w) b k cs e cL aw
theorem uJ.wpIn{F:Fence}{n:Nat}{P:Program}{c:Code}{Q:Exit->Act->World->Prop}{a:Act}{w:World}(h:uJ F n P c Q a w):(Code.loop c).wpIn F n P Q a w:=by
 intro b k cs z3 hb al;obtain⟨e,cL,aw,aX,nT⟩:=h b k cs z3 hb al;exact⟨e,cL,aw,aX,.of_steps (.one (fenced_calm hb al I) stepR_loop) nT⟩
theorem uJ.round{F:Fence}{n:Nat}{P:Program}{c:Code}{Q:Exit->Act->World->Prop}{a:Act}{w:World}(h:c.wpIn F n P (Exit.then (uJ F n P c Q) Q) a w):uJ F n P c Q a w:=by
 intro b k cs z3 hb al;obtain⟨e,rJ,rK,aX,nT⟩:=h b (.inLoop c::k) cs z3 hb al;cases e with
 |normal=>
  obtain⟨b0A,b0B,b0C,b0D,b0E⟩:=aX b k cs z3 hb al;exact⟨b0A,b0B,b0C,b0D,.of_steps (StepsIn.trans nT (.one (fenced_calm hb al I) stepR_inLoop)) b0E⟩
 |exit id=>exact⟨_,rJ,rK,aX,.pass (x:=.inLoop c) I (λ_ _=>.inl aG) nT⟩
 |goto l=>exact⟨_,rJ,rK,aX,.pass (x:=.inLoop c) I (λ_ _=>.inl aG) nT⟩
 |ret=>exact⟨_,rJ,rK,aX,.pass (x:=.inLoop c) I (λ_ _=>.inl aG) nT⟩
 |panic nQ=>exact⟨_,rJ,rK,aX,.pass (x:=.inLoop c) I (λ_ _=>.inl aG) nT⟩
 |outgrown=>exact⟨_,rJ,rK,aX,.pass (x:=.inLoop c) I (λ_ _=>.inl aG) nT⟩
theorem z4{P:Program}{b:Frame}{a:Act}{k:List Item}{cs:List Frame}{w:World}{c:Code}:Go.step P (lone (b.atR a (.code (.scope c)::k)) cs w)= .next (lone (b.atR a (.code c:: .inScope c::k)) cs w):=
 step_lone_go (by simp[stepG,stepG.exec,Frame.atR])
theorem b0F{P:Program}{b:Frame}{a:Act}{k:List Item}{cs:List Frame}{w:World}{c:Code}:Go.step P (lone (b.atR a (.inScope c::k)) cs w)= .next (lone (b.atR a k) cs w):=
 step_lone_go (by simp[stepG,stepG.exec,Frame.atR])
theorem b0G{F:Fence}{n:Nat}{P:Program}{Q:Exit->Act->World->Prop}{a:Act}{w:World}{c:Code}(h:c.wpIn F n P (Exit.noGoto Q) a w):(Code.scope c).wpIn F n P Q a w:=by
 intro b k cs z3 hb al;have h0:(lone (b.atR a (.code (.scope c)::k)) cs w).fenced P F:=fenced_calm hb al I;obtain⟨e,rJ,rK,aX,nT⟩:=h b (.inScope c::k) cs z3 hb al;cases e with
 |normal=>exact⟨.normal,rJ,rK,aX,.head h0 z4 (StepsIn.trans nT (.one (fenced_calm hb al I) b0F))⟩
 |exit id=>
  have hx:exitTo id (.inScope c::k)=exitTo id k:=by simp[exitTo]
  exact⟨.exit id,rJ,rK,aX,λeR ay=>.head h0 z4 (nT.1 eR (by rw[hx];exact ay)),
   λrD ay=>let⟨k₁,h1,h2⟩:=nT.2 rD (by rw[hx];exact ay);⟨k₁,h1,.head h0 z4 h2⟩⟩
 |goto l=>exact aX.elim
 |ret=>exact⟨_,rJ,rK,aX,.of_steps (.one h0 z4) nT⟩
 |panic nQ=>exact⟨_,rJ,rK,aX,.of_steps (.one h0 z4) nT⟩
 |outgrown=>exact⟨_,rJ,rK,aX,.of_steps (.one h0 z4) nT⟩
def qA(P:Program)(env:Env)(B:Nat)(run:jf):Prop:=
 ∀floor aN ac ad J outs,run floor aN ac ad J=some outs->∀k r c a w m,ccode P c=some ac->z2 m aN r->e4 P env ad a J w m B→
  ∀Q:Exit->Act->World->Prop,(∀e bc ag,(e,bc,ag)∈outs->∀x cL aw aW,ExR aw aW (bp ag aW) B e x->e4 P env bc cL ag aw aW B->Ext floor J w m ag aw aW->Q x cL aw)→
   c.wpIn (fx r) k P Q a w/\∀bX,c= .loop bX->uJ (fx r) k P bX Q a w
section
variable {P:Program}{env:Env}{B:Nat}
theorem b0H(env:Env):exec env 0=λ_ _ _ _ _=>none:=rfl
theorem nU(env:Env)(n:Nat):exec env (n+1)=step env (exec env n):=a7z env (exec env n)
theorem qA.zero:qA P env B (exec env 0):=λfloor aN ac ad J outs h=>by rw[b0H] at h;cases h
def UD(P:Program)(env:Env)(B:Nat)(run:jf):Prop:=
 ∀floor ops ad J bc cO ws ag,jg env floor (callV env run floor) ops ad [] [] J=some (bc,cO,ws,ag)->ws.all (steady env floor (ag::cO).reverse)=true->swapOk env bc.bf ops=true->∀k r id UE a w m,cdraw P UE=some ops->e4 P env ad a J w m B→
  ∀Q:Exit->Act->World->Prop,(∀cL aw aW,e4 P env bc cL ag aw aW B->Ext floor J w m ag aw aW->Q .normal cL aw)->(Code.region id UE true).wpIn (fx r) k P Q a w
def UF(P:Program)(env:Env)(B:Nat)(run:jf):Prop:=
 ∀floor aN f aE as b ad J outs,step env run floor aN (.rangeFunc f aE as b) ad J=some outs->∀k r c a w m,ccode P c=some (.rangeFunc f aE as b)->z2 m aN r->e4 P env ad a J w m B→
  ∀Q:Exit->Act->World->Prop,(∀e bc ag,(e,bc,ag)∈outs->∀x cL aw aW,ExR aw aW (bp ag aW) B e x->e4 P env bc cL ag aw aW B->Ext floor J w m ag aw aW->Q x cL aw)->c.wpIn (fx r) k P Q a w
theorem kB{α:Type}(x:α):x∈[x]:=cu.2 I
theorem b0I{run:jf}(cb:qA P env B run)(qy:∀f r,CV P env B f r (callV env run f))(b0J:UD P env B run)(b0K:UF P env B run):qA P env B (step env run):=by
 intro floor aN ac ad J outs h k r c a w m ab mG st Q b8;have s9:(∀bX,c≠ .loop bX)->c.wpIn (fx r) k P Q a w->c.wpIn (fx r) k P Q a w/\∀bX,c= .loop bX->uJ (fx r) k P bX Q a w:=λh1 h2=>⟨h2,λbX he=>absurd he (h1 bX)⟩
 have trans:∀ {b2:ae} {bW:World} {df:Nat->Option Nat} {dJ:m6},Ext floor J w m b2 bW df->(∀y∈dJ,y∈outs)->∀e bc ag,(e,bc,ag)∈dJ->∀x cL aw aW,ExR aw aW (bp ag aW) B e x->e4 P env bc cL ag aw aW B->Ext floor b2 bW df ag aw aW->Q x cL aw:=
  λdI eZ e bc ag gb x cL aw aW hx cn hex=>b8 e bc ag (eZ _ gb) x cL aw aW hx cn (dI.trans st.ctx.rel hex)
 cases c with
 |skip=>
  simp only[ccode,cJ] at ab;subst ab;simp only[step] at h;cases h;exact s9 (λ_ h=>by cases h) (wpIn_skip (b8 _ _ _ (kB _) .normal a w m trivial st (Ext.refl _ _ _ _)))
 |label l=>
  simp only[ccode,cJ] at ab;subst ab;simp only[step] at h;cases h;exact s9 (λ_ h=>by cases h) (wpIn_label (b8 _ _ _ (kB _) .normal a w m trivial st (Ext.refl _ _ _ _)))
 |goto l=>simp only[ccode,cJ] at ab;subst ab;simp[step] at h
 |refuse l=>simp only[ccode,cJ] at ab;subst ab;simp[step] at h
 |exit id=>
  simp only[ccode,cJ] at ab;subst ab;simp only[step] at h;cases h;exact s9 (λ_ h=>by cases h) (wpIn_exit (b8 _ _ _ (kB _) (.exit id) a w m rfl st (Ext.refl _ _ _ _)))
 |ret=>
  simp only[ccode,cJ] at ab;subst ab;simp only[step] at h;cases h;exact s9 (λ_ h=>by cases h) (wpIn_ret (b8 _ _ _ (kB _) .ret a w m trivial st (Ext.refl _ _ _ _)))
 |region id ops dz=>
  refine s9 (λ_ h=>by cases h) ?_;cases dz with
  |true=>
   simp only[ccode] at ab;split at ab<;>cases ab
   ·rename_i l hl;simp only[step] at h;split at h<;>try (cases h;done)
    rename_i eh cO ws b2 hd;cases an:(ws.all (steady env floor (b2::cO).reverse)&&swapOk env eh.bf l) with
    |false=>rw[an] at h;cases h
    |true=>
     rw[an,cond_true] at h;cases h;rw[du] at an;exact b0J _ _ _ _ _ _ _ _ hd an.1 an.2 k r id ops a w m hl st Q (λcL aw aW h1 h2=>b8 _ _ _ (kB _) .normal cL aw aW trivial h1 h2)
   ·simp[step] at h
  |false=>
   simp only[ccode] at ab;split at ab<;>cases ab
   ·rename_i l hl;simp only[step] at h;refine wpIn_region_list (UC (qy floor r) (λhn=>?_) _ _ _ _ _ _ _ _ hl h st Q b8);cases aN<;>cases r<;>first|rfl|exact mG.elim|simp at hn
   ·simp[step] at h
 |seq x y=>
  refine s9 (λ_ h=>by cases h) ?_;simp only[ccode] at ab;split at ab<;>cases ab;rename_i bP eQ hx hy;simp only[step] at h;refine wpIn_seq ?_;obtain⟨l,uK,py⟩:=v3 h;refine(cb _ _ _ _ _ _ uK k r x a w m hx mG st _ (λaR eh b2 gb fR a2 bW df fr fP hr=>?_)).1;obtain⟨dJ,eg,eZ⟩:=py _ gb;cases aR with
  |normal=>
   cases fR<;>try exact fr.elim
   exact(cb _ _ _ _ _ _ eg k r y a2 bW df hy (mG.mono hr.mono) fP Q (trans hr eZ)).1
  |exit id=>cases eg;cases fR<;>first|exact fr.elim|exact b8 _ _ _ (eZ _ (kB _)) _ a2 bW df fr fP hr
  |ret=>cases eg;cases fR<;>first|exact fr.elim|exact b8 _ _ _ (eZ _ (kB _)) _ a2 bW df fr fP hr
  |panic v=>cases eg;cases fR<;>first|exact fr.elim|exact b8 _ _ _ (eZ _ (kB _)) _ a2 bW df fr fP hr
 |cond t x y=>
  refine s9 (λ_ h=>by cases h) ?_;simp only[ccode] at ab;split at ab<;>cases ab;rename_i at' bP eQ ht hx hy;simp only[step] at h;split at h<;>try (cases h;done)
  rename_i eS Mp;have x5:=(st.ctx.ar ht Mp).vL;refine wpIn_cond x5 ?_;cases eS with
  |true=>exact(cb _ _ _ _ _ _ h k r x a w m hx mG st Q b8).1
  |false=>exact(cb _ _ _ _ _ _ h k r y a w m hy mG st Q b8).1
 |block id x=>
  refine s9 (λ_ h=>by cases h) ?_;simp only[ccode] at ab;split at ab<;>cases ab;rename_i bP hx;simp only[step] at h;refine wpIn_block ?_;obtain⟨l,uK,py⟩:=v3 h;refine(cb _ _ _ _ _ _ uK k r x a w m hx mG st _ (λaR eh b2 gb fR a2 bW df fr fP hr=>?_)).1;obtain⟨dJ,eg,eZ⟩:=py _ gb;cases aR with
  |normal=>cases eg;cases fR<;>first|exact fr.elim|exact b8 _ _ _ (eZ _ (kB _)) _ a2 bW df fr fP hr
  |ret=>cases eg;cases fR<;>first|exact fr.elim|exact b8 _ _ _ (eZ _ (kB _)) _ a2 bW df fr fP hr
  |panic v=>cases eg;cases fR<;>first|exact fr.elim|exact b8 _ _ _ (eZ _ (kB _)) _ a2 bW df fr fP hr
  |exit j=>
   cases fR<;>try exact fr.elim
   rename_i sO;have aC:j=sO:=fr;subst aC;have eg:cond (Nat.beq j id) (some [(fN.normal,eh,b2)]) (some [(fN.exit j,eh,b2)])=some dJ:=eg;cases hb:Nat.beq j id with
   |true=>
    rw[hb,cond_true] at eg;cases eg;have:=fX hb;simp only[Exit.inBlock,this,if_true];exact b8 _ _ _ (eZ _ (kB _)) .normal a2 bW df trivial fP hr
   |false=>
    rw[hb,cond_false] at eg;cases eg;have:j≠id:=λhe=>by rw[he,gH] at hb;cases hb
    simp only[Exit.inBlock,this,if_false];exact b8 _ _ _ (eZ _ (kB _)) (.exit j) a2 bW df I fP hr
 |loop x=>
  simp only[ccode] at ab;split at ab<;>cases ab;rename_i bP hx;have hL:uJ (fx r) k P x Q a w:=by
   refine uJ.round ?_;simp only[step] at h;obtain⟨l,uK,py⟩:=v3 h;refine(cb _ _ _ _ _ _ uK k r x a w m hx mG st _ (λaR eh b2 gb fR a2 bW df fr fP hr=>?_)).1;obtain⟨dJ,eg,eZ⟩:=py _ gb;cases aR with
   |normal=>
    cases fR<;>try exact fr.elim
    exact(cb _ _ _ _ _ _ eg k r (.loop x) a2 bW df (by simp only[ccode,hx]) (mG.mono hr.mono) fP Q (trans hr eZ)).2 x I
   |exit id=>cases eg;cases fR<;>first|exact fr.elim|exact b8 _ _ _ (eZ _ (kB _)) _ a2 bW df fr fP hr
   |ret=>cases eg;cases fR<;>first|exact fr.elim|exact b8 _ _ _ (eZ _ (kB _)) _ a2 bW df fr fP hr
   |panic v=>cases eg;cases fR<;>first|exact fr.elim|exact b8 _ _ _ (eZ _ (kB _)) _ a2 bW df fr fP hr
  exact⟨hL.wpIn,λbX he=>by cases he;exact hL⟩
 |scope x=>
  refine s9 (λ_ h=>by cases h) ?_;simp only[ccode] at ab;split at ab<;>cases ab;rename_i bP hx;simp only[step] at h;refine b0G ((cb _ _ _ _ _ _ h k r x a w m hx mG st _ (λaR eh b2 gb fR a2 bW df fr fP hr=>?_)).1);cases fR with
  |goto l=>cases aR<;>exact fr.elim
  |_=>exact b8 _ _ _ gb _ a2 bW df fr fP hr
 |rangeFunc g aE as b=>
  refine s9 (λ_ h=>by cases h) ?_;have fm:=ab;simp only[ccode] at ab;split at ab<;>cases ab;exact b0K _ _ _ _ _ _ _ _ _ h k r _ a w m fm mG st Q b8
end
structure s_(P:Program)(env:Env):Prop where
 funcs:∀g cd,env.funcs g=some cd->∃fn,P.funcs[g]? =some fn/\cfunc P fn=some cd/\(fn.name== "runtime.NumGoroutine")=false
theorem Mq{P:Program}{fn:Func}{cd:aP}(h:cfunc P fn=some cd):∃rs c ac,mapOL (resOf P) fn.results.toList=some rs/\fn.body=some c/\ccode P c=some ac/\cd={kr:=fn.params.size+fn.nfree,ntmps:=fn.ntmps,results:=rs,body:=some ac}:=by
 unfold cfunc at h;split at h<;>try (cases h;done)
 rename_i rs uL;split at h<;>try (cases h;done)
 rename_i c ab;split at h<;>cases h;rename_i ac dW;exact⟨rs,c,ac,uL,ab,dW,rfl⟩
section
variable {P:Program}{env:Env}{B:Nat}{J:ae}{w:World}{m:Nat->Option Nat}
def res1(tmps:Array Value):ResultVar->Sem Value
 | .tmp t=>pure (tmps.getD t undef)
 | .cell a t=>do loadVar t (←asAddr (tmps.getD a undef))
theorem b0L(fn:Func)(tmps:Array Value):results fn tmps=(do let bo <-fn.results.mapM (res1 tmps);pure (if h:bo.size=1 then bo[0] else .tuple bo)):=by
 have:(λ(x:ResultVar)=>(match x with| .tmp t=>pure (tmps.getD t undef)| .cell a t=>(do loadVar t (←asAddr (tmps.getD a undef))):Sem Value))=res1 tmps:=by
  funext x;cases x<;>rfl
 unfold results;rw[<-this];rfl
theorem b0M(al:Rel P J w m B){ao:a1 AV}{tmps:Array Value}(an:iP w m (bp J m) B ao tmps.toList){x:ResultVar}{r:Nat×Option (Option Nat)}(hx:resOf P x=some r){v:AV}(h:resultOf J ao r=some v):
  ∃u,(res1 tmps x).run P w= .ok u w/\R w m (bp J m) B v u:=by
 have getD:∀ {t:Nat} {u:Value},tmps.toList[t]? =some u->tmps.getD t undef=u:=λ{t u} h=>by
  rw[mn] at h;simp[h]
 cases x with
 |tmp t=>
  simp only[resOf,cJ] at hx;subst hx;simp only[resultOf] at h;cases av:ao.get t with
  |none=>simp[av] at h
  |some bM=>
   simp only[av,cJ] at h;subst h;obtain⟨u,hu,jQ⟩:=an.1 _ _ av;exact⟨u,by simp only[res1,getD hu,ik],jQ⟩
 |cell b t=>
  simp only[resOf] at hx;cases h6:shapeOf P t with
  |none=>simp[h6] at hx
  |some aa=>
   simp only[h6,cJ] at hx;subst hx;simp only[resultOf] at h;split at h<;>try (cases h;done)
   ·rename_i aX;cases aX
   ·rename_i id off hz av aX;cases aX;split at h<;>try (cases h;done)
    rename_i c hg;obtain⟨u,hu,jQ⟩:=an.1 _ _ av;obtain⟨aF,hm,rfl⟩:=jQ.vM;obtain⟨cj,h1,h2⟩:=Tk al h6 hm hg h;exact⟨cj,by simp only[res1,getD hu,asAddr,eV,ik,e3,h1],h2⟩
theorem UG(al:Rel P J w m B){ao:a1 AV}{tmps:Array Value}(an:iP w m (bp J m) B ao tmps.toList){fn:Func}{rs:List (Nat×Option (Option Nat))}(hx:mapOL (resOf P) fn.results.toList=some rs){v:AV}(h:resultsOf J ao rs=some v):
  ∃u,(results fn tmps).run P w= .ok u w/\R w m (bp J m) B v u:=by
 have key:∀(l:List ResultVar) (rs:List (Nat×Option (Option Nat))) (bo:List AV),mapOL (resOf P) l=some rs->mapO (resultOf J ao) rs=some bo→
   ∃us:List Value,(l.mapM (res1 tmps)).run P w= .ok us w/\bK w m (bp J m) B bo us:=by
  intro l
  induction l with
  |nil=>
   intro rs bo h1 h2;simp[mapOL] at h1;subst h1;rw[Lj] at h2;cases h2;exact⟨[],aG,bK.nil⟩
  |cons x l aH=>
   intro rs bo h1 h2;rw[mapOL] at h1;split at h1<;>cases h1;rename_i r b0N l7 qB;rw[mapO_cons] at h2;split at h2<;>try (cases h2;done)
   rename_i bM nJ;split at h2<;>cases h2;rename_i sU b0O;obtain⟨u,hu,jQ⟩:=b0M al an l7 nJ;obtain⟨us,lH,b0P⟩:=aH b0N sU qB b0O;exact⟨u::us,by simp only[List.mapM_cons,eV,hu,e3,lH,ik],bK.cons jQ b0P⟩
 have run:∀(bo:List AV),mapO (resultOf J ao) rs=some bo->∃us:List Value,(fn.results.mapM (res1 tmps)).run P w= .ok us.toArray w/\bK w m (bp J m) B bo us:=λbo nG=>by
  obtain⟨us,h1,h2⟩:=key _ _ _ hx nG;refine⟨us,?_,h2⟩;rw[SK];simp only[Sem.run_map,h1,e3]
 unfold resultsOf at h;rw[b0L];split at h<;>cases h
 ·rename_i av;obtain⟨us,h1,h2⟩:=run _ av;have hl:us.length=1:=h2.1;obtain⟨u,rfl⟩:∃u,us=[u]:=by cases us with|nil=>simp at hl|cons u t=>cases t with|nil=>exact⟨u,rfl⟩|cons _ _=>simp at hl
  refine⟨u,?_,h2.2 0 aG aG⟩;simp only[eV,h1,e3,ik];simp
 ·rename_i bo a5 av;obtain⟨us,h1,h2⟩:=run _ av;refine⟨.tuple us.toArray,?_,R.uv h2⟩;have hl:us.length≠1:=λh=>by
   rw[h2.1] at h;cases bo with
   |nil=>simp at h
   |cons v t=>cases t with|nil=>exact a5 v rfl|cons _ _=>simp at h
  simp only[eV,h1,e3,ik];simp[hl]
def oE(w:World)(m:Nat->Option Nat)(O:Nat->Prop)(B:Nat):Option AV->FrameMode->Prop
 |none,.returning=>True
 |some v,.panicking nQ=>∃u,nQ=[{v:=u,recovered:=false}]/\R w m O B v u
 |_,_=>False
theorem oE.ext{f:Nat}{ag:ae}{aw:World}{aW:Nat->Option Nat}{p:Option AV}{u:FrameMode}(h:oE w m (bp J m) B p u)(he:Ext f J w m ag aw aW)(al:Rel P J w m B):oE aw aW (bp ag aW) B p u:=by
 cases p<;>cases u<;>first|exact h|(obtain⟨nc,h1,h2⟩:=h;exact⟨nc,h1,h2.ext he al⟩)
def Mr(P:Program)(env:Env)(B f:Nat)(call:AV->List AV->AV->ae->Option (Bool×ae)):Prop:=
 ∀cr args p J r ag,call cr args (p.getD .fJ) J=some (r,ag)->∀k w m u d,Rel P J w m B->Globs env w B->oE w m (bp J m) B p u->z1 w m (bp J m) B (.inr (cr,args)) d→
  ∃Ms cap g z5,d.target= .fn Ms cap/\(invoke d.target d.args).run P w= .ok (.enter g z5) w∧
   CallsDIn (fx none) k P g z5 u w (λe cj aw=>(∃v,e= .returned v)/\∃aW,oE aw aW (bp ag aW) B (cond r none p) (settle cj)/\Rel P ag aw aW B/\Ext f J w m ag aw aW)
theorem b0Q(f:Nat)(call:AV->List AV->AV->ae->Option (Bool×ae))(p:Option AV)(J:ae):leave f call [] p J=some (p,J):=rfl
theorem leave_cons(f:Nat)(call:AV->List AV->AV->ae->Option (Bool×ae))(d:Nat ⊕ (AV×List AV))(ds:List (Nat ⊕ (AV×List AV)))(p:Option AV)(J:ae):leave f call (d::ds) p J=match d with
  | .inl b=>if Nat.blt b f then none else match J.get b with
   |some .eo=>leave f call ds p (J.set b .dead)
   |_=>none
  | .inr (cr,args)=>match call cr args (p.getD .fJ) J with
   |some (r,J)=>leave f call ds (cond r none p) J
   |none=>none:=rfl
theorem Mt{f:Nat}{call:AV->List AV->AV->ae->Option (Bool×ae)}(qy:Mr P env B f call){fn:Func}{rs:List (Nat×Option (Option Nat))}(hx:mapOL (resOf P) fn.results.toList=some rs){k:Nat}{tmps:Array Value}{ao:a1 AV}:
  ∀(ds:List (Nat ⊕ (AV×List AV))) (uM:List Deferred) (p eJ:Option AV) (u:FrameMode) (J ag:ae) (w:World) (m:Nat->Option Nat),leave f call ds p J=some (eJ,ag)->iR (z1 w m (bp J m) B) ds uM->oE w m (bp J m) B p u→
   Rel P J w m B->iP w m (bp J m) B ao tmps.toList->Globs env w B->∀(ret:et),(match eJ with|some v=>some (et.err v)|none=>(resultsOf ag ao rs).map et.ok)=some ret→
   ∀Q:Ending->World->Prop,(∀e aw aW,rH aw aW (bp ag aW) B ret e->Rel P ag aw aW B->Ext f J w m ag aw aW->Q e aw)->LeavesInM (fx none) k P fn tmps Q uM u w
 |[],uM,p,eJ,u,J,ag,w,m,h,hd,hu,al,an,de,ret,lI,Q,b8=>by
  cases uM with
  |cons _ _=>exact hd.elim
  |nil=>
  rw[b0Q] at h;cases h;cases p with
  |none=>
   cases u<;>try exact hu.elim
   simp only[fq] at lI;obtain⟨v,av,rfl⟩:=lI;obtain⟨v9,h1,h2⟩:=UG al an hx av;exact⟨v9,h1,b8 _ _ m h2 al (Ext.refl _ _ _ _)⟩
  |some v=>
   cases u<;>try exact hu.elim
   simp only[cJ] at lI;subst lI;exact b8 _ _ m hu al (Ext.refl _ _ _ _)
 |d::ds,uM,p,eJ,u,J,ag,w,m,h,hd,hu,al,an,de,ret,lI,Q,b8=>by
  cases uM with
  |nil=>exact hd.elim
  |cons je uM=>
  obtain⟨kO,jk⟩:=hd;have cb:u≠ .run:=λhe=>by subst he;cases p<;>exact hu.elim
  rw[leave_cons] at h;refine⟨cb,?_⟩;cases d with
  |inl b=>
   simp only at h;split at h<;>try (cases h;done)
   rename_i ef;split at h<;>try (cases h;done)
   rename_i hg;obtain⟨aF,hm,rfl⟩:=kO;obtain⟨bU,eg,nM⟩:=al.obj _ _ _ hm hg I;cases nM;left;have hb:=zE eg;obtain⟨l7,gD⟩:=al.dd (f:=f) (by simpa [gQ] using ef) hm ⟨_,hg,rfl⟩ (w.putObj aF (.deferred none)) .dead aG (λb a5=>Um a5) (λn hn=>by unfold eD at hn;rw[eg] at hn;cases hn) rfl rfl rfl (λh=>by cases h);refine⟨aF,w.putObj aF (.deferred none),rfl,run_takeDeferred eg,?_⟩;exact Mt qy hx ds uM p eJ u _ ag _ m h (CU (λ_ _ hd=>hd.ext gD al) jk) (by
    cases p<;>cases u<;>first|exact hu|(obtain⟨nc,h1,h2⟩:=hu;exact⟨nc,h1,h2.ext gD al⟩)) l7 (an.ext gD al) (Globs.ext de gD al) ret lI Q
    (λe aw aW h1 h2 h3=>b8 e aw aW h1 h2 (gD.trans al h3))
  |inr q=>
   obtain⟨cr,args⟩:=q;simp only at h;split at h<;>try (cases h;done)
   rename_i r b2 ab;obtain⟨Ms,cap,g,z5,ht,hinv,x6⟩:=qy cr args p J r b2 ab (k-1) w m u je al de hu kO;right;refine⟨λan=>by simp[fx] at an,Ms,cap,g,z5,ht,hinv,λ_ _=>trivial,?_⟩;refine CallsDIn.mono x6 (λe cj aw dh=>?_);obtain⟨⟨v,rfl⟩,aW,nF,l7,gD⟩:=dh;exact Mt qy hx ds uM _ eJ (settle cj) b2 ag aw aW h (CU (λ_ _ hd=>hd.ext gD al) jk) nF l7 (an.ext gD al) (Globs.ext de gD al) ret lI Q
    (λe aw aW h1 h2 h3=>b8 e aw aW h1 h2 (gD.trans al h3))
end
section
variable {P:Program}{env:Env}{B:Nat}
theorem Mu{g:Nat}{fn:Func}(hf:P.funcs[g]? =some fn){c:Code}(hb:fn.body=some c)(hn:(fn.name== "runtime.NumGoroutine")=false)(cs args:Array Value)(w:World):
  (invoke (.fn (.func g) cs) args).run P w= .ok (.enter g (args++cs)) w:=by
 simp only[beq_eq_false_iff_ne,ne_eq] at hn;have au:(program).run P w= .ok P w:=rfl;simp only[invoke,callFunc,eV,au,e3,hf];simp[hn,hb]
theorem b0R{α:Type}(i:Nat)(t:a1 α):a1.lay [] i t=t:=rfl
theorem b0S{α:Type}(x:α)(l:List α)(i:Nat)(t:a1 α):a1.lay (x::l) i t=a1.lay l (i+1) (t.set i x):=rfl
theorem UH{w:World}{m:Nat->Option Nat}{O:Nat->Prop}:∀(args:List AV) (us:List Value) (i:Nat) (t:a1 AV) (pre:List Value) (n:Nat),bK w m O B args us->pre.length=i→
  iP w m O B t (pre++List.replicate (args.length+n) undef)->iP w m O B (a1.lay args i t) (pre++(us++List.replicate n undef))
 |[],us,i,t,pre,n,ha,au,h=>by
  have:us=[]:=oi (by simpa using ha.1);subst this;rw[b0R];simpa using h
 |x::args,us,i,t,pre,n,ha,au,h=>by
  cases us with
  |nil=>have:=ha.1;simp at this
  |cons u us=>
   rw[b0S];have hx:R w m O B x u:=ha.2 0 aG aG;have Mv:bK w m O B args us:=by simpa using ha.drop 1
   have key:=UH args us (i+1) (t.set i x) (pre++[u]) n Mv (by simp[au]) (by
    have UI:=iP.put (tmps:=(pre++List.replicate ((x::args).length+n) undef).toArray) (by simpa using h) i hx;have aR:((pre++List.replicate ((x::args).length+n) undef).toArray.setIfInBounds i u).toList=(pre++[u])++List.replicate (args.length+n) undef:=by
     simp only[Un];rw[<-au,List.set_append_right _ _ (br _),Cf];have a6:(x::args).length+n=(args.length+n)+1:=by simp;omega
     rw[a6,L9,List.set_cons_zero];simp
    rw[aR] at UI;exact UI)
   simpa using key
theorem b0T{w:World}{m:Nat->Option Nat}{O:Nat->Prop}(n:Nat):iP w m O B (a1.full n ea n) (List.replicate n undef):=by
 refine⟨λi v av=>?_,λi av=>?_⟩
 ·obtain⟨rfl,hi⟩:=a1.F9 _ _ _ _ _ av;exact⟨undef,by simp[hi],R.undef⟩
 ·rcases nC i n with h|h
  ·rw[a1.F8 n n i ea h (br _)] at av;cases av
  ·exact s6 (by simpa using h)
theorem UJ{fn:Func}{cd:aP}(b0U:cd.ntmps=fn.ntmps){J:ae}{w:World}{m:Nat->Option Nat}(al:Rel P J w m B)(de:Globs env w B){args:List AV}(hle:args.length<=fn.ntmps){us:Array Value}(ha:bK w m (bp J m) B args us.toList):
  e4 P env (uo cd args) {tmps:=us++Array.replicate (fn.ntmps-us.size) undef,defers:=[]} J w m B:=by
 refine⟨⟨al,?_,de⟩,trivial⟩;have hl:us.size=args.length:=by have:=ha.1;simpa using this
 simp only[uo,L_,Array.toList_replicate,b0U,hl];have:=UH args us.toList 0 (a1.full fn.ntmps ea fn.ntmps) [] (fn.ntmps-args.length) ha I (by
  have e:args.length+(fn.ntmps-args.length)=fn.ntmps:=by omega
  rw[e];simpa using b0T fn.ntmps)
 simpa using this
theorem Mw(gM:s_ P env){run:jf}(cb:qA P env B run){f:Nat}(hd:Mr P env B f (callD env f)){g:Nat}{args:List AV}{J:ae}{kd:List (et×ae)}(h:runF env run f g args J=some kd)(k:Nat)(r:Option Nat)
  {w:World} {m:Nat->Option Nat} (al:Rel P J w m B) (de:Globs env w B) {us:Array Value} (ha:bK w m (bp J m) B args us.toList):
  (∃fn c,P.funcs[g]? =some fn/\fn.body=some c/\(fn.name== "runtime.NumGoroutine")=false)∧
  CallsIn (fx r) k P g us w (λe aw=>∃ret ag,(ret,ag)∈kd/\∃aW,rH aw aW (bp ag aW) B ret e/\Rel P ag aw aW B/\Ext f J w m ag aw aW):=by
 unfold runF at h;cases hg:env.funcs g with
 |none=>simp[hg] at h
 |some cd=>
  obtain⟨fn,hfn,iu,x7⟩:=gM.funcs g cd hg;obtain⟨rs,c,ac,uL,x8,dW,rfl⟩:=Mq iu;simp only[hg] at h;refine⟨⟨fn,c,hfn,x8,x7⟩,?_⟩;cases hb:(Nat.beq args.length (fn.params.size+fn.nfree)&&Nat.ble args.length fn.ntmps) with
  |false=>rw[hb] at h;cases h
  |true=>
   rw[hb,cond_true] at h;simp only[du,L7] at hb;obtain⟨l,hex,py⟩:=v3 h;have cn:=UJ (fn:=fn) (cd:={kr:=fn.params.size+fn.nfree,ntmps:=fn.ntmps,results:=rs,body:=some ac}) I al de hb.2 ha;show CallsIn (fx none) k P g us w _;refine callsIn_of_wp_marks hfn x8 trivial ((cb _ _ _ _ _ _ hex k none c _ w m dW trivial cn _ (λe eh b2 gb fR a2 bW df fr fP hr=>?_)).1);obtain⟨dJ,eg,eZ⟩:=py _ gb;have fin:∀(eJ:Option AV) (cT:ae) (ret:et),leave f (callD env f) eh.defers (F4 e) b2=some (eJ,cT)->(match eJ with|some v=>some (et.err v)|none=>(resultsOf cT eh.bf rs).map et.ok)=some ret->(ret,cT)∈kd→
     ∀u,oE bW df (bp b2 df) B (F4 e) u->LeavesInM (fx none) k P fn a2.tmps (λe aw=>∃ret ag,(ret,ag)∈kd/\∃aW,rH aw aW (bp ag aW) B ret e/\Rel P ag aw aW B/\Ext f J w m ag aw aW) a2.defers u bW:=λeJ cT ret hl lI jR u hu=>
    Mt hd uL _ _ _ _ _ _ _ _ _ hl fP.defs hu fP.ctx.rel fP.ctx.bf fP.ctx.globs ret lI _ (λe aw aW h1 h2 h3=>⟨ret,cT,jR,aW,h1,h2,hr.trans al h3⟩)
   have go:(∀id,e≠ .exit id)->∀u,oE bW df (bp b2 df) B (F4 e) u->LeavesInM (fx none) k P fn a2.tmps (λe aw=>∃ret ag,(ret,ag)∈kd/\∃aW,rH aw aW (bp ag aW) B ret e/\Rel P ag aw aW B/\Ext f J w m ag aw aW) a2.defers u bW:=λa5 u hu=>by
    unfold endF at eg;split at eg
    ·rename_i he;cases he;exact absurd I (a5 _)
    rename_i dS bc ag gD nb;cases nb;split at eg<;>try (cases eg;done)
    ·rename_i mB;cases eg;exact fin _ _ _ mB I (eZ _ (kB _)) u hu
    ·rename_i mB;split at eg<;>cases eg;rename_i dh;exact fin _ _ _ mB (by simp[dh]) (eZ _ (kB _)) u hu
   cases e with
   |exit id=>cases eg
   |normal=>cases fR<;>first|exact fr.elim|exact go (λ_ h=>by cases h) _ trivial
   |ret=>cases fR<;>first|exact fr.elim|exact go (λ_ h=>by cases h) _ trivial
   |panic v=>cases fR<;>first|exact fr.elim|exact go (λ_ h=>by cases h) _ fr
end
def wpListS(F:Fence)(n:Nat)(P:Program)(ops:Array Oper)(Q:Exit->Act->List Frame->World->Prop):List Oper->Act->List Frame->World->Prop
 |[],a,cs,w=>Q .normal a cs w
 |o::rest,a,cs,w=>
   (∀f,o.about P w a.eval=some f->F.fn f)∧
   if Region.wanted o (yielded ops a.tmps) then
    match(execOp a.eval o).run P w with
    | .ok .recover aw=>
     match recoverD cs with
     |some (v,fv)=>wpListS F n P ops Q rest (a.put o.dst v) fv aw
     |none=>wpListS F n P ops Q rest (a.put o.dst .nilIface) cs aw
    | .ok (.value v) aw=>wpListS F n P ops Q rest (a.put o.dst v) cs aw
    | .ok .skip aw=>wpListS F n P ops Q rest (a.put o.dst undef) cs aw
    | .halt (.panic v) aw=>Q (.panic [{v,recovered:=false}]) a cs aw
    |_=>False
   else wpListS F n P ops Q rest (a.put o.dst undef) cs w
theorem b0V{F:Fence}{n:Nat}{P:Program}{ops:Array Oper}{Q:Exit->Act->List Frame->World->Prop}(l:List Oper):∀k,(∀j,l[j]? =ops[k+j]?)->∀a cs w,wpListS F n P ops Q l a cs w->wpOpsSIn F n P ops Q (List.range' k l.length) a cs w:=by
 induction l with
 |nil=>intro k _ a cs w h;simpa [wpOpsSIn,wpListS] using h
 |cons o l aH=>
  intro k h a cs w hh;have h0:ops[k]? =some o:=by simpa using (h 0).symm
  have C2:=aH (k+1) (λj=>by have:=h (j+1);simpa [vG,uf 1 j] using this);simp only[gp,List.range'_succ,wpOpsSIn,h0];simp only[wpListS] at hh;refine⟨hh.1,?_⟩;have hh:=hh.2;split at hh
  ·rename_i hw;rw[if_pos hw];split at hh
   ·rename_i al;simp only[al];split at hh
    ·rename_i C3;simp only[C3];exact C2 _ _ _ hh
    ·rename_i C3;simp only[C3];exact C2 _ _ _ hh
   ·rename_i al;simp only[al];exact C2 _ _ _ hh
   ·rename_i al;simp only[al];exact C2 _ _ _ hh
   ·rename_i al;simp only[al];exact hh
   ·exact hh.elim
  ·rename_i hw;rw[if_neg hw];exact C2 _ _ _ hh
theorem b0W{F:Fence}{n:Nat}{P:Program}{id:Nat}{ops:Array Oper}{Q:Exit->Act->List Frame->World->Prop}{a:Act}{cs:List Frame}{w:World}(h:wpListS F n P ops Q ops.toList a cs w):(Code.region id ops false).wpSIn F n P Q a cs w:=
 wpSIn_region (by rw[List.range_eq_range',← sF];exact b0V _ 0 aG _ _ _ h)
def C4:FrameMode->FrameMode
 | .panicking [{v,..}]=>.panicking [{v,recovered:=true}]
 |u=>u
section
variable {P:Program}{env:Env}{B:Nat}
def v_(l8:Frame)(cs:List Frame)(u:FrameMode)(fS:Bool)(fv:List Frame):Prop:=fv={l8 with mode:=if fS then C4 u else u}::cs
theorem b0X{o:Oper}(h:cop P o=some .recover)(a:Act)(w:World):(execOp a.eval o).run P w= .ok .recover w:=by
 unfold cop at h;split at h
 all_goals first
  |(cases h;done)
  |(simp only[fq,reduceCtorEq,and_false,exists_false] at h;done)
  |(simp only[en,dP,eK,cJ,reduceCtorEq,and_false,exists_false] at h;done)
  |skip
 all_goals first
  |(
    rename_i ho;split at h
    all_goals first
     |(cases h;done)
     |(rw[Gv ho];simp[builtin];done)
     |(
      exfalso
      repeat' first
       |(cases h;done)
       |(simp only[fq,reduceCtorEq,and_false,exists_false] at h;done)
       |(simp only[en,dP,eK,cJ,reduceCtorEq,and_false,exists_false] at h;done)
       |split at h
       |(obtain⟨_,_,h⟩:=h)
       |(simp only[en,dP,eK,cJ] at h)))
  |(
    exfalso
    repeat' first
     |(cases h;done)
     |(simp only[fq,reduceCtorEq,and_false,exists_false] at h;done)
     |(simp only[en,dP,eK,cJ,reduceCtorEq,and_false,exists_false] at h;done)
     |split at h
     |(obtain⟨_,_,h⟩:=h)
     |(simp only[en,dP,eK,cJ] at h))
theorem UK{f:Nat}{p:Option AV}{u:FrameMode}{l8:Frame}{cs:List Frame}{ops:Array Oper}{k:Nat}:
  ∀(ol:List Oper) (cB:List a3) (ad bc:Fr) (J ag:ae) (e:fN) (a:Act) (w:World) (m:Nat->Option Nat) (iT:List Frame),mapOL (coper P ops) ol=some cB→
   rq env f (λ_ _ _=>none) (some (p.getD .fJ)) false cB ad J=some (e,bc,ag)->e4 P env ad a J w m B->oE w m (bp J m) B p u->v_ l8 cs u ad.fS iT→
   ∀Q:Exit->Act->List Frame->World->Prop,(∀x cL fv aw aW,ExR aw aW (bp ag aW) B e x->e4 P env bc cL ag aw aW B->Ext f J w m ag aw aW->v_ l8 cs u bc.fS fv->Q x cL fv aw)->wpListS (fx none) k P ops Q ol a iT w
 |[],cB,ad,bc,J,ag,e,a,w,m,iT,hm,h,st,hu,hd,Q,b8=>by
  simp[mapOL] at hm;subst hm;rw[b0x] at h;cases h;exact b8 .normal a iT w m trivial st (Ext.refl _ _ _ _) hd
 |o::ol,cB,ad,bc,J,ag,e,a,w,m,iT,hm,h,st,hu,hd,Q,b8=>by
  rw[mapOL] at hm;split at hm<;>cases hm;rename_i aZ CX ho qn;obtain⟨eb,jj⟩:=GA ho;rw[runOpsD_cons] at h;rw[wpListS,Gy ho st.ctx.bf];refine⟨λ_ _=>trivial,?_⟩;have next:∀ {eh:Fr} {a2:Act} {b2:ae} {bW:World} {df:Nat->Option Nat} {rL:List Frame},rq env f (λ_ _ _=>none) (some (p.getD .fJ)) false CX eh b2=some (e,bc,ag)->e4 P env eh a2 b2 bW df B->Ext f J w m b2 bW df->v_ l8 cs u eh.fS rL->wpListS (fx none) k P ops Q ol a2 rL bW:=
   λ{eh a2 b2 bW df rL} h1 hq dI kO=>UK ol CX eh bc b2 ag e a2 bW df rL qn h1 hq (hu.ext dI st.ctx.rel) kO Q (λx cL fv aw aW hx cn hex=>b8 x cL fv aw aW hx cn (dI.trans st.ctx.rel hex))
  have z6:∀(ad:Fr) d v,(ad.put d v).fS=ad.fS:=λad d v=>by cases d<;>rfl
  cases hw:wantedA aZ.guard ad.bf with
  |false=>
   rw[hw,cond_false] at h;simp only[rj,if_false];refine next h ?_ (Ext.refl _ _ _ _) (by rw[z6];exact hd)
   rw[jj];exact st.put _ R.undef
  |true=>
   rw[hw,cond_true] at h;simp only[if_true];split at h
   ·-- recover
    rename_i C3;simp only at h;have cb:=b0X (P:=P) (CW (eb.symm.trans C3) aG) a w;rw[cb];simp only;unfold v_ at hd;subst hd;have Mx:e4 P env ⟨ad.bf,ad.defers,true⟩ a J w m B:=⟨st.ctx,st.defs⟩
    cases al:ad.fS with
    |true=>
     rw[al] at h;have uu:recoverD ({l8 with mode:=if true=true then C4 u else u}::cs)=none:=by
      cases p<;>cases u<;>first|exact hu.elim|rfl|(obtain⟨nc,rfl,_⟩:=hu;rfl)
     rw[uu];simp only;have lJ:=Mx.put aZ.dst (v:=.fJ) (u:=.nilIface) R.fJ;rw[jj] at lJ h;exact next h lJ (Ext.refl _ _ _ _) (by rw[z6];rfl)
    |false=>
     rw[al] at h;cases p with
     |none=>
      cases u<;>try exact hu.elim
      have uu:recoverD ({l8 with mode:=if false=true then C4 .returning else .returning}::cs)=none:=rfl;rw[uu];simp only;have lJ:=Mx.put aZ.dst (v:=.fJ) (u:=.nilIface) R.fJ;rw[jj] at lJ h;exact next h lJ (Ext.refl _ _ _ _) (by rw[z6];rfl)
     |some v=>
      cases u<;>try exact hu.elim
      obtain⟨nc,rfl,jQ⟩:=hu;have LN:recoverD ({l8 with mode:=if false=true then C4 (.panicking [{v:=nc,recovered:=false}]) else .panicking [{v:=nc,recovered:=false}]}::cs)=some (nc,{l8 with mode:=.panicking [{v:=nc,recovered:=true}]}::cs):=rfl;rw[LN];simp only;have lJ:=Mx.put aZ.dst jQ;rw[jj] at lJ h;exact next h lJ (Ext.refl _ _ _ _) (by rw[z6];rfl)
   ·rename_i op a5;generalize Ml:aZ.op=cH at h eb;have ab:∀res,opx f (evalA env ad.bf) J cH=some res->cop P o=some cH:=λres dh=>CW eb.symm (λhb=>by subst hb;simp[opx] at dh);split at h
    ·rename_i v b2 hx;obtain⟨v9,bW,df,cb,hR,nR,dI⟩:=z0 st.ctx (ab _ hx) hx;have cn:=(st.ext dI nR).put aZ.dst hR;rw[jj] at cn h;rcases cb with cb|⟨cb,rfl⟩
     ·rw[cb];exact next h cn dI (by rw[z6];exact hd)
     ·rw[cb];exact next h cn dI (by rw[z6];exact hd)
    ·cases h
    ·simp at h
    ·rename_i v hx;cases h;obtain⟨x,t,nc,rfl,qz,rfl⟩:=UB hx;obtain⟨oD,Mo,v8⟩:=Uz (ab _ hx);have rI:=st.ctx.ar Mo qz;obtain⟨cj,sX⟩:∃cj,a.eval oD= .iface t cj:=by
      revert rI;generalize a.eval oD=nc;intro rI;cases rI;exact⟨_,rfl⟩
     have cb:=UA (P:=P) v8 sX w;rw[cb];rw[sX] at rI;exact b8 _ _ _ _ m ⟨_,rfl,rI⟩ st (Ext.refl _ _ _ _) hd
    ·cases h
    ·cases h
theorem runD_ok{f:Nat}{p:Option AV}{u:FrameMode}{l8:Frame}{cs:List Frame}{k:Nat}:
  ∀(c:Code) (ac:bO) (ad bc:Fr) (J ag:ae) (e:fN) (a:Act) (w:World) (m:Nat->Option Nat) (iT:List Frame),ccode P c=some ac→
   vI env f (p.getD .fJ) ac ad J=some (e,bc,ag)->e4 P env ad a J w m B->oE w m (bp J m) B p u->v_ l8 cs u ad.fS iT→
   ∀Q:Exit->Act->List Frame->World->Prop,(∀x cL fv aw aW,ExR aw aW (bp ag aW) B e x->e4 P env bc cL ag aw aW B->Ext f J w m ag aw aW->v_ l8 cs u bc.fS fv->Q x cL fv aw)->c.wpSIn (fx none) k P Q a iT w:=by
 intro c
 induction c with
 |skip=>
  intro ac ad bc J ag e a w m iT ab h st hu hd Q b8;simp only[ccode,cJ] at ab;subst ab;have h':some (fN.normal,ad,J)=some (e,bc,ag):=h;cases h';exact wpSIn_of_wpIn I (wpIn_skip (b8 .normal a iT w m trivial st (Ext.refl _ _ _ _) hd))
 |ret=>
  intro ac ad bc J ag e a w m iT ab h st hu hd Q b8;simp only[ccode,cJ] at ab;subst ab;have h':some (fN.ret,ad,J)=some (e,bc,ag):=h;cases h';exact wpSIn_of_wpIn I (wpIn_ret (b8 .ret a iT w m trivial st (Ext.refl _ _ _ _) hd))
 |label l=>
  intro ac ad bc J ag e a w m iT ab h st hu hd Q b8;simp only[ccode,cJ] at ab;subst ab;have h':some (fN.normal,ad,J)=some (e,bc,ag):=h;cases h';exact wpSIn_of_wpIn I (wpIn_label (b8 .normal a iT w m trivial st (Ext.refl _ _ _ _) hd))
 |region id ops dz=>
  intro ac ad bc J ag e a w m iT ab h st hu hd Q b8;cases dz with
  |true=>
   simp only[ccode] at ab;split at ab<;>cases ab<;>(have h':none=some (e,bc,ag):=h;cases h')
  |false=>
   simp only[ccode] at ab;split at ab<;>cases ab
   ·rename_i l hl;have h':rq env f (λ_ _ _=>none) (some (p.getD .fJ)) false l ad J=some (e,bc,ag):=h;exact b0W (UK _ _ _ _ _ _ _ _ _ _ _ hl h' st hu hd Q b8)
   ·have h':none=some (e,bc,ag):=h;cases h'
 |seq x y GB GC=>
  intro ac ad bc J ag e a w m iT ab h st hu hd Q b8;simp only[ccode] at ab;split at ab<;>cases ab;rename_i bP eQ hx hy;have h':(match vI env f (p.getD .fJ) bP ad J with|some (.normal,ad,J)=>vI env f (p.getD .fJ) eQ ad J|r=>r)=some (e,bc,ag):=h;refine wpSIn_seq ?_;cases uK:vI env f (p.getD .fJ) bP ad J with
  |none=>simp[uK] at h'
  |some res=>
   obtain⟨aR,eh,b2⟩:=res;simp only[uK] at h';refine GB bP ad eh J b2 aR a w m iT hx uK st hu hd _ (λfR a2 rL bW df fr fP hr kO=>?_);cases aR with
   |normal=>
    cases fR<;>try exact fr.elim
    exact GC eQ eh bc b2 ag e a2 bW df rL hy h' fP (hu.ext hr st.ctx.rel) kO Q (λx cL fv aw aW h1 h2 h3 aQ=>b8 x cL fv aw aW h1 h2 (hr.trans st.ctx.rel h3) aQ)
   |exit id=>cases h';cases fR<;>first|exact fr.elim|exact b8 _ a2 rL bW df fr fP hr kO
   |ret=>cases h';cases fR<;>first|exact fr.elim|exact b8 _ a2 rL bW df fr fP hr kO
   |panic v=>cases h';cases fR<;>first|exact fr.elim|exact b8 _ a2 rL bW df fr fP hr kO
 |cond t x y GB GC=>
  intro ac ad bc J ag e a w m iT ab h st hu hd Q b8;simp only[ccode] at ab;split at ab<;>cases ab;rename_i at' bP eQ ht hx hy;have h':(match evalA env ad.bf at' with|some (.b t)=>cond t (vI env f (p.getD .fJ) bP ad J) (vI env f (p.getD .fJ) eQ ad J)|_=>none)=some (e,bc,ag):=h;split at h'<;>try (cases h';done)
  rename_i eS Mp;have x5:=(st.ctx.ar ht Mp).vL;refine wpSIn_cond x5 ?_;cases eS with
  |true=>exact GB bP ad bc J ag e a w m iT hx h' st hu hd Q b8
  |false=>exact GC eQ ad bc J ag e a w m iT hy h' st hu hd Q b8
 |block id x aH=>
  intro ac ad bc J ag e a w m iT ab h st hu hd Q b8;simp only[ccode] at ab;split at ab<;>cases ab;have h':none=some (e,bc,ag):=h;cases h'
 |loop x aH=>
  intro ac ad bc J ag e a w m iT ab h st hu hd Q b8;simp only[ccode] at ab;split at ab<;>cases ab;have h':none=some (e,bc,ag):=h;cases h'
 |scope x aH=>
  intro ac ad bc J ag e a w m iT ab h st hu hd Q b8;simp only[ccode] at ab;split at ab<;>cases ab;have h':none=some (e,bc,ag):=h;cases h'
 |rangeFunc g aE x y GB GC=>
  intro ac ad bc J ag e a w m iT ab h st hu hd Q b8;simp only[ccode] at ab;split at ab<;>cases ab;have h':none=some (e,bc,ag):=h;cases h'
 |exit id=>
  intro ac ad bc J ag e a w m iT ab h st hu hd Q b8;simp only[ccode,cJ] at ab;subst ab;have h':none=some (e,bc,ag):=h;cases h'
 |goto l=>
  intro ac ad bc J ag e a w m iT ab h st hu hd Q b8;simp only[ccode,cJ] at ab;subst ab;have h':none=some (e,bc,ag):=h;cases h'
 |refuse l=>
  intro ac ad bc J ag e a w m iT ab h st hu hd Q b8;simp only[ccode,cJ] at ab;subst ab;have h':none=some (e,bc,ag):=h;cases h'
theorem b0Y{J:ae}{w:World}{m:Nat->Option Nat}{O:Nat->Prop}{p:Option AV}{u:FrameMode}(h:oE w m O B p u)(r:Bool):oE w m O B (cond r none p) (settle (if r then C4 u else u)):=by
 cases p with
 |none=>cases u<;>first|exact h.elim|(cases r<;>trivial)
 |some v=>
  cases u<;>try exact h.elim
  obtain⟨nc,rfl,hR⟩:=h;cases r with
  |true=>trivial
  |false=>exact⟨nc,rfl,hR⟩
theorem My(gM:s_ P env)(f:Nat):Mr P env B f (callD env f):=by
 intro cr args p J r ag h k w m u d al de hu hd;obtain⟨g,a8,cs,gR,fv,us,rfl,rfl,Mz,MA,lH⟩:=hd;unfold callD at h;simp only at h;split at h<;>try (cases h;done)
 rename_i cd hg;obtain⟨fn,hfn,iu,x7⟩:=gM.funcs g cd hg;obtain⟨rs,c,ac,uL,x8,dW,rfl⟩:=Mq iu;simp only at h;cases hb:(Nat.beq (a8++args++cs).length (fn.params.size+fn.nfree)&&Nat.ble (a8++args++cs).length fn.ntmps) with
 |false=>rw[hb] at h;cases h
 |true=>
  rw[hb,cond_true] at h;simp only[du,L7] at hb;have hinv:=Mu (P:=P) hfn x8 x7 fv (gR++us) w;have px:bK w m (bp J m) B (a8++args++cs) (gR++us++fv).toList:=by
   simp only[L_];exact(Mz.append lH).append MA
  have cn:=UJ (fn:=fn) (cd:={kr:=fn.params.size+fn.nfree,ntmps:=fn.ntmps,results:=rs,body:=some ac}) I al de hb.2 px;refine⟨_,_,g,_,rfl,hinv,?_⟩;refine callsDIn_of_wpSIn hfn x8 trivial (λl8 oF b0Z=>?_);have k_:v_ l8 oF u false (l8::oF):=by
   unfold v_;simp only[rj,if_false];rw[<-b0Z]
  have fin:∀(e:fN) (eh:Fr) (b2:ae),vI env f (p.getD .fJ) ac (uo {kr:=fn.params.size+fn.nfree,ntmps:=fn.ntmps,results:=rs,body:=some ac} (a8++args++cs)) J=some (e,eh,b2)->(e= .normal\/e= .ret)->eh.defers=[]->(∃v,resultsOf b2 eh.bf rs=some v)->r=eh.fS->ag=b2→
    c.wpSIn (fx none) k P (bodyPostS P fn l8 oF (λe cj aw=>(∃v,e= .returned v)/\∃aW,oE aw aW (bp ag aW) B (cond r none p) (settle cj)/\Rel P ag aw aW B/\Ext f J w m ag aw aW)) {tmps:=gR++us++fv++Array.replicate (fn.ntmps-(gR++us++fv).size) undef,defers:=[]} (l8::oF) w:=by
   rintro e eh b2 cb he b1a ⟨v,dh⟩ rfl rfl;refine runD_ok c ac _ eh J ag e _ w m _ dW cb cn hu k_ _ (λx a2 rL bW df fr fP hr kO=>?_);have C5:a2.defers=[]:=by
    have:=fP.defs;rw[b1a] at this;cases aX:a2.defers with
    |nil=>rfl
    |cons _ _=>rw[aX] at this;exact this.elim
   obtain⟨v9,jQ,_⟩:=UG (fn:=fn) fP.ctx.rel fP.ctx.bf uL dh;have UL:a2.defers=[]/\∃cj,rL={l8 with mode:=cj}::oF/\∃v,(results fn a2.tmps).run P bW= .ok v bW/\((∃bM,Ending.returned v= .returned bM)/\∃aW,oE bW aW (bp ag aW) B (cond eh.fS none p) (settle cj)/\Rel P ag bW aW B/\Ext f J w m ag bW aW):=
    ⟨C5,_,kO,v9,jQ,⟨v9,rfl⟩,df,b0Y (J:=ag) (hu.ext hr al) eh.fS,fP.ctx.rel,hr⟩
   rcases he with rfl|rfl
   ·cases x<;>first|exact fr.elim|exact UL
   ·cases x<;>first|exact fr.elim|exact UL
  split at h<;>try (cases h;done)
  ·rename_i eh b2 cb;split at h<;>cases h;rename_i kO dh;exact fin .normal eh ag cb (.inl I) kO ⟨_,dh⟩ I I
  ·rename_i eh b2 cb;split at h<;>cases h;rename_i kO dh;exact fin .ret eh ag cb (.inr I) kO ⟨_,dh⟩ I I
end
theorem UM{w:World}{b n:Nat}(h:eD w b=some n):b<w.heap.size:=by
 rcases nC b w.heap.size with h1|h1
 ·exact h1
 ·simp[eD,zt h1] at h
theorem UN(J:ae)(base:Nat)(v:AV):freeze J base 0 v=none:=rfl
theorem freeze_succ(J:ae)(base n:Nat)(v:AV):freeze J base (n+1) v=match v with
  | .ao id off len aa cap=>if Nat.blt id base then none else
   match readList J (.ao id off len aa cap) with
   |none=>none
   |some xs=>match mapO (freeze J base n) xs with|none=>none|some xs=>some (.a_ false aa xs)
  | .ah l=>match mapO (freeze J base n) l with|none=>none|some l=>some (.ah l)
  | .a9 l=>match mapO (freeze J base n) l with|none=>none|some l=>some (.a9 l)
  | .it t v=>match freeze J base n v with|none=>none|some v=>some (.it t v)
  | .p (some _)=>none
  | .m (some _)=>none
  | .f _ _ _=>none
  |v=>some v:=rfl
theorem UO{J:ae}{base:Nat}{aa:Option Nat}:∀ {n:Nat} {v bM:AV},freeze J base n v=some bM->conf aa v=true->conf aa bM=true
 |0,v,bM,h,_=>by rw[UN] at h;cases h
 |n+1,v,bM,h,ab=>by
  rw[freeze_succ] at h;split at h
  ·split at h<;>try (cases h;done)
   split at h<;>try (cases h;done)
   split at h<;>cases h;cases aa<;>simp[conf] at ab ⊢
  ·split at h<;>cases h;rename_i l ct hl;have:=(ov hl).1;cases aa with
   |none=>simp[conf] at ab
   |some k=>simp[conf] at ab ⊢;omega
  ·split at h<;>cases h;cases aa<;>simp[conf] at ab
  ·split at h<;>cases h;cases aa<;>simp[conf] at ab ⊢
  ·cases h
  ·cases h
  ·cases h
  ·cases h;exact ab
section
variable {P:Program}{J:ae}{w:World}{m:Nat->Option Nat}{B:Nat}
theorem R.UP{O:Nat->Prop}{v:AV}{aa:Option Nat}(ab:conf aa v=true){us:List Value}(h:bK w m O B v.cells us)(hf:∀x∈v.cells,conf none x=true):∃u,R w m O B v u/\u.cells.toList=us:=by
 cases aa with
 |none=>
  have av:v.cells=[v]:=by cases v<;>simp[conf] at ab<;>rfl
  rw[av] at h;have hl:us.length=1:=h.1;obtain⟨u,rfl⟩:∃u,us=[u]:=by cases us with|nil=>simp at hl|cons u t=>cases t with|nil=>exact⟨u,rfl⟩|cons _ _=>simp at hl
  have al:=h.2 0 aG aG;simp at al;refine⟨u,al,?_⟩;have:=al.cells;cases al with
  |y h=>rcases h.alt with⟨_,_,rfl⟩|⟨_,rfl⟩<;>rfl
  |gi hu h=>subst hu;rfl
  |_=>first|rfl|(simp[conf] at ab)
 |some n=>
  cases v<;>simp[conf] at ab;rename_i l;exact⟨.agg us.toArray,R.m8 h hf,by simp[Value.cells]⟩
theorem MB{dg:ae}{fo:World}{e0:Nat->Option Nat}(oC:Rel P dg fo e0 B)(al:Rel P J w m B)(he:Ext dg.next dg fo e0 J w m):
  ∀(n:Nat) (v bM:AV) (u:Value),freeze J dg.next n v=some bM->R w m (bp J m) B v u->R w (λ_=>none) (bp dg e0) B bM u
 |0,v,bM,u,h,_=>by rw[UN] at h;cases h
 |n+1,v,bM,u,h,av=>by
  have cp:∀aF,bp dg e0 aF->bp J m aF:=λaF ⟨id,h1,o,h2,h3⟩=>⟨id,he.mono _ _ h1,o,by rw[he.low id (oC.fU _ _ h1).2 (oC.fU _ _ h1).2];exact h2,h3⟩
  have aH:=λv bM u h av=>MB oC al he n v bM u h av;have jB:∀ {v:AV} {u:Value},R w (λ_=>none) (bp J m) B v u->R w (λ_=>none) (bp dg e0) B v u:=λh=>h.mono (λ_ _ h=>h) (br _) (λ_ _ h=>h) (λb _ hb=>⟨rfl,λho=>hb (cp b ho)⟩);have list:∀ {l ct:List AV} {us:List Value},mapO (freeze J dg.next n) l=some ct->bK w m (bp J m) B l us->bK w (λ_=>none) (bp dg e0) B ct us:=λ{l ct us} hl lH=>by
   obtain⟨h1,h2⟩:=ov hl;refine⟨by rw[lH.1,h1],λi hi dc=>?_⟩;exact aH _ _ _ (h2 i U hi) (lH.2 i U dc)
  rw[freeze_succ] at h;split at h
  ·-- a slice over uk c5G own part
   rename_i id off len aa cap;split at h<;>try (cases h;done)
   rename_i Gr;split at h<;>try (cases h;done)
   rename_i xs dH;split at h<;>cases h;rename_i pz x9;have c5H:dg.next<=id:=by simpa [gQ] using Gr
   have uF:∀a∈xs,conf aa a=true:=by
    simp only[readList] at dH;split at dH<;>try (cases dH;done)
    rename_i c hg;cases av with
    |ao hm hl hk hn mw=>
     obtain⟨arr,el,bt,hh,nK,uw,bb,kK⟩:=al.cells hm hg;exact(zL (λx hx=>kK x (og hx)) dH).2.2.2
   have hlen:xs.length=len:=by
    simp only[readList] at dH;split at dH<;>try (cases dH;done)
    rename_i c hg;cases av with
    |ao hm hl hk hn mw=>
     obtain⟨arr,el,bt,hh,nK,uw,bb,kK⟩:=al.cells hm hg;exact(zL (λx hx=>kK x (og hx)) dH).1
   obtain⟨h1,h2⟩:=ov x9;obtain⟨base,c,us,hu,hle,zO,xQ,kx,nH⟩:=CD al av dH uF;cases av with
   | @ao _ _ _ _ _ _ aF iE fZ _ _ hm hl hk hn mw=>
    cases hu;simp only at nH;have jx:¬bp dg e0 aF/\B<=aF:=by
     refine⟨λho=>?_,al.base _ _ hm⟩;rcases he.new _ _ hm with h3|⟨_,h3|⟨i,hi,aQ,bF⟩⟩
     ·have:=(oC.fU _ _ h3).2;omega
     ·have:=oC.Te ho;omega
     ·have:=Tf bF;omega
    have hmul:∀i,i<xs.length->i*shN aa+shN aa<=xs.length*shN aa:=λi hi=>by
     have:=rk (shN aa) (show i+1<=xs.length from hi);rw[jL,qb] at this;exact this
    have zM:∀(l:List AV),(∀a∈l,conf aa a=true)->∀i (hi:i<l.length),(l[i]).cells=((l.flatMap AV.cells).drop (i*shN aa)).take (shN aa):=by
     intro l
     induction l with
     |nil=>intro _ i hi;simp at hi
     |cons x l g0=>
      intro hl i hi;have hx:=uA (hl x aG);cases i with
      |zero=>simp[lC,hx]
      |succ i=>
       have:=g0 (λa ha=>hl a (by simp[ha])) i (by simpa using hi);rw[FR,this,lC,List.drop_append];have aR:(i+1)*shN aa-x.cells.length=i*shN aa:=by rw[hx,jL,qb];omega
       have a6:x.cells.drop ((i+1)*shN aa)=[]:=Ma (by rw[hx,jL,qb];omega);rw[aR,a6,vW]
    have elem:∀i (hi:i<xs.length) (dc:i<pz.length),bK w (λ_=>none) (bp dg e0) B (pz[i]).cells ((us.drop (i*shN aa)).take (shN aa))/\conf aa (pz[i])=true/\∀x∈(pz[i]).cells,conf none x=true:=λi hi dc=>by
     have l9:=uF _ (bJ hi);have lK:∀x∈(xs[i]).cells,conf none x=true:=λx hx=>kx x (zu.2 ⟨_,bJ hi,hx⟩);have MC:bK w m (bp J m) B (xs[i]).cells ((us.drop (i*shN aa)).take (shN aa)):=by
      rw[zM xs uF i hi];exact(zO.drop _).take _
     obtain⟨b1b,MD,ME⟩:=R.UP l9 MC lK;have bC:=aH _ _ _ (h2 i hi dc) MD;have h_:=UO (h2 i hi dc) l9;have:=bC.cells;rw[ME] at this;exact⟨this,h_,bC.leafs h_⟩
    have eZ:∀i,i<pz.length->∀j,j<shN aa->∃aC:i*shN aa+j<us.length,((us.drop (i*shN aa)).take (shN aa))[j]? =some (us[i*shN aa+j]):=λi hi j aC=>by
     have:=hmul i U;refine⟨U,?_⟩;rw[p_ aC,sH,cK U]
    rw[<-h1];refine .a_ (λi j=>(us[i*shN aa+j]?).getD undef) (λ_=>⟨jx.1,UM hn,λ_=>jx.2⟩) (λi hi=>(elem i U hi).2.1) (λi hi j aC=>?_) (λi hi j aC=>?_) U (λv av=>?_) (λ_=>rfl)
    ·have fw:j<shN aa:=by rw[uA (elem i U hi).2.1] at aC;exact aC
     obtain⟨hlt,_⟩:=eZ i hi j fw;have:=nH.2.1 (i*shN aa+j) _ (cK hlt);rw[k5,← vG] at this;rw[this,cK hlt];rfl
    ·have fw:j<shN aa:=by rw[uA (elem i U hi).2.1] at aC;exact aC
     obtain⟨hlt,mE⟩:=eZ i hi j fw;obtain⟨b1c,C6,z7⟩:=(elem i U hi).1.get (cK aC);rw[mE] at C6;cases C6;rw[cK hlt];exact z7
    ·obtain⟨i,hi,rfl⟩:=jw av;exact(elem i U hi).2.2
  ·split at h<;>cases h;rename_i l ct hl;obtain⟨bo,rfl,nG,kx⟩:=av.qk;refine R.m8 (list hl nG) (λx hx=>?_) |> λh=>by simpa using h
   obtain⟨i,hi,rfl⟩:=jw hx;have:=ov hl;exact UO (this.2 i U hi) (kx _ (bJ _))
  ·split at h<;>cases h;rename_i l ct hl;obtain⟨bo,rfl,nG⟩:=av.Ls;have:=R.uv (list hl nG);simpa using this
  ·split at h<;>cases h;rename_i z8;cases av with
   |it h=>exact .it (aH _ _ _ z8 h)
  ·cases h
  ·cases h
  ·cases h
  ·rename_i iD h8 pk ta GD UQ UR;cases h;cases av with
   |b x=>exact .b x
   |i k n=>exact .i k n
   |s l h=>exact .s l h
   |qi=>exact .qi
   |p h=>exact absurd I (GD _)
   |dG ba h1 hb b3 ab iA hf=>exact .dG ba (λho=>h1 (cp _ ho)) hb b3 ab (λj aC=>jB (iA j aC)) hf
   |af=>exact .af
   |ao=>exact absurd I (iD _ _ _ _ _)
   |lD=>exact .lD
   |a_ ba h1 an ab iA hl hf fu=>exact .a_ ba (λa5=>⟨λho=>(h1 a5).1 (cp _ ho),(h1 a5).2⟩) an ab (λi hi j aC=>jB (iA i hi j aC)) hl hf fu
   |ou=>exact .ou
   |mp h=>exact absurd I (UQ _)
   |cQ=>exact absurd I (UR _ _ _)
   |ur=>exact absurd I (UR _ _ _)
   |d_=>exact .d_
   |it h=>exact absurd I (ta _ _)
   |fJ=>exact .fJ
   |ah=>exact absurd I (h8 _)
   |a9=>exact absurd I (pk _)
   |hc h hn=>exact .hc h hn
   |hP h=>exact .hP h
   |im n h=>exact .im n h
   |y h=>exact .y h
   |gi hu h=>exact .gi hu (jB h)
end
section
theorem R.b1d{w:World}{m:Nat->Option Nat}{O:Nat->Prop}{B eE:Nat}(b3:eE<=B){v:AV}{u:Value}(h:R w m O B v u):R w m O eE v u:=by
 induction h with
 |b x=>exact .b x
 |i k n=>exact .i k n
 |s l h=>exact .s l h
 |qi=>exact .qi
 |p h=>exact .p h
 |dG ba cp hb b1e ab al hf aH=>exact .dG ba cp hb (λh=>o_ b3 (b1e h)) ab (λj aC=>aH j aC b3) hf
 |af=>exact .af
 |ao h hl ab hn mw=>exact .ao h hl ab hn mw
 |lD=>exact .lD
 |a_ ba cp an ab al hl hf fu aH=>exact .a_ ba (λa5=>⟨(cp a5).1,(cp a5).2.1,λh=>o_ b3 ((cp a5).2.2 h)⟩) an ab (λi h j aC=>aH i h j aC b3) hl hf fu
 |ou=>exact .ou
 |mp h=>exact .mp h
 |cQ hf bC ab sS Li ru=>exact .cQ hf (λi h h'=>Li i h h' b3) ab (λi h h'=>ru i h h' b3)
 |ur h=>exact .ur h
 |d_=>exact .d_
 |it _ aH=>exact .it (aH b3)
 |fJ=>exact .fJ
 |ah an _ hf aH=>exact .ah an (λi h h'=>aH i h h' b3) hf
 |a9 an _ aH=>exact .a9 an (λi h h'=>aH i h h' b3)
 |hc h hn=>exact .hc h hn
 |hP h=>exact .hP h
 |im n h=>exact .im n h
 |y h=>exact .y h
 |gi hu _ aH=>exact .gi hu (aH b3)
variable [TokOk]
section
variable {P:Program}{env:Env}{J:ae}{w:World}{m:Nat->Option Nat}{B f:Nat}
theorem US{b2:ae}{bW:World}{df:Nat->Option Nat}(al:Rel P J w m B)(he:Ext J.next J w m b2 bW df):Rel P J bW m B/\Ext f J w m J bW m:=by
 have nV:∀aF,¬xB J.next J m aF:=λaF ⟨id,h1,h2,h3⟩=>by have:=Tf h3;omega
 have dI:Ext f J w m J bW m:=⟨λ_ _ h=>h,λ_ _ h=>.inl h,br _,he.size,he.bI,λb hb _=>he.aS b hb (nV b),λ_ _ _=>rfl,λ_ _ h=>h,he.os,he.tape,he.out,λ_ _ _=>rfl⟩
 refine⟨⟨al.len,λid aF h=>⟨vX (al.fU _ _ h).1 he.size,(al.fU _ _ h).2⟩,λid aF o h hg hd=>?_,al.inj,al.base,o_ al.mz he.size⟩,dI⟩;obtain⟨bU,h1,h2⟩:=al.obj id aF o h hg hd;exact⟨bU,by rw[he.aS aF (al.fU _ _ h).1 (nV aF)];exact h1,h2.mono dI.mono dI.size dI.bI (dI.sT al)⟩
def z9(P:Program)(env:Env)(b1:Nat):Prop:=
 ∀g aY r,env.spec g aY=some r->(∃fn c,P.funcs[g]? =some fn/\fn.body=some c/\(fn.name== "runtime.NumGoroutine")=false)∧
  ∀k rd w us,b1<=w.heap.size->Globs env w b1->bK w (λ_=>none) (λ_=>False) w.heap.size aY us.toList→
   CallsIn (fx rd) k P g us w (λe bW=>∃u,e= .returned u/\R bW (λ_=>none) (λb=>b<w.heap.size) w.heap.size r u/\w.heap.size<=bW.heap.size/\(∀b,b<w.heap.size->bW.heap[b]? =w.heap[b]?)/\bW.os=w.os/\bW.tape=w.tape/\bW.output=w.output)
def z_(P:Program)(env:Env):Prop:=
 ∀g,env.ext g≠0->∀args v,extRow (env.ext g) args=some v->∀w m O B us cs,bK w m O B args (us++cs).toList->∃u,(invoke (.fn (.func g) cs) us).run P w= .ok (.value u) w/\R w m O B v u
theorem UT(J:ae)(v:AV):bT J 0 v=none:=rfl
theorem snapshot_succ(J:ae)(n:Nat)(v:AV):bT J (n+1) v=match v with
  | .ao id off len aa cap=>
   match readList J (.ao id off len aa cap) with
   |none=>none
   |some xs=>match mapO (bT J n) xs with|none=>none|some xs=>some (.a_ true aa xs)
  | .af=>some .af
  | .a_ _ aa xs=>match mapO (bT J n) xs with|none=>none|some xs=>some (.a_ true aa xs)
  | .ah l=>match mapO (bT J n) l with|none=>none|some l=>some (.ah l)
  | .a9 l=>match mapO (bT J n) l with|none=>none|some l=>some (.a9 l)
  | .it t v=>match bT J n v with|none=>none|some v=>some (.it t v)
  | .p (some _)=>none
  | .m (some _)=>none
  | .dG _ _=>none
  | .f _ _ _=>none
  | .gi _ i=>some (.gi true i)
  |v=>some v:=rfl
theorem UU{aa:Option Nat}:∀ {n:Nat} {v bM:AV},bT J n v=some bM->conf aa v=true->conf aa bM=true
 |0,v,bM,h,_=>by rw[UT] at h;cases h
 |n+1,v,bM,h,ab=>by
  rw[snapshot_succ] at h;split at h
  ·split at h<;>try (cases h;done)
   split at h<;>cases h;cases aa<;>simp[conf] at ab ⊢
  ·cases h;exact ab
  ·split at h<;>cases h;cases aa<;>simp[conf] at ab ⊢
  ·split at h<;>cases h;rename_i l ct hl;have:=(ov hl).1;cases aa with
   |none=>simp[conf] at ab
   |some k=>simp[conf] at ab ⊢;omega
  ·split at h<;>cases h;cases aa<;>simp[conf] at ab
  ·split at h<;>cases h;cases aa<;>simp[conf] at ab ⊢
  ·cases h
  ·cases h
  ·cases h
  ·cases h
  ·cases h;cases aa<;>simp[conf] at ab ⊢
  ·cases h;exact ab
theorem b1f{aa:Option Nat}:∀(l:List AV),(∀a∈l,conf aa a=true)->∀i (hi:i<l.length),(l[i]).cells=((l.flatMap AV.cells).drop (i*shN aa)).take (shN aa):=by
 intro l
 induction l with
 |nil=>intro _ i hi;simp at hi
 |cons x l g0=>
  intro hl i hi;have hx:=uA (hl x aG);cases i with
  |zero=>simp[lC,hx]
  |succ i=>
   have:=g0 (λa ha=>hl a (by simp[ha])) i (by simpa using hi);rw[FR,this,lC,List.drop_append];have aR:(i+1)*shN aa-x.cells.length=i*shN aa:=by rw[hx,jL,qb];omega
   have a6:x.cells.drop ((i+1)*shN aa)=[]:=Ma (by rw[hx,jL,qb];omega);rw[aR,a6,vW]
theorem b1g{O:Nat->Prop}{old:Bool}{aa:Option Nat}{aF off c:Nat}{xs:List AV}{us:List Value}(cp:xs≠[]->¬O aF/\aF<w.heap.size/\(old=false->B<=aF))(xQ:us.length=xs.length*shN aa)
  (nH:∀j u,us[j]? =some u->w.cell? ⟨aF,off+j,none⟩=some u)
  (elem:∀i (hi:i<xs.length),bK w (λ_=>none) O B (xs[i]).cells ((us.drop (i*shN aa)).take (shN aa))/\conf aa (xs[i])=true/\∀x∈(xs[i]).cells,conf none x=true) (hle:xs.length<=c):
  R w m O B (.a_ old aa xs) (.slice (some ⟨aF,off,none⟩) xs.length c):=by
 have hmul:∀i,i<xs.length->i*shN aa+shN aa<=xs.length*shN aa:=λi hi=>by
  have:=rk (shN aa) (show i+1<=xs.length from hi);rw[jL,qb] at this;exact this
 have eZ:∀i,i<xs.length->∀j,j<shN aa->∃aC:i*shN aa+j<us.length,((us.drop (i*shN aa)).take (shN aa))[j]? =some (us[i*shN aa+j]):=λi hi j aC=>by
  have:=hmul i hi;refine⟨U,?_⟩;rw[p_ aC,sH,cK U]
 refine .a_ (λi j=>(us[i*shN aa+j]?).getD undef) cp (λi hi=>(elem i hi).2.1) (λi hi j aC=>?_) (λi hi j aC=>?_) hle (λv av=>?_) (λ_=>rfl)
 ·have fw:j<shN aa:=by rw[uA (elem i hi).2.1] at aC;exact aC
  obtain⟨hlt,_⟩:=eZ i hi j fw;have:=nH (i*shN aa+j) _ (cK hlt);rw[<-vG] at this;rw[this,cK hlt];rfl
 ·have fw:j<shN aa:=by rw[uA (elem i hi).2.1] at aC;exact aC
  obtain⟨hlt,mE⟩:=eZ i hi j fw;obtain⟨b1c,C6,z7⟩:=(elem i hi).1.get (cK aC);rw[mE] at C6;cases C6;rw[cK hlt];exact z7
 ·obtain⟨i,hi,rfl⟩:=jw av;exact(elem i hi).2.2
theorem UW(al:Rel P J w m B)(eE:Nat):∀(n:Nat) (v bM:AV) (u:Value),bT J n v=some bM->R w m (bp J m) B v u->R w (λ_=>none) (λ_=>False) eE bM u
 |0,v,bM,u,h,_=>by rw[UT] at h;cases h
 |n+1,v,bM,u,h,av=>by
  have aH:=λv bM u h av=>UW al eE n v bM u h av;have list:∀ {l ct:List AV} {us:List Value},mapO (bT J n) l=some ct->bK w m (bp J m) B l us->bK w (λ_=>none) (λ_=>False) eE ct us:=λ{l ct us} hl lH=>by
   obtain⟨h1,h2⟩:=ov hl;refine⟨by rw[lH.1,h1],λi hi dc=>?_⟩;exact aH _ _ _ (h2 i U hi) (lH.2 i U dc)
  have slice:∀ {x:AV} {aa:Option Nat} {xs pz:List AV},readList J x=some xs->mapO (bT J n) xs=some pz->R w m (bp J m) B x u->(∀a∈xs,conf aa a=true)->R w (λ_=>none) (λ_=>False) eE (.a_ true aa pz) u:=λ{x aa xs pz} dH x9 hx uF=>by
   obtain⟨h1,h2⟩:=ov x9;obtain⟨base,c,us,rfl,hle,zO,xQ,kx,nH⟩:=CD al hx dH uF;cases base with
   |none=>
    obtain⟨rfl,rfl⟩:=nH;have:pz=[]:=oi (by simpa using h1);subst this;exact .lD
   |some a=>
    obtain⟨aF,off,sp⟩:=a;obtain⟨fu,nH,hlt⟩:=nH;by_cases kz:xs=[]
    ·subst kz;have:pz=[]:=oi (by simpa using h1);subst this;exact .a_ (xs:=[]) (λ_ _=>undef) (λh=>absurd I h) (λi h=>by simp at h) (λi h=>by simp at h) (λi h=>by simp at h) (k0 _) (λv av=>by simp at av) (λh=>absurd I h)
    obtain rfl:=fu kz;rw[<-h1];refine b1g (us:=us) (λa5=>⟨λh=>h,?_,λh=>by cases h⟩) (by rw[h1];exact xQ) (λj u hu=>by have:=nH j u hu;rw[k5] at this;exact this) (λi hi=>?_) U
    ·exact hlt (λhe=>a5 (oi (by rw[h1,he];rfl)))
    ·have uN:i<xs.length:=by omega
     have l9:=uF _ (bJ uN);have lK:∀x∈(xs[i]).cells,conf none x=true:=λx hx=>kx x (zu.2 ⟨_,bJ uN,hx⟩);have MC:bK w m (bp J m) B (xs[i]).cells ((us.drop (i*shN aa)).take (shN aa)):=by
      rw[b1f xs uF i uN];exact(zO.drop _).take _
     obtain⟨b1b,MD,ME⟩:=R.UP l9 MC lK;have bC:=aH _ _ _ (h2 i uN hi) MD;have h_:=UU (h2 i uN hi) l9;have:=bC.cells;rw[ME] at this;exact⟨this,h_,bC.leafs h_⟩
  rw[snapshot_succ] at h;split at h
  ·rename_i id off len aa cap;split at h<;>try (cases h;done)
   rename_i xs dH;split at h<;>cases h;rename_i pz x9;refine slice dH x9 av ?_;have c5I:=dH;simp only[readList] at dH;split at dH<;>try (cases dH;done)
   rename_i c hg;cases av with
   |ao hm hl hk hn mw=>
    obtain⟨arr,el,bt,hh,nK,uw,bb,kK⟩:=al.cells hm hg;exact(zL (λx hx=>kK x (og hx)) dH).2.2.2
  ·cases h;cases av;exact .af
  ·rename_i o aa xs;split at h<;>cases h;rename_i pz x9;refine slice (x:=.a_ o aa xs) I x9 av ?_;intro a ha;cases av with
   |lD=>simp at ha
   |a_ ba cp an ab iA hl hf fu=>
    obtain⟨i,hi,rfl⟩:=jw ha;exact an i hi
  ·split at h<;>cases h;rename_i l ct hl;obtain⟨bo,rfl,nG,kx⟩:=av.qk;refine R.m8 (list hl nG) (λx hx=>?_) |> λh=>by simpa using h
   obtain⟨i,hi,rfl⟩:=jw hx;have:=ov hl;exact UU (this.2 i U hi) (kx _ (bJ _))
  ·split at h<;>cases h;rename_i l ct hl;obtain⟨bo,rfl,nG⟩:=av.Ls;have:=R.uv (list hl nG);simpa using this
  ·split at h<;>cases h;rename_i z8;cases av with
   |it h=>exact .it (aH _ _ _ z8 h)
  ·cases h
  ·cases h
  ·cases h
  ·cases h
  ·cases h;cases av with
   |gi hu h=>exact .gi hu (TokOk.snap h)
  ·rename_i c_ ei fc fF iU jC l_ tb qC MF UX;cases h;cases av with
   |b x=>exact .b x
   |i k n=>exact .i k n
   |s l h=>exact .s l h
   |qi=>exact .qi
   |ou=>exact .ou
   |d_=>exact .d_
   |fJ=>exact .fJ
   |af=>exact .af
   |p h=>exact absurd I (l_ _)
   |mp h=>exact absurd I (tb _)
   |dG=>exact absurd I (qC _ _)
   |cQ=>exact absurd I (MF _ _ _)
   |ur=>exact absurd I (MF _ _ _)
   |ao=>exact absurd I (c_ _ _ _ _ _)
   |lD=>exact absurd I (fc _ _ _)
   |a_=>exact absurd I (fc _ _ _)
   |it h=>exact absurd I (jC _ _)
   |ah=>exact absurd I (fF _)
   |a9=>exact absurd I (iU _)
   |im n h=>exact .im n h
   |y h=>exact .y h
   |gi hu h=>exact absurd I (UX _ _)
   |hc h hn=>exact .hc h hn
   |hP h=>exact .hP h
end
end
end Go.Lyc
end
noncomputable section
namespace Go.Lyc
set_option maxHeartbeats 0
variable [Tok][TokOk]
open Go.RowKit
theorem GF{α:Type}{g:α->α->Bool}(hg:∀x y,g x y=true->x=y):∀(l r:List α),fY g l r=true->l=r
 |[],[],_=>rfl
 |[],_::_,h=>by cases h
 |_::_,[],h=>by cases h
 |x::l,y::r,h=>by
  have h:cond (g x y) (fY g l r) false=true:=h;cases x_:g x y with
  |false=>rw[x_] at h;cases h
  |true=>
   rw[x_,cond_true] at h;rw[hg x y x_,GF hg l r h]
theorem AV.Aa:∀(n:Nat) (x y:AV),AV.eqb n x y=true->x=y
 |0,_,_,h=>by cases h
 |n+1,x,z,h=>by
  have aH:=AV.Aa n;have g0:=GF aH;cases x
  case p a=>
   cases a with
   |none=>
    cases z
    case p b=>
     cases b with
     |none=>rfl
     |some b=>exfalso;revert h;show ¬(false=true);simp
    all_goals (exfalso;revert h;show ¬(false=true);simp)
   |some a=>
    cases z
    case p b=>
     cases b with
     |none=>exfalso;revert h;show ¬(false=true);simp
     |some b=>
      have h:(Nat.beq a.1 b.1&&Nat.beq a.2 b.2)=true:=h;simp only[du,oh] at h;rw[Prod.ext h.1 h.2]
    all_goals (exfalso;revert h;show ¬(false=true);simp)
  case m a=>
   cases a with
   |none=>
    cases z
    case m b=>
     cases b with
     |none=>rfl
     |some b=>exfalso;revert h;show ¬(false=true);simp
    all_goals (exfalso;revert h;show ¬(false=true);simp)
   |some a=>
    cases z
    case m b=>
     cases b with
     |none=>exfalso;revert h;show ¬(false=true);simp
     |some b=>
      have h:Nat.beq a b=true:=h;rw[fX h]
    all_goals (exfalso;revert h;show ¬(false=true);simp)
  all_goals (cases z<;>first
   |rfl
   |(exfalso;revert h;show ¬(false=true);simp;done)
   |skip)
  case b.b a b=>have h:(a==b)=true:=h;simpa using h
  case i.i k a l b=>
   have h:(decide (k=l)&&decide (a=b))=true:=h;simp at h;rw[h.1,h.2]
  case s.s a b=>have h:eqL a b=true:=h;rw[(ox _ _).1 h]
  case dG.dG um a cV b=>
   have h:((um==cV)&&AV.eqb n a b)=true:=h;simp only[du,beq_iff_eq] at h;rw[h.1,aH _ _ h.2]
  case ao.ao a2 bm cx ep eW er dy dV fl l0=>
   have h:(Nat.beq a2 er&&Nat.beq bm dy&&Nat.beq cx dV&&decide (ep=fl)&&decide (eW=l0))=true:=h;simp only[du,oh,decide_eq_true_eq] at h;obtain⟨⟨⟨⟨rfl,rfl⟩,rfl⟩,rfl⟩,rfl⟩:=h;rfl
  case a_.a_ um a7 a cV sb b=>
   have h:((um==cV)&&decide (a7=sb)&&fY (AV.eqb n) a b)=true:=h;simp only[du,beq_iff_eq,decide_eq_true_eq] at h;rw[h.1.1,h.1.2,g0 _ _ h.2]
  case f.f aB a2 bm fb er dy=>
   have h:(decide (aB=fb)&&(fY (AV.eqb n) a2 er&&fY (AV.eqb n) bm dy))=true:=h;simp only[du,decide_eq_true_eq] at h;rw[h.1,g0 _ _ h.2.1,g0 _ _ h.2.2]
  case it.it t a u b=>
   have h:(Nat.beq t u&&AV.eqb n a b)=true:=h;simp only[du,oh] at h;rw[h.1,aH _ _ h.2]
  case ah.ah a b=>have h:fY (AV.eqb n) a b=true:=h;rw[g0 _ _ h]
  case a9.a9 a b=>have h:fY (AV.eqb n) a b=true:=h;rw[g0 _ _ h]
  case hc.hc k a b l c d=>
   have h:(decide (k=l)&&(Nat.beq a c&&Nat.beq b d))=true:=h;simp only[du,oh,decide_eq_true_eq] at h;rw[h.1,h.2.1,h.2.2]
  case im.im a b=>have h:(a==b)=true:=h;rw[eq_of_beq h]
  case y.y a b=>
   have h:Nat.beq a b=true:=h;rw[fX h]
  case gi.gi o a p b=>
   have h:((o==p)&&Nat.beq a b)=true:=h;simp only[du,beq_iff_eq,oh] at h;rw[h.1,h.2]
  case hP.hP a b=>have h:fY eqL a b=true:=h;rw[GF (λx y h=>(ox x y).1 h) _ _ h]
theorem UY{n base:Nat}{l:List (et×ae)}{v:AV}(h:joinF n base l=some v):∀ret ag,(ret,ag)∈l->∃v0,ret= .ok v0/\freeze ag base n v0=some v:=by
 unfold joinF at h;split at h
 ·cases h
 rename_i x t;split at h
 ·cases h
 rename_i v0 dg;split at h
 ·cases h
 rename_i v1 uO;cases hall:cP (xy n base v1) t with
 |false=>rw[hall] at h;cases h
 |true=>
  rw[hall,cond_true] at h;cases h;intro ret ag gb;rcases dF.1 gb with he|gb
  ·cases he;exact⟨_,rfl,uO⟩
  ·have:=nL hall _ gb;cases ret with
   |err w=>cases this
   |ok w=>
    simp only[xy] at this;split at this
    ·rename_i bW mF;exact⟨w,rfl,by rw[mF,AV.Aa _ _ _ this]⟩
    ·cases this
section
variable {P:Program}{env:Env}{B:Nat}
theorem UZ(gM:s_ P env)(fu:z9 P env B){run:jf}(cb:qA P env B run){f g:Nat}{args:List AV}{J:ae}{kd:List (et×ae)}(h:callF env run f g args J=some kd)(Ab:env.ext g=0)(k:Nat)(r:Option Nat)
  {w:World} {m:Nat->Option Nat} (al:Rel P J w m B) (de:Globs env w B) {us:Array Value} (ha:bK w m (bp J m) B args us.toList):
  (∃fn c,P.funcs[g]? =some fn/\fn.body=some c/\(fn.name== "runtime.NumGoroutine")=false)∧
  CallsIn (fx r) k P g us w (λe aw=>∃ret ag,(ret,ag)∈kd/\∃aW,rH aw aW (bp ag aW) B ret e/\Rel P ag aw aW B/\Ext f J w m ag aw aW):=by
 unfold callF at h;rw[Ab] at h;simp only at h;cases au:env.pure g with
 |false=>
  rw[au,cond_false] at h;exact Mw gM cb (My gM f) h k r al de ha
 |true=>
  rw[au,cond_true] at h;split at h
  ·-- known
   rename_i v av;cases h;split at av<;>try (cases av;done)
   rename_i aY MG;obtain⟨hb,ab⟩:=fu g aY v av;refine⟨hb,?_⟩;have b1h:bK w (λ_=>none) (λ_=>False) w.heap.size aY us.toList:=by
    obtain⟨h1,h2⟩:=ov MG;refine⟨by rw[ha.1,h1],λi hi dc=>?_⟩;exact UW al _ env.bt _ _ _ (h2 i U hi) (ha.2 i U dc)
   refine CN (ab k r w us al.mz de b1h) (λe bW dh=>?_);obtain⟨u,rfl,hR,cv,Gq,l2,pf,lE⟩:=dh;have hj:∀b n,eD w b=some n->eD bW b=some n:=λb n hb=>by
    have:=UM hb;unfold eD at hb ⊢;rw[Gq b this];exact hb
   have he:Ext J.next J w m J bW m:=⟨λ_ _ h=>h,λ_ _ h=>.inl h,br _,cv,hj,λb hb _=>Gq b hb,λ_ _ _=>rfl,λ_ _ h=>h,l2,pf,lE,λ_ _ _=>rfl⟩
   obtain⟨h1,h2⟩:=US (f:=f) al he;refine⟨_,_,cu.2 I,m,?_,h1,h2⟩;have C7:R bW (λ_=>none) (bp J m) w.heap.size v u:=hR.mono (λ_ _ h=>h) (br _) (λ_ _ h=>h) (λb _ hb=>⟨rfl,λho=>hb (al.Te ho)⟩);exact(C7.b1d al.mz).up
  ·-- run,and uk store dropped
   split at h<;>try (cases h;done)
   rename_i l b1i;split at h<;>cases h;rename_i bM hfz;obtain⟨hb,ab⟩:=Mw gM cb (My gM J.next) b1i k r al de ha;refine⟨hb,?_⟩;refine CN ab (λe bW dh=>?_);obtain⟨ret,b2,gb,df,lI,l7,gD⟩:=dh;obtain⟨v,rfl,b1j⟩:=UY hfz _ _ gb;obtain⟨h1,h2⟩:=US (f:=f) al gD;refine⟨_,_,cu.2 I,m,?_,h1,h2⟩;cases e with
   |returned u=>exact(MB al l7 gD env.bt v bM u b1j lI).up
   |panicked nQ=>exact lI.elim
   |outgrown=>exact lI.elim
theorem b1k(gM:s_ P env)(fu:z9 P env B)(hex:z_ P env){run:jf}(cb:qA P env B run){f g:Nat}{args:List AV}{J:ae}{kd:List (et×ae)}(h:callF env run f g args J=some kd)(k:Nat)(r:Option Nat)
  {w:World} {m:Nat->Option Nat} (al:Rel P J w m B) (de:Globs env w B) {us cs:Array Value} (ha:bK w m (bp J m) B args (us++cs).toList):
  match(invoke (.fn (.func g) cs) us).run P w with
  | .ok (.enter b6 z5) aw=>CallsIn (fx r) k P b6 z5 aw (λe aw=>∃ret ag,(ret,ag)∈kd/\∃aW,rH aw aW (bp ag aW) B ret e/\Rel P ag aw aW B/\Ext f J w m ag aw aW)
  | .ok (.round l b6 tmps as b) aw=>RoundIn (fx r) k P l b6 tmps as b aw (λe aw=>∃ret ag,(ret,ag)∈kd/\∃aW,rH aw aW (bp ag aW) B ret e/\Rel P ag aw aW B/\Ext f J w m ag aw aW)
  | .ok (.value v) aw=>(λe aw=>∃ret ag,(ret,ag)∈kd/\∃aW,rH aw aW (bp ag aW) B ret e/\Rel P ag aw aW B/\Ext f J w m ag aw aW) (.returned v) aw
  |_=>False:=by
 by_cases Ab:env.ext g=0
 ·obtain⟨⟨fn,c,h1,h2,h3⟩,ab⟩:=UZ gM fu cb h Ab k r al de ha;rw[Mu h1 h2 h3 cs us w];exact ab
 ·unfold callF at h;split at h
  ·rename_i h0;exact absurd h0 Ab
  rename_i n a5;split at h<;>cases h;rename_i v av;obtain⟨u,h1,h2⟩:=hex g (λh0=>a5 h0) args v av w m (bp J m) B us cs ha;rw[h1];exact⟨_,_,cu.2 I,m,h2,al,Ext.refl _ _ _ _⟩
end
theorem b1l(args:List AV)(ao:a1 AV):layAll [] args ao=ao:=rfl
theorem b1m(p:Nat)(aE:List Nat)(args:List AV)(ao:a1 AV):layAll (p::aE) args ao=match args with|[]=>ao|a::args=>layAll aE args (ao.set p a):=rfl
theorem U0{w:World}{m:Nat->Option Nat}{O:Nat->Prop}{B:Nat}:∀(aE:List Nat) (args:List AV) (us:List Value) (ao:a1 AV) (tmps:Array Value),iP w m O B ao tmps.toList->bK w m O B args us->aE.length=args.length→
  iP w m O B (layAll aE args ao) ((aE.zip us).foldl (λ(tmps:Array Value) (x:Nat×Value)=>tmps.setIfInBounds x.1 x.2) tmps).toList
 |[],args,us,ao,tmps,an,ha,hl=>by simpa [b1l] using an
 |p::aE,[],us,ao,tmps,an,ha,hl=>by simp at hl
 |p::aE,a::args,us,ao,tmps,an,ha,hl=>by
  cases us with
  |nil=>have:=ha.1;simp at this
  |cons u us=>
   rw[b1m];simp only[SP,List.foldl_cons];refine U0 aE args us _ _ ?_ (by simpa using ha.drop 1) (by simpa using hl);exact an.put p (ha.2 0 aG aG)
section
variable {P:Program}{env:Env}{B:Nat}
theorem Rel.C8{J:ae}{w:World}{m:Nat->Option Nat}(al:Rel P J w m B){id aF:Nat}{st:LoopState}{l1:Option bO}{ao:a1 AV}{aE:List Nat}{as b:bO}{d:Nat}(hm:m id=some aF)(hg:J.get id=some (.loop st l1 ao aE as b d)):
  ∃nE fn tmps h5 fK D,w.heap[aF]? =some (.loop {state:=st,pending:=nE,fn,tmps,params:=aE.toArray,assign:=h5,body:=fK,defers:=D})/\F7 P l1 nE/\iP w m (bp J m) B ao tmps.toList/\ccode P h5=some as/\ccode P fK=some b/\m d=some D:=by
 obtain⟨bU,h1,h2⟩:=al.obj _ _ _ hm hg I;cases h2 with
 |loop my an ha hb hd=>exact⟨_,_,_,_,_,_,h1,my,an,ha,hb,hd⟩
theorem Rel.GG{J:ae}{w:World}{m:Nat->Option Nat}(al:Rel P J w m B){f id aF:Nat}(hf:f<=id)(hm:m id=some aF){o:AO}{r:Loop}(hl:live J id)(hb:eD w aF=none)(hlt:aF<w.heap.size)(hd:o.isDead=false)(ho:mx P w m (bp J m) B o (.loop r)):
  Rel P (J.set id o) (w.putObj aF (.loop r)) m B/\Ext f J w m (J.set id o) (w.putObj aF (.loop r)) m:=
 al.dd hf hm hl (w.putObj aF (.loop r)) o aG (λb a5=>Um a5) (λn hn=>by rw[hb] at hn;cases hn) rfl rfl rfl (λ_=>⟨_,World.putObj_heap_same hlt,ho⟩)
theorem b1n{run:jf}(cb:qA P env B run){f l:Nat}{args:List AV}{J:ae}{kd:List (et×ae)}(h:Lf run f l args J=some kd)(k:Nat)(r:Option Nat)
  {w:World} {m:Nat->Option Nat} (al:Rel P J w m B) (de:Globs env w B) {us:Array Value} (ha:bK w m (bp J m) B args us.toList) {aF:Nat} (hm:m l=some aF):
  ∃b6 tmps as b,(invoke (.fn (.yield aF) #[]) us).run P w= .ok (.round aF b6 tmps as b) w/\RoundIn (fx r) k P aF b6 tmps as b w (λe aw=>∃ret ag,(ret,ag)∈kd/\∃aW,rH aw aW (bp ag aW) B ret e/\Rel P ag aw aW B/\Ext f J w m ag aw aW):=by
 unfold Lf at h;split at h<;>try (cases h;done)
 rename_i ef;have pq:f<=l:=by simpa [gQ] using ef
 split at h<;>try (cases h;done)
 rename_i l1 ao aE as b d hg;obtain⟨nE,fn,tmps,h5,fK,D,hh,my,an,has,Gi,hd⟩:=al.C8 hm hg;cases MH:Nat.beq aE.length args.length with
 |false=>rw[MH] at h;cases h
 |true=>
  rw[MH,cond_true] at h;have hlen:=fX MH;have lH:us.size=aE.length:=by have:=ha.1;simp at this;omega
  have hy:=run_yield (P:=P) (args:=us) hh (by simpa using lH);refine⟨_,_,_,_,hy,?_⟩;have gK:e4 P env ⟨layAll aE args ao,[],false⟩ {tmps:=(aE.toArray.zip us).foldl (λtmps (t,a)=>tmps.setIfInBounds t a) tmps,defers:=[]} J w m B:=by
   refine⟨⟨al,?_,de⟩,trivial⟩;have:=U0 aE args us.toList ao tmps an ha hlen;have aR:(aE.toArray.zip us)=(aE.zip us.toList).toArray:=by
    apply m3;simp
   rw[aR];simpa using this
  obtain⟨uP,l7,b1o⟩:=v3 h;refine roundIn_of_wpIn trivial ?_;refine(cb _ _ _ _ _ _ l7 k (some aF) h5 _ w m has hm gK _ (λaR eh b2 b1p fR a2 bW df fr fP hr=>?_)).1;obtain⟨dJ,eg,MI⟩:=b1o _ b1p;cases aR<;>try (cases eg;done)
  cases fR<;>try exact fr.elim
  simp only[roundMid] at eg;split at eg<;>try (cases eg;done)
  rename_i c5J c5K b1q c5L er d1 tc;have Ac:=hr.mono _ _ hm;obtain⟨b1r,b1s,b1t,b1u,b1v,U1,Cy,b1w,nW,b1x,b1y,kO⟩:=fP.ctx.rel.C8 Ac tc;have b1z:=zE Cy;have kb:eD bW aF=none:=by unfold eD;rw[Cy]
  obtain⟨qB,nb⟩:=fP.ctx.rel.GG (f:=f) pq Ac (r:={state:=.busy,pending:=b1r,fn:=b1s,tmps:=b1t,params:=b1q.toArray,assign:=b1u,body:=b1v,defers:=U1}) ⟨_,tc,rfl⟩ kb b1z I (.loop b1w nW b1x b1y kO);refine⟨_,run_beginRound Cy I,?_⟩;have nS:=fP.ext nb qB;obtain⟨b1A,ya,b1B⟩:=v3 eg;refine(cb _ _ _ _ _ _ ya k (some aF) fK a2 _ df Gi Ac nS _ (λc0 c5M hC b1C MJ cx Ad td GH C9 GI=>?_)).1;obtain⟨U2,pn,MK⟩:=b1B _ b1C;have Ae:=GI.mono _ _ Ac;have U3:=(hr.trans al nb).trans al GI;have fin:∀(j:Option bO) (sO:Option Code) (b:Bool),F7 P j sO->(b=sO.isNone)->(∃yb te tf pA tg dV d3,hC.get l=some (.loop yb te tf pA tg dV d3))->∀bd,endRound hC l j=some bd->bd∈kd→
    ∃u aw,(Instr.endRound aF sO).run P Ad= .ok u aw/\∃ret ag,(ret,ag)∈kd/\∃aW,rH aw aW (bp ag aW) B ret (.returned u)/\Rel P ag aw aW B/\Ext f J w m ag aw aW:=by
   rintro j sO b aC hb ⟨yb,te,tf,pA,tg,dV,d3,yc⟩ bd nX jR;obtain⟨c5N,GK,GL,GM,GO,GP,wa,GQ,GS,GV,GW,wb⟩:=C9.ctx.rel.C8 Ae yc;have GX:=zE wa;have s3:eD Ad aF=none:=by unfold eD;rw[wa]
   unfold endRound at nX;rw[yc] at nX;cases j with
   |none=>
    cases sO with
    |some _=>exact aC.elim
    |none=>
     simp only[cJ] at nX;subst nX;obtain⟨C_,Af⟩:=C9.ctx.rel.GG (f:=f) pq Ae (o:=.loop .ready none tf pA tg dV d3) (r:={state:=.ready,pending:=none,fn:=GK,tmps:=GL,params:=pA.toArray,assign:=GM,body:=GO,defers:=GP}) ⟨_,yc,rfl⟩ s3 GX I (.loop trivial GS GV GW wb);exact⟨_,_,run_endRound none wa,_,_,jR,td,.b _,C_,U3.trans al Af⟩
   |some c=>
    cases sO with
    |none=>exact aC.elim
    |some bX=>
     simp only[cJ] at nX;subst nX;obtain⟨C_,Af⟩:=C9.ctx.rel.GG (f:=f) pq Ae (o:=.loop .done (some c) tf pA tg dV d3) (r:={state:=.done,pending:=some bX,fn:=GK,tmps:=GL,params:=pA.toArray,assign:=GM,body:=GO,defers:=GP}) ⟨_,yc,rfl⟩ s3 GX I (.loop aC GS GV GW wb);exact⟨_,_,run_endRound (some bX) wa,_,_,jR,td,.b _,C_,U3.trans al Af⟩
  have got:∀ {j:Option bO} {bd:et×ae},endRound hC l j=some bd->∃yb te tf pA tg dV d3,hC.get l=some (.loop yb te tf pA tg dV d3):=λaX=>by
   unfold endRound at aX;split at aX
   ·exact⟨_,_,_,_,_,_,_,by assumption⟩
   ·cases aX
  cases c0 with
  |panic v=>cases pn
  |normal=>
   cases MJ<;>try exact GH.elim
   simp only[roundEnd,fq] at pn;obtain⟨bd,nX,rfl⟩:=pn;exact fin none none true trivial I (got nX) bd nX (MI _ (MK _ (kB _)))
  |ret=>
   cases MJ<;>try exact GH.elim
   simp only[roundEnd,fq] at pn;obtain⟨bd,nX,rfl⟩:=pn;exact fin (some .ret) (some .ret) false ⟨rfl,.inl I⟩ I (got nX) bd nX (MI _ (MK _ (kB _)))
  |exit id=>
   cases MJ<;>try exact GH.elim
   have oG:=GH;simp only[ExR] at oG;subst oG;simp only[roundEnd,fq] at pn;obtain⟨bd,nX,rfl⟩:=pn;exact fin (some (.exit _)) (some (.exit _)) false ⟨rfl,.inr ⟨_,rfl⟩⟩ I (got nX) bd nX (MI _ (MK _ (kB _)))
theorem U4(gM:s_ P env)(fu:z9 P env B)(hex:z_ P env){run:jf}(cb:qA P env B run)(f:Nat)(r:Option Nat):CV P env B f r (callV env run f):=by
 intro cr args J kd h k w m u us al de hf ha;unfold callV at h;split at h<;>try (cases h;done)
 ·rename_i g first cap
  cases hf with
  |cQ b1D bC gL sS=>
   rename_i gR fv;have h1:bK w m (bp J m) B first gR.toList:=⟨by simpa using b1D,λi p q=>by simpa using bC i p (by simpa using q)⟩
   have h2:bK w m (bp J m) B cap fv.toList:=⟨by simpa using gL,λi p q=>by simpa using sS i p (by simpa using q)⟩
   refine⟨{target:=.fn (.func g) fv,args:=gR++us.toArray},λaw=>rfl,?_⟩;exact b1k gM fu hex cb h k r al de (by simpa using (h1.append ha).append h2)
 ·rename_i l a b;cases hf with
  |ur hm=>
   obtain⟨b6,tmps,as,jD,h1,h2⟩:=b1n cb h k r al de (us:=us.toArray) (by simpa using ha) hm;refine⟨{target:=.fn (.yield _) #[],args:=#[]++us.toArray},λaw=>rfl,?_⟩;have aR:(#[]++us.toArray:Array Value)=us.toArray:=by simp
   simp only[aR];rw[h1];exact h2
end
section
variable {P:Program}{env:Env}{B:Nat}
theorem b1E{aN r:Option Nat}{ad:Fr}{a:Act}{J b2:ae}{w:World}{m:Nat->Option Nat}{d f:Nat}{ds:List (Nat ⊕ (AV×List AV))}(h:Cm aN ad J=some (d,b2,ds))(mG:z2 m aN r)(st:e4 P env ad a J w m B)
  {aE:List Nat} {as b:bO} {h5 fK:Code} (has:ccode P h5=some as) (hb:ccode P fK=some b) (fn:FuncId):
  ∃l mark bW df,(Instr.enterLoop fn a.tmps aE.toArray h5 fK r).run P w= .ok (l,mark) bW/\df b2.next=some l∧
   e4 P env ⟨ad.bf,ds,ad.fS⟩ {a with defers:=mark++a.defers} (b2.push (.loop .ready none ad.bf aE as b d)) bW df B/\Ext f J w m (b2.push (.loop .ready none ad.bf aE as b d)) bW df:=by
 unfold Cm at h;cases aN with
 |none=>
  cases r<;>try exact mG.elim
  simp only[cJ,xV] at h;obtain⟨rfl,rfl,rfl⟩:=h;have al:=st.ctx.rel;obtain⟨l7,gD⟩:=al.alloc f (w.alloc (.deferred (some []))) .eo (.deferred (some [])) I I I I I .eo;have fP:=st.ext gD l7;obtain⟨qB,nb⟩:=l7.alloc f ((w.alloc (.deferred (some []))).alloc (.loop {state:=.ready,pending:=none,fn,tmps:=a.tmps,params:=aE.toArray,assign:=h5,body:=fK,defers:=w.heap.size}))
   (.loop .ready none ad.bf aE as b J.next) _ I I I I I (.loop trivial fP.ctx.bf has hb (hD _ _ _))
  have nS:=fP.ext nb qB;refine⟨_,_,_,_,run_enterLoop_outer fn a.tmps aE.toArray h5 fK,?_,⟨⟨qB,nS.ctx.bf,nS.ctx.globs⟩,⟨⟨_,nb.mono _ _ (hD _ _ _),rfl⟩,nS.defs⟩⟩,gD.trans al nb⟩;have:=hD (bindM m J.next w.heap.size) (J.push .eo).next (w.alloc (.deferred (some []))).heap.size;rw[this];simp
 |some U5=>
  cases r<;>try exact mG.elim
  rename_i aF;have hm:m U5=some aF:=mG;simp only at h;split at h<;>cases h;rename_i hg;have al:=st.ctx.rel;obtain⟨nE,c5O,c5P,c5Q,U6,D,hh,_,_,_,_,hd⟩:=al.C8 hm hg;obtain⟨qB,nb⟩:=al.alloc f (w.alloc (.loop {state:=.ready,pending:=none,fn,tmps:=a.tmps,params:=aE.toArray,assign:=h5,body:=fK,defers:=D}))
   (.loop .ready none ad.bf aE as b d) _ I I I I I (.loop trivial st.ctx.bf has hb hd)
  have nS:=st.ext nb qB;refine⟨w.heap.size,[],_,_,?_,hD _ _ _,⟨⟨qB,nS.ctx.bf,nS.ctx.globs⟩,nS.defs⟩,nb⟩;unfold Instr.enterLoop;simp only[eV,run_getLoop hh,Result.andThen,ik,run_newObj_alloc]
theorem b1F{c:bO}{nE:Option Code}(h:F7 P (some c) nE):∃bX,nE=some bX/\ccode P bX=some c:=by
 cases nE with
 |none=>exact h.elim
 |some d=>exact⟨d,rfl,h.1⟩
theorem b1G{c:Code}{f:aI}{aE:List Nat}{as b:bO}(h:ccode P c=some (.rangeFunc f aE as b)):∃g m7 h5 fK,c= .rangeFunc g m7 h5 fK/\opdOf g=some f/\aE=m7.toList/\ccode P h5=some as/\ccode P fK=some b:=by
 cases c with
 |rangeFunc g m7 h5 fK=>
  simp only[ccode] at h;split at h<;>cases h;rename_i h1 h2 h3;exact⟨g,m7,h5,fK,rfl,h1,rfl,h2,h3⟩
 |region id ops dz=>cases dz<;>(simp only[ccode] at h;split at h<;>cases h)
 |_=>
  simp only[ccode] at h
  first|(cases h;done)|(split at h<;>cases h;done)
theorem b1H(gM:s_ P env)(fu:z9 P env B){run:jf}(cb:qA P env B run):UF P env B run:=by
 intro floor aN f aE as b ad J outs h k r c a w m ab mG st Q b8;obtain⟨cZ,GY,h5,fK,rfl,gx,rfl,has,hb⟩:=b1G ab;simp only[step] at h;split at h<;>try (cases h;done)
 rename_i b1I;have U7:floor<=J.next:=by simpa [gQ] using b1I
 split at h<;>try (cases h;done)
 rename_i g first cap rM
 split at h<;>try (cases h;done)
 rename_i d b2 ds Ag;split at h<;>try (cases h;done)
 rename_i Ab;obtain⟨U5,qy,py⟩:=v3 h;have b1J:=st.ctx.ar gx rM;refine wpIn_rangeFunc (λfn _=>?_);obtain⟨l,mark,bW,df,h1,h2,h3,aQ⟩:=b1E (f:=floor) Ag mG st (aE:=GY.toList) has hb fn;have al:=st.ctx.rel;have ML:=b1J.ext aQ al;obtain⟨gR,fv,b1K,Mz,MA⟩:∃gR fv,a.eval cZ= .func (.func g) gR fv/\bK bW df (bp (b2.push (.loop .ready none ad.bf GY.toList as b d)) df) B first gR.toList/\bK bW df (bp (b2.push (.loop .ready none ad.bf GY.toList as b d)) df) B cap fv.toList:=by
  revert ML;generalize a.eval cZ=nc;intro ML;cases ML with
  |cQ Ah bC gL sS=>exact⟨_,_,rfl,⟨by simpa using Ah,λi p q=>by simpa using bC i p (by simpa using q)⟩,⟨by simpa using gL,λi p q=>by simpa using sS i p (by simpa using q)⟩⟩
 have px:bK bW df (bp (b2.push (.loop .ready none ad.bf GY.toList as b d)) df) B (first++AV.f (.yield b2.next) [] []::cap) (gR++ #[Value.func (.yield l) #[] #[]]++fv).toList:=by
  simp only[L_,jA];exact Mz.append (bK.cons (.ur h2) MA)
 obtain⟨⟨c5R,aL,Ah,GZ,b1L⟩,b1M⟩:=UZ gM fu cb qy Ab (k-1) r h3.ctx.rel h3.ctx.globs px;refine⟨l,mark,bW,{target:=.fn (.func g) fv,args:=gR++ #[Value.func (.yield l) #[] #[]]},bW,g,_,bW,by simpa [fx] using h1,?_,λ_ _=>trivial,Mu Ah GZ b1L fv _ bW,λan=>by simp[fx] at an,?_⟩
 ·have h9:a.eval (.const (.func (.yield l) #[] #[]))= .func (.yield l) #[] #[]:=rfl;simp only[resolve,b1K,Deferred.ofValue];simp[h9]
 ·refine CN b1M (λc0 Ad dh=>?_);obtain⟨ret,hC,gb,td,lI,ya,MM⟩:=dh;obtain⟨dJ,eg,eZ⟩:=py _ gb;cases ret with
  |err v=>cases eg
  |ok qD=>
  cases c0<;>try exact lI.elim
  have Ae:=MM.mono _ _ h2;simp only[rangeK] at eg;split at eg<;>try (cases eg;done)
  rename_i yb te tf pA tg dV d3 yc;obtain⟨nE,GK,GL,GM,GO,GP,wa,GQ,GS,GV,GW,wb⟩:=ya.C8 Ae yc;have C9:=h3.ext MM ya;have GI:=aQ.trans al MM;have iD:floor<=b2.next:=by
   unfold Cm at Ag;split at Ag
   ·split at Ag<;>cases Ag;exact U7
   ·cases Ag;exact Nat.le_succ_of_le U7
  have GX:=zE wa;have s3:eD Ad l=none:=by unfold eD;rw[wa]
  have fin:yb≠ .busy->(match(generalizing:=false) te with
    |none=>some [(fN.normal,(⟨ad.bf,ds,ad.fS⟩:Fr),hC.set b2.next (.loop .exhausted te tf pA tg dV d3))]
    |some c=>run floor aN c ⟨ad.bf,ds,ad.fS⟩ (hC.set b2.next (.loop .exhausted te tf pA tg dV d3)))=some dJ→
    ∀v9,rangePost (fx r) k P l Q {a with defers:=mark++a.defers} (.returned v9) Ad:=λCF hh v9=>by
   obtain⟨C_,Af⟩:=ya.GG (f:=floor) iD Ae (o:=.loop .exhausted te tf pA tg dV d3) (r:={state:=.exhausted,pending:=nE,fn:=GK,tmps:=GL,params:=pA.toArray,assign:=GM,body:=GO,defers:=GP}) ⟨_,yc,rfl⟩ s3 GX I (.loop GQ GS GV GW wb);have U8:=C9.ext Af C_;have MN:=GI.trans al Af;refine⟨nE,_,run_endLoop wa CF,?_⟩;cases te with
   |none=>
    cases nE with
    |some _=>exact GQ.elim
    |none=>
     simp only at hh ⊢;cases hh;exact b8 _ _ _ (eZ _ (kB _)) .normal _ _ td trivial U8 MN
   |some c=>
    obtain⟨bX,rfl,nK⟩:=b1F GQ;simp only at hh ⊢;exact(cb _ _ _ _ _ _ hh k r bX _ _ td nK (mG.mono MN.mono) U8 Q (λe bc ag G0 x cL aw aW bL bQ cm=>b8 e bc ag (eZ _ G0) x cL aw aW bL bQ (MN.trans al cm))).1
  cases yb<;>first|(cases eg;done)|exact fin aG eg _
end
structure Da(pl:List a3)(da:Nat->Nat->Bool)(p q:Nat):Prop where
 G1:p+1=q
 last:q+1=pl.length
 ops:∃bP eQ s1 a2 fR s2 bm pB,pl[p]? =some bP/\pl[q]? =some eQ/\bP.op= .store s1 a2 fR/\eQ.op= .store s2 bm pB/\bP.dst=none/\eQ.dst=none/\bP.guard=none/\eQ.guard=none/\eQ.j_≠[]
 rest:∀(r:Nat) (aY:a3),r<p->pl[r]? =some aY->da r q=true\/(aY.op.fT=false/\aY.op.k3=false/\aY.op.looks=false)
structure U9(P:Program)(ops:Array Oper)(pl:List a3)(bk c8:Nat->Nat)(da:Nat->Nat->Bool):Prop where
 len:pl.length=ops.size
 pi:∀p,p<ops.size->bk p<ops.size/\c8 (bk p)=p
 Db:∀i,i<ops.size->c8 i<ops.size/\bk (c8 i)=i
 code:∀p aZ,pl[p]? =some aZ->∃o la,ops[bk p]? =some o/\coper P ops o=some la/\aZ.op=la.op/\aZ.dst=la.dst/\aZ.guard=la.guard
 back:∀p,p<ops.size->∀o,ops[bk p]? =some o->∀e∈o.after,Region.binds .any e=true->e.on<ops.size/\c8 e.on<p
 U_:∀p,p<ops.size->∀q,da q p=true->∃o,ops[bk p]? =some o/\∃e∈o.after,Region.binds .any e=true/\(q=c8 e.on\/da q (c8 e.on)=true)
 wc:∀(p q:Nat) (aZ:a3),p<q->q<ops.size->pl[p]? =some aZ->aZ.op.fT=true->da p q=true\/Da pl da p q
 Dc:∀(p q:Nat) (aZ dA:a3) (d:Nat),p<q->pl[p]? =some aZ->pl[q]? =some dA->aZ.dst=some d->dA.dst≠some d
 Va:∀(p q:Nat) (aZ dA:a3),p<q->pl[p]? =some aZ->pl[q]? =some dA->da p q=true\/(∀d,aZ.dst=some d->d∉dA.reads)/\(∀d,dA.dst=some d->d∉aZ.reads)
 j_:∀(p:Nat) (aZ:a3),pl[p]? =some aZ->aZ.op.looks=true->∀(q:Nat),p<q->(q=ops.size\/∃dA,pl[q]? =some dA/\dA.op.fT=true)→
  q∈aZ.j_\/(∃(e:Nat) (ek:a3),pl[e]? =some ek/\ek.op.fT=true/\p<e/\e<q/\da p e=true)\/(∀(c:Nat) (ac:a3),pl[c]? =some ac->p<c->c<q->ac.op.fT=false/\ac.op.k3=false)
theorem we{a b:Nat}:Nat.blt a b=true↔a<b:=by rw[gQ]
theorem Vb{α:Type}{f:α->α->Bool}:∀ {l:List α},F5 f l=true->∀(i j:Nat) (x y:α),i<j->l[i]? =some x->l[j]? =some y->f x y=true
 |[],_,i,j,x,y,_,hx,_=>by simp at hx
 |z::l,h,i,j,x,y,g5,hx,hy=>by
  simp only[F5,du,m4] at h;cases j with
  |zero=>omega
  |succ j=>
   cases i with
   |zero=>
    simp only[Uo,cJ] at hx;subst hx;exact h.1 y (hH (by simpa using hy))
   |succ i=>exact Vb h.2 i j x y U (by simpa using hx) (by simpa using hy)
theorem Vc{A:List Nat}{q:Nat}:∀ {es:List Nat},(zB A es).testBit q=true->∃d∈es,q=d\/(A.getD d 0).testBit q=true
 |[],h=>by simp[zB] at h
 |d::es,h=>by
  have h:((1 <<< d ||| A.getD d 0) ||| zB A es).testBit q=true:=h;rw[Nat.testBit_or,Nat.testBit_or,qa,qa,Nat.one_shiftLeft,Nat.testBit_two_pow,decide_eq_true_eq] at h;rcases h with(h|h)|h
  ·exact⟨d,aG,.inl h.symm⟩
  ·exact⟨d,aG,.inr h⟩
  ·obtain⟨e,he,h2⟩:=Vc (es:=es) h;exact⟨e,by simp[he],h2⟩
theorem Vd{α β:Type}{f:α->Option β}{l:List α}{ba:List β}(h:mapOL f l=some ba){i:Nat}{y:β}(hy:ba[i]? =some y):∃x,l[i]? =some x/\f x=some y:=by
 obtain⟨h1,h2⟩:=xE h;obtain⟨hi,rfl⟩:=fC.1 hy;exact⟨l[i]'U,cK U,h2 i U hi⟩
theorem MO{p:a3->Bool}{pl:List a3}{i:Nat}:i∈posOf p pl↔∃aZ,pl[i]? =some aZ/\p aZ=true:=by
 unfold posOf;simp only[dx,nP,Prod.exists,exists_eq_right];constructor
 ·rintro⟨aZ,h1,h2⟩;exact⟨aZ,by simpa using xW.1 h1,h2⟩
 ·rintro⟨aZ,h1,h2⟩;exact⟨aZ,xW.2 (by simpa using h1),h2⟩
theorem MP{α:Type}{l:List α}{i:Nat}{x d:α}(h:l[i]? =some x):l.getD i d=x:=by simp[fO,h]
theorem b1N{P:Program}{ops:Array Oper}{pl:List a3}(h:cdraw P ops=some pl):∃bk c8 da,U9 P ops pl bk c8 da:=by
 unfold cdraw at h;cases hl:mapOL (coper P ops) ops.toList with
 |none=>rw[hl] at h;cases h
 |some l=>
 rw[hl] at h;simp only at h;cases kM:S6 l (Cn ops.size (((l.zip (ops.toList.map rr)).zipIdx).map λx=>(x.2,x.1.1.op.fT,x.1.2)) 0) with
 |none=>rw[kM] at h;cases h
 |some MQ=>
 rw[kM] at h;simp only at h;generalize hA:List.foldl _ [] (Cn _ _ 0)=A at h;generalize c5S:List.map _ (List.range ops.size)=c8 at h;generalize c5T:Cn _ _ 0=bk at h kM;split at h<;>cases h;rename_i nY;generalize Ve:Co A ops.size MQ=pl at nY;simp only[S5,du] at nY;obtain⟨yd,Vf,jl,b1O,Vg⟩:=nY;simp only[S3,du,oh,m4,gQ] at yd;obtain⟨iD,h8,rN,nZ⟩:=yd;have G2:∀p,p<ops.size->bk[p]? =some (bk.getD p 0):=λp au=>by
  rw[cK U,MP (cK U)]
 have b1P:∀p,p<ops.size->c8[p]? =some (c8.getD p 0):=λp au=>by
  rw[cK U,MP (cK U)]
 have Vh:∀i o,ops[i]? =some o->(ops.toList.map rr).getD i []=rr o:=λi o ho=>by
  refine MP ?_;rw[kA,mn,ho];rfl
 have b1Q:∀(o:Oper) e,e∈o.after->Region.binds .any e=true->e.on∈rr o:=λo e he hb=>by
  unfold rr;exact dx.2 ⟨e,nP.2 ⟨by simpa using he,hb⟩,rfl⟩
 have vO:MQ.length=ops.size:=by have:=(xE kM).1;omega
 have hlen:pl.length=ops.size:=by rw[<-Ve];simp[Co,vO]
 have jR:∀p aZ,pl[p]? =some aZ->p<ops.size:=λp aZ au=>by have:=(fC.1 au).1;omega
 have gb:∀p aZ,pl[p]? =some aZ->(aZ,p)∈pl.zipIdx:=λp aZ au=>xW.2 (by simpa using au);simp only[S4,m4,du,gQ,oh] at jl;have Vi:∀p,p<ops.size->(∀d∈zC (ops.toList.map rr) c8 (bk.getD p 0),d<p)/\A.getD p 0=zB A (zC (ops.toList.map rr) c8 (bk.getD p 0)):=λp au=>
  jl (bk.getD p 0,p) (xW.2 (by simpa using G2 p au))
 have MR:∀p q aZ dA,p<q->pl[p]? =some aZ->pl[q]? =some dA->pairOk A pl (aZ,p) (dA,q)=true:=λp q aZ dA hp h1 h2=>
  Vb b1O p q _ _ hp (by simp[Mb,h1]) (by simp[Mb,h2])
 refine⟨λp=>bk.getD p 0,λi=>c8.getD i 0,λq p=>(A.getD p 0).testBit q,⟨hlen,?_,?_,?_,?_,?_,?_,?_,?_,?_⟩⟩
 ·intro p au;have:=rN (bk.getD p 0,p) (xW.2 (by simpa using G2 p au));exact this
 ·intro i hi;have:=nZ (c8.getD i 0,i) (xW.2 (by simpa using b1P i hi));exact this
 ·intro p aZ au;have jS:=jR p aZ au;have hF:∃ke,MQ[p]? =some ke/\aZ.op=ke.op/\aZ.dst=ke.dst/\aZ.guard=ke.guard:=by
   rw[<-Ve] at au;simp only[Co,kA,Mb,fq,Prod.exists] at au;obtain⟨ke,i,⟨a2,h1,h2⟩,h3⟩:=au;cases h2;subst h3;exact⟨_,h1,rfl,rfl,rfl⟩
  obtain⟨ke,h0,aR,a6,c0⟩:=hF;obtain⟨i,hi,gr⟩:=Vd kM h0;rw[G2 p jS] at hi;cases hi;obtain⟨o,ho,ab⟩:=Vd hl gr;exact⟨o,ke,by simpa using ho,ab,aR,a6,c0⟩
 ·intro p au o ho e he hb;have Vj:e.on∈rr o:=b1Q o e he hb;refine⟨?_,?_⟩
  ·simp only[m4,gQ] at Vf;exact Vf (rr o) (dx.2 ⟨o,by simpa using Array.mem_of_getElem? ho,rfl⟩) _ Vj
  ·exact(Vi p au).1 _ (dx.2 ⟨e.on,by rw[Vh _ _ ho];exact Vj,rfl⟩)
 ·intro p au q aX;have Dd:=rN (bk.getD p 0,p) (xW.2 (by simpa using G2 p au));obtain⟨o,ho⟩:∃o,ops[bk.getD p 0]? =some o:=⟨_,sI Dd.1⟩
  refine⟨o,ho,?_⟩;rw[(Vi p au).2] at aX;obtain⟨d,hd,h2⟩:=Vc aX;unfold zC at hd;rw[Vh _ _ ho] at hd;obtain⟨j,aC,rfl⟩:=dx.1 hd;unfold rr at aC;obtain⟨e,he,rfl⟩:=dx.1 aC;obtain⟨gD,nb⟩:=nP.1 he;exact⟨e,by simpa using gD,nb,h2⟩
 ·intro p q aZ hp aX h1 he;have h2:pl[q]? =some (pl[q]'U):=cK U;have:=MR p q aZ (pl[q]'U) hp h1 h2;simp only[pairOk,du,qa,he,Mc,rj,false_or] at this;rcases this.2 with h3|h3
  ·exact .inl h3
  ·refine .inr ?_;have aQ:=h3.2;simp only[S1,du,oh,Option.isNone_iff_eq_none,uh,List.isEmpty_eq_false_iff,m4] at aQ;obtain⟨aR,a6,c0,h7,pC,th,Ai,G3,jT,uQ⟩:=aQ;obtain⟨s1,a2,fR,nW⟩:∃s a x,aZ.op= .store s a x:=by
    revert c0;cases aZ.op<;>intro c0<;>first|exact⟨_,_,_,rfl⟩|cases c0
   obtain⟨s2,bm,pB,lJ⟩:∃s a x,(pl[q]'U).op= .store s a x:=by
    revert h7;cases(pl[q]'U).op<;>intro h7<;>first|exact⟨_,_,_,rfl⟩|cases h7
   refine⟨aR,a6,⟨_,_,s1,a2,fR,s2,bm,pB,h1,h2,nW,lJ,pC,th,Ai,G3,jT⟩,λr aY al MG=>?_⟩;have bF:=uQ (aY,r) (gb r aY MG);simp only[qa,uh,S0,du] at bF;rcases bF with bF|bF|bF
   ·rw[we.2 al] at bF;cases bF
   ·exact .inl bF
   ·exact .inr bF
 ·intro p q aZ dA d hp h1 h2 hd jk;have:=MR p q aZ dA hp h1 h2;simp only[pairOk,du,hd,jk] at this;simp at this
 ·intro p q aZ dA hp h1 h2;have:=MR p q aZ dA hp h1 h2;simp only[pairOk,du,qa] at this;rcases this.2 with h3|h3
  ·exact .inl h3
  ·refine .inr ?_;have aQ:=h3.1;simp only[indep,du] at aQ;refine⟨λd hd=>?_,λd hd=>?_⟩
   ·have:=aQ.1;rw[hd] at this;simpa using this
   ·have:=aQ.2;rw[hd] at this;simpa using this
 ·intro p aZ au n0 q hp aX;simp only[m4] at Vg;have:=Vg _ (gb p aZ au);simp only[S2,n0,Mc,Bool.false_or,m4] at this;have b1R:q∈ops.size::posOf (·.op.fT) pl:=by
   rcases aX with rfl|⟨dA,h1,h2⟩
   ·simp
   ·exact iM _ (MO.2 ⟨dA,h1,h2⟩)
  have:=this q b1R;simp only[qa,uh] at this;rcases this with h1|h1|h1|h1
  ·exfalso;have:Nat.blt p q=true:=(we.2 hp)
   rw[this] at h1;cases h1
  ·exact .inl (by simpa using h1)
  ·refine .inr (.inl ?_);simp only[Md,du,gQ] at h1;obtain⟨e,he,h2,h3,aQ⟩:=h1;obtain⟨ek,bF,cw⟩:=MO.1 he;exact⟨e,ek,bF,cw,h2,h3,aQ⟩
  ·refine .inr (.inr λc ac ab b1S b1T=>?_);simp only[m4,uh,Bool.and_eq_false_iff] at h1;cases Vk:F6 ac with
   |false=>simpa [F6] using Vk
   |true=>
    exfalso;have:=h1 c (MO.2 ⟨ac,ab,Vk⟩);rw[(we.2 b1S),(we.2 b1T)] at this;rcases this with h|h<;>cases h
section
variable {f:Nat}{ar lb:aI->Option AV}{J ag:ae}
theorem wg{x:Option aI}{d:Nat}(h:∀y∈qh x,ar y=lb y):bndO ar x d=bndO lb x d:=by
 cases x with
 |none=>rfl
 |some x=>simp only[bndO,h x (by simp[qh])]
theorem Aj{α β:Type}{g ti:α->Option β}:∀ {l:List α},(∀x∈l,g x=ti x)->mapO g l=mapO ti l
 |[],_=>rfl
 |x::l,h=>by
  rw[mapO_cons,mapO_cons,h x aG,Aj (l:=l) (λy hy=>h y (by simp[hy]))]
theorem layParts_congr{bS:Nat->Nat->Nat}:∀ {aE:List (Nat×Nat×aI)} {c:List AV},(∀p∈aE,ar p.2.2=lb p.2.2)->h4 ar bS aE c=h4 lb bS aE c
 |[],_,_=>rfl
 |p::aE,c,h=>by
  show(match ar p.2.2 with|none=>none|some v=>cond _ (match storeCells c (bS p.1 p.2.1) v.cells with|none=>none|some c=>h4 ar bS aE c) none)=(match lb p.2.2 with|none=>none|some v=>cond _ (match storeCells c (bS p.1 p.2.1) v.cells with|none=>none|some c=>h4 lb bS aE c) none);rw[h p aG];have:∀c,h4 ar bS aE c=h4 lb bS aE c:=λc=>layParts_congr (λq aX=>h q (by simp[aX]));simp only[this]
theorem b1U{aa:Option Nat}{x:AV}{c5 hi fG:Option aI}(h1:∀y∈qh c5,ar y=lb y)(h2:∀y∈qh hi,ar y=lb y)(h3:∀y∈qh fG,ar y=lb y):sliceA ar aa x c5 hi fG=sliceA lb aa x c5 hi fG:=by
 unfold sliceA;simp only[wg h1,wg h2,wg h3];cases fG with
 |none=>rfl
 |some m=>simp only[wg (x:=some m) h3]
theorem Vl{c:sM}(h:∀y∈(match c with| .fn _=>[]| .val o=>[o]:List aI),ar y=lb y):calleeV ar c=calleeV lb c:=by
 cases c with
 |fn f=>rfl
 |val o=>exact h o aG
theorem Vm{op:AOp}(h:∀x∈op.opnds,ar x=lb x):opx f ar J op=opx f lb J op:=by
 cases op
 all_goals simp only[AOp.opnds,List.forall_mem_cons,eP,gT,false_implies,implies_true,and_true] at h
 all_goals try simp only[opx,h]
 case pick c a b=>
  cases ab:lb c with
  |none=>rfl
  |some v=>cases v<;>first|rfl|(rename_i t;cases t<;>simp only[cond_true,cond_false,h])
 case build z aE=>rw[layParts_congr (λp au=>h _ (dx.2 ⟨p,au,rfl⟩))]
 case buildSlice aa n z aE=>
  rw[layParts_congr (λp au=>by
   obtain⟨q,aX,rfl⟩:=dx.1 au;exact h _ (dx.2 ⟨q,aX,rfl⟩))]
 case fM fn a c=>rw[Aj (λx hx=>h x (.inl hx)),Aj (g:=ar) (ti:=lb) (l:=c) (λx hx=>h x (.inr hx))]
 case vH n aa x c5 hi=>rw[wg (λy hy=>h.2 y (.inl hy)),wg (x:=hi) (λy hy=>h.2 y (.inr hy))]
 case iN x c5 hi=>
  have e:∀d,bndO ar c5 d=bndO lb c5 d:=λd=>wg (λy hy=>h.2 y (.inl hy));have a6:∀d,bndO ar hi d=bndO lb hi d:=λd=>wg (λy hy=>h.2 y (.inr hy));simp only[e,a6]
 case m5 aa x c5 hi fG=>
  have e:∀v,sliceA ar aa v c5 hi fG=sliceA lb aa v c5 hi fG:=λv=>b1U (λy hy=>h.2 y (.inl hy)) (λy hy=>h.2 y (.inr (.inl hy))) (λy hy=>h.2 y (.inr (.inr hy)));simp only[e]
 case call c as=>rw[Vl (λy hy=>h y (.inl hy)),Aj (λx hx=>h x (.inr hx))]
 case k2 c as=>rw[Vl (λy hy=>h y (.inl hy)),Aj (λx hx=>h x (.inr hx))]
theorem G4{op:AOp}(he:op.fT=false)(ha:op.k3=false){r:bV}(h:opx f ar J op=some r)(hn:∀l,r≠ .jM l:=by intro _ h;cases h):∃v,r= .val v J/\(op.looks=false->∀cT,opx f ar cT op=some (.val v cT)):=by
 cases op
 all_goals first|(cases he;done)|(cases ha;done)|skip
 all_goals simp only[opx] at h
 all_goals first
  |(cases h;done)
  |(
    repeat' (first|(cases h;done)|(exact absurd (CG h) (hn _))|split at h|(simp only[zW] at h))
    all_goals first
     |(cases h;exact⟨_,rfl,λhl=>by first|(cases hl;done)|(intro cT;rfl)|(intro cT;simp only[opx];done)|(intro cT;simp only[opx];simp only[*];first|done|rfl|(simp only[zW];simp only[*];first|done|rfl|simp))⟩)
     |skip)
theorem Vn{op:AOp}(ha:op.k3=true){r:bV}(h:opx f ar J op=some r):∃(o:AO) (qE:Nat->AV),r= .val (qE J.next) (J.push o)/\o.isDead=false/\∀cT,opx f ar cT op=some (.val (qE cT.next) (cT.push o)):=by
 cases op
 all_goals first|(cases ha;done)|skip
 all_goals simp only[opx] at h
 case alloc v=>cases h;exact⟨_,λn=>jN n 0,rfl,rfl,λ_=>rfl⟩
 case box x=>
  split at h<;>try (cases h;done)
  rename_i v av;cases hval:v.val with
  |false=>rw[hval] at h;cases h
  |true=>
   rw[hval,cond_true] at h;cases h;exact⟨_,λn=>jN n 0,rfl,rfl,λcT=>by simp only[opx,av,hval,cond_true]⟩
 case buildSlice aa n z aE=>
  split at h<;>cases h;rename_i c ab;exact⟨_,λk=>.ao k 0 n aa (some n),rfl,rfl,λcT=>by simp only[opx,ab]⟩
 case mkMap=>cases h;exact⟨_,λn=>.m (some n),rfl,rfl,λ_=>rfl⟩
end
def b1V(P:Program)(w:World)(m:Nat->Option Nat)(O:Nat->Prop)(B:Nat)(o:AO)(qE:Nat->AV)(r:Result Next):Prop:=
 ∃u aw bU,r= .ok (.value u) aw/\aw.heap=w.heap.push bU/\aw.os=w.os/\aw.tape=w.tape/\aw.output=w.output/\mx P w m O B o bU∧
  ∀(jm:World) (qF:Nat->Option Nat) (De:Nat->Prop) (Df id:Nat),qF id=some w.heap.size->jm.heap[w.heap.size]? =some bU->R jm qF De Df (qE id) u
theorem b1W{P:Program}{o:Oper}{cH:AOp}(h:cop P o=some cH)(ha:cH.k3=true):
  (∃t,o.op= .alloc t)\/(∃t x,o.op= .box t x)\/(∃t n aE,o.op= .buildSlice t n aE)\/(∃t r,o.op= .makeMap t r):=by
 unfold cop at h;split at h
 all_goals first
  |(cases h;done)
  |(rename_i ho;exact .inl ⟨_,ho⟩)
  |(rename_i ho;exact .inr (.inl ⟨_,_,ho⟩))
  |(rename_i ho;exact .inr (.inr (.inl ⟨_,_,_,ho⟩)))
  |(rename_i ho;exact .inr (.inr (.inr ⟨_,_,ho⟩)))
  |(
    exfalso
    repeat' first
     |(cases h;cases ha;done)
     |(cases h;done)
     |(simp only[fq] at h;obtain⟨_,_,h⟩:=h)
     |(simp only[en,dP,eK,cJ] at h)
     |split at h
     |(obtain⟨_,_,h⟩:=h)
     |(subst h;cases ha;done))
section
variable {P:Program}{env:Env}{J:ae}{w:World}{m:Nat->Option Nat}{B:Nat}{f:Nat}{ao:a1 AV}{a:Act}{o:Oper}{cH:AOp}{cV:AO}{qE:Nat->AV}
theorem b1X{t e:TypeId}{aa:Option Nat}(hu:P.underlying t=some (.slice e))(an:shapeOf P e=some aa){z:AV}(bb:zeroOf P e=some z)(vN:z.cells.length=shN aa){n:Nat}(hn:n*shN aa<=16777216){ar:aI->Option AV}
  {aE:List (Nat×Nat×aI)} {iC:Array (Nat×Value)} {c:List AV}
  (au:iR (λ(p:Nat×Nat×aI) (q:Nat×Value)=>(p.1=q.1/\p.2.1=shN aa)/\∀v,ar p.2.2=some v->R w m (bp J m) B v q.2) aE iC.toList)
  (h:h4 ar (λi bS=>i*bS) aE (g2 n z.cells)=some c):
  ∃arr:Array Value,(Instr.buildSlice t n iC).run P w= .ok (.slice (some ⟨w.heap.size,0,none⟩) n n) {w with heap:=w.heap.push (.cells arr e)}/\bK w m (bp J m) B c arr.toList/\(∀x∈c,conf none x=true)/\arr.size=n*shN aa:=by
 obtain⟨_,cv,_⟩:=k4 an w;obtain⟨eI,ir,mC,mD⟩:=rz bb w;have na:=(mC w m (bp J m) B).cells;have l6:eI.cells.size=shN aa:=by have:=na.1;simp at this;omega
 have ql:iR (λ(p:Nat×Nat×aI) (q:Nat×Value)=>(λi=>some (i*shN aa,shN aa)) q.1=some (p.1*p.2.1,p.2.1)/\∀v,ar p.2.2=some v->R w m (bp J m) B v q.2) aE iC.toList:=by
  clear h;revert au;generalize iC.toList=gS
  induction aE generalizing gS with
  |nil=>cases gS<;>exact id
  |cons p aE aH=>
   cases gS with
   |nil=>exact id
   |cons q gS=>
    rintro⟨⟨⟨h1,h2⟩,av⟩,al⟩;exact⟨⟨by rw[h1,h2],av⟩,aH gS al⟩
 have nI:=zI na n;have LD:=zJ mD n;have vO:eI.cells.toList.length=shN aa:=by simp[l6]
 rw[vO] at nI;obtain⟨m_,h1,h2,h3,aQ⟩:=CB (place:=λi=>some (i*shN aa,shN aa)) aE iC.toList (g2 n z.cells) c ((Array.range (n*shN aa)).map λi=>eI.cells.toList[i%shN aa]!) ql
  (by simpa [xv] using nI) LD h
 have iq:(newRow e m_).run P w= .ok ⟨w.heap.size,0,none⟩ {w with heap:=w.heap.push (.cells m_ e)}:=by simp[newRow]
 have zK:m_.size=n*shN aa:=by
  have a2:=h2.1;have bm:=nI.1;simp at a2 bm;omega
 refine⟨m_,?_,h2,h3,zK⟩;have LF:¬(n*shN aa > 2^24):=by omega
 simp only[Instr.buildSlice,eV,run_underlying hu,e3,cv];rw[if_neg LF];by_cases h0:n*shN aa=0
 ·have aR:((Array.range (n*shN aa)).map λi=>eI.cells.toList[i%shN aa]!)= #[]:=by rw[h0];apply m3;simp
  rw[aR] at h1;rw[if_pos h0];simp only[eV,ik,e3,h0];have c0:((Array.range 0).map λx=>(#[]:Array Value)[x%(#[]:Array Value).size]!)= #[]:=by apply m3;simp
  rw[c0,h1];simp[iq]
 ·have aR:((Array.range (n*shN aa)).map λi=>eI.cells.toList[i%shN aa]!)=((Array.range (n*shN aa)).map λi=>eI.cells[i%eI.cells.size]!):=by
   apply m3;simp only[ug,xv];apply uc;intro a _;rw[l6,K9,qd];simp
  rw[aR] at h1;simp only[h0,if_false,eV,ir,e3,ik];simp only[h1];simp[iq]
theorem push_inj{o bU:AO}(h:J.push o=J.push bU):o=bU:=by
 have h1:=ae.jP (J:=J) o;have h2:=ae.jP (J:=J) bU;rw[h,h2] at h1;exact(il h1).symm
theorem b1Y(c:Ctx P env J w m B ao a)(ab:cop P o=some cH)(ha:cH.k3=true)(h:∀cT,opx f (evalA env ao) cT cH=some (.val (qE cT.next) (cT.push cV))):
  b1V P w m (bp J m) B cV qE ((execOp a.eval o).run P w):=by
 have G5:∀ {g:Nat->AV},(∀cT:ae,qE cT.next=g cT.next)->qE=g:=λhg=>funext λn=>hg ⟨.nil,n⟩;rcases b1W ab ha with⟨t,ho⟩|⟨t,x,ho⟩|⟨t,n,aE,ho⟩|⟨t,r,ho⟩
 ·simp only[cop,ho,fq] at ab;obtain⟨z,bb,rfl⟩:=ab;simp only[opx,cJ,bV.val.injEq] at h;obtain rfl:=push_inj (h J).2;obtain rfl:=G5 (g:=λn=>jN n 0) (λcT=>(h cT).1.symm);obtain⟨u,h1,h2,hf⟩:=rz bb w;have gL:=(h2 w m (bp J m) B).cells;simp only[execOp,ho];refine⟨.pointer (some ⟨w.heap.size,0,none⟩),{w with heap:=w.heap.push (.cells u.cells t)},.cells u.cells t,by simp[Instr.alloc,h1,newVar,newRow],rfl,rfl,rfl,rfl,?_,λjm qF De Df id oG _=>.p oG⟩;exact .cells (by have:=gL.1;simp at this;omega) (λi h h'=>by have:=gL.2 i h (by simpa using h');simpa using this) (λi _=>by simp) hf
 ·simp only[cop,ho,fq] at ab;obtain⟨bP,hx,rfl⟩:=ab;have h0:=h J;simp only[opx] at h0;split at h0<;>try (cases h0;done)
  rename_i bM av;cases hval:bM.val with
  |false=>rw[hval] at h0;cases h0
  |true=>
   simp only[opx,av,hval,cond_true,cJ,bV.val.injEq] at h;obtain rfl:=push_inj (h J).2;obtain rfl:=G5 (g:=λn=>jN n 0) (λcT=>(h cT).1.symm);have gL:=(c.ar hx av).cells;simp only[execOp,ho];refine⟨.pointer (some ⟨w.heap.size,0,none⟩),{w with heap:=w.heap.push (.cells (a.eval x).cells t)},.cells (a.eval x).cells t,by simp[Instr.box,newVar,newRow],rfl,rfl,rfl,rfl,?_,λjm qF De Df id oG _=>.p oG⟩;exact .cells (by have:=gL.1;simp at this;omega) (λi h h'=>by have:=gL.2 i h (by simpa using h');simpa using this) (λi _=>by simp) (LA (c.ar hx av) hval)
 ·-- a slice:one new row,made as 'c5U c5V
  simp only[cop,ho,en,dP] at ab;obtain⟨⟨e,aa⟩,he,z,bb,l,hl,ab⟩:=ab;split at ab<;>cases ab;rename_i f_;obtain⟨hu,an⟩:=zX he;have h0:=h J;simp only[opx] at h0;split at h0<;>try (cases h0;done)
  rename_i cs s7;simp only[opx,s7,cJ,bV.val.injEq] at h;obtain rfl:=push_inj (h J).2;obtain rfl:=G5 (g:=λk=>.ao k 0 n aa (some n)) (λcT=>(h cT).1.symm);simp only[execOp,ho];have hall:iR (λ(p:Nat×Nat×aI) (q:Nat×Value)=>(p.1=q.1/\p.2.1=shN aa)/\∀v,evalA env ao p.2.2=some v->R w m (bp J m) B v q.2) (l.map λp=>(p.1,shN aa,p.2)) ((aE.map λ(x:Nat×Operand)=>(x.1,a.eval x.2)).toList):=by
   rw[ug];have:=CA (g:=λ(x:Nat×Operand)=>(x.1,a.eval x.2)) (r:=λ(p:Nat×aI) (q:Nat×Value)=>p.1=q.1/\∀v,evalA env ao p.2=some v->R w m (bp J m) B v q.2) (λp q hp=>by
    split at hp<;>cases hp;rename_i x h2;exact⟨rfl,λv av=>c.ar h2 av⟩) hl
   revert this;generalize aE.toList.map (λ(x:Nat×Operand)=>(x.1,a.eval x.2))=gS;clear s7 hl h h0 ha
   induction l generalizing gS with
   |nil=>cases gS<;>exact id
   |cons p l aH=>
    cases gS with
    |nil=>exact id
    |cons q gS=>
     rintro⟨⟨h1,h2⟩,h3⟩;exact⟨⟨⟨h1,rfl⟩,h2⟩,aH gS h3⟩
  obtain⟨arr,cb,gL,kx,cv⟩:=b1X (J:=J) (m:=m) (B:=B) hu an bb f_.2 f_.1 hall s7;refine⟨.slice (some ⟨w.heap.size,0,none⟩) n n,{w with heap:=w.heap.push (.cells arr e)},.cells arr e,by simp[cb],rfl,rfl,rfl,rfl,?_,λjm qF De Df id oG jU=>?_⟩
  ·exact .cells (by have:=gL.1;simp at this;omega) (λi h h'=>by have:=gL.2 i h (by simpa using h');simpa using this) (λi _=>by simp) kx
  ·exact .ao oG (br _) (λc ab=>by cases ab;rfl) (n:=arr.size) (by unfold eD;rw[jU]) U
 ·simp only[cop,ho] at ab;simp only[execOp,ho];have key:(Instr.makeMap t (r.map a.eval)).run P w= .ok (.map (some w.heap.size)) {w with heap:=w.heap.push (.map #[] 0)}/\cH= .mkMap:=by
   split at ab<;>cases ab
   ·exact⟨by simp[Instr.makeMap],rfl⟩
   ·rename_i ht;exact⟨by simp[Instr.makeMap,run_underlying ht,Act.eval,asInt,asIntOf],rfl⟩
  obtain⟨key,rfl⟩:=key;simp only[opx,cJ,bV.val.injEq] at h;obtain rfl:=push_inj (h J).2;obtain rfl:=G5 (g:=λn=>.m (some n)) (λcT=>(h cT).1.symm);exact⟨.map (some w.heap.size),{w with heap:=w.heap.push (.map #[] 0)},.map #[] 0,by simp[key],rfl,rfl,rfl,rfl,.map I (λi h=>by simp at h),λjm qF De Df id oG _=>.mp oG⟩
theorem Rel.MS(al:Rel P J w m B){id:Nat}(oG:id<J.next)(hm:m id=none){aw:World}{bU:Obj}(hg:J.get id=some cV)(hh:aw.heap=w.heap.push bU)(lF:mx P w m (bp J m) B cV bU):
  Rel P J aw (bindM m id w.heap.size) B/\(∀i b,m i=some b->bindM m id w.heap.size i=some b)/\w.heap.size<=aw.heap.size/\(∀b n,eD w b=some n->eD aw b=some n)∧
   (∀b,b<w.heap.size->aw.heap[b]? =w.heap[b]?)/\(∀aF,aF<w.heap.size->¬bp J m aF->aw.heap[aF]? =w.heap[aF]? ∧¬bp J (bindM m id w.heap.size) aF)/\aw.heap[w.heap.size]? =some bU:=by
 have cv:aw.heap.size=w.heap.size+1:=by rw[hh];simp
 have hold:∀b,b<w.heap.size->aw.heap[b]? =w.heap[b]? :=λb hb=>by
  rw[hh,K4];rw[if_neg U]
 have jx:aw.heap[w.heap.size]? =some bU:=by rw[hh];simp
 have jB:∀i b,m i=some b->bindM m id w.heap.size i=some b:=λi b h=>by
  rw[iQ m _ _ (λe=>by subst e;rw[hm] at h;cases h)];exact h
 have hj:∀b n,eD w b=some n->eD aw b=some n:=by
  intro b n hb;have:b<w.heap.size:=by
   rcases nC b w.heap.size with h|h
   ·exact h
   ·simp[eD,zt h] at hb
  unfold eD at hb ⊢;rw[hold b this];exact hb
 have Dg:∀aF,aF<w.heap.size->¬bp J m aF->aw.heap[aF]? =w.heap[aF]? ∧¬bp J (bindM m id w.heap.size) aF:=λaF hb cp=>by
  refine⟨hold aF hb,?_⟩;rintro⟨i,h1,h2⟩;by_cases hi:i=id
  ·subst hi;rw[hD] at h1;cases h1;omega
  ·rw[iQ m _ _ hi] at h1;exact cp ⟨i,h1,h2⟩
 refine⟨⟨al.len,?_,?_,?_,?_,by have:=al.mz;omega⟩,jB,U,hj,hold,Dg,jx⟩
 ·intro i b h;by_cases hi:i=id
  ·subst hi;rw[hD] at h;cases h;exact⟨U,oG⟩
  ·rw[iQ m _ _ hi] at h;have:=al.fU _ _ h;exact⟨U,this.2⟩
 ·intro i b dJ h tc hd;by_cases hi:i=id
  ·subst hi;rw[hD] at h;cases h;rw[hg] at tc;cases tc;exact⟨bU,jx,lF.mono jB U hj Dg⟩
  ·rw[iQ m _ _ hi] at h;obtain⟨hE,h1,h2⟩:=al.obj i b dJ h tc hd;exact⟨hE,by rw[hold _ (al.fU _ _ h).1];exact h1,h2.mono jB U hj Dg⟩
 ·intro i l3 b h h' hl ry;by_cases hi:i=id
  ·by_cases dc:l3=id
   ·rw[hi,dc]
   ·subst hi;rw[hD] at h;cases h;rw[iQ m _ _ dc] at h';have:=(al.fU _ _ h').1;omega
  ·rw[iQ m _ _ hi] at h;by_cases dc:l3=id
   ·subst dc;rw[hD] at h';cases h';have:=(al.fU _ _ h).1;omega
   ·rw[iQ m _ _ dc] at h';exact al.inj i l3 b h h' hl ry
 ·intro i b h;by_cases hi:i=id
  ·subst hi;rw[hD] at h;cases h;exact al.mz
  ·rw[iQ m _ _ hi] at h;exact al.base _ _ h
theorem e4.mono{ad:Fr}{ag:ae}{aw:World}{aW:Nat->Option Nat}(s:e4 P env ad a J w m B)(rD:Rel P ag aw aW B)(hm:∀id aF,m id=some aF->aW id=some aF)(cv:w.heap.size<=aw.heap.size)
  (hj:∀b n,eD w b=some n->eD aw b=some n) (ay:∀aF,aF<w.heap.size->¬bp J m aF->aw.heap[aF]? =w.heap[aF]? ∧¬bp ag aW aF):e4 P env ad a ag aw aW B:=
 ⟨⟨rD,s.ctx.bf.mono hm cv hj ay,λg v hg eE=>(s.ctx.globs g v hg eE).mono (λ_ _ h=>h) cv hj (λb hb cp=>⟨(ay b hb (λ⟨i,h1,_⟩=>cp (s.ctx.rel.base _ _ h1))).1,cp⟩)⟩,
  CU (λd je hd=>by
   cases d with
   |inl id=>obtain⟨aF,h1,h2⟩:=hd;exact⟨aF,hm _ _ h1,h2⟩
   |inr p=>obtain⟨g,a8,cs,gR,fv,us,h1,h2,h3,aQ,bF⟩:=hd;exact⟨g,a8,cs,gR,fv,us,h1,h2,h3.mono hm cv hj ay,aQ.mono hm cv hj ay,bF.mono hm cv hj ay⟩) s.defs⟩
theorem Vo(al:Rel P J w m B)(o:AO)(aF:Nat):bp (J.push o) m aF↔bp J m aF:=by
 constructor
 ·rintro⟨i,h1,dJ,h2,h3⟩;rw[ae.gw al.len o (al.fU _ _ h1).2] at h2;exact⟨i,h1,dJ,h2,h3⟩
 ·rintro⟨i,h1,dJ,h2,h3⟩;exact⟨i,h1,dJ,by rw[ae.gw al.len o (al.fU _ _ h1).2];exact h2,h3⟩
theorem Rel.Dh(al:Rel P J w m B)(o:AO):Rel P (J.push o) w m B:=by
 have ay:∀aF,aF<w.heap.size->¬bp J m aF->w.heap[aF]? =w.heap[aF]? ∧¬bp (J.push o) m aF:=λaF _ cp=>⟨rfl,λh=>cp ((Vo al o aF).1 h)⟩
 refine⟨trivial,λi b h=>⟨(al.fU _ _ h).1,Ca (al.fU _ _ h).2⟩,λi b dJ h hg hd=>?_,λi l3 b h h' hl ry=>?_,al.base,al.mz⟩
 ·rw[ae.gw al.len o (al.fU _ _ h).2] at hg;obtain⟨hE,h1,h2⟩:=al.obj i b dJ h hg hd;exact⟨hE,h1,h2.mono (λ_ _ h=>h) (br _) (λ_ _ h=>h) ay⟩
 ·refine al.inj i l3 b h h' ?_ ?_
  ·obtain⟨dJ,h2,h3⟩:=hl;rw[ae.gw al.len o (al.fU _ _ h).2] at h2;exact⟨dJ,h2,h3⟩
  ·obtain⟨dJ,h2,h3⟩:=ry;rw[ae.gw al.len o (al.fU _ _ h').2] at h2;exact⟨dJ,h2,h3⟩
theorem e4.Dh{ad:Fr}(s:e4 P env ad a J w m B)(o:AO):e4 P env ad a (J.push o) w m B:=
 s.mono (s.ctx.rel.Dh o) (λ_ _ h=>h) (br _) (λ_ _ h=>h) (λaF _ cp=>⟨rfl,λh=>cp ((Vo s.ctx.rel o aF).1 h)⟩)
theorem Ext.Dh{dg:ae}{fo:World}{e0:Nat->Option Nat}(h:Ext f dg fo e0 J w m)(hl:True)(o:AO):Ext f dg fo e0 (J.push o) w m where
 mono:=h.mono
 new:=h.new
 next:=o_ h.next (K5 _)
 size:=h.size
 bI:=h.bI
 aS:=h.aS
 low id h1 h2:=by rw[ae.gw hl o (vX h2 h.next)];exact h.low id h1 h2
 dead id h1 h2:=h.dead id h1 (by
  obtain⟨dJ,h3,aQ⟩:=h2;rw[ae.gw hl o (vX h1 h.next)] at h3;exact⟨dJ,h3,aQ⟩)
 os:=h.os
 tape:=h.tape
 out:=h.out
 un id h1 h2:=by rw[ae.gw hl o (vX h1 h.next)];exact h.un id h1 h2
theorem Ext.MS{dg:ae}{fo:World}{e0:Nat->Option Nat}(h:Ext f dg fo e0 J w m){id:Nat}(oG:dg.next<=id){aw:World}{bU:Obj}(hm:m id=none)(hh:aw.heap=w.heap.push bU)(l2:aw.os=w.os)(pf:aw.tape=w.tape)(lE:aw.output=w.output):
  Ext f dg fo e0 J aw (bindM m id w.heap.size):=by
 have cv:aw.heap.size=w.heap.size+1:=by rw[hh];simp
 have hold:∀b,b<w.heap.size->aw.heap[b]? =w.heap[b]? :=λb hb=>by
  rw[hh,K4];rw[if_neg U]
 refine⟨λi b hb=>?_,λi b hb=>?_,h.next,by have:=h.size;omega,λb n hb=>?_,λb hb cp=>?_,h.low,h.dead,l2.trans h.os,pf.trans h.tape,lE.trans h.out,h.un⟩
 ·have:=h.mono _ _ hb;rw[iQ m _ _ (λe=>by subst e;rw[hm] at this;cases this)];exact this
 ·by_cases hi:i=id
  ·subst hi;rw[hD] at hb;cases hb;exact .inr ⟨oG,.inl h.size⟩
  ·rw[iQ m _ _ hi] at hb;exact h.new _ _ hb
 ·have h1:=h.bI _ _ hb;have:b<w.heap.size:=by
   rcases nC b w.heap.size with h|h
   ·exact h
   ·simp[eD,zt h] at h1
  unfold eD at h1 ⊢;rw[hold b this];exact h1
 ·rw[hold b (by have:=h.size;omega)];exact h.aS b hb cp
end
def DStep(env:Env)(f:Nat)(call:mv)(aZ:a3)(s:a1 AV)(J:ae)(v:AV)(b2:ae):Prop:=
 (wantedA aZ.guard s=false/\v=ea/\b2=J)∨
 (wantedA aZ.guard s=true/\opx f (evalA env s) J aZ.op=some (.val v b2))∨
 (wantedA aZ.guard s=true/\∃cr args,opx f (evalA env s) J aZ.op=some (.call cr args)/\call cr args J=some [(.ok v,b2)])
noncomputable def oH (s:a1 AV) (d:Option Nat) (v:AV):a1 AV:=match d with|some d=>s.set d v|none=>s
theorem b1Z(ad:Fr)(d:Option Nat)(v:AV):(ad.put d v).bf=oH ad.bf d v:=by
 cases d<;>rfl
theorem put_eq(ao:a1 AV)(ds:List (Nat ⊕ (AV×List AV)))(rc:Bool)(d:Option Nat)(v:AV):Fr.put ⟨ao,ds,rc⟩ d v=⟨oH ao d v,ds,rc⟩:=by
 cases d with
 |none=>rfl
 |some d=>rfl
theorem put_defers(ad:Fr)(d:Option Nat)(v:AV):(ad.put d v).defers=ad.defers/\(ad.put d v).fS=ad.fS:=by
 cases d<;>exact⟨rfl,rfl⟩
structure Trace(env:Env)(f:Nat)(call:mv)(pl:List a3)(s:Nat->a1 AV)(S:Nat->ae)(v:Nat->AV):Prop where
 step:∀(p:Nat) (aZ:a3),pl[p]? =some aZ->DStep env f call aZ (s p) (S p) (v p) (S (p+1))
 put:∀(p:Nat) (aZ:a3),pl[p]? =some aZ->s (p+1)=oH (s p) aZ.dst (v p)
def MT(env:Env)(f:Nat)(call:mv)(pl:List a3)(ad bc:Fr)(cO fe:List ae)(ws rO:List sR)(J ag:ae):Prop:=
 ∃s S v,Trace env f call pl s S v/\s 0=ad.bf/\S 0=J/\s pl.length=bc.bf/\S pl.length=ag/\bc.defers=ad.defers/\bc.fS=ad.fS∧
  (ag::fe).reverse=cO.reverse++(List.range (pl.length+1)).map S/\(∀x∈ws,x∈rO)∧
  ∀p aZ,pl[p]? =some aZ->wantedA aZ.guard (s p)=true->aZ.op.fT=false->aZ.j_≠[]->(aZ,s p,v p)∈rO
section
variable {env:Env}{f:Nat}{call:mv}
theorem MU{o:a3}{pl:List a3}{ad bc:Fr}{cO fe:List ae}{ws MV rO:List sR}{J b2 ag:ae}{v0:AV}(an:DStep env f call o ad.bf J v0 b2)
  (aH:MT env f call pl (ad.put o.dst v0) bc (J::cO) fe MV rO b2 ag) (b2a:∀x∈ws,x∈MV)
  (b2b:wantedA o.guard ad.bf=true->o.op.fT=false->o.j_≠[]->(o,ad.bf,v0)∈MV):MT env f call (o::pl) ad bc cO fe ws rO J ag:=by
 obtain⟨s,S,v,ht,h1,h2,h3,aQ,bF,cw,eL,iF,oB⟩:=aH;obtain⟨pC,th⟩:=put_defers ad o.dst v0;refine⟨λp=>Nat.casesOn p ad.bf s,λp=>Nat.casesOn p J S,λp=>Nat.casesOn p v0 v,⟨λp aZ au=>?_,λp aZ au=>?_⟩,rfl,rfl,h3,aQ,bF.trans pC,cw.trans th,?_,λx hx=>iF x (b2a x hx),λp aZ au hw he hn=>?_⟩
 ·cases p with
  |zero=>simp at au;subst au;show DStep env f call o ad.bf J v0 (S 0);rw[h2];exact an
  |succ p=>exact ht.step p aZ (by simpa using au)
 ·cases p with
  |zero=>simp at au;subst au;show s 0=oH ad.bf o.dst v0;rw[h1,b1Z]
  |succ p=>exact ht.put p aZ (by simpa using au)
 ·rw[eL,gp,List.range_succ_eq_map (n:=pl.length+1)];simp only[List.reverse_cons,pb,mm,jA,List.singleton_append];rfl
 ·cases p with
  |zero=>simp at au;subst au;exact iF _ (b2b hw he hn)
  |succ p=>exact oB p aZ (by simpa using au) hw he hn
theorem runDraw_cons(o:a3)(pl:List a3)(ad:Fr)(cO:List ae)(ws:List sR)(J:ae):jg env f call (o::pl) ad cO ws J=
  cond (wantedA o.guard ad.bf)
   (match opx f (evalA env ad.bf) J o.op with
    |some (.val v ag)=>jg env f call pl (ad.put o.dst v) (J::cO) (match o.j_ with|[]=>ws|_::_=>(o,ad.bf,v)::ws) ag
    |some (.call cr args)=>match call cr args J with
     |some [(.ok v,ag)]=>jg env f call pl (ad.put o.dst v) (J::cO) ws ag
     |_=>none
    |_=>none)
   (jg env f call pl (ad.put o.dst ea) (J::cO) ws J):=by
 rw[<-x1,← Tb,← Tc,← Ln];rfl
theorem G6:∀(pl:List a3) (ad bc:Fr) (cO fe:List ae) (ws rO:List sR) (J ag:ae),jg env f call pl ad cO ws J=some (bc,fe,rO,ag)->MT env f call pl ad bc cO fe ws rO J ag
 |[],ad,bc,cO,fe,ws,rO,J,ag,h=>by
  have h:some (ad,cO,ws,J)=some (bc,fe,rO,ag):=h;cases h;exact⟨λ_=>ad.bf,λ_=>J,λ_=>ea,⟨λp aZ au=>by simp at au,λp aZ au=>by simp at au⟩,rfl,rfl,rfl,rfl,rfl,rfl,aG,λ_ h=>h,λp aZ au=>by simp at au⟩
 |o::pl,ad,bc,cO,fe,ws,rO,J,ag,h=>by
  rw[runDraw_cons] at h;cases hw:wantedA o.guard ad.bf with
  |false=>
   rw[hw,cond_false] at h;exact MU (.inl ⟨hw,rfl,rfl⟩) (G6 pl _ _ _ _ _ _ _ _ h) (λ_ h=>h) (λh=>by rw[hw] at h;cases h)
  |true=>
   rw[hw,cond_true] at h;split at h
   ·rename_i v b2 hx;refine MU (.inr (.inl ⟨hw,hx⟩)) (G6 pl _ _ _ _ _ _ _ _ h) (λx hx=>?_) (λ_ _ hn=>?_)
    ·split
     ·exact hx
     ·exact iM _ hx
    ·split
     ·rename_i he;exact absurd he hn
     ·exact Cc
   ·rename_i cr args hx;split at h
    ·rename_i v b2 gq;obtain⟨c,as,eb,_,_⟩:=v7 hx;exact MU (.inr (.inr ⟨hw,cr,args,hx,gq⟩)) (G6 pl _ _ _ _ _ _ _ _ h) (λ_ h=>h) (λ_ he=>by rw[eb] at he;cases he)
    ·cases h
   ·cases h
end
structure hI(P:Program)(env:Env)(B f:Nat)(r:Option Nat)(ops:Array Oper)(pl:List a3)(bk c8:Nat->Nat)(da:Nat->Nat->Bool)(call:mv)(s:Nat->a1 AV)(S:Nat->ae)(v:Nat->AV):Prop where
 spec:U9 P ops pl bk c8 da
 b2c:CV P env B f r call
 n1:Trace env f call pl s S v
 steady:∀(p:Nat) (aZ:a3),pl[p]? =some aZ->wantedA aZ.guard (s p)=true->aZ.op.fT=false->∀q∈aZ.j_,∃cT,opx f (evalA env (s p)) (S q) aZ.op=some (.val (v p) cT)
 lL:∀p q,Da pl da p q->∀bP eQ s1 a2 fR s2 bm pB,pl[p]? =some bP->pl[q]? =some eQ->bP.op= .store s1 a2 fR->eQ.op= .store s2 bm pB->∃i Ak j Al,evalA env (s p) a2=some (.p (some (i,Ak)))/\evalA env (s q) bm=some (.p (some (j,Al)))/\i≠j
def dt(bk:Nat->Nat)(listed:Array Bool)(p:Nat):Prop:=listed.getD (bk p) false=true
structure wh(pl:List a3)(v:Nat->AV)(Am:a1 AV)(D:Nat->Prop)(di:a1 AV):Prop where
 fU:∀t,(di.get t).isSome=(Am.get t).isSome
 mH:∀(p:Nat) (aZ:a3) (t:Nat),pl[p]? =some aZ->D p->aZ.dst=some t->(Am.get t).isSome=true->di.get t=some (v p)
 ye:∀(t:Nat),(∀(p:Nat) (aZ:a3),pl[p]? =some aZ->D p->aZ.dst≠some t)->di.get t=Am.get t
structure pD(pl:List a3)(s:Nat->a1 AV)(S:Nat->ae)(dg:ae)(D:Nat->Prop)(m:Nat->Option Nat)(k:Nat):Prop where
 one:∀(p:Nat) (aZ:a3),p<k->pl[p]? =some aZ->aZ.op.k3=true->wantedA aZ.guard (s p)=true->¬D p->m (S p).next=none/\dg.next<=(S p).next/\(S p).next<(S k).next/\(S k).get (S p).next=(S (p+1)).get (S p).next
 lt:∀(p eJ:Nat) (aZ hQ:a3),p<eJ->eJ<k->pl[p]? =some aZ->pl[eJ]? =some hQ->aZ.op.k3=true->hQ.op.k3=true->wantedA aZ.guard (s p)=true->wantedA hQ.guard (s eJ)=true->¬D p->¬D eJ->(S p).next<(S eJ).next
section
variable {P:Program}{env:Env}{B f:Nat}{r:Option Nat}{ops:Array Oper}{pl:List a3}{bk c8:Nat->Nat}{da:Nat->Nat->Bool}{call:mv}{s:Nat->a1 AV}{S:Nat->ae}{v:Nat->AV}
theorem hI.lt(c:hI P env B f r ops pl bk c8 da call s S v){p:Nat}{aZ:a3}(h:pl[p]? =some aZ):p<ops.size:=by
 have:=(fC.1 h).1;have:=c.spec.len;omega
theorem hI.get(c:hI P env B f r ops pl bk c8 da call s S v){p:Nat}(h:p<ops.size):∃aZ,pl[p]? =some aZ:=
 ⟨_,cK (by have:=c.spec.len;omega)⟩
theorem hI.Dc(c:hI P env B f r ops pl bk c8 da call s S v){p q:Nat}{aZ dA:a3}{d:Nat}(au:pl[p]? =some aZ)(aX:pl[q]? =some dA)(h1:aZ.dst=some d)(h2:dA.dst=some d):p=q:=by
 rcases vY p q with h|h|h
 ·exact absurd h2 (c.spec.Dc p q aZ dA d h au aX h1)
 ·exact h
 ·exact absurd h1 (c.spec.Dc q p dA aZ d h aX au h2)
theorem Vp{di:a1 AV}{d:Option Nat}{t:Nat}(h:d≠some t)(x:AV):(oH di d x).get t=di.get t:=by
 cases d with
 |none=>rfl
 |some e=>
  show(di.set e x).get t=_;rw[a1.jh,if_neg (λhe=>h (by rw[he]))]
theorem wh.put(c:hI P env B f r ops pl bk c8 da call s S v){Am di:a1 AV}{D ma:Nat->Prop}(h:wh pl v Am D di){p:Nat}{aZ:a3}(au:pl[p]? =some aZ)(dL:¬D p)(An:∀(q:Nat) (dA:a3),pl[q]? =some dA->(ma q↔D q\/q=p)):wh pl v Am ma (oH di aZ.dst (v p)):=by
 refine⟨λt=>?_,λq dA t aX hd ht hlt=>?_,λt hm=>?_⟩
 ·rw[<-h.fU t];cases jj:aZ.dst with
  |none=>rfl
  |some e=>
   show((di.set e (v p)).get t).isSome=_;rw[a1.jh];by_cases he:t=e
   ·subst he;rw[if_pos I];cases di.get t<;>rfl
   ·rw[if_neg he]
 ·rcases(An q dA aX).1 hd with hd|rfl
  ·have a5:aZ.dst≠some t:=λe=>by
    have:=c.Dc au aX e ht;subst this;exact dL hd
   rw[<-h.mH q dA t aX hd ht hlt];exact Vp a5 _
  ·rw[au] at aX;cases aX;rw[ht];show(di.set t (v q)).get t=_;rw[a1.jh,if_pos I];have:=h.fU t;rw[hlt] at this;cases hg:di.get t with
   |none=>rw[hg] at this;cases this
   |some y=>rfl
 ·have a5:=hm p aZ au ((An p aZ au).2 (.inr I));rw[<-h.ye t (λq dA aX hd=>hm q dA aX ((An q dA aX).2 (.inl hd)))];exact Vp a5 _
theorem MW(c:hI P env B f r ops pl bk c8 da call s S v):∀k,k<=ops.size->wh pl v (s 0) (· <k) (s k)
 |0,_=>⟨λ_=>rfl,λp aZ t au hd=>by omega,λt _=>rfl⟩
 |k+1,ay=>by
  obtain⟨aZ,mb⟩:=c.get (p:=k) U;rw[c.n1.put k aZ mb];exact(MW c k U).put c mb (Nat.lt_irrefl k) (λq dA _=>⟨λh=>by have:q<k+1:=h;show q<k\/q=k;omega,λh=>by show q<k+1;rcases h with h|h<;>omega⟩)
theorem Vq(c:hI P env B f r ops pl bk c8 da call s S v){di:a1 AV}{D:Nat->Prop}(h:wh pl v (s 0) D di){p:Nat}{aZ:a3}(au:pl[p]? =some aZ)(dL:¬D p)
  (jl:∀q,da q p=true->D q) (gq:∀q,q<ops.size->D q->∀x,da x q=true->D x):∀t∈aZ.reads,di.get t=(s p).get t:=by
 intro t ht;have jS:=c.lt au;have ab:=MW c p U;by_cases hex:∃(q:Nat) (dA:a3),pl[q]? =some dA/\dA.dst=some t
 ·obtain⟨q,dA,aX,Di⟩:=hex;have Vr:∀nd yf,pl[nd]? =some yf->yf.dst=some t->nd=q:=λnd yf h1 h2=>c.Dc h1 aX h2 Di;have Vs:¬D q->di.get t=(s 0).get t:=λhnd=>h.ye t (λnd yf h1 hd h2=>by have:=Vr nd yf h1 h2;subst this;exact hnd hd);have Vt:¬q<p->(s p).get t=(s 0).get t:=λhnd=>ab.ye t (λnd yf h1 hd h2=>by have:=Vr nd yf h1 h2;subst this;exact hnd hd);by_cases hlt:((s 0).get t).isSome=true
  ·rcases vY q p with yg|yg|yg
   ·have Dj:D q:=by
     rcases c.spec.Va q p dA aZ yg aX au with h1|h1
     ·exact jl q h1
     ·exact absurd ht (h1.1 t Di)
    rw[h.mH q dA t aX Dj Di hlt,ab.mH q dA t aX yg Di hlt]
   ·subst yg;rw[Vs dL,Vt U]
   ·have Dj:¬D q:=λDj=>by
     rcases c.spec.Va p q aZ dA yg au aX with h1|h1
     ·exact dL (gq q (c.lt aX) Dj p h1)
     ·exact absurd ht (h1.2 t Di)
    rw[Vs Dj,Vt U]
  ·have aR:=h.fU t;have a6:=ab.fU t;cases hg:(s 0).get t with
   |some y=>rw[hg] at hlt;exact absurd I hlt
   |none=>
    rw[hg] at aR a6;cases tc:di.get t with
    |some y=>rw[tc] at aR;cases aR
    |none=>
     cases zS:(s p).get t with
     |some y=>rw[zS] at a6;cases a6
     |none=>rfl
 ·rw[h.ye t (λq dA h1 _ h2=>hex ⟨q,dA,h1,h2⟩),ab.ye t (λq dA h1 _ h2=>hex ⟨q,dA,h1,h2⟩)]
theorem Vu{di sp:a1 AV}{aZ:a3}(h:∀t∈aZ.reads,di.get t=sp.get t):∀x∈aZ.op.opnds,evalA env di x=evalA env sp x:=by
 intro x hx;cases x with
 |t i=>
  show di.get i=sp.get i;exact h i (Ul _ (List.mem_filterMap.2 ⟨_,hx,rfl⟩))
 |c v=>rfl
 |g g=>rfl
theorem Vv{di sp:a1 AV}{aZ:a3}(h:∀t∈aZ.reads,di.get t=sp.get t):wantedA aZ.guard di=wantedA aZ.guard sp:=by
 cases hg:aZ.guard with
 |none=>rfl
 |some g=>
  obtain⟨d,b⟩:=g;simp only[wantedA];rw[h d (by simp[a3.reads,hg])]
theorem b2d{op:AOp}(h:op.k3=true):op.fT=false:=by
 cases op<;>first|rfl|cases h
theorem hI.calm(c:hI P env B f r ops pl bk c8 da call s S v){p:Nat}{aZ:a3}(au:pl[p]? =some aZ)(he:aZ.op.fT=false):
  S (p+1)=S p/\(aZ.op.k3=false\/wantedA aZ.guard (s p)=false)\/∃cV,aZ.op.k3=true/\wantedA aZ.guard (s p)=true/\S (p+1)=(S p).push cV:=by
 rcases c.n1.step p aZ au with⟨h1,_,h2⟩|⟨h1,h2⟩|⟨h1,cr,args,h2,_⟩
 ·exact .inl ⟨h2,.inr h1⟩
 ·cases ha:aZ.op.k3 with
  |false=>
   obtain⟨bM,h3,_⟩:=G4 he ha h2;simp only[bV.val.injEq] at h3;exact .inl ⟨h3.2,.inl I⟩
  |true=>
   obtain⟨cV,qE,h3,_,_⟩:=Vn ha h2;simp only[bV.val.injEq] at h3;exact .inr ⟨cV,rfl,h1,h3.2⟩
 ·obtain⟨aq,as,eb,_,_⟩:=v7 h2;rw[eb] at he;cases he
theorem advance(c:hI P env B f r ops pl bk c8 da call s S v){ad:Fr}{a:Act}{w fo:World}{m e0:Nat->Option Nat}{dg:ae}{D:Nat->Prop}:∀(d k:Nat),k+d<=ops.size->(∀p aZ,k<=p->p<k+d->pl[p]? =some aZ->aZ.op.fT=false)→
  e4 P env ad a (S k) w m B->Ext f dg fo e0 (S k) w m->pD pl s S dg D m k->e4 P env ad a (S (k+d)) w m B/\Ext f dg fo e0 (S (k+d)) w m/\pD pl s S dg D m (k+d)
 |0,k,_,_,h1,h2,h3=>⟨h1,h2,h3⟩
 |d+1,k,ay,nV,h1,h2,h3=>by
  obtain⟨i1,i2,i3⟩:=advance c d k U (λp aZ aQ bF=>nV p aZ aQ U) h1 h2 h3;obtain⟨aZ,mb⟩:=c.get (p:=k+d) U;have he:=nV (k+d) aZ U U mb;show e4 P env ad a (S (k+d+1)) w m B/\Ext f dg fo e0 (S (k+d+1)) w m/\pD pl s S dg D m (k+d+1);rcases c.calm mb he with⟨cW,lF⟩|⟨cV,kc,hw,cW⟩
  ·have Vw:∀p hQ,p<k+d+1->pl[p]? =some hQ->hQ.op.k3=true->wantedA hQ.guard (s p)=true->p<k+d:=λp hQ au hg ha hw=>by
    rcases nC p (k+d) with h|h
    ·exact h
    ·have:p=k+d:=by omega
     subst this;rw[mb] at hg;cases hg;rcases lF with h|h
     ·rw[ha] at h;cases h
     ·rw[hw] at h;cases h
   refine⟨by rw[cW];exact i1,by rw[cW];exact i2,⟨λp hQ au hg ha hw hd=>?_,λp eJ G7 G8 au ql bL bQ a2 bm bW jm d1 d2=>?_⟩⟩
   ·obtain⟨rP,rQ,rR,uR⟩:=i3.one p hQ (Vw p hQ au hg ha hw) hg ha hw hd;exact⟨rP,rQ,by rw[cW];exact rR,by rw[cW];exact uR⟩
   ·exact i3.lt p eJ G7 G8 au (Vw eJ G8 ql bQ bm jm) bL bQ a2 bm bW jm d1 d2
  ·have hlen:=i1.ctx.rel.len;refine⟨by rw[cW];exact i1.Dh cV,by rw[cW];exact i2.Dh hlen cV,⟨λp hQ au hg ha hw hd=>?_,λp eJ G7 G8 au ql bL bQ a2 bm bW jm d1 d2=>?_⟩⟩
   ·rcases nC p (k+d) with h|h
    ·obtain⟨rP,rQ,rR,uR⟩:=i3.one p hQ h hg ha hw hd;refine⟨rP,rQ,by rw[cW];exact Ca rR,by rw[cW,ae.gw hlen cV rR];exact uR⟩
    ·have:p=k+d:=by omega
     subst this;exact⟨i1.ctx.rel.a7A,i2.next,by rw[cW];exact lB _,rfl⟩
   ·rcases nC eJ (k+d) with h|h
    ·exact i3.lt p eJ G7 G8 au h bL bQ a2 bm bW jm d1 d2
    ·have:eJ=k+d:=by omega
     subst this;exact(i3.one p G7 au bL a2 bW d1).2.2.1
end
structure Inv(P:Program)(env:Env)(B f:Nat)(ops:Array Oper)(pl:List a3)(bk:Nat->Nat)(da:Nat->Nat->Bool)(s:Nat->a1 AV)(S:Nat->ae)(v:Nat->AV)(ds:List (Nat ⊕ (AV×List AV)))(rc:Bool)(dg:ae)(fo:World)(e0:Nat->Option Nat)
  (listed:Array Bool) (a:Act) (w:World) (dM:Nat) (m:Nat->Option Nat) (di:a1 AV):Prop where
 uS:Rel P dg fo e0 B
 size:listed.size=ops.size
 closed:∀p,p<ops.size->dt bk listed p->∀q,da q p=true->dt bk listed q
 Vx:dM<=ops.size
 Ao:dM=ops.size\/∃(ek:a3),pl[dM]? =some ek/\ek.op.fT=true/\¬dt bk listed dM
 before:∀(e:Nat) (ek:a3),e<dM->pl[e]? =some ek->ek.op.fT=true->dt bk listed e
 after:∀(e:Nat) (ek:a3),dM<e->pl[e]? =some ek->ek.op.fT=true->¬dt bk listed e
 bf:wh pl v (s 0) (dt bk listed) di
 st:e4 P env ⟨di,ds,rc⟩ a (S dM) w m B
 ext:Ext f dg fo e0 (S dM) w m
 wi:pD pl s S dg (dt bk listed) m dM
section
variable {P:Program}{env:Env}{B f:Nat}{r:Option Nat}{ops:Array Oper}{pl:List a3}{bk c8:Nat->Nat}{da:Nat->Nat->Bool}{call:mv}{s:Nat->a1 AV}{S:Nat->ae}{v:Nat->AV}
variable {ds:List (Nat ⊕ (AV×List AV))}{rc:Bool}{dg:ae}{fo:World}{e0:Nat->Option Nat}{listed:Array Bool}{a:Act}{w:World}{dM:Nat}{m:Nat->Option Nat}{di:a1 AV}
theorem MX(c:hI P env B f r ops pl bk c8 da call s S v):∀(d k:Nat),k+d=ops.size->∃q,k<=q/\q<=ops.size/\(q=ops.size\/∃(ek:a3),pl[q]? =some ek/\ek.op.fT=true)/\∀(e:Nat) (ek:a3),k<=e->e<q->pl[e]? =some ek->ek.op.fT=false
 |0,k,h=>⟨k,br _,U,.inl U,λe ek h1 h2=>by omega⟩
 |d+1,k,h=>by
  obtain⟨aZ,mb⟩:=c.get (p:=k) U;cases he:aZ.op.fT with
  |true=>exact⟨k,br _,U,.inr ⟨aZ,mb,he⟩,λe ek h1 h2=>by omega⟩
  |false=>
   obtain⟨q,h1,h2,h3,aQ⟩:=MX c d (k+1) U;refine⟨q,U,h2,h3,λe ek bF cw eL=>?_⟩;rcases nC k e with iF|iF
   ·exact aQ e ek U cw eL
   ·have:e=k:=by omega
    subst this;rw[mb] at eL;cases eL;exact he
theorem Ap(c:hI P env B f r ops pl bk c8 da call s S v)(cv:listed.size=ops.size){p q:Nat}(au:p<ops.size)(aX:q<ops.size):dt bk (listed.setIfInBounds (bk p) true) q↔dt bk listed q\/q=p:=by
 have h1:=c.spec.pi p au;have h2:=c.spec.pi q aX;unfold dt;by_cases h:q=p
 ·subst h;simp[qd,cv,h1.1]
 ·have a5:bk p≠bk q:=λe=>h (by rw[<-h2.2,← e,h1.2]);rw[getD_set_ne false a5];simp[h]
theorem Vy(c:hI P env B f r ops pl bk c8 da call s S v)(cv:listed.size=ops.size){p:Nat}(au:p<ops.size)(h:listed.getD (bk p) true=false):¬dt bk listed p:=by
 have h1:=c.spec.pi p au;unfold dt;have hlt:bk p<listed.size:=by omega
 simp[qd,hlt] at h ⊢;exact h
theorem b2e(c:hI P env B f r ops pl bk c8 da call s S v)(inv:Inv P env B f ops pl bk da s S v ds rc dg fo e0 listed a w dM m di){i:Nat}(hi:i∈Region.ready .any ops listed):
  ∃p aZ o la,p<ops.size/\i=bk p/\pl[p]? =some aZ/\ops[i]? =some o/\coper P ops o=some la/\aZ.op=la.op/\aZ.dst=la.dst/\aZ.guard=la.guard/\¬dt bk listed p/\(∀q,da q p=true->dt bk listed q):=by
 obtain⟨h1,o,ho,h2⟩:=mem_ready.1 hi;have jR:i<ops.size:=(xt.1 ho).1;obtain⟨h3,aQ⟩:=c.spec.Db i jR;obtain⟨aZ,mb⟩:=c.get h3;obtain⟨bU,la,kP,ab,aR,a6,c0⟩:=c.spec.code _ aZ mb;rw[aQ,ho] at kP;cases kP;refine⟨c8 i,aZ,o,la,h3,aQ.symm,mb,ho,ab,aR,a6,c0,Vy c inv.size h3 (by rw[aQ];exact h1),λq aX=>?_⟩;obtain⟨bU,kP,e,he,hb,lF⟩:=c.spec.U_ (c8 i) h3 q aX;rw[aQ,ho] at kP;cases kP;have MY:=h2 e he hb;have vU:=c.spec.back (c8 i) h3 o (by rw[aQ];exact ho) e he hb;have wj:=c.spec.Db e.on vU.1;have Dk:dt bk listed (c8 e.on):=by unfold dt;rw[wj.2];exact MY
 rcases lF with rfl|lF
 ·exact Dk
 ·exact inv.closed _ wj.1 Dk q lF
theorem Inv.calm(c:hI P env B f r ops pl bk c8 da call s S v)(inv:Inv P env B f ops pl bk da s S v ds rc dg fo e0 listed a w dM m di){p:Nat}{aZ:a3}(au:pl[p]? =some aZ)(dL:¬dt bk listed p)(jl:∀q,da q p=true->dt bk listed q)(he:p≠dM)(a5:aZ.op.fT=false\/p<dM)
  {cL:Act} {aw:World} {aW:Nat->Option Nat} (st:e4 P env ⟨oH di aZ.dst (v p),ds,rc⟩ cL (S dM) aw aW B) (ext:Ext f dg fo e0 (S dM) aw aW) (wi:pD pl s S dg (dt bk (listed.setIfInBounds (bk p) true)) aW dM):
  Inv P env B f ops pl bk da s S v ds rc dg fo e0 (listed.setIfInBounds (bk p) true) cL aw dM aW (oH di aZ.dst (v p)):=by
 have jS:=c.lt au;have an:∀q,q<ops.size->(dt bk (listed.setIfInBounds (bk p) true) q↔dt bk listed q\/q=p):=λq aX=>Ap c inv.size jS aX;have jB:∀q,dt bk listed q->dt bk (listed.setIfInBounds (bk p) true) q:=λq aX=>by
  unfold dt at aX ⊢;by_cases h:bk p=bk q
  ·rw[<-h];simp[qd,inv.size,(c.spec.pi p jS).1]
  ·rw[getD_set_ne false h];exact aX
 refine⟨inv.uS,by simpa using inv.size,λq aX hd x hx=>?_,inv.Vx,?_,λe ek h1 h2 h3=>jB e (inv.before e ek h1 h2 h3),λe ek h1 h2 h3 aQ=>?_,inv.bf.put c au dL (λq dA aX=>an q (c.lt aX)),st,ext,wi⟩
 ·rcases(an q aX).1 hd with h|rfl
  ·exact jB x (inv.closed q aX h x hx)
  ·exact jB x (jl x hx)
 ·rcases inv.Ao with h|⟨ek,h1,h2,h3⟩
  ·exact .inl h
  ·exact .inr ⟨ek,h1,h2,λh=>by
    rcases(an dM (c.lt h1)).1 h with h|h
    ·exact h3 h
    ·exact he h.symm⟩
 ·rcases(an e (c.lt h2)).1 aQ with h|h
  ·exact inv.after e ek h1 h2 h3 h
  ·subst h;rcases a5 with a5|a5
   ·rw[au] at h2;cases h2;rw[a5] at h3;cases h3
   ·omega
theorem Inv.effect(c:hI P env B f r ops pl bk c8 da call s S v)(inv:Inv P env B f ops pl bk da s S v ds rc dg fo e0 listed a w dM m di){p:Nat}{aZ:a3}(au:pl[p]? =some aZ)(dL:¬dt bk listed p)(jl:∀q,da q p=true->dt bk listed q)(he:aZ.op.fT=true)(aX:p=dM)
  {cL:Act} {aw:World} {aW:Nat->Option Nat} (st:e4 P env ⟨oH di aZ.dst (v p),ds,rc⟩ cL (S (p+1)) aw aW B) (ext:Ext f (S p) w m (S (p+1)) aw aW):
  ∃Dl,Inv P env B f ops pl bk da s S v ds rc dg fo e0 (listed.setIfInBounds (bk p) true) cL aw Dl aW (oH di aZ.dst (v p)):=by
 have jS:=c.lt au;have an:∀q,q<ops.size->(dt bk (listed.setIfInBounds (bk p) true) q↔dt bk listed q\/q=p):=λq aX=>Ap c inv.size jS aX;have jB:∀q,dt bk listed q->dt bk (listed.setIfInBounds (bk p) true) q:=λq aX=>by
  unfold dt at aX ⊢;by_cases h:bk p=bk q
  ·rw[<-h];simp[qd,inv.size,(c.spec.pi p jS).1]
  ·rw[getD_set_ne false h];exact aX
 subst aX;obtain⟨q,h1,h2,h3,aQ⟩:=MX c (ops.size-(p+1)) (p+1) U;have b2f:pD pl s S dg (dt bk (listed.setIfInBounds (bk p) true)) aW (p+1):=by
  have back:∀eJ hQ,eJ<p+1->pl[eJ]? =some hQ->hQ.op.k3=true->¬dt bk (listed.setIfInBounds (bk p) true) eJ->eJ<p/\¬dt bk listed eJ:=λeJ hQ hlt hg ha hd=>by
   refine⟨?_,λh=>hd (jB eJ h)⟩;rcases nC eJ p with h|h
   ·exact h
   ·have:eJ=p:=by omega
    subst this;rw[au] at hg;cases hg;rw[b2d ha] at he;cases he
  refine⟨λeJ hQ hlt hg ha hw hd=>?_,λp1 p2 a2 bm hl n2 bL bQ Vz VA bW jm d1 d2=>?_⟩
  ·obtain⟨er,dy⟩:=back eJ hQ hlt hg ha hd;obtain⟨rP,rQ,rR,uR⟩:=inv.wi.one eJ hQ er hg ha hw dy;refine⟨?_,rQ,vX rR ext.next,by rw[ext.un _ rR rP];exact uR⟩;cases hm:aW (S eJ).next with
   |none=>rfl
   |some b=>
    rcases ext.new _ _ hm with h|⟨h,_⟩
    ·rw[rP] at h;cases h
    ·omega
  ·have dy:=back p2 bm n2 bQ VA d2;have er:=back p1 a2 U bL Vz d1;exact inv.wi.lt p1 p2 a2 bm hl dy.1 bL bQ Vz VA bW jm er.2 dy.2
 obtain⟨Dm,Dn,Dp⟩:=advance c (q-(p+1)) (p+1) U (λe ek bF cw eL=>aQ e ek bF U eL) st (inv.ext.trans inv.uS ext) b2f;have aX:p+1+(q-(p+1))=q:=by omega
 rw[aX] at Dm Dn Dp;refine⟨q,inv.uS,by simpa using inv.size,λx hx hd y hy=>?_,h2,?_,λe ek bF cw eL=>?_,λe ek bF cw eL iF=>?_,inv.bf.put c au dL (λx bP hx=>an x (c.lt hx)),Dm,Dn,Dp⟩
 ·rcases(an x hx).1 hd with h|rfl
  ·exact jB y (inv.closed x hx h y hy)
  ·exact jB y (jl y hy)
 ·rcases h3 with h|⟨ek,bF,cw⟩
  ·exact .inl h
  ·refine .inr ⟨ek,bF,cw,λh=>?_⟩;rcases(an q (c.lt bF)).1 h with h|h
   ·exact inv.after q ek U bF cw h
   ·omega
 ·rcases vY e p with iF|iF|iF
  ·exact jB e (inv.before e ek iF cw eL)
  ·exact(an e (c.lt cw)).2 (.inr iF)
  ·have:=aQ e ek U bF cw;rw[this] at eL;cases eL
 ·rcases(an e (c.lt cw)).1 iF with h|h
  ·exact inv.after e ek U cw eL h
  ·omega
end
theorem VB{f:Nat}{ar:aI->Option AV}{J b2:ae}{aa:Option Nat}{a x:aI}{v:AV}(h:opx f ar J (.store aa a x)=some (.val v b2)):
  ∃id off c gC,ar a=some (.p (some (id,off)))/\J.get id=some (.cells c)/\v=ea/\b2=J.set id (.cells gC)/\∀cT:ae,cT.get id=some (.cells c)->opx f ar cT (.store aa a x)=some (.val ea (cT.set id (.cells gC))):=by
 simp only[opx] at h;split at h<;>try (cases h;done)
 rename_i id off u ha hx;split at h<;>try (cases h;done)
 rename_i ef;split at h<;>try (cases h;done)
 rename_i iu;split at h<;>try (cases h;done)
 rename_i c hg;split at h<;>cases h;rename_i gC k7;refine⟨id,off,c,gC,ha,hg,rfl,rfl,λcT h2=>?_⟩;simp only[opx,ha,hx,h2,k7];rw[if_neg ef,if_pos iu]
section
variable {P:Program}{env:Env}{B f:Nat}{r:Option Nat}{ops:Array Oper}{pl:List a3}{bk c8:Nat->Nat}{da:Nat->Nat->Bool}{call:mv}{s:Nat->a1 AV}{S:Nat->ae}{v:Nat->AV}
theorem b2g(c:hI P env B f r ops pl bk c8 da call s S v){x y:Nat}(lL:Da pl da x y){bP eQ:a3}(hx:pl[x]? =some bP)(hy:pl[y]? =some eQ):
  bP.op.fT=true/\eQ.op.fT=true/\∃T lM,opx f (evalA env (s y)) (S x) eQ.op=some (.val (v y) T)/\opx f (evalA env (s x)) T bP.op=some (.val (v x) lM)/\wantedA bP.guard (s x)=true/\wantedA eQ.guard (s y)=true∧
   (∀id,lM.get id=(S ops.size).get id)/\lM.next=(S ops.size).next:=by
 obtain⟨VC,b2h,s1,a2,fR,s2,bm,pB,h1,h2,h3,aQ,bF,cw,eL,iF,_⟩:=lL.ops;rw[hx] at h1;cases h1;rw[hy] at h2;cases h2;have hp:=lL.G1;have hn:y+1=ops.size:=by have:=lL.last;have:=c.spec.len;omega
 have stx:=c.n1.step x bP hx;have b2i:=c.n1.step y eQ hy;have qG:wantedA bP.guard (s x)=true:=by rw[eL];rfl
 have wy:wantedA eQ.guard (s y)=true:=by rw[iF];rfl
 obtain⟨i,Ak,j,Al,aR,a6,g5⟩:=c.lL x y lL bP eQ s1 a2 fR s2 bm pB hx hy h3 aQ;have hP:opx f (evalA env (s x)) (S x) bP.op=some (.val (v x) (S (x+1))):=by
  rcases stx with⟨h,_⟩|⟨_,h⟩|⟨_,cr,args,h,_⟩
  ·rw[qG] at h;cases h
  ·exact h
  ·obtain⟨_,_,eb,_,_⟩:=v7 h;rw[h3] at eb;cases eb
 have VD:opx f (evalA env (s y)) (S y) eQ.op=some (.val (v y) (S (y+1))):=by
  rcases b2i with⟨h,_⟩|⟨_,h⟩|⟨_,cr,args,h,_⟩
  ·rw[wy] at h;cases h
  ·exact h
  ·obtain⟨_,_,eb,_,_⟩:=v7 h;rw[aQ] at eb;cases eb
 rw[h3] at hP;rw[aQ] at VD;obtain⟨c5W,c5X,gC,b2j,bL,bQ,cm,c7,dB⟩:=VB hP;obtain⟨c5Y,c5Z,lN,VE,bG,bw,bg,b9,c9⟩:=VB VD;rw[aR] at bL;cases bL;rw[a6] at bG;cases bG;have gr:=ae.bE bQ;rw[hp] at c7;have aC:(S x).get j=some (.cells lN):=by
  rw[c7,ae.jh trivial _ gr,if_neg (p9 g5)] at bw;exact bw
 have G9:=ae.bE aC;have iV:=c9 (S x) aC;have hi:((S x).set j (.cells VE)).get i=some (.cells gC):=by
  rw[ae.jh trivial _ G9,if_neg g5];exact bQ
 have b2k:=dB _ hi;refine⟨by rw[h3];rfl,by rw[aQ];rfl,_,_,by rw[aQ,bg];exact iV,by rw[h3,cm];exact b2k,qG,wy,λid=>?_,?_⟩
 ·rw[<-hn,b9,c7];have b2l:i<((S x).set j (.cells VE)).next:=gr;have b2m:j<((S x).set i (.cells b2j)).next:=G9;rw[ae.jh trivial _ b2l,ae.jh trivial _ G9,ae.jh trivial _ b2m,ae.jh trivial _ gr];by_cases h1:id=i
  ·by_cases h2:id=j
   ·exact absurd (h1.symm.trans h2) g5
   ·rw[if_pos h1,if_neg h2,if_pos h1]
  ·rw[if_neg h1];by_cases h2:id=j
   ·rw[if_pos h2,if_pos h2]
   ·rw[if_neg h2,if_neg h2,if_neg h1]
 ·rw[<-hn,b9,c7];rfl
theorem MZ{J ag:ae}(h:∀id,J.get id=ag.get id)(id:Nat):live J id↔live ag id:=by unfold live;rw[h id]
theorem b2n{J ag:ae}{m:Nat->Option Nat}(h:∀id,J.get id=ag.get id):bp J m=bp ag m:=by
 funext b
 simp only[bp,live,h]
theorem e4.congr{ad:Fr}{a:Act}{J ag:ae}{w:World}{m:Nat->Option Nat}(st:e4 P env ad a J w m B)(h:∀id,J.get id=ag.get id)(hn:J.next=ag.next):e4 P env ad a ag w m B:=by
 have ho:=b2n (m:=m) h;have al:=st.ctx.rel;have rD:Rel P ag w m B:=by
  refine⟨trivial,λid b hb=>by rw[<-hn];exact al.fU id b hb,λid b o h1 h2 h3=>?_,λi l3 b h1 h2 h3 aQ=>al.inj i l3 b h1 h2 ((MZ h i).2 h3) ((MZ h l3).2 aQ),al.base,al.mz⟩;rw[<-ho];exact al.obj id b o h1 (by rw[h id];exact h2) h3
 exact st.mono rD (λ_ _ h=>h) (br _) (λ_ _ h=>h) (λb _ hb=>⟨rfl,by rw[<-ho];exact hb⟩)
theorem Ext.congr{f:Nat}{dg J ag:ae}{fo w:World}{e0 m:Nat->Option Nat}(e:Ext f dg fo e0 J w m)(h:∀id,J.get id=ag.get id)(hn:J.next=ag.next):Ext f dg fo e0 ag w m:=
 ⟨e.mono,e.new,by rw[<-hn];exact e.next,e.size,e.bI,e.aS,λid h1 h2=>by rw[<-h id];exact e.low id h1 h2,λid h1 h2=>e.dead id h1 ((MZ h id).2 h2),e.os,e.tape,e.out,λid h1 h2=>by rw[<-h id];exact e.un id h1 h2⟩
end
section
variable {P:Program}{env:Env}{B f:Nat}{r:Option Nat}{ops:Array Oper}{pl:List a3}{bk c8:Nat->Nat}{da:Nat->Nat->Bool}{call:mv}{s:Nat->a1 AV}{S:Nat->ae}{v:Nat->AV}
variable {ds:List (Nat ⊕ (AV×List AV))}{rc:Bool}{dg:ae}{fo:World}{e0:Nat->Option Nat}{listed:Array Bool}{a:Act}{w:World}{dM:Nat}{m:Nat->Option Nat}{di:a1 AV}
theorem VF(c:hI P env B f r ops pl bk c8 da call s S v):∀(d k:Nat),k+d<=ops.size->(∀(e:Nat) (ek:a3),pl[e]? =some ek->k<=e->e<k+d->ek.op.fT=false/\ek.op.k3=false)->S (k+d)=S k
 |0,_,_,_=>rfl
 |d+1,k,ay,h=>by
  obtain⟨aZ,mb⟩:=c.get (p:=k+d) U;obtain⟨h1,h2⟩:=h (k+d) aZ mb U U;rcases c.calm mb h1 with⟨h3,_⟩|⟨cV,h3,_⟩
  ·show S (k+d+1)=_;rw[h3];exact VF c d k U (λe ek aQ bF cw=>h e ek aQ bF U)
  ·rw[h2] at h3;cases h3
theorem pD.mono{D ma:Nat->Prop}{k:Nat}(h:pD pl s S dg D m k)(dL:∀(p:Nat) (aZ:a3),pl[p]? =some aZ->¬ma p->¬D p):pD pl s S dg ma m k:=
 ⟨λp aZ h1 h2 h3 aQ bF=>h.one p aZ h1 h2 h3 aQ (dL p aZ h2 bF),λp eJ aZ hQ h1 h2 h3 aQ bF cw eL iF oB G_=>h.lt p eJ aZ hQ h1 h2 h3 aQ bF cw eL iF (dL p aZ h3 oB) (dL eJ hQ aQ G_)⟩
def Ha(J ag:ae):Prop:=(∀id,J.get id=ag.get id)/\J.next=ag.next
structure Inv2(P:Program)(env:Env)(B f:Nat)(ops:Array Oper)(pl:List a3)(bk:Nat->Nat)(da:Nat->Nat->Bool)(s:Nat->a1 AV)(S:Nat->ae)(v:Nat->AV)(ds:List (Nat ⊕ (AV×List AV)))(rc:Bool)(dg:ae)(fo:World)(e0:Nat->Option Nat)
  (listed:Array Bool) (a:Act) (w:World) (x:Nat) (T:ae) (m:Nat->Option Nat) (di:a1 AV):Prop where
 uS:Rel P dg fo e0 B
 size:listed.size=ops.size
 closed:∀p,p<ops.size->dt bk listed p->∀q,da q p=true->dt bk listed q
 pure:∀(p:Nat) (aZ:a3),pl[p]? =some aZ->¬dt bk listed p->p=x\/(aZ.op.fT=false/\aZ.op.k3=false/\aZ.op.looks=false)
 fin:dt bk listed x->Ha T (S ops.size)
 rest:¬dt bk listed x->∃bP lM,pl[x]? =some bP/\bP.op.fT=true/\(∀c as,bP.op≠ .call c as)/\wantedA bP.guard (s x)=true/\opx f (evalA env (s x)) T bP.op=some (.val (v x) lM)/\Ha lM (S ops.size)
 bf:wh pl v (s 0) (dt bk listed) di
 st:e4 P env ⟨di,ds,rc⟩ a T w m B
 ext:Ext f dg fo e0 T w m
theorem b2o(c:hI P env B f r ops pl bk c8 da call s S v)(cv:listed.size=ops.size)(gq:∀p,p<ops.size->dt bk listed p->∀q,da q p=true->dt bk listed q){i:Nat}(hi:i∈Region.ready .any ops listed):
  ∃p aZ o la,p<ops.size/\i=bk p/\pl[p]? =some aZ/\ops[i]? =some o/\coper P ops o=some la/\aZ.op=la.op/\aZ.dst=la.dst/\aZ.guard=la.guard/\¬dt bk listed p/\(∀q,da q p=true->dt bk listed q):=by
 obtain⟨h1,o,ho,h2⟩:=mem_ready.1 hi;have jR:i<ops.size:=(xt.1 ho).1;obtain⟨h3,aQ⟩:=c.spec.Db i jR;obtain⟨aZ,mb⟩:=c.get h3;obtain⟨bU,la,kP,ab,aR,a6,c0⟩:=c.spec.code _ aZ mb;rw[aQ,ho] at kP;cases kP;refine⟨c8 i,aZ,o,la,h3,aQ.symm,mb,ho,ab,aR,a6,c0,Vy c cv h3 (by rw[aQ];exact h1),λq aX=>?_⟩;obtain⟨bU,kP,e,he,hb,lF⟩:=c.spec.U_ (c8 i) h3 q aX;rw[aQ,ho] at kP;cases kP;have MY:=h2 e he hb;have vU:=c.spec.back (c8 i) h3 o (by rw[aQ];exact ho) e he hb;have wj:=c.spec.Db e.on vU.1;have Dk:dt bk listed (c8 e.on):=by unfold dt;rw[wj.2];exact MY
 rcases lF with rfl|lF
 ·exact Dk
 ·exact gq _ wj.1 Dk q lF
theorem VG(c:hI P env B f r ops pl bk c8 da call s S v)(cv:listed.size=ops.size){p:Nat}(jS:p<ops.size):∀q,dt bk listed q->dt bk (listed.setIfInBounds (bk p) true) q:=λq aX=>by
 unfold dt at aX ⊢;by_cases h:bk p=bk q
 ·rw[<-h];simp[qd,cv,(c.spec.pi p jS).1]
 ·rw[getD_set_ne false h];exact aX
theorem Inv2.next(c:hI P env B f r ops pl bk c8 da call s S v){x:Nat}{T oI:ae}(inv:Inv2 P env B f ops pl bk da s S v ds rc dg fo e0 listed a w x T m di){p:Nat}{aZ:a3}(au:pl[p]? =some aZ)(dL:¬dt bk listed p)(jl:∀q,da q p=true->dt bk listed q)
  (iV:p=x/\Ha oI (S ops.size)\/p≠x/\oI=T) {cL:Act} {aw:World} {aW:Nat->Option Nat} (hx:x<ops.size) (st:e4 P env ⟨oH di aZ.dst (v p),ds,rc⟩ cL oI aw aW B) (ext:Ext f dg fo e0 oI aw aW):
  Inv2 P env B f ops pl bk da s S v ds rc dg fo e0 (listed.setIfInBounds (bk p) true) cL aw x oI aW (oH di aZ.dst (v p)):=by
 have jS:=c.lt au;have an:∀q,q<ops.size->(dt bk (listed.setIfInBounds (bk p) true) q↔dt bk listed q\/q=p):=λq aX=>Ap c inv.size jS aX;have jB:=VG c inv.size jS;refine⟨inv.uS,by simpa using inv.size,λq aX hd y hy=>?_,λq dA aX hd=>inv.pure q dA aX (λh=>hd (jB q h)),λhd=>?_,λhd=>?_,inv.bf.put c au dL (λq dA aX=>an q (c.lt aX)),st,ext⟩
 ·rcases(an q aX).1 hd with h|rfl
  ·exact jB y (inv.closed q aX h y hy)
  ·exact jB y (jl y hy)
 ·rcases iV with⟨_,h⟩|⟨a5,rfl⟩
  ·exact h
  ·exact inv.fin (((an x hx).1 hd).resolve_right (p9 a5))
 ·rcases iV with⟨rfl,_⟩|⟨a5,rfl⟩
  ·exact absurd ((an p jS).2 (.inr I)) hd
  ·exact inv.rest (λh=>hd (jB x h))
theorem b2p(c:hI P env B f r ops pl bk c8 da call s S v){k:Nat}{Q:Exit->Act->World->Prop}{x:Nat}{T:ae}(VH:x<ops.size)(inv:Inv2 P env B f ops pl bk da s S v ds rc dg fo e0 listed a w x T m di){i:Nat}(hi:i∈Region.ready .any ops listed)
  {K:Act->World->Prop} (cU:∀cL aw lM aW rS,Inv2 P env B f ops pl bk da s S v ds rc dg fo e0 (listed.setIfInBounds i true) cL aw x lM aW rS->K cL aw):wpOpIn (fx r) k P ops Q i K a w:=by
 obtain⟨p,aZ,o,la,jS,rfl,au,ho,ab,aR,a6,c0,dL,jl⟩:=b2o c inv.size inv.closed hi;have Dq:=Vq c inv.bf au dL jl inv.closed;have qz:∀J,opx f (evalA env di) J aZ.op=opx f (evalA env (s p)) J aZ.op:=λJ=>Vm (Vu Dq);have hw:=Vv Dq;obtain⟨eb,jj⟩:=GA ab;rw[<-aR] at eb;rw[<-a6] at jj;unfold wpOpIn;simp only[ho];rw[Gy ab inv.st.ctx.bf,← c0];show if wantedA aZ.guard di=true then _ else _
 rw[hw];have rT:∀res,opx f (evalA env di) T aZ.op=some res->cop P o=some aZ.op:=λres dh=>CW eb.symm (λhb=>by rw[hb] at dh;simp[opx] at dh);have x3:∀v b2,opx f (evalA env di) T aZ.op=some (.val v b2)->cop P o=some aZ.op->∀c,o.op≠ .defer c:=λv b2 hx uT c hd=>by
  obtain⟨ac,as,h⟩:=Gz hd uT;rw[h] at hx;simp only[opx] at hx;split at hx<;>cases hx
 have val:∀oI,wantedA aZ.guard (s p)=true->opx f (evalA env di) T aZ.op=some (.val (v p) oI)->(p=x/\Ha oI (S ops.size)\/p≠x/\oI=T)→
   if wantedA aZ.guard (s p)=true then o.wpIn (fx r) k P a w K Q else(∀f,o.about P w a.eval=some f->(fx r).fn f)/\K (a.put o.dst undef) w:=λoI hwt eY iV=>by
  rw[hwt];simp only[if_true];obtain⟨u,bW,df,cb,hR,nR,dI⟩:=z0 inv.st.ctx (rT _ eY) eY;have an:(o.semAt (fx r).round a.eval)=execOp a.eval o:=uG _ _ _ (x3 _ _ eY (rT _ eY));have hq:=(inv.st.ext dI nR).put aZ.dst hR;rw[put_eq] at hq;have hJ:=inv.next c au dL jl iV VH hq (inv.ext.trans inv.uS dI);rw[jj] at hJ;refine⟨λf _=>trivial,?_⟩;rw[an];rcases cb with cb|⟨cb,rfl⟩
  ·rw[cb];exact cU _ _ _ _ _ hJ
  ·rw[cb];exact cU _ _ _ _ _ hJ
 rcases c.n1.step p aZ au with⟨yh,av,cW⟩|⟨hwt,hx⟩|⟨hwt,cr,args,hx,gq⟩
 ·-- not wanted
  have Dr:p≠x:=λhe=>by
   subst he;obtain⟨bP,lM,h1,_,_,h2,_⟩:=inv.rest dL;rw[au] at h1;cases h1;rw[yh] at h2;cases h2
  rw[yh];simp only[rj,if_false];refine⟨λ_ _=>trivial,?_⟩;have hq:=inv.st.put aZ.dst (v:=ea) (u:=undef) R.undef;rw[put_eq,← av] at hq;have hJ:=inv.next c au dL jl (.inr ⟨Dr,rfl⟩) VH hq inv.ext;rw[jj] at hJ;exact cU _ _ _ _ _ hJ
 ·by_cases Dr:p=x
  ·subst Dr;obtain⟨bP,lM,h1,_,_,h2,h3,aQ⟩:=inv.rest dL;rw[au] at h1;cases h1;exact val lM hwt (by rw[qz];exact h3) (.inl ⟨rfl,aQ⟩)
  ·obtain⟨bL,bQ,cm⟩:=(inv.pure p aZ au dL).resolve_left Dr;obtain⟨bM,h1,h2⟩:=G4 bL bQ hx;simp only[bV.val.injEq] at h1;obtain⟨rfl,_⟩:=h1;exact val T hwt (by rw[qz];exact h2 cm T) (.inr ⟨Dr,rfl⟩)
 ·obtain⟨iS,as,Ds,_,_⟩:=v7 hx;exfalso;rcases inv.pure p aZ au dL with rfl|⟨bL,_,_⟩
  ·obtain⟨bP,lM,h1,_,h2,_⟩:=inv.rest dL;rw[au] at h1;cases h1;exact h2 _ _ Ds
  ·rw[Ds] at bL;cases bL
theorem b2q(c:hI P env B f r ops pl bk c8 da call s S v){k:Nat}{Q:Exit->Act->World->Prop}(inv:Inv P env B f ops pl bk da s S v ds rc dg fo e0 listed a w dM m di){i:Nat}(hi:i∈Region.ready .any ops listed)
  {K:Act->World->Prop} (cU:∀cL aw Dl aW rS,Inv P env B f ops pl bk da s S v ds rc dg fo e0 (listed.setIfInBounds i true) cL aw Dl aW rS->K cL aw)
  (VI:∀cL aw x T aW rS,x<ops.size->Inv2 P env B f ops pl bk da s S v ds rc dg fo e0 (listed.setIfInBounds i true) cL aw x T aW rS->K cL aw):wpOpIn (fx r) k P ops Q i K a w:=by
 obtain⟨p,aZ,o,la,jS,rfl,au,ho,ab,aR,a6,c0,dL,jl⟩:=b2e c inv hi;have Dq:=Vq c inv.bf au dL jl inv.closed;have qz:∀J,opx f (evalA env di) J aZ.op=opx f (evalA env (s p)) J aZ.op:=λJ=>Vm (Vu Dq);have hw:=Vv Dq;obtain⟨eb,jj⟩:=GA ab;rw[<-aR] at eb;rw[<-a6] at jj;have hp:aZ.op.fT=false->p<dM:=λhe=>by
  rcases inv.Ao with h|⟨ek,h1,h2,h3⟩
  ·omega
  ·rcases vY p dM with h|h|h
   ·exact h
   ·subst h;rw[au] at h1;cases h1;rw[he] at h2;cases h2
   ·rcases c.spec.wc dM p ek h jS h1 h2 with aQ|aQ
    ·exact absurd (jl dM aQ) h3
    ·obtain⟨_,eQ,_,_,_,_,_,_,_,bQ,_,c7,_⟩:=aQ.ops;rw[au] at bQ;cases bQ;rw[c7] at he;cases he
 have my:aZ.op.fT=true->p=dM\/Da pl da dM p:=λhe=>by
  rcases vY p dM with h|h|h
  ·exact absurd (inv.before p aZ h au he) dL
  ·exact .inl h
  ·rcases inv.Ao with h1|⟨ek,h1,h2,h3⟩
   ·omega
   ·rcases c.spec.wc dM p ek h jS h1 h2 with aQ|aQ
    ·exact absurd (jl dM aQ) h3
    ·exact .inr aQ
 have VJ:∀q dA,pl[q]? =some dA->¬dt bk (listed.setIfInBounds (bk p) true) q->¬dt bk listed q:=λq dA aX h h2=>h ((Ap c inv.size jS (c.lt aX)).2 (.inl h2));have Dt:pD pl s S dg (dt bk (listed.setIfInBounds (bk p) true)) m dM:=inv.wi.mono VJ;unfold wpOpIn;simp only[ho];rw[Gy ab inv.st.ctx.bf,← c0];show if wantedA aZ.guard di=true then _ else _
 rw[hw];have rT:∀res,opx f (evalA env di) (S dM) aZ.op=some res->cop P o=some aZ.op:=λres dh=>CW eb.symm (λhb=>by rw[hb] at dh;simp[opx] at dh);by_cases Hb:aZ.op.fT=true/\p≠dM
 ·-- uk second of two c6a,first
  have lL:=(my Hb.1).resolve_left Hb.2;rcases inv.Ao with h0|⟨bP,tj,b2r,b2s⟩
  ·have:=lL.G1;omega
  have M0:=c.lt tj;obtain⟨bL,bQ,T,lM,cm,c7,dB,ib,gU,hs⟩:=b2g c lL tj au;have eY:opx f (evalA env di) (S dM) aZ.op=some (.val (v p) T):=by rw[qz];exact cm
  rw[ib];simp only[if_true];obtain⟨u,bW,df,cb,hR,nR,dI⟩:=z0 inv.st.ctx (rT _ eY) eY;have hnd:∀c,o.op≠ .defer c:=λc hd=>by
   obtain⟨ac,as,h⟩:=Gz hd (rT _ eY);rw[h] at eY;simp only[opx] at eY;split at eY<;>cases eY
  have an:(o.semAt (fx r).round a.eval)=execOp a.eval o:=uG _ _ _ hnd;have hq:=(inv.st.ext dI nR).put aZ.dst hR;rw[put_eq] at hq;have Hc:∀q,q<ops.size->(dt bk (listed.setIfInBounds (bk p) true) q↔dt bk listed q\/q=p):=λq aX=>Ap c inv.size jS aX;have jB:=VG c inv.size jS;have yi:∀iS as,bP.op≠ .call iS as:=λiS as hh=>by
   obtain⟨VC,_,_,_,_,_,_,_,bG,_,bg,_⟩:=lL.ops;rw[tj] at bG;cases bG;rw[bg] at hh;cases hh
  have mI:¬dt bk (listed.setIfInBounds (bk p) true) dM:=λh=>by
   rcases(Hc dM M0).1 h with h|h
   ·exact b2s h
   ·exact Hb.2 h.symm
  have hJ:Inv2 P env B f ops pl bk da s S v ds rc dg fo e0 (listed.setIfInBounds (bk p) true) (a.put aZ.dst u) bW dM T df (oH di aZ.dst (v p)):=by
   refine⟨inv.uS,by simpa using inv.size,λq aX hd y hy=>?_,λq dA aX hd=>?_,λhd=>absurd hd mI,λ_=>⟨bP,lM,tj,b2r,yi,dB,c7,gU,hs⟩,inv.bf.put c au dL (λq dA aX=>Hc q (c.lt aX)),hq,inv.ext.trans inv.uS dI⟩
   ·rcases(Hc q aX).1 hd with h|rfl
    ·exact jB y (inv.closed q aX h y hy)
    ·exact jB y (jl y hy)
   ·have b2t:=c.lt aX;have hl:=lL.last;have n2:=c.spec.len;have c6b:=lL.G1;rcases vY q dM with h|h|h
    ·rcases lL.rest q dA h aX with bF|bF
     ·exact absurd (jB q (jl q bF)) hd
     ·exact .inr bF
    ·exact .inl h
    ·have:q=p:=by omega
     exact absurd ((Hc q b2t).2 (.inr this)) hd
  rw[jj] at hJ;refine⟨λf _=>trivial,?_⟩;rw[an];rcases cb with cb|⟨cb,rfl⟩
  ·rw[cb];exact VI _ _ _ _ _ _ M0 hJ
  ·rw[cb];exact VI _ _ _ _ _ _ M0 hJ
 replace my:aZ.op.fT=true->p=dM:=λhe=>Me λh=>Hb ⟨he,h⟩;rcases c.n1.step p aZ au with⟨yh,av,cW⟩|⟨hwt,hx⟩|⟨hwt,cr,args,hx,gq⟩
 ·-- not wanted
  rw[yh];simp only[rj,if_false];refine⟨λ_ _=>trivial,?_⟩;have hq:=inv.st.put aZ.dst (v:=ea) (u:=undef) R.undef;rw[put_eq,← av,jj] at hq;rw[<-jj] at hq;have hq:e4 P env ⟨oH di aZ.dst (v p),ds,rc⟩ (a.put o.dst undef) (S dM) w m B:=by rw[<-jj];exact hq
  by_cases M1:p=dM
  ·subst M1;cases he:aZ.op.fT with
   |true=>
    obtain⟨nd,hJ⟩:=inv.effect c au dL jl he I (cL:=a.put o.dst undef) (aw:=w) (aW:=m) (by rw[cW];exact hq) (by rw[cW];exact Ext.refl _ _ _ _);exact cU _ _ _ _ _ hJ
   |false=>have:=hp he;omega
  ·exact cU _ _ _ _ _ (inv.calm c au dL jl M1 (by cases he:aZ.op.fT with|false=>exact .inl rfl|true=>exact absurd (my he) M1) hq inv.ext Dt)
 ·-- a value
  rw[hwt];simp only[if_true];have x3:∀v J b2,opx f (evalA env di) J aZ.op=some (.val v b2)->cop P o=some aZ.op->∀c,o.op≠ .defer c:=λv J b2 hx uT c hd=>by
   obtain⟨ac,as,h⟩:=Gz hd uT;rw[h] at hx;simp only[opx] at hx;split at hx<;>cases hx
  cases he:aZ.op.fT with
  |true=>
   obtain rfl:=my he;have eY:opx f (evalA env di) (S p) aZ.op=some (.val (v p) (S (p+1))):=by rw[qz];exact hx
   obtain⟨u,bW,df,cb,hR,nR,dI⟩:=z0 inv.st.ctx (rT _ eY) eY;have an:(o.semAt (fx r).round a.eval)=execOp a.eval o:=uG _ _ _ (x3 _ _ _ eY (rT _ eY));have hq:=(inv.st.ext dI nR).put aZ.dst hR;rw[put_eq] at hq;obtain⟨nd,hJ⟩:=inv.effect c au dL jl he I hq dI;rw[jj] at hJ;refine⟨λf _=>trivial,?_⟩;rw[an];rcases cb with cb|⟨cb,rfl⟩
   ·rw[cb];exact cU _ _ _ _ _ hJ
   ·rw[cb];exact cU _ _ _ _ _ hJ
  |false=>
   have hlt:=hp he;cases ha:aZ.op.k3 with
   |false=>
    have eY:opx f (evalA env di) (S dM) aZ.op=some (.val (v p) (S dM)):=by
     rw[qz];obtain⟨bM,h1,h2⟩:=G4 he ha hx;simp only[bV.val.injEq] at h1;obtain⟨uO,uU⟩:=h1;subst uO;cases hl:aZ.op.looks with
     |false=>exact h2 hl _
     |true=>
      have b2u:dM=ops.size\/∃(dA:a3),pl[dM]? =some dA/\dA.op.fT=true:=by
       rcases inv.Ao with h|⟨ek,h1,h2,_⟩
       ·exact .inl h
       ·exact .inr ⟨ek,h1,h2⟩
      rcases c.spec.j_ p aZ au hl dM hlt b2u with h|⟨e,ek,bL,bQ,cm,c7,dB⟩|h
      ·obtain⟨cT,h3⟩:=c.steady p aZ au hwt he dM h;obtain⟨v2,aQ,_⟩:=G4 he ha h3;cases aQ;exact h3
      ·exact absurd (inv.closed e (c.lt bL) (inv.before e ek c7 bL bQ) p dB) dL
      ·have k7:=VF c (dM-(p+1)) (p+1) (by have:=inv.Vx;omega) (λe ek bL bQ cm=>h e ek bL U U);have h7:p+1+(dM-(p+1))=dM:=by omega
       rw[h7] at k7;rw[k7,uU];rw[uU] at hx;exact hx
    obtain⟨u,bW,df,cb,hR,nR,dI⟩:=z0 inv.st.ctx (rT _ eY) eY;have an:(o.semAt (fx r).round a.eval)=execOp a.eval o:=uG _ _ _ (x3 _ _ _ eY (rT _ eY));have hq:=(inv.st.ext dI nR).put aZ.dst hR;rw[put_eq] at hq;have M3:pD pl s S dg (dt bk (listed.setIfInBounds (bk p) true)) df dM:=by
     refine⟨λeJ hQ h1 h2 h3 aQ bF=>?_,Dt.lt⟩;obtain⟨rP,rQ,rR,uR⟩:=Dt.one eJ hQ h1 h2 h3 aQ bF;refine⟨?_,rQ,rR,uR⟩;cases hm:df (S eJ).next with
     |none=>rfl
     |some b=>
      rcases dI.new _ _ hm with h|⟨h,_⟩
      ·rw[rP] at h;cases h
      ·omega
    have hJ:=inv.calm c au dL jl U (.inl he) hq (inv.ext.trans inv.uS dI) M3;rw[jj] at hJ;refine⟨λf _=>trivial,?_⟩;rw[an];rcases cb with cb|⟨cb,rfl⟩
    ·rw[cb];exact cU _ _ _ _ _ hJ
    ·rw[cb];exact cU _ _ _ _ _ hJ
   |true=>
    obtain⟨cV,qE,h1,c6c,h2⟩:=Vn ha hx;simp only[bV.val.injEq] at h1;obtain⟨uO,uU⟩:=h1;have M4:∀cT,opx f (evalA env di) cT aZ.op=some (.val (qE cT.next) (cT.push cV)):=λcT=>by rw[qz];exact h2 cT
    have uT:=rT _ (M4 (S dM));obtain⟨u,aw,bU,cb,hh,l2,pf,lE,lF,hval⟩:=b1Y inv.st.ctx uT ha M4;obtain⟨rP,rQ,rR,uR⟩:=inv.wi.one p aZ hlt au ha hwt dL;have hg:(S dM).get (S p).next=some cV:=by rw[uR,uU];exact ae.jP cV
    obtain⟨nR,Ac,cv,hj,hold,Dg,jx⟩:=inv.st.ctx.rel.MS rR rP hg hh lF;have an:(o.semAt (fx r).round a.eval)=execOp a.eval o:=uG _ _ _ (x3 _ _ _ (M4 (S dM)) uT);have hR:R aw (bindM m (S p).next w.heap.size) (bp (S dM) (bindM m (S p).next w.heap.size)) B (v p) u:=by
     rw[uO];exact hval _ _ _ _ _ (hD _ _ _) jx
    have hq:=(inv.st.mono nR Ac cv hj Dg).put aZ.dst hR;rw[put_eq] at hq;have M3:pD pl s S dg (dt bk (listed.setIfInBounds (bk p) true)) (bindM m (S p).next w.heap.size) dM:=by
     refine⟨λeJ hQ bL bQ cm c7 dB=>?_,Dt.lt⟩;obtain⟨i1,i2,i3,i4⟩:=Dt.one eJ hQ bL bQ cm c7 dB;refine⟨?_,i2,i3,i4⟩;have An:=VJ eJ hQ bQ dB;have a5:eJ≠p:=λe=>dB ((Ap c inv.size jS (c.lt bQ)).2 (.inr e));rw[iQ m _ _ (λe=>?_)]
     ·exact i1
     ·rcases nC eJ p with h|h
      ·have:=inv.wi.lt eJ p hQ aZ h hlt bQ au cm ha c7 hwt An dL;omega
      ·have:=inv.wi.lt p eJ aZ hQ U bL au bQ ha cm hwt c7 dL An;omega
    have hJ:=inv.calm c au dL jl U (.inl he) hq (inv.ext.MS rQ rP hh l2 pf lE) M3;rw[jj] at hJ;refine⟨λf _=>trivial,?_⟩;rw[an,cb];exact cU _ _ _ _ _ hJ
 ·-- a call
  rw[hwt];simp only[if_true];obtain⟨iS,as,Ds,_,_⟩:=v7 hx;have he:aZ.op.fT=true:=by rw[Ds];rfl
  obtain rfl:=my he;have eY:opx f (evalA env di) (S p) aZ.op=some (.call cr args):=by rw[qz];exact hx
  have uT:=rT _ eY;rw[Ds] at uT eY;obtain⟨bX,h5,h1,kv,has⟩:=v7 eY;cases h1;obtain⟨aq,CY,CZ,px⟩:=Uy uT;obtain⟨x,ia,x4⟩:=Mn CZ inv.st.ctx kv;have C0:=Cu inv.st.ctx.rel.xU inv.st.ctx.globs inv.st.ctx.bf px has;have dh:=c.b2c _ _ _ _ gq (k-1) w m _ _ inv.st.ctx.rel inv.st.ctx.globs x4 C0;refine Ux CY ia (us:=aq.args.map a.eval) I (λ_=>trivial) I (by
   have aR:(aq.args.toList.map a.eval).toArray=aq.args.map a.eval:=by apply m3;simp
   rw[aR] at dh;exact dh) (λaR bW al=>?_)
  obtain⟨ret,b2,gb,df,h1,h2,h3⟩:=al;obtain⟨rfl,rfl⟩:ret= .ok (v p)/\b2=S (p+1):=by
   have:=cu.1 gb;exact⟨congrArg Prod.fst this,congrArg Prod.snd this⟩
  cases aR with
  |returned u=>
   have hq:=(inv.st.ext h3 h2).put aZ.dst h1;rw[put_eq] at hq;obtain⟨nd,hJ⟩:=inv.effect c au dL jl he I hq h3;rw[jj] at hJ;exact cU _ _ _ _ _ hJ
  |panicked nQ=>exact h1.elim
  |outgrown=>exact h1.elim
theorem VK(c:hI P env B f r ops pl bk c8 da call s S v)(cv:listed.size=ops.size)(al:Region.ready .any ops listed=[]):∀p,p<ops.size->dt bk listed p:=by
 intro p
 induction p using Nat.strongRecOn with
 |_ p aH=>
  intro au;refine Me λdL=>?_;have Dd:=c.spec.pi p au;have:bk p∈Region.ready .any ops listed:=by
   refine mem_ready.2 ⟨?_,ops[bk p],sI Dd.1,λe he hb=>?_⟩
   ·unfold dt at dL;have hlt:bk p<listed.size:=by rw[cv];exact Dd.1
    simp[qd,hlt] at dL ⊢;exact dL
   ·have vU:=c.spec.back p au _ (sI Dd.1) e he hb;have wj:=c.spec.Db e.on vU.1;have:=aH (c8 e.on) vU.2 wj.1;unfold dt at this;rw[wj.2] at this;exact this
  rw[al] at this;cases this
theorem VL(c:hI P env B f r ops pl bk c8 da call s S v)(hall:∀p,p<ops.size->dt bk listed p)(gK:wh pl v (s 0) (dt bk listed) di):∀t,di.get t=(s ops.size).get t:=by
 have ab:=MW c ops.size (br _);intro t;by_cases hex:∃(q:Nat) (dA:a3),pl[q]? =some dA/\dA.dst=some t
 ·obtain⟨q,dA,h1,h2⟩:=hex;by_cases hlt:((s 0).get t).isSome=true
  ·rw[gK.mH q dA t h1 (hall q (c.lt h1)) h2 hlt,ab.mH q dA t h1 (c.lt h1) h2 hlt]
  ·have aR:=gK.fU t;have a6:=ab.fU t;cases hg:(s 0).get t with
   |some y=>rw[hg] at hlt;exact absurd I hlt
   |none=>
    rw[hg] at aR a6;cases tc:di.get t with
    |some y=>rw[tc] at aR;cases aR
    |none=>
     cases zS:(s ops.size).get t with
     |some y=>rw[zS] at a6;cases a6
     |none=>rfl
 ·rw[gK.ye t (λq dA h1 _ h2=>hex ⟨q,dA,h1,h2⟩),ab.ye t (λq dA h1 _ h2=>hex ⟨q,dA,h1,h2⟩)]
theorem VM(c:hI P env B f r ops pl bk c8 da call s S v)(inv:Inv P env B f ops pl bk da s S v ds rc dg fo e0 listed a w dM m di)(al:Region.ready .any ops listed=[]):
  e4 P env ⟨s ops.size,ds,rc⟩ a (S ops.size) w m B/\Ext f dg fo e0 (S ops.size) w m:=by
 have hall:=VK c inv.size al;have aX:dM=ops.size:=by
  rcases inv.Ao with h|⟨ek,h1,_,h3⟩
  ·exact h
  ·exact absurd (hall dM (c.lt h1)) h3
 subst aX;have pt:=VL c hall inv.bf;have gK:=inv.st.ctx.bf;refine⟨⟨⟨inv.st.ctx.rel,⟨λi x hi=>gK.1 i x (by rw[pt i];exact hi),λi hi=>gK.2 i (by rw[pt i];exact hi)⟩,inv.st.ctx.globs⟩,inv.st.defs⟩,inv.ext⟩
theorem VN(c:hI P env B f r ops pl bk c8 da call s S v){x:Nat}{T:ae}(hx:x<ops.size)(inv:Inv2 P env B f ops pl bk da s S v ds rc dg fo e0 listed a w x T m di)(al:Region.ready .any ops listed=[]):
  e4 P env ⟨s ops.size,ds,rc⟩ a (S ops.size) w m B/\Ext f dg fo e0 (S ops.size) w m:=by
 have hall:=VK c inv.size al;obtain⟨aR,a6⟩:=inv.fin (hall x hx);have pt:=VL c hall inv.bf;have gK:=inv.st.ctx.bf;have st:e4 P env ⟨s ops.size,ds,rc⟩ a T w m B:=⟨⟨inv.st.ctx.rel,⟨λi x hi=>gK.1 i x (by rw[pt i];exact hi),λi hi=>gK.2 i (by rw[pt i];exact hi)⟩,inv.st.ctx.globs⟩,inv.st.defs⟩
 exact⟨st.congr aR a6,inv.ext.congr aR a6⟩
theorem count_set{l:Array Bool}{i:Nat}(h:l.getD i true=false):(l.setIfInBounds i true).toList.count false+1=l.toList.count false:=by
 have hlt:i<l.size:=by
  rcases nC i l.size with h1|h1
  ·exact h1
  ·simp[qd,zt h1] at h
 have av:l[i]=false:=by simpa [qd,hlt] using h
 rw[Un,List.count_set (by simpa using hlt)];have LK:0<l.toList.count false:=List.count_pos_iff.2 (by rw[<-av];simp);have nJ:(l.toList[i]'(by simpa using hlt))=false:=by simpa using av
 rw[nJ];have aR:(if(false==false)=true then 1 else 0)=1:=rfl;have a6:(if(true==false)=true then 1 else 0)=0:=rfl;rw[aR,a6];omega
theorem VO(c:hI P env B f r ops pl bk c8 da call s S v){k:Nat}{Q:Exit->Act->World->Prop}(b8:∀cL aw aW,e4 P env ⟨s ops.size,ds,rc⟩ cL (S ops.size) aw aW B->Ext f dg fo e0 (S ops.size) aw aW->Q .normal cL aw){x:Nat}(hx:x<ops.size):
  ∀(fuel:Nat) (listed:Array Bool) (a:Act) (w:World) (T:ae) (m:Nat->Option Nat) (di:a1 AV),Inv2 P env B f ops pl bk da s S v ds rc dg fo e0 listed a w x T m di->listed.toList.count false<=fuel->wpAnyIn (fx r) k P .any ops Q fuel listed a w
 |0,listed,a,w,T,m,di,inv,hf=>by
  have al:Region.ready .any ops listed=[]:=by
   refine Up.2 λi hi=>?_;have:=count_set (mem_ready.1 hi).1;omega
  obtain⟨h1,h2⟩:=VN c hx inv al;exact⟨al,b8 _ _ _ h1 h2⟩
 |fuel+1,listed,a,w,T,m,di,inv,hf=>by
  refine⟨λal=>?_,λi hi=>?_⟩
  ·obtain⟨h1,h2⟩:=VN c hx inv al;exact b8 _ _ _ h1 h2
  ·have b2v:=count_set (mem_ready.1 hi).1;exact b2p c hx inv hi (λcL aw lM aW rS hJ=>VO c b8 hx fuel _ cL aw lM aW rS hJ U)
theorem VP(c:hI P env B f r ops pl bk c8 da call s S v){k:Nat}{Q:Exit->Act->World->Prop}(b8:∀cL aw aW,e4 P env ⟨s ops.size,ds,rc⟩ cL (S ops.size) aw aW B->Ext f dg fo e0 (S ops.size) aw aW->Q .normal cL aw):
  ∀(fuel:Nat) (listed:Array Bool) (a:Act) (w:World) (dM:Nat) (m:Nat->Option Nat) (di:a1 AV),Inv P env B f ops pl bk da s S v ds rc dg fo e0 listed a w dM m di->listed.toList.count false<=fuel->wpAnyIn (fx r) k P .any ops Q fuel listed a w
 |0,listed,a,w,dM,m,di,inv,hf=>by
  have al:Region.ready .any ops listed=[]:=by
   refine Up.2 λi hi=>?_;have:=count_set (mem_ready.1 hi).1;omega
  obtain⟨h1,h2⟩:=VM c inv al;exact⟨al,b8 _ _ _ h1 h2⟩
 |fuel+1,listed,a,w,dM,m,di,inv,hf=>by
  refine⟨λal=>?_,λi hi=>?_⟩
  ·obtain⟨h1,h2⟩:=VM c inv al;exact b8 _ _ _ h1 h2
  ·have b2v:=count_set (mem_ready.1 hi).1;exact b2q c inv hi (λcL aw Dl aW rS hJ=>VP c b8 fuel _ cL aw Dl aW rS hJ U)
    (λcL aw x T aW rS hx hJ=>VO c b8 hx fuel _ cL aw T aW rS hJ U)
end
section
variable {P:Program}{env:Env}{B:Nat}
theorem b2w{ad:Fr}{a:Act}{J:ae}{w:World}{m:Nat->Option Nat}(st:e4 P env ad a J w m B)(f n:Nat):e4 P env ad a J {w with drawn:=n} m B/\Ext f J w m J {w with drawn:=n} m:=by
 have al:=st.ctx.rel;have ay:∀aF,aF<w.heap.size->¬bp J m aF->w.heap[aF]? =w.heap[aF]? ∧¬bp J m aF:=λ_ _ h=>⟨rfl,h⟩
 refine⟨st.mono ⟨al.len,al.fU,λid aF o h1 h2 h3=>?_,al.inj,al.base,al.mz⟩ (λ_ _ h=>h) (br _) (λ_ _ h=>h) ay,
  ⟨λ_ _ h=>h,λ_ _ h=>.inl h,br _,br _,λ_ _ h=>h,λ_ _ _=>rfl,λ_ _ _=>rfl,λ_ _ h=>h,rfl,rfl,rfl,λ_ _ _=>rfl⟩⟩
 obtain⟨bU,aQ,bF⟩:=al.obj id aF o h1 h2 h3;exact⟨bU,aQ,mx.mono (w:=w) (aw:={w with drawn:=n}) (λ_ _ h=>h) (br _) (λ_ _ h=>h) ay bF⟩
theorem b2x{f:Nat}{call:mv}{pl:List a3}{s:Nat->a1 AV}{S:Nat->ae}{v:Nat->AV}{da:Nat->Nat->Bool}{ao:a1 AV}(n1:Trace env f call pl s S v)(he:s pl.length=ao)(h:swapOk env ao pl=true){p q:Nat}(lL:Da pl da p q)
  {bP eQ:a3} {s1 s2:Option Nat} {a2 fR bm pB:aI} (tj:pl[p]? =some bP) (Du:pl[q]? =some eQ) (hx:bP.op= .store s1 a2 fR) (hy:eQ.op= .store s2 bm pB):∃i Ak j Al,evalA env (s p) a2=some (.p (some (i,Ak)))/\evalA env (s q) bm=some (.p (some (j,Al)))/\i≠j:=by
 have hp:=lL.G1;have hl:=lL.last;obtain⟨VC,b2h,_,_,_,_,_,_,bG,bw,_,_,c9,eu,_,_,kf⟩:=lL.ops;rw[tj] at bG;cases bG;rw[Du] at bw;cases bw;have aR:s q=s p:=by rw[<-hp,n1.put p bP tj,c9];rfl
 have a6:s pl.length=s q:=by rw[<-hl,n1.put q eQ Du,eu];rfl
 have b2y:∃t,pl.reverse=eQ::bP::t:=by
  have bL:pl.reverse[0]? =some eQ:=by rw[Uq U,← Du];congr 1;omega
  have bQ:pl.reverse[1]? =some bP:=by rw[Uq U,← tj];congr 1;omega
  match pl.reverse,bL,bQ with
  |a::b::t,bL,bQ=>simp at bL bQ;exact⟨t,by rw[bL,bQ]⟩
 obtain⟨t,ht⟩:=b2y;unfold swapOk at h;rw[ht] at h;simp only at h;split at h
 ·rename_i hw;exact absurd hw kf
 ·rw[hy,hx] at h;simp only at h;rw[<-he,a6,aR] at h;rw[aR];split at h
  ·rename_i i Ak j Al bL bQ;refine⟨i,Ak,j,Al,bL,bQ,λg5=>?_⟩;subst g5;rw[gH] at h;cases h
  ·cases h
theorem b2z{run:jf}(nf:P.follows .mixedOrders=true)(qy:∀f r,CV P env B f r (callV env run f)):UD P env B run:=by
 intro floor pl ad J bc cO ws ag cb cn b2A k r id ops a w m x6 st Q b8;obtain⟨bk,c8,da,spec⟩:=b1N x6;obtain⟨s,S,v,n1,aR,a6,c0,h7,pC,th,Ai,_,jT⟩:=G6 _ _ _ _ _ _ _ _ _ cb;have c:hI P env B floor r ops pl bk c8 da (callV env run floor) s S v:=by
  refine⟨spec,qy floor r,n1,λp aZ au hw he q aX=>?_,λp q lL bP eQ s1 a2 fR s2 bm pB tj Du hx hy=>b2x n1 c0 b2A lL tj Du hx hy⟩;have gb:=jT p aZ au hw he (λh=>by rw[h] at aX;cases aX);rw[m4] at cn;have h1:=cn _ gb;unfold steady at h1;have h2:=nL h1 q aX;simp only[Ai,List.reverse_nil,vW,Cr,x1] at h2;split at h2
  ·rename_i c6d VQ;simp only[kA,fq] at VQ;obtain⟨nd,Hd,rfl⟩:=VQ;obtain rfl:q=nd:=by
    have:=Mf (i:=q) (n:=pl.length+1) (by have:=(fC.1 Hd).1;simpa using this);rw[this] at Hd;cases Hd;rfl
   split at h2
   ·rename_i v1 b2 hx;rw[AV.Aa _ _ _ h2] at hx;exact⟨b2,hx⟩
   ·cases h2
  ·cases h2
 refine wpIn_region_any nf ?_;obtain⟨hq,b2B⟩:=b2w st floor (w.drawn+1);have bC:ad=⟨s 0,ad.defers,ad.fS⟩:=by rw[aR]
 obtain⟨q,h1,h2,h3,aQ⟩:=MX c ops.size 0 U;have nV:∀p,¬dt bk (Array.replicate ops.size false) p:=λp h=>by
  unfold dt at h;simp only[qd] at h;rw[Array.getElem?_replicate] at h;split at h<;>simp at h
 have b2C:pD pl s S J (dt bk (Array.replicate ops.size false)) m 0:=⟨λp aZ h=>by omega,λp eJ aZ hQ h h'=>by omega⟩
 obtain⟨Dm,Dn,Dp⟩:=advance c (D:=dt bk (Array.replicate ops.size false)) q 0 U (λp aZ bF cw eL=>aQ p aZ bF U eL) (by rw[a6];exact hq) (by rw[a6];exact b2B) b2C;rw[qw] at Dm Dn Dp;refine VP (dg:=J) (fo:=w) (e0:=m) (ds:=ad.defers) (rc:=ad.fS) c (λcL aw aW bL bQ=>?_) ops.size _ a _ q m (s 0) ⟨st.ctx.rel,aG,λp au hd=>absurd hd (nV p),h2,?_,λe ek bF cw eL=>?_,λe ek _ _ _ h=>nV e h,⟨λ_=>rfl,λp aZ t au hd=>absurd hd (nV p),λt _=>rfl⟩,by rw[<-bC];exact Dm,Dn,Dp⟩ aG
 ·rw[<-spec.len,h7] at bL bQ;rw[c0] at bL;refine b8 cL aw aW ?_ bQ;have:bc=⟨bc.bf,ad.defers,ad.fS⟩:=by rw[<-pC,← th]
  rw[this];exact bL
 ·rcases h3 with h|⟨ek,bF,cw⟩
  ·exact .inl h
  ·exact .inr ⟨ek,bF,cw,nV q⟩
 ·have:=aQ e ek U bF cw;rw[this] at eL;cases eL
end
section
variable {P:Program}{env:Env}{B:Nat}
theorem VR(gM:s_ P env)(fu:z9 P env B)(hex:z_ P env)(nf:P.follows .mixedOrders=true):∀n,qA P env B (exec env n)
 |0=>qA.zero
 |n+1=>by
  have aH:=VR gM fu hex nf n;rw[nU];exact b0I aH (λf r=>U4 gM fu hex aH f r) (b2z nf (λf r=>U4 gM fu hex aH f r)) (b1H gM fu aH)
def fQ(n:Nat):AV->Bool:=
 Nat.rec (motive:=λ_=>AV->Bool) (λ_=>false) (λ_ aH v=>
  match v with
  | .dG o v=>!o&&cP aH v.cells
  | .a_ o _ xs=>(!o||xs.isEmpty)&&cP (λx=>cP aH x.cells) xs
  | .it _ v=>aH v
  | .ah l=>cP aH l
  | .a9 l=>cP aH l
  | .f _ x y=>cP aH x&&cP aH y
  | .gi o _=>!o
  |_=>true) n
theorem pE(n:Nat)(v:AV):fQ (n+1) v=match v with
  | .dG o v=>!o&&cP (fQ n) v.cells
  | .a_ o _ xs=>(!o||xs.isEmpty)&&cP (λx=>cP (fQ n) x.cells) xs
  | .it _ v=>fQ n v
  | .ah l=>cP (fQ n) l
  | .a9 l=>cP (fQ n) l
  | .f _ x y=>cP (fQ n) x&&cP (fQ n) y
  | .gi o _=>!o
  |_=>true:=rfl
theorem VS{w:World}{O:Nat->Prop}:∀(n:Nat) (v:AV) (u:Value),fQ n v=true->R w (λ_=>none) O B v u->R w (λ_=>none) (λb=>b<B) B v u
 |0,_,_,h,_=>by cases h
 |n+1,v,u,h,hR=>by
  have aH:=VS (w:=w) (O:=O) n;rw[pE] at h;cases hR with
  |b x=>exact .b x
  |i k n=>exact .i k n
  |s l an=>exact .s l an
  |qi=>exact .qi
  |p hm=>simp at hm
  |dG ba cp hb b3 ab al hf=>
   simp only[du,uh] at h;exact .dG ba (λhlt=>by have:=b3 h.1;omega) hb b3 ab (λj aC=>aH _ _ (nL h.2 _ (bJ aC)) (al j aC)) hf
  |af=>exact .af
  |ao hm=>simp at hm
  |lD=>exact .lD
  |a_ ba cp an ab al hl hf fu=>
   simp only[du,qa,uh,List.isEmpty_iff] at h;refine .a_ ba (λa5=>?_) an ab (λi hi j aC=>aH _ _ (nL (nL h.2 _ (bJ hi)) _ (bJ aC)) (al i hi j aC)) hl hf fu;have h1:=h.1.resolve_right a5;exact⟨λhlt=>by have:=(cp a5).2.2 h1;omega,(cp a5).2.1,(cp a5).2.2⟩
  |ou=>exact .ou
  |mp hm=>simp at hm
  |cQ hf bC ab sS=>
   simp only[du] at h;exact .cQ hf (λi a b=>aH _ _ (nL h.1 _ (bJ a)) (bC i a b)) ab (λi a b=>aH _ _ (nL h.2 _ (bJ a)) (sS i a b))
  |ur hm=>simp at hm
  |d_=>exact .d_
  |it av=>exact .it (aH _ _ h av)
  |fJ=>exact .fJ
  |ah an al hf=>exact .ah an (λi a b=>aH _ _ (nL h _ (bJ a)) (al i a b)) hf
  |a9 an al=>exact .a9 an (λi a b=>aH _ _ (nL h _ (bJ a)) (al i a b))
  |hc hu hn=>exact .hc hu hn
  |hP an=>exact .hP an
  |im n hn=>exact .im n hn
  |y an=>exact .y an
  |gi hu an=>
   simp only[uh] at h;subst h;exact .gi hu (TokOk.fresh an)
def SpecEntry(P:Program)(env:Env)(b1 g:Nat)(aY:List AV)(r:AV):Prop:=
 (∃fn c,P.funcs[g]? =some fn/\fn.body=some c/\(fn.name== "runtime.NumGoroutine")=false)∧
  ∀k rd w us,b1<=w.heap.size->Globs env w b1->bK w (λ_=>none) (λ_=>False) w.heap.size aY us.toList→
   CallsIn (fx rd) k P g us w (λe bW=>∃u,e= .returned u/\R bW (λ_=>none) (λb=>b<w.heap.size) w.heap.size r u/\w.heap.size<=bW.heap.size/\(∀b,b<w.heap.size->bW.heap[b]? =w.heap[b]?)/\bW.os=w.os/\bW.tape=w.tape/\bW.output=w.output)
def He(P:Program)(env:Env):Prop:=∀b1,z9 P env b1
theorem b2D(w:World):Rel P ⟨.nil,0⟩ w (λ_=>none) w.heap.size:=
 ⟨trivial,λ_ _ h=>by simp at h,λ_ _ _ h=>by simp at h,λ_ _ _ h=>by simp at h,λ_ _ h=>by simp at h,br _⟩
theorem b2E(aF:Nat):¬bp ⟨.nil,0⟩ (λ_=>none) aF:=λ⟨_,h,_⟩=>by simp at h
theorem VT(gM:s_ P env)(fu:He P env)(hex:z_ P env)(nf:P.follows .mixedOrders=true){n g:Nat}{aY:List AV}{r:AV}{l:List (et×ae)}(h:runF env (exec env n) 0 g aY ⟨.nil,0⟩=some l){bt fn:Nat}(bb:joinF bt 0 l=some r)(bC:fQ fn r=true)(b1:Nat):
  SpecEntry P env b1 g aY r:=by
 refine⟨?_,λk rd w us b3 de ha=>?_⟩
 ·unfold runF at h;cases hg:env.funcs g with
  |none=>simp[hg] at h
  |some cd=>
   obtain⟨fn,h1,h2,h3⟩:=gM.funcs g cd hg;obtain⟨_,c,_,_,aQ,_⟩:=Mq h2;exact⟨fn,c,h1,aQ,h3⟩
 ·have Dv:Globs env w w.heap.size:=λg v hg eE=>(de g v hg eE).mono (λ_ _ h=>h) (br _) (λ_ _ h=>h) (λb _ hb=>⟨rfl,λho=>hb (o_ b3 ho)⟩);have cb:=VR gM (fu w.heap.size) hex nf n;have oC:=b2D (P:=P) w;have Mv:bK w (λ_=>none) (bp ⟨.nil,0⟩ (λ_=>none)) w.heap.size aY us.toList:=ha.mono (λ_ _ h=>h) (br _) (λ_ _ h=>h) (λb _ _=>⟨rfl,b2E b⟩);obtain⟨_,ab⟩:=Mw gM cb (My gM 0) h k rd oC Dv Mv;refine CN ab (λe bW dh=>?_);obtain⟨ret,ag,gb,df,lI,l7,gD⟩:=dh;obtain⟨v,rfl,ir⟩:=UY bb _ _ gb;cases e with
  |returned u=>
   have b2F:Ext (⟨.nil,0⟩:ae).next ⟨.nil,0⟩ w (λ_=>none) ag bW df:=gD;have hR:=MB oC l7 b2F bt v r u ir lI;exact⟨u,rfl,VS fn r u bC hR,gD.size,λb hb=>gD.aS b hb (λ⟨_,_,h,_⟩=>by simp at h),gD.os,gD.tape,gD.out⟩
  |panicked nQ=>exact lI.elim
  |outgrown=>exact lI.elim
end
def Dw(kQ:List (Nat×List AV×AV))(g:Nat)(aY:List AV):Option AV:=
 List.rec none (λe _ aH=>cond (Nat.beq e.1 g) (cond (fY (AV.eqb 1000) aY e.2.1) (some e.2.2) aH) aH) kQ
theorem b2G(e:Nat×List AV×AV)(kQ:List (Nat×List AV×AV))(g:Nat)(aY:List AV):Dw (e::kQ) g aY=cond (Nat.beq e.1 g) (cond (fY (AV.eqb 1000) aY e.2.1) (some e.2.2) (Dw kQ g aY)) (Dw kQ g aY):=rfl
theorem M5{g:Nat}{aY:List AV}{r:AV}:∀ {kQ:List (Nat×List AV×AV)},Dw kQ g aY=some r->(g,aY,r)∈kQ
 |[],h=>by cases h
 |e::kQ,h=>by
  rw[b2G] at h;cases h1:Nat.beq e.1 g with
  |false=>rw[h1,cond_false] at h;exact iM _ (M5 h)
  |true=>
   rw[h1,cond_true] at h;cases h2:fY (AV.eqb 1000) aY e.2.1 with
   |false=>rw[h2,cond_false] at h;exact iM _ (M5 h)
   |true=>
    rw[h2,cond_true] at h;cases h;have aR:=fX h1;have a6:=GF (AV.Aa 1000) _ _ h2;subst aR;subst a6;exact Cc
inductive mJ where
 |nil
 |one (k:Nat) (a:aP)
 |node (k:Nat) (l r:mJ)
def mJ.get(t:mJ):Nat->Option aP:=
 mJ.rec (λ_=>none) (λk a i=>cond (Nat.beq i k) (some a) none) (λk _ _ l r i=>cond (Nat.blt i k) (l i) (r i)) t
def mJ.Dx(p:Nat->aP->Prop):mJ->Prop
 | .nil=>True
 | .one k a=>p k a
 | .node _ l r=>l.Dx p/\r.Dx p
theorem mJ.yj{p:Nat->aP->Prop}:∀ {t:mJ},t.Dx p->∀g cd,t.get g=some cd->p g cd
 | .nil,_,g,cd,h=>by cases h
 | .one k a,au,g,cd,h=>by
  have h:cond (Nat.beq g k) (some a) none=some cd:=h;cases h1:Nat.beq g k with
  |false=>rw[h1] at h;cases h
  |true=>
   rw[h1] at h;cases h;have:=fX h1;subst this;exact au
 | .node k l r,au,g,cd,h=>by
  have h:cond (Nat.blt g k) (l.get g) (r.get g)=some cd:=h;cases h1:Nat.blt g k with
  |false=>rw[h1] at h;exact mJ.yj au.2 g cd h
  |true=>rw[h1] at h;exact mJ.yj au.1 g cd h
structure b5 where
 funcs:mJ
 mr:Nat->Option AV
 pure:Nat->Bool
 bt:Nat
 ext:Nat->Nat
def b5.env(b:b5)(kQ:List (Nat×List AV×AV)):Env:={funcs:=b.funcs.get,mr:=b.mr,pure:=b.pure,spec:=Dw kQ,bt:=b.bt+1000,ext:=b.ext}
def M6(P:Program)(g:Nat)(cd:aP):Prop:=∃fn,P.funcs[g]? =some fn/\cfunc P fn=some cd/\(fn.name== "runtime.NumGoroutine")=false
structure kg(P:Program)(b:b5):Prop where
 funcs:b.funcs.Dx (M6 P)
 ext:∀g,b.ext g≠0->∀args v,extRow (b.ext g) args=some v->∀w m O B us cs,bK w m O B args (us++cs).toList->∃u,(invoke (.fn (.func g) cs) us).run P w= .ok (.value u) w/\R w m O B v u
 Aq:P.follows .mixedOrders=true
def runsTo(b:b5)(kQ:List (Nat×List AV×AV))(n:Nat)(e:Nat×List AV×AV):Bool:=
 match SZ (b.env kQ) n e.1 e.2.1 with
 |some v=>AV.eqb 1000 v e.2.2&&fQ 1000 e.2.2
 |none=>false
section
variable {P:Program}{b:b5}{kQ:List (Nat×List AV×AV)}
def wk(P:Program)(b:b5)(kQ:List (Nat×List AV×AV)):Prop:=∀e∈kQ,∀b1,SpecEntry P (b.env []) b1 e.1 e.2.1 e.2.2
theorem wk.b2H(h:wk P b kQ):He P (b.env kQ):=λb1 g aY r an=>h _ (M5 an) b1
theorem wk.entry(hb:kg P b)(h:wk P b kQ){n:Nat}{e:Nat×List AV×AV}(al:runsTo b kQ n e=true)(b1:Nat):SpecEntry P (b.env []) b1 e.1 e.2.1 e.2.2:=by
 unfold runsTo SZ at al;split at al
 ·rename_i v av;split at av<;>try (cases av;done)
  rename_i l cb;simp only[du] at al;rw[AV.Aa _ _ _ al.1] at av;exact VT (env:=b.env kQ) ⟨λg cd hg=>mJ.yj hb.funcs g cd hg⟩ h.b2H hb.ext hb.Aq cb av al.2 b1
 ·cases al
end
theorem b2I(c x:Nat)(l:List Nat)(k:Nat):zz c (x::l) k=cond (Nat.beq x c) (Int.ofNat k) (zz c l (k+1)):=rfl
theorem b2J{a b:Nat}(ha:a<256)(hb:b<256):(a.toUInt8==b.toUInt8)=Nat.beq a b:=by
 rw[sJ,oh,beq_iff_eq];constructor
 ·intro h;have:=congrArg UInt8.toNat h;simp at this;omega
 ·intro h;rw[h]
theorem VU{c:Nat}(ab:c<256):∀(l:List Nat) (k:Nat),(∀x∈l,x<256)->zz c l k=if Lib.indexByte (l.map Nat.toUInt8) c.toUInt8= -1 then-1 else Lib.indexByte (l.map Nat.toUInt8) c.toUInt8+k
 |[],k,_=>rfl
 |x::l,k,h=>by
  have hx:x<256:=h x aG;have aH:=VU ab l (k+1) (λy hy=>h y (by simp[hy]));have mE:=Lib.indexByte_ge (l.map Nat.toUInt8) c.toUInt8;rw[b2I,aH,pb];simp only[Lib.indexByte,b2J hx ab];cases hb:Nat.beq x c with
  |true=>simp
  |false=>
   simp only[cond_false,rj,if_false];by_cases h1:Lib.indexByte (l.map Nat.toUInt8) c.toUInt8= -1
   ·simp[h1]
   ·have h2:(Lib.indexByte (l.map Nat.toUInt8) c.toUInt8== -1)=false:=by simpa using h1
    rw[h2];simp only[h1,if_false,rj];rw[if_neg U];omega
theorem b2K(x:Nat)(l:List Nat)(y:Nat)(r:List Nat):hZ (x::l) (y::r)=cond (Nat.blt x y) true (cond (Nat.beq x y) (hZ l r) false):=rfl
theorem b2L(x:Nat)(l:List Nat)(y:Nat)(r:List Nat):eqL (x::l) (y::r)=cond (Nat.beq x y) (eqL l r) false:=rfl
theorem cmp_eq:∀(a b:List Nat),(∀x∈a,x<256)->(∀x∈b,x<256)->Lib.compareBytes (a.map Nat.toUInt8) (b.map Nat.toUInt8)=cond (hZ a b) (-1) (cond (eqL a b) 0 1)
 |[],[],_,_=>rfl
 |[],_::_,_,_=>rfl
 |_::_,[],_,_=>rfl
 |x::a,y::b,ha,hb=>by
  have hx:x<256:=ha x aG;have hy:y<256:=hb y aG;have aH:=cmp_eq a b (λz bb=>ha z (by simp[bb])) (λz bb=>hb z (by simp[bb]));have VV:∀ {p q:Nat},p<256->q<256->(p.toUInt8<q.toUInt8↔p<q):=λau aX=>by
   rw[SH];simp;omega
  simp only[pb,Lib.compareBytes,b2K,b2L,VV hx hy,VV hy hx];rcases vY x y with h|h|h
  ·have:Nat.blt x y=true:=(we.2 h)
   simp[h,this]
  ·subst h;have h1:Nat.blt x x=false:=by cases h:Nat.blt x x with|false=>rfl|true=>exact absurd ((we.1 h)) (Nat.lt_irrefl x)
   simp[h1,aH]
  ·have h1:Nat.blt x y=false:=by cases h':Nat.blt x y with|false=>rfl|true=>have:=(we.1 h');omega
   have h2:Nat.beq x y=false:=by cases h':Nat.beq x y with|false=>rfl|true=>have:=fX h';omega
   have h3:¬x<y:=by omega
   simp[h,h1,h2,h3]
section
variable {P:Program}{g:Nat}{fn:Func}
theorem VW{w:World}{m:Nat->Option Nat}{O:Nat->Prop}{B:Nat}{x y:AV}{l:List Value}(h:bK w m O B [x,y] l):∃u v,l=[u,v]/\R w m O B x u/\R w m O B y v:=by
 obtain⟨h1,h2⟩:=h
 match l,h1,h2 with
 |[u,v],_,h2=>exact⟨u,v,rfl,h2 0 aG aG,h2 1 aG aG⟩
theorem b2M(hf:P.funcs[g]? =some fn)(x7:(fn.name== "runtime.NumGoroutine")=false)(hb:fn.body.isNone=true)(hn:Extern.findNext fn=none)(he:Extern.find fn=some Extern.BytealgIndexByte.indexByte)
  (args:List AV) (v:AV) (h:extRow 1 args=some v) (w:World) (m:Nat->Option Nat) (O:Nat->Prop) (B:Nat) (us cs:Array Value) (ha:bK w m O B args (us++cs).toList):∃u,(invoke (.fn (.func g) cs) us).run P w= .ok (.value u) w/\R w m O B v u:=by
 have key:∃l c,args=[.s l,.i .u8 (Int.ofNat c)]/\c<256/\v= .i .i64 (zz c l 0):=by
  unfold extRow at h;split at h
  ·rename_i l c _;cases ab:Nat.blt c 256 with
   |false=>rw[ab] at h;cases h
   |true=>rw[ab,cond_true] at h;cases h;exact⟨l,c,rfl,(we.1 ab),rfl⟩
  ·rename_i h1;exact absurd h1 ca
  ·rename_i h1;exact absurd h1 ca
  ·cases h
 obtain⟨l,c,rfl,ab,rfl⟩:=key;obtain⟨M7,M8,hl,h1,h2⟩:=VW ha;have lH:us++cs= #[M7,M8]:=by apply m3;simpa using hl
 cases h1 with
 |s _ hlt=>
  cases h2 with
  |i _ _=>
   refine⟨.int .i64 (zz c l 0),?_,.i _ _⟩;show(callFunc g (us++cs)).run P w=_;rw[run_callFunc_extern hf x7 hb hn he,lH,Lib.run_indexByteString];have aR:(strOf l).data.toList=l.map Nat.toUInt8:=by simp[strOf]
   have a6:(Int.ofNat c).toNat=c:=rfl;rw[aR,a6,VU ab l 0 hlt];simp only[e3];split
   ·rename_i h;rw[h]
   ·simp
theorem b2N(hf:P.funcs[g]? =some fn)(x7:(fn.name== "runtime.NumGoroutine")=false)(hb:fn.body.isNone=true)(hn:Extern.findNext fn=none)(he:Extern.find fn=some Extern.BytealgCompare.compare)
  (args:List AV) (v:AV) (h:extRow 2 args=some v) (w:World) (m:Nat->Option Nat) (O:Nat->Prop) (B:Nat) (us cs:Array Value) (ha:bK w m O B args (us++cs).toList):∃u,(invoke (.fn (.func g) cs) us).run P w= .ok (.value u) w/\R w m O B v u:=by
 have key:∃a b,args=[.s a,.s b]/\v= .i .i64 (cond (hZ a b) (-1) (cond (eqL a b) 0 1)):=by
  unfold extRow at h;split at h
  ·rename_i h1;exact absurd h1 ca
  ·cases h;exact⟨_,_,rfl,rfl⟩
  ·rename_i h1;exact absurd h1 ca
  ·cases h
 obtain⟨a,b,rfl,rfl⟩:=key;obtain⟨M7,M8,hl,h1,h2⟩:=VW ha;have lH:us++cs= #[M7,M8]:=by apply m3;simpa using hl
 cases h1 with
 |s _ hlt=>
  cases h2 with
  |s _ b2O=>
   refine⟨.int .i64 (cond (hZ a b) (-1) (cond (eqL a b) 0 1)),?_,.i _ _⟩;show(callFunc g (us++cs)).run P w=_;rw[run_callFunc_extern hf x7 hb hn he,lH,Lib.run_compareString];have aR:∀l,(strOf l).data.toList=l.map Nat.toUInt8:=λl=>by simp[strOf]
   rw[aR,aR,cmp_eq a b hlt b2O];rfl
end
theorem SpecEntry.calls{P:Program}{env:Env}{b1 g:Nat}{aY:List AV}{r:AV}(h:SpecEntry P env b1 g aY r){w:World}{us:Array Value}(b3:b1<=w.heap.size)(de:Globs env w b1)(ha:bK w (λ_=>none) (λ_=>False) w.heap.size aY us.toList):
  Calls P g us w (λe bW=>∃u,e= .returned u/\R bW (λ_=>none) (λb=>b<w.heap.size) w.heap.size r u/\w.heap.size<=bW.heap.size/\(∀b,b<w.heap.size->bW.heap[b]? =w.heap[b]?)/\bW.os=w.os/\bW.tape=w.tape/\bW.output=w.output):=
 (h.2 0 none w us b3 de ha).calls (λk=>by simp[Fence.room,fx])
theorem VX{α β:Type}{f:α->Option β}:∀ {l:List α} {r:List β},mapOL f l=some r->r.length=l.length/\∀i (h:i<l.length) (h':i<r.length),f l[i]=some r[i]
 |[],r,h=>by cases h;exact⟨rfl,λi h=>by simp at h⟩
 |x::xs,r,h=>by
  unfold mapOL at h;split at h<;>cases h;rename_i y ba h1 h2;obtain⟨h3,aQ⟩:=VX h2;refine⟨by simp[h3],λi hi dc=>?_⟩;cases i with
  |zero=>simpa using h1
  |succ i=>simpa using aQ i (by simpa using hi) (by simpa using dc)
def packA(aa:Option Nat)(l:List AV):Option AV:=
 match aa,l with
 |none,[x]=>some x
 |none,_=>none
 |some n,l=>if l.length=n then some (.ah l) else none
def avCat(f:TypeId->DataW Unit->Option (List AV))(cells:TypeId->Nat):List (Nat×TypeId)->Nat->List (DataW Unit)->Option (List AV)
 |[],_,[]=>some []
 |(o,t)::a8,k,d::ds=>
  if o=k then match f t d,avCat f cells a8 (k+cells t) ds with
   |some l,some r=>if l.length=cells t then some (l++r) else none
   |_,_=>none
  else none
 |_,_,_=>none
def avCells(P:Program):Nat->TypeId->DataW Unit->Option (List AV)
 |0,_,_=>none
 |n+1,t,d=>
  match P.underlying t,d with
  |some .bool,.lit (.bool b)=>some [.b b]
  |some (.int _),.lit (.int k x)=>some [.i k x]
  |some .string,.lit (.string l)=>some [.s (l.map (·.toNat))]
  |some (.pointer _),.nil=>some [.p none]
  |some (.slice _),.nil=>some [.af]
  |some (.slice e),.slice (y::ba) _=>match shapeOf P e,P.cellsOf e with
   |some aa,c+1=>if shN aa=c+1 then match mapOL (λd=>match avCells P n e d with|some l=>packA aa l|none=>none) (y::ba) with
     |some xs=>some [.a_ true aa xs]
     |none=>none
    else none
   |_,_=>none
  |some (.struct a8),.agg aE=>match avCat (avCells P n) P.cellsOf (a8.toList.map λf=>(f.offset,f.type)) 0 aE with
   |some l=>if l.length=P.cellsOf t then some l else none
   |none=>none
  |some (.array k e),.agg aE=>match avCat (avCells P n) P.cellsOf ((List.range k).map λi=>(i*P.cellsOf e,e)) 0 aE with
   |some l=>if l.length=P.cellsOf t then some l else none
   |none=>none
  |_,_=>none
section
variable {P:Program}{w:World}
theorem M9{base:Nat}{a:Addr}{n:Nat}{cs:List Value}(h:w.cells? base a n=some cs):cs.length=n/\∀i,i<n->w.cell? (a.add i)=cs[i]? :=by
 unfold World.cells? at h;split at h
 ·exact⟨by simpa using mapM_some_length h,λi hi=>mapM_some_get h i i (by simp[hi])⟩
 ·cases h
theorem b2P{a:Addr}{v:Value}(h:w.cell? a=some v):a.spot=none/\a.block<w.heap.size:=by
 unfold World.cell? at h;split at h
 ·rename_i hh;split at h
  ·cases h
  ·rename_i an;refine⟨by cases hx:a.spot with|none=>rfl|some _=>simp[hx] at an,?_⟩;exact(xt.1 hh).1
 ·cases h
theorem M_{f:TypeId->DataW Unit->Option (List AV)}{eE m:Nat}(aH:∀t cs d aE l,DataW.trod (λ_=>()) P w 0 (λ_=>true) false m t cs=some (d,aE)->f t d=some l->bK w (λ_=>none) (λb=>w.heap.size<=b) eE l cs/\∀x∈l,conf none x=true)(cs:List Value):
  ∀(a8:List (Nat×TypeId)) (k:Nat) (xs:List (DataW Unit×List MemPlace)) (l:List AV),(∀(i o:Nat) (t:TypeId),a8[i]? =some (o,t)->DataW.trod (λ_=>()) P w 0 (λ_=>true) false m t ((cs.drop o).take (P.cellsOf t))=xs[i]?)→
   avCat f P.cellsOf a8 k (xs.map (·.1))=some l->k+l.length=cs.length->bK w (λ_=>none) (λb=>w.heap.size<=b) eE l (cs.drop k)/\∀x∈l,conf none x=true
 |[],k,[],l,_,h,ay=>by
  cases h;rw[Ma (by simp at ay;omega)];exact⟨.nil,λx hx=>by cases hx⟩
 |[],k,x::xs,l,_,h,ay=>by simp[avCat] at h
 |(o,t)::a8,k,[],l,_,h,ay=>by simp[avCat] at h
 |(o,t)::a8,k,x::xs,l,hx,h,ay=>by
  simp only[pb,avCat] at h;split at h
  ·rename_i ho;subst ho;split at h
   ·rename_i uP iq h1 h2;split at h<;>cases h;rename_i ji;have h0:=hx 0 o t I;simp only[Uo] at h0;obtain⟨a2,bm⟩:=aH t _ x.1 x.2 uP (by rw[h0]) h1;have al:=M_ aH cs a8 (o+P.cellsOf t) xs iq (λi bU Gh hi=>by simpa using hx (i+1) bU Gh (by simpa using hi)) h2 (by rw[c4] at ay;omega);refine⟨?_,λy hy=>(eP.1 hy).elim (bm y) (al.2 y)⟩;have hd:=al.1;rw[<-nD] at hd;have:=a2.append hd;rwa[xX] at this
   ·cases h
  ·cases h
theorem VY{aa:Option Nat}{l:List AV}{x:AV}(h:packA aa l=some x)(hl:∀y∈l,conf none y=true):conf aa x=true/\x.cells=l:=by
 unfold packA at h;split at h
 ·cases h;have:=hl x aG;refine⟨this,?_⟩;cases x<;>simp_all [conf,AV.cells]
 ·cases h
 ·split at h<;>cases h;rename_i hn;exact⟨by simp[conf,hn],rfl⟩
theorem VZ(eE:Nat):∀(n fuel:Nat) (t:TypeId) (cs:List Value) (d:DataW Unit) (aE:List MemPlace) (l:List AV),DataW.trod (λ_=>()) P w 0 (λ_=>true) false fuel t cs=some (d,aE)->avCells P n t d=some l→
  bK w (λ_=>none) (λb=>w.heap.size<=b) eE l cs/\∀x∈l,conf none x=true
 |0,_,_,_,_,_,_,_,h=>by cases h
 |n+1,fuel,t,cs,d,aE,l,hd,h=>by
  have aH:=λm t cs d aE l=>VZ eE n m t cs d aE l;unfold avCells at h;split at h
  ·rename_i ht;obtain⟨b,rfl,hx⟩:=DataW.trod_bool ht hd;cases h;cases hx;exact⟨.cons (.b _) .nil,λx hx=>by simp at hx;subst hx;rfl⟩
  ·rename_i ht;obtain⟨b,rfl,hx,_⟩:=DataW.trod_int ht hd;cases h;cases hx;exact⟨.cons (.i _ _) .nil,λx hx=>by simp at hx;subst hx;rfl⟩
  ·rename_i ht;obtain⟨s,rfl,hx,_⟩:=DataW.trod_string ht hd;cases h;cases hx;have:=R.s (w:=w) (m:=λ_=>none) (O:=λb=>w.heap.size<=b) (B:=eE) (xz s) (Th s);rw[Tg] at this;exact⟨.cons this .nil,λx hx=>by simp at hx;subst hx;rfl⟩
  ·rename_i ht;rcases DataW.trod_pointer ht hd with⟨rfl,_⟩|⟨_,_,_,_,_,_,hx,_⟩
   ·cases h;exact⟨.cons .qi .nil,λx hx=>by simp at hx;subst hx;rfl⟩
   ·cases hx
  ·rename_i ht;rcases DataW.trod_slice ht hd with⟨rfl,_⟩|⟨_,_,_,_,_,_,_,_,hx,_⟩
   ·cases h;exact⟨.cons .af .nil,λx hx=>by simp at hx;subst hx;rfl⟩
   ·cases hx
  ·rename_i e y ba _ ht;split at h<;>try (cases h;done)
   rename_i aa c h6 ab;split at h<;>try (cases h;done)
   rename_i V0;split at h<;>cases h;rename_i xs dH;obtain⟨h1,h2⟩:=VX dH;rcases DataW.trod_slice ht hd with⟨_,hx⟩|⟨a,len,cap,elems,rest,m,rfl,rfl,hx,_,kL,zN,xL,hF,_,_⟩
   ·cases hx
   simp only[xV,DataW.slice.injEq] at hx;obtain⟨⟨fr,_⟩,_⟩:=hx;have hlen:xs.length=len:=by rw[h1,fr];simpa using xL
   have each:∀i (hi:i<xs.length),∃us,w.cells? 0 (a.add (i*P.cellsOf e)) (P.cellsOf e)=some us/\bK w (λ_=>none) (λb=>w.heap.size<=b) eE (xs[i]).cells us/\conf aa xs[i]=true/\∀x∈(xs[i]).cells,conf none x=true:=λi hi=>by
    have hg:=hF i U;have dc:i<elems.length:=by omega
    rw[cK dc] at hg;simp only[dP] at hg;obtain⟨us,hu,b2Q⟩:=hg;have h3:=h2 i U hi;have aR:(y::ba)[i]'U=(elems[i]).1:=by
     have:(y::ba)[i]? =(elems.map (·.1))[i]? :=by rw[fr]
     rw[cK U,cK (by simpa using dc),cJ] at this;simpa using this
    rw[aR] at h3;split at h3<;>try (cases h3;done)
    rename_i uP ji;obtain⟨a2,bm⟩:=aH m e us _ _ uP b2Q ji;obtain⟨cx,ep⟩:=VY h3 bm;exact⟨us,hu,by rw[ep];exact a2,cx,by rw[ep];exact bm⟩
   have LK:0<xs.length:=by rw[h1];simp
   obtain⟨c6e,b2R,oC,fm,_⟩:=each 0 LK;obtain⟨c6f,xR⟩:=M9 b2R;have nK:P.cellsOf e=c+1:=ab;have Hf:=xR 0 U;rw[cK U] at Hf;simp only[CO] at Hf;have b2S:(a.add 0).add 0=a:=rfl;rw[b2S] at Hf;obtain⟨fu,V1⟩:=b2P Hf;obtain⟨aF,off,sp⟩:=a;cases fu;refine⟨.cons ?_ .nil,λx hx=>by simp at hx;subst hx;rfl⟩;rw[<-hlen];refine .a_ (λi j=>(w.cell? ⟨aF,off+i*shN aa+j,none⟩).getD undef) (λ_=>⟨by show ¬w.heap.size<=aF;exact Nat.not_le.2 V1,V1,λh=>by cases h⟩) (λi hi=>(each i hi).choose_spec.2.2.1) (λi hi j aC=>?_) (λi hi j aC=>?_) U (λv av x hx=>?_) (λ_=>rfl)
   ·obtain⟨us,hu,al,iu,_⟩:=each i hi;obtain⟨hl,hg⟩:=M9 hu;have fw:j<P.cellsOf e:=by rw[uA iu] at aC;omega
    have:=hg j fw;rw[k5,k5,cK U] at this;rw[nK,← V0] at this;rw[this];rfl
   ·obtain⟨us,hu,al,iu,_⟩:=each i hi;obtain⟨hl,hg⟩:=M9 hu;have fw:j<P.cellsOf e:=by rw[uA iu] at aC;omega
    have:=hg j fw;rw[k5,k5,cK U] at this;rw[nK,← V0] at this;rw[this];exact al.2 j aC U
   ·obtain⟨i,hi,rfl⟩:=jw av;exact(each i hi).choose_spec.2.2.2 x hx
  ·rename_i a8 m7 ht;split at h<;>try (cases h;done)
   rename_i uP ji;split at h<;>cases h;rename_i hlen;obtain⟨xs,m,rfl,hx,gL,iv,hF⟩:=DataW.trod_struct ht hd;simp only[xV,DataW.agg.injEq] at hx;obtain⟨rfl,_⟩:=hx;have:=M_ (eE:=eE) (m:=m) (λt cs d aE l=>aH m t cs d aE l) cs _ 0 xs l (λi o Gh hi=>by
    simp only[kA,fq,xV] at hi;obtain⟨f,hf,rfl,rfl⟩:=hi;exact hF i f (by simpa using hf)) ji U
   simpa using this
  ·rename_i k e m7 ht;split at h<;>try (cases h;done)
   rename_i uP ji;split at h<;>cases h;rename_i hlen;obtain⟨xs,m,rfl,hx,gL,iv,hF⟩:=DataW.trod_array ht hd;simp only[xV,DataW.agg.injEq] at hx;obtain⟨rfl,_⟩:=hx;have:=M_ (eE:=eE) (m:=m) (λt cs d aE l=>aH m t cs d aE l) cs _ 0 xs l (λi o Gh hi=>by
    simp only[kA,fq,xV] at hi;obtain⟨j,aC,rfl,rfl⟩:=hi;have hG:=fC.1 aC;obtain⟨V2,Hg⟩:=hG;simp at V2 Hg;subst Hg;exact hF i V2) ji U
   simpa using this
  ·cases h
def avVar(P:Program)(n:Nat)(x:String×DataW Unit):Option (Nat×AV):=
 match P.globalNamed x.1 with
 |some g=>match P.globals[g]? with
  |some tk=>match shapeOf P tk.type,avCells P n tk.type x.2 with
   |some aa,some l=>match packA aa l with
    |some v=>some (g,v)
    |none=>none
   |_,_=>none
  |none=>none
 |none=>none
noncomputable def Hh (l:List (Nat×AV)) (g:Nat):Option AV:=List.rec none (λe _ aH=>cond (Nat.beq e.1 g) (some e.2) aH) l
theorem Na{g:Nat}{v:AV}:∀ {l:List (Nat×AV)},Hh l g=some v->(g,v)∈l
 |[],h=>by cases h
 |e::l,h=>by
  have h:cond (Nat.beq e.1 g) (some e.2) (Hh l g)=some v:=h;cases h1:Nat.beq e.1 g with
  |false=>rw[h1,cond_false] at h;exact iM _ (Na h)
  |true=>
   rw[h1,cond_true] at h;cases h;have:=fX h1;subst this;exact Cc
theorem var?_heap{n:String}{g:Nat}{cs:Array Value}(hg:P.globalNamed n=some g)(h:w.var? P n=some cs):∃t bt,w.heap[g]? =some (.cells cs t bt):=by
 unfold World.var? at h;rw[hg] at h;simp only[Option.bind_some] at h;split at h<;>cases h;exact⟨_,_,by assumption⟩
theorem V3:∀ {laid:List (String×DataW Unit)} {aE:List MemPlace},DataW.LaidVars P w laid aE->∀x∈laid,∃g t cs fuel p,P.globalNamed x.1=some g/\(P.globals[g]?).map (·.type)=some t/\w.var? P x.1=some cs/\DataW.trod (λ_=>()) P w 0 (λ_=>true) false fuel t cs.toList=some (x.2,p)
 |[],_,_,x,hx=>by cases hx
 |y::laid,aE,hl,x,hx=>by
  obtain⟨cZ,t0,oF,f0,p0,dM,wm,yk,yl,k_,py,_⟩:=hl;rcases dF.1 hx with rfl|hx
  ·exact⟨cZ,t0,oF,f0,p0,wm,yk,yl,k_⟩
  ·exact V3 py x hx
theorem b2T{n:Nat}{x:String×DataW Unit}{g:Nat}{v:AV}(h1:avVar P n x=some (g,v)){cZ t0 f0:Nat}{oF:Array Value}{p0:List MemPlace}(wm:P.globalNamed x.1=some cZ)(yk:(P.globals[cZ]?).map (·.type)=some t0)
  (yl:w.var? P x.1=some oF) (k_:DataW.trod (λ_=>()) P w 0 (λ_=>true) false f0 t0 oF.toList=some (x.2,p0)) (eE:Nat):
  R w (λ_=>none) (λb=>w.heap.size<=b) eE (.dG true v) (.pointer (some ⟨g,0,none⟩)):=by
 unfold avVar at h1;rw[wm] at h1;simp only[] at h1;cases ld:P.globals[cZ]? with
 |none=>simp[ld] at h1
 |some V4=>
  simp only[ld] at h1 yk;simp only[FP,cJ] at yk;subst yk;split at h1<;>try (cases h1;done)
  rename_i aa uP an ji;split at h1<;>cases h1;rename_i au;obtain⟨a2,bm⟩:=VZ eE n f0 _ _ _ _ _ k_ ji;obtain⟨cx,ep⟩:=VY au bm;obtain⟨pd,bt,hh⟩:=var?_heap wm yl;have hlt:g<w.heap.size:=(xt.1 hh).1;refine .dG (λj=>(oF[j]?).getD undef) (by show ¬w.heap.size<=g;omega) hlt (λh=>by cases h) (λj aC=>?_) (λj aC=>?_) (by rw[ep];exact bm)
  ·rw[ep] at aC;have fw:j<oF.size:=by have:=a2.1;simp at this;omega
   unfold World.cell?;rw[hh];simp[fw]
  ·have hG:=aC;rw[ep] at hG;have fw:j<oF.size:=by have:=a2.1;simp at this;omega
   have:=a2.2 j hG (by simpa using fw);simp only[ep];simpa [fw] using this
theorem V5{n:Nat}{laid:List (String×DataW Unit)}{aE:List MemPlace}(hl:DataW.LaidVars P w laid aE):∀ {L:List (String×DataW Unit)} {tk:List (Nat×AV)},(∀x∈L,x∈laid)->mapOL (avVar P n) L=some tk→
  ∀g v,(g,v)∈tk->∀eE,R w (λ_=>none) (λb=>w.heap.size<=b) eE (.dG true v) (.pointer (some ⟨g,0,none⟩))
 |[],tk,_,h,g,v,hm=>by cases h;cases hm
 |x::L,tk,hL,h,g,v,hm=>by
  unfold mapOL at h;split at h<;>cases h;rename_i y ba h1 h2;rcases dF.1 hm with rfl|hm
  ·intro eE;obtain⟨cZ,t0,oF,f0,p0,wm,yk,yl,k_⟩:=V3 hl x (hL x aG);exact b2T h1 wm yk yl k_ eE
  ·exact V5 hl (λx hx=>hL x (by simp[hx])) h2 g v hm
theorem globs_of_laid{env:Env}{laid:List (String×DataW Unit)}{n:Nat}{tk:List (Nat×AV)}(hl:laidMet P laid w)(names:List String)(h:mapOL (avVar P n) (laid.filter λx=>names.contains x.1)=some tk)(hg:env.mr=Hh tk):Globs env w w.heap.size:=by
 obtain⟨aE,hl,_⟩:=hl;intro g v av eE;rw[hg] at av;exact V5 hl (λx hx=>(nP.1 hx).1) h g v (Na av) eE
end
end Go.Lyc
end
noncomputable section
namespace Go.Lyc
set_option maxHeartbeats 0
variable [Tok][TokOk]
open Go.RowKit Go.ChangeShapes Go.WideShapes
theorem b2U{W W':World}{may:MemPlace->Prop}(ay:∀b,b<W.heap.size->W'.heap[b]? =W.heap[b]?)(l2:W'.os=W.os)(lE:W'.output=W.output):W.keptBut W' may:=by
 refine⟨l2,lE,λi hi=>?_⟩;rw[ay i hi];cases h:W.heap[i]? with
 |none=>rfl
 |some o=>
  cases o with
  |cells c t ad=>exact⟨rfl,rfl,rfl,λj _=>rfl⟩
  |map es clock=>exact .inr ⟨rfl,rfl⟩
  |_=>rfl
end Go.Lyc
end
noncomputable section
namespace Go.Lyc
set_option maxHeartbeats 0
variable [Tok][TokOk]
open Go.RowKit
def dp{α:Type}(f:Nat->Option (List α))(Q:α->Prop):Prop:=∃fy l,l≠[]/\(∀F,fy<=F->f F=some l)/\∀x∈l,Q x
theorem dp.one{α:Type}{f:Nat->Option (List α)}{Q:α->Prop}{x:α}(h:∀F,f F=some [x])(aX:Q x):dp f Q:=⟨0,[x],aG,λF _=>h F,λ_ hy=>by rw[cu.1 hy];exact aX⟩
theorem dp.mono{α:Type}{f:Nat->Option (List α)}{Q n3:α->Prop}(h:dp f Q)(aX:∀x,Q x->n3 x):dp f n3:=let⟨fy,l,h1,h2,h3⟩:=h;⟨fy,l,h1,h2,λx hx=>aX x (h3 x hx)⟩
theorem dp.congr{α:Type}{f g:Nat->Option (List α)}{Q:α->Prop}(h:dp f Q)(e:∀F,g F=f F):dp g Q:=let⟨fy,l,h1,h2,h3⟩:=h;⟨fy,l,h1,λF b4=>(e F).trans (h2 F b4),h3⟩
theorem dp.succ{α:Type}{f g:Nat->Option (List α)}{Q:α->Prop}(h:dp f Q)(e:∀F,g (F+1)=f F):dp g Q:=
 let⟨fy,l,h1,h2,h3⟩:=h
 ⟨fy+1,l,h1,λF b4=>by obtain⟨k,rfl⟩:∃k,F=k+1:=⟨F-1,U⟩;exact(e k).trans (h2 k U),h3⟩
theorem b2V{α β:Type}(f:α->Option (List β))(x y:α)(t:List α):oo f (x::y::t)=match f x with|none=>none|some a=>match oo f (y::t) with|none=>none|some b=>some (a++b):=rfl
theorem dp.flat{α β:Type}{g:α->Nat->Option (List β)}{Q:β->Prop}:∀(l:List α),l≠[]->(∀x∈l,dp (g x) Q)->dp (λF=>oo (λx=>g x F) l) Q
 |[],h,_=>absurd I h
 |[x],_,h=>(h x aG).congr λF=>rfl
 |x::y::t,_,h=>by
  obtain⟨tl,uP,a2,er,gC⟩:=h x aG;obtain⟨b2W,V6,bm,dy,lN⟩:=dp.flat (g:=g) (Q:=Q) (y::t) aG (λz bb=>h z (iM _ bb));refine⟨max tl b2W,uP++V6,by simp[a2],λF b4=>?_,λz bb=>?_⟩
  ·show oo (λx=>g x F) (x::y::t)=_;have a6:oo (λx=>g x F) (y::t)=some V6:=dy F U;rw[b2V,er F U,a6]
  ·rcases eP.1 bb with bb|bb
   ·exact gC z bb
   ·exact lN z bb
theorem dp.then{α β:Type}{f:Nat->Option (List α)}{g:α->Nat->Option (List β)}{Q:α->Prop}{n3:β->Prop}(h:dp f Q)(hg:∀x,Q x->dp (g x) n3):dp (λF=>hB (f F) (λx=>g x F)) n3:=by
 obtain⟨fy,l,h1,h2,h3⟩:=h;obtain⟨tl,ct,a,b,c⟩:=dp.flat (g:=g) (Q:=n3) l h1 (λx hx=>hg x (h3 x hx));exact⟨max fy tl,ct,a,λF b4=>by show hB (f F) _=_;rw[h2 F U];exact b F U,c⟩
abbrev rU:=fN->Fr->ae->Prop
def gj(env:Env)(floor:Nat)(aN:Option Nat)(c:bO)(ad:Fr)(J:ae)(Q:rU):Prop:=dp (λF=>exec env F floor aN c ad J) (λo=>Q o.1 o.2.1 o.2.2)
def kh(env:Env)(floor:Nat)(dQ:Bool)(ops:List a3)(ad:Fr)(J:ae)(Q:rU):Prop:=dp (λF=>runOps env floor (callV env (exec env F) floor) dQ ops ad J) (λo=>Q o.1 o.2.1 o.2.2)
def bH(env:Env)(floor:Nat)(cr:AV)(args:List AV)(J:ae)(Q:et->ae->Prop):Prop:=dp (λF=>callV env (exec env F) floor cr args J) (λo=>Q o.1 o.2)
section
variable {env:Env}{floor:Nat}{aN:Option Nat}{ad:Fr}{J:ae}{Q:rU}
theorem gj.mono{c:bO}{n3:rU}(h:gj env floor aN c ad J Q)(aX:∀x ad J,Q x ad J->n3 x ad J):gj env floor aN c ad J n3:=dp.mono h λ_ ho=>aX _ _ _ ho
theorem gj.skip(h:Q .normal ad J):gj env floor aN .skip ad J Q:=(dp.one (f:=λF=>some [(fN.normal,ad,J)]) (Q:=λo=>Q o.1 o.2.1 o.2.2) (λ_=>rfl) h).succ λF=>by rw[nU];rfl
theorem gj.ret(h:Q .ret ad J):gj env floor aN .ret ad J Q:=(dp.one (f:=λF=>some [(fN.ret,ad,J)]) (Q:=λo=>Q o.1 o.2.1 o.2.2) (λ_=>rfl) h).succ λF=>by rw[nU];rfl
theorem gj.exit{id:Nat}(h:Q (.exit id) ad J):gj env floor aN (.exit id) ad J Q:=(dp.one (f:=λF=>some [(fN.exit id,ad,J)]) (Q:=λo=>Q o.1 o.2.1 o.2.2) (λ_=>rfl) h).succ λF=>by rw[nU];rfl
theorem gj.region{ops:List a3}(h:kh env floor aN.isNone ops ad J Q):gj env floor aN (.region ops) ad J Q:=dp.succ h λF=>by rw[nU];rfl
def b2X(env:Env)(floor:Nat)(aN:Option Nat)(b:bO)(Q:rU):rU:=λx ad J=>match x with| .normal=>gj env floor aN b ad J Q|x=>Q x ad J
theorem gj.seq{a b:bO}(h:gj env floor aN a ad J (b2X env floor aN b Q)):gj env floor aN (.seq a b) ad J Q:=by
 refine dp.succ (dp.then (g:=λx F=>zA (exec env F) floor aN b x) h λo ho=>?_) λF=>by rw[nU];rfl
 obtain⟨x,bc,ag⟩:=o;cases x with
 |normal=>exact ho
 |exit i=>exact dp.one (λ_=>rfl) ho
 |ret=>exact dp.one (λ_=>rfl) ho
 |panic v=>exact dp.one (λ_=>rfl) ho
def b2Y(id:Nat)(Q:rU):rU:=λx ad J=>match x with| .exit j=>if j=id then Q .normal ad J else Q (.exit j) ad J|x=>Q x ad J
theorem gj.block{a:bO}{id:Nat}(h:gj env floor aN a ad J (b2Y id Q)):gj env floor aN (.block id a) ad J Q:=by
 refine dp.succ (dp.then (g:=λx _=>Lg id x) h λo ho=>?_) λF=>by rw[nU];rfl
 obtain⟨x,bc,ag⟩:=o;cases x with
 |normal=>exact dp.one (λ_=>rfl) ho
 |exit i=>
  have ho:(if i=id then Q .normal bc ag else Q (.exit i) bc ag):=ho;by_cases hi:i=id
  ·subst hi;rw[if_pos I] at ho;refine dp.one (x:=(.normal,bc,ag)) (λ_=>?_) ho;show cond (Nat.beq i i) _ _=_;rw[gH];rfl
  ·rw[if_neg hi] at ho;refine dp.one (x:=(.exit i,bc,ag)) (λ_=>?_) ho;show cond (Nat.beq i id) _ _=_;rw[show Nat.beq i id=false from by cases hb:Nat.beq i id with|false=>rfl|true=>exact absurd (fX hb) hi];rfl
 |ret=>exact dp.one (λ_=>rfl) ho
 |panic v=>exact dp.one (λ_=>rfl) ho
theorem gj.iW{o:aI}{a b:bO}{t:Bool}(ho:evalA env ad.bf o=some (.b t))(ht:t=true->gj env floor aN a ad J Q)(hf:t=false->gj env floor aN b ad J Q):gj env floor aN (.cond o a b) ad J Q:=by
 cases t with
 |true=>
  refine dp.succ (ht I) λF=>?_;rw[nU];show(match evalA env ad.bf o with|some (.b t)=>exec env F floor aN (cond t a b) ad J|_=>none)=_;rw[ho];rfl
 |false=>
  refine dp.succ (hf I) λF=>?_;rw[nU];show(match evalA env ad.bf o with|some (.b t)=>exec env F floor aN (cond t a b) ad J|_=>none)=_;rw[ho];rfl
theorem gj.loop{a:bO}(eM:Nat->Fr->ae->Prop)(a0:∀m ad J,eM m ad J->gj env floor aN a ad J (λx bc ag=>match x with| .normal=>∃aW,aW<m/\eM aW bc ag|x=>Q x bc ag)):∀m ad J,eM m ad J->gj env floor aN (.loop a) ad J Q:=by
 intro m
 induction m using Nat.strongRecOn with
 |ind m aH=>
  intro ad J h;refine dp.succ (dp.then (g:=λx F=>zA (exec env F) floor aN (.loop a) x) (a0 m ad J h) λo ho=>?_) λF=>by rw[nU];rfl
  obtain⟨x,bc,ag⟩:=o;cases x with
  |normal=>obtain⟨aW,h1,h2⟩:=ho;exact aH aW h1 bc ag h2
  |exit i=>exact dp.one (λ_=>rfl) ho
  |ret=>exact dp.one (λ_=>rfl) ho
  |panic v=>exact dp.one (λ_=>rfl) ho
theorem kh.nil{dQ:Bool}(h:Q .normal ad J):kh env floor dQ [] ad J Q:=dp.one (λ_=>rfl) h
theorem kh.val{dQ:Bool}{o:a3}{ops:List a3}{v:AV}{ag:ae}(hw:wantedA o.guard ad.bf=true)(ho:opx floor (evalA env ad.bf) J o.op=some (.val v ag))(h:kh env floor dQ ops (ad.put o.dst v) ag Q):kh env floor dQ (o::ops) ad J Q:=
 dp.congr h λF=>by rw[x2,hw,cond_true,ho]
theorem kh.off{dQ:Bool}{o:a3}{ops:List a3}(hw:wantedA o.guard ad.bf=false)(h:kh env floor dQ ops (ad.put o.dst ea) J Q):kh env floor dQ (o::ops) ad J Q:=
 dp.congr h λF=>by rw[x2,hw,cond_false]
theorem kh.call{dQ:Bool}{o:a3}{ops:List a3}{cr:AV}{args:List AV}(hw:wantedA o.guard ad.bf=true)(ho:opx floor (evalA env ad.bf) J o.op=some (.call cr args))
  (h:bH env floor cr args J (λr ag=>match r with| .ok v=>kh env floor dQ ops (ad.put o.dst v) ag Q| .err v=>Q (.panic v) ad ag)):kh env floor dQ (o::ops) ad J Q:=by
 refine dp.congr (dp.then (g:=λ(r:et×ae) F=>(match r with
     |(.ok v,J)=>runOps env floor (callV env (exec env F) floor) dQ ops (ad.put o.dst v) J
     |(.err v,J)=>some [(.panic v,ad,J)])) h λr al=>?_) λF=>by rw[x2,hw,cond_true,ho]<;>rfl
 obtain⟨r,ag⟩:=r;cases r with
 |ok v=>exact al
 |err v=>exact dp.one (λ_=>rfl) al
theorem bH.spec{g:Nat}{first cap args aY:List AV}{r:AV}{Q:et->ae->Prop}(he:env.ext g=0)(au:env.pure g=true)(ha:mapO (bT J env.bt) (first++args++cap)=some aY)(an:env.spec g aY=some r)(h:Q (.ok r) J):
  bH env floor (.f (.func g) first cap) args J Q:=by
 refine dp.one (x:=(.ok r,J)) (λF=>?_) h;show callF env (exec env F) floor g (first++args++cap) J=_;unfold callF;rw[he];show cond (env.pure g) _ _=_;rw[au,cond_true,ha];show(match env.spec g aY with|some r=>_|none=>_)=_;rw[an]
def V7(env:Env)(floor:Nat)(fn:aP)(Q:et->ae->Prop):rU:=λx ad J=>∃r ag,endF env floor fn (x,ad,J)=some [(r,ag)]/\Q r ag
theorem bH.run{g:Nat}{first cap args:List AV}{fn:aP}{body:bO}{Q:et->ae->Prop}(he:env.ext g=0)(au:env.pure g=false)(hf:env.funcs g=some fn)(hb:fn.body=some body)
  (hn:(Nat.beq (first++args++cap).length fn.kr&&Nat.ble (first++args++cap).length fn.ntmps)=true) (h:gj env floor none body (uo fn (first++args++cap)) J (V7 env floor fn Q)):bH env floor (.f (.func g) first cap) args J Q:=by
 refine dp.congr (dp.then (g:=λx _=>endF env floor fn x) h λo ho=>?_) λF=>?_
 ·obtain⟨r,ag,h1,h2⟩:=ho;exact dp.one (λ_=>h1) h2
 ·show callF env (exec env F) floor g (first++args++cap) J=_;unfold callF;rw[he];show cond (env.pure g) _ _=_;rw[au,cond_false];unfold runF;rw[hf];show(match fn.body with|none=>none|some body=>_)=_;rw[hb];show cond _ _ _=_;rw[hn,cond_true]
theorem pF{α β:Type}(f:α->Option β)(x:α)(l:List α):mapO f (x::l)=match f x with|none=>none|some y=>match mapO f l with|none=>none|some ba=>some (y::ba):=rfl
theorem V8{f g:AV->Option AV}(h:∀x y,f x=some y->g x=some y):∀ {l r:List AV},mapO f l=some r->mapO g l=some r
 |[],r,e=>e
 |x::l,r,e=>by
  rw[pF] at e ⊢;cases hx:f x with
  |none=>rw[hx] at e;cases e
  |some y=>
   rw[hx] at e;cases hl:mapO f l with
   |none=>rw[hl] at e;cases e
   |some ba=>rw[hl] at e;rw[h x y hx,V8 h hl];exact e
theorem V9{J:ae}{base:Nat}:∀(n:Nat) (v r:AV),freeze J base n v=some r->freeze J base (n+1) v=some r
 |0,_,_,h=>by cases h
 |n+1,v,r,h=>by
  have aH:=V9 (J:=J) (base:=base) n;have g0:∀ {l ct:List AV},mapO (freeze J base n) l=some ct->mapO (freeze J base (n+1)) l=some ct:=V8 aH;rw[freeze_succ] at h;rw[freeze_succ];split at h
  ·split at h<;>try (cases h;done)
   rename_i hb;rw[if_neg hb];split at h<;>try (cases h;done)
   rename_i xs dH;split at h<;>cases h;rename_i ba Dy;simp only[dH,g0 Dy]
  ·split at h<;>cases h;rename_i ba Dy;simp only[g0 Dy]
  ·split at h<;>cases h;rename_i ba Dy;simp only[g0 Dy]
  ·split at h<;>cases h;rename_i y hy;simp only[aH _ _ hy]
  ·cases h
  ·cases h
  ·cases h
  ·exact h
theorem V_{J:ae}{base n m:Nat}(hn:n<=m){v r:AV}(h:freeze J base n v=some r):freeze J base m v=some r:=by
 obtain⟨k,rfl⟩:∃k,m=n+k:=⟨m-n,U⟩
 induction k with
 |zero=>exact h
 |succ k aH=>exact V9 _ _ _ (aH U)
theorem Wa{f g:AV->AV->Bool}(h:∀x y,f x y=true->g x y=true):∀ {l r:List AV},fY f l r=true->fY g l r=true
 |[],[],e=>e
 |[],_::_,e=>by cases e
 |_::_,[],e=>by cases e
 |x::l,y::r,e=>by
  have e:cond (f x y) (fY f l r) false=true:=e;show cond (g x y) (fY g l r) false=true;cases hx:f x y with
  |false=>rw[hx] at e;cases e
  |true=>rw[hx] at e;rw[h x y hx];exact Wa h e
theorem Wb:∀(n:Nat) (x y:AV),AV.eqb n x y=true->AV.eqb (n+1) x y=true
 |0,_,_,h=>by cases h
 |n+1,x,y,h=>by
  have aH:=Wb n;have g0:∀ {l r:List AV},fY (AV.eqb n) l r=true->fY (AV.eqb (n+1)) l r=true:=Wa aH;have e:=AV.Aa _ _ _ h;subst e;cases x
  case a_ o aa xs=>
   have h:((o==o)&&decide (aa=aa)&&fY (AV.eqb n) xs xs)=true:=h;show((o==o)&&decide (aa=aa)&&fY (AV.eqb (n+1)) xs xs)=true;simp only[du] at h ⊢;exact⟨h.1,g0 h.2⟩
  case dG o v=>
   have h:((o==o)&&AV.eqb n v v)=true:=h;show((o==o)&&AV.eqb (n+1) v v)=true;simp only[du] at h ⊢;exact⟨h.1,aH _ _ h.2⟩
  case f aB a c=>
   have h:(decide (aB=aB)&&(fY (AV.eqb n) a a&&fY (AV.eqb n) c c))=true:=h;show(decide (aB=aB)&&(fY (AV.eqb (n+1)) a a&&fY (AV.eqb (n+1)) c c))=true;simp only[du] at h ⊢;exact⟨h.1,g0 h.2.1,g0 h.2.2⟩
  case it t v=>
   have h:(Nat.beq t t&&AV.eqb n v v)=true:=h;show(Nat.beq t t&&AV.eqb (n+1) v v)=true;simp only[du] at h ⊢;exact⟨h.1,aH _ _ h.2⟩
  case p a=>cases a<;>exact h
  case m a=>cases a<;>exact h
  case ah l=>exact g0 (l:=l) (r:=l) h
  case a9 l=>exact g0 (l:=l) (r:=l) h
  all_goals exact h
theorem b2Z{n m:Nat}(hn:n<=m){x y:AV}(h:AV.eqb n x y=true):AV.eqb m x y=true:=by
 obtain⟨k,rfl⟩:∃k,m=n+k:=⟨m-n,U⟩
 induction k with
 |zero=>exact h
 |succ k aH=>exact Wb _ _ _ (aH U)
theorem jE{α:Type}{p:α->Bool}:∀ {l:List α},(∀y∈l,p y=true)->cP p l=true
 |[],_=>rfl
 |y::t,h=>by
  show cond (p y) (cP p t) false=true;rw[h y aG,cond_true];exact jE λz bb=>h z (iM _ bb)
theorem Hi{P:Program}{m:Nat}(hm:m<=env.bt)(gM:s_ P env)(fu:He P env)(hex:z_ P env)(nf:P.follows .mixedOrders=true){g:Nat}{fn:aP}{body:bO}{aY:List AV}{r:AV}(hf:env.funcs g=some fn)(hb:fn.body=some body)
  (hn:(Nat.beq aY.length fn.kr&&Nat.ble aY.length fn.ntmps)=true) {ad:Nat} (al:fQ ad r=true)
  (h:gj env 0 none body (uo fn aY) ⟨.nil,0⟩ (V7 env 0 fn (λv ag=>∃bM,v= .ok bM/\freeze ag 0 m bM=some r))) (iA:AV.eqb m r r=true) (b1:Nat):SpecEntry P env b1 g aY r:=by
 have h1:dp (λF=>hB (exec env F 0 none body (uo fn aY) ⟨.nil,0⟩) (endF env 0 fn)) (λo=>∃bM,o.1= .ok bM/\freeze o.2 0 m bM=some r):=
  dp.then (g:=λx _=>endF env 0 fn x) h λo ho=>by
   obtain⟨v,ag,h1,h2⟩:=ho;exact dp.one (λ_=>h1) h2
 obtain⟨fy,l,hl,h2,h3⟩:=h1;have cb:runF env (exec env fy) 0 g aY ⟨.nil,0⟩=some l:=by
  unfold runF;rw[hf];show(match fn.body with|none=>none|some body=>_)=_;rw[hb];show cond _ _ _=_;rw[hn,cond_true];exact h2 fy (br _)
 refine VT (bt:=env.bt) gM fu hex nf cb ?_ al b1;cases l with
 |nil=>exact absurd I hl
 |cons x t=>
  obtain⟨v,aQ,bF⟩:=h3 x aG;obtain⟨fR,pB⟩:=x;have aQ:fR= .ok v:=aQ;replace bF:freeze pB 0 env.bt v=some r:=V_ hm bF;subst aQ;show(match freeze pB 0 env.bt v with|none=>none|some v1=>cond (cP (xy env.bt 0 v1) t) (some v1) none)=_;rw[bF];have:cP (xy env.bt 0 r) t=true:=by
   have Nb:∀y∈t,xy env.bt 0 r y=true:=λy hy=>by
    obtain⟨w,cw,eL⟩:=h3 y (iM _ hy);obtain⟨Lb,y2⟩:=y;have cw:Lb= .ok w:=cw;replace eL:freeze y2 0 env.bt w=some r:=V_ hm eL;subst cw;show(match freeze y2 0 env.bt w with|some bW=>AV.eqb env.bt bW r|none=>false)=true;rw[eL];exact b2Z hm iA
   exact jE Nb
  show cond (cP (xy env.bt 0 r) t) (some r) none=_;rw[this];rfl
end
end Go.Lyc
end
