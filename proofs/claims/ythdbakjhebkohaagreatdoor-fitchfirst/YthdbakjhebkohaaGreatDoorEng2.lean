/-
  An abstract executor of the program's code, and that it is sound, part 2. No conditions: definitions and laws.
-/
import Derived.Test.YthdbakjhebkohaaGreatDoorEng1
import Derived.TacticsIn
import Derived.Scope
import Derived.RangeFuncRecord
import Derived.RecoverIn
import Derived.Lib.Bytealg
import Derived.OpenShut
import Derived.ProofKit
import Derived.LaidMore
import Derived.Lay
import Derived.SevenTiedAt
set_option linter.all false
noncomputable section
namespace Go.Lyc
set_option maxHeartbeats 0
variable [Tok]
open Go.RowKit
theorem C0{x:Option Operand}{bC:Option aF}(h:opdO x=some bC):bC.isSome=x.isSome:=by
 cases x with
 |none=>cases h;rfl
 |some x=>
  simp only[opdO] at h;split at h<;>cases h;rfl
section
variable {P:Program}{env:Env}{J:ad}{w:World}{m:Nat->Option Nat}{B:Nat}{f:Nat}{al:aX AV}{a:Act}{o:Oper}{cl:AOp}{v:AV}{af:ad}
theorem a3R(c:Ctx P env J w m B al a){t:TypeId}{aC:Array (Nat×Operand)}(ho:o.op= .build t aC)(aa:cop P o=some cl)(h:opx f (evalA env al) J cl=some (.val v af)):eX P B f J w m v af ((execOp a.eval o).run P w):=by
 simp only[cop,ho,Option.bind_eq_bind,Option.bind_eq_some_iff] at aa;obtain⟨di,bg,aa⟩:=aa;simp only[execOp,ho];split at aa<;>try (cases aa;done)
 rename_i z;split at aa
 ·rename_i a2 hu;split at aa<;>try (cases aa;done)
  rename_i a3S;simp only[Option.bind_eq_bind,Option.bind_eq_some_iff,Option.pure_def,Option.some.injEq] at aa;obtain⟨l,hl,rfl⟩:=aa;simp only[opx] at h;split at h<;>cases h;rename_i cs qF;refine e6 c (a2z hu (a2N a3S) bg (aC:=l) ?_ qF);rw[Array.toList_map];refine zm (λp q g3=>?_) hl;split at g3<;>cases g3;rename_i off U x h1 h2;exact⟨⟨U,h1,rfl⟩,λv au=>c.aq h2 au⟩
 ·rename_i n e hu;simp only[Option.bind_eq_bind,Option.bind_eq_some_iff,Option.pure_def,Option.some.injEq] at aa;obtain⟨U,ao,l,hl,rfl⟩:=aa;simp only[opx] at h;split at h<;>cases h;rename_i cs qF;refine e6 c (a2B hu ao bg (aC:=l) ?_ qF);rw[Array.toList_map];refine zm (λp q g3=>?_) hl;split at g3<;>cases g3;rename_i x h2;exact⟨⟨rfl,rfl⟩,λv au=>c.aq h2 au⟩
 ·cases aa
theorem xa{t e:TypeId}{U:Option Nat}(h:elemOf' P t=some (e,U)):P.underlying t=some (.slice e)/\shapeOf P e=some U:=by
 unfold elemOf' at h;split at h<;>try (cases h;done)
 rename_i eg hu;split at h<;>cases h;rename_i ao;exact⟨hu,ao⟩
theorem a3T(c:Ctx P env J w m B al a){t:TypeId}{n:Nat}{aC:Array (Nat×Operand)}(ho:o.op= .buildSlice t n aC)(aa:cop P o=some cl)(h:opx f (evalA env al) J cl=some (.val v af)):eX P B f J w m v af ((execOp a.eval o).run P w):=by
 simp only[cop,ho,Option.bind_eq_bind,Option.bind_eq_some_iff] at aa;obtain⟨⟨e,U⟩,he,z,bg,l,hl,aa⟩:=aa;split at aa<;>cases aa;rename_i fp;obtain⟨hu,ao⟩:=xa he;simp only[opx] at h;split at h<;>cases h;rename_i cs qF;simp only[execOp,ho];refine oo (a2D c.rel hu ao bg fp.2 fp.1 ?_ qF);rw[Array.toList_map];have:=zm (g:=λ(x:Nat×Operand)=>(x.1,a.eval x.2)) (r:=λ(p:Nat×aF) (q:Nat×Value)=>p.1=q.1/\∀v,evalA env al p.2=some v->R w m (bj J m) B v q.2) (λp q g3=>by
  split at g3<;>cases g3;rename_i x h2;exact⟨rfl,λv au=>c.aq h2 au⟩) hl
 revert this;generalize aC.toList.map (λ(x:Nat×Operand)=>(x.1,a.eval x.2))=fU;clear qF hl
 induction l generalizing fU with
 |nil=>cases fU<;>exact id
 |cons p l aD=>
  cases fU with
  |nil=>exact id
  |cons q fU=>
   rintro⟨⟨h1,h2⟩,h3⟩;exact⟨⟨⟨h1,rfl⟩,h2⟩,aD fU h3⟩
theorem PZ(c:Ctx P env J w m B al a){t:TypeId}{x k y:Operand}(ho:o.op= .mapUpdate t x k y\/o.op= .insert t x k y)(aa:cop P o=some cl)(h:opx f (evalA env al) J cl=some (.val v af)):eX P B f J w m v af ((execOp a.eval o).run P w):=by
 have e:execOp a.eval o=(do Instr.mapUpdate t (a.eval x) (a.eval k) (a.eval y);pure .skip:Sem Next):=by unfold execOp;rcases ho with ho|ho<;>rw[ho]
 have gY:∃hB zz U bC zA eh,P.underlying t=some (.map hB zz)/\keyOk P hB=some U/\opdOf x=some bC/\opdOf k=some zA/\opdOf y=some eh/\cl= .iR U bC zA eh:=by
  unfold cop at aa;rcases ho with ho|ho<;>
  ·rw[ho] at aa;simp only at aa;split at aa<;>try (cases aa;done)
   rename_i hB zz hu;simp only[Option.bind_eq_bind,Option.bind_eq_some_iff,Option.pure_def,Option.some.injEq] at aa;obtain⟨U,ao,bC,hx,zA,az,eh,hy,rfl⟩:=aa;exact⟨hB,zz,U,bC,zA,eh,hu,ao,hx,az,hy,rfl⟩
 obtain⟨hB,zz,U,bC,zA,eh,hu,ao,hx,az,hy,rfl⟩:=gY;rw[e];simp only[opx] at h;split at h<;>try (cases h;done)
 rename_i id b8V gd ar P0 ps;split at h<;>try (cases h;done)
 rename_i dE;split at h<;>try (cases h;done)
 rename_i es an hg;split at h<;>try (cases h;done)
 rename_i oj pq;obtain⟨aB,hm,kX⟩:=(c.aq hx ar).CL;rw[kX];split at h<;>cases h
 ·rename_i og Iw;exact Is (PH c.rel hu ao (by simpa [Nat.blt_eq] using dE) hm hg (c.aq az P0) (c.aq hy ps) pq Iw)
 ·rename_i Iw;exact Is (PH c.rel hu ao (by simpa [Nat.blt_eq] using dE) hm hg (c.aq az P0) (c.aq hy ps) pq Iw)
theorem a3U(c:Ctx P env J w m B al a){t:TypeId}{x:Operand}{i:Nat}(ho:o.op= .fieldAddr t x i)(aa:cop P o=some cl)(h:opx f (evalA env al) J cl=some (.val v af)):eX P B f J w m v af ((execOp a.eval o).run P w):=by
 simp only[cop,ho,Option.bind_eq_bind,Option.bind_eq_some_iff,Option.pure_def,Option.some.injEq] at aa;obtain⟨⟨off,U⟩,hf,bC,hx,rfl⟩:=aa;simp only[opx] at h;split at h<;>try (cases h;done)
 rename_i ar;split at h<;>cases h;rename_i au;simp only[execOp,ho];exact e6 c (a1X hf (c.aq hx ar) au)
theorem a3V(c:Ctx P env J w m B al a){t:TypeId}{x:Operand}{i:Nat}(ho:o.op= .field t x i)(aa:cop P o=some cl)(h:opx f (evalA env al) J cl=some (.val v af)):eX P B f J w m v af ((execOp a.eval o).run P w):=by
 simp only[cop,ho,Option.bind_eq_bind,Option.bind_eq_some_iff,Option.pure_def,Option.some.injEq] at aa;obtain⟨⟨off,U⟩,hf,bC,hx,rfl⟩:=aa;simp only[opx] at h;split at h<;>try (cases h;done)
 rename_i ar;split at h<;>cases h;rename_i au;simp only[execOp,ho];exact e6 c (a1Y hf (c.aq hx ar) au)
theorem a3W(c:Ctx P env J w m B al a){t:TypeId}{x y:Operand}(ho:o.op= .indexAddr t x y)(aa:cop P o=some cl)(h:opx f (evalA env al) J cl=some (.val v af)):eX P B f J w m v af ((execOp a.eval o).run P w):=by
 simp only[cop,ho] at aa;simp only[execOp,ho];split at aa
 ·rename_i n e hu;simp only[Option.bind_eq_bind,Option.bind_eq_some_iff,Option.pure_def,Option.some.injEq] at aa;obtain⟨U,ao,bC,hx,eh,hy,rfl⟩:=aa;simp only[opx] at h;split at h<;>try (cases h;done)
  rename_i p j ar aA;split at h<;>try (cases h;done)
  rename_i Ix ta;split at h<;>try (cases h;done)
  rename_i hlt;split at h<;>cases h;rename_i au;obtain⟨k,rfl⟩:=zh ta;have u6:=(c.aq hy aA).kA;rw[u6];exact e6 c (a1Z hu ao (c.aq hx ar) (by simpa [Nat.blt_eq] using hlt) au)
 ·rename_i e hu;simp only[Option.bind_eq_bind,Option.bind_eq_some_iff,Option.pure_def,Option.some.injEq] at aa;obtain⟨U,ao,bC,hx,eh,hy,rfl⟩:=aa;simp only[opx] at h;split at h<;>try (cases h;done)
  rename_i p j ar aA;split at h<;>try (cases h;done)
  rename_i Ix ta;split at h<;>cases h;rename_i au;obtain⟨k,rfl⟩:=zh ta;have u6:=(c.aq hy aA).kA;rw[u6];exact e6 c (a2a hu ao (c.aq hx ar) au)
 ·cases aa
theorem a3X(c:Ctx P env J w m B al a){t:TypeId}{x y:Operand}(ho:o.op= .index t x y)(aa:cop P o=some cl)(h:opx f (evalA env al) J cl=some (.val v af)):eX P B f J w m v af ((execOp a.eval o).run P w):=by
 simp only[cop,ho] at aa;simp only[execOp,ho];split at aa
 ·rename_i n e hu;simp only[Option.bind_eq_bind,Option.bind_eq_some_iff,Option.pure_def,Option.some.injEq] at aa;obtain⟨U,ao,bC,hx,eh,hy,rfl⟩:=aa;simp only[opx] at h;split at h<;>try (cases h;done)
  rename_i cs j ar aA;split at h<;>try (cases h;done)
  rename_i Ix ta;split at h<;>try (cases h;done)
  rename_i hlt;split at h<;>cases h;rename_i au;obtain⟨k,rfl⟩:=zh ta;have u6:=(c.aq hy aA).kA;rw[u6];exact e6 c (a2d hu ao (c.aq hx ar) (by simpa [Nat.blt_eq] using hlt) au)
 ·rename_i hu;simp only[Option.bind_eq_bind,Option.bind_eq_some_iff,Option.pure_def,Option.some.injEq] at aa;obtain⟨bC,hx,eh,hy,rfl⟩:=aa;simp only[opx] at h;split at h<;>try (cases h;done)
  rename_i l j ar aA;split at h<;>try (cases h;done)
  rename_i Ix ta;split at h<;>cases h;rename_i l8 au;obtain⟨k,rfl⟩:=zh ta;have u6:=(c.aq hy aA).kA;rw[u6];exact e6 c ⟨_,a2c hu (c.aq hx ar) au,.i _ _⟩
 ·cases aa
theorem a3Y(c:Ctx P env J w m B al a){t:TypeId}{x y:Operand}{two:Bool}(ho:o.op= .lookup t x y two)(aa:cop P o=some cl)(h:opx f (evalA env al) J cl=some (.val v af)):eX P B f J w m v af ((execOp a.eval o).run P w):=by
 simp only[cop,ho] at aa;simp only[execOp,ho];split at aa<;>try (cases aa;done)
 rename_i hB e hu;simp only[Option.bind_eq_bind,Option.bind_eq_some_iff,Option.pure_def,Option.some.injEq] at aa;obtain⟨U,ao,bC,hx,eh,hy,z,bg,rfl⟩:=aa;simp only[opx] at h;split at h<;>try (cases h;done)
 rename_i p j ar aA;split at h<;>cases h;rename_i au;exact e6 c (a3d c.rel hu ao bg two (c.aq hx ar) (c.aq hy aA) au)
theorem a3Z(c:Ctx P env J w m B al a){t HX:TypeId}{x:Operand}{two:Bool}(ho:o.op= .typeAssert x HX t two)(aa:cop P o=some cl)(h:opx f (evalA env al) J cl=some (.val v af)):eX P B f J w m v af ((execOp a.eval o).run P w):=by
 simp only[cop,ho] at aa;simp only[execOp,ho];split at aa<;>try (cases aa;done)
 rename_i d a5 hd;simp only[Option.bind_eq_bind,Option.bind_eq_some_iff,Option.pure_def,Option.some.injEq] at aa;obtain⟨bC,hx,z,bg,rfl⟩:=aa;simp only[opx] at h;split at h<;>try (cases h;done)
 rename_i p ar;split at h<;>cases h;rename_i au;exact e6 c (a2t hd (λms e=>a5 ms e) bg (c.aq hx ar) au)
theorem a4a(c:Ctx P env J w m B al a){x:Operand}{i:Nat}(ho:o.op= .extract x i)(aa:cop P o=some cl)(h:opx f (evalA env al) J cl=some (.val v af)):eX P B f J w m v af ((execOp a.eval o).run P w):=by
 simp only[cop,ho,Option.bind_eq_bind,Option.bind_eq_some_iff,Option.pure_def,Option.some.injEq] at aa;obtain⟨bC,hx,rfl⟩:=aa;simp only[opx] at h;split at h<;>try (cases h;done)
 rename_i l ar;split at h<;>cases h;rename_i au;simp only[execOp,ho];exact e6 c (a2e (c.aq hx ar) au)
theorem a4b{d:Nat}{x:Option Value}{n:Nat}(h:ke d x n)(ao:x.isSome=true):∃k,x=some (.int k (Int.ofNat n)):=by
 cases h with
 |none=>simp at ao
 |some k n=>exact⟨k,rfl⟩
theorem a4c(c:Ctx P env J w m B al a){t:TypeId}{x:Operand}{cF hi fg:Option Operand}(ho:o.op= .slice t x cF hi fg)(aa:cop P o=some cl)(h:opx f (evalA env al) J cl=some (.val v af)):eX P B f J w m v af ((execOp a.eval o).run P w):=by
 simp only[cop,ho,Option.bind_eq_bind,Option.bind_eq_some_iff] at aa;obtain⟨cC,kg,P1,xb,am,u7,aa⟩:=aa;simp only[execOp,ho];split at aa
 ·-- y1 array behind a pointer
  rename_i n e hu;split at aa<;>try (cases aa;done)
  simp only[Option.bind_eq_bind,Option.bind_eq_some_iff,Option.pure_def,Option.some.injEq] at aa;obtain⟨U,ao,bC,hx,rfl⟩:=aa;have u9:fg=none:=by
   have:=C0 u7;cases fg with|none=>rfl|some _=>simp at this
  subst u9;simp only[opx] at h;split at h<;>try (cases h;done)
  rename_i id off l hh ar hl nn;split at h<;>try (cases h;done)
  rename_i rX;split at h<;>try (cases h;done)
  rename_i cs hg;split at h<;>cases h;rename_i Pm;simp only[Bool.and_eq_true] at rX;have h1:=Nat.le_of_ble_eq_true rX.1;have h2:=Nat.le_of_ble_eq_true rX.2;obtain⟨aB,hm,kX⟩:=(c.aq hx ar).sZ;obtain⟨arr,el,bn,a4d,_,rN,_⟩:=c.rel.cells hm hg;rw[kX];exact e6 c (a2j hu ao hm (k:=arr.size) (by unfold dV;rw[a4d]) (by have:=Nat.le_of_ble_eq_true Pm;omega) (c.om kg hl) (c.om xb nn) h1 h2)
 ·-- a slice
  rename_i e hu;split at aa<;>try (cases aa;done)
  rename_i U ao;split at aa<;>try (cases aa;done)
  rename_i P2;simp only[Option.bind_eq_bind,Option.bind_eq_some_iff,Option.pure_def,Option.some.injEq] at aa;obtain⟨bC,hx,rfl⟩:=aa;have aN:=C0 u7;have a4:=C0 xb;simp only[opx] at h;split at h<;>try (cases h;done)
  rename_i p ar;split at h<;>cases h;rename_i au;have hR:=c.aq hx ar;refine e6 c ?_;unfold sliceA at au;split at au
  ·rename_i id off len gu cap;split at au<;>try (cases au;done)
   rename_i gW;split at au<;>try (cases au;done)
   rename_i l hh hl nn;split at au<;>try (cases au;done)
   rename_i rX;have h1:=Nat.le_of_ble_eq_true rX;obtain⟨bB,bp,bc,b5,cW⟩:=a2k hu ao gW hR (c.om kg hl) (c.om xb nn) h1;split at au
   ·rename_i b8W;split at au<;>try (cases au;done)
    rename_i k az;rw[Option.ite_none_right_eq_some] at au;obtain⟨fp,au⟩:=au;cases au;simp only[Bool.and_eq_true] at fp;have Iy:fg.isSome=true:=by rw[<-aN];rfl
    have hb:=c.om u7 (d:=0) (n:=k) az;obtain⟨rQ,Iz⟩:=a4b hb (by simpa using Iy);have a4e:hi.isSome=true:=by
     cases hi with
     |some _=>rfl
     |none=>exfalso;apply P2;exact⟨rfl,by cases P1 with|none=>rfl|some _=>simp at a4⟩
    exact bB _ rQ k Iz (by simpa using a4e) (Nat.le_of_ble_eq_true fp.1) (Nat.le_of_ble_eq_true fp.2)
   ·have u9:fg=none:=by cases fg with|none=>rfl|some _=>simp at aN
    subst u9;split at au
    ·split at au<;>cases au;rename_i fp;exact bp _ I (Nat.le_of_ble_eq_true fp)
    ·split at au
     ·cases au;rename_i fp;simp only[Bool.and_eq_true] at fp;exact bc I (Nat.le_of_ble_eq_true fp.1) (Nat.eq_of_beq_eq_true fp.2)
     ·split at au
      ·cases au;rename_i fp;simp only[Bool.and_eq_true] at fp;exact b5 I (Nat.le_of_ble_eq_true fp.1) (Nat.le_of_ble_eq_true fp.2)
      ·split at au<;>cases au;rename_i fp;simp only[Bool.and_eq_true] at fp;exact cW I (Nat.eq_of_beq_eq_true fp.1) (Nat.eq_of_beq_eq_true fp.2)
  ·split at au<;>cases au;rename_i hl nn pt;have zB:a.eval x= .slice none 0 0:=by
    revert hR;generalize a.eval x=u;intro hR;cases hR;rfl
   rw[zB];exact⟨_,a2m hu ao (c.om kg hl) (c.om xb nn) (c.om u7 pt) (λIy=>by
    cases hi with
    |some _=>rfl
    |none=>exfalso;apply P2;exact⟨by rw[aN];simpa using Iy,by cases P1 with|none=>rfl|some _=>simp at a4⟩),.ae⟩
  ·split at au<;>try (cases au;done)
   rename_i gW;split at au<;>try (cases au;done)
   rename_i l hh hl nn;split at au<;>cases au;rename_i fp;simp only[Bool.and_eq_true] at fp;have u9:fg=none:=by cases fg with|none=>rfl|some _=>simp at aN
   subst u9;subst gW;exact a3A hu ao hR (c.om kg hl) (c.om xb nn) (Nat.le_of_ble_eq_true fp.1) (Nat.le_of_ble_eq_true fp.2)
  ·cases au
 ·-- a string
  rename_i hu;split at aa<;>try (cases aa;done)
  simp only[Option.bind_eq_bind,Option.bind_eq_some_iff,Option.pure_def,Option.some.injEq] at aa;obtain⟨bC,hx,rfl⟩:=aa;have u9:fg=none:=by
   have:=C0 u7;cases fg with|none=>rfl|some _=>simp at this
  subst u9;simp only[opx] at h;split at h<;>try (cases h;done)
  rename_i s ar;split at h<;>try (cases h;done)
  rename_i l hh hl nn;split at h<;>cases h;rename_i rX;simp only[Bool.and_eq_true] at rX;exact e6 c (a2i hu (c.aq hx ar) (c.om kg hl) (c.om xb nn) (Nat.le_of_ble_eq_true rX.1) (Nat.le_of_ble_eq_true rX.2))
 ·cases aa
end
section
variable {P:Program}{env:Env}{J:ad}{w:World}{m:Nat->Option Nat}{B:Nat}{f:Nat}{al:aX AV}{a:Act}{o:Oper}{cl:AOp}{v:AV}{af:ad}
theorem C1{b:Builtin}{xs:Array Operand}{j2:Array TypeId}(ho:o.op= .call {callee:=.builtin b,args:=xs,argTypes:=j2}):
  execOp a.eval o=builtin b j2 o.type (xs.map fun| .const _=>true|_=>false) (xs.map a.eval):=by
 unfold execOp;rw[ho];rfl
theorem a4f{e:TypeId}{z:AV}{n:Nat}(bg:zeroOf P e=some z)(hn:z.cells.length=n):∃i s6,P.info? e=some i/\i.zero=some s6/\s6.cells.size=n:=by
 unfold zeroOf at bg;split at bg<;>try (cases bg;done)
 rename_i i hi;split at bg<;>try (cases bg;done)
 rename_i s6 au;have:=(R.ofValue (w:=(default:World)) (m:=λ_=>none) (O:=λ_=>False) (B:=0) bg).cells.1;exact⟨i,s6,hi,au,by simp at this;omega⟩
theorem a4g{t:TypeId}(h:isText P t=true):(∃eg,P.underlying t=some (.slice eg))\/P.underlying t=some .string:=by
 unfold isText at h;split at h
 ·exact .inl ⟨_,by assumption⟩
 ·exact .inr (by assumption)
 ·cases h
theorem a4h{w:World}{m:Nat->Option Nat}{O:Nat->Prop}{B:Nat}{u:Value}(h:R w m O B .ae u):u= .slice none 0 0:=by cases h;rfl
theorem a4i{t:TypeId}(h:isInt P t=true):∃k,P.underlying t=some (.int k):=by
 unfold isInt at h;split at h
 ·exact⟨_,by assumption⟩
 ·cases h
theorem C2{α:Type}{x:Array α}{p q:α}(h:x.toList=[p,q]):x= #[p,q]:=by
 apply Array.ext';simpa using h
theorem rY{α:Type}{x:Array α}{p:α}(h:x.toList=[p]):x= #[p]:=by
 apply Array.ext';simpa using h
theorem IA{α β:Type}(g:α->β)(x y:α):(#[x,y]:Array α).map g= #[g x,g y]:=by simp
theorem C3{α β:Type}(g:α->β)(x:α):(#[x]:Array α).map g= #[g x]:=by simp
theorem zC{w:World}{m:Nat->Option Nat}{O:Nat->Prop}{B:Nat}:R w m O B dB (.tuple #[]):=.a6 I λi h=>by simp at h
theorem a4j(c:Ctx P env J w m B al a){b:Builtin}{xs:Array Operand}{j2:Array TypeId}(ho:o.op= .call {callee:=.builtin b,args:=xs,argTypes:=j2})(aa:cop P o=some cl)(h:opx f (evalA env al) J cl=some (.val v af)):eX P B f J w m v af ((execOp a.eval o).run P w):=by
 rw[C1 ho];simp only[cop,ho] at aa;split at aa
 ·-- append
  rename_i s x t u dg pv;obtain rfl:=C2 dg;rw[IA a.eval];obtain rfl:=C2 pv;simp only[Option.bind_eq_bind,Option.bind_eq_some_iff] at aa;obtain⟨⟨e,U⟩,he,i,hi,z,bg,aa⟩:=aa;split at aa
  ·rename_i fp;simp only[Option.bind_eq_some_iff,Option.pure_def,Option.some.injEq] at aa;obtain⟨as,ao,bC,hx,rfl⟩:=aa;obtain⟨hu,gW⟩:=xa he;simp only[opx] at h;split at h<;>try (cases h;done)
   rename_i l9 w_ a4k gC;split at h<;>cases h;rename_i a4l;obtain⟨kx,s6,cY,u3,s0⟩:=a4f bg fp.2.2;rw[hi] at cY;cases cY;obtain⟨_,_,i2,zg,cj⟩:=jY gW w;rw[hi] at zg;cases zg;exact oo (a2O c.rel hu hi cj u3 s0 fp.2.1 (a4g fp.1) (c.aq ao a4k) (c.aq hx gC) a4l)
  ·split at aa<;>try (cases aa;done)
   rename_i fp;simp only[Option.bind_eq_some_iff,Option.pure_def,Option.some.injEq] at aa;obtain⟨as,ao,bC,hx,rfl⟩:=aa;obtain⟨hu,gW⟩:=xa he;obtain⟨fu,xc⟩:=a4i fp.1;simp only[opx] at h;split at h<;>try (cases h;done)
   ·cases aS:Nat.beq (AV.eO::z.cells).length (shN U) with
    |false=>rw[aS] at h;cases h
    |true=>have mO:=Nat.eq_of_beq_eq_true aS;rw[List.length_cons,fp.2.2.1] at mO;exact absurd mO.symm (Nat.ne_of_lt (Nat.lt_succ_self _))
   ·rename_i bp q gC ps;cases aS:(Nat.beq (AV.eO::z.cells).length (Nat.succ (shN U))&&(Nat.blt 0 q&&Nat.ble ((3*q+2000)*i.bytes) 281474976710656)) with
    |false=>rw[aS] at h;cases h
    |true=>
     rw[aS,cond_true] at h;cases h;simp only[Bool.and_eq_true] at aS;have aN:=a4h (c.aq ao gC);have a4:=(c.aq hx ps).kA;rw[aN,a4];exact oo (a3p c.rel f hu xc gW hi bg fp.2.2.1 fp.2.1 fp.2.2.2 (by simpa only[Nat.blt_eq] using aS.2.1) (Nat.le_of_ble_eq_true aS.2.2))
 ·-- len
  rename_i x t dg pv;obtain rfl:=rY dg;rw[C3 a.eval];obtain rfl:=rY pv;split at aa
  ·rename_i n e ht;cases aa;simp only[opx] at h;cases h;exact e6 c ⟨_,a2T ht _,.i _ _⟩
  all_goals try (cases aa;done)
  all_goals
   rename_i ht;simp only[Option.map_eq_some_iff] at aa;obtain⟨bC,hx,rfl⟩:=aa;simp only[opx] at h;split at h<;>try (cases h;done)
   rename_i gC;split at h
   case h_2=>cases zs h
   rename_i c1 hn;cases h
  ·exact e6 c ⟨_,Ib c.rel (.inr (.inl ⟨rfl,ht⟩)) (c.aq hx gC) hn,.i _ _⟩
  ·exact e6 c ⟨_,Ib c.rel (.inl ⟨rfl,_,ht⟩) (c.aq hx gC) hn,.i _ _⟩
  ·exact e6 c ⟨_,Ib c.rel (.inr (.inr ⟨rfl,_,_,ht⟩)) (c.aq hx gC) hn,.i _ _⟩
 ·-- cap
  rename_i x t dg pv;obtain rfl:=rY dg;rw[C3 a.eval];obtain rfl:=rY pv;split at aa<;>try (cases aa;done)
  rename_i ht;simp only[Option.map_eq_some_iff] at aa;obtain⟨bC,hx,rfl⟩:=aa;simp only[opx] at h;split at h<;>try (cases h;done)
  rename_i gC;split at h<;>cases h;rename_i hn;exact e6 c ⟨_,a2U ht (c.aq hx gC) hn,.i _ _⟩
 ·-- copy
  split at aa<;>try (cases aa;done)
  rename_i x t dg pv _ e U he;obtain rfl:=rY dg;rw[C3 a.eval];obtain rfl:=rY pv;simp only[Option.bind_eq_bind,Option.bind_eq_some_iff] at aa;obtain⟨z,bg,aa⟩:=aa;split at aa<;>try (cases aa;done)
  simp only[Option.bind_eq_some_iff,Option.pure_def,Option.some.injEq] at aa;obtain⟨bC,hx,rfl⟩:=aa;obtain⟨hu,gW⟩:=xa he;obtain⟨dZ,g2,kZ,k0⟩:=pj bg w;simp only[opx] at h;split at h<;>try (cases h;done)
  ·rename_i gC _;cases h;have hR:=c.aq hx gC;generalize a.eval x=u at hR ⊢;cases hR;exact e6 c ⟨_,by simp[Builtin.clear_,run_underlying hu],zC⟩
  ·rename_i id off len gu P3 a4m gC u3;have a4n:a4m=z.cells:=by cases u3;rfl
   subst a4n;split at h<;>try (cases h;done)
   rename_i dE hg;split at h<;>cases h;rename_i bM cA;have hR:=c.aq hx gC;generalize a.eval x=u at hR ⊢;cases hR with
   |al hm hlen l2 hn kV=>
   have zx:=(kZ w m (bj J m) B).cells;have hj:=wW zx (len+1);have a4o:f<=id:=Nat.le_of_not_lt λh=>by rw[show Nat.blt id f=true from Nat.ble_eq_true_of_le h] at dE;cases dE
   obtain⟨av,aN,a4,cQ⟩:=HR (f:=f) c.rel a4o hm hg cA hj (wX k0 (len+1));refine oo ⟨_,av,m,?_,zC,a4,cQ⟩;have hh:(Builtin.zeroCells dZ.cells (len+1)).toList=(List.range ((len+1)*dZ.cells.toList.length)).map λi=>dZ.cells.toList[i%dZ.cells.toList.length]! :=by
    simp only[Builtin.zeroCells,Array.toList_map,Array.toList_range,Array.length_toList];exact List.map_congr_left λi _=>by simp only[getElem!_def,Array.getElem?_toList]
   rw[<-hh] at aN;simp[Builtin.clear_,run_underlying hu,g2,aN]
  ·rename_i gC _;cases h;have hR:=c.aq hx gC;generalize a.eval x=u at hR ⊢;cases hR;exact e6 c ⟨_,by simp[Builtin.clear_,run_underlying hu],zC⟩
  ·rename_i gC _;cases h;have hR:=c.aq hx gC;generalize a.eval x=u at hR ⊢;cases hR
   ·exact e6 c ⟨_,by simp[Builtin.clear_,run_underlying hu],zC⟩
   ·exact e6 c ⟨_,by simp[Builtin.clear_,run_underlying hu],zC⟩
 ·rename_i x y dg;obtain rfl:=C2 dg;rw[IA a.eval];simp only[Option.bind_eq_bind,Option.bind_eq_some_iff,Option.pure_def,Option.some.injEq] at aa;obtain⟨bC,hx,eh,hy,rfl⟩:=aa;simp only[opx] at h;split at h<;>try (cases h;done)
  rename_i k n l q gC ps;split at h<;>cases h;rename_i qx;subst qx;have:=(Px (P:=P) (w:=w) (c.aq hx gC) (c.aq hy ps) o.type j2).1;exact e6 c ⟨_,this,.i _ _⟩
 ·rename_i x y dg;obtain rfl:=C2 dg;rw[IA a.eval];simp only[Option.bind_eq_bind,Option.bind_eq_some_iff,Option.pure_def,Option.some.injEq] at aa;obtain⟨bC,hx,eh,hy,rfl⟩:=aa;simp only[opx] at h;split at h<;>try (cases h;done)
  rename_i k n l q gC ps;split at h<;>cases h;rename_i qx;subst qx;have:=(Px (P:=P) (w:=w) (c.aq hx gC) (c.aq hy ps) o.type j2).2;exact e6 c ⟨_,this,.i _ _⟩
 ·cases aa;simp[opx] at h
 ·simp only[Option.map_eq_some_iff] at aa;obtain⟨bC,hx,rfl⟩:=aa;simp only[opx] at h;split at h<;>cases h
 ·cases aa
theorem a4p(c:Ctx P env J w m B al a){t:TypeId}{x y:Operand}(ho:o.op= .makeSlice t x y)(aa:cop P o=some cl)(h:opx f (evalA env al) J cl=some (.val v af)):eX P B f J w m v af ((execOp a.eval o).run P w):=by
 simp only[cop,ho,Option.bind_eq_bind,Option.bind_eq_some_iff] at aa;obtain⟨⟨e,U⟩,he,z,bg,i,hi,aa⟩:=aa;split at aa<;>try (cases aa;done)
 rename_i s0;simp only[Option.bind_eq_some_iff,Option.pure_def,Option.some.injEq] at aa;obtain⟨bC,hx,eh,hy,rfl⟩:=aa;obtain⟨hu,ao⟩:=xa he;simp only[opx] at h;split at h<;>try (cases h;done)
 ·rename_i bB n bp q gC ps;cases aS:(Nat.beq z.cells.length (shN U)&&(Nat.ble n q&&(Nat.ble (i.bytes*q) 281474976710656&&Nat.ble q 281474976710656))) with
  |false=>rw[aS] at h;cases h
  |true=>
   rw[aS,cond_true] at h;cases h;simp only[Bool.and_eq_true,Nat.ble_eq] at aS;have aN:=(c.aq hx gC).kA;have a4:=(c.aq hy ps).kA;simp only[execOp,ho,aN,a4];exact oo (a3m c.rel f hu ao hi bg s0 aS.2.1 aS.2.2.1 aS.2.2.2)
 ·rename_i bp q gC ps;cases aS:Nat.beq z.cells.length (Nat.succ (shN U)) with
  |false=>rw[aS] at h;cases h
  |true=>have mO:=Nat.eq_of_beq_eq_true aS;rw[s0] at mO;exact absurd mO (Nat.ne_of_lt (Nat.lt_succ_self _))
theorem a4q(c:Ctx P env J w m B al a){t:TypeId}{x:Operand}(ho:o.op= .range t x)(aa:cop P o=some cl)(h:opx f (evalA env al) J cl=some (.val v af)):eX P B f J w m v af ((execOp a.eval o).run P w):=by
 simp only[cop,ho] at aa;split at aa<;>try (cases aa;done)
 rename_i hB zz hu;simp only[Option.map_eq_some_iff] at aa;obtain⟨bC,hx,rfl⟩:=aa;simp only[opx] at h;simp only[execOp,ho];split at h<;>try (cases h;done)
 ·rename_i au;cases h;exact oo (PN c.rel f hu (c.aq hx au) I)
 ·rename_i id au;split at h<;>cases h;rename_i es an hg;exact oo (PN c.rel f hu (c.aq hx au) ⟨_,_,hg,rfl⟩)
theorem a4r(c:Ctx P env J w m B al a){x:Operand}(ho:o.op= .next x false)(aa:cop P o=some cl)(h:opx f (evalA env al) J cl=some (.val v af)):eX P B f J w m v af ((execOp a.eval o).run P w):=by
 simp only[cop,ho,Option.map_eq_some_iff] at aa;obtain⟨bC,hx,rfl⟩:=aa;simp only[opx] at h;simp only[execOp,ho];split at h<;>try (cases h;done)
 rename_i it au;obtain⟨aB,hm,lz⟩:=(c.aq hx au).sZ;rw[lz];split at h<;>try (cases h;done)
 rename_i dE;have ns:f<=it:=by simpa [Nat.blt_eq] using dE
 split at h<;>try (cases h;done)
 ·rename_i since seen fZ hg;cases h;exact e6 c ⟨_,a3z c.rel hm hg o.type,R.rM (bz.cons (.b false) bz.nil)⟩
 ·rename_i id since seen fZ hg;split at h<;>try (cases h;done)
  rename_i es an jC;cases aS:(Nat.beq an since&&Nat.beq fZ since&&cr (λ(e:AV×AV×Nat)=>Nat.blt e.2.2 since) es) with
  |false=>rw[aS] at h;cases h
  |true=>
   rw[aS,cond_true] at h;simp only[Bool.and_eq_true,Nat.beq_eq] at aS;obtain⟨⟨rfl,rfl⟩,hall⟩:=aS;split at h<;>cases h;rename_i zB;rcases PR (f:=f) c.rel ns hm hg jC (λe he=>by have:=l3 hall e he;simpa [Nat.blt_eq] using this) o.type with⟨_,h2⟩|⟨e,he,_⟩
   ·exact e6 c ⟨_,h2,R.rM (bz.cons (.b false) bz.nil)⟩
   ·rw[zB] at he;cases he
theorem a4s(c:Ctx P env J w m B al a){x:Operand}(ho:o.op= .entry x)(aa:cop P o=some cl)(h:opx f (evalA env al) J cl=some (.val v af)):eX P B f J w m v af ((execOp a.eval o).run P w):=by
 simp only[cop,ho,Option.map_eq_some_iff] at aa;obtain⟨bC,hx,rfl⟩:=aa;simp only[opx] at h;simp only[execOp,ho];split at h<;>try (cases h;done)
 rename_i it au;obtain⟨aB,hm,lz⟩:=(c.aq hx au).sZ;rw[lz];split at h<;>try (cases h;done)
 rename_i id since seen fZ hg;split at h<;>try (cases h;done)
 rename_i es an jC;cases aS:Nat.beq an fZ with
 |false=>rw[aS] at h;cases h
 |true=>
  rw[aS,cond_true] at h;obtain rfl:=Nat.eq_of_beq_eq_true aS;split at h<;>try (cases h;done)
  rename_i nt hl;split at h<;>cases h;rename_i e he;exact e6 c (a3y c.rel hm hg jC hl he)
theorem R.a4t{w:World}{m:Nat->Option Nat}{O:Nat->Prop}{B:Nat}{ex:List (List Nat)}{u:Value}(h:R w m O B (.gK ex) u):∃s,u= .string s:=by cases h;exact⟨_,rfl⟩
theorem P4{k:Nat}{bC:aF}(aa:cop P o=some (.len k bC)):∃x t as j2,o.op= .call {callee:=.builtin .len,args:=as,argTypes:=j2}/\as.toList=[x]/\j2.toList=[t]/\opdOf x=some bC/\(k=0->P.underlying t=some .string):=by
 unfold cop at aa;split at aa
 all_goals first
  |(cases aa;done)
  |(
    exfalso
    (repeat' first
     |(cases aa;done)
     |(simp only[Option.map_eq_some_iff,reduceCtorEq,and_false,exists_false] at aa;done)
     |(simp only[Option.bind_eq_bind,Option.bind_eq_some_iff,Option.pure_def,Option.some.injEq,reduceCtorEq,and_false,exists_false] at aa;done)
     |split at aa
     |(obtain⟨_,_,aa⟩:=aa)
     |(simp only[Option.bind_eq_bind,Option.bind_eq_some_iff,Option.pure_def,Option.some.injEq] at aa))
    done)
  |(
    rename_i ho;split at aa
    all_goals first
     |(cases aa;done)
     |(
      exfalso
      (repeat' first
       |(cases aa;done)
       |(simp only[Option.map_eq_some_iff,reduceCtorEq,and_false,exists_false] at aa;done)
       |(simp only[Option.bind_eq_bind,Option.bind_eq_some_iff,Option.pure_def,Option.some.injEq,reduceCtorEq,and_false,exists_false] at aa;done)
       |split at aa
       |(obtain⟨_,_,aa⟩:=aa)
       |(simp only[Option.bind_eq_bind,Option.bind_eq_some_iff,Option.pure_def,Option.some.injEq] at aa))
      done)
     |(
      rename_i dg pv;split at aa
      all_goals first
       |(cases aa;done)
       |(
         rename_i ht;simp only[Option.map_eq_some_iff] at aa;obtain⟨a3,h1,aa⟩:=aa;cases aa;exact⟨_,_,_,_,ho,dg,pv,h1,λaz=>by first|exact ht|cases az⟩)))
theorem a4u{k:Nat}{bC:aF}(aa:cop P o=some (.len k bC)):∀c,o.op≠ .defer c:=λc hd=>by
 obtain⟨x,t,as,j2,ho,_⟩:=P4 aa;rw[ho] at hd;cases hd
theorem a4v{l:List (AV×ad)}{k:Nat}{bC:aF}(c:Ctx P env J w m B al a)(aa:cop P o=some (.len k bC))(h:opx f (evalA env al) J (.len k bC)=some (.iy l)):∃p∈l,eX P B f J w m p.1 p.2 ((execOp a.eval o).run P w):=by
 obtain⟨x,t,as,j2,ho,has,pv,hx,ht⟩:=P4 aa;obtain rfl:=rY has;obtain rfl:=rY pv;simp only[opx] at h;split at h<;>try (cases h;done)
 rename_i p ar;split at h
 ·cases h
 obtain⟨rfl,ex,rfl,e⟩:=Pw h;injection e with e
 subst e;obtain⟨s,ao⟩:=(c.aq hx ar).a4t;have ht:=ht I;refine⟨(.g1 (decide ((40:Int)<Int.ofNat s.size)),J),by cases decide ((40:Int)<Int.ofNat s.size)<;>simp,?_⟩;rw[C1 ho,C3 a.eval,ao];refine e6 c ⟨.int .i64 (Int.ofNat s.size),?_,.g1 _ I⟩;simp[builtin,Builtin.len_,run_underlying ht,goInt]
theorem a4w{l:List (AV×ad)}(c:Ctx P env J w m B al a)(aa:cop P o=some cl)(h:opx f (evalA env al) J cl=some (.iy l)):(∀c,o.op≠ .defer c)/\∃p∈l,eX P B f J w m p.1 p.2 ((execOp a.eval o).run P w):=by
 have IB:(∃k bC,cl= .len k bC)\/∃bC,cl= .qn bC:=by
  cases cl<;>simp only[opx] at h
  all_goals first
   |(exact .inl ⟨_,_,rfl⟩)
   |(exact .inr ⟨_,rfl⟩)
   |(cases h;done)
   |(exfalso;repeat' first|(cases h;done)|split at h|(simp only[Bool.cond_eq_ite] at h))
 rcases IB with⟨k,bC,rfl⟩|⟨bC,rfl⟩
 ·exact⟨a4u aa,a4v c aa h⟩
 have a4x:∃x,o.op= .next x false/\opdOf x=some bC:=by
  unfold cop at aa;split at aa
  all_goals first
   |(cases aa;done)
   |(rename_i ho;simp only[Option.map_eq_some_iff] at aa;obtain⟨y,hy,he⟩:=aa;cases he;exact⟨_,ho,hy⟩)
   |(
     exfalso
     repeat' first
      |(cases aa;done)
      |(simp only[Option.map_eq_some_iff,reduceCtorEq,and_false,exists_false] at aa;done)
      |(simp only[Option.bind_eq_bind,Option.bind_eq_some_iff,Option.pure_def,Option.some.injEq,reduceCtorEq,and_false,exists_false] at aa;done)
      |split at aa
      |(obtain⟨_,_,aa⟩:=aa)
      |(simp only[Option.bind_eq_bind,Option.bind_eq_some_iff,Option.pure_def,Option.some.injEq] at aa))
 obtain⟨x,ho,hx⟩:=a4x;refine⟨λc hd=>(by rw[ho] at hd;cases hd),?_⟩;simp only[opx] at h;simp only[execOp,ho];split at h<;>try (cases h;done)
 rename_i it au;obtain⟨aB,hm,lz⟩:=(c.aq hx au).sZ;rw[lz];split at h<;>try (cases h;done)
 rename_i dE;have ns:f<=it:=by simpa [Nat.blt_eq] using dE
 split at h<;>try (cases h;done)
 rename_i id since seen fZ hg;split at h<;>try (cases h;done)
 rename_i es an jC;cases aS:(Nat.beq an since&&Nat.beq fZ since&&cr (λ(e:AV×AV×Nat)=>Nat.blt e.2.2 since) es) with
 |false=>rw[aS] at h;cases h
 |true=>
  rw[aS,cond_true] at h;simp only[Bool.and_eq_true,Nat.beq_eq] at aS;obtain⟨⟨rfl,rfl⟩,hall⟩:=aS;split at h<;>cases h;rename_i a5;rcases PR (f:=f) c.rel ns hm hg jC (λe he=>by have:=l3 hall e he;simpa [Nat.blt_eq] using this) o.type with⟨h1,_⟩|⟨e,he,u,av,h2,h3,aQ,bJ⟩
  ·exact absurd h1 a5
  ·exact⟨_,List.mem_map.2 ⟨e,he,rfl⟩,oo ⟨u,av,m,h2,h3,aQ,bJ⟩⟩
theorem xd(c:Ctx P env J w m B al a)(aa:cop P o=some cl)(h:opx f (evalA env al) J cl=some (.val v af)):eX P B f J w m v af ((execOp a.eval o).run P w):=by
 have eJ:=aa;unfold cop at aa;split at aa
 all_goals first|(cases aa;done)|skip
 all_goals first
  |(rename_i ho;first
    |exact PU c (.inl ho) eJ h|exact PU c (.inr ho) eJ h|exact a3C c ho eJ h|exact a3D c ho eJ h|exact a3E c ho eJ h|exact a3R c ho eJ h
    |exact a3T c ho eJ h|exact PZ c (.inl ho) eJ h|exact PZ c (.inr ho) eJ h|exact a3F c ho eJ h|exact a3G c ho eJ h|exact a3H c ho eJ h
    |exact a3L c ho eJ h|exact a3I c ho eJ h|exact a3M c ho eJ h|exact a3O c ho eJ h|exact a3P c ho eJ h|exact a3Q c ho eJ h
    |exact a4c c ho eJ h|exact a3U c ho eJ h|exact a3V c ho eJ h|exact a3W c ho eJ h|exact a3X c ho eJ h|exact a3Y c ho eJ h
    |exact a3Z c ho eJ h|exact a4a c ho eJ h|exact a4j c ho eJ h)
  |skip
 ·rename_i ho;exact a4p c ho eJ h
 ·rename_i ho;exact a4q c ho eJ h
 ·rename_i ho;exact a4r c ho eJ h
 ·rename_i ho;exact a4s c ho eJ h
 ·simp only[Option.bind_eq_bind,Option.bind_eq_some_iff,Option.pure_def,Option.some.injEq] at aa;obtain⟨ac,nv,cC,kg,rfl⟩:=aa;simp only[opx] at h;split at h<;>cases h
 ·simp only[Option.bind_eq_bind,Option.bind_eq_some_iff,Option.pure_def,Option.some.injEq] at aa;obtain⟨ac,nv,cC,kg,rfl⟩:=aa;simp only[opx] at h;split at h<;>cases h
 ·simp only[Option.map_eq_some_iff] at aa;obtain⟨bC,hx,rfl⟩:=aa;simp only[opx] at h;split at h<;>cases h
end
theorem a4y{α β:Type}(f:α->Option (List β))(x:α)(xs:List α):mD f (x::xs)=match f x with|none=>none|some a=>match mD f xs with|none=>none|some b=>some (a++b):=by
 cases xs with
 |nil=>show f x=_;cases f x<;>simp[mD]
 |cons y a8=>rfl
theorem IC{α β:Type}{f:α->Option (List β)}:∀ {l:List α} {out:List β},mD f l=some out->∀x∈l,∃o,f x=some o/\∀y∈o,y∈out
 |[],_,_,x,hx=>by cases hx
 |x::l,out,h,y,hy=>by
  rw[a4y] at h;cases hf:f x with
  |none=>rw[hf] at h;cases h
  |some a=>
   rw[hf] at h;cases hl:mD f l with
   |none=>rw[hl] at h;cases h
   |some b=>
    rw[hl] at h;cases h;rcases List.mem_cons.1 hy with rfl|hy
    ·exact⟨a,hf,λz bg=>List.mem_append_left _ bg⟩
    ·obtain⟨o,h1,h2⟩:=IC hl y hy;exact⟨o,h1,λz bg=>List.mem_append_right _ (h2 z bg)⟩
theorem tb{α β:Type}{r:Option (List α)}{f:α->Option (List β)}{out:List β}(h:gw r f=some out):∃l,r=some l/\∀x∈l,∃o,f x=some o/\∀y∈o,y∈out:=by
 cases r with
 |none=>cases h
 |some l=>exact⟨l,rfl,IC h⟩
def eS(r:Option Nat):Fence:={fn:=λ_=>True,depth:=none,alive:=false,round:=r}
def xe(w:World)(m:Nat->Option Nat)(O:Nat->Prop)(B:Nat):(Nat ⊕ (AV×List AV))->Deferred->Prop
 | .inl id,d=>∃aB,m id=some aB/\d={target:=.collected aB,args:=#[]}
 | .inr (cd,args),d=>∃g a2 cs fT eQ us,cd= .f (.func g) a2 cs/\d={target:=.fn (.func g) eQ,args:=fT++us}/\bz w m O B a2 fT.toList/\bz w m O B cs eQ.toList/\bz w m O B args us.toList
structure ew(P:Program)(env:Env)(ab:Fr)(a:Act)(J:ad)(w:World)(m:Nat->Option Nat)(B:Nat):Prop where
 ctx:Ctx P env J w m B ab.a_ a
 defs:hG (xe w m (bj J m) B) ab.defers a.defers
def pw(w:World)(m:Nat->Option Nat)(O:Nat->Prop)(B:Nat):dR->Ending->Prop
 | .ok v,.returned u=>R w m O B v u
 | .err v,.panicked l8=>∃u,l8=[{v:=u,recovered:=false}]/\R w m O B v u
 |_,_=>False
def ExR(w:World)(m:Nat->Option Nat)(O:Nat->Prop)(B:Nat):fa->Exit->Prop
 | .normal,.normal=>True
 | .exit i,.exit j=>i=j
 | .ret,.ret=>True
 | .panic v,.panic l8=>∃u,l8=[{v:=u,recovered:=false}]/\R w m O B v u
 |_,_=>False
def CallRes(P:Program)(F:Fence)(n:Nat)(u:Value)(us:Array Value)(w:World)(R:Ending->World->Prop):Prop:=
 ∃d,(∀av,(Deferred.ofValue u us).run P av= .ok d av)∧
  match(invoke d.target d.args).run P w with
  | .ok (.enter f args) av=>CallsIn F n P f args av R
  | .ok (.round l f tmps as b) av=>RoundIn F n P l f tmps as b av R
  | .ok (.value v) av=>R (.returned v) av
  |_=>False
section
variable {P:Program}{env:Env}{J af:ad}{w av:World}{m aP:Nat->Option Nat}{B f:Nat}
theorem Globs.ext(cZ:Globs env w B)(h:Ext f J w m af av aP)(ak:Rel P J w m B):Globs env av B:=λg v hg dW=>
 (cZ g v hg dW).mono (λ_ _ h=>h) h.size h.bI (λb hb cb=>⟨h.aO b hb (λ⟨_,_,h1,_⟩=>cb (ak.base _ _ h1)),cb⟩)
theorem xe.ext{d:Nat ⊕ (AV×List AV)}{hY:Deferred}(hd:xe w m (bj J m) B d hY)(h:Ext f J w m af av aP)(ak:Rel P J w m B):xe av aP (bj af aP) B d hY:=by
 cases d with
 |inl id=>obtain⟨aB,h1,h2⟩:=hd;exact⟨aB,h.mono _ _ h1,h2⟩
 |inr p=>obtain⟨g,a2,cs,fT,eQ,us,h1,h2,h3,aQ,bJ⟩:=hd;exact⟨g,a2,cs,fT,eQ,us,h1,h2,h3.ext h ak,aQ.ext h ak,bJ.ext h ak⟩
theorem zD{α β:Type}{r cw:α->β->Prop}(h:∀x y,r x y->cw x y):∀ {l:List α} {cf:List β},hG r l cf->hG cw l cf
 |[],[],_=>trivial
 |[],_::_,h'=>h'.elim
 |_::_,[],h'=>h'.elim
 |_::_,_::_,h'=>⟨h _ _ h'.1,zD h h'.2⟩
theorem Ctx.ext{al:aX AV}{a:Act}(c:Ctx P env J w m B al a)(h:Ext f J w m af av aP)(pr:Rel P af av aP B):Ctx P env af av aP B al a:=
 ⟨pr,c.a_.ext h c.rel,Globs.ext c.globs h c.rel⟩
theorem ew.ext{ab:Fr}{a:Act}(s:ew P env ab a J w m B)(h:Ext f J w m af av aP)(pr:Rel P af av aP B):ew P env ab a af av aP B:=
 ⟨s.ctx.ext h pr,zD (λ_ _ hd=>hd.ext h s.ctx.rel) s.defs⟩
theorem hC.put{O:Nat->Prop}{al:aX AV}{tmps:Array Value}(h:hC w m O B al tmps.toList)(d:Nat){v:AV}{u:Value}(au:R w m O B v u):hC w m O B (al.set d v) (tmps.setIfInBounds d u).toList:=by
 refine⟨λi x hx=>?_,λi hx=>?_⟩
 ·rw[aX.h5] at hx;rw[Array.getElem?_toList];by_cases hi:i=d
  ·subst hi;rw[if_pos I] at hx;cases hg:al.get i with
   |none=>rw[hg] at hx;cases hx
   |some y=>
    rw[hg] at hx;cases hx;obtain⟨P5,h1,_⟩:=h.1 i y hg;rw[Array.getElem?_toList] at h1;have hlt:=(Array.getElem?_eq_some_iff.1 h1).1;exact⟨u,by simp[Array.getElem?_setIfInBounds,hlt],au⟩
  ·rw[if_neg hi] at hx;obtain⟨P5,h1,h2⟩:=h.1 i x hx;rw[Array.getElem?_toList] at h1;exact⟨P5,by rw[Array.getElem?_setIfInBounds_ne (λe=>hi e.symm)];exact h1,h2⟩
 ·rw[aX.h5] at hx;rw[Array.getElem?_toList];have hg:al.get i=none:=by
   by_cases hi:i=d
   ·subst hi;rw[if_pos I] at hx;cases hg:al.get i with
    |none=>rfl
    |some y=>rw[hg] at hx;cases hx
   ·rw[if_neg hi] at hx;exact hx
  have h1:=h.2 i hg;rw[Array.getElem?_toList] at h1;have:=Array.getElem?_eq_none_iff.1 h1;exact Array.getElem?_eq_none (by simpa using this)
theorem a4z{O:Nat->Prop}{al:aX AV}{a:Act}(h:hC w m O B al a.tmps.toList)(d:Nat){v:AV}{u:Value}(au:R w m O B v u):hC w m O B (al.set d v) (a.put (some d) u).tmps.toList:=
 h.put d au
theorem ew.put{ab:Fr}{a:Act}(s:ew P env ab a J w m B)(d:Option Nat){v:AV}{u:Value}(au:R w m (bj J m) B v u):ew P env (ab.put d v) (a.put d u) J w m B:=by
 cases d with
 |none=>exact s
 |some d=>exact⟨⟨s.ctx.rel,a4z s.ctx.a_ d au,s.ctx.globs⟩,s.defs⟩
theorem C4{ops:Array Oper}{o:Oper}{aU:aY}{O:Nat->Prop}{al:aX AV}{tmps:Array Value}(aa:coper P ops o=some aU)(ao:hC w m O B al tmps.toList):Region.wanted o (yielded ops tmps)=wantedA aU.guard al:=by
 unfold coper at aa;split at aa<;>cases aa;rename_i g hg;unfold guardOf at hg;unfold Region.wanted wantedA;split at hg
 ·rename_i tc;cases hg;simp[tc]
 ·rename_i j wt tc;split at hg<;>cases hg;rename_i d hd;simp only[tc,yielded,hd,Option.bind_some];cases gL:al.get d with
  |none=>
   have:=ao.2 d gL;rw[Array.getElem?_toList] at this;simp[this]
  |some v=>
   obtain⟨u,hu,iC⟩:=ao.1 d v gL;rw[Array.getElem?_toList] at hu;simp only[hu];cases iC with
   |y h=>rcases h.alt with⟨_,_,rfl⟩|⟨_,rfl⟩<;>simp
   |fs hu h=>subst hu;simp
   |_=>simp
theorem ID{c:Callee}{ac:qm}(aa:calleeOf c=some ac){al:aX AV}{a:Act}(ctx:Ctx P env J w m B al a){cd:AV}(au:calleeV (evalA env al) ac=some cd):
  ∃x,c= .value x/\R w m (bj J m) B cd (a.eval x):=by
 unfold calleeOf at aa;split at aa
 ·cases aa;cases au;exact⟨_,rfl,.ct I (λi h=>by simp at h) I (λi h=>by simp at h)⟩
 ·split at aa<;>cases aa;rename_i hx;exact⟨_,rfl,ctx.aq hx au⟩
 ·cases aa
theorem P6{F:Fence}{n:Nat}{o:Oper}{a:Act}{x:Operand}{c:Call}(ho:o.op= .call c)(fH:c.callee= .value x){us:Array Value}(kf:c.args.map a.eval=us)(b_:∀f,F.fn f)(hd:F.depth=none)
  {R:Ending->World->Prop} (h:CallRes P F (n-1) (a.eval x) us w R) {next:Act->World->Prop} {Q:Exit->Act->World->Prop}
  (hR:∀e av,R e av->match e with| .returned v=>next (a.put o.dst v) av| .panicked l8=>Q (.panic l8) a av| .outgrown=>False):o.wpIn F n P a w next Q:=by
 obtain⟨d,h1,h2⟩:=h;have c0:∀av,(resolve a.eval c o.type).run P av= .ok d av:=λav=>by
  unfold resolve;rw[fH];simp only[kf];exact h1 av
 have he:(o.semAt F.round a.eval).run P w=(invoke d.target d.args).run P w:=by
  rw[Oper.semAt_eq _ _ _ (λc aa=>by rw[ho] at aa;cases aa)];unfold execOp;rw[ho];simp only[Sem.run_bind,c0,Result.andThen_ok]
 refine⟨λf _=>b_ f,?_⟩;rw[he];generalize(invoke d.target d.args).run P w=res at h2;cases res with
 |halt h av=>exact h2.elim
 |ok qG av=>
  cases qG<;>try exact h2.elim
  ·exact hR _ _ h2
  ·exact⟨λao=>by rw[hd] at ao;simp at ao,CallsIn.mono h2 (λe wR ak=>by have:=hR e wR ak;cases e<;>first|exact this|exact this.elim)⟩
  ·exact⟨λao=>by rw[hd] at ao;simp at ao,RoundIn.mono h2 (λe wR ak=>by have:=hR e wR ak;cases e<;>first|exact this|exact this.elim)⟩
def zE(P:Program)(env:Env)(B f:Nat)(r:Option Nat)(call:kU):Prop:=
 ∀cd args J iU,call cd args J=some iU->∀k w m u us,Rel P J w m B->Globs env w B->R w m (bj J m) B cd u->bz w m (bj J m) B args us→
  CallRes P (eS r) k u us.toArray w (λe av=>∃ret af,(ret,af)∈iU/\∃aP,pw av aP (bj af aP) B ret e/\Rel P af av aP B/\Ext f J w m af av aP)
theorem P7{o:Oper}{c:qm}{args:List aF}(h:cop P o=some (.call c args)):∃an,o.op= .call an/\calleeOf an.callee=some c/\uM an.args.toList=some args:=by
 unfold cop at h;split at h
 all_goals first
  |(cases h;done)
  |(simp only[Option.map_eq_some_iff,reduceCtorEq,and_false,exists_false] at h;done)
  |(simp only[Option.bind_eq_bind,Option.bind_eq_some_iff,Option.pure_def,Option.some.injEq,reduceCtorEq,and_false,exists_false] at h;done)
  |(
    rename_i ho _;simp only[Option.bind_eq_bind,Option.bind_eq_some_iff,Option.pure_def,Option.some.injEq] at h;obtain⟨ac,nv,cC,kg,he⟩:=h;cases he;exact⟨_,ho,nv,kg⟩)
  |(
    rename_i ho;simp only[Option.bind_eq_bind,Option.bind_eq_some_iff,Option.pure_def,Option.some.injEq] at h;obtain⟨ac,nv,cC,kg,he⟩:=h;cases he;exact⟨_,ho,nv,kg⟩)
  |(
    exfalso
    repeat' first
     |(cases h;done)
     |(simp only[Option.map_eq_some_iff,reduceCtorEq,and_false,exists_false] at h;done)
     |(simp only[Option.bind_eq_bind,Option.bind_eq_some_iff,Option.pure_def,Option.some.injEq,reduceCtorEq,and_false,exists_false] at h;done)
     |split at h
     |(obtain⟨_,_,h⟩:=h)
     |(simp only[Option.bind_eq_bind,Option.bind_eq_some_iff,Option.pure_def,Option.some.injEq] at h))
theorem a4A{o:Oper}{c:qm}{args:List aF}(h:cop P o=some (.jW c args)):∃an,o.op= .defer an/\calleeOf an.callee=some c/\uM an.args.toList=some args:=by
 unfold cop at h;split at h
 all_goals first
  |(cases h;done)
  |(simp only[Option.map_eq_some_iff,reduceCtorEq,and_false,exists_false] at h;done)
  |(simp only[Option.bind_eq_bind,Option.bind_eq_some_iff,Option.pure_def,Option.some.injEq,reduceCtorEq,and_false,exists_false] at h;done)
  |(
    rename_i ho _;simp only[Option.bind_eq_bind,Option.bind_eq_some_iff,Option.pure_def,Option.some.injEq] at h;obtain⟨ac,nv,cC,kg,he⟩:=h;cases he;exact⟨_,ho,nv,kg⟩)
  |(
    rename_i ho;simp only[Option.bind_eq_bind,Option.bind_eq_some_iff,Option.pure_def,Option.some.injEq] at h;obtain⟨ac,nv,cC,kg,he⟩:=h;cases he;exact⟨_,ho,nv,kg⟩)
  |(
    exfalso
    repeat' first
     |(cases h;done)
     |(simp only[Option.map_eq_some_iff,reduceCtorEq,and_false,exists_false] at h;done)
     |(simp only[Option.bind_eq_bind,Option.bind_eq_some_iff,Option.pure_def,Option.some.injEq,reduceCtorEq,and_false,exists_false] at h;done)
     |split at h
     |(obtain⟨_,_,h⟩:=h)
     |(simp only[Option.bind_eq_bind,Option.bind_eq_some_iff,Option.pure_def,Option.some.injEq] at h))
end
section
variable {P:Program}{env:Env}{B f:Nat}
theorem P8{o:Oper}{bC:aF}(h:cop P o=some (.panic bC)):∃x,opdOf x=some bC/\(o.op= .panic x\/∃xs j2,o.op= .call {callee:=.builtin .panic,args:=xs,argTypes:=j2}/\xs.toList=[x]):=by
 unfold cop at h;split at h
 all_goals first
  |(cases h;done)
  |(simp only[Option.map_eq_some_iff,reduceCtorEq,and_false,exists_false] at h;done)
  |(simp only[Option.bind_eq_bind,Option.bind_eq_some_iff,Option.pure_def,Option.some.injEq,reduceCtorEq,and_false,exists_false] at h;done)
  |(
    rename_i ho;simp only[Option.map_eq_some_iff] at h;obtain⟨ac,nv,he⟩:=h;cases he;exact⟨_,nv,.inl ho⟩)
  |skip
 all_goals first
  |(
    rename_i ho;split at h
    all_goals first
     |(cases h;done)
     |(
      simp only[Option.map_eq_some_iff] at h;obtain⟨ac,nv,he⟩:=h;cases he;rename_i dg;exact⟨_,nv,.inr ⟨_,_,ho,dg⟩⟩)
     |(
      exfalso
      repeat' first
       |(cases h;done)
       |(simp only[Option.map_eq_some_iff,reduceCtorEq,and_false,exists_false] at h;done)
       |(simp only[Option.bind_eq_bind,Option.bind_eq_some_iff,Option.pure_def,Option.some.injEq,reduceCtorEq,and_false,exists_false] at h;done)
       |split at h
       |(obtain⟨_,_,h⟩:=h)
       |(simp only[Option.bind_eq_bind,Option.bind_eq_some_iff,Option.pure_def,Option.some.injEq] at h)))
  |(
    exfalso
    repeat' first
     |(cases h;done)
     |(simp only[Option.map_eq_some_iff,reduceCtorEq,and_false,exists_false] at h;done)
     |(simp only[Option.bind_eq_bind,Option.bind_eq_some_iff,Option.pure_def,Option.some.injEq,reduceCtorEq,and_false,exists_false] at h;done)
     |split at h
     |(obtain⟨_,_,h⟩:=h)
     |(simp only[Option.bind_eq_bind,Option.bind_eq_some_iff,Option.pure_def,Option.some.injEq] at h))
theorem P9{o:Oper}{a:Act}{x:Operand}(ho:o.op= .panic x\/∃xs j2,o.op= .call {callee:=.builtin .panic,args:=xs,argTypes:=j2}/\xs.toList=[x]){t:TypeId}{u:Value}(hx:a.eval x= .iface t u)(w:World):
  (execOp a.eval o).run P w= .halt (.panic (.iface t u)) w:=by
 rcases ho with ho|⟨xs,j2,ho,dg⟩
 ·simp[execOp,ho,hx,Instr.panic,goPanic]
 ·obtain rfl:=rY dg;rw[C1 ho];simp[builtin,hx,Instr.panic,goPanic]
theorem td{aq:aF->Option AV}{J:ad}{op:AOp}{cd:AV}{args:List AV}(h:opx f aq J op=some (.call cd args)):∃c as,op= .call c as/\calleeV aq c=some cd/\mapO aq as=some args:=by
 cases op<;>simp only[opx] at h
 all_goals first
  |(cases h;done)
  |(
    rename_i c as;split at h<;>cases h;rename_i h1 h2;exact⟨c,as,rfl,h1,h2⟩)
  |(exfalso;repeat' first|(cases h;done)|(cases zs h;done)|split at h|(simp only[Bool.cond_eq_ite] at h))
theorem a4B{aq:aF->Option AV}{J:ad}{op:AOp}{cd:AV}{args:List AV}(h:opx f aq J op=some (.jW cd args)):∃c as,op= .jW c as/\calleeV aq c=some cd/\mapO aq as=some args:=by
 cases op<;>simp only[opx] at h
 all_goals first
  |(cases h;done)
  |(
    rename_i c as;split at h<;>cases h;rename_i h1 h2;exact⟨c,as,rfl,h1,h2⟩)
  |(exfalso;repeat' first|(cases h;done)|(cases zs h;done)|split at h|(simp only[Bool.cond_eq_ite] at h))
theorem P_{aq:aF->Option AV}{J:ad}{op:AOp}{v:AV}(h:opx f aq J op=some (.panic v)):∃x t u,op= .panic x/\aq x=some (.it t u)/\v= .it t u:=by
 cases op<;>simp only[opx] at h
 all_goals first
  |(cases h;done)
  |(
    rename_i x;split at h<;>cases h;rename_i h1;exact⟨x,_,_,rfl,h1,rfl⟩)
  |(exfalso;repeat' first|(cases h;done)|(cases zs h;done)|split at h|(simp only[Bool.cond_eq_ite] at h))
theorem C5{o:Oper}{c:Call}{cl:AOp}(hd:o.op= .defer c)(h:cop P o=some cl):∃ac as,cl= .jW ac as:=by
 obtain⟨callee,args,b8X⟩:=c;unfold cop at h;rw[hd] at h;cases callee with
 |builtin b=>cases h
 |value x=>
  simp only[Option.bind_eq_bind,Option.bind_eq_some_iff,Option.pure_def,Option.some.injEq] at h;obtain⟨ac,_,as,_,he⟩:=h;exact⟨ac,as,he.symm⟩
 |invoke x n=>
  simp only[Option.bind_eq_bind,Option.bind_eq_some_iff,Option.pure_def,Option.some.injEq] at h;obtain⟨ac,_,as,_,he⟩:=h;exact⟨ac,as,he.symm⟩
theorem zF{o:Oper}{cl:AOp}(h:copB P o=cl)(hb:cl≠ .bad):cop P o=some cl:=by
 unfold copB at h;split at h
 ·subst h;assumption
 ·exact absurd h.symm hb
theorem C6{ops:Array Oper}{o:Oper}{aU:aY}(h:coper P ops o=some aU):aU.op=copB P o/\aU.dst=o.dst:=by
 unfold coper at h;split at h<;>cases h;exact⟨rfl,rfl⟩
theorem u_(op:AOp)(floor:Nat)(aq:aF->Option AV)(J:ad):qq op floor aq J=opx floor aq J op:=by
 cases op<;>rfl
theorem a4C(floor:Nat)(call:AV->List AV->ad->Option (dR×ad))(rc:Option AV)(du:Bool)(ab:Fr)(J:ad):pd env floor call rc du [] ab J=some (.normal,ab,J):=rfl
theorem runOpsD_cons(floor:Nat)(call:AV->List AV->ad->Option (dR×ad))(rc:Option AV)(du:Bool)(o:aY)(ops:List aY)(ab:Fr)(J:ad):pd env floor call rc du (o::ops) ab J=
  cond (wantedA o.guard ab.a_)
   (match o.op with
    | .recover=>match rc with
     |some v=>pd env floor call rc du ops (Fr.put ⟨ab.a_,ab.defers,true⟩ o.dst (cond ab.fi .eO v)) J
     |none=>none
    |op=>match opx floor (evalA env ab.a_) J op with
     |some (.val v J)=>pd env floor call rc du ops (ab.put o.dst v) J
     |some (.call cd args)=>match call cd args J with
      |some (.ok v,J)=>pd env floor call rc du ops (ab.put o.dst v) J
      |some (.err v,J)=>some (.panic v,ab,J)
      |none=>none
     |some (.jW cd args)=>cond (du&&isFn cd) (pd env floor call rc du ops (Fr.put ⟨ab.a_,.inr (cd,args)::ab.defers,ab.fi⟩ o.dst dB) J) none
     |some (.panic v)=>some (.panic v,ab,J)
     |some (.iy _)=>none
     |none=>none)
   (pd env floor call rc du ops (ab.put o.dst dB) J):=by
 show cond (wantedA o.guard ab.a_) (cond o.op.isRec _ (match qq o.op floor (evalA env ab.a_) J with|some (.val v J)=>_|some (.call cd args)=>_|some (.jW cd args)=>_|some (.panic v)=>_|some (.iy _)=>_|none=>none)) _=_;rw[u_];rcases o with⟨dst,op,g,wn⟩
 cases op<;>rfl
theorem a4D(floor:Nat)(call:kU)(du:Bool)(ab:Fr)(J:ad):runOps env floor call du [] ab J=some [(.normal,ab,J)]:=rfl
theorem va(floor:Nat)(call:kU)(du:Bool)(o:aY)(ops:List aY)(ab:Fr)(J:ad):runOps env floor call du (o::ops) ab J=
  cond (wantedA o.guard ab.a_)
   (match opx floor (evalA env ab.a_) J o.op with
    |some (.val v J)=>runOps env floor call du ops (ab.put o.dst v) J
    |some (.call cd args)=>gw (call cd args J) (λr=>match r with
     |(.ok v,J)=>runOps env floor call du ops (ab.put o.dst v) J
     |(.err v,J)=>some [(.panic v,ab,J)])
    |some (.jW cd args)=>cond (du&&isFn cd) (runOps env floor call du ops (Fr.put ⟨ab.a_,.inr (cd,args)::ab.defers,ab.fi⟩ o.dst dB) J) none
    |some (.panic v)=>some [(.panic v,ab,J)]
    |some (.iy l)=>mD (λp=>runOps env floor call du ops (ab.put o.dst p.1) p.2) l
    |none=>none)
   (runOps env floor call du ops (ab.put o.dst dB) J):=by
 show Bool.rec (motive:=λ_=>Option lr) (runOps env floor call du ops (ab.mC o.dst dB) J)
   (Option.rec (motive:=λ_=>Option lr) none (λr=>bL.rec (motive:=λ_=>Option lr)
    (λv J=>runOps env floor call du ops (ab.mC o.dst v) J)
    (λcd args=>gw (call cd args J) (λr=>match r with
     |(.ok v,J)=>runOps env floor call du ops (ab.mC o.dst v) J
     |(.err v,J)=>some [(.panic v,ab,J)]))
    (λcd args=>cond (du&&isFn cd) (runOps env floor call du ops (Fr.mC ⟨ab.a_,.inr (cd,args)::ab.defers,ab.fi⟩ o.dst dB) J) none)
    (λv=>some [(.panic v,ab,J)])
    (λl=>mD (λp=>runOps env floor call du ops (ab.mC o.dst p.1) p.2) l) r)
    (qq o.op floor (wM env ab.a_) J))
   (Cz o.guard ab.a_)=_
 rw[ph,ON,OO,HI,u_];cases opx floor (evalA env ab.a_) J o.op with
 |none=>rfl
 |some r=>cases r<;>rfl
theorem Qa{r:Option Nat}{call:kU}(oq:zE P env B f r call){ops:Array Oper}{k:Nat}{du:Bool}(hnd:du=true->r=none):
  ∀(ol:List Oper) (cC:List aY) (ab:Fr) (J:ad) (outs:lr) (a:Act) (w:World) (m:Nat->Option Nat),mapOL (coper P ops) ol=some cC->runOps env f call du cC ab J=some outs->ew P env ab a J w m B→
   ∀Q:Exit->Act->World->Prop,(∀e a9 af,(e,a9,af)∈outs->∀x cn av aP,ExR av aP (bj af aP) B e x->ew P env a9 cn af av aP B->Ext f J w m af av aP->Q x cn av)->wpListIn (eS r) k P ops Q ol a w
 |[],cC,ab,J,outs,a,w,m,hm,h,st,Q,b0=>by
  simp[mapOL] at hm;subst hm;rw[a4D] at h;cases h;exact b0 _ _ _ (List.mem_singleton.2 I) .normal a w m trivial st (Ext.refl _ _ _ _)
 |o::ol,cC,ab,J,outs,a,w,m,hm,h,st,Q,b0=>by
  rw[mapOL] at hm;split at hm<;>cases hm;rename_i aU zG ho oc;obtain⟨dK,h7⟩:=C6 ho;rw[va] at h;rw[wpListIn,C4 ho st.ctx.a_];have next:∀ {dw:Fr} {a3:Act} {bP:ad} {bR:World} {cS:Nat->Option Nat} {dy:lr},runOps env f call du zG dw bP=some dy->(∀y∈dy,y∈outs)->ew P env dw a3 bP bR cS B->Ext f J w m bP bR cS->wpListIn (eS r) k P ops Q ol a3 bR:=
   λ{dw a3 bP bR cS dy} h1 ep gm dh=>Qa oq hnd ol zG dw bP dy a3 bR cS oc h1 gm Q (λe a9 af fq x cn av aP hx cA hex=>b0 e a9 af (ep _ fq) x cn av aP hx cA (dh.trans st.ctx.rel hex))
  cases hw:wantedA aU.guard ab.a_ with
  |false=>
   rw[hw,cond_false] at h;simp only[Bool.false_eq_true,if_false];refine⟨λf _=>trivial,next h (λ_ h=>h) ?_ (Ext.refl _ _ _ _)⟩;rw[h7];exact st.put _ R.undef
  |true=>
   rw[hw,cond_true] at h;simp only[if_true];generalize IB:aU.op=cl at h dK;have aa:∀res,opx f (evalA env ab.a_) J cl=some res->cop P o=some cl:=λres c0=>zF dK.symm (λhb=>by subst hb;simp[opx] at c0);have vb:∀v bP,opx f (evalA env ab.a_) J cl=some (.val v bP)->∀c,o.op≠ .defer c:=λv bP hx c hd=>by
    have hh:=C5 hd (aa _ hx);obtain⟨ac,as,rfl⟩:=hh;simp only[opx] at hx;split at hx<;>cases hx
   split at h
   ·-- a value
    rename_i v bP hx;have az:=xd st.ctx (aa _ hx) hx;obtain⟨u,bR,cS,b2,hR,l_,dh⟩:=az;have ao:(o.semAt (eS r).round a.eval)=execOp a.eval o:=Oper.semAt_eq _ _ _ (vb _ _ hx);have cA:=(st.ext dh l_).put aU.dst hR;rw[h7] at cA h;refine⟨λf _=>trivial,?_⟩;rw[ao];rcases b2 with b2|⟨b2,rfl⟩
    ·rw[b2];exact next h (λ_ h=>h) cA dh
    ·rw[b2];exact next h (λ_ h=>h) cA dh
   ·-- a call
    rename_i cd args hx;obtain⟨c,as,rfl,jk,has⟩:=td hx;obtain⟨an,zH,zI,nw⟩:=P7 (aa _ hx);obtain⟨x,gC,vc⟩:=ID zI st.ctx jk;have zJ:=zf st.ctx.rel.u5 st.ctx.globs st.ctx.a_ nw has;obtain⟨iU,fH,nx⟩:=tb h;have c0:=oq _ _ _ _ fH (k-1) w m _ _ st.ctx.rel st.ctx.globs vc zJ;refine P6 zH gC (us:=an.args.map a.eval) I (λ_=>trivial) I (by
     have aN:(an.args.toList.map a.eval).toArray=an.args.map a.eval:=by apply Array.ext';simp
     rw[aN] at c0;exact c0) (λaN bR ak=>?_)
    obtain⟨ret,bP,fq,cS,h1,h2,h3⟩:=ak;obtain⟨dy,dP,ep⟩:=nx _ fq;cases ret with
    |ok v=>
     cases aN with
     |returned u=>
      have cA:=(st.ext h3 h2).put aU.dst h1;rw[h7] at cA dP;exact next dP ep cA h3
     |panicked l8=>exact h1.elim
     |outgrown=>exact h1.elim
    |err v=>
     simp only[Option.some.injEq] at dP;subst dP;cases aN with
     |returned u=>exact h1.elim
     |panicked l8=>exact b0 _ _ _ (ep _ (List.mem_singleton.2 I)) _ _ _ cS h1 (st.ext h3 h2) h3
     |outgrown=>exact h1.elim
   ·-- a deferred call
    rename_i cd args hx;obtain⟨c,as,rfl,jk,has⟩:=a4B hx;obtain⟨an,zH,zI,nw⟩:=a4A (aa _ hx);obtain⟨x,gC,vc⟩:=ID zI st.ctx jk;have zJ:=zf st.ctx.rel.u5 st.ctx.globs st.ctx.a_ nw has;cases zK:(du&&isFn cd) with
    |false=>rw[zK] at h;cases h
    |true=>
     rw[zK,cond_true] at h;simp only[Bool.and_eq_true] at zK;have ny:=hnd zK.1;subst ny;have hval:∃g a2 cs fT eQ,cd= .f (.func g) a2 cs/\a.eval x= .func (.func g) fT eQ/\bz w m (bj J m) B a2 fT.toList/\bz w m (bj J m) B cs eQ.toList:=by
      revert vc;generalize a.eval x=lB;intro vc;cases vc with
      |ct hf bq fN qt=>exact⟨_,_,_,_,_,rfl,rfl,⟨by simpa using hf,λi p q=>by simpa using bq i p (by simpa using q)⟩,⟨by simpa using fN,λi p q=>by simpa using qt i p (by simpa using q)⟩⟩
      |_=>simp[isFn] at zK
     obtain⟨g,a2,cs,fT,eQ,rfl,hex,fO,fN⟩:=hval;have b2:(o.semAt (eS none).round a.eval).run P w= .ok (.defer {target:=.fn (.func g) eQ,args:=fT++an.args.map a.eval}) w:=by
      show(execOp a.eval o).run P w=_;unfold execOp;rw[zH];simp[resolve,gC,Deferred.ofValue,hex]
     refine⟨λf _=>trivial,?_⟩;rw[b2];have aN:(an.args.map a.eval).toList=an.args.toList.map a.eval:=by simp
     have cA:ew P env ⟨ab.a_,.inr (.f (.func g) a2 cs,args)::ab.defers,ab.fi⟩ {a with defers:={target:=.fn (.func g) eQ,args:=fT++an.args.map a.eval}::a.defers} J w m B:=
      ⟨⟨st.ctx.rel,st.ctx.a_,st.ctx.globs⟩,⟨⟨g,a2,cs,fT,eQ,an.args.map a.eval,rfl,rfl,fO,fN,by rw[aN];exact zJ⟩,st.defs⟩⟩
     have ot:=cA.put aU.dst R.undef;rw[h7] at ot h;exact next h (λ_ h=>h) ot (Ext.refl _ _ _ _)
   ·-- a panic
    rename_i v hx;cases h;obtain⟨x,t,u,rfl,ou,rfl⟩:=P_ hx;obtain⟨ov,IE,te⟩:=P8 (aa _ hx);have px:=st.ctx.aq IE ou;obtain⟨b4,qy⟩:∃b4,a.eval ov= .iface t b4:=by
     revert px;generalize a.eval ov=lB;intro px;cases px;exact⟨_,rfl⟩
    have b2:=P9 (P:=P) te qy w;have ao:(o.semAt (eS r).round a.eval)=execOp a.eval o:=Oper.semAt_eq _ _ _ (λc hd=>by rcases te with te|⟨_,_,te,_⟩<;>(rw[hd] at te;cases te));refine⟨λf _=>trivial,?_⟩;rw[ao,b2];rw[qy] at px;exact b0 _ _ _ (List.mem_singleton.2 I) _ _ _ m ⟨_,rfl,px⟩ st (Ext.refl _ _ _ _)
   ·-- a step of y1 iterator
    rename_i l hx;obtain⟨a4E,p,ar,az⟩:=a4w st.ctx (aa _ hx) hx;obtain⟨dy,dP,ep⟩:=IC h p ar;obtain⟨u,bR,cS,b2,hR,l_,dh⟩:=az;have ao:(o.semAt (eS r).round a.eval)=execOp a.eval o:=Oper.semAt_eq _ _ _ a4E;have cA:=(st.ext dh l_).put aU.dst hR;rw[h7] at cA dP;refine⟨λf _=>trivial,?_⟩;rw[ao];rcases b2 with b2|⟨b2,rfl⟩
    ·rw[b2];exact next dP ep cA dh
    ·rw[b2];exact next dP ep cA dh
   ·cases h
end
def xf(m:Nat->Option Nat):Option Nat->Option Nat->Prop
 |none,none=>True
 |some l,some b=>m l=some b
 |_,_=>False
theorem xf.mono{m aP:Nat->Option Nat}(hm:∀id aB,m id=some aB->aP id=some aB){aJ r:Option Nat}(h:xf m aJ r):xf aP aJ r:=by
 cases aJ<;>cases r<;>first|trivial|exact h.elim|exact hm _ _ h
def rZ(F:Fence)(n:Nat)(P:Program)(c:Code)(Q:Exit->Act->World->Prop)(a:Act)(w:World):Prop:=
 ∀(b:Frame) (k:List Item) (cs:List Frame),b.roundOf=F.round->F.fn b.fn->F.room (cs.length+1+n)→
  ∃e cn av,Q e cn av/\ArrivesIn (Machine.fenced P F) P (lone (b.atR a (.code c:: .inLoop c::k)) cs w) b k cs e cn av
theorem rZ.wpIn{F:Fence}{n:Nat}{P:Program}{c:Code}{Q:Exit->Act->World->Prop}{a:Act}{w:World}(h:rZ F n P c Q a w):(Code.loop c).wpIn F n P Q a w:=by
 intro b k cs xg hb ak;obtain⟨e,cn,av,aS,ma⟩:=h b k cs xg hb ak;exact⟨e,cn,av,aS,.of_steps (.one (fenced_calm hb ak I) stepR_loop) ma⟩
theorem rZ.round{F:Fence}{n:Nat}{P:Program}{c:Code}{Q:Exit->Act->World->Prop}{a:Act}{w:World}(h:c.wpIn F n P (Exit.then (rZ F n P c Q) Q) a w):rZ F n P c Q a w:=by
 intro b k cs xg hb ak;obtain⟨e,py,pz,aS,ma⟩:=h b (.inLoop c::k) cs xg hb ak;cases e with
 |normal=>
  obtain⟨a4F,a4G,a4H,a4I,a4J⟩:=aS b k cs xg hb ak;exact⟨a4F,a4G,a4H,a4I,.of_steps (StepsIn.trans ma (.one (fenced_calm hb ak I) stepR_inLoop)) a4J⟩
 |exit id=>exact⟨_,py,pz,aS,.pass (x:=.inLoop c) I (λ_ _=>.inl (by simp)) ma⟩
 |goto l=>exact⟨_,py,pz,aS,.pass (x:=.inLoop c) I (λ_ _=>.inl (by simp)) ma⟩
 |ret=>exact⟨_,py,pz,aS,.pass (x:=.inLoop c) I (λ_ _=>.inl (by simp)) ma⟩
 |panic l8=>exact⟨_,py,pz,aS,.pass (x:=.inLoop c) I (λ_ _=>.inl (by simp)) ma⟩
 |outgrown=>exact⟨_,py,pz,aS,.pass (x:=.inLoop c) I (λ_ _=>.inl (by simp)) ma⟩
theorem xh{P:Program}{b:Frame}{a:Act}{k:List Item}{cs:List Frame}{w:World}{c:Code}:Go.step P (lone (b.atR a (.code (.scope c)::k)) cs w)= .next (lone (b.atR a (.code c:: .inScope c::k)) cs w):=
 step_lone_go (by simp[stepG,stepG.exec,Frame.atR])
theorem a4K{P:Program}{b:Frame}{a:Act}{k:List Item}{cs:List Frame}{w:World}{c:Code}:Go.step P (lone (b.atR a (.inScope c::k)) cs w)= .next (lone (b.atR a k) cs w):=
 step_lone_go (by simp[stepG,stepG.exec,Frame.atR])
theorem a4L{F:Fence}{n:Nat}{P:Program}{Q:Exit->Act->World->Prop}{a:Act}{w:World}{c:Code}(h:c.wpIn F n P (Exit.noGoto Q) a w):(Code.scope c).wpIn F n P Q a w:=by
 intro b k cs xg hb ak;have h0:(lone (b.atR a (.code (.scope c)::k)) cs w).fenced P F:=fenced_calm hb ak I;obtain⟨e,py,pz,aS,ma⟩:=h b (.inScope c::k) cs xg hb ak;cases e with
 |normal=>exact⟨.normal,py,pz,aS,.head h0 xh (StepsIn.trans ma (.one (fenced_calm hb ak I) a4K))⟩
 |exit id=>
  have hx:exitTo id (.inScope c::k)=exitTo id k:=by simp[exitTo]
  exact⟨.exit id,py,pz,aS,λgv az=>.head h0 xh (ma.1 gv (by rw[hx];exact az)),
   λpr az=>let⟨k₁,h1,h2⟩:=ma.2 pr (by rw[hx];exact az);⟨k₁,h1,.head h0 xh h2⟩⟩
 |goto l=>exact aS.elim
 |ret=>exact⟨_,py,pz,aS,.of_steps (.one h0 xh) ma⟩
 |panic l8=>exact⟨_,py,pz,aS,.of_steps (.one h0 xh) ma⟩
 |outgrown=>exact⟨_,py,pz,aS,.of_steps (.one h0 xh) ma⟩
def ow(P:Program)(env:Env)(B:Nat)(run:hZ):Prop:=
 ∀floor aJ ac ab J outs,run floor aJ ac ab J=some outs->∀k r c a w m,ccode P c=some ac->xf m aJ r->ew P env ab a J w m B→
  ∀Q:Exit->Act->World->Prop,(∀e a9 af,(e,a9,af)∈outs->∀x cn av aP,ExR av aP (bj af aP) B e x->ew P env a9 cn af av aP B->Ext floor J w m af av aP->Q x cn av)→
   c.wpIn (eS r) k P Q a w/\∀bM,c= .loop bM->rZ (eS r) k P bM Q a w
section
variable {P:Program}{env:Env}{B:Nat}
theorem a4M(env:Env):exec env 0=λ_ _ _ _ _=>none:=rfl
theorem mb(env:Env)(n:Nat):exec env (n+1)=step env (exec env n):=a1E env (exec env n)
theorem ow.zero:ow P env B (exec env 0):=λfloor aJ ac ab J outs h=>by rw[a4M] at h;cases h
def Qb(P:Program)(env:Env)(B:Nat)(run:hZ):Prop:=
 ∀floor ops ab J a9 cp ws af,h4 env floor (callV env run floor) ops ab [] [] J=some (a9,cp,ws,af)->ws.all (steady env floor (af::cp).reverse)=true->swapOk env a9.a_ ops=true->∀k r id Qc a w m,cdraw P Qc=some ops->ew P env ab a J w m B→
  ∀Q:Exit->Act->World->Prop,(∀cn av aP,ew P env a9 cn af av aP B->Ext floor J w m af av aP->Q .normal cn av)->(Code.region id Qc true).wpIn (eS r) k P Q a w
def Qd(P:Program)(env:Env)(B:Nat)(run:hZ):Prop:=
 ∀floor aJ f aC as b ab J outs,step env run floor aJ (.rangeFunc f aC as b) ab J=some outs->∀k r c a w m,ccode P c=some (.rangeFunc f aC as b)->xf m aJ r->ew P env ab a J w m B→
  ∀Q:Exit->Act->World->Prop,(∀e a9 af,(e,a9,af)∈outs->∀x cn av aP,ExR av aP (bj af aP) B e x->ew P env a9 cn af av aP B->Ext floor J w m af av aP->Q x cn av)->c.wpIn (eS r) k P Q a w
theorem jq{α:Type}(x:α):x∈[x]:=List.mem_singleton.2 I
theorem a4N{run:hZ}(b2:ow P env B run)(oq:∀f r,zE P env B f r (callV env run f))(a4O:Qb P env B run)(a4P:Qd P env B run):ow P env B (step env run):=by
 intro floor aJ ac ab J outs h k r c a w m aa k2 st Q b0;have qH:(∀bM,c≠ .loop bM)->c.wpIn (eS r) k P Q a w->c.wpIn (eS r) k P Q a w/\∀bM,c= .loop bM->rZ (eS r) k P bM Q a w:=λh1 h2=>⟨h2,λbM he=>absurd he (h1 bM)⟩
 have trans:∀ {bP:ad} {bR:World} {cS:Nat->Option Nat} {dy:lr},Ext floor J w m bP bR cS->(∀y∈dy,y∈outs)->∀e a9 af,(e,a9,af)∈dy->∀x cn av aP,ExR av aP (bj af aP) B e x->ew P env a9 cn af av aP B->Ext floor bP bR cS af av aP->Q x cn av:=
  λdh ep e a9 af fq x cn av aP hx cA hex=>b0 e a9 af (ep _ fq) x cn av aP hx cA (dh.trans st.ctx.rel hex)
 cases c with
 |skip=>
  simp only[ccode,Option.some.injEq] at aa;subst aa;simp only[step] at h;cases h;exact qH (λ_ h=>by cases h) (wpIn_skip (b0 _ _ _ (jq _) .normal a w m trivial st (Ext.refl _ _ _ _)))
 |label l=>
  simp only[ccode,Option.some.injEq] at aa;subst aa;simp only[step] at h;cases h;exact qH (λ_ h=>by cases h) (wpIn_label (b0 _ _ _ (jq _) .normal a w m trivial st (Ext.refl _ _ _ _)))
 |goto l=>simp only[ccode,Option.some.injEq] at aa;subst aa;simp[step] at h
 |refuse l=>simp only[ccode,Option.some.injEq] at aa;subst aa;simp[step] at h
 |exit id=>
  simp only[ccode,Option.some.injEq] at aa;subst aa;simp only[step] at h;cases h;exact qH (λ_ h=>by cases h) (wpIn_exit (b0 _ _ _ (jq _) (.exit id) a w m rfl st (Ext.refl _ _ _ _)))
 |ret=>
  simp only[ccode,Option.some.injEq] at aa;subst aa;simp only[step] at h;cases h;exact qH (λ_ h=>by cases h) (wpIn_ret (b0 _ _ _ (jq _) .ret a w m trivial st (Ext.refl _ _ _ _)))
 |region id ops dc=>
  refine qH (λ_ h=>by cases h) ?_;cases dc with
  |true=>
   simp only[ccode] at aa;split at aa<;>cases aa
   ·rename_i l hl;simp only[step] at h;split at h<;>try (cases h;done)
    rename_i dw cp ws bP hd;cases ao:(ws.all (steady env floor (bP::cp).reverse)&&swapOk env dw.a_ l) with
    |false=>rw[ao] at h;cases h
    |true=>
     rw[ao,cond_true] at h;cases h;rw[Bool.and_eq_true] at ao;exact a4O _ _ _ _ _ _ _ _ hd ao.1 ao.2 k r id ops a w m hl st Q (λcn av aP h1 h2=>b0 _ _ _ (jq _) .normal cn av aP trivial h1 h2)
   ·simp[step] at h
  |false=>
   simp only[ccode] at aa;split at aa<;>cases aa
   ·rename_i l hl;simp only[step] at h;refine wpIn_region_list (Qa (oq floor r) (λhn=>?_) _ _ _ _ _ _ _ _ hl h st Q b0);cases aJ<;>cases r<;>first|rfl|exact k2.elim|simp at hn
   ·simp[step] at h
 |seq x y=>
  refine qH (λ_ h=>by cases h) ?_;simp only[ccode] at aa;split at aa<;>cases aa;rename_i bC eh hx hy;simp only[step] at h;refine wpIn_seq ?_;obtain⟨l,r0,nx⟩:=tb h;refine(b2 _ _ _ _ _ _ r0 k r x a w m hx k2 st _ (λaN dw bP fq fh a3 bR cS eL fc gn=>?_)).1;obtain⟨dy,dP,ep⟩:=nx _ fq;cases aN with
  |normal=>
   cases fh<;>try exact eL.elim
   exact(b2 _ _ _ _ _ _ dP k r y a3 bR cS hy (k2.mono gn.mono) fc Q (trans gn ep)).1
  |exit id=>cases dP;cases fh<;>first|exact eL.elim|exact b0 _ _ _ (ep _ (jq _)) _ a3 bR cS eL fc gn
  |ret=>cases dP;cases fh<;>first|exact eL.elim|exact b0 _ _ _ (ep _ (jq _)) _ a3 bR cS eL fc gn
  |panic v=>cases dP;cases fh<;>first|exact eL.elim|exact b0 _ _ _ (ep _ (jq _)) _ a3 bR cS eL fc gn
 |cond t x y=>
  refine qH (λ_ h=>by cases h) ?_;simp only[ccode] at aa;split at aa<;>cases aa;rename_i at' bC eh ht hx hy;simp only[step] at h;split at h<;>try (cases h;done)
  rename_i gM IF;have IG:=(st.ctx.aq ht IF).sY;refine wpIn_cond IG ?_;cases gM with
  |true=>exact(b2 _ _ _ _ _ _ h k r x a w m hx k2 st Q b0).1
  |false=>exact(b2 _ _ _ _ _ _ h k r y a w m hy k2 st Q b0).1
 |block id x=>
  refine qH (λ_ h=>by cases h) ?_;simp only[ccode] at aa;split at aa<;>cases aa;rename_i bC hx;simp only[step] at h;refine wpIn_block ?_;obtain⟨l,r0,nx⟩:=tb h;refine(b2 _ _ _ _ _ _ r0 k r x a w m hx k2 st _ (λaN dw bP fq fh a3 bR cS eL fc gn=>?_)).1;obtain⟨dy,dP,ep⟩:=nx _ fq;cases aN with
  |normal=>cases dP;cases fh<;>first|exact eL.elim|exact b0 _ _ _ (ep _ (jq _)) _ a3 bR cS eL fc gn
  |ret=>cases dP;cases fh<;>first|exact eL.elim|exact b0 _ _ _ (ep _ (jq _)) _ a3 bR cS eL fc gn
  |panic v=>cases dP;cases fh<;>first|exact eL.elim|exact b0 _ _ _ (ep _ (jq _)) _ a3 bR cS eL fc gn
  |exit j=>
   cases fh<;>try exact eL.elim
   rename_i qo;have aA:j=qo:=eL;subst aA;have dP:cond (Nat.beq j id) (some [(fa.normal,dw,bP)]) (some [(fa.exit j,dw,bP)])=some dy:=dP;cases hb:Nat.beq j id with
   |true=>
    rw[hb,cond_true] at dP;cases dP;have:=Nat.eq_of_beq_eq_true hb;simp only[Exit.inBlock,this,if_true];exact b0 _ _ _ (ep _ (jq _)) .normal a3 bR cS trivial fc gn
   |false=>
    rw[hb,cond_false] at dP;cases dP;have:j≠id:=λhe=>by rw[he,Nat.beq_refl] at hb;cases hb
    simp only[Exit.inBlock,this,if_false];exact b0 _ _ _ (ep _ (jq _)) (.exit j) a3 bR cS I fc gn
 |loop x=>
  simp only[ccode] at aa;split at aa<;>cases aa;rename_i bC hx;have hL:rZ (eS r) k P x Q a w:=by
   refine rZ.round ?_;simp only[step] at h;obtain⟨l,r0,nx⟩:=tb h;refine(b2 _ _ _ _ _ _ r0 k r x a w m hx k2 st _ (λaN dw bP fq fh a3 bR cS eL fc gn=>?_)).1;obtain⟨dy,dP,ep⟩:=nx _ fq;cases aN with
   |normal=>
    cases fh<;>try exact eL.elim
    exact(b2 _ _ _ _ _ _ dP k r (.loop x) a3 bR cS (by simp only[ccode,hx]) (k2.mono gn.mono) fc Q (trans gn ep)).2 x I
   |exit id=>cases dP;cases fh<;>first|exact eL.elim|exact b0 _ _ _ (ep _ (jq _)) _ a3 bR cS eL fc gn
   |ret=>cases dP;cases fh<;>first|exact eL.elim|exact b0 _ _ _ (ep _ (jq _)) _ a3 bR cS eL fc gn
   |panic v=>cases dP;cases fh<;>first|exact eL.elim|exact b0 _ _ _ (ep _ (jq _)) _ a3 bR cS eL fc gn
  exact⟨hL.wpIn,λbM he=>by cases he;exact hL⟩
 |scope x=>
  refine qH (λ_ h=>by cases h) ?_;simp only[ccode] at aa;split at aa<;>cases aa;rename_i bC hx;simp only[step] at h;refine a4L ((b2 _ _ _ _ _ _ h k r x a w m hx k2 st _ (λaN dw bP fq fh a3 bR cS eL fc gn=>?_)).1);cases fh with
  |goto l=>cases aN<;>exact eL.elim
  |_=>exact b0 _ _ _ fq _ a3 bR cS eL fc gn
 |rangeFunc g aC as b=>
  refine qH (λ_ h=>by cases h) ?_;have eJ:=aa;simp only[ccode] at aa;split at aa<;>cases aa;exact a4P _ _ _ _ _ _ _ _ _ h k r _ a w m eJ k2 st Q b0
end
structure qI(P:Program)(env:Env):Prop where
 funcs:∀g b1,env.funcs g=some b1->∃fn,P.funcs[g]? =some fn/\cfunc P fn=some b1/\(fn.name== "runtime.NumGoroutine")=false
theorem IH{P:Program}{fn:Func}{b1:aI}(h:cfunc P fn=some b1):∃rs c ac,mapOL (resOf P) fn.results.toList=some rs/\fn.body=some c/\ccode P c=some ac/\b1={jg:=fn.params.size+fn.nfree,ntmps:=fn.ntmps,results:=rs,body:=some ac}:=by
 unfold cfunc at h;split at h<;>try (cases h;done)
 rename_i rs r1;split at h<;>try (cases h;done)
 rename_i c aa;split at h<;>cases h;rename_i ac fP;exact⟨rs,c,ac,r1,aa,fP,rfl⟩
section
variable {P:Program}{env:Env}{B:Nat}{J:ad}{w:World}{m:Nat->Option Nat}
def res1(tmps:Array Value):ResultVar->Sem Value
 | .tmp t=>pure (tmps.getD t undef)
 | .cell a t=>do loadVar t (←asAddr (tmps.getD a undef))
theorem a4Q(fn:Func)(tmps:Array Value):results fn tmps=(do let bf <-fn.results.mapM (res1 tmps);pure (if h:bf.size=1 then bf[0] else .tuple bf)):=by
 have:(λ(x:ResultVar)=>(match x with| .tmp t=>pure (tmps.getD t undef)| .cell a t=>(do loadVar t (←asAddr (tmps.getD a undef))):Sem Value))=res1 tmps:=by
  funext x;cases x<;>rfl
 unfold results;rw[<-this];rfl
theorem a4R(ak:Rel P J w m B){al:aX AV}{tmps:Array Value}(ao:hC w m (bj J m) B al tmps.toList){x:ResultVar}{r:Nat×Option (Option Nat)}(hx:resOf P x=some r){v:AV}(h:resultOf J al r=some v):
  ∃u,(res1 tmps x).run P w= .ok u w/\R w m (bj J m) B v u:=by
 have getD:∀ {t:Nat} {u:Value},tmps.toList[t]? =some u->tmps.getD t undef=u:=λ{t u} h=>by
  rw[Array.getElem?_toList] at h;simp[h]
 cases x with
 |tmp t=>
  simp only[resOf,Option.some.injEq] at hx;subst hx;simp only[resultOf] at h;cases au:al.get t with
  |none=>simp[au] at h
  |some bA=>
   simp only[au,Option.some.injEq] at h;subst h;obtain⟨u,hu,iC⟩:=ao.1 _ _ au;exact⟨u,by simp only[res1,getD hu,Sem.run_pure],iC⟩
 |cell b t=>
  simp only[resOf] at hx;cases gW:shapeOf P t with
  |none=>simp[gW] at hx
  |some U=>
   simp only[gW,Option.some.injEq] at hx;subst hx;simp only[resultOf] at h;split at h<;>try (cases h;done)
   ·rename_i aS;cases aS
   ·rename_i id off gu au aS;cases aS;split at h<;>try (cases h;done)
    rename_i c hg;obtain⟨u,hu,iC⟩:=ao.1 _ _ au;obtain⟨aB,hm,rfl⟩:=iC.sZ;obtain⟨b4,h1,h2⟩:=OW ak gW hm hg h;exact⟨b4,by simp only[res1,getD hu,asAddr,Sem.run_bind,Sem.run_pure,Result.andThen_ok,h1],h2⟩
theorem Qe(ak:Rel P J w m B){al:aX AV}{tmps:Array Value}(ao:hC w m (bj J m) B al tmps.toList){fn:Func}{rs:List (Nat×Option (Option Nat))}(hx:mapOL (resOf P) fn.results.toList=some rs){v:AV}(h:resultsOf J al rs=some v):
  ∃u,(results fn tmps).run P w= .ok u w/\R w m (bj J m) B v u:=by
 have key:∀(l:List ResultVar) (rs:List (Nat×Option (Option Nat))) (bf:List AV),mapOL (resOf P) l=some rs->mapO (resultOf J al) rs=some bf→
   ∃us:List Value,(l.mapM (res1 tmps)).run P w= .ok us w/\bz w m (bj J m) B bf us:=by
  intro l
  induction l with
  |nil=>
   intro rs bf h1 h2;simp[mapOL] at h1;subst h1;rw[HC] at h2;cases h2;exact⟨[],by simp,bz.nil⟩
  |cons x l aD=>
   intro rs bf h1 h2;rw[mapOL] at h1;split at h1<;>cases h1;rename_i r a4S kD ox;rw[mapO_cons] at h2;split at h2<;>try (cases h2;done)
   rename_i bA l1;split at h2<;>cases h2;rename_i qv a4T;obtain⟨u,hu,iC⟩:=a4R ak ao kD l1;obtain⟨us,kf,a4U⟩:=aD a4S qv ox a4T;exact⟨u::us,by simp only[List.mapM_cons,Sem.run_bind,hu,Result.andThen_ok,kf,Sem.run_pure],bz.cons iC a4U⟩
 have run:∀(bf:List AV),mapO (resultOf J al) rs=some bf->∃us:List Value,(fn.results.mapM (res1 tmps)).run P w= .ok us.toArray w/\bz w m (bj J m) B bf us:=λbf lY=>by
  obtain⟨us,h1,h2⟩:=key _ _ _ hx lY;refine⟨us,?_,h2⟩;rw[Array.mapM_eq_mapM_toList];simp only[Sem.run_map,h1,Result.andThen_ok]
 unfold resultsOf at h;rw[a4Q];split at h<;>cases h
 ·rename_i au;obtain⟨us,h1,h2⟩:=run _ au;have hl:us.length=1:=h2.1;obtain⟨u,rfl⟩:∃u,us=[u]:=by cases us with|nil=>simp at hl|cons u t=>cases t with|nil=>exact⟨u,rfl⟩|cons _ _=>simp at hl
  refine⟨u,?_,h2.2 0 (by simp) (by simp)⟩;simp only[Sem.run_bind,h1,Result.andThen_ok,Sem.run_pure];simp
 ·rename_i bf a5 au;obtain⟨us,h1,h2⟩:=run _ au;refine⟨.tuple us.toArray,?_,R.rM h2⟩;have hl:us.length≠1:=λh=>by
   rw[h2.1] at h;cases bf with
   |nil=>simp at h
   |cons v t=>cases t with|nil=>exact a5 v rfl|cons _ _=>simp at h
  simp only[Sem.run_bind,h1,Result.andThen_ok,Sem.run_pure];simp[hl]
def mP(w:World)(m:Nat->Option Nat)(O:Nat->Prop)(B:Nat):Option AV->FrameMode->Prop
 |none,.returning=>True
 |some v,.panicking l8=>∃u,l8=[{v:=u,recovered:=false}]/\R w m O B v u
 |_,_=>False
theorem mP.ext{f:Nat}{af:ad}{av:World}{aP:Nat->Option Nat}{p:Option AV}{u:FrameMode}(h:mP w m (bj J m) B p u)(he:Ext f J w m af av aP)(ak:Rel P J w m B):mP av aP (bj af aP) B p u:=by
 cases p<;>cases u<;>first|exact h|(obtain⟨lB,h1,h2⟩:=h;exact⟨lB,h1,h2.ext he ak⟩)
def II(P:Program)(env:Env)(B f:Nat)(call:AV->List AV->AV->ad->Option (Bool×ad)):Prop:=
 ∀cd args p J r af,call cd args (p.getD .eO) J=some (r,af)->∀k w m u d,Rel P J w m B->Globs env w B->mP w m (bj J m) B p u->xe w m (bj J m) B (.inr (cd,args)) d→
  ∃IJ cap g xi,d.target= .fn IJ cap/\(invoke d.target d.args).run P w= .ok (.enter g xi) w∧
   CallsDIn (eS none) k P g xi u w (λe b4 av=>(∃v,e= .returned v)/\∃aP,mP av aP (bj af aP) B (cond r none p) (settle b4)/\Rel P af av aP B/\Ext f J w m af av aP)
theorem a4V(f:Nat)(call:AV->List AV->AV->ad->Option (Bool×ad))(p:Option AV)(J:ad):leave f call [] p J=some (p,J):=rfl
theorem leave_cons(f:Nat)(call:AV->List AV->AV->ad->Option (Bool×ad))(d:Nat ⊕ (AV×List AV))(ds:List (Nat ⊕ (AV×List AV)))(p:Option AV)(J:ad):leave f call (d::ds) p J=match d with
  | .inl b=>if Nat.blt b f then none else match J.get b with
   |some .dN=>leave f call ds p (J.set b .dead)
   |_=>none
  | .inr (cd,args)=>match call cd args (p.getD .eO) J with
   |some (r,J)=>leave f call ds (cond r none p) J
   |none=>none:=rfl
theorem IK{f:Nat}{call:AV->List AV->AV->ad->Option (Bool×ad)}(oq:II P env B f call){fn:Func}{rs:List (Nat×Option (Option Nat))}(hx:mapOL (resOf P) fn.results.toList=some rs){k:Nat}{tmps:Array Value}{al:aX AV}:
  ∀(ds:List (Nat ⊕ (AV×List AV))) (r2:List Deferred) (p d_:Option AV) (u:FrameMode) (J af:ad) (w:World) (m:Nat->Option Nat),leave f call ds p J=some (d_,af)->hG (xe w m (bj J m) B) ds r2->mP w m (bj J m) B p u→
   Rel P J w m B->hC w m (bj J m) B al tmps.toList->Globs env w B->∀(ret:dR),(match d_ with|some v=>some (dR.err v)|none=>(resultsOf af al rs).map dR.ok)=some ret→
   ∀Q:Ending->World->Prop,(∀e av aP,pw av aP (bj af aP) B ret e->Rel P af av aP B->Ext f J w m af av aP->Q e av)->LeavesInM (eS none) k P fn tmps Q r2 u w
 |[],r2,p,d_,u,J,af,w,m,h,hd,hu,ak,ao,cZ,ret,kh,Q,b0=>by
  cases r2 with
  |cons _ _=>exact hd.elim
  |nil=>
  rw[a4V] at h;cases h;cases p with
  |none=>
   cases u<;>try exact hu.elim
   simp only[Option.map_eq_some_iff] at kh;obtain⟨v,au,rfl⟩:=kh;obtain⟨tf,h1,h2⟩:=Qe ak ao hx au;exact⟨tf,h1,b0 _ _ m h2 ak (Ext.refl _ _ _ _)⟩
  |some v=>
   cases u<;>try exact hu.elim
   simp only[Option.some.injEq] at kh;subst kh;exact b0 _ _ m hu ak (Ext.refl _ _ _ _)
 |d::ds,r2,p,d_,u,J,af,w,m,h,hd,hu,ak,ao,cZ,ret,kh,Q,b0=>by
  cases r2 with
  |nil=>exact hd.elim
  |cons hY r2=>
  obtain⟨jD,im⟩:=hd;have b2:u≠ .run:=λhe=>by subst he;cases p<;>exact hu.elim
  rw[leave_cons] at h;refine⟨b2,?_⟩;cases d with
  |inl b=>
   simp only at h;split at h<;>try (cases h;done)
   rename_i dE;split at h<;>try (cases h;done)
   rename_i hg;obtain⟨aB,hm,rfl⟩:=jD;obtain⟨bH,dP,l4⟩:=ak.obj _ _ _ hm hg I;cases l4;left;have hb:=wS dP;obtain⟨kD,gb⟩:=ak.cR (f:=f) (by simpa [Nat.blt_eq] using dE) hm ⟨_,hg,rfl⟩ (w.putObj aB (.deferred none)) .dead (by simp) (λb a5=>World.putObj_heap_other a5) (λn hn=>by unfold dV at hn;rw[dP] at hn;cases hn) rfl rfl rfl (λh=>by cases h);refine⟨aB,w.putObj aB (.deferred none),rfl,run_takeDeferred dP,?_⟩;exact IK oq hx ds r2 p d_ u _ af _ m h (zD (λ_ _ hd=>hd.ext gb ak) im) (by
    cases p<;>cases u<;>first|exact hu|(obtain⟨lB,h1,h2⟩:=hu;exact⟨lB,h1,h2.ext gb ak⟩)) kD (ao.ext gb ak) (Globs.ext cZ gb ak) ret kh Q
    (λe av aP h1 h2 h3=>b0 e av aP h1 h2 (gb.trans ak h3))
  |inr q=>
   obtain⟨cd,args⟩:=q;simp only at h;split at h<;>try (cases h;done)
   rename_i r bP aa;obtain⟨IJ,cap,g,xi,ht,hinv,vd⟩:=oq cd args p J r bP aa (k-1) w m u hY ak cZ hu jD;right;refine⟨λao=>by simp[eS] at ao,IJ,cap,g,xi,ht,hinv,λ_ _=>trivial,?_⟩;refine CallsDIn.mono vd (λe b4 av c0=>?_);obtain⟨⟨v,rfl⟩,aP,lX,kD,gb⟩:=c0;exact IK oq hx ds r2 _ d_ (settle b4) bP af av aP h (zD (λ_ _ hd=>hd.ext gb ak) im) lX kD (ao.ext gb ak) (Globs.ext cZ gb ak) ret kh Q
    (λe av aP h1 h2 h3=>b0 e av aP h1 h2 (gb.trans ak h3))
end
section
variable {P:Program}{env:Env}{B:Nat}
theorem IL{g:Nat}{fn:Func}(hf:P.funcs[g]? =some fn){c:Code}(hb:fn.body=some c)(hn:(fn.name== "runtime.NumGoroutine")=false)(cs args:Array Value)(w:World):
  (invoke (.fn (.func g) cs) args).run P w= .ok (.enter g (args++cs)) w:=by
 simp only[beq_eq_false_iff_ne,ne_eq] at hn;have ar:(program).run P w= .ok P w:=rfl;simp only[invoke,callFunc,Sem.run_bind,ar,Result.andThen_ok,hf];simp[hn,hb]
theorem a4W{α:Type}(i:Nat)(t:aX α):aX.lay [] i t=t:=rfl
theorem a4X{α:Type}(x:α)(l:List α)(i:Nat)(t:aX α):aX.lay (x::l) i t=aX.lay l (i+1) (t.set i x):=rfl
theorem Qf{w:World}{m:Nat->Option Nat}{O:Nat->Prop}:∀(args:List AV) (us:List Value) (i:Nat) (t:aX AV) (pre:List Value) (n:Nat),bz w m O B args us->pre.length=i→
  hC w m O B t (pre++List.replicate (args.length+n) undef)->hC w m O B (aX.lay args i t) (pre++(us++List.replicate n undef))
 |[],us,i,t,pre,n,ha,ar,h=>by
  have:us=[]:=List.eq_nil_of_length_eq_zero (by simpa using ha.1);subst this;rw[a4W];simpa using h
 |x::args,us,i,t,pre,n,ha,ar,h=>by
  cases us with
  |nil=>have:=ha.1;simp at this
  |cons u us=>
   rw[a4X];have hx:R w m O B x u:=ha.2 0 (by simp) (by simp);have IM:bz w m O B args us:=by simpa using ha.drop 1
   have key:=Qf args us (i+1) (t.set i x) (pre++[u]) n IM (by simp[ar]) (by
    have Qg:=hC.put (tmps:=(pre++List.replicate ((x::args).length+n) undef).toArray) (by simpa using h) i hx;have aN:((pre++List.replicate ((x::args).length+n) undef).toArray.setIfInBounds i u).toList=(pre++[u])++List.replicate (args.length+n) undef:=by
     simp only[Array.toList_setIfInBounds];rw[<-ar,List.set_append_right _ _ (Nat.le_refl _),Nat.sub_self];have a4:(x::args).length+n=(args.length+n)+1:=by simp;omega
     rw[a4,List.replicate_succ,List.set_cons_zero];simp
    rw[aN] at Qg;exact Qg)
   simpa using key
theorem a4Y{w:World}{m:Nat->Option Nat}{O:Nat->Prop}(n:Nat):hC w m O B (aX.full n dB n) (List.replicate n undef):=by
 refine⟨λi v au=>?_,λi au=>?_⟩
 ·obtain⟨rfl,hi⟩:=aX.CF _ _ _ _ _ au;exact⟨undef,by simp[hi],R.undef⟩
 ·rcases Nat.lt_or_ge i n with h|h
  ·rw[aX.CE n n i dB h (Nat.le_refl _)] at au;cases au
  ·exact List.getElem?_eq_none (by simpa using h)
theorem Qh{fn:Func}{b1:aI}(a4Z:b1.ntmps=fn.ntmps){J:ad}{w:World}{m:Nat->Option Nat}(ak:Rel P J w m B)(cZ:Globs env w B){args:List AV}(hle:args.length<=fn.ntmps){us:Array Value}(ha:bz w m (bj J m) B args us.toList):
  ew P env (rH b1 args) {tmps:=us++Array.replicate (fn.ntmps-us.size) undef,defers:=[]} J w m B:=by
 refine⟨⟨ak,?_,cZ⟩,trivial⟩;have hl:us.size=args.length:=by have:=ha.1;simpa using this
 simp only[rH,Array.toList_append,Array.toList_replicate,a4Z,hl];have:=Qf args us.toList 0 (aX.full fn.ntmps dB fn.ntmps) [] (fn.ntmps-args.length) ha I (by
  have e:args.length+(fn.ntmps-args.length)=fn.ntmps:=by omega
  rw[e];simpa using a4Y fn.ntmps)
 simpa using this
theorem IN(fO:qI P env){run:hZ}(b2:ow P env B run){f:Nat}(hd:II P env B f (callD env f)){g:Nat}{args:List AV}{J:ad}{iU:List (dR×ad)}(h:runF env run f g args J=some iU)(k:Nat)(r:Option Nat)
  {w:World} {m:Nat->Option Nat} (ak:Rel P J w m B) (cZ:Globs env w B) {us:Array Value} (ha:bz w m (bj J m) B args us.toList):
  (∃fn c,P.funcs[g]? =some fn/\fn.body=some c/\(fn.name== "runtime.NumGoroutine")=false)∧
  CallsIn (eS r) k P g us w (λe av=>∃ret af,(ret,af)∈iU/\∃aP,pw av aP (bj af aP) B ret e/\Rel P af av aP B/\Ext f J w m af av aP):=by
 unfold runF at h;cases hg:env.funcs g with
 |none=>simp[hg] at h
 |some b1=>
  obtain⟨fn,hfn,g4,ve⟩:=fO.funcs g b1 hg;obtain⟨rs,c,ac,r1,vf,fP,rfl⟩:=IH g4;simp only[hg] at h;refine⟨⟨fn,c,hfn,vf,ve⟩,?_⟩;cases hb:(Nat.beq args.length (fn.params.size+fn.nfree)&&Nat.ble args.length fn.ntmps) with
  |false=>rw[hb] at h;cases h
  |true=>
   rw[hb,cond_true] at h;simp only[Bool.and_eq_true,Nat.ble_eq] at hb;obtain⟨l,hex,nx⟩:=tb h;have cA:=Qh (fn:=fn) (b1:={jg:=fn.params.size+fn.nfree,ntmps:=fn.ntmps,results:=rs,body:=some ac}) I ak cZ hb.2 ha;show CallsIn (eS none) k P g us w _;refine callsIn_of_wp_marks hfn vf trivial ((b2 _ _ _ _ _ _ hex k none c _ w m fP trivial cA _ (λe dw bP fq fh a3 bR cS eL fc gn=>?_)).1);obtain⟨dy,dP,ep⟩:=nx _ fq;have fin:∀(d_:Option AV) (cx:ad) (ret:dR),leave f (callD env f) dw.defers (CA e) bP=some (d_,cx)->(match d_ with|some v=>some (dR.err v)|none=>(resultsOf cx dw.a_ rs).map dR.ok)=some ret->(ret,cx)∈iU→
     ∀u,mP bR cS (bj bP cS) B (CA e) u->LeavesInM (eS none) k P fn a3.tmps (λe av=>∃ret af,(ret,af)∈iU/\∃aP,pw av aP (bj af aP) B ret e/\Rel P af av aP B/\Ext f J w m af av aP) a3.defers u bR:=λd_ cx ret hl kh iD u hu=>
    IK hd r1 _ _ _ _ _ _ _ _ _ hl fc.defs hu fc.ctx.rel fc.ctx.a_ fc.ctx.globs ret kh _ (λe av aP h1 h2 h3=>⟨ret,cx,iD,aP,h1,h2,gn.trans ak h3⟩)
   have go:(∀id,e≠ .exit id)->∀u,mP bR cS (bj bP cS) B (CA e) u->LeavesInM (eS none) k P fn a3.tmps (λe av=>∃ret af,(ret,af)∈iU/\∃aP,pw av aP (bj af aP) B ret e/\Rel P af av aP B/\Ext f J w m af av aP) a3.defers u bR:=λa5 u hu=>by
    unfold endF at dP;split at dP
    ·rename_i he;cases he;exact absurd I (a5 _)
    rename_i eg a9 af gb ly;cases ly;split at dP<;>try (cases dP;done)
    ·rename_i nk;cases dP;exact fin _ _ _ nk I (ep _ (jq _)) u hu
    ·rename_i nk;split at dP<;>cases dP;rename_i c0;exact fin _ _ _ nk (by simp[c0]) (ep _ (jq _)) u hu
   cases e with
   |exit id=>cases dP
   |normal=>cases fh<;>first|exact eL.elim|exact go (λ_ h=>by cases h) _ trivial
   |ret=>cases fh<;>first|exact eL.elim|exact go (λ_ h=>by cases h) _ trivial
   |panic v=>cases fh<;>first|exact eL.elim|exact go (λ_ h=>by cases h) _ eL
end
def wpListS(F:Fence)(n:Nat)(P:Program)(ops:Array Oper)(Q:Exit->Act->List Frame->World->Prop):List Oper->Act->List Frame->World->Prop
 |[],a,cs,w=>Q .normal a cs w
 |o::rest,a,cs,w=>
   (∀f,o.about P w a.eval=some f->F.fn f)∧
   if Region.wanted o (yielded ops a.tmps) then
    match(execOp a.eval o).run P w with
    | .ok .recover av=>
     match recoverD cs with
     |some (v,eQ)=>wpListS F n P ops Q rest (a.put o.dst v) eQ av
     |none=>wpListS F n P ops Q rest (a.put o.dst .nilIface) cs av
    | .ok (.value v) av=>wpListS F n P ops Q rest (a.put o.dst v) cs av
    | .ok .skip av=>wpListS F n P ops Q rest (a.put o.dst undef) cs av
    | .halt (.panic v) av=>Q (.panic [{v,recovered:=false}]) a cs av
    |_=>False
   else wpListS F n P ops Q rest (a.put o.dst undef) cs w
theorem a5a{F:Fence}{n:Nat}{P:Program}{ops:Array Oper}{Q:Exit->Act->List Frame->World->Prop}(l:List Oper):∀k,(∀j,l[j]? =ops[k+j]?)->∀a cs w,wpListS F n P ops Q l a cs w->wpOpsSIn F n P ops Q (List.range' k l.length) a cs w:=by
 induction l with
 |nil=>intro k _ a cs w h;simpa [wpOpsSIn,wpListS] using h
 |cons o l aD=>
  intro k h a cs w hh;have h0:ops[k]? =some o:=by simpa using (h 0).symm
  have zL:=aD (k+1) (λj=>by have:=h (j+1);simpa [Nat.add_assoc,Nat.add_comm 1 j] using this);simp only[List.length_cons,List.range'_succ,wpOpsSIn,h0];simp only[wpListS] at hh;refine⟨hh.1,?_⟩;have hh:=hh.2;split at hh
  ·rename_i hw;rw[if_pos hw];split at hh
   ·rename_i ak;simp only[ak];split at hh
    ·rename_i zM;simp only[zM];exact zL _ _ _ hh
    ·rename_i zM;simp only[zM];exact zL _ _ _ hh
   ·rename_i ak;simp only[ak];exact zL _ _ _ hh
   ·rename_i ak;simp only[ak];exact zL _ _ _ hh
   ·rename_i ak;simp only[ak];exact hh
   ·exact hh.elim
  ·rename_i hw;rw[if_neg hw];exact zL _ _ _ hh
theorem a5b{F:Fence}{n:Nat}{P:Program}{id:Nat}{ops:Array Oper}{Q:Exit->Act->List Frame->World->Prop}{a:Act}{cs:List Frame}{w:World}(h:wpListS F n P ops Q ops.toList a cs w):(Code.region id ops false).wpSIn F n P Q a cs w:=
 wpSIn_region (by rw[List.range_eq_range',← Array.length_toList];exact a5a _ 0 (by simp) _ _ _ h)
def zN:FrameMode->FrameMode
 | .panicking [{v,..}]=>.panicking [{v,recovered:=true}]
 |u=>u
section
variable {P:Program}{env:Env}{B:Nat}
def tg(kE:Frame)(cs:List Frame)(u:FrameMode)(fi:Bool)(eQ:List Frame):Prop:=eQ={kE with mode:=if fi then zN u else u}::cs
theorem a5c{o:Oper}(h:cop P o=some .recover)(a:Act)(w:World):(execOp a.eval o).run P w= .ok .recover w:=by
 unfold cop at h;split at h
 all_goals first
  |(cases h;done)
  |(simp only[Option.map_eq_some_iff,reduceCtorEq,and_false,exists_false] at h;done)
  |(simp only[Option.bind_eq_bind,Option.bind_eq_some_iff,Option.pure_def,Option.some.injEq,reduceCtorEq,and_false,exists_false] at h;done)
  |skip
 all_goals first
  |(
    rename_i ho;split at h
    all_goals first
     |(cases h;done)
     |(rw[C1 ho];simp[builtin];done)
     |(
      exfalso
      repeat' first
       |(cases h;done)
       |(simp only[Option.map_eq_some_iff,reduceCtorEq,and_false,exists_false] at h;done)
       |(simp only[Option.bind_eq_bind,Option.bind_eq_some_iff,Option.pure_def,Option.some.injEq,reduceCtorEq,and_false,exists_false] at h;done)
       |split at h
       |(obtain⟨_,_,h⟩:=h)
       |(simp only[Option.bind_eq_bind,Option.bind_eq_some_iff,Option.pure_def,Option.some.injEq] at h)))
  |(
    exfalso
    repeat' first
     |(cases h;done)
     |(simp only[Option.map_eq_some_iff,reduceCtorEq,and_false,exists_false] at h;done)
     |(simp only[Option.bind_eq_bind,Option.bind_eq_some_iff,Option.pure_def,Option.some.injEq,reduceCtorEq,and_false,exists_false] at h;done)
     |split at h
     |(obtain⟨_,_,h⟩:=h)
     |(simp only[Option.bind_eq_bind,Option.bind_eq_some_iff,Option.pure_def,Option.some.injEq] at h))
theorem Qi{f:Nat}{p:Option AV}{u:FrameMode}{kE:Frame}{cs:List Frame}{ops:Array Oper}{k:Nat}:
  ∀(ol:List Oper) (cC:List aY) (ab a9:Fr) (J af:ad) (e:fa) (a:Act) (w:World) (m:Nat->Option Nat) (hI:List Frame),mapOL (coper P ops) ol=some cC→
   pd env f (λ_ _ _=>none) (some (p.getD .eO)) false cC ab J=some (e,a9,af)->ew P env ab a J w m B->mP w m (bj J m) B p u->tg kE cs u ab.fi hI→
   ∀Q:Exit->Act->List Frame->World->Prop,(∀x cn eQ av aP,ExR av aP (bj af aP) B e x->ew P env a9 cn af av aP B->Ext f J w m af av aP->tg kE cs u a9.fi eQ->Q x cn eQ av)->wpListS (eS none) k P ops Q ol a hI w
 |[],cC,ab,a9,J,af,e,a,w,m,hI,hm,h,st,hu,hd,Q,b0=>by
  simp[mapOL] at hm;subst hm;rw[a4C] at h;cases h;exact b0 .normal a hI w m trivial st (Ext.refl _ _ _ _) hd
 |o::ol,cC,ab,a9,J,af,e,a,w,m,hI,hm,h,st,hu,hd,Q,b0=>by
  rw[mapOL] at hm;split at hm<;>cases hm;rename_i aU zG ho oc;obtain⟨dK,h7⟩:=C6 ho;rw[runOpsD_cons] at h;rw[wpListS,C4 ho st.ctx.a_];refine⟨λ_ _=>trivial,?_⟩;have next:∀ {dw:Fr} {a3:Act} {bP:ad} {bR:World} {cS:Nat->Option Nat} {pA:List Frame},pd env f (λ_ _ _=>none) (some (p.getD .eO)) false zG dw bP=some (e,a9,af)->ew P env dw a3 bP bR cS B->Ext f J w m bP bR cS->tg kE cs u dw.fi pA->wpListS (eS none) k P ops Q ol a3 pA bR:=
   λ{dw a3 bP bR cS pA} h1 gm dh jD=>Qi ol zG dw a9 bP af e a3 bR cS pA oc h1 gm (hu.ext dh st.ctx.rel) jD Q (λx cn eQ av aP hx cA hex=>b0 x cn eQ av aP hx cA (dh.trans st.ctx.rel hex))
  have xj:∀(ab:Fr) d v,(ab.put d v).fi=ab.fi:=λab d v=>by cases d<;>rfl
  cases hw:wantedA aU.guard ab.a_ with
  |false=>
   rw[hw,cond_false] at h;simp only[Bool.false_eq_true,if_false];refine next h ?_ (Ext.refl _ _ _ _) (by rw[xj];exact hd)
   rw[h7];exact st.put _ R.undef
  |true=>
   rw[hw,cond_true] at h;simp only[if_true];split at h
   ·-- recover
    rename_i zM;simp only at h;have b2:=a5c (P:=P) (zF (dK.symm.trans zM) (by simp)) a w;rw[b2];simp only;unfold tg at hd;subst hd;have IP:ew P env ⟨ab.a_,ab.defers,true⟩ a J w m B:=⟨st.ctx,st.defs⟩
    cases ak:ab.fi with
    |true=>
     rw[ak] at h;have rL:recoverD ({kE with mode:=if true=true then zN u else u}::cs)=none:=by
      cases p<;>cases u<;>first|exact hu.elim|rfl|(obtain⟨lB,rfl,_⟩:=hu;rfl)
     rw[rL];simp only;have nz:=IP.put aU.dst (v:=.eO) (u:=.nilIface) R.eO;rw[h7] at nz h;exact next h nz (Ext.refl _ _ _ _) (by rw[xj];rfl)
    |false=>
     rw[ak] at h;cases p with
     |none=>
      cases u<;>try exact hu.elim
      have rL:recoverD ({kE with mode:=if false=true then zN .returning else .returning}::cs)=none:=rfl;rw[rL];simp only;have nz:=IP.put aU.dst (v:=.eO) (u:=.nilIface) R.eO;rw[h7] at nz h;exact next h nz (Ext.refl _ _ _ _) (by rw[xj];rfl)
     |some v=>
      cases u<;>try exact hu.elim
      obtain⟨lB,rfl,iC⟩:=hu;have Ia:recoverD ({kE with mode:=if false=true then zN (.panicking [{v:=lB,recovered:=false}]) else .panicking [{v:=lB,recovered:=false}]}::cs)=some (lB,{kE with mode:=.panicking [{v:=lB,recovered:=true}]}::cs):=rfl;rw[Ia];simp only;have nz:=IP.put aU.dst iC;rw[h7] at nz h;exact next h nz (Ext.refl _ _ _ _) (by rw[xj];rfl)
   ·rename_i op a5;generalize IB:aU.op=cl at h dK;have aa:∀res,opx f (evalA env ab.a_) J cl=some res->cop P o=some cl:=λres c0=>zF dK.symm (λhb=>by subst hb;simp[opx] at c0);split at h
    ·rename_i v bP hx;obtain⟨tf,bR,cS,b2,hR,l_,dh⟩:=xd st.ctx (aa _ hx) hx;have cA:=(st.ext dh l_).put aU.dst hR;rw[h7] at cA h;rcases b2 with b2|⟨b2,rfl⟩
     ·rw[b2];exact next h cA dh (by rw[xj];exact hd)
     ·rw[b2];exact next h cA dh (by rw[xj];exact hd)
    ·cases h
    ·simp at h
    ·rename_i v hx;cases h;obtain⟨x,t,lB,rfl,ou,rfl⟩:=P_ hx;obtain⟨ov,IE,te⟩:=P8 (aa _ hx);have px:=st.ctx.aq IE ou;obtain⟨b4,qy⟩:∃b4,a.eval ov= .iface t b4:=by
      revert px;generalize a.eval ov=lB;intro px;cases px;exact⟨_,rfl⟩
     have b2:=P9 (P:=P) te qy w;rw[b2];rw[qy] at px;exact b0 _ _ _ _ m ⟨_,rfl,px⟩ st (Ext.refl _ _ _ _) hd
    ·cases h
    ·cases h
theorem runD_ok{f:Nat}{p:Option AV}{u:FrameMode}{kE:Frame}{cs:List Frame}{k:Nat}:
  ∀(c:Code) (ac:bF) (ab a9:Fr) (J af:ad) (e:fa) (a:Act) (w:World) (m:Nat->Option Nat) (hI:List Frame),ccode P c=some ac→
   sW env f (p.getD .eO) ac ab J=some (e,a9,af)->ew P env ab a J w m B->mP w m (bj J m) B p u->tg kE cs u ab.fi hI→
   ∀Q:Exit->Act->List Frame->World->Prop,(∀x cn eQ av aP,ExR av aP (bj af aP) B e x->ew P env a9 cn af av aP B->Ext f J w m af av aP->tg kE cs u a9.fi eQ->Q x cn eQ av)->c.wpSIn (eS none) k P Q a hI w:=by
 intro c
 induction c with
 |skip=>
  intro ac ab a9 J af e a w m hI aa h st hu hd Q b0;simp only[ccode,Option.some.injEq] at aa;subst aa;have h':some (fa.normal,ab,J)=some (e,a9,af):=h;cases h';exact wpSIn_of_wpIn I (wpIn_skip (b0 .normal a hI w m trivial st (Ext.refl _ _ _ _) hd))
 |ret=>
  intro ac ab a9 J af e a w m hI aa h st hu hd Q b0;simp only[ccode,Option.some.injEq] at aa;subst aa;have h':some (fa.ret,ab,J)=some (e,a9,af):=h;cases h';exact wpSIn_of_wpIn I (wpIn_ret (b0 .ret a hI w m trivial st (Ext.refl _ _ _ _) hd))
 |label l=>
  intro ac ab a9 J af e a w m hI aa h st hu hd Q b0;simp only[ccode,Option.some.injEq] at aa;subst aa;have h':some (fa.normal,ab,J)=some (e,a9,af):=h;cases h';exact wpSIn_of_wpIn I (wpIn_label (b0 .normal a hI w m trivial st (Ext.refl _ _ _ _) hd))
 |region id ops dc=>
  intro ac ab a9 J af e a w m hI aa h st hu hd Q b0;cases dc with
  |true=>
   simp only[ccode] at aa;split at aa<;>cases aa<;>(have h':none=some (e,a9,af):=h;cases h')
  |false=>
   simp only[ccode] at aa;split at aa<;>cases aa
   ·rename_i l hl;have h':pd env f (λ_ _ _=>none) (some (p.getD .eO)) false l ab J=some (e,a9,af):=h;exact a5b (Qi _ _ _ _ _ _ _ _ _ _ _ hl h' st hu hd Q b0)
   ·have h':none=some (e,a9,af):=h;cases h'
 |seq x y C7 C8=>
  intro ac ab a9 J af e a w m hI aa h st hu hd Q b0;simp only[ccode] at aa;split at aa<;>cases aa;rename_i bC eh hx hy;have h':(match sW env f (p.getD .eO) bC ab J with|some (.normal,ab,J)=>sW env f (p.getD .eO) eh ab J|r=>r)=some (e,a9,af):=h;refine wpSIn_seq ?_;cases r0:sW env f (p.getD .eO) bC ab J with
  |none=>simp[r0] at h'
  |some res=>
   obtain⟨aN,dw,bP⟩:=res;simp only[r0] at h';refine C7 bC ab dw J bP aN a w m hI hx r0 st hu hd _ (λfh a3 pA bR cS eL fc gn jD=>?_);cases aN with
   |normal=>
    cases fh<;>try exact eL.elim
    exact C8 eh dw a9 bP af e a3 bR cS pA hy h' fc (hu.ext gn st.ctx.rel) jD Q (λx cn eQ av aP h1 h2 h3 aQ=>b0 x cn eQ av aP h1 h2 (gn.trans st.ctx.rel h3) aQ)
   |exit id=>cases h';cases fh<;>first|exact eL.elim|exact b0 _ a3 pA bR cS eL fc gn jD
   |ret=>cases h';cases fh<;>first|exact eL.elim|exact b0 _ a3 pA bR cS eL fc gn jD
   |panic v=>cases h';cases fh<;>first|exact eL.elim|exact b0 _ a3 pA bR cS eL fc gn jD
 |cond t x y C7 C8=>
  intro ac ab a9 J af e a w m hI aa h st hu hd Q b0;simp only[ccode] at aa;split at aa<;>cases aa;rename_i at' bC eh ht hx hy;have h':(match evalA env ab.a_ at' with|some (.b t)=>cond t (sW env f (p.getD .eO) bC ab J) (sW env f (p.getD .eO) eh ab J)|_=>none)=some (e,a9,af):=h;split at h'<;>try (cases h';done)
  rename_i gM IF;have IG:=(st.ctx.aq ht IF).sY;refine wpSIn_cond IG ?_;cases gM with
  |true=>exact C7 bC ab a9 J af e a w m hI hx h' st hu hd Q b0
  |false=>exact C8 eh ab a9 J af e a w m hI hy h' st hu hd Q b0
 |block id x aD=>
  intro ac ab a9 J af e a w m hI aa h st hu hd Q b0;simp only[ccode] at aa;split at aa<;>cases aa;have h':none=some (e,a9,af):=h;cases h'
 |loop x aD=>
  intro ac ab a9 J af e a w m hI aa h st hu hd Q b0;simp only[ccode] at aa;split at aa<;>cases aa;have h':none=some (e,a9,af):=h;cases h'
 |scope x aD=>
  intro ac ab a9 J af e a w m hI aa h st hu hd Q b0;simp only[ccode] at aa;split at aa<;>cases aa;have h':none=some (e,a9,af):=h;cases h'
 |rangeFunc g aC x y C7 C8=>
  intro ac ab a9 J af e a w m hI aa h st hu hd Q b0;simp only[ccode] at aa;split at aa<;>cases aa;have h':none=some (e,a9,af):=h;cases h'
 |exit id=>
  intro ac ab a9 J af e a w m hI aa h st hu hd Q b0;simp only[ccode,Option.some.injEq] at aa;subst aa;have h':none=some (e,a9,af):=h;cases h'
 |goto l=>
  intro ac ab a9 J af e a w m hI aa h st hu hd Q b0;simp only[ccode,Option.some.injEq] at aa;subst aa;have h':none=some (e,a9,af):=h;cases h'
 |refuse l=>
  intro ac ab a9 J af e a w m hI aa h st hu hd Q b0;simp only[ccode,Option.some.injEq] at aa;subst aa;have h':none=some (e,a9,af):=h;cases h'
theorem a5d{J:ad}{w:World}{m:Nat->Option Nat}{O:Nat->Prop}{p:Option AV}{u:FrameMode}(h:mP w m O B p u)(r:Bool):mP w m O B (cond r none p) (settle (if r then zN u else u)):=by
 cases p with
 |none=>cases u<;>first|exact h.elim|(cases r<;>trivial)
 |some v=>
  cases u<;>try exact h.elim
  obtain⟨lB,rfl,hR⟩:=h;cases r with
  |true=>trivial
  |false=>exact⟨lB,rfl,hR⟩
theorem IQ(fO:qI P env)(f:Nat):II P env B f (callD env f):=by
 intro cd args p J r af h k w m u d ak cZ hu hd;obtain⟨g,a2,cs,fT,eQ,us,rfl,rfl,IS,IT,kf⟩:=hd;unfold callD at h;simp only at h;split at h<;>try (cases h;done)
 rename_i b1 hg;obtain⟨fn,hfn,g4,ve⟩:=fO.funcs g b1 hg;obtain⟨rs,c,ac,r1,vf,fP,rfl⟩:=IH g4;simp only at h;cases hb:(Nat.beq (a2++args++cs).length (fn.params.size+fn.nfree)&&Nat.ble (a2++args++cs).length fn.ntmps) with
 |false=>rw[hb] at h;cases h
 |true=>
  rw[hb,cond_true] at h;simp only[Bool.and_eq_true,Nat.ble_eq] at hb;have hinv:=IL (P:=P) hfn vf ve eQ (fT++us) w;have nw:bz w m (bj J m) B (a2++args++cs) (fT++us++eQ).toList:=by
   simp only[Array.toList_append];exact(IS.append kf).append IT
  have cA:=Qh (fn:=fn) (b1:={jg:=fn.params.size+fn.nfree,ntmps:=fn.ntmps,results:=rs,body:=some ac}) I ak cZ hb.2 nw;refine⟨_,_,g,_,rfl,hinv,?_⟩;refine callsDIn_of_wpSIn hfn vf trivial (λkE mQ a5e=>?_);have mc:tg kE mQ u false (kE::mQ):=by
   unfold tg;simp only[Bool.false_eq_true,if_false];rw[<-a5e]
  have fin:∀(e:fa) (dw:Fr) (bP:ad),sW env f (p.getD .eO) ac (rH {jg:=fn.params.size+fn.nfree,ntmps:=fn.ntmps,results:=rs,body:=some ac} (a2++args++cs)) J=some (e,dw,bP)->(e= .normal\/e= .ret)->dw.defers=[]->(∃v,resultsOf bP dw.a_ rs=some v)->r=dw.fi->af=bP→
    c.wpSIn (eS none) k P (bodyPostS P fn kE mQ (λe b4 av=>(∃v,e= .returned v)/\∃aP,mP av aP (bj af aP) B (cond r none p) (settle b4)/\Rel P af av aP B/\Ext f J w m af av aP)) {tmps:=fT++us++eQ++Array.replicate (fn.ntmps-(fT++us++eQ).size) undef,defers:=[]} (kE::mQ) w:=by
   rintro e dw bP b2 he a5f ⟨v,c0⟩ rfl rfl;refine runD_ok c ac _ dw J af e _ w m _ fP b2 cA hu mc _ (λx a3 pA bR cS eL fc gn jD=>?_);have zO:a3.defers=[]:=by
    have:=fc.defs;rw[a5f] at this;cases aS:a3.defers with
    |nil=>rfl
    |cons _ _=>rw[aS] at this;exact this.elim
   obtain⟨tf,iC,_⟩:=Qe (fn:=fn) fc.ctx.rel fc.ctx.a_ r1 c0;have Qj:a3.defers=[]/\∃b4,pA={kE with mode:=b4}::mQ/\∃v,(results fn a3.tmps).run P bR= .ok v bR/\((∃bA,Ending.returned v= .returned bA)/\∃aP,mP bR aP (bj af aP) B (cond dw.fi none p) (settle b4)/\Rel P af bR aP B/\Ext f J w m af bR aP):=
    ⟨zO,_,jD,tf,iC,⟨tf,rfl⟩,cS,a5d (J:=af) (hu.ext gn ak) dw.fi,fc.ctx.rel,gn⟩
   rcases he with rfl|rfl
   ·cases x<;>first|exact eL.elim|exact Qj
   ·cases x<;>first|exact eL.elim|exact Qj
  split at h<;>try (cases h;done)
  ·rename_i dw bP b2;split at h<;>cases h;rename_i jD c0;exact fin .normal dw af b2 (.inl I) jD ⟨_,c0⟩ I I
  ·rename_i dw bP b2;split at h<;>cases h;rename_i jD c0;exact fin .ret dw af b2 (.inr I) jD ⟨_,c0⟩ I I
end
theorem Qk{w:World}{b n:Nat}(h:dV w b=some n):b<w.heap.size:=by
 rcases Nat.lt_or_ge b w.heap.size with h1|h1
 ·exact h1
 ·simp[dV,Array.getElem?_eq_none h1] at h
theorem Ql(J:ad)(base:Nat)(v:AV):freeze J base 0 v=none:=rfl
theorem freeze_succ(J:ad)(base n:Nat)(v:AV):freeze J base (n+1) v=match v with
  | .al id off len U cap=>if Nat.blt id base then none else
   match readList J (.al id off len U cap) with
   |none=>none
   |some xs=>match mapO (freeze J base n) xs with|none=>none|some xs=>some (.a7 false U xs)
  | .ag l=>match mapO (freeze J base n) l with|none=>none|some l=>some (.ag l)
  | .a6 l=>match mapO (freeze J base n) l with|none=>none|some l=>some (.a6 l)
  | .it t v=>match freeze J base n v with|none=>none|some v=>some (.it t v)
  | .p (some _)=>none
  | .m (some _)=>none
  | .f _ _ _=>none
  |v=>some v:=rfl
theorem Qm{J:ad}{base:Nat}{U:Option Nat}:∀ {n:Nat} {v bA:AV},freeze J base n v=some bA->conf U v=true->conf U bA=true
 |0,v,bA,h,_=>by rw[Ql] at h;cases h
 |n+1,v,bA,h,aa=>by
  rw[freeze_succ] at h;split at h
  ·split at h<;>try (cases h;done)
   split at h<;>try (cases h;done)
   split at h<;>cases h;cases U<;>simp[conf] at aa ⊢
  ·split at h<;>cases h;rename_i l cf hl;have:=(mG hl).1;cases U with
   |none=>simp[conf] at aa
   |some k=>simp[conf] at aa ⊢;omega
  ·split at h<;>cases h;cases U<;>simp[conf] at aa
  ·split at h<;>cases h;cases U<;>simp[conf] at aa ⊢
  ·cases h
  ·cases h
  ·cases h
  ·cases h;exact aa
section
variable {P:Program}{J:ad}{w:World}{m:Nat->Option Nat}{B:Nat}
theorem R.Qn{O:Nat->Prop}{v:AV}{U:Option Nat}(aa:conf U v=true){us:List Value}(h:bz w m O B v.cells us)(hf:∀x∈v.cells,conf none x=true):∃u,R w m O B v u/\u.cells.toList=us:=by
 cases U with
 |none=>
  have au:v.cells=[v]:=by cases v<;>simp[conf] at aa<;>rfl
  rw[au] at h;have hl:us.length=1:=h.1;obtain⟨u,rfl⟩:∃u,us=[u]:=by cases us with|nil=>simp at hl|cons u t=>cases t with|nil=>exact⟨u,rfl⟩|cons _ _=>simp at hl
  have ak:=h.2 0 (by simp) (by simp);simp at ak;refine⟨u,ak,?_⟩;have:=ak.cells;cases ak with
  |y h=>rcases h.alt with⟨_,_,rfl⟩|⟨_,rfl⟩<;>rfl
  |fs hu h=>subst hu;rfl
  |_=>first|rfl|(simp[conf] at aa)
 |some n=>
  cases v<;>simp[conf] at aa;rename_i l;exact⟨.agg us.toArray,R.uR h hf,by simp[Value.cells]⟩
theorem IU{cT:ad}{eK:World}{er:Nat->Option Nat}(ny:Rel P cT eK er B)(ak:Rel P J w m B)(he:Ext cT.next cT eK er J w m):
  ∀(n:Nat) (v bA:AV) (u:Value),freeze J cT.next n v=some bA->R w m (bj J m) B v u->R w (λ_=>none) (bj cT er) B bA u
 |0,v,bA,u,h,_=>by rw[Ql] at h;cases h
 |n+1,v,bA,u,h,au=>by
  have cb:∀aB,bj cT er aB->bj J m aB:=λaB ⟨id,h1,o,h2,h3⟩=>⟨id,he.mono _ _ h1,o,by rw[he.low id (ny.fk _ _ h1).2 (ny.fk _ _ h1).2];exact h2,h3⟩
  have aD:=λv bA u h au=>IU ny ak he n v bA u h au;have iq:∀ {v:AV} {u:Value},R w (λ_=>none) (bj J m) B v u->R w (λ_=>none) (bj cT er) B v u:=λh=>h.mono (λ_ _ h=>h) (Nat.le_refl _) (λ_ _ h=>h) (λb _ hb=>⟨rfl,λho=>hb (cb b ho)⟩);have list:∀ {l cf:List AV} {us:List Value},mapO (freeze J cT.next n) l=some cf->bz w m (bj J m) B l us->bz w (λ_=>none) (bj cT er) B cf us:=λ{l cf us} hl kf=>by
   obtain⟨h1,h2⟩:=mG hl;refine⟨by rw[kf.1,h1],λi hi cY=>?_⟩;exact aD _ _ _ (h2 i (by omega) hi) (kf.2 i (by omega) cY)
  rw[freeze_succ] at h;split at h
  ·-- a slice over rF b8Y own part
   rename_i id off len U cap;split at h<;>try (cases h;done)
   rename_i CX;split at h<;>try (cases h;done)
   rename_i xs dg;split at h<;>cases h;rename_i nA vg;have b8Z:cT.next<=id:=by simpa [Nat.blt_eq] using CX
   have rW:∀a∈xs,conf U a=true:=by
    simp only[readList] at dg;split at dg<;>try (cases dg;done)
    rename_i c hg;cases au with
    |al hm hl fV hn kV=>
     obtain⟨arr,el,bn,hh,l2,rN,bg,jA⟩:=ak.cells hm hg;exact(wZ (λx hx=>jA x (List.mem_of_mem_drop hx)) dg).2.2.2
   have hlen:xs.length=len:=by
    simp only[readList] at dg;split at dg<;>try (cases dg;done)
    rename_i c hg;cases au with
    |al hm hl fV hn kV=>
     obtain⟨arr,el,bn,hh,l2,rN,bg,jA⟩:=ak.cells hm hg;exact(wZ (λx hx=>jA x (List.mem_of_mem_drop hx)) dg).1
   obtain⟨h1,h2⟩:=mG vg;obtain⟨base,c,us,hu,hle,w2,w9,jl,lZ⟩:=zp ak au dg rW;cases au with
   | @al _ _ _ _ _ _ aB hq fo _ _ hm hl fV hn kV=>
    cases hu;simp only at lZ;have kv:¬bj cT er aB/\B<=aB:=by
     refine⟨λho=>?_,ak.base _ _ hm⟩;rcases he.new _ _ hm with h3|⟨_,h3|⟨i,hi,aQ,bJ⟩⟩
     ·have:=(ny.fk _ _ h3).2;omega
     ·have:=ny.OQ ho;omega
     ·have:=OR bJ;omega
    have hmul:∀i,i<xs.length->i*shN U+shN U<=xs.length*shN U:=λi hi=>by
     have:=Nat.mul_le_mul_right (shN U) (show i+1<=xs.length from hi);rw[Nat.add_mul,Nat.one_mul] at this;exact this
    have w0:∀(l:List AV),(∀a∈l,conf U a=true)->∀i (hi:i<l.length),(l[i]).cells=((l.flatMap AV.cells).drop (i*shN U)).take (shN U):=by
     intro l
     induction l with
     |nil=>intro _ i hi;simp at hi
     |cons x l fY=>
      intro hl i hi;have hx:=rR (hl x (by simp));cases i with
      |zero=>simp[List.flatMap_cons,hx]
      |succ i=>
       have:=fY (λa ha=>hl a (by simp[ha])) i (by simpa using hi);rw[List.getElem_cons_succ,this,List.flatMap_cons,List.drop_append];have aN:(i+1)*shN U-x.cells.length=i*shN U:=by rw[hx,Nat.add_mul,Nat.one_mul];omega
       have a4:x.cells.drop ((i+1)*shN U)=[]:=List.drop_eq_nil_of_le (by rw[hx,Nat.add_mul,Nat.one_mul];omega);rw[aN,a4,List.nil_append]
    have elem:∀i (hi:i<xs.length) (cY:i<nA.length),bz w (λ_=>none) (bj cT er) B (nA[i]).cells ((us.drop (i*shN U)).take (shN U))/\conf U (nA[i])=true/\∀x∈(nA[i]).cells,conf none x=true:=λi hi cY=>by
     have th:=rW _ (List.getElem_mem hi);have ki:∀x∈(xs[i]).cells,conf none x=true:=λx hx=>jl x (List.mem_flatMap.2 ⟨_,List.getElem_mem hi,hx⟩);have IV:bz w m (bj J m) B (xs[i]).cells ((us.drop (i*shN U)).take (shN U)):=by
      rw[w0 xs rW i hi];exact(w2.drop _).take _
     obtain⟨a5g,IW,IX⟩:=R.Qn th IV ki;have bq:=aD _ _ _ (h2 i hi cY) IW;have gY:=Qm (h2 i hi cY) th;have:=bq.cells;rw[IX] at this;exact⟨this,gY,bq.leafs gY⟩
    have ep:∀i,i<nA.length->∀j,j<shN U->∃aA:i*shN U+j<us.length,((us.drop (i*shN U)).take (shN U))[j]? =some (us[i*shN U+j]):=λi hi j aA=>by
     have:=hmul i (by omega);refine⟨by omega,?_⟩;rw[List.getElem?_take_of_lt aA,List.getElem?_drop,List.getElem?_eq_getElem (by omega)]
    rw[<-h1];refine .a7 (λi j=>(us[i*shN U+j]?).getD undef) (λ_=>⟨kv.1,Qk hn,λ_=>kv.2⟩) (λi hi=>(elem i (by omega) hi).2.1) (λi hi j aA=>?_) (λi hi j aA=>?_) (by omega) (λv au=>?_) (λ_=>rfl)
    ·have eR:j<shN U:=by rw[rR (elem i (by omega) hi).2.1] at aA;exact aA
     obtain⟨hlt,_⟩:=ep i hi j eR;have:=lZ.2.1 (i*shN U+j) _ (List.getElem?_eq_getElem hlt);rw[jZ,← Nat.add_assoc] at this;rw[this,List.getElem?_eq_getElem hlt];rfl
    ·have eR:j<shN U:=by rw[rR (elem i (by omega) hi).2.1] at aA;exact aA
     obtain⟨hlt,k1⟩:=ep i hi j eR;obtain⟨a5h,zP,IY⟩:=(elem i (by omega) hi).1.get (List.getElem?_eq_getElem aA);rw[k1] at zP;cases zP;rw[List.getElem?_eq_getElem hlt];exact IY
    ·obtain⟨i,hi,rfl⟩:=List.getElem_of_mem au;exact(elem i (by omega) hi).2.2
  ·split at h<;>cases h;rename_i l cf hl;obtain⟨bf,rfl,lY,jl⟩:=au.n_;refine R.uR (list hl lY) (λx hx=>?_) |> λh=>by simpa using h
   obtain⟨i,hi,rfl⟩:=List.getElem_of_mem hx;have:=mG hl;exact Qm (this.2 i (by omega) hi) (jl _ (List.getElem_mem _))
  ·split at h<;>cases h;rename_i l cf hl;obtain⟨bf,rfl,lY⟩:=au.HP;have:=R.rM (list hl lY);simpa using this
  ·split at h<;>cases h;rename_i xk;cases au with
   |it h=>exact .it (aD _ _ _ xk h)
  ·cases h
  ·cases h
  ·cases h
  ·rename_i hp gX np qJ C9 Qo Qp;cases h;cases au with
   |b x=>exact .b x
   |i k n=>exact .i k n
   |s l h=>exact .s l h
   |n8=>exact .n8
   |p h=>exact absurd I (C9 _)
   |df a8 h1 hb bV aa hj hf=>exact .df a8 (λho=>h1 (cb _ ho)) hb bV aa (λj aA=>iq (hj j aA)) hf
   |ae=>exact .ae
   |al=>exact absurd I (hp _ _ _ _ _)
   |kb=>exact .kb
   |a7 a8 h1 ao aa hj hl hf eP=>exact .a7 a8 (λa5=>⟨λho=>(h1 a5).1 (cb _ ho),(h1 a5).2⟩) ao aa (λi hi j aA=>iq (hj i hi j aA)) hl hf eP
   |pf=>exact .pf
   |mp h=>exact absurd I (Qo _)
   |ct=>exact absurd I (Qp _ _ _)
   |rJ=>exact absurd I (Qp _ _ _)
   |dA=>exact .dA
   |it h=>exact absurd I (qJ _ _)
   |eO=>exact .eO
   |ag=>exact absurd I (gX _)
   |a6=>exact absurd I (np _)
   |gk h hn=>exact .gk h hn
   |gK h=>exact .gK h
   |g1 n h=>exact .g1 n h
   |y h=>exact .y h
   |fs hu h=>exact .fs hu (iq h)
end
section
theorem R.a5i{w:World}{m:Nat->Option Nat}{O:Nat->Prop}{B dW:Nat}(bV:dW<=B){v:AV}{u:Value}(h:R w m O B v u):R w m O dW v u:=by
 induction h with
 |b x=>exact .b x
 |i k n=>exact .i k n
 |s l h=>exact .s l h
 |n8=>exact .n8
 |p h=>exact .p h
 |df a8 cb hb a5j aa ak hf aD=>exact .df a8 cb hb (λh=>Nat.le_trans bV (a5j h)) aa (λj aA=>aD j aA bV) hf
 |ae=>exact .ae
 |al h hl aa hn kV=>exact .al h hl aa hn kV
 |kb=>exact .kb
 |a7 a8 cb ao aa ak hl hf eP aD=>exact .a7 a8 (λa5=>⟨(cb a5).1,(cb a5).2.1,λh=>Nat.le_trans bV ((cb a5).2.2 h)⟩) ao aa (λi h j aA=>aD i h j aA bV) hl hf eP
 |pf=>exact .pf
 |mp h=>exact .mp h
 |ct hf bq aa qt Hz pg=>exact .ct hf (λi h h'=>Hz i h h' bV) aa (λi h h'=>pg i h h' bV)
 |rJ h=>exact .rJ h
 |dA=>exact .dA
 |it _ aD=>exact .it (aD bV)
 |eO=>exact .eO
 |ag ao _ hf aD=>exact .ag ao (λi h h'=>aD i h h' bV) hf
 |a6 ao _ aD=>exact .a6 ao (λi h h'=>aD i h h' bV)
 |gk h hn=>exact .gk h hn
 |gK h=>exact .gK h
 |g1 n h=>exact .g1 n h
 |y h=>exact .y h
 |fs hu _ aD=>exact .fs hu (aD bV)
variable [TokOk]
section
variable {P:Program}{env:Env}{J:ad}{w:World}{m:Nat->Option Nat}{B f:Nat}
theorem Qq{bP:ad}{bR:World}{cS:Nat->Option Nat}(ak:Rel P J w m B)(he:Ext J.next J w m bP bR cS):Rel P J bR m B/\Ext f J w m J bR m:=by
 have md:∀aB,¬uN J.next J m aB:=λaB ⟨id,h1,h2,h3⟩=>by have:=OR h3;omega
 have dh:Ext f J w m J bR m:=⟨λ_ _ h=>h,λ_ _ h=>.inl h,Nat.le_refl _,he.size,he.bI,λb hb _=>he.aO b hb (md b),λ_ _ _=>rfl,λ_ _ h=>h,he.os,he.tape,he.out,λ_ _ _=>rfl⟩
 refine⟨⟨ak.len,λid aB h=>⟨Nat.lt_of_lt_of_le (ak.fk _ _ h).1 he.size,(ak.fk _ _ h).2⟩,λid aB o h hg hd=>?_,ak.inj,ak.base,Nat.le_trans ak.kY he.size⟩,dh⟩;obtain⟨bH,h1,h2⟩:=ak.obj id aB o h hg hd;exact⟨bH,by rw[he.aO aB (ak.fk _ _ h).1 (md aB)];exact h1,h2.mono dh.mono dh.size dh.bI (dh.qu ak)⟩
def xl(P:Program)(env:Env)(b6:Nat):Prop:=
 ∀g aW r,env.spec g aW=some r->(∃fn c,P.funcs[g]? =some fn/\fn.body=some c/\(fn.name== "runtime.NumGoroutine")=false)∧
  ∀k rd w us,b6<=w.heap.size->Globs env w b6->bz w (λ_=>none) (λ_=>False) w.heap.size aW us.toList→
   CallsIn (eS rd) k P g us w (λe bR=>∃u,e= .returned u/\R bR (λ_=>none) (λb=>b<w.heap.size) w.heap.size r u/\w.heap.size<=bR.heap.size/\(∀b,b<w.heap.size->bR.heap[b]? =w.heap[b]?)/\bR.os=w.os/\bR.tape=w.tape/\bR.output=w.output)
def xm(P:Program)(env:Env):Prop:=
 ∀g,env.ext g≠0->∀args v,extRow (env.ext g) args=some v->∀w m O B us cs,bz w m O B args (us++cs).toList->∃u,(invoke (.fn (.func g) cs) us).run P w= .ok (.value u) w/\R w m O B v u
theorem Qr(J:ad)(v:AV):bG J 0 v=none:=rfl
theorem snapshot_succ(J:ad)(n:Nat)(v:AV):bG J (n+1) v=match v with
  | .al id off len U cap=>
   match readList J (.al id off len U cap) with
   |none=>none
   |some xs=>match mapO (bG J n) xs with|none=>none|some xs=>some (.a7 true U xs)
  | .ae=>some .ae
  | .a7 _ U xs=>match mapO (bG J n) xs with|none=>none|some xs=>some (.a7 true U xs)
  | .ag l=>match mapO (bG J n) l with|none=>none|some l=>some (.ag l)
  | .a6 l=>match mapO (bG J n) l with|none=>none|some l=>some (.a6 l)
  | .it t v=>match bG J n v with|none=>none|some v=>some (.it t v)
  | .p (some _)=>none
  | .m (some _)=>none
  | .df _ _=>none
  | .f _ _ _=>none
  | .fs _ i=>some (.fs true i)
  |v=>some v:=rfl
theorem Qs{U:Option Nat}:∀ {n:Nat} {v bA:AV},bG J n v=some bA->conf U v=true->conf U bA=true
 |0,v,bA,h,_=>by rw[Qr] at h;cases h
 |n+1,v,bA,h,aa=>by
  rw[snapshot_succ] at h;split at h
  ·split at h<;>try (cases h;done)
   split at h<;>cases h;cases U<;>simp[conf] at aa ⊢
  ·cases h;exact aa
  ·split at h<;>cases h;cases U<;>simp[conf] at aa ⊢
  ·split at h<;>cases h;rename_i l cf hl;have:=(mG hl).1;cases U with
   |none=>simp[conf] at aa
   |some k=>simp[conf] at aa ⊢;omega
  ·split at h<;>cases h;cases U<;>simp[conf] at aa
  ·split at h<;>cases h;cases U<;>simp[conf] at aa ⊢
  ·cases h
  ·cases h
  ·cases h
  ·cases h
  ·cases h;cases U<;>simp[conf] at aa ⊢
  ·cases h;exact aa
theorem a5k{U:Option Nat}:∀(l:List AV),(∀a∈l,conf U a=true)->∀i (hi:i<l.length),(l[i]).cells=((l.flatMap AV.cells).drop (i*shN U)).take (shN U):=by
 intro l
 induction l with
 |nil=>intro _ i hi;simp at hi
 |cons x l fY=>
  intro hl i hi;have hx:=rR (hl x (by simp));cases i with
  |zero=>simp[List.flatMap_cons,hx]
  |succ i=>
   have:=fY (λa ha=>hl a (by simp[ha])) i (by simpa using hi);rw[List.getElem_cons_succ,this,List.flatMap_cons,List.drop_append];have aN:(i+1)*shN U-x.cells.length=i*shN U:=by rw[hx,Nat.add_mul,Nat.one_mul];omega
   have a4:x.cells.drop ((i+1)*shN U)=[]:=List.drop_eq_nil_of_le (by rw[hx,Nat.add_mul,Nat.one_mul];omega);rw[aN,a4,List.nil_append]
theorem a5l{O:Nat->Prop}{old:Bool}{U:Option Nat}{aB off c:Nat}{xs:List AV}{us:List Value}(cb:xs≠[]->¬O aB/\aB<w.heap.size/\(old=false->B<=aB))(w9:us.length=xs.length*shN U)
  (lZ:∀j u,us[j]? =some u->w.cell? ⟨aB,off+j,none⟩=some u)
  (elem:∀i (hi:i<xs.length),bz w (λ_=>none) O B (xs[i]).cells ((us.drop (i*shN U)).take (shN U))/\conf U (xs[i])=true/\∀x∈(xs[i]).cells,conf none x=true) (hle:xs.length<=c):
  R w m O B (.a7 old U xs) (.slice (some ⟨aB,off,none⟩) xs.length c):=by
 have hmul:∀i,i<xs.length->i*shN U+shN U<=xs.length*shN U:=λi hi=>by
  have:=Nat.mul_le_mul_right (shN U) (show i+1<=xs.length from hi);rw[Nat.add_mul,Nat.one_mul] at this;exact this
 have ep:∀i,i<xs.length->∀j,j<shN U->∃aA:i*shN U+j<us.length,((us.drop (i*shN U)).take (shN U))[j]? =some (us[i*shN U+j]):=λi hi j aA=>by
  have:=hmul i hi;refine⟨by omega,?_⟩;rw[List.getElem?_take_of_lt aA,List.getElem?_drop,List.getElem?_eq_getElem (by omega)]
 refine .a7 (λi j=>(us[i*shN U+j]?).getD undef) cb (λi hi=>(elem i hi).2.1) (λi hi j aA=>?_) (λi hi j aA=>?_) hle (λv au=>?_) (λ_=>rfl)
 ·have eR:j<shN U:=by rw[rR (elem i hi).2.1] at aA;exact aA
  obtain⟨hlt,_⟩:=ep i hi j eR;have:=lZ (i*shN U+j) _ (List.getElem?_eq_getElem hlt);rw[<-Nat.add_assoc] at this;rw[this,List.getElem?_eq_getElem hlt];rfl
 ·have eR:j<shN U:=by rw[rR (elem i hi).2.1] at aA;exact aA
  obtain⟨hlt,k1⟩:=ep i hi j eR;obtain⟨a5h,zP,IY⟩:=(elem i hi).1.get (List.getElem?_eq_getElem aA);rw[k1] at zP;cases zP;rw[List.getElem?_eq_getElem hlt];exact IY
 ·obtain⟨i,hi,rfl⟩:=List.getElem_of_mem au;exact(elem i hi).2.2
theorem Qt(ak:Rel P J w m B)(dW:Nat):∀(n:Nat) (v bA:AV) (u:Value),bG J n v=some bA->R w m (bj J m) B v u->R w (λ_=>none) (λ_=>False) dW bA u
 |0,v,bA,u,h,_=>by rw[Qr] at h;cases h
 |n+1,v,bA,u,h,au=>by
  have aD:=λv bA u h au=>Qt ak dW n v bA u h au;have list:∀ {l cf:List AV} {us:List Value},mapO (bG J n) l=some cf->bz w m (bj J m) B l us->bz w (λ_=>none) (λ_=>False) dW cf us:=λ{l cf us} hl kf=>by
   obtain⟨h1,h2⟩:=mG hl;refine⟨by rw[kf.1,h1],λi hi cY=>?_⟩;exact aD _ _ _ (h2 i (by omega) hi) (kf.2 i (by omega) cY)
  have slice:∀ {x:AV} {U:Option Nat} {xs nA:List AV},readList J x=some xs->mapO (bG J n) xs=some nA->R w m (bj J m) B x u->(∀a∈xs,conf U a=true)->R w (λ_=>none) (λ_=>False) dW (.a7 true U nA) u:=λ{x U xs nA} dg vg hx rW=>by
   obtain⟨h1,h2⟩:=mG vg;obtain⟨base,c,us,rfl,hle,w2,w9,jl,lZ⟩:=zp ak hx dg rW;cases base with
   |none=>
    obtain⟨rfl,rfl⟩:=lZ;have:nA=[]:=List.eq_nil_of_length_eq_zero (by simpa using h1);subst this;exact .kb
   |some a=>
    obtain⟨aB,off,sp⟩:=a;obtain⟨eP,lZ,hlt⟩:=lZ;by_cases lz:xs=[]
    ·subst lz;have:nA=[]:=List.eq_nil_of_length_eq_zero (by simpa using h1);subst this;exact .a7 (xs:=[]) (λ_ _=>undef) (λh=>absurd I h) (λi h=>by simp at h) (λi h=>by simp at h) (λi h=>by simp at h) (Nat.zero_le _) (λv au=>by simp at au) (λh=>absurd I h)
    obtain rfl:=eP lz;rw[<-h1];refine a5l (us:=us) (λa5=>⟨λh=>h,?_,λh=>by cases h⟩) (by rw[h1];exact w9) (λj u hu=>by have:=lZ j u hu;rw[jZ] at this;exact this) (λi hi=>?_) (by omega)
    ·exact hlt (λhe=>a5 (List.eq_nil_of_length_eq_zero (by rw[h1,he];rfl)))
    ·have r3:i<xs.length:=by omega
     have th:=rW _ (List.getElem_mem r3);have ki:∀x∈(xs[i]).cells,conf none x=true:=λx hx=>jl x (List.mem_flatMap.2 ⟨_,List.getElem_mem r3,hx⟩);have IV:bz w m (bj J m) B (xs[i]).cells ((us.drop (i*shN U)).take (shN U)):=by
      rw[a5k xs rW i r3];exact(w2.drop _).take _
     obtain⟨a5g,IW,IX⟩:=R.Qn th IV ki;have bq:=aD _ _ _ (h2 i r3 hi) IW;have gY:=Qs (h2 i r3 hi) th;have:=bq.cells;rw[IX] at this;exact⟨this,gY,bq.leafs gY⟩
  rw[snapshot_succ] at h;split at h
  ·rename_i id off len U cap;split at h<;>try (cases h;done)
   rename_i xs dg;split at h<;>cases h;rename_i nA vg;refine slice dg vg au ?_;have b9a:=dg;simp only[readList] at dg;split at dg<;>try (cases dg;done)
   rename_i c hg;cases au with
   |al hm hl fV hn kV=>
    obtain⟨arr,el,bn,hh,l2,rN,bg,jA⟩:=ak.cells hm hg;exact(wZ (λx hx=>jA x (List.mem_of_mem_drop hx)) dg).2.2.2
  ·cases h;cases au;exact .ae
  ·rename_i o U xs;split at h<;>cases h;rename_i nA vg;refine slice (x:=.a7 o U xs) I vg au ?_;intro a ha;cases au with
   |kb=>simp at ha
   |a7 a8 cb ao aa hj hl hf eP=>
    obtain⟨i,hi,rfl⟩:=List.getElem_of_mem ha;exact ao i hi
  ·split at h<;>cases h;rename_i l cf hl;obtain⟨bf,rfl,lY,jl⟩:=au.n_;refine R.uR (list hl lY) (λx hx=>?_) |> λh=>by simpa using h
   obtain⟨i,hi,rfl⟩:=List.getElem_of_mem hx;have:=mG hl;exact Qs (this.2 i (by omega) hi) (jl _ (List.getElem_mem _))
  ·split at h<;>cases h;rename_i l cf hl;obtain⟨bf,rfl,lY⟩:=au.HP;have:=R.rM (list hl lY);simpa using this
  ·split at h<;>cases h;rename_i xk;cases au with
   |it h=>exact .it (aD _ _ _ xk h)
  ·cases h
  ·cases h
  ·cases h
  ·cases h
  ·cases h;cases au with
   |fs hu h=>exact .fs hu (TokOk.snap h)
  ·rename_i c1 ea eT fl ir iE kj ti qK Qu a5m;cases h;cases au with
   |b x=>exact .b x
   |i k n=>exact .i k n
   |s l h=>exact .s l h
   |n8=>exact .n8
   |pf=>exact .pf
   |dA=>exact .dA
   |eO=>exact .eO
   |ae=>exact .ae
   |p h=>exact absurd I (kj _)
   |mp h=>exact absurd I (ti _)
   |df=>exact absurd I (qK _ _)
   |ct=>exact absurd I (Qu _ _ _)
   |rJ=>exact absurd I (Qu _ _ _)
   |al=>exact absurd I (c1 _ _ _ _ _)
   |kb=>exact absurd I (eT _ _ _)
   |a7=>exact absurd I (eT _ _ _)
   |it h=>exact absurd I (iE _ _)
   |ag=>exact absurd I (fl _)
   |a6=>exact absurd I (ir _)
   |g1 n h=>exact .g1 n h
   |y h=>exact .y h
   |fs hu h=>exact absurd I (a5m _ _)
   |gk h hn=>exact .gk h hn
   |gK h=>exact .gK h
end
end
end Go.Lyc
end
noncomputable section
namespace Go.Lyc
set_option maxHeartbeats 0
variable [Tok][TokOk]
open Go.RowKit
theorem C_{α:Type}{g:α->α->Bool}(hg:∀x y,g x y=true->x=y):∀(l r:List α),ft g l r=true->l=r
 |[],[],_=>rfl
 |[],_::_,h=>by cases h
 |_::_,[],h=>by cases h
 |x::l,y::r,h=>by
  have h:cond (g x y) (ft g l r) false=true:=h;cases vh:g x y with
  |false=>rw[vh] at h;cases h
  |true=>
   rw[vh,cond_true] at h;rw[hg x y vh,C_ hg l r h]
theorem AV.xn:∀(n:Nat) (x y:AV),AV.eqb n x y=true->x=y
 |0,_,_,h=>by cases h
 |n+1,x,z,h=>by
  have aD:=AV.xn n;have fY:=C_ aD;cases x
  case p a=>
   cases a with
   |none=>
    cases z
    case p b=>
     cases b with
     |none=>rfl
     |some b=>exfalso;revert h;show ¬(false=true);simp
    all_goals (exfalso;revert h;show ¬(false=true);simp)
   |some a=>
    cases z
    case p b=>
     cases b with
     |none=>exfalso;revert h;show ¬(false=true);simp
     |some b=>
      have h:(Nat.beq a.1 b.1&&Nat.beq a.2 b.2)=true:=h;simp only[Bool.and_eq_true,Nat.beq_eq] at h;rw[Prod.ext h.1 h.2]
    all_goals (exfalso;revert h;show ¬(false=true);simp)
  case m a=>
   cases a with
   |none=>
    cases z
    case m b=>
     cases b with
     |none=>rfl
     |some b=>exfalso;revert h;show ¬(false=true);simp
    all_goals (exfalso;revert h;show ¬(false=true);simp)
   |some a=>
    cases z
    case m b=>
     cases b with
     |none=>exfalso;revert h;show ¬(false=true);simp
     |some b=>
      have h:Nat.beq a b=true:=h;rw[Nat.eq_of_beq_eq_true h]
    all_goals (exfalso;revert h;show ¬(false=true);simp)
  all_goals (cases z<;>first
   |rfl
   |(exfalso;revert h;show ¬(false=true);simp;done)
   |skip)
  case b.b a b=>have h:(a==b)=true:=h;simpa using h
  case i.i k a l b=>
   have h:(decide (k=l)&&decide (a=b))=true:=h;simp at h;rw[h.1,h.2]
  case s.s a b=>have h:eqL a b=true:=h;rw[(mI _ _).1 h]
  case df.df rG a cz b=>
   have h:((rG==cz)&&AV.eqb n a b)=true:=h;simp only[Bool.and_eq_true,beq_iff_eq] at h;rw[h.1,aD _ _ h.2]
  case al.al a3 bm cv dU en ec dp dO e1 lV=>
   have h:(Nat.beq a3 ec&&Nat.beq bm dp&&Nat.beq cv dO&&decide (dU=e1)&&decide (en=lV))=true:=h;simp only[Bool.and_eq_true,Nat.beq_eq,decide_eq_true_eq] at h;obtain⟨⟨⟨⟨rfl,rfl⟩,rfl⟩,rfl⟩,rfl⟩:=h;rfl
  case a7.a7 rG a0 a cz sb b=>
   have h:((rG==cz)&&decide (a0=sb)&&ft (AV.eqb n) a b)=true:=h;simp only[Bool.and_eq_true,beq_iff_eq,decide_eq_true_eq] at h;rw[h.1.1,h.1.2,fY _ _ h.2]
  case f.f ay a3 bm fb ec dp=>
   have h:(decide (ay=fb)&&(ft (AV.eqb n) a3 ec&&ft (AV.eqb n) bm dp))=true:=h;simp only[Bool.and_eq_true,decide_eq_true_eq] at h;rw[h.1,fY _ _ h.2.1,fY _ _ h.2.2]
  case it.it t a u b=>
   have h:(Nat.beq t u&&AV.eqb n a b)=true:=h;simp only[Bool.and_eq_true,Nat.beq_eq] at h;rw[h.1,aD _ _ h.2]
  case ag.ag a b=>have h:ft (AV.eqb n) a b=true:=h;rw[fY _ _ h]
  case a6.a6 a b=>have h:ft (AV.eqb n) a b=true:=h;rw[fY _ _ h]
  case gk.gk k a b l c d=>
   have h:(decide (k=l)&&(Nat.beq a c&&Nat.beq b d))=true:=h;simp only[Bool.and_eq_true,Nat.beq_eq,decide_eq_true_eq] at h;rw[h.1,h.2.1,h.2.2]
  case g1.g1 a b=>have h:(a==b)=true:=h;rw[eq_of_beq h]
  case y.y a b=>
   have h:Nat.beq a b=true:=h;rw[Nat.eq_of_beq_eq_true h]
  case fs.fs o a p b=>
   have h:((o==p)&&Nat.beq a b)=true:=h;simp only[Bool.and_eq_true,beq_iff_eq,Nat.beq_eq] at h;rw[h.1,h.2]
  case gK.gK a b=>have h:ft eqL a b=true:=h;rw[C_ (λx y h=>(mI x y).1 h) _ _ h]
theorem Qv{n base:Nat}{l:List (dR×ad)}{v:AV}(h:joinF n base l=some v):∀ret af,(ret,af)∈l->∃v0,ret= .ok v0/\freeze af base n v0=some v:=by
 unfold joinF at h;split at h
 ·cases h
 rename_i x t;split at h
 ·cases h
 rename_i v0 cT;split at h
 ·cases h
 rename_i v1 r4;cases hall:cr (uK n base v1) t with
 |false=>rw[hall] at h;cases h
 |true=>
  rw[hall,cond_true] at h;cases h;intro ret af fq;rcases List.mem_cons.1 fq with he|fq
  ·cases he;exact⟨_,rfl,r4⟩
  ·have:=l3 hall _ fq;cases ret with
   |err w=>cases this
   |ok w=>
    simp only[uK] at this;split at this
    ·rename_i bR mN;exact⟨w,rfl,by rw[mN,AV.xn _ _ _ this]⟩
    ·cases this
section
variable {P:Program}{env:Env}{B:Nat}
theorem Qw(fO:qI P env)(eP:xl P env B){run:hZ}(b2:ow P env B run){f g:Nat}{args:List AV}{J:ad}{iU:List (dR×ad)}(h:callF env run f g args J=some iU)(xo:env.ext g=0)(k:Nat)(r:Option Nat)
  {w:World} {m:Nat->Option Nat} (ak:Rel P J w m B) (cZ:Globs env w B) {us:Array Value} (ha:bz w m (bj J m) B args us.toList):
  (∃fn c,P.funcs[g]? =some fn/\fn.body=some c/\(fn.name== "runtime.NumGoroutine")=false)∧
  CallsIn (eS r) k P g us w (λe av=>∃ret af,(ret,af)∈iU/\∃aP,pw av aP (bj af aP) B ret e/\Rel P af av aP B/\Ext f J w m af av aP):=by
 unfold callF at h;rw[xo] at h;simp only at h;cases ar:env.pure g with
 |false=>
  rw[ar,cond_false] at h;exact IN fO b2 (IQ fO f) h k r ak cZ ha
 |true=>
  rw[ar,cond_true] at h;split at h
  ·-- known
   rename_i v au;cases h;split at au<;>try (cases au;done)
   rename_i aW IZ;obtain⟨hb,aa⟩:=eP g aW v au;refine⟨hb,?_⟩;have a5n:bz w (λ_=>none) (λ_=>False) w.heap.size aW us.toList:=by
    obtain⟨h1,h2⟩:=mG IZ;refine⟨by rw[ha.1,h1],λi hi cY=>?_⟩;exact Qt ak _ env.bn _ _ _ (h2 i (by omega) hi) (ha.2 i (by omega) cY)
   refine CallsIn.mono (aa k r w us ak.kY cZ a5n) (λe bR c0=>?_);obtain⟨u,rfl,hR,cj,CW,ku,nj,kc⟩:=c0;have gl:∀b n,dV w b=some n->dV bR b=some n:=λb n hb=>by
    have:=Qk hb;unfold dV at hb ⊢;rw[CW b this];exact hb
   have he:Ext J.next J w m J bR m:=⟨λ_ _ h=>h,λ_ _ h=>.inl h,Nat.le_refl _,cj,gl,λb hb _=>CW b hb,λ_ _ _=>rfl,λ_ _ h=>h,ku,nj,kc,λ_ _ _=>rfl⟩
   obtain⟨h1,h2⟩:=Qq (f:=f) ak he;refine⟨_,_,List.mem_singleton.2 I,m,?_,h1,h2⟩;have zQ:R bR (λ_=>none) (bj J m) w.heap.size v u:=hR.mono (λ_ _ h=>h) (Nat.le_refl _) (λ_ _ h=>h) (λb _ hb=>⟨rfl,λho=>hb (ak.OQ ho)⟩);exact(zQ.a5i ak.kY).up
  ·-- run,and rF store dropped
   split at h<;>try (cases h;done)
   rename_i l a5o;split at h<;>cases h;rename_i bA hfz;obtain⟨hb,aa⟩:=IN fO b2 (IQ fO J.next) a5o k r ak cZ ha;refine⟨hb,?_⟩;refine CallsIn.mono aa (λe bR c0=>?_);obtain⟨ret,bP,fq,cS,kh,kD,gb⟩:=c0;obtain⟨v,rfl,a5p⟩:=Qv hfz _ _ fq;obtain⟨h1,h2⟩:=Qq (f:=f) ak gb;refine⟨_,_,List.mem_singleton.2 I,m,?_,h1,h2⟩;cases e with
   |returned u=>exact(IU ak kD gb env.bn v bA u a5p kh).up
   |panicked l8=>exact kh.elim
   |outgrown=>exact kh.elim
theorem a5q(fO:qI P env)(eP:xl P env B)(hex:xm P env){run:hZ}(b2:ow P env B run){f g:Nat}{args:List AV}{J:ad}{iU:List (dR×ad)}(h:callF env run f g args J=some iU)(k:Nat)(r:Option Nat)
  {w:World} {m:Nat->Option Nat} (ak:Rel P J w m B) (cZ:Globs env w B) {us cs:Array Value} (ha:bz w m (bj J m) B args (us++cs).toList):
  match(invoke (.fn (.func g) cs) us).run P w with
  | .ok (.enter bW xi) av=>CallsIn (eS r) k P bW xi av (λe av=>∃ret af,(ret,af)∈iU/\∃aP,pw av aP (bj af aP) B ret e/\Rel P af av aP B/\Ext f J w m af av aP)
  | .ok (.round l bW tmps as b) av=>RoundIn (eS r) k P l bW tmps as b av (λe av=>∃ret af,(ret,af)∈iU/\∃aP,pw av aP (bj af aP) B ret e/\Rel P af av aP B/\Ext f J w m af av aP)
  | .ok (.value v) av=>(λe av=>∃ret af,(ret,af)∈iU/\∃aP,pw av aP (bj af aP) B ret e/\Rel P af av aP B/\Ext f J w m af av aP) (.returned v) av
  |_=>False:=by
 by_cases xo:env.ext g=0
 ·obtain⟨⟨fn,c,h1,h2,h3⟩,aa⟩:=Qw fO eP b2 h xo k r ak cZ ha;rw[IL h1 h2 h3 cs us w];exact aa
 ·unfold callF at h;split at h
  ·rename_i h0;exact absurd h0 xo
  rename_i n a5;split at h<;>cases h;rename_i v au;obtain⟨u,h1,h2⟩:=hex g (λh0=>a5 h0) args v au w m (bj J m) B us cs ha;rw[h1];exact⟨_,_,List.mem_singleton.2 I,m,h2,ak,Ext.refl _ _ _ _⟩
end
theorem a5r(args:List AV)(al:aX AV):layAll [] args al=al:=rfl
theorem a5s(p:Nat)(aC:List Nat)(args:List AV)(al:aX AV):layAll (p::aC) args al=match args with|[]=>al|a::args=>layAll aC args (al.set p a):=rfl
theorem Qx{w:World}{m:Nat->Option Nat}{O:Nat->Prop}{B:Nat}:∀(aC:List Nat) (args:List AV) (us:List Value) (al:aX AV) (tmps:Array Value),hC w m O B al tmps.toList->bz w m O B args us->aC.length=args.length→
  hC w m O B (layAll aC args al) ((aC.zip us).foldl (λ(tmps:Array Value) (x:Nat×Value)=>tmps.setIfInBounds x.1 x.2) tmps).toList
 |[],args,us,al,tmps,ao,ha,hl=>by simpa [a5r] using ao
 |p::aC,[],us,al,tmps,ao,ha,hl=>by simp at hl
 |p::aC,a::args,us,al,tmps,ao,ha,hl=>by
  cases us with
  |nil=>have:=ha.1;simp at this
  |cons u us=>
   rw[a5s];simp only[List.zip_cons_cons,List.foldl_cons];refine Qx aC args us _ _ ?_ (by simpa using ha.drop 1) (by simpa using hl);exact ao.put p (ha.2 0 (by simp) (by simp))
section
variable {P:Program}{env:Env}{B:Nat}
theorem Rel.zR{J:ad}{w:World}{m:Nat->Option Nat}(ak:Rel P J w m B){id aB:Nat}{st:LoopState}{kt:Option bF}{al:aX AV}{aC:List Nat}{as b:bF}{d:Nat}(hm:m id=some aB)(hg:J.get id=some (.loop st kt al aC as b d)):
  ∃lW fn tmps gV e5 D,w.heap[aB]? =some (.loop {state:=st,pending:=lW,fn,tmps,params:=aC.toArray,assign:=gV,body:=e5,defers:=D})/\CD P kt lW/\hC w m (bj J m) B al tmps.toList/\ccode P gV=some as/\ccode P e5=some b/\m d=some D:=by
 obtain⟨bH,h1,h2⟩:=ak.obj _ _ _ hm hg I;cases h2 with
 |loop kX ao ha hb hd=>exact⟨_,_,_,_,_,_,h1,kX,ao,ha,hb,hd⟩
theorem Rel.Da{J:ad}{w:World}{m:Nat->Option Nat}(ak:Rel P J w m B){f id aB:Nat}(hf:f<=id)(hm:m id=some aB){o:AO}{r:Loop}(hl:live J id)(hb:dV w aB=none)(hlt:aB<w.heap.size)(hd:o.isDead=false)(ho:kW P w m (bj J m) B o (.loop r)):
  Rel P (J.set id o) (w.putObj aB (.loop r)) m B/\Ext f J w m (J.set id o) (w.putObj aB (.loop r)) m:=
 ak.cR hf hm hl (w.putObj aB (.loop r)) o (by simp) (λb a5=>World.putObj_heap_other a5) (λn hn=>by rw[hb] at hn;cases hn) rfl rfl rfl (λ_=>⟨_,World.putObj_heap_same hlt,ho⟩)
theorem a5t{run:hZ}(b2:ow P env B run){f l:Nat}{args:List AV}{J:ad}{iU:List (dR×ad)}(h:Hw run f l args J=some iU)(k:Nat)(r:Option Nat)
  {w:World} {m:Nat->Option Nat} (ak:Rel P J w m B) (cZ:Globs env w B) {us:Array Value} (ha:bz w m (bj J m) B args us.toList) {aB:Nat} (hm:m l=some aB):
  ∃bW tmps as b,(invoke (.fn (.yield aB) #[]) us).run P w= .ok (.round aB bW tmps as b) w/\RoundIn (eS r) k P aB bW tmps as b w (λe av=>∃ret af,(ret,af)∈iU/\∃aP,pw av aP (bj af aP) B ret e/\Rel P af av aP B/\Ext f J w m af av aP):=by
 unfold Hw at h;split at h<;>try (cases h;done)
 rename_i dE;have ns:f<=l:=by simpa [Nat.blt_eq] using dE
 split at h<;>try (cases h;done)
 rename_i kt al aC as b d hg;obtain⟨lW,fn,tmps,gV,e5,D,hh,kX,ao,has,CP,hd⟩:=ak.zR hm hg;cases I0:Nat.beq aC.length args.length with
 |false=>rw[I0] at h;cases h
 |true=>
  rw[I0,cond_true] at h;have hlen:=Nat.eq_of_beq_eq_true I0;have kf:us.size=aC.length:=by have:=ha.1;simp at this;omega
  have hy:=run_yield (P:=P) (args:=us) hh (by simpa using kf);refine⟨_,_,_,_,hy,?_⟩;have gL:ew P env ⟨layAll aC args al,[],false⟩ {tmps:=(aC.toArray.zip us).foldl (λtmps (t,a)=>tmps.setIfInBounds t a) tmps,defers:=[]} J w m B:=by
   refine⟨⟨ak,?_,cZ⟩,trivial⟩;have:=Qx aC args us.toList al tmps ao ha hlen;have aN:(aC.toArray.zip us)=(aC.zip us.toList).toArray:=by
    apply Array.ext';simp
   rw[aN];simpa using this
  obtain⟨r5,kD,a5u⟩:=tb h;refine roundIn_of_wpIn trivial ?_;refine(b2 _ _ _ _ _ _ kD k (some aB) gV _ w m has hm gL _ (λaN dw bP a5v fh a3 bR cS eL fc gn=>?_)).1;obtain⟨dy,dP,I1⟩:=a5u _ a5v;cases aN<;>try (cases dP;done)
  cases fh<;>try exact eL.elim
  simp only[roundMid] at dP;split at dP<;>try (cases dP;done)
  rename_i b9b b9c a5w b9d ec d1 qL;have r6:=gn.mono _ _ hm;obtain⟨a5x,a5y,a5z,a5A,a5B,Qy,zk,a5C,nB,a5D,a5E,jD⟩:=fc.ctx.rel.zR r6 qL;have a5F:=wS zk;have jB:dV bR aB=none:=by unfold dV;rw[zk]
  obtain⟨ox,ly⟩:=fc.ctx.rel.Da (f:=f) ns r6 (r:={state:=.busy,pending:=a5x,fn:=a5y,tmps:=a5z,params:=a5w.toArray,assign:=a5A,body:=a5B,defers:=Qy}) ⟨_,qL,rfl⟩ jB a5F I (.loop a5C nB a5D a5E jD);refine⟨_,run_beginRound zk I,?_⟩;have ot:=fc.ext ly ox;obtain⟨a5G,vi,a5H⟩:=tb dP;refine(b2 _ _ _ _ _ _ vi k (some aB) e5 a3 _ cS CP r6 ot _ (λcQ b9e gy a5I I2 cv xp qM Db zS Dc=>?_)).1;obtain⟨b9f,nq,I3⟩:=a5H _ a5I;have xq:=Dc.mono _ _ r6;have Qz:=(gn.trans ak ly).trans ak Dc;have fin:∀(j:Option bF) (qo:Option Code) (b:Bool),CD P j qo->(b=qo.isNone)->(∃vj qN qO nC qP dO d3,gy.get l=some (.loop vj qN qO nC qP dO d3))->∀ba,endRound gy l j=some ba->ba∈iU→
    ∃u av,(Instr.endRound aB qo).run P xp= .ok u av/\∃ret af,(ret,af)∈iU/\∃aP,pw av aP (bj af aP) B ret (.returned u)/\Rel P af av aP B/\Ext f J w m af av aP:=by
   rintro j qo b aA hb ⟨vj,qN,qO,nC,qP,dO,d3,vk⟩ ba me iD;obtain⟨b9g,Dd,De,Df,Dg,Dh,tj,Di,Dj,Dk,Dl,tk⟩:=zS.ctx.rel.zR xq vk;have Dm:=wS tj;have qC:dV xp aB=none:=by unfold dV;rw[tj]
   unfold endRound at me;rw[vk] at me;cases j with
   |none=>
    cases qo with
    |some _=>exact aA.elim
    |none=>
     simp only[Option.some.injEq] at me;subst me;obtain⟨zT,xr⟩:=zS.ctx.rel.Da (f:=f) ns xq (o:=.loop .ready none qO nC qP dO d3) (r:={state:=.ready,pending:=none,fn:=Dd,tmps:=De,params:=nC.toArray,assign:=Df,body:=Dg,defers:=Dh}) ⟨_,vk,rfl⟩ qC Dm I (.loop trivial Dj Dk Dl tk);exact⟨_,_,run_endRound none tj,_,_,iD,qM,.b _,zT,Qz.trans ak xr⟩
   |some c=>
    cases qo with
    |none=>exact aA.elim
    |some bM=>
     simp only[Option.some.injEq] at me;subst me;obtain⟨zT,xr⟩:=zS.ctx.rel.Da (f:=f) ns xq (o:=.loop .done (some c) qO nC qP dO d3) (r:={state:=.done,pending:=some bM,fn:=Dd,tmps:=De,params:=nC.toArray,assign:=Df,body:=Dg,defers:=Dh}) ⟨_,vk,rfl⟩ qC Dm I (.loop aA Dj Dk Dl tk);exact⟨_,_,run_endRound (some bM) tj,_,_,iD,qM,.b _,zT,Qz.trans ak xr⟩
  have got:∀ {j:Option bF} {ba:dR×ad},endRound gy l j=some ba->∃vj qN qO nC qP dO d3,gy.get l=some (.loop vj qN qO nC qP dO d3):=λaS=>by
   unfold endRound at aS;split at aS
   ·exact⟨_,_,_,_,_,_,_,by assumption⟩
   ·cases aS
  cases cQ with
  |panic v=>cases nq
  |normal=>
   cases I2<;>try exact Db.elim
   simp only[roundEnd,Option.map_eq_some_iff] at nq;obtain⟨ba,me,rfl⟩:=nq;exact fin none none true trivial I (got me) ba me (I1 _ (I3 _ (jq _)))
  |ret=>
   cases I2<;>try exact Db.elim
   simp only[roundEnd,Option.map_eq_some_iff] at nq;obtain⟨ba,me,rfl⟩:=nq;exact fin (some .ret) (some .ret) false ⟨rfl,.inl I⟩ I (got me) ba me (I1 _ (I3 _ (jq _)))
  |exit id=>
   cases I2<;>try exact Db.elim
   have mR:=Db;simp only[ExR] at mR;subst mR;simp only[roundEnd,Option.map_eq_some_iff] at nq;obtain⟨ba,me,rfl⟩:=nq;exact fin (some (.exit _)) (some (.exit _)) false ⟨rfl,.inr ⟨_,rfl⟩⟩ I (got me) ba me (I1 _ (I3 _ (jq _)))
theorem QA(fO:qI P env)(eP:xl P env B)(hex:xm P env){run:hZ}(b2:ow P env B run)(f:Nat)(r:Option Nat):zE P env B f r (callV env run f):=by
 intro cd args J iU h k w m u us ak cZ hf ha;unfold callV at h;split at h<;>try (cases h;done)
 ·rename_i g first cap
  cases hf with
  |ct a5J bq fN qt=>
   rename_i fT eQ;have h1:bz w m (bj J m) B first fT.toList:=⟨by simpa using a5J,λi p q=>by simpa using bq i p (by simpa using q)⟩
   have h2:bz w m (bj J m) B cap eQ.toList:=⟨by simpa using fN,λi p q=>by simpa using qt i p (by simpa using q)⟩
   refine⟨{target:=.fn (.func g) eQ,args:=fT++us.toArray},λav=>rfl,?_⟩;exact a5q fO eP hex b2 h k r ak cZ (by simpa using (h1.append ha).append h2)
 ·rename_i l a b;cases hf with
  |rJ hm=>
   obtain⟨bW,tmps,as,iu,h1,h2⟩:=a5t b2 h k r ak cZ (us:=us.toArray) (by simpa using ha) hm;refine⟨{target:=.fn (.yield _) #[],args:=#[]++us.toArray},λav=>rfl,?_⟩;have aN:(#[]++us.toArray:Array Value)=us.toArray:=by simp
   simp only[aN];rw[h1];exact h2
end
section
variable {P:Program}{env:Env}{B:Nat}
theorem a5K{aJ r:Option Nat}{ab:Fr}{a:Act}{J bP:ad}{w:World}{m:Nat->Option Nat}{d f:Nat}{ds:List (Nat ⊕ (AV×List AV))}(h:y7 aJ ab J=some (d,bP,ds))(k2:xf m aJ r)(st:ew P env ab a J w m B)
  {aC:List Nat} {as b:bF} {gV e5:Code} (has:ccode P gV=some as) (hb:ccode P e5=some b) (fn:FuncId):
  ∃l mark bR cS,(Instr.enterLoop fn a.tmps aC.toArray gV e5 r).run P w= .ok (l,mark) bR/\cS bP.next=some l∧
   ew P env ⟨ab.a_,ds,ab.fi⟩ {a with defers:=mark++a.defers} (bP.push (.loop .ready none ab.a_ aC as b d)) bR cS B/\Ext f J w m (bP.push (.loop .ready none ab.a_ aC as b d)) bR cS:=by
 unfold y7 at h;cases aJ with
 |none=>
  cases r<;>try exact k2.elim
  simp only[Option.some.injEq,Prod.mk.injEq] at h;obtain⟨rfl,rfl,rfl⟩:=h;have ak:=st.ctx.rel;obtain⟨kD,gb⟩:=ak.alloc f (w.alloc (.deferred (some []))) .dN (.deferred (some [])) I I I I I .dN;have fc:=st.ext gb kD;obtain⟨ox,ly⟩:=kD.alloc f ((w.alloc (.deferred (some []))).alloc (.loop {state:=.ready,pending:=none,fn,tmps:=a.tmps,params:=aC.toArray,assign:=gV,body:=e5,defers:=w.heap.size}))
   (.loop .ready none ab.a_ aC as b J.next) _ I I I I I (.loop trivial fc.ctx.a_ has hb (gz _ _ _))
  have ot:=fc.ext ly ox;refine⟨_,_,_,_,run_enterLoop_outer fn a.tmps aC.toArray gV e5,?_,⟨⟨ox,ot.ctx.a_,ot.ctx.globs⟩,⟨⟨_,ly.mono _ _ (gz _ _ _),rfl⟩,ot.defs⟩⟩,gb.trans ak ly⟩;have:=gz (bindM m J.next w.heap.size) (J.push .dN).next (w.alloc (.deferred (some []))).heap.size;rw[this];simp
 |some QB=>
  cases r<;>try exact k2.elim
  rename_i aB;have hm:m QB=some aB:=k2;simp only at h;split at h<;>cases h;rename_i hg;have ak:=st.ctx.rel;obtain⟨lW,b9h,b9i,b9j,QC,D,hh,_,_,_,_,hd⟩:=ak.zR hm hg;obtain⟨ox,ly⟩:=ak.alloc f (w.alloc (.loop {state:=.ready,pending:=none,fn,tmps:=a.tmps,params:=aC.toArray,assign:=gV,body:=e5,defers:=D}))
   (.loop .ready none ab.a_ aC as b d) _ I I I I I (.loop trivial st.ctx.a_ has hb hd)
  have ot:=st.ext ly ox;refine⟨w.heap.size,[],_,_,?_,gz _ _ _,⟨⟨ox,ot.ctx.a_,ot.ctx.globs⟩,ot.defs⟩,ly⟩;unfold Instr.enterLoop;simp only[Sem.run_bind,run_getLoop hh,Result.andThen,Sem.run_pure,run_newObj_alloc]
theorem a5L{c:bF}{lW:Option Code}(h:CD P (some c) lW):∃bM,lW=some bM/\ccode P bM=some c:=by
 cases lW with
 |none=>exact h.elim
 |some d=>exact⟨d,rfl,h.1⟩
theorem a5M{c:Code}{f:aF}{aC:List Nat}{as b:bF}(h:ccode P c=some (.rangeFunc f aC as b)):∃g lu gV e5,c= .rangeFunc g lu gV e5/\opdOf g=some f/\aC=lu.toList/\ccode P gV=some as/\ccode P e5=some b:=by
 cases c with
 |rangeFunc g lu gV e5=>
  simp only[ccode] at h;split at h<;>cases h;rename_i h1 h2 h3;exact⟨g,lu,gV,e5,rfl,h1,rfl,h2,h3⟩
 |region id ops dc=>cases dc<;>(simp only[ccode] at h;split at h<;>cases h)
 |_=>
  simp only[ccode] at h
  first|(cases h;done)|(split at h<;>cases h;done)
theorem a5N(fO:qI P env)(eP:xl P env B){run:hZ}(b2:ow P env B run):Qd P env B run:=by
 intro floor aJ f aC as b ab J outs h k r c a w m aa k2 st Q b0;obtain⟨c6,Dn,gV,e5,rfl,il,rfl,has,hb⟩:=a5M aa;simp only[step] at h;split at h<;>try (cases h;done)
 rename_i a5O;have QD:floor<=J.next:=by simpa [Nat.blt_eq] using a5O
 split at h<;>try (cases h;done)
 rename_i g first cap mS
 split at h<;>try (cases h;done)
 rename_i d bP ds xt;split at h<;>try (cases h;done)
 rename_i xo;obtain⟨QB,oq,nx⟩:=tb h;have a5P:=st.ctx.aq il mS;refine wpIn_rangeFunc (λfn _=>?_);obtain⟨l,mark,bR,cS,h1,h2,h3,aQ⟩:=a5K (f:=floor) xt k2 st (aC:=Dn.toList) has hb fn;have ak:=st.ctx.rel;have I4:=a5P.ext aQ ak;obtain⟨fT,eQ,a5Q,IS,IT⟩:∃fT eQ,a.eval c6= .func (.func g) fT eQ/\bz bR cS (bj (bP.push (.loop .ready none ab.a_ Dn.toList as b d)) cS) B first fT.toList/\bz bR cS (bj (bP.push (.loop .ready none ab.a_ Dn.toList as b d)) cS) B cap eQ.toList:=by
  revert I4;generalize a.eval c6=lB;intro I4;cases I4 with
  |ct xu bq fN qt=>exact⟨_,_,rfl,⟨by simpa using xu,λi p q=>by simpa using bq i p (by simpa using q)⟩,⟨by simpa using fN,λi p q=>by simpa using qt i p (by simpa using q)⟩⟩
 have nw:bz bR cS (bj (bP.push (.loop .ready none ab.a_ Dn.toList as b d)) cS) B (first++AV.f (.yield bP.next) [] []::cap) (fT++ #[Value.func (.yield l) #[] #[]]++eQ).toList:=by
  simp only[Array.toList_append,List.append_assoc];exact IS.append (bz.cons (.rJ h2) IT)
 obtain⟨⟨b9k,aG,xu,Dp,a5R⟩,a5S⟩:=Qw fO eP b2 oq xo (k-1) r h3.ctx.rel h3.ctx.globs nw;refine⟨l,mark,bR,{target:=.fn (.func g) eQ,args:=fT++ #[Value.func (.yield l) #[] #[]]},bR,g,_,bR,by simpa [eS] using h1,?_,λ_ _=>trivial,IL xu Dp a5R eQ _ bR,λao=>by simp[eS] at ao,?_⟩
 ·have jo:a.eval (.const (.func (.yield l) #[] #[]))= .func (.yield l) #[] #[]:=rfl;simp only[resolve,a5Q,Deferred.ofValue];simp[jo]
 ·refine CallsIn.mono a5S (λcQ xp c0=>?_);obtain⟨ret,gy,fq,qM,kh,vi,I5⟩:=c0;obtain⟨dy,dP,ep⟩:=nx _ fq;cases ret with
  |err v=>cases dP
  |ok oy=>
  cases cQ<;>try exact kh.elim
  have xq:=I5.mono _ _ h2;simp only[rangeK] at dP;split at dP<;>try (cases dP;done)
  rename_i vj qN qO nC qP dO d3 vk;obtain⟨lW,Dd,De,Df,Dg,Dh,tj,Di,Dj,Dk,Dl,tk⟩:=vi.zR xq vk;have zS:=h3.ext I5 vi;have Dc:=aQ.trans ak I5;have hp:floor<=bP.next:=by
   unfold y7 at xt;split at xt
   ·split at xt<;>cases xt;exact QD
   ·cases xt;exact Nat.le_succ_of_le QD
  have Dm:=wS tj;have qC:dV xp l=none:=by unfold dV;rw[tj]
  have fin:vj≠ .busy->(match(generalizing:=false) qN with
    |none=>some [(fa.normal,(⟨ab.a_,ds,ab.fi⟩:Fr),gy.set bP.next (.loop .exhausted qN qO nC qP dO d3))]
    |some c=>run floor aJ c ⟨ab.a_,ds,ab.fi⟩ (gy.set bP.next (.loop .exhausted qN qO nC qP dO d3)))=some dy→
    ∀tf,rangePost (eS r) k P l Q {a with defers:=mark++a.defers} (.returned tf) xp:=λzr hh tf=>by
   obtain⟨zT,xr⟩:=vi.Da (f:=floor) hp xq (o:=.loop .exhausted qN qO nC qP dO d3) (r:={state:=.exhausted,pending:=lW,fn:=Dd,tmps:=De,params:=nC.toArray,assign:=Df,body:=Dg,defers:=Dh}) ⟨_,vk,rfl⟩ qC Dm I (.loop Di Dj Dk Dl tk);have QE:=zS.ext xr zT;have I6:=Dc.trans ak xr;refine⟨lW,_,run_endLoop tj zr,?_⟩;cases qN with
   |none=>
    cases lW with
    |some _=>exact Di.elim
    |none=>
     simp only at hh ⊢;cases hh;exact b0 _ _ _ (ep _ (jq _)) .normal _ _ qM trivial QE I6
   |some c=>
    obtain⟨bM,rfl,l2⟩:=a5L Di;simp only at hh ⊢;exact(b2 _ _ _ _ _ _ hh k r bM _ _ qM l2 (k2.mono I6.mono) QE Q (λe a9 af Dq x cn av aP bN bQ cc=>b0 e a9 af (ep _ Dq) x cn av aP bN bQ (I6.trans ak cc))).1
  cases vj<;>first|(cases dP;done)|exact fin (by simp) dP _
end
structure zU(pl:List aY)(cO:Nat->Nat->Bool)(p q:Nat):Prop where
 Dr:p+1=q
 last:q+1=pl.length
 ops:∃bC eh s1 a3 fh s2 bm nD,pl[p]? =some bC/\pl[q]? =some eh/\bC.op= .store s1 a3 fh/\eh.op= .store s2 bm nD/\bC.dst=none/\eh.dst=none/\bC.guard=none/\eh.guard=none/\eh.iS≠[]
 rest:∀(r:Nat) (aW:aY),r<p->pl[r]? =some aW->cO r q=true\/(aW.op.fj=false/\aW.op.jX=false/\aW.op.looks=false)
structure QF(P:Program)(ops:Array Oper)(pl:List aY)(bb cN:Nat->Nat)(cO:Nat->Nat->Bool):Prop where
 len:pl.length=ops.size
 pi:∀p,p<ops.size->bb p<ops.size/\cN (bb p)=p
 zV:∀i,i<ops.size->cN i<ops.size/\bb (cN i)=i
 code:∀p aU,pl[p]? =some aU->∃o j3,ops[bb p]? =some o/\coper P ops o=some j3/\aU.op=j3.op/\aU.dst=j3.dst/\aU.guard=j3.guard
 back:∀p,p<ops.size->∀o,ops[bb p]? =some o->∀e∈o.after,Region.binds .any e=true->e.on<ops.size/\cN e.on<p
 QG:∀p,p<ops.size->∀q,cO q p=true->∃o,ops[bb p]? =some o/\∃e∈o.after,Region.binds .any e=true/\(q=cN e.on\/cO q (cN e.on)=true)
 tl:∀(p q:Nat) (aU:aY),p<q->q<ops.size->pl[p]? =some aU->aU.op.fj=true->cO p q=true\/zU pl cO p q
 zW:∀(p q:Nat) (aU dd:aY) (d:Nat),p<q->pl[p]? =some aU->pl[q]? =some dd->aU.dst=some d->dd.dst≠some d
 QH:∀(p q:Nat) (aU dd:aY),p<q->pl[p]? =some aU->pl[q]? =some dd->cO p q=true\/(∀d,aU.dst=some d->d∉dd.reads)/\(∀d,dd.dst=some d->d∉aU.reads)
 iS:∀(p:Nat) (aU:aY),pl[p]? =some aU->aU.op.looks=true->∀(q:Nat),p<q->(q=ops.size\/∃dd,pl[q]? =some dd/\dd.op.fj=true)→
  q∈aU.iS\/(∃(e:Nat) (dL:aY),pl[e]? =some dL/\dL.op.fj=true/\p<e/\e<q/\cO p e=true)\/(∀(c:Nat) (ac:aY),pl[c]? =some ac->p<c->c<q->ac.op.fj=false/\ac.op.jX=false)
theorem tm{a b:Nat}:Nat.blt a b=true↔a<b:=by rw[Nat.blt_eq]
theorem QI{α:Type}{f:α->α->Bool}:∀ {l:List α},CB f l=true->∀(i j:Nat) (x y:α),i<j->l[i]? =some x->l[j]? =some y->f x y=true
 |[],_,i,j,x,y,_,hx,_=>by simp at hx
 |z::l,h,i,j,x,y,gp,hx,hy=>by
  simp only[CB,Bool.and_eq_true,List.all_eq_true] at h;cases j with
  |zero=>omega
  |succ j=>
   cases i with
   |zero=>
    simp only[List.getElem?_cons_zero,Option.some.injEq] at hx;subst hx;exact h.1 y (List.mem_of_getElem? (by simpa using hy))
   |succ i=>exact QI h.2 i j x y (by omega) (by simpa using hx) (by simpa using hy)
theorem QJ{A:List Nat}{q:Nat}:∀ {es:List Nat},(wP A es).testBit q=true->∃d∈es,q=d\/(A.getD d 0).testBit q=true
 |[],h=>by simp[wP] at h
 |d::es,h=>by
  have h:((1 <<< d ||| A.getD d 0) ||| wP A es).testBit q=true:=h;rw[Nat.testBit_or,Nat.testBit_or,Bool.or_eq_true,Bool.or_eq_true,Nat.one_shiftLeft,Nat.testBit_two_pow,decide_eq_true_eq] at h;rcases h with(h|h)|h
  ·exact⟨d,by simp,.inl h.symm⟩
  ·exact⟨d,by simp,.inr h⟩
  ·obtain⟨e,he,h2⟩:=QJ (es:=es) h;exact⟨e,by simp[he],h2⟩
theorem QK{α β:Type}{f:α->Option β}{l:List α}{a8:List β}(h:mapOL f l=some a8){i:Nat}{y:β}(hy:a8[i]? =some y):∃x,l[i]? =some x/\f x=some y:=by
 obtain⟨h1,h2⟩:=uQ h;obtain⟨hi,rfl⟩:=List.getElem?_eq_some_iff.1 hy;exact⟨l[i]'(by omega),List.getElem?_eq_getElem (by omega),h2 i (by omega) hi⟩
theorem I7{p:aY->Bool}{pl:List aY}{i:Nat}:i∈posOf p pl↔∃aU,pl[i]? =some aU/\p aU=true:=by
 unfold posOf;simp only[List.mem_map,List.mem_filter,Prod.exists,exists_eq_right];constructor
 ·rintro⟨aU,h1,h2⟩;exact⟨aU,by simpa using List.mem_zipIdx_iff_getElem?.1 h1,h2⟩
 ·rintro⟨aU,h1,h2⟩;exact⟨aU,List.mem_zipIdx_iff_getElem?.2 (by simpa using h1),h2⟩
theorem I8{α:Type}{l:List α}{i:Nat}{x d:α}(h:l[i]? =some x):l.getD i d=x:=by simp[List.getD_eq_getElem?_getD,h]
theorem a5T{P:Program}{ops:Array Oper}{pl:List aY}(h:cdraw P ops=some pl):∃bb cN cO,QF P ops pl bb cN cO:=by
 unfold cdraw at h;cases hl:mapOL (coper P ops) ops.toList with
 |none=>rw[hl] at h;cases h
 |some l=>
 rw[hl] at h;simp only at h;cases hH:OH l (y8 ops.size (((l.zip (ops.toList.map pe)).zipIdx).map λx=>(x.2,x.1.1.op.fj,x.1.2)) 0) with
 |none=>rw[hH] at h;cases h
 |some I9=>
 rw[hH] at h;simp only at h;generalize hA:List.foldl _ [] (y8 _ _ 0)=A at h;generalize b9l:List.map _ (List.range ops.size)=cN at h;generalize b9m:y8 _ _ 0=bb at h hH;split at h<;>cases h;rename_i vl;generalize QL:y9 A ops.size I9=pl at vl;simp only[OG,Bool.and_eq_true] at vl;obtain⟨vm,QM,h8,a5U,QN⟩:=vl;simp only[OE,Bool.and_eq_true,Nat.beq_eq,List.all_eq_true,Nat.blt_eq] at vm;obtain⟨hp,gX,pB,mf⟩:=vm;have Ds:∀p,p<ops.size->bb[p]? =some (bb.getD p 0):=λp ar=>by
  rw[List.getElem?_eq_getElem (by omega),I8 (List.getElem?_eq_getElem (by omega))]
 have a5V:∀p,p<ops.size->cN[p]? =some (cN.getD p 0):=λp ar=>by
  rw[List.getElem?_eq_getElem (by omega),I8 (List.getElem?_eq_getElem (by omega))]
 have QO:∀i o,ops[i]? =some o->(ops.toList.map pe).getD i []=pe o:=λi o ho=>by
  refine I8 ?_;rw[List.getElem?_map,Array.getElem?_toList,ho];rfl
 have a5W:∀(o:Oper) e,e∈o.after->Region.binds .any e=true->e.on∈pe o:=λo e he hb=>by
  unfold pe;exact List.mem_map.2 ⟨e,List.mem_filter.2 ⟨by simpa using he,hb⟩,rfl⟩
 have s3:I9.length=ops.size:=by have:=(uQ hH).1;omega
 have hlen:pl.length=ops.size:=by rw[<-QL];simp[y9,s3]
 have iD:∀p aU,pl[p]? =some aU->p<ops.size:=λp aU ar=>by have:=(List.getElem?_eq_some_iff.1 ar).1;omega
 have fq:∀p aU,pl[p]? =some aU->(aU,p)∈pl.zipIdx:=λp aU ar=>List.mem_zipIdx_iff_getElem?.2 (by simpa using ar);simp only[OF,List.all_eq_true,Bool.and_eq_true,Nat.blt_eq,Nat.beq_eq] at h8;have QP:∀p,p<ops.size->(∀d∈wQ (ops.toList.map pe) cN (bb.getD p 0),d<p)/\A.getD p 0=wP A (wQ (ops.toList.map pe) cN (bb.getD p 0)):=λp ar=>
  h8 (bb.getD p 0,p) (List.mem_zipIdx_iff_getElem?.2 (by simpa using Ds p ar))
 have I_:∀p q aU dd,p<q->pl[p]? =some aU->pl[q]? =some dd->pairOk A pl (aU,p) (dd,q)=true:=λp q aU dd g3 h1 h2=>
  QI a5U p q _ _ g3 (by simp[List.getElem?_zipIdx,h1]) (by simp[List.getElem?_zipIdx,h2])
 refine⟨λp=>bb.getD p 0,λi=>cN.getD i 0,λq p=>(A.getD p 0).testBit q,⟨hlen,?_,?_,?_,?_,?_,?_,?_,?_,?_⟩⟩
 ·intro p ar;have:=pB (bb.getD p 0,p) (List.mem_zipIdx_iff_getElem?.2 (by simpa using Ds p ar));exact this
 ·intro i hi;have:=mf (cN.getD i 0,i) (List.mem_zipIdx_iff_getElem?.2 (by simpa using a5V i hi));exact this
 ·intro p aU ar;have iF:=iD p aU ar;have gA:∃vn,I9[p]? =some vn/\aU.op=vn.op/\aU.dst=vn.dst/\aU.guard=vn.guard:=by
   rw[<-QL] at ar;simp only[y9,List.getElem?_map,List.getElem?_zipIdx,Option.map_eq_some_iff,Prod.exists] at ar;obtain⟨vn,i,⟨a3,h1,h2⟩,h3⟩:=ar;cases h2;subst h3;exact⟨_,h1,rfl,rfl,rfl⟩
  obtain⟨vn,h0,aN,a4,cQ⟩:=gA;obtain⟨i,hi,fE⟩:=QK hH h0;rw[Ds p iF] at hi;cases hi;obtain⟨o,ho,aa⟩:=QK hl fE;exact⟨o,vn,by simpa using ho,aa,aN,a4,cQ⟩
 ·intro p ar o ho e he hb;have QQ:e.on∈pe o:=a5W o e he hb;refine⟨?_,?_⟩
  ·simp only[List.all_eq_true,Nat.blt_eq] at QM;exact QM (pe o) (List.mem_map.2 ⟨o,by simpa using Array.mem_of_getElem? ho,rfl⟩) _ QQ
  ·exact(QP p ar).1 _ (List.mem_map.2 ⟨e.on,by rw[QO _ _ ho];exact QQ,rfl⟩)
 ·intro p ar q aS;have zX:=pB (bb.getD p 0,p) (List.mem_zipIdx_iff_getElem?.2 (by simpa using Ds p ar));obtain⟨o,ho⟩:∃o,ops[bb.getD p 0]? =some o:=⟨_,Array.getElem?_eq_getElem zX.1⟩
  refine⟨o,ho,?_⟩;rw[(QP p ar).2] at aS;obtain⟨d,hd,h2⟩:=QJ aS;unfold wQ at hd;rw[QO _ _ ho] at hd;obtain⟨j,aA,rfl⟩:=List.mem_map.1 hd;unfold pe at aA;obtain⟨e,he,rfl⟩:=List.mem_map.1 aA;obtain⟨gb,ly⟩:=List.mem_filter.1 he;exact⟨e,by simpa using gb,ly,h2⟩
 ·intro p q aU g3 aS h1 he;have h2:pl[q]? =some (pl[q]'(by omega)):=List.getElem?_eq_getElem (by omega);have:=I_ p q aU (pl[q]'(by omega)) g3 h1 h2;simp only[pairOk,Bool.and_eq_true,Bool.or_eq_true,he,Bool.not_true,Bool.false_eq_true,false_or] at this;rcases this.2 with h3|h3
  ·exact .inl h3
  ·refine .inr ?_;have aQ:=h3.2;simp only[OC,Bool.and_eq_true,Nat.beq_eq,Option.isNone_iff_eq_none,Bool.not_eq_true',List.isEmpty_eq_false_iff,List.all_eq_true] at aQ;obtain⟨aN,a4,cQ,h6,nE,oz,xv,Dt,iG,r7⟩:=aQ;obtain⟨s1,a3,fh,nB⟩:∃s a x,aU.op= .store s a x:=by
    revert cQ;cases aU.op<;>intro cQ<;>first|exact⟨_,_,_,rfl⟩|cases cQ
   obtain⟨s2,bm,nD,nz⟩:∃s a x,(pl[q]'(by omega)).op= .store s a x:=by
    revert h6;cases(pl[q]'(by omega)).op<;>intro h6<;>first|exact⟨_,_,_,rfl⟩|cases h6
   refine⟨aN,a4,⟨_,_,s1,a3,fh,s2,bm,nD,h1,h2,nB,nz,nE,oz,xv,Dt,iG⟩,λr aW ak IZ=>?_⟩;have bJ:=r7 (aW,r) (fq r aW IZ);simp only[Bool.or_eq_true,Bool.not_eq_true',OB,Bool.and_eq_true] at bJ;rcases bJ with bJ|bJ|bJ
   ·rw[tm.2 ak] at bJ;cases bJ
   ·exact .inl bJ
   ·exact .inr bJ
 ·intro p q aU dd d g3 h1 h2 hd im;have:=I_ p q aU dd g3 h1 h2;simp only[pairOk,Bool.and_eq_true,hd,im] at this;simp at this
 ·intro p q aU dd g3 h1 h2;have:=I_ p q aU dd g3 h1 h2;simp only[pairOk,Bool.and_eq_true,Bool.or_eq_true] at this;rcases this.2 with h3|h3
  ·exact .inl h3
  ·refine .inr ?_;have aQ:=h3.1;simp only[indep,Bool.and_eq_true] at aQ;refine⟨λd hd=>?_,λd hd=>?_⟩
   ·have:=aQ.1;rw[hd] at this;simpa using this
   ·have:=aQ.2;rw[hd] at this;simpa using this
 ·intro p aU ar QR q g3 aS;simp only[List.all_eq_true] at QN;have:=QN _ (fq p aU ar);simp only[OD,QR,Bool.not_true,Bool.false_or,List.all_eq_true] at this;have a5X:q∈ops.size::posOf (·.op.fj) pl:=by
   rcases aS with rfl|⟨dd,h1,h2⟩
   ·simp
   ·exact List.mem_cons_of_mem _ (I7.2 ⟨dd,h1,h2⟩)
  have:=this q a5X;simp only[Bool.or_eq_true,Bool.not_eq_true'] at this;rcases this with h1|h1|h1|h1
  ·exfalso;have:Nat.blt p q=true:=(tm.2 g3)
   rw[this] at h1;cases h1
  ·exact .inl (by simpa using h1)
  ·refine .inr (.inl ?_);simp only[List.any_eq_true,Bool.and_eq_true,Nat.blt_eq] at h1;obtain⟨e,he,h2,h3,aQ⟩:=h1;obtain⟨dL,bJ,cu⟩:=I7.1 he;exact⟨e,dL,bJ,cu,h2,h3,aQ⟩
  ·refine .inr (.inr λc ac aa a5Y a5Z=>?_);simp only[List.all_eq_true,Bool.not_eq_true',Bool.and_eq_false_iff] at h1;cases QS:CC ac with
   |false=>simpa [CC] using QS
   |true=>
    exfalso;have:=h1 c (I7.2 ⟨ac,aa,QS⟩);rw[(tm.2 a5Y),(tm.2 a5Z)] at this;rcases this with h|h<;>cases h
section
variable {f:Nat}{aq j4:aF->Option AV}{J af:ad}
theorem tn{x:Option aF}{d:Nat}(h:∀y∈n7 x,aq y=j4 y):bndO aq x d=bndO j4 x d:=by
 cases x with
 |none=>rfl
 |some x=>simp only[bndO,h x (by simp[n7])]
theorem xw{α β:Type}{g qQ:α->Option β}:∀ {l:List α},(∀x∈l,g x=qQ x)->mapO g l=mapO qQ l
 |[],_=>rfl
 |x::l,h=>by
  rw[mapO_cons,mapO_cons,h x (by simp),xw (l:=l) (λy hy=>h y (by simp[hy]))]
theorem layParts_congr{bK:Nat->Nat->Nat}:∀ {aC:List (Nat×Nat×aF)} {c:List AV},(∀p∈aC,aq p.2.2=j4 p.2.2)->gU aq bK aC c=gU j4 bK aC c
 |[],_,_=>rfl
 |p::aC,c,h=>by
  show(match aq p.2.2 with|none=>none|some v=>cond _ (match storeCells c (bK p.1 p.2.1) v.cells with|none=>none|some c=>gU aq bK aC c) none)=(match j4 p.2.2 with|none=>none|some v=>cond _ (match storeCells c (bK p.1 p.2.1) v.cells with|none=>none|some c=>gU j4 bK aC c) none);rw[h p (by simp)];have:∀c,gU aq bK aC c=gU j4 bK aC c:=λc=>layParts_congr (λq aS=>h q (by simp[aS]));simp only[this]
theorem a6a{U:Option Nat}{x:AV}{cF hi fg:Option aF}(h1:∀y∈n7 cF,aq y=j4 y)(h2:∀y∈n7 hi,aq y=j4 y)(h3:∀y∈n7 fg,aq y=j4 y):sliceA aq U x cF hi fg=sliceA j4 U x cF hi fg:=by
 unfold sliceA;simp only[tn h1,tn h2,tn h3];cases fg with
 |none=>rfl
 |some m=>simp only[tn (x:=some m) h3]
theorem QT{c:qm}(h:∀y∈(match c with| .fn _=>[]| .val o=>[o]:List aF),aq y=j4 y):calleeV aq c=calleeV j4 c:=by
 cases c with
 |fn f=>rfl
 |val o=>exact h o (by simp)
theorem QU{op:AOp}(h:∀x∈op.opnds,aq x=j4 x):opx f aq J op=opx f j4 J op:=by
 cases op
 all_goals simp only[AOp.opnds,List.forall_mem_cons,List.mem_append,List.not_mem_nil,false_implies,implies_true,and_true] at h
 all_goals try simp only[opx,h]
 case pick c a b=>
  cases aa:j4 c with
  |none=>rfl
  |some v=>cases v<;>first|rfl|(rename_i t;cases t<;>simp only[cond_true,cond_false,h])
 case build z aC=>rw[layParts_congr (λp ar=>h _ (List.mem_map.2 ⟨p,ar,rfl⟩))]
 case buildSlice U n z aC=>
  rw[layParts_congr (λp ar=>by
   obtain⟨q,aS,rfl⟩:=List.mem_map.1 ar;exact h _ (List.mem_map.2 ⟨q,aS,rfl⟩))]
 case e_ fn a c=>rw[xw (λx hx=>h x (.inl hx)),xw (g:=aq) (qQ:=j4) (l:=c) (λx hx=>h x (.inr hx))]
 case sV n U x cF hi=>rw[tn (λy hy=>h.2 y (.inl hy)),tn (x:=hi) (λy hy=>h.2 y (.inr hy))]
 case hz x cF hi=>
  have e:∀d,bndO aq cF d=bndO j4 cF d:=λd=>tn (λy hy=>h.2 y (.inl hy));have a4:∀d,bndO aq hi d=bndO j4 hi d:=λd=>tn (λy hy=>h.2 y (.inr hy));simp only[e,a4]
 case ks U x cF hi fg=>
  have e:∀v,sliceA aq U v cF hi fg=sliceA j4 U v cF hi fg:=λv=>a6a (λy hy=>h.2 y (.inl hy)) (λy hy=>h.2 y (.inr (.inl hy))) (λy hy=>h.2 y (.inr (.inr hy)));simp only[e]
 case call c as=>rw[QT (λy hy=>h y (.inl hy)),xw (λx hx=>h x (.inr hx))]
 case jW c as=>rw[QT (λy hy=>h y (.inl hy)),xw (λx hx=>h x (.inr hx))]
theorem Du{op:AOp}(he:op.fj=false)(ha:op.jX=false){r:bL}(h:opx f aq J op=some r)(hn:∀l,r≠ .iy l:=by intro _ h;cases h):∃v,r= .val v J/\(op.looks=false->∀cx,opx f aq cx op=some (.val v cx)):=by
 cases op
 all_goals first|(cases he;done)|(cases ha;done)|skip
 all_goals simp only[opx] at h
 all_goals first
  |(cases h;done)
  |(
    repeat' (first|(cases h;done)|(exact absurd (zs h) (hn _))|split at h|(simp only[Bool.cond_eq_ite] at h))
    all_goals first
     |(cases h;exact⟨_,rfl,λhl=>by first|(cases hl;done)|(intro cx;rfl)|(intro cx;simp only[opx];done)|(intro cx;simp only[opx];simp only[*];first|done|rfl|(simp only[Bool.cond_eq_ite];simp only[*];first|done|rfl|simp))⟩)
     |skip)
theorem QV{op:AOp}(ha:op.jX=true){r:bL}(h:opx f aq J op=some r):∃(o:AO) (oA:Nat->AV),r= .val (oA J.next) (J.push o)/\o.isDead=false/\∀cx,opx f aq cx op=some (.val (oA cx.next) (cx.push o)):=by
 cases op
 all_goals first|(cases ha;done)|skip
 all_goals simp only[opx] at h
 case alloc v=>cases h;exact⟨_,λn=>iz n 0,rfl,rfl,λ_=>rfl⟩
 case box x=>
  split at h<;>try (cases h;done)
  rename_i v au;cases hval:v.val with
  |false=>rw[hval] at h;cases h
  |true=>
   rw[hval,cond_true] at h;cases h;exact⟨_,λn=>iz n 0,rfl,rfl,λcx=>by simp only[opx,au,hval,cond_true]⟩
 case buildSlice U n z aC=>
  split at h<;>cases h;rename_i c aa;exact⟨_,λk=>.al k 0 n U (some n),rfl,rfl,λcx=>by simp only[opx,aa]⟩
 case mkMap=>cases h;exact⟨_,λn=>.m (some n),rfl,rfl,λ_=>rfl⟩
end
def a6b(P:Program)(w:World)(m:Nat->Option Nat)(O:Nat->Prop)(B:Nat)(o:AO)(oA:Nat->AV)(r:Result Next):Prop:=
 ∃u av bH,r= .ok (.value u) av/\av.heap=w.heap.push bH/\av.os=w.os/\av.tape=w.tape/\av.output=w.output/\kW P w m O B o bH∧
  ∀(h9:World) (oB:Nat->Option Nat) (zY:Nat->Prop) (zZ id:Nat),oB id=some w.heap.size->h9.heap[w.heap.size]? =some bH->R h9 oB zY zZ (oA id) u
theorem a6c{P:Program}{o:Oper}{cl:AOp}(h:cop P o=some cl)(ha:cl.jX=true):
  (∃t,o.op= .alloc t)\/(∃t x,o.op= .box t x)\/(∃t n aC,o.op= .buildSlice t n aC)\/(∃t r,o.op= .makeMap t r):=by
 unfold cop at h;split at h
 all_goals first
  |(cases h;done)
  |(rename_i ho;exact .inl ⟨_,ho⟩)
  |(rename_i ho;exact .inr (.inl ⟨_,_,ho⟩))
  |(rename_i ho;exact .inr (.inr (.inl ⟨_,_,_,ho⟩)))
  |(rename_i ho;exact .inr (.inr (.inr ⟨_,_,ho⟩)))
  |(
    exfalso
    repeat' first
     |(cases h;cases ha;done)
     |(cases h;done)
     |(simp only[Option.map_eq_some_iff] at h;obtain⟨_,_,h⟩:=h)
     |(simp only[Option.bind_eq_bind,Option.bind_eq_some_iff,Option.pure_def,Option.some.injEq] at h)
     |split at h
     |(obtain⟨_,_,h⟩:=h)
     |(subst h;cases ha;done))
section
variable {P:Program}{env:Env}{J:ad}{w:World}{m:Nat->Option Nat}{B:Nat}{f:Nat}{al:aX AV}{a:Act}{o:Oper}{cl:AOp}{cz:AO}{oA:Nat->AV}
theorem a6d{t e:TypeId}{U:Option Nat}(hu:P.underlying t=some (.slice e))(ao:shapeOf P e=some U){z:AV}(bg:zeroOf P e=some z)(s0:z.cells.length=shN U){n:Nat}(hn:n*shN U<=16777216){aq:aF->Option AV}
  {aC:List (Nat×Nat×aF)} {hk:Array (Nat×Value)} {c:List AV}
  (ar:hG (λ(p:Nat×Nat×aF) (q:Nat×Value)=>(p.1=q.1/\p.2.1=shN U)/\∀v,aq p.2.2=some v->R w m (bj J m) B v q.2) aC hk.toList)
  (h:gU aq (λi bK=>i*bK) aC (f_ n z.cells)=some c):
  ∃arr:Array Value,(Instr.buildSlice t n hk).run P w= .ok (.slice (some ⟨w.heap.size,0,none⟩) n n) {w with heap:=w.heap.push (.cells arr e)}/\bz w m (bj J m) B c arr.toList/\(∀x∈c,conf none x=true)/\arr.size=n*shN U:=by
 obtain⟨_,cj,_⟩:=jY ao w;obtain⟨dZ,g2,kZ,k0⟩:=pj bg w;have lx:=(kZ w m (bj J m) B).cells;have kC:dZ.cells.size=shN U:=by have:=lx.1;simp at this;omega
 have oa:hG (λ(p:Nat×Nat×aF) (q:Nat×Value)=>(λi=>some (i*shN U,shN U)) q.1=some (p.1*p.2.1,p.2.1)/\∀v,aq p.2.2=some v->R w m (bj J m) B v q.2) aC hk.toList:=by
  clear h;revert ar;generalize hk.toList=fU
  induction aC generalizing fU with
  |nil=>cases fU<;>exact id
  |cons p aC aD=>
   cases fU with
   |nil=>exact id
   |cons q fU=>
    rintro⟨⟨⟨h1,h2⟩,au⟩,ak⟩;exact⟨⟨by rw[h1,h2],au⟩,aD fU ak⟩
 have l0:=wW lx n;have H2:=wX k0 n;have s3:dZ.cells.toList.length=shN U:=by simp[kC]
 rw[s3] at l0;obtain⟨lv,h1,h2,h3,aQ⟩:=zn (place:=λi=>some (i*shN U,shN U)) aC hk.toList (f_ n z.cells) c ((Array.range (n*shN U)).map λi=>dZ.cells.toList[i%shN U]!) oa
  (by simpa [Array.toList_range] using l0) H2 h
 have hE:(newRow e lv).run P w= .ok ⟨w.heap.size,0,none⟩ {w with heap:=w.heap.push (.cells lv e)}:=by simp[newRow]
 have wY:lv.size=n*shN U:=by
  have a3:=h2.1;have bm:=l0.1;simp at a3 bm;omega
 refine⟨lv,?_,h2,h3,wY⟩;have H3:¬(n*shN U > 2^24):=by omega
 simp only[Instr.buildSlice,Sem.run_bind,run_underlying hu,Result.andThen_ok,cj];rw[if_neg H3];by_cases h0:n*shN U=0
 ·have aN:((Array.range (n*shN U)).map λi=>dZ.cells.toList[i%shN U]!)= #[]:=by rw[h0];apply Array.ext';simp
  rw[aN] at h1;rw[if_pos h0];simp only[Sem.run_bind,Sem.run_pure,Result.andThen_ok,h0];have cQ:((Array.range 0).map λx=>(#[]:Array Value)[x%(#[]:Array Value).size]!)= #[]:=by apply Array.ext';simp
  rw[cQ,h1];simp[hE]
 ·have aN:((Array.range (n*shN U)).map λi=>dZ.cells.toList[i%shN U]!)=((Array.range (n*shN U)).map λi=>dZ.cells[i%dZ.cells.size]!):=by
   apply Array.ext';simp only[Array.toList_map,Array.toList_range];apply List.map_congr_left;intro a _;rw[kC,Array.getElem!_eq_getD,Array.getD_eq_getD_getElem?];simp
  rw[aN] at h1;simp only[h0,if_false,Sem.run_bind,g2,Result.andThen_ok,Sem.run_pure];simp only[h1];simp[hE]
theorem push_inj{o bH:AO}(h:J.push o=J.push bH):o=bH:=by
 have h1:=ad.iB (J:=J) o;have h2:=ad.iB (J:=J) bH;rw[h,h2] at h1;exact(Option.some.inj h1).symm
theorem a6e(c:Ctx P env J w m B al a)(aa:cop P o=some cl)(ha:cl.jX=true)(h:∀cx,opx f (evalA env al) cx cl=some (.val (oA cx.next) (cx.push cz))):
  a6b P w m (bj J m) B cz oA ((execOp a.eval o).run P w):=by
 have Dv:∀ {g:Nat->AV},(∀cx:ad,oA cx.next=g cx.next)->oA=g:=λhg=>funext λn=>hg ⟨.nil,n⟩;rcases a6c aa ha with⟨t,ho⟩|⟨t,x,ho⟩|⟨t,n,aC,ho⟩|⟨t,r,ho⟩
 ·simp only[cop,ho,Option.map_eq_some_iff] at aa;obtain⟨z,bg,rfl⟩:=aa;simp only[opx,Option.some.injEq,bL.val.injEq] at h;obtain rfl:=push_inj (h J).2;obtain rfl:=Dv (g:=λn=>iz n 0) (λcx=>(h cx).1.symm);obtain⟨u,h1,h2,hf⟩:=pj bg w;have fN:=(h2 w m (bj J m) B).cells;simp only[execOp,ho];refine⟨.pointer (some ⟨w.heap.size,0,none⟩),{w with heap:=w.heap.push (.cells u.cells t)},.cells u.cells t,by simp[Instr.alloc,h1,newVar,newRow],rfl,rfl,rfl,rfl,?_,λh9 oB zY zZ id mR _=>.p mR⟩;exact .cells (by have:=fN.1;simp at this;omega) (λi h h'=>by have:=fN.2 i h (by simpa using h');simpa using this) (λi _=>by simp) hf
 ·simp only[cop,ho,Option.map_eq_some_iff] at aa;obtain⟨bC,hx,rfl⟩:=aa;have h0:=h J;simp only[opx] at h0;split at h0<;>try (cases h0;done)
  rename_i bA au;cases hval:bA.val with
  |false=>rw[hval] at h0;cases h0
  |true=>
   simp only[opx,au,hval,cond_true,Option.some.injEq,bL.val.injEq] at h;obtain rfl:=push_inj (h J).2;obtain rfl:=Dv (g:=λn=>iz n 0) (λcx=>(h cx).1.symm);have fN:=(c.aq hx au).cells;simp only[execOp,ho];refine⟨.pointer (some ⟨w.heap.size,0,none⟩),{w with heap:=w.heap.push (.cells (a.eval x).cells t)},.cells (a.eval x).cells t,by simp[Instr.box,newVar,newRow],rfl,rfl,rfl,rfl,?_,λh9 oB zY zZ id mR _=>.p mR⟩;exact .cells (by have:=fN.1;simp at this;omega) (λi h h'=>by have:=fN.2 i h (by simpa using h');simpa using this) (λi _=>by simp) (HY (c.aq hx au) hval)
 ·-- a slice:one new row,made as 'b9n b9o
  simp only[cop,ho,Option.bind_eq_bind,Option.bind_eq_some_iff] at aa;obtain⟨⟨e,U⟩,he,z,bg,l,hl,aa⟩:=aa;split at aa<;>cases aa;rename_i fp;obtain⟨hu,ao⟩:=xa he;have h0:=h J;simp only[opx] at h0;split at h0<;>try (cases h0;done)
  rename_i cs qF;simp only[opx,qF,Option.some.injEq,bL.val.injEq] at h;obtain rfl:=push_inj (h J).2;obtain rfl:=Dv (g:=λk=>.al k 0 n U (some n)) (λcx=>(h cx).1.symm);simp only[execOp,ho];have hall:hG (λ(p:Nat×Nat×aF) (q:Nat×Value)=>(p.1=q.1/\p.2.1=shN U)/\∀v,evalA env al p.2.2=some v->R w m (bj J m) B v q.2) (l.map λp=>(p.1,shN U,p.2)) ((aC.map λ(x:Nat×Operand)=>(x.1,a.eval x.2)).toList):=by
   rw[Array.toList_map];have:=zm (g:=λ(x:Nat×Operand)=>(x.1,a.eval x.2)) (r:=λ(p:Nat×aF) (q:Nat×Value)=>p.1=q.1/\∀v,evalA env al p.2=some v->R w m (bj J m) B v q.2) (λp q g3=>by
    split at g3<;>cases g3;rename_i x h2;exact⟨rfl,λv au=>c.aq h2 au⟩) hl
   revert this;generalize aC.toList.map (λ(x:Nat×Operand)=>(x.1,a.eval x.2))=fU;clear qF hl h h0 ha
   induction l generalizing fU with
   |nil=>cases fU<;>exact id
   |cons p l aD=>
    cases fU with
    |nil=>exact id
    |cons q fU=>
     rintro⟨⟨h1,h2⟩,h3⟩;exact⟨⟨⟨h1,rfl⟩,h2⟩,aD fU h3⟩
  obtain⟨arr,b2,fN,jl,cj⟩:=a6d (J:=J) (m:=m) (B:=B) hu ao bg fp.2 fp.1 hall qF;refine⟨.slice (some ⟨w.heap.size,0,none⟩) n n,{w with heap:=w.heap.push (.cells arr e)},.cells arr e,by simp[b2],rfl,rfl,rfl,rfl,?_,λh9 oB zY zZ id mR jE=>?_⟩
  ·exact .cells (by have:=fN.1;simp at this;omega) (λi h h'=>by have:=fN.2 i h (by simpa using h');simpa using this) (λi _=>by simp) jl
  ·exact .al mR (Nat.le_refl _) (λc aa=>by cases aa;rfl) (n:=arr.size) (by unfold dV;rw[jE]) (by omega)
 ·simp only[cop,ho] at aa;simp only[execOp,ho];have key:(Instr.makeMap t (r.map a.eval)).run P w= .ok (.map (some w.heap.size)) {w with heap:=w.heap.push (.map #[] 0)}/\cl= .mkMap:=by
   split at aa<;>cases aa
   ·exact⟨by simp[Instr.makeMap],rfl⟩
   ·rename_i ht;exact⟨by simp[Instr.makeMap,run_underlying ht,Act.eval,asInt,asIntOf],rfl⟩
  obtain⟨key,rfl⟩:=key;simp only[opx,Option.some.injEq,bL.val.injEq] at h;obtain rfl:=push_inj (h J).2;obtain rfl:=Dv (g:=λn=>.m (some n)) (λcx=>(h cx).1.symm);exact⟨.map (some w.heap.size),{w with heap:=w.heap.push (.map #[] 0)},.map #[] 0,by simp[key],rfl,rfl,rfl,rfl,.map I (λi h=>by simp at h),λh9 oB zY zZ id mR _=>.mp mR⟩
theorem Rel.Ja(ak:Rel P J w m B){id:Nat}(mR:id<J.next)(hm:m id=none){av:World}{bH:Obj}(hg:J.get id=some cz)(hh:av.heap=w.heap.push bH)(kd:kW P w m (bj J m) B cz bH):
  Rel P J av (bindM m id w.heap.size) B/\(∀i b,m i=some b->bindM m id w.heap.size i=some b)/\w.heap.size<=av.heap.size/\(∀b n,dV w b=some n->dV av b=some n)∧
   (∀b,b<w.heap.size->av.heap[b]? =w.heap[b]?)/\(∀aB,aB<w.heap.size->¬bj J m aB->av.heap[aB]? =w.heap[aB]? ∧¬bj J (bindM m id w.heap.size) aB)/\av.heap[w.heap.size]? =some bH:=by
 have cj:av.heap.size=w.heap.size+1:=by rw[hh];simp
 have hold:∀b,b<w.heap.size->av.heap[b]? =w.heap[b]? :=λb hb=>by
  rw[hh,Array.getElem?_push];rw[if_neg (by omega)]
 have kv:av.heap[w.heap.size]? =some bH:=by rw[hh];simp
 have iq:∀i b,m i=some b->bindM m id w.heap.size i=some b:=λi b h=>by
  rw[hD m _ _ (λe=>by subst e;rw[hm] at h;cases h)];exact h
 have gl:∀b n,dV w b=some n->dV av b=some n:=by
  intro b n hb;have:b<w.heap.size:=by
   rcases Nat.lt_or_ge b w.heap.size with h|h
   ·exact h
   ·simp[dV,Array.getElem?_eq_none h] at hb
  unfold dV at hb ⊢;rw[hold b this];exact hb
 have z0:∀aB,aB<w.heap.size->¬bj J m aB->av.heap[aB]? =w.heap[aB]? ∧¬bj J (bindM m id w.heap.size) aB:=λaB hb cb=>by
  refine⟨hold aB hb,?_⟩;rintro⟨i,h1,h2⟩;by_cases hi:i=id
  ·subst hi;rw[gz] at h1;cases h1;omega
  ·rw[hD m _ _ hi] at h1;exact cb ⟨i,h1,h2⟩
 refine⟨⟨ak.len,?_,?_,?_,?_,by have:=ak.kY;omega⟩,iq,by omega,gl,hold,z0,kv⟩
 ·intro i b h;by_cases hi:i=id
  ·subst hi;rw[gz] at h;cases h;exact⟨by omega,mR⟩
  ·rw[hD m _ _ hi] at h;have:=ak.fk _ _ h;exact⟨by omega,this.2⟩
 ·intro i b dy h qL hd;by_cases hi:i=id
  ·subst hi;rw[gz] at h;cases h;rw[hg] at qL;cases qL;exact⟨bH,kv,kd.mono iq (by omega) gl z0⟩
  ·rw[hD m _ _ hi] at h;obtain⟨hc,h1,h2⟩:=ak.obj i b dy h qL hd;exact⟨hc,by rw[hold _ (ak.fk _ _ h).1];exact h1,h2.mono iq (by omega) gl z0⟩
 ·intro i kx b h h' hl rK;by_cases hi:i=id
  ·by_cases cY:kx=id
   ·rw[hi,cY]
   ·subst hi;rw[gz] at h;cases h;rw[hD m _ _ cY] at h';have:=(ak.fk _ _ h').1;omega
  ·rw[hD m _ _ hi] at h;by_cases cY:kx=id
   ·subst cY;rw[gz] at h';cases h';have:=(ak.fk _ _ h).1;omega
   ·rw[hD m _ _ cY] at h';exact ak.inj i kx b h h' hl rK
 ·intro i b h;by_cases hi:i=id
  ·subst hi;rw[gz] at h;cases h;exact ak.kY
  ·rw[hD m _ _ hi] at h;exact ak.base _ _ h
theorem ew.mono{ab:Fr}{af:ad}{av:World}{aP:Nat->Option Nat}(s:ew P env ab a J w m B)(pr:Rel P af av aP B)(hm:∀id aB,m id=some aB->aP id=some aB)(cj:w.heap.size<=av.heap.size)
  (gl:∀b n,dV w b=some n->dV av b=some n) (az:∀aB,aB<w.heap.size->¬bj J m aB->av.heap[aB]? =w.heap[aB]? ∧¬bj af aP aB):ew P env ab a af av aP B:=
 ⟨⟨pr,s.ctx.a_.mono hm cj gl az,λg v hg dW=>(s.ctx.globs g v hg dW).mono (λ_ _ h=>h) cj gl (λb hb cb=>⟨(az b hb (λ⟨i,h1,_⟩=>cb (s.ctx.rel.base _ _ h1))).1,cb⟩)⟩,
  zD (λd hY hd=>by
   cases d with
   |inl id=>obtain⟨aB,h1,h2⟩:=hd;exact⟨aB,hm _ _ h1,h2⟩
   |inr p=>obtain⟨g,a2,cs,fT,eQ,us,h1,h2,h3,aQ,bJ⟩:=hd;exact⟨g,a2,cs,fT,eQ,us,h1,h2,h3.mono hm cj gl az,aQ.mono hm cj gl az,bJ.mono hm cj gl az⟩) s.defs⟩
theorem QW(ak:Rel P J w m B)(o:AO)(aB:Nat):bj (J.push o) m aB↔bj J m aB:=by
 constructor
 ·rintro⟨i,h1,dy,h2,h3⟩;rw[ad.fD ak.len o (ak.fk _ _ h1).2] at h2;exact⟨i,h1,dy,h2,h3⟩
 ·rintro⟨i,h1,dy,h2,h3⟩;exact⟨i,h1,dy,by rw[ad.fD ak.len o (ak.fk _ _ h1).2];exact h2,h3⟩
theorem Rel.z1(ak:Rel P J w m B)(o:AO):Rel P (J.push o) w m B:=by
 have az:∀aB,aB<w.heap.size->¬bj J m aB->w.heap[aB]? =w.heap[aB]? ∧¬bj (J.push o) m aB:=λaB _ cb=>⟨rfl,λh=>cb ((QW ak o aB).1 h)⟩
 refine⟨trivial,λi b h=>⟨(ak.fk _ _ h).1,Nat.lt_succ_of_lt (ak.fk _ _ h).2⟩,λi b dy h hg hd=>?_,λi kx b h h' hl rK=>?_,ak.base,ak.kY⟩
 ·rw[ad.fD ak.len o (ak.fk _ _ h).2] at hg;obtain⟨hc,h1,h2⟩:=ak.obj i b dy h hg hd;exact⟨hc,h1,h2.mono (λ_ _ h=>h) (Nat.le_refl _) (λ_ _ h=>h) az⟩
 ·refine ak.inj i kx b h h' ?_ ?_
  ·obtain⟨dy,h2,h3⟩:=hl;rw[ad.fD ak.len o (ak.fk _ _ h).2] at h2;exact⟨dy,h2,h3⟩
  ·obtain⟨dy,h2,h3⟩:=rK;rw[ad.fD ak.len o (ak.fk _ _ h').2] at h2;exact⟨dy,h2,h3⟩
theorem ew.z1{ab:Fr}(s:ew P env ab a J w m B)(o:AO):ew P env ab a (J.push o) w m B:=
 s.mono (s.ctx.rel.z1 o) (λ_ _ h=>h) (Nat.le_refl _) (λ_ _ h=>h) (λaB _ cb=>⟨rfl,λh=>cb ((QW s.ctx.rel o aB).1 h)⟩)
theorem Ext.z1{cT:ad}{eK:World}{er:Nat->Option Nat}(h:Ext f cT eK er J w m)(hl:True)(o:AO):Ext f cT eK er (J.push o) w m where
 mono:=h.mono
 new:=h.new
 next:=Nat.le_trans h.next (Nat.le_succ _)
 size:=h.size
 bI:=h.bI
 aO:=h.aO
 low id h1 h2:=by rw[ad.fD hl o (Nat.lt_of_lt_of_le h2 h.next)];exact h.low id h1 h2
 dead id h1 h2:=h.dead id h1 (by
  obtain⟨dy,h3,aQ⟩:=h2;rw[ad.fD hl o (Nat.lt_of_lt_of_le h1 h.next)] at h3;exact⟨dy,h3,aQ⟩)
 os:=h.os
 tape:=h.tape
 out:=h.out
 un id h1 h2:=by rw[ad.fD hl o (Nat.lt_of_lt_of_le h1 h.next)];exact h.un id h1 h2
theorem Ext.Ja{cT:ad}{eK:World}{er:Nat->Option Nat}(h:Ext f cT eK er J w m){id:Nat}(mR:cT.next<=id){av:World}{bH:Obj}(hm:m id=none)(hh:av.heap=w.heap.push bH)(ku:av.os=w.os)(nj:av.tape=w.tape)(kc:av.output=w.output):
  Ext f cT eK er J av (bindM m id w.heap.size):=by
 have cj:av.heap.size=w.heap.size+1:=by rw[hh];simp
 have hold:∀b,b<w.heap.size->av.heap[b]? =w.heap[b]? :=λb hb=>by
  rw[hh,Array.getElem?_push];rw[if_neg (by omega)]
 refine⟨λi b hb=>?_,λi b hb=>?_,h.next,by have:=h.size;omega,λb n hb=>?_,λb hb cb=>?_,h.low,h.dead,ku.trans h.os,nj.trans h.tape,kc.trans h.out,h.un⟩
 ·have:=h.mono _ _ hb;rw[hD m _ _ (λe=>by subst e;rw[hm] at this;cases this)];exact this
 ·by_cases hi:i=id
  ·subst hi;rw[gz] at hb;cases hb;exact .inr ⟨mR,.inl h.size⟩
  ·rw[hD m _ _ hi] at hb;exact h.new _ _ hb
 ·have h1:=h.bI _ _ hb;have:b<w.heap.size:=by
   rcases Nat.lt_or_ge b w.heap.size with h|h
   ·exact h
   ·simp[dV,Array.getElem?_eq_none h] at h1
  unfold dV at h1 ⊢;rw[hold b this];exact h1
 ·rw[hold b (by have:=h.size;omega)];exact h.aO b hb cb
end
def DStep(env:Env)(f:Nat)(call:kU)(aU:aY)(s:aX AV)(J:ad)(v:AV)(bP:ad):Prop:=
 (wantedA aU.guard s=false/\v=dB/\bP=J)∨
 (wantedA aU.guard s=true/\opx f (evalA env s) J aU.op=some (.val v bP))∨
 (wantedA aU.guard s=true/\∃cd args,opx f (evalA env s) J aU.op=some (.call cd args)/\call cd args J=some [(.ok v,bP)])
noncomputable def mT (s:aX AV) (d:Option Nat) (v:AV):aX AV:=match d with|some d=>s.set d v|none=>s
theorem a6f(ab:Fr)(d:Option Nat)(v:AV):(ab.put d v).a_=mT ab.a_ d v:=by
 cases d<;>rfl
theorem put_eq(al:aX AV)(ds:List (Nat ⊕ (AV×List AV)))(rc:Bool)(d:Option Nat)(v:AV):Fr.put ⟨al,ds,rc⟩ d v=⟨mT al d v,ds,rc⟩:=by
 cases d with
 |none=>rfl
 |some d=>rfl
theorem put_defers(ab:Fr)(d:Option Nat)(v:AV):(ab.put d v).defers=ab.defers/\(ab.put d v).fi=ab.fi:=by
 cases d<;>exact⟨rfl,rfl⟩
structure Trace(env:Env)(f:Nat)(call:kU)(pl:List aY)(s:Nat->aX AV)(S:Nat->ad)(v:Nat->AV):Prop where
 step:∀(p:Nat) (aU:aY),pl[p]? =some aU->DStep env f call aU (s p) (S p) (v p) (S (p+1))
 put:∀(p:Nat) (aU:aY),pl[p]? =some aU->s (p+1)=mT (s p) aU.dst (v p)
def Jb(env:Env)(f:Nat)(call:kU)(pl:List aY)(ab a9:Fr)(cp eC:List ad)(ws pC:List qs)(J af:ad):Prop:=
 ∃s S v,Trace env f call pl s S v/\s 0=ab.a_/\S 0=J/\s pl.length=a9.a_/\S pl.length=af/\a9.defers=ab.defers/\a9.fi=ab.fi∧
  (af::eC).reverse=cp.reverse++(List.range (pl.length+1)).map S/\(∀x∈ws,x∈pC)∧
  ∀p aU,pl[p]? =some aU->wantedA aU.guard (s p)=true->aU.op.fj=false->aU.iS≠[]->(aU,s p,v p)∈pC
section
variable {env:Env}{f:Nat}{call:kU}
theorem Jc{o:aY}{pl:List aY}{ab a9:Fr}{cp eC:List ad}{ws Jd pC:List qs}{J bP af:ad}{v0:AV}(ao:DStep env f call o ab.a_ J v0 bP)
  (aD:Jb env f call pl (ab.put o.dst v0) a9 (J::cp) eC Jd pC bP af) (a6g:∀x∈ws,x∈Jd)
  (a6h:wantedA o.guard ab.a_=true->o.op.fj=false->o.iS≠[]->(o,ab.a_,v0)∈Jd):Jb env f call (o::pl) ab a9 cp eC ws pC J af:=by
 obtain⟨s,S,v,ht,h1,h2,h3,aQ,bJ,cu,ej,iH,mO⟩:=aD;obtain⟨nE,oz⟩:=put_defers ab o.dst v0;refine⟨λp=>Nat.casesOn p ab.a_ s,λp=>Nat.casesOn p J S,λp=>Nat.casesOn p v0 v,⟨λp aU ar=>?_,λp aU ar=>?_⟩,rfl,rfl,h3,aQ,bJ.trans nE,cu.trans oz,?_,λx hx=>iH x (a6g x hx),λp aU ar hw he hn=>?_⟩
 ·cases p with
  |zero=>simp at ar;subst ar;show DStep env f call o ab.a_ J v0 (S 0);rw[h2];exact ao
  |succ p=>exact ht.step p aU (by simpa using ar)
 ·cases p with
  |zero=>simp at ar;subst ar;show s 0=mT ab.a_ o.dst v0;rw[h1,a6f]
  |succ p=>exact ht.put p aU (by simpa using ar)
 ·rw[ej,List.length_cons,List.range_succ_eq_map (n:=pl.length+1)];simp only[List.reverse_cons,List.map_cons,List.map_map,List.append_assoc,List.singleton_append];rfl
 ·cases p with
  |zero=>simp at ar;subst ar;exact iH _ (a6h hw he hn)
  |succ p=>exact mO p aU (by simpa using ar) hw he hn
theorem runDraw_cons(o:aY)(pl:List aY)(ab:Fr)(cp:List ad)(ws:List qs)(J:ad):h4 env f call (o::pl) ab cp ws J=
  cond (wantedA o.guard ab.a_)
   (match opx f (evalA env ab.a_) J o.op with
    |some (.val v af)=>h4 env f call pl (ab.put o.dst v) (J::cp) (match o.iS with|[]=>ws|_::_=>(o,ab.a_,v)::ws) af
    |some (.call cd args)=>match call cd args J with
     |some [(.ok v,af)]=>h4 env f call pl (ab.put o.dst v) (J::cp) ws af
     |_=>none
    |_=>none)
   (h4 env f call pl (ab.put o.dst dB) (J::cp) ws J):=by
 rw[<-u_,← ON,← OO,← HI];rfl
theorem Dw:∀(pl:List aY) (ab a9:Fr) (cp eC:List ad) (ws pC:List qs) (J af:ad),h4 env f call pl ab cp ws J=some (a9,eC,pC,af)->Jb env f call pl ab a9 cp eC ws pC J af
 |[],ab,a9,cp,eC,ws,pC,J,af,h=>by
  have h:some (ab,cp,ws,J)=some (a9,eC,pC,af):=h;cases h;exact⟨λ_=>ab.a_,λ_=>J,λ_=>dB,⟨λp aU ar=>by simp at ar,λp aU ar=>by simp at ar⟩,rfl,rfl,rfl,rfl,rfl,rfl,by simp,λ_ h=>h,λp aU ar=>by simp at ar⟩
 |o::pl,ab,a9,cp,eC,ws,pC,J,af,h=>by
  rw[runDraw_cons] at h;cases hw:wantedA o.guard ab.a_ with
  |false=>
   rw[hw,cond_false] at h;exact Jc (.inl ⟨hw,rfl,rfl⟩) (Dw pl _ _ _ _ _ _ _ _ h) (λ_ h=>h) (λh=>by rw[hw] at h;cases h)
  |true=>
   rw[hw,cond_true] at h;split at h
   ·rename_i v bP hx;refine Jc (.inr (.inl ⟨hw,hx⟩)) (Dw pl _ _ _ _ _ _ _ _ h) (λx hx=>?_) (λ_ _ hn=>?_)
    ·split
     ·exact hx
     ·exact List.mem_cons_of_mem _ hx
    ·split
     ·rename_i he;exact absurd he hn
     ·exact List.mem_cons_self
   ·rename_i cd args hx;split at h
    ·rename_i v bP fH;obtain⟨c,as,dK,_,_⟩:=td hx;exact Jc (.inr (.inr ⟨hw,cd,args,hx,fH⟩)) (Dw pl _ _ _ _ _ _ _ _ h) (λ_ h=>h) (λ_ he=>by rw[dK] at he;cases he)
    ·cases h
   ·cases h
end
structure gD(P:Program)(env:Env)(B f:Nat)(r:Option Nat)(ops:Array Oper)(pl:List aY)(bb cN:Nat->Nat)(cO:Nat->Nat->Bool)(call:kU)(s:Nat->aX AV)(S:Nat->ad)(v:Nat->AV):Prop where
 spec:QF P ops pl bb cN cO
 a6i:zE P env B f r call
 mg:Trace env f call pl s S v
 steady:∀(p:Nat) (aU:aY),pl[p]? =some aU->wantedA aU.guard (s p)=true->aU.op.fj=false->∀q∈aU.iS,∃cx,opx f (evalA env (s p)) (S q) aU.op=some (.val (v p) cx)
 kk:∀p q,zU pl cO p q->∀bC eh s1 a3 fh s2 bm nD,pl[p]? =some bC->pl[q]? =some eh->bC.op= .store s1 a3 fh->eh.op= .store s2 bm nD->∃i xx j xy,evalA env (s p) a3=some (.p (some (i,xx)))/\evalA env (s q) bm=some (.p (some (j,xy)))/\i≠j
def c9(bb:Nat->Nat)(listed:Array Bool)(p:Nat):Prop:=listed.getD (bb p) false=true
structure tp(pl:List aY)(v:Nat->AV)(xz:aX AV)(D:Nat->Prop)(cV:aX AV):Prop where
 fk:∀t,(cV.get t).isSome=(xz.get t).isSome
 k3:∀(p:Nat) (aU:aY) (t:Nat),pl[p]? =some aU->D p->aU.dst=some t->(xz.get t).isSome=true->cV.get t=some (v p)
 vo:∀(t:Nat),(∀(p:Nat) (aU:aY),pl[p]? =some aU->D p->aU.dst≠some t)->cV.get t=xz.get t
structure nF(pl:List aY)(s:Nat->aX AV)(S:Nat->ad)(cT:ad)(D:Nat->Prop)(m:Nat->Option Nat)(k:Nat):Prop where
 one:∀(p:Nat) (aU:aY),p<k->pl[p]? =some aU->aU.op.jX=true->wantedA aU.guard (s p)=true->¬D p->m (S p).next=none/\cT.next<=(S p).next/\(S p).next<(S k).next/\(S k).get (S p).next=(S (p+1)).get (S p).next
 lt:∀(p d_:Nat) (aU gN:aY),p<d_->d_<k->pl[p]? =some aU->pl[d_]? =some gN->aU.op.jX=true->gN.op.jX=true->wantedA aU.guard (s p)=true->wantedA gN.guard (s d_)=true->¬D p->¬D d_->(S p).next<(S d_).next
section
variable {P:Program}{env:Env}{B f:Nat}{r:Option Nat}{ops:Array Oper}{pl:List aY}{bb cN:Nat->Nat}{cO:Nat->Nat->Bool}{call:kU}{s:Nat->aX AV}{S:Nat->ad}{v:Nat->AV}
theorem gD.lt(c:gD P env B f r ops pl bb cN cO call s S v){p:Nat}{aU:aY}(h:pl[p]? =some aU):p<ops.size:=by
 have:=(List.getElem?_eq_some_iff.1 h).1;have:=c.spec.len;omega
theorem gD.get(c:gD P env B f r ops pl bb cN cO call s S v){p:Nat}(h:p<ops.size):∃aU,pl[p]? =some aU:=
 ⟨_,List.getElem?_eq_getElem (by have:=c.spec.len;omega)⟩
theorem gD.zW(c:gD P env B f r ops pl bb cN cO call s S v){p q:Nat}{aU dd:aY}{d:Nat}(ar:pl[p]? =some aU)(aS:pl[q]? =some dd)(h1:aU.dst=some d)(h2:dd.dst=some d):p=q:=by
 rcases Nat.lt_trichotomy p q with h|h|h
 ·exact absurd h2 (c.spec.zW p q aU dd d h ar aS h1)
 ·exact h
 ·exact absurd h1 (c.spec.zW q p dd aU d h aS ar h2)
theorem QX{cV:aX AV}{d:Option Nat}{t:Nat}(h:d≠some t)(x:AV):(mT cV d x).get t=cV.get t:=by
 cases d with
 |none=>rfl
 |some e=>
  show(cV.set e x).get t=_;rw[aX.h5,if_neg (λhe=>h (by rw[he]))]
theorem tp.put(c:gD P env B f r ops pl bb cN cO call s S v){xz cV:aX AV}{D kF:Nat->Prop}(h:tp pl v xz D cV){p:Nat}{aU:aY}(ar:pl[p]? =some aU)(dq:¬D p)(xA:∀(q:Nat) (dd:aY),pl[q]? =some dd->(kF q↔D q\/q=p)):tp pl v xz kF (mT cV aU.dst (v p)):=by
 refine⟨λt=>?_,λq dd t aS hd ht hlt=>?_,λt hm=>?_⟩
 ·rw[<-h.fk t];cases h7:aU.dst with
  |none=>rfl
  |some e=>
   show((cV.set e (v p)).get t).isSome=_;rw[aX.h5];by_cases he:t=e
   ·subst he;rw[if_pos I];cases cV.get t<;>rfl
   ·rw[if_neg he]
 ·rcases(xA q dd aS).1 hd with hd|rfl
  ·have a5:aU.dst≠some t:=λe=>by
    have:=c.zW ar aS e ht;subst this;exact dq hd
   rw[<-h.k3 q dd t aS hd ht hlt];exact QX a5 _
  ·rw[ar] at aS;cases aS;rw[ht];show(cV.set t (v q)).get t=_;rw[aX.h5,if_pos I];have:=h.fk t;rw[hlt] at this;cases hg:cV.get t with
   |none=>rw[hg] at this;cases this
   |some y=>rfl
 ·have a5:=hm p aU ar ((xA p aU ar).2 (.inr I));rw[<-h.vo t (λq dd aS hd=>hm q dd aS ((xA q dd aS).2 (.inl hd)))];exact QX a5 _
theorem Je(c:gD P env B f r ops pl bb cN cO call s S v):∀k,k<=ops.size->tp pl v (s 0) (· <k) (s k)
 |0,_=>⟨λ_=>rfl,λp aU t ar hd=>by omega,λt _=>rfl⟩
 |k+1,az=>by
  obtain⟨aU,kG⟩:=c.get (p:=k) (by omega);rw[c.mg.put k aU kG];exact(Je c k (by omega)).put c kG (Nat.lt_irrefl k) (λq dd _=>⟨λh=>by have:q<k+1:=h;show q<k\/q=k;omega,λh=>by show q<k+1;rcases h with h|h<;>omega⟩)
theorem QY(c:gD P env B f r ops pl bb cN cO call s S v){cV:aX AV}{D:Nat->Prop}(h:tp pl v (s 0) D cV){p:Nat}{aU:aY}(ar:pl[p]? =some aU)(dq:¬D p)
  (h8:∀q,cO q p=true->D q) (fH:∀q,q<ops.size->D q->∀x,cO x q=true->D x):∀t∈aU.reads,cV.get t=(s p).get t:=by
 intro t ht;have iF:=c.lt ar;have aa:=Je c p (by omega);by_cases hex:∃(q:Nat) (dd:aY),pl[q]? =some dd/\dd.dst=some t
 ·obtain⟨q,dd,aS,z2⟩:=hex;have QZ:∀lC vp,pl[lC]? =some vp->vp.dst=some t->lC=q:=λlC vp h1 h2=>c.zW h1 aS h2 z2;have Q0:¬D q->cV.get t=(s 0).get t:=λhnd=>h.vo t (λlC vp h1 hd h2=>by have:=QZ lC vp h1 h2;subst this;exact hnd hd);have Q1:¬q<p->(s p).get t=(s 0).get t:=λhnd=>aa.vo t (λlC vp h1 hd h2=>by have:=QZ lC vp h1 h2;subst this;exact hnd hd);by_cases hlt:((s 0).get t).isSome=true
  ·rcases Nat.lt_trichotomy q p with vq|vq|vq
   ·have z3:D q:=by
     rcases c.spec.QH q p dd aU vq aS ar with h1|h1
     ·exact h8 q h1
     ·exact absurd ht (h1.1 t z2)
    rw[h.k3 q dd t aS z3 z2 hlt,aa.k3 q dd t aS vq z2 hlt]
   ·subst vq;rw[Q0 dq,Q1 (by omega)]
   ·have z3:¬D q:=λz3=>by
     rcases c.spec.QH p q aU dd vq ar aS with h1|h1
     ·exact dq (fH q (c.lt aS) z3 p h1)
     ·exact absurd ht (h1.2 t z2)
    rw[Q0 z3,Q1 (by omega)]
  ·have aN:=h.fk t;have a4:=aa.fk t;cases hg:(s 0).get t with
   |some y=>rw[hg] at hlt;exact absurd I hlt
   |none=>
    rw[hg] at aN a4;cases qL:cV.get t with
    |some y=>rw[qL] at aN;cases aN
    |none=>
     cases w6:(s p).get t with
     |some y=>rw[w6] at a4;cases a4
     |none=>rfl
 ·rw[h.vo t (λq dd h1 _ h2=>hex ⟨q,dd,h1,h2⟩),aa.vo t (λq dd h1 _ h2=>hex ⟨q,dd,h1,h2⟩)]
theorem Q2{cV sp:aX AV}{aU:aY}(h:∀t∈aU.reads,cV.get t=sp.get t):∀x∈aU.op.opnds,evalA env cV x=evalA env sp x:=by
 intro x hx;cases x with
 |t i=>
  show cV.get i=sp.get i;exact h i (List.mem_append_right _ (List.mem_filterMap.2 ⟨_,hx,rfl⟩))
 |c v=>rfl
 |g g=>rfl
theorem Q3{cV sp:aX AV}{aU:aY}(h:∀t∈aU.reads,cV.get t=sp.get t):wantedA aU.guard cV=wantedA aU.guard sp:=by
 cases hg:aU.guard with
 |none=>rfl
 |some g=>
  obtain⟨d,b⟩:=g;simp only[wantedA];rw[h d (by simp[aY.reads,hg])]
theorem a6j{op:AOp}(h:op.jX=true):op.fj=false:=by
 cases op<;>first|rfl|cases h
theorem gD.calm(c:gD P env B f r ops pl bb cN cO call s S v){p:Nat}{aU:aY}(ar:pl[p]? =some aU)(he:aU.op.fj=false):
  S (p+1)=S p/\(aU.op.jX=false\/wantedA aU.guard (s p)=false)\/∃cz,aU.op.jX=true/\wantedA aU.guard (s p)=true/\S (p+1)=(S p).push cz:=by
 rcases c.mg.step p aU ar with⟨h1,_,h2⟩|⟨h1,h2⟩|⟨h1,cd,args,h2,_⟩
 ·exact .inl ⟨h2,.inr h1⟩
 ·cases ha:aU.op.jX with
  |false=>
   obtain⟨bA,h3,_⟩:=Du he ha h2;simp only[bL.val.injEq] at h3;exact .inl ⟨h3.2,.inl I⟩
  |true=>
   obtain⟨cz,oA,h3,_,_⟩:=QV ha h2;simp only[bL.val.injEq] at h3;exact .inr ⟨cz,rfl,h1,h3.2⟩
 ·obtain⟨an,as,dK,_,_⟩:=td h2;rw[dK] at he;cases he
theorem advance(c:gD P env B f r ops pl bb cN cO call s S v){ab:Fr}{a:Act}{w eK:World}{m er:Nat->Option Nat}{cT:ad}{D:Nat->Prop}:∀(d k:Nat),k+d<=ops.size->(∀p aU,k<=p->p<k+d->pl[p]? =some aU->aU.op.fj=false)→
  ew P env ab a (S k) w m B->Ext f cT eK er (S k) w m->nF pl s S cT D m k->ew P env ab a (S (k+d)) w m B/\Ext f cT eK er (S (k+d)) w m/\nF pl s S cT D m (k+d)
 |0,k,_,_,h1,h2,h3=>⟨h1,h2,h3⟩
 |d+1,k,az,md,h1,h2,h3=>by
  obtain⟨i1,i2,i3⟩:=advance c d k (by omega) (λp aU aQ bJ=>md p aU aQ (by omega)) h1 h2 h3;obtain⟨aU,kG⟩:=c.get (p:=k+d) (by omega);have he:=md (k+d) aU (by omega) (by omega) kG;show ew P env ab a (S (k+d+1)) w m B/\Ext f cT eK er (S (k+d+1)) w m/\nF pl s S cT D m (k+d+1);rcases c.calm kG he with⟨cP,kd⟩|⟨cz,kg,hw,cP⟩
  ·have Q4:∀p gN,p<k+d+1->pl[p]? =some gN->gN.op.jX=true->wantedA gN.guard (s p)=true->p<k+d:=λp gN ar hg ha hw=>by
    rcases Nat.lt_or_ge p (k+d) with h|h
    ·exact h
    ·have:p=k+d:=by omega
     subst this;rw[kG] at hg;cases hg;rcases kd with h|h
     ·rw[ha] at h;cases h
     ·rw[hw] at h;cases h
   refine⟨by rw[cP];exact i1,by rw[cP];exact i2,⟨λp gN ar hg ha hw hd=>?_,λp d_ Dx Dy ar oa bN bQ a3 bm bR h9 d1 d2=>?_⟩⟩
   ·obtain⟨pD,pE,pF,r8⟩:=i3.one p gN (Q4 p gN ar hg ha hw) hg ha hw hd;exact⟨pD,pE,by rw[cP];exact pF,by rw[cP];exact r8⟩
   ·exact i3.lt p d_ Dx Dy ar (Q4 d_ Dy oa bQ bm h9) bN bQ a3 bm bR h9 d1 d2
  ·have hlen:=i1.ctx.rel.len;refine⟨by rw[cP];exact i1.z1 cz,by rw[cP];exact i2.z1 hlen cz,⟨λp gN ar hg ha hw hd=>?_,λp d_ Dx Dy ar oa bN bQ a3 bm bR h9 d1 d2=>?_⟩⟩
   ·rcases Nat.lt_or_ge p (k+d) with h|h
    ·obtain⟨pD,pE,pF,r8⟩:=i3.one p gN h hg ha hw hd;refine⟨pD,pE,by rw[cP];exact Nat.lt_succ_of_lt pF,by rw[cP,ad.fD hlen cz pF];exact r8⟩
    ·have:p=k+d:=by omega
     subst this;exact⟨i1.ctx.rel.a1F,i2.next,by rw[cP];exact Nat.lt_succ_self _,rfl⟩
   ·rcases Nat.lt_or_ge d_ (k+d) with h|h
    ·exact i3.lt p d_ Dx Dy ar h bN bQ a3 bm bR h9 d1 d2
    ·have:d_=k+d:=by omega
     subst this;exact(i3.one p Dx ar bN a3 bR d1).2.2.1
end
structure Inv(P:Program)(env:Env)(B f:Nat)(ops:Array Oper)(pl:List aY)(bb:Nat->Nat)(cO:Nat->Nat->Bool)(s:Nat->aX AV)(S:Nat->ad)(v:Nat->AV)(ds:List (Nat ⊕ (AV×List AV)))(rc:Bool)(cT:ad)(eK:World)(er:Nat->Option Nat)
  (listed:Array Bool) (a:Act) (w:World) (dr:Nat) (m:Nat->Option Nat) (cV:aX AV):Prop where
 r9:Rel P cT eK er B
 size:listed.size=ops.size
 closed:∀p,p<ops.size->c9 bb listed p->∀q,cO q p=true->c9 bb listed q
 Q5:dr<=ops.size
 xB:dr=ops.size\/∃(dL:aY),pl[dr]? =some dL/\dL.op.fj=true/\¬c9 bb listed dr
 before:∀(e:Nat) (dL:aY),e<dr->pl[e]? =some dL->dL.op.fj=true->c9 bb listed e
 after:∀(e:Nat) (dL:aY),dr<e->pl[e]? =some dL->dL.op.fj=true->¬c9 bb listed e
 a_:tp pl v (s 0) (c9 bb listed) cV
 st:ew P env ⟨cV,ds,rc⟩ a (S dr) w m B
 ext:Ext f cT eK er (S dr) w m
 tq:nF pl s S cT (c9 bb listed) m dr
section
variable {P:Program}{env:Env}{B f:Nat}{r:Option Nat}{ops:Array Oper}{pl:List aY}{bb cN:Nat->Nat}{cO:Nat->Nat->Bool}{call:kU}{s:Nat->aX AV}{S:Nat->ad}{v:Nat->AV}
variable {ds:List (Nat ⊕ (AV×List AV))}{rc:Bool}{cT:ad}{eK:World}{er:Nat->Option Nat}{listed:Array Bool}{a:Act}{w:World}{dr:Nat}{m:Nat->Option Nat}{cV:aX AV}
theorem Jf(c:gD P env B f r ops pl bb cN cO call s S v):∀(d k:Nat),k+d=ops.size->∃q,k<=q/\q<=ops.size/\(q=ops.size\/∃(dL:aY),pl[q]? =some dL/\dL.op.fj=true)/\∀(e:Nat) (dL:aY),k<=e->e<q->pl[e]? =some dL->dL.op.fj=false
 |0,k,h=>⟨k,Nat.le_refl _,by omega,.inl (by omega),λe dL h1 h2=>by omega⟩
 |d+1,k,h=>by
  obtain⟨aU,kG⟩:=c.get (p:=k) (by omega);cases he:aU.op.fj with
  |true=>exact⟨k,Nat.le_refl _,by omega,.inr ⟨aU,kG,he⟩,λe dL h1 h2=>by omega⟩
  |false=>
   obtain⟨q,h1,h2,h3,aQ⟩:=Jf c d (k+1) (by omega);refine⟨q,by omega,h2,h3,λe dL bJ cu ej=>?_⟩;rcases Nat.lt_or_ge k e with iH|iH
   ·exact aQ e dL (by omega) cu ej
   ·have:e=k:=by omega
    subst this;rw[kG] at ej;cases ej;exact he
theorem xC(c:gD P env B f r ops pl bb cN cO call s S v)(cj:listed.size=ops.size){p q:Nat}(ar:p<ops.size)(aS:q<ops.size):c9 bb (listed.setIfInBounds (bb p) true) q↔c9 bb listed q\/q=p:=by
 have h1:=c.spec.pi p ar;have h2:=c.spec.pi q aS;unfold c9;by_cases h:q=p
 ·subst h;simp[Array.getD_eq_getD_getElem?,cj,h1.1]
 ·have a5:bb p≠bb q:=λe=>h (by rw[<-h2.2,← e,h1.2]);rw[getD_set_ne false a5];simp[h]
theorem Q6(c:gD P env B f r ops pl bb cN cO call s S v)(cj:listed.size=ops.size){p:Nat}(ar:p<ops.size)(h:listed.getD (bb p) true=false):¬c9 bb listed p:=by
 have h1:=c.spec.pi p ar;unfold c9;have hlt:bb p<listed.size:=by omega
 simp[Array.getD_eq_getD_getElem?,hlt] at h ⊢;exact h
theorem a6k(c:gD P env B f r ops pl bb cN cO call s S v)(inv:Inv P env B f ops pl bb cO s S v ds rc cT eK er listed a w dr m cV){i:Nat}(hi:i∈Region.ready .any ops listed):
  ∃p aU o j3,p<ops.size/\i=bb p/\pl[p]? =some aU/\ops[i]? =some o/\coper P ops o=some j3/\aU.op=j3.op/\aU.dst=j3.dst/\aU.guard=j3.guard/\¬c9 bb listed p/\(∀q,cO q p=true->c9 bb listed q):=by
 obtain⟨h1,o,ho,h2⟩:=mem_ready.1 hi;have iD:i<ops.size:=(Array.getElem?_eq_some_iff.1 ho).1;obtain⟨h3,aQ⟩:=c.spec.zV i iD;obtain⟨aU,kG⟩:=c.get h3;obtain⟨bH,j3,jF,aa,aN,a4,cQ⟩:=c.spec.code _ aU kG;rw[aQ,ho] at jF;cases jF;refine⟨cN i,aU,o,j3,h3,aQ.symm,kG,ho,aa,aN,a4,cQ,Q6 c inv.size h3 (by rw[aQ];exact h1),λq aS=>?_⟩;obtain⟨bH,jF,e,he,hb,kd⟩:=c.spec.QG (cN i) h3 q aS;rw[aQ,ho] at jF;cases jF;have Jg:=h2 e he hb;have s9:=c.spec.back (cN i) h3 o (by rw[aQ];exact ho) e he hb;have tr:=c.spec.zV e.on s9.1;have z4:c9 bb listed (cN e.on):=by unfold c9;rw[tr.2];exact Jg
 rcases kd with rfl|kd
 ·exact z4
 ·exact inv.closed _ tr.1 z4 q kd
theorem Inv.calm(c:gD P env B f r ops pl bb cN cO call s S v)(inv:Inv P env B f ops pl bb cO s S v ds rc cT eK er listed a w dr m cV){p:Nat}{aU:aY}(ar:pl[p]? =some aU)(dq:¬c9 bb listed p)(h8:∀q,cO q p=true->c9 bb listed q)(he:p≠dr)(a5:aU.op.fj=false\/p<dr)
  {cn:Act} {av:World} {aP:Nat->Option Nat} (st:ew P env ⟨mT cV aU.dst (v p),ds,rc⟩ cn (S dr) av aP B) (ext:Ext f cT eK er (S dr) av aP) (tq:nF pl s S cT (c9 bb (listed.setIfInBounds (bb p) true)) aP dr):
  Inv P env B f ops pl bb cO s S v ds rc cT eK er (listed.setIfInBounds (bb p) true) cn av dr aP (mT cV aU.dst (v p)):=by
 have iF:=c.lt ar;have ao:∀q,q<ops.size->(c9 bb (listed.setIfInBounds (bb p) true) q↔c9 bb listed q\/q=p):=λq aS=>xC c inv.size iF aS;have iq:∀q,c9 bb listed q->c9 bb (listed.setIfInBounds (bb p) true) q:=λq aS=>by
  unfold c9 at aS ⊢;by_cases h:bb p=bb q
  ·rw[<-h];simp[Array.getD_eq_getD_getElem?,inv.size,(c.spec.pi p iF).1]
  ·rw[getD_set_ne false h];exact aS
 refine⟨inv.r9,by simpa using inv.size,λq aS hd x hx=>?_,inv.Q5,?_,λe dL h1 h2 h3=>iq e (inv.before e dL h1 h2 h3),λe dL h1 h2 h3 aQ=>?_,inv.a_.put c ar dq (λq dd aS=>ao q (c.lt aS)),st,ext,tq⟩
 ·rcases(ao q aS).1 hd with h|rfl
  ·exact iq x (inv.closed q aS h x hx)
  ·exact iq x (h8 x hx)
 ·rcases inv.xB with h|⟨dL,h1,h2,h3⟩
  ·exact .inl h
  ·exact .inr ⟨dL,h1,h2,λh=>by
    rcases(ao dr (c.lt h1)).1 h with h|h
    ·exact h3 h
    ·exact he h.symm⟩
 ·rcases(ao e (c.lt h2)).1 aQ with h|h
  ·exact inv.after e dL h1 h2 h3 h
  ·subst h;rcases a5 with a5|a5
   ·rw[ar] at h2;cases h2;rw[a5] at h3;cases h3
   ·omega
theorem Inv.effect(c:gD P env B f r ops pl bb cN cO call s S v)(inv:Inv P env B f ops pl bb cO s S v ds rc cT eK er listed a w dr m cV){p:Nat}{aU:aY}(ar:pl[p]? =some aU)(dq:¬c9 bb listed p)(h8:∀q,cO q p=true->c9 bb listed q)(he:aU.op.fj=true)(aS:p=dr)
  {cn:Act} {av:World} {aP:Nat->Option Nat} (st:ew P env ⟨mT cV aU.dst (v p),ds,rc⟩ cn (S (p+1)) av aP B) (ext:Ext f (S p) w m (S (p+1)) av aP):
  ∃z5,Inv P env B f ops pl bb cO s S v ds rc cT eK er (listed.setIfInBounds (bb p) true) cn av z5 aP (mT cV aU.dst (v p)):=by
 have iF:=c.lt ar;have ao:∀q,q<ops.size->(c9 bb (listed.setIfInBounds (bb p) true) q↔c9 bb listed q\/q=p):=λq aS=>xC c inv.size iF aS;have iq:∀q,c9 bb listed q->c9 bb (listed.setIfInBounds (bb p) true) q:=λq aS=>by
  unfold c9 at aS ⊢;by_cases h:bb p=bb q
  ·rw[<-h];simp[Array.getD_eq_getD_getElem?,inv.size,(c.spec.pi p iF).1]
  ·rw[getD_set_ne false h];exact aS
 subst aS;obtain⟨q,h1,h2,h3,aQ⟩:=Jf c (ops.size-(p+1)) (p+1) (by omega);have a6l:nF pl s S cT (c9 bb (listed.setIfInBounds (bb p) true)) aP (p+1):=by
  have back:∀d_ gN,d_<p+1->pl[d_]? =some gN->gN.op.jX=true->¬c9 bb (listed.setIfInBounds (bb p) true) d_->d_<p/\¬c9 bb listed d_:=λd_ gN hlt hg ha hd=>by
   refine⟨?_,λh=>hd (iq d_ h)⟩;rcases Nat.lt_or_ge d_ p with h|h
   ·exact h
   ·have:d_=p:=by omega
    subst this;rw[ar] at hg;cases hg;rw[a6j ha] at he;cases he
  refine⟨λd_ gN hlt hg ha hw hd=>?_,λp1 rU a3 bm hl mU bN bQ Q7 Q8 bR h9 d1 d2=>?_⟩
  ·obtain⟨ec,dp⟩:=back d_ gN hlt hg ha hd;obtain⟨pD,pE,pF,r8⟩:=inv.tq.one d_ gN ec hg ha hw dp;refine⟨?_,pE,Nat.lt_of_lt_of_le pF ext.next,by rw[ext.un _ pF pD];exact r8⟩;cases hm:aP (S d_).next with
   |none=>rfl
   |some b=>
    rcases ext.new _ _ hm with h|⟨h,_⟩
    ·rw[pD] at h;cases h
    ·omega
  ·have dp:=back rU bm mU bQ Q8 d2;have ec:=back p1 a3 (by omega) bN Q7 d1;exact inv.tq.lt p1 rU a3 bm hl dp.1 bN bQ Q7 Q8 bR h9 ec.2 dp.2
 obtain⟨z6,z7,z8⟩:=advance c (q-(p+1)) (p+1) (by omega) (λe dL bJ cu ej=>aQ e dL bJ (by omega) ej) st (inv.ext.trans inv.r9 ext) a6l;have aS:p+1+(q-(p+1))=q:=by omega
 rw[aS] at z6 z7 z8;refine⟨q,inv.r9,by simpa using inv.size,λx hx hd y hy=>?_,h2,?_,λe dL bJ cu ej=>?_,λe dL bJ cu ej iH=>?_,inv.a_.put c ar dq (λx bC hx=>ao x (c.lt hx)),z6,z7,z8⟩
 ·rcases(ao x hx).1 hd with h|rfl
  ·exact iq y (inv.closed x hx h y hy)
  ·exact iq y (h8 y hy)
 ·rcases h3 with h|⟨dL,bJ,cu⟩
  ·exact .inl h
  ·refine .inr ⟨dL,bJ,cu,λh=>?_⟩;rcases(ao q (c.lt bJ)).1 h with h|h
   ·exact inv.after q dL (by omega) bJ cu h
   ·omega
 ·rcases Nat.lt_trichotomy e p with iH|iH|iH
  ·exact iq e (inv.before e dL iH cu ej)
  ·exact(ao e (c.lt cu)).2 (.inr iH)
  ·have:=aQ e dL (by omega) bJ cu;rw[this] at ej;cases ej
 ·rcases(ao e (c.lt cu)).1 iH with h|h
  ·exact inv.after e dL (by omega) cu ej h
  ·omega
end
theorem Q9{f:Nat}{aq:aF->Option AV}{J bP:ad}{U:Option Nat}{a x:aF}{v:AV}(h:opx f aq J (.store U a x)=some (.val v bP)):
  ∃id off c gx,aq a=some (.p (some (id,off)))/\J.get id=some (.cells c)/\v=dB/\bP=J.set id (.cells gx)/\∀cx:ad,cx.get id=some (.cells c)->opx f aq cx (.store U a x)=some (.val dB (cx.set id (.cells gx))):=by
 simp only[opx] at h;split at h<;>try (cases h;done)
 rename_i id off u ha hx;split at h<;>try (cases h;done)
 rename_i dE;split at h<;>try (cases h;done)
 rename_i g4;split at h<;>try (cases h;done)
 rename_i c hg;split at h<;>cases h;rename_i gx j1;refine⟨id,off,c,gx,ha,hg,rfl,rfl,λcx h2=>?_⟩;simp only[opx,ha,hx,h2,j1];rw[if_neg dE,if_pos g4]
section
variable {P:Program}{env:Env}{B f:Nat}{r:Option Nat}{ops:Array Oper}{pl:List aY}{bb cN:Nat->Nat}{cO:Nat->Nat->Bool}{call:kU}{s:Nat->aX AV}{S:Nat->ad}{v:Nat->AV}
theorem a6m(c:gD P env B f r ops pl bb cN cO call s S v){x y:Nat}(kk:zU pl cO x y){bC eh:aY}(hx:pl[x]? =some bC)(hy:pl[y]? =some eh):
  bC.op.fj=true/\eh.op.fj=true/\∃T kl,opx f (evalA env (s y)) (S x) eh.op=some (.val (v y) T)/\opx f (evalA env (s x)) T bC.op=some (.val (v x) kl)/\wantedA bC.guard (s x)=true/\wantedA eh.guard (s y)=true∧
   (∀id,kl.get id=(S ops.size).get id)/\kl.next=(S ops.size).next:=by
 obtain⟨Q_,a6n,s1,a3,fh,s2,bm,nD,h1,h2,h3,aQ,bJ,cu,ej,iH,_⟩:=kk.ops;rw[hx] at h1;cases h1;rw[hy] at h2;cases h2;have g3:=kk.Dr;have hn:y+1=ops.size:=by have:=kk.last;have:=c.spec.len;omega
 have stx:=c.mg.step x bC hx;have a6o:=c.mg.step y eh hy;have oC:wantedA bC.guard (s x)=true:=by rw[ej];rfl
 have wy:wantedA eh.guard (s y)=true:=by rw[iH];rfl
 obtain⟨i,xx,j,xy,aN,a4,gp⟩:=c.kk x y kk bC eh s1 a3 fh s2 bm nD hx hy h3 aQ;have gK:opx f (evalA env (s x)) (S x) bC.op=some (.val (v x) (S (x+1))):=by
  rcases stx with⟨h,_⟩|⟨_,h⟩|⟨_,cd,args,h,_⟩
  ·rw[oC] at h;cases h
  ·exact h
  ·obtain⟨_,_,dK,_,_⟩:=td h;rw[h3] at dK;cases dK
 have Ra:opx f (evalA env (s y)) (S y) eh.op=some (.val (v y) (S (y+1))):=by
  rcases a6o with⟨h,_⟩|⟨_,h⟩|⟨_,cd,args,h,_⟩
  ·rw[wy] at h;cases h
  ·exact h
  ·obtain⟨_,_,dK,_,_⟩:=td h;rw[aQ] at dK;cases dK
 rw[h3] at gK;rw[aQ] at Ra;obtain⟨b9p,b9q,gx,a6p,bN,bQ,cc,cI,c_⟩:=Q9 gK;obtain⟨b9r,b9s,k4,Rb,bB,bp,bc,b5,cW⟩:=Q9 Ra;rw[aN] at bN;cases bN;rw[a4] at bB;cases bB;have fE:=ad.bt bQ;rw[g3] at cI;have aA:(S x).get j=some (.cells k4):=by
  rw[cI,ad.h5 trivial _ fE,if_neg (Ne.symm gp)] at bp;exact bp
 have Dz:=ad.bt aA;have jr:=cW (S x) aA;have hi:((S x).set j (.cells Rb)).get i=some (.cells gx):=by
  rw[ad.h5 trivial _ Dz,if_neg gp];exact bQ
 have a6q:=c_ _ hi;refine⟨by rw[h3];rfl,by rw[aQ];rfl,_,_,by rw[aQ,bc];exact jr,by rw[h3,cc];exact a6q,oC,wy,λid=>?_,?_⟩
 ·rw[<-hn,b5,cI];have a6r:i<((S x).set j (.cells Rb)).next:=fE;have a6s:j<((S x).set i (.cells a6p)).next:=Dz;rw[ad.h5 trivial _ a6r,ad.h5 trivial _ Dz,ad.h5 trivial _ a6s,ad.h5 trivial _ fE];by_cases h1:id=i
  ·by_cases h2:id=j
   ·exact absurd (h1.symm.trans h2) gp
   ·rw[if_pos h1,if_neg h2,if_pos h1]
  ·rw[if_neg h1];by_cases h2:id=j
   ·rw[if_pos h2,if_pos h2]
   ·rw[if_neg h2,if_neg h2,if_neg h1]
 ·rw[<-hn,b5,cI];rfl
theorem Jh{J af:ad}(h:∀id,J.get id=af.get id)(id:Nat):live J id↔live af id:=by unfold live;rw[h id]
theorem a6t{J af:ad}{m:Nat->Option Nat}(h:∀id,J.get id=af.get id):bj J m=bj af m:=by
 funext b
 simp only[bj,live,h]
theorem ew.congr{ab:Fr}{a:Act}{J af:ad}{w:World}{m:Nat->Option Nat}(st:ew P env ab a J w m B)(h:∀id,J.get id=af.get id)(hn:J.next=af.next):ew P env ab a af w m B:=by
 have ho:=a6t (m:=m) h;have ak:=st.ctx.rel;have pr:Rel P af w m B:=by
  refine⟨trivial,λid b hb=>by rw[<-hn];exact ak.fk id b hb,λid b o h1 h2 h3=>?_,λi kx b h1 h2 h3 aQ=>ak.inj i kx b h1 h2 ((Jh h i).2 h3) ((Jh h kx).2 aQ),ak.base,ak.kY⟩;rw[<-ho];exact ak.obj id b o h1 (by rw[h id];exact h2) h3
 exact st.mono pr (λ_ _ h=>h) (Nat.le_refl _) (λ_ _ h=>h) (λb _ hb=>⟨rfl,by rw[<-ho];exact hb⟩)
theorem Ext.congr{f:Nat}{cT J af:ad}{eK w:World}{er m:Nat->Option Nat}(e:Ext f cT eK er J w m)(h:∀id,J.get id=af.get id)(hn:J.next=af.next):Ext f cT eK er af w m:=
 ⟨e.mono,e.new,by rw[<-hn];exact e.next,e.size,e.bI,e.aO,λid h1 h2=>by rw[<-h id];exact e.low id h1 h2,λid h1 h2=>e.dead id h1 ((Jh h id).2 h2),e.os,e.tape,e.out,λid h1 h2=>by rw[<-h id];exact e.un id h1 h2⟩
end
section
variable {P:Program}{env:Env}{B f:Nat}{r:Option Nat}{ops:Array Oper}{pl:List aY}{bb cN:Nat->Nat}{cO:Nat->Nat->Bool}{call:kU}{s:Nat->aX AV}{S:Nat->ad}{v:Nat->AV}
variable {ds:List (Nat ⊕ (AV×List AV))}{rc:Bool}{cT:ad}{eK:World}{er:Nat->Option Nat}{listed:Array Bool}{a:Act}{w:World}{dr:Nat}{m:Nat->Option Nat}{cV:aX AV}
theorem Rc(c:gD P env B f r ops pl bb cN cO call s S v):∀(d k:Nat),k+d<=ops.size->(∀(e:Nat) (dL:aY),pl[e]? =some dL->k<=e->e<k+d->dL.op.fj=false/\dL.op.jX=false)->S (k+d)=S k
 |0,_,_,_=>rfl
 |d+1,k,az,h=>by
  obtain⟨aU,kG⟩:=c.get (p:=k+d) (by omega);obtain⟨h1,h2⟩:=h (k+d) aU kG (by omega) (by omega);rcases c.calm kG h1 with⟨h3,_⟩|⟨cz,h3,_⟩
  ·show S (k+d+1)=_;rw[h3];exact Rc c d k (by omega) (λe dL aQ bJ cu=>h e dL aQ bJ (by omega))
  ·rw[h2] at h3;cases h3
theorem nF.mono{D kF:Nat->Prop}{k:Nat}(h:nF pl s S cT D m k)(dq:∀(p:Nat) (aU:aY),pl[p]? =some aU->¬kF p->¬D p):nF pl s S cT kF m k:=
 ⟨λp aU h1 h2 h3 aQ bJ=>h.one p aU h1 h2 h3 aQ (dq p aU h2 bJ),λp d_ aU gN h1 h2 h3 aQ bJ cu ej iH mO DA=>h.lt p d_ aU gN h1 h2 h3 aQ bJ cu ej iH (dq p aU h3 mO) (dq d_ gN aQ DA)⟩
def DB(J af:ad):Prop:=(∀id,J.get id=af.get id)/\J.next=af.next
structure Inv2(P:Program)(env:Env)(B f:Nat)(ops:Array Oper)(pl:List aY)(bb:Nat->Nat)(cO:Nat->Nat->Bool)(s:Nat->aX AV)(S:Nat->ad)(v:Nat->AV)(ds:List (Nat ⊕ (AV×List AV)))(rc:Bool)(cT:ad)(eK:World)(er:Nat->Option Nat)
  (listed:Array Bool) (a:Act) (w:World) (x:Nat) (T:ad) (m:Nat->Option Nat) (cV:aX AV):Prop where
 r9:Rel P cT eK er B
 size:listed.size=ops.size
 closed:∀p,p<ops.size->c9 bb listed p->∀q,cO q p=true->c9 bb listed q
 pure:∀(p:Nat) (aU:aY),pl[p]? =some aU->¬c9 bb listed p->p=x\/(aU.op.fj=false/\aU.op.jX=false/\aU.op.looks=false)
 fin:c9 bb listed x->DB T (S ops.size)
 rest:¬c9 bb listed x->∃bC kl,pl[x]? =some bC/\bC.op.fj=true/\(∀c as,bC.op≠ .call c as)/\wantedA bC.guard (s x)=true/\opx f (evalA env (s x)) T bC.op=some (.val (v x) kl)/\DB kl (S ops.size)
 a_:tp pl v (s 0) (c9 bb listed) cV
 st:ew P env ⟨cV,ds,rc⟩ a T w m B
 ext:Ext f cT eK er T w m
theorem a6u(c:gD P env B f r ops pl bb cN cO call s S v)(cj:listed.size=ops.size)(fH:∀p,p<ops.size->c9 bb listed p->∀q,cO q p=true->c9 bb listed q){i:Nat}(hi:i∈Region.ready .any ops listed):
  ∃p aU o j3,p<ops.size/\i=bb p/\pl[p]? =some aU/\ops[i]? =some o/\coper P ops o=some j3/\aU.op=j3.op/\aU.dst=j3.dst/\aU.guard=j3.guard/\¬c9 bb listed p/\(∀q,cO q p=true->c9 bb listed q):=by
 obtain⟨h1,o,ho,h2⟩:=mem_ready.1 hi;have iD:i<ops.size:=(Array.getElem?_eq_some_iff.1 ho).1;obtain⟨h3,aQ⟩:=c.spec.zV i iD;obtain⟨aU,kG⟩:=c.get h3;obtain⟨bH,j3,jF,aa,aN,a4,cQ⟩:=c.spec.code _ aU kG;rw[aQ,ho] at jF;cases jF;refine⟨cN i,aU,o,j3,h3,aQ.symm,kG,ho,aa,aN,a4,cQ,Q6 c cj h3 (by rw[aQ];exact h1),λq aS=>?_⟩;obtain⟨bH,jF,e,he,hb,kd⟩:=c.spec.QG (cN i) h3 q aS;rw[aQ,ho] at jF;cases jF;have Jg:=h2 e he hb;have s9:=c.spec.back (cN i) h3 o (by rw[aQ];exact ho) e he hb;have tr:=c.spec.zV e.on s9.1;have z4:c9 bb listed (cN e.on):=by unfold c9;rw[tr.2];exact Jg
 rcases kd with rfl|kd
 ·exact z4
 ·exact fH _ tr.1 z4 q kd
theorem Re(c:gD P env B f r ops pl bb cN cO call s S v)(cj:listed.size=ops.size){p:Nat}(iF:p<ops.size):∀q,c9 bb listed q->c9 bb (listed.setIfInBounds (bb p) true) q:=λq aS=>by
 unfold c9 at aS ⊢;by_cases h:bb p=bb q
 ·rw[<-h];simp[Array.getD_eq_getD_getElem?,cj,(c.spec.pi p iF).1]
 ·rw[getD_set_ne false h];exact aS
theorem Inv2.next(c:gD P env B f r ops pl bb cN cO call s S v){x:Nat}{T mV:ad}(inv:Inv2 P env B f ops pl bb cO s S v ds rc cT eK er listed a w x T m cV){p:Nat}{aU:aY}(ar:pl[p]? =some aU)(dq:¬c9 bb listed p)(h8:∀q,cO q p=true->c9 bb listed q)
  (jr:p=x/\DB mV (S ops.size)\/p≠x/\mV=T) {cn:Act} {av:World} {aP:Nat->Option Nat} (hx:x<ops.size) (st:ew P env ⟨mT cV aU.dst (v p),ds,rc⟩ cn mV av aP B) (ext:Ext f cT eK er mV av aP):
  Inv2 P env B f ops pl bb cO s S v ds rc cT eK er (listed.setIfInBounds (bb p) true) cn av x mV aP (mT cV aU.dst (v p)):=by
 have iF:=c.lt ar;have ao:∀q,q<ops.size->(c9 bb (listed.setIfInBounds (bb p) true) q↔c9 bb listed q\/q=p):=λq aS=>xC c inv.size iF aS;have iq:=Re c inv.size iF;refine⟨inv.r9,by simpa using inv.size,λq aS hd y hy=>?_,λq dd aS hd=>inv.pure q dd aS (λh=>hd (iq q h)),λhd=>?_,λhd=>?_,inv.a_.put c ar dq (λq dd aS=>ao q (c.lt aS)),st,ext⟩
 ·rcases(ao q aS).1 hd with h|rfl
  ·exact iq y (inv.closed q aS h y hy)
  ·exact iq y (h8 y hy)
 ·rcases jr with⟨_,h⟩|⟨a5,rfl⟩
  ·exact h
  ·exact inv.fin (((ao x hx).1 hd).resolve_right (Ne.symm a5))
 ·rcases jr with⟨rfl,_⟩|⟨a5,rfl⟩
  ·exact absurd ((ao p iF).2 (.inr I)) hd
  ·exact inv.rest (λh=>hd (iq x h))
theorem a6v(c:gD P env B f r ops pl bb cN cO call s S v){k:Nat}{Q:Exit->Act->World->Prop}{x:Nat}{T:ad}(Rf:x<ops.size)(inv:Inv2 P env B f ops pl bb cO s S v ds rc cT eK er listed a w x T m cV){i:Nat}(hi:i∈Region.ready .any ops listed)
  {K:Act->World->Prop} (cM:∀cn av kl aP pG,Inv2 P env B f ops pl bb cO s S v ds rc cT eK er (listed.setIfInBounds i true) cn av x kl aP pG->K cn av):wpOpIn (eS r) k P ops Q i K a w:=by
 obtain⟨p,aU,o,j3,iF,rfl,ar,ho,aa,aN,a4,cQ,dq,h8⟩:=a6u c inv.size inv.closed hi;have z9:=QY c inv.a_ ar dq h8 inv.closed;have ou:∀J,opx f (evalA env cV) J aU.op=opx f (evalA env (s p)) J aU.op:=λJ=>QU (Q2 z9);have hw:=Q3 z9;obtain⟨dK,h7⟩:=C6 aa;rw[<-aN] at dK;rw[<-a4] at h7;unfold wpOpIn;simp only[ho];rw[C4 aa inv.st.ctx.a_,← cQ];show if wantedA aU.guard cV=true then _ else _
 rw[hw];have pH:∀res,opx f (evalA env cV) T aU.op=some res->cop P o=some aU.op:=λres c0=>zF dK.symm (λhb=>by rw[hb] at c0;simp[opx] at c0);have vb:∀v bP,opx f (evalA env cV) T aU.op=some (.val v bP)->cop P o=some aU.op->∀c,o.op≠ .defer c:=λv bP hx r_ c hd=>by
  obtain⟨ac,as,h⟩:=C5 hd r_;rw[h] at hx;simp only[opx] at hx;split at hx<;>cases hx
 have val:∀mV,wantedA aU.guard (s p)=true->opx f (evalA env cV) T aU.op=some (.val (v p) mV)->(p=x/\DB mV (S ops.size)\/p≠x/\mV=T)→
   if wantedA aU.guard (s p)=true then o.wpIn (eS r) k P a w K Q else(∀f,o.about P w a.eval=some f->(eS r).fn f)/\K (a.put o.dst undef) w:=λmV hwt eE jr=>by
  rw[hwt];simp only[if_true];obtain⟨u,bR,cS,b2,hR,l_,dh⟩:=xd inv.st.ctx (pH _ eE) eE;have ao:(o.semAt (eS r).round a.eval)=execOp a.eval o:=Oper.semAt_eq _ _ _ (vb _ _ eE (pH _ eE));have gm:=(inv.st.ext dh l_).put aU.dst hR;rw[put_eq] at gm;have gE:=inv.next c ar dq h8 jr Rf gm (inv.ext.trans inv.r9 dh);rw[h7] at gE;refine⟨λf _=>trivial,?_⟩;rw[ao];rcases b2 with b2|⟨b2,rfl⟩
  ·rw[b2];exact cM _ _ _ _ _ gE
  ·rw[b2];exact cM _ _ _ _ _ gE
 rcases c.mg.step p aU ar with⟨vr,au,cP⟩|⟨hwt,hx⟩|⟨hwt,cd,args,hx,fH⟩
 ·-- not wanted
  have z_:p≠x:=λhe=>by
   subst he;obtain⟨bC,kl,h1,_,_,h2,_⟩:=inv.rest dq;rw[ar] at h1;cases h1;rw[vr] at h2;cases h2
  rw[vr];simp only[Bool.false_eq_true,if_false];refine⟨λ_ _=>trivial,?_⟩;have gm:=inv.st.put aU.dst (v:=dB) (u:=undef) R.undef;rw[put_eq,← au] at gm;have gE:=inv.next c ar dq h8 (.inr ⟨z_,rfl⟩) Rf gm inv.ext;rw[h7] at gE;exact cM _ _ _ _ _ gE
 ·by_cases z_:p=x
  ·subst z_;obtain⟨bC,kl,h1,_,_,h2,h3,aQ⟩:=inv.rest dq;rw[ar] at h1;cases h1;exact val kl hwt (by rw[ou];exact h3) (.inl ⟨rfl,aQ⟩)
  ·obtain⟨bN,bQ,cc⟩:=(inv.pure p aU ar dq).resolve_left z_;obtain⟨bA,h1,h2⟩:=Du bN bQ hx;simp only[bL.val.injEq] at h1;obtain⟨rfl,_⟩:=h1;exact val T hwt (by rw[ou];exact h2 cc T) (.inr ⟨z_,rfl⟩)
 ·obtain⟨l5,as,Aa,_,_⟩:=td hx;exfalso;rcases inv.pure p aU ar dq with rfl|⟨bN,_,_⟩
  ·obtain⟨bC,kl,h1,_,h2,_⟩:=inv.rest dq;rw[ar] at h1;cases h1;exact h2 _ _ Aa
  ·rw[Aa] at bN;cases bN
theorem a6w(c:gD P env B f r ops pl bb cN cO call s S v){k:Nat}{Q:Exit->Act->World->Prop}(inv:Inv P env B f ops pl bb cO s S v ds rc cT eK er listed a w dr m cV){i:Nat}(hi:i∈Region.ready .any ops listed)
  {K:Act->World->Prop} (cM:∀cn av z5 aP pG,Inv P env B f ops pl bb cO s S v ds rc cT eK er (listed.setIfInBounds i true) cn av z5 aP pG->K cn av)
  (Rg:∀cn av x T aP pG,x<ops.size->Inv2 P env B f ops pl bb cO s S v ds rc cT eK er (listed.setIfInBounds i true) cn av x T aP pG->K cn av):wpOpIn (eS r) k P ops Q i K a w:=by
 obtain⟨p,aU,o,j3,iF,rfl,ar,ho,aa,aN,a4,cQ,dq,h8⟩:=a6k c inv hi;have z9:=QY c inv.a_ ar dq h8 inv.closed;have ou:∀J,opx f (evalA env cV) J aU.op=opx f (evalA env (s p)) J aU.op:=λJ=>QU (Q2 z9);have hw:=Q3 z9;obtain⟨dK,h7⟩:=C6 aa;rw[<-aN] at dK;rw[<-a4] at h7;have g3:aU.op.fj=false->p<dr:=λhe=>by
  rcases inv.xB with h|⟨dL,h1,h2,h3⟩
  ·omega
  ·rcases Nat.lt_trichotomy p dr with h|h|h
   ·exact h
   ·subst h;rw[ar] at h1;cases h1;rw[he] at h2;cases h2
   ·rcases c.spec.tl dr p dL h iF h1 h2 with aQ|aQ
    ·exact absurd (h8 dr aQ) h3
    ·obtain⟨_,eh,_,_,_,_,_,_,_,bQ,_,cI,_⟩:=aQ.ops;rw[ar] at bQ;cases bQ;rw[cI] at he;cases he
 have kX:aU.op.fj=true->p=dr\/zU pl cO dr p:=λhe=>by
  rcases Nat.lt_trichotomy p dr with h|h|h
  ·exact absurd (inv.before p aU h ar he) dq
  ·exact .inl h
  ·rcases inv.xB with h1|⟨dL,h1,h2,h3⟩
   ·omega
   ·rcases c.spec.tl dr p dL h iF h1 h2 with aQ|aQ
    ·exact absurd (h8 dr aQ) h3
    ·exact .inr aQ
 have Rh:∀q dd,pl[q]? =some dd->¬c9 bb (listed.setIfInBounds (bb p) true) q->¬c9 bb listed q:=λq dd aS h h2=>h ((xC c inv.size iF (c.lt aS)).2 (.inl h2));have Ab:nF pl s S cT (c9 bb (listed.setIfInBounds (bb p) true)) m dr:=inv.tq.mono Rh;unfold wpOpIn;simp only[ho];rw[C4 aa inv.st.ctx.a_,← cQ];show if wantedA aU.guard cV=true then _ else _
 rw[hw];have pH:∀res,opx f (evalA env cV) (S dr) aU.op=some res->cop P o=some aU.op:=λres c0=>zF dK.symm (λhb=>by rw[hb] at c0;simp[opx] at c0);by_cases DC:aU.op.fj=true/\p≠dr
 ·-- rF second of two b9t,first
  have kk:=(kX DC.1).resolve_left DC.2;rcases inv.xB with h0|⟨bC,qR,a6x,a6y⟩
  ·have:=kk.Dr;omega
  have Ji:=c.lt qR;obtain⟨bN,bQ,T,kl,cc,cI,c_,gZ,g5,fI⟩:=a6m c kk qR ar;have eE:opx f (evalA env cV) (S dr) aU.op=some (.val (v p) T):=by rw[ou];exact cc
  rw[gZ];simp only[if_true];obtain⟨u,bR,cS,b2,hR,l_,dh⟩:=xd inv.st.ctx (pH _ eE) eE;have hnd:∀c,o.op≠ .defer c:=λc hd=>by
   obtain⟨ac,as,h⟩:=C5 hd (pH _ eE);rw[h] at eE;simp only[opx] at eE;split at eE<;>cases eE
  have ao:(o.semAt (eS r).round a.eval)=execOp a.eval o:=Oper.semAt_eq _ _ _ hnd;have gm:=(inv.st.ext dh l_).put aU.dst hR;rw[put_eq] at gm;have DD:∀q,q<ops.size->(c9 bb (listed.setIfInBounds (bb p) true) q↔c9 bb listed q\/q=p):=λq aS=>xC c inv.size iF aS;have iq:=Re c inv.size iF;have DE:∀l5 as,bC.op≠ .call l5 as:=λl5 as hh=>by
   obtain⟨Q_,_,_,_,_,_,_,_,bB,_,bc,_⟩:=kk.ops;rw[qR] at bB;cases bB;rw[bc] at hh;cases hh
  have nG:¬c9 bb (listed.setIfInBounds (bb p) true) dr:=λh=>by
   rcases(DD dr Ji).1 h with h|h
   ·exact a6y h
   ·exact DC.2 h.symm
  have gE:Inv2 P env B f ops pl bb cO s S v ds rc cT eK er (listed.setIfInBounds (bb p) true) (a.put aU.dst u) bR dr T cS (mT cV aU.dst (v p)):=by
   refine⟨inv.r9,by simpa using inv.size,λq aS hd y hy=>?_,λq dd aS hd=>?_,λhd=>absurd hd nG,λ_=>⟨bC,kl,qR,a6x,DE,c_,cI,g5,fI⟩,inv.a_.put c ar dq (λq dd aS=>DD q (c.lt aS)),gm,inv.ext.trans inv.r9 dh⟩
   ·rcases(DD q aS).1 hd with h|rfl
    ·exact iq y (inv.closed q aS h y hy)
    ·exact iq y (h8 y hy)
   ·have a6z:=c.lt aS;have hl:=kk.last;have mU:=c.spec.len;have b9u:=kk.Dr;rcases Nat.lt_trichotomy q dr with h|h|h
    ·rcases kk.rest q dd h aS with bJ|bJ
     ·exact absurd (iq q (h8 q bJ)) hd
     ·exact .inr bJ
    ·exact .inl h
    ·have:q=p:=by omega
     exact absurd ((DD q a6z).2 (.inr this)) hd
  rw[h7] at gE;refine⟨λf _=>trivial,?_⟩;rw[ao];rcases b2 with b2|⟨b2,rfl⟩
  ·rw[b2];exact Rg _ _ _ _ _ _ Ji gE
  ·rw[b2];exact Rg _ _ _ _ _ _ Ji gE
 replace kX:aU.op.fj=true->p=dr:=λhe=>Classical.byContradiction λh=>DC ⟨he,h⟩;rcases c.mg.step p aU ar with⟨vr,au,cP⟩|⟨hwt,hx⟩|⟨hwt,cd,args,hx,fH⟩
 ·-- not wanted
  rw[vr];simp only[Bool.false_eq_true,if_false];refine⟨λ_ _=>trivial,?_⟩;have gm:=inv.st.put aU.dst (v:=dB) (u:=undef) R.undef;rw[put_eq,← au,h7] at gm;rw[<-h7] at gm;have gm:ew P env ⟨mT cV aU.dst (v p),ds,rc⟩ (a.put o.dst undef) (S dr) w m B:=by rw[<-h7];exact gm
  by_cases Jj:p=dr
  ·subst Jj;cases he:aU.op.fj with
   |true=>
    obtain⟨lC,gE⟩:=inv.effect c ar dq h8 he I (cn:=a.put o.dst undef) (av:=w) (aP:=m) (by rw[cP];exact gm) (by rw[cP];exact Ext.refl _ _ _ _);exact cM _ _ _ _ _ gE
   |false=>have:=g3 he;omega
  ·exact cM _ _ _ _ _ (inv.calm c ar dq h8 Jj (by cases he:aU.op.fj with|false=>exact .inl rfl|true=>exact absurd (kX he) Jj) gm inv.ext Ab)
 ·-- a value
  rw[hwt];simp only[if_true];have vb:∀v J bP,opx f (evalA env cV) J aU.op=some (.val v bP)->cop P o=some aU.op->∀c,o.op≠ .defer c:=λv J bP hx r_ c hd=>by
   obtain⟨ac,as,h⟩:=C5 hd r_;rw[h] at hx;simp only[opx] at hx;split at hx<;>cases hx
  cases he:aU.op.fj with
  |true=>
   obtain rfl:=kX he;have eE:opx f (evalA env cV) (S p) aU.op=some (.val (v p) (S (p+1))):=by rw[ou];exact hx
   obtain⟨u,bR,cS,b2,hR,l_,dh⟩:=xd inv.st.ctx (pH _ eE) eE;have ao:(o.semAt (eS r).round a.eval)=execOp a.eval o:=Oper.semAt_eq _ _ _ (vb _ _ _ eE (pH _ eE));have gm:=(inv.st.ext dh l_).put aU.dst hR;rw[put_eq] at gm;obtain⟨lC,gE⟩:=inv.effect c ar dq h8 he I gm dh;rw[h7] at gE;refine⟨λf _=>trivial,?_⟩;rw[ao];rcases b2 with b2|⟨b2,rfl⟩
   ·rw[b2];exact cM _ _ _ _ _ gE
   ·rw[b2];exact cM _ _ _ _ _ gE
  |false=>
   have hlt:=g3 he;cases ha:aU.op.jX with
   |false=>
    have eE:opx f (evalA env cV) (S dr) aU.op=some (.val (v p) (S dr)):=by
     rw[ou];obtain⟨bA,h1,h2⟩:=Du he ha hx;simp only[bL.val.injEq] at h1;obtain⟨r4,sa⟩:=h1;subst r4;cases hl:aU.op.looks with
     |false=>exact h2 hl _
     |true=>
      have a6A:dr=ops.size\/∃(dd:aY),pl[dr]? =some dd/\dd.op.fj=true:=by
       rcases inv.xB with h|⟨dL,h1,h2,_⟩
       ·exact .inl h
       ·exact .inr ⟨dL,h1,h2⟩
      rcases c.spec.iS p aU ar hl dr hlt a6A with h|⟨e,dL,bN,bQ,cc,cI,c_⟩|h
      ·obtain⟨cx,h3⟩:=c.steady p aU ar hwt he dr h;obtain⟨v2,aQ,_⟩:=Du he ha h3;cases aQ;exact h3
      ·exact absurd (inv.closed e (c.lt bN) (inv.before e dL cI bN bQ) p c_) dq
      ·have j1:=Rc c (dr-(p+1)) (p+1) (by have:=inv.Q5;omega) (λe dL bN bQ cc=>h e dL bN (by omega) (by omega));have h6:p+1+(dr-(p+1))=dr:=by omega
       rw[h6] at j1;rw[j1,sa];rw[sa] at hx;exact hx
    obtain⟨u,bR,cS,b2,hR,l_,dh⟩:=xd inv.st.ctx (pH _ eE) eE;have ao:(o.semAt (eS r).round a.eval)=execOp a.eval o:=Oper.semAt_eq _ _ _ (vb _ _ _ eE (pH _ eE));have gm:=(inv.st.ext dh l_).put aU.dst hR;rw[put_eq] at gm;have Jk:nF pl s S cT (c9 bb (listed.setIfInBounds (bb p) true)) cS dr:=by
     refine⟨λd_ gN h1 h2 h3 aQ bJ=>?_,Ab.lt⟩;obtain⟨pD,pE,pF,r8⟩:=Ab.one d_ gN h1 h2 h3 aQ bJ;refine⟨?_,pE,pF,r8⟩;cases hm:cS (S d_).next with
     |none=>rfl
     |some b=>
      rcases dh.new _ _ hm with h|⟨h,_⟩
      ·rw[pD] at h;cases h
      ·omega
    have gE:=inv.calm c ar dq h8 (by omega) (.inl he) gm (inv.ext.trans inv.r9 dh) Jk;rw[h7] at gE;refine⟨λf _=>trivial,?_⟩;rw[ao];rcases b2 with b2|⟨b2,rfl⟩
    ·rw[b2];exact cM _ _ _ _ _ gE
    ·rw[b2];exact cM _ _ _ _ _ gE
   |true=>
    obtain⟨cz,oA,h1,b9v,h2⟩:=QV ha hx;simp only[bL.val.injEq] at h1;obtain⟨r4,sa⟩:=h1;have Jl:∀cx,opx f (evalA env cV) cx aU.op=some (.val (oA cx.next) (cx.push cz)):=λcx=>by rw[ou];exact h2 cx
    have r_:=pH _ (Jl (S dr));obtain⟨u,av,bH,b2,hh,ku,nj,kc,kd,hval⟩:=a6e inv.st.ctx r_ ha Jl;obtain⟨pD,pE,pF,r8⟩:=inv.tq.one p aU hlt ar ha hwt dq;have hg:(S dr).get (S p).next=some cz:=by rw[r8,sa];exact ad.iB cz
    obtain⟨l_,r6,cj,gl,hold,z0,kv⟩:=inv.st.ctx.rel.Ja pF pD hg hh kd;have ao:(o.semAt (eS r).round a.eval)=execOp a.eval o:=Oper.semAt_eq _ _ _ (vb _ _ _ (Jl (S dr)) r_);have hR:R av (bindM m (S p).next w.heap.size) (bj (S dr) (bindM m (S p).next w.heap.size)) B (v p) u:=by
     rw[r4];exact hval _ _ _ _ _ (gz _ _ _) kv
    have gm:=(inv.st.mono l_ r6 cj gl z0).put aU.dst hR;rw[put_eq] at gm;have Jk:nF pl s S cT (c9 bb (listed.setIfInBounds (bb p) true)) (bindM m (S p).next w.heap.size) dr:=by
     refine⟨λd_ gN bN bQ cc cI c_=>?_,Ab.lt⟩;obtain⟨i1,i2,i3,i4⟩:=Ab.one d_ gN bN bQ cc cI c_;refine⟨?_,i2,i3,i4⟩;have xA:=Rh d_ gN bQ c_;have a5:d_≠p:=λe=>c_ ((xC c inv.size iF (c.lt bQ)).2 (.inr e));rw[hD m _ _ (λe=>?_)]
     ·exact i1
     ·rcases Nat.lt_or_ge d_ p with h|h
      ·have:=inv.tq.lt d_ p gN aU h hlt bQ ar cc ha cI hwt xA dq;omega
      ·have:=inv.tq.lt p d_ aU gN (by omega) bN ar bQ ha cc hwt cI dq xA;omega
    have gE:=inv.calm c ar dq h8 (by omega) (.inl he) gm (inv.ext.Ja pE pD hh ku nj kc) Jk;rw[h7] at gE;refine⟨λf _=>trivial,?_⟩;rw[ao,b2];exact cM _ _ _ _ _ gE
 ·-- a call
  rw[hwt];simp only[if_true];obtain⟨l5,as,Aa,_,_⟩:=td hx;have he:aU.op.fj=true:=by rw[Aa];rfl
  obtain rfl:=kX he;have eE:opx f (evalA env cV) (S p) aU.op=some (.call cd args):=by rw[ou];exact hx
  have r_:=pH _ eE;rw[Aa] at r_ eE;obtain⟨bM,gV,h1,jk,has⟩:=td eE;cases h1;obtain⟨an,zH,zI,nw⟩:=P7 r_;obtain⟨x,gC,vc⟩:=ID zI inv.st.ctx jk;have zJ:=zf inv.st.ctx.rel.u5 inv.st.ctx.globs inv.st.ctx.a_ nw has;have c0:=c.a6i _ _ _ _ fH (k-1) w m _ _ inv.st.ctx.rel inv.st.ctx.globs vc zJ;refine P6 zH gC (us:=an.args.map a.eval) I (λ_=>trivial) I (by
   have aN:(an.args.toList.map a.eval).toArray=an.args.map a.eval:=by apply Array.ext';simp
   rw[aN] at c0;exact c0) (λaN bR ak=>?_)
  obtain⟨ret,bP,fq,cS,h1,h2,h3⟩:=ak;obtain⟨rfl,rfl⟩:ret= .ok (v p)/\bP=S (p+1):=by
   have:=List.mem_singleton.1 fq;exact⟨congrArg Prod.fst this,congrArg Prod.snd this⟩
  cases aN with
  |returned u=>
   have gm:=(inv.st.ext h3 h2).put aU.dst h1;rw[put_eq] at gm;obtain⟨lC,gE⟩:=inv.effect c ar dq h8 he I gm h3;rw[h7] at gE;exact cM _ _ _ _ _ gE
  |panicked l8=>exact h1.elim
  |outgrown=>exact h1.elim
theorem Ri(c:gD P env B f r ops pl bb cN cO call s S v)(cj:listed.size=ops.size)(ak:Region.ready .any ops listed=[]):∀p,p<ops.size->c9 bb listed p:=by
 intro p
 induction p using Nat.strongRecOn with
 |_ p aD=>
  intro ar;refine Classical.byContradiction λdq=>?_;have zX:=c.spec.pi p ar;have:bb p∈Region.ready .any ops listed:=by
   refine mem_ready.2 ⟨?_,ops[bb p],Array.getElem?_eq_getElem zX.1,λe he hb=>?_⟩
   ·unfold c9 at dq;have hlt:bb p<listed.size:=by rw[cj];exact zX.1
    simp[Array.getD_eq_getD_getElem?,hlt] at dq ⊢;exact dq
   ·have s9:=c.spec.back p ar _ (Array.getElem?_eq_getElem zX.1) e he hb;have tr:=c.spec.zV e.on s9.1;have:=aD (cN e.on) s9.2 tr.1;unfold c9 at this;rw[tr.2] at this;exact this
  rw[ak] at this;cases this
theorem Rj(c:gD P env B f r ops pl bb cN cO call s S v)(hall:∀p,p<ops.size->c9 bb listed p)(gL:tp pl v (s 0) (c9 bb listed) cV):∀t,cV.get t=(s ops.size).get t:=by
 have aa:=Je c ops.size (Nat.le_refl _);intro t;by_cases hex:∃(q:Nat) (dd:aY),pl[q]? =some dd/\dd.dst=some t
 ·obtain⟨q,dd,h1,h2⟩:=hex;by_cases hlt:((s 0).get t).isSome=true
  ·rw[gL.k3 q dd t h1 (hall q (c.lt h1)) h2 hlt,aa.k3 q dd t h1 (c.lt h1) h2 hlt]
  ·have aN:=gL.fk t;have a4:=aa.fk t;cases hg:(s 0).get t with
   |some y=>rw[hg] at hlt;exact absurd I hlt
   |none=>
    rw[hg] at aN a4;cases qL:cV.get t with
    |some y=>rw[qL] at aN;cases aN
    |none=>
     cases w6:(s ops.size).get t with
     |some y=>rw[w6] at a4;cases a4
     |none=>rfl
 ·rw[gL.vo t (λq dd h1 _ h2=>hex ⟨q,dd,h1,h2⟩),aa.vo t (λq dd h1 _ h2=>hex ⟨q,dd,h1,h2⟩)]
theorem Rk(c:gD P env B f r ops pl bb cN cO call s S v)(inv:Inv P env B f ops pl bb cO s S v ds rc cT eK er listed a w dr m cV)(ak:Region.ready .any ops listed=[]):
  ew P env ⟨s ops.size,ds,rc⟩ a (S ops.size) w m B/\Ext f cT eK er (S ops.size) w m:=by
 have hall:=Ri c inv.size ak;have aS:dr=ops.size:=by
  rcases inv.xB with h|⟨dL,h1,_,h3⟩
  ·exact h
  ·exact absurd (hall dr (c.lt h1)) h3
 subst aS;have nu:=Rj c hall inv.a_;have gL:=inv.st.ctx.a_;refine⟨⟨⟨inv.st.ctx.rel,⟨λi x hi=>gL.1 i x (by rw[nu i];exact hi),λi hi=>gL.2 i (by rw[nu i];exact hi)⟩,inv.st.ctx.globs⟩,inv.st.defs⟩,inv.ext⟩
theorem Rl(c:gD P env B f r ops pl bb cN cO call s S v){x:Nat}{T:ad}(hx:x<ops.size)(inv:Inv2 P env B f ops pl bb cO s S v ds rc cT eK er listed a w x T m cV)(ak:Region.ready .any ops listed=[]):
  ew P env ⟨s ops.size,ds,rc⟩ a (S ops.size) w m B/\Ext f cT eK er (S ops.size) w m:=by
 have hall:=Ri c inv.size ak;obtain⟨aN,a4⟩:=inv.fin (hall x hx);have nu:=Rj c hall inv.a_;have gL:=inv.st.ctx.a_;have st:ew P env ⟨s ops.size,ds,rc⟩ a T w m B:=⟨⟨inv.st.ctx.rel,⟨λi x hi=>gL.1 i x (by rw[nu i];exact hi),λi hi=>gL.2 i (by rw[nu i];exact hi)⟩,inv.st.ctx.globs⟩,inv.st.defs⟩
 exact⟨st.congr aN a4,inv.ext.congr aN a4⟩
theorem count_set{l:Array Bool}{i:Nat}(h:l.getD i true=false):(l.setIfInBounds i true).toList.count false+1=l.toList.count false:=by
 have hlt:i<l.size:=by
  rcases Nat.lt_or_ge i l.size with h1|h1
  ·exact h1
  ·simp[Array.getD_eq_getD_getElem?,Array.getElem?_eq_none h1] at h
 have au:l[i]=false:=by simpa [Array.getD_eq_getD_getElem?,hlt] using h
 rw[Array.toList_setIfInBounds,List.count_set (by simpa using hlt)];have H8:0<l.toList.count false:=List.count_pos_iff.2 (by rw[<-au];simp);have l1:(l.toList[i]'(by simpa using hlt))=false:=by simpa using au
 rw[l1];have aN:(if(false==false)=true then 1 else 0)=1:=rfl;have a4:(if(true==false)=true then 1 else 0)=0:=rfl;rw[aN,a4];omega
theorem Rm(c:gD P env B f r ops pl bb cN cO call s S v){k:Nat}{Q:Exit->Act->World->Prop}(b0:∀cn av aP,ew P env ⟨s ops.size,ds,rc⟩ cn (S ops.size) av aP B->Ext f cT eK er (S ops.size) av aP->Q .normal cn av){x:Nat}(hx:x<ops.size):
  ∀(fuel:Nat) (listed:Array Bool) (a:Act) (w:World) (T:ad) (m:Nat->Option Nat) (cV:aX AV),Inv2 P env B f ops pl bb cO s S v ds rc cT eK er listed a w x T m cV->listed.toList.count false<=fuel->wpAnyIn (eS r) k P .any ops Q fuel listed a w
 |0,listed,a,w,T,m,cV,inv,hf=>by
  have ak:Region.ready .any ops listed=[]:=by
   refine List.eq_nil_iff_forall_not_mem.2 λi hi=>?_;have:=count_set (mem_ready.1 hi).1;omega
  obtain⟨h1,h2⟩:=Rl c hx inv ak;exact⟨ak,b0 _ _ _ h1 h2⟩
 |fuel+1,listed,a,w,T,m,cV,inv,hf=>by
  refine⟨λak=>?_,λi hi=>?_⟩
  ·obtain⟨h1,h2⟩:=Rl c hx inv ak;exact b0 _ _ _ h1 h2
  ·have a6B:=count_set (mem_ready.1 hi).1;exact a6v c hx inv hi (λcn av kl aP pG gE=>Rm c b0 hx fuel _ cn av kl aP pG gE (by omega))
theorem Rn(c:gD P env B f r ops pl bb cN cO call s S v){k:Nat}{Q:Exit->Act->World->Prop}(b0:∀cn av aP,ew P env ⟨s ops.size,ds,rc⟩ cn (S ops.size) av aP B->Ext f cT eK er (S ops.size) av aP->Q .normal cn av):
  ∀(fuel:Nat) (listed:Array Bool) (a:Act) (w:World) (dr:Nat) (m:Nat->Option Nat) (cV:aX AV),Inv P env B f ops pl bb cO s S v ds rc cT eK er listed a w dr m cV->listed.toList.count false<=fuel->wpAnyIn (eS r) k P .any ops Q fuel listed a w
 |0,listed,a,w,dr,m,cV,inv,hf=>by
  have ak:Region.ready .any ops listed=[]:=by
   refine List.eq_nil_iff_forall_not_mem.2 λi hi=>?_;have:=count_set (mem_ready.1 hi).1;omega
  obtain⟨h1,h2⟩:=Rk c inv ak;exact⟨ak,b0 _ _ _ h1 h2⟩
 |fuel+1,listed,a,w,dr,m,cV,inv,hf=>by
  refine⟨λak=>?_,λi hi=>?_⟩
  ·obtain⟨h1,h2⟩:=Rk c inv ak;exact b0 _ _ _ h1 h2
  ·have a6B:=count_set (mem_ready.1 hi).1;exact a6w c inv hi (λcn av z5 aP pG gE=>Rn c b0 fuel _ cn av z5 aP pG gE (by omega))
    (λcn av x T aP pG hx gE=>Rm c b0 hx fuel _ cn av T aP pG gE (by omega))
end
section
variable {P:Program}{env:Env}{B:Nat}
theorem a6C{ab:Fr}{a:Act}{J:ad}{w:World}{m:Nat->Option Nat}(st:ew P env ab a J w m B)(f n:Nat):ew P env ab a J {w with drawn:=n} m B/\Ext f J w m J {w with drawn:=n} m:=by
 have ak:=st.ctx.rel;have az:∀aB,aB<w.heap.size->¬bj J m aB->w.heap[aB]? =w.heap[aB]? ∧¬bj J m aB:=λ_ _ h=>⟨rfl,h⟩
 refine⟨st.mono ⟨ak.len,ak.fk,λid aB o h1 h2 h3=>?_,ak.inj,ak.base,ak.kY⟩ (λ_ _ h=>h) (Nat.le_refl _) (λ_ _ h=>h) az,
  ⟨λ_ _ h=>h,λ_ _ h=>.inl h,Nat.le_refl _,Nat.le_refl _,λ_ _ h=>h,λ_ _ _=>rfl,λ_ _ _=>rfl,λ_ _ h=>h,rfl,rfl,rfl,λ_ _ _=>rfl⟩⟩
 obtain⟨bH,aQ,bJ⟩:=ak.obj id aB o h1 h2 h3;exact⟨bH,aQ,kW.mono (w:=w) (av:={w with drawn:=n}) (λ_ _ h=>h) (Nat.le_refl _) (λ_ _ h=>h) az bJ⟩
theorem a6D{f:Nat}{call:kU}{pl:List aY}{s:Nat->aX AV}{S:Nat->ad}{v:Nat->AV}{cO:Nat->Nat->Bool}{al:aX AV}(mg:Trace env f call pl s S v)(he:s pl.length=al)(h:swapOk env al pl=true){p q:Nat}(kk:zU pl cO p q)
  {bC eh:aY} {s1 s2:Option Nat} {a3 fh bm nD:aF} (qR:pl[p]? =some bC) (Ac:pl[q]? =some eh) (hx:bC.op= .store s1 a3 fh) (hy:eh.op= .store s2 bm nD):∃i xx j xy,evalA env (s p) a3=some (.p (some (i,xx)))/\evalA env (s q) bm=some (.p (some (j,xy)))/\i≠j:=by
 have g3:=kk.Dr;have hl:=kk.last;obtain⟨Q_,a6n,_,_,_,_,_,_,bB,bp,_,_,cW,dQ,_,_,jG⟩:=kk.ops;rw[qR] at bB;cases bB;rw[Ac] at bp;cases bp;have aN:s q=s p:=by rw[<-g3,mg.put p bC qR,cW];rfl
 have a4:s pl.length=s q:=by rw[<-hl,mg.put q eh Ac,dQ];rfl
 have a6E:∃t,pl.reverse=eh::bC::t:=by
  have bN:pl.reverse[0]? =some eh:=by rw[List.getElem?_reverse (by omega),← Ac];congr 1;omega
  have bQ:pl.reverse[1]? =some bC:=by rw[List.getElem?_reverse (by omega),← qR];congr 1;omega
  match pl.reverse,bN,bQ with
  |a::b::t,bN,bQ=>simp at bN bQ;exact⟨t,by rw[bN,bQ]⟩
 obtain⟨t,ht⟩:=a6E;unfold swapOk at h;rw[ht] at h;simp only at h;split at h
 ·rename_i hw;exact absurd hw jG
 ·rw[hy,hx] at h;simp only at h;rw[<-he,a4,aN] at h;rw[aN];split at h
  ·rename_i i xx j xy bN bQ;refine⟨i,xx,j,xy,bN,bQ,λgp=>?_⟩;subst gp;rw[Nat.beq_refl] at h;cases h
  ·cases h
theorem a6F{run:hZ}(lD:P.follows .mixedOrders=true)(oq:∀f r,zE P env B f r (callV env run f)):Qb P env B run:=by
 intro floor pl ab J a9 cp ws af b2 cA a6G k r id ops a w m vd st Q b0;obtain⟨bb,cN,cO,spec⟩:=a5T vd;obtain⟨s,S,v,mg,aN,a4,cQ,h6,nE,oz,xv,_,iG⟩:=Dw _ _ _ _ _ _ _ _ _ b2;have c:gD P env B floor r ops pl bb cN cO (callV env run floor) s S v:=by
  refine⟨spec,oq floor r,mg,λp aU ar hw he q aS=>?_,λp q kk bC eh s1 a3 fh s2 bm nD qR Ac hx hy=>a6D mg cQ a6G kk qR Ac hx hy⟩;have fq:=iG p aU ar hw he (λh=>by rw[h] at aS;cases aS);rw[List.all_eq_true] at cA;have h1:=cA _ fq;unfold steady at h1;have h2:=l3 h1 q aS;simp only[xv,List.reverse_nil,List.nil_append,zb,u_] at h2;split at h2
  ·rename_i b9w Ro;simp only[List.getElem?_map,Option.map_eq_some_iff] at Ro;obtain⟨lC,DF,rfl⟩:=Ro;obtain rfl:q=lC:=by
    have:=List.getElem?_range (i:=q) (n:=pl.length+1) (by have:=(List.getElem?_eq_some_iff.1 DF).1;simpa using this);rw[this] at DF;cases DF;rfl
   split at h2
   ·rename_i v1 bP hx;rw[AV.xn _ _ _ h2] at hx;exact⟨bP,hx⟩
   ·cases h2
  ·cases h2
 refine wpIn_region_any lD ?_;obtain⟨gm,a6H⟩:=a6C st floor (w.drawn+1);have bq:ab=⟨s 0,ab.defers,ab.fi⟩:=by rw[aN]
 obtain⟨q,h1,h2,h3,aQ⟩:=Jf c ops.size 0 (by omega);have md:∀p,¬c9 bb (Array.replicate ops.size false) p:=λp h=>by
  unfold c9 at h;simp only[Array.getD_eq_getD_getElem?] at h;rw[Array.getElem?_replicate] at h;split at h<;>simp at h
 have a6I:nF pl s S J (c9 bb (Array.replicate ops.size false)) m 0:=⟨λp aU h=>by omega,λp d_ aU gN h h'=>by omega⟩
 obtain⟨z6,z7,z8⟩:=advance c (D:=c9 bb (Array.replicate ops.size false)) q 0 (by omega) (λp aU bJ cu ej=>aQ p aU bJ (by omega) ej) (by rw[a4];exact gm) (by rw[a4];exact a6H) a6I;rw[Nat.zero_add] at z6 z7 z8;refine Rn (cT:=J) (eK:=w) (er:=m) (ds:=ab.defers) (rc:=ab.fi) c (λcn av aP bN bQ=>?_) ops.size _ a _ q m (s 0) ⟨st.ctx.rel,by simp,λp ar hd=>absurd hd (md p),h2,?_,λe dL bJ cu ej=>?_,λe dL _ _ _ h=>md e h,⟨λ_=>rfl,λp aU t ar hd=>absurd hd (md p),λt _=>rfl⟩,by rw[<-bq];exact z6,z7,z8⟩ (by simp)
 ·rw[<-spec.len,h6] at bN bQ;rw[cQ] at bN;refine b0 cn av aP ?_ bQ;have:a9=⟨a9.a_,ab.defers,ab.fi⟩:=by rw[<-nE,← oz]
  rw[this];exact bN
 ·rcases h3 with h|⟨dL,bJ,cu⟩
  ·exact .inl h
  ·exact .inr ⟨dL,bJ,cu,md q⟩
 ·have:=aQ e dL (by omega) bJ cu;rw[this] at ej;cases ej
end
section
variable {P:Program}{env:Env}{B:Nat}
theorem Rp(fO:qI P env)(eP:xl P env B)(hex:xm P env)(lD:P.follows .mixedOrders=true):∀n,ow P env B (exec env n)
 |0=>ow.zero
 |n+1=>by
  have aD:=Rp fO eP hex lD n;rw[mb];exact a4N aD (λf r=>QA fO eP hex aD f r) (a6F lD (λf r=>QA fO eP hex aD f r)) (a5N fO eP aD)
def fe(n:Nat):AV->Bool:=
 Nat.rec (motive:=λ_=>AV->Bool) (λ_=>false) (λ_ aD v=>
  match v with
  | .df o v=>!o&&cr aD v.cells
  | .a7 o _ xs=>(!o||xs.isEmpty)&&cr (λx=>cr aD x.cells) xs
  | .it _ v=>aD v
  | .ag l=>cr aD l
  | .a6 l=>cr aD l
  | .f _ x y=>cr aD x&&cr aD y
  | .fs o _=>!o
  |_=>true) n
theorem nH(n:Nat)(v:AV):fe (n+1) v=match v with
  | .df o v=>!o&&cr (fe n) v.cells
  | .a7 o _ xs=>(!o||xs.isEmpty)&&cr (λx=>cr (fe n) x.cells) xs
  | .it _ v=>fe n v
  | .ag l=>cr (fe n) l
  | .a6 l=>cr (fe n) l
  | .f _ x y=>cr (fe n) x&&cr (fe n) y
  | .fs o _=>!o
  |_=>true:=rfl
theorem Rq{w:World}{O:Nat->Prop}:∀(n:Nat) (v:AV) (u:Value),fe n v=true->R w (λ_=>none) O B v u->R w (λ_=>none) (λb=>b<B) B v u
 |0,_,_,h,_=>by cases h
 |n+1,v,u,h,hR=>by
  have aD:=Rq (w:=w) (O:=O) n;rw[nH] at h;cases hR with
  |b x=>exact .b x
  |i k n=>exact .i k n
  |s l ao=>exact .s l ao
  |n8=>exact .n8
  |p hm=>simp at hm
  |df a8 cb hb bV aa ak hf=>
   simp only[Bool.and_eq_true,Bool.not_eq_true'] at h;exact .df a8 (λhlt=>by have:=bV h.1;omega) hb bV aa (λj aA=>aD _ _ (l3 h.2 _ (List.getElem_mem aA)) (ak j aA)) hf
  |ae=>exact .ae
  |al hm=>simp at hm
  |kb=>exact .kb
  |a7 a8 cb ao aa ak hl hf eP=>
   simp only[Bool.and_eq_true,Bool.or_eq_true,Bool.not_eq_true',List.isEmpty_iff] at h;refine .a7 a8 (λa5=>?_) ao aa (λi hi j aA=>aD _ _ (l3 (l3 h.2 _ (List.getElem_mem hi)) _ (List.getElem_mem aA)) (ak i hi j aA)) hl hf eP;have h1:=h.1.resolve_right a5;exact⟨λhlt=>by have:=(cb a5).2.2 h1;omega,(cb a5).2.1,(cb a5).2.2⟩
  |pf=>exact .pf
  |mp hm=>simp at hm
  |ct hf bq aa qt=>
   simp only[Bool.and_eq_true] at h;exact .ct hf (λi a b=>aD _ _ (l3 h.1 _ (List.getElem_mem a)) (bq i a b)) aa (λi a b=>aD _ _ (l3 h.2 _ (List.getElem_mem a)) (qt i a b))
  |rJ hm=>simp at hm
  |dA=>exact .dA
  |it au=>exact .it (aD _ _ h au)
  |eO=>exact .eO
  |ag ao ak hf=>exact .ag ao (λi a b=>aD _ _ (l3 h _ (List.getElem_mem a)) (ak i a b)) hf
  |a6 ao ak=>exact .a6 ao (λi a b=>aD _ _ (l3 h _ (List.getElem_mem a)) (ak i a b))
  |gk hu hn=>exact .gk hu hn
  |gK ao=>exact .gK ao
  |g1 n hn=>exact .g1 n hn
  |y ao=>exact .y ao
  |fs hu ao=>
   simp only[Bool.not_eq_true'] at h;subst h;exact .fs hu (TokOk.fresh ao)
def SpecEntry(P:Program)(env:Env)(b6 g:Nat)(aW:List AV)(r:AV):Prop:=
 (∃fn c,P.funcs[g]? =some fn/\fn.body=some c/\(fn.name== "runtime.NumGoroutine")=false)∧
  ∀k rd w us,b6<=w.heap.size->Globs env w b6->bz w (λ_=>none) (λ_=>False) w.heap.size aW us.toList→
   CallsIn (eS rd) k P g us w (λe bR=>∃u,e= .returned u/\R bR (λ_=>none) (λb=>b<w.heap.size) w.heap.size r u/\w.heap.size<=bR.heap.size/\(∀b,b<w.heap.size->bR.heap[b]? =w.heap[b]?)/\bR.os=w.os/\bR.tape=w.tape/\bR.output=w.output)
def DG(P:Program)(env:Env):Prop:=∀b6,xl P env b6
theorem a6J(w:World):Rel P ⟨.nil,0⟩ w (λ_=>none) w.heap.size:=
 ⟨trivial,λ_ _ h=>by simp at h,λ_ _ _ h=>by simp at h,λ_ _ _ h=>by simp at h,λ_ _ h=>by simp at h,Nat.le_refl _⟩
theorem a6K(aB:Nat):¬bj ⟨.nil,0⟩ (λ_=>none) aB:=λ⟨_,h,_⟩=>by simp at h
theorem Rr(fO:qI P env)(eP:DG P env)(hex:xm P env)(lD:P.follows .mixedOrders=true){n g:Nat}{aW:List AV}{r:AV}{l:List (dR×ad)}(h:runF env (exec env n) 0 g aW ⟨.nil,0⟩=some l){bn fn:Nat}(bg:joinF bn 0 l=some r)(bq:fe fn r=true)(b6:Nat):
  SpecEntry P env b6 g aW r:=by
 refine⟨?_,λk rd w us bV cZ ha=>?_⟩
 ·unfold runF at h;cases hg:env.funcs g with
  |none=>simp[hg] at h
  |some b1=>
   obtain⟨fn,h1,h2,h3⟩:=fO.funcs g b1 hg;obtain⟨_,c,_,_,aQ,_⟩:=IH h2;exact⟨fn,c,h1,aQ,h3⟩
 ·have Ad:Globs env w w.heap.size:=λg v hg dW=>(cZ g v hg dW).mono (λ_ _ h=>h) (Nat.le_refl _) (λ_ _ h=>h) (λb _ hb=>⟨rfl,λho=>hb (Nat.le_trans bV ho)⟩);have b2:=Rp fO (eP w.heap.size) hex lD n;have ny:=a6J (P:=P) w;have IM:bz w (λ_=>none) (bj ⟨.nil,0⟩ (λ_=>none)) w.heap.size aW us.toList:=ha.mono (λ_ _ h=>h) (Nat.le_refl _) (λ_ _ h=>h) (λb _ _=>⟨rfl,a6K b⟩);obtain⟨_,aa⟩:=IN fO b2 (IQ fO 0) h k rd ny Ad IM;refine CallsIn.mono aa (λe bR c0=>?_);obtain⟨ret,af,fq,cS,kh,kD,gb⟩:=c0;obtain⟨v,rfl,g2⟩:=Qv bg _ _ fq;cases e with
  |returned u=>
   have a6L:Ext (⟨.nil,0⟩:ad).next ⟨.nil,0⟩ w (λ_=>none) af bR cS:=gb;have hR:=IU ny kD a6L bn v r u g2 kh;exact⟨u,rfl,Rq fn r u bq hR,gb.size,λb hb=>gb.aO b hb (λ⟨_,_,h,_⟩=>by simp at h),gb.os,gb.tape,gb.out⟩
  |panicked l8=>exact kh.elim
  |outgrown=>exact kh.elim
end
def Ae(jH:List (Nat×List AV×AV))(g:Nat)(aW:List AV):Option AV:=
 List.rec none (λe _ aD=>cond (Nat.beq e.1 g) (cond (ft (AV.eqb 1000) aW e.2.1) (some e.2.2) aD) aD) jH
theorem a6M(e:Nat×List AV×AV)(jH:List (Nat×List AV×AV))(g:Nat)(aW:List AV):Ae (e::jH) g aW=cond (Nat.beq e.1 g) (cond (ft (AV.eqb 1000) aW e.2.1) (some e.2.2) (Ae jH g aW)) (Ae jH g aW):=rfl
theorem Jm{g:Nat}{aW:List AV}{r:AV}:∀ {jH:List (Nat×List AV×AV)},Ae jH g aW=some r->(g,aW,r)∈jH
 |[],h=>by cases h
 |e::jH,h=>by
  rw[a6M] at h;cases h1:Nat.beq e.1 g with
  |false=>rw[h1,cond_false] at h;exact List.mem_cons_of_mem _ (Jm h)
  |true=>
   rw[h1,cond_true] at h;cases h2:ft (AV.eqb 1000) aW e.2.1 with
   |false=>rw[h2,cond_false] at h;exact List.mem_cons_of_mem _ (Jm h)
   |true=>
    rw[h2,cond_true] at h;cases h;have aN:=Nat.eq_of_beq_eq_true h1;have a4:=C_ (AV.xn 1000) _ _ h2;subst aN;subst a4;exact List.mem_cons_self
inductive k5 where
 |nil
 |one (k:Nat) (a:aI)
 |node (k:Nat) (l r:k5)
def k5.get(t:k5):Nat->Option aI:=
 k5.rec (λ_=>none) (λk a i=>cond (Nat.beq i k) (some a) none) (λk _ _ l r i=>cond (Nat.blt i k) (l i) (r i)) t
def k5.Af(p:Nat->aI->Prop):k5->Prop
 | .nil=>True
 | .one k a=>p k a
 | .node _ l r=>l.Af p/\r.Af p
theorem k5.vs{p:Nat->aI->Prop}:∀ {t:k5},t.Af p->∀g b1,t.get g=some b1->p g b1
 | .nil,_,g,b1,h=>by cases h
 | .one k a,ar,g,b1,h=>by
  have h:cond (Nat.beq g k) (some a) none=some b1:=h;cases h1:Nat.beq g k with
  |false=>rw[h1] at h;cases h
  |true=>
   rw[h1] at h;cases h;have:=Nat.eq_of_beq_eq_true h1;subst this;exact ar
 | .node k l r,ar,g,b1,h=>by
  have h:cond (Nat.blt g k) (l.get g) (r.get g)=some b1:=h;cases h1:Nat.blt g k with
  |false=>rw[h1] at h;exact k5.vs ar.2 g b1 h
  |true=>rw[h1] at h;exact k5.vs ar.1 g b1 h
structure b8 where
 funcs:k5
 kS:Nat->Option AV
 pure:Nat->Bool
 bn:Nat
 ext:Nat->Nat
def b8.env(b:b8)(jH:List (Nat×List AV×AV)):Env:={funcs:=b.funcs.get,kS:=b.kS,pure:=b.pure,spec:=Ae jH,bn:=b.bn+1000,ext:=b.ext}
def Jn(P:Program)(g:Nat)(b1:aI):Prop:=∃fn,P.funcs[g]? =some fn/\cfunc P fn=some b1/\(fn.name== "runtime.NumGoroutine")=false
structure kH(P:Program)(b:b8):Prop where
 funcs:b.funcs.Af (Jn P)
 ext:∀g,b.ext g≠0->∀args v,extRow (b.ext g) args=some v->∀w m O B us cs,bz w m O B args (us++cs).toList->∃u,(invoke (.fn (.func g) cs) us).run P w= .ok (.value u) w/\R w m O B v u
 xD:P.follows .mixedOrders=true
def runsTo(b:b8)(jH:List (Nat×List AV×AV))(n:Nat)(e:Nat×List AV×AV):Bool:=
 match OA (b.env jH) n e.1 e.2.1 with
 |some v=>AV.eqb 1000 v e.2.2&&fe 1000 e.2.2
 |none=>false
section
variable {P:Program}{b:b8}{jH:List (Nat×List AV×AV)}
def vt(P:Program)(b:b8)(jH:List (Nat×List AV×AV)):Prop:=∀e∈jH,∀b6,SpecEntry P (b.env []) b6 e.1 e.2.1 e.2.2
theorem vt.a6N(h:vt P b jH):DG P (b.env jH):=λb6 g aW r ao=>h _ (Jm ao) b6
theorem vt.entry(hb:kH P b)(h:vt P b jH){n:Nat}{e:Nat×List AV×AV}(ak:runsTo b jH n e=true)(b6:Nat):SpecEntry P (b.env []) b6 e.1 e.2.1 e.2.2:=by
 unfold runsTo OA at ak;split at ak
 ·rename_i v au;split at au<;>try (cases au;done)
  rename_i l b2;simp only[Bool.and_eq_true] at ak;rw[AV.xn _ _ _ ak.1] at au;exact Rr (env:=b.env jH) ⟨λg b1 hg=>k5.vs hb.funcs g b1 hg⟩ h.a6N hb.ext hb.xD b2 au ak.2 b6
 ·cases ak
end
theorem a6O(c x:Nat)(l:List Nat)(k:Nat):wN c (x::l) k=cond (Nat.beq x c) (Int.ofNat k) (wN c l (k+1)):=rfl
theorem a6P{a b:Nat}(ha:a<256)(hb:b<256):(a.toUInt8==b.toUInt8)=Nat.beq a b:=by
 rw[Bool.eq_iff_iff,Nat.beq_eq,beq_iff_eq];constructor
 ·intro h;have:=congrArg UInt8.toNat h;simp at this;omega
 ·intro h;rw[h]
theorem Rs{c:Nat}(aa:c<256):∀(l:List Nat) (k:Nat),(∀x∈l,x<256)->wN c l k=if Lib.indexByte (l.map Nat.toUInt8) c.toUInt8= -1 then-1 else Lib.indexByte (l.map Nat.toUInt8) c.toUInt8+k
 |[],k,_=>rfl
 |x::l,k,h=>by
  have hx:x<256:=h x (by simp);have aD:=Rs aa l (k+1) (λy hy=>h y (by simp[hy]));have k1:=Lib.indexByte_ge (l.map Nat.toUInt8) c.toUInt8;rw[a6O,aD,List.map_cons];simp only[Lib.indexByte,a6P hx aa];cases hb:Nat.beq x c with
  |true=>simp
  |false=>
   simp only[cond_false,Bool.false_eq_true,if_false];by_cases h1:Lib.indexByte (l.map Nat.toUInt8) c.toUInt8= -1
   ·simp[h1]
   ·have h2:(Lib.indexByte (l.map Nat.toUInt8) c.toUInt8== -1)=false:=by simpa using h1
    rw[h2];simp only[h1,if_false,Bool.false_eq_true];rw[if_neg (by omega)];omega
theorem a6Q(x:Nat)(l:List Nat)(y:Nat)(r:List Nat):gT (x::l) (y::r)=cond (Nat.blt x y) true (cond (Nat.beq x y) (gT l r) false):=rfl
theorem a6R(x:Nat)(l:List Nat)(y:Nat)(r:List Nat):eqL (x::l) (y::r)=cond (Nat.beq x y) (eqL l r) false:=rfl
theorem cmp_eq:∀(a b:List Nat),(∀x∈a,x<256)->(∀x∈b,x<256)->Lib.compareBytes (a.map Nat.toUInt8) (b.map Nat.toUInt8)=cond (gT a b) (-1) (cond (eqL a b) 0 1)
 |[],[],_,_=>rfl
 |[],_::_,_,_=>rfl
 |_::_,[],_,_=>rfl
 |x::a,y::b,ha,hb=>by
  have hx:x<256:=ha x (by simp);have hy:y<256:=hb y (by simp);have aD:=cmp_eq a b (λz bg=>ha z (by simp[bg])) (λz bg=>hb z (by simp[bg]));have Rt:∀ {p q:Nat},p<256->q<256->(p.toUInt8<q.toUInt8↔p<q):=λar aS=>by
   rw[UInt8.lt_iff_toNat_lt];simp;omega
  simp only[List.map_cons,Lib.compareBytes,a6Q,a6R,Rt hx hy,Rt hy hx];rcases Nat.lt_trichotomy x y with h|h|h
  ·have:Nat.blt x y=true:=(tm.2 h)
   simp[h,this]
  ·subst h;have h1:Nat.blt x x=false:=by cases h:Nat.blt x x with|false=>rfl|true=>exact absurd ((tm.1 h)) (Nat.lt_irrefl x)
   simp[h1,aD]
  ·have h1:Nat.blt x y=false:=by cases h':Nat.blt x y with|false=>rfl|true=>have:=(tm.1 h');omega
   have h2:Nat.beq x y=false:=by cases h':Nat.beq x y with|false=>rfl|true=>have:=Nat.eq_of_beq_eq_true h';omega
   have h3:¬x<y:=by omega
   simp[h,h1,h2,h3]
section
variable {P:Program}{g:Nat}{fn:Func}
theorem Ru{w:World}{m:Nat->Option Nat}{O:Nat->Prop}{B:Nat}{x y:AV}{l:List Value}(h:bz w m O B [x,y] l):∃u v,l=[u,v]/\R w m O B x u/\R w m O B y v:=by
 obtain⟨h1,h2⟩:=h
 match l,h1,h2 with
 |[u,v],_,h2=>exact⟨u,v,rfl,h2 0 (by simp) (by simp),h2 1 (by simp) (by simp)⟩
theorem a6S(hf:P.funcs[g]? =some fn)(ve:(fn.name== "runtime.NumGoroutine")=false)(hb:fn.body.isNone=true)(hn:Extern.findNext fn=none)(he:Extern.find fn=some Extern.BytealgIndexByte.indexByte)
  (args:List AV) (v:AV) (h:extRow 1 args=some v) (w:World) (m:Nat->Option Nat) (O:Nat->Prop) (B:Nat) (us cs:Array Value) (ha:bz w m O B args (us++cs).toList):∃u,(invoke (.fn (.func g) cs) us).run P w= .ok (.value u) w/\R w m O B v u:=by
 have key:∃l c,args=[.s l,.i .u8 (Int.ofNat c)]/\c<256/\v= .i .i64 (wN c l 0):=by
  unfold extRow at h;split at h
  ·rename_i l c _;cases aa:Nat.blt c 256 with
   |false=>rw[aa] at h;cases h
   |true=>rw[aa,cond_true] at h;cases h;exact⟨l,c,rfl,(tm.1 aa),rfl⟩
  ·rename_i h1;exact absurd h1 (by decide)
  ·rename_i h1;exact absurd h1 (by decide)
  ·cases h
 obtain⟨l,c,rfl,aa,rfl⟩:=key;obtain⟨Jo,Jp,hl,h1,h2⟩:=Ru ha;have kf:us++cs= #[Jo,Jp]:=by apply Array.ext';simpa using hl
 cases h1 with
 |s _ hlt=>
  cases h2 with
  |i _ _=>
   refine⟨.int .i64 (wN c l 0),?_,.i _ _⟩;show(callFunc g (us++cs)).run P w=_;rw[run_callFunc_extern hf ve hb hn he,kf,Lib.run_indexByteString];have aN:(strOf l).data.toList=l.map Nat.toUInt8:=by simp[strOf]
   have a4:(Int.ofNat c).toNat=c:=rfl;rw[aN,a4,Rs aa l 0 hlt];simp only[Result.andThen_ok];split
   ·rename_i h;rw[h]
   ·simp
theorem a6T(hf:P.funcs[g]? =some fn)(ve:(fn.name== "runtime.NumGoroutine")=false)(hb:fn.body.isNone=true)(hn:Extern.findNext fn=none)(he:Extern.find fn=some Extern.BytealgCompare.compare)
  (args:List AV) (v:AV) (h:extRow 2 args=some v) (w:World) (m:Nat->Option Nat) (O:Nat->Prop) (B:Nat) (us cs:Array Value) (ha:bz w m O B args (us++cs).toList):∃u,(invoke (.fn (.func g) cs) us).run P w= .ok (.value u) w/\R w m O B v u:=by
 have key:∃a b,args=[.s a,.s b]/\v= .i .i64 (cond (gT a b) (-1) (cond (eqL a b) 0 1)):=by
  unfold extRow at h;split at h
  ·rename_i h1;exact absurd h1 (by decide)
  ·cases h;exact⟨_,_,rfl,rfl⟩
  ·rename_i h1;exact absurd h1 (by decide)
  ·cases h
 obtain⟨a,b,rfl,rfl⟩:=key;obtain⟨Jo,Jp,hl,h1,h2⟩:=Ru ha;have kf:us++cs= #[Jo,Jp]:=by apply Array.ext';simpa using hl
 cases h1 with
 |s _ hlt=>
  cases h2 with
  |s _ a6U=>
   refine⟨.int .i64 (cond (gT a b) (-1) (cond (eqL a b) 0 1)),?_,.i _ _⟩;show(callFunc g (us++cs)).run P w=_;rw[run_callFunc_extern hf ve hb hn he,kf,Lib.run_compareString];have aN:∀l,(strOf l).data.toList=l.map Nat.toUInt8:=λl=>by simp[strOf]
   rw[aN,aN,cmp_eq a b hlt a6U];rfl
end
theorem SpecEntry.calls{P:Program}{env:Env}{b6 g:Nat}{aW:List AV}{r:AV}(h:SpecEntry P env b6 g aW r){w:World}{us:Array Value}(bV:b6<=w.heap.size)(cZ:Globs env w b6)(ha:bz w (λ_=>none) (λ_=>False) w.heap.size aW us.toList):
  Calls P g us w (λe bR=>∃u,e= .returned u/\R bR (λ_=>none) (λb=>b<w.heap.size) w.heap.size r u/\w.heap.size<=bR.heap.size/\(∀b,b<w.heap.size->bR.heap[b]? =w.heap[b]?)/\bR.os=w.os/\bR.tape=w.tape/\bR.output=w.output):=
 (h.2 0 none w us bV cZ ha).calls (λk=>by simp[Fence.room,eS])
theorem Rv{α β:Type}{f:α->Option β}:∀ {l:List α} {r:List β},mapOL f l=some r->r.length=l.length/\∀i (h:i<l.length) (h':i<r.length),f l[i]=some r[i]
 |[],r,h=>by cases h;exact⟨rfl,λi h=>by simp at h⟩
 |x::xs,r,h=>by
  unfold mapOL at h;split at h<;>cases h;rename_i y a8 h1 h2;obtain⟨h3,aQ⟩:=Rv h2;refine⟨by simp[h3],λi hi cY=>?_⟩;cases i with
  |zero=>simpa using h1
  |succ i=>simpa using aQ i (by simpa using hi) (by simpa using cY)
def packA(U:Option Nat)(l:List AV):Option AV:=
 match U,l with
 |none,[x]=>some x
 |none,_=>none
 |some n,l=>if l.length=n then some (.ag l) else none
def avCat(f:TypeId->DataW Unit->Option (List AV))(cells:TypeId->Nat):List (Nat×TypeId)->Nat->List (DataW Unit)->Option (List AV)
 |[],_,[]=>some []
 |(o,t)::a2,k,d::ds=>
  if o=k then match f t d,avCat f cells a2 (k+cells t) ds with
   |some l,some r=>if l.length=cells t then some (l++r) else none
   |_,_=>none
  else none
 |_,_,_=>none
def avCells(P:Program):Nat->TypeId->DataW Unit->Option (List AV)
 |0,_,_=>none
 |n+1,t,d=>
  match P.underlying t,d with
  |some .bool,.lit (.bool b)=>some [.b b]
  |some (.int _),.lit (.int k x)=>some [.i k x]
  |some .string,.lit (.string l)=>some [.s (l.map (·.toNat))]
  |some (.pointer _),.nil=>some [.p none]
  |some (.slice _),.nil=>some [.ae]
  |some (.slice e),.slice (y::a8) _=>match shapeOf P e,P.cellsOf e with
   |some U,c+1=>if shN U=c+1 then match mapOL (λd=>match avCells P n e d with|some l=>packA U l|none=>none) (y::a8) with
     |some xs=>some [.a7 true U xs]
     |none=>none
    else none
   |_,_=>none
  |some (.struct a2),.agg aC=>match avCat (avCells P n) P.cellsOf (a2.toList.map λf=>(f.offset,f.type)) 0 aC with
   |some l=>if l.length=P.cellsOf t then some l else none
   |none=>none
  |some (.array k e),.agg aC=>match avCat (avCells P n) P.cellsOf ((List.range k).map λi=>(i*P.cellsOf e,e)) 0 aC with
   |some l=>if l.length=P.cellsOf t then some l else none
   |none=>none
  |_,_=>none
section
variable {P:Program}{w:World}
theorem Jq{base:Nat}{a:Addr}{n:Nat}{cs:List Value}(h:w.cells? base a n=some cs):cs.length=n/\∀i,i<n->w.cell? (a.add i)=cs[i]? :=by
 unfold World.cells? at h;split at h
 ·exact⟨by simpa using mapM_some_length h,λi hi=>mapM_some_get h i i (by simp[hi])⟩
 ·cases h
theorem a6V{a:Addr}{v:Value}(h:w.cell? a=some v):a.spot=none/\a.block<w.heap.size:=by
 unfold World.cell? at h;split at h
 ·rename_i hh;split at h
  ·cases h
  ·rename_i ao;refine⟨by cases hx:a.spot with|none=>rfl|some _=>simp[hx] at ao,?_⟩;exact(Array.getElem?_eq_some_iff.1 hh).1
 ·cases h
theorem Jr{f:TypeId->DataW Unit->Option (List AV)}{dW m:Nat}(aD:∀t cs d aC l,DataW.trod (λ_=>()) P w 0 (λ_=>true) false m t cs=some (d,aC)->f t d=some l->bz w (λ_=>none) (λb=>w.heap.size<=b) dW l cs/\∀x∈l,conf none x=true)(cs:List Value):
  ∀(a2:List (Nat×TypeId)) (k:Nat) (xs:List (DataW Unit×List MemPlace)) (l:List AV),(∀(i o:Nat) (t:TypeId),a2[i]? =some (o,t)->DataW.trod (λ_=>()) P w 0 (λ_=>true) false m t ((cs.drop o).take (P.cellsOf t))=xs[i]?)→
   avCat f P.cellsOf a2 k (xs.map (·.1))=some l->k+l.length=cs.length->bz w (λ_=>none) (λb=>w.heap.size<=b) dW l (cs.drop k)/\∀x∈l,conf none x=true
 |[],k,[],l,_,h,az=>by
  cases h;rw[List.drop_eq_nil_of_le (by simp at az;omega)];exact⟨.nil,λx hx=>by cases hx⟩
 |[],k,x::xs,l,_,h,az=>by simp[avCat] at h
 |(o,t)::a2,k,[],l,_,h,az=>by simp[avCat] at h
 |(o,t)::a2,k,x::xs,l,hx,h,az=>by
  simp only[List.map_cons,avCat] at h;split at h
  ·rename_i ho;subst ho;split at h
   ·rename_i r5 hE h1 h2;split at h<;>cases h;rename_i ij;have h0:=hx 0 o t I;simp only[List.getElem?_cons_zero] at h0;obtain⟨a3,bm⟩:=aD t _ x.1 x.2 r5 (by rw[h0]) h1;have ak:=Jr aD cs a2 (o+P.cellsOf t) xs hE (λi bH CO hi=>by simpa using hx (i+1) bH CO (by simpa using hi)) h2 (by rw[List.length_append] at az;omega);refine⟨?_,λy hy=>(List.mem_append.1 hy).elim (bm y) (ak.2 y)⟩;have hd:=ak.1;rw[<-List.drop_drop] at hd;have:=a3.append hd;rwa[List.take_append_drop] at this
   ·cases h
  ·cases h
theorem Rw{U:Option Nat}{l:List AV}{x:AV}(h:packA U l=some x)(hl:∀y∈l,conf none y=true):conf U x=true/\x.cells=l:=by
 unfold packA at h;split at h
 ·cases h;have:=hl x (by simp);refine⟨this,?_⟩;cases x<;>simp_all [conf,AV.cells]
 ·cases h
 ·split at h<;>cases h;rename_i hn;exact⟨by simp[conf,hn],rfl⟩
theorem Rx(dW:Nat):∀(n fuel:Nat) (t:TypeId) (cs:List Value) (d:DataW Unit) (aC:List MemPlace) (l:List AV),DataW.trod (λ_=>()) P w 0 (λ_=>true) false fuel t cs=some (d,aC)->avCells P n t d=some l→
  bz w (λ_=>none) (λb=>w.heap.size<=b) dW l cs/\∀x∈l,conf none x=true
 |0,_,_,_,_,_,_,_,h=>by cases h
 |n+1,fuel,t,cs,d,aC,l,hd,h=>by
  have aD:=λm t cs d aC l=>Rx dW n m t cs d aC l;unfold avCells at h;split at h
  ·rename_i ht;obtain⟨b,rfl,hx⟩:=DataW.trod_bool ht hd;cases h;cases hx;exact⟨.cons (.b _) .nil,λx hx=>by simp at hx;subst hx;rfl⟩
  ·rename_i ht;obtain⟨b,rfl,hx,_⟩:=DataW.trod_int ht hd;cases h;cases hx;exact⟨.cons (.i _ _) .nil,λx hx=>by simp at hx;subst hx;rfl⟩
  ·rename_i ht;obtain⟨s,rfl,hx,_⟩:=DataW.trod_string ht hd;cases h;cases hx;have:=R.s (w:=w) (m:=λ_=>none) (O:=λb=>w.heap.size<=b) (B:=dW) (uL s) (OT s);rw[OS] at this;exact⟨.cons this .nil,λx hx=>by simp at hx;subst hx;rfl⟩
  ·rename_i ht;rcases DataW.trod_pointer ht hd with⟨rfl,_⟩|⟨_,_,_,_,_,_,hx,_⟩
   ·cases h;exact⟨.cons .n8 .nil,λx hx=>by simp at hx;subst hx;rfl⟩
   ·cases hx
  ·rename_i ht;rcases DataW.trod_slice ht hd with⟨rfl,_⟩|⟨_,_,_,_,_,_,_,_,hx,_⟩
   ·cases h;exact⟨.cons .ae .nil,λx hx=>by simp at hx;subst hx;rfl⟩
   ·cases hx
  ·rename_i e y a8 _ ht;split at h<;>try (cases h;done)
   rename_i U c gW aa;split at h<;>try (cases h;done)
   rename_i Ry;split at h<;>cases h;rename_i xs dg;obtain⟨h1,h2⟩:=Rv dg;rcases DataW.trod_slice ht hd with⟨_,hx⟩|⟨a,len,cap,elems,rest,m,rfl,rfl,hx,_,kz,w1,uX,gA,_,_⟩
   ·cases hx
   simp only[Prod.mk.injEq,DataW.slice.injEq] at hx;obtain⟨⟨eL,_⟩,_⟩:=hx;have hlen:xs.length=len:=by rw[h1,eL];simpa using uX
   have each:∀i (hi:i<xs.length),∃us,w.cells? 0 (a.add (i*P.cellsOf e)) (P.cellsOf e)=some us/\bz w (λ_=>none) (λb=>w.heap.size<=b) dW (xs[i]).cells us/\conf U xs[i]=true/\∀x∈(xs[i]).cells,conf none x=true:=λi hi=>by
    have hg:=gA i (by omega);have cY:i<elems.length:=by omega
    rw[List.getElem?_eq_getElem cY] at hg;simp only[Option.bind_eq_some_iff] at hg;obtain⟨us,hu,a6W⟩:=hg;have h3:=h2 i (by omega) hi;have aN:(y::a8)[i]'(by omega)=(elems[i]).1:=by
     have:(y::a8)[i]? =(elems.map (·.1))[i]? :=by rw[eL]
     rw[List.getElem?_eq_getElem (by omega),List.getElem?_eq_getElem (by simpa using cY),Option.some.injEq] at this;simpa using this
    rw[aN] at h3;split at h3<;>try (cases h3;done)
    rename_i r5 ij;obtain⟨a3,bm⟩:=aD m e us _ _ r5 a6W ij;obtain⟨cv,dU⟩:=Rw h3 bm;exact⟨us,hu,by rw[dU];exact a3,cv,by rw[dU];exact bm⟩
   have H8:0<xs.length:=by rw[h1];simp
   obtain⟨b9x,a6X,ny,eJ,_⟩:=each 0 H8;obtain⟨b9y,u2⟩:=Jq a6X;have l2:P.cellsOf e=c+1:=aa;have DH:=u2 0 (by omega);rw[List.getElem?_eq_getElem (by omega)] at DH;simp only[Nat.zero_mul] at DH;have a6Y:(a.add 0).add 0=a:=rfl;rw[a6Y] at DH;obtain⟨eP,Rz⟩:=a6V DH;obtain⟨aB,off,sp⟩:=a;cases eP;refine⟨.cons ?_ .nil,λx hx=>by simp at hx;subst hx;rfl⟩;rw[<-hlen];refine .a7 (λi j=>(w.cell? ⟨aB,off+i*shN U+j,none⟩).getD undef) (λ_=>⟨by show ¬w.heap.size<=aB;exact Nat.not_le.2 Rz,Rz,λh=>by cases h⟩) (λi hi=>(each i hi).choose_spec.2.2.1) (λi hi j aA=>?_) (λi hi j aA=>?_) (by omega) (λv au x hx=>?_) (λ_=>rfl)
   ·obtain⟨us,hu,ak,g4,_⟩:=each i hi;obtain⟨hl,hg⟩:=Jq hu;have eR:j<P.cellsOf e:=by rw[rR g4] at aA;omega
    have:=hg j eR;rw[jZ,jZ,List.getElem?_eq_getElem (by omega)] at this;rw[l2,← Ry] at this;rw[this];rfl
   ·obtain⟨us,hu,ak,g4,_⟩:=each i hi;obtain⟨hl,hg⟩:=Jq hu;have eR:j<P.cellsOf e:=by rw[rR g4] at aA;omega
    have:=hg j eR;rw[jZ,jZ,List.getElem?_eq_getElem (by omega)] at this;rw[l2,← Ry] at this;rw[this];exact ak.2 j aA (by omega)
   ·obtain⟨i,hi,rfl⟩:=List.getElem_of_mem au;exact(each i hi).choose_spec.2.2.2 x hx
  ·rename_i a2 lu ht;split at h<;>try (cases h;done)
   rename_i r5 ij;split at h<;>cases h;rename_i hlen;obtain⟨xs,m,rfl,hx,fN,h_,gA⟩:=DataW.trod_struct ht hd;simp only[Prod.mk.injEq,DataW.agg.injEq] at hx;obtain⟨rfl,_⟩:=hx;have:=Jr (dW:=dW) (m:=m) (λt cs d aC l=>aD m t cs d aC l) cs _ 0 xs l (λi o CO hi=>by
    simp only[List.getElem?_map,Option.map_eq_some_iff,Prod.mk.injEq] at hi;obtain⟨f,hf,rfl,rfl⟩:=hi;exact gA i f (by simpa using hf)) ij (by omega)
   simpa using this
  ·rename_i k e lu ht;split at h<;>try (cases h;done)
   rename_i r5 ij;split at h<;>cases h;rename_i hlen;obtain⟨xs,m,rfl,hx,fN,h_,gA⟩:=DataW.trod_array ht hd;simp only[Prod.mk.injEq,DataW.agg.injEq] at hx;obtain⟨rfl,_⟩:=hx;have:=Jr (dW:=dW) (m:=m) (λt cs d aC l=>aD m t cs d aC l) cs _ 0 xs l (λi o CO hi=>by
    simp only[List.getElem?_map,Option.map_eq_some_iff,Prod.mk.injEq] at hi;obtain⟨j,aA,rfl,rfl⟩:=hi;have gB:=List.getElem?_eq_some_iff.1 aA;obtain⟨RA,DI⟩:=gB;simp at RA DI;subst DI;exact gA i RA) ij (by omega)
   simpa using this
  ·cases h
def avVar(P:Program)(n:Nat)(x:String×DataW Unit):Option (Nat×AV):=
 match P.globalNamed x.1 with
 |some g=>match P.globals[g]? with
  |some qS=>match shapeOf P qS.type,avCells P n qS.type x.2 with
   |some U,some l=>match packA U l with
    |some v=>some (g,v)
    |none=>none
   |_,_=>none
  |none=>none
 |none=>none
noncomputable def DJ (l:List (Nat×AV)) (g:Nat):Option AV:=List.rec none (λe _ aD=>cond (Nat.beq e.1 g) (some e.2) aD) l
theorem Js{g:Nat}{v:AV}:∀ {l:List (Nat×AV)},DJ l g=some v->(g,v)∈l
 |[],h=>by cases h
 |e::l,h=>by
  have h:cond (Nat.beq e.1 g) (some e.2) (DJ l g)=some v:=h;cases h1:Nat.beq e.1 g with
  |false=>rw[h1,cond_false] at h;exact List.mem_cons_of_mem _ (Js h)
  |true=>
   rw[h1,cond_true] at h;cases h;have:=Nat.eq_of_beq_eq_true h1;subst this;exact List.mem_cons_self
theorem var?_heap{n:String}{g:Nat}{cs:Array Value}(hg:P.globalNamed n=some g)(h:w.var? P n=some cs):∃t bn,w.heap[g]? =some (.cells cs t bn):=by
 unfold World.var? at h;rw[hg] at h;simp only[Option.bind_some] at h;split at h<;>cases h;exact⟨_,_,by assumption⟩
theorem RC:∀ {laid:List (String×DataW Unit)} {aC:List MemPlace},DataW.LaidVars P w laid aC->∀x∈laid,∃g t cs fuel p,P.globalNamed x.1=some g/\(P.globals[g]?).map (·.type)=some t/\w.var? P x.1=some cs/\DataW.trod (λ_=>()) P w 0 (λ_=>true) false fuel t cs.toList=some (x.2,p)
 |[],_,_,x,hx=>by cases hx
 |y::laid,aC,hl,x,hx=>by
  obtain⟨c6,t0,mQ,f0,p0,dr,pI,vu,vv,mc,nx,_⟩:=hl;rcases List.mem_cons.1 hx with rfl|hx
  ·exact⟨c6,t0,mQ,f0,p0,pI,vu,vv,mc⟩
  ·exact RC nx x hx
theorem a6Z{n:Nat}{x:String×DataW Unit}{g:Nat}{v:AV}(h1:avVar P n x=some (g,v)){c6 t0 f0:Nat}{mQ:Array Value}{p0:List MemPlace}(pI:P.globalNamed x.1=some c6)(vu:(P.globals[c6]?).map (·.type)=some t0)
  (vv:w.var? P x.1=some mQ) (mc:DataW.trod (λ_=>()) P w 0 (λ_=>true) false f0 t0 mQ.toList=some (x.2,p0)) (dW:Nat):
  R w (λ_=>none) (λb=>w.heap.size<=b) dW (.df true v) (.pointer (some ⟨g,0,none⟩)):=by
 unfold avVar at h1;rw[pI] at h1;simp only[] at h1;cases j5:P.globals[c6]? with
 |none=>simp[j5] at h1
 |some RD=>
  simp only[j5] at h1 vu;simp only[Option.map_some,Option.some.injEq] at vu;subst vu;split at h1<;>try (cases h1;done)
  rename_i U r5 ao ij;split at h1<;>cases h1;rename_i ar;obtain⟨a3,bm⟩:=Rx dW n f0 _ _ _ _ _ mc ij;obtain⟨cv,dU⟩:=Rw ar bm;obtain⟨nh,bn,hh⟩:=var?_heap pI vv;have hlt:g<w.heap.size:=(Array.getElem?_eq_some_iff.1 hh).1;refine .df (λj=>(mQ[j]?).getD undef) (by show ¬w.heap.size<=g;omega) hlt (λh=>by cases h) (λj aA=>?_) (λj aA=>?_) (by rw[dU];exact bm)
  ·rw[dU] at aA;have eR:j<mQ.size:=by have:=a3.1;simp at this;omega
   unfold World.cell?;rw[hh];simp[eR]
  ·have gB:=aA;rw[dU] at gB;have eR:j<mQ.size:=by have:=a3.1;simp at this;omega
   have:=a3.2 j gB (by simpa using eR);simp only[dU];simpa [eR] using this
theorem RE{n:Nat}{laid:List (String×DataW Unit)}{aC:List MemPlace}(hl:DataW.LaidVars P w laid aC):∀ {L:List (String×DataW Unit)} {qS:List (Nat×AV)},(∀x∈L,x∈laid)->mapOL (avVar P n) L=some qS→
  ∀g v,(g,v)∈qS->∀dW,R w (λ_=>none) (λb=>w.heap.size<=b) dW (.df true v) (.pointer (some ⟨g,0,none⟩))
 |[],qS,_,h,g,v,hm=>by cases h;cases hm
 |x::L,qS,hL,h,g,v,hm=>by
  unfold mapOL at h;split at h<;>cases h;rename_i y a8 h1 h2;rcases List.mem_cons.1 hm with rfl|hm
  ·intro dW;obtain⟨c6,t0,mQ,f0,p0,pI,vu,vv,mc⟩:=RC hl x (hL x (by simp));exact a6Z h1 pI vu vv mc dW
  ·exact RE hl (λx hx=>hL x (by simp[hx])) h2 g v hm
theorem globs_of_laid{env:Env}{laid:List (String×DataW Unit)}{n:Nat}{qS:List (Nat×AV)}(hl:laidMet P laid w)(names:List String)(h:mapOL (avVar P n) (laid.filter λx=>names.contains x.1)=some qS)(hg:env.kS=DJ qS):Globs env w w.heap.size:=by
 obtain⟨aC,hl,_⟩:=hl;intro g v au dW;rw[hg] at au;exact RE hl (λx hx=>(List.mem_filter.1 hx).1) h g v (Js au) dW
end
end Go.Lyc
end
noncomputable section
namespace Go.Lyc
set_option maxHeartbeats 0
variable [Tok][TokOk]
open Go.RowKit Go.ChangeShapes Go.WideShapes
theorem a7a{W W':World}{may:MemPlace->Prop}(az:∀b,b<W.heap.size->W'.heap[b]? =W.heap[b]?)(ku:W'.os=W.os)(kc:W'.output=W.output):W.keptBut W' may:=by
 refine⟨ku,kc,λi hi=>?_⟩;rw[az i hi];cases h:W.heap[i]? with
 |none=>rfl
 |some o=>
  cases o with
  |cells c t ab=>exact⟨rfl,rfl,rfl,λj _=>rfl⟩
  |map es clock=>exact .inr ⟨rfl,rfl⟩
  |_=>rfl
end Go.Lyc
end
noncomputable section
namespace Go.Lyc
set_option maxHeartbeats 0
variable [Tok][TokOk]
open Go.RowKit
def c4{α:Type}(f:Nat->Option (List α))(Q:α->Prop):Prop:=∃eU l,l≠[]/\(∀F,eU<=F->f F=some l)/\∀x∈l,Q x
theorem c4.one{α:Type}{f:Nat->Option (List α)}{Q:α->Prop}{x:α}(h:∀F,f F=some [x])(aS:Q x):c4 f Q:=⟨0,[x],by simp,λF _=>h F,λ_ hy=>by rw[List.mem_singleton.1 hy];exact aS⟩
theorem c4.mono{α:Type}{f:Nat->Option (List α)}{Q mh:α->Prop}(h:c4 f Q)(aS:∀x,Q x->mh x):c4 f mh:=let⟨eU,l,h1,h2,h3⟩:=h;⟨eU,l,h1,h2,λx hx=>aS x (h3 x hx)⟩
theorem c4.congr{α:Type}{f g:Nat->Option (List α)}{Q:α->Prop}(h:c4 f Q)(e:∀F,g F=f F):c4 g Q:=let⟨eU,l,h1,h2,h3⟩:=h;⟨eU,l,h1,λF b_=>(e F).trans (h2 F b_),h3⟩
theorem c4.succ{α:Type}{f g:Nat->Option (List α)}{Q:α->Prop}(h:c4 f Q)(e:∀F,g (F+1)=f F):c4 g Q:=
 let⟨eU,l,h1,h2,h3⟩:=h
 ⟨eU+1,l,h1,λF b_=>by obtain⟨k,rfl⟩:∃k,F=k+1:=⟨F-1,by omega⟩;exact(e k).trans (h2 k (by omega)),h3⟩
theorem a7b{α β:Type}(f:α->Option (List β))(x y:α)(t:List α):mD f (x::y::t)=match f x with|none=>none|some a=>match mD f (y::t) with|none=>none|some b=>some (a++b):=rfl
theorem c4.flat{α β:Type}{g:α->Nat->Option (List β)}{Q:β->Prop}:∀(l:List α),l≠[]->(∀x∈l,c4 (g x) Q)->c4 (λF=>mD (λx=>g x F) l) Q
 |[],h,_=>absurd I h
 |[x],_,h=>(h x (by simp)).congr λF=>rfl
 |x::y::t,_,h=>by
  obtain⟨qT,r5,a3,ec,gx⟩:=h x (by simp);obtain⟨a7c,RF,bm,dp,k4⟩:=c4.flat (g:=g) (Q:=Q) (y::t) (by simp) (λz bg=>h z (List.mem_cons_of_mem _ bg));refine⟨max qT a7c,r5++RF,by simp[a3],λF b_=>?_,λz bg=>?_⟩
  ·show mD (λx=>g x F) (x::y::t)=_;have a4:mD (λx=>g x F) (y::t)=some RF:=dp F (by omega);rw[a7b,ec F (by omega),a4]
  ·rcases List.mem_append.1 bg with bg|bg
   ·exact gx z bg
   ·exact k4 z bg
theorem c4.then{α β:Type}{f:Nat->Option (List α)}{g:α->Nat->Option (List β)}{Q:α->Prop}{mh:β->Prop}(h:c4 f Q)(hg:∀x,Q x->c4 (g x) mh):c4 (λF=>gw (f F) (λx=>g x F)) mh:=by
 obtain⟨eU,l,h1,h2,h3⟩:=h;obtain⟨qT,cf,a,b,c⟩:=c4.flat (g:=g) (Q:=mh) l h1 (λx hx=>hg x (h3 x hx));exact⟨max eU qT,cf,a,λF b_=>by show gw (f F) _=_;rw[h2 F (by omega)];exact b F (by omega),c⟩
abbrev pJ:=fa->Fr->ad->Prop
def fv(env:Env)(floor:Nat)(aJ:Option Nat)(c:bF)(ab:Fr)(J:ad)(Q:pJ):Prop:=c4 (λF=>exec env F floor aJ c ab J) (λo=>Q o.1 o.2.1 o.2.2)
def iV(env:Env)(floor:Nat)(du:Bool)(ops:List aY)(ab:Fr)(J:ad)(Q:pJ):Prop:=c4 (λF=>runOps env floor (callV env (exec env F) floor) du ops ab J) (λo=>Q o.1 o.2.1 o.2.2)
def bu(env:Env)(floor:Nat)(cd:AV)(args:List AV)(J:ad)(Q:dR->ad->Prop):Prop:=c4 (λF=>callV env (exec env F) floor cd args J) (λo=>Q o.1 o.2)
section
variable {env:Env}{floor:Nat}{aJ:Option Nat}{ab:Fr}{J:ad}{Q:pJ}
theorem fv.mono{c:bF}{mh:pJ}(h:fv env floor aJ c ab J Q)(aS:∀x ab J,Q x ab J->mh x ab J):fv env floor aJ c ab J mh:=c4.mono h λ_ ho=>aS _ _ _ ho
theorem fv.skip(h:Q .normal ab J):fv env floor aJ .skip ab J Q:=(c4.one (f:=λF=>some [(fa.normal,ab,J)]) (Q:=λo=>Q o.1 o.2.1 o.2.2) (λ_=>rfl) h).succ λF=>by rw[mb];rfl
theorem fv.ret(h:Q .ret ab J):fv env floor aJ .ret ab J Q:=(c4.one (f:=λF=>some [(fa.ret,ab,J)]) (Q:=λo=>Q o.1 o.2.1 o.2.2) (λ_=>rfl) h).succ λF=>by rw[mb];rfl
theorem fv.exit{id:Nat}(h:Q (.exit id) ab J):fv env floor aJ (.exit id) ab J Q:=(c4.one (f:=λF=>some [(fa.exit id,ab,J)]) (Q:=λo=>Q o.1 o.2.1 o.2.2) (λ_=>rfl) h).succ λF=>by rw[mb];rfl
theorem fv.region{ops:List aY}(h:iV env floor aJ.isNone ops ab J Q):fv env floor aJ (.region ops) ab J Q:=c4.succ h λF=>by rw[mb];rfl
def a7d(env:Env)(floor:Nat)(aJ:Option Nat)(b:bF)(Q:pJ):pJ:=λx ab J=>match x with| .normal=>fv env floor aJ b ab J Q|x=>Q x ab J
theorem fv.seq{a b:bF}(h:fv env floor aJ a ab J (a7d env floor aJ b Q)):fv env floor aJ (.seq a b) ab J Q:=by
 refine c4.succ (c4.then (g:=λx F=>wO (exec env F) floor aJ b x) h λo ho=>?_) λF=>by rw[mb];rfl
 obtain⟨x,a9,af⟩:=o;cases x with
 |normal=>exact ho
 |exit i=>exact c4.one (λ_=>rfl) ho
 |ret=>exact c4.one (λ_=>rfl) ho
 |panic v=>exact c4.one (λ_=>rfl) ho
def a7e(id:Nat)(Q:pJ):pJ:=λx ab J=>match x with| .exit j=>if j=id then Q .normal ab J else Q (.exit j) ab J|x=>Q x ab J
theorem fv.block{a:bF}{id:Nat}(h:fv env floor aJ a ab J (a7e id Q)):fv env floor aJ (.block id a) ab J Q:=by
 refine c4.succ (c4.then (g:=λx _=>Hx id x) h λo ho=>?_) λF=>by rw[mb];rfl
 obtain⟨x,a9,af⟩:=o;cases x with
 |normal=>exact c4.one (λ_=>rfl) ho
 |exit i=>
  have ho:(if i=id then Q .normal a9 af else Q (.exit i) a9 af):=ho;by_cases hi:i=id
  ·subst hi;rw[if_pos I] at ho;refine c4.one (x:=(.normal,a9,af)) (λ_=>?_) ho;show cond (Nat.beq i i) _ _=_;rw[Nat.beq_refl];rfl
  ·rw[if_neg hi] at ho;refine c4.one (x:=(.exit i,a9,af)) (λ_=>?_) ho;show cond (Nat.beq i id) _ _=_;rw[show Nat.beq i id=false from by cases hb:Nat.beq i id with|false=>rfl|true=>exact absurd (Nat.eq_of_beq_eq_true hb) hi];rfl
 |ret=>exact c4.one (λ_=>rfl) ho
 |panic v=>exact c4.one (λ_=>rfl) ho
theorem fv.hJ{o:aF}{a b:bF}{t:Bool}(ho:evalA env ab.a_ o=some (.b t))(ht:t=true->fv env floor aJ a ab J Q)(hf:t=false->fv env floor aJ b ab J Q):fv env floor aJ (.cond o a b) ab J Q:=by
 cases t with
 |true=>
  refine c4.succ (ht I) λF=>?_;rw[mb];show(match evalA env ab.a_ o with|some (.b t)=>exec env F floor aJ (cond t a b) ab J|_=>none)=_;rw[ho];rfl
 |false=>
  refine c4.succ (hf I) λF=>?_;rw[mb];show(match evalA env ab.a_ o with|some (.b t)=>exec env F floor aJ (cond t a b) ab J|_=>none)=_;rw[ho];rfl
theorem fv.loop{a:bF}(ed:Nat->Fr->ad->Prop)(aV:∀m ab J,ed m ab J->fv env floor aJ a ab J (λx a9 af=>match x with| .normal=>∃aP,aP<m/\ed aP a9 af|x=>Q x a9 af)):∀m ab J,ed m ab J->fv env floor aJ (.loop a) ab J Q:=by
 intro m
 induction m using Nat.strongRecOn with
 |ind m aD=>
  intro ab J h;refine c4.succ (c4.then (g:=λx F=>wO (exec env F) floor aJ (.loop a) x) (aV m ab J h) λo ho=>?_) λF=>by rw[mb];rfl
  obtain⟨x,a9,af⟩:=o;cases x with
  |normal=>obtain⟨aP,h1,h2⟩:=ho;exact aD aP h1 a9 af h2
  |exit i=>exact c4.one (λ_=>rfl) ho
  |ret=>exact c4.one (λ_=>rfl) ho
  |panic v=>exact c4.one (λ_=>rfl) ho
theorem iV.nil{du:Bool}(h:Q .normal ab J):iV env floor du [] ab J Q:=c4.one (λ_=>rfl) h
theorem iV.val{du:Bool}{o:aY}{ops:List aY}{v:AV}{af:ad}(hw:wantedA o.guard ab.a_=true)(ho:opx floor (evalA env ab.a_) J o.op=some (.val v af))(h:iV env floor du ops (ab.put o.dst v) af Q):iV env floor du (o::ops) ab J Q:=
 c4.congr h λF=>by rw[va,hw,cond_true,ho]
theorem iV.off{du:Bool}{o:aY}{ops:List aY}(hw:wantedA o.guard ab.a_=false)(h:iV env floor du ops (ab.put o.dst dB) J Q):iV env floor du (o::ops) ab J Q:=
 c4.congr h λF=>by rw[va,hw,cond_false]
theorem iV.call{du:Bool}{o:aY}{ops:List aY}{cd:AV}{args:List AV}(hw:wantedA o.guard ab.a_=true)(ho:opx floor (evalA env ab.a_) J o.op=some (.call cd args))
  (h:bu env floor cd args J (λr af=>match r with| .ok v=>iV env floor du ops (ab.put o.dst v) af Q| .err v=>Q (.panic v) ab af)):iV env floor du (o::ops) ab J Q:=by
 refine c4.congr (c4.then (g:=λ(r:dR×ad) F=>(match r with
     |(.ok v,J)=>runOps env floor (callV env (exec env F) floor) du ops (ab.put o.dst v) J
     |(.err v,J)=>some [(.panic v,ab,J)])) h λr ak=>?_) λF=>by rw[va,hw,cond_true,ho]<;>rfl
 obtain⟨r,af⟩:=r;cases r with
 |ok v=>exact ak
 |err v=>exact c4.one (λ_=>rfl) ak
theorem bu.spec{g:Nat}{first cap args aW:List AV}{r:AV}{Q:dR->ad->Prop}(he:env.ext g=0)(ar:env.pure g=true)(ha:mapO (bG J env.bn) (first++args++cap)=some aW)(ao:env.spec g aW=some r)(h:Q (.ok r) J):
  bu env floor (.f (.func g) first cap) args J Q:=by
 refine c4.one (x:=(.ok r,J)) (λF=>?_) h;show callF env (exec env F) floor g (first++args++cap) J=_;unfold callF;rw[he];show cond (env.pure g) _ _=_;rw[ar,cond_true,ha];show(match env.spec g aW with|some r=>_|none=>_)=_;rw[ao]
def RG(env:Env)(floor:Nat)(fn:aI)(Q:dR->ad->Prop):pJ:=λx ab J=>∃r af,endF env floor fn (x,ab,J)=some [(r,af)]/\Q r af
theorem bu.run{g:Nat}{first cap args:List AV}{fn:aI}{body:bF}{Q:dR->ad->Prop}(he:env.ext g=0)(ar:env.pure g=false)(hf:env.funcs g=some fn)(hb:fn.body=some body)
  (hn:(Nat.beq (first++args++cap).length fn.jg&&Nat.ble (first++args++cap).length fn.ntmps)=true) (h:fv env floor none body (rH fn (first++args++cap)) J (RG env floor fn Q)):bu env floor (.f (.func g) first cap) args J Q:=by
 refine c4.congr (c4.then (g:=λx _=>endF env floor fn x) h λo ho=>?_) λF=>?_
 ·obtain⟨r,af,h1,h2⟩:=ho;exact c4.one (λ_=>h1) h2
 ·show callF env (exec env F) floor g (first++args++cap) J=_;unfold callF;rw[he];show cond (env.pure g) _ _=_;rw[ar,cond_false];unfold runF;rw[hf];show(match fn.body with|none=>none|some body=>_)=_;rw[hb];show cond _ _ _=_;rw[hn,cond_true]
theorem nI{α β:Type}(f:α->Option β)(x:α)(l:List α):mapO f (x::l)=match f x with|none=>none|some y=>match mapO f l with|none=>none|some a8=>some (y::a8):=rfl
theorem RH{f g:AV->Option AV}(h:∀x y,f x=some y->g x=some y):∀ {l r:List AV},mapO f l=some r->mapO g l=some r
 |[],r,e=>e
 |x::l,r,e=>by
  rw[nI] at e ⊢;cases hx:f x with
  |none=>rw[hx] at e;cases e
  |some y=>
   rw[hx] at e;cases hl:mapO f l with
   |none=>rw[hl] at e;cases e
   |some a8=>rw[hl] at e;rw[h x y hx,RH h hl];exact e
theorem RI{J:ad}{base:Nat}:∀(n:Nat) (v r:AV),freeze J base n v=some r->freeze J base (n+1) v=some r
 |0,_,_,h=>by cases h
 |n+1,v,r,h=>by
  have aD:=RI (J:=J) (base:=base) n;have fY:∀ {l cf:List AV},mapO (freeze J base n) l=some cf->mapO (freeze J base (n+1)) l=some cf:=RH aD;rw[freeze_succ] at h;rw[freeze_succ];split at h
  ·split at h<;>try (cases h;done)
   rename_i hb;rw[if_neg hb];split at h<;>try (cases h;done)
   rename_i xs dg;split at h<;>cases h;rename_i a8 Ag;simp only[dg,fY Ag]
  ·split at h<;>cases h;rename_i a8 Ag;simp only[fY Ag]
  ·split at h<;>cases h;rename_i a8 Ag;simp only[fY Ag]
  ·split at h<;>cases h;rename_i y hy;simp only[aD _ _ hy]
  ·cases h
  ·cases h
  ·cases h
  ·exact h
theorem RJ{J:ad}{base n m:Nat}(hn:n<=m){v r:AV}(h:freeze J base n v=some r):freeze J base m v=some r:=by
 obtain⟨k,rfl⟩:∃k,m=n+k:=⟨m-n,by omega⟩
 induction k with
 |zero=>exact h
 |succ k aD=>exact RI _ _ _ (aD (by omega))
theorem RK{f g:AV->AV->Bool}(h:∀x y,f x y=true->g x y=true):∀ {l r:List AV},ft f l r=true->ft g l r=true
 |[],[],e=>e
 |[],_::_,e=>by cases e
 |_::_,[],e=>by cases e
 |x::l,y::r,e=>by
  have e:cond (f x y) (ft f l r) false=true:=e;show cond (g x y) (ft g l r) false=true;cases hx:f x y with
  |false=>rw[hx] at e;cases e
  |true=>rw[hx] at e;rw[h x y hx];exact RK h e
theorem RL:∀(n:Nat) (x y:AV),AV.eqb n x y=true->AV.eqb (n+1) x y=true
 |0,_,_,h=>by cases h
 |n+1,x,y,h=>by
  have aD:=RL n;have fY:∀ {l r:List AV},ft (AV.eqb n) l r=true->ft (AV.eqb (n+1)) l r=true:=RK aD;have e:=AV.xn _ _ _ h;subst e;cases x
  case a7 o U xs=>
   have h:((o==o)&&decide (U=U)&&ft (AV.eqb n) xs xs)=true:=h;show((o==o)&&decide (U=U)&&ft (AV.eqb (n+1)) xs xs)=true;simp only[Bool.and_eq_true] at h ⊢;exact⟨h.1,fY h.2⟩
  case df o v=>
   have h:((o==o)&&AV.eqb n v v)=true:=h;show((o==o)&&AV.eqb (n+1) v v)=true;simp only[Bool.and_eq_true] at h ⊢;exact⟨h.1,aD _ _ h.2⟩
  case f ay a c=>
   have h:(decide (ay=ay)&&(ft (AV.eqb n) a a&&ft (AV.eqb n) c c))=true:=h;show(decide (ay=ay)&&(ft (AV.eqb (n+1)) a a&&ft (AV.eqb (n+1)) c c))=true;simp only[Bool.and_eq_true] at h ⊢;exact⟨h.1,fY h.2.1,fY h.2.2⟩
  case it t v=>
   have h:(Nat.beq t t&&AV.eqb n v v)=true:=h;show(Nat.beq t t&&AV.eqb (n+1) v v)=true;simp only[Bool.and_eq_true] at h ⊢;exact⟨h.1,aD _ _ h.2⟩
  case p a=>cases a<;>exact h
  case m a=>cases a<;>exact h
  case ag l=>exact fY (l:=l) (r:=l) h
  case a6 l=>exact fY (l:=l) (r:=l) h
  all_goals exact h
theorem a7f{n m:Nat}(hn:n<=m){x y:AV}(h:AV.eqb n x y=true):AV.eqb m x y=true:=by
 obtain⟨k,rfl⟩:∃k,m=n+k:=⟨m-n,by omega⟩
 induction k with
 |zero=>exact h
 |succ k aD=>exact RL _ _ _ (aD (by omega))
theorem iv{α:Type}{p:α->Bool}:∀ {l:List α},(∀y∈l,p y=true)->cr p l=true
 |[],_=>rfl
 |y::t,h=>by
  show cond (p y) (cr p t) false=true;rw[h y (by simp),cond_true];exact iv λz bg=>h z (List.mem_cons_of_mem _ bg)
theorem DK{P:Program}{m:Nat}(hm:m<=env.bn)(fO:qI P env)(eP:DG P env)(hex:xm P env)(lD:P.follows .mixedOrders=true){g:Nat}{fn:aI}{body:bF}{aW:List AV}{r:AV}(hf:env.funcs g=some fn)(hb:fn.body=some body)
  (hn:(Nat.beq aW.length fn.jg&&Nat.ble aW.length fn.ntmps)=true) {ab:Nat} (ak:fe ab r=true)
  (h:fv env 0 none body (rH fn aW) ⟨.nil,0⟩ (RG env 0 fn (λv af=>∃bA,v= .ok bA/\freeze af 0 m bA=some r))) (hj:AV.eqb m r r=true) (b6:Nat):SpecEntry P env b6 g aW r:=by
 have h1:c4 (λF=>gw (exec env F 0 none body (rH fn aW) ⟨.nil,0⟩) (endF env 0 fn)) (λo=>∃bA,o.1= .ok bA/\freeze o.2 0 m bA=some r):=
  c4.then (g:=λx _=>endF env 0 fn x) h λo ho=>by
   obtain⟨v,af,h1,h2⟩:=ho;exact c4.one (λ_=>h1) h2
 obtain⟨eU,l,hl,h2,h3⟩:=h1;have b2:runF env (exec env eU) 0 g aW ⟨.nil,0⟩=some l:=by
  unfold runF;rw[hf];show(match fn.body with|none=>none|some body=>_)=_;rw[hb];show cond _ _ _=_;rw[hn,cond_true];exact h2 eU (Nat.le_refl _)
 refine Rr (bn:=env.bn) fO eP hex lD b2 ?_ ak b6;cases l with
 |nil=>exact absurd I hl
 |cons x t=>
  obtain⟨v,aQ,bJ⟩:=h3 x (by simp);obtain⟨fh,nD⟩:=x;have aQ:fh= .ok v:=aQ;replace bJ:freeze nD 0 env.bn v=some r:=RJ hm bJ;subst aQ;show(match freeze nD 0 env.bn v with|none=>none|some v1=>cond (cr (uK env.bn 0 v1) t) (some v1) none)=_;rw[bJ];have:cr (uK env.bn 0 r) t=true:=by
   have Jt:∀y∈t,uK env.bn 0 r y=true:=λy hy=>by
    obtain⟨w,cu,ej⟩:=h3 y (List.mem_cons_of_mem _ hy);obtain⟨Hs,RM⟩:=y;have cu:Hs= .ok w:=cu;replace ej:freeze RM 0 env.bn w=some r:=RJ hm ej;subst cu;show(match freeze RM 0 env.bn w with|some bR=>AV.eqb env.bn bR r|none=>false)=true;rw[ej];exact a7f hm hj
   exact iv Jt
  show cond (cr (uK env.bn 0 r) t) (some r) none=_;rw[this];rfl
end
end Go.Lyc
end
