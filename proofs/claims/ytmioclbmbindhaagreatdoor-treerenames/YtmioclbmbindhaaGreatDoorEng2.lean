/-
  An abstract executor of the program's code, and that it is sound, part 2. No conditions: definitions and laws.
-/
import Derived.Test.YtmioclbmbindhaaGreatDoorEng1
import Derived.TacticsIn
import Derived.Scope
import Derived.RangeFuncRecord
import Derived.RecoverIn
set_option linter.all false
noncomputable section
namespace Go.Lyc
def et:=@Option.map_eq_some_iff
def di:=@Option.bind_eq_bind
def cB:=@Option.bind_eq_some_iff
def dv:=@Option.pure_def
def wF:=@List.cons_append
def Qm:=@List.take_succ_cons
def xS:=@List.drop_zero
def sI:=@Nat.le_add_right
def Fb:=@Nat.ble_eq
def ui:=@Bool.cond_eq_ite
def sJ:=@Go.Oper.semAt_eq
def wG:=@Go.CallsIn.mono
def Qn:=@Go.World.putObj_heap_other
def Qo:=@Array.toList_setIfInBounds
def Qp:=@List.set_append_right
def Qq:=@List.replicate_succ
def Qr:=@List.set_cons_zero
def q7:=@List.getElem?_eq_none
def J0:=@Array.toList_append
def wZ:=@List.drop_eq_nil_of_le
def yi:=@List.nil_append
def A_:=@Nat.lt_of_lt_of_le
def uK:=@Prod.mk.injEq
def iw:=@List.append_assoc
def J1:=@List.getElem?_cons_zero
def qb:=@List.mem_of_getElem?
def rr:=@List.mem_filter
def w0:=@List.mem_zipIdx_iff_getElem?
def fU:=@List.getD_eq_getElem?_getD
def kV:=@List.getElem?_map
def J2:=@List.getElem?_zipIdx
def Qs:=@Array.mem_of_getElem?
def Fc:=@Bool.not_true
def Fe:=@Bool.false_or
def nP:=@List.not_mem_nil
def vh:=@Nat.lt_trichotomy
set_option maxHeartbeats 0
set_option maxRecDepth 100000
section
variable [Tok]
open Go.RowKit
section
variable {P:Program}{w:World}{m:Nat→Option Nat}{O:Nat→Prop}{B:Nat}
theorem a3Z{t e:TypeId}{ad:Option Nat}(hu:P.underlying t=some (.slice e))(aj:shapeOf P e=some ad){ol:Bool}{xs:List AV}{u:Value}(hx:R w m O B (.a7 ol ad xs) u)
  {aK hi:Option Value} {qm:IntKind} (ar:j5 0 aK 0) (hh:j5 xs.length hi xs.length) (me:hi.isSome=true) (B6:0<xs.length):
  ∃bR,(Instr.sliceAt t u aK hi (some (.int qm (Int.ofNat xs.length)))).run P w= .ok bR w∧R w m O B (.ix ol ad xs) bR:=by
 obtain⟨_,bV,_⟩:=km aj w;have bx:xs≠[]:=xA.1 B6;cases hx with
 |ma=>exact absurd rfl bx
 | @a7 _ _ _ _ _ _ ax off ev sp aO db zp ah al nm hf eU=>
  obtain rfl:=eU bx;have hb:∀d n,j5 d hi n→∃sC,hi=some (.int sC (Int.ofNat n)):=fun d n h=>by
   cases h with
   |none=>simp at me
   |some sC h=>exact⟨sC,rfl⟩
  obtain⟨sC,rfl⟩:=hb _ _ hh;refine⟨.slice (some ⟨ax,off,none⟩) xs.length xs.length,?_,.ix rfl bx (.a7 aO db zp ah al (o _) hf (fun _=>rfl))⟩;simp only[Instr.sliceAt,Instr.slice,run_underlying hu,dZ,ec,Kw ar (hv _) (o _) nm,bV,gx];split<;>simp[h5]
theorem a4a{t e:TypeId}{ad:Option Nat}(hu:P.underlying t=some (.slice e))(aj:shapeOf P e=some ad){ol:Bool}{xs:List AV}{u:Value}(hx:R w m O B (.a7 ol ad xs) u)
  {aK hi:Option Value} {l h:Nat} (ar:j5 0 aK l) (hh:j5 xs.length hi h) (h1:l≤h) (h2:h≤xs.length):
  ∃bR,(Instr.sliceAt t u aK hi none).run P w= .ok bR w∧R w m O B (.a7 ol ad ((xs.drop l).take (h-l))) bR:=by
 obtain⟨_,bV,_⟩:=km aj w;cases hx with
 |ma=>
  have aM:h=0:=by simpa using h2
  subst aM;have e2:l=0:=by omega
  subst e2;refine⟨.slice none 0 0,?_,?_⟩
  ·have:=rk (P:=P) (w:=w) (isSlice:=true) (len:=0) (cap:=0) ar hh (o 0) (o 0);simp[Instr.sliceAt,Instr.slice,run_underlying hu,this,bV]
  ·simpa using R.ma
 | @a7 _ _ _ _ _ _ ax off ev sp aO db zp ah al nm hf eU=>
  by_cases n0:xs=[]
  ·subst n0;have aM:h=0:=by simpa using h2
   subst aM;have e2:l=0:=by omega
   subst e2;refine⟨.slice (some ⟨ax,off,sp⟩) 0 ev,?_,?_⟩
   ·have:=rk (P:=P) (w:=w) (isSlice:=true) (len:=0) (cap:=ev) ar hh (o 0) (hv _);simp[Instr.sliceAt,Instr.slice,run_underlying hu,this,bV,Addr.add]
   ·exact .a7 (xs:=[]) (fun _ _=>undef) (fun h=>absurd rfl h) (fun i h=>by simp at h) (fun i h=>by simp at h) (fun i h=>by simp at h) (hv _) (fun v av=>by simp at av) (fun h=>absurd rfl h)
  obtain rfl:=eU n0;have hlen:((xs.drop l).take (h-l)).length=h-l:=by simp;omega
  have b8:(Instr.sliceAt t (.slice (some ⟨ax,off,none⟩) xs.length ev) aK hi none).run P w= .ok (.slice (some ⟨ax,if ev=l then off else off+l*shN ad,none⟩) (h-l) (ev-l)) w:=by
   simp only[Instr.sliceAt,Instr.slice,run_underlying hu,dZ,ec,rk ar hh h1 (l_ h2 nm),bV,gx];split<;>simp[h5]
  refine⟨_,b8,?_⟩;by_cases bg:h-l=0
  ·have cj:(xs.drop l).take (h-l)=[]:=mI (by omega);rw[cj,bg];exact .a7 (xs:=[]) (fun _ _=>undef) (fun h=>absurd rfl h) (fun i h=>by simp at h) (fun i h=>by simp at h) (fun i h=>by simp at h) (hv _) (fun v av=>by simp at av) (fun h=>absurd rfl h)
  ·have eZ:¬ev=l:=by omega
   rw[if_neg eZ];have er:∀i (hi:i<((xs.drop l).take (h-l)).length),((xs.drop l).take (h-l))[i]=xs[l+i]'(by omega):=fun i hi=>by
    rw[C0,I0]
   have bx:xs≠[]:=fun e=>by subst e;simp at h2;omega
   have key:R w m O B (.a7 ol ad ((xs.drop l).take (h-l))) (.slice (some ⟨ax,off+l*shN ad,none⟩) ((xs.drop l).take (h-l)).length (ev-l)):=by
    refine .a7 (fun i j=>aO (l+i) j) (fun _=>db bx) (fun i hi=>?_) (fun i hi j az=>?_) (fun i hi j az=>?_) (by omega) (fun v av=>hf v (mw (oy av))) (fun _=>rfl)
    ·rw[er i hi];exact zp _ (by omega)
    ·simp only[er i hi] at az;have:=ah (l+i) (by omega) j az;rw[←this];congr 2;rw[ju];omega
    ·simp only[er i hi] at az ⊢;exact al (l+i) (by omega) j az
   rw[hlen] at key;exact key
end
theorem Rel.xB{P:Program}{I:af}{w:World}{m:Nat→Option Nat}{B:Nat}(al:Rel P I w m B):∀b,a_ I m b→B≤b:=fun _ ⟨_,h,_⟩=>al.base _ _ h
structure Ctx(P:Program)(env:Env)(I:af)(w:World)(m:Nat→Option Nat)(B:Nat)(ak:aT AV)(a:Act):Prop where
 rel:Rel P I w m B
 bk:jf w m (a_ I m) B ak a.tmps.toList
 globs:Globs env w B
section
variable {P:Program}{env:Env}{I:af}{w:World}{m:Nat→Option Nat}{B:Nat}{f:Nat}{ak:aT AV}{a:Act}
theorem Ctx.ao(c:Ctx P env I w m B ak a){x:Operand}{bA:aC}(hx:opdOf x=some bA){v:AV}(av:evalA env ak bA=some v):R w m (a_ I m) B v (a.eval x):=Ks c.rel.xB c.globs c.bk hx av
theorem Ctx.mS(c:Ctx P env I w m B ak a){x:Option Operand}{bA:Option aC}(hx:opdO x=some bA){d n:Nat}(av:bndO (evalA env ak) bA d=some n):j5 d (x.map a.eval) n:=a2y c.rel.xB c.globs c.bk hx av
theorem a4b(c:Ctx P env I w m B ak a){r:Result Next}{v:AV}(h:∃u,r= .ok (.value u) w∧R w m (a_ I m) B v u):fr P B f I w m v I r:=
 let⟨_,h1,h2⟩:=h;fr.pure c.rel h1 h2
theorem fg(c:Ctx P env I w m B ak a){s:Sem Value}{v:AV}(h:∃u,s.run P w= .ok u w∧R w m (a_ I m) B v u):fr P B f I w m v I ((do pure (.value (←s)):Sem Next).run P w):=by
 obtain⟨u,h1,h2⟩:=h;exact fr.pure c.rel (by simp[h1]) h2
theorem px{s:Sem Value}{v:AV}{aq:af}(h:∃u an aH,s.run P w= .ok u an∧R an aH (a_ aq aH) B v u∧Rel P aq an aH B∧Ext f I w m aq an aH):fr P B f I w m v aq ((do pure (.value (←s)):Sem Next).run P w):=by
 obtain⟨u,an,aH,h1,h2,h3,aE⟩:=h;exact⟨u,an,aH,.inl (by simp[h1]),h2,h3,aE⟩
theorem F4{s:Sem Unit}{aq:af}(h:∃an,s.run P w= .ok () an∧Rel P aq an m B∧Ext f I w m aq an m):fr P B f I w m dR aq ((do s;pure .skip:Sem Next).run P w):=by
 obtain⟨an,h1,h2,h3⟩:=h;exact⟨undef,an,m,.inr ⟨by simp[h1],rfl⟩,R.undef,h2,h3⟩
variable {J:Oper}{cD:AOp}{v:AV}{aq:af}
theorem R7(c:Ctx P env I w m B ak a){x:Operand}(ab:J.op= .move x∨J.op= .assign x)(ah:cop P J=some cD)(h:opx f (evalA env ak) I cD=some (.val v aq)):fr P B f I w m v aq ((execOp a.eval J).run P w):=by
 have hx:∃bA,opdOf x=some bA∧cD= .b6 bA:=by
  unfold cop at ah;rcases ab with ab|ab<;>(rw[ab] at ah;simp only[et] at ah;obtain⟨bA,h1,rfl⟩:=ah;exact⟨bA,h1,rfl⟩)
 obtain⟨bA,hx,rfl⟩:=hx;simp only[opx] at h;split at h<;>cases h;rename_i av;have e:execOp a.eval J=pure (.value (a.eval x)):=by unfold execOp;rcases ab with ab|ab<;>rw[ab]
 rw[e];exact fr.pure c.rel rfl (c.ao hx av)
theorem a4c(c:Ctx P env I w m B ak a){x y z:Operand}(ab:J.op= .pick x y z)(ah:cop P J=some cD)(h:opx f (evalA env ak) I cD=some (.val v aq)):fr P B f I w m v aq ((execOp a.eval J).run P w):=by
 simp only[cop,ab,di,cB,dv,a6] at ah;obtain⟨bA,hx,eI,aw,vE,bg,rfl⟩:=ah;simp only[opx] at h;split at h<;>try (cases h;done)
 rename_i t ht;split at h<;>cases h;rename_i av;have hb:=(c.ao hx ht).vs;simp only[execOp,ab];refine a4b c ⟨if t then a.eval y else a.eval z,by simp[hb];cases t<;>rfl,?_⟩;cases t with
 |true=>exact c.ao aw av
 |false=>exact c.ao bg av
theorem a4d(c:Ctx P env I w m B ak a){t:TypeId}(ab:J.op= .alloc t)(ah:cop P J=some cD)(h:opx f (evalA env ak) I cD=some (.val v aq)):fr P B f I w m v aq ((execOp a.eval J).run P w):=by
 simp only[cop,ab,et] at ah;obtain⟨z,bg,rfl⟩:=ah;simp only[opx] at h;cases h;simp only[execOp,ab];exact px (a2e c.rel bg)
theorem a4e(c:Ctx P env I w m B ak a){t:TypeId}{x:Operand}(ab:J.op= .box t x)(ah:cop P J=some cD)(h:opx f (evalA env ak) I cD=some (.val v aq)):fr P B f I w m v aq ((execOp a.eval J).run P w):=by
 simp only[cop,ab,et] at ah;obtain⟨bA,hx,rfl⟩:=ah;simp only[opx] at h;split at h<;>try (cases h;done)
 rename_i a2 av;cases hval:a2.val with
 |false=>rw[hval] at h;cases h
 |true=>
  rw[hval,cond_true] at h;cases h;simp only[execOp,ab];exact px (a2c c.rel (c.ao hx av) (Ky (c.ao hx av) hval))
theorem a4f(c:Ctx P env I w m B ak a){t:TypeId}{x:Operand}(ab:J.op= .load t x)(ah:cop P J=some cD)(h:opx f (evalA env ak) I cD=some (.val v aq)):fr P B f I w m v aq ((execOp a.eval J).run P w):=by
 simp only[cop,ab,di,cB,dv,a6] at ah;obtain⟨ad,aj,bA,hx,rfl⟩:=ah;simp only[opx] at h;simp only[execOp,ab];split at h<;>try (cases h;done)
 rename_i p hp;split at h<;>cases h;rename_i av;exact fg c (a1Z c.rel aj (c.ao hx hp) av)
theorem a4g(c:Ctx P env I w m B ak a){t:TypeId}{x y:Operand}(ab:J.op= .store t x y)(ah:cop P J=some cD)(h:opx f (evalA env ak) I cD=some (.val v aq)):fr P B f I w m v aq ((execOp a.eval J).run P w):=by
 simp only[cop,ab,di,cB,dv,a6] at ah;obtain⟨ad,aj,bA,hx,eI,aw,rfl⟩:=ah;simp only[opx] at h;simp only[execOp,ab];split at h<;>try (cases h;done)
 rename_i id off a2 hp av;split at h<;>try (cases h;done)
 rename_i c7;split at h<;>try (cases h;done)
 rename_i sK;split at h<;>try (cases h;done)
 rotate_left
 ·rename_i cs r hg;unfold pf at h;split at h<;>cases h;rename_i aQ dp;obtain⟨ax,hm,lR⟩:=(c.ao hx hp).tZ;rw[lR];exact F4 (a2b c.rel aj (by simpa [gg] using c7) hm hg sK dp (c.ao aw av))
 rename_i cs hg;split at h<;>cases h;rename_i aQ dp;obtain⟨ax,hm,lR⟩:=(c.ao hx hp).tZ;rw[lR];exact F4 (a2a c.rel aj (by simpa [gg] using c7) hm hg sK dp (c.ao aw av))
theorem a4h(c:Ctx P env I w m B ak a){x:Operand}(ab:J.op= .nilCheck x)(ah:cop P J=some cD)(h:opx f (evalA env ak) I cD=some (.val v aq)):fr P B f I w m v aq ((execOp a.eval J).run P w):=by
 simp only[cop,ab,et] at ah;obtain⟨bA,hx,rfl⟩:=ah;simp only[opx] at h;split at h<;>try (cases h;done)
 rename_i a2 av;cases hn:nilOk a2 with
 |false=>rw[hn] at h;cases h
 |true=>
  rw[hn,cond_true] at h;cases h;exact fr.pure c.rel (a2G ab (c.ao hx av) hn) (c.ao hx av)
theorem a4i(c:Ctx P env I w m B ak a){op:UnOp}{t:TypeId}{x:Operand}(ab:J.op= .unOp op t x)(ah:cop P J=some cD)(h:opx f (evalA env ak) I cD=some (.val v aq)):fr P B f I w m v aq ((execOp a.eval J).run P w):=by
 simp only[execOp,ab];cases op<;>simp only[cop,ab,et,reduceCtorEq] at ah
 ·obtain⟨bA,hx,rfl⟩:=ah;simp only[opx] at h;split at h<;>cases h;rename_i av;exact fg c ⟨_,a2I (c.ao hx av),.i _ _⟩
 ·obtain⟨bA,hx,rfl⟩:=ah;simp only[opx] at h;split at h<;>cases h;rename_i av;exact fg c ⟨_,a2H (c.ao hx av),.b _⟩
theorem R8:∀ {bc cn:List Nat} {l r:List AV} {res:Bool},oB (bc++cn) l r=some res→∃a b,oB bc (l.take bc.length) (r.take bc.length)=some a∧oB cn (l.drop bc.length) (r.drop bc.length)=some b∧res=(a&&b)
 |[],cn,l,r,res,h=>⟨true,res,rfl,by simpa using h,by simp⟩
 |k::bc,cn,l,r,res,h=>by
  rw[wF,leafEqs_cons] at h;split at h<;>try (cases h;done)
  rename_i x xs y aO;split at h<;>cases h;rename_i a b ha hb;obtain⟨cd,gL,h1,h2,rfl⟩:=R8 hb;refine⟨a&&cd,gL,?_,h2,by rw[Bool.and_assoc]⟩;rw[fH,Qm,Qm,leafEqs_cons];simp only[ha,h1]
theorem K8{d:Nat}{cs ds:List AV}{us a3:Array Value}{O:Nat→Prop}(ar:bz w m O B cs us.toList)(al:bz w m O B ds a3.toList)(c7:∀x∈cs,conf none x=true)(bY:∀x∈ds,conf none x=true):
  ∀(fs:List Field) (i:Nat) (bc:List Nat) (res:Bool),flatS P i fs=some bc→oB bc (cs.drop i) (ds.drop i)=some res→∀an,
  (forIn fs ((none:Option Bool),()) (fun(f:Field) (_:Option Bool×Unit)=>
      if f.name= "_" then(pure (ForInStep.yield (none,())):Sem (ForInStep (Option Bool×Unit)))
      else do
       let a ←part f.type us f.offset
       let b ←part f.type a3 f.offset
       let c ←Op.equalIn (d+2) f.type a b
       if c=false then pure (ForInStep.done (some false,())) else pure (ForInStep.yield (none,())))).run P an= .ok (if res then(none,()) else(some false,())) an
 |[],i,bc,res,aD,h,an=>by
  rw[flatS] at aD;cases aD;rw[leafEqs_nil] at h;split at h<;>cases h;simp
 |f::fs,i,bc,res,aD,h,an=>by
  rw[flatS] at aD;split at aD<;>try (cases aD;done)
  rename_i ah;obtain⟨h1,rfl⟩:=ah;split at aD
  ·rename_i k rl;split at aD<;>try (cases aD;done)
   rename_i aj;obtain⟨ue,nX,rfl⟩:=et.1 aD;rw[leafEqs_cons] at h;split at h<;>try (cases h;done)
   rename_i x xs y aO ex R9;split at h<;>cases h;rename_i a b ha hb;obtain⟨u,hu,ic⟩:=(ar.drop f.offset).get (i:=0) (v:=x) (by rw[ex];rfl);obtain⟨v,av,KR⟩:=(al.drop f.offset).get (i:=0) (v:=y) (by rw[R9];rfl);rw[lL,ti,lM] at hu av;obtain⟨aM,_⟩:=xp rl ic KR ha;have aA:=K8 ar al c7 bY fs (f.offset+1) ue b nX (by rw[←pb,← pb,ex,R9];exact hb) an (d:=d);rw[DE];simp only[h1,if_false,dZ,B7 aj hu,B7 aj av,ec,aM];cases a with
   |false=>simp
   |true=>simpa using aA
  ·split at aD<;>try (cases aD;done)
   rename_i cn zB;split at aD<;>try (cases aD;done)
   rename_i aj;obtain⟨ue,nX,rfl⟩:=et.1 aD;obtain⟨a,b,ha,hb,rfl⟩:=R8 h;obtain⟨bM,b4,_⟩:=km aj an;have hx:∀ {cs:List AV} {us:Array Value},bz w m O B cs us.toList→(part f.type us f.offset).run P an= .ok (.agg (us.extract f.offset (f.offset+cn.length))) an∧bz w m O B ((cs.drop f.offset).take cn.length) (us.extract f.offset (f.offset+cn.length)).toList:=fun ah=>by
    refine⟨by simp[part,bM,b4,shN],?_⟩;have:=(ah.drop f.offset).take cn.length;simpa using this
   obtain⟨p1,r1⟩:=hx ar;obtain⟨p2,r2⟩:=hx al;obtain⟨g4,hu,ru,hf,hm⟩:=FX zB;have aM:(Op.equalIn (d+2) f.type (.agg (us.extract f.offset (f.offset+cn.length))) (.agg (a3.extract f.offset (f.offset+cn.length)))).run P an= .ok a an:=by
    have:=forIn_eq (an:=an) (d:=d) g4.toList 0 cn _ _ (us.extract f.offset (f.offset+cn.length)) (a3.extract f.offset (f.offset+cn.length)) a hf hm (by rw[xS];exact r1) (by rw[xS];exact r2) ha;rw[eqStruct_run hu ru (d+1),this];cases a<;>simp
   have aA:=K8 ar al c7 bY fs (f.offset+cn.length) ue b nX (by rw[←pb,← pb];exact hb) an (d:=d);rw[DE];simp only[h1,if_false,dZ,p1,p2,ec,aM];cases a with
   |false=>simp
   |true=>simpa using aA
theorem a4j{O:Nat→Prop}{t:TypeId}{kind:Nat}(aD:stK P t=some kind){x y:AV}{v:Bool}{a b:Value}(ha:R w m O B x a)(hb:R w m O B y b)(h:isNilEq kind x y=some v)(fX g5:Operand):
  (((do eqGuard .eql t fX g5 a b;Go.binOp .eql t a b:Sem Value).run P w= .ok (.bool v) w∧(do eqGuard .neq t fX g5 a b;Go.binOp .neq t a b:Sem Value).run P w= .ok (.bool (!v)) w)):=by
 unfold stK at aD;split at aD<;>try (cases aD;done)
 rename_i fs hu;split at aD<;>try (cases aD;done)
 rename_i ru;have ru:P.stoodInHeld t=false:=by simpa using ru
 split at aD<;>try (cases aD;done)
 rename_i bc zB;split at aD<;>cases aD;rename_i au;obtain⟨au,hg⟩:=au;have key:keyEq (.inr bc) x y=some v:=by
  unfold isNilEq at h;split at h
  case h_12=>
   have e:Nat.ble 10 (10+Fq bc)=true:=eu (sI _ _);rw[e,cond_true,Nat.add_sub_cancel_left,au] at h;exact h
  case h_13=>cases h
  all_goals (rename_i bg;first|(exfalso;omega)|(rename_i iC _;exfalso;omega)|(rename_i iC _ _;exfalso;omega))
 simp only[keyEq] at key;split at key<;>try (cases key;done)
 obtain⟨us,rfl,ar,c7⟩:=ha.ql;obtain⟨a3,rfl,al,bY⟩:=hb.ql;have he:(Op.equal t (.agg us) (.agg a3)).run P w= .ok v w:=by
  have a4k:∀d,(Op.equalIn (d+3) t (.agg us) (.agg a3)).run P w= .ok v w:=fun d=>by
   have:=K8 (an:=w) (d:=d) ar al c7 bY fs.toList 0 bc v zB (by simpa using key);rw[eqStruct_run hu ru (d+2),this];cases v<;>simp
  exact a4k 9997
 have h1:Go.binOp .eql t (.agg us) (.agg a3)=(do pure (.bool (←Op.equal t (.agg us) (.agg a3))):Sem Value):=rfl;have h2:Go.binOp .neq t (.agg us) (.agg a3)=(do pure (.bool (!(←Op.equal t (.agg us) (.agg a3)))):Sem Value):=rfl;have g:∀op,(eqGuard op t fX g5 (.agg us) (.agg a3)).run P w= .ok () w:=fun op=>by
  unfold eqGuard;cases op<;>simp[hg]
 constructor
 ·rw[h1];simp[dZ,g,he]
 ·rw[h2];simp[dZ,g,he]
theorem a4l(c:Ctx P env I w m B ak a){op:BinOp}{t:TypeId}{x y:Operand}{z:TypeId}(ab:J.op= .binOp op t x y z)(ah:cop P J=some cD)(h:opx f (evalA env ak) I cD=some (.val v aq)):fr P B f I w m v aq ((execOp a.eval J).run P w):=by
 simp only[cop,ab,di,cB] at ah;obtain⟨bA,hx,eI,aw,ah⟩:=ah;simp only[execOp,ab];have plain:cD= .bin op bA eI→fr P B f I w m v aq ((do pure (.value (←(do eqGuard op t x y (a.eval x) (a.eval y);Go.binOp op t (a.eval x) (a.eval y)))):Sem Next).run P w):=fun e=>by
  subst e;simp only[opx] at h;split at h<;>try (cases h;done)
  rename_i p q hp hq;split at h<;>cases h;rename_i av;obtain⟨u,h1,h2,h3⟩:=ok_bin (P:=P) (t:=t) (c.ao hx hp) (c.ao aw hq) av;exact fg c ⟨u,by rw[h3 x y];exact h1,h2⟩
 have R_:∀neg,P.underlying t=some .bool→op=(if neg then .neq else .eql)→cD= .w5 neg bA eI→fr P B f I w m v aq ((do pure (.value (←(do eqGuard op t x y (a.eval x) (a.eval y);Go.binOp op t (a.eval x) (a.eval y)))):Sem Next).run P w):=fun neg ht gH e=>by
  subst e;simp only[opx] at h;split at h<;>try (cases h;done)
  rename_i p q hp hq;split at h<;>cases h;rename_i b av;obtain⟨h1,h2⟩:=a2l ht (c.ao hx hp) (c.ao aw hq) av x y;cases neg with
  |false=>subst gH;exact fg c ⟨_,h1,.b _⟩
  |true=>subst gH;exact fg c ⟨_,h2,.b _⟩
 have sL:∀kind neg,Q6 P t kind→op=(if neg then .neq else .eql)→cD= .lN kind neg bA eI→fr P B f I w m v aq ((do pure (.value (←(do eqGuard op t x y (a.eval x) (a.eval y);Go.binOp op t (a.eval x) (a.eval y)))):Sem Next).run P w):=fun kind neg ht gH e=>by
  subst e;simp only[opx] at h;split at h<;>try (cases h;done)
  rename_i p q hp hq;split at h<;>cases h;rename_i b av;obtain⟨h1,h2⟩:=a2n ht (c.ao hx hp) (c.ao aw hq) av x y;cases neg with
  |false=>subst gH;exact fg c ⟨_,h1,.b _⟩
  |true=>subst gH;exact fg c ⟨_,h2,.b _⟩
 have strs:∀kind neg,stK P t=some kind→op=(if neg then .neq else .eql)→cD= .lN kind neg bA eI→fr P B f I w m v aq ((do pure (.value (←(do eqGuard op t x y (a.eval x) (a.eval y);Go.binOp op t (a.eval x) (a.eval y)))):Sem Next).run P w):=fun kind neg ht gH e=>by
  subst e;simp only[opx] at h;split at h<;>try (cases h;done)
  rename_i p q hp hq;split at h<;>cases h;rename_i b av;obtain⟨h1,h2⟩:=a4j ht (c.ao hx hp) (c.ao aw hq) av x y;cases neg with
  |false=>subst gH;exact fg c ⟨_,h1,.b _⟩
  |true=>subst gH;exact fg c ⟨_,h2,.b _⟩
 split at ah
 case h_15=>obtain⟨k,aD,rfl⟩:=et.1 ah;exact strs k false aD rfl rfl
 case h_16=>obtain⟨k,aD,rfl⟩:=et.1 ah;exact strs k true aD rfl rfl
 case h_17=>cases ah
 all_goals cases ah
 ·exact plain rfl
 ·exact plain rfl
 ·rename_i ht;exact R_ false ht rfl rfl
 ·rename_i ht;exact R_ true ht rfl rfl
 ·rename_i ht;exact sL 0 false (.inl ⟨rfl,_,ht⟩) rfl rfl
 ·rename_i ht;exact sL 0 true (.inl ⟨rfl,_,ht⟩) rfl rfl
 ·rename_i ht;exact sL 1 false (.inr (.inl ⟨rfl,_,ht⟩)) rfl rfl
 ·rename_i ht;exact sL 1 true (.inr (.inl ⟨rfl,_,ht⟩)) rfl rfl
 ·rename_i ht;exact sL 2 false (.inr (.inr (.inl ⟨rfl,_,_,_,ht⟩))) rfl rfl
 ·rename_i ht;exact sL 2 true (.inr (.inr (.inl ⟨rfl,_,_,_,ht⟩))) rfl rfl
 ·rename_i ht;exact sL 3 false (.inr (.inr (.inr (.inl ⟨rfl,_,ht⟩)))) rfl rfl
 ·rename_i ht;exact sL 3 true (.inr (.inr (.inr (.inl ⟨rfl,_,ht⟩)))) rfl rfl
 ·rename_i ht;exact sL 4 false (.inr (.inr (.inr (.inr ⟨rfl,_,_,ht⟩)))) rfl rfl
 ·rename_i ht;exact sL 4 true (.inr (.inr (.inr (.inr ⟨rfl,_,_,ht⟩)))) rfl rfl
theorem Sa{P:Program}{t:TypeId}(h:isU8 P t=true):P.underlying t=some (.int .u8):=by
 unfold isU8 at h;split at h
 ·assumption
 ·cases h
theorem a4m(c:Ctx P env I w m B ak a){s d:TypeId}{x:Operand}(ab:J.op= .convert s d x)(ah:cop P J=some cD)(h:opx f (evalA env ak) I cD=some (.val v aq)):fr P B f I w m v aq ((execOp a.eval J).run P w):=by
 simp only[cop,ab] at ah;simp only[execOp,ab];split at ah
 ·rename_i cW k aj au;simp only[et] at ah;obtain⟨bA,hx,rfl⟩:=ah;simp only[opx] at h;split at h
  ·cases h;rename_i av;exact fg c ⟨_,a2J aj au (c.ao hx av),.i _ _⟩
  ·rename_i av;split at h<;>cases h;obtain⟨n,h1,h2⟩:=a2K aj au (c.ao hx av);exact fg c ⟨_,h1,h2⟩
  ·cases h
 ·rename_i e aj au;split at ah<;>try (cases ah;done)
  rename_i K9;simp only[et] at ah;obtain⟨bA,hx,rfl⟩:=ah;simp only[opx] at h;split at h<;>cases h;rename_i l av;exact px (a3I c.rel f aj au (Sa K9) (c.ao hx av))
 ·rename_i e aj au;split at ah<;>try (cases ah;done)
  rename_i K9;simp only[et] at ah;obtain⟨bA,hx,rfl⟩:=ah;simp only[opx] at h;split at h<;>try (cases h;done)
  rename_i a4n av;split at h<;>try (cases h;done)
  rename_i xs qx;split at h<;>cases h;rename_i l ar;obtain⟨h1,h2⟩:=a3J c.rel aj (Sa K9) au (c.ao hx av) qx ar;exact fg c ⟨_,h1,.s _ h2⟩
 ·cases ah
theorem a4o(c:Ctx P env I w m B ak a){t:TypeId}{x:Operand}(ab:J.op= .makeInterface t x)(ah:cop P J=some cD)(h:opx f (evalA env ak) I cD=some (.val v aq)):fr P B f I w m v aq ((execOp a.eval J).run P w):=by
 simp only[cop,ab] at ah;simp only[execOp,ab];split at ah<;>try (cases ah;done)
 rename_i d bx au;simp only[et] at ah;obtain⟨bA,hx,rfl⟩:=ah;simp only[opx] at h;split at h<;>cases h;rename_i av;exact fg c ⟨_,a2L au (fun ms e=>bx ms e) _,.it (c.ao hx av)⟩
theorem a4p(c:Ctx P env I w m B ak a){fn:Fn}{xs aO:Array Operand}(ab:J.op= .makeFunc fn xs aO)(ah:cop P J=some cD)(h:opx f (evalA env ak) I cD=some (.val v aq)):fr P B f I w m v aq ((execOp a.eval J).run P w):=by
 simp only[cop,ab] at ah;simp only[execOp,ab];split at ah<;>try (cases ah;done)
 rename_i g;simp only[di,cB,dv,a6] at ah;obtain⟨bA,hx,eI,aw,rfl⟩:=ah;simp only[opx] at h;split at h<;>cases h;rename_i p q hp hq;have h1:=BV c.rel.xB c.globs c.bk hx hp;have h2:=BV c.rel.xB c.globs c.bk aw hq;have aM:=h1.1;have e2:=h2.1;simp at aM e2;refine fg c ⟨_,rfl,.oI (by simpa using aM) (fun i a b=>?_) (by simpa using e2) (fun i a b=>?_)⟩
 ·have:=h1.2 i a (by simpa using b);simpa using this
 ·have:=h2.2 i a (by simpa using b);simpa using this
theorem a4q(c:Ctx P env I w m B ak a){t:TypeId}{r:Option Operand}(ab:J.op= .makeMap t r)(ah:cop P J=some cD)(h:opx f (evalA env ak) I cD=some (.val v aq)):fr P B f I w m v aq ((execOp a.eval J).run P w):=by
 simp only[cop,ab] at ah;simp only[execOp,ab];have key:(Instr.makeMap t (r.map a.eval)).run P w= .ok (.map (some w.heap.size)) {w with heap:=w.heap.push (.map #[] 0)}∧cD= .mkMap:=by
  split at ah<;>cases ah
  ·exact⟨by simp[Instr.makeMap],rfl⟩
  ·rename_i ht;exact⟨by simp[Instr.makeMap,run_underlying ht,Act.eval,asInt,asIntOf],rfl⟩
 obtain⟨key,rfl⟩:=key;simp only[opx] at h;cases h;obtain⟨h1,h2⟩:=c.rel.alloc f {w with heap:=w.heap.push (.map #[] 0)} (.map [] 0) (.map #[] 0) rfl rfl rfl rfl rfl (.map rfl (fun i h=>by simp at h));exact px ⟨_,_,_,key,.mp (hB _ _ _),h1,h2⟩
end
theorem Ca{x:Option Operand}{bA:Option aC}(h:opdO x=some bA):bA.isSome=x.isSome:=by
 cases x with
 |none=>cases h;rfl
 |some x=>
  simp only[opdO] at h;split at h<;>cases h;rfl
section
variable {P:Program}{env:Env}{I:af}{w:World}{m:Nat→Option Nat}{B:Nat}{f:Nat}{ak:aT AV}{a:Act}{J:Oper}{cD:AOp}{v:AV}{aq:af}
theorem a4r(c:Ctx P env I w m B ak a){t:TypeId}{ps:Array (Nat×Operand)}(ab:J.op= .build t ps)(ah:cop P J=some cD)(h:opx f (evalA env ak) I cD=some (.val v aq)):fr P B f I w m v aq ((execOp a.eval J).run P w):=by
 simp only[cop,ab,di,cB] at ah;obtain⟨lp,bg,ah⟩:=ah;simp only[execOp,ab];split at ah<;>try (cases ah;done)
 rename_i z;split at ah
 ·rename_i fs hu;split at ah<;>try (cases ah;done)
  rename_i a4s;simp only[di,cB,dv,a6] at ah;obtain⟨l,ar,rfl⟩:=ah;simp only[opx] at h;split at h<;>cases h;rename_i cs sM;refine fg c (a2S hu (a3f a4s) bg (ps:=l) ?_ sM);rw[sm];refine B1 (fun p q iW=>?_) ar;split at iW<;>cases iW;rename_i off ad x h1 h2;exact⟨⟨ad,h1,rfl⟩,fun v av=>c.ao h2 av⟩
 ·rename_i n e hu;simp only[di,cB,dv,a6] at ah;obtain⟨ad,aj,l,ar,rfl⟩:=ah;simp only[opx] at h;split at h<;>cases h;rename_i cs sM;refine fg c (a2T hu aj bg (ps:=l) ?_ sM);rw[sm];refine B1 (fun p q iW=>?_) ar;split at iW<;>cases iW;rename_i x h2;exact⟨⟨rfl,rfl⟩,fun v av=>c.ao h2 av⟩
 ·cases ah
theorem zC{t e:TypeId}{ad:Option Nat}(h:elemOf' P t=some (e,ad)):P.underlying t=some (.slice e)∧shapeOf P e=some ad:=by
 unfold elemOf' at h;split at h<;>try (cases h;done)
 rename_i eb hu;split at h<;>cases h;rename_i aj;exact⟨hu,aj⟩
theorem a4t(c:Ctx P env I w m B ak a){t:TypeId}{n:Nat}{ps:Array (Nat×Operand)}(ab:J.op= .buildSlice t n ps)(ah:cop P J=some cD)(h:opx f (evalA env ak) I cD=some (.val v aq)):fr P B f I w m v aq ((execOp a.eval J).run P w):=by
 simp only[cop,ab,di,cB] at ah;obtain⟨⟨e,ad⟩,he,z,bg,l,ar,ah⟩:=ah;split at ah<;>cases ah;rename_i fK;obtain⟨hu,aj⟩:=zC he;simp only[opx] at h;split at h<;>cases h;rename_i cs sM;simp only[execOp,ab];refine px (a2U c.rel hu aj bg fK.2 fK.1 ?_ sM);rw[sm];have:=B1 (g:=fun(x:Nat×Operand)=>(x.1,a.eval x.2)) (r:=fun(p:Nat×aC) (q:Nat×Value)=>p.1=q.1∧∀v,evalA env ak p.2=some v→R w m (a_ I m) B v q.2) (fun p q iW=>by
  split at iW<;>cases iW;rename_i x h2;exact⟨rfl,fun v av=>c.ao h2 av⟩) ar
 revert this;generalize ps.toList.map (fun(x:Nat×Operand)=>(x.1,a.eval x.2))=g6;clear sM ar
 induction l generalizing g6 with
 |nil=>cases g6<;>exact id
 |cons p l aA=>
  cases g6 with
  |nil=>exact id
  |cons q g6=>
   rintro⟨⟨h1,h2⟩,h3⟩;exact⟨⟨⟨h1,rfl⟩,h2⟩,aA g6 h3⟩
theorem Sb(c:Ctx P env I w m B ak a){t:TypeId}{x k y:Operand}(ab:J.op= .mapUpdate t x k y∨J.op= .insert t x k y)(ah:cop P J=some cD)(h:opx f (evalA env ak) I cD=some (.val v aq)):fr P B f I w m v aq ((execOp a.eval J).run P w):=by
 have e:execOp a.eval J=(do Instr.mapUpdate t (a.eval x) (a.eval k) (a.eval y);pure .skip:Sem Next):=by unfold execOp;rcases ab with ab|ab<;>rw[ab]
 have ug:∃lk Cb ad bA Cc eI,P.underlying t=some (.map lk Cb)∧keyOk P lk=some ad∧opdOf x=some bA∧opdOf k=some Cc∧opdOf y=some eI∧cD= .pc ad bA Cc eI:=by
  unfold cop at ah;rcases ab with ab|ab<;>
  ·rw[ab] at ah;simp only at ah;split at ah<;>try (cases ah;done)
   rename_i lk Cb hu;simp only[di,cB,dv,a6] at ah;obtain⟨ad,aj,bA,hx,Cc,aD,eI,aw,rfl⟩:=ah;exact⟨lk,Cb,ad,bA,Cc,eI,hu,aj,hx,aD,aw,rfl⟩
 obtain⟨lk,Cb,ad,bA,Cc,eI,hu,aj,hx,aD,aw,rfl⟩:=ug;rw[e];simp only[opx] at h;split at h<;>try (cases h;done)
 rename_i id F5 b8A hp Sc n1;split at h<;>try (cases h;done)
 rename_i c7;split at h<;>try (cases h;done)
 rename_i es aL hg;split at h<;>try (cases h;done)
 rename_i RE rp;obtain⟨ax,hm,lR⟩:=(c.ao hx hp).FH;rw[lR];split at h<;>cases h
 ·rename_i a3y K_;exact F4 (Rz c.rel hu aj (by simpa [gg] using c7) hm hg (c.ao aD Sc) (c.ao aw n1) rp K_)
 ·rename_i K_;exact F4 (Rz c.rel hu aj (by simpa [gg] using c7) hm hg (c.ao aD Sc) (c.ao aw n1) rp K_)
theorem a4u(c:Ctx P env I w m B ak a){t:TypeId}{x:Operand}{i:Nat}(ab:J.op= .fieldAddr t x i)(ah:cop P J=some cD)(h:opx f (evalA env ak) I cD=some (.val v aq)):fr P B f I w m v aq ((execOp a.eval J).run P w):=by
 simp only[cop,ab,di,cB,dv,a6] at ah;obtain⟨⟨off,ad⟩,hf,bA,hx,rfl⟩:=ah;simp only[opx] at h;split at h<;>try (cases h;done)
 rename_i hp;split at h<;>cases h;rename_i av;simp only[execOp,ab];exact fg c (a2p hf (c.ao hx hp) av)
theorem a4v(c:Ctx P env I w m B ak a){t:TypeId}{x:Operand}{i:Nat}(ab:J.op= .field t x i)(ah:cop P J=some cD)(h:opx f (evalA env ak) I cD=some (.val v aq)):fr P B f I w m v aq ((execOp a.eval J).run P w):=by
 simp only[cop,ab,di,cB,dv,a6] at ah;obtain⟨⟨off,ad⟩,hf,bA,hx,rfl⟩:=ah;simp only[opx] at h;split at h<;>try (cases h;done)
 rename_i hp;split at h<;>cases h;rename_i av;simp only[execOp,ab];exact fg c (a2q hf (c.ao hx hp) av)
theorem a4w(c:Ctx P env I w m B ak a){t:TypeId}{x y:Operand}(ab:J.op= .indexAddr t x y)(ah:cop P J=some cD)(h:opx f (evalA env ak) I cD=some (.val v aq)):fr P B f I w m v aq ((execOp a.eval J).run P w):=by
 simp only[cop,ab] at ah;simp only[execOp,ab];split at ah
 ·rename_i n e hu;simp only[di,cB,dv,a6] at ah;obtain⟨ad,aj,bA,hx,eI,aw,rfl⟩:=ah;simp only[opx] at h;split at h<;>try (cases h;done)
  rename_i p j hp az;split at h<;>try (cases h;done)
  rename_i La h6;split at h<;>try (cases h;done)
  rename_i bZ;split at h<;>cases h;rename_i av;obtain⟨k,rfl⟩:=BW h6;have xC:=(c.ao aw az).ll;rw[xC];exact fg c (a2r hu aj (c.ao hx hp) (by simpa [gg] using bZ) av)
 ·rename_i e hu;simp only[di,cB,dv,a6] at ah;obtain⟨ad,aj,bA,hx,eI,aw,rfl⟩:=ah;simp only[opx] at h;split at h<;>try (cases h;done)
  rename_i p j hp az;split at h<;>try (cases h;done)
  rename_i La h6;split at h<;>cases h;rename_i av;obtain⟨k,rfl⟩:=BW h6;have xC:=(c.ao aw az).ll;rw[xC];exact fg c (a2s hu aj (c.ao hx hp) av)
 ·cases ah
theorem a4x(c:Ctx P env I w m B ak a){t:TypeId}{x y:Operand}(ab:J.op= .index t x y)(ah:cop P J=some cD)(h:opx f (evalA env ak) I cD=some (.val v aq)):fr P B f I w m v aq ((execOp a.eval J).run P w):=by
 simp only[cop,ab] at ah;simp only[execOp,ab];split at ah
 ·rename_i n e hu;simp only[di,cB,dv,a6] at ah;obtain⟨ad,aj,bA,hx,eI,aw,rfl⟩:=ah;simp only[opx] at h;split at h<;>try (cases h;done)
  rename_i cs j hp az;split at h<;>try (cases h;done)
  rename_i La h6;split at h<;>try (cases h;done)
  rename_i bZ;split at h<;>cases h;rename_i av;obtain⟨k,rfl⟩:=BW h6;have xC:=(c.ao aw az).ll;rw[xC];exact fg c (a2v hu aj (c.ao hx hp) (by simpa [gg] using bZ) av)
 ·rename_i hu;simp only[di,cB,dv,a6] at ah;obtain⟨bA,hx,eI,aw,rfl⟩:=ah;simp only[opx] at h;split at h<;>try (cases h;done)
  rename_i l j hp az;split at h<;>try (cases h;done)
  rename_i La h6;split at h<;>cases h;rename_i n3 av;obtain⟨k,rfl⟩:=BW h6;have xC:=(c.ao aw az).ll;rw[xC];exact fg c ⟨_,a2u hu (c.ao hx hp) av,.i _ _⟩
 ·cases ah
theorem a4y(c:Ctx P env I w m B ak a){t:TypeId}{x y:Operand}{two:Bool}(ab:J.op= .lookup t x y two)(ah:cop P J=some cD)(h:opx f (evalA env ak) I cD=some (.val v aq)):fr P B f I w m v aq ((execOp a.eval J).run P w):=by
 simp only[cop,ab] at ah;simp only[execOp,ab];split at ah<;>try (cases ah;done)
 rename_i lk e hu;simp only[di,cB,dv,a6] at ah;obtain⟨ad,aj,bA,hx,eI,aw,z,bg,rfl⟩:=ah;simp only[opx] at h;split at h<;>try (cases h;done)
 rename_i p j hp az;split at h<;>cases h;rename_i av;exact fg c (a3C c.rel hu aj bg two (c.ao hx hp) (c.ao aw az) av)
theorem a4z(c:Ctx P env I w m B ak a){t Kx:TypeId}{x:Operand}{two:Bool}(ab:J.op= .typeAssert x Kx t two)(ah:cop P J=some cD)(h:opx f (evalA env ak) I cD=some (.val v aq)):fr P B f I w m v aq ((execOp a.eval J).run P w):=by
 simp only[cop,ab] at ah;simp only[execOp,ab];split at ah<;>try (cases ah;done)
 rename_i d bx au;simp only[di,cB,dv,a6] at ah;obtain⟨bA,hx,z,bg,rfl⟩:=ah;simp only[opx] at h;split at h<;>try (cases h;done)
 rename_i p hp;split at h<;>cases h;rename_i av;exact fg c (a2M au (fun ms e=>bx ms e) bg (c.ao hx hp) av)
theorem a4A(c:Ctx P env I w m B ak a){x:Operand}{i:Nat}(ab:J.op= .extract x i)(ah:cop P J=some cD)(h:opx f (evalA env ak) I cD=some (.val v aq)):fr P B f I w m v aq ((execOp a.eval J).run P w):=by
 simp only[cop,ab,di,cB,dv,a6] at ah;obtain⟨bA,hx,rfl⟩:=ah;simp only[opx] at h;split at h<;>try (cases h;done)
 rename_i l hp;split at h<;>cases h;rename_i av;simp only[execOp,ab];exact fg c (a2w (c.ao hx hp) av)
theorem Sd{d:Nat}{x:Option Value}{n:Nat}(h:j5 d x n)(aj:x.isSome=true):∃k,x=some (.int k (Int.ofNat n)):=by
 cases h with
 |none=>simp at aj
 |some k n=>exact⟨k,rfl⟩
theorem a4B(c:Ctx P env I w m B ak a){t:TypeId}{x:Operand}{aK hi c9:Option Operand}(ab:J.op= .slice t x aK hi c9)(ah:cop P J=some cD)(h:opx f (evalA env ak) I cD=some (.val v aq)):fr P B f I w m v aq ((execOp a.eval J).run P w):=by
 simp only[cop,ab,di,cB] at ah;obtain⟨bN,dJ,Lb,vF,am,zD,ah⟩:=ah;simp only[execOp,ab];split at ah
 ·-- w4 array behind a pointer
  rename_i n e hu;split at ah<;>try (cases ah;done)
  simp only[di,cB,dv,a6] at ah;obtain⟨ad,aj,bA,hx,rfl⟩:=ah;have rv:c9=none:=by
   have:=Ca zD;cases c9 with|none=>rfl|some _=>simp at this
  subst rv;simp only[opx] at h;split at h<;>try (cases h;done)
  rename_i id off l hh hp ar me;split at h<;>try (cases h;done)
  rename_i uj;split at h<;>try (cases h;done)
  rename_i cs hg;split at h<;>cases h;rename_i Rf;simp only[cx] at uj;have h1:=eV uj.1;have h2:=eV uj.2;obtain⟨ax,hm,lR⟩:=(c.ao hx hp).tZ;obtain⟨arr,el,aV,a4C,_,oK,_⟩:=c.rel.cells hm hg;rw[lR];exact fg c (a2B hu aj hm (k:=arr.size) (by unfold dU;rw[a4C]) (by have:=eV Rf;omega) (c.mS dJ ar) (c.mS vF me) h1 h2)
 ·-- a slice
  rename_i e hu;split at ah<;>try (cases ah;done)
  rename_i ad aj;split at ah<;>try (cases ah;done)
  rename_i F6;simp only[di,cB,dv,a6] at ah;obtain⟨bA,hx,rfl⟩:=ah;have aM:=Ca zD;have e2:=Ca vF;simp only[opx] at h;split at h<;>try (cases h;done)
  rename_i p hp;split at h
  case h_2=>
   clear F6;unfold sliceX at h;split at h<;>try (cases h;done)
   rename_i a4D sD;have FD:aK=none:=by have:=Ca dJ;cases aK with|none=>rfl|some _=>simp at this
   have rv:c9=none:=by cases c9 with|none=>rfl|some _=>simp at aM
   subst rv;split at h<;>try (cases h;done)
   rename_i id off len fp k aD;split at h<;>try (cases h;done)
   rename_i cs r hg;cases hq:(decide (fp=ad)&&(Nat.blt 0 (shN fp)&&(Nat.ble len k&&Nat.ble (off+k*shN fp) (cs.length+r)))) with
   |false=>rw[hq] at h;cases h
   |true=>
    rw[hq,cond_true] at h;cases h;simp only[cx,decide_eq_true_eq] at hq;obtain⟨iS,iT,k2,py⟩:=hq;have bD:=c.ao hx hp;refine fg c (a2E hu aj iS bD (c.mS dJ (d:=0) (n:=0) rfl) (c.mS vF (d:=len) (n:=k) (by show(match evalA env ak a4D with|some v=>natOf v|none=>none)=_;rw[aD];rfl)) (eV iT) (eV k2) fun ax n hm hn=>?_);obtain⟨arr,el,aV,hh,_,oK,_⟩:=c.rel.eT hm hg;have ie:arr.size=n:=by unfold dU at hn;rw[hh] at hn;simpa using hn
    have:=eV py;omega
  cases h;rename_i av;have bD:=c.ao hx hp;refine fg c ?_;unfold sliceA at av;split at av
  ·rename_i id off len fp cap;split at av<;>try (cases av;done)
   rename_i cL;split at av<;>try (cases av;done)
   rename_i l hh ar me;split at av<;>try (cases av;done)
   rename_i uj;have h1:=eV uj;obtain⟨bE,br,bb,cm,dN⟩:=a2C hu aj cL bD (c.mS dJ ar) (c.mS vF me) h1;split at av
   ·rename_i a4E;split at av<;>try (cases av;done)
    rename_i k aD;rw[Option.ite_none_right_eq_some] at av;obtain⟨fK,av⟩:=av;cases av;simp only[cx] at fK;have uk:c9.isSome=true:=by rw[←aM];rfl
    have hb:=c.mS zD (d:=0) (n:=k) aD;obtain⟨qm,zE⟩:=Sd hb (by simpa using uk);have Lc:hi.isSome=true:=by
     cases hi with
     |some _=>rfl
     |none=>exfalso;apply F6;exact⟨rfl,by cases Lb with|none=>rfl|some _=>simp at e2⟩
    exact bE _ qm k zE (by simpa using Lc) (eV fK.1) (eV fK.2)
   ·have rv:c9=none:=by cases c9 with|none=>rfl|some _=>simp at aM
    subst rv;split at av
    ·split at av<;>cases av;rename_i fK;exact br _ rfl (eV fK)
    ·split at av
     ·cases av;rename_i fK;simp only[cx] at fK;exact bb rfl (eV fK.1) (fm fK.2)
     ·split at av
      ·cases av;rename_i fK;simp only[cx] at fK;exact cm rfl (eV fK.1) (eV fK.2)
      ·split at av<;>cases av;rename_i fK;simp only[cx] at fK;exact dN rfl (fm fK.1) (fm fK.2)
  ·split at av<;>cases av;rename_i ar me ns;have xD:a.eval x= .slice none 0 0:=by
    revert bD;generalize a.eval x=u;intro bD;cases bD;rfl
   rw[xD];exact⟨_,a2F hu aj (c.mS dJ ar) (c.mS vF me) (c.mS zD ns) (fun uk=>by
    cases hi with
    |some _=>rfl
    |none=>exfalso;apply F6;exact⟨by rw[aM];simpa using uk,by cases Lb with|none=>rfl|some _=>simp at e2⟩),.aB⟩
  ·split at av<;>try (cases av;done)
   rename_i cL;split at av<;>try (cases av;done)
   ·rename_i l hh ar me;split at av<;>cases av;rename_i fK;simp only[cx] at fK;have rv:c9=none:=by cases c9 with|none=>rfl|some _=>simp at aM
    subst rv;subst cL;exact a4a hu aj bD (c.mS dJ ar) (c.mS vF me) (eV fK.1) (eV fK.2)
   ·rename_i l hh a4E ar me;split at av<;>try (cases av;done)
    rename_i k aD;split at av<;>cases av;rename_i fK;simp only[cx] at fK;obtain⟨iS,iT,k2,py⟩:=fK;obtain rfl:=fm iS;obtain rfl:=fm iT;obtain rfl:=fm k2;have uk:c9.isSome=true:=by rw[←aM];rfl
    have hb:=c.mS zD (d:=0) aD;obtain⟨qm,zE⟩:=Sd hb (by simpa using uk);have Lc:hi.isSome=true:=by
     cases hi with
     |some _=>rfl
     |none=>exfalso;apply F6;exact⟨rfl,by cases Lb with|none=>rfl|some _=>simp at e2⟩
    subst cL;rw[zE];exact a3Z hu aj bD (c.mS dJ ar) (c.mS vF me) (by simpa using Lc) (gg▸py)
  ·cases av
 ·-- a string
  rename_i hu;split at ah<;>try (cases ah;done)
  simp only[di,cB,dv,a6] at ah;obtain⟨bA,hx,rfl⟩:=ah;have rv:c9=none:=by
   have:=Ca zD;cases c9 with|none=>rfl|some _=>simp at this
  subst rv;simp only[opx] at h;split at h<;>try (cases h;done)
  rename_i s hp;split at h<;>try (cases h;done)
  rename_i l hh ar me;split at h<;>cases h;rename_i uj;simp only[cx] at uj;exact fg c (a2A hu (c.ao hx hp) (c.mS dJ ar) (c.mS vF me) (eV uj.1) (eV uj.2))
 ·cases ah
end
section
variable {P:Program}{env:Env}{I:af}{w:World}{m:Nat→Option Nat}{B:Nat}{f:Nat}{ak:aT AV}{a:Act}{J:Oper}{cD:AOp}{v:AV}{aq:af}
theorem Cd{b:Builtin}{xs:Array Operand}{ts:Array TypeId}(ab:J.op= .call {callee:=.builtin b,args:=xs,argTypes:=ts}):
  execOp a.eval J=builtin b ts J.type (xs.map fun| .const _=>true|_=>false) (xs.map a.eval):=by
 unfold execOp;rw[ab];rfl
theorem a4F{e:TypeId}{z:AV}{n:Nat}(bg:zeroOf P e=some z)(hn:z.cells.length=n):∃i vx,P.info? e=some i∧i.zero=some vx∧vx.cells.size=n:=by
 unfold zeroOf at bg;split at bg<;>try (cases bg;done)
 rename_i i hi;split at bg<;>try (cases bg;done)
 rename_i vx av;have:=(R.ofValue (w:=(default:World)) (m:=fun _=>none) (O:=fun _=>False) (B:=0) bg).cells.1;exact⟨i,vx,hi,av,by simp at this;omega⟩
theorem a4G{t:TypeId}(h:isText P t=true):(∃eb,P.underlying t=some (.slice eb))∨P.underlying t=some .string:=by
 unfold isText at h;split at h
 ·exact .inl ⟨_,by assumption⟩
 ·exact .inr (by assumption)
 ·cases h
theorem a4H{w:World}{m:Nat→Option Nat}{O:Nat→Prop}{B:Nat}{u:Value}(h:R w m O B .aB u):u= .slice none 0 0:=by cases h;rfl
theorem a4I{t:TypeId}(h:isInt P t=true):∃k,P.underlying t=some (.int k):=by
 unfold isInt at h;split at h
 ·exact⟨_,by assumption⟩
 ·cases h
theorem F7{α:Type}{x:Array α}{p q:α}(h:x.toList=[p,q]):x= #[p,q]:=by
 apply lV;simpa using h
theorem ry{α:Type}{x:Array α}{p:α}(h:x.toList=[p]):x= #[p]:=by
 apply lV;simpa using h
theorem Ld{α β:Type}(g:α→β)(x y:α):(#[x,y]:Array α).map g= #[g x,g y]:=by simp
theorem vG{α β:Type}(g:α→β)(x:α):(#[x]:Array α).map g= #[g x]:=by simp
theorem Ce{w:World}{m:Nat→Option Nat}{O:Nat→Prop}{B:Nat}:R w m O B dR (.tuple #[]):=.bJ rfl fun i h=>by simp at h
theorem a4J(c:Ctx P env I w m B ak a){b:Builtin}{xs:Array Operand}{ts:Array TypeId}(ab:J.op= .call {callee:=.builtin b,args:=xs,argTypes:=ts})(ah:cop P J=some cD)(h:opx f (evalA env ak) I cD=some (.val v aq)):fr P B f I w m v aq ((execOp a.eval J).run P w):=by
 rw[Cd ab];simp only[cop,ab] at ah;split at ah
 ·-- append
  rename_i s x t u dj ig;obtain rfl:=F7 dj;rw[Ld a.eval];obtain rfl:=F7 ig;simp only[di,cB] at ah;obtain⟨⟨e,ad⟩,he,i,hi,z,bg,ah⟩:=ah;split at ah
  ·rename_i fK;simp only[cB,dv,a6] at ah;obtain⟨as,aj,bA,hx,rfl⟩:=ah;obtain⟨hu,cL⟩:=zC he;simp only[opx] at h;split at h<;>try (cases h;done)
   rename_i ey a4n a4K g7;split at h<;>cases h;rename_i Le;obtain⟨eC,vx,cS,xw,vt⟩:=a4F bg fK.2.2;rw[hi] at cS;cases cS;obtain⟨_,_,i2,kH,bV⟩:=km cL w;rw[hi] at kH;cases kH;exact px (a3g c.rel hu hi bV xw vt fK.2.1 (a4G fK.1) (c.ao aj a4K) (c.ao hx g7) Le)
  ·split at ah<;>try (cases ah;done)
   rename_i fK;simp only[cB,dv,a6] at ah;obtain⟨as,aj,bA,hx,rfl⟩:=ah;obtain⟨hu,cL⟩:=zC he;obtain⟨cg,xE⟩:=a4I fK.1;simp only[opx] at h;split at h<;>try (cases h;done)
   ·cases hq:Nat.beq (AV.fz::z.cells).length (shN ad) with
    |false=>rw[hq] at h;cases h
    |true=>have hD:=fm hq;rw[fH,fK.2.2.1] at hD;exact absurd hD.symm (Nat.ne_of_lt (qc _))
   ·rename_i br q g7 n1;cases hq:(Nat.beq (AV.fz::z.cells).length (Nat.succ (shN ad))&&(Nat.blt 0 q&&Nat.ble ((3*q+2000)*i.bytes) 281474976710656)) with
    |false=>rw[hq] at h;cases h
    |true=>
     rw[hq,cond_true] at h;cases h;simp only[cx] at hq;have aM:=a4H (c.ao aj g7);have e2:=(c.ao hx n1).ll;rw[aM,e2];exact px (a3P c.rel f hu xE cL hi bg fK.2.2.1 fK.2.1 fK.2.2.2 (by simpa only[gg] using hq.2.1) (eV hq.2.2))
 ·-- len
  rename_i x t dj ig;obtain rfl:=ry dj;rw[vG a.eval];obtain rfl:=ry ig;split at ah
  ·rename_i n e ht;cases ah;simp only[opx] at h;cases h;exact fg c ⟨_,a3n ht _,.i _ _⟩
  all_goals try (cases ah;done)
  all_goals
   rename_i ht;simp only[et] at ah;obtain⟨bA,hx,rfl⟩:=ah;simp only[opx] at h;split at h<;>try (cases h;done)
   rename_i g7;split at h
   case h_2=>
    rcases KN h with⟨_,_,_,e⟩|⟨cj,a4L,ii,rfl,e⟩
    ·cases e
    ·first
      |(cases cj;done)
      |(
        cases e;obtain⟨dO,ak,b8B,aj⟩:=(c.ao hx g7).a3q;rw[aj];refine fg c ⟨.int .i64 (Int.ofNat ak),?_,.fo _ (hv _)⟩;simp[Builtin.len_,run_underlying ht,goInt])
   rename_i cG hn;cases h
  ·exact fg c ⟨_,KM c.rel (.inr (.inl ⟨rfl,ht⟩)) (c.ao hx g7) hn,.i _ _⟩
  ·exact fg c ⟨_,KM c.rel (.inl ⟨rfl,_,ht⟩) (c.ao hx g7) hn,.i _ _⟩
  ·exact fg c ⟨_,KM c.rel (.inr (.inr ⟨rfl,_,_,ht⟩)) (c.ao hx g7) hn,.i _ _⟩
 ·-- cap
  rename_i x t dj ig;obtain rfl:=ry dj;rw[vG a.eval];obtain rfl:=ry ig;split at ah<;>try (cases ah;done)
  rename_i ht;simp only[et] at ah;obtain⟨bA,hx,rfl⟩:=ah;simp only[opx] at h;split at h<;>try (cases h;done)
  rename_i g7;split at h
  case h_2=>obtain⟨_,_,_,_,_,_,_,_,_,e⟩:=KO h;cases e
  cases h;rename_i hn;exact fg c ⟨_,a3o ht (c.ao hx g7) hn,.i _ _⟩
 ·-- copy
  split at ah<;>try (cases ah;done)
  rename_i x t dj ig _ e ad he;obtain rfl:=ry dj;rw[vG a.eval];obtain rfl:=ry ig;simp only[di,cB] at ah;obtain⟨z,bg,ah⟩:=ah;split at ah<;>try (cases ah;done)
  simp only[cB,dv,a6] at ah;obtain⟨bA,hx,rfl⟩:=ah;obtain⟨hu,cL⟩:=zC he;obtain⟨eD,iC,ln,mP⟩:=rj bg w;simp only[opx] at h;split at h<;>try (cases h;done)
  ·rename_i g7 _;cases h;have bD:=c.ao hx g7;generalize a.eval x=u at bD ⊢;cases bD;exact fg c ⟨_,by simp[Builtin.clear_,run_underlying hu],Ce⟩
  ·rename_i id off len fp cp a4M g7 xw;have a4N:a4M=z.cells:=by cases xw;rfl
   subst a4N;split at h<;>try (cases h;done)
   rename_i c7 hg;split at h<;>cases h;rename_i aQ dp;have bD:=c.ao hx g7;generalize a.eval x=u at bD ⊢;cases bD with
   |ak hm hlen jj hn g3=>
   have K0:=(ln w m (a_ I m) B).cells;have jx:=zq K0 (len+1);have a4O:f≤id:=Nat.le_of_not_lt fun h=>by rw[show Nat.blt id f=true from eu h] at c7;cases c7
   obtain⟨an,aM,e2,dn⟩:=Kr (f:=f) c.rel a4O hm hg dp jx (zr mP (len+1));refine px ⟨_,an,m,?_,Ce,e2,dn⟩;have hh:(Builtin.zeroCells eD.cells (len+1)).toList=(List.range ((len+1)*eD.cells.toList.length)).map fun i=>eD.cells.toList[i%eD.cells.toList.length]! :=by
    simp only[Builtin.zeroCells,sm,wm,qd];exact gl fun i _=>by simp only[getElem!_def,lM]
   rw[←hh] at aM;simp[Builtin.clear_,run_underlying hu,iC,aM]
  ·rename_i g7 _;cases h;have bD:=c.ao hx g7;generalize a.eval x=u at bD ⊢;cases bD;exact fg c ⟨_,by simp[Builtin.clear_,run_underlying hu],Ce⟩
  ·rename_i g7 _;cases h;have bD:=c.ao hx g7;generalize a.eval x=u at bD ⊢;cases bD
   ·exact fg c ⟨_,by simp[Builtin.clear_,run_underlying hu],Ce⟩
   ·exact fg c ⟨_,by simp[Builtin.clear_,run_underlying hu],Ce⟩
 ·rename_i x y dj;obtain rfl:=F7 dj;rw[Ld a.eval];simp only[di,cB,dv,a6] at ah;obtain⟨bA,hx,eI,aw,rfl⟩:=ah;simp only[opx] at h;split at h<;>try (cases h;done)
  case h_2=>
   rename_i n j g7 n1;cases hq:Nat.ble j n with
   |false=>rw[hq] at h;cases h
   |true=>
    rw[hq] at h;replace h:some (bq.val (AV.i .i64 (Int.ofNat j)) I)=some (.val v aq):=h;cases h;exact fg c ⟨_,a3r (P:=P) (w:=w) (c.ao hx g7) (c.ao aw n1) (eV hq) J.type ts,.i _ _⟩
  case h_3=>
   rename_i j n g7 n1;cases hq:Nat.ble j n with
   |false=>rw[hq] at h;cases h
   |true=>
    rw[hq] at h;replace h:some (bq.val (AV.i .i64 (Int.ofNat j)) I)=some (.val v aq):=h;cases h;exact fg c ⟨_,a3s (P:=P) (w:=w) (c.ao hx g7) (c.ao aw n1) (eV hq) J.type ts,.i _ _⟩
  rename_i k n l q g7 n1;split at h<;>cases h;rename_i xi;subst xi;have:=(Rq (P:=P) (w:=w) (c.ao hx g7) (c.ao aw n1) J.type ts).1;exact fg c ⟨_,this,.i _ _⟩
 ·rename_i x y dj;obtain rfl:=F7 dj;rw[Ld a.eval];simp only[di,cB,dv,a6] at ah;obtain⟨bA,hx,eI,aw,rfl⟩:=ah;simp only[opx] at h;split at h<;>try (cases h;done)
  rename_i k n l q g7 n1;split at h<;>cases h;rename_i xi;subst xi;have:=(Rq (P:=P) (w:=w) (c.ao hx g7) (c.ao aw n1) J.type ts).2;exact fg c ⟨_,this,.i _ _⟩
 ·cases ah;simp[opx] at h
 ·simp only[et] at ah;obtain⟨bA,hx,rfl⟩:=ah;simp only[opx] at h;split at h<;>cases h
 ·cases ah
theorem a4P(c:Ctx P env I w m B ak a){t:TypeId}{x y:Operand}(ab:J.op= .makeSlice t x y)(ah:cop P J=some cD)(h:opx f (evalA env ak) I cD=some (.val v aq)):fr P B f I w m v aq ((execOp a.eval J).run P w):=by
 simp only[cop,ab,di,cB] at ah;obtain⟨⟨e,ad⟩,he,z,bg,i,hi,ah⟩:=ah;split at ah<;>try (cases ah;done)
 rename_i vt;simp only[cB,dv,a6] at ah;obtain⟨bA,hx,eI,aw,rfl⟩:=ah;obtain⟨hu,aj⟩:=zC he;simp only[opx] at h;split at h<;>try (cases h;done)
 ·rename_i bE n br q g7 n1;cases hq:(Nat.beq z.cells.length (shN ad)&&(Nat.ble n q&&(Nat.ble (i.bytes*q) 281474976710656&&Nat.ble q 281474976710656))) with
  |false=>rw[hq] at h;cases h
  |true=>
   rw[hq,cond_true] at h;cases h;simp only[cx,Fb] at hq;have aM:=(c.ao hx g7).ll;have e2:=(c.ao aw n1).ll;simp only[execOp,ab,aM,e2];exact px (a3M c.rel f hu aj hi bg vt hq.2.1 hq.2.2.1 hq.2.2.2)
 ·rename_i br q g7 n1;cases hq:Nat.beq z.cells.length (Nat.succ (shN ad)) with
  |false=>rw[hq] at h;cases h
  |true=>have hD:=fm hq;rw[vt] at hD;exact absurd hD (Nat.ne_of_lt (qc _))
theorem a4Q(c:Ctx P env I w m B ak a){t:TypeId}{x:Operand}(ab:J.op= .range t x)(ah:cop P J=some cD)(h:opx f (evalA env ak) I cD=some (.val v aq)):fr P B f I w m v aq ((execOp a.eval J).run P w):=by
 simp only[cop,ab] at ah;split at ah<;>try (cases ah;done)
 rename_i lk Cb hu;simp only[et] at ah;obtain⟨bA,hx,rfl⟩:=ah;simp only[opx] at h;simp only[execOp,ab];split at h<;>try (cases h;done)
 ·rename_i av;cases h;exact px (RN c.rel f hu (c.ao hx av) rfl)
 ·rename_i id av;split at h<;>cases h;rename_i es aL hg;exact px (RN c.rel f hu (c.ao hx av) ⟨_,_,hg,rfl⟩)
theorem a4R(c:Ctx P env I w m B ak a){x:Operand}(ab:J.op= .next x false)(ah:cop P J=some cD)(h:opx f (evalA env ak) I cD=some (.val v aq)):fr P B f I w m v aq ((execOp a.eval J).run P w):=by
 simp only[cop,ab,et] at ah;obtain⟨bA,hx,rfl⟩:=ah;simp only[opx] at h;simp only[execOp,ab];split at h<;>try (cases h;done)
 rename_i it av;obtain⟨ax,hm,n0⟩:=(c.ao hx av).tZ;rw[n0];split at h<;>try (cases h;done)
 rename_i c7;have sF:f≤it:=by simpa [gg] using c7
 split at h<;>try (cases h;done)
 ·rename_i since seen hk hg;cases h;exact fg c ⟨_,a3Y c.rel hm hg J.type,R.tX (bz.cons (.b false) bz.nil)⟩
 ·rename_i id since seen hk hg;split at h<;>try (cases h;done)
  rename_i es aL oQ;cases hq:(Nat.beq aL since&&Nat.beq hk since&&dw (fun(e:AV×AV×Nat)=>Nat.blt e.2.2 since) es) with
  |false=>rw[hq] at h;cases h
  |true=>
   rw[hq,cond_true] at h;simp only[cx,m3] at hq;obtain⟨⟨rfl,rfl⟩,hall⟩:=hq;split at h<;>cases h;rename_i xD;rcases RU (f:=f) c.rel sF hm hg oQ (fun e he=>by have:=mg hall e he;simpa [gg] using this) J.type with⟨_,h2⟩|⟨e,he,_⟩
   ·exact fg c ⟨_,h2,R.tX (bz.cons (.b false) bz.nil)⟩
   ·rw[xD] at he;cases he
theorem a4S(c:Ctx P env I w m B ak a){x:Operand}(ab:J.op= .entry x)(ah:cop P J=some cD)(h:opx f (evalA env ak) I cD=some (.val v aq)):fr P B f I w m v aq ((execOp a.eval J).run P w):=by
 simp only[cop,ab,et] at ah;obtain⟨bA,hx,rfl⟩:=ah;simp only[opx] at h;simp only[execOp,ab];split at h<;>try (cases h;done)
 rename_i it av;obtain⟨ax,hm,n0⟩:=(c.ao hx av).tZ;rw[n0];split at h<;>try (cases h;done)
 rename_i id since seen hk hg;split at h<;>try (cases h;done)
 rename_i es aL oQ;cases hq:Nat.beq aL hk with
 |false=>rw[hq] at h;cases h
 |true=>
  rw[hq,cond_true] at h;obtain rfl:=fm hq;split at h<;>try (cases h;done)
  rename_i pv ar;split at h<;>cases h;rename_i e he;exact fg c (a3X c.rel hm hg oQ ar he)
theorem R.a4T{w:World}{m:Nat→Option Nat}{O:Nat→Prop}{B:Nat}{ex:List (List Nat)}{u:Value}(h:R w m O B (.gD ex) u):∃s,u= .string s:=by cases h;exact⟨_,rfl⟩
theorem Se{k:Nat}{bA:aC}(ah:cop P J=some (.len k bA)):∃x t as ts,J.op= .call {callee:=.builtin .len,args:=as,argTypes:=ts}∧as.toList=[x]∧ts.toList=[t]∧opdOf x=some bA∧(k=0→P.underlying t=some .string)∧(k=1→∃e,P.underlying t=some (.slice e)):=by
 unfold cop at ah;split at ah
 all_goals first
  |(cases ah;done)
  |(
    exfalso
    (repeat' first
     |(cases ah;done)
     |(simp only[et,reduceCtorEq,and_false,exists_false] at ah;done)
     |(simp only[di,cB,dv,a6,reduceCtorEq,and_false,exists_false] at ah;done)
     |split at ah
     |(obtain⟨_,_,ah⟩:=ah)
     |(simp only[di,cB,dv,a6] at ah))
    done)
  |(
    rename_i ab;split at ah
    all_goals first
     |(cases ah;done)
     |(
      exfalso
      (repeat' first
       |(cases ah;done)
       |(simp only[et,reduceCtorEq,and_false,exists_false] at ah;done)
       |(simp only[di,cB,dv,a6,reduceCtorEq,and_false,exists_false] at ah;done)
       |split at ah
       |(obtain⟨_,_,ah⟩:=ah)
       |(simp only[di,cB,dv,a6] at ah))
      done)
     |(
      rename_i dj ig;split at ah
      all_goals first
       |(cases ah;done)
       |(
         rename_i ht;simp only[et] at ah;obtain⟨aP,h1,ah⟩:=ah;cases ah;exact⟨_,_,_,_,ab,dj,ig,h1,fun aD=>by(first|exact ht|cases aD),fun aD=>by(first|exact⟨_,ht⟩|cases aD)⟩)))
theorem a4U{k:Nat}{bA:aC}(ah:cop P J=some (.len k bA)):∀c,J.op≠ .defer c:=fun c au=>by
 obtain⟨x,t,as,ts,ab,_⟩:=Se ah;rw[ab] at au;cases au
theorem a4V{l:List (AV×af)}{k:Nat}{bA:aC}(c:Ctx P env I w m B ak a)(ah:cop P J=some (.len k bA))(h:opx f (evalA env ak) I (.len k bA)=some (.hy l)):∃p∈l,fr P B f I w m p.1 p.2 ((execOp a.eval J).run P w):=by
 obtain⟨x,t,as,ts,ab,has,ig,hx,ht⟩:=Se ah;obtain rfl:=ry has;obtain rfl:=ry ig;simp only[opx] at h;split at h<;>try (cases h;done)
 rename_i p hp;split at h
 ·cases h
 rcases KN h with⟨rfl,ex,rfl,e⟩|⟨rfl,a4L,ii,rfl,e⟩
 rotate_left
 ·cases e
 injection e with e
 subst e;obtain⟨s,aj⟩:=(c.ao hx hp).a4T;have ht:=ht.1 rfl;refine⟨(.iQ (decide ((40:Int)<Int.ofNat s.size)),I),by cases decide ((40:Int)<Int.ofNat s.size)<;>simp,?_⟩;rw[Cd ab,vG a.eval,aj];refine fg c ⟨.int .i64 (Int.ofNat s.size),?_,.iQ _ rfl⟩;simp[builtin,Builtin.len_,run_underlying ht,goInt]
theorem Sf{bA:aC}(ah:cop P J=some (.cap bA)):∃x t e as ts,J.op= .call {callee:=.builtin .cap,args:=as,argTypes:=ts}∧as.toList=[x]∧ts.toList=[t]∧opdOf x=some bA∧P.underlying t=some (.slice e):=by
 unfold cop at ah;split at ah
 all_goals first
  |(cases ah;done)
  |(
    exfalso
    (repeat' first
     |(cases ah;done)
     |(simp only[et,reduceCtorEq,and_false,exists_false] at ah;done)
     |(simp only[di,cB,dv,a6,reduceCtorEq,and_false,exists_false] at ah;done)
     |split at ah
     |(obtain⟨_,_,ah⟩:=ah)
     |(simp only[di,cB,dv,a6] at ah))
    done)
  |(
    rename_i ab;split at ah
    all_goals first
     |(cases ah;done)
     |(
      exfalso
      (repeat' first
       |(cases ah;done)
       |(simp only[et,reduceCtorEq,and_false,exists_false] at ah;done)
       |(simp only[di,cB,dv,a6,reduceCtorEq,and_false,exists_false] at ah;done)
       |split at ah
       |(obtain⟨_,_,ah⟩:=ah)
       |(simp only[di,cB,dv,a6] at ah))
      done)
     |(
      rename_i dj ig;split at ah
      all_goals first
       |(cases ah;done)
       |(
         rename_i ht;simp only[et] at ah;obtain⟨aP,h1,ah⟩:=ah;cases ah;exact⟨_,_,_,_,_,ab,dj,ig,h1,ht⟩)))
theorem a4W{bA:aC}(ah:cop P J=some (.cap bA)):∀c,J.op≠ .defer c:=fun c au=>by
 obtain⟨x,t,e,as,ts,ab,_⟩:=Sf ah;rw[ab] at au;cases au
theorem a4X{l:List (AV×af)}{bA:aC}(c:Ctx P env I w m B ak a)(ah:cop P J=some (.cap bA))(h:opx f (evalA env ak) I (.cap bA)=some (.hy l)):∃p∈l,fr P B f I w m p.1 p.2 ((execOp a.eval J).run P w):=by
 obtain⟨x,t,e,as,ts,ab,has,ig,hx,ht⟩:=Sf ah;obtain rfl:=ry has;obtain rfl:=ry ig;simp only[opx] at h;split at h<;>try (cases h;done)
 rename_i p hp;split at h
 ·cases h
 obtain⟨q,hq,aD⟩:=a3p (ty:=J.type) c.rel ht (c.ao hx hp) h;refine⟨q,hq,?_⟩;rw[Cd ab,vG a.eval];exact px aD
theorem Lf{id r off:Nat}{c a3:List AV}{q:bq}(h:pf I id c r off a3=some q):∃v U,q= .val v U:=by
 unfold pf at h;split at h<;>cases h;exact⟨_,_,rfl⟩
theorem F8{ao:aC→Option AV}{ad:Option Nat}{x:AV}{aK hi c9:Option aC}{q:bq}(h:sliceX I ao ad x aK hi c9=some q):∃v,q= .val v I:=by
 unfold sliceX at h
 repeat' first|(cases h;done)|(cases h;exact⟨_,rfl⟩)|split at h|(simp only[ui] at h)
theorem F9{x:AV}{q:bq}(h:capO f I x=some q):∃l,q= .hy l:=by
 obtain⟨_,_,_,_,_,_,_,_,_,e⟩:=KO h;exact⟨_,e⟩
theorem a4Y{id r off:Nat}{c a3:List AV}{l:List (AV×af)}(h:pf I id c r off a3=some (.hy l)):False:=by
 unfold pf at h;split at h<;>cases h
theorem a4Z{ao:aC→Option AV}{ad:Option Nat}{x:AV}{aK hi c9:Option aC}{l:List (AV×af)}(h:sliceX I ao ad x aK hi c9=some (.hy l)):False:=by
 unfold sliceX at h
 repeat' first|(cases h;done)|split at h|(simp only[ui] at h)
theorem a5a{l:List (AV×af)}(c:Ctx P env I w m B ak a)(ah:cop P J=some cD)(h:opx f (evalA env ak) I cD=some (.hy l)):(∀c,J.op≠ .defer c)∧∃p∈l,fr P B f I w m p.1 p.2 ((execOp a.eval J).run P w):=by
 have Lg:(∃k bA,cD= .len k bA)∨(∃bA,cD= .ss bA)∨∃bA,cD= .cap bA:=by
  cases cD<;>simp only[opx] at h
  all_goals first
   |(exact .inl ⟨_,_,rfl⟩)
   |(exact .inr (.inl ⟨_,rfl⟩))
   |(exact .inr (.inr ⟨_,rfl⟩))
   |(cases h;done)
   |(exfalso;repeat' first|(cases h;done)|(exact a4Z h)|(exact a4Y h)|split at h|(simp only[ui] at h))
 rcases Lg with⟨k,bA,rfl⟩|⟨bA,rfl⟩|⟨bA,rfl⟩
 ·exact⟨a4U ah,a4V c ah h⟩
 rotate_left
 ·exact⟨a4W ah,a4X c ah h⟩
 have a5b:∃x,J.op= .next x false∧opdOf x=some bA:=by
  unfold cop at ah;split at ah
  all_goals first
   |(cases ah;done)
   |(rename_i ab;simp only[et] at ah;obtain⟨y,aw,he⟩:=ah;cases he;exact⟨_,ab,aw⟩)
   |(
     exfalso
     repeat' first
      |(cases ah;done)
      |(simp only[et,reduceCtorEq,and_false,exists_false] at ah;done)
      |(simp only[di,cB,dv,a6,reduceCtorEq,and_false,exists_false] at ah;done)
      |split at ah
      |(obtain⟨_,_,ah⟩:=ah)
      |(simp only[di,cB,dv,a6] at ah))
 obtain⟨x,ab,hx⟩:=a5b;refine⟨fun c au=>(by rw[ab] at au;cases au),?_⟩;simp only[opx] at h;simp only[execOp,ab];split at h<;>try (cases h;done)
 rename_i it av;obtain⟨ax,hm,n0⟩:=(c.ao hx av).tZ;rw[n0];split at h<;>try (cases h;done)
 rename_i c7;have sF:f≤it:=by simpa [gg] using c7
 split at h<;>try (cases h;done)
 rename_i id since seen hk hg;split at h<;>try (cases h;done)
 rename_i es aL oQ;cases hq:(Nat.beq aL since&&Nat.beq hk since&&dw (fun(e:AV×AV×Nat)=>Nat.blt e.2.2 since) es) with
 |false=>rw[hq] at h;cases h
 |true=>
  rw[hq,cond_true] at h;simp only[cx,m3] at hq;obtain⟨⟨rfl,rfl⟩,hall⟩:=hq;split at h<;>cases h;rename_i bx;rcases RU (f:=f) c.rel sF hm hg oQ (fun e he=>by have:=mg hall e he;simpa [gg] using this) J.type with⟨h1,_⟩|⟨e,he,u,an,h2,h3,aE,ba⟩
  ·exact absurd h1 bx
  ·exact⟨_,bQ.2 ⟨e,he,rfl⟩,px ⟨u,an,m,h2,h3,aE,ba⟩⟩
theorem zF(c:Ctx P env I w m B ak a)(ah:cop P J=some cD)(h:opx f (evalA env ak) I cD=some (.val v aq)):fr P B f I w m v aq ((execOp a.eval J).run P w):=by
 have hc0:=ah;unfold cop at ah;split at ah
 all_goals first|(cases ah;done)|skip
 all_goals first
  |(rename_i ab;first
    |exact R7 c (.inl ab) hc0 h|exact R7 c (.inr ab) hc0 h|exact a4c c ab hc0 h|exact a4d c ab hc0 h|exact a4e c ab hc0 h|exact a4r c ab hc0 h
    |exact a4t c ab hc0 h|exact Sb c (.inl ab) hc0 h|exact Sb c (.inr ab) hc0 h|exact a4f c ab hc0 h|exact a4g c ab hc0 h|exact a4h c ab hc0 h
    |exact a4l c ab hc0 h|exact a4i c ab hc0 h|exact a4m c ab hc0 h|exact a4o c ab hc0 h|exact a4p c ab hc0 h|exact a4q c ab hc0 h
    |exact a4B c ab hc0 h|exact a4u c ab hc0 h|exact a4v c ab hc0 h|exact a4w c ab hc0 h|exact a4x c ab hc0 h|exact a4y c ab hc0 h
    |exact a4z c ab hc0 h|exact a4A c ab hc0 h|exact a4J c ab hc0 h)
  |skip
 ·rename_i ab;exact a4P c ab hc0 h
 ·rename_i ab;exact a4Q c ab hc0 h
 ·rename_i ab;exact a4R c ab hc0 h
 ·rename_i ab;exact a4S c ab hc0 h
 ·simp only[di,cB,dv,a6] at ah;obtain⟨ac,pz,bN,dJ,rfl⟩:=ah;simp only[opx] at h;split at h<;>cases h
 ·simp only[di,cB,dv,a6] at ah;obtain⟨ac,pz,bN,dJ,rfl⟩:=ah;simp only[opx] at h;split at h<;>cases h
 ·simp only[et] at ah;obtain⟨bA,hx,rfl⟩:=ah;simp only[opx] at h;split at h<;>cases h
end
theorem a5c{α β:Type}(f:α→Option (List β))(x:α)(xs:List α):kk f (x::xs)=match f x with|none=>none|some a=>match kk f xs with|none=>none|some b=>some (a++b):=by
 cases xs with
 |nil=>show f x=_;cases f x<;>simp[kk]
 |cons y aO=>rfl
theorem Lh{α β:Type}{f:α→Option (List β)}:∀ {l:List α} {out:List β},kk f l=some out→∀x∈l,∃J,f x=some J∧∀y∈J,y∈out
 |[],_,_,x,hx=>by cases hx
 |x::l,out,h,y,aw=>by
  rw[a5c] at h;cases hf:f x with
  |none=>rw[hf] at h;cases h
  |some a=>
   rw[hf] at h;cases ar:kk f l with
   |none=>rw[ar] at h;cases h
   |some b=>
    rw[ar] at h;cases h;rcases cH.1 aw with rfl|aw
    ·exact⟨a,hf,fun z bg=>k6 _ bg⟩
    ·obtain⟨J,h1,h2⟩:=Lh ar y aw;exact⟨J,h1,fun z bg=>ni _ (h2 z bg)⟩
theorem vH{α β:Type}{r:Option (List α)}{f:α→Option (List β)}{out:List β}(h:kl r f=some out):∃l,r=some l∧∀x∈l,∃J,f x=some J∧∀y∈J,y∈out:=by
 cases r with
 |none=>cases h
 |some l=>exact⟨l,rfl,Lh h⟩
def fh(r:Option Nat):Fence:={fn:=fun _=>True,depth:=none,alive:=false,round:=r}
def zG(w:World)(m:Nat→Option Nat)(O:Nat→Prop)(B:Nat):(Nat ⊕ (AV×List AV))→Deferred→Prop
 | .inl id,d=>∃ax,m id=some ax∧d={target:=.collected ax,args:=#[]}
 | .inr (b_,args),d=>∃g fs cs g4 ea us,b_= .f (.func g) fs cs∧d={target:=.fn (.func g) ea,args:=g4++us}∧bz w m O B fs g4.toList∧bz w m O B cs ea.toList∧bz w m O B args us.toList
structure eW(P:Program)(env:Env)(ai:Fr)(a:Act)(I:af)(w:World)(m:Nat→Option Nat)(B:Nat):Prop where
 ctx:Ctx P env I w m B ai.bk a
 defs:ji (zG w m (a_ I m) B) ai.defers a.defers
def rz(w:World)(m:Nat→Option Nat)(O:Nat→Prop)(B:Nat):dM→Ending→Prop
 | .ok v,.returned u=>R w m O B v u
 | .err v,.panicked n3=>∃u,n3=[{v:=u,recovered:=false}]∧R w m O B v u
 |_,_=>False
def ExR(w:World)(m:Nat→Option Nat)(O:Nat→Prop)(B:Nat):hQ→Exit→Prop
 | .normal,.normal=>True
 | .exit i,.exit j=>i=j
 | .ret,.ret=>True
 | .panic v,.panic n3=>∃u,n3=[{v:=u,recovered:=false}]∧R w m O B v u
 |_,_=>False
def CallRes(P:Program)(F:Fence)(n:Nat)(u:Value)(us:Array Value)(w:World)(R:Ending→World→Prop):Prop:=
 ∃d,(∀an,(Deferred.ofValue u us).run P an= .ok d an)∧
  match(invoke d.target d.args).run P w with
  | .ok (.enter f args) an=>CallsIn F n P f args an R
  | .ok (.round l f tmps as b) an=>RoundIn F n P l f tmps as b an R
  | .ok (.value v) an=>R (.returned v) an
  |_=>False
section
variable {P:Program}{env:Env}{I aq:af}{w an:World}{m aH:Nat→Option Nat}{B f:Nat}
theorem Globs.ext(gF:Globs env w B)(h:Ext f I w m aq an aH)(al:Rel P I w m B):Globs env an B:=fun g v hg gn=>
 (gF g v hg gn).mono (fun _ _ h=>h) h.size h.fJ (fun b hb db=>⟨h.aF b hb (fun⟨_,_,h1,_⟩=>db (al.base _ _ h1)),db⟩)
theorem zG.ext{d:Nat ⊕ (AV×List AV)}{dT:Deferred}(au:zG w m (a_ I m) B d dT)(h:Ext f I w m aq an aH)(al:Rel P I w m B):zG an aH (a_ aq aH) B d dT:=by
 cases d with
 |inl id=>obtain⟨ax,h1,h2⟩:=au;exact⟨ax,h.mono _ _ h1,h2⟩
 |inr p=>obtain⟨g,fs,cs,g4,ea,us,h1,h2,h3,aE,ba⟩:=au;exact⟨g,fs,cs,g4,ea,us,h1,h2,h3.ext h al,aE.ext h al,ba.ext h al⟩
theorem Cf{α β:Type}{r bs:α→β→Prop}(h:∀x y,r x y→bs x y):∀ {l:List α} {cF:List β},ji r l cF→ji bs l cF
 |[],[],_=>trivial
 |[],_::_,h'=>h'.elim
 |_::_,[],h'=>h'.elim
 |_::_,_::_,h'=>⟨h _ _ h'.1,Cf h h'.2⟩
theorem Ctx.ext{ak:aT AV}{a:Act}(c:Ctx P env I w m B ak a)(h:Ext f I w m aq an aH)(mh:Rel P aq an aH B):Ctx P env aq an aH B ak a:=
 ⟨mh,c.bk.ext h c.rel,Globs.ext c.globs h c.rel⟩
theorem eW.ext{ai:Fr}{a:Act}(s:eW P env ai a I w m B)(h:Ext f I w m aq an aH)(mh:Rel P aq an aH B):eW P env ai a aq an aH B:=
 ⟨s.ctx.ext h mh,Cf (fun _ _ au=>au.ext h s.ctx.rel) s.defs⟩
theorem jf.put{O:Nat→Prop}{ak:aT AV}{tmps:Array Value}(h:jf w m O B ak tmps.toList)(d:Nat){v:AV}{u:Value}(av:R w m O B v u):jf w m O B (ak.set d v) (tmps.setIfInBounds d u).toList:=by
 refine⟨fun i x hx=>?_,fun i hx=>?_⟩
 ·rw[aT.jg] at hx;rw[lM];by_cases hi:i=d
  ·subst hi;rw[if_pos rfl] at hx;cases hg:ak.get i with
   |none=>rw[hg] at hx;cases hx
   |some y=>
    rw[hg] at hx;cases hx;obtain⟨zH,h1,_⟩:=h.1 i y hg;rw[lM] at h1;have bZ:=(xy.1 h1).1;exact⟨u,by simp[BB,bZ],av⟩
  ·rw[if_neg hi] at hx;obtain⟨zH,h1,h2⟩:=h.1 i x hx;rw[lM] at h1;exact⟨zH,by rw[Ie (fun e=>hi e.symm)];exact h1,h2⟩
 ·rw[aT.jg] at hx;rw[lM];have hg:ak.get i=none:=by
   by_cases hi:i=d
   ·subst hi;rw[if_pos rfl] at hx;cases hg:ak.get i with
    |none=>rfl
    |some y=>rw[hg] at hx;cases hx
   ·rw[if_neg hi] at hx;exact hx
  have h1:=h.2 i hg;rw[lM] at h1;have:=Array.getElem?_eq_none_iff.1 h1;exact xz (by simpa using this)
theorem a5d{O:Nat→Prop}{ak:aT AV}{a:Act}(h:jf w m O B ak a.tmps.toList)(d:Nat){v:AV}{u:Value}(av:R w m O B v u):jf w m O B (ak.set d v) (a.put (some d) u).tmps.toList:=
 h.put d av
theorem eW.put{ai:Fr}{a:Act}(s:eW P env ai a I w m B)(d:Option Nat){v:AV}{u:Value}(av:R w m (a_ I m) B v u):eW P env (ai.put d v) (a.put d u) I w m B:=by
 cases d with
 |none=>exact s
 |some d=>exact⟨⟨s.ctx.rel,a5d s.ctx.bk d av,s.ctx.globs⟩,s.defs⟩
theorem F_{ops:Array Oper}{J:Oper}{aN:a1}{O:Nat→Prop}{ak:aT AV}{tmps:Array Value}(ah:coper P ops J=some aN)(aj:jf w m O B ak tmps.toList):Region.wanted J (yielded ops tmps)=wantedA aN.guard ak:=by
 unfold coper at ah;split at ah<;>cases ah;rename_i g hg;unfold guardOf at hg;unfold Region.wanted wantedA;split at hg
 ·rename_i Li;cases hg;simp[Li]
 ·rename_i j wt Li;split at hg<;>cases hg;rename_i d au;simp only[Li,yielded,au,Option.bind_some];cases ko:ak.get d with
  |none=>
   have:=aj.2 d ko;rw[lM] at this;simp[this]
  |some v=>
   obtain⟨u,hu,ic⟩:=aj.1 d v ko;rw[lM] at hu;simp only[hu];cases ic with
   |y h=>rcases h.alt with⟨_,_,rfl⟩|⟨_,rfl⟩<;>simp
   |g1 hu h=>subst hu;simp
   |_=>simp
theorem Lj{c:Callee}{ac:sr}(ah:calleeOf c=some ac){ak:aT AV}{a:Act}(ctx:Ctx P env I w m B ak a){b_:AV}(av:calleeV (evalA env ak) ac=some b_):
  ∃x,c= .value x∧R w m (a_ I m) B b_ (a.eval x):=by
 unfold calleeOf at ah;split at ah
 ·cases ah;cases av;exact⟨_,rfl,.oI rfl (fun i h=>by simp at h) rfl (fun i h=>by simp at h)⟩
 ·split at ah<;>cases ah;rename_i hx;exact⟨_,rfl,ctx.ao hx av⟩
 ·cases ah
theorem Sg{F:Fence}{n:Nat}{J:Oper}{a:Act}{x:Operand}{c:Call}(ab:J.op= .call c)(eZ:c.callee= .value x){us:Array Value}(jk:c.args.map a.eval=us)(e3:∀f,F.fn f)(au:F.depth=none)
  {R:Ending→World→Prop} (h:CallRes P F (n-1) (a.eval x) us w R) {next:Act→World→Prop} {Q:Exit→Act→World→Prop}
  (bD:∀e an,R e an→match e with| .returned v=>next (a.put J.dst v) an| .panicked n3=>Q (.panic n3) a an| .outgrown=>False):J.wpIn F n P a w next Q:=by
 obtain⟨d,h1,h2⟩:=h;have eM:∀an,(resolve a.eval c J.type).run P an= .ok d an:=fun an=>by
  unfold resolve;rw[eZ];simp only[jk];exact h1 an
 have he:(J.semAt F.round a.eval).run P w=(invoke d.target d.args).run P w:=by
  rw[sJ _ _ _ (fun c ah=>by rw[ab] at ah;cases ah)];unfold execOp;rw[ab];simp only[dZ,eM,ec]
 refine⟨fun f _=>e3 f,?_⟩;rw[he];generalize(invoke d.target d.args).run P w=res at h2;cases res with
 |halt h an=>exact h2.elim
 |ok vI an=>
  cases vI<;>try exact h2.elim
  ·exact bD _ _ h2
  ·exact⟨fun aj=>by rw[au] at aj;simp at aj,wG h2 (fun e zk al=>by have:=bD e zk al;cases e<;>first|exact this|exact this.elim)⟩
  ·exact⟨fun aj=>by rw[au] at aj;simp at aj,RoundIn.mono h2 (fun e zk al=>by have:=bD e zk al;cases e<;>first|exact this|exact this.elim)⟩
def Cg(P:Program)(env:Env)(B f:Nat)(r:Option Nat)(call:nk):Prop:=
 ∀b_ args I kp,call b_ args I=some kp→∀k w m u us,Rel P I w m B→Globs env w B→R w m (a_ I m) B b_ u→bz w m (a_ I m) B args us→
  CallRes P (fh r) k u us.toArray w (fun e an=>∃ret aq,(ret,aq)∈kp∧∃aH,rz an aH (a_ aq aH) B ret e∧Rel P aq an aH B∧Ext f I w m aq an aH)
theorem Si{J:Oper}{c:sr}{args:List aC}(h:cop P J=some (.call c args)):∃aL,J.op= .call aL∧calleeOf aL.callee=some c∧xa aL.args.toList=some args:=by
 unfold cop at h;split at h
 all_goals first
  |(cases h;done)
  |(simp only[et,reduceCtorEq,and_false,exists_false] at h;done)
  |(simp only[di,cB,dv,a6,reduceCtorEq,and_false,exists_false] at h;done)
  |(
    rename_i ab _;simp only[di,cB,dv,a6] at h;obtain⟨ac,pz,bN,dJ,he⟩:=h;cases he;exact⟨_,ab,pz,dJ⟩)
  |(
    rename_i ab;simp only[di,cB,dv,a6] at h;obtain⟨ac,pz,bN,dJ,he⟩:=h;cases he;exact⟨_,ab,pz,dJ⟩)
  |(
    exfalso
    repeat' first
     |(cases h;done)
     |(simp only[et,reduceCtorEq,and_false,exists_false] at h;done)
     |(simp only[di,cB,dv,a6,reduceCtorEq,and_false,exists_false] at h;done)
     |split at h
     |(obtain⟨_,_,h⟩:=h)
     |(simp only[di,cB,dv,a6] at h))
theorem a5e{J:Oper}{c:sr}{args:List aC}(h:cop P J=some (.nj c args)):∃aL,J.op= .defer aL∧calleeOf aL.callee=some c∧xa aL.args.toList=some args:=by
 unfold cop at h;split at h
 all_goals first
  |(cases h;done)
  |(simp only[et,reduceCtorEq,and_false,exists_false] at h;done)
  |(simp only[di,cB,dv,a6,reduceCtorEq,and_false,exists_false] at h;done)
  |(
    rename_i ab _;simp only[di,cB,dv,a6] at h;obtain⟨ac,pz,bN,dJ,he⟩:=h;cases he;exact⟨_,ab,pz,dJ⟩)
  |(
    rename_i ab;simp only[di,cB,dv,a6] at h;obtain⟨ac,pz,bN,dJ,he⟩:=h;cases he;exact⟨_,ab,pz,dJ⟩)
  |(
    exfalso
    repeat' first
     |(cases h;done)
     |(simp only[et,reduceCtorEq,and_false,exists_false] at h;done)
     |(simp only[di,cB,dv,a6,reduceCtorEq,and_false,exists_false] at h;done)
     |split at h
     |(obtain⟨_,_,h⟩:=h)
     |(simp only[di,cB,dv,a6] at h))
end
section
variable {P:Program}{env:Env}{B f:Nat}
theorem Sj{J:Oper}{bA:aC}(h:cop P J=some (.panic bA)):∃x,opdOf x=some bA∧(J.op= .panic x∨∃xs ts,J.op= .call {callee:=.builtin .panic,args:=xs,argTypes:=ts}∧xs.toList=[x]):=by
 unfold cop at h;split at h
 all_goals first
  |(cases h;done)
  |(simp only[et,reduceCtorEq,and_false,exists_false] at h;done)
  |(simp only[di,cB,dv,a6,reduceCtorEq,and_false,exists_false] at h;done)
  |(
    rename_i ab;simp only[et] at h;obtain⟨ac,pz,he⟩:=h;cases he;exact⟨_,pz,.inl ab⟩)
  |skip
 all_goals first
  |(
    rename_i ab;split at h
    all_goals first
     |(cases h;done)
     |(
      simp only[et] at h;obtain⟨ac,pz,he⟩:=h;cases he;rename_i dj;exact⟨_,pz,.inr ⟨_,_,ab,dj⟩⟩)
     |(
      exfalso
      repeat' first
       |(cases h;done)
       |(simp only[et,reduceCtorEq,and_false,exists_false] at h;done)
       |(simp only[di,cB,dv,a6,reduceCtorEq,and_false,exists_false] at h;done)
       |split at h
       |(obtain⟨_,_,h⟩:=h)
       |(simp only[di,cB,dv,a6] at h)))
  |(
    exfalso
    repeat' first
     |(cases h;done)
     |(simp only[et,reduceCtorEq,and_false,exists_false] at h;done)
     |(simp only[di,cB,dv,a6,reduceCtorEq,and_false,exists_false] at h;done)
     |split at h
     |(obtain⟨_,_,h⟩:=h)
     |(simp only[di,cB,dv,a6] at h))
theorem Sk{J:Oper}{a:Act}{x:Operand}(ab:J.op= .panic x∨∃xs ts,J.op= .call {callee:=.builtin .panic,args:=xs,argTypes:=ts}∧xs.toList=[x]){t:TypeId}{u:Value}(hx:a.eval x= .iface t u)(w:World):
  (execOp a.eval J).run P w= .halt (.panic (.iface t u)) w:=by
 rcases ab with ab|⟨xs,ts,ab,dj⟩
 ·simp[execOp,ab,hx,Instr.panic,goPanic]
 ·obtain rfl:=ry dj;rw[Cd ab];simp[builtin,hx,Instr.panic,goPanic]
theorem vJ{ao:aC→Option AV}{I:af}{op:AOp}{b_:AV}{args:List AV}(h:opx f ao I op=some (.call b_ args)):∃c as,op= .call c as∧calleeV ao c=some b_∧mapO ao as=some args:=by
 cases op<;>simp only[opx] at h
 all_goals first
  |(cases h;done)
  |(
    rename_i c as;split at h<;>cases h;rename_i h1 h2;exact⟨c,as,rfl,h1,h2⟩)
  |(exfalso;repeat' first|(cases h;done)|(rcases FV h with⟨_,e⟩|⟨e,_⟩<;>cases e;done)|(obtain⟨_,_,e⟩:=Lf h;cases e;done)|(obtain⟨_,e⟩:=F8 h;cases e;done)|(obtain⟨_,e⟩:=F9 h;cases e;done)|split at h|(simp only[ui] at h))
theorem a5f{ao:aC→Option AV}{I:af}{op:AOp}{b_:AV}{args:List AV}(h:opx f ao I op=some (.nj b_ args)):∃c as,op= .nj c as∧calleeV ao c=some b_∧mapO ao as=some args:=by
 cases op<;>simp only[opx] at h
 all_goals first
  |(cases h;done)
  |(
    rename_i c as;split at h<;>cases h;rename_i h1 h2;exact⟨c,as,rfl,h1,h2⟩)
  |(exfalso;repeat' first|(cases h;done)|(rcases FV h with⟨_,e⟩|⟨e,_⟩<;>cases e;done)|(obtain⟨_,_,e⟩:=Lf h;cases e;done)|(obtain⟨_,e⟩:=F8 h;cases e;done)|(obtain⟨_,e⟩:=F9 h;cases e;done)|split at h|(simp only[ui] at h))
theorem Sm{ao:aC→Option AV}{I:af}{op:AOp}{v:AV}(h:opx f ao I op=some (.panic v)):∃x t u,op= .panic x∧ao x=some (.it t u)∧v= .it t u:=by
 cases op<;>simp only[opx] at h
 all_goals first
  |(cases h;done)
  |(
    rename_i x;split at h<;>cases h;rename_i h1;exact⟨x,_,_,rfl,h1,rfl⟩)
  |(exfalso;repeat' first|(cases h;done)|(rcases FV h with⟨_,e⟩|⟨e,_⟩<;>cases e;done)|(obtain⟨_,_,e⟩:=Lf h;cases e;done)|(obtain⟨_,e⟩:=F8 h;cases e;done)|(obtain⟨_,e⟩:=F9 h;cases e;done)|split at h|(simp only[ui] at h))
theorem Ga{J:Oper}{c:Call}{cD:AOp}(au:J.op= .defer c)(h:cop P J=some cD):∃ac as,cD= .nj ac as:=by
 obtain⟨callee,args,b8C⟩:=c;unfold cop at h;rw[au] at h;cases callee with
 |builtin b=>cases h
 |value x=>
  simp only[di,cB,dv,a6] at h;obtain⟨ac,_,as,_,he⟩:=h;exact⟨ac,as,he.symm⟩
 |invoke x n=>
  simp only[di,cB,dv,a6] at h;obtain⟨ac,_,as,_,he⟩:=h;exact⟨ac,as,he.symm⟩
theorem Ch{J:Oper}{cD:AOp}(h:copB P J=cD)(hb:cD≠ .bad):cop P J=some cD:=by
 unfold copB at h;split at h
 ·subst h;assumption
 ·exact absurd h.symm hb
theorem Gb{ops:Array Oper}{J:Oper}{aN:a1}(h:coper P ops J=some aN):aN.op=copB P J∧aN.dst=J.dst:=by
 unfold coper at h;split at h<;>cases h;exact⟨rfl,rfl⟩
theorem Ci(op:AOp)(floor:Nat)(ao:aC→Option AV)(I:af):vp op floor ao I=opx floor ao I op:=by
 cases op<;>rfl
theorem a5g(floor:Nat)(call:AV→List AV→af→Option (dM×af))(rc:Option AV)(eg:Bool)(ai:Fr)(I:af):q_ env floor call rc eg [] ai I=some (.normal,ai,I):=rfl
theorem runOpsD_cons(floor:Nat)(call:AV→List AV→af→Option (dM×af))(rc:Option AV)(eg:Bool)(J:a1)(ops:List a1)(ai:Fr)(I:af):q_ env floor call rc eg (J::ops) ai I=
  cond (wantedA J.guard ai.bk)
   (match J.op with
    | .recover=>match rc with
     |some v=>q_ env floor call rc eg ops (Fr.put ⟨ai.bk,ai.defers,true⟩ J.dst (cond ai.fA .fz v)) I
     |none=>none
    |op=>match opx floor (evalA env ai.bk) I op with
     |some (.val v I)=>q_ env floor call rc eg ops (ai.put J.dst v) I
     |some (.call b_ args)=>match call b_ args I with
      |some (.ok v,I)=>q_ env floor call rc eg ops (ai.put J.dst v) I
      |some (.err v,I)=>some (.panic v,ai,I)
      |none=>none
     |some (.nj b_ args)=>cond (eg&&isFn b_) (q_ env floor call rc eg ops (Fr.put ⟨ai.bk,.inr (b_,args)::ai.defers,ai.fA⟩ J.dst dR) I) none
     |some (.panic v)=>some (.panic v,ai,I)
     |some (.hy _)=>none
     |none=>none)
   (q_ env floor call rc eg ops (ai.put J.dst dR) I):=by
 show cond (wantedA J.guard ai.bk) (cond J.op.isRec _ (match vp J.op floor (evalA env ai.bk) I with|some (.val v I)=>_|some (.call b_ args)=>_|some (.nj b_ args)=>_|some (.panic v)=>_|some (.hy _)=>_|none=>none)) _=_;rw[Ci];rcases J with⟨dst,op,g,wn⟩
 cases op<;>rfl
theorem a5h(floor:Nat)(call:nk)(eg:Bool)(ai:Fr)(I:af):runOps env floor call eg [] ai I=some [(.normal,ai,I)]:=rfl
theorem Cj(floor:Nat)(call:nk)(eg:Bool)(J:a1)(ops:List a1)(ai:Fr)(I:af):runOps env floor call eg (J::ops) ai I=
  cond (wantedA J.guard ai.bk)
   (match opx floor (evalA env ai.bk) I J.op with
    |some (.val v I)=>runOps env floor call eg ops (ai.put J.dst v) I
    |some (.call b_ args)=>kl (call b_ args I) (fun r=>match r with
     |(.ok v,I)=>runOps env floor call eg ops (ai.put J.dst v) I
     |(.err v,I)=>some [(.panic v,ai,I)])
    |some (.nj b_ args)=>cond (eg&&isFn b_) (runOps env floor call eg ops (Fr.put ⟨ai.bk,.inr (b_,args)::ai.defers,ai.fA⟩ J.dst dR) I) none
    |some (.panic v)=>some [(.panic v,ai,I)]
    |some (.hy l)=>kk (fun p=>runOps env floor call eg ops (ai.put J.dst p.1) p.2) l
    |none=>none)
   (runOps env floor call eg ops (ai.put J.dst dR) I):=by
 show Bool.rec (motive:=fun _=>Option oF) (runOps env floor call eg ops (ai.oD J.dst dR) I)
   (Option.rec (motive:=fun _=>Option oF) none (fun r=>bq.rec (motive:=fun _=>Option oF)
    (fun v I=>runOps env floor call eg ops (ai.oD J.dst v) I)
    (fun b_ args=>kl (call b_ args I) (fun r=>match r with
     |(.ok v,I)=>runOps env floor call eg ops (ai.oD J.dst v) I
     |(.err v,I)=>some [(.panic v,ai,I)]))
    (fun b_ args=>cond (eg&&isFn b_) (runOps env floor call eg ops (Fr.oD ⟨ai.bk,.inr (b_,args)::ai.defers,ai.fA⟩ J.dst dR) I) none)
    (fun v=>some [(.panic v,ai,I)])
    (fun l=>kk (fun p=>runOps env floor call eg ops (ai.oD J.dst p.1) p.2) l) r)
    (vp J.op floor (ze env ai.bk) I))
   (Fs J.guard ai.bk)=_
 rw[rh,QM,QN,Kl,Ci];cases opx floor (evalA env ai.bk) I J.op with
 |none=>rfl
 |some r=>cases r<;>rfl
theorem Sn{r:Option Nat}{call:nk}(qy:Cg P env B f r call){ops:Array Oper}{k:Nat}{eg:Bool}(hnd:eg=true→r=none):
  ∀(ol:List Oper) (bN:List a1) (ai:Fr) (I:af) (outs:oF) (a:Act) (w:World) (m:Nat→Option Nat),mapOL (coper P ops) ol=some bN→runOps env f call eg bN ai I=some outs→eW P env ai a I w m B→
   ∀Q:Exit→Act→World→Prop,(∀e c_ aq,(e,c_,aq)∈outs→∀x cd an aH,ExR an aH (a_ aq aH) B e x→eW P env c_ cd aq an aH B→Ext f I w m aq an aH→Q x cd an)→wpListIn (fh r) k P ops Q ol a w
 |[],bN,ai,I,outs,a,w,m,hm,h,st,Q,dc=>by
  simp[mapOL] at hm;subst hm;rw[a5h] at h;cases h;exact dc _ _ _ (d_.2 rfl) .normal a w m trivial st (Ext.refl _ _ _ _)
 |J::ol,bN,ai,I,outs,a,w,m,hm,h,st,Q,dc=>by
  rw[mapOL] at hm;split at hm<;>cases hm;rename_i aN Ck ab B4;obtain⟨gH,jz⟩:=Gb ab;rw[Cj] at h;rw[wpListIn,F_ ab st.ctx.bk];have next:∀ {fL:Fr} {aP:Act} {b3:af} {aW:World} {cc:Nat→Option Nat} {fc:oF},runOps env f call eg Ck fL b3=some fc→(∀y∈fc,y∈outs)→eW P env fL aP b3 aW cc B→Ext f I w m b3 aW cc→wpListIn (fh r) k P ops Q ol aP aW:=
   fun {fL aP b3 aW cc fc} h1 e8 hE dx=>Sn qy hnd ol Ck fL b3 fc aP aW cc B4 h1 hE Q (fun e c_ aq cP x cd an aH hx dp hex=>dc e c_ aq (e8 _ cP) x cd an aH hx dp (dx.trans st.ctx.rel hex))
  cases hw:wantedA aN.guard ai.bk with
  |false=>
   rw[hw,cond_false] at h;simp only[nO,if_false];refine⟨fun f _=>trivial,next h (fun _ h=>h) ?_ (Ext.refl _ _ _ _)⟩;rw[jz];exact st.put _ R.undef
  |true=>
   rw[hw,cond_true] at h;simp only[if_true];generalize Lg:aN.op=cD at h gH;have ah:∀res,opx f (evalA env ai.bk) I cD=some res→cop P J=some cD:=fun res eM=>Ch gH.symm (fun hb=>by subst hb;simp[opx] at eM);have xF:∀v b3,opx f (evalA env ai.bk) I cD=some (.val v b3)→∀c,J.op≠ .defer c:=fun v b3 hx c au=>by
    have hh:=Ga au (ah _ hx);obtain⟨ac,as,rfl⟩:=hh;simp only[opx] at hx;split at hx<;>cases hx
   split at h
   ·-- a value
    rename_i v b3 hx;have aD:=zF st.ctx (ah _ hx) hx;obtain⟨u,aW,cc,b8,bD,n4,dx⟩:=aD;have aj:(J.semAt (fh r).round a.eval)=execOp a.eval J:=sJ _ _ _ (xF _ _ hx);have dp:=(st.ext dx n4).put aN.dst bD;rw[jz] at dp h;refine⟨fun f _=>trivial,?_⟩;rw[aj];rcases b8 with b8|⟨b8,rfl⟩
    ·rw[b8];exact next h (fun _ h=>h) dp dx
    ·rw[b8];exact next h (fun _ h=>h) dp dx
   ·-- a call
    rename_i b_ args hx;obtain⟨c,as,rfl,ri,has⟩:=vJ hx;obtain⟨aL,Cl,Cm,pA⟩:=Si (ah _ hx);obtain⟨x,g7,xG⟩:=Lj Cm st.ctx ri;have Cn:=BV st.ctx.rel.xB st.ctx.globs st.ctx.bk pA has;obtain⟨kp,eZ,pB⟩:=vH h;have eM:=qy _ _ _ _ eZ (k-1) w m _ _ st.ctx.rel st.ctx.globs xG Cn;refine Sg Cl g7 (us:=aL.args.map a.eval) rfl (fun _=>trivial) rfl (by
     have aM:(aL.args.toList.map a.eval).toArray=aL.args.map a.eval:=by apply lV;simp
     rw[aM] at eM;exact eM) (fun aM aW al=>?_)
    obtain⟨ret,b3,cP,cc,h1,h2,h3⟩:=al;obtain⟨fc,eH,e8⟩:=pB _ cP;cases ret with
    |ok v=>
     cases aM with
     |returned u=>
      have dp:=(st.ext h3 h2).put aN.dst h1;rw[jz] at dp eH;exact next eH e8 dp h3
     |panicked n3=>exact h1.elim
     |outgrown=>exact h1.elim
    |err v=>
     simp only[a6] at eH;subst eH;cases aM with
     |returned u=>exact h1.elim
     |panicked n3=>exact dc _ _ _ (e8 _ (d_.2 rfl)) _ _ _ cc h1 (st.ext h3 h2) h3
     |outgrown=>exact h1.elim
   ·-- a deferred call
    rename_i b_ args hx;obtain⟨c,as,rfl,ri,has⟩:=a5f hx;obtain⟨aL,Cl,Cm,pA⟩:=a5e (ah _ hx);obtain⟨x,g7,xG⟩:=Lj Cm st.ctx ri;have Cn:=BV st.ctx.rel.xB st.ctx.globs st.ctx.bk pA has;cases Co:(eg&&isFn b_) with
    |false=>rw[Co] at h;cases h
    |true=>
     rw[Co,cond_true] at h;simp only[cx] at Co;have k3:=hnd Co.1;subst k3;have hval:∃g fs cs g4 ea,b_= .f (.func g) fs cs∧a.eval x= .func (.func g) g4 ea∧bz w m (a_ I m) B fs g4.toList∧bz w m (a_ I m) B cs ea.toList:=by
      revert xG;generalize a.eval x=nt;intro xG;cases xG with
      |oI hf bY mj sw=>exact⟨_,_,_,_,_,rfl,rfl,⟨by simpa using hf,fun i p q=>by simpa using bY i p (by simpa using q)⟩,⟨by simpa using mj,fun i p q=>by simpa using sw i p (by simpa using q)⟩⟩
      |_=>simp[isFn] at Co
     obtain⟨g,fs,cs,g4,ea,rfl,hex,iX,mj⟩:=hval;have b8:(J.semAt (fh none).round a.eval).run P w= .ok (.defer {target:=.fn (.func g) ea,args:=g4++aL.args.map a.eval}) w:=by
      show(execOp a.eval J).run P w=_;unfold execOp;rw[Cl];simp[resolve,g7,Deferred.ofValue,hex]
     refine⟨fun f _=>trivial,?_⟩;rw[b8];have aM:(aL.args.map a.eval).toList=aL.args.toList.map a.eval:=by simp
     have dp:eW P env ⟨ai.bk,.inr (.f (.func g) fs cs,args)::ai.defers,ai.fA⟩ {a with defers:={target:=.fn (.func g) ea,args:=g4++aL.args.map a.eval}::a.defers} I w m B:=
      ⟨⟨st.ctx.rel,st.ctx.bk,st.ctx.globs⟩,⟨⟨g,fs,cs,g4,ea,aL.args.map a.eval,rfl,rfl,iX,mj,by rw[aM];exact Cn⟩,st.defs⟩⟩
     have qz:=dp.put aN.dst R.undef;rw[jz] at qz h;exact next h (fun _ h=>h) qz (Ext.refl _ _ _ _)
   ·-- a panic
    rename_i v hx;cases h;obtain⟨x,t,u,rfl,qA,rfl⟩:=Sm hx;obtain⟨Cp,Lk,vK⟩:=Sj (ah _ hx);have rA:=st.ctx.ao Lk qA;obtain⟨bR,sB⟩:∃bR,a.eval Cp= .iface t bR:=by
     revert rA;generalize a.eval Cp=nt;intro rA;cases rA;exact⟨_,rfl⟩
    have b8:=Sk (P:=P) vK sB w;have aj:(J.semAt (fh r).round a.eval)=execOp a.eval J:=sJ _ _ _ (fun c au=>by rcases vK with vK|⟨_,_,vK,_⟩<;>(rw[au] at vK;cases vK));refine⟨fun f _=>trivial,?_⟩;rw[aj,b8];rw[sB] at rA;exact dc _ _ _ (d_.2 rfl) _ _ _ m ⟨_,rfl,rA⟩ st (Ext.refl _ _ _ _)
   ·-- a step of w4 iterator
    rename_i l hx;obtain⟨a5i,p,hp,aD⟩:=a5a st.ctx (ah _ hx) hx;obtain⟨fc,eH,e8⟩:=Lh h p hp;obtain⟨u,aW,cc,b8,bD,n4,dx⟩:=aD;have aj:(J.semAt (fh r).round a.eval)=execOp a.eval J:=sJ _ _ _ a5i;have dp:=(st.ext dx n4).put aN.dst bD;rw[jz] at dp eH;refine⟨fun f _=>trivial,?_⟩;rw[aj];rcases b8 with b8|⟨b8,rfl⟩
    ·rw[b8];exact next eH e8 dp dx
    ·rw[b8];exact next eH e8 dp dx
   ·cases h
end
def zJ(m:Nat→Option Nat):Option Nat→Option Nat→Prop
 |none,none=>True
 |some l,some b=>m l=some b
 |_,_=>False
theorem zJ.mono{m aH:Nat→Option Nat}(hm:∀id ax,m id=some ax→aH id=some ax){aI r:Option Nat}(h:zJ m aI r):zJ aH aI r:=by
 cases aI<;>cases r<;>first|trivial|exact h.elim|exact hm _ _ h
def um(F:Fence)(n:Nat)(P:Program)(c:Code)(Q:Exit→Act→World→Prop)(a:Act)(w:World):Prop:=
 ∀(b:Frame) (k:List Item) (cs:List Frame),b.roundOf=F.round→F.fn b.fn→F.room (cs.length+1+n)→
  ∃e cd an,Q e cd an∧ArrivesIn (Machine.fenced P F) P (lone (b.atR a (.code c:: .inLoop c::k)) cs w) b k cs e cd an
theorem um.wpIn{F:Fence}{n:Nat}{P:Program}{c:Code}{Q:Exit→Act→World→Prop}{a:Act}{w:World}(h:um F n P c Q a w):(Code.loop c).wpIn F n P Q a w:=by
 intro b k cs zK hb al;obtain⟨e,cd,an,hq,n5⟩:=h b k cs zK hb al;exact⟨e,cd,an,hq,.of_steps (.one (fenced_calm hb al rfl) stepR_loop) n5⟩
theorem um.round{F:Fence}{n:Nat}{P:Program}{c:Code}{Q:Exit→Act→World→Prop}{a:Act}{w:World}(h:c.wpIn F n P (Exit.then (um F n P c Q) Q) a w):um F n P c Q a w:=by
 intro b k cs zK hb al;obtain⟨e,rB,rC,hq,n5⟩:=h b (.inLoop c::k) cs zK hb al;cases e with
 |normal=>
  obtain⟨a5j,a5k,a5l,a5m,a5n⟩:=hq b k cs zK hb al;exact⟨a5j,a5k,a5l,a5m,.of_steps (StepsIn.trans n5 (.one (fenced_calm hb al rfl) stepR_inLoop)) a5n⟩
 |exit id=>exact⟨_,rB,rC,hq,.pass (x:=.inLoop c) rfl (fun _ _=>.inl (by simp)) n5⟩
 |goto l=>exact⟨_,rB,rC,hq,.pass (x:=.inLoop c) rfl (fun _ _=>.inl (by simp)) n5⟩
 |ret=>exact⟨_,rB,rC,hq,.pass (x:=.inLoop c) rfl (fun _ _=>.inl (by simp)) n5⟩
 |panic n3=>exact⟨_,rB,rC,hq,.pass (x:=.inLoop c) rfl (fun _ _=>.inl (by simp)) n5⟩
 |outgrown=>exact⟨_,rB,rC,hq,.pass (x:=.inLoop c) rfl (fun _ _=>.inl (by simp)) n5⟩
theorem zL{P:Program}{b:Frame}{a:Act}{k:List Item}{cs:List Frame}{w:World}{c:Code}:Go.step P (lone (b.atR a (.code (.scope c)::k)) cs w)= .next (lone (b.atR a (.code c:: .inScope c::k)) cs w):=
 step_lone_go (by simp[stepG,stepG.exec,Frame.atR])
theorem a5o{P:Program}{b:Frame}{a:Act}{k:List Item}{cs:List Frame}{w:World}{c:Code}:Go.step P (lone (b.atR a (.inScope c::k)) cs w)= .next (lone (b.atR a k) cs w):=
 step_lone_go (by simp[stepG,stepG.exec,Frame.atR])
theorem a5p{F:Fence}{n:Nat}{P:Program}{Q:Exit→Act→World→Prop}{a:Act}{w:World}{c:Code}(h:c.wpIn F n P (Exit.noGoto Q) a w):(Code.scope c).wpIn F n P Q a w:=by
 intro b k cs zK hb al;have h0:(lone (b.atR a (.code (.scope c)::k)) cs w).fenced P F:=fenced_calm hb al rfl;obtain⟨e,rB,rC,hq,n5⟩:=h b (.inScope c::k) cs zK hb al;cases e with
 |normal=>exact⟨.normal,rB,rC,hq,.head h0 zL (StepsIn.trans n5 (.one (fenced_calm hb al rfl) a5o))⟩
 |exit id=>
  have hx:exitTo id (.inScope c::k)=exitTo id k:=by simp[exitTo]
  exact⟨.exit id,rB,rC,hq,fun cW aD=>.head h0 zL (n5.1 cW (by rw[hx];exact aD)),
   fun mh aD=>let⟨k₁,h1,h2⟩:=n5.2 mh (by rw[hx];exact aD);⟨k₁,h1,.head h0 zL h2⟩⟩
 |goto l=>exact hq.elim
 |ret=>exact⟨_,rB,rC,hq,.of_steps (.one h0 zL) n5⟩
 |panic n3=>exact⟨_,rB,rC,hq,.of_steps (.one h0 zL) n5⟩
 |outgrown=>exact⟨_,rB,rC,hq,.of_steps (.one h0 zL) n5⟩
def qB(P:Program)(env:Env)(B:Nat)(run:jv):Prop:=
 ∀floor aI ac ai I outs,run floor aI ac ai I=some outs→∀k r c a w m,ccode P c=some ac→zJ m aI r→eW P env ai a I w m B→
  ∀Q:Exit→Act→World→Prop,(∀e c_ aq,(e,c_,aq)∈outs→∀x cd an aH,ExR an aH (a_ aq aH) B e x→eW P env c_ cd aq an aH B→Ext floor I w m aq an aH→Q x cd an)→
   c.wpIn (fh r) k P Q a w∧∀aQ,c= .loop aQ→um (fh r) k P aQ Q a w
section
variable {P:Program}{env:Env}{B:Nat}
theorem a5q(env:Env):exec env 0=fun _ _ _ _ _=>none:=rfl
theorem pC(env:Env)(n:Nat):exec env (n+1)=step env (exec env n):=a1R env (exec env n)
theorem qB.zero:qB P env B (exec env 0):=fun floor aI ac ai I outs h=>by rw[a5q] at h;cases h
def So(P:Program)(env:Env)(B:Nat)(run:jv):Prop:=
 ∀floor ops ai I l,runDraws env floor (callV env run floor) ops ai [] [] I=some l→(∀x∈l,x.2.2.1.all (steady env floor (x.2.2.2::x.2.1).reverse)=true∧swapOk env x.1.bk ops=true)→∀k r id Sp a w m,cdraw P Sp=some ops→eW P env ai a I w m B→
  ∀Q:Exit→Act→World→Prop,(∀x∈l,∀cd an aH,eW P env x.1 cd x.2.2.2 an aH B→Ext floor I w m x.2.2.2 an aH→Q .normal cd an)→(Code.region id Sp true).wpIn (fh r) k P Q a w
def Sq(P:Program)(env:Env)(B:Nat)(run:jv):Prop:=
 ∀floor aI f ps as b ai I outs,step env run floor aI (.rangeFunc f ps as b) ai I=some outs→∀k r c a w m,ccode P c=some (.rangeFunc f ps as b)→zJ m aI r→eW P env ai a I w m B→
  ∀Q:Exit→Act→World→Prop,(∀e c_ aq,(e,c_,aq)∈outs→∀x cd an aH,ExR an aH (a_ aq aH) B e x→eW P env c_ cd aq an aH B→Ext floor I w m aq an aH→Q x cd an)→c.wpIn (fh r) k P Q a w
theorem k4{α:Type}(x:α):x∈[x]:=d_.2 rfl
theorem mapO_mem{α β:Type}{f:α→Option β}:∀ {l:List α} {r:List β},mapO f l=some r→∀x∈l,∃y,f x=some y∧y∈r
 |[],_,_,x,hx=>by simp at hx
 |a::l,r,h,x,hx=>by
  have h:(match f a with|none=>none|some y=>match mapO f l with|none=>none|some aO=>some (y::aO))=some r:=h;split at h
  ·cases h
  ·rename_i y aw;split at h
   ·cases h
   ·rename_i aO uo;cases h;rcases cH.1 hx with rfl|hx
    ·exact⟨y,aw,gz⟩
    ·obtain⟨z,h1,h2⟩:=mapO_mem uo x hx;exact⟨z,h1,e9 _ h2⟩
theorem Sr{env:Env}{floor:Nat}{ops:List a1}{x:j2}{y:hQ×Fr×af}(h:drawn env floor ops x=some y):(x.2.2.1.all (steady env floor (x.2.2.2::x.2.1).reverse)=true∧swapOk env x.1.bk ops=true)∧y=(.normal,x.1,x.2.2.2):=by
 unfold drawn at h;cases aj:(x.2.2.1.all (steady env floor (x.2.2.2::x.2.1).reverse)&&swapOk env x.1.bk ops) with
 |false=>rw[aj] at h;cases h
 |true=>
  rw[aj,cond_true] at h;cases h;rw[cx] at aj;exact⟨aj,rfl⟩
theorem a5r{run:jv}(b8:qB P env B run)(qy:∀f r,Cg P env B f r (callV env run f))(a5s:So P env B run)(a5t:Sq P env B run):qB P env B (step env run):=by
 intro floor aI ac ai I outs h k r c a w m ah mT st Q dc;have sN:(∀aQ,c≠ .loop aQ)→c.wpIn (fh r) k P Q a w→c.wpIn (fh r) k P Q a w∧∀aQ,c= .loop aQ→um (fh r) k P aQ Q a w:=fun h1 h2=>⟨h2,fun aQ he=>absurd he (h1 aQ)⟩
 have trans:∀ {b3:af} {aW:World} {cc:Nat→Option Nat} {fc:oF},Ext floor I w m b3 aW cc→(∀y∈fc,y∈outs)→∀e c_ aq,(e,c_,aq)∈fc→∀x cd an aH,ExR an aH (a_ aq aH) B e x→eW P env c_ cd aq an aH B→Ext floor b3 aW cc aq an aH→Q x cd an:=
  fun dx e8 e c_ aq cP x cd an aH hx dp hex=>dc e c_ aq (e8 _ cP) x cd an aH hx dp (dx.trans st.ctx.rel hex)
 cases c with
 |skip=>
  simp only[ccode,a6] at ah;subst ah;simp only[step] at h;cases h;exact sN (fun _ h=>by cases h) (wpIn_skip (dc _ _ _ (k4 _) .normal a w m trivial st (Ext.refl _ _ _ _)))
 |label l=>
  simp only[ccode,a6] at ah;subst ah;simp only[step] at h;cases h;exact sN (fun _ h=>by cases h) (wpIn_label (dc _ _ _ (k4 _) .normal a w m trivial st (Ext.refl _ _ _ _)))
 |goto l=>simp only[ccode,a6] at ah;subst ah;simp[step] at h
 |refuse l=>simp only[ccode,a6] at ah;subst ah;simp[step] at h
 |exit id=>
  simp only[ccode,a6] at ah;subst ah;simp only[step] at h;cases h;exact sN (fun _ h=>by cases h) (wpIn_exit (dc _ _ _ (k4 _) (.exit id) a w m rfl st (Ext.refl _ _ _ _)))
 |ret=>
  simp only[ccode,a6] at ah;subst ah;simp only[step] at h;cases h;exact sN (fun _ h=>by cases h) (wpIn_ret (dc _ _ _ (k4 _) .ret a w m trivial st (Ext.refl _ _ _ _)))
 |region id ops hF=>
  refine sN (fun _ h=>by cases h) ?_;cases hF with
  |true=>
   simp only[ccode] at ah;split at ah<;>cases ah
   ·rename_i l ar;simp only[step] at h;split at h<;>try (cases h;done)
    rename_i gd au;have hx:=fun x hx=>mapO_mem h x hx;refine a5s _ _ _ _ _ au (fun x hm=>?_) k r id ops a w m ar st Q (fun x hm cd an aH h3 aE=>?_)
    ·obtain⟨y,h1,_⟩:=hx x hm;exact(Sr h1).1
    ·obtain⟨y,h1,Cq⟩:=hx x hm;obtain⟨_,rfl⟩:=Sr h1;exact dc _ _ _ Cq .normal cd an aH trivial h3 aE
   ·simp[step] at h
  |false=>
   simp only[ccode] at ah;split at ah<;>cases ah
   ·rename_i l ar;simp only[step] at h;refine wpIn_region_list (Sn (qy floor r) (fun hn=>?_) _ _ _ _ _ _ _ _ ar h st Q dc);cases aI<;>cases r<;>first|rfl|exact mT.elim|simp at hn
   ·simp[step] at h
 |seq x y=>
  refine sN (fun _ h=>by cases h) ?_;simp only[ccode] at ah;split at ah<;>cases ah;rename_i bA eI hx aw;simp only[step] at h;refine wpIn_seq ?_;obtain⟨l,uq,pB⟩:=vH h;refine(b8 _ _ _ _ _ _ uq k r x a w m hx mT st _ (fun aM fL b3 cP ep aP aW cc e1 gy hG=>?_)).1;obtain⟨fc,eH,e8⟩:=pB _ cP;cases aM with
  |normal=>
   cases ep<;>try exact e1.elim
   exact(b8 _ _ _ _ _ _ eH k r y aP aW cc aw (mT.mono hG.mono) gy Q (trans hG e8)).1
  |exit id=>cases eH;cases ep<;>first|exact e1.elim|exact dc _ _ _ (e8 _ (k4 _)) _ aP aW cc e1 gy hG
  |ret=>cases eH;cases ep<;>first|exact e1.elim|exact dc _ _ _ (e8 _ (k4 _)) _ aP aW cc e1 gy hG
  |panic v=>cases eH;cases ep<;>first|exact e1.elim|exact dc _ _ _ (e8 _ (k4 _)) _ aP aW cc e1 gy hG
 |cond t x y=>
  refine sN (fun _ h=>by cases h) ?_;simp only[ccode] at ah;split at ah<;>cases ah;rename_i at' bA eI ht hx aw;simp only[step] at h;split at h<;>try (cases h;done)
  rename_i bt Ll;have Lm:=(st.ctx.ao ht Ll).vs;refine wpIn_cond Lm ?_;cases bt with
  |true=>exact(b8 _ _ _ _ _ _ h k r x a w m hx mT st Q dc).1
  |false=>exact(b8 _ _ _ _ _ _ h k r y a w m aw mT st Q dc).1
 |block id x=>
  refine sN (fun _ h=>by cases h) ?_;simp only[ccode] at ah;split at ah<;>cases ah;rename_i bA hx;simp only[step] at h;refine wpIn_block ?_;obtain⟨l,uq,pB⟩:=vH h;refine(b8 _ _ _ _ _ _ uq k r x a w m hx mT st _ (fun aM fL b3 cP ep aP aW cc e1 gy hG=>?_)).1;obtain⟨fc,eH,e8⟩:=pB _ cP;cases aM with
  |normal=>cases eH;cases ep<;>first|exact e1.elim|exact dc _ _ _ (e8 _ (k4 _)) _ aP aW cc e1 gy hG
  |ret=>cases eH;cases ep<;>first|exact e1.elim|exact dc _ _ _ (e8 _ (k4 _)) _ aP aW cc e1 gy hG
  |panic v=>cases eH;cases ep<;>first|exact e1.elim|exact dc _ _ _ (e8 _ (k4 _)) _ aP aW cc e1 gy hG
  |exit j=>
   cases ep<;>try exact e1.elim
   rename_i su;have az:j=su:=e1;subst az;have eH:cond (Nat.beq j id) (some [(hQ.normal,fL,b3)]) (some [(hQ.exit j,fL,b3)])=some fc:=eH;cases hb:Nat.beq j id with
   |true=>
    rw[hb,cond_true] at eH;cases eH;have:=fm hb;simp only[Exit.inBlock,this,if_true];exact dc _ _ _ (e8 _ (k4 _)) .normal aP aW cc trivial gy hG
   |false=>
    rw[hb,cond_false] at eH;cases eH;have:j≠id:=fun he=>by rw[he,fy] at hb;cases hb
    simp only[Exit.inBlock,this,if_false];exact dc _ _ _ (e8 _ (k4 _)) (.exit j) aP aW cc rfl gy hG
 |loop x=>
  simp only[ccode] at ah;split at ah<;>cases ah;rename_i bA hx;have hL:um (fh r) k P x Q a w:=by
   refine um.round ?_;simp only[step] at h;obtain⟨l,uq,pB⟩:=vH h;refine(b8 _ _ _ _ _ _ uq k r x a w m hx mT st _ (fun aM fL b3 cP ep aP aW cc e1 gy hG=>?_)).1;obtain⟨fc,eH,e8⟩:=pB _ cP;cases aM with
   |normal=>
    cases ep<;>try exact e1.elim
    exact(b8 _ _ _ _ _ _ eH k r (.loop x) aP aW cc (by simp only[ccode,hx]) (mT.mono hG.mono) gy Q (trans hG e8)).2 x rfl
   |exit id=>cases eH;cases ep<;>first|exact e1.elim|exact dc _ _ _ (e8 _ (k4 _)) _ aP aW cc e1 gy hG
   |ret=>cases eH;cases ep<;>first|exact e1.elim|exact dc _ _ _ (e8 _ (k4 _)) _ aP aW cc e1 gy hG
   |panic v=>cases eH;cases ep<;>first|exact e1.elim|exact dc _ _ _ (e8 _ (k4 _)) _ aP aW cc e1 gy hG
  exact⟨hL.wpIn,fun aQ he=>by cases he;exact hL⟩
 |scope x=>
  refine sN (fun _ h=>by cases h) ?_;simp only[ccode] at ah;split at ah<;>cases ah;rename_i bA hx;simp only[step] at h;refine a5p ((b8 _ _ _ _ _ _ h k r x a w m hx mT st _ (fun aM fL b3 cP ep aP aW cc e1 gy hG=>?_)).1);cases ep with
  |goto l=>cases aM<;>exact e1.elim
  |_=>exact dc _ _ _ cP _ aP aW cc e1 gy hG
 |rangeFunc g ps as b=>
  refine sN (fun _ h=>by cases h) ?_;have hc0:=ah;simp only[ccode] at ah;split at ah<;>cases ah;exact a5t _ _ _ _ _ _ _ _ _ h k r _ a w m hc0 mT st Q dc
end
structure ur(P:Program)(env:Env):Prop where
 funcs:∀g cz,env.funcs g=some cz→∃fn,P.funcs[g]? =some fn∧cfunc P fn=some cz∧(fn.name== "runtime.NumGoroutine")=false
theorem Ln{P:Program}{fn:Func}{cz:ch}(h:cfunc P fn=some cz):∃rs c ac,mapOL (resOf P) fn.results.toList=some rs∧fn.body=some c∧ccode P c=some ac∧cz={lP:=fn.params.size+fn.nfree,ntmps:=fn.ntmps,results:=rs,body:=some ac}:=by
 unfold cfunc at h;split at h<;>try (cases h;done)
 rename_i rs Cr;split at h<;>try (cases h;done)
 rename_i c ah;split at h<;>cases h;rename_i ac Cs;exact⟨rs,c,ac,Cr,ah,Cs,rfl⟩
section
variable {P:Program}{env:Env}{B:Nat}{I:af}{w:World}{m:Nat→Option Nat}
def res1(tmps:Array Value):ResultVar→Sem Value
 | .tmp t=>pure (tmps.getD t undef)
 | .cell a t=>do loadVar t (←asAddr (tmps.getD a undef))
theorem a5u(fn:Func)(tmps:Array Value):results fn tmps=(do let a3 ←fn.results.mapM (res1 tmps);pure (if h:a3.size=1 then a3[0] else .tuple a3)):=by
 have:(fun(x:ResultVar)=>(match x with| .tmp t=>pure (tmps.getD t undef)| .cell a t=>(do loadVar t (←asAddr (tmps.getD a undef))):Sem Value))=res1 tmps:=by
  funext x;cases x<;>rfl
 unfold results;rw[←this];rfl
theorem a5v(al:Rel P I w m B){ak:aT AV}{tmps:Array Value}(aj:jf w m (a_ I m) B ak tmps.toList){x:ResultVar}{r:Nat×Option (Option Nat)}(hx:resOf P x=some r){v:AV}(h:resultOf I ak r=some v):
  ∃u,(res1 tmps x).run P w= .ok u w∧R w m (a_ I m) B v u:=by
 have getD:∀ {t:Nat} {u:Value},tmps.toList[t]? =some u→tmps.getD t undef=u:=fun {t u} h=>by
  rw[lM] at h;simp[h]
 cases x with
 |tmp t=>
  simp only[resOf,a6] at hx;subst hx;simp only[resultOf] at h;cases av:ak.get t with
  |none=>simp[av] at h
  |some a2=>
   simp only[av,a6] at h;subst h;obtain⟨u,hu,ic⟩:=aj.1 _ _ av;exact⟨u,by simp only[res1,getD hu,gx],ic⟩
 |cell b t=>
  simp only[resOf] at hx;cases cL:shapeOf P t with
  |none=>simp[cL] at hx
  |some ad=>
   simp only[cL,a6] at hx;subst hx;simp only[resultOf] at h;split at h<;>try (cases h;done)
   ·rename_i hq;cases hq
   ·rename_i id off fp av hq;cases hq;split at h<;>try (cases h;done)
    rename_i c hg;obtain⟨u,hu,ic⟩:=aj.1 _ _ av;obtain⟨ax,hm,rfl⟩:=ic.tZ;obtain⟨bR,h1,h2⟩:=QR al cL hm hg h;exact⟨bR,by simp only[res1,getD hu,asAddr,dZ,gx,ec,h1],h2⟩
theorem Ss(al:Rel P I w m B){ak:aT AV}{tmps:Array Value}(aj:jf w m (a_ I m) B ak tmps.toList){fn:Func}{rs:List (Nat×Option (Option Nat))}(hx:mapOL (resOf P) fn.results.toList=some rs){v:AV}(h:resultsOf I ak rs=some v):
  ∃u,(results fn tmps).run P w= .ok u w∧R w m (a_ I m) B v u:=by
 have key:∀(l:List ResultVar) (rs:List (Nat×Option (Option Nat))) (a3:List AV),mapOL (resOf P) l=some rs→mapO (resultOf I ak) rs=some a3→
   ∃us:List Value,(l.mapM (res1 tmps)).run P w= .ok us w∧bz w m (a_ I m) B a3 us:=by
  intro l
  induction l with
  |nil=>
   intro rs a3 h1 h2;simp[mapOL] at h1;subst h1;rw[BP] at h2;cases h2;exact⟨[],by simp,bz.nil⟩
  |cons x l aA=>
   intro rs a3 h1 h2;rw[mapOL] at h1;split at h1<;>cases h1;rename_i r a5w lo oR;rw[mapO_cons] at h2;split at h2<;>try (cases h2;done)
   rename_i a2 ub;split at h2<;>cases h2;rename_i sy a5x;obtain⟨u,hu,ic⟩:=a5v al aj lo ub;obtain⟨us,jk,a5y⟩:=aA a5w sy oR a5x;exact⟨u::us,by simp only[List.mapM_cons,dZ,hu,ec,jk,gx],bz.cons ic a5y⟩
 have run:∀(a3:List AV),mapO (resultOf I ak) rs=some a3→∃us:List Value,(fn.results.mapM (res1 tmps)).run P w= .ok us.toArray w∧bz w m (a_ I m) B a3 us:=fun a3 kG=>by
  obtain⟨us,h1,h2⟩:=key _ _ _ hx kG;refine⟨us,?_,h2⟩;rw[OK];simp only[Sem.run_map,h1,ec]
 unfold resultsOf at h;rw[a5u];split at h<;>cases h
 ·rename_i av;obtain⟨us,h1,h2⟩:=run _ av;have ar:us.length=1:=h2.1;obtain⟨u,rfl⟩:∃u,us=[u]:=by cases us with|nil=>simp at ar|cons u t=>cases t with|nil=>exact⟨u,rfl⟩|cons _ _=>simp at ar
  refine⟨u,?_,h2.2 0 (by simp) (by simp)⟩;simp only[dZ,h1,ec,gx];simp
 ·rename_i a3 bx av;obtain⟨us,h1,h2⟩:=run _ av;refine⟨.tuple us.toArray,?_,R.tX h2⟩;have ar:us.length≠1:=fun h=>by
   rw[h2.1] at h;cases a3 with
   |nil=>simp at h
   |cons v t=>cases t with|nil=>exact bx v rfl|cons _ _=>simp at h
  simp only[dZ,h1,ec,gx];simp[ar]
def oS(w:World)(m:Nat→Option Nat)(O:Nat→Prop)(B:Nat):Option AV→FrameMode→Prop
 |none,.returning=>True
 |some v,.panicking n3=>∃u,n3=[{v:=u,recovered:=false}]∧R w m O B v u
 |_,_=>False
theorem oS.ext{f:Nat}{aq:af}{an:World}{aH:Nat→Option Nat}{p:Option AV}{u:FrameMode}(h:oS w m (a_ I m) B p u)(he:Ext f I w m aq an aH)(al:Rel P I w m B):oS an aH (a_ aq aH) B p u:=by
 cases p<;>cases u<;>first|exact h|(obtain⟨nt,h1,h2⟩:=h;exact⟨nt,h1,h2.ext he al⟩)
def Lo(P:Program)(env:Env)(B f:Nat)(call:AV→List AV→AV→af→Option (Bool×af)):Prop:=
 ∀b_ args p I r aq,call b_ args (p.getD .fz) I=some (r,aq)→∀k w m u d,Rel P I w m B→Globs env w B→oS w m (a_ I m) B p u→zG w m (a_ I m) B (.inr (b_,args)) d→
  ∃Lp cap g zM,d.target= .fn Lp cap∧(invoke d.target d.args).run P w= .ok (.enter g zM) w∧
   CallsDIn (fh none) k P g zM u w (fun e bR an=>(∃v,e= .returned v)∧∃aH,oS an aH (a_ aq aH) B (cond r none p) (settle bR)∧Rel P aq an aH B∧Ext f I w m aq an aH)
theorem a5z(f:Nat)(call:AV→List AV→AV→af→Option (Bool×af))(p:Option AV)(I:af):leave f call [] p I=some (p,I):=rfl
theorem leave_cons(f:Nat)(call:AV→List AV→AV→af→Option (Bool×af))(d:Nat ⊕ (AV×List AV))(ds:List (Nat ⊕ (AV×List AV)))(p:Option AV)(I:af):leave f call (d::ds) p I=match d with
  | .inl b=>if Nat.blt b f then none else match I.get b with
   |some .g2=>leave f call ds p (I.set b .dead)
   |_=>none
  | .inr (b_,args)=>match call b_ args (p.getD .fz) I with
   |some (r,I)=>leave f call ds (cond r none p) I
   |none=>none:=rfl
theorem Lq{f:Nat}{call:AV→List AV→AV→af→Option (Bool×af)}(qy:Lo P env B f call){fn:Func}{rs:List (Nat×Option (Option Nat))}(hx:mapOL (resOf P) fn.results.toList=some rs){k:Nat}{tmps:Array Value}{ak:aT AV}:
  ∀(ds:List (Nat ⊕ (AV×List AV))) (uu:List Deferred) (p p':Option AV) (u:FrameMode) (I aq:af) (w:World) (m:Nat→Option Nat),leave f call ds p I=some (p',aq)→ji (zG w m (a_ I m) B) ds uu→oS w m (a_ I m) B p u→
   Rel P I w m B→jf w m (a_ I m) B ak tmps.toList→Globs env w B→∀(ret:dM),(match p' with|some v=>some (dM.err v)|none=>(resultsOf aq ak rs).map dM.ok)=some ret→
   ∀Q:Ending→World→Prop,(∀e an aH,rz an aH (a_ aq aH) B ret e→Rel P aq an aH B→Ext f I w m aq an aH→Q e an)→LeavesInM (fh none) k P fn tmps Q uu u w
 |[],uu,p,p',u,I,aq,w,m,h,au,hu,al,aj,gF,ret,lW,Q,dc=>by
  cases uu with
  |cons _ _=>exact au.elim
  |nil=>
  rw[a5z] at h;cases h;cases p with
  |none=>
   cases u<;>try exact hu.elim
   simp only[et] at lW;obtain⟨v,av,rfl⟩:=lW;obtain⟨vL,h1,h2⟩:=Ss al aj hx av;exact⟨vL,h1,dc _ _ m h2 al (Ext.refl _ _ _ _)⟩
  |some v=>
   cases u<;>try exact hu.elim
   simp only[a6] at lW;subst lW;exact dc _ _ m hu al (Ext.refl _ _ _ _)
 |d::ds,uu,p,p',u,I,aq,w,m,h,au,hu,al,aj,gF,ret,lW,Q,dc=>by
  cases uu with
  |nil=>exact au.elim
  |cons dT uu=>
  obtain⟨lX,uv⟩:=au;have b8:u≠ .run:=fun he=>by subst he;cases p<;>exact hu.elim
  rw[leave_cons] at h;refine⟨b8,?_⟩;cases d with
  |inl b=>
   simp only at h;split at h<;>try (cases h;done)
   rename_i c7;split at h<;>try (cases h;done)
   rename_i hg;obtain⟨ax,hm,rfl⟩:=lX;obtain⟨b7,eH,pr⟩:=al.obj _ _ _ hm hg rfl;cases pr;left;have hb:=zm eH;obtain⟨lo,ho⟩:=al.fq (f:=f) (by simpa [gg] using c7) hm ⟨_,hg,rfl⟩ (w.putObj ax (.deferred none)) .dead (by simp) (fun b bx=>Qn bx) (fun n hn=>by unfold dU at hn;rw[eH] at hn;cases hn) rfl rfl rfl (fun h=>by cases h);refine⟨ax,w.putObj ax (.deferred none),rfl,run_takeDeferred eH,?_⟩;exact Lq qy hx ds uu p p' u _ aq _ m h (Cf (fun _ _ au=>au.ext ho al) uv) (by
    cases p<;>cases u<;>first|exact hu|(obtain⟨nt,h1,h2⟩:=hu;exact⟨nt,h1,h2.ext ho al⟩)) lo (aj.ext ho al) (Globs.ext gF ho al) ret lW Q
    (fun e an aH h1 h2 h3=>dc e an aH h1 h2 (ho.trans al h3))
  |inr q=>
   obtain⟨b_,args⟩:=q;simp only at h;split at h<;>try (cases h;done)
   rename_i r b3 ah;obtain⟨Lp,cap,g,zM,ht,hinv,Ct⟩:=qy b_ args p I r b3 ah (k-1) w m u dT al gF hu lX;right;refine⟨fun aj=>by simp[fh] at aj,Lp,cap,g,zM,ht,hinv,fun _ _=>trivial,?_⟩;refine CallsDIn.mono Ct (fun e bR an eM=>?_);obtain⟨⟨v,rfl⟩,aH,oJ,lo,ho⟩:=eM;exact Lq qy hx ds uu _ p' (settle bR) b3 aq an aH h (Cf (fun _ _ au=>au.ext ho al) uv) oJ lo (aj.ext ho al) (Globs.ext gF ho al) ret lW Q
    (fun e an aH h1 h2 h3=>dc e an aH h1 h2 (ho.trans al h3))
end
section
variable {P:Program}{env:Env}{B:Nat}
theorem Gc{g:Nat}{fn:Func}(hf:P.funcs[g]? =some fn){c:Code}(hb:fn.body=some c)(hn:(fn.name== "runtime.NumGoroutine")=false)(cs args:Array Value)(w:World):
  (invoke (.fn (.func g) cs) args).run P w= .ok (.enter g (args++cs)) w:=by
 simp only[beq_eq_false_iff_ne,ne_eq] at hn;have hp:(program).run P w= .ok P w:=rfl;simp only[invoke,callFunc,dZ,hp,ec,hf];simp[hn,hb]
theorem a5A{α:Type}(i:Nat)(t:aT α):aT.lay [] i t=t:=rfl
theorem a5B{α:Type}(x:α)(l:List α)(i:Nat)(t:aT α):aT.lay (x::l) i t=aT.lay l (i+1) (t.set i x):=rfl
theorem St{w:World}{m:Nat→Option Nat}{O:Nat→Prop}:∀(args:List AV) (us:List Value) (i:Nat) (t:aT AV) (pre:List Value) (n:Nat),bz w m O B args us→pre.length=i→
  jf w m O B t (pre++List.replicate (args.length+n) undef)→jf w m O B (aT.lay args i t) (pre++(us++List.replicate n undef))
 |[],us,i,t,pre,n,ha,hp,h=>by
  have:us=[]:=mI (by simpa using ha.1);subst this;rw[a5A];simpa using h
 |x::args,us,i,t,pre,n,ha,hp,h=>by
  cases us with
  |nil=>have:=ha.1;simp at this
  |cons u us=>
   rw[a5B];have hx:R w m O B x u:=ha.2 0 (by simp) (by simp);have Cu:bz w m O B args us:=by simpa using ha.drop 1
   have key:=St args us (i+1) (t.set i x) (pre++[u]) n Cu (by simp[hp]) (by
    have Su:=jf.put (tmps:=(pre++List.replicate ((x::args).length+n) undef).toArray) (by simpa using h) i hx;have aM:((pre++List.replicate ((x::args).length+n) undef).toArray.setIfInBounds i u).toList=(pre++[u])++List.replicate (args.length+n) undef:=by
     simp only[Qo];rw[←hp,Qp _ _ (o _),kj];have e2:(x::args).length+n=(args.length+n)+1:=by simp;omega
     rw[e2,Qq,Qr];simp
    rw[aM] at Su;exact Su)
   simpa using key
theorem a5C{w:World}{m:Nat→Option Nat}{O:Nat→Prop}(n:Nat):jf w m O B (aT.full n dR n) (List.replicate n undef):=by
 refine⟨fun i v av=>?_,fun i av=>?_⟩
 ·obtain⟨rfl,hi⟩:=aT.Fz _ _ _ _ _ av;exact⟨undef,by simp[hi],R.undef⟩
 ·rcases mK i n with h|h
  ·rw[aT.Fy n n i dR h (o _)] at av;cases av
  ·exact q7 (by simpa using h)
theorem Sv{fn:Func}{cz:ch}(a5D:cz.ntmps=fn.ntmps){I:af}{w:World}{m:Nat→Option Nat}(al:Rel P I w m B)(gF:Globs env w B){args:List AV}(hle:args.length≤fn.ntmps){us:Array Value}(ha:bz w m (a_ I m) B args us.toList):
  eW P env (tU cz args) {tmps:=us++Array.replicate (fn.ntmps-us.size) undef,defers:=[]} I w m B:=by
 refine⟨⟨al,?_,gF⟩,trivial⟩;have ar:us.size=args.length:=by have:=ha.1;simpa using this
 simp only[tU,J0,Array.toList_replicate,a5D,ar];have:=St args us.toList 0 (aT.full fn.ntmps dR fn.ntmps) [] (fn.ntmps-args.length) ha rfl (by
  have e:args.length+(fn.ntmps-args.length)=fn.ntmps:=by omega
  rw[e];simpa using a5C fn.ntmps)
 simpa using this
theorem Lr(iX:ur P env){run:jv}(b8:qB P env B run){f:Nat}(au:Lo P env B f (callD env f)){g:Nat}{args:List AV}{I:af}{kp:List (dM×af)}(h:runF env run f g args I=some kp)(k:Nat)(r:Option Nat)
  {w:World} {m:Nat→Option Nat} (al:Rel P I w m B) (gF:Globs env w B) {us:Array Value} (ha:bz w m (a_ I m) B args us.toList):
  (∃fn c,P.funcs[g]? =some fn∧fn.body=some c∧(fn.name== "runtime.NumGoroutine")=false)∧
  CallsIn (fh r) k P g us w (fun e an=>∃ret aq,(ret,aq)∈kp∧∃aH,rz an aH (a_ aq aH) B ret e∧Rel P aq an aH B∧Ext f I w m aq an aH):=by
 unfold runF at h;cases hg:env.funcs g with
 |none=>simp[hg] at h
 |some cz=>
  obtain⟨fn,hfn,dV,qC⟩:=iX.funcs g cz hg;obtain⟨rs,c,ac,Cr,Cv,Cs,rfl⟩:=Ln dV;simp only[hg] at h;refine⟨⟨fn,c,hfn,Cv,qC⟩,?_⟩;cases hb:(Nat.beq args.length (fn.params.size+fn.nfree)&&Nat.ble args.length fn.ntmps) with
  |false=>rw[hb] at h;cases h
  |true=>
   rw[hb,cond_true] at h;simp only[cx,Fb] at hb;obtain⟨l,hex,pB⟩:=vH h;have dp:=Sv (fn:=fn) (cz:={lP:=fn.params.size+fn.nfree,ntmps:=fn.ntmps,results:=rs,body:=some ac}) rfl al gF hb.2 ha;show CallsIn (fh none) k P g us w _;refine callsIn_of_wp_marks hfn Cv trivial ((b8 _ _ _ _ _ _ hex k none c _ w m Cs trivial dp _ (fun e fL b3 cP ep aP aW cc e1 gy hG=>?_)).1);obtain⟨fc,eH,e8⟩:=pB _ cP;have fin:∀(p':Option AV) (dD:af) (ret:dM),leave f (callD env f) fL.defers (Ft e) b3=some (p',dD)→(match p' with|some v=>some (dM.err v)|none=>(resultsOf dD fL.bk rs).map dM.ok)=some ret→(ret,dD)∈kp→
     ∀u,oS aW cc (a_ b3 cc) B (Ft e) u→LeavesInM (fh none) k P fn aP.tmps (fun e an=>∃ret aq,(ret,aq)∈kp∧∃aH,rz an aH (a_ aq aH) B ret e∧Rel P aq an aH B∧Ext f I w m aq an aH) aP.defers u aW:=fun p' dD ret ar lW iV u hu=>
    Lq au Cr _ _ _ _ _ _ _ _ _ ar gy.defs hu gy.ctx.rel gy.ctx.bk gy.ctx.globs ret lW _ (fun e an aH h1 h2 h3=>⟨ret,dD,iV,aH,h1,h2,hG.trans al h3⟩)
   have go:(∀id,e≠ .exit id)→∀u,oS aW cc (a_ b3 cc) B (Ft e) u→LeavesInM (fh none) k P fn aP.tmps (fun e an=>∃ret aq,(ret,aq)∈kp∧∃aH,rz an aH (a_ aq aH) B ret e∧Rel P aq an aH B∧Ext f I w m aq an aH) aP.defers u aW:=fun bx u hu=>by
    unfold endF at eH;split at eH
    ·rename_i he;cases he;exact absurd rfl (bx _)
    rename_i eb c_ aq ho nr;cases nr;split at eH<;>try (cases eH;done)
    ·rename_i hC;cases eH;exact fin _ _ _ hC rfl (e8 _ (k4 _)) u hu
    ·rename_i hC;split at eH<;>cases eH;rename_i eM;exact fin _ _ _ hC (by simp[eM]) (e8 _ (k4 _)) u hu
   cases e with
   |exit id=>cases eH
   |normal=>cases ep<;>first|exact e1.elim|exact go (fun _ h=>by cases h) _ trivial
   |ret=>cases ep<;>first|exact e1.elim|exact go (fun _ h=>by cases h) _ trivial
   |panic v=>cases ep<;>first|exact e1.elim|exact go (fun _ h=>by cases h) _ e1
end
def wpListS(F:Fence)(n:Nat)(P:Program)(ops:Array Oper)(Q:Exit→Act→List Frame→World→Prop):List Oper→Act→List Frame→World→Prop
 |[],a,cs,w=>Q .normal a cs w
 |J::rest,a,cs,w=>
   (∀f,J.about P w a.eval=some f→F.fn f)∧
   if Region.wanted J (yielded ops a.tmps) then
    match(execOp a.eval J).run P w with
    | .ok .recover an=>
     match recoverD cs with
     |some (v,ea)=>wpListS F n P ops Q rest (a.put J.dst v) ea an
     |none=>wpListS F n P ops Q rest (a.put J.dst .nilIface) cs an
    | .ok (.value v) an=>wpListS F n P ops Q rest (a.put J.dst v) cs an
    | .ok .skip an=>wpListS F n P ops Q rest (a.put J.dst undef) cs an
    | .halt (.panic v) an=>Q (.panic [{v,recovered:=false}]) a cs an
    |_=>False
   else wpListS F n P ops Q rest (a.put J.dst undef) cs w
theorem a5E{F:Fence}{n:Nat}{P:Program}{ops:Array Oper}{Q:Exit→Act→List Frame→World→Prop}(l:List Oper):∀k,(∀j,l[j]? =ops[k+j]?)→∀a cs w,wpListS F n P ops Q l a cs w→wpOpsSIn F n P ops Q (List.range' k l.length) a cs w:=by
 induction l with
 |nil=>intro k _ a cs w h;simpa [wpOpsSIn,wpListS] using h
 |cons J l aA=>
  intro k h a cs w hh;have h0:ops[k]? =some J:=by simpa using (h 0).symm
  have Cw:=aA (k+1) (fun j=>by have:=h (j+1);simpa [tS,qf 1 j] using this);simp only[fH,List.range'_succ,wpOpsSIn,h0];simp only[wpListS] at hh;refine⟨hh.1,?_⟩;have hh:=hh.2;split at hh
  ·rename_i hw;rw[if_pos hw];split at hh
   ·rename_i al;simp only[al];split at hh
    ·rename_i Cx;simp only[Cx];exact Cw _ _ _ hh
    ·rename_i Cx;simp only[Cx];exact Cw _ _ _ hh
   ·rename_i al;simp only[al];exact Cw _ _ _ hh
   ·rename_i al;simp only[al];exact Cw _ _ _ hh
   ·rename_i al;simp only[al];exact hh
   ·exact hh.elim
  ·rename_i hw;rw[if_neg hw];exact Cw _ _ _ hh
theorem a5F{F:Fence}{n:Nat}{P:Program}{id:Nat}{ops:Array Oper}{Q:Exit→Act→List Frame→World→Prop}{a:Act}{cs:List Frame}{w:World}(h:wpListS F n P ops Q ops.toList a cs w):(Code.region id ops false).wpSIn F n P Q a cs w:=
 wpSIn_region (by rw[List.range_eq_range',← qd];exact a5E _ 0 (by simp) _ _ _ h)
def Cy:FrameMode→FrameMode
 | .panicking [{v,..}]=>.panicking [{v,recovered:=true}]
 |u=>u
section
variable {P:Program}{env:Env}{B:Nat}
def vM(ml:Frame)(cs:List Frame)(u:FrameMode)(fA:Bool)(ea:List Frame):Prop:=ea={ml with mode:=if fA then Cy u else u}::cs
theorem a5G{J:Oper}(h:cop P J=some .recover)(a:Act)(w:World):(execOp a.eval J).run P w= .ok .recover w:=by
 unfold cop at h;split at h
 all_goals first
  |(cases h;done)
  |(simp only[et,reduceCtorEq,and_false,exists_false] at h;done)
  |(simp only[di,cB,dv,a6,reduceCtorEq,and_false,exists_false] at h;done)
  |skip
 all_goals first
  |(
    rename_i ab;split at h
    all_goals first
     |(cases h;done)
     |(rw[Cd ab];simp[builtin];done)
     |(
      exfalso
      repeat' first
       |(cases h;done)
       |(simp only[et,reduceCtorEq,and_false,exists_false] at h;done)
       |(simp only[di,cB,dv,a6,reduceCtorEq,and_false,exists_false] at h;done)
       |split at h
       |(obtain⟨_,_,h⟩:=h)
       |(simp only[di,cB,dv,a6] at h)))
  |(
    exfalso
    repeat' first
     |(cases h;done)
     |(simp only[et,reduceCtorEq,and_false,exists_false] at h;done)
     |(simp only[di,cB,dv,a6,reduceCtorEq,and_false,exists_false] at h;done)
     |split at h
     |(obtain⟨_,_,h⟩:=h)
     |(simp only[di,cB,dv,a6] at h))
theorem Sw{f:Nat}{p:Option AV}{u:FrameMode}{ml:Frame}{cs:List Frame}{ops:Array Oper}{k:Nat}:
  ∀(ol:List Oper) (bN:List a1) (ai c_:Fr) (I aq:af) (e:hQ) (a:Act) (w:World) (m:Nat→Option Nat) (jl:List Frame),mapOL (coper P ops) ol=some bN→
   q_ env f (fun _ _ _=>none) (some (p.getD .fz)) false bN ai I=some (e,c_,aq)→eW P env ai a I w m B→oS w m (a_ I m) B p u→vM ml cs u ai.fA jl→
   ∀Q:Exit→Act→List Frame→World→Prop,(∀x cd ea an aH,ExR an aH (a_ aq aH) B e x→eW P env c_ cd aq an aH B→Ext f I w m aq an aH→vM ml cs u c_.fA ea→Q x cd ea an)→wpListS (fh none) k P ops Q ol a jl w
 |[],bN,ai,c_,I,aq,e,a,w,m,jl,hm,h,st,hu,au,Q,dc=>by
  simp[mapOL] at hm;subst hm;rw[a5g] at h;cases h;exact dc .normal a jl w m trivial st (Ext.refl _ _ _ _) au
 |J::ol,bN,ai,c_,I,aq,e,a,w,m,jl,hm,h,st,hu,au,Q,dc=>by
  rw[mapOL] at hm;split at hm<;>cases hm;rename_i aN Ck ab B4;obtain⟨gH,jz⟩:=Gb ab;rw[runOpsD_cons] at h;rw[wpListS,F_ ab st.ctx.bk];refine⟨fun _ _=>trivial,?_⟩;have next:∀ {fL:Fr} {aP:Act} {b3:af} {aW:World} {cc:Nat→Option Nat} {rD:List Frame},q_ env f (fun _ _ _=>none) (some (p.getD .fz)) false Ck fL b3=some (e,c_,aq)→eW P env fL aP b3 aW cc B→Ext f I w m b3 aW cc→vM ml cs u fL.fA rD→wpListS (fh none) k P ops Q ol aP rD aW:=
   fun {fL aP b3 aW cc rD} h1 hE dx lX=>Sw ol Ck fL c_ b3 aq e aP aW cc rD B4 h1 hE (hu.ext dx st.ctx.rel) lX Q (fun x cd ea an aH hx dp hex=>dc x cd ea an aH hx dp (dx.trans st.ctx.rel hex))
  have zN:∀(ai:Fr) d v,(ai.put d v).fA=ai.fA:=fun ai d v=>by cases d<;>rfl
  cases hw:wantedA aN.guard ai.bk with
  |false=>
   rw[hw,cond_false] at h;simp only[nO,if_false];refine next h ?_ (Ext.refl _ _ _ _) (by rw[zN];exact au)
   rw[jz];exact st.put _ R.undef
  |true=>
   rw[hw,cond_true] at h;simp only[if_true];split at h
   ·-- recover
    rename_i Cx;simp only at h;have b8:=a5G (P:=P) (Ch (gH.symm.trans Cx) (by simp)) a w;rw[b8];simp only;unfold vM at au;subst au;have Ls:eW P env ⟨ai.bk,ai.defers,true⟩ a I w m B:=⟨st.ctx,st.defs⟩
    cases al:ai.fA with
    |true=>
     rw[al] at h;have tW:recoverD ({ml with mode:=if true=true then Cy u else u}::cs)=none:=by
      cases p<;>cases u<;>first|exact hu.elim|rfl|(obtain⟨nt,rfl,_⟩:=hu;rfl)
     rw[tW];simp only;have eN:=Ls.put aN.dst (v:=.fz) (u:=.nilIface) R.fz;rw[jz] at eN h;exact next h eN (Ext.refl _ _ _ _) (by rw[zN];rfl)
    |false=>
     rw[al] at h;cases p with
     |none=>
      cases u<;>try exact hu.elim
      have tW:recoverD ({ml with mode:=if false=true then Cy .returning else .returning}::cs)=none:=rfl;rw[tW];simp only;have eN:=Ls.put aN.dst (v:=.fz) (u:=.nilIface) R.fz;rw[jz] at eN h;exact next h eN (Ext.refl _ _ _ _) (by rw[zN];rfl)
     |some v=>
      cases u<;>try exact hu.elim
      obtain⟨nt,rfl,ic⟩:=hu;have KL:recoverD ({ml with mode:=if false=true then Cy (.panicking [{v:=nt,recovered:=false}]) else .panicking [{v:=nt,recovered:=false}]}::cs)=some (nt,{ml with mode:=.panicking [{v:=nt,recovered:=true}]}::cs):=rfl;rw[KL];simp only;have eN:=Ls.put aN.dst ic;rw[jz] at eN h;exact next h eN (Ext.refl _ _ _ _) (by rw[zN];rfl)
   ·rename_i op bx;generalize Lg:aN.op=cD at h gH;have ah:∀res,opx f (evalA env ai.bk) I cD=some res→cop P J=some cD:=fun res eM=>Ch gH.symm (fun hb=>by subst hb;simp[opx] at eM);split at h
    ·rename_i v b3 hx;obtain⟨vL,aW,cc,b8,bD,n4,dx⟩:=zF st.ctx (ah _ hx) hx;have dp:=(st.ext dx n4).put aN.dst bD;rw[jz] at dp h;rcases b8 with b8|⟨b8,rfl⟩
     ·rw[b8];exact next h dp dx (by rw[zN];exact au)
     ·rw[b8];exact next h dp dx (by rw[zN];exact au)
    ·cases h
    ·simp at h
    ·rename_i v hx;cases h;obtain⟨x,t,nt,rfl,qA,rfl⟩:=Sm hx;obtain⟨Cp,Lk,vK⟩:=Sj (ah _ hx);have rA:=st.ctx.ao Lk qA;obtain⟨bR,sB⟩:∃bR,a.eval Cp= .iface t bR:=by
      revert rA;generalize a.eval Cp=nt;intro rA;cases rA;exact⟨_,rfl⟩
     have b8:=Sk (P:=P) vK sB w;rw[b8];rw[sB] at rA;exact dc _ _ _ _ m ⟨_,rfl,rA⟩ st (Ext.refl _ _ _ _) au
    ·cases h
    ·cases h
theorem runD_ok{f:Nat}{p:Option AV}{u:FrameMode}{ml:Frame}{cs:List Frame}{k:Nat}:
  ∀(c:Code) (ac:bB) (ai c_:Fr) (I aq:af) (e:hQ) (a:Act) (w:World) (m:Nat→Option Nat) (jl:List Frame),ccode P c=some ac→
   vq env f (p.getD .fz) ac ai I=some (e,c_,aq)→eW P env ai a I w m B→oS w m (a_ I m) B p u→vM ml cs u ai.fA jl→
   ∀Q:Exit→Act→List Frame→World→Prop,(∀x cd ea an aH,ExR an aH (a_ aq aH) B e x→eW P env c_ cd aq an aH B→Ext f I w m aq an aH→vM ml cs u c_.fA ea→Q x cd ea an)→c.wpSIn (fh none) k P Q a jl w:=by
 intro c
 induction c with
 |skip=>
  intro ac ai c_ I aq e a w m jl ah h st hu au Q dc;simp only[ccode,a6] at ah;subst ah;have h':some (hQ.normal,ai,I)=some (e,c_,aq):=h;cases h';exact wpSIn_of_wpIn rfl (wpIn_skip (dc .normal a jl w m trivial st (Ext.refl _ _ _ _) au))
 |ret=>
  intro ac ai c_ I aq e a w m jl ah h st hu au Q dc;simp only[ccode,a6] at ah;subst ah;have h':some (hQ.ret,ai,I)=some (e,c_,aq):=h;cases h';exact wpSIn_of_wpIn rfl (wpIn_ret (dc .ret a jl w m trivial st (Ext.refl _ _ _ _) au))
 |label l=>
  intro ac ai c_ I aq e a w m jl ah h st hu au Q dc;simp only[ccode,a6] at ah;subst ah;have h':some (hQ.normal,ai,I)=some (e,c_,aq):=h;cases h';exact wpSIn_of_wpIn rfl (wpIn_label (dc .normal a jl w m trivial st (Ext.refl _ _ _ _) au))
 |region id ops hF=>
  intro ac ai c_ I aq e a w m jl ah h st hu au Q dc;cases hF with
  |true=>
   simp only[ccode] at ah;split at ah<;>cases ah<;>(have h':none=some (e,c_,aq):=h;cases h')
  |false=>
   simp only[ccode] at ah;split at ah<;>cases ah
   ·rename_i l ar;have h':q_ env f (fun _ _ _=>none) (some (p.getD .fz)) false l ai I=some (e,c_,aq):=h;exact a5F (Sw _ _ _ _ _ _ _ _ _ _ _ ar h' st hu au Q dc)
   ·have h':none=some (e,c_,aq):=h;cases h'
 |seq x y Gd Ge=>
  intro ac ai c_ I aq e a w m jl ah h st hu au Q dc;simp only[ccode] at ah;split at ah<;>cases ah;rename_i bA eI hx aw;have h':(match vq env f (p.getD .fz) bA ai I with|some (.normal,ai,I)=>vq env f (p.getD .fz) eI ai I|r=>r)=some (e,c_,aq):=h;refine wpSIn_seq ?_;cases uq:vq env f (p.getD .fz) bA ai I with
  |none=>simp[uq] at h'
  |some res=>
   obtain⟨aM,fL,b3⟩:=res;simp only[uq] at h';refine Gd bA ai fL I b3 aM a w m jl hx uq st hu au _ (fun ep aP rD aW cc e1 gy hG lX=>?_);cases aM with
   |normal=>
    cases ep<;>try exact e1.elim
    exact Ge eI fL c_ b3 aq e aP aW cc rD aw h' gy (hu.ext hG st.ctx.rel) lX Q (fun x cd ea an aH h1 h2 h3 aE=>dc x cd ea an aH h1 h2 (hG.trans st.ctx.rel h3) aE)
   |exit id=>cases h';cases ep<;>first|exact e1.elim|exact dc _ aP rD aW cc e1 gy hG lX
   |ret=>cases h';cases ep<;>first|exact e1.elim|exact dc _ aP rD aW cc e1 gy hG lX
   |panic v=>cases h';cases ep<;>first|exact e1.elim|exact dc _ aP rD aW cc e1 gy hG lX
 |cond t x y Gd Ge=>
  intro ac ai c_ I aq e a w m jl ah h st hu au Q dc;simp only[ccode] at ah;split at ah<;>cases ah;rename_i at' bA eI ht hx aw;have h':(match evalA env ai.bk at' with|some (.b t)=>cond t (vq env f (p.getD .fz) bA ai I) (vq env f (p.getD .fz) eI ai I)|_=>none)=some (e,c_,aq):=h;split at h'<;>try (cases h';done)
  rename_i bt Ll;have Lm:=(st.ctx.ao ht Ll).vs;refine wpSIn_cond Lm ?_;cases bt with
  |true=>exact Gd bA ai c_ I aq e a w m jl hx h' st hu au Q dc
  |false=>exact Ge eI ai c_ I aq e a w m jl aw h' st hu au Q dc
 |block id x aA=>
  intro ac ai c_ I aq e a w m jl ah h st hu au Q dc;simp only[ccode] at ah;split at ah<;>cases ah;have h':none=some (e,c_,aq):=h;cases h'
 |loop x aA=>
  intro ac ai c_ I aq e a w m jl ah h st hu au Q dc;simp only[ccode] at ah;split at ah<;>cases ah;have h':none=some (e,c_,aq):=h;cases h'
 |scope x aA=>
  intro ac ai c_ I aq e a w m jl ah h st hu au Q dc;simp only[ccode] at ah;split at ah<;>cases ah;have h':none=some (e,c_,aq):=h;cases h'
 |rangeFunc g ps x y Gd Ge=>
  intro ac ai c_ I aq e a w m jl ah h st hu au Q dc;simp only[ccode] at ah;split at ah<;>cases ah;have h':none=some (e,c_,aq):=h;cases h'
 |exit id=>
  intro ac ai c_ I aq e a w m jl ah h st hu au Q dc;simp only[ccode,a6] at ah;subst ah;have h':none=some (e,c_,aq):=h;cases h'
 |goto l=>
  intro ac ai c_ I aq e a w m jl ah h st hu au Q dc;simp only[ccode,a6] at ah;subst ah;have h':none=some (e,c_,aq):=h;cases h'
 |refuse l=>
  intro ac ai c_ I aq e a w m jl ah h st hu au Q dc;simp only[ccode,a6] at ah;subst ah;have h':none=some (e,c_,aq):=h;cases h'
theorem a5H{I:af}{w:World}{m:Nat→Option Nat}{O:Nat→Prop}{p:Option AV}{u:FrameMode}(h:oS w m O B p u)(r:Bool):oS w m O B (cond r none p) (settle (if r then Cy u else u)):=by
 cases p with
 |none=>cases u<;>first|exact h.elim|(cases r<;>trivial)
 |some v=>
  cases u<;>try exact h.elim
  obtain⟨nt,rfl,bD⟩:=h;cases r with
  |true=>trivial
  |false=>exact⟨nt,rfl,bD⟩
theorem Lt(iX:ur P env)(f:Nat):Lo P env B f (callD env f):=by
 intro b_ args p I r aq h k w m u d al gF hu au;obtain⟨g,fs,cs,g4,ea,us,rfl,rfl,Lu,Lv,jk⟩:=au;unfold callD at h;simp only at h;split at h<;>try (cases h;done)
 rename_i cz hg;obtain⟨fn,hfn,dV,qC⟩:=iX.funcs g cz hg;obtain⟨rs,c,ac,Cr,Cv,Cs,rfl⟩:=Ln dV;simp only at h;cases hb:(Nat.beq (fs++args++cs).length (fn.params.size+fn.nfree)&&Nat.ble (fs++args++cs).length fn.ntmps) with
 |false=>rw[hb] at h;cases h
 |true=>
  rw[hb,cond_true] at h;simp only[cx,Fb] at hb;have hinv:=Gc (P:=P) hfn Cv qC ea (g4++us) w;have pA:bz w m (a_ I m) B (fs++args++cs) (g4++us++ea).toList:=by
   simp only[J0];exact(Lu.append jk).append Lv
  have dp:=Sv (fn:=fn) (cz:={lP:=fn.params.size+fn.nfree,ntmps:=fn.ntmps,results:=rs,body:=some ac}) rfl al gF hb.2 pA;refine⟨_,_,g,_,rfl,hinv,?_⟩;refine callsDIn_of_wpSIn hfn Cv trivial (fun ml oT a5I=>?_);have sO:vM ml oT u false (ml::oT):=by
   unfold vM;simp only[nO,if_false];rw[←a5I]
  have fin:∀(e:hQ) (fL:Fr) (b3:af),vq env f (p.getD .fz) ac (tU {lP:=fn.params.size+fn.nfree,ntmps:=fn.ntmps,results:=rs,body:=some ac} (fs++args++cs)) I=some (e,fL,b3)→(e= .normal∨e= .ret)→fL.defers=[]→(∃v,resultsOf b3 fL.bk rs=some v)→r=fL.fA→aq=b3→
    c.wpSIn (fh none) k P (bodyPostS P fn ml oT (fun e bR an=>(∃v,e= .returned v)∧∃aH,oS an aH (a_ aq aH) B (cond r none p) (settle bR)∧Rel P aq an aH B∧Ext f I w m aq an aH)) {tmps:=g4++us++ea++Array.replicate (fn.ntmps-(g4++us++ea).size) undef,defers:=[]} (ml::oT) w:=by
   rintro e fL b3 b8 he a5J ⟨v,eM⟩ rfl rfl;refine runD_ok c ac _ fL I aq e _ w m _ Cs b8 dp hu sO _ (fun x aP rD aW cc e1 gy hG lX=>?_);have a5K:aP.defers=[]:=by
    have:=gy.defs;rw[a5J] at this;cases hq:aP.defers with
    |nil=>rfl
    |cons _ _=>rw[hq] at this;exact this.elim
   obtain⟨vL,ic,_⟩:=Ss (fn:=fn) gy.ctx.rel gy.ctx.bk Cr eM;have Sx:aP.defers=[]∧∃bR,rD={ml with mode:=bR}::oT∧∃v,(results fn aP.tmps).run P aW= .ok v aW∧((∃a2,Ending.returned v= .returned a2)∧∃aH,oS aW aH (a_ aq aH) B (cond fL.fA none p) (settle bR)∧Rel P aq aW aH B∧Ext f I w m aq aW aH):=
    ⟨a5K,_,lX,vL,ic,⟨vL,rfl⟩,cc,a5H (I:=aq) (hu.ext hG al) fL.fA,gy.ctx.rel,hG⟩
   rcases he with rfl|rfl
   ·cases x<;>first|exact e1.elim|exact Sx
   ·cases x<;>first|exact e1.elim|exact Sx
  split at h<;>try (cases h;done)
  ·rename_i fL b3 b8;split at h<;>cases h;rename_i lX eM;exact fin .normal fL aq b8 (.inl rfl) lX ⟨_,eM⟩ rfl rfl
  ·rename_i fL b3 b8;split at h<;>cases h;rename_i lX eM;exact fin .ret fL aq b8 (.inr rfl) lX ⟨_,eM⟩ rfl rfl
end
theorem Lw{w:World}{b n:Nat}(h:dU w b=some n):b<w.heap.size:=by
 rcases mK b w.heap.size with h1|h1
 ·exact h1
 ·simp[dU,xz h1] at h
theorem Sy(I:af)(base:Nat)(v:AV):freeze I base 0 v=none:=rfl
theorem freeze_succ(I:af)(base n:Nat)(v:AV):freeze I base (n+1) v=match v with
  | .ak id off len ad cap=>if Nat.blt id base then none else
   match readList I (.ak id off len ad cap) with
   |none=>none
   |some xs=>match mapO (freeze I base n) xs with|none=>none|some xs=>some (.a7 false ad xs)
  | .ag l=>match mapO (freeze I base n) l with|none=>none|some l=>some (.ag l)
  | .bJ l=>match mapO (freeze I base n) l with|none=>none|some l=>some (.bJ l)
  | .it t v=>match freeze I base n v with|none=>none|some v=>some (.it t v)
  | .p (some _)=>none
  | .m (some _)=>none
  | .f _ _ _=>none
  | .ix _ _ _=>none
  |v=>some v:=rfl
theorem Sz{I:af}{base:Nat}{ad:Option Nat}:∀ {n:Nat} {v a2:AV},freeze I base n v=some a2→conf ad v=true→conf ad a2=true
 |0,v,a2,h,_=>by rw[Sy] at h;cases h
 |n+1,v,a2,h,ah=>by
  rw[freeze_succ] at h;split at h
  ·split at h<;>try (cases h;done)
   split at h<;>try (cases h;done)
   split at h<;>cases h;cases ad<;>simp[conf] at ah ⊢
  ·split at h<;>cases h;rename_i l cF ar;have:=(mc ar).1;cases ad with
   |none=>simp[conf] at ah
   |some k=>simp[conf] at ah ⊢;omega
  ·split at h<;>cases h;cases ad<;>simp[conf] at ah
  ·split at h<;>cases h;cases ad<;>simp[conf] at ah ⊢
  ·cases h
  ·cases h
  ·cases h
  ·cases h
  ·cases h;exact ah
section
variable {P:Program}{I:af}{w:World}{m:Nat→Option Nat}{B:Nat}
theorem R.SA{O:Nat→Prop}{v:AV}{ad:Option Nat}(ah:conf ad v=true){us:List Value}(h:bz w m O B v.cells us)(hf:∀x∈v.cells,conf none x=true):∃u,R w m O B v u∧u.cells.toList=us:=by
 cases ad with
 |none=>
  have av:v.cells=[v]:=by cases v<;>simp[conf] at ah<;>rfl
  rw[av] at h;have ar:us.length=1:=h.1;obtain⟨u,rfl⟩:∃u,us=[u]:=by cases us with|nil=>simp at ar|cons u t=>cases t with|nil=>exact⟨u,rfl⟩|cons _ _=>simp at ar
  have al:=h.2 0 (by simp) (by simp);simp at al;refine⟨u,al,?_⟩;have:=al.cells;cases al with
  |y h=>rcases h.alt with⟨_,_,rfl⟩|⟨_,rfl⟩<;>rfl
  |g1 hu h=>subst hu;rfl
  |_=>first|rfl|(simp[conf] at ah)
 |some n=>
  cases v<;>simp[conf] at ah;rename_i l;exact⟨.agg us.toArray,R.xe h hf,by simp[Value.cells]⟩
theorem Lx{df:af}{e4:World}{ed:Nat→Option Nat}(k3:Rel P df e4 ed B)(al:Rel P I w m B)(he:Ext df.next df e4 ed I w m):
  ∀(n:Nat) (v a2:AV) (u:Value),freeze I df.next n v=some a2→R w m (a_ I m) B v u→R w (fun _=>none) (a_ df ed) B a2 u
 |0,v,a2,u,h,_=>by rw[Sy] at h;cases h
 |n+1,v,a2,u,h,av=>by
  have db:∀ax,a_ df ed ax→a_ I m ax:=fun ax ⟨id,h1,J,h2,h3⟩=>⟨id,he.mono _ _ h1,J,by rw[he.low id (k3.fa _ _ h1).2 (k3.fa _ _ h1).2];exact h2,h3⟩
  have aA:=fun v a2 u h av=>Lx k3 al he n v a2 u h av;have jN:∀ {v:AV} {u:Value},R w (fun _=>none) (a_ I m) B v u→R w (fun _=>none) (a_ df ed) B v u:=fun h=>h.mono (fun _ _ h=>h) (o _) (fun _ _ h=>h) (fun b _ hb=>⟨rfl,fun ab=>hb (db b ab)⟩);have list:∀ {l cF:List AV} {us:List Value},mapO (freeze I df.next n) l=some cF→bz w m (a_ I m) B l us→bz w (fun _=>none) (a_ df ed) B cF us:=fun {l cF us} ar jk=>by
   obtain⟨h1,h2⟩:=mc ar;refine⟨by rw[jk.1,h1],fun i hi cS=>?_⟩;exact aA _ _ _ (h2 i (by omega) hi) (jk.2 i (by omega) cS)
  rw[freeze_succ] at h;split at h
  ·-- a slice over qg b8D own part
   rename_i id off len ad cap;split at h<;>try (cases h;done)
   rename_i F0;split at h<;>try (cases h;done)
   rename_i xs dj;split at h<;>cases h;rename_i jm xH;have b8E:df.next≤id:=by simpa [gg] using F0
   have sK:∀a∈xs,conf ad a=true:=by
    simp only[readList] at dj;split at dj<;>try (cases dj;done)
    rename_i c hg;cases av with
    |ak hm ar gw hn g3=>
     obtain⟨arr,el,aV,hh,jj,oK,bg,j4⟩:=al.cells hm hg;exact(zt (fun x hx=>j4 x (mw hx)) dj).2.2.2
   have hlen:xs.length=len:=by
    simp only[readList] at dj;split at dj<;>try (cases dj;done)
    rename_i c hg;cases av with
    |ak hm ar gw hn g3=>
     obtain⟨arr,el,aV,hh,jj,oK,bg,j4⟩:=al.cells hm hg;exact(zt (fun x hx=>j4 x (mw hx)) dj).1
   obtain⟨h1,h2⟩:=mc xH;obtain⟨base,c,us,hu,hle,zv,mi,nW,nV⟩:=B3 al av dj sK;cases av with
   | @ak _ _ _ _ _ _ ax sP ev _ _ hm ar gw hn g3=>
    cases hu;simp only at nV;have pj:¬a_ df ed ax∧B≤ax:=by
     refine⟨fun ab=>?_,al.base _ _ hm⟩;rcases he.new _ _ hm with h3|⟨_,h3|⟨i,hi,aE,ba⟩⟩
     ·have:=(k3.fa _ _ h3).2;omega
     ·have:=k3.QO ab;omega
     ·have:=QP ba;omega
    have hmul:∀i,i<xs.length→i*shN ad+shN ad≤xs.length*shN ad:=fun i hi=>by
     have:=qa (shN ad) (show i+1≤xs.length from hi);rw[ju,tT] at this;exact this
    have zu:∀(l:List AV),(∀a∈l,conf ad a=true)→∀i (hi:i<l.length),(l[i]).cells=((l.flatMap AV.cells).drop (i*shN ad)).take (shN ad):=by
     intro l
     induction l with
     |nil=>intro _ i hi;simp at hi
     |cons x l jd=>
      intro ar i hi;have hx:=qn (ar x (by simp));cases i with
      |zero=>simp[eG,hx]
      |succ i=>
       have:=jd (fun a ha=>ar a (by simp[ha])) i (by simpa using hi);rw[DD,this,eG,List.drop_append];have aM:(i+1)*shN ad-x.cells.length=i*shN ad:=by rw[hx,ju,tT];omega
       have e2:x.cells.drop ((i+1)*shN ad)=[]:=wZ (by rw[hx,ju,tT];omega);rw[aM,e2,yi]
    have elem:∀i (hi:i<xs.length) (cS:i<jm.length),bz w (fun _=>none) (a_ df ed) B (jm[i]).cells ((us.drop (i*shN ad)).take (shN ad))∧conf ad (jm[i])=true∧∀x∈(jm[i]).cells,conf none x=true:=fun i hi cS=>by
     have Cz:=sK _ (aS hi);have Ly:∀x∈(xs[i]).cells,conf none x=true:=fun x hx=>nW x (gP.2 ⟨_,aS hi,hx⟩);have CA:bz w m (a_ I m) B (xs[i]).cells ((us.drop (i*shN ad)).take (shN ad)):=by
      rw[zu xs sK i hi];exact(zv.drop _).take _
     obtain⟨a5L,Lz,LA⟩:=R.SA Cz CA Ly;have bY:=aA _ _ _ (h2 i hi cS) Lz;have ug:=Sz (h2 i hi cS) Cz;have:=bY.cells;rw[LA] at this;exact⟨this,ug,bY.FE ug⟩
    have e8:∀i,i<jm.length→∀j,j<shN ad→∃az:i*shN ad+j<us.length,((us.drop (i*shN ad)).take (shN ad))[j]? =some (us[i*shN ad+j]):=fun i hi j az=>by
     have:=hmul i (by omega);refine⟨by omega,?_⟩;rw[qe az,lL,a9 (by omega)]
    rw[←h1];refine .a7 (fun i j=>(us[i*shN ad+j]?).getD undef) (fun _=>⟨pj.1,Lw hn,fun _=>pj.2⟩) (fun i hi=>(elem i (by omega) hi).2.1) (fun i hi j az=>?_) (fun i hi j az=>?_) (by omega) (fun v av=>?_) (fun _=>rfl)
    ·have ff:j<shN ad:=by rw[qn (elem i (by omega) hi).2.1] at az;exact az
     obtain⟨bZ,_⟩:=e8 i hi j ff;have:=nV.2.1 (i*shN ad+j) _ (a9 bZ);rw[h5,← tS] at this;rw[this,a9 bZ];rfl
    ·have ff:j<shN ad:=by rw[qn (elem i (by omega) hi).2.1] at az;exact az
     obtain⟨bZ,iD⟩:=e8 i hi j ff;obtain⟨a5M,CB,LB⟩:=(elem i (by omega) hi).1.get (a9 az);rw[iD] at CB;cases CB;rw[a9 bZ];exact LB
    ·obtain⟨i,hi,rfl⟩:=gm av;exact(elem i (by omega) hi).2.2
  ·split at h<;>cases h;rename_i l cF ar;obtain⟨a3,rfl,kG,nW⟩:=av.ql;refine R.xe (list ar kG) (fun x hx=>?_) |> fun h=>by simpa using h
   obtain⟨i,hi,rfl⟩:=gm hx;have:=mc ar;exact Sz (this.2 i (by omega) hi) (nW _ (aS _))
  ·split at h<;>cases h;rename_i l cF ar;obtain⟨a3,rfl,kG⟩:=av.Kp;have:=R.tX (list ar kG);simpa using this
  ·split at h<;>cases h;rename_i CC;cases av with
   |it h=>exact .it (aA _ _ _ CC h)
  ·cases h
  ·cases h
  ·cases h
  ·cases h
  ·rename_i np qs mR Gf LC a5N SB SC;cases h;cases av with
   |b x=>exact .b x
   |i k n=>exact .i k n
   |s l h=>exact .s l h
   |qk=>exact .qk
   |p h=>exact absurd rfl (LC _)
   |cZ aO h1 hb c4 ah jx hf=>exact .cZ aO (fun ab=>h1 (db _ ab)) hb c4 ah (fun j az=>jN (jx j az)) hf
   |aB=>exact .aB
   |ak=>exact absurd rfl (np _ _ _ _ _)
   |ma=>exact .ma
   |a7 aO h1 aj ah jx ar hf eU=>exact .a7 aO (fun bx=>⟨fun ab=>(h1 bx).1 (db _ ab),(h1 bx).2⟩) aj ah (fun i hi j az=>jN (jx i hi j az)) ar hf eU
   |rb=>exact .rb
   |mp h=>exact absurd rfl (a5N _)
   |oI=>exact absurd rfl (SB _ _ _)
   |tV=>exact absurd rfl (SB _ _ _)
   |iP=>exact .iP
   |it h=>exact absurd rfl (Gf _ _)
   |fz=>exact .fz
   |ag=>exact absurd rfl (qs _)
   |bJ=>exact absurd rfl (mR _)
   |h4 h hn=>exact .h4 h hn
   |gD h=>exact .gD h
   |iQ n h=>exact .iQ n h
   |y h=>exact .y h
   |g1 hu h=>exact .g1 hu (jN h)
   |fo k h=>exact .fo k h
   |gv k h h'=>exact .gv k h h'
   |ix=>exact absurd rfl (SC _ _ _)
end
section
theorem R.a5O{w:World}{m:Nat→Option Nat}{O:Nat→Prop}{B gn:Nat}(c4:gn≤B){v:AV}{u:Value}(h:R w m O B v u):R w m O gn v u:=by
 induction h with
 |b x=>exact .b x
 |i k n=>exact .i k n
 |s l h=>exact .s l h
 |qk=>exact .qk
 |p h=>exact .p h
 |cZ aO db hb a5P ah al hf aA=>exact .cZ aO db hb (fun h=>l_ c4 (a5P h)) ah (fun j az=>aA j az c4) hf
 |aB=>exact .aB
 |ak h ar ah hn g3 c7=>exact .ak h ar ah hn g3 c7
 |ma=>exact .ma
 |a7 aO db aj ah al ar hf eU aA=>exact .a7 aO (fun bx=>⟨(db bx).1,(db bx).2.1,fun h=>l_ c4 ((db bx).2.2 h)⟩) aj ah (fun i h j az=>aA i h j az c4) ar hf eU
 |rb=>exact .rb
 |mp h=>exact .mp h
 |oI hf bY ah sw Kg Kh=>exact .oI hf (fun i h h'=>Kg i h h' c4) ah (fun i h h'=>Kh i h h' c4)
 |tV h=>exact .tV h
 |iP=>exact .iP
 |it _ aA=>exact .it (aA c4)
 |fz=>exact .fz
 |ag aj _ hf aA=>exact .ag aj (fun i h h'=>aA i h h' c4) hf
 |bJ aj _ aA=>exact .bJ aj (fun i h h'=>aA i h h' c4)
 |h4 h hn=>exact .h4 h hn
 |gD h=>exact .gD h
 |iQ n h=>exact .iQ n h
 |y h=>exact .y h
 |g1 hu _ aA=>exact .g1 hu (aA c4)
 |fo k h=>exact .fo k h
 |gv k h h'=>exact .gv k h h'
 |ix hn bx _ aA=>exact .ix hn bx (aA c4)
variable [TokOk]
section
variable {P:Program}{env:Env}{I:af}{w:World}{m:Nat→Option Nat}{B f:Nat}
theorem SD{b3:af}{aW:World}{cc:Nat→Option Nat}(al:Rel P I w m B)(he:Ext I.next I w m b3 aW cc):Rel P I aW m B∧Ext f I w m I aW m:=by
 have ie:∀ax,¬xb I.next I m ax:=fun ax ⟨id,h1,h2,h3⟩=>by have:=QP h3;omega
 have dx:Ext f I w m I aW m:=⟨fun _ _ h=>h,fun _ _ h=>.inl h,o _,he.size,he.fJ,fun b hb _=>he.aF b hb (ie b),fun _ _ _=>rfl,fun _ _ h=>h,he.os,he.tape,he.out,fun _ _ _=>rfl⟩
 refine⟨⟨al.len,fun id ax h=>⟨A_ (al.fa _ _ h).1 he.size,(al.fa _ _ h).2⟩,fun id ax J h hg au=>?_,al.inj,al.base,l_ al.cE he.size⟩,dx⟩;obtain⟨b7,h1,h2⟩:=al.obj id ax J h hg au;exact⟨b7,by rw[he.aF ax (al.fa _ _ h).1 (ie ax)];exact h1,h2.mono dx.mono dx.size dx.fJ (dx.rf al)⟩
def zO(P:Program)(env:Env)(eO:Nat):Prop:=
 ∀g aR r,env.spec g aR=some r→(∃fn c,P.funcs[g]? =some fn∧fn.body=some c∧(fn.name== "runtime.NumGoroutine")=false)∧
  ∀k rd w us,eO≤w.heap.size→Globs env w eO→bz w (fun _=>none) (fun _=>False) w.heap.size aR us.toList→
   CallsIn (fh rd) k P g us w (fun e aW=>∃u,e= .returned u∧R aW (fun _=>none) (fun b=>b<w.heap.size) w.heap.size r u∧w.heap.size≤aW.heap.size∧(∀b,b<w.heap.size→aW.heap[b]? =w.heap[b]?)∧aW.os=w.os∧aW.tape=w.tape∧aW.output=w.output)
def a5Q(P:Program)(env:Env)(eO g:Nat)(aR:List AV)(v:AV)(os:List AO):Prop:=
 (∃fn c,P.funcs[g]? =some fn∧fn.body=some c∧(fn.name== "runtime.NumGoroutine")=false)∧
  ∀k rd w us,eO≤w.heap.size→Globs env w eO→bz w (fun _=>none) (fun _=>False) w.heap.size aR us.toList→
   CallsIn (fh rd) k P g us w (fun e aW=>∃u,e= .returned u∧(∃cc,Fu v=true∧R aW cc (fun _=>False) 0 v u∧
    (∀id ax,cc id=some ax→w.heap.size≤ax∧ax<aW.heap.size∧id<os.length)∧
    (∀id ax c,cc id=some ax→os[id]? =some (.cells c)→∃arr el aV,aW.heap[ax]? =some (.cells arr el aV)∧c.length≤arr.size∧(∀i (h:i<c.length) (h':i<arr.size),R aW cc (fun _=>False) 0 (c[i]) (arr[i]))∧(∀i,i<arr.size→(decide (aV.1≤i)&&decide (i<aV.2))=false)∧∀x∈c,w_ x=true)∧
    (∀id fb ax c aQ,cc id=some ax→cc fb=some ax→os[id]? =some (.cells c)→os[fb]? =some (.cells aQ)→id=fb))∧
    w.heap.size≤aW.heap.size∧(∀b,b<w.heap.size→aW.heap[b]? =w.heap[b]?)∧aW.os=w.os∧aW.tape=w.tape∧aW.output=w.output)
def zP(P:Program)(env:Env):Prop:=
 ((∀g,env.ext g≠0→∀args v,extRow (env.ext g) args=some v→∀w m O B us cs,bz w m O B args (us++cs).toList→∃u,(invoke (.fn (.func g) cs) us).run P w= .ok (.value u) w∧R w m O B v u)∧
  ∀g,env.ext g=8→∀t r es clock w us cs,us++cs= #[.iface t (.map (some r))]→w.heap[r]? =some (.map es clock)→
  ∃an,(invoke (.fn (.func g) cs) us).run P w= .ok (.value (.iface t (.map (some w.heap.size)))) an∧an.heap=w.heap.push (.map es clock)∧an.os=w.os∧an.tape=w.tape∧an.output=w.output)∧
 ∀g aR v os,env.vo g aR=some (v,os)→∀eO,a5Q P env eO g aR v os
theorem SE(N:Nat):∀(os:List AO) (I:af),(sv N os I).next=I.next+os.length
 |[],I=>rfl
 |J::os,I=>by
  show(sv N os (I.push (BJ N J))).next=_;rw[SE N os,fH];show I.next+1+os.length=_;omega
theorem SF(N:Nat):∀(os:List AO) (I:af) (i:Nat),(sv N os I).get i=if i<I.next then I.get i else(os[i-I.next]?).map (BJ N)
 |[],I,i=>by
  show I.get i=_;split
  ·rfl
  ·rename_i h;cases hg:I.get i with
   |none=>simp
   |some J=>exact absurd (af.bW hg) h
 |J::os,I,i=>by
  show(sv N os (I.push (BJ N J))).get i=_;rw[SF N os];have hn:(I.push (BJ N J)).next=I.next+1:=rfl;rw[hn];rw[af.Km trivial];by_cases h1:i<I.next
  ·rw[if_pos (by omega),if_pos h1,if_neg (by omega)]
  ·rw[if_neg h1];by_cases h2:i=I.next
   ·subst h2;rw[if_pos (by omega),if_pos rfl];simp
   ·rw[if_neg (by omega)];have e:i-I.next=(i-(I.next+1))+1:=by omega
    rw[e,z1]
theorem LD{w:World}{m g8:Nat→Option Nat}{O rE:Nat→Prop}{B rF N:Nat}(hm:∀id ax,m id=some ax→g8 (id+N)=some ax){v:AV}{u:Value}(av:w_ v=true)(h:R w m O B v u):R w g8 rE rF (w9 N v) u:=by
 cases h with
 |s l h=>exact .s l h
 |i k n=>exact .i k n
 |b x=>exact .b x
 |aB=>exact .aB
 |ak h ar ah hn g3 c7=>exact .ak (hm _ _ h) ar ah hn g3 c7
 |_=>cases av
theorem SG{N:Nat}{v:AV}(av:w_ v=true):conf none (w9 N v)=true:=by cases v<;>first|rfl|cases av
theorem SH{w:World}{m g8:Nat→Option Nat}{O rE:Nat→Prop}{B rF N:Nat}(hm:∀id ax,m id=some ax→g8 (id+N)=some ax){v:AV}{u:Value}(av:BI v=true)(h:R w m O B v u):R w g8 rE rF (BG N v) u:=by
 by_cases LF:∃l,v= .ag l
 ·obtain⟨l,rfl⟩:=LF;cases h with
  | @ag _ _ _ _ a3 aj al hf=>
   refine .ag (by rw[aJ];exact aj) (fun i h h'=>?_) (fun x hx=>?_)
   ·rw[fQ];have hi:i<l.length:=by rwa[aJ] at h
    exact LD hm (mg av _ (aS hi)) (al i hi h')
   ·obtain⟨y,aw,rfl⟩:=bQ.1 hx;exact SG (mg av _ aw)
 ·have aM:BI v=w_ v:=by cases v<;>first|rfl|exact absurd ⟨_,rfl⟩ LF
  have e2:BG N v=w9 N v:=by cases v<;>first|rfl|exact absurd ⟨_,rfl⟩ LF
  rw[e2];rw[aM] at av;exact LD hm av h
theorem a5R{w:World}{m g8:Nat→Option Nat}{O rE:Nat→Prop}{B rF N:Nat}(hm:∀id ax,m id=some ax→g8 (id+N)=some ax){v:AV}{u:Value}(av:Fu v=true)(h:R w m O B v u):R w g8 rE rF (BH N v) u:=by
 by_cases LG:∃l,v= .bJ l
 ·obtain⟨l,rfl⟩:=LG;cases h with
  | @bJ _ _ _ _ a3 aj al=>
   refine .bJ (by rw[aJ];exact aj) (fun i h h'=>?_);rw[fQ];have hi:i<l.length:=by rwa[aJ] at h
   exact SH hm (mg av _ (aS hi)) (al i hi h')
 ·have aM:Fu v=BI v:=by cases v<;>first|rfl|exact absurd ⟨_,rfl⟩ LG
  have e2:BH N v=BG N v:=by cases v<;>first|rfl|exact absurd ⟨_,rfl⟩ LG
  rw[e2];rw[aM] at av;exact SH hm av h
theorem a5S(al:Rel P I w m B){aW:World}{cc:Nat→Option Nat}{os:List AO}{v:AV}{u:Value}(bV:w.heap.size≤aW.heap.size)(pt:∀b,b<w.heap.size→aW.heap[b]? =w.heap[b]?)(ib:aW.os=w.os)(mN:aW.tape=w.tape)(jw:aW.output=w.output)
  (av:Fu v=true) (bD:R aW cc (fun _=>False) 0 v u) (au:∀id ax,cc id=some ax→w.heap.size≤ax∧ax<aW.heap.size∧id<os.length)
  (ab:∀id ax c,cc id=some ax→os[id]? =some (.cells c)→∃arr el aV,aW.heap[ax]? =some (.cells arr el aV)∧c.length≤arr.size∧(∀i (h:i<c.length) (h':i<arr.size),R aW cc (fun _=>False) 0 (c[i]) (arr[i]))∧(∀i,i<arr.size→(decide (aV.1≤i)&&decide (i<aV.2))=false)∧∀x∈c,w_ x=true)
  (hi:∀id fb ax c aQ,cc id=some ax→cc fb=some ax→os[id]? =some (.cells c)→os[fb]? =some (.cells aQ)→id=fb):
  ∃g8,R aW g8 (a_ (sv I.next os I) g8) B (BH I.next v) u∧Rel P (sv I.next os I) aW g8 B∧Ext f I w m (sv I.next os I) aW g8:=by
 have vN:∀id ax,cc id=some ax→(fun id=>if id<I.next then m id else cc (id-I.next)) (id+I.next)=some ax:=fun id ax h=>by
  show(if id+I.next<I.next then _ else _)=_;rw[if_neg (by omega),Nat.add_sub_cancel];exact h
 have gT:∀b n,dU w b=some n→dU aW b=some n:=fun b n hb=>by
  have:=Lw hb;unfold dU at hb ⊢;rw[pt b this];exact hb
 have er:=SF I.next os I;have mm:=SE I.next os I;generalize b8F:sv I.next os I=dD at er mm ⊢;have dx:Ext f I w m dD aW (fun id=>if id<I.next then m id else cc (id-I.next)):=by
  refine⟨fun id ax h=>?_,fun id ax h=>?_,by omega,bV,gT,fun b hb _=>pt b hb,fun id _ h=>by rw[er,if_pos h],fun id h ar=>?_,ib,mN,jw,fun id h _=>by rw[er,if_pos h]⟩
  ·show(if _ then _ else _)=_;rw[if_pos (al.fa _ _ h).2];exact h
  ·replace h:(if id<I.next then m id else cc (id-I.next))=some ax:=h;split at h
   ·exact .inl h
   ·rename_i hn;exact .inr ⟨by omega,.inl (au _ _ h).1⟩
  ·obtain⟨J,h1,h2⟩:=ar;rw[er,if_pos h] at h1;exact⟨J,h1,h2⟩
 have zw:∀id,I.next≤id→live dD id→∃c,os[id-I.next]? =some (.cells c)∧dD.get id=some (.cells (c.map (w9 I.next))):=fun id hn ⟨J,h1,h2⟩=>by
  have FK:=h1;rw[er,if_neg (by omega)] at FK;obtain⟨b7,h3,rfl⟩:=et.1 FK;cases b7 with
  |cells c=>exact⟨c,h3,h1⟩
  |_=>cases h2
 refine⟨_,a5R vN av bD,⟨trivial,fun id ax h=>?_,fun id ax J h hg SI=>?_,fun id fb ax h h' ar mO=>?_,fun id ax h=>?_,l_ al.cE bV⟩,dx⟩
 ·replace h:(if id<I.next then m id else cc (id-I.next))=some ax:=h;split at h
  ·have:=al.fa _ _ h;exact⟨by omega,by omega⟩
  ·have:=au _ _ h;exact⟨by omega,by omega⟩
 ·replace h:(if id<I.next then m id else cc (id-I.next))=some ax:=h;split at h
  ·rename_i hn;rw[er,if_pos hn] at hg;obtain⟨b7,h1,h2⟩:=al.obj id ax J h hg SI;exact⟨b7,by rw[pt ax (al.fa _ _ h).1];exact h1,h2.mono dx.mono dx.size dx.fJ (dx.rf al)⟩
  ·rename_i hn;obtain⟨c,h1,h2⟩:=zw id (by omega) ⟨J,hg,SI⟩;rw[hg] at h2;cases h2;obtain⟨arr,el,aV,iS,iT,k2,py,qD⟩:=ab _ _ _ h h1;refine⟨_,iS,.cells (by rw[aJ];exact iT) (fun i a b=>?_) py (fun x hx=>?_)⟩
   ·rw[fQ];have hi:i<c.length:=by rwa[aJ] at a
    exact LD vN (qD _ (aS hi)) (k2 i hi b)
   ·obtain⟨y,aw,rfl⟩:=bQ.1 hx;exact SG (qD _ aw)
 ·replace h:(if id<I.next then m id else cc (id-I.next))=some ax:=h;replace h':(if fb<I.next then m fb else cc (fb-I.next))=some ax:=h';split at h
  ·rename_i h1;split at h'
   ·rename_i h2;refine al.inj id fb ax h h' ?_ ?_
    ·obtain⟨J,a,b⟩:=ar;rw[er,if_pos h1] at a;exact⟨J,a,b⟩
    ·obtain⟨J,a,b⟩:=mO;rw[er,if_pos h2] at a;exact⟨J,a,b⟩
   ·have:=al.fa _ _ h;have:=au _ _ h';omega
  ·rename_i h1;split at h'
   ·have:=al.fa _ _ h';have:=au _ _ h;omega
   ·rename_i h2;obtain⟨c,a,_⟩:=zw id (by omega) ar;obtain⟨aQ,cd,_⟩:=zw fb (by omega) mO;have:=hi _ _ _ _ _ h h' a cd;omega
 ·replace h:(if id<I.next then m id else cc (id-I.next))=some ax:=h;split at h
  ·exact al.base _ _ h
  ·have:=au _ _ h;have:=al.cE;omega
theorem SJ(I:af)(v:AV):bh I 0 v=none:=rfl
theorem snapshot_succ(I:af)(n:Nat)(v:AV):bh I (n+1) v=match v with
  | .ak id off len ad cap=>
   match readList I (.ak id off len ad cap) with
   |none=>none
   |some xs=>match mapO (bh I n) xs with|none=>none|some xs=>some (.a7 true ad xs)
  | .aB=>some .aB
  | .a7 _ ad xs=>match mapO (bh I n) xs with|none=>none|some xs=>some (.a7 true ad xs)
  | .ag l=>match mapO (bh I n) l with|none=>none|some l=>some (.ag l)
  | .bJ l=>match mapO (bh I n) l with|none=>none|some l=>some (.bJ l)
  | .it t v=>match bh I n v with|none=>none|some v=>some (.it t v)
  | .p (some _)=>none
  | .m (some _)=>none
  | .cZ _ _=>none
  | .f _ _ _=>none
  | .g1 _ i=>some (.g1 true i)
  | .ix _ _ _=>none
  |v=>some v:=rfl
theorem SK{ad:Option Nat}:∀ {n:Nat} {v a2:AV},bh I n v=some a2→conf ad v=true→conf ad a2=true
 |0,v,a2,h,_=>by rw[SJ] at h;cases h
 |n+1,v,a2,h,ah=>by
  rw[snapshot_succ] at h;split at h
  ·split at h<;>try (cases h;done)
   split at h<;>cases h;cases ad<;>simp[conf] at ah ⊢
  ·cases h;exact ah
  ·split at h<;>cases h;cases ad<;>simp[conf] at ah ⊢
  ·split at h<;>cases h;rename_i l cF ar;have:=(mc ar).1;cases ad with
   |none=>simp[conf] at ah
   |some k=>simp[conf] at ah ⊢;omega
  ·split at h<;>cases h;cases ad<;>simp[conf] at ah
  ·split at h<;>cases h;cases ad<;>simp[conf] at ah ⊢
  ·cases h
  ·cases h
  ·cases h
  ·cases h
  ·cases h;cases ad<;>simp[conf] at ah ⊢
  ·cases h
  ·cases h;exact ah
theorem a5T{ad:Option Nat}:∀(l:List AV),(∀a∈l,conf ad a=true)→∀i (hi:i<l.length),(l[i]).cells=((l.flatMap AV.cells).drop (i*shN ad)).take (shN ad):=by
 intro l
 induction l with
 |nil=>intro _ i hi;simp at hi
 |cons x l jd=>
  intro ar i hi;have hx:=qn (ar x (by simp));cases i with
  |zero=>simp[eG,hx]
  |succ i=>
   have:=jd (fun a ha=>ar a (by simp[ha])) i (by simpa using hi);rw[DD,this,eG,List.drop_append];have aM:(i+1)*shN ad-x.cells.length=i*shN ad:=by rw[hx,ju,tT];omega
   have e2:x.cells.drop ((i+1)*shN ad)=[]:=wZ (by rw[hx,ju,tT];omega);rw[aM,e2,yi]
theorem a5U{O:Nat→Prop}{old:Bool}{ad:Option Nat}{ax off c:Nat}{xs:List AV}{us:List Value}(db:xs≠[]→¬O ax∧ax<w.heap.size∧(old=false→B≤ax))(mi:us.length=xs.length*shN ad)
  (nV:∀j u,us[j]? =some u→w.cell? ⟨ax,off+j,none⟩=some u)
  (elem:∀i (hi:i<xs.length),bz w (fun _=>none) O B (xs[i]).cells ((us.drop (i*shN ad)).take (shN ad))∧conf ad (xs[i])=true∧∀x∈(xs[i]).cells,conf none x=true) (hle:xs.length≤c):
  R w m O B (.a7 old ad xs) (.slice (some ⟨ax,off,none⟩) xs.length c):=by
 have hmul:∀i,i<xs.length→i*shN ad+shN ad≤xs.length*shN ad:=fun i hi=>by
  have:=qa (shN ad) (show i+1≤xs.length from hi);rw[ju,tT] at this;exact this
 have e8:∀i,i<xs.length→∀j,j<shN ad→∃az:i*shN ad+j<us.length,((us.drop (i*shN ad)).take (shN ad))[j]? =some (us[i*shN ad+j]):=fun i hi j az=>by
  have:=hmul i hi;refine⟨by omega,?_⟩;rw[qe az,lL,a9 (by omega)]
 refine .a7 (fun i j=>(us[i*shN ad+j]?).getD undef) db (fun i hi=>(elem i hi).2.1) (fun i hi j az=>?_) (fun i hi j az=>?_) hle (fun v av=>?_) (fun _=>rfl)
 ·have ff:j<shN ad:=by rw[qn (elem i hi).2.1] at az;exact az
  obtain⟨bZ,_⟩:=e8 i hi j ff;have:=nV (i*shN ad+j) _ (a9 bZ);rw[←tS] at this;rw[this,a9 bZ];rfl
 ·have ff:j<shN ad:=by rw[qn (elem i hi).2.1] at az;exact az
  obtain⟨bZ,iD⟩:=e8 i hi j ff;obtain⟨a5M,CB,LB⟩:=(elem i hi).1.get (a9 az);rw[iD] at CB;cases CB;rw[a9 bZ];exact LB
 ·obtain⟨i,hi,rfl⟩:=gm av;exact(elem i hi).2.2
theorem LH(al:Rel P I w m B)(gn:Nat):∀(n:Nat) (v a2:AV) (u:Value),bh I n v=some a2→R w m (a_ I m) B v u→R w (fun _=>none) (fun _=>False) gn a2 u
 |0,v,a2,u,h,_=>by rw[SJ] at h;cases h
 |n+1,v,a2,u,h,av=>by
  have aA:=fun v a2 u h av=>LH al gn n v a2 u h av;have list:∀ {l cF:List AV} {us:List Value},mapO (bh I n) l=some cF→bz w m (a_ I m) B l us→bz w (fun _=>none) (fun _=>False) gn cF us:=fun {l cF us} ar jk=>by
   obtain⟨h1,h2⟩:=mc ar;refine⟨by rw[jk.1,h1],fun i hi cS=>?_⟩;exact aA _ _ _ (h2 i (by omega) hi) (jk.2 i (by omega) cS)
  have slice:∀ {x:AV} {ad:Option Nat} {xs jm:List AV},readList I x=some xs→mapO (bh I n) xs=some jm→R w m (a_ I m) B x u→(∀a∈xs,conf ad a=true)→R w (fun _=>none) (fun _=>False) gn (.a7 true ad jm) u:=fun {x ad xs jm} dj xH hx sK=>by
   obtain⟨h1,h2⟩:=mc xH;obtain⟨base,c,us,rfl,hle,zv,mi,nW,nV⟩:=B3 al hx dj sK;cases base with
   |none=>
    obtain⟨rfl,rfl⟩:=nV;have:jm=[]:=mI (by simpa using h1);subst this;exact .ma
   |some a=>
    obtain⟨ax,off,sp⟩:=a;obtain⟨eU,nV,bZ⟩:=nV;by_cases n0:xs=[]
    ·subst n0;have:jm=[]:=mI (by simpa using h1);subst this;exact .a7 (xs:=[]) (fun _ _=>undef) (fun h=>absurd rfl h) (fun i h=>by simp at h) (fun i h=>by simp at h) (fun i h=>by simp at h) (hv _) (fun v av=>by simp at av) (fun h=>absurd rfl h)
    obtain rfl:=eU n0;rw[←h1];refine a5U (us:=us) (fun bx=>⟨fun h=>h,?_,fun h=>by cases h⟩) (by rw[h1];exact mi) (fun j u hu=>by have:=nV j u hu;rw[h5] at this;exact this) (fun i hi=>?_) (by omega)
    ·exact bZ (fun he=>bx (mI (by rw[h1,he];rfl)))
    ·have xI:i<xs.length:=by omega
     have Cz:=sK _ (aS xI);have Ly:∀x∈(xs[i]).cells,conf none x=true:=fun x hx=>nW x (gP.2 ⟨_,aS xI,hx⟩);have CA:bz w m (a_ I m) B (xs[i]).cells ((us.drop (i*shN ad)).take (shN ad)):=by
      rw[a5T xs sK i xI];exact(zv.drop _).take _
     obtain⟨a5L,Lz,LA⟩:=R.SA Cz CA Ly;have bY:=aA _ _ _ (h2 i xI hi) Lz;have ug:=SK (h2 i xI hi) Cz;have:=bY.cells;rw[LA] at this;exact⟨this,ug,bY.FE ug⟩
  rw[snapshot_succ] at h;split at h
  ·rename_i id off len ad cap;split at h<;>try (cases h;done)
   rename_i xs dj;split at h<;>cases h;rename_i jm xH;refine slice dj xH av ?_;have b8G:=dj;simp only[readList] at dj;split at dj<;>try (cases dj;done)
   rename_i c hg;cases av with
   |ak hm ar gw hn g3=>
    obtain⟨arr,el,aV,hh,jj,oK,bg,j4⟩:=al.cells hm hg;exact(zt (fun x hx=>j4 x (mw hx)) dj).2.2.2
  ·cases h;cases av;exact .aB
  ·rename_i J ad xs;split at h<;>cases h;rename_i jm xH;refine slice (x:=.a7 J ad xs) rfl xH av ?_;intro a ha;cases av with
   |ma=>simp at ha
   |a7 aO db aj ah jx ar hf eU=>
    obtain⟨i,hi,rfl⟩:=gm ha;exact aj i hi
  ·split at h<;>cases h;rename_i l cF ar;obtain⟨a3,rfl,kG,nW⟩:=av.ql;refine R.xe (list ar kG) (fun x hx=>?_) |> fun h=>by simpa using h
   obtain⟨i,hi,rfl⟩:=gm hx;have:=mc ar;exact SK (this.2 i (by omega) hi) (nW _ (aS _))
  ·split at h<;>cases h;rename_i l cF ar;obtain⟨a3,rfl,kG⟩:=av.Kp;have:=R.tX (list ar kG);simpa using this
  ·split at h<;>cases h;rename_i CC;cases av with
   |it h=>exact .it (aA _ _ _ CC h)
  ·cases h
  ·cases h
  ·cases h
  ·cases h
  ·cases h;cases av with
   |g1 hu h=>exact .g1 hu (TokOk.snap h)
  ·cases h
  ·rename_i cG n2 eh gU h7 sQ vO n6 nu SL a5V a5W;cases h;cases av with
   |b x=>exact .b x
   |i k n=>exact .i k n
   |s l h=>exact .s l h
   |qk=>exact .qk
   |rb=>exact .rb
   |iP=>exact .iP
   |fz=>exact .fz
   |aB=>exact .aB
   |p h=>exact absurd rfl (vO _)
   |mp h=>exact absurd rfl (n6 _)
   |cZ=>exact absurd rfl (nu _ _)
   |oI=>exact absurd rfl (SL _ _ _)
   |tV=>exact absurd rfl (SL _ _ _)
   |ak=>exact absurd rfl (cG _ _ _ _ _)
   |ma=>exact absurd rfl (eh _ _ _)
   |a7=>exact absurd rfl (eh _ _ _)
   |it h=>exact absurd rfl (sQ _ _)
   |ag=>exact absurd rfl (gU _)
   |bJ=>exact absurd rfl (h7 _)
   |iQ n h=>exact .iQ n h
   |y h=>exact .y h
   |g1 hu h=>exact absurd rfl (a5V _ _)
   |fo k h=>exact .fo k h
   |gv k h h'=>exact .gv k h h'
   |ix=>exact absurd rfl (a5W _ _ _)
   |h4 h hn=>exact .h4 h hn
   |gD h=>exact .gD h
end
end
end
section
variable [Tok][TokOk]
open Go.RowKit
theorem Gg{α:Type}{g:α→α→Bool}(hg:∀x y,g x y=true→x=y):∀(l r:List α),gb g l r=true→l=r
 |[],[],_=>rfl
 |[],_::_,h=>by cases h
 |_::_,[],h=>by cases h
 |x::l,y::r,h=>by
  have h:cond (g x y) (gb g l r) false=true:=h;cases LI:g x y with
  |false=>rw[LI] at h;cases h
  |true=>
   rw[LI,cond_true] at h;rw[hg x y LI,Gg hg l r h]
theorem AV.zQ:∀(n:Nat) (x y:AV),AV.eqb n x y=true→x=y
 |0,_,_,h=>by cases h
 |n+1,x,z,h=>by
  have aA:=AV.zQ n;have jd:=Gg aA;cases x
  case p a=>
   cases a with
   |none=>
    cases z
    case p b=>
     cases b with
     |none=>rfl
     |some b=>exfalso;revert h;show ¬(false=true);simp
    all_goals (exfalso;revert h;show ¬(false=true);simp)
   |some a=>
    cases z
    case p b=>
     cases b with
     |none=>exfalso;revert h;show ¬(false=true);simp
     |some b=>
      have h:(Nat.beq a.1 b.1&&Nat.beq a.2 b.2)=true:=h;simp only[cx,m3] at h;rw[Prod.ext h.1 h.2]
    all_goals (exfalso;revert h;show ¬(false=true);simp)
  case m a=>
   cases a with
   |none=>
    cases z
    case m b=>
     cases b with
     |none=>rfl
     |some b=>exfalso;revert h;show ¬(false=true);simp
    all_goals (exfalso;revert h;show ¬(false=true);simp)
   |some a=>
    cases z
    case m b=>
     cases b with
     |none=>exfalso;revert h;show ¬(false=true);simp
     |some b=>
      have h:Nat.beq a b=true:=h;rw[fm h]
    all_goals (exfalso;revert h;show ¬(false=true);simp)
  all_goals (cases z<;>first
   |rfl
   |(exfalso;revert h;show ¬(false=true);simp;done)
   |skip)
  case b.b a b=>have h:(a==b)=true:=h;simpa using h
  case i.i k a l b=>
   have h:(decide (k=l)&&decide (a=b))=true:=h;simp at h;rw[h.1,h.2]
  case s.s a b=>have h:eqL a b=true:=h;rw[(pk _ _).1 h]
  case cZ.cZ q9 a c5 b=>
   have h:((q9==c5)&&AV.eqb n a b)=true:=h;simp only[cx,beq_iff_eq] at h;rw[h.1,aA _ _ h.2]
  case ak.ak aP a0 bF bU c6 cC c0 ej j1 iz=>
   have h:(Nat.beq aP cC&&Nat.beq a0 c0&&Nat.beq bF ej&&decide (bU=j1)&&decide (c6=iz))=true:=h;simp only[cx,m3,decide_eq_true_eq] at h;obtain⟨⟨⟨⟨rfl,rfl⟩,rfl⟩,rfl⟩,rfl⟩:=h;rfl
  case a7.a7 q9 dO a c5 n7 b=>
   have h:((q9==c5)&&decide (dO=n7)&&gb (AV.eqb n) a b)=true:=h;simp only[cx,beq_iff_eq,decide_eq_true_eq] at h;rw[h.1.1,h.1.2,jd _ _ h.2]
  case f.f bu aP a0 aU cC c0=>
   have h:(decide (bu=aU)&&(gb (AV.eqb n) aP cC&&gb (AV.eqb n) a0 c0))=true:=h;simp only[cx,decide_eq_true_eq] at h;rw[h.1,jd _ _ h.2.1,jd _ _ h.2.2]
  case it.it t a u b=>
   have h:(Nat.beq t u&&AV.eqb n a b)=true:=h;simp only[cx,m3] at h;rw[h.1,aA _ _ h.2]
  case ag.ag a b=>have h:gb (AV.eqb n) a b=true:=h;rw[jd _ _ h]
  case bJ.bJ a b=>have h:gb (AV.eqb n) a b=true:=h;rw[jd _ _ h]
  case h4.h4 k a b l c d=>
   have h:(decide (k=l)&&(Nat.beq a c&&Nat.beq b d))=true:=h;simp only[cx,m3,decide_eq_true_eq] at h;rw[h.1,h.2.1,h.2.2]
  case iQ.iQ a b=>have h:(a==b)=true:=h;rw[eq_of_beq h]
  case fo.fo a b=>have h:Nat.beq a b=true:=h;rw[fm h]
  case gv.gv a b c d=>
   have h:(Nat.beq a c&&Nat.beq b d)=true:=h;simp only[cx,m3] at h;rw[h.1,h.2]
  case y.y a b=>
   have h:Nat.beq a b=true:=h;rw[fm h]
  case g1.g1 J a p b=>
   have h:((J==p)&&Nat.beq a b)=true:=h;simp only[cx,beq_iff_eq,m3] at h;rw[h.1,h.2]
  case gD.gD a b=>have h:gb eqL a b=true:=h;rw[Gg (fun x y h=>(pk x y).1 h) _ _ h]
theorem SM{n base:Nat}{l:List (dM×af)}{v:AV}(h:joinF n base l=some v):∀ret aq,(ret,aq)∈l→∃v0,ret= .ok v0∧freeze aq base n v0=some v:=by
 unfold joinF at h;split at h
 ·cases h
 rename_i x t;split at h
 ·cases h
 rename_i v0 df;split at h
 ·cases h
 rename_i v1 jy;cases hall:dw (w8 n base v1) t with
 |false=>rw[hall] at h;cases h
 |true=>
  rw[hall,cond_true] at h;cases h;intro ret aq cP;rcases cH.1 cP with he|cP
  ·cases he;exact⟨_,rfl,jy⟩
  ·have:=mg hall _ cP;cases ret with
   |err w=>cases this
   |ok w=>
    simp only[w8] at this;split at this
    ·rename_i aW lU;exact⟨w,rfl,by rw[lU,AV.zQ _ _ _ this]⟩
    ·cases this
section
variable {P:Program}{env:Env}{B:Nat}
theorem SN(iX:ur P env)(eU:zO P env B){run:jv}(b8:qB P env B run){f g:Nat}{args:List AV}{I:af}{kp:List (dM×af)}(h:callF env run f g args I=some kp)(zR:env.ext g=0)(k:Nat)(r:Option Nat)
  {w:World} {m:Nat→Option Nat} (al:Rel P I w m B) (gF:Globs env w B) {us:Array Value} (ha:bz w m (a_ I m) B args us.toList):
  (∃fn c,P.funcs[g]? =some fn∧fn.body=some c∧(fn.name== "runtime.NumGoroutine")=false)∧
  CallsIn (fh r) k P g us w (fun e an=>∃ret aq,(ret,aq)∈kp∧∃aH,rz an aH (a_ aq aH) B ret e∧Rel P aq an aH B∧Ext f I w m aq an aH):=by
 unfold callF at h;rw[zR] at h;simp only at h;cases hp:env.pure g with
 |false=>
  rw[hp,cond_false] at h;exact Lr iX b8 (Lt iX f) h k r al gF ha
 |true=>
  rw[hp,cond_true] at h;split at h
  ·-- known
   rename_i v av;cases h;split at av<;>try (cases av;done)
   rename_i aR CD;obtain⟨hb,ah⟩:=eU g aR v av;refine⟨hb,?_⟩;have LJ:bz w (fun _=>none) (fun _=>False) w.heap.size aR us.toList:=by
    obtain⟨h1,h2⟩:=mc CD;refine⟨by rw[ha.1,h1],fun i hi cS=>?_⟩;exact LH al _ env.aV _ _ _ (h2 i (by omega) hi) (ha.2 i (by omega) cS)
   refine wG (ah k r w us al.cE gF LJ) (fun e aW eM=>?_);obtain⟨u,rfl,bD,bV,pt,ib,mN,jw⟩:=eM;have gT:∀b n,dU w b=some n→dU aW b=some n:=fun b n hb=>by
    have:=Lw hb;unfold dU at hb ⊢;rw[pt b this];exact hb
   have he:Ext I.next I w m I aW m:=⟨fun _ _ h=>h,fun _ _ h=>.inl h,o _,bV,gT,fun b hb _=>pt b hb,fun _ _ _=>rfl,fun _ _ h=>h,ib,mN,jw,fun _ _ _=>rfl⟩
   obtain⟨h1,h2⟩:=SD (f:=f) al he;refine⟨_,_,d_.2 rfl,m,?_,h1,h2⟩;have a5X:R aW (fun _=>none) (a_ I m) w.heap.size v u:=bD.mono (fun _ _ h=>h) (o _) (fun _ _ h=>h) (fun b _ hb=>⟨rfl,fun ab=>hb (al.QO ab)⟩);exact(a5X.a5O al.cE).up
  ·-- run,and qg store dropped
   split at h<;>try (cases h;done)
   rename_i l a5Y;split at h<;>cases h;rename_i a2 hfz;obtain⟨hb,ah⟩:=Lr iX b8 (Lt iX I.next) a5Y k r al gF ha;refine⟨hb,?_⟩;refine wG ah (fun e aW eM=>?_);obtain⟨ret,b3,cP,cc,lW,lo,ho⟩:=eM;obtain⟨v,rfl,a5Z⟩:=SM hfz _ _ cP;obtain⟨h1,h2⟩:=SD (f:=f) al ho;refine⟨_,_,d_.2 rfl,m,?_,h1,h2⟩;cases e with
   |returned u=>exact(Lx al lo ho env.aV v a2 u a5Z lW).up
   |panicked n3=>exact lW.elim
   |outgrown=>exact lW.elim
theorem a6a(iX:ur P env)(eU:zO P env B)(hex:zP P env){run:jv}(b8:qB P env B run){f g:Nat}{args:List AV}{I:af}{kp:List (dM×af)}(h:callF env run f g args I=some kp)(k:Nat)(r:Option Nat)
  {w:World} {m:Nat→Option Nat} (al:Rel P I w m B) (gF:Globs env w B) {us cs:Array Value} (ha:bz w m (a_ I m) B args (us++cs).toList):
  match(invoke (.fn (.func g) cs) us).run P w with
  | .ok (.enter dq zM) an=>CallsIn (fh r) k P dq zM an (fun e an=>∃ret aq,(ret,aq)∈kp∧∃aH,rz an aH (a_ aq aH) B ret e∧Rel P aq an aH B∧Ext f I w m aq an aH)
  | .ok (.round l dq tmps as b) an=>RoundIn (fh r) k P l dq tmps as b an (fun e an=>∃ret aq,(ret,aq)∈kp∧∃aH,rz an aH (a_ aq aH) B ret e∧Rel P aq an aH B∧Ext f I w m aq an aH)
  | .ok (.value v) an=>(fun e an=>∃ret aq,(ret,aq)∈kp∧∃aH,rz an aH (a_ aq aH) B ret e∧Rel P aq an aH B∧Ext f I w m aq an aH) (.returned v) an
  |_=>False:=by
 by_cases zR:env.ext g=0
 ·obtain⟨⟨fn,c,h1,h2,h3⟩,ah⟩:=SN iX eU b8 h zR k r al gF ha;rw[Gc h1 h2 h3 cs us w];exact ah
 ·unfold callF at h;split at h
  ·rename_i h0;exact absurd h0 zR
  rename_i n bx;split at h
  case h_2=>
   split at h
   case h_2=>
    unfold mclE at h;split at h<;>try (cases h;done)
    rename_i t r0 a6b _ _;split at h<;>cases h;rename_i es clock er;have a6c:env.ext g=8:=a6b;have key:∃zH,(us++cs).toList=[zH]∧R w m (a_ I m) B (.it t (.m (some r0))) zH:=by
     obtain⟨ar,hx⟩:=ha;generalize(us++cs).toList=l at ar hx;cases l with
     |nil=>cases ar
     |cons a l=>cases l with
      |nil=>exact⟨a,rfl,hx 0 (by simp) (by simp)⟩
      |cons b l=>simp at ar
    obtain⟨zH,ar,h0⟩:=key;cases h0 with
    |it h1=>
     rename_i kJ;cases h1 with
     |mp hm=>
      rename_i ax;obtain⟨b7,p1,p2⟩:=al.obj _ _ _ hm er rfl;cases p2 with
      |map hlen hq=>
      rename_i dI;have jk:us++cs= #[.iface t (.map (some ax))]:=by apply lV;simpa using ar
      obtain⟨an,bM,b4,dy,e0,ft⟩:=hex.1.2 g a6c t ax dI clock w us cs jk p1;rw[bM];obtain⟨iS,iT⟩:=al.alloc f an (.map es clock) (.map dI clock) rfl b4 dy e0 ft (.map hlen hq);exact⟨_,_,d_.2 rfl,_,.it (.mp (hB _ _ _)),iS,iT⟩
   cases h;rename_i v os av;split at av<;>try (cases av;done)
   rename_i aR CD;obtain⟨⟨fn,c,cC,c0,ej⟩,ah⟩:=hex.2 g aR v os av B;rw[Gc cC c0 ej cs us w];have LJ:bz w (fun _=>none) (fun _=>False) w.heap.size aR (us++cs).toList:=by
    obtain⟨h1,h2⟩:=mc CD;refine⟨by rw[ha.1,h1],fun i hi cS=>?_⟩;exact LH al _ env.aV _ _ _ (h2 i (by omega) hi) (ha.2 i (by omega) cS)
   refine wG (ah k r w (us++cs) al.cE gF LJ) (fun e aW eM=>?_);obtain⟨u,rfl,⟨cc,iS,iT,k2,py,qD⟩,bV,pt,ib,mN,jw⟩:=eM;obtain⟨g8,p1,p2,Gh⟩:=a5S (f:=f) al bV pt ib mN jw iS iT k2 py qD;exact⟨_,_,d_.2 rfl,g8,p1,p2,Gh⟩
  cases h;rename_i v av;obtain⟨u,h1,h2⟩:=hex.1.1 g (fun h0=>bx h0) args v av w m (a_ I m) B us cs ha;rw[h1];exact⟨_,_,d_.2 rfl,m,h2,al,Ext.refl _ _ _ _⟩
end
theorem a6d(args:List AV)(ak:aT AV):layAll [] args ak=ak:=rfl
theorem a6e(p:Nat)(ps:List Nat)(args:List AV)(ak:aT AV):layAll (p::ps) args ak=match args with|[]=>ak|a::args=>layAll ps args (ak.set p a):=rfl
theorem SO{w:World}{m:Nat→Option Nat}{O:Nat→Prop}{B:Nat}:∀(ps:List Nat) (args:List AV) (us:List Value) (ak:aT AV) (tmps:Array Value),jf w m O B ak tmps.toList→bz w m O B args us→ps.length=args.length→
  jf w m O B (layAll ps args ak) ((ps.zip us).foldl (fun(tmps:Array Value) (x:Nat×Value)=>tmps.setIfInBounds x.1 x.2) tmps).toList
 |[],args,us,ak,tmps,aj,ha,ar=>by simpa [a6d] using aj
 |p::ps,[],us,ak,tmps,aj,ha,ar=>by simp at ar
 |p::ps,a::args,us,ak,tmps,aj,ha,ar=>by
  cases us with
  |nil=>have:=ha.1;simp at this
  |cons u us=>
   rw[a6e];simp only[Ql,nh];refine SO ps args us _ _ ?_ (by simpa using ha.drop 1) (by simpa using ar);exact aj.put p (ha.2 0 (by simp) (by simp))
section
variable {P:Program}{env:Env}{B:Nat}
theorem Rel.CE{I:af}{w:World}{m:Nat→Option Nat}(al:Rel P I w m B){id ax:Nat}{st:LoopState}{kE:Option bB}{ak:aT AV}{ps:List Nat}{as b:bB}{d:Nat}(hm:m id=some ax)(hg:I.get id=some (.loop st kE ak ps as b d)):
  ∃nT fn tmps hz gL D,w.heap[ax]? =some (.loop {state:=st,pending:=nT,fn,tmps,params:=ps.toArray,assign:=hz,body:=gL,defers:=D})∧Fx P kE nT∧jf w m (a_ I m) B ak tmps.toList∧ccode P hz=some as∧ccode P gL=some b∧m d=some D:=by
 obtain⟨b7,h1,h2⟩:=al.obj _ _ _ hm hg rfl;cases h2 with
 |loop lR aj ha hb au=>exact⟨_,_,_,_,_,_,h1,lR,aj,ha,hb,au⟩
theorem Rel.Gi{I:af}{w:World}{m:Nat→Option Nat}(al:Rel P I w m B){f id ax:Nat}(hf:f≤id)(hm:m id=some ax){J:AO}{r:Loop}(ar:live I id)(hb:dU w ax=none)(bZ:ax<w.heap.size)(au:J.isDead=false)(ab:mb P w m (a_ I m) B J (.loop r)):
  Rel P (I.set id J) (w.putObj ax (.loop r)) m B∧Ext f I w m (I.set id J) (w.putObj ax (.loop r)) m:=
 al.fq hf hm ar (w.putObj ax (.loop r)) J (by simp) (fun b bx=>Qn bx) (fun n hn=>by rw[hb] at hn;cases hn) rfl rfl rfl (fun _=>⟨_,World.putObj_heap_same bZ,ab⟩)
theorem a6f{run:jv}(b8:qB P env B run){f l:Nat}{args:List AV}{I:af}{kp:List (dM×af)}(h:Kd run f l args I=some kp)(k:Nat)(r:Option Nat)
  {w:World} {m:Nat→Option Nat} (al:Rel P I w m B) (gF:Globs env w B) {us:Array Value} (ha:bz w m (a_ I m) B args us.toList) {ax:Nat} (hm:m l=some ax):
  ∃dq tmps as b,(invoke (.fn (.yield ax) #[]) us).run P w= .ok (.round ax dq tmps as b) w∧RoundIn (fh r) k P ax dq tmps as b w (fun e an=>∃ret aq,(ret,aq)∈kp∧∃aH,rz an aH (a_ aq aH) B ret e∧Rel P aq an aH B∧Ext f I w m aq an aH):=by
 unfold Kd at h;split at h<;>try (cases h;done)
 rename_i c7;have sF:f≤l:=by simpa [gg] using c7
 split at h<;>try (cases h;done)
 rename_i kE ak ps as b d hg;obtain⟨nT,fn,tmps,hz,gL,D,hh,lR,aj,has,FO,au⟩:=al.CE hm hg;cases LK:Nat.beq ps.length args.length with
 |false=>rw[LK] at h;cases h
 |true=>
  rw[LK,cond_true] at h;have hlen:=fm LK;have jk:us.size=ps.length:=by have:=ha.1;simp at this;omega
  have aw:=run_yield (P:=P) (args:=us) hh (by simpa using jk);refine⟨_,_,_,_,aw,?_⟩;have ko:eW P env ⟨layAll ps args ak,[],false⟩ {tmps:=(ps.toArray.zip us).foldl (fun tmps (t,a)=>tmps.setIfInBounds t a) tmps,defers:=[]} I w m B:=by
   refine⟨⟨al,?_,gF⟩,trivial⟩;have:=SO ps args us.toList ak tmps aj ha hlen;have aM:(ps.toArray.zip us)=(ps.zip us.toList).toArray:=by
    apply lV;simp
   rw[aM];simpa using this
  obtain⟨gd,lo,a6g⟩:=vH h;refine roundIn_of_wpIn trivial ?_;refine(b8 _ _ _ _ _ _ lo k (some ax) hz _ w m has hm ko _ (fun aM fL b3 a6h ep aP aW cc e1 gy hG=>?_)).1;obtain⟨fc,eH,LL⟩:=a6g _ a6h;cases aM<;>try (cases eH;done)
  cases ep<;>try exact e1.elim
  simp only[roundMid] at eH;split at eH<;>try (cases eH;done)
  rename_i b8H vP a6i b8I cC d1 mn;have n8:=hG.mono _ _ hm;obtain⟨a6j,a6k,a6l,a6m,a6n,Gj,rm,a6o,qE,a6p,a6q,lX⟩:=gy.ctx.rel.CE n8 mn;have SP:=zm rm;have rn:dU aW ax=none:=by unfold dU;rw[rm]
  obtain⟨oR,nr⟩:=gy.ctx.rel.Gi (f:=f) sF n8 (r:={state:=.busy,pending:=a6j,fn:=a6k,tmps:=a6l,params:=a6i.toArray,assign:=a6m,body:=a6n,defers:=Gj}) ⟨_,mn,rfl⟩ rn SP rfl (.loop a6o qE a6p a6q lX);refine⟨_,run_beginRound rm rfl,?_⟩;have qz:=gy.ext nr oR;obtain⟨CF,xJ,a6r⟩:=vH eH;refine(b8 _ _ _ _ _ _ xJ k (some ax) gL aP _ cc FO n8 qz _ (fun dn b8J je a6s CG bF vQ xK Gk CH Gl=>?_)).1;obtain⟨b8K,nq,LM⟩:=a6r _ a6s;have zS:=Gl.mono _ _ n8;have SQ:=(hG.trans al nr).trans al Gl;have fin:∀(j:Option bB) (su:Option Code) (b:Bool),Fx P j su→(b=su.isNone)→(∃xL sR sS pD sT ej d3,je.get l=some (.loop xL sR sS pD sT ej d3))→∀ee,endRound je l j=some ee→ee∈kp→
    ∃u an,(Instr.endRound ax su).run P vQ= .ok u an∧∃ret aq,(ret,aq)∈kp∧∃aH,rz an aH (a_ aq aH) B ret (.returned u)∧Rel P aq an aH B∧Ext f I w m aq an aH:=by
   rintro j su b az hb ⟨xL,sR,sS,pD,sT,ej,d3,xM⟩ ee lY iV;obtain⟨b8L,Gm,Gn,Gp,Gq,Gr,vR,Gs,qF,Gt,Gu,Gv⟩:=CH.ctx.rel.CE zS xM;have Gw:=zm vR;have vw:dU vQ ax=none:=by unfold dU;rw[vR]
   unfold endRound at lY;rw[xM] at lY;cases j with
   |none=>
    cases su with
    |some _=>exact az.elim
    |none=>
     simp only[a6] at lY;subst lY;obtain⟨CI,zT⟩:=CH.ctx.rel.Gi (f:=f) sF zS (J:=.loop .ready none sS pD sT ej d3) (r:={state:=.ready,pending:=none,fn:=Gm,tmps:=Gn,params:=pD.toArray,assign:=Gp,body:=Gq,defers:=Gr}) ⟨_,xM,rfl⟩ vw Gw rfl (.loop trivial qF Gt Gu Gv);exact⟨_,_,run_endRound none vR,_,_,iV,xK,.b _,CI,SQ.trans al zT⟩
   |some c=>
    cases su with
    |none=>exact az.elim
    |some aQ=>
     simp only[a6] at lY;subst lY;obtain⟨CI,zT⟩:=CH.ctx.rel.Gi (f:=f) sF zS (J:=.loop .done (some c) sS pD sT ej d3) (r:={state:=.done,pending:=some aQ,fn:=Gm,tmps:=Gn,params:=pD.toArray,assign:=Gp,body:=Gq,defers:=Gr}) ⟨_,xM,rfl⟩ vw Gw rfl (.loop az qF Gt Gu Gv);exact⟨_,_,run_endRound (some aQ) vR,_,_,iV,xK,.b _,CI,SQ.trans al zT⟩
  have got:∀ {j:Option bB} {ee:dM×af},endRound je l j=some ee→∃xL sR sS pD sT ej d3,je.get l=some (.loop xL sR sS pD sT ej d3):=fun hq=>by
   unfold endRound at hq;split at hq
   ·exact⟨_,_,_,_,_,_,_,by assumption⟩
   ·cases hq
  cases dn with
  |panic v=>cases nq
  |normal=>
   cases CG<;>try exact Gk.elim
   simp only[roundEnd,et] at nq;obtain⟨ee,lY,rfl⟩:=nq;exact fin none none true trivial rfl (got lY) ee lY (LL _ (LM _ (k4 _)))
  |ret=>
   cases CG<;>try exact Gk.elim
   simp only[roundEnd,et] at nq;obtain⟨ee,lY,rfl⟩:=nq;exact fin (some .ret) (some .ret) false ⟨rfl,.inl rfl⟩ rfl (got lY) ee lY (LL _ (LM _ (k4 _)))
  |exit id=>
   cases CG<;>try exact Gk.elim
   have oU:=Gk;simp only[ExR] at oU;subst oU;simp only[roundEnd,et] at nq;obtain⟨ee,lY,rfl⟩:=nq;exact fin (some (.exit _)) (some (.exit _)) false ⟨rfl,.inr ⟨_,rfl⟩⟩ rfl (got lY) ee lY (LL _ (LM _ (k4 _)))
theorem SR(iX:ur P env)(eU:zO P env B)(hex:zP P env){run:jv}(b8:qB P env B run)(f:Nat)(r:Option Nat):Cg P env B f r (callV env run f):=by
 intro b_ args I kp h k w m u us al gF hf ha;unfold callV at h;split at h<;>try (cases h;done)
 ·rename_i g first cap
  cases hf with
  |oI a6t bY mj sw=>
   rename_i g4 ea;have h1:bz w m (a_ I m) B first g4.toList:=⟨by simpa using a6t,fun i p q=>by simpa using bY i p (by simpa using q)⟩
   have h2:bz w m (a_ I m) B cap ea.toList:=⟨by simpa using mj,fun i p q=>by simpa using sw i p (by simpa using q)⟩
   refine⟨{target:=.fn (.func g) ea,args:=g4++us.toArray},fun an=>rfl,?_⟩;exact a6a iX eU hex b8 h k r al gF (by simpa using (h1.append ha).append h2)
 ·rename_i l a b;cases hf with
  |tV hm=>
   obtain⟨dq,tmps,as,kK,h1,h2⟩:=a6f b8 h k r al gF (us:=us.toArray) (by simpa using ha) hm;refine⟨{target:=.fn (.yield _) #[],args:=#[]++us.toArray},fun an=>rfl,?_⟩;have aM:(#[]++us.toArray:Array Value)=us.toArray:=by simp
   simp only[aM];rw[h1];exact h2
end
section
variable {P:Program}{env:Env}{B:Nat}
theorem a6u{aI r:Option Nat}{ai:Fr}{a:Act}{I b3:af}{w:World}{m:Nat→Option Nat}{d f:Nat}{ds:List (Nat ⊕ (AV×List AV))}(h:BK aI ai I=some (d,b3,ds))(mT:zJ m aI r)(st:eW P env ai a I w m B)
  {ps:List Nat} {as b:bB} {hz gL:Code} (has:ccode P hz=some as) (hb:ccode P gL=some b) (fn:FuncId):
  ∃l mark aW cc,(Instr.enterLoop fn a.tmps ps.toArray hz gL r).run P w= .ok (l,mark) aW∧cc b3.next=some l∧
   eW P env ⟨ai.bk,ds,ai.fA⟩ {a with defers:=mark++a.defers} (b3.push (.loop .ready none ai.bk ps as b d)) aW cc B∧Ext f I w m (b3.push (.loop .ready none ai.bk ps as b d)) aW cc:=by
 unfold BK at h;cases aI with
 |none=>
  cases r<;>try exact mT.elim
  simp only[a6,uK] at h;obtain⟨rfl,rfl,rfl⟩:=h;have al:=st.ctx.rel;obtain⟨lo,ho⟩:=al.alloc f (w.alloc (.deferred (some []))) .g2 (.deferred (some [])) rfl rfl rfl rfl rfl .g2;have gy:=st.ext ho lo;obtain⟨oR,nr⟩:=lo.alloc f ((w.alloc (.deferred (some []))).alloc (.loop {state:=.ready,pending:=none,fn,tmps:=a.tmps,params:=ps.toArray,assign:=hz,body:=gL,defers:=w.heap.size}))
   (.loop .ready none ai.bk ps as b I.next) _ rfl rfl rfl rfl rfl (.loop trivial gy.ctx.bk has hb (hB _ _ _))
  have qz:=gy.ext nr oR;refine⟨_,_,_,_,run_enterLoop_outer fn a.tmps ps.toArray hz gL,?_,⟨⟨oR,qz.ctx.bk,qz.ctx.globs⟩,⟨⟨_,nr.mono _ _ (hB _ _ _),rfl⟩,qz.defs⟩⟩,ho.trans al nr⟩;have:=hB (bindM m I.next w.heap.size) (I.push .g2).next (w.alloc (.deferred (some []))).heap.size;rw[this];simp
 |some vS=>
  cases r<;>try exact mT.elim
  rename_i ax;have hm:m vS=some ax:=mT;simp only at h;split at h<;>cases h;rename_i hg;have al:=st.ctx.rel;obtain⟨nT,b8M,b8N,b8O,jO,D,hh,_,_,_,_,au⟩:=al.CE hm hg;obtain⟨oR,nr⟩:=al.alloc f (w.alloc (.loop {state:=.ready,pending:=none,fn,tmps:=a.tmps,params:=ps.toArray,assign:=hz,body:=gL,defers:=D}))
   (.loop .ready none ai.bk ps as b d) _ rfl rfl rfl rfl rfl (.loop trivial st.ctx.bk has hb au)
  have qz:=st.ext nr oR;refine⟨w.heap.size,[],_,_,?_,hB _ _ _,⟨⟨oR,qz.ctx.bk,qz.ctx.globs⟩,qz.defs⟩,nr⟩;unfold Instr.enterLoop;simp only[dZ,run_getLoop hh,Result.andThen,gx,run_newObj_alloc]
theorem a6v{c:bB}{nT:Option Code}(h:Fx P (some c) nT):∃aQ,nT=some aQ∧ccode P aQ=some c:=by
 cases nT with
 |none=>exact h.elim
 |some d=>exact⟨d,rfl,h.1⟩
theorem a6w{c:Code}{f:aC}{ps:List Nat}{as b:bB}(h:ccode P c=some (.rangeFunc f ps as b)):∃g lQ hz gL,c= .rangeFunc g lQ hz gL∧opdOf g=some f∧ps=lQ.toList∧ccode P hz=some as∧ccode P gL=some b:=by
 cases c with
 |rangeFunc g lQ hz gL=>
  simp only[ccode] at h;split at h<;>cases h;rename_i h1 h2 h3;exact⟨g,lQ,hz,gL,rfl,h1,rfl,h2,h3⟩
 |region id ops hF=>cases hF<;>(simp only[ccode] at h;split at h<;>cases h)
 |_=>
  simp only[ccode] at h
  first|(cases h;done)|(split at h<;>cases h;done)
theorem a6x(iX:ur P env)(eU:zO P env B){run:jv}(b8:qB P env B run):Sq P env B run:=by
 intro floor aI f ps as b ai I outs h k r c a w m ah mT st Q dc;obtain⟨gM,Gx,hz,gL,rfl,xu,rfl,has,hb⟩:=a6w ah;simp only[step] at h;split at h<;>try (cases h;done)
 rename_i a6y;have SS:floor≤I.next:=by simpa [gg] using a6y
 split at h<;>try (cases h;done)
 rename_i g first cap a6z
 split at h<;>try (cases h;done)
 rename_i d b3 ds zU;split at h<;>try (cases h;done)
 rename_i zR;obtain⟨vS,qy,pB⟩:=vH h;have a6A:=st.ctx.ao xu a6z;refine wpIn_rangeFunc (fun fn _=>?_);obtain⟨l,mark,aW,cc,h1,h2,h3,aE⟩:=a6u (f:=floor) zU mT st (ps:=Gx.toList) has hb fn;have al:=st.ctx.rel;have LN:=a6A.ext aE al;obtain⟨g4,ea,a6B,Lu,Lv⟩:∃g4 ea,a.eval gM= .func (.func g) g4 ea∧bz aW cc (a_ (b3.push (.loop .ready none ai.bk Gx.toList as b d)) cc) B first g4.toList∧bz aW cc (a_ (b3.push (.loop .ready none ai.bk Gx.toList as b d)) cc) B cap ea.toList:=by
  revert LN;generalize a.eval gM=nt;intro LN;cases LN with
  |oI hf1 bY mj sw=>exact⟨_,_,rfl,⟨by simpa using hf1,fun i p q=>by simpa using bY i p (by simpa using q)⟩,⟨by simpa using mj,fun i p q=>by simpa using sw i p (by simpa using q)⟩⟩
 have pA:bz aW cc (a_ (b3.push (.loop .ready none ai.bk Gx.toList as b d)) cc) B (first++AV.f (.yield b3.next) [] []::cap) (g4++ #[Value.func (.yield l) #[] #[]]++ea).toList:=by
  simp only[J0,iw];exact Lu.append (bz.cons (.tV h2) Lv)
 obtain⟨⟨b8P,bO,hf1,hf2,a6C⟩,a6D⟩:=SN iX eU b8 qy zR (k-1) r h3.ctx.rel h3.ctx.globs pA;refine⟨l,mark,aW,{target:=.fn (.func g) ea,args:=g4++ #[Value.func (.yield l) #[] #[]]},aW,g,_,aW,by simpa [fh] using h1,?_,fun _ _=>trivial,Gc hf1 hf2 a6C ea _ aW,fun aj=>by simp[fh] at aj,?_⟩
 ·have cj:a.eval (.const (.func (.yield l) #[] #[]))= .func (.yield l) #[] #[]:=rfl;simp only[resolve,a6B,Deferred.ofValue];simp[cj]
 ·refine wG a6D (fun dn vQ eM=>?_);obtain⟨ret,je,cP,xK,lW,xJ,LO⟩:=eM;obtain⟨fc,eH,e8⟩:=pB _ cP;cases ret with
  |err v=>cases eH
  |ok b8Q=>
  cases dn<;>try exact lW.elim
  have zS:=LO.mono _ _ h2;simp only[rangeK] at eH;split at eH<;>try (cases eH;done)
  rename_i xL sR sS pD sT ej d3 xM;obtain⟨nT,Gm,Gn,Gp,Gq,Gr,vR,Gs,qF,Gt,Gu,Gv⟩:=xJ.CE zS xM;have CH:=h3.ext LO xJ;have Gl:=aE.trans al LO;have np:floor≤b3.next:=by
   unfold BK at zU;split at zU
   ·split at zU<;>cases zU;exact SS
   ·cases zU;exact Nat.le_succ_of_le SS
  have Gw:=zm vR;have vw:dU vQ l=none:=by unfold dU;rw[vR]
  have fin:xL≠ .busy→(match(generalizing:=false) sR with
    |none=>some [(hQ.normal,(⟨ai.bk,ds,ai.fA⟩:Fr),je.set b3.next (.loop .exhausted sR sS pD sT ej d3))]
    |some c=>run floor aI c ⟨ai.bk,ds,ai.fA⟩ (je.set b3.next (.loop .exhausted sR sS pD sT ej d3)))=some fc→
    ∀vL,rangePost (fh r) k P l Q {a with defers:=mark++a.defers} (.returned vL) vQ:=fun Ro hh vL=>by
   obtain⟨CI,zT⟩:=xJ.Gi (f:=floor) np zS (J:=.loop .exhausted sR sS pD sT ej d3) (r:={state:=.exhausted,pending:=nT,fn:=Gm,tmps:=Gn,params:=pD.toArray,assign:=Gp,body:=Gq,defers:=Gr}) ⟨_,xM,rfl⟩ vw Gw rfl (.loop Gs qF Gt Gu Gv);have SU:=CH.ext zT CI;have LP:=Gl.trans al zT;refine⟨nT,_,run_endLoop vR Ro,?_⟩;cases sR with
   |none=>
    cases nT with
    |some _=>exact Gs.elim
    |none=>
     simp only at hh ⊢;cases hh;exact dc _ _ _ (e8 _ (k4 _)) .normal _ _ xK trivial SU LP
   |some c=>
    obtain⟨aQ,rfl,jj⟩:=a6v Gs;simp only at hh ⊢;exact(b8 _ _ _ _ _ _ hh k r aQ _ _ xK jj (mT.mono LP.mono) SU Q (fun e c_ aq Gy x cd an aH bM b4 dy=>dc e c_ aq (e8 _ Gy) x cd an aH bM b4 (LP.trans al dy))).1
  cases xL<;>first|(cases eH;done)|exact fin (by simp) eH _
end
structure CJ(pl:List a1)(cX:Nat→Nat→Bool)(p q:Nat):Prop where
 CK:p+1=q
 last:q+1=pl.length
 ops:∃bA eI s1 aP ep s2 a0 hH,pl[p]? =some bA∧pl[q]? =some eI∧bA.op= .store s1 aP ep∧eI.op= .store s2 a0 hH∧bA.dst=none∧eI.dst=none∧bA.guard=none∧eI.guard=none∧eI.lg≠[]
 rest:∀(r:Nat) (aR:a1),r<p→pl[r]? =some aR→cX r q=true∨(aR.op.fW=false∧aR.op.lh=false∧aR.op.looks=false)
structure SV(P:Program)(ops:Array Oper)(pl:List a1)(a8 c1:Nat→Nat)(cX:Nat→Nat→Bool):Prop where
 len:pl.length=ops.size
 pi:∀p,p<ops.size→a8 p<ops.size∧c1 (a8 p)=p
 CL:∀i,i<ops.size→c1 i<ops.size∧a8 (c1 i)=i
 code:∀p aN,pl[p]? =some aN→∃J lq,ops[a8 p]? =some J∧coper P ops J=some lq∧aN.op=lq.op∧aN.dst=lq.dst∧aN.guard=lq.guard
 back:∀p,p<ops.size→∀J,ops[a8 p]? =some J→∀e∈J.after,Region.binds .any e=true→e.on<ops.size∧c1 e.on<p
 SW:∀p,p<ops.size→∀q,cX q p=true→∃J,ops[a8 p]? =some J∧∃e∈J.after,Region.binds .any e=true∧(q=c1 e.on∨cX q (c1 e.on)=true)
 uw:∀(p q:Nat) (aN:a1),p<q→q<ops.size→pl[p]? =some aN→aN.op.fW=true→cX p q=true∨CJ pl cX p q
 CM:∀(p q:Nat) (aN dP:a1) (d:Nat),p<q→pl[p]? =some aN→pl[q]? =some dP→aN.dst=some d→dP.dst≠some d
 SX:∀(p q:Nat) (aN dP:a1),p<q→pl[p]? =some aN→pl[q]? =some dP→cX p q=true∨(∀d,aN.dst=some d→d∉dP.reads)∧(∀d,dP.dst=some d→d∉aN.reads)
 lg:∀(p:Nat) (aN:a1),pl[p]? =some aN→aN.op.looks=true→∀(q:Nat),p<q→(q=ops.size∨∃dP,pl[q]? =some dP∧dP.op.fW=true)→
  q∈aN.lg∨(∃(e:Nat) (ei:a1),pl[e]? =some ei∧ei.op.fW=true∧p<e∧e<q∧cX p e=true)∨(∀(c:Nat) (ac:a1),pl[c]? =some ac→p<c→c<q→ac.op.fW=false∧ac.op.lh=false)
theorem vT{a b:Nat}:Nat.blt a b=true↔a<b:=by rw[gg]
theorem SY{α:Type}{f:α→α→Bool}:∀ {l:List α},Fv f l=true→∀(i j:Nat) (x y:α),i<j→l[i]? =some x→l[j]? =some y→f x y=true
 |[],_,i,j,x,y,_,hx,_=>by simp at hx
 |z::l,h,i,j,x,y,fw,hx,aw=>by
  simp only[Fv,cx,hP] at h;cases j with
  |zero=>omega
  |succ j=>
   cases i with
   |zero=>
    simp only[J1,a6] at hx;subst hx;exact h.1 y (qb (by simpa using aw))
   |succ i=>exact SY h.2 i j x y (by omega) (by simpa using hx) (by simpa using aw)
theorem SZ{A:List Nat}{q:Nat}:∀ {es:List Nat},(zh A es).testBit q=true→∃d∈es,q=d∨(A.getD d 0).testBit q=true
 |[],h=>by simp[zh] at h
 |d::es,h=>by
  have h:((1 <<< d ||| A.getD d 0) ||| zh A es).testBit q=true:=h;rw[Nat.testBit_or,Nat.testBit_or,mL,mL,Nat.one_shiftLeft,Nat.testBit_two_pow,decide_eq_true_eq] at h;rcases h with(h|h)|h
  ·exact⟨d,by simp,.inl h.symm⟩
  ·exact⟨d,by simp,.inr h⟩
  ·obtain⟨e,he,h2⟩:=SZ (es:=es) h;exact⟨e,by simp[he],h2⟩
theorem S0{α β:Type}{f:α→Option β}{l:List α}{aO:List β}(h:mapOL f l=some aO){i:Nat}{y:β}(aw:aO[i]? =some y):∃x,l[i]? =some x∧f x=some y:=by
 obtain⟨h1,h2⟩:=xd h;obtain⟨hi,rfl⟩:=ki.1 aw;exact⟨l[i]'(by omega),a9 (by omega),h2 i (by omega) hi⟩
theorem LQ{p:a1→Bool}{pl:List a1}{i:Nat}:i∈posOf p pl↔∃aN,pl[i]? =some aN∧p aN=true:=by
 unfold posOf;simp only[bQ,rr,Prod.exists,exists_eq_right];constructor
 ·rintro⟨aN,h1,h2⟩;exact⟨aN,by simpa using w0.1 h1,h2⟩
 ·rintro⟨aN,h1,h2⟩;exact⟨aN,w0.2 (by simpa using h1),h2⟩
theorem LR{α:Type}{l:List α}{i:Nat}{x d:α}(h:l[i]? =some x):l.getD i d=x:=by simp[fU,h]
theorem a6E{P:Program}{ops:Array Oper}{pl:List a1}(h:cdraw P ops=some pl):∃a8 c1 cX,SV P ops pl a8 c1 cX:=by
 unfold cdraw at h;cases ar:mapOL (coper P ops) ops.toList with
 |none=>rw[ar] at h;cases h
 |some l=>
 rw[ar] at h;simp only at h;cases pq:QG l (BL ops.size (((l.zip (ops.toList.map ra)).zipIdx).map fun x=>(x.2,x.1.1.op.fW,x.1.2)) 0) with
 |none=>rw[pq] at h;cases h
 |some LS=>
 rw[pq] at h;simp only at h;generalize hA:List.foldl _ [] (BL _ _ 0)=A at h;generalize b8R:List.map _ (List.range ops.size)=c1 at h;generalize b8S:BL _ _ 0=a8 at h pq;split at h<;>cases h;rename_i jP;generalize CN:BM A ops.size LS=pl at jP;simp only[QF,cx] at jP;obtain⟨sU,S1,jA,a6F,S2⟩:=jP;simp only[QD,cx,m3,hP,gg] at sU;obtain⟨np,qs,xN,hp2⟩:=sU;have Gz:∀p,p<ops.size→a8[p]? =some (a8.getD p 0):=fun p hp=>by
  rw[a9 (by omega),LR (a9 (by omega))]
 have a6G:∀p,p<ops.size→c1[p]? =some (c1.getD p 0):=fun p hp=>by
  rw[a9 (by omega),LR (a9 (by omega))]
 have S3:∀i J,ops[i]? =some J→(ops.toList.map ra).getD i []=ra J:=fun i J ab=>by
  refine LR ?_;rw[kV,lM,ab];rfl
 have a6H:∀(J:Oper) e,e∈J.after→Region.binds .any e=true→e.on∈ra J:=fun J e he hb=>by
  unfold ra;exact bQ.2 ⟨e,rr.2 ⟨by simpa using he,hb⟩,rfl⟩
 have sE:LS.length=ops.size:=by have:=(xd pq).1;omega
 have hlen:pl.length=ops.size:=by rw[←CN];simp[BM,sE]
 have iV:∀p aN,pl[p]? =some aN→p<ops.size:=fun p aN hp=>by have:=(ki.1 hp).1;omega
 have cP:∀p aN,pl[p]? =some aN→(aN,p)∈pl.zipIdx:=fun p aN hp=>w0.2 (by simpa using hp);simp only[QE,hP,cx,gg,m3] at jA;have S4:∀p,p<ops.size→(∀d∈zi (ops.toList.map ra) c1 (a8.getD p 0),d<p)∧A.getD p 0=zh A (zi (ops.toList.map ra) c1 (a8.getD p 0)):=fun p hp=>
  jA (a8.getD p 0,p) (w0.2 (by simpa using Gz p hp))
 have LU:∀p q aN dP,p<q→pl[p]? =some aN→pl[q]? =some dP→pairOk A pl (aN,p) (dP,q)=true:=fun p q aN dP iW h1 h2=>
  SY a6F p q _ _ iW (by simp[J2,h1]) (by simp[J2,h2])
 refine⟨fun p=>a8.getD p 0,fun i=>c1.getD i 0,fun q p=>(A.getD p 0).testBit q,⟨hlen,?_,?_,?_,?_,?_,?_,?_,?_,?_⟩⟩
 ·intro p hp;have:=xN (a8.getD p 0,p) (w0.2 (by simpa using Gz p hp));exact this
 ·intro i hi;have:=hp2 (c1.getD i 0,i) (w0.2 (by simpa using a6G i hi));exact this
 ·intro p aN hp;have ih:=iV p aN hp;have er:∃c8,LS[p]? =some c8∧aN.op=c8.op∧aN.dst=c8.dst∧aN.guard=c8.guard:=by
   rw[←CN] at hp;simp only[BM,kV,J2,et,Prod.exists] at hp;obtain⟨c8,i,⟨aP,h1,h2⟩,h3⟩:=hp;cases h2;subst h3;exact⟨_,h1,rfl,rfl,rfl⟩
  obtain⟨c8,h0,aM,e2,dn⟩:=er;obtain⟨i,hi,CO⟩:=S0 pq h0;rw[Gz p ih] at hi;cases hi;obtain⟨J,ab,ah⟩:=S0 ar CO;exact⟨J,c8,by simpa using ab,ah,aM,e2,dn⟩
 ·intro p hp J ab e he hb;have S5:e.on∈ra J:=a6H J e he hb;refine⟨?_,?_⟩
  ·simp only[hP,gg] at S1;exact S1 (ra J) (bQ.2 ⟨J,by simpa using Qs ab,rfl⟩) _ S5
  ·exact(S4 p hp).1 _ (bQ.2 ⟨e.on,by rw[S3 _ _ ab];exact S5,rfl⟩)
 ·intro p hp q hq;have CP:=xN (a8.getD p 0,p) (w0.2 (by simpa using Gz p hp));obtain⟨J,ab⟩:∃J,ops[a8.getD p 0]? =some J:=⟨_,nN CP.1⟩
  refine⟨J,ab,?_⟩;rw[(S4 p hp).2] at hq;obtain⟨d,au,h2⟩:=SZ hq;unfold zi at au;rw[S3 _ _ ab] at au;obtain⟨j,az,rfl⟩:=bQ.1 au;unfold ra at az;obtain⟨e,he,rfl⟩:=bQ.1 az;obtain⟨ho,nr⟩:=rr.1 he;exact⟨e,by simpa using ho,nr,h2⟩
 ·intro p q aN iW hq h1 he;have h2:pl[q]? =some (pl[q]'(by omega)):=a9 (by omega);have:=LU p q aN (pl[q]'(by omega)) iW h1 h2;simp only[pairOk,cx,mL,he,Fc,nO,false_or] at this;rcases this.2 with h3|h3
  ·exact .inl h3
  ·refine .inr ?_;have aE:=h3.2;simp only[QB,cx,m3,Option.isNone_iff_eq_none,q6,List.isEmpty_eq_false_iff,hP] at aE;obtain⟨aM,e2,dn,fe,kq,pE,ux,lr,uy,CQ⟩:=aE;obtain⟨s1,aP,ep,qE⟩:∃s a x,aN.op= .store s a x:=by
    revert dn;cases aN.op<;>intro dn<;>first|exact⟨_,_,_,rfl⟩|cases dn
   obtain⟨s2,a0,hH,eN⟩:∃s a x,(pl[q]'(by omega)).op= .store s a x:=by
    revert fe;cases(pl[q]'(by omega)).op<;>intro fe<;>first|exact⟨_,_,_,rfl⟩|cases fe
   refine⟨aM,e2,⟨_,_,s1,aP,ep,s2,a0,hH,h1,h2,qE,eN,kq,pE,ux,lr,uy⟩,fun r aR al CD=>?_⟩;have ba:=CQ (aR,r) (cP r aR CD);simp only[mL,q6,QA,cx] at ba;rcases ba with ba|ba|ba
   ·rw[vT.2 al] at ba;cases ba
   ·exact .inl ba
   ·exact .inr ba
 ·intro p q aN dP d iW h1 h2 au uv;have:=LU p q aN dP iW h1 h2;simp only[pairOk,cx,au,uv] at this;simp at this
 ·intro p q aN dP iW h1 h2;have:=LU p q aN dP iW h1 h2;simp only[pairOk,cx,mL] at this;rcases this.2 with h3|h3
  ·exact .inl h3
  ·refine .inr ?_;have aE:=h3.1;simp only[indep,cx] at aE;refine⟨fun d au=>?_,fun d au=>?_⟩
   ·have:=aE.1;rw[au] at this;simpa using this
   ·have:=aE.2;rw[au] at this;simpa using this
 ·intro p aN hp xO q iW hq;simp only[hP] at S2;have:=S2 _ (cP p aN hp);simp only[QC,xO,Fc,Fe,hP] at this;have a6I:q∈ops.size::posOf (·.op.fW) pl:=by
   rcases hq with rfl|⟨dP,h1,h2⟩
   ·simp
   ·exact e9 _ (LQ.2 ⟨dP,h1,h2⟩)
  have:=this q a6I;simp only[mL,q6] at this;rcases this with h1|h1|h1|h1
  ·exfalso;have:Nat.blt p q=true:=(vT.2 iW)
   rw[this] at h1;cases h1
  ·exact .inl (by simpa using h1)
  ·refine .inr (.inl ?_);simp only[List.any_eq_true,cx,gg] at h1;obtain⟨e,he,h2,h3,aE⟩:=h1;obtain⟨ei,ba,cr⟩:=LQ.1 he;exact⟨e,ei,ba,cr,h2,h3,aE⟩
  ·refine .inr (.inr fun c ac ah a6J xP=>?_);simp only[hP,q6,Bool.and_eq_false_iff] at h1;cases S6:Fw ac with
   |false=>simpa [Fw] using S6
   |true=>
    exfalso;have:=h1 c (LQ.2 ⟨ac,ah,S6⟩);rw[(vT.2 a6J),(vT.2 xP)] at this;rcases this with h|h<;>cases h
section
variable {f:Nat}{ao iE:aC→Option AV}{I aq:af}
theorem vU{x:Option aC}{d:Nat}(h:∀y∈pg x,ao y=iE y):bndO ao x d=bndO iE x d:=by
 cases x with
 |none=>rfl
 |some x=>simp only[bndO,h x (by simp[pg])]
theorem zV{α β:Type}{g vV:α→Option β}:∀ {l:List α},(∀x∈l,g x=vV x)→mapO g l=mapO vV l
 |[],_=>rfl
 |x::l,h=>by
  rw[mapO_cons,mapO_cons,h x (by simp),zV (l:=l) (fun y aw=>h y (by simp[aw]))]
theorem layParts_congr{sz:Nat→Nat→Nat}:∀ {ps:List (Nat×Nat×aC)} {c:List AV},(∀p∈ps,ao p.2.2=iE p.2.2)→iR ao sz ps c=iR iE sz ps c
 |[],_,_=>rfl
 |p::ps,c,h=>by
  show(match ao p.2.2 with|none=>none|some v=>cond _ (match storeCells c (sz p.1 p.2.1) v.cells with|none=>none|some c=>iR ao sz ps c) none)=(match iE p.2.2 with|none=>none|some v=>cond _ (match storeCells c (sz p.1 p.2.1) v.cells with|none=>none|some c=>iR iE sz ps c) none);rw[h p (by simp)];have:∀c,iR ao sz ps c=iR iE sz ps c:=fun c=>layParts_congr (fun q hq=>h q (by simp[hq]));simp only[this]
theorem a6K{I:af}{ad:Option Nat}{x:AV}{aK hi c9:Option aC}(h2:∀y∈pg hi,ao y=iE y):sliceX I ao ad x aK hi c9=sliceX I iE ad x aK hi c9:=by
 cases aK with
 |some _=>rfl
 |none=>cases hi with
  |none=>rfl
  |some h=>cases c9 with
   |some _=>rfl
   |none=>
    have e:=h2 h (d_.2 rfl);unfold sliceX;simp only[e]
theorem a6L{ad:Option Nat}{x:AV}{aK hi c9:Option aC}(h1:∀y∈pg aK,ao y=iE y)(h2:∀y∈pg hi,ao y=iE y)(h3:∀y∈pg c9,ao y=iE y):sliceA ao ad x aK hi c9=sliceA iE ad x aK hi c9:=by
 unfold sliceA;simp only[vU h1,vU h2,vU h3];cases c9 with
 |none=>
  cases x<;>try rfl
  rename_i J jB xs;by_cases aj:jB=ad
  ·simp only[if_pos aj];cases bndO iE aK 0<;>cases bndO iE hi xs.length<;>rfl
  ·simp only[if_neg aj]
 |some m=>
  have dn:=vU (x:=some m) (d:=0) h3;cases x<;>try rfl
  ·simp only[dn]
  ·rename_i J jB xs;by_cases aj:jB=ad
   ·simp only[if_pos aj];cases bndO iE aK 0<;>cases bndO iE hi xs.length<;>try rfl
    simp only[dn]
   ·simp only[if_neg aj]
theorem S7{c:sr}(h:∀y∈(match c with| .fn _=>[]| .val J=>[J]:List aC),ao y=iE y):calleeV ao c=calleeV iE c:=by
 cases c with
 |fn f=>rfl
 |val J=>exact h J (by simp)
theorem S8{op:AOp}(h:∀x∈op.opnds,ao x=iE x):opx f ao I op=opx f iE I op:=by
 cases op
 all_goals simp only[AOp.opnds,List.forall_mem_cons,dE,nP,false_implies,implies_true,and_true] at h
 all_goals try simp only[opx,h]
 case pick c a b=>
  cases ah:iE c with
  |none=>rfl
  |some v=>cases v<;>first|rfl|(rename_i t;cases t<;>simp only[cond_true,cond_false,h])
 case build z ps=>rw[layParts_congr (fun p hp=>h _ (bQ.2 ⟨p,hp,rfl⟩))]
 case buildSlice ad n z ps=>
  rw[layParts_congr (fun p hp=>by
   obtain⟨q,hq,rfl⟩:=bQ.1 hp;exact h _ (bQ.2 ⟨q,hq,rfl⟩))]
 case vn fn a c=>rw[zV (fun x hx=>h x (.inl hx)),zV (g:=ao) (vV:=iE) (l:=c) (fun x hx=>h x (.inr hx))]
 case zc n ad x aK hi=>rw[vU (fun y aw=>h.2 y (.inl aw)),vU (x:=hi) (fun y aw=>h.2 y (.inr aw))]
 case BE x aK hi=>
  have e:∀d,bndO ao aK d=bndO iE aK d:=fun d=>vU (fun y aw=>h.2 y (.inl aw));have e2:∀d,bndO ao hi d=bndO iE hi d:=fun d=>vU (fun y aw=>h.2 y (.inr aw));simp only[e,e2]
 case kX ad x aK hi c9=>
  have e:∀v,sliceA ao ad v aK hi c9=sliceA iE ad v aK hi c9:=fun v=>a6L (fun y aw=>h.2 y (.inl aw)) (fun y aw=>h.2 y (.inr (.inl aw))) (fun y aw=>h.2 y (.inr (.inr aw)));have e2:∀v,sliceX I ao ad v aK hi c9=sliceX I iE ad v aK hi c9:=fun v=>a6K (fun y aw=>h.2 y (.inr (.inl aw)));simp only[e,e2]
 case call c as=>rw[S7 (fun y aw=>h y (.inl aw)),zV (fun x hx=>h x (.inr hx))]
 case nj c as=>rw[S7 (fun y aw=>h y (.inl aw)),zV (fun x hx=>h x (.inr hx))]
theorem a6M{ao:aC→Option AV}{ad fp:Option Nat}{x:AV}{fX:aC}{aK hi c9:Option aC}{q:bq}(h:sliceX I ao ad x aK hi c9=some q):(AOp.kX fp fX aK hi c9).looks=true:=by
 unfold sliceX at h;split at h
 ·rfl
 ·cases h
theorem GA{op:AOp}(he:op.fW=false)(ha:op.lh=false){r:bq}(h:opx f ao I op=some r)(hn:∀l,r≠ .hy l:=by intro _ h;cases h):∃v,r= .val v I∧(op.looks=false→∀dD,opx f ao dD op=some (.val v dD)):=by
 cases op
 all_goals first|(cases he;done)|(cases ha;done)|skip
 all_goals simp only[opx] at h
 all_goals first
  |(cases h;done)
  |(
    repeat' (first|(cases h;done)|(have a6N:=FV h;clear h;rcases a6N with⟨_,e⟩|⟨e,e2⟩;(exact absurd e (hn _));(refine⟨_,e,fun _ dD=>?_⟩;simp only[opx];simp only[*,(e2 dD).1,(e2 dD).2];done))|(exact absurd (F9 h).choose_spec (hn _))|(exact⟨_,(F8 h).choose_spec,fun ar=>by rw[a6M h] at ar;cases ar⟩)|split at h|(simp only[ui] at h))
    all_goals first
     |(cases h;exact⟨_,rfl,fun ar=>by first|(cases ar;done)|(intro dD;rfl)|(intro dD;simp only[opx];done)|(intro dD;simp only[opx];simp only[*];first|done|rfl|(simp only[ui];simp only[*];first|done|rfl|simp))⟩)
     |skip)
theorem S9{op:AOp}(ha:op.lh=true){r:bq}(h:opx f ao I op=some r):∃(J:AO) (qG:Nat→AV),r= .val (qG I.next) (I.push J)∧J.isDead=false∧∀dD,opx f ao dD op=some (.val (qG dD.next) (dD.push J)):=by
 cases op
 all_goals first|(cases ha;done)|skip
 all_goals simp only[opx] at h
 case alloc v=>cases h;exact⟨_,fun n=>kY n 0,rfl,rfl,fun _=>rfl⟩
 case box x=>
  split at h<;>try (cases h;done)
  rename_i v av;cases hval:v.val with
  |false=>rw[hval] at h;cases h
  |true=>
   rw[hval,cond_true] at h;cases h;exact⟨_,fun n=>kY n 0,rfl,rfl,fun dD=>by simp only[opx,av,hval,cond_true]⟩
 case buildSlice ad n z ps=>
  split at h<;>cases h;rename_i c ah;exact⟨_,fun k=>.ak k 0 n ad (some n),rfl,rfl,fun dD=>by simp only[opx,ah]⟩
 case mkMap=>cases h;exact⟨_,fun n=>.m (some n),rfl,rfl,fun _=>rfl⟩
end
def a6O(P:Program)(w:World)(m:Nat→Option Nat)(O:Nat→Prop)(B:Nat)(J:AO)(qG:Nat→AV)(r:Result Next):Prop:=
 ∃u an b7,r= .ok (.value u) an∧an.heap=w.heap.push b7∧an.os=w.os∧an.tape=w.tape∧an.output=w.output∧mb P w m O B J b7∧
  ∀(bK:World) (g8:Nat→Option Nat) (rE:Nat→Prop) (rF id:Nat),g8 id=some w.heap.size→bK.heap[w.heap.size]? =some b7→R bK g8 rE rF (qG id) u
theorem a6P{P:Program}{J:Oper}{cD:AOp}(h:cop P J=some cD)(ha:cD.lh=true):
  (∃t,J.op= .alloc t)∨(∃t x,J.op= .box t x)∨(∃t n ps,J.op= .buildSlice t n ps)∨(∃t r,J.op= .makeMap t r):=by
 unfold cop at h;split at h
 all_goals first
  |(cases h;done)
  |(rename_i ab;exact .inl ⟨_,ab⟩)
  |(rename_i ab;exact .inr (.inl ⟨_,_,ab⟩))
  |(rename_i ab;exact .inr (.inr (.inl ⟨_,_,_,ab⟩)))
  |(rename_i ab;exact .inr (.inr (.inr ⟨_,_,ab⟩)))
  |(
    exfalso
    repeat' first
     |(cases h;cases ha;done)
     |(cases h;done)
     |(simp only[et] at h;obtain⟨_,_,h⟩:=h)
     |(simp only[di,cB,dv,a6] at h)
     |split at h
     |(obtain⟨_,_,h⟩:=h)
     |(subst h;cases ha;done))
section
variable {P:Program}{env:Env}{I:af}{w:World}{m:Nat→Option Nat}{B:Nat}{f:Nat}{ak:aT AV}{a:Act}{J:Oper}{cD:AOp}{c5:AO}{qG:Nat→AV}
theorem a6Q{t e:TypeId}{ad:Option Nat}(hu:P.underlying t=some (.slice e))(aj:shapeOf P e=some ad){z:AV}(bg:zeroOf P e=some z)(vt:z.cells.length=shN ad){n:Nat}(hn:n*shN ad≤16777216){ao:aC→Option AV}
  {ps:List (Nat×Nat×aC)} {cy:Array (Nat×Value)} {c:List AV}
  (hp:ji (fun(p:Nat×Nat×aC) (q:Nat×Value)=>(p.1=q.1∧p.2.1=shN ad)∧∀v,ao p.2.2=some v→R w m (a_ I m) B v q.2) ps cy.toList)
  (h:iR ao (fun i sz=>i*sz) ps (fP n z.cells)=some c):
  ∃arr:Array Value,(Instr.buildSlice t n cy).run P w= .ok (.slice (some ⟨w.heap.size,0,none⟩) n n) {w with heap:=w.heap.push (.cells arr e)}∧bz w m (a_ I m) B c arr.toList∧(∀x∈c,conf none x=true)∧arr.size=n*shN ad:=by
 obtain⟨_,bV,_⟩:=km aj w;obtain⟨eD,iC,ln,mP⟩:=rj bg w;have k0:=(ln w m (a_ I m) B).cells;have lT:eD.cells.size=shN ad:=by have:=k0.1;simp at this;omega
 have mQ:ji (fun(p:Nat×Nat×aC) (q:Nat×Value)=>(fun i=>some (i*shN ad,shN ad)) q.1=some (p.1*p.2.1,p.2.1)∧∀v,ao p.2.2=some v→R w m (a_ I m) B v q.2) ps cy.toList:=by
  clear h;revert hp;generalize cy.toList=g6
  induction ps generalizing g6 with
  |nil=>cases g6<;>exact id
  |cons p ps aA=>
   cases g6 with
   |nil=>exact id
   |cons q g6=>
    rintro⟨⟨⟨h1,h2⟩,av⟩,al⟩;exact⟨⟨by rw[h1,h2],av⟩,aA g6 al⟩
 have nY:=zq k0 n;have KB:=zr mP n;have sE:eD.cells.toList.length=shN ad:=by simp[lT]
 rw[sE] at nY;obtain⟨nn,h1,h2,h3,aE⟩:=B2 (place:=fun i=>some (i*shN ad,shN ad)) ps cy.toList (fP n z.cells) c ((Array.range (n*shN ad)).map fun i=>eD.cells.toList[i%shN ad]!) mQ
  (by simpa [wm] using nY) KB h
 have r1:(newRow e nn).run P w= .ok ⟨w.heap.size,0,none⟩ {w with heap:=w.heap.push (.cells nn e)}:=by simp[newRow]
 have zs:nn.size=n*shN ad:=by
  have aP:=h2.1;have a0:=nY.1;simp at aP a0;omega
 refine⟨nn,?_,h2,h3,zs⟩;have KD:¬(n*shN ad > 2^24):=by omega
 simp only[Instr.buildSlice,dZ,run_underlying hu,ec,bV];rw[if_neg KD];by_cases h0:n*shN ad=0
 ·have aM:((Array.range (n*shN ad)).map fun i=>eD.cells.toList[i%shN ad]!)= #[]:=by rw[h0];apply lV;simp
  rw[aM] at h1;rw[if_pos h0];simp only[dZ,gx,ec,h0];have dn:((Array.range 0).map fun x=>(#[]:Array Value)[x%(#[]:Array Value).size]!)= #[]:=by apply lV;simp
  rw[dn,h1];simp[r1]
 ·have aM:((Array.range (n*shN ad)).map fun i=>eD.cells.toList[i%shN ad]!)=((Array.range (n*shN ad)).map fun i=>eD.cells[i%eD.cells.size]!):=by
   apply lV;simp only[sm,wm];apply gl;intro a _;rw[lT,I3,pa];simp
  rw[aM] at h1;simp only[h0,if_false,dZ,iC,ec,gx];simp only[h1];simp[r1]
theorem push_inj{J b7:AO}(h:I.push J=I.push b7):J=b7:=by
 have h1:=af.md (I:=I) J;have h2:=af.md (I:=I) b7;rw[h,h2] at h1;exact(ia h1).symm
theorem a6R(c:Ctx P env I w m B ak a)(ah:cop P J=some cD)(ha:cD.lh=true)(h:∀dD,opx f (evalA env ak) dD cD=some (.val (qG dD.next) (dD.push c5))):
  a6O P w m (a_ I m) B c5 qG ((execOp a.eval J).run P w):=by
 have GB:∀ {g:Nat→AV},(∀dD:af,qG dD.next=g dD.next)→qG=g:=fun hg=>funext fun n=>hg ⟨.nil,n⟩;rcases a6P ah ha with⟨t,ab⟩|⟨t,x,ab⟩|⟨t,n,ps,ab⟩|⟨t,r,ab⟩
 ·simp only[cop,ab,et] at ah;obtain⟨z,bg,rfl⟩:=ah;simp only[opx,a6,bq.val.injEq] at h;obtain rfl:=push_inj (h I).2;obtain rfl:=GB (g:=fun n=>kY n 0) (fun dD=>(h dD).1.symm);obtain⟨u,h1,h2,hf⟩:=rj bg w;have mj:=(h2 w m (a_ I m) B).cells;simp only[execOp,ab];refine⟨.pointer (some ⟨w.heap.size,0,none⟩),{w with heap:=w.heap.push (.cells u.cells t)},.cells u.cells t,by simp[Instr.alloc,h1,newVar,newRow],rfl,rfl,rfl,rfl,?_,fun bK g8 rE rF id oU _=>.p oU⟩;exact .cells (by have:=mj.1;simp at this;omega) (fun i h h'=>by have:=mj.2 i h (by simpa using h');simpa using this) (fun i _=>by simp) hf
 ·simp only[cop,ab,et] at ah;obtain⟨bA,hx,rfl⟩:=ah;have h0:=h I;simp only[opx] at h0;split at h0<;>try (cases h0;done)
  rename_i a2 av;cases hval:a2.val with
  |false=>rw[hval] at h0;cases h0
  |true=>
   simp only[opx,av,hval,cond_true,a6,bq.val.injEq] at h;obtain rfl:=push_inj (h I).2;obtain rfl:=GB (g:=fun n=>kY n 0) (fun dD=>(h dD).1.symm);have mj:=(c.ao hx av).cells;simp only[execOp,ab];refine⟨.pointer (some ⟨w.heap.size,0,none⟩),{w with heap:=w.heap.push (.cells (a.eval x).cells t)},.cells (a.eval x).cells t,by simp[Instr.box,newVar,newRow],rfl,rfl,rfl,rfl,?_,fun bK g8 rE rF id oU _=>.p oU⟩;exact .cells (by have:=mj.1;simp at this;omega) (fun i h h'=>by have:=mj.2 i h (by simpa using h');simpa using this) (fun i _=>by simp) (Ky (c.ao hx av) hval)
 ·-- a slice:one new row,made as 'b8T b8U
  simp only[cop,ab,di,cB] at ah;obtain⟨⟨e,ad⟩,he,z,bg,l,ar,ah⟩:=ah;split at ah<;>cases ah;rename_i fK;obtain⟨hu,aj⟩:=zC he;have h0:=h I;simp only[opx] at h0;split at h0<;>try (cases h0;done)
  rename_i cs sM;simp only[opx,sM,a6,bq.val.injEq] at h;obtain rfl:=push_inj (h I).2;obtain rfl:=GB (g:=fun k=>.ak k 0 n ad (some n)) (fun dD=>(h dD).1.symm);simp only[execOp,ab];have hall:ji (fun(p:Nat×Nat×aC) (q:Nat×Value)=>(p.1=q.1∧p.2.1=shN ad)∧∀v,evalA env ak p.2.2=some v→R w m (a_ I m) B v q.2) (l.map fun p=>(p.1,shN ad,p.2)) ((ps.map fun(x:Nat×Operand)=>(x.1,a.eval x.2)).toList):=by
   rw[sm];have:=B1 (g:=fun(x:Nat×Operand)=>(x.1,a.eval x.2)) (r:=fun(p:Nat×aC) (q:Nat×Value)=>p.1=q.1∧∀v,evalA env ak p.2=some v→R w m (a_ I m) B v q.2) (fun p q iW=>by
    split at iW<;>cases iW;rename_i x h2;exact⟨rfl,fun v av=>c.ao h2 av⟩) ar
   revert this;generalize ps.toList.map (fun(x:Nat×Operand)=>(x.1,a.eval x.2))=g6;clear sM ar h h0 ha
   induction l generalizing g6 with
   |nil=>cases g6<;>exact id
   |cons p l aA=>
    cases g6 with
    |nil=>exact id
    |cons q g6=>
     rintro⟨⟨h1,h2⟩,h3⟩;exact⟨⟨⟨h1,rfl⟩,h2⟩,aA g6 h3⟩
  obtain⟨arr,b8,mj,nW,bV⟩:=a6Q (I:=I) (m:=m) (B:=B) hu aj bg fK.2 fK.1 hall sM;refine⟨.slice (some ⟨w.heap.size,0,none⟩) n n,{w with heap:=w.heap.push (.cells arr e)},.cells arr e,by simp[b8],rfl,rfl,rfl,rfl,?_,fun bK g8 rE rF id oU jC=>?_⟩
  ·exact .cells (by have:=mj.1;simp at this;omega) (fun i h h'=>by have:=mj.2 i h (by simpa using h');simpa using this) (fun i _=>by simp) nW
  ·exact .ak oU (o _) (fun c ah=>by cases ah;rfl) (n:=arr.size) (by unfold dU;rw[jC]) (by omega) (fun h=>by cases h)
 ·simp only[cop,ab] at ah;simp only[execOp,ab];have key:(Instr.makeMap t (r.map a.eval)).run P w= .ok (.map (some w.heap.size)) {w with heap:=w.heap.push (.map #[] 0)}∧cD= .mkMap:=by
   split at ah<;>cases ah
   ·exact⟨by simp[Instr.makeMap],rfl⟩
   ·rename_i ht;exact⟨by simp[Instr.makeMap,run_underlying ht,Act.eval,asInt,asIntOf],rfl⟩
  obtain⟨key,rfl⟩:=key;simp only[opx,a6,bq.val.injEq] at h;obtain rfl:=push_inj (h I).2;obtain rfl:=GB (g:=fun n=>.m (some n)) (fun dD=>(h dD).1.symm);exact⟨.map (some w.heap.size),{w with heap:=w.heap.push (.map #[] 0)},.map #[] 0,by simp[key],rfl,rfl,rfl,rfl,.map rfl (fun i h=>by simp at h),fun bK g8 rE rF id oU _=>.mp oU⟩
theorem Rel.LV(al:Rel P I w m B){id:Nat}(oU:id<I.next)(hm:m id=none){an:World}{b7:Obj}(hg:I.get id=some c5)(hh:an.heap=w.heap.push b7)(lS:mb P w m (a_ I m) B c5 b7):
  Rel P I an (bindM m id w.heap.size) B∧(∀i b,m i=some b→bindM m id w.heap.size i=some b)∧w.heap.size≤an.heap.size∧(∀b n,dU w b=some n→dU an b=some n)∧
   (∀b,b<w.heap.size→an.heap[b]? =w.heap[b]?)∧(∀ax,ax<w.heap.size→¬a_ I m ax→an.heap[ax]? =w.heap[ax]? ∧¬a_ I (bindM m id w.heap.size) ax)∧an.heap[w.heap.size]? =some b7:=by
 have bV:an.heap.size=w.heap.size+1:=by rw[hh];simp
 have hold:∀b,b<w.heap.size→an.heap[b]? =w.heap[b]? :=fun b hb=>by
  rw[hh,Ig];rw[if_neg (by omega)]
 have pj:an.heap[w.heap.size]? =some b7:=by rw[hh];simp
 have jN:∀i b,m i=some b→bindM m id w.heap.size i=some b:=fun i b h=>by
  rw[jh m _ _ (fun e=>by subst e;rw[hm] at h;cases h)];exact h
 have gT:∀b n,dU w b=some n→dU an b=some n:=by
  intro b n hb;have:b<w.heap.size:=by
   rcases mK b w.heap.size with h|h
   ·exact h
   ·simp[dU,xz h] at hb
  unfold dU at hb ⊢;rw[hold b this];exact hb
 have CR:∀ax,ax<w.heap.size→¬a_ I m ax→an.heap[ax]? =w.heap[ax]? ∧¬a_ I (bindM m id w.heap.size) ax:=fun ax hb db=>by
  refine⟨hold ax hb,?_⟩;rintro⟨i,h1,h2⟩;by_cases hi:i=id
  ·subst hi;rw[hB] at h1;cases h1;omega
  ·rw[jh m _ _ hi] at h1;exact db ⟨i,h1,h2⟩
 refine⟨⟨al.len,?_,?_,?_,?_,by have:=al.cE;omega⟩,jN,by omega,gT,hold,CR,pj⟩
 ·intro i b h;by_cases hi:i=id
  ·subst hi;rw[hB] at h;cases h;exact⟨by omega,oU⟩
  ·rw[jh m _ _ hi] at h;have:=al.fa _ _ h;exact⟨by omega,this.2⟩
 ·intro i b fc h mn au;by_cases hi:i=id
  ·subst hi;rw[hB] at h;cases h;rw[hg] at mn;cases mn;exact⟨b7,pj,lS.mono jN (by omega) gT CR⟩
  ·rw[jh m _ _ hi] at h;obtain⟨kZ,h1,h2⟩:=al.obj i b fc h mn au;exact⟨kZ,by rw[hold _ (al.fa _ _ h).1];exact h1,h2.mono jN (by omega) gT CR⟩
 ·intro i eC b h h' ar mO;by_cases hi:i=id
  ·by_cases cS:eC=id
   ·rw[hi,cS]
   ·subst hi;rw[hB] at h;cases h;rw[jh m _ _ cS] at h';have:=(al.fa _ _ h').1;omega
  ·rw[jh m _ _ hi] at h;by_cases cS:eC=id
   ·subst cS;rw[hB] at h';cases h';have:=(al.fa _ _ h).1;omega
   ·rw[jh m _ _ cS] at h';exact al.inj i eC b h h' ar mO
 ·intro i b h;by_cases hi:i=id
  ·subst hi;rw[hB] at h;cases h;exact al.cE
  ·rw[jh m _ _ hi] at h;exact al.base _ _ h
theorem eW.mono{ai:Fr}{aq:af}{an:World}{aH:Nat→Option Nat}(s:eW P env ai a I w m B)(mh:Rel P aq an aH B)(hm:∀id ax,m id=some ax→aH id=some ax)(bV:w.heap.size≤an.heap.size)
  (gT:∀b n,dU w b=some n→dU an b=some n) (aD:∀ax,ax<w.heap.size→¬a_ I m ax→an.heap[ax]? =w.heap[ax]? ∧¬a_ aq aH ax):eW P env ai a aq an aH B:=
 ⟨⟨mh,s.ctx.bk.mono hm bV gT aD,fun g v hg gn=>(s.ctx.globs g v hg gn).mono (fun _ _ h=>h) bV gT (fun b hb db=>⟨(aD b hb (fun⟨i,h1,_⟩=>db (s.ctx.rel.base _ _ h1))).1,db⟩)⟩,
  Cf (fun d dT au=>by
   cases d with
   |inl id=>obtain⟨ax,h1,h2⟩:=au;exact⟨ax,hm _ _ h1,h2⟩
   |inr p=>obtain⟨g,fs,cs,g4,ea,us,h1,h2,h3,aE,ba⟩:=au;exact⟨g,fs,cs,g4,ea,us,h1,h2,h3.mono hm bV gT aD,aE.mono hm bV gT aD,ba.mono hm bV gT aD⟩) s.defs⟩
theorem S_(al:Rel P I w m B)(J:AO)(ax:Nat):a_ (I.push J) m ax↔a_ I m ax:=by
 constructor
 ·rintro⟨i,h1,fc,h2,h3⟩;rw[af.iB al.len J (al.fa _ _ h1).2] at h2;exact⟨i,h1,fc,h2,h3⟩
 ·rintro⟨i,h1,fc,h2,h3⟩;exact⟨i,h1,fc,by rw[af.iB al.len J (al.fa _ _ h1).2];exact h2,h3⟩
theorem Rel.CS(al:Rel P I w m B)(J:AO):Rel P (I.push J) w m B:=by
 have aD:∀ax,ax<w.heap.size→¬a_ I m ax→w.heap[ax]? =w.heap[ax]? ∧¬a_ (I.push J) m ax:=fun ax _ db=>⟨rfl,fun h=>db ((S_ al J ax).1 h)⟩
 refine⟨trivial,fun i b h=>⟨(al.fa _ _ h).1,zA (al.fa _ _ h).2⟩,fun i b fc h hg au=>?_,fun i eC b h h' ar mO=>?_,al.base,al.cE⟩
 ·rw[af.iB al.len J (al.fa _ _ h).2] at hg;obtain⟨kZ,h1,h2⟩:=al.obj i b fc h hg au;exact⟨kZ,h1,h2.mono (fun _ _ h=>h) (o _) (fun _ _ h=>h) aD⟩
 ·refine al.inj i eC b h h' ?_ ?_
  ·obtain⟨fc,h2,h3⟩:=ar;rw[af.iB al.len J (al.fa _ _ h).2] at h2;exact⟨fc,h2,h3⟩
  ·obtain⟨fc,h2,h3⟩:=mO;rw[af.iB al.len J (al.fa _ _ h').2] at h2;exact⟨fc,h2,h3⟩
theorem eW.CS{ai:Fr}(s:eW P env ai a I w m B)(J:AO):eW P env ai a (I.push J) w m B:=
 s.mono (s.ctx.rel.CS J) (fun _ _ h=>h) (o _) (fun _ _ h=>h) (fun ax _ db=>⟨rfl,fun h=>db ((S_ s.ctx.rel J ax).1 h)⟩)
theorem Ext.CS{df:af}{e4:World}{ed:Nat→Option Nat}(h:Ext f df e4 ed I w m)(ar:True)(J:AO):Ext f df e4 ed (I.push J) w m where
 mono:=h.mono
 new:=h.new
 next:=l_ h.next (Ih _)
 size:=h.size
 fJ:=h.fJ
 aF:=h.aF
 low id h1 h2:=by rw[af.iB ar J (A_ h2 h.next)];exact h.low id h1 h2
 dead id h1 h2:=h.dead id h1 (by
  obtain⟨fc,h3,aE⟩:=h2;rw[af.iB ar J (A_ h1 h.next)] at h3;exact⟨fc,h3,aE⟩)
 os:=h.os
 tape:=h.tape
 out:=h.out
 un id h1 h2:=by rw[af.iB ar J (A_ h1 h.next)];exact h.un id h1 h2
theorem Ext.LV{df:af}{e4:World}{ed:Nat→Option Nat}(h:Ext f df e4 ed I w m){id:Nat}(oU:df.next≤id){an:World}{b7:Obj}(hm:m id=none)(hh:an.heap=w.heap.push b7)(ib:an.os=w.os)(mN:an.tape=w.tape)(jw:an.output=w.output):
  Ext f df e4 ed I an (bindM m id w.heap.size):=by
 have bV:an.heap.size=w.heap.size+1:=by rw[hh];simp
 have hold:∀b,b<w.heap.size→an.heap[b]? =w.heap[b]? :=fun b hb=>by
  rw[hh,Ig];rw[if_neg (by omega)]
 refine⟨fun i b hb=>?_,fun i b hb=>?_,h.next,by have:=h.size;omega,fun b n hb=>?_,fun b hb db=>?_,h.low,h.dead,ib.trans h.os,mN.trans h.tape,jw.trans h.out,h.un⟩
 ·have:=h.mono _ _ hb;rw[jh m _ _ (fun e=>by subst e;rw[hm] at this;cases this)];exact this
 ·by_cases hi:i=id
  ·subst hi;rw[hB] at hb;cases hb;exact .inr ⟨oU,.inl h.size⟩
  ·rw[jh m _ _ hi] at hb;exact h.new _ _ hb
 ·have h1:=h.fJ _ _ hb;have:b<w.heap.size:=by
   rcases mK b w.heap.size with h|h
   ·exact h
   ·simp[dU,xz h] at h1
  unfold dU at h1 ⊢;rw[hold b this];exact h1
 ·rw[hold b (by have:=h.size;omega)];exact h.aF b hb db
end
def DStep(env:Env)(f:Nat)(call:nk)(aN:a1)(s:aT AV)(I:af)(v:AV)(b3:af):Prop:=
 (wantedA aN.guard s=false∧v=dR∧b3=I)∨
 (wantedA aN.guard s=true∧opx f (evalA env s) I aN.op=some (.val v b3))∨
 (wantedA aN.guard s=true∧∃b_ args,opx f (evalA env s) I aN.op=some (.call b_ args)∧∃l,call b_ args I=some l∧(.ok v,b3)∈l∧∀x∈l,∃u,x.1= .ok u)
noncomputable def n9 (s:aT AV) (d:Option Nat) (v:AV):aT AV:=match d with|some d=>s.set d v|none=>s
theorem GC(ai:Fr)(d:Option Nat)(v:AV):(ai.put d v).bk=n9 ai.bk d v:=by
 cases d<;>rfl
theorem put_eq(ak:aT AV)(ds:List (Nat ⊕ (AV×List AV)))(rc:Bool)(d:Option Nat)(v:AV):Fr.put ⟨ak,ds,rc⟩ d v=⟨n9 ak d v,ds,rc⟩:=by
 cases d with
 |none=>rfl
 |some d=>rfl
theorem put_defers(ai:Fr)(d:Option Nat)(v:AV):(ai.put d v).defers=ai.defers∧(ai.put d v).fA=ai.fA:=by
 cases d<;>exact⟨rfl,rfl⟩
structure Trace(env:Env)(f:Nat)(call:nk)(pl:List a1)(s:Nat→aT AV)(S:Nat→af)(v:Nat→AV):Prop where
 step:∀(p:Nat) (aN:a1),pl[p]? =some aN→DStep env f call aN (s p) (S p) (v p) (S (p+1))
 put:∀(p:Nat) (aN:a1),pl[p]? =some aN→s (p+1)=n9 (s p) aN.dst (v p)
structure a6S(pl:List a1)(s:Nat→aT AV)(S:Nat→af)(v:Nat→AV)(ai:Fr)(da:List af)(ws:List oG)(x:j2):Prop where
 ak:s pl.length=x.1.bk
 st:S pl.length=x.2.2.2
 pF:x.1.defers=ai.defers
 rc:x.1.fA=ai.fA
 da:(x.2.2.2::x.2.1).reverse=da.reverse++(List.range (pl.length+1)).map S
 old:∀y∈ws,y∈x.2.2.1
 zW:∀p aN,pl[p]? =some aN→wantedA aN.guard (s p)=true→aN.op.fW=false→aN.lg≠[]→(aN,s p,v p)∈x.2.2.1
theorem flatO_mem{α β:Type}{f:α→Option (List β)}:∀ {l:List α} {r:List β},kk f l=some r→∀x∈l,∃a,f x=some a∧∀y∈a,y∈r
 |[],_,_,x,hx=>by simp at hx
 |[a],r,h,x,hx=>by
  rw[d_.1 hx];exact⟨r,h,fun _ h=>h⟩
 |a::b::t,r,h,x,hx=>by
  have h:(match f a with|none=>none|some p=>match kk f (b::t) with|none=>none|some q=>some (p++q))=some r:=h;split at h
  ·cases h
  ·rename_i p hp;split at h
   ·cases h
   ·rename_i q hq;cases h;rcases cH.1 hx with rfl|hx
    ·exact⟨p,hp,fun y aw=>k6 _ aw⟩
    ·obtain⟨z,h1,h2⟩:=flatO_mem hq x hx;exact⟨z,h1,fun y aw=>ni _ (h2 y aw)⟩
def LW{α:Type}(x:α)(s:Nat→α):Nat→α:=fun p=>Nat.casesOn p x s
section
variable {env:Env}{f:Nat}{call:nk}
theorem Trace.cons{J:a1}{pl:List a1}{kL:aT AV}{I b3:af}{v0:AV}{s:Nat→aT AV}{S:Nat→af}{v:Nat→AV}(aj:DStep env f call J kL I v0 b3)(ht:Trace env f call pl s S v)(h1:s 0=n9 kL J.dst v0)(h2:S 0=b3):Trace env f call (J::pl) (LW kL s) (LW I S) (LW v0 v):=by
 refine⟨fun p aN hp=>?_,fun p aN hp=>?_⟩
 ·cases p with
  |zero=>simp at hp;subst hp;show DStep env f call J kL I v0 (S 0);rw[h2];exact aj
  |succ p=>exact ht.step p aN (by simpa using hp)
 ·cases p with
  |zero=>simp at hp;subst hp;exact h1
  |succ p=>exact ht.put p aN (by simpa using hp)
theorem Trace.tail{J:a1}{pl:List a1}{s:Nat→aT AV}{S:Nat→af}{v:Nat→AV}(h:Trace env f call (J::pl) s S v):Trace env f call pl (fun p=>s (p+1)) (fun p=>S (p+1)) (fun p=>v (p+1)):=⟨fun p aN hp=>h.step (p+1) aN (by simpa using hp),fun p aN hp=>h.put (p+1) aN (by simpa using hp)⟩
theorem runDraws_cons(J:a1)(pl:List a1)(ai:Fr)(da:List af)(ws:List oG)(I:af):runDraws env f call (J::pl) ai da ws I=
  cond (wantedA J.guard ai.bk)
   (match opx f (evalA env ai.bk) I J.op with
    |some (.val v aq)=>runDraws env f call pl (ai.put J.dst v) (I::da) (match J.lg with|[]=>ws|_::_=>(J,ai.bk,v)::ws) aq
    |some (.call b_ args)=>match call b_ args I with
     |some (x::l)=>kk (fun r=>match r with|(.ok v,aq)=>runDraws env f call pl (ai.put J.dst v) (I::da) ws aq|_=>none) (x::l)
     |_=>none
    |_=>none)
   (runDraws env f call pl (ai.put J.dst dR) (I::da) ws I):=by
 rw[←Ci,← QM,← QN,← Kl];rfl
theorem a6T{J:a1}{pl:List a1}{ai:Fr}{da:List af}{ws:List oG}{I:af}{L:List j2}(h:runDraws env f call (J::pl) ai da ws I=some L):∃v0 b3,DStep env f call J ai.bk I v0 b3:=by
 rw[runDraws_cons] at h;cases hw:wantedA J.guard ai.bk with
 |false=>exact⟨dR,I,.inl ⟨hw,rfl,rfl⟩⟩
 |true=>
  rw[hw,cond_true] at h;split at h
  ·rename_i v b3 hx;exact⟨v,b3,.inr (.inl ⟨hw,hx⟩)⟩
  ·rename_i b_ args hx;split at h
   ·rename_i x l eZ;have hall:∀y∈x::l,∃u,y.1= .ok u:=fun y aw=>by
     obtain⟨a,h1,_⟩:=flatO_mem h y aw;obtain⟨nQ,qH⟩:=y;cases nQ with
     |ok u=>exact⟨u,rfl⟩
     |err u=>cases h1
    obtain⟨u,hu⟩:=hall x gz;obtain⟨ep,hH⟩:=x;cases hu;exact⟨u,hH,.inr (.inr ⟨hw,b_,args,hx,_,eZ,gz,hall⟩)⟩
   ·cases h
  ·cases h
theorem GD{J:a1}{pl:List a1}{ai:Fr}{da:List af}{ws:List oG}{I b3:af}{v0:AV}{L:List j2}(h:runDraws env f call (J::pl) ai da ws I=some L)(aj:DStep env f call J ai.bk I v0 b3):
  ∃xQ lu,runDraws env f call pl (ai.put J.dst v0) (I::da) xQ b3=some lu∧(∀x∈lu,x∈L)∧(∀x∈ws,x∈xQ)∧(wantedA J.guard ai.bk=true→J.op.fW=false→J.lg≠[]→(J,ai.bk,v0)∈xQ):=by
 rw[runDraws_cons] at h;rcases aj with⟨hw,rfl,rfl⟩|⟨hw,hx⟩|⟨hw,b_,args,hx,l,eZ,hm,_⟩
 ·rw[hw,cond_false] at h;exact⟨ws,L,h,fun _ h=>h,fun _ h=>h,fun h=>by rw[hw] at h;cases h⟩
 ·rw[hw,cond_true,hx] at h;refine⟨_,L,h,fun _ h=>h,fun x hx=>?_,fun _ _ hn=>?_⟩
  ·split
   ·exact hx
   ·exact e9 _ hx
  ·split
   ·rename_i he;exact absurd he hn
   ·exact gz
 ·rw[hw,cond_true,hx] at h;simp only[eZ] at h;obtain⟨c,as,gH,_,_⟩:=vJ hx;cases l with
  |nil=>simp at hm
  |cons x l=>
   obtain⟨a,h1,h2⟩:=flatO_mem h _ hm;exact⟨ws,a,h1,h2,fun _ h=>h,fun _ he=>by rw[gH] at he;cases he⟩
theorem LX:∀(pl:List a1) (ai:Fr) (da:List af) (ws:List oG) (I:af) {L:List j2},runDraws env f call pl ai da ws I=some L→∃s S v,Trace env f call pl s S v∧s 0=ai.bk∧S 0=I
 |[],ai,_,_,I,_,_=>⟨fun _=>ai.bk,fun _=>I,fun _=>dR,⟨fun p aN hp=>by simp at hp,fun p aN hp=>by simp at hp⟩,rfl,rfl⟩
 |J::pl,ai,da,ws,I,L,h=>by
  obtain⟨v0,b3,aj⟩:=a6T h;obtain⟨xQ,lu,h1,_⟩:=GD h aj;obtain⟨s,S,v,h2,h3,aE⟩:=LX pl _ _ _ _ h1;exact⟨_,_,_,.cons aj h2 (by rw[h3,GC]) aE,rfl,rfl⟩
theorem LY:∀(pl:List a1) (ai:Fr) (da:List af) (ws:List oG) (I:af) {L:List j2} {s:Nat→aT AV} {S:Nat→af} {v:Nat→AV},runDraws env f call pl ai da ws I=some L→Trace env f call pl s S v→s 0=ai.bk→S 0=I→∃x∈L,a6S pl s S v ai da ws x
 |[],ai,da,ws,I,L,s,S,v,h,ht,h1,h2=>by
  have h:some [(ai,da,ws,I)]=some L:=h;cases h;exact⟨_,gz,h1,h2,rfl,rfl,by simp[h2],fun _ h=>h,fun p aN hp=>by simp at hp⟩
 |J::pl,ai,da,ws,I,L,s,S,v,h,ht,h1,h2=>by
  have aj:=ht.step 0 J rfl;rw[h1,h2] at aj;obtain⟨xQ,lu,bM,b4,dy,e0⟩:=GD h aj;obtain⟨kq,pE⟩:=put_defers ai J.dst (v 0);obtain⟨x,hx,h⟩:=LY pl _ _ _ _ bM ht.tail (by show s (0+1)=_;rw[ht.put 0 J rfl,h1,GC]) rfl;refine⟨x,b4 x hx,h.ak,h.st,h.pF.trans kq,h.rc.trans pE,?_,fun y aw=>h.old y (dy y aw),fun p aN hp hw he hn=>?_⟩
  ·rw[h.da,fH,List.range_succ_eq_map (n:=pl.length+1)];simp only[List.reverse_cons,jK,eK,iw,List.singleton_append,h2];rfl
  ·cases p with
   |zero=>simp at hp;subst hp;rw[h1];rw[h1] at hw;exact h.old _ (e0 hw he hn)
   |succ p=>exact h.zW p aN (by simpa using hp) hw he hn
theorem Ta:∀(pl:List a1) (ai:Fr) (da:List af) (ws:List oG) (I:af) {L:List j2} {s:Nat→aT AV} {S:Nat→af} {v:Nat→AV},runDraws env f call pl ai da ws I=some L→Trace env f call pl s S v→s 0=ai.bk→S 0=I→
  ∀(p:Nat) (aN:a1) (b_:AV) (args:List AV) (l:List (dM×af)) (v1:AV) (b3:af),pl[p]? =some aN→wantedA aN.guard (s p)=true→opx f (evalA env (s p)) (S p) aN.op=some (.call b_ args)→call b_ args (S p)=some l→(.ok v1,b3)∈l→(∀x∈l,∃u,x.1= .ok u)→
  ∃jB mU a2,Trace env f call pl jB mU a2∧(∀q,q≤p→jB q=s q∧mU q=S q)∧(∀q,q<p→a2 q=v q)∧a2 p=v1∧mU (p+1)=b3
 |[],_,_,_,_,_,_,_,_,_,_,_,_,p,_,_,_,_,_,_,hp,_,_,_,_,_=>by simp at hp
 |J::pl,ai,da,ws,I,L,s,S,v,h,ht,h1,h2,0,aN,b_,args,l,v1,b3,hp,hw,hx,ah,hm,hall=>by
  simp at hp;subst hp;have aj:DStep env f call J ai.bk I v1 b3:=.inr (.inr ⟨by rw[←h1];exact hw,b_,args,by rw[←h1,← h2];exact hx,l,by rw[←h2];exact ah,hm,hall⟩);obtain⟨xQ,lu,bM,_⟩:=GD h aj;obtain⟨jB,mU,a2,b4,dy,e0⟩:=LX pl _ _ _ _ bM;refine⟨_,_,_,.cons aj b4 (by rw[dy,GC]) e0,fun q hq=>?_,fun q hq=>by omega,rfl,e0⟩;obtain rfl:q=0:=by omega
  exact⟨h1.symm,h2.symm⟩
 |J::pl,ai,da,ws,I,L,s,S,v,h,ht,h1,h2,p+1,aN,b_,args,l,v1,b3,hp,hw,hx,ah,hm,hall=>by
  have aj:=ht.step 0 J rfl;rw[h1,h2] at aj;obtain⟨xQ,lu,bM,_⟩:=GD h aj;have aM:s (0+1)=n9 ai.bk J.dst (v 0):=by rw[ht.put 0 J rfl,h1]
  obtain⟨jB,mU,a2,b4,dy,e0,ft,n_⟩:=Ta pl _ _ _ _ bM ht.tail (by rw[GC];exact aM) rfl p aN b_ args l v1 b3 (by simpa using hp) hw hx ah hm hall;refine⟨_,_,_,.cons aj b4 ((dy 0 (hv _)).1.trans aM) (dy 0 (hv _)).2,fun q hq=>?_,fun q hq=>?_,ft,n_⟩
  ·cases q with
   |zero=>exact⟨h1.symm,h2.symm⟩
   |succ q=>exact dy q (by omega)
  ·cases q with
   |zero=>rfl
   |succ q=>exact e0 q (by omega)
end
structure hI(P:Program)(env:Env)(B f:Nat)(r:Option Nat)(ops:Array Oper)(pl:List a1)(a8 c1:Nat→Nat)(cX:Nat→Nat→Bool)(call:nk)(s:Nat→aT AV)(S:Nat→af)(v:Nat→AV):Prop where
 spec:SV P ops pl a8 c1 cX
 a6U:Cg P env B f r call
 iF:Trace env f call pl s S v
 steady:∀(p:Nat) (aN:a1),pl[p]? =some aN→wantedA aN.guard (s p)=true→aN.op.fW=false→∀q∈aN.lg,∃dD,opx f (evalA env (s p)) (S q) aN.op=some (.val (v p) dD)
 k5:∀p q,CJ pl cX p q→∀bA eI s1 aP ep s2 a0 hH,pl[p]? =some bA→pl[q]? =some eI→bA.op= .store s1 aP ep→eI.op= .store s2 a0 hH→∃i vW j zX,evalA env (s p) aP=some (.p (some (i,vW)))∧evalA env (s q) a0=some (.p (some (j,zX)))∧i≠j
structure LZ(P:Program)(env:Env)(B f:Nat)(r:Option Nat)(ops:Array Oper)(pl:List a1)(a8 c1:Nat→Nat)(cX:Nat→Nat→Bool)(call:nk)(kL:aT AV)(df:af):Prop where
 GF:∀s S v,Trace env f call pl s S v→s 0=kL→S 0=df→hI P env B f r ops pl a8 c1 cX call s S v
 k5:∀s S v,Trace env f call pl s S v→s 0=kL→S 0=df→∀(p:Nat) (aN:a1) (b_:AV) (args:List AV) (l:List (dM×af)) (v1:AV) (b3:af),pl[p]? =some aN→wantedA aN.guard (s p)=true→opx f (evalA env (s p)) (S p) aN.op=some (.call b_ args)→call b_ args (S p)=some l→(.ok v1,b3)∈l→(∀x∈l,∃u,x.1= .ok u)→
  ∃jB mU a2,Trace env f call pl jB mU a2∧(∀q,q≤p→jB q=s q∧mU q=S q)∧(∀q,q<p→a2 q=v q)∧a2 p=v1∧mU (p+1)=b3
def dF(a8:Nat→Nat)(listed:Array Bool)(p:Nat):Prop:=listed.getD (a8 p) false=true
structure vX(pl:List a1)(v:Nat→AV)(kL:aT AV)(D:Nat→Prop)(dg:aT AV):Prop where
 fa:∀t,(dg.get t).isSome=(kL.get t).isSome
 kr:∀(p:Nat) (aN:a1) (t:Nat),pl[p]? =some aN→D p→aN.dst=some t→(kL.get t).isSome=true→dg.get t=some (v p)
 vY:∀(t:Nat),(∀(p:Nat) (aN:a1),pl[p]? =some aN→D p→aN.dst≠some t)→dg.get t=kL.get t
structure pG(pl:List a1)(s:Nat→aT AV)(S:Nat→af)(df:af)(D:Nat→Prop)(m:Nat→Option Nat)(k:Nat):Prop where
 one:∀(p:Nat) (aN:a1),p<k→pl[p]? =some aN→aN.op.lh=true→wantedA aN.guard (s p)=true→¬D p→m (S p).next=none∧df.next≤(S p).next∧(S p).next<(S k).next∧(S k).get (S p).next=(S (p+1)).get (S p).next
 lt:∀(p p':Nat) (aN hJ:a1),p<p'→p'<k→pl[p]? =some aN→pl[p']? =some hJ→aN.op.lh=true→hJ.op.lh=true→wantedA aN.guard (s p)=true→wantedA hJ.guard (s p')=true→¬D p→¬D p'→(S p).next<(S p').next
section
variable {P:Program}{env:Env}{B f:Nat}{r:Option Nat}{ops:Array Oper}{pl:List a1}{a8 c1:Nat→Nat}{cX:Nat→Nat→Bool}{call:nk}{s:Nat→aT AV}{S:Nat→af}{v:Nat→AV}
theorem hI.lt(c:hI P env B f r ops pl a8 c1 cX call s S v){p:Nat}{aN:a1}(h:pl[p]? =some aN):p<ops.size:=by
 have:=(ki.1 h).1;have:=c.spec.len;omega
theorem hI.get(c:hI P env B f r ops pl a8 c1 cX call s S v){p:Nat}(h:p<ops.size):∃aN,pl[p]? =some aN:=
 ⟨_,a9 (by have:=c.spec.len;omega)⟩
theorem hI.CM(c:hI P env B f r ops pl a8 c1 cX call s S v){p q:Nat}{aN dP:a1}{d:Nat}(hp:pl[p]? =some aN)(hq:pl[q]? =some dP)(h1:aN.dst=some d)(h2:dP.dst=some d):p=q:=by
 rcases vh p q with h|h|h
 ·exact absurd h2 (c.spec.CM p q aN dP d h hp hq h1)
 ·exact h
 ·exact absurd h1 (c.spec.CM q p dP aN d h hq hp h2)
theorem Tb{dg:aT AV}{d:Option Nat}{t:Nat}(h:d≠some t)(x:AV):(n9 dg d x).get t=dg.get t:=by
 cases d with
 |none=>rfl
 |some e=>
  show(dg.set e x).get t=_;rw[aT.jg,if_neg (fun he=>h (by rw[he]))]
theorem vX.put(c:hI P env B f r ops pl a8 c1 cX call s S v){kL dg:aT AV}{D gN:Nat→Prop}(h:vX pl v kL D dg){p:Nat}{aN:a1}(hp:pl[p]? =some aN)(gf:¬D p)(zY:∀(q:Nat) (dP:a1),pl[q]? =some dP→(gN q↔D q∨q=p)):vX pl v kL gN (n9 dg aN.dst (v p)):=by
 refine⟨fun t=>?_,fun q dP t hq au ht bZ=>?_,fun t hm=>?_⟩
 ·rw[←h.fa t];cases jz:aN.dst with
  |none=>rfl
  |some e=>
   show((dg.set e (v p)).get t).isSome=_;rw[aT.jg];by_cases he:t=e
   ·subst he;rw[if_pos rfl];cases dg.get t<;>rfl
   ·rw[if_neg he]
 ·rcases(zY q dP hq).1 au with au|rfl
  ·have bx:aN.dst≠some t:=fun e=>by
    have:=c.CM hp hq e ht;subst this;exact gf au
   rw[←h.kr q dP t hq au ht bZ];exact Tb bx _
  ·rw[hp] at hq;cases hq;rw[ht];show(dg.set t (v q)).get t=_;rw[aT.jg,if_pos rfl];have:=h.fa t;rw[bZ] at this;cases hg:dg.get t with
   |none=>rw[hg] at this;cases this
   |some y=>rfl
 ·have bx:=hm p aN hp ((zY p aN hp).2 (.inr rfl));rw[←h.vY t (fun q dP hq au=>hm q dP hq ((zY q dP hq).2 (.inl au)))];exact Tb bx _
theorem L0(c:hI P env B f r ops pl a8 c1 cX call s S v):∀k,k≤ops.size→vX pl v (s 0) (· <k) (s k)
 |0,_=>⟨fun _=>rfl,fun p aN t hp au=>by omega,fun t _=>rfl⟩
 |k+1,aD=>by
  obtain⟨aN,mo⟩:=c.get (p:=k) (by omega);rw[c.iF.put k aN mo];exact(L0 c k (by omega)).put c mo (Nat.lt_irrefl k) (fun q dP _=>⟨fun h=>by have:q<k+1:=h;show q<k∨q=k;omega,fun h=>by show q<k+1;rcases h with h|h<;>omega⟩)
theorem Tc(c:hI P env B f r ops pl a8 c1 cX call s S v){dg:aT AV}{D:Nat→Prop}(h:vX pl v (s 0) D dg){p:Nat}{aN:a1}(hp:pl[p]? =some aN)(gf:¬D p)
  (jA:∀q,cX q p=true→D q) (eZ:∀q,q<ops.size→D q→∀x,cX x q=true→D x):∀t∈aN.reads,dg.get t=(s p).get t:=by
 intro t ht;have ih:=c.lt hp;have ah:=L0 c p (by omega);by_cases hex:∃(q:Nat) (dP:a1),pl[q]? =some dP∧dP.dst=some t
 ·obtain⟨q,dP,hq,CT⟩:=hex;have Td:∀q' xR,pl[q']? =some xR→xR.dst=some t→q'=q:=fun q' xR h1 h2=>c.CM h1 hq h2 CT;have Te:¬D q→dg.get t=(s 0).get t:=fun hnd=>h.vY t (fun q' xR h1 au h2=>by have:=Td q' xR h1 h2;subst this;exact hnd au);have Tf:¬q<p→(s p).get t=(s 0).get t:=fun hnd=>ah.vY t (fun q' xR h1 au h2=>by have:=Td q' xR h1 h2;subst this;exact hnd au);by_cases bZ:((s 0).get t).isSome=true
  ·rcases vh q p with zZ|zZ|zZ
   ·have CU:D q:=by
     rcases c.spec.SX q p dP aN zZ hq hp with h1|h1
     ·exact jA q h1
     ·exact absurd ht (h1.1 t CT)
    rw[h.kr q dP t hq CU CT bZ,ah.kr q dP t hq zZ CT bZ]
   ·subst zZ;rw[Te gf,Tf (by omega)]
   ·have CU:¬D q:=fun CU=>by
     rcases c.spec.SX p q aN dP zZ hp hq with h1|h1
     ·exact gf (eZ q (c.lt hq) CU p h1)
     ·exact absurd ht (h1.2 t CT)
    rw[Te CU,Tf (by omega)]
  ·have aM:=h.fa t;have e2:=ah.fa t;cases hg:(s 0).get t with
   |some y=>rw[hg] at bZ;exact absurd rfl bZ
   |none=>
    rw[hg] at aM e2;cases mn:dg.get t with
    |some y=>rw[mn] at aM;cases aM
    |none=>
     cases xo:(s p).get t with
     |some y=>rw[xo] at e2;cases e2
     |none=>rfl
 ·rw[h.vY t (fun q dP h1 _ h2=>hex ⟨q,dP,h1,h2⟩),ah.vY t (fun q dP h1 _ h2=>hex ⟨q,dP,h1,h2⟩)]
theorem Tg{dg sp:aT AV}{aN:a1}(h:∀t∈aN.reads,dg.get t=sp.get t):∀x∈aN.op.opnds,evalA env dg x=evalA env sp x:=by
 intro x hx;cases x with
 |t i=>
  show dg.get i=sp.get i;exact h i (ni _ (List.mem_filterMap.2 ⟨_,hx,rfl⟩))
 |c v=>rfl
 |g g=>rfl
theorem Th{dg sp:aT AV}{aN:a1}(h:∀t∈aN.reads,dg.get t=sp.get t):wantedA aN.guard dg=wantedA aN.guard sp:=by
 cases hg:aN.guard with
 |none=>rfl
 |some g=>
  obtain⟨d,b⟩:=g;simp only[wantedA];rw[h d (by simp[a1.reads,hg])]
theorem a6V{op:AOp}(h:op.lh=true):op.fW=false:=by
 cases op<;>first|rfl|cases h
theorem hI.calm(c:hI P env B f r ops pl a8 c1 cX call s S v){p:Nat}{aN:a1}(hp:pl[p]? =some aN)(he:aN.op.fW=false):
  S (p+1)=S p∧(aN.op.lh=false∨wantedA aN.guard (s p)=false)∨∃c5,aN.op.lh=true∧wantedA aN.guard (s p)=true∧S (p+1)=(S p).push c5:=by
 rcases c.iF.step p aN hp with⟨h1,_,h2⟩|⟨h1,h2⟩|⟨h1,b_,args,h2,_⟩
 ·exact .inl ⟨h2,.inr h1⟩
 ·cases ha:aN.op.lh with
  |false=>
   obtain⟨a2,h3,_⟩:=GA he ha h2;simp only[bq.val.injEq] at h3;exact .inl ⟨h3.2,.inl rfl⟩
  |true=>
   obtain⟨c5,qG,h3,_,_⟩:=S9 ha h2;simp only[bq.val.injEq] at h3;exact .inr ⟨c5,rfl,h1,h3.2⟩
 ·obtain⟨aL,as,gH,_,_⟩:=vJ h2;rw[gH] at he;cases he
theorem advance(c:hI P env B f r ops pl a8 c1 cX call s S v){ai:Fr}{a:Act}{w e4:World}{m ed:Nat→Option Nat}{df:af}{D:Nat→Prop}:∀(d k:Nat),k+d≤ops.size→(∀p aN,k≤p→p<k+d→pl[p]? =some aN→aN.op.fW=false)→
  eW P env ai a (S k) w m B→Ext f df e4 ed (S k) w m→pG pl s S df D m k→eW P env ai a (S (k+d)) w m B∧Ext f df e4 ed (S (k+d)) w m∧pG pl s S df D m (k+d)
 |0,k,_,_,h1,h2,h3=>⟨h1,h2,h3⟩
 |d+1,k,aD,ie,h1,h2,h3=>by
  obtain⟨i1,i2,i3⟩:=advance c d k (by omega) (fun p aN aE ba=>ie p aN aE (by omega)) h1 h2 h3;obtain⟨aN,mo⟩:=c.get (p:=k+d) (by omega);have he:=ie (k+d) aN (by omega) (by omega) mo;show eW P env ai a (S (k+d+1)) w m B∧Ext f df e4 ed (S (k+d+1)) w m∧pG pl s S df D m (k+d+1);rcases c.calm mo he with⟨c2,lS⟩|⟨c5,dJ,hw,c2⟩
  ·have Ti:∀p hJ,p<k+d+1→pl[p]? =some hJ→hJ.op.lh=true→wantedA hJ.guard (s p)=true→p<k+d:=fun p hJ hp hg ha hw=>by
    rcases mK p (k+d) with h|h
    ·exact h
    ·have:p=k+d:=by omega
     subst this;rw[mo] at hg;cases hg;rcases lS with h|h
     ·rw[ha] at h;cases h
     ·rw[hw] at h;cases h
   refine⟨by rw[c2];exact i1,by rw[c2];exact i2,⟨fun p hJ hp hg ha hw au=>?_,fun p p' GG GH hp mQ bM b4 aP a0 aW bK d1 d2=>?_⟩⟩
   ·obtain⟨mV,mW,mX,uz⟩:=i3.one p hJ (Ti p hJ hp hg ha hw) hg ha hw au;exact⟨mV,mW,by rw[c2];exact mX,by rw[c2];exact uz⟩
   ·exact i3.lt p p' GG GH hp (Ti p' GH mQ b4 a0 bK) bM b4 aP a0 aW bK d1 d2
  ·have hlen:=i1.ctx.rel.len;refine⟨by rw[c2];exact i1.CS c5,by rw[c2];exact i2.CS hlen c5,⟨fun p hJ hp hg ha hw au=>?_,fun p p' GG GH hp mQ bM b4 aP a0 aW bK d1 d2=>?_⟩⟩
   ·rcases mK p (k+d) with h|h
    ·obtain⟨mV,mW,mX,uz⟩:=i3.one p hJ h hg ha hw au;refine⟨mV,mW,by rw[c2];exact zA mX,by rw[c2,af.iB hlen c5 mX];exact uz⟩
    ·have:p=k+d:=by omega
     subst this;exact⟨i1.ctx.rel.a1S,i2.next,by rw[c2];exact qc _,rfl⟩
   ·rcases mK p' (k+d) with h|h
    ·exact i3.lt p p' GG GH hp h bM b4 aP a0 aW bK d1 d2
    ·have:p'=k+d:=by omega
     subst this;exact(i3.one p GG hp bM aP aW d1).2.2.1
end
structure Inv(P:Program)(env:Env)(B f:Nat)(ops:Array Oper)(pl:List a1)(a8:Nat→Nat)(cX:Nat→Nat→Bool)(s:Nat→aT AV)(S:Nat→af)(v:Nat→AV)(ds:List (Nat ⊕ (AV×List AV)))(rc:Bool)(df:af)(e4:World)(ed:Nat→Option Nat)
  (listed:Array Bool) (a:Act) (w:World) (ck:Nat) (m:Nat→Option Nat) (dg:aT AV):Prop where
 sV:Rel P df e4 ed B
 size:listed.size=ops.size
 closed:∀p,p<ops.size→dF a8 listed p→∀q,cX q p=true→dF a8 listed q
 L1:ck≤ops.size
 vZ:ck=ops.size∨∃(ei:a1),pl[ck]? =some ei∧ei.op.fW=true∧¬dF a8 listed ck
 before:∀(e:Nat) (ei:a1),e<ck→pl[e]? =some ei→ei.op.fW=true→dF a8 listed e
 after:∀(e:Nat) (ei:a1),ck<e→pl[e]? =some ei→ei.op.fW=true→¬dF a8 listed e
 bk:vX pl v (s 0) (dF a8 listed) dg
 st:eW P env ⟨dg,ds,rc⟩ a (S ck) w m B
 ext:Ext f df e4 ed (S ck) w m
 sW:pG pl s S df (dF a8 listed) m ck
section
variable {P:Program}{env:Env}{B f:Nat}{r:Option Nat}{ops:Array Oper}{pl:List a1}{a8 c1:Nat→Nat}{cX:Nat→Nat→Bool}{call:nk}{s:Nat→aT AV}{S:Nat→af}{v:Nat→AV}
variable {ds:List (Nat ⊕ (AV×List AV))}{rc:Bool}{df:af}{e4:World}{ed:Nat→Option Nat}{listed:Array Bool}{a:Act}{w:World}{ck:Nat}{m:Nat→Option Nat}{dg:aT AV}
theorem L2(c:hI P env B f r ops pl a8 c1 cX call s S v):∀(d k:Nat),k+d=ops.size→∃q,k≤q∧q≤ops.size∧(q=ops.size∨∃(ei:a1),pl[q]? =some ei∧ei.op.fW=true)∧∀(e:Nat) (ei:a1),k≤e→e<q→pl[e]? =some ei→ei.op.fW=false
 |0,k,h=>⟨k,o _,by omega,.inl (by omega),fun e ei h1 h2=>by omega⟩
 |d+1,k,h=>by
  obtain⟨aN,mo⟩:=c.get (p:=k) (by omega);cases he:aN.op.fW with
  |true=>exact⟨k,o _,by omega,.inr ⟨aN,mo,he⟩,fun e ei h1 h2=>by omega⟩
  |false=>
   obtain⟨q,h1,h2,h3,aE⟩:=L2 c d (k+1) (by omega);refine⟨q,by omega,h2,h3,fun e ei ba cr de=>?_⟩;rcases mK k e with fi|fi
   ·exact aE e ei (by omega) cr de
   ·have:e=k:=by omega
    subst this;rw[mo] at de;cases de;exact he
theorem z0(c:hI P env B f r ops pl a8 c1 cX call s S v)(bV:listed.size=ops.size){p q:Nat}(hp:p<ops.size)(hq:q<ops.size):dF a8 (listed.setIfInBounds (a8 p) true) q↔dF a8 listed q∨q=p:=by
 have h1:=c.spec.pi p hp;have h2:=c.spec.pi q hq;unfold dF;by_cases h:q=p
 ·subst h;simp[pa,bV,h1.1]
 ·have bx:a8 p≠a8 q:=fun e=>h (by rw[←h2.2,← e,h1.2]);rw[getD_set_ne false bx];simp[h]
theorem Tj(c:hI P env B f r ops pl a8 c1 cX call s S v)(bV:listed.size=ops.size){p:Nat}(hp:p<ops.size)(h:listed.getD (a8 p) true=false):¬dF a8 listed p:=by
 have h1:=c.spec.pi p hp;unfold dF;have bZ:a8 p<listed.size:=by omega
 simp[pa,bZ] at h ⊢;exact h
theorem a6W(c:hI P env B f r ops pl a8 c1 cX call s S v)(inv:Inv P env B f ops pl a8 cX s S v ds rc df e4 ed listed a w ck m dg){i:Nat}(hi:i∈Region.ready .any ops listed):
  ∃p aN J lq,p<ops.size∧i=a8 p∧pl[p]? =some aN∧ops[i]? =some J∧coper P ops J=some lq∧aN.op=lq.op∧aN.dst=lq.dst∧aN.guard=lq.guard∧¬dF a8 listed p∧(∀q,cX q p=true→dF a8 listed q):=by
 obtain⟨h1,J,ab,h2⟩:=mem_ready.1 hi;have iV:i<ops.size:=(xy.1 ab).1;obtain⟨h3,aE⟩:=c.spec.CL i iV;obtain⟨aN,mo⟩:=c.get h3;obtain⟨b7,lq,oV,ah,aM,e2,dn⟩:=c.spec.code _ aN mo;rw[aE,ab] at oV;cases oV;refine⟨c1 i,aN,J,lq,h3,aE.symm,mo,ab,ah,aM,e2,dn,Tj c inv.size h3 (by rw[aE];exact h1),fun q hq=>?_⟩;obtain⟨b7,oV,e,he,hb,lS⟩:=c.spec.SW (c1 i) h3 q hq;rw[aE,ab] at oV;cases oV;have L3:=h2 e he hb;have vA:=c.spec.back (c1 i) h3 J (by rw[aE];exact ab) e he hb;have v3:=c.spec.CL e.on vA.1;have CV:dF a8 listed (c1 e.on):=by unfold dF;rw[v3.2];exact L3
 rcases lS with rfl|lS
 ·exact CV
 ·exact inv.closed _ v3.1 CV q lS
theorem Inv.calm(c:hI P env B f r ops pl a8 c1 cX call s S v)(inv:Inv P env B f ops pl a8 cX s S v ds rc df e4 ed listed a w ck m dg){p:Nat}{aN:a1}(hp:pl[p]? =some aN)(gf:¬dF a8 listed p)(jA:∀q,cX q p=true→dF a8 listed q)(he:p≠ck)(bx:aN.op.fW=false∨p<ck)
  {cd:Act} {an:World} {aH:Nat→Option Nat} (st:eW P env ⟨n9 dg aN.dst (v p),ds,rc⟩ cd (S ck) an aH B) (ext:Ext f df e4 ed (S ck) an aH) (sW:pG pl s S df (dF a8 (listed.setIfInBounds (a8 p) true)) aH ck):
  Inv P env B f ops pl a8 cX s S v ds rc df e4 ed (listed.setIfInBounds (a8 p) true) cd an ck aH (n9 dg aN.dst (v p)):=by
 have ih:=c.lt hp;have aj:∀q,q<ops.size→(dF a8 (listed.setIfInBounds (a8 p) true) q↔dF a8 listed q∨q=p):=fun q hq=>z0 c inv.size ih hq;have jN:∀q,dF a8 listed q→dF a8 (listed.setIfInBounds (a8 p) true) q:=fun q hq=>by
  unfold dF at hq ⊢;by_cases h:a8 p=a8 q
  ·rw[←h];simp[pa,inv.size,(c.spec.pi p ih).1]
  ·rw[getD_set_ne false h];exact hq
 refine⟨inv.sV,by simpa using inv.size,fun q hq au x hx=>?_,inv.L1,?_,fun e ei h1 h2 h3=>jN e (inv.before e ei h1 h2 h3),fun e ei h1 h2 h3 aE=>?_,inv.bk.put c hp gf (fun q dP hq=>aj q (c.lt hq)),st,ext,sW⟩
 ·rcases(aj q hq).1 au with h|rfl
  ·exact jN x (inv.closed q hq h x hx)
  ·exact jN x (jA x hx)
 ·rcases inv.vZ with h|⟨ei,h1,h2,h3⟩
  ·exact .inl h
  ·exact .inr ⟨ei,h1,h2,fun h=>by
    rcases(aj ck (c.lt h1)).1 h with h|h
    ·exact h3 h
    ·exact he h.symm⟩
 ·rcases(aj e (c.lt h2)).1 aE with h|h
  ·exact inv.after e ei h1 h2 h3 h
  ·subst h;rcases bx with bx|bx
   ·rw[hp] at h2;cases h2;rw[bx] at h3;cases h3
   ·omega
theorem Inv.effect(c:hI P env B f r ops pl a8 c1 cX call s S v)(inv:Inv P env B f ops pl a8 cX s S v ds rc df e4 ed listed a w ck m dg){p:Nat}{aN:a1}(hp:pl[p]? =some aN)(gf:¬dF a8 listed p)(jA:∀q,cX q p=true→dF a8 listed q)(he:aN.op.fW=true)(hq:p=ck)
  {cd:Act} {an:World} {aH:Nat→Option Nat} (st:eW P env ⟨n9 dg aN.dst (v p),ds,rc⟩ cd (S (p+1)) an aH B) (ext:Ext f (S p) w m (S (p+1)) an aH):
  ∃CW,Inv P env B f ops pl a8 cX s S v ds rc df e4 ed (listed.setIfInBounds (a8 p) true) cd an CW aH (n9 dg aN.dst (v p)):=by
 have ih:=c.lt hp;have aj:∀q,q<ops.size→(dF a8 (listed.setIfInBounds (a8 p) true) q↔dF a8 listed q∨q=p):=fun q hq=>z0 c inv.size ih hq;have jN:∀q,dF a8 listed q→dF a8 (listed.setIfInBounds (a8 p) true) q:=fun q hq=>by
  unfold dF at hq ⊢;by_cases h:a8 p=a8 q
  ·rw[←h];simp[pa,inv.size,(c.spec.pi p ih).1]
  ·rw[getD_set_ne false h];exact hq
 subst hq;obtain⟨q,h1,h2,h3,aE⟩:=L2 c (ops.size-(p+1)) (p+1) (by omega);have a6X:pG pl s S df (dF a8 (listed.setIfInBounds (a8 p) true)) aH (p+1):=by
  have back:∀p' hJ,p'<p+1→pl[p']? =some hJ→hJ.op.lh=true→¬dF a8 (listed.setIfInBounds (a8 p) true) p'→p'<p∧¬dF a8 listed p':=fun p' hJ bZ hg ha au=>by
   refine⟨?_,fun h=>au (jN p' h)⟩;rcases mK p' p with h|h
   ·exact h
   ·have:p'=p:=by omega
    subst this;rw[hp] at hg;cases hg;rw[a6V ha] at he;cases he
  refine⟨fun p' hJ bZ hg ha hw au=>?_,fun p1 p2 aP a0 ar hl2 bM b4 Tk Tl aW bK d1 d2=>?_⟩
  ·obtain⟨cC,c0⟩:=back p' hJ bZ hg ha au;obtain⟨mV,mW,mX,uz⟩:=inv.sW.one p' hJ cC hg ha hw c0;refine⟨?_,mW,A_ mX ext.next,by rw[ext.un _ mX mV];exact uz⟩;cases hm:aH (S p').next with
   |none=>rfl
   |some b=>
    rcases ext.new _ _ hm with h|⟨h,_⟩
    ·rw[mV] at h;cases h
    ·omega
  ·have c0:=back p2 a0 hl2 b4 Tl d2;have cC:=back p1 aP (by omega) bM Tk d1;exact inv.sW.lt p1 p2 aP a0 ar c0.1 bM b4 Tk Tl aW bK cC.2 c0.2
 obtain⟨CX,CY,CZ⟩:=advance c (q-(p+1)) (p+1) (by omega) (fun e ei ba cr de=>aE e ei ba (by omega) de) st (inv.ext.trans inv.sV ext) a6X;have hq:p+1+(q-(p+1))=q:=by omega
 rw[hq] at CX CY CZ;refine⟨q,inv.sV,by simpa using inv.size,fun x hx au y aw=>?_,h2,?_,fun e ei ba cr de=>?_,fun e ei ba cr de fi=>?_,inv.bk.put c hp gf (fun x bA hx=>aj x (c.lt hx)),CX,CY,CZ⟩
 ·rcases(aj x hx).1 au with h|rfl
  ·exact jN y (inv.closed x hx h y aw)
  ·exact jN y (jA y aw)
 ·rcases h3 with h|⟨ei,ba,cr⟩
  ·exact .inl h
  ·refine .inr ⟨ei,ba,cr,fun h=>?_⟩;rcases(aj q (c.lt ba)).1 h with h|h
   ·exact inv.after q ei (by omega) ba cr h
   ·omega
 ·rcases vh e p with fi|fi|fi
  ·exact jN e (inv.before e ei fi cr de)
  ·exact(aj e (c.lt cr)).2 (.inr fi)
  ·have:=aE e ei (by omega) ba cr;rw[this] at de;cases de
 ·rcases(aj e (c.lt cr)).1 fi with h|h
  ·exact inv.after e ei (by omega) cr de h
  ·omega
theorem Inv.lt(c:hI P env B f r ops pl a8 c1 cX call s S v)(inv:Inv P env B f ops pl a8 cX s S v ds rc df e4 ed listed a w ck m dg){p:Nat}{aN:a1}(hp:pl[p]? =some aN)(au:dF a8 listed p):p<ck:=by
 have ih:=c.lt hp;rcases inv.vZ with h|⟨ei,h1,h2,h3⟩
 ·omega
 ·rcases vh p ck with h|h|h
  ·exact h
  ·subst h;exact absurd au h3
  ·rcases c.spec.uw ck p ei h ih h1 h2 with aE|aE
   ·exact absurd (inv.closed p ih au ck aE) h3
   ·obtain⟨_,eI,_,_,_,_,_,_,_,b4,_,e0,_⟩:=aE.ops;rw[hp] at b4;cases b4;exact absurd au (inv.after p aN h hp (by rw[e0];rfl))
theorem Inv.switch(c:hI P env B f r ops pl a8 c1 cX call s S v)(inv:Inv P env B f ops pl a8 cX s S v ds rc df e4 ed listed a w ck m dg){jB:Nat→aT AV}{mU:Nat→af}{a2:Nat→AV}(h1:∀q,q≤ck→jB q=s q∧mU q=S q)(h2:∀q,q<ck→a2 q=v q):Inv P env B f ops pl a8 cX jB mU a2 ds rc df e4 ed listed a w ck m dg:=by
 refine⟨inv.sV,inv.size,inv.closed,inv.L1,inv.vZ,inv.before,inv.after,⟨fun t=>?_,fun p aN t hp au ht bZ=>?_,fun t hm=>?_⟩,by rw[(h1 ck (o _)).2];exact inv.st,by rw[(h1 ck (o _)).2];exact inv.ext,⟨fun p aN bZ hp ha hw au=>?_,fun p p' aN hJ h3 aE ba cr de fi hD ij a6Y a6Z=>?_⟩⟩
 ·rw[(h1 0 (hv _)).1];exact inv.bk.fa t
 ·rw[(h1 0 (hv _)).1] at bZ;rw[h2 p (inv.lt c hp au)];exact inv.bk.kr p aN t hp au ht bZ
 ·rw[(h1 0 (hv _)).1];exact inv.bk.vY t hm
 ·rw[(h1 p (by omega)).1] at hw;rw[(h1 p (by omega)).2,(h1 (p+1) (by omega)).2,(h1 ck (o _)).2];exact inv.sW.one p aN bZ hp ha hw au
 ·rw[(h1 p (by omega)).1] at hD;rw[(h1 p' (by omega)).1] at ij;rw[(h1 p (by omega)).2,(h1 p' (by omega)).2];exact inv.sW.lt p p' aN hJ h3 aE ba cr de fi hD ij a6Y a6Z
end
theorem Tn{f:Nat}{ao:aC→Option AV}{I b3:af}{ad:Option Nat}{a x:aC}{v:AV}(h:opx f ao I (.store ad a x)=some (.val v b3)):
  ∃id off c cQ,ao a=some (.p (some (id,off)))∧I.get id=some c∧v=dR∧b3=I.set id cQ∧∀dD:af,dD.get id=some c→opx f ao dD (.store ad a x)=some (.val dR (dD.set id cQ)):=by
 simp only[opx] at h;split at h<;>try (cases h;done)
 rename_i id off u ha hx;split at h<;>try (cases h;done)
 rename_i c7;split at h<;>try (cases h;done)
 rename_i dV;split at h<;>try (cases h;done)
 ·rename_i c hg;split at h<;>cases h;rename_i cQ hc1;refine⟨id,off,.cells c,.cells cQ,ha,hg,rfl,rfl,fun dD h2=>?_⟩;simp only[opx,ha,hx,h2,hc1];rw[if_neg c7,if_pos dV]
 ·rename_i c r hg;unfold pf at h;split at h<;>cases h;rename_i cQ hc1;refine⟨id,off,.eT c r,.eT cQ r,ha,hg,rfl,rfl,fun dD h2=>?_⟩;simp only[opx,ha,hx,h2,pf,hc1];rw[if_neg c7,if_pos dV]
section
variable {P:Program}{env:Env}{B f:Nat}{r:Option Nat}{ops:Array Oper}{pl:List a1}{a8 c1:Nat→Nat}{cX:Nat→Nat→Bool}{call:nk}{s:Nat→aT AV}{S:Nat→af}{v:Nat→AV}
theorem a7a(c:hI P env B f r ops pl a8 c1 cX call s S v){x y:Nat}(k5:CJ pl cX x y){bA eI:a1}(hx:pl[x]? =some bA)(aw:pl[y]? =some eI):
  bA.op.fW=true∧eI.op.fW=true∧∃T nv,opx f (evalA env (s y)) (S x) eI.op=some (.val (v y) T)∧opx f (evalA env (s x)) T bA.op=some (.val (v x) nv)∧wantedA bA.guard (s x)=true∧wantedA eI.guard (s y)=true∧
   (∀id,nv.get id=(S ops.size).get id)∧nv.next=(S ops.size).next:=by
 obtain⟨To,a7b,s1,aP,ep,s2,a0,hH,h1,h2,h3,aE,ba,cr,de,fi,_⟩:=k5.ops;rw[hx] at h1;cases h1;rw[aw] at h2;cases h2;have iW:=k5.CK;have hn:y+1=ops.size:=by have:=k5.last;have:=c.spec.len;omega
 have stx:=c.iF.step x bA hx;have a7c:=c.iF.step y eI aw;have Tp:wantedA bA.guard (s x)=true:=by rw[de];rfl
 have Tq:wantedA eI.guard (s y)=true:=by rw[fi];rfl
 obtain⟨i,vW,j,zX,aM,e2,fw⟩:=c.k5 x y k5 bA eI s1 aP ep s2 a0 hH hx aw h3 aE;have gD:opx f (evalA env (s x)) (S x) bA.op=some (.val (v x) (S (x+1))):=by
  rcases stx with⟨h,_⟩|⟨_,h⟩|⟨_,b_,args,h,_⟩
  ·rw[Tp] at h;cases h
  ·exact h
  ·obtain⟨_,_,gH,_,_⟩:=vJ h;rw[h3] at gH;cases gH
 have Tr:opx f (evalA env (s y)) (S y) eI.op=some (.val (v y) (S (y+1))):=by
  rcases a7c with⟨h,_⟩|⟨_,h⟩|⟨_,b_,args,h,_⟩
  ·rw[Tq] at h;cases h
  ·exact h
  ·obtain⟨_,_,gH,_,_⟩:=vJ h;rw[aE] at gH;cases gH
 rw[h3] at gD;rw[aE] at Tr;obtain⟨b8V,b8W,cQ,L4,bM,b4,dy,e0,ft⟩:=Tn gD;obtain⟨b8X,b8Y,eA,GI,bE,br,bb,cm,dN⟩:=Tn Tr;rw[aM] at bM;cases bM;rw[e2] at bE;cases bE;have CO:=af.bW b4;rw[iW] at e0;have az:(S x).get j=some eA:=by
  rw[e0,af.jg trivial _ CO,if_neg (oa fw)] at br;exact br
 have uA:=af.bW az;have qI:=dN (S x) az;have hi:((S x).set j GI).get i=some cQ:=by
  rw[af.jg trivial _ uA,if_neg fw];exact b4
 have a7d:=ft _ hi;refine⟨by rw[h3];rfl,by rw[aE];rfl,_,_,by rw[aE,bb];exact qI,by rw[h3,dy];exact a7d,Tp,Tq,fun id=>?_,?_⟩
 ·rw[←hn,cm,e0];have a7e:i<((S x).set j GI).next:=CO;have a7f:j<((S x).set i L4).next:=uA;rw[af.jg trivial _ a7e,af.jg trivial _ uA,af.jg trivial _ a7f,af.jg trivial _ CO];by_cases h1:id=i
  ·by_cases h2:id=j
   ·exact absurd (h1.symm.trans h2) fw
   ·rw[if_pos h1,if_neg h2,if_pos h1]
  ·rw[if_neg h1];by_cases h2:id=j
   ·rw[if_pos h2,if_pos h2]
   ·rw[if_neg h2,if_neg h2,if_neg h1]
 ·rw[←hn,cm,e0];rfl
theorem L5{I aq:af}(h:∀id,I.get id=aq.get id)(id:Nat):live I id↔live aq id:=by unfold live;rw[h id]
theorem a7g{I aq:af}{m:Nat→Option Nat}(h:∀id,I.get id=aq.get id):a_ I m=a_ aq m:=by
 funext b
 simp only[a_,live,h]
theorem eW.congr{ai:Fr}{a:Act}{I aq:af}{w:World}{m:Nat→Option Nat}(st:eW P env ai a I w m B)(h:∀id,I.get id=aq.get id)(hn:I.next=aq.next):eW P env ai a aq w m B:=by
 have ab:=a7g (m:=m) h;have al:=st.ctx.rel;have mh:Rel P aq w m B:=by
  refine⟨trivial,fun id b hb=>by rw[←hn];exact al.fa id b hb,fun id b J h1 h2 h3=>?_,fun i eC b h1 h2 h3 aE=>al.inj i eC b h1 h2 ((L5 h i).2 h3) ((L5 h eC).2 aE),al.base,al.cE⟩;rw[←ab];exact al.obj id b J h1 (by rw[h id];exact h2) h3
 exact st.mono mh (fun _ _ h=>h) (o _) (fun _ _ h=>h) (fun b _ hb=>⟨rfl,by rw[←ab];exact hb⟩)
theorem Ext.congr{f:Nat}{df I aq:af}{e4 w:World}{ed m:Nat→Option Nat}(e:Ext f df e4 ed I w m)(h:∀id,I.get id=aq.get id)(hn:I.next=aq.next):Ext f df e4 ed aq w m:=
 ⟨e.mono,e.new,by rw[←hn];exact e.next,e.size,e.fJ,e.aF,fun id h1 h2=>by rw[←h id];exact e.low id h1 h2,fun id h1 h2=>e.dead id h1 ((L5 h id).2 h2),e.os,e.tape,e.out,fun id h1 h2=>by rw[←h id];exact e.un id h1 h2⟩
end
end
end Go.Lyc
end
