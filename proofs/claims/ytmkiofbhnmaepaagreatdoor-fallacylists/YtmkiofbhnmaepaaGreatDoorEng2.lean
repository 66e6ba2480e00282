/-
  An abstract executor of the program's code, and that it is sound, part 2. No conditions: definitions and laws.
-/
import Derived.Test.YtmkiofbhnmaepaaGreatDoorEng1
import Derived.TacticsIn
import Derived.Scope
import Derived.RangeFuncRecord
import Derived.RecoverIn
set_option linter.all false
noncomputable section
namespace Go.Lyc
def eu:=@Option.map_eq_some_iff
def dG:=@Option.bind_eq_bind
def c8:=@Option.bind_eq_some_iff
def dT:=@Option.pure_def
def n2:=@List.cons_append
def UU:=@List.take_succ_cons
def tU:=@List.drop_zero
def KG:=@Nat.ble_eq
def tV:=@Bool.cond_eq_ite
def sz:=@Go.Oper.semAt_eq
def wh:=@Go.CallsIn.mono
def UW:=@Go.World.putObj_heap_other
def UX:=@Array.toList_setIfInBounds
def UY:=@List.replicate_succ
def UZ:=@List.getElem?_eq_none
def KH:=@Array.toList_append
def KI:=@List.drop_eq_nil_of_le
def wi:=@List.nil_append
def sA:=@Nat.lt_of_lt_of_le
def ya:=@Prod.mk.injEq
def kn:=@List.append_assoc
def U0:=@List.getElem?_cons_zero
def yb:=@List.mem_of_getElem?
def yc:=@Nat.testBit_or
def E4:=@Nat.testBit_two_pow
def wj:=@List.mem_filter
def wk:=@List.mem_zipIdx_iff_getElem?
def p5:=@List.getD_eq_getElem?_getD
def j3:=@List.getElem?_map
def KJ:=@List.getElem?_zipIdx
def U1:=@Array.mem_of_getElem?
def Bh:=@Bool.not_true
def tW:=@Bool.false_or
def tX:=@List.any_eq_true
def U2:=@Bool.and_eq_false_iff
def mO:=@List.not_mem_nil
def tY:=@Nat.lt_trichotomy
set_option maxHeartbeats 0
set_option maxRecDepth 100000
section
variable [Tok]
open Go.RowKit
section
variable {P:Program}{w:World}{m:Nat→Option Nat}{O:Nat→Prop}{B:Nat}
theorem c0C{t e:TypeId}{R:Option Nat}(hu:P.underlying t=some (.slice e))(hs:shapeOf P e=some R){ol:Bool}{xs:List AV}{u:Value}(hx:aq w m O B (.aD ol R xs) u)
  {bs hi:Option Value} {oQ:IntKind} (au:jr 0 bs 0) (hh:jr xs.length hi xs.length) (kV:hi.isSome=true) (Bd:0<xs.length):
  ∃bL,(Instr.sliceAt t u bs hi (some (.int oQ (Int.ofNat xs.length)))).run P w= .ok bL w∧aq w m O B (.jl ol R xs) bL:=by
 obtain⟨_,bZ,_⟩:=jI hs w;have bS:xs≠[]:=AQ.1 Bd;cases hx with
 |kR=>exact absurd rfl bS
 | @aD _ _ _ _ _ _ ar off dR sp aZ cY np ab af nX hf dS=>
  obtain rfl:=dS bS;have hb:∀d n,jr d hi n→∃rh,hi=some (.int rh (Int.ofNat n)):=fun d n h=>by
   cases h with
   |none=>simp at kV
   |some rh h=>exact⟨rh,rfl⟩
  obtain⟨rh,rfl⟩:=hb _ _ hh;refine⟨.slice (some ⟨ar,off,none⟩) xs.length xs.length,?_,.jl rfl bS (.aD aZ cY np ab af (bK _) hf (fun _=>rfl))⟩;simp only[Instr.sliceAt,Instr.slice,run_underlying hu,er,ez,J_ au (ir _) (bK _) nX,bZ,gX];split<;>simp[iz]
theorem c0D{t e:TypeId}{R:Option Nat}(hu:P.underlying t=some (.slice e))(hs:shapeOf P e=some R){ol:Bool}{xs:List AV}{u:Value}(hx:aq w m O B (.aD ol R xs) u)
  {bs hi:Option Value} {l h:Nat} (au:jr 0 bs l) (hh:jr xs.length hi h) (h1:l≤h) (h2:h≤xs.length):
  ∃bL,(Instr.sliceAt t u bs hi none).run P w= .ok bL w∧aq w m O B (.aD ol R ((xs.drop l).take (h-l))) bL:=by
 obtain⟨_,bZ,_⟩:=jI hs w;cases hx with
 |kR=>
  have aE:h=0:=by simpa using h2
  subst aE;have aY:l=0:=by omega
  subst aY;refine⟨.slice none 0 0,?_,?_⟩
  ·have:=pZ (P:=P) (w:=w) (isSlice:=true) (len:=0) (cap:=0) au hh (bK 0) (bK 0);simp[Instr.sliceAt,Instr.slice,run_underlying hu,this,bZ]
  ·simpa using aq.kR
 | @aD _ _ _ _ _ _ ar off dR sp aZ cY np ab af nX hf dS=>
  by_cases p6:xs=[]
  ·subst p6;have aE:h=0:=by simpa using h2
   subst aE;have aY:l=0:=by omega
   subst aY;refine⟨.slice (some ⟨ar,off,sp⟩) 0 dR,?_,?_⟩
   ·have:=pZ (P:=P) (w:=w) (isSlice:=true) (len:=0) (cap:=dR) au hh (bK 0) (ir _);simp[Instr.sliceAt,Instr.slice,run_underlying hu,this,bZ,Addr.add]
   ·exact .aD (xs:=[]) (fun _ _=>undef) (fun h=>absurd rfl h) (fun i h=>by simp at h) (fun i h=>by simp at h) (fun i h=>by simp at h) (ir _) (fun v av=>by simp at av) (fun h=>absurd rfl h)
  obtain rfl:=dS p6;have hlen:((xs.drop l).take (h-l)).length=h-l:=by simp;omega
  have bX:(Instr.sliceAt t (.slice (some ⟨ar,off,none⟩) xs.length dR) bs hi none).run P w= .ok (.slice (some ⟨ar,if dR=l then off else off+l*shN R,none⟩) (h-l) (dR-l)) w:=by
   simp only[Instr.sliceAt,Instr.slice,run_underlying hu,er,ez,pZ au hh h1 (jk h2 nX),bZ,gX];split<;>simp[iz]
  refine⟨_,bX,?_⟩;by_cases bw:h-l=0
  ·have eG:(xs.drop l).take (h-l)=[]:=nc (by omega);rw[eG,bw];exact .aD (xs:=[]) (fun _ _=>undef) (fun h=>absurd rfl h) (fun i h=>by simp at h) (fun i h=>by simp at h) (fun i h=>by simp at h) (ir _) (fun v av=>by simp at av) (fun h=>absurd rfl h)
  ·have jK:¬dR=l:=by omega
   rw[if_neg jK];have dd:∀i (hi:i<((xs.drop l).take (h-l)).length),((xs.drop l).take (h-l))[i]=xs[l+i]'(by omega):=fun i hi=>by
    rw[AM,JB]
   have bS:xs≠[]:=fun e=>by subst e;simp at h2;omega
   have key:aq w m O B (.aD ol R ((xs.drop l).take (h-l))) (.slice (some ⟨ar,off+l*shN R,none⟩) ((xs.drop l).take (h-l)).length (dR-l)):=by
    refine .aD (fun i j=>aZ (l+i) j) (fun _=>cY bS) (fun i hi=>?_) (fun i hi j aB=>?_) (fun i hi j aB=>?_) (by omega) (fun v av=>hf v (mH (sa av))) (fun _=>rfl)
    ·rw[dd i hi];exact np _ (by omega)
    ·simp only[dd i hi] at aB;have:=ab (l+i) (by omega) j aB;rw[←this];congr 2;rw[jV];omega
    ·simp only[dd i hi] at aB ⊢;exact af (l+i) (by omega) j aB
   rw[hlen] at key;exact key
end
theorem Rel.wm{P:Program}{o:ad}{w:World}{m:Nat→Option Nat}{B:Nat}(af:Rel P o w m B):∀b,a_ o m b→B≤b:=fun _ ⟨_,h,_⟩=>af.base _ _ h
structure Ctx(P:Program)(env:Env)(o:ad)(w:World)(m:Nat→Option Nat)(B:Nat)(al:aP AV)(a:Act):Prop where
 rel:Rel P o w m B
 aW:iw w m (a_ o m) B al a.tmps.toList
 globs:Globs env w B
section
variable {P:Program}{env:Env}{o:ad}{w:World}{m:Nat→Option Nat}{B:Nat}{f:Nat}{al:aP AV}{a:Act}
theorem Ctx.aw(c:Ctx P env o w m B al a){x:Operand}{bq:az}(hx:opdOf x=some bq){v:AV}(av:evalA env al bq=some v):aq w m (a_ o m) B v (a.eval x):=J5 c.rel.wm c.globs c.aW hx av
theorem Ctx.lN(c:Ctx P env o w m B al a){x:Option Operand}{bq:Option az}(hx:opdO x=some bq){d n:Nat}(av:bndO (evalA env al) bq d=some n):jr d (x.map a.eval) n:=b8Y c.rel.wm c.globs c.aW hx av
theorem c0E(c:Ctx P env o w m B al a){r:Result Next}{v:AV}(h:∃u,r= .ok (.value u) w∧aq w m (a_ o m) B v u):e7 P B f o w m v o r:=
 let⟨_,h1,h2⟩:=h;e7.pure c.rel h1 h2
theorem e0(c:Ctx P env o w m B al a){s:Sem Value}{v:AV}(h:∃u,s.run P w= .ok u w∧aq w m (a_ o m) B v u):e7 P B f o w m v o ((do pure (.value (←s)):Sem Next).run P w):=by
 obtain⟨u,h1,h2⟩:=h;exact e7.pure c.rel (by simp[h1]) h2
theorem n3{s:Sem Value}{v:AV}{ah:ad}(h:∃u ao aG,s.run P w= .ok u ao∧aq ao aG (a_ ah aG) B v u∧Rel P ah ao aG B∧Ext f o w m ah ao aG):e7 P B f o w m v ah ((do pure (.value (←s)):Sem Next).run P w):=by
 obtain⟨u,ao,aG,h1,h2,h3,aN⟩:=h;exact⟨u,ao,aG,.inl (by simp[h1]),h2,h3,aN⟩
theorem E5{s:Sem Unit}{ah:ad}(h:∃ao,s.run P w= .ok () ao∧Rel P ah ao m B∧Ext f o w m ah ao m):e7 P B f o w m dw ah ((do s;pure .skip:Sem Next).run P w):=by
 obtain⟨ao,h1,h2,h3⟩:=h;exact⟨undef,ao,m,.inr ⟨by simp[h1],rfl⟩,aq.undef,h2,h3⟩
variable {I:Oper}{ch:AOp}{v:AV}{ah:ad}
theorem U3(c:Ctx P env o w m B al a){x:Operand}(aj:I.op= .move x∨I.op= .assign x)(ab:cop P I=some ch)(h:opx f (evalA env al) o ch=some (.val v ah)):e7 P B f o w m v ah ((execOp a.eval I).run P w):=by
 have hx:∃bq,opdOf x=some bq∧ch= .bU bq:=by
  unfold cop at ab;rcases aj with aj|aj<;>(rw[aj] at ab;simp only[eu] at ab;obtain⟨bq,h1,rfl⟩:=ab;exact⟨bq,h1,rfl⟩)
 obtain⟨bq,hx,rfl⟩:=hx;simp only[opx] at h;split at h<;>cases h;rename_i av;have e:execOp a.eval I=pure (.value (a.eval x)):=by unfold execOp;rcases aj with aj|aj<;>rw[aj]
 rw[e];exact e7.pure c.rel rfl (c.aw hx av)
theorem c0F(c:Ctx P env o w m B al a){x y z:Operand}(aj:I.op= .pick x y z)(ab:cop P I=some ch)(h:opx f (evalA env al) o ch=some (.val v ah)):e7 P B f o w m v ah ((execOp a.eval I).run P w):=by
 simp only[cop,aj,dG,c8,dT,ca] at ab;obtain⟨bq,hx,ev,aJ,tZ,bw,rfl⟩:=ab;simp only[opx] at h;split at h<;>try (cases h;done)
 rename_i t ht;split at h<;>cases h;rename_i av;have hb:=(c.aw hx ht).tI;simp only[execOp,aj];refine c0E c ⟨if t then a.eval y else a.eval z,by simp[hb];cases t<;>rfl,?_⟩;cases t with
 |true=>exact c.aw aJ av
 |false=>exact c.aw bw av
theorem c0G(c:Ctx P env o w m B al a){t:TypeId}(aj:I.op= .alloc t)(ab:cop P I=some ch)(h:opx f (evalA env al) o ch=some (.val v ah)):e7 P B f o w m v ah ((execOp a.eval I).run P w):=by
 simp only[cop,aj,eu] at ab;obtain⟨z,bw,rfl⟩:=ab;simp only[opx] at h;cases h;simp only[execOp,aj];exact n3 (b8E c.rel bw)
theorem c0H(c:Ctx P env o w m B al a){t:TypeId}{x:Operand}(aj:I.op= .box t x)(ab:cop P I=some ch)(h:opx f (evalA env al) o ch=some (.val v ah)):e7 P B f o w m v ah ((execOp a.eval I).run P w):=by
 simp only[cop,aj,eu] at ab;obtain⟨bq,hx,rfl⟩:=ab;simp only[opx] at h;split at h<;>try (cases h;done)
 rename_i bJ av;cases hval:bJ.val with
 |false=>rw[hval] at h;cases h
 |true=>
  rw[hval,cond_true] at h;cases h;simp only[execOp,aj];exact n3 (b8C c.rel (c.aw hx av) (Kb (c.aw hx av) hval))
theorem c0I(c:Ctx P env o w m B al a){t:TypeId}{x:Operand}(aj:I.op= .load t x)(ab:cop P I=some ch)(h:opx f (evalA env al) o ch=some (.val v ah)):e7 P B f o w m v ah ((execOp a.eval I).run P w):=by
 simp only[cop,aj,dG,c8,dT,ca] at ab;obtain⟨R,hs,bq,hx,rfl⟩:=ab;simp only[opx] at h;simp only[execOp,aj];split at h<;>try (cases h;done)
 rename_i p hp;split at h<;>cases h;rename_i av;exact e0 c (b8z c.rel hs (c.aw hx hp) av)
theorem c0J(c:Ctx P env o w m B al a){t:TypeId}{x y:Operand}(aj:I.op= .store t x y)(ab:cop P I=some ch)(h:opx f (evalA env al) o ch=some (.val v ah)):e7 P B f o w m v ah ((execOp a.eval I).run P w):=by
 simp only[cop,aj,dG,c8,dT,ca] at ab;obtain⟨R,hs,bq,hx,ev,aJ,rfl⟩:=ab;simp only[opx] at h;simp only[execOp,aj];split at h<;>try (cases h;done)
 rename_i id off bJ hp av;split at h<;>try (cases h;done)
 rename_i eF;split at h<;>try (cases h;done)
 rename_i rn;split at h<;>try (cases h;done)
 rotate_left
 ·rename_i cs r hg;unfold nR at h;split at h<;>cases h;rename_i bR df;obtain⟨ar,hm,kT⟩:=(c.aw hx hp).sn;rw[kT];exact E5 (b8B c.rel hs (by simpa [fX] using eF) hm hg rn df (c.aw aJ av))
 rename_i cs hg;split at h<;>cases h;rename_i bR df;obtain⟨ar,hm,kT⟩:=(c.aw hx hp).sn;rw[kT];exact E5 (b8A c.rel hs (by simpa [fX] using eF) hm hg rn df (c.aw aJ av))
theorem c0K(c:Ctx P env o w m B al a){x:Operand}(aj:I.op= .nilCheck x)(ab:cop P I=some ch)(h:opx f (evalA env al) o ch=some (.val v ah)):e7 P B f o w m v ah ((execOp a.eval I).run P w):=by
 simp only[cop,aj,eu] at ab;obtain⟨bq,hx,rfl⟩:=ab;simp only[opx] at h;split at h<;>try (cases h;done)
 rename_i bJ av;cases hn:nilOk bJ with
 |false=>rw[hn] at h;cases h
 |true=>
  rw[hn,cond_true] at h;cases h;exact e7.pure c.rel (b9g aj (c.aw hx av) hn) (c.aw hx av)
theorem c0L(c:Ctx P env o w m B al a){op:UnOp}{t:TypeId}{x:Operand}(aj:I.op= .unOp op t x)(ab:cop P I=some ch)(h:opx f (evalA env al) o ch=some (.val v ah)):e7 P B f o w m v ah ((execOp a.eval I).run P w):=by
 simp only[execOp,aj];cases op<;>simp only[cop,aj,eu,reduceCtorEq] at ab
 ·obtain⟨bq,hx,rfl⟩:=ab;simp only[opx] at h;split at h<;>cases h;rename_i av;exact e0 c ⟨_,b9i (c.aw hx av),.i _ _⟩
 ·obtain⟨bq,hx,rfl⟩:=ab;simp only[opx] at h;split at h<;>cases h;rename_i av;exact e0 c ⟨_,b9h (c.aw hx av),.b _⟩
theorem U4:∀ {ba mP:List Nat} {l r:List AV} {res:Bool},nf (ba++mP) l r=some res→∃a b,nf ba (l.take ba.length) (r.take ba.length)=some a∧nf mP (l.drop ba.length) (r.drop ba.length)=some b∧res=(a&&b)
 |[],mP,l,r,res,h=>⟨true,res,rfl,by simpa using h,by simp⟩
 |k::ba,mP,l,r,res,h=>by
  rw[n2,leafEqs_cons] at h;split at h<;>try (cases h;done)
  rename_i x xs y aZ;split at h<;>cases h;rename_i a b ha hb;obtain⟨cq,b',h1,h2,rfl⟩:=U4 hb;refine⟨a&&cq,b',?_,h2,by rw[Bool.and_assoc]⟩;rw[jD,UU,UU,leafEqs_cons];simp only[ha,h1]
theorem KK{d:Nat}{cs ds:List AV}{us aX:Array Value}{O:Nat→Prop}(au:bm w m O B cs us.toList)(af:bm w m O B ds aX.toList)(eF:∀x∈cs,conf none x=true)(bl:∀x∈ds,conf none x=true):
  ∀(fs:List Field) (i:Nat) (ba:List Nat) (res:Bool),flatS P i fs=some ba→nf ba (cs.drop i) (ds.drop i)=some res→∀ao,
  (forIn fs ((none:Option Bool),()) (fun(f:Field) (_:Option Bool×Unit)=>
      if f.name= "_" then(pure (ForInStep.yield (none,())):Sem (ForInStep (Option Bool×Unit)))
      else do
       let a ←part f.type us f.offset
       let b ←part f.type aX f.offset
       let c ←Op.equalIn (d+2) f.type a b
       if c=false then pure (ForInStep.done (some false,())) else pure (ForInStep.yield (none,())))).run P ao= .ok (if res then(none,()) else(some false,())) ao
 |[],i,ba,res,ax,h,ao=>by
  rw[flatS] at ax;cases ax;rw[leafEqs_nil] at h;split at h<;>cases h;simp
 |f::fs,i,ba,res,ax,h,ao=>by
  rw[flatS] at ax;split at ax<;>try (cases ax;done)
  rename_i ab;obtain⟨h1,rfl⟩:=ab;split at ax
  ·rename_i k ld;split at ax<;>try (cases ax;done)
   rename_i hs;obtain⟨fL,oR,rfl⟩:=eu.1 ax;rw[leafEqs_cons] at h;split at h<;>try (cases h;done)
   rename_i x xs y aZ ex U5;split at h<;>cases h;rename_i a b ha hb;obtain⟨u,hu,hE⟩:=(au.drop f.offset).get (i:=0) (v:=x) (by rw[ex];rfl);obtain⟨v,av,Kt⟩:=(af.drop f.offset).get (i:=0) (v:=y) (by rw[U5];rfl);rw[pG,vA,lB] at hu av;obtain⟨aE,_⟩:=v_ ld hE Kt ha;have ay:=KK au af eF bl fs (f.offset+1) fL b oR (by rw[←q2,← q2,ex,U5];exact hb) ao (d:=d);rw[Ef];simp only[h1,if_false,er,Be hs hu,Be hs av,ez,aE];cases a with
   |false=>simp
   |true=>simpa using ay
  ·split at ax<;>try (cases ax;done)
   rename_i mP yd;split at ax<;>try (cases ax;done)
   rename_i hs;obtain⟨fL,oR,rfl⟩:=eu.1 ax;obtain⟨a,b,ha,hb,rfl⟩:=U4 h;obtain⟨g1,g2,_⟩:=jI hs ao;have hx:∀ {cs:List AV} {us:Array Value},bm w m O B cs us.toList→(part f.type us f.offset).run P ao= .ok (.agg (us.extract f.offset (f.offset+mP.length))) ao∧bm w m O B ((cs.drop f.offset).take mP.length) (us.extract f.offset (f.offset+mP.length)).toList:=fun ab=>by
    refine⟨by simp[part,g1,g2,shN],?_⟩;have:=(ab.drop f.offset).take mP.length;simpa using this
   obtain⟨p1,r1⟩:=hx au;obtain⟨jL,jJ⟩:=hx af;obtain⟨gq,hu,p7,hf,hm⟩:=E0 yd;have aE:(Op.equalIn (d+2) f.type (.agg (us.extract f.offset (f.offset+mP.length))) (.agg (aX.extract f.offset (f.offset+mP.length)))).run P ao= .ok a ao:=by
    have:=forIn_eq (ao:=ao) (d:=d) gq.toList 0 mP _ _ (us.extract f.offset (f.offset+mP.length)) (aX.extract f.offset (f.offset+mP.length)) a hf hm (by rw[tU];exact r1) (by rw[tU];exact jJ) ha;rw[eqStruct_run hu p7 (d+1),this];cases a<;>simp
   have ay:=KK au af eF bl fs (f.offset+mP.length) fL b oR (by rw[←q2,← q2];exact hb) ao (d:=d);rw[Ef];simp only[h1,if_false,er,p1,jL,ez,aE];cases a with
   |false=>simp
   |true=>simpa using ay
theorem c0M{O:Nat→Prop}{t:TypeId}{kind:Nat}(ax:stK P t=some kind){x y:AV}{v:Bool}{a b:Value}(ha:aq w m O B x a)(hb:aq w m O B y b)(h:isNilEq kind x y=some v)(fu gu:Operand):
  (((do eqGuard .eql t fu gu a b;Go.binOp .eql t a b:Sem Value).run P w= .ok (.bool v) w∧(do eqGuard .neq t fu gu a b;Go.binOp .neq t a b:Sem Value).run P w= .ok (.bool (!v)) w)):=by
 unfold stK at ax;split at ax<;>try (cases ax;done)
 rename_i fs hu;split at ax<;>try (cases ax;done)
 rename_i p7;have p7:P.stoodInHeld t=false:=by simpa using p7
 split at ax<;>try (cases ax;done)
 rename_i ba yd;split at ax<;>cases ax;rename_i an;obtain⟨an,hg⟩:=an;have key:keyEq (.inr ba) x y=some v:=by
  unfold isNilEq at h;split at h
  case h_12=>
   have e:Nat.ble 10 (10+Es ba)=true:=kg (Nat.le_add_right _ _);rw[e,cond_true,Nat.add_sub_cancel_left,an] at h;exact h
  case h_13=>cases h
  all_goals (rename_i bw;first|(exfalso;omega)|(rename_i hP _;exfalso;omega)|(rename_i hP _ _;exfalso;omega))
 simp only[keyEq] at key;split at key<;>try (cases key;done)
 obtain⟨us,rfl,au,eF⟩:=ha.oP;obtain⟨aX,rfl,af,bl⟩:=hb.oP;have he:(Op.equal t (.agg us) (.agg aX)).run P w= .ok v w:=by
  have c0N:∀d,(Op.equalIn (d+3) t (.agg us) (.agg aX)).run P w= .ok v w:=fun d=>by
   have:=KK (ao:=w) (d:=d) au af eF bl fs.toList 0 ba v yd (by simpa using key);rw[eqStruct_run hu p7 (d+2),this];cases v<;>simp
  exact c0N 9997
 have h1:Go.binOp .eql t (.agg us) (.agg aX)=(do pure (.bool (←Op.equal t (.agg us) (.agg aX))):Sem Value):=rfl;have h2:Go.binOp .neq t (.agg us) (.agg aX)=(do pure (.bool (!(←Op.equal t (.agg us) (.agg aX)))):Sem Value):=rfl;have g:∀op,(eqGuard op t fu gu (.agg us) (.agg aX)).run P w= .ok () w:=fun op=>by
  unfold eqGuard;cases op<;>simp[hg]
 constructor
 ·rw[h1];simp[er,g,he]
 ·rw[h2];simp[er,g,he]
theorem c0O(c:Ctx P env o w m B al a){op:BinOp}{t:TypeId}{x y:Operand}{z:TypeId}(aj:I.op= .binOp op t x y z)(ab:cop P I=some ch)(h:opx f (evalA env al) o ch=some (.val v ah)):e7 P B f o w m v ah ((execOp a.eval I).run P w):=by
 simp only[cop,aj,dG,c8] at ab;obtain⟨bq,hx,ev,aJ,ab⟩:=ab;simp only[execOp,aj];have plain:ch= .bin op bq ev→e7 P B f o w m v ah ((do pure (.value (←(do eqGuard op t x y (a.eval x) (a.eval y);Go.binOp op t (a.eval x) (a.eval y)))):Sem Next).run P w):=fun e=>by
  subst e;simp only[opx] at h;split at h<;>try (cases h;done)
  rename_i p q hp aI;split at h<;>cases h;rename_i av;obtain⟨u,h1,h2,h3⟩:=ok_bin (P:=P) (t:=t) (c.aw hx hp) (c.aw aJ aI) av;exact e0 c ⟨u,by rw[h3 x y];exact h1,h2⟩
 have U6:∀neg,P.underlying t=some .bool→op=(if neg then .neq else .eql)→ch= .xI neg bq ev→e7 P B f o w m v ah ((do pure (.value (←(do eqGuard op t x y (a.eval x) (a.eval y);Go.binOp op t (a.eval x) (a.eval y)))):Sem Next).run P w):=fun neg ht fm e=>by
  subst e;simp only[opx] at h;split at h<;>try (cases h;done)
  rename_i p q hp aI;split at h<;>cases h;rename_i b av;obtain⟨h1,h2⟩:=b8M ht (c.aw hx hp) (c.aw aJ aI) av x y;cases neg with
  |false=>subst fm;exact e0 c ⟨_,h1,.b _⟩
  |true=>subst fm;exact e0 c ⟨_,h2,.b _⟩
 have rp:∀kind neg,Ua P t kind→op=(if neg then .neq else .eql)→ch= .la kind neg bq ev→e7 P B f o w m v ah ((do pure (.value (←(do eqGuard op t x y (a.eval x) (a.eval y);Go.binOp op t (a.eval x) (a.eval y)))):Sem Next).run P w):=fun kind neg ht fm e=>by
  subst e;simp only[opx] at h;split at h<;>try (cases h;done)
  rename_i p q hp aI;split at h<;>cases h;rename_i b av;obtain⟨h1,h2⟩:=b8O ht (c.aw hx hp) (c.aw aJ aI) av x y;cases neg with
  |false=>subst fm;exact e0 c ⟨_,h1,.b _⟩
  |true=>subst fm;exact e0 c ⟨_,h2,.b _⟩
 have strs:∀kind neg,stK P t=some kind→op=(if neg then .neq else .eql)→ch= .la kind neg bq ev→e7 P B f o w m v ah ((do pure (.value (←(do eqGuard op t x y (a.eval x) (a.eval y);Go.binOp op t (a.eval x) (a.eval y)))):Sem Next).run P w):=fun kind neg ht fm e=>by
  subst e;simp only[opx] at h;split at h<;>try (cases h;done)
  rename_i p q hp aI;split at h<;>cases h;rename_i b av;obtain⟨h1,h2⟩:=c0M ht (c.aw hx hp) (c.aw aJ aI) av x y;cases neg with
  |false=>subst fm;exact e0 c ⟨_,h1,.b _⟩
  |true=>subst fm;exact e0 c ⟨_,h2,.b _⟩
 split at ab
 case h_15=>obtain⟨k,ax,rfl⟩:=eu.1 ab;exact strs k false ax rfl rfl
 case h_16=>obtain⟨k,ax,rfl⟩:=eu.1 ab;exact strs k true ax rfl rfl
 case h_17=>cases ab
 all_goals cases ab
 ·exact plain rfl
 ·exact plain rfl
 ·rename_i ht;exact U6 false ht rfl rfl
 ·rename_i ht;exact U6 true ht rfl rfl
 ·rename_i ht;exact rp 0 false (.inl ⟨rfl,_,ht⟩) rfl rfl
 ·rename_i ht;exact rp 0 true (.inl ⟨rfl,_,ht⟩) rfl rfl
 ·rename_i ht;exact rp 1 false (.inr (.inl ⟨rfl,_,ht⟩)) rfl rfl
 ·rename_i ht;exact rp 1 true (.inr (.inl ⟨rfl,_,ht⟩)) rfl rfl
 ·rename_i ht;exact rp 2 false (.inr (.inr (.inl ⟨rfl,_,_,_,ht⟩))) rfl rfl
 ·rename_i ht;exact rp 2 true (.inr (.inr (.inl ⟨rfl,_,_,_,ht⟩))) rfl rfl
 ·rename_i ht;exact rp 3 false (.inr (.inr (.inr (.inl ⟨rfl,_,ht⟩)))) rfl rfl
 ·rename_i ht;exact rp 3 true (.inr (.inr (.inr (.inl ⟨rfl,_,ht⟩)))) rfl rfl
 ·rename_i ht;exact rp 4 false (.inr (.inr (.inr (.inr ⟨rfl,_,_,ht⟩)))) rfl rfl
 ·rename_i ht;exact rp 4 true (.inr (.inr (.inr (.inr ⟨rfl,_,_,ht⟩)))) rfl rfl
theorem U7{P:Program}{t:TypeId}(h:isU8 P t=true):P.underlying t=some (.int .u8):=by
 unfold isU8 at h;split at h
 ·assumption
 ·cases h
theorem c0P(c:Ctx P env o w m B al a){s d:TypeId}{x:Operand}(aj:I.op= .convert s d x)(ab:cop P I=some ch)(h:opx f (evalA env al) o ch=some (.val v ah)):e7 P B f o w m v ah ((execOp a.eval I).run P w):=by
 simp only[cop,aj] at ab;simp only[execOp,aj];split at ab
 ·rename_i gZ k hs an;simp only[eu] at ab;obtain⟨bq,hx,rfl⟩:=ab;simp only[opx] at h;split at h
  ·cases h;rename_i av;exact e0 c ⟨_,b9j hs an (c.aw hx av),.i _ _⟩
  ·rename_i av;split at h<;>cases h;obtain⟨n,h1,h2⟩:=b9k hs an (c.aw hx av);exact e0 c ⟨_,h1,h2⟩
  ·cases h
 ·rename_i e hs an;split at ab<;>try (cases ab;done)
  rename_i KL;simp only[eu] at ab;obtain⟨bq,hx,rfl⟩:=ab;simp only[opx] at h;split at h<;>cases h;rename_i l av;exact n3 (c0k c.rel f hs an (U7 KL) (c.aw hx av))
 ·rename_i e hs an;split at ab<;>try (cases ab;done)
  rename_i KL;simp only[eu] at ab;obtain⟨bq,hx,rfl⟩:=ab;simp only[opx] at h;split at h<;>try (cases h;done)
  rename_i c0Q av;split at h<;>try (cases h;done)
  rename_i xs c0R;split at h<;>cases h;rename_i l au;obtain⟨h1,h2⟩:=c0l c.rel hs (U7 KL) an (c.aw hx av) c0R au;exact e0 c ⟨_,h1,.s _ h2⟩
 ·cases ab
theorem c0S(c:Ctx P env o w m B al a){t:TypeId}{x:Operand}(aj:I.op= .makeInterface t x)(ab:cop P I=some ch)(h:opx f (evalA env al) o ch=some (.val v ah)):e7 P B f o w m v ah ((execOp a.eval I).run P w):=by
 simp only[cop,aj] at ab;simp only[execOp,aj];split at ab<;>try (cases ab;done)
 rename_i d bS an;simp only[eu] at ab;obtain⟨bq,hx,rfl⟩:=ab;simp only[opx] at h;split at h<;>cases h;rename_i av;exact e0 c ⟨_,b9l an (fun ms e=>bS ms e) _,.it (c.aw hx av)⟩
theorem c0T(c:Ctx P env o w m B al a){fn:Fn}{xs aZ:Array Operand}(aj:I.op= .makeFunc fn xs aZ)(ab:cop P I=some ch)(h:opx f (evalA env al) o ch=some (.val v ah)):e7 P B f o w m v ah ((execOp a.eval I).run P w):=by
 simp only[cop,aj] at ab;simp only[execOp,aj];split at ab<;>try (cases ab;done)
 rename_i g;simp only[dG,c8,dT,ca] at ab;obtain⟨bq,hx,ev,aJ,rfl⟩:=ab;simp only[opx] at h;split at h<;>cases h;rename_i p q hp aI;have h1:=A3 c.rel.wm c.globs c.aW hx hp;have h2:=A3 c.rel.wm c.globs c.aW aJ aI;have aE:=h1.1;have aY:=h2.1;simp at aE aY;refine e0 c ⟨_,rfl,.ni (by simpa using aE) (fun i a b=>?_) (by simpa using aY) (fun i a b=>?_)⟩
 ·have:=h1.2 i a (by simpa using b);simpa using this
 ·have:=h2.2 i a (by simpa using b);simpa using this
theorem c0U(c:Ctx P env o w m B al a){t:TypeId}{r:Option Operand}(aj:I.op= .makeMap t r)(ab:cop P I=some ch)(h:opx f (evalA env al) o ch=some (.val v ah)):e7 P B f o w m v ah ((execOp a.eval I).run P w):=by
 simp only[cop,aj] at ab;simp only[execOp,aj];have key:(Instr.makeMap t (r.map a.eval)).run P w= .ok (.map (some w.heap.size)) {w with heap:=w.heap.push (.map #[] 0)}∧ch= .mkMap:=by
  split at ab<;>cases ab
  ·exact⟨by simp[Instr.makeMap],rfl⟩
  ·rename_i ht;exact⟨by simp[Instr.makeMap,run_underlying ht,Act.eval,asInt,asIntOf],rfl⟩
 obtain⟨key,rfl⟩:=key;simp only[opx] at h;cases h;obtain⟨h1,h2⟩:=c.rel.alloc f {w with heap:=w.heap.push (.map #[] 0)} (.map [] 0) (.map #[] 0) rfl rfl rfl rfl rfl (.map rfl (fun i h=>by simp at h));exact n3 ⟨_,_,_,key,.mp (gK _ _ _),h1,h2⟩
end
theorem Bi{x:Option Operand}{bq:Option az}(h:opdO x=some bq):bq.isSome=x.isSome:=by
 cases x with
 |none=>cases h;rfl
 |some x=>
  simp only[opdO] at h;split at h<;>cases h;rfl
section
variable {P:Program}{env:Env}{o:ad}{w:World}{m:Nat→Option Nat}{B:Nat}{f:Nat}{al:aP AV}{a:Act}{I:Oper}{ch:AOp}{v:AV}{ah:ad}
theorem c0V(c:Ctx P env o w m B al a){t:TypeId}{ps:Array (Nat×Operand)}(aj:I.op= .build t ps)(ab:cop P I=some ch)(h:opx f (evalA env al) o ch=some (.val v ah)):e7 P B f o w m v ah ((execOp a.eval I).run P w):=by
 simp only[cop,aj,dG,c8] at ab;obtain⟨z0,bw,ab⟩:=ab;simp only[execOp,aj];split at ab<;>try (cases ab;done)
 rename_i z;split at ab
 ·rename_i fs hu;split at ab<;>try (cases ab;done)
  rename_i c0W;simp only[dG,c8,dT,ca] at ab;obtain⟨l,au,rfl⟩:=ab;simp only[opx] at h;split at h<;>cases h;rename_i cs rq;refine e0 c (b9s hu (b9F c0W) bw (ps:=l) ?_ rq);rw[sc];refine A8 (fun p q h9=>?_) au;split at h9<;>cases h9;rename_i off R x h1 h2;exact⟨⟨R,h1,rfl⟩,fun v av=>c.aw h2 av⟩
 ·rename_i n e hu;simp only[dG,c8,dT,ca] at ab;obtain⟨R,hs,l,au,rfl⟩:=ab;simp only[opx] at h;split at h<;>cases h;rename_i cs rq;refine e0 c (b9t hu hs bw (ps:=l) ?_ rq);rw[sc];refine A8 (fun p q h9=>?_) au;split at h9<;>cases h9;rename_i x h2;exact⟨⟨rfl,rfl⟩,fun v av=>c.aw h2 av⟩
 ·cases ab
theorem ye{t e:TypeId}{R:Option Nat}(h:elemOf' P t=some (e,R)):P.underlying t=some (.slice e)∧shapeOf P e=some R:=by
 unfold elemOf' at h;split at h<;>try (cases h;done)
 rename_i eQ hu;split at h<;>cases h;rename_i hs;exact⟨hu,hs⟩
theorem c0X(c:Ctx P env o w m B al a){t:TypeId}{n:Nat}{ps:Array (Nat×Operand)}(aj:I.op= .buildSlice t n ps)(ab:cop P I=some ch)(h:opx f (evalA env al) o ch=some (.val v ah)):e7 P B f o w m v ah ((execOp a.eval I).run P w):=by
 simp only[cop,aj,dG,c8] at ab;obtain⟨⟨e,R⟩,he,z,bw,l,au,ab⟩:=ab;split at ab<;>cases ab;rename_i ff;obtain⟨hu,hs⟩:=ye he;simp only[opx] at h;split at h<;>cases h;rename_i cs rq;simp only[execOp,aj];refine n3 (b9u c.rel hu hs bw ff.2 ff.1 ?_ rq);rw[sc];have:=A8 (g:=fun(x:Nat×Operand)=>(x.1,a.eval x.2)) (r:=fun(p:Nat×az) (q:Nat×Value)=>p.1=q.1∧∀v,evalA env al p.2=some v→aq w m (a_ o m) B v q.2) (fun p q h9=>by
  split at h9<;>cases h9;rename_i x h2;exact⟨rfl,fun v av=>c.aw h2 av⟩) au
 revert this;generalize ps.toList.map (fun(x:Nat×Operand)=>(x.1,a.eval x.2))=gv;clear rq au
 induction l generalizing gv with
 |nil=>cases gv<;>exact id
 |cons p l ay=>
  cases gv with
  |nil=>exact id
  |cons q gv=>
   rintro⟨⟨h1,h2⟩,h3⟩;exact⟨⟨⟨h1,rfl⟩,h2⟩,ay gv h3⟩
theorem U8(c:Ctx P env o w m B al a){t:TypeId}{x k y:Operand}(aj:I.op= .mapUpdate t x k y∨I.op= .insert t x k y)(ab:cop P I=some ch)(h:opx f (evalA env al) o ch=some (.val v ah)):e7 P B f o w m v ah ((execOp a.eval I).run P w):=by
 have e:execOp a.eval I=(do Instr.mapUpdate t (a.eval x) (a.eval k) (a.eval y);pure .skip:Sem Next):=by unfold execOp;rcases aj with aj|aj<;>rw[aj]
 have sy:∃lH Bj R bq Bk ev,P.underlying t=some (.map lH Bj)∧keyOk P lH=some R∧opdOf x=some bq∧opdOf k=some Bk∧opdOf y=some ev∧ch= .pK R bq Bk ev:=by
  unfold cop at ab;rcases aj with aj|aj<;>
  ·rw[aj] at ab;simp only at ab;split at ab<;>try (cases ab;done)
   rename_i lH Bj hu;simp only[dG,c8,dT,ca] at ab;obtain⟨R,hs,bq,hx,Bk,ax,ev,aJ,rfl⟩:=ab;exact⟨lH,Bj,R,bq,Bk,ev,hu,hs,hx,ax,aJ,rfl⟩
 obtain⟨lH,Bj,R,bq,Bk,ev,hu,hs,hx,ax,aJ,rfl⟩:=sy;rw[e];simp only[opx] at h;split at h<;>try (cases h;done)
 rename_i id d5Q n4 hp U9 mg;split at h<;>try (cases h;done)
 rename_i eF;split at h<;>try (cases h;done)
 rename_i es cl hg;split at h<;>try (cases h;done)
 rename_i UF mM;obtain⟨ar,hm,kT⟩:=(c.aw hx hp).EK;rw[kT];split at h<;>cases h
 ·rename_i c0a KM;exact E5 (UD c.rel hu hs (by simpa [fX] using eF) hm hg (c.aw ax U9) (c.aw aJ mg) mM KM)
 ·rename_i KM;exact E5 (UD c.rel hu hs (by simpa [fX] using eF) hm hg (c.aw ax U9) (c.aw aJ mg) mM KM)
theorem c0Y(c:Ctx P env o w m B al a){t:TypeId}{x:Operand}{i:Nat}(aj:I.op= .fieldAddr t x i)(ab:cop P I=some ch)(h:opx f (evalA env al) o ch=some (.val v ah)):e7 P B f o w m v ah ((execOp a.eval I).run P w):=by
 simp only[cop,aj,dG,c8,dT,ca] at ab;obtain⟨⟨off,R⟩,hf,bq,hx,rfl⟩:=ab;simp only[opx] at h;split at h<;>try (cases h;done)
 rename_i hp;split at h<;>cases h;rename_i av;simp only[execOp,aj];exact e0 c (b8Q hf (c.aw hx hp) av)
theorem c0Z(c:Ctx P env o w m B al a){t:TypeId}{x:Operand}{i:Nat}(aj:I.op= .field t x i)(ab:cop P I=some ch)(h:opx f (evalA env al) o ch=some (.val v ah)):e7 P B f o w m v ah ((execOp a.eval I).run P w):=by
 simp only[cop,aj,dG,c8,dT,ca] at ab;obtain⟨⟨off,R⟩,hf,bq,hx,rfl⟩:=ab;simp only[opx] at h;split at h<;>try (cases h;done)
 rename_i hp;split at h<;>cases h;rename_i av;simp only[execOp,aj];exact e0 c (b8R hf (c.aw hx hp) av)
theorem c1a(c:Ctx P env o w m B al a){t:TypeId}{x y:Operand}(aj:I.op= .indexAddr t x y)(ab:cop P I=some ch)(h:opx f (evalA env al) o ch=some (.val v ah)):e7 P B f o w m v ah ((execOp a.eval I).run P w):=by
 simp only[cop,aj] at ab;simp only[execOp,aj];split at ab
 ·rename_i n e hu;simp only[dG,c8,dT,ca] at ab;obtain⟨R,hs,bq,hx,ev,aJ,rfl⟩:=ab;simp only[opx] at h;split at h<;>try (cases h;done)
  rename_i p j hp aB;split at h<;>try (cases h;done)
  rename_i KN wo;split at h<;>try (cases h;done)
  rename_i bu;split at h<;>cases h;rename_i av;obtain⟨k,rfl⟩:=A4 wo;have wq:=(c.aw aJ aB).kB;rw[wq];exact e0 c (b8S hu hs (c.aw hx hp) (by simpa [fX] using bu) av)
 ·rename_i e hu;simp only[dG,c8,dT,ca] at ab;obtain⟨R,hs,bq,hx,ev,aJ,rfl⟩:=ab;simp only[opx] at h;split at h<;>try (cases h;done)
  rename_i p j hp aB;split at h<;>try (cases h;done)
  rename_i KN wo;split at h<;>cases h;rename_i av;obtain⟨k,rfl⟩:=A4 wo;have wq:=(c.aw aJ aB).kB;rw[wq];exact e0 c (b8T hu hs (c.aw hx hp) av)
 ·cases ab
theorem c1b(c:Ctx P env o w m B al a){t:TypeId}{x y:Operand}(aj:I.op= .index t x y)(ab:cop P I=some ch)(h:opx f (evalA env al) o ch=some (.val v ah)):e7 P B f o w m v ah ((execOp a.eval I).run P w):=by
 simp only[cop,aj] at ab;simp only[execOp,aj];split at ab
 ·rename_i n e hu;simp only[dG,c8,dT,ca] at ab;obtain⟨R,hs,bq,hx,ev,aJ,rfl⟩:=ab;simp only[opx] at h;split at h<;>try (cases h;done)
  rename_i cs j hp aB;split at h<;>try (cases h;done)
  rename_i KN wo;split at h<;>try (cases h;done)
  rename_i bu;split at h<;>cases h;rename_i av;obtain⟨k,rfl⟩:=A4 wo;have wq:=(c.aw aJ aB).kB;rw[wq];exact e0 c (b8W hu hs (c.aw hx hp) (by simpa [fX] using bu) av)
 ·rename_i hu;simp only[dG,c8,dT,ca] at ab;obtain⟨bq,hx,ev,aJ,rfl⟩:=ab;simp only[opx] at h;split at h<;>try (cases h;done)
  rename_i l j hp aB;split at h<;>try (cases h;done)
  rename_i KN wo;split at h<;>cases h;rename_i mh av;obtain⟨k,rfl⟩:=A4 wo;have wq:=(c.aw aJ aB).kB;rw[wq];exact e0 c ⟨_,b8V hu (c.aw hx hp) av,.i _ _⟩
 ·cases ab
theorem c1c(c:Ctx P env o w m B al a){t:TypeId}{x y:Operand}{two:Bool}(aj:I.op= .lookup t x y two)(ab:cop P I=some ch)(h:opx f (evalA env al) o ch=some (.val v ah)):e7 P B f o w m v ah ((execOp a.eval I).run P w):=by
 simp only[cop,aj] at ab;simp only[execOp,aj];split at ab<;>try (cases ab;done)
 rename_i lH e hu;simp only[dG,c8,dT,ca] at ab;obtain⟨R,hs,bq,hx,ev,aJ,z,bw,rfl⟩:=ab;simp only[opx] at h;split at h<;>try (cases h;done)
 rename_i p j hp aB;split at h<;>cases h;rename_i av;exact e0 c (c0e c.rel hu hs bw two (c.aw hx hp) (c.aw aJ aB) av)
theorem c1d(c:Ctx P env o w m B al a){t Ka:TypeId}{x:Operand}{two:Bool}(aj:I.op= .typeAssert x Ka t two)(ab:cop P I=some ch)(h:opx f (evalA env al) o ch=some (.val v ah)):e7 P B f o w m v ah ((execOp a.eval I).run P w):=by
 simp only[cop,aj] at ab;simp only[execOp,aj];split at ab<;>try (cases ab;done)
 rename_i d bS an;simp only[dG,c8,dT,ca] at ab;obtain⟨bq,hx,z,bw,rfl⟩:=ab;simp only[opx] at h;split at h<;>try (cases h;done)
 rename_i p hp;split at h<;>cases h;rename_i av;exact e0 c (b9m an (fun ms e=>bS ms e) bw (c.aw hx hp) av)
theorem c1e(c:Ctx P env o w m B al a){x:Operand}{i:Nat}(aj:I.op= .extract x i)(ab:cop P I=some ch)(h:opx f (evalA env al) o ch=some (.val v ah)):e7 P B f o w m v ah ((execOp a.eval I).run P w):=by
 simp only[cop,aj,dG,c8,dT,ca] at ab;obtain⟨bq,hx,rfl⟩:=ab;simp only[opx] at h;split at h<;>try (cases h;done)
 rename_i l hp;split at h<;>cases h;rename_i av;simp only[execOp,aj];exact e0 c (b8X (c.aw hx hp) av)
theorem U_{d:Nat}{x:Option Value}{n:Nat}(h:jr d x n)(hs:x.isSome=true):∃k,x=some (.int k (Int.ofNat n)):=by
 cases h with
 |none=>simp at hs
 |some k n=>exact⟨k,rfl⟩
theorem c1f(c:Ctx P env o w m B al a){t:TypeId}{x:Operand}{bs hi da:Option Operand}(aj:I.op= .slice t x bs hi da)(ab:cop P I=some ch)(h:opx f (evalA env al) o ch=some (.val v ah)):e7 P B f o w m v ah ((execOp a.eval I).run P w):=by
 simp only[cop,aj,dG,c8] at ab;obtain⟨ko,cQ,KO,t_,am,yf,ab⟩:=ab;simp only[execOp,aj];split at ab
 ·-- tC array behind a pointer
  rename_i n e hu;split at ab<;>try (cases ab;done)
  simp only[dG,c8,dT,ca] at ab;obtain⟨R,hs,bq,hx,rfl⟩:=ab;have sB:da=none:=by
   have:=Bi yf;cases da with|none=>rfl|some _=>simp at this
  subst sB;simp only[opx] at h;split at h<;>try (cases h;done)
  rename_i id off l hh hp au kV;split at h<;>try (cases h;done)
  rename_i sC;split at h<;>try (cases h;done)
  rename_i cs hg;split at h<;>cases h;rename_i Uk;simp only[bT] at sC;have h1:=eY sC.1;have h2:=eY sC.2;obtain⟨ar,hm,kT⟩:=(c.aw hx hp).sn;obtain⟨arr,el,aT,c1g,_,me,_⟩:=c.rel.cells hm hg;rw[kT];exact e0 c (b9b hu hs hm (k:=arr.size) (by unfold bsz;rw[c1g]) (by have:=eY Uk;omega) (c.lN cQ au) (c.lN t_ kV) h1 h2)
 ·-- a slice
  rename_i e hu;split at ab<;>try (cases ab;done)
  rename_i R hs;split at ab<;>try (cases ab;done)
  rename_i E6;simp only[dG,c8,dT,ca] at ab;obtain⟨bq,hx,rfl⟩:=ab;have aE:=Bi yf;have aY:=Bi t_;simp only[opx] at h;split at h<;>try (cases h;done)
  rename_i p hp;split at h
  case h_2=>
   clear E6;unfold sliceX at h;split at h<;>try (cases h;done)
   rename_i c1h Uo;have EE:bs=none:=by have:=Bi cQ;cases bs with|none=>rfl|some _=>simp at this
   have sB:da=none:=by cases da with|none=>rfl|some _=>simp at aE
   subst sB;split at h<;>try (cases h;done)
   rename_i id off len fr k ax;split at h<;>try (cases h;done)
   rename_i cs r hg;cases aI:(decide (fr=R)&&(Nat.blt 0 (shN fr)&&(Nat.ble len k&&Nat.ble (off+k*shN fr) (cs.length+r)))) with
   |false=>rw[aI] at h;cases h
   |true=>
    rw[aI,cond_true] at h;cases h;simp only[bT,decide_eq_true_eq] at aI;obtain⟨gM,fz,j4,lk⟩:=aI;have b9:=c.aw hx hp;refine e0 c (b9e hu hs gM b9 (c.lN cQ (d:=0) (n:=0) rfl) (c.lN t_ (d:=len) (n:=k) (by show(match evalA env al c1h with|some v=>natOf v|none=>none)=_;rw[ax];rfl)) (eY fz) (eY j4) fun ar n hm hn=>?_);obtain⟨arr,el,aT,hh,_,me,_⟩:=c.rel.gI hm hg;have gb:arr.size=n:=by unfold bsz at hn;rw[hh] at hn;simpa using hn
    have:=eY lk;omega
  cases h;rename_i av;have b9:=c.aw hx hp;refine e0 c ?_;unfold sliceA at av;split at av
  ·rename_i id off len fr cap;split at av<;>try (cases av;done)
   rename_i f_;split at av<;>try (cases av;done)
   rename_i l hh au kV;split at av<;>try (cases av;done)
   rename_i sC;have h1:=eY sC;obtain⟨cc,cJ,bx,fM,h_⟩:=b9c hu hs f_ b9 (c.lN cQ au) (c.lN t_ kV) h1;split at av
   ·rename_i c1i;split at av<;>try (cases av;done)
    rename_i k ax;rw[Option.ite_none_right_eq_some] at av;obtain⟨ff,av⟩:=av;cases av;simp only[bT] at ff;have Bl:da.isSome=true:=by rw[←aE];rfl
    have hb:=c.lN yf (d:=0) (n:=k) ax;obtain⟨oQ,KP⟩:=U_ hb (by simpa using Bl);have KQ:hi.isSome=true:=by
     cases hi with
     |some _=>rfl
     |none=>exfalso;apply E6;exact⟨rfl,by cases KO with|none=>rfl|some _=>simp at aY⟩
    exact cc _ oQ k KP (by simpa using KQ) (eY ff.1) (eY ff.2)
   ·have sB:da=none:=by cases da with|none=>rfl|some _=>simp at aE
    subst sB;split at av
    ·split at av<;>cases av;rename_i ff;exact cJ _ rfl (eY ff)
    ·split at av
     ·cases av;rename_i ff;simp only[bT] at ff;exact bx rfl (eY ff.1) (eM ff.2)
     ·split at av
      ·cases av;rename_i ff;simp only[bT] at ff;exact fM rfl (eY ff.1) (eY ff.2)
      ·split at av<;>cases av;rename_i ff;simp only[bT] at ff;exact h_ rfl (eM ff.1) (eM ff.2)
  ·split at av<;>cases av;rename_i au kV j5;have Bm:a.eval x= .slice none 0 0:=by
    revert b9;generalize a.eval x=u;intro b9;cases b9;rfl
   rw[Bm];exact⟨_,b9f hu hs (c.lN cQ au) (c.lN t_ kV) (c.lN yf j5) (fun Bl=>by
    cases hi with
    |some _=>rfl
    |none=>exfalso;apply E6;exact⟨by rw[aE];simpa using Bl,by cases KO with|none=>rfl|some _=>simp at aY⟩),.J⟩
  ·split at av<;>try (cases av;done)
   rename_i f_;split at av<;>try (cases av;done)
   ·rename_i l hh au kV;split at av<;>cases av;rename_i ff;simp only[bT] at ff;have sB:da=none:=by cases da with|none=>rfl|some _=>simp at aE
    subst sB;subst f_;exact c0D hu hs b9 (c.lN cQ au) (c.lN t_ kV) (eY ff.1) (eY ff.2)
   ·rename_i l hh c1i au kV;split at av<;>try (cases av;done)
    rename_i k ax;split at av<;>cases av;rename_i ff;simp only[bT] at ff;obtain⟨gM,fz,j4,lk⟩:=ff;obtain rfl:=eM gM;obtain rfl:=eM fz;obtain rfl:=eM j4;have Bl:da.isSome=true:=by rw[←aE];rfl
    have hb:=c.lN yf (d:=0) ax;obtain⟨oQ,KP⟩:=U_ hb (by simpa using Bl);have KQ:hi.isSome=true:=by
     cases hi with
     |some _=>rfl
     |none=>exfalso;apply E6;exact⟨rfl,by cases KO with|none=>rfl|some _=>simp at aY⟩
    subst f_;rw[KP];exact c0C hu hs b9 (c.lN cQ au) (c.lN t_ kV) (by simpa using KQ) (fX▸lk)
  ·cases av
 ·-- a string
  rename_i hu;split at ab<;>try (cases ab;done)
  simp only[dG,c8,dT,ca] at ab;obtain⟨bq,hx,rfl⟩:=ab;have sB:da=none:=by
   have:=Bi yf;cases da with|none=>rfl|some _=>simp at this
  subst sB;simp only[opx] at h;split at h<;>try (cases h;done)
  rename_i s hp;split at h<;>try (cases h;done)
  rename_i l hh au kV;split at h<;>cases h;rename_i sC;simp only[bT] at sC;exact e0 c (b9a hu (c.aw hx hp) (c.lN cQ au) (c.lN t_ kV) (eY sC.1) (eY sC.2))
 ·cases ab
end
section
variable {P:Program}{env:Env}{o:ad}{w:World}{m:Nat→Option Nat}{B:Nat}{f:Nat}{al:aP AV}{a:Act}{I:Oper}{ch:AOp}{v:AV}{ah:ad}
theorem Bn{b:Builtin}{xs:Array Operand}{ts:Array TypeId}(aj:I.op= .call {callee:=.builtin b,args:=xs,argTypes:=ts}):
  execOp a.eval I=builtin b ts I.type (xs.map fun| .const _=>true|_=>false) (xs.map a.eval):=by
 unfold execOp;rw[aj];rfl
theorem c1j{e:TypeId}{z:AV}{n:Nat}(bw:zeroOf P e=some z)(hn:z.cells.length=n):∃i tP,P.info? e=some i∧i.zero=some tP∧tP.cells.size=n:=by
 unfold zeroOf at bw;split at bw<;>try (cases bw;done)
 rename_i i hi;split at bw<;>try (cases bw;done)
 rename_i tP av;have:=(aq.ofValue (w:=(default:World)) (m:=fun _=>none) (O:=fun _=>False) (B:=0) bw).cells.1;exact⟨i,tP,hi,av,by simp at this;omega⟩
theorem c1k{t:TypeId}(h:isText P t=true):(∃eQ,P.underlying t=some (.slice eQ))∨P.underlying t=some .string:=by
 unfold isText at h;split at h
 ·exact .inl ⟨_,by assumption⟩
 ·exact .inr (by assumption)
 ·cases h
theorem c1l{w:World}{m:Nat→Option Nat}{O:Nat→Prop}{B:Nat}{u:Value}(h:aq w m O B .J u):u= .slice none 0 0:=by cases h;rfl
theorem c1m{t:TypeId}(h:isInt P t=true):∃k,P.underlying t=some (.int k):=by
 unfold isInt at h;split at h
 ·exact⟨_,by assumption⟩
 ·cases h
theorem E7{α:Type}{x:Array α}{p q:α}(h:x.toList=[p,q]):x= #[p,q]:=by
 apply ky;simpa using h
theorem p8{α:Type}{x:Array α}{p:α}(h:x.toList=[p]):x= #[p]:=by
 apply ky;simpa using h
theorem KR{α β:Type}(g:α→β)(x y:α):(#[x,y]:Array α).map g= #[g x,g y]:=by simp
theorem Bo{α β:Type}(g:α→β)(x:α):(#[x]:Array α).map g= #[g x]:=by simp
theorem Bp{w:World}{m:Nat→Option Nat}{O:Nat→Prop}{B:Nat}:aq w m O B dw (.tuple #[]):=.aK rfl fun i h=>by simp at h
theorem c1n(c:Ctx P env o w m B al a){b:Builtin}{xs:Array Operand}{ts:Array TypeId}(aj:I.op= .call {callee:=.builtin b,args:=xs,argTypes:=ts})(ab:cop P I=some ch)(h:opx f (evalA env al) o ch=some (.val v ah)):e7 P B f o w m v ah ((execOp a.eval I).run P w):=by
 rw[Bn aj];simp only[cop,aj] at ab;split at ab
 ·-- append
  rename_i s x t u dC j6;obtain rfl:=E7 dC;rw[KR a.eval];obtain rfl:=E7 j6;simp only[dG,c8] at ab;obtain⟨⟨e,R⟩,he,i,hi,z,bw,ab⟩:=ab;split at ab
  ·rename_i ff;simp only[c8,dT,ca] at ab;obtain⟨bP,hs,bq,hx,rfl⟩:=ab;obtain⟨hu,f_⟩:=ye he;simp only[opx] at h;split at h<;>try (cases h;done)
   rename_i d5R c0Q c1o gj;split at h<;>cases h;rename_i c1p;obtain⟨lb,tP,dc,wg,tL⟩:=c1j bw ff.2.2;rw[hi] at dc;cases dc;obtain⟨_,_,i2,xW,bZ⟩:=jI f_ w;rw[hi] at xW;cases xW;exact n3 (b9G c.rel hu hi bZ wg tL ff.2.1 (c1k ff.1) (c.aw hs c1o) (c.aw hx gj) c1p)
  ·split at ab<;>try (cases ab;done)
   rename_i ff;simp only[c8,dT,ca] at ab;obtain⟨bP,hs,bq,hx,rfl⟩:=ab;obtain⟨hu,f_⟩:=ye he;obtain⟨cx,oZ⟩:=c1m ff.1;simp only[opx] at h;split at h<;>try (cases h;done)
   ·cases aI:Nat.beq (AV.fb::z.cells).length (shN R) with
    |false=>rw[aI] at h;cases h
    |true=>have ns:=eM aI;rw[jD,ff.2.2.1] at ns;exact absurd ns.symm (Nat.ne_of_lt (nO _))
   ·rename_i cJ q gj mg;cases aI:(Nat.beq (AV.fb::z.cells).length (Nat.succ (shN R))&&(Nat.blt 0 q&&Nat.ble ((3*q+2000)*i.bytes) 281474976710656)) with
    |false=>rw[aI] at h;cases h
    |true=>
     rw[aI,cond_true] at h;cases h;simp only[bT] at aI;have aE:=c1l (c.aw hs gj);have aY:=(c.aw hx mg).kB;rw[aE,aY];exact n3 (c0r c.rel f hu oZ f_ hi bw ff.2.2.1 ff.2.1 ff.2.2.2 (by simpa only[fX] using aI.2.1) (eY aI.2.2))
 ·-- len
  rename_i x t dC j6;obtain rfl:=p8 dC;rw[Bo a.eval];obtain rfl:=p8 j6;split at ab
  ·rename_i n e ht;cases ab;simp only[opx] at h;cases h;exact e0 c ⟨_,b9P ht _,.i _ _⟩
  all_goals try (cases ab;done)
  all_goals
   rename_i ht;simp only[eu] at ab;obtain⟨bq,hx,rfl⟩:=ab;simp only[opx] at h;split at h<;>try (cases h;done)
   rename_i gj;split at h
   case h_2=>
    rcases EX h with⟨_,_,_,e⟩|⟨eG,c1q,ii,rfl,e⟩
    ·cases e
    ·first
      |(cases eG;done)
      |(
        cases e;obtain⟨ia,al,c1r,hs⟩:=(c.aw hx gj).b9S;rw[hs];refine e0 c ⟨.int .i64 (Int.ofNat al),?_,.gH _ (ir _)⟩;simp[Builtin.len_,run_underlying ht,goInt])
   rename_i ek hn;cases h
  ·exact e0 c ⟨_,Kp c.rel (.inr (.inl ⟨rfl,ht⟩)) (c.aw hx gj) hn,.i _ _⟩
  ·exact e0 c ⟨_,Kp c.rel (.inl ⟨rfl,_,ht⟩) (c.aw hx gj) hn,.i _ _⟩
  ·exact e0 c ⟨_,Kp c.rel (.inr (.inr ⟨rfl,_,_,ht⟩)) (c.aw hx gj) hn,.i _ _⟩
 ·-- cap
  rename_i x t dC j6;obtain rfl:=p8 dC;rw[Bo a.eval];obtain rfl:=p8 j6;split at ab<;>try (cases ab;done)
  rename_i ht;simp only[eu] at ab;obtain⟨bq,hx,rfl⟩:=ab;simp only[opx] at h;split at h<;>try (cases h;done)
  rename_i gj;split at h
  case h_2=>obtain⟨_,_,_,_,_,_,_,_,_,e⟩:=Kq h;cases e
  cases h;rename_i hn;exact e0 c ⟨_,b9Q ht (c.aw hx gj) hn,.i _ _⟩
 ·-- copy
  split at ab<;>try (cases ab;done)
  rename_i x t dC j6 _ e R he;obtain rfl:=p8 dC;rw[Bo a.eval];obtain rfl:=p8 j6;simp only[dG,c8] at ab;obtain⟨z,bw,ab⟩:=ab;split at ab<;>try (cases ab;done)
  simp only[c8,dT,ca] at ab;obtain⟨bq,hx,rfl⟩:=ab;obtain⟨hu,f_⟩:=ye he;obtain⟨ej,hP,lK,lL⟩:=pW bw w;simp only[opx] at h;split at h<;>try (cases h;done)
  ·rename_i gj _;cases h;have b9:=c.aw hx gj;generalize a.eval x=u at b9 ⊢;cases b9;exact e0 c ⟨_,by simp[Builtin.clear_,run_underlying hu],Bp⟩
  ·rename_i id off len fr cp c1s gj wg;have c1t:c1s=z.cells:=by cases wg;rfl
   subst c1t;split at h<;>try (cases h;done)
   rename_i eF hg;split at h<;>cases h;rename_i bR df;have b9:=c.aw hx gj;generalize a.eval x=u at b9 ⊢;cases b9 with
   |al hm hlen lg hn h6=>
   have tR:=(lK w m (a_ o m) B).cells;have gC:=x0 tR (len+1);have c1u:f≤id:=Nat.le_of_not_lt fun h=>by rw[show Nat.blt id f=true from kg h] at eF;cases eF
   obtain⟨ao,aE,aY,cZ⟩:=J4 (f:=f) c.rel c1u hm hg df gC (x1 lL (len+1));refine n3 ⟨_,ao,m,?_,Bp,aY,cZ⟩;have hh:(Builtin.zeroCells ej.cells (len+1)).toList=(List.range ((len+1)*ej.cells.toList.length)).map fun i=>ej.cells.toList[i%ej.cells.toList.length]! :=by
    simp only[Builtin.zeroCells,sc,vF,qZ];exact pF fun i _=>by simp only[getElem!_def,lB]
   rw[←hh] at aE;simp[Builtin.clear_,run_underlying hu,hP,aE]
  ·rename_i gj _;cases h;have b9:=c.aw hx gj;generalize a.eval x=u at b9 ⊢;cases b9;exact e0 c ⟨_,by simp[Builtin.clear_,run_underlying hu],Bp⟩
  ·rename_i gj _;cases h;have b9:=c.aw hx gj;generalize a.eval x=u at b9 ⊢;cases b9
   ·exact e0 c ⟨_,by simp[Builtin.clear_,run_underlying hu],Bp⟩
   ·exact e0 c ⟨_,by simp[Builtin.clear_,run_underlying hu],Bp⟩
 ·rename_i x y dC;obtain rfl:=E7 dC;rw[KR a.eval];simp only[dG,c8,dT,ca] at ab;obtain⟨bq,hx,ev,aJ,rfl⟩:=ab;simp only[opx] at h;split at h<;>try (cases h;done)
  case h_2=>
   rename_i n j gj mg;cases aI:Nat.ble j n with
   |false=>rw[aI] at h;cases h
   |true=>
    rw[aI] at h;replace h:some (bG.val (AV.i .i64 (Int.ofNat j)) o)=some (.val v ah):=h;cases h;exact e0 c ⟨_,b9T (P:=P) (w:=w) (c.aw hx gj) (c.aw aJ mg) (eY aI) I.type ts,.i _ _⟩
  case h_3=>
   rename_i j n gj mg;cases aI:Nat.ble j n with
   |false=>rw[aI] at h;cases h
   |true=>
    rw[aI] at h;replace h:some (bG.val (AV.i .i64 (Int.ofNat j)) o)=some (.val v ah):=h;cases h;exact e0 c ⟨_,b9U (P:=P) (w:=w) (c.aw hx gj) (c.aw aJ mg) (eY aI) I.type ts,.i _ _⟩
  rename_i k n l q gj mg;split at h<;>cases h;rename_i tJ;subst tJ;have:=(Uu (P:=P) (w:=w) (c.aw hx gj) (c.aw aJ mg) I.type ts).1;exact e0 c ⟨_,this,.i _ _⟩
 ·rename_i x y dC;obtain rfl:=E7 dC;rw[KR a.eval];simp only[dG,c8,dT,ca] at ab;obtain⟨bq,hx,ev,aJ,rfl⟩:=ab;simp only[opx] at h;split at h<;>try (cases h;done)
  rename_i k n l q gj mg;split at h<;>cases h;rename_i tJ;subst tJ;have:=(Uu (P:=P) (w:=w) (c.aw hx gj) (c.aw aJ mg) I.type ts).2;exact e0 c ⟨_,this,.i _ _⟩
 ·cases ab;simp[opx] at h
 ·simp only[eu] at ab;obtain⟨bq,hx,rfl⟩:=ab;simp only[opx] at h;split at h<;>cases h
 ·cases ab
theorem c1v(c:Ctx P env o w m B al a){t:TypeId}{x y:Operand}(aj:I.op= .makeSlice t x y)(ab:cop P I=some ch)(h:opx f (evalA env al) o ch=some (.val v ah)):e7 P B f o w m v ah ((execOp a.eval I).run P w):=by
 simp only[cop,aj,dG,c8] at ab;obtain⟨⟨e,R⟩,he,z,bw,i,hi,ab⟩:=ab;split at ab<;>try (cases ab;done)
 rename_i tL;simp only[c8,dT,ca] at ab;obtain⟨bq,hx,ev,aJ,rfl⟩:=ab;obtain⟨hu,hs⟩:=ye he;simp only[opx] at h;split at h<;>try (cases h;done)
 ·rename_i cc n cJ q gj mg;cases aI:(Nat.beq z.cells.length (shN R)&&(Nat.ble n q&&(Nat.ble (i.bytes*q) 281474976710656&&Nat.ble q 281474976710656))) with
  |false=>rw[aI] at h;cases h
  |true=>
   rw[aI,cond_true] at h;cases h;simp only[bT,KG] at aI;have aE:=(c.aw hx gj).kB;have aY:=(c.aw aJ mg).kB;simp only[execOp,aj,aE,aY];exact n3 (c0o c.rel f hu hs hi bw tL aI.2.1 aI.2.2.1 aI.2.2.2)
 ·rename_i cJ q gj mg;cases aI:Nat.beq z.cells.length (Nat.succ (shN R)) with
  |false=>rw[aI] at h;cases h
  |true=>have ns:=eM aI;rw[tL] at ns;exact absurd ns (Nat.ne_of_lt (nO _))
theorem c1w(c:Ctx P env o w m B al a){t:TypeId}{x:Operand}(aj:I.op= .range t x)(ab:cop P I=some ch)(h:opx f (evalA env al) o ch=some (.val v ah)):e7 P B f o w m v ah ((execOp a.eval I).run P w):=by
 simp only[cop,aj] at ab;split at ab<;>try (cases ab;done)
 rename_i lH Bj hu;simp only[eu] at ab;obtain⟨bq,hx,rfl⟩:=ab;simp only[opx] at h;simp only[execOp,aj];split at h<;>try (cases h;done)
 ·rename_i av;cases h;exact n3 (UO c.rel f hu (c.aw hx av) rfl)
 ·rename_i id av;split at h<;>cases h;rename_i es cl hg;exact n3 (UO c.rel f hu (c.aw hx av) ⟨_,_,hg,rfl⟩)
theorem c1x(c:Ctx P env o w m B al a){x:Operand}(aj:I.op= .next x false)(ab:cop P I=some ch)(h:opx f (evalA env al) o ch=some (.val v ah)):e7 P B f o w m v ah ((execOp a.eval I).run P w):=by
 simp only[cop,aj,eu] at ab;obtain⟨bq,hx,rfl⟩:=ab;simp only[opx] at h;simp only[execOp,aj];split at h<;>try (cases h;done)
 rename_i it av;obtain⟨ar,hm,p6⟩:=(c.aw hx av).sn;rw[p6];split at h<;>try (cases h;done)
 rename_i eF;have rk:f≤it:=by simpa [fX] using eF
 split at h<;>try (cases h;done)
 ·rename_i since seen gB hg;cases h;exact e0 c ⟨_,c0B c.rel hm hg I.type,aq.sm (bm.cons (.b false) bm.nil)⟩
 ·rename_i id since seen gB hg;split at h<;>try (cases h;done)
  rename_i es cl lj;cases aI:(Nat.beq cl since&&Nat.beq gB since&&cV (fun(e:AV×AV×Nat)=>Nat.blt e.2.2 since) es) with
  |false=>rw[aI] at h;cases h
  |true=>
   rw[aI,cond_true] at h;simp only[bT,lC] at aI;obtain⟨⟨rfl,rfl⟩,hall⟩:=aI;split at h<;>cases h;rename_i Bm;rcases UR (f:=f) c.rel rk hm hg lj (fun e he=>by have:=jt hall e he;simpa [fX] using this) I.type with⟨_,h2⟩|⟨e,he,_⟩
   ·exact e0 c ⟨_,h2,aq.sm (bm.cons (.b false) bm.nil)⟩
   ·rw[Bm] at he;cases he
theorem c1y(c:Ctx P env o w m B al a){x:Operand}(aj:I.op= .entry x)(ab:cop P I=some ch)(h:opx f (evalA env al) o ch=some (.val v ah)):e7 P B f o w m v ah ((execOp a.eval I).run P w):=by
 simp only[cop,aj,eu] at ab;obtain⟨bq,hx,rfl⟩:=ab;simp only[opx] at h;simp only[execOp,aj];split at h<;>try (cases h;done)
 rename_i it av;obtain⟨ar,hm,p6⟩:=(c.aw hx av).sn;rw[p6];split at h<;>try (cases h;done)
 rename_i id since seen gB hg;split at h<;>try (cases h;done)
 rename_i es cl lj;cases aI:Nat.beq cl gB with
 |false=>rw[aI] at h;cases h
 |true=>
  rw[aI,cond_true] at h;obtain rfl:=eM aI;split at h<;>try (cases h;done)
  rename_i n1 au;split at h<;>cases h;rename_i e he;exact e0 c (c0A c.rel hm hg lj au he)
theorem aq.c1z{w:World}{m:Nat→Option Nat}{O:Nat→Prop}{B:Nat}{ex:List (List Nat)}{u:Value}(h:aq w m O B (.fY ex) u):∃s,u= .string s:=by cases h;exact⟨_,rfl⟩
theorem Va{k:Nat}{bq:az}(ab:cop P I=some (.len k bq)):∃x t bP ts,I.op= .call {callee:=.builtin .len,args:=bP,argTypes:=ts}∧bP.toList=[x]∧ts.toList=[t]∧opdOf x=some bq∧(k=0→P.underlying t=some .string)∧(k=1→∃e,P.underlying t=some (.slice e)):=by
 unfold cop at ab;split at ab
 all_goals first
  |(cases ab;done)
  |(
    exfalso
    (repeat' first
     |(cases ab;done)
     |(simp only[eu,reduceCtorEq,and_false,exists_false] at ab;done)
     |(simp only[dG,c8,dT,ca,reduceCtorEq,and_false,exists_false] at ab;done)
     |split at ab
     |(obtain⟨_,_,ab⟩:=ab)
     |(simp only[dG,c8,dT,ca] at ab))
    done)
  |(
    rename_i aj;split at ab
    all_goals first
     |(cases ab;done)
     |(
      exfalso
      (repeat' first
       |(cases ab;done)
       |(simp only[eu,reduceCtorEq,and_false,exists_false] at ab;done)
       |(simp only[dG,c8,dT,ca,reduceCtorEq,and_false,exists_false] at ab;done)
       |split at ab
       |(obtain⟨_,_,ab⟩:=ab)
       |(simp only[dG,c8,dT,ca] at ab))
      done)
     |(
      rename_i dC j6;split at ab
      all_goals first
       |(cases ab;done)
       |(
         rename_i ht;simp only[eu] at ab;obtain⟨a6,h1,ab⟩:=ab;cases ab;exact⟨_,_,_,_,aj,dC,j6,h1,fun ax=>by(first|exact ht|cases ax),fun ax=>by(first|exact⟨_,ht⟩|cases ax)⟩)))
theorem c1A{k:Nat}{bq:az}(ab:cop P I=some (.len k bq)):∀c,I.op≠ .defer c:=fun c an=>by
 obtain⟨x,t,bP,ts,aj,_⟩:=Va ab;rw[aj] at an;cases an
theorem c1B{l:List (AV×ad)}{k:Nat}{bq:az}(c:Ctx P env o w m B al a)(ab:cop P I=some (.len k bq))(h:opx f (evalA env al) o (.len k bq)=some (.gJ l)):∃p∈l,e7 P B f o w m p.1 p.2 ((execOp a.eval I).run P w):=by
 obtain⟨x,t,bP,ts,aj,has,j6,hx,ht⟩:=Va ab;obtain rfl:=p8 has;obtain rfl:=p8 j6;simp only[opx] at h;split at h<;>try (cases h;done)
 rename_i p hp;split at h
 ·cases h
 rcases EX h with⟨rfl,ex,rfl,e⟩|⟨rfl,c1q,ii,rfl,e⟩
 rotate_left
 ·cases e
 injection e with e
 subst e;obtain⟨s,hs⟩:=(c.aw hx hp).c1z;have ht:=ht.1 rfl;refine⟨(.iu (decide ((40:Int)<Int.ofNat s.size)),o),by cases decide ((40:Int)<Int.ofNat s.size)<;>simp,?_⟩;rw[Bn aj,Bo a.eval,hs];refine e0 c ⟨.int .i64 (Int.ofNat s.size),?_,.iu _ rfl⟩;simp[builtin,Builtin.len_,run_underlying ht,goInt]
theorem Vb{bq:az}(ab:cop P I=some (.cap bq)):∃x t e bP ts,I.op= .call {callee:=.builtin .cap,args:=bP,argTypes:=ts}∧bP.toList=[x]∧ts.toList=[t]∧opdOf x=some bq∧P.underlying t=some (.slice e):=by
 unfold cop at ab;split at ab
 all_goals first
  |(cases ab;done)
  |(
    exfalso
    (repeat' first
     |(cases ab;done)
     |(simp only[eu,reduceCtorEq,and_false,exists_false] at ab;done)
     |(simp only[dG,c8,dT,ca,reduceCtorEq,and_false,exists_false] at ab;done)
     |split at ab
     |(obtain⟨_,_,ab⟩:=ab)
     |(simp only[dG,c8,dT,ca] at ab))
    done)
  |(
    rename_i aj;split at ab
    all_goals first
     |(cases ab;done)
     |(
      exfalso
      (repeat' first
       |(cases ab;done)
       |(simp only[eu,reduceCtorEq,and_false,exists_false] at ab;done)
       |(simp only[dG,c8,dT,ca,reduceCtorEq,and_false,exists_false] at ab;done)
       |split at ab
       |(obtain⟨_,_,ab⟩:=ab)
       |(simp only[dG,c8,dT,ca] at ab))
      done)
     |(
      rename_i dC j6;split at ab
      all_goals first
       |(cases ab;done)
       |(
         rename_i ht;simp only[eu] at ab;obtain⟨a6,h1,ab⟩:=ab;cases ab;exact⟨_,_,_,_,_,aj,dC,j6,h1,ht⟩)))
theorem c1C{bq:az}(ab:cop P I=some (.cap bq)):∀c,I.op≠ .defer c:=fun c an=>by
 obtain⟨x,t,e,bP,ts,aj,_⟩:=Vb ab;rw[aj] at an;cases an
theorem c1D{l:List (AV×ad)}{bq:az}(c:Ctx P env o w m B al a)(ab:cop P I=some (.cap bq))(h:opx f (evalA env al) o (.cap bq)=some (.gJ l)):∃p∈l,e7 P B f o w m p.1 p.2 ((execOp a.eval I).run P w):=by
 obtain⟨x,t,e,bP,ts,aj,has,j6,hx,ht⟩:=Vb ab;obtain rfl:=p8 has;obtain rfl:=p8 j6;simp only[opx] at h;split at h<;>try (cases h;done)
 rename_i p hp;split at h
 ·cases h
 obtain⟨q,aI,ax⟩:=b9R (ty:=I.type) c.rel ht (c.aw hx hp) h;refine⟨q,aI,?_⟩;rw[Bn aj,Bo a.eval];exact n3 ax
theorem KS{id r off:Nat}{c aX:List AV}{q:bG}(h:nR o id c r off aX=some q):∃v ai,q= .val v ai:=by
 unfold nR at h;split at h<;>cases h;exact⟨_,_,rfl⟩
theorem E8{aw:az→Option AV}{R:Option Nat}{x:AV}{bs hi da:Option az}{q:bG}(h:sliceX o aw R x bs hi da=some q):∃v,q= .val v o:=by
 unfold sliceX at h
 repeat' first|(cases h;done)|(cases h;exact⟨_,rfl⟩)|split at h|(simp only[tV] at h)
theorem E9{x:AV}{q:bG}(h:capO f o x=some q):∃l,q= .gJ l:=by
 obtain⟨_,_,_,_,_,_,_,_,_,e⟩:=Kq h;exact⟨_,e⟩
theorem c1E{id r off:Nat}{c aX:List AV}{l:List (AV×ad)}(h:nR o id c r off aX=some (.gJ l)):False:=by
 unfold nR at h;split at h<;>cases h
theorem c1F{aw:az→Option AV}{R:Option Nat}{x:AV}{bs hi da:Option az}{l:List (AV×ad)}(h:sliceX o aw R x bs hi da=some (.gJ l)):False:=by
 unfold sliceX at h
 repeat' first|(cases h;done)|split at h|(simp only[tV] at h)
theorem c1G{l:List (AV×ad)}(c:Ctx P env o w m B al a)(ab:cop P I=some ch)(h:opx f (evalA env al) o ch=some (.gJ l)):(∀c,I.op≠ .defer c)∧∃p∈l,e7 P B f o w m p.1 p.2 ((execOp a.eval I).run P w):=by
 have KT:(∃k bq,ch= .len k bq)∨(∃bq,ch= .sf bq)∨∃bq,ch= .cap bq:=by
  cases ch<;>simp only[opx] at h
  all_goals first
   |(exact .inl ⟨_,_,rfl⟩)
   |(exact .inr (.inl ⟨_,rfl⟩))
   |(exact .inr (.inr ⟨_,rfl⟩))
   |(cases h;done)
   |(exfalso;repeat' first|(cases h;done)|(exact c1F h)|(exact c1E h)|split at h|(simp only[tV] at h))
 rcases KT with⟨k,bq,rfl⟩|⟨bq,rfl⟩|⟨bq,rfl⟩
 ·exact⟨c1A ab,c1B c ab h⟩
 rotate_left
 ·exact⟨c1C ab,c1D c ab h⟩
 have c1H:∃x,I.op= .next x false∧opdOf x=some bq:=by
  unfold cop at ab;split at ab
  all_goals first
   |(cases ab;done)
   |(rename_i aj;simp only[eu] at ab;obtain⟨y,aJ,he⟩:=ab;cases he;exact⟨_,aj,aJ⟩)
   |(
     exfalso
     repeat' first
      |(cases ab;done)
      |(simp only[eu,reduceCtorEq,and_false,exists_false] at ab;done)
      |(simp only[dG,c8,dT,ca,reduceCtorEq,and_false,exists_false] at ab;done)
      |split at ab
      |(obtain⟨_,_,ab⟩:=ab)
      |(simp only[dG,c8,dT,ca] at ab))
 obtain⟨x,aj,hx⟩:=c1H;refine⟨fun c an=>(by rw[aj] at an;cases an),?_⟩;simp only[opx] at h;simp only[execOp,aj];split at h<;>try (cases h;done)
 rename_i it av;obtain⟨ar,hm,p6⟩:=(c.aw hx av).sn;rw[p6];split at h<;>try (cases h;done)
 rename_i eF;have rk:f≤it:=by simpa [fX] using eF
 split at h<;>try (cases h;done)
 rename_i id since seen gB hg;split at h<;>try (cases h;done)
 rename_i es cl lj;cases aI:(Nat.beq cl since&&Nat.beq gB since&&cV (fun(e:AV×AV×Nat)=>Nat.blt e.2.2 since) es) with
 |false=>rw[aI] at h;cases h
 |true=>
  rw[aI,cond_true] at h;simp only[bT,lC] at aI;obtain⟨⟨rfl,rfl⟩,hall⟩:=aI;split at h<;>cases h;rename_i bS;rcases UR (f:=f) c.rel rk hm hg lj (fun e he=>by have:=jt hall e he;simpa [fX] using this) I.type with⟨h1,_⟩|⟨e,he,u,ao,h2,h3,aN,bH⟩
  ·exact absurd h1 bS
  ·exact⟨_,fq.2 ⟨e,he,rfl⟩,n3 ⟨u,ao,m,h2,h3,aN,bH⟩⟩
theorem yg(c:Ctx P env o w m B al a)(ab:cop P I=some ch)(h:opx f (evalA env al) o ch=some (.val v ah)):e7 P B f o w m v ah ((execOp a.eval I).run P w):=by
 have hc0:=ab;unfold cop at ab;split at ab
 all_goals first|(cases ab;done)|skip
 all_goals first
  |(rename_i aj;first
    |exact U3 c (.inl aj) hc0 h|exact U3 c (.inr aj) hc0 h|exact c0F c aj hc0 h|exact c0G c aj hc0 h|exact c0H c aj hc0 h|exact c0V c aj hc0 h
    |exact c0X c aj hc0 h|exact U8 c (.inl aj) hc0 h|exact U8 c (.inr aj) hc0 h|exact c0I c aj hc0 h|exact c0J c aj hc0 h|exact c0K c aj hc0 h
    |exact c0O c aj hc0 h|exact c0L c aj hc0 h|exact c0P c aj hc0 h|exact c0S c aj hc0 h|exact c0T c aj hc0 h|exact c0U c aj hc0 h
    |exact c1f c aj hc0 h|exact c0Y c aj hc0 h|exact c0Z c aj hc0 h|exact c1a c aj hc0 h|exact c1b c aj hc0 h|exact c1c c aj hc0 h
    |exact c1d c aj hc0 h|exact c1e c aj hc0 h|exact c1n c aj hc0 h)
  |skip
 ·rename_i aj;exact c1v c aj hc0 h
 ·rename_i aj;exact c1w c aj hc0 h
 ·rename_i aj;exact c1x c aj hc0 h
 ·rename_i aj;exact c1y c aj hc0 h
 ·simp only[dG,c8,dT,ca] at ab;obtain⟨ac,n5,ko,cQ,rfl⟩:=ab;simp only[opx] at h;split at h<;>cases h
 ·simp only[dG,c8,dT,ca] at ab;obtain⟨ac,n5,ko,cQ,rfl⟩:=ab;simp only[opx] at h;split at h<;>cases h
 ·simp only[eu] at ab;obtain⟨bq,hx,rfl⟩:=ab;simp only[opx] at h;split at h<;>cases h
end
theorem c1I{α β:Type}(f:α→Option (List β))(x:α)(xs:List α):jE f (x::xs)=match f x with|none=>none|some a=>match jE f xs with|none=>none|some b=>some (a++b):=by
 cases xs with
 |nil=>show f x=_;cases f x<;>simp[jE]
 |cons y aZ=>rfl
theorem KU{α β:Type}{f:α→Option (List β)}:∀ {l:List α} {out:List β},jE f l=some out→∀x∈l,∃I,f x=some I∧∀y∈I,y∈out
 |[],_,_,x,hx=>by cases hx
 |x::l,out,h,y,aJ=>by
  rw[c1I] at h;cases hf:f x with
  |none=>rw[hf] at h;cases h
  |some a=>
   rw[hf] at h;cases au:jE f l with
   |none=>rw[au] at h;cases h
   |some b=>
    rw[au] at h;cases h;rcases dP.1 aJ with rfl|aJ
    ·exact⟨a,hf,fun z bw=>JG _ bw⟩
    ·obtain⟨I,h1,h2⟩:=KU au y aJ;exact⟨I,h1,fun z bw=>Ed _ (h2 z bw)⟩
theorem ua{α β:Type}{r:Option (List α)}{f:α→Option (List β)}{out:List β}(h:gi r f=some out):∃l,r=some l∧∀x∈l,∃I,f x=some I∧∀y∈I,y∈out:=by
 cases r with
 |none=>cases h
 |some l=>exact⟨l,rfl,KU h⟩
def eI(r:Option Nat):Fence:={fn:=fun _=>True,depth:=none,alive:=false,round:=r}
def yh(w:World)(m:Nat→Option Nat)(O:Nat→Prop)(B:Nat):(Nat ⊕ (AV×List AV))→Deferred→Prop
 | .inl id,d=>∃ar,m id=some ar∧d={target:=.collected ar,args:=#[]}
 | .inr (bB,args),d=>∃g fs cs gq e6 us,bB= .f (.func g) fs cs∧d={target:=.fn (.func g) e6,args:=gq++us}∧bm w m O B fs gq.toList∧bm w m O B cs e6.toList∧bm w m O B args us.toList
structure eJ(P:Program)(env:Env)(ae:Fr)(a:Act)(o:ad)(w:World)(m:Nat→Option Nat)(B:Nat):Prop where
 ctx:Ctx P env o w m B ae.aW a
 defs:iA (yh w m (a_ o m) B) ae.defers a.defers
def p9(w:World)(m:Nat→Option Nat)(O:Nat→Prop)(B:Nat):c6→Ending→Prop
 | .ok v,.returned u=>aq w m O B v u
 | .err v,.panicked mh=>∃u,mh=[{v:=u,recovered:=false}]∧aq w m O B v u
 |_,_=>False
def ExR(w:World)(m:Nat→Option Nat)(O:Nat→Prop)(B:Nat):gn→Exit→Prop
 | .normal,.normal=>True
 | .exit i,.exit j=>i=j
 | .ret,.ret=>True
 | .panic v,.panic mh=>∃u,mh=[{v:=u,recovered:=false}]∧aq w m O B v u
 |_,_=>False
def CallRes(P:Program)(F:Fence)(n:Nat)(u:Value)(us:Array Value)(w:World)(aq:Ending→World→Prop):Prop:=
 ∃d,(∀ao,(Deferred.ofValue u us).run P ao= .ok d ao)∧
  match(invoke d.target d.args).run P w with
  | .ok (.enter f args) ao=>CallsIn F n P f args ao aq
  | .ok (.round l f tmps bP b) ao=>RoundIn F n P l f tmps bP b ao aq
  | .ok (.value v) ao=>aq (.returned v) ao
  |_=>False
section
variable {P:Program}{env:Env}{o ah:ad}{w ao:World}{m aG:Nat→Option Nat}{B f:Nat}
theorem Globs.ext(eS:Globs env w B)(h:Ext f o w m ah ao aG)(af:Rel P o w m B):Globs env ao B:=fun g v hg dp=>
 (eS g v hg dp).mono (fun _ _ h=>h) h.size h.h7 (fun b hb cY=>⟨h.ee b hb (fun⟨_,_,h1,_⟩=>cY (af.base _ _ h1)),cY⟩)
theorem yh.ext{d:Nat ⊕ (AV×List AV)}{e5:Deferred}(an:yh w m (a_ o m) B d e5)(h:Ext f o w m ah ao aG)(af:Rel P o w m B):yh ao aG (a_ ah aG) B d e5:=by
 cases d with
 |inl id=>obtain⟨ar,h1,h2⟩:=an;exact⟨ar,h.mono _ _ h1,h2⟩
 |inr p=>obtain⟨g,fs,cs,gq,e6,us,h1,h2,h3,aN,bH⟩:=an;exact⟨g,fs,cs,gq,e6,us,h1,h2,h3.ext h af,aN.ext h af,bH.ext h af⟩
theorem Bq{α β:Type}{r cj:α→β→Prop}(h:∀x y,r x y→cj x y):∀ {l:List α} {dF:List β},iA r l dF→iA cj l dF
 |[],[],_=>trivial
 |[],_::_,h'=>h'.elim
 |_::_,[],h'=>h'.elim
 |_::_,_::_,h'=>⟨h _ _ h'.1,Bq h h'.2⟩
theorem Ctx.ext{al:aP AV}{a:Act}(c:Ctx P env o w m B al a)(h:Ext f o w m ah ao aG)(n0:Rel P ah ao aG B):Ctx P env ah ao aG B al a:=
 ⟨n0,c.aW.ext h c.rel,Globs.ext c.globs h c.rel⟩
theorem eJ.ext{ae:Fr}{a:Act}(s:eJ P env ae a o w m B)(h:Ext f o w m ah ao aG)(n0:Rel P ah ao aG B):eJ P env ae a ah ao aG B:=
 ⟨s.ctx.ext h n0,Bq (fun _ _ an=>an.ext h s.ctx.rel) s.defs⟩
theorem iw.put{O:Nat→Prop}{al:aP AV}{tmps:Array Value}(h:iw w m O B al tmps.toList)(d:Nat){v:AV}{u:Value}(av:aq w m O B v u):iw w m O B (al.set d v) (tmps.setIfInBounds d u).toList:=by
 refine⟨fun i x hx=>?_,fun i hx=>?_⟩
 ·rw[aP.ix] at hx;rw[lB];by_cases hi:i=d
  ·subst hi;rw[if_pos rfl] at hx;cases hg:al.get i with
   |none=>rw[hg] at hx;cases hx
   |some y=>
    rw[hg] at hx;cases hx;obtain⟨nt,h1,_⟩:=h.1 i y hg;rw[lB] at h1;have bu:=(vz.1 h1).1;exact⟨u,by simp[D9,bu],av⟩
  ·rw[if_neg hi] at hx;obtain⟨nt,h1,h2⟩:=h.1 i x hx;rw[lB] at h1;exact⟨nt,by rw[Jx (fun e=>hi e.symm)];exact h1,h2⟩
 ·rw[aP.ix] at hx;rw[lB];have hg:al.get i=none:=by
   by_cases hi:i=d
   ·subst hi;rw[if_pos rfl] at hx;cases hg:al.get i with
    |none=>rfl
    |some y=>rw[hg] at hx;cases hx
   ·rw[if_neg hi] at hx;exact hx
  have h1:=h.2 i hg;rw[lB] at h1;have:=Array.getElem?_eq_none_iff.1 h1;exact xF (by simpa using this)
theorem c1J{O:Nat→Prop}{al:aP AV}{a:Act}(h:iw w m O B al a.tmps.toList)(d:Nat){v:AV}{u:Value}(av:aq w m O B v u):iw w m O B (al.set d v) (a.put (some d) u).tmps.toList:=
 h.put d av
theorem eJ.put{ae:Fr}{a:Act}(s:eJ P env ae a o w m B)(d:Option Nat){v:AV}{u:Value}(av:aq w m (a_ o m) B v u):eJ P env (ae.put d v) (a.put d u) o w m B:=by
 cases d with
 |none=>exact s
 |some d=>exact⟨⟨s.ctx.rel,c1J s.ctx.aW d av,s.ctx.globs⟩,s.defs⟩
theorem E_{ops:Array Oper}{I:Oper}{aL:aQ}{O:Nat→Prop}{al:aP AV}{tmps:Array Value}(ab:coper P ops I=some aL)(hs:iw w m O B al tmps.toList):Region.wanted I (yielded ops tmps)=wantedA aL.guard al:=by
 unfold coper at ab;split at ab<;>cases ab;rename_i g hg;unfold guardOf at hg;unfold Region.wanted wantedA;split at hg
 ·rename_i KV;cases hg;simp[KV]
 ·rename_i j wt KV;split at hg<;>cases hg;rename_i d an;simp only[KV,yielded,an,Option.bind_some];cases eB:al.get d with
  |none=>
   have:=hs.2 d eB;rw[lB] at this;simp[this]
  |some v=>
   obtain⟨u,hu,hE⟩:=hs.1 d v eB;rw[lB] at hu;simp only[hu];cases hE with
   |y h=>rcases h.alt with⟨_,_,rfl⟩|⟨_,rfl⟩<;>simp
   |eN hu h=>subst hu;simp
   |_=>simp
theorem KW{c:Callee}{ac:q3}(ab:calleeOf c=some ac){al:aP AV}{a:Act}(ctx:Ctx P env o w m B al a){bB:AV}(av:calleeV (evalA env al) ac=some bB):
  ∃x,c= .value x∧aq w m (a_ o m) B bB (a.eval x):=by
 unfold calleeOf at ab;split at ab
 ·cases ab;cases av;exact⟨_,rfl,.ni rfl (fun i h=>by simp at h) rfl (fun i h=>by simp at h)⟩
 ·split at ab<;>cases ab;rename_i hx;exact⟨_,rfl,ctx.aw hx av⟩
 ·cases ab
theorem Vc{F:Fence}{n:Nat}{I:Oper}{a:Act}{x:Operand}{c:Call}(aj:I.op= .call c)(jK:c.callee= .value x){us:Array Value}(hQ:c.args.map a.eval=us)(eT:∀f,F.fn f)(an:F.depth=none)
  {aq:Ending→World→Prop} (h:CallRes P F (n-1) (a.eval x) us w aq) {next:Act→World→Prop} {Q:Exit→Act→World→Prop}
  (b9:∀e ao,aq e ao→match e with| .returned v=>next (a.put I.dst v) ao| .panicked mh=>Q (.panic mh) a ao| .outgrown=>False):I.wpIn F n P a w next Q:=by
 obtain⟨d,h1,h2⟩:=h;have dH:∀ao,(resolve a.eval c I.type).run P ao= .ok d ao:=fun ao=>by
  unfold resolve;rw[jK];simp only[hQ];exact h1 ao
 have he:(I.semAt F.round a.eval).run P w=(invoke d.target d.args).run P w:=by
  rw[sz _ _ _ (fun c ab=>by rw[aj] at ab;cases ab)];unfold execOp;rw[aj];simp only[er,dH,ez]
 refine⟨fun f _=>eT f,?_⟩;rw[he];generalize(invoke d.target d.args).run P w=res at h2;cases res with
 |halt h ao=>exact h2.elim
 |ok c1K ao=>
  cases c1K<;>try exact h2.elim
  ·exact b9 _ _ h2
  ·exact⟨fun hs=>by rw[an] at hs;simp at hs,wh h2 (fun e xU af=>by have:=b9 e xU af;cases e<;>first|exact this|exact this.elim)⟩
  ·exact⟨fun hs=>by rw[an] at hs;simp at hs,RoundIn.mono h2 (fun e xU af=>by have:=b9 e xU af;cases e<;>first|exact this|exact this.elim)⟩
def Br(P:Program)(env:Env)(B f:Nat)(r:Option Nat)(call:ki):Prop:=
 ∀bB args o jM,call bB args o=some jM→∀k w m u us,Rel P o w m B→Globs env w B→aq w m (a_ o m) B bB u→bm w m (a_ o m) B args us→
  CallRes P (eI r) k u us.toArray w (fun e ao=>∃ret ah,(ret,ah)∈jM∧∃aG,p9 ao aG (a_ ah aG) B ret e∧Rel P ah ao aG B∧Ext f o w m ah ao aG)
theorem Vd{I:Oper}{c:q3}{args:List az}(h:cop P I=some (.call c args)):∃cl,I.op= .call cl∧calleeOf cl.callee=some c∧vN cl.args.toList=some args:=by
 unfold cop at h;split at h
 all_goals first
  |(cases h;done)
  |(simp only[eu,reduceCtorEq,and_false,exists_false] at h;done)
  |(simp only[dG,c8,dT,ca,reduceCtorEq,and_false,exists_false] at h;done)
  |(
    rename_i aj _;simp only[dG,c8,dT,ca] at h;obtain⟨ac,n5,ko,cQ,he⟩:=h;cases he;exact⟨_,aj,n5,cQ⟩)
  |(
    rename_i aj;simp only[dG,c8,dT,ca] at h;obtain⟨ac,n5,ko,cQ,he⟩:=h;cases he;exact⟨_,aj,n5,cQ⟩)
  |(
    exfalso
    repeat' first
     |(cases h;done)
     |(simp only[eu,reduceCtorEq,and_false,exists_false] at h;done)
     |(simp only[dG,c8,dT,ca,reduceCtorEq,and_false,exists_false] at h;done)
     |split at h
     |(obtain⟨_,_,h⟩:=h)
     |(simp only[dG,c8,dT,ca] at h))
theorem c1L{I:Oper}{c:q3}{args:List az}(h:cop P I=some (.kh c args)):∃cl,I.op= .defer cl∧calleeOf cl.callee=some c∧vN cl.args.toList=some args:=by
 unfold cop at h;split at h
 all_goals first
  |(cases h;done)
  |(simp only[eu,reduceCtorEq,and_false,exists_false] at h;done)
  |(simp only[dG,c8,dT,ca,reduceCtorEq,and_false,exists_false] at h;done)
  |(
    rename_i aj _;simp only[dG,c8,dT,ca] at h;obtain⟨ac,n5,ko,cQ,he⟩:=h;cases he;exact⟨_,aj,n5,cQ⟩)
  |(
    rename_i aj;simp only[dG,c8,dT,ca] at h;obtain⟨ac,n5,ko,cQ,he⟩:=h;cases he;exact⟨_,aj,n5,cQ⟩)
  |(
    exfalso
    repeat' first
     |(cases h;done)
     |(simp only[eu,reduceCtorEq,and_false,exists_false] at h;done)
     |(simp only[dG,c8,dT,ca,reduceCtorEq,and_false,exists_false] at h;done)
     |split at h
     |(obtain⟨_,_,h⟩:=h)
     |(simp only[dG,c8,dT,ca] at h))
end
section
variable {P:Program}{env:Env}{B f:Nat}
theorem Ve{I:Oper}{bq:az}(h:cop P I=some (.panic bq)):∃x,opdOf x=some bq∧(I.op= .panic x∨∃xs ts,I.op= .call {callee:=.builtin .panic,args:=xs,argTypes:=ts}∧xs.toList=[x]):=by
 unfold cop at h;split at h
 all_goals first
  |(cases h;done)
  |(simp only[eu,reduceCtorEq,and_false,exists_false] at h;done)
  |(simp only[dG,c8,dT,ca,reduceCtorEq,and_false,exists_false] at h;done)
  |(
    rename_i aj;simp only[eu] at h;obtain⟨ac,n5,he⟩:=h;cases he;exact⟨_,n5,.inl aj⟩)
  |skip
 all_goals first
  |(
    rename_i aj;split at h
    all_goals first
     |(cases h;done)
     |(
      simp only[eu] at h;obtain⟨ac,n5,he⟩:=h;cases he;rename_i dC;exact⟨_,n5,.inr ⟨_,_,aj,dC⟩⟩)
     |(
      exfalso
      repeat' first
       |(cases h;done)
       |(simp only[eu,reduceCtorEq,and_false,exists_false] at h;done)
       |(simp only[dG,c8,dT,ca,reduceCtorEq,and_false,exists_false] at h;done)
       |split at h
       |(obtain⟨_,_,h⟩:=h)
       |(simp only[dG,c8,dT,ca] at h)))
  |(
    exfalso
    repeat' first
     |(cases h;done)
     |(simp only[eu,reduceCtorEq,and_false,exists_false] at h;done)
     |(simp only[dG,c8,dT,ca,reduceCtorEq,and_false,exists_false] at h;done)
     |split at h
     |(obtain⟨_,_,h⟩:=h)
     |(simp only[dG,c8,dT,ca] at h))
theorem Vf{I:Oper}{a:Act}{x:Operand}(aj:I.op= .panic x∨∃xs ts,I.op= .call {callee:=.builtin .panic,args:=xs,argTypes:=ts}∧xs.toList=[x]){t:TypeId}{u:Value}(hx:a.eval x= .iface t u)(w:World):
  (execOp a.eval I).run P w= .halt (.panic (.iface t u)) w:=by
 rcases aj with aj|⟨xs,ts,aj,dC⟩
 ·simp[execOp,aj,hx,Instr.panic,goPanic]
 ·obtain rfl:=p8 dC;rw[Bn aj];simp[builtin,hx,Instr.panic,goPanic]
theorem ub{aw:az→Option AV}{o:ad}{op:AOp}{bB:AV}{args:List AV}(h:opx f aw o op=some (.call bB args)):∃c bP,op= .call c bP∧calleeV aw c=some bB∧mapO aw bP=some args:=by
 cases op<;>simp only[opx] at h
 all_goals first
  |(cases h;done)
  |(
    rename_i c bP;split at h<;>cases h;rename_i h1 h2;exact⟨c,bP,rfl,h1,h2⟩)
  |(exfalso;repeat' first|(cases h;done)|(rcases EY h with⟨_,e⟩|⟨e,_⟩<;>cases e;done)|(obtain⟨_,_,e⟩:=KS h;cases e;done)|(obtain⟨_,e⟩:=E8 h;cases e;done)|(obtain⟨_,e⟩:=E9 h;cases e;done)|split at h|(simp only[tV] at h))
theorem c1M{aw:az→Option AV}{o:ad}{op:AOp}{bB:AV}{args:List AV}(h:opx f aw o op=some (.kh bB args)):∃c bP,op= .kh c bP∧calleeV aw c=some bB∧mapO aw bP=some args:=by
 cases op<;>simp only[opx] at h
 all_goals first
  |(cases h;done)
  |(
    rename_i c bP;split at h<;>cases h;rename_i h1 h2;exact⟨c,bP,rfl,h1,h2⟩)
  |(exfalso;repeat' first|(cases h;done)|(rcases EY h with⟨_,e⟩|⟨e,_⟩<;>cases e;done)|(obtain⟨_,_,e⟩:=KS h;cases e;done)|(obtain⟨_,e⟩:=E8 h;cases e;done)|(obtain⟨_,e⟩:=E9 h;cases e;done)|split at h|(simp only[tV] at h))
theorem Vg{aw:az→Option AV}{o:ad}{op:AOp}{v:AV}(h:opx f aw o op=some (.panic v)):∃x t u,op= .panic x∧aw x=some (.it t u)∧v= .it t u:=by
 cases op<;>simp only[opx] at h
 all_goals first
  |(cases h;done)
  |(
    rename_i x;split at h<;>cases h;rename_i h1;exact⟨x,_,_,rfl,h1,rfl⟩)
  |(exfalso;repeat' first|(cases h;done)|(rcases EY h with⟨_,e⟩|⟨e,_⟩<;>cases e;done)|(obtain⟨_,_,e⟩:=KS h;cases e;done)|(obtain⟨_,e⟩:=E8 h;cases e;done)|(obtain⟨_,e⟩:=E9 h;cases e;done)|split at h|(simp only[tV] at h))
theorem Fa{I:Oper}{c:Call}{ch:AOp}(an:I.op= .defer c)(h:cop P I=some ch):∃ac bP,ch= .kh ac bP:=by
 obtain⟨callee,args,d5S⟩:=c;unfold cop at h;rw[an] at h;cases callee with
 |builtin b=>cases h
 |value x=>
  simp only[dG,c8,dT,ca] at h;obtain⟨ac,_,bP,_,he⟩:=h;exact⟨ac,bP,he.symm⟩
 |invoke x n=>
  simp only[dG,c8,dT,ca] at h;obtain⟨ac,_,bP,_,he⟩:=h;exact⟨ac,bP,he.symm⟩
theorem Bs{I:Oper}{ch:AOp}(h:copB P I=ch)(hb:ch≠ .bad):cop P I=some ch:=by
 unfold copB at h;split at h
 ·subst h;assumption
 ·exact absurd h.symm hb
theorem Fb{ops:Array Oper}{I:Oper}{aL:aQ}(h:coper P ops I=some aL):aL.op=copB P I∧aL.dst=I.dst:=by
 unfold coper at h;split at h<;>cases h;exact⟨rfl,rfl⟩
theorem uc(op:AOp)(floor:Nat)(aw:az→Option AV)(o:ad):pM op floor aw o=opx floor aw o op:=by
 cases op<;>rfl
theorem c1N(floor:Nat)(call:AV→List AV→ad→Option (c6×ad))(rc:Option AV)(nd:Bool)(ae:Fr)(o:ad):pN env floor call rc nd [] ae o=some (.normal,ae,o):=rfl
theorem runOpsD_cons(floor:Nat)(call:AV→List AV→ad→Option (c6×ad))(rc:Option AV)(nd:Bool)(I:aQ)(ops:List aQ)(ae:Fr)(o:ad):pN env floor call rc nd (I::ops) ae o=
  cond (wantedA I.guard ae.aW)
   (match I.op with
    | .recover=>match rc with
     |some v=>pN env floor call rc nd ops (Fr.put ⟨ae.aW,ae.defers,true⟩ I.dst (cond ae.eZ .fb v)) o
     |none=>none
    |op=>match opx floor (evalA env ae.aW) o op with
     |some (.val v o)=>pN env floor call rc nd ops (ae.put I.dst v) o
     |some (.call bB args)=>match call bB args o with
      |some (.ok v,o)=>pN env floor call rc nd ops (ae.put I.dst v) o
      |some (.err v,o)=>some (.panic v,ae,o)
      |none=>none
     |some (.kh bB args)=>cond (nd&&isFn bB) (pN env floor call rc nd ops (Fr.put ⟨ae.aW,.inr (bB,args)::ae.defers,ae.eZ⟩ I.dst dw) o) none
     |some (.panic v)=>some (.panic v,ae,o)
     |some (.gJ _)=>none
     |none=>none)
   (pN env floor call rc nd ops (ae.put I.dst dw) o):=by
 show cond (wantedA I.guard ae.aW) (cond I.op.isRec _ (match pM I.op floor (evalA env ae.aW) o with|some (.val v o)=>_|some (.call bB args)=>_|some (.kh bB args)=>_|some (.panic v)=>_|some (.gJ _)=>_|none=>none)) _=_;rw[uc];rcases I with⟨dst,op,g,wn⟩
 cases op<;>rfl
theorem c1O(floor:Nat)(call:ki)(nd:Bool)(ae:Fr)(o:ad):runOps env floor call nd [] ae o=some [(.normal,ae,o)]:=rfl
theorem wu(floor:Nat)(call:ki)(nd:Bool)(I:aQ)(ops:List aQ)(ae:Fr)(o:ad):runOps env floor call nd (I::ops) ae o=
  cond (wantedA I.guard ae.aW)
   (match opx floor (evalA env ae.aW) o I.op with
    |some (.val v o)=>runOps env floor call nd ops (ae.put I.dst v) o
    |some (.call bB args)=>gi (call bB args o) (fun r=>match r with
     |(.ok v,o)=>runOps env floor call nd ops (ae.put I.dst v) o
     |(.err v,o)=>some [(.panic v,ae,o)])
    |some (.kh bB args)=>cond (nd&&isFn bB) (runOps env floor call nd ops (Fr.put ⟨ae.aW,.inr (bB,args)::ae.defers,ae.eZ⟩ I.dst dw) o) none
    |some (.panic v)=>some [(.panic v,ae,o)]
    |some (.gJ l)=>jE (fun p=>runOps env floor call nd ops (ae.put I.dst p.1) p.2) l
    |none=>none)
   (runOps env floor call nd ops (ae.put I.dst dw) o):=by
 show Bool.rec (motive:=fun _=>Option mc) (runOps env floor call nd ops (ae.ng I.dst dw) o)
   (Option.rec (motive:=fun _=>Option mc) none (fun r=>bG.rec (motive:=fun _=>Option mc)
    (fun v o=>runOps env floor call nd ops (ae.ng I.dst v) o)
    (fun bB args=>gi (call bB args o) (fun r=>match r with
     |(.ok v,o)=>runOps env floor call nd ops (ae.ng I.dst v) o
     |(.err v,o)=>some [(.panic v,ae,o)]))
    (fun bB args=>cond (nd&&isFn bB) (runOps env floor call nd ops (Fr.ng ⟨ae.aW,.inr (bB,args)::ae.defers,ae.eZ⟩ I.dst dw) o) none)
    (fun v=>some [(.panic v,ae,o)])
    (fun l=>jE (fun p=>runOps env floor call nd ops (ae.ng I.dst p.1) p.2) l) r)
    (pM I.op floor (xM env ae.aW) o))
   (Et I.guard ae.aW)=_
 rw[pS,TP,TQ,JY,uc];cases opx floor (evalA env ae.aW) o I.op with
 |none=>rfl
 |some r=>cases r<;>rfl
theorem Vh{r:Option Nat}{call:ki}(mQ:Br P env B f r call){ops:Array Oper}{k:Nat}{nd:Bool}(hnd:nd=true→r=none):
  ∀(ol:List Oper) (ko:List aQ) (ae:Fr) (o:ad) (outs:mc) (a:Act) (w:World) (m:Nat→Option Nat),mapOL (coper P ops) ol=some ko→runOps env f call nd ko ae o=some outs→eJ P env ae a o w m B→
   ∀Q:Exit→Act→World→Prop,(∀e bQ ah,(e,bQ,ah)∈outs→∀x cq ao aG,ExR ao aG (a_ ah aG) B e x→eJ P env bQ cq ah ao aG B→Ext f o w m ah ao aG→Q x cq ao)→wpListIn (eI r) k P ops Q ol a w
 |[],ko,ae,o,outs,a,w,m,hm,h,st,Q,c0=>by
  simp[mapOL] at hm;subst hm;rw[c1O] at h;cases h;exact c0 _ _ _ (e3.2 rfl) .normal a w m trivial st (Ext.refl _ _ _ _)
 |I::ol,ko,ae,o,outs,a,w,m,hm,h,st,Q,c0=>by
  rw[mapOL] at hm;split at hm<;>cases hm;rename_i aL Bt aj Bb;obtain⟨fm,iS⟩:=Fb aj;rw[wu] at h;rw[wpListIn,E_ aj st.ctx.aW];have next:∀ {en:Fr} {a6:Act} {bk:ad} {bn:World} {bO:Nat→Option Nat} {fe:mc},runOps env f call nd Bt en bk=some fe→(∀y∈fe,y∈outs)→eJ P env en a6 bk bn bO B→Ext f o w m bk bn bO→wpListIn (eI r) k P ops Q ol a6 bn:=
   fun {en a6 bk bn bO fe} h1 gd gN c3=>Vh mQ hnd ol Bt en bk fe a6 bn bO Bb h1 gN Q (fun e bQ ah e9 x cq ao aG hx df hex=>c0 e bQ ah (gd _ e9) x cq ao aG hx df (c3.trans st.ctx.rel hex))
  cases hw:wantedA aL.guard ae.aW with
  |false=>
   rw[hw,cond_false] at h;simp only[oH,if_false];refine⟨fun f _=>trivial,next h (fun _ h=>h) ?_ (Ext.refl _ _ _ _)⟩;rw[iS];exact st.put _ aq.undef
  |true=>
   rw[hw,cond_true] at h;simp only[if_true];generalize KT:aL.op=ch at h fm;have ab:∀res,opx f (evalA env ae.aW) o ch=some res→cop P I=some ch:=fun res dH=>Bs fm.symm (fun hb=>by subst hb;simp[opx] at dH);have wv:∀v bk,opx f (evalA env ae.aW) o ch=some (.val v bk)→∀c,I.op≠ .defer c:=fun v bk hx c an=>by
    have hh:=Fa an (ab _ hx);obtain⟨ac,bP,rfl⟩:=hh;simp only[opx] at hx;split at hx<;>cases hx
   split at h
   ·-- a value
    rename_i v bk hx;have ax:=yg st.ctx (ab _ hx) hx;obtain⟨u,bn,bO,bX,b9,mR,c3⟩:=ax;have hs:(I.semAt (eI r).round a.eval)=execOp a.eval I:=sz _ _ _ (wv _ _ hx);have df:=(st.ext c3 mR).put aL.dst b9;rw[iS] at df h;refine⟨fun f _=>trivial,?_⟩;rw[hs];rcases bX with bX|⟨bX,rfl⟩
    ·rw[bX];exact next h (fun _ h=>h) df c3
    ·rw[bX];exact next h (fun _ h=>h) df c3
   ·-- a call
    rename_i bB args hx;obtain⟨c,bP,rfl,nW,has⟩:=ub hx;obtain⟨cl,Bu,Bv,mS⟩:=Vd (ab _ hx);obtain⟨x,gj,wx⟩:=KW Bv st.ctx nW;have Bw:=A3 st.ctx.rel.wm st.ctx.globs st.ctx.aW mS has;obtain⟨jM,jK,hr⟩:=ua h;have dH:=mQ _ _ _ _ jK (k-1) w m _ _ st.ctx.rel st.ctx.globs wx Bw;refine Vc Bu gj (us:=cl.args.map a.eval) rfl (fun _=>trivial) rfl (by
     have aE:(cl.args.toList.map a.eval).toArray=cl.args.map a.eval:=by apply ky;simp
     rw[aE] at dH;exact dH) (fun aE bn af=>?_)
    obtain⟨ret,bk,e9,bO,h1,h2,h3⟩:=af;obtain⟨fe,et,gd⟩:=hr _ e9;cases ret with
    |ok v=>
     cases aE with
     |returned u=>
      have df:=(st.ext h3 h2).put aL.dst h1;rw[iS] at df et;exact next et gd df h3
     |panicked mh=>exact h1.elim
     |outgrown=>exact h1.elim
    |err v=>
     simp only[ca] at et;subst et;cases aE with
     |returned u=>exact h1.elim
     |panicked mh=>exact c0 _ _ _ (gd _ (e3.2 rfl)) _ _ _ bO h1 (st.ext h3 h2) h3
     |outgrown=>exact h1.elim
   ·-- a deferred call
    rename_i bB args hx;obtain⟨c,bP,rfl,nW,has⟩:=c1M hx;obtain⟨cl,Bu,Bv,mS⟩:=c1L (ab _ hx);obtain⟨x,gj,wx⟩:=KW Bv st.ctx nW;have Bw:=A3 st.ctx.rel.wm st.ctx.globs st.ctx.aW mS has;cases Bx:(nd&&isFn bB) with
    |false=>rw[Bx] at h;cases h
    |true=>
     rw[Bx,cond_true] at h;simp only[bT] at Bx;have nu:=hnd Bx.1;subst nu;have hval:∃g fs cs gq e6,bB= .f (.func g) fs cs∧a.eval x= .func (.func g) gq e6∧bm w m (a_ o m) B fs gq.toList∧bm w m (a_ o m) B cs e6.toList:=by
      revert wx;generalize a.eval x=mi;intro wx;cases wx with
      |ni hf bl hG q8=>exact⟨_,_,_,_,_,rfl,rfl,⟨by simpa using hf,fun i p q=>by simpa using bl i p (by simpa using q)⟩,⟨by simpa using hG,fun i p q=>by simpa using q8 i p (by simpa using q)⟩⟩
      |_=>simp[isFn] at Bx
     obtain⟨g,fs,cs,gq,e6,rfl,hex,gw,hG⟩:=hval;have bX:(I.semAt (eI none).round a.eval).run P w= .ok (.defer {target:=.fn (.func g) e6,args:=gq++cl.args.map a.eval}) w:=by
      show(execOp a.eval I).run P w=_;unfold execOp;rw[Bu];simp[resolve,gj,Deferred.ofValue,hex]
     refine⟨fun f _=>trivial,?_⟩;rw[bX];have aE:(cl.args.map a.eval).toList=cl.args.toList.map a.eval:=by simp
     have df:eJ P env ⟨ae.aW,.inr (.f (.func g) fs cs,args)::ae.defers,ae.eZ⟩ {a with defers:={target:=.fn (.func g) e6,args:=gq++cl.args.map a.eval}::a.defers} o w m B:=
      ⟨⟨st.ctx.rel,st.ctx.aW,st.ctx.globs⟩,⟨⟨g,fs,cs,gq,e6,cl.args.map a.eval,rfl,rfl,gw,hG,by rw[aE];exact Bw⟩,st.defs⟩⟩
     have o0:=df.put aL.dst aq.undef;rw[iS] at o0 h;exact next h (fun _ h=>h) o0 (Ext.refl _ _ _ _)
   ·-- a panic
    rename_i v hx;cases h;obtain⟨x,t,u,rfl,o1,rfl⟩:=Vg hx;obtain⟨By,KX,mT⟩:=Ve (ab _ hx);have p_:=st.ctx.aw KX o1;obtain⟨bL,rf⟩:∃bL,a.eval By= .iface t bL:=by
     revert p_;generalize a.eval By=mi;intro p_;cases p_;exact⟨_,rfl⟩
    have bX:=Vf (P:=P) mT rf w;have hs:(I.semAt (eI r).round a.eval)=execOp a.eval I:=sz _ _ _ (fun c an=>by rcases mT with mT|⟨_,_,mT,_⟩<;>(rw[an] at mT;cases mT));refine⟨fun f _=>trivial,?_⟩;rw[hs,bX];rw[rf] at p_;exact c0 _ _ _ (e3.2 rfl) _ _ _ m ⟨_,rfl,p_⟩ st (Ext.refl _ _ _ _)
   ·-- a step of tC iterator
    rename_i l hx;obtain⟨c1P,p,hp,ax⟩:=c1G st.ctx (ab _ hx) hx;obtain⟨fe,et,gd⟩:=KU h p hp;obtain⟨u,bn,bO,bX,b9,mR,c3⟩:=ax;have hs:(I.semAt (eI r).round a.eval)=execOp a.eval I:=sz _ _ _ c1P;have df:=(st.ext c3 mR).put aL.dst b9;rw[iS] at df et;refine⟨fun f _=>trivial,?_⟩;rw[hs];rcases bX with bX|⟨bX,rfl⟩
    ·rw[bX];exact next et gd df c3
    ·rw[bX];exact next et gd df c3
   ·cases h
end
def yi(m:Nat→Option Nat):Option Nat→Option Nat→Prop
 |none,none=>True
 |some l,some b=>m l=some b
 |_,_=>False
theorem yi.mono{m aG:Nat→Option Nat}(hm:∀id ar,m id=some ar→aG id=some ar){aH r:Option Nat}(h:yi m aH r):yi aG aH r:=by
 cases aH<;>cases r<;>first|trivial|exact h.elim|exact hm _ _ h
def sD(F:Fence)(n:Nat)(P:Program)(c:Code)(Q:Exit→Act→World→Prop)(a:Act)(w:World):Prop:=
 ∀(b:Frame) (k:List Item) (cs:List Frame),b.roundOf=F.round→F.fn b.fn→F.room (cs.length+1+n)→
  ∃e cq ao,Q e cq ao∧ArrivesIn (Machine.fenced P F) P (lone (b.atR a (.code c:: .inLoop c::k)) cs w) b k cs e cq ao
theorem sD.wpIn{F:Fence}{n:Nat}{P:Program}{c:Code}{Q:Exit→Act→World→Prop}{a:Act}{w:World}(h:sD F n P c Q a w):(Code.loop c).wpIn F n P Q a w:=by
 intro b k cs yj hb af;obtain⟨e,cq,ao,aI,mU⟩:=h b k cs yj hb af;exact⟨e,cq,ao,aI,.of_steps (.one (fenced_calm hb af rfl) stepR_loop) mU⟩
theorem sD.round{F:Fence}{n:Nat}{P:Program}{c:Code}{Q:Exit→Act→World→Prop}{a:Act}{w:World}(h:c.wpIn F n P (Exit.then (sD F n P c Q) Q) a w):sD F n P c Q a w:=by
 intro b k cs yj hb af;obtain⟨e,qa,qb,aI,mU⟩:=h b (.inLoop c::k) cs yj hb af;cases e with
 |normal=>
  obtain⟨c1Q,c1R,c1S,c1T,c1U⟩:=aI b k cs yj hb af;exact⟨c1Q,c1R,c1S,c1T,.of_steps (StepsIn.trans mU (.one (fenced_calm hb af rfl) stepR_inLoop)) c1U⟩
 |exit id=>exact⟨_,qa,qb,aI,.pass (x:=.inLoop c) rfl (fun _ _=>.inl (by simp)) mU⟩
 |goto l=>exact⟨_,qa,qb,aI,.pass (x:=.inLoop c) rfl (fun _ _=>.inl (by simp)) mU⟩
 |ret=>exact⟨_,qa,qb,aI,.pass (x:=.inLoop c) rfl (fun _ _=>.inl (by simp)) mU⟩
 |panic mh=>exact⟨_,qa,qb,aI,.pass (x:=.inLoop c) rfl (fun _ _=>.inl (by simp)) mU⟩
 |outgrown=>exact⟨_,qa,qb,aI,.pass (x:=.inLoop c) rfl (fun _ _=>.inl (by simp)) mU⟩
theorem yk{P:Program}{b:Frame}{a:Act}{k:List Item}{cs:List Frame}{w:World}{c:Code}:Go.step P (lone (b.atR a (.code (.scope c)::k)) cs w)= .next (lone (b.atR a (.code c:: .inScope c::k)) cs w):=
 step_lone_go (by simp[stepG,stepG.exec,Frame.atR])
theorem c1V{P:Program}{b:Frame}{a:Act}{k:List Item}{cs:List Frame}{w:World}{c:Code}:Go.step P (lone (b.atR a (.inScope c::k)) cs w)= .next (lone (b.atR a k) cs w):=
 step_lone_go (by simp[stepG,stepG.exec,Frame.atR])
theorem c1W{F:Fence}{n:Nat}{P:Program}{Q:Exit→Act→World→Prop}{a:Act}{w:World}{c:Code}(h:c.wpIn F n P (Exit.noGoto Q) a w):(Code.scope c).wpIn F n P Q a w:=by
 intro b k cs yj hb af;have h0:(lone (b.atR a (.code (.scope c)::k)) cs w).fenced P F:=fenced_calm hb af rfl;obtain⟨e,qa,qb,aI,mU⟩:=h b (.inScope c::k) cs yj hb af;cases e with
 |normal=>exact⟨.normal,qa,qb,aI,.head h0 yk (StepsIn.trans mU (.one (fenced_calm hb af rfl) c1V))⟩
 |exit id=>
  have hx:exitTo id (.inScope c::k)=exitTo id k:=by simp[exitTo]
  exact⟨.exit id,qa,qb,aI,fun gZ ax=>.head h0 yk (mU.1 gZ (by rw[hx];exact ax)),
   fun n0 ax=>let⟨k₁,h1,h2⟩:=mU.2 n0 (by rw[hx];exact ax);⟨k₁,h1,.head h0 yk h2⟩⟩
 |goto l=>exact aI.elim
 |ret=>exact⟨_,qa,qb,aI,.of_steps (.one h0 yk) mU⟩
 |panic mh=>exact⟨_,qa,qb,aI,.of_steps (.one h0 yk) mU⟩
 |outgrown=>exact⟨_,qa,qb,aI,.of_steps (.one h0 yk) mU⟩
def o2(P:Program)(env:Env)(B:Nat)(run:iM):Prop:=
 ∀floor aH ac ae o outs,run floor aH ac ae o=some outs→∀k r c a w m,ccode P c=some ac→yi m aH r→eJ P env ae a o w m B→
  ∀Q:Exit→Act→World→Prop,(∀e bQ ah,(e,bQ,ah)∈outs→∀x cq ao aG,ExR ao aG (a_ ah aG) B e x→eJ P env bQ cq ah ao aG B→Ext floor o w m ah ao aG→Q x cq ao)→
   c.wpIn (eI r) k P Q a w∧∀bR,c= .loop bR→sD (eI r) k P bR Q a w
section
variable {P:Program}{env:Env}{B:Nat}
theorem c1X(env:Env):exec env 0=fun _ _ _ _ _=>none:=rfl
theorem mj(env:Env)(n:Nat):exec env (n+1)=step env (exec env n):=b8q env (exec env n)
theorem o2.zero:o2 P env B (exec env 0):=fun floor aH ac ae o outs h=>by rw[c1X] at h;cases h
def Vi(P:Program)(env:Env)(B:Nat)(run:iM):Prop:=
 ∀floor ops ae o l,runDraws env floor (callV env run floor) ops ae [] [] o=some l→(∀x∈l,x.2.2.1.all (steady env floor (x.2.2.2::x.2.1).reverse)=true∧swapOk env x.1.aW ops=true)→∀k r id Vj a w m,cdraw P Vj=some ops→eJ P env ae a o w m B→
  ∀Q:Exit→Act→World→Prop,(∀x∈l,∀cq ao aG,eJ P env x.1 cq x.2.2.2 ao aG B→Ext floor o w m x.2.2.2 ao aG→Q .normal cq ao)→(Code.region id Vj true).wpIn (eI r) k P Q a w
def Vk(P:Program)(env:Env)(B:Nat)(run:iM):Prop:=
 ∀floor aH f ps bP b ae o outs,step env run floor aH (.rangeFunc f ps bP b) ae o=some outs→∀k r c a w m,ccode P c=some (.rangeFunc f ps bP b)→yi m aH r→eJ P env ae a o w m B→
  ∀Q:Exit→Act→World→Prop,(∀e bQ ah,(e,bQ,ah)∈outs→∀x cq ao aG,ExR ao aG (a_ ah aG) B e x→eJ P env bQ cq ah ao aG B→Ext floor o w m ah ao aG→Q x cq ao)→c.wpIn (eI r) k P Q a w
theorem kp{α:Type}(x:α):x∈[x]:=e3.2 rfl
theorem mapO_mem{α β:Type}{f:α→Option β}:∀ {l:List α} {r:List β},mapO f l=some r→∀x∈l,∃y,f x=some y∧y∈r
 |[],_,_,x,hx=>by simp at hx
 |a::l,r,h,x,hx=>by
  have h:(match f a with|none=>none|some y=>match mapO f l with|none=>none|some aZ=>some (y::aZ))=some r:=h;split at h
  ·cases h
  ·rename_i y aJ;split at h
   ·cases h
   ·rename_i aZ mV;cases h;rcases dP.1 hx with rfl|hx
    ·exact⟨y,aJ,iq⟩
    ·obtain⟨z,h1,h2⟩:=mapO_mem mV x hx;exact⟨z,h1,e_ _ h2⟩
theorem Vl{env:Env}{floor:Nat}{ops:List aQ}{x:iN}{y:gn×Fr×ad}(h:drawn env floor ops x=some y):(x.2.2.1.all (steady env floor (x.2.2.2::x.2.1).reverse)=true∧swapOk env x.1.aW ops=true)∧y=(.normal,x.1,x.2.2.2):=by
 unfold drawn at h;cases hs:(x.2.2.1.all (steady env floor (x.2.2.2::x.2.1).reverse)&&swapOk env x.1.aW ops) with
 |false=>rw[hs] at h;cases h
 |true=>
  rw[hs,cond_true] at h;cases h;rw[bT] at hs;exact⟨hs,rfl⟩
theorem c1Y{run:iM}(bX:o2 P env B run)(mQ:∀f r,Br P env B f r (callV env run f))(c1Z:Vi P env B run)(c2a:Vk P env B run):o2 P env B (step env run):=by
 intro floor aH ac ae o outs h k r c a w m ab lO st Q c0;have rr:(∀bR,c≠ .loop bR)→c.wpIn (eI r) k P Q a w→c.wpIn (eI r) k P Q a w∧∀bR,c= .loop bR→sD (eI r) k P bR Q a w:=fun h1 h2=>⟨h2,fun bR he=>absurd he (h1 bR)⟩
 have trans:∀ {bk:ad} {bn:World} {bO:Nat→Option Nat} {fe:mc},Ext floor o w m bk bn bO→(∀y∈fe,y∈outs)→∀e bQ ah,(e,bQ,ah)∈fe→∀x cq ao aG,ExR ao aG (a_ ah aG) B e x→eJ P env bQ cq ah ao aG B→Ext floor bk bn bO ah ao aG→Q x cq ao:=
  fun c3 gd e bQ ah e9 x cq ao aG hx df hex=>c0 e bQ ah (gd _ e9) x cq ao aG hx df (c3.trans st.ctx.rel hex)
 cases c with
 |skip=>
  simp only[ccode,ca] at ab;subst ab;simp only[step] at h;cases h;exact rr (fun _ h=>by cases h) (wpIn_skip (c0 _ _ _ (kp _) .normal a w m trivial st (Ext.refl _ _ _ _)))
 |label l=>
  simp only[ccode,ca] at ab;subst ab;simp only[step] at h;cases h;exact rr (fun _ h=>by cases h) (wpIn_label (c0 _ _ _ (kp _) .normal a w m trivial st (Ext.refl _ _ _ _)))
 |goto l=>simp only[ccode,ca] at ab;subst ab;simp[step] at h
 |refuse l=>simp only[ccode,ca] at ab;subst ab;simp[step] at h
 |exit id=>
  simp only[ccode,ca] at ab;subst ab;simp only[step] at h;cases h;exact rr (fun _ h=>by cases h) (wpIn_exit (c0 _ _ _ (kp _) (.exit id) a w m rfl st (Ext.refl _ _ _ _)))
 |ret=>
  simp only[ccode,ca] at ab;subst ab;simp only[step] at h;cases h;exact rr (fun _ h=>by cases h) (wpIn_ret (c0 _ _ _ (kp _) .ret a w m trivial st (Ext.refl _ _ _ _)))
 |region id ops eU=>
  refine rr (fun _ h=>by cases h) ?_;cases eU with
  |true=>
   simp only[ccode] at ab;split at ab<;>cases ab
   ·rename_i l au;simp only[step] at h;split at h<;>try (cases h;done)
    rename_i o3 an;have hx:=fun x hx=>mapO_mem h x hx;refine c1Z _ _ _ _ _ an (fun x hm=>?_) k r id ops a w m au st Q (fun x hm cq ao aG h3 aN=>?_)
    ·obtain⟨y,h1,_⟩:=hx x hm;exact(Vl h1).1
    ·obtain⟨y,h1,qc⟩:=hx x hm;obtain⟨_,rfl⟩:=Vl h1;exact c0 _ _ _ qc .normal cq ao aG trivial h3 aN
   ·simp[step] at h
  |false=>
   simp only[ccode] at ab;split at ab<;>cases ab
   ·rename_i l au;simp only[step] at h;refine wpIn_region_list (Vh (mQ floor r) (fun hn=>?_) _ _ _ _ _ _ _ _ au h st Q c0);cases aH<;>cases r<;>first|rfl|exact lO.elim|simp at hn
   ·simp[step] at h
 |seq x y=>
  refine rr (fun _ h=>by cases h) ?_;simp only[ccode] at ab;split at ab<;>cases ab;rename_i bq ev hx aJ;simp only[step] at h;refine wpIn_seq ?_;obtain⟨l,sE,hr⟩:=ua h;refine(bX _ _ _ _ _ _ sE k r x a w m hx lO st _ (fun aE en bk e9 dK a6 bn bO e1 fN gO=>?_)).1;obtain⟨fe,et,gd⟩:=hr _ e9;cases aE with
  |normal=>
   cases dK<;>try exact e1.elim
   exact(bX _ _ _ _ _ _ et k r y a6 bn bO aJ (lO.mono gO.mono) fN Q (trans gO gd)).1
  |exit id=>cases et;cases dK<;>first|exact e1.elim|exact c0 _ _ _ (gd _ (kp _)) _ a6 bn bO e1 fN gO
  |ret=>cases et;cases dK<;>first|exact e1.elim|exact c0 _ _ _ (gd _ (kp _)) _ a6 bn bO e1 fN gO
  |panic v=>cases et;cases dK<;>first|exact e1.elim|exact c0 _ _ _ (gd _ (kp _)) _ a6 bn bO e1 fN gO
 |cond t x y=>
  refine rr (fun _ h=>by cases h) ?_;simp only[ccode] at ab;split at ab<;>cases ab;rename_i at' bq ev ht hx aJ;simp only[step] at h;split at h<;>try (cases h;done)
  rename_i bt KY;have KZ:=(st.ctx.aw ht KY).tI;refine wpIn_cond KZ ?_;cases bt with
  |true=>exact(bX _ _ _ _ _ _ h k r x a w m hx lO st Q c0).1
  |false=>exact(bX _ _ _ _ _ _ h k r y a w m aJ lO st Q c0).1
 |block id x=>
  refine rr (fun _ h=>by cases h) ?_;simp only[ccode] at ab;split at ab<;>cases ab;rename_i bq hx;simp only[step] at h;refine wpIn_block ?_;obtain⟨l,sE,hr⟩:=ua h;refine(bX _ _ _ _ _ _ sE k r x a w m hx lO st _ (fun aE en bk e9 dK a6 bn bO e1 fN gO=>?_)).1;obtain⟨fe,et,gd⟩:=hr _ e9;cases aE with
  |normal=>cases et;cases dK<;>first|exact e1.elim|exact c0 _ _ _ (gd _ (kp _)) _ a6 bn bO e1 fN gO
  |ret=>cases et;cases dK<;>first|exact e1.elim|exact c0 _ _ _ (gd _ (kp _)) _ a6 bn bO e1 fN gO
  |panic v=>cases et;cases dK<;>first|exact e1.elim|exact c0 _ _ _ (gd _ (kp _)) _ a6 bn bO e1 fN gO
  |exit j=>
   cases dK<;>try exact e1.elim
   rename_i q5;have aB:j=q5:=e1;subst aB;have et:cond (Nat.beq j id) (some [(gn.normal,en,bk)]) (some [(gn.exit j,en,bk)])=some fe:=et;cases hb:Nat.beq j id with
   |true=>
    rw[hb,cond_true] at et;cases et;have:=eM hb;simp only[Exit.inBlock,this,if_true];exact c0 _ _ _ (gd _ (kp _)) .normal a6 bn bO trivial fN gO
   |false=>
    rw[hb,cond_false] at et;cases et;have:j≠id:=fun he=>by rw[he,fR] at hb;cases hb
    simp only[Exit.inBlock,this,if_false];exact c0 _ _ _ (gd _ (kp _)) (.exit j) a6 bn bO rfl fN gO
 |loop x=>
  simp only[ccode] at ab;split at ab<;>cases ab;rename_i bq hx;have hL:sD (eI r) k P x Q a w:=by
   refine sD.round ?_;simp only[step] at h;obtain⟨l,sE,hr⟩:=ua h;refine(bX _ _ _ _ _ _ sE k r x a w m hx lO st _ (fun aE en bk e9 dK a6 bn bO e1 fN gO=>?_)).1;obtain⟨fe,et,gd⟩:=hr _ e9;cases aE with
   |normal=>
    cases dK<;>try exact e1.elim
    exact(bX _ _ _ _ _ _ et k r (.loop x) a6 bn bO (by simp only[ccode,hx]) (lO.mono gO.mono) fN Q (trans gO gd)).2 x rfl
   |exit id=>cases et;cases dK<;>first|exact e1.elim|exact c0 _ _ _ (gd _ (kp _)) _ a6 bn bO e1 fN gO
   |ret=>cases et;cases dK<;>first|exact e1.elim|exact c0 _ _ _ (gd _ (kp _)) _ a6 bn bO e1 fN gO
   |panic v=>cases et;cases dK<;>first|exact e1.elim|exact c0 _ _ _ (gd _ (kp _)) _ a6 bn bO e1 fN gO
  exact⟨hL.wpIn,fun bR he=>by cases he;exact hL⟩
 |scope x=>
  refine rr (fun _ h=>by cases h) ?_;simp only[ccode] at ab;split at ab<;>cases ab;rename_i bq hx;simp only[step] at h;refine c1W ((bX _ _ _ _ _ _ h k r x a w m hx lO st _ (fun aE en bk e9 dK a6 bn bO e1 fN gO=>?_)).1);cases dK with
  |goto l=>cases aE<;>exact e1.elim
  |_=>exact c0 _ _ _ e9 _ a6 bn bO e1 fN gO
 |rangeFunc g ps bP b=>
  refine rr (fun _ h=>by cases h) ?_;have hc0:=ab;simp only[ccode] at ab;split at ab<;>cases ab;exact c2a _ _ _ _ _ _ _ _ _ h k r _ a w m hc0 lO st Q c0
end
structure qd(P:Program)(env:Env):Prop where
 funcs:∀g cA,env.funcs g=some cA→∃fn,P.funcs[g]? =some fn∧cfunc P fn=some cA∧(fn.name== "runtime.NumGoroutine")=false
theorem Fc{P:Program}{fn:Func}{cA:bV}(h:cfunc P fn=some cA):∃rs c ac,mapOL (resOf P) fn.results.toList=some rs∧fn.body=some c∧ccode P c=some ac∧cA={kz:=fn.params.size+fn.nfree,ntmps:=fn.ntmps,results:=rs,body:=some ac}:=by
 unfold cfunc at h;split at h<;>try (cases h;done)
 rename_i rs sF;split at h<;>try (cases h;done)
 rename_i c ab;split at h<;>cases h;rename_i ac Bz;exact⟨rs,c,ac,sF,ab,Bz,rfl⟩
section
variable {P:Program}{env:Env}{B:Nat}{o:ad}{w:World}{m:Nat→Option Nat}
def res1(tmps:Array Value):ResultVar→Sem Value
 | .tmp t=>pure (tmps.getD t undef)
 | .cell a t=>do loadVar t (←asAddr (tmps.getD a undef))
theorem c2b(fn:Func)(tmps:Array Value):results fn tmps=(do let aX ←fn.results.mapM (res1 tmps);pure (if h:aX.size=1 then aX[0] else .tuple aX)):=by
 have:(fun(x:ResultVar)=>(match x with| .tmp t=>pure (tmps.getD t undef)| .cell a t=>(do loadVar t (←asAddr (tmps.getD a undef))):Sem Value))=res1 tmps:=by
  funext x;cases x<;>rfl
 unfold results;rw[←this];rfl
theorem c2c(af:Rel P o w m B){al:aP AV}{tmps:Array Value}(hs:iw w m (a_ o m) B al tmps.toList){x:ResultVar}{r:Nat×Option (Option Nat)}(hx:resOf P x=some r){v:AV}(h:resultOf o al r=some v):
  ∃u,(res1 tmps x).run P w= .ok u w∧aq w m (a_ o m) B v u:=by
 have getD:∀ {t:Nat} {u:Value},tmps.toList[t]? =some u→tmps.getD t undef=u:=fun {t u} h=>by
  rw[lB] at h;simp[h]
 cases x with
 |tmp t=>
  simp only[resOf,ca] at hx;subst hx;simp only[resultOf] at h;cases av:al.get t with
  |none=>simp[av] at h
  |some bJ=>
   simp only[av,ca] at h;subst h;obtain⟨u,hu,hE⟩:=hs.1 _ _ av;exact⟨u,by simp only[res1,getD hu,gX],hE⟩
 |cell b t=>
  simp only[resOf] at hx;cases f_:shapeOf P t with
  |none=>simp[f_] at hx
  |some R=>
   simp only[f_,ca] at hx;subst hx;simp only[resultOf] at h;split at h<;>try (cases h;done)
   ·rename_i aI;cases aI
   ·rename_i id off fr av aI;cases aI;split at h<;>try (cases h;done)
    rename_i c hg;obtain⟨u,hu,hE⟩:=hs.1 _ _ av;obtain⟨ar,hm,rfl⟩:=hE.sn;obtain⟨bL,h1,h2⟩:=TV af f_ hm hg h;exact⟨bL,by simp only[res1,getD hu,asAddr,er,gX,ez,h1],h2⟩
theorem Vm(af:Rel P o w m B){al:aP AV}{tmps:Array Value}(hs:iw w m (a_ o m) B al tmps.toList){fn:Func}{rs:List (Nat×Option (Option Nat))}(hx:mapOL (resOf P) fn.results.toList=some rs){v:AV}(h:resultsOf o al rs=some v):
  ∃u,(results fn tmps).run P w= .ok u w∧aq w m (a_ o m) B v u:=by
 have key:∀(l:List ResultVar) (rs:List (Nat×Option (Option Nat))) (aX:List AV),mapOL (resOf P) l=some rs→mapO (resultOf o al) rs=some aX→
   ∃us:List Value,(l.mapM (res1 tmps)).run P w= .ok us w∧bm w m (a_ o m) B aX us:=by
  intro l
  induction l with
  |nil=>
   intro rs aX h1 h2;simp[mapOL] at h1;subst h1;rw[TM] at h2;cases h2;exact⟨[],by simp,bm.nil⟩
  |cons x l ay=>
   intro rs aX h1 h2;rw[mapOL] at h1;split at h1<;>cases h1;rename_i r c2d iR qe;rw[mapO_cons] at h2;split at h2<;>try (cases h2;done)
   rename_i bJ vY;split at h2<;>cases h2;rename_i ra c2e;obtain⟨u,hu,hE⟩:=c2c af hs iR vY;obtain⟨us,hQ,c2f⟩:=ay c2d ra qe c2e;exact⟨u::us,by simp only[List.mapM_cons,er,hu,ez,hQ,gX],bm.cons hE c2f⟩
 have run:∀(aX:List AV),mapO (resultOf o al) rs=some aX→∃us:List Value,(fn.results.mapM (res1 tmps)).run P w= .ok us.toArray w∧bm w m (a_ o m) B aX us:=fun aX jZ=>by
  obtain⟨us,h1,h2⟩:=key _ _ _ hx jZ;refine⟨us,?_,h2⟩;rw[Tn];simp only[Sem.run_map,h1,ez]
 unfold resultsOf at h;rw[c2b];split at h<;>cases h
 ·rename_i av;obtain⟨us,h1,h2⟩:=run _ av;have au:us.length=1:=h2.1;obtain⟨u,rfl⟩:∃u,us=[u]:=by cases us with|nil=>simp at au|cons u t=>cases t with|nil=>exact⟨u,rfl⟩|cons _ _=>simp at au
  refine⟨u,?_,h2.2 0 (by simp) (by simp)⟩;simp only[er,h1,ez,gX];simp
 ·rename_i aX bS av;obtain⟨us,h1,h2⟩:=run _ av;refine⟨.tuple us.toArray,?_,aq.sm h2⟩;have au:us.length≠1:=fun h=>by
   rw[h2.1] at h;cases aX with
   |nil=>simp at h
   |cons v t=>cases t with|nil=>exact bS v rfl|cons _ _=>simp at h
  simp only[er,h1,ez,gX];simp[au]
def nv(w:World)(m:Nat→Option Nat)(O:Nat→Prop)(B:Nat):Option AV→FrameMode→Prop
 |none,.returning=>True
 |some v,.panicking mh=>∃u,mh=[{v:=u,recovered:=false}]∧aq w m O B v u
 |_,_=>False
theorem nv.ext{f:Nat}{ah:ad}{ao:World}{aG:Nat→Option Nat}{p:Option AV}{u:FrameMode}(h:nv w m (a_ o m) B p u)(he:Ext f o w m ah ao aG)(af:Rel P o w m B):nv ao aG (a_ ah aG) B p u:=by
 cases p<;>cases u<;>first|exact h|(obtain⟨mi,h1,h2⟩:=h;exact⟨mi,h1,h2.ext he af⟩)
def K0(P:Program)(env:Env)(B f:Nat)(call:AV→List AV→AV→ad→Option (Bool×ad)):Prop:=
 ∀bB args p o r ah,call bB args (p.getD .fb) o=some (r,ah)→∀k w m u d,Rel P o w m B→Globs env w B→nv w m (a_ o m) B p u→yh w m (a_ o m) B (.inr (bB,args)) d→
  ∃K1 cap g yl,d.target= .fn K1 cap∧(invoke d.target d.args).run P w= .ok (.enter g yl) w∧
   CallsDIn (eI none) k P g yl u w (fun e bL ao=>(∃v,e= .returned v)∧∃aG,nv ao aG (a_ ah aG) B (cond r none p) (settle bL)∧Rel P ah ao aG B∧Ext f o w m ah ao aG)
theorem c2g(f:Nat)(call:AV→List AV→AV→ad→Option (Bool×ad))(p:Option AV)(o:ad):leave f call [] p o=some (p,o):=rfl
theorem leave_cons(f:Nat)(call:AV→List AV→AV→ad→Option (Bool×ad))(d:Nat ⊕ (AV×List AV))(ds:List (Nat ⊕ (AV×List AV)))(p:Option AV)(o:ad):leave f call (d::ds) p o=match d with
  | .inl b=>if Nat.blt b f then none else match o.get b with
   |some .cT=>leave f call ds p (o.set b .dead)
   |_=>none
  | .inr (bB,args)=>match call bB args (p.getD .fb) o with
   |some (r,o)=>leave f call ds (cond r none p) o
   |none=>none:=rfl
theorem K2{f:Nat}{call:AV→List AV→AV→ad→Option (Bool×ad)}(mQ:K0 P env B f call){fn:Func}{rs:List (Nat×Option (Option Nat))}(hx:mapOL (resOf P) fn.results.toList=some rs){k:Nat}{tmps:Array Value}{al:aP AV}:
  ∀(ds:List (Nat ⊕ (AV×List AV))) (sG:List Deferred) (p dU:Option AV) (u:FrameMode) (o ah:ad) (w:World) (m:Nat→Option Nat),leave f call ds p o=some (dU,ah)→iA (yh w m (a_ o m) B) ds sG→nv w m (a_ o m) B p u→
   Rel P o w m B→iw w m (a_ o m) B al tmps.toList→Globs env w B→∀(ret:c6),(match dU with|some v=>some (c6.err v)|none=>(resultsOf ah al rs).map c6.ok)=some ret→
   ∀Q:Ending→World→Prop,(∀e ao aG,p9 ao aG (a_ ah aG) B ret e→Rel P ah ao aG B→Ext f o w m ah ao aG→Q e ao)→LeavesInM (eI none) k P fn tmps Q sG u w
 |[],sG,p,dU,u,o,ah,w,m,h,an,hu,af,hs,eS,ret,iB,Q,c0=>by
  cases sG with
  |cons _ _=>exact an.elim
  |nil=>
  rw[c2g] at h;cases h;cases p with
  |none=>
   cases u<;>try exact hu.elim
   simp only[eu] at iB;obtain⟨v,av,rfl⟩:=iB;obtain⟨ud,h1,h2⟩:=Vm af hs hx av;exact⟨ud,h1,c0 _ _ m h2 af (Ext.refl _ _ _ _)⟩
  |some v=>
   cases u<;>try exact hu.elim
   simp only[ca] at iB;subst iB;exact c0 _ _ m hu af (Ext.refl _ _ _ _)
 |d::ds,sG,p,dU,u,o,ah,w,m,h,an,hu,af,hs,eS,ret,iB,Q,c0=>by
  cases sG with
  |nil=>exact an.elim
  |cons e5 sG=>
  obtain⟨lP,ym⟩:=an;have bX:u≠ .run:=fun he=>by subst he;cases p<;>exact hu.elim
  rw[leave_cons] at h;refine⟨bX,?_⟩;cases d with
  |inl b=>
   simp only at h;split at h<;>try (cases h;done)
   rename_i eF;split at h<;>try (cases h;done)
   rename_i hg;obtain⟨ar,hm,rfl⟩:=lP;obtain⟨bE,et,oU⟩:=af.obj _ _ _ hm hg rfl;cases oU;left;have hb:=vP et;obtain⟨iR,fg⟩:=af.c7 (f:=f) (by simpa [fX] using eF) hm ⟨_,hg,rfl⟩ (w.putObj ar (.deferred none)) .dead (by simp) (fun b bS=>UW bS) (fun n hn=>by unfold bsz at hn;rw[et] at hn;cases hn) rfl rfl rfl (fun h=>by cases h);refine⟨ar,w.putObj ar (.deferred none),rfl,run_takeDeferred et,?_⟩;exact K2 mQ hx ds sG p dU u _ ah _ m h (Bq (fun _ _ an=>an.ext fg af) ym) (by
    cases p<;>cases u<;>first|exact hu|(obtain⟨mi,h1,h2⟩:=hu;exact⟨mi,h1,h2.ext fg af⟩)) iR (hs.ext fg af) (Globs.ext eS fg af) ret iB Q
    (fun e ao aG h1 h2 h3=>c0 e ao aG h1 h2 (fg.trans af h3))
  |inr q=>
   obtain⟨bB,args⟩:=q;simp only at h;split at h<;>try (cases h;done)
   rename_i r bk ab;obtain⟨K1,cap,g,yl,ht,hinv,K3⟩:=mQ bB args p o r bk ab (k-1) w m u e5 af eS hu lP;right;refine⟨fun hs=>by simp[eI] at hs,K1,cap,g,yl,ht,hinv,fun _ _=>trivial,?_⟩;refine CallsDIn.mono K3 (fun e bL ao dH=>?_);obtain⟨⟨v,rfl⟩,aG,q9,iR,fg⟩:=dH;exact K2 mQ hx ds sG _ dU (settle bL) bk ah ao aG h (Bq (fun _ _ an=>an.ext fg af) ym) q9 iR (hs.ext fg af) (Globs.ext eS fg af) ret iB Q
    (fun e ao aG h1 h2 h3=>c0 e ao aG h1 h2 (fg.trans af h3))
end
section
variable {P:Program}{env:Env}{B:Nat}
theorem yn{g:Nat}{fn:Func}(hf:P.funcs[g]? =some fn){c:Code}(hb:fn.body=some c)(hn:(fn.name== "runtime.NumGoroutine")=false)(cs args:Array Value)(w:World):
  (invoke (.fn (.func g) cs) args).run P w= .ok (.enter g (args++cs)) w:=by
 simp only[beq_eq_false_iff_ne,ne_eq] at hn;have hp:(program).run P w= .ok P w:=rfl;simp only[invoke,callFunc,er,hp,ez,hf];simp[hn,hb]
theorem c2h{α:Type}(i:Nat)(t:aP α):aP.lay [] i t=t:=rfl
theorem c2i{α:Type}(x:α)(l:List α)(i:Nat)(t:aP α):aP.lay (x::l) i t=aP.lay l (i+1) (t.set i x):=rfl
theorem Vn{w:World}{m:Nat→Option Nat}{O:Nat→Prop}:∀(args:List AV) (us:List Value) (i:Nat) (t:aP AV) (pre:List Value) (n:Nat),bm w m O B args us→pre.length=i→
  iw w m O B t (pre++List.replicate (args.length+n) undef)→iw w m O B (aP.lay args i t) (pre++(us++List.replicate n undef))
 |[],us,i,t,pre,n,ha,hp,h=>by
  have:us=[]:=nc (by simpa using ha.1);subst this;rw[c2h];simpa using h
 |x::args,us,i,t,pre,n,ha,hp,h=>by
  cases us with
  |nil=>have:=ha.1;simp at this
  |cons u us=>
   rw[c2i];have hx:aq w m O B x u:=ha.2 0 (by simp) (by simp);have wy:bm w m O B args us:=by simpa using ha.drop 1
   have key:=Vn args us (i+1) (t.set i x) (pre++[u]) n wy (by simp[hp]) (by
    have Vo:=iw.put (tmps:=(pre++List.replicate ((x::args).length+n) undef).toArray) (by simpa using h) i hx;have aE:((pre++List.replicate ((x::args).length+n) undef).toArray.setIfInBounds i u).toList=(pre++[u])++List.replicate (args.length+n) undef:=by
     simp only[UX];rw[←hp,List.set_append_right _ _ (bK _),Ei];have aY:(x::args).length+n=(args.length+n)+1:=by simp;omega
     rw[aY,UY,List.set_cons_zero];simp
    rw[aE] at Vo;exact Vo)
   simpa using key
theorem c2j{w:World}{m:Nat→Option Nat}{O:Nat→Prop}(n:Nat):iw w m O B (aP.full n dw n) (List.replicate n undef):=by
 refine⟨fun i v av=>?_,fun i av=>?_⟩
 ·obtain⟨rfl,hi⟩:=aP.EA _ _ _ _ _ av;exact⟨undef,by simp[hi],aq.undef⟩
 ·rcases mF i n with h|h
  ·rw[aP.Ez n n i dw h (bK _)] at av;cases av
  ·exact UZ (by simpa using h)
theorem Vp{fn:Func}{cA:bV}(jN:cA.ntmps=fn.ntmps){o:ad}{w:World}{m:Nat→Option Nat}(af:Rel P o w m B)(eS:Globs env w B){args:List AV}(hle:args.length≤fn.ntmps){us:Array Value}(ha:bm w m (a_ o m) B args us.toList):
  eJ P env (sh cA args) {tmps:=us++Array.replicate (fn.ntmps-us.size) undef,defers:=[]} o w m B:=by
 refine⟨⟨af,?_,eS⟩,trivial⟩;have au:us.size=args.length:=by have:=ha.1;simpa using this
 simp only[sh,KH,Array.toList_replicate,jN,au];have:=Vn args us.toList 0 (aP.full fn.ntmps dw fn.ntmps) [] (fn.ntmps-args.length) ha rfl (by
  have e:args.length+(fn.ntmps-args.length)=fn.ntmps:=by omega
  rw[e];simpa using c2j fn.ntmps)
 simpa using this
theorem Fe(gw:qd P env){run:iM}(bX:o2 P env B run){f:Nat}(an:K0 P env B f (callD env f)){g:Nat}{args:List AV}{o:ad}{jM:List (c6×ad)}(h:runF env run f g args o=some jM)(k:Nat)(r:Option Nat)
  {w:World} {m:Nat→Option Nat} (af:Rel P o w m B) (eS:Globs env w B) {us:Array Value} (ha:bm w m (a_ o m) B args us.toList):
  (∃fn c,P.funcs[g]? =some fn∧fn.body=some c∧(fn.name== "runtime.NumGoroutine")=false)∧
  CallsIn (eI r) k P g us w (fun e ao=>∃ret ah,(ret,ah)∈jM∧∃aG,p9 ao aG (a_ ah aG) B ret e∧Rel P ah ao aG B∧Ext f o w m ah ao aG):=by
 unfold runF at h;cases hg:env.funcs g with
 |none=>simp[hg] at h
 |some cA=>
  obtain⟨fn,hfn,iT,sH⟩:=gw.funcs g cA hg;obtain⟨rs,c,ac,sF,BA,Bz,rfl⟩:=Fc iT;simp only[hg] at h;refine⟨⟨fn,c,hfn,BA,sH⟩,?_⟩;cases hb:(Nat.beq args.length (fn.params.size+fn.nfree)&&Nat.ble args.length fn.ntmps) with
  |false=>rw[hb] at h;cases h
  |true=>
   rw[hb,cond_true] at h;simp only[bT,KG] at hb;obtain⟨l,hex,hr⟩:=ua h;have df:=Vp (fn:=fn) (cA:={kz:=fn.params.size+fn.nfree,ntmps:=fn.ntmps,results:=rs,body:=some ac}) rfl af eS hb.2 ha;show CallsIn (eI none) k P g us w _;refine callsIn_of_wp_marks hfn BA trivial ((bX _ _ _ _ _ _ hex k none c _ w m Bz trivial df _ (fun e en bk e9 dK a6 bn bO e1 fN gO=>?_)).1);obtain⟨fe,et,gd⟩:=hr _ e9;have fin:∀(dU:Option AV) (b7:ad) (ret:c6),leave f (callD env f) en.defers (AT e) bk=some (dU,b7)→(match dU with|some v=>some (c6.err v)|none=>(resultsOf b7 en.aW rs).map c6.ok)=some ret→(ret,b7)∈jM→
     ∀u,nv bn bO (a_ bk bO) B (AT e) u→LeavesInM (eI none) k P fn a6.tmps (fun e ao=>∃ret ah,(ret,ah)∈jM∧∃aG,p9 ao aG (a_ ah aG) B ret e∧Rel P ah ao aG B∧Ext f o w m ah ao aG) a6.defers u bn:=fun dU b7 ret au iB je u hu=>
    K2 an sF _ _ _ _ _ _ _ _ _ au fN.defs hu fN.ctx.rel fN.ctx.aW fN.ctx.globs ret iB _ (fun e ao aG h1 h2 h3=>⟨ret,b7,je,aG,h1,h2,gO.trans af h3⟩)
   have go:(∀id,e≠ .exit id)→∀u,nv bn bO (a_ bk bO) B (AT e) u→LeavesInM (eI none) k P fn a6.tmps (fun e ao=>∃ret ah,(ret,ah)∈jM∧∃aG,p9 ao aG (a_ ah aG) B ret e∧Rel P ah ao aG B∧Ext f o w m ah ao aG) a6.defers u bn:=fun bS u hu=>by
    unfold endF at et;split at et
    ·rename_i he;cases he;exact absurd rfl (bS _)
    rename_i eQ bQ ah fg kD;cases kD;split at et<;>try (cases et;done)
    ·rename_i oO;cases et;exact fin _ _ _ oO rfl (gd _ (kp _)) u hu
    ·rename_i oO;split at et<;>cases et;rename_i dH;exact fin _ _ _ oO (by simp[dH]) (gd _ (kp _)) u hu
   cases e with
   |exit id=>cases et
   |normal=>cases dK<;>first|exact e1.elim|exact go (fun _ h=>by cases h) _ trivial
   |ret=>cases dK<;>first|exact e1.elim|exact go (fun _ h=>by cases h) _ trivial
   |panic v=>cases dK<;>first|exact e1.elim|exact go (fun _ h=>by cases h) _ e1
end
def wpListS(F:Fence)(n:Nat)(P:Program)(ops:Array Oper)(Q:Exit→Act→List Frame→World→Prop):List Oper→Act→List Frame→World→Prop
 |[],a,cs,w=>Q .normal a cs w
 |I::rest,a,cs,w=>
   (∀f,I.about P w a.eval=some f→F.fn f)∧
   if Region.wanted I (yielded ops a.tmps) then
    match(execOp a.eval I).run P w with
    | .ok .recover ao=>
     match recoverD cs with
     |some (v,e6)=>wpListS F n P ops Q rest (a.put I.dst v) e6 ao
     |none=>wpListS F n P ops Q rest (a.put I.dst .nilIface) cs ao
    | .ok (.value v) ao=>wpListS F n P ops Q rest (a.put I.dst v) cs ao
    | .ok .skip ao=>wpListS F n P ops Q rest (a.put I.dst undef) cs ao
    | .halt (.panic v) ao=>Q (.panic [{v,recovered:=false}]) a cs ao
    |_=>False
   else wpListS F n P ops Q rest (a.put I.dst undef) cs w
theorem c2k{F:Fence}{n:Nat}{P:Program}{ops:Array Oper}{Q:Exit→Act→List Frame→World→Prop}(l:List Oper):∀k,(∀j,l[j]? =ops[k+j]?)→∀a cs w,wpListS F n P ops Q l a cs w→wpOpsSIn F n P ops Q (List.range' k l.length) a cs w:=by
 induction l with
 |nil=>intro k _ a cs w h;simpa [wpOpsSIn,wpListS] using h
 |cons I l ay=>
  intro k h a cs w hh;have h0:ops[k]? =some I:=by simpa using (h 0).symm
  have BB:=ay (k+1) (fun j=>by have:=h (j+1);simpa [Eb,xH 1 j] using this);simp only[jD,List.range'_succ,wpOpsSIn,h0];simp only[wpListS] at hh;refine⟨hh.1,?_⟩;have hh:=hh.2;split at hh
  ·rename_i hw;rw[if_pos hw];split at hh
   ·rename_i af;simp only[af];split at hh
    ·rename_i BC;simp only[BC];exact BB _ _ _ hh
    ·rename_i BC;simp only[BC];exact BB _ _ _ hh
   ·rename_i af;simp only[af];exact BB _ _ _ hh
   ·rename_i af;simp only[af];exact BB _ _ _ hh
   ·rename_i af;simp only[af];exact hh
   ·exact hh.elim
  ·rename_i hw;rw[if_neg hw];exact BB _ _ _ hh
theorem c2l{F:Fence}{n:Nat}{P:Program}{id:Nat}{ops:Array Oper}{Q:Exit→Act→List Frame→World→Prop}{a:Act}{cs:List Frame}{w:World}(h:wpListS F n P ops Q ops.toList a cs w):(Code.region id ops false).wpSIn F n P Q a cs w:=
 wpSIn_region (by rw[List.range_eq_range',← qZ];exact c2k _ 0 (by simp) _ _ _ h)
def BD:FrameMode→FrameMode
 | .panicking [{v,..}]=>.panicking [{v,recovered:=true}]
 |u=>u
section
variable {P:Program}{env:Env}{B:Nat}
def ue(ll:Frame)(cs:List Frame)(u:FrameMode)(eZ:Bool)(e6:List Frame):Prop:=e6={ll with mode:=if eZ then BD u else u}::cs
theorem c2m{I:Oper}(h:cop P I=some .recover)(a:Act)(w:World):(execOp a.eval I).run P w= .ok .recover w:=by
 unfold cop at h;split at h
 all_goals first
  |(cases h;done)
  |(simp only[eu,reduceCtorEq,and_false,exists_false] at h;done)
  |(simp only[dG,c8,dT,ca,reduceCtorEq,and_false,exists_false] at h;done)
  |skip
 all_goals first
  |(
    rename_i aj;split at h
    all_goals first
     |(cases h;done)
     |(rw[Bn aj];simp[builtin];done)
     |(
      exfalso
      repeat' first
       |(cases h;done)
       |(simp only[eu,reduceCtorEq,and_false,exists_false] at h;done)
       |(simp only[dG,c8,dT,ca,reduceCtorEq,and_false,exists_false] at h;done)
       |split at h
       |(obtain⟨_,_,h⟩:=h)
       |(simp only[dG,c8,dT,ca] at h)))
  |(
    exfalso
    repeat' first
     |(cases h;done)
     |(simp only[eu,reduceCtorEq,and_false,exists_false] at h;done)
     |(simp only[dG,c8,dT,ca,reduceCtorEq,and_false,exists_false] at h;done)
     |split at h
     |(obtain⟨_,_,h⟩:=h)
     |(simp only[dG,c8,dT,ca] at h))
theorem Vq{f:Nat}{p:Option AV}{u:FrameMode}{ll:Frame}{cs:List Frame}{ops:Array Oper}{k:Nat}:
  ∀(ol:List Oper) (ko:List aQ) (ae bQ:Fr) (o ah:ad) (e:gn) (a:Act) (w:World) (m:Nat→Option Nat) (iC:List Frame),mapOL (coper P ops) ol=some ko→
   pN env f (fun _ _ _=>none) (some (p.getD .fb)) false ko ae o=some (e,bQ,ah)→eJ P env ae a o w m B→nv w m (a_ o m) B p u→ue ll cs u ae.eZ iC→
   ∀Q:Exit→Act→List Frame→World→Prop,(∀x cq e6 ao aG,ExR ao aG (a_ ah aG) B e x→eJ P env bQ cq ah ao aG B→Ext f o w m ah ao aG→ue ll cs u bQ.eZ e6→Q x cq e6 ao)→wpListS (eI none) k P ops Q ol a iC w
 |[],ko,ae,bQ,o,ah,e,a,w,m,iC,hm,h,st,hu,an,Q,c0=>by
  simp[mapOL] at hm;subst hm;rw[c1N] at h;cases h;exact c0 .normal a iC w m trivial st (Ext.refl _ _ _ _) an
 |I::ol,ko,ae,bQ,o,ah,e,a,w,m,iC,hm,h,st,hu,an,Q,c0=>by
  rw[mapOL] at hm;split at hm<;>cases hm;rename_i aL Bt aj Bb;obtain⟨fm,iS⟩:=Fb aj;rw[runOpsD_cons] at h;rw[wpListS,E_ aj st.ctx.aW];refine⟨fun _ _=>trivial,?_⟩;have next:∀ {en:Fr} {a6:Act} {bk:ad} {bn:World} {bO:Nat→Option Nat} {qf:List Frame},pN env f (fun _ _ _=>none) (some (p.getD .fb)) false Bt en bk=some (e,bQ,ah)→eJ P env en a6 bk bn bO B→Ext f o w m bk bn bO→ue ll cs u en.eZ qf→wpListS (eI none) k P ops Q ol a6 qf bn:=
   fun {en a6 bk bn bO qf} h1 gN c3 lP=>Vq ol Bt en bQ bk ah e a6 bn bO qf Bb h1 gN (hu.ext c3 st.ctx.rel) lP Q (fun x cq e6 ao aG hx df hex=>c0 x cq e6 ao aG hx df (c3.trans st.ctx.rel hex))
  have yo:∀(ae:Fr) d v,(ae.put d v).eZ=ae.eZ:=fun ae d v=>by cases d<;>rfl
  cases hw:wantedA aL.guard ae.aW with
  |false=>
   rw[hw,cond_false] at h;simp only[oH,if_false];refine next h ?_ (Ext.refl _ _ _ _) (by rw[yo];exact an)
   rw[iS];exact st.put _ aq.undef
  |true=>
   rw[hw,cond_true] at h;simp only[if_true];split at h
   ·-- recover
    rename_i BC;simp only at h;have bX:=c2m (P:=P) (Bs (fm.symm.trans BC) (by simp)) a w;rw[bX];simp only;unfold ue at an;subst an;have K4:eJ P env ⟨ae.aW,ae.defers,true⟩ a o w m B:=⟨st.ctx,st.defs⟩
    cases af:ae.eZ with
    |true=>
     rw[af] at h;have sl:recoverD ({ll with mode:=if true=true then BD u else u}::cs)=none:=by
      cases p<;>cases u<;>first|exact hu.elim|rfl|(obtain⟨mi,rfl,_⟩:=hu;rfl)
     rw[sl];simp only;have kX:=K4.put aL.dst (v:=.fb) (u:=.nilIface) aq.fb;rw[iS] at kX h;exact next h kX (Ext.refl _ _ _ _) (by rw[yo];rfl)
    |false=>
     rw[af] at h;cases p with
     |none=>
      cases u<;>try exact hu.elim
      have sl:recoverD ({ll with mode:=if false=true then BD .returning else .returning}::cs)=none:=rfl;rw[sl];simp only;have kX:=K4.put aL.dst (v:=.fb) (u:=.nilIface) aq.fb;rw[iS] at kX h;exact next h kX (Ext.refl _ _ _ _) (by rw[yo];rfl)
     |some v=>
      cases u<;>try exact hu.elim
      obtain⟨mi,rfl,hE⟩:=hu;have Ko:recoverD ({ll with mode:=if false=true then BD (.panicking [{v:=mi,recovered:=false}]) else .panicking [{v:=mi,recovered:=false}]}::cs)=some (mi,{ll with mode:=.panicking [{v:=mi,recovered:=true}]}::cs):=rfl;rw[Ko];simp only;have kX:=K4.put aL.dst hE;rw[iS] at kX h;exact next h kX (Ext.refl _ _ _ _) (by rw[yo];rfl)
   ·rename_i op bS;generalize KT:aL.op=ch at h fm;have ab:∀res,opx f (evalA env ae.aW) o ch=some res→cop P I=some ch:=fun res dH=>Bs fm.symm (fun hb=>by subst hb;simp[opx] at dH);split at h
    ·rename_i v bk hx;obtain⟨ud,bn,bO,bX,b9,mR,c3⟩:=yg st.ctx (ab _ hx) hx;have df:=(st.ext c3 mR).put aL.dst b9;rw[iS] at df h;rcases bX with bX|⟨bX,rfl⟩
     ·rw[bX];exact next h df c3 (by rw[yo];exact an)
     ·rw[bX];exact next h df c3 (by rw[yo];exact an)
    ·cases h
    ·simp at h
    ·rename_i v hx;cases h;obtain⟨x,t,mi,rfl,o1,rfl⟩:=Vg hx;obtain⟨By,KX,mT⟩:=Ve (ab _ hx);have p_:=st.ctx.aw KX o1;obtain⟨bL,rf⟩:∃bL,a.eval By= .iface t bL:=by
      revert p_;generalize a.eval By=mi;intro p_;cases p_;exact⟨_,rfl⟩
     have bX:=Vf (P:=P) mT rf w;rw[bX];rw[rf] at p_;exact c0 _ _ _ _ m ⟨_,rfl,p_⟩ st (Ext.refl _ _ _ _) an
    ·cases h
    ·cases h
theorem runD_ok{f:Nat}{p:Option AV}{u:FrameMode}{ll:Frame}{cs:List Frame}{k:Nat}:
  ∀(c:Code) (ac:bc) (ae bQ:Fr) (o ah:ad) (e:gn) (a:Act) (w:World) (m:Nat→Option Nat) (iC:List Frame),ccode P c=some ac→
   tF env f (p.getD .fb) ac ae o=some (e,bQ,ah)→eJ P env ae a o w m B→nv w m (a_ o m) B p u→ue ll cs u ae.eZ iC→
   ∀Q:Exit→Act→List Frame→World→Prop,(∀x cq e6 ao aG,ExR ao aG (a_ ah aG) B e x→eJ P env bQ cq ah ao aG B→Ext f o w m ah ao aG→ue ll cs u bQ.eZ e6→Q x cq e6 ao)→c.wpSIn (eI none) k P Q a iC w:=by
 intro c
 induction c with
 |skip=>
  intro ac ae bQ o ah e a w m iC ab h st hu an Q c0;simp only[ccode,ca] at ab;subst ab;have h':some (gn.normal,ae,o)=some (e,bQ,ah):=h;cases h';exact wpSIn_of_wpIn rfl (wpIn_skip (c0 .normal a iC w m trivial st (Ext.refl _ _ _ _) an))
 |ret=>
  intro ac ae bQ o ah e a w m iC ab h st hu an Q c0;simp only[ccode,ca] at ab;subst ab;have h':some (gn.ret,ae,o)=some (e,bQ,ah):=h;cases h';exact wpSIn_of_wpIn rfl (wpIn_ret (c0 .ret a iC w m trivial st (Ext.refl _ _ _ _) an))
 |label l=>
  intro ac ae bQ o ah e a w m iC ab h st hu an Q c0;simp only[ccode,ca] at ab;subst ab;have h':some (gn.normal,ae,o)=some (e,bQ,ah):=h;cases h';exact wpSIn_of_wpIn rfl (wpIn_label (c0 .normal a iC w m trivial st (Ext.refl _ _ _ _) an))
 |region id ops eU=>
  intro ac ae bQ o ah e a w m iC ab h st hu an Q c0;cases eU with
  |true=>
   simp only[ccode] at ab;split at ab<;>cases ab<;>(have h':none=some (e,bQ,ah):=h;cases h')
  |false=>
   simp only[ccode] at ab;split at ab<;>cases ab
   ·rename_i l au;have h':pN env f (fun _ _ _=>none) (some (p.getD .fb)) false l ae o=some (e,bQ,ah):=h;exact c2l (Vq _ _ _ _ _ _ _ _ _ _ _ au h' st hu an Q c0)
   ·have h':none=some (e,bQ,ah):=h;cases h'
 |seq x y Ff Fg=>
  intro ac ae bQ o ah e a w m iC ab h st hu an Q c0;simp only[ccode] at ab;split at ab<;>cases ab;rename_i bq ev hx aJ;have h':(match tF env f (p.getD .fb) bq ae o with|some (.normal,ae,o)=>tF env f (p.getD .fb) ev ae o|r=>r)=some (e,bQ,ah):=h;refine wpSIn_seq ?_;cases sE:tF env f (p.getD .fb) bq ae o with
  |none=>simp[sE] at h'
  |some res=>
   obtain⟨aE,en,bk⟩:=res;simp only[sE] at h';refine Ff bq ae en o bk aE a w m iC hx sE st hu an _ (fun dK a6 qf bn bO e1 fN gO lP=>?_);cases aE with
   |normal=>
    cases dK<;>try exact e1.elim
    exact Fg ev en bQ bk ah e a6 bn bO qf aJ h' fN (hu.ext gO st.ctx.rel) lP Q (fun x cq e6 ao aG h1 h2 h3 aN=>c0 x cq e6 ao aG h1 h2 (gO.trans st.ctx.rel h3) aN)
   |exit id=>cases h';cases dK<;>first|exact e1.elim|exact c0 _ a6 qf bn bO e1 fN gO lP
   |ret=>cases h';cases dK<;>first|exact e1.elim|exact c0 _ a6 qf bn bO e1 fN gO lP
   |panic v=>cases h';cases dK<;>first|exact e1.elim|exact c0 _ a6 qf bn bO e1 fN gO lP
 |cond t x y Ff Fg=>
  intro ac ae bQ o ah e a w m iC ab h st hu an Q c0;simp only[ccode] at ab;split at ab<;>cases ab;rename_i at' bq ev ht hx aJ;have h':(match evalA env ae.aW at' with|some (.b t)=>cond t (tF env f (p.getD .fb) bq ae o) (tF env f (p.getD .fb) ev ae o)|_=>none)=some (e,bQ,ah):=h;split at h'<;>try (cases h';done)
  rename_i bt KY;have KZ:=(st.ctx.aw ht KY).tI;refine wpSIn_cond KZ ?_;cases bt with
  |true=>exact Ff bq ae bQ o ah e a w m iC hx h' st hu an Q c0
  |false=>exact Fg ev ae bQ o ah e a w m iC aJ h' st hu an Q c0
 |block id x ay=>
  intro ac ae bQ o ah e a w m iC ab h st hu an Q c0;simp only[ccode] at ab;split at ab<;>cases ab;have h':none=some (e,bQ,ah):=h;cases h'
 |loop x ay=>
  intro ac ae bQ o ah e a w m iC ab h st hu an Q c0;simp only[ccode] at ab;split at ab<;>cases ab;have h':none=some (e,bQ,ah):=h;cases h'
 |scope x ay=>
  intro ac ae bQ o ah e a w m iC ab h st hu an Q c0;simp only[ccode] at ab;split at ab<;>cases ab;have h':none=some (e,bQ,ah):=h;cases h'
 |rangeFunc g ps x y Ff Fg=>
  intro ac ae bQ o ah e a w m iC ab h st hu an Q c0;simp only[ccode] at ab;split at ab<;>cases ab;have h':none=some (e,bQ,ah):=h;cases h'
 |exit id=>
  intro ac ae bQ o ah e a w m iC ab h st hu an Q c0;simp only[ccode,ca] at ab;subst ab;have h':none=some (e,bQ,ah):=h;cases h'
 |goto l=>
  intro ac ae bQ o ah e a w m iC ab h st hu an Q c0;simp only[ccode,ca] at ab;subst ab;have h':none=some (e,bQ,ah):=h;cases h'
 |refuse l=>
  intro ac ae bQ o ah e a w m iC ab h st hu an Q c0;simp only[ccode,ca] at ab;subst ab;have h':none=some (e,bQ,ah):=h;cases h'
theorem c2n{o:ad}{w:World}{m:Nat→Option Nat}{O:Nat→Prop}{p:Option AV}{u:FrameMode}(h:nv w m O B p u)(r:Bool):nv w m O B (cond r none p) (settle (if r then BD u else u)):=by
 cases p with
 |none=>cases u<;>first|exact h.elim|(cases r<;>trivial)
 |some v=>
  cases u<;>try exact h.elim
  obtain⟨mi,rfl,b9⟩:=h;cases r with
  |true=>trivial
  |false=>exact⟨mi,rfl,b9⟩
theorem Fh(gw:qd P env)(f:Nat):K0 P env B f (callD env f):=by
 intro bB args p o r ah h k w m u d af eS hu an;obtain⟨g,fs,cs,gq,e6,us,rfl,rfl,K5,K6,hQ⟩:=an;unfold callD at h;simp only at h;split at h<;>try (cases h;done)
 rename_i cA hg;obtain⟨fn,hfn,iT,sH⟩:=gw.funcs g cA hg;obtain⟨rs,c,ac,sF,BA,Bz,rfl⟩:=Fc iT;simp only at h;cases hb:(Nat.beq (fs++args++cs).length (fn.params.size+fn.nfree)&&Nat.ble (fs++args++cs).length fn.ntmps) with
 |false=>rw[hb] at h;cases h
 |true=>
  rw[hb,cond_true] at h;simp only[bT,KG] at hb;have hinv:=yn (P:=P) hfn BA sH e6 (gq++us) w;have mS:bm w m (a_ o m) B (fs++args++cs) (gq++us++e6).toList:=by
   simp only[KH];exact(K5.append hQ).append K6
  have df:=Vp (fn:=fn) (cA:={kz:=fn.params.size+fn.nfree,ntmps:=fn.ntmps,results:=rs,body:=some ac}) rfl af eS hb.2 mS;refine⟨_,_,g,_,rfl,hinv,?_⟩;refine callsDIn_of_wpSIn hfn BA trivial (fun ll nw c2o=>?_);have hd0:ue ll nw u false (ll::nw):=by
   unfold ue;simp only[oH,if_false];rw[←c2o]
  have fin:∀(e:gn) (en:Fr) (bk:ad),tF env f (p.getD .fb) ac (sh {kz:=fn.params.size+fn.nfree,ntmps:=fn.ntmps,results:=rs,body:=some ac} (fs++args++cs)) o=some (e,en,bk)→(e= .normal∨e= .ret)→en.defers=[]→(∃v,resultsOf bk en.aW rs=some v)→r=en.eZ→ah=bk→
    c.wpSIn (eI none) k P (bodyPostS P fn ll nw (fun e bL ao=>(∃v,e= .returned v)∧∃aG,nv ao aG (a_ ah aG) B (cond r none p) (settle bL)∧Rel P ah ao aG B∧Ext f o w m ah ao aG)) {tmps:=gq++us++e6++Array.replicate (fn.ntmps-(gq++us++e6).size) undef,defers:=[]} (ll::nw) w:=by
   rintro e en bk bX he c2p ⟨v,dH⟩ rfl rfl;refine runD_ok c ac _ en o ah e _ w m _ Bz bX df hu hd0 _ (fun x a6 qf bn bO e1 fN gO lP=>?_);have c2q:a6.defers=[]:=by
    have:=fN.defs;rw[c2p] at this;cases aI:a6.defers with
    |nil=>rfl
    |cons _ _=>rw[aI] at this;exact this.elim
   obtain⟨ud,hE,_⟩:=Vm (fn:=fn) fN.ctx.rel fN.ctx.aW sF dH;have Vr:a6.defers=[]∧∃bL,qf={ll with mode:=bL}::nw∧∃v,(results fn a6.tmps).run P bn= .ok v bn∧((∃bJ,Ending.returned v= .returned bJ)∧∃aG,nv bn aG (a_ ah aG) B (cond en.eZ none p) (settle bL)∧Rel P ah bn aG B∧Ext f o w m ah bn aG):=
    ⟨c2q,_,lP,ud,hE,⟨ud,rfl⟩,bO,c2n (o:=ah) (hu.ext gO af) en.eZ,fN.ctx.rel,gO⟩
   rcases he with rfl|rfl
   ·cases x<;>first|exact e1.elim|exact Vr
   ·cases x<;>first|exact e1.elim|exact Vr
  split at h<;>try (cases h;done)
  ·rename_i en bk bX;split at h<;>cases h;rename_i lP dH;exact fin .normal en ah bX (.inl rfl) lP ⟨_,dH⟩ rfl rfl
  ·rename_i en bk bX;split at h<;>cases h;rename_i lP dH;exact fin .ret en ah bX (.inr rfl) lP ⟨_,dH⟩ rfl rfl
end
theorem K7{w:World}{b n:Nat}(h:bsz w b=some n):b<w.heap.size:=by
 rcases mF b w.heap.size with h1|h1
 ·exact h1
 ·simp[bsz,xF h1] at h
theorem Vs(o:ad)(base:Nat)(v:AV):freeze o base 0 v=none:=rfl
theorem freeze_succ(o:ad)(base n:Nat)(v:AV):freeze o base (n+1) v=match v with
  | .al id off len R cap=>if Nat.blt id base then none else
   match readList o (.al id off len R cap) with
   |none=>none
   |some xs=>match mapO (freeze o base n) xs with|none=>none|some xs=>some (.aD false R xs)
  | .ag l=>match mapO (freeze o base n) l with|none=>none|some l=>some (.ag l)
  | .aK l=>match mapO (freeze o base n) l with|none=>none|some l=>some (.aK l)
  | .it t v=>match freeze o base n v with|none=>none|some v=>some (.it t v)
  | .p (some _)=>none
  | .m (some _)=>none
  | .f _ _ _=>none
  | .jl _ _ _=>none
  |v=>some v:=rfl
theorem Vt{o:ad}{base:Nat}{R:Option Nat}:∀ {n:Nat} {v bJ:AV},freeze o base n v=some bJ→conf R v=true→conf R bJ=true
 |0,v,bJ,h,_=>by rw[Vs] at h;cases h
 |n+1,v,bJ,h,ab=>by
  rw[freeze_succ] at h;split at h
  ·split at h<;>try (cases h;done)
   split at h<;>try (cases h;done)
   split at h<;>cases h;cases R<;>simp[conf] at ab ⊢
  ·split at h<;>cases h;rename_i l dF au;have:=(nT au).1;cases R with
   |none=>simp[conf] at ab
   |some k=>simp[conf] at ab ⊢;omega
  ·split at h<;>cases h;cases R<;>simp[conf] at ab
  ·split at h<;>cases h;cases R<;>simp[conf] at ab ⊢
  ·cases h
  ·cases h
  ·cases h
  ·cases h
  ·cases h;exact ab
section
variable {P:Program}{o:ad}{w:World}{m:Nat→Option Nat}{B:Nat}
theorem aq.Vu{O:Nat→Prop}{v:AV}{R:Option Nat}(ab:conf R v=true){us:List Value}(h:bm w m O B v.cells us)(hf:∀x∈v.cells,conf none x=true):∃u,aq w m O B v u∧u.cells.toList=us:=by
 cases R with
 |none=>
  have av:v.cells=[v]:=by cases v<;>simp[conf] at ab<;>rfl
  rw[av] at h;have au:us.length=1:=h.1;obtain⟨u,rfl⟩:∃u,us=[u]:=by cases us with|nil=>simp at au|cons u t=>cases t with|nil=>exact⟨u,rfl⟩|cons _ _=>simp at au
  have af:=h.2 0 (by simp) (by simp);simp at af;refine⟨u,af,?_⟩;have:=af.cells;cases af with
  |y h=>rcases h.alt with⟨_,_,rfl⟩|⟨_,rfl⟩<;>rfl
  |eN hu h=>subst hu;rfl
  |_=>first|rfl|(simp[conf] at ab)
 |some n=>
  cases v<;>simp[conf] at ab;rename_i l;exact⟨.agg us.toArray,aq.vR h hf,by simp[Value.cells]⟩
theorem K8{b_:ad}{eC:World}{dZ:Nat→Option Nat}(nu:Rel P b_ eC dZ B)(af:Rel P o w m B)(he:Ext b_.next b_ eC dZ o w m):
  ∀(n:Nat) (v bJ:AV) (u:Value),freeze o b_.next n v=some bJ→aq w m (a_ o m) B v u→aq w (fun _=>none) (a_ b_ dZ) B bJ u
 |0,v,bJ,u,h,_=>by rw[Vs] at h;cases h
 |n+1,v,bJ,u,h,av=>by
  have cY:∀ar,a_ b_ dZ ar→a_ o m ar:=fun ar ⟨id,h1,I,h2,h3⟩=>⟨id,he.mono _ _ h1,I,by rw[he.low id (nu.eP _ _ h1).2 (nu.eP _ _ h1).2];exact h2,h3⟩
  have ay:=fun v bJ u h av=>K8 nu af he n v bJ u h av;have jf:∀ {v:AV} {u:Value},aq w (fun _=>none) (a_ o m) B v u→aq w (fun _=>none) (a_ b_ dZ) B v u:=fun h=>h.mono (fun _ _ h=>h) (bK _) (fun _ _ h=>h) (fun b _ hb=>⟨rfl,fun aj=>hb (cY b aj)⟩);have list:∀ {l dF:List AV} {us:List Value},mapO (freeze o b_.next n) l=some dF→bm w m (a_ o m) B l us→bm w (fun _=>none) (a_ b_ dZ) B dF us:=fun {l dF us} au hQ=>by
   obtain⟨h1,h2⟩:=nT au;refine⟨by rw[hQ.1,h1],fun i hi dc=>?_⟩;exact ay _ _ _ (h2 i (by omega) hi) (hQ.2 i (by omega) dc)
  rw[freeze_succ] at h;split at h
  ·-- a slice over pJ d5T own part
   rename_i id off len R cap;split at h<;>try (cases h;done)
   rename_i E3;split at h<;>try (cases h;done)
   rename_i xs dC;split at h<;>cases h;rename_i n6 wz;have d5U:b_.next≤id:=by simpa [fX] using E3
   have rn:∀a∈xs,conf R a=true:=by
    simp only[readList] at dC;split at dC<;>try (cases dC;done)
    rename_i c hg;cases av with
    |al hm au p2 hn h6=>
     obtain⟨arr,el,aT,hh,lg,me,bw,jq⟩:=af.cells hm hg;exact(x3 (fun x hx=>jq x (mH hx)) dC).2.2.2
   have hlen:xs.length=len:=by
    simp only[readList] at dC;split at dC<;>try (cases dC;done)
    rename_i c hg;cases av with
    |al hm au p2 hn h6=>
     obtain⟨arr,el,aT,hh,lg,me,bw,jq⟩:=af.cells hm hg;exact(x3 (fun x hx=>jq x (mH hx)) dC).1
   obtain⟨h1,h2⟩:=nT wz;obtain⟨base,c,us,hu,hle,x5,x_,mJ,lJ⟩:=Ba af av dC rn;cases av with
   | @al _ _ _ _ _ _ ar d5V dR _ _ hm au p2 hn h6=>
    cases hu;simp only at lJ;have nV:¬a_ b_ dZ ar∧B≤ar:=by
     refine⟨fun aj=>?_,af.base _ _ hm⟩;rcases he.new _ _ hm with h3|⟨_,h3|⟨i,hi,aN,bH⟩⟩
     ·have:=(nu.eP _ _ h3).2;omega
     ·have:=nu.TR aj;omega
     ·have:=TS bH;omega
    have hmul:∀i,i<xs.length→i*shN R+shN R≤xs.length*shN R:=fun i hi=>by
     have:=pI (shN R) (show i+1≤xs.length from hi);rw[jV,sb] at this;exact this
    have x4:∀(l:List AV),(∀a∈l,conf R a=true)→∀i (hi:i<l.length),(l[i]).cells=((l.flatMap AV.cells).drop (i*shN R)).take (shN R):=by
     intro l
     induction l with
     |nil=>intro _ i hi;simp at hi
     |cons x l gY=>
      intro au i hi;have hx:=sr (au x (by simp));cases i with
      |zero=>simp[mb,hx]
      |succ i=>
       have:=gY (fun a ha=>au a (by simp[ha])) i (by simpa using hi);rw[Ee,this,mb,List.drop_append];have aE:(i+1)*shN R-x.cells.length=i*shN R:=by rw[hx,jV,sb];omega
       have aY:x.cells.drop ((i+1)*shN R)=[]:=KI (by rw[hx,jV,sb];omega);rw[aE,aY,wi]
    have elem:∀i (hi:i<xs.length) (dc:i<n6.length),bm w (fun _=>none) (a_ b_ dZ) B (n6[i]).cells ((us.drop (i*shN R)).take (shN R))∧conf R (n6[i])=true∧∀x∈(n6[i]).cells,conf none x=true:=fun i hi dc=>by
     have BE:=rn _ (cB hi);have K9:∀x∈(xs[i]).cells,conf none x=true:=fun x hx=>mJ x (sd.2 ⟨_,cB hi,hx⟩);have K_:bm w m (a_ o m) B (xs[i]).cells ((us.drop (i*shN R)).take (shN R)):=by
      rw[x4 xs rn i hi];exact(x5.drop _).take _
     obtain⟨c2r,La,Lb⟩:=aq.Vu BE K_ K9;have bl:=ay _ _ _ (h2 i hi dc) La;have sy:=Vt (h2 i hi dc) BE;have:=bl.cells;rw[Lb] at this;exact⟨this,sy,bl.EF sy⟩
    have gd:∀i,i<n6.length→∀j,j<shN R→∃aB:i*shN R+j<us.length,((us.drop (i*shN R)).take (shN R))[j]? =some (us[i*shN R+j]):=fun i hi j aB=>by
     have:=hmul i (by omega);refine⟨by omega,?_⟩;rw[q0 aB,pG,cS (by omega)]
    rw[←h1];refine .aD (fun i j=>(us[i*shN R+j]?).getD undef) (fun _=>⟨nV.1,K7 hn,fun _=>nV.2⟩) (fun i hi=>(elem i (by omega) hi).2.1) (fun i hi j aB=>?_) (fun i hi j aB=>?_) (by omega) (fun v av=>?_) (fun _=>rfl)
    ·have fK:j<shN R:=by rw[sr (elem i (by omega) hi).2.1] at aB;exact aB
     obtain⟨bu,_⟩:=gd i hi j fK;have:=lJ.2.1 (i*shN R+j) _ (cS bu);rw[iz,← Eb] at this;rw[this,cS bu];rfl
    ·have fK:j<shN R:=by rw[sr (elem i (by omega) hi).2.1] at aB;exact aB
     obtain⟨bu,jd⟩:=gd i hi j fK;obtain⟨c2s,BF,yp⟩:=(elem i (by omega) hi).1.get (cS aB);rw[jd] at BF;cases BF;rw[cS bu];exact yp
    ·obtain⟨i,hi,rfl⟩:=k8 av;exact(elem i (by omega) hi).2.2
  ·split at h<;>cases h;rename_i l dF au;obtain⟨aX,rfl,jZ,mJ⟩:=av.oP;refine aq.vR (list au jZ) (fun x hx=>?_) |> fun h=>by simpa using h
   obtain⟨i,hi,rfl⟩:=k8 hx;have:=nT au;exact Vt (this.2 i (by omega) hi) (mJ _ (cB _))
  ·split at h<;>cases h;rename_i l dF au;obtain⟨aX,rfl,jZ⟩:=av.J2;have:=aq.sm (list au jZ);simpa using this
  ·split at h<;>cases h;rename_i Lc;cases av with
   |it h=>exact .it (ay _ _ _ Lc h)
  ·cases h
  ·cases h
  ·cases h
  ·cases h
  ·rename_i kC lM rj Vv Ld Vw Vx c2t;cases h;cases av with
   |b x=>exact .b x
   |i k n=>exact .i k n
   |s l h=>exact .s l h
   |oN=>exact .oN
   |p h=>exact absurd rfl (Ld _)
   |cG aZ h1 hb fc ab gC hf=>exact .cG aZ (fun aj=>h1 (cY _ aj)) hb fc ab (fun j aB=>jf (gC j aB)) hf
   |J=>exact .J
   |al=>exact absurd rfl (kC _ _ _ _ _)
   |kR=>exact .kR
   |aD aZ h1 hs ab gC au hf dS=>exact .aD aZ (fun bS=>⟨fun aj=>(h1 bS).1 (cY _ aj),(h1 bS).2⟩) hs ab (fun i hi j aB=>jf (gC i hi j aB)) au hf dS
   |pQ=>exact .pQ
   |mp h=>exact absurd rfl (Vw _)
   |ni=>exact absurd rfl (Vx _ _ _)
   |sk=>exact absurd rfl (Vx _ _ _)
   |iK=>exact .iK
   |it h=>exact absurd rfl (Vv _ _)
   |fb=>exact .fb
   |ag=>exact absurd rfl (lM _)
   |aK=>exact absurd rfl (rj _)
   |hq h hn=>exact .hq h hn
   |fY h=>exact .fY h
   |iu n h=>exact .iu n h
   |y h=>exact .y h
   |eN hu h=>exact .eN hu (jf h)
   |gH k h=>exact .gH k h
   |iv k h h'=>exact .iv k h h'
   |jl=>exact absurd rfl (c2t _ _ _)
end
end
theorem Vy(a:List Nat):∀(l:List (List Nat)) (x:List Nat),x∈vM a l↔x=a∨x∈l
 |[],x=>by show x∈[a]↔_;simp
 |b::l,x=>by
  show x∈cond (fS b a) (b::vM a l) (a::b::l)↔_;cases fS b a with
  |true=>rw[cond_true,dP,Vy a l,dP];exact⟨fun h=>by rcases h with h|h|h<;>simp[h],fun h=>by rcases h with h|h|h<;>simp[h]⟩
  |false=>rw[cond_false,dP]
theorem Vz(a:List Nat):∀l:List (List Nat),(vM a l).Perm (a::l)
 |[]=>.refl _
 |b::l=>by
  show(cond (fS b a) (b::vM a l) (a::b::l)).Perm _;cases fS b a with
  |true=>exact((Vz a l).cons b).trans (.swap a b l)
  |false=>exact .refl _
theorem wA:∀l:List (List Nat),(jF l).Perm l
 |[]=>.refl _
 |a::l=>(Vz a (jF l)).trans ((wA l).cons a)
theorem VA(x:AV)(c:List AV):si (x::c)=match x,si c with| .s l,some r=>some (l::r)|_,_=>none:=rfl
theorem VB:∀(c:List AV) (l:List (List Nat)),si c=some l→c=l.map .s
 |[],l,h=>by cases h;rfl
 |x::c,l,h=>by
  rw[VA] at h;cases af:si c with
  |none=>rw[af] at h;cases x<;>cases h
  |some r=>
   rw[af] at h;cases x<;>cases h;rw[VB c r af];rfl
theorem VC:∀l:List (List Nat),si (l.map .s)=some l
 |[]=>rfl
 |x::l=>by
  show si (.s x::l.map .s)=_;rw[VA,VC l]
section
variable [Tok]
open Go.RowKit
section
theorem aq.c2u{w:World}{m:Nat→Option Nat}{O:Nat→Prop}{B dp:Nat}(fc:dp≤B){v:AV}{u:Value}(h:aq w m O B v u):aq w m O dp v u:=by
 induction h with
 |b x=>exact .b x
 |i k n=>exact .i k n
 |s l h=>exact .s l h
 |oN=>exact .oN
 |p h=>exact .p h
 |cG aZ cY hb c2v ab af hf ay=>exact .cG aZ cY hb (fun h=>jk fc (c2v h)) ab (fun j aB=>ay j aB fc) hf
 |J=>exact .J
 |al h au ab hn h6 eF=>exact .al h au ab hn h6 eF
 |kR=>exact .kR
 |aD aZ cY hs ab af au hf dS ay=>exact .aD aZ (fun bS=>⟨(cY bS).1,(cY bS).2.1,fun h=>jk fc ((cY bS).2.2 h)⟩) hs ab (fun i h j aB=>ay i h j aB fc) au hf dS
 |pQ=>exact .pQ
 |mp h=>exact .mp h
 |ni hf bl ab q8 JT JU=>exact .ni hf (fun i h h'=>JT i h h' fc) ab (fun i h h'=>JU i h h' fc)
 |sk h=>exact .sk h
 |iK=>exact .iK
 |it _ ay=>exact .it (ay fc)
 |fb=>exact .fb
 |ag hs _ hf ay=>exact .ag hs (fun i h h'=>ay i h h' fc) hf
 |aK hs _ ay=>exact .aK hs (fun i h h'=>ay i h h' fc)
 |hq h hn=>exact .hq h hn
 |fY h=>exact .fY h
 |iu n h=>exact .iu n h
 |y h=>exact .y h
 |eN hu _ ay=>exact .eN hu (ay fc)
 |gH k h=>exact .gH k h
 |iv k h h'=>exact .iv k h h'
 |jl hn bS _ ay=>exact .jl hn bS (ay fc)
variable [TokOk]
section
variable {P:Program}{env:Env}{o:ad}{w:World}{m:Nat→Option Nat}{B f:Nat}
theorem VD{bk:ad}{bn:World}{bO:Nat→Option Nat}(af:Rel P o w m B)(he:Ext o.next o w m bk bn bO):Rel P o bn m B∧Ext f o w m o bn m:=by
 have gb:∀ar,¬vO o.next o m ar:=fun ar ⟨id,h1,h2,h3⟩=>by have:=TS h3;omega
 have c3:Ext f o w m o bn m:=⟨fun _ _ h=>h,fun _ _ h=>.inl h,bK _,he.size,he.h7,fun b hb _=>he.ee b hb (gb b),fun _ _ _=>rfl,fun _ _ h=>h,he.os,he.tape,he.out,fun _ _ _=>rfl⟩
 refine⟨⟨af.len,fun id ar h=>⟨sA (af.eP _ _ h).1 he.size,(af.eP _ _ h).2⟩,fun id ar I h hg an=>?_,af.inj,af.base,jk af.fy he.size⟩,c3⟩;obtain⟨bE,h1,h2⟩:=af.obj id ar I h hg an;exact⟨bE,by rw[he.ee ar (af.eP _ _ h).1 (gb ar)];exact h1,h2.mono c3.mono c3.size c3.h7 (c3.pR af)⟩
def yq(P:Program)(env:Env)(cM:Nat):Prop:=
 ∀g aO r,env.spec g aO=some r→(∃fn c,P.funcs[g]? =some fn∧fn.body=some c∧(fn.name== "runtime.NumGoroutine")=false)∧
  ∀k rd w us,cM≤w.heap.size→Globs env w cM→bm w (fun _=>none) (fun _=>False) w.heap.size aO us.toList→
   CallsIn (eI rd) k P g us w (fun e bn=>∃u,e= .returned u∧aq bn (fun _=>none) (fun b=>b<w.heap.size) w.heap.size r u∧w.heap.size≤bn.heap.size∧(∀b,b<w.heap.size→bn.heap[b]? =w.heap[b]?)∧bn.os=w.os∧bn.tape=w.tape∧bn.output=w.output)
def Le(P:Program)(env:Env)(cM g:Nat)(aO:List AV)(v:AV)(os:List AO):Prop:=
 (∃fn c,P.funcs[g]? =some fn∧fn.body=some c∧(fn.name== "runtime.NumGoroutine")=false)∧
  ∀k rd w us,cM≤w.heap.size→Globs env w cM→bm w (fun _=>none) (fun _=>False) w.heap.size aO us.toList→
   CallsIn (eI rd) k P g us w (fun e bn=>∃u,e= .returned u∧(∃bO,xP v=true∧aq bn bO (fun _=>False) 0 v u∧
    (∀id ar,bO id=some ar→w.heap.size≤ar∧ar<bn.heap.size∧id<os.length)∧
    (∀id ar c,bO id=some ar→os[id]? =some (.cells c)→∃arr el aT,bn.heap[ar]? =some (.cells arr el aT)∧c.length≤arr.size∧(∀i (h:i<c.length) (h':i<arr.size),aq bn bO (fun _=>False) 0 (c[i]) (arr[i]))∧(∀i,i<arr.size→(decide (aT.1≤i)&&decide (i<aT.2))=false)∧∀x∈c,q7 x=true)∧
    (∀id eR ar c bR,bO id=some ar→bO eR=some ar→os[id]? =some (.cells c)→os[eR]? =some (.cells bR)→id=eR))∧
    w.heap.size≤bn.heap.size∧(∀b,b<w.heap.size→bn.heap[b]? =w.heap[b]?)∧bn.os=w.os∧bn.tape=w.tape∧bn.output=w.output)
def Lf(P:Program)(g:Nat):Prop:=
 (∃fn c,P.funcs[g]? =some fn∧fn.body=some c∧(fn.name== "runtime.NumGoroutine")=false)∧
 (∀k rd p cap w,CallsIn (eI rd) k P g #[.slice p 0 cap] w fun e ao=>e= .returned (.tuple #[])∧ao=w)∧
 ∀k rd ar cap (l:List (List Nat)) (arr:Array Value) el aT w,w.heap[ar]? =some (.cells arr el aT)→l.length≤arr.size→(∀i (h:i<l.length),arr[i]? =some (.string (strOf l[i])))→
  (∀i,i<arr.size→(decide (aT.1≤i)&&decide (i<aT.2))=false)→l.length<4611686018427387904→(∀s∈l,∀c∈s,c<256)→
  CallsIn (eI rd) k P g #[.slice (some ⟨ar,0,none⟩) l.length cap] w fun e ao=>e= .returned (.tuple #[])∧w.heap.size≤ao.heap.size∧(∀b,b<w.heap.size→b≠ar→ao.heap[b]? =w.heap[b]?)∧
   (∃j1,ao.heap[ar]? =some (.cells j1 el aT)∧j1.size=arr.size∧∀i (h:i<(jF l).length),j1[i]? =some (.string (strOf (jF l)[i])))∧ao.os=w.os∧ao.tape=w.tape∧ao.output=w.output
def uf(P:Program)(env:Env):Prop:=
 ((∀g,env.ext g≠0→∀args v,extRow (env.ext g) args=some v→∀w m O B us cs,bm w m O B args (us++cs).toList→∃u,(invoke (.fn (.func g) cs) us).run P w= .ok (.value u) w∧aq w m O B v u)∧
  (∀g,env.ext g=8→∀t r es clock w us cs,us++cs= #[.iface t (.map (some r))]→w.heap[r]? =some (.map es clock)→
  ∃ao,(invoke (.fn (.func g) cs) us).run P w= .ok (.value (.iface t (.map (some w.heap.size)))) ao∧ao.heap=w.heap.push (.map es clock)∧ao.os=w.os∧ao.tape=w.tape∧ao.output=w.output)∧∀g,env.ext g=9→Lf P g)∧
 ∀g aO v os,env.lE g aO=some (v,os)→∀cM,Le P env cM g aO v os
theorem VE(N:Nat):∀(os:List AO) (o:ad),(pO N os o).next=o.next+os.length
 |[],o=>rfl
 |I::os,o=>by
  show(pO N os (o.push (AW N I))).next=_;rw[VE N os,jD];show o.next+1+os.length=_;omega
theorem VF(N:Nat):∀(os:List AO) (o:ad) (i:Nat),(pO N os o).get i=if i<o.next then o.get i else(os[i-o.next]?).map (AW N)
 |[],o,i=>by
  show o.get i=_;split
  ·rfl
  ·rename_i h;cases hg:o.get i with
   |none=>simp
   |some I=>exact absurd (ad.ei hg) h
 |I::os,o,i=>by
  show(pO N os (o.push (AW N I))).get i=_;rw[VF N os];have hn:(o.push (AW N I)).next=o.next+1:=rfl;rw[hn];rw[ad.JZ trivial];by_cases h1:i<o.next
  ·rw[if_pos (by omega),if_pos h1,if_neg (by omega)]
  ·rw[if_neg h1];by_cases h2:i=o.next
   ·subst h2;rw[if_pos (by omega),if_pos rfl];simp
   ·rw[if_neg (by omega)];have e:i-o.next=(i-(o.next+1))+1:=by omega
    rw[e,AJ]
theorem Lg{w:World}{m jg:Nat→Option Nat}{O mW:Nat→Prop}{B mX N:Nat}(hm:∀id ar,m id=some ar→jg (id+N)=some ar){v:AV}{u:Value}(av:q7 v=true)(h:aq w m O B v u):aq w jg mW mX (vL N v) u:=by
 cases h with
 |s l h=>exact .s l h
 |i k n=>exact .i k n
 |b x=>exact .b x
 |J=>exact .J
 |al h au ab hn h6 eF=>exact .al (hm _ _ h) au ab hn h6 eF
 |_=>cases av
theorem VG{N:Nat}{v:AV}(av:q7 v=true):conf none (vL N v)=true:=by cases v<;>first|rfl|cases av
theorem VH{w:World}{m jg:Nat→Option Nat}{O mW:Nat→Prop}{B mX N:Nat}(hm:∀id ar,m id=some ar→jg (id+N)=some ar){v:AV}{u:Value}(av:tG v=true)(h:aq w m O B v u):aq w jg mW mX (AU N v) u:=by
 by_cases qg:∃l,v= .ag l
 ·obtain⟨l,rfl⟩:=qg;cases h with
  | @ag _ _ _ _ aX hs af hf=>
   refine .ag (by rw[dO];exact hs) (fun i h h'=>?_) (fun x hx=>?_)
   ·rw[ma];have hi:i<l.length:=by rwa[dO] at h
    exact Lg hm (jt av _ (cB hi)) (af i hi h')
   ·obtain⟨y,aJ,rfl⟩:=fq.1 hx;exact VG (jt av _ aJ)
 ·have aE:tG v=q7 v:=by cases v<;>first|rfl|exact absurd ⟨_,rfl⟩ qg
  have aY:AU N v=vL N v:=by cases v<;>first|rfl|exact absurd ⟨_,rfl⟩ qg
  rw[aY];rw[aE] at av;exact Lg hm av h
theorem c2w{w:World}{m jg:Nat→Option Nat}{O mW:Nat→Prop}{B mX N:Nat}(hm:∀id ar,m id=some ar→jg (id+N)=some ar){v:AV}{u:Value}(av:xP v=true)(h:aq w m O B v u):aq w jg mW mX (xO N v) u:=by
 by_cases qh:∃l,v= .aK l
 ·obtain⟨l,rfl⟩:=qh;cases h with
  | @aK _ _ _ _ aX hs af=>
   refine .aK (by rw[dO];exact hs) (fun i h h'=>?_);rw[ma];have hi:i<l.length:=by rwa[dO] at h
   exact VH hm (jt av _ (cB hi)) (af i hi h')
 ·have aE:xP v=tG v:=by cases v<;>first|rfl|exact absurd ⟨_,rfl⟩ qh
  have aY:xO N v=AU N v:=by cases v<;>first|rfl|exact absurd ⟨_,rfl⟩ qh
  rw[aY];rw[aE] at av;exact VH hm av h
theorem c2x(af:Rel P o w m B){bn:World}{bO:Nat→Option Nat}{os:List AO}{v:AV}{u:Value}(bZ:w.heap.size≤bn.heap.size)(rm:∀b,b<w.heap.size→bn.heap[b]? =w.heap[b]?)(iP:bn.os=w.os)(kk:bn.tape=w.tape)(iQ:bn.output=w.output)
  (av:xP v=true) (b9:aq bn bO (fun _=>False) 0 v u) (an:∀id ar,bO id=some ar→w.heap.size≤ar∧ar<bn.heap.size∧id<os.length)
  (aj:∀id ar c,bO id=some ar→os[id]? =some (.cells c)→∃arr el aT,bn.heap[ar]? =some (.cells arr el aT)∧c.length≤arr.size∧(∀i (h:i<c.length) (h':i<arr.size),aq bn bO (fun _=>False) 0 (c[i]) (arr[i]))∧(∀i,i<arr.size→(decide (aT.1≤i)&&decide (i<aT.2))=false)∧∀x∈c,q7 x=true)
  (hi:∀id eR ar c bR,bO id=some ar→bO eR=some ar→os[id]? =some (.cells c)→os[eR]? =some (.cells bR)→id=eR):
  ∃jg,aq bn jg (a_ (pO o.next os o) jg) B (xO o.next v) u∧Rel P (pO o.next os o) bn jg B∧Ext f o w m (pO o.next os o) bn jg:=by
 have hR:∀id ar,bO id=some ar→(fun id=>if id<o.next then m id else bO (id-o.next)) (id+o.next)=some ar:=fun id ar h=>by
  show(if id+o.next<o.next then _ else _)=_;rw[if_neg (by omega),Nat.add_sub_cancel];exact h
 have fU:∀b n,bsz w b=some n→bsz bn b=some n:=fun b n hb=>by
  have:=K7 hb;unfold bsz at hb ⊢;rw[rm b this];exact hb
 have dd:=VF o.next os o;have BG:=VE o.next os o;generalize d5W:pO o.next os o=b7 at dd BG ⊢;have c3:Ext f o w m b7 bn (fun id=>if id<o.next then m id else bO (id-o.next)):=by
  refine⟨fun id ar h=>?_,fun id ar h=>?_,by omega,bZ,fU,fun b hb _=>rm b hb,fun id _ h=>by rw[dd,if_pos h],fun id h au=>?_,iP,kk,iQ,fun id h _=>by rw[dd,if_pos h]⟩
  ·show(if _ then _ else _)=_;rw[if_pos (af.eP _ _ h).2];exact h
  ·replace h:(if id<o.next then m id else bO (id-o.next))=some ar:=h;split at h
   ·exact .inl h
   ·rename_i hn;exact .inr ⟨by omega,.inl (an _ _ h).1⟩
  ·obtain⟨I,h1,h2⟩:=au;rw[dd,if_pos h] at h1;exact⟨I,h1,h2⟩
 have x6:∀id,o.next≤id→live b7 id→∃c,os[id-o.next]? =some (.cells c)∧b7.get id=some (.cells (c.map (vL o.next))):=fun id hn ⟨I,h1,h2⟩=>by
  have tK:=h1;rw[dd,if_neg (by omega)] at tK;obtain⟨bE,h3,rfl⟩:=eu.1 tK;cases bE with
  |cells c=>exact⟨c,h3,h1⟩
  |_=>cases h2
 refine⟨_,c2w hR av b9,⟨trivial,fun id ar h=>?_,fun id ar I h hg Fi=>?_,fun id eR ar h h' au nj=>?_,fun id ar h=>?_,jk af.fy bZ⟩,c3⟩
 ·replace h:(if id<o.next then m id else bO (id-o.next))=some ar:=h;split at h
  ·have:=af.eP _ _ h;exact⟨by omega,by omega⟩
  ·have:=an _ _ h;exact⟨by omega,by omega⟩
 ·replace h:(if id<o.next then m id else bO (id-o.next))=some ar:=h;split at h
  ·rename_i hn;rw[dd,if_pos hn] at hg;obtain⟨bE,h1,h2⟩:=af.obj id ar I h hg Fi;exact⟨bE,by rw[rm ar (af.eP _ _ h).1];exact h1,h2.mono c3.mono c3.size c3.h7 (c3.pR af)⟩
  ·rename_i hn;obtain⟨c,h1,h2⟩:=x6 id (by omega) ⟨I,hg,Fi⟩;rw[hg] at h2;cases h2;obtain⟨arr,el,aT,gM,fz,j4,lk,wB⟩:=aj _ _ _ h h1;refine⟨_,gM,.cells (by rw[dO];exact fz) (fun i a b=>?_) lk (fun x hx=>?_)⟩
   ·rw[ma];have hi:i<c.length:=by rwa[dO] at a
    exact Lg hR (wB _ (cB hi)) (j4 i hi b)
   ·obtain⟨y,aJ,rfl⟩:=fq.1 hx;exact VG (wB _ aJ)
 ·replace h:(if id<o.next then m id else bO (id-o.next))=some ar:=h;replace h':(if eR<o.next then m eR else bO (eR-o.next))=some ar:=h';split at h
  ·rename_i h1;split at h'
   ·rename_i h2;refine af.inj id eR ar h h' ?_ ?_
    ·obtain⟨I,a,b⟩:=au;rw[dd,if_pos h1] at a;exact⟨I,a,b⟩
    ·obtain⟨I,a,b⟩:=nj;rw[dd,if_pos h2] at a;exact⟨I,a,b⟩
   ·have:=af.eP _ _ h;have:=an _ _ h';omega
  ·rename_i h1;split at h'
   ·have:=af.eP _ _ h';have:=an _ _ h;omega
   ·rename_i h2;obtain⟨c,a,_⟩:=x6 id (by omega) au;obtain⟨bR,cq,_⟩:=x6 eR (by omega) nj;have:=hi _ _ _ _ _ h h' a cq;omega
 ·replace h:(if id<o.next then m id else bO (id-o.next))=some ar:=h;split at h
  ·exact af.base _ _ h
  ·have:=an _ _ h;have:=af.fy;omega
theorem VI(o:ad)(v:AV):bW o 0 v=none:=rfl
theorem snapshot_succ(o:ad)(n:Nat)(v:AV):bW o (n+1) v=match v with
  | .al id off len R cap=>
   match readList o (.al id off len R cap) with
   |none=>none
   |some xs=>match mapO (bW o n) xs with|none=>none|some xs=>some (.aD true R xs)
  | .J=>some .J
  | .aD _ R xs=>match mapO (bW o n) xs with|none=>none|some xs=>some (.aD true R xs)
  | .ag l=>match mapO (bW o n) l with|none=>none|some l=>some (.ag l)
  | .aK l=>match mapO (bW o n) l with|none=>none|some l=>some (.aK l)
  | .it t v=>match bW o n v with|none=>none|some v=>some (.it t v)
  | .p (some _)=>none
  | .m (some _)=>none
  | .cG _ _=>none
  | .f _ _ _=>none
  | .eN _ i=>some (.eN true i)
  | .jl _ _ _=>none
  |v=>some v:=rfl
theorem VJ{R:Option Nat}:∀ {n:Nat} {v bJ:AV},bW o n v=some bJ→conf R v=true→conf R bJ=true
 |0,v,bJ,h,_=>by rw[VI] at h;cases h
 |n+1,v,bJ,h,ab=>by
  rw[snapshot_succ] at h;split at h
  ·split at h<;>try (cases h;done)
   split at h<;>cases h;cases R<;>simp[conf] at ab ⊢
  ·cases h;exact ab
  ·split at h<;>cases h;cases R<;>simp[conf] at ab ⊢
  ·split at h<;>cases h;rename_i l dF au;have:=(nT au).1;cases R with
   |none=>simp[conf] at ab
   |some k=>simp[conf] at ab ⊢;omega
  ·split at h<;>cases h;cases R<;>simp[conf] at ab
  ·split at h<;>cases h;cases R<;>simp[conf] at ab ⊢
  ·cases h
  ·cases h
  ·cases h
  ·cases h
  ·cases h;cases R<;>simp[conf] at ab ⊢
  ·cases h
  ·cases h;exact ab
theorem c2y{R:Option Nat}:∀(l:List AV),(∀a∈l,conf R a=true)→∀i (hi:i<l.length),(l[i]).cells=((l.flatMap AV.cells).drop (i*shN R)).take (shN R):=by
 intro l
 induction l with
 |nil=>intro _ i hi;simp at hi
 |cons x l gY=>
  intro au i hi;have hx:=sr (au x (by simp));cases i with
  |zero=>simp[mb,hx]
  |succ i=>
   have:=gY (fun a ha=>au a (by simp[ha])) i (by simpa using hi);rw[Ee,this,mb,List.drop_append];have aE:(i+1)*shN R-x.cells.length=i*shN R:=by rw[hx,jV,sb];omega
   have aY:x.cells.drop ((i+1)*shN R)=[]:=KI (by rw[hx,jV,sb];omega);rw[aE,aY,wi]
theorem c2z{O:Nat→Prop}{old:Bool}{R:Option Nat}{ar off c:Nat}{xs:List AV}{us:List Value}(cY:xs≠[]→¬O ar∧ar<w.heap.size∧(old=false→B≤ar))(x_:us.length=xs.length*shN R)
  (lJ:∀j u,us[j]? =some u→w.cell? ⟨ar,off+j,none⟩=some u)
  (elem:∀i (hi:i<xs.length),bm w (fun _=>none) O B (xs[i]).cells ((us.drop (i*shN R)).take (shN R))∧conf R (xs[i])=true∧∀x∈(xs[i]).cells,conf none x=true) (hle:xs.length≤c):
  aq w m O B (.aD old R xs) (.slice (some ⟨ar,off,none⟩) xs.length c):=by
 have hmul:∀i,i<xs.length→i*shN R+shN R≤xs.length*shN R:=fun i hi=>by
  have:=pI (shN R) (show i+1≤xs.length from hi);rw[jV,sb] at this;exact this
 have gd:∀i,i<xs.length→∀j,j<shN R→∃aB:i*shN R+j<us.length,((us.drop (i*shN R)).take (shN R))[j]? =some (us[i*shN R+j]):=fun i hi j aB=>by
  have:=hmul i hi;refine⟨by omega,?_⟩;rw[q0 aB,pG,cS (by omega)]
 refine .aD (fun i j=>(us[i*shN R+j]?).getD undef) cY (fun i hi=>(elem i hi).2.1) (fun i hi j aB=>?_) (fun i hi j aB=>?_) hle (fun v av=>?_) (fun _=>rfl)
 ·have fK:j<shN R:=by rw[sr (elem i hi).2.1] at aB;exact aB
  obtain⟨bu,_⟩:=gd i hi j fK;have:=lJ (i*shN R+j) _ (cS bu);rw[←Eb] at this;rw[this,cS bu];rfl
 ·have fK:j<shN R:=by rw[sr (elem i hi).2.1] at aB;exact aB
  obtain⟨bu,jd⟩:=gd i hi j fK;obtain⟨c2s,BF,yp⟩:=(elem i hi).1.get (cS aB);rw[jd] at BF;cases BF;rw[cS bu];exact yp
 ·obtain⟨i,hi,rfl⟩:=k8 av;exact(elem i hi).2.2
theorem Lh(af:Rel P o w m B)(dp:Nat):∀(n:Nat) (v bJ:AV) (u:Value),bW o n v=some bJ→aq w m (a_ o m) B v u→aq w (fun _=>none) (fun _=>False) dp bJ u
 |0,v,bJ,u,h,_=>by rw[VI] at h;cases h
 |n+1,v,bJ,u,h,av=>by
  have ay:=fun v bJ u h av=>Lh af dp n v bJ u h av;have list:∀ {l dF:List AV} {us:List Value},mapO (bW o n) l=some dF→bm w m (a_ o m) B l us→bm w (fun _=>none) (fun _=>False) dp dF us:=fun {l dF us} au hQ=>by
   obtain⟨h1,h2⟩:=nT au;refine⟨by rw[hQ.1,h1],fun i hi dc=>?_⟩;exact ay _ _ _ (h2 i (by omega) hi) (hQ.2 i (by omega) dc)
  have slice:∀ {x:AV} {R:Option Nat} {xs n6:List AV},readList o x=some xs→mapO (bW o n) xs=some n6→aq w m (a_ o m) B x u→(∀a∈xs,conf R a=true)→aq w (fun _=>none) (fun _=>False) dp (.aD true R n6) u:=fun {x R xs n6} dC wz hx rn=>by
   obtain⟨h1,h2⟩:=nT wz;obtain⟨base,c,us,rfl,hle,x5,x_,mJ,lJ⟩:=Ba af hx dC rn;cases base with
   |none=>
    obtain⟨rfl,rfl⟩:=lJ;have:n6=[]:=nc (by simpa using h1);subst this;exact .kR
   |some a=>
    obtain⟨ar,off,sp⟩:=a;obtain⟨dS,lJ,bu⟩:=lJ;by_cases p6:xs=[]
    ·subst p6;have:n6=[]:=nc (by simpa using h1);subst this;exact .aD (xs:=[]) (fun _ _=>undef) (fun h=>absurd rfl h) (fun i h=>by simp at h) (fun i h=>by simp at h) (fun i h=>by simp at h) (ir _) (fun v av=>by simp at av) (fun h=>absurd rfl h)
    obtain rfl:=dS p6;rw[←h1];refine c2z (us:=us) (fun bS=>⟨fun h=>h,?_,fun h=>by cases h⟩) (by rw[h1];exact x_) (fun j u hu=>by have:=lJ j u hu;rw[iz] at this;exact this) (fun i hi=>?_) (by omega)
    ·exact bu (fun he=>bS (nc (by rw[h1,he];rfl)))
    ·have wC:i<xs.length:=by omega
     have BE:=rn _ (cB wC);have K9:∀x∈(xs[i]).cells,conf none x=true:=fun x hx=>mJ x (sd.2 ⟨_,cB wC,hx⟩);have K_:bm w m (a_ o m) B (xs[i]).cells ((us.drop (i*shN R)).take (shN R)):=by
      rw[c2y xs rn i wC];exact(x5.drop _).take _
     obtain⟨c2r,La,Lb⟩:=aq.Vu BE K_ K9;have bl:=ay _ _ _ (h2 i wC hi) La;have sy:=VJ (h2 i wC hi) BE;have:=bl.cells;rw[Lb] at this;exact⟨this,sy,bl.EF sy⟩
  rw[snapshot_succ] at h;split at h
  ·rename_i id off len R cap;split at h<;>try (cases h;done)
   rename_i xs dC;split at h<;>cases h;rename_i n6 wz;refine slice dC wz av ?_;have d5X:=dC;simp only[readList] at dC;split at dC<;>try (cases dC;done)
   rename_i c hg;cases av with
   |al hm au p2 hn h6=>
    obtain⟨arr,el,aT,hh,lg,me,bw,jq⟩:=af.cells hm hg;exact(x3 (fun x hx=>jq x (mH hx)) dC).2.2.2
  ·cases h;cases av;exact .J
  ·rename_i I R xs;split at h<;>cases h;rename_i n6 wz;refine slice (x:=.aD I R xs) rfl wz av ?_;intro a ha;cases av with
   |kR=>simp at ha
   |aD aZ cY hs ab gC au hf dS=>
    obtain⟨i,hi,rfl⟩:=k8 ha;exact hs i hi
  ·split at h<;>cases h;rename_i l dF au;obtain⟨aX,rfl,jZ,mJ⟩:=av.oP;refine aq.vR (list au jZ) (fun x hx=>?_) |> fun h=>by simpa using h
   obtain⟨i,hi,rfl⟩:=k8 hx;have:=nT au;exact VJ (this.2 i (by omega) hi) (mJ _ (cB _))
  ·split at h<;>cases h;rename_i l dF au;obtain⟨aX,rfl,jZ⟩:=av.J2;have:=aq.sm (list au jZ);simpa using this
  ·split at h<;>cases h;rename_i Lc;cases av with
   |it h=>exact .it (ay _ _ _ Lc h)
  ·cases h
  ·cases h
  ·cases h
  ·cases h
  ·cases h;cases av with
   |eN hu h=>exact .eN hu (TokOk.snap h)
  ·cases h
  ·rename_i ek jO ju n7 yr ug wD Li c2A VK c2B c2C;cases h;cases av with
   |b x=>exact .b x
   |i k n=>exact .i k n
   |s l h=>exact .s l h
   |oN=>exact .oN
   |pQ=>exact .pQ
   |iK=>exact .iK
   |fb=>exact .fb
   |J=>exact .J
   |p h=>exact absurd rfl (wD _)
   |mp h=>exact absurd rfl (Li _)
   |cG=>exact absurd rfl (c2A _ _)
   |ni=>exact absurd rfl (VK _ _ _)
   |sk=>exact absurd rfl (VK _ _ _)
   |al=>exact absurd rfl (ek _ _ _ _ _)
   |kR=>exact absurd rfl (ju _ _ _)
   |aD=>exact absurd rfl (ju _ _ _)
   |it h=>exact absurd rfl (ug _ _)
   |ag=>exact absurd rfl (n7 _)
   |aK=>exact absurd rfl (yr _)
   |iu n h=>exact .iu n h
   |y h=>exact .y h
   |eN hu h=>exact absurd rfl (c2B _ _)
   |gH k h=>exact .gH k h
   |iv k h h'=>exact .iv k h h'
   |jl=>exact absurd rfl (c2C _ _ _)
   |hq h hn=>exact .hq h hn
   |fY h=>exact .fY h
end
end
end
section
variable [Tok][TokOk]
open Go.RowKit
theorem ys{α:Type}{g:α→α→Bool}(hg:∀x y,g x y=true→x=y):∀(l r:List α),fD g l r=true→l=r
 |[],[],_=>rfl
 |[],_::_,h=>by cases h
 |_::_,[],h=>by cases h
 |x::l,y::r,h=>by
  have h:cond (g x y) (fD g l r) false=true:=h;cases sI:g x y with
  |false=>rw[sI] at h;cases h
  |true=>
   rw[sI,cond_true] at h;rw[hg x y sI,ys hg l r h]
theorem AV.sJ:∀(n:Nat) (x y:AV),AV.eqb n x y=true→x=y
 |0,_,_,h=>by cases h
 |n+1,x,z,h=>by
  have ay:=AV.sJ n;have gY:=ys ay;cases x
  case p a=>
   cases a with
   |none=>
    cases z
    case p b=>
     cases b with
     |none=>rfl
     |some b=>exfalso;revert h;show ¬(false=true);simp
    all_goals (exfalso;revert h;show ¬(false=true);simp)
   |some a=>
    cases z
    case p b=>
     cases b with
     |none=>exfalso;revert h;show ¬(false=true);simp
     |some b=>
      have h:(Nat.beq a.1 b.1&&Nat.beq a.2 b.2)=true:=h;simp only[bT,lC] at h;rw[Prod.ext h.1 h.2]
    all_goals (exfalso;revert h;show ¬(false=true);simp)
  case m a=>
   cases a with
   |none=>
    cases z
    case m b=>
     cases b with
     |none=>rfl
     |some b=>exfalso;revert h;show ¬(false=true);simp
    all_goals (exfalso;revert h;show ¬(false=true);simp)
   |some a=>
    cases z
    case m b=>
     cases b with
     |none=>exfalso;revert h;show ¬(false=true);simp
     |some b=>
      have h:Nat.beq a b=true:=h;rw[eM h]
    all_goals (exfalso;revert h;show ¬(false=true);simp)
  all_goals (cases z<;>first
   |rfl
   |(exfalso;revert h;show ¬(false=true);simp;done)
   |skip)
  case b.b a b=>have h:(a==b)=true:=h;simpa using h
  case i.i k a l b=>
   have h:(decide (k=l)&&decide (a=b))=true:=h;simp at h;rw[h.1,h.2]
  case s.s a b=>have h:eqL a b=true:=h;rw[(kU _ _).1 h]
  case cG.cG sg a cw b=>
   have h:((sg==cw)&&AV.eqb n a b)=true:=h;simp only[bT,beq_iff_eq] at h;rw[h.1,ay _ _ h.2]
  case al.al a6 a2 a3 a4 a5 dA dQ fE AS JM=>
   have h:(Nat.beq a6 dA&&Nat.beq a2 dQ&&Nat.beq a3 fE&&decide (a4=AS)&&decide (a5=JM))=true:=h;simp only[bT,lC,decide_eq_true_eq] at h;obtain⟨⟨⟨⟨rfl,rfl⟩,rfl⟩,rfl⟩,rfl⟩:=h;rfl
  case aD.aD sg ia a cw ml b=>
   have h:((sg==cw)&&decide (ia=ml)&&fD (AV.eqb n) a b)=true:=h;simp only[bT,beq_iff_eq,decide_eq_true_eq] at h;rw[h.1.1,h.1.2,gY _ _ h.2]
  case f.f bA a6 a2 aM dA dQ=>
   have h:(decide (bA=aM)&&(fD (AV.eqb n) a6 dA&&fD (AV.eqb n) a2 dQ))=true:=h;simp only[bT,decide_eq_true_eq] at h;rw[h.1,gY _ _ h.2.1,gY _ _ h.2.2]
  case it.it t a u b=>
   have h:(Nat.beq t u&&AV.eqb n a b)=true:=h;simp only[bT,lC] at h;rw[h.1,ay _ _ h.2]
  case ag.ag a b=>have h:fD (AV.eqb n) a b=true:=h;rw[gY _ _ h]
  case aK.aK a b=>have h:fD (AV.eqb n) a b=true:=h;rw[gY _ _ h]
  case hq.hq k a b l c d=>
   have h:(decide (k=l)&&(Nat.beq a c&&Nat.beq b d))=true:=h;simp only[bT,lC,decide_eq_true_eq] at h;rw[h.1,h.2.1,h.2.2]
  case iu.iu a b=>have h:(a==b)=true:=h;rw[eq_of_beq h]
  case gH.gH a b=>have h:Nat.beq a b=true:=h;rw[eM h]
  case iv.iv a b c d=>
   have h:(Nat.beq a c&&Nat.beq b d)=true:=h;simp only[bT,lC] at h;rw[h.1,h.2]
  case y.y a b=>
   have h:Nat.beq a b=true:=h;rw[eM h]
  case eN.eN I a p b=>
   have h:((I==p)&&Nat.beq a b)=true:=h;simp only[bT,beq_iff_eq,lC] at h;rw[h.1,h.2]
  case fY.fY a b=>have h:fD eqL a b=true:=h;rw[ys (fun x y h=>(kU x y).1 h) _ _ h]
theorem VL{n base:Nat}{l:List (c6×ad)}{v:AV}(h:joinF n base l=some v):∀ret ah,(ret,ah)∈l→∃v0,ret= .ok v0∧freeze ah base n v0=some v:=by
 unfold joinF at h;split at h
 ·cases h
 rename_i x t;split at h
 ·cases h
 rename_i v0 b_;split at h
 ·cases h
 rename_i v1 pX;cases hall:cV (vK n base v1) t with
 |false=>rw[hall] at h;cases h
 |true=>
  rw[hall,cond_true] at h;cases h;intro ret ah e9;rcases dP.1 e9 with he|e9
  ·cases he;exact⟨_,rfl,pX⟩
  ·have:=jt hall _ e9;cases ret with
   |err w=>cases this
   |ok w=>
    simp only[vK] at this;split at this
    ·rename_i bn tS;exact⟨w,rfl,by rw[tS,AV.sJ _ _ _ this]⟩
    ·cases this
section
variable {P:Program}{env:Env}{B:Nat}
theorem VM(gw:qd P env)(dS:yq P env B){run:iM}(bX:o2 P env B run){f g:Nat}{args:List AV}{o:ad}{jM:List (c6×ad)}(h:callF env run f g args o=some jM)(yt:env.ext g=0)(k:Nat)(r:Option Nat)
  {w:World} {m:Nat→Option Nat} (af:Rel P o w m B) (eS:Globs env w B) {us:Array Value} (ha:bm w m (a_ o m) B args us.toList):
  (∃fn c,P.funcs[g]? =some fn∧fn.body=some c∧(fn.name== "runtime.NumGoroutine")=false)∧
  CallsIn (eI r) k P g us w (fun e ao=>∃ret ah,(ret,ah)∈jM∧∃aG,p9 ao aG (a_ ah aG) B ret e∧Rel P ah ao aG B∧Ext f o w m ah ao aG):=by
 unfold callF at h;rw[yt] at h;simp only at h;cases hp:env.pure g with
 |false=>
  rw[hp,cond_false] at h;exact Fe gw bX (Fh gw f) h k r af eS ha
 |true=>
  rw[hp,cond_true] at h;split at h
  ·-- known
   rename_i v av;cases h;split at av<;>try (cases av;done)
   rename_i aO BH;obtain⟨hb,ab⟩:=dS g aO v av;refine⟨hb,?_⟩;have Lj:bm w (fun _=>none) (fun _=>False) w.heap.size aO us.toList:=by
    obtain⟨h1,h2⟩:=nT BH;refine⟨by rw[ha.1,h1],fun i hi dc=>?_⟩;exact Lh af _ env.aT _ _ _ (h2 i (by omega) hi) (ha.2 i (by omega) dc)
   refine wh (ab k r w us af.fy eS Lj) (fun e bn dH=>?_);obtain⟨u,rfl,b9,bZ,rm,iP,kk,iQ⟩:=dH;have fU:∀b n,bsz w b=some n→bsz bn b=some n:=fun b n hb=>by
    have:=K7 hb;unfold bsz at hb ⊢;rw[rm b this];exact hb
   have he:Ext o.next o w m o bn m:=⟨fun _ _ h=>h,fun _ _ h=>.inl h,bK _,bZ,fU,fun b hb _=>rm b hb,fun _ _ _=>rfl,fun _ _ h=>h,iP,kk,iQ,fun _ _ _=>rfl⟩
   obtain⟨h1,h2⟩:=VD (f:=f) af he;refine⟨_,_,e3.2 rfl,m,?_,h1,h2⟩;have c2D:aq bn (fun _=>none) (a_ o m) w.heap.size v u:=b9.mono (fun _ _ h=>h) (bK _) (fun _ _ h=>h) (fun b _ hb=>⟨rfl,fun aj=>hb (af.TR aj)⟩);exact(c2D.c2u af.fy).up
  ·-- run,and pJ store dropped
   split at h<;>try (cases h;done)
   rename_i l c2E;split at h<;>cases h;rename_i bJ hfz;obtain⟨hb,ab⟩:=Fe gw bX (Fh gw o.next) c2E k r af eS ha;refine⟨hb,?_⟩;refine wh ab (fun e bn dH=>?_);obtain⟨ret,bk,e9,bO,iB,iR,fg⟩:=dH;obtain⟨v,rfl,c2F⟩:=VL hfz _ _ e9;obtain⟨h1,h2⟩:=VD (f:=f) af fg;refine⟨_,_,e3.2 rfl,m,?_,h1,h2⟩;cases e with
   |returned u=>exact(K8 af iR fg env.aT v bJ u c2F iB).up
   |panicked mh=>exact iB.elim
   |outgrown=>exact iB.elim
theorem c2G(gw:qd P env)(dS:yq P env B)(hex:uf P env){run:iM}(bX:o2 P env B run){f g:Nat}{args:List AV}{o:ad}{jM:List (c6×ad)}(h:callF env run f g args o=some jM)(k:Nat)(r:Option Nat)
  {w:World} {m:Nat→Option Nat} (af:Rel P o w m B) (eS:Globs env w B) {us cs:Array Value} (ha:bm w m (a_ o m) B args (us++cs).toList):
  match(invoke (.fn (.func g) cs) us).run P w with
  | .ok (.enter bC yl) ao=>CallsIn (eI r) k P bC yl ao (fun e ao=>∃ret ah,(ret,ah)∈jM∧∃aG,p9 ao aG (a_ ah aG) B ret e∧Rel P ah ao aG B∧Ext f o w m ah ao aG)
  | .ok (.round l bC tmps bP b) ao=>RoundIn (eI r) k P l bC tmps bP b ao (fun e ao=>∃ret ah,(ret,ah)∈jM∧∃aG,p9 ao aG (a_ ah aG) B ret e∧Rel P ah ao aG B∧Ext f o w m ah ao aG)
  | .ok (.value v) ao=>(fun e ao=>∃ret ah,(ret,ah)∈jM∧∃aG,p9 ao aG (a_ ah aG) B ret e∧Rel P ah ao aG B∧Ext f o w m ah ao aG) (.returned v) ao
  |_=>False:=by
 by_cases yt:env.ext g=0
 ·obtain⟨⟨fn,c,h1,h2,h3⟩,ab⟩:=VM gw dS bX h yt k r af eS ha;rw[yn h1 h2 h3 cs us w];exact ab
 ·unfold callF at h;split at h
  ·rename_i h0;exact absurd h0 yt
  rename_i n bS;split at h
  case h_2=>
   split at h
   case h_2=>
    unfold mclE at h;split at h<;>try (cases h;done)
    rename_i t r0 c2H _ _;split at h<;>cases h;rename_i es clock dd;have c2I:env.ext g=8:=c2H;have key:∃nt,(us++cs).toList=[nt]∧aq w m (a_ o m) B (.it t (.m (some r0))) nt:=by
     obtain⟨au,hx⟩:=ha;generalize(us++cs).toList=l at au hx;cases l with
     |nil=>cases au
     |cons a l=>cases l with
      |nil=>exact⟨a,rfl,hx 0 (by simp) (by simp)⟩
      |cons b l=>simp at au
    obtain⟨nt,au,h0⟩:=key;cases h0 with
    |it h1=>
     rename_i qi;cases h1 with
     |mp hm=>
      rename_i ar;obtain⟨bE,p1,jL⟩:=af.obj _ _ _ hm dd rfl;cases jL with
      |map hlen aI=>
      rename_i db;have hQ:us++cs= #[.iface t (.map (some ar))]:=by apply ky;simpa using au
      obtain⟨ao,g1,g2,g3,g4,g5⟩:=hex.1.2.1 g c2I t ar db clock w us cs hQ p1;rw[g1];obtain⟨gM,fz⟩:=af.alloc f ao (.map es clock) (.map db clock) rfl g2 g3 g4 g5 (.map hlen aI);exact⟨_,_,e3.2 rfl,_,.it (.mp (gK _ _ _)),gM,fz⟩
    ·-- nothing to put in order
     rename_i Lk _ _;cases h;have Ll:env.ext g=9:=Lk;obtain⟨⟨fn,c,dA,dQ,fE⟩,hn,_⟩:=hex.1.2.2 g Ll;obtain⟨au,hx⟩:=ha;have key:∃nt,(us++cs).toList=[nt]∧aq w m (a_ o m) B .J nt:=by
      generalize(us++cs).toList=l at au hx;cases l with
      |nil=>cases au
      |cons a l=>cases l with
       |nil=>exact⟨a,rfl,hx 0 (by simp) (by simp)⟩
       |cons b l=>simp at au
     obtain⟨nt,au,h0⟩:=key;cases h0;have hQ:us++cs= #[.slice none 0 0]:=by apply ky;simpa using au
     rw[yn dA dQ fE cs us w,hQ];refine(hn k r none 0 w).mono fun e ao ⟨aE,aY⟩=>?_;subst aE;subst aY;exact⟨_,_,e3.2 rfl,m,.aK rfl (fun i hi=>absurd hi (by simp)),af,Ext.refl f o _ m⟩
    ·rename_i id len cap Lk _ _;have Ll:env.ext g=9:=Lk;obtain⟨⟨fn,c,dA,dQ,fE⟩,_,hs⟩:=hex.1.2.2 g Ll;split at h<;>try (cases h;done)
     rename_i gp dd;split at h<;>try (cases h;done)
     rename_i l hc0;split at h<;>cases h;rename_i hlen;rw[bT,bT] at hlen;have Lm:=eY hlen.1;have el:=eM hlen.2.1;have bu:=eY hlen.2.2;subst el;have Fj:=VB _ _ hc0;subst Fj;obtain⟨au,hx⟩:=ha;have key:∃nt,(us++cs).toList=[nt]∧aq w m (a_ o m) B (.al id 0 l.length none cap) nt:=by
      generalize(us++cs).toList=l at au hx;cases l with
      |nil=>cases au
      |cons a l=>cases l with
       |nil=>exact⟨a,rfl,hx 0 (by simp) (by simp)⟩
       |cons b l=>simp at au
     obtain⟨nt,au,h0⟩:=key;cases h0 with
     |al hm hF nn hn h6 eF=>
     rename_i ar n dR;have hQ:us++cs= #[.slice (some ⟨ar,0,none⟩) l.length dR]:=by apply ky;simpa using au
     obtain⟨bE,p1,jL⟩:=af.obj _ _ _ hm dd rfl;cases jL with
     |cells hle gC bw hf=>
     rename_i arr el aT;rw[dO] at hle;have df:∀i (h:i<l.length),arr[i]? =some (.string (strOf l[i]))∧∀c∈l[i],c<256:=fun i h=>by
      have hi:=gC i (by rw[dO];exact h) (by omega);rw[ma] at hi;generalize av:arr[i]=v at hi;cases hi with
      |s _ hb=>exact⟨by rw[l_ (by omega),av],hb⟩
     rw[yn dA dQ fE cs us w,hQ];refine(hs k r ar dR l arr el aT w p1 hle (fun i h=>(df i h).1) bw bu fun s hs c ab=>?_).mono fun e ao ⟨aE,bZ,pT,⟨j1,a6,a2,a3⟩,iP,kk,iQ⟩=>?_
     ·obtain⟨i,hi,e⟩:=Eh.1 hs;exact(df i hi).2 c (e▸ab)
     subst aE;have yu:=wA l;obtain⟨gM,fz⟩:=af.TT (f:=f) Lm hm ⟨_,dd,rfl⟩ ao (.cells ((jF l).map .s)) bZ pT (fun n hn=>by
      unfold bsz at hn ⊢;rw[p1] at hn;rw[a6];show some j1.size=_;rw[a2];exact hn) iP kk iQ (fun _=>⟨_,a6,.cells (by rw[dO,yu.length_eq,a2];exact hle) (fun i h h'=>by
       rw[dO] at h;have e:=a3 i h;rw[l_ h',ca] at e;rw[ma,e];have e9:=yu.mem_iff.1 (cB h);obtain⟨j,aB,yv⟩:=Eh.1 e9;exact .s _ fun c ab=>(df j aB).2 c (yv▸ab)) (by rw[a2];exact bw) (fun x hx=>by obtain⟨y,_,rfl⟩:=fq.1 hx;rfl)⟩)
     exact⟨_,_,e3.2 rfl,m,.aK rfl (fun i hi=>absurd hi (by simp)),gM,fz⟩
   cases h;rename_i v os av;split at av<;>try (cases av;done)
   rename_i aO BH;obtain⟨⟨fn,c,dA,dQ,fE⟩,ab⟩:=hex.2 g aO v os av B;rw[yn dA dQ fE cs us w];have Lj:bm w (fun _=>none) (fun _=>False) w.heap.size aO (us++cs).toList:=by
    obtain⟨h1,h2⟩:=nT BH;refine⟨by rw[ha.1,h1],fun i hi dc=>?_⟩;exact Lh af _ env.aT _ _ _ (h2 i (by omega) hi) (ha.2 i (by omega) dc)
   refine wh (ab k r w (us++cs) af.fy eS Lj) (fun e bn dH=>?_);obtain⟨u,rfl,⟨bO,gM,fz,j4,lk,wB⟩,bZ,rm,iP,kk,iQ⟩:=dH;obtain⟨jg,p1,jL,c2J⟩:=c2x (f:=f) af bZ rm iP kk iQ gM fz j4 lk wB;exact⟨_,_,e3.2 rfl,jg,p1,jL,c2J⟩
  cases h;rename_i v av;obtain⟨u,h1,h2⟩:=hex.1.1 g (fun h0=>bS h0) args v av w m (a_ o m) B us cs ha;rw[h1];exact⟨_,_,e3.2 rfl,m,h2,af,Ext.refl _ _ _ _⟩
end
theorem c2K(args:List AV)(al:aP AV):layAll [] args al=al:=rfl
theorem c2L(p:Nat)(ps:List Nat)(args:List AV)(al:aP AV):layAll (p::ps) args al=match args with|[]=>al|a::args=>layAll ps args (al.set p a):=rfl
theorem VN{w:World}{m:Nat→Option Nat}{O:Nat→Prop}{B:Nat}:∀(ps:List Nat) (args:List AV) (us:List Value) (al:aP AV) (tmps:Array Value),iw w m O B al tmps.toList→bm w m O B args us→ps.length=args.length→
  iw w m O B (layAll ps args al) ((ps.zip us).foldl (fun(tmps:Array Value) (x:Nat×Value)=>tmps.setIfInBounds x.1 x.2) tmps).toList
 |[],args,us,al,tmps,hs,ha,au=>by simpa [c2K] using hs
 |p::ps,[],us,al,tmps,hs,ha,au=>by simp at au
 |p::ps,a::args,us,al,tmps,hs,ha,au=>by
  cases us with
  |nil=>have:=ha.1;simp at this
  |cons u us=>
   rw[c2L];simp only[Tu,JE];refine VN ps args us _ _ ?_ (by simpa using ha.drop 1) (by simpa using au);exact hs.put p (ha.2 0 (by simp) (by simp))
section
variable {P:Program}{env:Env}{B:Nat}
theorem Rel.BI{o:ad}{w:World}{m:Nat→Option Nat}(af:Rel P o w m B){id ar:Nat}{st:LoopState}{h5:Option bc}{al:aP AV}{ps:List Nat}{bP b:bc}{d:Nat}(hm:m id=some ar)(hg:o.get id=some (.loop st h5 al ps bP b d)):
  ∃mI fn tmps fT b' D,w.heap[ar]? =some (.loop {state:=st,pending:=mI,fn,tmps,params:=ps.toArray,assign:=fT,body:=b',defers:=D})∧Ex P h5 mI∧iw w m (a_ o m) B al tmps.toList∧ccode P fT=some bP∧ccode P b'=some b∧m d=some D:=by
 obtain⟨bE,h1,h2⟩:=af.obj _ _ _ hm hg rfl;cases h2 with
 |loop kT hs ha hb an=>exact⟨_,_,_,_,_,_,h1,kT,hs,ha,hb,an⟩
theorem Rel.Fk{o:ad}{w:World}{m:Nat→Option Nat}(af:Rel P o w m B){f id ar:Nat}(hf:f≤id)(hm:m id=some ar){I:AO}{r:Loop}(au:live o id)(hb:bsz w ar=none)(bu:ar<w.heap.size)(an:I.isDead=false)(aj:kS P w m (a_ o m) B I (.loop r)):
  Rel P (o.set id I) (w.putObj ar (.loop r)) m B∧Ext f o w m (o.set id I) (w.putObj ar (.loop r)) m:=
 af.c7 hf hm au (w.putObj ar (.loop r)) I (by simp) (fun b bS=>UW bS) (fun n hn=>by rw[hb] at hn;cases hn) rfl rfl rfl (fun _=>⟨_,World.putObj_heap_same bu,aj⟩)
theorem c2M{run:iM}(bX:o2 P env B run){f l:Nat}{args:List AV}{o:ad}{jM:List (c6×ad)}(h:JQ run f l args o=some jM)(k:Nat)(r:Option Nat)
  {w:World} {m:Nat→Option Nat} (af:Rel P o w m B) (eS:Globs env w B) {us:Array Value} (ha:bm w m (a_ o m) B args us.toList) {ar:Nat} (hm:m l=some ar):
  ∃bC tmps bP b,(invoke (.fn (.yield ar) #[]) us).run P w= .ok (.round ar bC tmps bP b) w∧RoundIn (eI r) k P ar bC tmps bP b w (fun e ao=>∃ret ah,(ret,ah)∈jM∧∃aG,p9 ao aG (a_ ah aG) B ret e∧Rel P ah ao aG B∧Ext f o w m ah ao aG):=by
 unfold JQ at h;split at h<;>try (cases h;done)
 rename_i eF;have rk:f≤l:=by simpa [fX] using eF
 split at h<;>try (cases h;done)
 rename_i h5 al ps bP b d hg;obtain⟨mI,fn,tmps,fT,b',D,hh,kT,hs,has,ER,an⟩:=af.BI hm hg;cases Ln:Nat.beq ps.length args.length with
 |false=>rw[Ln] at h;cases h
 |true=>
  rw[Ln,cond_true] at h;have hlen:=eM Ln;have hQ:us.size=ps.length:=by have:=ha.1;simp at this;omega
  have aJ:=run_yield (P:=P) (args:=us) hh (by simpa using hQ);refine⟨_,_,_,_,aJ,?_⟩;have eB:eJ P env ⟨layAll ps args al,[],false⟩ {tmps:=(ps.toArray.zip us).foldl (fun tmps (t,a)=>tmps.setIfInBounds t a) tmps,defers:=[]} o w m B:=by
   refine⟨⟨af,?_,eS⟩,trivial⟩;have:=VN ps args us.toList al tmps hs ha hlen;have aE:(ps.toArray.zip us)=(ps.zip us.toList).toArray:=by
    apply ky;simp
   rw[aE];simpa using this
  obtain⟨o3,iR,c2N⟩:=ua h;refine roundIn_of_wpIn trivial ?_;refine(bX _ _ _ _ _ _ iR k (some ar) fT _ w m has hm eB _ (fun aE en bk c2O dK a6 bn bO e1 fN gO=>?_)).1;obtain⟨fe,et,Lo⟩:=c2N _ c2O;cases aE<;>try (cases et;done)
  cases dK<;>try exact e1.elim
  simp only[roundMid] at et;split at et<;>try (cases et;done)
  rename_i d5Y VO c2P d5Z dA d1 ru;have uh:=gO.mono _ _ hm;obtain⟨c2Q,c2R,c2S,c2T,c2U,Lp,A7,c2V,o4,c2W,c2X,lP⟩:=fN.ctx.rel.BI uh ru;have c2Y:=vP A7;have p3:bsz bn ar=none:=by unfold bsz;rw[A7]
  obtain⟨qe,kD⟩:=fN.ctx.rel.Fk (f:=f) rk uh (r:={state:=.busy,pending:=c2Q,fn:=c2R,tmps:=c2S,params:=c2P.toArray,assign:=c2T,body:=c2U,defers:=Lp}) ⟨_,ru,rfl⟩ p3 c2Y rfl (.loop c2V o4 c2W c2X lP);refine⟨_,run_beginRound A7 rfl,?_⟩;have o0:=fN.ext kD qe;obtain⟨VP,BJ,c2Z⟩:=ua et;refine(bX _ _ _ _ _ _ BJ k (some ar) b' a6 _ bO ER uh o0 _ (fun cZ c3a fJ c3b mY a3 sK o5 Fl BK Fo=>?_)).1;obtain⟨d6a,nr,Lq⟩:=c2Z _ c3b;have qj:=Fo.mono _ _ uh;have VQ:=(gO.trans af kD).trans af Fo;have fin:∀(j:Option bc) (q5:Option Code) (b:Bool),Ex P j q5→(b=q5.isNone)→(∃wE rv ry n8 rz fE d3,fJ.get l=some (.loop wE rv ry n8 rz fE d3))→∀dj,endRound fJ l j=some dj→dj∈jM→
    ∃u ao,(Instr.endRound ar q5).run P sK= .ok u ao∧∃ret ah,(ret,ah)∈jM∧∃aG,p9 ao aG (a_ ah aG) B ret (.returned u)∧Rel P ah ao aG B∧Ext f o w m ah ao aG:=by
   rintro j q5 b aB hb ⟨wE,rv,ry,n8,rz,fE,d3,nx⟩ dj mZ je;obtain⟨d6b,Fp,Fq,Fs,Ft,Fu,ui,Fv,Fw,Fx,Fy,Fz⟩:=BK.ctx.rel.BI qj nx;have FA:=vP ui;have tO:bsz sK ar=none:=by unfold bsz;rw[ui]
   unfold endRound at mZ;rw[nx] at mZ;cases j with
   |none=>
    cases q5 with
    |some _=>exact aB.elim
    |none=>
     simp only[ca] at mZ;subst mZ;obtain⟨BL,yw⟩:=BK.ctx.rel.Fk (f:=f) rk qj (I:=.loop .ready none ry n8 rz fE d3) (r:={state:=.ready,pending:=none,fn:=Fp,tmps:=Fq,params:=n8.toArray,assign:=Fs,body:=Ft,defers:=Fu}) ⟨_,nx,rfl⟩ tO FA rfl (.loop trivial Fw Fx Fy Fz);exact⟨_,_,run_endRound none ui,_,_,je,o5,.b _,BL,VQ.trans af yw⟩
   |some c=>
    cases q5 with
    |none=>exact aB.elim
    |some bR=>
     simp only[ca] at mZ;subst mZ;obtain⟨BL,yw⟩:=BK.ctx.rel.Fk (f:=f) rk qj (I:=.loop .done (some c) ry n8 rz fE d3) (r:={state:=.done,pending:=some bR,fn:=Fp,tmps:=Fq,params:=n8.toArray,assign:=Fs,body:=Ft,defers:=Fu}) ⟨_,nx,rfl⟩ tO FA rfl (.loop aB Fw Fx Fy Fz);exact⟨_,_,run_endRound (some bR) ui,_,_,je,o5,.b _,BL,VQ.trans af yw⟩
  have got:∀ {j:Option bc} {dj:c6×ad},endRound fJ l j=some dj→∃wE rv ry n8 rz fE d3,fJ.get l=some (.loop wE rv ry n8 rz fE d3):=fun aI=>by
   unfold endRound at aI;split at aI
   ·exact⟨_,_,_,_,_,_,_,by assumption⟩
   ·cases aI
  cases cZ with
  |panic v=>cases nr
  |normal=>
   cases mY<;>try exact Fl.elim
   simp only[roundEnd,eu] at nr;obtain⟨dj,mZ,rfl⟩:=nr;exact fin none none true trivial rfl (got mZ) dj mZ (Lo _ (Lq _ (kp _)))
  |ret=>
   cases mY<;>try exact Fl.elim
   simp only[roundEnd,eu] at nr;obtain⟨dj,mZ,rfl⟩:=nr;exact fin (some .ret) (some .ret) false ⟨rfl,.inl rfl⟩ rfl (got mZ) dj mZ (Lo _ (Lq _ (kp _)))
  |exit id=>
   cases mY<;>try exact Fl.elim
   have ny:=Fl;simp only[ExR] at ny;subst ny;simp only[roundEnd,eu] at nr;obtain⟨dj,mZ,rfl⟩:=nr;exact fin (some (.exit _)) (some (.exit _)) false ⟨rfl,.inr ⟨_,rfl⟩⟩ rfl (got mZ) dj mZ (Lo _ (Lq _ (kp _)))
theorem VR(gw:qd P env)(dS:yq P env B)(hex:uf P env){run:iM}(bX:o2 P env B run)(f:Nat)(r:Option Nat):Br P env B f r (callV env run f):=by
 intro bB args o jM h k w m u us af eS hf ha;unfold callV at h;split at h<;>try (cases h;done)
 ·rename_i g first cap
  cases hf with
  |ni c3c bl hG q8=>
   rename_i gq e6;have h1:bm w m (a_ o m) B first gq.toList:=⟨by simpa using c3c,fun i p q=>by simpa using bl i p (by simpa using q)⟩
   have h2:bm w m (a_ o m) B cap e6.toList:=⟨by simpa using hG,fun i p q=>by simpa using q8 i p (by simpa using q)⟩
   refine⟨{target:=.fn (.func g) e6,args:=gq++us.toArray},fun ao=>rfl,?_⟩;exact c2G gw dS hex bX h k r af eS (by simpa using (h1.append ha).append h2)
 ·rename_i l a b;cases hf with
  |sk hm=>
   obtain⟨bC,tmps,bP,kq,h1,h2⟩:=c2M bX h k r af eS (us:=us.toArray) (by simpa using ha) hm;refine⟨{target:=.fn (.yield _) #[],args:=#[]++us.toArray},fun ao=>rfl,?_⟩;have aE:(#[]++us.toArray:Array Value)=us.toArray:=by simp
   simp only[aE];rw[h1];exact h2
end
section
variable {P:Program}{env:Env}{B:Nat}
theorem c3d{aH r:Option Nat}{ae:Fr}{a:Act}{o bk:ad}{w:World}{m:Nat→Option Nat}{d f:Nat}{ds:List (Nat ⊕ (AV×List AV))}(h:xQ aH ae o=some (d,bk,ds))(lO:yi m aH r)(st:eJ P env ae a o w m B)
  {ps:List Nat} {bP b:bc} {fT b':Code} (has:ccode P fT=some bP) (hb:ccode P b'=some b) (fn:FuncId):
  ∃l mark bn bO,(Instr.enterLoop fn a.tmps ps.toArray fT b' r).run P w= .ok (l,mark) bn∧bO bk.next=some l∧
   eJ P env ⟨ae.aW,ds,ae.eZ⟩ {a with defers:=mark++a.defers} (bk.push (.loop .ready none ae.aW ps bP b d)) bn bO B∧Ext f o w m (bk.push (.loop .ready none ae.aW ps bP b d)) bn bO:=by
 unfold xQ at h;cases aH with
 |none=>
  cases r<;>try exact lO.elim
  simp only[ca,ya] at h;obtain⟨rfl,rfl,rfl⟩:=h;have af:=st.ctx.rel;obtain⟨iR,fg⟩:=af.alloc f (w.alloc (.deferred (some []))) .cT (.deferred (some [])) rfl rfl rfl rfl rfl .cT;have fN:=st.ext fg iR;obtain⟨qe,kD⟩:=iR.alloc f ((w.alloc (.deferred (some []))).alloc (.loop {state:=.ready,pending:=none,fn,tmps:=a.tmps,params:=ps.toArray,assign:=fT,body:=b',defers:=w.heap.size}))
   (.loop .ready none ae.aW ps bP b o.next) _ rfl rfl rfl rfl rfl (.loop trivial fN.ctx.aW has hb (gK _ _ _))
  have o0:=fN.ext kD qe;refine⟨_,_,_,_,run_enterLoop_outer fn a.tmps ps.toArray fT b',?_,⟨⟨qe,o0.ctx.aW,o0.ctx.globs⟩,⟨⟨_,kD.mono _ _ (gK _ _ _),rfl⟩,o0.defs⟩⟩,fg.trans af kD⟩;have:=gK (bindM m o.next w.heap.size) (o.push .cT).next (w.alloc (.deferred (some []))).heap.size;rw[this];simp
 |some VS=>
  cases r<;>try exact lO.elim
  rename_i ar;have hm:m VS=some ar:=lO;simp only at h;split at h<;>cases h;rename_i hg;have af:=st.ctx.rel;obtain⟨mI,d6c,d6d,d6e,sL,D,hh,_,_,_,_,an⟩:=af.BI hm hg;obtain⟨qe,kD⟩:=af.alloc f (w.alloc (.loop {state:=.ready,pending:=none,fn,tmps:=a.tmps,params:=ps.toArray,assign:=fT,body:=b',defers:=D}))
   (.loop .ready none ae.aW ps bP b d) _ rfl rfl rfl rfl rfl (.loop trivial st.ctx.aW has hb an)
  have o0:=st.ext kD qe;refine⟨w.heap.size,[],_,_,?_,gK _ _ _,⟨⟨qe,o0.ctx.aW,o0.ctx.globs⟩,o0.defs⟩,kD⟩;unfold Instr.enterLoop;simp only[er,run_getLoop hh,Result.andThen,gX,run_newObj_alloc]
theorem c3e{c:bc}{mI:Option Code}(h:Ex P (some c) mI):∃bR,mI=some bR∧ccode P bR=some c:=by
 cases mI with
 |none=>exact h.elim
 |some d=>exact⟨d,rfl,h.1⟩
theorem c3f{c:Code}{f:az}{ps:List Nat}{bP b:bc}(h:ccode P c=some (.rangeFunc f ps bP b)):∃g iO fT b',c= .rangeFunc g iO fT b'∧opdOf g=some f∧ps=iO.toList∧ccode P fT=some bP∧ccode P b'=some b:=by
 cases c with
 |rangeFunc g iO fT b'=>
  simp only[ccode] at h;split at h<;>cases h;rename_i h1 h2 h3;exact⟨g,iO,fT,b',rfl,h1,rfl,h2,h3⟩
 |region id ops eU=>cases eU<;>(simp only[ccode] at h;split at h<;>cases h)
 |_=>
  simp only[ccode] at h
  first|(cases h;done)|(split at h<;>cases h;done)
theorem c3g(gw:qd P env)(dS:yq P env B){run:iM}(bX:o2 P env B run):Vk P env B run:=by
 intro floor aH f ps bP b ae o outs h k r c a w m ab lO st Q c0;obtain⟨g0,FB,fT,b',rfl,we,rfl,has,hb⟩:=c3f ab;simp only[step] at h;split at h<;>try (cases h;done)
 rename_i Lm;have VT:floor≤o.next:=by simpa [fX] using Lm
 split at h<;>try (cases h;done)
 rename_i g first cap c3h
 split at h<;>try (cases h;done)
 rename_i d bk ds yx;split at h<;>try (cases h;done)
 rename_i yt;obtain⟨VS,mQ,hr⟩:=ua h;have c3i:=st.ctx.aw we c3h;refine wpIn_rangeFunc (fun fn _=>?_);obtain⟨l,mark,bn,bO,h1,h2,h3,aN⟩:=c3d (f:=floor) yx lO st (ps:=FB.toList) has hb fn;have af:=st.ctx.rel;have Lr:=c3i.ext aN af;obtain⟨gq,e6,c3j,K5,K6⟩:∃gq e6,a.eval g0= .func (.func g) gq e6∧bm bn bO (a_ (bk.push (.loop .ready none ae.aW FB.toList bP b d)) bO) B first gq.toList∧bm bn bO (a_ (bk.push (.loop .ready none ae.aW FB.toList bP b d)) bO) B cap e6.toList:=by
  revert Lr;generalize a.eval g0=mi;intro Lr;cases Lr with
  |ni Ls bl hG q8=>exact⟨_,_,rfl,⟨by simpa using Ls,fun i p q=>by simpa using bl i p (by simpa using q)⟩,⟨by simpa using hG,fun i p q=>by simpa using q8 i p (by simpa using q)⟩⟩
 have mS:bm bn bO (a_ (bk.push (.loop .ready none ae.aW FB.toList bP b d)) bO) B (first++AV.f (.yield bk.next) [] []::cap) (gq++ #[Value.func (.yield l) #[] #[]]++e6).toList:=by
  simp only[KH,kn];exact K5.append (bm.cons (.sk h2) K6)
 obtain⟨⟨d6f,bd,Ls,c3k,c3l⟩,c3m⟩:=VM gw dS bX mQ yt (k-1) r h3.ctx.rel h3.ctx.globs mS;refine⟨l,mark,bn,{target:=.fn (.func g) e6,args:=gq++ #[Value.func (.yield l) #[] #[]]},bn,g,_,bn,by simpa [eI] using h1,?_,fun _ _=>trivial,yn Ls c3k c3l e6 _ bn,fun hs=>by simp[eI] at hs,?_⟩
 ·have eG:a.eval (.const (.func (.yield l) #[] #[]))= .func (.yield l) #[] #[]:=rfl;simp only[resolve,c3j,Deferred.ofValue];simp[eG]
 ·refine wh c3m (fun cZ sK dH=>?_);obtain⟨ret,fJ,e9,o5,iB,BJ,Lt⟩:=dH;obtain⟨fe,et,gd⟩:=hr _ e9;cases ret with
  |err v=>cases et
  |ok d6g=>
  cases cZ<;>try exact iB.elim
  have qj:=Lt.mono _ _ h2;simp only[rangeK] at et;split at et<;>try (cases et;done)
  rename_i wE rv ry n8 rz fE d3 nx;obtain⟨mI,Fp,Fq,Fs,Ft,Fu,ui,Fv,Fw,Fx,Fy,Fz⟩:=BJ.BI qj nx;have BK:=h3.ext Lt BJ;have Fo:=aN.trans af Lt;have kC:floor≤bk.next:=by
   unfold xQ at yx;split at yx
   ·split at yx<;>cases yx;exact VT
   ·cases yx;exact Nat.le_succ_of_le VT
  have FA:=vP ui;have tO:bsz sK l=none:=by unfold bsz;rw[ui]
  have fin:wE≠ .busy→(match(generalizing:=false) rv with
    |none=>some [(gn.normal,(⟨ae.aW,ds,ae.eZ⟩:Fr),fJ.set bk.next (.loop .exhausted rv ry n8 rz fE d3))]
    |some c=>run floor aH c ⟨ae.aW,ds,ae.eZ⟩ (fJ.set bk.next (.loop .exhausted rv ry n8 rz fE d3)))=some fe→
    ∀ud,rangePost (eI r) k P l Q {a with defers:=mark++a.defers} (.returned ud) sK:=fun Us hh ud=>by
   obtain⟨BL,yw⟩:=BJ.Fk (f:=floor) kC qj (I:=.loop .exhausted rv ry n8 rz fE d3) (r:={state:=.exhausted,pending:=mI,fn:=Fp,tmps:=Fq,params:=n8.toArray,assign:=Fs,body:=Ft,defers:=Fu}) ⟨_,nx,rfl⟩ tO FA rfl (.loop Fv Fw Fx Fy Fz);have VU:=BK.ext yw BL;have Lu:=Fo.trans af yw;refine⟨mI,_,run_endLoop ui Us,?_⟩;cases rv with
   |none=>
    cases mI with
    |some _=>exact Fv.elim
    |none=>
     simp only at hh ⊢;cases hh;exact c0 _ _ _ (gd _ (kp _)) .normal _ _ o5 trivial VU Lu
   |some c=>
    obtain⟨bR,rfl,lg⟩:=c3e Fv;simp only at hh ⊢;exact(bX _ _ _ _ _ _ hh k r bR _ _ o5 lg (lO.mono Lu.mono) VU Q (fun e bQ ah c3n x cq ao aG g1 g2 g3=>c0 e bQ ah (gd _ c3n) x cq ao aG g1 g2 (Lu.trans af g3))).1
  cases wE<;>first|(cases et;done)|exact fin (by simp) et _
end
structure BM(pl:List aQ)(cK:Nat→Nat→Bool)(p q:Nat):Prop where
 FC:p+1=q
 last:q+1=pl.length
 ops:∃bq ev s1 a6 dK s2 a2 ib,pl[p]? =some bq∧pl[q]? =some ev∧bq.op= .store s1 a6 dK∧ev.op= .store s2 a2 ib∧bq.dst=none∧ev.dst=none∧bq.guard=none∧ev.guard=none∧ev.iL≠[]
 rest:∀(r:Nat) (aO:aQ),r<p→pl[r]? =some aO→cK r q=true∨(aO.op.ft=false∧aO.op.kA=false∧aO.op.looks=false)
structure VV(P:Program)(ops:Array Oper)(pl:List aQ)(a7 cD:Nat→Nat)(cK:Nat→Nat→Bool):Prop where
 len:pl.length=ops.size
 pi:∀p,p<ops.size→a7 p<ops.size∧cD (a7 p)=p
 BN:∀i,i<ops.size→cD i<ops.size∧a7 (cD i)=i
 code:∀p aL,pl[p]? =some aL→∃I kE,ops[a7 p]? =some I∧coper P ops I=some kE∧aL.op=kE.op∧aL.dst=kE.dst∧aL.guard=kE.guard
 back:∀p,p<ops.size→∀I,ops[a7 p]? =some I→∀e∈I.after,Region.binds .any e=true→e.on<ops.size∧cD e.on<p
 VW:∀p,p<ops.size→∀q,cK q p=true→∃I,ops[a7 p]? =some I∧∃e∈I.after,Region.binds .any e=true∧(q=cD e.on∨cK q (cD e.on)=true)
 sM:∀(p q:Nat) (aL:aQ),p<q→q<ops.size→pl[p]? =some aL→aL.op.ft=true→cK p q=true∨BM pl cK p q
 BO:∀(p q:Nat) (aL dq:aQ) (d:Nat),p<q→pl[p]? =some aL→pl[q]? =some dq→aL.dst=some d→dq.dst≠some d
 VX:∀(p q:Nat) (aL dq:aQ),p<q→pl[p]? =some aL→pl[q]? =some dq→cK p q=true∨(∀d,aL.dst=some d→d∉dq.reads)∧(∀d,dq.dst=some d→d∉aL.reads)
 iL:∀(p:Nat) (aL:aQ),pl[p]? =some aL→aL.op.looks=true→∀(q:Nat),p<q→(q=ops.size∨∃dq,pl[q]? =some dq∧dq.op.ft=true)→
  q∈aL.iL∨(∃(e:Nat) (dI:aQ),pl[e]? =some dI∧dI.op.ft=true∧p<e∧e<q∧cK p e=true)∨(∀(c:Nat) (ac:aQ),pl[c]? =some ac→p<c→c<q→ac.op.ft=false∧ac.op.kA=false)
theorem sN{a b:Nat}:Nat.blt a b=true↔a<b:=by rw[fX]
theorem VY{α:Type}{f:α→α→Bool}:∀ {l:List α},Eu f l=true→∀(i j:Nat) (x y:α),i<j→l[i]? =some x→l[j]? =some y→f x y=true
 |[],_,i,j,x,y,_,hx,_=>by simp at hx
 |z::l,h,i,j,x,y,wF,hx,aJ=>by
  simp only[Eu,bT,fI] at h;cases j with
  |zero=>omega
  |succ j=>
   cases i with
   |zero=>
    simp only[U0,ca] at hx;subst hx;exact h.1 y (yb (by simpa using aJ))
   |succ i=>exact VY h.2 i j x y (by omega) (by simpa using hx) (by simpa using aJ)
theorem VZ{A:List Nat}{q:Nat}:∀ {es:List Nat},(xS A es).testBit q=true→∃d∈es,q=d∨(A.getD d 0).testBit q=true
 |[],h=>by simp[xS] at h
 |d::es,h=>by
  have h:((1 <<< d ||| A.getD d 0) ||| xS A es).testBit q=true:=h;rw[yc,yc,kO,kO,Nat.one_shiftLeft,E4,decide_eq_true_eq] at h;rcases h with(h|h)|h
  ·exact⟨d,by simp,.inl h.symm⟩
  ·exact⟨d,by simp,.inr h⟩
  ·obtain⟨e,he,h2⟩:=VZ (es:=es) h;exact⟨e,by simp[he],h2⟩
theorem V0{α β:Type}{f:α→Option β}{l:List α}{aZ:List β}(h:mapOL f l=some aZ){i:Nat}{y:β}(aJ:aZ[i]? =some y):∃x,l[i]? =some x∧f x=some y:=by
 obtain⟨h1,h2⟩:=vQ h;obtain⟨hi,rfl⟩:=mG.1 aJ;exact⟨l[i]'(by omega),cS (by omega),h2 i (by omega) hi⟩
theorem Lv{p:aQ→Bool}{pl:List aQ}{i:Nat}:i∈posOf p pl↔∃aL,pl[i]? =some aL∧p aL=true:=by
 unfold posOf;simp only[fq,wj,Prod.exists,exists_eq_right];constructor
 ·rintro⟨aL,h1,h2⟩;exact⟨aL,by simpa using wk.1 h1,h2⟩
 ·rintro⟨aL,h1,h2⟩;exact⟨aL,wk.2 (by simpa using h1),h2⟩
theorem Lw{α:Type}{l:List α}{i:Nat}{x d:α}(h:l[i]? =some x):l.getD i d=x:=by simp[p5,h]
theorem c3o{P:Program}{ops:Array Oper}{pl:List aQ}(h:cdraw P ops=some pl):∃a7 cD cK,VV P ops pl a7 cD cK:=by
 unfold cdraw at h;cases au:mapOL (coper P ops) ops.toList with
 |none=>rw[au] at h;cases h
 |some l=>
 rw[au] at h;simp only at h;cases js:TI l (AX ops.size (((l.zip (ops.toList.map pP)).zipIdx).map fun x=>(x.2,x.1.1.op.ft,x.1.2)) 0) with
 |none=>rw[js] at h;cases h
 |some Lx=>
 rw[js] at h;simp only at h;generalize hA:List.foldl _ [] (AX _ _ 0)=A at h;generalize d6h:List.map _ (List.range ops.size)=cD at h;generalize d6i:AX _ _ 0=a7 at h js;split at h<;>cases h;rename_i hok;generalize V1:AY A ops.size Lx=pl at hok;simp only[TH,bT] at hok;obtain⟨wG,V2,iU,c3p,V3⟩:=hok;simp only[TF,bT,lC,fI,fX] at wG;obtain⟨kC,lM,o6,n9⟩:=wG;have FD:∀p,p<ops.size→a7[p]? =some (a7.getD p 0):=fun p hp=>by
  rw[cS (by omega),Lw (cS (by omega))]
 have c3q:∀p,p<ops.size→cD[p]? =some (cD.getD p 0):=fun p hp=>by
  rw[cS (by omega),Lw (cS (by omega))]
 have V4:∀i I,ops[i]? =some I→(ops.toList.map pP).getD i []=pP I:=fun i I aj=>by
  refine Lw ?_;rw[j3,lB,aj];rfl
 have c3r:∀(I:Oper) e,e∈I.after→Region.binds .any e=true→e.on∈pP I:=fun I e he hb=>by
  unfold pP;exact fq.2 ⟨e,wj.2 ⟨by simpa using he,hb⟩,rfl⟩
 have tM:Lx.length=ops.size:=by have:=(vQ js).1;omega
 have hlen:pl.length=ops.size:=by rw[←V1];simp[AY,tM]
 have je:∀p aL,pl[p]? =some aL→p<ops.size:=fun p aL hp=>by have:=(mG.1 hp).1;omega
 have e9:∀p aL,pl[p]? =some aL→(aL,p)∈pl.zipIdx:=fun p aL hp=>wk.2 (by simpa using hp);simp only[TG,fI,bT,fX,lC] at iU;have V5:∀p,p<ops.size→(∀d∈xT (ops.toList.map pP) cD (a7.getD p 0),d<p)∧A.getD p 0=xS A (xT (ops.toList.map pP) cD (a7.getD p 0)):=fun p hp=>
  iU (a7.getD p 0,p) (wk.2 (by simpa using FD p hp))
 have Ly:∀p q aL dq,p<q→pl[p]? =some aL→pl[q]? =some dq→pairOk A pl (aL,p) (dq,q)=true:=fun p q aL dq h9 h1 h2=>
  VY c3p p q _ _ h9 (by simp[KJ,h1]) (by simp[KJ,h2])
 refine⟨fun p=>a7.getD p 0,fun i=>cD.getD i 0,fun q p=>(A.getD p 0).testBit q,⟨hlen,?_,?_,?_,?_,?_,?_,?_,?_,?_⟩⟩
 ·intro p hp;have:=o6 (a7.getD p 0,p) (wk.2 (by simpa using FD p hp));exact this
 ·intro i hi;have:=n9 (cD.getD i 0,i) (wk.2 (by simpa using c3q i hi));exact this
 ·intro p aL hp;have iD:=je p aL hp;have dd:∃a0,Lx[p]? =some a0∧aL.op=a0.op∧aL.dst=a0.dst∧aL.guard=a0.guard:=by
   rw[←V1] at hp;simp only[AY,j3,KJ,eu,Prod.exists] at hp;obtain⟨a0,i,⟨a6,h1,h2⟩,h3⟩:=hp;cases h2;subst h3;exact⟨_,h1,rfl,rfl,rfl⟩
  obtain⟨a0,h0,aE,aY,cZ⟩:=dd;obtain⟨i,hi,BP⟩:=V0 js h0;rw[FD p iD] at hi;cases hi;obtain⟨I,aj,ab⟩:=V0 au BP;exact⟨I,a0,by simpa using aj,ab,aE,aY,cZ⟩
 ·intro p hp I aj e he hb;have V6:e.on∈pP I:=c3r I e he hb;refine⟨?_,?_⟩
  ·simp only[fI,fX] at V2;exact V2 (pP I) (fq.2 ⟨I,by simpa using U1 aj,rfl⟩) _ V6
  ·exact(V5 p hp).1 _ (fq.2 ⟨e.on,by rw[V4 _ _ aj];exact V6,rfl⟩)
 ·intro p hp q aI;have BQ:=o6 (a7.getD p 0,p) (wk.2 (by simpa using FD p hp));obtain⟨I,aj⟩:∃I,ops[a7.getD p 0]? =some I:=⟨_,l_ BQ.1⟩
  refine⟨I,aj,?_⟩;rw[(V5 p hp).2] at aI;obtain⟨d,an,h2⟩:=VZ aI;unfold xT at an;rw[V4 _ _ aj] at an;obtain⟨j,aB,rfl⟩:=fq.1 an;unfold pP at aB;obtain⟨e,he,rfl⟩:=fq.1 aB;obtain⟨fg,kD⟩:=wj.1 he;exact⟨e,by simpa using fg,kD,h2⟩
 ·intro p q aL h9 aI h1 he;have h2:pl[q]? =some (pl[q]'(by omega)):=cS (by omega);have:=Ly p q aL (pl[q]'(by omega)) h9 h1 h2;simp only[pairOk,bT,kO,he,Bh,oH,false_or] at this;rcases this.2 with h3|h3
  ·exact .inl h3
  ·refine .inr ?_;have aN:=h3.2;simp only[TD,bT,lC,Option.isNone_iff_eq_none,se,List.isEmpty_eq_false_iff,fI] at aN;obtain⟨aE,aY,cZ,lI,rA,wH,uj,FE,eD,FF⟩:=aN;obtain⟨s1,a6,dK,o4⟩:∃s a x,aL.op= .store s a x:=by
    revert cZ;cases aL.op<;>intro cZ<;>first|exact⟨_,_,_,rfl⟩|cases cZ
   obtain⟨s2,a2,ib,kX⟩:∃s a x,(pl[q]'(by omega)).op= .store s a x:=by
    revert lI;cases(pl[q]'(by omega)).op<;>intro lI<;>first|exact⟨_,_,_,rfl⟩|cases lI
   refine⟨aE,aY,⟨_,_,s1,a6,dK,s2,a2,ib,h1,h2,o4,kX,rA,wH,uj,FE,eD⟩,fun r aO af BH=>?_⟩;have bH:=FF (aO,r) (e9 r aO BH);simp only[kO,se,TC,bT] at bH;rcases bH with bH|bH|bH
   ·rw[sN.2 af] at bH;cases bH
   ·exact .inl bH
   ·exact .inr bH
 ·intro p q aL dq d h9 h1 h2 an ym;have:=Ly p q aL dq h9 h1 h2;simp only[pairOk,bT,an,ym] at this;simp at this
 ·intro p q aL dq h9 h1 h2;have:=Ly p q aL dq h9 h1 h2;simp only[pairOk,bT,kO] at this;rcases this.2 with h3|h3
  ·exact .inl h3
  ·refine .inr ?_;have aN:=h3.1;simp only[indep,bT] at aN;refine⟨fun d an=>?_,fun d an=>?_⟩
   ·have:=aN.1;rw[an] at this;simpa using this
   ·have:=aN.2;rw[an] at this;simpa using this
 ·intro p aL hp c3s q h9 aI;simp only[fI] at V3;have:=V3 _ (e9 p aL hp);simp only[TE,c3s,Bh,tW,fI] at this;have c3t:q∈ops.size::posOf (·.op.ft) pl:=by
   rcases aI with rfl|⟨dq,h1,h2⟩
   ·simp
   ·exact e_ _ (Lv.2 ⟨dq,h1,h2⟩)
  have:=this q c3t;simp only[kO,se] at this;rcases this with h1|h1|h1|h1
  ·exfalso;have:Nat.blt p q=true:=(sN.2 h9)
   rw[this] at h1;cases h1
  ·exact .inl (by simpa using h1)
  ·refine .inr (.inl ?_);simp only[tX,bT,fX] at h1;obtain⟨e,he,h2,h3,aN⟩:=h1;obtain⟨dI,bH,de⟩:=Lv.1 he;exact⟨e,dI,bH,de,h2,h3,aN⟩
  ·refine .inr (.inr fun c ac ab c3u c3v=>?_);simp only[fI,se,U2] at h1;cases V7:Ev ac with
   |false=>simpa [Ev] using V7
   |true=>
    exfalso;have:=h1 c (Lv.2 ⟨ac,ab,V7⟩);rw[(sN.2 c3u),(sN.2 c3v)] at this;rcases this with h|h<;>cases h
section
variable {f:Nat}{aw hS:az→Option AV}{o ah:ad}
theorem uk{x:Option az}{d:Nat}(h:∀y∈nS x,aw y=hS y):bndO aw x d=bndO hS x d:=by
 cases x with
 |none=>rfl
 |some x=>simp only[bndO,h x (by simp[nS])]
theorem yy{α β:Type}{g wI:α→Option β}:∀ {l:List α},(∀x∈l,g x=wI x)→mapO g l=mapO wI l
 |[],_=>rfl
 |x::l,h=>by
  rw[mapO_cons,mapO_cons,h x (by simp),yy (l:=l) (fun y aJ=>h y (by simp[aJ]))]
theorem layParts_congr{fl:Nat→Nat→Nat}:∀ {ps:List (Nat×Nat×az)} {c:List AV},(∀p∈ps,aw p.2.2=hS p.2.2)→jW aw fl ps c=jW hS fl ps c
 |[],_,_=>rfl
 |p::ps,c,h=>by
  show(match aw p.2.2 with|none=>none|some v=>cond _ (match storeCells c (fl p.1 p.2.1) v.cells with|none=>none|some c=>jW aw fl ps c) none)=(match hS p.2.2 with|none=>none|some v=>cond _ (match storeCells c (fl p.1 p.2.1) v.cells with|none=>none|some c=>jW hS fl ps c) none);rw[h p (by simp)];have:∀c,jW aw fl ps c=jW hS fl ps c:=fun c=>layParts_congr (fun q aI=>h q (by simp[aI]));simp only[this]
theorem c3w{o:ad}{R:Option Nat}{x:AV}{bs hi da:Option az}(h2:∀y∈nS hi,aw y=hS y):sliceX o aw R x bs hi da=sliceX o hS R x bs hi da:=by
 cases bs with
 |some _=>rfl
 |none=>cases hi with
  |none=>rfl
  |some h=>cases da with
   |some _=>rfl
   |none=>
    have e:=h2 h (e3.2 rfl);unfold sliceX;simp only[e]
theorem c3x{R:Option Nat}{x:AV}{bs hi da:Option az}(h1:∀y∈nS bs,aw y=hS y)(h2:∀y∈nS hi,aw y=hS y)(h3:∀y∈nS da,aw y=hS y):sliceA aw R x bs hi da=sliceA hS R x bs hi da:=by
 unfold sliceA;simp only[uk h1,uk h2,uk h3];cases da with
 |none=>
  cases x<;>try rfl
  rename_i I kY xs;by_cases hs:kY=R
  ·simp only[if_pos hs];cases bndO hS bs 0<;>cases bndO hS hi xs.length<;>rfl
  ·simp only[if_neg hs]
 |some m=>
  have cZ:=uk (x:=some m) (d:=0) h3;cases x<;>try rfl
  ·simp only[cZ]
  ·rename_i I kY xs;by_cases hs:kY=R
   ·simp only[if_pos hs];cases bndO hS bs 0<;>cases bndO hS hi xs.length<;>try rfl
    simp only[cZ]
   ·simp only[if_neg hs]
theorem V8{c:q3}(h:∀y∈(match c with| .fn _=>[]| .val I=>[I]:List az),aw y=hS y):calleeV aw c=calleeV hS c:=by
 cases c with
 |fn f=>rfl
 |val I=>exact h I (by simp)
theorem V9{op:AOp}(h:∀x∈op.opnds,aw x=hS x):opx f aw o op=opx f hS o op:=by
 cases op
 all_goals simp only[AOp.opnds,List.forall_mem_cons,e4,mO,false_implies,implies_true,and_true] at h
 all_goals try simp only[opx,h]
 case pick c a b=>
  cases ab:hS c with
  |none=>rfl
  |some v=>cases v<;>first|rfl|(rename_i t;cases t<;>simp only[cond_true,cond_false,h])
 case build z ps=>rw[layParts_congr (fun p hp=>h _ (fq.2 ⟨p,hp,rfl⟩))]
 case buildSlice R n z ps=>
  rw[layParts_congr (fun p hp=>by
   obtain⟨q,aI,rfl⟩:=fq.1 hp;exact h _ (fq.2 ⟨q,aI,rfl⟩))]
 case q4 fn a c=>rw[yy (fun x hx=>h x (.inl hx)),yy (g:=aw) (wI:=hS) (l:=c) (fun x hx=>h x (.inr hx))]
 case xJ n R x bs hi=>rw[uk (fun y aJ=>h.2 y (.inl aJ)),uk (x:=hi) (fun y aJ=>h.2 y (.inr aJ))]
 case oJ x bs hi=>
  have e:∀d,bndO aw bs d=bndO hS bs d:=fun d=>uk (fun y aJ=>h.2 y (.inl aJ));have aY:∀d,bndO aw hi d=bndO hS hi d:=fun d=>uk (fun y aJ=>h.2 y (.inr aJ));simp only[e,aY]
 case vG R x bs hi da=>
  have e:∀v,sliceA aw R v bs hi da=sliceA hS R v bs hi da:=fun v=>c3x (fun y aJ=>h.2 y (.inl aJ)) (fun y aJ=>h.2 y (.inr (.inl aJ))) (fun y aJ=>h.2 y (.inr (.inr aJ)));have aY:∀v,sliceX o aw R v bs hi da=sliceX o hS R v bs hi da:=fun v=>c3w (fun y aJ=>h.2 y (.inr (.inl aJ)));simp only[e,aY]
 case call c bP=>rw[V8 (fun y aJ=>h y (.inl aJ)),yy (fun x hx=>h x (.inr hx))]
 case kh c bP=>rw[V8 (fun y aJ=>h y (.inl aJ)),yy (fun x hx=>h x (.inr hx))]
theorem c3y{aw:az→Option AV}{R fr:Option Nat}{x:AV}{fu:az}{bs hi da:Option az}{q:bG}(h:sliceX o aw R x bs hi da=some q):(AOp.vG fr fu bs hi da).looks=true:=by
 unfold sliceX at h;split at h
 ·rfl
 ·cases h
theorem FG{op:AOp}(he:op.ft=false)(ha:op.kA=false){r:bG}(h:opx f aw o op=some r)(hn:∀l,r≠ .gJ l:=by intro _ h;cases h):∃v,r= .val v o∧(op.looks=false→∀b7,opx f aw b7 op=some (.val v b7)):=by
 cases op
 all_goals first|(cases he;done)|(cases ha;done)|skip
 all_goals simp only[opx] at h
 all_goals first
  |(cases h;done)
  |(
    repeat' (first|(cases h;done)|(have c3z:=EY h;clear h;rcases c3z with⟨_,e⟩|⟨e,aY⟩;(exact absurd e (hn _));(refine⟨_,e,fun _ b7=>?_⟩;simp only[opx];simp only[*,(aY b7).1,(aY b7).2];done))|(exact absurd (E9 h).choose_spec (hn _))|(exact⟨_,(E8 h).choose_spec,fun au=>by rw[c3y h] at au;cases au⟩)|split at h|(simp only[tV] at h))
    all_goals first
     |(cases h;exact⟨_,rfl,fun au=>by first|(cases au;done)|(intro b7;rfl)|(intro b7;simp only[opx];done)|(intro b7;simp only[opx];simp only[*];first|done|rfl|(simp only[tV];simp only[*];first|done|rfl|simp))⟩)
     |skip)
theorem V_{op:AOp}(ha:op.kA=true){r:bG}(h:opx f aw o op=some r):∃(I:AO) (o7:Nat→AV),r= .val (o7 o.next) (o.push I)∧I.isDead=false∧∀b7,opx f aw b7 op=some (.val (o7 b7.next) (b7.push I)):=by
 cases op
 all_goals first|(cases ha;done)|skip
 all_goals simp only[opx] at h
 case alloc v=>cases h;exact⟨_,fun n=>jn n 0,rfl,rfl,fun _=>rfl⟩
 case box x=>
  split at h<;>try (cases h;done)
  rename_i v av;cases hval:v.val with
  |false=>rw[hval] at h;cases h
  |true=>
   rw[hval,cond_true] at h;cases h;exact⟨_,fun n=>jn n 0,rfl,rfl,fun b7=>by simp only[opx,av,hval,cond_true]⟩
 case buildSlice R n z ps=>
  split at h<;>cases h;rename_i c ab;exact⟨_,fun k=>.al k 0 n R (some n),rfl,rfl,fun b7=>by simp only[opx,ab]⟩
 case mkMap=>cases h;exact⟨_,fun n=>.m (some n),rfl,rfl,fun _=>rfl⟩
end
def c3A(P:Program)(w:World)(m:Nat→Option Nat)(O:Nat→Prop)(B:Nat)(I:AO)(o7:Nat→AV)(r:Result Next):Prop:=
 ∃u ao bE,r= .ok (.value u) ao∧ao.heap=w.heap.push bE∧ao.os=w.os∧ao.tape=w.tape∧ao.output=w.output∧kS P w m O B I bE∧
  ∀(lQ:World) (jg:Nat→Option Nat) (mW:Nat→Prop) (mX id:Nat),jg id=some w.heap.size→lQ.heap[w.heap.size]? =some bE→aq lQ jg mW mX (o7 id) u
theorem c3B{P:Program}{I:Oper}{ch:AOp}(h:cop P I=some ch)(ha:ch.kA=true):
  (∃t,I.op= .alloc t)∨(∃t x,I.op= .box t x)∨(∃t n ps,I.op= .buildSlice t n ps)∨(∃t r,I.op= .makeMap t r):=by
 unfold cop at h;split at h
 all_goals first
  |(cases h;done)
  |(rename_i aj;exact .inl ⟨_,aj⟩)
  |(rename_i aj;exact .inr (.inl ⟨_,_,aj⟩))
  |(rename_i aj;exact .inr (.inr (.inl ⟨_,_,_,aj⟩)))
  |(rename_i aj;exact .inr (.inr (.inr ⟨_,_,aj⟩)))
  |(
    exfalso
    repeat' first
     |(cases h;cases ha;done)
     |(cases h;done)
     |(simp only[eu] at h;obtain⟨_,_,h⟩:=h)
     |(simp only[dG,c8,dT,ca] at h)
     |split at h
     |(obtain⟨_,_,h⟩:=h)
     |(subst h;cases ha;done))
section
variable {P:Program}{env:Env}{o:ad}{w:World}{m:Nat→Option Nat}{B:Nat}{f:Nat}{al:aP AV}{a:Act}{I:Oper}{ch:AOp}{cw:AO}{o7:Nat→AV}
theorem c3C{t e:TypeId}{R:Option Nat}(hu:P.underlying t=some (.slice e))(hs:shapeOf P e=some R){z:AV}(bw:zeroOf P e=some z)(tL:z.cells.length=shN R){n:Nat}(hn:n*shN R≤16777216){aw:az→Option AV}
  {ps:List (Nat×Nat×az)} {h8:Array (Nat×Value)} {c:List AV}
  (hp:iA (fun(p:Nat×Nat×az) (q:Nat×Value)=>(p.1=q.1∧p.2.1=shN R)∧∀v,aw p.2.2=some v→aq w m (a_ o m) B v q.2) ps h8.toList)
  (h:jW aw (fun i fl=>i*fl) ps (hN n z.cells)=some c):
  ∃arr:Array Value,(Instr.buildSlice t n h8).run P w= .ok (.slice (some ⟨w.heap.size,0,none⟩) n n) {w with heap:=w.heap.push (.cells arr e)}∧bm w m (a_ o m) B c arr.toList∧(∀x∈c,conf none x=true)∧arr.size=n*shN R:=by
 obtain⟨_,bZ,_⟩:=jI hs w;obtain⟨ej,hP,lK,lL⟩:=pW bw w;have mK:=(lK w m (a_ o m) B).cells;have kW:ej.cells.size=shN R:=by have:=mK.1;simp at this;omega
 have ri:iA (fun(p:Nat×Nat×az) (q:Nat×Value)=>(fun i=>some (i*shN R,shN R)) q.1=some (p.1*p.2.1,p.2.1)∧∀v,aw p.2.2=some v→aq w m (a_ o m) B v q.2) ps h8.toList:=by
  clear h;revert hp;generalize h8.toList=gv
  induction ps generalizing gv with
  |nil=>cases gv<;>exact id
  |cons p ps ay=>
   cases gv with
   |nil=>exact id
   |cons q gv=>
    rintro⟨⟨⟨h1,h2⟩,av⟩,af⟩;exact⟨⟨by rw[h1,h2],av⟩,ay gv af⟩
 have mL:=x0 mK n;have Ke:=x1 lL n;have tM:ej.cells.toList.length=shN R:=by simp[kW]
 rw[tM] at mL;obtain⟨j1,h1,h2,h3,aN⟩:=A9 (place:=fun i=>some (i*shN R,shN R)) ps h8.toList (hN n z.cells) c ((Array.range (n*shN R)).map fun i=>ej.cells.toList[i%shN R]!) ri
  (by simpa [vF] using mL) Ke h
 have r1:(newRow e j1).run P w= .ok ⟨w.heap.size,0,none⟩ {w with heap:=w.heap.push (.cells j1 e)}:=by simp[newRow]
 have x2:j1.size=n*shN R:=by
  have a6:=h2.1;have a2:=mL.1;simp at a6 a2;omega
 refine⟨j1,?_,h2,h3,x2⟩;have Kf:¬(n*shN R > 2^24):=by omega
 simp only[Instr.buildSlice,er,run_underlying hu,ez,bZ];rw[if_neg Kf];by_cases h0:n*shN R=0
 ·have aE:((Array.range (n*shN R)).map fun i=>ej.cells.toList[i%shN R]!)= #[]:=by rw[h0];apply ky;simp
  rw[aE] at h1;rw[if_pos h0];simp only[er,gX,ez,h0];have cZ:((Array.range 0).map fun x=>(#[]:Array Value)[x%(#[]:Array Value).size]!)= #[]:=by apply ky;simp
  rw[cZ,h1];simp[r1]
 ·have aE:((Array.range (n*shN R)).map fun i=>ej.cells.toList[i%shN R]!)=((Array.range (n*shN R)).map fun i=>ej.cells[i%ej.cells.size]!):=by
   apply ky;simp only[sc,vF];apply pF;intro a _;rw[kW,JF,oI];simp
  rw[aE] at h1;simp only[h0,if_false,er,hP,ez,gX];simp only[h1];simp[r1]
theorem push_inj{I bE:AO}(h:o.push I=o.push bE):I=bE:=by
 have h1:=ad.jH (o:=o) I;have h2:=ad.jH (o:=o) bE;rw[h,h2] at h1;exact(xG h1).symm
theorem c3D(c:Ctx P env o w m B al a)(ab:cop P I=some ch)(ha:ch.kA=true)(h:∀b7,opx f (evalA env al) b7 ch=some (.val (o7 b7.next) (b7.push cw))):
  c3A P w m (a_ o m) B cw o7 ((execOp a.eval I).run P w):=by
 have FH:∀ {g:Nat→AV},(∀b7:ad,o7 b7.next=g b7.next)→o7=g:=fun hg=>funext fun n=>hg ⟨.nil,n⟩;rcases c3B ab ha with⟨t,aj⟩|⟨t,x,aj⟩|⟨t,n,ps,aj⟩|⟨t,r,aj⟩
 ·simp only[cop,aj,eu] at ab;obtain⟨z,bw,rfl⟩:=ab;simp only[opx,ca,bG.val.injEq] at h;obtain rfl:=push_inj (h o).2;obtain rfl:=FH (g:=fun n=>jn n 0) (fun b7=>(h b7).1.symm);obtain⟨u,h1,h2,hf⟩:=pW bw w;have hG:=(h2 w m (a_ o m) B).cells;simp only[execOp,aj];refine⟨.pointer (some ⟨w.heap.size,0,none⟩),{w with heap:=w.heap.push (.cells u.cells t)},.cells u.cells t,by simp[Instr.alloc,h1,newVar,newRow],rfl,rfl,rfl,rfl,?_,fun lQ jg mW mX id ny _=>.p ny⟩;exact .cells (by have:=hG.1;simp at this;omega) (fun i h h'=>by have:=hG.2 i h (by simpa using h');simpa using this) (fun i _=>by simp) hf
 ·simp only[cop,aj,eu] at ab;obtain⟨bq,hx,rfl⟩:=ab;have h0:=h o;simp only[opx] at h0;split at h0<;>try (cases h0;done)
  rename_i bJ av;cases hval:bJ.val with
  |false=>rw[hval] at h0;cases h0
  |true=>
   simp only[opx,av,hval,cond_true,ca,bG.val.injEq] at h;obtain rfl:=push_inj (h o).2;obtain rfl:=FH (g:=fun n=>jn n 0) (fun b7=>(h b7).1.symm);have hG:=(c.aw hx av).cells;simp only[execOp,aj];refine⟨.pointer (some ⟨w.heap.size,0,none⟩),{w with heap:=w.heap.push (.cells (a.eval x).cells t)},.cells (a.eval x).cells t,by simp[Instr.box,newVar,newRow],rfl,rfl,rfl,rfl,?_,fun lQ jg mW mX id ny _=>.p ny⟩;exact .cells (by have:=hG.1;simp at this;omega) (fun i h h'=>by have:=hG.2 i h (by simpa using h');simpa using this) (fun i _=>by simp) (Kb (c.aw hx av) hval)
 ·-- a slice:one new row,made bP 'd6j d6k
  simp only[cop,aj,dG,c8] at ab;obtain⟨⟨e,R⟩,he,z,bw,l,au,ab⟩:=ab;split at ab<;>cases ab;rename_i ff;obtain⟨hu,hs⟩:=ye he;have h0:=h o;simp only[opx] at h0;split at h0<;>try (cases h0;done)
  rename_i cs rq;simp only[opx,rq,ca,bG.val.injEq] at h;obtain rfl:=push_inj (h o).2;obtain rfl:=FH (g:=fun k=>.al k 0 n R (some n)) (fun b7=>(h b7).1.symm);simp only[execOp,aj];have hall:iA (fun(p:Nat×Nat×az) (q:Nat×Value)=>(p.1=q.1∧p.2.1=shN R)∧∀v,evalA env al p.2.2=some v→aq w m (a_ o m) B v q.2) (l.map fun p=>(p.1,shN R,p.2)) ((ps.map fun(x:Nat×Operand)=>(x.1,a.eval x.2)).toList):=by
   rw[sc];have:=A8 (g:=fun(x:Nat×Operand)=>(x.1,a.eval x.2)) (r:=fun(p:Nat×az) (q:Nat×Value)=>p.1=q.1∧∀v,evalA env al p.2=some v→aq w m (a_ o m) B v q.2) (fun p q h9=>by
    split at h9<;>cases h9;rename_i x h2;exact⟨rfl,fun v av=>c.aw h2 av⟩) au
   revert this;generalize ps.toList.map (fun(x:Nat×Operand)=>(x.1,a.eval x.2))=gv;clear rq au h h0 ha
   induction l generalizing gv with
   |nil=>cases gv<;>exact id
   |cons p l ay=>
    cases gv with
    |nil=>exact id
    |cons q gv=>
     rintro⟨⟨h1,h2⟩,h3⟩;exact⟨⟨⟨h1,rfl⟩,h2⟩,ay gv h3⟩
  obtain⟨arr,bX,hG,mJ,bZ⟩:=c3C (o:=o) (m:=m) (B:=B) hu hs bw ff.2 ff.1 hall rq;refine⟨.slice (some ⟨w.heap.size,0,none⟩) n n,{w with heap:=w.heap.push (.cells arr e)},.cells arr e,by simp[bX],rfl,rfl,rfl,rfl,?_,fun lQ jg mW mX id ny c3E=>?_⟩
  ·exact .cells (by have:=hG.1;simp at this;omega) (fun i h h'=>by have:=hG.2 i h (by simpa using h');simpa using this) (fun i _=>by simp) mJ
  ·exact .al ny (bK _) (fun c ab=>by cases ab;rfl) (n:=arr.size) (by unfold bsz;rw[c3E]) (by omega) (fun h=>by cases h)
 ·simp only[cop,aj] at ab;simp only[execOp,aj];have key:(Instr.makeMap t (r.map a.eval)).run P w= .ok (.map (some w.heap.size)) {w with heap:=w.heap.push (.map #[] 0)}∧ch= .mkMap:=by
   split at ab<;>cases ab
   ·exact⟨by simp[Instr.makeMap],rfl⟩
   ·rename_i ht;exact⟨by simp[Instr.makeMap,run_underlying ht,Act.eval,asInt,asIntOf],rfl⟩
  obtain⟨key,rfl⟩:=key;simp only[opx,ca,bG.val.injEq] at h;obtain rfl:=push_inj (h o).2;obtain rfl:=FH (g:=fun n=>.m (some n)) (fun b7=>(h b7).1.symm);exact⟨.map (some w.heap.size),{w with heap:=w.heap.push (.map #[] 0)},.map #[] 0,by simp[key],rfl,rfl,rfl,rfl,.map rfl (fun i h=>by simp at h),fun lQ jg mW mX id ny _=>.mp ny⟩
theorem Rel.Lz(af:Rel P o w m B){id:Nat}(ny:id<o.next)(hm:m id=none){ao:World}{bE:Obj}(hg:o.get id=some cw)(hh:ao.heap=w.heap.push bE)(kl:kS P w m (a_ o m) B cw bE):
  Rel P o ao (bindM m id w.heap.size) B∧(∀i b,m i=some b→bindM m id w.heap.size i=some b)∧w.heap.size≤ao.heap.size∧(∀b n,bsz w b=some n→bsz ao b=some n)∧
   (∀b,b<w.heap.size→ao.heap[b]? =w.heap[b]?)∧(∀ar,ar<w.heap.size→¬a_ o m ar→ao.heap[ar]? =w.heap[ar]? ∧¬a_ o (bindM m id w.heap.size) ar)∧ao.heap[w.heap.size]? =some bE:=by
 have bZ:ao.heap.size=w.heap.size+1:=by rw[hh];simp
 have hold:∀b,b<w.heap.size→ao.heap[b]? =w.heap[b]? :=fun b hb=>by
  rw[hh,Jz];rw[if_neg (by omega)]
 have nV:ao.heap[w.heap.size]? =some bE:=by rw[hh];simp
 have jf:∀i b,m i=some b→bindM m id w.heap.size i=some b:=fun i b h=>by
  rw[iy m _ _ (fun e=>by subst e;rw[hm] at h;cases h)];exact h
 have fU:∀b n,bsz w b=some n→bsz ao b=some n:=by
  intro b n hb;have:b<w.heap.size:=by
   rcases mF b w.heap.size with h|h
   ·exact h
   ·simp[bsz,xF h] at hb
  unfold bsz at hb ⊢;rw[hold b this];exact hb
 have BR:∀ar,ar<w.heap.size→¬a_ o m ar→ao.heap[ar]? =w.heap[ar]? ∧¬a_ o (bindM m id w.heap.size) ar:=fun ar hb cY=>by
  refine⟨hold ar hb,?_⟩;rintro⟨i,h1,h2⟩;by_cases hi:i=id
  ·subst hi;rw[gK] at h1;cases h1;omega
  ·rw[iy m _ _ hi] at h1;exact cY ⟨i,h1,h2⟩
 refine⟨⟨af.len,?_,?_,?_,?_,by have:=af.fy;omega⟩,jf,by omega,fU,hold,BR,nV⟩
 ·intro i b h;by_cases hi:i=id
  ·subst hi;rw[gK] at h;cases h;exact⟨by omega,ny⟩
  ·rw[iy m _ _ hi] at h;have:=af.eP _ _ h;exact⟨by omega,this.2⟩
 ·intro i b fe h ru an;by_cases hi:i=id
  ·subst hi;rw[gK] at h;cases h;rw[hg] at ru;cases ru;exact⟨bE,nV,kl.mono jf (by omega) fU BR⟩
  ·rw[iy m _ _ hi] at h;obtain⟨jY,h1,h2⟩:=af.obj i b fe h ru an;exact⟨jY,by rw[hold _ (af.eP _ _ h).1];exact h1,h2.mono jf (by omega) fU BR⟩
 ·intro i lb b h h' au nj;by_cases hi:i=id
  ·by_cases dc:lb=id
   ·rw[hi,dc]
   ·subst hi;rw[gK] at h;cases h;rw[iy m _ _ dc] at h';have:=(af.eP _ _ h').1;omega
  ·rw[iy m _ _ hi] at h;by_cases dc:lb=id
   ·subst dc;rw[gK] at h';cases h';have:=(af.eP _ _ h).1;omega
   ·rw[iy m _ _ dc] at h';exact af.inj i lb b h h' au nj
 ·intro i b h;by_cases hi:i=id
  ·subst hi;rw[gK] at h;cases h;exact af.fy
  ·rw[iy m _ _ hi] at h;exact af.base _ _ h
theorem eJ.mono{ae:Fr}{ah:ad}{ao:World}{aG:Nat→Option Nat}(s:eJ P env ae a o w m B)(n0:Rel P ah ao aG B)(hm:∀id ar,m id=some ar→aG id=some ar)(bZ:w.heap.size≤ao.heap.size)
  (fU:∀b n,bsz w b=some n→bsz ao b=some n) (ax:∀ar,ar<w.heap.size→¬a_ o m ar→ao.heap[ar]? =w.heap[ar]? ∧¬a_ ah aG ar):eJ P env ae a ah ao aG B:=
 ⟨⟨n0,s.ctx.aW.mono hm bZ fU ax,fun g v hg dp=>(s.ctx.globs g v hg dp).mono (fun _ _ h=>h) bZ fU (fun b hb cY=>⟨(ax b hb (fun⟨i,h1,_⟩=>cY (s.ctx.rel.base _ _ h1))).1,cY⟩)⟩,
  Bq (fun d e5 an=>by
   cases d with
   |inl id=>obtain⟨ar,h1,h2⟩:=an;exact⟨ar,hm _ _ h1,h2⟩
   |inr p=>obtain⟨g,fs,cs,gq,e6,us,h1,h2,h3,aN,bH⟩:=an;exact⟨g,fs,cs,gq,e6,us,h1,h2,h3.mono hm bZ fU ax,aN.mono hm bZ fU ax,bH.mono hm bZ fU ax⟩) s.defs⟩
theorem Wa(af:Rel P o w m B)(I:AO)(ar:Nat):a_ (o.push I) m ar↔a_ o m ar:=by
 constructor
 ·rintro⟨i,h1,fe,h2,h3⟩;rw[ad.fZ af.len I (af.eP _ _ h1).2] at h2;exact⟨i,h1,fe,h2,h3⟩
 ·rintro⟨i,h1,fe,h2,h3⟩;exact⟨i,h1,fe,by rw[ad.fZ af.len I (af.eP _ _ h1).2];exact h2,h3⟩
theorem Rel.BS(af:Rel P o w m B)(I:AO):Rel P (o.push I) w m B:=by
 have ax:∀ar,ar<w.heap.size→¬a_ o m ar→w.heap[ar]? =w.heap[ar]? ∧¬a_ (o.push I) m ar:=fun ar _ cY=>⟨rfl,fun h=>cY ((Wa af I ar).1 h)⟩
 refine⟨trivial,fun i b h=>⟨(af.eP _ _ h).1,AI (af.eP _ _ h).2⟩,fun i b fe h hg an=>?_,fun i lb b h h' au nj=>?_,af.base,af.fy⟩
 ·rw[ad.fZ af.len I (af.eP _ _ h).2] at hg;obtain⟨jY,h1,h2⟩:=af.obj i b fe h hg an;exact⟨jY,h1,h2.mono (fun _ _ h=>h) (bK _) (fun _ _ h=>h) ax⟩
 ·refine af.inj i lb b h h' ?_ ?_
  ·obtain⟨fe,h2,h3⟩:=au;rw[ad.fZ af.len I (af.eP _ _ h).2] at h2;exact⟨fe,h2,h3⟩
  ·obtain⟨fe,h2,h3⟩:=nj;rw[ad.fZ af.len I (af.eP _ _ h').2] at h2;exact⟨fe,h2,h3⟩
theorem eJ.BS{ae:Fr}(s:eJ P env ae a o w m B)(I:AO):eJ P env ae a (o.push I) w m B:=
 s.mono (s.ctx.rel.BS I) (fun _ _ h=>h) (bK _) (fun _ _ h=>h) (fun ar _ cY=>⟨rfl,fun h=>cY ((Wa s.ctx.rel I ar).1 h)⟩)
theorem Ext.BS{b_:ad}{eC:World}{dZ:Nat→Option Nat}(h:Ext f b_ eC dZ o w m)(au:True)(I:AO):Ext f b_ eC dZ (o.push I) w m where
 mono:=h.mono
 new:=h.new
 next:=jk h.next (JA _)
 size:=h.size
 h7:=h.h7
 ee:=h.ee
 low id h1 h2:=by rw[ad.fZ au I (sA h2 h.next)];exact h.low id h1 h2
 dead id h1 h2:=h.dead id h1 (by
  obtain⟨fe,h3,aN⟩:=h2;rw[ad.fZ au I (sA h1 h.next)] at h3;exact⟨fe,h3,aN⟩)
 os:=h.os
 tape:=h.tape
 out:=h.out
 un id h1 h2:=by rw[ad.fZ au I (sA h1 h.next)];exact h.un id h1 h2
theorem Ext.Lz{b_:ad}{eC:World}{dZ:Nat→Option Nat}(h:Ext f b_ eC dZ o w m){id:Nat}(ny:b_.next≤id){ao:World}{bE:Obj}(hm:m id=none)(hh:ao.heap=w.heap.push bE)(iP:ao.os=w.os)(kk:ao.tape=w.tape)(iQ:ao.output=w.output):
  Ext f b_ eC dZ o ao (bindM m id w.heap.size):=by
 have bZ:ao.heap.size=w.heap.size+1:=by rw[hh];simp
 have hold:∀b,b<w.heap.size→ao.heap[b]? =w.heap[b]? :=fun b hb=>by
  rw[hh,Jz];rw[if_neg (by omega)]
 refine⟨fun i b hb=>?_,fun i b hb=>?_,h.next,by have:=h.size;omega,fun b n hb=>?_,fun b hb cY=>?_,h.low,h.dead,iP.trans h.os,kk.trans h.tape,iQ.trans h.out,h.un⟩
 ·have:=h.mono _ _ hb;rw[iy m _ _ (fun e=>by subst e;rw[hm] at this;cases this)];exact this
 ·by_cases hi:i=id
  ·subst hi;rw[gK] at hb;cases hb;exact .inr ⟨ny,.inl h.size⟩
  ·rw[iy m _ _ hi] at hb;exact h.new _ _ hb
 ·have h1:=h.h7 _ _ hb;have:b<w.heap.size:=by
   rcases mF b w.heap.size with h|h
   ·exact h
   ·simp[bsz,xF h] at h1
  unfold bsz at h1 ⊢;rw[hold b this];exact h1
 ·rw[hold b (by have:=h.size;omega)];exact h.ee b hb cY
end
def DStep(env:Env)(f:Nat)(call:ki)(aL:aQ)(s:aP AV)(o:ad)(v:AV)(bk:ad):Prop:=
 (wantedA aL.guard s=false∧v=dw∧bk=o)∨
 (wantedA aL.guard s=true∧opx f (evalA env s) o aL.op=some (.val v bk))∨
 (wantedA aL.guard s=true∧∃bB args,opx f (evalA env s) o aL.op=some (.call bB args)∧∃l,call bB args o=some l∧(.ok v,bk)∈l∧∀x∈l,∃u,x.1= .ok u)
noncomputable def m0 (s:aP AV) (d:Option Nat) (v:AV):aP AV:=match d with|some d=>s.set d v|none=>s
theorem FI(ae:Fr)(d:Option Nat)(v:AV):(ae.put d v).aW=m0 ae.aW d v:=by
 cases d<;>rfl
theorem put_eq(al:aP AV)(ds:List (Nat ⊕ (AV×List AV)))(rc:Bool)(d:Option Nat)(v:AV):Fr.put ⟨al,ds,rc⟩ d v=⟨m0 al d v,ds,rc⟩:=by
 cases d with
 |none=>rfl
 |some d=>rfl
theorem put_defers(ae:Fr)(d:Option Nat)(v:AV):(ae.put d v).defers=ae.defers∧(ae.put d v).eZ=ae.eZ:=by
 cases d<;>exact⟨rfl,rfl⟩
structure Trace(env:Env)(f:Nat)(call:ki)(pl:List aQ)(s:Nat→aP AV)(S:Nat→ad)(v:Nat→AV):Prop where
 step:∀(p:Nat) (aL:aQ),pl[p]? =some aL→DStep env f call aL (s p) (S p) (v p) (S (p+1))
 put:∀(p:Nat) (aL:aQ),pl[p]? =some aL→s (p+1)=m0 (s p) aL.dst (v p)
structure c3F(pl:List aQ)(s:Nat→aP AV)(S:Nat→ad)(v:Nat→AV)(ae:Fr)(bh:List ad)(ws:List kj)(x:iN):Prop where
 al:s pl.length=x.1.aW
 st:S pl.length=x.2.2.2
 n_:x.1.defers=ae.defers
 rc:x.1.eZ=ae.eZ
 bh:(x.2.2.2::x.2.1).reverse=bh.reverse++(List.range (pl.length+1)).map S
 old:∀y∈ws,y∈x.2.2.1
 yz:∀p aL,pl[p]? =some aL→wantedA aL.guard (s p)=true→aL.op.ft=false→aL.iL≠[]→(aL,s p,v p)∈x.2.2.1
theorem flatO_mem{α β:Type}{f:α→Option (List β)}:∀ {l:List α} {r:List β},jE f l=some r→∀x∈l,∃a,f x=some a∧∀y∈a,y∈r
 |[],_,_,x,hx=>by simp at hx
 |[a],r,h,x,hx=>by
  rw[e3.1 hx];exact⟨r,h,fun _ h=>h⟩
 |a::b::t,r,h,x,hx=>by
  have h:(match f a with|none=>none|some p=>match jE f (b::t) with|none=>none|some q=>some (p++q))=some r:=h;split at h
  ·cases h
  ·rename_i p hp;split at h
   ·cases h
   ·rename_i q aI;cases h;rcases dP.1 hx with rfl|hx
    ·exact⟨p,hp,fun y aJ=>JG _ aJ⟩
    ·obtain⟨z,h1,h2⟩:=flatO_mem aI x hx;exact⟨z,h1,fun y aJ=>Ed _ (h2 y aJ)⟩
def LA{α:Type}(x:α)(s:Nat→α):Nat→α:=fun p=>Nat.casesOn p x s
section
variable {env:Env}{f:Nat}{call:ki}
theorem Trace.cons{I:aQ}{pl:List aQ}{j7:aP AV}{o bk:ad}{v0:AV}{s:Nat→aP AV}{S:Nat→ad}{v:Nat→AV}(hs:DStep env f call I j7 o v0 bk)(ht:Trace env f call pl s S v)(h1:s 0=m0 j7 I.dst v0)(h2:S 0=bk):Trace env f call (I::pl) (LA j7 s) (LA o S) (LA v0 v):=by
 refine⟨fun p aL hp=>?_,fun p aL hp=>?_⟩
 ·cases p with
  |zero=>simp at hp;subst hp;show DStep env f call I j7 o v0 (S 0);rw[h2];exact hs
  |succ p=>exact ht.step p aL (by simpa using hp)
 ·cases p with
  |zero=>simp at hp;subst hp;exact h1
  |succ p=>exact ht.put p aL (by simpa using hp)
theorem Trace.tail{I:aQ}{pl:List aQ}{s:Nat→aP AV}{S:Nat→ad}{v:Nat→AV}(h:Trace env f call (I::pl) s S v):Trace env f call pl (fun p=>s (p+1)) (fun p=>S (p+1)) (fun p=>v (p+1)):=⟨fun p aL hp=>h.step (p+1) aL (by simpa using hp),fun p aL hp=>h.put (p+1) aL (by simpa using hp)⟩
theorem runDraws_cons(I:aQ)(pl:List aQ)(ae:Fr)(bh:List ad)(ws:List kj)(o:ad):runDraws env f call (I::pl) ae bh ws o=
  cond (wantedA I.guard ae.aW)
   (match opx f (evalA env ae.aW) o I.op with
    |some (.val v ah)=>runDraws env f call pl (ae.put I.dst v) (o::bh) (match I.iL with|[]=>ws|_::_=>(I,ae.aW,v)::ws) ah
    |some (.call bB args)=>match call bB args o with
     |some (x::l)=>jE (fun r=>match r with|(.ok v,ah)=>runDraws env f call pl (ae.put I.dst v) (o::bh) ws ah|_=>none) (x::l)
     |_=>none
    |_=>none)
   (runDraws env f call pl (ae.put I.dst dw) (o::bh) ws o):=by
 rw[←uc,← TP,← TQ,← JY];rfl
theorem c3G{I:aQ}{pl:List aQ}{ae:Fr}{bh:List ad}{ws:List kj}{o:ad}{L:List iN}(h:runDraws env f call (I::pl) ae bh ws o=some L):∃v0 bk,DStep env f call I ae.aW o v0 bk:=by
 rw[runDraws_cons] at h;cases hw:wantedA I.guard ae.aW with
 |false=>exact⟨dw,o,.inl ⟨hw,rfl,rfl⟩⟩
 |true=>
  rw[hw,cond_true] at h;split at h
  ·rename_i v bk hx;exact⟨v,bk,.inr (.inl ⟨hw,hx⟩)⟩
  ·rename_i bB args hx;split at h
   ·rename_i x l jK;have hall:∀y∈x::l,∃u,y.1= .ok u:=fun y aJ=>by
     obtain⟨a,h1,_⟩:=flatO_mem h y aJ;obtain⟨tE,FJ⟩:=y;cases tE with
     |ok u=>exact⟨u,rfl⟩
     |err u=>cases h1
    obtain⟨u,hu⟩:=hall x iq;obtain⟨dK,ib⟩:=x;cases hu;exact⟨u,ib,.inr (.inr ⟨hw,bB,args,hx,_,jK,iq,hall⟩)⟩
   ·cases h
  ·cases h
theorem FK{I:aQ}{pl:List aQ}{ae:Fr}{bh:List ad}{ws:List kj}{o bk:ad}{v0:AV}{L:List iN}(h:runDraws env f call (I::pl) ae bh ws o=some L)(hs:DStep env f call I ae.aW o v0 bk):
  ∃wJ gf,runDraws env f call pl (ae.put I.dst v0) (o::bh) wJ bk=some gf∧(∀x∈gf,x∈L)∧(∀x∈ws,x∈wJ)∧(wantedA I.guard ae.aW=true→I.op.ft=false→I.iL≠[]→(I,ae.aW,v0)∈wJ):=by
 rw[runDraws_cons] at h;rcases hs with⟨hw,rfl,rfl⟩|⟨hw,hx⟩|⟨hw,bB,args,hx,l,jK,hm,_⟩
 ·rw[hw,cond_false] at h;exact⟨ws,L,h,fun _ h=>h,fun _ h=>h,fun h=>by rw[hw] at h;cases h⟩
 ·rw[hw,cond_true,hx] at h;refine⟨_,L,h,fun _ h=>h,fun x hx=>?_,fun _ _ hn=>?_⟩
  ·split
   ·exact hx
   ·exact e_ _ hx
  ·split
   ·rename_i he;exact absurd he hn
   ·exact iq
 ·rw[hw,cond_true,hx] at h;simp only[jK] at h;obtain⟨c,bP,fm,_,_⟩:=ub hx;cases l with
  |nil=>simp at hm
  |cons x l=>
   obtain⟨a,h1,h2⟩:=flatO_mem h _ hm;exact⟨ws,a,h1,h2,fun _ h=>h,fun _ he=>by rw[fm] at he;cases he⟩
theorem LB:∀(pl:List aQ) (ae:Fr) (bh:List ad) (ws:List kj) (o:ad) {L:List iN},runDraws env f call pl ae bh ws o=some L→∃s S v,Trace env f call pl s S v∧s 0=ae.aW∧S 0=o
 |[],ae,_,_,o,_,_=>⟨fun _=>ae.aW,fun _=>o,fun _=>dw,⟨fun p aL hp=>by simp at hp,fun p aL hp=>by simp at hp⟩,rfl,rfl⟩
 |I::pl,ae,bh,ws,o,L,h=>by
  obtain⟨v0,bk,hs⟩:=c3G h;obtain⟨wJ,gf,h1,_⟩:=FK h hs;obtain⟨s,S,v,h2,h3,aN⟩:=LB pl _ _ _ _ h1;exact⟨_,_,_,.cons hs h2 (by rw[h3,FI]) aN,rfl,rfl⟩
theorem LC:∀(pl:List aQ) (ae:Fr) (bh:List ad) (ws:List kj) (o:ad) {L:List iN} {s:Nat→aP AV} {S:Nat→ad} {v:Nat→AV},runDraws env f call pl ae bh ws o=some L→Trace env f call pl s S v→s 0=ae.aW→S 0=o→∃x∈L,c3F pl s S v ae bh ws x
 |[],ae,bh,ws,o,L,s,S,v,h,ht,h1,h2=>by
  have h:some [(ae,bh,ws,o)]=some L:=h;cases h;exact⟨_,iq,h1,h2,rfl,rfl,by simp[h2],fun _ h=>h,fun p aL hp=>by simp at hp⟩
 |I::pl,ae,bh,ws,o,L,s,S,v,h,ht,h1,h2=>by
  have hs:=ht.step 0 I rfl;rw[h1,h2] at hs;obtain⟨wJ,gf,g1,g2,g3,g4⟩:=FK h hs;obtain⟨rA,wH⟩:=put_defers ae I.dst (v 0);obtain⟨x,hx,h⟩:=LC pl _ _ _ _ g1 ht.tail (by show s (0+1)=_;rw[ht.put 0 I rfl,h1,FI]) rfl;refine⟨x,g2 x hx,h.al,h.st,h.n_.trans rA,h.rc.trans wH,?_,fun y aJ=>h.old y (g3 y aJ),fun p aL hp hw he hn=>?_⟩
  ·rw[h.bh,jD,List.range_succ_eq_map (n:=pl.length+1)];simp only[List.reverse_cons,k9,qY,kn,List.singleton_append,h2];rfl
  ·cases p with
   |zero=>simp at hp;subst hp;rw[h1];rw[h1] at hw;exact h.old _ (g4 hw he hn)
   |succ p=>exact h.yz p aL (by simpa using hp) hw he hn
theorem Wb:∀(pl:List aQ) (ae:Fr) (bh:List ad) (ws:List kj) (o:ad) {L:List iN} {s:Nat→aP AV} {S:Nat→ad} {v:Nat→AV},runDraws env f call pl ae bh ws o=some L→Trace env f call pl s S v→s 0=ae.aW→S 0=o→
  ∀(p:Nat) (aL:aQ) (bB:AV) (args:List AV) (l:List (c6×ad)) (v1:AV) (bk:ad),pl[p]? =some aL→wantedA aL.guard (s p)=true→opx f (evalA env (s p)) (S p) aL.op=some (.call bB args)→call bB args (S p)=some l→(.ok v1,bk)∈l→(∀x∈l,∃u,x.1= .ok u)→
  ∃kY lR bJ,Trace env f call pl kY lR bJ∧(∀q,q≤p→kY q=s q∧lR q=S q)∧(∀q,q<p→bJ q=v q)∧bJ p=v1∧lR (p+1)=bk
 |[],_,_,_,_,_,_,_,_,_,_,_,_,p,_,_,_,_,_,_,hp,_,_,_,_,_=>by simp at hp
 |I::pl,ae,bh,ws,o,L,s,S,v,h,ht,h1,h2,0,aL,bB,args,l,v1,bk,hp,hw,hx,ab,hm,hall=>by
  simp at hp;subst hp;have hs:DStep env f call I ae.aW o v1 bk:=.inr (.inr ⟨by rw[←h1];exact hw,bB,args,by rw[←h1,← h2];exact hx,l,by rw[←h2];exact ab,hm,hall⟩);obtain⟨wJ,gf,g1,_⟩:=FK h hs;obtain⟨kY,lR,bJ,g2,g3,g4⟩:=LB pl _ _ _ _ g1;refine⟨_,_,_,.cons hs g2 (by rw[g3,FI]) g4,fun q aI=>?_,fun q aI=>by omega,rfl,g4⟩;obtain rfl:q=0:=by omega
  exact⟨h1.symm,h2.symm⟩
 |I::pl,ae,bh,ws,o,L,s,S,v,h,ht,h1,h2,p+1,aL,bB,args,l,v1,bk,hp,hw,hx,ab,hm,hall=>by
  have hs:=ht.step 0 I rfl;rw[h1,h2] at hs;obtain⟨wJ,gf,g1,_⟩:=FK h hs;have aE:s (0+1)=m0 ae.aW I.dst (v 0):=by rw[ht.put 0 I rfl,h1]
  obtain⟨kY,lR,bJ,g2,g3,g4,g5,g6⟩:=Wb pl _ _ _ _ g1 ht.tail (by rw[FI];exact aE) rfl p aL bB args l v1 bk (by simpa using hp) hw hx ab hm hall;refine⟨_,_,_,.cons hs g2 ((g3 0 (ir _)).1.trans aE) (g3 0 (ir _)).2,fun q aI=>?_,fun q aI=>?_,g5,g6⟩
  ·cases q with
   |zero=>exact⟨h1.symm,h2.symm⟩
   |succ q=>exact g3 q (by omega)
  ·cases q with
   |zero=>rfl
   |succ q=>exact g4 q (by omega)
end
structure gP(P:Program)(env:Env)(B f:Nat)(r:Option Nat)(ops:Array Oper)(pl:List aQ)(a7 cD:Nat→Nat)(cK:Nat→Nat→Bool)(call:ki)(s:Nat→aP AV)(S:Nat→ad)(v:Nat→AV):Prop where
 spec:VV P ops pl a7 cD cK
 c3H:Br P env B f r call
 hT:Trace env f call pl s S v
 steady:∀(p:Nat) (aL:aQ),pl[p]? =some aL→wantedA aL.guard (s p)=true→aL.op.ft=false→∀q∈aL.iL,∃b7,opx f (evalA env (s p)) (S q) aL.op=some (.val (v p) b7)
 iV:∀p q,BM pl cK p q→∀bq ev s1 a6 dK s2 a2 ib,pl[p]? =some bq→pl[q]? =some ev→bq.op= .store s1 a6 dK→ev.op= .store s2 a2 ib→∃i yA j yB,evalA env (s p) a6=some (.p (some (i,yA)))∧evalA env (s q) a2=some (.p (some (j,yB)))∧i≠j
structure LD(P:Program)(env:Env)(B f:Nat)(r:Option Nat)(ops:Array Oper)(pl:List aQ)(a7 cD:Nat→Nat)(cK:Nat→Nat→Bool)(call:ki)(j7:aP AV)(b_:ad):Prop where
 FL:∀s S v,Trace env f call pl s S v→s 0=j7→S 0=b_→gP P env B f r ops pl a7 cD cK call s S v
 iV:∀s S v,Trace env f call pl s S v→s 0=j7→S 0=b_→∀(p:Nat) (aL:aQ) (bB:AV) (args:List AV) (l:List (c6×ad)) (v1:AV) (bk:ad),pl[p]? =some aL→wantedA aL.guard (s p)=true→opx f (evalA env (s p)) (S p) aL.op=some (.call bB args)→call bB args (S p)=some l→(.ok v1,bk)∈l→(∀x∈l,∃u,x.1= .ok u)→
  ∃kY lR bJ,Trace env f call pl kY lR bJ∧(∀q,q≤p→kY q=s q∧lR q=S q)∧(∀q,q<p→bJ q=v q)∧bJ p=v1∧lR (p+1)=bk
def c9(a7:Nat→Nat)(listed:Array Bool)(p:Nat):Prop:=listed.getD (a7 p) false=true
structure um(pl:List aQ)(v:Nat→AV)(j7:aP AV)(D:Nat→Prop)(cW:aP AV):Prop where
 eP:∀t,(cW.get t).isSome=(j7.get t).isSome
 jP:∀(p:Nat) (aL:aQ) (t:Nat),pl[p]? =some aL→D p→aL.dst=some t→(j7.get t).isSome=true→cW.get t=some (v p)
 uo:∀(t:Nat),(∀(p:Nat) (aL:aQ),pl[p]? =some aL→D p→aL.dst≠some t)→cW.get t=j7.get t
structure oa(pl:List aQ)(s:Nat→aP AV)(S:Nat→ad)(b_:ad)(D:Nat→Prop)(m:Nat→Option Nat)(k:Nat):Prop where
 one:∀(p:Nat) (aL:aQ),p<k→pl[p]? =some aL→aL.op.kA=true→wantedA aL.guard (s p)=true→¬D p→m (S p).next=none∧b_.next≤(S p).next∧(S p).next<(S k).next∧(S k).get (S p).next=(S (p+1)).get (S p).next
 lt:∀(p dU:Nat) (aL gR:aQ),p<dU→dU<k→pl[p]? =some aL→pl[dU]? =some gR→aL.op.kA=true→gR.op.kA=true→wantedA aL.guard (s p)=true→wantedA gR.guard (s dU)=true→¬D p→¬D dU→(S p).next<(S dU).next
section
variable {P:Program}{env:Env}{B f:Nat}{r:Option Nat}{ops:Array Oper}{pl:List aQ}{a7 cD:Nat→Nat}{cK:Nat→Nat→Bool}{call:ki}{s:Nat→aP AV}{S:Nat→ad}{v:Nat→AV}
theorem gP.lt(c:gP P env B f r ops pl a7 cD cK call s S v){p:Nat}{aL:aQ}(h:pl[p]? =some aL):p<ops.size:=by
 have:=(mG.1 h).1;have:=c.spec.len;omega
theorem gP.get(c:gP P env B f r ops pl a7 cD cK call s S v){p:Nat}(h:p<ops.size):∃aL,pl[p]? =some aL:=
 ⟨_,cS (by have:=c.spec.len;omega)⟩
theorem gP.BO(c:gP P env B f r ops pl a7 cD cK call s S v){p q:Nat}{aL dq:aQ}{d:Nat}(hp:pl[p]? =some aL)(aI:pl[q]? =some dq)(h1:aL.dst=some d)(h2:dq.dst=some d):p=q:=by
 rcases tY p q with h|h|h
 ·exact absurd h2 (c.spec.BO p q aL dq d h hp aI h1)
 ·exact h
 ·exact absurd h1 (c.spec.BO q p dq aL d h aI hp h2)
theorem Wc{cW:aP AV}{d:Option Nat}{t:Nat}(h:d≠some t)(x:AV):(m0 cW d x).get t=cW.get t:=by
 cases d with
 |none=>rfl
 |some e=>
  show(cW.set e x).get t=_;rw[aP.ix,if_neg (fun he=>h (by rw[he]))]
theorem um.put(c:gP P env B f r ops pl a7 cD cK call s S v){j7 cW:aP AV}{D d_:Nat→Prop}(h:um pl v j7 D cW){p:Nat}{aL:aQ}(hp:pl[p]? =some aL)(eK:¬D p)(yC:∀(q:Nat) (dq:aQ),pl[q]? =some dq→(d_ q↔D q∨q=p)):um pl v j7 d_ (m0 cW aL.dst (v p)):=by
 refine⟨fun t=>?_,fun q dq t aI an ht bu=>?_,fun t hm=>?_⟩
 ·rw[←h.eP t];cases iS:aL.dst with
  |none=>rfl
  |some e=>
   show((cW.set e (v p)).get t).isSome=_;rw[aP.ix];by_cases he:t=e
   ·subst he;rw[if_pos rfl];cases cW.get t<;>rfl
   ·rw[if_neg he]
 ·rcases(yC q dq aI).1 an with an|rfl
  ·have bS:aL.dst≠some t:=fun e=>by
    have:=c.BO hp aI e ht;subst this;exact eK an
   rw[←h.jP q dq t aI an ht bu];exact Wc bS _
  ·rw[hp] at aI;cases aI;rw[ht];show(cW.set t (v q)).get t=_;rw[aP.ix,if_pos rfl];have:=h.eP t;rw[bu] at this;cases hg:cW.get t with
   |none=>rw[hg] at this;cases this
   |some y=>rfl
 ·have bS:=hm p aL hp ((yC p aL hp).2 (.inr rfl));rw[←h.uo t (fun q dq aI an=>hm q dq aI ((yC q dq aI).2 (.inl an)))];exact Wc bS _
theorem LF(c:gP P env B f r ops pl a7 cD cK call s S v):∀k,k≤ops.size→um pl v (s 0) (· <k) (s k)
 |0,_=>⟨fun _=>rfl,fun p aL t hp an=>by omega,fun t _=>rfl⟩
 |k+1,ax=>by
  obtain⟨aL,ln⟩:=c.get (p:=k) (by omega);rw[c.hT.put k aL ln];exact(LF c k (by omega)).put c ln (Nat.lt_irrefl k) (fun q dq _=>⟨fun h=>by have:q<k+1:=h;show q<k∨q=k;omega,fun h=>by show q<k+1;rcases h with h|h<;>omega⟩)
theorem Wd(c:gP P env B f r ops pl a7 cD cK call s S v){cW:aP AV}{D:Nat→Prop}(h:um pl v (s 0) D cW){p:Nat}{aL:aQ}(hp:pl[p]? =some aL)(eK:¬D p)
  (iU:∀q,cK q p=true→D q) (jK:∀q,q<ops.size→D q→∀x,cK x q=true→D x):∀t∈aL.reads,cW.get t=(s p).get t:=by
 intro t ht;have iD:=c.lt hp;have ab:=LF c p (by omega);by_cases hex:∃(q:Nat) (dq:aQ),pl[q]? =some dq∧dq.dst=some t
 ·obtain⟨q,dq,aI,BT⟩:=hex;have We:∀o8 wK,pl[o8]? =some wK→wK.dst=some t→o8=q:=fun o8 wK h1 h2=>c.BO h1 aI h2 BT;have Wf:¬D q→cW.get t=(s 0).get t:=fun hnd=>h.uo t (fun o8 wK h1 an h2=>by have:=We o8 wK h1 h2;subst this;exact hnd an);have Wg:¬q<p→(s p).get t=(s 0).get t:=fun hnd=>ab.uo t (fun o8 wK h1 an h2=>by have:=We o8 wK h1 h2;subst this;exact hnd an);by_cases bu:((s 0).get t).isSome=true
  ·rcases tY q p with yD|yD|yD
   ·have BU:D q:=by
     rcases c.spec.VX q p dq aL yD aI hp with h1|h1
     ·exact iU q h1
     ·exact absurd ht (h1.1 t BT)
    rw[h.jP q dq t aI BU BT bu,ab.jP q dq t aI yD BT bu]
   ·subst yD;rw[Wf eK,Wg (by omega)]
   ·have BU:¬D q:=fun BU=>by
     rcases c.spec.VX p q aL dq yD hp aI with h1|h1
     ·exact eK (jK q (c.lt aI) BU p h1)
     ·exact absurd ht (h1.2 t BT)
    rw[Wf BU,Wg (by omega)]
  ·have aE:=h.eP t;have aY:=ab.eP t;cases hg:(s 0).get t with
   |some y=>rw[hg] at bu;exact absurd rfl bu
   |none=>
    rw[hg] at aE aY;cases ru:cW.get t with
    |some y=>rw[ru] at aE;cases aE
    |none=>
     cases EV:(s p).get t with
     |some y=>rw[EV] at aY;cases aY
     |none=>rfl
 ·rw[h.uo t (fun q dq h1 _ h2=>hex ⟨q,dq,h1,h2⟩),ab.uo t (fun q dq h1 _ h2=>hex ⟨q,dq,h1,h2⟩)]
theorem Wh{cW sp:aP AV}{aL:aQ}(h:∀t∈aL.reads,cW.get t=sp.get t):∀x∈aL.op.opnds,evalA env cW x=evalA env sp x:=by
 intro x hx;cases x with
 |t i=>
  show cW.get i=sp.get i;exact h i (Ed _ (List.mem_filterMap.2 ⟨_,hx,rfl⟩))
 |c v=>rfl
 |g g=>rfl
theorem Wi{cW sp:aP AV}{aL:aQ}(h:∀t∈aL.reads,cW.get t=sp.get t):wantedA aL.guard cW=wantedA aL.guard sp:=by
 cases hg:aL.guard with
 |none=>rfl
 |some g=>
  obtain⟨d,b⟩:=g;simp only[wantedA];rw[h d (by simp[aQ.reads,hg])]
theorem c3I{op:AOp}(h:op.kA=true):op.ft=false:=by
 cases op<;>first|rfl|cases h
theorem gP.calm(c:gP P env B f r ops pl a7 cD cK call s S v){p:Nat}{aL:aQ}(hp:pl[p]? =some aL)(he:aL.op.ft=false):
  S (p+1)=S p∧(aL.op.kA=false∨wantedA aL.guard (s p)=false)∨∃cw,aL.op.kA=true∧wantedA aL.guard (s p)=true∧S (p+1)=(S p).push cw:=by
 rcases c.hT.step p aL hp with⟨h1,_,h2⟩|⟨h1,h2⟩|⟨h1,bB,args,h2,_⟩
 ·exact .inl ⟨h2,.inr h1⟩
 ·cases ha:aL.op.kA with
  |false=>
   obtain⟨bJ,h3,_⟩:=FG he ha h2;simp only[bG.val.injEq] at h3;exact .inl ⟨h3.2,.inl rfl⟩
  |true=>
   obtain⟨cw,o7,h3,_,_⟩:=V_ ha h2;simp only[bG.val.injEq] at h3;exact .inr ⟨cw,rfl,h1,h3.2⟩
 ·obtain⟨cl,bP,fm,_,_⟩:=ub h2;rw[fm] at he;cases he
theorem advance(c:gP P env B f r ops pl a7 cD cK call s S v){ae:Fr}{a:Act}{w eC:World}{m dZ:Nat→Option Nat}{b_:ad}{D:Nat→Prop}:∀(d k:Nat),k+d≤ops.size→(∀p aL,k≤p→p<k+d→pl[p]? =some aL→aL.op.ft=false)→
  eJ P env ae a (S k) w m B→Ext f b_ eC dZ (S k) w m→oa pl s S b_ D m k→eJ P env ae a (S (k+d)) w m B∧Ext f b_ eC dZ (S (k+d)) w m∧oa pl s S b_ D m (k+d)
 |0,k,_,_,h1,h2,h3=>⟨h1,h2,h3⟩
 |d+1,k,ax,gb,h1,h2,h3=>by
  obtain⟨i1,i2,i3⟩:=advance c d k (by omega) (fun p aL aN bH=>gb p aL aN (by omega)) h1 h2 h3;obtain⟨aL,ln⟩:=c.get (p:=k+d) (by omega);have he:=gb (k+d) aL (by omega) (by omega) ln;show eJ P env ae a (S (k+d+1)) w m B∧Ext f b_ eC dZ (S (k+d+1)) w m∧oa pl s S b_ D m (k+d+1);rcases c.calm ln he with⟨cE,kl⟩|⟨cw,cQ,hw,cE⟩
  ·have Wj:∀p gR,p<k+d+1→pl[p]? =some gR→gR.op.kA=true→wantedA gR.guard (s p)=true→p<k+d:=fun p gR hp hg ha hw=>by
    rcases mF p (k+d) with h|h
    ·exact h
    ·have:p=k+d:=by omega
     subst this;rw[ln] at hg;cases hg;rcases kl with h|h
     ·rw[ha] at h;cases h
     ·rw[hw] at h;cases h
   refine⟨by rw[cE];exact i1,by rw[cE];exact i2,⟨fun p gR hp hg ha hw an=>?_,fun p dU FM FN hp ri g1 g2 a6 a2 bn lQ d1 d2=>?_⟩⟩
   ·obtain⟨qk,sO,ql,sP⟩:=i3.one p gR (Wj p gR hp hg ha hw) hg ha hw an;exact⟨qk,sO,by rw[cE];exact ql,by rw[cE];exact sP⟩
   ·exact i3.lt p dU FM FN hp (Wj dU FN ri g2 a2 lQ) g1 g2 a6 a2 bn lQ d1 d2
  ·have hlen:=i1.ctx.rel.len;refine⟨by rw[cE];exact i1.BS cw,by rw[cE];exact i2.BS hlen cw,⟨fun p gR hp hg ha hw an=>?_,fun p dU FM FN hp ri g1 g2 a6 a2 bn lQ d1 d2=>?_⟩⟩
   ·rcases mF p (k+d) with h|h
    ·obtain⟨qk,sO,ql,sP⟩:=i3.one p gR h hg ha hw an;refine⟨qk,sO,by rw[cE];exact AI ql,by rw[cE,ad.fZ hlen cw ql];exact sP⟩
    ·have:p=k+d:=by omega
     subst this;exact⟨i1.ctx.rel.b8r,i2.next,by rw[cE];exact nO _,rfl⟩
   ·rcases mF dU (k+d) with h|h
    ·exact i3.lt p dU FM FN hp h g1 g2 a6 a2 bn lQ d1 d2
    ·have:dU=k+d:=by omega
     subst this;exact(i3.one p FM hp g1 a6 bn d1).2.2.1
end
structure Inv(P:Program)(env:Env)(B f:Nat)(ops:Array Oper)(pl:List aQ)(a7:Nat→Nat)(cK:Nat→Nat→Bool)(s:Nat→aP AV)(S:Nat→ad)(v:Nat→AV)(ds:List (Nat ⊕ (AV×List AV)))(rc:Bool)(b_:ad)(eC:World)(dZ:Nat→Option Nat)
  (listed:Array Bool) (a:Act) (w:World) (cC:Nat) (m:Nat→Option Nat) (cW:aP AV):Prop where
 rB:Rel P b_ eC dZ B
 size:listed.size=ops.size
 closed:∀p,p<ops.size→c9 a7 listed p→∀q,cK q p=true→c9 a7 listed q
 LG:cC≤ops.size
 uq:cC=ops.size∨∃(dI:aQ),pl[cC]? =some dI∧dI.op.ft=true∧¬c9 a7 listed cC
 before:∀(e:Nat) (dI:aQ),e<cC→pl[e]? =some dI→dI.op.ft=true→c9 a7 listed e
 after:∀(e:Nat) (dI:aQ),cC<e→pl[e]? =some dI→dI.op.ft=true→¬c9 a7 listed e
 aW:um pl v (s 0) (c9 a7 listed) cW
 st:eJ P env ⟨cW,ds,rc⟩ a (S cC) w m B
 ext:Ext f b_ eC dZ (S cC) w m
 rC:oa pl s S b_ (c9 a7 listed) m cC
section
variable {P:Program}{env:Env}{B f:Nat}{r:Option Nat}{ops:Array Oper}{pl:List aQ}{a7 cD:Nat→Nat}{cK:Nat→Nat→Bool}{call:ki}{s:Nat→aP AV}{S:Nat→ad}{v:Nat→AV}
variable {ds:List (Nat ⊕ (AV×List AV))}{rc:Bool}{b_:ad}{eC:World}{dZ:Nat→Option Nat}{listed:Array Bool}{a:Act}{w:World}{cC:Nat}{m:Nat→Option Nat}{cW:aP AV}
theorem LH(c:gP P env B f r ops pl a7 cD cK call s S v):∀(d k:Nat),k+d=ops.size→∃q,k≤q∧q≤ops.size∧(q=ops.size∨∃(dI:aQ),pl[q]? =some dI∧dI.op.ft=true)∧∀(e:Nat) (dI:aQ),k≤e→e<q→pl[e]? =some dI→dI.op.ft=false
 |0,k,h=>⟨k,bK _,by omega,.inl (by omega),fun e dI h1 h2=>by omega⟩
 |d+1,k,h=>by
  obtain⟨aL,ln⟩:=c.get (p:=k) (by omega);cases he:aL.op.ft with
  |true=>exact⟨k,bK _,by omega,.inr ⟨aL,ln,he⟩,fun e dI h1 h2=>by omega⟩
  |false=>
   obtain⟨q,h1,h2,h3,aN⟩:=LH c d (k+1) (by omega);refine⟨q,by omega,h2,h3,fun e dI bH de fV=>?_⟩;rcases mF k e with mm|mm
   ·exact aN e dI (by omega) de fV
   ·have:e=k:=by omega
    subst this;rw[ln] at fV;cases fV;exact he
theorem yE(c:gP P env B f r ops pl a7 cD cK call s S v)(bZ:listed.size=ops.size){p q:Nat}(hp:p<ops.size)(aI:q<ops.size):c9 a7 (listed.setIfInBounds (a7 p) true) q↔c9 a7 listed q∨q=p:=by
 have h1:=c.spec.pi p hp;have h2:=c.spec.pi q aI;unfold c9;by_cases h:q=p
 ·subst h;simp[oI,bZ,h1.1]
 ·have bS:a7 p≠a7 q:=fun e=>h (by rw[←h2.2,← e,h1.2]);rw[getD_set_ne false bS];simp[h]
theorem Wl(c:gP P env B f r ops pl a7 cD cK call s S v)(bZ:listed.size=ops.size){p:Nat}(hp:p<ops.size)(h:listed.getD (a7 p) true=false):¬c9 a7 listed p:=by
 have h1:=c.spec.pi p hp;unfold c9;have bu:a7 p<listed.size:=by omega
 simp[oI,bu] at h ⊢;exact h
theorem c3J(c:gP P env B f r ops pl a7 cD cK call s S v)(inv:Inv P env B f ops pl a7 cK s S v ds rc b_ eC dZ listed a w cC m cW){i:Nat}(hi:i∈Region.ready .any ops listed):
  ∃p aL I kE,p<ops.size∧i=a7 p∧pl[p]? =some aL∧ops[i]? =some I∧coper P ops I=some kE∧aL.op=kE.op∧aL.dst=kE.dst∧aL.guard=kE.guard∧¬c9 a7 listed p∧(∀q,cK q p=true→c9 a7 listed q):=by
 obtain⟨h1,I,aj,h2⟩:=mem_ready.1 hi;have je:i<ops.size:=(vz.1 aj).1;obtain⟨h3,aN⟩:=c.spec.BN i je;obtain⟨aL,ln⟩:=c.get h3;obtain⟨bE,kE,ob,ab,aE,aY,cZ⟩:=c.spec.code _ aL ln;rw[aN,aj] at ob;cases ob;refine⟨cD i,aL,I,kE,h3,aN.symm,ln,aj,ab,aE,aY,cZ,Wl c inv.size h3 (by rw[aN];exact h1),fun q aI=>?_⟩;obtain⟨bE,ob,e,he,hb,kl⟩:=c.spec.VW (cD i) h3 q aI;rw[aN,aj] at ob;cases ob;have LI:=h2 e he hb;have tT:=c.spec.back (cD i) h3 I (by rw[aN];exact aj) e he hb;have ur:=c.spec.BN e.on tT.1;have BV:c9 a7 listed (cD e.on):=by unfold c9;rw[ur.2];exact LI
 rcases kl with rfl|kl
 ·exact BV
 ·exact inv.closed _ ur.1 BV q kl
theorem Inv.calm(c:gP P env B f r ops pl a7 cD cK call s S v)(inv:Inv P env B f ops pl a7 cK s S v ds rc b_ eC dZ listed a w cC m cW){p:Nat}{aL:aQ}(hp:pl[p]? =some aL)(eK:¬c9 a7 listed p)(iU:∀q,cK q p=true→c9 a7 listed q)(he:p≠cC)(bS:aL.op.ft=false∨p<cC)
  {cq:Act} {ao:World} {aG:Nat→Option Nat} (st:eJ P env ⟨m0 cW aL.dst (v p),ds,rc⟩ cq (S cC) ao aG B) (ext:Ext f b_ eC dZ (S cC) ao aG) (rC:oa pl s S b_ (c9 a7 (listed.setIfInBounds (a7 p) true)) aG cC):
  Inv P env B f ops pl a7 cK s S v ds rc b_ eC dZ (listed.setIfInBounds (a7 p) true) cq ao cC aG (m0 cW aL.dst (v p)):=by
 have iD:=c.lt hp;have hs:∀q,q<ops.size→(c9 a7 (listed.setIfInBounds (a7 p) true) q↔c9 a7 listed q∨q=p):=fun q aI=>yE c inv.size iD aI;have jf:∀q,c9 a7 listed q→c9 a7 (listed.setIfInBounds (a7 p) true) q:=fun q aI=>by
  unfold c9 at aI ⊢;by_cases h:a7 p=a7 q
  ·rw[←h];simp[oI,inv.size,(c.spec.pi p iD).1]
  ·rw[getD_set_ne false h];exact aI
 refine⟨inv.rB,by simpa using inv.size,fun q aI an x hx=>?_,inv.LG,?_,fun e dI h1 h2 h3=>jf e (inv.before e dI h1 h2 h3),fun e dI h1 h2 h3 aN=>?_,inv.aW.put c hp eK (fun q dq aI=>hs q (c.lt aI)),st,ext,rC⟩
 ·rcases(hs q aI).1 an with h|rfl
  ·exact jf x (inv.closed q aI h x hx)
  ·exact jf x (iU x hx)
 ·rcases inv.uq with h|⟨dI,h1,h2,h3⟩
  ·exact .inl h
  ·exact .inr ⟨dI,h1,h2,fun h=>by
    rcases(hs cC (c.lt h1)).1 h with h|h
    ·exact h3 h
    ·exact he h.symm⟩
 ·rcases(hs e (c.lt h2)).1 aN with h|h
  ·exact inv.after e dI h1 h2 h3 h
  ·subst h;rcases bS with bS|bS
   ·rw[hp] at h2;cases h2;rw[bS] at h3;cases h3
   ·omega
theorem Inv.effect(c:gP P env B f r ops pl a7 cD cK call s S v)(inv:Inv P env B f ops pl a7 cK s S v ds rc b_ eC dZ listed a w cC m cW){p:Nat}{aL:aQ}(hp:pl[p]? =some aL)(eK:¬c9 a7 listed p)(iU:∀q,cK q p=true→c9 a7 listed q)(he:aL.op.ft=true)(aI:p=cC)
  {cq:Act} {ao:World} {aG:Nat→Option Nat} (st:eJ P env ⟨m0 cW aL.dst (v p),ds,rc⟩ cq (S (p+1)) ao aG B) (ext:Ext f (S p) w m (S (p+1)) ao aG):
  ∃BW,Inv P env B f ops pl a7 cK s S v ds rc b_ eC dZ (listed.setIfInBounds (a7 p) true) cq ao BW aG (m0 cW aL.dst (v p)):=by
 have iD:=c.lt hp;have hs:∀q,q<ops.size→(c9 a7 (listed.setIfInBounds (a7 p) true) q↔c9 a7 listed q∨q=p):=fun q aI=>yE c inv.size iD aI;have jf:∀q,c9 a7 listed q→c9 a7 (listed.setIfInBounds (a7 p) true) q:=fun q aI=>by
  unfold c9 at aI ⊢;by_cases h:a7 p=a7 q
  ·rw[←h];simp[oI,inv.size,(c.spec.pi p iD).1]
  ·rw[getD_set_ne false h];exact aI
 subst aI;obtain⟨q,h1,h2,h3,aN⟩:=LH c (ops.size-(p+1)) (p+1) (by omega);have c3K:oa pl s S b_ (c9 a7 (listed.setIfInBounds (a7 p) true)) aG (p+1):=by
  have back:∀dU gR,dU<p+1→pl[dU]? =some gR→gR.op.kA=true→¬c9 a7 (listed.setIfInBounds (a7 p) true) dU→dU<p∧¬c9 a7 listed dU:=fun dU gR bu hg ha an=>by
   refine⟨?_,fun h=>an (jf dU h)⟩;rcases mF dU p with h|h
   ·exact h
   ·have:dU=p:=by omega
    subst this;rw[hp] at hg;cases hg;rw[c3I ha] at he;cases he
  refine⟨fun dU gR bu hg ha hw an=>?_,fun p1 jL a6 a2 au nz g1 g2 Wm Wn bn lQ d1 d2=>?_⟩
  ·obtain⟨dA,dQ⟩:=back dU gR bu hg ha an;obtain⟨qk,sO,ql,sP⟩:=inv.rC.one dU gR dA hg ha hw dQ;refine⟨?_,sO,sA ql ext.next,by rw[ext.un _ ql qk];exact sP⟩;cases hm:aG (S dU).next with
   |none=>rfl
   |some b=>
    rcases ext.new _ _ hm with h|⟨h,_⟩
    ·rw[qk] at h;cases h
    ·omega
  ·have dQ:=back jL a2 nz g2 Wn d2;have dA:=back p1 a6 (by omega) g1 Wm d1;exact inv.rC.lt p1 jL a6 a2 au dQ.1 g1 g2 Wm Wn bn lQ dA.2 dQ.2
 obtain⟨BX,BY,BZ⟩:=advance c (q-(p+1)) (p+1) (by omega) (fun e dI bH de fV=>aN e dI bH (by omega) fV) st (inv.ext.trans inv.rB ext) c3K;have aI:p+1+(q-(p+1))=q:=by omega
 rw[aI] at BX BY BZ;refine⟨q,inv.rB,by simpa using inv.size,fun x hx an y aJ=>?_,h2,?_,fun e dI bH de fV=>?_,fun e dI bH de fV mm=>?_,inv.aW.put c hp eK (fun x bq hx=>hs x (c.lt hx)),BX,BY,BZ⟩
 ·rcases(hs x hx).1 an with h|rfl
  ·exact jf y (inv.closed x hx h y aJ)
  ·exact jf y (iU y aJ)
 ·rcases h3 with h|⟨dI,bH,de⟩
  ·exact .inl h
  ·refine .inr ⟨dI,bH,de,fun h=>?_⟩;rcases(hs q (c.lt bH)).1 h with h|h
   ·exact inv.after q dI (by omega) bH de h
   ·omega
 ·rcases tY e p with mm|mm|mm
  ·exact jf e (inv.before e dI mm de fV)
  ·exact(hs e (c.lt de)).2 (.inr mm)
  ·have:=aN e dI (by omega) bH de;rw[this] at fV;cases fV
 ·rcases(hs e (c.lt de)).1 mm with h|h
  ·exact inv.after e dI (by omega) de fV h
  ·omega
theorem Inv.lt(c:gP P env B f r ops pl a7 cD cK call s S v)(inv:Inv P env B f ops pl a7 cK s S v ds rc b_ eC dZ listed a w cC m cW){p:Nat}{aL:aQ}(hp:pl[p]? =some aL)(an:c9 a7 listed p):p<cC:=by
 have iD:=c.lt hp;rcases inv.uq with h|⟨dI,h1,h2,h3⟩
 ·omega
 ·rcases tY p cC with h|h|h
  ·exact h
  ·subst h;exact absurd an h3
  ·rcases c.spec.sM cC p dI h iD h1 h2 with aN|aN
   ·exact absurd (inv.closed p iD an cC aN) h3
   ·obtain⟨_,ev,_,_,_,_,_,_,_,g2,_,g4,_⟩:=aN.ops;rw[hp] at g2;cases g2;exact absurd an (inv.after p aL h hp (by rw[g4];rfl))
theorem Inv.switch(c:gP P env B f r ops pl a7 cD cK call s S v)(inv:Inv P env B f ops pl a7 cK s S v ds rc b_ eC dZ listed a w cC m cW){kY:Nat→aP AV}{lR:Nat→ad}{bJ:Nat→AV}(h1:∀q,q≤cC→kY q=s q∧lR q=S q)(h2:∀q,q<cC→bJ q=v q):Inv P env B f ops pl a7 cK kY lR bJ ds rc b_ eC dZ listed a w cC m cW:=by
 refine⟨inv.rB,inv.size,inv.closed,inv.LG,inv.uq,inv.before,inv.after,⟨fun t=>?_,fun p aL t hp an ht bu=>?_,fun t hm=>?_⟩,by rw[(h1 cC (bK _)).2];exact inv.st,by rw[(h1 cC (bK _)).2];exact inv.ext,⟨fun p aL bu hp ha hw an=>?_,fun p dU aL gR h3 aN bH de fV mm ns FO c3L c3M=>?_⟩⟩
 ·rw[(h1 0 (ir _)).1];exact inv.aW.eP t
 ·rw[(h1 0 (ir _)).1] at bu;rw[h2 p (inv.lt c hp an)];exact inv.aW.jP p aL t hp an ht bu
 ·rw[(h1 0 (ir _)).1];exact inv.aW.uo t hm
 ·rw[(h1 p (by omega)).1] at hw;rw[(h1 p (by omega)).2,(h1 (p+1) (by omega)).2,(h1 cC (bK _)).2];exact inv.rC.one p aL bu hp ha hw an
 ·rw[(h1 p (by omega)).1] at ns;rw[(h1 dU (by omega)).1] at FO;rw[(h1 p (by omega)).2,(h1 dU (by omega)).2];exact inv.rC.lt p dU aL gR h3 aN bH de fV mm ns FO c3L c3M
end
theorem Wo{f:Nat}{aw:az→Option AV}{o bk:ad}{R:Option Nat}{a x:az}{v:AV}(h:opx f aw o (.store R a x)=some (.val v bk)):
  ∃id off c bY,aw a=some (.p (some (id,off)))∧o.get id=some c∧v=dw∧bk=o.set id bY∧∀b7:ad,b7.get id=some c→opx f aw b7 (.store R a x)=some (.val dw (b7.set id bY)):=by
 simp only[opx] at h;split at h<;>try (cases h;done)
 rename_i id off u ha hx;split at h<;>try (cases h;done)
 rename_i eF;split at h<;>try (cases h;done)
 rename_i iT;split at h<;>try (cases h;done)
 ·rename_i c hg;split at h<;>cases h;rename_i bY nn;refine⟨id,off,.cells c,.cells bY,ha,hg,rfl,rfl,fun b7 h2=>?_⟩;simp only[opx,ha,hx,h2,nn];rw[if_neg eF,if_pos iT]
 ·rename_i c r hg;unfold nR at h;split at h<;>cases h;rename_i bY nn;refine⟨id,off,.gI c r,.gI bY r,ha,hg,rfl,rfl,fun b7 h2=>?_⟩;simp only[opx,ha,hx,h2,nR,nn];rw[if_neg eF,if_pos iT]
section
variable {P:Program}{env:Env}{B f:Nat}{r:Option Nat}{ops:Array Oper}{pl:List aQ}{a7 cD:Nat→Nat}{cK:Nat→Nat→Bool}{call:ki}{s:Nat→aP AV}{S:Nat→ad}{v:Nat→AV}
theorem c3N(c:gP P env B f r ops pl a7 cD cK call s S v){x y:Nat}(iV:BM pl cK x y){bq ev:aQ}(hx:pl[x]? =some bq)(aJ:pl[y]? =some ev):
  bq.op.ft=true∧ev.op.ft=true∧∃T mn,opx f (evalA env (s y)) (S x) ev.op=some (.val (v y) T)∧opx f (evalA env (s x)) T bq.op=some (.val (v x) mn)∧wantedA bq.guard (s x)=true∧wantedA ev.guard (s y)=true∧
   (∀id,mn.get id=(S ops.size).get id)∧mn.next=(S ops.size).next:=by
 obtain⟨Wp,c3O,s1,a6,dK,s2,a2,ib,h1,h2,h3,aN,bH,de,fV,mm,_⟩:=iV.ops;rw[hx] at h1;cases h1;rw[aJ] at h2;cases h2;have h9:=iV.FC;have hn:y+1=ops.size:=by have:=iV.last;have:=c.spec.len;omega
 have stx:=c.hT.step x bq hx;have c3P:=c.hT.step y ev aJ;have Wq:wantedA bq.guard (s x)=true:=by rw[fV];rfl
 have Wr:wantedA ev.guard (s y)=true:=by rw[mm];rfl
 obtain⟨i,yA,j,yB,aE,aY,wF⟩:=c.iV x y iV bq ev s1 a6 dK s2 a2 ib hx aJ h3 aN;have fY:opx f (evalA env (s x)) (S x) bq.op=some (.val (v x) (S (x+1))):=by
  rcases stx with⟨h,_⟩|⟨_,h⟩|⟨_,bB,args,h,_⟩
  ·rw[Wq] at h;cases h
  ·exact h
  ·obtain⟨_,_,fm,_,_⟩:=ub h;rw[h3] at fm;cases fm
 have Ws:opx f (evalA env (s y)) (S y) ev.op=some (.val (v y) (S (y+1))):=by
  rcases c3P with⟨h,_⟩|⟨_,h⟩|⟨_,bB,args,h,_⟩
  ·rw[Wr] at h;cases h
  ·exact h
  ·obtain⟨_,_,fm,_,_⟩:=ub h;rw[aN] at fm;cases fm
 rw[h3] at fY;rw[aN] at Ws;obtain⟨d6l,d6m,bY,LJ,g1,g2,g3,g4,g5⟩:=Wo fY;obtain⟨d6n,d6o,dL,FP,cc,cJ,bx,fM,h_⟩:=Wo Ws;rw[aE] at g1;cases g1;rw[aY] at cc;cases cc;have BP:=ad.ei g2;rw[h9] at g4;have aB:(S x).get j=some dL:=by
  rw[g4,ad.ix trivial _ BP,if_neg (oG wF)] at cJ;exact cJ
 have LK:=ad.ei aB;have yF:=h_ (S x) aB;have hi:((S x).set j FP).get i=some bY:=by
  rw[ad.ix trivial _ LK,if_neg wF];exact g2
 have c3Q:=g5 _ hi;refine⟨by rw[h3];rfl,by rw[aN];rfl,_,_,by rw[aN,bx];exact yF,by rw[h3,g3];exact c3Q,Wq,Wr,fun id=>?_,?_⟩
 ·rw[←hn,fM,g4];have c3R:i<((S x).set j FP).next:=BP;have c3S:j<((S x).set i LJ).next:=LK;rw[ad.ix trivial _ c3R,ad.ix trivial _ LK,ad.ix trivial _ c3S,ad.ix trivial _ BP];by_cases h1:id=i
  ·by_cases h2:id=j
   ·exact absurd (h1.symm.trans h2) wF
   ·rw[if_pos h1,if_neg h2,if_pos h1]
  ·rw[if_neg h1];by_cases h2:id=j
   ·rw[if_pos h2,if_pos h2]
   ·rw[if_neg h2,if_neg h2,if_neg h1]
 ·rw[←hn,fM,g4];rfl
theorem LL{o ah:ad}(h:∀id,o.get id=ah.get id)(id:Nat):live o id↔live ah id:=by unfold live;rw[h id]
theorem c3T{o ah:ad}{m:Nat→Option Nat}(h:∀id,o.get id=ah.get id):a_ o m=a_ ah m:=by
 funext b
 simp only[a_,live,h]
theorem eJ.congr{ae:Fr}{a:Act}{o ah:ad}{w:World}{m:Nat→Option Nat}(st:eJ P env ae a o w m B)(h:∀id,o.get id=ah.get id)(hn:o.next=ah.next):eJ P env ae a ah w m B:=by
 have aj:=c3T (m:=m) h;have af:=st.ctx.rel;have n0:Rel P ah w m B:=by
  refine⟨trivial,fun id b hb=>by rw[←hn];exact af.eP id b hb,fun id b I h1 h2 h3=>?_,fun i lb b h1 h2 h3 aN=>af.inj i lb b h1 h2 ((LL h i).2 h3) ((LL h lb).2 aN),af.base,af.fy⟩;rw[←aj];exact af.obj id b I h1 (by rw[h id];exact h2) h3
 exact st.mono n0 (fun _ _ h=>h) (bK _) (fun _ _ h=>h) (fun b _ hb=>⟨rfl,by rw[←aj];exact hb⟩)
theorem Ext.congr{f:Nat}{b_ o ah:ad}{eC w:World}{dZ m:Nat→Option Nat}(e:Ext f b_ eC dZ o w m)(h:∀id,o.get id=ah.get id)(hn:o.next=ah.next):Ext f b_ eC dZ ah w m:=
 ⟨e.mono,e.new,by rw[←hn];exact e.next,e.size,e.h7,e.ee,fun id h1 h2=>by rw[←h id];exact e.low id h1 h2,fun id h1 h2=>e.dead id h1 ((LL h id).2 h2),e.os,e.tape,e.out,fun id h1 h2=>by rw[←h id];exact e.un id h1 h2⟩
end
end
end Go.Lyc
end
