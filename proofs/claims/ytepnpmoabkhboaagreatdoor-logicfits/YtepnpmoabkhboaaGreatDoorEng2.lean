/-
  An abstract executor of the program's code, and that it is sound, part 2. No conditions: definitions and laws.
-/
import Derived.Test.YtepnpmoabkhboaaGreatDoorEng1
import Derived.TacticsIn
import Derived.Scope
import Derived.RangeFuncRecord
import Derived.RecoverIn
set_option linter.all false
noncomputable section
namespace Go.Lyc
def eE:=@Option.map_eq_some_iff
def dV:=@Option.bind_eq_bind
def dy:=@Option.bind_eq_some_iff
def ee:=@Option.pure_def
def qz:=@List.cons_append
def Ok:=@List.take_succ_cons
def y_:=@List.drop_zero
def Ol:=@Nat.ble_eq
def w2:=@Bool.cond_eq_ite
def u6:=@Go.Oper.semAt_eq
def w3:=@Go.CallsIn.mono
def Wa:=@Go.World.putObj_heap_other
def Wb:=@Array.toList_setIfInBounds
def Wc:=@List.replicate_succ
def Wd:=@List.getElem?_eq_none
def Om:=@Array.toList_append
def On:=@List.drop_eq_nil_of_le
def qA:=@List.nil_append
def u7:=@Nat.lt_of_lt_of_le
def te:=@Prod.mk.injEq
def jD:=@List.append_assoc
def We:=@List.getElem?_cons_zero
def Oo:=@List.mem_of_getElem?
def rJ:=@List.mem_filter
def za:=@List.mem_zipIdx_iff_getElem?
def nQ:=@List.getD_eq_getElem?_getD
def w4:=@List.getElem?_map
def Oq:=@List.getElem?_zipIdx
def Wf:=@Array.mem_of_getElem?
def Ot:=@Bool.not_true
def IW:=@Bool.false_or
def Wg:=@List.any_eq_true
def mJ:=@List.not_mem_nil
def w5:=@Nat.lt_trichotomy
def IX:=@Nat.lt_irrefl
set_option maxHeartbeats 0
set_option maxRecDepth 100000
section
variable [Tok]
open Go.RowKit
section
variable {P:Program}{w:World}{m:Nat->Option Nat}{O:Nat->Prop}{B:Nat}
def b0S{t e:TypeId}{R:Option Nat}(hu:P.underlying t=some (.slice e))(ak:shapeOf P e=some R){ol:Bool}{xs:List AV}{u:Value}(hx:az w m O B (.aR ol R xs) u)
  {bX hi:Option Value} {l1:IntKind} (ao:jN 0 bX 0) (hh:jN xs.length hi xs.length) (mF:hi.isSome=true) (w0:0<xs.length):
  ∃bW,(Instr.sliceAt t u bX hi (some (.int l1 (Int.ofNat xs.length)))).run P w= .ok bW w/\az w m O B (.iA ol R xs) bW:=by
 obtain⟨_,cj,_⟩:=j7 ak w;have b_:xs≠[]:=H3.1 w0;cases hx with
 |kB=>exact absurd I b_
 | @aR _ _ _ _ _ _ aA off ec sp a4 c9 pq ae al qp hf ei=>
  obtain rfl:=ei b_;have hb:∀d n,jN d hi n->∃s8,hi=some (.int s8 (Int.ofNat n)):=λd n h=>by
   cases h with
   |none=>simp at mF
   |some s8 h=>exact⟨s8,rfl⟩
  obtain⟨s8,rfl⟩:=hb _ _ hh;refine⟨.slice (some ⟨aA,off,none⟩) xs.length xs.length,?_,.iA I b_ (.aR a4 c9 pq ae al (b6 _) hf (λ_=>rfl))⟩;simp only[Instr.sliceAt,Instr.slice,run_underlying hu,er,ez,NN ao (kA _) (b6 _) qp,cj,hB];split<;>simp[j8]
def b0T{t e:TypeId}{R:Option Nat}(hu:P.underlying t=some (.slice e))(ak:shapeOf P e=some R){ol:Bool}{xs:List AV}{u:Value}(hx:az w m O B (.aR ol R xs) u)
  {bX hi:Option Value} {l h:Nat} (ao:jN 0 bX l) (hh:jN xs.length hi h) (h1:l<=h) (h2:h<=xs.length):
  ∃bW,(Instr.sliceAt t u bX hi none).run P w= .ok bW w/\az w m O B (.aR ol R ((xs.drop l).take (h-l))) bW:=by
 obtain⟨_,cj,_⟩:=j7 ak w;cases hx with
 |kB=>
  have aF:h=0:=by simpa using h2
  subst aF;have aV:l=0:=by omega
  subst aV;refine⟨.slice none 0 0,?_,?_⟩
  ·have:=rD (P:=P) (w:=w) (isSlice:=true) (len:=0) (cap:=0) ao hh (b6 0) (b6 0);simp[Instr.sliceAt,Instr.slice,run_underlying hu,this,cj]
  ·simpa using az.kB
 | @aR _ _ _ _ _ _ aA off ec sp a4 c9 pq ae al qp hf ei=>
  by_cases rK:xs=[]
  ·subst rK;have aF:h=0:=by simpa using h2
   subst aF;have aV:l=0:=by omega
   subst aV;refine⟨.slice (some ⟨aA,off,sp⟩) 0 ec,?_,?_⟩
   ·have:=rD (P:=P) (w:=w) (isSlice:=true) (len:=0) (cap:=ec) ao hh (b6 0) (kA _);simp[Instr.sliceAt,Instr.slice,run_underlying hu,this,cj,Addr.add]
   ·exact .aR (xs:=[]) (λ_ _=>undef) (λh=>absurd I h) (λi h=>by simp at h) (λi h=>by simp at h) (λi h=>by simp at h) (kA _) (λv au=>by simp at au) (λh=>absurd I h)
  obtain rfl:=ei rK;have hlen:((xs.drop l).take (h-l)).length=h-l:=by simp;omega
  have b5:(Instr.sliceAt t (.slice (some ⟨aA,off,none⟩) xs.length ec) bX hi none).run P w= .ok (.slice (some ⟨aA,if ec=l then off else off+l*shN R,none⟩) (h-l) (ec-l)) w:=by
   simp only[Instr.sliceAt,Instr.slice,run_underlying hu,er,ez,rD ao hh h1 (lE h2 qp),cj,hB];split<;>simp[j8]
  refine⟨_,b5,?_⟩;by_cases aZ:h-l=0
  ·have jP:(xs.drop l).take (h-l)=[]:=ou U;rw[jP,aZ];exact .aR (xs:=[]) (λ_ _=>undef) (λh=>absurd I h) (λi h=>by simp at h) (λi h=>by simp at h) (λi h=>by simp at h) (kA _) (λv au=>by simp at au) (λh=>absurd I h)
  ·have j9:¬ec=l:=by omega
   rw[if_neg j9];have fG:∀i (hi:i<((xs.drop l).take (h-l)).length),((xs.drop l).take (h-l))[i]=xs[l+i]'U:=λi hi=>by
    rw[Dl,Ni]
   have b_:xs≠[]:=λe=>by subst e;simp at h2;omega
   have key:az w m O B (.aR ol R ((xs.drop l).take (h-l))) (.slice (some ⟨aA,off+l*shN R,none⟩) ((xs.drop l).take (h-l)).length (ec-l)):=by
    refine .aR (λi j=>a4 (l+i) j) (λ_=>c9 b_) (λi hi=>?_) (λi hi j aG=>?_) (λi hi j aG=>?_) U (λv au=>hf v (nH (oo au))) (λ_=>rfl)
    ·rw[fG i hi];exact pq _ U
    ·simp only[fG i hi] at aG;have:=ae (l+i) U j aG;rw[<-this];congr 2;rw[jz];omega
    ·simp only[fG i hi] at aG ⊢;exact al (l+i) U j aG
   rw[hlen] at key;exact key
end
def Rel.zb{P:Program}{J:ag}{w:World}{m:Nat->Option Nat}{B:Nat}(al:Rel P J w m B):∀b,bh J m b->B<=b:=λ_ ⟨_,h,_⟩=>al.base _ _ h
structure Ctx(P:Program)(env:Env)(J:ag)(w:World)(m:Nat->Option Nat)(B:Nat)(aq:aY AV)(a:Act):Prop where
 rel:Rel P J w m B
 a5:iR w m (bh J m) B aq a.tmps.toList
 globs:Globs env w B
section
variable {P:Program}{env:Env}{J:ag}{w:World}{m:Nat->Option Nat}{B:Nat}{f:Nat}{aq:aY AV}{a:Act}
def Ctx.av(c:Ctx P env J w m B aq a){x:Operand}{bI:aH}(hx:opdOf x=some bI){v:AV}(au:evalA env aq bI=some v):az w m (bh J m) B v (a.eval x):=NJ c.rel.zb c.globs c.a5 hx au
def Ctx.mK(c:Ctx P env J w m B aq a){x:Option Operand}{bI:Option aH}(hx:opdO x=some bI){d n:Nat}(au:bndO (evalA env aq) bI d=some n):jN d (x.map a.eval) n:=a9s c.rel.zb c.globs c.a5 hx au
def b0U(c:Ctx P env J w m B aq a){r:Result Next}{v:AV}(h:∃u,r= .ok (.value u) w/\az w m (bh J m) B v u):fc P B f J w m v J r:=
 let⟨_,h1,h2⟩:=h;fc.pure c.rel h1 h2
def e7(c:Ctx P env J w m B aq a){s:Sem Value}{v:AV}(h:∃u,s.run P w= .ok u w/\az w m (bh J m) B v u):fc P B f J w m v J ((do pure (.value (←s)):Sem Next).run P w):=by
 obtain⟨u,h1,h2⟩:=h;exact fc.pure c.rel (by simp[h1]) h2
def pt{s:Sem Value}{v:AV}{af:ag}(h:∃u ax aK,s.run P w= .ok u ax/\az ax aK (bh af aK) B v u/\Rel P af ax aK B/\Ext f J w m af ax aK):fc P B f J w m v af ((do pure (.value (←s)):Sem Next).run P w):=by
 obtain⟨u,ax,aK,h1,h2,h3,aN⟩:=h;exact⟨u,ax,aK,.inl (by simp[h1]),h2,h3,aN⟩
def IY{s:Sem Unit}{af:ag}(h:∃ax,s.run P w= .ok () ax/\Rel P af ax m B/\Ext f J w m af ax m):fc P B f J w m c4 af ((do s;pure .skip:Sem Next).run P w):=by
 obtain⟨ax,h1,h2,h3⟩:=h;exact⟨undef,ax,m,.inr ⟨by simp[h1],rfl⟩,az.undef,h2,h3⟩
variable {o:Oper}{cA:AOp}{v:AV}{af:ag}
def Wh(c:Ctx P env J w m B aq a){x:Operand}(ho:o.op= .move x\/o.op= .assign x)(ae:cop P o=some cA)(h:opx f (evalA env aq) J cA=some (.val v af)):fc P B f J w m v af ((execOp a.eval o).run P w):=by
 have hx:∃bI,opdOf x=some bI/\cA= .cD bI:=by
  unfold cop at ae;rcases ho with ho|ho<;>(rw[ho] at ae;simp only[eE] at ae;obtain⟨bI,h1,rfl⟩:=ae;exact⟨bI,h1,rfl⟩)
 obtain⟨bI,hx,rfl⟩:=hx;simp only[opx] at h;split at h<;>cases h;rename_i au;have e:execOp a.eval o=pure (.value (a.eval x)):=by unfold execOp;rcases ho with ho|ho<;>rw[ho]
 rw[e];exact fc.pure c.rel I (c.av hx au)
def b0V(c:Ctx P env J w m B aq a){x y z:Operand}(ho:o.op= .pick x y z)(ae:cop P o=some cA)(h:opx f (evalA env aq) J cA=some (.val v af)):fc P B f J w m v af ((execOp a.eval o).run P w):=by
 simp only[cop,ho,dV,dy,ee,cw] at ae;obtain⟨bI,hx,ew,aI,c3W,aZ,rfl⟩:=ae;simp only[opx] at h;split at h<;>try (cases h;done)
 rename_i t ht;split at h<;>cases h;rename_i au;have hb:=(c.av hx ht).wU;simp only[execOp,ho];refine b0U c ⟨if t then a.eval y else a.eval z,by simp[hb];cases t<;>rfl,?_⟩;cases t with
 |true=>exact c.av aI au
 |false=>exact c.av aZ au
def b0W(c:Ctx P env J w m B aq a){t:TypeId}(ho:o.op= .alloc t)(ae:cop P o=some cA)(h:opx f (evalA env aq) J cA=some (.val v af)):fc P B f J w m v af ((execOp a.eval o).run P w):=by
 simp only[cop,ho,eE] at ae;obtain⟨z,aZ,rfl⟩:=ae;simp only[opx] at h;cases h;simp only[execOp,ho];exact pt (a8Y c.rel aZ)
def b0X(c:Ctx P env J w m B aq a){t:TypeId}{x:Operand}(ho:o.op= .box t x)(ae:cop P o=some cA)(h:opx f (evalA env aq) J cA=some (.val v af)):fc P B f J w m v af ((execOp a.eval o).run P w):=by
 simp only[cop,ho,eE] at ae;obtain⟨bI,hx,rfl⟩:=ae;simp only[opx] at h;split at h<;>try (cases h;done)
 rename_i a_ au;cases hval:a_.val with
 |false=>rw[hval] at h;cases h
 |true=>
  rw[hval,cond_true] at h;cases h;simp only[execOp,ho];exact pt (a8W c.rel (c.av hx au) (NP (c.av hx au) hval))
def b0Y(c:Ctx P env J w m B aq a){t:TypeId}{x:Operand}(ho:o.op= .load t x)(ae:cop P o=some cA)(h:opx f (evalA env aq) J cA=some (.val v af)):fc P B f J w m v af ((execOp a.eval o).run P w):=by
 simp only[cop,ho,dV,dy,ee,cw] at ae;obtain⟨R,ak,bI,hx,rfl⟩:=ae;simp only[opx] at h;simp only[execOp,ho];split at h<;>try (cases h;done)
 rename_i p ay;split at h<;>cases h;rename_i au;exact e7 c (a8T c.rel ak (c.av hx ay) au)
def b0Z(c:Ctx P env J w m B aq a){t:TypeId}{x y:Operand}(ho:o.op= .store t x y)(ae:cop P o=some cA)(h:opx f (evalA env aq) J cA=some (.val v af)):fc P B f J w m v af ((execOp a.eval o).run P w):=by
 simp only[cop,ho,dV,dy,ee,cw] at ae;obtain⟨R,ak,bI,hx,ew,aI,rfl⟩:=ae;simp only[opx] at h;simp only[execOp,ho];split at h<;>try (cases h;done)
 rename_i id off a_ ay au;split at h<;>try (cases h;done)
 rename_i dP;split at h<;>try (cases h;done)
 rename_i tf;split at h<;>try (cases h;done)
 rotate_left
 ·rename_i cs r hg;unfold pd at h;split at h<;>cases h;rename_i bn cR;obtain⟨aA,hm,lJ⟩:=(c.av hx ay).u1;rw[lJ];exact IY (a8V c.rel ak (by simpa [gD] using dP) hm hg tf cR (c.av aI au))
 rename_i cs hg;split at h<;>cases h;rename_i bn cR;obtain⟨aA,hm,lJ⟩:=(c.av hx ay).u1;rw[lJ];exact IY (a8U c.rel ak (by simpa [gD] using dP) hm hg tf cR (c.av aI au))
def b1a(c:Ctx P env J w m B aq a){x:Operand}(ho:o.op= .nilCheck x)(ae:cop P o=some cA)(h:opx f (evalA env aq) J cA=some (.val v af)):fc P B f J w m v af ((execOp a.eval o).run P w):=by
 simp only[cop,ho,eE] at ae;obtain⟨bI,hx,rfl⟩:=ae;simp only[opx] at h;split at h<;>try (cases h;done)
 rename_i a_ au;cases hn:nilOk a_ with
 |false=>rw[hn] at h;cases h
 |true=>
  rw[hn,cond_true] at h;cases h;exact fc.pure c.rel (a9A ho (c.av hx au) hn) (c.av hx au)
def b1b(c:Ctx P env J w m B aq a){op:UnOp}{t:TypeId}{x:Operand}(ho:o.op= .unOp op t x)(ae:cop P o=some cA)(h:opx f (evalA env aq) J cA=some (.val v af)):fc P B f J w m v af ((execOp a.eval o).run P w):=by
 simp only[execOp,ho];cases op<;>simp only[cop,ho,eE,reduceCtorEq] at ae
 ·obtain⟨bI,hx,rfl⟩:=ae;simp only[opx] at h;split at h<;>cases h;rename_i au;exact e7 c ⟨_,a9C (c.av hx au),.i _ _⟩
 ·obtain⟨bI,hx,rfl⟩:=ae;simp only[opx] at h;split at h<;>cases h;rename_i au;exact e7 c ⟨_,a9B (c.av hx au),.b _⟩
def Wi:∀ {a7 nR:List Nat} {l r:List AV} {res:Bool},mz (a7++nR) l r=some res->∃a b,mz a7 (l.take a7.length) (r.take a7.length)=some a/\mz nR (l.drop a7.length) (r.drop a7.length)=some b/\res=(a&&b)
 |[],nR,l,r,res,h=>⟨true,res,rfl,by simpa using h,aT⟩
 |k::a7,nR,l,r,res,h=>by
  rw[qz,leafEqs_cons] at h;split at h<;>try (cases h;done)
  rename_i x xs y a4;split at h<;>cases h;rename_i a b ha hb;obtain⟨cC,eY,h1,h2,rfl⟩:=Wi hb;refine⟨a&&cC,eY,?_,h2,by rw[Bool.and_assoc]⟩;rw[gS,Ok,Ok,leafEqs_cons];simp only[ha,h1]
def Ou{d:Nat}{cs ds:List AV}{us a8:Array Value}{O:Nat->Prop}(ao:bF w m O B cs us.toList)(al:bF w m O B ds a8.toList)(dP:∀x∈cs,conf none x=true)(bE:∀x∈ds,conf none x=true):
  ∀(bO:List Field) (i:Nat) (a7:List Nat) (res:Bool),flatS P i bO=some a7->mz a7 (cs.drop i) (ds.drop i)=some res->∀ax,
  (forIn bO ((none:Option Bool),()) (λ(f:Field) (_:Option Bool×Unit)=>
      if f.name= "_" then(pure (ForInStep.yield (none,())):Sem (ForInStep (Option Bool×Unit)))
      else do
       let a <-part f.type us f.offset
       let b <-part f.type a8 f.offset
       let c <-Op.equalIn (d+2) f.type a b
       if c=false then pure (ForInStep.done (some false,())) else pure (ForInStep.yield (none,())))).run P ax= .ok (if res then(none,()) else(some false,())) ax
 |[],i,a7,res,aC,h,ax=>by
  rw[flatS] at aC;cases aC;rw[leafEqs_nil] at h;split at h<;>cases h;simp
 |f::bO,i,a7,res,aC,h,ax=>by
  rw[flatS] at aC;split at aC<;>try (cases aC;done)
  rename_i ae;obtain⟨h1,rfl⟩:=ae;split at aC
  ·rename_i k ik;split at aC<;>try (cases aC;done)
   rename_i ak;obtain⟨l2,qq,rfl⟩:=eE.1 aC;rw[leafEqs_cons] at h;split at h<;>try (cases h;done)
   rename_i x xs y a4 ex Wj;split at h<;>cases h;rename_i a b ha hb;obtain⟨u,hu,h7⟩:=(ao.drop f.offset).get (i:=0) (v:=x) (by rw[ex];rfl);obtain⟨v,au,N7⟩:=(al.drop f.offset).get (i:=0) (v:=y) (by rw[Wj];rfl);rw[ri,yD,mr] at hu au;obtain⟨aF,_⟩:=y3 ik h7 N7 ha;have ar:=Ou ao al dP bE bO (f.offset+1) l2 b qq (by rw[<-ov,← ov,ex,Wj];exact hb) ax (d:=d);rw[H4];simp only[h1,if_false,er,DR ak hu,DR ak au,ez,aF];cases a with
   |false=>simp
   |true=>simpa using ar
  ·split at aC<;>try (cases aC;done)
   rename_i nR Ov;split at aC<;>try (cases aC;done)
   rename_i ak;obtain⟨l2,qq,rfl⟩:=eE.1 aC;obtain⟨a,b,ha,hb,rfl⟩:=Wi h;obtain⟨cn,ct,_⟩:=j7 ak ax;have hx:∀ {cs:List AV} {us:Array Value},bF w m O B cs us.toList->(part f.type us f.offset).run P ax= .ok (.agg (us.extract f.offset (f.offset+nR.length))) ax/\bF w m O B ((cs.drop f.offset).take nR.length) (us.extract f.offset (f.offset+nR.length)).toList:=λae=>by
    refine⟨by simp[part,cn,ct,shN],?_⟩;have:=(ae.drop f.offset).take nR.length;simpa using this
   obtain⟨p1,lf⟩:=hx ao;obtain⟨p2,l0⟩:=hx al;obtain⟨gT,hu,rL,hf,hm⟩:=IQ Ov;have aF:(Op.equalIn (d+2) f.type (.agg (us.extract f.offset (f.offset+nR.length))) (.agg (a8.extract f.offset (f.offset+nR.length)))).run P ax= .ok a ax:=by
    have:=forIn_eq (ax:=ax) (d:=d) gT.toList 0 nR _ _ (us.extract f.offset (f.offset+nR.length)) (a8.extract f.offset (f.offset+nR.length)) a hf hm (by rw[y_];exact lf) (by rw[y_];exact l0) ha;rw[eqStruct_run hu rL (d+1),this];cases a<;>simp
   have ar:=Ou ao al dP bE bO (f.offset+nR.length) l2 b qq (by rw[<-ov,← ov];exact hb) ax (d:=d);rw[H4];simp only[h1,if_false,er,p1,p2,ez,aF];cases a with
   |false=>simp
   |true=>simpa using ar
def b1c{O:Nat->Prop}{t:TypeId}{kind:Nat}(aC:stK P t=some kind){x y:AV}{v:Bool}{a b:Value}(ha:az w m O B x a)(hb:az w m O B y b)(h:isNilEq kind x y=some v)(fr gw:Operand):
  (((do eqGuard .eql t fr gw a b;Go.binOp .eql t a b:Sem Value).run P w= .ok (.bool v) w/\(do eqGuard .neq t fr gw a b;Go.binOp .neq t a b:Sem Value).run P w= .ok (.bool (!v)) w)):=by
 unfold stK at aC;split at aC<;>try (cases aC;done)
 rename_i bO hu;split at aC<;>try (cases aC;done)
 rename_i rL;have rL:P.stoodInHeld t=false:=by simpa using rL
 split at aC<;>try (cases aC;done)
 rename_i a7 Ov;split at aC<;>cases aC;rename_i an;obtain⟨an,hg⟩:=an;have key:keyEq (.inr a7) x y=some v:=by
  unfold isNilEq at h;split at h
  case h_12=>
   have e:Nat.ble 10 (10+Ig a7)=true:=hO (Nat.le_add_right _ _);rw[e,cond_true,Nat.add_sub_cancel_left,an] at h;exact h
  case h_13=>cases h
  all_goals (rename_i aZ;first|(exfalso;omega)|(rename_i il _;exfalso;omega)|(rename_i il _ _;exfalso;omega))
 simp only[keyEq] at key;split at key<;>try (cases key;done)
 obtain⟨us,rfl,ao,dP⟩:=ha.qo;obtain⟨a8,rfl,al,bE⟩:=hb.qo;have he:(Op.equal t (.agg us) (.agg a8)).run P w= .ok v w:=by
  have b1d:∀d,(Op.equalIn (d+3) t (.agg us) (.agg a8)).run P w= .ok v w:=λd=>by
   have:=Ou (ax:=w) (d:=d) ao al dP bE bO.toList 0 a7 v Ov (by simpa using key);rw[eqStruct_run hu rL (d+2),this];cases v<;>simp
  exact b1d 9997
 have h1:Go.binOp .eql t (.agg us) (.agg a8)=(do pure (.bool (←Op.equal t (.agg us) (.agg a8))):Sem Value):=rfl;have h2:Go.binOp .neq t (.agg us) (.agg a8)=(do pure (.bool (!(←Op.equal t (.agg us) (.agg a8)))):Sem Value):=rfl;have g:∀op,(eqGuard op t fr gw (.agg us) (.agg a8)).run P w= .ok () w:=λop=>by
  unfold eqGuard;cases op<;>simp[hg]
 constructor
 ·rw[h1];simp[er,g,he]
 ·rw[h2];simp[er,g,he]
def b1e(c:Ctx P env J w m B aq a){op:BinOp}{t:TypeId}{x y:Operand}{z:TypeId}(ho:o.op= .binOp op t x y z)(ae:cop P o=some cA)(h:opx f (evalA env aq) J cA=some (.val v af)):fc P B f J w m v af ((execOp a.eval o).run P w):=by
 simp only[cop,ho,dV,dy] at ae;obtain⟨bI,hx,ew,aI,ae⟩:=ae;simp only[execOp,ho];have plain:cA= .bin op bI ew->fc P B f J w m v af ((do pure (.value (←(do eqGuard op t x y (a.eval x) (a.eval y);Go.binOp op t (a.eval x) (a.eval y)))):Sem Next).run P w):=λe=>by
  subst e;simp only[opx] at h;split at h<;>try (cases h;done)
  rename_i p q ay aP;split at h<;>cases h;rename_i au;obtain⟨u,h1,h2,h3⟩:=ok_bin (P:=P) (t:=t) (c.av hx ay) (c.av aI aP) au;exact e7 c ⟨u,by rw[h3 x y];exact h1,h2⟩
 have Wl:∀neg,P.underlying t=some .bool->op=(if neg then .neq else .eql)->cA= .A1 neg bI ew->fc P B f J w m v af ((do pure (.value (←(do eqGuard op t x y (a.eval x) (a.eval y);Go.binOp op t (a.eval x) (a.eval y)))):Sem Next).run P w):=λneg ht eO e=>by
  subst e;simp only[opx] at h;split at h<;>try (cases h;done)
  rename_i p q ay aP;split at h<;>cases h;rename_i b au;obtain⟨h1,h2⟩:=a9f ht (c.av hx ay) (c.av aI aP) au x y;cases neg with
  |false=>subst eO;exact e7 c ⟨_,h1,.b _⟩
  |true=>subst eO;exact e7 c ⟨_,h2,.b _⟩
 have tg:∀kind neg,Vu P t kind->op=(if neg then .neq else .eql)->cA= .my kind neg bI ew->fc P B f J w m v af ((do pure (.value (←(do eqGuard op t x y (a.eval x) (a.eval y);Go.binOp op t (a.eval x) (a.eval y)))):Sem Next).run P w):=λkind neg ht eO e=>by
  subst e;simp only[opx] at h;split at h<;>try (cases h;done)
  rename_i p q ay aP;split at h<;>cases h;rename_i b au;obtain⟨h1,h2⟩:=a9h ht (c.av hx ay) (c.av aI aP) au x y;cases neg with
  |false=>subst eO;exact e7 c ⟨_,h1,.b _⟩
  |true=>subst eO;exact e7 c ⟨_,h2,.b _⟩
 have strs:∀kind neg,stK P t=some kind->op=(if neg then .neq else .eql)->cA= .my kind neg bI ew->fc P B f J w m v af ((do pure (.value (←(do eqGuard op t x y (a.eval x) (a.eval y);Go.binOp op t (a.eval x) (a.eval y)))):Sem Next).run P w):=λkind neg ht eO e=>by
  subst e;simp only[opx] at h;split at h<;>try (cases h;done)
  rename_i p q ay aP;split at h<;>cases h;rename_i b au;obtain⟨h1,h2⟩:=b1c ht (c.av hx ay) (c.av aI aP) au x y;cases neg with
  |false=>subst eO;exact e7 c ⟨_,h1,.b _⟩
  |true=>subst eO;exact e7 c ⟨_,h2,.b _⟩
 split at ae
 case h_15=>obtain⟨k,aC,rfl⟩:=eE.1 ae;exact strs k false aC I I
 case h_16=>obtain⟨k,aC,rfl⟩:=eE.1 ae;exact strs k true aC I I
 case h_17=>cases ae
 all_goals cases ae
 ·exact plain I
 ·exact plain I
 ·rename_i ht;exact Wl false ht I I
 ·rename_i ht;exact Wl true ht I I
 ·rename_i ht;exact tg 0 false (.inl ⟨rfl,_,ht⟩) I I
 ·rename_i ht;exact tg 0 true (.inl ⟨rfl,_,ht⟩) I I
 ·rename_i ht;exact tg 1 false (.inr (.inl ⟨rfl,_,ht⟩)) I I
 ·rename_i ht;exact tg 1 true (.inr (.inl ⟨rfl,_,ht⟩)) I I
 ·rename_i ht;exact tg 2 false (.inr (.inr (.inl ⟨rfl,_,_,_,ht⟩))) I I
 ·rename_i ht;exact tg 2 true (.inr (.inr (.inl ⟨rfl,_,_,_,ht⟩))) I I
 ·rename_i ht;exact tg 3 false (.inr (.inr (.inr (.inl ⟨rfl,_,ht⟩)))) I I
 ·rename_i ht;exact tg 3 true (.inr (.inr (.inr (.inl ⟨rfl,_,ht⟩)))) I I
 ·rename_i ht;exact tg 4 false (.inr (.inr (.inr (.inr ⟨rfl,_,_,ht⟩)))) I I
 ·rename_i ht;exact tg 4 true (.inr (.inr (.inr (.inr ⟨rfl,_,_,ht⟩)))) I I
def Wm{P:Program}{t:TypeId}(h:isU8 P t=true):P.underlying t=some (.int .u8):=by
 unfold isU8 at h;split at h
 ·assumption
 ·cases h
def b1f(c:Ctx P env J w m B aq a){s d:TypeId}{x:Operand}(ho:o.op= .convert s d x)(ae:cop P o=some cA)(h:opx f (evalA env aq) J cA=some (.val v af)):fc P B f J w m v af ((execOp a.eval o).run P w):=by
 simp only[cop,ho] at ae;simp only[execOp,ho];split at ae
 ·rename_i fg k ak an;simp only[eE] at ae;obtain⟨bI,hx,rfl⟩:=ae;simp only[opx] at h;split at h
  ·cases h;rename_i au;exact e7 c ⟨_,a9D ak an (c.av hx au),.i _ _⟩
  ·rename_i au;split at h<;>cases h;obtain⟨n,h1,h2⟩:=a9E ak an (c.av hx au);exact e7 c ⟨_,h1,h2⟩
  ·cases h
 ·rename_i e ak an;split at ae<;>try (cases ae;done)
  rename_i Ow;simp only[eE] at ae;obtain⟨bI,hx,rfl⟩:=ae;simp only[opx] at h;split at h<;>cases h;rename_i l au;exact pt (b0A c.rel f ak an (Wm Ow) (c.av hx au))
 ·rename_i e ak an;split at ae<;>try (cases ae;done)
  rename_i Ow;simp only[eE] at ae;obtain⟨bI,hx,rfl⟩:=ae;simp only[opx] at h;split at h<;>try (cases h;done)
  rename_i Wn au;split at h<;>try (cases h;done)
  rename_i xs Ox;split at h<;>cases h;rename_i l ao;obtain⟨h1,h2⟩:=b0B c.rel ak (Wm Ow) an (c.av hx au) Ox ao;exact e7 c ⟨_,h1,.s _ h2⟩
 ·cases ae
def b1g(c:Ctx P env J w m B aq a){t:TypeId}{x:Operand}(ho:o.op= .makeInterface t x)(ae:cop P o=some cA)(h:opx f (evalA env aq) J cA=some (.val v af)):fc P B f J w m v af ((execOp a.eval o).run P w):=by
 simp only[cop,ho] at ae;simp only[execOp,ho];split at ae<;>try (cases ae;done)
 rename_i d b_ an;simp only[eE] at ae;obtain⟨bI,hx,rfl⟩:=ae;simp only[opx] at h;split at h<;>cases h;rename_i au;exact e7 c ⟨_,a9F an (λms e=>b_ ms e) _,.it (c.av hx au)⟩
def b1h(c:Ctx P env J w m B aq a){fn:Fn}{xs a4:Array Operand}(ho:o.op= .makeFunc fn xs a4)(ae:cop P o=some cA)(h:opx f (evalA env aq) J cA=some (.val v af)):fc P B f J w m v af ((execOp a.eval o).run P w):=by
 simp only[cop,ho] at ae;simp only[execOp,ho];split at ae<;>try (cases ae;done)
 rename_i g;simp only[dV,dy,ee,cw] at ae;obtain⟨bI,hx,ew,aI,rfl⟩:=ae;simp only[opx] at h;split at h<;>cases h;rename_i p q ay aP;have h1:=DE c.rel.zb c.globs c.a5 hx ay;have h2:=DE c.rel.zb c.globs c.a5 aI aP;have aF:=h1.1;have aV:=h2.1;simp at aF aV;refine e7 c ⟨_,rfl,.na (by simpa using aF) (λi a b=>?_) (by simpa using aV) (λi a b=>?_)⟩
 ·have:=h1.2 i a (by simpa using b);simpa using this
 ·have:=h2.2 i a (by simpa using b);simpa using this
def b1i(c:Ctx P env J w m B aq a){t:TypeId}{r:Option Operand}(ho:o.op= .makeMap t r)(ae:cop P o=some cA)(h:opx f (evalA env aq) J cA=some (.val v af)):fc P B f J w m v af ((execOp a.eval o).run P w):=by
 simp only[cop,ho] at ae;simp only[execOp,ho];have key:(Instr.makeMap t (r.map a.eval)).run P w= .ok (.map (some w.heap.size)) {w with heap:=w.heap.push (.map #[] 0)}/\cA= .mkMap:=by
  split at ae<;>cases ae
  ·exact⟨by simp[Instr.makeMap],rfl⟩
  ·rename_i ht;exact⟨by simp[Instr.makeMap,run_underlying ht,Act.eval,asInt,asIntOf],rfl⟩
 obtain⟨key,rfl⟩:=key;simp only[opx] at h;cases h;obtain⟨h1,h2⟩:=c.rel.alloc f {w with heap:=w.heap.push (.map #[] 0)} (.map [] 0) (.map #[] 0) I I I I I (.map I (λi h=>by simp at h));exact pt ⟨_,_,_,key,.mp (hF _ _ _),h1,h2⟩
end
def DV{x:Option Operand}{bI:Option aH}(h:opdO x=some bI):bI.isSome=x.isSome:=by
 cases x with
 |none=>cases h;rfl
 |some x=>
  simp only[opdO] at h;split at h<;>cases h;rfl
section
variable {P:Program}{env:Env}{J:ag}{w:World}{m:Nat->Option Nat}{B:Nat}{f:Nat}{aq:aY AV}{a:Act}{o:Oper}{cA:AOp}{v:AV}{af:ag}
def b1j(c:Ctx P env J w m B aq a){t:TypeId}{aE:Array (Nat×Operand)}(ho:o.op= .build t aE)(ae:cop P o=some cA)(h:opx f (evalA env aq) J cA=some (.val v af)):fc P B f J w m v af ((execOp a.eval o).run P w):=by
 simp only[cop,ho,dV,dy] at ae;obtain⟨IZ,aZ,ae⟩:=ae;simp only[execOp,ho];split at ae<;>try (cases ae;done)
 rename_i z;split at ae
 ·rename_i bO hu;split at ae<;>try (cases ae;done)
  rename_i b1k;simp only[dV,dy,ee,cw] at ae;obtain⟨l,ao,rfl⟩:=ae;simp only[opx] at h;split at h<;>cases h;rename_i cs th;refine e7 c (a9M hu (a9Z b1k) aZ (aE:=l) ?_ th);rw[uS];refine DK (λp q hH=>?_) ao;split at hH<;>cases hH;rename_i off R x h1 h2;exact⟨⟨R,h1,rfl⟩,λv au=>c.av h2 au⟩
 ·rename_i n e hu;simp only[dV,dy,ee,cw] at ae;obtain⟨R,ak,l,ao,rfl⟩:=ae;simp only[opx] at h;split at h<;>cases h;rename_i cs th;refine e7 c (a9O hu ak aZ (aE:=l) ?_ th);rw[uS];refine DK (λp q hH=>?_) ao;split at hH<;>cases hH;rename_i x h2;exact⟨⟨rfl,rfl⟩,λv au=>c.av h2 au⟩
 ·cases ae
def Br{t e:TypeId}{R:Option Nat}(h:elemOf' P t=some (e,R)):P.underlying t=some (.slice e)/\shapeOf P e=some R:=by
 unfold elemOf' at h;split at h<;>try (cases h;done)
 rename_i cp hu;split at h<;>cases h;rename_i ak;exact⟨hu,ak⟩
def b1l(c:Ctx P env J w m B aq a){t:TypeId}{n:Nat}{aE:Array (Nat×Operand)}(ho:o.op= .buildSlice t n aE)(ae:cop P o=some cA)(h:opx f (evalA env aq) J cA=some (.val v af)):fc P B f J w m v af ((execOp a.eval o).run P w):=by
 simp only[cop,ho,dV,dy] at ae;obtain⟨⟨e,R⟩,he,z,aZ,l,ao,ae⟩:=ae;split at ae<;>cases ae;rename_i fz;obtain⟨hu,ak⟩:=Br he;simp only[opx] at h;split at h<;>cases h;rename_i cs th;simp only[execOp,ho];refine pt (a9P c.rel hu ak aZ fz.2 fz.1 ?_ th);rw[uS];have:=DK (g:=λ(x:Nat×Operand)=>(x.1,a.eval x.2)) (r:=λ(p:Nat×aH) (q:Nat×Value)=>p.1=q.1/\∀v,evalA env aq p.2=some v->az w m (bh J m) B v q.2) (λp q hH=>by
  split at hH<;>cases hH;rename_i x h2;exact⟨rfl,λv au=>c.av h2 au⟩) ao
 revert this;generalize aE.toList.map (λ(x:Nat×Operand)=>(x.1,a.eval x.2))=gV;clear th ao
 induction l generalizing gV with
 |nil=>cases gV<;>exact id
 |cons p l ar=>
  cases gV with
  |nil=>exact id
  |cons q gV=>
   rintro⟨⟨h1,h2⟩,h3⟩;exact⟨⟨⟨h1,rfl⟩,h2⟩,ar gV h3⟩
def Wo(c:Ctx P env J w m B aq a){t:TypeId}{x k y:Operand}(ho:o.op= .mapUpdate t x k y\/o.op= .insert t x k y)(ae:cop P o=some cA)(h:opx f (evalA env aq) J cA=some (.val v af)):fc P B f J w m v af ((execOp a.eval o).run P w):=by
 have e:execOp a.eval o=(do Instr.mapUpdate t (a.eval x) (a.eval k) (a.eval y);pure .skip:Sem Next):=by unfold execOp;rcases ho with ho|ho<;>rw[ho]
 have rI:∃mC zc R bI DW ew,P.underlying t=some (.map mC zc)/\keyOk P mC=some R/\opdOf x=some bI/\opdOf k=some DW/\opdOf y=some ew/\cA= .ox R bI DW ew:=by
  unfold cop at ae;rcases ho with ho|ho<;>
  ·rw[ho] at ae;simp only at ae;split at ae<;>try (cases ae;done)
   rename_i mC zc hu;simp only[dV,dy,ee,cw] at ae;obtain⟨R,ak,bI,hx,DW,aC,ew,aI,rfl⟩:=ae;exact⟨mC,zc,R,bI,DW,ew,hu,ak,hx,aC,aI,rfl⟩
 obtain⟨mC,zc,R,bI,DW,ew,hu,ak,hx,aC,aI,rfl⟩:=rI;rw[e];simp only[opx] at h;split at h<;>try (cases h;done)
 rename_i id c3X iY ay Wp l4;split at h<;>try (cases h;done)
 rename_i dP;split at h<;>try (cases h;done)
 rename_i es aU hg;split at h<;>try (cases h;done)
 rename_i VZ ng;obtain⟨aA,hm,lJ⟩:=(c.av hx ay).Ix;rw[lJ];split at h<;>cases h
 ·rename_i k2 Oy;exact IY (VX c.rel hu ak (by simpa [gD] using dP) hm hg (c.av aC Wp) (c.av aI l4) ng Oy)
 ·rename_i Oy;exact IY (VX c.rel hu ak (by simpa [gD] using dP) hm hg (c.av aC Wp) (c.av aI l4) ng Oy)
def b1m(c:Ctx P env J w m B aq a){t:TypeId}{x:Operand}{i:Nat}(ho:o.op= .fieldAddr t x i)(ae:cop P o=some cA)(h:opx f (evalA env aq) J cA=some (.val v af)):fc P B f J w m v af ((execOp a.eval o).run P w):=by
 simp only[cop,ho,dV,dy,ee,cw] at ae;obtain⟨⟨off,R⟩,hf,bI,hx,rfl⟩:=ae;simp only[opx] at h;split at h<;>try (cases h;done)
 rename_i ay;split at h<;>cases h;rename_i au;simp only[execOp,ho];exact e7 c (a9j hf (c.av hx ay) au)
def b1n(c:Ctx P env J w m B aq a){t:TypeId}{x:Operand}{i:Nat}(ho:o.op= .field t x i)(ae:cop P o=some cA)(h:opx f (evalA env aq) J cA=some (.val v af)):fc P B f J w m v af ((execOp a.eval o).run P w):=by
 simp only[cop,ho,dV,dy,ee,cw] at ae;obtain⟨⟨off,R⟩,hf,bI,hx,rfl⟩:=ae;simp only[opx] at h;split at h<;>try (cases h;done)
 rename_i ay;split at h<;>cases h;rename_i au;simp only[execOp,ho];exact e7 c (a9k hf (c.av hx ay) au)
def b1o(c:Ctx P env J w m B aq a){t:TypeId}{x y:Operand}(ho:o.op= .indexAddr t x y)(ae:cop P o=some cA)(h:opx f (evalA env aq) J cA=some (.val v af)):fc P B f J w m v af ((execOp a.eval o).run P w):=by
 simp only[cop,ho] at ae;simp only[execOp,ho];split at ae
 ·rename_i n e hu;simp only[dV,dy,ee,cw] at ae;obtain⟨R,ak,bI,hx,ew,aI,rfl⟩:=ae;simp only[opx] at h;split at h<;>try (cases h;done)
  rename_i p j ay aG;split at h<;>try (cases h;done)
  rename_i Oz zd;split at h<;>try (cases h;done)
  rename_i hlt;split at h<;>cases h;rename_i au;obtain⟨k,rfl⟩:=DF zd;have ze:=(c.av aI aG).lg;rw[ze];exact e7 c (a9l hu ak (c.av hx ay) (by simpa [gD] using hlt) au)
 ·rename_i e hu;simp only[dV,dy,ee,cw] at ae;obtain⟨R,ak,bI,hx,ew,aI,rfl⟩:=ae;simp only[opx] at h;split at h<;>try (cases h;done)
  rename_i p j ay aG;split at h<;>try (cases h;done)
  rename_i Oz zd;split at h<;>cases h;rename_i au;obtain⟨k,rfl⟩:=DF zd;have ze:=(c.av aI aG).lg;rw[ze];exact e7 c (a9m hu ak (c.av hx ay) au)
 ·cases ae
def b1p(c:Ctx P env J w m B aq a){t:TypeId}{x y:Operand}(ho:o.op= .index t x y)(ae:cop P o=some cA)(h:opx f (evalA env aq) J cA=some (.val v af)):fc P B f J w m v af ((execOp a.eval o).run P w):=by
 simp only[cop,ho] at ae;simp only[execOp,ho];split at ae
 ·rename_i n e hu;simp only[dV,dy,ee,cw] at ae;obtain⟨R,ak,bI,hx,ew,aI,rfl⟩:=ae;simp only[opx] at h;split at h<;>try (cases h;done)
  rename_i cs j ay aG;split at h<;>try (cases h;done)
  rename_i Oz zd;split at h<;>try (cases h;done)
  rename_i hlt;split at h<;>cases h;rename_i au;obtain⟨k,rfl⟩:=DF zd;have ze:=(c.av aI aG).lg;rw[ze];exact e7 c (a9p hu ak (c.av hx ay) (by simpa [gD] using hlt) au)
 ·rename_i hu;simp only[dV,dy,ee,cw] at ae;obtain⟨bI,hx,ew,aI,rfl⟩:=ae;simp only[opx] at h;split at h<;>try (cases h;done)
  rename_i l j ay aG;split at h<;>try (cases h;done)
  rename_i Oz zd;split at h<;>cases h;rename_i mL au;obtain⟨k,rfl⟩:=DF zd;have ze:=(c.av aI aG).lg;rw[ze];exact e7 c ⟨_,a9o hu (c.av hx ay) au,.i _ _⟩
 ·cases ae
def b1q(c:Ctx P env J w m B aq a){t:TypeId}{x y:Operand}{two:Bool}(ho:o.op= .lookup t x y two)(ae:cop P o=some cA)(h:opx f (evalA env aq) J cA=some (.val v af)):fc P B f J w m v af ((execOp a.eval o).run P w):=by
 simp only[cop,ho] at ae;simp only[execOp,ho];split at ae<;>try (cases ae;done)
 rename_i mC e hu;simp only[dV,dy,ee,cw] at ae;obtain⟨R,ak,bI,hx,ew,aI,z,aZ,rfl⟩:=ae;simp only[opx] at h;split at h<;>try (cases h;done)
 rename_i p j ay aG;split at h<;>cases h;rename_i au;exact e7 c (b0u c.rel hu ak aZ two (c.av hx ay) (c.av aI aG) au)
def b1r(c:Ctx P env J w m B aq a){t NO:TypeId}{x:Operand}{two:Bool}(ho:o.op= .typeAssert x NO t two)(ae:cop P o=some cA)(h:opx f (evalA env aq) J cA=some (.val v af)):fc P B f J w m v af ((execOp a.eval o).run P w):=by
 simp only[cop,ho] at ae;simp only[execOp,ho];split at ae<;>try (cases ae;done)
 rename_i d b_ an;simp only[dV,dy,ee,cw] at ae;obtain⟨bI,hx,z,aZ,rfl⟩:=ae;simp only[opx] at h;split at h<;>try (cases h;done)
 rename_i p ay;split at h<;>cases h;rename_i au;exact e7 c (a9G an (λms e=>b_ ms e) aZ (c.av hx ay) au)
def b1s(c:Ctx P env J w m B aq a){x:Operand}{i:Nat}(ho:o.op= .extract x i)(ae:cop P o=some cA)(h:opx f (evalA env aq) J cA=some (.val v af)):fc P B f J w m v af ((execOp a.eval o).run P w):=by
 simp only[cop,ho,dV,dy,ee,cw] at ae;obtain⟨bI,hx,rfl⟩:=ae;simp only[opx] at h;split at h<;>try (cases h;done)
 rename_i l ay;split at h<;>cases h;rename_i au;simp only[execOp,ho];exact e7 c (a9q (c.av hx ay) au)
def Wq{d:Nat}{x:Option Value}{n:Nat}(h:jN d x n)(ak:x.isSome=true):∃k,x=some (.int k (Int.ofNat n)):=by
 cases h with
 |none=>simp at ak
 |some k n=>exact⟨k,rfl⟩
def b1t(c:Ctx P env J w m B aq a){t:TypeId}{x:Operand}{bX hi cI:Option Operand}(ho:o.op= .slice t x bX hi cI)(ae:cop P o=some cA)(h:opx f (evalA env aq) J cA=some (.val v af)):fc P B f J w m v af ((execOp a.eval o).run P w):=by
 simp only[cop,ho,dV,dy] at ae;obtain⟨hI,gW,OA,w6,am,Bs,ae⟩:=ae;simp only[execOp,ho];split at ae
 ·-- wP array behind a pointer
  rename_i n e hu;split at ae<;>try (cases ae;done)
  simp only[dV,dy,ee,cw] at ae;obtain⟨R,ak,bI,hx,rfl⟩:=ae;have u9:cI=none:=by
   have:=DV Bs;cases cI with|none=>rfl|some _=>simp at this
  subst u9;simp only[opx] at h;split at h<;>try (cases h;done)
  rename_i id off l hh ay ao mF;split at h<;>try (cases h;done)
  rename_i u_;split at h<;>try (cases h;done)
  rename_i cs hg;split at h<;>cases h;rename_i nN;simp only[c7] at u_;have h1:=eb u_.1;have h2:=eb u_.2;obtain⟨aA,hm,lJ⟩:=(c.av hx ay).u1;obtain⟨arr,el,a2,b1u,_,oC,_⟩:=c.rel.cells hm hg;rw[lJ];exact e7 c (a9v hu ak hm (k:=arr.size) (by unfold dO;rw[b1u]) (by have:=eb nN;omega) (c.mK gW ao) (c.mK w6 mF) h1 h2)
 ·-- a slice
  rename_i e hu;split at ae<;>try (cases ae;done)
  rename_i R ak;split at ae<;>try (cases ae;done)
  rename_i I0;simp only[dV,dy,ee,cw] at ae;obtain⟨bI,hx,rfl⟩:=ae;have aF:=DV Bs;have aV:=DV w6;simp only[opx] at h;split at h<;>try (cases h;done)
  rename_i p ay;split at h
  case h_2=>
   clear I0;unfold sliceX at h;split at h<;>try (cases h;done)
   rename_i b1v IE;have Ir:bX=none:=by have:=DV gW;cases bX with|none=>rfl|some _=>simp at this
   have u9:cI=none:=by cases cI with|none=>rfl|some _=>simp at aF
   subst u9;split at h<;>try (cases h;done)
   rename_i id off len fQ k aC;split at h<;>try (cases h;done)
   rename_i cs r hg;cases aP:(decide (fQ=R)&&(Nat.blt 0 (shN fQ)&&(Nat.ble len k&&Nat.ble (off+k*shN fQ) (cs.length+r)))) with
   |false=>rw[aP] at h;cases h
   |true=>
    rw[aP,cond_true] at h;cases h;simp only[c7,decide_eq_true_eq] at aP;obtain⟨iB,gO,h9,iE⟩:=aP;have hR:=c.av hx ay;refine e7 c (a9y hu ak iB hR (c.mK gW (d:=0) (n:=0) I) (c.mK w6 (d:=len) (n:=k) (by show(match evalA env aq b1v with|some v=>natOf v|none=>none)=_;rw[aC];rfl)) (eb gO) (eb h9) λaA n hm hn=>?_);obtain⟨arr,el,a2,hh,_,oC,_⟩:=c.rel.hc hm hg;have jC:arr.size=n:=by unfold dO at hn;rw[hh] at hn;simpa using hn
    have:=eb iE;omega
  cases h;rename_i au;have hR:=c.av hx ay;refine e7 c ?_;unfold sliceA at au;split at au
  ·rename_i id off len fQ cap;split at au<;>try (cases au;done)
   rename_i gF;split at au<;>try (cases au;done)
   rename_i l hh ao mF;split at au<;>try (cases au;done)
   rename_i u_;have h1:=eb u_;obtain⟨bM,ba,bj,de,e8⟩:=a9w hu ak gF hR (c.mK gW ao) (c.mK w6 mF) h1;split at au
   ·rename_i b1w;split at au<;>try (cases au;done)
    rename_i k aC;rw[Option.ite_none_right_eq_some] at au;obtain⟨fz,au⟩:=au;cases au;simp only[c7] at fz;have DX:cI.isSome=true:=by rw[<-aF];rfl
    have hb:=c.mK Bs (d:=0) (n:=k) aC;obtain⟨l1,OB⟩:=Wq hb (by simpa using DX);have OC:hi.isSome=true:=by
     cases hi with
     |some _=>rfl
     |none=>exfalso;apply I0;exact⟨rfl,by cases OA with|none=>rfl|some _=>simp at aV⟩
    exact bM _ l1 k OB (by simpa using OC) (eb fz.1) (eb fz.2)
   ·have u9:cI=none:=by cases cI with|none=>rfl|some _=>simp at aF
    subst u9;split at au
    ·split at au<;>cases au;rename_i fz;exact ba _ I (eb fz)
    ·split at au
     ·cases au;rename_i fz;simp only[c7] at fz;exact bj I (eb fz.1) (eM fz.2)
     ·split at au
      ·cases au;rename_i fz;simp only[c7] at fz;exact de I (eb fz.1) (eb fz.2)
      ·split at au<;>cases au;rename_i fz;simp only[c7] at fz;exact e8 I (eM fz.1) (eM fz.2)
  ·split at au<;>cases au;rename_i ao mF rM;have zf:a.eval x= .slice none 0 0:=by
    revert hR;generalize a.eval x=u;intro hR;cases hR;rfl
   rw[zf];exact⟨_,a9z hu ak (c.mK gW ao) (c.mK w6 mF) (c.mK Bs rM) (λDX=>by
    cases hi with
    |some _=>rfl
    |none=>exfalso;apply I0;exact⟨by rw[aF];simpa using DX,by cases OA with|none=>rfl|some _=>simp at aV⟩),.aj⟩
  ·split at au<;>try (cases au;done)
   rename_i gF;split at au<;>try (cases au;done)
   ·rename_i l hh ao mF;split at au<;>cases au;rename_i fz;simp only[c7] at fz;have u9:cI=none:=by cases cI with|none=>rfl|some _=>simp at aF
    subst u9;subst gF;exact b0T hu ak hR (c.mK gW ao) (c.mK w6 mF) (eb fz.1) (eb fz.2)
   ·rename_i l hh b1w ao mF;split at au<;>try (cases au;done)
    rename_i k aC;split at au<;>cases au;rename_i fz;simp only[c7] at fz;obtain⟨iB,gO,h9,iE⟩:=fz;obtain rfl:=eM iB;obtain rfl:=eM gO;obtain rfl:=eM h9;have DX:cI.isSome=true:=by rw[<-aF];rfl
    have hb:=c.mK Bs (d:=0) aC;obtain⟨l1,OB⟩:=Wq hb (by simpa using DX);have OC:hi.isSome=true:=by
     cases hi with
     |some _=>rfl
     |none=>exfalso;apply I0;exact⟨rfl,by cases OA with|none=>rfl|some _=>simp at aV⟩
    subst gF;rw[OB];exact b0S hu ak hR (c.mK gW ao) (c.mK w6 mF) (by simpa using OC) (gD▸iE)
  ·cases au
 ·-- a string
  rename_i hu;split at ae<;>try (cases ae;done)
  simp only[dV,dy,ee,cw] at ae;obtain⟨bI,hx,rfl⟩:=ae;have u9:cI=none:=by
   have:=DV Bs;cases cI with|none=>rfl|some _=>simp at this
  subst u9;simp only[opx] at h;split at h<;>try (cases h;done)
  rename_i s ay;split at h<;>try (cases h;done)
  rename_i l hh ao mF;split at h<;>cases h;rename_i u_;simp only[c7] at u_;exact e7 c (a9u hu (c.av hx ay) (c.mK gW ao) (c.mK w6 mF) (eb u_.1) (eb u_.2))
 ·cases ae
end
section
variable {P:Program}{env:Env}{J:ag}{w:World}{m:Nat->Option Nat}{B:Nat}{f:Nat}{aq:aY AV}{a:Act}{o:Oper}{cA:AOp}{v:AV}{af:ag}
def DY{b:Builtin}{xs:Array Operand}{h8:Array TypeId}(ho:o.op= .call {callee:=.builtin b,args:=xs,argTypes:=h8}):
  execOp a.eval o=builtin b h8 o.type (xs.map fun| .const _=>true|_=>false) (xs.map a.eval):=by
 unfold execOp;rw[ho];rfl
def b1x{e:TypeId}{z:AV}{n:Nat}(aZ:zeroOf P e=some z)(hn:z.cells.length=n):∃i wZ,P.info? e=some i/\i.zero=some wZ/\wZ.cells.size=n:=by
 unfold zeroOf at aZ;split at aZ<;>try (cases aZ;done)
 rename_i i hi;split at aZ<;>try (cases aZ;done)
 rename_i wZ au;have:=(az.ofValue (w:=(default:World)) (m:=λ_=>none) (O:=λ_=>False) (B:=0) aZ).cells.1;exact⟨i,wZ,hi,au,by simp at this;omega⟩
def b1y{t:TypeId}(h:isText P t=true):(∃cp,P.underlying t=some (.slice cp))\/P.underlying t=some .string:=by
 unfold isText at h;split at h
 ·exact .inl ⟨_,by assumption⟩
 ·exact .inr (by assumption)
 ·cases h
def b1z{w:World}{m:Nat->Option Nat}{O:Nat->Prop}{B:Nat}{u:Value}(h:az w m O B .aj u):u= .slice none 0 0:=by cases h;rfl
def b1A{t:TypeId}(h:isInt P t=true):∃k,P.underlying t=some (.int k):=by
 unfold isInt at h;split at h
 ·exact⟨_,by assumption⟩
 ·cases h
def I1{α:Type}{x:Array α}{p q:α}(h:x.toList=[p,q]):x= #[p,q]:=by
 apply m6;simpa using h
def rN{α:Type}{x:Array α}{p:α}(h:x.toList=[p]):x= #[p]:=by
 apply m6;simpa using h
def OD{α β:Type}(g:α->β)(x y:α):(#[x,y]:Array α).map g= #[g x,g y]:=by simp
def DZ{α β:Type}(g:α->β)(x:α):(#[x]:Array α).map g= #[g x]:=by simp
def D0{w:World}{m:Nat->Option Nat}{O:Nat->Prop}{B:Nat}:az w m O B c4 (.tuple #[]):=.a6 I λi h=>by simp at h
def b1B(c:Ctx P env J w m B aq a){b:Builtin}{xs:Array Operand}{h8:Array TypeId}(ho:o.op= .call {callee:=.builtin b,args:=xs,argTypes:=h8})(ae:cop P o=some cA)(h:opx f (evalA env aq) J cA=some (.val v af)):fc P B f J w m v af ((execOp a.eval o).run P w):=by
 rw[DY ho];simp only[cop,ho] at ae;split at ae
 ·-- append
  rename_i s x t u ed kI;obtain rfl:=I1 ed;rw[OD a.eval];obtain rfl:=I1 kI;simp only[dV,dy] at ae;obtain⟨⟨e,R⟩,he,i,hi,z,aZ,ae⟩:=ae;split at ae
  ·rename_i fz;simp only[dy,ee,cw] at ae;obtain⟨as,ak,bI,hx,rfl⟩:=ae;obtain⟨hu,gF⟩:=Br he;simp only[opx] at h;split at h<;>try (cases h;done)
   rename_i c3Y Wn b1C gQ;split at h<;>cases h;rename_i b1D;obtain⟨lZ,wZ,du,y9,wV⟩:=b1x aZ fz.2.2;rw[hi] at du;cases du;obtain⟨_,_,i2,wS,cj⟩:=j7 gF w;rw[hi] at wS;cases wS;exact pt (b0a c.rel hu hi cj y9 wV fz.2.1 (b1y fz.1) (c.av ak b1C) (c.av hx gQ) b1D)
  ·split at ae<;>try (cases ae;done)
   rename_i fz;simp only[dy,ee,cw] at ae;obtain⟨as,ak,bI,hx,rfl⟩:=ae;obtain⟨hu,gF⟩:=Br he;obtain⟨gx,w7⟩:=b1A fz.1;simp only[opx] at h;split at h<;>try (cases h;done)
   ·cases aP:Nat.beq (AV.eC::z.cells).length (shN R) with
    |false=>rw[aP] at h;cases h
    |true=>have iF:=eM aP;rw[gS,fz.2.2.1] at iF;exact absurd iF.symm (Nat.ne_of_lt (pa _))
   ·rename_i ba q gQ l4;cases aP:(Nat.beq (AV.eC::z.cells).length (Nat.succ (shN R))&&(Nat.blt 0 q&&Nat.ble ((3*q+2000)*i.bytes) 281474976710656)) with
    |false=>rw[aP] at h;cases h
    |true=>
     rw[aP,cond_true] at h;cases h;simp only[c7] at aP;have aF:=b1z (c.av ak gQ);have aV:=(c.av hx l4).lg;rw[aF,aV];exact pt (b0H c.rel f hu w7 gF hi aZ fz.2.2.1 fz.2.1 fz.2.2.2 (by simpa only[gD] using aP.2.1) (eb aP.2.2))
 ·-- len
  rename_i x t ed kI;obtain rfl:=rN ed;rw[DZ a.eval];obtain rfl:=rN kI;split at ae
  ·rename_i n e ht;cases ae;simp only[opx] at h;cases h;exact e7 c ⟨_,b0g ht _,.i _ _⟩
  all_goals try (cases ae;done)
  all_goals
   rename_i ht;simp only[eE] at ae;obtain⟨bI,hx,rfl⟩:=ae;simp only[opx] at h;split at h<;>try (cases h;done)
   rename_i gQ;split at h
   case h_2=>
    rcases IM h with⟨_,_,_,e⟩|⟨jP,b1E,ii,rfl,e⟩
    ·cases e
    ·first
      |(cases jP;done)
      |(
        cases e;obtain⟨c5,aq,bd,ak⟩:=(c.av hx gQ).b0j;rw[ak];refine e7 c ⟨.int .i64 (Int.ofNat aq),?_,.g1 _ (kA _)⟩;simp[Builtin.len_,run_underlying ht,goInt])
   rename_i dQ hn;cases h
  ·exact e7 c ⟨_,N3 c.rel (.inr (.inl ⟨rfl,ht⟩)) (c.av hx gQ) hn,.i _ _⟩
  ·exact e7 c ⟨_,N3 c.rel (.inl ⟨rfl,_,ht⟩) (c.av hx gQ) hn,.i _ _⟩
  ·exact e7 c ⟨_,N3 c.rel (.inr (.inr ⟨rfl,_,_,ht⟩)) (c.av hx gQ) hn,.i _ _⟩
 ·-- cap
  rename_i x t ed kI;obtain rfl:=rN ed;rw[DZ a.eval];obtain rfl:=rN kI;split at ae<;>try (cases ae;done)
  rename_i ht;simp only[eE] at ae;obtain⟨bI,hx,rfl⟩:=ae;simp only[opx] at h;split at h<;>try (cases h;done)
  rename_i gQ;split at h
  case h_2=>obtain⟨_,_,_,_,_,_,_,_,_,e⟩:=N4 h;cases e
  cases h;rename_i hn;exact e7 c ⟨_,b0h ht (c.av hx gQ) hn,.i _ _⟩
 ·-- copy
  split at ae<;>try (cases ae;done)
  rename_i x t ed kI _ e R he;obtain rfl:=rN ed;rw[DZ a.eval];obtain rfl:=rN kI;simp only[dV,dy] at ae;obtain⟨z,aZ,ae⟩:=ae;split at ae<;>try (cases ae;done)
  simp only[dy,ee,cw] at ae;obtain⟨bI,hx,rfl⟩:=ae;obtain⟨hu,gF⟩:=Br he;obtain⟨en,il,mG,mH⟩:=rA aZ w;simp only[opx] at h;split at h<;>try (cases h;done)
  ·rename_i gQ _;cases h;have hR:=c.av hx gQ;generalize a.eval x=u at hR ⊢;cases hR;exact e7 c ⟨_,by simp[Builtin.clear_,run_underlying hu],D0⟩
  ·rename_i id off len fQ OE I2 gQ y9;have b1F:I2=z.cells:=by cases y9;rfl
   subst b1F;split at h<;>try (cases h;done)
   rename_i dP hg;split at h<;>cases h;rename_i bn cR;have hR:=c.av hx gQ;generalize a.eval x=u at hR ⊢;cases hR with
   |aq hm hlen k0 hn fi=>
   have Of:=(mG w m (bh J m) B).cells;have hG:=Bh Of (len+1);have b1G:f<=id:=Nat.le_of_not_lt λh=>by rw[show Nat.blt id f=true from hO h] at dP;cases dP
   obtain⟨ax,aF,aV,dp⟩:=NI (f:=f) c.rel b1G hm hg cR hG (Bi mH (len+1));refine pt ⟨_,ax,m,?_,D0,aV,dp⟩;have hh:(Builtin.zeroCells en.cells (len+1)).toList=(List.range ((len+1)*en.cells.toList.length)).map λi=>en.cells.toList[i%en.cells.toList.length]! :=by
    simp only[Builtin.zeroCells,uS,yF,sS];exact rh λi _=>by simp only[getElem!_def,mr]
   rw[<-hh] at aF;simp[Builtin.clear_,run_underlying hu,il,aF]
  ·rename_i gQ _;cases h;have hR:=c.av hx gQ;generalize a.eval x=u at hR ⊢;cases hR;exact e7 c ⟨_,by simp[Builtin.clear_,run_underlying hu],D0⟩
  ·rename_i gQ _;cases h;have hR:=c.av hx gQ;generalize a.eval x=u at hR ⊢;cases hR
   ·exact e7 c ⟨_,by simp[Builtin.clear_,run_underlying hu],D0⟩
   ·exact e7 c ⟨_,by simp[Builtin.clear_,run_underlying hu],D0⟩
 ·rename_i x y ed;obtain rfl:=I1 ed;rw[OD a.eval];simp only[dV,dy,ee,cw] at ae;obtain⟨bI,hx,ew,aI,rfl⟩:=ae;simp only[opx] at h;split at h<;>try (cases h;done)
  case h_2=>
   rename_i n j gQ l4;cases aP:Nat.ble j n with
   |false=>rw[aP] at h;cases h
   |true=>
    rw[aP] at h;replace h:some (bH.val (AV.i .i64 (Int.ofNat j)) J)=some (.val v af):=h;cases h;exact e7 c ⟨_,b0k (P:=P) (w:=w) (c.av hx gQ) (c.av aI l4) (eb aP) o.type h8,.i _ _⟩
  case h_3=>
   rename_i j n gQ l4;cases aP:Nat.ble j n with
   |false=>rw[aP] at h;cases h
   |true=>
    rw[aP] at h;replace h:some (bH.val (AV.i .i64 (Int.ofNat j)) J)=some (.val v af):=h;cases h;exact e7 c ⟨_,b0l (P:=P) (w:=w) (c.av hx gQ) (c.av aI l4) (eb aP) o.type h8,.i _ _⟩
  rename_i k n l q gQ l4;split at h<;>cases h;rename_i yV;subst yV;have:=(VO (P:=P) (w:=w) (c.av hx gQ) (c.av aI l4) o.type h8).1;exact e7 c ⟨_,this,.i _ _⟩
 ·rename_i x y ed;obtain rfl:=I1 ed;rw[OD a.eval];simp only[dV,dy,ee,cw] at ae;obtain⟨bI,hx,ew,aI,rfl⟩:=ae;simp only[opx] at h;split at h<;>try (cases h;done)
  rename_i k n l q gQ l4;split at h<;>cases h;rename_i yV;subst yV;have:=(VO (P:=P) (w:=w) (c.av hx gQ) (c.av aI l4) o.type h8).2;exact e7 c ⟨_,this,.i _ _⟩
 ·cases ae;simp[opx] at h
 ·simp only[eE] at ae;obtain⟨bI,hx,rfl⟩:=ae;simp only[opx] at h;split at h<;>cases h
 ·cases ae
def b1H(c:Ctx P env J w m B aq a){t:TypeId}{x y:Operand}(ho:o.op= .makeSlice t x y)(ae:cop P o=some cA)(h:opx f (evalA env aq) J cA=some (.val v af)):fc P B f J w m v af ((execOp a.eval o).run P w):=by
 simp only[cop,ho,dV,dy] at ae;obtain⟨⟨e,R⟩,he,z,aZ,i,hi,ae⟩:=ae;split at ae<;>try (cases ae;done)
 rename_i wV;simp only[dy,ee,cw] at ae;obtain⟨bI,hx,ew,aI,rfl⟩:=ae;obtain⟨hu,ak⟩:=Br he;simp only[opx] at h;split at h<;>try (cases h;done)
 ·rename_i bM n ba q gQ l4;cases aP:(Nat.beq z.cells.length (shN R)&&(Nat.ble n q&&(Nat.ble (i.bytes*q) 281474976710656&&Nat.ble q 281474976710656))) with
  |false=>rw[aP] at h;cases h
  |true=>
   rw[aP,cond_true] at h;cases h;simp only[c7,Ol] at aP;have aF:=(c.av hx gQ).lg;have aV:=(c.av aI l4).lg;simp only[execOp,ho,aF,aV];exact pt (b0E c.rel f hu ak hi aZ wV aP.2.1 aP.2.2.1 aP.2.2.2)
 ·rename_i ba q gQ l4;cases aP:Nat.beq z.cells.length (Nat.succ (shN R)) with
  |false=>rw[aP] at h;cases h
  |true=>have iF:=eM aP;rw[wV] at iF;exact absurd iF (Nat.ne_of_lt (pa _))
def b1I(c:Ctx P env J w m B aq a){t:TypeId}{x:Operand}(ho:o.op= .range t x)(ae:cop P o=some cA)(h:opx f (evalA env aq) J cA=some (.val v af)):fc P B f J w m v af ((execOp a.eval o).run P w):=by
 simp only[cop,ho] at ae;split at ae<;>try (cases ae;done)
 rename_i mC zc hu;simp only[eE] at ae;obtain⟨bI,hx,rfl⟩:=ae;simp only[opx] at h;simp only[execOp,ho];split at h<;>try (cases h;done)
 ·rename_i au;cases h;exact pt (V5 c.rel f hu (c.av hx au) I)
 ·rename_i id au;split at h<;>cases h;rename_i es aU hg;exact pt (V5 c.rel f hu (c.av hx au) ⟨_,_,hg,rfl⟩)
def b1J(c:Ctx P env J w m B aq a){x:Operand}(ho:o.op= .next x false)(ae:cop P o=some cA)(h:opx f (evalA env aq) J cA=some (.val v af)):fc P B f J w m v af ((execOp a.eval o).run P w):=by
 simp only[cop,ho,eE] at ae;obtain⟨bI,hx,rfl⟩:=ae;simp only[opx] at h;simp only[execOp,ho];split at h<;>try (cases h;done)
 rename_i it au;obtain⟨aA,hm,rK⟩:=(c.av hx au).u1;rw[rK];split at h<;>try (cases h;done)
 rename_i dP;have ta:f<=it:=by simpa [gD] using dP
 split at h<;>try (cases h;done)
 ·rename_i since seen g2 hg;cases h;exact e7 c ⟨_,b0R c.rel hm hg o.type,az.uY (bF.cons (.b false) bF.nil)⟩
 ·rename_i id since seen g2 hg;split at h<;>try (cases h;done)
  rename_i es aU l3;cases aP:(Nat.beq aU since&&Nat.beq g2 since&&cB (λ(e:AV×AV×Nat)=>Nat.blt e.2.2 since) es) with
  |false=>rw[aP] at h;cases h
  |true=>
   rw[aP,cond_true] at h;simp only[c7,mw] at aP;obtain⟨⟨rfl,rfl⟩,hall⟩:=aP;split at h<;>cases h;rename_i zf;rcases V8 (f:=f) c.rel ta hm hg l3 (λe he=>by have:=jO hall e he;simpa [gD] using this) o.type with⟨_,h2⟩|⟨e,he,_⟩
   ·exact e7 c ⟨_,h2,az.uY (bF.cons (.b false) bF.nil)⟩
   ·rw[zf] at he;cases he
def b1K(c:Ctx P env J w m B aq a){x:Operand}(ho:o.op= .entry x)(ae:cop P o=some cA)(h:opx f (evalA env aq) J cA=some (.val v af)):fc P B f J w m v af ((execOp a.eval o).run P w):=by
 simp only[cop,ho,eE] at ae;obtain⟨bI,hx,rfl⟩:=ae;simp only[opx] at h;simp only[execOp,ho];split at h<;>try (cases h;done)
 rename_i it au;obtain⟨aA,hm,rK⟩:=(c.av hx au).u1;rw[rK];split at h<;>try (cases h;done)
 rename_i id since seen g2 hg;split at h<;>try (cases h;done)
 rename_i es aU l3;cases aP:Nat.beq aU g2 with
 |false=>rw[aP] at h;cases h
 |true=>
  rw[aP,cond_true] at h;obtain rfl:=eM aP;split at h<;>try (cases h;done)
  rename_i ps ao;split at h<;>cases h;rename_i e he;exact e7 c (b0Q c.rel hm hg l3 ao he)
def az.b1L{w:World}{m:Nat->Option Nat}{O:Nat->Prop}{B:Nat}{ex:List (List Nat)}{u:Value}(h:az w m O B (.hC ex) u):∃s,u= .string s:=by cases h;exact⟨_,rfl⟩
def Wr{k:Nat}{bI:aH}(ae:cop P o=some (.len k bI)):∃x t as h8,o.op= .call {callee:=.builtin .len,args:=as,argTypes:=h8}/\as.toList=[x]/\h8.toList=[t]/\opdOf x=some bI/\(k=0->P.underlying t=some .string)/\(k=1->∃e,P.underlying t=some (.slice e)):=by
 unfold cop at ae;split at ae
 all_goals first
  |(cases ae;done)
  |(
    exfalso
    (repeat' first
     |(cases ae;done)
     |(simp only[eE,reduceCtorEq,and_false,exists_false] at ae;done)
     |(simp only[dV,dy,ee,cw,reduceCtorEq,and_false,exists_false] at ae;done)
     |split at ae
     |(obtain⟨_,_,ae⟩:=ae)
     |(simp only[dV,dy,ee,cw] at ae))
    done)
  |(
    rename_i ho;split at ae
    all_goals first
     |(cases ae;done)
     |(
      exfalso
      (repeat' first
       |(cases ae;done)
       |(simp only[eE,reduceCtorEq,and_false,exists_false] at ae;done)
       |(simp only[dV,dy,ee,cw,reduceCtorEq,and_false,exists_false] at ae;done)
       |split at ae
       |(obtain⟨_,_,ae⟩:=ae)
       |(simp only[dV,dy,ee,cw] at ae))
      done)
     |(
      rename_i ed kI;split at ae
      all_goals first
       |(cases ae;done)
       |(
         rename_i ht;simp only[eE] at ae;obtain⟨a9,h1,ae⟩:=ae;cases ae;exact⟨_,_,_,_,ho,ed,kI,h1,λaC=>by(first|exact ht|cases aC),λaC=>by(first|exact⟨_,ht⟩|cases aC)⟩)))
def b1M{k:Nat}{bI:aH}(ae:cop P o=some (.len k bI)):∀c,o.op≠ .defer c:=λc an=>by
 obtain⟨x,t,as,h8,ho,_⟩:=Wr ae;rw[ho] at an;cases an
def b1N{l:List (AV×ag)}{k:Nat}{bI:aH}(c:Ctx P env J w m B aq a)(ae:cop P o=some (.len k bI))(h:opx f (evalA env aq) J (.len k bI)=some (.g3 l)):∃p∈l,fc P B f J w m p.1 p.2 ((execOp a.eval o).run P w):=by
 obtain⟨x,t,as,h8,ho,has,kI,hx,ht⟩:=Wr ae;obtain rfl:=rN has;obtain rfl:=rN kI;simp only[opx] at h;split at h<;>try (cases h;done)
 rename_i p ay;split at h
 ·cases h
 rcases IM h with⟨rfl,ex,rfl,e⟩|⟨rfl,b1E,ii,rfl,e⟩
 rotate_left
 ·cases e
 injection e with e
 subst e;obtain⟨s,ak⟩:=(c.av hx ay).b1L;have ht:=ht.1 I;refine⟨(.iz (decide ((40:Int)<Int.ofNat s.size)),J),by cases decide ((40:Int)<Int.ofNat s.size)<;>simp,?_⟩;rw[DY ho,DZ a.eval,ak];refine e7 c ⟨.int .i64 (Int.ofNat s.size),?_,.iz _ I⟩;simp[builtin,Builtin.len_,run_underlying ht,goInt]
def Ws{bI:aH}(ae:cop P o=some (.cap bI)):∃x t e as h8,o.op= .call {callee:=.builtin .cap,args:=as,argTypes:=h8}/\as.toList=[x]/\h8.toList=[t]/\opdOf x=some bI/\P.underlying t=some (.slice e):=by
 unfold cop at ae;split at ae
 all_goals first
  |(cases ae;done)
  |(
    exfalso
    (repeat' first
     |(cases ae;done)
     |(simp only[eE,reduceCtorEq,and_false,exists_false] at ae;done)
     |(simp only[dV,dy,ee,cw,reduceCtorEq,and_false,exists_false] at ae;done)
     |split at ae
     |(obtain⟨_,_,ae⟩:=ae)
     |(simp only[dV,dy,ee,cw] at ae))
    done)
  |(
    rename_i ho;split at ae
    all_goals first
     |(cases ae;done)
     |(
      exfalso
      (repeat' first
       |(cases ae;done)
       |(simp only[eE,reduceCtorEq,and_false,exists_false] at ae;done)
       |(simp only[dV,dy,ee,cw,reduceCtorEq,and_false,exists_false] at ae;done)
       |split at ae
       |(obtain⟨_,_,ae⟩:=ae)
       |(simp only[dV,dy,ee,cw] at ae))
      done)
     |(
      rename_i ed kI;split at ae
      all_goals first
       |(cases ae;done)
       |(
         rename_i ht;simp only[eE] at ae;obtain⟨a9,h1,ae⟩:=ae;cases ae;exact⟨_,_,_,_,_,ho,ed,kI,h1,ht⟩)))
def b1O{bI:aH}(ae:cop P o=some (.cap bI)):∀c,o.op≠ .defer c:=λc an=>by
 obtain⟨x,t,e,as,h8,ho,_⟩:=Ws ae;rw[ho] at an;cases an
def b1P{l:List (AV×ag)}{bI:aH}(c:Ctx P env J w m B aq a)(ae:cop P o=some (.cap bI))(h:opx f (evalA env aq) J (.cap bI)=some (.g3 l)):∃p∈l,fc P B f J w m p.1 p.2 ((execOp a.eval o).run P w):=by
 obtain⟨x,t,e,as,h8,ho,has,kI,hx,ht⟩:=Ws ae;obtain rfl:=rN has;obtain rfl:=rN kI;simp only[opx] at h;split at h<;>try (cases h;done)
 rename_i p ay;split at h
 ·cases h
 obtain⟨q,aP,aC⟩:=b0i (ty:=o.type) c.rel ht (c.av hx ay) h;refine⟨q,aP,?_⟩;rw[DY ho,DZ a.eval];exact pt aC
def OF{id r off:Nat}{c a8:List AV}{q:bH}(h:pd J id c r off a8=some q):∃v ah,q= .val v ah:=by
 unfold pd at h;split at h<;>cases h;exact⟨_,_,rfl⟩
def I3{av:aH->Option AV}{R:Option Nat}{x:AV}{bX hi cI:Option aH}{q:bH}(h:sliceX J av R x bX hi cI=some q):∃v,q= .val v J:=by
 unfold sliceX at h
 repeat' first|(cases h;done)|(cases h;exact⟨_,rfl⟩)|split at h|(simp only[w2] at h)
def I4{x:AV}{q:bH}(h:capO f J x=some q):∃l,q= .g3 l:=by
 obtain⟨_,_,_,_,_,_,_,_,_,e⟩:=N4 h;exact⟨_,e⟩
def b1Q{id r off:Nat}{c a8:List AV}{l:List (AV×ag)}(h:pd J id c r off a8=some (.g3 l)):False:=by
 unfold pd at h;split at h<;>cases h
def b1R{av:aH->Option AV}{R:Option Nat}{x:AV}{bX hi cI:Option aH}{l:List (AV×ag)}(h:sliceX J av R x bX hi cI=some (.g3 l)):False:=by
 unfold sliceX at h
 repeat' first|(cases h;done)|split at h|(simp only[w2] at h)
def b1S{l:List (AV×ag)}(c:Ctx P env J w m B aq a)(ae:cop P o=some cA)(h:opx f (evalA env aq) J cA=some (.g3 l)):(∀c,o.op≠ .defer c)/\∃p∈l,fc P B f J w m p.1 p.2 ((execOp a.eval o).run P w):=by
 have OG:(∃k bI,cA= .len k bI)\/(∃bI,cA= .sW bI)\/∃bI,cA= .cap bI:=by
  cases cA<;>simp only[opx] at h
  all_goals first
   |(exact .inl ⟨_,_,rfl⟩)
   |(exact .inr (.inl ⟨_,rfl⟩))
   |(exact .inr (.inr ⟨_,rfl⟩))
   |(cases h;done)
   |(exfalso;repeat' first|(cases h;done)|(exact b1R h)|(exact b1Q h)|split at h|(simp only[w2] at h))
 rcases OG with⟨k,bI,rfl⟩|⟨bI,rfl⟩|⟨bI,rfl⟩
 ·exact⟨b1M ae,b1N c ae h⟩
 rotate_left
 ·exact⟨b1O ae,b1P c ae h⟩
 have b1T:∃x,o.op= .next x false/\opdOf x=some bI:=by
  unfold cop at ae;split at ae
  all_goals first
   |(cases ae;done)
   |(rename_i ho;simp only[eE] at ae;obtain⟨y,aI,he⟩:=ae;cases he;exact⟨_,ho,aI⟩)
   |(
     exfalso
     repeat' first
      |(cases ae;done)
      |(simp only[eE,reduceCtorEq,and_false,exists_false] at ae;done)
      |(simp only[dV,dy,ee,cw,reduceCtorEq,and_false,exists_false] at ae;done)
      |split at ae
      |(obtain⟨_,_,ae⟩:=ae)
      |(simp only[dV,dy,ee,cw] at ae))
 obtain⟨x,ho,hx⟩:=b1T;refine⟨λc an=>(by rw[ho] at an;cases an),?_⟩;simp only[opx] at h;simp only[execOp,ho];split at h<;>try (cases h;done)
 rename_i it au;obtain⟨aA,hm,rK⟩:=(c.av hx au).u1;rw[rK];split at h<;>try (cases h;done)
 rename_i dP;have ta:f<=it:=by simpa [gD] using dP
 split at h<;>try (cases h;done)
 rename_i id since seen g2 hg;split at h<;>try (cases h;done)
 rename_i es aU l3;cases aP:(Nat.beq aU since&&Nat.beq g2 since&&cB (λ(e:AV×AV×Nat)=>Nat.blt e.2.2 since) es) with
 |false=>rw[aP] at h;cases h
 |true=>
  rw[aP,cond_true] at h;simp only[c7,mw] at aP;obtain⟨⟨rfl,rfl⟩,hall⟩:=aP;split at h<;>cases h;rename_i b_;rcases V8 (f:=f) c.rel ta hm hg l3 (λe he=>by have:=jO hall e he;simpa [gD] using this) o.type with⟨h1,_⟩|⟨e,he,u,ax,h2,h3,aN,bY⟩
  ·exact absurd h1 b_
  ·exact⟨_,di.2 ⟨e,he,rfl⟩,pt ⟨u,ax,m,h2,h3,aN,bY⟩⟩
def Bt(c:Ctx P env J w m B aq a)(ae:cop P o=some cA)(h:opx f (evalA env aq) J cA=some (.val v af)):fc P B f J w m v af ((execOp a.eval o).run P w):=by
 have fs:=ae;unfold cop at ae;split at ae
 all_goals first|(cases ae;done)|skip
 all_goals first
  |(rename_i ho;first
    |exact Wh c (.inl ho) fs h|exact Wh c (.inr ho) fs h|exact b0V c ho fs h|exact b0W c ho fs h|exact b0X c ho fs h|exact b1j c ho fs h
    |exact b1l c ho fs h|exact Wo c (.inl ho) fs h|exact Wo c (.inr ho) fs h|exact b0Y c ho fs h|exact b0Z c ho fs h|exact b1a c ho fs h
    |exact b1e c ho fs h|exact b1b c ho fs h|exact b1f c ho fs h|exact b1g c ho fs h|exact b1h c ho fs h|exact b1i c ho fs h
    |exact b1t c ho fs h|exact b1m c ho fs h|exact b1n c ho fs h|exact b1o c ho fs h|exact b1p c ho fs h|exact b1q c ho fs h
    |exact b1r c ho fs h|exact b1s c ho fs h|exact b1B c ho fs h)
  |skip
 ·rename_i ho;exact b1H c ho fs h
 ·rename_i ho;exact b1I c ho fs h
 ·rename_i ho;exact b1J c ho fs h
 ·rename_i ho;exact b1K c ho fs h
 ·simp only[dV,dy,ee,cw] at ae;obtain⟨ac,pv,hI,gW,rfl⟩:=ae;simp only[opx] at h;split at h<;>cases h
 ·simp only[dV,dy,ee,cw] at ae;obtain⟨ac,pv,hI,gW,rfl⟩:=ae;simp only[opx] at h;split at h<;>cases h
 ·simp only[eE] at ae;obtain⟨bI,hx,rfl⟩:=ae;simp only[opx] at h;split at h<;>cases h
end
def b1U{α β:Type}(f:α->Option (List β))(x:α)(xs:List α):j6 f (x::xs)=match f x with|none=>none|some a=>match j6 f xs with|none=>none|some b=>some (a++b):=by
 cases xs with
 |nil=>show f x=_;cases f x<;>simp[j6]
 |cons y a4=>rfl
def OH{α β:Type}{f:α->Option (List β)}:∀ {l:List α} {out:List β},j6 f l=some out->∀x∈l,∃o,f x=some o/\∀y∈o,y∈out
 |[],_,_,x,hx=>by cases hx
 |x::l,out,h,y,aI=>by
  rw[b1U] at h;cases hf:f x with
  |none=>rw[hf] at h;cases h
  |some a=>
   rw[hf] at h;cases ao:j6 f l with
   |none=>rw[ao] at h;cases h
   |some b=>
    rw[ao] at h;cases h;rcases eH.1 aI with rfl|aI
    ·exact⟨a,hf,λz aZ=>wL _ aZ⟩
    ·obtain⟨o,h1,h2⟩:=OH ao y aI;exact⟨o,h1,λz aZ=>yH _ (h2 z aZ)⟩
def w8{α β:Type}{r:Option (List α)}{f:α->Option (List β)}{out:List β}(h:hP r f=some out):∃l,r=some l/\∀x∈l,∃o,f x=some o/\∀y∈o,y∈out:=by
 cases r with
 |none=>cases h
 |some l=>exact⟨l,rfl,OH h⟩
def e9(r:Option Nat):Fence:={fn:=λ_=>True,depth:=none,alive:=false,round:=r}
def Bu(w:World)(m:Nat->Option Nat)(O:Nat->Prop)(B:Nat):(Nat ⊕ (AV×List AV))->Deferred->Prop
 | .inl id,d=>∃aA,m id=some aA/\d={target:=.collected aA,args:=#[]}
 | .inr (bx,args),d=>∃g bO cs gT e5 us,bx= .f (.func g) bO cs/\d={target:=.fn (.func g) e5,args:=gT++us}/\bF w m O B bO gT.toList/\bF w m O B cs e5.toList/\bF w m O B args us.toList
structure eP(P:Program)(env:Env)(ai:Fr)(a:Act)(J:ag)(w:World)(m:Nat->Option Nat)(B:Nat):Prop where
 ctx:Ctx P env J w m B ai.a5 a
 defs:iW (Bu w m (bh J m) B) ai.defers a.defers
def rO(w:World)(m:Nat->Option Nat)(O:Nat->Prop)(B:Nat):cQ->Ending->Prop
 | .ok v,.returned u=>az w m O B v u
 | .err v,.panicked mL=>∃u,mL=[{v:=u,recovered:=false}]/\az w m O B v u
 |_,_=>False
def ExR(w:World)(m:Nat->Option Nat)(O:Nat->Prop)(B:Nat):hd->Exit->Prop
 | .normal,.normal=>True
 | .exit i,.exit j=>i=j
 | .ret,.ret=>True
 | .panic v,.panic mL=>∃u,mL=[{v:=u,recovered:=false}]/\az w m O B v u
 |_,_=>False
def CallRes(P:Program)(F:Fence)(n:Nat)(u:Value)(us:Array Value)(w:World)(az:Ending->World->Prop):Prop:=
 ∃d,(∀ax,(Deferred.ofValue u us).run P ax= .ok d ax)∧
  match(invoke d.target d.args).run P w with
  | .ok (.enter f args) ax=>CallsIn F n P f args ax az
  | .ok (.round l f tmps as b) ax=>RoundIn F n P l f tmps as b ax az
  | .ok (.value v) ax=>az (.returned v) ax
  |_=>False
section
variable {P:Program}{env:Env}{J af:ag}{w ax:World}{m aK:Nat->Option Nat}{B f:Nat}
def Globs.ext(cc:Globs env w B)(h:Ext f J w m af ax aK)(al:Rel P J w m B):Globs env ax B:=λg v hg ej=>
 (cc g v hg ej).mono (λ_ _ h=>h) h.size h.gU (λb hb c9=>⟨h.bK b hb (λ⟨_,_,h1,_⟩=>c9 (al.base _ _ h1)),c9⟩)
def Bu.ext{d:Nat ⊕ (AV×List AV)}{dt:Deferred}(an:Bu w m (bh J m) B d dt)(h:Ext f J w m af ax aK)(al:Rel P J w m B):Bu ax aK (bh af aK) B d dt:=by
 cases d with
 |inl id=>obtain⟨aA,h1,h2⟩:=an;exact⟨aA,h.mono _ _ h1,h2⟩
 |inr p=>obtain⟨g,bO,cs,gT,e5,us,h1,h2,h3,aN,bY⟩:=an;exact⟨g,bO,cs,gT,e5,us,h1,h2,h3.ext h al,aN.ext h al,bY.ext h al⟩
def D1{α β:Type}{r bS:α->β->Prop}(h:∀x y,r x y->bS x y):∀ {l:List α} {bq:List β},iW r l bq->iW bS l bq
 |[],[],_=>trivial
 |[],_::_,h'=>h'.elim
 |_::_,[],h'=>h'.elim
 |_::_,_::_,h'=>⟨h _ _ h'.1,D1 h h'.2⟩
def Ctx.ext{aq:aY AV}{a:Act}(c:Ctx P env J w m B aq a)(h:Ext f J w m af ax aK)(pr:Rel P af ax aK B):Ctx P env af ax aK B aq a:=
 ⟨pr,c.a5.ext h c.rel,Globs.ext c.globs h c.rel⟩
def eP.ext{ai:Fr}{a:Act}(s:eP P env ai a J w m B)(h:Ext f J w m af ax aK)(pr:Rel P af ax aK B):eP P env ai a af ax aK B:=
 ⟨s.ctx.ext h pr,D1 (λ_ _ an=>an.ext h s.ctx.rel) s.defs⟩
def iR.put{O:Nat->Prop}{aq:aY AV}{tmps:Array Value}(h:iR w m O B aq tmps.toList)(d:Nat){v:AV}{u:Value}(au:az w m O B v u):iR w m O B (aq.set d v) (tmps.setIfInBounds d u).toList:=by
 refine⟨λi x hx=>?_,λi hx=>?_⟩
 ·rw[aY.ji] at hx;rw[mr];by_cases hi:i=d
  ·subst hi;rw[if_pos I] at hx;cases hg:aq.get i with
   |none=>rw[hg] at hx;cases hx
   |some y=>
    rw[hg] at hx;cases hx;obtain⟨Wt,h1,_⟩:=h.1 i y hg;rw[mr] at h1;have hlt:=(yC.1 h1).1;exact⟨u,by simp[HX,hlt],au⟩
  ·rw[if_neg hi] at hx;obtain⟨Wt,h1,h2⟩:=h.1 i x hx;rw[mr] at h1;exact⟨Wt,by rw[Nd (λe=>hi e.symm)];exact h1,h2⟩
 ·rw[aY.ji] at hx;rw[mr];have hg:aq.get i=none:=by
   by_cases hi:i=d
   ·subst hi;rw[if_pos I] at hx;cases hg:aq.get i with
    |none=>rfl
    |some y=>rw[hg] at hx;cases hx
   ·rw[if_neg hi] at hx;exact hx
  have h1:=h.2 i hg;rw[mr] at h1;have:=Array.getElem?_eq_none_iff.1 h1;exact AZ (by simpa using this)
def b1V{O:Nat->Prop}{aq:aY AV}{a:Act}(h:iR w m O B aq a.tmps.toList)(d:Nat){v:AV}{u:Value}(au:az w m O B v u):iR w m O B (aq.set d v) (a.put (some d) u).tmps.toList:=
 h.put d au
def eP.put{ai:Fr}{a:Act}(s:eP P env ai a J w m B)(d:Option Nat){v:AV}{u:Value}(au:az w m (bh J m) B v u):eP P env (ai.put d v) (a.put d u) J w m B:=by
 cases d with
 |none=>exact s
 |some d=>exact⟨⟨s.ctx.rel,b1V s.ctx.a5 d au,s.ctx.globs⟩,s.defs⟩
def I5{ops:Array Oper}{o:Oper}{aS:aX}{O:Nat->Prop}{aq:aY AV}{tmps:Array Value}(ae:coper P ops o=some aS)(ak:iR w m O B aq tmps.toList):Region.wanted o (yielded ops tmps)=wantedA aS.guard aq:=by
 unfold coper at ae;split at ae<;>cases ae;rename_i g hg;unfold guardOf at hg;unfold Region.wanted wantedA;split at hg
 ·rename_i OI;cases hg;simp[OI]
 ·rename_i j wt OI;split at hg<;>cases hg;rename_i d an;simp only[OI,yielded,an,Option.bind_some];cases gi:aq.get d with
  |none=>
   have:=ak.2 d gi;rw[mr] at this;simp[this]
  |some v=>
   obtain⟨u,hu,h7⟩:=ak.1 d v gi;rw[mr] at hu;simp only[hu];cases h7 with
   |y h=>rcases h.alt with⟨_,_,rfl⟩|⟨_,rfl⟩<;>simp
   |eT hu h=>subst hu;simp
   |_=>simp
def OJ{c:Callee}{ac:sV}(ae:calleeOf c=some ac){aq:aY AV}{a:Act}(ctx:Ctx P env J w m B aq a){bx:AV}(au:calleeV (evalA env aq) ac=some bx):
  ∃x,c= .value x/\az w m (bh J m) B bx (a.eval x):=by
 unfold calleeOf at ae;split at ae
 ·cases ae;cases au;exact⟨_,rfl,.na I (λi h=>by simp at h) I (λi h=>by simp at h)⟩
 ·split at ae<;>cases ae;rename_i hx;exact⟨_,rfl,ctx.av hx au⟩
 ·cases ae
def Wu{F:Fence}{n:Nat}{o:Oper}{a:Act}{x:Operand}{c:Call}(ho:o.op= .call c)(j9:c.callee= .value x){us:Array Value}(k1:c.args.map a.eval=us)(bB:∀f,F.fn f)(an:F.depth=none)
  {az:Ending->World->Prop} (h:CallRes P F (n-1) (a.eval x) us w az) {next:Act->World->Prop} {Q:Exit->Act->World->Prop}
  (hR:∀e ax,az e ax->match e with| .returned v=>next (a.put o.dst v) ax| .panicked mL=>Q (.panic mL) a ax| .outgrown=>False):o.wpIn F n P a w next Q:=by
 obtain⟨d,h1,h2⟩:=h;have dh:∀ax,(resolve a.eval c o.type).run P ax= .ok d ax:=λax=>by
  unfold resolve;rw[j9];simp only[k1];exact h1 ax
 have he:(o.semAt F.round a.eval).run P w=(invoke d.target d.args).run P w:=by
  rw[u6 _ _ _ (λc ae=>by rw[ho] at ae;cases ae)];unfold execOp;rw[ho];simp only[er,dh,ez]
 refine⟨λf _=>bB f,?_⟩;rw[he];generalize(invoke d.target d.args).run P w=res at h2;cases res with
 |halt h ax=>exact h2.elim
 |ok va ax=>
  cases va<;>try exact h2.elim
  ·exact hR _ _ h2
  ·exact⟨λak=>by rw[an] at ak;simp at ak,w3 h2 (λe Bb al=>by have:=hR e Bb al;cases e<;>first|exact this|exact this.elim)⟩
  ·exact⟨λak=>by rw[an] at ak;simp at ak,RoundIn.mono h2 (λe Bb al=>by have:=hR e Bb al;cases e<;>first|exact this|exact this.elim)⟩
def D2(P:Program)(env:Env)(B f:Nat)(r:Option Nat)(call:kY):Prop:=
 ∀bx args J j_,call bx args J=some j_->∀k w m u us,Rel P J w m B->Globs env w B->az w m (bh J m) B bx u->bF w m (bh J m) B args us→
  CallRes P (e9 r) k u us.toArray w (λe ax=>∃ret af,(ret,af)∈j_/\∃aK,rO ax aK (bh af aK) B ret e/\Rel P af ax aK B/\Ext f J w m af ax aK)
def Wv{o:Oper}{c:sV}{args:List aH}(h:cop P o=some (.call c args)):∃aU,o.op= .call aU/\calleeOf aU.callee=some c/\yN aU.args.toList=some args:=by
 unfold cop at h;split at h
 all_goals first
  |(cases h;done)
  |(simp only[eE,reduceCtorEq,and_false,exists_false] at h;done)
  |(simp only[dV,dy,ee,cw,reduceCtorEq,and_false,exists_false] at h;done)
  |(
    rename_i ho _;simp only[dV,dy,ee,cw] at h;obtain⟨ac,pv,hI,gW,he⟩:=h;cases he;exact⟨_,ho,pv,gW⟩)
  |(
    rename_i ho;simp only[dV,dy,ee,cw] at h;obtain⟨ac,pv,hI,gW,he⟩:=h;cases he;exact⟨_,ho,pv,gW⟩)
  |(
    exfalso
    repeat' first
     |(cases h;done)
     |(simp only[eE,reduceCtorEq,and_false,exists_false] at h;done)
     |(simp only[dV,dy,ee,cw,reduceCtorEq,and_false,exists_false] at h;done)
     |split at h
     |(obtain⟨_,_,h⟩:=h)
     |(simp only[dV,dy,ee,cw] at h))
def b1W{o:Oper}{c:sV}{args:List aH}(h:cop P o=some (.iP c args)):∃aU,o.op= .defer aU/\calleeOf aU.callee=some c/\yN aU.args.toList=some args:=by
 unfold cop at h;split at h
 all_goals first
  |(cases h;done)
  |(simp only[eE,reduceCtorEq,and_false,exists_false] at h;done)
  |(simp only[dV,dy,ee,cw,reduceCtorEq,and_false,exists_false] at h;done)
  |(
    rename_i ho _;simp only[dV,dy,ee,cw] at h;obtain⟨ac,pv,hI,gW,he⟩:=h;cases he;exact⟨_,ho,pv,gW⟩)
  |(
    rename_i ho;simp only[dV,dy,ee,cw] at h;obtain⟨ac,pv,hI,gW,he⟩:=h;cases he;exact⟨_,ho,pv,gW⟩)
  |(
    exfalso
    repeat' first
     |(cases h;done)
     |(simp only[eE,reduceCtorEq,and_false,exists_false] at h;done)
     |(simp only[dV,dy,ee,cw,reduceCtorEq,and_false,exists_false] at h;done)
     |split at h
     |(obtain⟨_,_,h⟩:=h)
     |(simp only[dV,dy,ee,cw] at h))
end
section
variable {P:Program}{env:Env}{B f:Nat}
def Ww{o:Oper}{bI:aH}(h:cop P o=some (.panic bI)):∃x,opdOf x=some bI/\(o.op= .panic x\/∃xs h8,o.op= .call {callee:=.builtin .panic,args:=xs,argTypes:=h8}/\xs.toList=[x]):=by
 unfold cop at h;split at h
 all_goals first
  |(cases h;done)
  |(simp only[eE,reduceCtorEq,and_false,exists_false] at h;done)
  |(simp only[dV,dy,ee,cw,reduceCtorEq,and_false,exists_false] at h;done)
  |(
    rename_i ho;simp only[eE] at h;obtain⟨ac,pv,he⟩:=h;cases he;exact⟨_,pv,.inl ho⟩)
  |skip
 all_goals first
  |(
    rename_i ho;split at h
    all_goals first
     |(cases h;done)
     |(
      simp only[eE] at h;obtain⟨ac,pv,he⟩:=h;cases he;rename_i ed;exact⟨_,pv,.inr ⟨_,_,ho,ed⟩⟩)
     |(
      exfalso
      repeat' first
       |(cases h;done)
       |(simp only[eE,reduceCtorEq,and_false,exists_false] at h;done)
       |(simp only[dV,dy,ee,cw,reduceCtorEq,and_false,exists_false] at h;done)
       |split at h
       |(obtain⟨_,_,h⟩:=h)
       |(simp only[dV,dy,ee,cw] at h)))
  |(
    exfalso
    repeat' first
     |(cases h;done)
     |(simp only[eE,reduceCtorEq,and_false,exists_false] at h;done)
     |(simp only[dV,dy,ee,cw,reduceCtorEq,and_false,exists_false] at h;done)
     |split at h
     |(obtain⟨_,_,h⟩:=h)
     |(simp only[dV,dy,ee,cw] at h))
def Wx{o:Oper}{a:Act}{x:Operand}(ho:o.op= .panic x\/∃xs h8,o.op= .call {callee:=.builtin .panic,args:=xs,argTypes:=h8}/\xs.toList=[x]){t:TypeId}{u:Value}(hx:a.eval x= .iface t u)(w:World):
  (execOp a.eval o).run P w= .halt (.panic (.iface t u)) w:=by
 rcases ho with ho|⟨xs,h8,ho,ed⟩
 ·simp[execOp,ho,hx,Instr.panic,goPanic]
 ·obtain rfl:=rN ed;rw[DY ho];simp[builtin,hx,Instr.panic,goPanic]
def w9{av:aH->Option AV}{J:ag}{op:AOp}{bx:AV}{args:List AV}(h:opx f av J op=some (.call bx args)):∃c as,op= .call c as/\calleeV av c=some bx/\mapO av as=some args:=by
 cases op<;>simp only[opx] at h
 all_goals first
  |(cases h;done)
  |(
    rename_i c as;split at h<;>cases h;rename_i h1 h2;exact⟨c,as,rfl,h1,h2⟩)
  |(exfalso;repeat' first|(cases h;done)|(rcases IN h with⟨_,e⟩|⟨e,_⟩<;>cases e;done)|(obtain⟨_,_,e⟩:=OF h;cases e;done)|(obtain⟨_,e⟩:=I3 h;cases e;done)|(obtain⟨_,e⟩:=I4 h;cases e;done)|split at h|(simp only[w2] at h))
def b1X{av:aH->Option AV}{J:ag}{op:AOp}{bx:AV}{args:List AV}(h:opx f av J op=some (.iP bx args)):∃c as,op= .iP c as/\calleeV av c=some bx/\mapO av as=some args:=by
 cases op<;>simp only[opx] at h
 all_goals first
  |(cases h;done)
  |(
    rename_i c as;split at h<;>cases h;rename_i h1 h2;exact⟨c,as,rfl,h1,h2⟩)
  |(exfalso;repeat' first|(cases h;done)|(rcases IN h with⟨_,e⟩|⟨e,_⟩<;>cases e;done)|(obtain⟨_,_,e⟩:=OF h;cases e;done)|(obtain⟨_,e⟩:=I3 h;cases e;done)|(obtain⟨_,e⟩:=I4 h;cases e;done)|split at h|(simp only[w2] at h))
def Wy{av:aH->Option AV}{J:ag}{op:AOp}{v:AV}(h:opx f av J op=some (.panic v)):∃x t u,op= .panic x/\av x=some (.it t u)/\v= .it t u:=by
 cases op<;>simp only[opx] at h
 all_goals first
  |(cases h;done)
  |(
    rename_i x;split at h<;>cases h;rename_i h1;exact⟨x,_,_,rfl,h1,rfl⟩)
  |(exfalso;repeat' first|(cases h;done)|(rcases IN h with⟨_,e⟩|⟨e,_⟩<;>cases e;done)|(obtain⟨_,_,e⟩:=OF h;cases e;done)|(obtain⟨_,e⟩:=I3 h;cases e;done)|(obtain⟨_,e⟩:=I4 h;cases e;done)|split at h|(simp only[w2] at h))
def I6{o:Oper}{c:Call}{cA:AOp}(an:o.op= .defer c)(h:cop P o=some cA):∃ac as,cA= .iP ac as:=by
 obtain⟨callee,args,c3Z⟩:=c;unfold cop at h;rw[an] at h;cases callee with
 |builtin b=>cases h
 |value x=>
  simp only[dV,dy,ee,cw] at h;obtain⟨ac,_,as,_,he⟩:=h;exact⟨ac,as,he.symm⟩
 |invoke x n=>
  simp only[dV,dy,ee,cw] at h;obtain⟨ac,_,as,_,he⟩:=h;exact⟨ac,as,he.symm⟩
def D3{o:Oper}{cA:AOp}(h:copB P o=cA)(hb:cA≠ .bad):cop P o=some cA:=by
 unfold copB at h;split at h
 ·subst h;assumption
 ·exact absurd h.symm hb
def I7{ops:Array Oper}{o:Oper}{aS:aX}(h:coper P ops o=some aS):aS.op=copB P o/\aS.dst=o.dst:=by
 unfold coper at h;split at h<;>cases h;exact⟨rfl,rfl⟩
def w_(op:AOp)(floor:Nat)(av:aH->Option AV)(J:ag):rq op floor av J=opx floor av J op:=by
 cases op<;>rfl
def b1Y(floor:Nat)(call:AV->List AV->ag->Option (cQ×ag))(rc:Option AV)(dm:Bool)(ai:Fr)(J:ag):lb env floor call rc dm [] ai J=some (.normal,ai,J):=rfl
def runOpsD_cons(floor:Nat)(call:AV->List AV->ag->Option (cQ×ag))(rc:Option AV)(dm:Bool)(o:aX)(ops:List aX)(ai:Fr)(J:ag):lb env floor call rc dm (o::ops) ai J=
  cond (wantedA o.guard ai.a5)
   (match o.op with
    | .recover=>match rc with
     |some v=>lb env floor call rc dm ops (Fr.put ⟨ai.a5,ai.defers,true⟩ o.dst (cond ai.fh .eC v)) J
     |none=>none
    |op=>match opx floor (evalA env ai.a5) J op with
     |some (.val v J)=>lb env floor call rc dm ops (ai.put o.dst v) J
     |some (.call bx args)=>match call bx args J with
      |some (.ok v,J)=>lb env floor call rc dm ops (ai.put o.dst v) J
      |some (.err v,J)=>some (.panic v,ai,J)
      |none=>none
     |some (.iP bx args)=>cond (dm&&isFn bx) (lb env floor call rc dm ops (Fr.put ⟨ai.a5,.inr (bx,args)::ai.defers,ai.fh⟩ o.dst c4) J) none
     |some (.panic v)=>some (.panic v,ai,J)
     |some (.g3 _)=>none
     |none=>none)
   (lb env floor call rc dm ops (ai.put o.dst c4) J):=by
 show cond (wantedA o.guard ai.a5) (cond o.op.isRec _ (match rq o.op floor (evalA env ai.a5) J with|some (.val v J)=>_|some (.call bx args)=>_|some (.iP bx args)=>_|some (.panic v)=>_|some (.g3 _)=>_|none=>none)) _=_;rw[w_];rcases o with⟨dst,op,g,wn⟩
 cases op<;>rfl
def b1Z(floor:Nat)(call:kY)(dm:Bool)(ai:Fr)(J:ag):runOps env floor call dm [] ai J=some [(.normal,ai,J)]:=rfl
def xa(floor:Nat)(call:kY)(dm:Bool)(o:aX)(ops:List aX)(ai:Fr)(J:ag):runOps env floor call dm (o::ops) ai J=
  cond (wantedA o.guard ai.a5)
   (match opx floor (evalA env ai.a5) J o.op with
    |some (.val v J)=>runOps env floor call dm ops (ai.put o.dst v) J
    |some (.call bx args)=>hP (call bx args J) (λr=>match r with
     |(.ok v,J)=>runOps env floor call dm ops (ai.put o.dst v) J
     |(.err v,J)=>some [(.panic v,ai,J)])
    |some (.iP bx args)=>cond (dm&&isFn bx) (runOps env floor call dm ops (Fr.put ⟨ai.a5,.inr (bx,args)::ai.defers,ai.fh⟩ o.dst c4) J) none
    |some (.panic v)=>some [(.panic v,ai,J)]
    |some (.g3 l)=>j6 (λp=>runOps env floor call dm ops (ai.put o.dst p.1) p.2) l
    |none=>none)
   (runOps env floor call dm ops (ai.put o.dst c4) J):=by
 show Bool.rec (motive:=λ_=>Option m9) (runOps env floor call dm ops (ai.oz o.dst c4) J)
   (Option.rec (motive:=λ_=>Option m9) none (λr=>bH.rec (motive:=λ_=>Option m9)
    (λv J=>runOps env floor call dm ops (ai.oz o.dst v) J)
    (λbx args=>hP (call bx args J) (λr=>match r with
     |(.ok v,J)=>runOps env floor call dm ops (ai.oz o.dst v) J
     |(.err v,J)=>some [(.panic v,ai,J)]))
    (λbx args=>cond (dm&&isFn bx) (runOps env floor call dm ops (Fr.oz ⟨ai.a5,.inr (bx,args)::ai.defers,ai.fh⟩ o.dst c4) J) none)
    (λv=>some [(.panic v,ai,J)])
    (λl=>j6 (λp=>runOps env floor call dm ops (ai.oz o.dst p.1) p.2) l) r)
    (rq o.op floor (A5 env ai.a5) J))
   (Ih o.guard ai.a5)=_
 rw[ry,U8,U9,NB,w_];cases opx floor (evalA env ai.a5) J o.op with
 |none=>rfl
 |some r=>cases r<;>rfl
def Wz{r:Option Nat}{call:kY}(oI:D2 P env B f r call){ops:Array Oper}{k:Nat}{dm:Bool}(hnd:dm=true->r=none):
  ∀(ol:List Oper) (hI:List aX) (ai:Fr) (J:ag) (outs:m9) (a:Act) (w:World) (m:Nat->Option Nat),mapOL (coper P ops) ol=some hI->runOps env f call dm hI ai J=some outs->eP P env ai a J w m B→
   ∀Q:Exit->Act->World->Prop,(∀e bQ af,(e,bQ,af)∈outs->∀x cC ax aK,ExR ax aK (bh af aK) B e x->eP P env bQ cC af ax aK B->Ext f J w m af ax aK->Q x cC ax)->wpListIn (e9 r) k P ops Q ol a w
 |[],hI,ai,J,outs,a,w,m,hm,h,st,Q,cu=>by
  simp[mapOL] at hm;subst hm;rw[b1Z] at h;cases h;exact cu _ _ _ (dx.2 I) .normal a w m trivial st (Ext.refl _ _ _ _)
 |o::ol,hI,ai,J,outs,a,w,m,hm,h,st,Q,cu=>by
  rw[mapOL] at hm;split at hm<;>cases hm;rename_i aS D4 ho DO;obtain⟨eO,jk⟩:=I7 ho;rw[xa] at h;rw[wpListIn,I5 ho st.ctx.a5];have next:∀ {eU:Fr} {a9:Act} {bu:ag} {bf:World} {b3:Nat->Option Nat} {gq:m9},runOps env f call dm D4 eU bu=some gq->(∀y∈gq,y∈outs)->eP P env eU a9 bu bf b3 B->Ext f J w m bu bf b3->wpListIn (e9 r) k P ops Q ol a9 bf:=
   λ{eU a9 bu bf b3 gq} h1 gr gX dn=>Wz oI hnd ol D4 eU bu gq a9 bf b3 DO h1 gX Q (λe bQ af eQ x cC ax aK hx cR hex=>cu e bQ af (gr _ eQ) x cC ax aK hx cR (dn.trans st.ctx.rel hex))
  cases hw:wantedA aS.guard ai.a5 with
  |false=>
   rw[hw,cond_false] at h;simp only[rj,if_false];refine⟨λf _=>trivial,next h (λ_ h=>h) ?_ (Ext.refl _ _ _ _)⟩;rw[jk];exact st.put _ az.undef
  |true=>
   rw[hw,cond_true] at h;simp only[if_true];generalize OG:aS.op=cA at h eO;have ae:∀res,opx f (evalA env ai.a5) J cA=some res->cop P o=some cA:=λres dh=>D3 eO.symm (λhb=>by subst hb;simp[opx] at dh);have zg:∀v bu,opx f (evalA env ai.a5) J cA=some (.val v bu)->∀c,o.op≠ .defer c:=λv bu hx c an=>by
    have hh:=I6 an (ae _ hx);obtain⟨ac,as,rfl⟩:=hh;simp only[opx] at hx;split at hx<;>cases hx
   split at h
   ·-- a value
    rename_i v bu hx;have aC:=Bt st.ctx (ae _ hx) hx;obtain⟨u,bf,b3,b5,hR,nS,dn⟩:=aC;have ak:(o.semAt (e9 r).round a.eval)=execOp a.eval o:=u6 _ _ _ (zg _ _ hx);have cR:=(st.ext dn nS).put aS.dst hR;rw[jk] at cR h;refine⟨λf _=>trivial,?_⟩;rw[ak];rcases b5 with b5|⟨b5,rfl⟩
    ·rw[b5];exact next h (λ_ h=>h) cR dn
    ·rw[b5];exact next h (λ_ h=>h) cR dn
   ·-- a call
    rename_i bx args hx;obtain⟨c,as,rfl,pn,has⟩:=w9 hx;obtain⟨aU,D5,D6,pw⟩:=Wv (ae _ hx);obtain⟨x,gQ,zh⟩:=OJ D6 st.ctx pn;have D7:=DE st.ctx.rel.zb st.ctx.globs st.ctx.a5 pw has;obtain⟨j_,j9,g4⟩:=w8 h;have dh:=oI _ _ _ _ j9 (k-1) w m _ _ st.ctx.rel st.ctx.globs zh D7;refine Wu D5 gQ (us:=aU.args.map a.eval) I (λ_=>trivial) I (by
     have aF:(aU.args.toList.map a.eval).toArray=aU.args.map a.eval:=by apply m6;simp
     rw[aF] at dh;exact dh) (λaF bf al=>?_)
    obtain⟨ret,bu,eQ,b3,h1,h2,h3⟩:=al;obtain⟨gq,ev,gr⟩:=g4 _ eQ;cases ret with
    |ok v=>
     cases aF with
     |returned u=>
      have cR:=(st.ext h3 h2).put aS.dst h1;rw[jk] at cR ev;exact next ev gr cR h3
     |panicked mL=>exact h1.elim
     |outgrown=>exact h1.elim
    |err v=>
     simp only[cw] at ev;subst ev;cases aF with
     |returned u=>exact h1.elim
     |panicked mL=>exact cu _ _ _ (gr _ (dx.2 I)) _ _ _ b3 h1 (st.ext h3 h2) h3
     |outgrown=>exact h1.elim
   ·-- a deferred call
    rename_i bx args hx;obtain⟨c,as,rfl,pn,has⟩:=b1X hx;obtain⟨aU,D5,D6,pw⟩:=b1W (ae _ hx);obtain⟨x,gQ,zh⟩:=OJ D6 st.ctx pn;have D7:=DE st.ctx.rel.zb st.ctx.globs st.ctx.a5 pw has;cases D8:(dm&&isFn bx) with
    |false=>rw[D8] at h;cases h
    |true=>
     rw[D8,cond_true] at h;simp only[c7] at D8;have nT:=hnd D8.1;subst nT;have hval:∃g bO cs gT e5,bx= .f (.func g) bO cs/\a.eval x= .func (.func g) gT e5/\bF w m (bh J m) B bO gT.toList/\bF w m (bh J m) B cs e5.toList:=by
      revert zh;generalize a.eval x=ni;intro zh;cases zh with
      |na hf bE hJ s4=>exact⟨_,_,_,_,_,rfl,rfl,⟨by simpa using hf,λi p q=>by simpa using bE i p (by simpa using q)⟩,⟨by simpa using hJ,λi p q=>by simpa using s4 i p (by simpa using q)⟩⟩
      |_=>simp[isFn] at D8
     obtain⟨g,bO,cs,gT,e5,rfl,hex,fS,hJ⟩:=hval;have b5:(o.semAt (e9 none).round a.eval).run P w= .ok (.defer {target:=.fn (.func g) e5,args:=gT++aU.args.map a.eval}) w:=by
      show(execOp a.eval o).run P w=_;unfold execOp;rw[D5];simp[resolve,gQ,Deferred.ofValue,hex]
     refine⟨λf _=>trivial,?_⟩;rw[b5];have aF:(aU.args.map a.eval).toList=aU.args.toList.map a.eval:=by simp
     have cR:eP P env ⟨ai.a5,.inr (.f (.func g) bO cs,args)::ai.defers,ai.fh⟩ {a with defers:={target:=.fn (.func g) e5,args:=gT++aU.args.map a.eval}::a.defers} J w m B:=
      ⟨⟨st.ctx.rel,st.ctx.a5,st.ctx.globs⟩,⟨⟨g,bO,cs,gT,e5,aU.args.map a.eval,rfl,rfl,fS,hJ,by rw[aF];exact D7⟩,st.defs⟩⟩
     have qB:=cR.put aS.dst az.undef;rw[jk] at qB h;exact next h (λ_ h=>h) qB (Ext.refl _ _ _ _)
   ·-- a panic
    rename_i v hx;cases h;obtain⟨x,t,u,rfl,qC,rfl⟩:=Wy hx;obtain⟨D9,OK,xb⟩:=Ww (ae _ hx);have rP:=st.ctx.av OK qC;obtain⟨bW,nb⟩:∃bW,a.eval D9= .iface t bW:=by
     revert rP;generalize a.eval D9=ni;intro rP;cases rP;exact⟨_,rfl⟩
    have b5:=Wx (P:=P) xb nb w;have ak:(o.semAt (e9 r).round a.eval)=execOp a.eval o:=u6 _ _ _ (λc an=>by rcases xb with xb|⟨_,_,xb,_⟩<;>(rw[an] at xb;cases xb));refine⟨λf _=>trivial,?_⟩;rw[ak,b5];rw[nb] at rP;exact cu _ _ _ (dx.2 I) _ _ _ m ⟨_,rfl,rP⟩ st (Ext.refl _ _ _ _)
   ·-- a step of wP iterator
    rename_i l hx;obtain⟨b2a,p,ay,aC⟩:=b1S st.ctx (ae _ hx) hx;obtain⟨gq,ev,gr⟩:=OH h p ay;obtain⟨u,bf,b3,b5,hR,nS,dn⟩:=aC;have ak:(o.semAt (e9 r).round a.eval)=execOp a.eval o:=u6 _ _ _ b2a;have cR:=(st.ext dn nS).put aS.dst hR;rw[jk] at cR ev;refine⟨λf _=>trivial,?_⟩;rw[ak];rcases b5 with b5|⟨b5,rfl⟩
    ·rw[b5];exact next ev gr cR dn
    ·rw[b5];exact next ev gr cR dn
   ·cases h
end
def Bv(m:Nat->Option Nat):Option Nat->Option Nat->Prop
 |none,none=>True
 |some l,some b=>m l=some b
 |_,_=>False
def Bv.mono{m aK:Nat->Option Nat}(hm:∀id aA,m id=some aA->aK id=some aA){aJ r:Option Nat}(h:Bv m aJ r):Bv aK aJ r:=by
 cases aJ<;>cases r<;>first|trivial|exact h.elim|exact hm _ _ h
def vb(F:Fence)(n:Nat)(P:Program)(c:Code)(Q:Exit->Act->World->Prop)(a:Act)(w:World):Prop:=
 ∀(b:Frame) (k:List Item) (cs:List Frame),b.roundOf=F.round->F.fn b.fn->F.room (cs.length+1+n)→
  ∃e cC ax,Q e cC ax/\ArrivesIn (Machine.fenced P F) P (lone (b.atR a (.code c:: .inLoop c::k)) cs w) b k cs e cC ax
def vb.wpIn{F:Fence}{n:Nat}{P:Program}{c:Code}{Q:Exit->Act->World->Prop}{a:Act}{w:World}(h:vb F n P c Q a w):(Code.loop c).wpIn F n P Q a w:=by
 intro b k cs Bw hb al;obtain⟨e,cC,ax,aP,nU⟩:=h b k cs Bw hb al;exact⟨e,cC,ax,aP,.of_steps (.one (fenced_calm hb al I) stepR_loop) nU⟩
def vb.round{F:Fence}{n:Nat}{P:Program}{c:Code}{Q:Exit->Act->World->Prop}{a:Act}{w:World}(h:c.wpIn F n P (Exit.then (vb F n P c Q) Q) a w):vb F n P c Q a w:=by
 intro b k cs Bw hb al;obtain⟨e,rQ,rR,aP,nU⟩:=h b (.inLoop c::k) cs Bw hb al;cases e with
 |normal=>
  obtain⟨b2b,b2c,b2d,b2e,b2f⟩:=aP b k cs Bw hb al;exact⟨b2b,b2c,b2d,b2e,.of_steps (StepsIn.trans nU (.one (fenced_calm hb al I) stepR_inLoop)) b2f⟩
 |exit id=>exact⟨_,rQ,rR,aP,.pass (x:=.inLoop c) I (λ_ _=>.inl aT) nU⟩
 |goto l=>exact⟨_,rQ,rR,aP,.pass (x:=.inLoop c) I (λ_ _=>.inl aT) nU⟩
 |ret=>exact⟨_,rQ,rR,aP,.pass (x:=.inLoop c) I (λ_ _=>.inl aT) nU⟩
 |panic mL=>exact⟨_,rQ,rR,aP,.pass (x:=.inLoop c) I (λ_ _=>.inl aT) nU⟩
 |outgrown=>exact⟨_,rQ,rR,aP,.pass (x:=.inLoop c) I (λ_ _=>.inl aT) nU⟩
def Bx{P:Program}{b:Frame}{a:Act}{k:List Item}{cs:List Frame}{w:World}{c:Code}:Go.step P (lone (b.atR a (.code (.scope c)::k)) cs w)= .next (lone (b.atR a (.code c:: .inScope c::k)) cs w):=
 step_lone_go (by simp[stepG,stepG.exec,Frame.atR])
def b2g{P:Program}{b:Frame}{a:Act}{k:List Item}{cs:List Frame}{w:World}{c:Code}:Go.step P (lone (b.atR a (.inScope c::k)) cs w)= .next (lone (b.atR a k) cs w):=
 step_lone_go (by simp[stepG,stepG.exec,Frame.atR])
def b2h{F:Fence}{n:Nat}{P:Program}{Q:Exit->Act->World->Prop}{a:Act}{w:World}{c:Code}(h:c.wpIn F n P (Exit.noGoto Q) a w):(Code.scope c).wpIn F n P Q a w:=by
 intro b k cs Bw hb al;have h0:(lone (b.atR a (.code (.scope c)::k)) cs w).fenced P F:=fenced_calm hb al I;obtain⟨e,rQ,rR,aP,nU⟩:=h b (.inScope c::k) cs Bw hb al;cases e with
 |normal=>exact⟨.normal,rQ,rR,aP,.head h0 Bx (StepsIn.trans nU (.one (fenced_calm hb al I) b2g))⟩
 |exit id=>
  have hx:exitTo id (.inScope c::k)=exitTo id k:=by simp[exitTo]
  exact⟨.exit id,rQ,rR,aP,λfg aC=>.head h0 Bx (nU.1 fg (by rw[hx];exact aC)),
   λpr aC=>let⟨k₁,h1,h2⟩:=nU.2 pr (by rw[hx];exact aC);⟨k₁,h1,.head h0 Bx h2⟩⟩
 |goto l=>exact aP.elim
 |ret=>exact⟨_,rQ,rR,aP,.of_steps (.one h0 Bx) nU⟩
 |panic mL=>exact⟨_,rQ,rR,aP,.of_steps (.one h0 Bx) nU⟩
 |outgrown=>exact⟨_,rQ,rR,aP,.of_steps (.one h0 Bx) nU⟩
def qD(P:Program)(env:Env)(B:Nat)(run:jg):Prop:=
 ∀floor aJ ac ai J outs,run floor aJ ac ai J=some outs->∀k r c a w m,ccode P c=some ac->Bv m aJ r->eP P env ai a J w m B→
  ∀Q:Exit->Act->World->Prop,(∀e bQ af,(e,bQ,af)∈outs->∀x cC ax aK,ExR ax aK (bh af aK) B e x->eP P env bQ cC af ax aK B->Ext floor J w m af ax aK->Q x cC ax)→
   c.wpIn (e9 r) k P Q a w/\∀bn,c= .loop bn->vb (e9 r) k P bn Q a w
section
variable {P:Program}{env:Env}{B:Nat}
def b2i(env:Env):exec env 0=λ_ _ _ _ _=>none:=rfl
def oJ(env:Env)(n:Nat):exec env (n+1)=step env (exec env n):=a8L env (exec env n)
def qD.zero:qD P env B (exec env 0):=λfloor aJ ac ai J outs h=>by rw[b2i] at h;cases h
def WA(P:Program)(env:Env)(B:Nat)(run:jg):Prop:=
 ∀floor ops ai J l,runDraws env floor (callV env run floor) ops ai [] [] J=some l->(∀x∈l,x.2.2.1.all (steady env floor (x.2.2.2::x.2.1).reverse)=true/\swapOk env x.1.a5 ops=true)->∀k r id WB a w m,cdraw P WB=some ops->eP P env ai a J w m B→
  ∀Q:Exit->Act->World->Prop,(∀x∈l,∀cC ax aK,eP P env x.1 cC x.2.2.2 ax aK B->Ext floor J w m x.2.2.2 ax aK->Q .normal cC ax)->(Code.region id WB true).wpIn (e9 r) k P Q a w
def WC(P:Program)(env:Env)(B:Nat)(run:jg):Prop:=
 ∀floor aJ f aE as b ai J outs,step env run floor aJ (.rangeFunc f aE as b) ai J=some outs->∀k r c a w m,ccode P c=some (.rangeFunc f aE as b)->Bv m aJ r->eP P env ai a J w m B→
  ∀Q:Exit->Act->World->Prop,(∀e bQ af,(e,bQ,af)∈outs->∀x cC ax aK,ExR ax aK (bh af aK) B e x->eP P env bQ cC af ax aK B->Ext floor J w m af ax aK->Q x cC ax)->c.wpIn (e9 r) k P Q a w
def k3{α:Type}(x:α):x∈[x]:=dx.2 I
def mapO_mem{α β:Type}{f:α->Option β}:∀ {l:List α} {r:List β},mapO f l=some r->∀x∈l,∃y,f x=some y/\y∈r
 |[],_,_,x,hx=>by simp at hx
 |a::l,r,h,x,hx=>by
  have h:(match f a with|none=>none|some y=>match mapO f l with|none=>none|some a4=>some (y::a4))=some r:=h;split at h
  ·cases h
  ·rename_i y aI;split at h
   ·cases h
   ·rename_i a4 zi;cases h;rcases eH.1 hx with rfl|hx
    ·exact⟨y,aI,oq⟩
    ·obtain⟨z,h1,h2⟩:=mapO_mem zi x hx;exact⟨z,h1,fP _ h2⟩
def WD{env:Env}{floor:Nat}{ops:List aX}{x:jh}{y:hd×Fr×ag}(h:drawn env floor ops x=some y):(x.2.2.1.all (steady env floor (x.2.2.2::x.2.1).reverse)=true/\swapOk env x.1.a5 ops=true)/\y=(.normal,x.1,x.2.2.2):=by
 unfold drawn at h;cases ak:(x.2.2.1.all (steady env floor (x.2.2.2::x.2.1).reverse)&&swapOk env x.1.a5 ops) with
 |false=>rw[ak] at h;cases h
 |true=>
  rw[ak,cond_true] at h;cases h;rw[c7] at ak;exact⟨ak,rfl⟩
def b2j{run:jg}(b5:qD P env B run)(oI:∀f r,D2 P env B f r (callV env run f))(b2k:WA P env B run)(b2l:WC P env B run):qD P env B (step env run):=by
 intro floor aJ ac ai J outs h k r c a w m ae mM st Q cu;have ti:(∀bn,c≠ .loop bn)->c.wpIn (e9 r) k P Q a w->c.wpIn (e9 r) k P Q a w/\∀bn,c= .loop bn->vb (e9 r) k P bn Q a w:=λh1 h2=>⟨h2,λbn he=>absurd he (h1 bn)⟩
 have trans:∀ {bu:ag} {bf:World} {b3:Nat->Option Nat} {gq:m9},Ext floor J w m bu bf b3->(∀y∈gq,y∈outs)->∀e bQ af,(e,bQ,af)∈gq->∀x cC ax aK,ExR ax aK (bh af aK) B e x->eP P env bQ cC af ax aK B->Ext floor bu bf b3 af ax aK->Q x cC ax:=
  λdn gr e bQ af eQ x cC ax aK hx cR hex=>cu e bQ af (gr _ eQ) x cC ax aK hx cR (dn.trans st.ctx.rel hex)
 cases c with
 |skip=>
  simp only[ccode,cw] at ae;subst ae;simp only[step] at h;cases h;exact ti (λ_ h=>by cases h) (wpIn_skip (cu _ _ _ (k3 _) .normal a w m trivial st (Ext.refl _ _ _ _)))
 |label l=>
  simp only[ccode,cw] at ae;subst ae;simp only[step] at h;cases h;exact ti (λ_ h=>by cases h) (wpIn_label (cu _ _ _ (k3 _) .normal a w m trivial st (Ext.refl _ _ _ _)))
 |goto l=>simp only[ccode,cw] at ae;subst ae;simp[step] at h
 |refuse l=>simp only[ccode,cw] at ae;subst ae;simp[step] at h
 |exit id=>
  simp only[ccode,cw] at ae;subst ae;simp only[step] at h;cases h;exact ti (λ_ h=>by cases h) (wpIn_exit (cu _ _ _ (k3 _) (.exit id) a w m rfl st (Ext.refl _ _ _ _)))
 |ret=>
  simp only[ccode,cw] at ae;subst ae;simp only[step] at h;cases h;exact ti (λ_ h=>by cases h) (wpIn_ret (cu _ _ _ (k3 _) .ret a w m trivial st (Ext.refl _ _ _ _)))
 |region id ops dR=>
  refine ti (λ_ h=>by cases h) ?_;cases dR with
  |true=>
   simp only[ccode] at ae;split at ae<;>cases ae
   ·rename_i l ao;simp only[step] at h;split at h<;>try (cases h;done)
    rename_i tj an;have hx:=λx hx=>mapO_mem h x hx;refine b2k _ _ _ _ _ an (λx hm=>?_) k r id ops a w m ao st Q (λx hm cC ax aK h3 aN=>?_)
    ·obtain⟨y,h1,_⟩:=hx x hm;exact(WD h1).1
    ·obtain⟨y,h1,lN⟩:=hx x hm;obtain⟨_,rfl⟩:=WD h1;exact cu _ _ _ lN .normal cC ax aK trivial h3 aN
   ·simp[step] at h
  |false=>
   simp only[ccode] at ae;split at ae<;>cases ae
   ·rename_i l ao;simp only[step] at h;refine wpIn_region_list (Wz (oI floor r) (λhn=>?_) _ _ _ _ _ _ _ _ ao h st Q cu);cases aJ<;>cases r<;>first|rfl|exact mM.elim|simp at hn
   ·simp[step] at h
 |seq x y=>
  refine ti (λ_ h=>by cases h) ?_;simp only[ccode] at ae;split at ae<;>cases ae;rename_i bI ew hx aI;simp only[step] at h;refine wpIn_seq ?_;obtain⟨l,vc,g4⟩:=w8 h;refine(b5 _ _ _ _ _ _ vc k r x a w m hx mM st _ (λaF eU bu eQ cU a9 bf b3 e_ fX hk=>?_)).1;obtain⟨gq,ev,gr⟩:=g4 _ eQ;cases aF with
  |normal=>
   cases cU<;>try exact e_.elim
   exact(b5 _ _ _ _ _ _ ev k r y a9 bf b3 aI (mM.mono hk.mono) fX Q (trans hk gr)).1
  |exit id=>cases ev;cases cU<;>first|exact e_.elim|exact cu _ _ _ (gr _ (k3 _)) _ a9 bf b3 e_ fX hk
  |ret=>cases ev;cases cU<;>first|exact e_.elim|exact cu _ _ _ (gr _ (k3 _)) _ a9 bf b3 e_ fX hk
  |panic v=>cases ev;cases cU<;>first|exact e_.elim|exact cu _ _ _ (gr _ (k3 _)) _ a9 bf b3 e_ fX hk
 |cond t x y=>
  refine ti (λ_ h=>by cases h) ?_;simp only[ccode] at ae;split at ae<;>cases ae;rename_i at' bI ew ht hx aI;simp only[step] at h;split at h<;>try (cases h;done)
  rename_i OL OM;have ON:=(st.ctx.av ht OM).wU;refine wpIn_cond ON ?_;cases OL with
  |true=>exact(b5 _ _ _ _ _ _ h k r x a w m hx mM st Q cu).1
  |false=>exact(b5 _ _ _ _ _ _ h k r y a w m aI mM st Q cu).1
 |block id x=>
  refine ti (λ_ h=>by cases h) ?_;simp only[ccode] at ae;split at ae<;>cases ae;rename_i bI hx;simp only[step] at h;refine wpIn_block ?_;obtain⟨l,vc,g4⟩:=w8 h;refine(b5 _ _ _ _ _ _ vc k r x a w m hx mM st _ (λaF eU bu eQ cU a9 bf b3 e_ fX hk=>?_)).1;obtain⟨gq,ev,gr⟩:=g4 _ eQ;cases aF with
  |normal=>cases ev;cases cU<;>first|exact e_.elim|exact cu _ _ _ (gr _ (k3 _)) _ a9 bf b3 e_ fX hk
  |ret=>cases ev;cases cU<;>first|exact e_.elim|exact cu _ _ _ (gr _ (k3 _)) _ a9 bf b3 e_ fX hk
  |panic v=>cases ev;cases cU<;>first|exact e_.elim|exact cu _ _ _ (gr _ (k3 _)) _ a9 bf b3 e_ fX hk
  |exit j=>
   cases cU<;>try exact e_.elim
   rename_i sX;have aG:j=sX:=e_;subst aG;have ev:cond (Nat.beq j id) (some [(hd.normal,eU,bu)]) (some [(hd.exit j,eU,bu)])=some gq:=ev;cases hb:Nat.beq j id with
   |true=>
    rw[hb,cond_true] at ev;cases ev;have:=eM hb;simp only[Exit.inBlock,this,if_true];exact cu _ _ _ (gr _ (k3 _)) .normal a9 bf b3 trivial fX hk
   |false=>
    rw[hb,cond_false] at ev;cases ev;have:j≠id:=λhe=>by rw[he,fE] at hb;cases hb
    simp only[Exit.inBlock,this,if_false];exact cu _ _ _ (gr _ (k3 _)) (.exit j) a9 bf b3 I fX hk
 |loop x=>
  simp only[ccode] at ae;split at ae<;>cases ae;rename_i bI hx;have hL:vb (e9 r) k P x Q a w:=by
   refine vb.round ?_;simp only[step] at h;obtain⟨l,vc,g4⟩:=w8 h;refine(b5 _ _ _ _ _ _ vc k r x a w m hx mM st _ (λaF eU bu eQ cU a9 bf b3 e_ fX hk=>?_)).1;obtain⟨gq,ev,gr⟩:=g4 _ eQ;cases aF with
   |normal=>
    cases cU<;>try exact e_.elim
    exact(b5 _ _ _ _ _ _ ev k r (.loop x) a9 bf b3 (by simp only[ccode,hx]) (mM.mono hk.mono) fX Q (trans hk gr)).2 x I
   |exit id=>cases ev;cases cU<;>first|exact e_.elim|exact cu _ _ _ (gr _ (k3 _)) _ a9 bf b3 e_ fX hk
   |ret=>cases ev;cases cU<;>first|exact e_.elim|exact cu _ _ _ (gr _ (k3 _)) _ a9 bf b3 e_ fX hk
   |panic v=>cases ev;cases cU<;>first|exact e_.elim|exact cu _ _ _ (gr _ (k3 _)) _ a9 bf b3 e_ fX hk
  exact⟨hL.wpIn,λbn he=>by cases he;exact hL⟩
 |scope x=>
  refine ti (λ_ h=>by cases h) ?_;simp only[ccode] at ae;split at ae<;>cases ae;rename_i bI hx;simp only[step] at h;refine b2h ((b5 _ _ _ _ _ _ h k r x a w m hx mM st _ (λaF eU bu eQ cU a9 bf b3 e_ fX hk=>?_)).1);cases cU with
  |goto l=>cases aF<;>exact e_.elim
  |_=>exact cu _ _ _ eQ _ a9 bf b3 e_ fX hk
 |rangeFunc g aE as b=>
  refine ti (λ_ h=>by cases h) ?_;have fs:=ae;simp only[ccode] at ae;split at ae<;>cases ae;exact b2l _ _ _ _ _ _ _ _ _ h k r _ a w m fs mM st Q cu
end
structure px(P:Program)(env:Env):Prop where
 funcs:∀g bG,env.funcs g=some bG->∃fn,P.funcs[g]? =some fn/\cfunc P fn=some bG/\(fn.name== "runtime.NumGoroutine")=false
def D_{P:Program}{fn:Func}{bG:bP}(h:cfunc P fn=some bG):∃rs c ac,mapOL (resOf P) fn.results.toList=some rs/\fn.body=some c/\ccode P c=some ac/\bG={ig:=fn.params.size+fn.nfree,ntmps:=fn.ntmps,results:=rs,body:=some ac}:=by
 unfold cfunc at h;split at h<;>try (cases h;done)
 rename_i rs vd;split at h<;>try (cases h;done)
 rename_i c ae;split at h<;>cases h;rename_i ac Ea;exact⟨rs,c,ac,vd,ae,Ea,rfl⟩
section
variable {P:Program}{env:Env}{B:Nat}{J:ag}{w:World}{m:Nat->Option Nat}
def res1(tmps:Array Value):ResultVar->Sem Value
 | .tmp t=>pure (tmps.getD t undef)
 | .cell a t=>do loadVar t (←asAddr (tmps.getD a undef))
def b2m(fn:Func)(tmps:Array Value):results fn tmps=(do let a8 <-fn.results.mapM (res1 tmps);pure (if h:a8.size=1 then a8[0] else .tuple a8)):=by
 have:(λ(x:ResultVar)=>(match x with| .tmp t=>pure (tmps.getD t undef)| .cell a t=>(do loadVar t (←asAddr (tmps.getD a undef))):Sem Value))=res1 tmps:=by
  funext x;cases x<;>rfl
 unfold results;rw[<-this];rfl
def b2n(al:Rel P J w m B){aq:aY AV}{tmps:Array Value}(ak:iR w m (bh J m) B aq tmps.toList){x:ResultVar}{r:Nat×Option (Option Nat)}(hx:resOf P x=some r){v:AV}(h:resultOf J aq r=some v):
  ∃u,(res1 tmps x).run P w= .ok u w/\az w m (bh J m) B v u:=by
 have getD:∀ {t:Nat} {u:Value},tmps.toList[t]? =some u->tmps.getD t undef=u:=λ{t u} h=>by
  rw[mr] at h;simp[h]
 cases x with
 |tmp t=>
  simp only[resOf,cw] at hx;subst hx;simp only[resultOf] at h;cases au:aq.get t with
  |none=>simp[au] at h
  |some a_=>
   simp only[au,cw] at h;subst h;obtain⟨u,hu,h7⟩:=ak.1 _ _ au;exact⟨u,by simp only[res1,getD hu,hB],h7⟩
 |cell b t=>
  simp only[resOf] at hx;cases gF:shapeOf P t with
  |none=>simp[gF] at hx
  |some R=>
   simp only[gF,cw] at hx;subst hx;simp only[resultOf] at h;split at h<;>try (cases h;done)
   ·rename_i aP;cases aP
   ·rename_i id off fQ au aP;cases aP;split at h<;>try (cases h;done)
    rename_i c hg;obtain⟨u,hu,h7⟩:=ak.1 _ _ au;obtain⟨aA,hm,rfl⟩:=h7.u1;obtain⟨bW,h1,h2⟩:=Ve al gF hm hg h;exact⟨bW,by simp only[res1,getD hu,asAddr,er,hB,ez,h1],h2⟩
def WE(al:Rel P J w m B){aq:aY AV}{tmps:Array Value}(ak:iR w m (bh J m) B aq tmps.toList){fn:Func}{rs:List (Nat×Option (Option Nat))}(hx:mapOL (resOf P) fn.results.toList=some rs){v:AV}(h:resultsOf J aq rs=some v):
  ∃u,(results fn tmps).run P w= .ok u w/\az w m (bh J m) B v u:=by
 have key:∀(l:List ResultVar) (rs:List (Nat×Option (Option Nat))) (a8:List AV),mapOL (resOf P) l=some rs->mapO (resultOf J aq) rs=some a8→
   ∃us:List Value,(l.mapM (res1 tmps)).run P w= .ok us w/\bF w m (bh J m) B a8 us:=by
  intro l
  induction l with
  |nil=>
   intro rs a8 h1 h2;simp[mapOL] at h1;subst h1;rw[U5] at h2;cases h2;exact⟨[],aT,bF.nil⟩
  |cons x l ar=>
   intro rs a8 h1 h2;rw[mapOL] at h1;split at h1<;>cases h1;rename_i r b2o hS nV;rw[mapO_cons] at h2;split at h2<;>try (cases h2;done)
   rename_i a_ yZ;split at h2<;>cases h2;rename_i s6 b2p;obtain⟨u,hu,h7⟩:=b2n al ak hS yZ;obtain⟨us,k1,b2q⟩:=ar b2o s6 nV b2p;exact⟨u::us,by simp only[List.mapM_cons,er,hu,ez,k1,hB],bF.cons h7 b2q⟩
 have run:∀(a8:List AV),mapO (resultOf J aq) rs=some a8->∃us:List Value,(fn.results.mapM (res1 tmps)).run P w= .ok us.toArray w/\bF w m (bh J m) B a8 us:=λa8 kF=>by
  obtain⟨us,h1,h2⟩:=key _ _ _ hx kF;refine⟨us,?_,h2⟩;rw[UI];simp only[Sem.run_map,h1,ez]
 unfold resultsOf at h;rw[b2m];split at h<;>cases h
 ·rename_i au;obtain⟨us,h1,h2⟩:=run _ au;have ao:us.length=1:=h2.1;obtain⟨u,rfl⟩:∃u,us=[u]:=by cases us with|nil=>simp at ao|cons u t=>cases t with|nil=>exact⟨u,rfl⟩|cons _ _=>simp at ao
  refine⟨u,?_,h2.2 0 aT aT⟩;simp only[er,h1,ez,hB];simp
 ·rename_i a8 b_ au;obtain⟨us,h1,h2⟩:=run _ au;refine⟨.tuple us.toArray,?_,az.uY h2⟩;have ao:us.length≠1:=λh=>by
   rw[h2.1] at h;cases a8 with
   |nil=>simp at h
   |cons v t=>cases t with|nil=>exact b_ v rfl|cons _ _=>simp at h
  simp only[er,h1,ez,hB];simp[ao]
def oK(w:World)(m:Nat->Option Nat)(O:Nat->Prop)(B:Nat):Option AV->FrameMode->Prop
 |none,.returning=>True
 |some v,.panicking mL=>∃u,mL=[{v:=u,recovered:=false}]/\az w m O B v u
 |_,_=>False
def oK.ext{f:Nat}{af:ag}{ax:World}{aK:Nat->Option Nat}{p:Option AV}{u:FrameMode}(h:oK w m (bh J m) B p u)(he:Ext f J w m af ax aK)(al:Rel P J w m B):oK ax aK (bh af aK) B p u:=by
 cases p<;>cases u<;>first|exact h|(obtain⟨ni,h1,h2⟩:=h;exact⟨ni,h1,h2.ext he al⟩)
def OO(P:Program)(env:Env)(B f:Nat)(call:AV->List AV->AV->ag->Option (Bool×ag)):Prop:=
 ∀bx args p J r af,call bx args (p.getD .eC) J=some (r,af)->∀k w m u d,Rel P J w m B->Globs env w B->oK w m (bh J m) B p u->Bu w m (bh J m) B (.inr (bx,args)) d→
  ∃OP cap g By,d.target= .fn OP cap/\(invoke d.target d.args).run P w= .ok (.enter g By) w∧
   CallsDIn (e9 none) k P g By u w (λe bW ax=>(∃v,e= .returned v)/\∃aK,oK ax aK (bh af aK) B (cond r none p) (settle bW)/\Rel P af ax aK B/\Ext f J w m af ax aK)
def b2r(f:Nat)(call:AV->List AV->AV->ag->Option (Bool×ag))(p:Option AV)(J:ag):leave f call [] p J=some (p,J):=rfl
def leave_cons(f:Nat)(call:AV->List AV->AV->ag->Option (Bool×ag))(d:Nat ⊕ (AV×List AV))(ds:List (Nat ⊕ (AV×List AV)))(p:Option AV)(J:ag):leave f call (d::ds) p J=match d with
  | .inl b=>if Nat.blt b f then none else match J.get b with
   |some .dN=>leave f call ds p (J.set b .dead)
   |_=>none
  | .inr (bx,args)=>match call bx args (p.getD .eC) J with
   |some (r,J)=>leave f call ds (cond r none p) J
   |none=>none:=rfl
def OQ{f:Nat}{call:AV->List AV->AV->ag->Option (Bool×ag)}(oI:OO P env B f call){fn:Func}{rs:List (Nat×Option (Option Nat))}(hx:mapOL (resOf P) fn.results.toList=some rs){k:Nat}{tmps:Array Value}{aq:aY AV}:
  ∀(ds:List (Nat ⊕ (AV×List AV))) (ve:List Deferred) (p ef:Option AV) (u:FrameMode) (J af:ag) (w:World) (m:Nat->Option Nat),leave f call ds p J=some (ef,af)->iW (Bu w m (bh J m) B) ds ve->oK w m (bh J m) B p u→
   Rel P J w m B->iR w m (bh J m) B aq tmps.toList->Globs env w B->∀(ret:cQ),(match ef with|some v=>some (cQ.err v)|none=>(resultsOf af aq rs).map cQ.ok)=some ret→
   ∀Q:Ending->World->Prop,(∀e ax aK,rO ax aK (bh af aK) B ret e->Rel P af ax aK B->Ext f J w m af ax aK->Q e ax)->LeavesInM (e9 none) k P fn tmps Q ve u w
 |[],ve,p,ef,u,J,af,w,m,h,an,hu,al,ak,cc,ret,hU,Q,cu=>by
  cases ve with
  |cons _ _=>exact an.elim
  |nil=>
  rw[b2r] at h;cases h;cases p with
  |none=>
   cases u<;>try exact hu.elim
   simp only[eE] at hU;obtain⟨v,au,rfl⟩:=hU;obtain⟨xc,h1,h2⟩:=WE al ak hx au;exact⟨xc,h1,cu _ _ m h2 al (Ext.refl _ _ _ _)⟩
  |some v=>
   cases u<;>try exact hu.elim
   simp only[cw] at hU;subst hU;exact cu _ _ m hu al (Ext.refl _ _ _ _)
 |d::ds,ve,p,ef,u,J,af,w,m,h,an,hu,al,ak,cc,ret,hU,Q,cu=>by
  cases ve with
  |nil=>exact an.elim
  |cons dt ve=>
  obtain⟨mN,lh⟩:=an;have b5:u≠ .run:=λhe=>by subst he;cases p<;>exact hu.elim
  rw[leave_cons] at h;refine⟨b5,?_⟩;cases d with
  |inl b=>
   simp only at h;split at h<;>try (cases h;done)
   rename_i dP;split at h<;>try (cases h;done)
   rename_i hg;obtain⟨aA,hm,rfl⟩:=mN;obtain⟨bV,ev,s_⟩:=al.obj _ _ _ hm hg I;cases s_;left;have hb:=Bd ev;obtain⟨hS,fl⟩:=al.cY (f:=f) (by simpa [gD] using dP) hm ⟨_,hg,rfl⟩ (w.putObj aA (.deferred none)) .dead aT (λb b_=>Wa b_) (λn hn=>by unfold dO at hn;rw[ev] at hn;cases hn) rfl rfl rfl (λh=>by cases h);refine⟨aA,w.putObj aA (.deferred none),rfl,run_takeDeferred ev,?_⟩;exact OQ oI hx ds ve p ef u _ af _ m h (D1 (λ_ _ an=>an.ext fl al) lh) (by
    cases p<;>cases u<;>first|exact hu|(obtain⟨ni,h1,h2⟩:=hu;exact⟨ni,h1,h2.ext fl al⟩)) hS (ak.ext fl al) (Globs.ext cc fl al) ret hU Q
    (λe ax aK h1 h2 h3=>cu e ax aK h1 h2 (fl.trans al h3))
  |inr q=>
   obtain⟨bx,args⟩:=q;simp only at h;split at h<;>try (cases h;done)
   rename_i r bu ae;obtain⟨OP,cap,g,By,ht,hinv,OR⟩:=oI bx args p J r bu ae (k-1) w m u dt al cc hu mN;right;refine⟨λak=>by simp[e9] at ak,OP,cap,g,By,ht,hinv,λ_ _=>trivial,?_⟩;refine CallsDIn.mono OR (λe bW ax dh=>?_);obtain⟨⟨v,rfl⟩,aK,pg,hS,fl⟩:=dh;exact OQ oI hx ds ve _ ef (settle bW) bu af ax aK h (D1 (λ_ _ an=>an.ext fl al) lh) pg hS (ak.ext fl al) (Globs.ext cc fl al) ret hU Q
    (λe ax aK h1 h2 h3=>cu e ax aK h1 h2 (fl.trans al h3))
end
section
variable {P:Program}{env:Env}{B:Nat}
def I8{g:Nat}{fn:Func}(hf:P.funcs[g]? =some fn){c:Code}(hb:fn.body=some c)(hn:(fn.name== "runtime.NumGoroutine")=false)(cs args:Array Value)(w:World):
  (invoke (.fn (.func g) cs) args).run P w= .ok (.enter g (args++cs)) w:=by
 simp only[beq_eq_false_iff_ne,ne_eq] at hn;have ay:(program).run P w= .ok P w:=rfl;simp only[invoke,callFunc,er,ay,ez,hf];simp[hn,hb]
def b2s{α:Type}(i:Nat)(t:aY α):aY.lay [] i t=t:=rfl
def b2t{α:Type}(x:α)(l:List α)(i:Nat)(t:aY α):aY.lay (x::l) i t=aY.lay l (i+1) (t.set i x):=rfl
def WG{w:World}{m:Nat->Option Nat}{O:Nat->Prop}:∀(args:List AV) (us:List Value) (i:Nat) (t:aY AV) (pre:List Value) (n:Nat),bF w m O B args us->pre.length=i→
  iR w m O B t (pre++List.replicate (args.length+n) undef)->iR w m O B (aY.lay args i t) (pre++(us++List.replicate n undef))
 |[],us,i,t,pre,n,ha,ay,h=>by
  have:us=[]:=ou (by simpa using ha.1);subst this;rw[b2s];simpa using h
 |x::args,us,i,t,pre,n,ha,ay,h=>by
  cases us with
  |nil=>have:=ha.1;simp at this
  |cons u us=>
   rw[b2t];have hx:az w m O B x u:=ha.2 0 aT aT;have rS:bF w m O B args us:=by simpa using ha.drop 1
   have key:=WG args us (i+1) (t.set i x) (pre++[u]) n rS (by simp[ay]) (by
    have WH:=iR.put (tmps:=(pre++List.replicate ((x::args).length+n) undef).toArray) (by simpa using h) i hx;have aF:((pre++List.replicate ((x::args).length+n) undef).toArray.setIfInBounds i u).toList=(pre++[u])++List.replicate (args.length+n) undef:=by
     simp only[Wb];rw[<-ay,List.set_append_right _ _ (b6 _),wN];have aV:(x::args).length+n=(args.length+n)+1:=by simp;omega
     rw[aV,Wc,List.set_cons_zero];simp
    rw[aF] at WH;exact WH)
   simpa using key
def b2u{w:World}{m:Nat->Option Nat}{O:Nat->Prop}(n:Nat):iR w m O B (aY.full n c4 n) (List.replicate n undef):=by
 refine⟨λi v au=>?_,λi au=>?_⟩
 ·obtain⟨rfl,hi⟩:=aY.Im _ _ _ _ _ au;exact⟨undef,by simp[hi],az.undef⟩
 ·rcases nG i n with h|h
  ·rw[aY.Il n n i c4 h (b6 _)] at au;cases au
  ·exact Wd (by simpa using h)
def WI{fn:Func}{bG:bP}(b2v:bG.ntmps=fn.ntmps){J:ag}{w:World}{m:Nat->Option Nat}(al:Rel P J w m B)(cc:Globs env w B){args:List AV}(hle:args.length<=fn.ntmps){us:Array Value}(ha:bF w m (bh J m) B args us.toList):
  eP P env (pe bG args) {tmps:=us++Array.replicate (fn.ntmps-us.size) undef,defers:=[]} J w m B:=by
 refine⟨⟨al,?_,cc⟩,trivial⟩;have ao:us.size=args.length:=by have:=ha.1;simpa using this
 simp only[pe,Om,Array.toList_replicate,b2v,ao];have:=WG args us.toList 0 (aY.full fn.ntmps c4 fn.ntmps) [] (fn.ntmps-args.length) ha I (by
  have e:args.length+(fn.ntmps-args.length)=fn.ntmps:=by omega
  rw[e];simpa using b2u fn.ntmps)
 simpa using this
def Eb(fS:px P env){run:jg}(b5:qD P env B run){f:Nat}(an:OO P env B f (callD env f)){g:Nat}{args:List AV}{J:ag}{j_:List (cQ×ag)}(h:runF env run f g args J=some j_)(k:Nat)(r:Option Nat)
  {w:World} {m:Nat->Option Nat} (al:Rel P J w m B) (cc:Globs env w B) {us:Array Value} (ha:bF w m (bh J m) B args us.toList):
  (∃fn c,P.funcs[g]? =some fn/\fn.body=some c/\(fn.name== "runtime.NumGoroutine")=false)∧
  CallsIn (e9 r) k P g us w (λe ax=>∃ret af,(ret,af)∈j_/\∃aK,rO ax aK (bh af aK) B ret e/\Rel P af ax aK B/\Ext f J w m af ax aK):=by
 unfold runF at h;cases hg:env.funcs g with
 |none=>simp[hg] at h
 |some bG=>
  obtain⟨fn,hfn,dX,vf⟩:=fS.funcs g bG hg;obtain⟨rs,c,ac,vd,Ec,Ea,rfl⟩:=D_ dX;simp only[hg] at h;refine⟨⟨fn,c,hfn,Ec,vf⟩,?_⟩;cases hb:(Nat.beq args.length (fn.params.size+fn.nfree)&&Nat.ble args.length fn.ntmps) with
  |false=>rw[hb] at h;cases h
  |true=>
   rw[hb,cond_true] at h;simp only[c7,Ol] at hb;obtain⟨l,hex,g4⟩:=w8 h;have cR:=WI (fn:=fn) (bG:={ig:=fn.params.size+fn.nfree,ntmps:=fn.ntmps,results:=rs,body:=some ac}) I al cc hb.2 ha;show CallsIn (e9 none) k P g us w _;refine callsIn_of_wp_marks hfn Ec trivial ((b5 _ _ _ _ _ _ hex k none c _ w m Ea trivial cR _ (λe eU bu eQ cU a9 bf b3 e_ fX hk=>?_)).1);obtain⟨gq,ev,gr⟩:=g4 _ eQ;have fin:∀(ef:Option AV) (bA:ag) (ret:cQ),leave f (callD env f) eU.defers (Du e) bu=some (ef,bA)->(match ef with|some v=>some (cQ.err v)|none=>(resultsOf bA eU.a5 rs).map cQ.ok)=some ret->(ret,bA)∈j_→
     ∀u,oK bf b3 (bh bu b3) B (Du e) u->LeavesInM (e9 none) k P fn a9.tmps (λe ax=>∃ret af,(ret,af)∈j_/\∃aK,rO ax aK (bh af aK) B ret e/\Rel P af ax aK B/\Ext f J w m af ax aK) a9.defers u bf:=λef bA ret ao hU kH u hu=>
    OQ an vd _ _ _ _ _ _ _ _ _ ao fX.defs hu fX.ctx.rel fX.ctx.a5 fX.ctx.globs ret hU _ (λe ax aK h1 h2 h3=>⟨ret,bA,kH,aK,h1,h2,hk.trans al h3⟩)
   have go:(∀id,e≠ .exit id)->∀u,oK bf b3 (bh bu b3) B (Du e) u->LeavesInM (e9 none) k P fn a9.tmps (λe ax=>∃ret af,(ret,af)∈j_/\∃aK,rO ax aK (bh af aK) B ret e/\Rel P af ax aK B/\Ext f J w m af ax aK) a9.defers u bf:=λb_ u hu=>by
    unfold endF at ev;split at ev
    ·rename_i he;cases he;exact absurd I (b_ _)
    rename_i cp bQ af fl nh;cases nh;split at ev<;>try (cases ev;done)
    ·rename_i qn;cases ev;exact fin _ _ _ qn I (gr _ (k3 _)) u hu
    ·rename_i qn;split at ev<;>cases ev;rename_i dh;exact fin _ _ _ qn (by simp[dh]) (gr _ (k3 _)) u hu
   cases e with
   |exit id=>cases ev
   |normal=>cases cU<;>first|exact e_.elim|exact go (λ_ h=>by cases h) _ trivial
   |ret=>cases cU<;>first|exact e_.elim|exact go (λ_ h=>by cases h) _ trivial
   |panic v=>cases cU<;>first|exact e_.elim|exact go (λ_ h=>by cases h) _ e_
end
def wpListS(F:Fence)(n:Nat)(P:Program)(ops:Array Oper)(Q:Exit->Act->List Frame->World->Prop):List Oper->Act->List Frame->World->Prop
 |[],a,cs,w=>Q .normal a cs w
 |o::rest,a,cs,w=>
   (∀f,o.about P w a.eval=some f->F.fn f)∧
   if Region.wanted o (yielded ops a.tmps) then
    match(execOp a.eval o).run P w with
    | .ok .recover ax=>
     match recoverD cs with
     |some (v,e5)=>wpListS F n P ops Q rest (a.put o.dst v) e5 ax
     |none=>wpListS F n P ops Q rest (a.put o.dst .nilIface) cs ax
    | .ok (.value v) ax=>wpListS F n P ops Q rest (a.put o.dst v) cs ax
    | .ok .skip ax=>wpListS F n P ops Q rest (a.put o.dst undef) cs ax
    | .halt (.panic v) ax=>Q (.panic [{v,recovered:=false}]) a cs ax
    |_=>False
   else wpListS F n P ops Q rest (a.put o.dst undef) cs w
def b2w{F:Fence}{n:Nat}{P:Program}{ops:Array Oper}{Q:Exit->Act->List Frame->World->Prop}(l:List Oper):∀k,(∀j,l[j]? =ops[k+j]?)->∀a cs w,wpListS F n P ops Q l a cs w->wpOpsSIn F n P ops Q (List.range' k l.length) a cs w:=by
 induction l with
 |nil=>intro k _ a cs w h;simpa [wpOpsSIn,wpListS] using h
 |cons o l ar=>
  intro k h a cs w hh;have h0:ops[k]? =some o:=by simpa using (h 0).symm
  have Ed:=ar (k+1) (λj=>by have:=h (j+1);simpa [sU,uR 1 j] using this);simp only[gS,List.range'_succ,wpOpsSIn,h0];simp only[wpListS] at hh;refine⟨hh.1,?_⟩;have hh:=hh.2;split at hh
  ·rename_i hw;rw[if_pos hw];split at hh
   ·rename_i al;simp only[al];split at hh
    ·rename_i Ee;simp only[Ee];exact Ed _ _ _ hh
    ·rename_i Ee;simp only[Ee];exact Ed _ _ _ hh
   ·rename_i al;simp only[al];exact Ed _ _ _ hh
   ·rename_i al;simp only[al];exact Ed _ _ _ hh
   ·rename_i al;simp only[al];exact hh
   ·exact hh.elim
  ·rename_i hw;rw[if_neg hw];exact Ed _ _ _ hh
def b2x{F:Fence}{n:Nat}{P:Program}{id:Nat}{ops:Array Oper}{Q:Exit->Act->List Frame->World->Prop}{a:Act}{cs:List Frame}{w:World}(h:wpListS F n P ops Q ops.toList a cs w):(Code.region id ops false).wpSIn F n P Q a cs w:=
 wpSIn_region (by rw[List.range_eq_range',← sS];exact b2w _ 0 aT _ _ _ h)
def Ef:FrameMode->FrameMode
 | .panicking [{v,..}]=>.panicking [{v,recovered:=true}]
 |u=>u
section
variable {P:Program}{env:Env}{B:Nat}
def xd(l5:Frame)(cs:List Frame)(u:FrameMode)(fh:Bool)(e5:List Frame):Prop:=e5={l5 with mode:=if fh then Ef u else u}::cs
def b2y{o:Oper}(h:cop P o=some .recover)(a:Act)(w:World):(execOp a.eval o).run P w= .ok .recover w:=by
 unfold cop at h;split at h
 all_goals first
  |(cases h;done)
  |(simp only[eE,reduceCtorEq,and_false,exists_false] at h;done)
  |(simp only[dV,dy,ee,cw,reduceCtorEq,and_false,exists_false] at h;done)
  |skip
 all_goals first
  |(
    rename_i ho;split at h
    all_goals first
     |(cases h;done)
     |(rw[DY ho];simp[builtin];done)
     |(
      exfalso
      repeat' first
       |(cases h;done)
       |(simp only[eE,reduceCtorEq,and_false,exists_false] at h;done)
       |(simp only[dV,dy,ee,cw,reduceCtorEq,and_false,exists_false] at h;done)
       |split at h
       |(obtain⟨_,_,h⟩:=h)
       |(simp only[dV,dy,ee,cw] at h)))
  |(
    exfalso
    repeat' first
     |(cases h;done)
     |(simp only[eE,reduceCtorEq,and_false,exists_false] at h;done)
     |(simp only[dV,dy,ee,cw,reduceCtorEq,and_false,exists_false] at h;done)
     |split at h
     |(obtain⟨_,_,h⟩:=h)
     |(simp only[dV,dy,ee,cw] at h))
def WJ{f:Nat}{p:Option AV}{u:FrameMode}{l5:Frame}{cs:List Frame}{ops:Array Oper}{k:Nat}:
  ∀(ol:List Oper) (hI:List aX) (ai bQ:Fr) (J af:ag) (e:hd) (a:Act) (w:World) (m:Nat->Option Nat) (iZ:List Frame),mapOL (coper P ops) ol=some hI→
   lb env f (λ_ _ _=>none) (some (p.getD .eC)) false hI ai J=some (e,bQ,af)->eP P env ai a J w m B->oK w m (bh J m) B p u->xd l5 cs u ai.fh iZ→
   ∀Q:Exit->Act->List Frame->World->Prop,(∀x cC e5 ax aK,ExR ax aK (bh af aK) B e x->eP P env bQ cC af ax aK B->Ext f J w m af ax aK->xd l5 cs u bQ.fh e5->Q x cC e5 ax)->wpListS (e9 none) k P ops Q ol a iZ w
 |[],hI,ai,bQ,J,af,e,a,w,m,iZ,hm,h,st,hu,an,Q,cu=>by
  simp[mapOL] at hm;subst hm;rw[b1Y] at h;cases h;exact cu .normal a iZ w m trivial st (Ext.refl _ _ _ _) an
 |o::ol,hI,ai,bQ,J,af,e,a,w,m,iZ,hm,h,st,hu,an,Q,cu=>by
  rw[mapOL] at hm;split at hm<;>cases hm;rename_i aS D4 ho DO;obtain⟨eO,jk⟩:=I7 ho;rw[runOpsD_cons] at h;rw[wpListS,I5 ho st.ctx.a5];refine⟨λ_ _=>trivial,?_⟩;have next:∀ {eU:Fr} {a9:Act} {bu:ag} {bf:World} {b3:Nat->Option Nat} {rT:List Frame},lb env f (λ_ _ _=>none) (some (p.getD .eC)) false D4 eU bu=some (e,bQ,af)->eP P env eU a9 bu bf b3 B->Ext f J w m bu bf b3->xd l5 cs u eU.fh rT->wpListS (e9 none) k P ops Q ol a9 rT bf:=
   λ{eU a9 bu bf b3 rT} h1 gX dn mN=>WJ ol D4 eU bQ bu af e a9 bf b3 rT DO h1 gX (hu.ext dn st.ctx.rel) mN Q (λx cC e5 ax aK hx cR hex=>cu x cC e5 ax aK hx cR (dn.trans st.ctx.rel hex))
  have Bz:∀(ai:Fr) d v,(ai.put d v).fh=ai.fh:=λai d v=>by cases d<;>rfl
  cases hw:wantedA aS.guard ai.a5 with
  |false=>
   rw[hw,cond_false] at h;simp only[rj,if_false];refine next h ?_ (Ext.refl _ _ _ _) (by rw[Bz];exact an)
   rw[jk];exact st.put _ az.undef
  |true=>
   rw[hw,cond_true] at h;simp only[if_true];split at h
   ·-- recover
    rename_i Ee;simp only at h;have b5:=b2y (P:=P) (D3 (eO.symm.trans Ee) aT) a w;rw[b5];simp only;unfold xd at an;subst an;have OS:eP P env ⟨ai.a5,ai.defers,true⟩ a J w m B:=⟨st.ctx,st.defs⟩
    cases al:ai.fh with
    |true=>
     rw[al] at h;have uX:recoverD ({l5 with mode:=if true=true then Ef u else u}::cs)=none:=by
      cases p<;>cases u<;>first|exact hu.elim|rfl|(obtain⟨ni,rfl,_⟩:=hu;rfl)
     rw[uX];simp only;have hK:=OS.put aS.dst (v:=.eC) (u:=.nilIface) az.eC;rw[jk] at hK h;exact next h hK (Ext.refl _ _ _ _) (by rw[Bz];rfl)
    |false=>
     rw[al] at h;cases p with
     |none=>
      cases u<;>try exact hu.elim
      have uX:recoverD ({l5 with mode:=if false=true then Ef .returning else .returning}::cs)=none:=rfl;rw[uX];simp only;have hK:=OS.put aS.dst (v:=.eC) (u:=.nilIface) az.eC;rw[jk] at hK h;exact next h hK (Ext.refl _ _ _ _) (by rw[Bz];rfl)
     |some v=>
      cases u<;>try exact hu.elim
      obtain⟨ni,rfl,h7⟩:=hu;have N2:recoverD ({l5 with mode:=if false=true then Ef (.panicking [{v:=ni,recovered:=false}]) else .panicking [{v:=ni,recovered:=false}]}::cs)=some (ni,{l5 with mode:=.panicking [{v:=ni,recovered:=true}]}::cs):=rfl;rw[N2];simp only;have hK:=OS.put aS.dst h7;rw[jk] at hK h;exact next h hK (Ext.refl _ _ _ _) (by rw[Bz];rfl)
   ·rename_i op b_;generalize OG:aS.op=cA at h eO;have ae:∀res,opx f (evalA env ai.a5) J cA=some res->cop P o=some cA:=λres dh=>D3 eO.symm (λhb=>by subst hb;simp[opx] at dh);split at h
    ·rename_i v bu hx;obtain⟨xc,bf,b3,b5,hR,nS,dn⟩:=Bt st.ctx (ae _ hx) hx;have cR:=(st.ext dn nS).put aS.dst hR;rw[jk] at cR h;rcases b5 with b5|⟨b5,rfl⟩
     ·rw[b5];exact next h cR dn (by rw[Bz];exact an)
     ·rw[b5];exact next h cR dn (by rw[Bz];exact an)
    ·cases h
    ·simp at h
    ·rename_i v hx;cases h;obtain⟨x,t,ni,rfl,qC,rfl⟩:=Wy hx;obtain⟨D9,OK,xb⟩:=Ww (ae _ hx);have rP:=st.ctx.av OK qC;obtain⟨bW,nb⟩:∃bW,a.eval D9= .iface t bW:=by
      revert rP;generalize a.eval D9=ni;intro rP;cases rP;exact⟨_,rfl⟩
     have b5:=Wx (P:=P) xb nb w;rw[b5];rw[nb] at rP;exact cu _ _ _ _ m ⟨_,rfl,rP⟩ st (Ext.refl _ _ _ _) an
    ·cases h
    ·cases h
def runD_ok{f:Nat}{p:Option AV}{u:FrameMode}{l5:Frame}{cs:List Frame}{k:Nat}:
  ∀(c:Code) (ac:bC) (ai bQ:Fr) (J af:ag) (e:hd) (a:Act) (w:World) (m:Nat->Option Nat) (iZ:List Frame),ccode P c=some ac→
   sZ env f (p.getD .eC) ac ai J=some (e,bQ,af)->eP P env ai a J w m B->oK w m (bh J m) B p u->xd l5 cs u ai.fh iZ→
   ∀Q:Exit->Act->List Frame->World->Prop,(∀x cC e5 ax aK,ExR ax aK (bh af aK) B e x->eP P env bQ cC af ax aK B->Ext f J w m af ax aK->xd l5 cs u bQ.fh e5->Q x cC e5 ax)->c.wpSIn (e9 none) k P Q a iZ w:=by
 intro c
 induction c with
 |skip=>
  intro ac ai bQ J af e a w m iZ ae h st hu an Q cu;simp only[ccode,cw] at ae;subst ae;have h':some (hd.normal,ai,J)=some (e,bQ,af):=h;cases h';exact wpSIn_of_wpIn I (wpIn_skip (cu .normal a iZ w m trivial st (Ext.refl _ _ _ _) an))
 |ret=>
  intro ac ai bQ J af e a w m iZ ae h st hu an Q cu;simp only[ccode,cw] at ae;subst ae;have h':some (hd.ret,ai,J)=some (e,bQ,af):=h;cases h';exact wpSIn_of_wpIn I (wpIn_ret (cu .ret a iZ w m trivial st (Ext.refl _ _ _ _) an))
 |label l=>
  intro ac ai bQ J af e a w m iZ ae h st hu an Q cu;simp only[ccode,cw] at ae;subst ae;have h':some (hd.normal,ai,J)=some (e,bQ,af):=h;cases h';exact wpSIn_of_wpIn I (wpIn_label (cu .normal a iZ w m trivial st (Ext.refl _ _ _ _) an))
 |region id ops dR=>
  intro ac ai bQ J af e a w m iZ ae h st hu an Q cu;cases dR with
  |true=>
   simp only[ccode] at ae;split at ae<;>cases ae<;>(have h':none=some (e,bQ,af):=h;cases h')
  |false=>
   simp only[ccode] at ae;split at ae<;>cases ae
   ·rename_i l ao;have h':lb env f (λ_ _ _=>none) (some (p.getD .eC)) false l ai J=some (e,bQ,af):=h;exact b2x (WJ _ _ _ _ _ _ _ _ _ _ _ ao h' st hu an Q cu)
   ·have h':none=some (e,bQ,af):=h;cases h'
 |seq x y I9 I_=>
  intro ac ai bQ J af e a w m iZ ae h st hu an Q cu;simp only[ccode] at ae;split at ae<;>cases ae;rename_i bI ew hx aI;have h':(match sZ env f (p.getD .eC) bI ai J with|some (.normal,ai,J)=>sZ env f (p.getD .eC) ew ai J|r=>r)=some (e,bQ,af):=h;refine wpSIn_seq ?_;cases vc:sZ env f (p.getD .eC) bI ai J with
  |none=>simp[vc] at h'
  |some res=>
   obtain⟨aF,eU,bu⟩:=res;simp only[vc] at h';refine I9 bI ai eU J bu aF a w m iZ hx vc st hu an _ (λcU a9 rT bf b3 e_ fX hk mN=>?_);cases aF with
   |normal=>
    cases cU<;>try exact e_.elim
    exact I_ ew eU bQ bu af e a9 bf b3 rT aI h' fX (hu.ext hk st.ctx.rel) mN Q (λx cC e5 ax aK h1 h2 h3 aN=>cu x cC e5 ax aK h1 h2 (hk.trans st.ctx.rel h3) aN)
   |exit id=>cases h';cases cU<;>first|exact e_.elim|exact cu _ a9 rT bf b3 e_ fX hk mN
   |ret=>cases h';cases cU<;>first|exact e_.elim|exact cu _ a9 rT bf b3 e_ fX hk mN
   |panic v=>cases h';cases cU<;>first|exact e_.elim|exact cu _ a9 rT bf b3 e_ fX hk mN
 |cond t x y I9 I_=>
  intro ac ai bQ J af e a w m iZ ae h st hu an Q cu;simp only[ccode] at ae;split at ae<;>cases ae;rename_i at' bI ew ht hx aI;have h':(match evalA env ai.a5 at' with|some (.b t)=>cond t (sZ env f (p.getD .eC) bI ai J) (sZ env f (p.getD .eC) ew ai J)|_=>none)=some (e,bQ,af):=h;split at h'<;>try (cases h';done)
  rename_i OL OM;have ON:=(st.ctx.av ht OM).wU;refine wpSIn_cond ON ?_;cases OL with
  |true=>exact I9 bI ai bQ J af e a w m iZ hx h' st hu an Q cu
  |false=>exact I_ ew ai bQ J af e a w m iZ aI h' st hu an Q cu
 |block id x ar=>
  intro ac ai bQ J af e a w m iZ ae h st hu an Q cu;simp only[ccode] at ae;split at ae<;>cases ae;have h':none=some (e,bQ,af):=h;cases h'
 |loop x ar=>
  intro ac ai bQ J af e a w m iZ ae h st hu an Q cu;simp only[ccode] at ae;split at ae<;>cases ae;have h':none=some (e,bQ,af):=h;cases h'
 |scope x ar=>
  intro ac ai bQ J af e a w m iZ ae h st hu an Q cu;simp only[ccode] at ae;split at ae<;>cases ae;have h':none=some (e,bQ,af):=h;cases h'
 |rangeFunc g aE x y I9 I_=>
  intro ac ai bQ J af e a w m iZ ae h st hu an Q cu;simp only[ccode] at ae;split at ae<;>cases ae;have h':none=some (e,bQ,af):=h;cases h'
 |exit id=>
  intro ac ai bQ J af e a w m iZ ae h st hu an Q cu;simp only[ccode,cw] at ae;subst ae;have h':none=some (e,bQ,af):=h;cases h'
 |goto l=>
  intro ac ai bQ J af e a w m iZ ae h st hu an Q cu;simp only[ccode,cw] at ae;subst ae;have h':none=some (e,bQ,af):=h;cases h'
 |refuse l=>
  intro ac ai bQ J af e a w m iZ ae h st hu an Q cu;simp only[ccode,cw] at ae;subst ae;have h':none=some (e,bQ,af):=h;cases h'
def b2z{J:ag}{w:World}{m:Nat->Option Nat}{O:Nat->Prop}{p:Option AV}{u:FrameMode}(h:oK w m O B p u)(r:Bool):oK w m O B (cond r none p) (settle (if r then Ef u else u)):=by
 cases p with
 |none=>cases u<;>first|exact h.elim|(cases r<;>trivial)
 |some v=>
  cases u<;>try exact h.elim
  obtain⟨ni,rfl,hR⟩:=h;cases r with
  |true=>trivial
  |false=>exact⟨ni,rfl,hR⟩
def Eg(fS:px P env)(f:Nat):OO P env B f (callD env f):=by
 intro bx args p J r af h k w m u d al cc hu an;obtain⟨g,bO,cs,gT,e5,us,rfl,rfl,OT,OU,k1⟩:=an;unfold callD at h;simp only at h;split at h<;>try (cases h;done)
 rename_i bG hg;obtain⟨fn,hfn,dX,vf⟩:=fS.funcs g bG hg;obtain⟨rs,c,ac,vd,Ec,Ea,rfl⟩:=D_ dX;simp only at h;cases hb:(Nat.beq (bO++args++cs).length (fn.params.size+fn.nfree)&&Nat.ble (bO++args++cs).length fn.ntmps) with
 |false=>rw[hb] at h;cases h
 |true=>
  rw[hb,cond_true] at h;simp only[c7,Ol] at hb;have hinv:=I8 (P:=P) hfn Ec vf e5 (gT++us) w;have pw:bF w m (bh J m) B (bO++args++cs) (gT++us++e5).toList:=by
   simp only[Om];exact(OT.append k1).append OU
  have cR:=WI (fn:=fn) (bG:={ig:=fn.params.size+fn.nfree,ntmps:=fn.ntmps,results:=rs,body:=some ac}) I al cc hb.2 pw;refine⟨_,_,g,_,rfl,hinv,?_⟩;refine callsDIn_of_wpSIn hfn Ec trivial (λl5 oL b2A=>?_);have py:xd l5 oL u false (l5::oL):=by
   unfold xd;simp only[rj,if_false];rw[<-b2A]
  have fin:∀(e:hd) (eU:Fr) (bu:ag),sZ env f (p.getD .eC) ac (pe {ig:=fn.params.size+fn.nfree,ntmps:=fn.ntmps,results:=rs,body:=some ac} (bO++args++cs)) J=some (e,eU,bu)->(e= .normal\/e= .ret)->eU.defers=[]->(∃v,resultsOf bu eU.a5 rs=some v)->r=eU.fh->af=bu→
    c.wpSIn (e9 none) k P (bodyPostS P fn l5 oL (λe bW ax=>(∃v,e= .returned v)/\∃aK,oK ax aK (bh af aK) B (cond r none p) (settle bW)/\Rel P af ax aK B/\Ext f J w m af ax aK)) {tmps:=gT++us++e5++Array.replicate (fn.ntmps-(gT++us++e5).size) undef,defers:=[]} (l5::oL) w:=by
   rintro e eU bu b5 he b2B ⟨v,dh⟩ rfl rfl;refine runD_ok c ac _ eU J af e _ w m _ Ea b5 cR hu py _ (λx a9 rT bf b3 e_ fX hk mN=>?_);have Ja:a9.defers=[]:=by
    have:=fX.defs;rw[b2B] at this;cases aP:a9.defers with
    |nil=>rfl
    |cons _ _=>rw[aP] at this;exact this.elim
   obtain⟨xc,h7,_⟩:=WE (fn:=fn) fX.ctx.rel fX.ctx.a5 vd dh;have WK:a9.defers=[]/\∃bW,rT={l5 with mode:=bW}::oL/\∃v,(results fn a9.tmps).run P bf= .ok v bf/\((∃a_,Ending.returned v= .returned a_)/\∃aK,oK bf aK (bh af aK) B (cond eU.fh none p) (settle bW)/\Rel P af bf aK B/\Ext f J w m af bf aK):=
    ⟨Ja,_,mN,xc,h7,⟨xc,rfl⟩,b3,b2z (J:=af) (hu.ext hk al) eU.fh,fX.ctx.rel,hk⟩
   rcases he with rfl|rfl
   ·cases x<;>first|exact e_.elim|exact WK
   ·cases x<;>first|exact e_.elim|exact WK
  split at h<;>try (cases h;done)
  ·rename_i eU bu b5;split at h<;>cases h;rename_i mN dh;exact fin .normal eU af b5 (.inl I) mN ⟨_,dh⟩ I I
  ·rename_i eU bu b5;split at h<;>cases h;rename_i mN dh;exact fin .ret eU af b5 (.inr I) mN ⟨_,dh⟩ I I
end
def OV{w:World}{b n:Nat}(h:dO w b=some n):b<w.heap.size:=by
 rcases nG b w.heap.size with h1|h1
 ·exact h1
 ·simp[dO,AZ h1] at h
def WL(J:ag)(base:Nat)(v:AV):freeze J base 0 v=none:=rfl
def freeze_succ(J:ag)(base n:Nat)(v:AV):freeze J base (n+1) v=match v with
  | .aq id off len R cap=>if Nat.blt id base then none else
   match readList J (.aq id off len R cap) with
   |none=>none
   |some xs=>match mapO (freeze J base n) xs with|none=>none|some xs=>some (.aR false R xs)
  | .ad l=>match mapO (freeze J base n) l with|none=>none|some l=>some (.ad l)
  | .a6 l=>match mapO (freeze J base n) l with|none=>none|some l=>some (.a6 l)
  | .it t v=>match freeze J base n v with|none=>none|some v=>some (.it t v)
  | .p (some _)=>none
  | .m (some _)=>none
  | .f _ _ _=>none
  | .iA _ _ _=>none
  |v=>some v:=rfl
def WM{J:ag}{base:Nat}{R:Option Nat}:∀ {n:Nat} {v a_:AV},freeze J base n v=some a_->conf R v=true->conf R a_=true
 |0,v,a_,h,_=>by rw[WL] at h;cases h
 |n+1,v,a_,h,ae=>by
  rw[freeze_succ] at h;split at h
  ·split at h<;>try (cases h;done)
   split at h<;>try (cases h;done)
   split at h<;>cases h;cases R<;>simp[conf] at ae ⊢
  ·split at h<;>cases h;rename_i l bq ao;have:=(nJ ao).1;cases R with
   |none=>simp[conf] at ae
   |some k=>simp[conf] at ae ⊢;omega
  ·split at h<;>cases h;cases R<;>simp[conf] at ae
  ·split at h<;>cases h;cases R<;>simp[conf] at ae ⊢
  ·cases h
  ·cases h
  ·cases h
  ·cases h
  ·cases h;exact ae
section
variable {P:Program}{J:ag}{w:World}{m:Nat->Option Nat}{B:Nat}
def az.WN{O:Nat->Prop}{v:AV}{R:Option Nat}(ae:conf R v=true){us:List Value}(h:bF w m O B v.cells us)(hf:∀x∈v.cells,conf none x=true):∃u,az w m O B v u/\u.cells.toList=us:=by
 cases R with
 |none=>
  have au:v.cells=[v]:=by cases v<;>simp[conf] at ae<;>rfl
  rw[au] at h;have ao:us.length=1:=h.1;obtain⟨u,rfl⟩:∃u,us=[u]:=by cases us with|nil=>simp at ao|cons u t=>cases t with|nil=>exact⟨u,rfl⟩|cons _ _=>simp at ao
  have al:=h.2 0 aT aT;simp at al;refine⟨u,al,?_⟩;have:=al.cells;cases al with
  |y h=>rcases h.alt with⟨_,_,rfl⟩|⟨_,rfl⟩<;>rfl
  |eT hu h=>subst hu;rfl
  |_=>first|rfl|(simp[conf] at ae)
 |some n=>
  cases v<;>simp[conf] at ae;rename_i l;exact⟨.agg us.toArray,az.yR h hf,by simp[Value.cells]⟩
def OW{cr:ag}{eX:World}{dS:Nat->Option Nat}(nT:Rel P cr eX dS B)(al:Rel P J w m B)(he:Ext cr.next cr eX dS J w m):
  ∀(n:Nat) (v a_:AV) (u:Value),freeze J cr.next n v=some a_->az w m (bh J m) B v u->az w (λ_=>none) (bh cr dS) B a_ u
 |0,v,a_,u,h,_=>by rw[WL] at h;cases h
 |n+1,v,a_,u,h,au=>by
  have c9:∀aA,bh cr dS aA->bh J m aA:=λaA ⟨id,h1,o,h2,h3⟩=>⟨id,he.mono _ _ h1,o,by rw[he.low id (nT.eV _ _ h1).2 (nT.eV _ _ h1).2];exact h2,h3⟩
  have ar:=λv a_ u h au=>OW nT al he n v a_ u h au;have jE:∀ {v:AV} {u:Value},az w (λ_=>none) (bh J m) B v u->az w (λ_=>none) (bh cr dS) B v u:=λh=>h.mono (λ_ _ h=>h) (b6 _) (λ_ _ h=>h) (λb _ hb=>⟨rfl,λho=>hb (c9 b ho)⟩);have list:∀ {l bq:List AV} {us:List Value},mapO (freeze J cr.next n) l=some bq->bF w m (bh J m) B l us->bF w (λ_=>none) (bh cr dS) B bq us:=λ{l bq us} ao k1=>by
   obtain⟨h1,h2⟩:=nJ ao;refine⟨by rw[k1.1,h1],λi hi du=>?_⟩;exact ar _ _ _ (h2 i U hi) (k1.2 i U du)
  rw[freeze_succ] at h;split at h
  ·-- a slice over rn c4a own part
   rename_i id off len R cap;split at h<;>try (cases h;done)
   rename_i Bp;split at h<;>try (cases h;done)
   rename_i xs ed;split at h<;>cases h;rename_i pz zj;have c4b:cr.next<=id:=by simpa [gD] using Bp
   have tf:∀a∈xs,conf R a=true:=by
    simp only[readList] at ed;split at ed<;>try (cases ed;done)
    rename_i c hg;cases au with
    |aq hm ao rF hn fi=>
     obtain⟨arr,el,a2,hh,k0,oC,aZ,jj⟩:=al.cells hm hg;exact(Bk (λx hx=>jj x (nH hx)) ed).2.2.2
   have hlen:xs.length=len:=by
    simp only[readList] at ed;split at ed<;>try (cases ed;done)
    rename_i c hg;cases au with
    |aq hm ao rF hn fi=>
     obtain⟨arr,el,a2,hh,k0,oC,aZ,jj⟩:=al.cells hm hg;exact(Bk (λx hx=>jj x (nH hx)) ed).1
   obtain⟨h1,h2⟩:=nJ zj;obtain⟨base,c,us,hu,hle,Bm,nP,nM,nL⟩:=DN al au ed tf;cases au with
   | @aq _ _ _ _ _ _ aA c4c ec _ _ hm ao rF hn fi=>
    cases hu;simp only at nL;have pj:¬bh cr dS aA/\B<=aA:=by
     refine⟨λho=>?_,al.base _ _ hm⟩;rcases he.new _ _ hm with h3|⟨_,h3|⟨i,hi,aN,bY⟩⟩
     ·have:=(nT.eV _ _ h3).2;omega
     ·have:=nT.U_ ho;omega
     ·have:=Va bY;omega
    have hmul:∀i,i<xs.length->i*shN R+shN R<=xs.length*shN R:=λi hi=>by
     have:=qg (shN R) (show i+1<=xs.length from hi);rw[jz,qh] at this;exact this
    have Bl:∀(l:List AV),(∀a∈l,conf R a=true)->∀i (hi:i<l.length),(l[i]).cells=((l.flatMap AV.cells).drop (i*shN R)).take (shN R):=by
     intro l
     induction l with
     |nil=>intro _ i hi;simp at hi
     |cons x l iQ=>
      intro ao i hi;have hx:=rE (ao x aT);cases i with
      |zero=>simp[j4,hx]
      |succ i=>
       have:=iQ (λa ha=>ao a (by simp[ha])) i (by simpa using hi);rw[Dr,this,j4,List.drop_append];have aF:(i+1)*shN R-x.cells.length=i*shN R:=by rw[hx,jz,qh];omega
       have aV:x.cells.drop ((i+1)*shN R)=[]:=On (by rw[hx,jz,qh];omega);rw[aF,aV,qA]
    have elem:∀i (hi:i<xs.length) (du:i<pz.length),bF w (λ_=>none) (bh cr dS) B (pz[i]).cells ((us.drop (i*shN R)).take (shN R))/\conf R (pz[i])=true/\∀x∈(pz[i]).cells,conf none x=true:=λi hi du=>by
     have Eh:=tf _ (c3 hi);have OX:∀x∈(xs[i]).cells,conf none x=true:=λx hx=>nM x (yG.2 ⟨_,c3 hi,hx⟩);have OY:bF w m (bh J m) B (xs[i]).cells ((us.drop (i*shN R)).take (shN R)):=by
      rw[Bl xs tf i hi];exact(Bm.drop _).take _
     obtain⟨b2C,OZ,O0⟩:=az.WN Eh OY OX;have bE:=ar _ _ _ (h2 i hi du) OZ;have rI:=WM (h2 i hi du) Eh;have:=bE.cells;rw[O0] at this;exact⟨this,rI,bE.Is rI⟩
    have gr:∀i,i<pz.length->∀j,j<shN R->∃aG:i*shN R+j<us.length,((us.drop (i*shN R)).take (shN R))[j]? =some (us[i*shN R+j]):=λi hi j aG=>by
     have:=hmul i U;refine⟨U,?_⟩;rw[sT aG,ri,eS U]
    rw[<-h1];refine .aR (λi j=>(us[i*shN R+j]?).getD undef) (λ_=>⟨pj.1,OV hn,λ_=>pj.2⟩) (λi hi=>(elem i U hi).2.1) (λi hi j aG=>?_) (λi hi j aG=>?_) U (λv au=>?_) (λ_=>rfl)
    ·have fj:j<shN R:=by rw[rE (elem i U hi).2.1] at aG;exact aG
     obtain⟨hlt,_⟩:=gr i hi j fj;have:=nL.2.1 (i*shN R+j) _ (eS hlt);rw[j8,← sU] at this;rw[this,eS hlt];rfl
    ·have fj:j<shN R:=by rw[rE (elem i U hi).2.1] at aG;exact aG
     obtain⟨hlt,iX⟩:=gr i hi j fj;obtain⟨b2D,Ei,O1⟩:=(elem i U hi).1.get (eS aG);rw[iX] at Ei;cases Ei;rw[eS hlt];exact O1
    ·obtain⟨i,hi,rfl⟩:=lF au;exact(elem i U hi).2.2
  ·split at h<;>cases h;rename_i l bq ao;obtain⟨a8,rfl,kF,nM⟩:=au.qo;refine az.yR (list ao kF) (λx hx=>?_) |> λh=>by simpa using h
   obtain⟨i,hi,rfl⟩:=lF hx;have:=nJ ao;exact WM (this.2 i U hi) (nM _ (c3 _))
  ·split at h<;>cases h;rename_i l bq ao;obtain⟨a8,rfl,kF⟩:=au.NG;have:=az.uY (list ao kF);simpa using this
  ·split at h<;>cases h;rename_i O2;cases au with
   |it h=>exact .it (ar _ _ _ O2 h)
  ·cases h
  ·cases h
  ·cases h
  ·cases h
  ·rename_i e6 fk lM oM BA Jb WO b2E;cases h;cases au with
   |b x=>exact .b x
   |i k n=>exact .i k n
   |s l h=>exact .s l h
   |qm=>exact .qm
   |p h=>exact absurd I (BA _)
   |dk a4 h1 hb eu ae hG hf=>exact .dk a4 (λho=>h1 (c9 _ ho)) hb eu ae (λj aG=>jE (hG j aG)) hf
   |aj=>exact .aj
   |aq=>exact absurd I (e6 _ _ _ _ _)
   |kB=>exact .kB
   |aR a4 h1 ak ae hG ao hf ei=>exact .aR a4 (λb_=>⟨λho=>(h1 b_).1 (c9 _ ho),(h1 b_).2⟩) ak ae (λi hi j aG=>jE (hG i hi j aG)) ao hf ei
   |ru=>exact .ru
   |mp h=>exact absurd I (Jb _)
   |na=>exact absurd I (WO _ _ _)
   |uW=>exact absurd I (WO _ _ _)
   |gp=>exact .gp
   |it h=>exact absurd I (oM _ _)
   |eC=>exact .eC
   |ad=>exact absurd I (fk _)
   |a6=>exact absurd I (lM _)
   |e3 h hn=>exact .e3 h hn
   |hC h=>exact .hC h
   |iz n h=>exact .iz n h
   |y h=>exact .y h
   |eT hu h=>exact .eT hu (jE h)
   |g1 k h=>exact .g1 k h
   |fF k h h'=>exact .fF k h h'
   |iA=>exact absurd I (b2E _ _ _)
end
section
def az.b2F{w:World}{m:Nat->Option Nat}{O:Nat->Prop}{B ej:Nat}(eu:ej<=B){v:AV}{u:Value}(h:az w m O B v u):az w m O ej v u:=by
 induction h with
 |b x=>exact .b x
 |i k n=>exact .i k n
 |s l h=>exact .s l h
 |qm=>exact .qm
 |p h=>exact .p h
 |dk a4 c9 hb b2G ae al hf ar=>exact .dk a4 c9 hb (λh=>lE eu (b2G h)) ae (λj aG=>ar j aG eu) hf
 |aj=>exact .aj
 |aq h ao ae hn fi dP=>exact .aq h ao ae hn fi dP
 |kB=>exact .kB
 |aR a4 c9 ak ae al ao hf ei ar=>exact .aR a4 (λb_=>⟨(c9 b_).1,(c9 b_).2.1,λh=>lE eu ((c9 b_).2.2 h)⟩) ak ae (λi h j aG=>ar i h j aG eu) ao hf ei
 |ru=>exact .ru
 |mp h=>exact .mp h
 |na hf bE ae s4 Nx fx=>exact .na hf (λi h h'=>Nx i h h' eu) ae (λi h h'=>fx i h h' eu)
 |uW h=>exact .uW h
 |gp=>exact .gp
 |it _ ar=>exact .it (ar eu)
 |eC=>exact .eC
 |ad ak _ hf ar=>exact .ad ak (λi h h'=>ar i h h' eu) hf
 |a6 ak _ ar=>exact .a6 ak (λi h h'=>ar i h h' eu)
 |e3 h hn=>exact .e3 h hn
 |hC h=>exact .hC h
 |iz n h=>exact .iz n h
 |y h=>exact .y h
 |eT hu _ ar=>exact .eT hu (ar eu)
 |g1 k h=>exact .g1 k h
 |fF k h h'=>exact .fF k h h'
 |iA hn b_ _ ar=>exact .iA hn b_ (ar eu)
variable [TokOk]
section
variable {P:Program}{env:Env}{J:ag}{w:World}{m:Nat->Option Nat}{B f:Nat}
def WQ{bu:ag}{bf:World}{b3:Nat->Option Nat}(al:Rel P J w m B)(he:Ext J.next J w m bu bf b3):Rel P J bf m B/\Ext f J w m J bf m:=by
 have jC:∀aA,¬yO J.next J m aA:=λaA ⟨id,h1,h2,h3⟩=>by have:=Va h3;omega
 have dn:Ext f J w m J bf m:=⟨λ_ _ h=>h,λ_ _ h=>.inl h,b6 _,he.size,he.gU,λb hb _=>he.bK b hb (jC b),λ_ _ _=>rfl,λ_ _ h=>h,he.os,he.tape,he.out,λ_ _ _=>rfl⟩
 refine⟨⟨al.len,λid aA h=>⟨u7 (al.eV _ _ h).1 he.size,(al.eV _ _ h).2⟩,λid aA o h hg an=>?_,al.inj,al.base,lE al.bb he.size⟩,dn⟩;obtain⟨bV,h1,h2⟩:=al.obj id aA o h hg an;exact⟨bV,by rw[he.bK aA (al.eV _ _ h).1 (jC aA)];exact h1,h2.mono dn.mono dn.size dn.gU (dn.rv al)⟩
def BB(P:Program)(env:Env)(bN:Nat):Prop:=
 ∀g aB r,env.spec g aB=some r->(∃fn c,P.funcs[g]? =some fn/\fn.body=some c/\(fn.name== "runtime.NumGoroutine")=false)∧
  ∀k rd w us,bN<=w.heap.size->Globs env w bN->bF w (λ_=>none) (λ_=>False) w.heap.size aB us.toList→
   CallsIn (e9 rd) k P g us w (λe bf=>∃u,e= .returned u/\az bf (λ_=>none) (λb=>b<w.heap.size) w.heap.size r u/\w.heap.size<=bf.heap.size/\(∀b,b<w.heap.size->bf.heap[b]? =w.heap[b]?)/\bf.os=w.os/\bf.tape=w.tape/\bf.output=w.output)
def zk(P:Program)(env:Env)(bN g:Nat)(aB:List AV)(v:AV)(os:List AO):Prop:=
 (∃fn c,P.funcs[g]? =some fn/\fn.body=some c/\(fn.name== "runtime.NumGoroutine")=false)∧
  ∀k rd w us,bN<=w.heap.size->Globs env w bN->bF w (λ_=>none) (λ_=>False) w.heap.size aB us.toList→
   CallsIn (e9 rd) k P g us w (λe bf=>∃u,e= .returned u/\(∃b3,A7 v=true/\az bf b3 (λ_=>False) 0 v u∧
    (∀id aA,b3 id=some aA->w.heap.size<=aA/\aA<bf.heap.size/\id<os.length)∧
    (∀id aA c,b3 id=some aA->os[id]? =some (.cells c)->∃arr el a2,bf.heap[aA]? =some (.cells arr el a2)/\c.length<=arr.size/\(∀i (h:i<c.length) (h':i<arr.size),az bf b3 (λ_=>False) 0 (c[i]) (arr[i]))/\(∀i,i<arr.size->(decide (a2.1<=i)&&decide (i<a2.2))=false)/\∀x∈c,s0 x=true)∧
    (∀id eW aA c bn,b3 id=some aA->b3 eW=some aA->os[id]? =some (.cells c)->os[eW]? =some (.cells bn)->id=eW))∧
    w.heap.size<=bf.heap.size/\(∀b,b<w.heap.size->bf.heap[b]? =w.heap[b]?)/\bf.os=w.os/\bf.tape=w.tape/\bf.output=w.output)
def tk(P:Program)(env:Env):Prop:=
 (∀g,env.ext g≠0->∀args v,extRow (env.ext g) args=some v->∀w m O B us cs,bF w m O B args (us++cs).toList->∃u,(invoke (.fn (.func g) cs) us).run P w= .ok (.value u) w/\az w m O B v u)∧
 ∀g aB v os,env.qk g aB=some (v,os)->∀bN,zk P env bN g aB v os
def O3(N:Nat):∀(os:List AO) (J:ag),(lI N os J).next=J.next+os.length
 |[],J=>rfl
 |o::os,J=>by
  show(lI N os (J.push (Dw N o))).next=_;rw[O3 N os,gS];show J.next+1+os.length=_;omega
def Jc(N:Nat):∀(os:List AO) (J:ag) (i:Nat),(lI N os J).get i=if i<J.next then J.get i else(os[i-J.next]?).map (Dw N)
 |[],J,i=>by
  show J.get i=_;split
  ·rfl
  ·rename_i h;cases hg:J.get i with
   |none=>simp
   |some o=>exact absurd (ag.cJ hg) h
 |o::os,J,i=>by
  show(lI N os (J.push (Dw N o))).get i=_;rw[Jc N os];have hn:(J.push (Dw N o)).next=J.next+1:=rfl;rw[hn];rw[ag.NC trivial];by_cases h1:i<J.next
  ·rw[if_pos U,if_pos h1,if_neg U]
  ·rw[if_neg h1];by_cases h2:i=J.next
   ·subst h2;rw[if_pos U,if_pos I];simp
   ·rw[if_neg U];have e:i-J.next=(i-(J.next+1))+1:=by omega
    rw[e,HW]
def O4{w:World}{m h_:Nat->Option Nat}{O nW:Nat->Prop}{B nX N:Nat}(hm:∀id aA,m id=some aA->h_ (id+N)=some aA){v:AV}{u:Value}(au:s0 v=true)(h:az w m O B v u):az w h_ nW nX (uU N v) u:=by
 cases h with
 |s l h=>exact .s l h
 |i k n=>exact .i k n
 |b x=>exact .b x
 |aj=>exact .aj
 |aq h ao ae hn fi dP=>exact .aq (hm _ _ h) ao ae hn fi dP
 |_=>cases au
def WR{N:Nat}{v:AV}(au:s0 v=true):conf none (uU N v)=true:=by cases v<;>first|rfl|cases au
def WS{w:World}{m h_:Nat->Option Nat}{O nW:Nat->Prop}{B nX N:Nat}(hm:∀id aA,m id=some aA->h_ (id+N)=some aA){v:AV}{u:Value}(au:wR v=true)(h:az w m O B v u):az w h_ nW nX (Dv N v) u:=by
 by_cases rU:∃l,v= .ad l
 ·obtain⟨l,rfl⟩:=rU;cases h with
  | @ad _ _ _ _ a8 ak al hf=>
   refine .ad (by rw[cb];exact ak) (λi h h'=>?_) (λx hx=>?_)
   ·rw[ic];have hi:i<l.length:=by rwa[cb] at h
    exact O4 hm (jO au _ (c3 hi)) (al i hi h')
   ·obtain⟨y,aI,rfl⟩:=di.1 hx;exact WR (jO au _ aI)
 ·have aF:wR v=s0 v:=by cases v<;>first|rfl|exact absurd ⟨_,rfl⟩ rU
  have aV:Dv N v=uU N v:=by cases v<;>first|rfl|exact absurd ⟨_,rfl⟩ rU
  rw[aV];rw[aF] at au;exact O4 hm au h
def b2H{w:World}{m h_:Nat->Option Nat}{O nW:Nat->Prop}{B nX N:Nat}(hm:∀id aA,m id=some aA->h_ (id+N)=some aA){v:AV}{u:Value}(au:A7 v=true)(h:az w m O B v u):az w h_ nW nX (s3 N v) u:=by
 by_cases rV:∃l,v= .a6 l
 ·obtain⟨l,rfl⟩:=rV;cases h with
  | @a6 _ _ _ _ a8 ak al=>
   refine .a6 (by rw[cb];exact ak) (λi h h'=>?_);rw[ic];have hi:i<l.length:=by rwa[cb] at h
   exact WS hm (jO au _ (c3 hi)) (al i hi h')
 ·have aF:A7 v=wR v:=by cases v<;>first|rfl|exact absurd ⟨_,rfl⟩ rV
  have aV:s3 N v=Dv N v:=by cases v<;>first|rfl|exact absurd ⟨_,rfl⟩ rV
  rw[aV];rw[aF] at au;exact WS hm au h
def b2I(al:Rel P J w m B){bf:World}{b3:Nat->Option Nat}{os:List AO}{v:AV}{u:Value}(cj:w.heap.size<=bf.heap.size)(td:∀b,b<w.heap.size->bf.heap[b]? =w.heap[b]?)(kD:bf.os=w.os)(mD:bf.tape=w.tape)(kE:bf.output=w.output)
  (au:A7 v=true) (hR:az bf b3 (λ_=>False) 0 v u) (an:∀id aA,b3 id=some aA->w.heap.size<=aA/\aA<bf.heap.size/\id<os.length)
  (ho:∀id aA c,b3 id=some aA->os[id]? =some (.cells c)->∃arr el a2,bf.heap[aA]? =some (.cells arr el a2)/\c.length<=arr.size/\(∀i (h:i<c.length) (h':i<arr.size),az bf b3 (λ_=>False) 0 (c[i]) (arr[i]))/\(∀i,i<arr.size->(decide (a2.1<=i)&&decide (i<a2.2))=false)/\∀x∈c,s0 x=true)
  (hi:∀id eW aA c bn,b3 id=some aA->b3 eW=some aA->os[id]? =some (.cells c)->os[eW]? =some (.cells bn)->id=eW):
  ∃h_,az bf h_ (bh (lI J.next os J) h_) B (s3 J.next v) u/\Rel P (lI J.next os J) bf h_ B/\Ext f J w m (lI J.next os J) bf h_:=by
 have qE:∀id aA,b3 id=some aA->(λid=>if id<J.next then m id else b3 (id-J.next)) (id+J.next)=some aA:=λid aA h=>by
  show(if id+J.next<J.next then _ else _)=_;rw[if_neg U,Nat.add_sub_cancel];exact h
 have gf:∀b n,dO w b=some n->dO bf b=some n:=λb n hb=>by
  have:=OV hb;unfold dO at hb ⊢;rw[td b this];exact hb
 have fG:=Jc J.next os J;have rW:=O3 J.next os J;generalize c4d:lI J.next os J=bA at fG rW ⊢;have dn:Ext f J w m bA bf (λid=>if id<J.next then m id else b3 (id-J.next)):=by
  refine⟨λid aA h=>?_,λid aA h=>?_,U,cj,gf,λb hb _=>td b hb,λid _ h=>by rw[fG,if_pos h],λid h ao=>?_,kD,mD,kE,λid h _=>by rw[fG,if_pos h]⟩
  ·show(if _ then _ else _)=_;rw[if_pos (al.eV _ _ h).2];exact h
  ·replace h:(if id<J.next then m id else b3 (id-J.next))=some aA:=h;split at h
   ·exact .inl h
   ·rename_i hn;exact .inr ⟨U,.inl (an _ _ h).1⟩
  ·obtain⟨o,h1,h2⟩:=ao;rw[fG,if_pos h] at h1;exact⟨o,h1,h2⟩
 have Bn:∀id,J.next<=id->live bA id->∃c,os[id-J.next]? =some (.cells c)/\bA.get id=some (.cells (c.map (uU J.next))):=λid hn ⟨o,h1,h2⟩=>by
  have oE:=h1;rw[fG,if_neg U] at oE;obtain⟨bV,h3,rfl⟩:=eE.1 oE;cases bV with
  |cells c=>exact⟨c,h3,h1⟩
  |_=>cases h2
 refine⟨_,b2H qE au hR,⟨trivial,λid aA h=>?_,λid aA o h hg Jd=>?_,λid eW aA h h' ao gE=>?_,λid aA h=>?_,lE al.bb cj⟩,dn⟩
 ·replace h:(if id<J.next then m id else b3 (id-J.next))=some aA:=h;split at h
  ·have:=al.eV _ _ h;exact⟨U,U⟩
  ·have:=an _ _ h;exact⟨U,U⟩
 ·replace h:(if id<J.next then m id else b3 (id-J.next))=some aA:=h;split at h
  ·rename_i hn;rw[fG,if_pos hn] at hg;obtain⟨bV,h1,h2⟩:=al.obj id aA o h hg Jd;exact⟨bV,by rw[td aA (al.eV _ _ h).1];exact h1,h2.mono dn.mono dn.size dn.gU (dn.rv al)⟩
  ·rename_i hn;obtain⟨c,h1,h2⟩:=Bn id U ⟨o,hg,Jd⟩;rw[hg] at h2;cases h2;obtain⟨arr,el,a2,iB,gO,h9,iE,nY⟩:=ho _ _ _ h h1;refine⟨_,iB,.cells (by rw[cb];exact gO) (λi a b=>?_) iE (λx hx=>?_)⟩
   ·rw[ic];have hi:i<c.length:=by rwa[cb] at a
    exact O4 qE (nY _ (c3 hi)) (h9 i hi b)
   ·obtain⟨y,aI,rfl⟩:=di.1 hx;exact WR (nY _ aI)
 ·replace h:(if id<J.next then m id else b3 (id-J.next))=some aA:=h;replace h':(if eW<J.next then m eW else b3 (eW-J.next))=some aA:=h';split at h
  ·rename_i h1;split at h'
   ·rename_i h2;refine al.inj id eW aA h h' ?_ ?_
    ·obtain⟨o,a,b⟩:=ao;rw[fG,if_pos h1] at a;exact⟨o,a,b⟩
    ·obtain⟨o,a,b⟩:=gE;rw[fG,if_pos h2] at a;exact⟨o,a,b⟩
   ·have:=al.eV _ _ h;have:=an _ _ h';omega
  ·rename_i h1;split at h'
   ·have:=al.eV _ _ h';have:=an _ _ h;omega
   ·rename_i h2;obtain⟨c,a,_⟩:=Bn id U ao;obtain⟨bn,cC,_⟩:=Bn eW U gE;have:=hi _ _ _ _ _ h h' a cC;omega
 ·replace h:(if id<J.next then m id else b3 (id-J.next))=some aA:=h;split at h
  ·exact al.base _ _ h
  ·have:=an _ _ h;have:=al.bb;omega
def O5(J:ag)(v:AV):bp J 0 v=none:=rfl
def snapshot_succ(J:ag)(n:Nat)(v:AV):bp J (n+1) v=match v with
  | .aq id off len R cap=>
   match readList J (.aq id off len R cap) with
   |none=>none
   |some xs=>match mapO (bp J n) xs with|none=>none|some xs=>some (.aR true R xs)
  | .aj=>some .aj
  | .aR _ R xs=>match mapO (bp J n) xs with|none=>none|some xs=>some (.aR true R xs)
  | .ad l=>match mapO (bp J n) l with|none=>none|some l=>some (.ad l)
  | .a6 l=>match mapO (bp J n) l with|none=>none|some l=>some (.a6 l)
  | .it t v=>match bp J n v with|none=>none|some v=>some (.it t v)
  | .p (some _)=>none
  | .m (some _)=>none
  | .dk _ _=>none
  | .f _ _ _=>none
  | .eT _ i=>some (.eT true i)
  | .iA _ _ _=>none
  |v=>some v:=rfl
def WT{R:Option Nat}:∀ {n:Nat} {v a_:AV},bp J n v=some a_->conf R v=true->conf R a_=true
 |0,v,a_,h,_=>by rw[O5] at h;cases h
 |n+1,v,a_,h,ae=>by
  rw[snapshot_succ] at h;split at h
  ·split at h<;>try (cases h;done)
   split at h<;>cases h;cases R<;>simp[conf] at ae ⊢
  ·cases h;exact ae
  ·split at h<;>cases h;cases R<;>simp[conf] at ae ⊢
  ·split at h<;>cases h;rename_i l bq ao;have:=(nJ ao).1;cases R with
   |none=>simp[conf] at ae
   |some k=>simp[conf] at ae ⊢;omega
  ·split at h<;>cases h;cases R<;>simp[conf] at ae
  ·split at h<;>cases h;cases R<;>simp[conf] at ae ⊢
  ·cases h
  ·cases h
  ·cases h
  ·cases h
  ·cases h;cases R<;>simp[conf] at ae ⊢
  ·cases h
  ·cases h;exact ae
def b2J{R:Option Nat}:∀(l:List AV),(∀a∈l,conf R a=true)->∀i (hi:i<l.length),(l[i]).cells=((l.flatMap AV.cells).drop (i*shN R)).take (shN R):=by
 intro l
 induction l with
 |nil=>intro _ i hi;simp at hi
 |cons x l iQ=>
  intro ao i hi;have hx:=rE (ao x aT);cases i with
  |zero=>simp[j4,hx]
  |succ i=>
   have:=iQ (λa ha=>ao a (by simp[ha])) i (by simpa using hi);rw[Dr,this,j4,List.drop_append];have aF:(i+1)*shN R-x.cells.length=i*shN R:=by rw[hx,jz,qh];omega
   have aV:x.cells.drop ((i+1)*shN R)=[]:=On (by rw[hx,jz,qh];omega);rw[aF,aV,qA]
def b2K{O:Nat->Prop}{old:Bool}{R:Option Nat}{aA off c:Nat}{xs:List AV}{us:List Value}(c9:xs≠[]->¬O aA/\aA<w.heap.size/\(old=false->B<=aA))(nP:us.length=xs.length*shN R)
  (nL:∀j u,us[j]? =some u->w.cell? ⟨aA,off+j,none⟩=some u)
  (elem:∀i (hi:i<xs.length),bF w (λ_=>none) O B (xs[i]).cells ((us.drop (i*shN R)).take (shN R))/\conf R (xs[i])=true/\∀x∈(xs[i]).cells,conf none x=true) (hle:xs.length<=c):
  az w m O B (.aR old R xs) (.slice (some ⟨aA,off,none⟩) xs.length c):=by
 have hmul:∀i,i<xs.length->i*shN R+shN R<=xs.length*shN R:=λi hi=>by
  have:=qg (shN R) (show i+1<=xs.length from hi);rw[jz,qh] at this;exact this
 have gr:∀i,i<xs.length->∀j,j<shN R->∃aG:i*shN R+j<us.length,((us.drop (i*shN R)).take (shN R))[j]? =some (us[i*shN R+j]):=λi hi j aG=>by
  have:=hmul i hi;refine⟨U,?_⟩;rw[sT aG,ri,eS U]
 refine .aR (λi j=>(us[i*shN R+j]?).getD undef) c9 (λi hi=>(elem i hi).2.1) (λi hi j aG=>?_) (λi hi j aG=>?_) hle (λv au=>?_) (λ_=>rfl)
 ·have fj:j<shN R:=by rw[rE (elem i hi).2.1] at aG;exact aG
  obtain⟨hlt,_⟩:=gr i hi j fj;have:=nL (i*shN R+j) _ (eS hlt);rw[<-sU] at this;rw[this,eS hlt];rfl
 ·have fj:j<shN R:=by rw[rE (elem i hi).2.1] at aG;exact aG
  obtain⟨hlt,iX⟩:=gr i hi j fj;obtain⟨b2D,Ei,O1⟩:=(elem i hi).1.get (eS aG);rw[iX] at Ei;cases Ei;rw[eS hlt];exact O1
 ·obtain⟨i,hi,rfl⟩:=lF au;exact(elem i hi).2.2
def O6(al:Rel P J w m B)(ej:Nat):∀(n:Nat) (v a_:AV) (u:Value),bp J n v=some a_->az w m (bh J m) B v u->az w (λ_=>none) (λ_=>False) ej a_ u
 |0,v,a_,u,h,_=>by rw[O5] at h;cases h
 |n+1,v,a_,u,h,au=>by
  have ar:=λv a_ u h au=>O6 al ej n v a_ u h au;have list:∀ {l bq:List AV} {us:List Value},mapO (bp J n) l=some bq->bF w m (bh J m) B l us->bF w (λ_=>none) (λ_=>False) ej bq us:=λ{l bq us} ao k1=>by
   obtain⟨h1,h2⟩:=nJ ao;refine⟨by rw[k1.1,h1],λi hi du=>?_⟩;exact ar _ _ _ (h2 i U hi) (k1.2 i U du)
  have slice:∀ {x:AV} {R:Option Nat} {xs pz:List AV},readList J x=some xs->mapO (bp J n) xs=some pz->az w m (bh J m) B x u->(∀a∈xs,conf R a=true)->az w (λ_=>none) (λ_=>False) ej (.aR true R pz) u:=λ{x R xs pz} ed zj hx tf=>by
   obtain⟨h1,h2⟩:=nJ zj;obtain⟨base,c,us,rfl,hle,Bm,nP,nM,nL⟩:=DN al hx ed tf;cases base with
   |none=>
    obtain⟨rfl,rfl⟩:=nL;have:pz=[]:=ou (by simpa using h1);subst this;exact .kB
   |some a=>
    obtain⟨aA,off,sp⟩:=a;obtain⟨ei,nL,hlt⟩:=nL;by_cases rK:xs=[]
    ·subst rK;have:pz=[]:=ou (by simpa using h1);subst this;exact .aR (xs:=[]) (λ_ _=>undef) (λh=>absurd I h) (λi h=>by simp at h) (λi h=>by simp at h) (λi h=>by simp at h) (kA _) (λv au=>by simp at au) (λh=>absurd I h)
    obtain rfl:=ei rK;rw[<-h1];refine b2K (us:=us) (λb_=>⟨λh=>h,?_,λh=>by cases h⟩) (by rw[h1];exact nP) (λj u hu=>by have:=nL j u hu;rw[j8] at this;exact this) (λi hi=>?_) U
    ·exact hlt (λhe=>b_ (ou (by rw[h1,he];rfl)))
    ·have zl:i<xs.length:=by omega
     have Eh:=tf _ (c3 zl);have OX:∀x∈(xs[i]).cells,conf none x=true:=λx hx=>nM x (yG.2 ⟨_,c3 zl,hx⟩);have OY:bF w m (bh J m) B (xs[i]).cells ((us.drop (i*shN R)).take (shN R)):=by
      rw[b2J xs tf i zl];exact(Bm.drop _).take _
     obtain⟨b2C,OZ,O0⟩:=az.WN Eh OY OX;have bE:=ar _ _ _ (h2 i zl hi) OZ;have rI:=WT (h2 i zl hi) Eh;have:=bE.cells;rw[O0] at this;exact⟨this,rI,bE.Is rI⟩
  rw[snapshot_succ] at h;split at h
  ·rename_i id off len R cap;split at h<;>try (cases h;done)
   rename_i xs ed;split at h<;>cases h;rename_i pz zj;refine slice ed zj au ?_;have c4e:=ed;simp only[readList] at ed;split at ed<;>try (cases ed;done)
   rename_i c hg;cases au with
   |aq hm ao rF hn fi=>
    obtain⟨arr,el,a2,hh,k0,oC,aZ,jj⟩:=al.cells hm hg;exact(Bk (λx hx=>jj x (nH hx)) ed).2.2.2
  ·cases h;cases au;exact .aj
  ·rename_i o R xs;split at h<;>cases h;rename_i pz zj;refine slice (x:=.aR o R xs) I zj au ?_;intro a ha;cases au with
   |kB=>simp at ha
   |aR a4 c9 ak ae hG ao hf ei=>
    obtain⟨i,hi,rfl⟩:=lF ha;exact ak i hi
  ·split at h<;>cases h;rename_i l bq ao;obtain⟨a8,rfl,kF,nM⟩:=au.qo;refine az.yR (list ao kF) (λx hx=>?_) |> λh=>by simpa using h
   obtain⟨i,hi,rfl⟩:=lF hx;have:=nJ ao;exact WT (this.2 i U hi) (nM _ (c3 _))
  ·split at h<;>cases h;rename_i l bq ao;obtain⟨a8,rfl,kF⟩:=au.NG;have:=az.uY (list ao kF);simpa using this
  ·split at h<;>cases h;rename_i O2;cases au with
   |it h=>exact .it (ar _ _ _ O2 h)
  ·cases h
  ·cases h
  ·cases h
  ·cases h
  ·cases h;cases au with
   |eT hu h=>exact .eT hu (TokOk.snap h)
  ·cases h
  ·rename_i dQ dC fY hM oN mO pA Ej tl BC WU WV;cases h;cases au with
   |b x=>exact .b x
   |i k n=>exact .i k n
   |s l h=>exact .s l h
   |qm=>exact .qm
   |ru=>exact .ru
   |gp=>exact .gp
   |eC=>exact .eC
   |aj=>exact .aj
   |p h=>exact absurd I (pA _)
   |mp h=>exact absurd I (Ej _)
   |dk=>exact absurd I (tl _ _)
   |na=>exact absurd I (BC _ _ _)
   |uW=>exact absurd I (BC _ _ _)
   |aq=>exact absurd I (dQ _ _ _ _ _)
   |kB=>exact absurd I (fY _ _ _)
   |aR=>exact absurd I (fY _ _ _)
   |it h=>exact absurd I (mO _ _)
   |ad=>exact absurd I (hM _)
   |a6=>exact absurd I (oN _)
   |iz n h=>exact .iz n h
   |y h=>exact .y h
   |eT hu h=>exact absurd I (WU _ _)
   |g1 k h=>exact .g1 k h
   |fF k h h'=>exact .fF k h h'
   |iA=>exact absurd I (WV _ _ _)
   |e3 h hn=>exact .e3 h hn
   |hC h=>exact .hC h
end
end
end
section
variable [Tok][TokOk]
open Go.RowKit
def BD{α:Type}{g:α->α->Bool}(hg:∀x y,g x y=true->x=y):∀(l r:List α),fv g l r=true->l=r
 |[],[],_=>rfl
 |[],_::_,h=>by cases h
 |_::_,[],h=>by cases h
 |x::l,y::r,h=>by
  have h:cond (g x y) (fv g l r) false=true:=h;cases vg:g x y with
  |false=>rw[vg] at h;cases h
  |true=>
   rw[vg,cond_true] at h;rw[hg x y vg,BD hg l r h]
def AV.qF:∀(n:Nat) (x y:AV),AV.eqb n x y=true->x=y
 |0,_,_,h=>by cases h
 |n+1,x,z,h=>by
  have ar:=AV.qF n;have iQ:=BD ar;cases x
  case p a=>
   cases a with
   |none=>
    cases z
    case p b=>
     cases b with
     |none=>rfl
     |some b=>exfalso;revert h;show ¬(false=true);simp
    all_goals (exfalso;revert h;show ¬(false=true);simp)
   |some a=>
    cases z
    case p b=>
     cases b with
     |none=>exfalso;revert h;show ¬(false=true);simp
     |some b=>
      have h:(Nat.beq a.1 b.1&&Nat.beq a.2 b.2)=true:=h;simp only[c7,mw] at h;rw[Prod.ext h.1 h.2]
    all_goals (exfalso;revert h;show ¬(false=true);simp)
  case m a=>
   cases a with
   |none=>
    cases z
    case m b=>
     cases b with
     |none=>rfl
     |some b=>exfalso;revert h;show ¬(false=true);simp
    all_goals (exfalso;revert h;show ¬(false=true);simp)
   |some a=>
    cases z
    case m b=>
     cases b with
     |none=>exfalso;revert h;show ¬(false=true);simp
     |some b=>
      have h:Nat.beq a b=true:=h;rw[eM h]
    all_goals (exfalso;revert h;show ¬(false=true);simp)
  all_goals (cases z<;>first
   |rfl
   |(exfalso;revert h;show ¬(false=true);simp;done)
   |skip)
  case b.b a b=>have h:(a==b)=true:=h;simpa using h
  case i.i k a l b=>
   have h:(decide (k=l)&&decide (a=b))=true:=h;simp at h;rw[h.1,h.2]
  case s.s a b=>have h:eqL a b=true:=h;rw[(rB _ _).1 h]
  case dk.dk uT a b2 b=>
   have h:((uT==b2)&&AV.eqb n a b)=true:=h;simp only[c7,beq_iff_eq] at h;rw[h.1,ar _ _ h.2]
  case aq.aq a9 bt cW eD e4 db cK et kW Nq=>
   have h:(Nat.beq a9 db&&Nat.beq bt cK&&Nat.beq cW et&&decide (eD=kW)&&decide (e4=Nq))=true:=h;simp only[c7,mw,decide_eq_true_eq] at h;obtain⟨⟨⟨⟨rfl,rfl⟩,rfl⟩,rfl⟩,rfl⟩:=h;rfl
  case aR.aR uT c5 a b2 vh b=>
   have h:((uT==b2)&&decide (c5=vh)&&fv (AV.eqb n) a b)=true:=h;simp only[c7,beq_iff_eq,decide_eq_true_eq] at h;rw[h.1.1,h.1.2,iQ _ _ h.2]
  case f.f b7 a9 bt br db cK=>
   have h:(decide (b7=br)&&(fv (AV.eqb n) a9 db&&fv (AV.eqb n) bt cK))=true:=h;simp only[c7,decide_eq_true_eq] at h;rw[h.1,iQ _ _ h.2.1,iQ _ _ h.2.2]
  case it.it t a u b=>
   have h:(Nat.beq t u&&AV.eqb n a b)=true:=h;simp only[c7,mw] at h;rw[h.1,ar _ _ h.2]
  case ad.ad a b=>have h:fv (AV.eqb n) a b=true:=h;rw[iQ _ _ h]
  case a6.a6 a b=>have h:fv (AV.eqb n) a b=true:=h;rw[iQ _ _ h]
  case e3.e3 k a b l c d=>
   have h:(decide (k=l)&&(Nat.beq a c&&Nat.beq b d))=true:=h;simp only[c7,mw,decide_eq_true_eq] at h;rw[h.1,h.2.1,h.2.2]
  case iz.iz a b=>have h:(a==b)=true:=h;rw[eq_of_beq h]
  case g1.g1 a b=>have h:Nat.beq a b=true:=h;rw[eM h]
  case fF.fF a b c d=>
   have h:(Nat.beq a c&&Nat.beq b d)=true:=h;simp only[c7,mw] at h;rw[h.1,h.2]
  case y.y a b=>
   have h:Nat.beq a b=true:=h;rw[eM h]
  case eT.eT o a p b=>
   have h:((o==p)&&Nat.beq a b)=true:=h;simp only[c7,beq_iff_eq,mw] at h;rw[h.1,h.2]
  case hC.hC a b=>have h:fv eqL a b=true:=h;rw[BD (λx y h=>(rB x y).1 h) _ _ h]
def WW{n base:Nat}{l:List (cQ×ag)}{v:AV}(h:joinF n base l=some v):∀ret af,(ret,af)∈l->∃v0,ret= .ok v0/\freeze af base n v0=some v:=by
 unfold joinF at h;split at h
 ·cases h
 rename_i x t;split at h
 ·cases h
 rename_i v0 cr;split at h
 ·cases h
 rename_i v1 u2;cases hall:cB (yL n base v1) t with
 |false=>rw[hall] at h;cases h
 |true=>
  rw[hall,cond_true] at h;cases h;intro ret af eQ;rcases eH.1 eQ with he|eQ
  ·cases he;exact⟨_,rfl,u2⟩
  ·have:=jO hall _ eQ;cases ret with
   |err w=>cases this
   |ok w=>
    simp only[yL] at this;split at this
    ·rename_i bf fH;exact⟨w,rfl,by rw[fH,AV.qF _ _ _ this]⟩
    ·cases this
section
variable {P:Program}{env:Env}{B:Nat}
def WX(fS:px P env)(ei:BB P env B){run:jg}(b5:qD P env B run){f g:Nat}{args:List AV}{J:ag}{j_:List (cQ×ag)}(h:callF env run f g args J=some j_)(BE:env.ext g=0)(k:Nat)(r:Option Nat)
  {w:World} {m:Nat->Option Nat} (al:Rel P J w m B) (cc:Globs env w B) {us:Array Value} (ha:bF w m (bh J m) B args us.toList):
  (∃fn c,P.funcs[g]? =some fn/\fn.body=some c/\(fn.name== "runtime.NumGoroutine")=false)∧
  CallsIn (e9 r) k P g us w (λe ax=>∃ret af,(ret,af)∈j_/\∃aK,rO ax aK (bh af aK) B ret e/\Rel P af ax aK B/\Ext f J w m af ax aK):=by
 unfold callF at h;rw[BE] at h;simp only at h;cases ay:env.pure g with
 |false=>
  rw[ay,cond_false] at h;exact Eb fS b5 (Eg fS f) h k r al cc ha
 |true=>
  rw[ay,cond_true] at h;split at h
  ·-- known
   rename_i v au;cases h;split at au<;>try (cases au;done)
   rename_i aB Ek;obtain⟨hb,ae⟩:=ei g aB v au;refine⟨hb,?_⟩;have O7:bF w (λ_=>none) (λ_=>False) w.heap.size aB us.toList:=by
    obtain⟨h1,h2⟩:=nJ Ek;refine⟨by rw[ha.1,h1],λi hi du=>?_⟩;exact O6 al _ env.a2 _ _ _ (h2 i U hi) (ha.2 i U du)
   refine w3 (ae k r w us al.bb cc O7) (λe bf dh=>?_);obtain⟨u,rfl,hR,cj,td,kD,mD,kE⟩:=dh;have gf:∀b n,dO w b=some n->dO bf b=some n:=λb n hb=>by
    have:=OV hb;unfold dO at hb ⊢;rw[td b this];exact hb
   have he:Ext J.next J w m J bf m:=⟨λ_ _ h=>h,λ_ _ h=>.inl h,b6 _,cj,gf,λb hb _=>td b hb,λ_ _ _=>rfl,λ_ _ h=>h,kD,mD,kE,λ_ _ _=>rfl⟩
   obtain⟨h1,h2⟩:=WQ (f:=f) al he;refine⟨_,_,dx.2 I,m,?_,h1,h2⟩;have b2L:az bf (λ_=>none) (bh J m) w.heap.size v u:=hR.mono (λ_ _ h=>h) (b6 _) (λ_ _ h=>h) (λb _ hb=>⟨rfl,λho=>hb (al.U_ ho)⟩);exact(b2L.b2F al.bb).up
  ·-- run,and rn store dropped
   split at h<;>try (cases h;done)
   rename_i l b2M;split at h<;>cases h;rename_i a_ hfz;obtain⟨hb,ae⟩:=Eb fS b5 (Eg fS J.next) b2M k r al cc ha;refine⟨hb,?_⟩;refine w3 ae (λe bf dh=>?_);obtain⟨ret,bu,eQ,b3,hU,hS,fl⟩:=dh;obtain⟨v,rfl,b2N⟩:=WW hfz _ _ eQ;obtain⟨h1,h2⟩:=WQ (f:=f) al fl;refine⟨_,_,dx.2 I,m,?_,h1,h2⟩;cases e with
   |returned u=>exact(OW al hS fl env.a2 v a_ u b2N hU).up
   |panicked mL=>exact hU.elim
   |outgrown=>exact hU.elim
def b2O(fS:px P env)(ei:BB P env B)(hex:tk P env){run:jg}(b5:qD P env B run){f g:Nat}{args:List AV}{J:ag}{j_:List (cQ×ag)}(h:callF env run f g args J=some j_)(k:Nat)(r:Option Nat)
  {w:World} {m:Nat->Option Nat} (al:Rel P J w m B) (cc:Globs env w B) {us cs:Array Value} (ha:bF w m (bh J m) B args (us++cs).toList):
  match(invoke (.fn (.func g) cs) us).run P w with
  | .ok (.enter bD By) ax=>CallsIn (e9 r) k P bD By ax (λe ax=>∃ret af,(ret,af)∈j_/\∃aK,rO ax aK (bh af aK) B ret e/\Rel P af ax aK B/\Ext f J w m af ax aK)
  | .ok (.round l bD tmps as b) ax=>RoundIn (e9 r) k P l bD tmps as b ax (λe ax=>∃ret af,(ret,af)∈j_/\∃aK,rO ax aK (bh af aK) B ret e/\Rel P af ax aK B/\Ext f J w m af ax aK)
  | .ok (.value v) ax=>(λe ax=>∃ret af,(ret,af)∈j_/\∃aK,rO ax aK (bh af aK) B ret e/\Rel P af ax aK B/\Ext f J w m af ax aK) (.returned v) ax
  |_=>False:=by
 by_cases BE:env.ext g=0
 ·obtain⟨⟨fn,c,h1,h2,h3⟩,ae⟩:=WX fS ei b5 h BE k r al cc ha;rw[I8 h1 h2 h3 cs us w];exact ae
 ·unfold callF at h;split at h
  ·rename_i h0;exact absurd h0 BE
  rename_i n b_;split at h
  case h_2=>
   split at h<;>cases h;rename_i v os au;split at au<;>try (cases au;done)
   rename_i aB Ek;obtain⟨⟨fn,c,db,cK,et⟩,ae⟩:=hex.2 g aB v os au B;rw[I8 db cK et cs us w];have O7:bF w (λ_=>none) (λ_=>False) w.heap.size aB (us++cs).toList:=by
    obtain⟨h1,h2⟩:=nJ Ek;refine⟨by rw[ha.1,h1],λi hi du=>?_⟩;exact O6 al _ env.a2 _ _ _ (h2 i U hi) (ha.2 i U du)
   refine w3 (ae k r w (us++cs) al.bb cc O7) (λe bf dh=>?_);obtain⟨u,rfl,⟨b3,iB,gO,h9,iE,nY⟩,cj,td,kD,mD,kE⟩:=dh;obtain⟨h_,p1,p2,b2P⟩:=b2I (f:=f) al cj td kD mD kE iB gO h9 iE nY;exact⟨_,_,dx.2 I,h_,p1,p2,b2P⟩
  cases h;rename_i v au;obtain⟨u,h1,h2⟩:=hex.1 g (λh0=>b_ h0) args v au w m (bh J m) B us cs ha;rw[h1];exact⟨_,_,dx.2 I,m,h2,al,Ext.refl _ _ _ _⟩
end
def b2Q(args:List AV)(aq:aY AV):layAll [] args aq=aq:=rfl
def b2R(p:Nat)(aE:List Nat)(args:List AV)(aq:aY AV):layAll (p::aE) args aq=match args with|[]=>aq|a::args=>layAll aE args (aq.set p a):=rfl
def WY{w:World}{m:Nat->Option Nat}{O:Nat->Prop}{B:Nat}:∀(aE:List Nat) (args:List AV) (us:List Value) (aq:aY AV) (tmps:Array Value),iR w m O B aq tmps.toList->bF w m O B args us->aE.length=args.length→
  iR w m O B (layAll aE args aq) ((aE.zip us).foldl (λ(tmps:Array Value) (x:Nat×Value)=>tmps.setIfInBounds x.1 x.2) tmps).toList
 |[],args,us,aq,tmps,ak,ha,ao=>by simpa [b2Q] using ak
 |p::aE,[],us,aq,tmps,ak,ha,ao=>by simp at ao
 |p::aE,a::args,us,aq,tmps,ak,ha,ao=>by
  cases us with
  |nil=>have:=ha.1;simp at this
  |cons u us=>
   rw[b2R];simp only[UN,Nl];refine WY aE args us _ _ ?_ (by simpa using ha.drop 1) (by simpa using ao);exact ak.put p (ha.2 0 aT aT)
section
variable {P:Program}{env:Env}{B:Nat}
def Rel.El{J:ag}{w:World}{m:Nat->Option Nat}(al:Rel P J w m B){id aA:Nat}{st:LoopState}{lX:Option bC}{aq:aY AV}{aE:List Nat}{as b:bC}{d:Nat}(hm:m id=some aA)(hg:J.get id=some (.loop st lX aq aE as b d)):
  ∃nI fn tmps h6 eY D,w.heap[aA]? =some (.loop {state:=st,pending:=nI,fn,tmps,params:=aE.toArray,assign:=h6,body:=eY,defers:=D})/\Ik P lX nI/\iR w m (bh J m) B aq tmps.toList/\ccode P h6=some as/\ccode P eY=some b/\m d=some D:=by
 obtain⟨bV,h1,h2⟩:=al.obj _ _ _ hm hg I;cases h2 with
 |loop lJ ak ha hb an=>exact⟨_,_,_,_,_,_,h1,lJ,ak,ha,hb,an⟩
def Rel.Je{J:ag}{w:World}{m:Nat->Option Nat}(al:Rel P J w m B){f id aA:Nat}(hf:f<=id)(hm:m id=some aA){o:AO}{r:Loop}(ao:live J id)(hb:dO w aA=none)(hlt:aA<w.heap.size)(an:o.isDead=false)(ho:lY P w m (bh J m) B o (.loop r)):
  Rel P (J.set id o) (w.putObj aA (.loop r)) m B/\Ext f J w m (J.set id o) (w.putObj aA (.loop r)) m:=
 al.cY hf hm ao (w.putObj aA (.loop r)) o aT (λb b_=>Wa b_) (λn hn=>by rw[hb] at hn;cases hn) rfl rfl rfl (λ_=>⟨_,World.putObj_heap_same hlt,ho⟩)
def b2S{run:jg}(b5:qD P env B run){f l:Nat}{args:List AV}{J:ag}{j_:List (cQ×ag)}(h:Nu run f l args J=some j_)(k:Nat)(r:Option Nat)
  {w:World} {m:Nat->Option Nat} (al:Rel P J w m B) (cc:Globs env w B) {us:Array Value} (ha:bF w m (bh J m) B args us.toList) {aA:Nat} (hm:m l=some aA):
  ∃bD tmps as b,(invoke (.fn (.yield aA) #[]) us).run P w= .ok (.round aA bD tmps as b) w/\RoundIn (e9 r) k P aA bD tmps as b w (λe ax=>∃ret af,(ret,af)∈j_/\∃aK,rO ax aK (bh af aK) B ret e/\Rel P af ax aK B/\Ext f J w m af ax aK):=by
 unfold Nu at h;split at h<;>try (cases h;done)
 rename_i dP;have ta:f<=l:=by simpa [gD] using dP
 split at h<;>try (cases h;done)
 rename_i lX aq aE as b d hg;obtain⟨nI,fn,tmps,h6,eY,D,hh,lJ,ak,has,IF,an⟩:=al.El hm hg;cases zm:Nat.beq aE.length args.length with
 |false=>rw[zm] at h;cases h
 |true=>
  rw[zm,cond_true] at h;have hlen:=eM zm;have k1:us.size=aE.length:=by have:=ha.1;simp at this;omega
  have aI:=run_yield (P:=P) (args:=us) hh (by simpa using k1);refine⟨_,_,_,_,aI,?_⟩;have gi:eP P env ⟨layAll aE args aq,[],false⟩ {tmps:=(aE.toArray.zip us).foldl (λtmps (t,a)=>tmps.setIfInBounds t a) tmps,defers:=[]} J w m B:=by
   refine⟨⟨al,?_,cc⟩,trivial⟩;have:=WY aE args us.toList aq tmps ak ha hlen;have aF:(aE.toArray.zip us)=(aE.zip us.toList).toArray:=by
    apply m6;simp
   rw[aF];simpa using this
  obtain⟨tj,hS,b2T⟩:=w8 h;refine roundIn_of_wpIn trivial ?_;refine(b5 _ _ _ _ _ _ hS k (some aA) h6 _ w m has hm gi _ (λaF eU bu b2U cU a9 bf b3 e_ fX hk=>?_)).1;obtain⟨gq,ev,O8⟩:=b2T _ b2U;cases aF<;>try (cases ev;done)
  cases cU<;>try exact e_.elim
  simp only[roundMid] at ev;split at ev<;>try (cases ev;done)
  rename_i c4f WZ b2V c4g db d1 nj;have BF:=hk.mono _ _ hm;obtain⟨b2W,b2X,b2Y,b2Z,b3a,O9,DJ,b3b,ka,b3c,b3d,mN⟩:=fX.ctx.rel.El BF nj;have b3e:=Bd DJ;have rG:dO bf aA=none:=by unfold dO;rw[DJ]
  obtain⟨nV,nh⟩:=fX.ctx.rel.Je (f:=f) ta BF (r:={state:=.busy,pending:=b2W,fn:=b2X,tmps:=b2Y,params:=b2V.toArray,assign:=b2Z,body:=b3a,defers:=O9}) ⟨_,nj,rfl⟩ rG b3e I (.loop b3b ka b3c b3d mN);refine⟨_,run_beginRound DJ I,?_⟩;have qB:=fX.ext nh nV;obtain⟨c4h,Em,b3f⟩:=w8 ev;refine(b5 _ _ _ _ _ _ Em k (some aA) eY a9 _ b3 IF BF qB _ (λdp c4i c8 b3g gR cW En xe Jf Eo Jg=>?_)).1;obtain⟨c4j,oH,O_⟩:=b3f _ b3g;have tm:=Jg.mono _ _ BF;have W0:=(hk.trans al nh).trans al Jg;have fin:∀(j:Option bC) (sX:Option Code) (b:Bool),Ik P j sX->(b=sX.isNone)->(∃zn tn tp pB tq et d3,c8.get l=some (.loop zn tn tp pB tq et d3))->∀c1,endRound c8 l j=some c1->c1∈j_→
    ∃u ax,(Instr.endRound aA sX).run P En= .ok u ax/\∃ret af,(ret,af)∈j_/\∃aK,rO ax aK (bh af aK) B ret (.returned u)/\Rel P af ax aK B/\Ext f J w m af ax aK:=by
   rintro j sX b aG hb ⟨zn,tn,tp,pB,tq,et,d3,vi⟩ c1 mP kH;obtain⟨c4k,Jh,Ji,Jj,Jk,Jl,xf,Jm,vj,Jn,Jo,Jp⟩:=Eo.ctx.rel.El tm vi;have Jq:=Bd xf;have rH:dO En aA=none:=by unfold dO;rw[xf]
   unfold endRound at mP;rw[vi] at mP;cases j with
   |none=>
    cases sX with
    |some _=>exact aG.elim
    |none=>
     simp only[cw] at mP;subst mP;obtain⟨Ep,BG⟩:=Eo.ctx.rel.Je (f:=f) ta tm (o:=.loop .ready none tp pB tq et d3) (r:={state:=.ready,pending:=none,fn:=Jh,tmps:=Ji,params:=pB.toArray,assign:=Jj,body:=Jk,defers:=Jl}) ⟨_,vi,rfl⟩ rH Jq I (.loop trivial vj Jn Jo Jp);exact⟨_,_,run_endRound none xf,_,_,kH,xe,.b _,Ep,W0.trans al BG⟩
   |some c=>
    cases sX with
    |none=>exact aG.elim
    |some bn=>
     simp only[cw] at mP;subst mP;obtain⟨Ep,BG⟩:=Eo.ctx.rel.Je (f:=f) ta tm (o:=.loop .done (some c) tp pB tq et d3) (r:={state:=.done,pending:=some bn,fn:=Jh,tmps:=Ji,params:=pB.toArray,assign:=Jj,body:=Jk,defers:=Jl}) ⟨_,vi,rfl⟩ rH Jq I (.loop aG vj Jn Jo Jp);exact⟨_,_,run_endRound (some bn) xf,_,_,kH,xe,.b _,Ep,W0.trans al BG⟩
  have got:∀ {j:Option bC} {c1:cQ×ag},endRound c8 l j=some c1->∃zn tn tp pB tq et d3,c8.get l=some (.loop zn tn tp pB tq et d3):=λaP=>by
   unfold endRound at aP;split at aP
   ·exact⟨_,_,_,_,_,_,_,by assumption⟩
   ·cases aP
  cases dp with
  |panic v=>cases oH
  |normal=>
   cases gR<;>try exact Jf.elim
   simp only[roundEnd,eE] at oH;obtain⟨c1,mP,rfl⟩:=oH;exact fin none none true trivial I (got mP) c1 mP (O8 _ (O_ _ (k3 _)))
  |ret=>
   cases gR<;>try exact Jf.elim
   simp only[roundEnd,eE] at oH;obtain⟨c1,mP,rfl⟩:=oH;exact fin (some .ret) (some .ret) false ⟨rfl,.inl I⟩ I (got mP) c1 mP (O8 _ (O_ _ (k3 _)))
  |exit id=>
   cases gR<;>try exact Jf.elim
   have oO:=Jf;simp only[ExR] at oO;subst oO;simp only[roundEnd,eE] at oH;obtain⟨c1,mP,rfl⟩:=oH;exact fin (some (.exit _)) (some (.exit _)) false ⟨rfl,.inr ⟨_,rfl⟩⟩ I (got mP) c1 mP (O8 _ (O_ _ (k3 _)))
def W1(fS:px P env)(ei:BB P env B)(hex:tk P env){run:jg}(b5:qD P env B run)(f:Nat)(r:Option Nat):D2 P env B f r (callV env run f):=by
 intro bx args J j_ h k w m u us al cc hf ha;unfold callV at h;split at h<;>try (cases h;done)
 ·rename_i g first cap
  cases hf with
  |na b3h bE hJ s4=>
   rename_i gT e5;have h1:bF w m (bh J m) B first gT.toList:=⟨by simpa using b3h,λi p q=>by simpa using bE i p (by simpa using q)⟩
   have h2:bF w m (bh J m) B cap e5.toList:=⟨by simpa using hJ,λi p q=>by simpa using s4 i p (by simpa using q)⟩
   refine⟨{target:=.fn (.func g) e5,args:=gT++us.toArray},λax=>rfl,?_⟩;exact b2O fS ei hex b5 h k r al cc (by simpa using (h1.append ha).append h2)
 ·rename_i l a b;cases hf with
  |uW hm=>
   obtain⟨bD,tmps,as,mQ,h1,h2⟩:=b2S b5 h k r al cc (us:=us.toArray) (by simpa using ha) hm;refine⟨{target:=.fn (.yield _) #[],args:=#[]++us.toArray},λax=>rfl,?_⟩;have aF:(#[]++us.toArray:Array Value)=us.toArray:=by simp
   simp only[aF];rw[h1];exact h2
end
section
variable {P:Program}{env:Env}{B:Nat}
def b3i{aJ r:Option Nat}{ai:Fr}{a:Act}{J bu:ag}{w:World}{m:Nat->Option Nat}{d f:Nat}{ds:List (Nat ⊕ (AV×List AV))}(h:Dx aJ ai J=some (d,bu,ds))(mM:Bv m aJ r)(st:eP P env ai a J w m B)
  {aE:List Nat} {as b:bC} {h6 eY:Code} (has:ccode P h6=some as) (hb:ccode P eY=some b) (fn:FuncId):
  ∃l mark bf b3,(Instr.enterLoop fn a.tmps aE.toArray h6 eY r).run P w= .ok (l,mark) bf/\b3 bu.next=some l∧
   eP P env ⟨ai.a5,ds,ai.fh⟩ {a with defers:=mark++a.defers} (bu.push (.loop .ready none ai.a5 aE as b d)) bf b3 B/\Ext f J w m (bu.push (.loop .ready none ai.a5 aE as b d)) bf b3:=by
 unfold Dx at h;cases aJ with
 |none=>
  cases r<;>try exact mM.elim
  simp only[cw,te] at h;obtain⟨rfl,rfl,rfl⟩:=h;have al:=st.ctx.rel;obtain⟨hS,fl⟩:=al.alloc f (w.alloc (.deferred (some []))) .dN (.deferred (some [])) I I I I I .dN;have fX:=st.ext fl hS;obtain⟨nV,nh⟩:=hS.alloc f ((w.alloc (.deferred (some []))).alloc (.loop {state:=.ready,pending:=none,fn,tmps:=a.tmps,params:=aE.toArray,assign:=h6,body:=eY,defers:=w.heap.size}))
   (.loop .ready none ai.a5 aE as b J.next) _ I I I I I (.loop trivial fX.ctx.a5 has hb (hF _ _ _))
  have qB:=fX.ext nh nV;refine⟨_,_,_,_,run_enterLoop_outer fn a.tmps aE.toArray h6 eY,?_,⟨⟨nV,qB.ctx.a5,qB.ctx.globs⟩,⟨⟨_,nh.mono _ _ (hF _ _ _),rfl⟩,qB.defs⟩⟩,fl.trans al nh⟩;have:=hF (bindM m J.next w.heap.size) (J.push .dN).next (w.alloc (.deferred (some []))).heap.size;rw[this];simp
 |some W2=>
  cases r<;>try exact mM.elim
  rename_i aA;have hm:m W2=some aA:=mM;simp only at h;split at h<;>cases h;rename_i hg;have al:=st.ctx.rel;obtain⟨nI,c4l,c4m,c4n,xg,D,hh,_,_,_,_,an⟩:=al.El hm hg;obtain⟨nV,nh⟩:=al.alloc f (w.alloc (.loop {state:=.ready,pending:=none,fn,tmps:=a.tmps,params:=aE.toArray,assign:=h6,body:=eY,defers:=D}))
   (.loop .ready none ai.a5 aE as b d) _ I I I I I (.loop trivial st.ctx.a5 has hb an)
  have qB:=st.ext nh nV;refine⟨w.heap.size,[],_,_,?_,hF _ _ _,⟨⟨nV,qB.ctx.a5,qB.ctx.globs⟩,qB.defs⟩,nh⟩;unfold Instr.enterLoop;simp only[er,run_getLoop hh,Result.andThen,hB,run_newObj_alloc]
def b3j{c:bC}{nI:Option Code}(h:Ik P (some c) nI):∃bn,nI=some bn/\ccode P bn=some c:=by
 cases nI with
 |none=>exact h.elim
 |some d=>exact⟨d,rfl,h.1⟩
def b3k{c:Code}{f:aH}{aE:List Nat}{as b:bC}(h:ccode P c=some (.rangeFunc f aE as b)):∃g m_ h6 eY,c= .rangeFunc g m_ h6 eY/\opdOf g=some f/\aE=m_.toList/\ccode P h6=some as/\ccode P eY=some b:=by
 cases c with
 |rangeFunc g m_ h6 eY=>
  simp only[ccode] at h;split at h<;>cases h;rename_i h1 h2 h3;exact⟨g,m_,h6,eY,rfl,h1,rfl,h2,h3⟩
 |region id ops dR=>cases dR<;>(simp only[ccode] at h;split at h<;>cases h)
 |_=>
  simp only[ccode] at h
  first|(cases h;done)|(split at h<;>cases h;done)
def b3l(fS:px P env)(ei:BB P env B){run:jg}(b5:qD P env B run):WC P env B run:=by
 intro floor aJ f aE as b ai J outs h k r c a w m ae mM st Q cu;obtain⟨iG,Jr,h6,eY,rfl,y7,rfl,has,hb⟩:=b3k ae;simp only[step] at h;split at h<;>try (cases h;done)
 rename_i b3m;have W3:floor<=J.next:=by simpa [gD] using b3m
 split at h<;>try (cases h;done)
 rename_i g first cap b3n
 split at h<;>try (cases h;done)
 rename_i d bu ds BH;split at h<;>try (cases h;done)
 rename_i BE;obtain⟨W2,oI,g4⟩:=w8 h;have b3o:=st.ctx.av y7 b3n;refine wpIn_rangeFunc (λfn _=>?_);obtain⟨l,mark,bf,b3,h1,h2,h3,aN⟩:=b3i (f:=floor) BH mM st (aE:=Jr.toList) has hb fn;have al:=st.ctx.rel;have Pa:=b3o.ext aN al;obtain⟨gT,e5,b3p,OT,OU⟩:∃gT e5,a.eval iG= .func (.func g) gT e5/\bF bf b3 (bh (bu.push (.loop .ready none ai.a5 Jr.toList as b d)) b3) B first gT.toList/\bF bf b3 (bh (bu.push (.loop .ready none ai.a5 Jr.toList as b d)) b3) B cap e5.toList:=by
  revert Pa;generalize a.eval iG=ni;intro Pa;cases Pa with
  |na Pb bE hJ s4=>exact⟨_,_,rfl,⟨by simpa using Pb,λi p q=>by simpa using bE i p (by simpa using q)⟩,⟨by simpa using hJ,λi p q=>by simpa using s4 i p (by simpa using q)⟩⟩
 have pw:bF bf b3 (bh (bu.push (.loop .ready none ai.a5 Jr.toList as b d)) b3) B (first++AV.f (.yield bu.next) [] []::cap) (gT++ #[Value.func (.yield l) #[] #[]]++e5).toList:=by
  simp only[Om,jD];exact OT.append (bF.cons (.uW h2) OU)
 obtain⟨⟨c4o,bZ,Pb,BI,b3q⟩,b3r⟩:=WX fS ei b5 oI BE (k-1) r h3.ctx.rel h3.ctx.globs pw;refine⟨l,mark,bf,{target:=.fn (.func g) e5,args:=gT++ #[Value.func (.yield l) #[] #[]]},bf,g,_,bf,by simpa [e9] using h1,?_,λ_ _=>trivial,I8 Pb BI b3q e5 _ bf,λak=>by simp[e9] at ak,?_⟩
 ·have jP:a.eval (.const (.func (.yield l) #[] #[]))= .func (.yield l) #[] #[]:=rfl;simp only[resolve,b3p,Deferred.ofValue];simp[jP]
 ·refine w3 b3r (λdp En dh=>?_);obtain⟨ret,c8,eQ,xe,hU,Em,Pc⟩:=dh;obtain⟨gq,ev,gr⟩:=g4 _ eQ;cases ret with
  |err v=>cases ev
  |ok c4p=>
  cases dp<;>try exact hU.elim
  have tm:=Pc.mono _ _ h2;simp only[rangeK] at ev;split at ev<;>try (cases ev;done)
  rename_i zn tn tp pB tq et d3 vi;obtain⟨nI,Jh,Ji,Jj,Jk,Jl,xf,Jm,vj,Jn,Jo,Jp⟩:=Em.El tm vi;have Eo:=h3.ext Pc Em;have Jg:=aN.trans al Pc;have e6:floor<=bu.next:=by
   unfold Dx at BH;split at BH
   ·split at BH<;>cases BH;exact W3
   ·cases BH;exact Nat.le_succ_of_le W3
  have Jq:=Bd xf;have rH:dO En l=none:=by unfold dO;rw[xf]
  have fin:zn≠ .busy->(match(generalizing:=false) tn with
    |none=>some [(hd.normal,(⟨ai.a5,ds,ai.fh⟩:Fr),c8.set bu.next (.loop .exhausted tn tp pB tq et d3))]
    |some c=>run floor aJ c ⟨ai.a5,ds,ai.fh⟩ (c8.set bu.next (.loop .exhausted tn tp pB tq et d3)))=some gq→
    ∀xc,rangePost (e9 r) k P l Q {a with defers:=mark++a.defers} (.returned xc) En:=λVL hh xc=>by
   obtain⟨Ep,BG⟩:=Em.Je (f:=floor) e6 tm (o:=.loop .exhausted tn tp pB tq et d3) (r:={state:=.exhausted,pending:=nI,fn:=Jh,tmps:=Ji,params:=pB.toArray,assign:=Jj,body:=Jk,defers:=Jl}) ⟨_,vi,rfl⟩ rH Jq I (.loop Jm vj Jn Jo Jp);have W4:=Eo.ext BG Ep;have Pd:=Jg.trans al BG;refine⟨nI,_,run_endLoop xf VL,?_⟩;cases tn with
   |none=>
    cases nI with
    |some _=>exact Jm.elim
    |none=>
     simp only at hh ⊢;cases hh;exact cu _ _ _ (gr _ (k3 _)) .normal _ _ xe trivial W4 Pd
   |some c=>
    obtain⟨bn,rfl,k0⟩:=b3j Jm;simp only at hh ⊢;exact(b5 _ _ _ _ _ _ hh k r bn _ _ xe k0 (mM.mono Pd.mono) W4 Q (λe bQ af Pe x cC ax aK cn ct eN=>cu e bQ af (gr _ Pe) x cC ax aK cn ct (Pd.trans al eN))).1
  cases zn<;>first|(cases ev;done)|exact fin aT ev _
end
structure Er(pl:List aX)(cS:Nat->Nat->Bool)(p q:Nat):Prop where
 Js:p+1=q
 last:q+1=pl.length
 ops:∃bI ew s1 a9 cU s2 bt ey,pl[p]? =some bI/\pl[q]? =some ew/\bI.op= .store s1 a9 cU/\ew.op= .store s2 bt ey/\bI.dst=none/\ew.dst=none/\bI.guard=none/\ew.guard=none/\ew.je≠[]
 rest:∀(r:Nat) (aB:aX),r<p->pl[r]? =some aB->cS r q=true\/(aB.op.fR=false/\aB.op.ld=false/\aB.op.looks=false)
structure W5(P:Program)(ops:Array Oper)(pl:List aX)(bg cX:Nat->Nat)(cS:Nat->Nat->Bool):Prop where
 len:pl.length=ops.size
 pi:∀p,p<ops.size->bg p<ops.size/\cX (bg p)=p
 Es:∀i,i<ops.size->cX i<ops.size/\bg (cX i)=i
 code:∀p aS,pl[p]? =some aS->∃o lj,ops[bg p]? =some o/\coper P ops o=some lj/\aS.op=lj.op/\aS.dst=lj.dst/\aS.guard=lj.guard
 back:∀p,p<ops.size->∀o,ops[bg p]? =some o->∀e∈o.after,Region.binds .any e=true->e.on<ops.size/\cX e.on<p
 W6:∀p,p<ops.size->∀q,cS q p=true->∃o,ops[bg p]? =some o/\∃e∈o.after,Region.binds .any e=true/\(q=cX e.on\/cS q (cX e.on)=true)
 qG:∀(p q:Nat) (aS:aX),p<q->q<ops.size->pl[p]? =some aS->aS.op.fR=true->cS p q=true\/Er pl cS p q
 Et:∀(p q:Nat) (aS dG:aX) (d:Nat),p<q->pl[p]? =some aS->pl[q]? =some dG->aS.dst=some d->dG.dst≠some d
 W7:∀(p q:Nat) (aS dG:aX),p<q->pl[p]? =some aS->pl[q]? =some dG->cS p q=true\/(∀d,aS.dst=some d->d∉dG.reads)/\(∀d,dG.dst=some d->d∉aS.reads)
 je:∀(p:Nat) (aS:aX),pl[p]? =some aS->aS.op.looks=true->∀(q:Nat),p<q->(q=ops.size\/∃dG,pl[q]? =some dG/\dG.op.fR=true)→
  q∈aS.je\/(∃(e:Nat) (dY:aX),pl[e]? =some dY/\dY.op.fR=true/\p<e/\e<q/\cS p e=true)\/(∀(c:Nat) (ac:aX),pl[c]? =some ac->p<c->c<q->ac.op.fR=false/\ac.op.ld=false)
def xh{a b:Nat}:Nat.blt a b=true↔a<b:=by rw[gD]
def W8{α:Type}{f:α->α->Bool}:∀ {l:List α},Ii f l=true->∀(i j:Nat) (x y:α),i<j->l[i]? =some x->l[j]? =some y->f x y=true
 |[],_,i,j,x,y,_,hx,_=>by simp at hx
 |z::l,h,i,j,x,y,zo,hx,aI=>by
  simp only[Ii,c7,mx] at h;cases j with
  |zero=>omega
  |succ j=>
   cases i with
   |zero=>
    simp only[We,cw] at hx;subst hx;exact h.1 y (Oo (by simpa using aI))
   |succ i=>exact W8 h.2 i j x y U (by simpa using hx) (by simpa using aI)
def W9{A:List Nat}{q:Nat}:∀ {es:List Nat},(A9 A es).testBit q=true->∃d∈es,q=d\/(A.getD d 0).testBit q=true
 |[],h=>by simp[A9] at h
 |d::es,h=>by
  have h:((1 <<< d ||| A.getD d 0) ||| A9 A es).testBit q=true:=h;rw[Nat.testBit_or,Nat.testBit_or,qf,qf,Nat.one_shiftLeft,Nat.testBit_two_pow,decide_eq_true_eq] at h;rcases h with(h|h)|h
  ·exact⟨d,aT,.inl h.symm⟩
  ·exact⟨d,aT,.inr h⟩
  ·obtain⟨e,he,h2⟩:=W9 (es:=es) h;exact⟨e,by simp[he],h2⟩
def W_{α β:Type}{f:α->Option β}{l:List α}{a4:List β}(h:mapOL f l=some a4){i:Nat}{y:β}(aI:a4[i]? =some y):∃x,l[i]? =some x/\f x=some y:=by
 obtain⟨h1,h2⟩:=yQ h;obtain⟨hi,rfl⟩:=lG.1 aI;exact⟨l[i]'U,eS U,h2 i U hi⟩
def Pf{p:aX->Bool}{pl:List aX}{i:Nat}:i∈posOf p pl↔∃aS,pl[i]? =some aS/\p aS=true:=by
 unfold posOf;simp only[di,rJ,Prod.exists,exists_eq_right];constructor
 ·rintro⟨aS,h1,h2⟩;exact⟨aS,by simpa using za.1 h1,h2⟩
 ·rintro⟨aS,h1,h2⟩;exact⟨aS,za.2 (by simpa using h1),h2⟩
def Pg{α:Type}{l:List α}{i:Nat}{x d:α}(h:l[i]? =some x):l.getD i d=x:=by simp[nQ,h]
def b3s{P:Program}{ops:Array Oper}{pl:List aX}(h:cdraw P ops=some pl):∃bg cX cS,W5 P ops pl bg cX cS:=by
 unfold cdraw at h;cases ao:mapOL (coper P ops) ops.toList with
 |none=>rw[ao] at h;cases h
 |some l=>
 rw[ao] at h;simp only at h;cases s9:U1 l (Dz ops.size (((l.zip (ops.toList.map rr)).zipIdx).map λx=>(x.2,x.1.1.op.fR,x.1.2)) 0) with
 |none=>rw[s9] at h;cases h
 |some xi=>
 rw[s9] at h;simp only at h;generalize hA:List.foldl _ [] (Dz _ _ 0)=A at h;generalize c4q:List.map _ (List.range ops.size)=cX at h;generalize c4r:Dz _ _ 0=bg at h s9;split at h<;>cases h;rename_i jF;generalize Xa:DA A ops.size xi=pl at jF;simp only[U0,c7] at jF;obtain⟨qH,Xb,jl,b3t,Xc⟩:=jF;simp only[UY,c7,mw,mx,gD] at qH;obtain⟨e6,fk,qI,oP⟩:=qH;have Jt:∀p,p<ops.size->bg[p]? =some (bg.getD p 0):=λp ay=>by
  rw[eS U,Pg (eS U)]
 have b3u:∀p,p<ops.size->cX[p]? =some (cX.getD p 0):=λp ay=>by
  rw[eS U,Pg (eS U)]
 have Xd:∀i o,ops[i]? =some o->(ops.toList.map rr).getD i []=rr o:=λi o ho=>by
  refine Pg ?_;rw[w4,mr,ho];rfl
 have b3v:∀(o:Oper) e,e∈o.after->Region.binds .any e=true->e.on∈rr o:=λo e he hb=>by
  unfold rr;exact di.2 ⟨e,rJ.2 ⟨by simpa using he,hb⟩,rfl⟩
 have wW:xi.length=ops.size:=by have:=(yQ s9).1;omega
 have hlen:pl.length=ops.size:=by rw[<-Xa];simp[DA,wW]
 have kH:∀p aS,pl[p]? =some aS->p<ops.size:=λp aS ay=>by have:=(lG.1 ay).1;omega
 have eQ:∀p aS,pl[p]? =some aS->(aS,p)∈pl.zipIdx:=λp aS ay=>za.2 (by simpa using ay);simp only[UZ,mx,c7,gD,mw] at jl;have Xe:∀p,p<ops.size->(∀d∈A_ (ops.toList.map rr) cX (bg.getD p 0),d<p)/\A.getD p 0=A9 A (A_ (ops.toList.map rr) cX (bg.getD p 0)):=λp ay=>
  jl (bg.getD p 0,p) (za.2 (by simpa using Jt p ay))
 have Ph:∀p q aS dG,p<q->pl[p]? =some aS->pl[q]? =some dG->pairOk A pl (aS,p) (dG,q)=true:=λp q aS dG hH h1 h2=>
  W8 b3t p q _ _ hH (by simp[Oq,h1]) (by simp[Oq,h2])
 refine⟨λp=>bg.getD p 0,λi=>cX.getD i 0,λq p=>(A.getD p 0).testBit q,⟨hlen,?_,?_,?_,?_,?_,?_,?_,?_,?_⟩⟩
 ·intro p ay;have:=qI (bg.getD p 0,p) (za.2 (by simpa using Jt p ay));exact this
 ·intro i hi;have:=oP (cX.getD i 0,i) (za.2 (by simpa using b3u i hi));exact this
 ·intro p aS ay;have i_:=kH p aS ay;have fG:∃lk,xi[p]? =some lk/\aS.op=lk.op/\aS.dst=lk.dst/\aS.guard=lk.guard:=by
   rw[<-Xa] at ay;simp only[DA,w4,Oq,eE,Prod.exists] at ay;obtain⟨lk,i,⟨a9,h1,h2⟩,h3⟩:=ay;cases h2;subst h3;exact⟨_,h1,rfl,rfl,rfl⟩
  obtain⟨lk,h0,aF,aV,dp⟩:=fG;obtain⟨i,hi,Eu⟩:=W_ s9 h0;rw[Jt p i_] at hi;cases hi;obtain⟨o,ho,ae⟩:=W_ ao Eu;exact⟨o,lk,by simpa using ho,ae,aF,aV,dp⟩
 ·intro p ay o ho e he hb;have Xf:e.on∈rr o:=b3v o e he hb;refine⟨?_,?_⟩
  ·simp only[mx,gD] at Xb;exact Xb (rr o) (di.2 ⟨o,by simpa using Wf ho,rfl⟩) _ Xf
  ·exact(Xe p ay).1 _ (di.2 ⟨e.on,by rw[Xd _ _ ho];exact Xf,rfl⟩)
 ·intro p ay q aP;have Ev:=qI (bg.getD p 0,p) (za.2 (by simpa using Jt p ay));obtain⟨o,ho⟩:∃o,ops[bg.getD p 0]? =some o:=⟨_,pb Ev.1⟩
  refine⟨o,ho,?_⟩;rw[(Xe p ay).2] at aP;obtain⟨d,an,h2⟩:=W9 aP;unfold A_ at an;rw[Xd _ _ ho] at an;obtain⟨j,aG,rfl⟩:=di.1 an;unfold rr at aG;obtain⟨e,he,rfl⟩:=di.1 aG;obtain⟨fl,nh⟩:=rJ.1 he;exact⟨e,by simpa using fl,nh,h2⟩
 ·intro p q aS hH aP h1 he;have h2:pl[q]? =some (pl[q]'U):=eS U;have:=Ph p q aS (pl[q]'U) hH h1 h2;simp only[pairOk,c7,qf,he,Ot,rj,false_or] at this;rcases this.2 with h3|h3
  ·exact .inl h3
  ·refine .inr ?_;have aN:=h3.2;simp only[UW,c7,mw,Option.isNone_iff_eq_none,wM,List.isEmpty_eq_false_iff,mx] at aN;obtain⟨aF,aV,dp,jA,zp,tr,rX,Ju,Pj,Pk⟩:=aN;obtain⟨s1,a9,cU,ka⟩:∃s a x,aS.op= .store s a x:=by
    revert dp;cases aS.op<;>intro dp<;>first|exact⟨_,_,_,rfl⟩|cases dp
   obtain⟨s2,bt,ey,hK⟩:∃s a x,(pl[q]'U).op= .store s a x:=by
    revert jA;cases(pl[q]'U).op<;>intro jA<;>first|exact⟨_,_,_,rfl⟩|cases jA
   refine⟨aF,aV,⟨_,_,s1,a9,cU,s2,bt,ey,h1,h2,ka,hK,zp,tr,rX,Ju,Pj⟩,λr aB al Ek=>?_⟩;have bY:=Pk (aB,r) (eQ r aB Ek);simp only[qf,wM,UU,c7] at bY;rcases bY with bY|bY|bY
   ·rw[xh.2 al] at bY;cases bY
   ·exact .inl bY
   ·exact .inr bY
 ·intro p q aS dG d hH h1 h2 an lh;have:=Ph p q aS dG hH h1 h2;simp only[pairOk,c7,an,lh] at this;simp at this
 ·intro p q aS dG hH h1 h2;have:=Ph p q aS dG hH h1 h2;simp only[pairOk,c7,qf] at this;rcases this.2 with h3|h3
  ·exact .inl h3
  ·refine .inr ?_;have aN:=h3.1;simp only[indep,c7] at aN;refine⟨λd an=>?_,λd an=>?_⟩
   ·have:=aN.1;rw[an] at this;simpa using this
   ·have:=aN.2;rw[an] at this;simpa using this
 ·intro p aS ay b3w q hH aP;simp only[mx] at Xc;have:=Xc _ (eQ p aS ay);simp only[UX,b3w,Ot,IW,mx] at this;have b3x:q∈ops.size::posOf (·.op.fR) pl:=by
   rcases aP with rfl|⟨dG,h1,h2⟩
   ·simp
   ·exact fP _ (Pf.2 ⟨dG,h1,h2⟩)
  have:=this q b3x;simp only[qf,wM] at this;rcases this with h1|h1|h1|h1
  ·exfalso;have:Nat.blt p q=true:=(xh.2 hH)
   rw[this] at h1;cases h1
  ·exact .inl (by simpa using h1)
  ·refine .inr (.inl ?_);simp only[Wg,c7,gD] at h1;obtain⟨e,he,h2,h3,aN⟩:=h1;obtain⟨dY,bY,cf⟩:=Pf.1 he;exact⟨e,dY,bY,cf,h2,h3,aN⟩
  ·refine .inr (.inr λc ac ae b3y Pl=>?_);simp only[mx,wM,Bool.and_eq_false_iff] at h1;cases Xg:Ij ac with
   |false=>simpa [Ij] using Xg
   |true=>
    exfalso;have:=h1 c (Pf.2 ⟨ac,ae,Xg⟩);rw[(xh.2 b3y),(xh.2 Pl)] at this;rcases this with h|h<;>cases h
section
variable {f:Nat}{av im:aH->Option AV}{J af:ag}
def xj{x:Option aH}{d:Nat}(h:∀y∈pf x,av y=im y):bndO av x d=bndO im x d:=by
 cases x with
 |none=>rfl
 |some x=>simp only[bndO,h x (by simp[pf])]
def BJ{α β:Type}{g zq:α->Option β}:∀ {l:List α},(∀x∈l,g x=zq x)->mapO g l=mapO zq l
 |[],_=>rfl
 |x::l,h=>by
  rw[mapO_cons,mapO_cons,h x aT,BJ (l:=l) (λy aI=>h y (by simp[aI]))]
def layParts_congr{cL:Nat->Nat->Nat}:∀ {aE:List (Nat×Nat×aH)} {c:List AV},(∀p∈aE,av p.2.2=im p.2.2)->hQ av cL aE c=hQ im cL aE c
 |[],_,_=>rfl
 |p::aE,c,h=>by
  show(match av p.2.2 with|none=>none|some v=>cond _ (match storeCells c (cL p.1 p.2.1) v.cells with|none=>none|some c=>hQ av cL aE c) none)=(match im p.2.2 with|none=>none|some v=>cond _ (match storeCells c (cL p.1 p.2.1) v.cells with|none=>none|some c=>hQ im cL aE c) none);rw[h p aT];have:∀c,hQ av cL aE c=hQ im cL aE c:=λc=>layParts_congr (λq aP=>h q (by simp[aP]));simp only[this]
def b3z{J:ag}{R:Option Nat}{x:AV}{bX hi cI:Option aH}(h2:∀y∈pf hi,av y=im y):sliceX J av R x bX hi cI=sliceX J im R x bX hi cI:=by
 cases bX with
 |some _=>rfl
 |none=>cases hi with
  |none=>rfl
  |some h=>cases cI with
   |some _=>rfl
   |none=>
    have e:=h2 h (dx.2 I);unfold sliceX;simp only[e]
def b3A{R:Option Nat}{x:AV}{bX hi cI:Option aH}(h1:∀y∈pf bX,av y=im y)(h2:∀y∈pf hi,av y=im y)(h3:∀y∈pf cI,av y=im y):sliceA av R x bX hi cI=sliceA im R x bX hi cI:=by
 unfold sliceA;simp only[xj h1,xj h2,xj h3];cases cI with
 |none=>
  cases x<;>try rfl
  rename_i o iH xs;by_cases ak:iH=R
  ·simp only[if_pos ak];cases bndO im bX 0<;>cases bndO im hi xs.length<;>rfl
  ·simp only[if_neg ak]
 |some m=>
  have dp:=xj (x:=some m) (d:=0) h3;cases x<;>try rfl
  ·simp only[dp]
  ·rename_i o iH xs;by_cases ak:iH=R
   ·simp only[if_pos ak];cases bndO im bX 0<;>cases bndO im hi xs.length<;>try rfl
    simp only[dp]
   ·simp only[if_neg ak]
def Xh{c:sV}(h:∀y∈(match c with| .fn _=>[]| .val o=>[o]:List aH),av y=im y):calleeV av c=calleeV im c:=by
 cases c with
 |fn f=>rfl
 |val o=>exact h o aT
def Xi{op:AOp}(h:∀x∈op.opnds,av x=im x):opx f av J op=opx f im J op:=by
 cases op
 all_goals simp only[AOp.opnds,List.forall_mem_cons,gN,mJ,false_implies,implies_true,and_true] at h
 all_goals try simp only[opx,h]
 case pick c a b=>
  cases ae:im c with
  |none=>rfl
  |some v=>cases v<;>first|rfl|(rename_i t;cases t<;>simp only[cond_true,cond_false,h])
 case build z aE=>rw[layParts_congr (λp ay=>h _ (di.2 ⟨p,ay,rfl⟩))]
 case buildSlice R n z aE=>
  rw[layParts_congr (λp ay=>by
   obtain⟨q,aP,rfl⟩:=di.1 ay;exact h _ (di.2 ⟨q,aP,rfl⟩))]
 case ow fn a c=>rw[BJ (λx hx=>h x (.inl hx)),BJ (g:=av) (zq:=im) (l:=c) (λx hx=>h x (.inr hx))]
 case A2 n R x bX hi=>rw[xj (λy aI=>h.2 y (.inl aI)),xj (x:=hi) (λy aI=>h.2 y (.inr aI))]
 case rm x bX hi=>
  have e:∀d,bndO av bX d=bndO im bX d:=λd=>xj (λy aI=>h.2 y (.inl aI));have aV:∀d,bndO av hi d=bndO im hi d:=λd=>xj (λy aI=>h.2 y (.inr aI));simp only[e,aV]
 case m7 R x bX hi cI=>
  have e:∀v,sliceA av R v bX hi cI=sliceA im R v bX hi cI:=λv=>b3A (λy aI=>h.2 y (.inl aI)) (λy aI=>h.2 y (.inr (.inl aI))) (λy aI=>h.2 y (.inr (.inr aI)));have aV:∀v,sliceX J av R v bX hi cI=sliceX J im R v bX hi cI:=λv=>b3z (λy aI=>h.2 y (.inr (.inl aI)));simp only[e,aV]
 case call c as=>rw[Xh (λy aI=>h y (.inl aI)),BJ (λx hx=>h x (.inr hx))]
 case iP c as=>rw[Xh (λy aI=>h y (.inl aI)),BJ (λx hx=>h x (.inr hx))]
def b3B{av:aH->Option AV}{R fQ:Option Nat}{x:AV}{fr:aH}{bX hi cI:Option aH}{q:bH}(h:sliceX J av R x bX hi cI=some q):(AOp.m7 fQ fr bX hi cI).looks=true:=by
 unfold sliceX at h;split at h
 ·rfl
 ·cases h
def Jv{op:AOp}(he:op.fR=false)(ha:op.ld=false){r:bH}(h:opx f av J op=some r)(hn:∀l,r≠ .g3 l:=by intro _ h;cases h):∃v,r= .val v J/\(op.looks=false->∀bA,opx f av bA op=some (.val v bA)):=by
 cases op
 all_goals first|(cases he;done)|(cases ha;done)|skip
 all_goals simp only[opx] at h
 all_goals first
  |(cases h;done)
  |(
    repeat' (first|(cases h;done)|(have b3C:=IN h;clear h;rcases b3C with⟨_,e⟩|⟨e,aV⟩;(exact absurd e (hn _));(refine⟨_,e,λ_ bA=>?_⟩;simp only[opx];simp only[*,(aV bA).1,(aV bA).2];done))|(exact absurd (I4 h).choose_spec (hn _))|(exact⟨_,(I3 h).choose_spec,λao=>by rw[b3B h] at ao;cases ao⟩)|split at h|(simp only[w2] at h))
    all_goals first
     |(cases h;exact⟨_,rfl,λao=>by first|(cases ao;done)|(intro bA;rfl)|(intro bA;simp only[opx];done)|(intro bA;simp only[opx];simp only[*];first|done|rfl|(simp only[w2];simp only[*];first|done|rfl|simp))⟩)
     |skip)
def Xj{op:AOp}(ha:op.ld=true){r:bH}(h:opx f av J op=some r):∃(o:AO) (nk:Nat->AV),r= .val (nk J.next) (J.push o)/\o.isDead=false/\∀bA,opx f av bA op=some (.val (nk bA.next) (bA.push o)):=by
 cases op
 all_goals first|(cases ha;done)|skip
 all_goals simp only[opx] at h
 case alloc v=>cases h;exact⟨_,λn=>jL n 0,rfl,rfl,λ_=>rfl⟩
 case box x=>
  split at h<;>try (cases h;done)
  rename_i v au;cases hval:v.val with
  |false=>rw[hval] at h;cases h
  |true=>
   rw[hval,cond_true] at h;cases h;exact⟨_,λn=>jL n 0,rfl,rfl,λbA=>by simp only[opx,au,hval,cond_true]⟩
 case buildSlice R n z aE=>
  split at h<;>cases h;rename_i c ae;exact⟨_,λk=>.aq k 0 n R (some n),rfl,rfl,λbA=>by simp only[opx,ae]⟩
 case mkMap=>cases h;exact⟨_,λn=>.m (some n),rfl,rfl,λ_=>rfl⟩
end
def b3D(P:Program)(w:World)(m:Nat->Option Nat)(O:Nat->Prop)(B:Nat)(o:AO)(nk:Nat->AV)(r:Result Next):Prop:=
 ∃u ax bV,r= .ok (.value u) ax/\ax.heap=w.heap.push bV/\ax.os=w.os/\ax.tape=w.tape/\ax.output=w.output/\lY P w m O B o bV∧
  ∀(ja:World) (h_:Nat->Option Nat) (nW:Nat->Prop) (nX id:Nat),h_ id=some w.heap.size->ja.heap[w.heap.size]? =some bV->az ja h_ nW nX (nk id) u
def b3E{P:Program}{o:Oper}{cA:AOp}(h:cop P o=some cA)(ha:cA.ld=true):
  (∃t,o.op= .alloc t)\/(∃t x,o.op= .box t x)\/(∃t n aE,o.op= .buildSlice t n aE)\/(∃t r,o.op= .makeMap t r):=by
 unfold cop at h;split at h
 all_goals first
  |(cases h;done)
  |(rename_i ho;exact .inl ⟨_,ho⟩)
  |(rename_i ho;exact .inr (.inl ⟨_,_,ho⟩))
  |(rename_i ho;exact .inr (.inr (.inl ⟨_,_,_,ho⟩)))
  |(rename_i ho;exact .inr (.inr (.inr ⟨_,_,ho⟩)))
  |(
    exfalso
    repeat' first
     |(cases h;cases ha;done)
     |(cases h;done)
     |(simp only[eE] at h;obtain⟨_,_,h⟩:=h)
     |(simp only[dV,dy,ee,cw] at h)
     |split at h
     |(obtain⟨_,_,h⟩:=h)
     |(subst h;cases ha;done))
section
variable {P:Program}{env:Env}{J:ag}{w:World}{m:Nat->Option Nat}{B:Nat}{f:Nat}{aq:aY AV}{a:Act}{o:Oper}{cA:AOp}{b2:AO}{nk:Nat->AV}
def b3F{t e:TypeId}{R:Option Nat}(hu:P.underlying t=some (.slice e))(ak:shapeOf P e=some R){z:AV}(aZ:zeroOf P e=some z)(wV:z.cells.length=shN R){n:Nat}(hn:n*shN R<=16777216){av:aH->Option AV}
  {aE:List (Nat×Nat×aH)} {iD:Array (Nat×Value)} {c:List AV}
  (ay:iW (λ(p:Nat×Nat×aH) (q:Nat×Value)=>(p.1=q.1/\p.2.1=shN R)/\∀v,av p.2.2=some v->az w m (bh J m) B v q.2) aE iD.toList)
  (h:hQ av (λi cL=>i*cL) aE (fw n z.cells)=some c):
  ∃arr:Array Value,(Instr.buildSlice t n iD).run P w= .ok (.slice (some ⟨w.heap.size,0,none⟩) n n) {w with heap:=w.heap.push (.cells arr e)}/\bF w m (bh J m) B c arr.toList/\(∀x∈c,conf none x=true)/\arr.size=n*shN R:=by
 obtain⟨_,cj,_⟩:=j7 ak w;obtain⟨en,il,mG,mH⟩:=rA aZ w;have nd:=(mG w m (bh J m) B).cells;have lL:en.cells.size=shN R:=by have:=nd.1;simp at this;omega
 have oF:iW (λ(p:Nat×Nat×aH) (q:Nat×Value)=>(λi=>some (i*shN R,shN R)) q.1=some (p.1*p.2.1,p.2.1)/\∀v,av p.2.2=some v->az w m (bh J m) B v q.2) aE iD.toList:=by
  clear h;revert ay;generalize iD.toList=gV
  induction aE generalizing gV with
  |nil=>cases gV<;>exact id
  |cons p aE ar=>
   cases gV with
   |nil=>exact id
   |cons q gV=>
    rintro⟨⟨⟨h1,h2⟩,au⟩,al⟩;exact⟨⟨by rw[h1,h2],au⟩,ar gV al⟩
 have nO:=Bh nd n;have NS:=Bi mH n;have wW:en.cells.toList.length=shN R:=by simp[lL]
 rw[wW] at nO;obtain⟨nc,h1,h2,h3,aN⟩:=DL (place:=λi=>some (i*shN R,shN R)) aE iD.toList (fw n z.cells) c ((Array.range (n*shN R)).map λi=>en.cells.toList[i%shN R]!) oF
  (by simpa [yF] using nO) NS h
 have lf:(newRow e nc).run P w= .ok ⟨w.heap.size,0,none⟩ {w with heap:=w.heap.push (.cells nc e)}:=by simp[newRow]
 have Bj:nc.size=n*shN R:=by
  have a9:=h2.1;have bt:=nO.1;simp at a9 bt;omega
 refine⟨nc,?_,h2,h3,Bj⟩;have NT:¬(n*shN R > 2^24):=by omega
 simp only[Instr.buildSlice,er,run_underlying hu,ez,cj];rw[if_neg NT];by_cases h0:n*shN R=0
 ·have aF:((Array.range (n*shN R)).map λi=>en.cells.toList[i%shN R]!)= #[]:=by rw[h0];apply m6;simp
  rw[aF] at h1;rw[if_pos h0];simp only[er,hB,ez,h0];have dp:((Array.range 0).map λx=>(#[]:Array Value)[x%(#[]:Array Value).size]!)= #[]:=by apply m6;simp
  rw[dp,h1];simp[lf]
 ·have aF:((Array.range (n*shN R)).map λi=>en.cells.toList[i%shN R]!)=((Array.range (n*shN R)).map λi=>en.cells[i%en.cells.size]!):=by
   apply m6;simp only[uS,yF];apply rh;intro a _;rw[lL,Nm,qi];simp
  rw[aF] at h1;simp only[h0,if_false,er,il,ez,hB];simp only[h1];simp[lf]
def push_inj{o bV:AO}(h:J.push o=J.push bV):o=bV:=by
 have h1:=ag.ij (J:=J) o;have h2:=ag.ij (J:=J) bV;rw[h,h2] at h1;exact(A0 h1).symm
def b3G(c:Ctx P env J w m B aq a)(ae:cop P o=some cA)(ha:cA.ld=true)(h:∀bA,opx f (evalA env aq) bA cA=some (.val (nk bA.next) (bA.push b2))):
  b3D P w m (bh J m) B b2 nk ((execOp a.eval o).run P w):=by
 have Jw:∀ {g:Nat->AV},(∀bA:ag,nk bA.next=g bA.next)->nk=g:=λhg=>funext λn=>hg ⟨.nil,n⟩;rcases b3E ae ha with⟨t,ho⟩|⟨t,x,ho⟩|⟨t,n,aE,ho⟩|⟨t,r,ho⟩
 ·simp only[cop,ho,eE] at ae;obtain⟨z,aZ,rfl⟩:=ae;simp only[opx,cw,bH.val.injEq] at h;obtain rfl:=push_inj (h J).2;obtain rfl:=Jw (g:=λn=>jL n 0) (λbA=>(h bA).1.symm);obtain⟨u,h1,h2,hf⟩:=rA aZ w;have hJ:=(h2 w m (bh J m) B).cells;simp only[execOp,ho];refine⟨.pointer (some ⟨w.heap.size,0,none⟩),{w with heap:=w.heap.push (.cells u.cells t)},.cells u.cells t,by simp[Instr.alloc,h1,newVar,newRow],rfl,rfl,rfl,rfl,?_,λja h_ nW nX id oO _=>.p oO⟩;exact .cells (by have:=hJ.1;simp at this;omega) (λi h h'=>by have:=hJ.2 i h (by simpa using h');simpa using this) (λi _=>by simp) hf
 ·simp only[cop,ho,eE] at ae;obtain⟨bI,hx,rfl⟩:=ae;have h0:=h J;simp only[opx] at h0;split at h0<;>try (cases h0;done)
  rename_i a_ au;cases hval:a_.val with
  |false=>rw[hval] at h0;cases h0
  |true=>
   simp only[opx,au,hval,cond_true,cw,bH.val.injEq] at h;obtain rfl:=push_inj (h J).2;obtain rfl:=Jw (g:=λn=>jL n 0) (λbA=>(h bA).1.symm);have hJ:=(c.av hx au).cells;simp only[execOp,ho];refine⟨.pointer (some ⟨w.heap.size,0,none⟩),{w with heap:=w.heap.push (.cells (a.eval x).cells t)},.cells (a.eval x).cells t,by simp[Instr.box,newVar,newRow],rfl,rfl,rfl,rfl,?_,λja h_ nW nX id oO _=>.p oO⟩;exact .cells (by have:=hJ.1;simp at this;omega) (λi h h'=>by have:=hJ.2 i h (by simpa using h');simpa using this) (λi _=>by simp) (NP (c.av hx au) hval)
 ·-- a slice:one new row,made as 'c4s c4t
  simp only[cop,ho,dV,dy] at ae;obtain⟨⟨e,R⟩,he,z,aZ,l,ao,ae⟩:=ae;split at ae<;>cases ae;rename_i fz;obtain⟨hu,ak⟩:=Br he;have h0:=h J;simp only[opx] at h0;split at h0<;>try (cases h0;done)
  rename_i cs th;simp only[opx,th,cw,bH.val.injEq] at h;obtain rfl:=push_inj (h J).2;obtain rfl:=Jw (g:=λk=>.aq k 0 n R (some n)) (λbA=>(h bA).1.symm);simp only[execOp,ho];have hall:iW (λ(p:Nat×Nat×aH) (q:Nat×Value)=>(p.1=q.1/\p.2.1=shN R)/\∀v,evalA env aq p.2.2=some v->az w m (bh J m) B v q.2) (l.map λp=>(p.1,shN R,p.2)) ((aE.map λ(x:Nat×Operand)=>(x.1,a.eval x.2)).toList):=by
   rw[uS];have:=DK (g:=λ(x:Nat×Operand)=>(x.1,a.eval x.2)) (r:=λ(p:Nat×aH) (q:Nat×Value)=>p.1=q.1/\∀v,evalA env aq p.2=some v->az w m (bh J m) B v q.2) (λp q hH=>by
    split at hH<;>cases hH;rename_i x h2;exact⟨rfl,λv au=>c.av h2 au⟩) ao
   revert this;generalize aE.toList.map (λ(x:Nat×Operand)=>(x.1,a.eval x.2))=gV;clear th ao h h0 ha
   induction l generalizing gV with
   |nil=>cases gV<;>exact id
   |cons p l ar=>
    cases gV with
    |nil=>exact id
    |cons q gV=>
     rintro⟨⟨h1,h2⟩,h3⟩;exact⟨⟨⟨h1,rfl⟩,h2⟩,ar gV h3⟩
  obtain⟨arr,b5,hJ,nM,cj⟩:=b3F (J:=J) (m:=m) (B:=B) hu ak aZ fz.2 fz.1 hall th;refine⟨.slice (some ⟨w.heap.size,0,none⟩) n n,{w with heap:=w.heap.push (.cells arr e)},.cells arr e,by simp[b5],rfl,rfl,rfl,rfl,?_,λja h_ nW nX id oO BK=>?_⟩
  ·exact .cells (by have:=hJ.1;simp at this;omega) (λi h h'=>by have:=hJ.2 i h (by simpa using h');simpa using this) (λi _=>by simp) nM
  ·exact .aq oO (b6 _) (λc ae=>by cases ae;rfl) (n:=arr.size) (by unfold dO;rw[BK]) U (λh=>by cases h)
 ·simp only[cop,ho] at ae;simp only[execOp,ho];have key:(Instr.makeMap t (r.map a.eval)).run P w= .ok (.map (some w.heap.size)) {w with heap:=w.heap.push (.map #[] 0)}/\cA= .mkMap:=by
   split at ae<;>cases ae
   ·exact⟨by simp[Instr.makeMap],rfl⟩
   ·rename_i ht;exact⟨by simp[Instr.makeMap,run_underlying ht,Act.eval,asInt,asIntOf],rfl⟩
  obtain⟨key,rfl⟩:=key;simp only[opx,cw,bH.val.injEq] at h;obtain rfl:=push_inj (h J).2;obtain rfl:=Jw (g:=λn=>.m (some n)) (λbA=>(h bA).1.symm);exact⟨.map (some w.heap.size),{w with heap:=w.heap.push (.map #[] 0)},.map #[] 0,by simp[key],rfl,rfl,rfl,rfl,.map I (λi h=>by simp at h),λja h_ nW nX id oO _=>.mp oO⟩
def Rel.Pm(al:Rel P J w m B){id:Nat}(oO:id<J.next)(hm:m id=none){ax:World}{bV:Obj}(hg:J.get id=some b2)(hh:ax.heap=w.heap.push bV)(lK:lY P w m (bh J m) B b2 bV):
  Rel P J ax (bindM m id w.heap.size) B/\(∀i b,m i=some b->bindM m id w.heap.size i=some b)/\w.heap.size<=ax.heap.size/\(∀b n,dO w b=some n->dO ax b=some n)∧
   (∀b,b<w.heap.size->ax.heap[b]? =w.heap[b]?)/\(∀aA,aA<w.heap.size->¬bh J m aA->ax.heap[aA]? =w.heap[aA]? ∧¬bh J (bindM m id w.heap.size) aA)/\ax.heap[w.heap.size]? =some bV:=by
 have cj:ax.heap.size=w.heap.size+1:=by rw[hh];simp
 have hold:∀b,b<w.heap.size->ax.heap[b]? =w.heap[b]? :=λb hb=>by
  rw[hh,Nf];rw[if_neg U]
 have pj:ax.heap[w.heap.size]? =some bV:=by rw[hh];simp
 have jE:∀i b,m i=some b->bindM m id w.heap.size i=some b:=λi b h=>by
  rw[iT m _ _ (λe=>by subst e;rw[hm] at h;cases h)];exact h
 have gf:∀b n,dO w b=some n->dO ax b=some n:=by
  intro b n hb;have:b<w.heap.size:=by
   rcases nG b w.heap.size with h|h
   ·exact h
   ·simp[dO,AZ h] at hb
  unfold dO at hb ⊢;rw[hold b this];exact hb
 have Ew:∀aA,aA<w.heap.size->¬bh J m aA->ax.heap[aA]? =w.heap[aA]? ∧¬bh J (bindM m id w.heap.size) aA:=λaA hb c9=>by
  refine⟨hold aA hb,?_⟩;rintro⟨i,h1,h2⟩;by_cases hi:i=id
  ·subst hi;rw[hF] at h1;cases h1;omega
  ·rw[iT m _ _ hi] at h1;exact c9 ⟨i,h1,h2⟩
 refine⟨⟨al.len,?_,?_,?_,?_,by have:=al.bb;omega⟩,jE,U,gf,hold,Ew,pj⟩
 ·intro i b h;by_cases hi:i=id
  ·subst hi;rw[hF] at h;cases h;exact⟨U,oO⟩
  ·rw[iT m _ _ hi] at h;have:=al.eV _ _ h;exact⟨U,this.2⟩
 ·intro i b gq h nj an;by_cases hi:i=id
  ·subst hi;rw[hF] at h;cases h;rw[hg] at nj;cases nj;exact⟨bV,pj,lK.mono jE U gf Ew⟩
  ·rw[iT m _ _ hi] at h;obtain⟨pk,h1,h2⟩:=al.obj i b gq h nj an;exact⟨pk,by rw[hold _ (al.eV _ _ h).1];exact h1,h2.mono jE U gf Ew⟩
 ·intro i lZ b h h' ao gE;by_cases hi:i=id
  ·by_cases du:lZ=id
   ·rw[hi,du]
   ·subst hi;rw[hF] at h;cases h;rw[iT m _ _ du] at h';have:=(al.eV _ _ h').1;omega
  ·rw[iT m _ _ hi] at h;by_cases du:lZ=id
   ·subst du;rw[hF] at h';cases h';have:=(al.eV _ _ h).1;omega
   ·rw[iT m _ _ du] at h';exact al.inj i lZ b h h' ao gE
 ·intro i b h;by_cases hi:i=id
  ·subst hi;rw[hF] at h;cases h;exact al.bb
  ·rw[iT m _ _ hi] at h;exact al.base _ _ h
def eP.mono{ai:Fr}{af:ag}{ax:World}{aK:Nat->Option Nat}(s:eP P env ai a J w m B)(pr:Rel P af ax aK B)(hm:∀id aA,m id=some aA->aK id=some aA)(cj:w.heap.size<=ax.heap.size)
  (gf:∀b n,dO w b=some n->dO ax b=some n) (aC:∀aA,aA<w.heap.size->¬bh J m aA->ax.heap[aA]? =w.heap[aA]? ∧¬bh af aK aA):eP P env ai a af ax aK B:=
 ⟨⟨pr,s.ctx.a5.mono hm cj gf aC,λg v hg ej=>(s.ctx.globs g v hg ej).mono (λ_ _ h=>h) cj gf (λb hb c9=>⟨(aC b hb (λ⟨i,h1,_⟩=>c9 (s.ctx.rel.base _ _ h1))).1,c9⟩)⟩,
  D1 (λd dt an=>by
   cases d with
   |inl id=>obtain⟨aA,h1,h2⟩:=an;exact⟨aA,hm _ _ h1,h2⟩
   |inr p=>obtain⟨g,bO,cs,gT,e5,us,h1,h2,h3,aN,bY⟩:=an;exact⟨g,bO,cs,gT,e5,us,h1,h2,h3.mono hm cj gf aC,aN.mono hm cj gf aC,bY.mono hm cj gf aC⟩) s.defs⟩
def Xk(al:Rel P J w m B)(o:AO)(aA:Nat):bh (J.push o) m aA↔bh J m aA:=by
 constructor
 ·rintro⟨i,h1,gq,h2,h3⟩;rw[ag.fy al.len o (al.eV _ _ h1).2] at h2;exact⟨i,h1,gq,h2,h3⟩
 ·rintro⟨i,h1,gq,h2,h3⟩;exact⟨i,h1,gq,by rw[ag.fy al.len o (al.eV _ _ h1).2];exact h2,h3⟩
def Rel.Ex(al:Rel P J w m B)(o:AO):Rel P (J.push o) w m B:=by
 have aC:∀aA,aA<w.heap.size->¬bh J m aA->w.heap[aA]? =w.heap[aA]? ∧¬bh (J.push o) m aA:=λaA _ c9=>⟨rfl,λh=>c9 ((Xk al o aA).1 h)⟩
 refine⟨trivial,λi b h=>⟨(al.eV _ _ h).1,Dk (al.eV _ _ h).2⟩,λi b gq h hg an=>?_,λi lZ b h h' ao gE=>?_,al.base,al.bb⟩
 ·rw[ag.fy al.len o (al.eV _ _ h).2] at hg;obtain⟨pk,h1,h2⟩:=al.obj i b gq h hg an;exact⟨pk,h1,h2.mono (λ_ _ h=>h) (b6 _) (λ_ _ h=>h) aC⟩
 ·refine al.inj i lZ b h h' ?_ ?_
  ·obtain⟨gq,h2,h3⟩:=ao;rw[ag.fy al.len o (al.eV _ _ h).2] at h2;exact⟨gq,h2,h3⟩
  ·obtain⟨gq,h2,h3⟩:=gE;rw[ag.fy al.len o (al.eV _ _ h').2] at h2;exact⟨gq,h2,h3⟩
def eP.Ex{ai:Fr}(s:eP P env ai a J w m B)(o:AO):eP P env ai a (J.push o) w m B:=
 s.mono (s.ctx.rel.Ex o) (λ_ _ h=>h) (b6 _) (λ_ _ h=>h) (λaA _ c9=>⟨rfl,λh=>c9 ((Xk s.ctx.rel o aA).1 h)⟩)
def Ext.Ex{cr:ag}{eX:World}{dS:Nat->Option Nat}(h:Ext f cr eX dS J w m)(ao:True)(o:AO):Ext f cr eX dS (J.push o) w m where
 mono:=h.mono
 new:=h.new
 next:=lE h.next (Ng _)
 size:=h.size
 gU:=h.gU
 bK:=h.bK
 low id h1 h2:=by rw[ag.fy ao o (u7 h2 h.next)];exact h.low id h1 h2
 dead id h1 h2:=h.dead id h1 (by
  obtain⟨gq,h3,aN⟩:=h2;rw[ag.fy ao o (u7 h1 h.next)] at h3;exact⟨gq,h3,aN⟩)
 os:=h.os
 tape:=h.tape
 out:=h.out
 un id h1 h2:=by rw[ag.fy ao o (u7 h1 h.next)];exact h.un id h1 h2
def Ext.Pm{cr:ag}{eX:World}{dS:Nat->Option Nat}(h:Ext f cr eX dS J w m){id:Nat}(oO:cr.next<=id){ax:World}{bV:Obj}(hm:m id=none)(hh:ax.heap=w.heap.push bV)(kD:ax.os=w.os)(mD:ax.tape=w.tape)(kE:ax.output=w.output):
  Ext f cr eX dS J ax (bindM m id w.heap.size):=by
 have cj:ax.heap.size=w.heap.size+1:=by rw[hh];simp
 have hold:∀b,b<w.heap.size->ax.heap[b]? =w.heap[b]? :=λb hb=>by
  rw[hh,Nf];rw[if_neg U]
 refine⟨λi b hb=>?_,λi b hb=>?_,h.next,by have:=h.size;omega,λb n hb=>?_,λb hb c9=>?_,h.low,h.dead,kD.trans h.os,mD.trans h.tape,kE.trans h.out,h.un⟩
 ·have:=h.mono _ _ hb;rw[iT m _ _ (λe=>by subst e;rw[hm] at this;cases this)];exact this
 ·by_cases hi:i=id
  ·subst hi;rw[hF] at hb;cases hb;exact .inr ⟨oO,.inl h.size⟩
  ·rw[iT m _ _ hi] at hb;exact h.new _ _ hb
 ·have h1:=h.gU _ _ hb;have:b<w.heap.size:=by
   rcases nG b w.heap.size with h|h
   ·exact h
   ·simp[dO,AZ h] at h1
  unfold dO at h1 ⊢;rw[hold b this];exact h1
 ·rw[hold b (by have:=h.size;omega)];exact h.bK b hb c9
end
def DStep(env:Env)(f:Nat)(call:kY)(aS:aX)(s:aY AV)(J:ag)(v:AV)(bu:ag):Prop:=
 (wantedA aS.guard s=false/\v=c4/\bu=J)∨
 (wantedA aS.guard s=true/\opx f (evalA env s) J aS.op=some (.val v bu))∨
 (wantedA aS.guard s=true/\∃bx args,opx f (evalA env s) J aS.op=some (.call bx args)/\∃l,call bx args J=some l/\(.ok v,bu)∈l/\∀x∈l,∃u,x.1= .ok u)
noncomputable def nZ (s:aY AV) (d:Option Nat) (v:AV):aY AV:=match d with|some d=>s.set d v|none=>s
def Jx(ai:Fr)(d:Option Nat)(v:AV):(ai.put d v).a5=nZ ai.a5 d v:=by
 cases d<;>rfl
def put_eq(aq:aY AV)(ds:List (Nat ⊕ (AV×List AV)))(rc:Bool)(d:Option Nat)(v:AV):Fr.put ⟨aq,ds,rc⟩ d v=⟨nZ aq d v,ds,rc⟩:=by
 cases d with
 |none=>rfl
 |some d=>rfl
def put_defers(ai:Fr)(d:Option Nat)(v:AV):(ai.put d v).defers=ai.defers/\(ai.put d v).fh=ai.fh:=by
 cases d<;>exact⟨rfl,rfl⟩
structure Trace(env:Env)(f:Nat)(call:kY)(pl:List aX)(s:Nat->aY AV)(S:Nat->ag)(v:Nat->AV):Prop where
 step:∀(p:Nat) (aS:aX),pl[p]? =some aS->DStep env f call aS (s p) (S p) (v p) (S (p+1))
 put:∀(p:Nat) (aS:aX),pl[p]? =some aS->s (p+1)=nZ (s p) aS.dst (v p)
structure b3H(pl:List aX)(s:Nat->aY AV)(S:Nat->ag)(v:Nat->AV)(ai:Fr)(bR:List ag)(ws:List kZ)(x:jh):Prop where
 aq:s pl.length=x.1.a5
 st:S pl.length=x.2.2.2
 pC:x.1.defers=ai.defers
 rc:x.1.fh=ai.fh
 bR:(x.2.2.2::x.2.1).reverse=bR.reverse++(List.range (pl.length+1)).map S
 old:∀y∈ws,y∈x.2.2.1
 BL:∀p aS,pl[p]? =some aS->wantedA aS.guard (s p)=true->aS.op.fR=false->aS.je≠[]->(aS,s p,v p)∈x.2.2.1
def flatO_mem{α β:Type}{f:α->Option (List β)}:∀ {l:List α} {r:List β},j6 f l=some r->∀x∈l,∃a,f x=some a/\∀y∈a,y∈r
 |[],_,_,x,hx=>by simp at hx
 |[a],r,h,x,hx=>by
  rw[dx.1 hx];exact⟨r,h,λ_ h=>h⟩
 |a::b::t,r,h,x,hx=>by
  have h:(match f a with|none=>none|some p=>match j6 f (b::t) with|none=>none|some q=>some (p++q))=some r:=h;split at h
  ·cases h
  ·rename_i p ay;split at h
   ·cases h
   ·rename_i q aP;cases h;rcases eH.1 hx with rfl|hx
    ·exact⟨p,ay,λy aI=>wL _ aI⟩
    ·obtain⟨z,h1,h2⟩:=flatO_mem aP x hx;exact⟨z,h1,λy aI=>yH _ (h2 y aI)⟩
def Pn{α:Type}(x:α)(s:Nat->α):Nat->α:=λp=>Nat.casesOn p x s
section
variable {env:Env}{f:Nat}{call:kY}
def Trace.cons{o:aX}{pl:List aX}{kJ:aY AV}{J bu:ag}{v0:AV}{s:Nat->aY AV}{S:Nat->ag}{v:Nat->AV}(ak:DStep env f call o kJ J v0 bu)(ht:Trace env f call pl s S v)(h1:s 0=nZ kJ o.dst v0)(h2:S 0=bu):Trace env f call (o::pl) (Pn kJ s) (Pn J S) (Pn v0 v):=by
 refine⟨λp aS ay=>?_,λp aS ay=>?_⟩
 ·cases p with
  |zero=>simp at ay;subst ay;show DStep env f call o kJ J v0 (S 0);rw[h2];exact ak
  |succ p=>exact ht.step p aS (by simpa using ay)
 ·cases p with
  |zero=>simp at ay;subst ay;exact h1
  |succ p=>exact ht.put p aS (by simpa using ay)
def Trace.tail{o:aX}{pl:List aX}{s:Nat->aY AV}{S:Nat->ag}{v:Nat->AV}(h:Trace env f call (o::pl) s S v):Trace env f call pl (λp=>s (p+1)) (λp=>S (p+1)) (λp=>v (p+1)):=⟨λp aS ay=>h.step (p+1) aS (by simpa using ay),λp aS ay=>h.put (p+1) aS (by simpa using ay)⟩
def runDraws_cons(o:aX)(pl:List aX)(ai:Fr)(bR:List ag)(ws:List kZ)(J:ag):runDraws env f call (o::pl) ai bR ws J=
  cond (wantedA o.guard ai.a5)
   (match opx f (evalA env ai.a5) J o.op with
    |some (.val v af)=>runDraws env f call pl (ai.put o.dst v) (J::bR) (match o.je with|[]=>ws|_::_=>(o,ai.a5,v)::ws) af
    |some (.call bx args)=>match call bx args J with
     |some (x::l)=>j6 (λr=>match r with|(.ok v,af)=>runDraws env f call pl (ai.put o.dst v) (J::bR) ws af|_=>none) (x::l)
     |_=>none
    |_=>none)
   (runDraws env f call pl (ai.put o.dst c4) (J::bR) ws J):=by
 rw[<-w_,← U8,← U9,← NB];rfl
def b3I{o:aX}{pl:List aX}{ai:Fr}{bR:List ag}{ws:List kZ}{J:ag}{L:List jh}(h:runDraws env f call (o::pl) ai bR ws J=some L):∃v0 bu,DStep env f call o ai.a5 J v0 bu:=by
 rw[runDraws_cons] at h;cases hw:wantedA o.guard ai.a5 with
 |false=>exact⟨c4,J,.inl ⟨hw,rfl,rfl⟩⟩
 |true=>
  rw[hw,cond_true] at h;split at h
  ·rename_i v bu hx;exact⟨v,bu,.inr (.inl ⟨hw,hx⟩)⟩
  ·rename_i bx args hx;split at h
   ·rename_i x l j9;have hall:∀y∈x::l,∃u,y.1= .ok u:=λy aI=>by
     obtain⟨a,h1,_⟩:=flatO_mem h y aI;obtain⟨j5,nm⟩:=y;cases j5 with
     |ok u=>exact⟨u,rfl⟩
     |err u=>cases h1
    obtain⟨u,hu⟩:=hall x oq;obtain⟨cU,ey⟩:=x;cases hu;exact⟨u,ey,.inr (.inr ⟨hw,bx,args,hx,_,j9,oq,hall⟩)⟩
   ·cases h
  ·cases h
def Jy{o:aX}{pl:List aX}{ai:Fr}{bR:List ag}{ws:List kZ}{J bu:ag}{v0:AV}{L:List jh}(h:runDraws env f call (o::pl) ai bR ws J=some L)(ak:DStep env f call o ai.a5 J v0 bu):
  ∃zr dT,runDraws env f call pl (ai.put o.dst v0) (J::bR) zr bu=some dT/\(∀x∈dT,x∈L)/\(∀x∈ws,x∈zr)/\(wantedA o.guard ai.a5=true->o.op.fR=false->o.je≠[]->(o,ai.a5,v0)∈zr):=by
 rw[runDraws_cons] at h;rcases ak with⟨hw,rfl,rfl⟩|⟨hw,hx⟩|⟨hw,bx,args,hx,l,j9,hm,_⟩
 ·rw[hw,cond_false] at h;exact⟨ws,L,h,λ_ h=>h,λ_ h=>h,λh=>by rw[hw] at h;cases h⟩
 ·rw[hw,cond_true,hx] at h;refine⟨_,L,h,λ_ h=>h,λx hx=>?_,λ_ _ hn=>?_⟩
  ·split
   ·exact hx
   ·exact fP _ hx
  ·split
   ·rename_i he;exact absurd he hn
   ·exact oq
 ·rw[hw,cond_true,hx] at h;simp only[j9] at h;obtain⟨c,as,eO,_,_⟩:=w9 hx;cases l with
  |nil=>simp at hm
  |cons x l=>
   obtain⟨a,h1,h2⟩:=flatO_mem h _ hm;exact⟨ws,a,h1,h2,λ_ h=>h,λ_ he=>by rw[eO] at he;cases he⟩
def Po:∀(pl:List aX) (ai:Fr) (bR:List ag) (ws:List kZ) (J:ag) {L:List jh},runDraws env f call pl ai bR ws J=some L->∃s S v,Trace env f call pl s S v/\s 0=ai.a5/\S 0=J
 |[],ai,_,_,J,_,_=>⟨λ_=>ai.a5,λ_=>J,λ_=>c4,⟨λp aS ay=>by simp at ay,λp aS ay=>by simp at ay⟩,rfl,rfl⟩
 |o::pl,ai,bR,ws,J,L,h=>by
  obtain⟨v0,bu,ak⟩:=b3I h;obtain⟨zr,dT,h1,_⟩:=Jy h ak;obtain⟨s,S,v,h2,h3,aN⟩:=Po pl _ _ _ _ h1;exact⟨_,_,_,.cons ak h2 (by rw[h3,Jx]) aN,rfl,rfl⟩
def Pp:∀(pl:List aX) (ai:Fr) (bR:List ag) (ws:List kZ) (J:ag) {L:List jh} {s:Nat->aY AV} {S:Nat->ag} {v:Nat->AV},runDraws env f call pl ai bR ws J=some L->Trace env f call pl s S v->s 0=ai.a5->S 0=J->∃x∈L,b3H pl s S v ai bR ws x
 |[],ai,bR,ws,J,L,s,S,v,h,ht,h1,h2=>by
  have h:some [(ai,bR,ws,J)]=some L:=h;cases h;exact⟨_,oq,h1,h2,rfl,rfl,by simp[h2],λ_ h=>h,λp aS ay=>by simp at ay⟩
 |o::pl,ai,bR,ws,J,L,s,S,v,h,ht,h1,h2=>by
  have ak:=ht.step 0 o I;rw[h1,h2] at ak;obtain⟨zr,dT,cn,ct,eN,fm⟩:=Jy h ak;obtain⟨zp,tr⟩:=put_defers ai o.dst (v 0);obtain⟨x,hx,h⟩:=Pp pl _ _ _ _ cn ht.tail (by show s (0+1)=_;rw[ht.put 0 o I,h1,Jx]) I;refine⟨x,ct x hx,h.aq,h.st,h.pC.trans zp,h.rc.trans tr,?_,λy aI=>h.old y (eN y aI),λp aS ay hw he hn=>?_⟩
  ·rw[h.bR,gS,List.range_succ_eq_map (n:=pl.length+1)];simp only[List.reverse_cons,mv,kz,jD,List.singleton_append,h2];rfl
  ·cases p with
   |zero=>simp at ay;subst ay;rw[h1];rw[h1] at hw;exact h.old _ (fm hw he hn)
   |succ p=>exact h.BL p aS (by simpa using ay) hw he hn
def Xl:∀(pl:List aX) (ai:Fr) (bR:List ag) (ws:List kZ) (J:ag) {L:List jh} {s:Nat->aY AV} {S:Nat->ag} {v:Nat->AV},runDraws env f call pl ai bR ws J=some L->Trace env f call pl s S v->s 0=ai.a5->S 0=J→
  ∀(p:Nat) (aS:aX) (bx:AV) (args:List AV) (l:List (cQ×ag)) (v1:AV) (bu:ag),pl[p]? =some aS->wantedA aS.guard (s p)=true->opx f (evalA env (s p)) (S p) aS.op=some (.call bx args)->call bx args (S p)=some l->(.ok v1,bu)∈l->(∀x∈l,∃u,x.1= .ok u)→
  ∃iH mR a_,Trace env f call pl iH mR a_/\(∀q,q<=p->iH q=s q/\mR q=S q)/\(∀q,q<p->a_ q=v q)/\a_ p=v1/\mR (p+1)=bu
 |[],_,_,_,_,_,_,_,_,_,_,_,_,p,_,_,_,_,_,_,ay,_,_,_,_,_=>by simp at ay
 |o::pl,ai,bR,ws,J,L,s,S,v,h,ht,h1,h2,0,aS,bx,args,l,v1,bu,ay,hw,hx,ae,hm,hall=>by
  simp at ay;subst ay;have ak:DStep env f call o ai.a5 J v1 bu:=.inr (.inr ⟨by rw[<-h1];exact hw,bx,args,by rw[<-h1,← h2];exact hx,l,by rw[<-h2];exact ae,hm,hall⟩);obtain⟨zr,dT,cn,_⟩:=Jy h ak;obtain⟨iH,mR,a_,ct,eN,fm⟩:=Po pl _ _ _ _ cn;refine⟨_,_,_,.cons ak ct (by rw[eN,Jx]) fm,λq aP=>?_,λq aP=>by omega,rfl,fm⟩;obtain rfl:q=0:=by omega
  exact⟨h1.symm,h2.symm⟩
 |o::pl,ai,bR,ws,J,L,s,S,v,h,ht,h1,h2,p+1,aS,bx,args,l,v1,bu,ay,hw,hx,ae,hm,hall=>by
  have ak:=ht.step 0 o I;rw[h1,h2] at ak;obtain⟨zr,dT,cn,_⟩:=Jy h ak;have aF:s (0+1)=nZ ai.a5 o.dst (v 0):=by rw[ht.put 0 o I,h1]
  obtain⟨iH,mR,a_,ct,eN,fm,kK,Pq⟩:=Xl pl _ _ _ _ cn ht.tail (by rw[Jx];exact aF) I p aS bx args l v1 bu (by simpa using ay) hw hx ae hm hall;refine⟨_,_,_,.cons ak ct ((eN 0 (kA _)).1.trans aF) (eN 0 (kA _)).2,λq aP=>?_,λq aP=>?_,kK,Pq⟩
  ·cases q with
   |zero=>exact⟨h1.symm,h2.symm⟩
   |succ q=>exact eN q U
  ·cases q with
   |zero=>rfl
   |succ q=>exact fm q U
end
structure hl(P:Program)(env:Env)(B f:Nat)(r:Option Nat)(ops:Array Oper)(pl:List aX)(bg cX:Nat->Nat)(cS:Nat->Nat->Bool)(call:kY)(s:Nat->aY AV)(S:Nat->ag)(v:Nat->AV):Prop where
 spec:W5 P ops pl bg cX cS
 b3J:D2 P env B f r call
 iq:Trace env f call pl s S v
 steady:∀(p:Nat) (aS:aX),pl[p]? =some aS->wantedA aS.guard (s p)=true->aS.op.fR=false->∀q∈aS.je,∃bA,opx f (evalA env (s p)) (S q) aS.op=some (.val (v p) bA)
 k4:∀p q,Er pl cS p q->∀bI ew s1 a9 cU s2 bt ey,pl[p]? =some bI->pl[q]? =some ew->bI.op= .store s1 a9 cU->ew.op= .store s2 bt ey->∃i BM j BN,evalA env (s p) a9=some (.p (some (i,BM)))/\evalA env (s q) bt=some (.p (some (j,BN)))/\i≠j
structure Pr(P:Program)(env:Env)(B f:Nat)(r:Option Nat)(ops:Array Oper)(pl:List aX)(bg cX:Nat->Nat)(cS:Nat->Nat->Bool)(call:kY)(kJ:aY AV)(cr:ag):Prop where
 Jz:∀s S v,Trace env f call pl s S v->s 0=kJ->S 0=cr->hl P env B f r ops pl bg cX cS call s S v
 k4:∀s S v,Trace env f call pl s S v->s 0=kJ->S 0=cr->∀(p:Nat) (aS:aX) (bx:AV) (args:List AV) (l:List (cQ×ag)) (v1:AV) (bu:ag),pl[p]? =some aS->wantedA aS.guard (s p)=true->opx f (evalA env (s p)) (S p) aS.op=some (.call bx args)->call bx args (S p)=some l->(.ok v1,bu)∈l->(∀x∈l,∃u,x.1= .ok u)→
  ∃iH mR a_,Trace env f call pl iH mR a_/\(∀q,q<=p->iH q=s q/\mR q=S q)/\(∀q,q<p->a_ q=v q)/\a_ p=v1/\mR (p+1)=bu
def dz(bg:Nat->Nat)(listed:Array Bool)(p:Nat):Prop:=listed.getD (bg p) false=true
structure xk(pl:List aX)(v:Nat->AV)(kJ:aY AV)(D:Nat->Prop)(c6:aY AV):Prop where
 eV:∀t,(c6.get t).isSome=(kJ.get t).isSome
 jm:∀(p:Nat) (aS:aX) (t:Nat),pl[p]? =some aS->D p->aS.dst=some t->(kJ.get t).isSome=true->c6.get t=some (v p)
 xl:∀(t:Nat),(∀(p:Nat) (aS:aX),pl[p]? =some aS->D p->aS.dst≠some t)->c6.get t=kJ.get t
structure pD(pl:List aX)(s:Nat->aY AV)(S:Nat->ag)(cr:ag)(D:Nat->Prop)(m:Nat->Option Nat)(k:Nat):Prop where
 one:∀(p:Nat) (aS:aX),p<k->pl[p]? =some aS->aS.op.ld=true->wantedA aS.guard (s p)=true->¬D p->m (S p).next=none/\cr.next<=(S p).next/\(S p).next<(S k).next/\(S k).get (S p).next=(S (p+1)).get (S p).next
 lt:∀(p ef:Nat) (aS hp:aX),p<ef->ef<k->pl[p]? =some aS->pl[ef]? =some hp->aS.op.ld=true->hp.op.ld=true->wantedA aS.guard (s p)=true->wantedA hp.guard (s ef)=true->¬D p->¬D ef->(S p).next<(S ef).next
section
variable {P:Program}{env:Env}{B f:Nat}{r:Option Nat}{ops:Array Oper}{pl:List aX}{bg cX:Nat->Nat}{cS:Nat->Nat->Bool}{call:kY}{s:Nat->aY AV}{S:Nat->ag}{v:Nat->AV}
def hl.lt(c:hl P env B f r ops pl bg cX cS call s S v){p:Nat}{aS:aX}(h:pl[p]? =some aS):p<ops.size:=by
 have:=(lG.1 h).1;have:=c.spec.len;omega
def hl.get(c:hl P env B f r ops pl bg cX cS call s S v){p:Nat}(h:p<ops.size):∃aS,pl[p]? =some aS:=
 ⟨_,eS (by have:=c.spec.len;omega)⟩
def hl.Et(c:hl P env B f r ops pl bg cX cS call s S v){p q:Nat}{aS dG:aX}{d:Nat}(ay:pl[p]? =some aS)(aP:pl[q]? =some dG)(h1:aS.dst=some d)(h2:dG.dst=some d):p=q:=by
 rcases w5 p q with h|h|h
 ·exact absurd h2 (c.spec.Et p q aS dG d h ay aP h1)
 ·exact h
 ·exact absurd h1 (c.spec.Et q p dG aS d h aP ay h2)
def Xm{c6:aY AV}{d:Option Nat}{t:Nat}(h:d≠some t)(x:AV):(nZ c6 d x).get t=c6.get t:=by
 cases d with
 |none=>rfl
 |some e=>
  show(c6.set e x).get t=_;rw[aY.ji,if_neg (λhe=>h (by rw[he]))]
def xk.put(c:hl P env B f r ops pl bg cX cS call s S v){kJ c6:aY AV}{D gy:Nat->Prop}(h:xk pl v kJ D c6){p:Nat}{aS:aX}(ay:pl[p]? =some aS)(fo:¬D p)(BO:∀(q:Nat) (dG:aX),pl[q]? =some dG->(gy q↔D q\/q=p)):xk pl v kJ gy (nZ c6 aS.dst (v p)):=by
 refine⟨λt=>?_,λq dG t aP an ht hlt=>?_,λt hm=>?_⟩
 ·rw[<-h.eV t];cases jk:aS.dst with
  |none=>rfl
  |some e=>
   show((c6.set e (v p)).get t).isSome=_;rw[aY.ji];by_cases he:t=e
   ·subst he;rw[if_pos I];cases c6.get t<;>rfl
   ·rw[if_neg he]
 ·rcases(BO q dG aP).1 an with an|rfl
  ·have b_:aS.dst≠some t:=λe=>by
    have:=c.Et ay aP e ht;subst this;exact fo an
   rw[<-h.jm q dG t aP an ht hlt];exact Xm b_ _
  ·rw[ay] at aP;cases aP;rw[ht];show(c6.set t (v q)).get t=_;rw[aY.ji,if_pos I];have:=h.eV t;rw[hlt] at this;cases hg:c6.get t with
   |none=>rw[hg] at this;cases this
   |some y=>rfl
 ·have b_:=hm p aS ay ((BO p aS ay).2 (.inr I));rw[<-h.xl t (λq dG aP an=>hm q dG aP ((BO q dG aP).2 (.inl an)))];exact Xm b_ _
def Ps(c:hl P env B f r ops pl bg cX cS call s S v):∀k,k<=ops.size->xk pl v (s 0) (· <k) (s k)
 |0,_=>⟨λ_=>rfl,λp aS t ay an=>by omega,λt _=>rfl⟩
 |k+1,aC=>by
  obtain⟨aS,l6⟩:=c.get (p:=k) U;rw[c.iq.put k aS l6];exact(Ps c k U).put c l6 (IX k) (λq dG _=>⟨λh=>by have:q<k+1:=h;show q<k\/q=k;omega,λh=>by show q<k+1;rcases h with h|h<;>omega⟩)
def Xn(c:hl P env B f r ops pl bg cX cS call s S v){c6:aY AV}{D:Nat->Prop}(h:xk pl v (s 0) D c6){p:Nat}{aS:aX}(ay:pl[p]? =some aS)(fo:¬D p)
  (jl:∀q,cS q p=true->D q) (j9:∀q,q<ops.size->D q->∀x,cS x q=true->D x):∀t∈aS.reads,c6.get t=(s p).get t:=by
 intro t ht;have i_:=c.lt ay;have ae:=Ps c p U;by_cases hex:∃(q:Nat) (dG:aX),pl[q]? =some dG/\dG.dst=some t
 ·obtain⟨q,dG,aP,Ey⟩:=hex;have Xo:∀hq zs,pl[hq]? =some zs->zs.dst=some t->hq=q:=λhq zs h1 h2=>c.Et h1 aP h2 Ey;have Xp:¬D q->c6.get t=(s 0).get t:=λhnd=>h.xl t (λhq zs h1 an h2=>by have:=Xo hq zs h1 h2;subst this;exact hnd an);have Xq:¬q<p->(s p).get t=(s 0).get t:=λhnd=>ae.xl t (λhq zs h1 an h2=>by have:=Xo hq zs h1 h2;subst this;exact hnd an);by_cases hlt:((s 0).get t).isSome=true
  ·rcases w5 q p with BP|BP|BP
   ·have Ez:D q:=by
     rcases c.spec.W7 q p dG aS BP aP ay with h1|h1
     ·exact jl q h1
     ·exact absurd ht (h1.1 t Ey)
    rw[h.jm q dG t aP Ez Ey hlt,ae.jm q dG t aP BP Ey hlt]
   ·subst BP;rw[Xp fo,Xq U]
   ·have Ez:¬D q:=λEz=>by
     rcases c.spec.W7 p q aS dG BP ay aP with h1|h1
     ·exact fo (j9 q (c.lt aP) Ez p h1)
     ·exact absurd ht (h1.2 t Ey)
    rw[Xp Ez,Xq U]
  ·have aF:=h.eV t;have aV:=ae.eV t;cases hg:(s 0).get t with
   |some y=>rw[hg] at hlt;exact absurd I hlt
   |none=>
    rw[hg] at aF aV;cases nj:c6.get t with
    |some y=>rw[nj] at aF;cases aF
    |none=>
     cases IK:(s p).get t with
     |some y=>rw[IK] at aV;cases aV
     |none=>rfl
 ·rw[h.xl t (λq dG h1 _ h2=>hex ⟨q,dG,h1,h2⟩),ae.xl t (λq dG h1 _ h2=>hex ⟨q,dG,h1,h2⟩)]
def Xr{c6 sp:aY AV}{aS:aX}(h:∀t∈aS.reads,c6.get t=sp.get t):∀x∈aS.op.opnds,evalA env c6 x=evalA env sp x:=by
 intro x hx;cases x with
 |t i=>
  show c6.get i=sp.get i;exact h i (yH _ (List.mem_filterMap.2 ⟨_,hx,rfl⟩))
 |c v=>rfl
 |g g=>rfl
def Xs{c6 sp:aY AV}{aS:aX}(h:∀t∈aS.reads,c6.get t=sp.get t):wantedA aS.guard c6=wantedA aS.guard sp:=by
 cases hg:aS.guard with
 |none=>rfl
 |some g=>
  obtain⟨d,b⟩:=g;simp only[wantedA];rw[h d (by simp[aX.reads,hg])]
def b3K{op:AOp}(h:op.ld=true):op.fR=false:=by
 cases op<;>first|rfl|cases h
def hl.calm(c:hl P env B f r ops pl bg cX cS call s S v){p:Nat}{aS:aX}(ay:pl[p]? =some aS)(he:aS.op.fR=false):
  S (p+1)=S p/\(aS.op.ld=false\/wantedA aS.guard (s p)=false)\/∃b2,aS.op.ld=true/\wantedA aS.guard (s p)=true/\S (p+1)=(S p).push b2:=by
 rcases c.iq.step p aS ay with⟨h1,_,h2⟩|⟨h1,h2⟩|⟨h1,bx,args,h2,_⟩
 ·exact .inl ⟨h2,.inr h1⟩
 ·cases ha:aS.op.ld with
  |false=>
   obtain⟨a_,h3,_⟩:=Jv he ha h2;simp only[bH.val.injEq] at h3;exact .inl ⟨h3.2,.inl I⟩
  |true=>
   obtain⟨b2,nk,h3,_,_⟩:=Xj ha h2;simp only[bH.val.injEq] at h3;exact .inr ⟨b2,rfl,h1,h3.2⟩
 ·obtain⟨aU,as,eO,_,_⟩:=w9 h2;rw[eO] at he;cases he
def advance(c:hl P env B f r ops pl bg cX cS call s S v){ai:Fr}{a:Act}{w eX:World}{m dS:Nat->Option Nat}{cr:ag}{D:Nat->Prop}:∀(d k:Nat),k+d<=ops.size->(∀p aS,k<=p->p<k+d->pl[p]? =some aS->aS.op.fR=false)→
  eP P env ai a (S k) w m B->Ext f cr eX dS (S k) w m->pD pl s S cr D m k->eP P env ai a (S (k+d)) w m B/\Ext f cr eX dS (S (k+d)) w m/\pD pl s S cr D m (k+d)
 |0,k,_,_,h1,h2,h3=>⟨h1,h2,h3⟩
 |d+1,k,aC,jC,h1,h2,h3=>by
  obtain⟨i1,i2,i3⟩:=advance c d k U (λp aS aN bY=>jC p aS aN U) h1 h2 h3;obtain⟨aS,l6⟩:=c.get (p:=k+d) U;have he:=jC (k+d) aS U U l6;show eP P env ai a (S (k+d+1)) w m B/\Ext f cr eX dS (S (k+d+1)) w m/\pD pl s S cr D m (k+d+1);rcases c.calm l6 he with⟨cg,lK⟩|⟨b2,gW,hw,cg⟩
  ·have Xt:∀p hp,p<k+d+1->pl[p]? =some hp->hp.op.ld=true->wantedA hp.guard (s p)=true->p<k+d:=λp hp ay hg ha hw=>by
    rcases nG p (k+d) with h|h
    ·exact h
    ·have:p=k+d:=by omega
     subst this;rw[l6] at hg;cases hg;rcases lK with h|h
     ·rw[ha] at h;cases h
     ·rw[hw] at h;cases h
   refine⟨by rw[cg];exact i1,by rw[cg];exact i2,⟨λp hp ay hg ha hw an=>?_,λp ef JA JB ay oF cn ct a9 bt bf ja d1 d2=>?_⟩⟩
   ·obtain⟨rY,vk,rZ,vl⟩:=i3.one p hp (Xt p hp ay hg ha hw) hg ha hw an;exact⟨rY,vk,by rw[cg];exact rZ,by rw[cg];exact vl⟩
   ·exact i3.lt p ef JA JB ay (Xt ef JB oF ct bt ja) cn ct a9 bt bf ja d1 d2
  ·have hlen:=i1.ctx.rel.len;refine⟨by rw[cg];exact i1.Ex b2,by rw[cg];exact i2.Ex hlen b2,⟨λp hp ay hg ha hw an=>?_,λp ef JA JB ay oF cn ct a9 bt bf ja d1 d2=>?_⟩⟩
   ·rcases nG p (k+d) with h|h
    ·obtain⟨rY,vk,rZ,vl⟩:=i3.one p hp h hg ha hw an;refine⟨rY,vk,by rw[cg];exact Dk rZ,by rw[cg,ag.fy hlen b2 rZ];exact vl⟩
    ·have:p=k+d:=by omega
     subst this;exact⟨i1.ctx.rel.a8M,i2.next,by rw[cg];exact pa _,rfl⟩
   ·rcases nG ef (k+d) with h|h
    ·exact i3.lt p ef JA JB ay h cn ct a9 bt bf ja d1 d2
    ·have:ef=k+d:=by omega
     subst this;exact(i3.one p JA ay cn a9 bf d1).2.2.1
end
structure Inv(P:Program)(env:Env)(B f:Nat)(ops:Array Oper)(pl:List aX)(bg:Nat->Nat)(cS:Nat->Nat->Bool)(s:Nat->aY AV)(S:Nat->ag)(v:Nat->AV)(ds:List (Nat ⊕ (AV×List AV)))(rc:Bool)(cr:ag)(eX:World)(dS:Nat->Option Nat)
  (listed:Array Bool) (a:Act) (w:World) (cM:Nat) (m:Nat->Option Nat) (c6:aY AV):Prop where
 ts:Rel P cr eX dS B
 size:listed.size=ops.size
 closed:∀p,p<ops.size->dz bg listed p->∀q,cS q p=true->dz bg listed q
 Pt:cM<=ops.size
 xm:cM=ops.size\/∃(dY:aX),pl[cM]? =some dY/\dY.op.fR=true/\¬dz bg listed cM
 before:∀(e:Nat) (dY:aX),e<cM->pl[e]? =some dY->dY.op.fR=true->dz bg listed e
 after:∀(e:Nat) (dY:aX),cM<e->pl[e]? =some dY->dY.op.fR=true->¬dz bg listed e
 a5:xk pl v (s 0) (dz bg listed) c6
 st:eP P env ⟨c6,ds,rc⟩ a (S cM) w m B
 ext:Ext f cr eX dS (S cM) w m
 tt:pD pl s S cr (dz bg listed) m cM
section
variable {P:Program}{env:Env}{B f:Nat}{r:Option Nat}{ops:Array Oper}{pl:List aX}{bg cX:Nat->Nat}{cS:Nat->Nat->Bool}{call:kY}{s:Nat->aY AV}{S:Nat->ag}{v:Nat->AV}
variable {ds:List (Nat ⊕ (AV×List AV))}{rc:Bool}{cr:ag}{eX:World}{dS:Nat->Option Nat}{listed:Array Bool}{a:Act}{w:World}{cM:Nat}{m:Nat->Option Nat}{c6:aY AV}
def Pu(c:hl P env B f r ops pl bg cX cS call s S v):∀(d k:Nat),k+d=ops.size->∃q,k<=q/\q<=ops.size/\(q=ops.size\/∃(dY:aX),pl[q]? =some dY/\dY.op.fR=true)/\∀(e:Nat) (dY:aX),k<=e->e<q->pl[e]? =some dY->dY.op.fR=false
 |0,k,h=>⟨k,b6 _,U,.inl U,λe dY h1 h2=>by omega⟩
 |d+1,k,h=>by
  obtain⟨aS,l6⟩:=c.get (p:=k) U;cases he:aS.op.fR with
  |true=>exact⟨k,b6 _,U,.inr ⟨aS,l6,he⟩,λe dY h1 h2=>by omega⟩
  |false=>
   obtain⟨q,h1,h2,h3,aN⟩:=Pu c d (k+1) U;refine⟨q,U,h2,h3,λe dY bY cf gh=>?_⟩;rcases nG k e with gG|gG
   ·exact aN e dY U cf gh
   ·have:e=k:=by omega
    subst this;rw[l6] at gh;cases gh;exact he
def BQ(c:hl P env B f r ops pl bg cX cS call s S v)(cj:listed.size=ops.size){p q:Nat}(ay:p<ops.size)(aP:q<ops.size):dz bg (listed.setIfInBounds (bg p) true) q↔dz bg listed q\/q=p:=by
 have h1:=c.spec.pi p ay;have h2:=c.spec.pi q aP;unfold dz;by_cases h:q=p
 ·subst h;simp[qi,cj,h1.1]
 ·have b_:bg p≠bg q:=λe=>h (by rw[<-h2.2,← e,h1.2]);rw[getD_set_ne false b_];simp[h]
def Xu(c:hl P env B f r ops pl bg cX cS call s S v)(cj:listed.size=ops.size){p:Nat}(ay:p<ops.size)(h:listed.getD (bg p) true=false):¬dz bg listed p:=by
 have h1:=c.spec.pi p ay;unfold dz;have hlt:bg p<listed.size:=by omega
 simp[qi,hlt] at h ⊢;exact h
def b3L(c:hl P env B f r ops pl bg cX cS call s S v)(inv:Inv P env B f ops pl bg cS s S v ds rc cr eX dS listed a w cM m c6){i:Nat}(hi:i∈Region.ready .any ops listed):
  ∃p aS o lj,p<ops.size/\i=bg p/\pl[p]? =some aS/\ops[i]? =some o/\coper P ops o=some lj/\aS.op=lj.op/\aS.dst=lj.dst/\aS.guard=lj.guard/\¬dz bg listed p/\(∀q,cS q p=true->dz bg listed q):=by
 obtain⟨h1,o,ho,h2⟩:=mem_ready.1 hi;have kH:i<ops.size:=(yC.1 ho).1;obtain⟨h3,aN⟩:=c.spec.Es i kH;obtain⟨aS,l6⟩:=c.get h3;obtain⟨bV,lj,lO,ae,aF,aV,dp⟩:=c.spec.code _ aS l6;rw[aN,ho] at lO;cases lO;refine⟨cX i,aS,o,lj,h3,aN.symm,l6,ho,ae,aF,aV,dp,Xu c inv.size h3 (by rw[aN];exact h1),λq aP=>?_⟩;obtain⟨bV,lO,e,he,hb,lK⟩:=c.spec.W6 (cX i) h3 q aP;rw[aN,ho] at lO;cases lO;have Pv:=h2 e he hb;have w1:=c.spec.back (cX i) h3 o (by rw[aN];exact ho) e he hb;have xn:=c.spec.Es e.on w1.1;have EA:dz bg listed (cX e.on):=by unfold dz;rw[xn.2];exact Pv
 rcases lK with rfl|lK
 ·exact EA
 ·exact inv.closed _ xn.1 EA q lK
def Inv.calm(c:hl P env B f r ops pl bg cX cS call s S v)(inv:Inv P env B f ops pl bg cS s S v ds rc cr eX dS listed a w cM m c6){p:Nat}{aS:aX}(ay:pl[p]? =some aS)(fo:¬dz bg listed p)(jl:∀q,cS q p=true->dz bg listed q)(he:p≠cM)(b_:aS.op.fR=false\/p<cM)
  {cC:Act} {ax:World} {aK:Nat->Option Nat} (st:eP P env ⟨nZ c6 aS.dst (v p),ds,rc⟩ cC (S cM) ax aK B) (ext:Ext f cr eX dS (S cM) ax aK) (tt:pD pl s S cr (dz bg (listed.setIfInBounds (bg p) true)) aK cM):
  Inv P env B f ops pl bg cS s S v ds rc cr eX dS (listed.setIfInBounds (bg p) true) cC ax cM aK (nZ c6 aS.dst (v p)):=by
 have i_:=c.lt ay;have ak:∀q,q<ops.size->(dz bg (listed.setIfInBounds (bg p) true) q↔dz bg listed q\/q=p):=λq aP=>BQ c inv.size i_ aP;have jE:∀q,dz bg listed q->dz bg (listed.setIfInBounds (bg p) true) q:=λq aP=>by
  unfold dz at aP ⊢;by_cases h:bg p=bg q
  ·rw[<-h];simp[qi,inv.size,(c.spec.pi p i_).1]
  ·rw[getD_set_ne false h];exact aP
 refine⟨inv.ts,by simpa using inv.size,λq aP an x hx=>?_,inv.Pt,?_,λe dY h1 h2 h3=>jE e (inv.before e dY h1 h2 h3),λe dY h1 h2 h3 aN=>?_,inv.a5.put c ay fo (λq dG aP=>ak q (c.lt aP)),st,ext,tt⟩
 ·rcases(ak q aP).1 an with h|rfl
  ·exact jE x (inv.closed q aP h x hx)
  ·exact jE x (jl x hx)
 ·rcases inv.xm with h|⟨dY,h1,h2,h3⟩
  ·exact .inl h
  ·exact .inr ⟨dY,h1,h2,λh=>by
    rcases(ak cM (c.lt h1)).1 h with h|h
    ·exact h3 h
    ·exact he h.symm⟩
 ·rcases(ak e (c.lt h2)).1 aN with h|h
  ·exact inv.after e dY h1 h2 h3 h
  ·subst h;rcases b_ with b_|b_
   ·rw[ay] at h2;cases h2;rw[b_] at h3;cases h3
   ·omega
def Inv.effect(c:hl P env B f r ops pl bg cX cS call s S v)(inv:Inv P env B f ops pl bg cS s S v ds rc cr eX dS listed a w cM m c6){p:Nat}{aS:aX}(ay:pl[p]? =some aS)(fo:¬dz bg listed p)(jl:∀q,cS q p=true->dz bg listed q)(he:aS.op.fR=true)(aP:p=cM)
  {cC:Act} {ax:World} {aK:Nat->Option Nat} (st:eP P env ⟨nZ c6 aS.dst (v p),ds,rc⟩ cC (S (p+1)) ax aK B) (ext:Ext f (S p) w m (S (p+1)) ax aK):
  ∃EB,Inv P env B f ops pl bg cS s S v ds rc cr eX dS (listed.setIfInBounds (bg p) true) cC ax EB aK (nZ c6 aS.dst (v p)):=by
 have i_:=c.lt ay;have ak:∀q,q<ops.size->(dz bg (listed.setIfInBounds (bg p) true) q↔dz bg listed q\/q=p):=λq aP=>BQ c inv.size i_ aP;have jE:∀q,dz bg listed q->dz bg (listed.setIfInBounds (bg p) true) q:=λq aP=>by
  unfold dz at aP ⊢;by_cases h:bg p=bg q
  ·rw[<-h];simp[qi,inv.size,(c.spec.pi p i_).1]
  ·rw[getD_set_ne false h];exact aP
 subst aP;obtain⟨q,h1,h2,h3,aN⟩:=Pu c (ops.size-(p+1)) (p+1) U;have b3M:pD pl s S cr (dz bg (listed.setIfInBounds (bg p) true)) aK (p+1):=by
  have back:∀ef hp,ef<p+1->pl[ef]? =some hp->hp.op.ld=true->¬dz bg (listed.setIfInBounds (bg p) true) ef->ef<p/\¬dz bg listed ef:=λef hp hlt hg ha an=>by
   refine⟨?_,λh=>an (jE ef h)⟩;rcases nG ef p with h|h
   ·exact h
   ·have:ef=p:=by omega
    subst this;rw[ay] at hg;cases hg;rw[b3K ha] at he;cases he
  refine⟨λef hp hlt hg ha hw an=>?_,λp1 p2 a9 bt ao qJ cn ct Xv Xw bf ja d1 d2=>?_⟩
  ·obtain⟨db,cK⟩:=back ef hp hlt hg ha an;obtain⟨rY,vk,rZ,vl⟩:=inv.tt.one ef hp db hg ha hw cK;refine⟨?_,vk,u7 rZ ext.next,by rw[ext.un _ rZ rY];exact vl⟩;cases hm:aK (S ef).next with
   |none=>rfl
   |some b=>
    rcases ext.new _ _ hm with h|⟨h,_⟩
    ·rw[rY] at h;cases h
    ·omega
  ·have cK:=back p2 bt qJ ct Xw d2;have db:=back p1 a9 U cn Xv d1;exact inv.tt.lt p1 p2 a9 bt ao cK.1 cn ct Xv Xw bf ja db.2 cK.2
 obtain⟨EC,ED,EE⟩:=advance c (q-(p+1)) (p+1) U (λe dY bY cf gh=>aN e dY bY U gh) st (inv.ext.trans inv.ts ext) b3M;have aP:p+1+(q-(p+1))=q:=by omega
 rw[aP] at EC ED EE;refine⟨q,inv.ts,by simpa using inv.size,λx hx an y aI=>?_,h2,?_,λe dY bY cf gh=>?_,λe dY bY cf gh gG=>?_,inv.a5.put c ay fo (λx bI hx=>ak x (c.lt hx)),EC,ED,EE⟩
 ·rcases(ak x hx).1 an with h|rfl
  ·exact jE y (inv.closed x hx h y aI)
  ·exact jE y (jl y aI)
 ·rcases h3 with h|⟨dY,bY,cf⟩
  ·exact .inl h
  ·refine .inr ⟨dY,bY,cf,λh=>?_⟩;rcases(ak q (c.lt bY)).1 h with h|h
   ·exact inv.after q dY U bY cf h
   ·omega
 ·rcases w5 e p with gG|gG|gG
  ·exact jE e (inv.before e dY gG cf gh)
  ·exact(ak e (c.lt cf)).2 (.inr gG)
  ·have:=aN e dY U bY cf;rw[this] at gh;cases gh
 ·rcases(ak e (c.lt cf)).1 gG with h|h
  ·exact inv.after e dY U cf gh h
  ·omega
def Inv.lt(c:hl P env B f r ops pl bg cX cS call s S v)(inv:Inv P env B f ops pl bg cS s S v ds rc cr eX dS listed a w cM m c6){p:Nat}{aS:aX}(ay:pl[p]? =some aS)(an:dz bg listed p):p<cM:=by
 have i_:=c.lt ay;rcases inv.xm with h|⟨dY,h1,h2,h3⟩
 ·omega
 ·rcases w5 p cM with h|h|h
  ·exact h
  ·subst h;exact absurd an h3
  ·rcases c.spec.qG cM p dY h i_ h1 h2 with aN|aN
   ·exact absurd (inv.closed p i_ an cM aN) h3
   ·obtain⟨_,ew,_,_,_,_,_,_,_,ct,_,fm,_⟩:=aN.ops;rw[ay] at ct;cases ct;exact absurd an (inv.after p aS h ay (by rw[fm];rfl))
def Inv.switch(c:hl P env B f r ops pl bg cX cS call s S v)(inv:Inv P env B f ops pl bg cS s S v ds rc cr eX dS listed a w cM m c6){iH:Nat->aY AV}{mR:Nat->ag}{a_:Nat->AV}(h1:∀q,q<=cM->iH q=s q/\mR q=S q)(h2:∀q,q<cM->a_ q=v q):Inv P env B f ops pl bg cS iH mR a_ ds rc cr eX dS listed a w cM m c6:=by
 refine⟨inv.ts,inv.size,inv.closed,inv.Pt,inv.xm,inv.before,inv.after,⟨λt=>?_,λp aS t ay an ht hlt=>?_,λt hm=>?_⟩,by rw[(h1 cM (b6 _)).2];exact inv.st,by rw[(h1 cM (b6 _)).2];exact inv.ext,⟨λp aS hlt ay ha hw an=>?_,λp ef aS hp h3 aN bY cf gh gG iF r0 b3N EF=>?_⟩⟩
 ·rw[(h1 0 (kA _)).1];exact inv.a5.eV t
 ·rw[(h1 0 (kA _)).1] at hlt;rw[h2 p (inv.lt c ay an)];exact inv.a5.jm p aS t ay an ht hlt
 ·rw[(h1 0 (kA _)).1];exact inv.a5.xl t hm
 ·rw[(h1 p U).1] at hw;rw[(h1 p U).2,(h1 (p+1) U).2,(h1 cM (b6 _)).2];exact inv.tt.one p aS hlt ay ha hw an
 ·rw[(h1 p U).1] at iF;rw[(h1 ef U).1] at r0;rw[(h1 p U).2,(h1 ef U).2];exact inv.tt.lt p ef aS hp h3 aN bY cf gh gG iF r0 b3N EF
end
def Xx{f:Nat}{av:aH->Option AV}{J bu:ag}{R:Option Nat}{a x:aH}{v:AV}(h:opx f av J (.store R a x)=some (.val v bu)):
  ∃id off c hE,av a=some (.p (some (id,off)))/\J.get id=some c/\v=c4/\bu=J.set id hE/\∀bA:ag,bA.get id=some c->opx f av bA (.store R a x)=some (.val c4 (bA.set id hE)):=by
 simp only[opx] at h;split at h<;>try (cases h;done)
 rename_i id off u ha hx;split at h<;>try (cases h;done)
 rename_i dP;split at h<;>try (cases h;done)
 rename_i dX;split at h<;>try (cases h;done)
 ·rename_i c hg;split at h<;>cases h;rename_i hE nK;refine⟨id,off,.cells c,.cells hE,ha,hg,rfl,rfl,λbA h2=>?_⟩;simp only[opx,ha,hx,h2,nK];rw[if_neg dP,if_pos dX]
 ·rename_i c r hg;unfold pd at h;split at h<;>cases h;rename_i hE nK;refine⟨id,off,.hc c r,.hc hE r,ha,hg,rfl,rfl,λbA h2=>?_⟩;simp only[opx,ha,hx,h2,pd,nK];rw[if_neg dP,if_pos dX]
section
variable {P:Program}{env:Env}{B f:Nat}{r:Option Nat}{ops:Array Oper}{pl:List aX}{bg cX:Nat->Nat}{cS:Nat->Nat->Bool}{call:kY}{s:Nat->aY AV}{S:Nat->ag}{v:Nat->AV}
def b3O(c:hl P env B f r ops pl bg cX cS call s S v){x y:Nat}(k4:Er pl cS x y){bI ew:aX}(hx:pl[x]? =some bI)(aI:pl[y]? =some ew):
  bI.op.fR=true/\ew.op.fR=true/\∃T lP,opx f (evalA env (s y)) (S x) ew.op=some (.val (v y) T)/\opx f (evalA env (s x)) T bI.op=some (.val (v x) lP)/\wantedA bI.guard (s x)=true/\wantedA ew.guard (s y)=true∧
   (∀id,lP.get id=(S ops.size).get id)/\lP.next=(S ops.size).next:=by
 obtain⟨Xy,b3P,s1,a9,cU,s2,bt,ey,h1,h2,h3,aN,bY,cf,gh,gG,_⟩:=k4.ops;rw[hx] at h1;cases h1;rw[aI] at h2;cases h2;have hH:=k4.Js;have hn:y+1=ops.size:=by have:=k4.last;have:=c.spec.len;omega
 have stx:=c.iq.step x bI hx;have b3Q:=c.iq.step y ew aI;have wx:wantedA bI.guard (s x)=true:=by rw[gh];rfl
 have JC:wantedA ew.guard (s y)=true:=by rw[gG];rfl
 obtain⟨i,BM,j,BN,aF,aV,zo⟩:=c.k4 x y k4 bI ew s1 a9 cU s2 bt ey hx aI h3 aN;have hC:opx f (evalA env (s x)) (S x) bI.op=some (.val (v x) (S (x+1))):=by
  rcases stx with⟨h,_⟩|⟨_,h⟩|⟨_,bx,args,h,_⟩
  ·rw[wx] at h;cases h
  ·exact h
  ·obtain⟨_,_,eO,_,_⟩:=w9 h;rw[h3] at eO;cases eO
 have Xz:opx f (evalA env (s y)) (S y) ew.op=some (.val (v y) (S (y+1))):=by
  rcases b3Q with⟨h,_⟩|⟨_,h⟩|⟨_,bx,args,h,_⟩
  ·rw[JC] at h;cases h
  ·exact h
  ·obtain⟨_,_,eO,_,_⟩:=w9 h;rw[aN] at eO;cases eO
 rw[h3] at hC;rw[aN] at Xz;obtain⟨c4u,c4v,hE,b3R,cn,ct,eN,fm,kK⟩:=Xx hC;obtain⟨c4w,c4x,jn,XA,bM,ba,bj,de,e8⟩:=Xx Xz;rw[aF] at cn;cases cn;rw[aV] at bM;cases bM;have Eu:=ag.cJ ct;rw[hH] at fm;have aG:(S x).get j=some jn:=by
  rw[fm,ag.ji trivial _ Eu,if_neg (om zo)] at ba;exact ba
 have Pw:=ag.cJ aG;have ll:=e8 (S x) aG;have hi:((S x).set j XA).get i=some hE:=by
  rw[ag.ji trivial _ Pw,if_neg zo];exact ct
 have XB:=kK _ hi;refine⟨by rw[h3];rfl,by rw[aN];rfl,_,_,by rw[aN,bj];exact ll,by rw[h3,eN];exact XB,wx,JC,λid=>?_,?_⟩
 ·rw[<-hn,de,fm];have b3S:i<((S x).set j XA).next:=Eu;have b3T:j<((S x).set i b3R).next:=Pw;rw[ag.ji trivial _ b3S,ag.ji trivial _ Pw,ag.ji trivial _ b3T,ag.ji trivial _ Eu];by_cases h1:id=i
  ·by_cases h2:id=j
   ·exact absurd (h1.symm.trans h2) zo
   ·rw[if_pos h1,if_neg h2,if_pos h1]
  ·rw[if_neg h1];by_cases h2:id=j
   ·rw[if_pos h2,if_pos h2]
   ·rw[if_neg h2,if_neg h2,if_neg h1]
 ·rw[<-hn,de,fm];rfl
def Px{J af:ag}(h:∀id,J.get id=af.get id)(id:Nat):live J id↔live af id:=by unfold live;rw[h id]
def b3U{J af:ag}{m:Nat->Option Nat}(h:∀id,J.get id=af.get id):bh J m=bh af m:=by
 funext b
 simp only[bh,live,h]
def eP.congr{ai:Fr}{a:Act}{J af:ag}{w:World}{m:Nat->Option Nat}(st:eP P env ai a J w m B)(h:∀id,J.get id=af.get id)(hn:J.next=af.next):eP P env ai a af w m B:=by
 have ho:=b3U (m:=m) h;have al:=st.ctx.rel;have pr:Rel P af w m B:=by
  refine⟨trivial,λid b hb=>by rw[<-hn];exact al.eV id b hb,λid b o h1 h2 h3=>?_,λi lZ b h1 h2 h3 aN=>al.inj i lZ b h1 h2 ((Px h i).2 h3) ((Px h lZ).2 aN),al.base,al.bb⟩;rw[<-ho];exact al.obj id b o h1 (by rw[h id];exact h2) h3
 exact st.mono pr (λ_ _ h=>h) (b6 _) (λ_ _ h=>h) (λb _ hb=>⟨rfl,by rw[<-ho];exact hb⟩)
def Ext.congr{f:Nat}{cr J af:ag}{eX w:World}{dS m:Nat->Option Nat}(e:Ext f cr eX dS J w m)(h:∀id,J.get id=af.get id)(hn:J.next=af.next):Ext f cr eX dS af w m:=
 ⟨e.mono,e.new,by rw[<-hn];exact e.next,e.size,e.gU,e.bK,λid h1 h2=>by rw[<-h id];exact e.low id h1 h2,λid h1 h2=>e.dead id h1 ((Px h id).2 h2),e.os,e.tape,e.out,λid h1 h2=>by rw[<-h id];exact e.un id h1 h2⟩
end
end
end Go.Lyc
end
