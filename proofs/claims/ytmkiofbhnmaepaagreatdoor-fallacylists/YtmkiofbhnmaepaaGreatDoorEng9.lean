/-
  An abstract executor of the program's code, and that it is sound, part 3. No conditions: definitions and laws.
-/
import Derived.Test.YtmkiofbhnmaepaaGreatDoorEng2
import Derived.Lib.Bytealg
import Derived.OpenShut
import Derived.ProofKit
import Derived.LaidMore
import Derived.Lay
import Derived.SevenTiedAt
import Derived.Carry
import Derived.ChangeSlices
import Derived.Shelf.Sort.Plain
import Derived.Shelf.Slices.In.SortNone
set_option linter.all false
noncomputable section
namespace Go.Lyc
def FQ:=@Classical.byContradiction
def Wt:=@List.eq_nil_iff_forall_not_mem
def Wu:=@List.getElem?_reverse
def rD:=@Nat.zero_add
def B0:=@List.take_append_drop
def LM:=@Go.DataW.trod_bool
def B1:=@Go.DataW.trod_int
def yG:=@Go.DataW.trod_string
def LN:=@Go.DataW.trod_slice
def FR:=@Nat.zero_mul
def yH:=@Go.DataW.trod_struct
def Wv:=@Classical.choose_spec
def FT:=@Nat.le_add_left
def jv:=@List.append_nil
def gS:=@Bool.true_and
def B2:=@List.pairwise_cons
def LO:=@List.mem_map_of_mem
def uu:=@List.length_nil
def B3:=@List.reverse_append
def Ww:=@Bool.eq_false_iff
def LP:=@List.pairwise_iff_getElem
def yI:=@Bool.not_false
set_option maxHeartbeats 0
set_option maxRecDepth 100000
section
variable [Tok][TokOk]
open Go.RowKit
section
variable {P:Program}{env:Env}{B f:Nat}{r:Option Nat}{ops:Array Oper}{pl:List aQ}{a7 cD:Nat→Nat}{cK:Nat→Nat→Bool}{call:ki}{s:Nat→aP AV}{S:Nat→ad}{v:Nat→AV}
variable {ds:List (Nat ⊕ (AV×List AV))}{rc:Bool}{b_:ad}{eC:World}{dZ:Nat→Option Nat}{listed:Array Bool}{a:Act}{w:World}{cC:Nat}{m:Nat→Option Nat}{cW:aP AV}
theorem Wx(c:gP P env B f r ops pl a7 cD cK call s S v):∀(d k:Nat),k+d≤ops.size→(∀(e:Nat) (dI:aQ),pl[e]? =some dI→k≤e→e<k+d→dI.op.ft=false∧dI.op.kA=false)→S (k+d)=S k
 |0,_,_,_=>rfl
 |d+1,k,ax,h=>by
  obtain⟨aL,ln⟩:=c.get (p:=k+d) (by omega);obtain⟨h1,h2⟩:=h (k+d) aL ln (by omega) (by omega);rcases c.calm ln h1 with⟨h3,_⟩|⟨cw,h3,_⟩
  ·show S (k+d+1)=_;rw[h3];exact Wx c d k (by omega) (fun e dI aN bH de=>h e dI aN bH (by omega))
  ·rw[h2] at h3;cases h3
theorem oa.mono{D d_:Nat→Prop}{k:Nat}(h:oa pl s S b_ D m k)(eK:∀(p:Nat) (aL:aQ),pl[p]? =some aL→¬d_ p→¬D p):oa pl s S b_ d_ m k:=
 ⟨fun p aL h1 h2 h3 aN bH=>h.one p aL h1 h2 h3 aN (eK p aL h2 bH),fun p dU aL gR h1 h2 h3 aN bH de fV mm ns FO=>h.lt p dU aL gR h1 h2 h3 aN bH de fV mm (eK p aL h3 ns) (eK dU gR aN FO)⟩
def FU(o ah:ad):Prop:=(∀id,o.get id=ah.get id)∧o.next=ah.next
structure Inv2(P:Program)(env:Env)(B f:Nat)(ops:Array Oper)(pl:List aQ)(a7:Nat→Nat)(cK:Nat→Nat→Bool)(s:Nat→aP AV)(S:Nat→ad)(v:Nat→AV)(ds:List (Nat ⊕ (AV×List AV)))(rc:Bool)(b_:ad)(eC:World)(dZ:Nat→Option Nat)
  (listed:Array Bool) (a:Act) (w:World) (x:Nat) (T:ad) (m:Nat→Option Nat) (cW:aP AV):Prop where
 rB:Rel P b_ eC dZ B
 size:listed.size=ops.size
 closed:∀p,p<ops.size→c9 a7 listed p→∀q,cK q p=true→c9 a7 listed q
 pure:∀(p:Nat) (aL:aQ),pl[p]? =some aL→¬c9 a7 listed p→p=x∨(aL.op.ft=false∧aL.op.kA=false∧aL.op.looks=false)
 fin:c9 a7 listed x→FU T (S ops.size)
 rest:¬c9 a7 listed x→∃bq mn,pl[x]? =some bq∧bq.op.ft=true∧(∀c bP,bq.op≠ .call c bP)∧wantedA bq.guard (s x)=true∧opx f (evalA env (s x)) T bq.op=some (.val (v x) mn)∧FU mn (S ops.size)
 aW:um pl v (s 0) (c9 a7 listed) cW
 st:eJ P env ⟨cW,ds,rc⟩ a T w m B
 ext:Ext f b_ eC dZ T w m
theorem c3U(c:gP P env B f r ops pl a7 cD cK call s S v)(bZ:listed.size=ops.size)(jK:∀p,p<ops.size→c9 a7 listed p→∀q,cK q p=true→c9 a7 listed q){i:Nat}(hi:i∈Region.ready .any ops listed):
  ∃p aL I kE,p<ops.size∧i=a7 p∧pl[p]? =some aL∧ops[i]? =some I∧coper P ops I=some kE∧aL.op=kE.op∧aL.dst=kE.dst∧aL.guard=kE.guard∧¬c9 a7 listed p∧(∀q,cK q p=true→c9 a7 listed q):=by
 obtain⟨h1,I,aj,h2⟩:=mem_ready.1 hi;have je:i<ops.size:=(vz.1 aj).1;obtain⟨h3,aN⟩:=c.spec.BN i je;obtain⟨aL,ln⟩:=c.get h3;obtain⟨bE,kE,ob,ab,aE,aY,cZ⟩:=c.spec.code _ aL ln;rw[aN,aj] at ob;cases ob;refine⟨cD i,aL,I,kE,h3,aN.symm,ln,aj,ab,aE,aY,cZ,Wl c bZ h3 (by rw[aN];exact h1),fun q aI=>?_⟩;obtain⟨bE,ob,e,he,hb,kl⟩:=c.spec.VW (cD i) h3 q aI;rw[aN,aj] at ob;cases ob;have LI:=h2 e he hb;have tT:=c.spec.back (cD i) h3 I (by rw[aN];exact aj) e he hb;have ur:=c.spec.BN e.on tT.1;have BV:c9 a7 listed (cD e.on):=by unfold c9;rw[ur.2];exact LI
 rcases kl with rfl|kl
 ·exact BV
 ·exact jK _ ur.1 BV q kl
theorem Wy(c:gP P env B f r ops pl a7 cD cK call s S v)(bZ:listed.size=ops.size){p:Nat}(iD:p<ops.size):∀q,c9 a7 listed q→c9 a7 (listed.setIfInBounds (a7 p) true) q:=fun q aI=>by
 unfold c9 at aI ⊢;by_cases h:a7 p=a7 q
 ·rw[←h];simp[oI,bZ,(c.spec.pi p iD).1]
 ·rw[getD_set_ne false h];exact aI
theorem Inv2.next(c:gP P env B f r ops pl a7 cD cK call s S v){x:Nat}{T rE:ad}(inv:Inv2 P env B f ops pl a7 cK s S v ds rc b_ eC dZ listed a w x T m cW){p:Nat}{aL:aQ}(hp:pl[p]? =some aL)(eK:¬c9 a7 listed p)(iU:∀q,cK q p=true→c9 a7 listed q)
  (yF:p=x∧FU rE (S ops.size)∨p≠x∧rE=T) {cq:Act} {ao:World} {aG:Nat→Option Nat} (hx:x<ops.size) (st:eJ P env ⟨m0 cW aL.dst (v p),ds,rc⟩ cq rE ao aG B) (ext:Ext f b_ eC dZ rE ao aG):
  Inv2 P env B f ops pl a7 cK s S v ds rc b_ eC dZ (listed.setIfInBounds (a7 p) true) cq ao x rE aG (m0 cW aL.dst (v p)):=by
 have iD:=c.lt hp;have hs:∀q,q<ops.size→(c9 a7 (listed.setIfInBounds (a7 p) true) q↔c9 a7 listed q∨q=p):=fun q aI=>yE c inv.size iD aI;have jf:=Wy c inv.size iD;refine⟨inv.rB,by simpa using inv.size,fun q aI an y aJ=>?_,fun q dq aI an=>inv.pure q dq aI (fun h=>an (jf q h)),fun an=>?_,fun an=>?_,inv.aW.put c hp eK (fun q dq aI=>hs q (c.lt aI)),st,ext⟩
 ·rcases(hs q aI).1 an with h|rfl
  ·exact jf y (inv.closed q aI h y aJ)
  ·exact jf y (iU y aJ)
 ·rcases yF with⟨_,h⟩|⟨bS,rfl⟩
  ·exact h
  ·exact inv.fin (((hs x hx).1 an).resolve_right (oG bS))
 ·rcases yF with⟨rfl,_⟩|⟨bS,rfl⟩
  ·exact absurd ((hs p iD).2 (.inr rfl)) an
  ·exact inv.rest (fun h=>an (jf x h))
theorem c3V(c:gP P env B f r ops pl a7 cD cK call s S v){k:Nat}{Q:Exit→Act→World→Prop}{x:Nat}{T:ad}(LQ:x<ops.size)(inv:Inv2 P env B f ops pl a7 cK s S v ds rc b_ eC dZ listed a w x T m cW){i:Nat}(hi:i∈Region.ready .any ops listed)
  {K:Act→World→Prop} (cX:∀cq ao mn aG qm,Inv2 P env B f ops pl a7 cK s S v ds rc b_ eC dZ (listed.setIfInBounds i true) cq ao x mn aG qm→K cq ao):wpOpIn (eI r) k P ops Q i K a w:=by
 obtain⟨p,aL,I,kE,iD,rfl,hp,aj,ab,aE,aY,cZ,eK,iU⟩:=c3U c inv.size inv.closed hi;have B4:=Wd c inv.aW hp eK iU inv.closed;have o1:∀o,opx f (evalA env cW) o aL.op=opx f (evalA env (s p)) o aL.op:=fun o=>V9 (Wh B4);have hw:=Wi B4;obtain⟨fm,iS⟩:=Fb ab;rw[←aE] at fm;rw[←aY] at iS;unfold wpOpIn;simp only[aj];rw[E_ ab inv.st.ctx.aW,← cZ];show if wantedA aL.guard cW=true then _ else _
 rw[hw];have qn:∀res,opx f (evalA env cW) T aL.op=some res→cop P I=some aL.op:=fun res dH=>Bs fm.symm (fun hb=>by rw[hb] at dH;simp[opx] at dH);have wv:∀v bk,opx f (evalA env cW) T aL.op=some (.val v bk)→cop P I=some aL.op→∀c,I.op≠ .defer c:=fun v bk hx sQ c an=>by
  obtain⟨ac,bP,h⟩:=Fa an sQ;rw[h] at hx;simp only[opx] at hx;split at hx<;>cases hx
 have val:∀rE,wantedA aL.guard (s p)=true→opx f (evalA env cW) T aL.op=some (.val (v p) rE)→(p=x∧FU rE (S ops.size)∨p≠x∧rE=T)→
   if wantedA aL.guard (s p)=true then I.wpIn (eI r) k P a w K Q else(∀f,I.about P w a.eval=some f→(eI r).fn f)∧K (a.put I.dst undef) w:=fun rE hwt ga yF=>by
  rw[hwt];simp only[if_true];obtain⟨u,bn,bO,bX,b9,mR,c3⟩:=yg inv.st.ctx (qn _ ga) ga;have hs:(I.semAt (eI r).round a.eval)=execOp a.eval I:=sz _ _ _ (wv _ _ ga (qn _ ga));have gN:=(inv.st.ext c3 mR).put aL.dst b9;rw[put_eq] at gN;have g_:=inv.next c hp eK iU yF LQ gN (inv.ext.trans inv.rB c3);rw[iS] at g_;refine⟨fun f _=>trivial,?_⟩;rw[hs];rcases bX with bX|⟨bX,rfl⟩
  ·rw[bX];exact cX _ _ _ _ _ g_
  ·rw[bX];exact cX _ _ _ _ _ g_
 rcases c.hT.step p aL hp with⟨yJ,av,cE⟩|⟨hwt,hx⟩|⟨hwt,bB,args,hx,jK⟩
 ·-- not wanted
  have uv:p≠x:=fun he=>by
   subst he;obtain⟨bq,mn,h1,_,_,h2,_⟩:=inv.rest eK;rw[hp] at h1;cases h1;rw[yJ] at h2;cases h2
  rw[yJ];simp only[oH,if_false];refine⟨fun _ _=>trivial,?_⟩;have gN:=inv.st.put aL.dst (v:=dw) (u:=undef) aq.undef;rw[put_eq,← av] at gN;have g_:=inv.next c hp eK iU (.inr ⟨uv,rfl⟩) LQ gN inv.ext;rw[iS] at g_;exact cX _ _ _ _ _ g_
 ·by_cases uv:p=x
  ·subst uv;obtain⟨bq,mn,h1,_,_,h2,h3,aN⟩:=inv.rest eK;rw[hp] at h1;cases h1;exact val mn hwt (by rw[o1];exact h3) (.inl ⟨rfl,aN⟩)
  ·obtain⟨g1,g2,g3⟩:=(inv.pure p aL hp eK).resolve_left uv;obtain⟨bJ,h1,h2⟩:=FG g1 g2 hx;simp only[bG.val.injEq] at h1;obtain⟨rfl,_⟩:=h1;exact val T hwt (by rw[o1];exact h2 g3 T) (.inr ⟨uv,rfl⟩)
 ·obtain⟨x7,bP,B5,_,_⟩:=ub hx;exfalso;rcases inv.pure p aL hp eK with rfl|⟨g1,_,_⟩
  ·obtain⟨bq,mn,h1,_,h2,_⟩:=inv.rest eK;rw[hp] at h1;cases h1;exact h2 _ _ B5
  ·rw[B5] at g1;cases g1
theorem c3W{j7:aP AV}{wL:ad}(n_:LD P env B f r ops pl a7 cD cK call j7 wL)(c:gP P env B f r ops pl a7 cD cK call s S v)(c1:s 0=j7)(lo:S 0=wL){k:Nat}{Q:Exit→Act→World→Prop}(inv:Inv P env B f ops pl a7 cK s S v ds rc b_ eC dZ listed a w cC m cW){i:Nat}(hi:i∈Region.ready .any ops listed)
  {K:Act→World→Prop} (Wz:∀s S v,Trace env f call pl s S v→s 0=j7→S 0=wL→∀cq ao BW aG qm,Inv P env B f ops pl a7 cK s S v ds rc b_ eC dZ (listed.setIfInBounds i true) cq ao BW aG qm→K cq ao)
  (wM:∀cq ao x T aG qm,x<ops.size→Inv2 P env B f ops pl a7 cK s S v ds rc b_ eC dZ (listed.setIfInBounds i true) cq ao x T aG qm→K cq ao):wpOpIn (eI r) k P ops Q i K a w:=by
 have cX:=Wz s S v c.hT c1 lo;obtain⟨p,aL,I,kE,iD,rfl,hp,aj,ab,aE,aY,cZ,eK,iU⟩:=c3J c inv hi;have B4:=Wd c inv.aW hp eK iU inv.closed;have o1:∀o,opx f (evalA env cW) o aL.op=opx f (evalA env (s p)) o aL.op:=fun o=>V9 (Wh B4);have hw:=Wi B4;obtain⟨fm,iS⟩:=Fb ab;rw[←aE] at fm;rw[←aY] at iS;have h9:aL.op.ft=false→p<cC:=fun he=>by
  rcases inv.uq with h|⟨dI,h1,h2,h3⟩
  ·omega
  ·rcases tY p cC with h|h|h
   ·exact h
   ·subst h;rw[hp] at h1;cases h1;rw[he] at h2;cases h2
   ·rcases c.spec.sM cC p dI h iD h1 h2 with aN|aN
    ·exact absurd (iU cC aN) h3
    ·obtain⟨_,ev,_,_,_,_,_,_,_,g2,_,g4,_⟩:=aN.ops;rw[hp] at g2;cases g2;rw[g4] at he;cases he
 have kT:aL.op.ft=true→p=cC∨BM pl cK cC p:=fun he=>by
  rcases tY p cC with h|h|h
  ·exact absurd (inv.before p aL h hp he) eK
  ·exact .inl h
  ·rcases inv.uq with h1|⟨dI,h1,h2,h3⟩
   ·omega
   ·rcases c.spec.sM cC p dI h iD h1 h2 with aN|aN
    ·exact absurd (iU cC aN) h3
    ·exact .inr aN
 have WA:∀q dq,pl[q]? =some dq→¬c9 a7 (listed.setIfInBounds (a7 p) true) q→¬c9 a7 listed q:=fun q dq aI h h2=>h ((yE c inv.size iD (c.lt aI)).2 (.inl h2));have B6:oa pl s S b_ (c9 a7 (listed.setIfInBounds (a7 p) true)) m cC:=inv.rC.mono WA;unfold wpOpIn;simp only[aj];rw[E_ ab inv.st.ctx.aW,← cZ];show if wantedA aL.guard cW=true then _ else _
 rw[hw];have qn:∀res,opx f (evalA env cW) (S cC) aL.op=some res→cop P I=some aL.op:=fun res dH=>Bs fm.symm (fun hb=>by rw[hb] at dH;simp[opx] at dH);by_cases oc:aL.op.ft=true∧p≠cC
 ·-- pJ second of two d6p,first
  have iV:=(kT oc.1).resolve_left oc.2;rcases inv.uq with h0|⟨bq,rF,c3X,c3Y⟩
  ·have:=iV.FC;omega
  have LR:=c.lt rF;obtain⟨g1,g2,T,mn,g3,g4,g5,g6,g7,g8⟩:=c3N c iV rF hp;have ga:opx f (evalA env cW) (S cC) aL.op=some (.val (v p) T):=by rw[o1];exact g3
  rw[g6];simp only[if_true];obtain⟨u,bn,bO,bX,b9,mR,c3⟩:=yg inv.st.ctx (qn _ ga) ga;have hnd:∀c,I.op≠ .defer c:=fun c an=>by
   obtain⟨ac,bP,h⟩:=Fa an (qn _ ga);rw[h] at ga;simp only[opx] at ga;split at ga<;>cases ga
  have hs:(I.semAt (eI r).round a.eval)=execOp a.eval I:=sz _ _ _ hnd;have gN:=(inv.st.ext c3 mR).put aL.dst b9;rw[put_eq] at gN;have FV:∀q,q<ops.size→(c9 a7 (listed.setIfInBounds (a7 p) true) q↔c9 a7 listed q∨q=p):=fun q aI=>yE c inv.size iD aI;have jf:=Wy c inv.size iD;have c3Z:∀x7 bP,bq.op≠ .call x7 bP:=fun x7 bP hh=>by
   obtain⟨Wp,_,_,_,_,_,_,_,cc,_,bx,_⟩:=iV.ops;rw[rF] at cc;cases cc;rw[bx] at hh;cases hh
  have BG:¬c9 a7 (listed.setIfInBounds (a7 p) true) cC:=fun h=>by
   rcases(FV cC LR).1 h with h|h
   ·exact c3Y h
   ·exact oc.2 h.symm
  have g_:Inv2 P env B f ops pl a7 cK s S v ds rc b_ eC dZ (listed.setIfInBounds (a7 p) true) (a.put aL.dst u) bn cC T bO (m0 cW aL.dst (v p)):=by
   refine⟨inv.rB,by simpa using inv.size,fun q aI an y aJ=>?_,fun q dq aI an=>?_,fun an=>absurd an BG,fun _=>⟨bq,mn,rF,c3X,c3Z,g5,g4,g7,g8⟩,inv.aW.put c hp eK (fun q dq aI=>FV q (c.lt aI)),gN,inv.ext.trans inv.rB c3⟩
   ·rcases(FV q aI).1 an with h|rfl
    ·exact jf y (inv.closed q aI h y aJ)
    ·exact jf y (iU y aJ)
   ·have c4a:=c.lt aI;have au:=iV.last;have nz:=c.spec.len;have d6q:=iV.FC;rcases tY q cC with h|h|h
    ·rcases iV.rest q dq h aI with bH|bH
     ·exact absurd (jf q (iU q bH)) an
     ·exact .inr bH
    ·exact .inl h
    ·have:q=p:=by omega
     exact absurd ((FV q c4a).2 (.inr this)) an
  rw[iS] at g_;refine⟨fun f _=>trivial,?_⟩;rw[hs];rcases bX with bX|⟨bX,rfl⟩
  ·rw[bX];exact wM _ _ _ _ _ _ LR g_
  ·rw[bX];exact wM _ _ _ _ _ _ LR g_
 replace kT:aL.op.ft=true→p=cC:=fun he=>FQ fun h=>oc ⟨he,h⟩;rcases c.hT.step p aL hp with⟨yJ,av,cE⟩|⟨hwt,hx⟩|⟨hwt,bB,args,hx,l,jK,d6r,hall⟩
 ·-- not wanted
  rw[yJ];simp only[oH,if_false];refine⟨fun _ _=>trivial,?_⟩;have gN:=inv.st.put aL.dst (v:=dw) (u:=undef) aq.undef;rw[put_eq,← av,iS] at gN;rw[←iS] at gN;have gN:eJ P env ⟨m0 cW aL.dst (v p),ds,rc⟩ (a.put I.dst undef) (S cC) w m B:=by rw[←iS];exact gN
  by_cases LS:p=cC
  ·subst LS;cases he:aL.op.ft with
   |true=>
    obtain⟨o8,g_⟩:=inv.effect c hp eK iU he rfl (cq:=a.put I.dst undef) (ao:=w) (aG:=m) (by rw[cE];exact gN) (by rw[cE];exact Ext.refl _ _ _ _);exact cX _ _ _ _ _ g_
   |false=>have:=h9 he;omega
  ·exact cX _ _ _ _ _ (inv.calm c hp eK iU LS (by cases he:aL.op.ft with|false=>exact .inl rfl|true=>exact absurd (kT he) LS) gN inv.ext B6)
 ·-- a value
  rw[hwt];simp only[if_true];have wv:∀v o bk,opx f (evalA env cW) o aL.op=some (.val v bk)→cop P I=some aL.op→∀c,I.op≠ .defer c:=fun v o bk hx sQ c an=>by
   obtain⟨ac,bP,h⟩:=Fa an sQ;rw[h] at hx;simp only[opx] at hx;split at hx<;>cases hx
  cases he:aL.op.ft with
  |true=>
   obtain rfl:=kT he;have ga:opx f (evalA env cW) (S p) aL.op=some (.val (v p) (S (p+1))):=by rw[o1];exact hx
   obtain⟨u,bn,bO,bX,b9,mR,c3⟩:=yg inv.st.ctx (qn _ ga) ga;have hs:(I.semAt (eI r).round a.eval)=execOp a.eval I:=sz _ _ _ (wv _ _ _ ga (qn _ ga));have gN:=(inv.st.ext c3 mR).put aL.dst b9;rw[put_eq] at gN;obtain⟨o8,g_⟩:=inv.effect c hp eK iU he rfl gN c3;rw[iS] at g_;refine⟨fun f _=>trivial,?_⟩;rw[hs];rcases bX with bX|⟨bX,rfl⟩
   ·rw[bX];exact cX _ _ _ _ _ g_
   ·rw[bX];exact cX _ _ _ _ _ g_
  |false=>
   have bu:=h9 he;cases ha:aL.op.kA with
   |false=>
    have ga:opx f (evalA env cW) (S cC) aL.op=some (.val (v p) (S cC)):=by
     rw[o1];obtain⟨bJ,h1,h2⟩:=FG he ha hx;simp only[bG.val.injEq] at h1;obtain⟨pX,iW⟩:=h1;subst pX;cases au:aL.op.looks with
     |false=>exact h2 au _
     |true=>
      have yK:cC=ops.size∨∃(dq:aQ),pl[cC]? =some dq∧dq.op.ft=true:=by
       rcases inv.uq with h|⟨dI,h1,h2,_⟩
       ·exact .inl h
       ·exact .inr ⟨dI,h1,h2⟩
      rcases c.spec.iL p aL hp au cC bu yK with h|⟨e,dI,g1,g2,g3,g4,g5⟩|h
      ·obtain⟨b7,h3⟩:=c.steady p aL hp hwt he cC h;obtain⟨v2,aN,_⟩:=FG he ha h3;cases aN;exact h3
      ·exact absurd (inv.closed e (c.lt g1) (inv.before e dI g4 g1 g2) p g5) eK
      ·have nn:=Wx c (cC-(p+1)) (p+1) (by have:=inv.LG;omega) (fun e dI g1 g2 g3=>h e dI g1 (by omega) (by omega));have lI:p+1+(cC-(p+1))=cC:=by omega
       rw[lI] at nn;rw[nn,iW];rw[iW] at hx;exact hx
    obtain⟨u,bn,bO,bX,b9,mR,c3⟩:=yg inv.st.ctx (qn _ ga) ga;have hs:(I.semAt (eI r).round a.eval)=execOp a.eval I:=sz _ _ _ (wv _ _ _ ga (qn _ ga));have gN:=(inv.st.ext c3 mR).put aL.dst b9;rw[put_eq] at gN;have LU:oa pl s S b_ (c9 a7 (listed.setIfInBounds (a7 p) true)) bO cC:=by
     refine⟨fun dU gR h1 h2 h3 aN bH=>?_,B6.lt⟩;obtain⟨qk,sO,ql,sP⟩:=B6.one dU gR h1 h2 h3 aN bH;refine⟨?_,sO,ql,sP⟩;cases hm:bO (S dU).next with
     |none=>rfl
     |some b=>
      rcases c3.new _ _ hm with h|⟨h,_⟩
      ·rw[qk] at h;cases h
      ·omega
    have g_:=inv.calm c hp eK iU (by omega) (.inl he) gN (inv.ext.trans inv.rB c3) LU;rw[iS] at g_;refine⟨fun f _=>trivial,?_⟩;rw[hs];rcases bX with bX|⟨bX,rfl⟩
    ·rw[bX];exact cX _ _ _ _ _ g_
    ·rw[bX];exact cX _ _ _ _ _ g_
   |true=>
    obtain⟨cw,o7,h1,d6s,h2⟩:=V_ ha hx;simp only[bG.val.injEq] at h1;obtain⟨pX,iW⟩:=h1;have qc:∀b7,opx f (evalA env cW) b7 aL.op=some (.val (o7 b7.next) (b7.push cw)):=fun b7=>by rw[o1];exact h2 b7
    have sQ:=qn _ (qc (S cC));obtain⟨u,ao,bE,bX,hh,iP,kk,iQ,kl,hval⟩:=c3D inv.st.ctx sQ ha qc;obtain⟨qk,sO,ql,sP⟩:=inv.rC.one p aL bu hp ha hwt eK;have hg:(S cC).get (S p).next=some cw:=by rw[sP,iW];exact ad.jH cw
    obtain⟨mR,uh,bZ,fU,hold,BR,nV⟩:=inv.st.ctx.rel.Lz ql qk hg hh kl;have hs:(I.semAt (eI r).round a.eval)=execOp a.eval I:=sz _ _ _ (wv _ _ _ (qc (S cC)) sQ);have b9:aq ao (bindM m (S p).next w.heap.size) (a_ (S cC) (bindM m (S p).next w.heap.size)) B (v p) u:=by
     rw[pX];exact hval _ _ _ _ _ (gK _ _ _) nV
    have gN:=(inv.st.mono mR uh bZ fU BR).put aL.dst b9;rw[put_eq] at gN;have LU:oa pl s S b_ (c9 a7 (listed.setIfInBounds (a7 p) true)) (bindM m (S p).next w.heap.size) cC:=by
     refine⟨fun dU gR g1 g2 g3 g4 g5=>?_,B6.lt⟩;obtain⟨i1,i2,i3,i4⟩:=B6.one dU gR g1 g2 g3 g4 g5;refine⟨?_,i2,i3,i4⟩;have yC:=WA dU gR g2 g5;have bS:dU≠p:=fun e=>g5 ((yE c inv.size iD (c.lt g2)).2 (.inr e));rw[iy m _ _ (fun e=>?_)]
     ·exact i1
     ·rcases mF dU p with h|h
      ·have:=inv.rC.lt dU p gR aL h bu g2 hp g3 ha g4 hwt yC eK;omega
      ·have:=inv.rC.lt p dU aL gR (by omega) g1 hp g2 ha g3 hwt g4 eK yC;omega
    have g_:=inv.calm c hp eK iU (by omega) (.inl he) gN (inv.ext.Lz sO qk hh iP kk iQ) LU;rw[iS] at g_;refine⟨fun f _=>trivial,?_⟩;rw[hs,bX];exact cX _ _ _ _ _ g_
 ·-- a call
  rw[hwt];simp only[if_true];obtain⟨x7,bP,B5,_,_⟩:=ub hx;have he:aL.op.ft=true:=by rw[B5];rfl
  obtain rfl:=kT he;have ga:opx f (evalA env cW) (S p) aL.op=some (.call bB args):=by rw[o1];exact hx
  have sQ:=qn _ ga;rw[B5] at sQ ga;obtain⟨bR,fT,h1,nW,has⟩:=ub ga;cases h1;obtain⟨cl,Bu,Bv,mS⟩:=Vd sQ;obtain⟨x,gj,wx⟩:=KW Bv inv.st.ctx nW;have Bw:=A3 inv.st.ctx.rel.wm inv.st.ctx.globs inv.st.ctx.aW mS has;have dH:=c.c3H _ _ _ _ jK (k-1) w m _ _ inv.st.ctx.rel inv.st.ctx.globs wx Bw;refine Vc Bu gj (us:=cl.args.map a.eval) rfl (fun _=>trivial) rfl (by
   have aE:(cl.args.toList.map a.eval).toArray=cl.args.map a.eval:=by apply ky;simp
   rw[aE] at dH;exact dH) (fun aE bn af=>?_)
  obtain⟨ret,bk,e9,bO,h1,h2,h3⟩:=af;obtain⟨qi,hu⟩:=hall _ e9;have hu:ret= .ok qi:=hu;subst hu;obtain⟨kY,lR,bJ,FW,ag,c4b,hS,c4c⟩:=n_.iV s S v c.hT c1 lo p aL bB args l qi bk hp hwt hx jK e9 hall;have es:=(ag 0 (ir _)).1.trans c1;have WB:=(ag 0 (ir _)).2.trans lo;have bR:=n_.FL kY lR bJ FW es WB;have c4d:=inv.switch c ag c4b;subst hS c4c;cases aE with
  |returned u=>
   have gN:=(inv.st.ext h3 h2).put aL.dst h1;rw[put_eq] at gN;obtain⟨o8,g_⟩:=c4d.effect bR hp eK iU he rfl gN (by rw[(ag p (bK _)).2];exact h3);rw[iS] at g_;exact Wz kY lR bJ FW es WB _ _ _ _ _ g_
  |panicked mh=>exact h1.elim
  |outgrown=>exact h1.elim
theorem WC(c:gP P env B f r ops pl a7 cD cK call s S v)(bZ:listed.size=ops.size)(af:Region.ready .any ops listed=[]):∀p,p<ops.size→c9 a7 listed p:=by
 intro p
 induction p using Nat.strongRecOn with
 |_ p ay=>
  intro hp;refine FQ fun eK=>?_;have BQ:=c.spec.pi p hp;have:a7 p∈Region.ready .any ops listed:=by
   refine mem_ready.2 ⟨?_,ops[a7 p],l_ BQ.1,fun e he hb=>?_⟩
   ·unfold c9 at eK;have bu:a7 p<listed.size:=by rw[bZ];exact BQ.1
    simp[oI,bu] at eK ⊢;exact eK
   ·have tT:=c.spec.back p hp _ (l_ BQ.1) e he hb;have ur:=c.spec.BN e.on tT.1;have:=ay (cD e.on) tT.2 ur.1;unfold c9 at this;rw[ur.2] at this;exact this
  rw[af] at this;cases this
theorem WD(c:gP P env B f r ops pl a7 cD cK call s S v)(hall:∀p,p<ops.size→c9 a7 listed p)(eB:um pl v (s 0) (c9 a7 listed) cW):∀t,cW.get t=(s ops.size).get t:=by
 have ab:=LF c ops.size (bK _);intro t;by_cases hex:∃(q:Nat) (dq:aQ),pl[q]? =some dq∧dq.dst=some t
 ·obtain⟨q,dq,h1,h2⟩:=hex;by_cases bu:((s 0).get t).isSome=true
  ·rw[eB.jP q dq t h1 (hall q (c.lt h1)) h2 bu,ab.jP q dq t h1 (c.lt h1) h2 bu]
  ·have aE:=eB.eP t;have aY:=ab.eP t;cases hg:(s 0).get t with
   |some y=>rw[hg] at bu;exact absurd rfl bu
   |none=>
    rw[hg] at aE aY;cases ru:cW.get t with
    |some y=>rw[ru] at aE;cases aE
    |none=>
     cases EV:(s ops.size).get t with
     |some y=>rw[EV] at aY;cases aY
     |none=>rfl
 ·rw[eB.uo t (fun q dq h1 _ h2=>hex ⟨q,dq,h1,h2⟩),ab.uo t (fun q dq h1 _ h2=>hex ⟨q,dq,h1,h2⟩)]
theorem WE(c:gP P env B f r ops pl a7 cD cK call s S v)(inv:Inv P env B f ops pl a7 cK s S v ds rc b_ eC dZ listed a w cC m cW)(af:Region.ready .any ops listed=[]):
  eJ P env ⟨s ops.size,ds,rc⟩ a (S ops.size) w m B∧Ext f b_ eC dZ (S ops.size) w m:=by
 have hall:=WC c inv.size af;have aI:cC=ops.size:=by
  rcases inv.uq with h|⟨dI,h1,_,h3⟩
  ·exact h
  ·exact absurd (hall cC (c.lt h1)) h3
 subst aI;have p7:=WD c hall inv.aW;have eB:=inv.st.ctx.aW;refine⟨⟨⟨inv.st.ctx.rel,⟨fun i x hi=>eB.1 i x (by rw[p7 i];exact hi),fun i hi=>eB.2 i (by rw[p7 i];exact hi)⟩,inv.st.ctx.globs⟩,inv.st.defs⟩,inv.ext⟩
theorem WG(c:gP P env B f r ops pl a7 cD cK call s S v){x:Nat}{T:ad}(hx:x<ops.size)(inv:Inv2 P env B f ops pl a7 cK s S v ds rc b_ eC dZ listed a w x T m cW)(af:Region.ready .any ops listed=[]):
  eJ P env ⟨s ops.size,ds,rc⟩ a (S ops.size) w m B∧Ext f b_ eC dZ (S ops.size) w m:=by
 have hall:=WC c inv.size af;obtain⟨aE,aY⟩:=inv.fin (hall x hx);have p7:=WD c hall inv.aW;have eB:=inv.st.ctx.aW;have st:eJ P env ⟨s ops.size,ds,rc⟩ a T w m B:=⟨⟨inv.st.ctx.rel,⟨fun i x hi=>eB.1 i x (by rw[p7 i];exact hi),fun i hi=>eB.2 i (by rw[p7 i];exact hi)⟩,inv.st.ctx.globs⟩,inv.st.defs⟩
 exact⟨st.congr aE aY,inv.ext.congr aE aY⟩
theorem count_set{l:Array Bool}{i:Nat}(h:l.getD i true=false):(l.setIfInBounds i true).toList.count false+1=l.toList.count false:=by
 have bu:i<l.size:=by
  rcases mF i l.size with h1|h1
  ·exact h1
  ·simp[oI,xF h1] at h
 have av:l[i]=false:=by simpa [oI,bu] using h
 rw[UX,List.count_set (by simpa using bu)];have Bd:0<l.toList.count false:=List.count_pos_iff.2 (by rw[←av];simp);have vY:(l.toList[i]'(by simpa using bu))=false:=by simpa using av
 rw[vY];have aE:(if(false==false)=true then 1 else 0)=1:=rfl;have aY:(if(true==false)=true then 1 else 0)=0:=rfl;rw[aE,aY];omega
theorem WH(c:gP P env B f r ops pl a7 cD cK call s S v){k:Nat}{Q:Exit→Act→World→Prop}(c0:∀cq ao aG,eJ P env ⟨s ops.size,ds,rc⟩ cq (S ops.size) ao aG B→Ext f b_ eC dZ (S ops.size) ao aG→Q .normal cq ao){x:Nat}(hx:x<ops.size):
  ∀(fuel:Nat) (listed:Array Bool) (a:Act) (w:World) (T:ad) (m:Nat→Option Nat) (cW:aP AV),Inv2 P env B f ops pl a7 cK s S v ds rc b_ eC dZ listed a w x T m cW→listed.toList.count false≤fuel→wpAnyIn (eI r) k P .any ops Q fuel listed a w
 |0,listed,a,w,T,m,cW,inv,hf=>by
  have af:Region.ready .any ops listed=[]:=by
   refine Wt.2 fun i hi=>?_;have:=count_set (mem_ready.1 hi).1;omega
  obtain⟨h1,h2⟩:=WG c hx inv af;exact⟨af,c0 _ _ _ h1 h2⟩
 |fuel+1,listed,a,w,T,m,cW,inv,hf=>by
  refine⟨fun af=>?_,fun i hi=>?_⟩
  ·obtain⟨h1,h2⟩:=WG c hx inv af;exact c0 _ _ _ h1 h2
  ·have c4e:=count_set (mem_ready.1 hi).1;exact c3V c hx inv hi (fun cq ao mn aG qm g_=>WH c c0 hx fuel _ cq ao mn aG qm g_ (by omega))
theorem WI{j7:aP AV}{wL:ad}(n_:LD P env B f r ops pl a7 cD cK call j7 wL){k:Nat}{Q:Exit→Act→World→Prop}(c0:∀s S v,Trace env f call pl s S v→s 0=j7→S 0=wL→∀cq ao aG,eJ P env ⟨s ops.size,ds,rc⟩ cq (S ops.size) ao aG B→Ext f b_ eC dZ (S ops.size) ao aG→Q .normal cq ao):
  ∀(fuel:Nat) (s:Nat→aP AV) (S:Nat→ad) (v:Nat→AV),Trace env f call pl s S v→s 0=j7→S 0=wL→∀(listed:Array Bool) (a:Act) (w:World) (cC:Nat) (m:Nat→Option Nat) (cW:aP AV),Inv P env B f ops pl a7 cK s S v ds rc b_ eC dZ listed a w cC m cW→listed.toList.count false≤fuel→wpAnyIn (eI r) k P .any ops Q fuel listed a w
 |0,s,S,v,hT,c1,lo,listed,a,w,cC,m,cW,inv,hf=>by
  have af:Region.ready .any ops listed=[]:=by
   refine Wt.2 fun i hi=>?_;have:=count_set (mem_ready.1 hi).1;omega
  obtain⟨h1,h2⟩:=WE (n_.FL s S v hT c1 lo) inv af;exact⟨af,c0 s S v hT c1 lo _ _ _ h1 h2⟩
 |fuel+1,s,S,v,hT,c1,lo,listed,a,w,cC,m,cW,inv,hf=>by
  have c:=n_.FL s S v hT c1 lo;refine⟨fun af=>?_,fun i hi=>?_⟩
  ·obtain⟨h1,h2⟩:=WE c inv af;exact c0 s S v hT c1 lo _ _ _ h1 h2
  ·have c4e:=count_set (mem_ready.1 hi).1;exact c3W n_ c c1 lo inv hi (fun kY lR bJ FW b4 c4f cq ao BW aG qm g_=>WI n_ c0 fuel kY lR bJ FW b4 c4f _ cq ao BW aG qm g_ (by omega))
    (fun cq ao x T aG qm hx g_=>WH c (c0 s S v hT c1 lo) hx fuel _ cq ao T aG qm g_ (by omega))
end
section
variable {P:Program}{env:Env}{B:Nat}
theorem c4g{ae:Fr}{a:Act}{o:ad}{w:World}{m:Nat→Option Nat}(st:eJ P env ae a o w m B)(f n:Nat):eJ P env ae a o {w with drawn:=n} m B∧Ext f o w m o {w with drawn:=n} m:=by
 have af:=st.ctx.rel;have ax:∀ar,ar<w.heap.size→¬a_ o m ar→w.heap[ar]? =w.heap[ar]? ∧¬a_ o m ar:=fun _ _ h=>⟨rfl,h⟩
 refine⟨st.mono ⟨af.len,af.eP,fun id ar I h1 h2 h3=>?_,af.inj,af.base,af.fy⟩ (fun _ _ h=>h) (bK _) (fun _ _ h=>h) ax,
  ⟨fun _ _ h=>h,fun _ _ h=>.inl h,bK _,bK _,fun _ _ h=>h,fun _ _ _=>rfl,fun _ _ _=>rfl,fun _ _ h=>h,rfl,rfl,rfl,fun _ _ _=>rfl⟩⟩
 obtain⟨bE,aN,bH⟩:=af.obj id ar I h1 h2 h3;exact⟨bE,aN,kS.mono (w:=w) (ao:={w with drawn:=n}) (fun _ _ h=>h) (bK _) (fun _ _ h=>h) ax bH⟩
theorem c4h{f:Nat}{call:ki}{pl:List aQ}{s:Nat→aP AV}{S:Nat→ad}{v:Nat→AV}{cK:Nat→Nat→Bool}{al:aP AV}(hT:Trace env f call pl s S v)(he:s pl.length=al)(h:swapOk env al pl=true){p q:Nat}(iV:BM pl cK p q)
  {bq ev:aQ} {s1 s2:Option Nat} {a6 dK a2 ib:az} (rF:pl[p]? =some bq) (B7:pl[q]? =some ev) (hx:bq.op= .store s1 a6 dK) (aJ:ev.op= .store s2 a2 ib):∃i yA j yB,evalA env (s p) a6=some (.p (some (i,yA)))∧evalA env (s q) a2=some (.p (some (j,yB)))∧i≠j:=by
 have h9:=iV.FC;have au:=iV.last;obtain⟨Wp,c3O,_,_,_,_,_,_,cc,cJ,_,_,h_,o9,_,_,c4i⟩:=iV.ops;rw[rF] at cc;cases cc;rw[B7] at cJ;cases cJ;have aE:s q=s p:=by rw[←h9,hT.put p bq rF,h_];rfl
 have aY:s pl.length=s q:=by rw[←au,hT.put q ev B7,o9];rfl
 have c4j:∃t,pl.reverse=ev::bq::t:=by
  have g1:pl.reverse[0]? =some ev:=by rw[Wu (by omega),← B7];congr 1;omega
  have g2:pl.reverse[1]? =some bq:=by rw[Wu (by omega),← rF];congr 1;omega
  match pl.reverse,g1,g2 with
  |a::b::t,g1,g2=>simp at g1 g2;exact⟨t,by rw[g1,g2]⟩
 obtain⟨t,ht⟩:=c4j;unfold swapOk at h;rw[ht] at h;simp only at h;split at h
 ·rename_i hw;exact absurd hw c4i
 ·rw[aJ,hx] at h;simp only at h;rw[←he,aY,aE] at h;rw[aE];split at h
  ·rename_i i yA j yB g1 g2;refine⟨i,yA,j,yB,g1,g2,fun wF=>?_⟩;subst wF;rw[fR] at h;cases h
  ·cases h
theorem c4k{run:iM}(lp:P.follows .mixedOrders=true)(mQ:∀f r,Br P env B f r (callV env run f)):Vi P env B run:=by
 intro floor pl ae o L bX c4l k r id ops a w m K3 st Q c0;obtain⟨a7,cD,cK,spec⟩:=c3o K3;have n_:LD P env B floor r ops pl a7 cD cK (callV env run floor) ae.aW o:=by
  refine⟨fun s S v hT h1 h2=>?_,fun s S v hT h1 h2=>Wb _ _ _ _ _ bX hT h1 h2⟩;obtain⟨x,LV,to⟩:=LC _ _ _ _ _ bX hT h1 h2;obtain⟨df,c4m⟩:=c4l x LV;refine⟨spec,mQ floor r,hT,fun p aL hp hw he q aI=>?_,fun p q iV bq ev s1 a6 dK s2 a2 ib rF B7 hx aJ=>c4h hT to.al c4m iV rF B7 hx aJ⟩;have e9:=to.yz p aL hp hw he (fun h=>by rw[h] at aI;cases aI);rw[fI] at df;have h1:=df _ e9;unfold steady at h1;have h2:=jt h1 q aI;simp only[to.bh,List.reverse_nil,wi,Ey,uc] at h2;split at h2
  ·rename_i d6t WJ;simp only[j3,eu] at WJ;obtain⟨o8,yL,rfl⟩:=WJ;obtain rfl:q=o8:=by
    have:=List.getElem?_range (i:=q) (n:=pl.length+1) (by have:=(mG.1 yL).1;simpa using this);rw[this] at yL;cases yL;rfl
   split at h2
   ·rename_i v1 bk hx;rw[AV.sJ _ _ _ h2] at hx;exact⟨bk,hx⟩
   ·cases h2
  ·cases h2
 obtain⟨s,S,v,hT,aE,aY⟩:=LB _ _ _ _ _ bX;have c:=n_.FL s S v hT aE aY;refine wpIn_region_any lp ?_;obtain⟨gN,c4n⟩:=c4g st floor (w.drawn+1);have bl:ae=⟨s 0,ae.defers,ae.eZ⟩:=by rw[aE]
 obtain⟨q,h1,h2,h3,aN⟩:=LH c ops.size 0 (by omega);have gb:∀p,¬c9 a7 (Array.replicate ops.size false) p:=fun p h=>by
  unfold c9 at h;simp only[oI] at h;rw[Array.getElem?_replicate] at h;split at h<;>simp at h
 have c4o:oa pl s S o (c9 a7 (Array.replicate ops.size false)) m 0:=⟨fun p aL h=>by omega,fun p dU aL gR h h'=>by omega⟩
 obtain⟨BX,BY,BZ⟩:=advance c (D:=c9 a7 (Array.replicate ops.size false)) q 0 (by omega) (fun p aL bH de fV=>aN p aL bH (by omega) fV) (by rw[aY];exact gN) (by rw[aY];exact c4n) c4o;rw[rD] at BX BY BZ;refine WI (b_:=o) (eC:=w) (dZ:=m) (ds:=ae.defers) (rc:=ae.eZ) n_ (fun s S v hT aE aY cq ao aG g1 g2=>?_) ops.size s S v hT aE aY _ a _ q m (s 0) ⟨st.ctx.rel,by simp,fun p hp an=>absurd an (gb p),h2,?_,fun e dI bH de fV=>?_,fun e dI _ _ _ h=>gb e h,⟨fun _=>rfl,fun p aL t hp an=>absurd an (gb p),fun t _=>rfl⟩,by rw[←bl];exact BX,BY,BZ⟩ (by simp)
 ·obtain⟨x,LV,to⟩:=LC _ _ _ _ _ bX hT aE aY;rw[←spec.len,to.st] at g1 g2;rw[to.al] at g1;refine c0 x LV cq ao aG ?_ g2;have:x.1=⟨x.1.aW,ae.defers,ae.eZ⟩:=by rw[←to.n_,← to.rc]
  rw[this];exact g1
 ·rcases h3 with h|⟨dI,bH,de⟩
  ·exact .inl h
  ·exact .inr ⟨dI,bH,de,gb q⟩
 ·have:=aN e dI (by omega) bH de;rw[this] at fV;cases fV
end
section
variable {P:Program}{env:Env}{B:Nat}
theorem LW(gw:qd P env)(dS:yq P env B)(hex:uf P env)(lp:P.follows .mixedOrders=true):∀n,o2 P env B (exec env n)
 |0=>o2.zero
 |n+1=>by
  have ay:=LW gw dS hex lp n;rw[mj];exact c1Y ay (fun f r=>VR gw dS hex ay f r) (c4k lp (fun f r=>VR gw dS hex ay f r)) (c3g gw dS ay)
def j8(n:Nat):AV→Bool:=
 Nat.rec (motive:=fun _=>AV→Bool) (fun _=>false) (fun _ ay v=>
  match v with
  | .cG I v=>!I&&cV ay v.cells
  | .aD I _ xs=>(!I||xs.isEmpty)&&cV (fun x=>cV ay x.cells) xs
  | .it _ v=>ay v
  | .ag l=>cV ay l
  | .aK l=>cV ay l
  | .f _ x y=>cV ay x&&cV ay y
  | .eN I _=>!I
  | .jl _ _ _=>false
  |_=>true) n
theorem LX(n:Nat)(v:AV):j8 (n+1) v=match v with
  | .cG I v=>!I&&cV (j8 n) v.cells
  | .aD I _ xs=>(!I||xs.isEmpty)&&cV (fun x=>cV (j8 n) x.cells) xs
  | .it _ v=>j8 n v
  | .ag l=>cV (j8 n) l
  | .aK l=>cV (j8 n) l
  | .f _ x y=>cV (j8 n) x&&cV (j8 n) y
  | .eN I _=>!I
  | .jl _ _ _=>false
  |_=>true:=rfl
theorem WK{w:World}{O:Nat→Prop}:∀(n:Nat) (v:AV) (u:Value),j8 n v=true→aq w (fun _=>none) O B v u→aq w (fun _=>none) (fun b=>b<B) B v u
 |0,_,_,h,_=>by cases h
 |n+1,v,u,h,b9=>by
  have ay:=WK (w:=w) (O:=O) n;rw[LX] at h;cases b9 with
  |b x=>exact .b x
  |i k n=>exact .i k n
  |s l hs=>exact .s l hs
  |oN=>exact .oN
  |p hm=>simp at hm
  |cG aZ cY hb fc ab af hf=>
   simp only[bT,se] at h;exact .cG aZ (fun bu=>by have:=fc h.1;omega) hb fc ab (fun j aB=>ay _ _ (jt h.2 _ (cB aB)) (af j aB)) hf
  |J=>exact .J
  |al hm=>simp at hm
  |kR=>exact .kR
  |aD aZ cY hs ab af au hf dS=>
   simp only[bT,kO,se,List.isEmpty_iff] at h;refine .aD aZ (fun bS=>?_) hs ab (fun i hi j aB=>ay _ _ (jt (jt h.2 _ (cB hi)) _ (cB aB)) (af i hi j aB)) au hf dS;have h1:=h.1.resolve_right bS;exact⟨fun bu=>by have:=(cY bS).2.2 h1;omega,(cY bS).2.1,(cY bS).2.2⟩
  |pQ=>exact .pQ
  |mp hm=>simp at hm
  |ni hf bl ab q8=>
   simp only[bT] at h;exact .ni hf (fun i a b=>ay _ _ (jt h.1 _ (cB a)) (bl i a b)) ab (fun i a b=>ay _ _ (jt h.2 _ (cB a)) (q8 i a b))
  |sk hm=>simp at hm
  |iK=>exact .iK
  |it av=>exact .it (ay _ _ h av)
  |fb=>exact .fb
  |ag hs af hf=>exact .ag hs (fun i a b=>ay _ _ (jt h _ (cB a)) (af i a b)) hf
  |aK hs af=>exact .aK hs (fun i a b=>ay _ _ (jt h _ (cB a)) (af i a b))
  |hq hu hn=>exact .hq hu hn
  |fY hs=>exact .fY hs
  |iu n hn=>exact .iu n hn
  |y hs=>exact .y hs
  |eN hu hs=>
   simp only[se] at h;subst h;exact .eN hu (TokOk.fresh hs)
  |gH k ax=>exact .gH k ax
  |iv k h1 h2=>exact .iv k h1 h2
  |jl=>cases h
def SpecEntry(P:Program)(env:Env)(cM g:Nat)(aO:List AV)(r:AV):Prop:=
 (∃fn c,P.funcs[g]? =some fn∧fn.body=some c∧(fn.name== "runtime.NumGoroutine")=false)∧
  ∀k rd w us,cM≤w.heap.size→Globs env w cM→bm w (fun _=>none) (fun _=>False) w.heap.size aO us.toList→
   CallsIn (eI rd) k P g us w (fun e bn=>∃u,e= .returned u∧aq bn (fun _=>none) (fun b=>b<w.heap.size) w.heap.size r u∧w.heap.size≤bn.heap.size∧(∀b,b<w.heap.size→bn.heap[b]? =w.heap[b]?)∧bn.os=w.os∧bn.tape=w.tape∧bn.output=w.output)
def B8(P:Program)(env:Env):Prop:=∀cM,yq P env cM
theorem WL(w:World):Rel P ⟨.nil,0⟩ w (fun _=>none) w.heap.size:=
 ⟨trivial,fun _ _ h=>by simp at h,fun _ _ _ h=>by simp at h,fun _ _ _ h=>by simp at h,fun _ _ h=>by simp at h,bK _⟩
theorem WM(ar:Nat):¬a_ ⟨.nil,0⟩ (fun _=>none) ar:=fun⟨_,h,_⟩=>by simp at h
theorem WN(gw:qd P env)(dS:B8 P env)(hex:uf P env)(lp:P.follows .mixedOrders=true){n g:Nat}{aO:List AV}{r:AV}{l:List (c6×ad)}(h:runF env (exec env n) 0 g aO ⟨.nil,0⟩=some l){aT fn:Nat}(bw:joinF aT 0 l=some r)(bl:j8 fn r=true)(cM:Nat):
  SpecEntry P env cM g aO r:=by
 refine⟨?_,fun k rd w us fc eS ha=>?_⟩
 ·unfold runF at h;cases hg:env.funcs g with
  |none=>simp[hg] at h
  |some cA=>
   obtain⟨fn,h1,h2,h3⟩:=gw.funcs g cA hg;obtain⟨_,c,_,_,aN,_⟩:=Fc h2;exact⟨fn,c,h1,aN,h3⟩
 ·have LY:Globs env w w.heap.size:=fun g v hg dp=>(eS g v hg dp).mono (fun _ _ h=>h) (bK _) (fun _ _ h=>h) (fun b _ hb=>⟨rfl,fun aj=>hb (jk fc aj)⟩);have bX:=LW gw (dS w.heap.size) hex lp n;have nu:=WL (P:=P) w;have wy:bm w (fun _=>none) (a_ ⟨.nil,0⟩ (fun _=>none)) w.heap.size aO us.toList:=ha.mono (fun _ _ h=>h) (bK _) (fun _ _ h=>h) (fun b _ _=>⟨rfl,WM b⟩);obtain⟨_,ab⟩:=Fe gw bX (Fh gw 0) h k rd nu LY wy;refine wh ab (fun e bn dH=>?_);obtain⟨ret,ah,e9,bO,iB,iR,fg⟩:=dH;obtain⟨v,rfl,hP⟩:=VL bw _ _ e9;cases e with
  |returned u=>
   have c4p:Ext (⟨.nil,0⟩:ad).next ⟨.nil,0⟩ w (fun _=>none) ah bn bO:=fg;have b9:=K8 nu iR c4p aT v r u hP iB;exact⟨u,rfl,WK fn r u bl b9,fg.size,fun b hb=>fg.ee b hb (fun⟨_,_,h,_⟩=>by simp at h),fg.os,fg.tape,fg.out⟩
  |panicked mh=>exact iB.elim
  |outgrown=>exact iB.elim
end
def B9(ic:List (Nat×List AV×AV))(g:Nat)(aO:List AV):Option AV:=
 List.rec none (fun e _ ay=>cond (Nat.beq e.1 g) (cond (fD (AV.eqb 1000) aO e.2.1) (some e.2.2) ay) ay) ic
theorem c4q(e:Nat×List AV×AV)(ic:List (Nat×List AV×AV))(g:Nat)(aO:List AV):B9 (e::ic) g aO=cond (Nat.beq e.1 g) (cond (fD (AV.eqb 1000) aO e.2.1) (some e.2.2) (B9 ic g aO)) (B9 ic g aO):=rfl
theorem LZ{g:Nat}{aO:List AV}{r:AV}:∀ {ic:List (Nat×List AV×AV)},B9 ic g aO=some r→(g,aO,r)∈ic
 |[],h=>by cases h
 |e::ic,h=>by
  rw[c4q] at h;cases h1:Nat.beq e.1 g with
  |false=>rw[h1,cond_false] at h;exact e_ _ (LZ h)
  |true=>
   rw[h1,cond_true] at h;cases h2:fD (AV.eqb 1000) aO e.2.1 with
   |false=>rw[h2,cond_false] at h;exact e_ _ (LZ h)
   |true=>
    rw[h2,cond_true] at h;cases h;have aE:=eM h1;have aY:=ys (AV.sJ 1000) _ _ h2;subst aE;subst aY;exact iq
structure o_ where
 get:Nat→Option bV
def o_.L0(p:Nat→bV→Prop)(t:o_):Prop:=∀g cA,t.get g=some cA→p g cA
theorem o_.yM{p:Nat→bV→Prop}{t:o_}(h:t.L0 p):∀g cA,t.get g=some cA→p g cA:=h
structure cv where
 funcs:o_
 jm:Nat→Option AV
 pure:Nat→Bool
 aT:Nat
 ext:Nat→Nat
 lE:Nat→List AV→Option (AV×List AO):=fun _ _=>none
def cv.env(b:cv)(ic:List (Nat×List AV×AV)):Env:={funcs:=b.funcs.get,jm:=b.jm,pure:=b.pure,spec:=B9 ic,aT:=b.aT+1000,ext:=b.ext,lE:=b.lE}
def WO(P:Program)(g:Nat)(cA:bV):Prop:=∃fn,P.funcs[g]? =some fn∧cfunc P fn=some cA∧(fn.name== "runtime.NumGoroutine")=false
structure iE(P:Program)(b:cv):Prop where
 funcs:b.funcs.L0 (WO P)
 ext:uf P (b.env [])
 rG:P.follows .mixedOrders=true
def runsTo(b:cv)(ic:List (Nat×List AV×AV))(n:Nat)(e:Nat×List AV×AV):Bool:=
 match TB (b.env ic) n e.1 e.2.1 with
 |some v=>AV.eqb 1000 v e.2.2&&j8 1000 e.2.2
 |none=>false
section
variable {P:Program}{b:cv}{ic:List (Nat×List AV×AV)}
def sR(P:Program)(b:cv)(ic:List (Nat×List AV×AV)):Prop:=∀e∈ic,∀cM,SpecEntry P (b.env []) cM e.1 e.2.1 e.2.2
theorem sR.WQ(h:sR P b ic):B8 P (b.env ic):=fun cM g aO r hs=>h _ (LZ hs) cM
theorem sR.entry(hb:iE P b)(h:sR P b ic){n:Nat}{e:Nat×List AV×AV}(af:runsTo b ic n e=true)(cM:Nat):SpecEntry P (b.env []) cM e.1 e.2.1 e.2.2:=by
 unfold runsTo TB at af;split at af
 ·rename_i v av;split at av<;>try (cases av;done)
  rename_i l bX;simp only[bT] at af;rw[AV.sJ _ _ _ af.1] at av;exact WN (env:=b.env ic) ⟨fun g cA hg=>o_.yM hb.funcs g cA hg⟩ h.WQ hb.ext hb.rG bX av af.2 cM
 ·cases af
end
theorem c4r(c x:Nat)(l:List Nat)(k:Nat):xN c (x::l) k=cond (Nat.beq x c) (Int.ofNat k) (xN c l (k+1)):=rfl
theorem WR{a b:Nat}(ha:a<256)(hb:b<256):(a.toUInt8==b.toUInt8)=Nat.beq a b:=by
 rw[hD,lC,beq_iff_eq];constructor
 ·intro h;have:=congrArg UInt8.toNat h;simp at this;omega
 ·intro h;rw[h]
theorem WS{c:Nat}(ab:c<256):∀(l:List Nat) (k:Nat),(∀x∈l,x<256)→xN c l k=if Lib.indexByte (l.map Nat.toUInt8) c.toUInt8= -1 then-1 else Lib.indexByte (l.map Nat.toUInt8) c.toUInt8+k
 |[],k,_=>rfl
 |x::l,k,h=>by
  have hx:x<256:=h x (by simp);have ay:=WS ab l (k+1) (fun y aJ=>h y (by simp[aJ]));have jd:=Lib.indexByte_ge (l.map Nat.toUInt8) c.toUInt8;rw[c4r,ay,k9];simp only[Lib.indexByte,WR hx ab];cases hb:Nat.beq x c with
  |true=>simp
  |false=>
   simp only[cond_false,oH,if_false];by_cases h1:Lib.indexByte (l.map Nat.toUInt8) c.toUInt8= -1
   ·simp[h1]
   ·have h2:(Lib.indexByte (l.map Nat.toUInt8) c.toUInt8== -1)=false:=by simpa using h1
    rw[h2];simp only[h1,if_false,oH];rw[if_neg (by omega)];omega
theorem c4s(x:Nat)(l:List Nat)(y:Nat)(r:List Nat):fS (x::l) (y::r)=cond (Nat.blt x y) true (cond (Nat.beq x y) (fS l r) false):=rfl
theorem c4t(x:Nat)(l:List Nat)(y:Nat)(r:List Nat):eqL (x::l) (y::r)=cond (Nat.beq x y) (eqL l r) false:=rfl
theorem cmp_eq:∀(a b:List Nat),(∀x∈a,x<256)→(∀x∈b,x<256)→Lib.compareBytes (a.map Nat.toUInt8) (b.map Nat.toUInt8)=cond (fS a b) (-1) (cond (eqL a b) 0 1)
 |[],[],_,_=>rfl
 |[],_::_,_,_=>rfl
 |_::_,[],_,_=>rfl
 |x::a,y::b,ha,hb=>by
  have hx:x<256:=ha x (by simp);have aJ:y<256:=hb y (by simp);have ay:=cmp_eq a b (fun z bw=>ha z (by simp[bw])) (fun z bw=>hb z (by simp[bw]));have WT:∀ {p q:Nat},p<256→q<256→(p.toUInt8<q.toUInt8↔p<q):=fun hp aI=>by
   rw[JD];simp;omega
  simp only[k9,Lib.compareBytes,c4s,c4t,WT hx aJ,WT aJ hx];rcases tY x y with h|h|h
  ·have:Nat.blt x y=true:=(sN.2 h)
   simp[h,this]
  ·subst h;have h1:Nat.blt x x=false:=by cases h:Nat.blt x x with|false=>rfl|true=>exact absurd ((sN.1 h)) (Nat.lt_irrefl x)
   simp[h1,ay]
  ·have h1:Nat.blt x y=false:=by cases h':Nat.blt x y with|false=>rfl|true=>have:=(sN.1 h');omega
   have h2:Nat.beq x y=false:=by cases h':Nat.beq x y with|false=>rfl|true=>have:=eM h';omega
   have h3:¬x<y:=by omega
   simp[h,h1,h2,h3]
section
variable {P:Program}{g:Nat}{fn:Func}
theorem L1{w:World}{m:Nat→Option Nat}{O:Nat→Prop}{B:Nat}{x y:AV}{l:List Value}(h:bm w m O B [x,y] l):∃u v,l=[u,v]∧aq w m O B x u∧aq w m O B y v:=by
 obtain⟨h1,h2⟩:=h
 match l,h1,h2 with
 |[u,v],_,h2=>exact⟨u,v,rfl,h2 0 (by simp) (by simp),h2 1 (by simp) (by simp)⟩
theorem c4u(hf:P.funcs[g]? =some fn)(sH:(fn.name== "runtime.NumGoroutine")=false)(hb:fn.body.isNone=true)(hn:Extern.findNext fn=none)(he:Extern.find fn=some Extern.BytealgIndexByte.indexByte)
  (args:List AV) (v:AV) (h:extRow 1 args=some v) (w:World) (m:Nat→Option Nat) (O:Nat→Prop) (B:Nat) (us cs:Array Value) (ha:bm w m O B args (us++cs).toList):∃u,(invoke (.fn (.func g) cs) us).run P w= .ok (.value u) w∧aq w m O B v u:=by
 have key:∃l c,args=[.s l,.i .u8 (Int.ofNat c)]∧c<256∧v= .i .i64 (xN c l 0):=by
  unfold extRow at h;split at h
  ·rename_i l c _;cases ab:Nat.blt c 256 with
   |false=>rw[ab] at h;cases h
   |true=>rw[ab,cond_true] at h;cases h;exact⟨l,c,rfl,(sN.1 ab),rfl⟩
  ·rename_i h1;exact absurd h1 (by decide)
  ·rename_i h1;exact absurd h1 (by decide)
  ·cases h
 obtain⟨l,c,rfl,ab,rfl⟩:=key;obtain⟨qi,wN,au,h1,h2⟩:=L1 ha;have hQ:us++cs= #[qi,wN]:=by apply ky;simpa using au
 cases h1 with
 |s _ bu=>
  cases h2 with
  |i _ _=>
   refine⟨.int .i64 (xN c l 0),?_,.i _ _⟩;show(callFunc g (us++cs)).run P w=_;rw[run_callFunc_extern hf sH hb hn he,hQ,Lib.run_indexByteString];have aE:(strOf l).data.toList=l.map Nat.toUInt8:=by simp[strOf]
   have aY:(Int.ofNat c).toNat=c:=rfl;rw[aE,aY,WS ab l 0 bu];simp only[ez];split
   ·rename_i h;rw[h]
   ·simp
theorem c4v(hf:P.funcs[g]? =some fn)(sH:(fn.name== "runtime.NumGoroutine")=false)(hb:fn.body.isNone=true)(hn:Extern.findNext fn=none)(he:Extern.find fn=some Extern.BytealgCompare.compare)
  (args:List AV) (v:AV) (h:extRow 2 args=some v) (w:World) (m:Nat→Option Nat) (O:Nat→Prop) (B:Nat) (us cs:Array Value) (ha:bm w m O B args (us++cs).toList):∃u,(invoke (.fn (.func g) cs) us).run P w= .ok (.value u) w∧aq w m O B v u:=by
 have key:∃a b,args=[.s a,.s b]∧v= .i .i64 (cond (fS a b) (-1) (cond (eqL a b) 0 1)):=by
  unfold extRow at h;split at h
  ·rename_i h1;exact absurd h1 (by decide)
  ·cases h;exact⟨_,_,rfl,rfl⟩
  ·rename_i h1;exact absurd h1 (by decide)
  ·cases h
 obtain⟨a,b,rfl,rfl⟩:=key;obtain⟨qi,wN,au,h1,h2⟩:=L1 ha;have hQ:us++cs= #[qi,wN]:=by apply ky;simpa using au
 cases h1 with
 |s _ bu=>
  cases h2 with
  |s _ L2=>
   refine⟨.int .i64 (cond (fS a b) (-1) (cond (eqL a b) 0 1)),?_,.i _ _⟩;show(callFunc g (us++cs)).run P w=_;rw[run_callFunc_extern hf sH hb hn he,hQ,Lib.run_compareString];have aE:∀l,(strOf l).data.toList=l.map Nat.toUInt8:=fun l=>by simp[strOf]
   rw[aE,aE,cmp_eq a b bu L2];rfl
theorem c4w{c:Nat}(ab:c<256):∀l:List Nat,(∀x∈l,x<256)→Lib.countByte (l.map Nat.toUInt8) c.toUInt8=vJ c l:=by
 intro l
 induction l with
 |nil=>intro _;rfl
 |cons x l ay=>
  intro h;have hx:x<256:=h x (by simp);have ay:=ay fun y aJ=>h y (by simp[aJ]);have e:vJ c (x::l)=cond (Nat.beq x c) (Nat.succ (vJ c l)) (vJ c l):=rfl;have aY:=WR hx ab;simp only[Lib.countByte,k9,List.count_cons,aY,e] at ay ⊢;cases Nat.beq x c with
  |true=>simp only[cond_true,if_true,ay]
  |false=>simp only[cond_false,oH,if_false,ay,vA]
theorem c4x(hf:P.funcs[g]? =some fn)(sH:(fn.name== "runtime.NumGoroutine")=false)(hb:fn.body.isNone=true)(hn:Extern.findNext fn=none)(he:Extern.find fn=some Extern.BytealgCount.count)
  (args:List AV) (v:AV) (h:extRow 3 args=some v) (w:World) (m:Nat→Option Nat) (O:Nat→Prop) (B:Nat) (us cs:Array Value) (ha:bm w m O B args (us++cs).toList):∃u,(invoke (.fn (.func g) cs) us).run P w= .ok (.value u) w∧aq w m O B v u:=by
 have key:∃l c,args=[.s l,.i .u8 (Int.ofNat c)]∧c<256∧v= .i .i64 (Int.ofNat (vJ c l)):=by
  unfold extRow at h;split at h
  ·rename_i h1;exact absurd h1 (by decide)
  ·rename_i h1;exact absurd h1 (by decide)
  ·rename_i l c _;cases ab:Nat.blt c 256 with
   |false=>rw[ab] at h;cases h
   |true=>rw[ab,cond_true] at h;cases h;exact⟨l,c,rfl,(sN.1 ab),rfl⟩
  ·cases h
 obtain⟨l,c,rfl,ab,rfl⟩:=key;obtain⟨qi,wN,au,h1,h2⟩:=L1 ha;have hQ:us++cs= #[qi,wN]:=by apply ky;simpa using au
 cases h1 with
 |s _ bu=>
  cases h2 with
  |i _ _=>
   refine⟨.int .i64 (Int.ofNat (vJ c l)),?_,.i _ _⟩;show(callFunc g (us++cs)).run P w=_;rw[run_callFunc_extern hf sH hb hn he,hQ,Lib.run_countString];have aE:(strOf l).data.toList=l.map Nat.toUInt8:=by simp[strOf]
   have aY:(Int.ofNat c).toNat=c:=rfl;rw[aE,aY,c4w ab l bu];rfl
end
theorem SpecEntry.calls{P:Program}{env:Env}{cM g:Nat}{aO:List AV}{r:AV}(h:SpecEntry P env cM g aO r){w:World}{us:Array Value}(fc:cM≤w.heap.size)(eS:Globs env w cM)(ha:bm w (fun _=>none) (fun _=>False) w.heap.size aO us.toList):
  Calls P g us w (fun e bn=>∃u,e= .returned u∧aq bn (fun _=>none) (fun b=>b<w.heap.size) w.heap.size r u∧w.heap.size≤bn.heap.size∧(∀b,b<w.heap.size→bn.heap[b]? =w.heap[b]?)∧bn.os=w.os∧bn.tape=w.tape∧bn.output=w.output):=
 (h.2 0 none w us fc eS ha).calls (fun k=>by simp[Fence.room,eI])
theorem WU{α β:Type}{f:α→Option β}:∀ {l:List α} {r:List β},mapOL f l=some r→r.length=l.length∧∀i (h:i<l.length) (h':i<r.length),f l[i]=some r[i]
 |[],r,h=>by cases h;exact⟨rfl,fun i h=>by simp at h⟩
 |x::xs,r,h=>by
  unfold mapOL at h;split at h<;>cases h;rename_i y aZ h1 h2;obtain⟨h3,aN⟩:=WU h2;refine⟨by simp[h3],fun i hi dc=>?_⟩;cases i with
  |zero=>simpa using h1
  |succ i=>simpa using aN i (by simpa using hi) (by simpa using dc)
def packA(R:Option Nat)(l:List AV):Option AV:=
 match R,l with
 |none,[x]=>some x
 |none,_=>none
 |some n,l=>if l.length=n then some (.ag l) else none
def avCat(f:TypeId→DataW Unit→Option (List AV))(cells:TypeId→Nat):List (Nat×TypeId)→Nat→List (DataW Unit)→Option (List AV)
 |[],_,[]=>some []
 |(I,t)::fs,k,d::ds=>
  if I=k then match f t d,avCat f cells fs (k+cells t) ds with
   |some l,some r=>if l.length=cells t then some (l++r) else none
   |_,_=>none
  else none
 |_,_,_=>none
def avCells(P:Program):Nat→TypeId→DataW Unit→Option (List AV)
 |0,_,_=>none
 |n+1,t,d=>
  match P.underlying t,d with
  |some .bool,.lit (.bool b)=>some [.b b]
  |some (.int _),.lit (.int k x)=>some [.i k x]
  |some .string,.lit (.string l)=>some [.s (l.map (·.toNat))]
  |some (.pointer _),.nil=>some [.p none]
  |some (.slice _),.nil=>some [.J]
  |some (.slice e),.slice (y::aZ) _=>match shapeOf P e,P.cellsOf e with
   |some R,c+1=>if shN R=c+1 then match mapOL (fun d=>match avCells P n e d with|some l=>packA R l|none=>none) (y::aZ) with
     |some xs=>some [.aD true R xs]
     |none=>none
    else none
   |_,_=>none
  |some (.struct fs),.agg ps=>match avCat (avCells P n) P.cellsOf (fs.toList.map fun f=>(f.offset,f.type)) 0 ps with
   |some l=>if l.length=P.cellsOf t then some l else none
   |none=>none
  |some (.array k e),.agg ps=>match avCat (avCells P n) P.cellsOf ((List.range k).map fun i=>(i*P.cellsOf e,e)) 0 ps with
   |some l=>if l.length=P.cellsOf t then some l else none
   |none=>none
  |_,_=>none
section
variable {P:Program}{w:World}
theorem yN{base:Nat}{a:Addr}{n:Nat}{cs:List Value}(h:w.cells? base a n=some cs):cs.length=n∧∀i,i<n→w.cell? (a.add i)=cs[i]? :=by
 unfold World.cells? at h;split at h
 ·exact⟨by simpa using mapM_some_length h,fun i hi=>mapM_some_get h i i (by simp[hi])⟩
 ·cases h
theorem WV{a:Addr}{v:Value}(h:w.cell? a=some v):a.spot=none∧a.block<w.heap.size:=by
 unfold World.cell? at h;split at h
 ·rename_i hh;split at h
  ·cases h
  ·rename_i hs;refine⟨by cases hx:a.spot with|none=>rfl|some _=>simp[hx] at hs,?_⟩;exact(vz.1 hh).1
 ·cases h
theorem L3{f:TypeId→DataW Unit→Option (List AV)}{dp m:Nat}(ay:∀t cs d ps l,DataW.trod (fun _=>()) P w 0 (fun _=>true) false m t cs=some (d,ps)→f t d=some l→bm w (fun _=>none) (fun b=>w.heap.size≤b) dp l cs∧∀x∈l,conf none x=true)(cs:List Value):
  ∀(fs:List (Nat×TypeId)) (k:Nat) (xs:List (DataW Unit×List MemPlace)) (l:List AV),(∀(i I:Nat) (t:TypeId),fs[i]? =some (I,t)→DataW.trod (fun _=>()) P w 0 (fun _=>true) false m t ((cs.drop I).take (P.cellsOf t))=xs[i]?)→
   avCat f P.cellsOf fs k (xs.map (·.1))=some l→k+l.length=cs.length→bm w (fun _=>none) (fun b=>w.heap.size≤b) dp l (cs.drop k)∧∀x∈l,conf none x=true
 |[],k,[],l,_,h,ax=>by
  cases h;rw[KI (by simp at ax;omega)];exact⟨.nil,fun x hx=>by cases hx⟩
 |[],k,x::xs,l,_,h,ax=>by simp[avCat] at h
 |(I,t)::fs,k,[],l,_,h,ax=>by simp[avCat] at h
 |(I,t)::fs,k,x::xs,l,hx,h,ax=>by
  simp only[k9,avCat] at h;split at h
  ·rename_i aj;subst aj;split at h
   ·rename_i o3 r1 h1 h2;split at h<;>cases h;rename_i hF;have h0:=hx 0 I t rfl;simp only[U0] at h0;obtain⟨a6,a2⟩:=ay t _ x.1 x.2 o3 (by rw[h0]) h1;have af:=L3 ay cs fs (I+P.cellsOf t) xs r1 (fun i bE xZ hi=>by simpa using hx (i+1) bE xZ (by simpa using hi)) h2 (by rw[k_] at ax;omega);refine⟨?_,fun y aJ=>(e4.1 aJ).elim (a2 y) (af.2 y)⟩;have an:=af.1;rw[←q2] at an;have:=a6.append an;rwa[B0] at this
   ·cases h
  ·cases h
theorem WW{R:Option Nat}{l:List AV}{x:AV}(h:packA R l=some x)(au:∀y∈l,conf none y=true):conf R x=true∧x.cells=l:=by
 unfold packA at h;split at h
 ·cases h;have:=au x (by simp);refine⟨this,?_⟩;cases x<;>simp_all [conf,AV.cells]
 ·cases h
 ·split at h<;>cases h;rename_i hn;exact⟨by simp[conf,hn],rfl⟩
theorem WX(dp:Nat):∀(n fuel:Nat) (t:TypeId) (cs:List Value) (d:DataW Unit) (ps:List MemPlace) (l:List AV),DataW.trod (fun _=>()) P w 0 (fun _=>true) false fuel t cs=some (d,ps)→avCells P n t d=some l→
  bm w (fun _=>none) (fun b=>w.heap.size≤b) dp l cs∧∀x∈l,conf none x=true
 |0,_,_,_,_,_,_,_,h=>by cases h
 |n+1,fuel,t,cs,d,ps,l,an,h=>by
  have ay:=fun m t cs d ps l=>WX dp n m t cs d ps l;unfold avCells at h;split at h
  ·rename_i ht;obtain⟨b,rfl,hx⟩:=LM ht an;cases h;cases hx;exact⟨.cons (.b _) .nil,fun x hx=>by simp at hx;subst hx;rfl⟩
  ·rename_i ht;obtain⟨b,rfl,hx,_⟩:=B1 ht an;cases h;cases hx;exact⟨.cons (.i _ _) .nil,fun x hx=>by simp at hx;subst hx;rfl⟩
  ·rename_i ht;obtain⟨s,rfl,hx,_⟩:=yG ht an;cases h;cases hx;have:=aq.s (w:=w) (m:=fun _=>none) (O:=fun b=>w.heap.size≤b) (B:=dp) (jb s) (A2 s);rw[A1] at this;exact⟨.cons this .nil,fun x hx=>by simp at hx;subst hx;rfl⟩
  ·rename_i ht;rcases DataW.trod_pointer ht an with⟨rfl,_⟩|⟨_,_,_,_,_,_,hx,_⟩
   ·cases h;exact⟨.cons .oN .nil,fun x hx=>by simp at hx;subst hx;rfl⟩
   ·cases hx
  ·rename_i ht;rcases LN ht an with⟨rfl,_⟩|⟨_,_,_,_,_,_,_,_,hx,_⟩
   ·cases h;exact⟨.cons .J .nil,fun x hx=>by simp at hx;subst hx;rfl⟩
   ·cases hx
  ·rename_i e y aZ _ ht;split at h<;>try (cases h;done)
   rename_i R c f_ ab;split at h<;>try (cases h;done)
   rename_i WY;split at h<;>cases h;rename_i xs dC;obtain⟨h1,h2⟩:=WU dC;rcases LN ht an with⟨_,hx⟩|⟨a,len,cap,elems,rest,m,rfl,rfl,hx,_,nX,Ki,Km,dd,_,_⟩
   ·cases hx
   simp only[ya,DataW.slice.injEq] at hx;obtain⟨⟨e1,_⟩,_⟩:=hx;have hlen:xs.length=len:=by rw[h1,e1];simpa using Km
   have each:∀i (hi:i<xs.length),∃us,w.cells? 0 (a.add (i*P.cellsOf e)) (P.cellsOf e)=some us∧bm w (fun _=>none) (fun b=>w.heap.size≤b) dp (xs[i]).cells us∧conf R xs[i]=true∧∀x∈(xs[i]).cells,conf none x=true:=fun i hi=>by
    have hg:=dd i (by omega);have dc:i<elems.length:=by omega
    rw[cS dc] at hg;simp only[c8] at hg;obtain⟨us,hu,L4⟩:=hg;have h3:=h2 i (by omega) hi;have aE:(y::aZ)[i]'(by omega)=(elems[i]).1:=by
     have:(y::aZ)[i]? =(elems.map (·.1))[i]? :=by rw[e1]
     rw[cS (by omega),cS (by simpa using dc),ca] at this;simpa using this
    rw[aE] at h3;split at h3<;>try (cases h3;done)
    rename_i o3 hF;obtain⟨a6,a2⟩:=ay m e us _ _ o3 L4 hF;obtain⟨a3,a4⟩:=WW h3 a2;exact⟨us,hu,by rw[a4];exact a6,a3,by rw[a4];exact a2⟩
   have Bd:0<xs.length:=by rw[h1];simp
   obtain⟨c4y,L5,nu,hc0,_⟩:=each 0 Bd;obtain⟨c4z,sx⟩:=yN L5;have lg:P.cellsOf e=c+1:=ab;have uw:=sx 0 (by omega);rw[cS (by omega)] at uw;simp only[FR] at uw;have c4A:(a.add 0).add 0=a:=rfl;rw[c4A] at uw;obtain⟨dS,B_⟩:=WV uw;obtain⟨ar,off,sp⟩:=a;cases dS;refine⟨.cons ?_ .nil,fun x hx=>by simp at hx;subst hx;rfl⟩;rw[←hlen];refine .aD (fun i j=>(w.cell? ⟨ar,off+i*shN R+j,none⟩).getD undef) (fun _=>⟨by show ¬w.heap.size≤ar;exact Nat.not_le.2 B_,B_,fun h=>by cases h⟩) (fun i hi=>(each i hi).choose_spec.2.2.1) (fun i hi j aB=>?_) (fun i hi j aB=>?_) (by omega) (fun v av x hx=>?_) (fun _=>rfl)
   ·obtain⟨us,hu,af,iT,_⟩:=each i hi;obtain⟨au,hg⟩:=yN hu;have fK:j<P.cellsOf e:=by rw[sr iT] at aB;omega
    have:=hg j fK;rw[iz,iz,cS (by omega)] at this;rw[lg,← WY] at this;rw[this];rfl
   ·obtain⟨us,hu,af,iT,_⟩:=each i hi;obtain⟨au,hg⟩:=yN hu;have fK:j<P.cellsOf e:=by rw[sr iT] at aB;omega
    have:=hg j fK;rw[iz,iz,cS (by omega)] at this;rw[lg,← WY] at this;rw[this];exact af.2 j aB (by omega)
   ·obtain⟨i,hi,rfl⟩:=k8 av;exact(each i hi).choose_spec.2.2.2 x hx
  ·rename_i fs iO ht;split at h<;>try (cases h;done)
   rename_i o3 hF;split at h<;>cases h;rename_i hlen;obtain⟨xs,m,rfl,hx,hG,lq,dd⟩:=yH ht an;simp only[ya,DataW.agg.injEq] at hx;obtain⟨rfl,_⟩:=hx;have:=L3 (dp:=dp) (m:=m) (fun t cs d ps l=>ay m t cs d ps l) cs _ 0 xs l (fun i I xZ hi=>by
    simp only[j3,eu,ya] at hi;obtain⟨f,hf,rfl,rfl⟩:=hi;exact dd i f (by simpa using hf)) hF (by omega)
   simpa using this
  ·rename_i k e iO ht;split at h<;>try (cases h;done)
   rename_i o3 hF;split at h<;>cases h;rename_i hlen;obtain⟨xs,m,rfl,hx,hG,lq,dd⟩:=DataW.trod_array ht an;simp only[ya,DataW.agg.injEq] at hx;obtain⟨rfl,_⟩:=hx;have:=L3 (dp:=dp) (m:=m) (fun t cs d ps l=>ay m t cs d ps l) cs _ 0 xs l (fun i I xZ hi=>by
    simp only[j3,eu,ya] at hi;obtain⟨j,aB,rfl,rfl⟩:=hi;have mf:=mG.1 aB;obtain⟨Ca,WZ⟩:=mf;simp at Ca WZ;subst WZ;exact dd i Ca) hF (by omega)
   simpa using this
  ·cases h
def avVar(P:Program)(n:Nat)(x:String×DataW Unit):Option (Nat×AV):=
 match P.globalNamed x.1 with
 |some g=>match P.globals[g]? with
  |some mo=>match shapeOf P mo.type,avCells P n mo.type x.2 with
   |some R,some l=>match packA R l with
    |some v=>some (g,v)
    |none=>none
   |_,_=>none
  |none=>none
 |none=>none
noncomputable def FX (l:List (Nat×AV)) (g:Nat):Option AV:=List.rec none (fun e _ ay=>cond (Nat.beq e.1 g) (some e.2) ay) l
theorem W0{g:Nat}{v:AV}:∀ {l:List (Nat×AV)},FX l g=some v→(g,v)∈l
 |[],h=>by cases h
 |e::l,h=>by
  have h:cond (Nat.beq e.1 g) (some e.2) (FX l g)=some v:=h;cases h1:Nat.beq e.1 g with
  |false=>rw[h1,cond_false] at h;exact e_ _ (W0 h)
  |true=>
   rw[h1,cond_true] at h;cases h;have:=eM h1;subst this;exact iq
theorem var?_heap{n:String}{g:Nat}{cs:Array Value}(hg:P.globalNamed n=some g)(h:w.var? P n=some cs):∃t aT,w.heap[g]? =some (.cells cs t aT):=by
 unfold World.var? at h;rw[hg] at h;simp only[Option.bind_some] at h;split at h<;>cases h;exact⟨_,_,by assumption⟩
theorem W1:∀ {laid:List (String×DataW Unit)} {ps:List MemPlace},DataW.LaidVars P w laid ps→∀x∈laid,∃g t cs fuel p,P.globalNamed x.1=some g∧(P.globals[g]?).map (·.type)=some t∧w.var? P x.1=some cs∧DataW.trod (fun _=>()) P w 0 (fun _=>true) false fuel t cs.toList=some (x.2,p)
 |[],_,_,x,hx=>by cases hx
 |y::laid,ps,au,x,hx=>by
  obtain⟨g0,t0,nw,f0,p0,cC,yO,wO,Cb,hd0,hr,_⟩:=au;rcases dP.1 hx with rfl|hx
  ·exact⟨g0,t0,nw,f0,p0,yO,wO,Cb,hd0⟩
  ·exact W1 hr x hx
theorem c4B{n:Nat}{x:String×DataW Unit}{g:Nat}{v:AV}(h1:avVar P n x=some (g,v)){g0 t0 f0:Nat}{nw:Array Value}{p0:List MemPlace}(yO:P.globalNamed x.1=some g0)(wO:(P.globals[g0]?).map (·.type)=some t0)
  (Cb:w.var? P x.1=some nw) (hd0:DataW.trod (fun _=>()) P w 0 (fun _=>true) false f0 t0 nw.toList=some (x.2,p0)) (dp:Nat):
  aq w (fun _=>none) (fun b=>w.heap.size≤b) dp (.cG true v) (.pointer (some ⟨g,0,none⟩)):=by
 unfold avVar at h1;rw[yO] at h1;simp only[] at h1;cases sS:P.globals[g0]? with
 |none=>simp[sS] at h1
 |some W2=>
  simp only[sS] at h1 wO;simp only[AP,ca] at wO;subst wO;split at h1<;>try (cases h1;done)
  rename_i R o3 hs hF;split at h1<;>cases h1;rename_i hp;obtain⟨a6,a2⟩:=WX dp n f0 _ _ _ _ _ hd0 hF;obtain⟨a3,a4⟩:=WW hp a2;obtain⟨sj,aT,hh⟩:=var?_heap yO Cb;have bu:g<w.heap.size:=(vz.1 hh).1;refine .cG (fun j=>(nw[j]?).getD undef) (by show ¬w.heap.size≤g;omega) bu (fun h=>by cases h) (fun j aB=>?_) (fun j aB=>?_) (by rw[a4];exact a2)
  ·rw[a4] at aB;have fK:j<nw.size:=by have:=a6.1;simp at this;omega
   unfold World.cell?;rw[hh];simp[fK]
  ·have mf:=aB;rw[a4] at mf;have fK:j<nw.size:=by have:=a6.1;simp at this;omega
   have:=a6.2 j mf (by simpa using fK);simp only[a4];simpa [fK] using this
theorem W3{n:Nat}{laid:List (String×DataW Unit)}{ps:List MemPlace}(au:DataW.LaidVars P w laid ps):∀ {L:List (String×DataW Unit)} {mo:List (Nat×AV)},(∀x∈L,x∈laid)→mapOL (avVar P n) L=some mo→
  ∀g v,(g,v)∈mo→∀dp,aq w (fun _=>none) (fun b=>w.heap.size≤b) dp (.cG true v) (.pointer (some ⟨g,0,none⟩))
 |[],mo,_,h,g,v,hm=>by cases h;cases hm
 |x::L,mo,hL,h,g,v,hm=>by
  unfold mapOL at h;split at h<;>cases h;rename_i y aZ h1 h2;rcases dP.1 hm with rfl|hm
  ·intro dp;obtain⟨g0,t0,nw,f0,p0,yO,wO,Cb,hd0⟩:=W1 au x (hL x (by simp));exact c4B h1 yO wO Cb hd0 dp
  ·exact W3 au (fun x hx=>hL x (by simp[hx])) h2 g v hm
theorem globs_of_laid{env:Env}{laid:List (String×DataW Unit)}{n:Nat}{mo:List (Nat×AV)}(au:laidMet P laid w)(names:List String)(h:mapOL (avVar P n) (laid.filter fun x=>names.contains x.1)=some mo)(hg:env.jm=FX mo):Globs env w w.heap.size:=by
 obtain⟨ps,au,_⟩:=au;intro g v av dp;rw[hg] at av;exact W3 au (fun x hx=>(wj.1 hx).1) h g v (W0 av) dp
end
end
section
variable [Tok][TokOk]
open Go.RowKit Go.ChangeShapes Go.WideShapes
theorem c4C{W W':World}{may:MemPlace→Prop}(ax:∀b,b<W.heap.size→W'.heap[b]? =W.heap[b]?)(iP:W'.os=W.os)(iQ:W'.output=W.output):W.keptBut W' may:=by
 refine⟨iP,iQ,fun i hi=>?_⟩;rw[ax i hi];cases h:W.heap[i]? with
 |none=>rfl
 |some I=>
  cases I with
  |cells c t ae=>exact⟨rfl,rfl,rfl,fun j _=>rfl⟩
  |map es clock=>exact .inr ⟨rfl,rfl⟩
  |_=>rfl
end
section
variable [Tok][TokOk]
open Go.RowKit
def cO{α:Type}(f:Nat→Option (List α))(Q:α→Prop):Prop:=∃e2 l,l≠[]∧(∀F,e2≤F→f F=some l)∧∀x∈l,Q x
theorem cO.one{α:Type}{f:Nat→Option (List α)}{Q:α→Prop}{x:α}(h:∀F,f F=some [x])(aI:Q x):cO f Q:=⟨0,[x],by simp,fun F _=>h F,fun _ aJ=>by rw[e3.1 aJ];exact aI⟩
theorem cO.mono{α:Type}{f:Nat→Option (List α)}{Q m1:α→Prop}(h:cO f Q)(aI:∀x,Q x→m1 x):cO f m1:=let⟨e2,l,h1,h2,h3⟩:=h;⟨e2,l,h1,h2,fun x hx=>aI x (h3 x hx)⟩
theorem cO.congr{α:Type}{f g:Nat→Option (List α)}{Q:α→Prop}(h:cO f Q)(e:∀F,g F=f F):cO g Q:=let⟨e2,l,h1,h2,h3⟩:=h;⟨e2,l,h1,fun F eT=>(e F).trans (h2 F eT),h3⟩
theorem cO.succ{α:Type}{f g:Nat→Option (List α)}{Q:α→Prop}(h:cO f Q)(e:∀F,g (F+1)=f F):cO g Q:=
 let⟨e2,l,h1,h2,h3⟩:=h
 ⟨e2+1,l,h1,fun F eT=>by obtain⟨k,rfl⟩:∃k,F=k+1:=⟨F-1,by omega⟩;exact(e k).trans (h2 k (by omega)),h3⟩
theorem c4D{α β:Type}(f:α→Option (List β))(x y:α)(t:List α):jE f (x::y::t)=match f x with|none=>none|some a=>match jE f (y::t) with|none=>none|some b=>some (a++b):=rfl
theorem cO.flat{α β:Type}{g:α→Nat→Option (List β)}{Q:β→Prop}:∀(l:List α),l≠[]→(∀x∈l,cO (g x) Q)→cO (fun F=>jE (fun x=>g x F) l) Q
 |[],h,_=>absurd rfl h
 |[x],_,h=>(h x (by simp)).congr fun F=>rfl
 |x::y::t,_,h=>by
  obtain⟨nA,o3,a6,dA,bY⟩:=h x (by simp);obtain⟨L6,FY,a2,dQ,dL⟩:=cO.flat (g:=g) (Q:=Q) (y::t) (by simp) (fun z bw=>h z (e_ _ bw));refine⟨max nA L6,o3++FY,by simp[a6],fun F eT=>?_,fun z bw=>?_⟩
  ·show jE (fun x=>g x F) (x::y::t)=_;have aY:jE (fun x=>g x F) (y::t)=some FY:=dQ F (by omega);rw[c4D,dA F (by omega),aY]
  ·rcases e4.1 bw with bw|bw
   ·exact bY z bw
   ·exact dL z bw
theorem cO.then{α β:Type}{f:Nat→Option (List α)}{g:α→Nat→Option (List β)}{Q:α→Prop}{m1:β→Prop}(h:cO f Q)(hg:∀x,Q x→cO (g x) m1):cO (fun F=>gi (f F) (fun x=>g x F)) m1:=by
 obtain⟨e2,l,h1,h2,h3⟩:=h;obtain⟨nA,dF,a,b,c⟩:=cO.flat (g:=g) (Q:=m1) l h1 (fun x hx=>hg x (h3 x hx));exact⟨max e2 nA,dF,a,fun F eT=>by show gi (f F) _=_;rw[h2 F (by omega)];exact b F (by omega),c⟩
abbrev qo:=gn→Fr→ad→Prop
def fh(env:Env)(floor:Nat)(aH:Option Nat)(c:bc)(ae:Fr)(o:ad)(Q:qo):Prop:=cO (fun F=>exec env F floor aH c ae o) (fun I=>Q I.1 I.2.1 I.2.2)
def jQ(env:Env)(floor:Nat)(nd:Bool)(ops:List aQ)(ae:Fr)(o:ad)(Q:qo):Prop:=cO (fun F=>runOps env floor (callV env (exec env F) floor) nd ops ae o) (fun I=>Q I.1 I.2.1 I.2.2)
def cy(env:Env)(floor:Nat)(bB:AV)(args:List AV)(o:ad)(Q:c6→ad→Prop):Prop:=cO (fun F=>callV env (exec env F) floor bB args o) (fun I=>Q I.1 I.2)
section
variable {env:Env}{floor:Nat}{aH:Option Nat}{ae:Fr}{o:ad}{Q:qo}
theorem fh.mono{c:bc}{m1:qo}(h:fh env floor aH c ae o Q)(aI:∀x ae o,Q x ae o→m1 x ae o):fh env floor aH c ae o m1:=cO.mono h fun _ aj=>aI _ _ _ aj
theorem fh.skip(h:Q .normal ae o):fh env floor aH .skip ae o Q:=(cO.one (f:=fun F=>some [(gn.normal,ae,o)]) (Q:=fun I=>Q I.1 I.2.1 I.2.2) (fun _=>rfl) h).succ fun F=>by rw[mj];rfl
theorem fh.ret(h:Q .ret ae o):fh env floor aH .ret ae o Q:=(cO.one (f:=fun F=>some [(gn.ret,ae,o)]) (Q:=fun I=>Q I.1 I.2.1 I.2.2) (fun _=>rfl) h).succ fun F=>by rw[mj];rfl
theorem fh.exit{id:Nat}(h:Q (.exit id) ae o):fh env floor aH (.exit id) ae o Q:=(cO.one (f:=fun F=>some [(gn.exit id,ae,o)]) (Q:=fun I=>Q I.1 I.2.1 I.2.2) (fun _=>rfl) h).succ fun F=>by rw[mj];rfl
theorem fh.region{ops:List aQ}(h:jQ env floor aH.isNone ops ae o Q):fh env floor aH (.region ops) ae o Q:=cO.succ h fun F=>by rw[mj];rfl
def c4E(env:Env)(floor:Nat)(aH:Option Nat)(b:bc)(Q:qo):qo:=fun x ae o=>match x with| .normal=>fh env floor aH b ae o Q|x=>Q x ae o
theorem fh.seq{a b:bc}(h:fh env floor aH a ae o (c4E env floor aH b Q)):fh env floor aH (.seq a b) ae o Q:=by
 refine cO.succ (cO.then (g:=fun x F=>xR (exec env F) floor aH b x) h fun I aj=>?_) fun F=>by rw[mj];rfl
 obtain⟨x,bQ,ah⟩:=I;cases x with
 |normal=>exact aj
 |exit i=>exact cO.one (fun _=>rfl) aj
 |ret=>exact cO.one (fun _=>rfl) aj
 |panic v=>exact cO.one (fun _=>rfl) aj
def c4F(id:Nat)(Q:qo):qo:=fun x ae o=>match x with| .exit j=>if j=id then Q .normal ae o else Q (.exit j) ae o|x=>Q x ae o
theorem fh.block{a:bc}{id:Nat}(h:fh env floor aH a ae o (c4F id Q)):fh env floor aH (.block id a) ae o Q:=by
 refine cO.succ (cO.then (g:=fun x _=>JR id x) h fun I aj=>?_) fun F=>by rw[mj];rfl
 obtain⟨x,bQ,ah⟩:=I;cases x with
 |normal=>exact cO.one (fun _=>rfl) aj
 |exit i=>
  have aj:(if i=id then Q .normal bQ ah else Q (.exit i) bQ ah):=aj;by_cases hi:i=id
  ·subst hi;rw[if_pos rfl] at aj;refine cO.one (x:=(.normal,bQ,ah)) (fun _=>?_) aj;show cond (Nat.beq i i) _ _=_;rw[fR];rfl
  ·rw[if_neg hi] at aj;refine cO.one (x:=(.exit i,bQ,ah)) (fun _=>?_) aj;show cond (Nat.beq i id) _ _=_;rw[show Nat.beq i id=false from by cases hb:Nat.beq i id with|false=>rfl|true=>exact absurd (eM hb) hi];rfl
 |ret=>exact cO.one (fun _=>rfl) aj
 |panic v=>exact cO.one (fun _=>rfl) aj
theorem fh.eE{I:az}{a b:bc}{t:Bool}(aj:evalA env ae.aW I=some (.b t))(ht:t=true→fh env floor aH a ae o Q)(hf:t=false→fh env floor aH b ae o Q):fh env floor aH (.cond I a b) ae o Q:=by
 cases t with
 |true=>
  refine cO.succ (ht rfl) fun F=>?_;rw[mj];show(match evalA env ae.aW I with|some (.b t)=>exec env F floor aH (cond t a b) ae o|_=>none)=_;rw[aj];rfl
 |false=>
  refine cO.succ (hf rfl) fun F=>?_;rw[mj];show(match evalA env ae.aW I with|some (.b t)=>exec env F floor aH (cond t a b) ae o|_=>none)=_;rw[aj];rfl
theorem fh.loop{a:bc}(eL:Nat→Fr→ad→Prop)(bo:∀m ae o,eL m ae o→fh env floor aH a ae o (fun x bQ ah=>match x with| .normal=>∃aG,aG<m∧eL aG bQ ah|x=>Q x bQ ah)):∀m ae o,eL m ae o→fh env floor aH (.loop a) ae o Q:=by
 intro m
 induction m using Nat.strongRecOn with
 |ind m ay=>
  intro ae o h;refine cO.succ (cO.then (g:=fun x F=>xR (exec env F) floor aH (.loop a) x) (bo m ae o h) fun I aj=>?_) fun F=>by rw[mj];rfl
  obtain⟨x,bQ,ah⟩:=I;cases x with
  |normal=>obtain⟨aG,h1,h2⟩:=aj;exact ay aG h1 bQ ah h2
  |exit i=>exact cO.one (fun _=>rfl) aj
  |ret=>exact cO.one (fun _=>rfl) aj
  |panic v=>exact cO.one (fun _=>rfl) aj
theorem jQ.nil{nd:Bool}(h:Q .normal ae o):jQ env floor nd [] ae o Q:=cO.one (fun _=>rfl) h
theorem jQ.val{nd:Bool}{I:aQ}{ops:List aQ}{v:AV}{ah:ad}(hw:wantedA I.guard ae.aW=true)(aj:opx floor (evalA env ae.aW) o I.op=some (.val v ah))(h:jQ env floor nd ops (ae.put I.dst v) ah Q):jQ env floor nd (I::ops) ae o Q:=
 cO.congr h fun F=>by rw[wu,hw,cond_true,aj]
theorem jQ.off{nd:Bool}{I:aQ}{ops:List aQ}(hw:wantedA I.guard ae.aW=false)(h:jQ env floor nd ops (ae.put I.dst dw) o Q):jQ env floor nd (I::ops) ae o Q:=
 cO.congr h fun F=>by rw[wu,hw,cond_false]
theorem jQ.call{nd:Bool}{I:aQ}{ops:List aQ}{bB:AV}{args:List AV}(hw:wantedA I.guard ae.aW=true)(aj:opx floor (evalA env ae.aW) o I.op=some (.call bB args))
  (h:cy env floor bB args o (fun r ah=>match r with| .ok v=>jQ env floor nd ops (ae.put I.dst v) ah Q| .err v=>Q (.panic v) ae ah)):jQ env floor nd (I::ops) ae o Q:=by
 refine cO.congr (cO.then (g:=fun(r:c6×ad) F=>(match r with
     |(.ok v,o)=>runOps env floor (callV env (exec env F) floor) nd ops (ae.put I.dst v) o
     |(.err v,o)=>some [(.panic v,ae,o)])) h fun r af=>?_) fun F=>by rw[wu,hw,cond_true,aj]<;>rfl
 obtain⟨r,ah⟩:=r;cases r with
 |ok v=>exact af
 |err v=>exact cO.one (fun _=>rfl) af
theorem cy.spec{g:Nat}{first cap args aO:List AV}{r:AV}{Q:c6→ad→Prop}(he:env.ext g=0)(hp:env.pure g=true)(ha:mapO (bW o env.aT) (first++args++cap)=some aO)(hs:env.spec g aO=some r)(h:Q (.ok r) o):
  cy env floor (.f (.func g) first cap) args o Q:=by
 refine cO.one (x:=(.ok r,o)) (fun F=>?_) h;show callF env (exec env F) floor g (first++args++cap) o=_;unfold callF;rw[he];show cond (env.pure g) _ _=_;rw[hp,cond_true,ha];show(match env.spec g aO with|some r=>_|none=>_)=_;rw[hs]
def W4(env:Env)(floor:Nat)(fn:bV)(Q:c6→ad→Prop):qo:=fun x ae o=>∃r ah,endF env floor fn (x,ae,o)=some [(r,ah)]∧Q r ah
theorem cy.run{g:Nat}{first cap args:List AV}{fn:bV}{body:bc}{Q:c6→ad→Prop}(he:env.ext g=0)(hp:env.pure g=false)(hf:env.funcs g=some fn)(hb:fn.body=some body)
  (hn:(Nat.beq (first++args++cap).length fn.kz&&Nat.ble (first++args++cap).length fn.ntmps)=true) (h:fh env floor none body (sh fn (first++args++cap)) o (W4 env floor fn Q)):cy env floor (.f (.func g) first cap) args o Q:=by
 refine cO.congr (cO.then (g:=fun x _=>endF env floor fn x) h fun I aj=>?_) fun F=>?_
 ·obtain⟨r,ah,h1,h2⟩:=aj;exact cO.one (fun _=>h1) h2
 ·show callF env (exec env F) floor g (first++args++cap) o=_;unfold callF;rw[he];show cond (env.pure g) _ _=_;rw[hp,cond_false];unfold runF;rw[hf];show(match fn.body with|none=>none|some body=>_)=_;rw[hb];show cond _ _ _=_;rw[hn,cond_true]
theorem jw{α β:Type}(f:α→Option β)(x:α)(l:List α):mapO f (x::l)=match f x with|none=>none|some y=>match mapO f l with|none=>none|some aZ=>some (y::aZ):=rfl
theorem L7{f g:AV→Option AV}(h:∀x y,f x=some y→g x=some y):∀ {l r:List AV},mapO f l=some r→mapO g l=some r
 |[],r,e=>e
 |x::l,r,e=>by
  rw[jw] at e ⊢;cases hx:f x with
  |none=>rw[hx] at e;cases e
  |some y=>
   rw[hx] at e;cases au:mapO f l with
   |none=>rw[au] at e;cases e
   |some aZ=>rw[au] at e;rw[h x y hx,L7 h au];exact e
theorem W5{o:ad}{base:Nat}:∀(n:Nat) (v r:AV),freeze o base n v=some r→freeze o base (n+1) v=some r
 |0,_,_,h=>by cases h
 |n+1,v,r,h=>by
  have ay:=W5 (o:=o) (base:=base) n;have gY:∀ {l dF:List AV},mapO (freeze o base n) l=some dF→mapO (freeze o base (n+1)) l=some dF:=L7 ay;rw[freeze_succ] at h;rw[freeze_succ];split at h
  ·split at h<;>try (cases h;done)
   rename_i hb;rw[if_neg hb];split at h<;>try (cases h;done)
   rename_i xs dC;split at h<;>cases h;rename_i aZ mV;simp only[dC,gY mV]
  ·split at h<;>cases h;rename_i aZ mV;simp only[gY mV]
  ·split at h<;>cases h;rename_i aZ mV;simp only[gY mV]
  ·split at h<;>cases h;rename_i y aJ;simp only[ay _ _ aJ]
  ·cases h
  ·cases h
  ·cases h
  ·cases h
  ·exact h
theorem W6{o:ad}{base n m:Nat}(hn:n≤m){v r:AV}(h:freeze o base n v=some r):freeze o base m v=some r:=by
 obtain⟨k,rfl⟩:∃k,m=n+k:=⟨m-n,by omega⟩
 induction k with
 |zero=>exact h
 |succ k ay=>exact W5 _ _ _ (ay (by omega))
theorem W7{f g:AV→AV→Bool}(h:∀x y,f x y=true→g x y=true):∀ {l r:List AV},fD f l r=true→fD g l r=true
 |[],[],e=>e
 |[],_::_,e=>by cases e
 |_::_,[],e=>by cases e
 |x::l,y::r,e=>by
  have e:cond (f x y) (fD f l r) false=true:=e;show cond (g x y) (fD g l r) false=true;cases hx:f x y with
  |false=>rw[hx] at e;cases e
  |true=>rw[hx] at e;rw[h x y hx];exact W7 h e
theorem W8:∀(n:Nat) (x y:AV),AV.eqb n x y=true→AV.eqb (n+1) x y=true
 |0,_,_,h=>by cases h
 |n+1,x,y,h=>by
  have ay:=W8 n;have gY:∀ {l r:List AV},fD (AV.eqb n) l r=true→fD (AV.eqb (n+1)) l r=true:=W7 ay;have e:=AV.sJ _ _ _ h;subst e;cases x
  case aD I R xs=>
   have h:((I==I)&&decide (R=R)&&fD (AV.eqb n) xs xs)=true:=h;show((I==I)&&decide (R=R)&&fD (AV.eqb (n+1)) xs xs)=true;simp only[bT] at h ⊢;exact⟨h.1,gY h.2⟩
  case cG I v=>
   have h:((I==I)&&AV.eqb n v v)=true:=h;show((I==I)&&AV.eqb (n+1) v v)=true;simp only[bT] at h ⊢;exact⟨h.1,ay _ _ h.2⟩
  case f bA a c=>
   have h:(decide (bA=bA)&&(fD (AV.eqb n) a a&&fD (AV.eqb n) c c))=true:=h;show(decide (bA=bA)&&(fD (AV.eqb (n+1)) a a&&fD (AV.eqb (n+1)) c c))=true;simp only[bT] at h ⊢;exact⟨h.1,gY h.2.1,gY h.2.2⟩
  case it t v=>
   have h:(Nat.beq t t&&AV.eqb n v v)=true:=h;show(Nat.beq t t&&AV.eqb (n+1) v v)=true;simp only[bT] at h ⊢;exact⟨h.1,ay _ _ h.2⟩
  case p a=>cases a<;>exact h
  case m a=>cases a<;>exact h
  case ag l=>exact gY (l:=l) (r:=l) h
  case aK l=>exact gY (l:=l) (r:=l) h
  all_goals exact h
theorem c4G{n m:Nat}(hn:n≤m){x y:AV}(h:AV.eqb n x y=true):AV.eqb m x y=true:=by
 obtain⟨k,rfl⟩:∃k,m=n+k:=⟨m-n,by omega⟩
 induction k with
 |zero=>exact h
 |succ k ay=>exact W8 _ _ _ (ay (by omega))
theorem m2{α:Type}{p:α→Bool}:∀ {l:List α},(∀y∈l,p y=true)→cV p l=true
 |[],_=>rfl
 |y::t,h=>by
  show cond (p y) (cV p t) false=true;rw[h y (by simp),cond_true];exact m2 fun z bw=>h z (e_ _ bw)
theorem FZ{P:Program}{m:Nat}(hm:m≤env.aT)(gw:qd P env)(dS:B8 P env)(hex:uf P env)(lp:P.follows .mixedOrders=true){g:Nat}{fn:bV}{body:bc}{aO:List AV}{r:AV}(hf:env.funcs g=some fn)(hb:fn.body=some body)
  (hn:(Nat.beq aO.length fn.kz&&Nat.ble aO.length fn.ntmps)=true) {ae:Nat} (af:j8 ae r=true)
  (h:fh env 0 none body (sh fn aO) ⟨.nil,0⟩ (W4 env 0 fn (fun v ah=>∃bJ,v= .ok bJ∧freeze ah 0 m bJ=some r))) (gC:AV.eqb m r r=true) (cM:Nat):SpecEntry P env cM g aO r:=by
 have h1:cO (fun F=>gi (exec env F 0 none body (sh fn aO) ⟨.nil,0⟩) (endF env 0 fn)) (fun I=>∃bJ,I.1= .ok bJ∧freeze I.2 0 m bJ=some r):=
  cO.then (g:=fun x _=>endF env 0 fn x) h fun I aj=>by
   obtain⟨v,ah,h1,h2⟩:=aj;exact cO.one (fun _=>h1) h2
 obtain⟨e2,l,au,h2,h3⟩:=h1;have bX:runF env (exec env e2) 0 g aO ⟨.nil,0⟩=some l:=by
  unfold runF;rw[hf];show(match fn.body with|none=>none|some body=>_)=_;rw[hb];show cond _ _ _=_;rw[hn,cond_true];exact h2 e2 (bK _)
 refine WN (aT:=env.aT) gw dS hex lp bX ?_ af cM;cases l with
 |nil=>exact absurd rfl au
 |cons x t=>
  obtain⟨v,aN,bH⟩:=h3 x (by simp);obtain⟨dK,ib⟩:=x;have aN:dK= .ok v:=aN;replace bH:freeze ib 0 env.aT v=some r:=W6 hm bH;subst aN;show(match freeze ib 0 env.aT v with|none=>none|some v1=>cond (cV (vK env.aT 0 v1) t) (some v1) none)=_;rw[bH];have:cV (vK env.aT 0 r) t=true:=by
   have J8:∀y∈t,vK env.aT 0 r y=true:=fun y aJ=>by
    obtain⟨w,de,fV⟩:=h3 y (e_ _ aJ);obtain⟨tE,FJ⟩:=y;have de:tE= .ok w:=de;replace fV:freeze FJ 0 env.aT w=some r:=W6 hm fV;subst de;show(match freeze FJ 0 env.aT w with|some bn=>AV.eqb env.aT bn r|none=>false)=true;rw[fV];exact c4G hm gC
   exact m2 J8
  show cond (cV (vK env.aT 0 r) t) (some r) none=_;rw[this];rfl
end
def c7(f:Nat→AV)(d:Nat)(v:AV):Nat→AV:=fun i=>cond (Nat.beq i d) v (f i)
structure hc(D:List (Nat ⊕ (AV×List AV)))(n:Nat)(f:Nat→AV)(ae:Fr):Prop where
 get:∀i,ae.aW.get i=if i<n then some (f i) else none
 ds:ae.defers=D
 rc:ae.eZ=false
theorem hc.put{D:List (Nat ⊕ (AV×List AV))}{n d:Nat}{f:Nat→AV}{ae:Fr}(h:hc D n f ae)(v:AV)(an:Nat.blt d n=true):hc D n (c7 f d v) (ae.put (some d) v):=by
 have an:d<n:=eY an;refine⟨fun i=>?_,h.ds,h.rc⟩;show(ae.aW.set d v).get i=_;rw[aP.ix,h.get d,h.get i,if_pos an];by_cases hi:i=d
 ·subst hi;rw[if_pos rfl,if_pos an];show some v=some (cond (Nat.beq i i) v (f i));rw[fR];rfl
 ·rw[if_neg hi];have:c7 f d v i=f i:=by
   show cond (Nat.beq i d) v (f i)=f i;cases hb:Nat.beq i d with
   |false=>rfl
   |true=>exact absurd (eM hb) hi
  rw[this]
def dV(env:Env)(n:Nat)(f:Nat→AV):az→Option AV
 | .t i=>cond (Nat.blt i n) (some (f i)) none
 | .c v=>some v
 | .g g=>match env.jm g with|some v=>some (.cG true v)|none=>none
theorem hc.aw{D:List (Nat ⊕ (AV×List AV))}{n:Nat}{f:Nat→AV}{ae:Fr}(h:hc D n f ae)(env:Env):evalA env ae.aW=dV env n f:=by
 funext x
 cases x with
 |t i=>
  show ae.aW.get i=cond (Nat.blt i n) (some (f i)) none;rw[h.get];by_cases hi:i<n
  ·rw[if_pos hi,show Nat.blt i n=true from kg hi];rfl
  ·rw[if_neg hi,show Nat.blt i n=false from by cases hb:Nat.blt i n with|false=>rfl|true=>exact absurd (eY hb) hi];rfl
 |c v=>rfl
 |g g=>rfl
def gk(g:Option (Nat×Bool))(n:Nat)(f:Nat→AV):Bool:=
 match g with
 |none=>true
 |some (d,w)=>cond (Nat.blt d n) (match f d with| .b x=>x==w|_=>false) false
theorem hc.wanted{D:List (Nat ⊕ (AV×List AV))}{n:Nat}{f:Nat→AV}{ae:Fr}(h:hc D n f ae)(g:Option (Nat×Bool)):wantedA g ae.aW=gk g n f:=by
 cases g with
 |none=>rfl
 |some p=>
  obtain⟨d,w⟩:=p;show(match ae.aW.get d with|some (.b x)=>x==w|_=>false)=cond (Nat.blt d n) _ false;rw[h.get];by_cases hi:d<n
  ·rw[if_pos hi,show Nat.blt d n=true from kg hi,cond_true];cases f d<;>rfl
  ·rw[if_neg hi,show Nat.blt d n=false from by cases hb:Nat.blt d n with|false=>rfl|true=>exact absurd (eY hb) hi];rfl
abbrev fo:=gn→(Nat→AV)→ad→Prop
def rH(D:List (Nat ⊕ (AV×List AV)))(n:Nat)(Q:fo):qo:=fun x ae o=>∃f,hc D n f ae∧Q x f o
def ck(env:Env)(aH:Option Nat)(D:List (Nat ⊕ (AV×List AV)))(n:Nat)(c:bc)(f:Nat→AV)(o:ad)(Q:fo):Prop:=∀ae,hc D n f ae→fh env 0 aH c ae o (rH D n Q)
def dJ(env:Env)(aH:Option Nat)(D:List (Nat ⊕ (AV×List AV)))(n:Nat)(ops:List aQ)(f:Nat→AV)(o:ad)(Q:fo):Prop:=∀ae,hc D n f ae→jQ env 0 aH.isNone ops ae o (rH D n Q)
abbrev U(env:Env):=ck env none []
section
variable {env:Env}{aH:Option Nat}{D:List (Nat ⊕ (AV×List AV))}{n:Nat}{f:Nat→AV}{o:ad}{Q:fo}
theorem ck.mono{c:bc}{m1:fo}(h:ck env aH D n c f o Q)(aI:∀x f o,Q x f o→m1 x f o):ck env aH D n c f o m1:=fun ae bl=>(h ae bl).mono fun _ _ _ ⟨f,h1,h2⟩=>⟨f,h1,aI _ _ _ h2⟩
theorem U.skip(h:Q .normal f o):ck env aH D n .skip f o Q:=fun _ bl=>fh.skip ⟨f,bl,h⟩
theorem U.ret(h:Q .ret f o):ck env aH D n .ret f o Q:=fun _ bl=>fh.ret ⟨f,bl,h⟩
theorem U.exit{id:Nat}(h:Q (.exit id) f o):ck env aH D n (.exit id) f o Q:=fun _ bl=>fh.exit ⟨f,bl,h⟩
theorem U.region{ops:List aQ}(h:dJ env aH D n ops f o Q):ck env aH D n (.region ops) f o Q:=fun ae bl=>fh.region (h ae bl)
theorem U.seq{a b:bc}(h:ck env aH D n a f o (fun x f o=>match x with| .normal=>ck env aH D n b f o Q|x=>Q x f o)):ck env aH D n (.seq a b) f o Q:=fun ae bl=>fh.seq ((h ae bl).mono fun x ae o ⟨f,h1,h2⟩=>by
 cases x with
 |normal=>exact h2 ae h1
 |exit i=>exact⟨f,h1,h2⟩
 |ret=>exact⟨f,h1,h2⟩
 |panic v=>exact⟨f,h1,h2⟩)
theorem U.block{a:bc}{id:Nat}(h:ck env aH D n a f o (fun x f o=>match x with| .exit j=>cond (Nat.beq j id) (Q .normal f o) (Q (.exit j) f o)|x=>Q x f o)):ck env aH D n (.block id a) f o Q:=fun ae bl=>fh.block ((h ae bl).mono fun x ae o ⟨f,h1,h2⟩=>by
 cases x with
 |normal=>exact⟨f,h1,h2⟩
 |exit i=>
  have h2:cond (Nat.beq i id) (Q .normal f o) (Q (.exit i) f o):=h2;show if i=id then rH D n Q .normal ae o else rH D n Q (.exit i) ae o
  cases hb:Nat.beq i id with
  |false=>rw[if_neg (fun h=>by rw[h,fR] at hb;cases hb)];rw[hb] at h2;exact⟨f,h1,h2⟩
  |true=>rw[if_pos (eM hb)];rw[hb] at h2;exact⟨f,h1,h2⟩
 |ret=>exact⟨f,h1,h2⟩
 |panic v=>exact⟨f,h1,h2⟩)
theorem U.eE{I:az}{a b:bc}{t:Bool}(aj:dV env n f I=some (.b t))(ht:t=true→ck env aH D n a f o Q)(hf:t=false→ck env aH D n b f o Q):ck env aH D n (.cond I a b) f o Q:=fun ae bl=>
 fh.eE (by rw[bl.aw];exact aj) (fun h=>ht h ae bl) (fun h=>hf h ae bl)
theorem U.loop{a:bc}(eL:Nat→(Nat→AV)→ad→Prop)(bo:∀m f o,eL m f o→ck env aH D n a f o (fun x bC ah=>match x with| .normal=>∃aG,aG<m∧eL aG bC ah|x=>Q x bC ah))(m:Nat)(h:eL m f o):ck env aH D n (.loop a) f o Q:=fun ae bl=>
 fh.loop (Q:=rH D n Q) (fun m ae o=>∃f,hc D n f ae∧eL m f o) (fun m ae o ⟨f,h1,h2⟩=>(bo m f o h2 ae h1).mono fun x bQ ah ⟨bC,h3,aN⟩=>by
  cases x with
  |normal=>obtain⟨aG,bH,de⟩:=aN;exact⟨aG,bH,bC,h3,de⟩
  |exit i=>exact⟨bC,h3,aN⟩
  |ret=>exact⟨bC,h3,aN⟩
  |panic v=>exact⟨bC,h3,aN⟩) m ae o ⟨f,bl,h⟩
theorem aA.nil(h:Q .normal f o):dJ env aH D n [] f o Q:=fun _ bl=>jQ.nil ⟨f,bl,h⟩
theorem aA.val{d:Nat}{op:AOp}{g:Option (Nat×Bool)}{wn:List Nat}{ops:List aQ}{v:AV}{ah:ad}(an:Nat.blt d n=true)(hw:gk g n f=true)(aj:opx 0 (dV env n f) o op=some (.val v ah))(h:dJ env aH D n ops (c7 f d v) ah Q):
  dJ env aH D n (⟨some d,op,g,wn⟩::ops) f o Q:=fun ae bl=>jQ.val (by rw[bl.wanted];exact hw) (by rw[bl.aw];exact aj) (h _ (bl.put v an))
theorem aA.sM{op:AOp}{g:Option (Nat×Bool)}{wn:List Nat}{ops:List aQ}{v:AV}{ah:ad}(hw:gk g n f=true)(aj:opx 0 (dV env n f) o op=some (.val v ah))(h:dJ env aH D n ops f ah Q):
  dJ env aH D n (⟨none,op,g,wn⟩::ops) f o Q:=fun ae bl=>jQ.val (by rw[bl.wanted];exact hw) (by rw[bl.aw];exact aj) (h _ bl)
theorem aA.off{d:Nat}{op:AOp}{g:Option (Nat×Bool)}{wn:List Nat}{ops:List aQ}(an:Nat.blt d n=true)(hw:gk g n f=false)(h:dJ env aH D n ops (c7 f d dw) o Q):
  dJ env aH D n (⟨some d,op,g,wn⟩::ops) f o Q:=fun ae bl=>jQ.off (by rw[bl.wanted];exact hw) (h _ (bl.put _ an))
theorem aA.spec{d:Nat}{op:AOp}{g:Option (Nat×Bool)}{wn:List Nat}{ops:List aQ}{fn:Nat}{args aO:List AV}{r:AV}(an:Nat.blt d n=true)(hw:gk g n f=true)(aj:opx 0 (dV env n f) o op=some (.call (.f (.func fn) [] []) args))
  (he:env.ext fn=0) (hp:env.pure fn=true) (ha:mapO (bW o env.aT) args=some aO) (hs:env.spec fn aO=some r) (h:dJ env aH D n ops (c7 f d r) o Q):dJ env aH D n (⟨some d,op,g,wn⟩::ops) f o Q:=fun ae bl=>
 jQ.call (by rw[bl.wanted];exact hw) (by rw[bl.aw];exact aj) (cy.spec he hp (by simpa using ha) hs (h _ (bl.put r an)))
end
def sat:List (Nat×AV)→(Nat→AV)→Prop
 |[],_=>True
 |(i,v)::L,f=>f i=v∧sat L f
def cg:List (Nat×AV)→(Nat→AV)→Nat→AV
 |[],f=>f
 |(i,v)::L,f=>c7 (cg L f) i v
theorem c4H{f:Nat→AV}{i:Nat}{v:AV}(h:f i=v):c7 f i v=f:=by
 funext j
 show cond (Nat.beq j i) v (f j)=f j;cases hb:Nat.beq j i with
 |false=>rfl
 |true=>rw[eM hb,h];rfl
theorem Cc:∀ {L:List (Nat×AV)} {f:Nat→AV},sat L f→cg L f=f
 |[],_,_=>rfl
 |(i,v)::L,f,⟨h1,h2⟩=>by
  show c7 (cg L f) i v=f;rw[Cc h2,c4H h1]
theorem U.norm{env:Env}{aH:Option Nat}{D:List (Nat ⊕ (AV×List AV))}{n:Nat}{c:bc}{f:Nat→AV}{o:ad}{Q:fo}(L:List (Nat×AV))(hs:sat L f)(h:∀g,ck env aH D n c (cg L g) o Q):ck env aH D n c f o Q:=by
 rw[←Cc hs];exact h f
section
variable {floor:Nat}{aw:az→Option AV}{o:ad}
theorem qp{R:Option Nat}{a:az}(p v:AV)(h1:aw a=some p)(h2:q6 o R p=some v):opx floor aw o (.load R a)=some (.val v o):=by
 show(match aw a with|some p=>(match q6 o R p with|some v=>some (bG.val v o)|none=>none)|none=>none)=_;rw[h1];show(match q6 o R p with|some v=>some (bG.val v o)|none=>none)=_;rw[h2]
theorem sT{R:Option Nat}{id off:Nat}{c:List AV}{v:AV}(h1:o.get id=some (.cells c))(h2:eA R (c.drop off)=some v):q6 o R (.p (some (id,off)))=some v:=by
 show(match o.get id with|some (.cells c)=>eA R (c.drop off)|_=>none)=_;rw[h1];exact h2
theorem W9{R:Option Nat}{x i:az}(k:IntKind)(a:AV)(j:Nat)(v:AV)(h1:aw x=some a)(h2:aw i=some (.i k (Int.ofNat j)))(h3:idxSlA R a j=some v):opx floor aw o (.di R x i)=some (.val v o):=by
 show(match aw x,aw i with|some x,some j=>(match natOf j with|some j=>(match idxSlA R x j with|some v=>some (bG.val v o)|none=>none)|none=>none)|_,_=>none)=_;rw[h1,h2];show(match idxSlA R a j with|some v=>some (bG.val v o)|none=>none)=_;rw[h3]
theorem W_{I:Bool}{R:Option Nat}{xs:List AV}{j:Nat}{v:AV}(h:nth xs j=some v):idxSlA R (.aD I R xs) j=some (.cG I v):=by
 show(if R=R then(match nth xs j with|some v=>some (AV.cG I v)|none=>none) else none)=_;rw[if_pos rfl,h]
theorem Cd{op:BinOp}{x y:az}(a b v:AV)(h1:aw x=some a)(h2:aw y=some b)(h3:binop op a b=some v):opx floor aw o (.bin op x y)=some (.val v o):=by
 show(match aw x,aw y with|some a,some b=>(match binop op a b with|some v=>some (bG.val v o)|none=>none)|_,_=>none)=_;rw[h1,h2];show(match binop op a b with|some v=>some (bG.val v o)|none=>none)=_;rw[h3]
end
abbrev aC(n:Nat):AV:=.i .i64 (Int.ofNat n)
theorem Xa{α:Type}:∀(l:List α) (k:Nat) (t:aP α) (i:Nat),(aP.lay l k t).get i=if k≤i then(match l[i-k]? with|some x=>(t.get i).map (fun _=>x)|none=>t.get i) else t.get i
 |[],k,t,i=>by
  show t.get i=_;split<;>simp
 |x::l,k,t,i=>by
  show(aP.lay l (k+1) (t.set k x)).get i=_;rw[Xa l (k+1) (t.set k x) i,aP.ix];by_cases h1:k+1≤i
  ·have h2:k≤i:=by omega
   have h3:i≠k:=by omega
   have aN:(x::l)[i-k]? =l[i-(k+1)]? :=by
    rw[show i-k=(i-(k+1))+1 from by omega];rfl
   rw[if_pos h1,if_pos h2,if_neg h3,aN]
  ·rw[if_neg h1];by_cases h2:i=k
   ·subst h2;rw[if_pos rfl,if_pos (bK _),Ei];rfl
   ·rw[if_neg h2,if_neg (by omega)]
def c4(args:List AV):Nat→AV:=fun i=>args.getD i dw
theorem wP{fn:bV}{args:List AV}(h:args.length≤fn.ntmps):hc [] fn.ntmps (c4 args) (sh fn args):=by
 refine⟨fun i=>?_,rfl,rfl⟩;show(aP.lay args 0 (aP.full fn.ntmps dw fn.ntmps)).get i=_;rw[Xa,if_pos (ir _),Nat.sub_zero];by_cases hi:i<fn.ntmps
 ·rw[if_pos hi,aP.Ez _ _ _ _ hi (bK _)];show _=some (args.getD i dw);rw[p5];cases args[i]? <;>rfl
 ·rw[if_neg hi,UZ (by omega)];cases hg:(aP.full fn.ntmps dw fn.ntmps).get i with
  |none=>rfl
  |some y=>exact absurd (aP.EA _ _ _ _ _ hg).2 hi
theorem Xb{env:Env}{floor:Nat}{fn:bV}{n d:Nat}{f:Nat→AV}{ae:Fr}{o:ad}(h1:hc [] n f ae)(dH:fn.results=[(d,none)])(an:Nat.blt d n=true):endF env floor fn (.ret,ae,o)=some [(.ok (f d),o)]:=by
 show(match leave floor (callD env floor) ae.defers none o with
  |none=>none
  |some (some v,o)=>some [(c6.err v,o)]
  |some (none,o)=>match resultsOf o ae.aW fn.results with
   |some v=>some [(.ok v,o)]
   |none=>none)=_
 rw[h1.ds];show(match resultsOf o ae.aW fn.results with|some v=>some [(c6.ok v,o)]|none=>none)=_;rw[dH];have hg:=h1.get d;have yP:d<n:=eY an;rw[if_pos yP] at hg;have:resultsOf o ae.aW [(d,none)]=some (f d):=by
  unfold resultsOf;have aE:resultOf o ae.aW (d,none)=some (f d):=by
   unfold resultOf;rw[hg]
  have e:mapO (resultOf o ae.aW) [(d,none)]=some [f d]:=by
   unfold mapO;simp only[aE]
  rw[e]
 rw[this]
theorem c4I{P:Program}{env:Env}{m:Nat}(hm:m≤env.aT)(gw:qd P env)(dS:B8 P env)(hex:uf P env)(lp:P.follows .mixedOrders=true){g:Nat}{fn:bV}{body:bc}{aO:List AV}{d:Nat}(r:AV)(hf:env.funcs g=some fn)(hb:fn.body=some body)
  (hn:(Nat.beq aO.length fn.kz&&Nat.ble aO.length fn.ntmps)=true) (dH:fn.results=[(d,none)]) (an:Nat.blt d fn.ntmps=true) {ae:Nat} (af:j8 ae r=true) (gC:AV.eqb m r r=true)
  (h:U env fn.ntmps body (c4 aO) ⟨.nil,0⟩ (fun x f ah=>x= .ret∧freeze ah 0 m (f d)=some r)) (cM:Nat):SpecEntry P env cM g aO r:=by
 have hle:aO.length≤fn.ntmps:=by
  simp only[bT] at hn;exact eY hn.2
 refine FZ hm gw dS hex lp hf hb hn af ((h _ (wP hle)).mono fun x ae ah ⟨f,h1,h2,h3⟩=>?_) gC cM;subst h2;exact⟨.ok (f d),ah,Xb h1 dH an,_,rfl,h3⟩
open Classical in
def Ce(K:Nat→List AV→AV→Prop):Nat→List AV→Option AV:=fun g aO=>if h:∃r,K g aO r then some (Classical.choose h) else none
theorem L8{K:Nat→List AV→AV→Prop}(hf:∀g aO r cj,K g aO r→K g aO cj→r=cj){g:Nat}{aO:List AV}{r:AV}(h:K g aO r):Ce K g aO=some r:=by
 have hex:∃r,K g aO r:=⟨r,h⟩
 unfold Ce;rw[dif_pos hex];exact congrArg some (hf g aO _ _ (Wv hex) h)
theorem F0{K:Nat→List AV→AV→Prop}{g:Nat}{aO:List AV}{r:AV}(h:Ce K g aO=some r):K g aO r:=by
 unfold Ce at h;split at h
 ·rename_i hex;cases h;exact Wv hex
 ·cases h
def cv.bj(b:cv)(K:Nat→List AV→AV→Prop):Env:={funcs:=b.funcs.get,jm:=b.jm,pure:=b.pure,spec:=Ce K,aT:=b.aT+1000,ext:=b.ext,lE:=b.lE}
def yQ(P:Program)(b:cv)(K:Nat→List AV→AV→Prop):Prop:=∀g aO r,K g aO r→∀cM,SpecEntry P (b.env []) cM g aO r
theorem mq{P:Program}{b:cv}{K:Nat→List AV→AV→Prop}(hb:iE P b)(cX:yQ P b K){g:Nat}{fn:bV}{body:bc}{aO:List AV}{d:Nat}(r:AV)(hf:b.funcs.get g=some fn)(j0:fn.body=some body)
  (hn:(Nat.beq aO.length fn.kz&&Nat.ble aO.length fn.ntmps)=true) (dH:fn.results=[(d,none)]) (an:Nat.blt d fn.ntmps=true) {ae:Nat} (af:j8 ae r=true) (gC:AV.eqb 1000 r r=true)
  (h:U (b.bj K) fn.ntmps body (c4 aO) ⟨.nil,0⟩ (fun x f ah=>x= .ret∧freeze ah 0 1000 (f d)=some r)) (cM:Nat):SpecEntry P (b.env []) cM g aO r:=
 c4I (env:=b.bj K) (m:=1000) (FT _ _) ⟨fun g cA hg=>o_.yM hb.funcs g cA hg⟩ (fun cM g aO r hs=>cX g aO r (F0 hs) cM) hb.ext hb.rG r hf j0 hn dH an af gC h cM
def runDraw(env:Env)(floor:Nat)(call:ki)(ops:List aQ):Fr→List ad→List kj→ad→Option iN:=
 List.rec (fun ae bh ws o=>some (ae,bh,ws,o)) (fun I _ ay ae bh ws o=>
  cond (wantedA I.guard ae.aW)
   (match opx floor (evalA env ae.aW) o I.op with
    |some (.val v ah)=>ay (ae.put I.dst v) (o::bh) (match I.iL with|[]=>ws|_::_=>(I,ae.aW,v)::ws) ah
    |some (.call bB args)=>match call bB args o with
     |some [(.ok v,ah)]=>ay (ae.put I.dst v) (o::bh) ws ah
     |_=>none
    |_=>none)
   (ay (ae.put I.dst dw) (o::bh) ws o)) ops
theorem rI{env:Env}{f:Nat}{call:ki}(I:aQ)(pl:List aQ)(ae:Fr)(bh:List ad)(ws:List kj)(o:ad):runDraw env f call (I::pl) ae bh ws o=
  cond (wantedA I.guard ae.aW)
   (match opx f (evalA env ae.aW) o I.op with
    |some (.val v ah)=>runDraw env f call pl (ae.put I.dst v) (o::bh) (match I.iL with|[]=>ws|_::_=>(I,ae.aW,v)::ws) ah
    |some (.call bB args)=>match call bB args o with
     |some [(.ok v,ah)]=>runDraw env f call pl (ae.put I.dst v) (o::bh) ws ah
     |_=>none
    |_=>none)
   (runDraw env f call pl (ae.put I.dst dw) (o::bh) ws o):=rfl
theorem F1{env:Env}{f:Nat}{call:ki}:∀ {pl:List aQ} {ae:Fr} {bh:List ad} {ws:List kj} {o:ad} {x:iN},runDraw env f call pl ae bh ws o=some x→runDraws env f call pl ae bh ws o=some [x]
 |[],_,_,_,_,_,h=>by cases h;rfl
 |I::pl,ae,bh,ws,o,x,h=>by
  rw[rI] at h;rw[runDraws_cons];cases hw:wantedA I.guard ae.aW with
  |false=>rw[hw] at h;exact F1 h
  |true=>
   rw[hw,cond_true] at h;rw[cond_true];cases hx:opx f (evalA env ae.aW) o I.op with
   |none=>rw[hx] at h;cases h
   |some r=>
    rw[hx] at h;cases r with
    |val v ah=>exact F1 h
    |call bB args=>
     simp only[] at h ⊢;cases ab:call bB args o with
     |none=>rw[ab] at h;cases h
     |some l=>
      rw[ab] at h;cases l with
      |nil=>cases h
      |cons y t=>
       obtain⟨tE,FJ⟩:=y;cases t with
       |cons z t=>cases tE<;>cases h
       |nil=>cases tE with
        |ok v=>exact F1 h
        |err v=>cases h
    |kh bB args=>cases h
    |panic v=>cases h
    |gJ l=>cases h
theorem Xc{env:Env}{k:Nat}{aH:Option Nat}{ops:List aQ}{ae bQ:Fr}{o ah:ad}{bh:List ad}{ws:List kj}(h:runDraw env 0 (callV env (exec env k) 0) ops ae [] [] o=some (bQ,bh,ws,ah))(df:ws.all (steady env 0 (ah::bh).reverse)=true)(oc:swapOk env bQ.aW ops=true):exec env (k+1) 0 aH (bc.draw ops) ae o=some [(.normal,bQ,ah)]:=by
 rw[mj];show(match runDraws env 0 (callV env (exec env k) 0) ops ae [] [] o with|some l=>mapO (drawn env 0 ops) l|none=>none)=_;rw[F1 h];have an:drawn env 0 ops (bQ,bh,ws,ah)=some (.normal,bQ,ah):=by
  unfold drawn;rw[df,oc];rfl
 show mapO (drawn env 0 ops) [(bQ,bh,ws,ah)]=_;rw[mapO_cons,an];rfl
def c4J(env:Env)(o:ad)(w:kj):Prop:=∃v,opx 0 (evalA env w.2.1) o w.1.op=some (.val v o)∧AV.eqb env.aT v w.2.2=true
def ef(env:Env)(D:List (Nat ⊕ (AV×List AV)))(n:Nat)(ops:List aQ)(f:Nat→AV)(o:ad)(Q:(Nat→AV)→Prop):Prop:=
 ∀ae,hc D n f ae→∃e2 bQ bC wn,(∀F,e2≤F→∀bh ws,runDraw env 0 (callV env (exec env F) 0) ops ae bh ws o=some (bQ,List.replicate ops.length o++bh,wn++ws,o))∧hc D n bC bQ∧Q bC∧∀w∈wn,c4J env o w∧w.1∈ops
section
variable {env:Env}{aH:Option Nat}{D:List (Nat ⊕ (AV×List AV))}{n:Nat}{f:Nat→AV}{o:ad}{Q:(Nat→AV)→Prop}
theorem L9(k:Nat)(bh:List ad):List.replicate k o++o::bh=List.replicate (k+1) o++bh:=by
 rw[List.replicate_succ',kn];rfl
theorem ef.nil(h:Q f):ef env D n [] f o Q:=fun ae bl=>⟨0,ae,f,[],fun _ _ _ _=>rfl,bl,h,fun _ hw=>absurd hw (by simp)⟩
theorem ef.val{d:Nat}{op:AOp}{g:Option (Nat×Bool)}{ops:List aQ}{v:AV}(an:Nat.blt d n=true)(hw:gk g n f=true)(aj:opx 0 (dV env n f) o op=some (.val v o))(h:ef env D n ops (c7 f d v) o Q):
  ef env D n (⟨some d,op,g,[]⟩::ops) f o Q:=fun ae bl=>by
 obtain⟨e2,bQ,bC,wn,h1,h2,h3,aN⟩:=h _ (bl.put v an);refine⟨e2,bQ,bC,wn,fun F eT bh ws=>?_,h2,h3,fun w hw=>⟨(aN w hw).1,e_ _ (aN w hw).2⟩⟩;rw[rI];show cond (wantedA g ae.aW) _ _=_;rw[bl.wanted,hw,cond_true,bl.aw,aj];show runDraw env 0 _ ops (ae.put (some d) v) (o::bh) ws o=_;rw[h1 F eT,L9];rfl
theorem ef.off{d:Nat}{op:AOp}{g:Option (Nat×Bool)}{wn:List Nat}{ops:List aQ}(an:Nat.blt d n=true)(hw:gk g n f=false)(h:ef env D n ops (c7 f d dw) o Q):
  ef env D n (⟨some d,op,g,wn⟩::ops) f o Q:=fun ae bl=>by
 obtain⟨e2,bQ,bC,wn,h1,h2,h3,aN⟩:=h _ (bl.put _ an);refine⟨e2,bQ,bC,wn,fun F eT bh ws=>?_,h2,h3,fun w hw=>⟨(aN w hw).1,e_ _ (aN w hw).2⟩⟩;rw[rI];show cond (wantedA g ae.aW) _ _=_;rw[bl.wanted,hw,cond_false,h1 F eT,L9];rfl
theorem ef.spec{d:Nat}{op:AOp}{g:Option (Nat×Bool)}{wn:List Nat}{ops:List aQ}{fn:Nat}{args aO:List AV}{r:AV}(an:Nat.blt d n=true)(hw:gk g n f=true)(aj:opx 0 (dV env n f) o op=some (.call (.f (.func fn) [] []) args))
  (he:env.ext fn=0) (hp:env.pure fn=true) (ha:mapO (bW o env.aT) args=some aO) (hs:env.spec fn aO=some r) (h:ef env D n ops (c7 f d r) o Q):ef env D n (⟨some d,op,g,wn⟩::ops) f o Q:=fun ae bl=>by
 obtain⟨e2,bQ,bC,wn,h1,h2,h3,aN⟩:=h _ (bl.put _ an);refine⟨e2,bQ,bC,wn,fun F eT bh ws=>?_,h2,h3,fun w hw=>⟨(aN w hw).1,e_ _ (aN w hw).2⟩⟩;rw[rI];show cond (wantedA g ae.aW) _ _=_;have ab:callV env (exec env F) 0 (.f (.func fn) [] []) args o=some [(.ok r,o)]:=by
  show callF env (exec env F) 0 fn ([]++args++[]) o=_;unfold callF;rw[he];show cond (env.pure fn) _ _=_;rw[hp,cond_true,wi,jv,ha];show(match env.spec fn aO with|some r=>_|none=>_)=_;rw[hs]
 rw[bl.wanted,hw,cond_true,bl.aw,aj];show(match callV env (exec env F) 0 (.f (.func fn) [] []) args o with|some [(.ok v,ah)]=>runDraw env 0 _ ops (ae.put (some d) v) (o::bh) ws ah|_=>none)=_;rw[ab];show runDraw env 0 _ ops (ae.put (some d) r) (o::bh) ws o=_;rw[h1 F eT,L9];rfl
def c4K(ops:List aQ):Bool:=cV (fun I=>cV (fun q=>Nat.ble q ops.length) I.iL) ops
def swapT(ops:List aQ):Bool:=match ops.reverse with|y::_=>(match y.iL with|[]=>true|_::_=>false)|[]=>true
theorem L_{env:Env}{al:aP AV}{ops:List aQ}(h:swapT ops=true):swapOk env al ops=true:=by
 unfold swapT at h;unfold swapOk;cases af:ops.reverse with
 |nil=>rfl
 |cons y t=>
  rw[af] at h;cases t with
  |nil=>rfl
  |cons x t=>
   cases hw:y.iL with
   |nil=>simp only[hw]
   |cons a l=>simp only[hw] at h;cases h
theorem sU{α:Type}{p:α→Bool}{l:List α}(h:cV p l=true):∀x∈l,p x=true:=fun x hx=>jt h x hx
theorem Xd{α:Type}(x:α):∀ {k q:Nat},q<k→nth (List.replicate k x) q=some x
 |0,q,h=>by omega
 |k+1,0,_=>rfl
 |k+1,q+1,h=>by
  show nth (List.replicate k x) q=some x;exact Xd x (by omega)
theorem U.draw{ops:List aQ}{Q:fo}(hw:c4K ops=true)(hs:swapT ops=true)(h:ef env D n ops f o (fun bC=>Q .normal bC o)):ck env aH D n (.draw ops) f o Q:=fun ae bl=>by
 obtain⟨e2,bQ,bC,wn,h1,h2,h3,aN⟩:=h ae bl;refine⟨e2+1,[(.normal,bQ,o)],by simp,fun F eT=>?_,fun I aj=>?_⟩
 ·obtain⟨k,rfl⟩:∃k,F=k+1:=⟨F-1,by omega⟩
  have h1:=h1 k (by omega) [] [];rw[jv,jv] at h1;refine Xc h1 ?_ (L_ hs);have:wn.all (steady env 0 (o::List.replicate ops.length o).reverse)=true:=by
   rw[fI];intro w mr;obtain⟨⟨v,pX,so⟩,e9⟩:=aN w mr;unfold steady;refine m2 fun q aI=>?_;have yL:q≤ops.length:=eY (sU (sU hw w.1 e9) q aI);have:(o::List.replicate ops.length o).reverse=List.replicate (ops.length+1) o:=by
    rw[←UY,List.reverse_replicate]
   rw[this,Xd o (by omega)];show(match pM w.1.op 0 (evalA env w.2.1) o with|some (.val v _)=>AV.eqb env.aT v w.2.2|_=>false)=true;rw[uc,pX];exact so
  exact this
 ·rw[e3.1 aj];exact⟨bC,h2,h3⟩
theorem Cf{floor:Nat}{call:ki}{b:List aQ}:∀(a:List aQ) (ae:Fr) (bh:List ad) (ws:List kj) (o:ad),runDraw env floor call (a++b) ae bh ws o=(match runDraw env floor call a ae bh ws o with|some (bQ,jx,Ma,ah)=>runDraw env floor call b bQ jx Ma ah|none=>none)
 |[],_,_,_,_=>rfl
 |I::a,ae,bh,ws,o=>by
  rw[n2,rI,rI];cases wantedA I.guard ae.aW with
  |false=>exact Cf a _ _ _ _
  |true=>
   rw[cond_true,cond_true];cases opx floor (evalA env ae.aW) o I.op with
   |none=>rfl
   |some r=>
    cases r with
    |val v ah=>exact Cf a _ _ _ _
    |call bB args=>
     show(match call bB args o with|some [(.ok v,ah)]=>runDraw env floor call (a++b) (ae.put I.dst v) (o::bh) ws ah|_=>none)=(match(match call bB args o with|some [(.ok v,ah)]=>runDraw env floor call a (ae.put I.dst v) (o::bh) ws ah|_=>none) with|some (bQ,jx,Ma,ah)=>runDraw env floor call b bQ jx Ma ah|none=>none);cases call bB args o with
     |none=>rfl
     |some l=>
      cases l with
      |nil=>rfl
      |cons x t=>
       obtain⟨dK,ib⟩:=x;cases t with
       |nil=>cases dK with
        |ok v=>exact Cf a _ _ _ _
        |err v=>rfl
       |cons y t=>cases dK<;>rfl
    |kh bB args=>rfl
    |panic v=>rfl
    |gJ l=>rfl
end
def Snp(n:Nat)(v:AV):Prop:=∀o,bW o n v=some v
theorem F2{f:AV→Option AV}:∀ {l:List AV},(∀x∈l,f x=some x)→mapO f l=some l
 |[],_=>rfl
 |x::l,h=>by rw[jw,h x (by simp),F2 fun y aJ=>h y (e_ _ aJ)]
theorem F3{α:Type}{f:AV→Option AV}{g h:α→AV}:∀ {l:List α},(∀x∈l,f (g x)=some (h x))→mapO f (l.map g)=some (l.map h)
 |[],_=>rfl
 |x::l,hx=>by rw[k9,jw,hx x (by simp),F3 fun y aJ=>hx y (e_ _ aJ)];rfl
theorem Snp.i(n:Nat)(k:IntKind)(x:Int):Snp (n+1) (.i k x):=fun _=>rfl
theorem Snp.b(n:Nat)(x:Bool):Snp (n+1) (.b x):=fun _=>rfl
theorem Snp.s(n:Nat)(x:List Nat):Snp (n+1) (.s x):=fun _=>rfl
theorem Snp.J(n:Nat):Snp (n+1) .J:=fun _=>rfl
theorem Snp.ag{n:Nat}{l:List AV}(h:∀x∈l,Snp n x):Snp (n+1) (.ag l):=fun o=>by
 show(match mapO (bW o n) l with|none=>none|some l=>some (AV.ag l))=_;rw[F2 fun x hx=>h x hx o]
theorem Snp.aD{n:Nat}{R:Option Nat}{l:List AV}(h:∀x∈l,Snp n x):Snp (n+1) (.aD true R l):=fun o=>by
 show(match mapO (bW o n) l with|none=>none|some xs=>some (AV.aD true R xs))=_;rw[F2 fun x hx=>h x hx o]
theorem ux{α:Type}{f:α→α→Bool}:∀ {l:List α},(∀x∈l,f x x=true)→fD f l l=true
 |[],_=>rfl
 |x::l,h=>by
  show cond (f x x) (fD f l l) false=true;rw[h x (by simp),cond_true];exact ux fun y aJ=>h y (e_ _ aJ)
theorem wQ:∀l,eqL l l=true
 |[]=>rfl
 |x::l=>by
  show cond (Nat.beq x x) (eqL l l) false=true;rw[fR,cond_true,wQ l]
theorem Snp.eqb:∀(n:Nat) (v:AV),Snp n v→AV.eqb n v v=true
 |0,v,h=>by have:=h ⟨.nil,0⟩;cases this
 |n+1,v,h=>by
  have ay:=Snp.eqb n;cases v with
  |b x=>show(x==x)=true;simp
  |i k x=>show(decide (k=k)&&decide (x=x))=true;simp
  |s l=>exact wQ l
  |p a=>cases a with
   |none=>rfl
   |some a=>have:=h ⟨.nil,0⟩;cases this
  |cG I v=>have:=h ⟨.nil,0⟩;cases this
  |al a b c d e=>
   have hs:=h ⟨.nil,0⟩;have:bW ⟨.nil,0⟩ (n+1) (.al a b c d e)=(match readList ⟨.nil,0⟩ (.al a b c d e) with|none=>none|some xs=>match mapO (bW ⟨.nil,0⟩ n) xs with|none=>none|some xs=>some (AV.aD true d xs)):=rfl;rw[this] at hs;split at hs
   ·cases hs
   ·split at hs<;>cases hs
  |J=>rfl
  |aD I R xs=>
   have hs:=h ⟨.nil,0⟩;have e:bW ⟨.nil,0⟩ (n+1) (.aD I R xs)=(match mapO (bW ⟨.nil,0⟩ n) xs with|none=>none|some xs=>some (AV.aD true R xs)):=rfl;show((I==I)&&decide (R=R)&&fD (AV.eqb n) xs xs)=true;have hx:∀o,mapO (bW o n) xs=some xs:=fun o=>by
    have hs:=h o;have e:bW o (n+1) (.aD I R xs)=(match mapO (bW o n) xs with|none=>none|some xs=>some (AV.aD true R xs)):=rfl;rw[e] at hs;cases hm:mapO (bW o n) xs with
    |none=>rw[hm] at hs;cases hs
    |some aZ=>rw[hm] at hs;simp only[ca,AV.aD.injEq] at hs;rw[hs.2.2]
   have hall:fD (AV.eqb n) xs xs=true:=ux fun x ga=>ay x fun o=>by
    have:=hx o;exact Mb this x ga
   simp[hall]
  |m r=>cases r with
   |none=>rfl
   |some r=>have:=h ⟨.nil,0⟩;cases this
  |f a b c=>have:=h ⟨.nil,0⟩;cases this
  |iK=>rfl
  |it t v=>
   show(Nat.beq t t&&AV.eqb n v v)=true;rw[fR,gS];refine ay v fun o=>?_;have hs:=h o;have e:bW o (n+1) (.it t v)=(match bW o n v with|none=>none|some v=>some (AV.it t v)):=rfl;rw[e] at hs;cases hm:bW o n v with
   |none=>rw[hm] at hs;cases hs
   |some y=>rw[hm] at hs;simp only[ca,AV.it.injEq,true_and] at hs;rw[hs]
  |fb=>rfl
  |ag l=>
   show fD (AV.eqb n) l l=true;refine ux fun x ga=>ay x fun o=>?_;have hs:=h o;have e:bW o (n+1) (.ag l)=(match mapO (bW o n) l with|none=>none|some l=>some (AV.ag l)):=rfl;rw[e] at hs;cases hm:mapO (bW o n) l with
   |none=>rw[hm] at hs;cases hs
   |some aZ=>rw[hm] at hs;simp only[ca,AV.ag.injEq] at hs;subst hs;exact Mb hm x ga
  |aK l=>
   show fD (AV.eqb n) l l=true;refine ux fun x ga=>ay x fun o=>?_;have hs:=h o;have e:bW o (n+1) (.aK l)=(match mapO (bW o n) l with|none=>none|some l=>some (AV.aK l)):=rfl;rw[e] at hs;cases hm:mapO (bW o n) l with
   |none=>rw[hm] at hs;cases hs
   |some aZ=>rw[hm] at hs;simp only[ca,AV.aK.injEq] at hs;subst hs;exact Mb hm x ga
  |hq k d j=>show(decide (k=k)&&(Nat.beq d d&&Nat.beq j j))=true;simp
  |fY l=>exact ux fun x _=>wQ x
  |iu hi=>show(hi==hi)=true;simp
  |y i=>exact fR i
  |eN I i=>show((I==I)&&Nat.beq i i)=true;simp
  |gH i=>exact fR i
  |iv i j=>show(Nat.beq i i&&Nat.beq j j)=true;simp
  |jl I R xs=>exact absurd (h (default:ad)) (by rw[show bW (default:ad) (n+1) (.jl I R xs)=none from rfl];simp)
where
 Mb {f:AV→Option AV}:∀ {l:List AV},mapO f l=some l→∀x∈l,f x=some x:=fun {l}=>by
  induction l with
  |nil=>intro _ x hx;simp at hx
  |cons a l gY=>
   intro h x hx;rw[jw] at h;cases ha:f a with
   |none=>rw[ha] at h;cases h
   |some y=>
    rw[ha] at h;cases au:mapO f l with
    |none=>simp only[au] at h;cases h
    |some aZ=>
     simp only[au,ca,q1] at h;obtain⟨h1,h2⟩:=h;subst h1;subst h2;rcases dP.1 hx with rfl|hx
     ·exact ha
     ·exact gY au x hx
theorem Xe{a b:Nat}:decide (Int.ofNat a=Int.ofNat b)=decide (a=b):=decide_eq_decide.2 ⟨pH,fun h=>by rw[h]⟩
theorem c4L{k:IntKind}{a b:Nat}:binop .eql (.i k (Int.ofNat a)) (.i k (Int.ofNat b))=some (.b (decide (a=b))):=by
 rw[←Xe];show(if k=k then binI .eql k (Int.ofNat a) (Int.ofNat b) else none)=_;rw[if_pos rfl];rfl
theorem c4M{k:IntKind}{a b:Nat}:binop .neq (.i k (Int.ofNat a)) (.i k (Int.ofNat b))=some (.b (!decide (a=b))):=by
 rw[←Xe];show(if k=k then binI .neq k (Int.ofNat a) (Int.ofNat b) else none)=_;rw[if_pos rfl];rfl
def cmpO(op:BinOp)(a b:Nat):Option AV:=
 match op with
 | .eql=>some (.b (decide (a=b)))
 | .neq=>some (.b (!decide (a=b)))
 | .lss=>some (.b (decide (a<b)))
 | .leq=>some (.b (decide (a≤b)))
 | .gtr=>some (.b (decide (b<a)))
 | .geq=>some (.b (decide (b≤a)))
 |_=>none
theorem fa{op:BinOp}{k:IntKind}{a b:Nat}{v:AV}(h:cmpO op a b=some v):binop op (.i k (Int.ofNat a)) (.i k (Int.ofNat b))=some v:=by
 cases op with
 |eql=>rw[c4L];exact h
 |neq=>rw[c4M];exact h
 |lss=>
  rw[←h];show(if k=k then binI .lss k (Int.ofNat a) (Int.ofNat b) else none)=_;rw[if_pos rfl];show some (AV.b (decide ((Int.ofNat a)<Int.ofNat b)))=some (.b (decide (a<b)))
  congr 2;simp
 |leq=>
  rw[←h];show(if k=k then binI .leq k (Int.ofNat a) (Int.ofNat b) else none)=_;rw[if_pos rfl];show some (AV.b (decide ((Int.ofNat a)≤Int.ofNat b)))=some (.b (decide (a≤b)))
  congr 2;simp
 |gtr=>
  rw[←h];show(if k=k then binI .gtr k (Int.ofNat a) (Int.ofNat b) else none)=_;rw[if_pos rfl];show some (AV.b (decide ((Int.ofNat b)<Int.ofNat a)))=some (.b (decide (b<a)))
  congr 2;simp
 |geq=>
  rw[←h];show(if k=k then binI .geq k (Int.ofNat a) (Int.ofNat b) else none)=_;rw[if_pos rfl];show some (AV.b (decide ((Int.ofNat b)≤Int.ofNat a)))=some (.b (decide (b≤a)))
  congr 2;simp
 |_=>cases h
theorem Mc{n:Nat}(h:n<2^63):wrapN .i64 (Int.ofNat n)=Int.ofNat n:=by
 show cond (Nat.blt n 9223372036854775808) (Int.ofNat n) _=_;rw[show Nat.blt n 9223372036854775808=true from kg (by omega)];rfl
theorem mv{a b:Nat}(h:a+b<2^63):binop .add (aC a) (aC b)=some (aC (a+b)):=by
 show some (AV.i .i64 (wrapN .i64 (Int.ofNat (a+b))))=_;rw[Mc h]
theorem F4{a b:Nat}(hb:b≤a)(h:a<2^63):binop .sub (aC a) (aC b)=some (aC (a-b)):=by
 show some (AV.i .i64 (wrapN .i64 (Int.ofNat a-Int.ofNat b)))=_;have:Int.ofNat a-Int.ofNat b=Int.ofNat (a-b):=by simp only[vE];omega
 rw[this,Mc (by omega)]
def Xf:AOp→Bool
 | .bin _ _ _=>false
 | .conv _ _=>false
 | .append _ _ _ _=>false
 | .buildSlice _ _ _ _=>false
 | .neg _=>false
 |_=>true
section
variable {env:Env}{aH:Option Nat}{D:List (Nat ⊕ (AV×List AV))}{n:Nat}{f:Nat→AV}{o:ad}{Q:fo}
theorem aA.go{d:Nat}{op:AOp}{g:Option (Nat×Bool)}{wn:List Nat}{ops:List aQ}{v:AV}{ah:ad}(_hb:Xf op=true)(an:Nat.blt d n=true)(hw:gk g n f=true)(aj:opx 0 (dV env n f) o op=some (.val v ah))(h:dJ env aH D n ops (c7 f d v) ah Q):
  dJ env aH D n (⟨some d,op,g,wn⟩::ops) f o Q:=aA.val an hw aj h
theorem aA.bin{d:Nat}{op:BinOp}{x y:az}{g:Option (Nat×Bool)}{wn:List Nat}{ops:List aQ}{a b v:AV}(an:Nat.blt d n=true)(hw:gk g n f=true)(h1:dV env n f x=some a)(h2:dV env n f y=some b)(h3:binop op a b=some v)
  (h:dJ env aH D n ops (c7 f d v) o Q):dJ env aH D n (⟨some d,.bin op x y,g,wn⟩::ops) f o Q:=aA.val an hw (Cd a b v h1 h2 h3) h
theorem aA.cmp{d:Nat}{op:BinOp}{x y:az}{g:Option (Nat×Bool)}{wn:List Nat}{ops:List aQ}{k:IntKind}{a b:Nat}{v:AV}(an:Nat.blt d n=true)(hw:gk g n f=true)(h1:dV env n f x=some (.i k (Int.ofNat a)))(h2:dV env n f y=some (.i k (Int.ofNat b)))(h3:cmpO op a b=some v)
  (h:dJ env aH D n ops (c7 f d v) o Q):dJ env aH D n (⟨some d,.bin op x y,g,wn⟩::ops) f o Q:=aA.val an hw (Cd _ _ v h1 h2 (fa h3)) h
theorem ef.cmp{d:Nat}{op:BinOp}{x y:az}{g:Option (Nat×Bool)}{ops:List aQ}{k:IntKind}{a b:Nat}{v:AV}{Q:(Nat→AV)→Prop}(an:Nat.blt d n=true)(hw:gk g n f=true)(h1:dV env n f x=some (.i k (Int.ofNat a)))(h2:dV env n f y=some (.i k (Int.ofNat b)))(h3:cmpO op a b=some v)
  (h:ef env D n ops (c7 f d v) o Q):ef env D n (⟨some d,.bin op x y,g,[]⟩::ops) f o Q:=ef.val an hw (Cd _ _ v h1 h2 (fa h3)) h
theorem aA.a1{d:Nat}{R:Option Nat}{x:az}{g:Option (Nat×Bool)}{wn:List Nat}{ops:List aQ}{id off:Nat}{c:List AV}{v:AV}(hs:o.get id=some (.cells c))(an:Nat.blt d n=true)(hw:gk g n f=true)(h1:dV env n f x=some (.p (some (id,off))))(h2:eA R (c.drop off)=some v)
  (h:dJ env aH D n ops (c7 f d v) o Q):dJ env aH D n (⟨some d,.load R x,g,wn⟩::ops) f o Q:=aA.val an hw (qp _ _ h1 (sT hs h2)) h
theorem ef.go{d:Nat}{op:AOp}{g:Option (Nat×Bool)}{ops:List aQ}{v:AV}{Q:(Nat→AV)→Prop}(_hb:Xf op=true)(an:Nat.blt d n=true)(hw:gk g n f=true)(aj:opx 0 (dV env n f) o op=some (.val v o))(h:ef env D n ops (c7 f d v) o Q):
  ef env D n (⟨some d,op,g,[]⟩::ops) f o Q:=ef.val an hw aj h
theorem ef.bin{d:Nat}{op:BinOp}{x y:az}{g:Option (Nat×Bool)}{ops:List aQ}{a b v:AV}{Q:(Nat→AV)→Prop}(an:Nat.blt d n=true)(hw:gk g n f=true)(h1:dV env n f x=some a)(h2:dV env n f y=some b)(h3:binop op a b=some v)
  (h:ef env D n ops (c7 f d v) o Q):ef env D n (⟨some d,.bin op x y,g,[]⟩::ops) f o Q:=ef.val an hw (Cd a b v h1 h2 h3) h
theorem ef.a1{d:Nat}{R:Option Nat}{x:az}{g:Option (Nat×Bool)}{ops:List aQ}{id off:Nat}{c:List AV}{v:AV}{Q:(Nat→AV)→Prop}(hs:o.get id=some (.cells c))(an:Nat.blt d n=true)(hw:gk g n f=true)(h1:dV env n f x=some (.p (some (id,off))))(h2:eA R (c.drop off)=some v)
  (h:ef env D n ops (c7 f d v) o Q):ef env D n (⟨some d,.load R x,g,[]⟩::ops) f o Q:=ef.val an hw (qp _ _ h1 (sT hs h2)) h
theorem Xg{aw:az→Option AV}{k:Nat}{x:az}{v:AV}{m:Nat}(h1:aw x=some v)(h2:lenA o k v=some m):opx 0 aw o (.len k x)=some (.val (aC m) o):=by
 show(match aw x with|some x=>(match lenA o k x with|some n=>some (bG.val (aC n) o)|none=>lenU o k x)|none=>none)=_;rw[h1];show(match lenA o k v with|some n=>some (bG.val (aC n) o)|none=>lenU o k v)=_;rw[h2]
theorem aA.len{d k m:Nat}{x:az}{g:Option (Nat×Bool)}{wn:List Nat}{ops:List aQ}{v:AV}(an:Nat.blt d n=true)(hw:gk g n f=true)(h1:dV env n f x=some v)(h2:lenA o k v=some m)(h:dJ env aH D n ops (c7 f d (aC m)) o Q):
  dJ env aH D n (⟨some d,.len k x,g,wn⟩::ops) f o Q:=aA.val an hw (Xg h1 h2) h
theorem aA.idx{d:Nat}{R:Option Nat}{x i:az}{g:Option (Nat×Bool)}{wn:List Nat}{ops:List aQ}{k:IntKind}{a v:AV}{j:Nat}(an:Nat.blt d n=true)(hw:gk g n f=true)(h1:dV env n f x=some a)(h2:dV env n f i=some (.i k (Int.ofNat j)))(h3:idxSlA R a j=some v)
  (h:dJ env aH D n ops (c7 f d v) o Q):dJ env aH D n (⟨some d,.di R x i,g,wn⟩::ops) f o Q:=aA.val an hw (W9 k a j v h1 h2 h3) h
theorem aA.eV{d:Nat}{R:Option Nat}{x:az}{g:Option (Nat×Bool)}{wn:List Nat}{ops:List aQ}{I:Bool}{v:AV}(an:Nat.blt d n=true)(hw:gk g n f=true)(h1:dV env n f x=some (.cG I v))(h2:conf R v=true)
  (h:dJ env aH D n ops (c7 f d v) o Q):dJ env aH D n (⟨some d,.load R x,g,wn⟩::ops) f o Q:=aA.val an hw (qp _ _ h1 (by show(if conf R v then some v else none)=_;rw[if_pos h2])) h
theorem pa{aw:az→Option AV}{x i:az}{k:IntKind}{l:List Nat}{j c:Nat}(h1:aw x=some (.s l))(h2:aw i=some (.i k (Int.ofNat j)))(h:nth l j=some c):opx 0 aw o (.lD x i)=some (.val (.i .u8 (Int.ofNat c)) o):=by
 show(match aw x,aw i with
  |some (.s l),some j=>(match natOf j with
   |some j=>(match nth l j with|some c=>some (bG.val (.i .u8 (Int.ofNat c)) o)|none=>none)
   |none=>none)
  |_,_=>none)=_
 rw[h1,h2];show(match nth l j with|some c=>some (bG.val (.i .u8 (Int.ofNat c)) o)|none=>none)=_;rw[h]
theorem yR{aw:az→Option AV}{x:az}{bs hi:Option az}{s:List Nat}{l h:Nat}(h1:aw x=some (.s s))(h2:bndO aw bs 0=some l)(h3:bndO aw hi s.length=some h)(au:l≤h)(hh:h≤s.length):opx 0 aw o (.oJ x bs hi)=some (.val (.s ((s.drop l).take (h-l))) o):=by
 show(match aw x with
  |some (.s s)=>(match bndO aw bs 0,bndO aw hi s.length with
   |some l,some h=>if Nat.ble l h&&Nat.ble h s.length then some (bG.val (.s ((s.drop l).take (h-l))) o) else none
   |_,_=>none)
  |_=>none)=_
 rw[h1];show(match bndO aw bs 0,bndO aw hi s.length with
   |some l,some h=>if Nat.ble l h&&Nat.ble h s.length then some (bG.val (.s ((s.drop l).take (h-l))) o) else none
   |_,_=>none)=_
 rw[h2,h3];show(if Nat.ble l h&&Nat.ble h s.length then some (bG.val (.s ((s.drop l).take (h-l))) o) else none)=_;rw[if_pos (by rw[kg au,kg hh];rfl)]
theorem c4N{aw:az→Option AV}{m:Nat}{R:Option Nat}{x i:az}{k:IntKind}{I:Bool}{cs:List AV}{j:Nat}{v:AV}(h1:aw x=some (.cG I (.ag cs)))(h2:aw i=some (.i k (Int.ofNat j)))(h:j<m)(h3:eA R (cs.drop (j*shN R))=some v):opx 0 aw o (.xK m R x i)=some (.val (.cG I v) o):=by
 show(match aw x,aw i with
  |some x,some j=>(match natOf j with
   |some j=>(if Nat.blt j m then(match fieldAddrA (j*shN R) R x with|some v=>some (bG.val v o)|none=>none) else none)
   |none=>none)
  |_,_=>none)=_
 rw[h1,h2];show(if Nat.blt j m then(match(match eA R (cs.drop (j*shN R)) with|some v=>some (AV.cG I v)|none=>none) with|some v=>some (bG.val v o)|none=>none) else none)=_;rw[if_pos (show Nat.blt j m=true from kg h),h3]
theorem U.cut{a b:bc}(L:List (Nat×AV))(h1:ck env aH D n a f o (fun x bC ah=>x= .normal∧ah=o∧sat L bC))(h2:∀g,ck env aH D n b (cg L g) o Q):ck env aH D n (.seq a b) f o Q:=U.seq (h1.mono fun x bC ah ⟨aE,aY,cZ⟩=>by
 subst aE;subst aY;show ck env aH D n b bC ah Q;exact U.norm L cZ h2)
theorem U.od{a b:bc}(L:List (Nat×AV)){E:fo}{M:Prop}(h1:ck env aH D n a f o (fun x bC ah=>(x= .normal∧ah=o∧sat L bC∧M)∨E x bC ah))(h3:∀x bC ah,E x bC ah→x≠ .normal∧Q x bC ah)(h2:M→∀g,ck env aH D n b (cg L g) o Q):ck env aH D n (.seq a b) f o Q:=U.seq (h1.mono fun x bC ah h=>by
 rcases h with⟨aE,aY,cZ,lI⟩|h
 ·subst aE;subst aY;show ck env aH D n b bC ah Q;exact U.norm L cZ fun g=>h2 lI g
 ·obtain⟨aE,aY⟩:=h3 _ _ _ h;cases x with
  |normal=>exact absurd rfl aE
  |exit i=>exact aY
  |ret=>exact aY
  |panic v=>exact aY)
theorem aA.box{d:Nat}{x:az}{g:Option (Nat×Bool)}{wn:List Nat}{ops:List aQ}{v:AV}{c:List AV}(k:Nat)(hn:o.next=k)(an:Nat.blt d n=true)(hw:gk g n f=true)(av:dV env n f x=some v)(hval:v.val=true)(ab:v.cells=c)
  (h:∀ah:ad,ah.next=k+1→ah.get k=some (.cells c)→(∀i I,o.get i=some I→ah.get i=some I)→dJ env aH D n ops (c7 f d (.p (some (k,0)))) ah Q):dJ env aH D n (⟨some d,.box x,g,wn⟩::ops) f o Q:=by
 subst hn;refine aA.val (v:=jn o.next 0) (ah:=o.push (.cells c)) an hw ?_ (h (o.push (.cells c)) rfl (ad.jH _) fun i I aj=>?_)
 ·show(match dV env n f x with|some v=>cond v.val (some (bG.val (jn o.next 0) (o.push (.cells v.cells)))) none|none=>none)=_;rw[av];show cond v.val _ _=_;rw[hval,cond_true,ab]
 ·rw[ad.fZ trivial _ (ad.ei aj)];exact aj
theorem aA.alloc{d:Nat}{v:AV}{g:Option (Nat×Bool)}{wn:List Nat}{ops:List aQ}{c:List AV}(k:Nat)(hn:o.next=k)(an:Nat.blt d n=true)(hw:gk g n f=true)(ab:v.cells=c)
  (h:∀ah:ad,ah.next=k+1→ah.get k=some (.cells c)→(∀i I,o.get i=some I→ah.get i=some I)→dJ env aH D n ops (c7 f d (.p (some (k,0)))) ah Q):dJ env aH D n (⟨some d,.alloc v,g,wn⟩::ops) f o Q:=by
 subst hn;refine aA.val (v:=jn o.next 0) (ah:=o.push (.cells c)) an hw ?_ (h (o.push (.cells c)) rfl (ad.jH _) fun i I aj=>?_)
 ·rw[←ab];rfl
 ·rw[ad.fZ trivial _ (ad.ei aj)];exact aj
theorem Xh{aw:az→Option AV}{R:Option Nat}{a x:az}{id off:Nat}{v:AV}{c bR:List AV}(hs:o.get id=some (.cells c))(h1:aw a=some (.p (some (id,off))))(h2:aw x=some v)(iT:conf R v=true)(ab:storeCells c off v.cells=some bR):
  opx 0 aw o (.store R a x)=some (.val dw (o.set id (.cells bR))):=by
 show(match aw a,aw x with
  |some (.p (some (id,off))),some v=>
   if Nat.blt id 0 then none else
   if conf R v then
    match o.get id with
    |some (.cells c)=>match storeCells c off v.cells with
     |some c=>some (bG.val dw (o.set id (.cells c)))
     |none=>none
    |some (.gI c r)=>nR o id c r off v.cells
    |_=>none
   else none
  |_,_=>none)=_
 rw[h1,h2];show(if Nat.blt id 0 then none else if conf R v then(match o.get id with
    |some (.cells c)=>match storeCells c off v.cells with
     |some c=>some (bG.val dw (o.set id (.cells c)))
     |none=>none
    |some (.gI c r)=>nR o id c r off v.cells
    |_=>none) else none)=_
 rw[if_neg (by simp[Nat.blt,Nat.ble]),if_pos iT,hs];show(match storeCells c off v.cells with|some c=>some (bG.val dw (o.set id (.cells c)))|none=>none)=_;rw[ab]
theorem kr{id:Nat}{I bE:AO}(hs:o.get id=some I):(o.set id bE).get id=some bE∧(∀i I,i≠id→o.get i=some I→(o.set id bE).get i=some I):=by
 have bu:=ad.ei hs;refine⟨by rw[ad.ix trivial _ bu,if_pos rfl],fun i I hi aj=>?_⟩;rw[ad.ix trivial _ bu,if_neg hi];exact aj
theorem aA.store{R:Option Nat}{a x:az}{g:Option (Nat×Bool)}{wn:List Nat}{ops:List aQ}{id off:Nat}{v:AV}{c bR:List AV}(hs:o.get id=some (.cells c))(hw:gk g n f=true)(h1:dV env n f a=some (.p (some (id,off))))(h2:dV env n f x=some v)(iT:conf R v=true)(ab:storeCells c off v.cells=some bR)
  (h:∀ah:ad,ah.next=o.next→ah.get id=some (.cells bR)→(∀i I,i≠id→o.get i=some I→ah.get i=some I)→dJ env aH D n ops f ah Q):dJ env aH D n (⟨none,.store R a x,g,wn⟩::ops) f o Q:=
 aA.sM hw (Xh hs h1 h2 iT ab) (h _ rfl (kr hs).1 (kr hs).2)
theorem storeAll{c v:List AV}(h:v.length=c.length):storeCells c 0 v=some v:=by
 unfold storeCells;rw[if_pos (kg (by omega)),rD,h,List.drop_length];simp
theorem aA.var{d:Nat}{z:AV}{R:Option Nat}{x:az}{wn Md:List Nat}{ops:List aQ}{v:AV}{c:List AV}(k:Nat)(hn:o.next=k)(an:Nat.blt d n=true)(h1:Nat.beq d d=true)(hx:dV env n (c7 f d (.p (some (k,0)))) x=some v)(iT:conf R v=true)(ab:v.cells=c)(au:c.length=z.cells.length)
  (h:∀ah:ad,ah.next=k+1→ah.get k=some (.cells c)→(∀i I,o.get i=some I→ah.get i=some I)→dJ env aH D n ops (c7 f d (.p (some (k,0)))) ah Q):dJ env aH D n (⟨some d,.alloc z,none,wn⟩::⟨none,.store R (.t d) x,none,Md⟩::ops) f o Q:=by
 refine aA.alloc k hn an rfl rfl fun bk a6 a2 a3=>?_;refine aA.store (bR:=c) a2 rfl ?_ hx iT (by rw[ab];exact storeAll au) fun b7 dA dQ fE=>h b7 (dA.trans a6) dQ fun i I aj=>fE i I ?_ (a3 i I aj)
 ·show cond (Nat.blt d n) (some (cond (Nat.beq d d) _ (f d))) none=_;rw[an,h1];rfl
 ·have:=ad.ei aj;omega
theorem aA.known{b:cv}{K:Nat→List AV→AV→Prop}{d:Nat}{op:AOp}{g:Option (Nat×Bool)}{wn:List Nat}{ops:List aQ}{fn:Nat}{args aO:List AV}{r:AV}(hf:∀g aO r cj,K g aO r→K g aO cj→r=cj)(he:b.ext fn=0)(hp:b.pure fn=true)(cX:K fn aO r)
  (an:Nat.blt d n=true) (hw:gk g n f=true) (aj:opx 0 (dV (b.bj K) n f) o op=some (.call (.f (.func fn) [] []) args)) (ha:mapO (bW o (b.aT+1000)) args=some aO) (h:dJ (b.bj K) aH D n ops (c7 f d r) o Q):dJ (b.bj K) aH D n (⟨some d,op,g,wn⟩::ops) f o Q:=
 aA.spec an hw aj he hp ha (L8 hf cX) h
theorem ef.known{b:cv}{K:Nat→List AV→AV→Prop}{d:Nat}{op:AOp}{g:Option (Nat×Bool)}{wn:List Nat}{ops:List aQ}{fn:Nat}{args aO:List AV}{r:AV}{Q:(Nat→AV)→Prop}(hf:∀g aO r cj,K g aO r→K g aO cj→r=cj)(he:b.ext fn=0)(hp:b.pure fn=true)(cX:K fn aO r)
  (an:Nat.blt d n=true) (hw:gk g n f=true) (aj:opx 0 (dV (b.bj K) n f) o op=some (.call (.f (.func fn) [] []) args)) (ha:mapO (bW o (b.aT+1000)) args=some aO) (h:ef (b.bj K) D n ops (c7 f d r) o Q):ef (b.bj K) D n (⟨some d,op,g,wn⟩::ops) f o Q:=
 ef.spec an hw aj he hp ha (L8 hf cX) h
theorem dx{n:Nat}{a:AV}{x:AV}(h:bW o n a=some x):mapO (bW o n) [a]=some [x]:=by rw[jw,h];rfl
theorem gT{n:Nat}{a b:AV}{x y:AV}(h:bW o n a=some x)(h2:bW o n b=some y):mapO (bW o n) [a,b]=some [x,y]:=by rw[jw,h,dx h2]
theorem sV{n:Nat}{a b c:AV}{x y z:AV}(h:bW o n a=some x)(h2:bW o n b=some y)(h3:bW o n c=some z):mapO (bW o n) [a,b,c]=some [x,y,z]:=by rw[jw,h,gT h2 h3]
end
def slA(I:Bool)(R:Option Nat):List AV→AV
 |[]=>.J
 |x::l=>.aD I R (x::l)
theorem Xi(o:ad)(I:Bool)(R:Option Nat)(l:List AV):lenA o 1 (slA I R l)=some l.length:=by cases l<;>rfl
theorem uy{α:Type}:∀ {l:List α} {i:Nat} (h:i<l.length),nth l i=some l[i]
 |[],i,h=>by simp at h
 |x::l,0,_=>rfl
 |x::l,i+1,h=>uy (l:=l) (by simpa using h)
theorem c4O{I:Bool}{R:Option Nat}{l:List AV}{i:Nat}(h:i<l.length):idxSlA R (slA I R l) i=some (.cG I l[i]):=by
 cases l with
 |nil=>simp at h
 |cons x l=>exact W_ (uy h)
theorem Xj{α:Type}{o:ad}{I:Bool}{R:Option Nat}{l:List α}{f:α→AV}:lenA o 1 (slA I R (l.map f))=some l.length:=by rw[Xi,dO]
theorem Me{α:Type}{I:Bool}{R:Option Nat}{l:List α}{f:α→AV}{i:Nat}(h:i<l.length):idxSlA R (slA I R (l.map f)) i=some (.cG I (f l[i])):=by rw[c4O (by simpa using h),ma]
theorem c4P{R:Option Nat}{id off len j:Nat}{cap:Option Nat}(h:j<len):idxSlA R (.al id off len R cap) j=some (.p (some (id,off+j*shN R))):=by
 show(if Nat.blt j len&&decide (R=R) then some (AV.p (some (id,off+j*shN R))) else none)=_;rw[show Nat.blt j len=true from kg h];simp
theorem Xk{k:Nat}{x:AV}(h:conf (some k) x=true):∃l,x= .ag l∧l.length=k:=by
 cases x with
 |ag l=>exact⟨l,rfl,eM h⟩
 |_=>cases h
theorem Mf{x:AV}(h:conf none x=true):x.cells=[x]:=by
 cases x with
 |ag l=>cases h
 |_=>rfl
theorem Cg{R:Option Nat}{x:AV}{r:List AV}(h:conf R x=true):eA R (x.cells++r)=some x∧(x.cells++r).drop (shN R)=r:=by
 cases R with
 |none=>rw[Mf h];exact⟨rfl,rfl⟩
 |some k=>
  obtain⟨l,rfl,au⟩:=Xk h;subst au;refine⟨?_,?_⟩
  ·show(let m:=(l++r).take l.length;if m.length=l.length then some (AV.ag m) else none)=_;simp
  ·show(l++r).drop l.length=r;simp
theorem Ch{R:Option Nat}:∀ {xs:List AV} {r:List AV},(∀x∈xs,conf R x=true)→elems R xs.length (xs.flatMap AV.cells++r)=some xs
 |[],r,_=>rfl
 |x::xs,r,h=>by
  have hx:=h x (by simp);rw[jD,elems_succ,mb,kn,(Cg hx).1,(Cg hx).2,Ch fun y aJ=>h y (e_ _ aJ)]
inductive Acc(o:ad)(R:Option Nat):AV→List AV→Prop
 |nil:Acc o R .J []
 |al (I:Nat) (x:AV) (xs:List AV) (h:o.get I=some (.cells ((x::xs).flatMap AV.cells))) (ab:∀y∈x::xs,conf R y=true):Acc o R (.al I 0 (xs.length+1) R none) (x::xs)
def AV.hU :AV→Option Nat
 | .al id _ _ _ _=>some id
 |_=>none
theorem Acc.conf{o:ad}{R:Option Nat}{v:AV}{xs:List AV}(h:Acc o R v xs):∀y∈xs,conf R y=true:=by
 cases h with
 |nil=>intro y aJ;simp at aJ
 |al I x xs h ab=>exact ab
theorem Acc.read{o:ad}{R:Option Nat}{v:AV}{xs:List AV}(h:Acc o R v xs):readList o v=some xs:=by
 cases h with
 |nil=>rfl
 |al I x xs h ab=>
  show(match o.get I with|some (.cells c)=>elems R (xs.length+1) (c.drop 0)|_=>none)=_;rw[h];show elems R (x::xs).length ((x::xs).flatMap AV.cells)=_;have:=Ch (r:=[]) ab;rwa[jv] at this
theorem Acc.ee{o ah:ad}{R:Option Nat}{v:AV}{xs:List AV}(h:Acc o R v xs)(ax:∀i I,v.hU =some i→o.get i=some I→ah.get i=some I):Acc ah R v xs:=by
 cases h with
 |nil=>exact .nil
 |al I x xs h ab=>exact .al I x xs (ax _ _ rfl h) ab
theorem Acc.len{o ai:ad}{R:Option Nat}{v:AV}{xs:List AV}(h:Acc o R v xs):lenA ai 1 v=some xs.length:=by
 cases h with
 |nil=>rfl
 |al I x xs h ab=>rfl
theorem Acc.append{o:ad}{R:Option Nat}{v x:AV}{xs aZ:List AV}{y:AV}{bytes:Nat}(h:Acc o R v xs)(hx:newOf o x=some (y::aZ))(ab:∀z∈y::aZ,Go.Lyc.conf R z=true)(hb:(3*(xs.length+(y::aZ).length)+2000)*bytes≤281474976710656):
  ∃bJ ah,appendO 0 o R bytes v x=some (bJ,ah)∧Acc ah R bJ (xs++y::aZ)∧bJ.hU =some o.next∧ah.next=o.next+1∧∀i I,v.hU ≠some i→o.get i=some I→ah.get i=some I:=by
 have F5:=h.conf;have hall:(cV (Go.Lyc.conf R) xs&&cV (Go.Lyc.conf R) (y::aZ)&&Nat.ble ((3*(xs.length+(y::aZ).length)+2000)*bytes) 281474976710656)=true:=by
  rw[m2 F5,m2 ab,kg hb];rfl
 cases h with
 |nil=>
  refine⟨.al o.next 0 (y::aZ).length R none,o.push (.cells ((y::aZ).flatMap AV.cells)),?_,?_,rfl,rfl,fun i I _ aj=>?_⟩
  ·unfold appendO;rw[hx];show cond _ _ none=_;rw[hall];rfl
  ·exact .al _ _ _ (ad.jH _) ab
  ·rw[ad.fZ trivial _ (ad.ei aj)];exact aj
 |al I oe xs h hc0=>
  have af:readList o (.al I 0 (xs.length+1) R none)=some (oe::xs):=(Acc.al I oe xs h hc0).read;refine⟨.al o.next 0 (xs.length+1+(y::aZ).length) R none,(o.set I .dead).push (.cells ((oe::xs).flatMap AV.cells++(y::aZ).flatMap AV.cells)),?_,?_,rfl,rfl,fun i bE bS aj=>?_⟩
  ·unfold appendO;rw[af,hx];show cond (cV (Go.Lyc.conf R) (oe::xs)&&cV (Go.Lyc.conf R) (y::aZ)&&Nat.ble ((3*((oe::xs).length+(y::aZ).length)+2000)*bytes) 281474976710656) _ none=_;rw[hall,cond_true];show(if R=R then(if Nat.blt I 0 then none else if Nat.beq 0 0 then some (AV.al o.next 0 (xs.length+1+(y::aZ).length) R none,(o.set I .dead).push (.cells ((oe::xs).flatMap AV.cells++(y::aZ).flatMap AV.cells))) else none) else none)=_;rw[if_pos rfl,if_neg (by simp[Nat.blt,Nat.ble]),if_pos (by rfl)]
  ·have e:(oe::xs)++y::aZ=oe::(xs++y::aZ):=rfl;rw[e];have aY:xs.length+1+(y::aZ).length=(xs++y::aZ).length+1:=by simp;omega
   rw[aY];refine .al _ _ _ ?_ fun z bw=>?_
   ·have:(o.set I .dead).next=o.next:=rfl;rw[←this,ad.jH];simp
   ·rcases e4.1 (show z∈(oe::xs)++y::aZ from bw) with bw|bw
    ·exact hc0 z bw
    ·exact ab z bw
  ·have bu:=ad.ei aj;rw[ad.fZ trivial _ (show i<(o.set I .dead).next from bu),ad.ix trivial _ (ad.ei h),if_neg (fun e=>bS (by rw[e];rfl))];exact aj
section
variable {env:Env}{aH:Option Nat}{D:List (Nat ⊕ (AV×List AV))}{n:Nat}{f:Nat→AV}{o:ad}{Q:fo}
theorem Xl{aw:az→Option AV}{R:Option Nat}{bytes:Nat}{s x:az}{a b v:AV}{ah:ad}(h1:aw s=some a)(h2:aw x=some b)(h:appendO 0 o R bytes a b=some (v,ah)):opx 0 aw o (.append R bytes s x)=some (.val v ah):=by
 show(match aw s,aw x with
  |some s,some x=>(match appendO 0 o R bytes s x with|some (v,o)=>some (bG.val v o)|none=>none)
  |_,_=>none)=_
 rw[h1,h2];show(match appendO 0 o R bytes a b with|some (v,o)=>some (bG.val v o)|none=>none)=_;rw[h]
theorem aA.append{d:Nat}{R:Option Nat}{bytes:Nat}{s x:az}{g:Option (Nat×Bool)}{wn:List Nat}{ops:List aQ}{a b:AV}{xs aZ:List AV}{y:AV}(hA:Acc o R a xs)(hx:newOf o b=some (y::aZ))(ab:∀z∈y::aZ,conf R z=true)(hb:(3*(xs.length+(y::aZ).length)+2000)*bytes≤281474976710656)
  (an:Nat.blt d n=true) (hw:gk g n f=true) (h1:dV env n f s=some a) (h2:dV env n f x=some b)
  (h:∀v ah,Acc ah R v (xs++y::aZ)→v.hU =some o.next→ah.next=o.next+1→(∀i I,a.hU ≠some i→o.get i=some I→ah.get i=some I)→dJ env aH D n ops (c7 f d v) ah Q):dJ env aH D n (⟨some d,.append R bytes s x,g,wn⟩::ops) f o Q:=by
 obtain⟨bJ,ah,a6,a2,a3,a4,a5⟩:=hA.append hx ab hb;exact aA.val an hw (Xl h1 h2 a6) (h bJ ah a2 a3 a4 a5)
theorem aA.c4Q{d d0:Nat}{R:Option Nat}{bytes:Nat}{z:List AV}{s x:az}{wn Md:List Nat}{ops:List aQ}{a y:AV}{xs:List AV}(hA:Acc o R a xs)(hd0:Nat.blt d0 n=true)(av:opx 0 (dV env n f) o (.buildSlice R 1 z [(0,x)])=some (.val (.al o.next 0 1 R (some 1)) (o.push (.cells y.cells))))(ab:conf R y=true)
  (hb:(3*(xs.length+1)+2000)*bytes≤281474976710656) (an:Nat.blt d n=true) (h1:dV env n (c7 f d0 (.al o.next 0 1 R (some 1))) s=some a)
  (h:∀v ah,Acc ah R v (xs++[y])→v.hU =some (o.next+1)→ah.next=o.next+2→(∀i I,a.hU ≠some i→o.get i=some I→ah.get i=some I)→dJ env aH D n ops (c7 (c7 f d0 (.al o.next 0 1 R (some 1))) d v) ah Q):
  dJ env aH D n (⟨some d0,.buildSlice R 1 z [(0,x)],none,wn⟩::⟨some d,.append R bytes s (.t d0),none,Md⟩::ops) f o Q:=by
 refine aA.val hd0 rfl av ?_;have wR:Acc (o.push (.cells y.cells)) R a xs:=hA.ee fun i I _ aj=>by rw[ad.fZ trivial _ (ad.ei aj)];exact aj
 have nV:newOf (o.push (.cells y.cells)) (.al o.next 0 1 R (some 1))=some [y]:=by
  show readList (o.push (.cells y.cells)) (.al o.next 0 1 R (some 1))=_;show(match(o.push (.cells y.cells)).get o.next with|some (.cells c)=>elems R 1 (c.drop 0)|_=>none)=_;rw[ad.jH];have:=Ch (R:=R) (xs:=[y]) (r:=[]) (by intro w hw;rw[e3.1 hw];exact ab);simpa using this
 refine aA.append wR nV (by intro w hw;rw[e3.1 hw];exact ab) hb an rfl h1 ?_ fun v ah dA dQ fE AS=>h v ah dA dQ fE fun i I hi aj=>AS i I hi (by rw[ad.fZ trivial _ (ad.ei aj)];exact aj);show cond (Nat.blt d0 n) (some (cond (Nat.beq d0 d0) _ (f d0))) none=_;rw[hd0,fR];rfl
end
end
section
open Go.RowKit
inductive Tm where
 |mk (var:Bool) (name:List Nat) (args:Option (List Tm))
inductive Fm where
 |mk (op:Nat) (name:List Nat) (args:Option (List Tm)) (sub:Option (List Fm))
def Tm.var:Tm→Bool| .mk v _ _=>v
def Tm.name:Tm→List Nat| .mk _ n _=>n
def Tm.cH:Tm→Option (List Tm)| .mk _ _ a=>a
def Tm.args(t:Tm):List Tm:=t.cH.getD []
def Fm.op:Fm→Nat| .mk I _ _ _=>I
def Fm.name:Fm→List Nat| .mk _ n _ _=>n
def Fm.cH:Fm→Option (List Tm)| .mk _ _ a _=>a
def Fm.args(f:Fm):List Tm:=f.cH.getD []
def Fm.ea:Fm→Option (List Fm)| .mk _ _ _ s=>s
def Fm.sub(f:Fm):List Fm:=f.ea.getD []
def osl(I:Bool)(R:Option Nat):Option (List AV)→AV
 |none=>.J
 |some l=>.aD I R l
mutual
def Tm.cells(I:Bool):Tm→List AV
 | .mk v n none=>[.b v,.s n,.J]
 | .mk v n (some l)=>[.b v,.s n,.aD I (some 3) (Tm.lA I l)]
def Tm.lA(I:Bool):List Tm→List AV
 |[]=>[]
 |t::l=>.ag (t.cells I)::Tm.lA I l
end
def Tm.A(I:Bool)(t:Tm):AV:=.ag (t.cells I)
theorem Tm.wS(I:Bool):∀l,Tm.lA I l=l.map (Tm.A I)
 |[]=>by simp[Tm.lA]
 |t::l=>by rw[Tm.lA,Tm.wS I l];rfl
def cR(I:Bool)(l:Option (List Tm)):AV:=osl I (some 3) (l.map fun l=>l.map (Tm.A I))
theorem Tm.fF(I:Bool)(t:Tm):t.cells I=[.b t.var,.s t.name,cR I t.cH]:=by
 obtain⟨v,n,a⟩:=t;cases a with
 |none=>rw[Tm.cells];rfl
 |some l=>rw[Tm.cells,Tm.wS];rfl
mutual
def Fm.cells(I:Bool):Fm→List AV
 | .mk op n a none=>[.i .u8 (Int.ofNat op),.s n,cR I a,.J]
 | .mk op n a (some l)=>[.i .u8 (Int.ofNat op),.s n,cR I a,.aD I (some 4) (Fm.lA I l)]
def Fm.lA(I:Bool):List Fm→List AV
 |[]=>[]
 |f::l=>.ag (f.cells I)::Fm.lA I l
end
def Fm.A(I:Bool)(f:Fm):AV:=.ag (f.cells I)
theorem Fm.wS(I:Bool):∀l,Fm.lA I l=l.map (Fm.A I)
 |[]=>by simp[Fm.lA]
 |f::l=>by rw[Fm.lA,Fm.wS I l];rfl
def dk(I:Bool)(l:Option (List Fm)):AV:=osl I (some 4) (l.map fun l=>l.map (Fm.A I))
theorem Fm.fF(I:Bool)(f:Fm):f.cells I=[.i .u8 (Int.ofNat f.op),.s f.name,cR I f.cH,dk I f.ea]:=by
 obtain⟨op,n,a,s⟩:=f;cases s with
 |none=>rw[Fm.cells];rfl
 |some l=>rw[Fm.cells,Fm.wS];rfl
mutual
theorem Tm.F6(I:Bool):∀(t u:Tm),t.cells I=u.cells I→t=u
 | .mk v n none,.mk bJ qq none,h=>by simp only[Tm.cells,q1,AV.b.injEq,AV.s.injEq] at h;rw[h.1,h.2.1]
 | .mk v n none,.mk bJ qq (some l),h=>by simp[Tm.cells] at h
 | .mk v n (some l),.mk bJ qq none,h=>by simp[Tm.cells] at h
 | .mk v n (some l),.mk bJ qq (some dF),h=>by
  simp only[Tm.cells,q1,AV.b.injEq,AV.s.injEq,AV.aD.injEq,true_and,and_true] at h;rw[h.1,h.2.1,Tm.yS I l dF h.2.2]
theorem Tm.yS(I:Bool):∀(l m:List Tm),Tm.lA I l=Tm.lA I m→l=m
 |[],[],_=>rfl
 |[],_::_,h=>by simp[Tm.lA] at h
 |_::_,[],h=>by simp[Tm.lA] at h
 |a::l,b::m,h=>by
  simp only[Tm.lA,q1,AV.ag.injEq] at h;rw[Tm.F6 I a b h.1,Tm.yS I l m h.2]
end
theorem yT{I:Bool}{a b:Option (List Tm)}(h:cR I a=cR I b):a=b:=by
 cases a with
 |none=>cases b with
  |none=>rfl
  |some m=>cases h
 |some l=>cases b with
  |none=>cases h
  |some m=>
   simp only[cR,osl,AP,AV.aD.injEq,true_and] at h;rw[←Tm.wS,← Tm.wS] at h;rw[Tm.yS I l m h]
mutual
theorem Fm.F6(I:Bool):∀(f g:Fm),f.cells I=g.cells I→f=g
 | .mk p n a none,.mk dU qq cq none,h=>by simp only[Fm.cells,q1,AV.i.injEq,AV.s.injEq,true_and] at h;rw[pH h.1,h.2.1,yT h.2.2.1]
 | .mk p n a none,.mk dU qq cq (some l),h=>by simp[Fm.cells] at h
 | .mk p n a (some l),.mk dU qq cq none,h=>by simp[Fm.cells] at h
 | .mk p n a (some l),.mk dU qq cq (some dF),h=>by
  simp only[Fm.cells,q1,AV.i.injEq,AV.s.injEq,AV.aD.injEq,true_and,and_true] at h;rw[pH h.1,h.2.1,yT h.2.2.1,Fm.yS I l dF h.2.2.2]
theorem Fm.yS(I:Bool):∀(l m:List Fm),Fm.lA I l=Fm.lA I m→l=m
 |[],[],_=>rfl
 |[],_::_,h=>by simp[Fm.lA] at h
 |_::_,[],h=>by simp[Fm.lA] at h
 |a::l,b::m,h=>by
  simp only[Fm.lA,q1,AV.ag.injEq] at h;rw[Fm.F6 I a b h.1,Fm.yS I l m h.2]
end
theorem Fm.Xm{I:Bool}{f g:Fm}(h:f.A I=g.A I):f=g:=Fm.F6 I f g (by unfold Fm.A at h;injection h)
mutual
def Tm.dep:Tm→Nat
 | .mk _ _ none=>1
 | .mk _ _ (some l)=>Tm.dM l+1
def Tm.dM:List Tm→Nat
 |[]=>0
 |t::l=>max t.dep (Tm.dM l)
end
mutual
def Fm.dep:Fm→Nat
 | .mk _ _ a none=>Tm.dM (a.getD [])+1
 | .mk _ _ a (some l)=>max (Tm.dM (a.getD [])) (Fm.dM l)+1
def Fm.dM:List Fm→Nat
 |[]=>0
 |f::l=>max f.dep (Fm.dM l)
end
theorem Tm.sW:∀ {l:List Tm} {t:Tm},t∈l→t.dep≤Tm.dM l
 |[],_,h=>by simp at h
 |g::l,f,h=>by
  rw[Tm.dM];rcases dP.1 h with rfl|h
  ·omega
  ·have:=Tm.sW h;omega
theorem Fm.sW:∀ {l:List Fm} {t:Fm},t∈l→t.dep≤Fm.dM l
 |[],_,h=>by simp at h
 |g::l,f,h=>by
  rw[Fm.dM];rcases dP.1 h with rfl|h
  ·omega
  ·have:=Fm.sW h;omega
theorem Tm.fO(t:Tm):t.dep=Tm.dM t.args+1:=by
 obtain⟨v,n,a⟩:=t;cases a with
 |none=>rw[Tm.dep];simp[Tm.args,Tm.cH,Tm.dM]
 |some l=>rw[Tm.dep];rfl
theorem Fm.fO(f:Fm):f.dep=max (Tm.dM f.args) (Fm.dM f.sub)+1:=by
 obtain⟨op,n,a,s⟩:=f;cases s with
 |none=>rw[Fm.dep];simp[Fm.args,Fm.cH,Fm.sub,Fm.ea,Fm.dM]
 |some l=>rw[Fm.dep];rfl
theorem Tm.j9{t u:Tm}(h:u∈t.args):u.dep<t.dep:=by have:=Tm.sW h;rw[Tm.fO t];omega
theorem Fm.j9{f:Fm}{u:Tm}(h:u∈f.args):u.dep<f.dep:=by have:=Tm.sW h;rw[Fm.fO f];omega
theorem Fm.iF{f g:Fm}(h:g∈f.sub):g.dep<f.dep:=by have:=Fm.sW h;rw[Fm.fO f];omega
variable [Tok][TokOk]
theorem F7{α:Type}{o:ad}{k:Nat}{I:Bool}{R:Option Nat}{l:Option (List α)}{g wI:α→AV}(h:∀x∈l.getD [],bW o k (g x)=some (wI x)):bW o (k+1) (osl I R (l.map fun l=>l.map g))=some (osl true R (l.map fun l=>l.map wI)):=by
 cases l with
 |none=>rfl
 |some l=>
  show(match mapO (bW o k) (l.map g) with|none=>none|some xs=>some (AV.aD true R xs))=_;rw[F3 (l:=l) (h:=wI) fun x hx=>h x hx];rfl
theorem Xn{o:ad}{k:Nat}{l dF:List AV}(h:mapO (bW o k) l=some dF):bW o (k+1) (.ag l)=some (.ag dF):=by
 show(match mapO (bW o k) l with|none=>none|some l=>some (AV.ag l))=_;rw[h]
theorem Tm.snap(o:ad)(I:Bool):∀(d:Nat) (t:Tm) (k:Nat),t.dep≤d→2*d+1≤k→bW o k (t.A I)=some (t.A true)
 |0,t,k,h,_=>by rw[Tm.fO] at h;omega
 |d+1,t,k,h,ax=>by
  obtain⟨k,rfl⟩:∃j,k=j+3:=⟨k-3,by omega⟩
  unfold Tm.A;rw[Tm.fF,Tm.fF];refine Xn ?_;have e:bW o (k+2) (cR I t.cH)=some (cR true t.cH):=F7 (k:=k+1) fun x hx=>Tm.snap o I d x (k+1) (by have:=Tm.j9 (t:=t) hx;omega) (by omega);rw[jw,jw,jw,e];rfl
theorem Fm.snap(o:ad)(I:Bool):∀(d:Nat) (f:Fm) (k:Nat),f.dep≤d→2*d+1≤k→bW o k (f.A I)=some (f.A true)
 |0,f,k,h,_=>by rw[Fm.fO] at h;omega
 |d+1,f,k,h,ax=>by
  obtain⟨k,rfl⟩:∃j,k=j+3:=⟨k-3,by omega⟩
  unfold Fm.A;rw[Fm.fF,Fm.fF];refine Xn ?_;have aE:bW o (k+2) (cR I f.cH)=some (cR true f.cH):=F7 (k:=k+1) fun x hx=>Tm.snap o I d x (k+1) (by have:=Fm.j9 (f:=f) hx;omega) (by omega);have aY:bW o (k+2) (dk I f.ea)=some (dk true f.ea):=F7 (k:=k+1) fun x hx=>Fm.snap o I d x (k+1) (by have:=Fm.iF (f:=f) hx;omega) (by omega);rw[jw,jw,jw,jw,aE,aY];rfl
theorem F8{α:Type}{o:ad}{I:Bool}{R:Option Nat}{l:Option (List α)}{g:α→AV}:lenA o 1 (osl I R (l.map fun l=>l.map g))=some (l.getD []).length:=by
 cases l with
 |none=>rfl
 |some l=>show some (l.map g).length=_;rw[dO];rfl
theorem wT{α:Type}{I:Bool}{R:Option Nat}{l:Option (List α)}{g:α→AV}{i:Nat}(h:i<(l.getD []).length):idxSlA R (osl I R (l.map fun l=>l.map g)) i=some (.cG I (g ((l.getD [])[i]))):=by
 cases l with
 |none=>simp at h
 |some l=>
  refine W_ ?_;have h:i<l.length:=h;rw[uy (by simpa using h),ma];rfl
theorem Tm.len(I:Bool)(t:Tm):(t.cells I).length=3:=by rw[Tm.fF];rfl
theorem Fm.len(I:Bool)(f:Fm):(f.cells I).length=4:=by rw[Fm.fF];rfl
theorem Tm.conf(I:Bool)(t:Tm):conf (some 3) (t.A I)=true:=by unfold Tm.A;rw[Tm.fF];rfl
theorem Fm.conf(I:Bool)(f:Fm):conf (some 4) (f.A I)=true:=by unfold Fm.A;rw[Fm.fF];rfl
theorem Tm.a1(I:Bool)(t:Tm):eA (some 3) ((t.cells I).drop 0)=some (t.A I):=by unfold Tm.A;rw[Tm.fF];rfl
theorem Fm.a1(I:Bool)(f:Fm):eA (some 4) ((f.cells I).drop 0)=some (f.A I):=by unfold Fm.A;rw[Fm.fF];rfl
theorem Tm.Mg(I:Bool)(t:Tm):eA none ((t.cells I).drop 0)=some (.b t.var):=by rw[Tm.fF];rfl
theorem Tm.wU(I:Bool)(t:Tm):eA none ((t.cells I).drop 1)=some (.s t.name):=by rw[Tm.fF];rfl
theorem Tm.wV(I:Bool)(t:Tm):eA none ((t.cells I).drop 2)=some (cR I t.cH):=by rw[Tm.fF];rfl
theorem Fm.Ci(I:Bool)(f:Fm):eA none ((f.cells I).drop 0)=some (.i .u8 (Int.ofNat f.op)):=by rw[Fm.fF];rfl
theorem Fm.wU(I:Bool)(f:Fm):eA none ((f.cells I).drop 1)=some (.s f.name):=by rw[Fm.fF];rfl
theorem Fm.wV(I:Bool)(f:Fm):eA none ((f.cells I).drop 2)=some (cR I f.cH):=by rw[Fm.fF];rfl
theorem Fm.Mh(I:Bool)(f:Fm):eA none ((f.cells I).drop 3)=some (dk I f.ea):=by rw[Fm.fF];rfl
theorem kZ{o:ad}{I:Bool}{l:Option (List Tm)}:lenA o 1 (cR I l)=some (l.getD []).length:=F8
theorem gD{o:ad}{I:Bool}{l:Option (List Fm)}:lenA o 1 (dk I l)=some (l.getD []).length:=F8
theorem rJ{I:Bool}{l:Option (List Tm)}{i:Nat}(h:i<(l.getD []).length):idxSlA (some 3) (cR I l) i=some (.cG I (((l.getD [])[i]).A I)):=wT h
theorem wW{I:Bool}{l:Option (List Fm)}{i:Nat}(h:i<(l.getD []).length):idxSlA (some 4) (dk I l) i=some (.cG I (((l.getD [])[i]).A I)):=wT h
mutual
def Fm.parts:Fm→List Fm
 | .mk op n a none=>[.mk op n a none]
 | .mk op n a (some l)=>.mk op n a (some l)::Fm.dW l
def Fm.dW:List Fm→List Fm
 |[]=>[]
 |f::l=>f.parts++Fm.dW l
end
theorem Fm.parts_eq(f:Fm):f.parts=f::Fm.dW f.sub:=by
 obtain⟨op,n,a,s⟩:=f;cases s with
 |none=>rw[Fm.parts];simp[Fm.sub,Fm.ea,Fm.dW]
 |some l=>rw[Fm.parts];rfl
mutual
def Tm.parts:Tm→List Tm
 | .mk v n none=>[.mk v n none]
 | .mk v n (some l)=>.mk v n (some l)::Tm.dW l
def Tm.dW:List Tm→List Tm
 |[]=>[]
 |f::l=>f.parts++Tm.dW l
end
theorem Tm.parts_eq(f:Tm):f.parts=f::Tm.dW f.args:=by
 obtain⟨v,n,s⟩:=f;cases s with
 |none=>rw[Tm.parts];simp[Tm.args,Tm.cH,Tm.dW]
 |some l=>rw[Tm.parts];rfl
inductive Tm.kF:Tm→Prop
 |mk {v:Bool} {n:List Nat} {a:Option (List Tm)} (au:(a.getD []).length<2^62) (h:∀x∈a.getD [],Tm.kF x):Tm.kF (.mk v n a)
inductive Fm.kF:Fm→Prop
 |mk {op:Nat} {n:List Nat} {a:Option (List Tm)} {s:Option (List Fm)} (cQ:(a.getD []).length<2^62) (ha:∀x∈a.getD [],Tm.kF x) (au:(s.getD []).length<2^62) (h:∀x∈s.getD [],Fm.kF x):Fm.kF (.mk op n a s)
theorem Fm.kF.pb{t:Fm}(h:t.kF):t.sub.length<2^62:=by cases h with|mk _ _ au _=>exact au
theorem Fm.kF.ml{t:Fm}(h:t.kF):∀x∈t.sub,x.kF:=by cases h with|mk _ _ _ h=>exact h
end
section
variable [Tok][TokOk]
open Go Go.RowKit Go.ChangeShapes Go.WideShapes
theorem c4R{H:Type}{enc:TypeId×Value→H}{P:Program}{f:Func}{s:ChangeSpec}{apart fresh handsOn:Bool}{W W':World}{args:Array Value}{ds:List (DataW H)}{Cj:TypeId}{ps vU:List MemPlace}
  (hf:f.resultTypes= #[Cj]) (hb:P.underlying Cj=some .bool) (av:s.vars=[]) (hfn:s.fn H ds={results:=[.lit (.bool true)],args:=ds})
  (hW:DataW.Whole enc P f.params.toList s.vars apart W args.toList ds [] ps) (mS:DataW.TrodAll enc P W' 0 (fun b=>decide (b<W.heap.size)) true f.params.toList args.toList ds vU)
  (ax:∀b,b<W.heap.size→W'.heap[b]? =W.heap[b]?) (iP:W'.os=W.os) (iQ:W'.output=W.output):s.post enc P f apart fresh handsOn false W args (.bool true) W':=by
 refine⟨ds,[],ps,[],vU,[],hW,?_,?_,?_,c4C ax iP iQ,fun h=>by cases h⟩
 ·rw[jv,hfn,hf];exact trodAll_mk1 (shut_bool hb _)
 ·rw[jv,hfn];exact mS
 ·rw[jv,hfn,av];rfl
theorem calls_trueS{H:Type}{enc:TypeId×Value→H}{P:Program}{env:Env}{f:Func}{s:ChangeSpec}{apart fresh handsOn:Bool}{W:World}{args:Array Value}{ds:List (DataW H)}{Cj:TypeId}{g:Nat}{aO:List AV}{ps vU:List MemPlace}
  (cE:∀cM,SpecEntry P env cM g aO (.b true)) (eS:Globs env W W.heap.size) (ha:bm W (fun _=>none) (fun _=>False) W.heap.size aO args.toList)
  (hf:f.resultTypes= #[Cj]) (hb:P.underlying Cj=some .bool) (av:s.vars=[]) (hfn:s.fn H ds={results:=[.lit (.bool true)],args:=ds})
  (hW:DataW.Whole enc P f.params.toList s.vars apart W args.toList ds [] ps) (mS:∀W':World,Below W.heap.size W W'→DataW.TrodAll enc P W' 0 (fun b=>decide (b<W.heap.size)) true f.params.toList args.toList ds vU):
  Calls P g args W fun e W'=>∃v,e= .returned v∧s.post enc P f apart fresh handsOn false W args v W':=by
 refine((cE W.heap.size).calls (bK _) eS ha).mono fun e W' ⟨u,he,b9,bZ,ax,iP,kk,iQ⟩=>?_;cases b9;exact⟨_,he,c4R hf hb av hfn hW (mS W' ⟨iP,kk,iQ,bZ,ax⟩) ax iP iQ⟩
end
section
open Go Go.RowKit Go.Proofs Go.Shelf Go.Sort
theorem Xo{L:List FuncId}{n k:Nat}{rd:Option Nat}{P:Program}{f:FuncId}{args:Array Value}{w:World}{aq:Ending→World→Prop}
  (h:∀D:Nat,CallsIn (Fence.list L (some D)) n P f args w aq):CallsIn (eI rd) k P f args w aq:=⟨trivial,fun cs _=>
 let⟨e,ao,ae,r,s,x⟩:=(h (cs.length+1+n)).2 cs (fun _ an=>by cases an;exact bK _)
 ⟨e,ao,ae,r,@ComesIn.mono (Machine.fenced P (Fence.list L (some (cs.length+1+n)))) (Machine.fenced P (eI rd)) _ _ _ _ (fun _ _ _ _=>⟨(fun h=>by cases h),.inl trivial,fun _ _=>trivial,fun _ h=>by cases h⟩) s,x⟩⟩
def ie(l:List Nat):List UInt8:=l.map Nat.toUInt8
theorem Xp{c:Nat}(h:c<256):c.toUInt8.toNat=c:=by
 show c%256=c;omega
theorem Xq:∀(a b:List Nat),(∀c∈a,c<256)→(∀c∈b,c<256)→(fS a b=true↔ie a<ie b)
 |[],[],_,_=>by
  show(false=true↔([]:List UInt8)<[]);simp
 |[],y::b,_,_=>by
  show(true=true↔([]:List UInt8)<y.toUInt8::ie b);simp
 |x::a,[],_,_=>by
  show(false=true↔x.toUInt8::ie a<[]);simp
 |x::a,y::b,h1,h2=>by
  show(cond (Nat.blt x y) true (cond (Nat.beq x y) (fS a b) false)=true↔x.toUInt8::ie a<y.toUInt8::ie b);have ay:=Xq a b (fun c ab=>h1 c (e_ _ ab)) (fun c ab=>h2 c (e_ _ ab));have hx:=Xp (h1 x iq);have aJ:=Xp (h2 y iq);rw[List.cons_lt_cons_iff];have aE:(x.toUInt8<y.toUInt8)↔x<y:=by rw[JD,hx,aJ]
  have aY:(x.toUInt8=y.toUInt8)↔x=y:=by rw[←UInt8.toNat_inj,hx,aJ]
  rw[aE,aY,← ay];by_cases bu:x<y
  ·rw[show Nat.blt x y=true from kg bu];simp[bu]
  ·have:Nat.blt x y=false:=by cases h:Nat.blt x y with|false=>rfl|true=>exact absurd (eY h) bu
   rw[this,cond_false];by_cases he:x=y
   ·subst he;rw[fR,cond_true];simp
   ·have:Nat.beq x y=false:=by cases h:Nat.beq x y with|false=>rfl|true=>exact absurd (eM h) he
    rw[this];simp[bu,he]
def Mi(l:List (List Nat)):Prop:=∀s∈l,∀c∈s,c<256
theorem Xr(a:List Nat)(ha:∀c∈a,c<256):∀l:List (List Nat),Mi l→(l.map ie).Pairwise (· ≤ ·)→((vM a l).map ie).Pairwise (· ≤ ·)
 |[],_,_=>by show(List.map ie [a]).Pairwise _;simp
 |b::l,hb,h=>by
  have p3:=hb b iq;have hi:=Xq b a p3 ha;show((cond (fS b a) (b::vM a l) (a::b::l)).map ie).Pairwise _;rw[k9,B2] at h;cases ab:fS b a with
  |true=>
   rw[ab] at hi;rw[cond_true,k9,B2];refine⟨fun x hx=>?_,Xr a ha l (fun s hs=>hb s (e_ _ hs)) h.2⟩;obtain⟨y,aJ,rfl⟩:=fq.1 hx;rcases(Vy a l y).1 aJ with rfl|aJ
   ·exact List.le_of_lt (hi.1 rfl)
   ·exact h.1 _ (LO aJ)
  |false=>
   rw[ab] at hi;have hle:ie a≤ie b:=by
    have:¬ie b<ie a:=fun hh=>by have:=hi.2 hh;cases this
    exact List.not_lt.1 this
   rw[cond_false,k9,B2,k9,B2];refine⟨fun x hx=>?_,h⟩;rcases dP.1 hx with rfl|hx
   ·exact hle
   ·exact List.le_trans hle (h.1 x hx)
theorem Xs:∀l:List (List Nat),Mi l→((jF l).map ie).Pairwise (· ≤ ·)
 |[],_=>.nil
 |a::l,h=>Xr a (h a iq) (jF l) (fun s hs=>h s (e_ _ ((wA l).mem_iff.1 hs))) (Xs l fun s hs=>h s (e_ _ hs))
theorem c4S{l:List (List Nat)}(h:Mi l):(l.map ie).mergeSort (fun x y=>decide (x≤y))=(jF l).map ie:=by
 have p1:=(List.mergeSort_perm (l.map ie) (fun x y=>decide (x≤y))).trans (((wA l).map ie).symm);refine p1.eq_of_pairwise (le:=(· ≤ ·)) (fun a b _ _ h1 h2=>List.le_antisymm h1 h2) ?_ (Xs l h);have:=List.pairwise_mergeSort (le:=fun x y:List UInt8=>decide (x≤y)) (fun a b c h1 h2=>decide_eq_true (List.le_trans (of_decide_eq_true h1) (of_decide_eq_true h2)))
  (fun a b=>by rcases List.le_total a b with h|h<;>simp[h]) (l.map ie)
 exact this.imp fun h=>of_decide_eq_true h
theorem Xt(s:List Nat):encStr (ie s)= .string (strOf s):=rfl
theorem c4T{P:Program}{cD:Ren}(L:Lays.n190 P cD){fn:Func}{c:Code}(hf:P.funcs[cD.f 190]? =some fn)(ab:fn.body=some c)(hn:(fn.name== "runtime.NumGoroutine")=false):Lf P (cD.f 190):=by
 refine⟨⟨fn,c,hf,ab,hn⟩,fun k rd p cap w=>Xo fun D=>AnyS.slices_Sort_string_none_in L D p cap w,fun k rd ar cap l arr el aT w hb hle df bw bu oS=>?_⟩;have B_:ar<w.heap.size:=(vz.1 hb).1;have hlen:(l.map ie).length=l.length:=dO ..;have c4U:Holds encStr w ar 0 (l.map ie).toArray:=fun j aB=>by
  have aB:j<l.length:=by simpa using aB
  have aE:(l.map ie).toArray[j]! =ie l[j]:=by
   rw[getElem!_pos _ j (by simpa using aB)];simp
  rw[aE,Xt];refine⟨?_,?_⟩
  ·unfold World.cell?;rw[hb];show arr[0+j]? =_;rw[rD,df j aB]
  ·unfold World.frozen?;rw[hb];show(decide (aT.1≤0+j)&&decide (0+j<aT.2))=false;rw[rD];exact bw j (by omega)
 have mQ:∀D,_:=fun D=>AnyS.slices_Sort_string_in L D ar 0 cap (l.map ie) w c4U B_ (by rw[hlen];exact bu);rw[hlen] at mQ;refine(Xo mQ).mono fun e ao ⟨aE,n,os,aY⟩=>⟨aE,?_⟩
 rw[c4S oS] at aY;subst aY;have eB:(jF l).length=l.length:=(wA l).length_eq;have bZ:(putRow encStr (Go.Sort.ahead w n) ar 0 ((jF l).map ie).toArray).heap.size=w.heap.size:=by
  show(w.heap.modify ar _).size=_;rw[Array.size_modify]
 refine⟨?_,fun sL h0 bS=>?_,⟨putCells encStr 0 ((jF l).map ie).toArray arr,?_,?_,fun i hi=>?_⟩,rfl,rfl,rfl⟩
 ·rw[size_grow,bZ];omega
 ·rw[heap_grow_old _ _ (by rw[bZ];exact h0)];show(w.heap.modify ar _)[sL]? =_;rw[Jy,if_neg fun e=>bS e.symm]
 ·rw[heap_grow_old _ _ (by rw[bZ];exact B_)];show(w.heap.modify ar _)[ar]? =_;rw[Jy,if_pos rfl,hb];rfl
 ·unfold putCells;rw[Array.size_mapIdx]
 ·unfold putCells;rw[Array.getElem?_mapIdx,l_ (by omega)];simp only[AP,Ts,dO];rw[if_pos ⟨by omega,by omega⟩,Nat.sub_zero,getElem!_pos _ i (by simpa using hi)];simp[Xt]
end
section
variable [Tok][TokOk]
open Go.RowKit
theorem cy.mono{env:Env}{floor:Nat}{bB:AV}{args:List AV}{o:ad}{Q m1:c6→ad→Prop}(h:cy env floor bB args o Q)(aI:∀r ah,Q r ah→m1 r ah):cy env floor bB args o m1:=cO.mono h fun _ aj=>aI _ _ aj
def fG(env:Env)(D d_:List (Nat ⊕ (AV×List AV)))(n:Nat)(c:bc)(f:Nat→AV)(o:ad)(Q:fo):Prop:=∀ae,hc D n f ae→fh env 0 none c ae o (rH d_ n Q)
section
variable {env:Env}{D d_ Lp:List (Nat ⊕ (AV×List AV))}{n:Nat}{f:Nat→AV}{o:ad}{Q:fo}
theorem fG.hH{a b:bc}(h:ck env none D n a f o (fun x f o=>x= .normal∧fG env D d_ n b f o Q)):fG env D d_ n (.seq a b) f o Q:=fun ae bl=>fh.seq ((h ae bl).mono fun x ae o ⟨f,h1,h2,h3⟩=>by subst h2;exact h3 ae h1)
theorem fG.Xu{a b:bc}(h:fG env D d_ n a f o (fun x f o=>x= .normal∧ck env none d_ n b f o Q)):fG env D d_ n (.seq a b) f o Q:=fun ae bl=>fh.seq ((h ae bl).mono fun x ae o ⟨f,h1,h2,h3⟩=>by subst h2;exact h3 ae h1)
theorem fG.block{a:bc}{id:Nat}(h:fG env D d_ n a f o (fun x f o=>x= .normal∧Q .normal f o)):fG env D d_ n (.block id a) f o Q:=fun ae bl=>fh.block ((h ae bl).mono fun x ae o ⟨f,h1,h2,h3⟩=>by subst h2;exact⟨f,h1,h3⟩)
theorem fG.range{mw:az}{ps:List Nat}{bP b:bc}{g:Nat}{first cap:List AV}(hf:dV env n f mw=some (.f (.func g) first cap))(he:env.ext g=0)
  (h:∀al,(∀i,al.get i=if i<n then some (f i) else none)→cy env 0 (.f (.func g) first cap) [.f (.yield (o.next+1)) [] []] ((o.push .cT).push (.loop .ready none al ps bP b o.next))
   (fun r fJ=>∃v st,r= .ok v∧fJ.get (o.next+1)=some (.loop st none al ps bP b o.next)∧st≠ .busy∧Q .normal f (fJ.set (o.next+1) (.loop .exhausted none al ps bP b o.next)))):
  fG env D (.inl o.next::D) n (.rangeFunc mw ps bP b) f o Q:=fun ae bl=>by
 have h':=h ae.aW bl.get;refine cO.succ (cO.then (g:=fun x F=>rangeK (exec env F) 0 none ae (.inl o.next::ae.defers) (o.next+1) x) h' fun I aj=>?_) fun F=>?_
 ·obtain⟨r,fJ⟩:=I;obtain⟨v,st,h1,h2,h3,aN⟩:=aj;have h1:r= .ok v:=h1;subst h1;have h2:fJ.get (o.next+1)=some (.loop st none ae.aW ps bP b o.next):=h2;refine cO.one (x:=(.normal,⟨ae.aW,.inl o.next::ae.defers,ae.eZ⟩,fJ.set (o.next+1) (.loop .exhausted none ae.aW ps bP b o.next))) (fun F=>?_) ⟨f,⟨bl.get,by show _::ae.defers=_;rw[bl.ds],bl.rc⟩,aN⟩;show(match fJ.get (o.next+1) with
   |some (.loop st h5 lG iO fT b' e5)=>(match st with
    | .busy=>none
    |_=>match h5 with
     |none=>some [(gn.normal,(⟨ae.aW,.inl o.next::ae.defers,ae.eZ⟩:Fr),fJ.set (o.next+1) (.loop .exhausted h5 lG iO fT b' e5))]
     |some c=>exec env F 0 none c ⟨ae.aW,.inl o.next::ae.defers,ae.eZ⟩ (fJ.set (o.next+1) (.loop .exhausted h5 lG iO fT b' e5)))
   |_=>none)=_
  rw[h2];cases st with
  |busy=>exact absurd rfl h3
  |_=>rfl
 ·rw[mj];show(if Nat.blt o.next 0 then none else
   match evalA env ae.aW mw with
   |some (.f (.func g) first cap)=>
    match xQ none ae o with
    |none=>none
    |some (d,bk,ds)=>
     match env.ext g with
     |0=>gi (callF env (exec env F) 0 g (first++AV.f (.yield bk.next) [] []::cap) (bk.push (.loop .ready none ae.aW ps bP b d))) (rangeK (exec env F) 0 none ae ds bk.next)
     |_=>none
   |_=>none)=_
  rw[if_neg (by simp[Nat.blt,Nat.ble]),bl.aw,hf];show(match env.ext g with
     |0=>gi (callF env (exec env F) 0 g (first++AV.f (.yield (o.next+1)) [] []::cap) ((o.push .cT).push (.loop .ready none ae.aW ps bP b o.next))) (rangeK (exec env F) 0 none ae (.inl o.next::ae.defers) (o.next+1))
     |_=>none)=_
  rw[he];show gi (callF env (exec env F) 0 g (first++AV.f (.yield (o.next+1)) [] []::cap) _) _=gi (callF env (exec env F) 0 g (first++[AV.f (.yield (o.next+1)) [] []]++cap) _) _;rw[kn];rfl
end
def F9:List Nat→List AV→(Nat→AV)→Nat→AV
 |p::ps,a::bP,f=>F9 ps bP (c7 f p a)
 |_,_,f=>f
theorem Mj{n:Nat}:∀ {ps:List Nat} {args:List AV} {f:Nat→AV} {al:aP AV},cV (fun p=>Nat.blt p n) ps=true→(∀i,al.get i=if i<n then some (f i) else none)→hc [] n (F9 ps args f) ⟨layAll ps args al,[],false⟩
 |[],_,f,al,_,h=>⟨h,rfl,rfl⟩
 |p::ps,[],f,al,_,h=>⟨h,rfl,rfl⟩
 |p::ps,a::args,f,al,hp,h=>by
  have o6:Nat.blt p n=true:=by
   have hp:cond (Nat.blt p n) (cV (fun p=>Nat.blt p n) ps) false=true:=hp;cases hb:Nat.blt p n with
   |true=>rfl
   |false=>rw[hb] at hp;cases hp
  have n9:cV (fun p=>Nat.blt p n) ps=true:=by
   have hp:cond (Nat.blt p n) (cV (fun p=>Nat.blt p n) ps) false=true:=hp;rw[o6] at hp;exact hp
  have h0:hc [] n f ⟨al,[],false⟩:=⟨h,rfl,rfl⟩
  exact Mj (f:=c7 f p a) (al:=al.set p a) n9 (h0.put a o6).get
theorem cy.round{env:Env}{l n:Nat}{f:Nat→AV}{o:ad}{al:aP AV}{ps:List Nat}{bP b:bc}{d:Nat}{args:List AV}{aq:ad→Prop}(au:o.get l=some (.loop .ready none al ps bP b d))(eB:∀i,al.get i=if i<n then some (f i) else none)(yu:cV (fun p=>Nat.blt p n) ps=true)(hlen:Nat.beq ps.length args.length=true)
  (h:ck env (some l) [] n bP (F9 ps args f) o (fun x f1 bk=>x= .normal∧bk.get l=some (.loop .ready none al ps bP b d)∧
   ck env (some l) [] n b f1 (bk.set l (.loop .busy none al ps bP b d)) (fun x _ b7=>x= .normal∧b7.get l=some (.loop .busy none al ps bP b d)∧aq (b7.set l (.loop .ready none al ps bP b d))))):
  cy env 0 (.f (.yield l) [] []) args o (fun r ah=>r= .ok (.b true)∧aq ah):=by
 have h1:=h _ (Mj (args:=args) yu eB);refine cO.congr (cO.then (g:=fun x F=>roundMid (exec env F) 0 l b x) h1 fun I aj=>?_) fun F=>?_
 ·obtain⟨x,en,bk⟩:=I;obtain⟨f1,Ck,hx,hF,h2⟩:=aj;have hx:x= .normal:=hx;subst hx;have hF:bk.get l=some (.loop .ready none al ps bP b d):=hF;refine cO.congr (cO.then (g:=fun x _=>roundEnd l x) (h2 en Ck) fun I aj=>?_) fun F=>?_
  ·obtain⟨x,Mk,b7⟩:=I;obtain⟨f2,_,hx,nz,b9⟩:=aj;have hx:x= .normal:=hx;subst hx;have nz:b7.get l=some (.loop .busy none al ps bP b d):=nz;refine cO.one (x:=(.ok (.b true),b7.set l (.loop .ready none al ps bP b d))) (fun _=>?_) ⟨rfl,b9⟩;show(endRound b7 l none).map (fun x=>[x])=_;unfold endRound;rw[nz];rfl
  ·show(match bk.get l with
    |some (.loop .ready h5 lG iO fT b' e5)=>gi (exec env F 0 (some l) b en (bk.set l (.loop .busy h5 lG iO fT b' e5))) (roundEnd l)
    |_=>none)=_
   rw[hF]
 ·show(if Nat.blt l 0 then none else
   match o.get l with
   |some (.loop .ready _ al ps bP b _)=>cond (Nat.beq ps.length args.length) (gi (exec env F 0 (some l) bP ⟨layAll ps args al,[],false⟩ o) (roundMid (exec env F) 0 l b)) none
   |_=>none)=_
  rw[if_neg (by simp[Nat.blt,Nat.ble]),au];show cond (Nat.beq ps.length args.length) _ none=_;rw[hlen,cond_true]
section
variable {env:Env}{aH:Option Nat}{D:List (Nat ⊕ (AV×List AV))}{n:Nat}{f:Nat→AV}{o:ad}{Q:fo}
theorem aA.j_{d:Nat}{op:AOp}{g:Option (Nat×Bool)}{wn:List Nat}{ops:List aQ}{bB:AV}{args:List AV}{aq:c6→ad→Prop}(an:Nat.blt d n=true)(hw:gk g n f=true)(aj:opx 0 (dV env n f) o op=some (.call bB args))(ab:cy env 0 bB args o aq)
  (h:∀r ah,aq r ah→∃v,r= .ok v∧dJ env aH D n ops (c7 f d v) ah Q):dJ env aH D n (⟨some d,op,g,wn⟩::ops) f o Q:=fun ae bl=>
 jQ.call (by rw[bl.wanted];exact hw) (by rw[bl.aw];exact aj) (ab.mono fun r ah af=>by
  obtain⟨v,rfl,av⟩:=h r ah af;exact av _ (bl.put v an))
theorem cy.code{fn:Nat}{cA:bV}{body:bc}{eU:Nat}{first cap args:List AV}{aq:c6→ad→Prop}(he:env.ext fn=0)(hp:env.pure fn=false)(hf:env.funcs fn=some cA)(hb:cA.body=some body)
  (hn:(Nat.beq (first++args++cap).length cA.kz&&Nat.ble (first++args++cap).length cA.ntmps)=true) (dH:cA.results=[(eU,none)]) (m3:Nat.blt eU cA.ntmps=true)
  (h:U env cA.ntmps body (c4 (first++args++cap)) o (fun x bC ah=>x= .ret∧aq (.ok (bC eU)) ah)):cy env 0 (.f (.func fn) first cap) args o aq:=by
 have hle:(first++args++cap).length≤cA.ntmps:=by
  simp only[bT] at hn;exact eY hn.2
 refine cy.run he hp hf hb hn ((h _ (wP hle)).mono fun x bQ ah ⟨bC,h1,h2,h3⟩=>?_);subst h2;exact⟨.ok (bC eU),ah,Xb h1 dH m3,h3⟩
theorem cy.uz{fn:Nat}{cA:bV}{body:bc}{first cap args:List AV}{aq:c6→ad→Prop}(he:env.ext fn=0)(hp:env.pure fn=false)(hf:env.funcs fn=some cA)(hb:cA.body=some body)
  (hn:(Nat.beq (first++args++cap).length cA.kz&&Nat.ble (first++args++cap).length cA.ntmps)=true) (dH:cA.results=[])
  (h:U env cA.ntmps body (c4 (first++args++cap)) o (fun x _ ah=>(x= .ret∨x= .normal)∧aq (.ok (.aK [])) ah)):cy env 0 (.f (.func fn) first cap) args o aq:=by
 have hle:(first++args++cap).length≤cA.ntmps:=by
  simp only[bT] at hn;exact eY hn.2
 refine cy.run he hp hf hb hn ((h _ (wP hle)).mono fun x bQ ah ⟨bC,h1,h2,h3⟩=>?_);refine⟨.ok (.aK []),ah,?_,h3⟩;have e:endF env 0 cA (.ret,bQ,ah)=some [(.ok (.aK []),ah)]:=by
  show(match leave 0 (callD env 0) bQ.defers none ah with
   |none=>none
   |some (some v,o)=>some [(c6.err v,o)]
   |some (none,o)=>match resultsOf o bQ.aW cA.results with
    |some v=>some [(.ok v,o)]
    |none=>none)=_
  rw[h1.ds,dH];rfl
 rcases h2 with rfl|rfl
 ·exact e
 ·exact e
end
theorem Xv{env:Env}{fn:bV}{n d eU:Nat}{f:Nat→AV}{ae:Fr}{o:ad}(h1:hc [.inl d] n f ae)(hm:o.get d=some .cT)(dH:fn.results=[(eU,none)])(an:Nat.blt eU n=true):endF env 0 fn (.ret,ae,o)=some [(.ok (f eU),o.set d .dead)]:=by
 show(match leave 0 (callD env 0) ae.defers none o with
  |none=>none
  |some (some v,o)=>some [(c6.err v,o)]
  |some (none,o)=>match resultsOf o ae.aW fn.results with
   |some v=>some [(.ok v,o)]
   |none=>none)=_
 have au:leave 0 (callD env 0) ae.defers none o=some (none,o.set d .dead):=by
  rw[h1.ds];show(if Nat.blt d 0 then none else match o.get d with
   |some .cT=>some (none,o.set d .dead)
   |_=>none)=_
  rw[if_neg (by simp[Nat.blt,Nat.ble]),hm]
 rw[au];show(match resultsOf (o.set d .dead) ae.aW fn.results with|some v=>some [(c6.ok v,o.set d .dead)]|none=>none)=_;rw[dH];have hg:=h1.get eU;have yP:eU<n:=eY an;rw[if_pos yP] at hg;have aE:resultOf (o.set d .dead) ae.aW (eU,none)=some (f eU):=by
  unfold resultOf;rw[hg]
 have:resultsOf (o.set d .dead) ae.aW [(eU,none)]=some (f eU):=by
  unfold resultsOf;have e:mapO (resultOf (o.set d .dead) ae.aW) [(eU,none)]=some [f eU]:=by
   unfold mapO;simp only[aE]
  rw[e]
 rw[this]
theorem cy.c4V{env:Env}{o:ad}{fn:Nat}{cA:bV}{body:bc}{eU d:Nat}{first cap args:List AV}{aq:c6→ad→Prop}(he:env.ext fn=0)(hp:env.pure fn=false)(hf:env.funcs fn=some cA)(hb:cA.body=some body)
  (hn:(Nat.beq (first++args++cap).length cA.kz&&Nat.ble (first++args++cap).length cA.ntmps)=true) (dH:cA.results=[(eU,none)]) (m3:Nat.blt eU cA.ntmps=true)
  (h:fG env [] [.inl d] cA.ntmps body (c4 (first++args++cap)) o (fun x bC ah=>x= .ret∧ah.get d=some .cT∧aq (.ok (bC eU)) (ah.set d .dead))):cy env 0 (.f (.func fn) first cap) args o aq:=by
 have hle:(first++args++cap).length≤cA.ntmps:=by
  simp only[bT] at hn;exact eY hn.2
 refine cy.run he hp hf hb hn ((h _ (wP hle)).mono fun x bQ ah ⟨bC,h1,h2,h3,aN⟩=>?_);subst h2;exact⟨.ok (bC eU),_,Xv h1 h3 dH m3,aN⟩
theorem c4W{P:Program}{b:cv}{K:Nat→List AV→AV→Prop}(hb:iE P b)(cX:yQ P b K){g:Nat}{fn:bV}{body:bc}{aO:List AV}{eU d:Nat}(r:AV)(hf:b.funcs.get g=some fn)(j0:fn.body=some body)
  (hn:(Nat.beq aO.length fn.kz&&Nat.ble aO.length fn.ntmps)=true) (dH:fn.results=[(eU,none)]) (an:Nat.blt eU fn.ntmps=true) {ae:Nat} (af:j8 ae r=true) (gC:AV.eqb 1000 r r=true)
  (h:fG (b.bj K) [] [.inl d] fn.ntmps body (c4 aO) ⟨.nil,0⟩ (fun x f ah=>x= .ret∧ah.get d=some .cT∧freeze (ah.set d .dead) 0 1000 (f eU)=some r)) (cM:Nat):SpecEntry P (b.env []) cM g aO r:=by
 have hle:aO.length≤fn.ntmps:=by
  simp only[bT] at hn;exact eY hn.2
 refine FZ (env:=b.bj K) (m:=1000) (FT _ _) ⟨fun g cA hg=>o_.yM hb.funcs g cA hg⟩ (fun cM g aO r hs=>cX g aO r (F0 hs) cM) hb.ext hb.rG hf j0 hn af ((h _ (wP hle)).mono fun x ae ah ⟨f,h1,h2,h3,aN⟩=>?_) gC cM;subst h2;exact⟨.ok (f eU),_,Xv h1 h3 dH an,_,rfl,aN⟩
section
variable {env:Env}{aH:Option Nat}{D:List (Nat ⊕ (AV×List AV))}{n:Nat}{f:Nat→AV}{o:ad}{Q:fo}
theorem aA.c4X{d m:Nat}{R:Option Nat}{z:List AV}{ps:List (Nat×az)}{g:Option (Nat×Bool)}{wn:List Nat}{ops:List aQ}{c:List AV}(k:Nat)(hn:o.next=k)(an:Nat.blt d n=true)(hw:gk g n f=true)(au:jW (dV env n f) (fun i fl=>i*fl) (ps.map fun p=>(p.1,shN R,p.2)) (hN m z)=some c)
  (h:∀ah:ad,ah.next=k+1→ah.get k=some (.cells c)→(∀i I,o.get i=some I→ah.get i=some I)→dJ env aH D n ops (c7 f d (.al k 0 m R (some m))) ah Q):dJ env aH D n (⟨some d,.buildSlice R m z ps,g,wn⟩::ops) f o Q:=by
 subst hn;refine aA.val (v:=.al o.next 0 m R (some m)) (ah:=o.push (.cells c)) an hw ?_ (h (o.push (.cells c)) rfl (ad.jH _) fun i I aj=>?_)
 ·show(match jW (dV env n f) (fun i fl=>i*fl) (ps.map fun p=>(p.1,shN R,p.2)) (hN m z) with
   |some c=>some (bG.val (.al o.next 0 m R (some m)) (o.push (.cells c)))
   |none=>none)=_
  rw[au]
 ·rw[ad.fZ trivial _ (ad.ei aj)];exact aj
end
end
structure Hid(aq:Prop):Prop where
 out:aq
theorem ew{P aq:Prop}(k:aq)(h:Hid aq→P:=by
 intro k
 repeat (first|refine aA.go rfl rfl rfl rfl ?_|refine aA.cmp rfl rfl rfl rfl rfl ?_|refine aA.off rfl rfl ?_|refine aA.nil ?_|refine U.seq ?_|refine U.region ?_|refine U.skip ?_|refine U.block ?_)
 exact k.out):P:=h ⟨k⟩
theorem uA{P aq:Prop}(k:aq)(h:Hid aq→P:=by
 intro k
 repeat (first|refine ef.go rfl rfl rfl rfl ?_|refine ef.cmp rfl rfl rfl rfl rfl ?_|refine ef.off rfl rfl ?_|refine ef.nil ?_)
 exact k.out):P:=h ⟨k⟩
theorem bD{P aq:Prop}(k:aq)(h:Hid aq→P:=by
 intro k
 repeat (first|refine aA.go rfl rfl rfl rfl ?_|refine aA.cmp rfl rfl rfl rfl rfl ?_|refine aA.off rfl rfl ?_|refine aA.nil ?_)
 exact k.out):P:=h ⟨k⟩
theorem Ml{P aq:Prop}(k:aq)(h:Hid aq→P:=by
 intro k
 repeat (first|refine aA.go rfl rfl rfl rfl ?_|refine aA.off rfl rfl ?_|refine aA.nil ?_)
 exact k.out):P:=h ⟨k⟩
theorem Cl{P aq:Prop}(k:aq)(h:Hid aq→P:=by
 intro k
 repeat (first|refine aA.go rfl rfl rfl rfl ?_|refine aA.a1 aB rfl rfl rfl rfl ?_|refine aA.cmp rfl rfl rfl rfl rfl ?_|refine aA.off rfl rfl ?_|refine aA.nil ?_)
 exact k.out):P:=h ⟨k⟩
theorem Xw{P aq:Prop}(k:aq)(h:Hid aq→P:=by
 intro k
 repeat (first|refine aA.go rfl rfl rfl rfl ?_|refine aA.a1 h1 rfl rfl rfl rfl ?_|refine aA.cmp rfl rfl rfl rfl rfl ?_|refine aA.off rfl rfl ?_|refine aA.nil ?_)
 exact k.out):P:=h ⟨k⟩
theorem F_{P aq:Prop}(k:aq)(h:Hid aq→P:=by
 intro k
 repeat (first|refine aA.go rfl rfl rfl rfl ?_|refine aA.a1 h2 rfl rfl rfl rfl ?_|refine aA.cmp rfl rfl rfl rfl rfl ?_|refine aA.off rfl rfl ?_|refine aA.nil ?_)
 exact k.out):P:=h ⟨k⟩
theorem Xx{P aq:Prop}(k:aq)(h:Hid aq→P:=by
 intro k
 repeat (first|refine aA.go rfl rfl rfl rfl ?_|refine aA.a1 a3 rfl rfl rfl rfl ?_|refine aA.cmp rfl rfl rfl rfl rfl ?_|refine aA.off rfl rfl ?_|refine aA.nil ?_)
 exact k.out):P:=h ⟨k⟩
theorem Xy{P aq:Prop}(k:aq)(h:Hid aq→P:=by
 intro k
 repeat (first|refine aA.go rfl rfl rfl rfl ?_|refine aA.a1 h1 rfl rfl rfl rfl ?_|refine aA.off rfl rfl ?_|refine aA.nil ?_)
 exact k.out):P:=h ⟨k⟩
theorem Xz{P aq:Prop}(k:aq)(h:Hid aq→P:=by
 intro k
 repeat (first|refine aA.go rfl rfl rfl rfl ?_|refine aA.a1 h2 rfl rfl rfl rfl ?_|refine aA.off rfl rfl ?_|refine aA.nil ?_)
 exact k.out):P:=h ⟨k⟩
section
variable [Tok][TokOk]
open Go.RowKit
def calm:AOp→Bool
 | .call _ _=>false
 | .kh _ _=>false
 | .sf _=>false
 | .len 0 _=>false
 | .cap _=>false
 |_=>true
def uB:Option bG→Prop
 |none=>True
 |some (.val _ _)=>True
 |some (.panic _)=>True
 |_=>False
theorem XA{c:Bool}{a b:Option bG}(ha:uB a)(hb:uB b):uB (cond c a b):=by cases c<;>assumption
theorem c4Y{k:Nat}{x:az}{v:AV}{o:ad}(h:calm (.len k x)=true):uB (lenU o k v):=by
 cases k with
 |zero=>cases h
 |succ k=>
  cases hx:lenU o (k+1) v with
  |none=>trivial
  |some r=>
   rcases EX hx with⟨e,_⟩|⟨_,_,_,_,rfl⟩
   ·cases e
   ·trivial
theorem c4Z{o:ad}{id r off:Nat}{c aX:List AV}:uB (nR o id c r off aX):=by
 unfold nR;split<;>exact trivial
theorem c5a{o:ad}{aw:az→Option AV}{R:Option Nat}{x:AV}{bs hi da:Option az}:uB (sliceX o aw R x bs hi da):=by
 unfold sliceX
 repeat' split
 all_goals first|trivial|(exact XA trivial trivial)
set_option maxHeartbeats 0 in
theorem Ga{floor:Nat}{aw:az→Option AV}{o:ad}:∀ {op:AOp},calm op=true→uB (opx floor aw o op):=by
 intro op h;cases op<;>first
  |(cases h;done)
  |(simp only[opx];repeat' split)<;>(first|trivial|exact c4Y h|exact c4Z|exact c5a|exact XA trivial trivial|(simp_all [uB];done))
def calmC:bc→Bool
 | .skip=>true
 | .region ops=>cV (fun I=>calm I.op) ops
 | .seq a b=>calmC a&&calmC b
 | .cond _ a b=>calmC a&&calmC b
 | .block _ a=>calmC a
 | .scope a=>calmC a
 | .exit _=>true
 | .ret=>true
 |_=>false
def k0{α:Type}:Option (List α)→Prop
 |none=>True
 |some l=>∃x,l=[x]
theorem k0.gi{α β:Type}{r:Option (List α)}{f:α→Option (List β)}(h:k0 r)(hf:∀x,k0 (f x)):k0 (Go.Lyc.gi r f):=by
 cases r with
 |none=>trivial
 |some l=>obtain⟨x,rfl⟩:=h;exact hf x
theorem Mm{env:Env}{floor:Nat}{call:ki}{nd:Bool}:∀ {ops:List aQ},cV (fun I=>calm I.op) ops=true→∀ae o,k0 (runOps env floor call nd ops ae o)
 |[],_,ae,o=>⟨_,rfl⟩
 |I::ops,h,ae,o=>by
  have h1:calm I.op=true:=sU h I (by simp);have h2:cV (fun I=>calm I.op) ops=true:=m2 fun x hx=>sU h x (e_ _ hx);rw[wu];cases wantedA I.guard ae.aW with
  |false=>exact Mm h2 _ _
  |true=>
   rw[cond_true];have:=Ga (floor:=floor) (aw:=evalA env ae.aW) (o:=o) h1;cases hx:opx floor (evalA env ae.aW) o I.op with
   |none=>trivial
   |some r=>
    rw[hx] at this;cases r with
    |val v ah=>exact Mm h2 _ _
    |panic v=>exact⟨_,rfl⟩
    |call _ _=>exact this.elim
    |kh _ _=>exact this.elim
    |gJ _=>exact this.elim
theorem code_one{env:Env}{floor:Nat}{aH:Option Nat}:∀(F:Nat) {c:bc},calmC c=true→∀ae o,k0 (exec env F floor aH c ae o)
 |0,_,_,_,_=>trivial
 |F+1,c,h,ae,o=>by
  have ay:=@code_one env floor aH F;rw[mj];cases c with
  |skip=>exact⟨_,rfl⟩
  |region ops=>exact Mm h ae o
  |draw ops=>cases h
  |seq a b=>
   rw[calmC,bT] at h;refine k0.gi (ay h.1 ae o) fun r=>?_;obtain⟨x,bQ,ah⟩:=r;cases x with
   |normal=>exact ay h.2 bQ ah
   |_=>exact⟨_,rfl⟩
  |cond I a b=>
   rw[calmC,bT] at h;show k0 (match evalA env ae.aW I with|some (.b t)=>exec env F floor aH (cond t a b) ae o|_=>none);split
   ·rename_i t _;cases t with
    |true=>exact ay h.1 ae o
    |false=>exact ay h.2 ae o
   ·trivial
  |block id a=>
   refine k0.gi (ay (show calmC a=true from h) ae o) fun r=>?_;obtain⟨x,bQ,ah⟩:=r;cases x with
   |exit j=>
    show k0 (cond (Nat.beq j id) (some [(gn.normal,bQ,ah)]) (some [(gn.exit j,bQ,ah)]));cases Nat.beq j id<;>exact⟨_,rfl⟩
   |_=>exact⟨_,rfl⟩
  |loop a=>cases h
  |scope a=>exact ay (show calmC a=true from h) ae o
  |rangeFunc _ _ _ _=>cases h
  |exit id=>exact⟨_,rfl⟩
  |ret=>exact⟨_,rfl⟩
  |bad=>cases h
theorem call_one{env:Env}{g:Nat}{cA:bV}{body:bc}(he:env.ext g=0)(hp:env.pure g=false)(hf:env.funcs g=some cA)(hb:cA.body=some body)(ab:calmC body=true)(F:Nat)(first cap args:List AV)(o:ad):k0 (callV env (exec env F) 0 (.f (.func g) first cap) args o):=by
 show k0 (callF env (exec env F) 0 g (first++args++cap) o);unfold callF;rw[he];show k0 (cond (env.pure g) _ _);rw[hp,cond_false];unfold runF;rw[hf];show k0 (match cA.body with|none=>none|some body=>_);rw[hb];show k0 (cond _ _ none);cases(Nat.beq (first++args++cap).length cA.kz&&Nat.ble (first++args++cap).length cA.ntmps) with
 |false=>trivial
 |true=>
  refine k0.gi (code_one F ab _ _) fun r=>?_;obtain⟨x,ae,ah⟩:=r;have he:∀x,k0 (match leave 0 (callD env 0) ae.defers (AT x) ah with
   |none=>none
   |some (some v,o)=>some [(c6.err v,o)]
   |some (none,o)=>match resultsOf o ae.aW cA.results with
    |some v=>some [(c6.ok v,o)]
    |none=>none):=fun x=>by
   split
   ·trivial
   ·exact⟨_,rfl⟩
   ·split
    ·exact⟨_,rfl⟩
    ·trivial
  cases x with
  |exit id=>trivial
  |normal=>exact he .normal
  |ret=>exact he .ret
  |panic v=>exact he (.panic v)
def sX(env:Env)(gs:List Nat):Prop:=∀g∈gs,∀F args o,k0 (callV env (exec env F) 0 (.f (.func g) [] []) args o)
theorem sX.nil{env:Env}:sX env []:=fun _ h=>absurd h (by simp)
theorem sX.cons{env:Env}{g:Nat}{gs:List Nat}(h:∀F args o,k0 (callV env (exec env F) 0 (.f (.func g) [] []) args o))(hs:sX env gs):sX env (g::gs):=fun x hx=>by
 rcases dP.1 hx with rfl|hx
 ·exact h
 ·exact hs x hx
def wX(gs:List Nat)(g:Nat):Bool:=gs.any fun x=>Nat.beq x g
theorem c5b{g:Nat}{gs:List Nat}(h:wX gs g=true):g∈gs:=by
 obtain⟨x,h1,h2⟩:=tX.1 h;rw[←eM h2];exact h1
def wY(gs:List Nat)(I:aQ):Bool:=
 (match I.iL with|[]=>true|_::_=>false)&&(match I.op with
  | .call (.fn g) _=>wX gs g
  |op=>calm op)
theorem c5c{gs:List Nat}{I:aQ}(h:wY gs I=true):I.iL=[]∧((∃g bP,I.op= .call (.fn g) bP∧g∈gs)∨calm I.op=true):=by
 obtain⟨d,op,d6u,w⟩:=I;cases w with
 |cons a l=>cases h
 |nil=>
  refine⟨rfl,?_⟩;cases op with
  |call c bP=>cases c with
   |fn g=>exact .inl ⟨g,bP,rfl,c5b h⟩
   |val x=>cases h
  |_=>exact .inr h
abbrev yU(o ai:ad):Prop:=∀i I,o.get i=some I→ai.get i=some I
theorem Cm{α:Type}:∀(a b:List α) (q:Nat),nth (a++b) (a.length+q)=nth b q
 |[],b,q=>by rw[wi,uu,rD]
 |x::a,b,q=>by
  rw[jD,Nat.add_right_comm,n2];exact Cm a b q
theorem wZ{env:Env}{gs:List Nat}(hg:sX env gs){F:Nat}{nd:Bool}:∀ {ops:List aQ},cV (wY gs) ops=true→∀ {ae:Fr} {o:ad} {outs:mc},runOps env 0 (callV env (exec env F) 0) nd ops ae o=some outs→(∀I∈outs,I.1= .normal)→outs≠[]→
  ∃bQ jx ah,outs=[(.normal,bQ,ah)]∧jx.length=ops.length∧(∃t,(ah::jx).reverse=o::t)∧∀bh ws,runDraw env 0 (callV env (exec env F) 0) ops ae bh ws o=some (bQ,jx++bh,ws,ah)
 |[],_,ae,o,outs,h,_,_=>by
  cases h;exact⟨ae,[],o,rfl,rfl,⟨[],rfl⟩,fun _ _=>rfl⟩
 |I::ops,hs,ae,o,outs,h,hn,bS=>by
  have h1:wY gs I=true:=sU hs I (by simp);have h2:cV (wY gs) ops=true:=m2 fun x hx=>sU hs x (e_ _ hx);rw[wu] at h;obtain⟨hw,hG⟩:=c5c h1;have fin:∀ {en:Fr} {bk:ad},runOps env 0 (callV env (exec env F) 0) nd ops en bk=some outs→(∀bh ws,runDraw env 0 (callV env (exec env F) 0) (I::ops) ae bh ws o=runDraw env 0 (callV env (exec env F) 0) ops en (o::bh) ws bk)→
    ∃bQ jx ah,outs=[(.normal,bQ,ah)]∧jx.length=(I::ops).length∧(∃t,(ah::jx).reverse=o::t)∧∀bh ws,runDraw env 0 (callV env (exec env F) 0) (I::ops) ae bh ws o=some (bQ,jx++bh,ws,ah):=fun {en bk} af an=>by
   obtain⟨bQ,jx,ah,a6,a2,_,a4⟩:=wZ hg h2 af hn bS;refine⟨bQ,jx++[o],ah,a6,by simp[a2],⟨(ah::jx).reverse,by rw[←n2,B3];rfl⟩,fun bh ws=>?_⟩;rw[an,a4,kn];rfl
  cases hwt:wantedA I.guard ae.aW with
  |false=>
   rw[hwt,cond_false] at h;exact fin h fun bh ws=>by rw[rI,hwt,cond_false]
  |true=>
   rw[hwt,cond_true] at h;cases hx:opx 0 (evalA env ae.aW) o I.op with
   |none=>rw[hx] at h;cases h
   |some r=>
    rw[hx] at h;cases r with
    |val v bk=>exact fin h fun bh ws=>by rw[rI,hwt,cond_true,hx,hw]
    |panic v=>cases h;have:=hn _ (e3.2 rfl);cases this
    |call bB args=>
     have fm:∃g,bB= .f (.func g) [] []∧g∈gs:=by
      rcases hG with⟨g,bP,aj,lj⟩|hG
      ·rw[aj] at hx;refine⟨g,?_,lj⟩;simp only[opx] at hx
       repeat' split at hx
       all_goals first|(cases hx;done)|(rename_i a _;cases hx;cases a;rfl)
      ·have:=Ga (floor:=0) (aw:=evalA env ae.aW) (o:=o) hG;rw[hx] at this;exact this.elim
     obtain⟨g,nW,lj⟩:=fm;subst nW;have h:gi (callV env (exec env F) 0 (.f (.func g) [] []) args o) (fun r=>match r with
      |(.ok v,o)=>runOps env 0 (callV env (exec env F) 0) nd ops (ae.put I.dst v) o
      |(.err v,o)=>some [(.panic v,ae,o)])=some outs:=h
     have h1:=hg g lj F args o;cases ab:callV env (exec env F) 0 (.f (.func g) [] []) args o with
     |none=>rw[ab] at h;cases h
     |some l=>
      rw[ab] at h1 h;obtain⟨x,rfl⟩:=h1;obtain⟨rt,bk⟩:=x;have e:∀(f:c6×ad→Option mc),gi (some [(rt,bk)]) f=f (rt,bk):=fun f=>by
       rfl
      rw[e] at h;cases rt with
      |err v=>cases h;have:=hn _ (e3.2 rfl);cases this
      |ok v=>
       have h:runOps env 0 (callV env (exec env F) 0) nd ops (ae.put I.dst v) bk=some outs:=h;refine fin h fun bh ws=>?_;rw[rI,hwt,cond_true,hx];show(match callV env (exec env F) 0 (.f (.func g) [] []) args o with|some [(.ok v,ah)]=>runDraw env 0 (callV env (exec env F) 0) ops (ae.put I.dst v) (o::bh) ws ah|_=>none)=_;rw[ab]
    |kh bB args=>
     exfalso;rcases hG with⟨g,bP,aj,lj⟩|hG
     ·rw[aj] at hx;simp only[opx] at hx
      repeat' split at hx
      all_goals first|(cases hx;done)|(simp_all;done)
     ·have:=Ga (floor:=0) (aw:=evalA env ae.aW) (o:=o) hG;rw[hx] at this;exact this.elim
    |gJ l=>
     exfalso;rcases hG with⟨g,bP,aj,lj⟩|hG
     ·rw[aj] at hx;simp only[opx] at hx
      repeat' split at hx
      all_goals first|(cases hx;done)|(simp_all;done)
     ·have:=Ga (floor:=0) (aw:=evalA env ae.aW) (o:=o) hG;rw[hx] at this;exact this.elim
theorem jQ.gJ{env:Env}{floor:Nat}{nd:Bool}{I:aQ}{ops:List aQ}{ae:Fr}{o:ad}{Q:qo}{l:List (AV×ad)}(hw:wantedA I.guard ae.aW=true)(aj:opx floor (evalA env ae.aW) o I.op=some (.gJ l))(au:l≠[])
  (h:∀p∈l,jQ env floor nd ops (ae.put I.dst p.1) p.2 Q):jQ env floor nd (I::ops) ae o Q:=by
 have:=cO.flat (g:=fun(p:AV×ad) F=>runOps env floor (callV env (exec env F) floor) nd ops (ae.put I.dst p.1) p.2) (Q:=fun(I:gn×Fr×ad)=>Q I.1 I.2.1 I.2.2) l au h;refine cO.congr this fun F=>?_;rw[wu,hw,cond_true,aj]
section
variable {env:Env}{aH:Option Nat}{D:List (Nat ⊕ (AV×List AV))}{n:Nat}{f:Nat→AV}{o:ad}{Q:fo}
theorem aA.gJ{d:Nat}{op:AOp}{g:Option (Nat×Bool)}{wn:List Nat}{ops:List aQ}{l:List (AV×ad)}(an:Nat.blt d n=true)(hw:gk g n f=true)(aj:opx 0 (dV env n f) o op=some (.gJ l))(au:l≠[])
  (h:∀p∈l,dJ env aH D n ops (c7 f d p.1) p.2 Q):dJ env aH D n (⟨some d,op,g,wn⟩::ops) f o Q:=fun ae bl=>
 jQ.gJ (by rw[bl.wanted];exact hw) (by rw[bl.aw];exact aj) au fun p hp=>h p hp _ (bl.put p.1 an)
end
end
section
open Go Go.RowKit
theorem XB{f:Nat→AV}{i j:Nat}{v:AV}(h:Nat.beq j i=false):c7 f i v j=f j:=by show cond (Nat.beq j i) v (f j)=f j;rw[h];rfl
theorem Mn{f:Nat→AV}{i:Nat}{v:AV}:c7 f i v i=v:=by show cond (Nat.beq i i) v (f i)=v;rw[fR];rfl
variable [Tok][TokOk] in
theorem U.each{env:Env}{aH:Option Nat}{D:List (Nat ⊕ (AV×List AV))}{n i m c d b b':Nat}{body:bc}{f:Nat→AV}{o:ad}{Q:fo}(N:Nat)(eL:Nat→(Nat→AV)→ad→Prop)
  (uC:N<2^62) (h0:eL 0 f o) (wC:f i=aC 0) (c5d:f m=aC N)
  (hb:∀j g ai,j<N→eL j g ai→g i=aC j→g m=aC N→ck env aH D n (.block b' body) (c7 g c (.b true)) ai (fun x bC eg=>match x with
   | .normal=>bC i=aC j∧bC m=aC N∧eL (j+1) (c7 (c7 bC d (aC (j+1))) i (aC (j+1))) eg
   | .exit e=>Nat.beq e b=false∧Q (.exit e) bC eg
   |x=>Q x bC eg))
  (hx:∀g ai,eL N g ai→g i=aC N→Q .normal (c7 g c (.b false)) ai)
  (ab:Nat.blt c n=true:=by rfl) (an:Nat.blt d n=true:=by rfl) (hi:Nat.blt i n=true:=by rfl) (hm:Nat.blt m n=true:=by rfl) (c5e:Nat.beq m d=false:=by rfl) (mN:Nat.beq m i=false:=by rfl):
  ck env aH D n (.block b (.loop (.seq (.region [⟨some c,.bin .lss (.t i) (.t m),none,[]⟩]) (.seq (.cond (.t c) .skip (.exit b)) (.seq (.block b' body) (.region [⟨some d,.bin .add (.t i) (.c (.i .i64 1)),none,[]⟩,⟨some i,.bU (.t d),none,[]⟩])))))) f o Q:=by
 refine U.block (U.loop (fun k g ai=>∃j,j+k=N∧eL j g ai∧g i=aC j∧g m=aC N) ?_ N ⟨0,by omega,h0,wC,c5d⟩);rintro k g ai ⟨j,XC,bo,Mo,lj⟩;have nB:dV env n g (.t i)=some (aC j):=by show cond (Nat.blt i n) (some (g i)) none=_;rw[hi,Mo];rfl
 have em:dV env n g (.t m)=some (aC N):=by show cond (Nat.blt m n) (some (g m)) none=_;rw[hm,lj];rfl
 refine U.seq (U.region ?_);refine aA.cmp (a:=j) (b:=N) ab rfl nB em rfl ?_;refine aA.nil (U.seq (U.eE (t:=decide (j<N)) (by show cond (Nat.blt c n) (some (c7 g c (.b (decide (j<N))) c)) none=_;rw[ab,Mn];rfl) (fun h=>?_) fun h=>?_))
 ·have aB:j<N:=of_decide_eq_true h;rw[h];refine U.skip (U.seq ((hb j g ai aB bo Mo lj).mono fun x bC eg h'=>?_));cases x with
  |normal=>
   obtain⟨h1,h2,h3⟩:=h';refine U.region ?_;have aE:dV env n bC (.t i)=some (aC j):=by show cond (Nat.blt i n) (some (bC i)) none=_;rw[hi,h1];rfl
   refine aA.bin an rfl aE rfl (mv (a:=j) (b:=1) (by omega)) ?_;refine aA.go rfl hi rfl (v:=aC (j+1)) (ah:=eg) ?_ ?_
   ·show(match cond (Nat.blt d n) (some (c7 bC d (aC (j+1)) d)) none with|some v=>some (bG.val v eg)|none=>none)=_;rw[an,Mn];rfl
   ·refine aA.nil ?_;refine⟨k-1,by omega,j+1,by omega,h3,Mn,?_⟩;rw[XB mN,XB c5e,h2]
  |exit e=>
   show cond (Nat.beq e b) (Q .normal bC eg) (Q (.exit e) bC eg);rw[h'.1];exact h'.2
  |ret=>exact h'
  |panic v=>exact h'
 ·have aB:j=N:=by have:=of_decide_eq_false h;omega
  subst aB;rw[h];refine U.exit ?_;show cond (Nat.beq b b) (Q .normal (c7 g c (.b false)) ai) (Q (.exit b) (c7 g c (.b false)) ai);rw[fR];exact hx g ai bo Mo
end
section
variable [Tok][TokOk]
open Go.RowKit
abbrev lS:=List (Nat×Nat×AO)
def sY(N len:Nat)(Gb:List ad)(q:Nat)(P:ad→Prop):Prop:=∃j s,q+len=N+j∧nth Gb j=some s∧P s
theorem sY.up{N len q:Nat}{Gb:List ad}{o:ad}{P:ad→Prop}(h:sY N len Gb q P):sY N (len+1) (o::Gb) q P:=by
 obtain⟨j,s,h1,h2,h3⟩:=h;exact⟨j+1,s,by omega,h2,h3⟩
structure Cn(env:Env)(N:Nat)(cw:lS)(ops:List aQ)(o:ad)(x:iN):Prop where
 Mp:∃t,(x.2.2.2::x.2.1).reverse=o::t∧t.length=ops.length
 cw:∀p∈cw,sY N ops.length (x.2.2.2::x.2.1).reverse p.1 fun s=>s.get p.2.1=some p.2.2
 yz:∀w∈x.2.2.1,∀q∈w.1.iL,sY N ops.length (x.2.2.2::x.2.1).reverse q fun s=>∃v ai,opx 0 (evalA env w.2.1) s w.1.op=some (.val v ai)∧AV.eqb env.aT v w.2.2=true
def iN.on(bh:List ad)(ws:List kj)(x:iN):iN:=(x.1,x.2.1++bh,x.2.2.1++ws,x.2.2.2)
theorem iN.XD(x:iN)(a c:List ad)(d e:List kj):(x.on a d).on c e=x.on (a++c) (d++e):=by
 show(x.1,(x.2.1++a)++c,(x.2.2.1++d)++e,x.2.2.2)=(x.1,x.2.1++(a++c),x.2.2.1++(d++e),x.2.2.2);rw[kn,kn]
def fP(env:Env)(D:List (Nat ⊕ (AV×List AV)))(n N:Nat)(cw:lS)(ops:List aQ)(f:Nat→AV)(o:ad)(Q:fo):Prop:=
 ∀ae,hc D n f ae→∃e2 outs,outs≠[]∧(∀I∈outs,∃bC,hc D n bC I.1∧Q .normal bC I.2)∧∀F,e2≤F→∃L:List iN,L.map (fun x=>(x.1,x.2.2.2))=outs∧
  (∀bh ws,runDraws env 0 (callV env (exec env F) 0) ops ae bh ws o=some (L.map (iN.on bh ws)))∧∀x∈L,Cn env N cw ops o x
section
variable {env:Env}{aH:Option Nat}{D:List (Nat ⊕ (AV×List AV))}{n N:Nat}{f:Nat→AV}{o:ad}{Q:fo}{cw:lS}
theorem U.c5f{ops:List aQ}(hs:swapT ops=true)(h:fP env D n ops.length [] ops f o Q):ck env aH D n (.draw ops) f o Q:=fun ae bl=>by
 obtain⟨e2,outs,h0,h2,h1⟩:=h ae bl;refine⟨e2+1,outs.map fun I=>(.normal,I.1,I.2),by simpa using h0,fun F eT=>?_,fun I aj=>?_⟩
 ·obtain⟨k,rfl⟩:∃k,F=k+1:=⟨F-1,by omega⟩
  obtain⟨L,e,a2,a5⟩:=h1 k (by omega);show exec env (k+1) 0 aH (bc.draw ops) ae o=_;rw[mj];show(match runDraws env 0 (callV env (exec env k) 0) ops ae [] [] o with|some l=>mapO (drawn env 0 ops) l|none=>none)=_;rw[a2,← e,qY];show mapO (drawn env 0 ops) (L.map (iN.on [] []))=_;have hx:∀x∈L,drawn env 0 ops (x.on [] [])=some (.normal,x.1,x.2.2.2):=fun x hx=>by
   have a5:=(a5 x hx).yz;unfold drawn iN.on;simp only[jv];rw[L_ hs,Bool.and_true,fI.2 fun w mr=>?_];rfl;unfold steady;refine m2 fun q aI=>?_;obtain⟨j,s,e,dA,v,ai,dQ,fE⟩:=a5 w mr q aI;obtain rfl:q=j:=by omega
   rw[dA];show(match pM w.1.op 0 (evalA env w.2.1) s with|some (.val v _)=>AV.eqb env.aT v w.2.2|_=>false)=true;rw[uc,dQ];exact fE
  clear a5 a2 e
  induction L with
  |nil=>rfl
  |cons x L ay=>
   rw[k9,jw,hx x iq,ay fun y aJ=>hx y (e_ _ aJ)];rfl
 ·obtain⟨x,hx,rfl⟩:=fq.1 aj;obtain⟨bC,a6,a2⟩:=h2 x hx;exact⟨bC,a6,a2⟩
theorem Cn.one{I:aQ}{ops:List aQ}{bk:ad}{w0:lS}{x:iN}{wl:List kj}(h:Cn env N w0 ops bk x)(w1:∀p∈cw,p∈w0)(hw:∀w∈wl,∀q∈w.1.iL,∀st,(∀p∈w0,sY N ops.length st p.1 fun s=>s.get p.2.1=some p.2.2)→st.length=ops.length+1→sY N ops.length st q fun s=>∃v ai,opx 0 (evalA env w.2.1) s w.1.op=some (.val v ai)∧AV.eqb env.aT v w.2.2=true):Cn env N cw (I::ops) o (x.on [o] wl):=by
 have e:((x.on [o] wl).2.2.2::(x.on [o] wl).2.1).reverse=o::(x.2.2.2::x.2.1).reverse:=by
  show(x.2.2.2::(x.2.1++[o])).reverse=_;rw[←n2,B3];rfl
 obtain⟨t,g1,g2⟩:=h.Mp;refine⟨⟨_,e,by rw[g1];simp[g2]⟩,fun p hp=>?_,fun w uD q aI=>?_⟩
 ·rw[e];exact(h.cw p (w1 p hp)).up
 ·rw[e];rcases e4.1 uD with uD|uD
  ·exact(h.yz w uD q aI).up
  ·exact(hw w uD q aI _ h.cw (by rw[g1];simp[g2])).up
theorem fP.one{I:aQ}{ops:List aQ}{f1:Nat→AV}{bk:ad}{w0:lS}{wl:aP AV→List kj}(h:fP env D n N w0 ops f1 bk Q)(w1:∀p∈cw,p∈w0)
  (af:∀ae,hc D n f ae→∃en e2,hc D n f1 en∧(∀w∈wl ae.aW,∀q∈w.1.iL,∀st,(∀p∈w0,sY N ops.length st p.1 fun s=>s.get p.2.1=some p.2.2)→st.length=ops.length+1→sY N ops.length st q fun s=>∃v ai,opx 0 (evalA env w.2.1) s w.1.op=some (.val v ai)∧AV.eqb env.aT v w.2.2=true)∧
   ∀F,e2≤F→∀bh ws,runDraws env 0 (callV env (exec env F) 0) (I::ops) ae bh ws o=runDraws env 0 (callV env (exec env F) 0) ops en (o::bh) (wl ae.aW++ws) bk):fP env D n N cw (I::ops) f o Q:=fun ae bl=>by
 obtain⟨en,nA,Ck,hw,af⟩:=af ae bl;obtain⟨e2,outs,h0,h2,h1⟩:=h en Ck;refine⟨max e2 nA,outs,h0,h2,fun F eT=>?_⟩;obtain⟨L,e,g3,g4⟩:=h1 F (by omega);refine⟨L.map (iN.on [o] (wl ae.aW)),by rw[qY];exact e,fun bh ws=>?_,fun x hx=>?_⟩
 ·rw[af F (by omega),g3,qY]
  congr 1
  exact pF fun x _=>(x.XD [o] bh (wl ae.aW) ws).symm
 ·obtain⟨y,aJ,rfl⟩:=fq.1 hx;exact(g4 y aJ).one w1 hw
theorem fP.val{d:Option Nat}{op:AOp}{g:Option (Nat×Bool)}{ops:List aQ}{v:AV}{ah:ad}(an:∀x,d=some x→Nat.blt x n=true)(hw:gk g n f=true)(aj:opx 0 (dV env n f) o op=some (.val v ah))(h:fP env D n N cw ops (match d with|some d=>c7 f d v|none=>f) ah Q):
  fP env D n N cw (⟨d,op,g,[]⟩::ops) f o Q:=fP.one (wl:=fun _=>[]) h (fun _ h=>h) fun ae bl=>⟨ae.put d v,0,by
 cases d with
 |none=>exact bl
 |some d=>exact bl.put v (an d rfl),fun _ h=>absurd h (by simp),fun F _ bh ws=>by
  rw[runDraws_cons];show cond (wantedA g ae.aW) _ _=_;rw[bl.wanted,hw,cond_true,bl.aw,aj];rfl⟩
theorem fP.off{d:Nat}{op:AOp}{g:Option (Nat×Bool)}{wn:List Nat}{ops:List aQ}(an:Nat.blt d n=true)(hw:gk g n f=false)(h:fP env D n N cw ops (c7 f d dw) o Q):fP env D n N cw (⟨some d,op,g,wn⟩::ops) f o Q:=
 fP.one (wl:=fun _=>[]) h (fun _ h=>h) fun ae bl=>⟨ae.put (some d) dw,0,bl.put _ an,fun _ h=>absurd h (by simp),fun F _ bh ws=>by
  rw[runDraws_cons];show cond (wantedA g ae.aW) _ _=_;rw[bl.wanted,hw,cond_false];rfl⟩
theorem fP.sZ{d:Nat}{op:AOp}{g:Option (Nat×Bool)}{wn:List Nat}{ops:List aQ}{v:AV}{id:Nat}{c:AO}(hs:o.get id=some c)(an:Nat.blt d n=true)(hw:gk g n f=true)(aj:∀s:ad,s.get id=some c→opx 0 (dV env n f) s op=some (.val v s))(av:AV.eqb env.aT v v=true)
  (h:fP env D n N (wn.map (fun q=>(q,id,c))++cw) ops (c7 f d v) o Q):fP env D n N cw (⟨some d,op,g,wn⟩::ops) f o Q:=
 fP.one (wl:=fun al=>match wn with|[]=>[]|_::_=>[(⟨some d,op,g,wn⟩,al,v)]) h (fun _ h=>e4.2 (.inr h)) fun ae bl=>⟨ae.put (some d) v,0,bl.put v an,fun w uD q aI st df _=>by
  cases wn with
  |nil=>simp at uD
  |cons a l=>
   rw[e3.1 uD] at aI ⊢;obtain⟨j,s,aE,aY,cZ⟩:=df (q,id,c) (e4.2 (.inl (fq.2 ⟨q,aI,rfl⟩)));exact⟨j,s,aE,aY,v,s,by show opx 0 (evalA env ae.aW) s op=_;rw[bl.aw];exact aj s cZ,av⟩,fun F _ bh ws=>by
  rw[runDraws_cons];show cond (wantedA g ae.aW) _ _=_;rw[bl.wanted,hw,cond_true,bl.aw,aj o hs];cases wn<;>rfl⟩
theorem c5g{α β:Type}{f:α→Option (List β)}{x:α}{l:List α}{a c:List β}(h1:f x=some a)(h2:jE f l=some c):jE f (x::l)=some (a++c):=by
 cases l with
 |nil=>
  have h2:some ([]:List β)=some c:=h2;cases h2;rw[jv];exact h1
 |cons y t=>
  show(match f x with|none=>none|some a=>match jE f (y::t) with|none=>none|some b=>some (a++b))=_;rw[h1,h2]
theorem fP.call{d:Nat}{op:AOp}{g:Option (Nat×Bool)}{ops:List aQ}{bB:AV}{args:List AV}{aq:c6→ad→Prop}(an:Nat.blt d n=true)(hw:gk g n f=true)(aj:opx 0 (dV env n f) o op=some (.call bB args))
  (ab:cy env 0 bB args o aq) (h:∀r ah,aq r ah→∃v,r= .ok v∧fP env D n N cw ops (c7 f d v) ah Q):fP env D n N cw (⟨some d,op,g,[]⟩::ops) f o Q:=fun ae bl=>by
 obtain⟨nA,l,au,h2,h3⟩:=ab;have key:∀l:List (c6×ad),(∀I∈l,aq I.1 I.2)→∃e2 outs,(l≠[]→outs≠[])∧(∀I∈outs,∃bC,hc D n bC I.1∧Q .normal bC I.2)∧∀F,e2≤F→∃L:List iN,L.map (fun x=>(x.1,x.2.2.2))=outs∧
   (∀bh ws,jE (fun r=>match r with|(.ok v,ah)=>runDraws env 0 (callV env (exec env F) 0) ops (ae.put (some d) v) (o::bh) ws ah|_=>none) l=some (L.map (iN.on bh ws)))∧∀x∈L,Cn env N cw (⟨some d,op,g,[]⟩::ops) o x:=by
  intro l
  induction l with
  |nil=>exact fun _=>⟨0,[],fun h=>absurd rfl h,fun I aj=>by simp at aj,fun F _=>⟨[],rfl,fun _ _=>rfl,fun x hx=>by simp at hx⟩⟩
  |cons y l ay=>
   intro b9;obtain⟨L6,c5h,_,dQ,fE⟩:=ay fun I aj=>b9 I (e_ _ aj);obtain⟨r,ah⟩:=y;obtain⟨v,rfl,eS⟩:=h r ah (b9 _ iq);obtain⟨e2,outs,bY,dL,jh⟩:=eS _ (bl.put v an);refine⟨max e2 L6,outs++c5h,fun _ e=>bY (List.append_eq_nil_iff.1 e).1,fun I aj=>?_,fun F eT=>?_⟩
   ·rcases e4.1 aj with aj|aj
    ·exact dL I aj
    ·exact dQ I aj
   ·obtain⟨L,e,g3,g4⟩:=jh F (by omega);obtain⟨c5i,aY,bx,fM⟩:=fE F (by omega);refine⟨L.map (iN.on [o] [])++c5i,by rw[nb,qY,aY];congr 1,fun bh ws=>?_,fun x hx=>?_⟩
    ·rw[nb,qY];refine c5g ?_ (bx bh ws);show runDraws env 0 _ ops _ (o::bh) ws ah=_;rw[g3]
     congr 1
     exact pF fun x _=>(x.XD [o] bh [] ws).symm
    ·rcases e4.1 hx with hx|hx
     ·obtain⟨z,bw,rfl⟩:=fq.1 hx;exact(g4 z bw).one (fun _ h=>h) fun w hw=>by simp at hw
     ·exact fM x hx
 obtain⟨e2,outs,a6,a2,a3⟩:=key l h3;refine⟨max e2 nA,outs,a6 au,a2,fun F eT=>?_⟩;obtain⟨L,e,g3,g4⟩:=a3 F (by omega);refine⟨L,e,fun bh ws=>?_,g4⟩;rw[runDraws_cons];show cond (wantedA g ae.aW) _ _=_;rw[bl.wanted,hw,cond_true,bl.aw,aj];show(match callV env (exec env F) 0 bB args o with|some (x::l)=>jE _ (x::l)|_=>none)=_;rw[show callV env (exec env F) 0 bB args o=some l from h2 F (by omega)];cases l with
 |nil=>exact absurd rfl au
 |cons x l=>exact g3 bh ws
def qs(o:ad):lS→Prop
 |[]=>True
 |p::l=>o.get p.2.1=some p.2.2∧qs o l
theorem qs.mem{o:ad}:∀ {l:lS},qs o l→∀p∈l,o.get p.2.1=some p.2.2
 |_::_,h,p,hp=>by
  rcases dP.1 hp with rfl|hp
  ·exact h.1
  ·exact h.2.mem p hp
def Mq(N len:Nat)(cw:lS):lS:=cw.filter fun p=>Nat.beq (p.1+len) N
def XE(N len:Nat)(cw:lS):lS:=cw.filter fun p=>!Nat.beq (p.1+len) N
theorem fP.now{ops:List aQ}(l dF:lS)(h1:Mq N ops.length cw=l)(h2:XE N ops.length cw=dF)(hh:qs o l)(h:fP env D n N dF ops f o Q):fP env D n N cw ops f o Q:=fun ae bl=>by
 obtain⟨e2,outs,g0,g2,g1⟩:=h ae bl;refine⟨e2,outs,g0,g2,fun F eT=>?_⟩;obtain⟨L,e,a3,a4⟩:=g1 F eT;refine⟨L,e,a3,fun x hx=>⟨(a4 x hx).Mp,fun p hp=>?_,(a4 x hx).yz⟩⟩;obtain⟨t,a6,_⟩:=(a4 x hx).Mp;by_cases hb:Nat.beq (p.1+ops.length) N=true
 ·exact⟨0,o,by rw[eM hb];rfl,by rw[a6];rfl,hh.mem p (by rw[←h1];exact wj.2 ⟨hp,hb⟩)⟩
 ·exact(a4 x hx).cw p (by rw[←h2];exact wj.2 ⟨hp,by rw[Ww.2 hb];rfl⟩)
theorem fP.nil(hh:Mq N 0 cw=cw)(au:qs o cw)(h:Q .normal f o):fP env D n N cw [] f o Q:=fun ae bl=>
 ⟨0,[(ae,o)],by simp,fun I aj=>by rw[e3.1 aj];exact⟨f,bl,h⟩,fun F _=>⟨[(ae,[],[],o)],rfl,fun _ _=>rfl,fun x hx=>by
  rw[e3.1 hx];refine⟨⟨[],rfl,rfl⟩,fun p hp=>⟨0,o,?_,rfl,au.mem p hp⟩,fun _ h=>absurd h (by simp)⟩;rw[←hh] at hp;exact eM (wj.1 hp).2⟩⟩
end
inductive s0 where
 |pl
 |eU (N:Nat) (cw:lS)
def cU(md:s0)(env:Env)(aH:Option Nat)(D:List (Nat ⊕ (AV×List AV)))(n:Nat)(ops:List aQ)(f:Nat→AV)(o:ad)(Q:fo):Prop:=
 match md with
 | .pl=>dJ env aH D n ops f o Q
 | .eU N cw=>fP env D n N cw ops f o Q
structure Has(o:ad)(L:List (Nat×List AV)):Prop where
 get:∀p∈L,o.get p.1=some (.cells p.2)
 Gc:L.Pairwise fun a b=>a.1≠b.1
theorem Has.nil{o:ad}:Has o []:=⟨fun _ h=>absurd h (by simp),.nil⟩
theorem Has.ee{o ai:ad}{L:List (Nat×List AV)}(h:Has o L)(k:∀i I,o.get i=some I→ai.get i=some I):Has ai L:=⟨fun p hp=>k _ _ (h.get p hp),h.Gc⟩
theorem qs.c{o:ad}{L:List (Nat×List AV)}{l:lS}{k id:Nat}{c:List AV}(H:Has o L)(hm:(id,c)∈L)(h:qs o l):qs o ((k,id,.cells c)::l):=⟨H.get _ hm,h⟩
theorem Has.lt{o:ad}{L:List (Nat×List AV)}(h:Has o L){p:Nat×List AV}(hp:p∈L):p.1<o.next:=ad.ei (h.get p hp)
theorem Has.cons{o:ad}{L:List (Nat×List AV)}{k:Nat}{c:List AV}(h:Has o L)(ax:o.get k=some (.cells c))(hn:∀p∈L,p.1≠k):Has o ((k,c)::L):=⟨fun p hp=>by
 rcases dP.1 hp with rfl|hp
 ·exact ax
 ·exact h.get p hp,B2.2 ⟨fun p hp e=>hn p hp e.symm,h.Gc⟩⟩
theorem Has.push{o ai:ad}{L:List (Nat×List AV)}{k:Nat}{c:List AV}(h:Has o L)(hn:o.next=k)(ax:ai.get k=some (.cells c))(ks:∀i I,o.get i=some I→ai.get i=some I):Has ai ((k,c)::L):=
 (h.ee ks).cons ax fun p hp=>by have:=h.lt hp;omega
theorem Has.set{o ai:ad}{L:List (Nat×List AV)}{id:Nat}{c bR:List AV}(h:Has o L)(j:Nat)(aB:L[j]? =some (id,c))(ax:ai.get id=some (.cells bR))(ks:∀i I,i≠id→o.get i=some I→ai.get i=some I):Has ai (L.set j (id,bR)):=by
 obtain⟨bu,he⟩:=mG.1 aB;have bS:∀i (hi:i<L.length),i≠j→(L[i]).1≠id:=fun i hi wF=>by
  have hp:=LP.1 h.Gc;have e:(L[j]).1=id:=by rw[he]
  rcases mF i j with h1|h1
  ·rw[←e];exact hp i j hi bu h1
  ·rw[←e];exact fun eQ=>hp j i bu hi (by omega) eQ.symm
 refine⟨fun p hp=>?_,LP.2 fun a b ha hb c5j=>?_⟩
 ·obtain⟨i,hi,rfl⟩:=k8 hp;rw[JH] at hi;rw[Ej];split
  ·exact ax
  ·exact ks _ _ (bS i hi (by omega)) (h.get _ (cB hi))
 ·rw[JH] at ha hb;rw[Ej,Ej];split<;>split
  ·omega
  ·rename_i e _;exact fun eQ=>bS b hb (by omega) eQ.symm
  ·exact bS a ha (by omega)
  ·exact LP.1 h.Gc a b ha hb c5j
def pc:List (Nat×AV)→Nat→Option AV
 |[],_=>none
 |(j,v)::L,i=>cond (Nat.beq i j) (some v) (pc L i)
def eW(env:Env)(n:Nat)(L:List (Nat×AV))(g:Nat→AV):az→Option AV
 | .t i=>cond (Nat.blt i n) (match pc L i with|some v=>some v|none=>some (g i)) none
 | .c v=>some v
 | .g j=>match env.jm j with|some v=>some (.cG true v)|none=>none
theorem Gd{g:Nat→AV}:∀ {L:List (Nat×AV)} (i:Nat),cg L g i=(match pc L i with|some v=>v|none=>g i)
 |[],i=>rfl
 |(j,v)::L,i=>by
  show cond (Nat.beq i j) v (cg L g i)=(match cond (Nat.beq i j) (some v) (pc L i) with|some v=>v|none=>g i);cases Nat.beq i j with
  |true=>rfl
  |false=>exact Gd i
theorem qt(env:Env)(n:Nat)(L:List (Nat×AV))(g:Nat→AV):dV env n (cg L g)=eW env n L g:=by
 funext x
 cases x with
 |t i=>
  show cond (Nat.blt i n) (some (cg L g i)) none=cond (Nat.blt i n) (match pc L i with|some v=>some v|none=>some (g i)) none;rw[Gd];cases pc L i<;>rfl
 |c v=>rfl
 |g j=>rfl
def wtL(q:Option (Nat×Bool))(n:Nat)(L:List (Nat×AV)):Bool:=
 match q with
 |none=>true
 |some (d,w)=>cond (Nat.blt d n) (match pc L d with|some (.b x)=>x==w|_=>false) false
def offL(q:Option (Nat×Bool))(n:Nat)(L:List (Nat×AV)):Bool:=
 match q with
 |none=>false
 |some (d,w)=>cond (Nat.blt d n) (match pc L d with|some (.b x)=>!(x==w)|some _=>true|none=>false) false
theorem s3{q:Option (Nat×Bool)}{n:Nat}{L:List (Nat×AV)}{g:Nat→AV}(h:wtL q n L=true):gk q n (cg L g)=true:=by
 cases q with
 |none=>rfl
 |some p=>
  obtain⟨d,w⟩:=p;have h:cond (Nat.blt d n) (match pc L d with|some (.b x)=>x==w|_=>false) false=true:=h;show cond (Nat.blt d n) (match cg L g d with| .b x=>x==w|_=>false) false=true;cases hb:Nat.blt d n with
  |false=>rw[hb] at h;cases h
  |true=>
   rw[hb,cond_true] at h;rw[cond_true,Gd];split at h
   ·rename_i au;rw[au];exact h
   ·cases h
theorem XF{q:Option (Nat×Bool)}{n:Nat}{L:List (Nat×AV)}{g:Nat→AV}(h:offL q n L=true):gk q n (cg L g)=false:=by
 cases q with
 |none=>cases h
 |some p=>
  obtain⟨d,w⟩:=p;have h:cond (Nat.blt d n) (match pc L d with|some (.b x)=>!(x==w)|some _=>true|none=>false) false=true:=h;show cond (Nat.blt d n) (match cg L g d with| .b x=>x==w|_=>false) false=false;cases hb:Nat.blt d n with
  |false=>rw[hb] at h;cases h
  |true=>
   rw[hb,cond_true] at h;rw[cond_true,Gd];split at h
   ·rename_i au;rw[au];simpa using h
   ·rename_i x hx au;rw[au];clear au;cases x with
    |b y=>exact absurd rfl (hx y)
    |_=>rfl
   ·cases h
namespace W
section
variable {env:Env}{aH:Option Nat}{D:List (Nat ⊕ (AV×List AV))}{n:Nat}{F:List (Nat×AV)}{z:Nat→AV}{o:ad}{Q:fo}
theorem aU{a b:bc}(h:ck env aH D n a (cg F z) o (fun x f o=>match x with| .normal=>ck env aH D n b f o Q|x=>Q x f o)):ck env aH D n (.seq a b) (cg F z) o Q:=U.seq h
theorem c5k(h:Q .normal (cg F z) o):ck env aH D n .skip (cg F z) o Q:=U.skip h
theorem c5l{I:az}{a b:bc}(aj:eW env n F z I=some (.b true))(h:ck env aH D n a (cg F z) o Q):ck env aH D n (.cond I a b) (cg F z) o Q:=U.eE (t:=true) (by rw[qt];exact aj) (fun _=>h) fun h=>by cases h
theorem c5m{I:az}{a b:bc}(aj:eW env n F z I=some (.b false))(h:ck env aH D n b (cg F z) o Q):ck env aH D n (.cond I a b) (cg F z) o Q:=U.eE (t:=false) (by rw[qt];exact aj) (fun h=>by cases h) fun _=>h
end
section
variable {md:s0}{env:Env}{aH:Option Nat}{D:List (Nat ⊕ (AV×List AV))}{n:Nat}{F:List (Nat×AV)}{z:Nat→AV}{o:ad}{Q:fo}
theorem rg{ops:List aQ}(h:cU .pl env aH D n ops (cg F z) o Q):ck env aH D n (.region ops) (cg F z) o Q:=U.region h
theorem c5n{ops:List aQ}(hs:swapT ops=true)(h:cU (.eU ops.length []) env aH D n ops (cg F z) o Q):ck env aH D n (.draw ops) (cg F z) o Q:=U.c5f hs h
theorem nil(h:Q .normal (cg F z) o):cU .pl env aH D n [] (cg F z) o Q:=aA.nil h
theorem c5o{N:Nat}(h:Q .normal (cg F z) o):cU (.eU N []) env aH D n [] (cg F z) o Q:=fP.nil rfl trivial h
theorem now{N:Nat}{cw:lS}{ops:List aQ}(l dF:lS)(h1:Mq N ops.length cw=l)(h2:XE N ops.length cw=dF)(hh:qs o l)(h:cU (.eU N dF) env aH D n ops (cg F z) o Q):cU (.eU N cw) env aH D n ops (cg F z) o Q:=fP.now l dF h1 h2 hh h
theorem val{d:Nat}{op:AOp}{g:Option (Nat×Bool)}{ops:List aQ}{v:AV}{ah:ad}(an:Nat.blt d n=true)(hw:wtL g n F=true)(aj:opx 0 (eW env n F z) o op=some (.val v ah))(h:cU md env aH D n ops (cg ((d,v)::F) z) ah Q):cU md env aH D n (⟨some d,op,g,[]⟩::ops) (cg F z) o Q:=by
 cases md with
 |pl=>exact aA.val an (s3 hw) (by rw[qt];exact aj) h
 |eU N cw=>exact fP.val (fun x e=>by cases e;exact an) (s3 hw) (by rw[qt];exact aj) h
theorem sM{op:AOp}{g:Option (Nat×Bool)}{ops:List aQ}{v:AV}{ah:ad}(hw:wtL g n F=true)(aj:opx 0 (eW env n F z) o op=some (.val v ah))(h:cU md env aH D n ops (cg F z) ah Q):cU md env aH D n (⟨none,op,g,[]⟩::ops) (cg F z) o Q:=by
 cases md with
 |pl=>exact aA.sM (s3 hw) (by rw[qt];exact aj) h
 |eU N cw=>exact fP.val (fun x e=>by cases e) (s3 hw) (by rw[qt];exact aj) h
theorem off{d:Nat}{op:AOp}{g:Option (Nat×Bool)}{wn:List Nat}{ops:List aQ}(an:Nat.blt d n=true)(hw:offL g n F=true)(h:cU md env aH D n ops (cg ((d,dw)::F) z) o Q):cU md env aH D n (⟨some d,op,g,wn⟩::ops) (cg F z) o Q:=by
 cases md with
 |pl=>exact aA.off an (XF hw) h
 |eU N cw=>exact fP.off an (XF hw) h
def c5p:AOp→Bool
 | .bU _=>true| .pick _ _ _=>true| .build _ _=>true| .nilCheck _=>true| .xI _ _ _=>true| .la _ _ _ _=>true| .not _=>true| .q4 _ _ _=>true| .En _ _=>true
 | .vG _ _ _ _ _=>true| .xJ _ _ _ _ _=>true| .oJ _ _ _=>true| .fieldAddr _ _ _=>true| .field _ _ _=>true| .xK _ _ _ _=>true| .di _ _ _=>true| .extract _ _=>true| .Eo _=>true
 |_=>false
theorem go{d:Nat}{op:AOp}{g:Option (Nat×Bool)}{ops:List aQ}{v:AV}{ah:ad}(_hb:c5p op=true)(an:Nat.blt d n=true)(hw:wtL g n F=true)(aj:opx 0 (eW env n F z) o op=some (.val v ah))(h:cU md env aH D n ops (cg ((d,v)::F) z) ah Q):cU md env aH D n (⟨some d,op,g,[]⟩::ops) (cg F z) o Q:=val an hw aj h
theorem bin{d:Nat}{op:BinOp}{x y:az}{g:Option (Nat×Bool)}{ops:List aQ}{a b v:AV}(an:Nat.blt d n=true)(hw:wtL g n F=true)(h1:eW env n F z x=some a)(h2:eW env n F z y=some b)(h3:binop op a b=some v)(h:cU md env aH D n ops (cg ((d,v)::F) z) o Q):cU md env aH D n (⟨some d,.bin op x y,g,[]⟩::ops) (cg F z) o Q:=val an hw (Cd a b v h1 h2 h3) h
def cmpP(op:BinOp)(a b:Nat):Prop:=
 match op with
 | .eql=>a=b
 | .neq=>¬a=b
 | .lss=>a<b
 | .leq=>a≤b
 | .gtr=>b<a
 | .geq=>b≤a
 |_=>False
def XG:BinOp→Bool
 | .eql=>true
 | .neq=>true
 | .lss=>true
 | .leq=>true
 | .gtr=>true
 | .geq=>true
 |_=>false
theorem c5q{op:BinOp}{a b:Nat}(h:cmpP op a b):cmpO op a b=some (.b true):=by
 cases op<;>first
  |(have h:_:=h;simp only[cmpP] at h;simp only[cmpO,decide_eq_true h];done)
  |(have h:_:=h;simp only[cmpP] at h;simp only[cmpO,decide_eq_false h,yI];done)
  |exact h.elim
theorem c5r{op:BinOp}{a b:Nat}(ab:XG op=true)(h:¬cmpP op a b):cmpO op a b=some (.b false):=by
 cases op<;>first
  |(simp only[cmpP] at h;simp only[cmpO,decide_eq_false h];done)
  |(simp only[cmpP,Decidable.not_not] at h;simp only[cmpO,decide_eq_true h,Bh];done)
  |cases ab
theorem ct{d:Nat}{op:BinOp}{x y:az}{g:Option (Nat×Bool)}{ops:List aQ}{k:IntKind}{a b:Nat}(an:Nat.blt d n=true)(hw:wtL g n F=true)(h1:eW env n F z x=some (.i k (Int.ofNat a)))(h2:eW env n F z y=some (.i k (Int.ofNat b)))(h3:cmpP op a b)(h:cU md env aH D n ops (cg ((d,.b true)::F) z) o Q):cU md env aH D n (⟨some d,.bin op x y,g,[]⟩::ops) (cg F z) o Q:=bin an hw h1 h2 (fa (c5q h3)) h
theorem cf{d:Nat}{op:BinOp}{x y:az}{g:Option (Nat×Bool)}{ops:List aQ}{k:IntKind}{a b:Nat}(an:Nat.blt d n=true)(hw:wtL g n F=true)(ab:XG op=true)(h1:eW env n F z x=some (.i k (Int.ofNat a)))(h2:eW env n F z y=some (.i k (Int.ofNat b)))(h3:¬cmpP op a b)(h:cU md env aH D n ops (cg ((d,.b false)::F) z) o Q):cU md env aH D n (⟨some d,.bin op x y,g,[]⟩::ops) (cg F z) o Q:=bin an hw h1 h2 (fa (c5r ab h3)) h
theorem cm{d:Nat}{op:BinOp}{x y:az}{g:Option (Nat×Bool)}{ops:List aQ}{k:IntKind}{a b:Nat}{v:AV}(an:Nat.blt d n=true)(hw:wtL g n F=true)(h1:eW env n F z x=some (.i k (Int.ofNat a)))(h2:eW env n F z y=some (.i k (Int.ofNat b)))(h3:cmpO op a b=some v)(h:cU md env aH D n ops (cg ((d,v)::F) z) o Q):cU md env aH D n (⟨some d,.bin op x y,g,[]⟩::ops) (cg F z) o Q:=bin an hw h1 h2 (fa h3) h
theorem len{d k m:Nat}{x:az}{g:Option (Nat×Bool)}{ops:List aQ}{v:AV}(an:Nat.blt d n=true)(hw:wtL g n F=true)(h1:eW env n F z x=some v)(h2:lenA o k v=some m)(h:cU md env aH D n ops (cg ((d,aC m)::F) z) o Q):cU md env aH D n (⟨some d,.len k x,g,[]⟩::ops) (cg F z) o Q:=val an hw (Xg h1 h2) h
theorem dg{d:Nat}{R:Option Nat}{x i:az}{g:Option (Nat×Bool)}{ops:List aQ}{k:IntKind}{a v:AV}{j:Nat}(an:Nat.blt d n=true)(hw:wtL g n F=true)(h1:eW env n F z x=some a)(h2:eW env n F z i=some (.i k (Int.ofNat j)))(h3:idxSlA R a j=some v)(h:cU md env aH D n ops (cg ((d,v)::F) z) o Q):cU md env aH D n (⟨some d,.di R x i,g,[]⟩::ops) (cg F z) o Q:=val an hw (W9 k a j v h1 h2 h3) h
theorem eV{d:Nat}{R:Option Nat}{x:az}{g:Option (Nat×Bool)}{ops:List aQ}{I:Bool}{v:AV}(an:Nat.blt d n=true)(hw:wtL g n F=true)(h1:eW env n F z x=some (.cG I v))(h2:conf R v=true)(h:cU md env aH D n ops (cg ((d,v)::F) z) o Q):cU md env aH D n (⟨some d,.load R x,g,[]⟩::ops) (cg F z) o Q:=val an hw (qp _ _ h1 (by show(if conf R v then some v else none)=_;rw[if_pos h2])) h
theorem a1{L:List (Nat×List AV)}(H:Has o L){d:Nat}{R:Option Nat}{x:az}{g:Option (Nat×Bool)}{ops:List aQ}{id off:Nat}{c:List AV}{v:AV}(an:Nat.blt d n=true)(hw:wtL g n F=true)(h1:eW env n F z x=some (.p (some (id,off))))(hm:(id,c)∈L)(h2:eA R (c.drop off)=some v)(h:cU md env aH D n ops (cg ((d,v)::F) z) o Q):cU md env aH D n (⟨some d,.load R x,g,[]⟩::ops) (cg F z) o Q:=val an hw (qp _ _ h1 (sT (H.get _ hm) h2)) h
theorem sZ{N:Nat}{cw:lS}{L:List (Nat×List AV)}(H:Has o L){d:Nat}{R:Option Nat}{x:az}{g:Option (Nat×Bool)}{wn:List Nat}{ops:List aQ}{id off:Nat}{c:List AV}{v:AV}(an:Nat.blt d n=true)(hw:wtL g n F=true)(h1:eW env n F z x=some (.p (some (id,off))))(hm:(id,c)∈L)(h2:eA R (c.drop off)=some v)(av:AV.eqb env.aT v v=true)
  (h:cU (.eU N (wn.map (fun q=>(q,id,AO.cells c))++cw)) env aH D n ops (cg ((d,v)::F) z) o Q):cU (.eU N cw) env aH D n (⟨some d,.load R x,g,wn⟩::ops) (cg F z) o Q:=fP.sZ (H.get _ hm) an (s3 hw) (fun s hs=>by rw[qt];exact qp _ _ h1 (sT hs h2)) av h
theorem ko{L:List (Nat×List AV)}(H:Has o L){d:Nat}{v:AV}{g:Option (Nat×Bool)}{ops:List aQ}{c:List AV}{k:Nat}(hn:o.next=k)(an:Nat.blt d n=true)(hw:wtL g n F=true)(ab:v.cells=c)(h:∀ai:ad,ai.next=k+1→Has ai ((k,c)::L)→(∀i I,o.get i=some I→ai.get i=some I)→cU md env aH D n ops (cg ((d,.p (some (k,0)))::F) z) ai Q):cU md env aH D n (⟨some d,.alloc v,g,[]⟩::ops) (cg F z) o Q:=by
 subst hn;have ks:∀i I,o.get i=some I→(o.push (.cells c)).get i=some I:=fun i I aj=>by rw[ad.fZ trivial _ (ad.ei aj)];exact aj
 refine val (v:=jn o.next 0) (ah:=o.push (.cells c)) an hw (by rw[←ab];rfl) (h (o.push (.cells c)) rfl (H.push rfl (ad.jH _) ks) ks)
theorem dr{L:List (Nat×List AV)}(H:Has o L){d:Nat}{x:az}{v:AV}{g:Option (Nat×Bool)}{ops:List aQ}{c:List AV}{k:Nat}(hn:o.next=k)(an:Nat.blt d n=true)(hw:wtL g n F=true)(av:eW env n F z x=some v)(hval:v.val=true)(ab:v.cells=c)(h:∀ai:ad,ai.next=k+1→Has ai ((k,c)::L)→(∀i I,o.get i=some I→ai.get i=some I)→cU md env aH D n ops (cg ((d,.p (some (k,0)))::F) z) ai Q):cU md env aH D n (⟨some d,.box x,g,[]⟩::ops) (cg F z) o Q:=by
 subst hn;have ks:∀i I,o.get i=some I→(o.push (.cells c)).get i=some I:=fun i I aj=>by rw[ad.fZ trivial _ (ad.ei aj)];exact aj
 refine val (v:=jn o.next 0) (ah:=o.push (.cells c)) an hw ?_ (h (o.push (.cells c)) rfl (H.push rfl (ad.jH _) ks) ks);show(match eW env n F z x with|some v=>cond v.val (some (bG.val (jn o.next 0) (o.push (.cells v.cells)))) none|none=>none)=_;rw[av];show cond v.val _ _=_;rw[hval,cond_true,ab]
theorem st{L:List (Nat×List AV)}(H:Has o L)(j:Nat){R:Option Nat}{a x:az}{g:Option (Nat×Bool)}{ops:List aQ}{id off:Nat}{v:AV}{c bR:List AV}(hw:wtL g n F=true)(h1:eW env n F z a=some (.p (some (id,off))))(aB:L[j]? =some (id,c))(h2:eW env n F z x=some v)(iT:conf R v=true)(ab:storeCells c off v.cells=some bR)
  (h:∀ai:ad,ai.next=o.next→Has ai (L.set j (id,bR))→(∀i I,i≠id→o.get i=some I→ai.get i=some I)→cU md env aH D n ops (cg F z) ai Q):cU md env aH D n (⟨none,.store R a x,g,[]⟩::ops) (cg F z) o Q:=by
 have hs:=H.get _ (yb aB);exact sM hw (Xh hs h1 h2 iT ab) (h _ rfl (H.set j aB (kr hs).1 (kr hs).2) (kr hs).2)
theorem kG{L:List (Nat×List AV)}(H:Has o L){d:Nat}{v0 v:AV}{R:Option Nat}{x:az}{ops:List aQ}{c:List AV}{k:Nat}(hn:o.next=k)(an:Nat.blt d n=true)(hx:eW env n ((d,.p (some (k,0)))::F) z x=some v)(iT:conf R v=true)(ab:v.cells=c)(au:c.length=v0.cells.length)(h1:Nat.beq d d=true)
  (h:∀ai:ad,ai.next=k+1→Has ai ((k,c)::L)→(∀i I,o.get i=some I→ai.get i=some I)→cU md env aH D n ops (cg ((d,.p (some (k,0)))::F) z) ai Q):cU md env aH D n (⟨some d,.alloc v0,none,[]⟩::⟨none,.store R (.t d) x,none,[]⟩::ops) (cg F z) o Q:=by
 refine ko H hn an rfl rfl fun ai a6 a2 a3=>?_;have aE:eW env n ((d,.p (some (k,0)))::F) z (.t d)=some (.p (some (k,0))):=by
  show cond (Nat.blt d n) (match cond (Nat.beq d d) (some _) _ with|some v=>some v|none=>some (z d)) none=_;rw[an,h1];rfl
 refine st a2 0 rfl aE rfl hx iT (by rw[ab];exact storeAll au) fun cL dA dQ fE=>h cL (dA.trans a6) dQ fun i I aj=>fE i I ?_ (a3 i I aj);have:=ad.ei aj;omega
theorem cx{b:cv}{K:Nat→List AV→AV→Prop}{d:Nat}{op:AOp}{g:Option (Nat×Bool)}{ops:List aQ}{fn:Nat}{args aO:List AV}{r:AV}(hf:∀g aO r cj,K g aO r→K g aO cj→r=cj)(e:b.ext fn=0∧b.pure fn=true)(cX:K fn aO r)
  (an:Nat.blt d n=true) (hw:wtL g n F=true) (aj:opx 0 (eW (b.bj K) n F z) o op=some (.call (.f (.func fn) [] []) args)) (ha:mapO (bW o (b.aT+1000)) args=some aO) (h:cU md (b.bj K) aH D n ops (cg ((d,r)::F) z) o Q):cU md (b.bj K) aH D n (⟨some d,op,g,[]⟩::ops) (cg F z) o Q:=by
 cases md with
 |pl=>exact aA.known hf e.1 e.2 cX an (s3 hw) (by rw[qt];exact aj) ha h
 |eU N cw=>
  exact fP.call (aq:=fun x ai=>x= .ok r∧ai=o) an (s3 hw) (by rw[qt];exact aj) (cy.spec e.1 e.2 (by rw[wi,jv];exact ha) (L8 hf cX) ⟨rfl,rfl⟩) fun cj ai ⟨aE,aY⟩=>⟨_,aE,by subst aY;exact h⟩
theorem jR{d:Nat}{op:AOp}{g:Option (Nat×Bool)}{ops:List aQ}{bB:AV}{args:List AV}{aq:c6→ad→Prop}(an:Nat.blt d n=true)(hw:wtL g n F=true)(aj:opx 0 (eW env n F z) o op=some (.call bB args))
  (ab:cy env 0 bB args o aq) (h:∀r ai,aq r ai→∃v,r= .ok v∧cU md env aH D n ops (cg ((d,v)::F) z) ai Q):cU md env aH D n (⟨some d,op,g,[]⟩::ops) (cg F z) o Q:=by
 cases md with
 |pl=>exact aA.j_ an (s3 hw) (by rw[qt];exact aj) ab h
 |eU N cw=>exact fP.call an (s3 hw) (by rw[qt];exact aj) ab h
end
section
variable {md:s0}{env:Env}{aH:Option Nat}{D:List (Nat ⊕ (AV×List AV))}{n:Nat}{f:Nat→AV}{o:ad}{Q:fo}{d:Option Nat}{g:Option (Nat×Bool)}{wn:List Nat}{ops:List aQ}
theorem XH{R:Option Nat}{x:az}(h:cU md env aH D n (⟨d,.load R x,g,[]⟩::ops) f o Q):cU md env aH D n (⟨d,.load R x,g,[]⟩::ops) f o Q:=h
theorem XI{R:Option Nat}{x:az}{a:Nat}{l:List Nat}(h:cU md env aH D n (⟨d,.load R x,g,a::l⟩::ops) f o Q):cU md env aH D n (⟨d,.load R x,g,a::l⟩::ops) f o Q:=h
theorem XJ{op:BinOp}{x y:az}(h:cU md env aH D n (⟨d,.bin op x y,g,wn⟩::ops) f o Q):cU md env aH D n (⟨d,.bin op x y,g,wn⟩::ops) f o Q:=h
theorem XK{R:Option Nat}{x y:az}(h:cU md env aH D n (⟨d,.di R x y,g,wn⟩::ops) f o Q):cU md env aH D n (⟨d,.di R x y,g,wn⟩::ops) f o Q:=h
theorem XL{k:Nat}{x:az}(h:cU md env aH D n (⟨d,.len k x,g,wn⟩::ops) f o Q):cU md env aH D n (⟨d,.len k x,g,wn⟩::ops) f o Q:=h
end
theorem lt{md:s0}{env:Env}{aH:Option Nat}{D:List (Nat ⊕ (AV×List AV))}{n:Nat}{F:List (Nat×AV)}{z:Nat→AV}{o:ad}{Q:fo}{d:Nat}{R:Option Nat}{x:az}{g:Option (Nat×Bool)}{ops:List aQ}{I:Bool}{v:AV}(an:Nat.blt d n=true)(hw:wtL g n F=true)(h1:eW env n F z x=some (.cG I v))(h2:conf R v=true)(h:cU md env aH D n ops (cg ((d,v)::F) z) o Q):cU md env aH D n (⟨some d,.load R x,g,[]⟩::ops) (cg F z) o Q:=eV an hw h1 h2 h
def uE:Nat→List AV→List (Nat×AV)
 |_,[]=>[]
 |i,a::l=>(i,a)::uE (i+1) l
theorem Mr{f:Nat→AV}:∀(l:List AV) (i:Nat),(∀j a,l[j]? =some a→f (i+j)=a)→sat (uE i l) f
 |[],_,_=>trivial
 |a::l,i,h=>⟨h 0 a rfl,Mr l (i+1) fun j cq e=>by have:=h (j+1) cq e;rwa[show i+(j+1)=i+1+j from by omega] at this⟩
theorem args{env:Env}{aH:Option Nat}{D:List (Nat ⊕ (AV×List AV))}{n:Nat}{c:bc}{bP:List AV}{o:ad}{Q:fo}(h:∀z,ck env aH D n c (cg (uE 0 bP) z) o Q):ck env aH D n c (c4 bP) o Q:=
 U.norm (uE 0 bP) (Mr bP 0 fun j a e=>by show bP.getD (0+j) dw=a;rw[rD,p5,e];rfl) h
theorem code{env:Env}{o:ad}{fn:Nat}{cA:bV}{body:bc}{eU:Nat}{first cap args:List AV}{aq:c6→ad→Prop}(e:env.ext fn=0)(hp:env.pure fn=false)(hf:env.funcs fn=some cA)(hb:cA.body=some body)
  (hn:(Nat.beq (first++args++cap).length cA.kz&&Nat.ble (first++args++cap).length cA.ntmps)=true) (dH:cA.results=[(eU,none)]) (m3:Nat.blt eU cA.ntmps=true)
  (h:∀z,ck env none [] cA.ntmps body (cg (uE 0 (first++args++cap)) z) o (fun x bC ah=>x= .ret∧aq (.ok (bC eU)) ah)):cy env 0 (.f (.func fn) first cap) args o aq:=cy.code e hp hf hb hn dH m3 (W.args h)
theorem uz{env:Env}{o:ad}{fn:Nat}{cA:bV}{body:bc}{first cap args:List AV}{aq:c6→ad→Prop}(e:env.ext fn=0)(hp:env.pure fn=false)(hf:env.funcs fn=some cA)(hb:cA.body=some body)
  (hn:(Nat.beq (first++args++cap).length cA.kz&&Nat.ble (first++args++cap).length cA.ntmps)=true) (dH:cA.results=[])
  (h:∀z,ck env none [] cA.ntmps body (cg (uE 0 (first++args++cap)) z) o (fun x _ ah=>(x= .ret∨x= .normal)∧aq (.ok (.aK [])) ah)):cy env 0 (.f (.func fn) first cap) args o aq:=cy.uz e hp hf hb hn dH (W.args h)
end W
def AV.lf:AV→Bool
 | .b _=>true| .i _ _=>true| .s _=>true| .p _=>true| .al _ _ _ _ _=>true| .J=>true| .m _=>true| .iK=>true| .fb=>true| .y _=>true| .eN _ _=>true
 |_=>false
theorem yV{n:Nat}{v:AV}(h:v.lf=true):AV.eqb (n+1) v v=true:=by
 cases v with
 |b x=>show(x==x)=true;simp
 |i k x=>show(decide (k=k)&&decide (x=x))=true;simp
 |s l=>exact wQ l
 |p a=>cases a with
  |none=>rfl
  |some a=>show(Nat.beq a.1 a.1&&Nat.beq a.2 a.2)=true;simp
 |al a b c d e=>show(Nat.beq a a&&Nat.beq b b&&Nat.beq c c&&decide (d=d)&&decide (e=e))=true;simp
 |J=>rfl
 |m r=>cases r with
  |none=>rfl
  |some r=>show Nat.beq r r=true;simp
 |iK=>rfl
 |fb=>rfl
 |y i=>show Nat.beq i i=true;simp
 |eN I i=>show((I==I)&&Nat.beq i i)=true;simp
 |_=>cases h
theorem XM{n:Nat}{l:List AV}(h:cV AV.lf l=true):AV.eqb (n+2) (.ag l) (.ag l)=true:=ux fun x hx=>yV (sU h x hx)
section
def w2(ids:List Nat)(v:AV):AV:=
 match v with
 | .al i off len R cap=>.al (ids.getD i 0) off len R cap
 |v=>v
def s4(ids:List Nat)(v:AV):Bool:=
 match v with
 | .al i _ _ _ _=>Nat.blt i ids.length
 |v=>q7 v
def Co(ids:List Nat)(v:AV):AV:=
 match v with
 | .ag l=>.ag (l.map (w2 ids))
 |v=>w2 ids v
def Ge(ids:List Nat)(v:AV):AV:=
 match v with
 | .aK l=>.aK (l.map (Co ids))
 |v=>Co ids v
def uF(ids:List Nat)(v:AV):Bool:=
 match v with
 | .ag l=>cV (s4 ids) l
 |v=>s4 ids v
def okV(ids:List Nat)(v:AV):Bool:=
 match v with
 | .aK l=>cV (uF ids) l
 |v=>uF ids v
theorem Gf{ids:List Nat}{v:AV}(h:s4 ids v=true):q7 v=true:=by cases v<;>first|rfl|exact h
theorem XN{α:Type}{p:α→Bool}{l:List α}(h:∀x∈l,p x=true):cV p l=true:=by
 induction l with
 |nil=>rfl
 |cons x l ay=>
  show cond (p x) (cV p l) false=true;rw[h x (iq ..),ay fun y aJ=>h y (e_ _ aJ)];rfl
theorem XO{ids:List Nat}{v:AV}(h:uF ids v=true):tG v=true:=by
 by_cases qg:∃l,v= .ag l
 ·obtain⟨l,rfl⟩:=qg;exact XN fun x hx=>Gf (jt h x hx)
 ·have aE:tG v=q7 v:=by cases v<;>first|rfl|exact absurd ⟨_,rfl⟩ qg
  have aY:uF ids v=s4 ids v:=by cases v<;>first|rfl|exact absurd ⟨_,rfl⟩ qg
  rw[aE];rw[aY] at h;exact Gf h
theorem c5s{ids:List Nat}{v:AV}(h:okV ids v=true):xP v=true:=by
 by_cases qh:∃l,v= .aK l
 ·obtain⟨l,rfl⟩:=qh;exact XN fun x hx=>XO (jt h x hx)
 ·have aE:xP v=tG v:=by cases v<;>first|rfl|exact absurd ⟨_,rfl⟩ qh
  have aY:okV ids v=uF ids v:=by cases v<;>first|rfl|exact absurd ⟨_,rfl⟩ qh
  rw[aE];rw[aY] at h;exact XO h
section
variable {w:World}{bO:Nat→Option Nat}{O mW:Nat→Prop}{B mX:Nat}{ids:List Nat}
theorem Ms{v:AV}{u:Value}(av:s4 ids v=true)(h:aq w bO O B (w2 ids v) u):aq w (fun i=>(ids[i]?).bind bO) mW mX v u:=by
 cases v with
 |al i off len R cap=>
  cases h with
  |al h au ab hn h6 eF=>
   refine .al ?_ au ab hn h6 eF;have hi:i<ids.length:=eY av;rw[cS hi];have e:ids.getD i 0=ids[i]:=by rw[p5,cS hi];rfl
   rw[e] at h;exact h
 |s l=>cases h with|s l h=>exact .s l h
 |i k n=>cases h with|i k n=>exact .i k n
 |b x=>cases h with|b x=>exact .b x
 |J=>cases h with|J=>exact .J
 |_=>cases av
theorem XP{v:AV}{u:Value}(av:uF ids v=true)(h:aq w bO O B (Co ids v) u):aq w (fun i=>(ids[i]?).bind bO) mW mX v u:=by
 by_cases qg:∃l,v= .ag l
 ·obtain⟨l,rfl⟩:=qg;cases h with
  | @ag _ _ _ _ aX hs af hf=>
   refine .ag (by rw[dO] at hs;exact hs) (fun i h h'=>?_) (fun x hx=>?_)
   ·have:=af i (by rw[dO];exact h) h';rw[ma] at this;exact Ms (jt av _ (cB h)) this
   ·have:=Gf (jt av x hx);cases x<;>first|rfl|cases this
 ·have aE:uF ids v=s4 ids v:=by cases v<;>first|rfl|exact absurd ⟨_,rfl⟩ qg
  have aY:Co ids v=w2 ids v:=by cases v<;>first|rfl|exact absurd ⟨_,rfl⟩ qg
  rw[aE] at av;rw[aY] at h;exact Ms av h
theorem c5t{v:AV}{u:Value}(av:okV ids v=true)(h:aq w bO O B (Ge ids v) u):aq w (fun i=>(ids[i]?).bind bO) mW mX v u:=by
 by_cases qh:∃l,v= .aK l
 ·obtain⟨l,rfl⟩:=qh;cases h with
  | @aK _ _ _ _ aX hs af=>
   refine .aK (by rw[dO] at hs;exact hs) (fun i h h'=>?_);have:=af i (by rw[dO];exact h) h';rw[ma] at this;exact XP (jt av _ (cB h)) this
 ·have aE:okV ids v=uF ids v:=by cases v<;>first|rfl|exact absurd ⟨_,rfl⟩ qh
  have aY:Ge ids v=Co ids v:=by cases v<;>first|rfl|exact absurd ⟨_,rfl⟩ qh
  rw[aE] at av;rw[aY] at h;exact XP av h
end
variable {P:Program}{env:Env}
theorem c5u(gw:qd P env)(dS:B8 P env)(hex:uf P env)(lp:P.follows .mixedOrders=true){n g:Nat}{aO:List AV}{v:AV}{ah:ad}(h:runF env (exec env n) 0 g aO ⟨.nil,0⟩=some [(.ok v,ah)])
  {ids:List Nat} {bJ:AV} {cs:List (List AV)} (hnd:ids.Nodup) (au:cs.length=ids.length) (av:okV ids bJ=true) (c5v:Ge ids bJ=v) (hG:∀i (h:i<cs.length) (h':i<ids.length),ah.get ids[i]=some (.cells (cs[i].map (w2 ids)))∧∀x∈cs[i],s4 ids x=true) (cM:Nat):
  Le P env cM g aO bJ (cs.map AO.cells):=by
 refine⟨?_,fun k rd w us fc eS ha=>?_⟩
 ·unfold runF at h;cases hg:env.funcs g with
  |none=>simp[hg] at h
  |some cA=>
   obtain⟨fn,h1,h2,h3⟩:=gw.funcs g cA hg;obtain⟨_,c,_,_,aN,_⟩:=Fc h2;exact⟨fn,c,h1,aN,h3⟩
 ·have LY:Globs env w w.heap.size:=fun g v hg dp=>(eS g v hg dp).mono (fun _ _ h=>h) (bK _) (fun _ _ h=>h) (fun b _ hb=>⟨rfl,fun aj=>hb (jk fc aj)⟩);have bX:=LW gw (dS w.heap.size) hex lp n;have nu:=WL (P:=P) w;have wy:bm w (fun _=>none) (a_ ⟨.nil,0⟩ (fun _=>none)) w.heap.size aO us.toList:=ha.mono (fun _ _ h=>h) (bK _) (fun _ _ h=>h) (fun b _ _=>⟨rfl,WM b⟩);obtain⟨_,ab⟩:=Fe gw bX (Fh gw 0) h k rd nu LY wy;refine wh ab (fun e bn dH=>?_);obtain⟨ret,bk,e9,bO,iB,iR,fg⟩:=dH;rw[e3] at e9;cases e9;have hb:∀id ar,(ids[id]?).bind bO=some ar→∃(h:id<ids.length),bO ids[id]=some ar:=fun id ar hm=>by
   obtain⟨j,aB,hm⟩:=c8.1 hm;obtain⟨h1,h2⟩:=mG.1 aB;exact⟨h1,by rw[h2];exact hm⟩
  have w1:∀id c,(cs.map AO.cells)[id]? =some (.cells c)→∃(h:id<ids.length),ah.get ids[id]=some (.cells (c.map (w2 ids)))∧∀x∈c,s4 ids x=true:=fun id c aj=>by
   rw[j3] at aj;obtain⟨bR,h1,h2⟩:=eu.1 aj;cases h2;obtain⟨h3,aN⟩:=mG.1 h1;have:=hG id h3 (by omega);rw[aN] at this;exact⟨by omega,this⟩
  cases e with
  |returned u=>
   have iB:aq bn bO (a_ ah bO) w.heap.size v u:=iB;refine⟨u,rfl,⟨fun i=>(ids[i]?).bind bO,c5s av,c5t av (by rw[c5v];exact iB),fun id ar hm=>?_,fun id ar c hm aj=>?_,fun id eR ar c bR hm q9 aj ob=>?_⟩,fg.size,fun b hb=>fg.ee b hb (fun⟨_,_,h,_⟩=>by simp at h),fg.os,fg.tape,fg.out⟩
   ·obtain⟨h1,h2⟩:=hb _ _ hm;exact⟨iR.base _ _ h2,(iR.eP _ _ h2).1,by rw[dO];omega⟩
   ·obtain⟨h1,h2⟩:=hb _ _ hm;obtain⟨h3,aN,bH⟩:=w1 _ _ aj;obtain⟨arr,el,aT,gM,fz,j4,lk,wB⟩:=iR.cells h2 aN;rw[dO] at fz j4;refine⟨arr,el,aT,gM,j4,fun i a b=>?_,lk,fun x hx=>Gf (bH x hx)⟩;have:=fz.2 i (by rw[dO];exact a) (by rw[fz.1,dO];exact a);rw[ma] at this;exact Ms (bH _ (cB a)) (by simpa using this)
   ·obtain⟨h1,h2⟩:=hb _ _ hm;obtain⟨tK,qc⟩:=hb _ _ q9;obtain⟨_,aN,_⟩:=w1 _ _ aj;obtain⟨_,Mt,_⟩:=w1 _ _ ob;have e:=iR.inj _ _ _ h2 qc ⟨_,aN,rfl⟩ ⟨_,Mt,rfl⟩;exact(List.getElem_inj hnd).1 e
  |panicked mh=>exact iB.elim
  |outgrown=>exact iB.elim
end
end
end Go.Lyc
end
