/-
  An abstract executor of the program's code, and that it is sound, part 3. No conditions: definitions and laws.
-/
import Derived.Test.YtepnpmoabkhboaaGreatDoorEng2
import Derived.Lib.Bytealg
import Derived.OpenShut
import Derived.ProofKit
import Derived.LaidMore
import Derived.Lay
import Derived.SevenTiedAt
import Derived.Carry
import Derived.ChangeSlices
set_option linter.all false
noncomputable section
namespace Go.Lyc
def EG:=@Classical.byContradiction
def Py:=@List.eq_nil_iff_forall_not_mem
def XC:=@List.getElem?_reverse
def lQ:=@Nat.zero_add
def BR:=@List.take_append_drop
def EH:=@Nat.zero_mul
def JD:=@Classical.choose_spec
def BS:=@Nat.le_add_left
def fp:=@List.append_nil
def zt:=@Bool.true_and
def Pz:=@List.drop_length
def nn:=@List.length_nil
def JE:=@List.reverse_append
def JF:=@Bool.eq_false_iff
def JG:=@List.pairwise_iff_getElem
def PA:=@List.map_eq_nil_iff
set_option maxHeartbeats 0
set_option maxRecDepth 100000
section
variable [Tok][TokOk]
open Go.RowKit
section
variable {P:Program}{env:Env}{B f:Nat}{r:Option Nat}{ops:Array Oper}{pl:List aX}{bg cX:Nat->Nat}{cS:Nat->Nat->Bool}{call:kY}{s:Nat->aY AV}{S:Nat->ag}{v:Nat->AV}
variable {ds:List (Nat ⊕ (AV×List AV))}{rc:Bool}{cr:ag}{eX:World}{dS:Nat->Option Nat}{listed:Array Bool}{a:Act}{w:World}{cM:Nat}{m:Nat->Option Nat}{c6:aY AV}
def XD(c:hl P env B f r ops pl bg cX cS call s S v):∀(d k:Nat),k+d<=ops.size->(∀(e:Nat) (dY:aX),pl[e]? =some dY->k<=e->e<k+d->dY.op.fR=false/\dY.op.ld=false)->S (k+d)=S k
 |0,_,_,_=>rfl
 |d+1,k,aC,h=>by
  obtain⟨aS,l6⟩:=c.get (p:=k+d) U;obtain⟨h1,h2⟩:=h (k+d) aS l6 U U;rcases c.calm l6 h1 with⟨h3,_⟩|⟨b2,h3,_⟩
  ·show S (k+d+1)=_;rw[h3];exact XD c d k U (λe dY aN bY cf=>h e dY aN bY U)
  ·rw[h2] at h3;cases h3
def pD.mono{D gy:Nat->Prop}{k:Nat}(h:pD pl s S cr D m k)(fo:∀(p:Nat) (aS:aX),pl[p]? =some aS->¬gy p->¬D p):pD pl s S cr gy m k:=
 ⟨λp aS h1 h2 h3 aN bY=>h.one p aS h1 h2 h3 aN (fo p aS h2 bY),λp ef aS hp h1 h2 h3 aN bY cf gh gG iF r0=>h.lt p ef aS hp h1 h2 h3 aN bY cf gh gG (fo p aS h3 iF) (fo ef hp aN r0)⟩
def JH(J af:ag):Prop:=(∀id,J.get id=af.get id)/\J.next=af.next
structure Inv2(P:Program)(env:Env)(B f:Nat)(ops:Array Oper)(pl:List aX)(bg:Nat->Nat)(cS:Nat->Nat->Bool)(s:Nat->aY AV)(S:Nat->ag)(v:Nat->AV)(ds:List (Nat ⊕ (AV×List AV)))(rc:Bool)(cr:ag)(eX:World)(dS:Nat->Option Nat)
  (listed:Array Bool) (a:Act) (w:World) (x:Nat) (T:ag) (m:Nat->Option Nat) (c6:aY AV):Prop where
 ts:Rel P cr eX dS B
 size:listed.size=ops.size
 closed:∀p,p<ops.size->dz bg listed p->∀q,cS q p=true->dz bg listed q
 pure:∀(p:Nat) (aS:aX),pl[p]? =some aS->¬dz bg listed p->p=x\/(aS.op.fR=false/\aS.op.ld=false/\aS.op.looks=false)
 fin:dz bg listed x->JH T (S ops.size)
 rest:¬dz bg listed x->∃bI lP,pl[x]? =some bI/\bI.op.fR=true/\(∀c as,bI.op≠ .call c as)/\wantedA bI.guard (s x)=true/\opx f (evalA env (s x)) T bI.op=some (.val (v x) lP)/\JH lP (S ops.size)
 a5:xk pl v (s 0) (dz bg listed) c6
 st:eP P env ⟨c6,ds,rc⟩ a T w m B
 ext:Ext f cr eX dS T w m
def b3V(c:hl P env B f r ops pl bg cX cS call s S v)(cj:listed.size=ops.size)(j9:∀p,p<ops.size->dz bg listed p->∀q,cS q p=true->dz bg listed q){i:Nat}(hi:i∈Region.ready .any ops listed):
  ∃p aS o lj,p<ops.size/\i=bg p/\pl[p]? =some aS/\ops[i]? =some o/\coper P ops o=some lj/\aS.op=lj.op/\aS.dst=lj.dst/\aS.guard=lj.guard/\¬dz bg listed p/\(∀q,cS q p=true->dz bg listed q):=by
 obtain⟨h1,o,ho,h2⟩:=mem_ready.1 hi;have kH:i<ops.size:=(yC.1 ho).1;obtain⟨h3,aN⟩:=c.spec.Es i kH;obtain⟨aS,l6⟩:=c.get h3;obtain⟨bV,lj,lO,ae,aF,aV,dp⟩:=c.spec.code _ aS l6;rw[aN,ho] at lO;cases lO;refine⟨cX i,aS,o,lj,h3,aN.symm,l6,ho,ae,aF,aV,dp,Xu c cj h3 (by rw[aN];exact h1),λq aP=>?_⟩;obtain⟨bV,lO,e,he,hb,lK⟩:=c.spec.W6 (cX i) h3 q aP;rw[aN,ho] at lO;cases lO;have Pv:=h2 e he hb;have w1:=c.spec.back (cX i) h3 o (by rw[aN];exact ho) e he hb;have xn:=c.spec.Es e.on w1.1;have EA:dz bg listed (cX e.on):=by unfold dz;rw[xn.2];exact Pv
 rcases lK with rfl|lK
 ·exact EA
 ·exact j9 _ xn.1 EA q lK
def XE(c:hl P env B f r ops pl bg cX cS call s S v)(cj:listed.size=ops.size){p:Nat}(i_:p<ops.size):∀q,dz bg listed q->dz bg (listed.setIfInBounds (bg p) true) q:=λq aP=>by
 unfold dz at aP ⊢;by_cases h:bg p=bg q
 ·rw[<-h];simp[qi,cj,(c.spec.pi p i_).1]
 ·rw[getD_set_ne false h];exact aP
def Inv2.next(c:hl P env B f r ops pl bg cX cS call s S v){x:Nat}{T tu:ag}(inv:Inv2 P env B f ops pl bg cS s S v ds rc cr eX dS listed a w x T m c6){p:Nat}{aS:aX}(ay:pl[p]? =some aS)(fo:¬dz bg listed p)(jl:∀q,cS q p=true->dz bg listed q)
  (ll:p=x/\JH tu (S ops.size)\/p≠x/\tu=T) {cC:Act} {ax:World} {aK:Nat->Option Nat} (hx:x<ops.size) (st:eP P env ⟨nZ c6 aS.dst (v p),ds,rc⟩ cC tu ax aK B) (ext:Ext f cr eX dS tu ax aK):
  Inv2 P env B f ops pl bg cS s S v ds rc cr eX dS (listed.setIfInBounds (bg p) true) cC ax x tu aK (nZ c6 aS.dst (v p)):=by
 have i_:=c.lt ay;have ak:∀q,q<ops.size->(dz bg (listed.setIfInBounds (bg p) true) q↔dz bg listed q\/q=p):=λq aP=>BQ c inv.size i_ aP;have jE:=XE c inv.size i_;refine⟨inv.ts,by simpa using inv.size,λq aP an y aI=>?_,λq dG aP an=>inv.pure q dG aP (λh=>an (jE q h)),λan=>?_,λan=>?_,inv.a5.put c ay fo (λq dG aP=>ak q (c.lt aP)),st,ext⟩
 ·rcases(ak q aP).1 an with h|rfl
  ·exact jE y (inv.closed q aP h y aI)
  ·exact jE y (jl y aI)
 ·rcases ll with⟨_,h⟩|⟨b_,rfl⟩
  ·exact h
  ·exact inv.fin (((ak x hx).1 an).resolve_right (om b_))
 ·rcases ll with⟨rfl,_⟩|⟨b_,rfl⟩
  ·exact absurd ((ak p i_).2 (.inr I)) an
  ·exact inv.rest (λh=>an (jE x h))
def b3W(c:hl P env B f r ops pl bg cX cS call s S v){k:Nat}{Q:Exit->Act->World->Prop}{x:Nat}{T:ag}(PB:x<ops.size)(inv:Inv2 P env B f ops pl bg cS s S v ds rc cr eX dS listed a w x T m c6){i:Nat}(hi:i∈Region.ready .any ops listed)
  {K:Act->World->Prop} (eg:∀cC ax lP aK r1,Inv2 P env B f ops pl bg cS s S v ds rc cr eX dS (listed.setIfInBounds i true) cC ax x lP aK r1->K cC ax):wpOpIn (e9 r) k P ops Q i K a w:=by
 obtain⟨p,aS,o,lj,i_,rfl,ay,ho,ae,aF,aV,dp,fo,jl⟩:=b3V c inv.size inv.closed hi;have EI:=Xn c inv.a5 ay fo jl inv.closed;have qC:∀J,opx f (evalA env c6) J aS.op=opx f (evalA env (s p)) J aS.op:=λJ=>Xi (Xr EI);have hw:=Xs EI;obtain⟨eO,jk⟩:=I7 ae;rw[<-aF] at eO;rw[<-aV] at jk;unfold wpOpIn;simp only[ho];rw[I5 ae inv.st.ctx.a5,← dp];show if wantedA aS.guard c6=true then _ else _
 rw[hw];have r2:∀res,opx f (evalA env c6) T aS.op=some res->cop P o=some aS.op:=λres dh=>D3 eO.symm (λhb=>by rw[hb] at dh;simp[opx] at dh);have zg:∀v bu,opx f (evalA env c6) T aS.op=some (.val v bu)->cop P o=some aS.op->∀c,o.op≠ .defer c:=λv bu hx vm c an=>by
  obtain⟨ac,as,h⟩:=I6 an vm;rw[h] at hx;simp only[opx] at hx;split at hx<;>cases hx
 have val:∀tu,wantedA aS.guard (s p)=true->opx f (evalA env c6) T aS.op=some (.val (v p) tu)->(p=x/\JH tu (S ops.size)\/p≠x/\tu=T)→
   if wantedA aS.guard (s p)=true then o.wpIn (e9 r) k P a w K Q else(∀f,o.about P w a.eval=some f->(e9 r).fn f)/\K (a.put o.dst undef) w:=λtu ln gg ll=>by
  rw[ln];simp only[if_true];obtain⟨u,bf,b3,b5,hR,nS,dn⟩:=Bt inv.st.ctx (r2 _ gg) gg;have ak:(o.semAt (e9 r).round a.eval)=execOp a.eval o:=u6 _ _ _ (zg _ _ gg (r2 _ gg));have gX:=(inv.st.ext dn nS).put aS.dst hR;rw[put_eq] at gX;have hN:=inv.next c ay fo jl ll PB gX (inv.ext.trans inv.ts dn);rw[jk] at hN;refine⟨λf _=>trivial,?_⟩;rw[ak];rcases b5 with b5|⟨b5,rfl⟩
  ·rw[b5];exact eg _ _ _ _ _ hN
  ·rw[b5];exact eg _ _ _ _ _ hN
 rcases c.iq.step p aS ay with⟨zu,au,cg⟩|⟨ln,hx⟩|⟨ln,bx,args,hx,j9⟩
 ·-- not wanted
  have EJ:p≠x:=λhe=>by
   subst he;obtain⟨bI,lP,h1,_,_,h2,_⟩:=inv.rest fo;rw[ay] at h1;cases h1;rw[zu] at h2;cases h2
  rw[zu];simp only[rj,if_false];refine⟨λ_ _=>trivial,?_⟩;have gX:=inv.st.put aS.dst (v:=c4) (u:=undef) az.undef;rw[put_eq,← au] at gX;have hN:=inv.next c ay fo jl (.inr ⟨EJ,rfl⟩) PB gX inv.ext;rw[jk] at hN;exact eg _ _ _ _ _ hN
 ·by_cases EJ:p=x
  ·subst EJ;obtain⟨bI,lP,h1,_,_,h2,h3,aN⟩:=inv.rest fo;rw[ay] at h1;cases h1;exact val lP ln (by rw[qC];exact h3) (.inl ⟨rfl,aN⟩)
  ·obtain⟨cn,ct,eN⟩:=(inv.pure p aS ay fo).resolve_left EJ;obtain⟨a_,h1,h2⟩:=Jv cn ct hx;simp only[bH.val.injEq] at h1;obtain⟨rfl,_⟩:=h1;exact val T ln (by rw[qC];exact h2 eN T) (.inr ⟨EJ,rfl⟩)
 ·obtain⟨hj,as,EK,_,_⟩:=w9 hx;exfalso;rcases inv.pure p aS ay fo with rfl|⟨cn,_,_⟩
  ·obtain⟨bI,lP,h1,_,h2,_⟩:=inv.rest fo;rw[ay] at h1;cases h1;exact h2 _ _ EK
  ·rw[EK] at cn;cases cn
def b3X{kJ:aY AV}{zv:ag}(pC:Pr P env B f r ops pl bg cX cS call kJ zv)(c:hl P env B f r ops pl bg cX cS call s S v)(qu:s 0=kJ)(pE:S 0=zv){k:Nat}{Q:Exit->Act->World->Prop}(inv:Inv P env B f ops pl bg cS s S v ds rc cr eX dS listed a w cM m c6){i:Nat}(hi:i∈Region.ready .any ops listed)
  {K:Act->World->Prop} (XF:∀s S v,Trace env f call pl s S v->s 0=kJ->S 0=zv->∀cC ax EB aK r1,Inv P env B f ops pl bg cS s S v ds rc cr eX dS (listed.setIfInBounds i true) cC ax EB aK r1->K cC ax)
  (XG:∀cC ax x T aK r1,x<ops.size->Inv2 P env B f ops pl bg cS s S v ds rc cr eX dS (listed.setIfInBounds i true) cC ax x T aK r1->K cC ax):wpOpIn (e9 r) k P ops Q i K a w:=by
 have eg:=XF s S v c.iq qu pE;obtain⟨p,aS,o,lj,i_,rfl,ay,ho,ae,aF,aV,dp,fo,jl⟩:=b3L c inv hi;have EI:=Xn c inv.a5 ay fo jl inv.closed;have qC:∀J,opx f (evalA env c6) J aS.op=opx f (evalA env (s p)) J aS.op:=λJ=>Xi (Xr EI);have hw:=Xs EI;obtain⟨eO,jk⟩:=I7 ae;rw[<-aF] at eO;rw[<-aV] at jk;have hH:aS.op.fR=false->p<cM:=λhe=>by
  rcases inv.xm with h|⟨dY,h1,h2,h3⟩
  ·omega
  ·rcases w5 p cM with h|h|h
   ·exact h
   ·subst h;rw[ay] at h1;cases h1;rw[he] at h2;cases h2
   ·rcases c.spec.qG cM p dY h i_ h1 h2 with aN|aN
    ·exact absurd (jl cM aN) h3
    ·obtain⟨_,ew,_,_,_,_,_,_,_,ct,_,fm,_⟩:=aN.ops;rw[ay] at ct;cases ct;rw[fm] at he;cases he
 have lJ:aS.op.fR=true->p=cM\/Er pl cS cM p:=λhe=>by
  rcases w5 p cM with h|h|h
  ·exact absurd (inv.before p aS h ay he) fo
  ·exact .inl h
  ·rcases inv.xm with h1|⟨dY,h1,h2,h3⟩
   ·omega
   ·rcases c.spec.qG cM p dY h i_ h1 h2 with aN|aN
    ·exact absurd (jl cM aN) h3
    ·exact .inr aN
 have XH:∀q dG,pl[q]? =some dG->¬dz bg (listed.setIfInBounds (bg p) true) q->¬dz bg listed q:=λq dG aP h h2=>h ((BQ c inv.size i_ (c.lt aP)).2 (.inl h2));have EL:pD pl s S cr (dz bg (listed.setIfInBounds (bg p) true)) m cM:=inv.tt.mono XH;unfold wpOpIn;simp only[ho];rw[I5 ae inv.st.ctx.a5,← dp];show if wantedA aS.guard c6=true then _ else _
 rw[hw];have r2:∀res,opx f (evalA env c6) (S cM) aS.op=some res->cop P o=some aS.op:=λres dh=>D3 eO.symm (λhb=>by rw[hb] at dh;simp[opx] at dh);by_cases BT:aS.op.fR=true/\p≠cM
 ·-- rn second of two c4y,first
  have k4:=(lJ BT.1).resolve_left BT.2;rcases inv.xm with h0|⟨bI,tv,b3Y,b3Z⟩
  ·have:=k4.Js;omega
  have PC:=c.lt tv;obtain⟨cn,ct,T,lP,eN,fm,kK,Pq,b4a,b4b⟩:=b3O c k4 tv ay;have gg:opx f (evalA env c6) (S cM) aS.op=some (.val (v p) T):=by rw[qC];exact eN
  rw[Pq];simp only[if_true];obtain⟨u,bf,b3,b5,hR,nS,dn⟩:=Bt inv.st.ctx (r2 _ gg) gg;have hnd:∀c,o.op≠ .defer c:=λc an=>by
   obtain⟨ac,as,h⟩:=I6 an (r2 _ gg);rw[h] at gg;simp only[opx] at gg;split at gg<;>cases gg
  have ak:(o.semAt (e9 r).round a.eval)=execOp a.eval o:=u6 _ _ _ hnd;have gX:=(inv.st.ext dn nS).put aS.dst hR;rw[put_eq] at gX;have JI:∀q,q<ops.size->(dz bg (listed.setIfInBounds (bg p) true) q↔dz bg listed q\/q=p):=λq aP=>BQ c inv.size i_ aP;have jE:=XE c inv.size i_;have b4c:∀hj as,bI.op≠ .call hj as:=λhj as hh=>by
   obtain⟨Xy,_,_,_,_,_,_,_,bM,_,bj,_⟩:=k4.ops;rw[tv] at bM;cases bM;rw[bj] at hh;cases hh
  have rW:¬dz bg (listed.setIfInBounds (bg p) true) cM:=λh=>by
   rcases(JI cM PC).1 h with h|h
   ·exact b3Z h
   ·exact BT.2 h.symm
  have hN:Inv2 P env B f ops pl bg cS s S v ds rc cr eX dS (listed.setIfInBounds (bg p) true) (a.put aS.dst u) bf cM T b3 (nZ c6 aS.dst (v p)):=by
   refine⟨inv.ts,by simpa using inv.size,λq aP an y aI=>?_,λq dG aP an=>?_,λan=>absurd an rW,λ_=>⟨bI,lP,tv,b3Y,b4c,kK,fm,b4a,b4b⟩,inv.a5.put c ay fo (λq dG aP=>JI q (c.lt aP)),gX,inv.ext.trans inv.ts dn⟩
   ·rcases(JI q aP).1 an with h|rfl
    ·exact jE y (inv.closed q aP h y aI)
    ·exact jE y (jl y aI)
   ·have JJ:=c.lt aP;have ao:=k4.last;have qJ:=c.spec.len;have c4z:=k4.Js;rcases w5 q cM with h|h|h
    ·rcases k4.rest q dG h aP with bY|bY
     ·exact absurd (jE q (jl q bY)) an
     ·exact .inr bY
    ·exact .inl h
    ·have:q=p:=by omega
     exact absurd ((JI q JJ).2 (.inr this)) an
  rw[jk] at hN;refine⟨λf _=>trivial,?_⟩;rw[ak];rcases b5 with b5|⟨b5,rfl⟩
  ·rw[b5];exact XG _ _ _ _ _ _ PC hN
  ·rw[b5];exact XG _ _ _ _ _ _ PC hN
 replace lJ:aS.op.fR=true->p=cM:=λhe=>EG λh=>BT ⟨he,h⟩;rcases c.iq.step p aS ay with⟨zu,au,cg⟩|⟨ln,hx⟩|⟨ln,bx,args,hx,l,j9,c4A,hall⟩
 ·-- not wanted
  rw[zu];simp only[rj,if_false];refine⟨λ_ _=>trivial,?_⟩;have gX:=inv.st.put aS.dst (v:=c4) (u:=undef) az.undef;rw[put_eq,← au,jk] at gX;rw[<-jk] at gX;have gX:eP P env ⟨nZ c6 aS.dst (v p),ds,rc⟩ (a.put o.dst undef) (S cM) w m B:=by rw[<-jk];exact gX
  by_cases PD:p=cM
  ·subst PD;cases he:aS.op.fR with
   |true=>
    obtain⟨hq,hN⟩:=inv.effect c ay fo jl he I (cC:=a.put o.dst undef) (ax:=w) (aK:=m) (by rw[cg];exact gX) (by rw[cg];exact Ext.refl _ _ _ _);exact eg _ _ _ _ _ hN
   |false=>have:=hH he;omega
  ·exact eg _ _ _ _ _ (inv.calm c ay fo jl PD (by cases he:aS.op.fR with|false=>exact .inl rfl|true=>exact absurd (lJ he) PD) gX inv.ext EL)
 ·-- a value
  rw[ln];simp only[if_true];have zg:∀v J bu,opx f (evalA env c6) J aS.op=some (.val v bu)->cop P o=some aS.op->∀c,o.op≠ .defer c:=λv J bu hx vm c an=>by
   obtain⟨ac,as,h⟩:=I6 an vm;rw[h] at hx;simp only[opx] at hx;split at hx<;>cases hx
  cases he:aS.op.fR with
  |true=>
   obtain rfl:=lJ he;have gg:opx f (evalA env c6) (S p) aS.op=some (.val (v p) (S (p+1))):=by rw[qC];exact hx
   obtain⟨u,bf,b3,b5,hR,nS,dn⟩:=Bt inv.st.ctx (r2 _ gg) gg;have ak:(o.semAt (e9 r).round a.eval)=execOp a.eval o:=u6 _ _ _ (zg _ _ _ gg (r2 _ gg));have gX:=(inv.st.ext dn nS).put aS.dst hR;rw[put_eq] at gX;obtain⟨hq,hN⟩:=inv.effect c ay fo jl he I gX dn;rw[jk] at hN;refine⟨λf _=>trivial,?_⟩;rw[ak];rcases b5 with b5|⟨b5,rfl⟩
   ·rw[b5];exact eg _ _ _ _ _ hN
   ·rw[b5];exact eg _ _ _ _ _ hN
  |false=>
   have hlt:=hH he;cases ha:aS.op.ld with
   |false=>
    have gg:opx f (evalA env c6) (S cM) aS.op=some (.val (v p) (S cM)):=by
     rw[qC];obtain⟨a_,h1,h2⟩:=Jv he ha hx;simp only[bH.val.injEq] at h1;obtain⟨u2,zw⟩:=h1;subst u2;cases ao:aS.op.looks with
     |false=>exact h2 ao _
     |true=>
      have PE:cM=ops.size\/∃(dG:aX),pl[cM]? =some dG/\dG.op.fR=true:=by
       rcases inv.xm with h|⟨dY,h1,h2,_⟩
       ·exact .inl h
       ·exact .inr ⟨dY,h1,h2⟩
      rcases c.spec.je p aS ay ao cM hlt PE with h|⟨e,dY,cn,ct,eN,fm,kK⟩|h
      ·obtain⟨bA,h3⟩:=c.steady p aS ay ln he cM h;obtain⟨v2,aN,_⟩:=Jv he ha h3;cases aN;exact h3
      ·exact absurd (inv.closed e (c.lt cn) (inv.before e dY fm cn ct) p kK) fo
      ·have nK:=XD c (cM-(p+1)) (p+1) (by have:=inv.Pt;omega) (λe dY cn ct eN=>h e dY cn U U);have jA:p+1+(cM-(p+1))=cM:=by omega
       rw[jA] at nK;rw[nK,zw];rw[zw] at hx;exact hx
    obtain⟨u,bf,b3,b5,hR,nS,dn⟩:=Bt inv.st.ctx (r2 _ gg) gg;have ak:(o.semAt (e9 r).round a.eval)=execOp a.eval o:=u6 _ _ _ (zg _ _ _ gg (r2 _ gg));have gX:=(inv.st.ext dn nS).put aS.dst hR;rw[put_eq] at gX;have PF:pD pl s S cr (dz bg (listed.setIfInBounds (bg p) true)) b3 cM:=by
     refine⟨λef hp h1 h2 h3 aN bY=>?_,EL.lt⟩;obtain⟨rY,vk,rZ,vl⟩:=EL.one ef hp h1 h2 h3 aN bY;refine⟨?_,vk,rZ,vl⟩;cases hm:b3 (S ef).next with
     |none=>rfl
     |some b=>
      rcases dn.new _ _ hm with h|⟨h,_⟩
      ·rw[rY] at h;cases h
      ·omega
    have hN:=inv.calm c ay fo jl U (.inl he) gX (inv.ext.trans inv.ts dn) PF;rw[jk] at hN;refine⟨λf _=>trivial,?_⟩;rw[ak];rcases b5 with b5|⟨b5,rfl⟩
    ·rw[b5];exact eg _ _ _ _ _ hN
    ·rw[b5];exact eg _ _ _ _ _ hN
   |true=>
    obtain⟨b2,nk,h1,c4B,h2⟩:=Xj ha hx;simp only[bH.val.injEq] at h1;obtain⟨u2,zw⟩:=h1;have lN:∀bA,opx f (evalA env c6) bA aS.op=some (.val (nk bA.next) (bA.push b2)):=λbA=>by rw[qC];exact h2 bA
    have vm:=r2 _ (lN (S cM));obtain⟨u,ax,bV,b5,hh,kD,mD,kE,lK,hval⟩:=b3G inv.st.ctx vm ha lN;obtain⟨rY,vk,rZ,vl⟩:=inv.tt.one p aS hlt ay ha ln fo;have hg:(S cM).get (S p).next=some b2:=by rw[vl,zw];exact ag.ij b2
    obtain⟨nS,BF,cj,gf,hold,Ew,pj⟩:=inv.st.ctx.rel.Pm rZ rY hg hh lK;have ak:(o.semAt (e9 r).round a.eval)=execOp a.eval o:=u6 _ _ _ (zg _ _ _ (lN (S cM)) vm);have hR:az ax (bindM m (S p).next w.heap.size) (bh (S cM) (bindM m (S p).next w.heap.size)) B (v p) u:=by
     rw[u2];exact hval _ _ _ _ _ (hF _ _ _) pj
    have gX:=(inv.st.mono nS BF cj gf Ew).put aS.dst hR;rw[put_eq] at gX;have PF:pD pl s S cr (dz bg (listed.setIfInBounds (bg p) true)) (bindM m (S p).next w.heap.size) cM:=by
     refine⟨λef hp cn ct eN fm kK=>?_,EL.lt⟩;obtain⟨i1,i2,i3,i4⟩:=EL.one ef hp cn ct eN fm kK;refine⟨?_,i2,i3,i4⟩;have BO:=XH ef hp ct kK;have b_:ef≠p:=λe=>kK ((BQ c inv.size i_ (c.lt ct)).2 (.inr e));rw[iT m _ _ (λe=>?_)]
     ·exact i1
     ·rcases nG ef p with h|h
      ·have:=inv.tt.lt ef p hp aS h hlt ct ay eN ha fm ln BO fo;omega
      ·have:=inv.tt.lt p ef aS hp U cn ay ct ha eN ln fm fo BO;omega
    have hN:=inv.calm c ay fo jl U (.inl he) gX (inv.ext.Pm vk rY hh kD mD kE) PF;rw[jk] at hN;refine⟨λf _=>trivial,?_⟩;rw[ak,b5];exact eg _ _ _ _ _ hN
 ·-- a call
  rw[ln];simp only[if_true];obtain⟨hj,as,EK,_,_⟩:=w9 hx;have he:aS.op.fR=true:=by rw[EK];rfl
  obtain rfl:=lJ he;have gg:opx f (evalA env c6) (S p) aS.op=some (.call bx args):=by rw[qC];exact hx
  have vm:=r2 _ gg;rw[EK] at vm gg;obtain⟨bn,h6,h1,pn,has⟩:=w9 gg;cases h1;obtain⟨aU,D5,D6,pw⟩:=Wv vm;obtain⟨x,gQ,zh⟩:=OJ D6 inv.st.ctx pn;have D7:=DE inv.st.ctx.rel.zb inv.st.ctx.globs inv.st.ctx.a5 pw has;have dh:=c.b3J _ _ _ _ j9 (k-1) w m _ _ inv.st.ctx.rel inv.st.ctx.globs zh D7;refine Wu D5 gQ (us:=aU.args.map a.eval) I (λ_=>trivial) I (by
   have aF:(aU.args.toList.map a.eval).toArray=aU.args.map a.eval:=by apply m6;simp
   rw[aF] at dh;exact dh) (λaF bf al=>?_)
  obtain⟨ret,bu,eQ,b3,h1,h2,h3⟩:=al;obtain⟨BU,hu⟩:=hall _ eQ;have hu:ret= .ok BU:=hu;subst hu;obtain⟨iH,mR,a_,JK,ad,b4d,im,PG⟩:=pC.k4 s S v c.iq qu pE p aS bx args l BU bu ay ln hx j9 eQ hall;have es:=(ad 0 (kA _)).1.trans qu;have XI:=(ad 0 (kA _)).2.trans pE;have bn:=pC.Jz iH mR a_ JK es XI;have b4e:=inv.switch c ad b4d;subst im PG;cases aF with
  |returned u=>
   have gX:=(inv.st.ext h3 h2).put aS.dst h1;rw[put_eq] at gX;obtain⟨hq,hN⟩:=b4e.effect bn ay fo jl he I gX (by rw[(ad p (b6 _)).2];exact h3);rw[jk] at hN;exact XF iH mR a_ JK es XI _ _ _ _ _ hN
  |panicked mL=>exact h1.elim
  |outgrown=>exact h1.elim
def XJ(c:hl P env B f r ops pl bg cX cS call s S v)(cj:listed.size=ops.size)(al:Region.ready .any ops listed=[]):∀p,p<ops.size->dz bg listed p:=by
 intro p
 induction p using Nat.strongRecOn with
 |_ p ar=>
  intro ay;refine EG λfo=>?_;have Ev:=c.spec.pi p ay;have:bg p∈Region.ready .any ops listed:=by
   refine mem_ready.2 ⟨?_,ops[bg p],pb Ev.1,λe he hb=>?_⟩
   ·unfold dz at fo;have hlt:bg p<listed.size:=by rw[cj];exact Ev.1
    simp[qi,hlt] at fo ⊢;exact fo
   ·have w1:=c.spec.back p ay _ (pb Ev.1) e he hb;have xn:=c.spec.Es e.on w1.1;have:=ar (cX e.on) w1.2 xn.1;unfold dz at this;rw[xn.2] at this;exact this
  rw[al] at this;cases this
def XK(c:hl P env B f r ops pl bg cX cS call s S v)(hall:∀p,p<ops.size->dz bg listed p)(gi:xk pl v (s 0) (dz bg listed) c6):∀t,c6.get t=(s ops.size).get t:=by
 have ae:=Ps c ops.size (b6 _);intro t;by_cases hex:∃(q:Nat) (dG:aX),pl[q]? =some dG/\dG.dst=some t
 ·obtain⟨q,dG,h1,h2⟩:=hex;by_cases hlt:((s 0).get t).isSome=true
  ·rw[gi.jm q dG t h1 (hall q (c.lt h1)) h2 hlt,ae.jm q dG t h1 (c.lt h1) h2 hlt]
  ·have aF:=gi.eV t;have aV:=ae.eV t;cases hg:(s 0).get t with
   |some y=>rw[hg] at hlt;exact absurd I hlt
   |none=>
    rw[hg] at aF aV;cases nj:c6.get t with
    |some y=>rw[nj] at aF;cases aF
    |none=>
     cases IK:(s ops.size).get t with
     |some y=>rw[IK] at aV;cases aV
     |none=>rfl
 ·rw[gi.xl t (λq dG h1 _ h2=>hex ⟨q,dG,h1,h2⟩),ae.xl t (λq dG h1 _ h2=>hex ⟨q,dG,h1,h2⟩)]
def XL(c:hl P env B f r ops pl bg cX cS call s S v)(inv:Inv P env B f ops pl bg cS s S v ds rc cr eX dS listed a w cM m c6)(al:Region.ready .any ops listed=[]):
  eP P env ⟨s ops.size,ds,rc⟩ a (S ops.size) w m B/\Ext f cr eX dS (S ops.size) w m:=by
 have hall:=XJ c inv.size al;have aP:cM=ops.size:=by
  rcases inv.xm with h|⟨dY,h1,_,h3⟩
  ·exact h
  ·exact absurd (hall cM (c.lt h1)) h3
 subst aP;have rL:=XK c hall inv.a5;have gi:=inv.st.ctx.a5;refine⟨⟨⟨inv.st.ctx.rel,⟨λi x hi=>gi.1 i x (by rw[rL i];exact hi),λi hi=>gi.2 i (by rw[rL i];exact hi)⟩,inv.st.ctx.globs⟩,inv.st.defs⟩,inv.ext⟩
def XM(c:hl P env B f r ops pl bg cX cS call s S v){x:Nat}{T:ag}(hx:x<ops.size)(inv:Inv2 P env B f ops pl bg cS s S v ds rc cr eX dS listed a w x T m c6)(al:Region.ready .any ops listed=[]):
  eP P env ⟨s ops.size,ds,rc⟩ a (S ops.size) w m B/\Ext f cr eX dS (S ops.size) w m:=by
 have hall:=XJ c inv.size al;obtain⟨aF,aV⟩:=inv.fin (hall x hx);have rL:=XK c hall inv.a5;have gi:=inv.st.ctx.a5;have st:eP P env ⟨s ops.size,ds,rc⟩ a T w m B:=⟨⟨inv.st.ctx.rel,⟨λi x hi=>gi.1 i x (by rw[rL i];exact hi),λi hi=>gi.2 i (by rw[rL i];exact hi)⟩,inv.st.ctx.globs⟩,inv.st.defs⟩
 exact⟨st.congr aF aV,inv.ext.congr aF aV⟩
def count_set{l:Array Bool}{i:Nat}(h:l.getD i true=false):(l.setIfInBounds i true).toList.count false+1=l.toList.count false:=by
 have hlt:i<l.size:=by
  rcases nG i l.size with h1|h1
  ·exact h1
  ·simp[qi,AZ h1] at h
 have au:l[i]=false:=by simpa [qi,hlt] using h
 rw[Wb,List.count_set (by simpa using hlt)];have w0:0<l.toList.count false:=List.count_pos_iff.2 (by rw[<-au];simp);have yZ:(l.toList[i]'(by simpa using hlt))=false:=by simpa using au
 rw[yZ];have aF:(if(false==false)=true then 1 else 0)=1:=rfl;have aV:(if(true==false)=true then 1 else 0)=0:=rfl;rw[aF,aV];omega
def XN(c:hl P env B f r ops pl bg cX cS call s S v){k:Nat}{Q:Exit->Act->World->Prop}(cu:∀cC ax aK,eP P env ⟨s ops.size,ds,rc⟩ cC (S ops.size) ax aK B->Ext f cr eX dS (S ops.size) ax aK->Q .normal cC ax){x:Nat}(hx:x<ops.size):
  ∀(fuel:Nat) (listed:Array Bool) (a:Act) (w:World) (T:ag) (m:Nat->Option Nat) (c6:aY AV),Inv2 P env B f ops pl bg cS s S v ds rc cr eX dS listed a w x T m c6->listed.toList.count false<=fuel->wpAnyIn (e9 r) k P .any ops Q fuel listed a w
 |0,listed,a,w,T,m,c6,inv,hf=>by
  have al:Region.ready .any ops listed=[]:=by
   refine Py.2 λi hi=>?_;have:=count_set (mem_ready.1 hi).1;omega
  obtain⟨h1,h2⟩:=XM c hx inv al;exact⟨al,cu _ _ _ h1 h2⟩
 |fuel+1,listed,a,w,T,m,c6,inv,hf=>by
  refine⟨λal=>?_,λi hi=>?_⟩
  ·obtain⟨h1,h2⟩:=XM c hx inv al;exact cu _ _ _ h1 h2
  ·have b4f:=count_set (mem_ready.1 hi).1;exact b3W c hx inv hi (λcC ax lP aK r1 hN=>XN c cu hx fuel _ cC ax lP aK r1 hN U)
def XO{kJ:aY AV}{zv:ag}(pC:Pr P env B f r ops pl bg cX cS call kJ zv){k:Nat}{Q:Exit->Act->World->Prop}(cu:∀s S v,Trace env f call pl s S v->s 0=kJ->S 0=zv->∀cC ax aK,eP P env ⟨s ops.size,ds,rc⟩ cC (S ops.size) ax aK B->Ext f cr eX dS (S ops.size) ax aK->Q .normal cC ax):
  ∀(fuel:Nat) (s:Nat->aY AV) (S:Nat->ag) (v:Nat->AV),Trace env f call pl s S v->s 0=kJ->S 0=zv->∀(listed:Array Bool) (a:Act) (w:World) (cM:Nat) (m:Nat->Option Nat) (c6:aY AV),Inv P env B f ops pl bg cS s S v ds rc cr eX dS listed a w cM m c6->listed.toList.count false<=fuel->wpAnyIn (e9 r) k P .any ops Q fuel listed a w
 |0,s,S,v,iq,qu,pE,listed,a,w,cM,m,c6,inv,hf=>by
  have al:Region.ready .any ops listed=[]:=by
   refine Py.2 λi hi=>?_;have:=count_set (mem_ready.1 hi).1;omega
  obtain⟨h1,h2⟩:=XL (pC.Jz s S v iq qu pE) inv al;exact⟨al,cu s S v iq qu pE _ _ _ h1 h2⟩
 |fuel+1,s,S,v,iq,qu,pE,listed,a,w,cM,m,c6,inv,hf=>by
  have c:=pC.Jz s S v iq qu pE;refine⟨λal=>?_,λi hi=>?_⟩
  ·obtain⟨h1,h2⟩:=XL c inv al;exact cu s S v iq qu pE _ _ _ h1 h2
  ·have b4f:=count_set (mem_ready.1 hi).1;exact b3X pC c qu pE inv hi (λiH mR a_ JK xo b4g cC ax EB aK r1 hN=>XO pC cu fuel iH mR a_ JK xo b4g _ cC ax EB aK r1 hN U)
    (λcC ax x T aK r1 hx hN=>XN c (cu s S v iq qu pE) hx fuel _ cC ax T aK r1 hN U)
end
section
variable {P:Program}{env:Env}{B:Nat}
def b4h{ai:Fr}{a:Act}{J:ag}{w:World}{m:Nat->Option Nat}(st:eP P env ai a J w m B)(f n:Nat):eP P env ai a J {w with drawn:=n} m B/\Ext f J w m J {w with drawn:=n} m:=by
 have al:=st.ctx.rel;have aC:∀aA,aA<w.heap.size->¬bh J m aA->w.heap[aA]? =w.heap[aA]? ∧¬bh J m aA:=λ_ _ h=>⟨rfl,h⟩
 refine⟨st.mono ⟨al.len,al.eV,λid aA o h1 h2 h3=>?_,al.inj,al.base,al.bb⟩ (λ_ _ h=>h) (b6 _) (λ_ _ h=>h) aC,
  ⟨λ_ _ h=>h,λ_ _ h=>.inl h,b6 _,b6 _,λ_ _ h=>h,λ_ _ _=>rfl,λ_ _ _=>rfl,λ_ _ h=>h,rfl,rfl,rfl,λ_ _ _=>rfl⟩⟩
 obtain⟨bV,aN,bY⟩:=al.obj id aA o h1 h2 h3;exact⟨bV,aN,lY.mono (w:=w) (ax:={w with drawn:=n}) (λ_ _ h=>h) (b6 _) (λ_ _ h=>h) aC bY⟩
def b4i{f:Nat}{call:kY}{pl:List aX}{s:Nat->aY AV}{S:Nat->ag}{v:Nat->AV}{cS:Nat->Nat->Bool}{aq:aY AV}(iq:Trace env f call pl s S v)(he:s pl.length=aq)(h:swapOk env aq pl=true){p q:Nat}(k4:Er pl cS p q)
  {bI ew:aX} {s1 s2:Option Nat} {a9 cU bt ey:aH} (tv:pl[p]? =some bI) (EM:pl[q]? =some ew) (hx:bI.op= .store s1 a9 cU) (aI:ew.op= .store s2 bt ey):∃i BM j BN,evalA env (s p) a9=some (.p (some (i,BM)))/\evalA env (s q) bt=some (.p (some (j,BN)))/\i≠j:=by
 have hH:=k4.Js;have ao:=k4.last;obtain⟨Xy,b3P,_,_,_,_,_,_,bM,ba,_,_,e8,gH,_,_,lo⟩:=k4.ops;rw[tv] at bM;cases bM;rw[EM] at ba;cases ba;have aF:s q=s p:=by rw[<-hH,iq.put p bI tv,e8];rfl
 have aV:s pl.length=s q:=by rw[<-ao,iq.put q ew EM,gH];rfl
 have b4j:∃t,pl.reverse=ew::bI::t:=by
  have cn:pl.reverse[0]? =some ew:=by rw[XC U,← EM];congr 1;omega
  have ct:pl.reverse[1]? =some bI:=by rw[XC U,← tv];congr 1;omega
  match pl.reverse,cn,ct with
  |a::b::t,cn,ct=>simp at cn ct;exact⟨t,by rw[cn,ct]⟩
 obtain⟨t,ht⟩:=b4j;unfold swapOk at h;rw[ht] at h;simp only at h;split at h
 ·rename_i hw;exact absurd hw lo
 ·rw[aI,hx] at h;simp only at h;rw[<-he,aV,aF] at h;rw[aF];split at h
  ·rename_i i BM j BN cn ct;refine⟨i,BM,j,BN,cn,ct,λzo=>?_⟩;subst zo;rw[fE] at h;cases h
  ·cases h
def b4k{run:jg}(jQ:P.follows .mixedOrders=true)(oI:∀f r,D2 P env B f r (callV env run f)):WA P env B run:=by
 intro floor pl ai J L b5 EN k r id ops a w m OR st Q cu;obtain⟨bg,cX,cS,spec⟩:=b3s OR;have pC:Pr P env B floor r ops pl bg cX cS (callV env run floor) ai.a5 J:=by
  refine⟨λs S v iq h1 h2=>?_,λs S v iq h1 h2=>Xl _ _ _ _ _ b5 iq h1 h2⟩;obtain⟨x,PH,to⟩:=Pp _ _ _ _ _ b5 iq h1 h2;obtain⟨cR,b4l⟩:=EN x PH;refine⟨spec,oI floor r,iq,λp aS ay hw he q aP=>?_,λp q k4 bI ew s1 a9 cU s2 bt ey tv EM hx aI=>b4i iq to.aq b4l k4 tv EM hx aI⟩;have eQ:=to.BL p aS ay hw he (λh=>by rw[h] at aP;cases aP);rw[mx] at cR;have h1:=cR _ eQ;unfold steady at h1;have h2:=jO h1 q aP;simp only[to.bR,List.reverse_nil,qA,DC,w_] at h2;split at h2
  ·rename_i c4C XP;simp only[w4,eE] at XP;obtain⟨hq,g5,rfl⟩:=XP;obtain rfl:q=hq:=by
    have:=List.getElem?_range (i:=q) (n:=pl.length+1) (by have:=(lG.1 g5).1;simpa using this);rw[this] at g5;cases g5;rfl
   split at h2
   ·rename_i v1 bu hx;rw[AV.qF _ _ _ h2] at hx;exact⟨bu,hx⟩
   ·cases h2
  ·cases h2
 obtain⟨s,S,v,iq,aF,aV⟩:=Po _ _ _ _ _ b5;have c:=pC.Jz s S v iq aF aV;refine wpIn_region_any jQ ?_;obtain⟨gX,b4m⟩:=b4h st floor (w.drawn+1);have bE:ai=⟨s 0,ai.defers,ai.fh⟩:=by rw[aF]
 obtain⟨q,h1,h2,h3,aN⟩:=Pu c ops.size 0 U;have jC:∀p,¬dz bg (Array.replicate ops.size false) p:=λp h=>by
  unfold dz at h;simp only[qi] at h;rw[Array.getElem?_replicate] at h;split at h<;>simp at h
 have b4n:pD pl s S J (dz bg (Array.replicate ops.size false)) m 0:=⟨λp aS h=>by omega,λp ef aS hp h h'=>by omega⟩
 obtain⟨EC,ED,EE⟩:=advance c (D:=dz bg (Array.replicate ops.size false)) q 0 U (λp aS bY cf gh=>aN p aS bY U gh) (by rw[aV];exact gX) (by rw[aV];exact b4m) b4n;rw[lQ] at EC ED EE;refine XO (cr:=J) (eX:=w) (dS:=m) (ds:=ai.defers) (rc:=ai.fh) pC (λs S v iq aF aV cC ax aK cn ct=>?_) ops.size s S v iq aF aV _ a _ q m (s 0) ⟨st.ctx.rel,aT,λp ay an=>absurd an (jC p),h2,?_,λe dY bY cf gh=>?_,λe dY _ _ _ h=>jC e h,⟨λ_=>rfl,λp aS t ay an=>absurd an (jC p),λt _=>rfl⟩,by rw[<-bE];exact EC,ED,EE⟩ aT
 ·obtain⟨x,PH,to⟩:=Pp _ _ _ _ _ b5 iq aF aV;rw[<-spec.len,to.st] at cn ct;rw[to.aq] at cn;refine cu x PH cC ax aK ?_ ct;have:x.1=⟨x.1.a5,ai.defers,ai.fh⟩:=by rw[<-to.pC,← to.rc]
  rw[this];exact cn
 ·rcases h3 with h|⟨dY,bY,cf⟩
  ·exact .inl h
  ·exact .inr ⟨dY,bY,cf,jC q⟩
 ·have:=aN e dY U bY cf;rw[this] at gh;cases gh
end
section
variable {P:Program}{env:Env}{B:Nat}
def JL(fS:px P env)(ei:BB P env B)(hex:tk P env)(jQ:P.follows .mixedOrders=true):∀n,qD P env B (exec env n)
 |0=>qD.zero
 |n+1=>by
  have ar:=JL fS ei hex jQ n;rw[oJ];exact b2j ar (λf r=>W1 fS ei hex ar f r) (b4k jQ (λf r=>W1 fS ei hex ar f r)) (b3l fS ei ar)
def gI(n:Nat):AV->Bool:=
 Nat.rec (motive:=λ_=>AV->Bool) (λ_=>false) (λ_ ar v=>
  match v with
  | .dk o v=>!o&&cB ar v.cells
  | .aR o _ xs=>(!o||xs.isEmpty)&&cB (λx=>cB ar x.cells) xs
  | .it _ v=>ar v
  | .ad l=>cB ar l
  | .a6 l=>cB ar l
  | .f _ x y=>cB ar x&&cB ar y
  | .eT o _=>!o
  | .iA _ _ _=>false
  |_=>true) n
def vn(n:Nat)(v:AV):gI (n+1) v=match v with
  | .dk o v=>!o&&cB (gI n) v.cells
  | .aR o _ xs=>(!o||xs.isEmpty)&&cB (λx=>cB (gI n) x.cells) xs
  | .it _ v=>gI n v
  | .ad l=>cB (gI n) l
  | .a6 l=>cB (gI n) l
  | .f _ x y=>cB (gI n) x&&cB (gI n) y
  | .eT o _=>!o
  | .iA _ _ _=>false
  |_=>true:=rfl
def XQ{w:World}{O:Nat->Prop}:∀(n:Nat) (v:AV) (u:Value),gI n v=true->az w (λ_=>none) O B v u->az w (λ_=>none) (λb=>b<B) B v u
 |0,_,_,h,_=>by cases h
 |n+1,v,u,h,hR=>by
  have ar:=XQ (w:=w) (O:=O) n;rw[vn] at h;cases hR with
  |b x=>exact .b x
  |i k n=>exact .i k n
  |s l ak=>exact .s l ak
  |qm=>exact .qm
  |p hm=>simp at hm
  |dk a4 c9 hb eu ae al hf=>
   simp only[c7,wM] at h;exact .dk a4 (λhlt=>by have:=eu h.1;omega) hb eu ae (λj aG=>ar _ _ (jO h.2 _ (c3 aG)) (al j aG)) hf
  |aj=>exact .aj
  |aq hm=>simp at hm
  |kB=>exact .kB
  |aR a4 c9 ak ae al ao hf ei=>
   simp only[c7,qf,wM,List.isEmpty_iff] at h;refine .aR a4 (λb_=>?_) ak ae (λi hi j aG=>ar _ _ (jO (jO h.2 _ (c3 hi)) _ (c3 aG)) (al i hi j aG)) ao hf ei;have h1:=h.1.resolve_right b_;exact⟨λhlt=>by have:=(c9 b_).2.2 h1;omega,(c9 b_).2.1,(c9 b_).2.2⟩
  |ru=>exact .ru
  |mp hm=>simp at hm
  |na hf bE ae s4=>
   simp only[c7] at h;exact .na hf (λi a b=>ar _ _ (jO h.1 _ (c3 a)) (bE i a b)) ae (λi a b=>ar _ _ (jO h.2 _ (c3 a)) (s4 i a b))
  |uW hm=>simp at hm
  |gp=>exact .gp
  |it au=>exact .it (ar _ _ h au)
  |eC=>exact .eC
  |ad ak al hf=>exact .ad ak (λi a b=>ar _ _ (jO h _ (c3 a)) (al i a b)) hf
  |a6 ak al=>exact .a6 ak (λi a b=>ar _ _ (jO h _ (c3 a)) (al i a b))
  |e3 hu hn=>exact .e3 hu hn
  |hC ak=>exact .hC ak
  |iz n hn=>exact .iz n hn
  |y ak=>exact .y ak
  |eT hu ak=>
   simp only[wM] at h;subst h;exact .eT hu (TokOk.fresh ak)
  |g1 k aC=>exact .g1 k aC
  |fF k h1 h2=>exact .fF k h1 h2
  |iA=>cases h
def SpecEntry(P:Program)(env:Env)(bN g:Nat)(aB:List AV)(r:AV):Prop:=
 (∃fn c,P.funcs[g]? =some fn/\fn.body=some c/\(fn.name== "runtime.NumGoroutine")=false)∧
  ∀k rd w us,bN<=w.heap.size->Globs env w bN->bF w (λ_=>none) (λ_=>False) w.heap.size aB us.toList→
   CallsIn (e9 rd) k P g us w (λe bf=>∃u,e= .returned u/\az bf (λ_=>none) (λb=>b<w.heap.size) w.heap.size r u/\w.heap.size<=bf.heap.size/\(∀b,b<w.heap.size->bf.heap[b]? =w.heap[b]?)/\bf.os=w.os/\bf.tape=w.tape/\bf.output=w.output)
def zx(P:Program)(env:Env):Prop:=∀bN,BB P env bN
def PI(w:World):Rel P ⟨.nil,0⟩ w (λ_=>none) w.heap.size:=
 ⟨trivial,λ_ _ h=>by simp at h,λ_ _ _ h=>by simp at h,λ_ _ _ h=>by simp at h,λ_ _ h=>by simp at h,b6 _⟩
def PJ(aA:Nat):¬bh ⟨.nil,0⟩ (λ_=>none) aA:=λ⟨_,h,_⟩=>by simp at h
def XR(fS:px P env)(ei:zx P env)(hex:tk P env)(jQ:P.follows .mixedOrders=true){n g:Nat}{aB:List AV}{r:AV}{l:List (cQ×ag)}(h:runF env (exec env n) 0 g aB ⟨.nil,0⟩=some l){a2 fn:Nat}(aZ:joinF a2 0 l=some r)(bE:gI fn r=true)(bN:Nat):
  SpecEntry P env bN g aB r:=by
 refine⟨?_,λk rd w us eu cc ha=>?_⟩
 ·unfold runF at h;cases hg:env.funcs g with
  |none=>simp[hg] at h
  |some bG=>
   obtain⟨fn,h1,h2,h3⟩:=fS.funcs g bG hg;obtain⟨_,c,_,_,aN,_⟩:=D_ h2;exact⟨fn,c,h1,aN,h3⟩
 ·have EO:Globs env w w.heap.size:=λg v hg ej=>(cc g v hg ej).mono (λ_ _ h=>h) (b6 _) (λ_ _ h=>h) (λb _ hb=>⟨rfl,λho=>hb (lE eu ho)⟩);have b5:=JL fS (ei w.heap.size) hex jQ n;have nT:=PI (P:=P) w;have rS:bF w (λ_=>none) (bh ⟨.nil,0⟩ (λ_=>none)) w.heap.size aB us.toList:=ha.mono (λ_ _ h=>h) (b6 _) (λ_ _ h=>h) (λb _ _=>⟨rfl,PJ b⟩);obtain⟨_,ae⟩:=Eb fS b5 (Eg fS 0) h k rd nT EO rS;refine w3 ae (λe bf dh=>?_);obtain⟨ret,af,eQ,b3,hU,hS,fl⟩:=dh;obtain⟨v,rfl,il⟩:=WW aZ _ _ eQ;cases e with
  |returned u=>
   have b4o:Ext (⟨.nil,0⟩:ag).next ⟨.nil,0⟩ w (λ_=>none) af bf b3:=fl;have hR:=OW nT hS b4o a2 v r u il hU;exact⟨u,rfl,XQ fn r u bE hR,fl.size,λb hb=>fl.bK b hb (λ⟨_,_,h,_⟩=>by simp at h),fl.os,fl.tape,fl.out⟩
  |panicked mL=>exact hU.elim
  |outgrown=>exact hU.elim
end
def EP(cT:List (Nat×List AV×AV))(g:Nat)(aB:List AV):Option AV:=
 List.rec none (λe _ ar=>cond (Nat.beq e.1 g) (cond (fv (AV.eqb 1000) aB e.2.1) (some e.2.2) ar) ar) cT
def b4p(e:Nat×List AV×AV)(cT:List (Nat×List AV×AV))(g:Nat)(aB:List AV):EP (e::cT) g aB=cond (Nat.beq e.1 g) (cond (fv (AV.eqb 1000) aB e.2.1) (some e.2.2) (EP cT g aB)) (EP cT g aB):=rfl
def PK{g:Nat}{aB:List AV}{r:AV}:∀ {cT:List (Nat×List AV×AV)},EP cT g aB=some r->(g,aB,r)∈cT
 |[],h=>by cases h
 |e::cT,h=>by
  rw[b4p] at h;cases h1:Nat.beq e.1 g with
  |false=>rw[h1,cond_false] at h;exact fP _ (PK h)
  |true=>
   rw[h1,cond_true] at h;cases h2:fv (AV.eqb 1000) aB e.2.1 with
   |false=>rw[h2,cond_false] at h;exact fP _ (PK h)
   |true=>
    rw[h2,cond_true] at h;cases h;have aF:=eM h1;have aV:=BD (AV.qF 1000) _ _ h2;subst aF;subst aV;exact oq
structure pF where
 get:Nat->Option bP
def pF.PL(p:Nat->bP->Prop)(t:pF):Prop:=∀g bG,t.get g=some bG->p g bG
def pF.zy{p:Nat->bP->Prop}{t:pF}(h:t.PL p):∀g bG,t.get g=some bG->p g bG:=h
structure b8 where
 funcs:pF
 mA:Nat->Option AV
 pure:Nat->Bool
 a2:Nat
 ext:Nat->Nat
 qk:Nat->List AV->Option (AV×List AO):=λ_ _=>none
def b8.env(b:b8)(cT:List (Nat×List AV×AV)):Env:={funcs:=b.funcs.get,mA:=b.mA,pure:=b.pure,spec:=EP cT,a2:=b.a2+1000,ext:=b.ext,qk:=b.qk}
def XS(P:Program)(g:Nat)(bG:bP):Prop:=∃fn,P.funcs[g]? =some fn/\cfunc P fn=some bG/\(fn.name== "runtime.NumGoroutine")=false
structure jb(P:Program)(b:b8):Prop where
 funcs:b.funcs.PL (XS P)
 ext:tk P (b.env [])
 vo:P.follows .mixedOrders=true
def runsTo(b:b8)(cT:List (Nat×List AV×AV))(n:Nat)(e:Nat×List AV×AV):Bool:=
 match Dy (b.env cT) n e.1 e.2.1 with
 |some v=>AV.eqb 1000 v e.2.2&&gI 1000 e.2.2
 |none=>false
section
variable {P:Program}{b:b8}{cT:List (Nat×List AV×AV)}
def gu(P:Program)(b:b8)(cT:List (Nat×List AV×AV)):Prop:=∀e∈cT,∀bN,SpecEntry P (b.env []) bN e.1 e.2.1 e.2.2
def gu.nil:gu P b []:=λe h=>by cases h
def gu.XT(h:gu P b cT):zx P (b.env cT):=λbN g aB r ak=>h _ (PK ak) bN
def gu.entry(hb:jb P b)(h:gu P b cT){n:Nat}{e:Nat×List AV×AV}(al:runsTo b cT n e=true)(bN:Nat):SpecEntry P (b.env []) bN e.1 e.2.1 e.2.2:=by
 unfold runsTo Dy at al;split at al
 ·rename_i v au;split at au<;>try (cases au;done)
  rename_i l b5;simp only[c7] at al;rw[AV.qF _ _ _ al.1] at au;exact XR (env:=b.env cT) ⟨λg bG hg=>pF.zy hb.funcs g bG hg⟩ h.XT hb.ext hb.vo b5 au al.2 bN
 ·cases al
def gu.append{XU:List (Nat×List AV×AV)}(h:gu P b cT)(h':gu P b XU):gu P b (cT++XU):=λe he=>by
 rcases gN.1 he with he|he
 ·exact h e he
 ·exact h' e he
end
def b4q(c x:Nat)(l:List Nat)(k:Nat):A6 c (x::l) k=cond (Nat.beq x c) (Int.ofNat k) (A6 c l (k+1)):=rfl
def b4r{a b:Nat}(ha:a<256)(hb:b<256):(a.toUInt8==b.toUInt8)=Nat.beq a b:=by
 rw[rl,mw,beq_iff_eq];constructor
 ·intro h;have:=congrArg UInt8.toNat h;simp at this;omega
 ·intro h;rw[h]
def XV{c:Nat}(ae:c<256):∀(l:List Nat) (k:Nat),(∀x∈l,x<256)->A6 c l k=if Lib.indexByte (l.map Nat.toUInt8) c.toUInt8= -1 then-1 else Lib.indexByte (l.map Nat.toUInt8) c.toUInt8+k
 |[],k,_=>rfl
 |x::l,k,h=>by
  have hx:x<256:=h x aT;have ar:=XV ae l (k+1) (λy aI=>h y (by simp[aI]));have iX:=Lib.indexByte_ge (l.map Nat.toUInt8) c.toUInt8;rw[b4q,ar,mv];simp only[Lib.indexByte,b4r hx ae];cases hb:Nat.beq x c with
  |true=>simp
  |false=>
   simp only[cond_false,rj,if_false];by_cases h1:Lib.indexByte (l.map Nat.toUInt8) c.toUInt8= -1
   ·simp[h1]
   ·have h2:(Lib.indexByte (l.map Nat.toUInt8) c.toUInt8== -1)=false:=by simpa using h1
    rw[h2];simp only[h1,if_false,rj];rw[if_neg U];omega
def b4s(x:Nat)(l:List Nat)(y:Nat)(r:List Nat):hD (x::l) (y::r)=cond (Nat.blt x y) true (cond (Nat.beq x y) (hD l r) false):=rfl
def b4t(x:Nat)(l:List Nat)(y:Nat)(r:List Nat):eqL (x::l) (y::r)=cond (Nat.beq x y) (eqL l r) false:=rfl
def cmp_eq:∀(a b:List Nat),(∀x∈a,x<256)->(∀x∈b,x<256)->Lib.compareBytes (a.map Nat.toUInt8) (b.map Nat.toUInt8)=cond (hD a b) (-1) (cond (eqL a b) 0 1)
 |[],[],_,_=>rfl
 |[],_::_,_,_=>rfl
 |_::_,[],_,_=>rfl
 |x::a,y::b,ha,hb=>by
  have hx:x<256:=ha x aT;have aI:y<256:=hb y aT;have ar:=cmp_eq a b (λz aZ=>ha z (by simp[aZ])) (λz aZ=>hb z (by simp[aZ]));have XW:∀ {p q:Nat},p<256->q<256->(p.toUInt8<q.toUInt8↔p<q):=λay aP=>by
   rw[UF];simp;omega
  simp only[mv,Lib.compareBytes,b4s,b4t,XW hx aI,XW aI hx];rcases w5 x y with h|h|h
  ·have:Nat.blt x y=true:=(xh.2 h)
   simp[h,this]
  ·subst h;have h1:Nat.blt x x=false:=by cases h:Nat.blt x x with|false=>rfl|true=>exact absurd ((xh.1 h)) (IX x)
   simp[h1,ar]
  ·have h1:Nat.blt x y=false:=by cases h':Nat.blt x y with|false=>rfl|true=>have:=(xh.1 h');omega
   have h2:Nat.beq x y=false:=by cases h':Nat.beq x y with|false=>rfl|true=>have:=eM h';omega
   have h3:¬x<y:=by omega
   simp[h,h1,h2,h3]
section
variable {P:Program}{g:Nat}{fn:Func}
def XX{w:World}{m:Nat->Option Nat}{O:Nat->Prop}{B:Nat}{x y:AV}{l:List Value}(h:bF w m O B [x,y] l):∃u v,l=[u,v]/\az w m O B x u/\az w m O B y v:=by
 obtain⟨h1,h2⟩:=h
 match l,h1,h2 with
 |[u,v],_,h2=>exact⟨u,v,rfl,h2 0 aT aT,h2 1 aT aT⟩
def b4u(hf:P.funcs[g]? =some fn)(vf:(fn.name== "runtime.NumGoroutine")=false)(hb:fn.body.isNone=true)(hn:Extern.findNext fn=none)(he:Extern.find fn=some Extern.BytealgIndexByte.indexByte)
  (args:List AV) (v:AV) (h:extRow 1 args=some v) (w:World) (m:Nat->Option Nat) (O:Nat->Prop) (B:Nat) (us cs:Array Value) (ha:bF w m O B args (us++cs).toList):∃u,(invoke (.fn (.func g) cs) us).run P w= .ok (.value u) w/\az w m O B v u:=by
 have key:∃l c,args=[.s l,.i .u8 (Int.ofNat c)]/\c<256/\v= .i .i64 (A6 c l 0):=by
  unfold extRow at h;split at h
  ·rename_i l c _;cases ae:Nat.blt c 256 with
   |false=>rw[ae] at h;cases h
   |true=>rw[ae,cond_true] at h;cases h;exact⟨l,c,rfl,(xh.1 ae),rfl⟩
  ·rename_i h1;exact absurd h1 eI
  ·rename_i h1;exact absurd h1 eI
  ·cases h
 obtain⟨l,c,rfl,ae,rfl⟩:=key;obtain⟨BU,PM,ao,h1,h2⟩:=XX ha;have k1:us++cs= #[BU,PM]:=by apply m6;simpa using ao
 cases h1 with
 |s _ hlt=>
  cases h2 with
  |i _ _=>
   refine⟨.int .i64 (A6 c l 0),?_,.i _ _⟩;show(callFunc g (us++cs)).run P w=_;rw[run_callFunc_extern hf vf hb hn he,k1,Lib.run_indexByteString];have aF:(strOf l).data.toList=l.map Nat.toUInt8:=by simp[strOf]
   have aV:(Int.ofNat c).toNat=c:=rfl;rw[aF,aV,XV ae l 0 hlt];simp only[ez];split
   ·rename_i h;rw[h]
   ·simp
def b4v(hf:P.funcs[g]? =some fn)(vf:(fn.name== "runtime.NumGoroutine")=false)(hb:fn.body.isNone=true)(hn:Extern.findNext fn=none)(he:Extern.find fn=some Extern.BytealgCompare.compare)
  (args:List AV) (v:AV) (h:extRow 2 args=some v) (w:World) (m:Nat->Option Nat) (O:Nat->Prop) (B:Nat) (us cs:Array Value) (ha:bF w m O B args (us++cs).toList):∃u,(invoke (.fn (.func g) cs) us).run P w= .ok (.value u) w/\az w m O B v u:=by
 have key:∃a b,args=[.s a,.s b]/\v= .i .i64 (cond (hD a b) (-1) (cond (eqL a b) 0 1)):=by
  unfold extRow at h;split at h
  ·rename_i h1;exact absurd h1 eI
  ·cases h;exact⟨_,_,rfl,rfl⟩
  ·rename_i h1;exact absurd h1 eI
  ·cases h
 obtain⟨a,b,rfl,rfl⟩:=key;obtain⟨BU,PM,ao,h1,h2⟩:=XX ha;have k1:us++cs= #[BU,PM]:=by apply m6;simpa using ao
 cases h1 with
 |s _ hlt=>
  cases h2 with
  |s _ tw=>
   refine⟨.int .i64 (cond (hD a b) (-1) (cond (eqL a b) 0 1)),?_,.i _ _⟩;show(callFunc g (us++cs)).run P w=_;rw[run_callFunc_extern hf vf hb hn he,k1,Lib.run_compareString];have aF:∀l,(strOf l).data.toList=l.map Nat.toUInt8:=λl=>by simp[strOf]
   rw[aF,aF,cmp_eq a b hlt tw];rfl
end
def SpecEntry.calls{P:Program}{env:Env}{bN g:Nat}{aB:List AV}{r:AV}(h:SpecEntry P env bN g aB r){w:World}{us:Array Value}(eu:bN<=w.heap.size)(cc:Globs env w bN)(ha:bF w (λ_=>none) (λ_=>False) w.heap.size aB us.toList):
  Calls P g us w (λe bf=>∃u,e= .returned u/\az bf (λ_=>none) (λb=>b<w.heap.size) w.heap.size r u/\w.heap.size<=bf.heap.size/\(∀b,b<w.heap.size->bf.heap[b]? =w.heap[b]?)/\bf.os=w.os/\bf.tape=w.tape/\bf.output=w.output):=
 (h.2 0 none w us eu cc ha).calls (λk=>by simp[Fence.room,e9])
def XY{α β:Type}{f:α->Option β}:∀ {l:List α} {r:List β},mapOL f l=some r->r.length=l.length/\∀i (h:i<l.length) (h':i<r.length),f l[i]=some r[i]
 |[],r,h=>by cases h;exact⟨rfl,λi h=>by simp at h⟩
 |x::xs,r,h=>by
  unfold mapOL at h;split at h<;>cases h;rename_i y a4 h1 h2;obtain⟨h3,aN⟩:=XY h2;refine⟨by simp[h3],λi hi du=>?_⟩;cases i with
  |zero=>simpa using h1
  |succ i=>simpa using aN i (by simpa using hi) (by simpa using du)
def packA(R:Option Nat)(l:List AV):Option AV:=
 match R,l with
 |none,[x]=>some x
 |none,_=>none
 |some n,l=>if l.length=n then some (.ad l) else none
def avCat(f:TypeId->DataW Unit->Option (List AV))(cells:TypeId->Nat):List (Nat×TypeId)->Nat->List (DataW Unit)->Option (List AV)
 |[],_,[]=>some []
 |(o,t)::bO,k,d::ds=>
  if o=k then match f t d,avCat f cells bO (k+cells t) ds with
   |some l,some r=>if l.length=cells t then some (l++r) else none
   |_,_=>none
  else none
 |_,_,_=>none
def avCells(P:Program):Nat->TypeId->DataW Unit->Option (List AV)
 |0,_,_=>none
 |n+1,t,d=>
  match P.underlying t,d with
  |some .bool,.lit (.bool b)=>some [.b b]
  |some (.int _),.lit (.int k x)=>some [.i k x]
  |some .string,.lit (.string l)=>some [.s (l.map (·.toNat))]
  |some (.pointer _),.nil=>some [.p none]
  |some (.slice _),.nil=>some [.aj]
  |some (.slice e),.slice (y::a4) _=>match shapeOf P e,P.cellsOf e with
   |some R,c+1=>if shN R=c+1 then match mapOL (λd=>match avCells P n e d with|some l=>packA R l|none=>none) (y::a4) with
     |some xs=>some [.aR true R xs]
     |none=>none
    else none
   |_,_=>none
  |some (.struct bO),.agg aE=>match avCat (avCells P n) P.cellsOf (bO.toList.map λf=>(f.offset,f.type)) 0 aE with
   |some l=>if l.length=P.cellsOf t then some l else none
   |none=>none
  |some (.array k e),.agg aE=>match avCat (avCells P n) P.cellsOf ((List.range k).map λi=>(i*P.cellsOf e,e)) 0 aE with
   |some l=>if l.length=P.cellsOf t then some l else none
   |none=>none
  |_,_=>none
section
variable {P:Program}{w:World}
def PN{base:Nat}{a:Addr}{n:Nat}{cs:List Value}(h:w.cells? base a n=some cs):cs.length=n/\∀i,i<n->w.cell? (a.add i)=cs[i]? :=by
 unfold World.cells? at h;split at h
 ·exact⟨by simpa using mapM_some_length h,λi hi=>mapM_some_get h i i (by simp[hi])⟩
 ·cases h
def b4w{a:Addr}{v:Value}(h:w.cell? a=some v):a.spot=none/\a.block<w.heap.size:=by
 unfold World.cell? at h;split at h
 ·rename_i hh;split at h
  ·cases h
  ·rename_i ak;refine⟨by cases hx:a.spot with|none=>rfl|some _=>simp[hx] at ak,?_⟩;exact(yC.1 hh).1
 ·cases h
def PO{f:TypeId->DataW Unit->Option (List AV)}{ej m:Nat}(ar:∀t cs d aE l,DataW.trod (λ_=>()) P w 0 (λ_=>true) false m t cs=some (d,aE)->f t d=some l->bF w (λ_=>none) (λb=>w.heap.size<=b) ej l cs/\∀x∈l,conf none x=true)(cs:List Value):
  ∀(bO:List (Nat×TypeId)) (k:Nat) (xs:List (DataW Unit×List MemPlace)) (l:List AV),(∀(i o:Nat) (t:TypeId),bO[i]? =some (o,t)->DataW.trod (λ_=>()) P w 0 (λ_=>true) false m t ((cs.drop o).take (P.cellsOf t))=xs[i]?)→
   avCat f P.cellsOf bO k (xs.map (·.1))=some l->k+l.length=cs.length->bF w (λ_=>none) (λb=>w.heap.size<=b) ej l (cs.drop k)/\∀x∈l,conf none x=true
 |[],k,[],l,_,h,aC=>by
  cases h;rw[On (by simp at aC;omega)];exact⟨.nil,λx hx=>by cases hx⟩
 |[],k,x::xs,l,_,h,aC=>by simp[avCat] at h
 |(o,t)::bO,k,[],l,_,h,aC=>by simp[avCat] at h
 |(o,t)::bO,k,x::xs,l,hx,h,aC=>by
  simp only[mv,avCat] at h;split at h
  ·rename_i ho;subst ho;split at h
   ·rename_i tj lf h1 h2;split at h<;>cases h;rename_i iV;have h0:=hx 0 o t I;simp only[We] at h0;obtain⟨a9,bt⟩:=ar t _ x.1 x.2 tj (by rw[h0]) h1;have al:=PO ar cs bO (o+P.cellsOf t) xs lf (λi bV ID hi=>by simpa using hx (i+1) bV ID (by simpa using hi)) h2 (by rw[h5] at aC;omega);refine⟨?_,λy aI=>(gN.1 aI).elim (bt y) (al.2 y)⟩;have an:=al.1;rw[<-ov] at an;have:=a9.append an;rwa[BR] at this
   ·cases h
  ·cases h
def XZ{R:Option Nat}{l:List AV}{x:AV}(h:packA R l=some x)(ao:∀y∈l,conf none y=true):conf R x=true/\x.cells=l:=by
 unfold packA at h;split at h
 ·cases h;have:=ao x aT;refine⟨this,?_⟩;cases x<;>simp_all [conf,AV.cells]
 ·cases h
 ·split at h<;>cases h;rename_i hn;exact⟨by simp[conf,hn],rfl⟩
def X0(ej:Nat):∀(n fuel:Nat) (t:TypeId) (cs:List Value) (d:DataW Unit) (aE:List MemPlace) (l:List AV),DataW.trod (λ_=>()) P w 0 (λ_=>true) false fuel t cs=some (d,aE)->avCells P n t d=some l→
  bF w (λ_=>none) (λb=>w.heap.size<=b) ej l cs/\∀x∈l,conf none x=true
 |0,_,_,_,_,_,_,_,h=>by cases h
 |n+1,fuel,t,cs,d,aE,l,an,h=>by
  have ar:=λm t cs d aE l=>X0 ej n m t cs d aE l;unfold avCells at h;split at h
  ·rename_i ht;obtain⟨b,rfl,hx⟩:=DataW.trod_bool ht an;cases h;cases hx;exact⟨.cons (.b _) .nil,λx hx=>by simp at hx;subst hx;rfl⟩
  ·rename_i ht;obtain⟨b,rfl,hx,_⟩:=DataW.trod_int ht an;cases h;cases hx;exact⟨.cons (.i _ _) .nil,λx hx=>by simp at hx;subst hx;rfl⟩
  ·rename_i ht;obtain⟨s,rfl,hx,_⟩:=DataW.trod_string ht an;cases h;cases hx;have:=az.s (w:=w) (m:=λ_=>none) (O:=λb=>w.heap.size<=b) (B:=ej) (yM s) (Vc s);rw[Vb] at this;exact⟨.cons this .nil,λx hx=>by simp at hx;subst hx;rfl⟩
  ·rename_i ht;rcases DataW.trod_pointer ht an with⟨rfl,_⟩|⟨_,_,_,_,_,_,hx,_⟩
   ·cases h;exact⟨.cons .qm .nil,λx hx=>by simp at hx;subst hx;rfl⟩
   ·cases hx
  ·rename_i ht;rcases DataW.trod_slice ht an with⟨rfl,_⟩|⟨_,_,_,_,_,_,_,_,hx,_⟩
   ·cases h;exact⟨.cons .aj .nil,λx hx=>by simp at hx;subst hx;rfl⟩
   ·cases hx
  ·rename_i e y a4 _ ht;split at h<;>try (cases h;done)
   rename_i R c gF ae;split at h<;>try (cases h;done)
   rename_i X1;split at h<;>cases h;rename_i xs ed;obtain⟨h1,h2⟩:=XY ed;rcases DataW.trod_slice ht an with⟨_,hx⟩|⟨a,len,cap,elems,rest,m,rfl,rfl,hx,_,qp,y0,DQ,fG,_,_⟩
   ·cases hx
   simp only[te,DataW.slice.injEq] at hx;obtain⟨⟨e_,_⟩,_⟩:=hx;have hlen:xs.length=len:=by rw[h1,e_];simpa using DQ
   have each:∀i (hi:i<xs.length),∃us,w.cells? 0 (a.add (i*P.cellsOf e)) (P.cellsOf e)=some us/\bF w (λ_=>none) (λb=>w.heap.size<=b) ej (xs[i]).cells us/\conf R xs[i]=true/\∀x∈(xs[i]).cells,conf none x=true:=λi hi=>by
    have hg:=fG i U;have du:i<elems.length:=by omega
    rw[eS du] at hg;simp only[dy] at hg;obtain⟨us,hu,b4x⟩:=hg;have h3:=h2 i U hi;have aF:(y::a4)[i]'U=(elems[i]).1:=by
     have:(y::a4)[i]? =(elems.map (·.1))[i]? :=by rw[e_]
     rw[eS U,eS (by simpa using du),cw] at this;simpa using this
    rw[aF] at h3;split at h3<;>try (cases h3;done)
    rename_i tj iV;obtain⟨a9,bt⟩:=ar m e us _ _ tj b4x iV;obtain⟨cW,eD⟩:=XZ h3 bt;exact⟨us,hu,by rw[eD];exact a9,cW,by rw[eD];exact bt⟩
   have w0:0<xs.length:=by rw[h1];simp
   obtain⟨c4D,b4y,nT,fs,_⟩:=each 0 w0;obtain⟨c4E,y8⟩:=PN b4y;have k0:P.cellsOf e=c+1:=ae;have xp:=y8 0 U;rw[eS U] at xp;simp only[EH] at xp;have b4z:(a.add 0).add 0=a:=rfl;rw[b4z] at xp;obtain⟨ei,X2⟩:=b4w xp;obtain⟨aA,off,sp⟩:=a;cases ei;refine⟨.cons ?_ .nil,λx hx=>by simp at hx;subst hx;rfl⟩;rw[<-hlen];refine .aR (λi j=>(w.cell? ⟨aA,off+i*shN R+j,none⟩).getD undef) (λ_=>⟨by show ¬w.heap.size<=aA;exact Nat.not_le.2 X2,X2,λh=>by cases h⟩) (λi hi=>(each i hi).choose_spec.2.2.1) (λi hi j aG=>?_) (λi hi j aG=>?_) U (λv au x hx=>?_) (λ_=>rfl)
   ·obtain⟨us,hu,al,dX,_⟩:=each i hi;obtain⟨ao,hg⟩:=PN hu;have fj:j<P.cellsOf e:=by rw[rE dX] at aG;omega
    have:=hg j fj;rw[j8,j8,eS U] at this;rw[k0,← X1] at this;rw[this];rfl
   ·obtain⟨us,hu,al,dX,_⟩:=each i hi;obtain⟨ao,hg⟩:=PN hu;have fj:j<P.cellsOf e:=by rw[rE dX] at aG;omega
    have:=hg j fj;rw[j8,j8,eS U] at this;rw[k0,← X1] at this;rw[this];exact al.2 j aG U
   ·obtain⟨i,hi,rfl⟩:=lF au;exact(each i hi).choose_spec.2.2.2 x hx
  ·rename_i bO m_ ht;split at h<;>try (cases h;done)
   rename_i tj iV;split at h<;>cases h;rename_i hlen;obtain⟨xs,m,rfl,hx,hJ,oQ,fG⟩:=DataW.trod_struct ht an;simp only[te,DataW.agg.injEq] at hx;obtain⟨rfl,_⟩:=hx;have:=PO (ej:=ej) (m:=m) (λt cs d aE l=>ar m t cs d aE l) cs _ 0 xs l (λi o ID hi=>by
    simp only[w4,eE,te] at hi;obtain⟨f,hf,rfl,rfl⟩:=hi;exact fG i f (by simpa using hf)) iV U
   simpa using this
  ·rename_i k e m_ ht;split at h<;>try (cases h;done)
   rename_i tj iV;split at h<;>cases h;rename_i hlen;obtain⟨xs,m,rfl,hx,hJ,oQ,fG⟩:=DataW.trod_array ht an;simp only[te,DataW.agg.injEq] at hx;obtain⟨rfl,_⟩:=hx;have:=PO (ej:=ej) (m:=m) (λt cs d aE l=>ar m t cs d aE l) cs _ 0 xs l (λi o ID hi=>by
    simp only[w4,eE,te] at hi;obtain⟨j,aG,rfl,rfl⟩:=hi;have mI:=lG.1 aG;obtain⟨ER,X3⟩:=mI;simp at ER X3;subst X3;exact fG i ER) iV U
   simpa using this
  ·cases h
def avVar(P:Program)(n:Nat)(x:String×DataW Unit):Option (Nat×AV):=
 match P.globalNamed x.1 with
 |some g=>match P.globals[g]? with
  |some eF=>match shapeOf P eF.type,avCells P n eF.type x.2 with
   |some R,some l=>match packA R l with
    |some v=>some (g,v)
    |none=>none
   |_,_=>none
  |none=>none
 |none=>none
noncomputable def JM (l:List (Nat×AV)) (g:Nat):Option AV:=List.rec none (λe _ ar=>cond (Nat.beq e.1 g) (some e.2) ar) l
def X4{g:Nat}{v:AV}:∀ {l:List (Nat×AV)},JM l g=some v->(g,v)∈l
 |[],h=>by cases h
 |e::l,h=>by
  have h:cond (Nat.beq e.1 g) (some e.2) (JM l g)=some v:=h;cases h1:Nat.beq e.1 g with
  |false=>rw[h1,cond_false] at h;exact fP _ (X4 h)
  |true=>
   rw[h1,cond_true] at h;cases h;have:=eM h1;subst this;exact oq
def var?_heap{n:String}{g:Nat}{cs:Array Value}(hg:P.globalNamed n=some g)(h:w.var? P n=some cs):∃t a2,w.heap[g]? =some (.cells cs t a2):=by
 unfold World.var? at h;rw[hg] at h;simp only[Option.bind_some] at h;split at h<;>cases h;exact⟨_,_,by assumption⟩
def X5:∀ {laid:List (String×DataW Unit)} {aE:List MemPlace},DataW.LaidVars P w laid aE->∀x∈laid,∃g t cs fuel p,P.globalNamed x.1=some g/\(P.globals[g]?).map (·.type)=some t/\w.var? P x.1=some cs/\DataW.trod (λ_=>()) P w 0 (λ_=>true) false fuel t cs.toList=some (x.2,p)
 |[],_,_,x,hx=>by cases hx
 |y::laid,aE,ao,x,hx=>by
  obtain⟨iG,t0,oL,f0,p0,cM,BV,zz,ES,py,g4,_⟩:=ao;rcases eH.1 hx with rfl|hx
  ·exact⟨iG,t0,oL,f0,p0,BV,zz,ES,py⟩
  ·exact X5 g4 x hx
def b4A{n:Nat}{x:String×DataW Unit}{g:Nat}{v:AV}(h1:avVar P n x=some (g,v)){iG t0 f0:Nat}{oL:Array Value}{p0:List MemPlace}(BV:P.globalNamed x.1=some iG)(zz:(P.globals[iG]?).map (·.type)=some t0)
  (ES:w.var? P x.1=some oL) (py:DataW.trod (λ_=>()) P w 0 (λ_=>true) false f0 t0 oL.toList=some (x.2,p0)) (ej:Nat):
  az w (λ_=>none) (λb=>w.heap.size<=b) ej (.dk true v) (.pointer (some ⟨g,0,none⟩)):=by
 unfold avVar at h1;rw[BV] at h1;simp only[] at h1;cases X6:P.globals[iG]? with
 |none=>simp[X6] at h1
 |some X7=>
  simp only[X6] at h1 zz;simp only[H0,cw] at zz;subst zz;split at h1<;>try (cases h1;done)
  rename_i R tj ak iV;split at h1<;>cases h1;rename_i ay;obtain⟨a9,bt⟩:=X0 ej n f0 _ _ _ _ _ py iV;obtain⟨cW,eD⟩:=XZ ay bt;obtain⟨oB,a2,hh⟩:=var?_heap BV ES;have hlt:g<w.heap.size:=(yC.1 hh).1;refine .dk (λj=>(oL[j]?).getD undef) (by show ¬w.heap.size<=g;omega) hlt (λh=>by cases h) (λj aG=>?_) (λj aG=>?_) (by rw[eD];exact bt)
  ·rw[eD] at aG;have fj:j<oL.size:=by have:=a9.1;simp at this;omega
   unfold World.cell?;rw[hh];simp[fj]
  ·have mI:=aG;rw[eD] at mI;have fj:j<oL.size:=by have:=a9.1;simp at this;omega
   have:=a9.2 j mI (by simpa using fj);simp only[eD];simpa [fj] using this
def X8{n:Nat}{laid:List (String×DataW Unit)}{aE:List MemPlace}(ao:DataW.LaidVars P w laid aE):∀ {L:List (String×DataW Unit)} {eF:List (Nat×AV)},(∀x∈L,x∈laid)->mapOL (avVar P n) L=some eF→
  ∀g v,(g,v)∈eF->∀ej,az w (λ_=>none) (λb=>w.heap.size<=b) ej (.dk true v) (.pointer (some ⟨g,0,none⟩))
 |[],eF,_,h,g,v,hm=>by cases h;cases hm
 |x::L,eF,hL,h,g,v,hm=>by
  unfold mapOL at h;split at h<;>cases h;rename_i y a4 h1 h2;rcases eH.1 hm with rfl|hm
  ·intro ej;obtain⟨iG,t0,oL,f0,p0,BV,zz,ES,py⟩:=X5 ao x (hL x aT);exact b4A h1 BV zz ES py ej
  ·exact X8 ao (λx hx=>hL x (by simp[hx])) h2 g v hm
def globs_of_laid{env:Env}{laid:List (String×DataW Unit)}{n:Nat}{eF:List (Nat×AV)}(ao:laidMet P laid w)(names:List String)(h:mapOL (avVar P n) (laid.filter λx=>names.contains x.1)=some eF)(hg:env.mA=JM eF):Globs env w w.heap.size:=by
 obtain⟨aE,ao,_⟩:=ao;intro g v au ej;rw[hg] at au;exact X8 ao (λx hx=>(rJ.1 hx).1) h g v (X4 au) ej
end
end
section
variable [Tok][TokOk]
open Go.RowKit Go.ChangeShapes Go.WideShapes
def b4B{W W':World}{may:MemPlace->Prop}(aC:∀b,b<W.heap.size->W'.heap[b]? =W.heap[b]?)(kD:W'.os=W.os)(kE:W'.output=W.output):W.keptBut W' may:=by
 refine⟨kD,kE,λi hi=>?_⟩;rw[aC i hi];cases h:W.heap[i]? with
 |none=>rfl
 |some o=>
  cases o with
  |cells c t ai=>exact⟨rfl,rfl,rfl,λj _=>rfl⟩
  |map es clock=>exact .inr ⟨rfl,rfl⟩
  |_=>rfl
def byte_um{w:World}{m:Nat->Option Nat}{O:Nat->Prop}{B d:Nat}{x:Int}(hx:(Lit.int .u8 x).wf=true):az w m O B (.e3 .u8 d (x.toNat%d)) (.int .u8 x):=by
 have:=bounds_u8 hx;have e:Int.ofNat x.toNat=x:=by show((x.toNat:Nat):Int)=x;omega
 have:=az.e3 (w:=w) (m:=m) (O:=O) (B:=B) (k:=.u8) (d:=d) (j:=x.toNat%d) (n:=x.toNat) I U;rwa[e] at this
end
section
variable [Tok][TokOk]
open Go.RowKit
def df{α:Type}(f:Nat->Option (List α))(Q:α->Prop):Prop:=∃dZ l,l≠[]/\(∀F,dZ<=F->f F=some l)/\∀x∈l,Q x
def df.one{α:Type}{f:Nat->Option (List α)}{Q:α->Prop}{x:α}(h:∀F,f F=some [x])(aP:Q x):df f Q:=⟨0,[x],aT,λF _=>h F,λ_ aI=>by rw[dx.1 aI];exact aP⟩
def df.mono{α:Type}{f:Nat->Option (List α)}{Q l7:α->Prop}(h:df f Q)(aP:∀x,Q x->l7 x):df f l7:=let⟨dZ,l,h1,h2,h3⟩:=h;⟨dZ,l,h1,h2,λx hx=>aP x (h3 x hx)⟩
def df.congr{α:Type}{f g:Nat->Option (List α)}{Q:α->Prop}(h:df f Q)(e:∀F,g F=f F):df g Q:=let⟨dZ,l,h1,h2,h3⟩:=h;⟨dZ,l,h1,λF bB=>(e F).trans (h2 F bB),h3⟩
def df.succ{α:Type}{f g:Nat->Option (List α)}{Q:α->Prop}(h:df f Q)(e:∀F,g (F+1)=f F):df g Q:=
 let⟨dZ,l,h1,h2,h3⟩:=h
 ⟨dZ+1,l,h1,λF bB=>by obtain⟨k,rfl⟩:∃k,F=k+1:=⟨F-1,U⟩;exact(e k).trans (h2 k U),h3⟩
def b4C{α β:Type}(f:α->Option (List β))(x y:α)(t:List α):j6 f (x::y::t)=match f x with|none=>none|some a=>match j6 f (y::t) with|none=>none|some b=>some (a++b):=rfl
def df.flat{α β:Type}{g:α->Nat->Option (List β)}{Q:β->Prop}:∀(l:List α),l≠[]->(∀x∈l,df (g x) Q)->df (λF=>j6 (λx=>g x F) l) Q
 |[],h,_=>absurd I h
 |[x],_,h=>(h x aT).congr λF=>rfl
 |x::y::t,_,h=>by
  obtain⟨r3,tj,a9,db,hE⟩:=h x aT;obtain⟨xq,X9,bt,cK,jn⟩:=df.flat (g:=g) (Q:=Q) (y::t) aT (λz aZ=>h z (fP _ aZ));refine⟨max r3 xq,tj++X9,by simp[a9],λF bB=>?_,λz aZ=>?_⟩
  ·show j6 (λx=>g x F) (x::y::t)=_;have aV:j6 (λx=>g x F) (y::t)=some X9:=cK F U;rw[b4C,db F U,aV]
  ·rcases gN.1 aZ with aZ|aZ
   ·exact hE z aZ
   ·exact jn z aZ
def df.then{α β:Type}{f:Nat->Option (List α)}{g:α->Nat->Option (List β)}{Q:α->Prop}{l7:β->Prop}(h:df f Q)(hg:∀x,Q x->df (g x) l7):df (λF=>hP (f F) (λx=>g x F)) l7:=by
 obtain⟨dZ,l,h1,h2,h3⟩:=h;obtain⟨r3,bq,a,b,c⟩:=df.flat (g:=g) (Q:=l7) l h1 (λx hx=>hg x (h3 x hx));exact⟨max dZ r3,bq,a,λF bB=>by show hP (f F) _=_;rw[h2 F U];exact b F U,c⟩
abbrev r4:=hd->Fr->ag->Prop
def fI(env:Env)(floor:Nat)(aJ:Option Nat)(c:bC)(ai:Fr)(J:ag)(Q:r4):Prop:=df (λF=>exec env F floor aJ c ai J) (λo=>Q o.1 o.2.1 o.2.2)
def jR(env:Env)(floor:Nat)(dm:Bool)(ops:List aX)(ai:Fr)(J:ag)(Q:r4):Prop:=df (λF=>runOps env floor (callV env (exec env F) floor) dm ops ai J) (λo=>Q o.1 o.2.1 o.2.2)
def bw(env:Env)(floor:Nat)(bx:AV)(args:List AV)(J:ag)(Q:cQ->ag->Prop):Prop:=df (λF=>callV env (exec env F) floor bx args J) (λo=>Q o.1 o.2)
section
variable {env:Env}{floor:Nat}{aJ:Option Nat}{ai:Fr}{J:ag}{Q:r4}
def fI.mono{c:bC}{l7:r4}(h:fI env floor aJ c ai J Q)(aP:∀x ai J,Q x ai J->l7 x ai J):fI env floor aJ c ai J l7:=df.mono h λ_ ho=>aP _ _ _ ho
def fI.skip(h:Q .normal ai J):fI env floor aJ .skip ai J Q:=(df.one (f:=λF=>some [(hd.normal,ai,J)]) (Q:=λo=>Q o.1 o.2.1 o.2.2) (λ_=>rfl) h).succ λF=>by rw[oJ];rfl
def fI.ret(h:Q .ret ai J):fI env floor aJ .ret ai J Q:=(df.one (f:=λF=>some [(hd.ret,ai,J)]) (Q:=λo=>Q o.1 o.2.1 o.2.2) (λ_=>rfl) h).succ λF=>by rw[oJ];rfl
def fI.exit{id:Nat}(h:Q (.exit id) ai J):fI env floor aJ (.exit id) ai J Q:=(df.one (f:=λF=>some [(hd.exit id,ai,J)]) (Q:=λo=>Q o.1 o.2.1 o.2.2) (λ_=>rfl) h).succ λF=>by rw[oJ];rfl
def fI.region{ops:List aX}(h:jR env floor aJ.isNone ops ai J Q):fI env floor aJ (.region ops) ai J Q:=df.succ h λF=>by rw[oJ];rfl
def b4D(env:Env)(floor:Nat)(aJ:Option Nat)(b:bC)(Q:r4):r4:=λx ai J=>match x with| .normal=>fI env floor aJ b ai J Q|x=>Q x ai J
def fI.seq{a b:bC}(h:fI env floor aJ a ai J (b4D env floor aJ b Q)):fI env floor aJ (.seq a b) ai J Q:=by
 refine df.succ (df.then (g:=λx F=>A8 (exec env F) floor aJ b x) h λo ho=>?_) λF=>by rw[oJ];rfl
 obtain⟨x,bQ,af⟩:=o;cases x with
 |normal=>exact ho
 |exit i=>exact df.one (λ_=>rfl) ho
 |ret=>exact df.one (λ_=>rfl) ho
 |panic v=>exact df.one (λ_=>rfl) ho
def b4E(id:Nat)(Q:r4):r4:=λx ai J=>match x with| .exit j=>if j=id then Q .normal ai J else Q (.exit j) ai J|x=>Q x ai J
def fI.block{a:bC}{id:Nat}(h:fI env floor aJ a ai J (b4E id Q)):fI env floor aJ (.block id a) ai J Q:=by
 refine df.succ (df.then (g:=λx _=>Nv id x) h λo ho=>?_) λF=>by rw[oJ];rfl
 obtain⟨x,bQ,af⟩:=o;cases x with
 |normal=>exact df.one (λ_=>rfl) ho
 |exit i=>
  have ho:(if i=id then Q .normal bQ af else Q (.exit i) bQ af):=ho;by_cases hi:i=id
  ·subst hi;rw[if_pos I] at ho;refine df.one (x:=(.normal,bQ,af)) (λ_=>?_) ho;show cond (Nat.beq i i) _ _=_;rw[fE];rfl
  ·rw[if_neg hi] at ho;refine df.one (x:=(.exit i,bQ,af)) (λ_=>?_) ho;show cond (Nat.beq i id) _ _=_;rw[show Nat.beq i id=false from by cases hb:Nat.beq i id with|false=>rfl|true=>exact absurd (eM hb) hi];rfl
 |ret=>exact df.one (λ_=>rfl) ho
 |panic v=>exact df.one (λ_=>rfl) ho
def fI.cl{o:aH}{a b:bC}{t:Bool}(ho:evalA env ai.a5 o=some (.b t))(ht:t=true->fI env floor aJ a ai J Q)(hf:t=false->fI env floor aJ b ai J Q):fI env floor aJ (.cond o a b) ai J Q:=by
 cases t with
 |true=>
  refine df.succ (ht I) λF=>?_;rw[oJ];show(match evalA env ai.a5 o with|some (.b t)=>exec env F floor aJ (cond t a b) ai J|_=>none)=_;rw[ho];rfl
 |false=>
  refine df.succ (hf I) λF=>?_;rw[oJ];show(match evalA env ai.a5 o with|some (.b t)=>exec env F floor aJ (cond t a b) ai J|_=>none)=_;rw[ho];rfl
def fI.loop{a:bC}(dH:Nat->Fr->ag->Prop)(bz:∀m ai J,dH m ai J->fI env floor aJ a ai J (λx bQ af=>match x with| .normal=>∃aK,aK<m/\dH aK bQ af|x=>Q x bQ af)):∀m ai J,dH m ai J->fI env floor aJ (.loop a) ai J Q:=by
 intro m
 induction m using Nat.strongRecOn with
 |ind m ar=>
  intro ai J h;refine df.succ (df.then (g:=λx F=>A8 (exec env F) floor aJ (.loop a) x) (bz m ai J h) λo ho=>?_) λF=>by rw[oJ];rfl
  obtain⟨x,bQ,af⟩:=o;cases x with
  |normal=>obtain⟨aK,h1,h2⟩:=ho;exact ar aK h1 bQ af h2
  |exit i=>exact df.one (λ_=>rfl) ho
  |ret=>exact df.one (λ_=>rfl) ho
  |panic v=>exact df.one (λ_=>rfl) ho
def jR.nil{dm:Bool}(h:Q .normal ai J):jR env floor dm [] ai J Q:=df.one (λ_=>rfl) h
def jR.val{dm:Bool}{o:aX}{ops:List aX}{v:AV}{af:ag}(hw:wantedA o.guard ai.a5=true)(ho:opx floor (evalA env ai.a5) J o.op=some (.val v af))(h:jR env floor dm ops (ai.put o.dst v) af Q):jR env floor dm (o::ops) ai J Q:=
 df.congr h λF=>by rw[xa,hw,cond_true,ho]
def jR.off{dm:Bool}{o:aX}{ops:List aX}(hw:wantedA o.guard ai.a5=false)(h:jR env floor dm ops (ai.put o.dst c4) J Q):jR env floor dm (o::ops) ai J Q:=
 df.congr h λF=>by rw[xa,hw,cond_false]
def jR.call{dm:Bool}{o:aX}{ops:List aX}{bx:AV}{args:List AV}(hw:wantedA o.guard ai.a5=true)(ho:opx floor (evalA env ai.a5) J o.op=some (.call bx args))
  (h:bw env floor bx args J (λr af=>match r with| .ok v=>jR env floor dm ops (ai.put o.dst v) af Q| .err v=>Q (.panic v) ai af)):jR env floor dm (o::ops) ai J Q:=by
 refine df.congr (df.then (g:=λ(r:cQ×ag) F=>(match r with
     |(.ok v,J)=>runOps env floor (callV env (exec env F) floor) dm ops (ai.put o.dst v) J
     |(.err v,J)=>some [(.panic v,ai,J)])) h λr al=>?_) λF=>by rw[xa,hw,cond_true,ho]<;>rfl
 obtain⟨r,af⟩:=r;cases r with
 |ok v=>exact al
 |err v=>exact df.one (λ_=>rfl) al
def bw.spec{g:Nat}{first cap args aB:List AV}{r:AV}{Q:cQ->ag->Prop}(he:env.ext g=0)(ay:env.pure g=true)(ha:mapO (bp J env.a2) (first++args++cap)=some aB)(ak:env.spec g aB=some r)(h:Q (.ok r) J):
  bw env floor (.f (.func g) first cap) args J Q:=by
 refine df.one (x:=(.ok r,J)) (λF=>?_) h;show callF env (exec env F) floor g (first++args++cap) J=_;unfold callF;rw[he];show cond (env.pure g) _ _=_;rw[ay,cond_true,ha];show(match env.spec g aB with|some r=>_|none=>_)=_;rw[ak]
def PQ(env:Env)(floor:Nat)(fn:bP)(Q:cQ->ag->Prop):r4:=λx ai J=>∃r af,endF env floor fn (x,ai,J)=some [(r,af)]/\Q r af
def bw.run{g:Nat}{first cap args:List AV}{fn:bP}{body:bC}{Q:cQ->ag->Prop}(he:env.ext g=0)(ay:env.pure g=false)(hf:env.funcs g=some fn)(hb:fn.body=some body)
  (hn:(Nat.beq (first++args++cap).length fn.ig&&Nat.ble (first++args++cap).length fn.ntmps)=true) (h:fI env floor none body (pe fn (first++args++cap)) J (PQ env floor fn Q)):bw env floor (.f (.func g) first cap) args J Q:=by
 refine df.congr (df.then (g:=λx _=>endF env floor fn x) h λo ho=>?_) λF=>?_
 ·obtain⟨r,af,h1,h2⟩:=ho;exact df.one (λ_=>h1) h2
 ·show callF env (exec env F) floor g (first++args++cap) J=_;unfold callF;rw[he];show cond (env.pure g) _ _=_;rw[ay,cond_false];unfold runF;rw[hf];show(match fn.body with|none=>none|some body=>_)=_;rw[hb];show cond _ _ _=_;rw[hn,cond_true]
def dg{α β:Type}(f:α->Option β)(x:α)(l:List α):mapO f (x::l)=match f x with|none=>none|some y=>match mapO f l with|none=>none|some a4=>some (y::a4):=rfl
def PR{f g:AV->Option AV}(h:∀x y,f x=some y->g x=some y):∀ {l r:List AV},mapO f l=some r->mapO g l=some r
 |[],r,e=>e
 |x::l,r,e=>by
  rw[dg] at e ⊢;cases hx:f x with
  |none=>rw[hx] at e;cases e
  |some y=>
   rw[hx] at e;cases ao:mapO f l with
   |none=>rw[ao] at e;cases e
   |some a4=>rw[ao] at e;rw[h x y hx,PR h ao];exact e
def X_{J:ag}{base:Nat}:∀(n:Nat) (v r:AV),freeze J base n v=some r->freeze J base (n+1) v=some r
 |0,_,_,h=>by cases h
 |n+1,v,r,h=>by
  have ar:=X_ (J:=J) (base:=base) n;have iQ:∀ {l bq:List AV},mapO (freeze J base n) l=some bq->mapO (freeze J base (n+1)) l=some bq:=PR ar;rw[freeze_succ] at h;rw[freeze_succ];split at h
  ·split at h<;>try (cases h;done)
   rename_i hb;rw[if_neg hb];split at h<;>try (cases h;done)
   rename_i xs ed;split at h<;>cases h;rename_i a4 zi;simp only[ed,iQ zi]
  ·split at h<;>cases h;rename_i a4 zi;simp only[iQ zi]
  ·split at h<;>cases h;rename_i a4 zi;simp only[iQ zi]
  ·split at h<;>cases h;rename_i y aI;simp only[ar _ _ aI]
  ·cases h
  ·cases h
  ·cases h
  ·cases h
  ·exact h
def Ya{J:ag}{base n m:Nat}(hn:n<=m){v r:AV}(h:freeze J base n v=some r):freeze J base m v=some r:=by
 obtain⟨k,rfl⟩:∃k,m=n+k:=⟨m-n,U⟩
 induction k with
 |zero=>exact h
 |succ k ar=>exact X_ _ _ _ (ar U)
def Yb{f g:AV->AV->Bool}(h:∀x y,f x y=true->g x y=true):∀ {l r:List AV},fv f l r=true->fv g l r=true
 |[],[],e=>e
 |[],_::_,e=>by cases e
 |_::_,[],e=>by cases e
 |x::l,y::r,e=>by
  have e:cond (f x y) (fv f l r) false=true:=e;show cond (g x y) (fv g l r) false=true;cases hx:f x y with
  |false=>rw[hx] at e;cases e
  |true=>rw[hx] at e;rw[h x y hx];exact Yb h e
def Yc:∀(n:Nat) (x y:AV),AV.eqb n x y=true->AV.eqb (n+1) x y=true
 |0,_,_,h=>by cases h
 |n+1,x,y,h=>by
  have ar:=Yc n;have iQ:∀ {l r:List AV},fv (AV.eqb n) l r=true->fv (AV.eqb (n+1)) l r=true:=Yb ar;have e:=AV.qF _ _ _ h;subst e;cases x
  case aR o R xs=>
   have h:((o==o)&&decide (R=R)&&fv (AV.eqb n) xs xs)=true:=h;show((o==o)&&decide (R=R)&&fv (AV.eqb (n+1)) xs xs)=true;simp only[c7] at h ⊢;exact⟨h.1,iQ h.2⟩
  case dk o v=>
   have h:((o==o)&&AV.eqb n v v)=true:=h;show((o==o)&&AV.eqb (n+1) v v)=true;simp only[c7] at h ⊢;exact⟨h.1,ar _ _ h.2⟩
  case f b7 a c=>
   have h:(decide (b7=b7)&&(fv (AV.eqb n) a a&&fv (AV.eqb n) c c))=true:=h;show(decide (b7=b7)&&(fv (AV.eqb (n+1)) a a&&fv (AV.eqb (n+1)) c c))=true;simp only[c7] at h ⊢;exact⟨h.1,iQ h.2.1,iQ h.2.2⟩
  case it t v=>
   have h:(Nat.beq t t&&AV.eqb n v v)=true:=h;show(Nat.beq t t&&AV.eqb (n+1) v v)=true;simp only[c7] at h ⊢;exact⟨h.1,ar _ _ h.2⟩
  case p a=>cases a<;>exact h
  case m a=>cases a<;>exact h
  case ad l=>exact iQ (l:=l) (r:=l) h
  case a6 l=>exact iQ (l:=l) (r:=l) h
  all_goals exact h
def b4F{n m:Nat}(hn:n<=m){x y:AV}(h:AV.eqb n x y=true):AV.eqb m x y=true:=by
 obtain⟨k,rfl⟩:∃k,m=n+k:=⟨m-n,U⟩
 induction k with
 |zero=>exact h
 |succ k ar=>exact Yc _ _ _ (ar U)
def iI{α:Type}{p:α->Bool}:∀ {l:List α},(∀y∈l,p y=true)->cB p l=true
 |[],_=>rfl
 |y::t,h=>by
  show cond (p y) (cB p t) false=true;rw[h y aT,cond_true];exact iI λz aZ=>h z (fP _ aZ)
def JN{P:Program}{m:Nat}(hm:m<=env.a2)(fS:px P env)(ei:zx P env)(hex:tk P env)(jQ:P.follows .mixedOrders=true){g:Nat}{fn:bP}{body:bC}{aB:List AV}{r:AV}(hf:env.funcs g=some fn)(hb:fn.body=some body)
  (hn:(Nat.beq aB.length fn.ig&&Nat.ble aB.length fn.ntmps)=true) {ai:Nat} (al:gI ai r=true)
  (h:fI env 0 none body (pe fn aB) ⟨.nil,0⟩ (PQ env 0 fn (λv af=>∃a_,v= .ok a_/\freeze af 0 m a_=some r))) (hG:AV.eqb m r r=true) (bN:Nat):SpecEntry P env bN g aB r:=by
 have h1:df (λF=>hP (exec env F 0 none body (pe fn aB) ⟨.nil,0⟩) (endF env 0 fn)) (λo=>∃a_,o.1= .ok a_/\freeze o.2 0 m a_=some r):=
  df.then (g:=λx _=>endF env 0 fn x) h λo ho=>by
   obtain⟨v,af,h1,h2⟩:=ho;exact df.one (λ_=>h1) h2
 obtain⟨dZ,l,ao,h2,h3⟩:=h1;have b5:runF env (exec env dZ) 0 g aB ⟨.nil,0⟩=some l:=by
  unfold runF;rw[hf];show(match fn.body with|none=>none|some body=>_)=_;rw[hb];show cond _ _ _=_;rw[hn,cond_true];exact h2 dZ (b6 _)
 refine XR (a2:=env.a2) fS ei hex jQ b5 ?_ al bN;cases l with
 |nil=>exact absurd I ao
 |cons x t=>
  obtain⟨v,aN,bY⟩:=h3 x aT;obtain⟨cU,ey⟩:=x;have aN:cU= .ok v:=aN;replace bY:freeze ey 0 env.a2 v=some r:=Ya hm bY;subst aN;show(match freeze ey 0 env.a2 v with|none=>none|some v1=>cond (cB (yL env.a2 0 v1) t) (some v1) none)=_;rw[bY];have:cB (yL env.a2 0 r) t=true:=by
   have NL:∀y∈t,yL env.a2 0 r y=true:=λy aI=>by
    obtain⟨w,cf,gh⟩:=h3 y (fP _ aI);obtain⟨j5,nm⟩:=y;have cf:j5= .ok w:=cf;replace gh:freeze nm 0 env.a2 w=some r:=Ya hm gh;subst cf;show(match freeze nm 0 env.a2 w with|some bf=>AV.eqb env.a2 bf r|none=>false)=true;rw[gh];exact b4F hm hG
   exact iI NL
  show cond (cB (yL env.a2 0 r) t) (some r) none=_;rw[this];rfl
end
def cY(f:Nat->AV)(d:Nat)(v:AV):Nat->AV:=λi=>cond (Nat.beq i d) v (f i)
structure g6(D:List (Nat ⊕ (AV×List AV)))(n:Nat)(f:Nat->AV)(ai:Fr):Prop where
 get:∀i,ai.a5.get i=if i<n then some (f i) else none
 ds:ai.defers=D
 rc:ai.fh=false
def g6.put{D:List (Nat ⊕ (AV×List AV))}{n d:Nat}{f:Nat->AV}{ai:Fr}(h:g6 D n f ai)(v:AV)(an:Nat.blt d n=true):g6 D n (cY f d v) (ai.put (some d) v):=by
 have an:d<n:=eb an;refine⟨λi=>?_,h.ds,h.rc⟩;show(ai.a5.set d v).get i=_;rw[aY.ji,h.get d,h.get i,if_pos an];by_cases hi:i=d
 ·subst hi;rw[if_pos I,if_pos an];show some v=some (cond (Nat.beq i i) v (f i));rw[fE];rfl
 ·rw[if_neg hi];have:cY f d v i=f i:=by
   show cond (Nat.beq i d) v (f i)=f i;cases hb:Nat.beq i d with
   |false=>rfl
   |true=>exact absurd (eM hb) hi
  rw[this]
def dc(env:Env)(n:Nat)(f:Nat->AV):aH->Option AV
 | .t i=>cond (Nat.blt i n) (some (f i)) none
 | .c v=>some v
 | .g g=>match env.mA g with|some v=>some (.dk true v)|none=>none
def g6.av{D:List (Nat ⊕ (AV×List AV))}{n:Nat}{f:Nat->AV}{ai:Fr}(h:g6 D n f ai)(env:Env):evalA env ai.a5=dc env n f:=by
 funext x
 cases x with
 |t i=>
  show ai.a5.get i=cond (Nat.blt i n) (some (f i)) none;rw[h.get];by_cases hi:i<n
  ·rw[if_pos hi,show Nat.blt i n=true from hO hi];rfl
  ·rw[if_neg hi,show Nat.blt i n=false from by cases hb:Nat.blt i n with|false=>rfl|true=>exact absurd (eb hb) hi];rfl
 |c v=>rfl
 |g g=>rfl
def gj(g:Option (Nat×Bool))(n:Nat)(f:Nat->AV):Bool:=
 match g with
 |none=>true
 |some (d,w)=>cond (Nat.blt d n) (match f d with| .b x=>x==w|_=>false) false
def g6.wanted{D:List (Nat ⊕ (AV×List AV))}{n:Nat}{f:Nat->AV}{ai:Fr}(h:g6 D n f ai)(g:Option (Nat×Bool)):wantedA g ai.a5=gj g n f:=by
 cases g with
 |none=>rfl
 |some p=>
  obtain⟨d,w⟩:=p;show(match ai.a5.get d with|some (.b x)=>x==w|_=>false)=cond (Nat.blt d n) _ false;rw[h.get];by_cases hi:d<n
  ·rw[if_pos hi,show Nat.blt d n=true from hO hi,cond_true];cases f d<;>rfl
  ·rw[if_neg hi,show Nat.blt d n=false from by cases hb:Nat.blt d n with|false=>rfl|true=>exact absurd (eb hb) hi];rfl
abbrev eR:=hd->(Nat->AV)->ag->Prop
def BW(D:List (Nat ⊕ (AV×List AV)))(n:Nat)(Q:eR):r4:=λx ai J=>∃f,g6 D n f ai/\Q x f J
def ch(env:Env)(aJ:Option Nat)(D:List (Nat ⊕ (AV×List AV)))(n:Nat)(c:bC)(f:Nat->AV)(J:ag)(Q:eR):Prop:=∀ai,g6 D n f ai->fI env 0 aJ c ai J (BW D n Q)
def dE(env:Env)(aJ:Option Nat)(D:List (Nat ⊕ (AV×List AV)))(n:Nat)(ops:List aX)(f:Nat->AV)(J:ag)(Q:eR):Prop:=∀ai,g6 D n f ai->jR env 0 aJ.isNone ops ai J (BW D n Q)
abbrev aa(env:Env):=ch env none []
section
variable {env:Env}{aJ:Option Nat}{D:List (Nat ⊕ (AV×List AV))}{n:Nat}{f:Nat->AV}{J:ag}{Q:eR}
def ch.mono{c:bC}{l7:eR}(h:ch env aJ D n c f J Q)(aP:∀x f J,Q x f J->l7 x f J):ch env aJ D n c f J l7:=λai bE=>(h ai bE).mono λ_ _ _ ⟨f,h1,h2⟩=>⟨f,h1,aP _ _ _ h2⟩
def aa.mono{c:bC}{l7:eR}(h:aa env n c f J Q)(aP:∀x f J,Q x f J->l7 x f J):aa env n c f J l7:=ch.mono h aP
def aa.skip(h:Q .normal f J):ch env aJ D n .skip f J Q:=λ_ bE=>fI.skip ⟨f,bE,h⟩
def aa.ret(h:Q .ret f J):ch env aJ D n .ret f J Q:=λ_ bE=>fI.ret ⟨f,bE,h⟩
def aa.exit{id:Nat}(h:Q (.exit id) f J):ch env aJ D n (.exit id) f J Q:=λ_ bE=>fI.exit ⟨f,bE,h⟩
def aa.region{ops:List aX}(h:dE env aJ D n ops f J Q):ch env aJ D n (.region ops) f J Q:=λai bE=>fI.region (h ai bE)
def aa.seq{a b:bC}(h:ch env aJ D n a f J (λx f J=>match x with| .normal=>ch env aJ D n b f J Q|x=>Q x f J)):ch env aJ D n (.seq a b) f J Q:=λai bE=>fI.seq ((h ai bE).mono λx ai J ⟨f,h1,h2⟩=>by
 cases x with
 |normal=>exact h2 ai h1
 |exit i=>exact⟨f,h1,h2⟩
 |ret=>exact⟨f,h1,h2⟩
 |panic v=>exact⟨f,h1,h2⟩)
def aa.block{a:bC}{id:Nat}(h:ch env aJ D n a f J (λx f J=>match x with| .exit j=>cond (Nat.beq j id) (Q .normal f J) (Q (.exit j) f J)|x=>Q x f J)):ch env aJ D n (.block id a) f J Q:=λai bE=>fI.block ((h ai bE).mono λx ai J ⟨f,h1,h2⟩=>by
 cases x with
 |normal=>exact⟨f,h1,h2⟩
 |exit i=>
  have h2:cond (Nat.beq i id) (Q .normal f J) (Q (.exit i) f J):=h2;show if i=id then BW D n Q .normal ai J else BW D n Q (.exit i) ai J
  cases hb:Nat.beq i id with
  |false=>rw[if_neg (λh=>by rw[h,fE] at hb;cases hb)];rw[hb] at h2;exact⟨f,h1,h2⟩
  |true=>rw[if_pos (eM hb)];rw[hb] at h2;exact⟨f,h1,h2⟩
 |ret=>exact⟨f,h1,h2⟩
 |panic v=>exact⟨f,h1,h2⟩)
def aa.cl{o:aH}{a b:bC}{t:Bool}(ho:dc env n f o=some (.b t))(ht:t=true->ch env aJ D n a f J Q)(hf:t=false->ch env aJ D n b f J Q):ch env aJ D n (.cond o a b) f J Q:=λai bE=>
 fI.cl (by rw[bE.av];exact ho) (λh=>ht h ai bE) (λh=>hf h ai bE)
def aa.loop{a:bC}(dH:Nat->(Nat->AV)->ag->Prop)(bz:∀m f J,dH m f J->ch env aJ D n a f J (λx bD af=>match x with| .normal=>∃aK,aK<m/\dH aK bD af|x=>Q x bD af))(m:Nat)(h:dH m f J):ch env aJ D n (.loop a) f J Q:=λai bE=>
 fI.loop (Q:=BW D n Q) (λm ai J=>∃f,g6 D n f ai/\dH m f J) (λm ai J ⟨f,h1,h2⟩=>(bz m f J h2 ai h1).mono λx bQ af ⟨bD,h3,aN⟩=>by
  cases x with
  |normal=>obtain⟨aK,bY,cf⟩:=aN;exact⟨aK,bY,bD,h3,cf⟩
  |exit i=>exact⟨bD,h3,aN⟩
  |ret=>exact⟨bD,h3,aN⟩
  |panic v=>exact⟨bD,h3,aN⟩) m ai J ⟨f,bE,h⟩
def ab.nil(h:Q .normal f J):dE env aJ D n [] f J Q:=λ_ bE=>jR.nil ⟨f,bE,h⟩
def ab.val{d:Nat}{op:AOp}{g:Option (Nat×Bool)}{wn:List Nat}{ops:List aX}{v:AV}{af:ag}(an:Nat.blt d n=true)(hw:gj g n f=true)(ho:opx 0 (dc env n f) J op=some (.val v af))(h:dE env aJ D n ops (cY f d v) af Q):
  dE env aJ D n (⟨some d,op,g,wn⟩::ops) f J Q:=λai bE=>jR.val (by rw[bE.wanted];exact hw) (by rw[bE.av];exact ho) (h _ (bE.put v an))
def ab.qG{op:AOp}{g:Option (Nat×Bool)}{wn:List Nat}{ops:List aX}{v:AV}{af:ag}(hw:gj g n f=true)(ho:opx 0 (dc env n f) J op=some (.val v af))(h:dE env aJ D n ops f af Q):
  dE env aJ D n (⟨none,op,g,wn⟩::ops) f J Q:=λai bE=>jR.val (by rw[bE.wanted];exact hw) (by rw[bE.av];exact ho) (h _ bE)
def ab.off{d:Nat}{op:AOp}{g:Option (Nat×Bool)}{wn:List Nat}{ops:List aX}(an:Nat.blt d n=true)(hw:gj g n f=false)(h:dE env aJ D n ops (cY f d c4) J Q):
  dE env aJ D n (⟨some d,op,g,wn⟩::ops) f J Q:=λai bE=>jR.off (by rw[bE.wanted];exact hw) (h _ (bE.put _ an))
def ab.spec{d:Nat}{op:AOp}{g:Option (Nat×Bool)}{wn:List Nat}{ops:List aX}{fn:Nat}{args aB:List AV}{r:AV}(an:Nat.blt d n=true)(hw:gj g n f=true)(ho:opx 0 (dc env n f) J op=some (.call (.f (.func fn) [] []) args))
  (he:env.ext fn=0) (ay:env.pure fn=true) (ha:mapO (bp J env.a2) args=some aB) (ak:env.spec fn aB=some r) (h:dE env aJ D n ops (cY f d r) J Q):dE env aJ D n (⟨some d,op,g,wn⟩::ops) f J Q:=λai bE=>
 jR.call (by rw[bE.wanted];exact hw) (by rw[bE.av];exact ho) (bw.spec he ay (by simpa using ha) ak (h _ (bE.put r an)))
end
def sat:List (Nat×AV)->(Nat->AV)->Prop
 |[],_=>True
 |(i,v)::L,f=>f i=v/\sat L f
def b4:List (Nat×AV)->(Nat->AV)->Nat->AV
 |[],f=>f
 |(i,v)::L,f=>cY (b4 L f) i v
def b4G{f:Nat->AV}{i:Nat}{v:AV}(h:f i=v):cY f i v=f:=by
 funext j
 show cond (Nat.beq j i) v (f j)=f j;cases hb:Nat.beq j i with
 |false=>rfl
 |true=>rw[eM hb,h];rfl
def BX:∀ {L:List (Nat×AV)} {f:Nat->AV},sat L f->b4 L f=f
 |[],_,_=>rfl
 |(i,v)::L,f,⟨h1,h2⟩=>by
  show cY (b4 L f) i v=f;rw[BX h2,b4G h1]
def aa.norm{env:Env}{aJ:Option Nat}{D:List (Nat ⊕ (AV×List AV))}{n:Nat}{c:bC}{f:Nat->AV}{J:ag}{Q:eR}(L:List (Nat×AV))(ak:sat L f)(h:∀g,ch env aJ D n c (b4 L g) J Q):ch env aJ D n c f J Q:=by
 rw[<-BX ak];exact h f
section
variable {floor:Nat}{av:aH->Option AV}{J:ag}
def lp{R:Option Nat}{a:aH}(p v:AV)(h1:av a=some p)(h2:sY J R p=some v):opx floor av J (.load R a)=some (.val v J):=by
 show(match av a with|some p=>(match sY J R p with|some v=>some (bH.val v J)|none=>none)|none=>none)=_;rw[h1];show(match sY J R p with|some v=>some (bH.val v J)|none=>none)=_;rw[h2]
def l8{R:Option Nat}{id off:Nat}{c:List AV}{v:AV}(h1:J.get id=some (.cells c))(h2:dB R (c.drop off)=some v):sY J R (.p (some (id,off)))=some v:=by
 show(match J.get id with|some (.cells c)=>dB R (c.drop off)|_=>none)=_;rw[h1];exact h2
def PS{R:Option Nat}{x i:aH}(k:IntKind)(a:AV)(j:Nat)(v:AV)(h1:av x=some a)(h2:av i=some (.i k (Int.ofNat j)))(h3:idxSlA R a j=some v):opx floor av J (.dr R x i)=some (.val v J):=by
 show(match av x,av i with|some x,some j=>(match natOf j with|some j=>(match idxSlA R x j with|some v=>some (bH.val v J)|none=>none)|none=>none)|_,_=>none)=_;rw[h1,h2];show(match idxSlA R a j with|some v=>some (bH.val v J)|none=>none)=_;rw[h3]
def Yd{o:Bool}{R:Option Nat}{xs:List AV}{j:Nat}{v:AV}(h:nth xs j=some v):idxSlA R (.aR o R xs) j=some (.dk o v):=by
 show(if R=R then(match nth xs j with|some v=>some (AV.dk o v)|none=>none) else none)=_;rw[if_pos I,h]
def ET{op:BinOp}{x y:aH}(a b v:AV)(h1:av x=some a)(h2:av y=some b)(h3:binop op a b=some v):opx floor av J (.bin op x y)=some (.val v J):=by
 show(match av x,av y with|some a,some b=>(match binop op a b with|some v=>some (bH.val v J)|none=>none)|_,_=>none)=_;rw[h1,h2];show(match binop op a b with|some v=>some (bH.val v J)|none=>none)=_;rw[h3]
end
abbrev aw(n:Nat):AV:=.i .i64 (Int.ofNat n)
def vp(a b:Nat):Nat:=a ^^^ (a &&& b)
def b4H(a b:Nat){k:Nat}(h:a<2^k):vp a b<2^k:=Nat.xor_lt_two_pow h (Dn Nat.and_le_left h)
def Ye{α:Type}:∀(l:List α) (k:Nat) (t:aY α) (i:Nat),(aY.lay l k t).get i=if k<=i then(match l[i-k]? with|some x=>(t.get i).map (λ_=>x)|none=>t.get i) else t.get i
 |[],k,t,i=>by
  show t.get i=_;split<;>simp
 |x::l,k,t,i=>by
  show(aY.lay l (k+1) (t.set k x)).get i=_;rw[Ye l (k+1) (t.set k x) i,aY.ji];by_cases h1:k+1<=i
  ·have h2:k<=i:=by omega
   have h3:i≠k:=by omega
   have aN:(x::l)[i-k]? =l[i-(k+1)]? :=by
    rw[show i-k=(i-(k+1))+1 from by omega];rfl
   rw[if_pos h1,if_pos h2,if_neg h3,aN]
  ·rw[if_neg h1];by_cases h2:i=k
   ·subst h2;rw[if_pos I,if_pos (b6 _),wN];rfl
   ·rw[if_neg h2,if_neg U]
def eh(args:List AV):Nat->AV:=λi=>args.getD i c4
def qK{fn:bP}{args:List AV}(h:args.length<=fn.ntmps):g6 [] fn.ntmps (eh args) (pe fn args):=by
 refine⟨λi=>?_,rfl,rfl⟩;show(aY.lay args 0 (aY.full fn.ntmps c4 fn.ntmps)).get i=_;rw[Ye,if_pos (kA _),Nat.sub_zero];by_cases hi:i<fn.ntmps
 ·rw[if_pos hi,aY.Il _ _ _ _ hi (b6 _)];show _=some (args.getD i c4);rw[nQ];cases args[i]? <;>rfl
 ·rw[if_neg hi,Wd U];cases hg:(aY.full fn.ntmps c4 fn.ntmps).get i with
  |none=>rfl
  |some y=>exact absurd (aY.Im _ _ _ _ _ hg).2 hi
def Yf{env:Env}{floor:Nat}{fn:bP}{n d:Nat}{f:Nat->AV}{ai:Fr}{J:ag}(h1:g6 [] n f ai)(dh:fn.results=[(d,none)])(an:Nat.blt d n=true):endF env floor fn (.ret,ai,J)=some [(.ok (f d),J)]:=by
 show(match leave floor (callD env floor) ai.defers none J with
  |none=>none
  |some (some v,J)=>some [(cQ.err v,J)]
  |some (none,J)=>match resultsOf J ai.a5 fn.results with
   |some v=>some [(.ok v,J)]
   |none=>none)=_
 rw[h1.ds];show(match resultsOf J ai.a5 fn.results with|some v=>some [(cQ.ok v,J)]|none=>none)=_;rw[dh];have hg:=h1.get d;have EU:d<n:=eb an;rw[if_pos EU] at hg;have:resultsOf J ai.a5 [(d,none)]=some (f d):=by
  unfold resultsOf;have aF:resultOf J ai.a5 (d,none)=some (f d):=by
   unfold resultOf;rw[hg]
  have e:mapO (resultOf J ai.a5) [(d,none)]=some [f d]:=by
   unfold mapO;simp only[aF]
  rw[e]
 rw[this]
def b4I{P:Program}{env:Env}{m:Nat}(hm:m<=env.a2)(fS:px P env)(ei:zx P env)(hex:tk P env)(jQ:P.follows .mixedOrders=true){g:Nat}{fn:bP}{body:bC}{aB:List AV}{d:Nat}(r:AV)(hf:env.funcs g=some fn)(hb:fn.body=some body)
  (hn:(Nat.beq aB.length fn.ig&&Nat.ble aB.length fn.ntmps)=true) (dh:fn.results=[(d,none)]) (an:Nat.blt d fn.ntmps=true) {ai:Nat} (al:gI ai r=true) (hG:AV.eqb m r r=true)
  (h:aa env fn.ntmps body (eh aB) ⟨.nil,0⟩ (λx f af=>x= .ret/\freeze af 0 m (f d)=some r)) (bN:Nat):SpecEntry P env bN g aB r:=by
 have hle:aB.length<=fn.ntmps:=by
  simp only[c7] at hn;exact eb hn.2
 refine JN hm fS ei hex jQ hf hb hn al ((h _ (qK hle)).mono λx ai af ⟨f,h1,h2,h3⟩=>?_) hG bN;subst h2;exact⟨.ok (f d),af,Yf h1 dh an,_,rfl,h3⟩
open Classical in
def EV(K:Nat->List AV->AV->Prop):Nat->List AV->Option AV:=λg aB=>if h:∃r,K g aB r then some (Classical.choose h) else none
def PT{K:Nat->List AV->AV->Prop}(hf:∀g aB r bS,K g aB r->K g aB bS->r=bS){g:Nat}{aB:List AV}{r:AV}(h:K g aB r):EV K g aB=some r:=by
 have hex:∃r,K g aB r:=⟨r,h⟩
 unfold EV;rw[dif_pos hex];exact congrArg some (hf g aB _ _ (JD hex) h)
def EW{K:Nat->List AV->AV->Prop}{g:Nat}{aB:List AV}{r:AV}(h:EV K g aB=some r):K g aB r:=by
 unfold EV at h;split at h
 ·rename_i hex;cases h;exact JD hex
 ·cases h
def b8.aQ(b:b8)(K:Nat->List AV->AV->Prop):Env:={funcs:=b.funcs.get,mA:=b.mA,pure:=b.pure,spec:=EV K,a2:=b.a2+1000,ext:=b.ext,qk:=b.qk}
def vq(P:Program)(b:b8)(K:Nat->List AV->AV->Prop):Prop:=∀g aB r,K g aB r->∀bN,SpecEntry P (b.env []) bN g aB r
def k5{P:Program}{b:b8}{K:Nat->List AV->AV->Prop}(hb:jb P b)(eg:vq P b K){g:Nat}{fn:bP}{body:bC}{aB:List AV}{d:Nat}(r:AV)(hf:b.funcs.get g=some fn)(iC:fn.body=some body)
  (hn:(Nat.beq aB.length fn.ig&&Nat.ble aB.length fn.ntmps)=true) (dh:fn.results=[(d,none)]) (an:Nat.blt d fn.ntmps=true) {ai:Nat} (al:gI ai r=true) (hG:AV.eqb 1000 r r=true)
  (h:aa (b.aQ K) fn.ntmps body (eh aB) ⟨.nil,0⟩ (λx f af=>x= .ret/\freeze af 0 1000 (f d)=some r)) (bN:Nat):SpecEntry P (b.env []) bN g aB r:=
 b4I (env:=b.aQ K) (m:=1000) (BS _ _) ⟨λg bG hg=>pF.zy hb.funcs g bG hg⟩ (λbN g aB r ak=>eg g aB r (EW ak) bN) hb.ext hb.vo r hf iC hn dh an al hG h bN
def runDraw(env:Env)(floor:Nat)(call:kY)(ops:List aX):Fr->List ag->List kZ->ag->Option jh:=
 List.rec (λai bR ws J=>some (ai,bR,ws,J)) (λo _ ar ai bR ws J=>
  cond (wantedA o.guard ai.a5)
   (match opx floor (evalA env ai.a5) J o.op with
    |some (.val v af)=>ar (ai.put o.dst v) (J::bR) (match o.je with|[]=>ws|_::_=>(o,ai.a5,v)::ws) af
    |some (.call bx args)=>match call bx args J with
     |some [(.ok v,af)]=>ar (ai.put o.dst v) (J::bR) ws af
     |_=>none
    |_=>none)
   (ar (ai.put o.dst c4) (J::bR) ws J)) ops
def r5{env:Env}{f:Nat}{call:kY}(o:aX)(pl:List aX)(ai:Fr)(bR:List ag)(ws:List kZ)(J:ag):runDraw env f call (o::pl) ai bR ws J=
  cond (wantedA o.guard ai.a5)
   (match opx f (evalA env ai.a5) J o.op with
    |some (.val v af)=>runDraw env f call pl (ai.put o.dst v) (J::bR) (match o.je with|[]=>ws|_::_=>(o,ai.a5,v)::ws) af
    |some (.call bx args)=>match call bx args J with
     |some [(.ok v,af)]=>runDraw env f call pl (ai.put o.dst v) (J::bR) ws af
     |_=>none
    |_=>none)
   (runDraw env f call pl (ai.put o.dst c4) (J::bR) ws J):=rfl
def JO{env:Env}{f:Nat}{call:kY}:∀ {pl:List aX} {ai:Fr} {bR:List ag} {ws:List kZ} {J:ag} {x:jh},runDraw env f call pl ai bR ws J=some x->runDraws env f call pl ai bR ws J=some [x]
 |[],_,_,_,_,_,h=>by cases h;rfl
 |o::pl,ai,bR,ws,J,x,h=>by
  rw[r5] at h;rw[runDraws_cons];cases hw:wantedA o.guard ai.a5 with
  |false=>rw[hw] at h;exact JO h
  |true=>
   rw[hw,cond_true] at h;rw[cond_true];cases hx:opx f (evalA env ai.a5) J o.op with
   |none=>rw[hx] at h;cases h
   |some r=>
    rw[hx] at h;cases r with
    |val v af=>exact JO h
    |call bx args=>
     simp only[] at h ⊢;cases ae:call bx args J with
     |none=>rw[ae] at h;cases h
     |some l=>
      rw[ae] at h;cases l with
      |nil=>cases h
      |cons y t=>
       obtain⟨j5,nm⟩:=y;cases t with
       |cons z t=>cases j5<;>cases h
       |nil=>cases j5 with
        |ok v=>exact JO h
        |err v=>cases h
    |iP bx args=>cases h
    |panic v=>cases h
    |g3 l=>cases h
def Yg{env:Env}{k:Nat}{aJ:Option Nat}{ops:List aX}{ai bQ:Fr}{J af:ag}{bR:List ag}{ws:List kZ}(h:runDraw env 0 (callV env (exec env k) 0) ops ai [] [] J=some (bQ,bR,ws,af))(cR:ws.all (steady env 0 (af::bR).reverse)=true)(BT:swapOk env bQ.a5 ops=true):exec env (k+1) 0 aJ (bC.draw ops) ai J=some [(.normal,bQ,af)]:=by
 rw[oJ];show(match runDraws env 0 (callV env (exec env k) 0) ops ai [] [] J with|some l=>mapO (drawn env 0 ops) l|none=>none)=_;rw[JO h];have an:drawn env 0 ops (bQ,bR,ws,af)=some (.normal,bQ,af):=by
  unfold drawn;rw[cR,BT];rfl
 show mapO (drawn env 0 ops) [(bQ,bR,ws,af)]=_;rw[mapO_cons,an];rfl
def b4J(env:Env)(J:ag)(w:kZ):Prop:=∃v,opx 0 (evalA env w.2.1) J w.1.op=some (.val v J)/\AV.eqb env.a2 v w.2.2=true
def cd(env:Env)(D:List (Nat ⊕ (AV×List AV)))(n:Nat)(ops:List aX)(f:Nat->AV)(J:ag)(Q:(Nat->AV)->Prop):Prop:=
 ∀ai,g6 D n f ai->∃dZ bQ bD wn,(∀F,dZ<=F->∀bR ws,runDraw env 0 (callV env (exec env F) 0) ops ai bR ws J=some (bQ,List.replicate ops.length J++bR,wn++ws,J))/\g6 D n bD bQ/\Q bD/\∀w∈wn,b4J env J w/\w.1∈ops
section
variable {env:Env}{aJ:Option Nat}{D:List (Nat ⊕ (AV×List AV))}{n:Nat}{f:Nat->AV}{J:ag}{Q:(Nat->AV)->Prop}
def JP(k:Nat)(bR:List ag):List.replicate k J++J::bR=List.replicate (k+1) J++bR:=by
 rw[List.replicate_succ',jD];rfl
def cd.nil(h:Q f):cd env D n [] f J Q:=λai bE=>⟨0,ai,f,[],λ_ _ _ _=>rfl,bE,h,λ_ hw=>absurd hw aT⟩
def cd.val{d:Nat}{op:AOp}{g:Option (Nat×Bool)}{ops:List aX}{v:AV}(an:Nat.blt d n=true)(hw:gj g n f=true)(ho:opx 0 (dc env n f) J op=some (.val v J))(h:cd env D n ops (cY f d v) J Q):
  cd env D n (⟨some d,op,g,[]⟩::ops) f J Q:=λai bE=>by
 obtain⟨dZ,bQ,bD,wn,h1,h2,h3,aN⟩:=h _ (bE.put v an);refine⟨dZ,bQ,bD,wn,λF bB bR ws=>?_,h2,h3,λw hw=>⟨(aN w hw).1,fP _ (aN w hw).2⟩⟩;rw[r5];show cond (wantedA g ai.a5) _ _=_;rw[bE.wanted,hw,cond_true,bE.av,ho];show runDraw env 0 _ ops (ai.put (some d) v) (J::bR) ws J=_;rw[h1 F bB,JP];rfl
def cd.b4K{d:Nat}{op:AOp}{g:Option (Nat×Bool)}{q:Nat}{wn:List Nat}{ops:List aX}{v:AV}(an:Nat.blt d n=true)(hw:gj g n f=true)(ho:opx 0 (dc env n f) J op=some (.val v J))(au:AV.eqb env.a2 v v=true)(h:cd env D n ops (cY f d v) J Q):
  cd env D n (⟨some d,op,g,q::wn⟩::ops) f J Q:=λai bE=>by
 obtain⟨dZ,bQ,bD,JQ,h1,h2,h3,aN⟩:=h _ (bE.put v an);refine⟨dZ,bQ,bD,JQ++[(⟨some d,op,g,q::wn⟩,ai.a5,v)],λF bB bR ws=>?_,h2,h3,λw hw=>?_⟩
 ·rw[r5];show cond (wantedA g ai.a5) _ _=_;rw[bE.wanted,hw,cond_true,bE.av,ho];show runDraw env 0 _ ops (ai.put (some d) v) (J::bR) ((⟨some d,op,g,q::wn⟩,ai.a5,v)::ws) J=_;rw[h1 F bB,JP,jD];rfl
 ·rcases gN.1 hw with hw|hw
  ·exact⟨(aN w hw).1,fP _ (aN w hw).2⟩
  ·rw[dx.1 hw];exact⟨⟨v,by show opx 0 (evalA env ai.a5) J op=_;rw[bE.av];exact ho,au⟩,oq⟩
def cd.off{d:Nat}{op:AOp}{g:Option (Nat×Bool)}{wn:List Nat}{ops:List aX}(an:Nat.blt d n=true)(hw:gj g n f=false)(h:cd env D n ops (cY f d c4) J Q):
  cd env D n (⟨some d,op,g,wn⟩::ops) f J Q:=λai bE=>by
 obtain⟨dZ,bQ,bD,wn,h1,h2,h3,aN⟩:=h _ (bE.put _ an);refine⟨dZ,bQ,bD,wn,λF bB bR ws=>?_,h2,h3,λw hw=>⟨(aN w hw).1,fP _ (aN w hw).2⟩⟩;rw[r5];show cond (wantedA g ai.a5) _ _=_;rw[bE.wanted,hw,cond_false,h1 F bB,JP];rfl
def cd.spec{d:Nat}{op:AOp}{g:Option (Nat×Bool)}{wn:List Nat}{ops:List aX}{fn:Nat}{args aB:List AV}{r:AV}(an:Nat.blt d n=true)(hw:gj g n f=true)(ho:opx 0 (dc env n f) J op=some (.call (.f (.func fn) [] []) args))
  (he:env.ext fn=0) (ay:env.pure fn=true) (ha:mapO (bp J env.a2) args=some aB) (ak:env.spec fn aB=some r) (h:cd env D n ops (cY f d r) J Q):cd env D n (⟨some d,op,g,wn⟩::ops) f J Q:=λai bE=>by
 obtain⟨dZ,bQ,bD,wn,h1,h2,h3,aN⟩:=h _ (bE.put _ an);refine⟨dZ,bQ,bD,wn,λF bB bR ws=>?_,h2,h3,λw hw=>⟨(aN w hw).1,fP _ (aN w hw).2⟩⟩;rw[r5];show cond (wantedA g ai.a5) _ _=_;have ae:callV env (exec env F) 0 (.f (.func fn) [] []) args J=some [(.ok r,J)]:=by
  show callF env (exec env F) 0 fn ([]++args++[]) J=_;unfold callF;rw[he];show cond (env.pure fn) _ _=_;rw[ay,cond_true,qA,fp,ha];show(match env.spec fn aB with|some r=>_|none=>_)=_;rw[ak]
 rw[bE.wanted,hw,cond_true,bE.av,ho];show(match callV env (exec env F) 0 (.f (.func fn) [] []) args J with|some [(.ok v,af)]=>runDraw env 0 _ ops (ai.put (some d) v) (J::bR) ws af|_=>none)=_;rw[ae];show runDraw env 0 _ ops (ai.put (some d) r) (J::bR) ws J=_;rw[h1 F bB,JP];rfl
def b4L(ops:List aX):Bool:=cB (λo=>cB (λq=>Nat.ble q ops.length) o.je) ops
def swapT(ops:List aX):Bool:=match ops.reverse with|y::_=>(match y.je with|[]=>true|_::_=>false)|[]=>true
def PU{env:Env}{aq:aY AV}{ops:List aX}(h:swapT ops=true):swapOk env aq ops=true:=by
 unfold swapT at h;unfold swapOk;cases al:ops.reverse with
 |nil=>rfl
 |cons y t=>
  rw[al] at h;cases t with
  |nil=>rfl
  |cons x t=>
   cases hw:y.je with
   |nil=>simp only[hw]
   |cons a l=>simp only[hw] at h;cases h
def np{α:Type}{p:α->Bool}{l:List α}(h:cB p l=true):∀x∈l,p x=true:=λx hx=>jO h x hx
def Yh{α:Type}(x:α):∀ {k q:Nat},q<k->nth (List.replicate k x) q=some x
 |0,q,h=>by omega
 |k+1,0,_=>rfl
 |k+1,q+1,h=>by
  show nth (List.replicate k x) q=some x;exact Yh x U
def aa.draw{ops:List aX}{Q:eR}(hw:b4L ops=true)(ak:swapT ops=true)(h:cd env D n ops f J (λbD=>Q .normal bD J)):ch env aJ D n (.draw ops) f J Q:=λai bE=>by
 obtain⟨dZ,bQ,bD,wn,h1,h2,h3,aN⟩:=h ai bE;refine⟨dZ+1,[(.normal,bQ,J)],aT,λF bB=>?_,λo ho=>?_⟩
 ·obtain⟨k,rfl⟩:∃k,F=k+1:=⟨F-1,U⟩
  have h1:=h1 k U [] [];rw[fp,fp] at h1;refine Yg h1 ?_ (PU ak);have:wn.all (steady env 0 (J::List.replicate ops.length J).reverse)=true:=by
   rw[mx];intro w fJ;obtain⟨⟨v,u2,rC⟩,eQ⟩:=aN w fJ;unfold steady;refine iI λq aP=>?_;have g5:q<=ops.length:=eb (np (np hw w.1 eQ) q aP);have:(J::List.replicate ops.length J).reverse=List.replicate (ops.length+1) J:=by
    rw[<-Wc,List.reverse_replicate]
   rw[this,Yh J U];show(match rq w.1.op 0 (evalA env w.2.1) J with|some (.val v _)=>AV.eqb env.a2 v w.2.2|_=>false)=true;rw[w_,u2];exact rC
  exact this
 ·rw[dx.1 ho];exact⟨bD,h2,h3⟩
def JR{floor:Nat}{call:kY}{b:List aX}:∀(a:List aX) (ai:Fr) (bR:List ag) (ws:List kZ) (J:ag),runDraw env floor call (a++b) ai bR ws J=(match runDraw env floor call a ai bR ws J with|some (bQ,kL,PV,af)=>runDraw env floor call b bQ kL PV af|none=>none)
 |[],_,_,_,_=>rfl
 |o::a,ai,bR,ws,J=>by
  rw[qz,r5,r5];cases wantedA o.guard ai.a5 with
  |false=>exact JR a _ _ _ _
  |true=>
   rw[cond_true,cond_true];cases opx floor (evalA env ai.a5) J o.op with
   |none=>rfl
   |some r=>
    cases r with
    |val v af=>exact JR a _ _ _ _
    |call bx args=>
     show(match call bx args J with|some [(.ok v,af)]=>runDraw env floor call (a++b) (ai.put o.dst v) (J::bR) ws af|_=>none)=(match(match call bx args J with|some [(.ok v,af)]=>runDraw env floor call a (ai.put o.dst v) (J::bR) ws af|_=>none) with|some (bQ,kL,PV,af)=>runDraw env floor call b bQ kL PV af|none=>none);cases call bx args J with
     |none=>rfl
     |some l=>
      cases l with
      |nil=>rfl
      |cons x t=>
       obtain⟨cU,ey⟩:=x;cases t with
       |nil=>cases cU with
        |ok v=>exact JR a _ _ _ _
        |err v=>rfl
       |cons y t=>cases cU<;>rfl
    |iP bx args=>rfl
    |panic v=>rfl
    |g3 l=>rfl
end
def Snp(n:Nat)(v:AV):Prop:=∀J,bp J n v=some v
def PW{f:AV->Option AV}:∀ {l:List AV},(∀x∈l,f x=some x)->mapO f l=some l
 |[],_=>rfl
 |x::l,h=>by rw[dg,h x aT,PW λy aI=>h y (fP _ aI)]
def Yi{α:Type}{f:AV->Option AV}{g h:α->AV}:∀ {l:List α},(∀x∈l,f (g x)=some (h x))->mapO f (l.map g)=some (l.map h)
 |[],_=>rfl
 |x::l,hx=>by rw[mv,dg,hx x aT,Yi λy aI=>hx y (fP _ aI)];rfl
def Snp.i(n:Nat)(k:IntKind)(x:Int):Snp (n+1) (.i k x):=λ_=>rfl
def Snp.b(n:Nat)(x:Bool):Snp (n+1) (.b x):=λ_=>rfl
def Snp.aR{n:Nat}{R:Option Nat}{l:List AV}(h:∀x∈l,Snp n x):Snp (n+1) (.aR true R l):=λJ=>by
 show(match mapO (bp J n) l with|none=>none|some xs=>some (AV.aR true R xs))=_;rw[PW λx hx=>h x hx J]
def pG{α:Type}{f:α->α->Bool}:∀ {l:List α},(∀x∈l,f x x=true)->fv f l l=true
 |[],_=>rfl
 |x::l,h=>by
  show cond (f x x) (fv f l l) false=true;rw[h x aT,cond_true];exact pG λy aI=>h y (fP _ aI)
def tx:∀l,eqL l l=true
 |[]=>rfl
 |x::l=>by
  show cond (Nat.beq x x) (eqL l l) false=true;rw[fE,cond_true,tx l]
def Snp.eqb:∀(n:Nat) (v:AV),Snp n v->AV.eqb n v v=true
 |0,v,h=>by have:=h ⟨.nil,0⟩;cases this
 |n+1,v,h=>by
  have ar:=Snp.eqb n;cases v with
  |b x=>show(x==x)=true;simp
  |i k x=>show(decide (k=k)&&decide (x=x))=true;simp
  |s l=>exact tx l
  |p a=>cases a with
   |none=>rfl
   |some a=>have:=h ⟨.nil,0⟩;cases this
  |dk o v=>have:=h ⟨.nil,0⟩;cases this
  |aq a b c d e=>
   have ak:=h ⟨.nil,0⟩;have:bp ⟨.nil,0⟩ (n+1) (.aq a b c d e)=(match readList ⟨.nil,0⟩ (.aq a b c d e) with|none=>none|some xs=>match mapO (bp ⟨.nil,0⟩ n) xs with|none=>none|some xs=>some (AV.aR true d xs)):=rfl;rw[this] at ak;split at ak
   ·cases ak
   ·split at ak<;>cases ak
  |aj=>rfl
  |aR o R xs=>
   have ak:=h ⟨.nil,0⟩;have e:bp ⟨.nil,0⟩ (n+1) (.aR o R xs)=(match mapO (bp ⟨.nil,0⟩ n) xs with|none=>none|some xs=>some (AV.aR true R xs)):=rfl;show((o==o)&&decide (R=R)&&fv (AV.eqb n) xs xs)=true;have hx:∀J,mapO (bp J n) xs=some xs:=λJ=>by
    have ak:=h J;have e:bp J (n+1) (.aR o R xs)=(match mapO (bp J n) xs with|none=>none|some xs=>some (AV.aR true R xs)):=rfl;rw[e] at ak;cases hm:mapO (bp J n) xs with
    |none=>rw[hm] at ak;cases ak
    |some a4=>rw[hm] at ak;simp only[cw,AV.aR.injEq] at ak;rw[ak.2.2]
   have hall:fv (AV.eqb n) xs xs=true:=pG λx gg=>ar x λJ=>by
    have:=hx J;exact PX this x gg
   simp[hall]
  |m r=>cases r with
   |none=>rfl
   |some r=>have:=h ⟨.nil,0⟩;cases this
  |f a b c=>have:=h ⟨.nil,0⟩;cases this
  |gp=>rfl
  |it t v=>
   show(Nat.beq t t&&AV.eqb n v v)=true;rw[fE,zt];refine ar v λJ=>?_;have ak:=h J;have e:bp J (n+1) (.it t v)=(match bp J n v with|none=>none|some v=>some (AV.it t v)):=rfl;rw[e] at ak;cases hm:bp J n v with
   |none=>rw[hm] at ak;cases ak
   |some y=>rw[hm] at ak;simp only[cw,AV.it.injEq,true_and] at ak;rw[ak]
  |eC=>rfl
  |ad l=>
   show fv (AV.eqb n) l l=true;refine pG λx gg=>ar x λJ=>?_;have ak:=h J;have e:bp J (n+1) (.ad l)=(match mapO (bp J n) l with|none=>none|some l=>some (AV.ad l)):=rfl;rw[e] at ak;cases hm:mapO (bp J n) l with
   |none=>rw[hm] at ak;cases ak
   |some a4=>rw[hm] at ak;simp only[cw,AV.ad.injEq] at ak;subst ak;exact PX hm x gg
  |a6 l=>
   show fv (AV.eqb n) l l=true;refine pG λx gg=>ar x λJ=>?_;have ak:=h J;have e:bp J (n+1) (.a6 l)=(match mapO (bp J n) l with|none=>none|some l=>some (AV.a6 l)):=rfl;rw[e] at ak;cases hm:mapO (bp J n) l with
   |none=>rw[hm] at ak;cases ak
   |some a4=>rw[hm] at ak;simp only[cw,AV.a6.injEq] at ak;subst ak;exact PX hm x gg
  |e3 k d j=>show(decide (k=k)&&(Nat.beq d d&&Nat.beq j j))=true;simp
  |hC l=>exact pG λx _=>tx x
  |iz hi=>show(hi==hi)=true;simp
  |y i=>exact fE i
  |eT o i=>show((o==o)&&Nat.beq i i)=true;simp
  |g1 i=>exact fE i
  |fF i j=>show(Nat.beq i i&&Nat.beq j j)=true;simp
  |iA o R xs=>exact absurd (h (default:ag)) (by rw[show bp (default:ag) (n+1) (.iA o R xs)=none from rfl];simp)
where
 PX {f:AV->Option AV}:∀ {l:List AV},mapO f l=some l->∀x∈l,f x=some x:=λ{l}=>by
  induction l with
  |nil=>intro _ x hx;simp at hx
  |cons a l iQ=>
   intro h x hx;rw[dg] at h;cases ha:f a with
   |none=>rw[ha] at h;cases h
   |some y=>
    rw[ha] at h;cases ao:mapO f l with
    |none=>simp only[ao] at h;cases h
    |some a4=>
     simp only[ao,cw,rk] at h;obtain⟨h1,h2⟩:=h;subst h1;subst h2;rcases eH.1 hx with rfl|hx
     ·exact ha
     ·exact iQ ao x hx
def Yj{a b:Nat}:decide (Int.ofNat a=Int.ofNat b)=decide (a=b):=decide_eq_decide.2 ⟨ot,λh=>by rw[h]⟩
def b4M{k:IntKind}{a b:Nat}:binop .eql (.i k (Int.ofNat a)) (.i k (Int.ofNat b))=some (.b (decide (a=b))):=by
 rw[<-Yj];show(if k=k then binI .eql k (Int.ofNat a) (Int.ofNat b) else none)=_;rw[if_pos I];rfl
def b4N{k:IntKind}{a b:Nat}:binop .neq (.i k (Int.ofNat a)) (.i k (Int.ofNat b))=some (.b (!decide (a=b))):=by
 rw[<-Yj];show(if k=k then binI .neq k (Int.ofNat a) (Int.ofNat b) else none)=_;rw[if_pos I];rfl
def cmpO(op:BinOp)(a b:Nat):Option AV:=
 match op with
 | .eql=>some (.b (decide (a=b)))
 | .neq=>some (.b (!decide (a=b)))
 | .lss=>some (.b (decide (a<b)))
 | .leq=>some (.b (decide (a<=b)))
 | .gtr=>some (.b (decide (b<a)))
 | .geq=>some (.b (decide (b<=a)))
 |_=>none
def cG{op:BinOp}{k:IntKind}{a b:Nat}{v:AV}(h:cmpO op a b=some v):binop op (.i k (Int.ofNat a)) (.i k (Int.ofNat b))=some v:=by
 cases op with
 |eql=>rw[b4M];exact h
 |neq=>rw[b4N];exact h
 |lss=>
  rw[<-h];show(if k=k then binI .lss k (Int.ofNat a) (Int.ofNat b) else none)=_;rw[if_pos I];show some (AV.b (decide ((Int.ofNat a)<Int.ofNat b)))=some (.b (decide (a<b)))
  congr 2;simp
 |leq=>
  rw[<-h];show(if k=k then binI .leq k (Int.ofNat a) (Int.ofNat b) else none)=_;rw[if_pos I];show some (AV.b (decide ((Int.ofNat a)<=Int.ofNat b)))=some (.b (decide (a<=b)))
  congr 2;simp
 |gtr=>
  rw[<-h];show(if k=k then binI .gtr k (Int.ofNat a) (Int.ofNat b) else none)=_;rw[if_pos I];show some (AV.b (decide ((Int.ofNat b)<Int.ofNat a)))=some (.b (decide (b<a)))
  congr 2;simp
 |geq=>
  rw[<-h];show(if k=k then binI .geq k (Int.ofNat a) (Int.ofNat b) else none)=_;rw[if_pos I];show some (AV.b (decide ((Int.ofNat b)<=Int.ofNat a)))=some (.b (decide (b<=a)))
  congr 2;simp
 |_=>cases h
def PY{n:Nat}(h:n<2^63):wrapN .i64 (Int.ofNat n)=Int.ofNat n:=by
 show cond (Nat.blt n 9223372036854775808) (Int.ofNat n) _=_;rw[show Nat.blt n 9223372036854775808=true from hO U];rfl
def ir{a b:Nat}(h:a+b<2^63):binop .add (aw a) (aw b)=some (aw (a+b)):=by
 show some (AV.i .i64 (wrapN .i64 (Int.ofNat (a+b))))=_;rw[PY h]
def jS{a b:Nat}(hb:b<=a)(h:a<2^63):binop .sub (aw a) (aw b)=some (aw (a-b)):=by
 show some (AV.i .i64 (wrapN .i64 (Int.ofNat a-Int.ofNat b)))=_;have:Int.ofNat a-Int.ofNat b=Int.ofNat (a-b):=by simp only[uQ];omega
 rw[this,PY U]
def Yk:AOp->Bool
 | .bin _ _ _=>false
 | .conv _ _=>false
 | .append _ _ _ _=>false
 | .buildSlice _ _ _ _=>false
 | .neg _=>false
 |_=>true
section
variable {env:Env}{aJ:Option Nat}{D:List (Nat ⊕ (AV×List AV))}{n:Nat}{f:Nat->AV}{J:ag}{Q:eR}
def ab.go{d:Nat}{op:AOp}{g:Option (Nat×Bool)}{wn:List Nat}{ops:List aX}{v:AV}{af:ag}(_hb:Yk op=true)(an:Nat.blt d n=true)(hw:gj g n f=true)(ho:opx 0 (dc env n f) J op=some (.val v af))(h:dE env aJ D n ops (cY f d v) af Q):
  dE env aJ D n (⟨some d,op,g,wn⟩::ops) f J Q:=ab.val an hw ho h
def ab.bin{d:Nat}{op:BinOp}{x y:aH}{g:Option (Nat×Bool)}{wn:List Nat}{ops:List aX}{a b v:AV}(an:Nat.blt d n=true)(hw:gj g n f=true)(h1:dc env n f x=some a)(h2:dc env n f y=some b)(h3:binop op a b=some v)
  (h:dE env aJ D n ops (cY f d v) J Q):dE env aJ D n (⟨some d,.bin op x y,g,wn⟩::ops) f J Q:=ab.val an hw (ET a b v h1 h2 h3) h
def ab.cmp{d:Nat}{op:BinOp}{x y:aH}{g:Option (Nat×Bool)}{wn:List Nat}{ops:List aX}{k:IntKind}{a b:Nat}{v:AV}(an:Nat.blt d n=true)(hw:gj g n f=true)(h1:dc env n f x=some (.i k (Int.ofNat a)))(h2:dc env n f y=some (.i k (Int.ofNat b)))(h3:cmpO op a b=some v)
  (h:dE env aJ D n ops (cY f d v) J Q):dE env aJ D n (⟨some d,.bin op x y,g,wn⟩::ops) f J Q:=ab.val an hw (ET _ _ v h1 h2 (cG h3)) h
def cd.cmp{d:Nat}{op:BinOp}{x y:aH}{g:Option (Nat×Bool)}{ops:List aX}{k:IntKind}{a b:Nat}{v:AV}{Q:(Nat->AV)->Prop}(an:Nat.blt d n=true)(hw:gj g n f=true)(h1:dc env n f x=some (.i k (Int.ofNat a)))(h2:dc env n f y=some (.i k (Int.ofNat b)))(h3:cmpO op a b=some v)
  (h:cd env D n ops (cY f d v) J Q):cd env D n (⟨some d,.bin op x y,g,[]⟩::ops) f J Q:=cd.val an hw (ET _ _ v h1 h2 (cG h3)) h
def ab.a0{d:Nat}{R:Option Nat}{x:aH}{g:Option (Nat×Bool)}{wn:List Nat}{ops:List aX}{id off:Nat}{c:List AV}{v:AV}(ak:J.get id=some (.cells c))(an:Nat.blt d n=true)(hw:gj g n f=true)(h1:dc env n f x=some (.p (some (id,off))))(h2:dB R (c.drop off)=some v)
  (h:dE env aJ D n ops (cY f d v) J Q):dE env aJ D n (⟨some d,.load R x,g,wn⟩::ops) f J Q:=ab.val an hw (lp _ _ h1 (l8 ak h2)) h
def cd.go{d:Nat}{op:AOp}{g:Option (Nat×Bool)}{ops:List aX}{v:AV}{Q:(Nat->AV)->Prop}(_hb:Yk op=true)(an:Nat.blt d n=true)(hw:gj g n f=true)(ho:opx 0 (dc env n f) J op=some (.val v J))(h:cd env D n ops (cY f d v) J Q):
  cd env D n (⟨some d,op,g,[]⟩::ops) f J Q:=cd.val an hw ho h
def cd.bin{d:Nat}{op:BinOp}{x y:aH}{g:Option (Nat×Bool)}{ops:List aX}{a b v:AV}{Q:(Nat->AV)->Prop}(an:Nat.blt d n=true)(hw:gj g n f=true)(h1:dc env n f x=some a)(h2:dc env n f y=some b)(h3:binop op a b=some v)
  (h:cd env D n ops (cY f d v) J Q):cd env D n (⟨some d,.bin op x y,g,[]⟩::ops) f J Q:=cd.val an hw (ET a b v h1 h2 h3) h
def cd.a0{d:Nat}{R:Option Nat}{x:aH}{g:Option (Nat×Bool)}{ops:List aX}{id off:Nat}{c:List AV}{v:AV}{Q:(Nat->AV)->Prop}(ak:J.get id=some (.cells c))(an:Nat.blt d n=true)(hw:gj g n f=true)(h1:dc env n f x=some (.p (some (id,off))))(h2:dB R (c.drop off)=some v)
  (h:cd env D n ops (cY f d v) J Q):cd env D n (⟨some d,.load R x,g,[]⟩::ops) f J Q:=cd.val an hw (lp _ _ h1 (l8 ak h2)) h
def cd.nq{d:Nat}{R:Option Nat}{x:aH}{g:Option (Nat×Bool)}{q:Nat}{wn:List Nat}{ops:List aX}{id off:Nat}{c:List AV}{v:AV}{Q:(Nat->AV)->Prop}(ak:J.get id=some (.cells c))(an:Nat.blt d n=true)(hw:gj g n f=true)(h1:dc env n f x=some (.p (some (id,off))))(h2:dB R (c.drop off)=some v)
  (au:AV.eqb env.a2 v v=true) (h:cd env D n ops (cY f d v) J Q):cd env D n (⟨some d,.load R x,g,q::wn⟩::ops) f J Q:=cd.b4K an hw (lp _ _ h1 (l8 ak h2)) au h
def JS{av:aH->Option AV}{k:Nat}{x:aH}{v:AV}{m:Nat}(h1:av x=some v)(h2:lenA J k v=some m):opx 0 av J (.len k x)=some (.val (aw m) J):=by
 show(match av x with|some x=>(match lenA J k x with|some n=>some (bH.val (aw n) J)|none=>lenU J k x)|none=>none)=_;rw[h1];show(match lenA J k v with|some n=>some (bH.val (aw n) J)|none=>lenU J k v)=_;rw[h2]
def ab.len{d k m:Nat}{x:aH}{g:Option (Nat×Bool)}{wn:List Nat}{ops:List aX}{v:AV}(an:Nat.blt d n=true)(hw:gj g n f=true)(h1:dc env n f x=some v)(h2:lenA J k v=some m)(h:dE env aJ D n ops (cY f d (aw m)) J Q):
  dE env aJ D n (⟨some d,.len k x,g,wn⟩::ops) f J Q:=ab.val an hw (JS h1 h2) h
def ab.idx{d:Nat}{R:Option Nat}{x i:aH}{g:Option (Nat×Bool)}{wn:List Nat}{ops:List aX}{k:IntKind}{a v:AV}{j:Nat}(an:Nat.blt d n=true)(hw:gj g n f=true)(h1:dc env n f x=some a)(h2:dc env n f i=some (.i k (Int.ofNat j)))(h3:idxSlA R a j=some v)
  (h:dE env aJ D n ops (cY f d v) J Q):dE env aJ D n (⟨some d,.dr R x i,g,wn⟩::ops) f J Q:=ab.val an hw (PS k a j v h1 h2 h3) h
def cd.idx{d:Nat}{R:Option Nat}{x i:aH}{g:Option (Nat×Bool)}{ops:List aX}{k:IntKind}{a v:AV}{j:Nat}{Q:(Nat->AV)->Prop}(an:Nat.blt d n=true)(hw:gj g n f=true)(h1:dc env n f x=some a)(h2:dc env n f i=some (.i k (Int.ofNat j)))(h3:idxSlA R a j=some v)
  (h:cd env D n ops (cY f d v) J Q):cd env D n (⟨some d,.dr R x i,g,[]⟩::ops) f J Q:=cd.val an hw (PS k a j v h1 h2 h3) h
def ab.gY{d:Nat}{R:Option Nat}{x:aH}{g:Option (Nat×Bool)}{wn:List Nat}{ops:List aX}{o:Bool}{v:AV}(an:Nat.blt d n=true)(hw:gj g n f=true)(h1:dc env n f x=some (.dk o v))(h2:conf R v=true)
  (h:dE env aJ D n ops (cY f d v) J Q):dE env aJ D n (⟨some d,.load R x,g,wn⟩::ops) f J Q:=ab.val an hw (lp _ _ h1 (by show(if conf R v then some v else none)=_;rw[if_pos h2])) h
def Yl{av:aH->Option AV}{x i:aH}{k:IntKind}{l:List Nat}{j c:Nat}(h1:av x=some (.s l))(h2:av i=some (.i k (Int.ofNat j)))(h:nth l j=some c):opx 0 av J (.yI x i)=some (.val (.i .u8 (Int.ofNat c)) J):=by
 show(match av x,av i with
  |some (.s l),some j=>(match natOf j with
   |some j=>(match nth l j with|some c=>some (bH.val (.i .u8 (Int.ofNat c)) J)|none=>none)
   |none=>none)
  |_,_=>none)=_
 rw[h1,h2];show(match nth l j with|some c=>some (bH.val (.i .u8 (Int.ofNat c)) J)|none=>none)=_;rw[h]
def JT{av:aH->Option AV}{x:aH}{bX hi:Option aH}{s:List Nat}{l h:Nat}(h1:av x=some (.s s))(h2:bndO av bX 0=some l)(h3:bndO av hi s.length=some h)(ao:l<=h)(hh:h<=s.length):opx 0 av J (.rm x bX hi)=some (.val (.s ((s.drop l).take (h-l))) J):=by
 show(match av x with
  |some (.s s)=>(match bndO av bX 0,bndO av hi s.length with
   |some l,some h=>if Nat.ble l h&&Nat.ble h s.length then some (bH.val (.s ((s.drop l).take (h-l))) J) else none
   |_,_=>none)
  |_=>none)=_
 rw[h1];show(match bndO av bX 0,bndO av hi s.length with
   |some l,some h=>if Nat.ble l h&&Nat.ble h s.length then some (bH.val (.s ((s.drop l).take (h-l))) J) else none
   |_,_=>none)=_
 rw[h2,h3];show(if Nat.ble l h&&Nat.ble h s.length then some (bH.val (.s ((s.drop l).take (h-l))) J) else none)=_;rw[if_pos (by rw[hO ao,hO hh];rfl)]
def b4O{av:aH->Option AV}{m:Nat}{R:Option Nat}{x i:aH}{k:IntKind}{o:Bool}{cs:List AV}{j:Nat}{v:AV}(h1:av x=some (.dk o (.ad cs)))(h2:av i=some (.i k (Int.ofNat j)))(h:j<m)(h3:dB R (cs.drop (j*shN R))=some v):opx 0 av J (.A3 m R x i)=some (.val (.dk o v) J):=by
 show(match av x,av i with
  |some x,some j=>(match natOf j with
   |some j=>(if Nat.blt j m then(match fieldAddrA (j*shN R) R x with|some v=>some (bH.val v J)|none=>none) else none)
   |none=>none)
  |_,_=>none)=_
 rw[h1,h2];show(if Nat.blt j m then(match(match dB R (cs.drop (j*shN R)) with|some v=>some (AV.dk o v)|none=>none) with|some v=>some (bH.val v J)|none=>none) else none)=_;rw[if_pos (show Nat.blt j m=true from hO h),h3]
def aa.cut{a b:bC}(L:List (Nat×AV))(h1:ch env aJ D n a f J (λx bD af=>x= .normal/\af=J/\sat L bD))(h2:∀g,ch env aJ D n b (b4 L g) J Q):ch env aJ D n (.seq a b) f J Q:=aa.seq (h1.mono λx bD af ⟨aF,aV,dp⟩=>by
 subst aF;subst aV;show ch env aJ D n b bD af Q;exact aa.norm L dp h2)
def aa.EX{a b:bC}(L:List (Nat×AV)){E:eR}{M:Prop}(h1:ch env aJ D n a f J (λx bD af=>(x= .normal/\af=J/\sat L bD/\M)\/E x bD af))(h3:∀x bD af,E x bD af->x≠ .normal/\Q x bD af)(h2:M->∀g,ch env aJ D n b (b4 L g) J Q):ch env aJ D n (.seq a b) f J Q:=aa.seq (h1.mono λx bD af h=>by
 rcases h with⟨aF,aV,dp,jA⟩|h
 ·subst aF;subst aV;show ch env aJ D n b bD af Q;exact aa.norm L dp λg=>h2 jA g
 ·obtain⟨aF,aV⟩:=h3 _ _ _ h;cases x with
  |normal=>exact absurd I aF
  |exit i=>exact aV
  |ret=>exact aV
  |panic v=>exact aV)
def ab.box{d:Nat}{x:aH}{g:Option (Nat×Bool)}{wn:List Nat}{ops:List aX}{v:AV}{c:List AV}(k:Nat)(hn:J.next=k)(an:Nat.blt d n=true)(hw:gj g n f=true)(au:dc env n f x=some v)(hval:v.val=true)(ae:v.cells=c)
  (h:∀af:ag,af.next=k+1->af.get k=some (.cells c)->(∀i o,J.get i=some o->af.get i=some o)->dE env aJ D n ops (cY f d (.p (some (k,0)))) af Q):dE env aJ D n (⟨some d,.box x,g,wn⟩::ops) f J Q:=by
 subst hn;refine ab.val (v:=jL J.next 0) (af:=J.push (.cells c)) an hw ?_ (h (J.push (.cells c)) I (ag.ij _) λi o ho=>?_)
 ·show(match dc env n f x with|some v=>cond v.val (some (bH.val (jL J.next 0) (J.push (.cells v.cells)))) none|none=>none)=_;rw[au];show cond v.val _ _=_;rw[hval,cond_true,ae]
 ·rw[ag.fy trivial _ (ag.cJ ho)];exact ho
def ab.alloc{d:Nat}{v:AV}{g:Option (Nat×Bool)}{wn:List Nat}{ops:List aX}{c:List AV}(k:Nat)(hn:J.next=k)(an:Nat.blt d n=true)(hw:gj g n f=true)(ae:v.cells=c)
  (h:∀af:ag,af.next=k+1->af.get k=some (.cells c)->(∀i o,J.get i=some o->af.get i=some o)->dE env aJ D n ops (cY f d (.p (some (k,0)))) af Q):dE env aJ D n (⟨some d,.alloc v,g,wn⟩::ops) f J Q:=by
 subst hn;refine ab.val (v:=jL J.next 0) (af:=J.push (.cells c)) an hw ?_ (h (J.push (.cells c)) I (ag.ij _) λi o ho=>?_)
 ·rw[<-ae];rfl
 ·rw[ag.fy trivial _ (ag.cJ ho)];exact ho
def Ym{av:aH->Option AV}{R:Option Nat}{a x:aH}{id off:Nat}{v:AV}{c bn:List AV}(ak:J.get id=some (.cells c))(h1:av a=some (.p (some (id,off))))(h2:av x=some v)(dX:conf R v=true)(ae:storeCells c off v.cells=some bn):
  opx 0 av J (.store R a x)=some (.val c4 (J.set id (.cells bn))):=by
 show(match av a,av x with
  |some (.p (some (id,off))),some v=>
   if Nat.blt id 0 then none else
   if conf R v then
    match J.get id with
    |some (.cells c)=>match storeCells c off v.cells with
     |some c=>some (bH.val c4 (J.set id (.cells c)))
     |none=>none
    |some (.hc c r)=>pd J id c r off v.cells
    |_=>none
   else none
  |_,_=>none)=_
 rw[h1,h2];show(if Nat.blt id 0 then none else if conf R v then(match J.get id with
    |some (.cells c)=>match storeCells c off v.cells with
     |some c=>some (bH.val c4 (J.set id (.cells c)))
     |none=>none
    |some (.hc c r)=>pd J id c r off v.cells
    |_=>none) else none)=_
 rw[if_neg (by simp[Nat.blt,Nat.ble]),if_pos dX,ak];show(match storeCells c off v.cells with|some c=>some (bH.val c4 (J.set id (.cells c)))|none=>none)=_;rw[ae]
def hX{id:Nat}{o bV:AO}(ak:J.get id=some o):(J.set id bV).get id=some bV/\(∀i o,i≠id->J.get i=some o->(J.set id bV).get i=some o):=by
 have hlt:=ag.cJ ak;refine⟨by rw[ag.ji trivial _ hlt,if_pos I],λi o hi ho=>?_⟩;rw[ag.ji trivial _ hlt,if_neg hi];exact ho
def ab.store{R:Option Nat}{a x:aH}{g:Option (Nat×Bool)}{wn:List Nat}{ops:List aX}{id off:Nat}{v:AV}{c bn:List AV}(ak:J.get id=some (.cells c))(hw:gj g n f=true)(h1:dc env n f a=some (.p (some (id,off))))(h2:dc env n f x=some v)(dX:conf R v=true)(ae:storeCells c off v.cells=some bn)
  (h:∀af:ag,af.next=J.next->af.get id=some (.cells bn)->(∀i o,i≠id->J.get i=some o->af.get i=some o)->dE env aJ D n ops f af Q):dE env aJ D n (⟨none,.store R a x,g,wn⟩::ops) f J Q:=
 ab.qG hw (Ym ak h1 h2 dX ae) (h _ I (hX ak).1 (hX ak).2)
def storeAll{c v:List AV}(h:v.length=c.length):storeCells c 0 v=some v:=by
 unfold storeCells;rw[if_pos (hO U),lQ,h,Pz];simp
def ab.var{d:Nat}{z:AV}{R:Option Nat}{x:aH}{wn PZ:List Nat}{ops:List aX}{v:AV}{c:List AV}(k:Nat)(hn:J.next=k)(an:Nat.blt d n=true)(h1:Nat.beq d d=true)(hx:dc env n (cY f d (.p (some (k,0)))) x=some v)(dX:conf R v=true)(ae:v.cells=c)(ao:c.length=z.cells.length)
  (h:∀af:ag,af.next=k+1->af.get k=some (.cells c)->(∀i o,J.get i=some o->af.get i=some o)->dE env aJ D n ops (cY f d (.p (some (k,0)))) af Q):dE env aJ D n (⟨some d,.alloc z,none,wn⟩::⟨none,.store R (.t d) x,none,PZ⟩::ops) f J Q:=by
 refine ab.alloc k hn an I I λbu a9 bt cW=>?_;refine ab.store (bn:=c) bt I ?_ hx dX (by rw[ae];exact storeAll ao) λbA db cK et=>h bA (db.trans a9) cK λi o ho=>et i o ?_ (cW i o ho)
 ·show cond (Nat.blt d n) (some (cond (Nat.beq d d) _ (f d))) none=_;rw[an,h1];rfl
 ·have:=ag.cJ ho;omega
def ab.known{b:b8}{K:Nat->List AV->AV->Prop}{d:Nat}{op:AOp}{g:Option (Nat×Bool)}{wn:List Nat}{ops:List aX}{fn:Nat}{args aB:List AV}{r:AV}(hf:∀g aB r bS,K g aB r->K g aB bS->r=bS)(he:b.ext fn=0)(ay:b.pure fn=true)(eg:K fn aB r)
  (an:Nat.blt d n=true) (hw:gj g n f=true) (ho:opx 0 (dc (b.aQ K) n f) J op=some (.call (.f (.func fn) [] []) args)) (ha:mapO (bp J (b.a2+1000)) args=some aB) (h:dE (b.aQ K) aJ D n ops (cY f d r) J Q):dE (b.aQ K) aJ D n (⟨some d,op,g,wn⟩::ops) f J Q:=
 ab.spec an hw ho he ay ha (PT hf eg) h
def cd.known{b:b8}{K:Nat->List AV->AV->Prop}{d:Nat}{op:AOp}{g:Option (Nat×Bool)}{wn:List Nat}{ops:List aX}{fn:Nat}{args aB:List AV}{r:AV}{Q:(Nat->AV)->Prop}(hf:∀g aB r bS,K g aB r->K g aB bS->r=bS)(he:b.ext fn=0)(ay:b.pure fn=true)(eg:K fn aB r)
  (an:Nat.blt d n=true) (hw:gj g n f=true) (ho:opx 0 (dc (b.aQ K) n f) J op=some (.call (.f (.func fn) [] []) args)) (ha:mapO (bp J (b.a2+1000)) args=some aB) (h:cd (b.aQ K) D n ops (cY f d r) J Q):cd (b.aQ K) D n (⟨some d,op,g,wn⟩::ops) f J Q:=
 cd.spec an hw ho he ay ha (PT hf eg) h
def fZ{n:Nat}{a:AV}{x:AV}(h:bp J n a=some x):mapO (bp J n) [a]=some [x]:=by rw[dg,h];rfl
def lq{n:Nat}{a b:AV}{x y:AV}(h:bp J n a=some x)(h2:bp J n b=some y):mapO (bp J n) [a,b]=some [x,y]:=by rw[dg,h,fZ h2]
def BY{n:Nat}{a b c:AV}{x y z:AV}(h:bp J n a=some x)(h2:bp J n b=some y)(h3:bp J n c=some z):mapO (bp J n) [a,b,c]=some [x,y,z]:=by rw[dg,h,lq h2 h3]
end
def slA(o:Bool)(R:Option Nat):List AV->AV
 |[]=>.aj
 |x::l=>.aR o R (x::l)
def Yn(J:ag)(o:Bool)(R:Option Nat)(l:List AV):lenA J 1 (slA o R l)=some l.length:=by cases l<;>rfl
def EY{α:Type}:∀ {l:List α} {i:Nat} (h:i<l.length),nth l i=some l[i]
 |[],i,h=>by simp at h
 |x::l,0,_=>rfl
 |x::l,i+1,h=>EY (l:=l) (by simpa using h)
def JU{o:Bool}{R:Option Nat}{l:List AV}{i:Nat}(h:i<l.length):idxSlA R (slA o R l) i=some (.dk o l[i]):=by
 cases l with
 |nil=>simp at h
 |cons x l=>exact Yd (EY h)
def b4P{α:Type}{J:ag}{o:Bool}{R:Option Nat}{l:List α}{f:α->AV}:lenA J 1 (slA o R (l.map f))=some l.length:=by rw[Yn,cb]
def Yo{α:Type}{o:Bool}{R:Option Nat}{l:List α}{f:α->AV}{i:Nat}(h:i<l.length):idxSlA R (slA o R (l.map f)) i=some (.dk o (f l[i])):=by rw[JU (by simpa using h),ic]
def b4Q{o:Bool}{R:Option Nat}{l m:List AV}(h:slA o R l=slA o R m):l=m:=by
 cases l<;>cases m<;>simp_all [slA]
def kM{R:Option Nat}{id off len j:Nat}{cap:Option Nat}(h:j<len):idxSlA R (.aq id off len R cap) j=some (.p (some (id,off+j*shN R))):=by
 show(if Nat.blt j len&&decide (R=R) then some (AV.p (some (id,off+j*shN R))) else none)=_;rw[show Nat.blt j len=true from hO h];simp
def xr{k:Nat}{x:AV}(h:conf (some k) x=true):∃l,x= .ad l/\l.length=k:=by
 cases x with
 |ad l=>exact⟨l,rfl,eM h⟩
 |_=>cases h
def EZ{x:AV}(h:conf none x=true):x.cells=[x]:=by
 cases x with
 |ad l=>cases h
 |_=>rfl
def BZ{R:Option Nat}{x:AV}{r:List AV}(h:conf R x=true):dB R (x.cells++r)=some x/\(x.cells++r).drop (shN R)=r:=by
 cases R with
 |none=>rw[EZ h];exact⟨rfl,rfl⟩
 |some k=>
  obtain⟨l,rfl,ao⟩:=xr h;subst ao;refine⟨?_,?_⟩
  ·show(let m:=(l++r).take l.length;if m.length=l.length then some (AV.ad m) else none)=_;simp
  ·show(l++r).drop l.length=r;simp
def tz{R:Option Nat}:∀ {xs:List AV} {r:List AV},(∀x∈xs,conf R x=true)->elems R xs.length (xs.flatMap AV.cells++r)=some xs
 |[],r,_=>rfl
 |x::xs,r,h=>by
  have hx:=h x aT;rw[gS,elems_succ,j4,jD,(BZ hx).1,(BZ hx).2,tz λy aI=>h y (fP _ aI)]
inductive Acc(J:ag)(R:Option Nat):AV->List AV->Prop
 |nil:Acc J R .aj []
 |aq (o:Nat) (x:AV) (xs:List AV) (h:J.get o=some (.cells ((x::xs).flatMap AV.cells))) (ae:∀y∈x::xs,conf R y=true):Acc J R (.aq o 0 (xs.length+1) R none) (x::xs)
def AV.dU :AV->Option Nat
 | .aq id _ _ _ _=>some id
 |_=>none
def Acc.conf{J:ag}{R:Option Nat}{v:AV}{xs:List AV}(h:Acc J R v xs):∀y∈xs,conf R y=true:=by
 cases h with
 |nil=>intro y aI;simp at aI
 |aq o x xs h ae=>exact ae
def Acc.read{J:ag}{R:Option Nat}{v:AV}{xs:List AV}(h:Acc J R v xs):readList J v=some xs:=by
 cases h with
 |nil=>rfl
 |aq o x xs h ae=>
  show(match J.get o with|some (.cells c)=>elems R (xs.length+1) (c.drop 0)|_=>none)=_;rw[h];show elems R (x::xs).length ((x::xs).flatMap AV.cells)=_;have:=tz (r:=[]) ae;rwa[fp] at this
def Acc.bK{J af:ag}{R:Option Nat}{v:AV}{xs:List AV}(h:Acc J R v xs)(aC:∀i o,v.dU =some i->J.get i=some o->af.get i=some o):Acc af R v xs:=by
 cases h with
 |nil=>exact .nil
 |aq o x xs h ae=>exact .aq o x xs (aC _ _ I h) ae
def Acc.len{J ah:ag}{R:Option Nat}{v:AV}{xs:List AV}(h:Acc J R v xs):lenA ah 1 v=some xs.length:=by
 cases h with
 |nil=>rfl
 |aq o x xs h ae=>rfl
def Acc.lt{J:ag}{R:Option Nat}{v:AV}{xs:List AV}(h:Acc J R v xs){i:Nat}(hi:v.dU =some i):i<J.next:=by
 cases h with
 |nil=>cases hi
 |aq o x xs h ae=>cases hi;exact ag.cJ h
def Acc.append{J:ag}{R:Option Nat}{v x:AV}{xs a4:List AV}{y:AV}{bytes:Nat}(h:Acc J R v xs)(hx:newOf J x=some (y::a4))(ae:∀z∈y::a4,Go.Lyc.conf R z=true)(hb:(3*(xs.length+(y::a4).length)+2000)*bytes<=281474976710656):
  ∃a_ af,appendO 0 J R bytes v x=some (a_,af)/\Acc af R a_ (xs++y::a4)/\a_.dU =some J.next/\af.next=J.next+1/\∀i o,v.dU ≠some i->J.get i=some o->af.get i=some o:=by
 have JV:=h.conf;have hall:(cB (Go.Lyc.conf R) xs&&cB (Go.Lyc.conf R) (y::a4)&&Nat.ble ((3*(xs.length+(y::a4).length)+2000)*bytes) 281474976710656)=true:=by
  rw[iI JV,iI ae,hO hb];rfl
 cases h with
 |nil=>
  refine⟨.aq J.next 0 (y::a4).length R none,J.push (.cells ((y::a4).flatMap AV.cells)),?_,?_,rfl,rfl,λi o _ ho=>?_⟩
  ·unfold appendO;rw[hx];show cond _ _ none=_;rw[hall];rfl
  ·exact .aq _ _ _ (ag.ij _) ae
  ·rw[ag.fy trivial _ (ag.cJ ho)];exact ho
 |aq o eZ xs h fs=>
  have al:readList J (.aq o 0 (xs.length+1) R none)=some (eZ::xs):=(Acc.aq o eZ xs h fs).read;refine⟨.aq J.next 0 (xs.length+1+(y::a4).length) R none,(J.set o .dead).push (.cells ((eZ::xs).flatMap AV.cells++(y::a4).flatMap AV.cells)),?_,?_,rfl,rfl,λi bV b_ ho=>?_⟩
  ·unfold appendO;rw[al,hx];show cond (cB (Go.Lyc.conf R) (eZ::xs)&&cB (Go.Lyc.conf R) (y::a4)&&Nat.ble ((3*((eZ::xs).length+(y::a4).length)+2000)*bytes) 281474976710656) _ none=_;rw[hall,cond_true];show(if R=R then(if Nat.blt o 0 then none else if Nat.beq 0 0 then some (AV.aq J.next 0 (xs.length+1+(y::a4).length) R none,(J.set o .dead).push (.cells ((eZ::xs).flatMap AV.cells++(y::a4).flatMap AV.cells))) else none) else none)=_;rw[if_pos I,if_neg (by simp[Nat.blt,Nat.ble]),if_pos (by rfl)]
  ·have e:(eZ::xs)++y::a4=eZ::(xs++y::a4):=rfl;rw[e];have aV:xs.length+1+(y::a4).length=(xs++y::a4).length+1:=by simp;omega
   rw[aV];refine .aq _ _ _ ?_ λz aZ=>?_
   ·have:(J.set o .dead).next=J.next:=rfl;rw[<-this,ag.ij];simp
   ·rcases gN.1 (show z∈(eZ::xs)++y::a4 from aZ) with aZ|aZ
    ·exact fs z aZ
    ·exact ae z aZ
  ·have hlt:=ag.cJ ho;rw[ag.fy trivial _ (show i<(J.set o .dead).next from hlt),ag.ji trivial _ (ag.cJ h),if_neg (λe=>b_ (by rw[e];rfl))];exact ho
def b4R{α β:Type}{f:α->Option β}{l:List α}{r:List β}(h:mapO f l=some r):r.length=l.length:=(nJ h).1
def Acc.freeze{J:ag}{R:Option Nat}{v:AV}{xs a4:List AV}{n:Nat}(h:Acc J R v xs)(hm:mapO (Go.Lyc.freeze J 0 n) xs=some a4):Go.Lyc.freeze J 0 (n+1) v=some (slA false R a4):=by
 cases h with
 |nil=>cases hm;rfl
 |aq o x xs h ae=>
  have al:readList J (.aq o 0 (xs.length+1) R none)=some (x::xs):=(Acc.aq o x xs h ae).read;show(if Nat.blt o 0 then none else match readList J (.aq o 0 (xs.length+1) R none) with
   |none=>none
   |some xs=>match mapO (Go.Lyc.freeze J 0 n) xs with|none=>none|some xs=>some (AV.aR false R xs))=_
  rw[if_neg (by simp[Nat.blt,Nat.ble]),al];show(match mapO (Go.Lyc.freeze J 0 n) (x::xs) with|none=>none|some xs=>some (AV.aR false R xs))=_;rw[hm];have:=b4R hm;cases a4 with
  |nil=>simp at this
  |cons y a4=>rfl
def Yp{J:ag}{n o len:Nat}{R cap:Option Nat}{c xs a4:List AV}(hg:J.get o=some (.cells c))(he:elems R len c=some xs)(hm:mapO (Go.Lyc.freeze J 0 n) xs=some a4):Go.Lyc.freeze J 0 (n+1) (.aq o 0 len R cap)=some (.aR false R a4):=by
 show(if Nat.blt o 0 then none else match readList J (.aq o 0 len R cap) with
   |none=>none
   |some xs=>match mapO (Go.Lyc.freeze J 0 n) xs with|none=>none|some xs=>some (AV.aR false R xs))=_
 have al:readList J (.aq o 0 len R cap)=some xs:=by
  show(match J.get o with|some (.cells c)=>elems R len (c.drop 0)|_=>none)=_;rw[hg];exact he
 rw[if_neg (by simp[Nat.blt,Nat.ble]),al];show(match mapO (Go.Lyc.freeze J 0 n) xs with|none=>none|some xs=>some (AV.aR false R xs))=_;rw[hm]
section
variable {env:Env}{aJ:Option Nat}{D:List (Nat ⊕ (AV×List AV))}{n:Nat}{f:Nat->AV}{J:ag}{Q:eR}
def JW{av:aH->Option AV}{R:Option Nat}{bytes:Nat}{s x:aH}{a b v:AV}{af:ag}(h1:av s=some a)(h2:av x=some b)(h:appendO 0 J R bytes a b=some (v,af)):opx 0 av J (.append R bytes s x)=some (.val v af):=by
 show(match av s,av x with
  |some s,some x=>(match appendO 0 J R bytes s x with|some (v,J)=>some (bH.val v J)|none=>none)
  |_,_=>none)=_
 rw[h1,h2];show(match appendO 0 J R bytes a b with|some (v,J)=>some (bH.val v J)|none=>none)=_;rw[h]
def ab.append{d:Nat}{R:Option Nat}{bytes:Nat}{s x:aH}{g:Option (Nat×Bool)}{wn:List Nat}{ops:List aX}{a b:AV}{xs a4:List AV}{y:AV}(hA:Acc J R a xs)(hx:newOf J b=some (y::a4))(ae:∀z∈y::a4,conf R z=true)(hb:(3*(xs.length+(y::a4).length)+2000)*bytes<=281474976710656)
  (an:Nat.blt d n=true) (hw:gj g n f=true) (h1:dc env n f s=some a) (h2:dc env n f x=some b)
  (h:∀v af,Acc af R v (xs++y::a4)->v.dU =some J.next->af.next=J.next+1->(∀i o,a.dU ≠some i->J.get i=some o->af.get i=some o)->dE env aJ D n ops (cY f d v) af Q):dE env aJ D n (⟨some d,.append R bytes s x,g,wn⟩::ops) f J Q:=by
 obtain⟨a_,af,a9,bt,cW,eD,e4⟩:=hA.append hx ae hb;exact ab.val an hw (JW h1 h2 a9) (h a_ af bt cW eD e4)
def ab.Yq{d d0:Nat}{R:Option Nat}{bytes:Nat}{z:List AV}{s x:aH}{wn PZ:List Nat}{ops:List aX}{a y:AV}{xs:List AV}(hA:Acc J R a xs)(py:Nat.blt d0 n=true)(au:opx 0 (dc env n f) J (.buildSlice R 1 z [(0,x)])=some (.val (.aq J.next 0 1 R (some 1)) (J.push (.cells y.cells))))(ae:conf R y=true)
  (hb:(3*(xs.length+1)+2000)*bytes<=281474976710656) (an:Nat.blt d n=true) (h1:dc env n (cY f d0 (.aq J.next 0 1 R (some 1))) s=some a)
  (h:∀v af,Acc af R v (xs++[y])->v.dU =some (J.next+1)->af.next=J.next+2->(∀i o,a.dU ≠some i->J.get i=some o->af.get i=some o)->dE env aJ D n ops (cY (cY f d0 (.aq J.next 0 1 R (some 1))) d v) af Q):
  dE env aJ D n (⟨some d0,.buildSlice R 1 z [(0,x)],none,wn⟩::⟨some d,.append R bytes s (.t d0),none,PZ⟩::ops) f J Q:=by
 refine ab.val py I au ?_;have hr:Acc (J.push (.cells y.cells)) R a xs:=hA.bK λi o _ ho=>by rw[ag.fy trivial _ (ag.cJ ho)];exact ho
 have pj:newOf (J.push (.cells y.cells)) (.aq J.next 0 1 R (some 1))=some [y]:=by
  show readList (J.push (.cells y.cells)) (.aq J.next 0 1 R (some 1))=_;show(match(J.push (.cells y.cells)).get J.next with|some (.cells c)=>elems R 1 (c.drop 0)|_=>none)=_;rw[ag.ij];have:=tz (R:=R) (xs:=[y]) (r:=[]) (by intro w hw;rw[dx.1 hw];exact ae);simpa using this
 refine ab.append hr pj (by intro w hw;rw[dx.1 hw];exact ae) hb an I h1 ?_ λv af db cK et kW=>h v af db cK et λi o hi ho=>kW i o hi (by rw[ag.fy trivial _ (ag.cJ ho)];exact ho);show cond (Nat.blt d0 n) (some (cond (Nat.beq d0 d0) _ (f d0))) none=_;rw[py,fE];rfl
end
end
section
open Go.RowKit
inductive Tm where
 |mk (var:Bool) (name:List Nat) (args:Option (List Tm))
inductive Fm where
 |mk (op:Nat) (name:List Nat) (args:Option (List Tm)) (sub:Option (List Fm))
def Tm.var:Tm->Bool| .mk v _ _=>v
def Tm.name:Tm->List Nat| .mk _ n _=>n
def Tm.cP:Tm->Option (List Tm)| .mk _ _ a=>a
def Tm.args(t:Tm):List Tm:=t.cP.getD []
def Fm.op:Fm->Nat| .mk o _ _ _=>o
def Fm.name:Fm->List Nat| .mk _ n _ _=>n
def Fm.cP:Fm->Option (List Tm)| .mk _ _ a _=>a
def Fm.args(f:Fm):List Tm:=f.cP.getD []
def Fm.d_:Fm->Option (List Fm)| .mk _ _ _ s=>s
def Fm.sub(f:Fm):List Fm:=f.d_.getD []
def osl(o:Bool)(R:Option Nat):Option (List AV)->AV
 |none=>.aj
 |some l=>.aR o R l
mutual
def Tm.cells(o:Bool):Tm->List AV
 | .mk v n none=>[.b v,.s n,.aj]
 | .mk v n (some l)=>[.b v,.s n,.aR o (some 3) (Tm.lA o l)]
def Tm.lA(o:Bool):List Tm->List AV
 |[]=>[]
 |t::l=>.ad (t.cells o)::Tm.lA o l
end
def Tm.A(o:Bool)(t:Tm):AV:=.ad (t.cells o)
def Tm.zA(o:Bool):∀l,Tm.lA o l=l.map (Tm.A o)
 |[]=>by simp[Tm.lA]
 |t::l=>by rw[Tm.lA,Tm.zA o l];rfl
def cy(o:Bool)(l:Option (List Tm)):AV:=osl o (some 3) (l.map λl=>l.map (Tm.A o))
def Tm.gJ(o:Bool)(t:Tm):t.cells o=[.b t.var,.s t.name,cy o t.cP]:=by
 obtain⟨v,n,a⟩:=t;cases a with
 |none=>rw[Tm.cells];rfl
 |some l=>rw[Tm.cells,Tm.zA];rfl
mutual
def Fm.cells(o:Bool):Fm->List AV
 | .mk op n a none=>[.i .u8 (Int.ofNat op),.s n,cy o a,.aj]
 | .mk op n a (some l)=>[.i .u8 (Int.ofNat op),.s n,cy o a,.aR o (some 4) (Fm.lA o l)]
def Fm.lA(o:Bool):List Fm->List AV
 |[]=>[]
 |f::l=>.ad (f.cells o)::Fm.lA o l
end
def Fm.A(o:Bool)(f:Fm):AV:=.ad (f.cells o)
def Fm.zA(o:Bool):∀l,Fm.lA o l=l.map (Fm.A o)
 |[]=>by simp[Fm.lA]
 |f::l=>by rw[Fm.lA,Fm.zA o l];rfl
def fa(o:Bool)(l:Option (List Fm)):AV:=osl o (some 4) (l.map λl=>l.map (Fm.A o))
def Fm.gJ(o:Bool)(f:Fm):f.cells o=[.i .u8 (Int.ofNat f.op),.s f.name,cy o f.cP,fa o f.d_]:=by
 obtain⟨op,n,a,s⟩:=f;cases s with
 |none=>rw[Fm.cells];rfl
 |some l=>rw[Fm.cells,Fm.zA];rfl
def Yr{α β:Type}{f:α->β}:∀ {l m:List α},(∀x∈l,∀y,f x=f y->x=y)->l.map f=m.map f->l=m
 |[],[],_,_=>rfl
 |[],_::_,_,h=>by simp at h
 |_::_,[],_,h=>by simp at h
 |a::l,b::m,hf,h=>by
  simp only[mv,rk] at h;rw[hf a aT b h.1,Yr (λx hx=>hf x (fP _ hx)) h.2]
mutual
def Tm.JX(o:Bool):∀(t u:Tm),t.cells o=u.cells o->t=u
 | .mk v n none,.mk a_ ft none,h=>by simp only[Tm.cells,rk,AV.b.injEq,AV.s.injEq] at h;rw[h.1,h.2.1]
 | .mk v n none,.mk a_ ft (some l),h=>by simp[Tm.cells] at h
 | .mk v n (some l),.mk a_ ft none,h=>by simp[Tm.cells] at h
 | .mk v n (some l),.mk a_ ft (some bq),h=>by
  simp only[Tm.cells,rk,AV.b.injEq,AV.s.injEq,AV.aR.injEq,true_and,and_true] at h;rw[h.1,h.2.1,Tm.B0 o l bq h.2.2]
def Tm.B0(o:Bool):∀(l m:List Tm),Tm.lA o l=Tm.lA o m->l=m
 |[],[],_=>rfl
 |[],_::_,h=>by simp[Tm.lA] at h
 |_::_,[],h=>by simp[Tm.lA] at h
 |a::l,b::m,h=>by
  simp only[Tm.lA,rk,AV.ad.injEq] at h;rw[Tm.JX o a b h.1,Tm.B0 o l m h.2]
end
def E0{o:Bool}{a b:Option (List Tm)}(h:cy o a=cy o b):a=b:=by
 cases a with
 |none=>cases b with
  |none=>rfl
  |some m=>cases h
 |some l=>cases b with
  |none=>cases h
  |some m=>
   simp only[cy,osl,H0,AV.aR.injEq,true_and] at h;rw[<-Tm.zA,← Tm.zA] at h;rw[Tm.B0 o l m h]
mutual
def Fm.JX(o:Bool):∀(f g:Fm),f.cells o=g.cells o->f=g
 | .mk p n a none,.mk ef ft cC none,h=>by simp only[Fm.cells,rk,AV.i.injEq,AV.s.injEq,true_and] at h;rw[ot h.1,h.2.1,E0 h.2.2.1]
 | .mk p n a none,.mk ef ft cC (some l),h=>by simp[Fm.cells] at h
 | .mk p n a (some l),.mk ef ft cC none,h=>by simp[Fm.cells] at h
 | .mk p n a (some l),.mk ef ft cC (some bq),h=>by
  simp only[Fm.cells,rk,AV.i.injEq,AV.s.injEq,AV.aR.injEq,true_and,and_true] at h;rw[ot h.1,h.2.1,E0 h.2.2.1,Fm.B0 o l bq h.2.2.2]
def Fm.B0(o:Bool):∀(l m:List Fm),Fm.lA o l=Fm.lA o m->l=m
 |[],[],_=>rfl
 |[],_::_,h=>by simp[Fm.lA] at h
 |_::_,[],h=>by simp[Fm.lA] at h
 |a::l,b::m,h=>by
  simp only[Fm.lA,rk,AV.ad.injEq] at h;rw[Fm.JX o a b h.1,Fm.B0 o l m h.2]
end
def Fm.qL{o:Bool}{f g:Fm}(h:f.A o=g.A o):f=g:=Fm.JX o f g (by unfold Fm.A at h;injection h)
mutual
def Tm.dep:Tm->Nat
 | .mk _ _ none=>1
 | .mk _ _ (some l)=>Tm.cv l+1
def Tm.cv:List Tm->Nat
 |[]=>0
 |t::l=>max t.dep (Tm.cv l)
end
mutual
def Fm.dep:Fm->Nat
 | .mk _ _ a none=>Tm.cv (a.getD [])+1
 | .mk _ _ a (some l)=>max (Tm.cv (a.getD [])) (Fm.cv l)+1
def Fm.cv:List Fm->Nat
 |[]=>0
 |f::l=>max f.dep (Fm.cv l)
end
def Tm.vr:∀ {l:List Tm} {t:Tm},t∈l->t.dep<=Tm.cv l
 |[],_,h=>by simp at h
 |g::l,f,h=>by
  rw[Tm.cv];rcases eH.1 h with rfl|h
  ·omega
  ·have:=Tm.vr h;omega
def Fm.vr:∀ {l:List Fm} {t:Fm},t∈l->t.dep<=Fm.cv l
 |[],_,h=>by simp at h
 |g::l,f,h=>by
  rw[Fm.cv];rcases eH.1 h with rfl|h
  ·omega
  ·have:=Fm.vr h;omega
def Tm.e0(t:Tm):t.dep=Tm.cv t.args+1:=by
 obtain⟨v,n,a⟩:=t;cases a with
 |none=>rw[Tm.dep];simp[Tm.args,Tm.cP,Tm.cv]
 |some l=>rw[Tm.dep];rfl
def Fm.e0(f:Fm):f.dep=max (Tm.cv f.args) (Fm.cv f.sub)+1:=by
 obtain⟨op,n,a,s⟩:=f;cases s with
 |none=>rw[Fm.dep];simp[Fm.args,Fm.cP,Fm.sub,Fm.d_,Fm.cv]
 |some l=>rw[Fm.dep];rfl
def Tm.l9{t u:Tm}(h:u∈t.args):u.dep<t.dep:=by have:=Tm.vr h;rw[Tm.e0 t];omega
def Fm.l9{f:Fm}{u:Tm}(h:u∈f.args):u.dep<f.dep:=by have:=Tm.vr h;rw[Fm.e0 f];omega
def Fm.pH{f g:Fm}(h:g∈f.sub):g.dep<f.dep:=by have:=Fm.vr h;rw[Fm.e0 f];omega
variable [Tok][TokOk]
def xt{α:Type}{J:ag}{k:Nat}{o:Bool}{R:Option Nat}{l:Option (List α)}{g zq:α->AV}(h:∀x∈l.getD [],bp J k (g x)=some (zq x)):bp J (k+1) (osl o R (l.map λl=>l.map g))=some (osl true R (l.map λl=>l.map zq)):=by
 cases l with
 |none=>rfl
 |some l=>
  show(match mapO (bp J k) (l.map g) with|none=>none|some xs=>some (AV.aR true R xs))=_;rw[Yi (l:=l) (h:=zq) λx hx=>h x hx];rfl
def Ys{J:ag}{k:Nat}{l bq:List AV}(h:mapO (bp J k) l=some bq):bp J (k+1) (.ad l)=some (.ad bq):=by
 show(match mapO (bp J k) l with|none=>none|some l=>some (AV.ad l))=_;rw[h]
def Tm.snap(J:ag)(o:Bool):∀(d:Nat) (t:Tm) (k:Nat),t.dep<=d->2*d+1<=k->bp J k (t.A o)=some (t.A true)
 |0,t,k,h,_=>by rw[Tm.e0] at h;omega
 |d+1,t,k,h,aC=>by
  obtain⟨k,rfl⟩:∃j,k=j+3:=⟨k-3,U⟩
  unfold Tm.A;rw[Tm.gJ,Tm.gJ];refine Ys ?_;have e:bp J (k+2) (cy o t.cP)=some (cy true t.cP):=xt (k:=k+1) λx hx=>Tm.snap J o d x (k+1) (by have:=Tm.l9 (t:=t) hx;omega) U;rw[dg,dg,dg,e];rfl
def Fm.snap(J:ag)(o:Bool):∀(d:Nat) (f:Fm) (k:Nat),f.dep<=d->2*d+1<=k->bp J k (f.A o)=some (f.A true)
 |0,f,k,h,_=>by rw[Fm.e0] at h;omega
 |d+1,f,k,h,aC=>by
  obtain⟨k,rfl⟩:∃j,k=j+3:=⟨k-3,U⟩
  unfold Fm.A;rw[Fm.gJ,Fm.gJ];refine Ys ?_;have aF:bp J (k+2) (cy o f.cP)=some (cy true f.cP):=xt (k:=k+1) λx hx=>Tm.snap J o d x (k+1) (by have:=Fm.l9 (f:=f) hx;omega) U;have aV:bp J (k+2) (fa o f.d_)=some (fa true f.d_):=xt (k:=k+1) λx hx=>Fm.snap J o d x (k+1) (by have:=Fm.pH (f:=f) hx;omega) U;rw[dg,dg,dg,dg,aF,aV];rfl
def P0{α:Type}{J:ag}{o:Bool}{R:Option Nat}{l:Option (List α)}{g:α->AV}:lenA J 1 (osl o R (l.map λl=>l.map g))=some (l.getD []).length:=by
 cases l with
 |none=>rfl
 |some l=>show some (l.map g).length=_;rw[cb];rfl
def E1{α:Type}{o:Bool}{R:Option Nat}{l:Option (List α)}{g:α->AV}{i:Nat}(h:i<(l.getD []).length):idxSlA R (osl o R (l.map λl=>l.map g)) i=some (.dk o (g ((l.getD [])[i]))):=by
 cases l with
 |none=>simp at h
 |some l=>
  refine Yd ?_;have h:i<l.length:=h;rw[EY (by simpa using h),ic];rfl
def Tm.len(o:Bool)(t:Tm):(t.cells o).length=3:=by rw[Tm.gJ];rfl
def Fm.len(o:Bool)(f:Fm):(f.cells o).length=4:=by rw[Fm.gJ];rfl
def Tm.conf(o:Bool)(t:Tm):conf (some 3) (t.A o)=true:=by unfold Tm.A;rw[Tm.gJ];rfl
def Fm.conf(o:Bool)(f:Fm):conf (some 4) (f.A o)=true:=by unfold Fm.A;rw[Fm.gJ];rfl
def Tm.a0(o:Bool)(t:Tm):dB (some 3) ((t.cells o).drop 0)=some (t.A o):=by unfold Tm.A;rw[Tm.gJ];rfl
def Fm.a0(o:Bool)(f:Fm):dB (some 4) ((f.cells o).drop 0)=some (f.A o):=by unfold Fm.A;rw[Fm.gJ];rfl
def Tm.JY(o:Bool)(t:Tm):dB none ((t.cells o).drop 0)=some (.b t.var):=by rw[Tm.gJ];rfl
def Tm.tA(o:Bool)(t:Tm):dB none ((t.cells o).drop 1)=some (.s t.name):=by rw[Tm.gJ];rfl
def Tm.qM(o:Bool)(t:Tm):dB none ((t.cells o).drop 2)=some (cy o t.cP):=by rw[Tm.gJ];rfl
def Fm.vs(o:Bool)(f:Fm):dB none ((f.cells o).drop 0)=some (.i .u8 (Int.ofNat f.op)):=by rw[Fm.gJ];rfl
def Fm.tA(o:Bool)(f:Fm):dB none ((f.cells o).drop 1)=some (.s f.name):=by rw[Fm.gJ];rfl
def Fm.qM(o:Bool)(f:Fm):dB none ((f.cells o).drop 2)=some (cy o f.cP):=by rw[Fm.gJ];rfl
def Fm.E2(o:Bool)(f:Fm):dB none ((f.cells o).drop 3)=some (fa o f.d_):=by rw[Fm.gJ];rfl
def lr{J:ag}{o:Bool}{l:Option (List Tm)}:lenA J 1 (cy o l)=some (l.getD []).length:=P0
def qN{J:ag}{o:Bool}{l:Option (List Fm)}:lenA J 1 (fa o l)=some (l.getD []).length:=P0
def oR{o:Bool}{l:Option (List Tm)}{i:Nat}(h:i<(l.getD []).length):idxSlA (some 3) (cy o l) i=some (.dk o (((l.getD [])[i]).A o)):=E1 h
def tB{o:Bool}{l:Option (List Fm)}{i:Nat}(h:i<(l.getD []).length):idxSlA (some 4) (fa o l) i=some (.dk o (((l.getD [])[i]).A o)):=E1 h
mutual
def Fm.parts:Fm->List Fm
 | .mk op n a none=>[.mk op n a none]
 | .mk op n a (some l)=>.mk op n a (some l)::Fm.eA l
def Fm.eA:List Fm->List Fm
 |[]=>[]
 |f::l=>f.parts++Fm.eA l
end
def Fm.parts_eq(f:Fm):f.parts=f::Fm.eA f.sub:=by
 obtain⟨op,n,a,s⟩:=f;cases s with
 |none=>rw[Fm.parts];simp[Fm.sub,Fm.d_,Fm.eA]
 |some l=>rw[Fm.parts];rfl
mutual
def Tm.parts:Tm->List Tm
 | .mk v n none=>[.mk v n none]
 | .mk v n (some l)=>.mk v n (some l)::Tm.eA l
def Tm.eA:List Tm->List Tm
 |[]=>[]
 |f::l=>f.parts++Tm.eA l
end
def Tm.parts_eq(f:Tm):f.parts=f::Tm.eA f.args:=by
 obtain⟨v,n,s⟩:=f;cases s with
 |none=>rw[Tm.parts];simp[Tm.args,Tm.cP,Tm.eA]
 |some l=>rw[Tm.parts];rfl
inductive Tm.fA:Tm->Prop
 |mk {v:Bool} {n:List Nat} {a:Option (List Tm)} (ao:(a.getD []).length<2^62) (h:∀x∈a.getD [],Tm.fA x):Tm.fA (.mk v n a)
inductive Fm.fA:Fm->Prop
 |mk {op:Nat} {n:List Nat} {a:Option (List Tm)} {s:Option (List Fm)} (gW:(a.getD []).length<2^62) (ha:∀x∈a.getD [],Tm.fA x) (ao:(s.getD []).length<2^62) (h:∀x∈s.getD [],Fm.fA x):Fm.fA (.mk op n a s)
def Tm.fA.len{t:Tm}(h:t.fA):t.args.length<2^62:=by cases h with|mk ao _=>exact ao
def Tm.fA.arg{t:Tm}(h:t.fA):∀x∈t.args,x.fA:=by cases h with|mk _ h=>exact h
def Fm.fA.B1{t:Fm}(h:t.fA):t.args.length<2^62:=by cases h with|mk ao _ _ _=>exact ao
def Fm.fA.arg{t:Fm}(h:t.fA):∀x∈t.args,x.fA:=by cases h with|mk _ h _ _=>exact h
def Fm.fA.JZ{t:Fm}(h:t.fA):t.sub.length<2^62:=by cases h with|mk _ _ ao _=>exact ao
def Fm.fA.vh{t:Fm}(h:t.fA):∀x∈t.sub,x.fA:=by cases h with|mk _ _ _ h=>exact h
end
section
variable [Tok][TokOk]
open Go Go.RowKit Go.ChangeShapes Go.WideShapes
def b4S{H:Type}{enc:TypeId×Value->H}{P:Program}{f:Func}{s:ChangeSpec}{apart fresh handsOn:Bool}{W W':World}{args:Array Value}{ds:List (DataW H)}{E3:TypeId}{aE yU:List MemPlace}
  (hf:f.resultTypes= #[E3]) (hb:P.underlying E3=some .bool) (au:s.vars=[]) (hfn:s.fn H ds={results:=[.lit (.bool true)],args:=ds})
  (hW:DataW.Whole enc P f.params.toList s.vars apart W args.toList ds [] aE) (pw:DataW.TrodAll enc P W' 0 (λb=>decide (b<W.heap.size)) true f.params.toList args.toList ds yU)
  (aC:∀b,b<W.heap.size->W'.heap[b]? =W.heap[b]?) (kD:W'.os=W.os) (kE:W'.output=W.output):s.post enc P f apart fresh handsOn false W args (.bool true) W':=by
 refine⟨ds,[],aE,[],yU,[],hW,?_,?_,?_,b4B aC kD kE,λh=>by cases h⟩
 ·rw[fp,hfn,hf];exact trodAll_mk1 (shut_bool hb _)
 ·rw[fp,hfn];exact pw
 ·rw[fp,hfn,au];rfl
def calls_trueS{H:Type}{enc:TypeId×Value->H}{P:Program}{env:Env}{f:Func}{s:ChangeSpec}{apart fresh handsOn:Bool}{W:World}{args:Array Value}{ds:List (DataW H)}{E3:TypeId}{g:Nat}{aB:List AV}{aE yU:List MemPlace}
  (cg:∀bN,SpecEntry P env bN g aB (.b true)) (cc:Globs env W W.heap.size) (ha:bF W (λ_=>none) (λ_=>False) W.heap.size aB args.toList)
  (hf:f.resultTypes= #[E3]) (hb:P.underlying E3=some .bool) (au:s.vars=[]) (hfn:s.fn H ds={results:=[.lit (.bool true)],args:=ds})
  (hW:DataW.Whole enc P f.params.toList s.vars apart W args.toList ds [] aE) (pw:∀W':World,Below W.heap.size W W'->DataW.TrodAll enc P W' 0 (λb=>decide (b<W.heap.size)) true f.params.toList args.toList ds yU):
  Calls P g args W λe W'=>∃v,e= .returned v/\s.post enc P f apart fresh handsOn false W args v W':=by
 refine((cg W.heap.size).calls (b6 _) cc ha).mono λe W' ⟨u,he,hR,cj,aC,kD,mD,kE⟩=>?_;cases hR;exact⟨_,he,b4S hf hb au hfn hW (pw W' ⟨kD,mD,kE,cj,aC⟩) aC kD kE⟩
def bytes_R{H:Type}{enc:TypeId×Value->H}{P:Program}{W:World}{t e:TypeId}{v:Value}{d:DataW H}{aE:List MemPlace}{xg:Nat}(ht:P.underlying t=some (.slice e))(he:P.underlying e=some (.int .u8))(ae:P.cellsOf e=1)
  (hval:Value.okWide P W .any xg t v) (an:DataW.Trod enc P W 0 (λ_=>true) true t v d aE):
  ∃o:Option (List Nat),az W (λ_=>none) (λ_=>False) W.heap.size (osl true none (o.map λl=>l.map λc=>AV.i .u8 (Int.ofNat c))) v/\(∀c∈o.getD [],c<256)/\(o=none\/∃es sp,d= .slice es sp/\(o.getD []).length=es.length):=by
 obtain⟨a,len,cap,rfl⟩:=okWide_slice ht hval;obtain⟨fuel,hf⟩:=an;rcases open_ints ht he ae hf with⟨h0,_⟩|⟨cC,b4T,ec,dv,h0,_,ao,hm,aZ,hx,y8,zu⟩
 ·have h0:[Value.slice a len cap]=[.slice none 0 0]:=h0;injection h0 with h0 _
  rw[h0];exact⟨none,.aj,aT,.inl I⟩
 ·have h0:[Value.slice a len cap]=[.slice (some cC) b4T ec]:=h0;injection h0 with h0 _
  injection h0 with h1 h2 h3
  subst h1 h2 h3;have hval:cC.spot=none/\∃row cells,W.shape? cC.block=some (row,cells):=by
   have au:=hval;simp only[Value.okWide,ht,Cell.okWide,Cell.ok] at au;obtain⟨_,_,_,h,row,cells,h2,_⟩:=au;exact⟨h,row,cells,h2⟩
  obtain⟨ei,row,cells,P1⟩:=hval;obtain⟨aA,off,sp⟩:=cC;have ei:sp=none:=ei;subst ei;have nd:dv.length=cap:=by simpa using aZ
  have hb:∀i,i<dv.length->0<=dv.getD i 0/\dv.getD i 0<=255:=λi hi=>by
   have hm:dv.getD i 0∈dv:=by
    rw[nQ,eS hi];exact c3 hi
   exact bounds_u8 (zu _ hm)
  refine⟨some ((dv.take len).map Int.toNat),?_,λc ae=>?_,.inr ⟨_,_,congrArg Prod.fst hx,by simp[lits]⟩⟩
  ·have e:osl true none ((some ((dv.take len).map Int.toNat)).map λl=>l.map λc=>AV.i .u8 (Int.ofNat c))= .aR true none (((dv.take len).map Int.toNat).map λc=>AV.i .u8 (Int.ofNat c)):=rfl;rw[e];have hlen:(((dv.take len).map Int.toNat).map λc=>AV.i .u8 (Int.ofNat c)).length=len:=by simp;omega
   have fG:∀i (h:i<(((dv.take len).map Int.toNat).map λc=>AV.i .u8 (Int.ofNat c)).length),(((dv.take len).map Int.toNat).map λc=>AV.i .u8 (Int.ofNat c))[i]= .i .u8 (dv.getD i 0):=λi h=>by
    rw[hlen] at h;have:=(hb i U).1;simp only[ic,Dl]
    congr 1
    rw[nQ,eS U] at this ⊢;show((dv[i].toNat:Nat):Int)=dv[i];exact Int.toNat_of_nonneg this
   have key:=az.aR (w:=W) (m:=λ_=>none) (O:=λ_=>False) (B:=W.heap.size) (old:=true) (R:=none) (xs:=((dv.take len).map Int.toNat).map λc=>AV.i .u8 (Int.ofNat c)) (aA:=aA) (off:=off) (ec:=cap) (λi _=>.int .u8 (dv.getD i 0))
    (λ_=>⟨λh=>h,?_,λh=>by cases h⟩) (λi h=>by rw[fG i h];rfl) (λi h j aG=>?_) (λi h j aG=>?_) (by rw[hlen];exact ao) (λv au x hx=>?_) (λ_=>rfl)
   ·rwa[hlen] at key
   ·unfold World.shape? at P1;cases hh:W.heap[aA]? with
    |none=>rw[hh] at P1;cases P1
    |some o=>exact(yC.1 hh).1
   ·rw[hlen] at h;rw[fG i (by rw[hlen];exact h)] at aG;have aG:j<1:=aG;obtain rfl:j=0:=by omega
    have:=y8 i U;rw[add_plain] at this;show W.cell? ⟨aA,off+i*1+0,none⟩=_;rw[Nat.mul_one,yD];exact this
   ·have hg:=fG i h;generalize(((dv.take len).map Int.toNat).map λc=>AV.i .u8 (Int.ofNat c))[i]=y at hg aG ⊢;subst hg;have fj:j<1:=aG;obtain rfl:j=0:=by omega
    exact .i _ _
   ·obtain⟨c,_,rfl⟩:=di.1 au;have hx:x∈[AV.i .u8 (Int.ofNat c)]:=hx;rw[dx.1 hx];rfl
  ·have ae:c∈(dv.take len).map Int.toNat:=ae;obtain⟨z,aZ,rfl⟩:=di.1 ae;have:=bounds_u8 (zu z (oo aZ));omega
end
section
variable [Tok][TokOk]
open Go.RowKit
def bw.mono{env:Env}{floor:Nat}{bx:AV}{args:List AV}{J:ag}{Q l7:cQ->ag->Prop}(h:bw env floor bx args J Q)(aP:∀r af,Q r af->l7 r af):bw env floor bx args J l7:=df.mono h λ_ ho=>aP _ _ ho
def cO(env:Env)(D gy:List (Nat ⊕ (AV×List AV)))(n:Nat)(c:bC)(f:Nat->AV)(J:ag)(Q:eR):Prop:=∀ai,g6 D n f ai->fI env 0 none c ai J (BW gy n Q)
section
variable {env:Env}{D gy O9:List (Nat ⊕ (AV×List AV))}{n:Nat}{f:Nat->AV}{J:ag}{Q:eR}
def cO.plain{c:bC}(h:ch env none D n c f J Q):cO env D D n c f J Q:=h
def cO.jT{a b:bC}(h:ch env none D n a f J (λx f J=>x= .normal/\cO env D gy n b f J Q)):cO env D gy n (.seq a b) f J Q:=λai bE=>fI.seq ((h ai bE).mono λx ai J ⟨f,h1,h2,h3⟩=>by subst h2;exact h3 ai h1)
def cO.xu{a b:bC}(h:cO env D gy n a f J (λx f J=>x= .normal/\ch env none gy n b f J Q)):cO env D gy n (.seq a b) f J Q:=λai bE=>fI.seq ((h ai bE).mono λx ai J ⟨f,h1,h2,h3⟩=>by subst h2;exact h3 ai h1)
def cO.block{a:bC}{id:Nat}(h:cO env D gy n a f J (λx f J=>x= .normal/\Q .normal f J)):cO env D gy n (.block id a) f J Q:=λai bE=>fI.block ((h ai bE).mono λx ai J ⟨f,h1,h2,h3⟩=>by subst h2;exact⟨f,h1,h3⟩)
def cO.range{jG:aH}{aE:List Nat}{as b:bC}{g:Nat}{first cap:List AV}(hf:dc env n f jG=some (.f (.func g) first cap))(he:env.ext g=0)
  (h:∀aq,(∀i,aq.get i=if i<n then some (f i) else none)->bw env 0 (.f (.func g) first cap) [.f (.yield (J.next+1)) [] []] ((J.push .dN).push (.loop .ready none aq aE as b J.next))
   (λr c8=>∃v st,r= .ok v/\c8.get (J.next+1)=some (.loop st none aq aE as b J.next)/\st≠ .busy/\Q .normal f (c8.set (J.next+1) (.loop .exhausted none aq aE as b J.next)))):
  cO env D (.inl J.next::D) n (.rangeFunc jG aE as b) f J Q:=λai bE=>by
 have h':=h ai.a5 bE.get;refine df.succ (df.then (g:=λx F=>rangeK (exec env F) 0 none ai (.inl J.next::ai.defers) (J.next+1) x) h' λo ho=>?_) λF=>?_
 ·obtain⟨r,c8⟩:=o;obtain⟨v,st,h1,h2,h3,aN⟩:=ho;have h1:r= .ok v:=h1;subst h1;have h2:c8.get (J.next+1)=some (.loop st none ai.a5 aE as b J.next):=h2;refine df.one (x:=(.normal,⟨ai.a5,.inl J.next::ai.defers,ai.fh⟩,c8.set (J.next+1) (.loop .exhausted none ai.a5 aE as b J.next))) (λF=>?_) ⟨f,⟨bE.get,by show _::ai.defers=_;rw[bE.ds],bE.rc⟩,aN⟩;show(match c8.get (J.next+1) with
   |some (.loop st lX uV m_ h6 eY dt)=>(match st with
    | .busy=>none
    |_=>match lX with
     |none=>some [(hd.normal,(⟨ai.a5,.inl J.next::ai.defers,ai.fh⟩:Fr),c8.set (J.next+1) (.loop .exhausted lX uV m_ h6 eY dt))]
     |some c=>exec env F 0 none c ⟨ai.a5,.inl J.next::ai.defers,ai.fh⟩ (c8.set (J.next+1) (.loop .exhausted lX uV m_ h6 eY dt)))
   |_=>none)=_
  rw[h2];cases st with
  |busy=>exact absurd I h3
  |_=>rfl
 ·rw[oJ];show(if Nat.blt J.next 0 then none else
   match evalA env ai.a5 jG with
   |some (.f (.func g) first cap)=>
    match Dx none ai J with
    |none=>none
    |some (d,bu,ds)=>
     match env.ext g with
     |0=>hP (callF env (exec env F) 0 g (first++AV.f (.yield bu.next) [] []::cap) (bu.push (.loop .ready none ai.a5 aE as b d))) (rangeK (exec env F) 0 none ai ds bu.next)
     |_=>none
   |_=>none)=_
  rw[if_neg (by simp[Nat.blt,Nat.ble]),bE.av,hf];show(match env.ext g with
     |0=>hP (callF env (exec env F) 0 g (first++AV.f (.yield (J.next+1)) [] []::cap) ((J.push .dN).push (.loop .ready none ai.a5 aE as b J.next))) (rangeK (exec env F) 0 none ai (.inl J.next::ai.defers) (J.next+1))
     |_=>none)=_
  rw[he];show hP (callF env (exec env F) 0 g (first++AV.f (.yield (J.next+1)) [] []::cap) _) _=hP (callF env (exec env F) 0 g (first++[AV.f (.yield (J.next+1)) [] []]++cap) _) _;rw[jD];rfl
end
def J0:List Nat->List AV->(Nat->AV)->Nat->AV
 |p::aE,a::as,f=>J0 aE as (cY f p a)
 |_,_,f=>f
def Yt{n:Nat}:∀ {aE:List Nat} {args:List AV} {f:Nat->AV} {aq:aY AV},cB (λp=>Nat.blt p n) aE=true->(∀i,aq.get i=if i<n then some (f i) else none)->g6 [] n (J0 aE args f) ⟨layAll aE args aq,[],false⟩
 |[],_,f,aq,_,h=>⟨h,rfl,rfl⟩
 |p::aE,[],f,aq,_,h=>⟨h,rfl,rfl⟩
 |p::aE,a::args,f,aq,ay,h=>by
  have qI:Nat.blt p n=true:=by
   have ay:cond (Nat.blt p n) (cB (λp=>Nat.blt p n) aE) false=true:=ay;cases hb:Nat.blt p n with
   |true=>rfl
   |false=>rw[hb] at ay;cases ay
  have oP:cB (λp=>Nat.blt p n) aE=true:=by
   have ay:cond (Nat.blt p n) (cB (λp=>Nat.blt p n) aE) false=true:=ay;rw[qI] at ay;exact ay
  have h0:g6 [] n f ⟨aq,[],false⟩:=⟨h,rfl,rfl⟩
  exact Yt (f:=cY f p a) (aq:=aq.set p a) oP (h0.put a qI).get
def bw.round{env:Env}{l n:Nat}{f:Nat->AV}{J:ag}{aq:aY AV}{aE:List Nat}{as b:bC}{d:Nat}{args:List AV}{az:ag->Prop}(ao:J.get l=some (.loop .ready none aq aE as b d))(gi:∀i,aq.get i=if i<n then some (f i) else none)(qO:cB (λp=>Nat.blt p n) aE=true)(hlen:Nat.beq aE.length args.length=true)
  (h:ch env (some l) [] n as (J0 aE args f) J (λx f1 bu=>x= .normal/\bu.get l=some (.loop .ready none aq aE as b d)∧
   ch env (some l) [] n b f1 (bu.set l (.loop .busy none aq aE as b d)) (λx _ bA=>x= .normal/\bA.get l=some (.loop .busy none aq aE as b d)/\az (bA.set l (.loop .ready none aq aE as b d))))):
  bw env 0 (.f (.yield l) [] []) args J (λr af=>r= .ok (.b true)/\az af):=by
 have h1:=h _ (Yt (args:=args) qO gi);refine df.congr (df.then (g:=λx F=>roundMid (exec env F) 0 l b x) h1 λo ho=>?_) λF=>?_
 ·obtain⟨x,eU,bu⟩:=o;obtain⟨f1,P2,hx,iV,h2⟩:=ho;have hx:x= .normal:=hx;subst hx;have iV:bu.get l=some (.loop .ready none aq aE as b d):=iV;refine df.congr (df.then (g:=λx _=>roundEnd l x) (h2 eU P2) λo ho=>?_) λF=>?_
  ·obtain⟨x,Yu,bA⟩:=o;obtain⟨f2,_,hx,qJ,hR⟩:=ho;have hx:x= .normal:=hx;subst hx;have qJ:bA.get l=some (.loop .busy none aq aE as b d):=qJ;refine df.one (x:=(.ok (.b true),bA.set l (.loop .ready none aq aE as b d))) (λ_=>?_) ⟨rfl,hR⟩;show(endRound bA l none).map (λx=>[x])=_;unfold endRound;rw[qJ];rfl
  ·show(match bu.get l with
    |some (.loop .ready lX uV m_ h6 eY dt)=>hP (exec env F 0 (some l) b eU (bu.set l (.loop .busy lX uV m_ h6 eY dt))) (roundEnd l)
    |_=>none)=_
   rw[iV]
 ·show(if Nat.blt l 0 then none else
   match J.get l with
   |some (.loop .ready _ aq aE as b _)=>cond (Nat.beq aE.length args.length) (hP (exec env F 0 (some l) as ⟨layAll aE args aq,[],false⟩ J) (roundMid (exec env F) 0 l b)) none
   |_=>none)=_
  rw[if_neg (by simp[Nat.blt,Nat.ble]),ao];show cond (Nat.beq aE.length args.length) _ none=_;rw[hlen,cond_true]
section
variable {env:Env}{aJ:Option Nat}{D:List (Nat ⊕ (AV×List AV))}{n:Nat}{f:Nat->AV}{J:ag}{Q:eR}
def ab.dW{d:Nat}{op:AOp}{g:Option (Nat×Bool)}{wn:List Nat}{ops:List aX}{bx:AV}{args:List AV}{az:cQ->ag->Prop}(an:Nat.blt d n=true)(hw:gj g n f=true)(ho:opx 0 (dc env n f) J op=some (.call bx args))(ae:bw env 0 bx args J az)
  (h:∀r af,az r af->∃v,r= .ok v/\dE env aJ D n ops (cY f d v) af Q):dE env aJ D n (⟨some d,op,g,wn⟩::ops) f J Q:=λai bE=>
 jR.call (by rw[bE.wanted];exact hw) (by rw[bE.av];exact ho) (ae.mono λr af al=>by
  obtain⟨v,rfl,au⟩:=h r af al;exact au _ (bE.put v an))
def bw.code{fn:Nat}{bG:bP}{body:bC}{dR:Nat}{first cap args:List AV}{az:cQ->ag->Prop}(he:env.ext fn=0)(ay:env.pure fn=false)(hf:env.funcs fn=some bG)(hb:bG.body=some body)
  (hn:(Nat.beq (first++args++cap).length bG.ig&&Nat.ble (first++args++cap).length bG.ntmps)=true) (dh:bG.results=[(dR,none)]) (vt:Nat.blt dR bG.ntmps=true)
  (h:aa env bG.ntmps body (eh (first++args++cap)) J (λx bD af=>x= .ret/\az (.ok (bD dR)) af)):bw env 0 (.f (.func fn) first cap) args J az:=by
 have hle:(first++args++cap).length<=bG.ntmps:=by
  simp only[c7] at hn;exact eb hn.2
 refine bw.run he ay hf hb hn ((h _ (qK hle)).mono λx bQ af ⟨bD,h1,h2,h3⟩=>?_);subst h2;exact⟨.ok (bD dR),af,Yf h1 dh vt,h3⟩
def bw.pI{fn:Nat}{bG:bP}{body:bC}{first cap args:List AV}{az:cQ->ag->Prop}(he:env.ext fn=0)(ay:env.pure fn=false)(hf:env.funcs fn=some bG)(hb:bG.body=some body)
  (hn:(Nat.beq (first++args++cap).length bG.ig&&Nat.ble (first++args++cap).length bG.ntmps)=true) (dh:bG.results=[])
  (h:aa env bG.ntmps body (eh (first++args++cap)) J (λx _ af=>(x= .ret\/x= .normal)/\az (.ok (.a6 [])) af)):bw env 0 (.f (.func fn) first cap) args J az:=by
 have hle:(first++args++cap).length<=bG.ntmps:=by
  simp only[c7] at hn;exact eb hn.2
 refine bw.run he ay hf hb hn ((h _ (qK hle)).mono λx bQ af ⟨bD,h1,h2,h3⟩=>?_);refine⟨.ok (.a6 []),af,?_,h3⟩;have e:endF env 0 bG (.ret,bQ,af)=some [(.ok (.a6 []),af)]:=by
  show(match leave 0 (callD env 0) bQ.defers none af with
   |none=>none
   |some (some v,J)=>some [(cQ.err v,J)]
   |some (none,J)=>match resultsOf J bQ.a5 bG.results with
    |some v=>some [(.ok v,J)]
    |none=>none)=_
  rw[h1.ds,dh];rfl
 rcases h2 with rfl|rfl
 ·exact e
 ·exact e
end
def Yv{env:Env}{fn:bP}{n d dR:Nat}{f:Nat->AV}{ai:Fr}{J:ag}(h1:g6 [.inl d] n f ai)(hm:J.get d=some .dN)(dh:fn.results=[(dR,none)])(an:Nat.blt dR n=true):endF env 0 fn (.ret,ai,J)=some [(.ok (f dR),J.set d .dead)]:=by
 show(match leave 0 (callD env 0) ai.defers none J with
  |none=>none
  |some (some v,J)=>some [(cQ.err v,J)]
  |some (none,J)=>match resultsOf J ai.a5 fn.results with
   |some v=>some [(.ok v,J)]
   |none=>none)=_
 have ao:leave 0 (callD env 0) ai.defers none J=some (none,J.set d .dead):=by
  rw[h1.ds];show(if Nat.blt d 0 then none else match J.get d with
   |some .dN=>some (none,J.set d .dead)
   |_=>none)=_
  rw[if_neg (by simp[Nat.blt,Nat.ble]),hm]
 rw[ao];show(match resultsOf (J.set d .dead) ai.a5 fn.results with|some v=>some [(cQ.ok v,J.set d .dead)]|none=>none)=_;rw[dh];have hg:=h1.get dR;have EU:dR<n:=eb an;rw[if_pos EU] at hg;have aF:resultOf (J.set d .dead) ai.a5 (dR,none)=some (f dR):=by
  unfold resultOf;rw[hg]
 have:resultsOf (J.set d .dead) ai.a5 [(dR,none)]=some (f dR):=by
  unfold resultsOf;have e:mapO (resultOf (J.set d .dead) ai.a5) [(dR,none)]=some [f dR]:=by
   unfold mapO;simp only[aF]
  rw[e]
 rw[this]
def bw.E4{env:Env}{J:ag}{fn:Nat}{bG:bP}{body:bC}{dR d:Nat}{first cap args:List AV}{az:cQ->ag->Prop}(he:env.ext fn=0)(ay:env.pure fn=false)(hf:env.funcs fn=some bG)(hb:bG.body=some body)
  (hn:(Nat.beq (first++args++cap).length bG.ig&&Nat.ble (first++args++cap).length bG.ntmps)=true) (dh:bG.results=[(dR,none)]) (vt:Nat.blt dR bG.ntmps=true)
  (h:cO env [] [.inl d] bG.ntmps body (eh (first++args++cap)) J (λx bD af=>x= .ret/\af.get d=some .dN/\az (.ok (bD dR)) (af.set d .dead))):bw env 0 (.f (.func fn) first cap) args J az:=by
 have hle:(first++args++cap).length<=bG.ntmps:=by
  simp only[c7] at hn;exact eb hn.2
 refine bw.run he ay hf hb hn ((h _ (qK hle)).mono λx bQ af ⟨bD,h1,h2,h3,aN⟩=>?_);subst h2;exact⟨.ok (bD dR),_,Yv h1 h3 dh vt,aN⟩
def b4U{P:Program}{b:b8}{K:Nat->List AV->AV->Prop}(hb:jb P b)(eg:vq P b K){g:Nat}{fn:bP}{body:bC}{aB:List AV}{dR d:Nat}(r:AV)(hf:b.funcs.get g=some fn)(iC:fn.body=some body)
  (hn:(Nat.beq aB.length fn.ig&&Nat.ble aB.length fn.ntmps)=true) (dh:fn.results=[(dR,none)]) (an:Nat.blt dR fn.ntmps=true) {ai:Nat} (al:gI ai r=true) (hG:AV.eqb 1000 r r=true)
  (h:cO (b.aQ K) [] [.inl d] fn.ntmps body (eh aB) ⟨.nil,0⟩ (λx f af=>x= .ret/\af.get d=some .dN/\freeze (af.set d .dead) 0 1000 (f dR)=some r)) (bN:Nat):SpecEntry P (b.env []) bN g aB r:=by
 have hle:aB.length<=fn.ntmps:=by
  simp only[c7] at hn;exact eb hn.2
 refine JN (env:=b.aQ K) (m:=1000) (BS _ _) ⟨λg bG hg=>pF.zy hb.funcs g bG hg⟩ (λbN g aB r ak=>eg g aB r (EW ak) bN) hb.ext hb.vo hf iC hn al ((h _ (qK hle)).mono λx ai af ⟨f,h1,h2,h3,aN⟩=>?_) hG bN;subst h2;exact⟨.ok (f dR),_,Yv h1 h3 dh an,_,rfl,aN⟩
def J1{α β:Type}{f g:α->Option β}:∀ {l:List α} {r:List β},mapO f l=some r->(∀x∈l,∀y,f x=some y->g x=some y)->mapO g l=some r
 |[],r,h,_=>by cases h;rfl
 |x::l,r,h,ay=>by
  rw[dg] at h;cases hx:f x with
  |none=>rw[hx] at h;cases h
  |some y=>
   rw[hx] at h;cases ao:mapO f l with
   |none=>rw[ao] at h;cases h
   |some a4=>
    rw[ao] at h;cases h;rw[dg,ay x aT y hx,J1 ao λw hw=>ay w (fP _ hw)]
def J2{α β Bg T:Type}(t0:T){f:α->Option β}{g:T->β->Option Bg}{h:α->Option Bg}:∀ {l:List α} {r:List β} {s:List Bg},mapO f l=some r->(∀t,mapO (g t) r=some s)->(∀x∈l,∀y z,f x=some y->(∀t,g t y=some z)->h x=some z)->mapO h l=some s
 |[],r,s,h1,h2,_=>by cases h1;have:=h2 t0;cases this;rfl
 |x::l,r,s,h1,h2,ay=>by
  rw[dg] at h1;cases hx:f x with
  |none=>rw[hx] at h1;cases h1
  |some y=>
   rw[hx] at h1;cases ao:mapO f l with
   |none=>rw[ao] at h1;cases h1
   |some a4=>
    rw[ao] at h1;cases h1;have h3:∀t,∃z dv,g t y=some z/\mapO (g t) a4=some dv/\s=z::dv:=λt=>by
     have:=h2 t;rw[dg] at this;cases aI:g t y with
     |none=>rw[aI] at this;cases this
     |some z=>
      rw[aI] at this;cases hm:mapO (g t) a4 with
      |none=>rw[hm] at this;cases this
      |some dv=>rw[hm] at this;cases this;exact⟨z,dv,rfl,rfl,rfl⟩
    obtain⟨z,dv,_,_,rfl⟩:=h3 t0;have aN:∀t,g t y=some z:=λt=>by obtain⟨I2,J3,a9,_,cW⟩:=h3 t;cases cW;exact a9
    have bY:∀t,mapO (g t) a4=some dv:=λt=>by obtain⟨I2,J3,_,bt,cW⟩:=h3 t;cases cW;exact bt
    rw[dg,ay x aT y z hx aN,J2 t0 ao bY λw hw=>ay w (fP _ hw)]
def P3{J:ag}{n:Nat}{o:Bool}{R:Option Nat}{xs:List AV}{w:AV}(h:bp J (n+1) (.aR o R xs)=some w):∃dv,mapO (bp J n) xs=some dv/\w= .aR true R dv:=by
 rw[snapshot_succ] at h;simp only[] at h;cases hm:mapO (bp J n) xs with
 |none=>rw[hm] at h;cases h
 |some dv=>rw[hm] at h;cases h;exact⟨dv,rfl,rfl⟩
def P4{J:ag}{n:Nat}{xs:List AV}{w:AV}(h:bp J (n+1) (.ad xs)=some w):∃dv,mapO (bp J n) xs=some dv/\w= .ad dv:=by
 rw[snapshot_succ] at h;simp only[] at h;cases hm:mapO (bp J n) xs with
 |none=>rw[hm] at h;cases h
 |some dv=>rw[hm] at h;cases h;exact⟨dv,rfl,rfl⟩
def Yw{J:ag}:∀(n:Nat) (v r w:AV),freeze J 0 n v=some r->(∀ah,bp ah n r=some w)->bp J n v=some w
 |0,_,_,_,h,_=>by cases h
 |n+1,v,r,w,h,ak=>by
  have ar:=Yw (J:=J) n;rw[freeze_succ] at h;cases v with
  |aq id off len R cap=>
   simp only[] at h;split at h
   ·cases h
   ·cases al:readList J (.aq id off len R cap) with
    |none=>rw[al] at h;cases h
    |some xs=>
     rw[al] at h;simp only[] at h;cases hm:mapO (freeze J 0 n) xs with
     |none=>rw[hm] at h;cases h
     |some a4=>
      rw[hm] at h;cases h;obtain⟨dv,_,rfl⟩:=P3 (ak J);have h2:∀ah,mapO (bp ah n) a4=some dv:=λah=>by obtain⟨J3,a9,bt⟩:=P3 (ak ah);cases bt;exact a9
      rw[snapshot_succ];simp only[];rw[al];simp only[];rw[J2 (⟨.nil,0⟩:ag) hm h2 λx _ y z aI aZ=>ar x y z aI aZ]
  |ad l=>
   simp only[] at h;cases hm:mapO (freeze J 0 n) l with
   |none=>rw[hm] at h;cases h
   |some a4=>
    rw[hm] at h;cases h;obtain⟨dv,_,rfl⟩:=P4 (ak J);have h2:∀ah,mapO (bp ah n) a4=some dv:=λah=>by obtain⟨J3,a9,bt⟩:=P4 (ak ah);cases bt;exact a9
    rw[snapshot_succ];simp only[];rw[J2 (⟨.nil,0⟩:ag) hm h2 λx _ y z aI aZ=>ar x y z aI aZ]
  |aR o R xs=>cases h;exact ak J
  |a6 l=>
   simp only[] at h;cases hm:mapO (freeze J 0 n) l with
   |none=>rw[hm] at h;cases h
   |some a4=>
    rw[hm] at h;cases h;have inv:∀ {ah:ag} {w:AV},bp ah (n+1) (.a6 a4)=some w->∃dv,mapO (bp ah n) a4=some dv/\w= .a6 dv:=λ{ah w} h=>by
     rw[snapshot_succ] at h;simp only[] at h;cases hm:mapO (bp ah n) a4 with
     |none=>rw[hm] at h;cases h
     |some dv=>rw[hm] at h;cases h;exact⟨dv,rfl,rfl⟩
    obtain⟨dv,_,rfl⟩:=inv (ak J);have h2:∀ah,mapO (bp ah n) a4=some dv:=λah=>by obtain⟨J3,a9,bt⟩:=inv (ak ah);cases bt;exact a9
    rw[snapshot_succ];simp only[];rw[J2 (⟨.nil,0⟩:ag) hm h2 λx _ y z aI aZ=>ar x y z aI aZ]
  |it t v=>
   simp only[] at h;cases hm:freeze J 0 n v with
   |none=>rw[hm] at h;cases h
   |some y=>
    rw[hm] at h;cases h;have inv:∀ {ah:ag} {w:AV},bp ah (n+1) (.it t y)=some w->∃z,bp ah n y=some z/\w= .it t z:=λ{ah w} h=>by
     rw[snapshot_succ] at h;simp only[] at h;cases hm:bp ah n y with
     |none=>rw[hm] at h;cases h
     |some z=>rw[hm] at h;cases h;exact⟨z,rfl,rfl⟩
    obtain⟨z,_,rfl⟩:=inv (ak J);have h2:∀ah,bp ah n y=some z:=λah=>by obtain⟨I2,a9,bt⟩:=inv (ak ah);cases bt;exact a9
    rw[snapshot_succ];simp only[];rw[ar v y z hm h2]
  |p a=>cases a with
   |none=>cases h;exact ak J
   |some a=>cases h
  |m a=>cases a with
   |none=>cases h;exact ak J
   |some a=>cases h
  |f _ _ _=>cases h
  |iA _ _ _=>cases h
  |_=>cases h;exact ak J
def Yx{J:ag}:∀(n:Nat) (v r:AV),freeze J 0 n v=some r->freeze J 0 (n+1) v=some r
 |0,_,_,h=>by cases h
 |n+1,v,r,h=>by
  have ar:=Yx (J:=J) n;rw[freeze_succ] at h ⊢;cases v with
  |aq id off len R cap=>
   simp only[] at h ⊢;split at h
   ·cases h
   ·rename_i hb;rw[if_neg hb];cases al:readList J (.aq id off len R cap) with
    |none=>rw[al] at h;cases h
    |some xs=>
     rw[al] at h;simp only[] at h ⊢;cases hm:mapO (freeze J 0 n) xs with
     |none=>rw[hm] at h;cases h
     |some a4=>rw[hm] at h;rw[J1 hm λx _ y aI=>ar x y aI];exact h
  |ad l=>
   simp only[] at h ⊢;cases hm:mapO (freeze J 0 n) l with
   |none=>rw[hm] at h;cases h
   |some a4=>rw[hm] at h;rw[J1 hm λx _ y aI=>ar x y aI];exact h
  |a6 l=>
   simp only[] at h ⊢;cases hm:mapO (freeze J 0 n) l with
   |none=>rw[hm] at h;cases h
   |some a4=>rw[hm] at h;rw[J1 hm λx _ y aI=>ar x y aI];exact h
  |it t v=>
   simp only[] at h ⊢;cases hm:freeze J 0 n v with
   |none=>rw[hm] at h;cases h
   |some y=>rw[hm] at h;rw[ar v y hm];exact h
  |p a=>cases a<;>exact h
  |m a=>cases a<;>exact h
  |_=>exact h
def Yy{J:ag}{n k:Nat}{v r:AV}(h:freeze J 0 n v=some r)(aC:n<=k):freeze J 0 k v=some r:=by
 induction aC with
 |refl=>exact h
 |step _ ar=>exact Yx _ _ _ ar
def xv(J:ag)(n:Nat)(F:Fm)(v:AV):Prop:=freeze J 0 n v=some (F.A false)
def xv.snap{J:ag}{n:Nat}{F:Fm}{v:AV}(h:xv J n F v)(an:2*F.dep+1<=n):bp J n v=some (F.A true):=Yw n v _ _ h λah=>Fm.snap ah false F.dep F n (b6 _) an
def Yz{env:Env}{fn:bP}{n d id off:Nat}{R:Option Nat}{f:Nat->AV}{ai:Fr}{J:ag}{c:List AV}{v:AV}(h1:g6 [] n f ai)(dh:fn.results=[(d,some R)])(an:Nat.blt d n=true)(ay:f d= .p (some (id,off)))(hg:J.get id=some (.cells c))(ht:dB R (c.drop off)=some v):
  endF env 0 fn (.ret,ai,J)=some [(.ok v,J)]:=by
 show(match leave 0 (callD env 0) ai.defers none J with
  |none=>none
  |some (some v,J)=>some [(cQ.err v,J)]
  |some (none,J)=>match resultsOf J ai.a5 fn.results with
   |some v=>some [(.ok v,J)]
   |none=>none)=_
 rw[h1.ds];show(match resultsOf J ai.a5 fn.results with|some v=>some [(cQ.ok v,J)]|none=>none)=_;rw[dh];have zB:=h1.get d;have EU:d<n:=eb an;rw[if_pos EU,ay] at zB;have aF:resultOf J ai.a5 (d,some R)=some v:=by
  show(match ai.a5.get d,some R with
   |some v,none=>some v
   |some (.p (some (id,off))),some R=>match J.get id with
    |some (.cells c)=>dB R (c.drop off)
    |_=>none
   |_,_=>none)=_
  rw[zB];show(match J.get id with|some (.cells c)=>dB R (c.drop off)|_=>none)=_;rw[hg];exact ht
 have:resultsOf J ai.a5 [(d,some R)]=some v:=by
  unfold resultsOf;have e:mapO (resultOf J ai.a5) [(d,some R)]=some [v]:=by
   unfold mapO;simp only[aF]
  rw[e]
 rw[this]
def vu(d:Nat)(R:Option Nat)(az:AV->ag->Prop):eR:=λx f af=>x= .ret/\∃id off c v,f d= .p (some (id,off))/\af.get id=some (.cells c)/\dB R (c.drop off)=some v/\az v af
def bw.J4{env:Env}{J:ag}{fn:Nat}{bG:bP}{body:bC}{dR:Nat}{R:Option Nat}{first cap args:List AV}{az:cQ->ag->Prop}(he:env.ext fn=0)(ay:env.pure fn=false)(hf:env.funcs fn=some bG)(hb:bG.body=some body)
  (hn:(Nat.beq (first++args++cap).length bG.ig&&Nat.ble (first++args++cap).length bG.ntmps)=true) (dh:bG.results=[(dR,some R)]) (vt:Nat.blt dR bG.ntmps=true)
  (h:aa env bG.ntmps body (eh (first++args++cap)) J (vu dR R λv af=>az (.ok v) af)):bw env 0 (.f (.func fn) first cap) args J az:=by
 have hle:(first++args++cap).length<=bG.ntmps:=by
  simp only[c7] at hn;exact eb hn.2
 refine bw.run he ay hf hb hn ((h _ (qK hle)).mono λx bQ af ⟨bD,h1,h2,id,off,c,v,h3,aN,bY,cf⟩=>?_);subst h2;exact⟨.ok v,af,Yz h1 dh vt h3 aN bY,cf⟩
def P5{P:Program}{b:b8}{K:Nat->List AV->AV->Prop}(hb:jb P b)(eg:vq P b K){g:Nat}{fn:bP}{body:bC}{aB:List AV}{dR:Nat}{R:Option Nat}(r:AV)(hf:b.funcs.get g=some fn)(iC:fn.body=some body)
  (hn:(Nat.beq aB.length fn.ig&&Nat.ble aB.length fn.ntmps)=true) (dh:fn.results=[(dR,some R)]) (an:Nat.blt dR fn.ntmps=true) {ai:Nat} (al:gI ai r=true) (hG:AV.eqb 1000 r r=true)
  (h:aa (b.aQ K) fn.ntmps body (eh aB) ⟨.nil,0⟩ (vu dR R λv af=>freeze af 0 1000 v=some r)) (bN:Nat):SpecEntry P (b.env []) bN g aB r:=by
 have hle:aB.length<=fn.ntmps:=by
  simp only[c7] at hn;exact eb hn.2
 refine JN (env:=b.aQ K) (m:=1000) (BS _ _) ⟨λg bG hg=>pF.zy hb.funcs g bG hg⟩ (λbN g aB r ak=>eg g aB r (EW ak) bN) hb.ext hb.vo hf iC hn al ((h _ (qK hle)).mono λx ai af ⟨f,h1,h2,id,off,c,v,h3,aN,bY,cf⟩=>?_) hG bN;subst h2;exact⟨.ok v,af,Yz h1 dh an h3 aN bY,_,rfl,cf⟩
section
variable {env:Env}{aJ:Option Nat}{D:List (Nat ⊕ (AV×List AV))}{n:Nat}{f:Nat->AV}{J:ag}{Q:eR}
def ab.nr{d m:Nat}{R:Option Nat}{z:List AV}{aE:List (Nat×aH)}{g:Option (Nat×Bool)}{wn:List Nat}{ops:List aX}{c:List AV}(k:Nat)(hn:J.next=k)(an:Nat.blt d n=true)(hw:gj g n f=true)(ao:hQ (dc env n f) (λi cL=>i*cL) (aE.map λp=>(p.1,shN R,p.2)) (fw m z)=some c)
  (h:∀af:ag,af.next=k+1->af.get k=some (.cells c)->(∀i o,J.get i=some o->af.get i=some o)->dE env aJ D n ops (cY f d (.aq k 0 m R (some m))) af Q):dE env aJ D n (⟨some d,.buildSlice R m z aE,g,wn⟩::ops) f J Q:=by
 subst hn;refine ab.val (v:=.aq J.next 0 m R (some m)) (af:=J.push (.cells c)) an hw ?_ (h (J.push (.cells c)) I (ag.ij _) λi o ho=>?_)
 ·show(match hQ (dc env n f) (λi cL=>i*cL) (aE.map λp=>(p.1,shN R,p.2)) (fw m z) with
   |some c=>some (bH.val (.aq J.next 0 m R (some m)) (J.push (.cells c)))
   |none=>none)=_
  rw[ao]
 ·rw[ag.fy trivial _ (ag.cJ ho)];exact ho
end
def b4V{J:ag}{n id:Nat}{R cap:Option Nat}{v w:AV}(hg:J.get id=some (.cells v.cells))(ae:conf R v=true)(au:freeze J 0 n v=some w):freeze J 0 (n+1) (.aq id 0 1 R cap)=some (.aR false R [w]):=by
 have he:=tz (R:=R) (xs:=[v]) (r:=[]) (by intro y aI;rw[dx.1 aI];exact ae);rw[fp] at he;refine Yp hg (xs:=[v]) (by simpa using he) ?_;rw[dg,au];rfl
def b4W{J:ag}{n id:Nat}{R cap:Option Nat}{v w v2 ja:AV}(hg:J.get id=some (.cells (v.cells++v2.cells)))(ae:conf R v=true)(yW:conf R v2=true)(au:freeze J 0 n v=some w)(rC:freeze J 0 n v2=some ja):freeze J 0 (n+1) (.aq id 0 2 R cap)=some (.aR false R [w,ja]):=by
 have he:=tz (R:=R) (xs:=[v,v2]) (r:=[]) (by
  intro y aI;simp only[eH,mJ,or_false] at aI;rcases aI with rfl|rfl
  ·exact ae
  ·exact yW)
 rw[fp] at he;refine Yp hg (xs:=[v,v2]) (by simpa using he) ?_;rw[dg,au,dg,rC];rfl
def E5{k:IntKind}{a c:Nat}(ae:c≠0):binop .rem (.i k (Int.ofNat a)) (.i k (Int.ofNat c))=some (.i k (Int.ofNat (a%c))):=by
 show(if k=k then binI .rem k (Int.ofNat a) (Int.ofNat c) else none)=_;rw[if_pos I];show(if Int.ofNat c=0 then none else some (AV.i k ((Int.ofNat a).tmod (Int.ofNat c))))=_;rw[if_neg (by simpa using ae)];rfl
def b4X{n:Nat}(h:n<256):IntKind.wrap .u8 (n:Int)=(n:Int):=by
 have h:(n:Int)<256:=by omega
 simp only[IntKind.wrap,IntKind.bits,IntKind.signed];simp;omega
def P6{a c:Nat}(ae:c≠0)(ha:a<256):binop .quo (.i .u8 (Int.ofNat a)) (.i .u8 (Int.ofNat c))=some (.i .u8 (Int.ofNat (a/c))):=by
 show(if Int.ofNat c=0 then none else some (AV.i .u8 (IntKind.wrap .u8 ((Int.ofNat a).tdiv (Int.ofNat c)))))=_;rw[if_neg (by simpa using ae)];have e:(Int.ofNat a).tdiv (Int.ofNat c)=((a/c:Nat):Int):=rfl;rw[e,b4X (Dn (Nk _ _) ha)];rfl
def E6{R:Option Nat}{v:AV}(h:conf R v=true):dB R (v.cells.drop 0)=some v:=by
 have:=(BZ (r:=[]) h).1;rwa[fp] at this
def fB(W:Nat->Prop)(J:ag)(n:Nat)(v r:AV):Prop:=∀af,(∀i o,¬W i->J.get i=some o->af.get i=some o)->freeze af 0 n v=some r
def fB.bK{W:Nat->Prop}{J af:ag}{n:Nat}{v r:AV}(h:fB W J n v r)(aC:∀i o,¬W i->J.get i=some o->af.get i=some o):fB W af n v r:=λbA h2=>h bA λi o hi ho=>h2 i o hi (aC i o hi ho)
def fB.now{W:Nat->Prop}{J:ag}{n:Nat}{v r:AV}(h:fB W J n v r):freeze J 0 n v=some r:=h J λ_ _ _ h=>h
def fB.le{W:Nat->Prop}{J:ag}{n k:Nat}{v r:AV}(h:fB W J n v r)(aC:n<=k):fB W J k v r:=λaf h'=>Yy (h af h') aC
def fB.one{W:Nat->Prop}{J:ag}{n id:Nat}{R cap:Option Nat}{v w:AV}(hg:J.get id=some (.cells v.cells))(hi:¬W id)(ae:conf R v=true)(au:fB W J n v w):fB W J (n+1) (.aq id 0 1 R cap) (.aR false R [w]):=λaf h'=>b4V (h' _ _ hi hg) ae (au af h')
def fB.two{W:Nat->Prop}{J:ag}{n id:Nat}{R cap:Option Nat}{v w v2 ja:AV}(hg:J.get id=some (.cells (v.cells++v2.cells)))(hi:¬W id)(ae:conf R v=true)(yW:conf R v2=true)(au:fB W J n v w)(rC:fB W J n v2 ja):fB W J (n+1) (.aq id 0 2 R cap) (.aR false R [w,ja]):=
 λaf h'=>b4W (h' _ _ hi hg) ae yW (au af h') (rC af h')
def fB.ad{W:Nat->Prop}{J:ag}{n:Nat}{l r:List AV}(h:∀af,(∀i o,¬W i->J.get i=some o->af.get i=some o)->mapO (freeze af 0 n) l=some r):fB W J (n+1) (.ad l) (.ad r):=λaf h'=>by
 rw[freeze_succ];simp only[];rw[h af h']
end
structure Hid(az:Prop):Prop where
 out:az
def eo{P az:Prop}(k:az)(h:Hid az->P:=by
 intro k
 repeat (first|refine ab.go I I I I ?_|refine ab.cmp I I I I I ?_|refine ab.off I I ?_|refine ab.nil ?_|refine aa.seq ?_|refine aa.region ?_|refine aa.skip ?_|refine aa.block ?_)
 exact k.out):P:=h ⟨k⟩
def pJ{P az:Prop}(k:az)(h:Hid az->P:=by
 intro k
 repeat (first|refine cd.go I I I I ?_|refine cd.cmp I I I I I ?_|refine cd.off I I ?_|refine cd.nil ?_)
 exact k.out):P:=h ⟨k⟩
def bo{P az:Prop}(k:az)(h:Hid az->P:=by
 intro k
 repeat (first|refine ab.go I I I I ?_|refine ab.cmp I I I I I ?_|refine ab.off I I ?_|refine ab.nil ?_)
 exact k.out):P:=h ⟨k⟩
def P7{P az:Prop}(k:az)(h:Hid az->P:=by
 intro k
 repeat (first|refine ab.go I I I I ?_|refine ab.off I I ?_|refine ab.nil ?_)
 exact k.out):P:=h ⟨k⟩
def E7{P az:Prop}(k:az)(h:Hid az->P:=by
 intro k
 repeat (first|refine ab.go I I I I ?_|refine ab.a0 aG I I I I ?_|refine ab.cmp I I I I I ?_|refine ab.off I I ?_|refine ab.nil ?_)
 exact k.out):P:=h ⟨k⟩
def YA{P az:Prop}(k:az)(h:Hid az->P:=by
 intro k
 repeat (first|refine ab.go I I I I ?_|refine ab.a0 h1 I I I I ?_|refine ab.cmp I I I I I ?_|refine ab.off I I ?_|refine ab.nil ?_)
 exact k.out):P:=h ⟨k⟩
def J5{P az:Prop}(k:az)(h:Hid az->P:=by
 intro k
 repeat (first|refine ab.go I I I I ?_|refine ab.a0 h2 I I I I ?_|refine ab.cmp I I I I I ?_|refine ab.off I I ?_|refine ab.nil ?_)
 exact k.out):P:=h ⟨k⟩
def YB{P az:Prop}(k:az)(h:Hid az->P:=by
 intro k
 repeat (first|refine ab.go I I I I ?_|refine ab.a0 cW I I I I ?_|refine ab.cmp I I I I I ?_|refine ab.off I I ?_|refine ab.nil ?_)
 exact k.out):P:=h ⟨k⟩
def YC{P az:Prop}(k:az)(h:Hid az->P:=by
 intro k
 repeat (first|refine ab.go I I I I ?_|refine ab.a0 h1 I I I I ?_|refine ab.off I I ?_|refine ab.nil ?_)
 exact k.out):P:=h ⟨k⟩
def YD{P az:Prop}(k:az)(h:Hid az->P:=by
 intro k
 repeat (first|refine ab.go I I I I ?_|refine ab.a0 h2 I I I I ?_|refine ab.off I I ?_|refine ab.nil ?_)
 exact k.out):P:=h ⟨k⟩
section
variable [Tok][TokOk]
open Go.RowKit
def calm:AOp->Bool
 | .call _ _=>false
 | .iP _ _=>false
 | .sW _=>false
 | .len 0 _=>false
 | .cap _=>false
 |_=>true
def xw:Option bH->Prop
 |none=>True
 |some (.val _ _)=>True
 |some (.panic _)=>True
 |_=>False
def YE{c:Bool}{a b:Option bH}(ha:xw a)(hb:xw b):xw (cond c a b):=by cases c<;>assumption
def b4Y{k:Nat}{x:aH}{v:AV}{J:ag}(h:calm (.len k x)=true):xw (lenU J k v):=by
 cases k with
 |zero=>cases h
 |succ k=>
  cases hx:lenU J (k+1) v with
  |none=>trivial
  |some r=>
   rcases IM hx with⟨e,_⟩|⟨_,_,_,_,rfl⟩
   ·cases e
   ·trivial
def b4Z{J:ag}{id r off:Nat}{c a8:List AV}:xw (pd J id c r off a8):=by
 unfold pd;split<;>exact trivial
def b5a{J:ag}{av:aH->Option AV}{R:Option Nat}{x:AV}{bX hi cI:Option aH}:xw (sliceX J av R x bX hi cI):=by
 unfold sliceX
 repeat' split
 all_goals first|trivial|(exact YE trivial trivial)
set_option maxHeartbeats 0 in
def J6{floor:Nat}{av:aH->Option AV}{J:ag}:∀ {op:AOp},calm op=true->xw (opx floor av J op):=by
 intro op h;cases op<;>first
  |(cases h;done)
  |(simp only[opx];repeat' split)<;>(first|trivial|exact b4Y h|exact b4Z|exact b5a|exact YE trivial trivial|(simp_all [xw];done))
def calmC:bC->Bool
 | .skip=>true
 | .region ops=>cB (λo=>calm o.op) ops
 | .seq a b=>calmC a&&calmC b
 | .cond _ a b=>calmC a&&calmC b
 | .block _ a=>calmC a
 | .scope a=>calmC a
 | .exit _=>true
 | .ret=>true
 |_=>false
def kb{α:Type}:Option (List α)->Prop
 |none=>True
 |some l=>∃x,l=[x]
def kb.hP{α β:Type}{r:Option (List α)}{f:α->Option (List β)}(h:kb r)(hf:∀x,kb (f x)):kb (Go.Lyc.hP r f):=by
 cases r with
 |none=>trivial
 |some l=>obtain⟨x,rfl⟩:=h;exact hf x
def P8{env:Env}{floor:Nat}{call:kY}{dm:Bool}:∀ {ops:List aX},cB (λo=>calm o.op) ops=true->∀ai J,kb (runOps env floor call dm ops ai J)
 |[],_,ai,J=>⟨_,rfl⟩
 |o::ops,h,ai,J=>by
  have h1:calm o.op=true:=np h o aT;have h2:cB (λo=>calm o.op) ops=true:=iI λx hx=>np h x (fP _ hx);rw[xa];cases wantedA o.guard ai.a5 with
  |false=>exact P8 h2 _ _
  |true=>
   rw[cond_true];have:=J6 (floor:=floor) (av:=evalA env ai.a5) (J:=J) h1;cases hx:opx floor (evalA env ai.a5) J o.op with
   |none=>trivial
   |some r=>
    rw[hx] at this;cases r with
    |val v af=>exact P8 h2 _ _
    |panic v=>exact⟨_,rfl⟩
    |call _ _=>exact this.elim
    |iP _ _=>exact this.elim
    |g3 _=>exact this.elim
def code_one{env:Env}{floor:Nat}{aJ:Option Nat}:∀(F:Nat) {c:bC},calmC c=true->∀ai J,kb (exec env F floor aJ c ai J)
 |0,_,_,_,_=>trivial
 |F+1,c,h,ai,J=>by
  have ar:=@code_one env floor aJ F;rw[oJ];cases c with
  |skip=>exact⟨_,rfl⟩
  |region ops=>exact P8 h ai J
  |draw ops=>cases h
  |seq a b=>
   rw[calmC,c7] at h;refine kb.hP (ar h.1 ai J) λr=>?_;obtain⟨x,bQ,af⟩:=r;cases x with
   |normal=>exact ar h.2 bQ af
   |_=>exact⟨_,rfl⟩
  |cond o a b=>
   rw[calmC,c7] at h;show kb (match evalA env ai.a5 o with|some (.b t)=>exec env F floor aJ (cond t a b) ai J|_=>none);split
   ·rename_i t _;cases t with
    |true=>exact ar h.1 ai J
    |false=>exact ar h.2 ai J
   ·trivial
  |block id a=>
   refine kb.hP (ar (show calmC a=true from h) ai J) λr=>?_;obtain⟨x,bQ,af⟩:=r;cases x with
   |exit j=>
    show kb (cond (Nat.beq j id) (some [(hd.normal,bQ,af)]) (some [(hd.exit j,bQ,af)]));cases Nat.beq j id<;>exact⟨_,rfl⟩
   |_=>exact⟨_,rfl⟩
  |loop a=>cases h
  |scope a=>exact ar (show calmC a=true from h) ai J
  |rangeFunc _ _ _ _=>cases h
  |exit id=>exact⟨_,rfl⟩
  |ret=>exact⟨_,rfl⟩
  |bad=>cases h
def call_one{env:Env}{g:Nat}{bG:bP}{body:bC}(he:env.ext g=0)(ay:env.pure g=false)(hf:env.funcs g=some bG)(hb:bG.body=some body)(ae:calmC body=true)(F:Nat)(first cap args:List AV)(J:ag):kb (callV env (exec env F) 0 (.f (.func g) first cap) args J):=by
 show kb (callF env (exec env F) 0 g (first++args++cap) J);unfold callF;rw[he];show kb (cond (env.pure g) _ _);rw[ay,cond_false];unfold runF;rw[hf];show kb (match bG.body with|none=>none|some body=>_);rw[hb];show kb (cond _ _ none);cases(Nat.beq (first++args++cap).length bG.ig&&Nat.ble (first++args++cap).length bG.ntmps) with
 |false=>trivial
 |true=>
  refine kb.hP (code_one F ae _ _) λr=>?_;obtain⟨x,ai,af⟩:=r;have he:∀x,kb (match leave 0 (callD env 0) ai.defers (Du x) af with
   |none=>none
   |some (some v,J)=>some [(cQ.err v,J)]
   |some (none,J)=>match resultsOf J ai.a5 bG.results with
    |some v=>some [(cQ.ok v,J)]
    |none=>none):=λx=>by
   split
   ·trivial
   ·exact⟨_,rfl⟩
   ·split
    ·exact⟨_,rfl⟩
    ·trivial
  cases x with
  |exit id=>trivial
  |normal=>exact he .normal
  |ret=>exact he .ret
  |panic v=>exact he (.panic v)
def qP(env:Env)(gs:List Nat):Prop:=∀g∈gs,∀F args J,kb (callV env (exec env F) 0 (.f (.func g) [] []) args J)
def qP.nil{env:Env}:qP env []:=λ_ h=>absurd h aT
def qP.cons{env:Env}{g:Nat}{gs:List Nat}(h:∀F args J,kb (callV env (exec env F) 0 (.f (.func g) [] []) args J))(ak:qP env gs):qP env (g::gs):=λx hx=>by
 rcases eH.1 hx with rfl|hx
 ·exact h
 ·exact ak x hx
def b5b{env:Env}{g:Nat}(he:env.ext g=0)(ay:env.pure g=true)(F:Nat)(args:List AV)(J:ag):kb (callV env (exec env F) 0 (.f (.func g) [] []) args J):=by
 show kb (callF env (exec env F) 0 g ([]++args++[]) J);unfold callF;rw[he];show kb (cond (env.pure g) _ _);rw[ay,cond_true]
 repeat' split
 all_goals first|trivial|exact⟨_,rfl⟩
def YF(gs:List Nat)(g:Nat):Bool:=gs.any λx=>Nat.beq x g
def b5c{g:Nat}{gs:List Nat}(h:YF gs g=true):g∈gs:=by
 obtain⟨x,h1,h2⟩:=Wg.1 h;rw[<-eM h2];exact h1
def B2(gs:List Nat)(o:aX):Bool:=
 (match o.je with|[]=>true|_::_=>false)&&(match o.op with
  | .call (.fn g) _=>YF gs g
  |op=>calm op)
def b5d{gs:List Nat}{o:aX}(h:B2 gs o=true):o.je=[]/\((∃g as,o.op= .call (.fn g) as/\g∈gs)\/calm o.op=true):=by
 obtain⟨d,op,c4F,w⟩:=o;cases w with
 |cons a l=>cases h
 |nil=>
  refine⟨rfl,?_⟩;cases op with
  |call c as=>cases c with
   |fn g=>exact .inl ⟨g,as,rfl,b5c h⟩
   |val x=>cases h
  |_=>exact .inr h
abbrev r6(J ah:ag):Prop:=∀i o,J.get i=some o->ah.get i=some o
def P9{α:Type}:∀(a b:List α) (q:Nat),nth (a++b) (a.length+q)=nth b q
 |[],b,q=>by rw[qA,nn,lQ]
 |x::a,b,q=>by
  rw[gS,Nat.add_right_comm,qz];exact P9 a b q
def E8{env:Env}{gs:List Nat}(hg:qP env gs){F:Nat}{dm:Bool}:∀ {ops:List aX},cB (B2 gs) ops=true->∀ {ai:Fr} {J:ag} {outs:m9},runOps env 0 (callV env (exec env F) 0) dm ops ai J=some outs->(∀o∈outs,o.1= .normal)->outs≠[]→
  ∃bQ kL af,outs=[(.normal,bQ,af)]/\kL.length=ops.length/\(∃t,(af::kL).reverse=J::t)/\∀bR ws,runDraw env 0 (callV env (exec env F) 0) ops ai bR ws J=some (bQ,kL++bR,ws,af)
 |[],_,ai,J,outs,h,_,_=>by
  cases h;exact⟨ai,[],J,rfl,rfl,⟨[],rfl⟩,λ_ _=>rfl⟩
 |o::ops,ak,ai,J,outs,h,hn,b_=>by
  have h1:B2 gs o=true:=np ak o aT;have h2:cB (B2 gs) ops=true:=iI λx hx=>np ak x (fP _ hx);rw[xa] at h;obtain⟨hw,hJ⟩:=b5d h1;have fin:∀ {eU:Fr} {bu:ag},runOps env 0 (callV env (exec env F) 0) dm ops eU bu=some outs->(∀bR ws,runDraw env 0 (callV env (exec env F) 0) (o::ops) ai bR ws J=runDraw env 0 (callV env (exec env F) 0) ops eU (J::bR) ws bu)→
    ∃bQ kL af,outs=[(.normal,bQ,af)]/\kL.length=(o::ops).length/\(∃t,(af::kL).reverse=J::t)/\∀bR ws,runDraw env 0 (callV env (exec env F) 0) (o::ops) ai bR ws J=some (bQ,kL++bR,ws,af):=λ{eU bu} al an=>by
   obtain⟨bQ,kL,af,a9,bt,_,eD⟩:=E8 hg h2 al hn b_;refine⟨bQ,kL++[J],af,a9,by simp[bt],⟨(af::kL).reverse,by rw[<-qz,JE];rfl⟩,λbR ws=>?_⟩;rw[an,eD,jD];rfl
  cases ln:wantedA o.guard ai.a5 with
  |false=>
   rw[ln,cond_false] at h;exact fin h λbR ws=>by rw[r5,ln,cond_false]
  |true=>
   rw[ln,cond_true] at h;cases hx:opx 0 (evalA env ai.a5) J o.op with
   |none=>rw[hx] at h;cases h
   |some r=>
    rw[hx] at h;cases r with
    |val v bu=>exact fin h λbR ws=>by rw[r5,ln,cond_true,hx,hw]
    |panic v=>cases h;have:=hn _ (dx.2 I);cases this
    |call bx args=>
     have eO:∃g,bx= .f (.func g) [] []/\g∈gs:=by
      rcases hJ with⟨g,as,ho,l3⟩|hJ
      ·rw[ho] at hx;refine⟨g,?_,l3⟩;simp only[opx] at hx
       repeat' split at hx
       all_goals first|(cases hx;done)|(rename_i a _;cases hx;cases a;rfl)
      ·have:=J6 (floor:=0) (av:=evalA env ai.a5) (J:=J) hJ;rw[hx] at this;exact this.elim
     obtain⟨g,pn,l3⟩:=eO;subst pn;have h:hP (callV env (exec env F) 0 (.f (.func g) [] []) args J) (λr=>match r with
      |(.ok v,J)=>runOps env 0 (callV env (exec env F) 0) dm ops (ai.put o.dst v) J
      |(.err v,J)=>some [(.panic v,ai,J)])=some outs:=h
     have h1:=hg g l3 F args J;cases ae:callV env (exec env F) 0 (.f (.func g) [] []) args J with
     |none=>rw[ae] at h;cases h
     |some l=>
      rw[ae] at h1 h;obtain⟨x,rfl⟩:=h1;obtain⟨rt,bu⟩:=x;have e:∀(f:cQ×ag->Option m9),hP (some [(rt,bu)]) f=f (rt,bu):=λf=>by
       rfl
      rw[e] at h;cases rt with
      |err v=>cases h;have:=hn _ (dx.2 I);cases this
      |ok v=>
       have h:runOps env 0 (callV env (exec env F) 0) dm ops (ai.put o.dst v) bu=some outs:=h;refine fin h λbR ws=>?_;rw[r5,ln,cond_true,hx];show(match callV env (exec env F) 0 (.f (.func g) [] []) args J with|some [(.ok v,af)]=>runDraw env 0 (callV env (exec env F) 0) ops (ai.put o.dst v) (J::bR) ws af|_=>none)=_;rw[ae]
    |iP bx args=>
     exfalso;rcases hJ with⟨g,as,ho,l3⟩|hJ
     ·rw[ho] at hx;simp only[opx] at hx
      repeat' split at hx
      all_goals first|(cases hx;done)|(simp_all;done)
     ·have:=J6 (floor:=0) (av:=evalA env ai.a5) (J:=J) hJ;rw[hx] at this;exact this.elim
    |g3 l=>
     exfalso;rcases hJ with⟨g,as,ho,l3⟩|hJ
     ·rw[ho] at hx;simp only[opx] at hx
      repeat' split at hx
      all_goals first|(cases hx;done)|(simp_all;done)
     ·have:=J6 (floor:=0) (av:=evalA env ai.a5) (J:=J) hJ;rw[hx] at this;exact this.elim
def b5e(env:Env)(m:Nat)(s:ag)(w:kZ):Prop:=(∀q∈w.1.je,q=m)/\∃v ah,opx 0 (evalA env w.2.1) s w.1.op=some (.val v ah)/\AV.eqb env.a2 v w.2.2=true
def gK(env:Env)(aJ:Option Nat)(D:List (Nat ⊕ (AV×List AV)))(n m k:Nat)(ops:List aX)(f:Nat->AV)(J:ag)(Q:(Nat->AV)->ag->Prop):Prop:=
 ∀ai,g6 D n f ai->∃dZ bQ bD af,g6 D n bD bQ/\Q bD af/\k<=m/\∀F,dZ<=F->∃kL wn s,kL.length=ops.length/\(∀bR ws,runDraw env 0 (callV env (exec env F) 0) ops ai bR ws J=some (bQ,kL++bR,wn++ws,af))∧
  nth (af::kL).reverse (m-k)=some s/\r6 J s/\∀w∈wn,b5e env m s w
section
variable {env:Env}{aJ:Option Nat}{D:List (Nat ⊕ (AV×List AV))}{n m k:Nat}{f:Nat->AV}{J:ag}{gs:List Nat}
def aa.xx{ops:List aX}{Q:eR}(m:Nat)(ak:swapT ops=true)(h:gK env aJ D n m 0 ops f J (λbD af=>Q .normal bD af)):ch env aJ D n (.draw ops) f J Q:=λai bE=>by
 obtain⟨dZ,bQ,bD,af,h2,h3,_,h1⟩:=h ai bE;refine⟨dZ+1,[(.normal,bQ,af)],aT,λF bB=>?_,λo ho=>?_⟩
 ·obtain⟨k,rfl⟩:∃k,F=k+1:=⟨F-1,U⟩
  obtain⟨kL,wn,s,_,bt,cW,_,e4⟩:=h1 k U;have bt:=bt [] [];rw[fp,fp] at bt;refine Yg bt ?_ (PU ak);have:wn.all (steady env 0 (af::kL).reverse)=true:=by
   rw[mx];intro w fJ;obtain⟨db,v,ah,cK,et⟩:=e4 w fJ;unfold steady;refine iI λq aP=>?_;rw[db q aP,show nth (af::kL).reverse m=some s from cW];show(match rq w.1.op 0 (evalA env w.2.1) s with|some (.val v _)=>AV.eqb env.a2 v w.2.2|_=>false)=true;rw[w_,cK];exact et
  exact this
 ·rw[dx.1 ho];exact⟨bD,h2,h3⟩
def gK.fin{ops:List aX}{Q:(Nat->AV)->ag->Prop}(hg:qP env gs)(ak:cB (B2 gs) ops=true)(h:dE env aJ D n ops f J (λx bD af=>x= .normal/\Q bD af)):gK env aJ D n m m ops f J Q:=λai bE=>by
 obtain⟨dZ,outs,h1,h2,h3⟩:=h ai bE;have hn:∀o∈outs,o.1= .normal:=λo ho=>by obtain⟨bD,_,h,_⟩:=h3 o ho;exact h
 obtain⟨bQ,kL,af,e,_,_,_⟩:=E8 hg ak (h2 dZ (b6 _)) hn h1;obtain⟨bD,db,_,cK⟩:=h3 _ (by rw[e];exact dx.2 I);refine⟨dZ,bQ,bD,af,db,cK,b6 _,λF bB=>?_⟩;obtain⟨Yu,zC,bA,aV,jn,⟨t,jo⟩,B3⟩:=E8 hg ak (h2 F bB) hn h1;rw[e] at aV;cases aV;exact⟨zC,[],J,jn,λbR ws=>B3 bR ws,by rw[jo,wN];rfl,λ_ _ h=>h,λ_ h=>absurd h aT⟩
def gK.qQ{ops:List aX}{Q:(Nat->AV)->ag->Prop}(j:Nat)(aG:Nat.ble j ops.length=true)(hg:qP env gs)(ak:cB (B2 gs) (ops.take j)=true)
  (h:dE env aJ D n (ops.take j) f J (λx bD af=>x= .normal/\r6 J af/\gK env aJ D n m (k+j) (ops.drop j) bD af Q)):gK env aJ D n m k ops f J Q:=λai bE=>by
 have aG:=eb aG;obtain⟨dZ,outs,h1,h2,h3⟩:=h ai bE;have hn:∀o∈outs,o.1= .normal:=λo ho=>by obtain⟨bD,_,h,_⟩:=h3 o ho;exact h
 obtain⟨eU,YG,bu,e,_,_,_⟩:=E8 hg ak (h2 dZ (b6 _)) hn h1;obtain⟨f1,db,_,cK,et⟩:=h3 _ (by rw[e];exact dx.2 I);obtain⟨r3,bQ,bD,af,d1,d2,d3,d4⟩:=et eU db;refine⟨max dZ r3,bQ,bD,af,d1,d2,U,λF bB=>?_⟩;obtain⟨Yu,zC,bA,aV,jn,_,B3⟩:=E8 hg ak (h2 F U) hn h1;rw[e] at aV;cases aV;obtain⟨vv,wn,s,cn,ct,eN,fm,kK⟩:=d4 F U;refine⟨vv++zC,wn,s,?_,λbR ws=>?_,?_,λi o ho=>fm i o (cK i o ho),kK⟩
 ·rw[h5,cn,jn,← h5,h5,List.length_drop,gM];omega
 ·rw[<-BR j ops,JR,B3];show runDraw env 0 (callV env (exec env F) 0) (ops.drop j) eU (zC++bR) ws bu=_;rw[ct,jD]
 ·have aF:(af::(vv++zC)).reverse=zC.reverse++(af::vv).reverse:=by rw[<-qz,JE]
  have dp:m-k=zC.reverse.length+(m-(k+j)):=by
   rw[List.length_reverse,jn,gM];omega
  rw[aF,dp,P9];exact eN
def gK.nq{d:Nat}{op:AOp}{g:Option (Nat×Bool)}{wn:List Nat}{ops:List aX}{v:AV}{Q:(Nat->AV)->ag->Prop}(fJ:cB (λq=>Nat.beq q m) wn=true)(an:Nat.blt d n=true)(hw:gj g n f=true)(ho:∀ah,r6 J ah->opx 0 (dc env n f) ah op=some (.val v ah))(au:AV.eqb env.a2 v v=true)
  (h:gK env aJ D n m (k+1) ops (cY f d v) J Q):gK env aJ D n m k (⟨some d,op,g,wn⟩::ops) f J Q:=λai bE=>by
 obtain⟨r3,bQ,bD,af,d1,d2,d3,d4⟩:=h _ (bE.put v an);refine⟨r3,bQ,bD,af,d1,d2,U,λF bB=>?_⟩;obtain⟨vv,JQ,s,cn,ct,eN,fm,kK⟩:=d4 F bB;have jP:∀bR ws,runDraw env 0 (callV env (exec env F) 0) (⟨some d,op,g,wn⟩::ops) ai bR ws J=runDraw env 0 (callV env (exec env F) 0) ops (ai.put (some d) v) (J::bR) (match wn with|[]=>ws|_::_=>(⟨some d,op,g,wn⟩,ai.a5,v)::ws) J:=λbR ws=>by
  rw[r5];show cond (wantedA g ai.a5) _ _=_;rw[bE.wanted,hw,cond_true,bE.av,ho J λ_ _ h=>h];cases wn<;>rfl
 have aF:nth (af::(vv++[J])).reverse (m-k)=some s:=by
  have aF:(af::(vv++[J])).reverse=[J]++(af::vv).reverse:=by rw[<-qz,JE];rfl
  have dp:m-k=[J].length+(m-(k+1)):=by
   show m-k=1+(m-(k+1));omega
  rw[aF,dp,P9];exact eN
 cases wn with
 |nil=>exact⟨vv++[J],JQ,s,by simp[cn],λbR ws=>by rw[jP,ct,jD];rfl,aF,fm,kK⟩
 |cons a l=>
  refine⟨vv++[J],JQ++[(⟨some d,op,g,a::l⟩,ai.a5,v)],s,by simp[cn],λbR ws=>?_,aF,fm,λw hw=>?_⟩
  ·rw[jP];show runDraw env 0 (callV env (exec env F) 0) ops (ai.put (some d) v) (J::bR) ((⟨some d,op,g,a::l⟩,ai.a5,v)::ws) J=_;rw[ct,jD,jD];rfl
  ·rcases gN.1 hw with hw|hw
   ·exact kK w hw
   ·rw[dx.1 hw];refine⟨λq aP=>eM (np fJ q aP),v,s,?_,au⟩;show opx 0 (evalA env ai.a5) s op=_;rw[bE.av];exact ho s fm
end
def jR.g3{env:Env}{floor:Nat}{dm:Bool}{o:aX}{ops:List aX}{ai:Fr}{J:ag}{Q:r4}{l:List (AV×ag)}(hw:wantedA o.guard ai.a5=true)(ho:opx floor (evalA env ai.a5) J o.op=some (.g3 l))(ao:l≠[])
  (h:∀p∈l,jR env floor dm ops (ai.put o.dst p.1) p.2 Q):jR env floor dm (o::ops) ai J Q:=by
 have:=df.flat (g:=λ(p:AV×ag) F=>runOps env floor (callV env (exec env F) floor) dm ops (ai.put o.dst p.1) p.2) (Q:=λ(o:hd×Fr×ag)=>Q o.1 o.2.1 o.2.2) l ao h;refine df.congr this λF=>?_;rw[xa,hw,cond_true,ho]
section
variable {env:Env}{aJ:Option Nat}{D:List (Nat ⊕ (AV×List AV))}{n:Nat}{f:Nat->AV}{J:ag}{Q:eR}
def ab.g3{d:Nat}{op:AOp}{g:Option (Nat×Bool)}{wn:List Nat}{ops:List aX}{l:List (AV×ag)}(an:Nat.blt d n=true)(hw:gj g n f=true)(ho:opx 0 (dc env n f) J op=some (.g3 l))(ao:l≠[])
  (h:∀p∈l,dE env aJ D n ops (cY f d p.1) p.2 Q):dE env aJ D n (⟨some d,op,g,wn⟩::ops) f J Q:=λai bE=>
 jR.g3 (by rw[bE.wanted];exact hw) (by rw[bE.av];exact ho) ao λp ay=>h p ay _ (bE.put p.1 an)
end
end
section
open Go Go.RowKit
def E9{f:Nat->AV}{i j:Nat}{v:AV}(h:Nat.beq j i=false):cY f i v j=f j:=by show cond (Nat.beq j i) v (f j)=f j;rw[h];rfl
def J7{f:Nat->AV}{i:Nat}{v:AV}:cY f i v i=v:=by show cond (Nat.beq i i) v (f i)=v;rw[fE];rfl
variable [Tok][TokOk] in
def aa.each{env:Env}{aJ:Option Nat}{D:List (Nat ⊕ (AV×List AV))}{n i m c d b eY:Nat}{body:bC}{f:Nat->AV}{J:ag}{Q:eR}(N:Nat)(dH:Nat->(Nat->AV)->ag->Prop)
  (hs:N<2^62) (h0:dH 0 f J) (zl:f i=aw 0) (J8:f m=aw N)
  (hb:∀j g ah,j<N->dH j g ah->g i=aw j->g m=aw N->ch env aJ D n (.block eY body) (cY g c (.b true)) ah (λx bD a1=>match x with
   | .normal=>bD i=aw j/\bD m=aw N/\dH (j+1) (cY (cY bD d (aw (j+1))) i (aw (j+1))) a1
   | .exit e=>Nat.beq e b=false/\Q (.exit e) bD a1
   |x=>Q x bD a1))
  (hx:∀g ah,dH N g ah->g i=aw N->Q .normal (cY g c (.b false)) ah)
  (ae:Nat.blt c n=true:=by rfl) (an:Nat.blt d n=true:=by rfl) (hi:Nat.blt i n=true:=by rfl) (hm:Nat.blt m n=true:=by rfl) (b5f:Nat.beq m d=false:=by rfl) (Bq:Nat.beq m i=false:=by rfl):
  ch env aJ D n (.block b (.loop (.seq (.region [⟨some c,.bin .lss (.t i) (.t m),none,[]⟩]) (.seq (.cond (.t c) .skip (.exit b)) (.seq (.block eY body) (.region [⟨some d,.bin .add (.t i) (.c (.i .i64 1)),none,[]⟩,⟨some i,.cD (.t d),none,[]⟩])))))) f J Q:=by
 refine aa.block (aa.loop (λk g ah=>∃j,j+k=N/\dH j g ah/\g i=aw j/\g m=aw N) ?_ N ⟨0,U,h0,zl,J8⟩);rintro k g ah ⟨j,YH,bz,P_,l3⟩;have B4:dc env n g (.t i)=some (aw j):=by show cond (Nat.blt i n) (some (g i)) none=_;rw[hi,P_];rfl
 have em:dc env n g (.t m)=some (aw N):=by show cond (Nat.blt m n) (some (g m)) none=_;rw[hm,l3];rfl
 refine aa.seq (aa.region ?_);refine ab.cmp (a:=j) (b:=N) ae I B4 em I ?_;refine ab.nil (aa.seq (aa.cl (t:=decide (j<N)) (by show cond (Nat.blt c n) (some (cY g c (.b (decide (j<N))) c)) none=_;rw[ae,J7];rfl) (λh=>?_) λh=>?_))
 ·have aG:j<N:=of_decide_eq_true h;rw[h];refine aa.skip (aa.seq ((hb j g ah aG bz P_ l3).mono λx bD a1 h'=>?_));cases x with
  |normal=>
   obtain⟨h1,h2,h3⟩:=h';refine aa.region ?_;have aF:dc env n bD (.t i)=some (aw j):=by show cond (Nat.blt i n) (some (bD i)) none=_;rw[hi,h1];rfl
   refine ab.bin an I aF I (ir (a:=j) (b:=1) U) ?_;refine ab.go I hi I (v:=aw (j+1)) (af:=a1) ?_ ?_
   ·show(match cond (Nat.blt d n) (some (cY bD d (aw (j+1)) d)) none with|some v=>some (bH.val v a1)|none=>none)=_;rw[an,J7];rfl
   ·refine ab.nil ?_;refine⟨k-1,U,j+1,U,h3,J7,?_⟩;rw[E9 Bq,E9 b5f,h2]
  |exit e=>
   show cond (Nat.beq e b) (Q .normal bD a1) (Q (.exit e) bD a1);rw[h'.1];exact h'.2
  |ret=>exact h'
  |panic v=>exact h'
 ·have aG:j=N:=by have:=of_decide_eq_false h;omega
  subst aG;rw[h];refine aa.exit ?_;show cond (Nat.beq b b) (Q .normal (cY g c (.b false)) ah) (Q (.exit b) (cY g c (.b false)) ah);rw[fE];exact hx g ah bz P_
end
section
variable [Tok][TokOk]
open Go.RowKit
abbrev lR:=List (Nat×Nat×AO)
def vw(N len:Nat)(J9:List ag)(q:Nat)(P:ag->Prop):Prop:=∃j s,q+len=N+j/\nth J9 j=some s/\P s
def vw.up{N len q:Nat}{J9:List ag}{J:ag}{P:ag->Prop}(h:vw N len J9 q P):vw N (len+1) (J::J9) q P:=by
 obtain⟨j,s,h1,h2,h3⟩:=h;exact⟨j+1,s,U,h2,h3⟩
structure E_(env:Env)(N:Nat)(b2:lR)(ops:List aX)(J:ag)(x:jh):Prop where
 Qa:∃t,(x.2.2.2::x.2.1).reverse=J::t/\t.length=ops.length
 b2:∀p∈b2,vw N ops.length (x.2.2.2::x.2.1).reverse p.1 λs=>s.get p.2.1=some p.2.2
 BL:∀w∈x.2.2.1,∀q∈w.1.je,vw N ops.length (x.2.2.2::x.2.1).reverse q λs=>∃v ah,opx 0 (evalA env w.2.1) s w.1.op=some (.val v ah)/\AV.eqb env.a2 v w.2.2=true
def jh.on(bR:List ag)(ws:List kZ)(x:jh):jh:=(x.1,x.2.1++bR,x.2.2.1++ws,x.2.2.2)
def jh.YI(x:jh)(a c:List ag)(d e:List kZ):(x.on a d).on c e=x.on (a++c) (d++e):=by
 show(x.1,(x.2.1++a)++c,(x.2.2.1++d)++e,x.2.2.2)=(x.1,x.2.1++(a++c),x.2.2.1++(d++e),x.2.2.2);rw[jD,jD]
def fq(env:Env)(D:List (Nat ⊕ (AV×List AV)))(n N:Nat)(b2:lR)(ops:List aX)(f:Nat->AV)(J:ag)(Q:eR):Prop:=
 ∀ai,g6 D n f ai->∃dZ outs,outs≠[]/\(∀o∈outs,∃bD,g6 D n bD o.1/\Q .normal bD o.2)/\∀F,dZ<=F->∃L:List jh,L.map (λx=>(x.1,x.2.2.2))=outs∧
  (∀bR ws,runDraws env 0 (callV env (exec env F) 0) ops ai bR ws J=some (L.map (jh.on bR ws)))/\∀x∈L,E_ env N b2 ops J x
section
variable {env:Env}{aJ:Option Nat}{D:List (Nat ⊕ (AV×List AV))}{n N:Nat}{f:Nat->AV}{J:ag}{Q:eR}{b2:lR}
def aa.b5g{ops:List aX}(ak:swapT ops=true)(h:fq env D n ops.length [] ops f J Q):ch env aJ D n (.draw ops) f J Q:=λai bE=>by
 obtain⟨dZ,outs,h0,h2,h1⟩:=h ai bE;refine⟨dZ+1,outs.map λo=>(.normal,o.1,o.2),by simpa using h0,λF bB=>?_,λo ho=>?_⟩
 ·obtain⟨k,rfl⟩:∃k,F=k+1:=⟨F-1,U⟩
  obtain⟨L,e,bt,e4⟩:=h1 k U;show exec env (k+1) 0 aJ (bC.draw ops) ai J=_;rw[oJ];show(match runDraws env 0 (callV env (exec env k) 0) ops ai [] [] J with|some l=>mapO (drawn env 0 ops) l|none=>none)=_;rw[bt,← e,kz];show mapO (drawn env 0 ops) (L.map (jh.on [] []))=_;have hx:∀x∈L,drawn env 0 ops (x.on [] [])=some (.normal,x.1,x.2.2.2):=λx hx=>by
   have e4:=(e4 x hx).BL;unfold drawn jh.on;simp only[fp];rw[PU ak,Bool.and_true,mx.2 λw fJ=>?_];rfl;unfold steady;refine iI λq aP=>?_;obtain⟨j,s,e,db,v,ah,cK,et⟩:=e4 w fJ q aP;obtain rfl:q=j:=by omega
   rw[db];show(match rq w.1.op 0 (evalA env w.2.1) s with|some (.val v _)=>AV.eqb env.a2 v w.2.2|_=>false)=true;rw[w_,cK];exact et
  clear e4 bt e
  induction L with
  |nil=>rfl
  |cons x L ar=>
   rw[mv,dg,hx x oq,ar λy aI=>hx y (fP _ aI)];rfl
 ·obtain⟨x,hx,rfl⟩:=di.1 ho;obtain⟨bD,a9,bt⟩:=h2 x hx;exact⟨bD,a9,bt⟩
def E_.one{o:aX}{ops:List aX}{bu:ag}{zD:lR}{x:jh}{wl:List kZ}(h:E_ env N zD ops bu x)(r7:∀p∈b2,p∈zD)(hw:∀w∈wl,∀q∈w.1.je,∀st,(∀p∈zD,vw N ops.length st p.1 λs=>s.get p.2.1=some p.2.2)->st.length=ops.length+1->vw N ops.length st q λs=>∃v ah,opx 0 (evalA env w.2.1) s w.1.op=some (.val v ah)/\AV.eqb env.a2 v w.2.2=true):E_ env N b2 (o::ops) J (x.on [J] wl):=by
 have e:((x.on [J] wl).2.2.2::(x.on [J] wl).2.1).reverse=J::(x.2.2.2::x.2.1).reverse:=by
  show(x.2.2.2::(x.2.1++[J])).reverse=_;rw[<-qz,JE];rfl
 obtain⟨t,cn,ct⟩:=h.Qa;refine⟨⟨_,e,by rw[cn];simp[ct]⟩,λp ay=>?_,λw r8 q aP=>?_⟩
 ·rw[e];exact(h.b2 p (r7 p ay)).up
 ·rw[e];rcases gN.1 r8 with r8|r8
  ·exact(h.BL w r8 q aP).up
  ·exact(hw w r8 q aP _ h.b2 (by rw[cn];simp[ct])).up
def fq.one{o:aX}{ops:List aX}{f1:Nat->AV}{bu:ag}{zD:lR}{wl:aY AV->List kZ}(h:fq env D n N zD ops f1 bu Q)(r7:∀p∈b2,p∈zD)
  (al:∀ai,g6 D n f ai->∃eU dZ,g6 D n f1 eU/\(∀w∈wl ai.a5,∀q∈w.1.je,∀st,(∀p∈zD,vw N ops.length st p.1 λs=>s.get p.2.1=some p.2.2)->st.length=ops.length+1->vw N ops.length st q λs=>∃v ah,opx 0 (evalA env w.2.1) s w.1.op=some (.val v ah)/\AV.eqb env.a2 v w.2.2=true)∧
   ∀F,dZ<=F->∀bR ws,runDraws env 0 (callV env (exec env F) 0) (o::ops) ai bR ws J=runDraws env 0 (callV env (exec env F) 0) ops eU (J::bR) (wl ai.a5++ws) bu):fq env D n N b2 (o::ops) f J Q:=λai bE=>by
 obtain⟨eU,r3,P2,hw,al⟩:=al ai bE;obtain⟨dZ,outs,h0,h2,h1⟩:=h eU P2;refine⟨max dZ r3,outs,h0,h2,λF bB=>?_⟩;obtain⟨L,e,eN,fm⟩:=h1 F U;refine⟨L.map (jh.on [J] (wl ai.a5)),by rw[kz];exact e,λbR ws=>?_,λx hx=>?_⟩
 ·rw[al F U,eN,kz]
  congr 1
  exact rh λx _=>(x.YI [J] bR (wl ai.a5) ws).symm
 ·obtain⟨y,aI,rfl⟩:=di.1 hx;exact(fm y aI).one r7 hw
def fq.val{d:Option Nat}{op:AOp}{g:Option (Nat×Bool)}{ops:List aX}{v:AV}{af:ag}(an:∀x,d=some x->Nat.blt x n=true)(hw:gj g n f=true)(ho:opx 0 (dc env n f) J op=some (.val v af))(h:fq env D n N b2 ops (match d with|some d=>cY f d v|none=>f) af Q):
  fq env D n N b2 (⟨d,op,g,[]⟩::ops) f J Q:=fq.one (wl:=λ_=>[]) h (λ_ h=>h) λai bE=>⟨ai.put d v,0,by
 cases d with
 |none=>exact bE
 |some d=>exact bE.put v (an d I),λ_ h=>absurd h aT,λF _ bR ws=>by
  rw[runDraws_cons];show cond (wantedA g ai.a5) _ _=_;rw[bE.wanted,hw,cond_true,bE.av,ho];rfl⟩
def fq.off{d:Nat}{op:AOp}{g:Option (Nat×Bool)}{wn:List Nat}{ops:List aX}(an:Nat.blt d n=true)(hw:gj g n f=false)(h:fq env D n N b2 ops (cY f d c4) J Q):fq env D n N b2 (⟨some d,op,g,wn⟩::ops) f J Q:=
 fq.one (wl:=λ_=>[]) h (λ_ h=>h) λai bE=>⟨ai.put (some d) c4,0,bE.put _ an,λ_ h=>absurd h aT,λF _ bR ws=>by
  rw[runDraws_cons];show cond (wantedA g ai.a5) _ _=_;rw[bE.wanted,hw,cond_false];rfl⟩
def fq.nq{d:Nat}{op:AOp}{g:Option (Nat×Bool)}{wn:List Nat}{ops:List aX}{v:AV}{id:Nat}{c:AO}(ak:J.get id=some c)(an:Nat.blt d n=true)(hw:gj g n f=true)(ho:∀s:ag,s.get id=some c->opx 0 (dc env n f) s op=some (.val v s))(au:AV.eqb env.a2 v v=true)
  (h:fq env D n N (wn.map (λq=>(q,id,c))++b2) ops (cY f d v) J Q):fq env D n N b2 (⟨some d,op,g,wn⟩::ops) f J Q:=
 fq.one (wl:=λaq=>match wn with|[]=>[]|_::_=>[(⟨some d,op,g,wn⟩,aq,v)]) h (λ_ h=>gN.2 (.inr h)) λai bE=>⟨ai.put (some d) v,0,bE.put v an,λw r8 q aP st cR _=>by
  cases wn with
  |nil=>simp at r8
  |cons a l=>
   rw[dx.1 r8] at aP ⊢;obtain⟨j,s,aF,aV,dp⟩:=cR (q,id,c) (gN.2 (.inl (di.2 ⟨q,aP,rfl⟩)));exact⟨j,s,aF,aV,v,s,by show opx 0 (evalA env ai.a5) s op=_;rw[bE.av];exact ho s dp,au⟩,λF _ bR ws=>by
  rw[runDraws_cons];show cond (wantedA g ai.a5) _ _=_;rw[bE.wanted,hw,cond_true,bE.av,ho J ak];cases wn<;>rfl⟩
def fq.B5{d:Nat}{op:AOp}{g:Option (Nat×Bool)}{wn:List Nat}{ops:List aX}{v:AV}(fJ:cB (λq=>Nat.ble N (q+ops.length)&&Nat.ble q N) wn=true)(an:Nat.blt d n=true)(hw:gj g n f=true)(ho:∀s:ag,opx 0 (dc env n f) s op=some (.val v s))(au:AV.eqb env.a2 v v=true)
  (h:fq env D n N b2 ops (cY f d v) J Q):fq env D n N b2 (⟨some d,op,g,wn⟩::ops) f J Q:=
 fq.one (wl:=λaq=>match wn with|[]=>[]|_::_=>[(⟨some d,op,g,wn⟩,aq,v)]) h (λ_ h=>h) λai bE=>⟨ai.put (some d) v,0,bE.put v an,λw r8 q aP st cR ao=>by
  cases wn with
  |nil=>simp at r8
  |cons a l=>
   rw[dx.1 r8] at aP ⊢;have hb:=np fJ q aP;simp only[c7] at hb;have h1:=eb hb.1;have h2:=eb hb.2;obtain⟨s,ak⟩:∃s,nth st (q+ops.length-N)=some s:=⟨st[q+ops.length-N]'U,by rw[DC,eS]⟩
   exact⟨q+ops.length-N,s,U,ak,v,s,by show opx 0 (evalA env ai.a5) s op=_;rw[bE.av];exact ho s,au⟩,λF _ bR ws=>by
  rw[runDraws_cons];show cond (wantedA g ai.a5) _ _=_;rw[bE.wanted,hw,cond_true,bE.av,ho J];cases wn<;>rfl⟩
def b5h{α β:Type}{f:α->Option (List β)}{x:α}{l:List α}{a c:List β}(h1:f x=some a)(h2:j6 f l=some c):j6 f (x::l)=some (a++c):=by
 cases l with
 |nil=>
  have h2:some ([]:List β)=some c:=h2;cases h2;rw[fp];exact h1
 |cons y t=>
  show(match f x with|none=>none|some a=>match j6 f (y::t) with|none=>none|some b=>some (a++b))=_;rw[h1,h2]
def fq.call{d:Nat}{op:AOp}{g:Option (Nat×Bool)}{ops:List aX}{bx:AV}{args:List AV}{az:cQ->ag->Prop}(an:Nat.blt d n=true)(hw:gj g n f=true)(ho:opx 0 (dc env n f) J op=some (.call bx args))
  (ae:bw env 0 bx args J az) (h:∀r af,az r af->∃v,r= .ok v/\fq env D n N b2 ops (cY f d v) af Q):fq env D n N b2 (⟨some d,op,g,[]⟩::ops) f J Q:=λai bE=>by
 obtain⟨r3,l,ao,h2,h3⟩:=ae;have key:∀l:List (cQ×ag),(∀o∈l,az o.1 o.2)->∃dZ outs,(l≠[]->outs≠[])/\(∀o∈outs,∃bD,g6 D n bD o.1/\Q .normal bD o.2)/\∀F,dZ<=F->∃L:List jh,L.map (λx=>(x.1,x.2.2.2))=outs∧
   (∀bR ws,j6 (λr=>match r with|(.ok v,af)=>runDraws env 0 (callV env (exec env F) 0) ops (ai.put (some d) v) (J::bR) ws af|_=>none) l=some (L.map (jh.on bR ws)))/\∀x∈L,E_ env N b2 (⟨some d,op,g,[]⟩::ops) J x:=by
  intro l
  induction l with
  |nil=>exact λ_=>⟨0,[],λh=>absurd I h,λo ho=>by simp at ho,λF _=>⟨[],rfl,λ_ _=>rfl,λx hx=>by simp at hx⟩⟩
  |cons y l ar=>
   intro hR;obtain⟨xq,b5i,_,cK,et⟩:=ar λo ho=>hR o (fP _ ho);obtain⟨r,af⟩:=y;obtain⟨v,rfl,cc⟩:=h r af (hR _ oq);obtain⟨dZ,outs,hE,jn,jo⟩:=cc _ (bE.put v an);refine⟨max dZ xq,outs++b5i,λ_ e=>hE (List.append_eq_nil_iff.1 e).1,λo ho=>?_,λF bB=>?_⟩
   ·rcases gN.1 ho with ho|ho
    ·exact jn o ho
    ·exact cK o ho
   ·obtain⟨L,e,eN,fm⟩:=jo F U;obtain⟨B6,aV,bj,de⟩:=et F U;refine⟨L.map (jh.on [J] [])++B6,by rw[ie,kz,aV];congr 1,λbR ws=>?_,λx hx=>?_⟩
    ·rw[ie,kz];refine b5h ?_ (bj bR ws);show runDraws env 0 _ ops _ (J::bR) ws af=_;rw[eN]
     congr 1
     exact rh λx _=>(x.YI [J] bR [] ws).symm
    ·rcases gN.1 hx with hx|hx
     ·obtain⟨z,aZ,rfl⟩:=di.1 hx;exact(fm z aZ).one (λ_ h=>h) λw hw=>by simp at hw
     ·exact de x hx
 obtain⟨dZ,outs,a9,bt,cW⟩:=key l h3;refine⟨max dZ r3,outs,a9 ao,bt,λF bB=>?_⟩;obtain⟨L,e,eN,fm⟩:=cW F U;refine⟨L,e,λbR ws=>?_,fm⟩;rw[runDraws_cons];show cond (wantedA g ai.a5) _ _=_;rw[bE.wanted,hw,cond_true,bE.av,ho];show(match callV env (exec env F) 0 bx args J with|some (x::l)=>j6 _ (x::l)|_=>none)=_;rw[show callV env (exec env F) 0 bx args J=some l from h2 F U];cases l with
 |nil=>exact absurd I ao
 |cons x l=>exact eN bR ws
def tC(J:ag):lR->Prop
 |[]=>True
 |p::l=>J.get p.2.1=some p.2.2/\tC J l
def tC.mem{J:ag}:∀ {l:lR},tC J l->∀p∈l,J.get p.2.1=some p.2.2
 |_::_,h,p,ay=>by
  rcases eH.1 ay with rfl|ay
  ·exact h.1
  ·exact h.2.mem p ay
def Qb(N len:Nat)(b2:lR):lR:=b2.filter λp=>Nat.beq (p.1+len) N
def YJ(N len:Nat)(b2:lR):lR:=b2.filter λp=>!Nat.beq (p.1+len) N
def fq.now{ops:List aX}(l bq:lR)(h1:Qb N ops.length b2=l)(h2:YJ N ops.length b2=bq)(hh:tC J l)(h:fq env D n N bq ops f J Q):fq env D n N b2 ops f J Q:=λai bE=>by
 obtain⟨dZ,outs,iG,ct,cn⟩:=h ai bE;refine⟨dZ,outs,iG,ct,λF bB=>?_⟩;obtain⟨L,e,cW,eD⟩:=cn F bB;refine⟨L,e,cW,λx hx=>⟨(eD x hx).Qa,λp ay=>?_,(eD x hx).BL⟩⟩;obtain⟨t,a9,_⟩:=(eD x hx).Qa;by_cases hb:Nat.beq (p.1+ops.length) N=true
 ·exact⟨0,J,by rw[eM hb];rfl,by rw[a9];rfl,hh.mem p (by rw[<-h1];exact rJ.2 ⟨ay,hb⟩)⟩
 ·exact(eD x hx).b2 p (by rw[<-h2];exact rJ.2 ⟨ay,by rw[JF.2 hb];rfl⟩)
def fq.nil(hh:Qb N 0 b2=b2)(ao:tC J b2)(h:Q .normal f J):fq env D n N b2 [] f J Q:=λai bE=>
 ⟨0,[(ai,J)],aT,λo ho=>by rw[dx.1 ho];exact⟨f,bE,h⟩,λF _=>⟨[(ai,[],[],J)],rfl,λ_ _=>rfl,λx hx=>by
  rw[dx.1 hx];refine⟨⟨[],rfl,rfl⟩,λp ay=>⟨0,J,?_,rfl,ao.mem p ay⟩,λ_ h=>absurd h aT⟩;rw[<-hh] at ay;exact eM (rJ.1 ay).2⟩⟩
end
inductive qR where
 |pl
 |dR (N:Nat) (b2:lR)
def cz(cF:qR)(env:Env)(aJ:Option Nat)(D:List (Nat ⊕ (AV×List AV)))(n:Nat)(ops:List aX)(f:Nat->AV)(J:ag)(Q:eR):Prop:=
 match cF with
 | .pl=>dE env aJ D n ops f J Q
 | .dR N b2=>fq env D n N b2 ops f J Q
structure Has(J:ag)(L:List (Nat×List AV)):Prop where
 get:∀p∈L,J.get p.1=some (.cells p.2)
 Fa:L.Pairwise λa b=>a.1≠b.1
def Has.fK{J:ag}{lk:Nat×List AV}{L:List (Nat×List AV)}(H:Has J (lk::L)):J.get lk.1=some (.cells lk.2):=H.get _ (.head _)
def Has.n0{J:ag}{lk a9:Nat×List AV}{L:List (Nat×List AV)}(H:Has J (lk::a9::L)):J.get a9.1=some (.cells a9.2):=H.get _ (.tail _ (.head _))
def Has.B7{J:ag}{lk a9 bt:Nat×List AV}{L:List (Nat×List AV)}(H:Has J (lk::a9::bt::L)):J.get bt.1=some (.cells bt.2):=H.get _ (.tail _ (.tail _ (.head _)))
def Has.B8{J:ag}{lk a9 bt cW:Nat×List AV}{L:List (Nat×List AV)}(H:Has J (lk::a9::bt::cW::L)):J.get cW.1=some (.cells cW.2):=H.get _ (.tail _ (.tail _ (.tail _ (.head _))))
def Has.nil{J:ag}:Has J []:=⟨λ_ h=>absurd h aT,.nil⟩
def Has.bK{J ah:ag}{L:List (Nat×List AV)}(h:Has J L)(k:∀i o,J.get i=some o->ah.get i=some o):Has ah L:=⟨λp ay=>k _ _ (h.get p ay),h.Fa⟩
def tC.c{J:ag}{L:List (Nat×List AV)}{l:lR}{k id:Nat}{c:List AV}(H:Has J L)(hm:(id,c)∈L)(h:tC J l):tC J ((k,id,.cells c)::l):=⟨H.get _ hm,h⟩
def Has.lt{J:ag}{L:List (Nat×List AV)}(h:Has J L){p:Nat×List AV}(ay:p∈L):p.1<J.next:=ag.cJ (h.get p ay)
def Has.cons{J:ag}{L:List (Nat×List AV)}{k:Nat}{c:List AV}(h:Has J L)(aC:J.get k=some (.cells c))(hn:∀p∈L,p.1≠k):Has J ((k,c)::L):=⟨λp ay=>by
 rcases eH.1 ay with rfl|ay
 ·exact aC
 ·exact h.get p ay,List.pairwise_cons.2 ⟨λp ay e=>hn p ay e.symm,h.Fa⟩⟩
def Has.push{J ah:ag}{L:List (Nat×List AV)}{k:Nat}{c:List AV}(h:Has J L)(hn:J.next=k)(aC:ah.get k=some (.cells c))(cH:∀i o,J.get i=some o->ah.get i=some o):Has ah ((k,c)::L):=
 (h.bK cH).cons aC λp ay=>by have:=h.lt ay;omega
def Has.set{J ah:ag}{L:List (Nat×List AV)}{id:Nat}{c bn:List AV}(h:Has J L)(j:Nat)(aG:L[j]? =some (id,c))(aC:ah.get id=some (.cells bn))(cH:∀i o,i≠id->J.get i=some o->ah.get i=some o):Has ah (L.set j (id,bn)):=by
 obtain⟨hlt,he⟩:=lG.1 aG;have b_:∀i (hi:i<L.length),i≠j->(L[i]).1≠id:=λi hi zo=>by
  have ay:=JG.1 h.Fa;have e:(L[j]).1=id:=by rw[he]
  rcases nG i j with h1|h1
  ·rw[<-e];exact ay i j hi hlt h1
  ·rw[<-e];exact λcp=>ay j i hlt hi U cp.symm
 refine⟨λp ay=>?_,JG.2 λa b ha hb b5j=>?_⟩
 ·obtain⟨i,hi,rfl⟩:=lF ay;rw[wO] at hi;rw[H7];split
  ·exact aC
  ·exact cH _ _ (b_ i hi U) (h.get _ (c3 hi))
 ·rw[wO] at ha hb;rw[H7,H7];split<;>split
  ·omega
  ·rename_i e _;exact λcp=>b_ b hb U cp.symm
  ·exact b_ a ha U
  ·exact JG.1 h.Fa a b ha hb b5j
def Has.YK{J:ag}{L dT:List (Nat×List AV)}(h:Has J L)(ak:dT.Sublist L):Has J dT:=⟨λp ay=>h.get p (ak.subset ay),h.Fa.sublist ak⟩
def pK:List (Nat×AV)->Nat->Option AV
 |[],_=>none
 |(j,v)::L,i=>cond (Nat.beq i j) (some v) (pK L i)
def dJ(env:Env)(n:Nat)(L:List (Nat×AV))(g:Nat->AV):aH->Option AV
 | .t i=>cond (Nat.blt i n) (match pK L i with|some v=>some v|none=>some (g i)) none
 | .c v=>some v
 | .g j=>match env.mA j with|some v=>some (.dk true v)|none=>none
def J_{g:Nat->AV}:∀ {L:List (Nat×AV)} (i:Nat),b4 L g i=(match pK L i with|some v=>v|none=>g i)
 |[],i=>rfl
 |(j,v)::L,i=>by
  show cond (Nat.beq i j) v (b4 L g i)=(match cond (Nat.beq i j) (some v) (pK L i) with|some v=>v|none=>g i);cases Nat.beq i j with
  |true=>rfl
  |false=>exact J_ i
def oS(env:Env)(n:Nat)(L:List (Nat×AV))(g:Nat->AV):dc env n (b4 L g)=dJ env n L g:=by
 funext x
 cases x with
 |t i=>
  show cond (Nat.blt i n) (some (b4 L g i)) none=cond (Nat.blt i n) (match pK L i with|some v=>some v|none=>some (g i)) none;rw[J_];cases pK L i<;>rfl
 |c v=>rfl
 |g j=>rfl
def wtL(q:Option (Nat×Bool))(n:Nat)(L:List (Nat×AV)):Bool:=
 match q with
 |none=>true
 |some (d,w)=>cond (Nat.blt d n) (match pK L d with|some (.b x)=>x==w|_=>false) false
def offL(q:Option (Nat×Bool))(n:Nat)(L:List (Nat×AV)):Bool:=
 match q with
 |none=>false
 |some (d,w)=>cond (Nat.blt d n) (match pK L d with|some (.b x)=>!(x==w)|some _=>true|none=>false) false
def r9{q:Option (Nat×Bool)}{n:Nat}{L:List (Nat×AV)}{g:Nat->AV}(h:wtL q n L=true):gj q n (b4 L g)=true:=by
 cases q with
 |none=>rfl
 |some p=>
  obtain⟨d,w⟩:=p;have h:cond (Nat.blt d n) (match pK L d with|some (.b x)=>x==w|_=>false) false=true:=h;show cond (Nat.blt d n) (match b4 L g d with| .b x=>x==w|_=>false) false=true;cases hb:Nat.blt d n with
  |false=>rw[hb] at h;cases h
  |true=>
   rw[hb,cond_true] at h;rw[cond_true,J_];split at h
   ·rename_i ao;rw[ao];exact h
   ·cases h
def YL{q:Option (Nat×Bool)}{n:Nat}{L:List (Nat×AV)}{g:Nat->AV}(h:offL q n L=true):gj q n (b4 L g)=false:=by
 cases q with
 |none=>cases h
 |some p=>
  obtain⟨d,w⟩:=p;have h:cond (Nat.blt d n) (match pK L d with|some (.b x)=>!(x==w)|some _=>true|none=>false) false=true:=h;show cond (Nat.blt d n) (match b4 L g d with| .b x=>x==w|_=>false) false=false;cases hb:Nat.blt d n with
  |false=>rw[hb] at h;cases h
  |true=>
   rw[hb,cond_true] at h;rw[cond_true,J_];split at h
   ·rename_i ao;rw[ao];simpa using h
   ·rename_i x hx ao;rw[ao];clear ao;cases x with
    |b y=>exact absurd I (hx y)
    |_=>rfl
   ·cases h
namespace W
section
variable {env:Env}{aJ:Option Nat}{D:List (Nat ⊕ (AV×List AV))}{n:Nat}{F:List (Nat×AV)}{z:Nat->AV}{J:ag}{Q:eR}
def bk{a b:bC}(h:ch env aJ D n a (b4 F z) J (λx f J=>match x with| .normal=>ch env aJ D n b f J Q|x=>Q x f J)):ch env aJ D n (.seq a b) (b4 F z) J Q:=aa.seq h
def b5k(h:Q .normal (b4 F z) J):ch env aJ D n .skip (b4 F z) J Q:=aa.skip h
def YM{o:aH}{a b:bC}(ho:dJ env n F z o=some (.b true))(h:ch env aJ D n a (b4 F z) J Q):ch env aJ D n (.cond o a b) (b4 F z) J Q:=aa.cl (t:=true) (by rw[oS];exact ho) (λ_=>h) λh=>by cases h
def b5l{o:aH}{a b:bC}(ho:dJ env n F z o=some (.b false))(h:ch env aJ D n b (b4 F z) J Q):ch env aJ D n (.cond o a b) (b4 F z) J Q:=aa.cl (t:=false) (by rw[oS];exact ho) (λh=>by cases h) λ_=>h
def zE{o:aH}{a b:bC}{t:Bool}(ho:dJ env n F z o=some (.b t))(ht:t=true->ch env aJ D n a (b4 F z) J Q)(hf:t=false->ch env aJ D n b (b4 F z) J Q):ch env aJ D n (.cond o a b) (b4 F z) J Q:=aa.cl (by rw[oS];exact ho) ht hf
end
section
variable {cF:qR}{env:Env}{aJ:Option Nat}{D:List (Nat ⊕ (AV×List AV))}{n:Nat}{F:List (Nat×AV)}{z:Nat->AV}{J:ag}{Q:eR}
def rg{ops:List aX}(h:cz .pl env aJ D n ops (b4 F z) J Q):ch env aJ D n (.region ops) (b4 F z) J Q:=aa.region h
def zF{ops:List aX}(ak:swapT ops=true)(h:cz (.dR ops.length []) env aJ D n ops (b4 F z) J Q):ch env aJ D n (.draw ops) (b4 F z) J Q:=aa.b5g ak h
def nil(h:Q .normal (b4 F z) J):cz .pl env aJ D n [] (b4 F z) J Q:=ab.nil h
def b5m{N:Nat}(h:Q .normal (b4 F z) J):cz (.dR N []) env aJ D n [] (b4 F z) J Q:=fq.nil I trivial h
def now{N:Nat}{b2:lR}{ops:List aX}(l bq:lR)(h1:Qb N ops.length b2=l)(h2:YJ N ops.length b2=bq)(hh:tC J l)(h:cz (.dR N bq) env aJ D n ops (b4 F z) J Q):cz (.dR N b2) env aJ D n ops (b4 F z) J Q:=fq.now l bq h1 h2 hh h
def val{d:Nat}{op:AOp}{g:Option (Nat×Bool)}{ops:List aX}{v:AV}{af:ag}(an:Nat.blt d n=true)(hw:wtL g n F=true)(ho:opx 0 (dJ env n F z) J op=some (.val v af))(h:cz cF env aJ D n ops (b4 ((d,v)::F) z) af Q):cz cF env aJ D n (⟨some d,op,g,[]⟩::ops) (b4 F z) J Q:=by
 cases cF with
 |pl=>exact ab.val an (r9 hw) (by rw[oS];exact ho) h
 |dR N b2=>exact fq.val (λx e=>by cases e;exact an) (r9 hw) (by rw[oS];exact ho) h
def qG{op:AOp}{g:Option (Nat×Bool)}{ops:List aX}{v:AV}{af:ag}(hw:wtL g n F=true)(ho:opx 0 (dJ env n F z) J op=some (.val v af))(h:cz cF env aJ D n ops (b4 F z) af Q):cz cF env aJ D n (⟨none,op,g,[]⟩::ops) (b4 F z) J Q:=by
 cases cF with
 |pl=>exact ab.qG (r9 hw) (by rw[oS];exact ho) h
 |dR N b2=>exact fq.val (λx e=>by cases e) (r9 hw) (by rw[oS];exact ho) h
def off{d:Nat}{op:AOp}{g:Option (Nat×Bool)}{wn:List Nat}{ops:List aX}(an:Nat.blt d n=true)(hw:offL g n F=true)(h:cz cF env aJ D n ops (b4 ((d,c4)::F) z) J Q):cz cF env aJ D n (⟨some d,op,g,wn⟩::ops) (b4 F z) J Q:=by
 cases cF with
 |pl=>exact ab.off an (YL hw) h
 |dR N b2=>exact fq.off an (YL hw) h
def b5n:AOp->Bool
 | .cD _=>true| .pick _ _ _=>true| .build _ _=>true| .nilCheck _=>true| .A1 _ _ _=>true| .my _ _ _ _=>true| .not _=>true| .ow _ _ _=>true| .Ia _ _=>true
 | .m7 _ _ _ _ _=>true| .A2 _ _ _ _ _=>true| .rm _ _ _=>true| .fieldAddr _ _ _=>true| .field _ _ _=>true| .A3 _ _ _ _=>true| .dr _ _ _=>true| .extract _ _=>true| .Ib _=>true
 |_=>false
def go{d:Nat}{op:AOp}{g:Option (Nat×Bool)}{ops:List aX}{v:AV}{af:ag}(_hb:b5n op=true)(an:Nat.blt d n=true)(hw:wtL g n F=true)(ho:opx 0 (dJ env n F z) J op=some (.val v af))(h:cz cF env aJ D n ops (b4 ((d,v)::F) z) af Q):cz cF env aJ D n (⟨some d,op,g,[]⟩::ops) (b4 F z) J Q:=val an hw ho h
def bin{d:Nat}{op:BinOp}{x y:aH}{g:Option (Nat×Bool)}{ops:List aX}{a b v:AV}(an:Nat.blt d n=true)(hw:wtL g n F=true)(h1:dJ env n F z x=some a)(h2:dJ env n F z y=some b)(h3:binop op a b=some v)(h:cz cF env aJ D n ops (b4 ((d,v)::F) z) J Q):cz cF env aJ D n (⟨some d,.bin op x y,g,[]⟩::ops) (b4 F z) J Q:=val an hw (ET a b v h1 h2 h3) h
def cmpP(op:BinOp)(a b:Nat):Prop:=
 match op with
 | .eql=>a=b
 | .neq=>¬a=b
 | .lss=>a<b
 | .leq=>a<=b
 | .gtr=>b<a
 | .geq=>b<=a
 |_=>False
def YN:BinOp->Bool
 | .eql=>true
 | .neq=>true
 | .lss=>true
 | .leq=>true
 | .gtr=>true
 | .geq=>true
 |_=>false
def b5o{op:BinOp}{a b:Nat}(h:cmpP op a b):cmpO op a b=some (.b true):=by
 cases op<;>first
  |(have h:_:=h;simp only[cmpP] at h;simp only[cmpO,decide_eq_true h];done)
  |(have h:_:=h;simp only[cmpP] at h;simp only[cmpO,decide_eq_false h,Bool.not_false];done)
  |exact h.elim
def b5p{op:BinOp}{a b:Nat}(ae:YN op=true)(h:¬cmpP op a b):cmpO op a b=some (.b false):=by
 cases op<;>first
  |(simp only[cmpP] at h;simp only[cmpO,decide_eq_false h];done)
  |(simp only[cmpP,Decidable.not_not] at h;simp only[cmpO,decide_eq_true h,Ot];done)
  |cases ae
def b5q{d:Nat}{op:BinOp}{x y:aH}{g:Option (Nat×Bool)}{ops:List aX}{k:IntKind}{a b:Nat}(an:Nat.blt d n=true)(hw:wtL g n F=true)(h1:dJ env n F z x=some (.i k (Int.ofNat a)))(h2:dJ env n F z y=some (.i k (Int.ofNat b)))(h3:cmpP op a b)(h:cz cF env aJ D n ops (b4 ((d,.b true)::F) z) J Q):cz cF env aJ D n (⟨some d,.bin op x y,g,[]⟩::ops) (b4 F z) J Q:=bin an hw h1 h2 (cG (b5o h3)) h
def zG{d:Nat}{op:BinOp}{x y:aH}{g:Option (Nat×Bool)}{ops:List aX}{k:IntKind}{a b:Nat}(an:Nat.blt d n=true)(hw:wtL g n F=true)(ae:YN op=true)(h1:dJ env n F z x=some (.i k (Int.ofNat a)))(h2:dJ env n F z y=some (.i k (Int.ofNat b)))(h3:¬cmpP op a b)(h:cz cF env aJ D n ops (b4 ((d,.b false)::F) z) J Q):cz cF env aJ D n (⟨some d,.bin op x y,g,[]⟩::ops) (b4 F z) J Q:=bin an hw h1 h2 (cG (b5p ae h3)) h
def ia{d:Nat}{op:BinOp}{x y:aH}{g:Option (Nat×Bool)}{ops:List aX}{k:IntKind}{a b:Nat}{v:AV}(an:Nat.blt d n=true)(hw:wtL g n F=true)(h1:dJ env n F z x=some (.i k (Int.ofNat a)))(h2:dJ env n F z y=some (.i k (Int.ofNat b)))(h3:cmpO op a b=some v)(h:cz cF env aJ D n ops (b4 ((d,v)::F) z) J Q):cz cF env aJ D n (⟨some d,.bin op x y,g,[]⟩::ops) (b4 F z) J Q:=bin an hw h1 h2 (cG h3) h
def len{d k m:Nat}{x:aH}{g:Option (Nat×Bool)}{ops:List aX}{v:AV}(an:Nat.blt d n=true)(hw:wtL g n F=true)(h1:dJ env n F z x=some v)(h2:lenA J k v=some m)(h:cz cF env aJ D n ops (b4 ((d,aw m)::F) z) J Q):cz cF env aJ D n (⟨some d,.len k x,g,[]⟩::ops) (b4 F z) J Q:=val an hw (JS h1 h2) h
def jq{d:Nat}{R:Option Nat}{x i:aH}{g:Option (Nat×Bool)}{ops:List aX}{k:IntKind}{a v:AV}{j:Nat}(an:Nat.blt d n=true)(hw:wtL g n F=true)(h1:dJ env n F z x=some a)(h2:dJ env n F z i=some (.i k (Int.ofNat j)))(h3:idxSlA R a j=some v)(h:cz cF env aJ D n ops (b4 ((d,v)::F) z) J Q):cz cF env aJ D n (⟨some d,.dr R x i,g,[]⟩::ops) (b4 F z) J Q:=val an hw (PS k a j v h1 h2 h3) h
def gY{d:Nat}{R:Option Nat}{x:aH}{g:Option (Nat×Bool)}{ops:List aX}{o:Bool}{v:AV}(an:Nat.blt d n=true)(hw:wtL g n F=true)(h1:dJ env n F z x=some (.dk o v))(h2:conf R v=true)(h:cz cF env aJ D n ops (b4 ((d,v)::F) z) J Q):cz cF env aJ D n (⟨some d,.load R x,g,[]⟩::ops) (b4 F z) J Q:=val an hw (lp _ _ h1 (by show(if conf R v then some v else none)=_;rw[if_pos h2])) h
def a0{L:List (Nat×List AV)}(H:Has J L){d:Nat}{R:Option Nat}{x:aH}{g:Option (Nat×Bool)}{ops:List aX}{id off:Nat}{c:List AV}{v:AV}(an:Nat.blt d n=true)(hw:wtL g n F=true)(h1:dJ env n F z x=some (.p (some (id,off))))(hm:(id,c)∈L)(h2:dB R (c.drop off)=some v)(h:cz cF env aJ D n ops (b4 ((d,v)::F) z) J Q):cz cF env aJ D n (⟨some d,.load R x,g,[]⟩::ops) (b4 F z) J Q:=val an hw (lp _ _ h1 (l8 (H.get _ hm) h2)) h
def nq{N:Nat}{b2:lR}{L:List (Nat×List AV)}(H:Has J L){d:Nat}{R:Option Nat}{x:aH}{g:Option (Nat×Bool)}{wn:List Nat}{ops:List aX}{id off:Nat}{c:List AV}{v:AV}(an:Nat.blt d n=true)(hw:wtL g n F=true)(h1:dJ env n F z x=some (.p (some (id,off))))(hm:(id,c)∈L)(h2:dB R (c.drop off)=some v)(au:AV.eqb env.a2 v v=true)
  (h:cz (.dR N (wn.map (λq=>(q,id,AO.cells c))++b2)) env aJ D n ops (b4 ((d,v)::F) z) J Q):cz (.dR N b2) env aJ D n (⟨some d,.load R x,g,wn⟩::ops) (b4 F z) J Q:=fq.nq (H.get _ hm) an (r9 hw) (λs ak=>by rw[oS];exact lp _ _ h1 (l8 ak h2)) au h
def B5{N:Nat}{b2:lR}{d:Nat}{op:AOp}{g:Option (Nat×Bool)}{wn:List Nat}{ops:List aX}{v:AV}(fJ:cB (λq=>Nat.ble N (q+ops.length)&&Nat.ble q N) wn=true)(an:Nat.blt d n=true)(hw:wtL g n F=true)(ho:∀s:ag,opx 0 (dJ env n F z) s op=some (.val v s))(au:AV.eqb env.a2 v v=true)(h:cz (.dR N b2) env aJ D n ops (b4 ((d,v)::F) z) J Q):cz (.dR N b2) env aJ D n (⟨some d,op,g,wn⟩::ops) (b4 F z) J Q:=fq.B5 fJ an (r9 hw) (λs=>by rw[oS];exact ho s) au h
def hI{L:List (Nat×List AV)}(H:Has J L){d:Nat}{v:AV}{g:Option (Nat×Bool)}{ops:List aX}{c:List AV}{k:Nat}(hn:J.next=k)(an:Nat.blt d n=true)(hw:wtL g n F=true)(ae:v.cells=c)(h:∀ah:ag,ah.next=k+1->Has ah ((k,c)::L)->(∀i o,J.get i=some o->ah.get i=some o)->cz cF env aJ D n ops (b4 ((d,.p (some (k,0)))::F) z) ah Q):cz cF env aJ D n (⟨some d,.alloc v,g,[]⟩::ops) (b4 F z) J Q:=by
 subst hn;have cH:∀i o,J.get i=some o->(J.push (.cells c)).get i=some o:=λi o ho=>by rw[ag.fy trivial _ (ag.cJ ho)];exact ho
 refine val (v:=jL J.next 0) (af:=J.push (.cells c)) an hw (by rw[<-ae];rfl) (h (J.push (.cells c)) I (H.push I (ag.ij _) cH) cH)
def dK{L:List (Nat×List AV)}(H:Has J L){d:Nat}{x:aH}{v:AV}{g:Option (Nat×Bool)}{ops:List aX}{c:List AV}{k:Nat}(hn:J.next=k)(an:Nat.blt d n=true)(hw:wtL g n F=true)(au:dJ env n F z x=some v)(hval:v.val=true)(ae:v.cells=c)(h:∀ah:ag,ah.next=k+1->Has ah ((k,c)::L)->(∀i o,J.get i=some o->ah.get i=some o)->cz cF env aJ D n ops (b4 ((d,.p (some (k,0)))::F) z) ah Q):cz cF env aJ D n (⟨some d,.box x,g,[]⟩::ops) (b4 F z) J Q:=by
 subst hn;have cH:∀i o,J.get i=some o->(J.push (.cells c)).get i=some o:=λi o ho=>by rw[ag.fy trivial _ (ag.cJ ho)];exact ho
 refine val (v:=jL J.next 0) (af:=J.push (.cells c)) an hw ?_ (h (J.push (.cells c)) I (H.push I (ag.ij _) cH) cH);show(match dJ env n F z x with|some v=>cond v.val (some (bH.val (jL J.next 0) (J.push (.cells v.cells)))) none|none=>none)=_;rw[au];show cond v.val _ _=_;rw[hval,cond_true,ae]
def st{L:List (Nat×List AV)}(H:Has J L)(j:Nat){R:Option Nat}{a x:aH}{g:Option (Nat×Bool)}{ops:List aX}{id off:Nat}{v:AV}{c bn:List AV}(hw:wtL g n F=true)(h1:dJ env n F z a=some (.p (some (id,off))))(aG:L[j]? =some (id,c))(h2:dJ env n F z x=some v)(dX:conf R v=true)(ae:storeCells c off v.cells=some bn)
  (h:∀ah:ag,ah.next=J.next->Has ah (L.set j (id,bn))->(∀i o,i≠id->J.get i=some o->ah.get i=some o)->cz cF env aJ D n ops (b4 F z) ah Q):cz cF env aJ D n (⟨none,.store R a x,g,[]⟩::ops) (b4 F z) J Q:=by
 have ak:=H.get _ (Oo aG);exact qG hw (Ym ak h1 h2 dX ae) (h _ I (H.set j aG (hX ak).1 (hX ak).2) (hX ak).2)
def jr{L:List (Nat×List AV)}(H:Has J L){d:Nat}{v0 v:AV}{R:Option Nat}{x:aH}{ops:List aX}{c:List AV}{k:Nat}(hn:J.next=k)(an:Nat.blt d n=true)(hx:dJ env n ((d,.p (some (k,0)))::F) z x=some v)(dX:conf R v=true)(ae:v.cells=c)(ao:c.length=v0.cells.length)(h1:Nat.beq d d=true)
  (h:∀ah:ag,ah.next=k+1->Has ah ((k,c)::L)->(∀i o,J.get i=some o->ah.get i=some o)->cz cF env aJ D n ops (b4 ((d,.p (some (k,0)))::F) z) ah Q):cz cF env aJ D n (⟨some d,.alloc v0,none,[]⟩::⟨none,.store R (.t d) x,none,[]⟩::ops) (b4 F z) J Q:=by
 refine hI H hn an I I λah a9 bt cW=>?_;have aF:dJ env n ((d,.p (some (k,0)))::F) z (.t d)=some (.p (some (k,0))):=by
  show cond (Nat.blt d n) (match cond (Nat.beq d d) (some _) _ with|some v=>some v|none=>some (z d)) none=_;rw[an,h1];rfl
 refine st bt 0 I aF I hx dX (by rw[ae];exact storeAll ao) λca db cK et=>h ca (db.trans a9) cK λi o ho=>et i o ?_ (cW i o ho);have:=ag.cJ ho;omega
def gx{b:b8}{K:Nat->List AV->AV->Prop}{d:Nat}{op:AOp}{g:Option (Nat×Bool)}{ops:List aX}{fn:Nat}{args aB:List AV}{r:AV}(hf:∀g aB r bS,K g aB r->K g aB bS->r=bS)(e:b.ext fn=0/\b.pure fn=true)(eg:K fn aB r)
  (an:Nat.blt d n=true) (hw:wtL g n F=true) (ho:opx 0 (dJ (b.aQ K) n F z) J op=some (.call (.f (.func fn) [] []) args)) (ha:mapO (bp J (b.a2+1000)) args=some aB) (h:cz cF (b.aQ K) aJ D n ops (b4 ((d,r)::F) z) J Q):cz cF (b.aQ K) aJ D n (⟨some d,op,g,[]⟩::ops) (b4 F z) J Q:=by
 cases cF with
 |pl=>exact ab.known hf e.1 e.2 eg an (r9 hw) (by rw[oS];exact ho) ha h
 |dR N b2=>
  exact fq.call (az:=λx ah=>x= .ok r/\ah=J) an (r9 hw) (by rw[oS];exact ho) (bw.spec e.1 e.2 (by rw[qA,fp];exact ha) (PT hf eg) ⟨rfl,rfl⟩) λbS ah ⟨aF,aV⟩=>⟨_,aF,by subst aV;exact h⟩
def js{d:Nat}{op:AOp}{g:Option (Nat×Bool)}{ops:List aX}{bx:AV}{args:List AV}{az:cQ->ag->Prop}(an:Nat.blt d n=true)(hw:wtL g n F=true)(ho:opx 0 (dJ env n F z) J op=some (.call bx args))
  (ae:bw env 0 bx args J az) (h:∀r ah,az r ah->∃v,r= .ok v/\cz cF env aJ D n ops (b4 ((d,v)::F) z) ah Q):cz cF env aJ D n (⟨some d,op,g,[]⟩::ops) (b4 F z) J Q:=by
 cases cF with
 |pl=>exact ab.dW an (r9 hw) (by rw[oS];exact ho) ae h
 |dR N b2=>exact fq.call an (r9 hw) (by rw[oS];exact ho) ae h
end
section
variable {cF:qR}{env:Env}{aJ:Option Nat}{D:List (Nat ⊕ (AV×List AV))}{n:Nat}{f:Nat->AV}{J:ag}{Q:eR}{d:Option Nat}{g:Option (Nat×Bool)}{wn:List Nat}{ops:List aX}
def b5r{R:Option Nat}{x:aH}(h:cz cF env aJ D n (⟨d,.load R x,g,[]⟩::ops) f J Q):cz cF env aJ D n (⟨d,.load R x,g,[]⟩::ops) f J Q:=h
def b5s{R:Option Nat}{x:aH}{a:Nat}{l:List Nat}(h:cz cF env aJ D n (⟨d,.load R x,g,a::l⟩::ops) f J Q):cz cF env aJ D n (⟨d,.load R x,g,a::l⟩::ops) f J Q:=h
def b5t{op:BinOp}{x y:aH}(h:cz cF env aJ D n (⟨d,.bin op x y,g,wn⟩::ops) f J Q):cz cF env aJ D n (⟨d,.bin op x y,g,wn⟩::ops) f J Q:=h
def b5u{R:Option Nat}{x y:aH}(h:cz cF env aJ D n (⟨d,.dr R x y,g,wn⟩::ops) f J Q):cz cF env aJ D n (⟨d,.dr R x y,g,wn⟩::ops) f J Q:=h
def b5v{k:Nat}{x:aH}(h:cz cF env aJ D n (⟨d,.len k x,g,wn⟩::ops) f J Q):cz cF env aJ D n (⟨d,.len k x,g,wn⟩::ops) f J Q:=h
end
def lt{cF:qR}{env:Env}{aJ:Option Nat}{D:List (Nat ⊕ (AV×List AV))}{n:Nat}{F:List (Nat×AV)}{z:Nat->AV}{J:ag}{Q:eR}{d:Nat}{R:Option Nat}{x:aH}{g:Option (Nat×Bool)}{ops:List aX}{o:Bool}{v:AV}(an:Nat.blt d n=true)(hw:wtL g n F=true)(h1:dJ env n F z x=some (.dk o v))(h2:conf R v=true)(h:cz cF env aJ D n ops (b4 ((d,v)::F) z) J Q):cz cF env aJ D n (⟨some d,.load R x,g,[]⟩::ops) (b4 F z) J Q:=gY an hw h1 h2 h
def oT:Nat->List AV->List (Nat×AV)
 |_,[]=>[]
 |i,a::l=>(i,a)::oT (i+1) l
def Ka{f:Nat->AV}:∀(l:List AV) (i:Nat),(∀j a,l[j]? =some a->f (i+j)=a)->sat (oT i l) f
 |[],_,_=>trivial
 |a::l,i,h=>⟨h 0 a I,Ka l (i+1) λj cC e=>by have:=h (j+1) cC e;rwa[show i+(j+1)=i+1+j from by omega] at this⟩
def args{env:Env}{aJ:Option Nat}{D:List (Nat ⊕ (AV×List AV))}{n:Nat}{c:bC}{as:List AV}{J:ag}{Q:eR}(h:∀z,ch env aJ D n c (b4 (oT 0 as) z) J Q):ch env aJ D n c (eh as) J Q:=
 aa.norm (oT 0 as) (Ka as 0 λj a e=>by show as.getD (0+j) c4=a;rw[lQ,nQ,e];rfl) h
def code{env:Env}{J:ag}{fn:Nat}{bG:bP}{body:bC}{dR:Nat}{first cap args:List AV}{az:cQ->ag->Prop}(e:env.ext fn=0)(ay:env.pure fn=false)(hf:env.funcs fn=some bG)(hb:bG.body=some body)
  (hn:(Nat.beq (first++args++cap).length bG.ig&&Nat.ble (first++args++cap).length bG.ntmps)=true) (dh:bG.results=[(dR,none)]) (vt:Nat.blt dR bG.ntmps=true)
  (h:∀z,ch env none [] bG.ntmps body (b4 (oT 0 (first++args++cap)) z) J (λx bD af=>x= .ret/\az (.ok (bD dR)) af)):bw env 0 (.f (.func fn) first cap) args J az:=bw.code e ay hf hb hn dh vt (W.args h)
def pI{env:Env}{J:ag}{fn:Nat}{bG:bP}{body:bC}{first cap args:List AV}{az:cQ->ag->Prop}(e:env.ext fn=0)(ay:env.pure fn=false)(hf:env.funcs fn=some bG)(hb:bG.body=some body)
  (hn:(Nat.beq (first++args++cap).length bG.ig&&Nat.ble (first++args++cap).length bG.ntmps)=true) (dh:bG.results=[])
  (h:∀z,ch env none [] bG.ntmps body (b4 (oT 0 (first++args++cap)) z) J (λx _ af=>(x= .ret\/x= .normal)/\az (.ok (.a6 [])) af)):bw env 0 (.f (.func fn) first cap) args J az:=bw.pI e ay hf hb hn dh (W.args h)
end W
def AV.B9:AV->Bool
 | .b _=>true| .i _ _=>true| .s _=>true| .p _=>true| .aq _ _ _ _ _=>true| .aj=>true| .m _=>true| .gp=>true| .eC=>true| .y _=>true| .eT _ _=>true
 |_=>false
def Fb{n:Nat}{v:AV}(h:v.B9=true):AV.eqb (n+1) v v=true:=by
 cases v with
 |b x=>show(x==x)=true;simp
 |i k x=>show(decide (k=k)&&decide (x=x))=true;simp
 |s l=>exact tx l
 |p a=>cases a with
  |none=>rfl
  |some a=>show(Nat.beq a.1 a.1&&Nat.beq a.2 a.2)=true;simp
 |aq a b c d e=>show(Nat.beq a a&&Nat.beq b b&&Nat.beq c c&&decide (d=d)&&decide (e=e))=true;simp
 |aj=>rfl
 |m r=>cases r with
  |none=>rfl
  |some r=>show Nat.beq r r=true;simp
 |gp=>rfl
 |eC=>rfl
 |y i=>show Nat.beq i i=true;simp
 |eT o i=>show((o==o)&&Nat.beq i i)=true;simp
 |_=>cases h
def b5w{n:Nat}{l:List AV}(h:cB AV.B9 l=true):AV.eqb (n+2) (.ad l) (.ad l)=true:=pG λx hx=>Fb (np h x hx)
section
def r_(ids:List Nat)(v:AV):AV:=
 match v with
 | .aq i off len R cap=>.aq (ids.getD i 0) off len R cap
 |v=>v
def sa(ids:List Nat)(v:AV):Bool:=
 match v with
 | .aq i _ _ _ _=>Nat.blt i ids.length
 |v=>s0 v
def Fc(ids:List Nat)(v:AV):AV:=
 match v with
 | .ad l=>.ad (l.map (r_ ids))
 |v=>r_ ids v
def Fe(ids:List Nat)(v:AV):AV:=
 match v with
 | .a6 l=>.a6 (l.map (Fc ids))
 |v=>Fc ids v
def xy(ids:List Nat)(v:AV):Bool:=
 match v with
 | .ad l=>cB (sa ids) l
 |v=>sa ids v
def okV(ids:List Nat)(v:AV):Bool:=
 match v with
 | .a6 l=>cB (xy ids) l
 |v=>xy ids v
def Ff{ids:List Nat}{v:AV}(h:sa ids v=true):s0 v=true:=by cases v<;>first|rfl|exact h
def YO{α:Type}{p:α->Bool}{l:List α}(h:∀x∈l,p x=true):cB p l=true:=by
 induction l with
 |nil=>rfl
 |cons x l ar=>
  show cond (p x) (cB p l) false=true;rw[h x (oq ..),ar λy aI=>h y (fP _ aI)];rfl
def YP{ids:List Nat}{v:AV}(h:xy ids v=true):wR v=true:=by
 by_cases rU:∃l,v= .ad l
 ·obtain⟨l,rfl⟩:=rU;exact YO λx hx=>Ff (jO h x hx)
 ·have aF:wR v=s0 v:=by cases v<;>first|rfl|exact absurd ⟨_,rfl⟩ rU
  have aV:xy ids v=sa ids v:=by cases v<;>first|rfl|exact absurd ⟨_,rfl⟩ rU
  rw[aF];rw[aV] at h;exact Ff h
def YQ{ids:List Nat}{v:AV}(h:okV ids v=true):A7 v=true:=by
 by_cases rV:∃l,v= .a6 l
 ·obtain⟨l,rfl⟩:=rV;exact YO λx hx=>YP (jO h x hx)
 ·have aF:A7 v=wR v:=by cases v<;>first|rfl|exact absurd ⟨_,rfl⟩ rV
  have aV:okV ids v=xy ids v:=by cases v<;>first|rfl|exact absurd ⟨_,rfl⟩ rV
  rw[aF];rw[aV] at h;exact YP h
section
variable {w:World}{b3:Nat->Option Nat}{O nW:Nat->Prop}{B nX:Nat}{ids:List Nat}
def Kb{v:AV}{u:Value}(au:sa ids v=true)(h:az w b3 O B (r_ ids v) u):az w (λi=>(ids[i]?).bind b3) nW nX v u:=by
 cases v with
 |aq i off len R cap=>
  cases h with
  |aq h ao ae hn fi dP=>
   refine .aq ?_ ao ae hn fi dP;have hi:i<ids.length:=eb au;rw[eS hi];have e:ids.getD i 0=ids[i]:=by rw[nQ,eS hi];rfl
   rw[e] at h;exact h
 |s l=>cases h with|s l h=>exact .s l h
 |i k n=>cases h with|i k n=>exact .i k n
 |b x=>cases h with|b x=>exact .b x
 |aj=>cases h with|aj=>exact .aj
 |_=>cases au
def YR{v:AV}{u:Value}(au:xy ids v=true)(h:az w b3 O B (Fc ids v) u):az w (λi=>(ids[i]?).bind b3) nW nX v u:=by
 by_cases rU:∃l,v= .ad l
 ·obtain⟨l,rfl⟩:=rU;cases h with
  | @ad _ _ _ _ a8 ak al hf=>
   refine .ad (by rw[cb] at ak;exact ak) (λi h h'=>?_) (λx hx=>?_)
   ·have:=al i (by rw[cb];exact h) h';rw[ic] at this;exact Kb (jO au _ (c3 h)) this
   ·have:=Ff (jO au x hx);cases x<;>first|rfl|cases this
 ·have aF:xy ids v=sa ids v:=by cases v<;>first|rfl|exact absurd ⟨_,rfl⟩ rU
  have aV:Fc ids v=r_ ids v:=by cases v<;>first|rfl|exact absurd ⟨_,rfl⟩ rU
  rw[aF] at au;rw[aV] at h;exact Kb au h
def YS{v:AV}{u:Value}(au:okV ids v=true)(h:az w b3 O B (Fe ids v) u):az w (λi=>(ids[i]?).bind b3) nW nX v u:=by
 by_cases rV:∃l,v= .a6 l
 ·obtain⟨l,rfl⟩:=rV;cases h with
  | @a6 _ _ _ _ a8 ak al=>
   refine .a6 (by rw[cb] at ak;exact ak) (λi h h'=>?_);have:=al i (by rw[cb];exact h) h';rw[ic] at this;exact YR (jO au _ (c3 h)) this
 ·have aF:okV ids v=xy ids v:=by cases v<;>first|rfl|exact absurd ⟨_,rfl⟩ rV
  have aV:Fe ids v=Fc ids v:=by cases v<;>first|rfl|exact absurd ⟨_,rfl⟩ rV
  rw[aF] at au;rw[aV] at h;exact YR au h
end
variable {P:Program}{env:Env}
def b5x(fS:px P env)(ei:zx P env)(hex:tk P env)(jQ:P.follows .mixedOrders=true){n g:Nat}{aB:List AV}{v:AV}{af:ag}(h:runF env (exec env n) 0 g aB ⟨.nil,0⟩=some [(.ok v,af)])
  {ids:List Nat} {a_:AV} {cs:List (List AV)} (hnd:ids.Nodup) (ao:cs.length=ids.length) (au:okV ids a_=true) (Qc:Fe ids a_=v) (hJ:∀i (h:i<cs.length) (h':i<ids.length),af.get ids[i]=some (.cells (cs[i].map (r_ ids)))/\∀x∈cs[i],sa ids x=true) (bN:Nat):
  zk P env bN g aB a_ (cs.map AO.cells):=by
 refine⟨?_,λk rd w us eu cc ha=>?_⟩
 ·unfold runF at h;cases hg:env.funcs g with
  |none=>simp[hg] at h
  |some bG=>
   obtain⟨fn,h1,h2,h3⟩:=fS.funcs g bG hg;obtain⟨_,c,_,_,aN,_⟩:=D_ h2;exact⟨fn,c,h1,aN,h3⟩
 ·have EO:Globs env w w.heap.size:=λg v hg ej=>(cc g v hg ej).mono (λ_ _ h=>h) (b6 _) (λ_ _ h=>h) (λb _ hb=>⟨rfl,λho=>hb (lE eu ho)⟩);have b5:=JL fS (ei w.heap.size) hex jQ n;have nT:=PI (P:=P) w;have rS:bF w (λ_=>none) (bh ⟨.nil,0⟩ (λ_=>none)) w.heap.size aB us.toList:=ha.mono (λ_ _ h=>h) (b6 _) (λ_ _ h=>h) (λb _ _=>⟨rfl,PJ b⟩);obtain⟨_,ae⟩:=Eb fS b5 (Eg fS 0) h k rd nT EO rS;refine w3 ae (λe bf dh=>?_);obtain⟨ret,bu,eQ,b3,hU,hS,fl⟩:=dh;rw[dx] at eQ;cases eQ;have hb:∀id aA,(ids[id]?).bind b3=some aA->∃(h:id<ids.length),b3 ids[id]=some aA:=λid aA hm=>by
   obtain⟨j,aG,hm⟩:=dy.1 hm;obtain⟨h1,h2⟩:=lG.1 aG;exact⟨h1,by rw[h2];exact hm⟩
  have r7:∀id c,(cs.map AO.cells)[id]? =some (.cells c)->∃(h:id<ids.length),af.get ids[id]=some (.cells (c.map (r_ ids)))/\∀x∈c,sa ids x=true:=λid c ho=>by
   rw[w4] at ho;obtain⟨bn,h1,h2⟩:=eE.1 ho;cases h2;obtain⟨h3,aN⟩:=lG.1 h1;have:=hJ id h3 U;rw[aN] at this;exact⟨U,this⟩
  cases e with
  |returned u=>
   have hU:az bf b3 (bh af b3) w.heap.size v u:=hU;refine⟨u,rfl,⟨λi=>(ids[i]?).bind b3,YQ au,YS au (by rw[Qc];exact hU),λid aA hm=>?_,λid aA c hm ho=>?_,λid eW aA c bn hm pg ho lO=>?_⟩,fl.size,λb hb=>fl.bK b hb (λ⟨_,_,h,_⟩=>by simp at h),fl.os,fl.tape,fl.out⟩
   ·obtain⟨h1,h2⟩:=hb _ _ hm;exact⟨hS.base _ _ h2,(hS.eV _ _ h2).1,by rw[cb];omega⟩
   ·obtain⟨h1,h2⟩:=hb _ _ hm;obtain⟨h3,aN,bY⟩:=r7 _ _ ho;obtain⟨arr,el,a2,iB,gO,h9,iE,nY⟩:=hS.cells h2 aN;rw[cb] at gO h9;refine⟨arr,el,a2,iB,h9,λi a b=>?_,iE,λx hx=>Ff (bY x hx)⟩;have:=gO.2 i (by rw[cb];exact a) (by rw[gO.1,cb];exact a);rw[ic] at this;exact Kb (bY _ (c3 a)) (by simpa using this)
   ·obtain⟨h1,h2⟩:=hb _ _ hm;obtain⟨oE,lN⟩:=hb _ _ pg;obtain⟨_,aN,_⟩:=r7 _ _ ho;obtain⟨_,Fg,_⟩:=r7 _ _ lO;have e:=hS.inj _ _ _ h2 lN ⟨_,aN,rfl⟩ ⟨_,Fg,rfl⟩;exact(List.getElem_inj hnd).1 e
  |panicked mL=>exact hU.elim
  |outgrown=>exact hU.elim
end
end
section
open Go Go.RowKit
section
variable [Tok]
def Seen(w:World)(o bV:Bool)(O iS:Nat->Prop)(B ej:Nat):Prop:=∀aA,aA<w.heap.size->¬O aA->(o=false->B<=aA)->¬iS aA/\(bV=false->ej<=aA)
def YT{α:Type}{w:World}{o bV:Bool}{O iS:Nat->Prop}{B ej k:Nat}(cg:Seen w o bV O iS B ej)(f g:α->List AV)(l:List α)(hf:∀x∈l,(f x).length=k)(hg:∀x∈l,(g x).length=k)(ae:∀x∈l,∀y∈g x,conf none y=true)
  (ar:∀x∈l,∀i (h:i<(f x).length) (h':i<(g x).length) u,az w (λ_=>none) O B ((f x)[i]) u->az w (λ_=>none) iS ej ((g x)[i]) u) {u:Value} (h:az w (λ_=>none) O B (.aR o (some k) (l.map λx=>.ad (f x))) u):az w (λ_=>none) iS ej (.aR bV (some k) (l.map λx=>.ad (g x))) u:=by
 generalize ed:l.map (λx=>AV.ad (f x))=xs at h;cases h with
 |kB=>
  obtain rfl:=PA.1 ed;exact .kB
 |aR a4 c9 ak y8 al ao c4G ei=>
  rename_i aA off ec sp;have hlen:xs.length=(l.map λx=>AV.ad (g x)).length:=by rw[<-ed,cb,cb]
  rw[hlen];have b_:(l.map λx=>AV.ad (g x))≠[]->xs≠[]:=λh e=>h (by rw[<-ed,PA] at e;rw[e];rfl);have hx:∀i (h:i<xs.length) (h':i<l.length),xs[i]= .ad (f l[i]):=λi h h'=>by subst ed;simp
  have aI:∀i (h:i<(l.map λx=>AV.ad (g x)).length) (h':i<l.length),(l.map λx=>AV.ad (g x))[i]= .ad (g l[i]):=λi h h'=>by simp
  have sb:(l.map λx=>AV.ad (g x)).length=l.length:=cb ..;refine .aR a4 (λh=>?_) (λi hi=>?_) (λi hi j aG=>?_) (λi hi j aG=>?_) U (λv au x hx=>?_) (λh=>ei (b_ h))
  ·obtain⟨h1,h2,h3⟩:=c9 (b_ h);obtain⟨aN,bY⟩:=cg aA h2 h1 h3;exact⟨aN,h2,bY⟩
  ·rw[aI i hi U];show conf (some k) (.ad _)=true;simp[conf,hg _ (c3 (show i<l.length by omega))]
  ·have du:i<l.length:=by omega
   have aF:((l.map λx=>AV.ad (g x))[i]).cells=g l[i]:=by rw[aI i hi du];rfl
   have fj:j<(g l[i]).length:=by rw[aF] at aG;exact aG
   have aV:(xs[i]'U).cells=f l[i]:=by rw[hx i U du];rfl
   exact y8 i U j (by rw[aV,hf _ (c3 du),← hg _ (c3 du)];exact fj)
  ·have du:i<l.length:=by omega
   have aF:((l.map λx=>AV.ad (g x))[i]).cells=g l[i]:=by rw[aI i hi du];rfl
   have fj:j<(g l[i]).length:=by rw[aF] at aG;exact aG
   have aV:(xs[i]'U).cells=f l[i]:=by rw[hx i U du];rfl
   have mI:j<(f l[i]).length:=by rw[hf _ (c3 du),← hg _ (c3 du)];exact fj
   have:=al i U j (by rw[aV];exact mI);simp only[aV] at this;simp only[aF];exact ar _ (c3 du) j mI fj _ this
  ·obtain⟨y,aI,rfl⟩:=di.1 au;exact ae y aI x hx
def Qd{w:World}{o bV:Bool}{O iS:Nat->Prop}{B ej:Nat}(cg:Seen w o bV O iS B ej):∀(d:Nat) (a:Option (List Tm)),Tm.cv (a.getD [])<d->∀u,az w (λ_=>none) O B (cy o a) u->az w (λ_=>none) iS ej (cy bV a) u
 |0,a,h,_,_=>by omega
 |d+1,none,_,u,h=>by
  have h:az w (λ_=>none) O B .aj u:=h;cases h;exact .aj
 |d+1,some l,an,u,h=>by
  refine YT (k:=3) cg (λt:Tm=>t.cells o) (λt:Tm=>t.cells bV) l (λt _=>by rw[Tm.gJ];rfl) (λt _=>by rw[Tm.gJ];rfl) (λt _ y aI=>?_) (λt ht i h1 h2 u hu=>?_) h
  ·rw[Tm.gJ] at aI;simp only[eH,mJ,or_false] at aI;rcases aI with rfl|rfl|rfl
   ·rfl
   ·rfl
   ·cases t.cP<;>rfl
  ·have Qe:Tm.cv (t.cP.getD [])<d:=by
    have h3:Tm.cv l<d+1:=an;have aN:=Tm.vr ht;have bY:t.dep=Tm.cv (t.cP.getD [])+1:=Tm.e0 t;omega
   simp only[Tm.gJ] at hu h1 h2 ⊢
   match i,h1 with
   |0,_=>cases hu;exact .b _
   |1,_=>cases hu;exact .s _ (by assumption)
   |2,_=>exact Qd cg d t.cP Qe u hu
def YU{w:World}{o bV:Bool}{O iS:Nat->Prop}{B ej:Nat}(cg:Seen w o bV O iS B ej):∀(d:Nat) (a:Option (List Fm)),Fm.cv (a.getD [])<d->∀u,az w (λ_=>none) O B (fa o a) u->az w (λ_=>none) iS ej (fa bV a) u
 |0,a,h,_,_=>by omega
 |d+1,none,_,u,h=>by
  have h:az w (λ_=>none) O B .aj u:=h;cases h;exact .aj
 |d+1,some l,an,u,h=>by
  refine YT (k:=4) cg (λt:Fm=>t.cells o) (λt:Fm=>t.cells bV) l (λt _=>by rw[Fm.gJ];rfl) (λt _=>by rw[Fm.gJ];rfl) (λt _ y aI=>?_) (λt ht i h1 h2 u hu=>?_) h
  ·rw[Fm.gJ] at aI;simp only[eH,mJ,or_false] at aI;rcases aI with rfl|rfl|rfl|rfl
   ·rfl
   ·rfl
   ·cases t.cP<;>rfl
   ·cases t.d_<;>rfl
  ·have Qe:Fm.cv (t.d_.getD [])<d:=by
    have h3:Fm.cv l<d+1:=an;have aN:=Fm.vr ht;have bY:t.dep=max (Tm.cv (t.cP.getD [])) (Fm.cv (t.d_.getD []))+1:=Fm.e0 t;omega
   simp only[Fm.gJ] at hu h1 h2 ⊢
   match i,h1 with
   |0,_=>cases hu;exact .i _ _
   |1,_=>cases hu;exact .s _ (by assumption)
   |2,_=>exact Qd cg _ t.cP (pa _) u hu
   |3,_=>exact YU cg d t.d_ Qe u hu
end
end
end Go.Lyc
end
