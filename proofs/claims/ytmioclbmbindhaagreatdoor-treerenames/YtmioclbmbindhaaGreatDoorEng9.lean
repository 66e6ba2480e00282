/-
  An abstract executor of the program's code, and that it is sound, part 3. No conditions: definitions and laws.
-/
import Derived.Test.YtmioclbmbindhaaGreatDoorEng2
import Derived.Lib.Bytealg
import Derived.OpenShut
import Derived.ProofKit
import Derived.LaidMore
import Derived.Lay
import Derived.SevenTiedAt
import Derived.Carry
import Derived.ChangeSlices
import Derived.MapKept
set_option linter.all false
noncomputable section
namespace Go.Lyc
def R0:=@Classical.byContradiction
def R1:=@List.eq_nil_iff_forall_not_mem
def R2:=@List.getElem?_reverse
def hO:=@Nat.zero_add
def nf:=@List.take_append_drop
def Ff:=@Go.DataW.trod_int
def Fg:=@Go.DataW.trod_string
def Fh:=@Go.DataW.trod_slice
def w1:=@Nat.zero_mul
def Fi:=@Go.DataW.trod_struct
def F1:=@Nat.sub_zero
def R3:=@Classical.choose_spec
def jU:=@Bool.true_and
def Bw:=@List.drop_length
def fV:=@List.append_nil
def J3:=@Bool.and_true
def J4:=@Bool.eq_false_iff
def R4:=@List.pairwise_cons
def yj:=@List.pairwise_iff_getElem
set_option maxHeartbeats 0
set_option maxRecDepth 100000
section
variable [Tok][TokOk]
open Go.RowKit
section
variable {P:Program}{env:Env}{B f:Nat}{r:Option Nat}{ops:Array Oper}{pl:List a1}{a8 c1:Nat→Nat}{cX:Nat→Nat→Bool}{call:nk}{s:Nat→aT AV}{S:Nat→af}{v:Nat→AV}
variable {ds:List (Nat ⊕ (AV×List AV))}{rc:Bool}{df:af}{e4:World}{ed:Nat→Option Nat}{listed:Array Bool}{a:Act}{w:World}{ck:Nat}{m:Nat→Option Nat}{dg:aT AV}
theorem Tx(c:hI P env B f r ops pl a8 c1 cX call s S v):∀(d k:Nat),k+d≤ops.size→(∀(e:Nat) (ei:a1),pl[e]? =some ei→k≤e→e<k+d→ei.op.fW=false∧ei.op.lh=false)→S (k+d)=S k
 |0,_,_,_=>rfl
 |d+1,k,aD,h=>by
  obtain⟨aN,mo⟩:=c.get (p:=k+d) (by omega);obtain⟨h1,h2⟩:=h (k+d) aN mo (by omega) (by omega);rcases c.calm mo h1 with⟨h3,_⟩|⟨c5,h3,_⟩
  ·show S (k+d+1)=_;rw[h3];exact Tx c d k (by omega) (fun e ei aE ba cr=>h e ei aE ba (by omega))
  ·rw[h2] at h3;cases h3
theorem pG.mono{D gN:Nat→Prop}{k:Nat}(h:pG pl s S df D m k)(gf:∀(p:Nat) (aN:a1),pl[p]? =some aN→¬gN p→¬D p):pG pl s S df gN m k:=
 ⟨fun p aN h1 h2 h3 aE ba=>h.one p aN h1 h2 h3 aE (gf p aN h2 ba),fun p p' aN hJ h1 h2 h3 aE ba cr de fi hD ij=>h.lt p p' aN hJ h1 h2 h3 aE ba cr de fi (gf p aN h3 hD) (gf p' hJ aE ij)⟩
def GQ(I aq:af):Prop:=(∀id,I.get id=aq.get id)∧I.next=aq.next
structure Inv2(P:Program)(env:Env)(B f:Nat)(ops:Array Oper)(pl:List a1)(a8:Nat→Nat)(cX:Nat→Nat→Bool)(s:Nat→aT AV)(S:Nat→af)(v:Nat→AV)(ds:List (Nat ⊕ (AV×List AV)))(rc:Bool)(df:af)(e4:World)(ed:Nat→Option Nat)
  (listed:Array Bool) (a:Act) (w:World) (x:Nat) (T:af) (m:Nat→Option Nat) (dg:aT AV):Prop where
 sV:Rel P df e4 ed B
 size:listed.size=ops.size
 closed:∀p,p<ops.size→dF a8 listed p→∀q,cX q p=true→dF a8 listed q
 pure:∀(p:Nat) (aN:a1),pl[p]? =some aN→¬dF a8 listed p→p=x∨(aN.op.fW=false∧aN.op.lh=false∧aN.op.looks=false)
 fin:dF a8 listed x→GQ T (S ops.size)
 rest:¬dF a8 listed x→∃bA nv,pl[x]? =some bA∧bA.op.fW=true∧(∀c as,bA.op≠ .call c as)∧wantedA bA.guard (s x)=true∧opx f (evalA env (s x)) T bA.op=some (.val (v x) nv)∧GQ nv (S ops.size)
 bk:vX pl v (s 0) (dF a8 listed) dg
 st:eW P env ⟨dg,ds,rc⟩ a T w m B
 ext:Ext f df e4 ed T w m
theorem a7h(c:hI P env B f r ops pl a8 c1 cX call s S v)(bV:listed.size=ops.size)(eZ:∀p,p<ops.size→dF a8 listed p→∀q,cX q p=true→dF a8 listed q){i:Nat}(hi:i∈Region.ready .any ops listed):
  ∃p aN J lq,p<ops.size∧i=a8 p∧pl[p]? =some aN∧ops[i]? =some J∧coper P ops J=some lq∧aN.op=lq.op∧aN.dst=lq.dst∧aN.guard=lq.guard∧¬dF a8 listed p∧(∀q,cX q p=true→dF a8 listed q):=by
 obtain⟨h1,J,ab,h2⟩:=mem_ready.1 hi;have iV:i<ops.size:=(xy.1 ab).1;obtain⟨h3,aE⟩:=c.spec.CL i iV;obtain⟨aN,mo⟩:=c.get h3;obtain⟨b7,lq,oV,ah,aM,e2,dn⟩:=c.spec.code _ aN mo;rw[aE,ab] at oV;cases oV;refine⟨c1 i,aN,J,lq,h3,aE.symm,mo,ab,ah,aM,e2,dn,Tj c bV h3 (by rw[aE];exact h1),fun q hq=>?_⟩;obtain⟨b7,oV,e,he,hb,lS⟩:=c.spec.SW (c1 i) h3 q hq;rw[aE,ab] at oV;cases oV;have L3:=h2 e he hb;have vA:=c.spec.back (c1 i) h3 J (by rw[aE];exact ab) e he hb;have v3:=c.spec.CL e.on vA.1;have CV:dF a8 listed (c1 e.on):=by unfold dF;rw[v3.2];exact L3
 rcases lS with rfl|lS
 ·exact CV
 ·exact eZ _ v3.1 CV q lS
theorem Ty(c:hI P env B f r ops pl a8 c1 cX call s S v)(bV:listed.size=ops.size){p:Nat}(ih:p<ops.size):∀q,dF a8 listed q→dF a8 (listed.setIfInBounds (a8 p) true) q:=fun q hq=>by
 unfold dF at hq ⊢;by_cases h:a8 p=a8 q
 ·rw[←h];simp[pa,bV,(c.spec.pi p ih).1]
 ·rw[getD_set_ne false h];exact hq
theorem Inv2.next(c:hI P env B f r ops pl a8 c1 cX call s S v){x:Nat}{T sX:af}(inv:Inv2 P env B f ops pl a8 cX s S v ds rc df e4 ed listed a w x T m dg){p:Nat}{aN:a1}(hp:pl[p]? =some aN)(gf:¬dF a8 listed p)(jA:∀q,cX q p=true→dF a8 listed q)
  (qI:p=x∧GQ sX (S ops.size)∨p≠x∧sX=T) {cd:Act} {an:World} {aH:Nat→Option Nat} (hx:x<ops.size) (st:eW P env ⟨n9 dg aN.dst (v p),ds,rc⟩ cd sX an aH B) (ext:Ext f df e4 ed sX an aH):
  Inv2 P env B f ops pl a8 cX s S v ds rc df e4 ed (listed.setIfInBounds (a8 p) true) cd an x sX aH (n9 dg aN.dst (v p)):=by
 have ih:=c.lt hp;have aj:∀q,q<ops.size→(dF a8 (listed.setIfInBounds (a8 p) true) q↔dF a8 listed q∨q=p):=fun q hq=>z0 c inv.size ih hq;have jN:=Ty c inv.size ih;refine⟨inv.sV,by simpa using inv.size,fun q hq au y aw=>?_,fun q dP hq au=>inv.pure q dP hq (fun h=>au (jN q h)),fun au=>?_,fun au=>?_,inv.bk.put c hp gf (fun q dP hq=>aj q (c.lt hq)),st,ext⟩
 ·rcases(aj q hq).1 au with h|rfl
  ·exact jN y (inv.closed q hq h y aw)
  ·exact jN y (jA y aw)
 ·rcases qI with⟨_,h⟩|⟨bx,rfl⟩
  ·exact h
  ·exact inv.fin (((aj x hx).1 au).resolve_right (oa bx))
 ·rcases qI with⟨rfl,_⟩|⟨bx,rfl⟩
  ·exact absurd ((aj p ih).2 (.inr rfl)) au
  ·exact inv.rest (fun h=>au (jN x h))
theorem a7i(c:hI P env B f r ops pl a8 c1 cX call s S v){k:Nat}{Q:Exit→Act→World→Prop}{x:Nat}{T:af}(Tz:x<ops.size)(inv:Inv2 P env B f ops pl a8 cX s S v ds rc df e4 ed listed a w x T m dg){i:Nat}(hi:i∈Region.ready .any ops listed)
  {K:Act→World→Prop} (cl:∀cd an nv aH rG,Inv2 P env B f ops pl a8 cX s S v ds rc df e4 ed (listed.setIfInBounds i true) cd an x nv aH rG→K cd an):wpOpIn (fh r) k P ops Q i K a w:=by
 obtain⟨p,aN,J,lq,ih,rfl,hp,ab,ah,aM,e2,dn,gf,jA⟩:=a7h c inv.size inv.closed hi;have C1:=Tc c inv.bk hp gf jA inv.closed;have qA:∀I,opx f (evalA env dg) I aN.op=opx f (evalA env (s p)) I aN.op:=fun I=>S8 (Tg C1);have hw:=Th C1;obtain⟨gH,jz⟩:=Gb ah;rw[←aM] at gH;rw[←e2] at jz;unfold wpOpIn;simp only[ab];rw[F_ ah inv.st.ctx.bk,← dn];show if wantedA aN.guard dg=true then _ else _
 rw[hw];have rH:∀res,opx f (evalA env dg) T aN.op=some res→cop P J=some aN.op:=fun res eM=>Ch gH.symm (fun hb=>by rw[hb] at eM;simp[opx] at eM);have xF:∀v b3,opx f (evalA env dg) T aN.op=some (.val v b3)→cop P J=some aN.op→∀c,J.op≠ .defer c:=fun v b3 hx oW c au=>by
  obtain⟨ac,as,h⟩:=Ga au oW;rw[h] at hx;simp only[opx] at hx;split at hx<;>cases hx
 have val:∀sX,wantedA aN.guard (s p)=true→opx f (evalA env dg) T aN.op=some (.val (v p) sX)→(p=x∧GQ sX (S ops.size)∨p≠x∧sX=T)→
   if wantedA aN.guard (s p)=true then J.wpIn (fh r) k P a w K Q else(∀f,J.about P w a.eval=some f→(fh r).fn f)∧K (a.put J.dst undef) w:=fun sX hwt gp qI=>by
  rw[hwt];simp only[if_true];obtain⟨u,aW,cc,b8,bD,n4,dx⟩:=zF inv.st.ctx (rH _ gp) gp;have aj:(J.semAt (fh r).round a.eval)=execOp a.eval J:=sJ _ _ _ (xF _ _ gp (rH _ gp));have hE:=(inv.st.ext dx n4).put aN.dst bD;rw[put_eq] at hE;have hS:=inv.next c hp gf jA qI Tz hE (inv.ext.trans inv.sV dx);rw[jz] at hS;refine⟨fun f _=>trivial,?_⟩;rw[aj];rcases b8 with b8|⟨b8,rfl⟩
  ·rw[b8];exact cl _ _ _ _ _ hS
  ·rw[b8];exact cl _ _ _ _ _ hS
 rcases c.iF.step p aN hp with⟨z2,av,c2⟩|⟨hwt,hx⟩|⟨hwt,b_,args,hx,eZ⟩
 ·-- not wanted
  have C2:p≠x:=fun he=>by
   subst he;obtain⟨bA,nv,h1,_,_,h2,_⟩:=inv.rest gf;rw[hp] at h1;cases h1;rw[z2] at h2;cases h2
  rw[z2];simp only[nO,if_false];refine⟨fun _ _=>trivial,?_⟩;have hE:=inv.st.put aN.dst (v:=dR) (u:=undef) R.undef;rw[put_eq,← av] at hE;have hS:=inv.next c hp gf jA (.inr ⟨C2,rfl⟩) Tz hE inv.ext;rw[jz] at hS;exact cl _ _ _ _ _ hS
 ·by_cases C2:p=x
  ·subst C2;obtain⟨bA,nv,h1,_,_,h2,h3,aE⟩:=inv.rest gf;rw[hp] at h1;cases h1;exact val nv hwt (by rw[qA];exact h3) (.inl ⟨rfl,aE⟩)
  ·obtain⟨bM,b4,dy⟩:=(inv.pure p aN hp gf).resolve_left C2;obtain⟨a2,h1,h2⟩:=GA bM b4 hx;simp only[bq.val.injEq] at h1;obtain⟨rfl,_⟩:=h1;exact val T hwt (by rw[qA];exact h2 dy T) (.inr ⟨C2,rfl⟩)
 ·obtain⟨k1,as,C3,_,_⟩:=vJ hx;exfalso;rcases inv.pure p aN hp gf with rfl|⟨bM,_,_⟩
  ·obtain⟨bA,nv,h1,_,h2,_⟩:=inv.rest gf;rw[hp] at h1;cases h1;exact h2 _ _ C3
  ·rw[C3] at bM;cases bM
theorem a7j{kL:aT AV}{xT:af}(pF:LZ P env B f r ops pl a8 c1 cX call kL xT)(c:hI P env B f r ops pl a8 c1 cX call s S v)(hl:s 0=kL)(rI:S 0=xT){k:Nat}{Q:Exit→Act→World→Prop}(inv:Inv P env B f ops pl a8 cX s S v ds rc df e4 ed listed a w ck m dg){i:Nat}(hi:i∈Region.ready .any ops listed)
  {K:Act→World→Prop} (TA:∀s S v,Trace env f call pl s S v→s 0=kL→S 0=xT→∀cd an CW aH rG,Inv P env B f ops pl a8 cX s S v ds rc df e4 ed (listed.setIfInBounds i true) cd an CW aH rG→K cd an)
  (jo:∀cd an x T aH rG,x<ops.size→Inv2 P env B f ops pl a8 cX s S v ds rc df e4 ed (listed.setIfInBounds i true) cd an x T aH rG→K cd an):wpOpIn (fh r) k P ops Q i K a w:=by
 have cl:=TA s S v c.iF hl rI;obtain⟨p,aN,J,lq,ih,rfl,hp,ab,ah,aM,e2,dn,gf,jA⟩:=a6W c inv hi;have C1:=Tc c inv.bk hp gf jA inv.closed;have qA:∀I,opx f (evalA env dg) I aN.op=opx f (evalA env (s p)) I aN.op:=fun I=>S8 (Tg C1);have hw:=Th C1;obtain⟨gH,jz⟩:=Gb ah;rw[←aM] at gH;rw[←e2] at jz;have iW:aN.op.fW=false→p<ck:=fun he=>by
  rcases inv.vZ with h|⟨ei,h1,h2,h3⟩
  ·omega
  ·rcases vh p ck with h|h|h
   ·exact h
   ·subst h;rw[hp] at h1;cases h1;rw[he] at h2;cases h2
   ·rcases c.spec.uw ck p ei h ih h1 h2 with aE|aE
    ·exact absurd (jA ck aE) h3
    ·obtain⟨_,eI,_,_,_,_,_,_,_,b4,_,e0,_⟩:=aE.ops;rw[hp] at b4;cases b4;rw[e0] at he;cases he
 have lR:aN.op.fW=true→p=ck∨CJ pl cX ck p:=fun he=>by
  rcases vh p ck with h|h|h
  ·exact absurd (inv.before p aN h hp he) gf
  ·exact .inl h
  ·rcases inv.vZ with h1|⟨ei,h1,h2,h3⟩
   ·omega
   ·rcases c.spec.uw ck p ei h ih h1 h2 with aE|aE
    ·exact absurd (jA ck aE) h3
    ·exact .inr aE
 have TB:∀q dP,pl[q]? =some dP→¬dF a8 (listed.setIfInBounds (a8 p) true) q→¬dF a8 listed q:=fun q dP hq h h2=>h ((z0 c inv.size ih (c.lt hq)).2 (.inl h2));have C4:pG pl s S df (dF a8 (listed.setIfInBounds (a8 p) true)) m ck:=inv.sW.mono TB;unfold wpOpIn;simp only[ab];rw[F_ ah inv.st.ctx.bk,← dn];show if wantedA aN.guard dg=true then _ else _
 rw[hw];have rH:∀res,opx f (evalA env dg) (S ck) aN.op=some res→cop P J=some aN.op:=fun res eM=>Ch gH.symm (fun hb=>by rw[hb] at eM;simp[opx] at eM);by_cases GS:aN.op.fW=true∧p≠ck
 ·-- qg second of two b8Z,first
  have k5:=(lR GS.1).resolve_left GS.2;rcases inv.vZ with h0|⟨bA,sY,a7k,a7l⟩
  ·have:=k5.CK;omega
  have L8:=c.lt sY;obtain⟨bM,b4,T,nv,dy,e0,ft,n_,GV,a7m⟩:=a7a c k5 sY hp;have gp:opx f (evalA env dg) (S ck) aN.op=some (.val (v p) T):=by rw[qA];exact dy
  rw[n_];simp only[if_true];obtain⟨u,aW,cc,b8,bD,n4,dx⟩:=zF inv.st.ctx (rH _ gp) gp;have hnd:∀c,J.op≠ .defer c:=fun c au=>by
   obtain⟨ac,as,h⟩:=Ga au (rH _ gp);rw[h] at gp;simp only[opx] at gp;split at gp<;>cases gp
  have aj:(J.semAt (fh r).round a.eval)=execOp a.eval J:=sJ _ _ _ hnd;have hE:=(inv.st.ext dx n4).put aN.dst bD;rw[put_eq] at hE;have GW:∀q,q<ops.size→(dF a8 (listed.setIfInBounds (a8 p) true) q↔dF a8 listed q∨q=p):=fun q hq=>z0 c inv.size ih hq;have jN:=Ty c inv.size ih;have a7n:∀k1 as,bA.op≠ .call k1 as:=fun k1 as hh=>by
   obtain⟨To,_,_,_,_,_,_,_,bE,_,bb,_⟩:=k5.ops;rw[sY] at bE;cases bE;rw[bb] at hh;cases hh
  have mm:¬dF a8 (listed.setIfInBounds (a8 p) true) ck:=fun h=>by
   rcases(GW ck L8).1 h with h|h
   ·exact a7l h
   ·exact GS.2 h.symm
  have hS:Inv2 P env B f ops pl a8 cX s S v ds rc df e4 ed (listed.setIfInBounds (a8 p) true) (a.put aN.dst u) aW ck T cc (n9 dg aN.dst (v p)):=by
   refine⟨inv.sV,by simpa using inv.size,fun q hq au y aw=>?_,fun q dP hq au=>?_,fun au=>absurd au mm,fun _=>⟨bA,nv,sY,a7k,a7n,ft,e0,GV,a7m⟩,inv.bk.put c hp gf (fun q dP hq=>GW q (c.lt hq)),hE,inv.ext.trans inv.sV dx⟩
   ·rcases(GW q hq).1 au with h|rfl
    ·exact jN y (inv.closed q hq h y aw)
    ·exact jN y (jA y aw)
   ·have a7o:=c.lt hq;have ar:=k5.last;have hl2:=c.spec.len;have b9a:=k5.CK;rcases vh q ck with h|h|h
    ·rcases k5.rest q dP h hq with ba|ba
     ·exact absurd (jN q (jA q ba)) au
     ·exact .inr ba
    ·exact .inl h
    ·have:q=p:=by omega
     exact absurd ((GW q a7o).2 (.inr this)) au
  rw[jz] at hS;refine⟨fun f _=>trivial,?_⟩;rw[aj];rcases b8 with b8|⟨b8,rfl⟩
  ·rw[b8];exact jo _ _ _ _ _ _ L8 hS
  ·rw[b8];exact jo _ _ _ _ _ _ L8 hS
 replace lR:aN.op.fW=true→p=ck:=fun he=>R0 fun h=>GS ⟨he,h⟩;rcases c.iF.step p aN hp with⟨z2,av,c2⟩|⟨hwt,hx⟩|⟨hwt,b_,args,hx,l,eZ,b9b,hall⟩
 ·-- not wanted
  rw[z2];simp only[nO,if_false];refine⟨fun _ _=>trivial,?_⟩;have hE:=inv.st.put aN.dst (v:=dR) (u:=undef) R.undef;rw[put_eq,← av,jz] at hE;rw[←jz] at hE;have hE:eW P env ⟨n9 dg aN.dst (v p),ds,rc⟩ (a.put J.dst undef) (S ck) w m B:=by rw[←jz];exact hE
  by_cases L9:p=ck
  ·subst L9;cases he:aN.op.fW with
   |true=>
    obtain⟨q',hS⟩:=inv.effect c hp gf jA he rfl (cd:=a.put J.dst undef) (an:=w) (aH:=m) (by rw[c2];exact hE) (by rw[c2];exact Ext.refl _ _ _ _);exact cl _ _ _ _ _ hS
   |false=>have:=iW he;omega
  ·exact cl _ _ _ _ _ (inv.calm c hp gf jA L9 (by cases he:aN.op.fW with|false=>exact .inl rfl|true=>exact absurd (lR he) L9) hE inv.ext C4)
 ·-- a value
  rw[hwt];simp only[if_true];have xF:∀v I b3,opx f (evalA env dg) I aN.op=some (.val v b3)→cop P J=some aN.op→∀c,J.op≠ .defer c:=fun v I b3 hx oW c au=>by
   obtain⟨ac,as,h⟩:=Ga au oW;rw[h] at hx;simp only[opx] at hx;split at hx<;>cases hx
  cases he:aN.op.fW with
  |true=>
   obtain rfl:=lR he;have gp:opx f (evalA env dg) (S p) aN.op=some (.val (v p) (S (p+1))):=by rw[qA];exact hx
   obtain⟨u,aW,cc,b8,bD,n4,dx⟩:=zF inv.st.ctx (rH _ gp) gp;have aj:(J.semAt (fh r).round a.eval)=execOp a.eval J:=sJ _ _ _ (xF _ _ _ gp (rH _ gp));have hE:=(inv.st.ext dx n4).put aN.dst bD;rw[put_eq] at hE;obtain⟨q',hS⟩:=inv.effect c hp gf jA he rfl hE dx;rw[jz] at hS;refine⟨fun f _=>trivial,?_⟩;rw[aj];rcases b8 with b8|⟨b8,rfl⟩
   ·rw[b8];exact cl _ _ _ _ _ hS
   ·rw[b8];exact cl _ _ _ _ _ hS
  |false=>
   have bZ:=iW he;cases ha:aN.op.lh with
   |false=>
    have gp:opx f (evalA env dg) (S ck) aN.op=some (.val (v p) (S ck)):=by
     rw[qA];obtain⟨a2,h1,h2⟩:=GA he ha hx;simp only[bq.val.injEq] at h1;obtain⟨jy,nw⟩:=h1;subst jy;cases ar:aN.op.looks with
     |false=>exact h2 ar _
     |true=>
      have z3:ck=ops.size∨∃(dP:a1),pl[ck]? =some dP∧dP.op.fW=true:=by
       rcases inv.vZ with h|⟨ei,h1,h2,_⟩
       ·exact .inl h
       ·exact .inr ⟨ei,h1,h2⟩
      rcases c.spec.lg p aN hp ar ck bZ z3 with h|⟨e,ei,bM,b4,dy,e0,ft⟩|h
      ·obtain⟨dD,h3⟩:=c.steady p aN hp hwt he ck h;obtain⟨v2,aE,_⟩:=GA he ha h3;cases aE;exact h3
      ·exact absurd (inv.closed e (c.lt bM) (inv.before e ei e0 bM b4) p ft) gf
      ·have hc1:=Tx c (ck-(p+1)) (p+1) (by have:=inv.L1;omega) (fun e ei bM b4 dy=>h e ei bM (by omega) (by omega));have fe:p+1+(ck-(p+1))=ck:=by omega
       rw[fe] at hc1;rw[hc1,nw];rw[nw] at hx;exact hx
    obtain⟨u,aW,cc,b8,bD,n4,dx⟩:=zF inv.st.ctx (rH _ gp) gp;have aj:(J.semAt (fh r).round a.eval)=execOp a.eval J:=sJ _ _ _ (xF _ _ _ gp (rH _ gp));have hE:=(inv.st.ext dx n4).put aN.dst bD;rw[put_eq] at hE;have L_:pG pl s S df (dF a8 (listed.setIfInBounds (a8 p) true)) cc ck:=by
     refine⟨fun p' hJ h1 h2 h3 aE ba=>?_,C4.lt⟩;obtain⟨mV,mW,mX,uz⟩:=C4.one p' hJ h1 h2 h3 aE ba;refine⟨?_,mW,mX,uz⟩;cases hm:cc (S p').next with
     |none=>rfl
     |some b=>
      rcases dx.new _ _ hm with h|⟨h,_⟩
      ·rw[mV] at h;cases h
      ·omega
    have hS:=inv.calm c hp gf jA (by omega) (.inl he) hE (inv.ext.trans inv.sV dx) L_;rw[jz] at hS;refine⟨fun f _=>trivial,?_⟩;rw[aj];rcases b8 with b8|⟨b8,rfl⟩
    ·rw[b8];exact cl _ _ _ _ _ hS
    ·rw[b8];exact cl _ _ _ _ _ hS
   |true=>
    obtain⟨c5,qG,h1,b9c,h2⟩:=S9 ha hx;simp only[bq.val.injEq] at h1;obtain⟨jy,nw⟩:=h1;have Cq:∀dD,opx f (evalA env dg) dD aN.op=some (.val (qG dD.next) (dD.push c5)):=fun dD=>by rw[qA];exact h2 dD
    have oW:=rH _ (Cq (S ck));obtain⟨u,an,b7,b8,hh,ib,mN,jw,lS,hval⟩:=a6R inv.st.ctx oW ha Cq;obtain⟨mV,mW,mX,uz⟩:=inv.sW.one p aN bZ hp ha hwt gf;have hg:(S ck).get (S p).next=some c5:=by rw[uz,nw];exact af.md c5
    obtain⟨n4,n8,bV,gT,hold,CR,pj⟩:=inv.st.ctx.rel.LV mX mV hg hh lS;have aj:(J.semAt (fh r).round a.eval)=execOp a.eval J:=sJ _ _ _ (xF _ _ _ (Cq (S ck)) oW);have bD:R an (bindM m (S p).next w.heap.size) (a_ (S ck) (bindM m (S p).next w.heap.size)) B (v p) u:=by
     rw[jy];exact hval _ _ _ _ _ (hB _ _ _) pj
    have hE:=(inv.st.mono n4 n8 bV gT CR).put aN.dst bD;rw[put_eq] at hE;have L_:pG pl s S df (dF a8 (listed.setIfInBounds (a8 p) true)) (bindM m (S p).next w.heap.size) ck:=by
     refine⟨fun p' hJ bM b4 dy e0 ft=>?_,C4.lt⟩;obtain⟨i1,i2,i3,i4⟩:=C4.one p' hJ bM b4 dy e0 ft;refine⟨?_,i2,i3,i4⟩;have zY:=TB p' hJ b4 ft;have bx:p'≠p:=fun e=>ft ((z0 c inv.size ih (c.lt b4)).2 (.inr e));rw[jh m _ _ (fun e=>?_)]
     ·exact i1
     ·rcases mK p' p with h|h
      ·have:=inv.sW.lt p' p hJ aN h bZ b4 hp dy ha e0 hwt zY gf;omega
      ·have:=inv.sW.lt p p' aN hJ (by omega) bM hp b4 ha dy hwt e0 gf zY;omega
    have hS:=inv.calm c hp gf jA (by omega) (.inl he) hE (inv.ext.LV mW mV hh ib mN jw) L_;rw[jz] at hS;refine⟨fun f _=>trivial,?_⟩;rw[aj,b8];exact cl _ _ _ _ _ hS
 ·-- a call
  rw[hwt];simp only[if_true];obtain⟨k1,as,C3,_,_⟩:=vJ hx;have he:aN.op.fW=true:=by rw[C3];rfl
  obtain rfl:=lR he;have gp:opx f (evalA env dg) (S p) aN.op=some (.call b_ args):=by rw[qA];exact hx
  have oW:=rH _ gp;rw[C3] at oW gp;obtain⟨aQ,hz,h1,ri,has⟩:=vJ gp;cases h1;obtain⟨aL,Cl,Cm,pA⟩:=Si oW;obtain⟨x,g7,xG⟩:=Lj Cm inv.st.ctx ri;have Cn:=BV inv.st.ctx.rel.xB inv.st.ctx.globs inv.st.ctx.bk pA has;have eM:=c.a6U _ _ _ _ eZ (k-1) w m _ _ inv.st.ctx.rel inv.st.ctx.globs xG Cn;refine Sg Cl g7 (us:=aL.args.map a.eval) rfl (fun _=>trivial) rfl (by
   have aM:(aL.args.toList.map a.eval).toArray=aL.args.map a.eval:=by apply lV;simp
   rw[aM] at eM;exact eM) (fun aM aW al=>?_)
  obtain⟨ret,b3,cP,cc,h1,h2,h3⟩:=al;obtain⟨kJ,hu⟩:=hall _ cP;have hu:ret= .ok kJ:=hu;subst hu;obtain⟨jB,mU,a2,GX,ag,a7p,iE,z4⟩:=pF.k5 s S v c.iF hl rI p aN b_ args l kJ b3 hp hwt hx eZ cP hall;have es:=(ag 0 (hv _)).1.trans hl;have TC:=(ag 0 (hv _)).2.trans rI;have aQ:=pF.GF jB mU a2 GX es TC;have a7q:=inv.switch c ag a7p;subst iE z4;cases aM with
  |returned u=>
   have hE:=(inv.st.ext h3 h2).put aN.dst h1;rw[put_eq] at hE;obtain⟨q',hS⟩:=a7q.effect aQ hp gf jA he rfl hE (by rw[(ag p (o _)).2];exact h3);rw[jz] at hS;exact TA jB mU a2 GX es TC _ _ _ _ _ hS
  |panicked n3=>exact h1.elim
  |outgrown=>exact h1.elim
theorem TD(c:hI P env B f r ops pl a8 c1 cX call s S v)(bV:listed.size=ops.size)(al:Region.ready .any ops listed=[]):∀p,p<ops.size→dF a8 listed p:=by
 intro p
 induction p using Nat.strongRecOn with
 |_ p aA=>
  intro hp;refine R0 fun gf=>?_;have CP:=c.spec.pi p hp;have:a8 p∈Region.ready .any ops listed:=by
   refine mem_ready.2 ⟨?_,ops[a8 p],nN CP.1,fun e he hb=>?_⟩
   ·unfold dF at gf;have bZ:a8 p<listed.size:=by rw[bV];exact CP.1
    simp[pa,bZ] at gf ⊢;exact gf
   ·have vA:=c.spec.back p hp _ (nN CP.1) e he hb;have v3:=c.spec.CL e.on vA.1;have:=aA (c1 e.on) vA.2 v3.1;unfold dF at this;rw[v3.2] at this;exact this
  rw[al] at this;cases this
theorem TE(c:hI P env B f r ops pl a8 c1 cX call s S v)(hall:∀p,p<ops.size→dF a8 listed p)(ko:vX pl v (s 0) (dF a8 listed) dg):∀t,dg.get t=(s ops.size).get t:=by
 have ah:=L0 c ops.size (o _);intro t;by_cases hex:∃(q:Nat) (dP:a1),pl[q]? =some dP∧dP.dst=some t
 ·obtain⟨q,dP,h1,h2⟩:=hex;by_cases bZ:((s 0).get t).isSome=true
  ·rw[ko.kr q dP t h1 (hall q (c.lt h1)) h2 bZ,ah.kr q dP t h1 (c.lt h1) h2 bZ]
  ·have aM:=ko.fa t;have e2:=ah.fa t;cases hg:(s 0).get t with
   |some y=>rw[hg] at bZ;exact absurd rfl bZ
   |none=>
    rw[hg] at aM e2;cases mn:dg.get t with
    |some y=>rw[mn] at aM;cases aM
    |none=>
     cases xo:(s ops.size).get t with
     |some y=>rw[xo] at e2;cases e2
     |none=>rfl
 ·rw[ko.vY t (fun q dP h1 _ h2=>hex ⟨q,dP,h1,h2⟩),ah.vY t (fun q dP h1 _ h2=>hex ⟨q,dP,h1,h2⟩)]
theorem TF(c:hI P env B f r ops pl a8 c1 cX call s S v)(inv:Inv P env B f ops pl a8 cX s S v ds rc df e4 ed listed a w ck m dg)(al:Region.ready .any ops listed=[]):
  eW P env ⟨s ops.size,ds,rc⟩ a (S ops.size) w m B∧Ext f df e4 ed (S ops.size) w m:=by
 have hall:=TD c inv.size al;have hq:ck=ops.size:=by
  rcases inv.vZ with h|⟨ei,h1,_,h3⟩
  ·exact h
  ·exact absurd (hall ck (c.lt h1)) h3
 subst hq;have ru:=TE c hall inv.bk;have ko:=inv.st.ctx.bk;refine⟨⟨⟨inv.st.ctx.rel,⟨fun i x hi=>ko.1 i x (by rw[ru i];exact hi),fun i hi=>ko.2 i (by rw[ru i];exact hi)⟩,inv.st.ctx.globs⟩,inv.st.defs⟩,inv.ext⟩
theorem TG(c:hI P env B f r ops pl a8 c1 cX call s S v){x:Nat}{T:af}(hx:x<ops.size)(inv:Inv2 P env B f ops pl a8 cX s S v ds rc df e4 ed listed a w x T m dg)(al:Region.ready .any ops listed=[]):
  eW P env ⟨s ops.size,ds,rc⟩ a (S ops.size) w m B∧Ext f df e4 ed (S ops.size) w m:=by
 have hall:=TD c inv.size al;obtain⟨aM,e2⟩:=inv.fin (hall x hx);have ru:=TE c hall inv.bk;have ko:=inv.st.ctx.bk;have st:eW P env ⟨s ops.size,ds,rc⟩ a T w m B:=⟨⟨inv.st.ctx.rel,⟨fun i x hi=>ko.1 i x (by rw[ru i];exact hi),fun i hi=>ko.2 i (by rw[ru i];exact hi)⟩,inv.st.ctx.globs⟩,inv.st.defs⟩
 exact⟨st.congr aM e2,inv.ext.congr aM e2⟩
theorem count_set{l:Array Bool}{i:Nat}(h:l.getD i true=false):(l.setIfInBounds i true).toList.count false+1=l.toList.count false:=by
 have bZ:i<l.size:=by
  rcases mK i l.size with h1|h1
  ·exact h1
  ·simp[pa,xz h1] at h
 have av:l[i]=false:=by simpa [pa,bZ] using h
 rw[Qo,List.count_set (by simpa using bZ)];have B6:0<l.toList.count false:=List.count_pos_iff.2 (by rw[←av];simp);have ub:(l.toList[i]'(by simpa using bZ))=false:=by simpa using av
 rw[ub];have aM:(if(false==false)=true then 1 else 0)=1:=rfl;have e2:(if(true==false)=true then 1 else 0)=0:=rfl;rw[aM,e2];omega
theorem TH(c:hI P env B f r ops pl a8 c1 cX call s S v){k:Nat}{Q:Exit→Act→World→Prop}(dc:∀cd an aH,eW P env ⟨s ops.size,ds,rc⟩ cd (S ops.size) an aH B→Ext f df e4 ed (S ops.size) an aH→Q .normal cd an){x:Nat}(hx:x<ops.size):
  ∀(fuel:Nat) (listed:Array Bool) (a:Act) (w:World) (T:af) (m:Nat→Option Nat) (dg:aT AV),Inv2 P env B f ops pl a8 cX s S v ds rc df e4 ed listed a w x T m dg→listed.toList.count false≤fuel→wpAnyIn (fh r) k P .any ops Q fuel listed a w
 |0,listed,a,w,T,m,dg,inv,hf=>by
  have al:Region.ready .any ops listed=[]:=by
   refine R1.2 fun i hi=>?_;have:=count_set (mem_ready.1 hi).1;omega
  obtain⟨h1,h2⟩:=TG c hx inv al;exact⟨al,dc _ _ _ h1 h2⟩
 |fuel+1,listed,a,w,T,m,dg,inv,hf=>by
  refine⟨fun al=>?_,fun i hi=>?_⟩
  ·obtain⟨h1,h2⟩:=TG c hx inv al;exact dc _ _ _ h1 h2
  ·have a7r:=count_set (mem_ready.1 hi).1;exact a7i c hx inv hi (fun cd an nv aH rG hS=>TH c dc hx fuel _ cd an nv aH rG hS (by omega))
theorem TI{kL:aT AV}{xT:af}(pF:LZ P env B f r ops pl a8 c1 cX call kL xT){k:Nat}{Q:Exit→Act→World→Prop}(dc:∀s S v,Trace env f call pl s S v→s 0=kL→S 0=xT→∀cd an aH,eW P env ⟨s ops.size,ds,rc⟩ cd (S ops.size) an aH B→Ext f df e4 ed (S ops.size) an aH→Q .normal cd an):
  ∀(fuel:Nat) (s:Nat→aT AV) (S:Nat→af) (v:Nat→AV),Trace env f call pl s S v→s 0=kL→S 0=xT→∀(listed:Array Bool) (a:Act) (w:World) (ck:Nat) (m:Nat→Option Nat) (dg:aT AV),Inv P env B f ops pl a8 cX s S v ds rc df e4 ed listed a w ck m dg→listed.toList.count false≤fuel→wpAnyIn (fh r) k P .any ops Q fuel listed a w
 |0,s,S,v,iF,hl,rI,listed,a,w,ck,m,dg,inv,hf=>by
  have al:Region.ready .any ops listed=[]:=by
   refine R1.2 fun i hi=>?_;have:=count_set (mem_ready.1 hi).1;omega
  obtain⟨h1,h2⟩:=TF (pF.GF s S v iF hl rI) inv al;exact⟨al,dc s S v iF hl rI _ _ _ h1 h2⟩
 |fuel+1,s,S,v,iF,hl,rI,listed,a,w,ck,m,dg,inv,hf=>by
  have c:=pF.GF s S v iF hl rI;refine⟨fun al=>?_,fun i hi=>?_⟩
  ·obtain⟨h1,h2⟩:=TF c inv al;exact dc s S v iF hl rI _ _ _ h1 h2
  ·have a7r:=count_set (mem_ready.1 hi).1;exact a7j pF c hl rI inv hi (fun jB mU a2 GX aX a7s cd an CW aH rG hS=>TI pF dc fuel jB mU a2 GX aX a7s _ cd an CW aH rG hS (by omega))
    (fun cd an x T aH rG hx hS=>TH c (dc s S v iF hl rI) hx fuel _ cd an T aH rG hS (by omega))
end
section
variable {P:Program}{env:Env}{B:Nat}
theorem a7t{ai:Fr}{a:Act}{I:af}{w:World}{m:Nat→Option Nat}(st:eW P env ai a I w m B)(f n:Nat):eW P env ai a I {w with drawn:=n} m B∧Ext f I w m I {w with drawn:=n} m:=by
 have al:=st.ctx.rel;have aD:∀ax,ax<w.heap.size→¬a_ I m ax→w.heap[ax]? =w.heap[ax]? ∧¬a_ I m ax:=fun _ _ h=>⟨rfl,h⟩
 refine⟨st.mono ⟨al.len,al.fa,fun id ax J h1 h2 h3=>?_,al.inj,al.base,al.cE⟩ (fun _ _ h=>h) (o _) (fun _ _ h=>h) aD,
  ⟨fun _ _ h=>h,fun _ _ h=>.inl h,o _,o _,fun _ _ h=>h,fun _ _ _=>rfl,fun _ _ _=>rfl,fun _ _ h=>h,rfl,rfl,rfl,fun _ _ _=>rfl⟩⟩
 obtain⟨b7,aE,ba⟩:=al.obj id ax J h1 h2 h3;exact⟨b7,aE,mb.mono (w:=w) (an:={w with drawn:=n}) (fun _ _ h=>h) (o _) (fun _ _ h=>h) aD ba⟩
theorem a7u{f:Nat}{call:nk}{pl:List a1}{s:Nat→aT AV}{S:Nat→af}{v:Nat→AV}{cX:Nat→Nat→Bool}{ak:aT AV}(iF:Trace env f call pl s S v)(he:s pl.length=ak)(h:swapOk env ak pl=true){p q:Nat}(k5:CJ pl cX p q)
  {bA eI:a1} {s1 s2:Option Nat} {aP ep a0 hH:aC} (sY:pl[p]? =some bA) (C5:pl[q]? =some eI) (hx:bA.op= .store s1 aP ep) (aw:eI.op= .store s2 a0 hH):∃i vW j zX,evalA env (s p) aP=some (.p (some (i,vW)))∧evalA env (s q) a0=some (.p (some (j,zX)))∧i≠j:=by
 have iW:=k5.CK;have ar:=k5.last;obtain⟨To,a7b,_,_,_,_,_,_,bE,br,_,_,dN,k7,_,_,gI⟩:=k5.ops;rw[sY] at bE;cases bE;rw[C5] at br;cases br;have aM:s q=s p:=by rw[←iW,iF.put p bA sY,dN];rfl
 have e2:s pl.length=s q:=by rw[←ar,iF.put q eI C5,k7];rfl
 have a7v:∃t,pl.reverse=eI::bA::t:=by
  have bM:pl.reverse[0]? =some eI:=by rw[R2 (by omega),← C5];congr 1;omega
  have b4:pl.reverse[1]? =some bA:=by rw[R2 (by omega),← sY];congr 1;omega
  match pl.reverse,bM,b4 with
  |a::b::t,bM,b4=>simp at bM b4;exact⟨t,by rw[bM,b4]⟩
 obtain⟨t,ht⟩:=a7v;unfold swapOk at h;rw[ht] at h;simp only at h;split at h
 ·rename_i hw;exact absurd hw gI
 ·rw[aw,hx] at h;simp only at h;rw[←he,e2,aM] at h;rw[aM];split at h
  ·rename_i i vW j zX bM b4;refine⟨i,vW,j,zX,bM,b4,fun fw=>?_⟩;subst fw;rw[fy] at h;cases h
  ·cases h
theorem a7w{run:jv}(sZ:P.follows .mixedOrders=true)(qy:∀f r,Cg P env B f r (callV env run f)):So P env B run:=by
 intro floor pl ai I L b8 Ma k r id ops a w m Ct st Q dc;obtain⟨a8,c1,cX,spec⟩:=a6E Ct;have pF:LZ P env B floor r ops pl a8 c1 cX (callV env run floor) ai.bk I:=by
  refine⟨fun s S v iF h1 h2=>?_,fun s S v iF h1 h2=>Ta _ _ _ _ _ b8 iF h1 h2⟩;obtain⟨x,Mb,to⟩:=LY _ _ _ _ _ b8 iF h1 h2;obtain⟨dp,a7x⟩:=Ma x Mb;refine⟨spec,qy floor r,iF,fun p aN hp hw he q hq=>?_,fun p q k5 bA eI s1 aP ep s2 a0 hH sY C5 hx aw=>a7u iF to.ak a7x k5 sY C5 hx aw⟩;have cP:=to.zW p aN hp hw he (fun h=>by rw[h] at hq;cases hq);rw[hP] at dp;have h1:=dp _ cP;unfold steady at h1;have h2:=mg h1 q hq;simp only[to.da,List.reverse_nil,yi,BO,Ci] at h2;split at h2
  ·rename_i b9d TJ;simp only[kV,et] at TJ;obtain⟨q',Mc,rfl⟩:=TJ;obtain rfl:q=q':=by
    have:=List.getElem?_range (i:=q) (n:=pl.length+1) (by have:=(ki.1 Mc).1;simpa using this);rw[this] at Mc;cases Mc;rfl
   split at h2
   ·rename_i v1 b3 hx;rw[AV.zQ _ _ _ h2] at hx;exact⟨b3,hx⟩
   ·cases h2
  ·cases h2
 obtain⟨s,S,v,iF,aM,e2⟩:=LX _ _ _ _ _ b8;have c:=pF.GF s S v iF aM e2;refine wpIn_region_any sZ ?_;obtain⟨hE,a7y⟩:=a7t st floor (w.drawn+1);have bY:ai=⟨s 0,ai.defers,ai.fA⟩:=by rw[aM]
 obtain⟨q,h1,h2,h3,aE⟩:=L2 c ops.size 0 (by omega);have ie:∀p,¬dF a8 (Array.replicate ops.size false) p:=fun p h=>by
  unfold dF at h;simp only[pa] at h;rw[Array.getElem?_replicate] at h;split at h<;>simp at h
 have a7z:pG pl s S I (dF a8 (Array.replicate ops.size false)) m 0:=⟨fun p aN h=>by omega,fun p p' aN hJ h h'=>by omega⟩
 obtain⟨CX,CY,CZ⟩:=advance c (D:=dF a8 (Array.replicate ops.size false)) q 0 (by omega) (fun p aN ba cr de=>aE p aN ba (by omega) de) (by rw[e2];exact hE) (by rw[e2];exact a7y) a7z;rw[hO] at CX CY CZ;refine TI (df:=I) (e4:=w) (ed:=m) (ds:=ai.defers) (rc:=ai.fA) pF (fun s S v iF aM e2 cd an aH bM b4=>?_) ops.size s S v iF aM e2 _ a _ q m (s 0) ⟨st.ctx.rel,by simp,fun p hp au=>absurd au (ie p),h2,?_,fun e ei ba cr de=>?_,fun e ei _ _ _ h=>ie e h,⟨fun _=>rfl,fun p aN t hp au=>absurd au (ie p),fun t _=>rfl⟩,by rw[←bY];exact CX,CY,CZ⟩ (by simp)
 ·obtain⟨x,Mb,to⟩:=LY _ _ _ _ _ b8 iF aM e2;rw[←spec.len,to.st] at bM b4;rw[to.ak] at bM;refine dc x Mb cd an aH ?_ b4;have:x.1=⟨x.1.bk,ai.defers,ai.fA⟩:=by rw[←to.pF,← to.rc]
  rw[this];exact bM
 ·rcases h3 with h|⟨ei,ba,cr⟩
  ·exact .inl h
  ·exact .inr ⟨ei,ba,cr,ie q⟩
 ·have:=aE e ei (by omega) ba cr;rw[this] at de;cases de
end
section
variable {P:Program}{env:Env}{B:Nat}
theorem TK(iX:ur P env)(eU:zO P env B)(hex:zP P env)(sZ:P.follows .mixedOrders=true):∀n,qB P env B (exec env n)
 |0=>qB.zero
 |n+1=>by
  have aA:=TK iX eU hex sZ n;rw[pC];exact a5r aA (fun f r=>SR iX eU hex aA f r) (a7w sZ (fun f r=>SR iX eU hex aA f r)) (a6x iX eU aA)
def ks(n:Nat):AV→Bool:=
 Nat.rec (motive:=fun _=>AV→Bool) (fun _=>false) (fun _ aA v=>
  match v with
  | .cZ J v=>!J&&dw aA v.cells
  | .a7 J _ xs=>(!J||xs.isEmpty)&&dw (fun x=>dw aA x.cells) xs
  | .it _ v=>aA v
  | .ag l=>dw aA l
  | .bJ l=>dw aA l
  | .f _ x y=>dw aA x&&dw aA y
  | .g1 J _=>!J
  | .ix _ _ _=>false
  |_=>true) n
theorem z5(n:Nat)(v:AV):ks (n+1) v=match v with
  | .cZ J v=>!J&&dw (ks n) v.cells
  | .a7 J _ xs=>(!J||xs.isEmpty)&&dw (fun x=>dw (ks n) x.cells) xs
  | .it _ v=>ks n v
  | .ag l=>dw (ks n) l
  | .bJ l=>dw (ks n) l
  | .f _ x y=>dw (ks n) x&&dw (ks n) y
  | .g1 J _=>!J
  | .ix _ _ _=>false
  |_=>true:=rfl
theorem TL{w:World}{O:Nat→Prop}:∀(n:Nat) (v:AV) (u:Value),ks n v=true→R w (fun _=>none) O B v u→R w (fun _=>none) (fun b=>b<B) B v u
 |0,_,_,h,_=>by cases h
 |n+1,v,u,h,bD=>by
  have aA:=TL (w:=w) (O:=O) n;rw[z5] at h;cases bD with
  |b x=>exact .b x
  |i k n=>exact .i k n
  |s l aj=>exact .s l aj
  |qk=>exact .qk
  |p hm=>simp at hm
  |cZ aO db hb c4 ah al hf=>
   simp only[cx,q6] at h;exact .cZ aO (fun bZ=>by have:=c4 h.1;omega) hb c4 ah (fun j az=>aA _ _ (mg h.2 _ (aS az)) (al j az)) hf
  |aB=>exact .aB
  |ak hm=>simp at hm
  |ma=>exact .ma
  |a7 aO db aj ah al ar hf eU=>
   simp only[cx,mL,q6,List.isEmpty_iff] at h;refine .a7 aO (fun bx=>?_) aj ah (fun i hi j az=>aA _ _ (mg (mg h.2 _ (aS hi)) _ (aS az)) (al i hi j az)) ar hf eU;have h1:=h.1.resolve_right bx;exact⟨fun bZ=>by have:=(db bx).2.2 h1;omega,(db bx).2.1,(db bx).2.2⟩
  |rb=>exact .rb
  |mp hm=>simp at hm
  |oI hf bY ah sw=>
   simp only[cx] at h;exact .oI hf (fun i a b=>aA _ _ (mg h.1 _ (aS a)) (bY i a b)) ah (fun i a b=>aA _ _ (mg h.2 _ (aS a)) (sw i a b))
  |tV hm=>simp at hm
  |iP=>exact .iP
  |it av=>exact .it (aA _ _ h av)
  |fz=>exact .fz
  |ag aj al hf=>exact .ag aj (fun i a b=>aA _ _ (mg h _ (aS a)) (al i a b)) hf
  |bJ aj al=>exact .bJ aj (fun i a b=>aA _ _ (mg h _ (aS a)) (al i a b))
  |h4 hu hn=>exact .h4 hu hn
  |gD aj=>exact .gD aj
  |iQ n hn=>exact .iQ n hn
  |y aj=>exact .y aj
  |g1 hu aj=>
   simp only[q6] at h;subst h;exact .g1 hu (TokOk.fresh aj)
  |fo k aD=>exact .fo k aD
  |gv k h1 h2=>exact .gv k h1 h2
  |ix=>cases h
def SpecEntry(P:Program)(env:Env)(eO g:Nat)(aR:List AV)(r:AV):Prop:=
 (∃fn c,P.funcs[g]? =some fn∧fn.body=some c∧(fn.name== "runtime.NumGoroutine")=false)∧
  ∀k rd w us,eO≤w.heap.size→Globs env w eO→bz w (fun _=>none) (fun _=>False) w.heap.size aR us.toList→
   CallsIn (fh rd) k P g us w (fun e aW=>∃u,e= .returned u∧R aW (fun _=>none) (fun b=>b<w.heap.size) w.heap.size r u∧w.heap.size≤aW.heap.size∧(∀b,b<w.heap.size→aW.heap[b]? =w.heap[b]?)∧aW.os=w.os∧aW.tape=w.tape∧aW.output=w.output)
def Md(P:Program)(env:Env):Prop:=∀eO,zO P env eO
theorem a7A(w:World):Rel P ⟨.nil,0⟩ w (fun _=>none) w.heap.size:=
 ⟨trivial,fun _ _ h=>by simp at h,fun _ _ _ h=>by simp at h,fun _ _ _ h=>by simp at h,fun _ _ h=>by simp at h,o _⟩
theorem a7B(ax:Nat):¬a_ ⟨.nil,0⟩ (fun _=>none) ax:=fun⟨_,h,_⟩=>by simp at h
theorem TM(iX:ur P env)(eU:Md P env)(hex:zP P env)(sZ:P.follows .mixedOrders=true){n g:Nat}{aR:List AV}{r:AV}{l:List (dM×af)}(h:runF env (exec env n) 0 g aR ⟨.nil,0⟩=some l){aV fn:Nat}(bg:joinF aV 0 l=some r)(bY:ks fn r=true)(eO:Nat):
  SpecEntry P env eO g aR r:=by
 refine⟨?_,fun k rd w us c4 gF ha=>?_⟩
 ·unfold runF at h;cases hg:env.funcs g with
  |none=>simp[hg] at h
  |some cz=>
   obtain⟨fn,h1,h2,h3⟩:=iX.funcs g cz hg;obtain⟨_,c,_,_,aE,_⟩:=Ln h2;exact⟨fn,c,h1,aE,h3⟩
 ·have a7C:Globs env w w.heap.size:=fun g v hg gn=>(gF g v hg gn).mono (fun _ _ h=>h) (o _) (fun _ _ h=>h) (fun b _ hb=>⟨rfl,fun ab=>hb (l_ c4 ab)⟩);have b8:=TK iX (eU w.heap.size) hex sZ n;have k3:=a7A (P:=P) w;have Cu:bz w (fun _=>none) (a_ ⟨.nil,0⟩ (fun _=>none)) w.heap.size aR us.toList:=ha.mono (fun _ _ h=>h) (o _) (fun _ _ h=>h) (fun b _ _=>⟨rfl,a7B b⟩);obtain⟨_,ah⟩:=Lr iX b8 (Lt iX 0) h k rd k3 a7C Cu;refine wG ah (fun e aW eM=>?_);obtain⟨ret,aq,cP,cc,lW,lo,ho⟩:=eM;obtain⟨v,rfl,iC⟩:=SM bg _ _ cP;cases e with
  |returned u=>
   have a7D:Ext (⟨.nil,0⟩:af).next ⟨.nil,0⟩ w (fun _=>none) aq aW cc:=ho;have bD:=Lx k3 lo a7D aV v r u iC lW;exact⟨u,rfl,TL fn r u bY bD,ho.size,fun b hb=>ho.aF b hb (fun⟨_,_,h,_⟩=>by simp at h),ho.os,ho.tape,ho.out⟩
  |panicked n3=>exact lW.elim
  |outgrown=>exact lW.elim
end
def C6(k8:List (Nat×List AV×AV))(g:Nat)(aR:List AV):Option AV:=
 List.rec none (fun e _ aA=>cond (Nat.beq e.1 g) (cond (gb (AV.eqb 1000) aR e.2.1) (some e.2.2) aA) aA) k8
theorem a7E(e:Nat×List AV×AV)(k8:List (Nat×List AV×AV))(g:Nat)(aR:List AV):C6 (e::k8) g aR=cond (Nat.beq e.1 g) (cond (gb (AV.eqb 1000) aR e.2.1) (some e.2.2) (C6 k8 g aR)) (C6 k8 g aR):=rfl
theorem Me{g:Nat}{aR:List AV}{r:AV}:∀ {k8:List (Nat×List AV×AV)},C6 k8 g aR=some r→(g,aR,r)∈k8
 |[],h=>by cases h
 |e::k8,h=>by
  rw[a7E] at h;cases h1:Nat.beq e.1 g with
  |false=>rw[h1,cond_false] at h;exact e9 _ (Me h)
  |true=>
   rw[h1,cond_true] at h;cases h2:gb (AV.eqb 1000) aR e.2.1 with
   |false=>rw[h2,cond_false] at h;exact e9 _ (Me h)
   |true=>
    rw[h2,cond_true] at h;cases h;have aM:=fm h1;have e2:=Gg (AV.zQ 1000) _ _ h2;subst aM;subst e2;exact gz
structure uB where
 get:Nat→Option ch
def uB.Mf(p:Nat→ch→Prop)(t:uB):Prop:=∀g cz,t.get g=some cz→p g cz
theorem uB.Mg{p:Nat→ch→Prop}{t:uB}(h:t.Mf p):∀g cz,t.get g=some cz→p g cz:=h
structure dW where
 funcs:uB
 pd:Nat→Option AV
 pure:Nat→Bool
 aV:Nat
 ext:Nat→Nat
 vo:Nat→List AV→Option (AV×List AO):=fun _ _=>none
def dW.env(b:dW)(k8:List (Nat×List AV×AV)):Env:={funcs:=b.funcs.get,pd:=b.pd,pure:=b.pure,spec:=C6 k8,aV:=b.aV+1000,ext:=b.ext,vo:=b.vo}
def TN(P:Program)(g:Nat)(cz:ch):Prop:=∃fn,P.funcs[g]? =some fn∧cfunc P fn=some cz∧(fn.name== "runtime.NumGoroutine")=false
structure oX(P:Program)(b:dW):Prop where
 funcs:b.funcs.Mf (TN P)
 ext:zP P (b.env [])
 GY:P.follows .mixedOrders=true
def runsTo(b:dW)(k8:List (Nat×List AV×AV))(n:Nat)(e:Nat×List AV×AV):Bool:=
 match Qz (b.env k8) n e.1 e.2.1 with
 |some v=>AV.eqb 1000 v e.2.2&&ks 1000 e.2.2
 |none=>false
section
variable {P:Program}{b:dW}{k8:List (Nat×List AV×AV)}
def C7(P:Program)(b:dW)(k8:List (Nat×List AV×AV)):Prop:=∀e∈k8,∀eO,SpecEntry P (b.env []) eO e.1 e.2.1 e.2.2
theorem C7.a7F(h:C7 P b k8):Md P (b.env k8):=fun eO g aR r aj=>h _ (Me aj) eO
theorem C7.entry(hb:oX P b)(h:C7 P b k8){n:Nat}{e:Nat×List AV×AV}(al:runsTo b k8 n e=true)(eO:Nat):SpecEntry P (b.env []) eO e.1 e.2.1 e.2.2:=by
 unfold runsTo Qz at al;split at al
 ·rename_i v av;split at av<;>try (cases av;done)
  rename_i l b8;simp only[cx] at al;rw[AV.zQ _ _ _ al.1] at av;exact TM (env:=b.env k8) ⟨fun g cz hg=>uB.Mg hb.funcs g cz hg⟩ h.a7F hb.ext hb.GY b8 av al.2 eO
 ·cases al
end
theorem a7G(c x:Nat)(l:List Nat)(k:Nat):zf c (x::l) k=cond (Nat.beq x c) (Int.ofNat k) (zf c l (k+1)):=rfl
theorem a7H{a b:Nat}(ha:a<256)(hb:b<256):(a.toUInt8==b.toUInt8)=Nat.beq a b:=by
 rw[oA,m3,beq_iff_eq];constructor
 ·intro h;have:=congrArg UInt8.toNat h;simp at this;omega
 ·intro h;rw[h]
theorem TO{c:Nat}(ah:c<256):∀(l:List Nat) (k:Nat),(∀x∈l,x<256)→zf c l k=if Lib.indexByte (l.map Nat.toUInt8) c.toUInt8= -1 then-1 else Lib.indexByte (l.map Nat.toUInt8) c.toUInt8+k
 |[],k,_=>rfl
 |x::l,k,h=>by
  have hx:x<256:=h x (by simp);have aA:=TO ah l (k+1) (fun y aw=>h y (by simp[aw]));have iD:=Lib.indexByte_ge (l.map Nat.toUInt8) c.toUInt8;rw[a7G,aA,jK];simp only[Lib.indexByte,a7H hx ah];cases hb:Nat.beq x c with
  |true=>simp
  |false=>
   simp only[cond_false,nO,if_false];by_cases h1:Lib.indexByte (l.map Nat.toUInt8) c.toUInt8= -1
   ·simp[h1]
   ·have h2:(Lib.indexByte (l.map Nat.toUInt8) c.toUInt8== -1)=false:=by simpa using h1
    rw[h2];simp only[h1,if_false,nO];rw[if_neg (by omega)];omega
theorem a7I(x:Nat)(l:List Nat)(y:Nat)(r:List Nat):iy (x::l) (y::r)=cond (Nat.blt x y) true (cond (Nat.beq x y) (iy l r) false):=rfl
theorem a7J(x:Nat)(l:List Nat)(y:Nat)(r:List Nat):eqL (x::l) (y::r)=cond (Nat.beq x y) (eqL l r) false:=rfl
theorem cmp_eq:∀(a b:List Nat),(∀x∈a,x<256)→(∀x∈b,x<256)→Lib.compareBytes (a.map Nat.toUInt8) (b.map Nat.toUInt8)=cond (iy a b) (-1) (cond (eqL a b) 0 1)
 |[],[],_,_=>rfl
 |[],_::_,_,_=>rfl
 |_::_,[],_,_=>rfl
 |x::a,y::b,ha,hb=>by
  have hx:x<256:=ha x (by simp);have aw:y<256:=hb y (by simp);have aA:=cmp_eq a b (fun z bg=>ha z (by simp[bg])) (fun z bg=>hb z (by simp[bg]));have C8:∀ {p q:Nat},p<256→q<256→(p.toUInt8<q.toUInt8↔p<q):=fun hp hq=>by
   rw[NJ];simp;omega
  simp only[jK,Lib.compareBytes,a7I,a7J,C8 hx aw,C8 aw hx];rcases vh x y with h|h|h
  ·have:Nat.blt x y=true:=(vT.2 h)
   simp[h,this]
  ·subst h;have h1:Nat.blt x x=false:=by cases h:Nat.blt x x with|false=>rfl|true=>exact absurd ((vT.1 h)) (Nat.lt_irrefl x)
   simp[h1,aA]
  ·have h1:Nat.blt x y=false:=by cases h':Nat.blt x y with|false=>rfl|true=>have:=(vT.1 h');omega
   have h2:Nat.beq x y=false:=by cases h':Nat.beq x y with|false=>rfl|true=>have:=fm h';omega
   have h3:¬x<y:=by omega
   simp[h,h1,h2,h3]
section
variable {P:Program}{g:Nat}{fn:Func}
theorem TP{w:World}{m:Nat→Option Nat}{O:Nat→Prop}{B:Nat}{x y:AV}{l:List Value}(h:bz w m O B [x,y] l):∃u v,l=[u,v]∧R w m O B x u∧R w m O B y v:=by
 obtain⟨h1,h2⟩:=h
 match l,h1,h2 with
 |[u,v],_,h2=>exact⟨u,v,rfl,h2 0 (by simp) (by simp),h2 1 (by simp) (by simp)⟩
theorem a7K(hf:P.funcs[g]? =some fn)(qC:(fn.name== "runtime.NumGoroutine")=false)(hb:fn.body.isNone=true)(hn:Extern.findNext fn=none)(he:Extern.find fn=some Extern.BytealgIndexByte.indexByte)
  (args:List AV) (v:AV) (h:extRow 1 args=some v) (w:World) (m:Nat→Option Nat) (O:Nat→Prop) (B:Nat) (us cs:Array Value) (ha:bz w m O B args (us++cs).toList):∃u,(invoke (.fn (.func g) cs) us).run P w= .ok (.value u) w∧R w m O B v u:=by
 have key:∃l c,args=[.s l,.i .u8 (Int.ofNat c)]∧c<256∧v= .i .i64 (zf c l 0):=by
  unfold extRow at h;split at h
  ·rename_i l c _;cases ah:Nat.blt c 256 with
   |false=>rw[ah] at h;cases h
   |true=>rw[ah,cond_true] at h;cases h;exact⟨l,c,rfl,(vT.1 ah),rfl⟩
  ·rename_i h1;exact absurd h1 (by decide)
  ·rename_i h1;exact absurd h1 (by decide)
  ·cases h
 obtain⟨l,c,rfl,ah,rfl⟩:=key;obtain⟨kJ,oY,ar,h1,h2⟩:=TP ha;have jk:us++cs= #[kJ,oY]:=by apply lV;simpa using ar
 cases h1 with
 |s _ bZ=>
  cases h2 with
  |i _ _=>
   refine⟨.int .i64 (zf c l 0),?_,.i _ _⟩;show(callFunc g (us++cs)).run P w=_;rw[run_callFunc_extern hf qC hb hn he,jk,Lib.run_indexByteString];have aM:(strOf l).data.toList=l.map Nat.toUInt8:=by simp[strOf]
   have e2:(Int.ofNat c).toNat=c:=rfl;rw[aM,e2,TO ah l 0 bZ];simp only[ec];split
   ·rename_i h;rw[h]
   ·simp
theorem a7L(hf:P.funcs[g]? =some fn)(qC:(fn.name== "runtime.NumGoroutine")=false)(hb:fn.body.isNone=true)(hn:Extern.findNext fn=none)(he:Extern.find fn=some Extern.BytealgCompare.compare)
  (args:List AV) (v:AV) (h:extRow 2 args=some v) (w:World) (m:Nat→Option Nat) (O:Nat→Prop) (B:Nat) (us cs:Array Value) (ha:bz w m O B args (us++cs).toList):∃u,(invoke (.fn (.func g) cs) us).run P w= .ok (.value u) w∧R w m O B v u:=by
 have key:∃a b,args=[.s a,.s b]∧v= .i .i64 (cond (iy a b) (-1) (cond (eqL a b) 0 1)):=by
  unfold extRow at h;split at h
  ·rename_i h1;exact absurd h1 (by decide)
  ·cases h;exact⟨_,_,rfl,rfl⟩
  ·rename_i h1;exact absurd h1 (by decide)
  ·cases h
 obtain⟨a,b,rfl,rfl⟩:=key;obtain⟨kJ,oY,ar,h1,h2⟩:=TP ha;have jk:us++cs= #[kJ,oY]:=by apply lV;simpa using ar
 cases h1 with
 |s _ bZ=>
  cases h2 with
  |s _ a7M=>
   refine⟨.int .i64 (cond (iy a b) (-1) (cond (eqL a b) 0 1)),?_,.i _ _⟩;show(callFunc g (us++cs)).run P w=_;rw[run_callFunc_extern hf qC hb hn he,jk,Lib.run_compareString];have aM:∀l,(strOf l).data.toList=l.map Nat.toUInt8:=fun l=>by simp[strOf]
   rw[aM,aM,cmp_eq a b bZ a7M];rfl
end
theorem SpecEntry.calls{P:Program}{env:Env}{eO g:Nat}{aR:List AV}{r:AV}(h:SpecEntry P env eO g aR r){w:World}{us:Array Value}(c4:eO≤w.heap.size)(gF:Globs env w eO)(ha:bz w (fun _=>none) (fun _=>False) w.heap.size aR us.toList):
  Calls P g us w (fun e aW=>∃u,e= .returned u∧R aW (fun _=>none) (fun b=>b<w.heap.size) w.heap.size r u∧w.heap.size≤aW.heap.size∧(∀b,b<w.heap.size→aW.heap[b]? =w.heap[b]?)∧aW.os=w.os∧aW.tape=w.tape∧aW.output=w.output):=
 (h.2 0 none w us c4 gF ha).calls (fun k=>by simp[Fence.room,fh])
theorem TQ{α β:Type}{f:α→Option β}:∀ {l:List α} {r:List β},mapOL f l=some r→r.length=l.length∧∀i (h:i<l.length) (h':i<r.length),f l[i]=some r[i]
 |[],r,h=>by cases h;exact⟨rfl,fun i h=>by simp at h⟩
 |x::xs,r,h=>by
  unfold mapOL at h;split at h<;>cases h;rename_i y aO h1 h2;obtain⟨h3,aE⟩:=TQ h2;refine⟨by simp[h3],fun i hi cS=>?_⟩;cases i with
  |zero=>simpa using h1
  |succ i=>simpa using aE i (by simpa using hi) (by simpa using cS)
def packA(ad:Option Nat)(l:List AV):Option AV:=
 match ad,l with
 |none,[x]=>some x
 |none,_=>none
 |some n,l=>if l.length=n then some (.ag l) else none
def avCat(f:TypeId→DataW Unit→Option (List AV))(cells:TypeId→Nat):List (Nat×TypeId)→Nat→List (DataW Unit)→Option (List AV)
 |[],_,[]=>some []
 |(J,t)::fs,k,d::ds=>
  if J=k then match f t d,avCat f cells fs (k+cells t) ds with
   |some l,some r=>if l.length=cells t then some (l++r) else none
   |_,_=>none
  else none
 |_,_,_=>none
def avCells(P:Program):Nat→TypeId→DataW Unit→Option (List AV)
 |0,_,_=>none
 |n+1,t,d=>
  match P.underlying t,d with
  |some .bool,.lit (.bool b)=>some [.b b]
  |some (.int _),.lit (.int k x)=>some [.i k x]
  |some .string,.lit (.string l)=>some [.s (l.map (·.toNat))]
  |some (.pointer _),.nil=>some [.p none]
  |some (.slice _),.nil=>some [.aB]
  |some (.slice e),.slice (y::aO) _=>match shapeOf P e,P.cellsOf e with
   |some ad,c+1=>if shN ad=c+1 then match mapOL (fun d=>match avCells P n e d with|some l=>packA ad l|none=>none) (y::aO) with
     |some xs=>some [.a7 true ad xs]
     |none=>none
    else none
   |_,_=>none
  |some (.struct fs),.agg ps=>match avCat (avCells P n) P.cellsOf (fs.toList.map fun f=>(f.offset,f.type)) 0 ps with
   |some l=>if l.length=P.cellsOf t then some l else none
   |none=>none
  |some (.array k e),.agg ps=>match avCat (avCells P n) P.cellsOf ((List.range k).map fun i=>(i*P.cellsOf e,e)) 0 ps with
   |some l=>if l.length=P.cellsOf t then some l else none
   |none=>none
  |_,_=>none
section
variable {P:Program}{w:World}
theorem uC{base:Nat}{a:Addr}{n:Nat}{cs:List Value}(h:w.cells? base a n=some cs):cs.length=n∧∀i,i<n→w.cell? (a.add i)=cs[i]? :=by
 unfold World.cells? at h;split at h
 ·exact⟨by simpa using mapM_some_length h,fun i hi=>mapM_some_get h i i (by simp[hi])⟩
 ·cases h
theorem Mh{a:Addr}{v:Value}(h:w.cell? a=some v):a.spot=none∧a.block<w.heap.size:=by
 unfold World.cell? at h;split at h
 ·rename_i hh;split at h
  ·cases h
  ·rename_i aj;refine⟨by cases hx:a.spot with|none=>rfl|some _=>simp[hx] at aj,?_⟩;exact(xy.1 hh).1
 ·cases h
theorem Mi{f:TypeId→DataW Unit→Option (List AV)}{gn m:Nat}(aA:∀t cs d ps l,DataW.trod (fun _=>()) P w 0 (fun _=>true) false m t cs=some (d,ps)→f t d=some l→bz w (fun _=>none) (fun b=>w.heap.size≤b) gn l cs∧∀x∈l,conf none x=true)(cs:List Value):
  ∀(fs:List (Nat×TypeId)) (k:Nat) (xs:List (DataW Unit×List MemPlace)) (l:List AV),(∀(i J:Nat) (t:TypeId),fs[i]? =some (J,t)→DataW.trod (fun _=>()) P w 0 (fun _=>true) false m t ((cs.drop J).take (P.cellsOf t))=xs[i]?)→
   avCat f P.cellsOf fs k (xs.map (·.1))=some l→k+l.length=cs.length→bz w (fun _=>none) (fun b=>w.heap.size≤b) gn l (cs.drop k)∧∀x∈l,conf none x=true
 |[],k,[],l,_,h,aD=>by
  cases h;rw[wZ (by simp at aD;omega)];exact⟨.nil,fun x hx=>by cases hx⟩
 |[],k,x::xs,l,_,h,aD=>by simp[avCat] at h
 |(J,t)::fs,k,[],l,_,h,aD=>by simp[avCat] at h
 |(J,t)::fs,k,x::xs,l,hx,h,aD=>by
  simp only[jK,avCat] at h;split at h
  ·rename_i ab;subst ab;split at h
   ·rename_i gd r1 h1 h2;split at h<;>cases h;rename_i hl1;have h0:=hx 0 J t rfl;simp only[J1] at h0;obtain⟨aP,a0⟩:=aA t _ x.1 x.2 gd (by rw[h0]) h1;have al:=Mi aA cs fs (J+P.cellsOf t) xs r1 (fun i b7 FM hi=>by simpa using hx (i+1) b7 FM (by simpa using hi)) h2 (by rw[cR] at aD;omega);refine⟨?_,fun y aw=>(dE.1 aw).elim (a0 y) (al.2 y)⟩;have au:=al.1;rw[←pb] at au;have:=aP.append au;rwa[nf] at this
   ·cases h
  ·cases h
theorem TR{ad:Option Nat}{l:List AV}{x:AV}(h:packA ad l=some x)(ar:∀y∈l,conf none y=true):conf ad x=true∧x.cells=l:=by
 unfold packA at h;split at h
 ·cases h;have:=ar x (by simp);refine⟨this,?_⟩;cases x<;>simp_all [conf,AV.cells]
 ·cases h
 ·split at h<;>cases h;rename_i hn;exact⟨by simp[conf,hn],rfl⟩
theorem TS(gn:Nat):∀(n fuel:Nat) (t:TypeId) (cs:List Value) (d:DataW Unit) (ps:List MemPlace) (l:List AV),DataW.trod (fun _=>()) P w 0 (fun _=>true) false fuel t cs=some (d,ps)→avCells P n t d=some l→
  bz w (fun _=>none) (fun b=>w.heap.size≤b) gn l cs∧∀x∈l,conf none x=true
 |0,_,_,_,_,_,_,_,h=>by cases h
 |n+1,fuel,t,cs,d,ps,l,au,h=>by
  have aA:=fun m t cs d ps l=>TS gn n m t cs d ps l;unfold avCells at h;split at h
  ·rename_i ht;obtain⟨b,rfl,hx⟩:=DataW.trod_bool ht au;cases h;cases hx;exact⟨.cons (.b _) .nil,fun x hx=>by simp at hx;subst hx;rfl⟩
  ·rename_i ht;obtain⟨b,rfl,hx,_⟩:=Ff ht au;cases h;cases hx;exact⟨.cons (.i _ _) .nil,fun x hx=>by simp at hx;subst hx;rfl⟩
  ·rename_i ht;obtain⟨s,rfl,hx,_⟩:=Fg ht au;cases h;cases hx;have:=R.s (w:=w) (m:=fun _=>none) (O:=fun b=>w.heap.size≤b) (B:=gn) (lj s) (BS s);rw[BR] at this;exact⟨.cons this .nil,fun x hx=>by simp at hx;subst hx;rfl⟩
  ·rename_i ht;rcases DataW.trod_pointer ht au with⟨rfl,_⟩|⟨_,_,_,_,_,_,hx,_⟩
   ·cases h;exact⟨.cons .qk .nil,fun x hx=>by simp at hx;subst hx;rfl⟩
   ·cases hx
  ·rename_i ht;rcases Fh ht au with⟨rfl,_⟩|⟨_,_,_,_,_,_,_,_,hx,_⟩
   ·cases h;exact⟨.cons .aB .nil,fun x hx=>by simp at hx;subst hx;rfl⟩
   ·cases hx
  ·rename_i e y aO _ ht;split at h<;>try (cases h;done)
   rename_i ad c cL ah;split at h<;>try (cases h;done)
   rename_i TT;split at h<;>cases h;rename_i xs dj;obtain⟨h1,h2⟩:=TQ dj;rcases Fh ht au with⟨_,hx⟩|⟨a,len,cap,elems,rest,m,rfl,rfl,hx,_,nm,FP,FT,er,_,_⟩
   ·cases hx
   simp only[uK,DataW.slice.injEq] at hx;obtain⟨⟨e1,_⟩,_⟩:=hx;have hlen:xs.length=len:=by rw[h1,e1];simpa using FT
   have each:∀i (hi:i<xs.length),∃us,w.cells? 0 (a.add (i*P.cellsOf e)) (P.cellsOf e)=some us∧bz w (fun _=>none) (fun b=>w.heap.size≤b) gn (xs[i]).cells us∧conf ad xs[i]=true∧∀x∈(xs[i]).cells,conf none x=true:=fun i hi=>by
    have hg:=er i (by omega);have cS:i<elems.length:=by omega
    rw[a9 cS] at hg;simp only[cB] at hg;obtain⟨us,hu,C9⟩:=hg;have h3:=h2 i (by omega) hi;have aM:(y::aO)[i]'(by omega)=(elems[i]).1:=by
     have:(y::aO)[i]? =(elems.map (·.1))[i]? :=by rw[e1]
     rw[a9 (by omega),a9 (by simpa using cS),a6] at this;simpa using this
    rw[aM] at h3;split at h3<;>try (cases h3;done)
    rename_i gd hl1;obtain⟨aP,a0⟩:=aA m e us _ _ gd C9 hl1;obtain⟨bF,bU⟩:=TR h3 a0;exact⟨us,hu,by rw[bU];exact aP,bF,by rw[bU];exact a0⟩
   have B6:0<xs.length:=by rw[h1];simp
   obtain⟨TU,C_,k3,hc0,_⟩:=each 0 B6;obtain⟨TV,xv⟩:=uC C_;have jj:P.cellsOf e=c+1:=ah;have qJ:=xv 0 (by omega);rw[a9 (by omega)] at qJ;simp only[w1] at qJ;have a7N:(a.add 0).add 0=a:=rfl;rw[a7N] at qJ;obtain⟨eU,TW⟩:=Mh qJ;obtain⟨ax,off,sp⟩:=a;cases eU;refine⟨.cons ?_ .nil,fun x hx=>by simp at hx;subst hx;rfl⟩;rw[←hlen];refine .a7 (fun i j=>(w.cell? ⟨ax,off+i*shN ad+j,none⟩).getD undef) (fun _=>⟨by show ¬w.heap.size≤ax;exact Nat.not_le.2 TW,TW,fun h=>by cases h⟩) (fun i hi=>(each i hi).choose_spec.2.2.1) (fun i hi j az=>?_) (fun i hi j az=>?_) (by omega) (fun v av x hx=>?_) (fun _=>rfl)
   ·obtain⟨us,hu,al,dV,_⟩:=each i hi;obtain⟨ar,hg⟩:=uC hu;have ff:j<P.cellsOf e:=by rw[qn dV] at az;omega
    have:=hg j ff;rw[h5,h5,a9 (by omega)] at this;rw[jj,← TT] at this;rw[this];rfl
   ·obtain⟨us,hu,al,dV,_⟩:=each i hi;obtain⟨ar,hg⟩:=uC hu;have ff:j<P.cellsOf e:=by rw[qn dV] at az;omega
    have:=hg j ff;rw[h5,h5,a9 (by omega)] at this;rw[jj,← TT] at this;rw[this];exact al.2 j az (by omega)
   ·obtain⟨i,hi,rfl⟩:=gm av;exact(each i hi).choose_spec.2.2.2 x hx
  ·rename_i fs lQ ht;split at h<;>try (cases h;done)
   rename_i gd hl1;split at h<;>cases h;rename_i hlen;obtain⟨xs,m,rfl,hx,mj,j8,er⟩:=Fi ht au;simp only[uK,DataW.agg.injEq] at hx;obtain⟨rfl,_⟩:=hx;have:=Mi (gn:=gn) (m:=m) (fun t cs d ps l=>aA m t cs d ps l) cs _ 0 xs l (fun i J FM hi=>by
    simp only[kV,et,uK] at hi;obtain⟨f,hf,rfl,rfl⟩:=hi;exact er i f (by simpa using hf)) hl1 (by omega)
   simpa using this
  ·rename_i k e lQ ht;split at h<;>try (cases h;done)
   rename_i gd hl1;split at h<;>cases h;rename_i hlen;obtain⟨xs,m,rfl,hx,mj,j8,er⟩:=DataW.trod_array ht au;simp only[uK,DataW.agg.injEq] at hx;obtain⟨rfl,_⟩:=hx;have:=Mi (gn:=gn) (m:=m) (fun t cs d ps l=>aA m t cs d ps l) cs _ 0 xs l (fun i J FM hi=>by
    simp only[kV,et,uK] at hi;obtain⟨j,az,rfl,rfl⟩:=hi;have ud:=ki.1 az;obtain⟨TX,TY⟩:=ud;simp at TX TY;subst TY;exact er i TX) hl1 (by omega)
   simpa using this
  ·cases h
def avVar(P:Program)(n:Nat)(x:String×DataW Unit):Option (Nat×AV):=
 match P.globalNamed x.1 with
 |some g=>match P.globals[g]? with
  |some s0=>match shapeOf P s0.type,avCells P n s0.type x.2 with
   |some ad,some l=>match packA ad l with
    |some v=>some (g,v)
    |none=>none
   |_,_=>none
  |none=>none
 |none=>none
noncomputable def GZ (l:List (Nat×AV)) (g:Nat):Option AV:=List.rec none (fun e _ aA=>cond (Nat.beq e.1 g) (some e.2) aA) l
theorem TZ{g:Nat}{v:AV}:∀ {l:List (Nat×AV)},GZ l g=some v→(g,v)∈l
 |[],h=>by cases h
 |e::l,h=>by
  have h:cond (Nat.beq e.1 g) (some e.2) (GZ l g)=some v:=h;cases h1:Nat.beq e.1 g with
  |false=>rw[h1,cond_false] at h;exact e9 _ (TZ h)
  |true=>
   rw[h1,cond_true] at h;cases h;have:=fm h1;subst this;exact gz
theorem var?_heap{n:String}{g:Nat}{cs:Array Value}(hg:P.globalNamed n=some g)(h:w.var? P n=some cs):∃t aV,w.heap[g]? =some (.cells cs t aV):=by
 unfold World.var? at h;rw[hg] at h;simp only[Option.bind_some] at h;split at h<;>cases h;exact⟨_,_,by assumption⟩
theorem T0:∀ {laid:List (String×DataW Unit)} {ps:List MemPlace},DataW.LaidVars P w laid ps→∀x∈laid,∃g t cs fuel p,P.globalNamed x.1=some g∧(P.globals[g]?).map (·.type)=some t∧w.var? P x.1=some cs∧DataW.trod (fun _=>()) P w 0 (fun _=>true) false fuel t cs.toList=some (x.2,p)
 |[],_,_,x,hx=>by cases hx
 |y::laid,ps,ar,x,hx=>by
  obtain⟨gM,t0,oT,f0,p0,ck,uD,xU,rJ,sO,pB,_⟩:=ar;rcases cH.1 hx with rfl|hx
  ·exact⟨gM,t0,oT,f0,p0,uD,xU,rJ,sO⟩
  ·exact T0 pB x hx
theorem a7O{n:Nat}{x:String×DataW Unit}{g:Nat}{v:AV}(h1:avVar P n x=some (g,v)){gM t0 f0:Nat}{oT:Array Value}{p0:List MemPlace}(uD:P.globalNamed x.1=some gM)(xU:(P.globals[gM]?).map (·.type)=some t0)
  (rJ:w.var? P x.1=some oT) (sO:DataW.trod (fun _=>()) P w 0 (fun _=>true) false f0 t0 oT.toList=some (x.2,p0)) (gn:Nat):
  R w (fun _=>none) (fun b=>w.heap.size≤b) gn (.cZ true v) (.pointer (some ⟨g,0,none⟩)):=by
 unfold avVar at h1;rw[uD] at h1;simp only[] at h1;cases T1:P.globals[gM]? with
 |none=>simp[T1] at h1
 |some T2=>
  simp only[T1] at h1 xU;simp only[wj,a6] at xU;subst xU;split at h1<;>try (cases h1;done)
  rename_i ad gd aj hl1;split at h1<;>cases h1;rename_i hp;obtain⟨aP,a0⟩:=TS gn n f0 _ _ _ _ _ sO hl1;obtain⟨bF,bU⟩:=TR hp a0;obtain⟨zj,aV,hh⟩:=var?_heap uD rJ;have bZ:g<w.heap.size:=(xy.1 hh).1;refine .cZ (fun j=>(oT[j]?).getD undef) (by show ¬w.heap.size≤g;omega) bZ (fun h=>by cases h) (fun j az=>?_) (fun j az=>?_) (by rw[bU];exact a0)
  ·rw[bU] at az;have ff:j<oT.size:=by have:=aP.1;simp at this;omega
   unfold World.cell?;rw[hh];simp[ff]
  ·have ud:=az;rw[bU] at ud;have ff:j<oT.size:=by have:=aP.1;simp at this;omega
   have:=aP.2 j ud (by simpa using ff);simp only[bU];simpa [ff] using this
theorem T3{n:Nat}{laid:List (String×DataW Unit)}{ps:List MemPlace}(ar:DataW.LaidVars P w laid ps):∀ {L:List (String×DataW Unit)} {s0:List (Nat×AV)},(∀x∈L,x∈laid)→mapOL (avVar P n) L=some s0→
  ∀g v,(g,v)∈s0→∀gn,R w (fun _=>none) (fun b=>w.heap.size≤b) gn (.cZ true v) (.pointer (some ⟨g,0,none⟩))
 |[],s0,_,h,g,v,hm=>by cases h;cases hm
 |x::L,s0,hL,h,g,v,hm=>by
  unfold mapOL at h;split at h<;>cases h;rename_i y aO h1 h2;rcases cH.1 hm with rfl|hm
  ·intro gn;obtain⟨gM,t0,oT,f0,p0,uD,xU,rJ,sO⟩:=T0 ar x (hL x (by simp));exact a7O h1 uD xU rJ sO gn
  ·exact T3 ar (fun x hx=>hL x (by simp[hx])) h2 g v hm
theorem globs_of_laid{env:Env}{laid:List (String×DataW Unit)}{n:Nat}{s0:List (Nat×AV)}(ar:laidMet P laid w)(names:List String)(h:mapOL (avVar P n) (laid.filter fun x=>names.contains x.1)=some s0)(hg:env.pd=GZ s0):Globs env w w.heap.size:=by
 obtain⟨ps,ar,_⟩:=ar;intro g v av gn;rw[hg] at av;exact T3 ar (fun x hx=>(rr.1 hx).1) h g v (TZ av) gn
end
end
section
variable [Tok][TokOk]
open Go.RowKit Go.ChangeShapes Go.WideShapes
theorem a7P{W W':World}{may:MemPlace→Prop}(aD:∀b,b<W.heap.size→W'.heap[b]? =W.heap[b]?)(ib:W'.os=W.os)(jw:W'.output=W.output):W.keptBut W' may:=by
 refine⟨ib,jw,fun i hi=>?_⟩;rw[aD i hi];cases h:W.heap[i]? with
 |none=>rfl
 |some J=>
  cases J with
  |cells c t ai=>exact⟨rfl,rfl,rfl,fun j _=>rfl⟩
  |map es clock=>exact .inr ⟨rfl,rfl⟩
  |_=>rfl
end
section
variable [Tok][TokOk]
open Go.RowKit
def dr{α:Type}(f:Nat→Option (List α))(Q:α→Prop):Prop:=∃iY l,l≠[]∧(∀F,iY≤F→f F=some l)∧∀x∈l,Q x
theorem dr.one{α:Type}{f:Nat→Option (List α)}{Q:α→Prop}{x:α}(h:∀F,f F=some [x])(hq:Q x):dr f Q:=⟨0,[x],by simp,fun F _=>h F,fun _ aw=>by rw[d_.1 aw];exact hq⟩
theorem dr.mono{α:Type}{f:Nat→Option (List α)}{Q ob:α→Prop}(h:dr f Q)(hq:∀x,Q x→ob x):dr f ob:=let⟨iY,l,h1,h2,h3⟩:=h;⟨iY,l,h1,h2,fun x hx=>hq x (h3 x hx)⟩
theorem dr.congr{α:Type}{f g:Nat→Option (List α)}{Q:α→Prop}(h:dr f Q)(e:∀F,g F=f F):dr g Q:=let⟨iY,l,h1,h2,h3⟩:=h;⟨iY,l,h1,fun F e3=>(e F).trans (h2 F e3),h3⟩
theorem dr.succ{α:Type}{f g:Nat→Option (List α)}{Q:α→Prop}(h:dr f Q)(e:∀F,g (F+1)=f F):dr g Q:=
 let⟨iY,l,h1,h2,h3⟩:=h
 ⟨iY+1,l,h1,fun F e3=>by obtain⟨k,rfl⟩:∃k,F=k+1:=⟨F-1,by omega⟩;exact(e k).trans (h2 k (by omega)),h3⟩
theorem a7Q{α β:Type}(f:α→Option (List β))(x y:α)(t:List α):kk f (x::y::t)=match f x with|none=>none|some a=>match kk f (y::t) with|none=>none|some b=>some (a++b):=rfl
theorem dr.flat{α β:Type}{g:α→Nat→Option (List β)}{Q:β→Prop}:∀(l:List α),l≠[]→(∀x∈l,dr (g x) Q)→dr (fun F=>kk (fun x=>g x F) l) Q
 |[],h,_=>absurd rfl h
 |[x],_,h=>(h x (by simp)).congr fun F=>rfl
 |x::y::t,_,h=>by
  obtain⟨xV,gd,aP,cC,cQ⟩:=h x (by simp);obtain⟨Mj,j9,a0,c0,eA⟩:=dr.flat (g:=g) (Q:=Q) (y::t) (by simp) (fun z bg=>h z (e9 _ bg));refine⟨max xV Mj,gd++j9,by simp[aP],fun F e3=>?_,fun z bg=>?_⟩
  ·show kk (fun x=>g x F) (x::y::t)=_;have e2:kk (fun x=>g x F) (y::t)=some j9:=c0 F (by omega);rw[a7Q,cC F (by omega),e2]
  ·rcases dE.1 bg with bg|bg
   ·exact cQ z bg
   ·exact eA z bg
theorem dr.then{α β:Type}{f:Nat→Option (List α)}{g:α→Nat→Option (List β)}{Q:α→Prop}{ob:β→Prop}(h:dr f Q)(hg:∀x,Q x→dr (g x) ob):dr (fun F=>kl (f F) (fun x=>g x F)) ob:=by
 obtain⟨iY,l,h1,h2,h3⟩:=h;obtain⟨xV,cF,a,b,c⟩:=dr.flat (g:=g) (Q:=ob) l h1 (fun x hx=>hg x (h3 x hx));exact⟨max iY xV,cF,a,fun F e3=>by show kl (f F) _=_;rw[h2 F (by omega)];exact b F (by omega),c⟩
abbrev rK:=hQ→Fr→af→Prop
def fY(env:Env)(floor:Nat)(aI:Option Nat)(c:bB)(ai:Fr)(I:af)(Q:rK):Prop:=dr (fun F=>exec env F floor aI c ai I) (fun J=>Q J.1 J.2.1 J.2.2)
def kt(env:Env)(floor:Nat)(eg:Bool)(ops:List a1)(ai:Fr)(I:af)(Q:rK):Prop:=dr (fun F=>runOps env floor (callV env (exec env F) floor) eg ops ai I) (fun J=>Q J.1 J.2.1 J.2.2)
def b9(env:Env)(floor:Nat)(b_:AV)(args:List AV)(I:af)(Q:dM→af→Prop):Prop:=dr (fun F=>callV env (exec env F) floor b_ args I) (fun J=>Q J.1 J.2)
section
variable {env:Env}{floor:Nat}{aI:Option Nat}{ai:Fr}{I:af}{Q:rK}
theorem fY.mono{c:bB}{ob:rK}(h:fY env floor aI c ai I Q)(hq:∀x ai I,Q x ai I→ob x ai I):fY env floor aI c ai I ob:=dr.mono h fun _ ab=>hq _ _ _ ab
theorem fY.skip(h:Q .normal ai I):fY env floor aI .skip ai I Q:=(dr.one (f:=fun F=>some [(hQ.normal,ai,I)]) (Q:=fun J=>Q J.1 J.2.1 J.2.2) (fun _=>rfl) h).succ fun F=>by rw[pC];rfl
theorem fY.ret(h:Q .ret ai I):fY env floor aI .ret ai I Q:=(dr.one (f:=fun F=>some [(hQ.ret,ai,I)]) (Q:=fun J=>Q J.1 J.2.1 J.2.2) (fun _=>rfl) h).succ fun F=>by rw[pC];rfl
theorem fY.exit{id:Nat}(h:Q (.exit id) ai I):fY env floor aI (.exit id) ai I Q:=(dr.one (f:=fun F=>some [(hQ.exit id,ai,I)]) (Q:=fun J=>Q J.1 J.2.1 J.2.2) (fun _=>rfl) h).succ fun F=>by rw[pC];rfl
theorem fY.region{ops:List a1}(h:kt env floor aI.isNone ops ai I Q):fY env floor aI (.region ops) ai I Q:=dr.succ h fun F=>by rw[pC];rfl
def a7R(env:Env)(floor:Nat)(aI:Option Nat)(b:bB)(Q:rK):rK:=fun x ai I=>match x with| .normal=>fY env floor aI b ai I Q|x=>Q x ai I
theorem fY.seq{a b:bB}(h:fY env floor aI a ai I (a7R env floor aI b Q)):fY env floor aI (.seq a b) ai I Q:=by
 refine dr.succ (dr.then (g:=fun x F=>zg (exec env F) floor aI b x) h fun J ab=>?_) fun F=>by rw[pC];rfl
 obtain⟨x,c_,aq⟩:=J;cases x with
 |normal=>exact ab
 |exit i=>exact dr.one (fun _=>rfl) ab
 |ret=>exact dr.one (fun _=>rfl) ab
 |panic v=>exact dr.one (fun _=>rfl) ab
def a7S(id:Nat)(Q:rK):rK:=fun x ai I=>match x with| .exit j=>if j=id then Q .normal ai I else Q (.exit j) ai I|x=>Q x ai I
theorem fY.block{a:bB}{id:Nat}(h:fY env floor aI a ai I (a7S id Q)):fY env floor aI (.block id a) ai I Q:=by
 refine dr.succ (dr.then (g:=fun x _=>Ke id x) h fun J ab=>?_) fun F=>by rw[pC];rfl
 obtain⟨x,c_,aq⟩:=J;cases x with
 |normal=>exact dr.one (fun _=>rfl) ab
 |exit i=>
  have ab:(if i=id then Q .normal c_ aq else Q (.exit i) c_ aq):=ab;by_cases hi:i=id
  ·subst hi;rw[if_pos rfl] at ab;refine dr.one (x:=(.normal,c_,aq)) (fun _=>?_) ab;show cond (Nat.beq i i) _ _=_;rw[fy];rfl
  ·rw[if_neg hi] at ab;refine dr.one (x:=(.exit i,c_,aq)) (fun _=>?_) ab;show cond (Nat.beq i id) _ _=_;rw[show Nat.beq i id=false from by cases hb:Nat.beq i id with|false=>rfl|true=>exact absurd (fm hb) hi];rfl
 |ret=>exact dr.one (fun _=>rfl) ab
 |panic v=>exact dr.one (fun _=>rfl) ab
theorem fY.z6{J:aC}{a b:bB}{t:Bool}(ab:evalA env ai.bk J=some (.b t))(ht:t=true→fY env floor aI a ai I Q)(hf:t=false→fY env floor aI b ai I Q):fY env floor aI (.cond J a b) ai I Q:=by
 cases t with
 |true=>
  refine dr.succ (ht rfl) fun F=>?_;rw[pC];show(match evalA env ai.bk J with|some (.b t)=>exec env F floor aI (cond t a b) ai I|_=>none)=_;rw[ab];rfl
 |false=>
  refine dr.succ (hf rfl) fun F=>?_;rw[pC];show(match evalA env ai.bk J with|some (.b t)=>exec env F floor aI (cond t a b) ai I|_=>none)=_;rw[ab];rfl
theorem fY.loop{a:bB}(jQ:Nat→Fr→af→Prop)(aZ:∀m ai I,jQ m ai I→fY env floor aI a ai I (fun x c_ aq=>match x with| .normal=>∃aH,aH<m∧jQ aH c_ aq|x=>Q x c_ aq)):∀m ai I,jQ m ai I→fY env floor aI (.loop a) ai I Q:=by
 intro m
 induction m using Nat.strongRecOn with
 |ind m aA=>
  intro ai I h;refine dr.succ (dr.then (g:=fun x F=>zg (exec env F) floor aI (.loop a) x) (aZ m ai I h) fun J ab=>?_) fun F=>by rw[pC];rfl
  obtain⟨x,c_,aq⟩:=J;cases x with
  |normal=>obtain⟨aH,h1,h2⟩:=ab;exact aA aH h1 c_ aq h2
  |exit i=>exact dr.one (fun _=>rfl) ab
  |ret=>exact dr.one (fun _=>rfl) ab
  |panic v=>exact dr.one (fun _=>rfl) ab
theorem kt.nil{eg:Bool}(h:Q .normal ai I):kt env floor eg [] ai I Q:=dr.one (fun _=>rfl) h
theorem kt.val{eg:Bool}{J:a1}{ops:List a1}{v:AV}{aq:af}(hw:wantedA J.guard ai.bk=true)(ab:opx floor (evalA env ai.bk) I J.op=some (.val v aq))(h:kt env floor eg ops (ai.put J.dst v) aq Q):kt env floor eg (J::ops) ai I Q:=
 dr.congr h fun F=>by rw[Cj,hw,cond_true,ab]
theorem kt.off{eg:Bool}{J:a1}{ops:List a1}(hw:wantedA J.guard ai.bk=false)(h:kt env floor eg ops (ai.put J.dst dR) I Q):kt env floor eg (J::ops) ai I Q:=
 dr.congr h fun F=>by rw[Cj,hw,cond_false]
theorem kt.call{eg:Bool}{J:a1}{ops:List a1}{b_:AV}{args:List AV}(hw:wantedA J.guard ai.bk=true)(ab:opx floor (evalA env ai.bk) I J.op=some (.call b_ args))
  (h:b9 env floor b_ args I (fun r aq=>match r with| .ok v=>kt env floor eg ops (ai.put J.dst v) aq Q| .err v=>Q (.panic v) ai aq)):kt env floor eg (J::ops) ai I Q:=by
 refine dr.congr (dr.then (g:=fun(r:dM×af) F=>(match r with
     |(.ok v,I)=>runOps env floor (callV env (exec env F) floor) eg ops (ai.put J.dst v) I
     |(.err v,I)=>some [(.panic v,ai,I)])) h fun r al=>?_) fun F=>by rw[Cj,hw,cond_true,ab]<;>rfl
 obtain⟨r,aq⟩:=r;cases r with
 |ok v=>exact al
 |err v=>exact dr.one (fun _=>rfl) al
theorem b9.spec{g:Nat}{first cap args aR:List AV}{r:AV}{Q:dM→af→Prop}(he:env.ext g=0)(hp:env.pure g=true)(ha:mapO (bh I env.aV) (first++args++cap)=some aR)(aj:env.spec g aR=some r)(h:Q (.ok r) I):
  b9 env floor (.f (.func g) first cap) args I Q:=by
 refine dr.one (x:=(.ok r,I)) (fun F=>?_) h;show callF env (exec env F) floor g (first++args++cap) I=_;unfold callF;rw[he];show cond (env.pure g) _ _=_;rw[hp,cond_true,ha];show(match env.spec g aR with|some r=>_|none=>_)=_;rw[aj]
def T4(env:Env)(floor:Nat)(fn:ch)(Q:dM→af→Prop):rK:=fun x ai I=>∃r aq,endF env floor fn (x,ai,I)=some [(r,aq)]∧Q r aq
theorem b9.run{g:Nat}{first cap args:List AV}{fn:ch}{body:bB}{Q:dM→af→Prop}(he:env.ext g=0)(hp:env.pure g=false)(hf:env.funcs g=some fn)(hb:fn.body=some body)
  (hn:(Nat.beq (first++args++cap).length fn.lP&&Nat.ble (first++args++cap).length fn.ntmps)=true) (h:fY env floor none body (tU fn (first++args++cap)) I (T4 env floor fn Q)):b9 env floor (.f (.func g) first cap) args I Q:=by
 refine dr.congr (dr.then (g:=fun x _=>endF env floor fn x) h fun J ab=>?_) fun F=>?_
 ·obtain⟨r,aq,h1,h2⟩:=ab;exact dr.one (fun _=>h1) h2
 ·show callF env (exec env F) floor g (first++args++cap) I=_;unfold callF;rw[he];show cond (env.pure g) _ _=_;rw[hp,cond_false];unfold runF;rw[hf];show(match fn.body with|none=>none|some body=>_)=_;rw[hb];show cond _ _ _=_;rw[hn,cond_true]
theorem jR{α β:Type}(f:α→Option β)(x:α)(l:List α):mapO f (x::l)=match f x with|none=>none|some y=>match mapO f l with|none=>none|some aO=>some (y::aO):=rfl
theorem T5{f g:AV→Option AV}(h:∀x y,f x=some y→g x=some y):∀ {l r:List AV},mapO f l=some r→mapO g l=some r
 |[],r,e=>e
 |x::l,r,e=>by
  rw[jR] at e ⊢;cases hx:f x with
  |none=>rw[hx] at e;cases e
  |some y=>
   rw[hx] at e;cases ar:mapO f l with
   |none=>rw[ar] at e;cases e
   |some aO=>rw[ar] at e;rw[h x y hx,T5 h ar];exact e
theorem T6{I:af}{base:Nat}:∀(n:Nat) (v r:AV),freeze I base n v=some r→freeze I base (n+1) v=some r
 |0,_,_,h=>by cases h
 |n+1,v,r,h=>by
  have aA:=T6 (I:=I) (base:=base) n;have jd:∀ {l cF:List AV},mapO (freeze I base n) l=some cF→mapO (freeze I base (n+1)) l=some cF:=T5 aA;rw[freeze_succ] at h;rw[freeze_succ];split at h
  ·split at h<;>try (cases h;done)
   rename_i hb;rw[if_neg hb];split at h<;>try (cases h;done)
   rename_i xs dj;split at h<;>cases h;rename_i aO uo;simp only[dj,jd uo]
  ·split at h<;>cases h;rename_i aO uo;simp only[jd uo]
  ·split at h<;>cases h;rename_i aO uo;simp only[jd uo]
  ·split at h<;>cases h;rename_i y aw;simp only[aA _ _ aw]
  ·cases h
  ·cases h
  ·cases h
  ·cases h
  ·exact h
theorem T7{I:af}{base n m:Nat}(hn:n≤m){v r:AV}(h:freeze I base n v=some r):freeze I base m v=some r:=by
 obtain⟨k,rfl⟩:∃k,m=n+k:=⟨m-n,by omega⟩
 induction k with
 |zero=>exact h
 |succ k aA=>exact T6 _ _ _ (aA (by omega))
theorem T8{f g:AV→AV→Bool}(h:∀x y,f x y=true→g x y=true):∀ {l r:List AV},gb f l r=true→gb g l r=true
 |[],[],e=>e
 |[],_::_,e=>by cases e
 |_::_,[],e=>by cases e
 |x::l,y::r,e=>by
  have e:cond (f x y) (gb f l r) false=true:=e;show cond (g x y) (gb g l r) false=true;cases hx:f x y with
  |false=>rw[hx] at e;cases e
  |true=>rw[hx] at e;rw[h x y hx];exact T8 h e
theorem T9:∀(n:Nat) (x y:AV),AV.eqb n x y=true→AV.eqb (n+1) x y=true
 |0,_,_,h=>by cases h
 |n+1,x,y,h=>by
  have aA:=T9 n;have jd:∀ {l r:List AV},gb (AV.eqb n) l r=true→gb (AV.eqb (n+1)) l r=true:=T8 aA;have e:=AV.zQ _ _ _ h;subst e;cases x
  case a7 J ad xs=>
   have h:((J==J)&&decide (ad=ad)&&gb (AV.eqb n) xs xs)=true:=h;show((J==J)&&decide (ad=ad)&&gb (AV.eqb (n+1)) xs xs)=true;simp only[cx] at h ⊢;exact⟨h.1,jd h.2⟩
  case cZ J v=>
   have h:((J==J)&&AV.eqb n v v)=true:=h;show((J==J)&&AV.eqb (n+1) v v)=true;simp only[cx] at h ⊢;exact⟨h.1,aA _ _ h.2⟩
  case f bu a c=>
   have h:(decide (bu=bu)&&(gb (AV.eqb n) a a&&gb (AV.eqb n) c c))=true:=h;show(decide (bu=bu)&&(gb (AV.eqb (n+1)) a a&&gb (AV.eqb (n+1)) c c))=true;simp only[cx] at h ⊢;exact⟨h.1,jd h.2.1,jd h.2.2⟩
  case it t v=>
   have h:(Nat.beq t t&&AV.eqb n v v)=true:=h;show(Nat.beq t t&&AV.eqb (n+1) v v)=true;simp only[cx] at h ⊢;exact⟨h.1,aA _ _ h.2⟩
  case p a=>cases a<;>exact h
  case m a=>cases a<;>exact h
  case ag l=>exact jd (l:=l) (r:=l) h
  case bJ l=>exact jd (l:=l) (r:=l) h
  all_goals exact h
theorem a7T{n m:Nat}(hn:n≤m){x y:AV}(h:AV.eqb n x y=true):AV.eqb m x y=true:=by
 obtain⟨k,rfl⟩:∃k,m=n+k:=⟨m-n,by omega⟩
 induction k with
 |zero=>exact h
 |succ k aA=>exact T9 _ _ _ (aA (by omega))
theorem mY{α:Type}{p:α→Bool}:∀ {l:List α},(∀y∈l,p y=true)→dw p l=true
 |[],_=>rfl
 |y::t,h=>by
  show cond (p y) (dw p t) false=true;rw[h y (by simp),cond_true];exact mY fun z bg=>h z (e9 _ bg)
theorem T_{P:Program}{m:Nat}(hm:m≤env.aV)(iX:ur P env)(eU:Md P env)(hex:zP P env)(sZ:P.follows .mixedOrders=true){g:Nat}{fn:ch}{body:bB}{aR:List AV}{r:AV}(hf:env.funcs g=some fn)(hb:fn.body=some body)
  (hn:(Nat.beq aR.length fn.lP&&Nat.ble aR.length fn.ntmps)=true) {ai:Nat} (al:ks ai r=true)
  (h:fY env 0 none body (tU fn aR) ⟨.nil,0⟩ (T4 env 0 fn (fun v aq=>∃a2,v= .ok a2∧freeze aq 0 m a2=some r))) (jx:AV.eqb m r r=true) (eO:Nat):SpecEntry P env eO g aR r:=by
 have h1:dr (fun F=>kl (exec env F 0 none body (tU fn aR) ⟨.nil,0⟩) (endF env 0 fn)) (fun J=>∃a2,J.1= .ok a2∧freeze J.2 0 m a2=some r):=
  dr.then (g:=fun x _=>endF env 0 fn x) h fun J ab=>by
   obtain⟨v,aq,h1,h2⟩:=ab;exact dr.one (fun _=>h1) h2
 obtain⟨iY,l,ar,h2,h3⟩:=h1;have b8:runF env (exec env iY) 0 g aR ⟨.nil,0⟩=some l:=by
  unfold runF;rw[hf];show(match fn.body with|none=>none|some body=>_)=_;rw[hb];show cond _ _ _=_;rw[hn,cond_true];exact h2 iY (o _)
 refine TM (aV:=env.aV) iX eU hex sZ b8 ?_ al eO;cases l with
 |nil=>exact absurd rfl ar
 |cons x t=>
  obtain⟨v,aE,ba⟩:=h3 x (by simp);obtain⟨ep,hH⟩:=x;have aE:ep= .ok v:=aE;replace ba:freeze hH 0 env.aV v=some r:=T7 hm ba;subst aE;show(match freeze hH 0 env.aV v with|none=>none|some v1=>cond (dw (w8 env.aV 0 v1) t) (some v1) none)=_;rw[ba];have:dw (w8 env.aV 0 r) t=true:=by
   have zo:∀y∈t,w8 env.aV 0 r y=true:=fun y aw=>by
    obtain⟨w,cr,de⟩:=h3 y (e9 _ aw);obtain⟨nQ,qH⟩:=y;have cr:nQ= .ok w:=cr;replace de:freeze qH 0 env.aV w=some r:=T7 hm de;subst cr;show(match freeze qH 0 env.aV w with|some aW=>AV.eqb env.aV aW r|none=>false)=true;rw[de];exact a7T hm jx
   exact mY zo
  show cond (dw (w8 env.aV 0 r) t) (some r) none=_;rw[this];rfl
end
def fq(f:Nat→AV)(d:Nat)(v:AV):Nat→AV:=fun i=>cond (Nat.beq i d) v (f i)
structure jD(D:List (Nat ⊕ (AV×List AV)))(n:Nat)(f:Nat→AV)(ai:Fr):Prop where
 get:∀i,ai.bk.get i=if i<n then some (f i) else none
 ds:ai.defers=D
 rc:ai.fA=false
theorem jD.put{D:List (Nat ⊕ (AV×List AV))}{n d:Nat}{f:Nat→AV}{ai:Fr}(h:jD D n f ai)(v:AV)(au:Nat.blt d n=true):jD D n (fq f d v) (ai.put (some d) v):=by
 have au:d<n:=eV au;refine⟨fun i=>?_,h.ds,h.rc⟩;show(ai.bk.set d v).get i=_;rw[aT.jg,h.get d,h.get i,if_pos au];by_cases hi:i=d
 ·subst hi;rw[if_pos rfl,if_pos au];show some v=some (cond (Nat.beq i i) v (f i));rw[fy];rfl
 ·rw[if_neg hi];have:fq f d v i=f i:=by
   show cond (Nat.beq i d) v (f i)=f i;cases hb:Nat.beq i d with
   |false=>rfl
   |true=>exact absurd (fm hb) hi
  rw[this]
def ik(env:Env)(n:Nat)(f:Nat→AV):aC→Option AV
 | .t i=>cond (Nat.blt i n) (some (f i)) none
 | .c v=>some v
 | .g g=>match env.pd g with|some v=>some (.cZ true v)|none=>none
theorem jD.ao{D:List (Nat ⊕ (AV×List AV))}{n:Nat}{f:Nat→AV}{ai:Fr}(h:jD D n f ai)(env:Env):evalA env ai.bk=ik env n f:=by
 funext x
 cases x with
 |t i=>
  show ai.bk.get i=cond (Nat.blt i n) (some (f i)) none;rw[h.get];by_cases hi:i<n
  ·rw[if_pos hi,show Nat.blt i n=true from eu hi];rfl
  ·rw[if_neg hi,show Nat.blt i n=false from by cases hb:Nat.blt i n with|false=>rfl|true=>exact absurd (eV hb) hi];rfl
 |c v=>rfl
 |g g=>rfl
def mq(g:Option (Nat×Bool))(n:Nat)(f:Nat→AV):Bool:=
 match g with
 |none=>true
 |some (d,w)=>cond (Nat.blt d n) (match f d with| .b x=>x==w|_=>false) false
theorem jD.wanted{D:List (Nat ⊕ (AV×List AV))}{n:Nat}{f:Nat→AV}{ai:Fr}(h:jD D n f ai)(g:Option (Nat×Bool)):wantedA g ai.bk=mq g n f:=by
 cases g with
 |none=>rfl
 |some p=>
  obtain⟨d,w⟩:=p;show(match ai.bk.get d with|some (.b x)=>x==w|_=>false)=cond (Nat.blt d n) _ false;rw[h.get];by_cases hi:d<n
  ·rw[if_pos hi,show Nat.blt d n=true from eu hi,cond_true];cases f d<;>rfl
  ·rw[if_neg hi,show Nat.blt d n=false from by cases hb:Nat.blt d n with|false=>rfl|true=>exact absurd (eV hb) hi];rfl
abbrev e5:=hQ→(Nat→AV)→af→Prop
def xW(D:List (Nat ⊕ (AV×List AV)))(n:Nat)(Q:e5):rK:=fun x ai I=>∃f,jD D n f ai∧Q x f I
def bl(env:Env)(aI:Option Nat)(D:List (Nat ⊕ (AV×List AV)))(n:Nat)(c:bB)(f:Nat→AV)(I:af)(Q:e5):Prop:=∀ai,jD D n f ai→fY env 0 aI c ai I (xW D n Q)
def e6(env:Env)(aI:Option Nat)(D:List (Nat ⊕ (AV×List AV)))(n:Nat)(ops:List a1)(f:Nat→AV)(I:af)(Q:e5):Prop:=∀ai,jD D n f ai→kt env 0 aI.isNone ops ai I (xW D n Q)
abbrev GoF(env:Env):=bl env none []
section
variable {env:Env}{aI:Option Nat}{D:List (Nat ⊕ (AV×List AV))}{n:Nat}{f:Nat→AV}{I:af}{Q:e5}
theorem bl.mono{c:bB}{ob:e5}(h:bl env aI D n c f I Q)(hq:∀x f I,Q x f I→ob x f I):bl env aI D n c f I ob:=fun ai bY=>(h ai bY).mono fun _ _ _ ⟨f,h1,h2⟩=>⟨f,h1,hq _ _ _ h2⟩
theorem GoF.skip(h:Q .normal f I):bl env aI D n .skip f I Q:=fun _ bY=>fY.skip ⟨f,bY,h⟩
theorem GoF.ret(h:Q .ret f I):bl env aI D n .ret f I Q:=fun _ bY=>fY.ret ⟨f,bY,h⟩
theorem GoF.exit{id:Nat}(h:Q (.exit id) f I):bl env aI D n (.exit id) f I Q:=fun _ bY=>fY.exit ⟨f,bY,h⟩
theorem GoF.region{ops:List a1}(h:e6 env aI D n ops f I Q):bl env aI D n (.region ops) f I Q:=fun ai bY=>fY.region (h ai bY)
theorem GoF.seq{a b:bB}(h:bl env aI D n a f I (fun x f I=>match x with| .normal=>bl env aI D n b f I Q|x=>Q x f I)):bl env aI D n (.seq a b) f I Q:=fun ai bY=>fY.seq ((h ai bY).mono fun x ai I ⟨f,h1,h2⟩=>by
 cases x with
 |normal=>exact h2 ai h1
 |exit i=>exact⟨f,h1,h2⟩
 |ret=>exact⟨f,h1,h2⟩
 |panic v=>exact⟨f,h1,h2⟩)
theorem GoF.block{a:bB}{id:Nat}(h:bl env aI D n a f I (fun x f I=>match x with| .exit j=>cond (Nat.beq j id) (Q .normal f I) (Q (.exit j) f I)|x=>Q x f I)):bl env aI D n (.block id a) f I Q:=fun ai bY=>fY.block ((h ai bY).mono fun x ai I ⟨f,h1,h2⟩=>by
 cases x with
 |normal=>exact⟨f,h1,h2⟩
 |exit i=>
  have h2:cond (Nat.beq i id) (Q .normal f I) (Q (.exit i) f I):=h2;show if i=id then xW D n Q .normal ai I else xW D n Q (.exit i) ai I
  cases hb:Nat.beq i id with
  |false=>rw[if_neg (fun h=>by rw[h,fy] at hb;cases hb)];rw[hb] at h2;exact⟨f,h1,h2⟩
  |true=>rw[if_pos (fm hb)];rw[hb] at h2;exact⟨f,h1,h2⟩
 |ret=>exact⟨f,h1,h2⟩
 |panic v=>exact⟨f,h1,h2⟩)
theorem GoF.z6{J:aC}{a b:bB}{t:Bool}(ab:ik env n f J=some (.b t))(ht:t=true→bl env aI D n a f I Q)(hf:t=false→bl env aI D n b f I Q):bl env aI D n (.cond J a b) f I Q:=fun ai bY=>
 fY.z6 (by rw[bY.ao];exact ab) (fun h=>ht h ai bY) (fun h=>hf h ai bY)
theorem GoF.loop{a:bB}(jQ:Nat→(Nat→AV)→af→Prop)(aZ:∀m f I,jQ m f I→bl env aI D n a f I (fun x dq aq=>match x with| .normal=>∃aH,aH<m∧jQ aH dq aq|x=>Q x dq aq))(m:Nat)(h:jQ m f I):bl env aI D n (.loop a) f I Q:=fun ai bY=>
 fY.loop (Q:=xW D n Q) (fun m ai I=>∃f,jD D n f ai∧jQ m f I) (fun m ai I ⟨f,h1,h2⟩=>(aZ m f I h2 ai h1).mono fun x c_ aq ⟨dq,h3,aE⟩=>by
  cases x with
  |normal=>obtain⟨aH,ba,cr⟩:=aE;exact⟨aH,ba,dq,h3,cr⟩
  |exit i=>exact⟨dq,h3,aE⟩
  |ret=>exact⟨dq,h3,aE⟩
  |panic v=>exact⟨dq,h3,aE⟩) m ai I ⟨f,bY,h⟩
theorem gV.nil(h:Q .normal f I):e6 env aI D n [] f I Q:=fun _ bY=>kt.nil ⟨f,bY,h⟩
theorem gV.val{d:Nat}{op:AOp}{g:Option (Nat×Bool)}{wn:List Nat}{ops:List a1}{v:AV}{aq:af}(au:Nat.blt d n=true)(hw:mq g n f=true)(ab:opx 0 (ik env n f) I op=some (.val v aq))(h:e6 env aI D n ops (fq f d v) aq Q):
  e6 env aI D n (⟨some d,op,g,wn⟩::ops) f I Q:=fun ai bY=>kt.val (by rw[bY.wanted];exact hw) (by rw[bY.ao];exact ab) (h _ (bY.put v au))
theorem gV.uw{op:AOp}{g:Option (Nat×Bool)}{wn:List Nat}{ops:List a1}{v:AV}{aq:af}(hw:mq g n f=true)(ab:opx 0 (ik env n f) I op=some (.val v aq))(h:e6 env aI D n ops f aq Q):
  e6 env aI D n (⟨none,op,g,wn⟩::ops) f I Q:=fun ai bY=>kt.val (by rw[bY.wanted];exact hw) (by rw[bY.ao];exact ab) (h _ bY)
theorem gV.off{d:Nat}{op:AOp}{g:Option (Nat×Bool)}{wn:List Nat}{ops:List a1}(au:Nat.blt d n=true)(hw:mq g n f=false)(h:e6 env aI D n ops (fq f d dR) I Q):
  e6 env aI D n (⟨some d,op,g,wn⟩::ops) f I Q:=fun ai bY=>kt.off (by rw[bY.wanted];exact hw) (h _ (bY.put _ au))
theorem gV.spec{d:Nat}{op:AOp}{g:Option (Nat×Bool)}{wn:List Nat}{ops:List a1}{fn:Nat}{args aR:List AV}{r:AV}(au:Nat.blt d n=true)(hw:mq g n f=true)(ab:opx 0 (ik env n f) I op=some (.call (.f (.func fn) [] []) args))
  (he:env.ext fn=0) (hp:env.pure fn=true) (ha:mapO (bh I env.aV) args=some aR) (aj:env.spec fn aR=some r) (h:e6 env aI D n ops (fq f d r) I Q):e6 env aI D n (⟨some d,op,g,wn⟩::ops) f I Q:=fun ai bY=>
 kt.call (by rw[bY.wanted];exact hw) (by rw[bY.ao];exact ab) (b9.spec he hp (by simpa using ha) aj (h _ (bY.put r au)))
end
def sat:List (Nat×AV)→(Nat→AV)→Prop
 |[],_=>True
 |(i,v)::L,f=>f i=v∧sat L f
def bC:List (Nat×AV)→(Nat→AV)→Nat→AV
 |[],f=>f
 |(i,v)::L,f=>fq (bC L f) i v
theorem a7U{f:Nat→AV}{i:Nat}{v:AV}(h:f i=v):fq f i v=f:=by
 funext j
 show cond (Nat.beq j i) v (f j)=f j;cases hb:Nat.beq j i with
 |false=>rfl
 |true=>rw[fm hb,h];rfl
theorem Da:∀ {L:List (Nat×AV)} {f:Nat→AV},sat L f→bC L f=f
 |[],_,_=>rfl
 |(i,v)::L,f,⟨h1,h2⟩=>by
  show fq (bC L f) i v=f;rw[Da h2,a7U h1]
theorem GoF.norm{env:Env}{aI:Option Nat}{D:List (Nat ⊕ (AV×List AV))}{n:Nat}{c:bB}{f:Nat→AV}{I:af}{Q:e5}(L:List (Nat×AV))(aj:sat L f)(h:∀g,bl env aI D n c (bC L g) I Q):bl env aI D n c f I Q:=by
 rw[←Da aj];exact h f
section
variable {floor:Nat}{ao:aC→Option AV}{I:af}
theorem rL{ad:Option Nat}{a:aC}(p v:AV)(h1:ao a=some p)(h2:nS I ad p=some v):opx floor ao I (.load ad a)=some (.val v I):=by
 show(match ao a with|some p=>(match nS I ad p with|some v=>some (bq.val v I)|none=>none)|none=>none)=_;rw[h1];show(match nS I ad p with|some v=>some (bq.val v I)|none=>none)=_;rw[h2]
theorem jS{ad:Option Nat}{id off:Nat}{c:List AV}{v:AV}(h1:I.get id=some (.cells c))(h2:fI ad (c.drop off)=some v):nS I ad (.p (some (id,off)))=some v:=by
 show(match I.get id with|some (.cells c)=>fI ad (c.drop off)|_=>none)=_;rw[h1];exact h2
theorem a7V{ad:Option Nat}{x i:aC}(k:IntKind)(a:AV)(j:Nat)(v:AV)(h1:ao x=some a)(h2:ao i=some (.i k (Int.ofNat j)))(h3:idxSlA ad a j=some v):opx floor ao I (.cK ad x i)=some (.val v I):=by
 show(match ao x,ao i with|some x,some j=>(match natOf j with|some j=>(match idxSlA ad x j with|some v=>some (bq.val v I)|none=>none)|none=>none)|_,_=>none)=_;rw[h1,h2];show(match idxSlA ad a j with|some v=>some (bq.val v I)|none=>none)=_;rw[h3]
theorem Ua{J:Bool}{ad:Option Nat}{xs:List AV}{j:Nat}{v:AV}(h:nth xs j=some v):idxSlA ad (.a7 J ad xs) j=some (.cZ J v):=by
 show(if ad=ad then(match nth xs j with|some v=>some (AV.cZ J v)|none=>none) else none)=_;rw[if_pos rfl,h]
theorem Mk{op:BinOp}{x y:aC}(a b v:AV)(h1:ao x=some a)(h2:ao y=some b)(h3:binop op a b=some v):opx floor ao I (.bin op x y)=some (.val v I):=by
 show(match ao x,ao y with|some a,some b=>(match binop op a b with|some v=>some (bq.val v I)|none=>none)|_,_=>none)=_;rw[h1,h2];show(match binop op a b with|some v=>some (bq.val v I)|none=>none)=_;rw[h3]
end
abbrev ay(n:Nat):AV:=.i .i64 (Int.ofNat n)
theorem Ub{α:Type}:∀(l:List α) (k:Nat) (t:aT α) (i:Nat),(aT.lay l k t).get i=if k≤i then(match l[i-k]? with|some x=>(t.get i).map (fun _=>x)|none=>t.get i) else t.get i
 |[],k,t,i=>by
  show t.get i=_;split<;>simp
 |x::l,k,t,i=>by
  show(aT.lay l (k+1) (t.set k x)).get i=_;rw[Ub l (k+1) (t.set k x) i,aT.jg];by_cases h1:k+1≤i
  ·have h2:k≤i:=by omega
   have h3:i≠k:=by omega
   have aE:(x::l)[i-k]? =l[i-(k+1)]? :=by
    rw[show i-k=(i-(k+1))+1 from by omega];rfl
   rw[if_pos h1,if_pos h2,if_neg h3,aE]
  ·rw[if_neg h1];by_cases h2:i=k
   ·subst h2;rw[if_pos rfl,if_pos (o _),kj];rfl
   ·rw[if_neg h2,if_neg (by omega)]
def eS(args:List AV):Nat→AV:=fun i=>args.getD i dR
theorem z7{fn:ch}{args:List AV}(h:args.length≤fn.ntmps):jD [] fn.ntmps (eS args) (tU fn args):=by
 refine⟨fun i=>?_,rfl,rfl⟩;show(aT.lay args 0 (aT.full fn.ntmps dR fn.ntmps)).get i=_;rw[Ub,if_pos (hv _),F1];by_cases hi:i<fn.ntmps
 ·rw[if_pos hi,aT.Fy _ _ _ _ hi (o _)];show _=some (args.getD i dR);rw[fU];cases args[i]? <;>rfl
 ·rw[if_neg hi,q7 (by omega)];cases hg:(aT.full fn.ntmps dR fn.ntmps).get i with
  |none=>rfl
  |some y=>exact absurd (aT.Fz _ _ _ _ _ hg).2 hi
theorem a7W{env:Env}{floor:Nat}{fn:ch}{n d:Nat}{f:Nat→AV}{ai:Fr}{I:af}(h1:jD [] n f ai)(eM:fn.results=[(d,none)])(au:Nat.blt d n=true):endF env floor fn (.ret,ai,I)=some [(.ok (f d),I)]:=by
 show(match leave floor (callD env floor) ai.defers none I with
  |none=>none
  |some (some v,I)=>some [(dM.err v,I)]
  |some (none,I)=>match resultsOf I ai.bk fn.results with
   |some v=>some [(.ok v,I)]
   |none=>none)=_
 rw[h1.ds];show(match resultsOf I ai.bk fn.results with|some v=>some [(dM.ok v,I)]|none=>none)=_;rw[eM];have hg:=h1.get d;have Ml:d<n:=eV au;rw[if_pos Ml] at hg;have:resultsOf I ai.bk [(d,none)]=some (f d):=by
  unfold resultsOf;have aM:resultOf I ai.bk (d,none)=some (f d):=by
   unfold resultOf;rw[hg]
  have e:mapO (resultOf I ai.bk) [(d,none)]=some [f d]:=by
   unfold mapO;simp only[aM]
  rw[e]
 rw[this]
open Classical in
def Db(K:Nat→List AV→AV→Prop):Nat→List AV→Option AV:=fun g aR=>if h:∃r,K g aR r then some (Classical.choose h) else none
theorem Uc{K:Nat→List AV→AV→Prop}(hf:∀g aR r bs,K g aR r→K g aR bs→r=bs){g:Nat}{aR:List AV}{r:AV}(h:K g aR r):Db K g aR=some r:=by
 have hex:∃r,K g aR r:=⟨r,h⟩
 unfold Db;rw[dif_pos hex];exact congrArg some (hf g aR _ _ (R3 hex) h)
theorem Ud{K:Nat→List AV→AV→Prop}{g:Nat}{aR:List AV}{r:AV}(h:Db K g aR=some r):K g aR r:=by
 unfold Db at h;split at h
 ·rename_i hex;cases h;exact R3 hex
 ·cases h
def dW.a4(b:dW)(K:Nat→List AV→AV→Prop):Env:={funcs:=b.funcs.get,pd:=b.pd,pure:=b.pure,spec:=Db K,aV:=b.aV+1000,ext:=b.ext,vo:=b.vo}
def Mm(P:Program)(b:dW)(K:Nat→List AV→AV→Prop):Prop:=∀g aR r,K g aR r→∀eO,SpecEntry P (b.env []) eO g aR r
section
variable {env:Env}{aI:Option Nat}{D:List (Nat ⊕ (AV×List AV))}{n:Nat}{f:Nat→AV}{I:af}{Q:(Nat→AV)→Prop}
def swapT(ops:List a1):Bool:=match ops.reverse with|y::_=>(match y.lg with|[]=>true|_::_=>false)|[]=>true
theorem a7X{env:Env}{ak:aT AV}{ops:List a1}(h:swapT ops=true):swapOk env ak ops=true:=by
 unfold swapT at h;unfold swapOk;cases al:ops.reverse with
 |nil=>rfl
 |cons y t=>
  rw[al] at h;cases t with
  |nil=>rfl
  |cons x t=>
   cases hw:y.lg with
   |nil=>simp only[hw]
   |cons a l=>simp only[hw] at h;cases h
theorem G0{α:Type}{p:α→Bool}{l:List α}(h:dw p l=true):∀x∈l,p x=true:=fun x hx=>mg h x hx
end
def Snp(n:Nat)(v:AV):Prop:=∀I,bh I n v=some v
theorem z8{f:AV→Option AV}:∀ {l:List AV},(∀x∈l,f x=some x)→mapO f l=some l
 |[],_=>rfl
 |x::l,h=>by rw[jR,h x (by simp),z8 fun y aw=>h y (e9 _ aw)]
theorem Ue{α:Type}{f:AV→Option AV}{g h:α→AV}:∀ {l:List α},(∀x∈l,f (g x)=some (h x))→mapO f (l.map g)=some (l.map h)
 |[],_=>rfl
 |x::l,hx=>by rw[jK,jR,hx x (by simp),Ue fun y aw=>hx y (e9 _ aw)];rfl
theorem rM{α:Type}{f:α→α→Bool}:∀ {l:List α},(∀x∈l,f x x=true)→gb f l l=true
 |[],_=>rfl
 |x::l,h=>by
  show cond (f x x) (gb f l l) false=true;rw[h x (by simp),cond_true];exact rM fun y aw=>h y (e9 _ aw)
theorem uE:∀l,eqL l l=true
 |[]=>rfl
 |x::l=>by
  show cond (Nat.beq x x) (eqL l l) false=true;rw[fy,cond_true,uE l]
theorem Snp.eqb:∀(n:Nat) (v:AV),Snp n v→AV.eqb n v v=true
 |0,v,h=>by have:=h ⟨.nil,0⟩;cases this
 |n+1,v,h=>by
  have aA:=Snp.eqb n;cases v with
  |b x=>show(x==x)=true;simp
  |i k x=>show(decide (k=k)&&decide (x=x))=true;simp
  |s l=>exact uE l
  |p a=>cases a with
   |none=>rfl
   |some a=>have:=h ⟨.nil,0⟩;cases this
  |cZ J v=>have:=h ⟨.nil,0⟩;cases this
  |ak a b c d e=>
   have aj:=h ⟨.nil,0⟩;have:bh ⟨.nil,0⟩ (n+1) (.ak a b c d e)=(match readList ⟨.nil,0⟩ (.ak a b c d e) with|none=>none|some xs=>match mapO (bh ⟨.nil,0⟩ n) xs with|none=>none|some xs=>some (AV.a7 true d xs)):=rfl;rw[this] at aj;split at aj
   ·cases aj
   ·split at aj<;>cases aj
  |aB=>rfl
  |a7 J ad xs=>
   have aj:=h ⟨.nil,0⟩;have e:bh ⟨.nil,0⟩ (n+1) (.a7 J ad xs)=(match mapO (bh ⟨.nil,0⟩ n) xs with|none=>none|some xs=>some (AV.a7 true ad xs)):=rfl;show((J==J)&&decide (ad=ad)&&gb (AV.eqb n) xs xs)=true;have hx:∀I,mapO (bh I n) xs=some xs:=fun I=>by
    have aj:=h I;have e:bh I (n+1) (.a7 J ad xs)=(match mapO (bh I n) xs with|none=>none|some xs=>some (AV.a7 true ad xs)):=rfl;rw[e] at aj;cases hm:mapO (bh I n) xs with
    |none=>rw[hm] at aj;cases aj
    |some aO=>rw[hm] at aj;simp only[a6,AV.a7.injEq] at aj;rw[aj.2.2]
   have hall:gb (AV.eqb n) xs xs=true:=rM fun x gp=>aA x fun I=>by
    have:=hx I;exact xX this x gp
   simp[hall]
  |m r=>cases r with
   |none=>rfl
   |some r=>have:=h ⟨.nil,0⟩;cases this
  |f a b c=>have:=h ⟨.nil,0⟩;cases this
  |iP=>rfl
  |it t v=>
   show(Nat.beq t t&&AV.eqb n v v)=true;rw[fy,jU];refine aA v fun I=>?_;have aj:=h I;have e:bh I (n+1) (.it t v)=(match bh I n v with|none=>none|some v=>some (AV.it t v)):=rfl;rw[e] at aj;cases hm:bh I n v with
   |none=>rw[hm] at aj;cases aj
   |some y=>rw[hm] at aj;simp only[a6,AV.it.injEq,true_and] at aj;rw[aj]
  |fz=>rfl
  |ag l=>
   show gb (AV.eqb n) l l=true;refine rM fun x gp=>aA x fun I=>?_;have aj:=h I;have e:bh I (n+1) (.ag l)=(match mapO (bh I n) l with|none=>none|some l=>some (AV.ag l)):=rfl;rw[e] at aj;cases hm:mapO (bh I n) l with
   |none=>rw[hm] at aj;cases aj
   |some aO=>rw[hm] at aj;simp only[a6,AV.ag.injEq] at aj;subst aj;exact xX hm x gp
  |bJ l=>
   show gb (AV.eqb n) l l=true;refine rM fun x gp=>aA x fun I=>?_;have aj:=h I;have e:bh I (n+1) (.bJ l)=(match mapO (bh I n) l with|none=>none|some l=>some (AV.bJ l)):=rfl;rw[e] at aj;cases hm:mapO (bh I n) l with
   |none=>rw[hm] at aj;cases aj
   |some aO=>rw[hm] at aj;simp only[a6,AV.bJ.injEq] at aj;subst aj;exact xX hm x gp
  |h4 k d j=>show(decide (k=k)&&(Nat.beq d d&&Nat.beq j j))=true;simp
  |gD l=>exact rM fun x _=>uE x
  |iQ hi=>show(hi==hi)=true;simp
  |y i=>exact fy i
  |g1 J i=>show((J==J)&&Nat.beq i i)=true;simp
  |fo i=>exact fy i
  |gv i j=>show(Nat.beq i i&&Nat.beq j j)=true;simp
  |ix J ad xs=>exact absurd (h (default:af)) (by rw[show bh (default:af) (n+1) (.ix J ad xs)=none from rfl];simp)
where
 xX {f:AV→Option AV}:∀ {l:List AV},mapO f l=some l→∀x∈l,f x=some x:=fun {l}=>by
  induction l with
  |nil=>intro _ x hx;simp at hx
  |cons a l jd=>
   intro h x hx;rw[jR] at h;cases ha:f a with
   |none=>rw[ha] at h;cases h
   |some y=>
    rw[ha] at h;cases ar:mapO f l with
    |none=>simp only[ar] at h;cases h
    |some aO=>
     simp only[ar,a6,pw] at h;obtain⟨h1,h2⟩:=h;subst h1;subst h2;rcases cH.1 hx with rfl|hx
     ·exact ha
     ·exact jd ar x hx
theorem Uf{a b:Nat}:decide (Int.ofNat a=Int.ofNat b)=decide (a=b):=decide_eq_decide.2 ⟨vD,fun h=>by rw[h]⟩
theorem a7Y{k:IntKind}{a b:Nat}:binop .eql (.i k (Int.ofNat a)) (.i k (Int.ofNat b))=some (.b (decide (a=b))):=by
 rw[←Uf];show(if k=k then binI .eql k (Int.ofNat a) (Int.ofNat b) else none)=_;rw[if_pos rfl];rfl
theorem a7Z{k:IntKind}{a b:Nat}:binop .neq (.i k (Int.ofNat a)) (.i k (Int.ofNat b))=some (.b (!decide (a=b))):=by
 rw[←Uf];show(if k=k then binI .neq k (Int.ofNat a) (Int.ofNat b) else none)=_;rw[if_pos rfl];rfl
def cmpO(op:BinOp)(a b:Nat):Option AV:=
 match op with
 | .eql=>some (.b (decide (a=b)))
 | .neq=>some (.b (!decide (a=b)))
 | .lss=>some (.b (decide (a<b)))
 | .leq=>some (.b (decide (a≤b)))
 | .gtr=>some (.b (decide (b<a)))
 | .geq=>some (.b (decide (b≤a)))
 |_=>none
theorem G1{op:BinOp}{k:IntKind}{a b:Nat}{v:AV}(h:cmpO op a b=some v):binop op (.i k (Int.ofNat a)) (.i k (Int.ofNat b))=some v:=by
 cases op with
 |eql=>rw[a7Y];exact h
 |neq=>rw[a7Z];exact h
 |lss=>
  rw[←h];show(if k=k then binI .lss k (Int.ofNat a) (Int.ofNat b) else none)=_;rw[if_pos rfl];show some (AV.b (decide ((Int.ofNat a)<Int.ofNat b)))=some (.b (decide (a<b)))
  congr 2;simp
 |leq=>
  rw[←h];show(if k=k then binI .leq k (Int.ofNat a) (Int.ofNat b) else none)=_;rw[if_pos rfl];show some (AV.b (decide ((Int.ofNat a)≤Int.ofNat b)))=some (.b (decide (a≤b)))
  congr 2;simp
 |gtr=>
  rw[←h];show(if k=k then binI .gtr k (Int.ofNat a) (Int.ofNat b) else none)=_;rw[if_pos rfl];show some (AV.b (decide ((Int.ofNat b)<Int.ofNat a)))=some (.b (decide (b<a)))
  congr 2;simp
 |geq=>
  rw[←h];show(if k=k then binI .geq k (Int.ofNat a) (Int.ofNat b) else none)=_;rw[if_pos rfl];show some (AV.b (decide ((Int.ofNat b)≤Int.ofNat a)))=some (.b (decide (b≤a)))
  congr 2;simp
 |_=>cases h
theorem Ug{n:Nat}(h:n<2^63):wrapN .i64 (Int.ofNat n)=Int.ofNat n:=by
 show cond (Nat.blt n 9223372036854775808) (Int.ofNat n) _=_;rw[show Nat.blt n 9223372036854775808=true from eu (by omega)];rfl
theorem Dc{a b:Nat}(h:a+b<2^63):binop .add (ay a) (ay b)=some (ay (a+b)):=by
 show some (AV.i .i64 (wrapN .i64 (Int.ofNat (a+b))))=_;rw[Ug h]
theorem G2{a b:Nat}(hb:b≤a)(h:a<2^63):binop .sub (ay a) (ay b)=some (ay (a-b)):=by
 show some (AV.i .i64 (wrapN .i64 (Int.ofNat a-Int.ofNat b)))=_;have:Int.ofNat a-Int.ofNat b=Int.ofNat (a-b):=by simp only[tR];omega
 rw[this,Ug (by omega)]
def a8a:AOp→Bool
 | .bin _ _ _=>false
 | .conv _ _=>false
 | .append _ _ _ _=>false
 | .buildSlice _ _ _ _=>false
 | .neg _=>false
 |_=>true
section
variable {env:Env}{aI:Option Nat}{D:List (Nat ⊕ (AV×List AV))}{n:Nat}{f:Nat→AV}{I:af}{Q:e5}
theorem gV.go{d:Nat}{op:AOp}{g:Option (Nat×Bool)}{wn:List Nat}{ops:List a1}{v:AV}{aq:af}(_hb:a8a op=true)(au:Nat.blt d n=true)(hw:mq g n f=true)(ab:opx 0 (ik env n f) I op=some (.val v aq))(h:e6 env aI D n ops (fq f d v) aq Q):
  e6 env aI D n (⟨some d,op,g,wn⟩::ops) f I Q:=gV.val au hw ab h
theorem gV.bin{d:Nat}{op:BinOp}{x y:aC}{g:Option (Nat×Bool)}{wn:List Nat}{ops:List a1}{a b v:AV}(au:Nat.blt d n=true)(hw:mq g n f=true)(h1:ik env n f x=some a)(h2:ik env n f y=some b)(h3:binop op a b=some v)
  (h:e6 env aI D n ops (fq f d v) I Q):e6 env aI D n (⟨some d,.bin op x y,g,wn⟩::ops) f I Q:=gV.val au hw (Mk a b v h1 h2 h3) h
theorem gV.cmp{d:Nat}{op:BinOp}{x y:aC}{g:Option (Nat×Bool)}{wn:List Nat}{ops:List a1}{k:IntKind}{a b:Nat}{v:AV}(au:Nat.blt d n=true)(hw:mq g n f=true)(h1:ik env n f x=some (.i k (Int.ofNat a)))(h2:ik env n f y=some (.i k (Int.ofNat b)))(h3:cmpO op a b=some v)
  (h:e6 env aI D n ops (fq f d v) I Q):e6 env aI D n (⟨some d,.bin op x y,g,wn⟩::ops) f I Q:=gV.val au hw (Mk _ _ v h1 h2 (G1 h3)) h
theorem Uh{ao:aC→Option AV}{k:Nat}{x:aC}{v:AV}{m:Nat}(h1:ao x=some v)(h2:lenA I k v=some m):opx 0 ao I (.len k x)=some (.val (ay m) I):=by
 show(match ao x with|some x=>(match lenA I k x with|some n=>some (bq.val (ay n) I)|none=>lenU I k x)|none=>none)=_;rw[h1];show(match lenA I k v with|some n=>some (bq.val (ay n) I)|none=>lenU I k v)=_;rw[h2]
theorem a8b{ao:aC→Option AV}{ad:Option Nat}{a x:aC}{id off:Nat}{v:AV}{c aQ:List AV}(aj:I.get id=some (.cells c))(h1:ao a=some (.p (some (id,off))))(h2:ao x=some v)(dV:conf ad v=true)(ah:storeCells c off v.cells=some aQ):
  opx 0 ao I (.store ad a x)=some (.val dR (I.set id (.cells aQ))):=by
 show(match ao a,ao x with
  |some (.p (some (id,off))),some v=>
   if Nat.blt id 0 then none else
   if conf ad v then
    match I.get id with
    |some (.cells c)=>match storeCells c off v.cells with
     |some c=>some (bq.val dR (I.set id (.cells c)))
     |none=>none
    |some (.eT c r)=>pf I id c r off v.cells
    |_=>none
   else none
  |_,_=>none)=_
 rw[h1,h2];show(if Nat.blt id 0 then none else if conf ad v then(match I.get id with
    |some (.cells c)=>match storeCells c off v.cells with
     |some c=>some (bq.val dR (I.set id (.cells c)))
     |none=>none
    |some (.eT c r)=>pf I id c r off v.cells
    |_=>none) else none)=_
 rw[if_neg (by simp[Nat.blt,Nat.ble]),if_pos dV,aj];show(match storeCells c off v.cells with|some c=>some (bq.val dR (I.set id (.cells c)))|none=>none)=_;rw[ah]
theorem j_{id:Nat}{J b7:AO}(aj:I.get id=some J):(I.set id b7).get id=some b7∧(∀i J,i≠id→I.get i=some J→(I.set id b7).get i=some J):=by
 have bZ:=af.bW aj;refine⟨by rw[af.jg trivial _ bZ,if_pos rfl],fun i J hi ab=>?_⟩;rw[af.jg trivial _ bZ,if_neg hi];exact ab
theorem storeAll{c v:List AV}(h:v.length=c.length):storeCells c 0 v=some v:=by
 unfold storeCells;rw[if_pos (eu (by omega)),hO,h,Bw];simp
theorem gV.known{b:dW}{K:Nat→List AV→AV→Prop}{d:Nat}{op:AOp}{g:Option (Nat×Bool)}{wn:List Nat}{ops:List a1}{fn:Nat}{args aR:List AV}{r:AV}(hf:∀g aR r bs,K g aR r→K g aR bs→r=bs)(he:b.ext fn=0)(hp:b.pure fn=true)(cl:K fn aR r)
  (au:Nat.blt d n=true) (hw:mq g n f=true) (ab:opx 0 (ik (b.a4 K) n f) I op=some (.call (.f (.func fn) [] []) args)) (ha:mapO (bh I (b.aV+1000)) args=some aR) (h:e6 (b.a4 K) aI D n ops (fq f d r) I Q):e6 (b.a4 K) aI D n (⟨some d,op,g,wn⟩::ops) f I Q:=
 gV.spec au hw ab he hp ha (Uc hf cl) h
theorem gO{n:Nat}{a:AV}{x:AV}(h:bh I n a=some x):mapO (bh I n) [a]=some [x]:=by rw[jR,h];rfl
theorem g9{n:Nat}{a b:AV}{x y:AV}(h:bh I n a=some x)(h2:bh I n b=some y):mapO (bh I n) [a,b]=some [x,y]:=by rw[jR,h,gO h2]
end
def slA(J:Bool)(ad:Option Nat):List AV→AV
 |[]=>.aB
 |x::l=>.a7 J ad (x::l)
theorem a8c(I:af)(J:Bool)(ad:Option Nat)(l:List AV):lenA I 1 (slA J ad l)=some l.length:=by cases l<;>rfl
theorem G3{α:Type}:∀ {l:List α} {i:Nat} (h:i<l.length),nth l i=some l[i]
 |[],i,h=>by simp at h
 |x::l,0,_=>rfl
 |x::l,i+1,h=>G3 (l:=l) (by simpa using h)
theorem a8d{J:Bool}{ad:Option Nat}{l:List AV}{i:Nat}(h:i<l.length):idxSlA ad (slA J ad l) i=some (.cZ J l[i]):=by
 cases l with
 |nil=>simp at h
 |cons x l=>exact Ua (G3 h)
theorem Ui{α:Type}{I:af}{J:Bool}{ad:Option Nat}{l:List α}{f:α→AV}:lenA I 1 (slA J ad (l.map f))=some l.length:=by rw[a8c,aJ]
theorem Mn{α:Type}{J:Bool}{ad:Option Nat}{l:List α}{f:α→AV}{i:Nat}(h:i<l.length):idxSlA ad (slA J ad (l.map f)) i=some (.cZ J (f l[i])):=by rw[a8d (by simpa using h),fQ]
theorem s3{ad:Option Nat}{id off len j:Nat}{cap:Option Nat}(h:j<len):idxSlA ad (.ak id off len ad cap) j=some (.p (some (id,off+j*shN ad))):=by
 show(if Nat.blt j len&&decide (ad=ad) then some (AV.p (some (id,off+j*shN ad))) else none)=_;rw[show Nat.blt j len=true from eu h];simp
theorem a8e{k:Nat}{x:AV}(h:conf (some k) x=true):∃l,x= .ag l∧l.length=k:=by
 cases x with
 |ag l=>exact⟨l,rfl,fm h⟩
 |_=>cases h
theorem a8f{x:AV}(h:conf none x=true):x.cells=[x]:=by
 cases x with
 |ag l=>cases h
 |_=>rfl
theorem G4{ad:Option Nat}{x:AV}{r:List AV}(h:conf ad x=true):fI ad (x.cells++r)=some x∧(x.cells++r).drop (shN ad)=r:=by
 cases ad with
 |none=>rw[a8f h];exact⟨rfl,rfl⟩
 |some k=>
  obtain⟨l,rfl,ar⟩:=a8e h;subst ar;refine⟨?_,?_⟩
  ·show(let m:=(l++r).take l.length;if m.length=l.length then some (AV.ag m) else none)=_;simp
  ·show(l++r).drop l.length=r;simp
theorem Dd{ad:Option Nat}:∀ {xs:List AV} {r:List AV},(∀x∈xs,conf ad x=true)→elems ad xs.length (xs.flatMap AV.cells++r)=some xs
 |[],r,_=>rfl
 |x::xs,r,h=>by
  have hx:=h x (by simp);rw[fH,elems_succ,eG,iw,(G4 hx).1,(G4 hx).2,Dd fun y aw=>h y (e9 _ aw)]
def AV.bn :AV→Option Nat
 | .ak id _ _ _ _=>some id
 |_=>none
end
section
open Go.RowKit
inductive Tm where
 |mk (var:Bool) (name:List Nat) (args:Option (List Tm))
inductive Fm where
 |mk (op:Nat) (name:List Nat) (args:Option (List Tm)) (sub:Option (List Fm))
def Tm.var:Tm→Bool| .mk v _ _=>v
def Tm.name:Tm→List Nat| .mk _ n _=>n
def Tm.c3:Tm→Option (List Tm)| .mk _ _ a=>a
def Tm.args(t:Tm):List Tm:=t.c3.getD []
def Fm.op:Fm→Nat| .mk J _ _ _=>J
def Fm.name:Fm→List Nat| .mk _ n _ _=>n
def Fm.c3:Fm→Option (List Tm)| .mk _ _ a _=>a
def Fm.args(f:Fm):List Tm:=f.c3.getD []
def Fm.bm:Fm→Option (List Fm)| .mk _ _ _ s=>s
def Fm.sub(f:Fm):List Fm:=f.bm.getD []
def osl(J:Bool)(ad:Option Nat):Option (List AV)→AV
 |none=>.aB
 |some l=>.a7 J ad l
mutual
def Tm.cells(J:Bool):Tm→List AV
 | .mk v n none=>[.b v,.s n,.aB]
 | .mk v n (some l)=>[.b v,.s n,.a7 J (some 3) (Tm.lA J l)]
def Tm.lA(J:Bool):List Tm→List AV
 |[]=>[]
 |t::l=>.ag (t.cells J)::Tm.lA J l
end
def Tm.A(J:Bool)(t:Tm):AV:=.ag (t.cells J)
theorem Tm.s4(J:Bool):∀l,Tm.lA J l=l.map (Tm.A J)
 |[]=>by simp[Tm.lA]
 |t::l=>by rw[Tm.lA,Tm.s4 J l];rfl
def cN(J:Bool)(l:Option (List Tm)):AV:=osl J (some 3) (l.map fun l=>l.map (Tm.A J))
theorem Tm.kM(J:Bool)(t:Tm):t.cells J=[.b t.var,.s t.name,cN J t.c3]:=by
 obtain⟨v,n,a⟩:=t;cases a with
 |none=>rw[Tm.cells];rfl
 |some l=>rw[Tm.cells,Tm.s4];rfl
mutual
def Fm.cells(J:Bool):Fm→List AV
 | .mk op n a none=>[.i .u8 (Int.ofNat op),.s n,cN J a,.aB]
 | .mk op n a (some l)=>[.i .u8 (Int.ofNat op),.s n,cN J a,.a7 J (some 4) (Fm.lA J l)]
def Fm.lA(J:Bool):List Fm→List AV
 |[]=>[]
 |f::l=>.ag (f.cells J)::Fm.lA J l
end
def Fm.A(J:Bool)(f:Fm):AV:=.ag (f.cells J)
theorem Fm.s4(J:Bool):∀l,Fm.lA J l=l.map (Fm.A J)
 |[]=>by simp[Fm.lA]
 |f::l=>by rw[Fm.lA,Fm.s4 J l];rfl
def dz(J:Bool)(l:Option (List Fm)):AV:=osl J (some 4) (l.map fun l=>l.map (Fm.A J))
theorem Fm.kM(J:Bool)(f:Fm):f.cells J=[.i .u8 (Int.ofNat f.op),.s f.name,cN J f.c3,dz J f.bm]:=by
 obtain⟨op,n,a,s⟩:=f;cases s with
 |none=>rw[Fm.cells];rfl
 |some l=>rw[Fm.cells,Fm.s4];rfl
mutual
theorem Tm.G5(J:Bool):∀(t u:Tm),t.cells J=u.cells J→t=u
 | .mk v n none,.mk a2 pH none,h=>by simp only[Tm.cells,pw,AV.b.injEq,AV.s.injEq] at h;rw[h.1,h.2.1]
 | .mk v n none,.mk a2 pH (some l),h=>by simp[Tm.cells] at h
 | .mk v n (some l),.mk a2 pH none,h=>by simp[Tm.cells] at h
 | .mk v n (some l),.mk a2 pH (some cF),h=>by
  simp only[Tm.cells,pw,AV.b.injEq,AV.s.injEq,AV.a7.injEq,true_and,and_true] at h;rw[h.1,h.2.1,Tm.z9 J l cF h.2.2]
theorem Tm.z9(J:Bool):∀(l m:List Tm),Tm.lA J l=Tm.lA J m→l=m
 |[],[],_=>rfl
 |[],_::_,h=>by simp[Tm.lA] at h
 |_::_,[],h=>by simp[Tm.lA] at h
 |a::l,b::m,h=>by
  simp only[Tm.lA,pw,AV.ag.injEq] at h;rw[Tm.G5 J a b h.1,Tm.z9 J l m h.2]
end
theorem G6{J:Bool}{a b:Option (List Tm)}(h:cN J a=cN J b):a=b:=by
 cases a with
 |none=>cases b with
  |none=>rfl
  |some m=>cases h
 |some l=>cases b with
  |none=>cases h
  |some m=>
   simp only[cN,osl,wj,AV.a7.injEq,true_and] at h;rw[←Tm.s4,← Tm.s4] at h;rw[Tm.z9 J l m h]
mutual
theorem Fm.G5(J:Bool):∀(f g:Fm),f.cells J=g.cells J→f=g
 | .mk p n a none,.mk p' pH cd none,h=>by simp only[Fm.cells,pw,AV.i.injEq,AV.s.injEq,true_and] at h;rw[vD h.1,h.2.1,G6 h.2.2.1]
 | .mk p n a none,.mk p' pH cd (some l),h=>by simp[Fm.cells] at h
 | .mk p n a (some l),.mk p' pH cd none,h=>by simp[Fm.cells] at h
 | .mk p n a (some l),.mk p' pH cd (some cF),h=>by
  simp only[Fm.cells,pw,AV.i.injEq,AV.s.injEq,AV.a7.injEq,true_and,and_true] at h;rw[vD h.1,h.2.1,G6 h.2.2.1,Fm.z9 J l cF h.2.2.2]
theorem Fm.z9(J:Bool):∀(l m:List Fm),Fm.lA J l=Fm.lA J m→l=m
 |[],[],_=>rfl
 |[],_::_,h=>by simp[Fm.lA] at h
 |_::_,[],h=>by simp[Fm.lA] at h
 |a::l,b::m,h=>by
  simp only[Fm.lA,pw,AV.ag.injEq] at h;rw[Fm.G5 J a b h.1,Fm.z9 J l m h.2]
end
theorem Fm.Uj{J:Bool}{f g:Fm}(h:f.A J=g.A J):f=g:=Fm.G5 J f g (by unfold Fm.A at h;injection h)
mutual
def Tm.dep:Tm→Nat
 | .mk _ _ none=>1
 | .mk _ _ (some l)=>Tm.g_ l+1
def Tm.g_:List Tm→Nat
 |[]=>0
 |t::l=>max t.dep (Tm.g_ l)
end
mutual
def Fm.dep:Fm→Nat
 | .mk _ _ a none=>Tm.g_ (a.getD [])+1
 | .mk _ _ a (some l)=>max (Tm.g_ (a.getD [])) (Fm.g_ l)+1
def Fm.g_:List Fm→Nat
 |[]=>0
 |f::l=>max f.dep (Fm.g_ l)
end
theorem Tm.rN:∀ {l:List Tm} {t:Tm},t∈l→t.dep≤Tm.g_ l
 |[],_,h=>by simp at h
 |g::l,f,h=>by
  rw[Tm.g_];rcases cH.1 h with rfl|h
  ·omega
  ·have:=Tm.rN h;omega
theorem Fm.rN:∀ {l:List Fm} {t:Fm},t∈l→t.dep≤Fm.g_ l
 |[],_,h=>by simp at h
 |g::l,f,h=>by
  rw[Fm.g_];rcases cH.1 h with rfl|h
  ·omega
  ·have:=Fm.rN h;omega
theorem Tm.gJ(t:Tm):t.dep=Tm.g_ t.args+1:=by
 obtain⟨v,n,a⟩:=t;cases a with
 |none=>rw[Tm.dep];simp[Tm.args,Tm.c3,Tm.g_]
 |some l=>rw[Tm.dep];rfl
theorem Fm.gJ(f:Fm):f.dep=max (Tm.g_ f.args) (Fm.g_ f.sub)+1:=by
 obtain⟨op,n,a,s⟩:=f;cases s with
 |none=>rw[Fm.dep];simp[Fm.args,Fm.c3,Fm.sub,Fm.bm,Fm.g_]
 |some l=>rw[Fm.dep];rfl
theorem Tm.pI{t u:Tm}(h:u∈t.args):u.dep<t.dep:=by have:=Tm.rN h;rw[Tm.gJ t];omega
theorem Fm.pI{f:Fm}{u:Tm}(h:u∈f.args):u.dep<f.dep:=by have:=Tm.rN h;rw[Fm.gJ f];omega
theorem Fm.jE{f g:Fm}(h:g∈f.sub):g.dep<f.dep:=by have:=Fm.rN h;rw[Fm.gJ f];omega
variable [Tok][TokOk]
theorem rO{α:Type}{I:af}{k:Nat}{J:Bool}{ad:Option Nat}{l:Option (List α)}{g vV:α→AV}(h:∀x∈l.getD [],bh I k (g x)=some (vV x)):bh I (k+1) (osl J ad (l.map fun l=>l.map g))=some (osl true ad (l.map fun l=>l.map vV)):=by
 cases l with
 |none=>rfl
 |some l=>
  show(match mapO (bh I k) (l.map g) with|none=>none|some xs=>some (AV.a7 true ad xs))=_;rw[Ue (l:=l) (h:=vV) fun x hx=>h x hx];rfl
theorem uF{I:af}{k:Nat}{l cF:List AV}(h:mapO (bh I k) l=some cF):bh I (k+1) (.ag l)=some (.ag cF):=by
 show(match mapO (bh I k) l with|none=>none|some l=>some (AV.ag l))=_;rw[h]
theorem Tm.snap(I:af)(J:Bool):∀(d:Nat) (t:Tm) (k:Nat),t.dep≤d→2*d+1≤k→bh I k (t.A J)=some (t.A true)
 |0,t,k,h,_=>by rw[Tm.gJ] at h;omega
 |d+1,t,k,h,aD=>by
  obtain⟨k,rfl⟩:∃j,k=j+3:=⟨k-3,by omega⟩
  unfold Tm.A;rw[Tm.kM,Tm.kM];refine uF ?_;have e:bh I (k+2) (cN J t.c3)=some (cN true t.c3):=rO (k:=k+1) fun x hx=>Tm.snap I J d x (k+1) (by have:=Tm.pI (t:=t) hx;omega) (by omega);rw[jR,jR,jR,e];rfl
theorem Fm.snap(I:af)(J:Bool):∀(d:Nat) (f:Fm) (k:Nat),f.dep≤d→2*d+1≤k→bh I k (f.A J)=some (f.A true)
 |0,f,k,h,_=>by rw[Fm.gJ] at h;omega
 |d+1,f,k,h,aD=>by
  obtain⟨k,rfl⟩:∃j,k=j+3:=⟨k-3,by omega⟩
  unfold Fm.A;rw[Fm.kM,Fm.kM];refine uF ?_;have aM:bh I (k+2) (cN J f.c3)=some (cN true f.c3):=rO (k:=k+1) fun x hx=>Tm.snap I J d x (k+1) (by have:=Fm.pI (f:=f) hx;omega) (by omega);have e2:bh I (k+2) (dz J f.bm)=some (dz true f.bm):=rO (k:=k+1) fun x hx=>Fm.snap I J d x (k+1) (by have:=Fm.jE (f:=f) hx;omega) (by omega);rw[jR,jR,jR,jR,aM,e2];rfl
theorem De{α:Type}{I:af}{J:Bool}{ad:Option Nat}{l:Option (List α)}{g:α→AV}:lenA I 1 (osl J ad (l.map fun l=>l.map g))=some (l.getD []).length:=by
 cases l with
 |none=>rfl
 |some l=>show some (l.map g).length=_;rw[aJ];rfl
theorem z_{α:Type}{J:Bool}{ad:Option Nat}{l:Option (List α)}{g:α→AV}{i:Nat}(h:i<(l.getD []).length):idxSlA ad (osl J ad (l.map fun l=>l.map g)) i=some (.cZ J (g ((l.getD [])[i]))):=by
 cases l with
 |none=>simp at h
 |some l=>
  refine Ua ?_;have h:i<l.length:=h;rw[G3 (by simpa using h),fQ];rfl
theorem uG{I:af}{J:Bool}{l:Option (List Tm)}:lenA I 1 (cN J l)=some (l.getD []).length:=De
theorem v5{I:af}{J:Bool}{l:Option (List Fm)}:lenA I 1 (dz J l)=some (l.getD []).length:=De
theorem G7{J:Bool}{l:Option (List Tm)}{i:Nat}(h:i<(l.getD []).length):idxSlA (some 3) (cN J l) i=some (.cZ J (((l.getD [])[i]).A J)):=z_ h
theorem G8{J:Bool}{l:Option (List Fm)}{i:Nat}(h:i<(l.getD []).length):idxSlA (some 4) (dz J l) i=some (.cZ J (((l.getD [])[i]).A J)):=z_ h
end
section
variable [Tok][TokOk]
open Go Go.RowKit Go.ChangeShapes Go.WideShapes
theorem a8g{H:Type}{enc:TypeId×Value→H}{P:Program}{f:Func}{s:ChangeSpec}{apart fresh handsOn:Bool}{W W':World}{args:Array Value}{ds:List (DataW H)}{Df:TypeId}{ps xh:List MemPlace}
  (hf:f.resultTypes= #[Df]) (hb:P.underlying Df=some .bool) (av:s.vars=[]) (hfn:s.fn H ds={results:=[.lit (.bool true)],args:=ds})
  (hW:DataW.Whole enc P f.params.toList s.vars apart W args.toList ds [] ps) (pA:DataW.TrodAll enc P W' 0 (fun b=>decide (b<W.heap.size)) true f.params.toList args.toList ds xh)
  (aD:∀b,b<W.heap.size→W'.heap[b]? =W.heap[b]?) (ib:W'.os=W.os) (jw:W'.output=W.output):s.post enc P f apart fresh handsOn false W args (.bool true) W':=by
 refine⟨ds,[],ps,[],xh,[],hW,?_,?_,?_,a7P aD ib jw,fun h=>by cases h⟩
 ·rw[fV,hfn,hf];exact trodAll_mk1 (shut_bool hb _)
 ·rw[fV,hfn];exact pA
 ·rw[fV,hfn,av];rfl
theorem calls_trueS{H:Type}{enc:TypeId×Value→H}{P:Program}{env:Env}{f:Func}{s:ChangeSpec}{apart fresh handsOn:Bool}{W:World}{args:Array Value}{ds:List (DataW H)}{Df:TypeId}{g:Nat}{aR:List AV}{ps xh:List MemPlace}
  (c2:∀eO,SpecEntry P env eO g aR (.b true)) (gF:Globs env W W.heap.size) (ha:bz W (fun _=>none) (fun _=>False) W.heap.size aR args.toList)
  (hf:f.resultTypes= #[Df]) (hb:P.underlying Df=some .bool) (av:s.vars=[]) (hfn:s.fn H ds={results:=[.lit (.bool true)],args:=ds})
  (hW:DataW.Whole enc P f.params.toList s.vars apart W args.toList ds [] ps) (pA:∀W':World,Below W.heap.size W W'→DataW.TrodAll enc P W' 0 (fun b=>decide (b<W.heap.size)) true f.params.toList args.toList ds xh):
  Calls P g args W fun e W'=>∃v,e= .returned v∧s.post enc P f apart fresh handsOn false W args v W':=by
 refine((c2 W.heap.size).calls (o _) gF ha).mono fun e W' ⟨u,he,bD,bV,aD,ib,mN,jw⟩=>?_;cases bD;exact⟨_,he,a8g hf hb av hfn hW (pA W' ⟨ib,mN,jw,bV,aD⟩) aD ib jw⟩
end
section
variable [Tok][TokOk]
open Go.RowKit
theorem b9.mono{env:Env}{floor:Nat}{b_:AV}{args:List AV}{I:af}{Q ob:dM→af→Prop}(h:b9 env floor b_ args I Q)(hq:∀r aq,Q r aq→ob r aq):b9 env floor b_ args I ob:=dr.mono h fun _ ab=>hq _ _ ab
def fM(env:Env)(D gN:List (Nat ⊕ (AV×List AV)))(n:Nat)(c:bB)(f:Nat→AV)(I:af)(Q:e5):Prop:=∀ai,jD D n f ai→fY env 0 none c ai I (xW gN n Q)
section
variable {env:Env}{D gN Gj:List (Nat ⊕ (AV×List AV))}{n:Nat}{f:Nat→AV}{I:af}{Q:e5}
theorem fM.mZ{a b:bB}(h:bl env none D n a f I (fun x f I=>x= .normal∧fM env D gN n b f I Q)):fM env D gN n (.seq a b) f I Q:=fun ai bY=>fY.seq ((h ai bY).mono fun x ai I ⟨f,h1,h2,h3⟩=>by subst h2;exact h3 ai h1)
end
def G9:List Nat→List AV→(Nat→AV)→Nat→AV
 |p::ps,a::as,f=>G9 ps as (fq f p a)
 |_,_,f=>f
theorem Uk{n:Nat}:∀ {ps:List Nat} {args:List AV} {f:Nat→AV} {ak:aT AV},dw (fun p=>Nat.blt p n) ps=true→(∀i,ak.get i=if i<n then some (f i) else none)→jD [] n (G9 ps args f) ⟨layAll ps args ak,[],false⟩
 |[],_,f,ak,_,h=>⟨h,rfl,rfl⟩
 |p::ps,[],f,ak,_,h=>⟨h,rfl,rfl⟩
 |p::ps,a::args,f,ak,hp,h=>by
  have xN:Nat.blt p n=true:=by
   have hp:cond (Nat.blt p n) (dw (fun p=>Nat.blt p n) ps) false=true:=hp;cases hb:Nat.blt p n with
   |true=>rfl
   |false=>rw[hb] at hp;cases hp
  have hp2:dw (fun p=>Nat.blt p n) ps=true:=by
   have hp:cond (Nat.blt p n) (dw (fun p=>Nat.blt p n) ps) false=true:=hp;rw[xN] at hp;exact hp
  have h0:jD [] n f ⟨ak,[],false⟩:=⟨h,rfl,rfl⟩
  exact Uk (f:=fq f p a) (ak:=ak.set p a) hp2 (h0.put a xN).get
section
variable {env:Env}{aI:Option Nat}{D:List (Nat ⊕ (AV×List AV))}{n:Nat}{f:Nat→AV}{I:af}{Q:e5}
theorem gV.a8h{d:Nat}{op:AOp}{g:Option (Nat×Bool)}{wn:List Nat}{ops:List a1}{b_:AV}{args:List AV}{R:dM→af→Prop}(au:Nat.blt d n=true)(hw:mq g n f=true)(ab:opx 0 (ik env n f) I op=some (.call b_ args))(ah:b9 env 0 b_ args I R)
  (h:∀r aq,R r aq→∃v,r= .ok v∧e6 env aI D n ops (fq f d v) aq Q):e6 env aI D n (⟨some d,op,g,wn⟩::ops) f I Q:=fun ai bY=>
 kt.call (by rw[bY.wanted];exact hw) (by rw[bY.ao];exact ab) (ah.mono fun r aq al=>by
  obtain⟨v,rfl,av⟩:=h r aq al;exact av _ (bY.put v au))
theorem b9.code{fn:Nat}{cz:ch}{body:bB}{hF:Nat}{first cap args:List AV}{R:dM→af→Prop}(he:env.ext fn=0)(hp:env.pure fn=false)(hf:env.funcs fn=some cz)(hb:cz.body=some body)
  (hn:(Nat.beq (first++args++cap).length cz.lP&&Nat.ble (first++args++cap).length cz.ntmps)=true) (eM:cz.results=[(hF,none)]) (oZ:Nat.blt hF cz.ntmps=true)
  (h:GoF env cz.ntmps body (eS (first++args++cap)) I (fun x dq aq=>x= .ret∧R (.ok (dq hF)) aq)):b9 env 0 (.f (.func fn) first cap) args I R:=by
 have hle:(first++args++cap).length≤cz.ntmps:=by
  simp only[cx] at hn;exact eV hn.2
 refine b9.run he hp hf hb hn ((h _ (z7 hle)).mono fun x c_ aq ⟨dq,h1,h2,h3⟩=>?_);subst h2;exact⟨.ok (dq hF),aq,a7W h1 eM oZ,h3⟩
theorem b9.rP{fn:Nat}{cz:ch}{body:bB}{first cap args:List AV}{R:dM→af→Prop}(he:env.ext fn=0)(hp:env.pure fn=false)(hf:env.funcs fn=some cz)(hb:cz.body=some body)
  (hn:(Nat.beq (first++args++cap).length cz.lP&&Nat.ble (first++args++cap).length cz.ntmps)=true) (eM:cz.results=[])
  (h:GoF env cz.ntmps body (eS (first++args++cap)) I (fun x _ aq=>(x= .ret∨x= .normal)∧R (.ok (.bJ [])) aq)):b9 env 0 (.f (.func fn) first cap) args I R:=by
 have hle:(first++args++cap).length≤cz.ntmps:=by
  simp only[cx] at hn;exact eV hn.2
 refine b9.run he hp hf hb hn ((h _ (z7 hle)).mono fun x c_ aq ⟨dq,h1,h2,h3⟩=>?_);refine⟨.ok (.bJ []),aq,?_,h3⟩;have e:endF env 0 cz (.ret,c_,aq)=some [(.ok (.bJ []),aq)]:=by
  show(match leave 0 (callD env 0) c_.defers none aq with
   |none=>none
   |some (some v,I)=>some [(dM.err v,I)]
   |some (none,I)=>match resultsOf I c_.bk cz.results with
    |some v=>some [(.ok v,I)]
    |none=>none)=_
  rw[h1.ds,eM];rfl
 rcases h2 with rfl|rfl
 ·exact e
 ·exact e
end
theorem a8i{I:af}{n:Nat}{J:Bool}{ad:Option Nat}{xs:List AV}{w:AV}(h:bh I (n+1) (.a7 J ad xs)=some w):∃gE,mapO (bh I n) xs=some gE∧w= .a7 true ad gE:=by
 rw[snapshot_succ] at h;simp only[] at h;cases hm:mapO (bh I n) xs with
 |none=>rw[hm] at h;cases h
 |some gE=>rw[hm] at h;cases h;exact⟨gE,rfl,rfl⟩
theorem a8j{I:af}{n:Nat}{xs:List AV}{w:AV}(h:bh I (n+1) (.ag xs)=some w):∃gE,mapO (bh I n) xs=some gE∧w= .ag gE:=by
 rw[snapshot_succ] at h;simp only[] at h;cases hm:mapO (bh I n) xs with
 |none=>rw[hm] at h;cases h
 |some gE=>rw[hm] at h;cases h;exact⟨gE,rfl,rfl⟩
end
structure Hid(R:Prop):Prop where
 out:R
section
variable [Tok][TokOk]
open Go.RowKit
theorem kt.hy{env:Env}{floor:Nat}{eg:Bool}{J:a1}{ops:List a1}{ai:Fr}{I:af}{Q:rK}{l:List (AV×af)}(hw:wantedA J.guard ai.bk=true)(ab:opx floor (evalA env ai.bk) I J.op=some (.hy l))(ar:l≠[])
  (h:∀p∈l,kt env floor eg ops (ai.put J.dst p.1) p.2 Q):kt env floor eg (J::ops) ai I Q:=by
 have:=dr.flat (g:=fun(p:AV×af) F=>runOps env floor (callV env (exec env F) floor) eg ops (ai.put J.dst p.1) p.2) (Q:=fun(J:hQ×Fr×af)=>Q J.1 J.2.1 J.2.2) l ar h;refine dr.congr this fun F=>?_;rw[Cj,hw,cond_true,ab]
section
variable {env:Env}{aI:Option Nat}{D:List (Nat ⊕ (AV×List AV))}{n:Nat}{f:Nat→AV}{I:af}{Q:e5}
theorem gV.hy{d:Nat}{op:AOp}{g:Option (Nat×Bool)}{wn:List Nat}{ops:List a1}{l:List (AV×af)}(au:Nat.blt d n=true)(hw:mq g n f=true)(ab:opx 0 (ik env n f) I op=some (.hy l))(ar:l≠[])
  (h:∀p∈l,e6 env aI D n ops (fq f d p.1) p.2 Q):e6 env aI D n (⟨some d,op,g,wn⟩::ops) f I Q:=fun ai bY=>
 kt.hy (by rw[bY.wanted];exact hw) (by rw[bY.ao];exact ab) ar fun p hp=>h p hp _ (bY.put p.1 au)
end
end
section
open Go Go.RowKit
theorem Ul{f:Nat→AV}{i j:Nat}{v:AV}(h:Nat.beq j i=false):fq f i v j=f j:=by show cond (Nat.beq j i) v (f j)=f j;rw[h];rfl
theorem Mo{f:Nat→AV}{i:Nat}{v:AV}:fq f i v i=v:=by show cond (Nat.beq i i) v (f i)=v;rw[fy];rfl
variable [Tok][TokOk] in
theorem GoF.each{env:Env}{aI:Option Nat}{D:List (Nat ⊕ (AV×List AV))}{n i m c d b gL:Nat}{body:bB}{f:Nat→AV}{I:af}{Q:e5}(N:Nat)(jQ:Nat→(Nat→AV)→af→Prop)
  (hr:N<2^62) (h0:jQ 0 f I) (xI:f i=ay 0) (qK:f m=ay N)
  (hb:∀j g U,j<N→jQ j g U→g i=ay j→g m=ay N→bl env aI D n (.block gL body) (fq g c (.b true)) U (fun x dq a5=>match x with
   | .normal=>dq i=ay j∧dq m=ay N∧jQ (j+1) (fq (fq dq d (ay (j+1))) i (ay (j+1))) a5
   | .exit e=>Nat.beq e b=false∧Q (.exit e) dq a5
   |x=>Q x dq a5))
  (hx:∀g U,jQ N g U→g i=ay N→Q .normal (fq g c (.b false)) U)
  (ah:Nat.blt c n=true:=by rfl) (au:Nat.blt d n=true:=by rfl) (hi:Nat.blt i n=true:=by rfl) (hm:Nat.blt m n=true:=by rfl) (a8k:Nat.beq m d=false:=by rfl) (sH:Nat.beq m i=false:=by rfl):
  bl env aI D n (.block b (.loop (.seq (.region [⟨some c,.bin .lss (.t i) (.t m),none,[]⟩]) (.seq (.cond (.t c) .skip (.exit b)) (.seq (.block gL body) (.region [⟨some d,.bin .add (.t i) (.c (.i .i64 1)),none,[]⟩,⟨some i,.b6 (.t d),none,[]⟩])))))) f I Q:=by
 refine GoF.block (GoF.loop (fun k g U=>∃j,j+k=N∧jQ j g U∧g i=ay j∧g m=ay N) ?_ N ⟨0,by omega,h0,xI,qK⟩);rintro k g U ⟨j,m0,aZ,v7,oQ⟩;have Dg:ik env n g (.t i)=some (ay j):=by show cond (Nat.blt i n) (some (g i)) none=_;rw[hi,v7];rfl
 have em:ik env n g (.t m)=some (ay N):=by show cond (Nat.blt m n) (some (g m)) none=_;rw[hm,oQ];rfl
 refine GoF.seq (GoF.region ?_);refine gV.cmp (a:=j) (b:=N) ah rfl Dg em rfl ?_;refine gV.nil (GoF.seq (GoF.z6 (t:=decide (j<N)) (by show cond (Nat.blt c n) (some (fq g c (.b (decide (j<N))) c)) none=_;rw[ah,Mo];rfl) (fun h=>?_) fun h=>?_))
 ·have az:j<N:=of_decide_eq_true h;rw[h];refine GoF.skip (GoF.seq ((hb j g U az aZ v7 oQ).mono fun x dq a5 h'=>?_));cases x with
  |normal=>
   obtain⟨h1,h2,h3⟩:=h';refine GoF.region ?_;have aM:ik env n dq (.t i)=some (ay j):=by show cond (Nat.blt i n) (some (dq i)) none=_;rw[hi,h1];rfl
   refine gV.bin au rfl aM rfl (Dc (a:=j) (b:=1) (by omega)) ?_;refine gV.go rfl hi rfl (v:=ay (j+1)) (aq:=a5) ?_ ?_
   ·show(match cond (Nat.blt d n) (some (fq dq d (ay (j+1)) d)) none with|some v=>some (bq.val v a5)|none=>none)=_;rw[au,Mo];rfl
   ·refine gV.nil ?_;refine⟨k-1,by omega,j+1,by omega,h3,Mo,?_⟩;rw[Ul sH,Ul a8k,h2]
  |exit e=>
   show cond (Nat.beq e b) (Q .normal dq a5) (Q (.exit e) dq a5);rw[h'.1];exact h'.2
  |ret=>exact h'
  |panic v=>exact h'
 ·have az:j=N:=by have:=of_decide_eq_false h;omega
  subst az;rw[h];refine GoF.exit ?_;show cond (Nat.beq b b) (Q .normal (fq g c (.b false)) U) (Q (.exit b) (fq g c (.b false)) U);rw[fy];exact hx g U aZ v7
end
section
variable [Tok][TokOk]
open Go.RowKit
abbrev mr:=List (Nat×Nat×AO)
def uH(N len:Nat)(G_:List af)(q:Nat)(P:af→Prop):Prop:=∃j s,q+len=N+j∧nth G_ j=some s∧P s
theorem uH.up{N len q:Nat}{G_:List af}{I:af}{P:af→Prop}(h:uH N len G_ q P):uH N (len+1) (I::G_) q P:=by
 obtain⟨j,s,h1,h2,h3⟩:=h;exact⟨j+1,s,by omega,h2,h3⟩
structure Dh(env:Env)(N:Nat)(c5:mr)(ops:List a1)(I:af)(x:j2):Prop where
 Mp:∃t,(x.2.2.2::x.2.1).reverse=I::t∧t.length=ops.length
 c5:∀p∈c5,uH N ops.length (x.2.2.2::x.2.1).reverse p.1 fun s=>s.get p.2.1=some p.2.2
 zW:∀w∈x.2.2.1,∀q∈w.1.lg,uH N ops.length (x.2.2.2::x.2.1).reverse q fun s=>∃v U,opx 0 (evalA env w.2.1) s w.1.op=some (.val v U)∧AV.eqb env.aV v w.2.2=true
def j2.on(da:List af)(ws:List oG)(x:j2):j2:=(x.1,x.2.1++da,x.2.2.1++ws,x.2.2.2)
theorem j2.Um(x:j2)(a c:List af)(d e:List oG):(x.on a d).on c e=x.on (a++c) (d++e):=by
 show(x.1,(x.2.1++a)++c,(x.2.2.1++d)++e,x.2.2.2)=(x.1,x.2.1++(a++c),x.2.2.1++(d++e),x.2.2.2);rw[iw,iw]
def eB(env:Env)(D:List (Nat ⊕ (AV×List AV)))(n N:Nat)(c5:mr)(ops:List a1)(f:Nat→AV)(I:af)(Q:e5):Prop:=
 ∀ai,jD D n f ai→∃iY outs,outs≠[]∧(∀J∈outs,∃dq,jD D n dq J.1∧Q .normal dq J.2)∧∀F,iY≤F→∃L:List j2,L.map (fun x=>(x.1,x.2.2.2))=outs∧
  (∀da ws,runDraws env 0 (callV env (exec env F) 0) ops ai da ws I=some (L.map (j2.on da ws)))∧∀x∈L,Dh env N c5 ops I x
section
variable {env:Env}{aI:Option Nat}{D:List (Nat ⊕ (AV×List AV))}{n N:Nat}{f:Nat→AV}{I:af}{Q:e5}{c5:mr}
theorem GoF.a8l{ops:List a1}(aj:swapT ops=true)(h:eB env D n ops.length [] ops f I Q):bl env aI D n (.draw ops) f I Q:=fun ai bY=>by
 obtain⟨iY,outs,h0,h2,h1⟩:=h ai bY;refine⟨iY+1,outs.map fun J=>(.normal,J.1,J.2),by simpa using h0,fun F e3=>?_,fun J ab=>?_⟩
 ·obtain⟨k,rfl⟩:∃k,F=k+1:=⟨F-1,by omega⟩
  obtain⟨L,e,a0,c6⟩:=h1 k (by omega);show exec env (k+1) 0 aI (bB.draw ops) ai I=_;rw[pC];show(match runDraws env 0 (callV env (exec env k) 0) ops ai [] [] I with|some l=>mapO (drawn env 0 ops) l|none=>none)=_;rw[a0,← e,eK];show mapO (drawn env 0 ops) (L.map (j2.on [] []))=_;have hx:∀x∈L,drawn env 0 ops (x.on [] [])=some (.normal,x.1,x.2.2.2):=fun x hx=>by
   have c6:=(c6 x hx).zW;unfold drawn j2.on;simp only[fV];rw[a7X aj,J3,hP.2 fun w Di=>?_];rfl;unfold steady;refine mY fun q hq=>?_;obtain⟨j,s,e,cC,v,U,c0,ej⟩:=c6 w Di q hq;obtain rfl:q=j:=by omega
   rw[cC];show(match vp w.1.op 0 (evalA env w.2.1) s with|some (.val v _)=>AV.eqb env.aV v w.2.2|_=>false)=true;rw[Ci,c0];exact ej
  clear c6 a0 e
  induction L with
  |nil=>rfl
  |cons x L aA=>
   rw[jK,jR,hx x gz,aA fun y aw=>hx y (e9 _ aw)];rfl
 ·obtain⟨x,hx,rfl⟩:=bQ.1 ab;obtain⟨dq,aP,a0⟩:=h2 x hx;exact⟨dq,aP,a0⟩
theorem Dh.one{J:a1}{ops:List a1}{b3:af}{xY:mr}{x:j2}{wl:List oG}(h:Dh env N xY ops b3 x)(Dj:∀p∈c5,p∈xY)(hw:∀w∈wl,∀q∈w.1.lg,∀st,(∀p∈xY,uH N ops.length st p.1 fun s=>s.get p.2.1=some p.2.2)→st.length=ops.length+1→uH N ops.length st q fun s=>∃v U,opx 0 (evalA env w.2.1) s w.1.op=some (.val v U)∧AV.eqb env.aV v w.2.2=true):Dh env N c5 (J::ops) I (x.on [I] wl):=by
 have e:((x.on [I] wl).2.2.2::(x.on [I] wl).2.1).reverse=I::(x.2.2.2::x.2.1).reverse:=by
  show(x.2.2.2::(x.2.1++[I])).reverse=_;rw[←wF,List.reverse_append];rfl
 obtain⟨t,bM,b4⟩:=h.Mp;refine⟨⟨_,e,by rw[bM];simp[b4]⟩,fun p hp=>?_,fun w pJ q hq=>?_⟩
 ·rw[e];exact(h.c5 p (Dj p hp)).up
 ·rw[e];rcases dE.1 pJ with pJ|pJ
  ·exact(h.zW w pJ q hq).up
  ·exact(hw w pJ q hq _ h.c5 (by rw[bM];simp[b4])).up
theorem eB.one{J:a1}{ops:List a1}{f1:Nat→AV}{b3:af}{xY:mr}{wl:aT AV→List oG}(h:eB env D n N xY ops f1 b3 Q)(Dj:∀p∈c5,p∈xY)
  (al:∀ai,jD D n f ai→∃fL iY,jD D n f1 fL∧(∀w∈wl ai.bk,∀q∈w.1.lg,∀st,(∀p∈xY,uH N ops.length st p.1 fun s=>s.get p.2.1=some p.2.2)→st.length=ops.length+1→uH N ops.length st q fun s=>∃v U,opx 0 (evalA env w.2.1) s w.1.op=some (.val v U)∧AV.eqb env.aV v w.2.2=true)∧
   ∀F,iY≤F→∀da ws,runDraws env 0 (callV env (exec env F) 0) (J::ops) ai da ws I=runDraws env 0 (callV env (exec env F) 0) ops fL (I::da) (wl ai.bk++ws) b3):eB env D n N c5 (J::ops) f I Q:=fun ai bY=>by
 obtain⟨fL,xV,Mq,hw,al⟩:=al ai bY;obtain⟨iY,outs,h0,h2,h1⟩:=h fL Mq;refine⟨max iY xV,outs,h0,h2,fun F e3=>?_⟩;obtain⟨L,e,dy,e0⟩:=h1 F (by omega);refine⟨L.map (j2.on [I] (wl ai.bk)),by rw[eK];exact e,fun da ws=>?_,fun x hx=>?_⟩
 ·rw[al F (by omega),dy,eK]
  congr 1
  exact gl fun x _=>(x.Um [I] da (wl ai.bk) ws).symm
 ·obtain⟨y,aw,rfl⟩:=bQ.1 hx;exact(e0 y aw).one Dj hw
theorem eB.val{d:Option Nat}{op:AOp}{g:Option (Nat×Bool)}{ops:List a1}{v:AV}{aq:af}(au:∀x,d=some x→Nat.blt x n=true)(hw:mq g n f=true)(ab:opx 0 (ik env n f) I op=some (.val v aq))(h:eB env D n N c5 ops (match d with|some d=>fq f d v|none=>f) aq Q):
  eB env D n N c5 (⟨d,op,g,[]⟩::ops) f I Q:=eB.one (wl:=fun _=>[]) h (fun _ h=>h) fun ai bY=>⟨ai.put d v,0,by
 cases d with
 |none=>exact bY
 |some d=>exact bY.put v (au d rfl),fun _ h=>absurd h (by simp),fun F _ da ws=>by
  rw[runDraws_cons];show cond (wantedA g ai.bk) _ _=_;rw[bY.wanted,hw,cond_true,bY.ao,ab];rfl⟩
theorem eB.off{d:Nat}{op:AOp}{g:Option (Nat×Bool)}{wn:List Nat}{ops:List a1}(au:Nat.blt d n=true)(hw:mq g n f=false)(h:eB env D n N c5 ops (fq f d dR) I Q):eB env D n N c5 (⟨some d,op,g,wn⟩::ops) f I Q:=
 eB.one (wl:=fun _=>[]) h (fun _ h=>h) fun ai bY=>⟨ai.put (some d) dR,0,bY.put _ au,fun _ h=>absurd h (by simp),fun F _ da ws=>by
  rw[runDraws_cons];show cond (wantedA g ai.bk) _ _=_;rw[bY.wanted,hw,cond_false];rfl⟩
theorem eB.lZ{d:Nat}{op:AOp}{g:Option (Nat×Bool)}{wn:List Nat}{ops:List a1}{v:AV}{id:Nat}{c:AO}(aj:I.get id=some c)(au:Nat.blt d n=true)(hw:mq g n f=true)(ab:∀s:af,s.get id=some c→opx 0 (ik env n f) s op=some (.val v s))(av:AV.eqb env.aV v v=true)
  (h:eB env D n N (wn.map (fun q=>(q,id,c))++c5) ops (fq f d v) I Q):eB env D n N c5 (⟨some d,op,g,wn⟩::ops) f I Q:=
 eB.one (wl:=fun ak=>match wn with|[]=>[]|_::_=>[(⟨some d,op,g,wn⟩,ak,v)]) h (fun _ h=>dE.2 (.inr h)) fun ai bY=>⟨ai.put (some d) v,0,bY.put v au,fun w pJ q hq st dp _=>by
  cases wn with
  |nil=>simp at pJ
  |cons a l=>
   rw[d_.1 pJ] at hq ⊢;obtain⟨j,s,aM,e2,dn⟩:=dp (q,id,c) (dE.2 (.inl (bQ.2 ⟨q,hq,rfl⟩)));exact⟨j,s,aM,e2,v,s,by show opx 0 (evalA env ai.bk) s op=_;rw[bY.ao];exact ab s dn,av⟩,fun F _ da ws=>by
  rw[runDraws_cons];show cond (wantedA g ai.bk) _ _=_;rw[bY.wanted,hw,cond_true,bY.ao,ab I aj];cases wn<;>rfl⟩
theorem eB.Aa{d:Nat}{op:AOp}{g:Option (Nat×Bool)}{wn:List Nat}{ops:List a1}{v:AV}(Di:dw (fun q=>Nat.ble N (q+ops.length)&&Nat.ble q N) wn=true)(au:Nat.blt d n=true)(hw:mq g n f=true)(ab:∀s:af,opx 0 (ik env n f) s op=some (.val v s))(av:AV.eqb env.aV v v=true)
  (h:eB env D n N c5 ops (fq f d v) I Q):eB env D n N c5 (⟨some d,op,g,wn⟩::ops) f I Q:=
 eB.one (wl:=fun ak=>match wn with|[]=>[]|_::_=>[(⟨some d,op,g,wn⟩,ak,v)]) h (fun _ h=>h) fun ai bY=>⟨ai.put (some d) v,0,bY.put v au,fun w pJ q hq st dp ar=>by
  cases wn with
  |nil=>simp at pJ
  |cons a l=>
   rw[d_.1 pJ] at hq ⊢;have hb:=G0 Di q hq;simp only[cx] at hb;have h1:=eV hb.1;have h2:=eV hb.2;obtain⟨s,aj⟩:∃s,nth st (q+ops.length-N)=some s:=⟨st[q+ops.length-N]'(by omega),by rw[BO,a9]⟩
   exact⟨q+ops.length-N,s,by omega,aj,v,s,by show opx 0 (evalA env ai.bk) s op=_;rw[bY.ao];exact ab s,av⟩,fun F _ da ws=>by
  rw[runDraws_cons];show cond (wantedA g ai.bk) _ _=_;rw[bY.wanted,hw,cond_true,bY.ao,ab I];cases wn<;>rfl⟩
theorem a8m{α β:Type}{f:α→Option (List β)}{x:α}{l:List α}{a c:List β}(h1:f x=some a)(h2:kk f l=some c):kk f (x::l)=some (a++c):=by
 cases l with
 |nil=>
  have h2:some ([]:List β)=some c:=h2;cases h2;rw[fV];exact h1
 |cons y t=>
  show(match f x with|none=>none|some a=>match kk f (y::t) with|none=>none|some b=>some (a++b))=_;rw[h1,h2]
theorem eB.call{d:Nat}{op:AOp}{g:Option (Nat×Bool)}{ops:List a1}{b_:AV}{args:List AV}{R:dM→af→Prop}(au:Nat.blt d n=true)(hw:mq g n f=true)(ab:opx 0 (ik env n f) I op=some (.call b_ args))
  (ah:b9 env 0 b_ args I R) (h:∀r aq,R r aq→∃v,r= .ok v∧eB env D n N c5 ops (fq f d v) aq Q):eB env D n N c5 (⟨some d,op,g,[]⟩::ops) f I Q:=fun ai bY=>by
 obtain⟨xV,l,ar,h2,h3⟩:=ah;have key:∀l:List (dM×af),(∀J∈l,R J.1 J.2)→∃iY outs,(l≠[]→outs≠[])∧(∀J∈outs,∃dq,jD D n dq J.1∧Q .normal dq J.2)∧∀F,iY≤F→∃L:List j2,L.map (fun x=>(x.1,x.2.2.2))=outs∧
   (∀da ws,kk (fun r=>match r with|(.ok v,aq)=>runDraws env 0 (callV env (exec env F) 0) ops (ai.put (some d) v) (I::da) ws aq|_=>none) l=some (L.map (j2.on da ws)))∧∀x∈L,Dh env N c5 (⟨some d,op,g,[]⟩::ops) I x:=by
  intro l
  induction l with
  |nil=>exact fun _=>⟨0,[],fun h=>absurd rfl h,fun J ab=>by simp at ab,fun F _=>⟨[],rfl,fun _ _=>rfl,fun x hx=>by simp at hx⟩⟩
  |cons y l aA=>
   intro bD;obtain⟨Mj,a8n,_,c0,ej⟩:=aA fun J ab=>bD J (e9 _ ab);obtain⟨r,aq⟩:=y;obtain⟨v,rfl,gF⟩:=h r aq (bD _ gz);obtain⟨iY,outs,cQ,eA,ek⟩:=gF _ (bY.put v au);refine⟨max iY Mj,outs++a8n,fun _ e=>cQ (List.append_eq_nil_iff.1 e).1,fun J ab=>?_,fun F e3=>?_⟩
   ·rcases dE.1 ab with ab|ab
    ·exact eA J ab
    ·exact c0 J ab
   ·obtain⟨L,e,dy,e0⟩:=ek F (by omega);obtain⟨oc,e2,bb,cm⟩:=ej F (by omega);refine⟨L.map (j2.on [I] [])++oc,by rw[gK,eK,e2];congr 1,fun da ws=>?_,fun x hx=>?_⟩
    ·rw[gK,eK];refine a8m ?_ (bb da ws);show runDraws env 0 _ ops _ (I::da) ws aq=_;rw[dy]
     congr 1
     exact gl fun x _=>(x.Um [I] da [] ws).symm
    ·rcases dE.1 hx with hx|hx
     ·obtain⟨z,bg,rfl⟩:=bQ.1 hx;exact(e0 z bg).one (fun _ h=>h) fun w hw=>by simp at hw
     ·exact cm x hx
 obtain⟨iY,outs,aP,a0,bF⟩:=key l h3;refine⟨max iY xV,outs,aP ar,a0,fun F e3=>?_⟩;obtain⟨L,e,dy,e0⟩:=bF F (by omega);refine⟨L,e,fun da ws=>?_,e0⟩;rw[runDraws_cons];show cond (wantedA g ai.bk) _ _=_;rw[bY.wanted,hw,cond_true,bY.ao,ab];show(match callV env (exec env F) 0 b_ args I with|some (x::l)=>kk _ (x::l)|_=>none)=_;rw[show callV env (exec env F) 0 b_ args I=some l from h2 F (by omega)];cases l with
 |nil=>exact absurd rfl ar
 |cons x l=>exact dy da ws
def rQ(I:af):mr→Prop
 |[]=>True
 |p::l=>I.get p.2.1=some p.2.2∧rQ I l
theorem rQ.mem{I:af}:∀ {l:mr},rQ I l→∀p∈l,I.get p.2.1=some p.2.2
 |_::_,h,p,hp=>by
  rcases cH.1 hp with rfl|hp
  ·exact h.1
  ·exact h.2.mem p hp
def Mr(N len:Nat)(c5:mr):mr:=c5.filter fun p=>Nat.beq (p.1+len) N
def Un(N len:Nat)(c5:mr):mr:=c5.filter fun p=>!Nat.beq (p.1+len) N
theorem eB.now{ops:List a1}(l cF:mr)(h1:Mr N ops.length c5=l)(h2:Un N ops.length c5=cF)(hh:rQ I l)(h:eB env D n N cF ops f I Q):eB env D n N c5 ops f I Q:=fun ai bY=>by
 obtain⟨iY,outs,gM,b4,bM⟩:=h ai bY;refine⟨iY,outs,gM,b4,fun F e3=>?_⟩;obtain⟨L,e,bF,bU⟩:=bM F e3;refine⟨L,e,bF,fun x hx=>⟨(bU x hx).Mp,fun p hp=>?_,(bU x hx).zW⟩⟩;obtain⟨t,aP,_⟩:=(bU x hx).Mp;by_cases hb:Nat.beq (p.1+ops.length) N=true
 ·exact⟨0,I,by rw[fm hb];rfl,by rw[aP];rfl,hh.mem p (by rw[←h1];exact rr.2 ⟨hp,hb⟩)⟩
 ·exact(bU x hx).c5 p (by rw[←h2];exact rr.2 ⟨hp,by rw[J4.2 hb];rfl⟩)
theorem eB.nil(hh:Mr N 0 c5=c5)(ar:rQ I c5)(h:Q .normal f I):eB env D n N c5 [] f I Q:=fun ai bY=>
 ⟨0,[(ai,I)],by simp,fun J ab=>by rw[d_.1 ab];exact⟨f,bY,h⟩,fun F _=>⟨[(ai,[],[],I)],rfl,fun _ _=>rfl,fun x hx=>by
  rw[d_.1 hx];refine⟨⟨[],rfl,rfl⟩,fun p hp=>⟨0,I,?_,rfl,ar.mem p hp⟩,fun _ h=>absurd h (by simp)⟩;rw[←hh] at hp;exact fm (rr.1 hp).2⟩⟩
end
inductive lv where
 |pl
 |hF (N:Nat) (c5:mr)
def bL(b0:lv)(env:Env)(aI:Option Nat)(D:List (Nat ⊕ (AV×List AV)))(n:Nat)(ops:List a1)(f:Nat→AV)(I:af)(Q:e5):Prop:=
 match b0 with
 | .pl=>e6 env aI D n ops f I Q
 | .hF N c5=>eB env D n N c5 ops f I Q
structure Has(I:af)(L:List (Nat×List AV)):Prop where
 get:∀p∈L,I.get p.1=some (.cells p.2)
 Dk:L.Pairwise fun a b=>a.1≠b.1
theorem Has.nil{I:af}:Has I []:=⟨fun _ h=>absurd h (by simp),.nil⟩
theorem Has.aF{I U:af}{L:List (Nat×List AV)}(h:Has I L)(k:∀i J,I.get i=some J→U.get i=some J):Has U L:=⟨fun p hp=>k _ _ (h.get p hp),h.Dk⟩
theorem rQ.c{I:af}{L:List (Nat×List AV)}{l:mr}{k id:Nat}{c:List AV}(H:Has I L)(hm:(id,c)∈L)(h:rQ I l):rQ I ((k,id,.cells c)::l):=⟨H.get _ hm,h⟩
theorem Has.lt{I:af}{L:List (Nat×List AV)}(h:Has I L){p:Nat×List AV}(hp:p∈L):p.1<I.next:=af.bW (h.get p hp)
theorem Has.cons{I:af}{L:List (Nat×List AV)}{k:Nat}{c:List AV}(h:Has I L)(aD:I.get k=some (.cells c))(hn:∀p∈L,p.1≠k):Has I ((k,c)::L):=⟨fun p hp=>by
 rcases cH.1 hp with rfl|hp
 ·exact aD
 ·exact h.get p hp,R4.2 ⟨fun p hp e=>hn p hp e.symm,h.Dk⟩⟩
theorem Has.push{I U:af}{L:List (Nat×List AV)}{k:Nat}{c:List AV}(h:Has I L)(hn:I.next=k)(aD:U.get k=some (.cells c))(ca:∀i J,I.get i=some J→U.get i=some J):Has U ((k,c)::L):=
 (h.aF ca).cons aD fun p hp=>by have:=h.lt hp;omega
theorem Has.set{I U:af}{L:List (Nat×List AV)}{id:Nat}{c aQ:List AV}(h:Has I L)(j:Nat)(az:L[j]? =some (id,c))(aD:U.get id=some (.cells aQ))(ca:∀i J,i≠id→I.get i=some J→U.get i=some J):Has U (L.set j (id,aQ)):=by
 obtain⟨bZ,he⟩:=ki.1 az;have bx:∀i (hi:i<L.length),i≠j→(L[i]).1≠id:=fun i hi fw=>by
  have hp:=yj.1 h.Dk;have e:(L[j]).1=id:=by rw[he]
  rcases mK i j with h1|h1
  ·rw[←e];exact hp i j hi bZ h1
  ·rw[←e];exact fun eb=>hp j i bZ hi (by omega) eb.symm
 refine⟨fun p hp=>?_,yj.2 fun a b ha hb a8o=>?_⟩
 ·obtain⟨i,hi,rfl⟩:=gm hp;rw[uh] at hi;rw[Ec];split
  ·exact aD
  ·exact ca _ _ (bx i hi (by omega)) (h.get _ (aS hi))
 ·rw[uh] at ha hb;rw[Ec,Ec];split<;>split
  ·omega
  ·rename_i e _;exact fun eb=>bx b hb (by omega) eb.symm
  ·exact bx a ha (by omega)
  ·exact yj.1 h.Dk a b ha hb a8o
theorem Has.a8p{I:af}{L lu:List (Nat×List AV)}(h:Has I L)(aj:lu.Sublist L):Has I lu:=⟨fun p hp=>h.get p (aj.subset hp),h.Dk.sublist aj⟩
def pK:List (Nat×AV)→Nat→Option AV
 |[],_=>none
 |(j,v)::L,i=>cond (Nat.beq i j) (some v) (pK L i)
def cq(env:Env)(n:Nat)(L:List (Nat×AV))(g:Nat→AV):aC→Option AV
 | .t i=>cond (Nat.blt i n) (match pK L i with|some v=>some v|none=>some (g i)) none
 | .c v=>some v
 | .g j=>match env.pd j with|some v=>some (.cZ true v)|none=>none
theorem Ha{g:Nat→AV}:∀ {L:List (Nat×AV)} (i:Nat),bC L g i=(match pK L i with|some v=>v|none=>g i)
 |[],i=>rfl
 |(j,v)::L,i=>by
  show cond (Nat.beq i j) v (bC L g i)=(match cond (Nat.beq i j) (some v) (pK L i) with|some v=>v|none=>g i);cases Nat.beq i j with
  |true=>rfl
  |false=>exact Ha i
theorem m1(env:Env)(n:Nat)(L:List (Nat×AV))(g:Nat→AV):ik env n (bC L g)=cq env n L g:=by
 funext x
 cases x with
 |t i=>
  show cond (Nat.blt i n) (some (bC L g i)) none=cond (Nat.blt i n) (match pK L i with|some v=>some v|none=>some (g i)) none;rw[Ha];cases pK L i<;>rfl
 |c v=>rfl
 |g j=>rfl
def wtL(q:Option (Nat×Bool))(n:Nat)(L:List (Nat×AV)):Bool:=
 match q with
 |none=>true
 |some (d,w)=>cond (Nat.blt d n) (match pK L d with|some (.b x)=>x==w|_=>false) false
def offL(q:Option (Nat×Bool))(n:Nat)(L:List (Nat×AV)):Bool:=
 match q with
 |none=>false
 |some (d,w)=>cond (Nat.blt d n) (match pK L d with|some (.b x)=>!(x==w)|some _=>true|none=>false) false
theorem rR{q:Option (Nat×Bool)}{n:Nat}{L:List (Nat×AV)}{g:Nat→AV}(h:wtL q n L=true):mq q n (bC L g)=true:=by
 cases q with
 |none=>rfl
 |some p=>
  obtain⟨d,w⟩:=p;have h:cond (Nat.blt d n) (match pK L d with|some (.b x)=>x==w|_=>false) false=true:=h;show cond (Nat.blt d n) (match bC L g d with| .b x=>x==w|_=>false) false=true;cases hb:Nat.blt d n with
  |false=>rw[hb] at h;cases h
  |true=>
   rw[hb,cond_true] at h;rw[cond_true,Ha];split at h
   ·rename_i ar;rw[ar];exact h
   ·cases h
theorem Up{q:Option (Nat×Bool)}{n:Nat}{L:List (Nat×AV)}{g:Nat→AV}(h:offL q n L=true):mq q n (bC L g)=false:=by
 cases q with
 |none=>cases h
 |some p=>
  obtain⟨d,w⟩:=p;have h:cond (Nat.blt d n) (match pK L d with|some (.b x)=>!(x==w)|some _=>true|none=>false) false=true:=h;show cond (Nat.blt d n) (match bC L g d with| .b x=>x==w|_=>false) false=false;cases hb:Nat.blt d n with
  |false=>rw[hb] at h;cases h
  |true=>
   rw[hb,cond_true] at h;rw[cond_true,Ha];split at h
   ·rename_i ar;rw[ar];simpa using h
   ·rename_i x hx ar;rw[ar];clear ar;cases x with
    |b y=>exact absurd rfl (hx y)
    |_=>rfl
   ·cases h
namespace W
section
variable {env:Env}{aI:Option Nat}{D:List (Nat ⊕ (AV×List AV))}{n:Nat}{F:List (Nat×AV)}{z:Nat→AV}{I:af}{Q:e5}
theorem sq{a b:bB}(h:bl env aI D n a (bC F z) I (fun x f I=>match x with| .normal=>bl env aI D n b f I Q|x=>Q x f I)):bl env aI D n (.seq a b) (bC F z) I Q:=GoF.seq h
theorem v8(h:Q .normal (bC F z) I):bl env aI D n .skip (bC F z) I Q:=GoF.skip h
theorem Dm{J:aC}{a b:bB}(ab:cq env n F z J=some (.b true))(h:bl env aI D n a (bC F z) I Q):bl env aI D n (.cond J a b) (bC F z) I Q:=GoF.z6 (t:=true) (by rw[m1];exact ab) (fun _=>h) fun h=>by cases h
theorem uI{J:aC}{a b:bB}(ab:cq env n F z J=some (.b false))(h:bl env aI D n b (bC F z) I Q):bl env aI D n (.cond J a b) (bC F z) I Q:=GoF.z6 (t:=false) (by rw[m1];exact ab) (fun h=>by cases h) fun _=>h
theorem a8q{J:aC}{a b:bB}{t:Bool}(ab:cq env n F z J=some (.b t))(ht:t=true→bl env aI D n a (bC F z) I Q)(hf:t=false→bl env aI D n b (bC F z) I Q):bl env aI D n (.cond J a b) (bC F z) I Q:=GoF.z6 (by rw[m1];exact ab) ht hf
end
section
variable {b0:lv}{env:Env}{aI:Option Nat}{D:List (Nat ⊕ (AV×List AV))}{n:Nat}{F:List (Nat×AV)}{z:Nat→AV}{I:af}{Q:e5}
theorem rg{ops:List a1}(h:bL .pl env aI D n ops (bC F z) I Q):bl env aI D n (.region ops) (bC F z) I Q:=GoF.region h
theorem Hb{ops:List a1}(aj:swapT ops=true)(h:bL (.hF ops.length []) env aI D n ops (bC F z) I Q):bl env aI D n (.draw ops) (bC F z) I Q:=GoF.a8l aj h
theorem nil(h:Q .normal (bC F z) I):bL .pl env aI D n [] (bC F z) I Q:=gV.nil h
theorem a8r{N:Nat}(h:Q .normal (bC F z) I):bL (.hF N []) env aI D n [] (bC F z) I Q:=eB.nil rfl trivial h
theorem now{N:Nat}{c5:mr}{ops:List a1}(l cF:mr)(h1:Mr N ops.length c5=l)(h2:Un N ops.length c5=cF)(hh:rQ I l)(h:bL (.hF N cF) env aI D n ops (bC F z) I Q):bL (.hF N c5) env aI D n ops (bC F z) I Q:=eB.now l cF h1 h2 hh h
theorem val{d:Nat}{op:AOp}{g:Option (Nat×Bool)}{ops:List a1}{v:AV}{aq:af}(au:Nat.blt d n=true)(hw:wtL g n F=true)(ab:opx 0 (cq env n F z) I op=some (.val v aq))(h:bL b0 env aI D n ops (bC ((d,v)::F) z) aq Q):bL b0 env aI D n (⟨some d,op,g,[]⟩::ops) (bC F z) I Q:=by
 cases b0 with
 |pl=>exact gV.val au (rR hw) (by rw[m1];exact ab) h
 |hF N c5=>exact eB.val (fun x e=>by cases e;exact au) (rR hw) (by rw[m1];exact ab) h
theorem uw{op:AOp}{g:Option (Nat×Bool)}{ops:List a1}{v:AV}{aq:af}(hw:wtL g n F=true)(ab:opx 0 (cq env n F z) I op=some (.val v aq))(h:bL b0 env aI D n ops (bC F z) aq Q):bL b0 env aI D n (⟨none,op,g,[]⟩::ops) (bC F z) I Q:=by
 cases b0 with
 |pl=>exact gV.uw (rR hw) (by rw[m1];exact ab) h
 |hF N c5=>exact eB.val (fun x e=>by cases e) (rR hw) (by rw[m1];exact ab) h
theorem off{d:Nat}{op:AOp}{g:Option (Nat×Bool)}{wn:List Nat}{ops:List a1}(au:Nat.blt d n=true)(hw:offL g n F=true)(h:bL b0 env aI D n ops (bC ((d,dR)::F) z) I Q):bL b0 env aI D n (⟨some d,op,g,wn⟩::ops) (bC F z) I Q:=by
 cases b0 with
 |pl=>exact gV.off au (Up hw) h
 |hF N c5=>exact eB.off au (Up hw) h
def a8s:AOp→Bool
 | .b6 _=>true| .pick _ _ _=>true| .build _ _=>true| .nilCheck _=>true| .w5 _ _ _=>true| .lN _ _ _ _=>true| .not _=>true| .vn _ _ _=>true| .BD _ _=>true
 | .kX _ _ _ _ _=>true| .zc _ _ _ _ _=>true| .BE _ _ _=>true| .fieldAddr _ _ _=>true| .field _ _ _=>true| .Fk _ _ _ _=>true| .cK _ _ _=>true| .extract _ _=>true| .Fo _=>true
 |_=>false
theorem go{d:Nat}{op:AOp}{g:Option (Nat×Bool)}{ops:List a1}{v:AV}{aq:af}(_hb:a8s op=true)(au:Nat.blt d n=true)(hw:wtL g n F=true)(ab:opx 0 (cq env n F z) I op=some (.val v aq))(h:bL b0 env aI D n ops (bC ((d,v)::F) z) aq Q):bL b0 env aI D n (⟨some d,op,g,[]⟩::ops) (bC F z) I Q:=val au hw ab h
theorem bin{d:Nat}{op:BinOp}{x y:aC}{g:Option (Nat×Bool)}{ops:List a1}{a b v:AV}(au:Nat.blt d n=true)(hw:wtL g n F=true)(h1:cq env n F z x=some a)(h2:cq env n F z y=some b)(h3:binop op a b=some v)(h:bL b0 env aI D n ops (bC ((d,v)::F) z) I Q):bL b0 env aI D n (⟨some d,.bin op x y,g,[]⟩::ops) (bC F z) I Q:=val au hw (Mk a b v h1 h2 h3) h
def cmpP(op:BinOp)(a b:Nat):Prop:=
 match op with
 | .eql=>a=b
 | .neq=>¬a=b
 | .lss=>a<b
 | .leq=>a≤b
 | .gtr=>b<a
 | .geq=>b≤a
 |_=>False
def Uq:BinOp→Bool
 | .eql=>true
 | .neq=>true
 | .lss=>true
 | .leq=>true
 | .gtr=>true
 | .geq=>true
 |_=>false
theorem a8t{op:BinOp}{a b:Nat}(h:cmpP op a b):cmpO op a b=some (.b true):=by
 cases op<;>first
  |(have h:_:=h;simp only[cmpP] at h;simp only[cmpO,decide_eq_true h];done)
  |(have h:_:=h;simp only[cmpP] at h;simp only[cmpO,decide_eq_false h,Bool.not_false];done)
  |exact h.elim
theorem a8u{op:BinOp}{a b:Nat}(ah:Uq op=true)(h:¬cmpP op a b):cmpO op a b=some (.b false):=by
 cases op<;>first
  |(simp only[cmpP] at h;simp only[cmpO,decide_eq_false h];done)
  |(simp only[cmpP,Decidable.not_not] at h;simp only[cmpO,decide_eq_true h,Fc];done)
  |cases ah
theorem ct{d:Nat}{op:BinOp}{x y:aC}{g:Option (Nat×Bool)}{ops:List a1}{k:IntKind}{a b:Nat}(au:Nat.blt d n=true)(hw:wtL g n F=true)(h1:cq env n F z x=some (.i k (Int.ofNat a)))(h2:cq env n F z y=some (.i k (Int.ofNat b)))(h3:cmpP op a b)(h:bL b0 env aI D n ops (bC ((d,.b true)::F) z) I Q):bL b0 env aI D n (⟨some d,.bin op x y,g,[]⟩::ops) (bC F z) I Q:=bin au hw h1 h2 (G1 (a8t h3)) h
theorem cf{d:Nat}{op:BinOp}{x y:aC}{g:Option (Nat×Bool)}{ops:List a1}{k:IntKind}{a b:Nat}(au:Nat.blt d n=true)(hw:wtL g n F=true)(ah:Uq op=true)(h1:cq env n F z x=some (.i k (Int.ofNat a)))(h2:cq env n F z y=some (.i k (Int.ofNat b)))(h3:¬cmpP op a b)(h:bL b0 env aI D n ops (bC ((d,.b false)::F) z) I Q):bL b0 env aI D n (⟨some d,.bin op x y,g,[]⟩::ops) (bC F z) I Q:=bin au hw h1 h2 (G1 (a8u ah h3)) h
theorem Ms{d:Nat}{op:BinOp}{x y:aC}{g:Option (Nat×Bool)}{ops:List a1}{k:IntKind}{a b:Nat}{v:AV}(au:Nat.blt d n=true)(hw:wtL g n F=true)(h1:cq env n F z x=some (.i k (Int.ofNat a)))(h2:cq env n F z y=some (.i k (Int.ofNat b)))(h3:cmpO op a b=some v)(h:bL b0 env aI D n ops (bC ((d,v)::F) z) I Q):bL b0 env aI D n (⟨some d,.bin op x y,g,[]⟩::ops) (bC F z) I Q:=bin au hw h1 h2 (G1 h3) h
theorem len{d k m:Nat}{x:aC}{g:Option (Nat×Bool)}{ops:List a1}{v:AV}(au:Nat.blt d n=true)(hw:wtL g n F=true)(h1:cq env n F z x=some v)(h2:lenA I k v=some m)(h:bL b0 env aI D n ops (bC ((d,ay m)::F) z) I Q):bL b0 env aI D n (⟨some d,.len k x,g,[]⟩::ops) (bC F z) I Q:=val au hw (Uh h1 h2) h
theorem cw{d:Nat}{ad:Option Nat}{x i:aC}{g:Option (Nat×Bool)}{ops:List a1}{k:IntKind}{a v:AV}{j:Nat}(au:Nat.blt d n=true)(hw:wtL g n F=true)(h1:cq env n F z x=some a)(h2:cq env n F z i=some (.i k (Int.ofNat j)))(h3:idxSlA ad a j=some v)(h:bL b0 env aI D n ops (bC ((d,v)::F) z) I Q):bL b0 env aI D n (⟨some d,.cK ad x i,g,[]⟩::ops) (bC F z) I Q:=val au hw (a7V k a j v h1 h2 h3) h
theorem iG{d:Nat}{ad:Option Nat}{x:aC}{g:Option (Nat×Bool)}{ops:List a1}{J:Bool}{v:AV}(au:Nat.blt d n=true)(hw:wtL g n F=true)(h1:cq env n F z x=some (.cZ J v))(h2:conf ad v=true)(h:bL b0 env aI D n ops (bC ((d,v)::F) z) I Q):bL b0 env aI D n (⟨some d,.load ad x,g,[]⟩::ops) (bC F z) I Q:=val au hw (rL _ _ h1 (by show(if conf ad v then some v else none)=_;rw[if_pos h2])) h
theorem bj{L:List (Nat×List AV)}(H:Has I L){d:Nat}{ad:Option Nat}{x:aC}{g:Option (Nat×Bool)}{ops:List a1}{id off:Nat}{c:List AV}{v:AV}(au:Nat.blt d n=true)(hw:wtL g n F=true)(h1:cq env n F z x=some (.p (some (id,off))))(hm:(id,c)∈L)(h2:fI ad (c.drop off)=some v)(h:bL b0 env aI D n ops (bC ((d,v)::F) z) I Q):bL b0 env aI D n (⟨some d,.load ad x,g,[]⟩::ops) (bC F z) I Q:=val au hw (rL _ _ h1 (jS (H.get _ hm) h2)) h
theorem lZ{N:Nat}{c5:mr}{L:List (Nat×List AV)}(H:Has I L){d:Nat}{ad:Option Nat}{x:aC}{g:Option (Nat×Bool)}{wn:List Nat}{ops:List a1}{id off:Nat}{c:List AV}{v:AV}(au:Nat.blt d n=true)(hw:wtL g n F=true)(h1:cq env n F z x=some (.p (some (id,off))))(hm:(id,c)∈L)(h2:fI ad (c.drop off)=some v)(av:AV.eqb env.aV v v=true)
  (h:bL (.hF N (wn.map (fun q=>(q,id,AO.cells c))++c5)) env aI D n ops (bC ((d,v)::F) z) I Q):bL (.hF N c5) env aI D n (⟨some d,.load ad x,g,wn⟩::ops) (bC F z) I Q:=eB.lZ (H.get _ hm) au (rR hw) (fun s aj=>by rw[m1];exact rL _ _ h1 (jS aj h2)) av h
theorem Aa{N:Nat}{c5:mr}{d:Nat}{op:AOp}{g:Option (Nat×Bool)}{wn:List Nat}{ops:List a1}{v:AV}(Di:dw (fun q=>Nat.ble N (q+ops.length)&&Nat.ble q N) wn=true)(au:Nat.blt d n=true)(hw:wtL g n F=true)(ab:∀s:af,opx 0 (cq env n F z) s op=some (.val v s))(av:AV.eqb env.aV v v=true)(h:bL (.hF N c5) env aI D n ops (bC ((d,v)::F) z) I Q):bL (.hF N c5) env aI D n (⟨some d,op,g,wn⟩::ops) (bC F z) I Q:=eB.Aa Di au (rR hw) (fun s=>by rw[m1];exact ab s) av h
theorem bN{L:List (Nat×List AV)}(H:Has I L){d:Nat}{v:AV}{g:Option (Nat×Bool)}{ops:List a1}{c:List AV}{k:Nat}(hn:I.next=k)(au:Nat.blt d n=true)(hw:wtL g n F=true)(ah:v.cells=c)(h:∀U:af,U.next=k+1→Has U ((k,c)::L)→(∀i J,I.get i=some J→U.get i=some J)→bL b0 env aI D n ops (bC ((d,.p (some (k,0)))::F) z) U Q):bL b0 env aI D n (⟨some d,.alloc v,g,[]⟩::ops) (bC F z) I Q:=by
 subst hn;have ca:∀i J,I.get i=some J→(I.push (.cells c)).get i=some J:=fun i J ab=>by rw[af.iB trivial _ (af.bW ab)];exact ab
 refine val (v:=kY I.next 0) (aq:=I.push (.cells c)) au hw (by rw[←ah];rfl) (h (I.push (.cells c)) rfl (H.push rfl (af.md _) ca) ca)
theorem en{L:List (Nat×List AV)}(H:Has I L){d:Nat}{x:aC}{v:AV}{g:Option (Nat×Bool)}{ops:List a1}{c:List AV}{k:Nat}(hn:I.next=k)(au:Nat.blt d n=true)(hw:wtL g n F=true)(av:cq env n F z x=some v)(hval:v.val=true)(ah:v.cells=c)(h:∀U:af,U.next=k+1→Has U ((k,c)::L)→(∀i J,I.get i=some J→U.get i=some J)→bL b0 env aI D n ops (bC ((d,.p (some (k,0)))::F) z) U Q):bL b0 env aI D n (⟨some d,.box x,g,[]⟩::ops) (bC F z) I Q:=by
 subst hn;have ca:∀i J,I.get i=some J→(I.push (.cells c)).get i=some J:=fun i J ab=>by rw[af.iB trivial _ (af.bW ab)];exact ab
 refine val (v:=kY I.next 0) (aq:=I.push (.cells c)) au hw ?_ (h (I.push (.cells c)) rfl (H.push rfl (af.md _) ca) ca);show(match cq env n F z x with|some v=>cond v.val (some (bq.val (kY I.next 0) (I.push (.cells v.cells)))) none|none=>none)=_;rw[av];show cond v.val _ _=_;rw[hval,cond_true,ah]
theorem st{L:List (Nat×List AV)}(H:Has I L)(j:Nat){ad:Option Nat}{a x:aC}{g:Option (Nat×Bool)}{ops:List a1}{id off:Nat}{v:AV}{c aQ:List AV}(hw:wtL g n F=true)(h1:cq env n F z a=some (.p (some (id,off))))(az:L[j]? =some (id,c))(h2:cq env n F z x=some v)(dV:conf ad v=true)(ah:storeCells c off v.cells=some aQ)
  (h:∀U:af,U.next=I.next→Has U (L.set j (id,aQ))→(∀i J,i≠id→I.get i=some J→U.get i=some J)→bL b0 env aI D n ops (bC F z) U Q):bL b0 env aI D n (⟨none,.store ad a x,g,[]⟩::ops) (bC F z) I Q:=by
 have aj:=H.get _ (qb az);exact uw hw (a8b aj h1 h2 dV ah) (h _ rfl (H.set j az (j_ aj).1 (j_ aj).2) (j_ aj).2)
theorem mv{L:List (Nat×List AV)}(H:Has I L){d:Nat}{v0 v:AV}{ad:Option Nat}{x:aC}{ops:List a1}{c:List AV}{k:Nat}(hn:I.next=k)(au:Nat.blt d n=true)(hx:cq env n ((d,.p (some (k,0)))::F) z x=some v)(dV:conf ad v=true)(ah:v.cells=c)(ar:c.length=v0.cells.length)(h1:Nat.beq d d=true)
  (h:∀U:af,U.next=k+1→Has U ((k,c)::L)→(∀i J,I.get i=some J→U.get i=some J)→bL b0 env aI D n ops (bC ((d,.p (some (k,0)))::F) z) U Q):bL b0 env aI D n (⟨some d,.alloc v0,none,[]⟩::⟨none,.store ad (.t d) x,none,[]⟩::ops) (bC F z) I Q:=by
 refine bN H hn au rfl rfl fun U aP a0 bF=>?_;have aM:cq env n ((d,.p (some (k,0)))::F) z (.t d)=some (.p (some (k,0))):=by
  show cond (Nat.blt d n) (match cond (Nat.beq d d) (some _) _ with|some v=>some v|none=>some (z d)) none=_;rw[au,h1];rfl
 refine st a0 0 rfl aM rfl hx dV (by rw[ah];exact storeAll ar) fun bd cC c0 ej=>h bd (cC.trans aP) c0 fun i J ab=>ej i J ?_ (bF i J ab);have:=af.bW ab;omega
theorem cg{b:dW}{K:Nat→List AV→AV→Prop}{d:Nat}{op:AOp}{g:Option (Nat×Bool)}{ops:List a1}{fn:Nat}{args aR:List AV}{r:AV}(hf:∀g aR r bs,K g aR r→K g aR bs→r=bs)(e:b.ext fn=0∧b.pure fn=true)(cl:K fn aR r)
  (au:Nat.blt d n=true) (hw:wtL g n F=true) (ab:opx 0 (cq (b.a4 K) n F z) I op=some (.call (.f (.func fn) [] []) args)) (ha:mapO (bh I (b.aV+1000)) args=some aR) (h:bL b0 (b.a4 K) aI D n ops (bC ((d,r)::F) z) I Q):bL b0 (b.a4 K) aI D n (⟨some d,op,g,[]⟩::ops) (bC F z) I Q:=by
 cases b0 with
 |pl=>exact gV.known hf e.1 e.2 cl au (rR hw) (by rw[m1];exact ab) ha h
 |hF N c5=>
  exact eB.call (R:=fun x U=>x= .ok r∧U=I) au (rR hw) (by rw[m1];exact ab) (b9.spec e.1 e.2 (by rw[yi,fV];exact ha) (Uc hf cl) ⟨rfl,rfl⟩) fun bs U ⟨aM,e2⟩=>⟨_,aM,by subst e2;exact h⟩
theorem dX{d:Nat}{op:AOp}{g:Option (Nat×Bool)}{ops:List a1}{b_:AV}{args:List AV}{R:dM→af→Prop}(au:Nat.blt d n=true)(hw:wtL g n F=true)(ab:opx 0 (cq env n F z) I op=some (.call b_ args))
  (ah:b9 env 0 b_ args I R) (h:∀r U,R r U→∃v,r= .ok v∧bL b0 env aI D n ops (bC ((d,v)::F) z) U Q):bL b0 env aI D n (⟨some d,op,g,[]⟩::ops) (bC F z) I Q:=by
 cases b0 with
 |pl=>exact gV.a8h au (rR hw) (by rw[m1];exact ab) ah h
 |hF N c5=>exact eB.call au (rR hw) (by rw[m1];exact ab) ah h
end
section
variable {b0:lv}{env:Env}{aI:Option Nat}{D:List (Nat ⊕ (AV×List AV))}{n:Nat}{f:Nat→AV}{I:af}{Q:e5}{d:Option Nat}{g:Option (Nat×Bool)}{wn:List Nat}{ops:List a1}
theorem Hc{ad:Option Nat}{x:aC}(h:bL b0 env aI D n (⟨d,.load ad x,g,[]⟩::ops) f I Q):bL b0 env aI D n (⟨d,.load ad x,g,[]⟩::ops) f I Q:=h
theorem Ur{ad:Option Nat}{x:aC}{a:Nat}{l:List Nat}(h:bL b0 env aI D n (⟨d,.load ad x,g,a::l⟩::ops) f I Q):bL b0 env aI D n (⟨d,.load ad x,g,a::l⟩::ops) f I Q:=h
theorem Us{op:BinOp}{x y:aC}(h:bL b0 env aI D n (⟨d,.bin op x y,g,wn⟩::ops) f I Q):bL b0 env aI D n (⟨d,.bin op x y,g,wn⟩::ops) f I Q:=h
theorem Ut{ad:Option Nat}{x y:aC}(h:bL b0 env aI D n (⟨d,.cK ad x y,g,wn⟩::ops) f I Q):bL b0 env aI D n (⟨d,.cK ad x y,g,wn⟩::ops) f I Q:=h
theorem Uu{k:Nat}{x:aC}(h:bL b0 env aI D n (⟨d,.len k x,g,wn⟩::ops) f I Q):bL b0 env aI D n (⟨d,.len k x,g,wn⟩::ops) f I Q:=h
end
theorem lt{b0:lv}{env:Env}{aI:Option Nat}{D:List (Nat ⊕ (AV×List AV))}{n:Nat}{F:List (Nat×AV)}{z:Nat→AV}{I:af}{Q:e5}{d:Nat}{ad:Option Nat}{x:aC}{g:Option (Nat×Bool)}{ops:List a1}{J:Bool}{v:AV}(au:Nat.blt d n=true)(hw:wtL g n F=true)(h1:cq env n F z x=some (.cZ J v))(h2:conf ad v=true)(h:bL b0 env aI D n ops (bC ((d,v)::F) z) I Q):bL b0 env aI D n (⟨some d,.load ad x,g,[]⟩::ops) (bC F z) I Q:=iG au hw h1 h2 h
def ku:Nat→List AV→List (Nat×AV)
 |_,[]=>[]
 |i,a::l=>(i,a)::ku (i+1) l
theorem Hd{f:Nat→AV}:∀(l:List AV) (i:Nat),(∀j a,l[j]? =some a→f (i+j)=a)→sat (ku i l) f
 |[],_,_=>trivial
 |a::l,i,h=>⟨h 0 a rfl,Hd l (i+1) fun j cd e=>by have:=h (j+1) cd e;rwa[show i+(j+1)=i+1+j from by omega] at this⟩
theorem args{env:Env}{aI:Option Nat}{D:List (Nat ⊕ (AV×List AV))}{n:Nat}{c:bB}{as:List AV}{I:af}{Q:e5}(h:∀z,bl env aI D n c (bC (ku 0 as) z) I Q):bl env aI D n c (eS as) I Q:=
 GoF.norm (ku 0 as) (Hd as 0 fun j a e=>by show as.getD (0+j) dR=a;rw[hO,fU,e];rfl) h
theorem code{env:Env}{I:af}{fn:Nat}{cz:ch}{body:bB}{hF:Nat}{first cap args:List AV}{R:dM→af→Prop}(e:env.ext fn=0)(hp:env.pure fn=false)(hf:env.funcs fn=some cz)(hb:cz.body=some body)
  (hn:(Nat.beq (first++args++cap).length cz.lP&&Nat.ble (first++args++cap).length cz.ntmps)=true) (eM:cz.results=[(hF,none)]) (oZ:Nat.blt hF cz.ntmps=true)
  (h:∀z,bl env none [] cz.ntmps body (bC (ku 0 (first++args++cap)) z) I (fun x dq aq=>x= .ret∧R (.ok (dq hF)) aq)):b9 env 0 (.f (.func fn) first cap) args I R:=b9.code e hp hf hb hn eM oZ (W.args h)
theorem rP{env:Env}{I:af}{fn:Nat}{cz:ch}{body:bB}{first cap args:List AV}{R:dM→af→Prop}(e:env.ext fn=0)(hp:env.pure fn=false)(hf:env.funcs fn=some cz)(hb:cz.body=some body)
  (hn:(Nat.beq (first++args++cap).length cz.lP&&Nat.ble (first++args++cap).length cz.ntmps)=true) (eM:cz.results=[])
  (h:∀z,bl env none [] cz.ntmps body (bC (ku 0 (first++args++cap)) z) I (fun x _ aq=>(x= .ret∨x= .normal)∧R (.ok (.bJ [])) aq)):b9 env 0 (.f (.func fn) first cap) args I R:=b9.rP e hp hf hb hn eM (W.args h)
end W
def AV.lf:AV→Bool
 | .b _=>true| .i _ _=>true| .s _=>true| .p _=>true| .ak _ _ _ _ _=>true| .aB=>true| .m _=>true| .iP=>true| .fz=>true| .y _=>true| .g1 _ _=>true
 |_=>false
theorem od{n:Nat}{v:AV}(h:v.lf=true):AV.eqb (n+1) v v=true:=by
 cases v with
 |b x=>show(x==x)=true;simp
 |i k x=>show(decide (k=k)&&decide (x=x))=true;simp
 |s l=>exact uE l
 |p a=>cases a with
  |none=>rfl
  |some a=>show(Nat.beq a.1 a.1&&Nat.beq a.2 a.2)=true;simp
 |ak a b c d e=>show(Nat.beq a a&&Nat.beq b b&&Nat.beq c c&&decide (d=d)&&decide (e=e))=true;simp
 |aB=>rfl
 |m r=>cases r with
  |none=>rfl
  |some r=>show Nat.beq r r=true;simp
 |iP=>rfl
 |fz=>rfl
 |y i=>show Nat.beq i i=true;simp
 |g1 J i=>show((J==J)&&Nat.beq i i)=true;simp
 |_=>cases h
theorem Uv{n:Nat}{l:List AV}(h:dw AV.lf l=true):AV.eqb (n+2) (.ag l) (.ag l)=true:=rM fun x hx=>od (G0 h x hx)
section
variable {P:Program}{env:Env}
end
end
section
open Go Go.RowKit
theorem run_mclone{P:Program}(w:World){r:Nat}{es:Array MapEntry}{clock:Nat}(t:TypeId)(hb:w.heap[r]? =some (.map es clock)):
  (Extern.MapsClone.clone #[.iface t (.map (some r))]).run P w= .ok (.iface t (.map (some w.heap.size))) (w.alloc (.map es clock)):=by
 have e:Extern.MapsClone.clone #[.iface t (.map (some r))]=(getObj r >>= fun J=>match J with
   | .map entries clock=>(newObj (.map entries clock) >>= fun n=>pure (.iface t (.map (some n))))
   |_=>stuck "maps.clone: a map expected"):=rfl
 rw[e];simp[MapKept.run_getObj_map hb,Result.andThen,go_sem]
theorem a8v{P:Program}{g:Nat}{fn:Func}(hf:P.funcs[g]? =some fn)(qC:(fn.name== "runtime.NumGoroutine")=false)(hb:fn.body.isNone=true)(hn:Extern.findNext fn=none)(he:Extern.find fn=some Extern.MapsClone.clone)
  (t:TypeId) (r:Nat) (es:Array MapEntry) (clock:Nat) (w:World) (us cs:Array Value) (jk:us++cs= #[.iface t (.map (some r))]) (al:w.heap[r]? =some (.map es clock)):
  ∃an,(invoke (.fn (.func g) cs) us).run P w= .ok (.value (.iface t (.map (some w.heap.size)))) an∧an.heap=w.heap.push (.map es clock)∧an.os=w.os∧an.tape=w.tape∧an.output=w.output:=by
 refine⟨w.alloc (.map es clock),?_,rfl,rfl,rfl,rfl⟩;show(callFunc g (us++cs)).run P w=_;rw[run_callFunc_extern hf qC hb hn he,jk,run_mclone w t al];rfl
end
end Go.Lyc
end
