/-
  What functions of the program compute: walks, part 1. No conditions: definitions and laws.
-/
import Derived.Test.YtiakhfkclbnpoaaGreatDoorNames
set_option linter.all false
noncomputable section
namespace Go.Lyc
def P5:=@List.drop_eq_getElem_cons
def J9:=@Nat.or_lt_two_pow
def J_:=@Nat.pow_lt_pow_right
def E5:=@Nat.two_pow_pos
def gN:=@List.flatMap_append
def lg:=@List.length_nil
def lO:=@List.take_succ_eq_append_getElem
def B0:=@List.take_length
def B1:=@List.filter_append
def E6:=@List.length_filter_le
def P6:=@List.set_eq_take_append_cons_drop
def P7:=@Bool.or_false
def xD:=@List.range_succ
def B2:=@List.map_nil
def a0r:=@Bool.or_eq_false_iff
def qk:=@List.length_replicate
def uj:=@Bool.false_and
def P8:=@List.mem_range
def xE:=@List.getElem_concat_length
def uk:=@Bool.true_or
def ql:=@List.mem_or_eq_of_mem_set
def Ka:=@List.map_id'
def a0s:=@List.getElem?_append_right
def E7:=@List.getElem?_append_left
set_option maxHeartbeats 0
variable [Tok][TokOk]
open Go.RowKit Go.Lyc.T
structure nb(W:Nat->Prop)(J ai:ae):Prop where
 next:J.next<=ai.next
 aP:∀i o,¬W i->J.get i=some o->ai.get i=some o
def nb.refl{W:Nat->Prop}{J:ae}:nb W J J:=⟨bs _,λ_ _ _ h=>h⟩
def nb.trans{W:Nat->Prop}{J b8 cT:ae}(h:nb W J b8)(h':nb W b8 cT):nb W J cT:=⟨qH h.next h'.next,λi o hi ho=>h'.aP i o hi (h.aP i o hi ho)⟩
def nb.of{W:Nat->Prop}{J b8:ae}(hn:J.next<=b8.next)(h:∀i o,J.get i=some o->b8.get i=some o):nb W J b8:=⟨hn,λi o _ ho=>h i o ho⟩
structure bk(env:Env)(g:Nat)(b3:aN):Prop where
 f:env.funcs g=some b3
 e:env.ext g=0
 p:env.pure g=false
def W.jD{env:Env}{aR:Option Nat}{D:List (Nat ⊕ (AV×List AV))}{n:Nat}{c:bF}{l:List AV}{J:ae}{Q:dZ}(h:∀z,Has J []->bL env aR D n c (bB (W.pg 0 l) z) J Q):bL env aR D n c (fv l) J Q:=W.args λz=>h z Has.nil
def W.xF{env:Env}{J:ae}{fn:Nat}{b3:aN}{body:bF}{dw:Nat}{first cap args:List AV}{ag:en->ae->Prop}(hh:bk env fn b3)(hb:b3.body=some body)(hn:(Nat.beq (first++args++cap).length b3.j0&&Nat.ble (first++args++cap).length b3.ntmps)=true)(df:b3.results=[(dw,none)])(mH:Nat.blt dw b3.ntmps=true)(h:∀z,Has J []->bL env none [] b3.ntmps body (bB (W.pg 0 (first++args++cap)) z) J (λx b_ ai=>x=.ret/\ag (.ok (b_ dw)) ai)):bE env 0 (.f (.func fn) first cap) args J ag:=W.code hh.e hh.p hh.f hb hn df mH λz=>h z Has.nil
def W.b8N{env:Env}{J:ae}{fn:Nat}{b3:aN}{body:bF}{first cap args:List AV}{ag:en->ae->Prop}(hh:bk env fn b3)(hb:b3.body=some body)(hn:(Nat.beq (first++args++cap).length b3.j0&&Nat.ble (first++args++cap).length b3.ntmps)=true)(df:b3.results=[])(h:∀z,Has J []->bL env none [] b3.ntmps body (bB (W.pg 0 (first++args++cap)) z) J (λx _ ai=>(x=.ret\/x=.normal)/\ag (.ok (.a0 [])) ai)):bE env 0 (.f (.func fn) first cap) args J ag:=W.pe hh.e hh.p hh.f hb hn df λz=>h z Has.nil
def a0t{env:Env}(au:bk env xm rS)(o:Bool){W:Nat->Prop}{B:Nat}(hW:∀i,W i->i<B)(eV:List Fm->ae->Prop)(aW:∀l J ai,eV l J->J.next<=ai.next->(∀i o,J.get i=some o->ai.get i=some o)->eV l ai)(g_:AV)
  (hy:∀f rest J,f.jC->B<=J.next->eV (f::rest) J->bE env 0 g_ [f.A o] J (λr ai=>r= .ok (.b true)/\eV rest ai/\nb W J ai)):
  ∀(d:Nat) (f:Fm) (rest:List Fm) (J:ae),f.dep<=d->f.jC->B<=J.next->eV (f.parts++rest) J->bE env 0 (.f (.func xm) [] []) [f.A o,g_] J (λr ai=>r= .ok (.b true)/\eV rest ai/\nb W J ai)
 |0,f,_,_,h,_,_,_=>by rw[Fm.qf] at h;omega
 |d+1,F,rest,di,hd,b2,ca,h0=>by
  refine bE.code au.e au.p au.f I I I I ?_;generalize ay:di.next=k at ca;refine ak.seq (ak.region (aK.box (v:=F.A o) (c:=F.cells o) k ay I I I I I λJ hn h1 bx=>?_));have vR:=aW _ _ _ h0 U bx;have jE:nb W di J:=.of U bx;have nJ:¬W k:=λh=>by have:=hW _ h;omega
  rw[Fm.parts_eq] at vR;refine ka ?_;refine ak.seq (ak.seq (ak.region ?_));refine ka ?_;refine aK.aA h1 I I I (Fm.aA o F) ?_;refine aK.jh I I I (hy F _ J b2 U vR) λr τ ⟨aL,nK,nL⟩=>⟨_,aL,?_⟩
  replace h1:=nL.aP _ _ nJ h1;have h6:=nL.next;refine ka ?_;refine ak.jg I (λh=>by cases h) (λ_=>?_);refine ak.skip ?_;refine ak.seq (ak.seq (ak.region ?_));refine ka ?_;refine aK.aA h1 I I I (Fm.b5v o F) ?_;refine aK.len I I I b5x ?_;refine ka ?_;refine ak.block ?_;refine ak.loop (λm f ai=>k+1<=ai.next/\nb W di ai/\∃i,i+m=F.sub.length/\eV (Fm.sB (F.sub.drop i)++rest) ai∧
   sat [(1,g_),(12,gp o F.e4),(13,ah F.sub.length),(14,ah i)] f) ?_ F.sub.length ⟨U,jE.trans nL,0,U,by rw[He];exact nK,rfl,rfl,rfl,rfl,trivial⟩
  clear h1 vR nK jE nL hn h6 bx;intro m g J ⟨hn,jE,i,hi,vR,hL⟩;refine ak.norm _ hL λg=>?_;clear hL;refine IZ ?_;refine ak.jg I (λht=>?_) (λhf=>?_)
  ·have hlt:i<F.sub.length:=of_decide_eq_true ht;have c9t:=b2.b5z;rw[P5 hlt,Fm.sB,iE] at vR;generalize hg:F.sub[i]=G at vR;have a0u:G∈F.sub:=by rw[<-hg];exact gC hlt
   refine ak.skip (ak.seq (ak.block (ak.seq (ak.region ?_))));refine aK.idx (v:=.dh o (G.A o)) I I I I (by rw[<-hg];exact b5y hlt) ?_;refine aK.IN I I I (Fm.conf o G) ?_;refine aK.var (v:=G.A o) (c:=G.cells o) J.next I I I I (Fm.conf o G) I (Fm.len o G) λτ h6 aO bb=>?_;have nL:=jE.trans (.of (W:=W) U bb);have nK:=aW _ _ _ vR U bb;refine aK.nil (ak.seq (ak.region ?_));refine aK.aA aO I I I (Fm.aA o G) ?_;refine ka ?_;refine aK.jh I I I (a0t au o hW eV aW g_ hy d G _ τ (by have:=Fm.XU a0u;omega) (b2.sb G a0u) U nK) λr aB ⟨aL,P9,sJ⟩=>⟨_,aL,?_⟩
   have n9:=sJ.next;refine ka ?_;refine ak.jg I (λh=>by cases h) (λ_=>?_);refine ak.skip ?_;refine ak.region ?_;refine aK.bin (a:=ah i) (b:=ah 1) I I I I (sz U) ?_;refine ka ?_;exact⟨m-1,U,U,nL.trans sJ,i+1,U,P9,rfl,rfl,rfl,rfl,trivial⟩
  ·have m0:¬i<F.sub.length:=of_decide_eq_false hf;obtain rfl:i=F.sub.length:=by omega
   rw[List.drop_length] at vR;refine ak.exit ?_;refine IZ ?_;exact ak.ret ⟨rfl,rfl,vR,jE⟩
def b8O{env:Env}(au:bk env xm rS)(hw:bk env vJ uB)(o:Bool){W:Nat->Prop}{B:Nat}(hW:∀i,W i->i<B)(eV:List Fm->ae->Prop)(aW:∀l J ai,eV l J->J.next<=ai.next->(∀i o,J.get i=some o->ai.get i=some o)->eV l ai)(g_:AV)
  (hy:∀f rest J,f.jC->B<=J.next->eV (f::rest) J->bE env 0 g_ [f.A o] J (λr ai=>r= .ok (.b true)/\eV rest ai/\nb W J ai)) (F:Fm) (b2:F.jC) (rest:List Fm) (J:ae) (cA:Nat) (gO:J.get cA=some (.cells (F.cells o))) (ca:B<=J.next) (h0:eV (F.parts++rest) J):
  bE env 0 (.f (.func vJ) [] [.p (some (cA,0))]) [g_] J (λr ai=>r= .ok (.a0 [])/\eV rest ai/\nb W J ai):=by
 refine bE.pe hw.e hw.p hw.f I I I ?_;refine ak.region ?_;refine aK.aA gO I I I (Fm.aA o F) ?_;refine ka ?_;refine aK.jh I I I (a0t au o hW eV aW g_ hy _ F rest J (bs _) b2 ca h0) λr τ ⟨aL,h1,h2⟩=>⟨_,aL,?_⟩
 refine ka ?_;exact⟨.inr I,rfl,h1,h2⟩
def P_{env:Env}(hw:bk env BN Zx)(o:Bool)(F:Fm)(J:ae)(k:Nat)(ay:J.next=k):bE env 0 (.f (.func BN) [] []) [F.A o] J (λr ai=>r= .ok (.f (.func vJ) [] [.p (some (k,0))])/\ai.next=k+1/\ai.get k=some (.cells (F.cells o))/\∀i o,J.get i=some o->ai.get i=some o):=by
 refine bE.code hw.e hw.p hw.f I I I I ?_;refine ak.seq (ak.region (aK.box (v:=F.A o) (c:=F.cells o) k ay I I I I I λτ hn h1 bx=>?_));refine IZ ?_;exact ak.ret ⟨rfl,rfl,hn,h1,bx⟩
def dQ.walk{env:Env}{D:List (Nat ⊕ (AV×List AV))}{n:Nat}{f:Nat->AV}{J:ae}{Q:dZ}(au:bk env xm rS)(hw:bk env vJ uB)(o:Bool){pd:aJ}{p:Nat}{fM b:bF}{cA:Nat}{F:Fm}(W:Nat->Prop)(S:List Fm->ae->Prop)(k:Nat)(ay:J.next=k)
  (nE:dJ env n f pd=some (.f (.func vJ) [] [.p (some (cA,0))])) (aw:Nat.blt p n=true) (b2:F.jC) (gO:J.get cA=some (.cells (F.cells o))) (hW:∀i,W i->i<k) (cQ:∀l J ai,S l J->(∀i o,W i->J.get i=some o->ai.get i=some o)->S l ai) (h0:S F.parts J)
  (E8:∀G rest τ,G.jC->k+2<=τ.next->S (G::rest) τ->bL env (some (k+1)) [] n fM (dd f p (G.A o)) τ (λx f1 ec=>x= .normal/\nb W τ ec∧
   ∀a9,a9.next=ec.next->(∀i o,i≠k+1->ec.get i=some o->a9.get i=some o)->bL env (some (k+1)) [] n b f1 a9 (λx _ bu=>x= .normal/\S rest bu/\nb W a9 bu)))
  (E9:∀τ,S [] τ->k+2<=τ.next->τ.get k=some .eE->(∀i o,¬W i->J.get i=some o->τ.get i=some o)->Q .normal f τ):dQ env D (.inl k::D) n (.rangeFunc pd [p] fM b) f J Q:=by
 subst ay;refine dQ.range nE hw.e λal hc=>?_;generalize ay:J.next=k at *;have nJ:∀i,W i->i<k:=hW;have sn:((J.push .eE).push (.loop .ready none al [p] fM b k)).get (k+1)=some (.loop .ready none al [p] fM b k):=by
  have:=ae.jL (J:=J.push .eE) (.loop .ready none al [p] fM b k);rwa[show(J.push .eE).next=k+1 from by show J.next+1=_;rw[ay]] at this
 have l4:∀i o,J.get i=some o->((J.push .eE).push (.loop .ready none al [p] fM b k)).get i=some o:=λi o ho=>by
  have:=ae.bt ho;rw[ae.gD trivial _ (show i<(J.push .eE).next from by show i<J.next+1;omega),ae.gD trivial _ this];exact ho
 have um:((J.push .eE).push (.loop .ready none al [p] fM b k)).get k=some .eE:=by
  rw[ae.gD trivial _ (show k<(J.push .eE).next from by show k<J.next+1;omega)];have:=ae.jL (J:=J) .eE;rwa[ay] at this
 have j6:((J.push .eE).push (.loop .ready none al [p] fM b k)).next=k+2:=by show J.next+1+1=_;rw[ay]
 generalize(J.push .eE).push (.loop .ready none al [p] fM b k)=cT at *;refine(b8O au hw o (W:=λi=>W i\/i=k+1) (B:=k+2) (λi hi=>by rcases hi with hi|hi;have:=nJ i hi;omega;omega)
  (λl τ=>S l τ/\τ.get (k+1)=some (.loop .ready none al [p] fM b k)/\k+2<=τ.next/\τ.get k=some .eE/\∀i o,¬W i->J.get i=some o->τ.get i=some o)
  (λl τ aB ⟨aX,bc,cq,ew,eJ⟩ eF dE=>⟨cQ _ _ _ aX λi o _ ho=>dE i o ho,dE _ _ bc,U,dE _ _ ew,λi o hi ho=>dE _ _ (eJ i o hi ho)⟩) (.f (.yield (k+1)) [] []) ?_ F b2 [] cT cA (l4 _ _ gO) U ?_).mono ?_
 ·intro G rest τ cW ca ⟨aX,bc,cq,ew,eJ⟩;refine(bE.round (ag:=λai=>(S rest ai/\ai.get (k+1)=some (.loop .ready none al [p] fM b k)/\k+2<=ai.next/\ai.get k=some .eE/\∀i o,¬W i->J.get i=some o->ai.get i=some o)/\nb (λi=>W i\/i=k+1) τ ai) (f:=f) (n:=n) bc hc (by show cond (Nat.blt p n) _ _=true;rw[aw];rfl) I ?_).mono λr ai h=>h;refine(E8 G rest τ cW cq aX).mono λx f1 ec ⟨aL,jE,h1⟩=>?_;have rp:¬W (k+1):=λh=>by have:=nJ _ h;omega
  have jM:=jE.aP _ _ rp bc;have gW:=jS (bX:=.loop .busy none al [p] fM b k) jM;refine⟨aL,jM,(h1 (ec.set (k+1) (.loop .busy none al [p] fM b k)) I (λi o hi ho=>gW.2 i o hi ho)).mono λx _ bu ⟨a5,uo,sJ⟩=>?_⟩;have vS:=sJ.aP _ _ rp gW.1;have qm:=jS (bX:=.loop .ready none al [p] fM b k) vS;have cP:=jE.next;have er:ec.next<=bu.next:=sJ.next;have c7:∀i o,¬W i->i≠k+1->τ.get i=some o->(bu.set (k+1) (.loop .ready none al [p] fM b k)).get i=some o:=λi o hi a7 ho=>qm.2 i o a7 (sJ.aP i o hi (gW.2 i o a7 (jE.aP i o hi ho)));refine⟨a5,vS,⟨cQ _ _ _ uo λi o hi ho=>qm.2 i o (by have:=nJ i hi;omega) ho,qm.1,by show k+2<=bu.next;omega,c7 k _ (λh=>by have:=nJ _ h;omega) U ew,λi o hi ho=>c7 i o hi (by have:=ae.bt ho;omega) (eJ i o hi ho)⟩,⟨by show τ.next<=bu.next;omega,λi o hi ho=>c7 i o (λh=>hi (.inl h)) (λh=>hi (.inr h)) ho⟩⟩
 ·rw[iL];exact⟨cQ _ _ _ h0 λi o _ ho=>l4 i o ho,sn,U,um,λi o _ ho=>l4 i o ho⟩
 ·rintro r τ ⟨aL,⟨aX,bc,cq,ew,eJ⟩,_⟩;have gW:=jS (bX:=.loop .exhausted none al [p] fM b k) bc;exact⟨_,.ready,aL,bc,aF,E9 _ (cQ _ _ _ aX λi o hi ho=>gW.2 i o (by have:=nJ i hi;omega) ho) cq (gW.2 _ _ U ew) λi o hi ho=>gW.2 i o (by have:=ae.bt ho;omega) (eJ i o hi ho)⟩
def wrap32{n:Nat}(h:n<2^32):IntKind.wrap .u32 (n:Int)=(n:Int):=by
 have h:(n:Int)<4294967296:=by omega
 simp only[IntKind.wrap,IntKind.bits,IntKind.signed];simp;omega
def ofInt32(n:Nat)(h:n<2^32):(BitVec.ofInt IntKind.u32.bits (Int.ofNat n)).toNat=n:=by
 simp[IntKind.bits];omega
def b8P{a b:Nat}(ha:a<2^32)(hb:b<2^32):binop .or (.i .u32 (Int.ofNat a)) (.i .u32 (Int.ofNat b))=some (.i .u32 (Int.ofNat (a ||| b))):=by
 have h:(BitVec.ofInt IntKind.u32.bits (Int.ofNat a) ||| BitVec.ofInt IntKind.u32.bits (Int.ofNat b)).toNat=a ||| b:=by
  rw[BitVec.toNat_or,ofInt32 a ha,ofInt32 b hb]
 show some (AV.i .u32 (IntKind.wrap .u32 ((BitVec.ofInt IntKind.u32.bits (Int.ofNat a) ||| BitVec.ofInt IntKind.u32.bits (Int.ofNat b)).toNat:Int)))=_;rw[h,wrap32 (J9 ha hb)];rfl
def b8Q{k:IntKind}{a:Nat}(h:a<32):binop .shl (.i .u32 (Int.ofNat 1)) (.i k (Int.ofNat a))=some (.i .u32 (Int.ofNat (2^a))):=by
 show(if(Int.ofNat a)<0 then none else some (AV.i .u32 (IntKind.wrap .u32 (Int.ofNat 1*2^(min (Int.ofNat a).toNat IntKind.u32.bits)))))=_;rw[if_neg aF];have e:min (Int.ofNat a).toNat IntKind.u32.bits=a:=by show min a 32=a;omega
 rw[e];have:(Int.ofNat 1*2^a:Int)=((2^a:Nat):Int):=by show(1:Int)*_=_;rw[Int.one_mul];simp
 rw[this,wrap32 (J_ U h)];rfl
def mL(f:Fm):Nat:=if f.op<32 then 2^f.op else 0
def uq(l:List Fm)(m:Nat):Nat:=l.foldl (λm f=>m ||| mL f) m
def rq(f:Fm):Nat:=uq f.parts 0
def b8R(f:Fm):mL f<2^32:=by
 unfold mL;split
 ·exact J_ U ‹_›
 ·exact E5 _
def Qa:∀ {l:List Fm} {m:Nat},m<2^32->uq l m<2^32
 |[],_,h=>h
 |f::l,m,h=>by
  show uq l (m ||| mL f)<_;exact Qa (J9 h (b8R f))
def a0v{b:bT}{K:Nat->List AV->AV->Prop}(au:bk (b.aM K) xm rS)(o5:bk (b.aM K) vJ uB)(hw:bk (b.aM K) BN Zx)(F:Fm)(b2:F.jC)(body:bF)(hb:Zk.body=some body):
  dQ (b.aM K) [] [.inl 3] 17 body (fv [F.A true]) ⟨.nil,0⟩ (λx f ai=>x= .ret/\ai.get 3=some .eE/\freeze (ai.set 3 .dead) 0 1000 (f 2)=some (.i .u32 (Int.ofNat (rq F)))):=by
 cases hb;refine dQ.l6 (ak.region (aK.box (v:=F.A true) (c:=F.cells true) 0 I I I I I I λb8 iC h1 _=>?_));refine ka ?_;refine⟨rfl,dQ.l6 (ak.region (aK.alloc 1 iC I I I λcT h6 h2 bb=>?_))⟩;replace h1:=bb _ _ h1;refine ka ?_;refine⟨rfl,dQ.Bz (dQ.l6 (ak.region ?_))⟩;refine aK.aA h1 I I I (Fm.aA true F) ?_;refine aK.jh I I I (P_ hw true F cT 2 h6) λr J ⟨aL,hn,h3,k3⟩=>⟨_,aL,?_⟩
 replace h1:=k3 _ _ h1;replace h2:=k3 _ _ h2;refine ka ?_;refine⟨rfl,dQ.block ?_⟩;refine dQ.walk au o5 true (λi=>i=1) (λl τ=>∃m,m<2^32/\uq l m=rq F/\τ.get 1=some (.cells [.i .u32 (Int.ofNat m)])) 3 hn I I b2 h3 (λi hi=>by omega) (λl τ aB ⟨m,aX,bc,cq⟩ ay=>⟨m,aX,bc,ay _ _ I cq⟩) ⟨0,E5 _,rfl,h2⟩ ?_ ?_
 ·intro G rest τ cW zF ⟨m,aX,bc,cq⟩;refine ak.region ?_;refine aK.var (v:=G.A true) (c:=G.cells true) τ.next I I I I (Fm.conf true G) I (Fm.len true G) λec tL aO b1=>?_;refine aK.nil ⟨rfl,.of U b1,λa9 Be c9=>?_⟩;replace aO:=c9 _ _ U aO;replace cq:=c9 _ _ U (b1 _ _ cq);refine ak.block (ak.seq (ak.region ?_));refine ka ?_;refine aK.aA aO I I I (Fm.re true G) ?_;refine ka ?_;refine ak.jg I (λh=>?_) (λh=>?_)
  ·have dP:G.op<32:=of_decide_eq_true h;have xG:mL G=2^G.op:=by unfold mL;rw[if_pos dP]
   refine ak.region ?_;refine X0 ?_;refine aK.aA aO I I I (Fm.re true G) ?_;refine aK.bin (a:=.i .u32 (Int.ofNat 1)) (b:=.i .u8 (Int.ofNat G.op)) I I I I (b8Q dP) ?_;refine aK.bin (a:=.i .u32 (Int.ofNat m)) (b:=.i .u32 (Int.ofNat (2^G.op))) I I I I (b8P aX (J_ U dP)) ?_;refine aK.store (bD:=[.i .u32 (Int.ofNat (m ||| 2^G.op))]) cq I I I I I λbu We cx et=>?_;exact aK.nil ⟨rfl,⟨_,J9 aX (J_ U dP),by rw[<-bc,← xG];rfl,cx⟩,⟨U,λi o hi ho=>et i o hi ho⟩⟩
  ·have dP:¬G.op<32:=of_decide_eq_false h;have xG:mL G=0:=by unfold mL;rw[if_neg dP]
   exact ak.skip ⟨rfl,⟨m,aX,by rw[<-bc];show uq rest m=uq rest (m ||| mL G);rw[xG,Nat.or_zero],cq⟩,.refl⟩
 ·intro τ ⟨m,aX,bc,cq⟩ zF hd _;refine⟨rfl,rfl,?_⟩;refine ak.seq (ak.region ?_);refine X0 ?_;refine ak.ret ⟨rfl,hd,?_⟩;show some (AV.i .u32 (Int.ofNat m))=_;rw[<-bc];rfl
abbrev fa(c:Nat):AV:=.i .u8 (Int.ofNat c)
section
variable {b:bT}{K:Nat->List AV->AV->Prop}(hf:∀g aQ r b5,K g aQ r->K g aQ b5->r=b5)
abbrev jU(d:Nat)(r:AV):dZ:=λx f ai=>x= .ret/\freeze ai 0 1000 (f d)=some r
end
def b8S(op:Nat):Bool:=decide (1<=op)&&decide (op<=14)
def Qb(op:Nat):Bool:=decide (1<=op)&&decide (op<=16)
def qn(op:Nat):Nat:=if op=1 then 1 else if op=8\/op=9 then 2 else if op=15\/op=16 then 3 else 0
def Kc(op:Nat):Nat:=if op=1 then 4 else if op=16 then 2 else 0
def b8T(op:Nat):Nat:=if op=3\/op=8\/op=9\/op=10\/op=11\/op=12\/op=13 then 1 else if op=4\/op=5\/op=6\/op=7\/op=14 then 2 else 0
def b8U(op:Nat):List AV:=[.b (b8S op),.b (Qb op),.i .u8 (Int.ofNat (qn op)),ah (Kc op),ah (b8T op)]
def E_:List AV:=(List.range 17).flatMap b8U
def a0w{ar:aJ->Option AV}{J:ae}{k:IntKind}{x:aJ}{a:Nat}(h1:ar x=some (.i k (Int.ofNat a)))(h:a<2^63):opx 0 ar J (.conv .i64 x)=some (.val (ah a) J):=by
 show(match ar x with|some (.i _ n)=>some (bZ.val (.i .i64 (wrapN .i64 n)) J)|some (.hv _ d j)=>some (.val (.hv .i64 d j) J)|_=>none)=_;rw[h1];show some (bZ.val (.i .i64 (wrapN .i64 (Int.ofNat a))) J)=_;rw[Eu h]
inductive Sl(J:ae)(aa:Option Nat):AV->List AV->Prop
 |nil:Sl J aa .af []
 |al (o:Nat) (cap:Option Nat) (xs rest:List AV) (h:J.get o=some (.cells (xs.flatMap AV.cells++rest))) (ab:∀y∈xs,conf aa y=true) (ay:cap=none\/cap=some xs.length):Sl J aa (.al o 0 xs.length aa cap) xs
def Sl.aP{J τ:ae}{aa:Option Nat}{v:AV}{xs:List AV}(h:Sl J aa v xs)(k:∀i o,v.at? =some i->J.get i=some o->τ.get i=some o):Sl τ aa v xs:=by
 cases h with
 |nil=>exact .nil
 |al o cap xs rest h ab ay=>exact .al o cap xs rest (k _ _ I h) ab ay
def Sl.conf{J:ae}{aa:Option Nat}{v:AV}{xs:List AV}(h:Sl J aa v xs):∀y∈xs,conf aa y=true:=by
 cases h with
 |nil=>intro y hy;simp at hy
 |al o cap xs rest h ab ay=>exact ab
def Sl.lf{J:ae}{aa:Option Nat}{v:AV}{xs:List AV}(h:Sl J aa v xs):v.lf=true:=by cases h<;>rfl
def Sl.lP{J:ae}{aa:Option Nat}{v:AV}{xs:List AV}(h:Sl J aa v xs):Go.Lyc.conf none v=true:=by cases h<;>rfl
def Sl.mM{J:ae}{aa:Option Nat}{v:AV}{xs:List AV}(h:Sl J aa v xs):v.cells=[v]:=by cases h<;>rfl
def Sl.Qc{J:ae}{aa:Option Nat}{v:AV}{xs:List AV}(h:Sl J aa v xs):v.val=true:=by cases h<;>rfl
def Sl.len{J τ:ae}{aa:Option Nat}{v:AV}{xs:List AV}(h:Sl J aa v xs):lenA τ 1 v=some xs.length:=by cases h<;>rfl
def Sl.lt{J:ae}{aa:Option Nat}{v:AV}{xs:List AV}(h:Sl J aa v xs){i:Nat}(hi:v.at? =some i):i<J.next:=by
 cases h with
 |nil=>cases hi
 |al o cap xs rest h ab ay=>cases hi;exact ae.bt h
def Qd{aa:Option Nat}:∀ {xs:List AV} {rest:List AV},(∀y∈xs,Go.Lyc.conf aa y=true)->∀(j:Nat) (ax:j<xs.length),∃r,(xs.flatMap AV.cells++rest).drop (j*shN aa)=(xs[j]).cells++r/\dV aa ((xs[j]).cells++r)=some xs[j]
 |[],_,_,j,ax=>by simp at ax
 |x::xs,rest,h,0,_=>⟨xs.flatMap AV.cells++rest,by rw[DH,He,jY,iE];rfl,(Ex (h x aF)).1⟩
 |x::xs,rest,h,j+1,ax=>by
  obtain⟨r,h1,h2⟩:=Qd (rest:=rest) (λy hy=>h y (C1 _ hy)) j (by simpa using ax);refine⟨r,?_,h2⟩;rw[jY,iE,show(j+1)*shN aa=shN aa+j*shN aa from by rw[Nat.succ_mul,uX],← oV,(Ex (h x aF)).2,h1];rfl
def Sl.fU{J:ae}{aa:Option Nat}{v:AV}{xs:List AV}(h:Sl J aa v xs){j:Nat}(ax:j<xs.length):∃o c r,v.at? =some o/\idxSlA aa v j=some (.p (some (o,j*shN aa)))/\J.get o=some (.cells c)/\c.drop (j*shN aa)=(xs[j]).cells++r/\dV aa (c.drop (j*shN aa))=some xs[j]:=by
 cases h with
 |nil=>simp at ax
 |al o cap xs rest h ab ay=>
  obtain⟨r,h1,h2⟩:=Qd (rest:=rest) ab j ax;refine⟨o,_,r,rfl,?_,h,h1,by rw[h1];exact h2⟩;have h3:Nat.blt j xs.length=true:=iR ax;simp only[idxSlA,h3,decide_true,ML,if_true,NS]
def Sl.read{J:ae}{aa:Option Nat}{v:AV}{xs:List AV}(h:Sl J aa v xs):readList J v=some xs:=by
 cases h with
 |nil=>rfl
 |al o cap xs rest h ab ay=>
  show(match J.get o with|some (.cells c)=>elems aa xs.length (c.drop 0)|_=>none)=_;rw[h];exact IT ab
def b8V{xs:List AV}(k:Nat):xs.flatMap AV.cells=(xs.take k).flatMap AV.cells++(xs.drop k).flatMap AV.cells:=by
 rw[<-gN,yU]
def Sl.cut{J:ae}{aa:Option Nat}{v:AV}{xs:List AV}(h:Sl J aa v xs)(hn:∀o l c,v= .al o 0 l aa c->c=none){ar:aJ->Option AV}{hi:aJ}{k:Nat}(ay:k<=xs.length)(he:ar hi=some (ah k)):∃w,sliceA ar aa v none (some hi) none=some w/\Sl J aa w (xs.take k)/\w.at? =v.at? ∧∀o l c,w= .al o 0 l aa c->c=none:=by
 have hb:∀d,bndO ar (some hi) d=some k:=λd=>by show(match ar hi with|some v=>natOf v|none=>none)=_;rw[he];rfl
 cases h with
 |nil=>
  obtain rfl:k=0:=by simpa using ay
  refine⟨.af,?_,.nil,rfl,λ_ _ _ h=>by cases h⟩;show(match bndO ar none 0,bndO ar (some hi) 0,bndO ar none 0 with|some 0,some 0,some 0=>some AV.af|_,_,_=>none)=_;rw[hb];rfl
 |al o cap xs rest h ab hB=>
  obtain rfl:=hn o xs.length cap I;refine⟨.al o 0 k aa none,?_,?_,rfl,λ_ _ _ h=>by cases h;rfl⟩
  ·have h1:Nat.ble 0 k=true:=iR (rU k);have h2:(Nat.ble k xs.length&&Nat.beq 0 0)=true:=by rw[iR ay];rfl
   have h0:bndO ar none 0=some 0:=rfl;simp only[sliceA,if_true,h0,hb,h1,h2]
  ·have e:(xs.take k).length=k:=by rw[fe];omega
   have:=Sl.al (aa:=aa) o none (xs.take k) ((xs.drop k).flatMap AV.cells++rest) (by rw[h,b8V k,iE]) (λy hy=>ab y (uU hy)) (.inl I);rwa[e] at this
def Sl.append{J:ae}{aa:Option Nat}{v x:AV}{xs bf:List AV}{y:AV}{bytes:Nat}(h:Sl J aa v xs)(hx:newOf J x=some (y::bf))(ab:∀z∈y::bf,Go.Lyc.conf aa z=true)(hb:(3*(xs.length+(y::bf).length)+2000)*bytes<=281474976710656):
  ∃bR ai,appendO 0 J aa bytes v x=some (bR,ai)/\Sl ai aa bR (xs++y::bf)/\bR.at? =some J.next/\(∀o l c,bR= .al o 0 l aa c->c=none)/\ai.next=J.next+1/\∀i o,v.at? ≠some i->J.get i=some o->ai.get i=some o:=by
 have vz:=h.conf;have hall:(cD (Go.Lyc.conf aa) xs&&cD (Go.Lyc.conf aa) (y::bf)&&Nat.ble ((3*(xs.length+(y::bf).length)+2000)*bytes) 281474976710656)=true:=by
  rw[ig vz,ig ab,iR hb];rfl
 have aq:=h.read;have mk:∀τ:ae,τ.next=J.next->Sl (τ.push (.cells (xs.flatMap AV.cells++(y::bf).flatMap AV.cells))) aa (.al J.next 0 (xs.length+(y::bf).length) aa none) (xs++y::bf):=λτ zF=>by
  have:=Sl.al (J:=τ.push (.cells (xs.flatMap AV.cells++(y::bf).flatMap AV.cells))) (aa:=aa) J.next none (xs++y::bf) [] (by rw[<-zF,ae.jL,gN,iL]) (λz a6=>by
   rcases tl.1 a6 with a6|a6
   ·exact vz z a6
   ·exact ab z a6) (.inl I)
  rwa[dv] at this
 cases h with
 |nil=>
  refine⟨.al J.next 0 (y::bf).length aa none,J.push (.cells ((y::bf).flatMap AV.cells)),?_,?_,rfl,λ_ _ _ h=>by cases h;rfl,rfl,λi o _ ho=>by rw[ae.gD trivial _ (ae.bt ho)];exact ho⟩
  ·unfold appendO;rw[hx];show cond _ _ none=_;rw[hall];rfl
  ·have:=mk J I;simpa using this
 |al o cap xs rest h iu hB=>
  have hd:∀i bX,i≠o->J.get i=some bX->((J.set o .dead).push (.cells (xs.flatMap AV.cells++(y::bf).flatMap AV.cells))).get i=some bX:=λi bX a7 ho=>by
   have hlt:=ae.bt ho;rw[ae.gD trivial _ (show i<(J.set o .dead).next from hlt),ae.jw trivial _ (ae.bt h),if_neg a7];exact ho
  rcases hB with rfl|rfl
  ·refine⟨.al J.next 0 (xs.length+(y::bf).length) aa none,(J.set o .dead).push (.cells (xs.flatMap AV.cells++(y::bf).flatMap AV.cells)),?_,mk _ I,rfl,λ_ _ _ h=>by cases h;rfl,rfl,λi bX a7 ho=>hd i bX (λe=>a7 (by rw[e];rfl)) ho⟩;unfold appendO;rw[aq,hx];show cond _ _ none=_;rw[hall,cond_true];show(if aa=aa then(if Nat.blt o 0 then none else if Nat.beq 0 0 then some (AV.al J.next 0 (xs.length+(y::bf).length) aa none,(J.set o .dead).push (.cells (xs.flatMap AV.cells++(y::bf).flatMap AV.cells))) else none) else none)=_;rw[if_pos I,if_neg (by simp[Nat.blt,Nat.ble]),if_pos (by rfl)]
  ·refine⟨.al J.next 0 (xs.length+(y::bf).length) aa none,J.push (.cells (xs.flatMap AV.cells++(y::bf).flatMap AV.cells)),?_,mk _ I,rfl,λ_ _ _ h=>by cases h;rfl,rfl,λi bX _ ho=>by rw[ae.gD trivial _ (ae.bt ho)];exact ho⟩;unfold appendO;rw[aq,hx];show cond _ _ none=_;rw[hall,cond_true];show(if aa=aa then cond (Nat.ble (xs.length+(y::bf).length) xs.length) _ (some (AV.al J.next 0 (xs.length+(y::bf).length) aa none,J.push (.cells (xs.flatMap AV.cells++(y::bf).flatMap AV.cells)))) else none)=_;rw[if_pos I,show Nat.ble (xs.length+(y::bf).length) xs.length=false from by rw[Xz];intro h;have:=pL h;simp only[CZ] at this;omega];rfl
namespace W
section
variable {ck:l9}{env:Env}{aR:Option Nat}{D:List (Nat ⊕ (AV×List AV))}{n:Nat}{F:List (Nat×AV)}{z:Nat->AV}{J:ae}{Q:dZ}
def ur{d:Nat}{aa:Option Nat}{x:aJ}{g:Option (Nat×Bool)}{ops:List a4}{id off:Nat}{c:List AV}{v:AV}(ao:J.get id=some (.cells c))(hd:Nat.blt d n=true)(hw:wtL g n F=true)(h1:dn env n F z x=some (.p (some (id,off))))(h2:dV aa (c.drop off)=some v)(h:cg ck env aR D n ops (bB ((d,v)::F) z) J Q):cg ck env aR D n (⟨some d,.load aa x,g,[]⟩::ops) (bB F z) J Q:=val hd hw (ou _ _ h1 (vx ao h2)) h
def B3{N:Nat}{cw:l7}{d:Nat}{aa:Option Nat}{x:aJ}{g:Option (Nat×Bool)}{wn:List Nat}{ops:List a4}{id off:Nat}{c:List AV}{v:AV}(ao:J.get id=some (.cells c))(hd:Nat.blt d n=true)(hw:wtL g n F=true)(h1:dn env n F z x=some (.p (some (id,off))))(h2:dV aa (c.drop off)=some v)(au:AV.eqb env.bp v v=true)
  (h:cg (.dw N (wn.map (λq=>(q,id,c))++cw)) env aR D n ops (bB ((d,v)::F) z) J Q):cg (.dw N cw) env aR D n (⟨some d,.load aa x,g,wn⟩::ops) (bB F z) J Q:=eu.l8 ao hd (rf hw) (λs ao=>by rw[pf];exact ou _ _ h1 (vx ao h2)) au h
def le{d:Nat}{aa:Option Nat}{x:aJ}{g:Option (Nat×Bool)}{ops:List a4}{a v:AV}(hd:Nat.blt d n=true)(hw:wtL g n F=true)(h1:dn env n F z x=some a)(h2:rY J aa a=some v)(h:cg ck env aR D n ops (bB ((d,v)::F) z) J Q):cg ck env aR D n (⟨some d,.load aa x,g,[]⟩::ops) (bB F z) J Q:=val hd hw (ou _ _ h1 h2) h
def bK{L:List (Nat×List AV)}(H:Has J L){d m:Nat}{aa:Option Nat}{lh:List AV}{aC:List (Nat×aJ)}{g:Option (Nat×Bool)}{ops:List a4}{c:List AV}{k:Nat}(hn:J.next=k)(hd:Nat.blt d n=true)(hw:wtL g n F=true)(hl:iy (dn env n F z) (λi b0=>i*b0) (aC.map λp=>(p.1,shN aa,p.2)) (f_ m lh)=some c)
  (h:∀τ:ae,τ.next=k+1->Has τ ((k,c)::L)->(∀i o,J.get i=some o->τ.get i=some o)->cg ck env aR D n ops (bB ((d,.al k 0 m aa (some m))::F) z) τ Q):cg ck env aR D n (⟨some d,.buildSlice aa m lh aC,g,[]⟩::ops) (bB F z) J Q:=by
 subst hn;have dr:∀i o,J.get i=some o->(J.push (.cells c)).get i=some o:=λi o ho=>by rw[ae.gD trivial _ (ae.bt ho)];exact ho
 refine val (v:=.al J.next 0 m aa (some m)) (ai:=J.push (.cells c)) hd hw ?_ (h (J.push (.cells c)) I (H.push I (ae.jL _) dr) dr);show(match iy (dn env n F z) (λi b0=>i*b0) (aC.map λp=>(p.1,shN aa,p.2)) (f_ m lh) with
  |some c=>some (bZ.val (.al J.next 0 m aa (some m)) (J.push (.cells c)))
  |none=>none)=_
 rw[hl]
def ap{d:Nat}{aa:Option Nat}{bytes:Nat}{s x:aJ}{g:Option (Nat×Bool)}{ops:List a4}{v w:AV}{xs:List AV}(y:AV)(bf:List AV)(hA:Sl J aa v xs)(hx:newOf J w=some (y::bf))(ab:∀z∈y::bf,Go.Lyc.conf aa z=true)(hb:(3*(xs.length+(y::bf).length)+2000)*bytes<=281474976710656)(hd:Nat.blt d n=true)(hw:wtL g n F=true)(h1:dn env n F z s=some v)(h2:dn env n F z x=some w)
  (h:∀bR τ,Sl τ aa bR (xs++y::bf)->bR.at? =some J.next->(∀o l c,bR= .al o 0 l aa c->c=none)->τ.next=J.next+1->(∀i o,v.at? ≠some i->J.get i=some o->τ.get i=some o)->cg ck env aR D n ops (bB ((d,bR)::F) z) τ Q):cg ck env aR D n (⟨some d,.append aa bytes s x,g,[]⟩::ops) (bB F z) J Q:=by
 obtain⟨bR,τ,e,a,b,c,jt,c4⟩:=hA.append hx ab hb;refine val (v:=bR) (ai:=τ) hd hw ?_ (h bR τ a b c jt c4);show(match dn env n F z s,dn env n F z x with|some s,some x=>(match appendO 0 J aa bytes s x with|some (v,J)=>some (bZ.val v J)|none=>none)|_,_=>none)=_;rw[h1,h2];show(match appendO 0 J aa bytes v w with|some (v,J)=>some (bZ.val v J)|none=>none)=_;rw[e]
def pu{d d0:Nat}{aa:Option Nat}{bytes:Nat}{lh:List AV}{aC:List (Nat×aJ)}{s:aJ}{g bV:Option (Nat×Bool)}{ops:List a4}{v:AV}{xs c:List AV}(y:AV)(hA:Sl J aa v xs)(hd:Nat.blt d n=true)(oi:Nat.blt d0 n=true)(hw:wtL g n F=true)(hl:iy (dn env n F z) (λi b0=>i*b0) (aC.map λp=>(p.1,shN aa,p.2)) (f_ 1 lh)=some c)(hy:elems aa 1 c=some [y])(h7:Go.Lyc.conf aa y=true)
  (k7:wtL bV n ((d0,.al J.next 0 1 aa (some 1))::F)=true) (h1:dn env n ((d0,.al J.next 0 1 aa (some 1))::F) z s=some v) (h2:Nat.beq d0 d0=true) (hb:(3*(xs.length+1)+2000)*bytes<=281474976710656)
  (h:∀bR τ,Sl τ aa bR (xs++[y])->bR.at? =some (J.next+1)->(∀o l c,bR= .al o 0 l aa c->c=none)->τ.next=J.next+2->(∀i o,v.at? ≠some i->J.get i=some o->τ.get i=some o)->cg ck env aR D n ops (bB ((d,bR)::(d0,.al J.next 0 1 aa (some 1))::F) z) τ Q):
  cg ck env aR D n (⟨some d0,.buildSlice aa 1 lh aC,g,[]⟩::⟨some d,.append aa bytes s (.t d0),bV,[]⟩::ops) (bB F z) J Q:=by
 refine bK Has.nil I oi hw hl λec cP H1 bx=>?_;have lD:=H1.get _ (.head _);refine ap (w:=.al J.next 0 1 aa (some 1)) y [] (hA.aP λi o _=>bx i o) ?_ (λz a6=>by rw[uT.1 a6];exact h7) hb hd k7 h1 ?_ λbR τ aX bc cq ew eJ=>h bR τ aX (by rw[bc,cP]) cq (by rw[ew,cP]) λi o hi ho=>eJ i o hi (bx i o ho)
 ·show readList ec (.al J.next 0 1 aa (some 1))=_;show(match ec.get J.next with|some (.cells c)=>elems aa 1 (c.drop 0)|_=>none)=_;rw[lD];exact hy
 ·show cond (Nat.blt d0 n) (match cond (Nat.beq d0 d0) (some _) _ with|some v=>some v|none=>some (z d0)) none=_;rw[oi,h2];rfl
end
end W
structure bg where
 br:Nat
 op:Nat
 hyp:Bool
 f:Fm
 c2:List Nat
 cs:List (Nat×Nat)
abbrev bN(F:Fm):List AV:=[fa F.op,.s F.name,gG true F.fl,gp true F.e4]
def jk(F:Fm):F.A true= .R (bN F):=by unfold Fm.A;rw[Fm.j_]
abbrev hI(o:Bool)(l:List (Nat×Nat)):AV:=slA o (some 2) (l.map λc=>.R [ah c.1,ah c.2])
abbrev bg.A(x:bg):AV:=.R [ah x.br,ah x.op,.b x.hyp,fa x.f.op,.s x.f.name,gG true x.f.fl,gp true x.f.e4,.s x.c2,hI true x.cs]
abbrev cG(L:List bg):AV:=.a_ true (some 9) (L.map bg.A)
def B4{L:List bg}{j:Nat}(h:j<L.length):idxSlA (some 9) (cG L) j=some (.dh true (L[j]).A):=by
 have:=zj (o:=true) (aa:=some 9) (f:=bg.A) h;cases L with
 |nil=>simp at h
 |cons x l=>exact this
def Kd{J:ae}{L:List bg}:lenA J 1 (cG L)=some L.length:=by show some (L.map bg.A).length=_;rw[uV]
@[irreducible] def B5 (aa:Option Nat) (v:AV) (j:Nat):AV:=(idxSlA aa v j).getD .fP
def sK{aa:Option Nat}{v w:AV}{j:Nat}(h:idxSlA aa v j=some w):B5 aa v j=w:=by unfold B5;rw[h];rfl
structure iO(J:ae)(aa:Option Nat)(v:AV)(xs:List AV):Prop where
 len:∀τ,lenA τ 1 v=some xs.length
 eR:∀ {j},j<xs.length->idxSlA aa v j=some (B5 aa v j)
 aA:∀ {j} (h:j<xs.length),rY J aa (B5 aa v j)=some xs[j]
structure mc(J:ae)(v:AV)(l:List Nat):Prop where
 len:∀τ,lenA τ 1 v=some l.length
 eR:∀ {j},j<l.length->idxSlA none v j=some (B5 none v j)
 aA:∀ {j} (h:j<l.length),rY J none (B5 none v j)=some (ah l[j])
def Sl.vw{J:ae}{aa:Option Nat}{v:AV}{xs:List AV}(h:Sl J aa v xs):iO J aa v xs:=
 ⟨λτ=>h.len,λ{j} ax=>by obtain⟨o,c,r,h0,h1,_⟩:=h.fU ax;rw[sK h1];exact h1,λ{j} ax=>by
  obtain⟨o,c,r,h0,h1,h2,h3,aO⟩:=h.fU ax;rw[sK h1];exact vx h2 aO⟩
def iO.kR{J:ae}{v:AV}{l:List Nat}(h:iO J none v (l.map ah)):mc J v l:=
 ⟨λτ=>by rw[h.len,uV],λax=>h.eR (by rw[uV];exact ax),λax=>by rw[h.aA (by rw[uV];exact ax),mQ]⟩
def Sl.kR{J:ae}{v:AV}{l:List Nat}(h:Sl J none v (l.map ah)):mc J v l:=h.vw.kR
def Fa{J:ae}{aa:Option Nat}{o:Bool}{xs:List AV}(ab:∀y∈xs,conf aa y=true):iO J aa (slA o aa xs) xs:=
 ⟨λτ=>XQ τ o aa xs,λax=>by rw[sK (Ew ax)];exact Ew ax,λ{j} ax=>by
  rw[sK (Ew ax)];show(if conf aa xs[j] then some xs[j] else none)=_;rw[if_pos (ab _ (gC ax))]⟩
abbrev fg(J:ae)(v:AV)(l:List Nat):Prop:=Sl J none v (l.map ah)
def Sl.b8W{J:ae}{v:AV}{l:List Nat}(h:fg J v l){ar:aJ->Option AV}{hi:aJ}{k:Nat}(ay:k<=l.length)(he:ar hi=some (ah k)):∃w,sliceA ar none v none (some hi) none=some w/\mc J w (l.take k):=by
 by_cases hn:∀o l c,v= .al o 0 l none c->c=none
 ·obtain⟨w,h1,h2,_⟩:=h.cut hn (k:=k) (by rw[uV];exact ay) he;exact⟨w,h1,Sl.kR (by rw[G9];exact h2)⟩
 ·have h':=h;unfold fg at h';generalize hm:l.map ah=xs at h';cases h' with
  |nil=>exact absurd (λ_ _ _ h=>by cases h) hn
  |al o cap xs rest hg ab hB=>
   have hlen:xs.length=l.length:=by rw[<-hm,uV]
   rcases hB with rfl|rfl
   ·exact absurd (λ_ _ _ h=>by cases h;rfl) hn
   ·refine⟨.al o 0 k none (some xs.length),?_,?_⟩
    ·have hb:bndO ar (some hi) xs.length=some k:=by show(match ar hi with|some v=>natOf v|none=>none)=_;rw[he];rfl
     have h1:Nat.ble 0 k=true:=iR (rU k);have h2:Nat.ble k xs.length=true:=iR U;have h0:bndO ar none 0=some 0:=rfl;simp only[sliceA,if_true,h0,hb,h1,h2,DH,g5,ite_self,OR]
    ·have o3:(l.take k).length=k:=by rw[fe];omega
     have hx:∀ {j},j<k->idxSlA none (.al o 0 k none (some xs.length)) j=some (.p (some (o,j))):=λ{j} ax=>by
      rw[m7 ax,NS,show j*shN none=j from IH j]
     refine⟨λτ=>by rw[o3];rfl,λ{j} ax=>?_,λ{j} ax=>?_⟩
     ·rw[sK (hx U)];exact hx U
     ·rw[sK (hx U)];obtain⟨r,aX,bc⟩:=Qd (rest:=rest) ab j U;rw[show j*shN none=j from IH j] at aX;refine vx hg ?_;rw[aX,bc,MH];subst hm;rw[mQ]
def W.Ke{ck:l9}{env:Env}{aR:Option Nat}{D:List (Nat ⊕ (AV×List AV))}{n:Nat}{F:List (Nat×AV)}{z:Nat->AV}{J:ae}{Q:dZ}{d:Nat}{x hi:aJ}{g:Option (Nat×Bool)}{ops:List a4}{v:AV}{l:List Nat}{k:Nat}(h:fg J v l)(ay:k<=l.length)(hd:Nat.blt d n=true)(hw:wtL g n F=true)(h1:dn env n F z x=some v)(h2:dn env n F z hi=some (ah k))
  (ab:∀w,mc J w (l.take k)->cg ck env aR D n ops (bB ((d,w)::F) z) J Q):cg ck env aR D n (⟨some d,.nt none x none (some hi) none,g,[]⟩::ops) (bB F z) J Q:=by
 obtain⟨w,aL,a5⟩:=h.b8W ay h2;refine W.val (v:=w) (ai:=J) hd hw ?_ (ab w a5);show(match dn env n F z x with|some x=>(match sliceA (dn env n F z) none x none (some hi) none with|some v=>some (bZ.val v J)|none=>none)|none=>none)=_;rw[h1];show(match sliceA (dn env n F z) none v none (some hi) none with|some v=>some (bZ.val v J)|none=>none)=_;rw[aL]
structure kS(J:ae)(p:Nat)(L:List bg)(B N:List (List Nat)):Prop where
 ex:∃cE eO bK eZ,J.get p=some (.cells [cG L,cE,eO])/\Sl J none cE bK/\bK.length=B.length/\(∀i (h:i<bK.length) (h':i<B.length),fg J bK[i] B[i])/\Sl J none eO eZ/\eZ.length=N.length/\∀i (h:i<eZ.length) (h':i<N.length),fg J eZ[i] N[i]
def kS.aP{J τ:ae}{p:Nat}{L:List bg}{B N:List (List Nat)}(h:kS J p L B N)(k:∀i o,J.get i=some o->τ.get i=some o):kS τ p L B N:=by
 obtain⟨cE,eO,bK,eZ,h1,h2,h3,aO,bI,cx,dI⟩:=h.ex;exact⟨cE,eO,bK,eZ,k _ _ h1,h2.aP λi o _=>k i o,h3,λi a b=>(aO i a b).aP λi o _=>k i o,bI.aP λi o _=>k i o,cx,λi a b=>(dI i a b).aP λi o _=>k i o⟩
def Kf{o:Bool}{aa:Option Nat}{l:List AV}:conf none (slA o aa l)=true:=by cases l<;>rfl
def Kg{a:Nat}(h:a+1<2^63):binop .add (ah a) (.i .i64 1)=some (ah (a+1)):=sz (b:=1) h
def Kh{a:Nat}(h1:1<=a)(h:a<2^63):binop .sub (ah a) (.i .i64 1)=some (ah (a-1)):=sA (b:=1) h1 h
def aj{P ag:Prop}(k:ag)(h:Hid ag->P:=by
 intro k
 repeat (first
  |refine W.go I I I I ?_
  |refine W.off I I ?_
  |(refine W.I7 ?_;first|refine W.lt I I I I ?_|refine W.lt I I I Kf ?_|(refine W.aA (c:=?_) (v:=?_) H I I I ?_ ?_ ?_;rotate_left 2;(repeat (first|exact .head _|refine .tail _ ?_));exact rfl)|refine W.le I I I (mc.aA (by assumption) (by omega)) ?_|refine W.le I I I (iO.aA (by assumption) (by omega)) ?_)
  |(refine W.I8 ?_;first|refine W.EC I I I I (by simp only[W.cmpP,CZ,lg];first|done|omega|exact id|exact λh=>h trivial) ?_|refine W.fD I I I I I (by simp only[W.cmpP,CZ,lg];first|done|omega|exact id|exact λh=>h trivial) ?_|refine W.bin I I I I (Kg (by omega)) ?_|refine W.bin I I I I (Kh (by omega) (by omega)) ?_|refine W.bin I I I I (sz (by omega)) ?_|refine W.bin I I I I (sA (by omega) (by omega)) ?_)
  |(refine W.I9 ?_;first|refine W.eR I I I I (B4 (by omega)) ?_|refine W.eR I I I I (zj (by omega)) ?_|refine W.eR I I I I (mc.eR (by assumption) (by omega)) ?_|refine W.eR I I I I (iO.eR (by assumption) (by omega)) ?_)
  |(refine W.I_ ?_;first|refine W.len I I I Kd ?_|refine W.len I I I IQ ?_|refine W.len I I I (mc.len (by assumption) _) ?_|refine W.len I I I (iO.len (by assumption) _) ?_|refine W.len I I I I ?_)
  |(refine W.O_ ?_;first|(refine W.l8 (c:=?_) (v:=?_) H I I I ?_ ?_ ?_ ?_;rotate_left 2;(repeat (first|exact .head _|refine .tail _ ?_));exact rfl;first|exact ev rfl|exact Jb I))
  |refine W.sq ?_|refine W.rg ?_|refine W.b5N I ?_|refine W.EA ?_|refine ak.block (a:=.seq _ _) ?_|refine ak.block (a:=.region _) ?_|refine ak.block (a:=.draw _) ?_|refine ak.block (a:=.cond _ _ _) ?_
  |refine W.nil ?_|refine W.EB ?_
  |refine W.now (_::_) _ I I (by(repeat (refine⟨H.get _ (by repeat (first|exact List.Mem.head _|refine List.Mem.tail _ ?_)),?_⟩));exact trivial) ?_
  |refine W.lL I ?_|refine W.lM I ?_)
 exact k.out):P:=h ⟨k⟩
def e5{P ag:Prop}(k:ag)(h:Hid ag->P:=by
 intro k
 repeat (first
  |refine W.go I I I I ?_
  |refine W.off I I ?_
  |(refine W.I7 ?_;first|refine W.lt I I I I ?_|refine W.lt I I I Kf ?_|(refine W.aA (c:=?_) (v:=?_) H I I I ?_ ?_ ?_;rotate_left 2;(repeat (first|exact .head _|refine .tail _ ?_));exact rfl)|refine W.le I I I (mc.aA (by assumption) (by omega)) ?_|refine W.le I I I (iO.aA (by assumption) (by omega)) ?_)
  |(refine W.I8 ?_;first|refine W.EC I I I I (by simp only[W.cmpP,CZ,lg];first|done|omega|exact id|exact λh=>h trivial) ?_|refine W.fD I I I I I (by simp only[W.cmpP,CZ,lg];first|done|omega|exact id|exact λh=>h trivial) ?_|refine W.bin I I I I (Kg (by omega)) ?_|refine W.bin I I I I (Kh (by omega) (by omega)) ?_|refine W.bin I I I I (sz (by omega)) ?_|refine W.bin I I I I (sA (by omega) (by omega)) ?_)
  |(refine W.I9 ?_;first|refine W.eR I I I I (B4 (by omega)) ?_|refine W.eR I I I I (zj (by omega)) ?_|refine W.eR I I I I (mc.eR (by assumption) (by omega)) ?_|refine W.eR I I I I (iO.eR (by assumption) (by omega)) ?_)
  |(refine W.I_ ?_;first|refine W.len I I I Kd ?_|refine W.len I I I IQ ?_|refine W.len I I I (mc.len (by assumption) _) ?_|refine W.len I I I (iO.len (by assumption) _) ?_|refine W.len I I I I ?_)
  |(refine W.O_ ?_;first|(refine W.l8 (c:=?_) (v:=?_) H I I I ?_ ?_ ?_ ?_;rotate_left 2;(repeat (first|exact .head _|refine .tail _ ?_));exact rfl;first|exact ev rfl|exact Jb I))
  |refine W.now (_::_) _ I I (by(repeat (refine⟨H.get _ (by repeat (first|exact List.Mem.head _|refine List.Mem.tail _ ?_)),?_⟩));exact trivial) ?_)
 exact k.out):P:=h ⟨k⟩
section
attribute [local irreducible] cg bL dC eu bE
section
variable {b:bT}{K:Nat->List AV->AV->Prop}
abbrev dN(J ai:ae):Prop:=J.next<=ai.next/\∀i o,J.get i=some o->ai.get i=some o
abbrev aE(p:Nat):AV:=.p (some (p,0))
def Ki:List Nat:=[BY,E0,E2,E1,J1,JU,JV,JW,JT,JX]
structure lQ(b:bT)(K:Nat->List AV->AV->Prop):Prop where
 Kj:bk (b.aM K) BY b7d
 equal:bk (b.aM K) E0 YV
 index:bk (b.aM K) E2 Zt
 cont:bk (b.aM K) E1 Zd
 clone:bk (b.aM K) J1 YU
 B6:bk (b.aM K) JU b6V
 Kk:bk (b.aM K) JV b7c
 beside:bk (b.aM K) JW Y9
 B7:bk (b.aM K) JT b7a
 Kl:bk (b.aM K) JX GK
def lQ.q(h:lQ b K):tW (b.aM K) Ki:=by
 have mk:∀ {g:Nat} {b3:aN} {body:bF},bk (b.aM K) g b3->b3.body=some body->quiet Ki body=true->(b.aM K).ext g=0/\((b.aM K).pure g=true\/(b.aM K).pure g=false/\∃b3 body,(b.aM K).funcs g=some b3/\b3.body=some body/\quiet Ki body=true):=λhh hb aV=>⟨hh.e,.inr ⟨hh.p,_,_,hh.f,hb,aV⟩⟩
 intro g hg;simp only[Ki,dB,NQ,or_false] at hg;rcases hg with rfl|rfl|rfl|rfl|rfl|rfl|rfl|rfl|rfl|rfl
 ·exact mk h.Kj I I
 ·exact mk h.equal I I
 ·exact mk h.index I I
 ·exact mk h.cont I I
 ·exact mk h.clone I I
 ·exact mk h.B6 I I
 ·exact mk h.Kk I I
 ·exact mk h.beside I I
 ·exact mk h.B7 I I
 ·exact mk h.Kl I I
def nM(B:List (List Nat))(n d first:Nat):Bool:=decide ((B.getD (n-1) [])[d-1]? =some first)
def b8X(hh:bk (b.aM K) BY b7d){p:Nat}{L:List bg}{B N:List (List Nat)}{J:ae}(ed:kS J p L B N)(n d first:Nat)(hn:1<=n)(h6:n<=B.length)(ca:B.length<2^62)(hd:1<=d)(jO:d<2^62):
  bE (b.aM K) 0 (.f (.func BY) [] []) [aE p,ah n,ah d,ah first] J (λr τ=>r= .ok (.b (nM B n d first))/\τ=J):=by
 refine W.code hh.e hh.p hh.f I I I I λz=>?_;obtain⟨cE,eO,bK,eZ,h1,h2,h3,aO,bI,cx,dI⟩:=ed.ex;have H:Has J [(p,[cG L,cE,eO])]:=Has.nil.cons h1 aF;have au:=h2.vw;have aW:=(aO (n-1) U U).kR;have hg:B.getD (n-1) []=B[n-1]:=by rw[yT,fw U];rfl
 unfold nM;rw[hg];generalize B[n-1]=mX at aW;refine aj ?_;by_cases hlt:d<=mX.length
 ·refine aj ?_;refine W.X4 I I I I I ?_;refine aj ?_;rw[show decide (mX[d-1]? =some first)=decide (mX[d-1]=first) from by rw[fw U];simp];exact ak.ret ⟨rfl,rfl,rfl⟩
 ·refine aj ?_;rw[show decide (mX[d-1]? =some first)=false from by rw[q1 U];simp];exact ak.ret ⟨rfl,rfl,rfl⟩
def a0x(hh:bk (b.aM K) E0 YV){J:ae}{v w:AV}{l m:List Nat}(h1:mc J v l)(h2:mc J w m)(hl:l.length<2^62):
  bE (b.aM K) 0 (.f (.func E0) [] []) [v,w] J (λr τ=>r= .ok (.b (decide (l=m)))/\τ=J):=by
 refine W.xF hh I I I I λz H=>?_;refine aj ?_;by_cases hlen:l.length=m.length
 ·refine aj ?_;refine ak.each l.length (λj f τ=>τ=J/\sat [(0,v),(1,w)] f/\l.take j=m.take j) hl ⟨rfl,dp,rfl⟩ I I (λj g τ ax aW hi hm=>?_) (λg τ aW hi=>?_)
  ·obtain⟨rfl,⟨c5,bU,_⟩,ht⟩:=aW;refine ak.norm [(0,v),(1,w),(13,ah j),(12,ah l.length)] ⟨c5,bU,hi,hm,trivial⟩ λg=>?_;refine aj ?_;by_cases he:l[j]=m[j]
   ·refine aj ?_;exact⟨rfl,rfl,rfl,dp,by rw[lO ax,lO U,ht,he]⟩
   ·refine aj ?_;rw[show decide (l=m)=false from decide_eq_false λe=>he (by subst e;rfl)];exact ak.ret ⟨rfl,rfl,rfl⟩
  ·obtain⟨rfl,_,ht⟩:=aW;refine ak.norm [] trivial λz=>?_;rw[show decide (l=m)=true from decide_eq_true (by rwa[B0,hlen,B0] at ht)];refine aj ?_;exact ak.ret ⟨rfl,rfl,rfl⟩
 ·refine aj ?_;rw[show decide (l=m)=false from decide_eq_false λe=>hlen (by rw[e])];exact ak.ret ⟨rfl,rfl,rfl⟩
def b8Y(hh:bk (b.aM K) E1 Zd)(hx:bk (b.aM K) E2 Zt){J:ae}{v:AV}{l:List Nat}(h1:mc J v l)(hl:l.length<2^62)(a:Nat):
  bE (b.aM K) 0 (.f (.func E1) [] []) [v,ah a] J (λr τ=>r= .ok (.b (decide (a∈l)))/\τ=J):=by
 have hi:bE (b.aM K) 0 (.f (.func E2) [] []) [v,ah a] J (λr τ=>(∃k,r= .ok (.i .i64 k)/\decide (0<=k)=decide (a∈l))/\τ=J):=by
  refine W.code hx.e hx.p hx.f I I I I λz=>?_;have H:Has J []:=Has.nil;refine aj ?_;refine ak.each l.length (λj f τ=>τ=J/\sat [(0,v),(1,ah a)] f/\a∉l.take j) hl ⟨rfl,dp,aF⟩ I I (λj g τ ax aW hi hm=>?_) (λg τ aW hi=>?_)
  ·obtain⟨rfl,⟨c5,bU,_⟩,ht⟩:=aW;refine ak.norm [(0,v),(1,ah a),(8,ah j),(7,ah l.length)] ⟨c5,bU,hi,hm,trivial⟩ λg=>?_;refine aj ?_;by_cases he:a=l[j]
   ·refine aj ?_;refine ak.ret ⟨rfl,⟨_,rfl,?_⟩,rfl⟩;rw[decide_eq_true (show a∈l from he▸gC ax)];exact decide_eq_true (T_ j)
   ·refine aj ?_;refine⟨rfl,rfl,rfl,dp,λh=>?_⟩;rw[lO ax] at h;rcases tl.1 h with h|h
    ·exact ht h
    ·exact he (uT.1 h)
  ·obtain⟨rfl,_,ht⟩:=aW;refine ak.norm [] trivial λz=>?_;refine aj ?_;refine ak.ret ⟨rfl,⟨_,rfl,?_⟩,rfl⟩;rw[B0] at ht;rw[decide_eq_false ht];rfl
 refine W.xF hh I I I I λz H=>?_;refine aj ?_;refine W.an trivial I I I hi λr τ ⟨⟨k,e,ay⟩,a5⟩=>⟨_,e,?_⟩
 subst a5;refine W.bin (v:=.b (decide (0<=k))) I I I I I ?_;rw[ay];refine aj ?_;exact ak.ret ⟨rfl,rfl,rfl⟩
structure oD(L:List bg)(B:List (List Nat)):Prop where
 len:B.length=L.length
 lt:L.length<2^20
 br:∀x∈L,x.br<2^20
 blt:∀x∈B,x.length<2^20
def kr(L:List bg)(k:Nat):Nat:=(L.map bg.br).getD (k-1) 0
def hJ(L:List bg)(B:List (List Nat))(k a c:Nat):Bool:=
 nM B a (kr L k+1) a&&(decide ((B.getD (a-1) []).take (kr L k)=B.getD (k-1) [])&&(decide (kr L c=kr L k+1)&&(nM B c (kr L k+1) a&& !nM B (c+1) (kr L k+1) a)))
def B8{L:List bg}{k:Nat}(h1:1<=k)(h2:k<=L.length):kr L k=(L[k-1]'U).br:=by
 unfold kr;rw[yT,fG,fw U];rfl
def Km(hf:lQ b K){p:Nat}{L:List bg}{B N:List (List Nat)}{J:ae}(ed:kS J p L B N)(c6:oD L B)(k a c:Nat)(ha:1<=a)(eH:a<=c)(h5:c<k)(ay:k<=L.length):
  bE (b.aM K) 0 (.f (.func JU) [] []) [aE p,ah k,.R [ah a,ah c]] J (λr τ=>r= .ok (.b (hJ L B k a c))/\dN J τ):=by
 refine W.code hf.B6.e hf.B6.p hf.B6.f I I I I λz=>?_;obtain⟨cE,eO,bK,eZ,h1,h2,h3,aO,bI,cx,dI⟩:=ed.ex;have H:Has J [(p,[cG L,cE,eO])]:=Has.nil.cons h1 aF;have hl:=c6.lt;have hd:=c6.len;refine aj ?_;generalize aV:J.next=q;refine W.cA H aV I I I I I λτ hn H bx=>?_;have r9:=c6.br _ (gC (show k-1<L.length by omega));have au:=(h2.aP (τ:=τ) λi o _=>bx i o).vw;have aL:=B8 (L:=L) (k:=k) U ay;have a5:=B8 (L:=L) (k:=c) U U;have b8Z:=ed.aP bx;have cR:∀(m:Nat) ai,kS ai p L B N->1<=m->m<=B.length->bE (b.aM K) 0 (.f (.func BY) [] []) [aE p,ah m,ah (L[k-1].br+1),ah a] ai (λr τ=>r= .ok (.b (nM B m (L[k-1].br+1) a))/\τ=ai):=λm ai h bU bV=>b8X hf.Kj h m _ a bU bV U U U;unfold hJ;rw[aL,a5];refine aj ?_;refine W.an (hf.q.one I) I I I (cR a τ b8Z ha U) λr aB ⟨e,cy⟩=>⟨_,e,?_⟩
 subst cy;cases ao:nM B a (L[k-1].br+1) a with
 |false=>
  refine aj ?_;exact ak.ret ⟨rfl,rfl,U,bx⟩
 |true=>
  have qo:B.getD (a-1) []=B[a-1]:=by rw[yT,fw U];rfl
  have Qe:B.getD (k-1) []=B[k-1]:=by rw[yT,fw U];rfl
  have hlen:L[k-1].br+1<=B[a-1].length:=by
   have:=of_decide_eq_true ao;rw[qo] at this;have:=(jK.1 this).1;omega
  have aW:=(aO (a-1) U U).aP (τ:=aB) λi o _=>bx i o;have iX:=(aO (k-1) U U).aP (τ:=aB) λi o _=>bx i o;rw[qo,Qe];refine aj ?_;refine W.Ke aW U I I I I λw hw=>?_;have a0y:=iX.kR;refine aj ?_;have e8:L[k-1].br+1-1=L[k-1].br:=by omega
  rw[e8] at hw;refine W.an (hf.q.one I) I I I (a0x hf.equal hw a0y (by rw[fe];omega)) λr τ ⟨e,cy⟩=>⟨_,e,?_⟩
  subst cy;by_cases he:(B[a-1]).take (L[k-1].br)=B[k-1]
  ·rw[decide_eq_true he,oq,oq];refine aj ?_;by_cases Qf:L[c-1].br=L[k-1].br+1
   ·rw[decide_eq_true Qf,oq];refine aj ?_;refine W.an (hf.q.one I) I I I (cR c _ (ed.aP bx) U U) λr τ ⟨e,cy⟩=>⟨_,e,?_⟩
    subst cy;cases oh:nM B c (L[k-1].br+1) a with
    |false=>
     refine aj ?_;exact ak.ret ⟨rfl,rfl,U,bx⟩
    |true=>
     refine aj ?_;refine W.an (hf.q.one I) I I I (cR (c+1) _ (ed.aP bx) U U) λr τ ⟨e,cy⟩=>⟨_,e,?_⟩
     subst cy;refine aj ?_;exact ak.ret ⟨rfl,rfl,U,bx⟩
   ·rw[decide_eq_false Qf];refine aj ?_;exact ak.ret ⟨rfl,rfl,U,bx⟩
  ·rw[decide_eq_false he];refine aj ?_;exact ak.ret ⟨rfl,rfl,U,bx⟩
def asmF(L:List bg)(first d:Nat):Nat->Nat->List Nat
 |0,_=>[]
 |m+1,n=>match L[n-1]? with
  |some x=>if x.hyp=true/\x.br=d/\¬(first<n/\0<x.op) then n::asmF L first d m (n+1) else[]
  |none=>[]
def iY(L:List bg)(first d:Nat):List Nat:=asmF L first d (L.length+1-first) first
def zG(L:List bg)(first d m n:Nat):asmF L first d (m+1) n=match L[n-1]? with
  |some x=>if x.hyp=true/\x.br=d/\¬(first<n/\0<x.op) then n::asmF L first d m (n+1) else[]
  |none=>[]:=rfl
structure zH(J τ:ae)(v:AV)(l:List Nat):Prop where
 al:fg τ v l
 cY:∀i,v.at? =some i->J.next<=i
 hF:l=[]->v= .af
def Qg(hf:lQ b K){p:Nat}{L:List bg}{B N:List (List Nat)}{J:ae}(ed:kS J p L B N)(hL:L.length<2^20)(dP:∀x∈L,x.op<2^20)(first d:Nat)(h1:1<=first)(h2:first<=L.length):
  bE (b.aM K) 0 (.f (.func JV) [] []) [aE p,ah first,ah d] J (λr τ=>∃v,r= .ok v/\zH J τ v (iY L first d)/\dN J τ):=by
 refine W.code hf.Kk.e hf.Kk.p hf.Kk.f I I I I λz=>?_;obtain⟨cE,eO,bK,eZ,aw,_⟩:=ed.ex;have H:Has J [(p,[cG L,cE,eO])]:=Has.nil.cons aw aF;refine aj ?_;refine ak.block ?_;refine ak.loop (λm f τ=>∃n v l,n+m=L.length+1/\first<=n/\l++asmF L first d m n=iY L first d/\l.length+first=n/\zH J τ v l/\dN J τ/\sat [(0,aE p),(1,ah first),(2,ah d),(7,v),(8,ah n)] f) ?_ (L.length+1-first) ⟨first,.af,[],U,U,rfl,aF,⟨.nil,(λ_ h=>by cases h),λ_=>rfl⟩,⟨U,λ_ _ h=>h⟩,rfl,rfl,rfl,rfl,rfl,trivial⟩;rintro m f τ ⟨n,v,l,Fb,iC,hl,e0,au,cc,ao⟩;refine ak.norm _ ao λz=>?_;clear ao;have H:=H.aP cc.2;by_cases hn:n<=L.length
 ·obtain⟨m,rfl⟩:∃k,m=k+1:=⟨m-1,U⟩
  have hx:L[n-1]? =some L[n-1]:=fw U;have ho:=dP _ (gC (show n-1<L.length by omega));rw[zG,hx] at hl;simp only[] at hl;refine aj ?_;generalize jV:L[n-1]=x at hl ho;refine W.jj H I I I I I I I λa9 c8 H bb=>?_;have sy:=au.al.aP (τ:=a9) λi o _=>bb i o;have M2:dN J a9:=⟨by have:=cc.1;omega,λi o ho=>bb i o (cc.2 i o ho)⟩
  have fin:∀g:Nat->AV,iY L first d=l->bL (b.aM K) none [] b7c.ntmps (.seq (.region [⟨some 51,.bJ (.t 7),none,[]⟩,⟨some 6,.bJ (.t 51),none,[]⟩]) .ret) (bB [(7,v)] g) a9 (λx b_ ai=>x= .ret/\∃v,en.ok (b_ 6)= .ok v/\zH J ai v (iY L first d)/\dN J ai):=λg e=>by
   refine aj ?_;exact ak.ret ⟨rfl,v,rfl,by rw[e];exact⟨sy,au.cY,au.hF⟩,M2⟩
  refine W.nil ?_;refine ak.b5q [(0,aE p),(1,ah first),(2,ah d),(7,v),(8,ah n)] (E:=λx f ai=>x= .exit 0/\sat [(7,v)] f/\ai=a9/\iY L first d=l) (M:=l++n::asmF L first d m (n+1)=iY L first d) ?_ ?_ ?_
  ·obtain⟨B9,q6,Kn,a0z,B_,hp⟩:=x;simp only[] at hl ho;have out:∀(F:List (Nat×AV)) (g:Nat->AV),¬(Kn=true/\B9=d/\¬(first<n/\0<q6))->sat [(7,v)] (bB F g)->(fZ.exit 0=fZ.normal/\a9=a9/\sat [(0,aE p),(1,ah first),(2,ah d),(7,v),(8,ah n)] (bB F g)/\l++n::asmF L first d m (n+1)=iY L first d)\/(fZ.exit 0=fZ.exit 0/\sat [(7,v)] (bB F g)/\a9=a9/\iY L first d=l):=λF g ab ao=>by
    rw[if_neg ab,iL] at hl;exact .inr ⟨rfl,ao,rfl,hl.symm⟩
   cases Kn with
   |false=>
    refine aj ?_;refine ak.exit ?_;exact(out _ _ aF ⟨rfl,trivial⟩)
   |true=>
    by_cases hd:B9=d
    ·by_cases hfn:first<n
     ·by_cases h0:0<q6
      ·refine aj ?_;refine ak.exit ?_;exact(out _ _ (λh=>h.2.2 ⟨hfn,h0⟩) ⟨rfl,trivial⟩)
      ·refine aj ?_;rw[if_pos ⟨rfl,hd,λh=>h0 h.2⟩] at hl;exact .inl ⟨rfl,rfl,dp,hl⟩
     ·refine aj ?_;rw[if_pos ⟨rfl,hd,λh=>hfn h.1⟩] at hl;exact .inl ⟨rfl,rfl,dp,hl⟩
    ·refine aj ?_;refine ak.exit ?_;exact(out _ _ (λh=>hd h.2.1) ⟨rfl,trivial⟩)
  ·rintro x f ai ⟨rfl,ao,rfl,e⟩;refine⟨aF,?_⟩;show bL _ _ _ _ _ _ _ _;exact ak.norm _ ao λg=>fin g e
  ·intro b9a g;refine aj ?_;refine W.pu (ah n) sy I I I I I I I I I (by rw[uV];omega) λbR bu pk rr _ er k3=>?_;refine aj ?_;refine⟨m,U,n+1,bR,l++[n],U,U,by rw[iE];exact b9a,by simp;omega,⟨by unfold fg;rw[hQ];exact pk,λi hi=>?_,λe=>absurd e aF⟩,⟨?_,λi o ho=>?_⟩,rfl,rfl,rfl,rfl,rfl,trivial⟩
   ·rw[rr] at hi;cases hi;have:=cc.1;omega
   ·have:=cc.1;omega
   ·exact k3 i o (λe=>by have:=au.cY i e;have:=ae.bt ho;omega) (M2.2 i o ho)
 ·obtain rfl:m=0:=by omega
  refine aj ?_;refine ak.exit ?_;show bL _ _ _ _ _ _ _ _;refine ak.norm [(7,v)] ⟨rfl,trivial⟩ λg=>?_;refine aj ?_;exact ak.ret ⟨rfl,v,rfl,⟨by rw[<-hl,show asmF L first d 0 n=[] from rfl,iL];exact au.al,au.cY,λe=>au.hF (by rw[<-hl,show asmF L first d 0 n=[] from rfl,iL] at e;exact e)⟩,cc⟩
def nc(L:List bg)(N:List (List Nat))(k a c:Nat):List Nat:=(N.getD (c-1) []).filter λn=>!decide (n∈iY L a (kr L k+1))
def Ko(L:List bg)(first d:Nat):∀m n,(asmF L first d m n).length<=m
 |0,_=>bs _
 |m+1,n=>by
  rw[zG];split
  ·split
   ·have:=Ko L first d m (n+1);simp only[CZ];omega
   ·exact rU _
  ·exact rU _
def a0A(hf:lQ b K){p:Nat}{L:List bg}{B N:List (List Nat)}{J:ae}(ed:kS J p L B N)(c6:oD L B)(dP:∀x∈L,x.op<2^20)(ek:∀l∈N,l.length<2^20)(k a c:Nat)(ha:1<=a)(eH:a<=c)(h5:c<k)(ay:k<=L.length)(ab:c<=N.length):
  bE (b.aM K) 0 (.f (.func JW) [] []) [aE p,ah k,.R [ah a,ah c]] J (λr τ=>∃v,r= .ok v/\zH J τ v (nc L N k a c)/\dN J τ):=by
 refine W.code hf.beside.e hf.beside.p hf.beside.f I I I I λz=>?_;obtain⟨cE,eO,bK,eZ,h1,h2,h3,aO,bI,cx,dI⟩:=ed.ex;have H:Has J [(p,[cG L,cE,eO])]:=Has.nil.cons h1 aF;have hl:=c6.lt;refine aj ?_;refine W.cA H I I I I I I λτ hn H bx=>?_;have r9:=c6.br _ (gC (show k-1<L.length by omega));have aL:=B8 (L:=L) (k:=k) U ay;unfold nc;rw[aL];refine aj ?_;refine W.an (hf.q.one I) I I I (Qg hf (ed.aP bx) hl dP a (L[k-1].br+1) ha U) λr a9 ⟨v,e,au,M⟩=>⟨_,e,?_⟩
 have H:=H.aP M.2;have bb:∀i o,J.get i=some o->a9.get i=some o:=λi o h=>M.2 i o (bx i o h);have Qh:=(bI.aP (τ:=a9) λi o _=>bb i o).vw;have aW:=(dI (c-1) U U).aP (τ:=a9) λi o _=>bb i o;have mN:N.getD (c-1) []=N[c-1]:=by rw[yT,fw U];rfl
 have b9b:=ek _ (gC (show c-1<N.length by omega));rw[mN];have Qi:=aW.kR;have pT:(iY L a (L[k-1].br+1)).length<2^62:=by have:=Ko L a (L[k-1].br+1) (L.length+1-a) a;unfold iY;omega
 generalize iY L a (L[k-1].br+1)=own at au pT;generalize N[c-1]=hF at aW Qi b9b;generalize b9c:eZ[c-1]=a0B at aW Qi;refine aj ?_;rw[b9c];refine aj ?_;have k9:=au.al;refine ak.each hF.length (λj f aB=>∃w,zH a9 aB w ((hF.take j).filter λn=>!decide (n∈own))/\dN a9 aB/\sat [(7,v),(8,w),(33,a0B)] f) U ⟨.af,⟨.nil,(λ_ h=>by cases h),λ_=>rfl⟩,⟨U,λ_ _ h=>h⟩,rfl,rfl,rfl,trivial⟩ I I (λj g aB ax Kp hi hm=>?_) (λg aB Kp hi=>?_)
 ·obtain⟨w,hw,M2,hH,gM,Kq,_⟩:=Kp;refine ak.norm [(7,v),(8,w),(33,a0B),(35,ah j),(34,ah hF.length)] ⟨hH,gM,Kq,hi,hm,trivial⟩ λg=>?_;have Qi:=(aW.aP (τ:=aB) λi o _=>M2.2 i o).kR;have b9d:=(k9.aP (τ:=aB) λi o _=>M2.2 i o).kR;refine aj ?_;refine W.an trivial I I I (b8Y hf.cont hf.index b9d pT hF[j]) λr bu ⟨e,cy⟩=>⟨_,e,?_⟩
  subst cy;by_cases hm:hF[j]∈own
  ·rw[decide_eq_true hm];refine aj ?_;exact⟨rfl,rfl,w,by rw[lO ax,B1,u0,decide_eq_true hm];simpa using hw,M2,rfl,rfl,rfl,trivial⟩
  ·rw[decide_eq_false hm];refine aj ?_;refine W.pu (ah hF[j]) hw.al I I I I I I I I I (by rw[uV];have:=E6 (λn=>!decide (n∈own)) (hF.take j);rw[fe] at this;omega) λbR cm zI oE _ e_ b1=>?_;refine aj ?_;refine⟨rfl,rfl,bR,⟨?_,λi hi=>?_,λe=>?_⟩,⟨?_,λi o ho=>b1 i o (λe=>?_) (M2.2 i o ho)⟩,rfl,rfl,rfl,trivial⟩
   ·rw[lO ax,B1,u0,decide_eq_false hm];unfold fg;rw[hQ];exact zI
   ·rw[oE] at hi;cases hi;have:=M2.1;omega
   ·rw[lO ax,B1,u0,decide_eq_false hm] at e;simp at e
   ·have:=M2.1;omega
   ·have:=hw.cY i e;have:=ae.bt ho;omega
 ·obtain⟨w,hw,M2,hH,gM,_⟩:=Kp;refine ak.norm [(8,w)] ⟨gM,trivial⟩ λg=>?_;refine aj ?_;have c8:=M.1;refine ak.ret ⟨rfl,w,rfl,⟨by rw[B0] at hw;exact hw.al,(λi hi=>by have:=hw.cY i hi;omega),λe=>hw.hF (by rw[B0];exact e)⟩,⟨by have:=M2.1;omega,λi o h=>M2.2 i o (bb i o h)⟩⟩
end
section
variable {b:bT}{K:Nat->List AV->AV->Prop}
def W.Fc{α:Type}{env:Env}{aR:Option Nat}{D:List (Nat ⊕ (AV×List AV))}{n:Nat}{a:bF}{f:Nat->AV}{J:ae}{Q:dZ}(L:α->List (Nat×AV))(ag:α->ae->Prop)(h1:bL env aR D n a f J (λx b_ ai=>x= .normal/\∃p,ag p ai/\sat (L p) b_))(h2:∀p g ai,ag p ai->Q .normal (bB (L p) g) ai):bL env aR D n a f J Q:=
 h1.mono λx b_ ai ⟨aL,p,a5,cy⟩=>by
  subst aL;rw[<-Er cy];exact h2 p b_ ai a5
def W.mk{ck:l9}{env:Env}{aR:Option Nat}{D:List (Nat ⊕ (AV×List AV))}{n:Nat}{F:List (Nat×AV)}{z:Nat->AV}{J:ae}{Q:dZ}{L:List (Nat×List AV)}(H:Has J L){d:Nat}{lh:AV}{x y:aJ}{g:Option (Nat×Bool)}{ops:List a4}{m:Nat}{k bytes:Nat}(hn:J.next=k)(hb:bytes*m<=281474976710656)(hm:m<=281474976710656)(hd:Nat.blt d n=true)(hw:wtL g n F=true)(h1:dn env n F z x=some (ah m))(h2:dn env n F z y=some (ah m))
  (h:∀τ:ae,τ.next=k+1->Has τ ((k,List.replicate m lh)::L)->(∀i o,J.get i=some o->τ.get i=some o)->cg ck env aR D n ops (bB ((d,.al k 0 m none (some m))::F) z) τ Q):cg ck env aR D n (⟨some d,.mkSlice none bytes [lh] x y,g,[]⟩::ops) (bB F z) J Q:=by
 subst hn;have lj:∀m,f_ m [lh]=List.replicate m lh:=λm=>by
  induction m with
  |zero=>rfl
  |succ m aH=>show lh::f_ m [lh]=_;rw[aH];rfl
 have dr:∀i o,J.get i=some o->(J.push (.cells (List.replicate m lh))).get i=some o:=λi o ho=>by rw[ae.gD trivial _ (ae.bt ho)];exact ho
 refine W.val (v:=.al J.next 0 m none (some m)) (ai:=J.push (.cells (List.replicate m lh))) hd hw ?_ (h (J.push (.cells (List.replicate m lh))) I (H.push I (ae.jL _) dr) dr);show(match dn env n F z x,dn env n F z y with
  |some (.i _ (.ofNat n)),some (.i _ (.ofNat m))=>
   cond (Nat.beq [lh].length (shN none)&&(Nat.ble n m&&(Nat.ble (bytes*m) 281474976710656&&Nat.ble m 281474976710656)))
    (some (bZ.val (.al J.next 0 n none (some m)) (J.push (.cells (f_ m [lh]))))) none
  |some .af,some (.i _ (.ofNat m))=>
   cond (Nat.beq [lh].length (Nat.succ (shN none))&&(Nat.blt 0 m&&Nat.ble ((3*m+2000)*bytes) 281474976710656))
    (some (bZ.val (.al J.next 0 m none none) (J.push (.cells (f_ m [lh].tail))))) none
  |_,_=>none)=_
 rw[h1,h2];show cond (Nat.ble m m&&(Nat.ble (bytes*m) 281474976710656&&Nat.ble m 281474976710656)) (some (bZ.val (.al J.next 0 m none (some m)) (J.push (.cells (f_ m [lh]))))) none=_;rw[iR (bs m),iR hb,iR hm,lj];rfl
def a0C{vT:List Bool}{n:Nat}(h:n<vT.length):storeCells (vT.map AV.b) (0+n*shN none) (AV.b true).cells=some ((vT.set n true).map AV.b):=by
 have e:0+n*shN none=n:=by show 0+n*1=n;omega
 rw[e];unfold storeCells;rw[if_pos (iR (by show n+1<=_;rw[uV];omega))];show some ((vT.map AV.b).take n++([AV.b true]++(vT.map AV.b).drop (n+1)))=_;rw[P6,if_pos h];simp
def Qj{vT:List Bool}{n:Nat}(h:n<vT.length):dV none ((vT.map AV.b).drop (0+n*shN none))=some (.b vT[n]):=by
 have e:0+n*shN none=n:=by show 0+n*1=n;omega
 rw[e,← C3,P5 h];rfl
def ru(L:List bg)(B N:List (List Nat))(k:Nat)(ac:Nat×Nat):List Nat:=cond (hJ L B k ac.1 ac.2) (nc L N k ac.1 ac.2) (N.getD (ac.2-1) [])
def oF(L:List bg)(B N:List (List Nat))(k:Nat)(l:List (Nat×Nat))(n:Nat):Bool:=l.any λac=>decide (n∈ru L B N k ac)
def needL(L:List bg)(B N:List (List Nat))(k:Nat):List Nat:=match L[k-1]? with
 |some x=>cond x.hyp [k] ((List.range k).filter (oF L B N k x.cs))
 |none=>[]
def oG(k:Nat)(l:List (Nat×Nat)):Prop:=l.length<2^20/\∀ac∈l,1<=ac.1/\ac.1<=ac.2/\ac.2<k
def b9e{k:Nat}(p:Nat->Bool)(n:Nat):((List.range k).map p).set n true=(List.range k).map λi=>p i||decide (i=n):=by
 apply ym
 ·simp
 ·intro i h1 h2;rw[uZ];simp only[mQ,yn];by_cases h:n=i
  ·subst h;simp
  ·rw[if_neg h,decide_eq_false (λe=>h e.symm),P7]
def b9f(hf:lQ b K){p:Nat}{L:List bg}{B N:List (List Nat)}{J:ae}(ed:kS J p L B N)(c6:oD L B)(dP:∀x∈L,x.op<2^20)(ek:∀l∈N,l.length<2^20)(k:Nat)(Kr:1<=k)(ay:k<=L.length)(a0D:k<=N.length+1)(b9g:∀l∈N.take (k-1),∀n∈l,n<k)(ab:∀x,L[k-1]? =some x->oG k x.cs):
  bE (b.aM K) 0 (.f (.func JT) [] []) [aE p,ah k] J (λr τ=>∃v,r= .ok v/\zH J τ v (needL L B N k)/\dN J τ):=by
 refine W.code hf.B7.e hf.B7.p hf.B7.f I I I I λz=>?_;obtain⟨cE,eO,bK,eZ,h1,h2,h3,aO,bI,cx,dI⟩:=ed.ex;have H:Has J [(p,[cG L,cE,eO])]:=Has.nil.cons h1 aF;have hl:=c6.lt;have hx:L[k-1]? =some L[k-1]:=fw U;replace ab:=ab _ hx;have df:needL L B N k=cond (L[k-1]).hyp [k] ((List.range k).filter (oF L B N k (L[k-1]).cs)):=by unfold needL;rw[hx]
 refine aj ?_;generalize jV:L[k-1]=x at ab df;cases hh:x.hyp with
 |true=>
  refine aj ?_;refine W.bK (c:=[ah k]) H I I I I λτ hn H bx=>?_;refine aj ?_;rw[hh] at df;refine ak.ret ⟨rfl,_,rfl,⟨by rw[df];exact .al J.next (some 1) [ah k] [] (H.get _ (.head _)) (by intro y hy;rw[uT.1 hy];exact(rfl:conf none (ah k)=true)) (.inr I),(λi hi=>by cases hi;exact bs _),λe=>absurd (df.symm.trans e) aF⟩,U,bx⟩
 |false=>
  refine aj ?_;refine W.mk H I U U I I I I λτ hn H bx=>?_;generalize aV:J.next=q at H hn;refine aj ?_;rw[jV];refine aj ?_;have Qk:∀i o,J.get i=some o->i≠q:=λi o ho=>by have:=ae.bt ho;omega
  have zf:q≠p:=λe=>Qk p _ h1 e.symm
  -- Hf is there at u1 c9u c9v
  let O5:ae->Prop:=λaB=>q<aB.next/\∀i o,J.get i=some o->aB.get i=some o
  refine ak.each x.cs.length (λj f aB=>O5 aB/\aB.get q=some (.cells (((List.range k).map (oF L B N k (x.cs.take j))).map AV.b))/\sat [(0,aE p),(1,ah k),(5,.al q 0 k none (some k)),(35,hI true x.cs)] f) (by have:=ab.1;omega) ⟨⟨U,bx⟩,?_,rfl,rfl,rfl,rfl,trivial⟩ I I (λj g aB ax aW hi hm=>?_) (λg aB aW hi=>?_)
  ·rw[H.get _ (.head _)]
   congr 2
   apply ym<;>simp[oF]
  ·obtain⟨⟨b9h,gF⟩,hb,c5,bU,dm,Ca,_⟩:=aW;refine ak.norm [(0,aE p),(1,ah k),(5,.al q 0 k none (some k)),(35,hI true x.cs),(37,ah j),(36,ah x.cs.length)] ⟨c5,bU,dm,Ca,hi,hm,trivial⟩ λg=>?_;have H:Has aB [(p,[cG L,cE,eO])]:=Has.nil.cons (gF _ _ h1) aF;obtain⟨ha,eH,h5⟩:=ab.2 _ (gC ax);refine aj ?_;generalize Fe:x.cs[j]=ac at ha eH h5;obtain⟨a,c⟩:=ac;simp only[] at ha eH h5;refine W.jj H I I I I I I I λa9 c8 H bb=>?_;have Ff:∀i o,J.get i=some o->a9.get i=some o:=λi o h=>bb i o (gF i o h);have Qh:=(bI.aP (τ:=a9) λi o _=>Ff i o).vw;have lC:=bb _ _ hb;have aW:=(dI (c-1) U U).aP (τ:=a9) λi o _=>Ff i o;refine aj ?_;refine W.an trivial I I I (Km hf (ed.aP Ff) c6 k a c ha eH h5 ay) λr bu ⟨e,ee⟩=>⟨_,e,?_⟩
   have H:=H.aP ee.2;have mN:N.getD (c-1) []=N[c-1]:=by rw[yT,fw U];rfl
   refine W.nil ?_;refine W.Fc (α:=AV) (λv=>[(0,aE p),(1,ah k),(5,.al q 0 k none (some k)),(35,hI true x.cs),(37,ah j),(36,ah x.cs.length),(8,v)]) (λv aB=>fg aB v (ru L B N k (a,c))/\(∀i,v.at? =some i->i≠q)/\dN a9 aB) ?_ ?_
   ·unfold ru;cases Ks:hJ L B k a c with
    |true=>
     refine aj ?_;refine W.an trivial I I I (a0A hf (ed.aP λi o h=>ee.2 i o (Ff i o h)) c6 dP ek k a c ha eH h5 ay U) λr cm ⟨v,e,au,fp⟩=>⟨_,e,?_⟩
     refine aj ?_;exact⟨rfl,v,⟨au.al,λi hi e=>by have:=au.cY i hi;have:=ee.1;omega,by have:=ee.1;have:=fp.1;omega,λi o h=>fp.2 i o (ee.2 i o h)⟩,rfl,rfl,rfl,rfl,rfl,rfl,rfl,trivial⟩
    |false=>
     refine aj ?_;refine⟨rfl,_,⟨?_,λi hi e=>?_,ee⟩,rfl,rfl,rfl,rfl,rfl,rfl,rfl,trivial⟩
     ·show fg bu eZ[c-1] (N.getD (c-1) []);rw[mN];exact aW.aP λi o _=>ee.2 i o
     ·obtain⟨o,ho⟩:∃o,J.get i=some o:=by
       have h:=dI (c-1) U U;unfold fg at h;generalize List.map ah _=xs at h;have hi:(eZ[c-1]).at? =some i:=hi;generalize eZ[c-1]=w at h hi;cases h with
       |nil=>cases hi
       |al o cap xs rest hg ab ay=>cases hi;exact⟨_,hg⟩
      exact Qk i o ho e
   ·intro v g cm ⟨au,Fg,fp⟩;have a0E:∀n∈ru L B N k (a,c),n<k:=λn hn=>by
     have gn:N[c-1]∈N.take (k-1):=List.mem_take_iff_getElem.2 ⟨c-1,U,rfl⟩;have h6:n∈N.getD (c-1) []:=by
      unfold ru at hn;cases Ks:hJ L B k a c with
      |true=>simp only[Ks,cond_true] at hn;exact(NN.1 hn).1
      |false=>simpa only[Ks,cond_false] using hn
     rw[mN] at h6;exact b9g _ gn n h6
    have b9i:(ru L B N k (a,c)).length<2^20:=by
     have h1:=ek _ (gC (show c-1<N.length by omega));unfold ru;cases hJ L B k a c with
     |true=>rw[cond_true];unfold nc;rw[mN];exact qJ (E6 _ _) h1
     |false=>rw[cond_false,mN];exact h1
    have qp:=au.kR;generalize Ql:ru L B N k (a,c)=hF at au b9i a0E qp;refine aj ?_;refine ak.each hF.length (λi f aB=>(∀i o,i≠q->cm.get i=some o->aB.get i=some o)/\cm.next<=aB.next/\aB.get q=some (.cells (((List.range k).map λm=>oF L B N k (x.cs.take j) m||decide (m∈hF.take i)).map AV.b))/\sat [(0,aE p),(1,ah k),(5,.al q 0 k none (some k)),(35,hI true x.cs),(37,ah j),(36,ah x.cs.length),(58,v)] f) U ⟨λ_ _ _ h=>h,bs _,?_,rfl,rfl,rfl,rfl,rfl,rfl,rfl,trivial⟩ I I (λi g aB fA aW dq n1=>?_) (λg aB aW dq=>?_)
    ·rw[fp.2 _ _ lC];simp
    ·obtain⟨xH,tL,Cb,c5,bU,dm,Ca,Qm,Qn,a0F,_⟩:=aW;refine ak.norm [(0,aE p),(1,ah k),(5,.al q 0 k none (some k)),(35,hI true x.cs),(37,ah j),(36,ah x.cs.length),(58,v),(60,ah i),(59,ah hF.length)] ⟨c5,bU,dm,Ca,Qm,Qn,a0F,dq,n1,trivial⟩ λg=>?_;have H:Has aB [(q,_)]:=Has.nil.cons Cb aF;have qp:=(au.aP (τ:=aB) λi o hi=>xH i o (Fg i hi)).kR;have hlt:=a0E _ (gC fA);refine aj ?_;refine W.eR I I I I (m7 hlt) ?_;refine W.st H 0 I I I I I (a0C (by rw[uV,b7];exact hlt)) λdg iW H c9=>?_;refine aj ?_;refine⟨rfl,rfl,λi o hi h=>c9 i o hi (xH i o hi h),U,?_,rfl,rfl,rfl,rfl,rfl,rfl,rfl,trivial⟩;rw[H.get _ (.head _),b9e];refine congrArg (λf=>some (AO.cells (((List.range k).map f).map AV.b))) (funext λm=>?_);rw[lO fA,Bool.or_assoc];refine congrArg (λt=>oF L B N k (x.cs.take j) m||t) ?_;rw[oS,dA,decide_eq_true_eq,decide_eq_true_eq,decide_eq_true_eq,tl,uT]
    ·obtain⟨xH,tL,Cb,c5,bU,dm,Ca,Qm,Qn,a0F,_⟩:=aW;refine⟨Qm,Qn,⟨by have:=fp.1;omega,λi o h=>xH i o (Qk i o h) (fp.2 i o (Ff i o h))⟩,?_,c5,bU,dm,Ca,trivial⟩;rw[Cb];refine congrArg (λf=>some (AO.cells (((List.range k).map f).map AV.b))) (funext λm=>?_);rw[lO ax,B0];unfold oF;rw[List.any_append,Fe,List.any_cons,List.any_nil,P7,Ql]
  ·obtain⟨⟨b9h,gF⟩,hb,c5,bU,dm,Ca,_⟩:=aW;refine ak.norm [(0,aE p),(1,ah k),(5,.al q 0 k none (some k))] ⟨c5,bU,dm,trivial⟩ λg=>?_;rw[B0] at hb;have H:Has aB [(q,_)]:=Has.nil.cons hb aF;refine aj ?_;refine ak.each k (λj f a9=>∃w,zH aB a9 w ((List.range j).filter (oF L B N k x.cs))/\dN aB a9/\sat [(11,w),(69,.al q 0 k none (some k))] f) U ⟨.af,⟨.nil,(λ_ h=>by cases h),λ_=>rfl⟩,⟨bs _,λ_ _ h=>h⟩,rfl,rfl,trivial⟩ I I (λj g a9 ax aW hi hm=>?_) (λg a9 aW hi=>?_)
   ·obtain⟨w,hw,M2,Cc,b9j,_⟩:=aW;refine ak.norm [(11,w),(69,.al q 0 k none (some k)),(71,ah j),(70,ah k)] ⟨Cc,b9j,hi,hm,trivial⟩ λg=>?_;have H:=H.aP M2.2;have b9k:dV none ((((List.range k).map (oF L B N k x.cs)).map AV.b).drop (0+j*shN none))=some (.b (oF L B N k x.cs j)):=by rw[Qj (by simpa using ax)];simp
    refine aj ?_;refine W.eR I I I I (m7 ax) ?_;refine W.aA H I I I (.head _) b9k ?_;cases hn:oF L B N k x.cs j with
    |false=>
     refine aj ?_;exact⟨rfl,rfl,w,by rw[xD,B1,u0,hn];simpa using hw,M2,rfl,rfl,trivial⟩
    |true=>
     refine aj ?_;refine W.pu (ah j) hw.al I I I I I I I I I (by rw[uV];have:=E6 (oF L B N k x.cs) (List.range j);rw[b7] at this;omega) λbR cm zI oE _ e_ b1=>?_;refine aj ?_;refine⟨rfl,rfl,bR,⟨?_,λi hi=>?_,λe=>?_⟩,⟨?_,λi o ho=>b1 i o (λe=>?_) (M2.2 i o ho)⟩,rfl,rfl,trivial⟩
     ·rw[xD,B1,u0,hn];unfold fg;rw[hQ];exact zI
     ·rw[oE] at hi;cases hi;have:=M2.1;omega
     ·rw[xD,B1,u0,hn] at e;simp at e
     ·have:=M2.1;omega
     ·have:=hw.cY i e;have:=ae.bt ho;omega
   ·obtain⟨w,hw,M2,Cc,_⟩:=aW;refine ak.norm [(11,w)] ⟨Cc,trivial⟩ λg=>?_;refine aj ?_;rw[hh] at df;exact ak.ret ⟨rfl,w,rfl,⟨by rw[df];exact hw.al,(λi hi=>by have:=hw.cY i hi;omega),λe=>hw.hF (df.symm.trans e)⟩,by have:=M2.1;omega,λi o h=>M2.2 i o (gF i o h)⟩
end
end
def W.nd{env:Env}{aR:Option Nat}{D:List (Nat ⊕ (AV×List AV))}{n:Nat}{F:List (Nat×AV)}{z:Nat->AV}{J:ae}{Q:dZ}{d:Nat}{op:AOp}{g:Option (Nat×Bool)}{ops:List a4}{ct:AV}{args:List AV}{ag:en->ae->Prop}(hd:Nat.blt d n=true)(hw:wtL g n F=true)(ho:opx 0 (dn env n F z) J op=some (.call ct args))
  (ab:bE env 0 ct args J ag) (h:∀r τ,ag r τ->∃v,r= .ok v/\cg .pl env aR D n ops (bB ((d,v)::F) z) τ Q):cg .pl env aR D n (⟨some d,op,g,[]⟩::ops) (bB F z) J Q:=aK.jh hd (rf hw) (by rw[pf];exact ho) ab h
structure sL(W W':Nat->Prop)(τ aB:ae):Prop where
 next:τ.next<=aB.next
 aP:∀c o,¬W c->τ.get c=some o->aB.get c=some o
 own:∀c,W' c->W c\/τ.next<=c/\c<aB.next
abbrev Qo:=Nat->(Nat->Prop)->ae->Prop
def b9l(Dq:Nat)(nf:Qo):Prop:=∀i W τ aB,nf i W τ->(∀c o,c<Dq\/W c->τ.get c=some o->aB.get c=some o)->τ.next<=aB.next->nf i W aB
def Yields(env:Env)(g:Nat)(cap:List AV)(N:Nat)(A:Nat->(Nat->Prop)->ae->List AV->Prop)(J:ae)(ks:Nat->Prop):Prop:=
 ∀(g_:AV) (nf:Qo) (τ:ae),b9l τ.next nf->(∀i W ec args,i<N->τ.next<=ec.next->A i W ec args->nf i W ec->bE env 0 g_ args ec (λr a9=>r= .ok (.b true)/\∃W',nf (i+1) W' a9/\sL W W' ec a9))→
  J.next<=τ.next->(∀c o,J.get c=some o->τ.get c=some o)->(∀c,ks c->c<J.next)->nf 0 ks τ->bE env 0 (.f (.func g) [] cap) [g_] τ (λr aB=>r= .ok (.a0 [])/\∃W',nf N W' aB)
def dQ.iter{env:Env}{D:List (Nat ⊕ (AV×List AV))}{n:Nat}{f:Nat->AV}{J:ae}{Q:dZ}{pd:aJ}{aC:List Nat}{fM jQ:bF}{g:Nat}{cap:List AV}{k:Nat}(N:Nat)(eV:Qo)(A:Nat->(Nat->Prop)->ae->List AV->Prop)(ks:Nat->Prop)(ay:J.next=k)
  (nE:dJ env n f pd=some (.f (.func g) [] cap)) (he:env.ext g=0) (aw:cD (λp=>Nat.blt p n) aC=true) (hlen:∀i W τ args,A i W τ args->args.length=aC.length)
  (cR:∀i W τ aB,eV i W τ->(∀c o,W c->τ.get c=some o->aB.get c=some o)->τ.next<=aB.next->eV i W aB) (h0:eV 0 ks J) (zJ:∀c,ks c->c<k) (cW:Yields env g cap N A J ks)
  (E8:∀i W τ args,i<N->A i W τ args->eV i W τ->(∀c,τ.get (k+1)≠some (.cells c))->(∀c,W c->c<k\/k+2<=c)->k+2<=τ.next->(∀c o,¬ks c->J.get c=some o->τ.get c=some o)->bL env (some (k+1)) [] n fM (IV aC args f) τ (λx f1 ec=>x= .normal/\(τ.next<=ec.next/\∀c o,τ.get c=some o->ec.get c=some o)∧
   ∀a9,a9.next=ec.next->(∀c o,c≠k+1->ec.get c=some o->a9.get c=some o)->eV i W a9->bL env (some (k+1)) [] n jQ f1 a9 (λx _ bu=>x= .normal/\∃W',eV (i+1) W' bu/\sL W W' a9 bu)))
  (E9:∀W τ,eV N W τ->τ.get k=some .eE->k+2<=τ.next->(∀c o,¬ks c->J.get c=some o->τ.get c=some o)->(∀c,W c->ks c\/k+2<=c)->Q .normal f τ):dQ env D (.inl k::D) n (.rangeFunc pd aC fM jQ) f J Q:=by
 subst ay;refine dQ.range nE he λal hc=>?_;generalize ay:J.next=k at *;have sn:((J.push .eE).push (.loop .ready none al aC fM jQ k)).get (k+1)=some (.loop .ready none al aC fM jQ k):=by
  have:=ae.jL (J:=J.push .eE) (.loop .ready none al aC fM jQ k);rwa[show(J.push .eE).next=k+1 from by show J.next+1=_;rw[ay]] at this
 have l4:∀i o,J.get i=some o->((J.push .eE).push (.loop .ready none al aC fM jQ k)).get i=some o:=λi o ho=>by
  have:=ae.bt ho;rw[ae.gD trivial _ (show i<(J.push .eE).next from by show i<J.next+1;omega),ae.gD trivial _ this];exact ho
 have um:((J.push .eE).push (.loop .ready none al aC fM jQ k)).get k=some .eE:=by
  rw[ae.gD trivial _ (show k<(J.push .eE).next from by show k<J.next+1;omega)];have:=ae.jL (J:=J) .eE;rwa[ay] at this
 have j6:((J.push .eE).push (.loop .ready none al aC fM jQ k)).next=k+2:=by show J.next+1+1=_;rw[ay]
 generalize(J.push .eE).push (.loop .ready none al aC fM jQ k)=cT at *;refine(cW (.f (.yield (k+1)) [] []) (λi W τ=>eV i W τ/\τ.get (k+1)=some (.loop .ready none al aC fM jQ k)/\k+2<=τ.next/\τ.get k=some .eE/\(∀c,W c->ks c\/k+2<=c)/\∀c o,¬ks c->J.get c=some o->τ.get c=some o) cT ?_ ?_ U l4 (λc ab=>by rw[ay];exact zJ c ab) ?_).mono ?_
 ·rintro i W τ aB ⟨aX,bc,cq,ew,eJ,kt⟩ dr hn;exact⟨cR i W τ aB aX (λc o ab=>dr c o (.inr ab)) hn,dr _ _ (.inl U) bc,U,dr _ _ (.inl U) ew,eJ,λc o ab ho=>dr c o (.inl (by have:=ae.bt ho;omega)) (kt c o ab ho)⟩
 ·rintro i W τ args hi hn hA ⟨aX,bc,cq,ew,eJ,kt⟩;have nJ:∀c,W c->c<k\/k+2<=c:=λc ab=>by
   rcases eJ c ab with h|h
   ·exact .inl (zJ c h)
   ·exact .inr h
  refine(bE.round (ag:=λa9=>∃W',(eV (i+1) W' a9/\a9.get (k+1)=some (.loop .ready none al aC fM jQ k)/\k+2<=a9.next/\a9.get k=some .eE/\(∀c,W' c->ks c\/k+2<=c)/\∀c o,¬ks c->J.get c=some o->a9.get c=some o)/\sL W W' τ a9) (f:=f) (n:=n) bc hc aw (by rw[hlen i W τ args hA];exact gQ _) ?_).mono λr ai h=>h;refine(E8 i W τ args hi hA aX (λc e=>by rw[bc] at e;cases e) nJ cq kt).mono λx f1 ec ⟨aL,a5,h1⟩=>?_;have a0G:=a5.2 _ _ bc;have b9m:=cR i W τ ec aX (λc o _=>a5.2 c o) a5.1;have gW:=jS (bX:=.loop .busy none al aC fM jQ k) a0G;have Qp:¬W (k+1):=λh=>by rcases nJ _ h with h|h<;>omega
  have b9n:¬W k:=λh=>by rcases nJ _ h with h|h<;>omega
  have db:=a5.1;refine⟨aL,a0G,(h1 (ec.set (k+1) (.loop .busy none al aC fM jQ k)) I (λc o ab ho=>gW.2 c o ab ho) (cR i W _ _ b9m (λc o ab ho=>gW.2 c o (λe=>Qp (e▸ab)) ho) (bs _))).mono λx _ bu ⟨cy,W',aW,cQ⟩=>?_⟩;have vS:=cQ.aP _ _ Qp gW.1;have qm:=jS (bX:=.loop .ready none al aC fM jQ k) vS;have er:ec.next<=bu.next:=cQ.next;have own:∀c,W' c->W c\/ec.next<=c:=λc ab=>(cQ.own c ab).imp id And.left;have Qq:¬W' (k+1):=λh=>by rcases own _ h with h|h;exact Qp h;omega
  have c7:∀c o,¬W c->c≠k+1->τ.get c=some o->(bu.set (k+1) (.loop .ready none al aC fM jQ k)).get c=some o:=λc o ab a7 ho=>qm.2 c o a7 (cQ.aP c o ab (gW.2 c o a7 (a5.2 _ _ ho)));refine⟨cy,vS,W',⟨cR _ _ _ _ aW (λc o ab ho=>qm.2 c o (λe=>Qq (e▸ab)) ho) (bs _),qm.1,by show k+2<=bu.next;omega,c7 k _ b9n U ew,λc ab=>?_,λc o ab ho=>?_⟩,by show τ.next<=bu.next;omega,λc o ab ho=>?_,λc ab=>(cQ.own c ab).imp id λh=>⟨by have h1:ec.next<=c:=h.1;omega,h.2⟩⟩
  ·rcases own c ab with h|h
   ·exact eJ c h
   ·exact .inr U
  ·have hlt:=ae.bt ho;by_cases a0H:W c
   ·rcases eJ c a0H with h|h
    ·exact absurd h ab
    ·omega
   ·exact c7 c o a0H U (kt c o ab ho)
  ·by_cases hl:c=k+1
   ·subst hl;rw[bc] at ho;cases ho;exact qm.1
   ·exact c7 c o ab hl ho
 ·exact⟨cR 0 ks J cT h0 (λc o _ ho=>l4 c o ho) U,sn,U,um,λc ab=>.inl ab,λc o _ ho=>l4 c o ho⟩
 ·rintro r τ ⟨aL,W',aX,bc,cq,ew,eJ,kt⟩;have gW:=jS (bX:=.loop .exhausted none al aC fM jQ k) bc;have Qq:¬W' (k+1):=λh=>by
   rcases eJ _ h with h|h
   ·have:=zJ _ h;omega
   ·omega
  exact⟨_,.ready,aL,bc,aF,E9 W' _ (cR _ _ _ _ aX (λc o ab ho=>gW.2 c o (λe=>Qq (e▸ab)) ho) (bs _)) (gW.2 _ _ U ew) cq (λc o ab ho=>gW.2 c o (by have:=ae.bt ho;omega) (kt c o ab ho)) eJ⟩
section
attribute [local irreducible] cg bL dC eu bE
section
variable {b:bT}{K:Nat->List AV->AV->Prop}
structure a0I(J τ:ae)(aa:Option Nat)(v:AV)(xs:List AV):Prop where
 al:Sl τ aa v xs
 cY:∀i,v.at? =some i->J.next<=i
 hF:xs=[]->v= .af
structure b9o(J τ:ae)(u v:AV)(l:List Nat):Prop where
 al:fg τ v l
 cY:∀i,v.at? =some i->J.next<=i
 hF:v.at? =none↔u.at? =none
def b9p(hf:lQ b K){J:ae}{v:AV}{l:List Nat}(h:fg J v l)(hl:l.length<2^20):bE (b.aM K) 0 (.f (.func J1) [] []) [v] J (λr τ=>∃bR,r= .ok bR/\b9o J τ v bR l/\dN J τ):=by
 refine W.code hf.clone.e hf.clone.p hf.clone.f I I I I λz=>?_;have H:Has J []:=Has.nil;have h':=h;unfold fg at h';generalize hm:l.map ah=xs at h';cases h' with
 |nil=>
  refine aj ?_;exact ak.ret ⟨rfl,_,rfl,⟨by unfold fg;rw[hm];exact .nil,(λi hi=>by cases hi),Iff.rfl⟩,bs _,λ_ _ h=>h⟩
 |al o cap xs rest hg ab ay=>
  have hlen:xs.length=l.length:=by rw[<-hm,uV]
  have aq:readList J (.al o 0 xs.length none cap)=some xs:=h.read.trans (by rw[hm]);refine aj ?_;refine W.bK (c:=[]) H I I I I λτ hn H bx=>?_;have q8:readList τ (.al o 0 xs.length none cap)=some xs:=b5C (λi c h=>bx i _ h) aq;have h0:Sl τ none (.al J.next 0 0 none (some 0)) []:=.al J.next (some 0) [] [] (H.get _ (.head _)) aF (.inr I);refine aj ?_;cases xs with
  |nil=>
   refine W.val (v:=.al J.next 0 0 none (some 0)) (ai:=τ) I I ?_ ?_
   ·show(match appendO 0 τ none 8 (.al J.next 0 0 none (some 0)) (.al o 0 0 none cap) with|some (v,J)=>some (bZ.val v J)|none=>none)=_;have AX:newOf τ (.al o 0 0 none cap)=some []:=q8;unfold appendO;rw[h0.read,AX];rfl
   ·refine aj ?_;exact ak.ret ⟨rfl,_,rfl,⟨by unfold fg;rw[hm];exact h0,(λi hi=>by cases hi;exact bs _),⟨(λe=>by cases e),λe=>by cases e⟩⟩,U,bx⟩
  |cons y bf=>
   have AX:newOf τ (.al o 0 (bf.length+1) none cap)=some (y::bf):=q8;refine W.ap y bf h0 AX ab (by simp only[lg];omega) I I I I λbR a9 au ha _ c8 bb=>?_;refine aj ?_;refine ak.ret ⟨rfl,_,rfl,⟨by unfold fg;rw[hm];exact au,λi hi=>?_,⟨λe=>?_,λe=>by cases e⟩⟩,U,λi o ho=>bb i o (λe=>?_) (bx i o ho)⟩
   ·have hi:bR.at? =some i:=hi;rw[ha] at hi;cases hi;omega
   ·have e:bR.at? =none:=e;rw[e] at ha;cases ha
   ·cases e;have:=ae.bt ho;omega
def fV(L:List bg)(n:Nat):Fm:=(L.map bg.f).getD (n-1) (.mk 0 [] none none)
def Cd{L:List bg}{n:Nat}(h1:1<=n)(h2:n<=L.length):fV L n=(L[n-1]'U).f:=by
 unfold fV;rw[yT,fG,fw U];rfl
def Qr(hf:lQ b K){p:Nat}{L:List bg}{B N:List (List Nat)}{J:ae}(ed:kS J p L B N)(hL:L.length<2^20){v:AV}{l:List Nat}(au:fg J v l)(hl:l.length<2^20)(hn:∀n∈l,1<=n/\n<=L.length):
  bE (b.aM K) 0 (.f (.func JX) [] []) [aE p,v] J (λr τ=>∃w,r= .ok w/\a0I J τ (some 4) w (l.map λn=>.R (bN (fV L n)))/\dN J τ):=by
 refine W.code hf.Kl.e hf.Kl.p hf.Kl.f I I I I λz=>?_;obtain⟨cE,eO,bK,eZ,aw,_⟩:=ed.ex;have H:Has J [(p,[cG L,cE,eO])]:=Has.nil.cons aw aF;have qp:=au.kR;refine aj ?_;refine ak.each l.length (λj f τ=>∃w,a0I J τ (some 4) w ((l.take j).map λn=>.R (bN (fV L n)))/\dN J τ/\sat [(0,aE p),(5,w),(8,v)] f) U ⟨.af,⟨.nil,(λ_ h=>by cases h),λ_=>rfl⟩,⟨bs _,λ_ _ h=>h⟩,rfl,rfl,rfl,trivial⟩ I I (λj g τ ax aW hi hm=>?_) (λg τ aW hi=>?_)
 ·obtain⟨w,hw,M,c5,dm,gM,_⟩:=aW;refine ak.norm [(0,aE p),(5,w),(8,v),(10,ah j),(9,ah l.length)] ⟨c5,dm,gM,hi,hm,trivial⟩ λg=>?_;have H:=H.aP M.2;have qp:=(au.aP (τ:=τ) λi o _=>M.2 i o).kR;obtain⟨iC,h6⟩:=hn _ (gC ax);have b2:=Cd iC h6;refine aj ?_;refine W.pu (c:=bN (L[l[j]-1]).f) (.R (bN (L[l[j]-1]).f)) hw.al I I I I I I I I I (by rw[uV,fe];omega) λbR a9 sy b9q _ c8 bb=>?_;refine aj ?_;refine⟨rfl,rfl,bR,⟨?_,λi hi=>?_,λe=>?_⟩,⟨?_,λi o ho=>bb i o (λe=>?_) (M.2 i o ho)⟩,rfl,rfl,rfl,trivial⟩
  ·rw[lO ax,hQ,uW,B2,b2];exact sy
  ·rw[b9q] at hi;cases hi;have:=M.1;omega
  ·have:=congrArg List.length e;rw[uV,fe,lg] at this;omega
  ·have:=M.1;omega
  ·have:=hw.cY i e;have:=ae.bt ho;omega
 ·obtain⟨w,hw,M,c5,dm,_⟩:=aW;refine ak.norm [(5,w)] ⟨dm,trivial⟩ λg=>?_;refine aj ?_;exact ak.ret ⟨rfl,w,rfl,⟨by rw[B0] at hw;exact hw.al,hw.cY,λe=>hw.hF (by rw[B0];exact e)⟩,M⟩
def zK(s:List Nat)(i:Nat)(x:bg):List Nat:=s.take (x.br-x.op)++List.replicate x.op (i+1)
def stF(L:List bg):Nat->List Nat
 |0=>[]
 |i+1=>match L[i]? with
  |some x=>zK (stF L i) i x
  |none=>[]
def Fh{L:List bg}{i:Nat}(h:i<L.length):stF L (i+1)=zK (stF L i) i L[i]:=by
 rw[stF,fw h]
def cS(L:List bg):List (List Nat):=(List.range L.length).map λi=>stF L (i+1)
def pn(L:List bg):Nat->Bool
 |0=>false
 |i+1=>pn L i|| !(stF L (i+1)).isEmpty
def b9r{L:List bg}:∀ {i:Nat},pn L i=false->stF L i=[]
 |0,_=>rfl
 |i+1,h=>by
  rw[pn,a0r] at h;cases ao:stF L (i+1) with
  |nil=>rfl
  |cons x l=>rw[ao] at h;simp at h
structure zL(L:List bg):Prop where
 lt:L.length<2^10
 num:∀x∈L,x.br<2^10/\x.op<=x.br
 go:∀i (h:i<L.length),(L[i]).br-(L[i]).op<=(stF L i).length
def zL.len{L:List bg}(h:zL L):∀i,i<L.length->(stF L (i+1)).length=(L[i]?.elim 0 bg.br):=λi hi=>by
 rw[Fh hi,fw hi];unfold zK;have:=h.go i hi;have:=(h.num _ (gC hi)).2;rw[dv,fe,qk];show _=(L[i]).br;omega
def W.cN{ck:l9}{env:Env}{aR:Option Nat}{D:List (Nat ⊕ (AV×List AV))}{n:Nat}{F:List (Nat×AV)}{z:Nat->AV}{J:ae}{Q:dZ}{d:Nat}{x hi:aJ}{g:Option (Nat×Bool)}{ops:List a4}{v:AV}{l:List Nat}{k:Nat}(h:fg J v l)(hn:∀o l c,v= .al o 0 l none c->c=none)(ay:k<=l.length)(hd:Nat.blt d n=true)(hw:wtL g n F=true)(h1:dn env n F z x=some v)(h2:dn env n F z hi=some (ah k))
  (ab:∀w,fg J w (l.take k)->w.at? =v.at? →(∀o l c,w= .al o 0 l none c->c=none)->cg ck env aR D n ops (bB ((d,w)::F) z) J Q):cg ck env aR D n (⟨some d,.nt none x none (some hi) none,g,[]⟩::ops) (bB F z) J Q:=by
 obtain⟨w,aL,a5,cy,iB⟩:=Sl.cut (ar:=dn env n F z) (hi:=hi) (k:=k) h hn (by rw[uV];exact ay) h2;refine W.val (v:=w) (ai:=J) hd hw ?_ (ab w (by rw[<-G9] at a5;exact a5) cy iB);show(match dn env n F z x with|some x=>(match sliceA (dn env n F z) none x none (some hi) none with|some v=>some (bZ.val v J)|none=>none)|none=>none)=_;rw[h1];show(match sliceA (dn env n F z) none v none (some hi) none with|some v=>some (bZ.val v J)|none=>none)=_;rw[aL]
def b9s(hh:bk (b.aM K) BX Y8){L:List bg}(cQ:zL L){J:ae}{cA:Nat}(gO:J.get cA=some (.cells [cG L]))(ks:Nat->Prop)(zJ:¬ks cA):
  Yields (b.aM K) BX [aE cA] L.length (λi V τ args=>∃v,args=[ah (i+1),v]/\fg τ v (stF L (i+1))/\(v.at? =none↔pn L (i+1)=false)/\∀o,v.at? =some o->¬V o) J ks:=by
 intro g_ nf rv cR hy oH Fi hlt iX;refine W.pe hh.e hh.p hh.f I I I λz=>?_;have H:Has rv [(cA,[cG L])]:=Has.nil.cons (Fi _ _ gO) aF;have hl:=cQ.lt;refine aj ?_;refine ak.each L.length (λj f τ=>∃v V,fg τ v (stF L j)/\(v.at? =none↔pn L j=false)/\(∀o l c,v= .al o 0 l none c->c=none)/\(∀o,v.at? =some o->rv.next<=o/\¬V o)/\nf j V τ/\rv.next<=τ.next/\(∀c,V c->c<τ.next)/\sat [(0,g_),(3,v),(6,cG L)] f) U ⟨.af,ks,.nil,⟨λ_=>rfl,λ_=>rfl⟩,(λ_ _ _ h=>by cases h),(λ_ h=>by cases h),iX,bs _,λc ab=>yR (hlt c ab) oH,rfl,rfl,rfl,trivial⟩ I I (λj g τ ax aW hi hm=>?_) (λg τ aW hi=>?_)
 ·obtain⟨v,V,au,tz,n7,ry,iX,iC,rp,c5,cp,gU,_⟩:=aW;refine ak.norm [(0,g_),(3,v),(6,cG L),(8,ah j),(7,ah L.length)] ⟨c5,cp,gU,hi,hm,trivial⟩ λg=>?_;have H:Has τ []:=Has.nil;have jx:=cQ.go j ax;have Ql:=cQ.num _ (gC ax);have ga:=Fh ax;refine aj ?_;generalize jV:L[j]=x at jx Ql ga;refine W.cC H I I I I λec cP H bx=>?_;have sl:=au.aP (τ:=ec) λi o _=>bx i o;have Qs:=cR _ _ _ ec iX (λc o _=>bx c o) U;refine aj ?_;refine W.st H 0 I I I I I I λa9 c8 H bb=>?_;have a7:∀o,v.at? =some o->o<τ.next:=λo ho=>au.lt ho;have sy:=sl.aP (τ:=a9) λi o hi=>bb i o (by have:=a7 i hi;omega);have Qt:=cR _ _ _ a9 Qs (λc o ab=>bb c o (by rcases ab with h|h;omega;have:=rp c h;omega)) U;refine aj ?_;refine W.cN sy n7 (k:=x.br-x.op) jx I I I I λw hw a0J b9t=>?_;refine aj ?_;refine ak.each x.op (λr f τ=>∃v,fg τ v ((stF L j).take (x.br-x.op)++List.replicate r (j+1))/\(v.at? =none↔pn L j=false/\r=0)/\(∀o l c,v= .al o 0 l none c->c=none)/\(∀o,v.at? =some o->rv.next<=o/\¬V o)/\nf j V τ/\rv.next<=τ.next/\(∀c,V c->c<τ.next)/\sat [(0,g_),(3,v),(4,ah j),(6,cG L),(7,ah L.length),(8,ah j)] f) U ⟨w,by simpa using hw,by rw[a0J,tz];simp,b9t,λo ho=>ry o (a0J▸ho),Qt,U,λc ab=>by have:=rp c ab;omega,rfl,rfl,rfl,rfl,rfl,rfl,trivial⟩ I I (λr g τ aq aW hi hm=>?_) (λg τ aW hi=>?_)
  ·obtain⟨v,au,tz,n7,ry,iX,iC,rp,c5,cp,cX,gU,hH,gM,_⟩:=aW;refine ak.norm [(0,g_),(3,v),(4,ah j),(6,cG L),(7,ah L.length),(8,ah j),(22,ah r),(21,ah x.op)] ⟨c5,cp,cX,gU,hH,gM,hi,hm,trivial⟩ λg=>?_;refine aj ?_;refine W.pu (ah (j+1)) au I I I I I I I I I (by rw[uV,dv,fe,qk];omega) λbR cm zI oE Qu e_ b1=>?_;refine aj ?_;refine⟨rfl,rfl,bR,?_,⟨λe=>(by rw[oE] at e;cases e),λe=>by simp at e⟩,Qu,λo ho=>?_,cR _ _ _ cm iX (λc o ab=>b1 c o λe=>?_) U,U,λc ab=>by have:=rp c ab;omega,rfl,rfl,rfl,rfl,rfl,rfl,trivial⟩
   ·rw[Xw,← iE];unfold fg;rw[hQ];exact zI
   ·rw[oE] at ho;cases ho;exact⟨U,λh=>by have:=rp _ h;omega⟩
   ·have:=ry c e;rcases ab with h|h
    ·omega
    ·exact this.2 h
  ·obtain⟨v,au,tz,n7,ry,iX,iC,rp,c5,cp,cX,gU,hH,gM,_⟩:=aW;refine ak.norm [(0,g_),(3,v),(4,ah j),(6,cG L),(7,ah L.length),(8,ah j)] ⟨c5,cp,cX,gU,hH,gM,trivial⟩ λg=>?_;have n5:fg τ v (stF L (j+1)):=by rw[ga];exact au
   have a0K:v.at? =none↔pn L (j+1)=false:=by
    rw[tz,pn,a0r,ga];refine and_congr_right λh=>?_;rw[zK,b9r h];cases x.op with
    |zero=>simp
    |succ m=>simp[DG]
   refine aj ?_;refine W.nd I I I (hy j V τ _ ax iC ⟨v,rfl,n5,a0K,λo ho=>(ry o ho).2⟩ iX) λr dg ⟨e,b9u,b9v,Kt⟩=>⟨_,e,?_⟩
   refine aj ?_;have iW:=Kt.next;refine⟨rfl,rfl,v,b9u,n5.aP λi o hi=>Kt.aP i o (ry i hi).2,a0K,n7,λo ho=>⟨(ry o ho).1,λh=>?_⟩,b9v,U,λc ab=>?_,rfl,rfl,rfl,trivial⟩
   ·rcases Kt.own o h with h|h
    ·exact(ry o ho).2 h
    ·have:=au.lt ho;omega
   ·rcases Kt.own c ab with h|h
    ·have:=rp c h;omega
    ·exact h.2
 ·exact⟨.inr I,rfl,by obtain⟨v,V,_,_,_,_,h,_⟩:=aW;exact⟨V,h⟩⟩
end
section
variable {b:bT}{K:Nat->List AV->AV->Prop}(hfn:∀g aQ r b5,K g aQ r->K g aQ b5->r=b5)
def qq(L:List bg)(k:Nat):Bool×Nat:=if 1<k then(match L[k-2]? with|some x=>(x.hyp,x.br)|none=>(true,0)) else(true,0)
def xI(k:Nat)(c:Nat×Nat):Bool:=decide (1<=c.1/\c.1<=c.2/\c.2<k)
def rz(x:bg)(p:Bool×Nat)(k:Nat):Bool:=
 decide (x.br<=40/\x.op<=x.br)&&(decide (x.br-x.op<=p.2)&&cond x.hyp (x.c2.isEmpty&&(x.cs.isEmpty&&(decide (0<x.op)||(p.1&&decide (p.2=x.br))))) (x.cs.all (xI k)&& !x.c2.isEmpty))
def nN(L:List bg)(k:Nat):Bool:=match L[k-1]? with|some x=>rz x (qq L k) k|none=>false
def a0L{V:AV}{x:bg}{p:Bool×Nat}(k:Nat)(h1:1<=k)(ay:k<2^20)(kT:idxSlA (some 9) V (k-1)=some (.dh true x.A))(mF:x.br<2^10/\x.op<2^10/\x.cs.length<2^20)(l4:p.2<2^10)(sn:k=1->p=(true,0))(b9w:1<k->∃y:bg,idxSlA (some 9) V (k-2)=some (.dh true y.A)/\p=(y.hyp,y.br))(body:bF)(hb:Y7.body=some body):ak (b.aM K) Y7.ntmps body (fv [V,ah k]) ⟨.nil,0⟩ (jU 4 (.b (rz x p k))):=by
 cases hb;refine W.jD λz H=>?_;refine aj ?_;refine W.eR I I I I kT ?_;refine aj ?_;refine W.jj (c:=x.A.cells) H I I I I I I I λτ cP H bx=>?_;unfold rz;by_cases lD:x.br<=40
 ·by_cases va:x.op<=x.br
  ·rw[decide_eq_true (show x.br<=40/\x.op<=x.br from⟨lD,va⟩),oq];refine aj ?_;refine W.jj (c:=[ah 0,ah 0,.b true,.i .u8 0,.s [],.af,.af,.s [],.af]) H I I I I I I I λa9 c8 H bb=>?_;refine W.nil ?_;refine W.sq ?_;refine W.Fc (α:=AV×List AV) (λ_=>[(0,V),(1,ah k),(5,.p (some (0,0))),(6,.p (some (τ.next,0)))]) (λc aB=>Has aB [(τ.next,ah p.2::c.1:: .b p.1::c.2),(0,x.A.cells)]) ?_ ?_
   ·by_cases gF:1<k
    ·obtain⟨y,hy,a5⟩:=b9w gF;refine aj ?_;refine W.bin I I I I (sA (b:=2) U U) ?_;refine W.eR I I I I hy ?_;refine aj ?_;refine W.st H 0 I I I I I I λbu er H k3=>?_;refine aj ?_;rw[a5];exact⟨rfl,(_,_),H,rfl,rfl,rfl,rfl,trivial⟩
    ·refine aj ?_;rw[sn U];exact⟨rfl,(_,_),H,rfl,rfl,rfl,rfl,trivial⟩
   ·intro c g bu H;refine aj ?_;obtain⟨B9,q6,Kn,a0z,B_,hp⟩:=x;obtain⟨a0M,a0N⟩:=p;simp only[] at lD va mF l4 ⊢;have sb:∀l:List Nat,binop .eql (.s l) (.s [])=some (.b l.isEmpty):=λl=>by cases l<;>rfl
    have g3:∀l:List Nat,binop .neq (.s l) (.s [])=some (.b (!l.isEmpty)):=λl=>by cases l<;>rfl
    by_cases Ku:B9-q6<=a0N
    ·rw[decide_eq_true Ku,oq];refine aj ?_;cases Kn with
     |true=>
      rw[cond_true];refine W.lL I ?_;refine ak.cut [(5,.p (some (0,0))),(7,.b (a0M&&decide (a0N=B9)))] ?_ λg=>?_
      ·cases a0M with
       |true=>
        refine aj ?_;refine W.X4 I I I I I ?_;refine aj ?_;exact⟨rfl,rfl,rfl,by rw[oq];rfl,trivial⟩
       |false=>
        refine aj ?_;exact dp
      ·refine aj ?_;refine W.bin I I I I (sb B_) ?_;cases B_ with
       |cons c t=>
        refine aj ?_;refine ak.ret ?_;exact⟨rfl,rfl⟩
       |nil=>
        refine aj ?_;cases hp with
        |cons c t=>
         refine aj ?_;refine ak.ret ?_;exact⟨rfl,rfl⟩
        |nil=>
         by_cases h0:0<q6
         ·rw[decide_eq_true h0];refine aj ?_;refine ak.ret ?_;exact⟨rfl,rfl⟩
         ·rw[decide_eq_false h0];refine aj ?_;refine ak.ret ?_;exact⟨rfl,rfl⟩
     |false=>
      rw[cond_false];refine W.lM I ?_;refine aj ?_;refine ak.each hp.length (λj f aB=>aB.next=aB.next/\(hp.take j).all (xI k)=true/\Has aB [(0,bg.A ⟨B9,q6,false,a0z,B_,hp⟩ |>.cells)]/\sat [(1,ah k),(5,.p (some (0,0))),(80,hI true hp)] f) U ⟨rfl,rfl,⟨λp aw=>H.get p (.tail _ aw),H.BF.tail⟩,rfl,rfl,rfl,trivial⟩ I I (λj g aB ax aW hi hm=>?_) (λg aB aW hi=>?_)
      ·obtain⟨_,hall,H,bU,dm,a0O,_⟩:=aW;refine ak.norm [(1,ah k),(5,.p (some (0,0))),(80,hI true hp),(82,ah j),(81,ah hp.length)] ⟨bU,dm,a0O,hi,hm,trivial⟩ λg=>?_;refine aj ?_;generalize Fe:hp[j]=ac;obtain⟨a,c⟩:=ac;refine W.jj H I I I I I I I λcm e_ H b1=>?_;have out:xI k (a,c)=false->(hp.all (xI k)&& !B_.isEmpty)=false:=λh=>by
        have:hp.all (xI k)=false:=List.all_eq_false.2 ⟨hp[j],gC ax,by rw[Fe,h];simp⟩;rw[this];rfl
       by_cases ha:1<=a
       ·by_cases eH:a<=c
        ·by_cases h5:c<k
         ·refine aj ?_;refine⟨rfl,rfl,rfl,?_,⟨λp aw=>H.get p (.tail _ aw),H.BF.tail⟩,rfl,rfl,rfl,trivial⟩;rw[lO ax,List.all_append,hall,Fe];simp[xI,ha,eH,h5]
         ·refine aj ?_;rw[out (decide_eq_false λh=>h5 h.2.2)];exact ak.ret ⟨rfl,rfl⟩
        ·refine aj ?_;rw[out (decide_eq_false λh=>eH h.2.1)];exact ak.ret ⟨rfl,rfl⟩
       ·refine aj ?_;rw[out (decide_eq_false λh=>ha h.1)];exact ak.ret ⟨rfl,rfl⟩
      ·obtain⟨_,hall,H,bU,dm,a0O,_⟩:=aW;refine ak.norm [(5,.p (some (0,0)))] ⟨dm,trivial⟩ λg=>?_;rw[B0] at hall;rw[hall,oq];refine aj ?_;refine W.bin I I I I (g3 B_) ?_;refine aj ?_;exact ak.ret ⟨rfl,rfl⟩
    ·rw[decide_eq_false Ku,uj];refine aj ?_;exact ak.ret ⟨rfl,rfl⟩
  ·rw[decide_eq_false (show ¬(x.br<=40/\x.op<=x.br) from λh=>va h.2),uj];refine aj ?_;exact ak.ret ⟨rfl,rfl⟩
 ·rw[decide_eq_false (show ¬(x.br<=40/\x.op<=x.br) from λh=>lD h.1),uj];refine aj ?_;exact ak.ret ⟨rfl,rfl⟩
def b9x(L:List bg)(hL:L.length<2^10)(hn:∀x∈L,x.br<2^10/\x.op<2^10/\x.cs.length<2^20)(k:Nat)(h1:1<=k)(h2:k<=L.length)(body:bF)(hb:Y7.body=some body):ak (b.aM K) Y7.ntmps body (fv [cG L,ah k]) ⟨.nil,0⟩ (jU 4 (.b (nN L k))):=by
 have hx:L[k-1]? =some L[k-1]:=fw U;unfold nN;rw[hx];refine a0L k h1 U (B4 U) (hn _ (gC U)) ?_ (λe=>if_neg U) (λh=>⟨L[k-2],B4 U,by rw[if_pos h,fw U]⟩) body hb;split
 ·rw[fw U];exact(hn _ (gC _)).1
 ·show 0<_;omega
end
end
def resV(J:ae)(f:Nat->AV)(r:Nat×Option (Option Nat)):Option AV:=
 match r.2 with
 |none=>some (f r.1)
 |some aa=>match f r.1 with
  | .p (some (id,off))=>match J.get id with
   |some (.cells c)=>dV aa (c.drop off)
   |_=>none
  |_=>none
def uu(J:ae)(f:Nat->AV)(rs:List (Nat×Option (Option Nat))):Option AV:=
 match mapO (resV J f) rs with
 |some [v]=>some v
 |some bo=>some (.a0 bo)
 |none=>none
def b9y{D:List (Nat ⊕ (AV×List AV))}{n:Nat}{f:Nat->AV}{ad:Fr}(J:ae)(h:iM D n f ad){r:Nat×Option (Option Nat)}(aq:Nat.blt r.1 n=true):resultOf J ad.bj r=resV J f r:=by
 have hg:=h.get r.1;have hn:r.1<n:=pL aq;rw[if_pos hn] at hg;obtain⟨d,o⟩:=r;unfold resultOf resV;simp only[] at hg ⊢;rw[hg];cases o with
 |none=>rfl
 |some aa=>
  cases f d with
  |p a=>cases a with
   |none=>rfl
   |some a=>rfl
  |_=>rfl
def a0P{D:List (Nat ⊕ (AV×List AV))}{n:Nat}{f:Nat->AV}{ad:Fr}(J:ae)(h:iM D n f ad){rs:List (Nat×Option (Option Nat))}(aq:cD (λr=>Nat.blt r.1 n) rs=true):resultsOf J ad.bj rs=uu J f rs:=by
 have:mapO (resultOf J ad.bj) rs=mapO (resV J f) rs:=Bn λx hx=>b9y J h (lJ aq x hx);show(match mapO (resultOf J ad.bj) rs with|some [v]=>some v|some bo=>some (.a0 bo)|none=>none)=match mapO (resV J f) rs with|some [v]=>some v|some bo=>some (.a0 bo)|none=>none
 rw[this]
def a0Q{env:Env}{fn:aN}{n:Nat}{f:Nat->AV}{ad:Fr}{J:ae}{v:AV}(h1:iM [] n f ad)(hd:cD (λr=>Nat.blt r.1 n) fn.results=true)(au:uu J f fn.results=some v):endF env 0 fn (.ret,ad,J)=some [(.ok v,J)]:=by
 show(match leave 0 (callD env 0) ad.defers none J with
  |none=>none
  |some (some v,J)=>some [(en.err v,J)]
  |some (none,J)=>match resultsOf J ad.bj fn.results with
   |some v=>some [(.ok v,J)]
   |none=>none)=_
 rw[h1.ds];show(match resultsOf J ad.bj fn.results with|some v=>some [(en.ok v,J)]|none=>none)=_;rw[a0P J h1 hd,au]
def a0R{env:Env}{fn:aN}{n d:Nat}{f:Nat->AV}{ad:Fr}{J:ae}{v:AV}(h1:iM [.inl d] n f ad)(hm:J.get d=some .eE)(hd:cD (λr=>Nat.blt r.1 n) fn.results=true)(au:uu (J.set d .dead) f fn.results=some v):endF env 0 fn (.ret,ad,J)=some [(.ok v,J.set d .dead)]:=by
 show(match leave 0 (callD env 0) ad.defers none J with
  |none=>none
  |some (some v,J)=>some [(en.err v,J)]
  |some (none,J)=>match resultsOf J ad.bj fn.results with
   |some v=>some [(.ok v,J)]
   |none=>none)=_
 have hl:leave 0 (callD env 0) ad.defers none J=some (none,J.set d .dead):=by
  rw[h1.ds];show(if Nat.blt d 0 then none else match J.get d with
   |some .eE=>some (none,J.set d .dead)
   |_=>none)=_
  rw[if_neg (by simp[Nat.blt,Nat.ble]),hm]
 rw[hl];show(match resultsOf (J.set d .dead) ad.bj fn.results with|some v=>some [(en.ok v,J.set d .dead)]|none=>none)=_;rw[a0P _ h1 hd,au]
def gI{J:ae}{f:Nat->AV}{d id off:Nat}{aa:Option Nat}{c:List AV}{v:AV}(h:f d= .p (some (id,off)))(hg:J.get id=some (.cells c))(ht:dV aa (c.drop off)=some v):resV J f (d,some aa)=some v:=by
 show(match f d with| .p (some (id,off))=>(match J.get id with|some (.cells c)=>dV aa (c.drop off)|_=>none)|_=>none)=_;rw[h];show(match J.get id with|some (.cells c)=>dV aa (c.drop off)|_=>none)=_;rw[hg];exact ht
def ku{J:ae}{f:Nat->AV}{d:Nat}{v:AV}(h:f d=v):resV J f (d,none)=some v:=by rw[<-h];rfl
def vU{J:ae}{f:Nat->AV}{x:Nat×Option (Option Nat)}{v:AV}(h:resV J f x=some v):uu J f [x]=some v:=by
 show(match mapO (resV J f) [x] with|some [v]=>some v|some bo=>some (.a0 bo)|none=>none)=_;rw[mapO_cons,h];rfl
def jF{J:ae}{f:Nat->AV}{x y:Nat×Option (Option Nat)}{v w:AV}(h:resV J f x=some v)(h2:resV J f y=some w):uu J f [x,y]=some (.a0 [v,w]):=by
 show(match mapO (resV J f) [x,y] with|some [v]=>some v|some bo=>some (.a0 bo)|none=>none)=_;rw[mapO_cons,mapO_cons,h,h2];rfl
def a0S{J:ae}{f:Nat->AV}{x y z:Nat×Option (Option Nat)}{v w u:AV}(h:resV J f x=some v)(h2:resV J f y=some w)(h3:resV J f z=some u):uu J f [x,y,z]=some (.a0 [v,w,u]):=by
 show(match mapO (resV J f) [x,y,z] with|some [v]=>some v|some bo=>some (.a0 bo)|none=>none)=_;rw[mapO_cons,mapO_cons,mapO_cons,h,h2,h3];rfl
section
variable {env:Env}{J:ae}{fn:Nat}{b3:aN}{body:bF}{first cap args:List AV}{ag:en->ae->Prop}
def W.nO(e:env.ext fn=0)(aw:env.pure fn=false)(hf:env.funcs fn=some b3)(hb:b3.body=some body)
  (hn:(Nat.beq (first++args++cap).length b3.j0&&Nat.ble (first++args++cap).length b3.ntmps)=true) (hd:cD (λr=>Nat.blt r.1 b3.ntmps) b3.results=true)
  (h:∀z,bL env none [] b3.ntmps body (bB (W.pg 0 (first++args++cap)) z) J (λx b_ ai=>x= .ret/\∃v,uu ai b_ b3.results=some v/\ag (.ok v) ai)):bE env 0 (.f (.func fn) first cap) args J ag:=by
 have hle:(first++args++cap).length<=b3.ntmps:=by
  simp only[C2] at hn;exact pL hn.2
 refine bE.run e aw hf hb hn ((W.args h _ (vy hle)).mono λx bd ai ⟨b_,h1,h2,v,h3,aO⟩=>?_);subst h2;exact⟨.ok v,ai,a0Q h1 hd h3,aO⟩
def W.b9z{d:Nat}(e:env.ext fn=0)(aw:env.pure fn=false)(hf:env.funcs fn=some b3)(hb:b3.body=some body)
  (hn:(Nat.beq (first++args++cap).length b3.j0&&Nat.ble (first++args++cap).length b3.ntmps)=true) (hd:cD (λr=>Nat.blt r.1 b3.ntmps) b3.results=true)
  (h:∀z,dQ env [] [.inl d] b3.ntmps body (bB (W.pg 0 (first++args++cap)) z) J (λx b_ ai=>x= .ret/\ai.get d=some .eE/\∃v,uu (ai.set d .dead) b_ b3.results=some v/\ag (.ok v) (ai.set d .dead))):bE env 0 (.f (.func fn) first cap) args J ag:=by
 have hle:(first++args++cap).length<=b3.ntmps:=by
  simp only[C2] at hn;exact pL hn.2
 have kL:bB (W.pg 0 (first++args++cap)) (fv (first++args++cap))=fv (first++args++cap):=Er (W.Ja _ 0 λj a e=>by show(first++args++cap).getD (0+j) ei=a;rw[NS,yT,e];rfl);refine bE.run e aw hf hb hn ((h (fv (first++args++cap)) _ (by rw[kL];exact vy hle)).mono λx bd ai ⟨b_,h1,h2,h3,v,aO,bI⟩=>?_);subst h2;exact⟨.ok v,_,a0R h1 h3 hd aO,bI⟩
end
def uv(rs:List (Nat×Option (Option Nat)))(r:AV):dZ:=λx f ai=>x= .ret/\∃v,uu ai f rs=some v/\freeze ai 0 1000 v=some r
def vV{P:Program}{b:bT}{K:Nat->List AV->AV->Prop}(hb:jR P b)(c0:tV P b K){g:Nat}{fn:aN}{body:bF}{aQ:List AV}(r:AV)(hf:b.funcs.get g=some fn)(iU:fn.body=some body)
  (hn:(Nat.beq aQ.length fn.j0&&Nat.ble aQ.length fn.ntmps)=true) (hd:cD (λr=>Nat.blt r.1 fn.ntmps) fn.results=true) {ad:Nat} (aq:fk ad r=true) (iT:AV.eqb 1000 r r=true)
  (h:ak (b.aM K) fn.ntmps body (fv aQ) ⟨.nil,0⟩ (uv fn.results r)) (bz:Nat):SpecEntry P (b.env []) bz g aQ r:=by
 have hle:aQ.length<=fn.ntmps:=by
  simp only[C2] at hn;exact pL hn.2
 refine IJ (env:=b.aM K) (m:=1000) (IF _ _) ⟨λg b3 hg=>m6.zh hb.funcs g b3 hg⟩ (λbz g aQ r ao=>c0 g aQ r (IL ao) bz) hb.ext hb.Bu hf iU hn aq ((h _ (vy hle)).mono λx ad ai ⟨f,h1,h2,v,h3,aO⟩=>?_) iT bz;subst h2;exact⟨.ok v,_,a0Q h1 hd h3,_,rfl,aO⟩
section
attribute [local irreducible] cg bL dC eu bE
section
variable {b:bT}{K:Nat->List AV->AV->Prop}(hfn:∀g aQ r b5,K g aQ r->K g aQ b5->r=b5)
include hfn
theorem a0T(xs:List AV)(hV:∀J,bM J (b.bp+1000) (.a_ true (some 9) xs)=some (.a_ true (some 9) xs))(hl:xs.length<2^20)(s:Nat->Bool)(e:b.ext uf=0/\b.pure uf=true)(r:Nat)(aq:r<=xs.length)(c0:∀k,1<=k->k<=xs.length->(r=0\/k<=r)->K uf [.a_ true (some 9) xs,ah k] (.b (s k)))
  (ao:∀k,1<=k->k<=xs.length->(r=0\/k<r)->s k=true) (oh:r≠0->s r=false) (body:bF) (hb:YS.body=some body):ak (b.aM K) YS.ntmps body (fv [.a_ true (some 9) xs]) ⟨.nil,0⟩ (jU 2 (ah r)):=by
 cases hb;refine W.jD λz H=>?_;have hlen:∀J:ae,lenA J 1 (.a_ true (some 9) xs)=some xs.length:=λ_=>rfl;refine aj ?_;refine ak.block ?_;refine ak.loop (λm f τ=>∃k,k+m=xs.length+1/\1<=k/\(r=0\/k<=r)/\sat [(0,.a_ true (some 9) xs),(3,ah k)] f) ?_ xs.length ⟨1,U,U,U,rfl,rfl,trivial⟩;rintro m f τ ⟨k,NW,gF,a0U,a0V⟩;refine ak.norm _ a0V λz=>?_;clear a0V;have H:Has τ []:=Has.nil;by_cases hn:k<=xs.length
 ·obtain⟨m,rfl⟩:∃k,m=k+1:=⟨m-1,U⟩
  refine aj ?_;refine W.e3 hfn e (c0 k gF hn a0U) I I I (nF (hV _) I) ?_;by_cases aV:k=r
  ·subst aV;rw[oh U];refine aj ?_;refine ak.ret ?_;exact⟨rfl,rfl⟩
  ·rw[ao k gF hn U];refine aj ?_;exact⟨m,U,k+1,U,U,U,rfl,rfl,trivial⟩
 ·obtain rfl:m=0:=by omega
  refine aj ?_;refine ak.exit ?_;show bL _ _ _ _ _ _ _ _;refine ak.norm [] trivial λg=>?_;refine aj ?_;refine ak.ret ?_;obtain rfl:r=0:=by omega
  exact⟨rfl,rfl⟩
end
def Sl.Fj{J τ:ae}{aa:Option Nat}{v:AV}{xs:List AV}(h:Sl J aa v xs)(k:∀i c,v.at? =some i->J.get i=some (.cells c)->τ.get i=some (.cells c)):Sl τ aa v xs:=by
 cases h with
 |nil=>exact .nil
 |al o cap xs rest h ab ay=>exact .al o cap xs rest (k _ _ I h) ab ay
def ndsL(L:List bg):Nat->List (List Nat)
 |0=>[]
 |j+1=>ndsL L j++[needL L (cS L) (ndsL L j) (j+1)]
def Kv(L:List bg):∀j,(ndsL L j).length=j
 |0=>rfl
 |j+1=>by rw[ndsL,dv,Kv L j];rfl
def b9A{L:List bg}{B N:List (List Nat)}{k n:Nat}(h:n∈needL L B N k):n<=k:=by
 unfold needL at h;split at h
 ·rename_i x _;cases hx:x.hyp with
  |true=>rw[hx,cond_true] at h;simp at h;omega
  |false=>rw[hx,cond_false] at h;have:=P8.1 (NN.1 h).1;omega
 ·simp at h
def b9B{L:List bg}{B N:List (List Nat)}{k:Nat}:(needL L B N k).length<=k+1:=by
 unfold needL;split
 ·rename_i x _;cases hx:x.hyp with
  |true=>rw[cond_true];simp
  |false=>rw[cond_false];have:=E6 (oF L B N k x.cs) (List.range k);rw[b7] at this;omega
 ·simp
def zM{L:List bg}:∀ {j:Nat} {l:List Nat},l∈ndsL L j->l.length<=j+1/\∀n∈l,n<=j
 |0,l,h=>by simp[ndsL] at h
 |j+1,l,h=>by
  rw[ndsL] at h;rcases tl.1 h with h|h
  ·obtain⟨a,b⟩:=zM h;exact⟨U,λn hn=>by have:=b n hn;omega⟩
  ·rw[uT.1 h];exact⟨b9B,λn hn=>b9A hn⟩
def a0W{ar:aJ->Option AV}{o:aJ}{w z:AV}(h:ar o=some w)(ab:w.cells=[w])(au:w.val=true):iy ar (λi b0=>i*b0) (List.map (λp=>(p.1,shN none,p.2)) [(0,o)]) (f_ 1 [z])=some [w]:=by
 show(match ar o with|none=>none|some v=>cond (Nat.beq v.cells.length 1&&v.val) (match storeCells [z] (0*1) v.cells with|none=>none|some c=>some c) none)=_;rw[h];show cond (Nat.beq w.cells.length 1&&w.val) (match storeCells [z] (0*1) w.cells with|none=>none|some c=>some c) none=_;rw[ab,au];rfl
structure kc(τ:ae)(p:Nat)(cE:AV)(bK:List AV)(B:List (List Nat)):Prop where
 al:Sl τ none cE bK
 len:bK.length=B.length
 el:∀i (h:i<bK.length) (h':i<B.length),fg τ bK[i] B[i]
 p3:∀o,cE.at? =some o->p<o
 sb:∀x∈bK,∀o,x.at? =some o->p<o/\cE.at? ≠some o
def kc.nil{τ:ae}{p:Nat}:kc τ p .af [] []:=⟨.nil,rfl,(λi h=>by simp at h),(λo h=>by cases h),(λx h=>by simp at h)⟩
def vW(cE:AV)(bK:List AV)(c:Nat):Prop:=cE.at? =some c\/∃x∈bK,x.at? =some c
def kc.Qv{τ aB:ae}{p:Nat}{cE:AV}{bK:List AV}{B:List (List Nat)}(h:kc τ p cE bK B)(k:∀i c,vW cE bK i->τ.get i=some (.cells c)->aB.get i=some (.cells c)):kc aB p cE bK B:=
 ⟨h.al.Fj λi c hi=>k i c (.inl hi),h.len,λi a b=>(h.el i a b).Fj λj c ax=>k j c (.inr ⟨_,gC a,ax⟩),h.p3,h.sb⟩
def kc.aP{τ aB:ae}{p:Nat}{cE:AV}{bK:List AV}{B:List (List Nat)}(h:kc τ p cE bK B)(k:∀i c,p<i->τ.get i=some (.cells c)->aB.get i=some (.cells c)):kc aB p cE bK B:=h.Qv λi c hi=>k i c (by
 rcases hi with hi|⟨x,hx,hi⟩
 ·exact h.p3 i hi
 ·exact(h.sb x hx i hi).1)
def kc.lt{τ:ae}{p:Nat}{cE:AV}{bK:List AV}{B:List (List Nat)}(h:kc τ p cE bK B){c:Nat}(ab:vW cE bK c):c<τ.next:=by
 rcases ab with hi|⟨x,hx,hi⟩
 ·exact h.al.lt hi
 ·obtain⟨i,hlt,rfl⟩:=tj hx;exact(h.el i hlt (by rw[<-h.len];exact hlt)).lt hi
def kc.push{τ aB:ae}{p:Nat}{cE bR w:AV}{bK:List AV}{B:List (List Nat)}{l:List Nat}(h:kc τ p cE bK B)(hw:fg τ w l)(xJ:∀o,w.at? =some o->p<o/\cE.at? ≠some o)(aw:p<τ.next)(au:Sl aB none bR (bK++[w]))(ha:bR.at? =some (τ.next+1))(k:∀i o,cE.at? ≠some i->τ.get i=some o->aB.get i=some o):kc aB p bR (bK++[w]) (B++[l]):=by
 refine⟨au,by rw[dv,dv,h.len];rfl,λi a b=>?_,(λo ho=>by rw[ha] at ho;cases ho;omega),λx hx o ho=>?_⟩
 ·by_cases hi:i<bK.length
  ·rw[cM hi,cM (by rw[<-h.len];exact hi)];exact(h.el i hi (by rw[<-h.len];exact hi)).Fj λj c ax=>k j _ ((h.sb _ (gC hi) j ax).2)
  ·have e:i=bK.length:=by rw[dv] at a;simp only[CZ,lg] at a;omega
   subst e;have a5:(B++[l])[bK.length]'b=l:=by simp[h.len]
   have cy:(bK++[w])[bK.length]'a=w:=by simp
   rw[a5,cy];exact hw.Fj λj c ax=>k j _ ((xJ j ax).2)
 ·rw[ha];rcases tl.1 hx with hx|hx
  ·exact⟨(h.sb x hx o ho).1,(λe=>by cases e;have:=h.lt (.inr ⟨x,hx,ho⟩);omega)⟩
  ·rw[uT.1 hx] at ho;exact⟨(xJ o ho).1,(λe=>by cases e;have:=hw.lt ho;omega)⟩
def Ce(L:List bg)(bK:List AV):Prop:=∀i (h:i<bK.length),(bK[i]).at? =none↔pn L (i+1)=false
def Cf(eZ:List AV)(N:List (List Nat)):Prop:=∀i (h:i<eZ.length) (h':i<N.length),N[i]=[]->eZ[i]= .af
def Ce.push{L:List bg}{bK:List AV}{w:AV}(h:Ce L bK)(hw:w.at? =none↔pn L (bK.length+1)=false):Ce L (bK++[w]):=λi hi=>by
 by_cases hl:i<bK.length
 ·rw[cM hl];exact h i hl
 ·have e:i=bK.length:=by rw[dv] at hi;simp only[CZ,lg] at hi;omega
  subst e;rw[show(bK++[w])[bK.length]'hi=w from by simp];exact hw
def Cf.push{eZ:List AV}{N:List (List Nat)}{w:AV}{l:List Nat}(h:Cf eZ N)(hl:eZ.length=N.length)(hw:l=[]->w= .af):Cf (eZ++[w]) (N++[l]):=λi hi dq=>by
 by_cases hlt:i<eZ.length
 ·rw[cM hlt,cM (by rw[<-hl];exact hlt)];exact h i hlt _
 ·have e:i=eZ.length:=by rw[dv] at hi;simp only[CZ,lg] at hi;omega
  subst e;rw[show(eZ++[w])[eZ.length]'hi=w from by simp,show(N++[l])[eZ.length]'dq=l from by simp[hl]];exact hw
structure Op(τ:ae)(p:Nat)(L:List bg):Prop where
 ex:∃q cE eO bK eZ,τ.get p=some (.cells [cG L,cE,eO])/\kc τ q cE bK (cS L)/\kc τ q eO eZ (ndsL L L.length)/\Ce L bK/\Cf eZ (ndsL L L.length)
def Op.xK{τ:ae}{p:Nat}{L:List bg}(h:Op τ p L):kS τ p L (cS L) (ndsL L L.length):=by
 obtain⟨q,cE,eO,bK,eZ,aw,ca,ek,_⟩:=h.ex;exact⟨cE,eO,bK,eZ,aw,ca.al,ca.len,ca.el,ek.al,ek.len,ek.el⟩
def Op.aP{τ aB:ae}{p:Nat}{L:List bg}(h:Op τ p L)(k:∀i c,τ.get i=some (.cells c)->aB.get i=some (.cells c)):Op aB p L:=by
 obtain⟨q,cE,eO,bK,eZ,aw,ca,ek,h1,h2⟩:=h.ex;exact⟨q,cE,eO,bK,eZ,k _ _ aw,ca.aP λi c _=>k i c,ek.aP λi c _=>k i c,h1,h2⟩
section
variable {b:bT}{K:Nat->List AV->AV->Prop}
def b9C(hh:bk (b.aM K) EY YT){L:List bg}{J:ae}:
  bE (b.aM K) 0 (.f (.func EY) [] []) [cG L] J (λr τ=>r= .ok (.f (.func BX) [] [aE J.next])/\τ.get J.next=some (.cells [cG L])/\τ.next=J.next+1/\dN J τ):=by
 refine W.xF hh I I I I λz H=>?_;refine aj ?_;generalize aV:J.next=q;refine W.cA H aV I I I I I λτ hn H bx=>?_;refine aj ?_;exact ak.ret ⟨rfl,rfl,H.get _ (.head _),hn,U,bx⟩
end
section
variable {b:bT}{K:Nat->List AV->AV->Prop}(hfn:∀g aQ r b5,K g aQ r->K g aQ b5->r=b5)
include hfn
theorem Qw(hf:lQ b K)(hh:bk (b.aM K) ue YJ)(ha:bk (b.aM K) EY YT)(a0X:bk (b.aM K) BX Y8){L:List bg}(cQ:zL L)(a7:0<L.length)(c9w:L.length<=500)(b9D:∀J,bM J (b.bp+1000) (cG L)=some (cG L))(em:b.ext oB=0/\b.pure oB=true)(hm:K oB [cG L] (ah 0))(c6:oD L (cS L))(ab:∀k x,L[k-1]? =some x->1<=k->oG k x.cs){J:ae}:
  bE (b.aM K) 0 (.f (.func ue) [] []) [cG L] J (λr τ=>∃p,r= .ok (.a0 [aE p,ah 0])/\Op τ p L/\J.next<=p/\dN J τ):=by
 refine W.b9z (d:=J.next+3) hh.e hh.p hh.f I I I λz=>?_;have H:Has J []:=Has.nil;refine dQ.l6 ?_;refine aj ?_;refine⟨rfl,?_⟩;refine dQ.l6 ?_;refine aj ?_;refine⟨rfl,?_⟩;refine dQ.l6 ?_;refine aj ?_;refine W.e3 hfn em hm I I I (k_ (b9D _)) ?_;refine W.bin (v:=.b false) I I I I I ?_;refine aj ?_;refine⟨rfl,?_⟩;refine dQ.l6 ?_;refine aj ?_;refine W.cA (c:=[cG L,.af,.af]) H I I I I I I λτ cP H bx=>?_;refine aj ?_;refine W.jj H cP I I I I I I λa9 c8 H bb=>?_;refine aj ?_;refine⟨rfl,?_⟩;refine dQ.Bz ?_;refine dQ.l6 ?_;refine aj ?_;refine W.an trivial I I I (b9C ha) λr bu ⟨e,cp,er,ee⟩=>⟨_,e,?_⟩
 refine aj ?_;refine⟨rfl,?_⟩;refine dQ.block ?_;have b9E:bu.next=J.next+3:=by omega
 have a5:a9.next=J.next+2:=by omega
 rw[a5] at cp ⊢;clear a5 er e;have xL:=H.aP ee.2;have H:Has bu [(J.next+1,[aE J.next]),(J.next,[cG L,.af,.af])]:=xL;have cc:dN J bu:=⟨U,λi o h=>ee.2 i o (bb i o (bx i o h))⟩
 clear xL ee bb bx c8 cP;generalize aV:J.next=q at *;have hlen:=c6.len;have vg:∀i,i<L.length->(cS L).getD i []=stF L (i+1):=λi hi=>by
  unfold cS;rw[yT,fG,VP hi];rfl
 refine dQ.iter (k:=q+3) L.length (λi W τ=>∃cE bK,kc τ (q+4) cE bK ((List.range i).map λi=>stF L (i+1))/\τ.get q=some (.cells [cG L,cE,.af])/\Ce L bK/\∀c,W c↔c=q\/vW cE bK c) (λi V τ args=>∃v,args=[ah (i+1),v]/\fg τ v (stF L (i+1))/\(v.at? =none↔pn L (i+1)=false)/\∀o,v.at? =some o->¬V o) (λc=>c=q) b9E I a0X.e I (λi W τ args ⟨v,e,_⟩=>by rw[e];rfl) ?_ ?_ (λc ab=>by rw[ab];omega) (b9s a0X cQ cp _ (by show ¬(q+2=q);omega)) ?_ ?_
 ·rintro i V τ aB ⟨cE,bK,h1,h2,h3,aO⟩ dr hn;exact⟨cE,bK,h1.Qv λi c hi=>dr i _ ((aO i).2 (.inr hi)),dr _ _ ((aO _).2 (.inl I)) h2,h3,aO⟩
 ·exact⟨.af,[],.nil,H.get _ (.tail _ (.head _)),(λi h=>by simp at h),λc=>by simp[vW,AV.at?]⟩
 ·rintro i V τ args hi ⟨v,rfl,au,qp,ry⟩ aW tE b9F A5 dr;refine ak.norm [(25,v),(4,aE (q+1))] dp λg=>?_;have b9G:Has τ []:=Has.nil;have gO:=dr _ _ (show ¬q+1=q by omega) (H.get _ (.head _));clear H b9G;have H:Has τ []:=Has.nil;refine aj ?_;refine⟨rfl,⟨bs _,λ_ _ h=>h⟩,λa9 h6 bb aW=>?_⟩;obtain⟨cE,bK,uw,aw,Fk,hW⟩:=aW;have gO:=bb _ _ U gO;have au:=au.Fj (τ:=a9) λi c hi hg=>bb i _ (λe=>tE c (e▸hg)) hg;have H:Has a9 [(q,[cG L,cE,.af]),(q+1,[aE q])]:=(Has.nil.cons gO aF).cons aw aF;refine ak.norm [(6,v),(4,aE (q+1))] dp λg=>?_;have hc:bK.length=i:=by rw[uw.len];simp
  have b9H:(stF L (i+1)).length<2^20:=by
   rw[cQ.len i hi,fw hi];have:=(cQ.num _ (gC hi)).1;show(L[i]).br<_;omega
  refine aj ?_;refine W.l8 H I I I (.head _) I (ev uw.al.lf) ?_;refine aj ?_;refine W.an (hf.q.one I) I I I (b9p hf au b9H) λr cm ⟨w,e,hw,fp⟩=>⟨_,e,?_⟩
  have H:=H.aP fp.2;refine aj ?_;have aO:=uw.al.aP (τ:=cm) λi o _=>fp.2 i o;refine W.bK (c:=[w]) H I I I (a0W I hw.al.mM hw.al.Qc) λaB qe H dF=>?_;have iD:=H.get _ (.head _);have Qx:aB.get q=some (.cells [cG L,cE,.af]):=H.get _ (.tail _ (.head _));have Fl:aB.get (q+1)=some (.cells [aE q]):=H.get _ (.tail _ (.tail _ (.head _)));refine W.now [(8,q,[cG L,cE,.af]),(8,q+1,[aE q]),(8,q+1,[aE q])] [(11,q+1,[aE q])] I I ⟨Qx,Fl,Fl,trivial⟩ ?_;refine W.ap (w:=.al cm.next 0 1 none (some 1)) w [] (aO.aP λi o _=>dF i o) (by show readList aB (.al cm.next 0 1 none (some 1))=_;show(match aB.get cm.next with|some (.cells c)=>elems none 1 (c.drop 0)|_=>none)=_;rw[iD];rfl) (λz a6=>by rw[uT.1 a6];exact hw.al.lP) (by show(3*(bK.length+1)+2000)*24<=_;rw[hc];omega) I I I I λbR dg zN Qy Qz b9I QA=>?_;have ux:bR.at? =some (cm.next+1):=by rw[Qy,qe]
  have iW:dg.next=cm.next+2:=by omega
  have c9:∀i o,cE.at? ≠some i->cm.get i=some o->dg.get i=some o:=λi o hi ho=>QA i o hi (dF i o ho);replace H:Has cm [(q,[cG L,cE,.af]),(q+1,[aE q])]:=(Has.nil.cons (fp.2 _ _ gO) aF).cons (fp.2 _ _ aw) aF;have H:Has dg [(q,[cG L,cE,.af]),(q+1,[aE q])]:=(Has.nil.cons (c9 _ _ (λe=>by have:=uw.p3 _ e;omega) (H.get _ (.tail _ (.head _)))) aF).cons (c9 _ _ (λe=>by have:=uw.p3 _ e;omega) (H.get _ (.head _))) aF;refine aj ?_;refine W.st (bD:=[cG L,bR,.af]) H 0 I I I I zN.lP (by rw[zN.mM];rfl) λeA jf H et=>?_;refine aj ?_;have b9J:kc cm (q+4) cE bK ((List.range i).map λi=>stF L (i+1)):=uw.aP λi c _=>fp.2 i _;have b9K:=b9J.push hw.al (λo ho=>⟨by have:=hw.cY o ho;omega,λe=>by have:=hw.cY o ho;have:=uw.lt (.inl e);omega⟩) (by have:=fp.1;omega) zN ux c9;refine⟨rfl,λc=>c=q\/vW bR (bK++[w]) c,⟨bR,bK++[w],?_,H.get _ (.head _),Fk.push (by rw[hw.hF,hc];exact qp),λc=>Iff.rfl⟩,?_⟩
  ·rw[xD,hQ];exact b9K.aP λi c hi=>et i _ U
  ·refine⟨by have:=fp.1;omega,λc o ab ho=>et _ _ (λe=>ab ((hW c).2 (.inl e))) (c9 _ _ (λe=>ab ((hW c).2 (.inr (.inl e)))) (fp.2 _ _ ho)),λc ab=>?_⟩;rcases ab with rfl|ab|⟨x,hx,ab⟩
   ·exact .inl ((hW _).2 (.inl I))
   ·right;rw[ux] at ab;cases ab;have:=fp.1;omega
   ·rcases tl.1 hx with hx|hx
    ·exact .inl ((hW _).2 (.inr (.inr ⟨x,hx,ab⟩)))
    ·right;rw[uT.1 hx] at ab;have:=hw.cY c ab;have:=hw.al.lt ab;omega
 ·intro W' τ ⟨cE,bK,uw,aw,Fk,hW⟩ md mF dr nJ;have ca:((List.range L.length).map λi=>stF L (i+1))=cS L:=rfl;rw[ca] at uw;refine⟨rfl,rfl,?_⟩;refine ak.norm [(0,cG L),(4,aE (q+1)),(3,ah 0)] dp λg=>?_;have gO:=dr _ _ (show ¬q+1=q by omega) (H.get _ (.head _));have b9L:dN J τ:=⟨by have:=cc.1;omega,λi o ho=>dr i o (by have:=ae.bt ho;omega) (cc.2 i o ho)⟩
  clear H dr nJ hW;have H:Has τ [(q,[cG L,cE,.af]),(q+1,[aE q])]:=(Has.nil.cons gO aF).cons aw aF;refine aj ?_;show bL _ _ _ _ _ _ _ _;refine W.Fc (α:=AV×List AV) (λ_=>[(0,cG L),(4,aE (q+1)),(3,ah 0)]) (λx τ=>kc τ (q+4) cE bK (cS L)/\kc τ (q+4) x.1 x.2 (ndsL L L.length)/\(∀c,vW cE bK c->¬vW x.1 x.2 c)/\Cf x.2 (ndsL L L.length)/\τ.get q=some (.cells [cG L,cE,x.1])/\τ.get (q+1)=some (.cells [aE q])/\τ.get (q+3)=some .eE/\dN J τ) ?_ ?_
  ·refine ak.each L.length (λj f τ=>∃eO eZ,kc τ (q+4) cE bK (cS L)/\kc τ (q+4) eO eZ (ndsL L j)/\(∀c,vW cE bK c->¬vW eO eZ c)/\Cf eZ (ndsL L j)/\τ.get q=some (.cells [cG L,cE,eO])/\τ.get (q+1)=some (.cells [aE q])/\τ.get (q+3)=some .eE/\q+5<=τ.next/\dN J τ/\sat [(0,cG L),(4,aE (q+1)),(3,ah 0)] f) U ⟨.af,[],uw,.nil,?_,(λi h=>by simp at h),aw,gO,md,mF,b9L,rfl,rfl,rfl,trivial⟩ I I (λj g τ ax aW hi hm=>?_) (λg τ aW hi=>?_)
   ·intro c _ h;rcases h with h|⟨x,hx,h⟩
    ·cases h
    ·simp at hx
   ·obtain⟨eO,eZ,ca,ek,hd,Cg,aw,gO,md,mF,cc,c5,cX,cp,_⟩:=aW;refine ak.norm [(0,cG L),(4,aE (q+1)),(3,ah 0),(39,ah j),(38,ah L.length)] ⟨c5,cX,cp,hi,hm,trivial⟩ λg=>?_;have H:Has τ [(q,[cG L,cE,eO]),(q+1,[aE q])]:=(Has.nil.cons gO aF).cons aw aF;have tE:=Kv L j;have ed:kS τ q L (cS L) (ndsL L j):=⟨cE,eO,bK,eZ,aw,ca.al,ca.len,ca.el,ek.al,ek.len,ek.el⟩
    refine aj ?_;refine W.l8 H I I I (.head _) I (ev ek.al.lf) ?_;refine aj ?_;refine W.an (hf.q.one I) I I I (b9f hf ed c6 (λx hx=>by have:=cQ.num x hx;omega) (λl hl=>by have:=(zM hl).1;omega) (j+1) U U U (λl hl n hn=>by have:=(zM (uU hl)).2 n hn;omega) (λx hx=>ab (j+1) x hx U)) λr cm ⟨w,e,hw,fp⟩=>⟨_,e,?_⟩
    have H:=H.aP fp.2;refine aj ?_;have aO:=ek.al.aP (τ:=cm) λi o _=>fp.2 i o;refine W.bK (c:=[w]) H I I I (a0W I hw.al.mM hw.al.Qc) λaB qe H dF=>?_;have iD:=H.get _ (.head _);have Qx:aB.get q=some (.cells [cG L,cE,eO]):=H.get _ (.tail _ (.head _));have Fl:aB.get (q+1)=some (.cells [aE q]):=H.get _ (.tail _ (.tail _ (.head _)));refine W.now [(10,q,[cG L,cE,eO]),(10,q+1,[aE q]),(10,q+1,[aE q])] [(13,q+1,[aE q])] I I ⟨Qx,Fl,Fl,trivial⟩ ?_;have hc:eZ.length=j:=by rw[ek.len,tE]
    refine W.ap (w:=.al cm.next 0 1 none (some 1)) w [] (aO.aP λi o _=>dF i o) (by show readList aB (.al cm.next 0 1 none (some 1))=_;show(match aB.get cm.next with|some (.cells c)=>elems none 1 (c.drop 0)|_=>none)=_;rw[iD];rfl) (λz a6=>by rw[uT.1 a6];exact hw.al.lP) (by show(3*(eZ.length+1)+2000)*24<=_;rw[hc];omega) I I I I λbR dg zN Qy Qz b9I QA=>?_;have ux:bR.at? =some (cm.next+1):=by rw[Qy,qe]
    have iW:dg.next=cm.next+2:=by omega
    have c9:∀i o,eO.at? ≠some i->cm.get i=some o->dg.get i=some o:=λi o hi ho=>QA i o hi (dF i o ho);have QB:=fp.1;replace H:Has dg [(q,[cG L,cE,eO]),(q+1,[aE q])]:=(Has.nil.cons (c9 _ _ (λe=>by have:=ek.p3 _ e;omega) (fp.2 _ _ gO)) aF).cons (c9 _ _ (λe=>by have:=ek.p3 _ e;omega) (fp.2 _ _ aw)) aF;refine aj ?_;refine W.st (bD:=[cG L,cE,bR]) H 0 I I I I zN.lP (by rw[zN.mM];rfl) λeA jf H et=>?_;refine aj ?_;have b9M:kc cm (q+4) eO eZ (ndsL L j):=ek.aP λi c _=>fp.2 i _;have b9N:=b9M.push hw.al (λo ho=>⟨by have:=hw.cY o ho;omega,λe=>by have:=hw.cY o ho;have:=ek.lt (.inl e);omega⟩) U zN ux c9;refine⟨rfl,rfl,bR,eZ++[w],(ca.Qv λi c hi hg=>et i _ ?_ (c9 i _ (λe=>hd i hi (.inl e)) (fp.2 i _ hg))),b9N.aP λi c hi=>et i _ U,?_,Cg.push ek.len hw.hF,H.get _ (.head _),H.get _ (.tail _ (.head _)),et _ _ U (c9 _ _ (λe=>by have:=ek.p3 _ e;omega) (fp.2 _ _ md)),U,⟨by have:=cc.1;omega,λi o ho=>et _ _ (by have:=ae.bt ho;omega) (c9 _ _ (λe=>by have:=ek.p3 _ e;have:=ae.bt ho;omega) (fp.2 _ _ (cc.2 _ _ ho)))⟩,rfl,rfl,rfl,trivial⟩
    ·intro e;subst e;rcases hi with hi|⟨x,hx,hi⟩
     ·have:=ca.p3 _ hi;omega
     ·have:=(ca.sb x hx _ hi).1;omega
    ·intro c a0Y b9O;have hlt:=ca.lt a0Y;rcases b9O with h|⟨x,hx,h⟩
     ·rw[ux] at h;cases h;omega
     ·rcases tl.1 hx with hx|hx
      ·exact hd c a0Y (.inr ⟨x,hx,h⟩)
      ·rw[uT.1 hx] at h;have:=hw.cY c h;omega
   ·obtain⟨eO,eZ,ca,ek,hd,Cg,aw,gO,md,mF,cc,c5,cX,cp,_⟩:=aW;exact⟨rfl,(eO,eZ),⟨ca,ek,hd,Cg,aw,gO,md,cc⟩,c5,cX,cp,trivial⟩
  ·intro x g aB ⟨ca,ek,hd,Cg,aw,gO,md,cc⟩;have H:Has aB [(q,[cG L,cE,x.1]),(q+1,[aE q])]:=(Has.nil.cons gO aF).cons aw aF;refine aj ?_;refine ak.ret ⟨rfl,md,_,rfl,q,rfl,?_,?_,?_⟩
   ·have ed:Op aB q L:=⟨q+4,cE,x.1,bK,x.2,aw,ca,ek,Fk,Cg⟩
    exact ed.aP λi c hg=>(jS md).2 i _ (λe=>by subst e;rw[md] at hg;cases hg) hg
   ·omega
   ·exact⟨cc.1,λi o ho=>(jS md).2 i _ (λe=>by have:=ae.bt ho;omega) (cc.2 i o ho)⟩
end
def zO{α β:Type}{f:α->Option β}{g:α->β}:∀ {l:List α},(∀x∈l,f x=some (g x))->mapO f l=some (l.map g)
 |[],_=>rfl
 |x::l,h=>by
  rw[mapO_cons,h x aF,zO λy hy=>h y (C1 _ hy)];rfl
def zP{α β:Type}{f:α->Option β}:∀ {l:List α} {r:List β},l.length=r.length->(∀i (h:i<l.length) (h':i<r.length),f l[i]=some r[i])->mapO f l=some r
 |[],[],_,_=>rfl
 |[],_::_,h,_=>by simp at h
 |_::_,[],h,_=>by simp at h
 |x::l,y::r,h,hi=>by
  rw[mapO_cons,show f x=some y from hi 0 aF aF,zP (l:=l) (r:=r) (by simpa using h) λi a b=>hi (i+1) (by simpa using a) (by simpa using b)]
def Ch(v:AV)(aa:Option Nat)(bf:List AV):AV:=match v.at? with|none=>.af|some _=>.a_ false aa bf
def Sl.freeze{J:ae}{aa:Option Nat}{v:AV}{xs bf:List AV}{n:Nat}(h:Sl J aa v xs)(hm:mapO (Go.Lyc.freeze J 0 n) xs=some bf):Go.Lyc.freeze J 0 (n+1) v=some (Ch v aa bf):=by
 have aq:=h.read;cases h with
 |nil=>rfl
 |al o cap xs rest h ab ay=>
  rw[freeze_succ];simp only[aq,hm];rfl
def b9P(N:List (List Nat)):AV:=slA false none (N.map λl=>slA false none (l.map ah))
section
variable {b:bT}{K:Nat->List AV->AV->Prop}(hfn:∀g aQ r b5,K g aQ r->K g aQ b5->r=b5)
structure zQ(b:bT)(K:Nat->List AV->AV->Prop)(L:List bg):Prop where
 kU:zL L
 ne:0<L.length
 le:L.length<=500
 g3:∀J,bM J (b.bp+1000) (cG L)=some (cG L)
 zR:K oB [cG L] (ah 0)
 kv:oD L (cS L)
 uy:∀k x,L[k-1]? =some x->1<=k->oG k x.cs
structure Kw(b:bT)(K:Nat->List AV->AV->Prop):Prop where
 op:bk (b.aM K) ue YJ
 aQ:bk (b.aM K) EY YT
 QC:bk (b.aM K) BX Y8
 gx:b.ext oB=0/\b.pure oB=true
include hfn
end
structure ef where
 fH:Fm
 hyps:List Fm
 rest:List Fm
abbrev sM(F:Fm):AV:=.R (.b true::bN F)
abbrev ef.A(g:ef):AV:=.R (bN g.fH++[slA true (some 5) (g.hyps.map sM),slA true (some 4) (g.rest.map λF=>.R (bN F))])
structure rB(P:Nat->Prop)(J:ae)(v:AV)(g:ef):Prop where
 ex:∃au q_,v= .R (bN g.fH++[au,q_])/\Sl J (some 5) au (g.hyps.map sM)/\(g.hyps=[]->au= .af)/\Sl J (some 4) q_ (g.rest.map λF=>.R (bN F))/\(g.rest=[]->q_= .af)/\∀o,au.at? =some o\/q_.at? =some o->P o
def rB.aP{P a0Z:Nat->Prop}{J τ:ae}{v:AV}{g:ef}(h:rB P J v g)(k:∀i o,P i->J.get i=some o->τ.get i=some o)(ed:∀i,P i->i<J.next->a0Z i):rB a0Z τ v g:=by
 obtain⟨au,q_,e,h1,h2,h3,aO,bI⟩:=h.ex;exact⟨au,q_,e,h1.aP λi o hi=>k i o (bI _ (.inl hi)),h2,h3.aP λi o hi=>k i o (bI _ (.inr hi)),aO,λo ho=>ed o (bI o ho) (by rcases ho with ho|ho;exact h1.lt ho;exact h3.lt ho)⟩
def qs{ar:aJ->Option AV}{b0:Nat->Nat->Nat}{aC:List (Nat×Nat×aJ)}{i n:Nat}{o:aJ}{v:AV}{z c r:List AV}(h:ar o=some v)(hl:(Nat.beq v.cells.length n&&v.val)=true)(ao:storeCells z (b0 i n) v.cells=some c)(aq:iy ar b0 aC c=some r):iy ar b0 ((i,n,o)::aC) z=some r:=by
 show(match ar o with|none=>none|some v=>cond (Nat.beq v.cells.length n&&v.val) (match storeCells z (b0 i n) v.cells with|none=>none|some c=>iy ar b0 aC c) none)=_;rw[h];show cond (Nat.beq v.cells.length n&&v.val) (match storeCells z (b0 i n) v.cells with|none=>none|some c=>iy ar b0 aC c) none=_;rw[hl,cond_true,ao];exact aq
def a1a{ar:aJ->Option AV}{b0:Nat->Nat->Nat}{aC:List (Nat×Nat×aJ)}{i:Nat}{o:aJ}{w:AV}{z c r:List AV}{J:ae}{aa:Option Nat}{xs:List AV}(hw:Sl J aa w xs)(h:ar o=some w)(ao:storeCells z (b0 i 1) [w]=some c)(aq:iy ar b0 aC c=some r):iy ar b0 ((i,1,o)::aC) z=some r:=
 qs h (by rw[hw.mM,hw.Qc];rfl) (by rw[hw.mM];exact ao) aq
def W.jQ{ck:l9}{env:Env}{aR:Option Nat}{D:List (Nat ⊕ (AV×List AV))}{n:Nat}{F:List (Nat×AV)}{z:Nat->AV}{J:ae}{Q:dZ}{d:Nat}{HV c:List AV}{aC:List (Nat×Nat×aJ)}{g:Option (Nat×Bool)}{ops:List a4}(hd:Nat.blt d n=true)(hw:wtL g n F=true)(hl:iy (dn env n F z) (λoff _=>off) aC HV=some c)(h:cg ck env aR D n ops (bB ((d,.R c)::F) z) J Q):cg ck env aR D n (⟨some d,.build HV aC,g,[]⟩::ops) (bB F z) J Q:=
 W.val hd hw (by show(match iy (dn env n F z) (λoff _=>off) aC HV with|some c=>some (bZ.val (.R c) J)|none=>none)=_;rw[hl]) h
def kd:ef:=⟨.mk 0 [] none none,[],[]⟩
def kd.v{P:Nat->Prop}{J:ae}:rB P J (.R [.i .u8 0,.s [],.af,.af,.af,.af]) kd:=⟨.af,.af,rfl,.nil,λ_=>rfl,.nil,λ_=>rfl,λo h=>by rcases h with h|h<;>cases h⟩
def po(B:List (List Nat))(k a c:Nat):Bool:=decide (a=c)&&(decide ((B.getD (c-1) []).length<=(B.getD (k-1) []).length)&&decide (B.getD (c-1) []=(B.getD (k-1) []).take (B.getD (c-1) []).length))
section
variable {b:bT}{K:Nat->List AV->AV->Prop}
def b9S(hf:lQ b K)(hh:bk (b.aM K) xv b7x){p eF dE:Nat}{L:List bg}{B N:List (List Nat)}{J:ae}(ed:kS J p L B N)(c6:oD L B)(k1:J.get eF=some (.cells [aE p]))(k a c:Nat)(lC:J.get dE=some (.cells [ah k]))(ha:1<=a)(eH:a<=c)(h5:c<k)(ay:k<=L.length)(a0D:N.length=L.length)(ek:∀l∈N,l.length<2^20/\∀n∈l,1<=n/\n<=L.length)(lR:∀J,bM J (b.bp+1000) (cG L)=some (cG L))(vY:∀x∈L,x.f.dep<=200):
  bE (b.aM K) 0 (.f (.func xv) [] [aE eF,aE dE]) [.R [ah a,ah c]] J (λr τ=>∃g,r= .ok (.a0 [g,.b (po B k a c)])/\rB (λo=>J.next<=o) τ g (cond (po B k a c) ⟨fV L c,[],(N.getD (c-1) []).map (fV L)⟩ kd)/\dN J τ):=by
 refine W.nO hh.e hh.p hh.f I I I λz=>?_;obtain⟨cE,eO,bK,eZ,h1,h2,h3,aO,bI,cx,dI⟩:=ed.ex;have a7:∀ {i j:Nat} {c d:List AV},J.get i=some (.cells c)->J.get j=some (.cells d)->c≠d->j≠i:=λh h' y3 e=>y3 (by subst e;rw[h] at h';cases h';rfl);have H:Has J [(p,[cG L,cE,eO]),(eF,[aE p]),(dE,[ah k])]:=((Has.nil.cons lC aF).cons k1 λx hx=>by rw[uT.1 hx];exact a7 k1 lC aF).cons h1 λx hx=>by
  rcases dB.1 hx with rfl|hx
  ·exact a7 h1 k1 aF
  ·rw[uT.1 hx];exact a7 h1 lC aF
 have hl:=c6.lt;have hd:=c6.len;refine aj ?_;generalize aV:J.next=q;refine W.cA (c:=[ah a,ah c]) H aV I I I I I λτ hn H bx=>?_;refine aj ?_;refine W.cC (c:=[.i .u8 0,.s [],.af,.af,.af,.af]) H hn I I I λa9 h6 H bb=>?_;have c7:∀i o,J.get i=some o->a9.get i=some o:=λi o h=>bb _ _ (bx _ _ h);have au:=(h2.aP (τ:=a9) λi o _=>c7 i o).vw;have qp:=(bI.aP (τ:=a9) λi o _=>c7 i o).vw;have aW:=(aO (c-1) U U).aP (τ:=a9) λi o _=>c7 i o;have iX:=(aO (k-1) U U).aP (τ:=a9) λi o _=>c7 i o;have cQ:=(dI (c-1) U U).aP (τ:=a9) λi o _=>c7 i o;have mN:B.getD (c-1) []=B[c-1]:=by rw[yT,fw U];rfl
 have Qe:B.getD (k-1) []=B[k-1]:=by rw[yT,fw U];rfl
 have wX:N.getD (c-1) []=N[c-1]:=by rw[yT,fw U];rfl
 have hIn:=aW.kR;have a0y:=iX.kR;have mq:=c6.blt _ (gC (show c-1<B.length by omega));have WJ:=c6.blt _ (gC (show k-1<B.length by omega));unfold po;rw[mN,Qe,wX];refine aj ?_;by_cases aL:a=c
 ·subst aL;rw[decide_eq_true I,oq];by_cases a5:(B[a-1]).length<=(B[k-1]).length
  ·rw[decide_eq_true a5,oq];refine aj ?_;refine W.Ke iX a5 I I I I λw hw=>?_;refine aj ?_;refine W.an (hf.q.one I) I I I (a0x hf.equal hIn hw U) λr τ ⟨e,cy⟩=>⟨_,e,?_⟩
   subst cy;by_cases cy:B[a-1]=(B[k-1]).take (B[a-1]).length
   ·rw[decide_eq_true cy];have Fp:=vY _ (gC (show a-1<L.length by omega));have Fq:=Cd (L:=L) (n:=a) ha U;have a1b:=ek _ (gC (show a-1<N.length by omega));refine aj ?_;refine W.l8 H I I I (.tail _ (.tail _ (.head _))) I (Snp.eqb _ _ lR) ?_;refine aj ?_;refine W.sD (v:=.R (bN (L[a-1]).f)) I I I (λs=>ou _ _ I I) (Snp.eqb _ _ λJ=>by have:=Fm.snap J true _ (L[a-1]).f (b.bp+1000) (bs _) U;rwa[jk] at this) ?_;refine aj ?_;refine W.an (hf.q.one I) I I I (Qr hf (ed.aP c7) U cQ a1b.1 a1b.2) λr cm ⟨jA,e,k7,fp⟩=>⟨_,e,?_⟩
    have H:=H.aP fp.2;refine aj ?_;refine W.jQ I I (qs I I I (a1a k7.al I I I)) ?_;refine aj ?_;refine W.st H 0 I I I I I I λbu er H k3=>?_;refine aj ?_;refine ak.ret ⟨rfl,_,jF (gI I (H.get _ (.head _)) I) I,_,rfl,?_,?_,λi o h=>k3 _ _ (by have:=ae.bt h;omega) (fp.2 _ _ (c7 _ _ h))⟩
    ·have c9x:=fp.1;have QD:=k7.al.aP (τ:=bu) λi o hi=>k3 i o (by have:=k7.cY i hi;omega);have:=k7.hF;rw[cond_true];refine⟨.af,jA,by rw[Fq];rfl,.nil,λ_=>rfl,?_,λe=>this ?_,λo ho=>?_⟩
     ·rw[Ax];exact QD
     ·simpa using e
     ·rcases ho with ho|ho
      ·cases ho
      ·have:=k7.cY o ho;omega
    ·have:=fp.1;omega
   ·rw[decide_eq_false cy];refine aj ?_;refine W.st H 0 I I I I I I λbu er H k3=>?_;refine aj ?_;exact ak.ret ⟨rfl,_,jF (gI I (H.get _ (.head _)) I) I,_,rfl,kd.v,U,λi o h=>k3 _ _ (by have:=ae.bt h;omega) (c7 _ _ h)⟩
  ·rw[decide_eq_false a5,uj];refine aj ?_;refine W.st H 0 I I I I I I λbu er H k3=>?_;refine aj ?_;exact ak.ret ⟨rfl,_,jF (gI I (H.get _ (.head _)) I) I,_,rfl,kd.v,U,λi o h=>k3 _ _ (by have:=ae.bt h;omega) (c7 _ _ h)⟩
 ·rw[decide_eq_false aL,uj];refine aj ?_;refine W.st H 0 I I I I I I λbu er H k3=>?_;refine aj ?_;exact ak.ret ⟨rfl,_,jF (gI I (H.get _ (.head _)) I) I,_,rfl,kd.v,U,λi o h=>k3 _ _ (by have:=ae.bt h;omega) (c7 _ _ h)⟩
end
def QE{L:List bg}{first d:Nat}:∀ {m AW n:Nat},n∈asmF L first d m AW->AW<=n/\n-1<L.length
 |0,_,_,h=>by simp[asmF] at h
 |m+1,AW,n,h=>by
  rw[zG] at h;split at h
  ·rename_i x hx;split at h
   ·rcases dB.1 h with rfl|h
    ·exact⟨bs _,(jK.1 hx).1⟩
    ·have:=QE h;omega
   ·simp at h
  ·simp at h
section
variable {b:bT}{K:Nat->List AV->AV->Prop}
def b9T(hf:lQ b K)(hh:bk (b.aM K) xw CO){p eF dE:Nat}{L:List bg}{B N:List (List Nat)}{J:ae}(ed:kS J p L B N)(c6:oD L B)(k1:J.get eF=some (.cells [aE p]))(k a c:Nat)(lC:J.get dE=some (.cells [ah k]))(ha:1<=a)(eH:a<=c)(h5:c<k)(ay:k<=L.length)(a0D:N.length=L.length)(ek:∀l∈N,l.length<2^20/\∀n∈l,1<=n/\n<=L.length)(lR:∀J,bM J (b.bp+1000) (cG L)=some (cG L))(vY:∀x∈L,x.f.dep<=200)(dP:∀x∈L,x.op<2^20)(hlt:L.length<2^16):
  bE (b.aM K) 0 (.f (.func xw) [] [aE eF,aE dE]) [.R [ah a,ah c]] J (λr τ=>∃g,r= .ok (.a0 [g,.b (hJ L B k a c)])/\rB (λo=>J.next<=o) τ g (cond (hJ L B k a c) ⟨fV L c,(iY L a (kr L k+1)).map (fV L),(nc L N k a c).map (fV L)⟩ kd)/\dN J τ):=by
 refine W.nO hh.e hh.p hh.f I I I λz=>?_;obtain⟨cE,eO,bK,eZ,h1,h2,h3,aO,bI,cx,dI⟩:=ed.ex;have a7:∀ {i j:Nat} {c d:List AV},J.get i=some (.cells c)->J.get j=some (.cells d)->c≠d->j≠i:=λh h' y3 e=>y3 (by subst e;rw[h] at h';cases h';rfl);have H:Has J [(p,[cG L,cE,eO]),(eF,[aE p]),(dE,[ah k])]:=((Has.nil.cons lC aF).cons k1 λx hx=>by rw[uT.1 hx];exact a7 k1 lC aF).cons h1 λx hx=>by
  rcases dB.1 hx with rfl|hx
  ·exact a7 h1 k1 aF
  ·rw[uT.1 hx];exact a7 h1 lC aF
 have hl:=c6.lt;have hd:=c6.len;have r9:=c6.br _ (gC (show k-1<L.length by omega));have b9U:=B8 (L:=L) (k:=k) U ay;refine aj ?_;generalize aV:J.next=q;refine W.cA (c:=[ah a,ah c]) H aV I I I I I λτ hn H bx=>?_;refine aj ?_;refine W.cC (c:=[.i .u8 0,.s [],.af,.af,.af,.af]) H hn I I I λa9 h6 H bb=>?_;have c7:∀i o,J.get i=some o->a9.get i=some o:=λi o h=>bb _ _ (bx _ _ h);refine aj ?_;refine W.an trivial I I I (Km hf (ed.aP c7) c6 k a c ha eH h5 ay) λr bu ⟨e,ee⟩=>⟨_,e,?_⟩
 have H:=H.aP ee.2;have q9:=ee.1;have Kx:∀i o,J.get i=some o->bu.get i=some o:=λi o h=>ee.2 _ _ (c7 _ _ h);cases Ks:hJ L B k a c with
 |false=>
  refine aj ?_;refine W.st H 0 I I I I I I λcm e_ H b1=>?_;refine aj ?_;exact ak.ret ⟨rfl,_,jF (gI I (H.get _ (.head _)) I) I,_,rfl,kd.v,U,λi o h=>b1 _ _ (by have:=ae.bt h;omega) (Kx _ _ h)⟩
 |true=>
  have Fp:=vY _ (gC (show c-1<L.length by omega));have Fq:=Cd (L:=L) (n:=c) U U;have a1c:=ek _ (gC (show c-1<N.length by omega));have wX:N.getD (c-1) []=N[c-1]:=by rw[yT,fw U];rfl
  have b9V:∀n∈nc L N k a c,n∈N[c-1]:=λn hn=>by unfold nc at hn;rw[wX] at hn;exact(NN.1 hn).1
  have vg:(nc L N k a c).length<2^20:=by
   unfold nc;rw[wX];have:=E6 (λn=>!decide (n∈iY L a (kr L k+1))) N[c-1];have:=a1c.1;omega
  refine aj ?_;refine W.l8 H I I I (.tail _ (.tail _ (.head _))) I (Snp.eqb _ _ lR) ?_;refine aj ?_;refine W.sD (v:=.R (bN (L[c-1]).f)) I I I (λs=>ou _ _ I I) (Snp.eqb _ _ λJ=>by have:=Fm.snap J true _ (L[c-1]).f (b.bp+1000) (bs _) U;rwa[jk] at this) ?_;refine aj ?_;generalize b9W:bu.next=nP at *;refine W.cC (c:=[.i .u8 0,.s [],.af,.af,.af,.af]) H b9W I I I λcm e_ H b1=>?_;refine aj ?_;refine W.an (hf.q.one I) I I I (a0A hf (ed.aP λi o h=>b1 _ _ (Kx i o h)) c6 dP (λl hl=>(ek l hl).1) k a c ha eH h5 ay U) λr dg ⟨w,e,hw,jl⟩=>⟨_,e,?_⟩
  have H:=H.aP jl.2;have zS:=jl.1;refine aj ?_;refine W.an (hf.q.one I) I I I (Qr hf (ed.aP λi o h=>jl.2 _ _ (b1 _ _ (Kx i o h))) U hw.al vg λn hn=>a1c.2 n (b9V n hn)) λr eA ⟨jA,e,k7,Fs⟩=>⟨_,e,?_⟩
  have H:=H.aP Fs.2;have c9y:=Fs.1;refine aj ?_;refine W.jQ I I (qs I I I (a1a k7.al I I I)) ?_;refine aj ?_;refine W.st H 0 I I I I I I λeW k6 H gk=>?_;have QF:∀i o,J.get i=some o->eW.get i=some o:=λi o h=>gk _ _ (by have:=ae.bt h;omega) (Fs.2 _ _ (jl.2 _ _ (b1 _ _ (Kx i o h))));have QG:=k7.al.aP (τ:=eW) λi o hi=>gk i o (by have:=k7.cY i hi;omega);refine aj ?_;refine W.an (hf.q.one I) I I I (Qg hf (ed.aP QF) U dP a (L[k-1].br+1) ha U) λr fI ⟨Bj,e,QD,iP⟩=>⟨_,e,?_⟩
  have H:=H.aP iP.2;have Ky:=iP.1;refine aj ?_;have k5:(iY L a (L[k-1].br+1)).length<2^17:=by have:=Ko L a (L[k-1].br+1) (L.length+1-a) a;unfold iY;omega
  have yW:∀n∈iY L a (L[k-1].br+1),1<=n/\n<=L.length:=λn hn=>by have:=QE hn;omega
  rw[b9U];generalize iY L a (L[k-1].br+1)=l at *;refine W.an (hf.q.one I) I I I (Qr hf (ed.aP λi o h=>iP.2 _ _ (QF i o h)) U QD.al U yW) λr ke ⟨a1d,e,Ft,Kz⟩=>⟨_,e,?_⟩
  have H:=H.aP Kz.2;have c9z:=Kz.1;have zI:=Ft.al.vw;have Fu:(l.map λn=>AV.R (bN (fV L n))).length=l.length:=uV _;refine aj ?_;rw[Fu];refine aj ?_;refine ak.each l.length (λj f aB=>∃au,aB.get nP=some (.cells (bN (L[c-1].f)++[au,jA]))/\Sl aB (some 5) au ((l.take j).map λn=>sM (fV L n))/\(l.take j=[]->au= .af)/\(∀i,au.at? =some i->ke.next<=i)/\ke.next<=aB.next/\(∀i o,i≠nP->ke.get i=some o->aB.get i=some o)/\sat [(4,aE (q+1)),(6,aE nP),(47,a1d)] f) U ⟨.af,H.get _ (.head _),.nil,λ_=>rfl,(λ_ h=>by cases h),bs _,λ_ _ _ h=>h,rfl,rfl,rfl,trivial⟩ I I (λj g aB ax aW hi hm=>?_) (λg aB aW hi=>?_)
  ·obtain⟨au,hg,ao,sN,nw,mF,pq,cX,gU,Fv,_⟩:=aW;refine ak.norm [(4,aE (q+1)),(6,aE nP),(47,a1d),(49,ah j),(48,ah l.length)] ⟨cX,gU,Fv,hi,hm,trivial⟩ λg=>?_;have H:Has aB [(nP,bN (L[c-1].f)++[au,jA])]:=Has.nil.cons hg aF;have zI:=(Ft.al.aP (τ:=aB) λi o hi=>pq i o (by have:=Ft.cY i hi;omega)).vw;refine aj ?_;rw[mQ];refine W.jj (c:=bN (fV L l[j])) H I I I I I I I λhq rC H cF=>?_;have ng:=ao.aP (τ:=hq) λi o _=>cF i o;refine aj ?_;refine W.pu (c:=.b true::bN (fV L l[j])) (sM (fV L l[j])) ng I I I I I I I I I (by rw[uV,fe];omega) λbR jm QH I5 _ pV jn=>?_;have H:Has jm [(nP,bN (L[c-1].f)++[au,jA])]:=Has.nil.cons (jn _ _ (λe=>by have:=nw _ e;omega) (H.get _ (.tail _ (.head _)))) aF;refine aj ?_;refine W.st (bD:=bN (L[c-1].f)++[bR,jA]) H 0 I I I I QH.lP (by rw[QH.mM];rfl) λlS tD H oa=>?_;refine aj ?_;refine⟨rfl,rfl,bR,H.get _ (.head _),?_,λe=>?_,(λi hi=>by rw[I5] at hi;cases hi;omega),U,λi o hi ho=>oa _ _ hi (jn _ _ (λe=>by have:=nw _ e;have:=ae.bt ho;omega) (cF _ _ (pq _ _ hi ho))),rfl,rfl,rfl,trivial⟩
   ·rw[lO ax,hQ];exact QH.aP λi o hi=>oa i o (λe=>by rw[I5] at hi;cases hi;omega)
   ·have:=congrArg List.length e;rw[fe,lg] at this;omega
  ·obtain⟨au,hg,ao,sN,nw,mF,pq,cX,gU,_⟩:=aW;show bL _ _ _ _ _ _ _ _;refine ak.norm [(4,aE (q+1)),(6,aE nP)] ⟨cX,gU,trivial⟩ λg=>?_;rw[B0] at ao sN;have b9X:aB.get (q+1)=some (.cells [.i .u8 0,.s [],.af,.af,.af,.af]):=pq _ _ U (H.get _ (.tail _ (.head _)));have H:Has aB [(q+1,[.i .u8 0,.s [],.af,.af,.af,.af]),(nP,bN (L[c-1].f)++[au,jA])]:=(Has.nil.cons hg aF).cons b9X (by simp;omega);refine aj ?_;refine W.st (bD:=bN (L[c-1].f)++[au,jA]) H 0 I I I I I I λsO dX H cI=>?_;refine aj ?_;have h4:Sl sO (some 5) au ((l.map (fV L)).map sM):=by
    rw[Ax];exact ao.aP λi o hi=>cI i o (by have:=nw i hi;omega)
   have kl:l.map (fV L)=[]->au= .af:=λe=>sN (by simpa using e);have o1:Sl sO (some 4) jA (((nc L N k a c).map (fV L)).map λF=>.R (bN F)):=by
    rw[Ax];exact QG.aP λi o hi ho=>cI _ _ (by have:=k7.cY i hi;omega) (pq _ _ (by have:=k7.cY i hi;omega) (Kz.2 _ _ (iP.2 _ _ ho)))
   have u_:(nc L N k a c).map (fV L)=[]->jA= .af:=λe=>k7.hF (by simpa using e);have Dt:∀o,au.at? =some o\/jA.at? =some o->q<=o:=λo ho=>by
    rcases ho with ho|ho
    ·have:=nw o ho;omega
    ·have:=k7.cY o ho;omega
   refine ak.ret ⟨rfl,_,jF (gI I (H.get _ (.head _)) I) I,_,rfl,by rw[cond_true];exact⟨au,jA,by rw[Fq];rfl,h4,kl,o1,u_,Dt⟩,U,λi o h=>cI _ _ (by have:=ae.bt h;omega) (pq _ _ (by have:=ae.bt h;omega) (Kz.2 _ _ (iP.2 _ _ (QF _ _ h))))⟩
end
structure fh where
 hyps:List Fm
 f:Fm
 fresh:List Nat
 closed:Bool
abbrev fh.cells(p:fh):List AV:=[slA true (some 4) (p.hyps.map λF=>.R (bN F)),fa p.f.op,.s p.f.name,gG true p.f.fl,gp true p.f.e4,.s p.fresh,.b p.closed]
abbrev fh.A(p:fh):AV:=.R p.cells
def fh.cA(p:fh):Bool:=!p.hyps.isEmpty||(!p.fresh.isEmpty||p.closed)
def kf(L:List bg)(B N:List (List Nat))(k:Nat)(p:fh)(ac:Nat×Nat):ef:=cond p.cA (cond (hJ L B k ac.1 ac.2) ⟨fV L ac.2,(iY L ac.1 (kr L k+1)).map (fV L),(nc L N k ac.1 ac.2).map (fV L)⟩ kd) (cond (po B k ac.1 ac.2) ⟨fV L ac.2,[],(N.getD (ac.2-1) []).map (fV L)⟩ kd)
def il(L:List bg)(B:List (List Nat))(k:Nat)(p:fh)(ac:Nat×Nat):Bool:=cond p.cA (hJ L B k ac.1 ac.2) (po B k ac.1 ac.2)
def citeB(L:List bg)(B:List (List Nat))(k:Nat):List fh->List (Nat×Nat)->Bool
 |[],[]=>true
 |p::aC,c::cs=>il L B k p c&&citeB L B k aC cs
 |_,_=>false
def gotsL(L:List bg)(B N:List (List Nat))(k:Nat):List fh->List (Nat×Nat)->List ef
 |p::aC,c::cs=>kf L B N k p c::gotsL L B N k aC cs
 |_,_=>[]
def a1e{L:List bg}{B N:List (List Nat)}{k:Nat}:∀ {aC:List fh} {cs:List (Nat×Nat)},cs.length=aC.length->(gotsL L B N k aC cs).length=aC.length
 |[],_,_=>rfl
 |_::_,[],h=>by simp at h
 |p::aC,c::cs,h=>by
  show(gotsL L B N k aC cs).length+1=aC.length+1;rw[a1e (by simpa using h)]
def a1f{L:List bg}{B N:List (List Nat)}{k:Nat}:∀ {aC:List fh} {cs:List (Nat×Nat)} {j:Nat} (h1:j<aC.length) (h2:j<cs.length) (h3:j<(gotsL L B N k aC cs).length),(gotsL L B N k aC cs)[j]=kf L B N k aC[j] cs[j]
 |_::_,_::_,0,_,_,_=>rfl
 |p::aC,c::cs,j+1,h1,h2,h3=>a1f (aC:=aC) (cs:=cs) (j:=j) (by simpa using h1) (by simpa using h2) (by simpa [gotsL] using h3)
def a1g{L:List bg}{B:List (List Nat)}{k:Nat}:∀ {aC:List fh} {cs:List (Nat×Nat)},cs.length=aC.length->(∀j (h1:j<aC.length) (h2:j<cs.length),il L B k aC[j] cs[j]=true)->citeB L B k aC cs=true
 |[],[],_,_=>rfl
 |[],_::_,h,_=>by simp at h
 |_::_,[],h,_=>by simp at h
 |p::aC,c::cs,h,hh=>by
  have h0:il L B k p c=true:=hh 0 aF aF;rw[citeB,h0,oq];exact a1g (by simpa using h) λj h1 h2=>hh (j+1) (by simpa using h1) (by simpa using h2)
def QI{L:List bg}{B:List (List Nat)}{k:Nat}:∀ {aC:List fh} {cs:List (Nat×Nat)} {j:Nat} (h1:j<aC.length) (h2:j<cs.length),il L B k aC[j] cs[j]=false->citeB L B k aC cs=false
 |p::aC,c::cs,0,_,_,h=>by
  have h:il L B k p c=false:=h;rw[citeB,h,uj]
 |p::aC,c::cs,j+1,h1,h2,h=>by
  rw[citeB,QI (aC:=aC) (cs:=cs) (j:=j) (by simpa using h1) (by simpa using h2) h,Bool.and_false]
def KA{L:List bg}{B:List (List Nat)}{k:Nat}:∀ {aC:List fh} {cs:List (Nat×Nat)},citeB L B k aC cs=true->cs.length=aC.length
 |[],[],_=>rfl
 |[],_::_,h=>by cases h
 |_::_,[],h=>by cases h
 |p::aC,c::cs,h=>by
  rw[citeB,C2] at h;have:=KA h.2;simp[this]
section
variable {b:bT}{K:Nat->List AV->AV->Prop}
def b9Y(hh:bk (b.aM K) JY b7n){p k:Nat}{J:ae}{q:Nat}(aV:J.next=q):
  bE (b.aM K) 0 (.f (.func JY) [] []) [aE p,ah k] J (λr τ=>r= .ok (.R [.f (.func xv) [] [aE q,aE (q+1)],.f (.func xw) [] [aE q,aE (q+1)]])/\τ.get q=some (.cells [aE p])/\τ.get (q+1)=some (.cells [ah k])/\τ.next=q+3/\dN J τ):=by
 refine W.nO hh.e hh.p hh.f I I I λz=>?_;have H:Has J []:=Has.nil;refine aj ?_;refine W.cA (c:=[aE p]) H aV I I I I I λτ hn H bx=>?_;refine aj ?_;refine W.cA (c:=[ah k]) H hn I I I I I λa9 h6 H bb=>?_;refine aj ?_;refine W.cC (c:=[.eh,.eh]) H h6 I I I λbu n9 H k3=>?_;refine aj ?_;refine W.st H 0 I I I I I I λcm e_ H b1=>?_;refine aj ?_;exact ak.ret ⟨rfl,_,vU (gI I (H.get _ (.head _)) I),rfl,H.get _ (.tail _ (.tail _ (.head _))),H.get _ (.tail _ (.head _)),U,U,λi o h=>b1 _ _ (by have:=ae.bt h;omega) (k3 _ _ (bb _ _ (bx _ _ h)))⟩
def b9Z(hh:bk (b.aM K) JR b7o)(p:fh){J:ae}:
  bE (b.aM K) 0 (.f (.func JR) [] []) [p.A] J (λr τ=>r= .ok (.b p.cA)/\dN J τ):=by
 refine W.xF hh I I I I λz H=>?_;refine aj ?_;refine W.cA (c:=p.cells) H I I I I I I λτ hn H bx=>?_;obtain⟨hy,f,ad,an⟩:=p;unfold fh.cA;cases hy with
 |cons F l=>
  refine aj ?_;exact ak.ret ⟨rfl,rfl,U,bx⟩
 |nil=>
  refine aj ?_;cases ad with
  |cons c l=>
   refine aj ?_;refine W.bin (v:=.b true) I I I I I ?_;refine aj ?_;exact ak.ret ⟨rfl,rfl,U,bx⟩
  |nil=>
   refine aj ?_;refine W.bin (v:=.b false) I I I I I ?_;refine aj ?_;exact ak.ret ⟨rfl,rfl,U,bx⟩
end
section
variable {b:bT}{K:Nat->List AV->AV->Prop}
structure Fw(b:bT)(K:Nat->List AV->AV->Prop):Prop where
 c0a:bk (b.aM K) JY b7n
 rD:bk (b.aM K) xv b7x
 pr2:bk (b.aM K) xw CO
 c0b:bk (b.aM K) JR b7o
 QJ:bk (b.aM K) PK b7h
structure KB(b:bT)(L:List bg)(B N:List (List Nat)):Prop where
 kv:oD L B
 nl:N.length=L.length
 hF:∀l∈N,l.length<2^20/\∀n∈l,1<=n/\n<=L.length
 g3:∀J,bM J (b.bp+1000) (cG L)=some (cG L)
 br:∀x∈L,x.f.dep<=200
 op:∀x∈L,x.op<2^20
 lt:L.length<2^16
def a1h{P:Nat->Prop}{J:ae}{v:AV}{g:ef}(h:rB P J v g):∃au q_,v= .R (bN g.fH++[au,q_]):=by
 obtain⟨au,q_,e,_⟩:=h.ex;exact⟨au,q_,e⟩
def a1i(q:Nat)(cA:Bool):AV:=.f (.func (cond cA xw xv)) [] [aE q,aE (q+1)]
def c0c(hf:lQ b K)(aw:Fw b K){p q k:Nat}{L:List bg}{B N:List (List Nat)}{J:ae}(ed:kS J p L B N)(ch:KB b L B N)(ay:k<=L.length)(bU:J.get q=some (.cells [aE p]))(bV:J.get (q+1)=some (.cells [ah k]))(pm:fh)(ac:Nat×Nat)(h:1<=ac.1/\ac.1<=ac.2/\ac.2<k):
  bE (b.aM K) 0 (a1i q pm.cA) [.R [ah ac.1,ah ac.2]] J (λr τ=>∃g,r= .ok (.a0 [g,.b (il L B k pm ac)])/\rB (λo=>J.next<=o) τ g (kf L B N k pm ac)/\dN J τ):=by
 unfold il kf;cases pm.cA with
 |false=>exact b9S hf aw.rD ed ch.kv bU k ac.1 ac.2 bV h.1 h.2.1 h.2.2 ay ch.nl ch.hF ch.g3 ch.br
 |true=>exact b9T hf aw.pr2 ed ch.kv bU k ac.1 ac.2 bV h.1 h.2.1 h.2.2 ay ch.nl ch.hF ch.g3 ch.br ch.op ch.lt
def a1j(hf:lQ b K)(aw:Fw b K){p k:Nat}{L:List bg}{B N:List (List Nat)}{J:ae}(ed:kS J p L B N)(ch:KB b L B N)(Kr:1<=k)(ay:k<=L.length){aC:List fh}{V:AV}(hV:∀τ,(∀i o,J.get i=some o->τ.get i=some o)->iO τ (some 7) V (aC.map fh.A))(kq:aC.length<2^20){x:bg}(hx:L[k-1]? =some x)(ab:oG k x.cs):
  bE (b.aM K) 0 (.f (.func PK) [] []) [aE p,ah k,V] J (λr τ=>∃v,r= .ok (.a0 [v,.b (citeB L B k aC x.cs)])/\(citeB L B k aC x.cs=true->∃fr,Sl τ (some 6) v fr/\(fr=[]->v= .af)/\fr.length=aC.length/\∀i (h:i<fr.length) (h':i<aC.length) (xM:i<x.cs.length),rB (λ_=>True) τ fr[i] (kf L B N k aC[i] x.cs[i]))/\dN J τ):=by
 refine W.nO aw.QJ.e aw.QJ.p aw.QJ.f I I I λz=>?_;obtain⟨cE,eO,bK,eZ,h1,_⟩:=ed.ex;have H:Has J [(p,[cG L,cE,eO])]:=Has.nil.cons h1 aF;have hl:=ch.lt;have KC:L[k-1]'U=x:=(jK.1 hx).2;have au:=hV J λ_ _ h=>h;have QK:(aC.map fh.A).length=aC.length:=uV _;have gj:=ab.1;refine aj ?_;rw[KC];refine aj ?_;rw[QK];by_cases hlen:x.cs.length=aC.length
 ·refine aj ?_;generalize aV:J.next=q;refine W.an trivial I I I (b9Y aw.c0a aV) λr τ ⟨e,bU,bV,cP,Ci⟩=>⟨_,e,?_⟩
  have H:=H.aP Ci.2;refine aj ?_;refine W.jj (c:=[.f (.func xv) [] [aE q,aE (q+1)],.f (.func xw) [] [aE q,aE (q+1)]]) H cP I I I I I I λa9 c8 H bb=>?_;have au:=hV a9 λ_ _ h=>bb _ _ (Ci.2 _ _ h);refine aj ?_;rw[QK];refine aj ?_;show bL _ _ _ _ _ _ _ _;refine ak.each aC.length (λj f aB=>∃v fr,Sl aB (some 6) v fr/\(fr=[]->v= .af)/\fr.length=j/\(∀i (h:i<fr.length) (h':i<aC.length) (xM:i<x.cs.length),rB (λo=>v.at? ≠some o) aB fr[i] (kf L B N k aC[i] x.cs[i]))/\(∀i (h':i<aC.length) (xM:i<x.cs.length),i<j->il L B k aC[i] x.cs[i]=true)/\(∀o,v.at? =some o->a9.next<=o)/\a9.next<=aB.next/\(∀i o,a9.get i=some o->aB.get i=some o)/\sat [(8,hI true x.cs),(9,aE (q+3)),(10,v),(33,V)] f) U ⟨.af,[],.nil,λ_=>rfl,rfl,(λi h=>by simp at h),(λi _ _ h=>by omega),(λ_ h=>by cases h),bs _,λ_ _ h=>h,rfl,rfl,rfl,rfl,trivial⟩ I I (λj g aB ax aW hi hm=>?_) (λg aB aW hi=>?_)
  ·obtain⟨v,fr,ao,sN,lH,vd,om,nw,mF,pq,gM,sP,uz,Kq,_⟩:=aW;refine ak.norm [(8,hI true x.cs),(9,aE (q+3)),(10,v),(33,V),(35,ah j),(34,ah aC.length)] ⟨gM,sP,uz,Kq,hi,hm,trivial⟩ λg=>?_;have H:Has aB [(q+3,[.f (.func xv) [] [aE q,aE (q+1)],.f (.func xw) [] [aE q,aE (q+1)]])]:=Has.nil.cons (pq _ _ (H.get _ (.head _))) aF;have c7:∀i o,J.get i=some o->aB.get i=some o:=λi o h=>pq _ _ (bb _ _ (Ci.2 _ _ h));have au:=hV aB c7;refine aj ?_;rw[mQ];refine W.cC H I I I I λhq rC H cF=>?_;refine aj ?_;refine W.st (bD:=(aC[j]).cells) H 0 I I I I I I λjm pV H jn=>?_;refine W.nil ?_;refine W.sq ?_;refine W.rg ?_;refine e5 ?_;refine W.nil ?_;have rE:∀i o,aB.get i=some o->jm.get i=some o:=λi o h=>jn _ _ (by have:=ae.bt h;omega) (cF _ _ h);refine W.sq ?_;refine W.Fc (α:=Unit) (λ_=>[(8,hI true x.cs),(9,aE (q+3)),(10,v),(11,ah j),(13,a1i q (aC[j]).cA),(33,V),(35,ah j),(34,ah aC.length)]) (λ_ lS=>dN jm lS) ?_ ?_
   ·refine aj ?_;refine W.an trivial I I I (b9Z aw.c0b aC[j]) λr lS ⟨e,ee⟩=>⟨_,e,?_⟩
    have H:=H.aP ee.2;cases(aC[j]).cA with
    |false=>
     refine aj ?_;exact⟨rfl,(),ee,rfl,rfl,rfl,rfl,rfl,rfl,rfl,rfl,trivial⟩
    |true=>
     refine aj ?_;exact⟨rfl,(),ee,rfl,rfl,rfl,rfl,rfl,rfl,rfl,rfl,trivial⟩
   ·intro _ g lS ee;have oa:∀i o,aB.get i=some o->lS.get i=some o:=λi o h=>ee.2 _ _ (rE _ _ h);have H:=H.aP ee.2;have Fx:j<x.cs.length:=by omega
    refine aj ?_;refine W.nd I I I (c0c hf aw (ed.aP λi o h=>oa _ _ (c7 _ _ h)) ch ay (oa _ _ (pq _ _ (bb _ _ bU))) (oa _ _ (pq _ _ (bb _ _ bV))) aC[j] x.cs[j] (ab.2 _ (gC Fx))) λr sO ⟨gt,e,sm,fp⟩=>⟨_,e,?_⟩
    have H:=H.aP fp.2;obtain⟨n5,KD,QL⟩:=a1h sm;subst QL;refine aj ?_;have cI:∀i o,aB.get i=some o->sO.get i=some o:=λi o h=>fp.2 _ _ (oa _ _ h);have dX:aB.next<=sO.next:=by have:=ee.1;have:=fp.1;omega
    refine W.cC H I I I I λsQ ne H Cj=>?_;refine W.st (bD:=bN (kf L B N k aC[j] x.cs[j]).fH++[n5,KD]) H 0 I I I I I I λFy eh H xN=>?_;have Fz:∀i o,sO.get i=some o->Fy.get i=some o:=λi o h=>xN _ _ (by have:=ae.bt h;omega) (Cj _ _ h);refine aj ?_;cases QM:il L B k aC[j] x.cs[j] with
    |false=>
     refine aj ?_;refine ak.ret ⟨rfl,_,jF (ku I) (ku I),_,by rw[QI ax Fx QM];rfl,λh=>(by rw[QI ax Fx QM] at h;cases h),?_,λi o h=>Fz _ _ (cI _ _ (c7 _ _ h))⟩;have:=Ci.1;omega
    |true=>
     refine aj ?_;have QN:=ao.aP (τ:=Fy) λi o _ h=>Fz _ _ (cI _ _ h);refine W.pu (c:=bN (kf L B N k aC[j] x.cs[j]).fH++[n5,KD]) (.R (bN (kf L B N k aC[j] x.cs[j]).fH++[n5,KD])) QN I I I I I I I I I (by rw[lH];omega) λbR QO c0d QP _ a1k zT=>?_;refine aj ?_;have c0e:∀o,v.at? =some o->o<aB.next:=λo ho=>ao.lt ho;refine⟨rfl,rfl,bR,fr++[_],c0d,λe=>absurd e aF,by rw[dv,lH];rfl,λi h h' xM=>?_,λi h' xM hi=>?_,(λo ho=>by rw[QP] at ho;cases ho;omega),U,λi o ho=>zT _ _ (λe=>by have:=nw _ e;have:=ae.bt ho;omega) (Fz _ _ (cI _ _ (pq _ _ ho))),rfl,rfl,rfl,rfl,trivial⟩
     ·by_cases hG:i<fr.length
      ·rw[cM hG];exact(vd i hG h' xM).aP (λi o hi ho=>zT _ _ hi (Fz _ _ (cI _ _ ho))) λo hi hlt e=>by rw[QP] at e;cases e;omega
      ·have e:i=fr.length:=by rw[dv] at h;simp only[CZ,lg] at h;omega
       subst e;rw[show(fr++[_])[fr.length]'h=_ from xE I _];subst lH;exact sm.aP (λi o hi ho=>zT _ _ (λe=>by have:=c0e _ e;have:=ee.1;omega) (Fz _ _ ho)) λo hi hlt e=>by rw[QP] at e;cases e;omega
     ·by_cases hG:i<j
      ·exact om i h' xM hG
      ·obtain rfl:i=j:=by omega
       exact QM
  ·obtain⟨v,fr,ao,sN,lH,vd,om,nw,mF,pq,gM,sP,uz,Kq,_⟩:=aW;show bL _ _ _ _ _ _ _ _;refine ak.norm [(10,v)] ⟨uz,trivial⟩ λg=>?_;refine aj ?_;have hall:=a1g hlen λj h1 h2=>om j h1 h2 h1;refine ak.ret ⟨rfl,_,jF (ku I) (ku I),_,by rw[hall];rfl,λ_=>⟨fr,ao,sN,lH,λi h h' xM=>(vd i h h' xM).aP (λ_ _ _ h=>h) λ_ _ _=>trivial⟩,?_,λi o h=>pq _ _ (bb _ _ (Ci.2 _ _ h))⟩;have:=Ci.1;omega
 ·refine aj ?_;have zU:citeB L B k aC x.cs=false:=by
   cases zU:citeB L B k aC x.cs with
   |true=>exact absurd (KA zU) hlen
   |false=>rfl
  refine ak.ret ⟨rfl,_,jF (ku I) (ku I),.af,by rw[zU];rfl,λh=>absurd (KA h) hlen,bs _,λ_ _ h=>h⟩
end
end
abbrev xO(J ai:ae):Prop:=J.next<=ai.next/\∀i o,J.get i=some o->ai.get i=some o
def Acc.a1l{J:ae}{aa:Option Nat}{v:AV}{xs l:List AV}(h:Acc J aa v xs):dV none (v::l)=some v:=by cases h<;>rfl
def Acc.lP{J:ae}{aa:Option Nat}{v:AV}{xs:List AV}(h:Acc J aa v xs):Go.Lyc.conf none v=true:=by cases h<;>rfl
def Acc.inv{J:ae}{aa:Option Nat}{v:AV}{xs:List AV}(h:Acc J aa v xs)(hx:0<xs.length):∃o,v= .al o 0 xs.length aa none/\J.get o=some (.cells (xs.flatMap AV.cells))/\∀y∈xs,Go.Lyc.conf aa y=true:=by
 cases h with
 |nil=>cases hx
 |al o x xs h ab=>exact⟨o,rfl,h,ab⟩
def Acc.of{J:ae}{aa:Option Nat}{o:Nat}{xs:List AV}(hx:0<xs.length)(h:J.get o=some (.cells (xs.flatMap AV.cells)))(ab:∀y∈xs,Go.Lyc.conf aa y=true):Acc J aa (.al o 0 xs.length aa none) xs:=by
 cases xs with
 |nil=>cases hx
 |cons x xs=>exact .al o x xs h ab
def KE{aa:Option Nat}{x:AV}(h:conf aa x=true):x.cells.length=shN aa:=by
 cases aa with
 |none=>rw[IS h];rfl
 |some k=>obtain⟨l,rfl,hl⟩:=XS h;exact hl
def QQ{aa:Option Nat}:∀ {xs:List AV} (j:Nat),(∀x∈xs,conf aa x=true)->(xs.flatMap AV.cells).drop (j*shN aa)=(xs.drop j).flatMap AV.cells
 |xs,0,_=>by rw[DH];rfl
 |[],j+1,_=>by simp
 |x::xs,j+1,h=>by
  have e:(j+1)*shN aa=x.cells.length+j*shN aa:=by rw[KE (h x aF),G_,qK,uX]
  rw[jY,e,← oV,List.drop_left,QQ j λy hy=>h y (C1 _ hy)];rfl
def QR{aa:Option Nat}{xs:List AV}{j:Nat}(ax:j<xs.length)(h:∀x∈xs,conf aa x=true):dV aa ((xs.flatMap AV.cells).drop (0+j*shN aa))=some xs[j]:=by
 rw[NS,QQ j h,P5 ax,jY];exact(Ex (h _ (gC ax))).1
def c0f{n:Nat}(h:n<256):wrapN .u8 (Int.ofNat n)=Int.ofNat n:=by
 have h:(n:Int)<256:=by omega
 simp[wrapN,IntKind.wrap,IntKind.bits,IntKind.signed];omega
abbrev fE:=List Nat×Nat
abbrev dz(s:fE):AV:=.R [.s s.1,ah s.2]
def a1m:∀(a b:List Nat),eqL a b=decide (a=b)
 |[],[]=>rfl
 |[],_::_=>rfl
 |_::_,[]=>rfl
 |x::a,y::b=>by
  show cond (Nat.beq x y) (eqL a b) false=_;cases h:Nat.beq x y with
  |false=>
   have:x≠y:=λe=>by rw[e,gQ] at h;cases h
   rw[decide_eq_false (λe=>this (by injection e))];rfl
  |true=>
   rw[gb h,cond_true,a1m a b];simp
def c0g(a b:fE):keyEq (.inr [1,0]) (dz a) (dz b)=some (decide (a=b)):=by
 show(match leafEq 1 (.s a.1) (.s b.1),mR [0] [ah a.2] [ah b.2] with|some a,some b=>some (a&&b)|_,_=>none)=_;have e:mR [0] [ah a.2] [ah b.2]=some (decide (a.2=b.2)):=by
  show(match leafEq 0 (ah a.2) (ah b.2),mR [] [] [] with|some a,some b=>some (a&&b)|_,_=>none)=_;show(match(if(IntKind.i64= .i64) then some (decide (Int.ofNat a.2=Int.ofNat b.2)) else none),some true with|some a,some b=>some (a&&b)|_,_=>none)=_;rw[if_pos I];simp only[Xx,Int.natCast_inj,IG]
 rw[e];show some (eqL a.1 b.1&&decide (a.2=b.2))=_;rw[a1m];obtain⟨aX,bc⟩:=a;obtain⟨eF,dE⟩:=b;by_cases h1:aX=eF<;>by_cases h2:bc=dE<;>simp[h1,h2]
section
variable {α:Type}[DecidableEq α]{cF:α->AV}{aa:kE}
def setE(cF:α->AV):Nat->List α->List (AV×AV×Nat)
 |_,[]=>[]
 |i,k::bC=>(cF k,.b true,i)::setE cF (i+1) bC
def Ck(k:α)(l:List α):List α:=if k∈l then l else l++[k]
def a1n:∀(l:List α) (i:Nat) (k:α),setE cF i (l++[k])=setE cF i l++[(cF k,.b true,i+l.length)]
 |[],i,k=>rfl
 |x::l,i,k=>by
  show _::setE cF (i+1) (l++[k])=_;rw[a1n l (i+1) k];show _=(cF x,AV.b true,i)::(setE cF (i+1) l++[(cF k,.b true,i+(l.length+1))]);rw[show i+1+l.length=i+(l.length+1) from by omega]
def a1o(ay:∀a b,keyEq aa (cF a) (cF b)=some (decide (a=b)))(k:α):∀(l:List α) (i:Nat),qN aa (cF k) (.b true) (setE cF i l)=some (if k∈l then some (setE cF i l) else none)
 |[],i=>rfl
 |x::l,i=>by
  show(match keyEq aa (cF k) (cF x) with
   |none=>none
   |some true=>some (some ((cF k,AV.b true,i)::setE cF (i+1) l))
   |some false=>match qN aa (cF k) (AV.b true) (setE cF (i+1) l) with|none=>none|some none=>some none|some (some es)=>some (some ((cF x,AV.b true,i)::es)))=_
  rw[ay,a1o ay k l (i+1)];by_cases h:k=x
  ·subst h;rw[decide_eq_true I,if_pos (tm)];rfl
  ·rw[decide_eq_false h];by_cases hm:k∈l
   ·rw[if_pos hm,if_pos (C1 _ hm)];rfl
   ·rw[if_neg hm,if_neg (by simp[h,hm])]
def QS{env:Env}{n:Nat}{f:Nat->AV}{J:ae}(ay:∀a b,keyEq aa (cF a) (cF b)=some (decide (a=b))){x y:aJ}{dK:Nat}{k:α}{l:List α}(h1:dJ env n f x=some (.m (some dK)))(h2:dJ env n f y=some (cF k))(hm:J.get dK=some (.map (setE cF 0 l) l.length)):
  opx 0 (dJ env n f) J (.ki aa x y (.c (.b true)))=some (.val ei (J.set dK (.map (setE cF 0 (Ck k l)) (Ck k l).length))):=by
 show(match dJ env n f x,dJ env n f y,some (AV.b true) with
  |some (.m (some id)),some k,some v=>
   if Nat.blt id 0 then none else
   match J.get id with
   |some (.map es an)=>match keyEq aa k k with
    |none=>none
    |some _=>match qN aa k v es with
    |some (some es)=>some (bZ.val ei (J.set id (.map es an)))
    |some none=>some (bZ.val ei (J.set id (.map (es++[(k,v,an)]) (an+1))))
    |none=>none
   |_=>none
  |_,_,_=>none)=_
 rw[h1,h2];show(if Nat.blt dK 0 then none else
   match J.get dK with
   |some (.map es an)=>(match keyEq aa (cF k) (cF k) with
    |none=>none
    |some _=>match qN aa (cF k) (.b true) es with
    |some (some es)=>some (bZ.val ei (J.set dK (.map es an)))
    |some none=>some (bZ.val ei (J.set dK (.map (es++[(cF k,AV.b true,an)]) (an+1))))
    |none=>none)
   |_=>none)=_
 rw[if_neg (by simp[Nat.blt,Nat.ble]),hm];show(match keyEq aa (cF k) (cF k) with
    |none=>none
    |some _=>match qN aa (cF k) (.b true) (setE cF 0 l) with
    |some (some es)=>some (bZ.val ei (J.set dK (.map es l.length)))
    |some none=>some (bZ.val ei (J.set dK (.map (setE cF 0 l++[(cF k,AV.b true,l.length)]) (l.length+1))))
    |none=>none)=_
 rw[ay,a1o ay];unfold Ck;by_cases gn:k∈l
 ·rw[if_pos gn,if_pos gn]
 ·rw[if_neg gn,if_neg gn,a1n,dv,NS];rfl
def a1p:∀(l:List α) (i c:Nat),i+l.length<=c->cD (λ(e:AV×AV×Nat)=>Nat.blt e.2.2 c) (setE cF i l)=true
 |[],_,_,_=>rfl
 |x::l,i,c,h=>by
  show cond (Nat.blt i c) (cD _ (setE cF (i+1) l)) false=true;have h:i+(l.length+1)<=c:=h;rw[show Nat.blt i c=true from iR U,cond_true];exact a1p l (i+1) c U
def im(seen:List Nat):Nat->List α->List (α×Nat)
 |_,[]=>[]
 |i,k::bC=>cond (oY i seen) (im seen (i+1) bC) ((k,i)::im seen (i+1) bC)
def a1q(seen:List Nat):∀(l:List α) (i:Nat),mS seen (setE cF i l)=(im seen i l).map λp=>(cF p.1,.b true,p.2)
 |[],_=>rfl
 |x::l,i=>by
  show cond (oY i seen) (mS seen (setE cF (i+1) l)) ((cF x,.b true,i)::mS seen (setE cF (i+1) l))=_;rw[a1q seen l (i+1),im];cases oY i seen<;>rfl
def QT(n:Nat)(j:Nat):∀(l:List Nat),oY n (l++[j])=(oY n l||Nat.beq j n)
 |[]=>by show cond (Nat.beq j n) true false=_;cases Nat.beq j n<;>rfl
 |x::l=>by
  show cond (Nat.beq x n) true (oY n (l++[j]))=(cond (Nat.beq x n) true (oY n l)||Nat.beq j n);rw[QT n j l];cases Nat.beq x n<;>rfl
def a1r:∀(l:List α) (i:Nat),(im [] i l).map Prod.fst=l
 |[],_=>rfl
 |x::l,i=>by
  show x::(im [] (i+1) l).map Prod.fst=_;rw[a1r l (i+1)]
def KF(seen:List Nat):∀(l:List α) (i:Nat) (p:α×Nat),p∈im seen i l->i<=p.2
 |[],_,_,h=>by simp[im] at h
 |x::l,i,p,h=>by
  rw[im] at h;cases hm:oY i seen with
  |true=>rw[hm] at h;have:=KF seen l (i+1) p h;omega
  |false=>
   rw[hm,cond_false] at h;rcases dB.1 h with rfl|h
   ·exact bs _
   ·have:=KF seen l (i+1) p h;omega
def a1s(seen:List Nat)(j:Nat):∀(l:List α) (i:Nat),j<i->im (seen++[j]) i l=im seen i l
 |[],_,_=>rfl
 |x::l,i,h=>by
  rw[im,im,QT,a1s seen j l (i+1) U];have:Nat.beq j i=false:=by
   cases hb:Nat.beq j i with
   |false=>rfl
   |true=>have:=gb hb;omega
  rw[this,P7]
def QU(seen:List Nat):∀(l:List α) (i:Nat) (p:α×Nat),p∈im seen i l->(p::im (seen++[p.2]) i l).Perm (im seen i l)
 |[],_,_,h=>by simp[im] at h
 |x::l,i,p,h=>by
  rw[im] at h ⊢;rw[im,QT];cases hm:oY i seen with
  |true=>
   rw[hm,cond_true] at h;rw[uk,cond_true,cond_true];exact QU seen l (i+1) p h
  |false=>
   rw[hm,cond_false] at h;rw[Bool.false_or,cond_false];rcases dB.1 h with rfl|h
   ·rw[gQ,cond_true,a1s seen i l (i+1) U]
   ·have m0:=KF seen l (i+1) p h;have:Nat.beq p.2 i=false:=by
     cases hb:Nat.beq p.2 i with
     |false=>rfl
     |true=>have:=gb hb;omega
    rw[this,cond_false];exact(List.Perm.swap _ _ _).trans ((QU seen l (i+1) p h).cons _)
def a1t(seen:List Nat):∀(l:List α) (i:Nat) (p:α×Nat),p∈im seen i l->pN p.2 (setE cF i l)=some (cF p.1,.b true,p.2)
 |[],_,_,h=>by simp[im] at h
 |x::l,i,p,h=>by
  rw[im] at h;show cond (Nat.beq i p.2) (some (cF x,AV.b true,i)) (pN p.2 (setE cF (i+1) l))=_;have key:∀h:p∈im seen (i+1) l,cond (Nat.beq i p.2) (some (cF x,AV.b true,i)) (pN p.2 (setE cF (i+1) l))=some (cF p.1,.b true,p.2):=λh=>by
   have m0:=KF seen l (i+1) p h;have:Nat.beq i p.2=false:=by
    cases hb:Nat.beq i p.2 with
    |false=>rfl
    |true=>have:=gb hb;omega
   rw[this,cond_false];exact a1t seen l (i+1) p h
  cases hm:oY i seen with
  |true=>rw[hm,cond_true] at h;exact key h
  |false=>
   rw[hm,cond_false] at h;rcases dB.1 h with rfl|h
   ·rw[gQ];rfl
   ·exact key h
def a1u(j:Nat):∀(l:List Nat),qO (l++[j])=some j
 |[]=>rfl
 |x::l=>by
  show(match qO (l++[j]) with|none=>some x|some y=>some y)=_;rw[a1u j l]
section
variable {env:Env}{aR:Option Nat}{D:List (Nat ⊕ (AV×List AV))}{n:Nat}{f:Nat->AV}{J:ae}{Q:dZ}
def aK.mkMap{d:Nat}{wn:List Nat}{ops:List a4}(k:Nat)(hn:J.next=k)(hd:Nat.blt d n=true)
  (h:∀ai:ae,ai.next=k+1->ai.get k=some (.map [] 0)->(∀i o,J.get i=some o->ai.get i=some o)->dC env aR D n ops (dd f d (.m (some k))) ai Q):dC env aR D n (⟨some d,.mkMap,none,wn⟩::ops) f J Q:=by
 subst hn;exact aK.val (v:=.m (some J.next)) (ai:=J.push (.map [] 0)) hd I I (h (J.push (.map [] 0)) I (ae.jL _) λi o ho=>by rw[ae.gD trivial _ (ae.bt ho)];exact ho)
def aK.QS(ay:∀a b,keyEq aa (cF a) (cF b)=some (decide (a=b))){wn:List Nat}{ops:List a4}{x y:aJ}{dK:Nat}{k:α}{l:List α}(hm:J.get dK=some (.map (setE cF 0 l) l.length))(h1:dJ env n f x=some (.m (some dK)))(h2:dJ env n f y=some (cF k))
  (h:∀ai:ae,ai.next=J.next->ai.get dK=some (.map (setE cF 0 (Ck k l)) (Ck k l).length)->(∀i o,i≠dK->J.get i=some o->ai.get i=some o)->dC env aR D n ops f ai Q):dC env aR D n (⟨none,.ki aa x y (.c (.b true)),none,wn⟩::ops) f J Q:=
 aK.w8 I (Go.Lyc.QS ay h1 h2 hm) (h _ I (jS hm).1 (jS hm).2)
def aK.c0h{d:Nat}{wn:List Nat}{ops:List a4}{x:aJ}{dK c:Nat}{es:List (AV×AV×Nat)}(k:Nat)(hn:J.next=k)(hm:J.get dK=some (.map es c))(hd:Nat.blt d n=true)(h1:dJ env n f x=some (.m (some dK)))
  (h:∀ai:ae,ai.next=k+1->ai.get k=some (.mapIter (some dK) c [] c)->(∀i o,J.get i=some o->ai.get i=some o)->dC env aR D n ops (dd f d (.p (some (k,0)))) ai Q):dC env aR D n (⟨some d,.rangeMap x,none,wn⟩::ops) f J Q:=by
 subst hn;refine aK.val (v:=.p (some (J.next,0))) (ai:=J.push (.mapIter (some dK) c [] c)) hd I ?_ (h (J.push (.mapIter (some dK) c [] c)) I (ae.jL _) λi o ho=>by rw[ae.gD trivial _ (ae.bt ho)];exact ho);show(match dJ env n f x with
  |some (.m none)=>some (bZ.val (j2 J.next 0) (J.push (.mapIter none 0 [] 0)))
  |some (.m (some id))=>match J.get id with
   |some (.map _ an)=>some (bZ.val (j2 J.next 0) (J.push (.mapIter (some id) an [] an)))
   |_=>none
  |_=>none)=_
 rw[h1];show(match J.get dK with
   |some (.map _ an)=>some (bZ.val (j2 J.next 0) (J.push (.mapIter (some dK) an [] an)))
   |_=>none)=_
 rw[hm];rfl
def aK.c0i{d:Nat}{wn:List Nat}{ops:List a4}{x:aJ}{dK it:Nat}{l:List α}{seen:List Nat}(m2:J.get it=some (.mapIter (some dK) l.length seen l.length))(hm:J.get dK=some (.map (setE cF 0 l) l.length))(hd:Nat.blt d n=true)(h1:dJ env n f x=some (.p (some (it,0))))
  (h0:im seen 0 l=[]->dC env aR D n ops (dd f d (.a0 [.b false])) J Q)
  (ao:∀p∈im seen 0 l,∀ai:ae,ai.next=J.next->ai.get it=some (.mapIter (some dK) l.length (seen++[p.2]) l.length)->(∀i o,i≠it->J.get i=some o->ai.get i=some o)->dC env aR D n ops (dd f d (.a0 [.b true,cF p.1,.b true])) ai Q):dC env aR D n (⟨some d,.tq x,none,wn⟩::ops) f J Q:=by
 have e:opx 0 (dJ env n f) J (.tq x)=(match mS seen (setE cF 0 l) with
       |[]=>some (bZ.val (.a0 [.b false]) J)
       |cu=>some (bZ.j1 (cu.map λ(e:AV×AV×Nat)=>(.a0 [.b true,e.1,e.2.1],J.set it (.mapIter (some dK) l.length (seen++[e.2.2]) l.length))))):=by
  show(match dJ env n f x with
   |some (.p (some (it,0)))=>if Nat.blt it 0 then none else
    match J.get it with
    |some (.mapIter none _ _ _)=>some (bZ.val (.a0 [.b false]) J)
    |some (.mapIter (some id) since seen g7)=>match J.get id with
     |some (.map es an)=>
      cond (Nat.beq an since&&Nat.beq g7 since&&cD (λ(e:AV×AV×Nat)=>Nat.blt e.2.2 since) es)
       (match mS seen es with
        |[]=>some (bZ.val (.a0 [.b false]) J)
        |l=>some (bZ.j1 (l.map λ(e:AV×AV×Nat)=>(.a0 [.b true,e.1,e.2.1],J.set it (.mapIter (some id) since (seen++[e.2.2]) an))))) none
     |_=>none
    |_=>none
   |_=>none)=_
  rw[h1];show(if Nat.blt it 0 then none else
    match J.get it with
    |some (.mapIter none _ _ _)=>some (bZ.val (.a0 [.b false]) J)
    |some (.mapIter (some id) since seen g7)=>match J.get id with
     |some (.map es an)=>
      cond (Nat.beq an since&&Nat.beq g7 since&&cD (λ(e:AV×AV×Nat)=>Nat.blt e.2.2 since) es)
       (match mS seen es with
        |[]=>some (bZ.val (.a0 [.b false]) J)
        |l=>some (bZ.j1 (l.map λ(e:AV×AV×Nat)=>(.a0 [.b true,e.1,e.2.1],J.set it (.mapIter (some id) since (seen++[e.2.2]) an))))) none
     |_=>none
    |_=>none)=_
  rw[if_neg (by simp[Nat.blt,Nat.ble]),m2];show(match J.get dK with
     |some (.map es an)=>
      cond (Nat.beq an l.length&&Nat.beq l.length l.length&&cD (λ(e:AV×AV×Nat)=>Nat.blt e.2.2 l.length) es)
       (match mS seen es with
        |[]=>some (bZ.val (.a0 [.b false]) J)
        |cu=>some (bZ.j1 (cu.map λ(e:AV×AV×Nat)=>(.a0 [.b true,e.1,e.2.1],J.set it (.mapIter (some dK) l.length (seen++[e.2.2]) an))))) none
     |_=>none)=_
  rw[hm];show cond (Nat.beq l.length l.length&&Nat.beq l.length l.length&&cD (λ(e:AV×AV×Nat)=>Nat.blt e.2.2 l.length) (setE cF 0 l)) _ none=_;rw[gQ,a1p l 0 l.length U];rfl
 rw[a1q] at e;cases hl:im seen 0 l with
 |nil=>
  rw[hl] at e;exact aK.val hd I e (h0 hl)
 |cons p0 t=>
  rw[hl] at e;refine aK.j1 hd I e aF λq aV=>?_;rw[Ax] at aV;obtain⟨p,aw,rfl⟩:=ti.1 aV;rw[<-hl] at aw;exact ao p aw _ I (jS m2).1 (jS m2).2
def aK.c0j{d:Nat}{wn:List Nat}{ops:List a4}{x:aJ}{dK it:Nat}{l:List α}{seen:List Nat}{p:α×Nat}(aw:p∈im seen 0 l)(m2:J.get it=some (.mapIter (some dK) l.length (seen++[p.2]) l.length))(hm:J.get dK=some (.map (setE cF 0 l) l.length))(hd:Nat.blt d n=true)(h1:dJ env n f x=some (.p (some (it,0))))
  (h:dC env aR D n ops (dd f d (.a0 [cF p.1,.b true])) J Q):dC env aR D n (⟨some d,.entry x,none,wn⟩::ops) f J Q:=by
 refine aK.val hd I ?_ h;show(match dJ env n f x with
  |some (.p (some (it,0)))=>match J.get it with
   |some (.mapIter (some id) since seen g7)=>match J.get id with
    |some (.map es an)=>cond (Nat.beq an g7) (match qO seen with
     |some b=>match pN b es with
      |some e=>some (bZ.val (.a0 [e.1,e.2.1]) J)
      |none=>none
     |none=>none) none
    |_=>none
   |_=>none
  |_=>none)=_
 rw[h1];show(match J.get it with
   |some (.mapIter (some id) since seen g7)=>match J.get id with
    |some (.map es an)=>cond (Nat.beq an g7) (match qO seen with
     |some b=>match pN b es with
      |some e=>some (bZ.val (.a0 [e.1,e.2.1]) J)
      |none=>none
     |none=>none) none
    |_=>none
   |_=>none)=_
 rw[m2];show(match J.get dK with
    |some (.map es an)=>cond (Nat.beq an l.length) (match qO (seen++[p.2]) with
     |some b=>match pN b es with
      |some e=>some (bZ.val (.a0 [e.1,e.2.1]) J)
      |none=>none
     |none=>none) none
    |_=>none)=_
 rw[hm];show cond (Nat.beq l.length l.length) (match qO (seen++[p.2]) with
     |some b=>match pN b (setE cF 0 l) with
      |some e=>some (bZ.val (.a0 [e.1,e.2.1]) J)
      |none=>none
     |none=>none) none=_
 rw[gQ,cond_true,a1u];show(match pN p.2 (setE cF 0 l) with
      |some e=>some (bZ.val (.a0 [e.1,e.2.1]) J)
      |none=>none)=_
 rw[a1t seen l 0 p aw]
end
end
structure QV(B:Nat)(W:Nat->Prop)(J ai:ae):Prop where
 next:J.next<=ai.next
 old:∀i o,i<B->¬W i->J.get i=some o->ai.get i=some o
 it:∀i a b c d,J.get i=some (.mapIter a b c d)->ai.get i=some (.mapIter a b c d)
abbrev c0k(J ai:ae):Prop:=J.next<=ai.next/\∀i o,(∀a b c d,o≠ .mapIter a b c d)->J.get i=some o->ai.get i=some o
def Acc.c0l{J ai:ae}{aa:Option Nat}{v:AV}{xs:List AV}(h:Acc J aa v xs)(ay:∀i c,v.at? =some i->J.get i=some (.cells c)->ai.get i=some (.cells c)):Acc ai aa v xs:=by
 cases h with
 |nil=>exact .nil
 |al o x xs h ab=>exact .al o x xs (ay _ _ I h) ab
def Acc.c0m{J:ae}{aa:Option Nat}{v:AV}{xs:List AV}(h:Acc J aa v xs){i:Nat}(hi:v.at? =some i):∃c,J.get i=some (.cells c):=by
 cases h with
 |nil=>cases hi
 |al o x xs h ab=>cases hi;exact⟨_,h⟩
def c0n{env:Env}(hh:bk env pj qG){W:Nat->Prop}{B dK cA:Nat}{bC:List fE}(eV:List fE->ae->Prop)(aW:∀c J ai,eV c J->c0k J ai->eV c ai)(g_:AV)
  (hy:∀k c J,B<=J.next->c.length<bC.length->eV c J->bE env 0 g_ [dz k] J (λr ai=>r= .ok (.b true)/\eV (c++[k]) ai/\QV B W J ai)) (J:ae) (ca:B<=J.next) (c0o:dK<B) (QW:¬W dK)
  (hm:J.get dK=some (.map (setE dz 0 bC) bC.length)) (gO:J.get cA=some (.cells [.m (some dK)])) (h0:eV [] J):
  bE env 0 (.f (.func pj) [] [.p (some (cA,0))]) [g_] J (λr ai=>r= .ok (.a0 [])/\∃c,c.Perm bC/\eV c ai/\J.next<=ai.next/\∀i o,i<B->¬W i->J.get i=some o->ai.get i=some o):=by
 refine bE.pe hh.e hh.p hh.f I I I ?_;refine ak.seq (ak.region ?_);refine aK.aA (v:=.m (some dK)) gO I I I I ?_;generalize ay:J.next=k at ca;refine aK.c0h k ay hm I I λb8 cP m2 bx=>?_;refine aK.nil (ak.block ?_);refine ak.loop (λm f τ=>k+1<=τ.next/\∃seen c,m=(im seen 0 bC).length/\(c++(im seen 0 bC).map Prod.fst).Perm bC/\τ.get k=some (.mapIter (some dK) bC.length seen bC.length)/\eV c τ/\(∀i o,i<B->¬W i->J.get i=some o->τ.get i=some o)∧
  sat [(0,g_),(5,.p (some (k,0)))] f) ?_ (im [] 0 bC).length ⟨U,[],[],rfl,by rw[a1r];exact .refl _,m2,aW _ _ _ h0 ⟨U,λi o _ ho=>bx i o ho⟩,λi o _ _ ho=>bx i o ho,rfl,rfl,trivial⟩
 clear m2 cP bx h0;intro m g τ ⟨hn,seen,c,wV,zb,m2,a1v,hold,hL⟩;refine ak.norm _ hL λg=>?_;clear hL;have n1:=hold dK _ c0o QW hm;refine ak.seq (ak.region ?_);refine aK.c0i m2 n1 I I (λDK=>?_) (λp aw cT c8 a1w bb=>?_)
 ·refine aK.go I I I I ?_;refine aK.nil (ak.seq ?_);refine ak.jg I (λh=>by cases h) (λ_=>?_);refine ak.exit ?_;rw[DK,B2,iL] at zb;exact⟨.inr I,rfl,c,zb,a1v,U,hold⟩
 ·refine aK.go I I I I ?_;refine aK.nil (ak.seq ?_);refine ak.jg I (λ_=>?_) (λh=>by cases h);have md:dK≠k:=by omega
  have zV:=bb _ _ md n1;refine ak.skip (ak.block (ak.seq (ak.region ?_)));refine aK.c0j aw a1w zV I I ?_;refine aK.go I I I I ?_;refine aK.var (v:=dz p.1) (c:=[.s p.1.1,ah p.1.2]) τ.next c8 I I I I I I λhX er h3 k3=>?_;refine aK.nil (ak.seq (ak.region ?_));refine aK.go I I I I ?_;refine aK.aA (v:=dz p.1) h3 I I I I ?_;have a1x:=QU seen bC 0 p aw;have hlen:=zb.length_eq;have c0p:=a1x.length_eq;rw[dv,uV] at hlen;rw[CZ] at c0p;have P9:eV c hX:=aW _ _ _ (aW _ _ _ a1v ⟨U,λi o a7 ho=>bb i o (λe=>by subst e;rw[m2] at ho;cases ho;exact a7 _ _ _ _ I) ho⟩) ⟨U,λi o _ ho=>k3 i o ho⟩;refine aK.jh I I I (hy p.1 c hX U U P9) λr KG ⟨iB,c0q,QX⟩=>⟨_,iB,?_⟩
  refine aK.go I I I I ?_;refine aK.nil (ak.jg I (λh=>by cases h) (λ_=>?_));have e_:=QX.next;refine ak.skip ⟨(im (seen++[p.2]) 0 bC).length,U,U,seen++[p.2],c++[p.1],rfl,?_,QX.it _ _ _ _ _ (k3 _ _ a1w),c0q,λi o hi hw ho=>QX.old i o hi hw (k3 i o (bb i o U (hold i o hi hw ho))),rfl,rfl,trivial⟩;refine List.Perm.trans ?_ zb;rw[iE];exact(a1x.map Prod.fst).append_left c
def c0r{env:Env}(hh:bk env EL zy)(dK:Nat)(J:ae)(k:Nat)(ay:J.next=k):bE env 0 (.f (.func EL) [] []) [.m (some dK)] J (λr ai=>r= .ok (.f (.func pj) [] [.p (some (k,0))])/\ai.next=k+1/\ai.get k=some (.cells [.m (some dK)])/\∀i o,J.get i=some o->ai.get i=some o):=by
 refine bE.code hh.e hh.p hh.f I I I I ?_;refine ak.seq (ak.region (aK.box (v:=.m (some dK)) (c:=[.m (some dK)]) k ay I I I I I λτ hn h1 bx=>?_));refine IZ ?_;exact ak.ret ⟨rfl,rfl,hn,h1,bx⟩
def dQ.keys{env:Env}{D:List (Nat ⊕ (AV×List AV))}{n:Nat}{f:Nat->AV}{J:ae}{Q:dZ}(gF:bk env pj qG){pd:aJ}{p:Nat}{fM b:bF}{dK cA:Nat}{bC:List fE}(W:Nat->Prop)(S:List fE->ae->Prop)(k:Nat)(ay:J.next=k)
  (nE:dJ env n f pd=some (.f (.func pj) [] [.p (some (cA,0))])) (aw:Nat.blt p n=true) (hm:J.get dK=some (.map (setE dz 0 bC) bC.length)) (gO:J.get cA=some (.cells [.m (some dK)])) (hW:∀i,W i->i<k) (QW:¬W dK)
  (cQ:∀c τ aB,S c τ->τ.next<=aB.next->(∀i o,i≠k+1->(∀a b c d,o≠ .mapIter a b c d)->τ.get i=some o->aB.get i=some o)->S c aB) (h0:S [] J)
  (E8:∀y c τ,k+2<=τ.next->c.length<bC.length->S c τ->bL env (some (k+1)) [] n fM (dd f p (dz y)) τ (λx f1 ec=>x= .normal/\xO τ ec∧
   ∀a9,a9.next=ec.next->(∀i o,i≠k+1->ec.get i=some o->a9.get i=some o)->bL env (some (k+1)) [] n b f1 a9 (λx _ bu=>x= .normal/\S (c++[y]) bu/\QV (k+2) W a9 bu)))
  (E9:∀c τ,c.Perm bC->S c τ->k+2<=τ.next->τ.get k=some .eE->(∀i o,¬W i->J.get i=some o->τ.get i=some o)->Q .normal f τ):dQ env D (.inl k::D) n (.rangeFunc pd [p] fM b) f J Q:=by
 subst ay;refine dQ.range nE gF.e λal hc=>?_;generalize ay:J.next=k at *;obtain⟨cT,a5,c8,pb,jO,bb⟩:∃cT:ae,(J.push .eE).push (.loop .ready none al [p] fM b k)=cT/\cT.next=k+2/\cT.get (k+1)=some (.loop .ready none al [p] fM b k)/\cT.get k=some .eE/\∀i o,J.get i=some o->cT.get i=some o:=by
  refine⟨_,rfl,by show J.next+1+1=_;omega,?_,?_,λi o ho=>?_⟩
  ·have:=ae.jL (J:=J.push .eE) (.loop .ready none al [p] fM b k);rwa[show(J.push .eE).next=k+1 from by show J.next+1=_;omega] at this
  ·rw[ae.gD trivial _ (show k<(J.push .eE).next from by show k<J.next+1;omega)];have:=ae.jL (J:=J) .eE;rwa[ay] at this
  ·have:=ae.bt ho;rw[ae.gD trivial _ (show i<(J.push .eE).next from by show i<J.next+1;omega),ae.gD trivial _ this];exact ho
 rw[a5];clear a5;have md:=ae.bt hm;have rp:¬W (k+1):=λh=>by have:=hW _ h;omega
 have nJ:¬W k:=λh=>by have:=hW _ h;omega
 refine(c0n gF (W:=λi=>W i\/i=k+1) (B:=k+2) (dK:=dK) (cA:=cA) (bC:=bC)
  (λc τ=>S c τ/\τ.get (k+1)=some (.loop .ready none al [p] fM b k)) ?_ (.f (.yield (k+1)) [] []) ?_ cT U U (λh=>h.elim QW U) (bb _ _ hm) (bb _ _ gO) ⟨cQ _ _ _ h0 U λi o _ _ ho=>bb i o ho,pb⟩).mono ?_
 ·rintro c τ aB ⟨aX,bc⟩ ⟨eF,dE⟩;exact⟨cQ _ _ _ aX eF λi o _ h ho=>dE i o h ho,dE _ _ (by intros;simp) bc⟩
 ·rintro y c τ ca hlt ⟨aX,bc⟩;refine(bE.round (ag:=λai=>(S (c++[y]) ai/\ai.get (k+1)=some (.loop .ready none al [p] fM b k))/\QV (k+2) (λi=>W i\/i=k+1) τ ai) (f:=f) (n:=n) bc hc (by show cond (Nat.blt p n) _ _=true;rw[aw];rfl) I ?_).mono λr ai h=>h;refine(E8 y c τ ca hlt aX).mono λx f1 ec ⟨aL,jE,h1⟩=>?_;have jM:=jE.2 _ _ bc;have gW:=jS (bX:=.loop .busy none al [p] fM b k) jM;refine⟨aL,jM,(h1 (ec.set (k+1) (.loop .busy none al [p] fM b k)) I (λi o hi ho=>gW.2 i o hi ho)).mono λx _ bu ⟨a5,uo,sJ⟩=>?_⟩;have vS:=sJ.old _ _ U rp gW.1;have qm:=jS (bX:=.loop .ready none al [p] fM b k) vS;have cP:=jE.1;have er:ec.next<=bu.next:=sJ.next;have a7:∀ {i:Nat} {a fR bD jt},ec.get i=some (.mapIter a fR bD jt)->i≠k+1:=λh e=>by subst e;rw[jM] at h;cases h
  have c0s:∀ {i:Nat} {a fR bD jt},bu.get i=some (.mapIter a fR bD jt)->i≠k+1:=λh e=>by subst e;rw[vS] at h;cases h
  refine⟨a5,vS,⟨cQ _ _ _ uo (bs _) λi o hi _ ho=>qm.2 i o hi ho,qm.1⟩,by show τ.next<=bu.next;omega,λi o hi hw ho=>?_,λi a fR bD jt ho=>?_⟩
  ·have QY:i≠k+1:=λe=>hw (.inr e);exact qm.2 i o QY (sJ.old i o hi (λe=>hw (.inl e)) (gW.2 i o QY (jE.2 i o ho)))
  ·have h1:=jE.2 _ _ ho;have h3:=sJ.it _ _ _ _ _ (gW.2 _ _ (a7 h1) h1);exact qm.2 _ _ (c0s h3) h3
 ·rintro r τ ⟨aL,c,ab,⟨aX,bc⟩,eF,dE⟩;have gW:=jS (bX:=.loop .exhausted none al [p] fM b k) bc;refine⟨_,.ready,aL,bc,aF,E9 c _ ab (cQ _ _ _ aX (bs _) λi o hi _ ho=>gW.2 i o hi ho) (by show k+2<=τ.next;omega) (gW.2 _ _ U (dE _ _ U (λh=>h.elim nJ U) jO)) λi o hi ho=>?_⟩;have:=ae.bt ho;exact gW.2 i o U (dE i o U (λh=>h.elim hi U) (bb i o ho))
def c0t{env:Env}(hh:bk env zw b8v)(gF:bk env pj qG){dK cA:Nat}{bC:List fE}(FA:bC.length<=1000000)(J:ae)(hm:J.get dK=some (.map (setE dz 0 bC) bC.length))(gO:J.get cA=some (.cells [.m (some dK)])):
  bE env 0 (.f (.func zw) [] []) [.af,.f (.func pj) [] [.p (some (cA,0))]] J (λr ai=>∃(v:AV) (c:List fE),r= .ok v/\c.Perm bC/\Acc ai (some 2) v (c.map dz)/\(∀a,v.at? =some a->J.next<=a)/\xO J ai):=by
 generalize ay:J.next=k;refine bE.O4 (d:=k+1) hh.e hh.p hh.f I I I I ?_;refine dQ.l6 (ak.region (aK.box (v:=.af) (c:=[.af]) k ay I I I I I λb8 cP h1 bx=>?_));refine ka ?_;refine⟨rfl,dQ.Bz (dQ.l6 (ak.region ?_))⟩;refine ka ?_;refine⟨rfl,dQ.block ?_⟩;have md:=ae.bt hm;refine dQ.keys gF (λi=>i=k) (λc τ=>∃v,τ.get k=some (.cells [v])/\Acc τ (some 2) v (c.map dz)/\∀a,v.at? =some a->k+3<=a/\a<τ.next) (k+1) cP I I (bx _ _ hm) (bx _ _ gO) (λi hi=>by omega) U ?_ ⟨.af,h1,.nil,λa h=>by cases h⟩ ?_ ?_
 ·rintro c τ aB ⟨v,ew,eJ,kt⟩ eF dE;exact⟨v,dE _ _ U (by intros;simp) ew,eJ.c0l λi c hi h=>dE _ _ (by have:=kt i hi;omega) (by intros;simp) h,λa h=>by have:=kt a h;omega⟩
 ·rintro y c τ ca hlt ⟨v,ew,eJ,kt⟩;refine ak.region ?_;refine aK.var (v:=dz y) (c:=[.s y.1,ah y.2]) τ.next I I I I I I I λec db bU nh=>?_;refine aK.nil ⟨rfl,⟨U,nh⟩,λa9 o_ kl=>?_⟩;have qt:∀i o,i≠k+2->τ.get i=some o->a9.get i=some o:=λi o hi ho=>kl i o hi (nh i o ho);have FB:=qt _ _ U ew;have hA:=eJ.aP λi o hi ho=>qt i o (by have:=kt i hi;omega) ho;refine ak.block (ak.region ?_);refine aK.aA (v:=v) FB I I I hA.a1l ?_;refine aK.aA (v:=dz y) (kl _ _ U bU) I I I I ?_;refine aK.b5s (y:=dz y) hA I I I (by rw[uV];omega) I I λbR bu kO fS q9 pr=>?_;refine aK.store (bD:=[bR]) (pr _ _ (λe=>by have:=kt _ e;omega) FB) I I I kO.lP (by show storeCells _ 0 bR.cells=_;rw[IS kO.lP];rfl) λcm QB cX nP=>?_;refine aK.nil ⟨rfl,⟨bR,cX,?_,λa e=>by rw[fS] at e;cases e;omega⟩,U,λi o hi hw ho=>nP i o hw (pr i o (λe=>by have:=kt _ e;omega) ho),λi a fR bD jt ho=>?_⟩
  ·rw[hQ];exact kO.aP λi o hi ho=>by
    rw[fS] at hi;cases hi;exact nP _ _ U ho
  ·refine nP _ _ (λe=>by subst e;rw[FB] at ho;cases ho) (pr _ _ (λe=>?_) ho);obtain⟨ts,iu⟩:=hA.c0m e;rw[iu] at ho;cases ho
 ·rintro c τ ab ⟨v,ew,eJ,kt⟩ hn hd hold;refine⟨rfl,rfl,?_⟩;refine ak.seq (ak.region ?_);refine aK.aA (v:=v) ew I I I eJ.a1l ?_;refine ka ?_;have gW:=jS (bX:=AO.dead) hd;refine ak.ret ⟨rfl,hd,v,c,rfl,ab,eJ.aP λi o hi ho=>gW.2 i o (by have:=kt i hi;omega) ho,λa h=>by have:=kt a h;omega,by show J.next<=τ.next;omega,λi o ho=>?_⟩;have:=ae.bt ho;exact gW.2 i o U (hold i o U (bx i o ho))
def a1y{aa:Option Nat}:∀ {xs:List AV} (j:Nat),(∀x∈xs,conf aa x=true)->(xs.flatMap AV.cells).take (j*shN aa)=(xs.take j).flatMap AV.cells
 |xs,0,_=>by rw[DH];rfl
 |[],j+1,_=>by simp
 |x::xs,j+1,h=>by
  have e:(j+1)*shN aa=x.cells.length+j*shN aa:=by rw[KE (h x aF),G_,qK,uX]
  rw[jY,e,List.take_length_add_append,a1y j λy hy=>h y (C1 _ hy)];rfl
def a1z{aa:Option Nat}:∀ {xs:List AV},(∀x∈xs,conf aa x=true)->(xs.flatMap AV.cells).length=xs.length*shN aa
 |[],_=>by simp
 |x::xs,h=>by
  rw[jY,dv,KE (h x aF),a1z λy hy=>h y (C1 _ hy),CZ,G_,qK,uX]
def c0u{aa:Option Nat}{xs:List AV}{j:Nat}{y:AV}(ax:j<xs.length)(h:∀x∈xs,conf aa x=true)(hy:conf aa y=true):storeCells (xs.flatMap AV.cells) (0+j*shN aa) y.cells=some ((xs.set j y).flatMap AV.cells):=by
 have aL:0+j*shN aa+y.cells.length=(j+1)*shN aa:=by rw[KE hy,G_,qK,NS]
 unfold storeCells;rw[aL,NS,if_pos (iR (by rw[a1z h];exact jX _ U)),a1y j h,QQ (j+1) h,P6,if_pos ax,gN,jY]
section
variable {env:Env}{aR:Option Nat}{D:List (Nat ⊕ (AV×List AV))}{n:Nat}{f:Nat->AV}{J:ae}{Q:dZ}
def aK.a1A{aa:Option Nat}{a x:aJ}{g:Option (Nat×Bool)}{wn:List Nat}{ops:List a4}{xs:List AV}{v y:AV}{j o:Nat}(hA:Acc J aa v xs)(fS:v.at? =some o)(ax:j<xs.length)(hy:conf aa y=true)(hw:gV g n f=true)(h1:dJ env n f a=some (.p (some (o,0+j*shN aa))))(h2:dJ env n f x=some y)
  (h:∀ai:ae,ai.next=J.next->Acc ai aa v (xs.set j y)->(∀i bX,i≠o->J.get i=some bX->ai.get i=some bX)->dC env aR D n ops f ai Q):dC env aR D n (⟨none,.store aa a x,g,wn⟩::ops) f J Q:=by
 obtain⟨bX,au,ho,ab⟩:=hA.inv U;subst au;cases fS;refine aK.store ho hw h1 h2 hy (c0u ax ab hy) λai qe h' dF=>h ai qe ?_ dF;have:=Acc.of (J:=ai) (aa:=aa) (o:=o) (xs:=xs.set j y) (by rw[ib];omega) h' (λz a6=>by
  rcases ql a6 with a6|a6
  ·exact ab z a6
  ·rw[a6];exact hy)
 rwa[ib] at this
end
def FC(a b:Nat):Int:=if a<b then-1 else if b<a then 1 else 0
def vZ(a b:List Nat):Int:=cond (ix a b) (-1) (cond (eqL a b) 0 1)
def qu(a b:fE):Int:=if vZ a.1 b.1=0 then FC a.2 b.2 else vZ a.1 b.1
def swap_perm{l:List fE}{j:Nat}(ax:j+1<l.length):((l.set (j+1) l[j]).set j l[j+1]).Perm l:=by
 exact List.set_set_perm (i:=j+1) (j:=j) U U
section
variable {b:bT}{K:Nat->List AV->AV->Prop}
def QZ{ar:aJ->Option AV}{J:ae}{x:aJ}{k:IntKind}{m:Int}(h:ar x=some (.i k m))(bb:IntKind):opx 0 ar J (.conv bb x)=some (.val (.i bb (wrapN bb m)) J):=by
 show(match ar x with|some (.i _ n)=>some (bZ.val (.i bb (wrapN bb n)) J)|some (.hv _ d j)=>(match bb with| .i64=>some (.val (.hv .i64 d j) J)|_=>none)|_=>none)=_;rw[h]
def c0v(hh:bk (b.aM K) BP xn)(ha:bk (b.aM K) zw b8v)(gF:bk (b.aM K) pj qG){dK cA:Nat}{bC:List fE}(FA:bC.length<=1000000)(J:ae)(hm:J.get dK=some (.map (setE dz 0 bC) bC.length))(gO:J.get cA=some (.cells [.m (some dK)])):
  bE (b.aM K) 0 (.f (.func BP) [] []) [.f (.func pj) [] [.p (some (cA,0))]] J (λr ai=>∃(v:AV) (c:List fE),r= .ok v/\c.Perm bC/\Acc ai (some 2) v (c.map dz)/\(∀a,v.at? =some a->J.next<=a)/\xO J ai):=by
 refine bE.code hh.e hh.p hh.f I I I I ?_;refine ak.seq (ak.region ?_);refine aK.go I I I I ?_;refine aK.nil (ak.seq (ak.region ?_));refine aK.go I I I I ?_;refine aK.jh I I I (c0t ha gF FA J hm gO) λr cT ⟨v,c,aL,h1,h2,h3,aO⟩=>⟨_,aL,?_⟩
 refine aK.go I I I I ?_;exact aK.nil (ak.ret ⟨rfl,_,c,rfl,h1,h2,h3,aO⟩)
end
def Q0(b:bT)(K:Nat->List AV->AV->Prop)(N:Nat):Prop:=N<=60000/\∀ {dK:Nat} {bC:List fE} (_:bC.length<=N) (J:ae) (_:J.get dK=some (.map (setE dz 0 bC) bC.length)),
  bE (b.aM K) 0 (.f (.func EJ) [] []) [.m (some dK)] J (λr ai=>∃(v:AV) (c:List fE),r= .ok v/\c.Perm bC/\Acc ai (some 2) v (c.map dz)/\(∀a,v.at? =some a->J.next<=a)/\xO J ai)
def v3(f:Fm)(bC:List fE):List fE:=if f.op=1 then Ck (f.name,f.args.length) bC else bC
def zW(l:List Fm)(bC:List fE):List fE:=l.foldl (λbC f=>v3 f bC) bC
def FD(F:Fm):List fE:=zW F.parts []
section
variable {b:bT}{K:Nat->List AV->AV->Prop}{N:Nat}(hf:∀g aQ r b5,K g aQ r->K g aQ b5->r=b5)
include hf in
theorem c0w(ao:Q0 b K N)(hh:bk (b.aM K) Jt CQ)(au:bk (b.aM K) xm rS)(o5:bk (b.aM K) vJ uB)(hw:bk (b.aM K) BN Zx)(F:Fm)(b2:F.jC)(c0x:(FD F).length<=N)(J:ae):
  bE (b.aM K) 0 (.f (.func Jt) [] []) [F.A true] J (λr ai=>∃(v:AV) (c:List fE),r= .ok v/\c.Perm (FD F)/\Acc ai (some 2) v (c.map dz)/\(∀a,v.at? =some a->J.next<=a)/\xO J ai):=by
 generalize ay:J.next=k;refine bE.O4 (d:=k+4) hh.e hh.p hh.f I I I I ?_;refine dQ.l6 (ak.region (aK.box (v:=F.A true) (c:=F.cells true) k ay I I I I I λb8 iC h1 bx=>?_));refine ka ?_;refine⟨rfl,dQ.l6 (ak.region (aK.mkMap (k+1) iC I λcT h6 h2 bb=>?_))⟩;refine aK.var (v:=.m (some (k+1))) (c:=[.m (some (k+1))]) (k+2) h6 I I I I I I λhX n9 h3 k3=>?_;replace h1:=k3 _ _ (bb _ _ h1);replace h2:=k3 _ _ h2;refine aK.nil ⟨rfl,dQ.Bz (dQ.l6 (ak.region ?_))⟩;refine aK.aA h1 I I I (Fm.aA true F) ?_;refine aK.jh I I I (P_ hw true F hX (k+3) n9) λr KG ⟨aL,tL,aO,b1⟩=>⟨_,aL,?_⟩
 replace h1:=b1 _ _ h1;replace h2:=b1 _ _ h2;replace h3:=b1 _ _ h3;have c7:∀i o,J.get i=some o->KG.get i=some o:=λi o ho=>b1 i o (k3 i o (bb i o (bx i o ho)));refine aK.nil ⟨rfl,dQ.block ?_⟩;refine dQ.walk au o5 true (λi=>i=k+1\/i=k+2) (λl τ=>∃bC,zW l bC=FD F/\τ.get (k+1)=some (.map (setE dz 0 bC) bC.length)/\τ.get (k+2)=some (.cells [.m (some (k+1))])) (k+4) tL I I b2 aO (λi hi=>by omega) (λl τ aB ⟨bC,aX,bc,cq⟩ ay=>⟨bC,aX,ay _ _ (.inl I) bc,ay _ _ (.inr I) cq⟩) ⟨[],rfl,h2,h3⟩ ?_ ?_
 ·intro G rest τ cW zF ⟨bC,aX,bc,cq⟩;refine ak.region ?_;refine aK.var (v:=G.A true) (c:=G.cells true) τ.next I I I I (Fm.conf true G) I (Fm.len true G) λec tL aO b1=>?_;refine aK.nil ⟨rfl,.of U b1,λa9 Be c9=>?_⟩;replace aO:=c9 _ _ U aO;replace bc:=c9 _ _ U (b1 _ _ bc);replace cq:=c9 _ _ U (b1 _ _ cq);refine ak.block (ak.seq (ak.region ?_));refine ka ?_;refine aK.aA aO I I I (Fm.re true G) ?_;refine aK.bin (a:=fa G.op) (b:=.i .u8 (Int.ofNat 1)) (v:=.b (decide (G.op=1))) I I I I (ow I) ?_;refine aK.nil (ak.jg I (λh=>?_) (λh=>?_))
  ·have dP:G.op=1:=of_decide_eq_true h;refine ak.region ?_;refine aK.aA (v:=.m (some (k+1))) cq I I I I ?_;refine aK.go I I I I ?_;refine aK.aA aO I I I (Fm.b5u true G) ?_;refine aK.go I I I I ?_;refine aK.aA aO I I I (Fm.XW true G) ?_;refine aK.len I I I b5w ?_;refine aK.go (v:=dz (G.name,G.args.length)) I I I I ?_;refine aK.QS (cF:=dz) (k:=(G.name,G.args.length)) c0g bc I I λbu jf cx et=>?_;refine aK.nil ⟨rfl,⟨_,by rw[<-aX];show zW rest _=zW rest (v3 G bC);unfold v3;rw[if_pos dP],cx,et _ _ U cq⟩,⟨U,λi o hi ho=>et i o (λe=>hi (.inl e)) ho⟩⟩
  ·have dP:¬G.op=1:=of_decide_eq_false h;exact ak.skip ⟨rfl,⟨bC,by rw[<-aX];show zW rest _=zW rest (v3 G bC);unfold v3;rw[if_neg dP],bc,cq⟩,.refl⟩
 ·intro τ ⟨bC,aX,bc,cq⟩ zF hd hold;have aX:bC=FD F:=aX;subst aX;refine⟨rfl,rfl,?_⟩;refine ak.seq (ak.region ?_);refine aK.aA (v:=.m (some (k+1))) cq I I I I ?_;refine aK.jh I I I (ao.2 c0x τ bc) λr a9 ⟨v,c,aL,eF,dE,dW,fK⟩=>⟨_,aL,?_⟩
  refine aK.go I I I I ?_;have hn:=fK.1;have gW:=jS (bX:=AO.dead) (fK.2 _ _ hd);refine aK.nil (ak.ret ⟨rfl,fK.2 _ _ hd,v,c,rfl,eF,dE.aP λi o hi ho=>gW.2 i o (by have:=dW i hi;omega) ho,λa e=>by have:=dW a e;omega,by show J.next<=a9.next;omega,λi o ho=>?_⟩);have:=ae.bt ho;exact gW.2 i o U (fK.2 i o (hold i o U (c7 i o ho)))
end
abbrev oI(a b:Nat):Prop:=a &&& b=a
def a1B{a b:Nat}:tU a b=0↔oI a b:=by
 unfold tU;constructor
 ·intro h;have:=congrArg (λx=>x ^^^ (a &&& b)) h;simp only[Nat.xor_assoc,Nat.xor_self,Nat.xor_zero,Nat.zero_xor] at this;exact this.symm
 ·intro h;have h:a &&& b=a:=h;rw[h,Nat.xor_self]
def c0y{a b c:Nat}(h1:oI a c)(h2:oI b c):oI (a ||| b) c:=by
 have h1:a &&& c=a:=h1;have h2:b &&& c=b:=h2;show(a ||| b) &&& c=_;rw[Nat.and_or_distrib_right,h1,h2]
def a1D{c:Nat}:∀ {l:List Fm} {m:Nat},oI m c->(∀f∈l,oI (mL f) c)->oI (uq l m) c
 |[],_,h,_=>h
 |f::l,m,h,hl=>by
  show oI (uq l (m ||| mL f)) c;exact a1D (c0y h (hl f aF)) λg hg=>hl g (C1 _ hg)
def a1E{a b:Nat}(ha:a<2^32)(hb:b<2^32):binop .andNot (.i .u32 (Int.ofNat a)) (.i .u32 (Int.ofNat b))=some (.i .u32 (Int.ofNat (tU a b))):=by
 have h:(BitVec.ofInt IntKind.u32.bits (Int.ofNat a) &&& ~~~ BitVec.ofInt IntKind.u32.bits (Int.ofNat b)).toNat=tU a b:=by
  have e:∀x y:BitVec IntKind.u32.bits,x &&& ~~~ y=x ^^^ (x &&& y):=λx y=>by ext i;simp;cases x[i]<;>cases y[i]<;>rfl
  rw[e,BitVec.toNat_xor,BitVec.toNat_and,ofInt32 a ha,ofInt32 b hb];rfl
 show some (AV.i .u32 (IntKind.wrap .u32 ((BitVec.ofInt IntKind.u32.bits (Int.ofNat a) &&& ~~~ BitVec.ofInt IntKind.u32.bits (Int.ofNat b)).toNat:Int)))=_;rw[h,wrap32 (b5j a b ha)];rfl
structure iF where
 bO:List Nat
 ops:Nat
 kind:Nat
 ad:Nat
 c0z:List AV
 rs:List AV
def iF.cells(o:Bool)(l:iF):List AV:=[.s l.bO,.i .u32 (Int.ofNat l.ops),fa l.kind,fa l.ad,.a_ o (some 6) (cond o l.rs l.c0z)]
def iF.A(o:Bool)(l:iF):AV:=.R (l.cells o)
section
attribute [local irreducible] cg bL dC eu bE
structure dj where
 bO:List Nat
 cU:List fh
 fH:Fm
abbrev dj.A(r:dj):AV:=.R (.s r.bO::slA true (some 7) (r.cU.map fh.A)::bN r.fH)
def oJ:fh:=⟨[],.mk 0 [] none none,[],false⟩
def ixN(bO:List Nat):List dj->Option Nat
 |[]=>none
 |r::l=>if r.bO=bO then some 0 else(ixN bO l).map (· +1)
def Q1{bO:List Nat}:∀ {l:List dj} {i:Nat},ixN bO l=some i->∃h:i<l.length,l[i].bO=bO/\∀j (h':j<l.length),j<i->l[j].bO≠bO
 |[],i,h=>by cases h
 |r::l,i,h=>by
  rw[ixN] at h;split at h
  ·rename_i e;cases h;exact⟨aF,e,λj _ ax=>by omega⟩
  ·rename_i e;cases hx:ixN bO l with
   |none=>rw[hx] at h;cases h
   |some m=>
    rw[hx] at h;cases h;obtain⟨h1,h2,h3⟩:=Q1 hx;refine⟨by simpa using h1,h2,λj ax hlt=>?_⟩;cases j with
    |zero=>exact e
    |succ j=>exact h3 j (by simpa using ax) (by have hlt:j+1<m+1:=hlt;omega)
def a1F{bO:List Nat}:∀ {l:List dj},ixN bO l=none->∀j (h:j<l.length),l[j].bO≠bO
 |[],_,j,h=>by simp at h
 |r::l,hn,j,h=>by
  rw[ixN] at hn;split at hn
  ·cases hn
  ·rename_i e;cases hx:ixN bO l with
   |some m=>rw[hx] at hn;cases hn
   |none=>
    cases j with
    |zero=>exact e
    |succ j=>exact a1F hx j (by simpa using h)
def tl_vw{J:ae}{aa:Option Nat}{o:Bool}{xs:List AV}(ab:∀y∈xs,conf aa y=true):iO J aa (.a_ o aa xs) xs:=by
 refine⟨λτ=>rfl,λ{j} ax=>?_,λ{j} ax=>?_⟩
 ·cases xs with
  |nil=>simp at ax
  |cons x l=>exact(Fa (J:=J) (o:=o) ab).eR ax
 ·cases xs with
  |nil=>simp at ax
  |cons x l=>exact(Fa (J:=J) (o:=o) ab).aA ax
def xP(l m:List Nat):binop .eql (.s l) (.s m)=some (.b (decide (l=m))):=by
 show some (AV.b (eqL l m))=_;cases he:eqL l m with
 |true=>rw[decide_eq_true ((o2 l m).1 he)]
 |false=>rw[decide_eq_false λh=>by rw[(o2 l m).2 h] at he;cases he]
section
variable {b:bT}{K:Nat->List AV->AV->Prop}
def c0A(hh:bk (b.aM K) xx y2){q:Nat}{x:bg}{J:ae}(aV:J.get q=some (.cells x.A.cells))(r:dj):
  bE (b.aM K) 0 (.f (.func xx) [] [aE q]) [r.A] J (λv τ=>v= .ok (.b (decide (r.bO=x.c2)))/\dN J τ):=by
 refine W.code hh.e hh.p hh.f I I I I λz=>?_;have H:Has J [(q,x.A.cells)]:=Has.nil.cons aV aF;refine aj ?_;refine W.cA (c:=r.A.cells) H I I I I I I λτ hn H bx=>?_;refine aj ?_;refine W.bin I I I I (xP _ _) ?_;refine aj ?_;exact ak.ret ⟨rfl,rfl,U,bx⟩
def Q2(hh:bk (b.aM K) J2 b7g)(h1:bk (b.aM K) xx y2){q:Nat}{x:bg}{J:ae}(aV:J.get q=some (.cells x.A.cells))(ag:List dj)(hR:ag.length<2^20):
  bE (b.aM K) 0 (.f (.func J2) [] []) [.a_ true (some 6) (ag.map dj.A),.f (.func xx) [] [aE q]] J (λv τ=>v= .ok (match ixN x.c2 ag with|some i=>ah i|none=>.i .i64 (-1))/\dN J τ):=by
 refine W.code hh.e hh.p hh.f I I I I λz=>?_;have H:Has J [(q,x.A.cells)]:=Has.nil.cons aV aF;have au:iO J (some 6) (.a_ true (some 6) (ag.map dj.A)) (ag.map dj.A):=tl_vw λy hy=>by obtain⟨r,_,rfl⟩:=ti.1 hy;rfl
 have hlen:(ag.map dj.A).length=ag.length:=uV _;refine aj ?_;rw[hlen];refine aj ?_;refine ak.each ag.length (λj f τ=>(∀i (h:i<ag.length),i<j->ag[i].bO≠x.c2)/\dN J τ/\sat [(0,.a_ true (some 6) (ag.map dj.A)),(1,.f (.func xx) [] [aE q])] f) U ⟨λi _ h=>by omega,⟨bs _,λ_ _ h=>h⟩,rfl,rfl,trivial⟩ I I (λj g τ ax aW hi hm=>?_) (λg τ aW hi=>?_)
 ·obtain⟨l3,M,c5,bU,_⟩:=aW;refine ak.norm [(0,.a_ true (some 6) (ag.map dj.A)),(1,.f (.func xx) [] [aE q]),(8,ah j),(7,ah ag.length)] ⟨c5,bU,hi,hm,trivial⟩ λg=>?_;have H:=H.aP M.2;have au:iO τ (some 6) (.a_ true (some 6) (ag.map dj.A)) (ag.map dj.A):=tl_vw λy hy=>by obtain⟨r,_,rfl⟩:=ti.1 hy;rfl
  refine aj ?_;rw[mQ];refine W.nd I I I (c0A h1 (M.2 _ _ aV) ag[j]) λr a9 ⟨e,M2⟩=>⟨_,e,?_⟩
  have ee:dN J a9:=⟨by have:=M.1;have:=M2.1;omega,λi o h=>M2.2 _ _ (M.2 _ _ h)⟩
  by_cases he:ag[j].bO=x.c2
  ·rw[decide_eq_true he];refine aj ?_;refine ak.ret ⟨rfl,?_,ee⟩;cases hx:ixN x.c2 ag with
   |none=>exact absurd he (a1F hx j ax)
   |some i=>
    obtain⟨h1,h2,h3⟩:=Q1 hx;have:i=j:=by
     rcases gR i j with h|h|h
     ·exact absurd h2 (l3 i h1 h)
     ·exact h
     ·exact absurd he (h3 j ax h)
    subst this;rfl
  ·rw[decide_eq_false he];refine aj ?_;refine⟨rfl,rfl,λi h hlt=>?_,ee,rfl,rfl,trivial⟩;by_cases hG:i<j
   ·exact l3 i h hG
   ·obtain rfl:i=j:=by omega
    exact he
 ·obtain⟨l3,M,_⟩:=aW;refine ak.norm [] trivial λg=>?_;refine aj ?_;refine ak.ret ⟨rfl,?_,M⟩;cases hx:ixN x.c2 ag with
  |none=>rfl
  |some i=>
   obtain⟨h1,h2,_⟩:=Q1 hx;exact absurd h2 (l3 i h1 h1)
end
abbrev iG(gs:List ef):AV:=slA true (some 6) (gs.map ef.A)
abbrev oK:List Nat:=[97,103,97,105,110]
inductive Q3(K:Nat->List AV->AV->Prop)(L:List bg)(B:List (List Nat))(k:Nat)(x:bg):Nat->Nat->Nat->Prop
 |ps (aO:citeB L B k [oJ] x.cs=false):Q3 K L B k x 5 0 0
 |ap (ac:Nat×Nat) (h0:x.cs=[ac]) (aO:citeB L B k [oJ] x.cs=true) (cC:Bool) (bI:K vQ [(fV L ac.2).A true,x.f.A true] (.b cC)):Q3 K L B k x (cond cC 0 6) (cond cC 0 2) (cond cC 0 1)
inductive KH(K:Nat->List AV->AV->Prop)(L:List bg)(B N:List (List Nat))(k:Nat)(x:bg)(r:dj):Nat->Nat->Nat->Nat->Prop
 |ps (bI:citeB L B k r.cU x.cs=false):KH K L B N k x r 5 0 0 0
 |ap (bI:citeB L B k r.cU x.cs=true) (cZ gL:AV) (dR eB az e:Nat) (cx:K vO [r.A,x.f.A true,iG (gotsL L B N k r.cU x.cs)] (.a0 [.R [cZ,gL],.R [fa dR,ah eB,ah az],ah e])):KH K L B N k x r (if e=0 then 0 else 6) (if e=0 then 0 else dR) (if e=0 then 0 else eB) (if e=0 then 0 else az)
inductive oL(K:Nat->List AV->AV->Prop)(L:List bg)(B N:List (List Nat))(ag:List dj)(k:Nat)(x:bg)(fN:Bool):Nat->Nat->Nat->Nat->Prop
 |form (h:fN=false):oL K L B N ag k x fN 3 0 0 0
 |hyp (h:fN=true) (h2:x.hyp=true):oL K L B N ag k x fN 0 0 0 0
 |c2 (h:fN=true) (h2:x.hyp=false) (h3:x.c2≠oK) (aO:ixN x.c2 ag=none):oL K L B N ag k x fN 4 0 0 0
 |again (h:fN=true) (h2:x.hyp=false) (h3:x.c2=oK) {cI dR eB:Nat} (cW:Q3 K L B k x cI dR eB):oL K L B N ag k x fN cI dR eB 0
 |step (h:fN=true) (h2:x.hyp=false) (h3:x.c2≠oK) (i:Nat) (hi:i<ag.length) (aO:ixN x.c2 ag=some i) {cI dR eB az:Nat} (cQ:KH K L B N k x ag[i] cI dR eB az):oL K L B N ag k x fN cI dR eB az
def xQ{α β:Type}{f:α->Option β}:∀ {l:List α} {r:List β} {m:List α} {s:List β},mapO f l=some r->mapO f m=some s->mapO f (l++m)=some (r++s)
 |[],r,m,s,h,h2=>by cases h;exact h2
 |x::l,r,m,s,h,h2=>by
  rw[mapO_cons] at h;rw[C5,mapO_cons];cases hx:f x with
  |none=>rw[hx] at h;cases h
  |some y=>
   rw[hx] at h;cases hl:mapO f l with
   |none=>rw[hl] at h;cases h
   |some bf=>
    rw[hl] at h;cases h;rw[xQ hl h2];rfl
def c0B{P:Nat->Prop}{J:ae}{n:Nat}{v:AV}{g:ef}(h:rB P J v g)(h1:g.fH.dep<=200)(h2:∀F∈g.hyps,F.dep<=200)(h3:∀F∈g.rest,F.dep<=200)(hn:900<=n):bM J n v=some g.A:=by
 obtain⟨au,q_,e,ao,iC,aq,h6,_⟩:=h.ex;subst e;obtain⟨m,rfl⟩:∃m,n=m+3:=⟨n-3,U⟩
 have b2:∀F:Fm,F.dep<=200->∀m,500<=m->bM J m (.R (bN F))=some (.R (bN F)):=λF hd m hm=>by
  have:=Fm.snap J true _ F m (bs _) U;rwa[jk] at this
 have ab:∀F:Fm,F.dep<=200->∀m,500<=m->mapO (bM J m) (bN F)=some (bN F):=λF hd m hm=>by
  have:=b2 F hd (m+1) U;obtain⟨e2,aX,bc⟩:=zl this;cases bc;exact aX
 have hc:∀ {aa:Option Nat} {v:AV} {xs:List AV} {m:Nat},Sl J aa v xs->(xs=[]->v= .af)->(∀y∈xs,bM J m y=some y)->bM J (m+1) v=some (slA true aa xs):=λ{aa v xs m} ao hn hy=>by
  have hm:=zO (f:=bM J m) (g:=λx=>x) hy;rw[Ka] at hm;have aq:=ao.read;cases ao with
  |nil=>rfl
  |al o cap xs rest hg ab ay=>
   rw[snapshot_succ];simp only[aq,hm];cases xs with
   |nil=>cases hn rfl
   |cons y l=>rfl
 refine ox ?_;have aL:=hc (m:=m+1) ao (λe=>iC (by simpa using e)) (λy hy=>by
  obtain⟨F,KI,rfl⟩:=ti.1 hy;refine ox ?_;rw[mapO_cons,ab F (h2 F KI) m U];cases m with
  |zero=>omega
  |succ m=>rfl)
 have a5:=hc (m:=m+1) aq (λe=>h6 (by simpa using e)) (λy hy=>by
  obtain⟨F,KI,rfl⟩:=ti.1 hy;exact b2 F (h3 F KI) (m+1) U)
 have cy:=ab g.fH h1 (m+2) U;exact xQ cy (by rw[mapO_cons,aL,mapO_cons,a5];rfl)
def Sl.zX{J:ae}{aa:Option Nat}{v:AV}{xs bf:List AV}{m:Nat}(ao:Sl J aa v xs)(hn:xs=[]->v= .af)(hm:mapO (bM J m) xs=some bf):bM J (m+1) v=some (slA true aa bf):=by
 have aq:=ao.read;cases ao with
 |nil=>rw[Hr] at hm;cases hm;rfl
 |al o cap xs rest hg ab ay=>
  rw[snapshot_succ];simp only[aq,hm];cases xs with
  |nil=>cases hn rfl
  |cons y l=>
   cases bf with
   |nil=>have:=(o0 hm).1;simp at this
   |cons z r=>rfl
def W.c0C{ck:l9}{env:Env}{aR:Option Nat}{D:List (Nat ⊕ (AV×List AV))}{n:Nat}{F:List (Nat×AV)}{z:Nat->AV}{J:ae}{Q:dZ}{L:List (Nat×List AV)}(H:Has J L){d:Nat}{op:AOp}{v:AV}{g:Option (Nat×Bool)}{ops:List a4}{c:List AV}(hd:Nat.blt d n=true)(hw:wtL g n F=true)(ho:opx 0 (dn env n F z) J op=some (.val v (J.push (.cells c))))
  (h:∀τ:ae,τ.next=J.next+1->Has τ ((J.next,c)::L)->(∀i o,J.get i=some o->τ.get i=some o)->cg ck env aR D n ops (bB ((d,v)::F) z) τ Q):cg ck env aR D n (⟨some d,op,g,[]⟩::ops) (bB F z) J Q:=by
 have dr:∀i o,J.get i=some o->(J.push (.cells c)).get i=some o:=λi o ho=>by rw[ae.gD trivial _ (ae.bt ho)];exact ho
 exact W.val hd hw ho (h (J.push (.cells c)) I (H.push I (ae.jL _) dr) dr)
def c0D{α:Type}{aa:Option Nat}{o:Bool}{l:List α}{f:α->AV}{j:Nat}(h:j<l.length):idxSlA aa (.a_ o aa (l.map f)) j=some (.dh o (f l[j])):=by
 cases l with
 |nil=>simp at h
 |cons x l=>exact zj (o:=o) (aa:=aa) (f:=f) h
def c0E{L:List bg}(h:∀x∈L,x.f.dep<=200)(n:Nat):(fV L n).dep<=200:=by
 unfold fV;rw[yT,fG];cases hx:L[n-1]? with
 |none=>decide
 |some x=>exact h x (fL hx)
def Q4{L:List bg}{B N:List (List Nat)}{k:Nat}{p:fh}{ac:Nat×Nat}(h:∀n,(fV L n).dep<=200):(kf L B N k p ac).fH.dep<=200/\(∀F∈(kf L B N k p ac).hyps,F.dep<=200)/\∀F∈(kf L B N k p ac).rest,F.dep<=200:=by
 have hm:∀l:List Nat,∀F∈l.map (fV L),F.dep<=200:=λl F b2=>by obtain⟨n,_,rfl⟩:=ti.1 b2;exact h n
 have h0:kd.fH.dep<=200/\(∀F∈kd.hyps,F.dep<=200)/\∀F∈kd.rest,F.dep<=200:=⟨bw,by simp[kd],by simp[kd]⟩
 unfold kf;cases p.cA with
 |true=>
  cases hJ L B k ac.1 ac.2 with
  |true=>exact⟨h _,hm _,hm _⟩
  |false=>exact h0
 |false=>
  cases po B k ac.1 ac.2 with
  |true=>exact⟨h _,aF,hm _⟩
  |false=>exact h0
structure Q5(b:bT)(K:Nat->List AV->AV->Prop):Prop where
 bad:bk (b.aM K) PL Y0
 Q6:bk (b.aM K) xx y2
 Q7:bk (b.aM K) J2 b7g
 fN:b.ext na=0/\b.pure na=true
 Q8:b.ext vQ=0/\b.pure vQ=true
 app:b.ext vO=0/\b.pure vO=true
section
variable {b:bT}{K:Nat->List AV->AV->Prop}(hfn:∀g aQ r b5,K g aQ r->K g aQ b5->r=b5)
include hfn
theorem a1G(hf:lQ b K)(aw:Fw b K)(hb:Q5 b K){p k:Nat}{L:List bg}{B N:List (List Nat)}{J:ae}(ed:kS J p L B N)(ch:KB b L B N)(Kr:1<=k)(ay:k<=L.length){l:iF}{ag:List dj}(hR:l.rs=ag.map dj.A)(Cl:ag.length<2^20)(KJ:∀r∈ag,r.cU.length<2^20/\∀J,bM J (b.bp+1000) r.A=some r.A)(ni:∀J,bM J (b.bp+1000) (l.A true)=some (l.A true))
  {x:bg} (hx:L[k-1]? =some x) (ab:oG k x.cs) {fN:Bool} (hA:K na [l.A true,x.f.A true] (.b fN)) {cI dR eB az:Nat} (ca:oL K L B N ag k x fN cI dR eB az):
  bE (b.aM K) 0 (.f (.func PL) [] []) [aE p,l.A true,ah k] J (λr τ=>r= .ok (.a0 [fa cI,.R [fa dR,ah eB,ah az]])/\dN J τ):=by
 refine W.nO hb.bad.e hb.bad.p hb.bad.f I I I λz=>?_;obtain⟨cE,eO,bK,eZ,h1,_⟩:=ed.ex;have H:Has J [(p,[cG L,cE,eO])]:=Has.nil.cons h1 aF;have hl:=ch.lt;have KC:L[k-1]'U=x:=(jK.1 hx).2;have xR:x∈L:=KC▸gC (show k-1<L.length by omega);have Fp:=λJ=>Fm.snap J true _ x.f (b.bp+1000) (bs _) (by have:=ch.br x xR;omega);refine aj ?_;generalize aV:J.next=q;refine W.cA (c:=l.cells true) H aV I I I I I λτ cP H bx=>?_;refine aj ?_;refine W.cC (c:=[.i .u8 0,ah 0,ah 0]) H cP I I I λa9 c8 H bb=>?_;refine aj ?_;rw[KC];refine W.jj (c:=x.A.cells) H c8 I I I I I I λbu er H k3=>?_;refine aj ?_;refine W.e3 (r:=.b fN) hfn hb.fN hA I I I ?_ ?_
 ·exact nF (ni _) (by have:=Fp bu;rw[jk] at this ⊢;exact this)
 have FE:dN J bu:=⟨U,λi o h=>k3 _ _ (bb _ _ (bx _ _ h))⟩
 cases ca with
 |form h=>
  subst h;refine aj ?_;refine W.st H 1 I I I I I I λcm e_ H b1=>?_;refine aj ?_;exact ak.ret ⟨rfl,_,jF (ku I) (gI I (H.get _ (.tail _ (.head _))) I),rfl,U,λi o h=>b1 _ _ (by have:=ae.bt h;omega) (FE.2 _ _ h)⟩
 |hyp h h2=>
  subst h;refine aj ?_;rw[h2];refine aj ?_;refine W.st H 1 I I I I I I λcm e_ H b1=>?_;refine aj ?_;exact ak.ret ⟨rfl,_,jF (ku I) (gI I (H.get _ (.tail _ (.head _))) I),rfl,U,λi o h=>b1 _ _ (by have:=ae.bt h;omega) (FE.2 _ _ h)⟩
 |c2 h h2 h3 aO=>
  subst h;refine aj ?_;rw[h2];refine aj ?_;rw[hR];refine W.an trivial I I I (Q2 hb.Q7 hb.Q6 (H.get _ (.head _)) ag Cl) λr cm ⟨e,fp⟩=>⟨_,e,?_⟩
  have H:=H.aP fp.2;rw[aO];refine aj ?_;refine W.cC (c:=[.s [],.af,.i .u8 0,.s [],.af,.af]) H I I I I λdg iW H c9=>?_;refine aj ?_;refine W.bin (v:=.b false) I I I I ((xP _ _).trans (by rw[decide_eq_false h3])) ?_;refine aj ?_;refine W.bin (v:=.b true) I I I I I ?_;refine aj ?_;refine W.st H 2 I I I I I I λeA jf H et=>?_;refine aj ?_;exact ak.ret ⟨rfl,_,jF (ku I) (gI I (H.get _ (.tail _ (.tail _ (.head _)))) I),rfl,by have:=fp.1;omega,λi o h=>et _ _ (by have:=ae.bt h;omega) (c9 _ _ (fp.2 _ _ (FE.2 _ _ h)))⟩
 |again h h2 h3 cW=>
  subst h;refine aj ?_;rw[h2];refine aj ?_;rw[hR];refine W.an trivial I I I (Q2 hb.Q7 hb.Q6 (H.get _ (.head _)) ag Cl) λr cm ⟨e,fp⟩=>⟨_,e,?_⟩
  have QB:=fp.1;have H:=H.aP fp.2;refine aj ?_;refine W.cC (c:=[.s [],.af,.i .u8 0,.s [],.af,.af]) H I I I I λdg iW H c9=>?_;refine aj ?_;refine W.bin (v:=.b true) I I I I ((xP _ _).trans (by rw[decide_eq_true h3])) ?_;refine aj ?_;refine W.c0C (v:=.al dg.next 0 1 (some 7) (some 1)) (c:=oJ.cells) H I I I λeA jf H et=>?_;refine aj ?_;refine W.st (bD:=[.s [],.al dg.next 0 1 (some 7) (some 1),.i .u8 0,.s [],.af,.af]) H 1 I I I I I I λeW k6 H gk=>?_;have c7:∀i o,J.get i=some o->eW.get i=some o:=λi o h=>gk _ _ (by have:=ae.bt h;omega) (et _ _ (c9 _ _ (fp.2 _ _ (FE.2 _ _ h))));refine aj ?_;have hV:Sl eW (some 7) (.al dg.next 0 1 (some 7) (some 1)) ([oJ].map fh.A):=.al dg.next (some 1) [oJ.A] [] (H.get _ (.head _)) (λy hy=>by rw[uT.1 hy];rfl) (.inr I);refine W.an trivial I I I (a1j hf aw (ed.aP c7) ch Kr ay (aC:=[oJ]) (λτ dr=>(hV.aP λi o _=>dr i o).vw) (by show 1<_;omega) hx ab) λr fI ⟨v,e,hg,iP⟩=>⟨_,e,?_⟩
  have Ky:=iP.1;have H:=H.aP iP.2;have Cm:∀i o,J.get i=some o->fI.get i=some o:=λi o h=>iP.2 _ _ (c7 _ _ h);cases cW with
  |ps aO=>
   rw[aO];refine aj ?_;refine W.st H 3 I I I I I I λke sk H kN=>?_;refine aj ?_;exact ak.ret ⟨rfl,_,jF (ku I) (gI I (H.get _ (.tail _ (.tail _ (.tail _ (.head _))))) I),rfl,U,λi o h=>kN _ _ (by have:=ae.bt h;omega) (Cm _ _ h)⟩
  |ap ac h0 aO cC bI=>
   obtain⟨fr,ao,sN,lH,vd⟩:=hg aO;have eH:=ab.2 ac (by rw[h0];simp);have xe:rB (λ_=>True) fI (fr[0]'(by rw[lH];exact Nat.one_pos)) ⟨fV L ac.2,[],(N.getD (ac.2-1) []).map (fV L)⟩:=by
    have h:=vd 0 (by rw[lH];exact Nat.one_pos) Nat.one_pos (by rw[h0];exact Nat.one_pos);have e:kf L B N k [oJ][0] (x.cs[0]'(by rw[h0];exact Nat.one_pos))=⟨fV L ac.2,[],(N.getD (ac.2-1) []).map (fV L)⟩:=by
     have kL:x.cs[0]'(by rw[h0];exact Nat.one_pos)=ac:=by simp only[h0];rfl
     have au:po B k ac.1 ac.2=true:=by rw[h0,citeB,C2] at aO;exact aO.1
     rw[kL];show cond (po B k ac.1 ac.2) _ _=_;rw[au];rfl
    rw[e] at h;exact h
   obtain⟨n5,KD,QL⟩:=a1h xe;obtain⟨o,c,pX,fS,kT,jx,mH,_⟩:=ao.fU (j:=0) (by rw[lH];exact Nat.one_pos);have c9A:=ch.br _ (gC (show ac.2-1<L.length by omega));have Fq:=Cd (L:=L) (n:=ac.2) U U;rw[aO];refine aj ?_;refine W.bin (v:=.b true) I I I I ((xP _ _).trans (by rw[decide_eq_true h3])) ?_;refine aj ?_;refine W.eR I I I I kT ?_;refine aj ?_;refine W.ur (v:=.R (bN (fV L ac.2))) jx I I I (by show dV (some 4) (c.drop (0*shN (some 6)))=_;rw[mH,QL];rfl) ?_;refine aj ?_;refine W.e3 (r:=.b cC) hfn hb.Q8 bI I I I ?_ ?_
   ·refine nF ?_ (by have:=Fp fI;rw[jk] at this ⊢;exact this);have:=Fm.snap fI true _ (fV L ac.2) (b.bp+1000) (bs _) (by rw[Fq];omega);rw[jk] at this ⊢;exact this
   cases cC with
   |true=>
    refine aj ?_;refine W.st H 3 I I I I I I λke sk H kN=>?_;refine aj ?_;exact ak.ret ⟨rfl,_,jF (ku I) (gI I (H.get _ (.tail _ (.tail _ (.tail _ (.head _))))) I),rfl,U,λi o h=>kN _ _ (by have:=ae.bt h;omega) (Cm _ _ h)⟩
   |false=>
    refine aj ?_;refine W.st H 3 I I I I I I λke sk H kN=>?_;refine aj ?_;exact ak.ret ⟨rfl,_,jF (ku I) (gI I (H.get _ (.tail _ (.tail _ (.tail _ (.head _))))) I),rfl,U,λi o h=>kN _ _ (by have:=ae.bt h;omega) (Cm _ _ h)⟩
 |step h h2 h3 i hi aO cQ=>
  subst h;refine aj ?_;rw[h2];refine aj ?_;rw[hR];refine W.an trivial I I I (Q2 hb.Q7 hb.Q6 (H.get _ (.head _)) ag Cl) λr cm ⟨e,fp⟩=>⟨_,e,?_⟩
  have QB:=fp.1;have H:=H.aP fp.2;rw[aO];refine aj ?_;refine W.cC (c:=[.s [],.af,.i .u8 0,.s [],.af,.af]) H I I I I λdg iW H c9=>?_;refine aj ?_;refine W.bin (v:=.b false) I I I I ((xP _ _).trans (by rw[decide_eq_false h3])) ?_;refine aj ?_;rw[hR];refine W.eR I I I I (c0D hi) ?_;refine aj ?_;refine W.st (bD:=(ag[i]).A.cells) H 0 I I I I I I λeA jf H et=>?_;have c7:∀i o,J.get i=some o->eA.get i=some o:=λi o h=>et _ _ (by have:=ae.bt h;omega) (c9 _ _ (fp.2 _ _ (FE.2 _ _ h)));obtain⟨kJ,vn⟩:=KJ _ (gC hi);generalize ag[i]=r at *;refine aj ?_;refine W.an trivial I I I (a1j hf aw (ed.aP c7) ch Kr ay (aC:=r.cU) (V:=slA true (some 7) (r.cU.map fh.A)) (λτ _=>Fa λy hy=>by obtain⟨_,_,rfl⟩:=ti.1 hy;rfl) kJ hx ab) λv fI ⟨w,e,hg,iP⟩=>⟨_,e,?_⟩
  have Ky:=iP.1;have H:=H.aP iP.2;have Cm:∀i o,J.get i=some o->fI.get i=some o:=λi o h=>iP.2 _ _ (c7 _ _ h);cases cQ with
  |ps bI=>
   rw[bI];refine aj ?_;refine W.st H 2 I I I I I I λke sk H kN=>?_;refine aj ?_;exact ak.ret ⟨rfl,_,jF (ku I) (gI I (H.get _ (.tail _ (.tail _ (.head _)))) I),rfl,U,λi o h=>kN _ _ (by have:=ae.bt h;omega) (Cm _ _ h)⟩
  |ap bI cZ gL dR eB az e cx=>
   obtain⟨fr,ao,sN,lH,vd⟩:=hg bI;rw[bI];refine aj ?_;refine W.bin (v:=.b false) I I I I ((xP _ _).trans (by rw[decide_eq_false h3])) ?_;refine aj ?_;refine W.e3 hfn hb.app cx I I I ?_ ?_
   ·refine Ev (vn _) (by have:=Fp fI;rw[jk] at this ⊢;exact this) ?_;have gj:=KA bI;have c0F:=a1e (L:=L) (B:=B) (N:=N) (k:=k) gj;refine Sl.zX (m:=b.bp+999) ao sN (zP (by rw[uV,lH,c0F]) λj h1 h2=>?_);rw[uV] at h2;have ax:=vd j h1 U U;rw[mQ,a1f U U];have vY:=c0E ch.br;refine c0B ax ?_ ?_ ?_ U
    ·exact(Q4 vY).1
    ·exact(Q4 vY).2.1
    ·exact(Q4 vY).2.2
   refine aj ?_;refine W.cC H I I I I λke sk H kN=>?_;refine aj ?_;refine W.cC H I I I I λhq rC H cF=>?_;refine aj ?_;refine W.st H 1 I I I I I I λjm pV H jn=>?_;refine aj ?_;refine W.st H 0 I I I I I I λlS tD H oa=>?_;have a1H:∀i o,J.get i=some o->lS.get i=some o:=λi o h=>oa _ _ (by have:=ae.bt h;omega) (jn _ _ (by have:=ae.bt h;omega) (cF _ _ (kN _ _ (Cm _ _ h))));by_cases he:e=0
   ·subst he;refine aj ?_;refine W.st H 4 I I I I I I λsO dX H cI=>?_;refine aj ?_;exact ak.ret ⟨rfl,_,jF (ku I) (gI I (H.get _ (.tail _ (.tail _ (.tail _ (.tail _ (.head _)))))) I),rfl,U,λi o h=>cI _ _ (by have:=ae.bt h;omega) (a1H _ _ h)⟩
   ·rw[if_neg he,if_neg he,if_neg he,if_neg he];refine aj ?_;refine W.st H 4 I I I I I I λsO dX H cI=>?_;refine aj ?_;exact ak.ret ⟨rfl,_,jF (ku I) (gI I (H.get _ (.tail _ (.tail _ (.tail _ (.tail _ (.head _)))))) I),rfl,U,λi o h=>cI _ _ (by have:=ae.bt h;omega) (a1H _ _ h)⟩
end
def a1I{α:Type}{l:List (List α)}{i:Nat}{x:α}(h:x∈l.getD i []):∃y∈l,x∈y:=by
 rw[yT] at h;cases hl:l[i]? with
 |none=>rw[hl] at h;simp at h
 |some y=>rw[hl] at h;exact⟨y,fL hl,h⟩
def c0G{L:List bg}{B N:List (List Nat)}{k n:Nat}(ek:∀l∈N,∀n∈l,1<=n)(ay:1<=k)(h:n∈needL L B N k):1<=n:=by
 unfold needL at h;split at h
 ·rename_i x _;cases hx:x.hyp with
  |true=>rw[hx,cond_true] at h;simp at h;omega
  |false=>
   rw[hx,cond_false] at h;have ao:=(NN.1 h).2;unfold oF at ao;obtain⟨ac,_,hm⟩:=NP.1 ao;have hm:=of_decide_eq_true hm;unfold ru at hm;have:∃y∈N,n∈y:=by
    cases hb:hJ L B k ac.1 ac.2 with
    |true=>rw[hb,cond_true] at hm;exact a1I (NN.1 hm).1
    |false=>rw[hb,cond_false] at hm;exact a1I hm
   obtain⟨y,hy,c0H⟩:=this;exact ek y hy n c0H
 ·simp at h
def FF{L:List bg}:∀ {j:Nat},∀l∈ndsL L j,∀n∈l,1<=n
 |0,l,h=>by simp[ndsL] at h
 |j+1,l,h=>by
  rw[ndsL] at h;rcases tl.1 h with h|h
  ·exact FF l h
  ·rw[uT.1 h];exact λn hn=>c0G FF U hn
section
variable {b:bT}{K:Nat->List AV->AV->Prop}(hfn:∀g aQ r b5,K g aQ r->K g aQ b5->r=b5)
def zQ.ok{L:List bg}(h:zQ b K L)(hd:∀x∈L,x.f.dep<=200):KB b L (cS L) (ndsL L L.length) where
 kv:=h.kv
 nl:=Kv L _
 hF:=λl hl=>⟨by have:=(zM hl).1;have:=h.le;omega,λn hn=>⟨FF l hl n hn,(zM hl).2 n hn⟩⟩
 g3:=h.g3
 br:=hd
 op:=λx hx=>by have:=h.kU.num x hx;omega
 lt:=by have:=h.le;omega
structure c0I(K:Nat->List AV->AV->Prop)(l:iF)(ag:List dj)(L:List bg)(r cI dR eB az:Nat):Prop where
 le:r<=L.length
 ok:∀k x,1<=k->(r=0\/k<r)->L[k-1]? =some x->∃fN,K na [l.A true,x.f.A true] (.b fN)/\oL K L (cS L) (ndsL L L.length) ag k x fN 0 0 0 0
 no:r≠0->cI≠0/\cI<256/\∀x,L[r-1]? =some x->∃fN,K na [l.A true,x.f.A true] (.b fN)/\oL K L (cS L) (ndsL L L.length) ag r x fN cI dR eB az
include hfn
theorem c0J(hf:lQ b K)(ho:Kw b K)(aw:Fw b K)(hb:Q5 b K){L:List bg}(cW:zQ b K L)(hd:∀x∈L,x.f.dep<=200){l:iF}{ag:List dj}(hR:l.rs=ag.map dj.A)(Cl:ag.length<2^20)(KJ:∀r∈ag,r.cU.length<2^20/\∀J,bM J (b.bp+1000) r.A=some r.A)(ni:∀J,bM J (b.bp+1000) (l.A true)=some (l.A true))(v5:b.ext lr=0/\b.pure lr=true)(hL:K lr [l.A true] (.b true))
  {r cI dR eB az:Nat} (Cn:c0I K l ag L r cI dR eB az) {bA e KK KL KM fW:Nat} (df:if r=0 then(if kr L L.length=0 then(bA=0/\KK=0/\KL=0/\KM=0/\fW=0/\e=0) else(bA=L.length/\KK=7/\KL=0/\KM=0/\fW=0/\e=180)) else(bA=r/\KK=cI/\KL=dR/\KM=eB/\fW=az/\e=180)) (body:bF) (y5:b6W.body=some body):
  ak (b.aM K) b6W.ntmps body (fv [l.A true,cG L]) ⟨.nil,0⟩ (uv b6W.results (.a0 [.R [ah bA,fa KK,fa KL,ah KM,ah fW],ah e])):=by
 cases y5;refine W.jD λz H=>?_;have a7:=cW.ne;have hle:=cW.le;refine aj ?_;refine W.cA (c:=l.cells true) H I I I I I I λτ cP H bx=>?_;refine aj ?_;refine W.cC (c:=[ah 0,.i .u8 0,.i .u8 0,ah 0,ah 0]) H cP I I I λa9 c8 H bb=>?_;refine aj ?_;refine W.e3 hfn v5 hL I I I (k_ (ni _)) ?_;refine aj ?_;refine W.an trivial I I I (Qw hfn hf ho.op ho.aQ ho.QC cW.kU cW.ne cW.le cW.g3 ho.gx cW.zR cW.kv cW.uy) λv bu ⟨p,ar,ch,_,M⟩=>⟨_,ar,?_⟩
 have H:=H.aP M.2;have q9:=M.1;refine aj ?_;show bL _ _ _ _ _ _ _ _;have Q9:=cW.ok hd;have h2:bu.get 0=some (.cells (l.cells true)):=H.get _ (.tail _ (.head _));have h3:bu.get 1=some (.cells [ah 0,.i .u8 0,.i .u8 0,ah 0,ah 0]):=H.get _ (.head _);clear H;refine ak.block ?_;refine ak.loop (λm f τ=>∃k,k+m=L.length+1/\1<=k/\(r=0\/k<=r)/\(∀i o,bu.get i=some o->τ.get i=some o)/\sat [(1,cG L),(2,aE 0),(4,aE 1),(6,aE p),(8,ah k)] f) ?_ L.length ⟨1,U,U,U,λ_ _ h=>h,rfl,rfl,rfl,rfl,rfl,trivial⟩;rintro m f cm ⟨k,NW,gF,a0U,dr,ao⟩;refine ak.norm _ ao λz=>?_;clear ao;have H:Has cm [(1,[ah 0,.i .u8 0,.i .u8 0,ah 0,ah 0]),(0,l.cells true)]:=(Has.nil.cons (dr _ _ h2) aF).cons (dr _ _ h3) aF;have ed:=(ch.aP λi c h=>dr i _ h).xK;by_cases hn:k<=L.length
 ·obtain⟨m,rfl⟩:∃k,m=k+1:=⟨m-1,U⟩
  have hx:L[k-1]? =some L[k-1]:=fw U;refine aj ?_;by_cases aV:k=r
  ·subst aV;obtain⟨Fi,c9B,Q_⟩:=Cn.no U;obtain⟨fN,hA,ca⟩:=Q_ _ hx;rw[if_neg U] at df;obtain⟨rfl,rfl,rfl,rfl,rfl,rfl⟩:=df;refine W.an trivial I I I (a1G hfn hf aw hb ed Q9 gF hn hR Cl KJ ni hx (cW.uy _ _ hx gF) hA ca) λv dg ⟨ar,jl⟩=>⟨_,ar,?_⟩
   have zS:=jl.1;have H:=H.aP jl.2;refine aj ?_;refine W.cC H I I I I λeA jf H et=>?_;refine aj ?_;refine W.st H 0 I I I I I I λeW k6 H gk=>?_;refine aj ?_;refine W.st H 1 I I I I I I λfI vq H pt=>?_;refine aj ?_;refine ak.ret ?_;exact⟨rfl,_,jF (gI I (H.get _ (.tail _ (.head _))) I) (ku I),rfl⟩
  ·obtain⟨fN,hA,ca⟩:=Cn.ok k _ gF U hx;refine W.an trivial I I I (a1G hfn hf aw hb ed Q9 gF hn hR Cl KJ ni hx (cW.uy _ _ hx gF) hA ca) λv dg ⟨ar,jl⟩=>⟨_,ar,?_⟩
   have zS:=jl.1;have H:=H.aP jl.2;refine aj ?_;refine W.cC H I I I I λeA jf H et=>?_;refine aj ?_;refine W.st H 0 I I I I I I λeW k6 H gk=>?_;refine aj ?_;exact⟨m,U,k+1,U,U,U,λi o h=>gk _ _ (by have:=ae.bt (jl.2 _ _ (dr _ _ h));omega) (et _ _ (jl.2 _ _ (dr _ _ h))),rfl,rfl,rfl,rfl,rfl,trivial⟩
 ·obtain rfl:m=0:=by omega
  have p7:r=0:=by have:=Cn.le;omega
  rw[if_pos p7] at df;have vY:=B8 (L:=L) (k:=L.length) a7 (bs _);have Bc:=Q9.kv.br _ (gC (show L.length-1<L.length by omega));refine aj ?_;refine ak.exit ?_;show bL _ _ _ _ _ _ _ _;refine ak.norm [(1,cG L),(4,aE 1)] dp λg=>?_;refine aj ?_;by_cases h0:kr L L.length=0
  ·rw[if_pos h0] at df;obtain⟨rfl,rfl,rfl,rfl,rfl,rfl⟩:=df;refine aj ?_;refine W.st H 0 I I I I I I λfI vq H pt=>?_;refine aj ?_;refine ak.ret ?_;exact⟨rfl,_,jF (gI I (H.get _ (.head _)) I) (ku I),rfl⟩
  ·rw[if_neg h0] at df;obtain⟨rfl,rfl,rfl,rfl,rfl,rfl⟩:=df;refine aj ?_;refine W.st H 0 I I I I I I λfI vq H pt=>?_;refine aj ?_;refine ak.ret ?_;exact⟨rfl,_,jF (gI I (H.get _ (.head _)) I) (ku I),rfl⟩
end
def ef.a8(g:ef):List Fm:=g.fH::(g.hyps++g.rest)
def uA(F:Fm)(gs:List ef):List Fm:=F::gs.flatMap ef.a8
def sR(gs:List ef)(j:Nat):Nat:=1+((gs.take j).flatMap ef.a8).length
def c0K{F:Fm}{gs:List ef}{j:Nat}(ax:j<gs.length){t:Nat}{x:Fm}(h:(gs[j]).a8[t]? =some x):(uA F gs)[sR gs j+t]? =some x:=by
 have e:gs.flatMap ef.a8=(gs.take j).flatMap ef.a8++((gs[j]).a8++(gs.drop (j+1)).flatMap ef.a8):=by
  rw[<-jY,← P5 ax,← gN,yU]
 have ht:=(jK.1 h).1;unfold uA sR;rw[show 1+((gs.take j).flatMap ef.a8).length+t=((gs.take j).flatMap ef.a8).length+t+1 from by omega,gB,e,a0s U,show((gs.take j).flatMap ef.a8).length+t-((gs.take j).flatMap ef.a8).length=t from by omega,E7 ht,h]
def c0L{gs:List ef}{j:Nat}(ax:j<gs.length):sR gs (j+1)=sR gs j+1+(gs[j]).hyps.length+(gs[j]).rest.length:=by
 unfold sR;rw[lO ax,gN,dv];have:([gs[j]].flatMap ef.a8).length=1+(gs[j]).hyps.length+(gs[j]).rest.length:=by
  simp[ef.a8];omega
 omega
def c0M{F:Fm}{gs:List ef}:sR gs gs.length=(uA F gs).length:=by
 unfold sR uA;rw[B0,CZ];omega
section
variable {b:bT}{K:Nat->List AV->AV->Prop}
def c0N(hh:bk (b.aM K) J4 b7r){F:Fm}{gs:List ef}{J:ae}{q:Nat}(aV:J.next=q):
  bE (b.aM K) 0 (.f (.func J4) [] []) [.R (bN F),iG gs] J (λr τ=>r= .ok (.f (.func E3) [] [aE q,aE (q+1)])/\τ.get q=some (.cells (bN F))/\τ.get (q+1)=some (.cells [iG gs])/\τ.next=q+2/\dN J τ):=by
 refine W.xF hh I I I I λz H=>?_;refine aj ?_;refine W.cA (c:=bN F) H aV I I I I I λτ hn H bx=>?_;refine aj ?_;have hg:(iG gs).cells=[iG gs]:=by cases gs<;>rfl
 have sm:(iG gs).val=true:=by cases gs<;>rfl
 refine W.cA (c:=[iG gs]) H hn I I I sm hg λa9 h6 H bb=>?_;refine aj ?_;exact ak.ret ⟨rfl,rfl,H.get _ (.tail _ (.head _)),H.get _ (.head _),U,U,λi o h=>bb _ _ (bx _ _ h)⟩
def c0O(hh:bk (b.aM K) E3 b7z){F:Fm}{gs:List ef}{J:ae}{q:Nat}(h1:J.get q=some (.cells (bN F)))(h2:J.get (q+1)=some (.cells [iG gs]))(ks:Nat->Prop)(zJ:¬ks q/\¬ks (q+1))(lH:gs.length<2^20)(c0P:∀g∈gs,g.hyps.length<2^20/\g.rest.length<2^20):
  Yields (b.aM K) E3 [aE q,aE (q+1)] (uA F gs).length (λi _ _ args=>∃f,(uA F gs)[i]? =some f/\args=[.R (bN f)]) J ks:=by
 intro g_ nf rv cR hy oH Fi hlt iX;refine W.pe hh.e hh.p hh.f I I I λz=>?_;have H:Has rv [(q,bN F),(q+1,[iG gs])]:=(Has.nil.cons (Fi _ _ h2) aF).cons (Fi _ _ h1) aF;have kJ:=c0M (F:=F) (gs:=gs);have c0Q:sR gs 0=1:=rfl;refine aj ?_;refine W.nd I I I (hy 0 ks rv _ (by show 0<_+1;omega) (bs _) ⟨F,rfl,rfl⟩ iX) λr ec ⟨e,a1J,Qs,vv⟩=>⟨_,e,?_⟩
 have iC:=vv.next;have H:Has ec [(q,bN F),(q+1,[iG gs])]:=(Has.nil.cons (vv.aP _ _ zJ.2 (H.get _ (.tail _ (.head _)))) aF).cons (vv.aP _ _ zJ.1 (H.get _ (.head _))) aF;have c0R:∀c,a1J c->c<ec.next:=λc ab=>by
  rcases vv.own c ab with h|h
  ·have:=hlt c h;omega
  ·omega
 have sm:iO ec (some 6) (iG gs) (gs.map ef.A):=Fa λy hy=>by obtain⟨g,_,rfl⟩:=ti.1 hy;rfl
 refine aj ?_;show bL _ _ _ _ _ _ _ _;have step:∀(i:Nat) (V:Nat->Prop) (τ:ae) (f:Fm),(uA F gs)[i]? =some f->rv.next<=τ.next->nf i V τ->bE (b.aM K) 0 g_ [.R (bN f)] τ (λr a9=>r= .ok (.b true)/\∃W',nf (i+1) W' a9/\sL V W' τ a9):=λi V τ f hf hn iX=>hy i V τ _ (jK.1 hf).1 hn ⟨f,hf,rfl⟩ iX;refine ak.each gs.length (λj f τ=>∃V,nf (sR gs j) V τ/\rv.next<=τ.next/\(∀c,V c->c<τ.next)/\sat [(0,g_),(14,iG gs)] f) U ⟨a1J,by rw[c0Q];exact Qs,iC,c0R,rfl,rfl,trivial⟩ I I (λj g τ ax aW hi hm=>?_) (λg τ aW hi=>?_)
 ·obtain⟨V,iX,hn,hV,c5,me,_⟩:=aW;refine ak.norm [(0,g_),(14,iG gs),(16,ah j),(15,ah gs.length)] ⟨c5,me,hi,hm,trivial⟩ λg=>?_;have H:Has τ []:=Has.nil;have sm:iO τ (some 6) (iG gs) (gs.map ef.A):=Fa λy hy=>by obtain⟨g,_,rfl⟩:=ti.1 hy;rfl
  refine aj ?_;have c9C:=c0P _ (gC ax);have ep:=λt x h=>c0K (F:=F) ax (t:=t) (x:=x) h;have kq:=c0L ax;generalize gs[j]=gt at *;refine W.jj (c:=gt.A.cells) H I I I I I I I λa9 c8 H bb=>?_;have Qt:=cR _ _ _ a9 iX (λc o _=>bb c o) U;have Dw:¬V τ.next:=λh=>by have:=hV _ h;omega
  generalize Ra:τ.next=nZ at *;refine aj ?_;refine W.nd I I I (step _ V a9 gt.fH (ep 0 _ I) U Qt) λr bu ⟨e,Rb,c0S,uo⟩=>⟨_,e,?_⟩
  have er:=uo.next;have tF:¬Rb nZ:=λh=>by
   rcases uo.own _ h with h|h
   ·exact Dw h
   ·omega
  have c0T:∀c,Rb c->c<bu.next:=λc ab=>by
   rcases uo.own c ab with h|h
   ·have:=hV c h;omega
   ·omega
  have H:Has bu [(nZ,gt.A.cells)]:=Has.nil.cons (uo.aP _ _ Dw (H.get _ (.head _))) aF;refine aj ?_;show bL _ _ _ _ _ _ _ _;refine ak.each gt.hyps.length (λi f τ=>∃V,nf (sR gs j+1+i) V τ/\τ.get nZ=some (.cells gt.A.cells)/\¬V nZ/\nZ<τ.next/\rv.next<=τ.next/\(∀c,V c->c<τ.next)/\sat [(0,g_),(5,aE nZ),(14,iG gs),(15,ah gs.length),(16,ah j),(26,slA true (some 5) (gt.hyps.map sM))] f) U ⟨Rb,c0S,H.get _ (.head _),tF,U,U,c0T,rfl,rfl,rfl,rfl,rfl,rfl,trivial⟩ I I (λi g τ hG aW hi hm=>?_) (λg τ aW hi=>?_)
  ·obtain⟨V,iX,zY,Rc,HD,hn,hV,c5,dm,me,sS,v7,c0U,_⟩:=aW;refine ak.norm [(0,g_),(5,aE nZ),(14,iG gs),(15,ah gs.length),(16,ah j),(26,slA true (some 5) (gt.hyps.map sM)),(28,ah i),(27,ah gt.hyps.length)] ⟨c5,dm,me,sS,v7,c0U,hi,hm,trivial⟩ λg=>?_;have H:Has τ []:=Has.nil;refine aj ?_;refine W.jj (c:=.b true::bN gt.hyps[i]) H I I I I I I I λcm e_ H b1=>?_;have Re:=cR _ _ _ cm iX (λc o _=>b1 c o) U;refine aj ?_;refine W.nd I I I (step _ V cm gt.hyps[i] (by rw[MJ];exact ep (1+i) _ (by rw[uX];exact(E7 hG).trans (fw hG))) U Re) λr dg ⟨e,Rf,Rg,zZ⟩=>⟨_,e,?_⟩
   have iW:=zZ.next;refine aj ?_;refine⟨rfl,rfl,Rf,Rg,zZ.aP _ _ Rc (b1 _ _ zY),λh=>?_,U,U,λc ab=>?_,rfl,rfl,rfl,rfl,rfl,rfl,trivial⟩
   ·rcases zZ.own _ h with h|h
    ·exact Rc h
    ·omega
   ·rcases zZ.own c ab with h|h
    ·have:=hV c h;omega
    ·omega
  ·obtain⟨V,iX,zY,Rc,HD,hn,hV,c5,dm,me,sS,v7,_⟩:=aW;show bL _ _ _ _ _ _ _ _;refine ak.norm [(0,g_),(5,aE nZ),(14,iG gs),(15,ah gs.length),(16,ah j)] ⟨c5,dm,me,sS,v7,trivial⟩ λg=>?_;have H:Has τ [(nZ,gt.A.cells)]:=Has.nil.cons zY aF;refine aj ?_;refine ak.each gt.rest.length (λi f τ=>∃V,nf (sR gs j+1+gt.hyps.length+i) V τ/\rv.next<=τ.next/\(∀c,V c->c<τ.next)/\sat [(0,g_),(14,iG gs),(15,ah gs.length),(16,ah j),(43,slA true (some 4) (gt.rest.map λF=>.R (bN F)))] f) U ⟨V,iX,hn,hV,rfl,rfl,rfl,rfl,rfl,trivial⟩ I I (λi g τ hG aW hi hm=>?_) (λg τ aW hi=>?_)
   ·obtain⟨V,iX,hn,hV,c5,me,sS,v7,c0V,_⟩:=aW;refine ak.norm [(0,g_),(14,iG gs),(15,ah gs.length),(16,ah j),(43,slA true (some 4) (gt.rest.map λF=>.R (bN F))),(45,ah i),(44,ah gt.rest.length)] ⟨c5,me,sS,v7,c0V,hi,hm,trivial⟩ λg=>?_;have H:Has τ []:=Has.nil;refine aj ?_;refine W.jj (c:=bN gt.rest[i]) H I I I I I I I λcm e_ H b1=>?_;have Re:=cR _ _ _ cm iX (λc o _=>b1 c o) U;refine aj ?_;refine W.nd I I I (step _ V cm gt.rest[i] (by rw[MJ,MJ];exact ep (1+(gt.hyps.length+i)) _ (by rw[uX];exact(a0s (MM _ _)).trans (by rw[Uh];exact fw hG))) U Re) λr dg ⟨e,Rf,Rg,zZ⟩=>⟨_,e,?_⟩
    have iW:=zZ.next;refine aj ?_;refine⟨rfl,rfl,Rf,Rg,U,λc ab=>?_,rfl,rfl,rfl,rfl,rfl,trivial⟩;rcases zZ.own c ab with h|h
    ·have:=hV c h;omega
    ·omega
   ·obtain⟨V,iX,hn,hV,c5,me,sS,v7,_⟩:=aW;exact⟨v7,sS,V,by rw[kq];exact iX,hn,hV,c5,me,trivial⟩
 ·obtain⟨V,iX,_⟩:=aW;exact⟨.inr I,rfl,V,by rw[<-kJ];exact iX⟩
end
abbrev lT(r:dj)(F:Fm)(gs:List ef)(cZ gL:AV):List AV:=r.A.cells++(bN F++[iG gs,cZ,gL])
abbrev rF(a b c:Nat):AV:=.R [fa a,ah b,ah c]
structure FG(r:dj)(gs:List ef):Prop where
 len:gs.length=r.cU.length
 lt:gs.length<2^20
 hy:∀i (h:i<gs.length) (h':i<r.cU.length),(gs[i]).hyps.length=(r.cU[i]).hyps.length
 hl:∀g∈gs,g.hyps.length<2^20/\g.rest.length<2^20
section
variable {b:bT}{K:Nat->List AV->AV->Prop}
def c0W(hh:bk (b.aM K) xy b7s){r:dj}{F:Fm}{gs:List ef}{cZ gL:AV}{J:ae}{aC:Nat}(ao:J.get aC=some (.cells (lT r F gs cZ gL)))(ab:FG r gs):
  bE (b.aM K) 0 (.f (.func xy) [aE aC] []) [] J (λv τ=>v= .ok (rF 0 0 0)/\dN J τ):=by
 refine W.nO hh.e hh.p hh.f I I I λz=>?_;have H:Has J [(aC,lT r F gs cZ gL)]:=Has.nil.cons ao aF;have hlen:=ab.len;have hlt:=ab.lt;refine aj ?_;refine W.cC (c:=[.i .u8 0,ah 0,ah 0]) H I I I I λτ cP H bx=>?_;refine aj ?_;show bL _ _ _ _ _ _ _ _;refine ak.each r.cU.length (λj f aB=>dN τ aB/\sat [(0,aE aC),(2,aE J.next),(22,slA true (some 7) (r.cU.map fh.A))] f) U ⟨⟨bs _,λ_ _ h=>h⟩,rfl,rfl,rfl,trivial⟩ I I (λj g aB ax aW hi hm=>?_) (λg aB aW hi=>?_)
 ·obtain⟨M,c5,bV,c0X,_⟩:=aW;refine ak.norm [(0,aE aC),(2,aE J.next),(22,slA true (some 7) (r.cU.map fh.A)),(24,ah j),(23,ah r.cU.length)] ⟨c5,bV,c0X,hi,hm,trivial⟩ λg=>?_;have H:=H.aP M.2;have hy:=ab.hy j U ax;have hl:=(ab.hl _ (gC (show j<gs.length by omega))).1;refine aj ?_;refine W.cC H I I I I λa9 c8 H bb=>?_;refine aj ?_;refine W.st (bD:=(r.cU[j]).cells) H 0 I I I I I I λbu er H k3=>?_;refine aj ?_;refine⟨rfl,rfl,⟨by have:=M.1;omega,λi o h=>k3 _ _ (by have:=ae.bt (M.2 _ _ h);omega) (bb _ _ (M.2 _ _ h))⟩,rfl,rfl,rfl,trivial⟩
 ·obtain⟨M,c5,bV,_⟩:=aW;refine ak.norm [(2,aE J.next)] ⟨bV,trivial⟩ λg=>?_;have H:Has aB [(J.next,[.i .u8 0,ah 0,ah 0])]:=Has.nil.cons (M.2 _ _ (H.get _ (.head _))) aF;refine aj ?_;refine W.st H 0 I I I I I I λbu er H k3=>?_;refine aj ?_;exact ak.ret ⟨rfl,_,vU (gI I (H.get _ (.head _)) I),rfl,by have:=M.1;omega,λi o h=>k3 _ _ (by have:=ae.bt h;omega) (M.2 _ _ (bx _ _ h))⟩
abbrev nj(p:Fm×Fm):AV:=.R (bN p.1++bN p.2)
abbrev z0(p:Nat×Nat):AV:=rF 2 p.1 p.2
structure rG(J:ae)(dW fK:Nat)(P:List (Fm×Fm))(Q:List (Nat×Nat))(X:Nat->Prop):Prop where
 ex:∃v w,J.get dW=some (.cells [v])/\J.get fK=some (.cells [w])/\Sl J (some 8) v (P.map nj)/\Sl J (some 3) w (Q.map z0)/\(P=[]->v= .af)/\∀o,(v.at? =some o->¬X o/\o≠dW/\o≠fK)/\(w.at? =some o->¬X o/\o≠dW/\o≠fK/\v.at? ≠some o)
def rG.sub{J:ae}{dW fK:Nat}{P:List (Fm×Fm)}{Q:List (Nat×Nat)}{X Rh:Nat->Prop}(h:rG J dW fK P Q X)(hx:∀i,Rh i->i<J.next->X i):rG J dW fK P Q Rh:=by
 obtain⟨v,w,cp,cX,au,hw,hn,hl⟩:=h.ex;exact⟨v,w,cp,cX,au,hw,hn,λo=>⟨λe=>⟨λjV=>((hl o).1 e).1 (hx o jV (au.lt e)),((hl o).1 e).2⟩,λe=>⟨λjV=>((hl o).2 e).1 (hx o jV (hw.lt e)),((hl o).2 e).2⟩⟩⟩
def rG.aP{J τ:ae}{dW fK:Nat}{P:List (Fm×Fm)}{Q:List (Nat×Nat)}{X:Nat->Prop}(h:rG J dW fK P Q X)(k:∀i o,J.get i=some o->τ.get i=some o):rG τ dW fK P Q X:=by
 obtain⟨v,w,cp,cX,au,hw,hn,hl⟩:=h.ex;exact⟨v,w,k _ _ cp,k _ _ cX,au.aP λi o _=>k i o,hw.aP λi o _=>k i o,hn,hl⟩
structure c0Y(X:Nat->Prop)(dW fK:Nat)(J τ:ae):Prop where
 next:J.next<=τ.next
 aP:∀i o,X i->i≠dW->i≠fK->J.get i=some o->τ.get i=some o
def Ri(hh:bk (b.aM K) oC b7A){J:ae}{dW fK:Nat}{X:Nat->Prop}{P:List (Fm×Fm)}{Q:List (Nat×Nat)}(hA:rG J dW fK P Q X)(c9D:dW≠fK)(jV:∀i,X i->i<J.next)(S F:Fm)(i j:Nat)(ed:P.length<2^30)(b6:Q.length<2^30):
  bE (b.aM K) 0 (.f (.func oC) [] [aE dW,aE fK]) [.R (bN S),.R (bN F),ah i,ah j] J (λv τ=>v= .ok (.a0 [])/\rG τ dW fK (P++[(S,F)]) (Q++[(i,j)]) X/\c0Y X dW fK J τ):=by
 refine W.pe hh.e hh.p hh.f I I I λz=>?_;obtain⟨v,w,cp,cX,au,hw,hn,hl⟩:=hA.ex;have b3J:=ae.bt cp;have c9E:=ae.bt cX;have H:Has J [(dW,[v]),(fK,[w])]:=(Has.nil.cons cX aF).cons cp (by simp;omega);refine aj ?_;refine W.cA (c:=bN S) H I I I I I I λτ cP H bx=>?_;refine aj ?_;refine W.cA (c:=bN F) H I I I I I I λa9 c8 H bb=>?_;have c7:∀i o,J.get i=some o->a9.get i=some o:=λi o h=>bb _ _ (bx _ _ h);have sy:=au.aP (τ:=a9) λi o _=>c7 i o;have k7:=hw.aP (τ:=a9) λi o _=>c7 i o;refine aj ?_;refine W.pu (c:=bN S++bN F) (nj (S,F)) sy I I I I I I I I I (by rw[uV];omega) λbR bu pk rr _ er k3=>?_;have hlt:∀o,v.at? =some o->o<J.next:=λo h=>au.lt h;have c0Z:∀o,w.at? =some o->o<J.next:=λo h=>hw.lt h;have H:Has bu [(dW,[v]),(fK,[w])]:=(Has.nil.cons (k3 _ _ (λe=>((hl _).1 e).2.2 I) (c7 _ _ cX)) aF).cons (k3 _ _ (λe=>((hl _).1 e).2.1 I) (c7 _ _ cp)) (by simp;omega);refine aj ?_;refine W.st (bD:=[bR]) H 0 I I I I pk.lP (by rw[pk.mM];rfl) λcm e_ H b1=>?_;have Ft:=k7.aP (τ:=cm) λi o hi ho=>b1 _ _ ((hl i).2 hi).2.1 (k3 _ _ ((hl i).2 hi).2.2.2 ho);refine aj ?_;refine W.pu (c:=[.i .u8 2,ah i,ah j]) (z0 (i,j)) Ft I I I I I I I I I (by rw[uV];omega) λav dg Rj ux _ iW c9=>?_;have H:Has dg [(dW,[bR]),(fK,[w])]:=(Has.nil.cons (c9 _ _ (λe=>((hl _).2 e).2.2.1 I) (H.get _ (.tail _ (.head _)))) aF).cons (c9 _ _ (λe=>((hl _).2 e).2.1 I) (H.get _ (.head _))) (by simp;omega);refine aj ?_;refine W.st (bD:=[av]) H 1 I I I I Rj.lP (by rw[Rj.mM];rfl) λeA jf H et=>?_;refine aj ?_;refine⟨.inr I,rfl,⟨bR,av,H.get _ (.head _),H.get _ (.tail _ (.head _)),?_,?_,λe=>absurd e aF,λo=>⟨λe=>?_,λe=>?_⟩⟩,U,λi o a1K OT c1a ho=>et _ _ c1a (c9 _ _ (λe=>((hl _).2 e).1 a1K) (b1 _ _ OT (k3 _ _ (λe=>((hl _).1 e).1 a1K) (c7 _ _ ho))))⟩
 ·rw[hQ];exact pk.aP λi o hi ho=>et _ _ (λe=>by rw[rr] at hi;cases hi;omega) (c9 _ _ (λe=>by rw[rr] at hi;cases hi;have:=c0Z _ e;omega) (b1 _ _ (λe=>by rw[rr] at hi;cases hi;omega) ho))
 ·rw[hQ];exact Rj.aP λi o hi ho=>et _ _ (λe=>by rw[ux] at hi;cases hi;omega) ho
 ·rw[rr] at e;cases e;exact⟨λh=>by have:=jV _ h;omega,U,U⟩
 ·rw[ux] at e;cases e;exact⟨λh=>by have:=jV _ h;omega,U,U,λe=>by rw[rr] at e;have:=wF e;omega⟩
end
def FH:Fm:=.mk 0 [] none none
def rD(r:dj)(gs:List ef)(j:Nat):List (Fm×Fm):=(List.range j).map λi=>((r.cU.getD i oJ).f,(gs.getD i kd).fH)
def v8(r:dj)(gs:List ef)(i t:Nat):List (Fm×Fm):=(List.range t).map λt=>((r.cU.getD i oJ).hyps.getD t FH,(gs.getD i kd).hyps.getD t FH)
def pr2(r:dj)(gs:List ef):Nat->List (Fm×Fm)
 |0=>[]
 |j+1=>pr2 r gs j++v8 r gs j (gs.getD j kd).hyps.length
def uC(j:Nat):List (Nat×Nat):=(List.range j).map λi=>(i,0)
def v9(i t:Nat):List (Nat×Nat):=(List.range t).map λt=>(i,t+1)
def xS(gs:List ef):Nat->List (Nat×Nat)
 |0=>[]
 |j+1=>xS gs j++v9 j (gs.getD j kd).hyps.length
def nQ(r:dj)(F:Fm)(gs:List ef):List (Fm×Fm):=rD r gs r.cU.length++pr2 r gs r.cU.length++[(r.fH,F)]
def z1(r:dj)(gs:List ef):List (Nat×Nat):=uC r.cU.length++xS gs r.cU.length++[(r.cU.length,0)]
def sT{α:Type}{l:List α}{i:Nat}{d:α}(h:i<l.length):l.getD i d=l[i]:=by rw[yT,fw h];rfl
def Rk{r:dj}{gs:List ef}(h:∀g∈gs,g.hyps.length<2^10):∀ {j:Nat},(pr2 r gs j).length<=j*2^10/\(xS gs j).length<=j*2^10
 |0=>⟨bs _,bs _⟩
 |j+1=>by
  obtain⟨h1,h2⟩:=Rk (r:=r) (gs:=gs) h (j:=j);have:(gs.getD j kd).hyps.length<2^10:=by
   rw[yT];cases hx:gs[j]? with
   |none=>decide
   |some g=>exact h g (fL hx)
  rw[pr2,xS,dv,dv];unfold v8 v9;rw[uV,b7,uV,b7];omega
section
variable {b:bT}{K:Nat->List AV->AV->Prop}(hfn:∀g aQ r b5,K g aQ r->K g aQ b5->r=b5)
include hfn
theorem c1b(hh:bk (b.aM K) xz Zm)(h1:bk (b.aM K) oC b7A)(c1c:b.ext qi=0/\b.pure qi=true){r:dj}{F:Fm}{gs:List ef}{J:ae}{aC:Nat}(ao:J.get aC=some (.cells (lT r F gs .af .af)))(ab:FG r gs)(xd:gs.length<2^10)(FI:∀g∈gs,g.hyps.length<2^10){cZ gL:AV}{at_ e:Nat}
  (lR:∀p∈nQ r F gs,p.1.dep<=200/\p.2.dep<=200) (lC:(AV.R [cZ,gL]).val=true) (fS:e≠0->at_<(z1 r gs).length) (cc:K qi [slA true (some 8) ((nQ r F gs).map nj),.R [.af,.af]] (.a0 [.R [cZ,gL],ah at_,ah e])):
  bE (b.aM K) 0 (.f (.func xz) [aE aC] []) [] J (λv τ=>(if e=0 then v= .ok (rF 0 0 0)/\τ.get aC=some (.cells (lT r F gs cZ gL)) else v= .ok (z0 ((z1 r gs).getD at_ (0,0)))/\τ.get aC=some (.cells (lT r F gs .af .af)))/\J.next<=τ.next/\∀i o,i≠aC->J.get i=some o->τ.get i=some o):=by
 refine W.nO hh.e hh.p hh.f I I I λz=>?_;have H:Has J [(aC,lT r F gs .af .af)]:=Has.nil.cons ao aF;have hlen:=ab.len;have a1L:=ae.bt ao;refine aj ?_;generalize aV:J.next=q;refine W.cC (c:=[.i .u8 0,ah 0,ah 0]) H aV I I I λτ cP H bx=>?_;refine aj ?_;refine W.cC (c:=[.af]) H cP I I I λa9 c8 H bb=>?_;refine aj ?_;refine W.cC (c:=[.af]) H c8 I I I λbu er H k3=>?_;have c7:∀i o,J.get i=some o->bu.get i=some o:=λi o h=>k3 _ _ (bb _ _ (bx _ _ h));refine aj ?_;show bL _ _ _ _ _ _ _ _;have hA0:rG bu (q+1) (q+2) [] [] (λi=>i<q+1):=⟨.af,.af,H.get _ (.tail _ (.head _)),H.get _ (.head _),.nil,.nil,λ_=>rfl,λo=>⟨(λh=>by cases h),(λh=>by cases h)⟩⟩
 have gO:bu.get q=some (.cells [.i .u8 0,ah 0,ah 0]):=H.get _ (.tail _ (.tail _ (.head _)));have um:=c7 _ _ ao;have pv:zo (b.aM K) oC:=(show tW (b.aM K) [oC] from λg hg=>by rw[uT.1 hg];exact⟨h1.e,.inr ⟨h1.p,_,_,h1.f,rfl,rfl⟩⟩).one I;clear H;refine ak.each r.cU.length (λj f τ=>rG τ (q+1) (q+2) (rD r gs j) (uC j) (λi=>i<q+1)/\(∀i o,i<q+1->bu.get i=some o->τ.get i=some o)/\q+3<=τ.next/\sat [(0,aE aC),(2,aE q),(3,aE (q+1)),(4,aE (q+2)),(5,.f (.func oC) [] [aE (q+1),aE (q+2)]),(20,slA true (some 7) (r.cU.map fh.A))] f) U ⟨hA0,λ_ _ _ h=>h,U,rfl,rfl,rfl,rfl,rfl,rfl,trivial⟩ I I (λj g τ ax aW hi hm=>?_) (λg τ aW hi=>?_)
 ·obtain⟨hA,dr,hn,c5,bV,cp,cX,dm,Rl,_⟩:=aW;refine ak.norm [(0,aE aC),(2,aE q),(3,aE (q+1)),(4,aE (q+2)),(5,.f (.func oC) [] [aE (q+1),aE (q+2)]),(20,slA true (some 7) (r.cU.map fh.A)),(22,ah j),(21,ah r.cU.length)] ⟨c5,bV,cp,cX,dm,Rl,hi,hm,trivial⟩ λg=>?_;have H:Has τ [(aC,lT r F gs .af .af)]:=Has.nil.cons (dr _ _ U um) aF;refine aj ?_;refine W.cC H I I I I λhq rC H cF=>?_;refine aj ?_;refine W.st (bD:=(r.cU[j]).cells) H 0 I I I I I I λjm pV H jn=>?_;have rE:∀i o,τ.get i=some o->jm.get i=some o:=λi o h=>jn _ _ (by have:=ae.bt h;omega) (cF _ _ h);refine aj ?_;refine W.an pv I I I (Ri h1 (hA.aP rE) U (λi hi=>by omega) (r.cU[j]).f (gs[j]'U).fH j 0 (by unfold rD;rw[uV,b7];omega) (by unfold uC;rw[uV,b7];omega)) λv lS ⟨ar,kO,ay⟩=>⟨_,ar,?_⟩
  have A5:=ay.next;have H:Has lS [(aC,lT r F gs .af .af)]:=Has.nil.cons (ay.aP _ _ U U U (rE _ _ (dr _ _ U um))) aF;refine aj ?_;refine⟨rfl,rfl,?_,λi o hi ho=>ay.aP _ _ hi U U (rE _ _ (dr _ _ hi ho)),U,rfl,rfl,rfl,rfl,rfl,rfl,trivial⟩;have aL:rD r gs (j+1)=rD r gs j++[((r.cU[j]).f,(gs[j]'U).fH)]:=by
   unfold rD;rw[xD,hQ,uW,B2,sT ax,sT U]
  have a5:uC (j+1)=uC j++[(j,0)]:=by unfold uC;rw[xD,hQ];rfl
  rw[aL,a5];exact kO
 ·obtain⟨hA,dr,hn,c5,bV,cp,cX,dm,_⟩:=aW;show bL _ _ _ _ _ _ _ _;refine ak.norm [(0,aE aC),(2,aE q),(3,aE (q+1)),(4,aE (q+2)),(5,.f (.func oC) [] [aE (q+1),aE (q+2)])] ⟨c5,bV,cp,cX,dm,trivial⟩ λg=>?_;have H:Has τ [(aC,lT r F gs .af .af)]:=Has.nil.cons (dr _ _ U um) aF;refine aj ?_;show bL _ _ _ _ _ _ _ _;have jM:(rD r gs r.cU.length).length=r.cU.length/\(uC r.cU.length).length=r.cU.length:=by unfold rD uC;simp
  refine ak.each r.cU.length (λj f τ=>rG τ (q+1) (q+2) (rD r gs r.cU.length++pr2 r gs j) (uC r.cU.length++xS gs j) (λi=>i<q+1)/\(∀i o,i<q+1->bu.get i=some o->τ.get i=some o)/\q+3<=τ.next/\sat [(0,aE aC),(2,aE q),(3,aE (q+1)),(4,aE (q+2)),(5,.f (.func oC) [] [aE (q+1),aE (q+2)]),(45,slA true (some 7) (r.cU.map fh.A))] f) U ⟨by rw[pr2,xS,iL,iL];exact hA,dr,hn,rfl,rfl,rfl,rfl,rfl,rfl,trivial⟩ I I (λj g τ ax aW hi hm=>?_) (λg τ aW hi=>?_)
  ·obtain⟨hA,dr,hn,c5,bV,cp,cX,dm,FJ,_⟩:=aW;refine ak.norm [(0,aE aC),(2,aE q),(3,aE (q+1)),(4,aE (q+2)),(5,.f (.func oC) [] [aE (q+1),aE (q+2)]),(45,slA true (some 7) (r.cU.map fh.A)),(47,ah j),(46,ah r.cU.length)] ⟨c5,bV,cp,cX,dm,FJ,hi,hm,trivial⟩ λg=>?_;have H:Has τ [(aC,lT r F gs .af .af)]:=Has.nil.cons (dr _ _ U um) aF;have hy:=ab.hy j U ax;have z2:gs.getD j kd=gs[j]'U:=sT U;have c1d:r.cU.getD j oJ=r.cU[j]:=sT ax;have c1e:=FI _ (gC (show j<gs.length by omega));obtain⟨l4,w7⟩:=Rk (r:=r) FI (j:=j);refine aj ?_;refine W.cC H I I I I λhq rC H cF=>?_;refine aj ?_;refine W.st (bD:=(r.cU[j]).cells) H 0 I I I I I I λjm pV H jn=>?_;have rE:∀i o,τ.get i=some o->jm.get i=some o:=λi o h=>jn _ _ (by have:=ae.bt h;omega) (cF _ _ h);refine aj ?_;show bL _ _ _ _ _ _ _ _;have Co:jm.get τ.next=some (.cells (r.cU[j]).cells):=H.get _ (.head _);have c1f:=(hA.sub (Rh:=λi=>i<q+1\/i=τ.next) (λi hi hlt=>by rcases hi with h|h;exact h;omega)).aP rE;have c9F:τ.next<jm.next:=by omega
   have c9G:=hn;generalize τ.next=Cp at *;clear H;have c9H:(gs[j]'U).hyps.length=(r.cU[j]).hyps.length:=hy;refine ak.each (gs[j]'U).hyps.length (λt f τ=>rG τ (q+1) (q+2) (rD r gs r.cU.length++(pr2 r gs j++v8 r gs j t)) (uC r.cU.length++(xS gs j++v9 j t)) (λi=>i<q+1\/i=Cp)/\(∀i o,i<q+1->bu.get i=some o->τ.get i=some o)/\τ.get Cp=some (.cells (r.cU[j]).cells)/\q+3<=τ.next/\sat [(0,aE aC),(2,aE q),(3,aE (q+1)),(4,aE (q+2)),(5,.f (.func oC) [] [aE (q+1),aE (q+2)]),(8,ah j),(9,aE Cp),(45,slA true (some 7) (r.cU.map fh.A)),(47,ah j),(46,ah r.cU.length),(59,slA true (some 5) ((gs[j]'U).hyps.map sM))] f) U ⟨?_,λi o hi ho=>rE _ _ (dr _ _ hi ho),Co,U,rfl,rfl,rfl,rfl,rfl,rfl,rfl,rfl,rfl,rfl,rfl,trivial⟩ I I (λt g τ ht aW hi hm=>?_) (λg τ aW hi=>?_)
   ·have aL:v8 r gs j 0=[]:=rfl;have a5:v9 j 0=[]:=rfl;rw[aL,a5,iL,iL];exact c1f
   ·obtain⟨hA,dr,Co,hn,c5,bV,cp,cX,dm,gM,sP,FJ,Fv,Rm,Rn,_⟩:=aW;refine ak.norm [(0,aE aC),(2,aE q),(3,aE (q+1)),(4,aE (q+2)),(5,.f (.func oC) [] [aE (q+1),aE (q+2)]),(8,ah j),(9,aE Cp),(45,slA true (some 7) (r.cU.map fh.A)),(47,ah j),(46,ah r.cU.length),(59,slA true (some 5) ((gs[j]'U).hyps.map sM)),(61,ah t),(60,ah (gs[j]'U).hyps.length)] ⟨c5,bV,cp,cX,dm,gM,sP,FJ,Fv,Rm,Rn,hi,hm,trivial⟩ λg=>?_;have H:Has τ [(Cp,(r.cU[j]).cells)]:=Has.nil.cons Co aF;refine aj ?_;refine W.cC H I I I I λhq rC H cF=>?_;refine aj ?_;refine W.st (bD:=.b true::bN (gs[j]'U).hyps[t]) H 0 I I I I I I λjm pV H jn=>?_;have rE:∀i o,τ.get i=some o->jm.get i=some o:=λi o h=>jn _ _ (by have:=ae.bt h;omega) (cF _ _ h);have c9I:=ae.bt Co;have pb:(v8 r gs j t).length=t/\(v9 j t).length=t:=by unfold v8 v9;simp
    refine aj ?_;refine W.an pv I I I (Ri h1 (hA.aP rE) U (λi hi=>by omega) ((r.cU[j]).hyps[t]'U) (gs[j]'U).hyps[t] j (t+1) (by rw[dv,dv];omega) (by rw[dv,dv];omega)) λv lS ⟨ar,kO,ay⟩=>⟨_,ar,?_⟩
    have A5:=ay.next;have H:Has lS [(Cp,(r.cU[j]).cells)]:=Has.nil.cons (ay.aP _ _ (.inr I) U U (rE _ _ Co)) aF;refine aj ?_;refine⟨rfl,rfl,?_,λi o hi ho=>ay.aP _ _ (.inl hi) U U (rE _ _ (dr _ _ hi ho)),H.get _ (.head _),U,rfl,rfl,rfl,rfl,rfl,rfl,rfl,rfl,rfl,rfl,rfl,trivial⟩;have aL:v8 r gs j (t+1)=v8 r gs j t++[((r.cU[j]).hyps[t]'U,(gs[j]'U).hyps[t])]:=by
     unfold v8;rw[xD,hQ,uW,B2,z2,c1d,sT U,sT ht]
    have a5:v9 j (t+1)=v9 j t++[(j,t+1)]:=by unfold v9;rw[xD,hQ];rfl
    rw[aL,a5,← iE,← iE,← iE,← iE];rw[<-iE,← iE] at kO;exact kO
   ·obtain⟨hA,dr,Co,hn,c5,bV,cp,cX,dm,gM,sP,FJ,Fv,Rm,_⟩:=aW;refine⟨Fv,Rm,?_,dr,hn,c5,bV,cp,cX,dm,FJ,trivial⟩;rw[pr2,xS,z2];exact hA.sub λi hi _=>.inl hi
  ·obtain⟨hA,dr,hn,c5,bV,cp,cX,dm,_⟩:=aW;show bL _ _ _ _ _ _ _ _;refine ak.norm [(0,aE aC),(2,aE q),(3,aE (q+1)),(4,aE (q+2)),(5,.f (.func oC) [] [aE (q+1),aE (q+2)])] ⟨c5,bV,cp,cX,dm,trivial⟩ λg=>?_;have H:Has τ [(aC,lT r F gs .af .af)]:=Has.nil.cons (dr _ _ U um) aF;obtain⟨l4,w7⟩:=Rk (r:=r) FI (j:=r.cU.length);refine aj ?_;refine W.an pv I I I (Ri h1 hA U (λi hi=>by omega) r.fH F r.cU.length 0 (by rw[dv];omega) (by rw[dv];omega)) λv lS ⟨ar,kO,ay⟩=>⟨_,ar,?_⟩
   have A5:=ay.next;have yO:∀i o,i<q+1->bu.get i=some o->lS.get i=some o:=λi o hi ho=>ay.aP _ _ hi U U (dr _ _ hi ho);obtain⟨v,w,c1g,c1h,au,hw,qp,hl⟩:=kO.ex;have H:Has lS [(q+1,[v]),(q+2,[w]),(aC,lT r F gs .af .af),(q,[.i .u8 0,ah 0,ah 0])]:=(((Has.nil.cons (yO _ _ U gO) aF).cons (yO _ _ U um) (by simp;omega)).cons c1h (by simp;omega)).cons c1g (by simp;omega);refine aj ?_;refine W.e3 hfn c1c cc I I I ?_ ?_
   ·refine nF ?_ I;refine Sl.zX (m:=b.bp+999) au (λe=>absurd (congrArg List.length e) aF) ?_;have:=zO (f:=bM lS (b.bp+999)) (g:=λx=>x) (l:=(nQ r F gs).map nj) (λy hy=>by
     obtain⟨xK,FK,rfl⟩:=ti.1 hy;obtain⟨d1,d2⟩:=lR _ FK;have b2:∀F:Fm,F.dep<=200->mapO (bM lS (b.bp+998)) (bN F)=some (bN F):=λF hd=>by
      have:=Fm.snap lS true _ F (b.bp+999) (bs _) U;rw[jk] at this;obtain⟨e2,aX,bc⟩:=zl this;cases bc;exact aX
     exact ox (xQ (b2 _ d1) (b2 _ d2)))
    rwa[Ka] at this
   refine aj ?_;refine W.cC H I I I I λsO dX H cI=>?_;refine aj ?_;refine W.st (bD:=[cZ,gL]) H 0 I I I I I I λsQ ne H Cj=>?_;have Ro:∀i o,lS.get i=some o->sQ.get i=some o:=λi o h=>Cj _ _ (by have:=ae.bt h;omega) (cI _ _ h);refine aj ?_;by_cases he:e=0
   ·subst he;refine aj ?_;refine W.st (bD:=lT r F gs cZ gL) H 3 I I I I I I λFy eh H xN=>?_;refine aj ?_;refine W.st H 4 I I I I I I λQO a1k H zT=>?_;refine aj ?_;refine ak.ret ⟨rfl,_,vU (gI I (H.get _ (.tail _ (.tail _ (.tail _ (.tail _ (.head _)))))) I),?_,U,λi o hi ho=>zT _ _ (by have:=ae.bt ho;omega) (xN _ _ hi (Ro _ _ (yO _ _ (by have:=ae.bt ho;omega) (c7 _ _ ho))))⟩;rw[if_pos I];exact⟨rfl,H.get _ (.tail _ (.tail _ (.tail _ (.head _))))⟩
   ·have a1M:=fS he;have c1i:=hw.aP (τ:=sQ) λi o _=>Ro i o;obtain⟨o,c,pX,_,kT,jx,mH,iq⟩:=c1i.fU (j:=at_) (by rw[uV];exact a1M);rw[mQ] at mH iq;refine aj ?_;refine W.eR I I I I kT ?_;refine aj ?_;refine W.ur jx I I I iq ?_;refine aj ?_;refine W.st H 4 I I I I I I λQO a1k H zT=>?_;refine aj ?_;refine ak.ret ⟨rfl,_,vU (gI I (H.get _ (.tail _ (.tail _ (.tail _ (.tail _ (.head _)))))) I),?_,U,λi o hi ho=>zT _ _ (by have:=ae.bt ho;omega) (Ro _ _ (yO _ _ (by have:=ae.bt ho;omega) (c7 _ _ ho)))⟩;rw[if_neg he];refine⟨?_,H.get _ (.tail _ (.tail _ (.tail _ (.head _))))⟩;rw[sT a1M];rfl
end
section
variable {b:bT}{K:Nat->List AV->AV->Prop}
def c1j(hh:bk (b.aM K) BZ b7M){cZ:AV}{bO:List Nat}{J:ae}:
  bE (b.aM K) 0 (.f (.func BZ) [] []) [.R [cZ,.af],.s bO] J (λv τ=>v= .ok (.a0 [.R [.b false,.s [],.af],.b false])/\dN J τ):=by
 refine W.nO hh.e hh.p hh.f I I I λz=>?_;have H:Has J []:=Has.nil;refine aj ?_;refine W.cA (c:=[cZ,.af]) H I I I I I I λτ cP H bx=>?_;refine aj ?_;refine W.cC (c:=[.b false,.s [],.af]) H I I I I λa9 c8 H bb=>?_;refine aj ?_;show bL _ _ _ _ _ _ _ _;refine ak.each 0 (λj f aB=>dN a9 aB/\sat [(4,aE (J.next+1))] f) U ⟨⟨bs _,λ_ _ h=>h⟩,(by show aE _=aE _;rw[cP]),trivial⟩ I I (λj g aB ax aW hi hm=>by omega) (λg aB aW hi=>?_);obtain⟨M,cX,_⟩:=aW;refine ak.norm [(4,aE (J.next+1))] ⟨cX,trivial⟩ λg=>?_;have H:Has aB [(J.next+1,[.b false,.s [],.af])]:=Has.nil.cons (M.2 _ _ (by rw[<-cP];exact H.get _ (.head _))) aF;refine aj ?_;refine W.st H 0 I I I I I I λbu er H k3=>?_;refine aj ?_;exact ak.ret ⟨rfl,_,jF (gI I (H.get _ (.head _)) I) (ku I),rfl,by have:=M.1;omega,λi o h=>k3 _ _ (by have:=ae.bt h;omega) (M.2 _ _ (bb _ _ (bx _ _ h)))⟩
def c1k(hh:bk (b.aM K) J6 b7K){xT k:Nat}{ct:AV}(kH:ct= .f (.func uh) [] [aE k,aE (k+1)]){J:ae}(bI:J.get xT=some (.cells [.af])):
  bE (b.aM K) 0 (.f (.func J6) [] [aE xT]) [.i .u8 7,ct] J (λv τ=>v= .ok (.a0 [])/\J.next<=τ.next/\(∃x y w,τ.get xT=some (.cells [w])/\Sl τ none w [.f (.func vP) [] [aE x,aE y]]/\J.next<=x/\J.next<=y/\(∀o,w.at? =some o->J.next<=o)/\τ.get x=some (.cells [ct])/\τ.get y=some (.cells [.i .u8 7]))/\∀i o,i≠xT->J.get i=some o->τ.get i=some o):=by
 subst kH;refine W.pe hh.e hh.p hh.f I I I λz=>?_;have H:Has J [(xT,[.af])]:=Has.nil.cons bI aF;have sU:=ae.bt bI;refine aj ?_;generalize aV:J.next=q;refine W.cA (c:=[.i .u8 7]) H aV I I I I I λτ cP H bx=>?_;refine aj ?_;refine W.cA (c:=[.f (.func uh) [] [aE k,aE (k+1)]]) H cP I I I I I λa9 c8 H bb=>?_;refine aj ?_;refine W.pu (c:=[.f (.func vP) [] [aE (q+1),aE q]]) (.f (.func vP) [] [aE (q+1),aE q]) Sl.nil I I I I I I I I I (by show(3*(0+1)+2000)*8<=_;omega) λbR bu pk rr _ er k3=>?_;have c7:∀i o,a9.get i=some o->bu.get i=some o:=λi o h=>k3 i o (λe=>by cases e) h;have H:=H.aP c7;refine aj ?_;refine W.st (bD:=[bR]) H 2 I I I I pk.lP (by rw[pk.mM];rfl) λcm e_ H b1=>?_;refine aj ?_;refine⟨.inr I,rfl,U,⟨q+1,q,bR,H.get _ (.tail _ (.tail _ (.head _))),pk.aP λi o hi=>b1 _ _ (λe=>by rw[rr] at hi;cases hi;omega),U,U,λo ho=>by rw[rr] at ho;cases ho;omega,H.get _ (.head _),H.get _ (.tail _ (.head _))⟩,λi o hi ho=>b1 _ _ hi (c7 _ _ (bb _ _ (bx _ _ ho)))⟩
def c1l(hh:bk (b.aM K) uh ZN){sV z3:Nat}{p:fh}(aw:p.closed=false){J:ae}(dI:J.get sV=some (.cells p.cells)):
  bE (b.aM K) 0 (.f (.func uh) [] [aE sV,aE z3]) [] J (λv τ=>v= .ok (.a0 [ah 0,.b false])/\dN J τ):=by
 refine W.nO hh.e hh.p hh.f I I I λz=>?_;have H:Has J [(sV,p.cells)]:=Has.nil.cons dI aF;refine aj ?_;rw[aw];refine aj ?_;exact ak.ret ⟨rfl,_,rfl,rfl,bs _,λ_ _ h=>h⟩
def c1m(hh:bk (b.aM K) vP b7L)(cx:bk (b.aM K) uh ZN){sV z3 x y k:Nat}{p:fh}(aw:p.closed=false){J:ae}(dI:J.get sV=some (.cells p.cells))(hx:J.get x=some (.cells [.f (.func uh) [] [aE sV,aE z3]]))(hy:J.get y=some (.cells [fa k])):
  bE (b.aM K) 0 (.f (.func vP) [] [aE x,aE y]) [] J (λv τ=>v= .ok (.a0 [fa k,ah 0,.b false])/\dN J τ):=by
 refine W.nO hh.e hh.p hh.f I I I λz=>?_;have a7:x≠y:=λe=>by subst e;rw[hx] at hy;cases hy
 have H:Has J [(x,[.f (.func uh) [] [aE sV,aE z3]]),(y,[fa k])]:=(Has.nil.cons hy aF).cons hx (by simp;omega);refine aj ?_;refine W.nd I I I (c1l cx aw dI) λr τ ⟨e,M⟩=>⟨_,e,?_⟩
 have H:=H.aP M.2;refine aj ?_;exact ak.ret ⟨rfl,_,rfl,rfl,M⟩
end
structure Rp(b:bT)(r:dj)(gs:List ef):Prop where
 P:∀J,bM J (b.bp+1000) (slA true (some 7) (r.cU.map fh.A))=some (slA true (some 7) (r.cU.map fh.A))
 p:∀p∈r.cU,∀J,bM J (b.bp+1000) p.A=some p.A
 G:∀J,bM J (b.bp+1000) (iG gs)=some (iG gs)
 g:∀g∈gs,∀J,bM J (b.bp+1000) g.A=some g.A
structure Cq(b:bT)(K:Nat->List AV->AV->Prop):Prop where
 Rq:bk (b.aM K) PX Zz
 c1n:bk (b.aM K) J6 b7K
 c1o:bk (b.aM K) vP b7L
 c1p:bk (b.aM K) uh ZN
 KN:bk (b.aM K) BZ b7M
 Rr:bk (b.aM K) Pu Jq
section
variable {b:bT}{K:Nat->List AV->AV->Prop}
def Cq.one(h:Cq b K):zo (b.aM K) BZ:=(show tW (b.aM K) [BZ,Pu] from λg hg=>by
 rcases dB.1 hg with rfl|hg
 ·exact⟨h.KN.e,.inr ⟨h.KN.p,_,_,h.KN.f,rfl,rfl⟩⟩
 ·rw[uT.1 hg];exact⟨h.Rr.e,.inr ⟨h.Rr.p,_,_,h.Rr.f,rfl,rfl⟩⟩).one I
def c1q(hh:Cq b K){r:dj}{F:Fm}{gs:List ef}{cZ:AV}{J:ae}{aC:Nat}(ao:J.get aC=some (.cells (lT r F gs cZ .af)))(hn:Rp b r gs)(uD:AV.eqb (b.aM K).bp (.R [cZ,.af]) (.R [cZ,.af])=true)(j:Nat)(h1:j<r.cU.length)(h2:j<gs.length)(hl:r.cU.length<2^20/\gs.length<2^20)(bH:(r.cU[j]).closed=false):
  bE (b.aM K) 0 (.f (.func PX) [] []) [aE aC,ah j] J (λv τ=>(∃w x y sV z3,v= .ok w/\Sl τ none w [.f (.func vP) [] [aE x,aE y]]/\τ.get x=some (.cells [.f (.func uh) [] [aE sV,aE z3]])/\τ.get y=some (.cells [.i .u8 7])/\τ.get sV=some (.cells (r.cU[j]).cells))/\dN J τ):=by
 refine W.code hh.Rq.e hh.Rq.p hh.Rq.f I I I I λz=>?_;have a1L:=ae.bt ao;have H:Has J [(aC,lT r F gs cZ .af)]:=Has.nil.cons ao aF;refine aj ?_;generalize aV:J.next=q;refine W.cA (c:=[aE aC]) H aV I I I I I λτ cP H bx=>?_;refine aj ?_;refine W.cC (c:=[.af]) H cP I I I λa9 c8 H bb=>?_;refine aj ?_;refine W.l8 H I I I (.tail _ (.tail _ (.head _))) I (Snp.eqb _ _ hn.P) ?_;refine aj ?_;refine W.sD (v:=(r.cU[j]).A) I I I (λs=>ou _ _ I I) (Snp.eqb _ _ (hn.p _ (gC h1))) ?_;refine aj ?_;refine W.l8 H I I I (.tail _ (.tail _ (.head _))) I (Snp.eqb _ _ hn.G) ?_;refine aj ?_;refine W.sD (v:=(gs[j]).A) I I I (λs=>ou _ _ I I) (Snp.eqb _ _ (hn.g _ (gC h2))) ?_;refine aj ?_;refine W.cC (c:=[.af,.i .u8 0,.s [],.af,.af,.s [],.b false]) H c8 I I I λbu er H k3=>?_;refine aj ?_;refine W.cC (c:=[.i .u8 0,.s [],.af,.af,.af,.af]) H er I I I λcm e_ H b1=>?_;refine aj ?_;refine W.st (bD:=(r.cU[j]).cells) H 1 I I I I I I λdg iW H c9=>?_;refine aj ?_;refine W.st (bD:=(gs[j]).A.cells) H 0 I I I I I I λeA jf H et=>?_;have c7:∀i o,J.get i=some o->eA.get i=some o:=λi o h=>et _ _ (by have:=ae.bt h;omega) (c9 _ _ (by have:=ae.bt h;omega) (b1 _ _ (k3 _ _ (bb _ _ (bx _ _ h)))));refine aj ?_;refine W.l8 H I I I (.tail _ (.tail _ (.tail _ (.tail _ (.head _))))) I uD ?_;refine aj ?_;refine W.cC (c:=[.b false,.s [],.af]) H I I I I λeW k6 H gk=>?_;refine aj ?_;refine W.an hh.one I I I (c1j hh.KN) λv fI ⟨e,iP⟩=>⟨_,e,?_⟩
 have Ky:=iP.1;have H:=H.aP iP.2;refine aj ?_;refine W.st H 0 I I I I I I λke sk H kN=>?_;have c1r:∀i o,J.get i=some o->ke.get i=some o:=λi o h=>kN _ _ (by have:=ae.bt h;omega) (iP.2 _ _ (gk _ _ (c7 _ _ h)));refine aj ?_;refine W.nd I I I (c1k hh.c1n (k:=q+2) I (H.get _ (.tail _ (.tail _ (.tail _ (.head _)))))) λv hq ⟨e,rC,⟨x,y,w,c1s,hw,hx,hy,xJ,Rs,Rt⟩,cF⟩=>⟨_,e,?_⟩
 have H:Has hq [(q+1,[w]),(q+2,(r.cU[j]).cells)]:=(Has.nil.cons (cF _ _ U (H.get _ (.tail _ (.tail _ (.head _))))) aF).cons c1s aF;refine aj ?_;exact ak.ret ⟨rfl,⟨w,x,y,q+2,q+3,rfl,hw,Rs,Rt,H.get _ (.tail _ (.head _))⟩,U,λi o h=>cF _ _ (by have:=ae.bt h;omega) (c1r _ _ h)⟩
def c1t(hn:bk (b.aM K) xA b7t)(hh:Cq b K){r:dj}{F:Fm}{gs:List ef}{cZ:AV}{J:ae}{aC:Nat}(ao:J.get aC=some (.cells (lT r F gs cZ .af)))(cQ:Rp b r gs)(uD:AV.eqb (b.aM K).bp (.R [cZ,.af]) (.R [cZ,.af])=true)(hl:r.cU.length<2^20)(lH:gs.length=r.cU.length)(bH:∀p∈r.cU,p.closed=false):
  bE (b.aM K) 0 (.f (.func xA) [aE aC] []) [] J (λv τ=>v= .ok (rF 0 0 0)/\dN J τ):=by
 refine W.nO hn.e hn.p hn.f I I I λz=>?_;have a1L:=ae.bt ao;have H:Has J [(aC,lT r F gs cZ .af)]:=Has.nil.cons ao aF;refine aj ?_;generalize aV:J.next=q;refine W.cC (c:=[.i .u8 0,ah 0,ah 0]) H aV I I I λτ cP H bx=>?_;refine aj ?_;show bL _ _ _ _ _ _ _ _;refine ak.each r.cU.length (λj f aB=>dN τ aB/\sat [(0,aE aC),(2,aE q)] f) U ⟨⟨bs _,λ_ _ h=>h⟩,rfl,rfl,trivial⟩ I I (λj g aB ax aW hi hm=>?_) (λg aB aW hi=>?_)
 ·obtain⟨M,c5,bV,_⟩:=aW;refine ak.norm [(0,aE aC),(2,aE q),(15,ah j),(14,ah r.cU.length)] ⟨c5,bV,hi,hm,trivial⟩ λg=>?_;have H:=H.aP M.2;refine aj ?_;refine W.an trivial I I I (c1q hh (M.2 _ _ (bx _ _ ao)) cQ uD j ax U U (bH _ (gC ax))) λv a9 ⟨⟨w,x,y,sV,z3,e,hw,Rs,Rt,hH⟩,M2⟩=>⟨_,e,?_⟩
  have ee:dN τ a9:=⟨by have:=M.1;have:=M2.1;omega,λi o h=>M2.2 _ _ (M.2 _ _ h)⟩
  have Ru:=hw.vw;have o5:[AV.f (.func vP) [] [aE x,aE y]].length=1:=rfl;refine aj ?_;show bL _ _ _ _ _ _ _ _;refine ak.each 1 (λt f aB=>dN a9 aB/\sat [(0,aE aC),(2,aE q),(15,ah j),(14,ah r.cU.length),(20,w)] f) U ⟨⟨bs _,λ_ _ h=>h⟩,rfl,rfl,rfl,rfl,rfl,trivial⟩ I I (λt g aB ht aW hi hm=>?_) (λg aB aW hi=>?_)
  ·obtain⟨M,c5,bV,sS,me,Rl,_⟩:=aW;refine ak.norm [(0,aE aC),(2,aE q),(15,ah j),(14,ah r.cU.length),(20,w),(22,ah t),(21,ah 1)] ⟨c5,bV,sS,me,Rl,hi,hm,trivial⟩ λg=>?_;have H:Has aB []:=Has.nil;have Ru:=(hw.aP (τ:=aB) λi o _=>M.2 i o).vw;obtain rfl:t=0:=by omega
   refine aj ?_;refine W.nd I I I (c1m hh.c1o hh.c1p (bH _ (gC ax)) (M.2 _ _ hH) (M.2 _ _ Rs) (M.2 _ _ Rt)) λv bu ⟨e,fp⟩=>⟨_,e,?_⟩
   refine aj ?_;exact⟨rfl,rfl,⟨by have:=M.1;have:=fp.1;omega,λi o h=>fp.2 _ _ (M.2 _ _ h)⟩,rfl,rfl,rfl,rfl,rfl,trivial⟩
  ·obtain⟨M,c5,bV,sS,me,_⟩:=aW;exact⟨sS,me,⟨by have:=M.1;have:=ee.1;omega,λi o h=>M.2 _ _ (ee.2 _ _ h)⟩,c5,bV,trivial⟩
 ·obtain⟨M,c5,bV,_⟩:=aW;show bL _ _ _ _ _ _ _ _;refine ak.norm [(2,aE q)] ⟨bV,trivial⟩ λg=>?_;have H:Has aB [(q,[.i .u8 0,ah 0,ah 0])]:=Has.nil.cons (M.2 _ _ (H.get _ (.head _))) aF;refine aj ?_;refine W.st H 0 I I I I I I λbu er H k3=>?_;refine aj ?_;exact ak.ret ⟨rfl,_,vU (gI I (H.get _ (.head _)) I),rfl,by have:=M.1;omega,λi o h=>k3 _ _ (by have:=ae.bt h;omega) (M.2 _ _ (bx _ _ h))⟩
end
end
section
def a1O(d:Nat)(rs:List (Nat×Option (Option Nat)))(r:AV):dZ:=λx f ai=>x= .ret/\ai.get d=some .eE/\∃v,uu (ai.set d .dead) f rs=some v/\freeze (ai.set d .dead) 0 1000 v=some r
def a1P{P:Program}{b:bT}{K:Nat->List AV->AV->Prop}(hb:jR P b)(c0:tV P b K){g:Nat}{fn:aN}{body:bF}{aQ:List AV}{d:Nat}(r:AV)(hf:b.funcs.get g=some fn)(iU:fn.body=some body)
  (hn:(Nat.beq aQ.length fn.j0&&Nat.ble aQ.length fn.ntmps)=true) (hd:cD (λr=>Nat.blt r.1 fn.ntmps) fn.results=true) {ad:Nat} (aq:fk ad r=true) (iT:AV.eqb 1000 r r=true)
  (h:dQ (b.aM K) [] [.inl d] fn.ntmps body (fv aQ) ⟨.nil,0⟩ (a1O d fn.results r)) (bz:Nat):SpecEntry P (b.env []) bz g aQ r:=by
 have hle:aQ.length<=fn.ntmps:=by
  simp only[C2] at hn;exact pL hn.2
 refine IJ (env:=b.aM K) (m:=1000) (IF _ _) ⟨λg b3 hg=>m6.zh hb.funcs g b3 hg⟩ (λbz g aQ r ao=>c0 g aQ r (IL ao) bz) hb.ext hb.Bu hf iU hn aq ((h _ (vy hle)).mono λx ad ai ⟨f,h1,h2,h3,v,aO,bI⟩=>?_) iT bz;subst h2;exact⟨.ok v,_,a0R h1 h3 hd aO,_,rfl,bI⟩
def dQ.args{env:Env}{D mD:List (Nat ⊕ (AV×List AV))}{n:Nat}{c:bF}{wS:List AV}{J:ae}{Q:dZ}(h:∀z,dQ env D mD n c (bB (W.pg 0 wS) z) J Q):dQ env D mD n c (fv wS) J Q:=by
 have kL:bB (W.pg 0 wS) (fv wS)=fv wS:=Er (W.Ja _ 0 λj a e=>by show wS.getD (0+j) ei=a;rw[NS,yT,e];rfl);have:=h (fv wS);rwa[kL] at this
def a1Q{J:ae}{cZ:AV}{a b c d:Nat}(h:freeze J 0 998 cZ=some cZ):freeze J 0 1000 (.a0 [.R [cZ,.af],rF a b c,ah d])=some (.a0 [.R [cZ,.af],rF a b c,ah d]):=by
 have h1:freeze J 0 999 (.R [cZ,.af])=some (.R [cZ,.af]):=by
  rw[freeze_succ];show(match mapO (freeze J 0 998) [cZ,.af] with|none=>none|some l=>some (AV.R l))=_;rw[mapO_cons,h];rfl
 rw[freeze_succ];show(match mapO (freeze J 0 999) [.R [cZ,.af],rF a b c,ah d] with|none=>none|some l=>some (AV.a0 l))=_;rw[mapO_cons,h1];rfl
attribute [local irreducible] cg bL dC eu bE
structure a1R(b:bT)(K:Nat->List AV->AV->Prop):Prop where
 pd:bk (b.aM K) J4 b7r
 a1S:bk (b.aM K) E3 b7z
 c1u:bk (b.aM K) xy b7s
 FN:bk (b.aM K) xz Zm
 c1v:bk (b.aM K) oC b7A
 FO:bk (b.aM K) xA b7t
 aI:Cq b K
 c1w:b.ext qi=0/\b.pure qi=true
 pX:b.ext xB=0/\b.pure xB=true
 c1x:b.ext kb=0/\b.pure kb=true
section
variable {b:bT}{K:Nat->List AV->AV->Prop}(hfn:∀g aQ r b5,K g aQ r->K g aQ b5->r=b5)
include hfn
theorem c1y(hh:a1R b K){r:dj}{F:Fm}{gs:List ef}(ab:FG r gs)(xd:gs.length<2^10)(FI:∀g∈gs,g.hyps.length<2^10){cZ:AV}{at_ e:Nat}(cQ:Rp b r gs)(vn:∀J,bM J (b.bp+1000) r.A=some r.A)
  (lR:∀p∈nQ r F gs,p.1.dep<=200/\p.2.dep<=200) (fS:e≠0->at_<(z1 r gs).length) (cc:K qi [slA true (some 8) ((nQ r F gs).map nj),.R [.af,.af]] (.a0 [.R [cZ,.af],ah at_,ah e]))
  (uD:AV.eqb (b.aM K).bp (.R [cZ,.af]) (.R [cZ,.af])=true) (c1z:∀J,freeze J 0 998 cZ=some cZ) (bH:∀p∈r.cU,p.closed=false) (hR:K xB [r.A] (.b true)) (c1A:∀f∈uA F gs,f.dep<=200/\K kb [f.A true] (.b true)) (body:bF) (hb:b7j.body=some body):
  dQ (b.aM K) [] [.inl 7] b7j.ntmps body (fv [r.A,.R (bN F),iG gs]) ⟨.nil,0⟩ (a1O 7 b7j.results (if e=0 then .a0 [.R [cZ,.af],rF 0 0 0,ah 0] else .a0 [.R [.af,.af],z0 ((z1 r gs).getD at_ (0,0)),ah 80])):=by
 cases hb;refine dQ.args λz=>?_;have H:Has (⟨.nil,0⟩:ae) []:=Has.nil;have lH:=ab.len;refine dQ.l6 ?_;refine aj ?_;refine W.cA (c:=r.A.cells) H I I I I I I λτ cP H bx=>?_;refine aj ?_;refine W.cA (c:=bN F) H cP I I I I I λa9 c8 H bb=>?_;refine aj ?_;refine W.cC (c:=[.af,.af]) H c8 I I I λbu er H k3=>?_;refine aj ?_;refine W.cC (c:=[.i .u8 0,ah 0,ah 0]) H er I I I λcm e_ H b1=>?_;refine aj ?_;refine W.cC (c:=[ah 0]) H e_ I I I λdg iW H c9=>?_;refine aj ?_;refine⟨rfl,?_⟩;refine dQ.l6 ?_;refine aj ?_;refine W.e3 hfn hh.pX hR I I I (k_ (vn _)) ?_;refine aj ?_;refine⟨rfl,?_⟩;refine dQ.Bz ?_;refine dQ.l6 ?_;refine aj ?_;refine W.an trivial I I I (c0N hh.pd iW) λv eA ⟨ar,dm,gU,jf,Fs⟩=>⟨_,ar,?_⟩
 have H:=H.aP Fs.2;refine aj ?_;refine⟨rfl,?_⟩;refine dQ.block ?_;refine dQ.iter (k:=7) (uA F gs).length (λi W τ=>∀c,¬W c) (λi _ _ args=>∃f,(uA F gs)[i]? =some f/\args=[.R (bN f)]) (λ_=>False) jf I hh.a1S.e I (λi W τ args ⟨f,_,e⟩=>by rw[e];rfl) (λi W τ aB h _ _=>h) (λ_ h=>h) (λ_ h=>h.elim) (c0O hh.a1S dm gU _ ⟨id,id⟩ U λg hg=>by have:=ab.hl g hg;omega) ?_ ?_
 ·rintro i V τ args hi ⟨f,hf,rfl⟩ aW tE b9F A5 dr;obtain⟨hd,c0⟩:=c1A f (fL hf);refine ak.norm [(22,.R (bN f))] ⟨rfl,trivial⟩ λg=>?_;have H:Has τ []:=Has.nil;refine aj ?_;refine W.jj (c:=bN f) H I I I I I I I λhq rC H cF=>?_;refine aj ?_;refine⟨rfl,⟨U,cF⟩,λjm pV jn aW=>?_⟩;have H:Has jm [(τ.next,bN f)]:=Has.nil.cons (jn _ _ U (H.get _ (.head _))) aF;refine aj ?_;refine W.e3 hfn hh.c1x c0 I I I (k_ ?_) ?_
  ·have:=Fm.snap jm true _ f (b.bp+1000) (bs _) U;rw[jk] at this ⊢;exact this
  refine aj ?_;exact⟨rfl,V,aW,bs _,λ_ _ _ h=>h,λc ab=>.inl ab⟩
 ·intro V τ aW md mF dr nJ;refine⟨rfl,rfl,?_⟩;have xL:=H.aP λi o h=>dr i o id h;have H:Has τ [(4,[ah 0]),(3,[.i .u8 0,ah 0,ah 0]),(2,[.af,.af]),(1,bN F),(0,r.A.cells)]:=xL;clear xL;have mN:(iG gs).cells=[iG gs]:=by cases gs<;>rfl
  have sm:(iG gs).val=true:=by cases gs<;>rfl
  refine ak.norm [(2,iG gs),(3,aE 0),(4,aE 1),(6,aE 2),(7,aE 3),(8,aE 4)] dp λg=>?_;refine aj ?_;refine W.jQ I I (qs I I I (qs I I I (qs I (by rw[mN,sm];rfl) (by rw[mN];rfl) I))) ?_;generalize aV:τ.next=q at *;refine W.cA (c:=lT r F gs .af .af) H aV I I I I I λhq rC H cF=>?_;refine aj ?_;refine W.bK (c:=[.f (.func xy) [aE q] [],.f (.func xz) [aE q] [],.f (.func xA) [aE q] []]) H I I I I λjm pV H jn=>?_;have hw:Sl jm none (.al hq.next 0 3 none (some 3)) [.f (.func xy) [aE q] [],.f (.func xz) [aE q] [],.f (.func xA) [aE q] []]:=.al hq.next (some 3) [.f (.func xy) [aE q] [],.f (.func xz) [aE q] [],.f (.func xA) [aE q] []] [] (H.get _ (.head _)) (λy hy=>by
   rcases dB.1 hy with rfl|hy
   ·rfl
   ·rcases dB.1 hy with rfl|hy
    ·rfl
    ·rw[uT.1 hy];rfl) (.inr I)
  have a1T:=jn _ _ (cF _ _ md);refine aj ?_;show bL _ _ _ _ _ _ _ _;refine ak.each 3 (λj f τ=>(∃z5,τ.get q=some (.cells (lT r F gs z5 .af))/\(j<=1->z5= .af)/\(2<=j->e=0/\z5=cZ))/\(∀i o,i≠q->jm.get i=some o->τ.get i=some o)/\jm.next<=τ.next/\sat [(6,aE 2),(7,aE 3),(8,aE 4),(10,aE q),(39,.al hq.next 0 3 none (some 3))] f) U ⟨⟨.af,H.get _ (.tail _ (.head _)),λ_=>rfl,λh=>by omega⟩,λ_ _ _ h=>h,bs _,rfl,rfl,rfl,rfl,rfl,trivial⟩ I I (λj g aB ax aW hi hm=>?_) (λg aB aW hi=>?_)
  ·obtain⟨⟨z5,kq,k1,lC⟩,nR,sN,gU,hH,gM,uz,c1B,_⟩:=aW;refine ak.norm [(6,aE 2),(7,aE 3),(8,aE 4),(10,aE q),(39,.al hq.next 0 3 none (some 3)),(41,ah j),(40,ah 3)] ⟨gU,hH,gM,uz,c1B,hi,hm,trivial⟩ λg=>?_;have Ru:=(hw.aP (τ:=aB) λi o hi=>nR i o (by cases hi;omega)).vw;have H:Has aB [(4,[ah 0]),(3,[.i .u8 0,ah 0,ah 0]),(2,[.af,.af])]:=((Has.nil.cons (nR _ _ U (H.get _ (.tail _ (.tail _ (.tail _ (.tail _ (.head _))))))) aF).cons (nR _ _ U (H.get _ (.tail _ (.tail _ (.tail _ (.head _)))))) aF).cons (nR _ _ U (H.get _ (.tail _ (.tail _ (.head _))))) aF;have h3:[AV.f (.func xy) [aE q] [],.f (.func xz) [aE q] [],.f (.func xA) [aE q] []].length=3:=rfl;have dI:=nR _ _ U a1T;refine aj ?_;rcases(show j=0\/j=1\/j=2 by omega) with rfl|rfl|rfl
   ·obtain rfl:=k1 U;refine W.nd I I I (c0W hh.c1u kq ab) λv a9 ⟨ar,M⟩=>⟨_,ar,?_⟩
    have H:=H.aP M.2;have o_:=M.1;refine aj ?_;refine W.cC H I I I I λbu er H k3=>?_;refine W.st H 0 I I I I I I λcm e_ H b1=>?_;refine aj ?_;exact⟨rfl,rfl,⟨.af,b1 _ _ (by have:=ae.bt kq;omega) (k3 _ _ (M.2 _ _ kq)),λ_=>rfl,λh=>by omega⟩,λi o hi ho=>b1 _ _ (by have:=ae.bt (nR _ _ hi ho);omega) (k3 _ _ (M.2 _ _ (nR _ _ hi ho))),U,rfl,rfl,rfl,rfl,rfl,trivial⟩
   ·obtain rfl:=k1 U;refine W.nd I I I (c1b hfn hh.FN hh.c1v hh.c1w kq ab xd FI lR I fS cc) λv a9 ⟨ar,o_,bb⟩=>?_;have H:Has a9 [(4,[ah 0]),(3,[.i .u8 0,ah 0,ah 0]),(2,[.af,.af])]:=((Has.nil.cons (bb _ _ U (H.get _ (.tail _ (.tail _ (.head _))))) aF).cons (bb _ _ U (H.get _ (.tail _ (.head _)))) aF).cons (bb _ _ U (H.get _ (.head _))) aF;have xU:=bb _ _ U dI;by_cases he:e=0
    ·rw[if_pos he] at ar;refine⟨_,ar.1,?_⟩;have a1U:=ar.2;refine aj ?_;refine W.cC H I I I I λbu er H k3=>?_;refine W.st H 0 I I I I I I λcm e_ H b1=>?_;refine aj ?_;exact⟨rfl,rfl,⟨cZ,b1 _ _ (by have:=ae.bt a1U;omega) (k3 _ _ a1U),λh=>by omega,λ_=>⟨he,rfl⟩⟩,λi o hi ho=>b1 _ _ (by have:=ae.bt (nR _ _ hi ho);omega) (k3 _ _ (bb _ _ hi (nR _ _ hi ho))),U,rfl,rfl,rfl,rfl,rfl,trivial⟩
    ·rw[if_neg he] at ar;rw[if_neg he];refine⟨_,ar.1,?_⟩;generalize(z1 r gs).getD at_ (0,0)=sH;refine aj ?_;refine W.cC H I I I I λbu er H k3=>?_;refine W.st H 0 I I I I I I λcm e_ H b1=>?_;refine aj ?_;refine W.st H 3 I I I I I I λdg iW H c9=>?_;refine aj ?_;refine W.st H 2 I I I I I I λeA jf H et=>?_;refine aj ?_;refine W.st H 1 I I I I I I λeW k6 H gk=>?_;refine aj ?_;have FP:=gk _ _ U (et _ _ U (c9 _ _ U (b1 _ _ U (k3 _ _ xU))));have cR:=(jS (bX:=.dead) FP).2;refine ak.ret ?_;exact⟨rfl,FP,_,a0S (gI I (cR _ _ U (H.get _ (.tail _ (.tail _ (.tail _ (.head _)))))) I) (gI I (cR _ _ U (H.get _ (.tail _ (.tail _ (.head _))))) I) (gI I (cR _ _ U (H.get _ (.tail _ (.head _)))) I),a1Q I⟩
   ·obtain⟨rfl,rfl⟩:=lC U;refine W.nd I I I (c1t hh.FO hh.aI kq cQ uD (by have:=ab.lt;omega) lH bH) λv a9 ⟨ar,M⟩=>⟨_,ar,?_⟩
    have H:=H.aP M.2;have o_:=M.1;refine aj ?_;refine W.cC H I I I I λbu er H k3=>?_;refine W.st H 0 I I I I I I λcm e_ H b1=>?_;refine aj ?_;exact⟨rfl,rfl,⟨z5,b1 _ _ (by have:=ae.bt kq;omega) (k3 _ _ (M.2 _ _ kq)),λh=>by omega,λ_=>⟨rfl,rfl⟩⟩,λi o hi ho=>b1 _ _ (by have:=ae.bt (nR _ _ hi ho);omega) (k3 _ _ (M.2 _ _ (nR _ _ hi ho))),U,rfl,rfl,rfl,rfl,rfl,trivial⟩
  ·obtain⟨⟨z5,kq,k1,lC⟩,nR,sN,gU,hH,gM,uz,_⟩:=aW;obtain⟨rfl,rfl⟩:=lC U;show bL _ _ _ _ _ _ _ _;refine ak.norm [(6,aE 2),(7,aE 3),(8,aE 4),(10,aE q)] ⟨gU,hH,gM,uz,trivial⟩ λg=>?_;have H:Has aB [(4,[ah 0]),(3,[.i .u8 0,ah 0,ah 0]),(2,[.af,.af]),(q,lT r F gs z5 .af)]:=(((Has.nil.cons kq aF).cons (nR _ _ U (H.get _ (.tail _ (.tail _ (.tail _ (.tail _ (.head _))))))) (by simp;omega)).cons (nR _ _ U (H.get _ (.tail _ (.tail _ (.tail _ (.head _)))))) (by simp;omega)).cons (nR _ _ U (H.get _ (.tail _ (.tail _ (.head _))))) (by simp;omega);have dI:=nR _ _ U a1T;refine aj ?_;refine W.st H 2 I I I I I I λdg iW H c9=>?_;refine aj ?_;refine W.st H 1 I I I I I I λeA jf H et=>?_;refine aj ?_;refine W.st H 0 I I I I I I λeW k6 H gk=>?_;refine aj ?_;have FP:=gk _ _ U (et _ _ U (c9 _ _ U dI));have cR:=(jS (bX:=.dead) FP).2;refine ak.ret ?_;rw[if_pos I];exact⟨rfl,FP,_,a0S (gI I (cR _ _ U (H.get _ (.tail _ (.tail _ (.head _))))) I) (gI I (cR _ _ U (H.get _ (.tail _ (.head _)))) I) (gI I (cR _ _ U (H.get _ (.head _))) I),a1Q (c1z _)⟩
end
end
end Go.Lyc
end
