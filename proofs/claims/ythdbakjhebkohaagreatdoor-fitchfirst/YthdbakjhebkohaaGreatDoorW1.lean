/-
  What functions of the program compute: walks, part 1. No conditions: definitions and laws.
-/
import Derived.Test.YthdbakjhebkohaaGreatDoorNames
import Derived.SizedLaws
set_option linter.all false
noncomputable section
namespace Go.Lyc
set_option maxHeartbeats 0
variable [Tok][TokOk]
open Go.RowKit Go.Lyc.T
structure lb(W:Nat->Prop)(J af:ad):Prop where
 next:J.next<=af.next
 aO:∀i o,¬W i->J.get i=some o->af.get i=some o
theorem lb.refl{W:Nat->Prop}{J:ad}:lb W J J:=⟨Nat.le_refl _,λ_ _ _ h=>h⟩
theorem lb.trans{W:Nat->Prop}{J bP cx:ad}(h:lb W J bP)(h':lb W bP cx):lb W J cx:=⟨Nat.le_trans h.next h'.next,λi o hi ho=>h'.aO i o hi (h.aO i o hi ho)⟩
theorem lb.of{W:Nat->Prop}{J bP:ad}(hn:J.next<=bP.next)(h:∀i o,J.get i=some o->bP.get i=some o):lb W J bP:=⟨hn,λi o _ ho=>h i o ho⟩
structure bk(env:Env)(g:Nat)(b1:aI):Prop where
 f:env.funcs g=some b1
 e:env.ext g=0
 p:env.pure g=false
theorem Us{env:Env}(au:bk env tD vI)(o:Bool){W:Nat->Prop}{B:Nat}(hW:∀i,W i->i<B)(ed:List Fm->ad->Prop)(aV:∀l J af,ed l J->J.next<=af.next->(∀i o,J.get i=some o->af.get i=some o)->ed l af)(gd:AV)
  (hy:∀f rest J,f.iJ->B<=J.next->ed (f::rest) J->bu env 0 gd [f.A o] J (λr af=>r= .ok (.b true)/\ed rest af/\lb W J af)):
  ∀(d:Nat) (f:Fm) (rest:List Fm) (J:ad),f.dep<=d->f.iJ->B<=J.next->ed (f.parts++rest) J->bu env 0 (.f (.func tD) [] []) [f.A o,gd] J (λr af=>r= .ok (.b true)/\ed rest af/\lb W J af)
 |0,f,_,_,h,_,_,_=>by rw[Fm.pL] at h;omega
 |d+1,F,rest,cT,hd,b_,bV,h0=>by
  refine bu.code au.e au.p au.f I I I I ?_;generalize az:cT.next=k at bV;refine aj.seq (aj.region (aE.box (v:=F.A o) (c:=F.cells o) k az I I I I I λJ hn h1 bB=>?_));have sv:=aV _ _ _ h0 (by omega) bB;have m3:lb W cT J:=.of (by omega) bB;have lI:¬W k:=λh=>by have:=hW _ h;omega
  rw[Fm.parts_eq] at sv;refine iK ?_;refine aj.seq (aj.seq (aj.region ?_));refine iK ?_;refine aE.aw h1 I I I (Fm.aw o F) ?_;refine aE.hK I I I (hy F _ J b_ (by omega) sv) λr τ ⟨aN,lJ,x_⟩=>⟨_,aN,?_⟩
  replace h1:=x_.aO _ _ lI h1;have gX:=x_.next;refine iK ?_;refine aj.hJ I (λh=>by cases h) (λ_=>?_);refine aj.skip ?_;refine aj.seq (aj.seq (aj.region ?_));refine iK ?_;refine aE.aw h1 I I I (Fm.a7v o F) ?_;refine aE.len I I I a7x ?_;refine iK ?_;refine aj.block ?_;refine aj.loop (λm f af=>k+1<=af.next/\lb W cT af/\∃i,i+m=F.sub.length/\ed (Fm.qW (F.sub.drop i)++rest) af∧
   sat [(1,gd),(12,hr o F.fF),(13,ah F.sub.length),(14,ah i)] f) ?_ F.sub.length ⟨by omega,m3.trans x_,0,by omega,by rw[List.drop_zero];exact lJ,rfl,rfl,rfl,rfl,trivial⟩
  clear h1 sv lJ m3 x_ hn gX bB;intro m g J ⟨hn,m3,i,hi,sv,hL⟩;refine aj.norm _ hL λg=>?_;clear hL;refine DW ?_;refine aj.hJ I (λht=>?_) (λhf=>?_)
  ·have hlt:i<F.sub.length:=of_decide_eq_true ht;have c0Q:=b_.a7z;rw[List.drop_eq_getElem_cons hlt,Fm.qW,List.append_assoc] at sv;generalize hg:F.sub[i]=G at sv;have Ut:G∈F.sub:=by rw[<-hg];exact List.getElem_mem hlt
   refine aj.skip (aj.seq (aj.block (aj.seq (aj.region ?_))));refine aE.idx (v:=.df o (G.A o)) I I I I (by rw[<-hg];exact a7y hlt) ?_;refine aE.DO I I I (Fm.conf o G) ?_;refine aE.var (v:=G.A o) (c:=G.cells o) J.next I I I I (Fm.conf o G) I (Fm.len o G) λτ gX aQ bp=>?_;have x_:=m3.trans (.of (W:=W) (by omega) bp);have lJ:=aV _ _ _ sv (by omega) bp;refine aE.nil (aj.seq (aj.region ?_));refine aE.aw aQ I I I (Fm.aw o G) ?_;refine iK ?_;refine aE.hK I I I (Us au o hW ed aV gd hy d G _ τ (by have:=Fm.RZ Ut;omega) (b_.sb G Ut) (by omega) lJ) λr aH ⟨aN,KK,pR⟩=>⟨_,aN,?_⟩
   have np:=pR.next;refine iK ?_;refine aj.hJ I (λh=>by cases h) (λ_=>?_);refine aj.skip ?_;refine aj.region ?_;refine aE.bin (a:=ah i) (b:=ah 1) I I I I (oE (by omega)) ?_;refine iK ?_;exact⟨m-1,by omega,by omega,x_.trans pR,i+1,by omega,KK,rfl,rfl,rfl,rfl,trivial⟩
  ·have k1:¬i<F.sub.length:=of_decide_eq_false hf;obtain rfl:i=F.sub.length:=by omega
   rw[List.drop_length] at sv;refine aj.exit ?_;refine DW ?_;exact aj.ret ⟨rfl,rfl,sv,m3⟩
theorem b0O{env:Env}(au:bk env tD vI)(hw:bk env sl xW)(o:Bool){W:Nat->Prop}{B:Nat}(hW:∀i,W i->i<B)(ed:List Fm->ad->Prop)(aV:∀l J af,ed l J->J.next<=af.next->(∀i o,J.get i=some o->af.get i=some o)->ed l af)(gd:AV)
  (hy:∀f rest J,f.iJ->B<=J.next->ed (f::rest) J->bu env 0 gd [f.A o] J (λr af=>r= .ok (.b true)/\ed rest af/\lb W J af)) (F:Fm) (b_:F.iJ) (rest:List Fm) (J:ad) (cy:Nat) (gG:J.get cy=some (.cells (F.cells o))) (bV:B<=J.next) (h0:ed (F.parts++rest) J):
  bu env 0 (.f (.func sl) [] [.p (some (cy,0))]) [gd] J (λr af=>r= .ok (.a6 [])/\ed rest af/\lb W J af):=by
 refine bu.nL hw.e hw.p hw.f I I I ?_;refine aj.region ?_;refine aE.aw gG I I I (Fm.aw o F) ?_;refine iK ?_;refine aE.hK I I I (Us au o hW ed aV gd hy _ F rest J (Nat.le_refl _) b_ bV h0) λr τ ⟨aN,h1,h2⟩=>⟨_,aN,?_⟩
 refine iK ?_;exact⟨.inr I,rfl,h1,h2⟩
theorem KL{env:Env}(hw:bk env xV Ay)(o:Bool)(F:Fm)(J:ad)(k:Nat)(az:J.next=k):bu env 0 (.f (.func xV) [] []) [F.A o] J (λr af=>r= .ok (.f (.func sl) [] [.p (some (k,0))])/\af.next=k+1/\af.get k=some (.cells (F.cells o))/\∀i o,J.get i=some o->af.get i=some o):=by
 refine bu.code hw.e hw.p hw.f I I I I ?_;refine aj.seq (aj.region (aE.box (v:=F.A o) (c:=F.cells o) k az I I I I I λτ hn h1 bB=>?_));refine DW ?_;exact aj.ret ⟨rfl,rfl,hn,h1,bB⟩
theorem dk.walk{env:Env}{D:List (Nat ⊕ (AV×List AV))}{n:Nat}{f:Nat->AV}{J:ad}{Q:dS}(au:bk env tD vI)(hw:bk env sl xW)(o:Bool){mY:aF}{p:Nat}{e2 b:bF}{cy:Nat}{F:Fm}(W:Nat->Prop)(S:List Fm->ad->Prop)(k:Nat)(az:J.next=k)
  (lD:da env n f mY=some (.f (.func sl) [] [.p (some (cy,0))])) (ar:Nat.blt p n=true) (b_:F.iJ) (gG:J.get cy=some (.cells (F.cells o))) (hW:∀i,W i->i<k) (cP:∀l J af,S l J->(∀i o,W i->J.get i=some o->af.get i=some o)->S l af) (h0:S F.parts J)
  (AS:∀G rest τ,G.iJ->k+2<=τ.next->S (G::rest) τ->bO env (some (k+1)) [] n e2 (cR f p (G.A o)) τ (λx f1 ek=>x= .normal/\lb W τ ek∧
   ∀bh,bh.next=ek.next->(∀i o,i≠k+1->ek.get i=some o->bh.get i=some o)->bO env (some (k+1)) [] n b f1 bh (λx _ bU=>x= .normal/\S rest bU/\lb W bh bU)))
  (AT:∀τ,S [] τ->k+2<=τ.next->τ.get k=some .dN->(∀i o,¬W i->J.get i=some o->τ.get i=some o)->Q .normal f τ):dk env D (.inl k::D) n (.rangeFunc mY [p] e2 b) f J Q:=by
 subst az;refine dk.range lD hw.e λal gL=>?_;generalize az:J.next=k at *;have lI:∀i,W i->i<k:=hW;have pB:((J.push .dN).push (.loop .ready none al [p] e2 b k)).get (k+1)=some (.loop .ready none al [p] e2 b k):=by
  have:=ad.iB (J:=J.push .dN) (.loop .ready none al [p] e2 b k);rwa[show(J.push .dN).next=k+1 from by show J.next+1=_;rw[az]] at this
 have mf:∀i o,J.get i=some o->((J.push .dN).push (.loop .ready none al [p] e2 b k)).get i=some o:=λi o ho=>by
  have:=ad.bt ho;rw[ad.fD trivial _ (show i<(J.push .dN).next from by show i<J.next+1;omega),ad.fD trivial _ this];exact ho
 have q7:((J.push .dN).push (.loop .ready none al [p] e2 b k)).get k=some .dN:=by
  rw[ad.fD trivial _ (show k<(J.push .dN).next from by show k<J.next+1;omega)];have:=ad.iB (J:=J) .dN;rwa[az] at this
 have iF:((J.push .dN).push (.loop .ready none al [p] e2 b k)).next=k+2:=by show J.next+1+1=_;rw[az]
 generalize(J.push .dN).push (.loop .ready none al [p] e2 b k)=cx at *;refine(b0O au hw o (W:=λi=>W i\/i=k+1) (B:=k+2) (λi hi=>by rcases hi with hi|hi;have:=lI i hi;omega;omega)
  (λl τ=>S l τ/\τ.get (k+1)=some (.loop .ready none al [p] e2 b k)/\k+2<=τ.next/\τ.get k=some .dN/\∀i o,¬W i->J.get i=some o->τ.get i=some o)
  (λl τ aH ⟨a3,bm,cv,dU,en⟩ ec dp=>⟨cP _ _ _ a3 λi o _ ho=>dp i o ho,dp _ _ bm,by omega,dp _ _ dU,λi o hi ho=>dp _ _ (en i o hi ho)⟩) (.f (.yield (k+1)) [] []) ?_ F b_ [] cx cy (mf _ _ gG) (by omega) ?_).mono ?_
 ·intro G rest τ cZ bV ⟨a3,bm,cv,dU,en⟩;refine(bu.round (R:=λaf=>(S rest af/\af.get (k+1)=some (.loop .ready none al [p] e2 b k)/\k+2<=af.next/\af.get k=some .dN/\∀i o,¬W i->J.get i=some o->af.get i=some o)/\lb (λi=>W i\/i=k+1) τ af) (f:=f) (n:=n) bm gL (by show cond (Nat.blt p n) _ _=true;rw[ar];rfl) I ?_).mono λr af h=>h;refine(AS G rest τ cZ cv a3).mono λx f1 ek ⟨aN,m3,h1⟩=>?_;have oQ:¬W (k+1):=λh=>by have:=lI _ h;omega
  have ij:=m3.aO _ _ oQ bm;have fS:=iw (bH:=.loop .busy none al [p] e2 b k) ij;refine⟨aN,ij,(h1 (ek.set (k+1) (.loop .busy none al [p] e2 b k)) I (λi o hi ho=>fS.2 i o hi ho)).mono λx _ bU ⟨a4,q8,pR⟩=>?_⟩;have sw:=pR.aO _ _ oQ fS.1;have nO:=iw (bH:=.loop .ready none al [p] e2 b k) sw;have c1:=m3.next;have eT:ek.next<=bU.next:=pR.next;have cL:∀i o,¬W i->i≠k+1->τ.get i=some o->(bU.set (k+1) (.loop .ready none al [p] e2 b k)).get i=some o:=λi o hi a5 ho=>nO.2 i o a5 (pR.aO i o hi (fS.2 i o a5 (m3.aO i o hi ho)));refine⟨a4,sw,⟨cP _ _ _ q8 λi o hi ho=>nO.2 i o (by have:=lI i hi;omega) ho,nO.1,by show k+2<=bU.next;omega,cL k _ (λh=>by have:=lI _ h;omega) (by omega) dU,λi o hi ho=>cL i o hi (by have:=ad.bt ho;omega) (en i o hi ho)⟩,⟨by show τ.next<=bU.next;omega,λi o hi ho=>cL i o (λh=>hi (.inl h)) (λh=>hi (.inr h)) ho⟩⟩
 ·rw[List.append_nil];exact⟨cP _ _ _ h0 λi o _ ho=>mf i o ho,pB,by omega,q7,λi o _ ho=>mf i o ho⟩
 ·rintro r τ ⟨aN,⟨a3,bm,cv,dU,en⟩,_⟩;have fS:=iw (bH:=.loop .exhausted none al [p] e2 b k) bm;exact⟨_,.ready,aN,bm,by simp,AT _ (cP _ _ _ a3 λi o hi ho=>fS.2 i o (by have:=lI i hi;omega) ho) cv (fS.2 _ _ (by omega) dU) λi o hi ho=>fS.2 i o (by have:=ad.bt ho;omega) (en i o hi ho)⟩
theorem wrap32{n:Nat}(h:n<2^32):IntKind.wrap .u32 (n:Int)=(n:Int):=by
 have h:(n:Int)<4294967296:=by omega
 simp only[IntKind.wrap,IntKind.bits,IntKind.signed];simp;omega
theorem ofInt32(n:Nat)(h:n<2^32):(BitVec.ofInt IntKind.u32.bits (Int.ofNat n)).toNat=n:=by
 simp[IntKind.bits];omega
theorem b0P{a b:Nat}(ha:a<2^32)(hb:b<2^32):binop .or (.i .u32 (Int.ofNat a)) (.i .u32 (Int.ofNat b))=some (.i .u32 (Int.ofNat (a ||| b))):=by
 have h:(BitVec.ofInt IntKind.u32.bits (Int.ofNat a) ||| BitVec.ofInt IntKind.u32.bits (Int.ofNat b)).toNat=a ||| b:=by
  rw[BitVec.toNat_or,ofInt32 a ha,ofInt32 b hb]
 show some (AV.i .u32 (IntKind.wrap .u32 ((BitVec.ofInt IntKind.u32.bits (Int.ofNat a) ||| BitVec.ofInt IntKind.u32.bits (Int.ofNat b)).toNat:Int)))=_;rw[h,wrap32 (Nat.or_lt_two_pow ha hb)];rfl
theorem b0Q{k:IntKind}{a:Nat}(h:a<32):binop .shl (.i .u32 (Int.ofNat 1)) (.i k (Int.ofNat a))=some (.i .u32 (Int.ofNat (2^a))):=by
 show(if(Int.ofNat a)<0 then none else some (AV.i .u32 (IntKind.wrap .u32 (Int.ofNat 1*2^(min (Int.ofNat a).toNat IntKind.u32.bits)))))=_;rw[if_neg (by simp)];have e:min (Int.ofNat a).toNat IntKind.u32.bits=a:=by show min a 32=a;omega
 rw[e];have:(Int.ofNat 1*2^a:Int)=((2^a:Nat):Int):=by show(1:Int)*_=_;rw[Int.one_mul];simp
 rw[this,wrap32 (Nat.pow_lt_pow_right (by omega) h)];rfl
def oR(f:Fm):Nat:=if f.op<32 then 2^f.op else 0
def tS(l:List Fm)(m:Nat):Nat:=l.foldl (λm f=>m ||| oR f) m
def tT(f:Fm):Nat:=tS f.parts 0
theorem b0R(f:Fm):oR f<2^32:=by
 unfold oR;split
 ·exact Nat.pow_lt_pow_right (by omega) ‹_›
 ·exact Nat.two_pow_pos _
theorem Uu:∀ {l:List Fm} {m:Nat},m<2^32->tS l m<2^32
 |[],_,h=>h
 |f::l,m,h=>by
  show tS l (m ||| oR f)<_;exact Uu (Nat.or_lt_two_pow h (b0R f))
theorem b0S{b:b8}{K:Nat->List AV->AV->Prop}(au:bk (b.aM K) tD vI)(mN:bk (b.aM K) sl xW)(hw:bk (b.aM K) xV Ay)(F:Fm)(b_:F.iJ)(body:bF)(hb:Ud.body=some body):
  dk (b.aM K) [] [.inl 3] 17 body (fR [F.A true]) ⟨.nil,0⟩ (λx f af=>x= .ret/\af.get 3=some .dN/\freeze (af.set 3 .dead) 0 1000 (f 2)=some (.i .u32 (Int.ofNat (tT F)))):=by
 cases hb;refine dk.km (aj.region (aE.box (v:=F.A true) (c:=F.cells true) 0 I I I I I I λbP hp h1 _=>?_));refine iK ?_;refine⟨rfl,dk.km (aj.region (aE.alloc 1 hp I I I λcx gX h2 bp=>?_))⟩;replace h1:=bp _ _ h1;refine iK ?_;refine⟨rfl,dk.xH (dk.km (aj.region ?_))⟩;refine aE.aw h1 I I I (Fm.aw true F) ?_;refine aE.hK I I I (KL hw true F cx 2 gX) λr J ⟨aN,hn,h3,bc⟩=>⟨_,aN,?_⟩
 replace h1:=bc _ _ h1;replace h2:=bc _ _ h2;refine iK ?_;refine⟨rfl,dk.block ?_⟩;refine dk.walk au mN true (λi=>i=1) (λl τ=>∃m,m<2^32/\tS l m=tT F/\τ.get 1=some (.cells [.i .u32 (Int.ofNat m)])) 3 hn I I b_ h3 (λi hi=>by omega) (λl τ aH ⟨m,a3,bm,cv⟩ az=>⟨m,a3,bm,az _ _ I cv⟩) ⟨0,Nat.two_pow_pos _,rfl,h2⟩ ?_ ?_
 ·intro G rest τ cZ vV ⟨m,a3,bm,cv⟩;refine aj.region ?_;refine aE.var (v:=G.A true) (c:=G.cells true) τ.next I I I I (Fm.conf true G) I (Fm.len true G) λek qJ aQ b5=>?_;refine aE.nil ⟨rfl,.of (by omega) b5,λbh C9 cW=>?_⟩;replace aQ:=cW _ _ (by omega) aQ;replace cv:=cW _ _ (by omega) (b5 _ _ cv);refine aj.block (aj.seq (aj.region ?_));refine iK ?_;refine aE.aw aQ I I I (Fm.oH true G) ?_;refine iK ?_;refine aj.hJ I (λh=>?_) (λh=>?_)
  ·have dK:G.op<32:=of_decide_eq_true h;have E6:oR G=2^G.op:=by unfold oR;rw[if_pos dK]
   refine aj.region ?_;refine R4 ?_;refine aE.aw aQ I I I (Fm.oH true G) ?_;refine aE.bin (a:=.i .u32 (Int.ofNat 1)) (b:=.i .u8 (Int.ofNat G.op)) I I I I (b0Q dK) ?_;refine aE.bin (a:=.i .u32 (Int.ofNat m)) (b:=.i .u32 (Int.ofNat (2^G.op))) I I I I (b0P a3 (Nat.pow_lt_pow_right (by omega) dK)) ?_;refine aE.store (bM:=[.i .u32 (Int.ofNat (m ||| 2^G.op))]) cv I I I I I λbU Qo cu dQ=>?_;exact aE.nil ⟨rfl,⟨_,Nat.or_lt_two_pow a3 (Nat.pow_lt_pow_right (by omega) dK),by rw[<-bm,← E6];rfl,cu⟩,⟨by omega,λi o hi ho=>dQ i o hi ho⟩⟩
  ·have dK:¬G.op<32:=of_decide_eq_false h;have E6:oR G=0:=by unfold oR;rw[if_neg dK]
   exact aj.skip ⟨rfl,⟨m,a3,by rw[<-bm];show tS rest m=tS rest (m ||| oR G);rw[E6,Nat.or_zero],cv⟩,.refl⟩
 ·intro τ ⟨m,a3,bm,cv⟩ vV hd _;refine⟨rfl,rfl,?_⟩;refine aj.seq (aj.region ?_);refine R4 ?_;refine aj.ret ⟨rfl,hd,?_⟩;show some (AV.i .u32 (Int.ofNat m))=_;rw[<-bm];rfl
abbrev uB(c:Nat):AV:=.i .u8 (Int.ofNat c)
section
variable {b:b8}{K:Nat->List AV->AV->Prop}(hf:∀g aW r cw,K g aW r->K g aW cw->r=cw)
abbrev m4(d:Nat)(r:AV):dS:=λx f af=>x= .ret/\freeze af 0 1000 (f d)=some r
end
def b0T(op:Nat):Bool:=decide (1<=op)&&decide (op<=14)
def KM(op:Nat):Bool:=decide (1<=op)&&decide (op<=16)
def q9(op:Nat):Nat:=if op=1 then 1 else if op=8\/op=9 then 2 else if op=15\/op=16 then 3 else 0
def E7(op:Nat):Nat:=if op=1 then 4 else if op=16 then 2 else 0
def b0U(op:Nat):Nat:=if op=3\/op=8\/op=9\/op=10\/op=11\/op=12\/op=13 then 1 else if op=4\/op=5\/op=6\/op=7\/op=14 then 2 else 0
def b0V(op:Nat):List AV:=[.b (b0T op),.b (KM op),.i .u8 (Int.ofNat (q9 op)),ah (E7 op),ah (b0U op)]
def E8:List AV:=(List.range 17).flatMap b0V
theorem b0W{aq:aF->Option AV}{J:ad}{k:IntKind}{x:aF}{a:Nat}(h1:aq x=some (.i k (Int.ofNat a)))(h:a<2^63):opx 0 aq J (.conv .i64 x)=some (.val (ah a) J):=by
 show(match aq x with|some (.i _ n)=>some (bL.val (.i .i64 (wrapN .i64 n)) J)|some (.gk _ d j)=>some (.val (.gk .i64 d j) J)|_=>none)=_;rw[h1];show some (bL.val (.i .i64 (wrapN .i64 (Int.ofNat a))) J)=_;rw[Al h]
end Go.Lyc
end
noncomputable section
namespace Go.Lyc
set_option maxHeartbeats 0
open Go Go.RowKit Go.ChangeShapes Go.WideShapes
section
variable {H:Type}{enc:TypeId×Value->H}{P:Program}{w:World}{B:Nat}
structure c0R(P:Program)(E9 AU E_ AW AX AY Fa:TypeId):Prop where
 b:P.underlying E9=some .bool
 s:P.underlying AU=some .string
 u:P.underlying E_=some (.int .u8)
 j2:P.underlying AX=some (.slice AW)
 a2:P.underlying Fa=some (.slice AY)
 c0S:P.cellsOf E9=1
 cs:P.cellsOf AU=1
 c0T:P.cellsOf E_=1
 c0U:P.cellsOf AX=1
 c0V:P.cellsOf Fa=1
 As:P.cellsOf AW=3
 fm:P.cellsOf AY=4
 gM:0<P.bytesOf AW
 cU:0<P.bytesOf AY
 t:∃a b c:Field,P.underlying AW=some (.struct #[a,b,c])/\(a.type=E9/\a.offset=0)/\(b.type=AU/\b.offset=1)/\(c.type=AX/\c.offset=2)
 f:∃a b c d:Field,P.underlying AY=some (.struct #[a,b,c,d])/\(a.type=E_/\a.offset=0)/\(b.type=AU/\b.offset=1)/\(c.type=AX/\c.offset=2)/\(d.type=Fa/\d.offset=3)
variable {E9 AU E_ AW AX AY Fa:TypeId}
end
end Go.Lyc
end
noncomputable section
namespace Go.Lyc
set_option maxHeartbeats 0
variable [Tok][TokOk]
open Go.RowKit Go.Lyc.T
inductive Sl(J:ad)(U:Option Nat):AV->List AV->Prop
 |nil:Sl J U .ae []
 |al (o:Nat) (cap:Option Nat) (xs rest:List AV) (h:J.get o=some (.cells (xs.flatMap AV.cells++rest))) (aa:∀y∈xs,conf U y=true) (az:cap=none\/cap=some xs.length):Sl J U (.al o 0 xs.length U cap) xs
theorem Sl.aO{J τ:ad}{U:Option Nat}{v:AV}{xs:List AV}(h:Sl J U v xs)(k:∀i o,v.at? =some i->J.get i=some o->τ.get i=some o):Sl τ U v xs:=by
 cases h with
 |nil=>exact .nil
 |al o cap xs rest h aa az=>exact .al o cap xs rest (k _ _ I h) aa az
theorem Sl.conf{J:ad}{U:Option Nat}{v:AV}{xs:List AV}(h:Sl J U v xs):∀y∈xs,conf U y=true:=by
 cases h with
 |nil=>intro y hy;simp at hy
 |al o cap xs rest h aa az=>exact aa
theorem Sl.lf{J:ad}{U:Option Nat}{v:AV}{xs:List AV}(h:Sl J U v xs):v.lf=true:=by cases h<;>rfl
theorem Sl.j7{J:ad}{U:Option Nat}{v:AV}{xs:List AV}(h:Sl J U v xs):Go.Lyc.conf none v=true:=by cases h<;>rfl
theorem Sl.kL{J:ad}{U:Option Nat}{v:AV}{xs:List AV}(h:Sl J U v xs):v.cells=[v]:=by cases h<;>rfl
theorem Sl.KN{J:ad}{U:Option Nat}{v:AV}{xs:List AV}(h:Sl J U v xs):v.val=true:=by cases h<;>rfl
theorem Sl.len{J τ:ad}{U:Option Nat}{v:AV}{xs:List AV}(h:Sl J U v xs):lenA τ 1 v=some xs.length:=by cases h<;>rfl
theorem Sl.lt{J:ad}{U:Option Nat}{v:AV}{xs:List AV}(h:Sl J U v xs){i:Nat}(hi:v.at? =some i):i<J.next:=by
 cases h with
 |nil=>cases hi
 |al o cap xs rest h aa az=>cases hi;exact ad.bt h
theorem KO{U:Option Nat}:∀ {xs:List AV} {rest:List AV},(∀y∈xs,Go.Lyc.conf U y=true)->∀(j:Nat) (aA:j<xs.length),∃r,(xs.flatMap AV.cells++rest).drop (j*shN U)=(xs[j]).cells++r/\dI U ((xs[j]).cells++r)=some xs[j]
 |[],_,_,j,aA=>by simp at aA
 |x::xs,rest,h,0,_=>⟨xs.flatMap AV.cells++rest,by rw[Nat.zero_mul,List.drop_zero,List.flatMap_cons,List.append_assoc];rfl,(Ao (h x (by simp))).1⟩
 |x::xs,rest,h,j+1,aA=>by
  obtain⟨r,h1,h2⟩:=KO (rest:=rest) (λy hy=>h y (List.mem_cons_of_mem _ hy)) j (by simpa using aA);refine⟨r,?_,h2⟩;rw[List.flatMap_cons,List.append_assoc,show(j+1)*shN U=shN U+j*shN U from by rw[Nat.succ_mul,Nat.add_comm],← List.drop_drop,(Ao (h x (by simp))).2,h1];rfl
theorem Sl.ff{J:ad}{U:Option Nat}{v:AV}{xs:List AV}(h:Sl J U v xs){j:Nat}(aA:j<xs.length):∃o c r,v.at? =some o/\idxSlA U v j=some (.p (some (o,j*shN U)))/\J.get o=some (.cells c)/\c.drop (j*shN U)=(xs[j]).cells++r/\dI U (c.drop (j*shN U))=some xs[j]:=by
 cases h with
 |nil=>simp at aA
 |al o cap xs rest h aa az=>
  obtain⟨r,h1,h2⟩:=KO (rest:=rest) aa j aA;refine⟨o,_,r,rfl,?_,h,h1,by rw[h1];exact h2⟩;have h3:Nat.blt j xs.length=true:=Nat.ble_eq_true_of_le aA;simp only[idxSlA,h3,decide_true,Bool.and_self,if_true,Nat.zero_add]
theorem Sl.read{J:ad}{U:Option Nat}{v:AV}{xs:List AV}(h:Sl J U v xs):readList J v=some xs:=by
 cases h with
 |nil=>rfl
 |al o cap xs rest h aa az=>
  show(match J.get o with|some (.cells c)=>elems U xs.length (c.drop 0)|_=>none)=_;rw[h];exact DS aa
theorem b0X{xs:List AV}(k:Nat):xs.flatMap AV.cells=(xs.take k).flatMap AV.cells++(xs.drop k).flatMap AV.cells:=by
 rw[<-List.flatMap_append,List.take_append_drop]
theorem Sl.cut{J:ad}{U:Option Nat}{v:AV}{xs:List AV}(h:Sl J U v xs)(hn:∀o l c,v= .al o 0 l U c->c=none){aq:aF->Option AV}{hi:aF}{k:Nat}(az:k<=xs.length)(he:aq hi=some (ah k)):∃w,sliceA aq U v none (some hi) none=some w/\Sl J U w (xs.take k)/\w.at? =v.at? ∧∀o l c,w= .al o 0 l U c->c=none:=by
 have hb:∀d,bndO aq (some hi) d=some k:=λd=>by show(match aq hi with|some v=>natOf v|none=>none)=_;rw[he];rfl
 cases h with
 |nil=>
  obtain rfl:k=0:=by simpa using az
  refine⟨.ae,?_,.nil,rfl,λ_ _ _ h=>by cases h⟩;show(match bndO aq none 0,bndO aq (some hi) 0,bndO aq none 0 with|some 0,some 0,some 0=>some AV.ae|_,_,_=>none)=_;rw[hb];rfl
 |al o cap xs rest h aa fV=>
  obtain rfl:=hn o xs.length cap I;refine⟨.al o 0 k U none,?_,?_,rfl,λ_ _ _ h=>by cases h;rfl⟩
  ·have h1:Nat.ble 0 k=true:=Nat.ble_eq_true_of_le (Nat.zero_le k);have h2:(Nat.ble k xs.length&&Nat.beq 0 0)=true:=by rw[Nat.ble_eq_true_of_le az];rfl
   have h0:bndO aq none 0=some 0:=rfl;simp only[sliceA,if_true,h0,hb,h1,h2]
  ·have e:(xs.take k).length=k:=by rw[List.length_take];omega
   have:=Sl.al (U:=U) o none (xs.take k) ((xs.drop k).flatMap AV.cells++rest) (by rw[h,b0X k,List.append_assoc]) (λy hy=>aa y (List.mem_of_mem_take hy)) (.inl I);rwa[e] at this
theorem Sl.append{J:ad}{U:Option Nat}{v x:AV}{xs a8:List AV}{y:AV}{bytes:Nat}(h:Sl J U v xs)(hx:newOf J x=some (y::a8))(aa:∀z∈y::a8,Go.Lyc.conf U z=true)(hb:(3*(xs.length+(y::a8).length)+2000)*bytes<=281474976710656):
  ∃bA af,appendO 0 J U bytes v x=some (bA,af)/\Sl af U bA (xs++y::a8)/\bA.at? =some J.next/\(∀o l c,bA= .al o 0 l U c->c=none)/\af.next=J.next+1/\∀i o,v.at? ≠some i->J.get i=some o->af.get i=some o:=by
 have se:=h.conf;have hall:(cr (Go.Lyc.conf U) xs&&cr (Go.Lyc.conf U) (y::a8)&&Nat.ble ((3*(xs.length+(y::a8).length)+2000)*bytes) 281474976710656)=true:=by
  rw[iv se,iv aa,Nat.ble_eq_true_of_le hb];rfl
 have ak:=h.read;have mk:∀τ:ad,τ.next=J.next->Sl (τ.push (.cells (xs.flatMap AV.cells++(y::a8).flatMap AV.cells))) U (.al J.next 0 (xs.length+(y::a8).length) U none) (xs++y::a8):=λτ vV=>by
  have:=Sl.al (J:=τ.push (.cells (xs.flatMap AV.cells++(y::a8).flatMap AV.cells))) (U:=U) J.next none (xs++y::a8) [] (by rw[<-vV,ad.iB,List.flatMap_append,List.append_nil]) (λz bg=>by
   rcases List.mem_append.1 bg with bg|bg
   ·exact se z bg
   ·exact aa z bg) (.inl I)
  rwa[List.length_append] at this
 cases h with
 |nil=>
  refine⟨.al J.next 0 (y::a8).length U none,J.push (.cells ((y::a8).flatMap AV.cells)),?_,?_,rfl,λ_ _ _ h=>by cases h;rfl,rfl,λi o _ ho=>by rw[ad.fD trivial _ (ad.bt ho)];exact ho⟩
  ·unfold appendO;rw[hx];show cond _ _ none=_;rw[hall];rfl
  ·have:=mk J I;simpa using this
 |al o cap xs rest h eJ fV=>
  have hd:∀i bH,i≠o->J.get i=some bH->((J.set o .dead).push (.cells (xs.flatMap AV.cells++(y::a8).flatMap AV.cells))).get i=some bH:=λi bH a5 ho=>by
   have hlt:=ad.bt ho;rw[ad.fD trivial _ (show i<(J.set o .dead).next from hlt),ad.h5 trivial _ (ad.bt h),if_neg a5];exact ho
  rcases fV with rfl|rfl
  ·refine⟨.al J.next 0 (xs.length+(y::a8).length) U none,(J.set o .dead).push (.cells (xs.flatMap AV.cells++(y::a8).flatMap AV.cells)),?_,mk _ I,rfl,λ_ _ _ h=>by cases h;rfl,rfl,λi bH a5 ho=>hd i bH (λe=>a5 (by rw[e];rfl)) ho⟩;unfold appendO;rw[ak,hx];show cond _ _ none=_;rw[hall,cond_true];show(if U=U then(if Nat.blt o 0 then none else if Nat.beq 0 0 then some (AV.al J.next 0 (xs.length+(y::a8).length) U none,(J.set o .dead).push (.cells (xs.flatMap AV.cells++(y::a8).flatMap AV.cells))) else none) else none)=_;rw[if_pos I,if_neg (by simp[Nat.blt,Nat.ble]),if_pos (by rfl)]
  ·refine⟨.al J.next 0 (xs.length+(y::a8).length) U none,J.push (.cells (xs.flatMap AV.cells++(y::a8).flatMap AV.cells)),?_,mk _ I,rfl,λ_ _ _ h=>by cases h;rfl,rfl,λi bH _ ho=>by rw[ad.fD trivial _ (ad.bt ho)];exact ho⟩;unfold appendO;rw[ak,hx];show cond _ _ none=_;rw[hall,cond_true];show(if U=U then cond (Nat.ble (xs.length+(y::a8).length) xs.length) _ (some (AV.al J.next 0 (xs.length+(y::a8).length) U none,J.push (.cells (xs.flatMap AV.cells++(y::a8).flatMap AV.cells)))) else none)=_;rw[if_pos I,show Nat.ble (xs.length+(y::a8).length) xs.length=false from by rw[Bool.eq_false_iff];intro h;have:=Nat.le_of_ble_eq_true h;simp only[List.length_cons] at this;omega];rfl
namespace W
section
variable {cg:kJ}{env:Env}{aJ:Option Nat}{D:List (Nat ⊕ (AV×List AV))}{n:Nat}{F:List (Nat×AV)}{z:Nat->AV}{J:ad}{Q:dS}
theorem q_{d:Nat}{U:Option Nat}{x:aF}{g:Option (Nat×Bool)}{ops:List aY}{id off:Nat}{c:List AV}{v:AV}(ao:J.get id=some (.cells c))(hd:Nat.blt d n=true)(hw:wtL g n F=true)(h1:c8 env n F z x=some (.p (some (id,off))))(h2:dI U (c.drop off)=some v)(h:b9 cg env aJ D n ops (bs ((d,v)::F) z) J Q):b9 cg env aJ D n (⟨some d,.load U x,g,[]⟩::ops) (bs F z) J Q:=val hd hw (mi _ _ h1 (sc ao h2)) h
theorem ya{N:Nat}{cz:kn}{d:Nat}{U:Option Nat}{x:aF}{g:Option (Nat×Bool)}{wn:List Nat}{ops:List aY}{id off:Nat}{c:List AV}{v:AV}(ao:J.get id=some (.cells c))(hd:Nat.blt d n=true)(hw:wtL g n F=true)(h1:c8 env n F z x=some (.p (some (id,off))))(h2:dI U (c.drop off)=some v)(au:AV.eqb env.bn v v=true)
  (h:b9 (.dc N (wn.map (λq=>(q,id,c))++cz)) env aJ D n ops (bs ((d,v)::F) z) J Q):b9 (.dc N cz) env aJ D n (⟨some d,.load U x,g,wn⟩::ops) (bs F z) J Q:=dY.fJ ao hd (oJ hw) (λs ao=>by rw[mZ];exact mi _ _ h1 (sc ao h2)) au h
theorem le{d:Nat}{U:Option Nat}{x:aF}{g:Option (Nat×Bool)}{ops:List aY}{a v:AV}(hd:Nat.blt d n=true)(hw:wtL g n F=true)(h1:c8 env n F z x=some a)(h2:pc J U a=some v)(h:b9 cg env aJ D n ops (bs ((d,v)::F) z) J Q):b9 cg env aJ D n (⟨some d,.load U x,g,[]⟩::ops) (bs F z) J Q:=val hd hw (mi _ _ h1 h2) h
theorem bI{L:List (Nat×List AV)}(H:Has J L){d m:Nat}{U:Option Nat}{jM:List AV}{aC:List (Nat×aF)}{g:Option (Nat×Bool)}{ops:List aY}{c:List AV}{k:Nat}(hn:J.next=k)(hd:Nat.blt d n=true)(hw:wtL g n F=true)(hl:gU (c8 env n F z) (λi bK=>i*bK) (aC.map λp=>(p.1,shN U,p.2)) (f_ m jM)=some c)
  (h:∀τ:ad,τ.next=k+1->Has τ ((k,c)::L)->(∀i o,J.get i=some o->τ.get i=some o)->b9 cg env aJ D n ops (bs ((d,.al k 0 m U (some m))::F) z) τ Q):b9 cg env aJ D n (⟨some d,.buildSlice U m jM aC,g,[]⟩::ops) (bs F z) J Q:=by
 subst hn;have c7:∀i o,J.get i=some o->(J.push (.cells c)).get i=some o:=λi o ho=>by rw[ad.fD trivial _ (ad.bt ho)];exact ho
 refine val (v:=.al J.next 0 m U (some m)) (af:=J.push (.cells c)) hd hw ?_ (h (J.push (.cells c)) I (H.push I (ad.iB _) c7) c7);show(match gU (c8 env n F z) (λi bK=>i*bK) (aC.map λp=>(p.1,shN U,p.2)) (f_ m jM) with
  |some c=>some (bL.val (.al J.next 0 m U (some m)) (J.push (.cells c)))
  |none=>none)=_
 rw[hl]
theorem ap{d:Nat}{U:Option Nat}{bytes:Nat}{s x:aF}{g:Option (Nat×Bool)}{ops:List aY}{v w:AV}{xs:List AV}(y:AV)(a8:List AV)(hA:Sl J U v xs)(hx:newOf J w=some (y::a8))(aa:∀z∈y::a8,Go.Lyc.conf U z=true)(hb:(3*(xs.length+(y::a8).length)+2000)*bytes<=281474976710656)(hd:Nat.blt d n=true)(hw:wtL g n F=true)(h1:c8 env n F z s=some v)(h2:c8 env n F z x=some w)
  (h:∀bA τ,Sl τ U bA (xs++y::a8)->bA.at? =some J.next->(∀o l c,bA= .al o 0 l U c->c=none)->τ.next=J.next+1->(∀i o,v.at? ≠some i->J.get i=some o->τ.get i=some o)->b9 cg env aJ D n ops (bs ((d,bA)::F) z) τ Q):b9 cg env aJ D n (⟨some d,.append U bytes s x,g,[]⟩::ops) (bs F z) J Q:=by
 obtain⟨bA,τ,e,a,b,c,hY,eg⟩:=hA.append hx aa hb;refine val (v:=bA) (af:=τ) hd hw ?_ (h bA τ a b c hY eg);show(match c8 env n F z s,c8 env n F z x with|some s,some x=>(match appendO 0 J U bytes s x with|some (v,J)=>some (bL.val v J)|none=>none)|_,_=>none)=_;rw[h1,h2];show(match appendO 0 J U bytes v w with|some (v,J)=>some (bL.val v J)|none=>none)=_;rw[e]
theorem pu{d d0:Nat}{U:Option Nat}{bytes:Nat}{jM:List AV}{aC:List (Nat×aF)}{s:aF}{g bQ:Option (Nat×Bool)}{ops:List aY}{v:AV}{xs c:List AV}(y:AV)(hA:Sl J U v xs)(hd:Nat.blt d n=true)(mc:Nat.blt d0 n=true)(hw:wtL g n F=true)(hl:gU (c8 env n F z) (λi bK=>i*bK) (aC.map λp=>(p.1,shN U,p.2)) (f_ 1 jM)=some c)(hy:elems U 1 c=some [y])(g4:Go.Lyc.conf U y=true)
  (jE:wtL bQ n ((d0,.al J.next 0 1 U (some 1))::F)=true) (h1:c8 env n ((d0,.al J.next 0 1 U (some 1))::F) z s=some v) (h2:Nat.beq d0 d0=true) (hb:(3*(xs.length+1)+2000)*bytes<=281474976710656)
  (h:∀bA τ,Sl τ U bA (xs++[y])->bA.at? =some (J.next+1)->(∀o l c,bA= .al o 0 l U c->c=none)->τ.next=J.next+2->(∀i o,v.at? ≠some i->J.get i=some o->τ.get i=some o)->b9 cg env aJ D n ops (bs ((d,bA)::(d0,.al J.next 0 1 U (some 1))::F) z) τ Q):
  b9 cg env aJ D n (⟨some d0,.buildSlice U 1 jM aC,g,[]⟩::⟨some d,.append U bytes s (.t d0),bQ,[]⟩::ops) (bs F z) J Q:=by
 refine bI Has.nil I mc hw hl λek c1 H1 bB=>?_;have j1:=H1.get _ (.head _);refine ap (w:=.al J.next 0 1 U (some 1)) y [] (hA.aO λi o _=>bB i o) ?_ (λz bg=>by rw[List.mem_singleton.1 bg];exact g4) hb hd jE h1 ?_ λbA τ a3 bm cv dU en=>h bA τ a3 (by rw[bm,c1]) cv (by rw[dU,c1]) λi o hi ho=>en i o hi (bB i o ho)
 ·show readList ek (.al J.next 0 1 U (some 1))=_;show(match ek.get J.next with|some (.cells c)=>elems U 1 (c.drop 0)|_=>none)=_;rw[j1];exact hy
 ·show cond (Nat.blt d0 n) (match cond (Nat.beq d0 d0) (some _) _ with|some v=>some v|none=>some (z d0)) none=_;rw[mc,h2];rfl
end
end W
structure bX where
 bY:Nat
 op:Nat
 hyp:Bool
 f:Fm
 gQ:List Nat
 cs:List (Nat×Nat)
abbrev bD(F:Fm):List AV:=[.i .u8 (Int.ofNat F.op),.s F.name,ix true F.fW,hr true F.fF]
theorem iW(F:Fm):F.A true= .ag (bD F):=by unfold Fm.A;rw[Fm.iI]
abbrev lK(o:Bool)(l:List (Nat×Nat)):AV:=slA o (some 2) (l.map λc=>.ag [ah c.1,ah c.2])
abbrev bX.A(x:bX):AV:=.ag [ah x.bY,ah x.op,.b x.hyp,.i .u8 (Int.ofNat x.f.op),.s x.f.name,ix true x.f.fW,hr true x.f.fF,.s x.gQ,lK true x.cs]
abbrev cD(L:List bX):AV:=.a7 true (some 9) (L.map bX.A)
theorem Fb{L:List bX}{j:Nat}(h:j<L.length):idxSlA (some 9) (cD L) j=some (.df true (L[j]).A):=by
 have:=xF (o:=true) (U:=some 9) (f:=bX.A) h;cases L with
 |nil=>simp at h
 |cons x l=>exact this
theorem Fc{J:ad}{L:List bX}:lenA J 1 (cD L)=some L.length:=by show some (L.map bX.A).length=_;rw[List.length_map]
@[irreducible] def yb (U:Option Nat) (v:AV) (j:Nat):AV:=(idxSlA U v j).getD .eO
theorem pS{U:Option Nat}{v w:AV}{j:Nat}(h:idxSlA U v j=some w):yb U v j=w:=by unfold yb;rw[h];rfl
structure g8(J:ad)(U:Option Nat)(v:AV)(xs:List AV):Prop where
 len:∀τ,lenA τ 1 v=some xs.length
 eV:∀ {j},j<xs.length->idxSlA U v j=some (yb U v j)
 aw:∀ {j} (h:j<xs.length),pc J U (yb U v j)=some xs[j]
structure jt(J:ad)(v:AV)(l:List Nat):Prop where
 len:∀τ,lenA τ 1 v=some l.length
 eV:∀ {j},j<l.length->idxSlA none v j=some (yb none v j)
 aw:∀ {j} (h:j<l.length),pc J none (yb none v j)=some (ah l[j])
theorem Sl.vw{J:ad}{U:Option Nat}{v:AV}{xs:List AV}(h:Sl J U v xs):g8 J U v xs:=
 ⟨λτ=>h.len,λ{j} aA=>by obtain⟨o,c,r,h0,h1,_⟩:=h.ff aA;rw[pS h1];exact h1,λ{j} aA=>by
  obtain⟨o,c,r,h0,h1,h2,h3,aQ⟩:=h.ff aA;rw[pS h1];exact sc h2 aQ⟩
theorem g8.jN{J:ad}{v:AV}{l:List Nat}(h:g8 J none v (l.map ah)):jt J v l:=
 ⟨λτ=>by rw[h.len,List.length_map],λaA=>h.eV (by rw[List.length_map];exact aA),λaA=>by rw[h.aw (by rw[List.length_map];exact aA),List.getElem_map]⟩
theorem Sl.jN{J:ad}{v:AV}{l:List Nat}(h:Sl J none v (l.map ah)):jt J v l:=h.vw.jN
theorem yc{J:ad}{U:Option Nat}{o:Bool}{xs:List AV}(aa:∀y∈xs,conf U y=true):g8 J U (slA o U xs) xs:=
 ⟨λτ=>RV τ o U xs,λaA=>by rw[pS (An aA)];exact An aA,λ{j} aA=>by
  rw[pS (An aA)];show(if conf U xs[j] then some xs[j] else none)=_;rw[if_pos (aa _ (List.getElem_mem aA))]⟩
abbrev eF(J:ad)(v:AV)(l:List Nat):Prop:=Sl J none v (l.map ah)
theorem Sl.b0Y{J:ad}{v:AV}{l:List Nat}(h:eF J v l){aq:aF->Option AV}{hi:aF}{k:Nat}(az:k<=l.length)(he:aq hi=some (ah k)):∃w,sliceA aq none v none (some hi) none=some w/\jt J w (l.take k):=by
 by_cases hn:∀o l c,v= .al o 0 l none c->c=none
 ·obtain⟨w,h1,h2,_⟩:=h.cut hn (k:=k) (by rw[List.length_map];exact az) he;exact⟨w,h1,Sl.jN (by rw[List.map_take];exact h2)⟩
 ·have h':=h;unfold eF at h';generalize hm:l.map ah=xs at h';cases h' with
  |nil=>exact absurd (λ_ _ _ h=>by cases h) hn
  |al o cap xs rest hg aa fV=>
   have hlen:xs.length=l.length:=by rw[<-hm,List.length_map]
   rcases fV with rfl|rfl
   ·exact absurd (λ_ _ _ h=>by cases h;rfl) hn
   ·refine⟨.al o 0 k none (some xs.length),?_,?_⟩
    ·have hb:bndO aq (some hi) xs.length=some k:=by show(match aq hi with|some v=>natOf v|none=>none)=_;rw[he];rfl
     have h1:Nat.ble 0 k=true:=Nat.ble_eq_true_of_le (Nat.zero_le k);have h2:Nat.ble k xs.length=true:=Nat.ble_eq_true_of_le (by omega);have h0:bndO aq none 0=some 0:=rfl;simp only[sliceA,if_true,h0,hb,h1,h2,Nat.zero_mul,Nat.add_zero,ite_self,Nat.sub_zero]
    ·have mJ:(l.take k).length=k:=by rw[List.length_take];omega
     have hx:∀ {j},j<k->idxSlA none (.al o 0 k none (some xs.length)) j=some (.p (some (o,j))):=λ{j} aA=>by
      rw[qV aA,Nat.zero_add,show j*shN none=j from Nat.mul_one j]
     refine⟨λτ=>by rw[mJ];rfl,λ{j} aA=>?_,λ{j} aA=>?_⟩
     ·rw[pS (hx (by omega))];exact hx (by omega)
     ·rw[pS (hx (by omega))];obtain⟨r,a3,bm⟩:=KO (rest:=rest) aa j (by omega);rw[show j*shN none=j from Nat.mul_one j] at a3;refine sc hg ?_;rw[a3,bm,List.getElem_take];subst hm;rw[List.getElem_map]
theorem W.Fe{cg:kJ}{env:Env}{aJ:Option Nat}{D:List (Nat ⊕ (AV×List AV))}{n:Nat}{F:List (Nat×AV)}{z:Nat->AV}{J:ad}{Q:dS}{d:Nat}{x hi:aF}{g:Option (Nat×Bool)}{ops:List aY}{v:AV}{l:List Nat}{k:Nat}(h:eF J v l)(az:k<=l.length)(hd:Nat.blt d n=true)(hw:wtL g n F=true)(h1:c8 env n F z x=some v)(h2:c8 env n F z hi=some (ah k))
  (aa:∀w,jt J w (l.take k)->b9 cg env aJ D n ops (bs ((d,w)::F) z) J Q):b9 cg env aJ D n (⟨some d,.ks none x none (some hi) none,g,[]⟩::ops) (bs F z) J Q:=by
 obtain⟨w,aN,a4⟩:=h.b0Y az h2;refine W.val (v:=w) (af:=J) hd hw ?_ (aa w a4);show(match c8 env n F z x with|some x=>(match sliceA (c8 env n F z) none x none (some hi) none with|some v=>some (bL.val v J)|none=>none)|none=>none)=_;rw[h1];show(match sliceA (c8 env n F z) none v none (some hi) none with|some v=>some (bL.val v J)|none=>none)=_;rw[aN]
structure ld(J:ad)(p:Nat)(L:List bX)(B N:List (List Nat)):Prop where
 ex:∃cH ey bI ee,J.get p=some (.cells [cD L,cH,ey])/\Sl J none cH bI/\bI.length=B.length/\(∀i (h:i<bI.length) (h':i<B.length),eF J bI[i] B[i])/\Sl J none ey ee/\ee.length=N.length/\∀i (h:i<ee.length) (h':i<N.length),eF J ee[i] N[i]
theorem ld.aO{J τ:ad}{p:Nat}{L:List bX}{B N:List (List Nat)}(h:ld J p L B N)(k:∀i o,J.get i=some o->τ.get i=some o):ld τ p L B N:=by
 obtain⟨cH,ey,bI,ee,h1,h2,h3,aQ,bJ,cu,ej⟩:=h.ex;exact⟨cH,ey,bI,ee,k _ _ h1,h2.aO λi o _=>k i o,h3,λi a b=>(aQ i a b).aO λi o _=>k i o,bJ.aO λi o _=>k i o,cu,λi a b=>(ej i a b).aO λi o _=>k i o⟩
theorem Ff{o:Bool}{U:Option Nat}{l:List AV}:conf none (slA o U l)=true:=by cases l<;>rfl
theorem Fg{a:Nat}(h:a+1<2^63):binop .add (ah a) (.i .i64 1)=some (ah (a+1)):=oE (b:=1) h
theorem Fh{a:Nat}(h1:1<=a)(h:a<2^63):binop .sub (ah a) (.i .i64 1)=some (ah (a-1)):=pK (b:=1) h1 h
theorem ai{P R:Prop}(k:R)(h:Hid R->P:=by
 intro k
 repeat (first
  |refine W.go I I I I ?_
  |refine W.off I I ?_
  |(refine W.D_ ?_;first|refine W.lt I I I I ?_|refine W.lt I I I Ff ?_|refine W.aw H I I I (.head _) I ?_|refine W.aw H I I I (.tail _ (.head _)) I ?_|refine W.aw H I I I (.tail _ (.tail _ (.head _))) I ?_|refine W.aw H I I I (.tail _ (.tail _ (.tail _ (.head _)))) I ?_|refine W.aw H I I I (.tail _ (.tail _ (.tail _ (.tail _ (.head _))))) I ?_|refine W.aw H I I I (.tail _ (.tail _ (.tail _ (.tail _ (.tail _ (.head _)))))) I ?_|refine W.aw H I I I (.tail _ (.tail _ (.tail _ (.tail _ (.tail _ (.tail _ (.head _))))))) I ?_|refine W.aw H I I I (.tail _ (.tail _ (.tail _ (.tail _ (.tail _ (.tail _ (.tail _ (.head _)))))))) I ?_|refine W.aw H I I I (.tail _ (.tail _ (.tail _ (.tail _ (.tail _ (.tail _ (.tail _ (.tail _ (.head _))))))))) I ?_|refine W.aw H I I I (.tail _ (.tail _ (.tail _ (.tail _ (.tail _ (.tail _ (.tail _ (.tail _ (.tail _ (.head _)))))))))) I ?_|refine W.le I I I (jt.aw (by assumption) (by omega)) ?_|refine W.le I I I (g8.aw (by assumption) (by omega)) ?_)
  |(refine W.Ea ?_;first|refine W.As I I I I (by simp only[W.cmpP,List.length_cons,List.length_nil];first|done|omega|exact id|exact λh=>h trivial) ?_|refine W.fm I I I I I (by simp only[W.cmpP,List.length_cons,List.length_nil];first|done|omega|exact id|exact λh=>h trivial) ?_|refine W.bin I I I I (Fg (by omega)) ?_|refine W.bin I I I I (Fh (by omega) (by omega)) ?_|refine W.bin I I I I (oE (by omega)) ?_|refine W.bin I I I I (pK (by omega) (by omega)) ?_)
  |(refine W.Eb ?_;first|refine W.eV I I I I (Fb (by omega)) ?_|refine W.eV I I I I (xF (by omega)) ?_|refine W.eV I I I I (jt.eV (by assumption) (by omega)) ?_|refine W.eV I I I I (g8.eV (by assumption) (by omega)) ?_)
  |(refine W.Ec ?_;first|refine W.len I I I Fc ?_|refine W.len I I I DQ ?_|refine W.len I I I (jt.len (by assumption) _) ?_|refine W.len I I I (g8.len (by assumption) _) ?_|refine W.len I I I I ?_)
  |(refine W.JK ?_;first|refine W.fJ H I I I (.head _) I (by first|exact cX rfl|exact hN I) ?_|refine W.fJ H I I I (.tail _ (.head _)) I (by first|exact cX rfl|exact hN I) ?_|refine W.fJ H I I I (.tail _ (.tail _ (.head _))) I (by first|exact cX rfl|exact hN I) ?_|refine W.fJ H I I I (.tail _ (.tail _ (.tail _ (.head _)))) I (by first|exact cX rfl|exact hN I) ?_|refine W.fJ H I I I (.tail _ (.tail _ (.tail _ (.tail _ (.head _))))) I (by first|exact cX rfl|exact hN I) ?_|refine W.fJ H I I I (.tail _ (.tail _ (.tail _ (.tail _ (.tail _ (.head _)))))) I (by first|exact cX rfl|exact hN I) ?_|refine W.fJ H I I I (.tail _ (.tail _ (.tail _ (.tail _ (.tail _ (.tail _ (.head _))))))) I (by first|exact cX rfl|exact hN I) ?_|refine W.fJ H I I I (.tail _ (.tail _ (.tail _ (.tail _ (.tail _ (.tail _ (.tail _ (.head _)))))))) I (by first|exact cX rfl|exact hN I) ?_|refine W.fJ H I I I (.tail _ (.tail _ (.tail _ (.tail _ (.tail _ (.tail _ (.tail _ (.tail _ (.head _))))))))) I (by first|exact cX rfl|exact hN I) ?_|refine W.fJ H I I I (.tail _ (.tail _ (.tail _ (.tail _ (.tail _ (.tail _ (.tail _ (.tail _ (.tail _ (.head _)))))))))) I (by first|exact cX rfl|exact hN I) ?_)
  |refine W.sq ?_|refine W.rg ?_|refine W.a7O I ?_|refine W.Ar ?_|refine aj.block (a:=.seq _ _) ?_|refine aj.block (a:=.region _) ?_|refine aj.block (a:=.draw _) ?_|refine aj.block (a:=.cond _ _ _) ?_
  |refine W.nil ?_|refine W.vC ?_
  |refine W.now (_::_) _ I I (by(repeat (refine⟨H.get _ (by repeat (first|exact List.Mem.head _|refine List.Mem.tail _ ?_)),?_⟩));exact trivial) ?_
  |refine W.k8 I ?_|refine W.m0 I ?_)
 exact k.out):P:=h ⟨k⟩
theorem eY{P R:Prop}(k:R)(h:Hid R->P:=by
 intro k
 repeat (first
  |refine W.go I I I I ?_
  |refine W.off I I ?_
  |(refine W.D_ ?_;first|refine W.lt I I I I ?_|refine W.lt I I I Ff ?_|refine W.aw H I I I (.head _) I ?_|refine W.aw H I I I (.tail _ (.head _)) I ?_|refine W.aw H I I I (.tail _ (.tail _ (.head _))) I ?_|refine W.aw H I I I (.tail _ (.tail _ (.tail _ (.head _)))) I ?_|refine W.aw H I I I (.tail _ (.tail _ (.tail _ (.tail _ (.head _))))) I ?_|refine W.aw H I I I (.tail _ (.tail _ (.tail _ (.tail _ (.tail _ (.head _)))))) I ?_|refine W.aw H I I I (.tail _ (.tail _ (.tail _ (.tail _ (.tail _ (.tail _ (.head _))))))) I ?_|refine W.aw H I I I (.tail _ (.tail _ (.tail _ (.tail _ (.tail _ (.tail _ (.tail _ (.head _)))))))) I ?_|refine W.aw H I I I (.tail _ (.tail _ (.tail _ (.tail _ (.tail _ (.tail _ (.tail _ (.tail _ (.head _))))))))) I ?_|refine W.aw H I I I (.tail _ (.tail _ (.tail _ (.tail _ (.tail _ (.tail _ (.tail _ (.tail _ (.tail _ (.head _)))))))))) I ?_|refine W.le I I I (jt.aw (by assumption) (by omega)) ?_|refine W.le I I I (g8.aw (by assumption) (by omega)) ?_)
  |(refine W.Ea ?_;first|refine W.As I I I I (by simp only[W.cmpP,List.length_cons,List.length_nil];first|done|omega|exact id|exact λh=>h trivial) ?_|refine W.fm I I I I I (by simp only[W.cmpP,List.length_cons,List.length_nil];first|done|omega|exact id|exact λh=>h trivial) ?_|refine W.bin I I I I (Fg (by omega)) ?_|refine W.bin I I I I (Fh (by omega) (by omega)) ?_|refine W.bin I I I I (oE (by omega)) ?_|refine W.bin I I I I (pK (by omega) (by omega)) ?_)
  |(refine W.Eb ?_;first|refine W.eV I I I I (Fb (by omega)) ?_|refine W.eV I I I I (xF (by omega)) ?_|refine W.eV I I I I (jt.eV (by assumption) (by omega)) ?_|refine W.eV I I I I (g8.eV (by assumption) (by omega)) ?_)
  |(refine W.Ec ?_;first|refine W.len I I I Fc ?_|refine W.len I I I DQ ?_|refine W.len I I I (jt.len (by assumption) _) ?_|refine W.len I I I (g8.len (by assumption) _) ?_|refine W.len I I I I ?_)
  |(refine W.JK ?_;first|refine W.fJ H I I I (.head _) I (by first|exact cX rfl|exact hN I) ?_|refine W.fJ H I I I (.tail _ (.head _)) I (by first|exact cX rfl|exact hN I) ?_|refine W.fJ H I I I (.tail _ (.tail _ (.head _))) I (by first|exact cX rfl|exact hN I) ?_|refine W.fJ H I I I (.tail _ (.tail _ (.tail _ (.head _)))) I (by first|exact cX rfl|exact hN I) ?_|refine W.fJ H I I I (.tail _ (.tail _ (.tail _ (.tail _ (.head _))))) I (by first|exact cX rfl|exact hN I) ?_|refine W.fJ H I I I (.tail _ (.tail _ (.tail _ (.tail _ (.tail _ (.head _)))))) I (by first|exact cX rfl|exact hN I) ?_|refine W.fJ H I I I (.tail _ (.tail _ (.tail _ (.tail _ (.tail _ (.tail _ (.head _))))))) I (by first|exact cX rfl|exact hN I) ?_|refine W.fJ H I I I (.tail _ (.tail _ (.tail _ (.tail _ (.tail _ (.tail _ (.tail _ (.head _)))))))) I (by first|exact cX rfl|exact hN I) ?_|refine W.fJ H I I I (.tail _ (.tail _ (.tail _ (.tail _ (.tail _ (.tail _ (.tail _ (.tail _ (.head _))))))))) I (by first|exact cX rfl|exact hN I) ?_|refine W.fJ H I I I (.tail _ (.tail _ (.tail _ (.tail _ (.tail _ (.tail _ (.tail _ (.tail _ (.tail _ (.head _)))))))))) I (by first|exact cX rfl|exact hN I) ?_)
  |refine W.now (_::_) _ I I (by(repeat (refine⟨H.get _ (by repeat (first|exact List.Mem.head _|refine List.Mem.tail _ ?_)),?_⟩));exact trivial) ?_)
 exact k.out):P:=h ⟨k⟩
end Go.Lyc
end
noncomputable section
namespace Go.Lyc
set_option maxHeartbeats 0
variable [Tok][TokOk]
open Go.RowKit Go.Lyc.T
attribute [local irreducible] b9 bO dj dY bu
section
variable {b:b8}{K:Nat->List AV->AV->Prop}
abbrev dC(J af:ad):Prop:=J.next<=af.next/\∀i o,J.get i=some o->af.get i=some o
abbrev aK(p:Nat):AV:=.p (some (p,0))
def Fi:List Nat:=[x8,AN,AQ,AP,EZ,ET,EU,EV,ES,EW]
structure lg(b:b8)(K:Nat->List AV->AV->Prop):Prop where
 Fj:bk (b.aM K) x8 Kl
 equal:bk (b.aM K) AN Ks
 index:bk (b.aM K) AQ Ku
 cont:bk (b.aM K) AP Kt
 clone:bk (b.aM K) EZ Up
 yd:bk (b.aM K) ET Uk
 Fk:bk (b.aM K) EU Km
 beside:bk (b.aM K) EV Ul
 ye:bk (b.aM K) ES Uj
 Fl:bk (b.aM K) EW Um
theorem lg.q(h:lg b K):qX (b.aM K) Fi:=by
 have mk:∀ {g:Nat} {b1:aI} {body:bF},bk (b.aM K) g b1->b1.body=some body->quiet Fi body=true->(b.aM K).ext g=0/\((b.aM K).pure g=true\/(b.aM K).pure g=false/\∃b1 body,(b.aM K).funcs g=some b1/\b1.body=some body/\quiet Fi body=true):=λhh hb aS=>⟨hh.e,.inr ⟨hh.p,_,_,hh.f,hb,aS⟩⟩
 intro g hg;simp only[Fi,List.mem_cons,List.not_mem_nil,or_false] at hg;rcases hg with rfl|rfl|rfl|rfl|rfl|rfl|rfl|rfl|rfl|rfl
 ·exact mk h.Fj I I
 ·exact mk h.equal I I
 ·exact mk h.index I I
 ·exact mk h.cont I I
 ·exact mk h.clone I I
 ·exact mk h.yd I I
 ·exact mk h.Fk I I
 ·exact mk h.beside I I
 ·exact mk h.ye I I
 ·exact mk h.Fl I I
def mo(B:List (List Nat))(n d first:Nat):Bool:=decide ((B.getD (n-1) [])[d-1]? =some first)
theorem b0Z(hh:bk (b.aM K) x8 Kl){p:Nat}{L:List bX}{B N:List (List Nat)}{J:ad}(eG:ld J p L B N)(n d first:Nat)(hn:1<=n)(gX:n<=B.length)(bV:B.length<2^62)(hd:1<=d)(im:d<2^62):
  bu (b.aM K) 0 (.f (.func x8) [] []) [aK p,ah n,ah d,ah first] J (λr τ=>r= .ok (.b (mo B n d first))/\τ=J):=by
 refine W.code hh.e hh.p hh.f I I I I λz=>?_;obtain⟨cH,ey,bI,ee,h1,h2,h3,aQ,bJ,cu,ej⟩:=eG.ex;have H:Has J [(p,[cD L,cH,ey])]:=Has.nil.cons h1 (by simp);have au:=h2.vw;have aV:=(aQ (n-1) (by omega) (by omega)).jN;have hg:B.getD (n-1) []=B[n-1]:=by rw[List.getD_eq_getElem?_getD,List.getElem?_eq_getElem (by omega)];rfl
 unfold mo;rw[hg];generalize B[n-1]=kY at aV;refine ai ?_;by_cases hlt:d<=kY.length
 ·refine ai ?_;refine W.R8 I I I I I ?_;refine ai ?_;rw[show decide (kY[d-1]? =some first)=decide (kY[d-1]=first) from by rw[List.getElem?_eq_getElem (by omega)];simp];exact aj.ret ⟨rfl,rfl,rfl⟩
 ·refine ai ?_;rw[show decide (kY[d-1]? =some first)=false from by rw[List.getElem?_eq_none (by omega)];simp];exact aj.ret ⟨rfl,rfl,rfl⟩
theorem Uv(hh:bk (b.aM K) AN Ks){J:ad}{v w:AV}{l m:List Nat}(h1:jt J v l)(h2:jt J w m)(hl:l.length<2^62):
  bu (b.aM K) 0 (.f (.func AN) [] []) [v,w] J (λr τ=>r= .ok (.b (decide (l=m)))/\τ=J):=by
 refine W.code hh.e hh.p hh.f I I I I λz=>?_;have H:Has J []:=Has.nil;refine ai ?_;by_cases hlen:l.length=m.length
 ·refine ai ?_;refine aj.each l.length (λj f τ=>τ=J/\sat [(0,v),(1,w)] f/\l.take j=m.take j) hl ⟨rfl,⟨rfl,rfl,trivial⟩,rfl⟩ I I (λj g τ aA aV hi hm=>?_) (λg τ aV hi=>?_)
  ·obtain⟨rfl,⟨c6,bN,_⟩,ht⟩:=aV;refine aj.norm [(0,v),(1,w),(13,ah j),(12,ah l.length)] ⟨c6,bN,hi,hm,trivial⟩ λg=>?_;refine ai ?_;by_cases he:l[j]=m[j]
   ·refine ai ?_;exact⟨rfl,rfl,rfl,⟨rfl,rfl,trivial⟩,by rw[List.take_succ_eq_append_getElem aA,List.take_succ_eq_append_getElem (by omega),ht,he]⟩
   ·refine ai ?_;rw[show decide (l=m)=false from decide_eq_false λe=>he (by subst e;rfl)];exact aj.ret ⟨rfl,rfl,rfl⟩
  ·obtain⟨rfl,_,ht⟩:=aV;refine aj.norm [] trivial λz=>?_;rw[show decide (l=m)=true from decide_eq_true (by rwa[List.take_length,hlen,List.take_length] at ht)];refine ai ?_;exact aj.ret ⟨rfl,rfl,rfl⟩
 ·refine ai ?_;rw[show decide (l=m)=false from decide_eq_false λe=>hlen (by rw[e])];exact aj.ret ⟨rfl,rfl,rfl⟩
theorem b1a(hh:bk (b.aM K) AP Kt)(hx:bk (b.aM K) AQ Ku){J:ad}{v:AV}{l:List Nat}(h1:jt J v l)(hl:l.length<2^62)(a:Nat):
  bu (b.aM K) 0 (.f (.func AP) [] []) [v,ah a] J (λr τ=>r= .ok (.b (decide (a∈l)))/\τ=J):=by
 have hi:bu (b.aM K) 0 (.f (.func AQ) [] []) [v,ah a] J (λr τ=>(∃k,r= .ok (.i .i64 k)/\decide (0<=k)=decide (a∈l))/\τ=J):=by
  refine W.code hx.e hx.p hx.f I I I I λz=>?_;have H:Has J []:=Has.nil;refine ai ?_;refine aj.each l.length (λj f τ=>τ=J/\sat [(0,v),(1,ah a)] f/\a∉l.take j) hl ⟨rfl,⟨rfl,rfl,trivial⟩,by simp⟩ I I (λj g τ aA aV hi hm=>?_) (λg τ aV hi=>?_)
  ·obtain⟨rfl,⟨c6,bN,_⟩,ht⟩:=aV;refine aj.norm [(0,v),(1,ah a),(8,ah j),(7,ah l.length)] ⟨c6,bN,hi,hm,trivial⟩ λg=>?_;refine ai ?_;by_cases he:a=l[j]
   ·refine ai ?_;refine aj.ret ⟨rfl,⟨_,rfl,?_⟩,rfl⟩;rw[decide_eq_true (show a∈l from he▸List.getElem_mem aA)];exact decide_eq_true (Int.natCast_nonneg j)
   ·refine ai ?_;refine⟨rfl,rfl,rfl,⟨rfl,rfl,trivial⟩,λh=>?_⟩;rw[List.take_succ_eq_append_getElem aA] at h;rcases List.mem_append.1 h with h|h
    ·exact ht h
    ·exact he (List.mem_singleton.1 h)
  ·obtain⟨rfl,_,ht⟩:=aV;refine aj.norm [] trivial λz=>?_;refine ai ?_;refine aj.ret ⟨rfl,⟨_,rfl,?_⟩,rfl⟩;rw[List.take_length] at ht;rw[decide_eq_false ht];rfl
 refine W.code hh.e hh.p hh.f I I I I λz=>?_;have H:Has J []:=Has.nil;refine ai ?_;refine W.an trivial I I I hi λr τ ⟨⟨k,e,az⟩,a4⟩=>⟨_,e,?_⟩
 subst a4;refine W.bin (v:=.b (decide (0<=k))) I I I I I ?_;rw[az];refine ai ?_;exact aj.ret ⟨rfl,rfl,rfl⟩
structure sx(L:List bX)(B:List (List Nat)):Prop where
 len:B.length=L.length
 lt:L.length<2^20
 bY:∀x∈L,x.bY<2^20
 blt:∀x∈B,x.length<2^20
def iL(L:List bX)(k:Nat):Nat:=(L.map bX.bY).getD (k-1) 0
def kM(L:List bX)(B:List (List Nat))(k a c:Nat):Bool:=
 mo B a (iL L k+1) a&&(decide ((B.getD (a-1) []).take (iL L k)=B.getD (k-1) [])&&(decide (iL L c=iL L k+1)&&(mo B c (iL L k+1) a&& !mo B (c+1) (iL L k+1) a)))
theorem AZ{L:List bX}{k:Nat}(h1:1<=k)(h2:k<=L.length):iL L k=(L[k-1]'(by omega)).bY:=by
 unfold iL;rw[List.getD_eq_getElem?_getD,List.getElem?_map,List.getElem?_eq_getElem (by omega)];rfl
theorem Uw(hf:lg b K){p:Nat}{L:List bX}{B N:List (List Nat)}{J:ad}(eG:ld J p L B N)(dq:sx L B)(k a c:Nat)(ha:1<=a)(fP:a<=c)(kB:c<k)(az:k<=L.length):
  bu (b.aM K) 0 (.f (.func ET) [] []) [aK p,ah k,.ag [ah a,ah c]] J (λr τ=>r= .ok (.b (kM L B k a c))/\dC J τ):=by
 refine W.code hf.yd.e hf.yd.p hf.yd.f I I I I λz=>?_;obtain⟨cH,ey,bI,ee,h1,h2,h3,aQ,bJ,cu,ej⟩:=eG.ex;have H:Has J [(p,[cD L,cH,ey])]:=Has.nil.cons h1 (by simp);have hl:=dq.lt;have hd:=dq.len;refine ai ?_;generalize aS:J.next=q;refine W.cy H aS I I I I I λτ hn H bB=>?_;have qD:=dq.bY _ (List.getElem_mem (show k-1<L.length by omega));have au:=(h2.aO (τ:=τ) λi o _=>bB i o).vw;have aN:=AZ (L:=L) (k:=k) (by omega) az;have a4:=AZ (L:=L) (k:=c) (by omega) (by omega);have b1b:=eG.aO bB;have cA:∀(m:Nat) af,ld af p L B N->1<=m->m<=B.length->bu (b.aM K) 0 (.f (.func x8) [] []) [aK p,ah m,ah (L[k-1].bY+1),ah a] af (λr τ=>r= .ok (.b (mo B m (L[k-1].bY+1) a))/\τ=af):=λm af h bN bQ=>b0Z hf.Fj h m _ a bN bQ (by omega) (by omega) (by omega);unfold kM;rw[aN,a4];refine ai ?_;refine W.an (hf.q.one I) I I I (cA a τ b1b ha (by omega)) λr aH ⟨e,cQ⟩=>⟨_,e,?_⟩
 subst cQ;cases ao:mo B a (L[k-1].bY+1) a with
 |false=>
  refine ai ?_;exact aj.ret ⟨rfl,rfl,by omega,bB⟩
 |true=>
  have nP:B.getD (a-1) []=B[a-1]:=by rw[List.getD_eq_getElem?_getD,List.getElem?_eq_getElem (by omega)];rfl
  have KP:B.getD (k-1) []=B[k-1]:=by rw[List.getD_eq_getElem?_getD,List.getElem?_eq_getElem (by omega)];rfl
  have hlen:L[k-1].bY+1<=B[a-1].length:=by
   have:=of_decide_eq_true ao;rw[nP] at this;have:=(List.getElem?_eq_some_iff.1 this).1;omega
  have aV:=(aQ (a-1) (by omega) (by omega)).aO (τ:=aH) λi o _=>bB i o;have hs:=(aQ (k-1) (by omega) (by omega)).aO (τ:=aH) λi o _=>bB i o;rw[nP,KP];refine ai ?_;refine W.Fe aV (by omega) I I I I λw hw=>?_;have Ux:=hs.jN;refine ai ?_;have ep:L[k-1].bY+1-1=L[k-1].bY:=by omega
  rw[ep] at hw;refine W.an (hf.q.one I) I I I (Uv hf.equal hw Ux (by rw[List.length_take];omega)) λr τ ⟨e,cQ⟩=>⟨_,e,?_⟩
  subst cQ;by_cases he:(B[a-1]).take (L[k-1].bY)=B[k-1]
  ·rw[decide_eq_true he,Bool.true_and,Bool.true_and];refine ai ?_;by_cases KQ:L[c-1].bY=L[k-1].bY+1
   ·rw[decide_eq_true KQ,Bool.true_and];refine ai ?_;refine W.an (hf.q.one I) I I I (cA c _ (eG.aO bB) (by omega) (by omega)) λr τ ⟨e,cQ⟩=>⟨_,e,?_⟩
    subst cQ;cases nz:mo B c (L[k-1].bY+1) a with
    |false=>
     refine ai ?_;exact aj.ret ⟨rfl,rfl,by omega,bB⟩
    |true=>
     refine ai ?_;refine W.an (hf.q.one I) I I I (cA (c+1) _ (eG.aO bB) (by omega) (by omega)) λr τ ⟨e,cQ⟩=>⟨_,e,?_⟩
     subst cQ;refine ai ?_;exact aj.ret ⟨rfl,rfl,by omega,bB⟩
   ·rw[decide_eq_false KQ];refine ai ?_;exact aj.ret ⟨rfl,rfl,by omega,bB⟩
  ·rw[decide_eq_false he];refine ai ?_;exact aj.ret ⟨rfl,rfl,by omega,bB⟩
def asmF(L:List bX)(first d:Nat):Nat->Nat->List Nat
 |0,_=>[]
 |m+1,n=>match L[n-1]? with
  |some x=>if x.hyp=true/\x.bY=d/\¬(first<n/\0<x.op) then n::asmF L first d m (n+1) else[]
  |none=>[]
def iX(L:List bX)(first d:Nat):List Nat:=asmF L first d (L.length+1-first) first
theorem vW(L:List bX)(first d m n:Nat):asmF L first d (m+1) n=match L[n-1]? with
  |some x=>if x.hyp=true/\x.bY=d/\¬(first<n/\0<x.op) then n::asmF L first d m (n+1) else[]
  |none=>[]:=rfl
structure vX(J τ:ad)(v:AV)(l:List Nat):Prop where
 al:eF τ v l
 cF:∀i,v.at? =some i->J.next<=i
 hq:l=[]->v= .ae
theorem Uy(hf:lg b K){p:Nat}{L:List bX}{B N:List (List Nat)}{J:ad}(eG:ld J p L B N)(hL:L.length<2^20)(dK:∀x∈L,x.op<2^20)(first d:Nat)(h1:1<=first)(h2:first<=L.length):
  bu (b.aM K) 0 (.f (.func EU) [] []) [aK p,ah first,ah d] J (λr τ=>∃v,r= .ok v/\vX J τ v (iX L first d)/\dC J τ):=by
 refine W.code hf.Fk.e hf.Fk.p hf.Fk.f I I I I λz=>?_;obtain⟨cH,ey,bI,ee,ar,_⟩:=eG.ex;have H:Has J [(p,[cD L,cH,ey])]:=Has.nil.cons ar (by simp);refine ai ?_;refine aj.block ?_;refine aj.loop (λm f τ=>∃n v l,n+m=L.length+1/\first<=n/\l++asmF L first d m n=iX L first d/\l.length+first=n/\vX J τ v l/\dC J τ/\sat [(0,aK p),(1,ah first),(2,ah d),(7,v),(8,ah n)] f) ?_ (L.length+1-first) ⟨first,.ae,[],by omega,by omega,rfl,by simp,⟨.nil,(λ_ h=>by cases h),λ_=>rfl⟩,⟨by omega,λ_ _ h=>h⟩,rfl,rfl,rfl,rfl,rfl,trivial⟩;rintro m f τ ⟨n,v,l,KR,hp,hl,ez,au,b3,ao⟩;refine aj.norm _ ao λz=>?_;clear ao;have H:=H.aO b3.2;by_cases hn:n<=L.length
 ·obtain⟨m,rfl⟩:∃k,m=k+1:=⟨m-1,by omega⟩
  have hx:L[n-1]? =some L[n-1]:=List.getElem?_eq_getElem (by omega);have ho:=dK _ (List.getElem_mem (show n-1<L.length by omega));rw[vW,hx] at hl;simp only[] at hl;refine ai ?_;generalize mq:L[n-1]=x at hl ho;refine W.ko H I I I I I I I λbh ea H bp=>?_;have qU:=au.al.aO (τ:=bh) λi o _=>bp i o;have M2:dC J bh:=⟨by have:=b3.1;omega,λi o ho=>bp i o (b3.2 i o ho)⟩
  have fin:∀g:Nat->AV,iX L first d=l->bO (b.aM K) none [] Km.ntmps (.seq (.region [⟨some 51,.bx (.t 7),none,[]⟩,⟨some 6,.bx (.t 51),none,[]⟩]) .ret) (bs [(7,v)] g) bh (λx bW af=>x= .ret/\∃v,dR.ok (bW 6)= .ok v/\vX J af v (iX L first d)/\dC J af):=λg e=>by
   refine ai ?_;exact aj.ret ⟨rfl,v,rfl,by rw[e];exact⟨qU,au.cF,au.hq⟩,M2⟩
  refine W.nil ?_;refine aj.a7q [(0,aK p),(1,ah first),(2,ah d),(7,v),(8,ah n)] (E:=λx f af=>x= .exit 0/\sat [(7,v)] f/\af=bh/\iX L first d=l) (M:=l++n::asmF L first d m (n+1)=iX L first d) ?_ ?_ ?_
  ·obtain⟨yf,ov,Fo,Uz,yg,oS⟩:=x;simp only[] at hl ho;have out:∀(F:List (Nat×AV)) (g:Nat->AV),¬(Fo=true/\yf=d/\¬(first<n/\0<ov))->sat [(7,v)] (bs F g)->(fa.exit 0=fa.normal/\bh=bh/\sat [(0,aK p),(1,ah first),(2,ah d),(7,v),(8,ah n)] (bs F g)/\l++n::asmF L first d m (n+1)=iX L first d)\/(fa.exit 0=fa.exit 0/\sat [(7,v)] (bs F g)/\bh=bh/\iX L first d=l):=λF g aa ao=>by
    rw[if_neg aa,List.append_nil] at hl;exact .inr ⟨rfl,ao,rfl,hl.symm⟩
   cases Fo with
   |false=>
    refine ai ?_;refine aj.exit ?_;exact(out _ _ (by simp) ⟨rfl,trivial⟩)
   |true=>
    by_cases hd:yf=d
    ·by_cases hfn:first<n
     ·by_cases h0:0<ov
      ·refine ai ?_;refine aj.exit ?_;exact(out _ _ (λh=>h.2.2 ⟨hfn,h0⟩) ⟨rfl,trivial⟩)
      ·refine ai ?_;rw[if_pos ⟨rfl,hd,λh=>h0 h.2⟩] at hl;exact .inl ⟨rfl,rfl,⟨rfl,rfl,rfl,rfl,rfl,trivial⟩,hl⟩
     ·refine ai ?_;rw[if_pos ⟨rfl,hd,λh=>hfn h.1⟩] at hl;exact .inl ⟨rfl,rfl,⟨rfl,rfl,rfl,rfl,rfl,trivial⟩,hl⟩
    ·refine ai ?_;refine aj.exit ?_;exact(out _ _ (λh=>hd h.2.1) ⟨rfl,trivial⟩)
  ·rintro x f af ⟨rfl,ao,rfl,e⟩;refine⟨by simp,?_⟩;show bO _ _ _ _ _ _ _ _;exact aj.norm _ ao λg=>fin g e
  ·intro b1c g;refine ai ?_;refine W.pu (ah n) qU I I I I I I I I I (by rw[List.length_map];omega) λbA bU oT oU _ eT bc=>?_;refine ai ?_;refine⟨m,by omega,n+1,bA,l++[n],by omega,by omega,by rw[List.append_assoc];exact b1c,by simp;omega,⟨by unfold eF;rw[List.map_append];exact oT,λi hi=>?_,λe=>absurd e (by simp)⟩,⟨?_,λi o ho=>?_⟩,rfl,rfl,rfl,rfl,rfl,trivial⟩
   ·rw[oU] at hi;cases hi;have:=b3.1;omega
   ·have:=b3.1;omega
   ·exact bc i o (λe=>by have:=au.cF i e;have:=ad.bt ho;omega) (M2.2 i o ho)
 ·obtain rfl:m=0:=by omega
  refine ai ?_;refine aj.exit ?_;show bO _ _ _ _ _ _ _ _;refine aj.norm [(7,v)] ⟨rfl,trivial⟩ λg=>?_;refine ai ?_;exact aj.ret ⟨rfl,v,rfl,⟨by rw[<-hl,show asmF L first d 0 n=[] from rfl,List.append_nil];exact au.al,au.cF,λe=>au.hq (by rw[<-hl,show asmF L first d 0 n=[] from rfl,List.append_nil] at e;exact e)⟩,b3⟩
def lL(L:List bX)(N:List (List Nat))(k a c:Nat):List Nat:=(N.getD (c-1) []).filter λn=>!decide (n∈iX L a (iL L k+1))
theorem KS(L:List bX)(first d:Nat):∀m n,(asmF L first d m n).length<=m
 |0,_=>Nat.le_refl _
 |m+1,n=>by
  rw[vW];split
  ·split
   ·have:=KS L first d m (n+1);simp only[List.length_cons];omega
   ·exact Nat.zero_le _
  ·exact Nat.zero_le _
theorem UA(hf:lg b K){p:Nat}{L:List bX}{B N:List (List Nat)}{J:ad}(eG:ld J p L B N)(dq:sx L B)(dK:∀x∈L,x.op<2^20)(de:∀l∈N,l.length<2^20)(k a c:Nat)(ha:1<=a)(fP:a<=c)(kB:c<k)(az:k<=L.length)(aa:c<=N.length):
  bu (b.aM K) 0 (.f (.func EV) [] []) [aK p,ah k,.ag [ah a,ah c]] J (λr τ=>∃v,r= .ok v/\vX J τ v (lL L N k a c)/\dC J τ):=by
 refine W.code hf.beside.e hf.beside.p hf.beside.f I I I I λz=>?_;obtain⟨cH,ey,bI,ee,h1,h2,h3,aQ,bJ,cu,ej⟩:=eG.ex;have H:Has J [(p,[cD L,cH,ey])]:=Has.nil.cons h1 (by simp);have hl:=dq.lt;refine ai ?_;refine W.cy H I I I I I I λτ hn H bB=>?_;have qD:=dq.bY _ (List.getElem_mem (show k-1<L.length by omega));have aN:=AZ (L:=L) (k:=k) (by omega) az;unfold lL;rw[aN];refine ai ?_;refine W.an (hf.q.one I) I I I (Uy hf (eG.aO bB) hl dK a (L[k-1].bY+1) ha (by omega)) λr bh ⟨v,e,au,M⟩=>⟨_,e,?_⟩
 have H:=H.aO M.2;have bp:∀i o,J.get i=some o->bh.get i=some o:=λi o h=>M.2 i o (bB i o h);have KT:=(bJ.aO (τ:=bh) λi o _=>bp i o).vw;have aV:=(ej (c-1) (by omega) (by omega)).aO (τ:=bh) λi o _=>bp i o;have kN:N.getD (c-1) []=N[c-1]:=by rw[List.getD_eq_getElem?_getD,List.getElem?_eq_getElem (by omega)];rfl
 have b1d:=de _ (List.getElem_mem (show c-1<N.length by omega));rw[kN];have KU:=aV.jN;have oc:(iX L a (L[k-1].bY+1)).length<2^62:=by have:=KS L a (L[k-1].bY+1) (L.length+1-a) a;unfold iX;omega
 generalize iX L a (L[k-1].bY+1)=own at au oc;generalize N[c-1]=hq at aV KU b1d;generalize b1e:ee[c-1]=UB at aV KU;refine ai ?_;rw[b1e];refine ai ?_;have vv:=au.al;refine aj.each hq.length (λj f aH=>∃w,vX bh aH w ((hq.take j).filter λn=>!decide (n∈own))/\dC bh aH/\sat [(7,v),(8,w),(33,UB)] f) (by omega) ⟨.ae,⟨.nil,(λ_ h=>by cases h),λ_=>rfl⟩,⟨by omega,λ_ _ h=>h⟩,rfl,rfl,rfl,trivial⟩ I I (λj g aH aA Fp hi hm=>?_) (λg aH Fp hi=>?_)
 ·obtain⟨w,hw,M2,g5,fI,Fq,_⟩:=Fp;refine aj.norm [(7,v),(8,w),(33,UB),(35,ah j),(34,ah hq.length)] ⟨g5,fI,Fq,hi,hm,trivial⟩ λg=>?_;have KU:=(aV.aO (τ:=aH) λi o _=>M2.2 i o).jN;have b1f:=(vv.aO (τ:=aH) λi o _=>M2.2 i o).jN;refine ai ?_;refine W.an trivial I I I (b1a hf.cont hf.index b1f oc hq[j]) λr bU ⟨e,cQ⟩=>⟨_,e,?_⟩
  subst cQ;by_cases hm:hq[j]∈own
  ·rw[decide_eq_true hm];refine ai ?_;exact⟨rfl,rfl,w,by rw[List.take_succ_eq_append_getElem aA,List.filter_append,List.filter_cons,decide_eq_true hm];simpa using hw,M2,rfl,rfl,rfl,trivial⟩
  ·rw[decide_eq_false hm];refine ai ?_;refine W.pu (ah hq[j]) hw.al I I I I I I I I I (by rw[List.length_map];have:=List.length_filter_le (λn=>!decide (n∈own)) (hq.take j);rw[List.length_take] at this;omega) λbA cq vY mr _ fl b5=>?_;refine ai ?_;refine⟨rfl,rfl,bA,⟨?_,λi hi=>?_,λe=>?_⟩,⟨?_,λi o ho=>b5 i o (λe=>?_) (M2.2 i o ho)⟩,rfl,rfl,rfl,trivial⟩
   ·rw[List.take_succ_eq_append_getElem aA,List.filter_append,List.filter_cons,decide_eq_false hm];unfold eF;rw[List.map_append];exact vY
   ·rw[mr] at hi;cases hi;have:=M2.1;omega
   ·rw[List.take_succ_eq_append_getElem aA,List.filter_append,List.filter_cons,decide_eq_false hm] at e;simp at e
   ·have:=M2.1;omega
   ·have:=hw.cF i e;have:=ad.bt ho;omega
 ·obtain⟨w,hw,M2,g5,fI,_⟩:=Fp;refine aj.norm [(8,w)] ⟨fI,trivial⟩ λg=>?_;refine ai ?_;have ea:=M.1;refine aj.ret ⟨rfl,w,rfl,⟨by rw[List.take_length] at hw;exact hw.al,(λi hi=>by have:=hw.cF i hi;omega),λe=>hw.hq (by rw[List.take_length];exact e)⟩,⟨by have:=M2.1;omega,λi o h=>M2.2 i o (bp i o h)⟩⟩
end
section
variable {b:b8}{K:Nat->List AV->AV->Prop}
theorem W.Fs{α:Type}{env:Env}{aJ:Option Nat}{D:List (Nat ⊕ (AV×List AV))}{n:Nat}{a:bF}{f:Nat->AV}{J:ad}{Q:dS}(L:α->List (Nat×AV))(R:α->ad->Prop)(h1:bO env aJ D n a f J (λx bW af=>x= .normal/\∃p,R p af/\sat (L p) bW))(h2:∀p g af,R p af->Q .normal (bs (L p) g) af):bO env aJ D n a f J Q:=
 h1.mono λx bW af ⟨aN,p,a4,cQ⟩=>by
  subst aN;rw[<-Ah cQ];exact h2 p bW af a4
theorem W.mk{cg:kJ}{env:Env}{aJ:Option Nat}{D:List (Nat ⊕ (AV×List AV))}{n:Nat}{F:List (Nat×AV)}{z:Nat->AV}{J:ad}{Q:dS}{L:List (Nat×List AV)}(H:Has J L){d:Nat}{jM:AV}{x y:aF}{g:Option (Nat×Bool)}{ops:List aY}{m:Nat}{k bytes:Nat}(hn:J.next=k)(hb:bytes*m<=281474976710656)(hm:m<=281474976710656)(hd:Nat.blt d n=true)(hw:wtL g n F=true)(h1:c8 env n F z x=some (ah m))(h2:c8 env n F z y=some (ah m))
  (h:∀τ:ad,τ.next=k+1->Has τ ((k,List.replicate m jM)::L)->(∀i o,J.get i=some o->τ.get i=some o)->b9 cg env aJ D n ops (bs ((d,.al k 0 m none (some m))::F) z) τ Q):b9 cg env aJ D n (⟨some d,.mkSlice none bytes [jM] x y,g,[]⟩::ops) (bs F z) J Q:=by
 subst hn;have b1g:∀m,f_ m [jM]=List.replicate m jM:=λm=>by
  induction m with
  |zero=>rfl
  |succ m aD=>show jM::f_ m [jM]=_;rw[aD];rfl
 have c7:∀i o,J.get i=some o->(J.push (.cells (List.replicate m jM))).get i=some o:=λi o ho=>by rw[ad.fD trivial _ (ad.bt ho)];exact ho
 refine W.val (v:=.al J.next 0 m none (some m)) (af:=J.push (.cells (List.replicate m jM))) hd hw ?_ (h (J.push (.cells (List.replicate m jM))) I (H.push I (ad.iB _) c7) c7);show(match c8 env n F z x,c8 env n F z y with
  |some (.i _ (.ofNat n)),some (.i _ (.ofNat m))=>
   cond (Nat.beq [jM].length (shN none)&&(Nat.ble n m&&(Nat.ble (bytes*m) 281474976710656&&Nat.ble m 281474976710656)))
    (some (bL.val (.al J.next 0 n none (some m)) (J.push (.cells (f_ m [jM]))))) none
  |some .ae,some (.i _ (.ofNat m))=>
   cond (Nat.beq [jM].length (Nat.succ (shN none))&&(Nat.blt 0 m&&Nat.ble ((3*m+2000)*bytes) 281474976710656))
    (some (bL.val (.al J.next 0 m none none) (J.push (.cells (f_ m [jM].tail))))) none
  |_,_=>none)=_
 rw[h1,h2];show cond (Nat.ble m m&&(Nat.ble (bytes*m) 281474976710656&&Nat.ble m 281474976710656)) (some (bL.val (.al J.next 0 m none (some m)) (J.push (.cells (f_ m [jM]))))) none=_;rw[Nat.ble_eq_true_of_le (Nat.le_refl m),Nat.ble_eq_true_of_le hb,Nat.ble_eq_true_of_le hm,b1g];rfl
theorem b1h{sy:List Bool}{n:Nat}(h:n<sy.length):storeCells (sy.map AV.b) (0+n*shN none) (AV.b true).cells=some ((sy.set n true).map AV.b):=by
 have e:0+n*shN none=n:=by show 0+n*1=n;omega
 rw[e];unfold storeCells;rw[if_pos (Nat.ble_eq_true_of_le (by show n+1<=_;rw[List.length_map];omega))];show some ((sy.map AV.b).take n++([AV.b true]++(sy.map AV.b).drop (n+1)))=_;rw[List.set_eq_take_append_cons_drop,if_pos h];simp
theorem b1i{sy:List Bool}{n:Nat}(h:n<sy.length):dI none ((sy.map AV.b).drop (0+n*shN none))=some (.b sy[n]):=by
 have e:0+n*shN none=n:=by show 0+n*1=n;omega
 rw[e,← List.map_drop,List.drop_eq_getElem_cons h];rfl
def oV(L:List bX)(B N:List (List Nat))(k:Nat)(ac:Nat×Nat):List Nat:=cond (kM L B k ac.1 ac.2) (lL L N k ac.1 ac.2) (N.getD (ac.2-1) [])
def mu(L:List bX)(B N:List (List Nat))(k:Nat)(l:List (Nat×Nat))(n:Nat):Bool:=l.any λac=>decide (n∈oV L B N k ac)
def needL(L:List bX)(B N:List (List Nat))(k:Nat):List Nat:=match L[k-1]? with
 |some x=>cond x.hyp [k] ((List.range k).filter (mu L B N k x.cs))
 |none=>[]
def tU(k:Nat)(l:List (Nat×Nat)):Prop:=l.length<2^20/\∀ac∈l,1<=ac.1/\ac.1<=ac.2/\ac.2<k
theorem b1j{k:Nat}(p:Nat->Bool)(n:Nat):((List.range k).map p).set n true=(List.range k).map λi=>p i||decide (i=n):=by
 apply List.ext_getElem
 ·simp
 ·intro i h1 h2;rw[List.getElem_set];simp only[List.getElem_map,List.getElem_range];by_cases h:n=i
  ·subst h;simp
  ·rw[if_neg h,decide_eq_false (λe=>h e.symm),Bool.or_false]
theorem b1k(hf:lg b K){p:Nat}{L:List bX}{B N:List (List Nat)}{J:ad}(eG:ld J p L B N)(dq:sx L B)(dK:∀x∈L,x.op<2^20)(de:∀l∈N,l.length<2^20)(k:Nat)(Ft:1<=k)(az:k<=L.length)(UC:k<=N.length+1)(b1l:∀l∈N.take (k-1),∀n∈l,n<k)(aa:∀x,L[k-1]? =some x->tU k x.cs):
  bu (b.aM K) 0 (.f (.func ES) [] []) [aK p,ah k] J (λr τ=>∃v,r= .ok v/\vX J τ v (needL L B N k)/\dC J τ):=by
 refine W.code hf.ye.e hf.ye.p hf.ye.f I I I I λz=>?_;obtain⟨cH,ey,bI,ee,h1,h2,h3,aQ,bJ,cu,ej⟩:=eG.ex;have H:Has J [(p,[cD L,cH,ey])]:=Has.nil.cons h1 (by simp);have hl:=dq.lt;have hx:L[k-1]? =some L[k-1]:=List.getElem?_eq_getElem (by omega);replace aa:=aa _ hx;have c0:needL L B N k=cond (L[k-1]).hyp [k] ((List.range k).filter (mu L B N k (L[k-1]).cs)):=by unfold needL;rw[hx]
 refine ai ?_;generalize mq:L[k-1]=x at aa c0;cases hh:x.hyp with
 |true=>
  refine ai ?_;refine W.bI (c:=[ah k]) H I I I I λτ hn H bB=>?_;refine ai ?_;rw[hh] at c0;refine aj.ret ⟨rfl,_,rfl,⟨by rw[c0];exact .al J.next (some 1) [ah k] [] (H.get _ (.head _)) (by intro y hy;rw[List.mem_singleton.1 hy];exact(rfl:conf none (ah k)=true)) (.inr I),(λi hi=>by cases hi;exact Nat.le_refl _),λe=>absurd (c0.symm.trans e) (by simp)⟩,by omega,bB⟩
 |false=>
  refine ai ?_;refine W.mk H I (by omega) (by omega) I I I I λτ hn H bB=>?_;generalize aS:J.next=q at H hn;refine ai ?_;rw[mq];refine ai ?_;have KV:∀i o,J.get i=some o->i≠q:=λi o ho=>by have:=ad.bt ho;omega
  have vq:q≠p:=λe=>KV p _ h1 e.symm
  -- Cs is there at rF c0W c0X
  let JF:ad->Prop:=λaH=>q<aH.next/\∀i o,J.get i=some o->aH.get i=some o
  refine aj.each x.cs.length (λj f aH=>JF aH/\aH.get q=some (.cells (((List.range k).map (mu L B N k (x.cs.take j))).map AV.b))/\sat [(0,aK p),(1,ah k),(5,.al q 0 k none (some k)),(35,lK true x.cs)] f) (by have:=aa.1;omega) ⟨⟨by omega,bB⟩,?_,rfl,rfl,rfl,rfl,trivial⟩ I I (λj g aH aA aV hi hm=>?_) (λg aH aV hi=>?_)
  ·rw[H.get _ (.head _)]
   congr 2
   apply List.ext_getElem<;>simp[mu]
  ·obtain⟨⟨b1m,fM⟩,hb,c6,bN,c_,yh,_⟩:=aV;refine aj.norm [(0,aK p),(1,ah k),(5,.al q 0 k none (some k)),(35,lK true x.cs),(37,ah j),(36,ah x.cs.length)] ⟨c6,bN,c_,yh,hi,hm,trivial⟩ λg=>?_;have H:Has aH [(p,[cD L,cH,ey])]:=Has.nil.cons (fM _ _ h1) (by simp);obtain⟨ha,fP,kB⟩:=aa.2 _ (List.getElem_mem aA);refine ai ?_;generalize Fu:x.cs[j]=ac at ha fP kB;obtain⟨a,c⟩:=ac;simp only[] at ha fP kB;refine W.ko H I I I I I I I λbh ea H bp=>?_;have A0:∀i o,J.get i=some o->bh.get i=some o:=λi o h=>bp i o (fM i o h);have KT:=(bJ.aO (τ:=bh) λi o _=>A0 i o).vw;have j0:=bp _ _ hb;have aV:=(ej (c-1) (by omega) (by omega)).aO (τ:=bh) λi o _=>A0 i o;refine ai ?_;refine W.an trivial I I I (Uw hf (eG.aO A0) dq k a c ha fP kB az) λr bU ⟨e,et⟩=>⟨_,e,?_⟩
   have H:=H.aO et.2;have kN:N.getD (c-1) []=N[c-1]:=by rw[List.getD_eq_getElem?_getD,List.getElem?_eq_getElem (by omega)];rfl
   refine W.nil ?_;refine W.Fs (α:=AV) (λv=>[(0,aK p),(1,ah k),(5,.al q 0 k none (some k)),(35,lK true x.cs),(37,ah j),(36,ah x.cs.length),(8,v)]) (λv aH=>eF aH v (oV L B N k (a,c))/\(∀i,v.at? =some i->i≠q)/\dC bh aH) ?_ ?_
   ·unfold oV;cases Fv:kM L B k a c with
    |true=>
     refine ai ?_;refine W.an trivial I I I (UA hf (eG.aO λi o h=>et.2 i o (A0 i o h)) dq dK de k a c ha fP kB az (by omega)) λr cq ⟨v,e,au,eH⟩=>⟨_,e,?_⟩
     refine ai ?_;exact⟨rfl,v,⟨au.al,λi hi e=>by have:=au.cF i hi;have:=et.1;omega,by have:=et.1;have:=eH.1;omega,λi o h=>eH.2 i o (et.2 i o h)⟩,rfl,rfl,rfl,rfl,rfl,rfl,rfl,trivial⟩
    |false=>
     refine ai ?_;refine⟨rfl,_,⟨?_,λi hi e=>?_,et⟩,rfl,rfl,rfl,rfl,rfl,rfl,rfl,trivial⟩
     ·show eF bU ee[c-1] (N.getD (c-1) []);rw[kN];exact aV.aO λi o _=>et.2 i o
     ·obtain⟨o,ho⟩:∃o,J.get i=some o:=by
       have h:=ej (c-1) (by omega) (by omega);unfold eF at h;generalize List.map ah _=xs at h;have hi:(ee[c-1]).at? =some i:=hi;generalize ee[c-1]=w at h hi;cases h with
       |nil=>cases hi
       |al o cap xs rest hg aa az=>cases hi;exact⟨_,hg⟩
      exact KV i o ho e
   ·intro v g cq ⟨au,b1n,eH⟩;have UD:∀n∈oV L B N k (a,c),n<k:=λn hn=>by
     have fq:N[c-1]∈N.take (k-1):=List.mem_take_iff_getElem.2 ⟨c-1,by omega,rfl⟩;have gX:n∈N.getD (c-1) []:=by
      unfold oV at hn;cases Fv:kM L B k a c with
      |true=>simp only[Fv,cond_true] at hn;exact(List.mem_filter.1 hn).1
      |false=>simpa only[Fv,cond_false] using hn
     rw[kN] at gX;exact b1l _ fq n gX
    have b1o:(oV L B N k (a,c)).length<2^20:=by
     have h1:=de _ (List.getElem_mem (show c-1<N.length by omega));unfold oV;cases kM L B k a c with
     |true=>rw[cond_true];unfold lL;rw[kN];exact Nat.lt_of_le_of_lt (List.length_filter_le _ _) h1
     |false=>rw[cond_false,kN];exact h1
    have pT:=au.jN;generalize KW:oV L B N k (a,c)=hq at au b1o UD pT;refine ai ?_;refine aj.each hq.length (λi f aH=>(∀i o,i≠q->cq.get i=some o->aH.get i=some o)/\cq.next<=aH.next/\aH.get q=some (.cells (((List.range k).map λm=>mu L B N k (x.cs.take j) m||decide (m∈hq.take i)).map AV.b))/\sat [(0,aK p),(1,ah k),(5,.al q 0 k none (some k)),(35,lK true x.cs),(37,ah j),(36,ah x.cs.length),(58,v)] f) (by omega) ⟨λ_ _ _ h=>h,Nat.le_refl _,?_,rfl,rfl,rfl,rfl,rfl,rfl,rfl,trivial⟩ I I (λi g aH eR aV cY lX=>?_) (λg aH aV cY=>?_)
    ·rw[eH.2 _ _ j0];simp
    ·obtain⟨Fw,qJ,yi,c6,bN,c_,yh,KX,KY,UE,_⟩:=aV;refine aj.norm [(0,aK p),(1,ah k),(5,.al q 0 k none (some k)),(35,lK true x.cs),(37,ah j),(36,ah x.cs.length),(58,v),(60,ah i),(59,ah hq.length)] ⟨c6,bN,c_,yh,KX,KY,UE,cY,lX,trivial⟩ λg=>?_;have H:Has aH [(q,_)]:=Has.nil.cons yi (by simp);have pT:=(au.aO (τ:=aH) λi o hi=>Fw i o (b1n i hi)).jN;have hlt:=UD _ (List.getElem_mem eR);refine ai ?_;refine W.eV I I I I (qV hlt) ?_;refine W.st H 0 I I I I I (b1h (by rw[List.length_map,List.length_range];exact hlt)) λdD ir H cW=>?_;refine ai ?_;refine⟨rfl,rfl,λi o hi h=>cW i o hi (Fw i o hi h),by omega,?_,rfl,rfl,rfl,rfl,rfl,rfl,rfl,trivial⟩;rw[H.get _ (.head _),b1j];refine congrArg (λf=>some (AO.cells (((List.range k).map f).map AV.b))) (funext λm=>?_);rw[List.take_succ_eq_append_getElem eR,Bool.or_assoc];refine congrArg (λt=>mu L B N k (x.cs.take j) m||t) ?_;rw[Bool.eq_iff_iff,Bool.or_eq_true,decide_eq_true_eq,decide_eq_true_eq,decide_eq_true_eq,List.mem_append,List.mem_singleton]
    ·obtain⟨Fw,qJ,yi,c6,bN,c_,yh,KX,KY,UE,_⟩:=aV;refine⟨KX,KY,⟨by have:=eH.1;omega,λi o h=>Fw i o (KV i o h) (eH.2 i o (A0 i o h))⟩,?_,c6,bN,c_,yh,trivial⟩;rw[yi];refine congrArg (λf=>some (AO.cells (((List.range k).map f).map AV.b))) (funext λm=>?_);rw[List.take_succ_eq_append_getElem aA,List.take_length];unfold mu;rw[List.any_append,Fu,List.any_cons,List.any_nil,Bool.or_false,KW]
  ·obtain⟨⟨b1m,fM⟩,hb,c6,bN,c_,yh,_⟩:=aV;refine aj.norm [(0,aK p),(1,ah k),(5,.al q 0 k none (some k))] ⟨c6,bN,c_,trivial⟩ λg=>?_;rw[List.take_length] at hb;have H:Has aH [(q,_)]:=Has.nil.cons hb (by simp);refine ai ?_;refine aj.each k (λj f bh=>∃w,vX aH bh w ((List.range j).filter (mu L B N k x.cs))/\dC aH bh/\sat [(11,w),(69,.al q 0 k none (some k))] f) (by omega) ⟨.ae,⟨.nil,(λ_ h=>by cases h),λ_=>rfl⟩,⟨Nat.le_refl _,λ_ _ h=>h⟩,rfl,rfl,trivial⟩ I I (λj g bh aA aV hi hm=>?_) (λg bh aV hi=>?_)
   ·obtain⟨w,hw,M2,sz,b1p,_⟩:=aV;refine aj.norm [(11,w),(69,.al q 0 k none (some k)),(71,ah j),(70,ah k)] ⟨sz,b1p,hi,hm,trivial⟩ λg=>?_;have H:=H.aO M2.2;have b1q:dI none ((((List.range k).map (mu L B N k x.cs)).map AV.b).drop (0+j*shN none))=some (.b (mu L B N k x.cs j)):=by rw[b1i (by simpa using aA)];simp
    refine ai ?_;refine W.eV I I I I (qV aA) ?_;refine W.aw H I I I (.head _) b1q ?_;cases hn:mu L B N k x.cs j with
    |false=>
     refine ai ?_;exact⟨rfl,rfl,w,by rw[List.range_succ,List.filter_append,List.filter_cons,hn];simpa using hw,M2,rfl,rfl,trivial⟩
    |true=>
     refine ai ?_;refine W.pu (ah j) hw.al I I I I I I I I I (by rw[List.length_map];have:=List.length_filter_le (mu L B N k x.cs) (List.range j);rw[List.length_range] at this;omega) λbA cq vY mr _ fl b5=>?_;refine ai ?_;refine⟨rfl,rfl,bA,⟨?_,λi hi=>?_,λe=>?_⟩,⟨?_,λi o ho=>b5 i o (λe=>?_) (M2.2 i o ho)⟩,rfl,rfl,trivial⟩
     ·rw[List.range_succ,List.filter_append,List.filter_cons,hn];unfold eF;rw[List.map_append];exact vY
     ·rw[mr] at hi;cases hi;have:=M2.1;omega
     ·rw[List.range_succ,List.filter_append,List.filter_cons,hn] at e;simp at e
     ·have:=M2.1;omega
     ·have:=hw.cF i e;have:=ad.bt ho;omega
   ·obtain⟨w,hw,M2,sz,_⟩:=aV;refine aj.norm [(11,w)] ⟨sz,trivial⟩ λg=>?_;refine ai ?_;rw[hh] at c0;exact aj.ret ⟨rfl,w,rfl,⟨by rw[c0];exact hw.al,(λi hi=>by have:=hw.cF i hi;omega),λe=>hw.hq (c0.symm.trans e)⟩,by have:=M2.1;omega,λi o h=>M2.2 i o (fM i o h)⟩
end
end Go.Lyc
end
noncomputable section
namespace Go.Lyc
set_option maxHeartbeats 0
variable [Tok][TokOk]
open Go.RowKit Go.Lyc.T
theorem W.lh{env:Env}{aJ:Option Nat}{D:List (Nat ⊕ (AV×List AV))}{n:Nat}{F:List (Nat×AV)}{z:Nat->AV}{J:ad}{Q:dS}{d:Nat}{op:AOp}{g:Option (Nat×Bool)}{ops:List aY}{cd:AV}{args:List AV}{R:dR->ad->Prop}(hd:Nat.blt d n=true)(hw:wtL g n F=true)(ho:opx 0 (c8 env n F z) J op=some (.call cd args))
  (aa:bu env 0 cd args J R) (h:∀r τ,R r τ->∃v,r= .ok v/\b9 .pl env aJ D n ops (bs ((d,v)::F) z) τ Q):b9 .pl env aJ D n (⟨some d,op,g,[]⟩::ops) (bs F z) J Q:=aE.hK hd (oJ hw) (by rw[mZ];exact ho) aa h
structure pU(W W':Nat->Prop)(τ aH:ad):Prop where
 next:τ.next<=aH.next
 aO:∀c o,¬W c->τ.get c=some o->aH.get c=some o
 own:∀c,W' c->W c\/τ.next<=c/\c<aH.next
abbrev KZ:=Nat->(Nat->Prop)->ad->Prop
def b1r(zl:Nat)(lj:KZ):Prop:=∀i W τ aH,lj i W τ->(∀c o,c<zl\/W c->τ.get c=some o->aH.get c=some o)->τ.next<=aH.next->lj i W aH
def Yields(env:Env)(g:Nat)(cap:List AV)(N:Nat)(A:Nat->(Nat->Prop)->ad->List AV->Prop)(J:ad)(iY:Nat->Prop):Prop:=
 ∀(gd:AV) (lj:KZ) (τ:ad),b1r τ.next lj->(∀i W ek args,i<N->τ.next<=ek.next->A i W ek args->lj i W ek->bu env 0 gd args ek (λr bh=>r= .ok (.b true)/\∃W',lj (i+1) W' bh/\pU W W' ek bh))→
  J.next<=τ.next->(∀c o,J.get c=some o->τ.get c=some o)->(∀c,iY c->c<J.next)->lj 0 iY τ->bu env 0 (.f (.func g) [] cap) [gd] τ (λr aH=>r= .ok (.a6 [])/\∃W',lj N W' aH)
theorem dk.iter{env:Env}{D:List (Nat ⊕ (AV×List AV))}{n:Nat}{f:Nat->AV}{J:ad}{Q:dS}{mY:aF}{aC:List Nat}{e2 iu:bF}{g:Nat}{cap:List AV}{k:Nat}(N:Nat)(ed:KZ)(A:Nat->(Nat->Prop)->ad->List AV->Prop)(iY:Nat->Prop)(az:J.next=k)
  (lD:da env n f mY=some (.f (.func g) [] cap)) (he:env.ext g=0) (ar:cr (λp=>Nat.blt p n) aC=true) (hlen:∀i W τ args,A i W τ args->args.length=aC.length)
  (cA:∀i W τ aH,ed i W τ->(∀c o,W c->τ.get c=some o->aH.get c=some o)->τ.next<=aH.next->ed i W aH) (h0:ed 0 iY J) (vZ:∀c,iY c->c<k) (cZ:Yields env g cap N A J iY)
  (AS:∀i W τ args,i<N->A i W τ args->ed i W τ->(∀c,τ.get (k+1)≠some (.cells c))->(∀c,W c->c<k\/k+2<=c)->k+2<=τ.next->(∀c o,¬iY c->J.get c=some o->τ.get c=some o)->bO env (some (k+1)) [] n e2 (DU aC args f) τ (λx f1 ek=>x= .normal/\(τ.next<=ek.next/\∀c o,τ.get c=some o->ek.get c=some o)∧
   ∀bh,bh.next=ek.next->(∀c o,c≠k+1->ek.get c=some o->bh.get c=some o)->ed i W bh->bO env (some (k+1)) [] n iu f1 bh (λx _ bU=>x= .normal/\∃W',ed (i+1) W' bU/\pU W W' bh bU)))
  (AT:∀W τ,ed N W τ->τ.get k=some .dN->k+2<=τ.next->(∀c o,¬iY c->J.get c=some o->τ.get c=some o)->(∀c,W c->iY c\/k+2<=c)->Q .normal f τ):dk env D (.inl k::D) n (.rangeFunc mY aC e2 iu) f J Q:=by
 subst az;refine dk.range lD he λal gL=>?_;generalize az:J.next=k at *;have pB:((J.push .dN).push (.loop .ready none al aC e2 iu k)).get (k+1)=some (.loop .ready none al aC e2 iu k):=by
  have:=ad.iB (J:=J.push .dN) (.loop .ready none al aC e2 iu k);rwa[show(J.push .dN).next=k+1 from by show J.next+1=_;rw[az]] at this
 have mf:∀i o,J.get i=some o->((J.push .dN).push (.loop .ready none al aC e2 iu k)).get i=some o:=λi o ho=>by
  have:=ad.bt ho;rw[ad.fD trivial _ (show i<(J.push .dN).next from by show i<J.next+1;omega),ad.fD trivial _ this];exact ho
 have q7:((J.push .dN).push (.loop .ready none al aC e2 iu k)).get k=some .dN:=by
  rw[ad.fD trivial _ (show k<(J.push .dN).next from by show k<J.next+1;omega)];have:=ad.iB (J:=J) .dN;rwa[az] at this
 have iF:((J.push .dN).push (.loop .ready none al aC e2 iu k)).next=k+2:=by show J.next+1+1=_;rw[az]
 generalize(J.push .dN).push (.loop .ready none al aC e2 iu k)=cx at *;refine(cZ (.f (.yield (k+1)) [] []) (λi W τ=>ed i W τ/\τ.get (k+1)=some (.loop .ready none al aC e2 iu k)/\k+2<=τ.next/\τ.get k=some .dN/\(∀c,W c->iY c\/k+2<=c)/\∀c o,¬iY c->J.get c=some o->τ.get c=some o) cx ?_ ?_ (by omega) mf (λc aa=>by rw[az];exact vZ c aa) ?_).mono ?_
 ·rintro i W τ aH ⟨a3,bm,cv,dU,en,kO⟩ c7 hn;exact⟨cA i W τ aH a3 (λc o aa=>c7 c o (.inr aa)) hn,c7 _ _ (.inl (by omega)) bm,by omega,c7 _ _ (.inl (by omega)) dU,en,λc o aa ho=>c7 c o (.inl (by have:=ad.bt ho;omega)) (kO c o aa ho)⟩
 ·rintro i W τ args hi hn hA ⟨a3,bm,cv,dU,en,kO⟩;have lI:∀c,W c->c<k\/k+2<=c:=λc aa=>by
   rcases en c aa with h|h
   ·exact .inl (vZ c h)
   ·exact .inr h
  refine(bu.round (R:=λbh=>∃W',(ed (i+1) W' bh/\bh.get (k+1)=some (.loop .ready none al aC e2 iu k)/\k+2<=bh.next/\bh.get k=some .dN/\(∀c,W' c->iY c\/k+2<=c)/\∀c o,¬iY c->J.get c=some o->bh.get c=some o)/\pU W W' τ bh) (f:=f) (n:=n) bm gL ar (by rw[hlen i W τ args hA];exact Nat.beq_refl _) ?_).mono λr af h=>h;refine(AS i W τ args hi hA a3 (λc e=>by rw[bm] at e;cases e) lI cv kO).mono λx f1 ek ⟨aN,a4,h1⟩=>?_;have UF:=a4.2 _ _ bm;have b1s:=cA i W τ ek a3 (λc o _=>a4.2 c o) a4.1;have fS:=iw (bH:=.loop .busy none al aC e2 iu k) UF;have K0:¬W (k+1):=λh=>by rcases lI _ h with h|h<;>omega
  have b1t:¬W k:=λh=>by rcases lI _ h with h|h<;>omega
  have cS:=a4.1;refine⟨aN,UF,(h1 (ek.set (k+1) (.loop .busy none al aC e2 iu k)) I (λc o aa ho=>fS.2 c o aa ho) (cA i W _ _ b1s (λc o aa ho=>fS.2 c o (λe=>K0 (e▸aa)) ho) (Nat.le_refl _))).mono λx _ bU ⟨cQ,W',aV,cP⟩=>?_⟩;have sw:=cP.aO _ _ K0 fS.1;have nO:=iw (bH:=.loop .ready none al aC e2 iu k) sw;have eT:ek.next<=bU.next:=cP.next;have own:∀c,W' c->W c\/ek.next<=c:=λc aa=>(cP.own c aa).imp id And.left;have K1:¬W' (k+1):=λh=>by rcases own _ h with h|h;exact K0 h;omega
  have cL:∀c o,¬W c->c≠k+1->τ.get c=some o->(bU.set (k+1) (.loop .ready none al aC e2 iu k)).get c=some o:=λc o aa a5 ho=>nO.2 c o a5 (cP.aO c o aa (fS.2 c o a5 (a4.2 _ _ ho)));refine⟨cQ,sw,W',⟨cA _ _ _ _ aV (λc o aa ho=>nO.2 c o (λe=>K1 (e▸aa)) ho) (Nat.le_refl _),nO.1,by show k+2<=bU.next;omega,cL k _ b1t (by omega) dU,λc aa=>?_,λc o aa ho=>?_⟩,by show τ.next<=bU.next;omega,λc o aa ho=>?_,λc aa=>(cP.own c aa).imp id λh=>⟨by have h1:ek.next<=c:=h.1;omega,h.2⟩⟩
  ·rcases own c aa with h|h
   ·exact en c h
   ·exact .inr (by omega)
  ·have hlt:=ad.bt ho;by_cases UG:W c
   ·rcases en c UG with h|h
    ·exact absurd h aa
    ·omega
   ·exact cL c o UG (by omega) (kO c o aa ho)
  ·by_cases hl:c=k+1
   ·subst hl;rw[bm] at ho;cases ho;exact nO.1
   ·exact cL c o aa hl ho
 ·exact⟨cA 0 iY J cx h0 (λc o _ ho=>mf c o ho) (by omega),pB,by omega,q7,λc aa=>.inl aa,λc o _ ho=>mf c o ho⟩
 ·rintro r τ ⟨aN,W',a3,bm,cv,dU,en,kO⟩;have fS:=iw (bH:=.loop .exhausted none al aC e2 iu k) bm;have K1:¬W' (k+1):=λh=>by
   rcases en _ h with h|h
   ·have:=vZ _ h;omega
   ·omega
  exact⟨_,.ready,aN,bm,by simp,AT W' _ (cA _ _ _ _ a3 (λc o aa ho=>fS.2 c o (λe=>K1 (e▸aa)) ho) (Nat.le_refl _)) (fS.2 _ _ (by omega) dU) cv (λc o aa ho=>fS.2 c o (by have:=ad.bt ho;omega) (kO c o aa ho)) en⟩
end Go.Lyc
end
noncomputable section
namespace Go.Lyc
set_option maxHeartbeats 0
variable [Tok][TokOk]
open Go.RowKit Go.Lyc.T
attribute [local irreducible] b9 bO dj dY bu
section
variable {b:b8}{K:Nat->List AV->AV->Prop}
structure UH(J τ:ad)(U:Option Nat)(v:AV)(xs:List AV):Prop where
 al:Sl τ U v xs
 cF:∀i,v.at? =some i->J.next<=i
 hq:xs=[]->v= .ae
structure b1u(J τ:ad)(u v:AV)(l:List Nat):Prop where
 al:eF τ v l
 cF:∀i,v.at? =some i->J.next<=i
 hq:v.at? =none↔u.at? =none
theorem b1v(hf:lg b K){J:ad}{v:AV}{l:List Nat}(h:eF J v l)(hl:l.length<2^20):bu (b.aM K) 0 (.f (.func EZ) [] []) [v] J (λr τ=>∃bA,r= .ok bA/\b1u J τ v bA l/\dC J τ):=by
 refine W.code hf.clone.e hf.clone.p hf.clone.f I I I I λz=>?_;have H:Has J []:=Has.nil;have h':=h;unfold eF at h';generalize hm:l.map ah=xs at h';cases h' with
 |nil=>
  refine ai ?_;exact aj.ret ⟨rfl,_,rfl,⟨by unfold eF;rw[hm];exact .nil,(λi hi=>by cases hi),Iff.rfl⟩,Nat.le_refl _,λ_ _ h=>h⟩
 |al o cap xs rest hg aa az=>
  have hlen:xs.length=l.length:=by rw[<-hm,List.length_map]
  have ak:readList J (.al o 0 xs.length none cap)=some xs:=h.read.trans (by rw[hm]);refine ai ?_;refine W.bI (c:=[]) H I I I I λτ hn H bB=>?_;have ox:readList τ (.al o 0 xs.length none cap)=some xs:=a7D (λi c h=>bB i _ h) ak;have h0:Sl τ none (.al J.next 0 0 none (some 0)) []:=.al J.next (some 0) [] [] (H.get _ (.head _)) (by simp) (.inr I);refine ai ?_;cases xs with
  |nil=>
   refine W.val (v:=.al J.next 0 0 none (some 0)) (af:=τ) I I ?_ ?_
   ·show(match appendO 0 τ none 8 (.al J.next 0 0 none (some 0)) (.al o 0 0 none cap) with|some (v,J)=>some (bL.val v J)|none=>none)=_;have w5:newOf τ (.al o 0 0 none cap)=some []:=ox;unfold appendO;rw[h0.read,w5];rfl
   ·refine ai ?_;exact aj.ret ⟨rfl,_,rfl,⟨by unfold eF;rw[hm];exact h0,(λi hi=>by cases hi;exact Nat.le_refl _),⟨(λe=>by cases e),λe=>by cases e⟩⟩,by omega,bB⟩
  |cons y a8=>
   have w5:newOf τ (.al o 0 (a8.length+1) none cap)=some (y::a8):=ox;refine W.ap y a8 h0 w5 aa (by simp only[List.length_nil];omega) I I I I λbA bh au ha _ ea bp=>?_;refine ai ?_;refine aj.ret ⟨rfl,_,rfl,⟨by unfold eF;rw[hm];exact au,λi hi=>?_,⟨λe=>?_,λe=>by cases e⟩⟩,by omega,λi o ho=>bp i o (λe=>?_) (bB i o ho)⟩
   ·have hi:bA.at? =some i:=hi;rw[ha] at hi;cases hi;omega
   ·have e:bA.at? =none:=e;rw[e] at ha;cases ha
   ·cases e;have:=ad.bt ho;omega
def fw(L:List bX)(n:Nat):Fm:=(L.map bX.f).getD (n-1) (.mk 0 [] none none)
theorem Fx{L:List bX}{n:Nat}(h1:1<=n)(h2:n<=L.length):fw L n=(L[n-1]'(by omega)).f:=by
 unfold fw;rw[List.getD_eq_getElem?_getD,List.getElem?_map,List.getElem?_eq_getElem (by omega)];rfl
theorem K2(hf:lg b K){p:Nat}{L:List bX}{B N:List (List Nat)}{J:ad}(eG:ld J p L B N)(hL:L.length<2^20){v:AV}{l:List Nat}(au:eF J v l)(hl:l.length<2^20)(hn:∀n∈l,1<=n/\n<=L.length):
  bu (b.aM K) 0 (.f (.func EW) [] []) [aK p,v] J (λr τ=>∃w,r= .ok w/\UH J τ (some 4) w (l.map λn=>.ag (bD (fw L n)))/\dC J τ):=by
 refine W.code hf.Fl.e hf.Fl.p hf.Fl.f I I I I λz=>?_;obtain⟨cH,ey,bI,ee,ar,_⟩:=eG.ex;have H:Has J [(p,[cD L,cH,ey])]:=Has.nil.cons ar (by simp);have pT:=au.jN;refine ai ?_;refine aj.each l.length (λj f τ=>∃w,UH J τ (some 4) w ((l.take j).map λn=>.ag (bD (fw L n)))/\dC J τ/\sat [(0,aK p),(5,w),(8,v)] f) (by omega) ⟨.ae,⟨.nil,(λ_ h=>by cases h),λ_=>rfl⟩,⟨Nat.le_refl _,λ_ _ h=>h⟩,rfl,rfl,rfl,trivial⟩ I I (λj g τ aA aV hi hm=>?_) (λg τ aV hi=>?_)
 ·obtain⟨w,hw,M,c6,c_,fI,_⟩:=aV;refine aj.norm [(0,aK p),(5,w),(8,v),(10,ah j),(9,ah l.length)] ⟨c6,c_,fI,hi,hm,trivial⟩ λg=>?_;have H:=H.aO M.2;have pT:=(au.aO (τ:=τ) λi o _=>M.2 i o).jN;obtain⟨hp,gX⟩:=hn _ (List.getElem_mem aA);have b_:=Fx hp gX;refine ai ?_;refine W.pu (c:=bD (L[l[j]-1]).f) (.ag (bD (L[l[j]-1]).f)) hw.al I I I I I I I I I (by rw[List.length_map,List.length_take];omega) λbA bh qU b1w _ ea bp=>?_;refine ai ?_;refine⟨rfl,rfl,bA,⟨?_,λi hi=>?_,λe=>?_⟩,⟨?_,λi o ho=>bp i o (λe=>?_) (M.2 i o ho)⟩,rfl,rfl,rfl,trivial⟩
  ·rw[List.take_succ_eq_append_getElem aA,List.map_append,List.map_cons,List.map_nil,b_];exact qU
  ·rw[b1w] at hi;cases hi;have:=M.1;omega
  ·have:=congrArg List.length e;rw[List.length_map,List.length_take,List.length_nil] at this;omega
  ·have:=M.1;omega
  ·have:=hw.cF i e;have:=ad.bt ho;omega
 ·obtain⟨w,hw,M,c6,c_,_⟩:=aV;refine aj.norm [(5,w)] ⟨c_,trivial⟩ λg=>?_;refine ai ?_;exact aj.ret ⟨rfl,w,rfl,⟨by rw[List.take_length] at hw;exact hw.al,hw.cF,λe=>hw.hq (by rw[List.take_length];exact e)⟩,M⟩
def A1(s:List Nat)(i:Nat)(x:bX):List Nat:=s.take (x.bY-x.op)++List.replicate x.op (i+1)
def stF(L:List bX):Nat->List Nat
 |0=>[]
 |i+1=>match L[i]? with
  |some x=>A1 (stF L i) i x
  |none=>[]
theorem A2{L:List bX}{i:Nat}(h:i<L.length):stF L (i+1)=A1 (stF L i) i L[i]:=by
 rw[stF,List.getElem?_eq_getElem h]
def e8(L:List bX):List (List Nat):=(List.range L.length).map λi=>stF L (i+1)
def pV(L:List bX):Nat->Bool
 |0=>false
 |i+1=>pV L i|| !(stF L (i+1)).isEmpty
theorem b1x{L:List bX}:∀ {i:Nat},pV L i=false->stF L i=[]
 |0,_=>rfl
 |i+1,h=>by
  rw[pV,Bool.or_eq_false_iff] at h;cases ao:stF L (i+1) with
  |nil=>rfl
  |cons x l=>rw[ao] at h;simp at h
structure yj(L:List bX):Prop where
 lt:L.length<2^10
 num:∀x∈L,x.bY<2^10/\x.op<=x.bY
 go:∀i (h:i<L.length),(L[i]).bY-(L[i]).op<=(stF L i).length
theorem yj.len{L:List bX}(h:yj L):∀i,i<L.length->(stF L (i+1)).length=(L[i]?.elim 0 bX.bY):=λi hi=>by
 rw[A2 hi,List.getElem?_eq_getElem hi];unfold A1;have:=h.go i hi;have:=(h.num _ (List.getElem_mem hi)).2;rw[List.length_append,List.length_take,List.length_replicate];show _=(L[i]).bY;omega
theorem W.cp{cg:kJ}{env:Env}{aJ:Option Nat}{D:List (Nat ⊕ (AV×List AV))}{n:Nat}{F:List (Nat×AV)}{z:Nat->AV}{J:ad}{Q:dS}{d:Nat}{x hi:aF}{g:Option (Nat×Bool)}{ops:List aY}{v:AV}{l:List Nat}{k:Nat}(h:eF J v l)(hn:∀o l c,v= .al o 0 l none c->c=none)(az:k<=l.length)(hd:Nat.blt d n=true)(hw:wtL g n F=true)(h1:c8 env n F z x=some v)(h2:c8 env n F z hi=some (ah k))
  (aa:∀w,eF J w (l.take k)->w.at? =v.at? →(∀o l c,w= .al o 0 l none c->c=none)->b9 cg env aJ D n ops (bs ((d,w)::F) z) J Q):b9 cg env aJ D n (⟨some d,.ks none x none (some hi) none,g,[]⟩::ops) (bs F z) J Q:=by
 obtain⟨w,aN,a4,cQ,h6⟩:=Sl.cut (aq:=c8 env n F z) (hi:=hi) (k:=k) h hn (by rw[List.length_map];exact az) h2;refine W.val (v:=w) (af:=J) hd hw ?_ (aa w (by rw[<-List.map_take] at a4;exact a4) cQ h6);show(match c8 env n F z x with|some x=>(match sliceA (c8 env n F z) none x none (some hi) none with|some v=>some (bL.val v J)|none=>none)|none=>none)=_;rw[h1];show(match sliceA (c8 env n F z) none v none (some hi) none with|some v=>some (bL.val v J)|none=>none)=_;rw[aN]
theorem b1y(hh:bk (b.aM K) x7 EP){L:List bX}(cP:yj L){J:ad}{cy:Nat}(gG:J.get cy=some (.cells [cD L]))(iY:Nat->Prop)(vZ:¬iY cy):
  Yields (b.aM K) x7 [aK cy] L.length (λi V τ args=>∃v,args=[ah (i+1),v]/\eF τ v (stF L (i+1))/\(v.at? =none↔pV L (i+1)=false)/\∀o,v.at? =some o->¬V o) J iY:=by
 intro gd lj oW cA hy UI A3 hlt hs;refine W.nL hh.e hh.p hh.f I I I λz=>?_;have H:Has oW [(cy,[cD L])]:=Has.nil.cons (A3 _ _ gG) (by simp);have hl:=cP.lt;refine ai ?_;refine aj.each L.length (λj f τ=>∃v V,eF τ v (stF L j)/\(v.at? =none↔pV L j=false)/\(∀o l c,v= .al o 0 l none c->c=none)/\(∀o,v.at? =some o->oW.next<=o/\¬V o)/\lj j V τ/\oW.next<=τ.next/\(∀c,V c->c<τ.next)/\sat [(0,gd),(3,v),(6,cD L)] f) (by omega) ⟨.ae,iY,.nil,⟨λ_=>rfl,λ_=>rfl⟩,(λ_ _ _ h=>by cases h),(λ_ h=>by cases h),hs,Nat.le_refl _,λc aa=>Nat.lt_of_lt_of_le (hlt c aa) UI,rfl,rfl,rfl,trivial⟩ I I (λj g τ aA aV hi hm=>?_) (λg τ aV hi=>?_)
 ·obtain⟨v,V,au,qw,po,oX,hs,hp,oQ,c6,cc,gZ,_⟩:=aV;refine aj.norm [(0,gd),(3,v),(6,cD L),(8,ah j),(7,ah L.length)] ⟨c6,cc,gZ,hi,hm,trivial⟩ λg=>?_;have H:Has τ []:=Has.nil;have il:=cP.go j aA;have KW:=cP.num _ (List.getElem_mem aA);have fc:=A2 aA;refine ai ?_;generalize mq:L[j]=x at il KW fc;refine W.cC H I I I I λek c1 H bB=>?_;have r4:=au.aO (τ:=ek) λi o _=>bB i o;have K3:=cA _ _ _ ek hs (λc o _=>bB c o) (by omega);refine ai ?_;refine W.st H 0 I I I I I I λbh ea H bp=>?_;have a5:∀o,v.at? =some o->o<τ.next:=λo ho=>au.lt ho;have qU:=r4.aO (τ:=bh) λi o hi=>bp i o (by have:=a5 i hi;omega);have K4:=cA _ _ _ bh K3 (λc o aa=>bp c o (by rcases aa with h|h;omega;have:=oQ c h;omega)) (by omega);refine ai ?_;refine W.cp qU po (k:=x.bY-x.op) il I I I I λw hw UJ b1z=>?_;refine ai ?_;refine aj.each x.op (λr f τ=>∃v,eF τ v ((stF L j).take (x.bY-x.op)++List.replicate r (j+1))/\(v.at? =none↔pV L j=false/\r=0)/\(∀o l c,v= .al o 0 l none c->c=none)/\(∀o,v.at? =some o->oW.next<=o/\¬V o)/\lj j V τ/\oW.next<=τ.next/\(∀c,V c->c<τ.next)/\sat [(0,gd),(3,v),(4,ah j),(6,cD L),(7,ah L.length),(8,ah j)] f) (by omega) ⟨w,by simpa using hw,by rw[UJ,qw];simp,b1z,λo ho=>oX o (UJ▸ho),K4,by omega,λc aa=>by have:=oQ c aa;omega,rfl,rfl,rfl,rfl,rfl,rfl,trivial⟩ I I (λr g τ ak aV hi hm=>?_) (λg τ aV hi=>?_)
  ·obtain⟨v,au,qw,po,oX,hs,hp,oQ,c6,cc,cI,gZ,g5,fI,_⟩:=aV;refine aj.norm [(0,gd),(3,v),(4,ah j),(6,cD L),(7,ah L.length),(8,ah j),(22,ah r),(21,ah x.op)] ⟨c6,cc,cI,gZ,g5,fI,hi,hm,trivial⟩ λg=>?_;refine ai ?_;refine W.pu (ah (j+1)) au I I I I I I I I I (by rw[List.length_map,List.length_append,List.length_take,List.length_replicate];omega) λbA cq vY mr K5 fl b5=>?_;refine ai ?_;refine⟨rfl,rfl,bA,?_,⟨λe=>(by rw[mr] at e;cases e),λe=>by simp at e⟩,K5,λo ho=>?_,cA _ _ _ cq hs (λc o aa=>b5 c o λe=>?_) (by omega),by omega,λc aa=>by have:=oQ c aa;omega,rfl,rfl,rfl,rfl,rfl,rfl,trivial⟩
   ·rw[List.replicate_succ',← List.append_assoc];unfold eF;rw[List.map_append];exact vY
   ·rw[mr] at ho;cases ho;exact⟨by omega,λh=>by have:=oQ _ h;omega⟩
   ·have:=oX c e;rcases aa with h|h
    ·omega
    ·exact this.2 h
  ·obtain⟨v,au,qw,po,oX,hs,hp,oQ,c6,cc,cI,gZ,g5,fI,_⟩:=aV;refine aj.norm [(0,gd),(3,v),(4,ah j),(6,cD L),(7,ah L.length),(8,ah j)] ⟨c6,cc,cI,gZ,g5,fI,trivial⟩ λg=>?_;have l1:eF τ v (stF L (j+1)):=by rw[fc];exact au
   have UK:v.at? =none↔pV L (j+1)=false:=by
    rw[qw,pV,Bool.or_eq_false_iff,fc];refine and_congr_right λh=>?_;rw[A1,b1x h];cases x.op with
    |zero=>simp
    |succ m=>simp[List.replicate_succ]
   refine ai ?_;refine W.lh I I I (hy j V τ _ aA hp ⟨v,rfl,l1,UK,λo ho=>(oX o ho).2⟩ hs) λr dD ⟨e,b1A,b1B,Fy⟩=>⟨_,e,?_⟩
   refine ai ?_;have ir:=Fy.next;refine⟨rfl,rfl,v,b1A,l1.aO λi o hi=>Fy.aO i o (oX i hi).2,UK,po,λo ho=>⟨(oX o ho).1,λh=>?_⟩,b1B,by omega,λc aa=>?_,rfl,rfl,rfl,trivial⟩
   ·rcases Fy.own o h with h|h
    ·exact(oX o ho).2 h
    ·have:=au.lt ho;omega
   ·rcases Fy.own c aa with h|h
    ·have:=oQ c h;omega
    ·exact h.2
 ·exact⟨.inr I,rfl,by obtain⟨v,V,_,_,_,_,h,_⟩:=aV;exact⟨V,h⟩⟩
end
section
variable {b:b8}{K:Nat->List AV->AV->Prop}(hfn:∀g aW r cw,K g aW r->K g aW cw->r=cw)
def yk(L:List bX)(k:Nat):Bool×Nat:=if 1<k then(match L[k-2]? with|some x=>(x.hyp,x.bY)|none=>(true,0)) else(true,0)
def tV(k:Nat)(c:Nat×Nat):Bool:=decide (1<=c.1/\c.1<=c.2/\c.2<k)
def Fz(x:bX)(p:Bool×Nat)(k:Nat):Bool:=
 decide (x.bY<=40/\x.op<=x.bY)&&(decide (x.bY-x.op<=p.2)&&cond x.hyp (x.gQ.isEmpty&&(x.cs.isEmpty&&(decide (0<x.op)||(p.1&&decide (p.2=x.bY))))) (x.cs.all (tV k)&& !x.gQ.isEmpty))
def tW(L:List bX)(k:Nat):Bool:=match L[k-1]? with|some x=>Fz x (yk L k) k|none=>false
theorem b1C(L:List bX)(hL:L.length<2^10)(hn:∀x∈L,x.bY<2^10/\x.op<2^10/\x.cs.length<2^20)(k:Nat)(h1:1<=k)(h2:k<=L.length)(body:bF)(hb:Kj.body=some body):aj (b.aM K) Kj.ntmps body (fR [cD L,ah k]) ⟨.nil,0⟩ (m4 4 (.b (tW L k))):=by
 cases hb;refine W.args λz=>?_;have H:Has (⟨.nil,0⟩:ad) []:=Has.nil;have hx:L[k-1]? =some L[k-1]:=List.getElem?_eq_getElem (by omega);have nG:=hn _ (List.getElem_mem (show k-1<L.length by omega));unfold tW;rw[hx];simp only[];refine ai ?_;generalize mq:L[k-1]=x at nG;refine W.ko H I I I I I I I λτ c1 H bB=>?_;have ar:∃p,yk L k=p/\p.2<2^10/\(k=1->p=(true,0))/\(1<k->∃y,L[k-2]? =some y/\p=(y.hyp,y.bY)):=by
  refine⟨_,rfl,?_⟩;unfold yk;by_cases h:1<k
  ·rw[if_pos h,List.getElem?_eq_getElem (by omega)];exact⟨(hn _ (List.getElem_mem _)).1,λe=>by omega,λ_=>⟨_,rfl,rfl⟩⟩
  ·rw[if_neg h];exact⟨by show 0<_;omega,λ_=>rfl,λh'=>absurd h' h⟩
 obtain⟨p,aN,mf,pB,b1D⟩:=ar;rw[aN];unfold Fz;by_cases j1:x.bY<=40
 ·by_cases rP:x.op<=x.bY
  ·rw[decide_eq_true (show x.bY<=40/\x.op<=x.bY from⟨j1,rP⟩),Bool.true_and];refine ai ?_;refine W.ko (c:=[ah 0,ah 0,.b true,.i .u8 0,.s [],.ae,.ae,.s [],.ae]) H I I I I I I I λbh ea H bp=>?_;refine W.nil ?_;refine W.sq ?_;refine W.Fs (α:=AV×List AV) (λ_=>[(0,cD L),(1,ah k),(5,.p (some (0,0))),(6,.p (some (τ.next,0)))]) (λc aH=>Has aH [(τ.next,ah p.2::c.1:: .b p.1::c.2),(0,x.A.cells)]) ?_ ?_
   ·by_cases fM:1<k
    ·obtain⟨y,hy,a4⟩:=b1D fM;have b1E:L[k-2]=y:=(List.getElem?_eq_some_iff.1 hy).2;refine ai ?_;refine W.bin I I I I (pK (b:=2) (by omega) (by omega)) ?_;refine ai ?_;rw[b1E];refine W.st H 0 I I I I I I λbU eT H bc=>?_;refine ai ?_;rw[a4];exact⟨rfl,(_,_),H,rfl,rfl,rfl,rfl,trivial⟩
    ·refine ai ?_;rw[pB (by omega)];exact⟨rfl,(_,_),H,rfl,rfl,rfl,rfl,trivial⟩
   ·intro c g bU H;refine ai ?_;obtain⟨yf,ov,Fo,Uz,yg,oS⟩:=x;obtain⟨UL,UM⟩:=p;simp only[] at j1 rP nG mf ⊢;have sb:∀l:List Nat,binop .eql (.s l) (.s [])=some (.b l.isEmpty):=λl=>by cases l<;>rfl
    have jO:∀l:List Nat,binop .neq (.s l) (.s [])=some (.b (!l.isEmpty)):=λl=>by cases l<;>rfl
    by_cases FA:yf-ov<=UM
    ·rw[decide_eq_true FA,Bool.true_and];refine ai ?_;cases Fo with
     |true=>
      rw[cond_true];refine W.k8 I ?_;refine aj.cut [(5,.p (some (0,0))),(7,.b (UL&&decide (UM=yf)))] ?_ λg=>?_
      ·cases UL with
       |true=>
        refine ai ?_;refine W.R8 I I I I I ?_;refine ai ?_;exact⟨rfl,rfl,rfl,by rw[Bool.true_and];rfl,trivial⟩
       |false=>
        refine ai ?_;exact⟨rfl,rfl,rfl,rfl,trivial⟩
      ·refine ai ?_;refine W.bin I I I I (sb yg) ?_;cases yg with
       |cons c t=>
        refine ai ?_;refine aj.ret ?_;exact⟨rfl,rfl⟩
       |nil=>
        refine ai ?_;cases oS with
        |cons c t=>
         refine ai ?_;refine aj.ret ?_;exact⟨rfl,rfl⟩
        |nil=>
         by_cases h0:0<ov
         ·rw[decide_eq_true h0];refine ai ?_;refine aj.ret ?_;exact⟨rfl,rfl⟩
         ·rw[decide_eq_false h0];refine ai ?_;refine aj.ret ?_;exact⟨rfl,rfl⟩
     |false=>
      rw[cond_false];refine W.m0 I ?_;refine ai ?_;refine aj.each oS.length (λj f aH=>aH.next=aH.next/\(oS.take j).all (tV k)=true/\Has aH [(0,bX.A ⟨yf,ov,false,Uz,yg,oS⟩ |>.cells)]/\sat [(1,ah k),(5,.p (some (0,0))),(80,lK true oS)] f) (by omega) ⟨rfl,rfl,⟨λp ar=>H.get p (.tail _ ar),H.xM.tail⟩,rfl,rfl,rfl,trivial⟩ I I (λj g aH aA aV hi hm=>?_) (λg aH aV hi=>?_)
      ·obtain⟨_,hall,H,bN,c_,UN,_⟩:=aV;refine aj.norm [(1,ah k),(5,.p (some (0,0))),(80,lK true oS),(82,ah j),(81,ah oS.length)] ⟨bN,c_,UN,hi,hm,trivial⟩ λg=>?_;refine ai ?_;generalize Fu:oS[j]=ac;obtain⟨a,c⟩:=ac;refine W.ko H I I I I I I I λcq fl H b5=>?_;have out:tV k (a,c)=false->(oS.all (tV k)&& !yg.isEmpty)=false:=λh=>by
        have:oS.all (tV k)=false:=List.all_eq_false.2 ⟨oS[j],List.getElem_mem aA,by rw[Fu,h];simp⟩;rw[this];rfl
       by_cases ha:1<=a
       ·by_cases fP:a<=c
        ·by_cases kB:c<k
         ·refine ai ?_;refine⟨rfl,rfl,rfl,?_,⟨λp ar=>H.get p (.tail _ ar),H.xM.tail⟩,rfl,rfl,rfl,trivial⟩;rw[List.take_succ_eq_append_getElem aA,List.all_append,hall,Fu];simp[tV,ha,fP,kB]
         ·refine ai ?_;rw[out (decide_eq_false λh=>kB h.2.2)];exact aj.ret ⟨rfl,rfl⟩
        ·refine ai ?_;rw[out (decide_eq_false λh=>fP h.2.1)];exact aj.ret ⟨rfl,rfl⟩
       ·refine ai ?_;rw[out (decide_eq_false λh=>ha h.1)];exact aj.ret ⟨rfl,rfl⟩
      ·obtain⟨_,hall,H,bN,c_,UN,_⟩:=aV;refine aj.norm [(5,.p (some (0,0)))] ⟨c_,trivial⟩ λg=>?_;rw[List.take_length] at hall;rw[hall,Bool.true_and];refine ai ?_;refine W.bin I I I I (jO yg) ?_;refine ai ?_;exact aj.ret ⟨rfl,rfl⟩
    ·rw[decide_eq_false FA,Bool.false_and];refine ai ?_;exact aj.ret ⟨rfl,rfl⟩
  ·rw[decide_eq_false (show ¬(x.bY<=40/\x.op<=x.bY) from λh=>rP h.2),Bool.false_and];refine ai ?_;exact aj.ret ⟨rfl,rfl⟩
 ·rw[decide_eq_false (show ¬(x.bY<=40/\x.op<=x.bY) from λh=>j1 h.1),Bool.false_and];refine ai ?_;exact aj.ret ⟨rfl,rfl⟩
end
end Go.Lyc
end
noncomputable section
namespace Go.Lyc
set_option maxHeartbeats 0
variable [Tok][TokOk]
open Go.RowKit Go.Lyc.T
def resV(J:ad)(f:Nat->AV)(r:Nat×Option (Option Nat)):Option AV:=
 match r.2 with
 |none=>some (f r.1)
 |some U=>match f r.1 with
  | .p (some (id,off))=>match J.get id with
   |some (.cells c)=>dI U (c.drop off)
   |_=>none
  |_=>none
def ra(J:ad)(f:Nat->AV)(rs:List (Nat×Option (Option Nat))):Option AV:=
 match mapO (resV J f) rs with
 |some [v]=>some v
 |some bf=>some (.a6 bf)
 |none=>none
theorem b1F{D:List (Nat ⊕ (AV×List AV))}{n:Nat}{f:Nat->AV}{ab:Fr}(J:ad)(h:g6 D n f ab){r:Nat×Option (Option Nat)}(ak:Nat.blt r.1 n=true):resultOf J ab.a_ r=resV J f r:=by
 have hg:=h.get r.1;have hn:r.1<n:=Nat.le_of_ble_eq_true ak;rw[if_pos hn] at hg;obtain⟨d,o⟩:=r;unfold resultOf resV;simp only[] at hg ⊢;rw[hg];cases o with
 |none=>rfl
 |some U=>
  cases f d with
  |p a=>cases a with
   |none=>rfl
   |some a=>rfl
  |_=>rfl
theorem UO{D:List (Nat ⊕ (AV×List AV))}{n:Nat}{f:Nat->AV}{ab:Fr}(J:ad)(h:g6 D n f ab){rs:List (Nat×Option (Option Nat))}(ak:cr (λr=>Nat.blt r.1 n) rs=true):resultsOf J ab.a_ rs=ra J f rs:=by
 have:mapO (resultOf J ab.a_) rs=mapO (resV J f) rs:=xw λx hx=>b1F J h (kI ak x hx);show(match mapO (resultOf J ab.a_) rs with|some [v]=>some v|some bf=>some (.a6 bf)|none=>none)=match mapO (resV J f) rs with|some [v]=>some v|some bf=>some (.a6 bf)|none=>none
 rw[this]
theorem UP{env:Env}{fn:aI}{n:Nat}{f:Nat->AV}{ab:Fr}{J:ad}{v:AV}(h1:g6 [] n f ab)(hd:cr (λr=>Nat.blt r.1 n) fn.results=true)(au:ra J f fn.results=some v):endF env 0 fn (.ret,ab,J)=some [(.ok v,J)]:=by
 show(match leave 0 (callD env 0) ab.defers none J with
  |none=>none
  |some (some v,J)=>some [(dR.err v,J)]
  |some (none,J)=>match resultsOf J ab.a_ fn.results with
   |some v=>some [(.ok v,J)]
   |none=>none)=_
 rw[h1.ds];show(match resultsOf J ab.a_ fn.results with|some v=>some [(dR.ok v,J)]|none=>none)=_;rw[UO J h1 hd,au]
theorem UQ{env:Env}{fn:aI}{n d:Nat}{f:Nat->AV}{ab:Fr}{J:ad}{v:AV}(h1:g6 [.inl d] n f ab)(hm:J.get d=some .dN)(hd:cr (λr=>Nat.blt r.1 n) fn.results=true)(au:ra (J.set d .dead) f fn.results=some v):endF env 0 fn (.ret,ab,J)=some [(.ok v,J.set d .dead)]:=by
 show(match leave 0 (callD env 0) ab.defers none J with
  |none=>none
  |some (some v,J)=>some [(dR.err v,J)]
  |some (none,J)=>match resultsOf J ab.a_ fn.results with
   |some v=>some [(.ok v,J)]
   |none=>none)=_
 have hl:leave 0 (callD env 0) ab.defers none J=some (none,J.set d .dead):=by
  rw[h1.ds];show(if Nat.blt d 0 then none else match J.get d with
   |some .dN=>some (none,J.set d .dead)
   |_=>none)=_
  rw[if_neg (by simp[Nat.blt,Nat.ble]),hm]
 rw[hl];show(match resultsOf (J.set d .dead) ab.a_ fn.results with|some v=>some [(dR.ok v,J.set d .dead)]|none=>none)=_;rw[UO _ h1 hd,au]
theorem fX{J:ad}{f:Nat->AV}{d id off:Nat}{U:Option Nat}{c:List AV}{v:AV}(h:f d= .p (some (id,off)))(hg:J.get id=some (.cells c))(ht:dI U (c.drop off)=some v):resV J f (d,some U)=some v:=by
 show(match f d with| .p (some (id,off))=>(match J.get id with|some (.cells c)=>dI U (c.drop off)|_=>none)|_=>none)=_;rw[h];show(match J.get id with|some (.cells c)=>dI U (c.drop off)|_=>none)=_;rw[hg];exact ht
theorem j8{J:ad}{f:Nat->AV}{d:Nat}{v:AV}(h:f d=v):resV J f (d,none)=some v:=by rw[<-h];rfl
theorem sA{J:ad}{f:Nat->AV}{x:Nat×Option (Option Nat)}{v:AV}(h:resV J f x=some v):ra J f [x]=some v:=by
 show(match mapO (resV J f) [x] with|some [v]=>some v|some bf=>some (.a6 bf)|none=>none)=_;rw[mapO_cons,h];rfl
theorem iZ{J:ad}{f:Nat->AV}{x y:Nat×Option (Option Nat)}{v w:AV}(h:resV J f x=some v)(h2:resV J f y=some w):ra J f [x,y]=some (.a6 [v,w]):=by
 show(match mapO (resV J f) [x,y] with|some [v]=>some v|some bf=>some (.a6 bf)|none=>none)=_;rw[mapO_cons,mapO_cons,h,h2];rfl
theorem UR{J:ad}{f:Nat->AV}{x y z:Nat×Option (Option Nat)}{v w u:AV}(h:resV J f x=some v)(h2:resV J f y=some w)(h3:resV J f z=some u):ra J f [x,y,z]=some (.a6 [v,w,u]):=by
 show(match mapO (resV J f) [x,y,z] with|some [v]=>some v|some bf=>some (.a6 bf)|none=>none)=_;rw[mapO_cons,mapO_cons,mapO_cons,h,h2,h3];rfl
section
variable {env:Env}{J:ad}{fn:Nat}{b1:aI}{body:bF}{first cap args:List AV}{R:dR->ad->Prop}
theorem W.mv(e:env.ext fn=0)(ar:env.pure fn=false)(hf:env.funcs fn=some b1)(hb:b1.body=some body)
  (hn:(Nat.beq (first++args++cap).length b1.jg&&Nat.ble (first++args++cap).length b1.ntmps)=true) (hd:cr (λr=>Nat.blt r.1 b1.ntmps) b1.results=true)
  (h:∀z,bO env none [] b1.ntmps body (bs (W.pO 0 (first++args++cap)) z) J (λx bW af=>x= .ret/\∃v,ra af bW b1.results=some v/\R (.ok v) af)):bu env 0 (.f (.func fn) first cap) args J R:=by
 have hle:(first++args++cap).length<=b1.ntmps:=by
  simp only[Bool.and_eq_true] at hn;exact Nat.le_of_ble_eq_true hn.2
 refine bu.run e ar hf hb hn ((W.args h _ (sd hle)).mono λx a9 af ⟨bW,h1,h2,v,h3,aQ⟩=>?_);subst h2;exact⟨.ok v,af,UP h1 hd h3,aQ⟩
theorem W.b1G{d:Nat}(e:env.ext fn=0)(ar:env.pure fn=false)(hf:env.funcs fn=some b1)(hb:b1.body=some body)
  (hn:(Nat.beq (first++args++cap).length b1.jg&&Nat.ble (first++args++cap).length b1.ntmps)=true) (hd:cr (λr=>Nat.blt r.1 b1.ntmps) b1.results=true)
  (h:∀z,dk env [] [.inl d] b1.ntmps body (bs (W.pO 0 (first++args++cap)) z) J (λx bW af=>x= .ret/\af.get d=some .dN/\∃v,ra (af.set d .dead) bW b1.results=some v/\R (.ok v) (af.set d .dead))):bu env 0 (.f (.func fn) first cap) args J R:=by
 have hle:(first++args++cap).length<=b1.ntmps:=by
  simp only[Bool.and_eq_true] at hn;exact Nat.le_of_ble_eq_true hn.2
 have jo:bs (W.pO 0 (first++args++cap)) (fR (first++args++cap))=fR (first++args++cap):=Ah (W.Ed _ 0 λj a e=>by show(first++args++cap).getD (0+j) dB=a;rw[Nat.zero_add,List.getD_eq_getElem?_getD,e];rfl);refine bu.run e ar hf hb hn ((h (fR (first++args++cap)) _ (by rw[jo];exact sd hle)).mono λx a9 af ⟨bW,h1,h2,h3,v,aQ,bJ⟩=>?_);subst h2;exact⟨.ok v,_,UQ h1 h3 hd aQ,bJ⟩
end
def FB(rs:List (Nat×Option (Option Nat)))(r:AV):dS:=λx f af=>x= .ret/\∃v,ra af f rs=some v/\freeze af 0 1000 v=some r
theorem FC{P:Program}{b:b8}{K:Nat->List AV->AV->Prop}(hb:kH P b)(cM:Ak P b K){g:Nat}{fn:aI}{body:bF}{aW:List AV}(r:AV)(hf:b.funcs.get g=some fn)(hF:fn.body=some body)
  (hn:(Nat.beq aW.length fn.jg&&Nat.ble aW.length fn.ntmps)=true) (hd:cr (λr=>Nat.blt r.1 fn.ntmps) fn.results=true) {ab:Nat} (ak:fe ab r=true) (hj:AV.eqb 1000 r r=true)
  (h:aj (b.aM K) fn.ntmps body (fR aW) ⟨.nil,0⟩ (FB fn.results r)) (b6:Nat):SpecEntry P (b.env []) b6 g aW r:=by
 have hle:aW.length<=fn.ntmps:=by
  simp only[Bool.and_eq_true] at hn;exact Nat.le_of_ble_eq_true hn.2
 refine DK (env:=b.aM K) (m:=1000) (Nat.le_add_left _ _) ⟨λg b1 hg=>k5.vs hb.funcs g b1 hg⟩ (λb6 g aW r ao=>cM g aW r (DM ao) b6) hb.ext hb.xD hf hF hn ak ((h _ (sd hle)).mono λx ab af ⟨f,h1,h2,v,h3,aQ⟩=>?_) hj b6;subst h2;exact⟨.ok v,_,UP h1 hd h3,_,rfl,aQ⟩
end Go.Lyc
end
noncomputable section
namespace Go.Lyc
set_option maxHeartbeats 0
variable [Tok][TokOk]
open Go.RowKit Go.Lyc.T
attribute [local irreducible] b9 bO dj dY bu
section
variable {b:b8}{K:Nat->List AV->AV->Prop}(hfn:∀g aW r cw,K g aW r->K g aW cw->r=cw)
include hfn
theorem b1H(xs:List AV)(hV:∀J,bG J (b.bn+1000) (.a7 true (some 9) xs)=some (.a7 true (some 9) xs))(hl:xs.length<2^20)(s:Nat->Bool)(e:b.ext vU=0/\b.pure vU=true)(r:Nat)(ak:r<=xs.length)(cM:∀k,1<=k->k<=xs.length->(r=0\/k<=r)->K vU [.a7 true (some 9) xs,ah k] (.b (s k)))
  (ao:∀k,1<=k->k<=xs.length->(r=0\/k<r)->s k=true) (nz:r≠0->s r=false) (body:bF) (hb:Ki.body=some body):aj (b.aM K) Ki.ntmps body (fR [.a7 true (some 9) xs]) ⟨.nil,0⟩ (m4 2 (ah r)):=by
 cases hb;refine W.args λz=>?_;have H:Has (⟨.nil,0⟩:ad) []:=Has.nil;have hlen:∀J:ad,lenA J 1 (.a7 true (some 9) xs)=some xs.length:=λ_=>rfl;refine ai ?_;refine aj.block ?_;refine aj.loop (λm f τ=>∃k,k+m=xs.length+1/\1<=k/\(r=0\/k<=r)/\sat [(0,.a7 true (some 9) xs),(3,ah k)] f) ?_ xs.length ⟨1,by omega,by omega,by omega,rfl,rfl,trivial⟩;rintro m f τ ⟨k,Iz,fM,US,UT⟩;refine aj.norm _ UT λz=>?_;clear UT;have H:Has τ []:=Has.nil;by_cases hn:k<=xs.length
 ·obtain⟨m,rfl⟩:∃k,m=k+1:=⟨m-1,by omega⟩
  refine ai ?_;refine W.fu hfn e (cM k fM hn US) I I I (oF (hV _) I) ?_;by_cases aS:k=r
  ·subst aS;rw[nz (by omega)];refine ai ?_;refine aj.ret ?_;exact⟨rfl,rfl⟩
  ·rw[ao k fM hn (by omega)];refine ai ?_;exact⟨m,by omega,k+1,by omega,by omega,by omega,rfl,rfl,trivial⟩
 ·obtain rfl:m=0:=by omega
  refine ai ?_;refine aj.exit ?_;show bO _ _ _ _ _ _ _ _;refine aj.norm [] trivial λg=>?_;refine ai ?_;refine aj.ret ?_;obtain rfl:r=0:=by omega
  exact⟨rfl,rfl⟩
end
theorem Sl.A4{J τ:ad}{U:Option Nat}{v:AV}{xs:List AV}(h:Sl J U v xs)(k:∀i c,v.at? =some i->J.get i=some (.cells c)->τ.get i=some (.cells c)):Sl τ U v xs:=by
 cases h with
 |nil=>exact .nil
 |al o cap xs rest h aa az=>exact .al o cap xs rest (k _ _ I h) aa az
def ndsL(L:List bX):Nat->List (List Nat)
 |0=>[]
 |j+1=>ndsL L j++[needL L (e8 L) (ndsL L j) (j+1)]
theorem sB(L:List bX):∀j,(ndsL L j).length=j
 |0=>rfl
 |j+1=>by rw[ndsL,List.length_append,sB L j];rfl
theorem b1I{L:List bX}{B N:List (List Nat)}{k n:Nat}(h:n∈needL L B N k):n<=k:=by
 unfold needL at h;split at h
 ·rename_i x _;cases hx:x.hyp with
  |true=>rw[hx,cond_true] at h;simp at h;omega
  |false=>rw[hx,cond_false] at h;have:=List.mem_range.1 (List.mem_filter.1 h).1;omega
 ·simp at h
theorem b1J{L:List bX}{B N:List (List Nat)}{k:Nat}:(needL L B N k).length<=k+1:=by
 unfold needL;split
 ·rename_i x _;cases hx:x.hyp with
  |true=>rw[cond_true];simp
  |false=>rw[cond_false];have:=List.length_filter_le (mu L B N k x.cs) (List.range k);rw[List.length_range] at this;omega
 ·simp
theorem v3{L:List bX}:∀ {j:Nat} {l:List Nat},l∈ndsL L j->l.length<=j+1/\∀n∈l,n<=j
 |0,l,h=>by simp[ndsL] at h
 |j+1,l,h=>by
  rw[ndsL] at h;rcases List.mem_append.1 h with h|h
  ·obtain⟨a,b⟩:=v3 h;exact⟨by omega,λn hn=>by have:=b n hn;omega⟩
  ·rw[List.mem_singleton.1 h];exact⟨b1J,λn hn=>b1I hn⟩
theorem UU{aq:aF->Option AV}{o:aF}{w z:AV}(h:aq o=some w)(aa:w.cells=[w])(au:w.val=true):gU aq (λi bK=>i*bK) (List.map (λp=>(p.1,shN none,p.2)) [(0,o)]) (f_ 1 [z])=some [w]:=by
 show(match aq o with|none=>none|some v=>cond (Nat.beq v.cells.length 1&&v.val) (match storeCells [z] (0*1) v.cells with|none=>none|some c=>some c) none)=_;rw[h];show cond (Nat.beq w.cells.length 1&&w.val) (match storeCells [z] (0*1) w.cells with|none=>none|some c=>some c) none=_;rw[aa,au];rfl
structure iM(τ:ad)(p:Nat)(cH:AV)(bI:List AV)(B:List (List Nat)):Prop where
 al:Sl τ none cH bI
 len:bI.length=B.length
 el:∀i (h:i<bI.length) (h':i<B.length),eF τ bI[i] B[i]
 l9:∀o,cH.at? =some o->p<o
 sb:∀x∈bI,∀o,x.at? =some o->p<o/\cH.at? ≠some o
theorem iM.nil{τ:ad}{p:Nat}:iM τ p .ae [] []:=⟨.nil,rfl,(λi h=>by simp at h),(λo h=>by cases h),(λx h=>by simp at h)⟩
def sC(cH:AV)(bI:List AV)(c:Nat):Prop:=cH.at? =some c\/∃x∈bI,x.at? =some c
theorem iM.K6{τ aH:ad}{p:Nat}{cH:AV}{bI:List AV}{B:List (List Nat)}(h:iM τ p cH bI B)(k:∀i c,sC cH bI i->τ.get i=some (.cells c)->aH.get i=some (.cells c)):iM aH p cH bI B:=
 ⟨h.al.A4 λi c hi=>k i c (.inl hi),h.len,λi a b=>(h.el i a b).A4 λj c aA=>k j c (.inr ⟨_,List.getElem_mem a,aA⟩),h.l9,h.sb⟩
theorem iM.aO{τ aH:ad}{p:Nat}{cH:AV}{bI:List AV}{B:List (List Nat)}(h:iM τ p cH bI B)(k:∀i c,p<i->τ.get i=some (.cells c)->aH.get i=some (.cells c)):iM aH p cH bI B:=h.K6 λi c hi=>k i c (by
 rcases hi with hi|⟨x,hx,hi⟩
 ·exact h.l9 i hi
 ·exact(h.sb x hx i hi).1)
theorem iM.lt{τ:ad}{p:Nat}{cH:AV}{bI:List AV}{B:List (List Nat)}(h:iM τ p cH bI B){c:Nat}(aa:sC cH bI c):c<τ.next:=by
 rcases aa with hi|⟨x,hx,hi⟩
 ·exact h.al.lt hi
 ·obtain⟨i,hlt,rfl⟩:=List.getElem_of_mem hx;exact(h.el i hlt (by rw[<-h.len];exact hlt)).lt hi
theorem iM.push{τ aH:ad}{p:Nat}{cH bA w:AV}{bI:List AV}{B:List (List Nat)}{l:List Nat}(h:iM τ p cH bI B)(hw:eF τ w l)(tX:∀o,w.at? =some o->p<o/\cH.at? ≠some o)(ar:p<τ.next)(au:Sl aH none bA (bI++[w]))(ha:bA.at? =some (τ.next+1))(k:∀i o,cH.at? ≠some i->τ.get i=some o->aH.get i=some o):iM aH p bA (bI++[w]) (B++[l]):=by
 refine⟨au,by rw[List.length_append,List.length_append,h.len];rfl,λi a b=>?_,(λo ho=>by rw[ha] at ho;cases ho;omega),λx hx o ho=>?_⟩
 ·by_cases hi:i<bI.length
  ·rw[List.getElem_append_left hi,List.getElem_append_left (by rw[<-h.len];exact hi)];exact(h.el i hi (by rw[<-h.len];exact hi)).A4 λj c aA=>k j _ ((h.sb _ (List.getElem_mem hi) j aA).2)
  ·have e:i=bI.length:=by rw[List.length_append] at a;simp only[List.length_cons,List.length_nil] at a;omega
   subst e;have a4:(B++[l])[bI.length]'b=l:=by simp[h.len]
   have cQ:(bI++[w])[bI.length]'a=w:=by simp
   rw[a4,cQ];exact hw.A4 λj c aA=>k j _ ((tX j aA).2)
 ·rw[ha];rcases List.mem_append.1 hx with hx|hx
  ·exact⟨(h.sb x hx o ho).1,(λe=>by cases e;have:=h.lt (.inr ⟨x,hx,ho⟩);omega)⟩
  ·rw[List.mem_singleton.1 hx] at ho;exact⟨(tX o ho).1,(λe=>by cases e;have:=hw.lt ho;omega)⟩
def A5(L:List bX)(bI:List AV):Prop:=∀i (h:i<bI.length),(bI[i]).at? =none↔pV L (i+1)=false
def v5(ee:List AV)(N:List (List Nat)):Prop:=∀i (h:i<ee.length) (h':i<N.length),N[i]=[]->ee[i]= .ae
theorem A5.push{L:List bX}{bI:List AV}{w:AV}(h:A5 L bI)(hw:w.at? =none↔pV L (bI.length+1)=false):A5 L (bI++[w]):=λi hi=>by
 by_cases hl:i<bI.length
 ·rw[List.getElem_append_left hl];exact h i hl
 ·have e:i=bI.length:=by rw[List.length_append] at hi;simp only[List.length_cons,List.length_nil] at hi;omega
  subst e;rw[show(bI++[w])[bI.length]'hi=w from by simp];exact hw
theorem v5.push{ee:List AV}{N:List (List Nat)}{w:AV}{l:List Nat}(h:v5 ee N)(hl:ee.length=N.length)(hw:l=[]->w= .ae):v5 (ee++[w]) (N++[l]):=λi hi cY=>by
 by_cases hlt:i<ee.length
 ·rw[List.getElem_append_left hlt,List.getElem_append_left (by rw[<-hl];exact hlt)];exact h i hlt _
 ·have e:i=ee.length:=by rw[List.length_append] at hi;simp only[List.length_cons,List.length_nil] at hi;omega
  subst e;rw[show(ee++[w])[ee.length]'hi=w from by simp,show(N++[l])[ee.length]'cY=l from by simp[hl]];exact hw
structure Op(τ:ad)(p:Nat)(L:List bX):Prop where
 ex:∃q cH ey bI ee,τ.get p=some (.cells [cD L,cH,ey])/\iM τ q cH bI (e8 L)/\iM τ q ey ee (ndsL L L.length)/\A5 L bI/\v5 ee (ndsL L L.length)
theorem Op.yl{τ:ad}{p:Nat}{L:List bX}(h:Op τ p L):ld τ p L (e8 L) (ndsL L L.length):=by
 obtain⟨q,cH,ey,bI,ee,ar,bV,de,_⟩:=h.ex;exact⟨cH,ey,bI,ee,ar,bV.al,bV.len,bV.el,de.al,de.len,de.el⟩
theorem Op.aO{τ aH:ad}{p:Nat}{L:List bX}(h:Op τ p L)(k:∀i c,τ.get i=some (.cells c)->aH.get i=some (.cells c)):Op aH p L:=by
 obtain⟨q,cH,ey,bI,ee,ar,bV,de,h1,h2⟩:=h.ex;exact⟨q,cH,ey,bI,ee,k _ _ ar,bV.aO λi c _=>k i c,de.aO λi c _=>k i c,h1,h2⟩
section
variable {b:b8}{K:Nat->List AV->AV->Prop}
theorem b1K(hh:bk (b.aM K) AM EO){L:List bX}{J:ad}:
  bu (b.aM K) 0 (.f (.func AM) [] []) [cD L] J (λr τ=>r= .ok (.f (.func x7) [] [aK J.next])/\τ.get J.next=some (.cells [cD L])/\τ.next=J.next+1/\dC J τ):=by
 refine W.code hh.e hh.p hh.f I I I I λz=>?_;have H:Has J []:=Has.nil;refine ai ?_;generalize aS:J.next=q;refine W.cy H aS I I I I I λτ hn H bB=>?_;refine ai ?_;exact aj.ret ⟨rfl,rfl,H.get _ (.head _),hn,by omega,bB⟩
end
section
variable {b:b8}{K:Nat->List AV->AV->Prop}(hfn:∀g aW r cw,K g aW r->K g aW cw->r=cw)
include hfn
theorem UW(hf:lg b K)(hh:bk (b.aM K) EN Kh)(ha:bk (b.aM K) AM EO)(UX:bk (b.aM K) x7 EP){L:List bX}(cP:yj L)(a5:0<L.length)(c0Y:L.length<=500)(b1L:∀J,bG J (b.bn+1000) (cD L)=some (cD L))(em:b.ext q4=0/\b.pure q4=true)(hm:K q4 [cD L] (ah 0))(dq:sx L (e8 L))(aa:∀k x,L[k-1]? =some x->1<=k->tU k x.cs){J:ad}:
  bu (b.aM K) 0 (.f (.func EN) [] []) [cD L] J (λr τ=>∃p,r= .ok (.a6 [aK p,ah 0])/\Op τ p L/\J.next<=p/\dC J τ):=by
 refine W.b1G (d:=J.next+3) hh.e hh.p hh.f I I I λz=>?_;have H:Has J []:=Has.nil;refine dk.km ?_;refine ai ?_;refine⟨rfl,?_⟩;refine dk.km ?_;refine ai ?_;refine⟨rfl,?_⟩;refine dk.km ?_;refine ai ?_;refine W.fu hfn em hm I I I (nJ (b1L _)) ?_;refine W.bin (v:=.b false) I I I I I ?_;refine ai ?_;refine⟨rfl,?_⟩;refine dk.km ?_;refine ai ?_;refine W.cy (c:=[cD L,.ae,.ae]) H I I I I I I λτ c1 H bB=>?_;refine ai ?_;refine W.ko H c1 I I I I I I λbh ea H bp=>?_;refine ai ?_;refine⟨rfl,?_⟩;refine dk.xH ?_;refine dk.km ?_;refine ai ?_;refine W.an trivial I I I (b1K ha) λr bU ⟨e,cc,eT,et⟩=>⟨_,e,?_⟩
 refine ai ?_;refine⟨rfl,?_⟩;refine dk.block ?_;have b1M:bU.next=J.next+3:=by omega
 have a4:bh.next=J.next+2:=by omega
 rw[a4] at cc ⊢;clear a4 eT e;have tY:=H.aO et.2;have H:Has bU [(J.next+1,[aK J.next]),(J.next,[cD L,.ae,.ae])]:=tY;have b3:dC J bU:=⟨by omega,λi o h=>et.2 i o (bp i o (bB i o h))⟩
 clear tY et bp bB ea c1;generalize aS:J.next=q at *;have hlen:=dq.len;have CY:∀i,i<L.length->(e8 L).getD i []=stF L (i+1):=λi hi=>by
  unfold e8;rw[List.getD_eq_getElem?_getD,List.getElem?_map,List.getElem?_range hi];rfl
 refine dk.iter (k:=q+3) L.length (λi W τ=>∃cH bI,iM τ (q+4) cH bI ((List.range i).map λi=>stF L (i+1))/\τ.get q=some (.cells [cD L,cH,.ae])/\A5 L bI/\∀c,W c↔c=q\/sC cH bI c) (λi V τ args=>∃v,args=[ah (i+1),v]/\eF τ v (stF L (i+1))/\(v.at? =none↔pV L (i+1)=false)/\∀o,v.at? =some o->¬V o) (λc=>c=q) b1M I UX.e I (λi W τ args ⟨v,e,_⟩=>by rw[e];rfl) ?_ ?_ (λc aa=>by rw[aa];omega) (b1y UX cP cc _ (by show ¬(q+2=q);omega)) ?_ ?_
 ·rintro i V τ aH ⟨cH,bI,h1,h2,h3,aQ⟩ c7 hn;exact⟨cH,bI,h1.K6 λi c hi=>c7 i _ ((aQ i).2 (.inr hi)),c7 _ _ ((aQ _).2 (.inl I)) h2,h3,aQ⟩
 ·exact⟨.ae,[],.nil,H.get _ (.tail _ (.head _)),(λi h=>by simp at h),λc=>by simp[sC,AV.at?]⟩
 ·rintro i V τ args hi ⟨v,rfl,au,pT,oX⟩ aV s4 b1N xc c7;refine aj.norm [(25,v),(4,aK (q+1))] ⟨rfl,rfl,trivial⟩ λg=>?_;have b1O:Has τ []:=Has.nil;have gG:=c7 _ _ (show ¬q+1=q by omega) (H.get _ (.head _));clear H b1O;have H:Has τ []:=Has.nil;refine ai ?_;refine⟨rfl,⟨Nat.le_refl _,λ_ _ h=>h⟩,λbh gX bp aV=>?_⟩;obtain⟨cH,bI,rb,ar,FD,hW⟩:=aV;have gG:=bp _ _ (by omega) gG;have au:=au.A4 (τ:=bh) λi c hi hg=>bp i _ (λe=>s4 c (e▸hg)) hg;have H:Has bh [(q,[cD L,cH,.ae]),(q+1,[aK q])]:=(Has.nil.cons gG (by simp)).cons ar (by simp);refine aj.norm [(6,v),(4,aK (q+1))] ⟨rfl,rfl,trivial⟩ λg=>?_;have gL:bI.length=i:=by rw[rb.len];simp
  have b1P:(stF L (i+1)).length<2^20:=by
   rw[cP.len i hi,List.getElem?_eq_getElem hi];have:=(cP.num _ (List.getElem_mem hi)).1;show(L[i]).bY<_;omega
  refine ai ?_;refine W.fJ H I I I (.head _) I (cX rb.al.lf) ?_;refine ai ?_;refine W.an (hf.q.one I) I I I (b1v hf au b1P) λr cq ⟨w,e,hw,eH⟩=>⟨_,e,?_⟩
  have H:=H.aO eH.2;refine ai ?_;have aQ:=rb.al.aO (τ:=cq) λi o _=>eH.2 i o;refine W.bI (c:=[w]) H I I I (UU I hw.al.kL hw.al.KN) λaH nK H gv=>?_;have gY:=H.get _ (.head _);have K7:aH.get q=some (.cells [cD L,cH,.ae]):=H.get _ (.tail _ (.head _));have A6:aH.get (q+1)=some (.cells [aK q]):=H.get _ (.tail _ (.tail _ (.head _)));refine W.now [(8,q,[cD L,cH,.ae]),(8,q+1,[aK q]),(8,q+1,[aK q])] [(11,q+1,[aK q])] I I ⟨K7,A6,A6,trivial⟩ ?_;refine W.ap (w:=.al cq.next 0 1 none (some 1)) w [] (aQ.aO λi o _=>gv i o) (by show readList aH (.al cq.next 0 1 none (some 1))=_;show(match aH.get cq.next with|some (.cells c)=>elems none 1 (c.drop 0)|_=>none)=_;rw[gY];rfl) (λz bg=>by rw[List.mem_singleton.1 bg];exact hw.al.j7) (by show(3*(bI.length+1)+2000)*24<=_;rw[gL];omega) I I I I λbA dD v7 K8 K9 b1Q K_=>?_;have re:bA.at? =some (cq.next+1):=by rw[K8,nK]
  have ir:dD.next=cq.next+2:=by omega
  have cW:∀i o,cH.at? ≠some i->cq.get i=some o->dD.get i=some o:=λi o hi ho=>K_ i o hi (gv i o ho);replace H:Has cq [(q,[cD L,cH,.ae]),(q+1,[aK q])]:=(Has.nil.cons (eH.2 _ _ gG) (by simp)).cons (eH.2 _ _ ar) (by simp);have H:Has dD [(q,[cD L,cH,.ae]),(q+1,[aK q])]:=(Has.nil.cons (cW _ _ (λe=>by have:=rb.l9 _ e;omega) (H.get _ (.tail _ (.head _)))) (by simp)).cons (cW _ _ (λe=>by have:=rb.l9 _ e;omega) (H.get _ (.head _))) (by simp);refine ai ?_;refine W.st (bM:=[cD L,bA,.ae]) H 0 I I I I v7.j7 (by rw[v7.kL];rfl) λeb iE H dQ=>?_;refine ai ?_;have b1R:iM cq (q+4) cH bI ((List.range i).map λi=>stF L (i+1)):=rb.aO λi c _=>eH.2 i _;have b1S:=b1R.push hw.al (λo ho=>⟨by have:=hw.cF o ho;omega,λe=>by have:=hw.cF o ho;have:=rb.lt (.inl e);omega⟩) (by have:=eH.1;omega) v7 re cW;refine⟨rfl,λc=>c=q\/sC bA (bI++[w]) c,⟨bA,bI++[w],?_,H.get _ (.head _),FD.push (by rw[hw.hq,gL];exact pT),λc=>Iff.rfl⟩,?_⟩
  ·rw[List.range_succ,List.map_append];exact b1S.aO λi c hi=>dQ i _ (by omega)
  ·refine⟨by have:=eH.1;omega,λc o aa ho=>dQ _ _ (λe=>aa ((hW c).2 (.inl e))) (cW _ _ (λe=>aa ((hW c).2 (.inr (.inl e)))) (eH.2 _ _ ho)),λc aa=>?_⟩;rcases aa with rfl|aa|⟨x,hx,aa⟩
   ·exact .inl ((hW _).2 (.inl I))
   ·right;rw[re] at aa;cases aa;have:=eH.1;omega
   ·rcases List.mem_append.1 hx with hx|hx
    ·exact .inl ((hW _).2 (.inr (.inr ⟨x,hx,aa⟩)))
    ·right;rw[List.mem_singleton.1 hx] at aa;have:=hw.cF c aa;have:=hw.al.lt aa;omega
 ·intro W' τ ⟨cH,bI,rb,ar,FD,hW⟩ lM nG c7 lI;have bV:((List.range L.length).map λi=>stF L (i+1))=e8 L:=rfl;rw[bV] at rb;refine⟨rfl,rfl,?_⟩;refine aj.norm [(0,cD L),(4,aK (q+1)),(3,ah 0)] ⟨rfl,rfl,rfl,trivial⟩ λg=>?_;have gG:=c7 _ _ (show ¬q+1=q by omega) (H.get _ (.head _));have b1T:dC J τ:=⟨by have:=b3.1;omega,λi o ho=>c7 i o (by have:=ad.bt ho;omega) (b3.2 i o ho)⟩
  clear H c7 lI hW;have H:Has τ [(q,[cD L,cH,.ae]),(q+1,[aK q])]:=(Has.nil.cons gG (by simp)).cons ar (by simp);refine ai ?_;show bO _ _ _ _ _ _ _ _;refine W.Fs (α:=AV×List AV) (λ_=>[(0,cD L),(4,aK (q+1)),(3,ah 0)]) (λx τ=>iM τ (q+4) cH bI (e8 L)/\iM τ (q+4) x.1 x.2 (ndsL L L.length)/\(∀c,sC cH bI c->¬sC x.1 x.2 c)/\v5 x.2 (ndsL L L.length)/\τ.get q=some (.cells [cD L,cH,x.1])/\τ.get (q+1)=some (.cells [aK q])/\τ.get (q+3)=some .dN/\dC J τ) ?_ ?_
  ·refine aj.each L.length (λj f τ=>∃ey ee,iM τ (q+4) cH bI (e8 L)/\iM τ (q+4) ey ee (ndsL L j)/\(∀c,sC cH bI c->¬sC ey ee c)/\v5 ee (ndsL L j)/\τ.get q=some (.cells [cD L,cH,ey])/\τ.get (q+1)=some (.cells [aK q])/\τ.get (q+3)=some .dN/\q+5<=τ.next/\dC J τ/\sat [(0,cD L),(4,aK (q+1)),(3,ah 0)] f) (by omega) ⟨.ae,[],rb,.nil,?_,(λi h=>by simp at h),ar,gG,lM,nG,b1T,rfl,rfl,rfl,trivial⟩ I I (λj g τ aA aV hi hm=>?_) (λg τ aV hi=>?_)
   ·intro c _ h;rcases h with h|⟨x,hx,h⟩
    ·cases h
    ·simp at hx
   ·obtain⟨ey,ee,bV,de,hd,v8,ar,gG,lM,nG,b3,c6,cI,cc,_⟩:=aV;refine aj.norm [(0,cD L),(4,aK (q+1)),(3,ah 0),(39,ah j),(38,ah L.length)] ⟨c6,cI,cc,hi,hm,trivial⟩ λg=>?_;have H:Has τ [(q,[cD L,cH,ey]),(q+1,[aK q])]:=(Has.nil.cons gG (by simp)).cons ar (by simp);have s4:=sB L j;have eG:ld τ q L (e8 L) (ndsL L j):=⟨cH,ey,bI,ee,ar,bV.al,bV.len,bV.el,de.al,de.len,de.el⟩
    refine ai ?_;refine W.fJ H I I I (.head _) I (cX de.al.lf) ?_;refine ai ?_;refine W.an (hf.q.one I) I I I (b1k hf eG dq (λx hx=>by have:=cP.num x hx;omega) (λl hl=>by have:=(v3 hl).1;omega) (j+1) (by omega) (by omega) (by omega) (λl hl n hn=>by have:=(v3 (List.mem_of_mem_take hl)).2 n hn;omega) (λx hx=>aa (j+1) x hx (by omega))) λr cq ⟨w,e,hw,eH⟩=>⟨_,e,?_⟩
    have H:=H.aO eH.2;refine ai ?_;have aQ:=de.al.aO (τ:=cq) λi o _=>eH.2 i o;refine W.bI (c:=[w]) H I I I (UU I hw.al.kL hw.al.KN) λaH nK H gv=>?_;have gY:=H.get _ (.head _);have K7:aH.get q=some (.cells [cD L,cH,ey]):=H.get _ (.tail _ (.head _));have A6:aH.get (q+1)=some (.cells [aK q]):=H.get _ (.tail _ (.tail _ (.head _)));refine W.now [(10,q,[cD L,cH,ey]),(10,q+1,[aK q]),(10,q+1,[aK q])] [(13,q+1,[aK q])] I I ⟨K7,A6,A6,trivial⟩ ?_;have gL:ee.length=j:=by rw[de.len,s4]
    refine W.ap (w:=.al cq.next 0 1 none (some 1)) w [] (aQ.aO λi o _=>gv i o) (by show readList aH (.al cq.next 0 1 none (some 1))=_;show(match aH.get cq.next with|some (.cells c)=>elems none 1 (c.drop 0)|_=>none)=_;rw[gY];rfl) (λz bg=>by rw[List.mem_singleton.1 bg];exact hw.al.j7) (by show(3*(ee.length+1)+2000)*24<=_;rw[gL];omega) I I I I λbA dD v7 K8 K9 b1Q K_=>?_;have re:bA.at? =some (cq.next+1):=by rw[K8,nK]
    have ir:dD.next=cq.next+2:=by omega
    have cW:∀i o,ey.at? ≠some i->cq.get i=some o->dD.get i=some o:=λi o hi ho=>K_ i o hi (gv i o ho);have La:=eH.1;replace H:Has dD [(q,[cD L,cH,ey]),(q+1,[aK q])]:=(Has.nil.cons (cW _ _ (λe=>by have:=de.l9 _ e;omega) (eH.2 _ _ gG)) (by simp)).cons (cW _ _ (λe=>by have:=de.l9 _ e;omega) (eH.2 _ _ ar)) (by simp);refine ai ?_;refine W.st (bM:=[cD L,cH,bA]) H 0 I I I I v7.j7 (by rw[v7.kL];rfl) λeb iE H dQ=>?_;refine ai ?_;have b1U:iM cq (q+4) ey ee (ndsL L j):=de.aO λi c _=>eH.2 i _;have b1V:=b1U.push hw.al (λo ho=>⟨by have:=hw.cF o ho;omega,λe=>by have:=hw.cF o ho;have:=de.lt (.inl e);omega⟩) (by omega) v7 re cW;refine⟨rfl,rfl,bA,ee++[w],(bV.K6 λi c hi hg=>dQ i _ ?_ (cW i _ (λe=>hd i hi (.inl e)) (eH.2 i _ hg))),b1V.aO λi c hi=>dQ i _ (by omega),?_,v8.push de.len hw.hq,H.get _ (.head _),H.get _ (.tail _ (.head _)),dQ _ _ (by omega) (cW _ _ (λe=>by have:=de.l9 _ e;omega) (eH.2 _ _ lM)),by omega,⟨by have:=b3.1;omega,λi o ho=>dQ _ _ (by have:=ad.bt ho;omega) (cW _ _ (λe=>by have:=de.l9 _ e;have:=ad.bt ho;omega) (eH.2 _ _ (b3.2 _ _ ho)))⟩,rfl,rfl,rfl,trivial⟩
    ·intro e;subst e;rcases hi with hi|⟨x,hx,hi⟩
     ·have:=bV.l9 _ hi;omega
     ·have:=(bV.sb x hx _ hi).1;omega
    ·intro c UY b1W;have hlt:=bV.lt UY;rcases b1W with h|⟨x,hx,h⟩
     ·rw[re] at h;cases h;omega
     ·rcases List.mem_append.1 hx with hx|hx
      ·exact hd c UY (.inr ⟨x,hx,h⟩)
      ·rw[List.mem_singleton.1 hx] at h;have:=hw.cF c h;omega
   ·obtain⟨ey,ee,bV,de,hd,v8,ar,gG,lM,nG,b3,c6,cI,cc,_⟩:=aV;exact⟨rfl,(ey,ee),⟨bV,de,hd,v8,ar,gG,lM,b3⟩,c6,cI,cc,trivial⟩
  ·intro x g aH ⟨bV,de,hd,v8,ar,gG,lM,b3⟩;have H:Has aH [(q,[cD L,cH,x.1]),(q+1,[aK q])]:=(Has.nil.cons gG (by simp)).cons ar (by simp);refine ai ?_;refine aj.ret ⟨rfl,lM,_,rfl,q,rfl,?_,?_,?_⟩
   ·have eG:Op aH q L:=⟨q+4,cH,x.1,bI,x.2,ar,bV,de,FD,v8⟩
    exact eG.aO λi c hg=>(iw lM).2 i _ (λe=>by subst e;rw[lM] at hg;cases hg) hg
   ·omega
   ·exact⟨b3.1,λi o ho=>(iw lM).2 i _ (λe=>by have:=ad.bt ho;omega) (b3.2 i o ho)⟩
end
theorem ym{α β:Type}{f:α->Option β}{g:α->β}:∀ {l:List α},(∀x∈l,f x=some (g x))->mapO f l=some (l.map g)
 |[],_=>rfl
 |x::l,h=>by
  rw[mapO_cons,h x (by simp),ym λy hy=>h y (List.mem_cons_of_mem _ hy)];rfl
theorem yn{α β:Type}{f:α->Option β}:∀ {l:List α} {r:List β},l.length=r.length->(∀i (h:i<l.length) (h':i<r.length),f l[i]=some r[i])->mapO f l=some r
 |[],[],_,_=>rfl
 |[],_::_,h,_=>by simp at h
 |_::_,[],h,_=>by simp at h
 |x::l,y::r,h,hi=>by
  rw[mapO_cons,show f x=some y from hi 0 (by simp) (by simp),yn (l:=l) (r:=r) (by simpa using h) λi a b=>hi (i+1) (by simpa using a) (by simpa using b)]
def A7(v:AV)(U:Option Nat)(a8:List AV):AV:=match v.at? with|none=>.ae|some _=>.a7 false U a8
theorem Sl.freeze{J:ad}{U:Option Nat}{v:AV}{xs a8:List AV}{n:Nat}(h:Sl J U v xs)(hm:mapO (Go.Lyc.freeze J 0 n) xs=some a8):Go.Lyc.freeze J 0 (n+1) v=some (A7 v U a8):=by
 have ak:=h.read;cases h with
 |nil=>rfl
 |al o cap xs rest h aa az=>
  rw[freeze_succ];simp only[ak,hm];rfl
theorem Sl.b1X{J:ad}{v:AV}{l:List Nat}{n:Nat}(h:eF J v l):Go.Lyc.freeze J 0 (n+2) v=some (A7 v none (l.map ah)):=Sl.freeze h (by
 have:=ym (f:=Go.Lyc.freeze J 0 (n+1)) (g:=λx=>x) (l:=l.map ah) (λx hx=>by obtain⟨m,_,rfl⟩:=List.mem_map.1 hx;rfl);rwa[List.map_id'] at this)
def jP(N:List (List Nat)):AV:=slA false none (N.map λl=>slA false none (l.map ah))
theorem iM.b1Y{τ:ad}{q:Nat}{ey:AV}{ee:List AV}{N:List (List Nat)}(h:iM τ q ey ee N)(bg:v5 ee N)(a5:N≠[]){n:Nat}:Go.Lyc.freeze τ 0 (n+3) ey=some (jP N):=by
 rw[h.al.freeze (a8:=N.map λl=>slA false none (l.map ah)) (yn (by rw[List.length_map,h.len]) λi a b=>?_)]
 ·unfold jP A7;have hl:=h.len;cases N with
  |nil=>exact absurd I a5
  |cons l N=>
   have:=h.al;cases this with
   |nil=>simp at hl
   |al o cap xs rest hg aa az=>rfl
 ·rw[List.getElem_map];have hb:i<N.length:=by rw[<-h.len];exact a
  rw[(h.el i a hb).b1X];unfold A7;have h1:=h.el i a hb;have h2:=bg i a hb;generalize ee[i]=w at h1 h2;generalize N[i]=l at h1 h2;cases l with
  |nil=>rw[h2 I];rfl
  |cons x l=>
   unfold eF at h1;generalize hm:(x::l).map ah=xs at h1;cases h1 with
   |nil=>simp at hm
   |al o cap xs rest hg aa az=>subst hm;rfl
section
variable {b:b8}{K:Nat->List AV->AV->Prop}(hfn:∀g aW r cw,K g aW r->K g aW cw->r=cw)
structure A8(b:b8)(K:Nat->List AV->AV->Prop)(L:List bX):Prop where
 oY:yj L
 ne:0<L.length
 le:L.length<=500
 jO:∀J,bG J (b.bn+1000) (cD L)=some (cD L)
 A9:K q4 [cD L] (ah 0)
 pW:sx L (e8 L)
 A_:∀k x,L[k-1]? =some x->1<=k->tU k x.cs
structure Lb(b:b8)(K:Nat->List AV->AV->Prop):Prop where
 op:bk (b.aM K) EN Kh
 aW:bk (b.aM K) AM EO
 UZ:bk (b.aM K) x7 EP
 fB:b.ext q4=0/\b.pure q4=true
include hfn
theorem b1Z(hf:lg b K)(ho:Lb b K){L:List bX}(cZ:A8 b K L)(body:bF)(hb:EL.body=some body):aj (b.aM K) EL.ntmps body (fR [cD L]) ⟨.nil,0⟩ (FB EL.results (.a6 [jP (ndsL L L.length),ah 0])):=by
 cases hb;refine W.args λz=>?_;have H:Has (⟨.nil,0⟩:ad) []:=Has.nil;refine ai ?_;refine W.an trivial I I I (UW hfn hf ho.op ho.aW ho.UZ cZ.oY cZ.ne cZ.le cZ.jO ho.fB cZ.A9 cZ.pW cZ.A_) λr τ ⟨p,e,cb,_,M⟩=>⟨_,e,?_⟩
 refine ai ?_;obtain⟨q,cH,ey,bI,ee,ar,bV,de,FD,v8⟩:=cb.ex;have H:Has τ [(p,[cD L,cH,ey])]:=Has.nil.cons ar (by simp);refine ai ?_;refine aj.ret ?_;refine⟨rfl,_,rfl,?_⟩;have a5:ndsL L L.length≠[]:=λe=>by have:=sB L L.length;rw[e] at this;have:=cZ.ne;simp at *;omega
 rw[freeze_succ];show(match mapO (Go.Lyc.freeze τ 0 999) [ey,ah 0] with|none=>none|some l=>some (AV.a6 l))=_;rw[mapO_cons,de.b1Y v8 a5 (n:=996)];rfl
end
structure dF where
 eZ:Fm
 hyps:List Fm
 rest:List Fm
abbrev pX(F:Fm):AV:=.ag (.b true::bD F)
abbrev dF.A(g:dF):AV:=.ag (bD g.eZ++[slA true (some 5) (g.hyps.map pX),slA true (some 4) (g.rest.map λF=>.ag (bD F))])
structure oZ(P:Nat->Prop)(J:ad)(v:AV)(g:dF):Prop where
 ex:∃au oy,v= .ag (bD g.eZ++[au,oy])/\Sl J (some 5) au (g.hyps.map pX)/\(g.hyps=[]->au= .ae)/\Sl J (some 4) oy (g.rest.map λF=>.ag (bD F))/\(g.rest=[]->oy= .ae)/\∀o,au.at? =some o\/oy.at? =some o->P o
theorem oZ.aO{P U0:Nat->Prop}{J τ:ad}{v:AV}{g:dF}(h:oZ P J v g)(k:∀i o,P i->J.get i=some o->τ.get i=some o)(eG:∀i,P i->i<J.next->U0 i):oZ U0 τ v g:=by
 obtain⟨au,oy,e,h1,h2,h3,aQ,bJ⟩:=h.ex;exact⟨au,oy,e,h1.aO λi o hi=>k i o (bJ _ (.inl hi)),h2,h3.aO λi o hi=>k i o (bJ _ (.inr hi)),aQ,λo ho=>eG o (bJ o ho) (by rcases ho with ho|ho;exact h1.lt ho;exact h3.lt ho)⟩
theorem nQ{aq:aF->Option AV}{bK:Nat->Nat->Nat}{aC:List (Nat×Nat×aF)}{i n:Nat}{o:aF}{v:AV}{z c r:List AV}(h:aq o=some v)(hl:(Nat.beq v.cells.length n&&v.val)=true)(ao:storeCells z (bK i n) v.cells=some c)(ak:gU aq bK aC c=some r):gU aq bK ((i,n,o)::aC) z=some r:=by
 show(match aq o with|none=>none|some v=>cond (Nat.beq v.cells.length n&&v.val) (match storeCells z (bK i n) v.cells with|none=>none|some c=>gU aq bK aC c) none)=_;rw[h];show cond (Nat.beq v.cells.length n&&v.val) (match storeCells z (bK i n) v.cells with|none=>none|some c=>gU aq bK aC c) none=_;rw[hl,cond_true,ao];exact ak
theorem U1{aq:aF->Option AV}{bK:Nat->Nat->Nat}{aC:List (Nat×Nat×aF)}{i:Nat}{o:aF}{w:AV}{z c r:List AV}{J:ad}{U:Option Nat}{xs:List AV}(hw:Sl J U w xs)(h:aq o=some w)(ao:storeCells z (bK i 1) [w]=some c)(ak:gU aq bK aC c=some r):gU aq bK ((i,1,o)::aC) z=some r:=
 nQ h (by rw[hw.kL,hw.KN];rfl) (by rw[hw.kL];exact ao) ak
theorem W.iu{cg:kJ}{env:Env}{aJ:Option Nat}{D:List (Nat ⊕ (AV×List AV))}{n:Nat}{F:List (Nat×AV)}{z:Nat->AV}{J:ad}{Q:dS}{d:Nat}{di c:List AV}{aC:List (Nat×Nat×aF)}{g:Option (Nat×Bool)}{ops:List aY}(hd:Nat.blt d n=true)(hw:wtL g n F=true)(hl:gU (c8 env n F z) (λoff _=>off) aC di=some c)(h:b9 cg env aJ D n ops (bs ((d,.ag c)::F) z) J Q):b9 cg env aJ D n (⟨some d,.build di aC,g,[]⟩::ops) (bs F z) J Q:=
 W.val hd hw (by show(match gU (c8 env n F z) (λoff _=>off) aC di with|some c=>some (bL.val (.ag c) J)|none=>none)=_;rw[hl]) h
def iN:dF:=⟨.mk 0 [] none none,[],[]⟩
theorem iN.v{P:Nat->Prop}{J:ad}:oZ P J (.ag [.i .u8 0,.s [],.ae,.ae,.ae,.ae]) iN:=⟨.ae,.ae,rfl,.nil,λ_=>rfl,.nil,λ_=>rfl,λo h=>by rcases h with h|h<;>cases h⟩
def pY(B:List (List Nat))(k a c:Nat):Bool:=decide (a=c)&&(decide ((B.getD (c-1) []).length<=(B.getD (k-1) []).length)&&decide (B.getD (c-1) []=(B.getD (k-1) []).take (B.getD (c-1) []).length))
section
variable {b:b8}{K:Nat->List AV->AV->Prop}
theorem b2a(hf:lg b K)(hh:bk (b.aM K) tJ Ko){p ec dp:Nat}{L:List bX}{B N:List (List Nat)}{J:ad}(eG:ld J p L B N)(dq:sx L B)(jB:J.get ec=some (.cells [aK p]))(k a c:Nat)(j0:J.get dp=some (.cells [ah k]))(ha:1<=a)(fP:a<=c)(kB:c<k)(az:k<=L.length)(UC:N.length=L.length)(de:∀l∈N,l.length<2^20/\∀n∈l,1<=n/\n<=L.length)(ju:∀J,bG J (b.bn+1000) (cD L)=some (cD L))(o0:∀x∈L,x.f.dep<=200):
  bu (b.aM K) 0 (.f (.func tJ) [] [aK ec,aK dp]) [.ag [ah a,ah c]] J (λr τ=>∃g,r= .ok (.a6 [g,.b (pY B k a c)])/\oZ (λo=>J.next<=o) τ g (cond (pY B k a c) ⟨fw L c,[],(N.getD (c-1) []).map (fw L)⟩ iN)/\dC J τ):=by
 refine W.mv hh.e hh.p hh.f I I I λz=>?_;obtain⟨cH,ey,bI,ee,h1,h2,h3,aQ,bJ,cu,ej⟩:=eG.ex;have a5:∀ {i j:Nat} {c d:List AV},J.get i=some (.cells c)->J.get j=some (.cells d)->c≠d->j≠i:=λh h' vd e=>vd (by subst e;rw[h] at h';cases h';rfl);have H:Has J [(p,[cD L,cH,ey]),(ec,[aK p]),(dp,[ah k])]:=((Has.nil.cons j0 (by simp)).cons jB λx hx=>by rw[List.mem_singleton.1 hx];exact a5 jB j0 (by simp)).cons h1 λx hx=>by
  rcases List.mem_cons.1 hx with rfl|hx
  ·exact a5 h1 jB (by simp)
  ·rw[List.mem_singleton.1 hx];exact a5 h1 j0 (by simp)
 have hl:=dq.lt;have hd:=dq.len;refine ai ?_;generalize aS:J.next=q;refine W.cy (c:=[ah a,ah c]) H aS I I I I I λτ hn H bB=>?_;refine ai ?_;refine W.cC (c:=[.i .u8 0,.s [],.ae,.ae,.ae,.ae]) H hn I I I λbh gX H bp=>?_;have cL:∀i o,J.get i=some o->bh.get i=some o:=λi o h=>bp _ _ (bB _ _ h);have au:=(h2.aO (τ:=bh) λi o _=>cL i o).vw;have pT:=(bJ.aO (τ:=bh) λi o _=>cL i o).vw;have aV:=(aQ (c-1) (by omega) (by omega)).aO (τ:=bh) λi o _=>cL i o;have hs:=(aQ (k-1) (by omega) (by omega)).aO (τ:=bh) λi o _=>cL i o;have cP:=(ej (c-1) (by omega) (by omega)).aO (τ:=bh) λi o _=>cL i o;have kN:B.getD (c-1) []=B[c-1]:=by rw[List.getD_eq_getElem?_getD,List.getElem?_eq_getElem (by omega)];rfl
 have KP:B.getD (k-1) []=B[k-1]:=by rw[List.getD_eq_getElem?_getD,List.getElem?_eq_getElem (by omega)];rfl
 have tc:N.getD (c-1) []=N[c-1]:=by rw[List.getD_eq_getElem?_getD,List.getElem?_eq_getElem (by omega)];rfl
 have hIn:=aV.jN;have Ux:=hs.jN;have kz:=dq.blt _ (List.getElem_mem (show c-1<B.length by omega));have QR:=dq.blt _ (List.getElem_mem (show k-1<B.length by omega));unfold pY;rw[kN,KP,tc];refine ai ?_;by_cases aN:a=c
 ·subst aN;rw[decide_eq_true I,Bool.true_and];by_cases a4:(B[a-1]).length<=(B[k-1]).length
  ·rw[decide_eq_true a4,Bool.true_and];refine ai ?_;refine W.Fe hs a4 I I I I λw hw=>?_;refine ai ?_;refine W.an (hf.q.one I) I I I (Uv hf.equal hIn hw (by omega)) λr τ ⟨e,cQ⟩=>⟨_,e,?_⟩
   subst cQ;by_cases cQ:B[a-1]=(B[k-1]).take (B[a-1]).length
   ·rw[decide_eq_true cQ];have Ba:=o0 _ (List.getElem_mem (show a-1<L.length by omega));have Bb:=Fx (L:=L) (n:=a) ha (by omega);have U2:=de _ (List.getElem_mem (show a-1<N.length by omega));refine ai ?_;refine W.fJ H I I I (.tail _ (.tail _ (.head _))) I (Snp.eqb _ _ ju) ?_;refine ai ?_;refine W.pN (v:=.ag (bD (L[a-1]).f)) I I I (λs=>mi _ _ I I) (Snp.eqb _ _ λJ=>by have:=Fm.snap J true _ (L[a-1]).f (b.bn+1000) (Nat.le_refl _) (by omega);rwa[iW] at this) ?_;refine ai ?_;refine W.an (hf.q.one I) I I I (K2 hf (eG.aO cL) (by omega) cP U2.1 U2.2) λr cq ⟨h9,e,jE,eH⟩=>⟨_,e,?_⟩
    have H:=H.aO eH.2;refine ai ?_;refine W.iu I I (nQ I I I (U1 jE.al I I I)) ?_;refine ai ?_;refine W.st H 0 I I I I I I λbU eT H bc=>?_;refine ai ?_;refine aj.ret ⟨rfl,_,iZ (fX I (H.get _ (.head _)) I) I,_,rfl,?_,?_,λi o h=>bc _ _ (by have:=ad.bt h;omega) (eH.2 _ _ (cL _ _ h))⟩
    ·have c0Z:=eH.1;have Lc:=jE.al.aO (τ:=bU) λi o hi=>bc i o (by have:=jE.cF i hi;omega);have:=jE.hq;rw[cond_true];refine⟨.ae,h9,by rw[Bb];rfl,.nil,λ_=>rfl,?_,λe=>this ?_,λo ho=>?_⟩
     ·rw[List.map_map];exact Lc
     ·simpa using e
     ·rcases ho with ho|ho
      ·cases ho
      ·have:=jE.cF o ho;omega
    ·have:=eH.1;omega
   ·rw[decide_eq_false cQ];refine ai ?_;refine W.st H 0 I I I I I I λbU eT H bc=>?_;refine ai ?_;exact aj.ret ⟨rfl,_,iZ (fX I (H.get _ (.head _)) I) I,_,rfl,iN.v,by omega,λi o h=>bc _ _ (by have:=ad.bt h;omega) (cL _ _ h)⟩
  ·rw[decide_eq_false a4,Bool.false_and];refine ai ?_;refine W.st H 0 I I I I I I λbU eT H bc=>?_;refine ai ?_;exact aj.ret ⟨rfl,_,iZ (fX I (H.get _ (.head _)) I) I,_,rfl,iN.v,by omega,λi o h=>bc _ _ (by have:=ad.bt h;omega) (cL _ _ h)⟩
 ·rw[decide_eq_false aN,Bool.false_and];refine ai ?_;refine W.st H 0 I I I I I I λbU eT H bc=>?_;refine ai ?_;exact aj.ret ⟨rfl,_,iZ (fX I (H.get _ (.head _)) I) I,_,rfl,iN.v,by omega,λi o h=>bc _ _ (by have:=ad.bt h;omega) (cL _ _ h)⟩
end
theorem U3{L:List bX}{first d:Nat}:∀ {m w4 n:Nat},n∈asmF L first d m w4->w4<=n/\n-1<L.length
 |0,_,_,h=>by simp[asmF] at h
 |m+1,w4,n,h=>by
  rw[vW] at h;split at h
  ·rename_i x hx;split at h
   ·rcases List.mem_cons.1 h with rfl|h
    ·exact⟨Nat.le_refl _,(List.getElem?_eq_some_iff.1 hx).1⟩
    ·have:=U3 h;omega
   ·simp at h
  ·simp at h
section
variable {b:b8}{K:Nat->List AV->AV->Prop}
theorem b2b(hf:lg b K)(hh:bk (b.aM K) tK Kp){p ec dp:Nat}{L:List bX}{B N:List (List Nat)}{J:ad}(eG:ld J p L B N)(dq:sx L B)(jB:J.get ec=some (.cells [aK p]))(k a c:Nat)(j0:J.get dp=some (.cells [ah k]))(ha:1<=a)(fP:a<=c)(kB:c<k)(az:k<=L.length)(UC:N.length=L.length)(de:∀l∈N,l.length<2^20/\∀n∈l,1<=n/\n<=L.length)(ju:∀J,bG J (b.bn+1000) (cD L)=some (cD L))(o0:∀x∈L,x.f.dep<=200)(dK:∀x∈L,x.op<2^20)(hlt:L.length<2^16):
  bu (b.aM K) 0 (.f (.func tK) [] [aK ec,aK dp]) [.ag [ah a,ah c]] J (λr τ=>∃g,r= .ok (.a6 [g,.b (kM L B k a c)])/\oZ (λo=>J.next<=o) τ g (cond (kM L B k a c) ⟨fw L c,(iX L a (iL L k+1)).map (fw L),(lL L N k a c).map (fw L)⟩ iN)/\dC J τ):=by
 refine W.mv hh.e hh.p hh.f I I I λz=>?_;obtain⟨cH,ey,bI,ee,h1,h2,h3,aQ,bJ,cu,ej⟩:=eG.ex;have a5:∀ {i j:Nat} {c d:List AV},J.get i=some (.cells c)->J.get j=some (.cells d)->c≠d->j≠i:=λh h' vd e=>vd (by subst e;rw[h] at h';cases h';rfl);have H:Has J [(p,[cD L,cH,ey]),(ec,[aK p]),(dp,[ah k])]:=((Has.nil.cons j0 (by simp)).cons jB λx hx=>by rw[List.mem_singleton.1 hx];exact a5 jB j0 (by simp)).cons h1 λx hx=>by
  rcases List.mem_cons.1 hx with rfl|hx
  ·exact a5 h1 jB (by simp)
  ·rw[List.mem_singleton.1 hx];exact a5 h1 j0 (by simp)
 have hl:=dq.lt;have hd:=dq.len;have qD:=dq.bY _ (List.getElem_mem (show k-1<L.length by omega));have b2c:=AZ (L:=L) (k:=k) (by omega) az;refine ai ?_;generalize aS:J.next=q;refine W.cy (c:=[ah a,ah c]) H aS I I I I I λτ hn H bB=>?_;refine ai ?_;refine W.cC (c:=[.i .u8 0,.s [],.ae,.ae,.ae,.ae]) H hn I I I λbh gX H bp=>?_;have cL:∀i o,J.get i=some o->bh.get i=some o:=λi o h=>bp _ _ (bB _ _ h);refine ai ?_;refine W.an trivial I I I (Uw hf (eG.aO cL) dq k a c ha fP kB az) λr bU ⟨e,et⟩=>⟨_,e,?_⟩
 have H:=H.aO et.2;have qM:=et.1;have FE:∀i o,J.get i=some o->bU.get i=some o:=λi o h=>et.2 _ _ (cL _ _ h);cases Fv:kM L B k a c with
 |false=>
  refine ai ?_;refine W.st H 0 I I I I I I λcq fl H b5=>?_;refine ai ?_;exact aj.ret ⟨rfl,_,iZ (fX I (H.get _ (.head _)) I) I,_,rfl,iN.v,by omega,λi o h=>b5 _ _ (by have:=ad.bt h;omega) (FE _ _ h)⟩
 |true=>
  have Ba:=o0 _ (List.getElem_mem (show c-1<L.length by omega));have Bb:=Fx (L:=L) (n:=c) (by omega) (by omega);have U4:=de _ (List.getElem_mem (show c-1<N.length by omega));have tc:N.getD (c-1) []=N[c-1]:=by rw[List.getD_eq_getElem?_getD,List.getElem?_eq_getElem (by omega)];rfl
  have b2d:∀n∈lL L N k a c,n∈N[c-1]:=λn hn=>by unfold lL at hn;rw[tc] at hn;exact(List.mem_filter.1 hn).1
  have CY:(lL L N k a c).length<2^20:=by
   unfold lL;rw[tc];have:=List.length_filter_le (λn=>!decide (n∈iX L a (iL L k+1))) N[c-1];have:=U4.1;omega
  refine ai ?_;refine W.fJ H I I I (.tail _ (.tail _ (.head _))) I (Snp.eqb _ _ ju) ?_;refine ai ?_;refine W.pN (v:=.ag (bD (L[c-1]).f)) I I I (λs=>mi _ _ I I) (Snp.eqb _ _ λJ=>by have:=Fm.snap J true _ (L[c-1]).f (b.bn+1000) (Nat.le_refl _) (by omega);rwa[iW] at this) ?_;refine ai ?_;generalize b2e:bU.next=o1 at *;refine W.cC (c:=[.i .u8 0,.s [],.ae,.ae,.ae,.ae]) H b2e I I I λcq fl H b5=>?_;refine ai ?_;refine W.an (hf.q.one I) I I I (UA hf (eG.aO λi o h=>b5 _ _ (FE i o h)) dq dK (λl hl=>(de l hl).1) k a c ha fP kB az (by omega)) λr dD ⟨w,e,hw,jv⟩=>⟨_,e,?_⟩
  have H:=H.aO jv.2;have FF:=jv.1;refine ai ?_;refine W.an (hf.q.one I) I I I (K2 hf (eG.aO λi o h=>jv.2 _ _ (b5 _ _ (FE i o h))) (by omega) hw.al CY λn hn=>U4.2 n (b2d n hn)) λr eb ⟨h9,e,jE,Bc⟩=>⟨_,e,?_⟩
  have H:=H.aO Bc.2;have c1a:=Bc.1;refine ai ?_;refine W.iu I I (nQ I I I (U1 jE.al I I I)) ?_;refine ai ?_;refine W.st H 0 I I I I I I λeM kj H fK=>?_;have Ld:∀i o,J.get i=some o->eM.get i=some o:=λi o h=>fK _ _ (by have:=ad.bt h;omega) (Bc.2 _ _ (jv.2 _ _ (b5 _ _ (FE i o h))));have Le:=jE.al.aO (τ:=eM) λi o hi=>fK i o (by have:=jE.cF i hi;omega);refine ai ?_;refine W.an (hf.q.one I) I I I (Uy hf (eG.aO Ld) (by omega) dK a (L[k-1].bY+1) ha (by omega)) λr e9 ⟨xp,e,Lc,hO⟩=>⟨_,e,?_⟩
  have H:=H.aO hO.2;have FG:=hO.1;refine ai ?_;have kg:(iX L a (L[k-1].bY+1)).length<2^17:=by have:=KS L a (L[k-1].bY+1) (L.length+1-a) a;unfold iX;omega
  have u7:∀n∈iX L a (L[k-1].bY+1),1<=n/\n<=L.length:=λn hn=>by have:=U3 hn;omega
  rw[b2c];generalize iX L a (L[k-1].bY+1)=l at *;refine W.an (hf.q.one I) I I I (K2 hf (eG.aO λi o h=>hO.2 _ _ (Ld i o h)) (by omega) Lc.al (by omega) u7) λr i_ ⟨U5,e,Bd,FH⟩=>⟨_,e,?_⟩
  have H:=H.aO FH.2;have c1b:=FH.1;have vY:=Bd.al.vw;have Be:(l.map λn=>AV.ag (bD (fw L n))).length=l.length:=List.length_map _;refine ai ?_;rw[Be];refine ai ?_;refine aj.each l.length (λj f aH=>∃au,aH.get o1=some (.cells (bD (L[c-1].f)++[au,h9]))/\Sl aH (some 5) au ((l.take j).map λn=>pX (fw L n))/\(l.take j=[]->au= .ae)/\(∀i,au.at? =some i->i_.next<=i)/\i_.next<=aH.next/\(∀i o,i≠o1->i_.get i=some o->aH.get i=some o)/\sat [(4,aK (q+1)),(6,aK o1),(47,U5)] f) (by omega) ⟨.ae,H.get _ (.head _),.nil,λ_=>rfl,(λ_ h=>by cases h),Nat.le_refl _,λ_ _ _ h=>h,rfl,rfl,rfl,trivial⟩ I I (λj g aH aA aV hi hm=>?_) (λg aH aV hi=>?_)
  ·obtain⟨au,hg,ao,pZ,n9,nG,m5,cI,gZ,Bf,_⟩:=aV;refine aj.norm [(4,aK (q+1)),(6,aK o1),(47,U5),(49,ah j),(48,ah l.length)] ⟨cI,gZ,Bf,hi,hm,trivial⟩ λg=>?_;have H:Has aH [(o1,bD (L[c-1].f)++[au,h9])]:=Has.nil.cons hg (by simp);have vY:=(Bd.al.aO (τ:=aH) λi o hi=>m5 i o (by have:=Bd.cF i hi;omega)).vw;refine ai ?_;rw[List.getElem_map];refine W.ko (c:=bD (fw L l[j])) H I I I I I I I λgg o2 H ck=>?_;have lk:=ao.aO (τ:=gg) λi o _=>ck i o;refine ai ?_;refine W.pu (c:=.b true::bD (fw L l[j])) (pX (fw L l[j])) lk I I I I I I I I I (by rw[List.length_map,List.length_take];omega) λbA hP Lf D8 _ nr hQ=>?_;have H:Has hP [(o1,bD (L[c-1].f)++[au,h9])]:=Has.nil.cons (hQ _ _ (λe=>by have:=n9 _ e;omega) (H.get _ (.tail _ (.head _)))) (by simp);refine ai ?_;refine W.st (bM:=bD (L[c-1].f)++[bA,h9]) H 0 I I I I Lf.j7 (by rw[Lf.kL];rfl) λj9 qB H l6=>?_;refine ai ?_;refine⟨rfl,rfl,bA,H.get _ (.head _),?_,λe=>?_,(λi hi=>by rw[D8] at hi;cases hi;omega),by omega,λi o hi ho=>l6 _ _ hi (hQ _ _ (λe=>by have:=n9 _ e;have:=ad.bt ho;omega) (ck _ _ (m5 _ _ hi ho))),rfl,rfl,rfl,trivial⟩
   ·rw[List.take_succ_eq_append_getElem aA,List.map_append];exact Lf.aO λi o hi=>l6 i o (λe=>by rw[D8] at hi;cases hi;omega)
   ·have:=congrArg List.length e;rw[List.length_take,List.length_nil] at this;omega
  ·obtain⟨au,hg,ao,pZ,n9,nG,m5,cI,gZ,_⟩:=aV;show bO _ _ _ _ _ _ _ _;refine aj.norm [(4,aK (q+1)),(6,aK o1)] ⟨cI,gZ,trivial⟩ λg=>?_;rw[List.take_length] at ao pZ;have b2f:aH.get (q+1)=some (.cells [.i .u8 0,.s [],.ae,.ae,.ae,.ae]):=m5 _ _ (by omega) (H.get _ (.tail _ (.head _)));have H:Has aH [(q+1,[.i .u8 0,.s [],.ae,.ae,.ae,.ae]),(o1,bD (L[c-1].f)++[au,h9])]:=(Has.nil.cons hg (by simp)).cons b2f (by simp;omega);refine ai ?_;refine W.st (bM:=bD (L[c-1].f)++[au,h9]) H 0 I I I I I I λp2 du H eI=>?_;refine ai ?_;have hE:Sl p2 (some 5) au ((l.map (fw L)).map pX):=by
    rw[List.map_map];exact ao.aO λi o hi=>eI i o (by have:=n9 i hi;omega)
   have ky:l.map (fw L)=[]->au= .ae:=λe=>pZ (by simpa using e);have mH:Sl p2 (some 4) h9 (((lL L N k a c).map (fw L)).map λF=>.ag (bD F)):=by
    rw[List.map_map];exact Le.aO λi o hi ho=>eI _ _ (by have:=jE.cF i hi;omega) (m5 _ _ (by have:=jE.cF i hi;omega) (FH.2 _ _ (hO.2 _ _ ho)))
   have rO:(lL L N k a c).map (fw L)=[]->h9= .ae:=λe=>jE.hq (by simpa using e);have zo:∀o,au.at? =some o\/h9.at? =some o->q<=o:=λo ho=>by
    rcases ho with ho|ho
    ·have:=n9 o ho;omega
    ·have:=jE.cF o ho;omega
   refine aj.ret ⟨rfl,_,iZ (fX I (H.get _ (.head _)) I) I,_,rfl,by rw[cond_true];exact⟨au,h9,by rw[Bb];rfl,hE,ky,mH,rO,zo⟩,by omega,λi o h=>eI _ _ (by have:=ad.bt h;omega) (m5 _ _ (by have:=ad.bt h;omega) (FH.2 _ _ (hO.2 _ _ (Ld _ _ h))))⟩
end
structure eN where
 hyps:List Fm
 f:Fm
 fresh:List Nat
 closed:Bool
abbrev eN.cells(p:eN):List AV:=[slA true (some 4) (p.hyps.map λF=>.ag (bD F)),.i .u8 (Int.ofNat p.f.op),.s p.f.name,ix true p.f.fW,hr true p.f.fF,.s p.fresh,.b p.closed]
abbrev eN.A(p:eN):AV:=.ag p.cells
def eN.cy(p:eN):Bool:=!p.hyps.isEmpty||(!p.fresh.isEmpty||p.closed)
def kq(L:List bX)(B N:List (List Nat))(k:Nat)(p:eN)(ac:Nat×Nat):dF:=cond p.cy (cond (kM L B k ac.1 ac.2) ⟨fw L ac.2,(iX L ac.1 (iL L k+1)).map (fw L),(lL L N k ac.1 ac.2).map (fw L)⟩ iN) (cond (pY B k ac.1 ac.2) ⟨fw L ac.2,[],(N.getD (ac.2-1) []).map (fw L)⟩ iN)
def ia(L:List bX)(B:List (List Nat))(k:Nat)(p:eN)(ac:Nat×Nat):Bool:=cond p.cy (kM L B k ac.1 ac.2) (pY B k ac.1 ac.2)
def citeB(L:List bX)(B:List (List Nat))(k:Nat):List eN->List (Nat×Nat)->Bool
 |[],[]=>true
 |p::aC,c::cs=>ia L B k p c&&citeB L B k aC cs
 |_,_=>false
def gotsL(L:List bX)(B N:List (List Nat))(k:Nat):List eN->List (Nat×Nat)->List dF
 |p::aC,c::cs=>kq L B N k p c::gotsL L B N k aC cs
 |_,_=>[]
theorem U6{L:List bX}{B N:List (List Nat)}{k:Nat}:∀ {aC:List eN} {cs:List (Nat×Nat)},cs.length=aC.length->(gotsL L B N k aC cs).length=aC.length
 |[],_,_=>rfl
 |_::_,[],h=>by simp at h
 |p::aC,c::cs,h=>by
  show(gotsL L B N k aC cs).length+1=aC.length+1;rw[U6 (by simpa using h)]
theorem U7{L:List bX}{B N:List (List Nat)}{k:Nat}:∀ {aC:List eN} {cs:List (Nat×Nat)} {j:Nat} (h1:j<aC.length) (h2:j<cs.length) (h3:j<(gotsL L B N k aC cs).length),(gotsL L B N k aC cs)[j]=kq L B N k aC[j] cs[j]
 |_::_,_::_,0,_,_,_=>rfl
 |p::aC,c::cs,j+1,h1,h2,h3=>U7 (aC:=aC) (cs:=cs) (j:=j) (by simpa using h1) (by simpa using h2) (by simpa [gotsL] using h3)
theorem U8{L:List bX}{B:List (List Nat)}{k:Nat}:∀ {aC:List eN} {cs:List (Nat×Nat)},cs.length=aC.length->(∀j (h1:j<aC.length) (h2:j<cs.length),ia L B k aC[j] cs[j]=true)->citeB L B k aC cs=true
 |[],[],_,_=>rfl
 |[],_::_,h,_=>by simp at h
 |_::_,[],h,_=>by simp at h
 |p::aC,c::cs,h,hh=>by
  have h0:ia L B k p c=true:=hh 0 (by simp) (by simp);rw[citeB,h0,Bool.true_and];exact U8 (by simpa using h) λj h1 h2=>hh (j+1) (by simpa using h1) (by simpa using h2)
theorem Lg{L:List bX}{B:List (List Nat)}{k:Nat}:∀ {aC:List eN} {cs:List (Nat×Nat)} {j:Nat} (h1:j<aC.length) (h2:j<cs.length),ia L B k aC[j] cs[j]=false->citeB L B k aC cs=false
 |p::aC,c::cs,0,_,_,h=>by
  have h:ia L B k p c=false:=h;rw[citeB,h,Bool.false_and]
 |p::aC,c::cs,j+1,h1,h2,h=>by
  rw[citeB,Lg (aC:=aC) (cs:=cs) (j:=j) (by simpa using h1) (by simpa using h2) h,Bool.and_false]
theorem FI{L:List bX}{B:List (List Nat)}{k:Nat}:∀ {aC:List eN} {cs:List (Nat×Nat)},citeB L B k aC cs=true->cs.length=aC.length
 |[],[],_=>rfl
 |[],_::_,h=>by cases h
 |_::_,[],h=>by cases h
 |p::aC,c::cs,h=>by
  rw[citeB,Bool.and_eq_true] at h;have:=FI h.2;simp[this]
section
variable {b:b8}{K:Nat->List AV->AV->Prop}
theorem b2g(hh:bk (b.aM K) EX Kn){p k:Nat}{J:ad}{q:Nat}(aS:J.next=q):
  bu (b.aM K) 0 (.f (.func EX) [] []) [aK p,ah k] J (λr τ=>r= .ok (.ag [.f (.func tJ) [] [aK q,aK (q+1)],.f (.func tK) [] [aK q,aK (q+1)]])/\τ.get q=some (.cells [aK p])/\τ.get (q+1)=some (.cells [ah k])/\τ.next=q+3/\dC J τ):=by
 refine W.mv hh.e hh.p hh.f I I I λz=>?_;have H:Has J []:=Has.nil;refine ai ?_;refine W.cy (c:=[aK p]) H aS I I I I I λτ hn H bB=>?_;refine ai ?_;refine W.cy (c:=[ah k]) H hn I I I I I λbh gX H bp=>?_;refine ai ?_;refine W.cC (c:=[.dA,.dA]) H gX I I I λbU np H bc=>?_;refine ai ?_;refine W.st H 0 I I I I I I λcq fl H b5=>?_;refine ai ?_;exact aj.ret ⟨rfl,_,sA (fX I (H.get _ (.head _)) I),rfl,H.get _ (.tail _ (.tail _ (.head _))),H.get _ (.tail _ (.head _)),by omega,by omega,λi o h=>b5 _ _ (by have:=ad.bt h;omega) (bc _ _ (bp _ _ (bB _ _ h)))⟩
theorem b2h(hh:bk (b.aM K) ER Kk)(p:eN){J:ad}:
  bu (b.aM K) 0 (.f (.func ER) [] []) [p.A] J (λr τ=>r= .ok (.b p.cy)/\dC J τ):=by
 refine W.code hh.e hh.p hh.f I I I I λz=>?_;have H:Has J []:=Has.nil;refine ai ?_;refine W.cy (c:=p.cells) H I I I I I I λτ hn H bB=>?_;obtain⟨hy,f,ab,an⟩:=p;unfold eN.cy;cases hy with
 |cons F l=>
  refine ai ?_;exact aj.ret ⟨rfl,rfl,by omega,bB⟩
 |nil=>
  refine ai ?_;cases ab with
  |cons c l=>
   refine ai ?_;refine W.bin (v:=.b true) I I I I I ?_;refine ai ?_;exact aj.ret ⟨rfl,rfl,by omega,bB⟩
  |nil=>
   refine ai ?_;refine W.bin (v:=.b false) I I I I I ?_;refine ai ?_;exact aj.ret ⟨rfl,rfl,by omega,bB⟩
end
section
variable {b:b8}{K:Nat->List AV->AV->Prop}
structure Bg(b:b8)(K:Nat->List AV->AV->Prop):Prop where
 b2i:bk (b.aM K) EX Kn
 o3:bk (b.aM K) tJ Ko
 pr2:bk (b.aM K) tK Kp
 b2j:bk (b.aM K) ER Kk
 Lh:bk (b.aM K) Kq Un
structure FJ(b:b8)(L:List bX)(B N:List (List Nat)):Prop where
 pW:sx L B
 nl:N.length=L.length
 hq:∀l∈N,l.length<2^20/\∀n∈l,1<=n/\n<=L.length
 jO:∀J,bG J (b.bn+1000) (cD L)=some (cD L)
 bY:∀x∈L,x.f.dep<=200
 op:∀x∈L,x.op<2^20
 lt:L.length<2^16
theorem U9{P:Nat->Prop}{J:ad}{v:AV}{g:dF}(h:oZ P J v g):∃au oy,v= .ag (bD g.eZ++[au,oy]):=by
 obtain⟨au,oy,e,_⟩:=h.ex;exact⟨au,oy,e⟩
def U_(q:Nat)(cy:Bool):AV:=.f (.func (cond cy tK tJ)) [] [aK q,aK (q+1)]
theorem b2k(hf:lg b K)(ar:Bg b K){p q k:Nat}{L:List bX}{B N:List (List Nat)}{J:ad}(eG:ld J p L B N)(cb:FJ b L B N)(az:k<=L.length)(bN:J.get q=some (.cells [aK p]))(bQ:J.get (q+1)=some (.cells [ah k]))(pm:eN)(ac:Nat×Nat)(h:1<=ac.1/\ac.1<=ac.2/\ac.2<k):
  bu (b.aM K) 0 (U_ q pm.cy) [.ag [ah ac.1,ah ac.2]] J (λr τ=>∃g,r= .ok (.a6 [g,.b (ia L B k pm ac)])/\oZ (λo=>J.next<=o) τ g (kq L B N k pm ac)/\dC J τ):=by
 unfold ia kq;cases pm.cy with
 |false=>exact b2a hf ar.o3 eG cb.pW bN k ac.1 ac.2 bQ h.1 h.2.1 h.2.2 az cb.nl cb.hq cb.jO cb.bY
 |true=>exact b2b hf ar.pr2 eG cb.pW bN k ac.1 ac.2 bQ h.1 h.2.1 h.2.2 az cb.nl cb.hq cb.jO cb.bY cb.op cb.lt
theorem Va(hf:lg b K)(ar:Bg b K){p k:Nat}{L:List bX}{B N:List (List Nat)}{J:ad}(eG:ld J p L B N)(cb:FJ b L B N)(Ft:1<=k)(az:k<=L.length){aC:List eN}{V:AV}(hV:∀τ,(∀i o,J.get i=some o->τ.get i=some o)->g8 τ (some 7) V (aC.map eN.A))(jI:aC.length<2^20){x:bX}(hx:L[k-1]? =some x)(aa:tU k x.cs):
  bu (b.aM K) 0 (.f (.func Kq) [] []) [aK p,ah k,V] J (λr τ=>∃v,r= .ok (.a6 [v,.b (citeB L B k aC x.cs)])/\(citeB L B k aC x.cs=true->∃fx,Sl τ (some 6) v fx/\(fx=[]->v= .ae)/\fx.length=aC.length/\∀i (h:i<fx.length) (h':i<aC.length) (tZ:i<x.cs.length),oZ (λ_=>True) τ fx[i] (kq L B N k aC[i] x.cs[i]))/\dC J τ):=by
 refine W.mv ar.Lh.e ar.Lh.p ar.Lh.f I I I λz=>?_;obtain⟨cH,ey,bI,ee,h1,_⟩:=eG.ex;have H:Has J [(p,[cD L,cH,ey])]:=Has.nil.cons h1 (by simp);have hl:=cb.lt;have FK:L[k-1]'(by omega)=x:=(List.getElem?_eq_some_iff.1 hx).2;have au:=hV J λ_ _ h=>h;have Li:(aC.map eN.A).length=aC.length:=List.length_map _;have fH:=aa.1;refine ai ?_;rw[FK];refine ai ?_;rw[Li];by_cases hlen:x.cs.length=aC.length
 ·refine ai ?_;generalize aS:J.next=q;refine W.an trivial I I I (b2g ar.b2i aS) λr τ ⟨e,bN,bQ,c1,yo⟩=>⟨_,e,?_⟩
  have H:=H.aO yo.2;refine ai ?_;refine W.ko (c:=[.f (.func tJ) [] [aK q,aK (q+1)],.f (.func tK) [] [aK q,aK (q+1)]]) H c1 I I I I I I λbh ea H bp=>?_;have au:=hV bh λ_ _ h=>bp _ _ (yo.2 _ _ h);refine ai ?_;rw[Li];refine ai ?_;show bO _ _ _ _ _ _ _ _;refine aj.each aC.length (λj f aH=>∃v fx,Sl aH (some 6) v fx/\(fx=[]->v= .ae)/\fx.length=j/\(∀i (h:i<fx.length) (h':i<aC.length) (tZ:i<x.cs.length),oZ (λo=>v.at? ≠some o) aH fx[i] (kq L B N k aC[i] x.cs[i]))/\(∀i (h':i<aC.length) (tZ:i<x.cs.length),i<j->ia L B k aC[i] x.cs[i]=true)/\(∀o,v.at? =some o->bh.next<=o)/\bh.next<=aH.next/\(∀i o,bh.get i=some o->aH.get i=some o)/\sat [(8,lK true x.cs),(9,aK (q+3)),(10,v),(33,V)] f) (by omega) ⟨.ae,[],.nil,λ_=>rfl,rfl,(λi h=>by simp at h),(λi _ _ h=>by omega),(λ_ h=>by cases h),Nat.le_refl _,λ_ _ h=>h,rfl,rfl,rfl,rfl,trivial⟩ I I (λj g aH aA aV hi hm=>?_) (λg aH aV hi=>?_)
  ·obtain⟨v,fx,ao,pZ,j5,rS,vl,n9,nG,m5,fI,m6,rf,Fq,_⟩:=aV;refine aj.norm [(8,lK true x.cs),(9,aK (q+3)),(10,v),(33,V),(35,ah j),(34,ah aC.length)] ⟨fI,m6,rf,Fq,hi,hm,trivial⟩ λg=>?_;have H:Has aH [(q+3,[.f (.func tJ) [] [aK q,aK (q+1)],.f (.func tK) [] [aK q,aK (q+1)]])]:=Has.nil.cons (m5 _ _ (H.get _ (.head _))) (by simp);have cL:∀i o,J.get i=some o->aH.get i=some o:=λi o h=>m5 _ _ (bp _ _ (yo.2 _ _ h));have au:=hV aH cL;refine ai ?_;rw[List.getElem_map];refine W.cC H I I I I λgg o2 H ck=>?_;refine ai ?_;refine W.st (bM:=(aC[j]).cells) H 0 I I I I I I λhP nr H hQ=>?_;refine W.nil ?_;refine W.sq ?_;refine W.rg ?_;refine eY ?_;refine W.nil ?_;have o4:∀i o,aH.get i=some o->hP.get i=some o:=λi o h=>hQ _ _ (by have:=ad.bt h;omega) (ck _ _ h);refine W.sq ?_;refine W.Fs (α:=Unit) (λ_=>[(8,lK true x.cs),(9,aK (q+3)),(10,v),(11,ah j),(13,U_ q (aC[j]).cy),(33,V),(35,ah j),(34,ah aC.length)]) (λ_ j9=>dC hP j9) ?_ ?_
   ·refine ai ?_;refine W.an trivial I I I (b2h ar.b2j aC[j]) λr j9 ⟨e,et⟩=>⟨_,e,?_⟩
    have H:=H.aO et.2;cases(aC[j]).cy with
    |false=>
     refine ai ?_;exact⟨rfl,(),et,rfl,rfl,rfl,rfl,rfl,rfl,rfl,rfl,trivial⟩
    |true=>
     refine ai ?_;exact⟨rfl,(),et,rfl,rfl,rfl,rfl,rfl,rfl,rfl,rfl,trivial⟩
   ·intro _ g j9 et;have l6:∀i o,aH.get i=some o->j9.get i=some o:=λi o h=>et.2 _ _ (o4 _ _ h);have H:=H.aO et.2;have Bh:j<x.cs.length:=by omega
    refine ai ?_;refine W.lh I I I (b2k hf ar (eG.aO λi o h=>l6 _ _ (cL _ _ h)) cb az (l6 _ _ (m5 _ _ (bp _ _ bN))) (l6 _ _ (m5 _ _ (bp _ _ bQ))) aC[j] x.cs[j] (aa.2 _ (List.getElem_mem Bh))) λr p2 ⟨gt,e,mS,eH⟩=>⟨_,e,?_⟩
    have H:=H.aO eH.2;obtain⟨l1,FL,Lj⟩:=U9 mS;subst Lj;refine ai ?_;have eI:∀i o,aH.get i=some o->p2.get i=some o:=λi o h=>eH.2 _ _ (l6 _ _ h);have du:aH.next<=p2.next:=by have:=et.1;have:=eH.1;omega
    refine W.cC H I I I I λp3 ne H yp=>?_;refine W.st (bM:=bD (kq L B N k aC[j] x.cs[j]).eZ++[l1,FL]) H 0 I I I I I I λBi dA H t_=>?_;have Bj:∀i o,p2.get i=some o->Bi.get i=some o:=λi o h=>t_ _ _ (by have:=ad.bt h;omega) (yp _ _ h);refine ai ?_;cases Lk:ia L B k aC[j] x.cs[j] with
    |false=>
     refine ai ?_;refine aj.ret ⟨rfl,_,iZ (j8 I) (j8 I),_,by rw[Lg aA Bh Lk];rfl,λh=>(by rw[Lg aA Bh Lk] at h;cases h),?_,λi o h=>Bj _ _ (eI _ _ (cL _ _ h))⟩;have:=yo.1;omega
    |true=>
     refine ai ?_;have Ll:=ao.aO (τ:=Bi) λi o _ h=>Bj _ _ (eI _ _ h);refine W.pu (c:=bD (kq L B N k aC[j] x.cs[j]).eZ++[l1,FL]) (.ag (bD (kq L B N k aC[j] x.cs[j]).eZ++[l1,FL])) Ll I I I I I I I I I (by rw[j5];omega) λbA Lm b2l Ln _ Vb v9=>?_;refine ai ?_;have b2m:∀o,v.at? =some o->o<aH.next:=λo ho=>ao.lt ho;refine⟨rfl,rfl,bA,fx++[_],b2l,λe=>absurd e (by simp),by rw[List.length_append,j5];rfl,λi h h' tZ=>?_,λi h' tZ hi=>?_,(λo ho=>by rw[Ln] at ho;cases ho;omega),by omega,λi o ho=>v9 _ _ (λe=>by have:=n9 _ e;have:=ad.bt ho;omega) (Bj _ _ (eI _ _ (m5 _ _ ho))),rfl,rfl,rfl,rfl,trivial⟩
     ·by_cases gp:i<fx.length
      ·rw[List.getElem_append_left gp];exact(rS i gp h' tZ).aO (λi o hi ho=>v9 _ _ hi (Bj _ _ (eI _ _ ho))) λo hi hlt e=>by rw[Ln] at e;cases e;omega
      ·have e:i=fx.length:=by rw[List.length_append] at h;simp only[List.length_cons,List.length_nil] at h;omega
       subst e;rw[show(fx++[_])[fx.length]'h=_ from List.getElem_concat_length I _];subst j5;exact mS.aO (λi o hi ho=>v9 _ _ (λe=>by have:=b2m _ e;have:=et.1;omega) (Bj _ _ ho)) λo hi hlt e=>by rw[Ln] at e;cases e;omega
     ·by_cases gp:i<j
      ·exact vl i h' tZ gp
      ·obtain rfl:i=j:=by omega
       exact Lk
  ·obtain⟨v,fx,ao,pZ,j5,rS,vl,n9,nG,m5,fI,m6,rf,Fq,_⟩:=aV;show bO _ _ _ _ _ _ _ _;refine aj.norm [(10,v)] ⟨rf,trivial⟩ λg=>?_;refine ai ?_;have hall:=U8 hlen λj h1 h2=>vl j h1 h2 h1;refine aj.ret ⟨rfl,_,iZ (j8 I) (j8 I),_,by rw[hall];rfl,λ_=>⟨fx,ao,pZ,j5,λi h h' tZ=>(rS i h h' tZ).aO (λ_ _ _ h=>h) λ_ _ _=>trivial⟩,?_,λi o h=>m5 _ _ (bp _ _ (yo.2 _ _ h))⟩;have:=yo.1;omega
 ·refine ai ?_;have Bk:citeB L B k aC x.cs=false:=by
   cases Bk:citeB L B k aC x.cs with
   |true=>exact absurd (FI Bk) hlen
   |false=>rfl
  refine aj.ret ⟨rfl,_,iZ (j8 I) (j8 I),.ae,by rw[Bk];rfl,λh=>absurd (FI h) hlen,Nat.le_refl _,λ_ _ h=>h⟩
end
end Go.Lyc
end
noncomputable section
namespace Go.Lyc
set_option maxHeartbeats 0
variable [Tok][TokOk]
open Go.RowKit Go.Lyc.T
abbrev ua(J af:ad):Prop:=J.next<=af.next/\∀i o,J.get i=some o->af.get i=some o
theorem Acc.Vc{J:ad}{U:Option Nat}{v:AV}{xs l:List AV}(h:Acc J U v xs):dI none (v::l)=some v:=by cases h<;>rfl
theorem Acc.j7{J:ad}{U:Option Nat}{v:AV}{xs:List AV}(h:Acc J U v xs):Go.Lyc.conf none v=true:=by cases h<;>rfl
theorem Acc.inv{J:ad}{U:Option Nat}{v:AV}{xs:List AV}(h:Acc J U v xs)(hx:0<xs.length):∃o,v= .al o 0 xs.length U none/\J.get o=some (.cells (xs.flatMap AV.cells))/\∀y∈xs,Go.Lyc.conf U y=true:=by
 cases h with
 |nil=>cases hx
 |al o x xs h aa=>exact⟨o,rfl,h,aa⟩
theorem Acc.of{J:ad}{U:Option Nat}{o:Nat}{xs:List AV}(hx:0<xs.length)(h:J.get o=some (.cells (xs.flatMap AV.cells)))(aa:∀y∈xs,Go.Lyc.conf U y=true):Acc J U (.al o 0 xs.length U none) xs:=by
 cases xs with
 |nil=>cases hx
 |cons x xs=>exact .al o x xs h aa
theorem FM{U:Option Nat}{x:AV}(h:conf U x=true):x.cells.length=shN U:=by
 cases U with
 |none=>rw[DR h];rfl
 |some k=>obtain⟨l,rfl,hl⟩:=RX h;exact hl
theorem Lo{U:Option Nat}:∀ {xs:List AV} (j:Nat),(∀x∈xs,conf U x=true)->(xs.flatMap AV.cells).drop (j*shN U)=(xs.drop j).flatMap AV.cells
 |xs,0,_=>by rw[Nat.zero_mul];rfl
 |[],j+1,_=>by simp
 |x::xs,j+1,h=>by
  have e:(j+1)*shN U=x.cells.length+j*shN U:=by rw[FM (h x (by simp)),Nat.add_mul,Nat.one_mul,Nat.add_comm]
  rw[List.flatMap_cons,e,← List.drop_drop,List.drop_left,Lo j λy hy=>h y (List.mem_cons_of_mem _ hy)];rfl
theorem Lp{U:Option Nat}{xs:List AV}{j:Nat}(aA:j<xs.length)(h:∀x∈xs,conf U x=true):dI U ((xs.flatMap AV.cells).drop (0+j*shN U))=some xs[j]:=by
 rw[Nat.zero_add,Lo j h,List.drop_eq_getElem_cons aA,List.flatMap_cons];exact(Ao (h _ (List.getElem_mem aA))).1
theorem b2n{n:Nat}(h:n<256):wrapN .u8 (Int.ofNat n)=Int.ofNat n:=by
 have h:(n:Int)<256:=by omega
 simp[wrapN,IntKind.wrap,IntKind.bits,IntKind.signed];omega
abbrev eW:=List Nat×Nat
abbrev c5(s:eW):AV:=.ag [.s s.1,ah s.2]
theorem Vd:∀(a b:List Nat),eqL a b=decide (a=b)
 |[],[]=>rfl
 |[],_::_=>rfl
 |_::_,[]=>rfl
 |x::a,y::b=>by
  show cond (Nat.beq x y) (eqL a b) false=_;cases h:Nat.beq x y with
  |false=>
   have:x≠y:=λe=>by rw[e,Nat.beq_refl] at h;cases h
   rw[decide_eq_false (λe=>this (by injection e))];rfl
  |true=>
   rw[Nat.eq_of_beq_eq_true h,cond_true,Vd a b];simp
theorem b2o(a b:eW):keyEq (.inr [1,0]) (c5 a) (c5 b)=some (decide (a=b)):=by
 show(match leafEq 1 (.s a.1) (.s b.1),kR [0] [ah a.2] [ah b.2] with|some a,some b=>some (a&&b)|_,_=>none)=_;have e:kR [0] [ah a.2] [ah b.2]=some (decide (a.2=b.2)):=by
  show(match leafEq 0 (ah a.2) (ah b.2),kR [] [] [] with|some a,some b=>some (a&&b)|_,_=>none)=_;show(match(if(IntKind.i64= .i64) then some (decide (Int.ofNat a.2=Int.ofNat b.2)) else none),some true with|some a,some b=>some (a&&b)|_,_=>none)=_;rw[if_pos I];simp only[Int.ofNat_eq_natCast,Int.natCast_inj,Bool.and_true]
 rw[e];show some (eqL a.1 b.1&&decide (a.2=b.2))=_;rw[Vd];obtain⟨a3,bm⟩:=a;obtain⟨ec,dp⟩:=b;by_cases h1:a3=ec<;>by_cases h2:bm=dp<;>simp[h1,h2]
section
variable {α:Type}[DecidableEq α]{ck:α->AV}{U:jh}
def setE(ck:α->AV):Nat->List α->List (AV×AV×Nat)
 |_,[]=>[]
 |i,k::bo=>(ck k,.b true,i)::setE ck (i+1) bo
def yq(k:α)(l:List α):List α:=if k∈l then l else l++[k]
theorem Ve:∀(l:List α) (i:Nat) (k:α),setE ck i (l++[k])=setE ck i l++[(ck k,.b true,i+l.length)]
 |[],i,k=>rfl
 |x::l,i,k=>by
  show _::setE ck (i+1) (l++[k])=_;rw[Ve l (i+1) k];show _=(ck x,AV.b true,i)::(setE ck (i+1) l++[(ck k,.b true,i+(l.length+1))]);rw[show i+1+l.length=i+(l.length+1) from by omega]
theorem Vf(az:∀a b,keyEq U (ck a) (ck b)=some (decide (a=b)))(k:α):∀(l:List α) (i:Nat),n5 U (ck k) (.b true) (setE ck i l)=some (if k∈l then some (setE ck i l) else none)
 |[],i=>rfl
 |x::l,i=>by
  show(match keyEq U (ck k) (ck x) with
   |none=>none
   |some true=>some (some ((ck k,AV.b true,i)::setE ck (i+1) l))
   |some false=>match n5 U (ck k) (AV.b true) (setE ck (i+1) l) with|none=>none|some none=>some none|some (some es)=>some (some ((ck x,AV.b true,i)::es)))=_
  rw[az,Vf az k l (i+1)];by_cases h:k=x
  ·subst h;rw[decide_eq_true I,if_pos (List.mem_cons_self)];rfl
  ·rw[decide_eq_false h];by_cases hm:k∈l
   ·rw[if_pos hm,if_pos (List.mem_cons_of_mem _ hm)];rfl
   ·rw[if_neg hm,if_neg (by simp[h,hm])]
theorem Lq{env:Env}{n:Nat}{f:Nat->AV}{J:ad}(az:∀a b,keyEq U (ck a) (ck b)=some (decide (a=b))){x y:aF}{db:Nat}{k:α}{l:List α}(h1:da env n f x=some (.m (some db)))(h2:da env n f y=some (ck k))(hm:J.get db=some (.map (setE ck 0 l) l.length)):
  opx 0 (da env n f) J (.iR U x y (.c (.b true)))=some (.val dB (J.set db (.map (setE ck 0 (yq k l)) (yq k l).length))):=by
 show(match da env n f x,da env n f y,some (AV.b true) with
  |some (.m (some id)),some k,some v=>
   if Nat.blt id 0 then none else
   match J.get id with
   |some (.map es an)=>match keyEq U k k with
    |none=>none
    |some _=>match n5 U k v es with
    |some (some es)=>some (bL.val dB (J.set id (.map es an)))
    |some none=>some (bL.val dB (J.set id (.map (es++[(k,v,an)]) (an+1))))
    |none=>none
   |_=>none
  |_,_,_=>none)=_
 rw[h1,h2];show(if Nat.blt db 0 then none else
   match J.get db with
   |some (.map es an)=>(match keyEq U (ck k) (ck k) with
    |none=>none
    |some _=>match n5 U (ck k) (.b true) es with
    |some (some es)=>some (bL.val dB (J.set db (.map es an)))
    |some none=>some (bL.val dB (J.set db (.map (es++[(ck k,AV.b true,an)]) (an+1))))
    |none=>none)
   |_=>none)=_
 rw[if_neg (by simp[Nat.blt,Nat.ble]),hm];show(match keyEq U (ck k) (ck k) with
    |none=>none
    |some _=>match n5 U (ck k) (.b true) (setE ck 0 l) with
    |some (some es)=>some (bL.val dB (J.set db (.map es l.length)))
    |some none=>some (bL.val dB (J.set db (.map (setE ck 0 l++[(ck k,AV.b true,l.length)]) (l.length+1))))
    |none=>none)=_
 rw[az,Vf az];unfold yq;by_cases fq:k∈l
 ·rw[if_pos fq,if_pos fq]
 ·rw[if_neg fq,if_neg fq,Ve,List.length_append,Nat.zero_add];rfl
theorem Vg:∀(l:List α) (i c:Nat),i+l.length<=c->cr (λ(e:AV×AV×Nat)=>Nat.blt e.2.2 c) (setE ck i l)=true
 |[],_,_,_=>rfl
 |x::l,i,c,h=>by
  show cond (Nat.blt i c) (cr _ (setE ck (i+1) l)) false=true;have h:i+(l.length+1)<=c:=h;rw[show Nat.blt i c=true from Nat.ble_eq_true_of_le (by omega),cond_true];exact Vg l (i+1) c (by omega)
def gR(seen:List Nat):Nat->List α->List (α×Nat)
 |_,[]=>[]
 |i,k::bo=>cond (mE i seen) (gR seen (i+1) bo) ((k,i)::gR seen (i+1) bo)
theorem Vh(seen:List Nat):∀(l:List α) (i:Nat),kT seen (setE ck i l)=(gR seen i l).map λp=>(ck p.1,.b true,p.2)
 |[],_=>rfl
 |x::l,i=>by
  show cond (mE i seen) (kT seen (setE ck (i+1) l)) ((ck x,.b true,i)::kT seen (setE ck (i+1) l))=_;rw[Vh seen l (i+1),gR];cases mE i seen<;>rfl
theorem Lr(n:Nat)(j:Nat):∀(l:List Nat),mE n (l++[j])=(mE n l||Nat.beq j n)
 |[]=>by show cond (Nat.beq j n) true false=_;cases Nat.beq j n<;>rfl
 |x::l=>by
  show cond (Nat.beq x n) true (mE n (l++[j]))=(cond (Nat.beq x n) true (mE n l)||Nat.beq j n);rw[Lr n j l];cases Nat.beq x n<;>rfl
theorem Vi:∀(l:List α) (i:Nat),(gR [] i l).map Prod.fst=l
 |[],_=>rfl
 |x::l,i=>by
  show x::(gR [] (i+1) l).map Prod.fst=_;rw[Vi l (i+1)]
theorem FN(seen:List Nat):∀(l:List α) (i:Nat) (p:α×Nat),p∈gR seen i l->i<=p.2
 |[],_,_,h=>by simp[gR] at h
 |x::l,i,p,h=>by
  rw[gR] at h;cases hm:mE i seen with
  |true=>rw[hm] at h;have:=FN seen l (i+1) p h;omega
  |false=>
   rw[hm,cond_false] at h;rcases List.mem_cons.1 h with rfl|h
   ·exact Nat.le_refl _
   ·have:=FN seen l (i+1) p h;omega
theorem Vj(seen:List Nat)(j:Nat):∀(l:List α) (i:Nat),j<i->gR (seen++[j]) i l=gR seen i l
 |[],_,_=>rfl
 |x::l,i,h=>by
  rw[gR,gR,Lr,Vj seen j l (i+1) (by omega)];have:Nat.beq j i=false:=by
   cases hb:Nat.beq j i with
   |false=>rfl
   |true=>have:=Nat.eq_of_beq_eq_true hb;omega
  rw[this,Bool.or_false]
theorem Ls(seen:List Nat):∀(l:List α) (i:Nat) (p:α×Nat),p∈gR seen i l->(p::gR (seen++[p.2]) i l).Perm (gR seen i l)
 |[],_,_,h=>by simp[gR] at h
 |x::l,i,p,h=>by
  rw[gR] at h ⊢;rw[gR,Lr];cases hm:mE i seen with
  |true=>
   rw[hm,cond_true] at h;rw[Bool.true_or,cond_true,cond_true];exact Ls seen l (i+1) p h
  |false=>
   rw[hm,cond_false] at h;rw[Bool.false_or,cond_false];rcases List.mem_cons.1 h with rfl|h
   ·rw[Nat.beq_refl,cond_true,Vj seen i l (i+1) (by omega)]
   ·have k1:=FN seen l (i+1) p h;have:Nat.beq p.2 i=false:=by
     cases hb:Nat.beq p.2 i with
     |false=>rfl
     |true=>have:=Nat.eq_of_beq_eq_true hb;omega
    rw[this,cond_false];exact(List.Perm.swap _ _ _).trans ((Ls seen l (i+1) p h).cons _)
theorem Vk(seen:List Nat):∀(l:List α) (i:Nat) (p:α×Nat),p∈gR seen i l->ng p.2 (setE ck i l)=some (ck p.1,.b true,p.2)
 |[],_,_,h=>by simp[gR] at h
 |x::l,i,p,h=>by
  rw[gR] at h;show cond (Nat.beq i p.2) (some (ck x,AV.b true,i)) (ng p.2 (setE ck (i+1) l))=_;have key:∀h:p∈gR seen (i+1) l,cond (Nat.beq i p.2) (some (ck x,AV.b true,i)) (ng p.2 (setE ck (i+1) l))=some (ck p.1,.b true,p.2):=λh=>by
   have k1:=FN seen l (i+1) p h;have:Nat.beq i p.2=false:=by
    cases hb:Nat.beq i p.2 with
    |false=>rfl
    |true=>have:=Nat.eq_of_beq_eq_true hb;omega
   rw[this,cond_false];exact Vk seen l (i+1) p h
  cases hm:mE i seen with
  |true=>rw[hm,cond_true] at h;exact key h
  |false=>
   rw[hm,cond_false] at h;rcases List.mem_cons.1 h with rfl|h
   ·rw[Nat.beq_refl];rfl
   ·exact key h
theorem Vl(j:Nat):∀(l:List Nat),n6 (l++[j])=some j
 |[]=>rfl
 |x::l=>by
  show(match n6 (l++[j]) with|none=>some x|some y=>some y)=_;rw[Vl j l]
section
variable {env:Env}{aJ:Option Nat}{D:List (Nat ⊕ (AV×List AV))}{n:Nat}{f:Nat->AV}{J:ad}{Q:dS}
theorem aE.mkMap{d:Nat}{wn:List Nat}{ops:List aY}(k:Nat)(hn:J.next=k)(hd:Nat.blt d n=true)
  (h:∀af:ad,af.next=k+1->af.get k=some (.map [] 0)->(∀i o,J.get i=some o->af.get i=some o)->dj env aJ D n ops (cR f d (.m (some k))) af Q):dj env aJ D n (⟨some d,.mkMap,none,wn⟩::ops) f J Q:=by
 subst hn;exact aE.val (v:=.m (some J.next)) (af:=J.push (.map [] 0)) hd I I (h (J.push (.map [] 0)) I (ad.iB _) λi o ho=>by rw[ad.fD trivial _ (ad.bt ho)];exact ho)
theorem aE.Lq(az:∀a b,keyEq U (ck a) (ck b)=some (decide (a=b))){wn:List Nat}{ops:List aY}{x y:aF}{db:Nat}{k:α}{l:List α}(hm:J.get db=some (.map (setE ck 0 l) l.length))(h1:da env n f x=some (.m (some db)))(h2:da env n f y=some (ck k))
  (h:∀af:ad,af.next=J.next->af.get db=some (.map (setE ck 0 (yq k l)) (yq k l).length)->(∀i o,i≠db->J.get i=some o->af.get i=some o)->dj env aJ D n ops f af Q):dj env aJ D n (⟨none,.iR U x y (.c (.b true)),none,wn⟩::ops) f J Q:=
 aE.tl I (Go.Lyc.Lq az h1 h2 hm) (h _ I (iw hm).1 (iw hm).2)
theorem aE.b2p{d:Nat}{wn:List Nat}{ops:List aY}{x:aF}{db c:Nat}{es:List (AV×AV×Nat)}(k:Nat)(hn:J.next=k)(hm:J.get db=some (.map es c))(hd:Nat.blt d n=true)(h1:da env n f x=some (.m (some db)))
  (h:∀af:ad,af.next=k+1->af.get k=some (.mapIter (some db) c [] c)->(∀i o,J.get i=some o->af.get i=some o)->dj env aJ D n ops (cR f d (.p (some (k,0)))) af Q):dj env aJ D n (⟨some d,.rangeMap x,none,wn⟩::ops) f J Q:=by
 subst hn;refine aE.val (v:=.p (some (J.next,0))) (af:=J.push (.mapIter (some db) c [] c)) hd I ?_ (h (J.push (.mapIter (some db) c [] c)) I (ad.iB _) λi o ho=>by rw[ad.fD trivial _ (ad.bt ho)];exact ho);show(match da env n f x with
  |some (.m none)=>some (bL.val (iz J.next 0) (J.push (.mapIter none 0 [] 0)))
  |some (.m (some id))=>match J.get id with
   |some (.map _ an)=>some (bL.val (iz J.next 0) (J.push (.mapIter (some id) an [] an)))
   |_=>none
  |_=>none)=_
 rw[h1];show(match J.get db with
   |some (.map _ an)=>some (bL.val (iz J.next 0) (J.push (.mapIter (some db) an [] an)))
   |_=>none)=_
 rw[hm];rfl
theorem aE.b2q{d:Nat}{wn:List Nat}{ops:List aY}{x:aF}{db it:Nat}{l:List α}{seen:List Nat}(k3:J.get it=some (.mapIter (some db) l.length seen l.length))(hm:J.get db=some (.map (setE ck 0 l) l.length))(hd:Nat.blt d n=true)(h1:da env n f x=some (.p (some (it,0))))
  (h0:gR seen 0 l=[]->dj env aJ D n ops (cR f d (.a6 [.b false])) J Q)
  (ao:∀p∈gR seen 0 l,∀af:ad,af.next=J.next->af.get it=some (.mapIter (some db) l.length (seen++[p.2]) l.length)->(∀i o,i≠it->J.get i=some o->af.get i=some o)->dj env aJ D n ops (cR f d (.a6 [.b true,ck p.1,.b true])) af Q):dj env aJ D n (⟨some d,.qn x,none,wn⟩::ops) f J Q:=by
 have e:opx 0 (da env n f) J (.qn x)=(match kT seen (setE ck 0 l) with
       |[]=>some (bL.val (.a6 [.b false]) J)
       |cf=>some (bL.iy (cf.map λ(e:AV×AV×Nat)=>(.a6 [.b true,e.1,e.2.1],J.set it (.mapIter (some db) l.length (seen++[e.2.2]) l.length))))):=by
  show(match da env n f x with
   |some (.p (some (it,0)))=>if Nat.blt it 0 then none else
    match J.get it with
    |some (.mapIter none _ _ _)=>some (bL.val (.a6 [.b false]) J)
    |some (.mapIter (some id) since seen fZ)=>match J.get id with
     |some (.map es an)=>
      cond (Nat.beq an since&&Nat.beq fZ since&&cr (λ(e:AV×AV×Nat)=>Nat.blt e.2.2 since) es)
       (match kT seen es with
        |[]=>some (bL.val (.a6 [.b false]) J)
        |l=>some (bL.iy (l.map λ(e:AV×AV×Nat)=>(.a6 [.b true,e.1,e.2.1],J.set it (.mapIter (some id) since (seen++[e.2.2]) an))))) none
     |_=>none
    |_=>none
   |_=>none)=_
  rw[h1];show(if Nat.blt it 0 then none else
    match J.get it with
    |some (.mapIter none _ _ _)=>some (bL.val (.a6 [.b false]) J)
    |some (.mapIter (some id) since seen fZ)=>match J.get id with
     |some (.map es an)=>
      cond (Nat.beq an since&&Nat.beq fZ since&&cr (λ(e:AV×AV×Nat)=>Nat.blt e.2.2 since) es)
       (match kT seen es with
        |[]=>some (bL.val (.a6 [.b false]) J)
        |l=>some (bL.iy (l.map λ(e:AV×AV×Nat)=>(.a6 [.b true,e.1,e.2.1],J.set it (.mapIter (some id) since (seen++[e.2.2]) an))))) none
     |_=>none
    |_=>none)=_
  rw[if_neg (by simp[Nat.blt,Nat.ble]),k3];show(match J.get db with
     |some (.map es an)=>
      cond (Nat.beq an l.length&&Nat.beq l.length l.length&&cr (λ(e:AV×AV×Nat)=>Nat.blt e.2.2 l.length) es)
       (match kT seen es with
        |[]=>some (bL.val (.a6 [.b false]) J)
        |cf=>some (bL.iy (cf.map λ(e:AV×AV×Nat)=>(.a6 [.b true,e.1,e.2.1],J.set it (.mapIter (some db) l.length (seen++[e.2.2]) an))))) none
     |_=>none)=_
  rw[hm];show cond (Nat.beq l.length l.length&&Nat.beq l.length l.length&&cr (λ(e:AV×AV×Nat)=>Nat.blt e.2.2 l.length) (setE ck 0 l)) _ none=_;rw[Nat.beq_refl,Vg l 0 l.length (by omega)];rfl
 rw[Vh] at e;cases hl:gR seen 0 l with
 |nil=>
  rw[hl] at e;exact aE.val hd I e (h0 hl)
 |cons p0 t=>
  rw[hl] at e;refine aE.iy hd I e (by simp) λq aS=>?_;rw[List.map_map] at aS;obtain⟨p,ar,rfl⟩:=List.mem_map.1 aS;rw[<-hl] at ar;exact ao p ar _ I (iw k3).1 (iw k3).2
theorem aE.b2r{d:Nat}{wn:List Nat}{ops:List aY}{x:aF}{db it:Nat}{l:List α}{seen:List Nat}{p:α×Nat}(ar:p∈gR seen 0 l)(k3:J.get it=some (.mapIter (some db) l.length (seen++[p.2]) l.length))(hm:J.get db=some (.map (setE ck 0 l) l.length))(hd:Nat.blt d n=true)(h1:da env n f x=some (.p (some (it,0))))
  (h:dj env aJ D n ops (cR f d (.a6 [ck p.1,.b true])) J Q):dj env aJ D n (⟨some d,.entry x,none,wn⟩::ops) f J Q:=by
 refine aE.val hd I ?_ h;show(match da env n f x with
  |some (.p (some (it,0)))=>match J.get it with
   |some (.mapIter (some id) since seen fZ)=>match J.get id with
    |some (.map es an)=>cond (Nat.beq an fZ) (match n6 seen with
     |some b=>match ng b es with
      |some e=>some (bL.val (.a6 [e.1,e.2.1]) J)
      |none=>none
     |none=>none) none
    |_=>none
   |_=>none
  |_=>none)=_
 rw[h1];show(match J.get it with
   |some (.mapIter (some id) since seen fZ)=>match J.get id with
    |some (.map es an)=>cond (Nat.beq an fZ) (match n6 seen with
     |some b=>match ng b es with
      |some e=>some (bL.val (.a6 [e.1,e.2.1]) J)
      |none=>none
     |none=>none) none
    |_=>none
   |_=>none)=_
 rw[k3];show(match J.get db with
    |some (.map es an)=>cond (Nat.beq an l.length) (match n6 (seen++[p.2]) with
     |some b=>match ng b es with
      |some e=>some (bL.val (.a6 [e.1,e.2.1]) J)
      |none=>none
     |none=>none) none
    |_=>none)=_
 rw[hm];show cond (Nat.beq l.length l.length) (match n6 (seen++[p.2]) with
     |some b=>match ng b (setE ck 0 l) with
      |some e=>some (bL.val (.a6 [e.1,e.2.1]) J)
      |none=>none
     |none=>none) none=_
 rw[Nat.beq_refl,cond_true,Vl];show(match ng p.2 (setE ck 0 l) with
      |some e=>some (bL.val (.a6 [e.1,e.2.1]) J)
      |none=>none)=_
 rw[Vk seen l 0 p ar]
end
end
structure Lt(B:Nat)(W:Nat->Prop)(J af:ad):Prop where
 next:J.next<=af.next
 old:∀i o,i<B->¬W i->J.get i=some o->af.get i=some o
 it:∀i a b c d,J.get i=some (.mapIter a b c d)->af.get i=some (.mapIter a b c d)
abbrev b2s(J af:ad):Prop:=J.next<=af.next/\∀i o,(∀a b c d,o≠ .mapIter a b c d)->J.get i=some o->af.get i=some o
theorem Acc.b2t{J af:ad}{U:Option Nat}{v:AV}{xs:List AV}(h:Acc J U v xs)(az:∀i c,v.at? =some i->J.get i=some (.cells c)->af.get i=some (.cells c)):Acc af U v xs:=by
 cases h with
 |nil=>exact .nil
 |al o x xs h aa=>exact .al o x xs (az _ _ I h) aa
theorem Acc.b2u{J:ad}{U:Option Nat}{v:AV}{xs:List AV}(h:Acc J U v xs){i:Nat}(hi:v.at? =some i):∃c,J.get i=some (.cells c):=by
 cases h with
 |nil=>cases hi
 |al o x xs h aa=>cases hi;exact⟨_,h⟩
theorem b2v{env:Env}(hh:bk env m2 tE){W:Nat->Prop}{B db cy:Nat}{bo:List eW}(ed:List eW->ad->Prop)(aV:∀c J af,ed c J->b2s J af->ed c af)(gd:AV)
  (hy:∀k c J,B<=J.next->c.length<bo.length->ed c J->bu env 0 gd [c5 k] J (λr af=>r= .ok (.b true)/\ed (c++[k]) af/\Lt B W J af)) (J:ad) (bV:B<=J.next) (b2w:db<B) (Lu:¬W db)
  (hm:J.get db=some (.map (setE c5 0 bo) bo.length)) (gG:J.get cy=some (.cells [.m (some db)])) (h0:ed [] J):
  bu env 0 (.f (.func m2) [] [.p (some (cy,0))]) [gd] J (λr af=>r= .ok (.a6 [])/\∃c,c.Perm bo/\ed c af/\J.next<=af.next/\∀i o,i<B->¬W i->J.get i=some o->af.get i=some o):=by
 refine bu.nL hh.e hh.p hh.f I I I ?_;refine aj.seq (aj.region ?_);refine aE.aw (v:=.m (some db)) gG I I I I ?_;generalize az:J.next=k at bV;refine aE.b2p k az hm I I λbP c1 k3 bB=>?_;refine aE.nil (aj.block ?_);refine aj.loop (λm f τ=>k+1<=τ.next/\∃seen c,m=(gR seen 0 bo).length/\(c++(gR seen 0 bo).map Prod.fst).Perm bo/\τ.get k=some (.mapIter (some db) bo.length seen bo.length)/\ed c τ/\(∀i o,i<B->¬W i->J.get i=some o->τ.get i=some o)∧
  sat [(0,gd),(5,.p (some (k,0)))] f) ?_ (gR [] 0 bo).length ⟨by omega,[],[],rfl,by rw[Vi];exact .refl _,k3,aV _ _ _ h0 ⟨by omega,λi o _ ho=>bB i o ho⟩,λi o _ _ ho=>bB i o ho,rfl,rfl,trivial⟩
 clear k3 c1 bB h0;intro m g τ ⟨hn,seen,c,pt,vm,k3,Vm,hold,hL⟩;refine aj.norm _ hL λg=>?_;clear hL;have lX:=hold db _ b2w Lu hm;refine aj.seq (aj.region ?_);refine aE.b2q k3 lX I I (λzB=>?_) (λp ar cx ea Vn bp=>?_)
 ·refine aE.go I I I I ?_;refine aE.nil (aj.seq ?_);refine aj.hJ I (λh=>by cases h) (λ_=>?_);refine aj.exit ?_;rw[zB,List.map_nil,List.append_nil] at vm;exact⟨.inr I,rfl,c,vm,Vm,by omega,hold⟩
 ·refine aE.go I I I I ?_;refine aE.nil (aj.seq ?_);refine aj.hJ I (λ_=>?_) (λh=>by cases h);have lM:db≠k:=by omega
  have b2x:=bp _ _ lM lX;refine aj.skip (aj.block (aj.seq (aj.region ?_)));refine aE.b2r ar Vn b2x I I ?_;refine aE.go I I I I ?_;refine aE.var (v:=c5 p.1) (c:=[.s p.1.1,ah p.1.2]) τ.next ea I I I I I I λgy eT h3 bc=>?_;refine aE.nil (aj.seq (aj.region ?_));refine aE.go I I I I ?_;refine aE.aw (v:=c5 p.1) h3 I I I I ?_;have Vo:=Ls seen bo 0 p ar;have hlen:=vm.length_eq;have b2y:=Vo.length_eq;rw[List.length_append,List.length_map] at hlen;rw[List.length_cons] at b2y;have KK:ed c gy:=aV _ _ _ (aV _ _ _ Vm ⟨by omega,λi o a5 ho=>bp i o (λe=>by subst e;rw[k3] at ho;cases ho;exact a5 _ _ _ _ I) ho⟩) ⟨by omega,λi o _ ho=>bc i o ho⟩;refine aE.hK I I I (hy p.1 c gy (by omega) (by omega) KK) λr FO ⟨h6,b2z,Lv⟩=>⟨_,h6,?_⟩
  refine aE.go I I I I ?_;refine aE.nil (aj.hJ I (λh=>by cases h) (λ_=>?_));have fl:=Lv.next;refine aj.skip ⟨(gR (seen++[p.2]) 0 bo).length,by omega,by omega,seen++[p.2],c++[p.1],rfl,?_,Lv.it _ _ _ _ _ (bc _ _ Vn),b2z,λi o hi hw ho=>Lv.old i o hi hw (bc i o (bp i o (by omega) (hold i o hi hw ho))),rfl,rfl,trivial⟩;refine List.Perm.trans ?_ vm;rw[List.append_assoc];exact(Vo.map Prod.fst).append_left c
theorem b2A{env:Env}(hh:bk env AB Ex)(db:Nat)(J:ad)(k:Nat)(az:J.next=k):bu env 0 (.f (.func AB) [] []) [.m (some db)] J (λr af=>r= .ok (.f (.func m2) [] [.p (some (k,0))])/\af.next=k+1/\af.get k=some (.cells [.m (some db)])/\∀i o,J.get i=some o->af.get i=some o):=by
 refine bu.code hh.e hh.p hh.f I I I I ?_;refine aj.seq (aj.region (aE.box (v:=.m (some db)) (c:=[.m (some db)]) k az I I I I I λτ hn h1 bB=>?_));refine DW ?_;exact aj.ret ⟨rfl,rfl,hn,h1,bB⟩
theorem dk.keys{env:Env}{D:List (Nat ⊕ (AV×List AV))}{n:Nat}{f:Nat->AV}{J:ad}{Q:dS}(fM:bk env m2 tE){mY:aF}{p:Nat}{e2 b:bF}{db cy:Nat}{bo:List eW}(W:Nat->Prop)(S:List eW->ad->Prop)(k:Nat)(az:J.next=k)
  (lD:da env n f mY=some (.f (.func m2) [] [.p (some (cy,0))])) (ar:Nat.blt p n=true) (hm:J.get db=some (.map (setE c5 0 bo) bo.length)) (gG:J.get cy=some (.cells [.m (some db)])) (hW:∀i,W i->i<k) (Lu:¬W db)
  (cP:∀c τ aH,S c τ->τ.next<=aH.next->(∀i o,i≠k+1->(∀a b c d,o≠ .mapIter a b c d)->τ.get i=some o->aH.get i=some o)->S c aH) (h0:S [] J)
  (AS:∀y c τ,k+2<=τ.next->c.length<bo.length->S c τ->bO env (some (k+1)) [] n e2 (cR f p (c5 y)) τ (λx f1 ek=>x= .normal/\ua τ ek∧
   ∀bh,bh.next=ek.next->(∀i o,i≠k+1->ek.get i=some o->bh.get i=some o)->bO env (some (k+1)) [] n b f1 bh (λx _ bU=>x= .normal/\S (c++[y]) bU/\Lt (k+2) W bh bU)))
  (AT:∀c τ,c.Perm bo->S c τ->k+2<=τ.next->τ.get k=some .dN->(∀i o,¬W i->J.get i=some o->τ.get i=some o)->Q .normal f τ):dk env D (.inl k::D) n (.rangeFunc mY [p] e2 b) f J Q:=by
 subst az;refine dk.range lD fM.e λal gL=>?_;generalize az:J.next=k at *;obtain⟨cx,a4,ea,mU,im,bp⟩:∃cx:ad,(J.push .dN).push (.loop .ready none al [p] e2 b k)=cx/\cx.next=k+2/\cx.get (k+1)=some (.loop .ready none al [p] e2 b k)/\cx.get k=some .dN/\∀i o,J.get i=some o->cx.get i=some o:=by
  refine⟨_,rfl,by show J.next+1+1=_;omega,?_,?_,λi o ho=>?_⟩
  ·have:=ad.iB (J:=J.push .dN) (.loop .ready none al [p] e2 b k);rwa[show(J.push .dN).next=k+1 from by show J.next+1=_;omega] at this
  ·rw[ad.fD trivial _ (show k<(J.push .dN).next from by show k<J.next+1;omega)];have:=ad.iB (J:=J) .dN;rwa[az] at this
  ·have:=ad.bt ho;rw[ad.fD trivial _ (show i<(J.push .dN).next from by show i<J.next+1;omega),ad.fD trivial _ this];exact ho
 rw[a4];clear a4;have lM:=ad.bt hm;have oQ:¬W (k+1):=λh=>by have:=hW _ h;omega
 have lI:¬W k:=λh=>by have:=hW _ h;omega
 refine(b2v fM (W:=λi=>W i\/i=k+1) (B:=k+2) (db:=db) (cy:=cy) (bo:=bo)
  (λc τ=>S c τ/\τ.get (k+1)=some (.loop .ready none al [p] e2 b k)) ?_ (.f (.yield (k+1)) [] []) ?_ cx (by omega) (by omega) (λh=>h.elim Lu (by omega)) (bp _ _ hm) (bp _ _ gG) ⟨cP _ _ _ h0 (by omega) λi o _ _ ho=>bp i o ho,mU⟩).mono ?_
 ·rintro c τ aH ⟨a3,bm⟩ ⟨ec,dp⟩;exact⟨cP _ _ _ a3 ec λi o _ h ho=>dp i o h ho,dp _ _ (by intros;simp) bm⟩
 ·rintro y c τ bV hlt ⟨a3,bm⟩;refine(bu.round (R:=λaf=>(S (c++[y]) af/\af.get (k+1)=some (.loop .ready none al [p] e2 b k))/\Lt (k+2) (λi=>W i\/i=k+1) τ af) (f:=f) (n:=n) bm gL (by show cond (Nat.blt p n) _ _=true;rw[ar];rfl) I ?_).mono λr af h=>h;refine(AS y c τ bV hlt a3).mono λx f1 ek ⟨aN,m3,h1⟩=>?_;have ij:=m3.2 _ _ bm;have fS:=iw (bH:=.loop .busy none al [p] e2 b k) ij;refine⟨aN,ij,(h1 (ek.set (k+1) (.loop .busy none al [p] e2 b k)) I (λi o hi ho=>fS.2 i o hi ho)).mono λx _ bU ⟨a4,q8,pR⟩=>?_⟩;have sw:=pR.old _ _ (by omega) oQ fS.1;have nO:=iw (bH:=.loop .ready none al [p] e2 b k) sw;have c1:=m3.1;have eT:ek.next<=bU.next:=pR.next;have a5:∀ {i:Nat} {a e5 bM hY},ek.get i=some (.mapIter a e5 bM hY)->i≠k+1:=λh e=>by subst e;rw[ij] at h;cases h
  have b2B:∀ {i:Nat} {a e5 bM hY},bU.get i=some (.mapIter a e5 bM hY)->i≠k+1:=λh e=>by subst e;rw[sw] at h;cases h
  refine⟨a4,sw,⟨cP _ _ _ q8 (Nat.le_refl _) λi o hi _ ho=>nO.2 i o hi ho,nO.1⟩,by show τ.next<=bU.next;omega,λi o hi hw ho=>?_,λi a e5 bM hY ho=>?_⟩
  ·have Lw:i≠k+1:=λe=>hw (.inr e);exact nO.2 i o Lw (pR.old i o hi (λe=>hw (.inl e)) (fS.2 i o Lw (m3.2 i o ho)))
  ·have h1:=m3.2 _ _ ho;have h3:=pR.it _ _ _ _ _ (fS.2 _ _ (a5 h1) h1);exact nO.2 _ _ (b2B h3) h3
 ·rintro r τ ⟨aN,c,aa,⟨a3,bm⟩,ec,dp⟩;have fS:=iw (bH:=.loop .exhausted none al [p] e2 b k) bm;refine⟨_,.ready,aN,bm,by simp,AT c _ aa (cP _ _ _ a3 (Nat.le_refl _) λi o hi _ ho=>fS.2 i o hi ho) (by show k+2<=τ.next;omega) (fS.2 _ _ (by omega) (dp _ _ (by omega) (λh=>h.elim lI (by omega)) im)) λi o hi ho=>?_⟩;have:=ad.bt ho;exact fS.2 i o (by omega) (dp i o (by omega) (λh=>h.elim hi (by omega)) (bp i o ho))
theorem b2C{env:Env}(hh:bk env vK xY)(fM:bk env m2 tE){db cy:Nat}{bo:List eW}(Bl:bo.length<=1000000)(J:ad)(hm:J.get db=some (.map (setE c5 0 bo) bo.length))(gG:J.get cy=some (.cells [.m (some db)])):
  bu env 0 (.f (.func vK) [] []) [.ae,.f (.func m2) [] [.p (some (cy,0))]] J (λr af=>∃(v:AV) (c:List eW),r= .ok v/\c.Perm bo/\Acc af (some 2) v (c.map c5)/\(∀a,v.at? =some a->J.next<=a)/\ua J af):=by
 generalize az:J.next=k;refine bu.JE (d:=k+1) hh.e hh.p hh.f I I I I ?_;refine dk.km (aj.region (aE.box (v:=.ae) (c:=[.ae]) k az I I I I I λbP c1 h1 bB=>?_));refine iK ?_;refine⟨rfl,dk.xH (dk.km (aj.region ?_))⟩;refine iK ?_;refine⟨rfl,dk.block ?_⟩;have lM:=ad.bt hm;refine dk.keys fM (λi=>i=k) (λc τ=>∃v,τ.get k=some (.cells [v])/\Acc τ (some 2) v (c.map c5)/\∀a,v.at? =some a->k+3<=a/\a<τ.next) (k+1) c1 I I (bB _ _ hm) (bB _ _ gG) (λi hi=>by omega) (by omega) ?_ ⟨.ae,h1,.nil,λa h=>by cases h⟩ ?_ ?_
 ·rintro c τ aH ⟨v,dU,en,kO⟩ ec dp;exact⟨v,dp _ _ (by omega) (by intros;simp) dU,en.b2t λi c hi h=>dp _ _ (by have:=kO i hi;omega) (by intros;simp) h,λa h=>by have:=kO a h;omega⟩
 ·rintro y c τ bV hlt ⟨v,dU,en,kO⟩;refine aj.region ?_;refine aE.var (v:=c5 y) (c:=[.s y.1,ah y.2]) τ.next I I I I I I I λek cS bN Lx=>?_;refine aE.nil ⟨rfl,⟨by omega,Lx⟩,λbh oB ky=>?_⟩;have sD:∀i o,i≠k+2->τ.get i=some o->bh.get i=some o:=λi o hi ho=>ky i o hi (Lx i o ho);have Bm:=sD _ _ (by omega) dU;have hA:=en.aO λi o hi ho=>sD i o (by have:=kO i hi;omega) ho;refine aj.block (aj.region ?_);refine aE.aw (v:=v) Bm I I I hA.Vc ?_;refine aE.aw (v:=c5 y) (ky _ _ (by omega) bN) I I I I ?_;refine aE.a7s (y:=c5 y) hA I I I (by rw[List.length_map];omega) I I λbA bU js fz qM p4=>?_;refine aE.store (bM:=[bA]) (p4 _ _ (λe=>by have:=kO _ e;omega) Bm) I I I js.j7 (by show storeCells _ 0 bA.cells=_;rw[DR js.j7];rfl) λcq La cI o1=>?_;refine aE.nil ⟨rfl,⟨bA,cI,?_,λa e=>by rw[fz] at e;cases e;omega⟩,by omega,λi o hi hw ho=>o1 i o hw (p4 i o (λe=>by have:=kO _ e;omega) ho),λi a e5 bM hY ho=>?_⟩
  ·rw[List.map_append];exact js.aO λi o hi ho=>by
    rw[fz] at hi;cases hi;exact o1 _ _ (by omega) ho
  ·refine o1 _ _ (λe=>by subst e;rw[Bm] at ho;cases ho) (p4 _ _ (λe=>?_) ho);obtain⟨qp,eJ⟩:=hA.b2u e;rw[eJ] at ho;cases ho
 ·rintro c τ aa ⟨v,dU,en,kO⟩ hn hd hold;refine⟨rfl,rfl,?_⟩;refine aj.seq (aj.region ?_);refine aE.aw (v:=v) dU I I I en.Vc ?_;refine iK ?_;have fS:=iw (bH:=AO.dead) hd;refine aj.ret ⟨rfl,hd,v,c,rfl,aa,en.aO λi o hi ho=>fS.2 i o (by have:=kO i hi;omega) ho,λa h=>by have:=kO a h;omega,by show J.next<=τ.next;omega,λi o ho=>?_⟩;have:=ad.bt ho;exact fS.2 i o (by omega) (hold i o (by omega) (bB i o ho))
theorem Vp{U:Option Nat}:∀ {xs:List AV} (j:Nat),(∀x∈xs,conf U x=true)->(xs.flatMap AV.cells).take (j*shN U)=(xs.take j).flatMap AV.cells
 |xs,0,_=>by rw[Nat.zero_mul];rfl
 |[],j+1,_=>by simp
 |x::xs,j+1,h=>by
  have e:(j+1)*shN U=x.cells.length+j*shN U:=by rw[FM (h x (by simp)),Nat.add_mul,Nat.one_mul,Nat.add_comm]
  rw[List.flatMap_cons,e,List.take_length_add_append,Vp j λy hy=>h y (List.mem_cons_of_mem _ hy)];rfl
theorem Vq{U:Option Nat}:∀ {xs:List AV},(∀x∈xs,conf U x=true)->(xs.flatMap AV.cells).length=xs.length*shN U
 |[],_=>by simp
 |x::xs,h=>by
  rw[List.flatMap_cons,List.length_append,FM (h x (by simp)),Vq λy hy=>h y (List.mem_cons_of_mem _ hy),List.length_cons,Nat.add_mul,Nat.one_mul,Nat.add_comm]
theorem b2D{U:Option Nat}{xs:List AV}{j:Nat}{y:AV}(aA:j<xs.length)(h:∀x∈xs,conf U x=true)(hy:conf U y=true):storeCells (xs.flatMap AV.cells) (0+j*shN U) y.cells=some ((xs.set j y).flatMap AV.cells):=by
 have aN:0+j*shN U+y.cells.length=(j+1)*shN U:=by rw[FM hy,Nat.add_mul,Nat.one_mul,Nat.zero_add]
 unfold storeCells;rw[aN,Nat.zero_add,if_pos (Nat.ble_eq_true_of_le (by rw[Vq h];exact Nat.mul_le_mul_right _ (by omega))),Vp j h,Lo (j+1) h,List.set_eq_take_append_cons_drop,if_pos aA,List.flatMap_append,List.flatMap_cons]
section
variable {env:Env}{aJ:Option Nat}{D:List (Nat ⊕ (AV×List AV))}{n:Nat}{f:Nat->AV}{J:ad}{Q:dS}
theorem aE.Vr{U:Option Nat}{a x:aF}{g:Option (Nat×Bool)}{wn:List Nat}{ops:List aY}{xs:List AV}{v y:AV}{j o:Nat}(hA:Acc J U v xs)(fz:v.at? =some o)(aA:j<xs.length)(hy:conf U y=true)(hw:fQ g n f=true)(h1:da env n f a=some (.p (some (o,0+j*shN U))))(h2:da env n f x=some y)
  (h:∀af:ad,af.next=J.next->Acc af U v (xs.set j y)->(∀i bH,i≠o->J.get i=some bH->af.get i=some bH)->dj env aJ D n ops f af Q):dj env aJ D n (⟨none,.store U a x,g,wn⟩::ops) f J Q:=by
 obtain⟨bH,au,ho,aa⟩:=hA.inv (by omega);subst au;cases fz;refine aE.store ho hw h1 h2 hy (b2D aA aa hy) λaf nK h' gv=>h af nK ?_ gv;have:=Acc.of (J:=af) (U:=U) (o:=o) (xs:=xs.set j y) (by rw[List.length_set];omega) h' (λz bg=>by
  rcases List.mem_or_eq_of_mem_set bg with bg|bg
  ·exact aa z bg
  ·rw[bg];exact hy)
 rwa[List.length_set] at this
end
def Bn(a b:Nat):Int:=if a<b then-1 else if b<a then 1 else 0
def sE(a b:List Nat):Int:=cond (gT a b) (-1) (cond (eqL a b) 0 1)
def nR(a b:eW):Int:=if sE a.1 b.1=0 then Bn a.2 b.2 else sE a.1 b.1
theorem swap_perm{l:List eW}{j:Nat}(aA:j+1<l.length):((l.set (j+1) l[j]).set j l[j+1]).Perm l:=by
 exact List.set_set_perm (i:=j+1) (j:=j) (by omega) (by omega)
section
variable {b:b8}{K:Nat->List AV->AV->Prop}
theorem Ly{aq:aF->Option AV}{J:ad}{x:aF}{k:IntKind}{m:Int}(h:aq x=some (.i k m))(bp:IntKind):opx 0 aq J (.conv bp x)=some (.val (.i bp (wrapN bp m)) J):=by
 show(match aq x with|some (.i _ n)=>some (bL.val (.i bp (wrapN bp n)) J)|some (.gk _ d j)=>(match bp with| .i64=>some (.val (.gk .i64 d j) J)|_=>none)|_=>none)=_;rw[h]
theorem b2E(hh:bk (b.aM K) xX AD)(ha:bk (b.aM K) vK xY)(fM:bk (b.aM K) m2 tE){db cy:Nat}{bo:List eW}(Bl:bo.length<=1000000)(J:ad)(hm:J.get db=some (.map (setE c5 0 bo) bo.length))(gG:J.get cy=some (.cells [.m (some db)])):
  bu (b.aM K) 0 (.f (.func xX) [] []) [.f (.func m2) [] [.p (some (cy,0))]] J (λr af=>∃(v:AV) (c:List eW),r= .ok v/\c.Perm bo/\Acc af (some 2) v (c.map c5)/\(∀a,v.at? =some a->J.next<=a)/\ua J af):=by
 refine bu.code hh.e hh.p hh.f I I I I ?_;refine aj.seq (aj.region ?_);refine aE.go I I I I ?_;refine aE.nil (aj.seq (aj.region ?_));refine aE.go I I I I ?_;refine aE.hK I I I (b2C ha fM Bl J hm gG) λr cx ⟨v,c,aN,h1,h2,h3,aQ⟩=>⟨_,aN,?_⟩
 refine aE.go I I I I ?_;exact aE.nil (aj.ret ⟨rfl,_,c,rfl,h1,h2,h3,aQ⟩)
end
def Lz(b:b8)(K:Nat->List AV->AV->Prop)(N:Nat):Prop:=N<=60000/\∀ {db:Nat} {bo:List eW} (_:bo.length<=N) (J:ad) (_:J.get db=some (.map (setE c5 0 bo) bo.length)),
  bu (b.aM K) 0 (.f (.func Az) [] []) [.m (some db)] J (λr af=>∃(v:AV) (c:List eW),r= .ok v/\c.Perm bo/\Acc af (some 2) v (c.map c5)/\(∀a,v.at? =some a->J.next<=a)/\ua J af)
def sF(f:Fm)(bo:List eW):List eW:=if f.op=1 then yq (f.name,f.args.length) bo else bo
def v_(l:List Fm)(bo:List eW):List eW:=l.foldl (λbo f=>sF f bo) bo
def Bo(F:Fm):List eW:=v_ F.parts []
section
variable {b:b8}{K:Nat->List AV->AV->Prop}{N:Nat}(hf:∀g aW r cw,K g aW r->K g aW cw->r=cw)
include hf in
theorem b2F(ao:Lz b K N)(hh:bk (b.aM K) Eu JV)(au:bk (b.aM K) tD vI)(mN:bk (b.aM K) sl xW)(hw:bk (b.aM K) xV Ay)(F:Fm)(b_:F.iJ)(b2G:(Bo F).length<=N)(J:ad):
  bu (b.aM K) 0 (.f (.func Eu) [] []) [F.A true] J (λr af=>∃(v:AV) (c:List eW),r= .ok v/\c.Perm (Bo F)/\Acc af (some 2) v (c.map c5)/\(∀a,v.at? =some a->J.next<=a)/\ua J af):=by
 generalize az:J.next=k;refine bu.JE (d:=k+4) hh.e hh.p hh.f I I I I ?_;refine dk.km (aj.region (aE.box (v:=F.A true) (c:=F.cells true) k az I I I I I λbP hp h1 bB=>?_));refine iK ?_;refine⟨rfl,dk.km (aj.region (aE.mkMap (k+1) hp I λcx gX h2 bp=>?_))⟩;refine aE.var (v:=.m (some (k+1))) (c:=[.m (some (k+1))]) (k+2) gX I I I I I I λgy np h3 bc=>?_;replace h1:=bc _ _ (bp _ _ h1);replace h2:=bc _ _ h2;refine aE.nil ⟨rfl,dk.xH (dk.km (aj.region ?_))⟩;refine aE.aw h1 I I I (Fm.aw true F) ?_;refine aE.hK I I I (KL hw true F gy (k+3) np) λr FO ⟨aN,qJ,aQ,b5⟩=>⟨_,aN,?_⟩
 replace h1:=b5 _ _ h1;replace h2:=b5 _ _ h2;replace h3:=b5 _ _ h3;have cL:∀i o,J.get i=some o->FO.get i=some o:=λi o ho=>b5 i o (bc i o (bp i o (bB i o ho)));refine aE.nil ⟨rfl,dk.block ?_⟩;refine dk.walk au mN true (λi=>i=k+1\/i=k+2) (λl τ=>∃bo,v_ l bo=Bo F/\τ.get (k+1)=some (.map (setE c5 0 bo) bo.length)/\τ.get (k+2)=some (.cells [.m (some (k+1))])) (k+4) qJ I I b_ aQ (λi hi=>by omega) (λl τ aH ⟨bo,a3,bm,cv⟩ az=>⟨bo,a3,az _ _ (.inl I) bm,az _ _ (.inr I) cv⟩) ⟨[],rfl,h2,h3⟩ ?_ ?_
 ·intro G rest τ cZ vV ⟨bo,a3,bm,cv⟩;refine aj.region ?_;refine aE.var (v:=G.A true) (c:=G.cells true) τ.next I I I I (Fm.conf true G) I (Fm.len true G) λek qJ aQ b5=>?_;refine aE.nil ⟨rfl,.of (by omega) b5,λbh C9 cW=>?_⟩;replace aQ:=cW _ _ (by omega) aQ;replace bm:=cW _ _ (by omega) (b5 _ _ bm);replace cv:=cW _ _ (by omega) (b5 _ _ cv);refine aj.block (aj.seq (aj.region ?_));refine iK ?_;refine aE.aw aQ I I I (Fm.oH true G) ?_;refine aE.bin (a:=.i .u8 (Int.ofNat G.op)) (b:=.i .u8 (Int.ofNat 1)) (v:=.b (decide (G.op=1))) I I I I (mX I) ?_;refine aE.nil (aj.hJ I (λh=>?_) (λh=>?_))
  ·have dK:G.op=1:=of_decide_eq_true h;refine aj.region ?_;refine aE.aw (v:=.m (some (k+1))) cv I I I I ?_;refine aE.go I I I I ?_;refine aE.aw aQ I I I (Fm.a7u true G) ?_;refine aE.go I I I I ?_;refine aE.aw aQ I I I (Fm.R1 true G) ?_;refine aE.len I I I a7w ?_;refine aE.go (v:=c5 (G.name,G.args.length)) I I I I ?_;refine aE.Lq (ck:=c5) (k:=(G.name,G.args.length)) b2o bm I I λbU iE cu dQ=>?_;refine aE.nil ⟨rfl,⟨_,by rw[<-a3];show v_ rest _=v_ rest (sF G bo);unfold sF;rw[if_pos dK],cu,dQ _ _ (by omega) cv⟩,⟨by omega,λi o hi ho=>dQ i o (λe=>hi (.inl e)) ho⟩⟩
  ·have dK:¬G.op=1:=of_decide_eq_false h;exact aj.skip ⟨rfl,⟨bo,by rw[<-a3];show v_ rest _=v_ rest (sF G bo);unfold sF;rw[if_neg dK],bm,cv⟩,.refl⟩
 ·intro τ ⟨bo,a3,bm,cv⟩ vV hd hold;have a3:bo=Bo F:=a3;subst a3;refine⟨rfl,rfl,?_⟩;refine aj.seq (aj.region ?_);refine aE.aw (v:=.m (some (k+1))) cv I I I I ?_;refine aE.hK I I I (ao.2 b2G τ bm) λr bh ⟨v,c,aN,ec,dp,dO,e1⟩=>⟨_,aN,?_⟩
  refine aE.go I I I I ?_;have hn:=e1.1;have fS:=iw (bH:=AO.dead) (e1.2 _ _ hd);refine aE.nil (aj.ret ⟨rfl,e1.2 _ _ hd,v,c,rfl,ec,dp.aO λi o hi ho=>fS.2 i o (by have:=dO i hi;omega) ho,λa e=>by have:=dO a e;omega,by show J.next<=bh.next;omega,λi o ho=>?_⟩);have:=ad.bt ho;exact fS.2 i o (by omega) (e1.2 i o (hold i o (by omega) (cL i o ho)))
end
abbrev ub(a b:Nat):Prop:=a &&& b=a
theorem b2H{a b:Nat}:vx a b=0↔ub a b:=by
 unfold vx;constructor
 ·intro h;have:=congrArg (λx=>x ^^^ (a &&& b)) h;simp only[Nat.xor_assoc,Nat.xor_self,Nat.xor_zero,Nat.zero_xor] at this;exact this.symm
 ·intro h;have h:a &&& b=a:=h;rw[h,Nat.xor_self]
theorem b2I{a b c:Nat}(h1:ub a c)(h2:ub b c):ub (a ||| b) c:=by
 have h1:a &&& c=a:=h1;have h2:b &&& c=b:=h2;show(a ||| b) &&& c=_;rw[Nat.and_or_distrib_right,h1,h2]
theorem Vs{c:Nat}:∀ {l:List Fm} {m:Nat},ub m c->(∀f∈l,ub (oR f) c)->ub (tS l m) c
 |[],_,h,_=>h
 |f::l,m,h,hl=>by
  show ub (tS l (m ||| oR f)) c;exact Vs (b2I h (hl f (by simp))) λg hg=>hl g (List.mem_cons_of_mem _ hg)
theorem b2J{a b:Nat}(ha:a<2^32)(hb:b<2^32):binop .andNot (.i .u32 (Int.ofNat a)) (.i .u32 (Int.ofNat b))=some (.i .u32 (Int.ofNat (vx a b))):=by
 have h:(BitVec.ofInt IntKind.u32.bits (Int.ofNat a) &&& ~~~ BitVec.ofInt IntKind.u32.bits (Int.ofNat b)).toNat=vx a b:=by
  have e:∀x y:BitVec IntKind.u32.bits,x &&& ~~~ y=x ^^^ (x &&& y):=λx y=>by ext i;simp;cases x[i]<;>cases y[i]<;>rfl
  rw[e,BitVec.toNat_xor,BitVec.toNat_and,ofInt32 a ha,ofInt32 b hb];rfl
 show some (AV.i .u32 (IntKind.wrap .u32 ((BitVec.ofInt IntKind.u32.bits (Int.ofNat a) &&& ~~~ BitVec.ofInt IntKind.u32.bits (Int.ofNat b)).toNat:Int)))=_;rw[h,wrap32 (a7i a b ha)];rfl
structure lN where
 bZ:List Nat
 ops:Nat
 kind:Nat
 ab:Nat
 b2K:List AV
 rs:List AV
def lN.cells(o:Bool)(l:lN):List AV:=[.s l.bZ,.i .u32 (Int.ofNat l.ops),.i .u8 (Int.ofNat l.kind),.i .u8 (Int.ofNat l.ab),.a7 o (some 6) (cond o l.rs l.b2K)]
def lN.A(o:Bool)(l:lN):AV:=.ag (l.cells o)
end Go.Lyc
end
noncomputable section
namespace Go.Lyc
set_option maxHeartbeats 0
variable [Tok][TokOk]
open Go.RowKit Go.Lyc.T
attribute [local irreducible] b9 bO dj dY bu
structure dn where
 bZ:List Nat
 cB:List eN
 eZ:Fm
abbrev dn.A(r:dn):AV:=.ag (.s r.bZ::slA true (some 7) (r.cB.map eN.A)::bD r.eZ)
def mw:eN:=⟨[],.mk 0 [] none none,[],false⟩
def ixN(bZ:List Nat):List dn->Option Nat
 |[]=>none
 |r::l=>if r.bZ=bZ then some 0 else(ixN bZ l).map (· +1)
theorem LA{bZ:List Nat}:∀ {l:List dn} {i:Nat},ixN bZ l=some i->∃h:i<l.length,l[i].bZ=bZ/\∀j (h':j<l.length),j<i->l[j].bZ≠bZ
 |[],i,h=>by cases h
 |r::l,i,h=>by
  rw[ixN] at h;split at h
  ·rename_i e;cases h;exact⟨by simp,e,λj _ aA=>by omega⟩
  ·rename_i e;cases hx:ixN bZ l with
   |none=>rw[hx] at h;cases h
   |some m=>
    rw[hx] at h;cases h;obtain⟨h1,h2,h3⟩:=LA hx;refine⟨by simpa using h1,h2,λj aA hlt=>?_⟩;cases j with
    |zero=>exact e
    |succ j=>exact h3 j (by simpa using aA) (by have hlt:j+1<m+1:=hlt;omega)
theorem Vt{bZ:List Nat}:∀ {l:List dn},ixN bZ l=none->∀j (h:j<l.length),l[j].bZ≠bZ
 |[],_,j,h=>by simp at h
 |r::l,hn,j,h=>by
  rw[ixN] at hn;split at hn
  ·cases hn
  ·rename_i e;cases hx:ixN bZ l with
   |some m=>rw[hx] at hn;cases hn
   |none=>
    cases j with
    |zero=>exact e
    |succ j=>exact Vt hx j (by simpa using h)
theorem tl_vw{J:ad}{U:Option Nat}{o:Bool}{xs:List AV}(aa:∀y∈xs,conf U y=true):g8 J U (.a7 o U xs) xs:=by
 refine⟨λτ=>rfl,λ{j} aA=>?_,λ{j} aA=>?_⟩
 ·cases xs with
  |nil=>simp at aA
  |cons x l=>exact(yc (J:=J) (o:=o) aa).eV aA
 ·cases xs with
  |nil=>simp at aA
  |cons x l=>exact(yc (J:=J) (o:=o) aa).aw aA
theorem uc(l m:List Nat):binop .eql (.s l) (.s m)=some (.b (decide (l=m))):=by
 show some (AV.b (eqL l m))=_;cases he:eqL l m with
 |true=>rw[decide_eq_true ((mI l m).1 he)]
 |false=>rw[decide_eq_false λh=>by rw[(mI l m).2 h] at he;cases he]
section
variable {b:b8}{K:Nat->List AV->AV->Prop}
theorem b2L(hh:bk (b.aM K) tL EY){q:Nat}{x:bX}{J:ad}(aS:J.get q=some (.cells x.A.cells))(r:dn):
  bu (b.aM K) 0 (.f (.func tL) [] [aK q]) [r.A] J (λv τ=>v= .ok (.b (decide (r.bZ=x.gQ)))/\dC J τ):=by
 refine W.code hh.e hh.p hh.f I I I I λz=>?_;have H:Has J [(q,x.A.cells)]:=Has.nil.cons aS (by simp);refine ai ?_;refine W.cy (c:=r.A.cells) H I I I I I I λτ hn H bB=>?_;refine ai ?_;refine W.bin I I I I (uc _ _) ?_;refine ai ?_;exact aj.ret ⟨rfl,rfl,by omega,bB⟩
theorem LB(hh:bk (b.aM K) E0 Kv)(h1:bk (b.aM K) tL EY){q:Nat}{x:bX}{J:ad}(aS:J.get q=some (.cells x.A.cells))(R:List dn)(hR:R.length<2^20):
  bu (b.aM K) 0 (.f (.func E0) [] []) [.a7 true (some 6) (R.map dn.A),.f (.func tL) [] [aK q]] J (λv τ=>v= .ok (match ixN x.gQ R with|some i=>ah i|none=>.i .i64 (-1))/\dC J τ):=by
 refine W.code hh.e hh.p hh.f I I I I λz=>?_;have H:Has J [(q,x.A.cells)]:=Has.nil.cons aS (by simp);have au:g8 J (some 6) (.a7 true (some 6) (R.map dn.A)) (R.map dn.A):=tl_vw λy hy=>by obtain⟨r,_,rfl⟩:=List.mem_map.1 hy;rfl
 have hlen:(R.map dn.A).length=R.length:=List.length_map _;refine ai ?_;rw[hlen];refine ai ?_;refine aj.each R.length (λj f τ=>(∀i (h:i<R.length),i<j->R[i].bZ≠x.gQ)/\dC J τ/\sat [(0,.a7 true (some 6) (R.map dn.A)),(1,.f (.func tL) [] [aK q])] f) (by omega) ⟨λi _ h=>by omega,⟨Nat.le_refl _,λ_ _ h=>h⟩,rfl,rfl,trivial⟩ I I (λj g τ aA aV hi hm=>?_) (λg τ aV hi=>?_)
 ·obtain⟨md,M,c6,bN,_⟩:=aV;refine aj.norm [(0,.a7 true (some 6) (R.map dn.A)),(1,.f (.func tL) [] [aK q]),(8,ah j),(7,ah R.length)] ⟨c6,bN,hi,hm,trivial⟩ λg=>?_;have H:=H.aO M.2;have au:g8 τ (some 6) (.a7 true (some 6) (R.map dn.A)) (R.map dn.A):=tl_vw λy hy=>by obtain⟨r,_,rfl⟩:=List.mem_map.1 hy;rfl
  refine ai ?_;rw[List.getElem_map];refine W.lh I I I (b2L h1 (M.2 _ _ aS) R[j]) λr bh ⟨e,M2⟩=>⟨_,e,?_⟩
  have et:dC J bh:=⟨by have:=M.1;have:=M2.1;omega,λi o h=>M2.2 _ _ (M.2 _ _ h)⟩
  by_cases he:R[j].bZ=x.gQ
  ·rw[decide_eq_true he];refine ai ?_;refine aj.ret ⟨rfl,?_,et⟩;cases hx:ixN x.gQ R with
   |none=>exact absurd he (Vt hx j aA)
   |some i=>
    obtain⟨h1,h2,h3⟩:=LA hx;have:i=j:=by
     rcases Nat.lt_trichotomy i j with h|h|h
     ·exact absurd h2 (md i h1 h)
     ·exact h
     ·exact absurd he (h3 j aA h)
    subst this;rfl
  ·rw[decide_eq_false he];refine ai ?_;refine⟨rfl,rfl,λi h hlt=>?_,et,rfl,rfl,trivial⟩;by_cases gp:i<j
   ·exact md i h gp
   ·obtain rfl:i=j:=by omega
    exact he
 ·obtain⟨md,M,_⟩:=aV;refine aj.norm [] trivial λg=>?_;refine ai ?_;refine aj.ret ⟨rfl,?_,M⟩;cases hx:ixN x.gQ R with
  |none=>rfl
  |some i=>
   obtain⟨h1,h2,_⟩:=LA hx;exact absurd h2 (md i h1 h1)
end
abbrev g9(gs:List dF):AV:=slA true (some 6) (gs.map dF.A)
abbrev o5:List Nat:=[97,103,97,105,110]
inductive LC(K:Nat->List AV->AV->Prop)(L:List bX)(B:List (List Nat))(k:Nat)(x:bX):Nat->Nat->Nat->Prop
 |sG (aQ:citeB L B k [mw] x.cs=false):LC K L B k x 5 0 0
 |ap (ac:Nat×Nat) (h0:x.cs=[ac]) (aQ:citeB L B k [mw] x.cs=true) (cC:Bool) (bJ:K su [(fw L ac.2).A true,x.f.A true] (.b cC)):LC K L B k x (cond cC 0 6) (cond cC 0 2) (cond cC 0 1)
inductive FP(K:Nat->List AV->AV->Prop)(L:List bX)(B N:List (List Nat))(k:Nat)(x:bX)(r:dn):Nat->Nat->Nat->Nat->Prop
 |sG (bJ:citeB L B k r.cB x.cs=false):FP K L B N k x r 5 0 0 0
 |ap (bJ:citeB L B k r.cB x.cs=true) (cU gM:AV) (gH gI ax e:Nat) (cu:K tM [r.A,x.f.A true,g9 (gotsL L B N k r.cB x.cs)] (.a6 [.ag [cU,gM],.ag [.i .u8 (Int.ofNat gH),ah gI,ah ax],ah e])):FP K L B N k x r (if e=0 then 0 else 6) (if e=0 then 0 else gH) (if e=0 then 0 else gI) (if e=0 then 0 else ax)
inductive rh(K:Nat->List AV->AV->Prop)(L:List bX)(B N:List (List Nat))(R:List dn)(k:Nat)(x:bX)(g_:Bool):Nat->Nat->Nat->Nat->Prop
 |form (h:g_=false):rh K L B N R k x g_ 3 0 0 0
 |hyp (h:g_=true) (h2:x.hyp=true):rh K L B N R k x g_ 0 0 0 0
 |gQ (h:g_=true) (h2:x.hyp=false) (h3:x.gQ≠o5) (aQ:ixN x.gQ R=none):rh K L B N R k x g_ 4 0 0 0
 |again (h:g_=true) (h2:x.hyp=false) (h3:x.gQ=o5) {eI gH gI:Nat} (cZ:LC K L B k x eI gH gI):rh K L B N R k x g_ eI gH gI 0
 |step (h:g_=true) (h2:x.hyp=false) (h3:x.gQ≠o5) (i:Nat) (hi:i<R.length) (aQ:ixN x.gQ R=some i) {eI gH gI ax:Nat} (cP:FP K L B N k x R[i] eI gH gI ax):rh K L B N R k x g_ eI gH gI ax
theorem ud{α β:Type}{f:α->Option β}:∀ {l:List α} {r:List β} {m:List α} {s:List β},mapO f l=some r->mapO f m=some s->mapO f (l++m)=some (r++s)
 |[],r,m,s,h,h2=>by cases h;exact h2
 |x::l,r,m,s,h,h2=>by
  rw[mapO_cons] at h;rw[List.cons_append,mapO_cons];cases hx:f x with
  |none=>rw[hx] at h;cases h
  |some y=>
   rw[hx] at h;cases hl:mapO f l with
   |none=>rw[hl] at h;cases h
   |some a8=>
    rw[hl] at h;cases h;rw[ud hl h2];rfl
theorem b2M{P:Nat->Prop}{J:ad}{n:Nat}{v:AV}{g:dF}(h:oZ P J v g)(h1:g.eZ.dep<=200)(h2:∀F∈g.hyps,F.dep<=200)(h3:∀F∈g.rest,F.dep<=200)(hn:900<=n):bG J n v=some g.A:=by
 obtain⟨au,oy,e,ao,hp,ak,gX,_⟩:=h.ex;subst e;obtain⟨m,rfl⟩:∃m,n=m+3:=⟨n-3,by omega⟩
 have b_:∀F:Fm,F.dep<=200->∀m,500<=m->bG J m (.ag (bD F))=some (.ag (bD F)):=λF hd m hm=>by
  have:=Fm.snap J true _ F m (Nat.le_refl _) (by omega);rwa[iW] at this
 have aa:∀F:Fm,F.dep<=200->∀m,500<=m->mapO (bG J m) (bD F)=some (bD F):=λF hd m hm=>by
  have:=b_ F hd (m+1) (by omega);obtain⟨eB,a3,bm⟩:=DV this;cases bm;exact a3
 have gL:∀ {U:Option Nat} {v:AV} {xs:List AV} {m:Nat},Sl J U v xs->(xs=[]->v= .ae)->(∀y∈xs,bG J m y=some y)->bG J (m+1) v=some (slA true U xs):=λ{U v xs m} ao hn hy=>by
  have hm:=ym (f:=bG J m) (g:=λx=>x) hy;rw[List.map_id'] at hm;have ak:=ao.read;cases ao with
  |nil=>rfl
  |al o cap xs rest hg aa az=>
   rw[snapshot_succ];simp only[ak,hm];cases xs with
   |nil=>cases hn rfl
   |cons y l=>rfl
 refine oG ?_;have aN:=gL (m:=m+1) ao (λe=>hp (by simpa using e)) (λy hy=>by
  obtain⟨F,LD,rfl⟩:=List.mem_map.1 hy;refine oG ?_;rw[mapO_cons,aa F (h2 F LD) m (by omega)];cases m with
  |zero=>omega
  |succ m=>rfl)
 have a4:=gL (m:=m+1) ak (λe=>gX (by simpa using e)) (λy hy=>by
  obtain⟨F,LD,rfl⟩:=List.mem_map.1 hy;exact b_ F (h3 F LD) (m+1) (by omega))
 have cQ:=aa g.eZ h1 (m+2) (by omega);exact ud cQ (by rw[mapO_cons,aN,mapO_cons,a4];rfl)
theorem Sl.Bp{J:ad}{U:Option Nat}{v:AV}{xs a8:List AV}{m:Nat}(ao:Sl J U v xs)(hn:xs=[]->v= .ae)(hm:mapO (bG J m) xs=some a8):bG J (m+1) v=some (slA true U a8):=by
 have ak:=ao.read;cases ao with
 |nil=>rw[HC] at hm;cases hm;rfl
 |al o cap xs rest hg aa az=>
  rw[snapshot_succ];simp only[ak,hm];cases xs with
  |nil=>cases hn rfl
  |cons y l=>
   cases a8 with
   |nil=>have:=(mG hm).1;simp at this
   |cons z r=>rfl
theorem W.b2N{cg:kJ}{env:Env}{aJ:Option Nat}{D:List (Nat ⊕ (AV×List AV))}{n:Nat}{F:List (Nat×AV)}{z:Nat->AV}{J:ad}{Q:dS}{L:List (Nat×List AV)}(H:Has J L){d:Nat}{op:AOp}{v:AV}{g:Option (Nat×Bool)}{ops:List aY}{c:List AV}(hd:Nat.blt d n=true)(hw:wtL g n F=true)(ho:opx 0 (c8 env n F z) J op=some (.val v (J.push (.cells c))))
  (h:∀τ:ad,τ.next=J.next+1->Has τ ((J.next,c)::L)->(∀i o,J.get i=some o->τ.get i=some o)->b9 cg env aJ D n ops (bs ((d,v)::F) z) τ Q):b9 cg env aJ D n (⟨some d,op,g,[]⟩::ops) (bs F z) J Q:=by
 have c7:∀i o,J.get i=some o->(J.push (.cells c)).get i=some o:=λi o ho=>by rw[ad.fD trivial _ (ad.bt ho)];exact ho
 exact W.val hd hw ho (h (J.push (.cells c)) I (H.push I (ad.iB _) c7) c7)
theorem b2O{α:Type}{U:Option Nat}{o:Bool}{l:List α}{f:α->AV}{j:Nat}(h:j<l.length):idxSlA U (.a7 o U (l.map f)) j=some (.df o (f l[j])):=by
 cases l with
 |nil=>simp at h
 |cons x l=>exact xF (o:=o) (U:=U) (f:=f) h
theorem b2P{L:List bX}(h:∀x∈L,x.f.dep<=200)(n:Nat):(fw L n).dep<=200:=by
 unfold fw;rw[List.getD_eq_getElem?_getD,List.getElem?_map];cases hx:L[n-1]? with
 |none=>decide
 |some x=>exact h x (List.mem_of_getElem? hx)
theorem LF{L:List bX}{B N:List (List Nat)}{k:Nat}{p:eN}{ac:Nat×Nat}(h:∀n,(fw L n).dep<=200):(kq L B N k p ac).eZ.dep<=200/\(∀F∈(kq L B N k p ac).hyps,F.dep<=200)/\∀F∈(kq L B N k p ac).rest,F.dep<=200:=by
 have hm:∀l:List Nat,∀F∈l.map (fw L),F.dep<=200:=λl F b_=>by obtain⟨n,_,rfl⟩:=List.mem_map.1 b_;exact h n
 have h0:iN.eZ.dep<=200/\(∀F∈iN.hyps,F.dep<=200)/\∀F∈iN.rest,F.dep<=200:=⟨by decide,by simp[iN],by simp[iN]⟩
 unfold kq;cases p.cy with
 |true=>
  cases kM L B k ac.1 ac.2 with
  |true=>exact⟨h _,hm _,hm _⟩
  |false=>exact h0
 |false=>
  cases pY B k ac.1 ac.2 with
  |true=>exact⟨h _,(by simp),hm _⟩
  |false=>exact h0
structure LG(b:b8)(K:Nat->List AV->AV->Prop):Prop where
 bad:bk (b.aM K) Kr Uo
 LH:bk (b.aM K) tL EY
 LI:bk (b.aM K) E0 Kv
 g_:b.ext oO=0/\b.pure oO=true
 LJ:b.ext su=0/\b.pure su=true
 app:b.ext tM=0/\b.pure tM=true
section
variable {b:b8}{K:Nat->List AV->AV->Prop}(hfn:∀g aW r cw,K g aW r->K g aW cw->r=cw)
include hfn
theorem Vu(hf:lg b K)(ar:Bg b K)(hb:LG b K){p k:Nat}{L:List bX}{B N:List (List Nat)}{J:ad}(eG:ld J p L B N)(cb:FJ b L B N)(Ft:1<=k)(az:k<=L.length){l:lN}{R:List dn}(hR:l.rs=R.map dn.A)(yr:R.length<2^20)(FQ:∀r∈R,r.cB.length<2^20/\∀J,bG J (b.bn+1000) r.A=some r.A)(ri:∀J,bG J (b.bn+1000) (l.A true)=some (l.A true))
  {x:bX} (hx:L[k-1]? =some x) (aa:tU k x.cs) {g_:Bool} (hA:K oO [l.A true,x.f.A true] (.b g_)) {eI gH gI ax:Nat} (bV:rh K L B N R k x g_ eI gH gI ax):
  bu (b.aM K) 0 (.f (.func Kr) [] []) [aK p,l.A true,ah k] J (λr τ=>r= .ok (.a6 [.i .u8 (Int.ofNat eI),.ag [.i .u8 (Int.ofNat gH),ah gI,ah ax]])/\dC J τ):=by
 refine W.mv hb.bad.e hb.bad.p hb.bad.f I I I λz=>?_;obtain⟨cH,ey,bI,ee,h1,_⟩:=eG.ex;have H:Has J [(p,[cD L,cH,ey])]:=Has.nil.cons h1 (by simp);have hl:=cb.lt;have FK:L[k-1]'(by omega)=x:=(List.getElem?_eq_some_iff.1 hx).2;have b2Q:x∈L:=FK▸List.getElem_mem (show k-1<L.length by omega);have Ba:=λJ=>Fm.snap J true _ x.f (b.bn+1000) (Nat.le_refl _) (by have:=cb.bY x b2Q;omega);refine ai ?_;generalize aS:J.next=q;refine W.cy (c:=l.cells true) H aS I I I I I λτ c1 H bB=>?_;refine ai ?_;refine W.cC (c:=[.i .u8 0,ah 0,ah 0]) H c1 I I I λbh ea H bp=>?_;refine ai ?_;rw[FK];refine W.ko (c:=x.A.cells) H ea I I I I I I λbU eT H bc=>?_;refine ai ?_;refine W.fu (r:=.b g_) hfn hb.g_ hA I I I ?_ ?_
 ·exact oF (ri _) (by have:=Ba bU;rw[iW] at this ⊢;exact this)
 have Bq:dC J bU:=⟨by omega,λi o h=>bc _ _ (bp _ _ (bB _ _ h))⟩
 cases bV with
 |form h=>
  subst h;refine ai ?_;refine W.st H 1 I I I I I I λcq fl H b5=>?_;refine ai ?_;exact aj.ret ⟨rfl,_,iZ (j8 I) (fX I (H.get _ (.tail _ (.head _))) I),rfl,by omega,λi o h=>b5 _ _ (by have:=ad.bt h;omega) (Bq.2 _ _ h)⟩
 |hyp h h2=>
  subst h;refine ai ?_;rw[h2];refine ai ?_;refine W.st H 1 I I I I I I λcq fl H b5=>?_;refine ai ?_;exact aj.ret ⟨rfl,_,iZ (j8 I) (fX I (H.get _ (.tail _ (.head _))) I),rfl,by omega,λi o h=>b5 _ _ (by have:=ad.bt h;omega) (Bq.2 _ _ h)⟩
 |gQ h h2 h3 aQ=>
  subst h;refine ai ?_;rw[h2];refine ai ?_;rw[hR];refine W.an trivial I I I (LB hb.LI hb.LH (H.get _ (.head _)) R yr) λr cq ⟨e,eH⟩=>⟨_,e,?_⟩
  have H:=H.aO eH.2;rw[aQ];refine ai ?_;refine W.cC (c:=[.s [],.ae,.i .u8 0,.s [],.ae,.ae]) H I I I I λdD ir H cW=>?_;refine ai ?_;refine W.bin (v:=.b false) I I I I ((uc _ _).trans (by rw[decide_eq_false h3])) ?_;refine ai ?_;refine W.bin (v:=.b true) I I I I I ?_;refine ai ?_;refine W.st H 2 I I I I I I λeb iE H dQ=>?_;refine ai ?_;exact aj.ret ⟨rfl,_,iZ (j8 I) (fX I (H.get _ (.tail _ (.tail _ (.head _)))) I),rfl,by have:=eH.1;omega,λi o h=>dQ _ _ (by have:=ad.bt h;omega) (cW _ _ (eH.2 _ _ (Bq.2 _ _ h)))⟩
 |again h h2 h3 cZ=>
  subst h;refine ai ?_;rw[h2];refine ai ?_;rw[hR];refine W.an trivial I I I (LB hb.LI hb.LH (H.get _ (.head _)) R yr) λr cq ⟨e,eH⟩=>⟨_,e,?_⟩
  have La:=eH.1;have H:=H.aO eH.2;refine ai ?_;refine W.cC (c:=[.s [],.ae,.i .u8 0,.s [],.ae,.ae]) H I I I I λdD ir H cW=>?_;refine ai ?_;refine W.bin (v:=.b true) I I I I ((uc _ _).trans (by rw[decide_eq_true h3])) ?_;refine ai ?_;refine W.b2N (v:=.al dD.next 0 1 (some 7) (some 1)) (c:=mw.cells) H I I I λeb iE H dQ=>?_;refine ai ?_;refine W.st (bM:=[.s [],.al dD.next 0 1 (some 7) (some 1),.i .u8 0,.s [],.ae,.ae]) H 1 I I I I I I λeM kj H fK=>?_;have cL:∀i o,J.get i=some o->eM.get i=some o:=λi o h=>fK _ _ (by have:=ad.bt h;omega) (dQ _ _ (cW _ _ (eH.2 _ _ (Bq.2 _ _ h))));refine ai ?_;have hV:Sl eM (some 7) (.al dD.next 0 1 (some 7) (some 1)) ([mw].map eN.A):=.al dD.next (some 1) [mw.A] [] (H.get _ (.head _)) (λy hy=>by rw[List.mem_singleton.1 hy];rfl) (.inr I);refine W.an trivial I I I (Va hf ar (eG.aO cL) cb Ft az (aC:=[mw]) (λτ c7=>(hV.aO λi o _=>c7 i o).vw) (by show 1<_;omega) hx aa) λr e9 ⟨v,e,hg,hO⟩=>⟨_,e,?_⟩
  have FG:=hO.1;have H:=H.aO hO.2;have ys:∀i o,J.get i=some o->e9.get i=some o:=λi o h=>hO.2 _ _ (cL _ _ h);cases cZ with
  |sG aQ=>
   rw[aQ];refine ai ?_;refine W.st H 3 I I I I I I λi_ qK H jG=>?_;refine ai ?_;exact aj.ret ⟨rfl,_,iZ (j8 I) (fX I (H.get _ (.tail _ (.tail _ (.tail _ (.head _))))) I),rfl,by omega,λi o h=>jG _ _ (by have:=ad.bt h;omega) (ys _ _ h)⟩
  |ap ac h0 aQ cC bJ=>
   obtain⟨fx,ao,pZ,j5,rS⟩:=hg aQ;have fP:=aa.2 ac (by rw[h0];simp);have pI:oZ (λ_=>True) e9 (fx[0]'(by rw[j5];exact Nat.one_pos)) ⟨fw L ac.2,[],(N.getD (ac.2-1) []).map (fw L)⟩:=by
    have h:=rS 0 (by rw[j5];exact Nat.one_pos) Nat.one_pos (by rw[h0];exact Nat.one_pos);have e:kq L B N k [mw][0] (x.cs[0]'(by rw[h0];exact Nat.one_pos))=⟨fw L ac.2,[],(N.getD (ac.2-1) []).map (fw L)⟩:=by
     have jo:x.cs[0]'(by rw[h0];exact Nat.one_pos)=ac:=by simp only[h0];rfl
     have au:pY B k ac.1 ac.2=true:=by rw[h0,citeB,Bool.and_eq_true] at aQ;exact aQ.1
     rw[jo];show cond (pY B k ac.1 ac.2) _ _=_;rw[au];rfl
    rw[e] at h;exact h
   obtain⟨l1,FL,Lj⟩:=U9 pI;obtain⟨o,c,oj,fz,mx,il,k7,_⟩:=ao.ff (j:=0) (by rw[j5];exact Nat.one_pos);have c1c:=cb.bY _ (List.getElem_mem (show ac.2-1<L.length by omega));have Bb:=Fx (L:=L) (n:=ac.2) (by omega) (by omega);rw[aQ];refine ai ?_;refine W.bin (v:=.b true) I I I I ((uc _ _).trans (by rw[decide_eq_true h3])) ?_;refine ai ?_;refine W.eV I I I I mx ?_;refine ai ?_;refine W.q_ (v:=.ag (bD (fw L ac.2))) il I I I (by show dI (some 4) (c.drop (0*shN (some 6)))=_;rw[k7,Lj];rfl) ?_;refine ai ?_;refine W.fu (r:=.b cC) hfn hb.LJ bJ I I I ?_ ?_
   ·refine oF ?_ (by have:=Ba e9;rw[iW] at this ⊢;exact this);have:=Fm.snap e9 true _ (fw L ac.2) (b.bn+1000) (Nat.le_refl _) (by rw[Bb];omega);rw[iW] at this ⊢;exact this
   cases cC with
   |true=>
    refine ai ?_;refine W.st H 3 I I I I I I λi_ qK H jG=>?_;refine ai ?_;exact aj.ret ⟨rfl,_,iZ (j8 I) (fX I (H.get _ (.tail _ (.tail _ (.tail _ (.head _))))) I),rfl,by omega,λi o h=>jG _ _ (by have:=ad.bt h;omega) (ys _ _ h)⟩
   |false=>
    refine ai ?_;refine W.st H 3 I I I I I I λi_ qK H jG=>?_;refine ai ?_;exact aj.ret ⟨rfl,_,iZ (j8 I) (fX I (H.get _ (.tail _ (.tail _ (.tail _ (.head _))))) I),rfl,by omega,λi o h=>jG _ _ (by have:=ad.bt h;omega) (ys _ _ h)⟩
 |step h h2 h3 i hi aQ cP=>
  subst h;refine ai ?_;rw[h2];refine ai ?_;rw[hR];refine W.an trivial I I I (LB hb.LI hb.LH (H.get _ (.head _)) R yr) λr cq ⟨e,eH⟩=>⟨_,e,?_⟩
  have La:=eH.1;have H:=H.aO eH.2;rw[aQ];refine ai ?_;refine W.cC (c:=[.s [],.ae,.i .u8 0,.s [],.ae,.ae]) H I I I I λdD ir H cW=>?_;refine ai ?_;refine W.bin (v:=.b false) I I I I ((uc _ _).trans (by rw[decide_eq_false h3])) ?_;refine ai ?_;rw[hR];refine W.eV I I I I (b2O hi) ?_;refine ai ?_;refine W.st (bM:=(R[i]).A.cells) H 0 I I I I I I λeb iE H dQ=>?_;have cL:∀i o,J.get i=some o->eb.get i=some o:=λi o h=>dQ _ _ (by have:=ad.bt h;omega) (cW _ _ (eH.2 _ _ (Bq.2 _ _ h)));obtain⟨hH,r1⟩:=FQ _ (List.getElem_mem hi);generalize R[i]=r at *;refine ai ?_;refine W.an trivial I I I (Va hf ar (eG.aO cL) cb Ft az (aC:=r.cB) (V:=slA true (some 7) (r.cB.map eN.A)) (λτ _=>yc λy hy=>by obtain⟨_,_,rfl⟩:=List.mem_map.1 hy;rfl) hH hx aa) λv e9 ⟨w,e,hg,hO⟩=>⟨_,e,?_⟩
  have FG:=hO.1;have H:=H.aO hO.2;have ys:∀i o,J.get i=some o->e9.get i=some o:=λi o h=>hO.2 _ _ (cL _ _ h);cases cP with
  |sG bJ=>
   rw[bJ];refine ai ?_;refine W.st H 2 I I I I I I λi_ qK H jG=>?_;refine ai ?_;exact aj.ret ⟨rfl,_,iZ (j8 I) (fX I (H.get _ (.tail _ (.tail _ (.head _)))) I),rfl,by omega,λi o h=>jG _ _ (by have:=ad.bt h;omega) (ys _ _ h)⟩
  |ap bJ cU gM gH gI ax e cu=>
   obtain⟨fx,ao,pZ,j5,rS⟩:=hg bJ;rw[bJ];refine ai ?_;refine W.bin (v:=.b false) I I I I ((uc _ _).trans (by rw[decide_eq_false h3])) ?_;refine ai ?_;refine W.fu hfn hb.app cu I I I ?_ ?_
   ·refine Am (r1 _) (by have:=Ba e9;rw[iW] at this ⊢;exact this) ?_;have fH:=FI bJ;have b2R:=U6 (L:=L) (B:=B) (N:=N) (k:=k) fH;refine Sl.Bp (m:=b.bn+999) ao pZ (yn (by rw[List.length_map,j5,b2R]) λj h1 h2=>?_);rw[List.length_map] at h2;have aA:=rS j h1 (by omega) (by omega);rw[List.getElem_map,U7 (by omega) (by omega)];have o0:=b2P cb.bY;refine b2M aA ?_ ?_ ?_ (by omega)
    ·exact(LF o0).1
    ·exact(LF o0).2.1
    ·exact(LF o0).2.2
   refine ai ?_;refine W.cC H I I I I λi_ qK H jG=>?_;refine ai ?_;refine W.cC H I I I I λgg o2 H ck=>?_;refine ai ?_;refine W.st H 1 I I I I I I λhP nr H hQ=>?_;refine ai ?_;refine W.st H 0 I I I I I I λj9 qB H l6=>?_;have Vv:∀i o,J.get i=some o->j9.get i=some o:=λi o h=>l6 _ _ (by have:=ad.bt h;omega) (hQ _ _ (by have:=ad.bt h;omega) (ck _ _ (jG _ _ (ys _ _ h))));by_cases he:e=0
   ·subst he;refine ai ?_;refine W.st H 4 I I I I I I λp2 du H eI=>?_;refine ai ?_;exact aj.ret ⟨rfl,_,iZ (j8 I) (fX I (H.get _ (.tail _ (.tail _ (.tail _ (.tail _ (.head _)))))) I),rfl,by omega,λi o h=>eI _ _ (by have:=ad.bt h;omega) (Vv _ _ h)⟩
   ·rw[if_neg he,if_neg he,if_neg he,if_neg he];refine ai ?_;refine W.st H 4 I I I I I I λp2 du H eI=>?_;refine ai ?_;exact aj.ret ⟨rfl,_,iZ (j8 I) (fX I (H.get _ (.tail _ (.tail _ (.tail _ (.tail _ (.head _)))))) I),rfl,by omega,λi o h=>eI _ _ (by have:=ad.bt h;omega) (Vv _ _ h)⟩
end
theorem Vw{α:Type}{l:List (List α)}{i:Nat}{x:α}(h:x∈l.getD i []):∃y∈l,x∈y:=by
 rw[List.getD_eq_getElem?_getD] at h;cases hl:l[i]? with
 |none=>rw[hl] at h;simp at h
 |some y=>rw[hl] at h;exact⟨y,List.mem_of_getElem? hl,h⟩
theorem b2S{L:List bX}{B N:List (List Nat)}{k n:Nat}(de:∀l∈N,∀n∈l,1<=n)(az:1<=k)(h:n∈needL L B N k):1<=n:=by
 unfold needL at h;split at h
 ·rename_i x _;cases hx:x.hyp with
  |true=>rw[hx,cond_true] at h;simp at h;omega
  |false=>
   rw[hx,cond_false] at h;have ao:=(List.mem_filter.1 h).2;unfold mu at ao;obtain⟨ac,_,hm⟩:=List.any_eq_true.1 ao;have hm:=of_decide_eq_true hm;unfold oV at hm;have:∃y∈N,n∈y:=by
    cases hb:kM L B k ac.1 ac.2 with
    |true=>rw[hb,cond_true] at hm;exact Vw (List.mem_filter.1 hm).1
    |false=>rw[hb,cond_false] at hm;exact Vw hm
   obtain⟨y,hy,b2T⟩:=this;exact de y hy n b2T
 ·simp at h
theorem FR{L:List bX}:∀ {j:Nat},∀l∈ndsL L j,∀n∈l,1<=n
 |0,l,h=>by simp[ndsL] at h
 |j+1,l,h=>by
  rw[ndsL] at h;rcases List.mem_append.1 h with h|h
  ·exact FR l h
  ·rw[List.mem_singleton.1 h];exact λn hn=>b2S FR (by omega) hn
section
variable {b:b8}{K:Nat->List AV->AV->Prop}(hfn:∀g aW r cw,K g aW r->K g aW cw->r=cw)
theorem A8.ok{L:List bX}(h:A8 b K L)(hd:∀x∈L,x.f.dep<=200):FJ b L (e8 L) (ndsL L L.length) where
 pW:=h.pW
 nl:=sB L _
 hq:=λl hl=>⟨by have:=(v3 hl).1;have:=h.le;omega,λn hn=>⟨FR l hl n hn,(v3 hl).2 n hn⟩⟩
 jO:=h.jO
 bY:=hd
 op:=λx hx=>by have:=h.oY.num x hx;omega
 lt:=by have:=h.le;omega
structure Vx(K:Nat->List AV->AV->Prop)(l:lN)(R:List dn)(L:List bX)(r eI gH gI ax:Nat):Prop where
 le:r<=L.length
 ok:∀k x,1<=k->(r=0\/k<r)->L[k-1]? =some x->∃g_,K oO [l.A true,x.f.A true] (.b g_)/\rh K L (e8 L) (ndsL L L.length) R k x g_ 0 0 0 0
 no:r≠0->eI≠0/\eI<256/\∀x,L[r-1]? =some x->∃g_,K oO [l.A true,x.f.A true] (.b g_)/\rh K L (e8 L) (ndsL L L.length) R r x g_ eI gH gI ax
include hfn
theorem Vy(hf:lg b K)(ho:Lb b K)(ar:Bg b K)(hb:LG b K){L:List bX}(cZ:A8 b K L)(hd:∀x∈L,x.f.dep<=200){l:lN}{R:List dn}(hR:l.rs=R.map dn.A)(yr:R.length<2^20)(FQ:∀r∈R,r.cB.length<2^20/\∀J,bG J (b.bn+1000) r.A=some r.A)(ri:∀J,bG J (b.bn+1000) (l.A true)=some (l.A true))(LK:b.ext mm=0/\b.pure mm=true)(hL:K mm [l.A true] (.b true))
  {r eI gH gI ax:Nat} (p5:Vx K l R L r eI gH gI ax) {br e yt yu yv fC:Nat} (c0:if r=0 then(if iL L L.length=0 then(br=0/\yt=0/\yu=0/\yv=0/\fC=0/\e=0) else(br=L.length/\yt=7/\yu=0/\yv=0/\fC=0/\e=180)) else(br=r/\yt=eI/\yu=gH/\yv=gI/\fC=ax/\e=180)) (body:bF) (vf:EM.body=some body):
  aj (b.aM K) EM.ntmps body (fR [l.A true,cD L]) ⟨.nil,0⟩ (FB EM.results (.a6 [.ag [ah br,.i .u8 (Int.ofNat yt),.i .u8 (Int.ofNat yu),ah yv,ah fC],ah e])):=by
 cases vf;refine W.args λz=>?_;have H:Has (⟨.nil,0⟩:ad) []:=Has.nil;have a5:=cZ.ne;have hle:=cZ.le;refine ai ?_;refine W.cy (c:=l.cells true) H I I I I I I λτ c1 H bB=>?_;refine ai ?_;refine W.cC (c:=[ah 0,.i .u8 0,.i .u8 0,ah 0,ah 0]) H c1 I I I λbh ea H bp=>?_;refine ai ?_;refine W.fu hfn LK hL I I I (nJ (ri _)) ?_;refine ai ?_;refine W.an trivial I I I (UW hfn hf ho.op ho.aW ho.UZ cZ.oY cZ.ne cZ.le cZ.jO ho.fB cZ.A9 cZ.pW cZ.A_) λv bU ⟨p,aq,cb,_,M⟩=>⟨_,aq,?_⟩
 have H:=H.aO M.2;have qM:=M.1;refine ai ?_;show bO _ _ _ _ _ _ _ _;have LL:=cZ.ok hd;have h2:bU.get 0=some (.cells (l.cells true)):=H.get _ (.tail _ (.head _));have h3:bU.get 1=some (.cells [ah 0,.i .u8 0,.i .u8 0,ah 0,ah 0]):=H.get _ (.head _);clear H;refine aj.block ?_;refine aj.loop (λm f τ=>∃k,k+m=L.length+1/\1<=k/\(r=0\/k<=r)/\(∀i o,bU.get i=some o->τ.get i=some o)/\sat [(1,cD L),(2,aK 0),(4,aK 1),(6,aK p),(8,ah k)] f) ?_ L.length ⟨1,by omega,by omega,by omega,λ_ _ h=>h,rfl,rfl,rfl,rfl,rfl,trivial⟩;rintro m f cq ⟨k,Iz,fM,US,c7,ao⟩;refine aj.norm _ ao λz=>?_;clear ao;have H:Has cq [(1,[ah 0,.i .u8 0,.i .u8 0,ah 0,ah 0]),(0,l.cells true)]:=(Has.nil.cons (c7 _ _ h2) (by simp)).cons (c7 _ _ h3) (by simp);have eG:=(cb.aO λi c h=>c7 i _ h).yl;by_cases hn:k<=L.length
 ·obtain⟨m,rfl⟩:∃k,m=k+1:=⟨m-1,by omega⟩
  have hx:L[k-1]? =some L[k-1]:=List.getElem?_eq_getElem (by omega);refine ai ?_;by_cases aS:k=r
  ·subst aS;obtain⟨A3,c1d,b2U⟩:=p5.no (by omega);obtain⟨g_,hA,bV⟩:=b2U _ hx;rw[if_neg (by omega)] at c0;obtain⟨rfl,rfl,rfl,rfl,rfl,rfl⟩:=c0;refine W.an trivial I I I (Vu hfn hf ar hb eG LL fM hn hR yr FQ ri hx (cZ.A_ _ _ hx fM) hA bV) λv dD ⟨aq,jv⟩=>⟨_,aq,?_⟩
   have FF:=jv.1;have H:=H.aO jv.2;refine ai ?_;refine W.cC H I I I I λeb iE H dQ=>?_;refine ai ?_;refine W.st H 0 I I I I I I λeM kj H fK=>?_;refine ai ?_;refine W.st H 1 I I I I I I λe9 ti H nS=>?_;refine ai ?_;refine aj.ret ?_;exact⟨rfl,_,iZ (fX I (H.get _ (.tail _ (.head _))) I) (j8 I),rfl⟩
  ·obtain⟨g_,hA,bV⟩:=p5.ok k _ fM (by omega) hx;refine W.an trivial I I I (Vu hfn hf ar hb eG LL fM hn hR yr FQ ri hx (cZ.A_ _ _ hx fM) hA bV) λv dD ⟨aq,jv⟩=>⟨_,aq,?_⟩
   have FF:=jv.1;have H:=H.aO jv.2;refine ai ?_;refine W.cC H I I I I λeb iE H dQ=>?_;refine ai ?_;refine W.st H 0 I I I I I I λeM kj H fK=>?_;refine ai ?_;exact⟨m,by omega,k+1,by omega,by omega,by omega,λi o h=>fK _ _ (by have:=ad.bt (jv.2 _ _ (c7 _ _ h));omega) (dQ _ _ (jv.2 _ _ (c7 _ _ h))),rfl,rfl,rfl,rfl,rfl,trivial⟩
 ·obtain rfl:m=0:=by omega
  have ny:r=0:=by have:=p5.le;omega
  rw[if_pos ny] at c0;have o0:=AZ (L:=L) (k:=L.length) a5 (Nat.le_refl _);have zO:=LL.pW.bY _ (List.getElem_mem (show L.length-1<L.length by omega));refine ai ?_;refine aj.exit ?_;show bO _ _ _ _ _ _ _ _;refine aj.norm [(1,cD L),(4,aK 1)] ⟨rfl,rfl,trivial⟩ λg=>?_;refine ai ?_;by_cases h0:iL L L.length=0
  ·rw[if_pos h0] at c0;obtain⟨rfl,rfl,rfl,rfl,rfl,rfl⟩:=c0;refine ai ?_;refine W.st H 0 I I I I I I λe9 ti H nS=>?_;refine ai ?_;refine aj.ret ?_;exact⟨rfl,_,iZ (fX I (H.get _ (.head _)) I) (j8 I),rfl⟩
  ·rw[if_neg h0] at c0;obtain⟨rfl,rfl,rfl,rfl,rfl,rfl⟩:=c0;refine ai ?_;refine W.st H 0 I I I I I I λe9 ti H nS=>?_;refine ai ?_;refine aj.ret ?_;exact⟨rfl,_,iZ (fX I (H.get _ (.head _)) I) (j8 I),rfl⟩
end
def dF.a2(g:dF):List Fm:=g.eZ::(g.hyps++g.rest)
def rj(F:Fm)(gs:List dF):List Fm:=F::gs.flatMap dF.a2
def p6(gs:List dF)(j:Nat):Nat:=1+((gs.take j).flatMap dF.a2).length
theorem b2V{F:Fm}{gs:List dF}{j:Nat}(aA:j<gs.length){t:Nat}{x:Fm}(h:(gs[j]).a2[t]? =some x):(rj F gs)[p6 gs j+t]? =some x:=by
 have e:gs.flatMap dF.a2=(gs.take j).flatMap dF.a2++((gs[j]).a2++(gs.drop (j+1)).flatMap dF.a2):=by
  rw[<-List.flatMap_cons,← List.drop_eq_getElem_cons aA,← List.flatMap_append,List.take_append_drop]
 have ht:=(List.getElem?_eq_some_iff.1 h).1;unfold rj p6;rw[show 1+((gs.take j).flatMap dF.a2).length+t=((gs.take j).flatMap dF.a2).length+t+1 from by omega,List.getElem?_cons_succ,e,List.getElem?_append_right (by omega),show((gs.take j).flatMap dF.a2).length+t-((gs.take j).flatMap dF.a2).length=t from by omega,List.getElem?_append_left ht,h]
theorem b2W{gs:List dF}{j:Nat}(aA:j<gs.length):p6 gs (j+1)=p6 gs j+1+(gs[j]).hyps.length+(gs[j]).rest.length:=by
 unfold p6;rw[List.take_succ_eq_append_getElem aA,List.flatMap_append,List.length_append];have:([gs[j]].flatMap dF.a2).length=1+(gs[j]).hyps.length+(gs[j]).rest.length:=by
  simp[dF.a2];omega
 omega
theorem b2X{F:Fm}{gs:List dF}:p6 gs gs.length=(rj F gs).length:=by
 unfold p6 rj;rw[List.take_length,List.length_cons];omega
section
variable {b:b8}{K:Nat->List AV->AV->Prop}
theorem b2Y(hh:bk (b.aM K) E2 Kw){F:Fm}{gs:List dF}{J:ad}{q:Nat}(aS:J.next=q):
  bu (b.aM K) 0 (.f (.func E2) [] []) [.ag (bD F),g9 gs] J (λr τ=>r= .ok (.f (.func AR) [] [aK q,aK (q+1)])/\τ.get q=some (.cells (bD F))/\τ.get (q+1)=some (.cells [g9 gs])/\τ.next=q+2/\dC J τ):=by
 refine W.code hh.e hh.p hh.f I I I I λz=>?_;have H:Has J []:=Has.nil;refine ai ?_;refine W.cy (c:=bD F) H aS I I I I I λτ hn H bB=>?_;refine ai ?_;have hg:(g9 gs).cells=[g9 gs]:=by cases gs<;>rfl
 have mS:(g9 gs).val=true:=by cases gs<;>rfl
 refine W.cy (c:=[g9 gs]) H hn I I I mS hg λbh gX H bp=>?_;refine ai ?_;exact aj.ret ⟨rfl,rfl,H.get _ (.tail _ (.head _)),H.get _ (.head _),by omega,by omega,λi o h=>bp _ _ (bB _ _ h)⟩
theorem b2Z(hh:bk (b.aM K) AR Kx){F:Fm}{gs:List dF}{J:ad}{q:Nat}(h1:J.get q=some (.cells (bD F)))(h2:J.get (q+1)=some (.cells [g9 gs]))(iY:Nat->Prop)(vZ:¬iY q/\¬iY (q+1))(j5:gs.length<2^20)(b3a:∀g∈gs,g.hyps.length<2^20/\g.rest.length<2^20):
  Yields (b.aM K) AR [aK q,aK (q+1)] (rj F gs).length (λi _ _ args=>∃f,(rj F gs)[i]? =some f/\args=[.ag (bD f)]) J iY:=by
 intro gd lj oW cA hy UI A3 hlt hs;refine W.nL hh.e hh.p hh.f I I I λz=>?_;have H:Has oW [(q,bD F),(q+1,[g9 gs])]:=(Has.nil.cons (A3 _ _ h2) (by simp)).cons (A3 _ _ h1) (by simp);have hH:=b2X (F:=F) (gs:=gs);have b3b:p6 gs 0=1:=rfl;refine ai ?_;refine W.lh I I I (hy 0 iY oW _ (by show 0<_+1;omega) (Nat.le_refl _) ⟨F,rfl,rfl⟩ hs) λr ek ⟨e,Vz,K3,sa⟩=>⟨_,e,?_⟩
 have hp:=sa.next;have H:Has ek [(q,bD F),(q+1,[g9 gs])]:=(Has.nil.cons (sa.aO _ _ vZ.2 (H.get _ (.tail _ (.head _)))) (by simp)).cons (sa.aO _ _ vZ.1 (H.get _ (.head _))) (by simp);have b3c:∀c,Vz c->c<ek.next:=λc aa=>by
  rcases sa.own c aa with h|h
  ·have:=hlt c h;omega
  ·omega
 have mS:g8 ek (some 6) (g9 gs) (gs.map dF.A):=yc λy hy=>by obtain⟨g,_,rfl⟩:=List.mem_map.1 hy;rfl
 refine ai ?_;show bO _ _ _ _ _ _ _ _;have step:∀(i:Nat) (V:Nat->Prop) (τ:ad) (f:Fm),(rj F gs)[i]? =some f->oW.next<=τ.next->lj i V τ->bu (b.aM K) 0 gd [.ag (bD f)] τ (λr bh=>r= .ok (.b true)/\∃W',lj (i+1) W' bh/\pU V W' τ bh):=λi V τ f hf hn hs=>hy i V τ _ (List.getElem?_eq_some_iff.1 hf).1 hn ⟨f,hf,rfl⟩ hs;refine aj.each gs.length (λj f τ=>∃V,lj (p6 gs j) V τ/\oW.next<=τ.next/\(∀c,V c->c<τ.next)/\sat [(0,gd),(14,g9 gs)] f) (by omega) ⟨Vz,by rw[b3b];exact K3,hp,b3c,rfl,rfl,trivial⟩ I I (λj g τ aA aV hi hm=>?_) (λg τ aV hi=>?_)
 ·obtain⟨V,hs,hn,hV,c6,kr,_⟩:=aV;refine aj.norm [(0,gd),(14,g9 gs),(16,ah j),(15,ah gs.length)] ⟨c6,kr,hi,hm,trivial⟩ λg=>?_;have H:Has τ []:=Has.nil;have mS:g8 τ (some 6) (g9 gs) (gs.map dF.A):=yc λy hy=>by obtain⟨g,_,rfl⟩:=List.mem_map.1 hy;rfl
  refine ai ?_;have c1e:=b3a _ (List.getElem_mem aA);have dE:=λt x h=>b2V (F:=F) aA (t:=t) (x:=x) h;have jI:=b2W aA;generalize gs[j]=gt at *;refine W.ko (c:=gt.A.cells) H I I I I I I I λbh ea H bp=>?_;have K4:=cA _ _ _ bh hs (λc o _=>bp c o) (by omega);have zr:¬V τ.next:=λh=>by have:=hV _ h;omega
  generalize LM:τ.next=lV at *;refine ai ?_;refine W.lh I I I (step _ V bh gt.eZ (dE 0 _ I) (by omega) K4) λr bU ⟨e,LN,b3d,q8⟩=>⟨_,e,?_⟩
  have eT:=q8.next;have qC:¬LN lV:=λh=>by
   rcases q8.own _ h with h|h
   ·exact zr h
   ·omega
  have b3e:∀c,LN c->c<bU.next:=λc aa=>by
   rcases q8.own c aa with h|h
   ·have:=hV c h;omega
   ·omega
  have H:Has bU [(lV,gt.A.cells)]:=Has.nil.cons (q8.aO _ _ zr (H.get _ (.head _))) (by simp);refine ai ?_;show bO _ _ _ _ _ _ _ _;refine aj.each gt.hyps.length (λi f τ=>∃V,lj (p6 gs j+1+i) V τ/\τ.get lV=some (.cells gt.A.cells)/\¬V lV/\lV<τ.next/\oW.next<=τ.next/\(∀c,V c->c<τ.next)/\sat [(0,gd),(5,aK lV),(14,g9 gs),(15,ah gs.length),(16,ah j),(26,slA true (some 5) (gt.hyps.map pX))] f) (by omega) ⟨LN,b3d,H.get _ (.head _),qC,by omega,by omega,b3e,rfl,rfl,rfl,rfl,rfl,rfl,trivial⟩ I I (λi g τ gp aV hi hm=>?_) (λg τ aV hi=>?_)
  ·obtain⟨V,hs,wa,LO,HU,hn,hV,c6,c_,kr,p7,sH,b3f,_⟩:=aV;refine aj.norm [(0,gd),(5,aK lV),(14,g9 gs),(15,ah gs.length),(16,ah j),(26,slA true (some 5) (gt.hyps.map pX)),(28,ah i),(27,ah gt.hyps.length)] ⟨c6,c_,kr,p7,sH,b3f,hi,hm,trivial⟩ λg=>?_;have H:Has τ []:=Has.nil;refine ai ?_;refine W.ko (c:=.b true::bD gt.hyps[i]) H I I I I I I I λcq fl H b5=>?_;have LP:=cA _ _ _ cq hs (λc o _=>b5 c o) (by omega);refine ai ?_;refine W.lh I I I (step _ V cq gt.hyps[i] (by rw[Nat.add_assoc];exact dE (1+i) _ (by rw[Nat.add_comm];exact(List.getElem?_append_left gp).trans (List.getElem?_eq_getElem gp))) (by omega) LP) λr dD ⟨e,LQ,LR,wb⟩=>⟨_,e,?_⟩
   have ir:=wb.next;refine ai ?_;refine⟨rfl,rfl,LQ,LR,wb.aO _ _ LO (b5 _ _ wa),λh=>?_,by omega,by omega,λc aa=>?_,rfl,rfl,rfl,rfl,rfl,rfl,trivial⟩
   ·rcases wb.own _ h with h|h
    ·exact LO h
    ·omega
   ·rcases wb.own c aa with h|h
    ·have:=hV c h;omega
    ·omega
  ·obtain⟨V,hs,wa,LO,HU,hn,hV,c6,c_,kr,p7,sH,_⟩:=aV;show bO _ _ _ _ _ _ _ _;refine aj.norm [(0,gd),(5,aK lV),(14,g9 gs),(15,ah gs.length),(16,ah j)] ⟨c6,c_,kr,p7,sH,trivial⟩ λg=>?_;have H:Has τ [(lV,gt.A.cells)]:=Has.nil.cons wa (by simp);refine ai ?_;refine aj.each gt.rest.length (λi f τ=>∃V,lj (p6 gs j+1+gt.hyps.length+i) V τ/\oW.next<=τ.next/\(∀c,V c->c<τ.next)/\sat [(0,gd),(14,g9 gs),(15,ah gs.length),(16,ah j),(43,slA true (some 4) (gt.rest.map λF=>.ag (bD F)))] f) (by omega) ⟨V,hs,hn,hV,rfl,rfl,rfl,rfl,rfl,trivial⟩ I I (λi g τ gp aV hi hm=>?_) (λg τ aV hi=>?_)
   ·obtain⟨V,hs,hn,hV,c6,kr,p7,sH,b3g,_⟩:=aV;refine aj.norm [(0,gd),(14,g9 gs),(15,ah gs.length),(16,ah j),(43,slA true (some 4) (gt.rest.map λF=>.ag (bD F))),(45,ah i),(44,ah gt.rest.length)] ⟨c6,kr,p7,sH,b3g,hi,hm,trivial⟩ λg=>?_;have H:Has τ []:=Has.nil;refine ai ?_;refine W.ko (c:=bD gt.rest[i]) H I I I I I I I λcq fl H b5=>?_;have LP:=cA _ _ _ cq hs (λc o _=>b5 c o) (by omega);refine ai ?_;refine W.lh I I I (step _ V cq gt.rest[i] (by rw[Nat.add_assoc,Nat.add_assoc];exact dE (1+(gt.hyps.length+i)) _ (by rw[Nat.add_comm];exact(List.getElem?_append_right (Nat.le_add_right _ _)).trans (by rw[Nat.add_sub_cancel_left];exact List.getElem?_eq_getElem gp))) (by omega) LP) λr dD ⟨e,LQ,LR,wb⟩=>⟨_,e,?_⟩
    have ir:=wb.next;refine ai ?_;refine⟨rfl,rfl,LQ,LR,by omega,λc aa=>?_,rfl,rfl,rfl,rfl,rfl,trivial⟩;rcases wb.own c aa with h|h
    ·have:=hV c h;omega
    ·omega
   ·obtain⟨V,hs,hn,hV,c6,kr,p7,sH,_⟩:=aV;exact⟨sH,p7,V,by rw[jI];exact hs,hn,hV,c6,kr,trivial⟩
 ·obtain⟨V,hs,_⟩:=aV;exact⟨.inr I,rfl,V,by rw[<-hH];exact hs⟩
end
abbrev j_(r:dn)(F:Fm)(gs:List dF)(cU gM:AV):List AV:=r.A.cells++(bD F++[g9 gs,cU,gM])
abbrev o6(a b c:Nat):AV:=.ag [.i .u8 (Int.ofNat a),ah b,ah c]
structure FT(r:dn)(gs:List dF):Prop where
 len:gs.length=r.cB.length
 lt:gs.length<2^20
 hy:∀i (h:i<gs.length) (h':i<r.cB.length),(gs[i]).hyps.length=(r.cB[i]).hyps.length
 hl:∀g∈gs,g.hyps.length<2^20/\g.rest.length<2^20
section
variable {b:b8}{K:Nat->List AV->AV->Prop}
theorem b3h(hh:bk (b.aM K) tN Ky){r:dn}{F:Fm}{gs:List dF}{cU gM:AV}{J:ad}{aC:Nat}(ao:J.get aC=some (.cells (j_ r F gs cU gM)))(aa:FT r gs):
  bu (b.aM K) 0 (.f (.func tN) [aK aC] []) [] J (λv τ=>v= .ok (o6 0 0 0)/\dC J τ):=by
 refine W.mv hh.e hh.p hh.f I I I λz=>?_;have H:Has J [(aC,j_ r F gs cU gM)]:=Has.nil.cons ao (by simp);have hlen:=aa.len;have hlt:=aa.lt;refine ai ?_;refine W.cC (c:=[.i .u8 0,ah 0,ah 0]) H I I I I λτ c1 H bB=>?_;refine ai ?_;show bO _ _ _ _ _ _ _ _;refine aj.each r.cB.length (λj f aH=>dC τ aH/\sat [(0,aK aC),(2,aK J.next),(22,slA true (some 7) (r.cB.map eN.A))] f) (by omega) ⟨⟨Nat.le_refl _,λ_ _ h=>h⟩,rfl,rfl,rfl,trivial⟩ I I (λj g aH aA aV hi hm=>?_) (λg aH aV hi=>?_)
 ·obtain⟨M,c6,bQ,b3i,_⟩:=aV;refine aj.norm [(0,aK aC),(2,aK J.next),(22,slA true (some 7) (r.cB.map eN.A)),(24,ah j),(23,ah r.cB.length)] ⟨c6,bQ,b3i,hi,hm,trivial⟩ λg=>?_;have H:=H.aO M.2;have hy:=aa.hy j (by omega) aA;have hl:=(aa.hl _ (List.getElem_mem (show j<gs.length by omega))).1;refine ai ?_;refine W.cC H I I I I λbh ea H bp=>?_;refine ai ?_;refine W.st (bM:=(r.cB[j]).cells) H 0 I I I I I I λbU eT H bc=>?_;refine ai ?_;refine⟨rfl,rfl,⟨by have:=M.1;omega,λi o h=>bc _ _ (by have:=ad.bt (M.2 _ _ h);omega) (bp _ _ (M.2 _ _ h))⟩,rfl,rfl,rfl,trivial⟩
 ·obtain⟨M,c6,bQ,_⟩:=aV;refine aj.norm [(2,aK J.next)] ⟨bQ,trivial⟩ λg=>?_;have H:Has aH [(J.next,[.i .u8 0,ah 0,ah 0])]:=Has.nil.cons (M.2 _ _ (H.get _ (.head _))) (by simp);refine ai ?_;refine W.st H 0 I I I I I I λbU eT H bc=>?_;refine ai ?_;exact aj.ret ⟨rfl,_,sA (fX I (H.get _ (.head _)) I),rfl,by have:=M.1;omega,λi o h=>bc _ _ (by have:=ad.bt h;omega) (M.2 _ _ (bB _ _ h))⟩
abbrev lO(p:Fm×Fm):AV:=.ag (bD p.1++bD p.2)
abbrev FU(p:Nat×Nat):AV:=o6 2 p.1 p.2
structure o7(J:ad)(dO e1:Nat)(P:List (Fm×Fm))(Q:List (Nat×Nat))(X:Nat->Prop):Prop where
 ex:∃v w,J.get dO=some (.cells [v])/\J.get e1=some (.cells [w])/\Sl J (some 8) v (P.map lO)/\Sl J (some 3) w (Q.map FU)/\(P=[]->v= .ae)/\∀o,(v.at? =some o->¬X o/\o≠dO/\o≠e1)/\(w.at? =some o->¬X o/\o≠dO/\o≠e1/\v.at? ≠some o)
theorem o7.sub{J:ad}{dO e1:Nat}{P:List (Fm×Fm)}{Q:List (Nat×Nat)}{X LS:Nat->Prop}(h:o7 J dO e1 P Q X)(hx:∀i,LS i->i<J.next->X i):o7 J dO e1 P Q LS:=by
 obtain⟨v,w,cc,cI,au,hw,hn,hl⟩:=h.ex;exact⟨v,w,cc,cI,au,hw,hn,λo=>⟨λe=>⟨λmq=>((hl o).1 e).1 (hx o mq (au.lt e)),((hl o).1 e).2⟩,λe=>⟨λmq=>((hl o).2 e).1 (hx o mq (hw.lt e)),((hl o).2 e).2⟩⟩⟩
theorem o7.aO{J τ:ad}{dO e1:Nat}{P:List (Fm×Fm)}{Q:List (Nat×Nat)}{X:Nat->Prop}(h:o7 J dO e1 P Q X)(k:∀i o,J.get i=some o->τ.get i=some o):o7 τ dO e1 P Q X:=by
 obtain⟨v,w,cc,cI,au,hw,hn,hl⟩:=h.ex;exact⟨v,w,k _ _ cc,k _ _ cI,au.aO λi o _=>k i o,hw.aO λi o _=>k i o,hn,hl⟩
structure b3j(X:Nat->Prop)(dO e1:Nat)(J τ:ad):Prop where
 next:J.next<=τ.next
 aO:∀i o,X i->i≠dO->i≠e1->J.get i=some o->τ.get i=some o
theorem LU(hh:bk (b.aM K) mn E3){J:ad}{dO e1:Nat}{X:Nat->Prop}{P:List (Fm×Fm)}{Q:List (Nat×Nat)}(hA:o7 J dO e1 P Q X)(c1f:dO≠e1)(mq:∀i,X i->i<J.next)(S F:Fm)(i j:Nat)(eG:P.length<2^30)(b0:Q.length<2^30):
  bu (b.aM K) 0 (.f (.func mn) [] [aK dO,aK e1]) [.ag (bD S),.ag (bD F),ah i,ah j] J (λv τ=>v= .ok (.a6 [])/\o7 τ dO e1 (P++[(S,F)]) (Q++[(i,j)]) X/\b3j X dO e1 J τ):=by
 refine W.nL hh.e hh.p hh.f I I I λz=>?_;obtain⟨v,w,cc,cI,au,hw,hn,hl⟩:=hA.ex;have a5G:=ad.bt cc;have c1g:=ad.bt cI;have H:Has J [(dO,[v]),(e1,[w])]:=(Has.nil.cons cI (by simp)).cons cc (by simp;omega);refine ai ?_;refine W.cy (c:=bD S) H I I I I I I λτ c1 H bB=>?_;refine ai ?_;refine W.cy (c:=bD F) H I I I I I I λbh ea H bp=>?_;have cL:∀i o,J.get i=some o->bh.get i=some o:=λi o h=>bp _ _ (bB _ _ h);have qU:=au.aO (τ:=bh) λi o _=>cL i o;have jE:=hw.aO (τ:=bh) λi o _=>cL i o;refine ai ?_;refine W.pu (c:=bD S++bD F) (lO (S,F)) qU I I I I I I I I I (by rw[List.length_map];omega) λbA bU oT oU _ eT bc=>?_;have hlt:∀o,v.at? =some o->o<J.next:=λo h=>au.lt h;have b3k:∀o,w.at? =some o->o<J.next:=λo h=>hw.lt h;have H:Has bU [(dO,[v]),(e1,[w])]:=(Has.nil.cons (bc _ _ (λe=>((hl _).1 e).2.2 I) (cL _ _ cI)) (by simp)).cons (bc _ _ (λe=>((hl _).1 e).2.1 I) (cL _ _ cc)) (by simp;omega);refine ai ?_;refine W.st (bM:=[bA]) H 0 I I I I oT.j7 (by rw[oT.kL];rfl) λcq fl H b5=>?_;have Bd:=jE.aO (τ:=cq) λi o hi ho=>b5 _ _ ((hl i).2 hi).2.1 (bc _ _ ((hl i).2 hi).2.2.2 ho);refine ai ?_;refine W.pu (c:=[.i .u8 2,ah i,ah j]) (FU (i,j)) Bd I I I I I I I I I (by rw[List.length_map];omega) λav dD LV re _ ir cW=>?_;have H:Has dD [(dO,[bA]),(e1,[w])]:=(Has.nil.cons (cW _ _ (λe=>((hl _).2 e).2.2.1 I) (H.get _ (.tail _ (.head _)))) (by simp)).cons (cW _ _ (λe=>((hl _).2 e).2.1 I) (H.get _ (.head _))) (by simp;omega);refine ai ?_;refine W.st (bM:=[av]) H 1 I I I I LV.j7 (by rw[LV.kL];rfl) λeb iE H dQ=>?_;refine ai ?_;refine⟨.inr I,rfl,⟨bA,av,H.get _ (.head _),H.get _ (.tail _ (.head _)),?_,?_,λe=>absurd e (by simp),λo=>⟨λe=>?_,λe=>?_⟩⟩,by omega,λi o VA Jt b3l ho=>dQ _ _ b3l (cW _ _ (λe=>((hl _).2 e).1 VA) (b5 _ _ Jt (bc _ _ (λe=>((hl _).1 e).1 VA) (cL _ _ ho))))⟩
 ·rw[List.map_append];exact oT.aO λi o hi ho=>dQ _ _ (λe=>by rw[oU] at hi;cases hi;omega) (cW _ _ (λe=>by rw[oU] at hi;cases hi;have:=b3k _ e;omega) (b5 _ _ (λe=>by rw[oU] at hi;cases hi;omega) ho))
 ·rw[List.map_append];exact LV.aO λi o hi ho=>dQ _ _ (λe=>by rw[re] at hi;cases hi;omega) ho
 ·rw[oU] at e;cases e;exact⟨λh=>by have:=mq _ h;omega,by omega,by omega⟩
 ·rw[re] at e;cases e;exact⟨λh=>by have:=mq _ h;omega,by omega,by omega,λe=>by rw[oU] at e;have:=Option.some.inj e;omega⟩
end
def Br:Fm:=.mk 0 [] none none
def o3(r:dn)(gs:List dF)(j:Nat):List (Fm×Fm):=(List.range j).map λi=>((r.cB.getD i mw).f,(gs.getD i iN).eZ)
def sI(r:dn)(gs:List dF)(i t:Nat):List (Fm×Fm):=(List.range t).map λt=>((r.cB.getD i mw).hyps.getD t Br,(gs.getD i iN).hyps.getD t Br)
def pr2(r:dn)(gs:List dF):Nat->List (Fm×Fm)
 |0=>[]
 |j+1=>pr2 r gs j++sI r gs j (gs.getD j iN).hyps.length
def rk(j:Nat):List (Nat×Nat):=(List.range j).map λi=>(i,0)
def sJ(i t:Nat):List (Nat×Nat):=(List.range t).map λt=>(i,t+1)
def ue(gs:List dF):Nat->List (Nat×Nat)
 |0=>[]
 |j+1=>ue gs j++sJ j (gs.getD j iN).hyps.length
def my(r:dn)(F:Fm)(gs:List dF):List (Fm×Fm):=o3 r gs r.cB.length++pr2 r gs r.cB.length++[(r.eZ,F)]
def Bs(r:dn)(gs:List dF):List (Nat×Nat):=rk r.cB.length++ue gs r.cB.length++[(r.cB.length,0)]
theorem p8{α:Type}{l:List α}{i:Nat}{d:α}(h:i<l.length):l.getD i d=l[i]:=by rw[List.getD_eq_getElem?_getD,List.getElem?_eq_getElem h];rfl
theorem LW{r:dn}{gs:List dF}(h:∀g∈gs,g.hyps.length<2^10):∀ {j:Nat},(pr2 r gs j).length<=j*2^10/\(ue gs j).length<=j*2^10
 |0=>⟨Nat.le_refl _,Nat.le_refl _⟩
 |j+1=>by
  obtain⟨h1,h2⟩:=LW (r:=r) (gs:=gs) h (j:=j);have:(gs.getD j iN).hyps.length<2^10:=by
   rw[List.getD_eq_getElem?_getD];cases hx:gs[j]? with
   |none=>decide
   |some g=>exact h g (List.mem_of_getElem? hx)
  rw[pr2,ue,List.length_append,List.length_append];unfold sI sJ;rw[List.length_map,List.length_range,List.length_map,List.length_range];omega
section
variable {b:b8}{K:Nat->List AV->AV->Prop}(hfn:∀g aW r cw,K g aW r->K g aW cw->r=cw)
include hfn
theorem b3m(hh:bk (b.aM K) tO Kz)(h1:bk (b.aM K) mn E3)(b3n:b.ext oP=0/\b.pure oP=true){r:dn}{F:Fm}{gs:List dF}{J:ad}{aC:Nat}(ao:J.get aC=some (.cells (j_ r F gs .ae .ae)))(aa:FT r gs)(DA:gs.length<2^10)(Bt:∀g∈gs,g.hyps.length<2^10){cU gM:AV}{at_ e:Nat}
  (ju:∀p∈my r F gs,p.1.dep<=200/\p.2.dep<=200) (j0:(AV.ag [cU,gM]).val=true) (fz:e≠0->at_<(Bs r gs).length) (b3:K oP [slA true (some 8) ((my r F gs).map lO),.ag [.ae,.ae]] (.a6 [.ag [cU,gM],ah at_,ah e])):
  bu (b.aM K) 0 (.f (.func tO) [aK aC] []) [] J (λv τ=>(if e=0 then v= .ok (o6 0 0 0)/\τ.get aC=some (.cells (j_ r F gs cU gM)) else v= .ok (FU ((Bs r gs).getD at_ (0,0)))/\τ.get aC=some (.cells (j_ r F gs .ae .ae)))/\J.next<=τ.next/\∀i o,i≠aC->J.get i=some o->τ.get i=some o):=by
 refine W.mv hh.e hh.p hh.f I I I λz=>?_;have H:Has J [(aC,j_ r F gs .ae .ae)]:=Has.nil.cons ao (by simp);have hlen:=aa.len;have VB:=ad.bt ao;refine ai ?_;generalize aS:J.next=q;refine W.cC (c:=[.i .u8 0,ah 0,ah 0]) H aS I I I λτ c1 H bB=>?_;refine ai ?_;refine W.cC (c:=[.ae]) H c1 I I I λbh ea H bp=>?_;refine ai ?_;refine W.cC (c:=[.ae]) H ea I I I λbU eT H bc=>?_;have cL:∀i o,J.get i=some o->bU.get i=some o:=λi o h=>bc _ _ (bp _ _ (bB _ _ h));refine ai ?_;show bO _ _ _ _ _ _ _ _;have hA0:o7 bU (q+1) (q+2) [] [] (λi=>i<q+1):=⟨.ae,.ae,H.get _ (.tail _ (.head _)),H.get _ (.head _),.nil,.nil,λ_=>rfl,λo=>⟨(λh=>by cases h),(λh=>by cases h)⟩⟩
 have gG:bU.get q=some (.cells [.i .u8 0,ah 0,ah 0]):=H.get _ (.tail _ (.tail _ (.head _)));have q7:=cL _ _ ao;have m7:vA (b.aM K) mn:=(show qX (b.aM K) [mn] from λg hg=>by rw[List.mem_singleton.1 hg];exact⟨h1.e,.inr ⟨h1.p,_,_,h1.f,rfl,rfl⟩⟩).one I;clear H;refine aj.each r.cB.length (λj f τ=>o7 τ (q+1) (q+2) (o3 r gs j) (rk j) (λi=>i<q+1)/\(∀i o,i<q+1->bU.get i=some o->τ.get i=some o)/\q+3<=τ.next/\sat [(0,aK aC),(2,aK q),(3,aK (q+1)),(4,aK (q+2)),(5,.f (.func mn) [] [aK (q+1),aK (q+2)]),(20,slA true (some 7) (r.cB.map eN.A))] f) (by omega) ⟨hA0,λ_ _ _ h=>h,by omega,rfl,rfl,rfl,rfl,rfl,rfl,trivial⟩ I I (λj g τ aA aV hi hm=>?_) (λg τ aV hi=>?_)
 ·obtain⟨hA,c7,hn,c6,bQ,cc,cI,c_,LX,_⟩:=aV;refine aj.norm [(0,aK aC),(2,aK q),(3,aK (q+1)),(4,aK (q+2)),(5,.f (.func mn) [] [aK (q+1),aK (q+2)]),(20,slA true (some 7) (r.cB.map eN.A)),(22,ah j),(21,ah r.cB.length)] ⟨c6,bQ,cc,cI,c_,LX,hi,hm,trivial⟩ λg=>?_;have H:Has τ [(aC,j_ r F gs .ae .ae)]:=Has.nil.cons (c7 _ _ (by omega) q7) (by simp);refine ai ?_;refine W.cC H I I I I λgg o2 H ck=>?_;refine ai ?_;refine W.st (bM:=(r.cB[j]).cells) H 0 I I I I I I λhP nr H hQ=>?_;have o4:∀i o,τ.get i=some o->hP.get i=some o:=λi o h=>hQ _ _ (by have:=ad.bt h;omega) (ck _ _ h);refine ai ?_;refine W.an m7 I I I (LU h1 (hA.aO o4) (by omega) (λi hi=>by omega) (r.cB[j]).f (gs[j]'(by omega)).eZ j 0 (by unfold o3;rw[List.length_map,List.length_range];omega) (by unfold rk;rw[List.length_map,List.length_range];omega)) λv j9 ⟨aq,js,az⟩=>⟨_,aq,?_⟩
  have xc:=az.next;have H:Has j9 [(aC,j_ r F gs .ae .ae)]:=Has.nil.cons (az.aO _ _ (by omega) (by omega) (by omega) (o4 _ _ (c7 _ _ (by omega) q7))) (by simp);refine ai ?_;refine⟨rfl,rfl,?_,λi o hi ho=>az.aO _ _ hi (by omega) (by omega) (o4 _ _ (c7 _ _ hi ho)),by omega,rfl,rfl,rfl,rfl,rfl,rfl,trivial⟩;have aN:o3 r gs (j+1)=o3 r gs j++[((r.cB[j]).f,(gs[j]'(by omega)).eZ)]:=by
   unfold o3;rw[List.range_succ,List.map_append,List.map_cons,List.map_nil,p8 aA,p8 (by omega)]
  have a4:rk (j+1)=rk j++[(j,0)]:=by unfold rk;rw[List.range_succ,List.map_append];rfl
  rw[aN,a4];exact js
 ·obtain⟨hA,c7,hn,c6,bQ,cc,cI,c_,_⟩:=aV;show bO _ _ _ _ _ _ _ _;refine aj.norm [(0,aK aC),(2,aK q),(3,aK (q+1)),(4,aK (q+2)),(5,.f (.func mn) [] [aK (q+1),aK (q+2)])] ⟨c6,bQ,cc,cI,c_,trivial⟩ λg=>?_;have H:Has τ [(aC,j_ r F gs .ae .ae)]:=Has.nil.cons (c7 _ _ (by omega) q7) (by simp);refine ai ?_;show bO _ _ _ _ _ _ _ _;have ij:(o3 r gs r.cB.length).length=r.cB.length/\(rk r.cB.length).length=r.cB.length:=by unfold o3 rk;simp
  refine aj.each r.cB.length (λj f τ=>o7 τ (q+1) (q+2) (o3 r gs r.cB.length++pr2 r gs j) (rk r.cB.length++ue gs j) (λi=>i<q+1)/\(∀i o,i<q+1->bU.get i=some o->τ.get i=some o)/\q+3<=τ.next/\sat [(0,aK aC),(2,aK q),(3,aK (q+1)),(4,aK (q+2)),(5,.f (.func mn) [] [aK (q+1),aK (q+2)]),(45,slA true (some 7) (r.cB.map eN.A))] f) (by omega) ⟨by rw[pr2,ue,List.append_nil,List.append_nil];exact hA,c7,hn,rfl,rfl,rfl,rfl,rfl,rfl,trivial⟩ I I (λj g τ aA aV hi hm=>?_) (λg τ aV hi=>?_)
  ·obtain⟨hA,c7,hn,c6,bQ,cc,cI,c_,Bu,_⟩:=aV;refine aj.norm [(0,aK aC),(2,aK q),(3,aK (q+1)),(4,aK (q+2)),(5,.f (.func mn) [] [aK (q+1),aK (q+2)]),(45,slA true (some 7) (r.cB.map eN.A)),(47,ah j),(46,ah r.cB.length)] ⟨c6,bQ,cc,cI,c_,Bu,hi,hm,trivial⟩ λg=>?_;have H:Has τ [(aC,j_ r F gs .ae .ae)]:=Has.nil.cons (c7 _ _ (by omega) q7) (by simp);have hy:=aa.hy j (by omega) aA;have rl:gs.getD j iN=gs[j]'(by omega):=p8 (by omega);have b3o:r.cB.getD j mw=r.cB[j]:=p8 aA;have b3p:=Bt _ (List.getElem_mem (show j<gs.length by omega));obtain⟨mf,Dp⟩:=LW (r:=r) Bt (j:=j);refine ai ?_;refine W.cC H I I I I λgg o2 H ck=>?_;refine ai ?_;refine W.st (bM:=(r.cB[j]).cells) H 0 I I I I I I λhP nr H hQ=>?_;have o4:∀i o,τ.get i=some o->hP.get i=some o:=λi o h=>hQ _ _ (by have:=ad.bt h;omega) (ck _ _ h);refine ai ?_;show bO _ _ _ _ _ _ _ _;have yw:hP.get τ.next=some (.cells (r.cB[j]).cells):=H.get _ (.head _);have b3q:=(hA.sub (LS:=λi=>i<q+1\/i=τ.next) (λi hi hlt=>by rcases hi with h|h;exact h;omega)).aO o4;have c1h:τ.next<hP.next:=by omega
   have c1i:=hn;generalize τ.next=yx at *;clear H;have c1j:(gs[j]'(by omega)).hyps.length=(r.cB[j]).hyps.length:=hy;refine aj.each (gs[j]'(by omega)).hyps.length (λt f τ=>o7 τ (q+1) (q+2) (o3 r gs r.cB.length++(pr2 r gs j++sI r gs j t)) (rk r.cB.length++(ue gs j++sJ j t)) (λi=>i<q+1\/i=yx)/\(∀i o,i<q+1->bU.get i=some o->τ.get i=some o)/\τ.get yx=some (.cells (r.cB[j]).cells)/\q+3<=τ.next/\sat [(0,aK aC),(2,aK q),(3,aK (q+1)),(4,aK (q+2)),(5,.f (.func mn) [] [aK (q+1),aK (q+2)]),(8,ah j),(9,aK yx),(45,slA true (some 7) (r.cB.map eN.A)),(47,ah j),(46,ah r.cB.length),(59,slA true (some 5) ((gs[j]'(by omega)).hyps.map pX))] f) (by omega) ⟨?_,λi o hi ho=>o4 _ _ (c7 _ _ hi ho),yw,by omega,rfl,rfl,rfl,rfl,rfl,rfl,rfl,rfl,rfl,rfl,rfl,trivial⟩ I I (λt g τ ht aV hi hm=>?_) (λg τ aV hi=>?_)
   ·have aN:sI r gs j 0=[]:=rfl;have a4:sJ j 0=[]:=rfl;rw[aN,a4,List.append_nil,List.append_nil];exact b3q
   ·obtain⟨hA,c7,yw,hn,c6,bQ,cc,cI,c_,fI,m6,Bu,Bf,LY,LZ,_⟩:=aV;refine aj.norm [(0,aK aC),(2,aK q),(3,aK (q+1)),(4,aK (q+2)),(5,.f (.func mn) [] [aK (q+1),aK (q+2)]),(8,ah j),(9,aK yx),(45,slA true (some 7) (r.cB.map eN.A)),(47,ah j),(46,ah r.cB.length),(59,slA true (some 5) ((gs[j]'(by omega)).hyps.map pX)),(61,ah t),(60,ah (gs[j]'(by omega)).hyps.length)] ⟨c6,bQ,cc,cI,c_,fI,m6,Bu,Bf,LY,LZ,hi,hm,trivial⟩ λg=>?_;have H:Has τ [(yx,(r.cB[j]).cells)]:=Has.nil.cons yw (by simp);refine ai ?_;refine W.cC H I I I I λgg o2 H ck=>?_;refine ai ?_;refine W.st (bM:=.b true::bD (gs[j]'(by omega)).hyps[t]) H 0 I I I I I I λhP nr H hQ=>?_;have o4:∀i o,τ.get i=some o->hP.get i=some o:=λi o h=>hQ _ _ (by have:=ad.bt h;omega) (ck _ _ h);have c1k:=ad.bt yw;have mU:(sI r gs j t).length=t/\(sJ j t).length=t:=by unfold sI sJ;simp
    refine ai ?_;refine W.an m7 I I I (LU h1 (hA.aO o4) (by omega) (λi hi=>by omega) ((r.cB[j]).hyps[t]'(by omega)) (gs[j]'(by omega)).hyps[t] j (t+1) (by rw[List.length_append,List.length_append];omega) (by rw[List.length_append,List.length_append];omega)) λv j9 ⟨aq,js,az⟩=>⟨_,aq,?_⟩
    have xc:=az.next;have H:Has j9 [(yx,(r.cB[j]).cells)]:=Has.nil.cons (az.aO _ _ (.inr I) (by omega) (by omega) (o4 _ _ yw)) (by simp);refine ai ?_;refine⟨rfl,rfl,?_,λi o hi ho=>az.aO _ _ (.inl hi) (by omega) (by omega) (o4 _ _ (c7 _ _ hi ho)),H.get _ (.head _),by omega,rfl,rfl,rfl,rfl,rfl,rfl,rfl,rfl,rfl,rfl,rfl,trivial⟩;have aN:sI r gs j (t+1)=sI r gs j t++[((r.cB[j]).hyps[t]'(by omega),(gs[j]'(by omega)).hyps[t])]:=by
     unfold sI;rw[List.range_succ,List.map_append,List.map_cons,List.map_nil,rl,b3o,p8 (by omega),p8 ht]
    have a4:sJ j (t+1)=sJ j t++[(j,t+1)]:=by unfold sJ;rw[List.range_succ,List.map_append];rfl
    rw[aN,a4,← List.append_assoc,← List.append_assoc,← List.append_assoc,← List.append_assoc];rw[<-List.append_assoc,← List.append_assoc] at js;exact js
   ·obtain⟨hA,c7,yw,hn,c6,bQ,cc,cI,c_,fI,m6,Bu,Bf,LY,_⟩:=aV;refine⟨Bf,LY,?_,c7,hn,c6,bQ,cc,cI,c_,Bu,trivial⟩;rw[pr2,ue,rl];exact hA.sub λi hi _=>.inl hi
  ·obtain⟨hA,c7,hn,c6,bQ,cc,cI,c_,_⟩:=aV;show bO _ _ _ _ _ _ _ _;refine aj.norm [(0,aK aC),(2,aK q),(3,aK (q+1)),(4,aK (q+2)),(5,.f (.func mn) [] [aK (q+1),aK (q+2)])] ⟨c6,bQ,cc,cI,c_,trivial⟩ λg=>?_;have H:Has τ [(aC,j_ r F gs .ae .ae)]:=Has.nil.cons (c7 _ _ (by omega) q7) (by simp);obtain⟨mf,Dp⟩:=LW (r:=r) Bt (j:=r.cB.length);refine ai ?_;refine W.an m7 I I I (LU h1 hA (by omega) (λi hi=>by omega) r.eZ F r.cB.length 0 (by rw[List.length_append];omega) (by rw[List.length_append];omega)) λv j9 ⟨aq,js,az⟩=>⟨_,aq,?_⟩
   have xc:=az.next;have u4:∀i o,i<q+1->bU.get i=some o->j9.get i=some o:=λi o hi ho=>az.aO _ _ hi (by omega) (by omega) (c7 _ _ hi ho);obtain⟨v,w,b3r,b3s,au,hw,pT,hl⟩:=js.ex;have H:Has j9 [(q+1,[v]),(q+2,[w]),(aC,j_ r F gs .ae .ae),(q,[.i .u8 0,ah 0,ah 0])]:=(((Has.nil.cons (u4 _ _ (by omega) gG) (by simp)).cons (u4 _ _ (by omega) q7) (by simp;omega)).cons b3s (by simp;omega)).cons b3r (by simp;omega);refine ai ?_;refine W.fu hfn b3n b3 I I I ?_ ?_
   ·refine oF ?_ I;refine Sl.Bp (m:=b.bn+999) au (λe=>absurd (congrArg List.length e) (by simp)) ?_;have:=ym (f:=bG j9 (b.bn+999)) (g:=λx=>x) (l:=(my r F gs).map lO) (λy hy=>by
     obtain⟨yl,Bv,rfl⟩:=List.mem_map.1 hy;obtain⟨d1,d2⟩:=ju _ Bv;have b_:∀F:Fm,F.dep<=200->mapO (bG j9 (b.bn+998)) (bD F)=some (bD F):=λF hd=>by
      have:=Fm.snap j9 true _ F (b.bn+999) (Nat.le_refl _) (by omega);rw[iW] at this;obtain⟨eB,a3,bm⟩:=DV this;cases bm;exact a3
     exact oG (ud (b_ _ d1) (b_ _ d2)))
    rwa[List.map_id'] at this
   refine ai ?_;refine W.cC H I I I I λp2 du H eI=>?_;refine ai ?_;refine W.st (bM:=[cU,gM]) H 0 I I I I I I λp3 ne H yp=>?_;have L0:∀i o,j9.get i=some o->p3.get i=some o:=λi o h=>yp _ _ (by have:=ad.bt h;omega) (eI _ _ h);refine ai ?_;by_cases he:e=0
   ·subst he;refine ai ?_;refine W.st (bM:=j_ r F gs cU gM) H 3 I I I I I I λBi dA H t_=>?_;refine ai ?_;refine W.st H 4 I I I I I I λLm Vb H v9=>?_;refine ai ?_;refine aj.ret ⟨rfl,_,sA (fX I (H.get _ (.tail _ (.tail _ (.tail _ (.tail _ (.head _)))))) I),?_,by omega,λi o hi ho=>v9 _ _ (by have:=ad.bt ho;omega) (t_ _ _ hi (L0 _ _ (u4 _ _ (by have:=ad.bt ho;omega) (cL _ _ ho))))⟩;rw[if_pos I];exact⟨rfl,H.get _ (.tail _ (.tail _ (.tail _ (.head _))))⟩
   ·have VC:=fz he;have b3t:=hw.aO (τ:=p3) λi o _=>L0 i o;obtain⟨o,c,oj,_,mx,il,k7,hS⟩:=b3t.ff (j:=at_) (by rw[List.length_map];exact VC);rw[List.getElem_map] at k7 hS;refine ai ?_;refine W.eV I I I I mx ?_;refine ai ?_;refine W.q_ il I I I hS ?_;refine ai ?_;refine W.st H 4 I I I I I I λLm Vb H v9=>?_;refine ai ?_;refine aj.ret ⟨rfl,_,sA (fX I (H.get _ (.tail _ (.tail _ (.tail _ (.tail _ (.head _)))))) I),?_,by omega,λi o hi ho=>v9 _ _ (by have:=ad.bt ho;omega) (L0 _ _ (u4 _ _ (by have:=ad.bt ho;omega) (cL _ _ ho)))⟩;rw[if_neg he];refine⟨?_,H.get _ (.tail _ (.tail _ (.tail _ (.head _))))⟩;rw[p8 VC];rfl
end
section
variable {b:b8}{K:Nat->List AV->AV->Prop}
theorem b3u(hh:bk (b.aM K) x9 KE){cU:AV}{bZ:List Nat}{J:ad}:
  bu (b.aM K) 0 (.f (.func x9) [] []) [.ag [cU,.ae],.s bZ] J (λv τ=>v= .ok (.a6 [.ag [.b false,.s [],.ae],.b false])/\dC J τ):=by
 refine W.mv hh.e hh.p hh.f I I I λz=>?_;have H:Has J []:=Has.nil;refine ai ?_;refine W.cy (c:=[cU,.ae]) H I I I I I I λτ c1 H bB=>?_;refine ai ?_;refine W.cC (c:=[.b false,.s [],.ae]) H I I I I λbh ea H bp=>?_;refine ai ?_;show bO _ _ _ _ _ _ _ _;refine aj.each 0 (λj f aH=>dC bh aH/\sat [(4,aK (J.next+1))] f) (by omega) ⟨⟨Nat.le_refl _,λ_ _ h=>h⟩,(by show aK _=aK _;rw[c1]),trivial⟩ I I (λj g aH aA aV hi hm=>by omega) (λg aH aV hi=>?_);obtain⟨M,cI,_⟩:=aV;refine aj.norm [(4,aK (J.next+1))] ⟨cI,trivial⟩ λg=>?_;have H:Has aH [(J.next+1,[.b false,.s [],.ae])]:=Has.nil.cons (M.2 _ _ (by rw[<-c1];exact H.get _ (.head _))) (by simp);refine ai ?_;refine W.st H 0 I I I I I I λbU eT H bc=>?_;refine ai ?_;exact aj.ret ⟨rfl,_,iZ (fX I (H.get _ (.head _)) I) (j8 I),rfl,by have:=M.1;omega,λi o h=>bc _ _ (by have:=ad.bt h;omega) (M.2 _ _ (bp _ _ (bB _ _ h)))⟩
theorem b3v(hh:bk (b.aM K) E4 KC){Bw k:Nat}{cd:AV}(jk:cd= .f (.func q5) [] [aK k,aK (k+1)]){J:ad}(bJ:J.get Bw=some (.cells [.ae])):
  bu (b.aM K) 0 (.f (.func E4) [] [aK Bw]) [.i .u8 7,cd] J (λv τ=>v= .ok (.a6 [])/\J.next<=τ.next/\(∃x y w,τ.get Bw=some (.cells [w])/\Sl τ none w [.f (.func ss) [] [aK x,aK y]]/\J.next<=x/\J.next<=y/\(∀o,w.at? =some o->J.next<=o)/\τ.get x=some (.cells [cd])/\τ.get y=some (.cells [.i .u8 7]))/\∀i o,i≠Bw->J.get i=some o->τ.get i=some o):=by
 subst jk;refine W.nL hh.e hh.p hh.f I I I λz=>?_;have H:Has J [(Bw,[.ae])]:=Has.nil.cons bJ (by simp);have rm:=ad.bt bJ;refine ai ?_;generalize aS:J.next=q;refine W.cy (c:=[.i .u8 7]) H aS I I I I I λτ c1 H bB=>?_;refine ai ?_;refine W.cy (c:=[.f (.func q5) [] [aK k,aK (k+1)]]) H c1 I I I I I λbh ea H bp=>?_;refine ai ?_;refine W.pu (c:=[.f (.func ss) [] [aK (q+1),aK q]]) (.f (.func ss) [] [aK (q+1),aK q]) Sl.nil I I I I I I I I I (by show(3*(0+1)+2000)*8<=_;omega) λbA bU oT oU _ eT bc=>?_;have cL:∀i o,bh.get i=some o->bU.get i=some o:=λi o h=>bc i o (λe=>by cases e) h;have H:=H.aO cL;refine ai ?_;refine W.st (bM:=[bA]) H 2 I I I I oT.j7 (by rw[oT.kL];rfl) λcq fl H b5=>?_;refine ai ?_;refine⟨.inr I,rfl,by omega,⟨q+1,q,bA,H.get _ (.tail _ (.tail _ (.head _))),oT.aO λi o hi=>b5 _ _ (λe=>by rw[oU] at hi;cases hi;omega),by omega,by omega,λo ho=>by rw[oU] at ho;cases ho;omega,H.get _ (.head _),H.get _ (.tail _ (.head _))⟩,λi o hi ho=>b5 _ _ hi (cL _ _ (bp _ _ (bB _ _ ho)))⟩
theorem b3w(hh:bk (b.aM K) q5 E5){p9 wc:Nat}{p:eN}(ar:p.closed=false){J:ad}(ej:J.get p9=some (.cells p.cells)):
  bu (b.aM K) 0 (.f (.func q5) [] [aK p9,aK wc]) [] J (λv τ=>v= .ok (.a6 [ah 0,.b false])/\dC J τ):=by
 refine W.mv hh.e hh.p hh.f I I I λz=>?_;have H:Has J [(p9,p.cells)]:=Has.nil.cons ej (by simp);refine ai ?_;rw[ar];refine ai ?_;exact aj.ret ⟨rfl,_,rfl,rfl,Nat.le_refl _,λ_ _ h=>h⟩
theorem b3x(hh:bk (b.aM K) ss KD)(cu:bk (b.aM K) q5 E5){p9 wc x y k:Nat}{p:eN}(ar:p.closed=false){J:ad}(ej:J.get p9=some (.cells p.cells))(hx:J.get x=some (.cells [.f (.func q5) [] [aK p9,aK wc]]))(hy:J.get y=some (.cells [.i .u8 (Int.ofNat k)])):
  bu (b.aM K) 0 (.f (.func ss) [] [aK x,aK y]) [] J (λv τ=>v= .ok (.a6 [.i .u8 (Int.ofNat k),ah 0,.b false])/\dC J τ):=by
 refine W.mv hh.e hh.p hh.f I I I λz=>?_;have a5:x≠y:=λe=>by subst e;rw[hx] at hy;cases hy
 have H:Has J [(x,[.f (.func q5) [] [aK p9,aK wc]]),(y,[.i .u8 (Int.ofNat k)])]:=(Has.nil.cons hy (by simp)).cons hx (by simp;omega);refine ai ?_;refine W.lh I I I (b3w cu ar ej) λr τ ⟨e,M⟩=>⟨_,e,?_⟩
 have H:=H.aO M.2;refine ai ?_;exact aj.ret ⟨rfl,_,rfl,rfl,M⟩
end
structure L1(b:b8)(r:dn)(gs:List dF):Prop where
 P:∀J,bG J (b.bn+1000) (slA true (some 7) (r.cB.map eN.A))=some (slA true (some 7) (r.cB.map eN.A))
 p:∀p∈r.cB,∀J,bG J (b.bn+1000) p.A=some p.A
 G:∀J,bG J (b.bn+1000) (g9 gs)=some (g9 gs)
 g:∀g∈gs,∀J,bG J (b.bn+1000) g.A=some g.A
structure yy(b:b8)(K:Nat->List AV->AV->Prop):Prop where
 L2:bk (b.aM K) KB Uq
 b3y:bk (b.aM K) E4 KC
 b3z:bk (b.aM K) ss KD
 b3A:bk (b.aM K) q5 E5
 FV:bk (b.aM K) x9 KE
 L3:bk (b.aM K) J8 Uh
section
variable {b:b8}{K:Nat->List AV->AV->Prop}
theorem yy.one(h:yy b K):vA (b.aM K) x9:=(show qX (b.aM K) [x9,J8] from λg hg=>by
 rcases List.mem_cons.1 hg with rfl|hg
 ·exact⟨h.FV.e,.inr ⟨h.FV.p,_,_,h.FV.f,rfl,rfl⟩⟩
 ·rw[List.mem_singleton.1 hg];exact⟨h.L3.e,.inr ⟨h.L3.p,_,_,h.L3.f,rfl,rfl⟩⟩).one I
theorem b3B(hh:yy b K){r:dn}{F:Fm}{gs:List dF}{cU:AV}{J:ad}{aC:Nat}(ao:J.get aC=some (.cells (j_ r F gs cU .ae)))(hn:L1 b r gs)(we:AV.eqb (b.aM K).bn (.ag [cU,.ae]) (.ag [cU,.ae])=true)(j:Nat)(h1:j<r.cB.length)(h2:j<gs.length)(hl:r.cB.length<2^20/\gs.length<2^20)(bq:(r.cB[j]).closed=false):
  bu (b.aM K) 0 (.f (.func KB) [] []) [aK aC,ah j] J (λv τ=>(∃w x y p9 wc,v= .ok w/\Sl τ none w [.f (.func ss) [] [aK x,aK y]]/\τ.get x=some (.cells [.f (.func q5) [] [aK p9,aK wc]])/\τ.get y=some (.cells [.i .u8 7])/\τ.get p9=some (.cells (r.cB[j]).cells))/\dC J τ):=by
 refine W.code hh.L2.e hh.L2.p hh.L2.f I I I I λz=>?_;have VB:=ad.bt ao;have H:Has J [(aC,j_ r F gs cU .ae)]:=Has.nil.cons ao (by simp);refine ai ?_;generalize aS:J.next=q;refine W.cy (c:=[aK aC]) H aS I I I I I λτ c1 H bB=>?_;refine ai ?_;refine W.cC (c:=[.ae]) H c1 I I I λbh ea H bp=>?_;refine ai ?_;refine W.fJ H I I I (.tail _ (.tail _ (.head _))) I (Snp.eqb _ _ hn.P) ?_;refine ai ?_;refine W.pN (v:=(r.cB[j]).A) I I I (λs=>mi _ _ I I) (Snp.eqb _ _ (hn.p _ (List.getElem_mem h1))) ?_;refine ai ?_;refine W.fJ H I I I (.tail _ (.tail _ (.head _))) I (Snp.eqb _ _ hn.G) ?_;refine ai ?_;refine W.pN (v:=(gs[j]).A) I I I (λs=>mi _ _ I I) (Snp.eqb _ _ (hn.g _ (List.getElem_mem h2))) ?_;refine ai ?_;refine W.cC (c:=[.ae,.i .u8 0,.s [],.ae,.ae,.s [],.b false]) H ea I I I λbU eT H bc=>?_;refine ai ?_;refine W.cC (c:=[.i .u8 0,.s [],.ae,.ae,.ae,.ae]) H eT I I I λcq fl H b5=>?_;refine ai ?_;refine W.st (bM:=(r.cB[j]).cells) H 1 I I I I I I λdD ir H cW=>?_;refine ai ?_;refine W.st (bM:=(gs[j]).A.cells) H 0 I I I I I I λeb iE H dQ=>?_;have cL:∀i o,J.get i=some o->eb.get i=some o:=λi o h=>dQ _ _ (by have:=ad.bt h;omega) (cW _ _ (by have:=ad.bt h;omega) (b5 _ _ (bc _ _ (bp _ _ (bB _ _ h)))));refine ai ?_;refine W.fJ H I I I (.tail _ (.tail _ (.tail _ (.tail _ (.head _))))) I we ?_;refine ai ?_;refine W.cC (c:=[.b false,.s [],.ae]) H I I I I λeM kj H fK=>?_;refine ai ?_;refine W.an hh.one I I I (b3u hh.FV) λv e9 ⟨e,hO⟩=>⟨_,e,?_⟩
 have FG:=hO.1;have H:=H.aO hO.2;refine ai ?_;refine W.st H 0 I I I I I I λi_ qK H jG=>?_;have b3C:∀i o,J.get i=some o->i_.get i=some o:=λi o h=>jG _ _ (by have:=ad.bt h;omega) (hO.2 _ _ (fK _ _ (cL _ _ h)));refine ai ?_;refine W.lh I I I (b3v hh.b3y (k:=q+2) I (H.get _ (.tail _ (.tail _ (.tail _ (.head _)))))) λv gg ⟨e,o2,⟨x,y,w,b3D,hw,hx,hy,tX,L4,L5⟩,ck⟩=>⟨_,e,?_⟩
 have H:Has gg [(q+1,[w]),(q+2,(r.cB[j]).cells)]:=(Has.nil.cons (ck _ _ (by omega) (H.get _ (.tail _ (.tail _ (.head _))))) (by simp)).cons b3D (by simp);refine ai ?_;exact aj.ret ⟨rfl,⟨w,x,y,q+2,q+3,rfl,hw,L4,L5,H.get _ (.tail _ (.head _))⟩,by omega,λi o h=>ck _ _ (by have:=ad.bt h;omega) (b3C _ _ h)⟩
theorem b3E(hn:bk (b.aM K) tP KA)(hh:yy b K){r:dn}{F:Fm}{gs:List dF}{cU:AV}{J:ad}{aC:Nat}(ao:J.get aC=some (.cells (j_ r F gs cU .ae)))(cP:L1 b r gs)(we:AV.eqb (b.aM K).bn (.ag [cU,.ae]) (.ag [cU,.ae])=true)(hl:r.cB.length<2^20)(j5:gs.length=r.cB.length)(bq:∀p∈r.cB,p.closed=false):
  bu (b.aM K) 0 (.f (.func tP) [aK aC] []) [] J (λv τ=>v= .ok (o6 0 0 0)/\dC J τ):=by
 refine W.mv hn.e hn.p hn.f I I I λz=>?_;have VB:=ad.bt ao;have H:Has J [(aC,j_ r F gs cU .ae)]:=Has.nil.cons ao (by simp);refine ai ?_;generalize aS:J.next=q;refine W.cC (c:=[.i .u8 0,ah 0,ah 0]) H aS I I I λτ c1 H bB=>?_;refine ai ?_;show bO _ _ _ _ _ _ _ _;refine aj.each r.cB.length (λj f aH=>dC τ aH/\sat [(0,aK aC),(2,aK q)] f) (by omega) ⟨⟨Nat.le_refl _,λ_ _ h=>h⟩,rfl,rfl,trivial⟩ I I (λj g aH aA aV hi hm=>?_) (λg aH aV hi=>?_)
 ·obtain⟨M,c6,bQ,_⟩:=aV;refine aj.norm [(0,aK aC),(2,aK q),(15,ah j),(14,ah r.cB.length)] ⟨c6,bQ,hi,hm,trivial⟩ λg=>?_;have H:=H.aO M.2;refine ai ?_;refine W.an trivial I I I (b3B hh (M.2 _ _ (bB _ _ ao)) cP we j aA (by omega) (by omega) (bq _ (List.getElem_mem aA))) λv bh ⟨⟨w,x,y,p9,wc,e,hw,L4,L5,g5⟩,M2⟩=>⟨_,e,?_⟩
  have et:dC τ bh:=⟨by have:=M.1;have:=M2.1;omega,λi o h=>M2.2 _ _ (M.2 _ _ h)⟩
  have L6:=hw.vw;have mN:[AV.f (.func ss) [] [aK x,aK y]].length=1:=rfl;refine ai ?_;show bO _ _ _ _ _ _ _ _;refine aj.each 1 (λt f aH=>dC bh aH/\sat [(0,aK aC),(2,aK q),(15,ah j),(14,ah r.cB.length),(20,w)] f) (by omega) ⟨⟨Nat.le_refl _,λ_ _ h=>h⟩,rfl,rfl,rfl,rfl,rfl,trivial⟩ I I (λt g aH ht aV hi hm=>?_) (λg aH aV hi=>?_)
  ·obtain⟨M,c6,bQ,p7,kr,LX,_⟩:=aV;refine aj.norm [(0,aK aC),(2,aK q),(15,ah j),(14,ah r.cB.length),(20,w),(22,ah t),(21,ah 1)] ⟨c6,bQ,p7,kr,LX,hi,hm,trivial⟩ λg=>?_;have H:Has aH []:=Has.nil;have L6:=(hw.aO (τ:=aH) λi o _=>M.2 i o).vw;obtain rfl:t=0:=by omega
   refine ai ?_;refine W.lh I I I (b3x hh.b3z hh.b3A (bq _ (List.getElem_mem aA)) (M.2 _ _ g5) (M.2 _ _ L4) (M.2 _ _ L5)) λv bU ⟨e,eH⟩=>⟨_,e,?_⟩
   refine ai ?_;exact⟨rfl,rfl,⟨by have:=M.1;have:=eH.1;omega,λi o h=>eH.2 _ _ (M.2 _ _ h)⟩,rfl,rfl,rfl,rfl,rfl,trivial⟩
  ·obtain⟨M,c6,bQ,p7,kr,_⟩:=aV;exact⟨p7,kr,⟨by have:=M.1;have:=et.1;omega,λi o h=>M.2 _ _ (et.2 _ _ h)⟩,c6,bQ,trivial⟩
 ·obtain⟨M,c6,bQ,_⟩:=aV;show bO _ _ _ _ _ _ _ _;refine aj.norm [(2,aK q)] ⟨bQ,trivial⟩ λg=>?_;have H:Has aH [(q,[.i .u8 0,ah 0,ah 0])]:=Has.nil.cons (M.2 _ _ (H.get _ (.head _))) (by simp);refine ai ?_;refine W.st H 0 I I I I I I λbU eT H bc=>?_;refine ai ?_;exact aj.ret ⟨rfl,_,sA (fX I (H.get _ (.head _)) I),rfl,by have:=M.1;omega,λi o h=>bc _ _ (by have:=ad.bt h;omega) (M.2 _ _ (bB _ _ h))⟩
end
end Go.Lyc
end
