/-
  What functions of the program compute: walks, part 1. No conditions: definitions and laws.
-/
import Derived.Test.YtepnpmoabkhboaaGreatDoorNames
set_option linter.all false
noncomputable section
namespace Go.Lyc
def zU:=@List.drop_eq_getElem_cons
def QC:=@Nat.or_lt_two_pow
def KU:=@Nat.pow_lt_pow_right
def QD:=@Nat.two_pow_pos
def QE:=@Bool.false_and
def QF:=@List.drop_of_length_le
def FU:=@List.drop_left
def xJ:=@List.flatMap_append
def KV:=@Nat.min_eq_left
def Zt:=@List.set_set_perm
def FV:=@Nat.succ_mul
def QG:=@Bool.or_eq_false_iff
def lv:=@List.take_succ_eq_append_getElem
def so:=@List.take_of_length_le
def Zu:=@Nat.pos_of_ne_zero
def KW:=@List.map_set
def Zv:=@List.getElem?_set_self
def Zw:=@List.getElem?_set_ne
def Zx:=@List.nodup_append
def QH:=@List.nodup_nil
set_option maxHeartbeats 0
set_option maxRecDepth 100000
variable [Tok][TokOk]
open Go.RowKit Go.Lyc.T
structure hv(W:Nat->Prop)(J af:ag):Prop where
 next:J.next<=af.next
 bK:∀i o,¬W i->J.get i=some o->af.get i=some o
def hv.refl{W:Nat->Prop}{J:ag}:hv W J J:=⟨b6 _,λ_ _ _ h=>h⟩
def hv.trans{W:Nat->Prop}{J bu bA:ag}(h:hv W J bu)(h':hv W bu bA):hv W J bA:=⟨lE h.next h'.next,λi o hi ho=>h'.bK i o hi (h.bK i o hi ho)⟩
def hv.of{W:Nat->Prop}{J bu:ag}(hn:J.next<=bu.next)(h:∀i o,J.get i=some o->bu.get i=some o):hv W J bu:=⟨hn,λi o _ ho=>h i o ho⟩
structure bc(env:Env)(g:Nat)(bG:bP):Prop where
 f:env.funcs g=some bG
 e:env.ext g=0
 p:env.pure g=false
def W.n1{env:Env}{aJ:Option Nat}{D:List (Nat ⊕ (AV×List AV))}{n:Nat}{c:bC}{l:List AV}{J:ag}{Q:eR}(h:∀z,Has J []->ch env aJ D n c (b4 (W.oT 0 l) z) J Q):ch env aJ D n c (eh l) J Q:=W.args λz=>h z Has.nil
def W.c6L{env:Env}{J:ag}{fn:Nat}{bG:bP}{body:bC}{dR:Nat}{first cap args:List AV}{az:cQ->ag->Prop}(hh:bc env fn bG)(hn:(Nat.beq (first++args++cap).length bG.ig&&Nat.ble (first++args++cap).length bG.ntmps)=true)(dh:bG.results=[(dR,none)])(vt:Nat.blt dR bG.ntmps=true)(h:∀z,Has J []->ch env none [] bG.ntmps body (b4 (W.oT 0 (first++args++cap)) z) J (λx bD af=>x=.ret/\az (.ok (bD dR)) af))(hb:bG.body=some body:=by cbv):bw env 0 (.f (.func fn) first cap) args J az:=W.code hh.e hh.p hh.f hb hn dh vt λz=>h z Has.nil
def W.c6M{env:Env}{J:ag}{fn:Nat}{bG:bP}{body:bC}{first cap args:List AV}{az:cQ->ag->Prop}(hh:bc env fn bG)(hn:(Nat.beq (first++args++cap).length bG.ig&&Nat.ble (first++args++cap).length bG.ntmps)=true)(dh:bG.results=[])(h:∀z,Has J []->ch env none [] bG.ntmps body (b4 (W.oT 0 (first++args++cap)) z) J (λx _ af=>(x=.ret\/x=.normal)/\az (.ok (.a6 [])) af))(hb:bG.body=some body:=by cbv):bw env 0 (.f (.func fn) first cap) args J az:=W.pI hh.e hh.p hh.f hb hn dh λz=>h z Has.nil
def Zy{env:Env}(au:bc env qT sd)(o:Bool){W:Nat->Prop}{B:Nat}(hW:∀i,W i->i<B)(dH:List Fm->ag->Prop)(bz:∀l J af,dH l J->J.next<=af.next->(∀i o,J.get i=some o->af.get i=some o)->dH l af)(iY:AV)
  (aI:∀f rest J,f.fA->B<=J.next->dH (f::rest) J->bw env 0 iY [f.A o] J (λr af=>r= .ok (.b true)/\dH rest af/\hv W J af)):
  ∀(d:Nat) (f:Fm) (rest:List Fm) (J:ag),f.dep<=d->f.fA->B<=J.next->dH (f.parts++rest) J->bw env 0 (.f (.func qT) [] []) [f.A o,iY] J (λr af=>r= .ok (.b true)/\dH rest af/\hv W J af)
 |0,f,_,_,h,_,_,_=>by rw[Fm.e0] at h;omega
 |d+1,F,rest,cr,an,bB,eu,h0=>by
  refine bw.code au.e au.p au.f I I I I ?_;generalize aC:cr.next=k at eu;refine aa.seq (aa.region (ab.box (v:=F.A o) (c:=F.cells o) k aC I I I I I λJ hn h1 bM=>?_));have n2:=bz _ _ _ h0 U bM;have hy:hv W cr J:=.of U bM;have mc:¬W k:=λh=>by have:=hW _ h;omega
  rw[Fm.parts_eq] at n2;refine bo ?_;refine aa.seq (aa.seq (aa.region ?_));refine bo ?_;refine ab.a0 h1 I I I (Fm.a0 o F) ?_;refine ab.dW I I I (aI F _ J bB U n2) λr ah ⟨aF,Cq,nu⟩=>⟨_,aF,?_⟩
  replace h1:=nu.bK _ _ mc h1;have fk:=nu.next;refine bo ?_;refine aa.cl I (λh=>by cases h) (λ_=>?_);refine aa.skip ?_;refine aa.seq (aa.seq (aa.region ?_));refine bo ?_;refine ab.a0 h1 I I I (Fm.E2 o F) ?_;refine ab.len I I I qN ?_;refine bo ?_;refine aa.block ?_;refine aa.loop (λm f af=>k+1<=af.next/\hv W cr af/\∃i,i+m=F.sub.length/\dH (Fm.eA (F.sub.drop i)++rest) af∧
   sat [(1,iY),(12,fa o F.d_),(13,aw F.sub.length),(14,aw i)] f) ?_ F.sub.length ⟨U,hy.trans nu,0,U,by rw[y_];exact Cq,b9⟩
  clear h1 n2 Cq hy nu hn fk bM;intro m g J ⟨hn,hy,i,hi,n2,hL⟩;refine aa.norm _ hL λg=>?_;clear hL;refine eo ?_;refine aa.cl I (λht=>?_) (λhf=>?_)
  ·have hlt:i<F.sub.length:=of_decide_eq_true ht;have b6b:=bB.JZ;rw[zU hlt,Fm.eA,jD] at n2;generalize hg:F.sub[i]=G at n2;have sq:G∈F.sub:=by rw[<-hg];exact c3 hlt
   refine aa.skip (aa.seq (aa.block (aa.seq (aa.region ?_))));refine ab.idx (v:=.dk o (G.A o)) I I I I (by rw[<-hg];exact tB hlt) ?_;refine ab.gY I I I (Fm.conf o G) ?_;refine ab.var (v:=G.A o) (c:=G.cells o) J.next I I I I (Fm.conf o G) I (Fm.len o G) λah fk aN ba=>?_;have nu:=hy.trans (.of (W:=W) U ba);have Cq:=bz _ _ _ n2 U ba;refine ab.nil (aa.seq (aa.region ?_));refine ab.a0 aN I I I (Fm.a0 o G) ?_;refine bo ?_;refine ab.dW I I I (Zy au o hW dH bz iY aI d G _ ah (by have:=Fm.pH sq;omega) (bB.vh G sq) U Cq) λr a1 ⟨aF,zV,fT⟩=>⟨_,aF,?_⟩
   have lM:=fT.next;refine bo ?_;refine aa.cl I (λh=>by cases h) (λ_=>?_);refine aa.skip ?_;refine aa.region ?_;refine ab.bin (a:=aw i) (b:=aw 1) I I I I (ir U) ?_;refine bo ?_;exact⟨m-1,U,U,nu.trans fT,i+1,U,zV,b9⟩
  ·have iX:¬i<F.sub.length:=of_decide_eq_false hf;obtain rfl:i=F.sub.length:=by omega
   rw[Pz] at n2;refine aa.exit ?_;refine eo ?_;exact aa.ret ⟨rfl,rfl,n2,hy⟩
def b6c{env:Env}(au:bc env qT sd)(hw:bc env pM tD)(o:Bool){W:Nat->Prop}{B:Nat}(hW:∀i,W i->i<B)(dH:List Fm->ag->Prop)(bz:∀l J af,dH l J->J.next<=af.next->(∀i o,J.get i=some o->af.get i=some o)->dH l af)(iY:AV)
  (aI:∀f rest J,f.fA->B<=J.next->dH (f::rest) J->bw env 0 iY [f.A o] J (λr af=>r= .ok (.b true)/\dH rest af/\hv W J af)) (F:Fm) (bB:F.fA) (rest:List Fm) (J:ag) (dK:Nat) (iK:J.get dK=some (.cells (F.cells o))) (eu:B<=J.next) (h0:dH (F.parts++rest) J):
  bw env 0 (.f (.func pM) [] [.p (some (dK,0))]) [iY] J (λr af=>r= .ok (.a6 [])/\dH rest af/\hv W J af):=by
 refine bw.pI hw.e hw.p hw.f I I I ?_;refine aa.region ?_;refine ab.a0 iK I I I (Fm.a0 o F) ?_;refine bo ?_;refine ab.dW I I I (Zy au o hW dH bz iY aI _ F rest J (b6 _) bB eu h0) λr ah ⟨aF,h1,h2⟩=>⟨_,aF,?_⟩
 refine bo ?_;exact⟨.inr I,rfl,h1,h2⟩
def KX{env:Env}(hw:bc env tG vz)(o:Bool)(F:Fm)(J:ag)(k:Nat)(aC:J.next=k):bw env 0 (.f (.func tG) [] []) [F.A o] J (λr af=>r= .ok (.f (.func pM) [] [.p (some (k,0))])/\af.next=k+1/\af.get k=some (.cells (F.cells o))/\∀i o,J.get i=some o->af.get i=some o):=by
 refine bw.code hw.e hw.p hw.f I I I I ?_;refine aa.seq (aa.region (ab.box (v:=F.A o) (c:=F.cells o) k aC I I I I I λah hn h1 bM=>?_));refine eo ?_;exact aa.ret ⟨rfl,rfl,hn,h1,bM⟩
def cO.walk{env:Env}{D:List (Nat ⊕ (AV×List AV))}{n:Nat}{f:Nat->AV}{J:ag}{Q:eR}(au:bc env qT sd)(hw:bc env pM tD)(o:Bool){jG:aH}{p:Nat}{ep b:bC}{dK:Nat}{F:Fm}(W:Nat->Prop)(S:List Fm->ag->Prop)(k:Nat)(aC:J.next=k)
  (jQ:dc env n f jG=some (.f (.func pM) [] [.p (some (dK,0))])) (ay:Nat.blt p n=true) (bB:F.fA) (iK:J.get dK=some (.cells (F.cells o))) (hW:∀i,W i->i<k) (cg:∀l J af,S l J->(∀i o,W i->J.get i=some o->af.get i=some o)->S l af) (h0:S F.parts J)
  (zW:∀G rest ah,G.fA->k+2<=ah.next->S (G::rest) ah->ch env (some (k+1)) [] n ep (cY f p (G.A o)) ah (λx f1 c2=>x= .normal/\hv W ah c2∧
   ∀ca,ca.next=c2.next->(∀i o,i≠k+1->c2.get i=some o->ca.get i=some o)->ch env (some (k+1)) [] n b f1 ca (λx _ c_=>x= .normal/\S rest c_/\hv W ca c_)))
  (zX:∀ah,S [] ah->k+2<=ah.next->ah.get k=some .dN->(∀i o,¬W i->J.get i=some o->ah.get i=some o)->Q .normal f ah):cO env D (.inl k::D) n (.rangeFunc jG [p] ep b) f J Q:=by
 subst aC;refine cO.range jQ hw.e λaq gi=>?_;generalize aC:J.next=k at *;have mc:∀i,W i->i<k:=hW;have qI:((J.push .dN).push (.loop .ready none aq [p] ep b k)).get (k+1)=some (.loop .ready none aq [p] ep b k):=by
  have:=ag.ij (J:=J.push .dN) (.loop .ready none aq [p] ep b k);rwa[show(J.push .dN).next=k+1 from by show J.next+1=_;rw[aC]] at this
 have oP:∀i o,J.get i=some o->((J.push .dN).push (.loop .ready none aq [p] ep b k)).get i=some o:=λi o ho=>by
  have:=ag.cJ ho;rw[ag.fy trivial _ (show i<(J.push .dN).next from by show i<J.next+1;omega),ag.fy trivial _ this];exact ho
 have QI:((J.push .dN).push (.loop .ready none aq [p] ep b k)).get k=some .dN:=by
  rw[ag.fy trivial _ (show k<(J.push .dN).next from by show k<J.next+1;omega)];have:=ag.ij (J:=J) .dN;rwa[aC] at this
 have i_:((J.push .dN).push (.loop .ready none aq [p] ep b k)).next=k+2:=by show J.next+1+1=_;rw[aC]
 generalize(J.push .dN).push (.loop .ready none aq [p] ep b k)=bA at *;refine(b6c au hw o (W:=λi=>W i\/i=k+1) (B:=k+2) (λi hi=>by rcases hi with hi|hi;have:=mc i hi;omega;omega)
  (λl ah=>S l ah/\ah.get (k+1)=some (.loop .ready none aq [p] ep b k)/\k+2<=ah.next/\ah.get k=some .dN/\∀i o,¬W i->J.get i=some o->ah.get i=some o)
  (λl ah a1 ⟨a9,bt,cW,eD,e4⟩ db cK=>⟨cg _ _ _ a9 λi o _ ho=>cK i o ho,cK _ _ bt,U,cK _ _ eD,λi o hi ho=>cK _ _ (e4 i o hi ho)⟩) (.f (.yield (k+1)) [] []) ?_ F bB [] bA dK (oP _ _ iK) U ?_).mono ?_
 ·intro G rest ah cc eu ⟨a9,bt,cW,eD,e4⟩;refine(bw.round (az:=λaf=>(S rest af/\af.get (k+1)=some (.loop .ready none aq [p] ep b k)/\k+2<=af.next/\af.get k=some .dN/\∀i o,¬W i->J.get i=some o->af.get i=some o)/\hv (λi=>W i\/i=k+1) ah af) (f:=f) (n:=n) bt gi (by show cond (Nat.blt p n) _ _=true;rw[ay];rfl) I ?_).mono λr af h=>h;refine(zW G rest ah cc cW a9).mono λx f1 c2 ⟨aF,hy,h1⟩=>?_;have Cr:¬W (k+1):=λh=>by have:=mc _ h;omega
  have iV:=hy.bK _ _ Cr bt;have eG:=hX (bV:=.loop .busy none aq [p] ep b k) iV;refine⟨aF,iV,(h1 (c2.set (k+1) (.loop .busy none aq [p] ep b k)) I (λi o hi ho=>eG.2 i o hi ho)).mono λx _ c_ ⟨aV,sr,fT⟩=>?_⟩;have md:=fT.bK _ _ Cr eG.1;have me:=hX (bV:=.loop .ready none aq [p] ep b k) md;have dQ:=hy.next;have fY:c2.next<=c_.next:=fT.next;have cq:∀i o,¬W i->i≠k+1->ah.get i=some o->(c_.set (k+1) (.loop .ready none aq [p] ep b k)).get i=some o:=λi o hi b_ ho=>me.2 i o b_ (fT.bK i o hi (eG.2 i o b_ (hy.bK i o hi ho)));refine⟨aV,md,⟨cg _ _ _ sr λi o hi ho=>me.2 i o (by have:=mc i hi;omega) ho,me.1,by show k+2<=c_.next;omega,cq k _ (λh=>by have:=mc _ h;omega) U eD,λi o hi ho=>cq i o hi (by have:=ag.cJ ho;omega) (e4 i o hi ho)⟩,⟨by show ah.next<=c_.next;omega,λi o hi ho=>cq i o (λh=>hi (.inl h)) (λh=>hi (.inr h)) ho⟩⟩
 ·rw[fp];exact⟨cg _ _ _ h0 λi o _ ho=>oP i o ho,qI,U,QI,λi o _ ho=>oP i o ho⟩
 ·rintro r ah ⟨aF,⟨a9,bt,cW,eD,e4⟩,_⟩;have eG:=hX (bV:=.loop .exhausted none aq [p] ep b k) bt;exact⟨_,.ready,aF,bt,aT,zX _ (cg _ _ _ a9 λi o hi ho=>eG.2 i o (by have:=mc i hi;omega) ho) cW (eG.2 _ _ U eD) λi o hi ho=>eG.2 i o (by have:=ag.cJ ho;omega) (e4 i o hi ho)⟩
def wrap32{n:Nat}(h:n<2^32):IntKind.wrap .u32 (n:Int)=(n:Int):=by
 have h:(n:Int)<4294967296:=by omega
 simp only[IntKind.wrap,IntKind.bits,IntKind.signed];simp;omega
def ofInt32(n:Nat)(h:n<2^32):(BitVec.ofInt IntKind.u32.bits (Int.ofNat n)).toNat=n:=by
 simp[IntKind.bits];omega
def b6d{a b:Nat}(ha:a<2^32)(hb:b<2^32):binop .or (.i .u32 (Int.ofNat a)) (.i .u32 (Int.ofNat b))=some (.i .u32 (Int.ofNat (a ||| b))):=by
 have h:(BitVec.ofInt IntKind.u32.bits (Int.ofNat a) ||| BitVec.ofInt IntKind.u32.bits (Int.ofNat b)).toNat=a ||| b:=by
  rw[BitVec.toNat_or,ofInt32 a ha,ofInt32 b hb]
 show some (AV.i .u32 (IntKind.wrap .u32 ((BitVec.ofInt IntKind.u32.bits (Int.ofNat a) ||| BitVec.ofInt IntKind.u32.bits (Int.ofNat b)).toNat:Int)))=_;rw[h,wrap32 (QC ha hb)];rfl
def b6e{k:IntKind}{a:Nat}(h:a<32):binop .shl (.i .u32 (Int.ofNat 1)) (.i k (Int.ofNat a))=some (.i .u32 (Int.ofNat (2^a))):=by
 show(if(Int.ofNat a)<0 then none else some (AV.i .u32 (IntKind.wrap .u32 (Int.ofNat 1*2^(min (Int.ofNat a).toNat IntKind.u32.bits)))))=_;rw[if_neg aT];have e:min (Int.ofNat a).toNat IntKind.u32.bits=a:=by show min a 32=a;omega
 rw[e];have:(Int.ofNat 1*2^a:Int)=((2^a:Nat):Int):=by show(1:Int)*_=_;rw[Int.one_mul];simp
 rw[this,wrap32 (KU U h)];rfl
def vE(f:Fm):Nat:=if f.op<32 then 2^f.op else 0
def Cs(l:List Fm)(m:Nat):Nat:=l.foldl (λm f=>m ||| vE f) m
def ss(f:Fm):Nat:=Cs f.parts 0
def b6f(f:Fm):vE f<2^32:=by
 unfold vE;split
 ·exact KU U ‹_›
 ·exact QD _
def Zz:∀ {l:List Fm} {m:Nat},m<2^32->Cs l m<2^32
 |[],_,h=>h
 |f::l,m,h=>by
  show Cs l (m ||| vE f)<_;exact Zz (QC h (b6f f))
def b6g{b:b8}{K:Nat->List AV->AV->Prop}(au:bc (b.aQ K) qT sd)(fH:bc (b.aQ K) pM tD)(hw:bc (b.aQ K) tG vz)(F:Fm)(bB:F.fA)(body:bC)(hb:Y5.body=some body):
  cO (b.aQ K) [] [.inl 3] 17 body (eh [F.A true]) ⟨.nil,0⟩ (λx f af=>x= .ret/\af.get 3=some .dN/\freeze (af.set 3 .dead) 0 1000 (f 2)=some (.i .u32 (Int.ofNat (ss F)))):=by
 cases hb;refine cO.jT (aa.region (ab.box (v:=F.A true) (c:=F.cells true) 0 I I I I I I λbu e6 h1 _=>?_));refine bo ?_;refine⟨rfl,cO.jT (aa.region (ab.alloc 1 e6 I I I λbA fk h2 ba=>?_))⟩;replace h1:=ba _ _ h1;refine bo ?_;refine⟨rfl,cO.xu (cO.jT (aa.region ?_))⟩;refine ab.a0 h1 I I I (Fm.a0 true F) ?_;refine ab.dW I I I (KX hw true F bA 2 fk) λr J ⟨aF,hn,h3,bj⟩=>⟨_,aF,?_⟩
 replace h1:=bj _ _ h1;replace h2:=bj _ _ h2;refine bo ?_;refine⟨rfl,cO.block ?_⟩;refine cO.walk au fH true (λi=>i=1) (λl ah=>∃m,m<2^32/\Cs l m=ss F/\ah.get 1=some (.cells [.i .u32 (Int.ofNat m)])) 3 hn I I bB h3 (λi hi=>by omega) (λl ah a1 ⟨m,a9,bt,cW⟩ aC=>⟨m,a9,bt,aC _ _ I cW⟩) ⟨0,QD _,rfl,h2⟩ ?_ ?_
 ·intro G rest ah cc vF ⟨m,a9,bt,cW⟩;refine aa.region ?_;refine ab.var (v:=G.A true) (c:=G.cells true) ah.next I I I I (Fm.conf true G) I (Fm.len true G) λc2 oM aN de=>?_;refine ab.nil ⟨rfl,.of U de,λca BA e8=>?_⟩;replace aN:=e8 _ _ U aN;replace cW:=e8 _ _ U (de _ _ cW);refine aa.block (aa.seq (aa.region ?_));refine bo ?_;refine ab.a0 aN I I I (Fm.vs true G) ?_;refine bo ?_;refine aa.cl I (λh=>?_) (λh=>?_)
  ·have eO:G.op<32:=of_decide_eq_true h;have QJ:vE G=2^G.op:=by unfold vE;rw[if_pos eO]
   refine aa.region ?_;refine YB ?_;refine ab.a0 aN I I I (Fm.vs true G) ?_;refine ab.bin (a:=.i .u32 (Int.ofNat 1)) (b:=.i .u8 (Int.ofNat G.op)) I I I I (b6e eO) ?_;refine ab.bin (a:=.i .u32 (Int.ofNat m)) (b:=.i .u32 (Int.ofNat (2^G.op))) I I I I (b6d a9 (KU U eO)) ?_;refine ab.store (bn:=[.i .u32 (Int.ofNat (m ||| 2^G.op))]) cW I I I I I λc_ Jb cf gH=>?_;exact ab.nil ⟨rfl,⟨_,QC a9 (KU U eO),by rw[<-bt,← QJ];rfl,cf⟩,⟨U,λi o hi ho=>gH i o hi ho⟩⟩
  ·have eO:¬G.op<32:=of_decide_eq_false h;have QJ:vE G=0:=by unfold vE;rw[if_neg eO]
   exact aa.skip ⟨rfl,⟨m,a9,by rw[<-bt];show Cs rest m=Cs rest (m ||| vE G);rw[QJ,Nat.or_zero],cW⟩,.refl⟩
 ·intro ah ⟨m,a9,bt,cW⟩ vF an _;refine⟨rfl,rfl,?_⟩;refine aa.seq (aa.region ?_);refine YB ?_;refine aa.ret ⟨rfl,an,?_⟩;show some (AV.i .u32 (Int.ofNat m))=_;rw[<-bt];rfl
def jU{p:Prop}[Decidable p](h:p):some (AV.b (decide p))=some (AV.b true):=by rw[decide_eq_true h]
def jV{p:Prop}[Decidable p](h:¬p):some (AV.b (decide p))=some (AV.b false):=by rw[decide_eq_false h]
def isSmall(c:Nat):Bool:=decide (97<=c)&&decide (c<=122)
def su(c:Nat):Bool:=decide (65<=c)&&decide (c<=90)
def sv(c:Nat):Bool:=decide (48<=c)&&decide (c<=57)
def qZ(c:Nat):Bool:=isSmall c||(su c||sv c)
def xK(c:Nat):Bool:=decide (117<=c)&&decide (c<=122)
def xL(c:Nat):Bool:=decide (97<=c)&&decide (c<=116)
abbrev a3(c:Nat):AV:=.i .u8 (Int.ofNat c)
def kO(l:List Nat):Bool:=eqL l [97,108,108]||(eqL l [115,111,109,101]||(eqL l [102,97,108,115,101]||(eqL l [110,101,120,116]||(eqL l [97,108,119,97,121,115]||eqL l [117,110,116,105,108]))))
def nameB(first other:Nat->Bool):List Nat->Bool
 |[]=>false
 |c::l=>decide (l.length+1<=16)&&(!kO (c::l)&&(first c&&l.all other))
def pQ(l:List Nat):Bool:=nameB su qZ l
def isVar(l:List Nat):Bool:=nameB xK sv l
def isFun(l:List Nat):Bool:=nameB xL qZ l
def ZE(p:List Nat->Bool):List Nat->Bool
 |[]=>false
 |c::l=>decide (l.length+1<=16)&&(decide (c=63)&&p l)
def Ct(l:List Nat):Bool:=ZE pQ l
def oY(l:List Nat):Bool:=ZE isFun l
section
variable {b:b8}{K:Nat->List AV->AV->Prop}(hf:∀g aB r bS,K g aB r->K g aB bS->r=bS)
abbrev kP(d:Nat)(r:AV):eR:=λx f af=>x= .ret/\freeze af 0 1000 (f d)=some r
def b6h(c:Nat)(body:bC)(hb:Zn.body=some body):aa (b.aQ K) 9 body (eh [a3 c]) ⟨.nil,0⟩ (kP 2 (.b (isSmall c))):=by
 cases hb;refine aa.seq (aa.region ?_);refine ab.go I I I I ?_;refine ab.nil (aa.seq (aa.region ?_));refine ab.go I I I I ?_;by_cases h1:97<=c
 ·refine ab.bin (a:=a3 c) (b:=a3 97) (v:=.b true) I I I I (cG (jU h1)) ?_;refine eo ?_;refine aa.ret ⟨rfl,?_⟩;show some (AV.b (decide (c<=122)))=some (AV.b (isSmall c));unfold isSmall;rw[decide_eq_true h1];rfl
 ·refine ab.bin (a:=a3 c) (b:=a3 97) (v:=.b false) I I I I (cG (jV h1)) ?_;refine eo ?_;refine aa.ret ⟨rfl,?_⟩;show some (AV.b false)=some (AV.b (isSmall c));unfold isSmall;rw[decide_eq_false h1];rfl
def b6i(c:Nat)(body:bC)(hb:Zg.body=some body):aa (b.aQ K) 9 body (eh [a3 c]) ⟨.nil,0⟩ (kP 2 (.b (su c))):=by
 cases hb;refine aa.seq (aa.region ?_);refine ab.go I I I I ?_;refine ab.nil (aa.seq (aa.region ?_));refine ab.go I I I I ?_;by_cases h1:65<=c
 ·refine ab.bin (a:=a3 c) (b:=a3 65) (v:=.b true) I I I I (cG (jU h1)) ?_;refine eo ?_;refine aa.ret ⟨rfl,?_⟩;show some (AV.b (decide (c<=90)))=some (AV.b (su c));unfold su;rw[decide_eq_true h1];rfl
 ·refine ab.bin (a:=a3 c) (b:=a3 65) (v:=.b false) I I I I (cG (jV h1)) ?_;refine eo ?_;refine aa.ret ⟨rfl,?_⟩;show some (AV.b false)=some (AV.b (su c));unfold su;rw[decide_eq_false h1];rfl
def b6j(c:Nat)(body:bC)(hb:Y9.body=some body):aa (b.aQ K) 9 body (eh [a3 c]) ⟨.nil,0⟩ (kP 2 (.b (sv c))):=by
 cases hb;refine aa.seq (aa.region ?_);refine ab.go I I I I ?_;refine ab.nil (aa.seq (aa.region ?_));refine ab.go I I I I ?_;by_cases h1:48<=c
 ·refine ab.bin (a:=a3 c) (b:=a3 48) (v:=.b true) I I I I (cG (jU h1)) ?_;refine eo ?_;refine aa.ret ⟨rfl,?_⟩;show some (AV.b (decide (c<=57)))=some (AV.b (sv c));unfold sv;rw[decide_eq_true h1];rfl
 ·refine ab.bin (a:=a3 c) (b:=a3 48) (v:=.b false) I I I I (cG (jV h1)) ?_;refine eo ?_;refine aa.ret ⟨rfl,?_⟩;show some (AV.b false)=some (AV.b (sv c));unfold sv;rw[decide_eq_false h1];rfl
def b6k(c:Nat)(body:bC)(hb:Y8.body=some body):aa (b.aQ K) 9 body (eh [a3 c]) ⟨.nil,0⟩ (kP 2 (.b (xK c))):=by
 cases hb;refine aa.seq (aa.region ?_);refine ab.go I I I I ?_;refine ab.nil (aa.seq (aa.region ?_));refine ab.go I I I I ?_;by_cases h1:117<=c
 ·refine ab.bin (a:=a3 c) (b:=a3 117) (v:=.b true) I I I I (cG (jU h1)) ?_;refine eo ?_;refine aa.ret ⟨rfl,?_⟩;show some (AV.b (decide (c<=122)))=some (AV.b (xK c));unfold xK;rw[decide_eq_true h1];rfl
 ·refine ab.bin (a:=a3 c) (b:=a3 117) (v:=.b false) I I I I (cG (jV h1)) ?_;refine eo ?_;refine aa.ret ⟨rfl,?_⟩;show some (AV.b false)=some (AV.b (xK c));unfold xK;rw[decide_eq_false h1];rfl
def b6l(c:Nat)(body:bC)(hb:Zk.body=some body):aa (b.aQ K) 9 body (eh [a3 c]) ⟨.nil,0⟩ (kP 2 (.b (xL c))):=by
 cases hb;refine aa.seq (aa.region ?_);refine ab.go I I I I ?_;refine ab.nil (aa.seq (aa.region ?_));refine ab.go I I I I ?_;by_cases h1:97<=c
 ·refine ab.bin (a:=a3 c) (b:=a3 97) (v:=.b true) I I I I (cG (jU h1)) ?_;refine eo ?_;refine aa.ret ⟨rfl,?_⟩;show some (AV.b (decide (c<=116)))=some (AV.b (xL c));unfold xL;rw[decide_eq_true h1];rfl
 ·refine ab.bin (a:=a3 c) (b:=a3 97) (v:=.b false) I I I I (cG (jV h1)) ?_;refine eo ?_;refine aa.ret ⟨rfl,?_⟩;show some (AV.b false)=some (AV.b (xL c));unfold xL;rw[decide_eq_false h1];rfl
include hf in
theorem b6m(ak:∀c,K FG [a3 c] (.b (isSmall c)))(ae:∀c,K vA [a3 c] (.b (su c)))(an:∀c,K vB [a3 c] (.b (sv c)))(es:b.ext FG=0/\b.pure FG=true)(FW:b.ext vA=0/\b.pure vA=true)(ZF:b.ext vB=0/\b.pure vB=true)
  (c:Nat) (body:bC) (hb:Zh.body=some body):aa (b.aQ K) 13 body (eh [a3 c]) ⟨.nil,0⟩ (kP 2 (.b (qZ c))):=by
 cases hb;refine eo ?_;refine ab.known hf es.1 es.2 (ak c) I I I (fZ I) ?_;cases h1:isSmall c with
 |true=>
  refine eo ?_;exact aa.ret ⟨rfl,by show some (AV.b true)=some (AV.b (qZ c));unfold qZ;rw[h1];rfl⟩
 |false=>
  refine eo ?_;refine ab.known hf FW.1 FW.2 (ae c) I I I (fZ I) ?_;cases h2:su c with
  |true=>
   refine eo ?_;exact aa.ret ⟨rfl,by show some (AV.b true)=some (AV.b (qZ c));unfold qZ;rw[h1,h2];rfl⟩
  |false=>
   refine eo ?_;refine ab.known hf ZF.1 ZF.2 (an c) I I I (fZ I) ?_;refine eo ?_;exact aa.ret ⟨rfl,by show some (AV.b (sv c))=some (AV.b (qZ c));unfold qZ;rw[h1,h2];rfl⟩
def b6n(l:List Nat)(body:bC)(hb:Zf.body=some body):aa (b.aQ K) 11 body (eh [.s l]) ⟨.nil,0⟩ (kP 2 (.b (kO l))):=by
 cases hb;refine aa.seq (aa.region ?_);refine bo ?_;refine aa.seq (aa.seq (aa.region ?_));refine bo ?_;refine aa.block ?_;refine aa.cut [(4,.b (kO l))] ?_ λg=>?_
 ·refine aa.seq (aa.region ?_);refine ab.bin (v:=.b (eqL l [97,108,108])) I I I I I ?_;refine bo ?_;refine aa.cl I (λh=>?_) (λh=>?_)
  ·exact aa.skip ⟨rfl,rfl,congrArg AV.b (by unfold kO;rw[h];rfl),trivial⟩
  refine aa.seq (aa.region ?_);refine ab.bin (v:=.b (eqL l [115,111,109,101])) I I I I I ?_;refine bo ?_;refine aa.cl I (λh2=>?_) (λh2=>?_)
  ·exact aa.skip ⟨rfl,rfl,congrArg AV.b (by unfold kO;rw[h,h2];rfl),trivial⟩
  refine aa.seq (aa.region ?_);refine ab.bin (v:=.b (eqL l [102,97,108,115,101])) I I I I I ?_;refine bo ?_;refine aa.cl I (λh3=>?_) (λh3=>?_)
  ·exact aa.skip ⟨rfl,rfl,congrArg AV.b (by unfold kO;rw[h,h2,h3];rfl),trivial⟩
  refine aa.seq (aa.region ?_);refine ab.bin (v:=.b (eqL l [110,101,120,116])) I I I I I ?_;refine bo ?_;refine aa.cl I (λaN=>?_) (λaN=>?_)
  ·exact aa.skip ⟨rfl,rfl,congrArg AV.b (by unfold kO;rw[h,h2,h3,aN];rfl),trivial⟩
  refine aa.seq (aa.region ?_);refine ab.bin (v:=.b (eqL l [97,108,119,97,121,115])) I I I I I ?_;refine bo ?_;refine aa.cl I (λbY=>?_) (λbY=>?_)
  ·exact aa.skip ⟨rfl,rfl,congrArg AV.b (by unfold kO;rw[h,h2,h3,aN,bY];rfl),trivial⟩
  refine aa.region ?_;refine ab.bin (v:=.b (eqL l [117,110,116,105,108])) I I I I I ?_;refine bo ?_;exact⟨rfl,rfl,congrArg AV.b (by unfold kO;rw[h,h2,h3,aN,bY];rfl),trivial⟩
 refine aa.cl I (λh=>?_) (λh=>?_)
 ·refine eo ?_;exact aa.ret ⟨rfl,by rw[h];rfl⟩
 ·refine eo ?_;exact aa.ret ⟨rfl,by rw[h];rfl⟩
include hf in
set_option maxHeartbeats 0 in
theorem QK{cn ct:Nat}{p1 p2:Nat->Bool}(h1:∀c,K cn [a3 c] (.b (p1 c)))(aF:b.ext cn=0/\b.pure cn=true)(h2:∀c,K ct [a3 c] (.b (p2 c)))(aV:b.ext ct=0/\b.pure ct=true)(al:∀l,K oV [.s l] (.b (kO l)))(bJ:b.ext oV=0/\b.pure oV=true)
  (ae:bc (b.aQ K) zN Fp) (l:List Nat) (ao:l.length<2^62) (i1 i2:Nat) (J:ag) (ka:J.get i1=some (.cells [.f (.func cn) [] []])) (hK:J.get i2=some (.cells [.f (.func ct) [] []])):
  bw (b.aQ K) 0 (.f (.func zN) [] [.p (some (i1,0)),.p (some (i2,0))]) [.s l] J (λr af=>r= .ok (.b (nameB p1 p2 l))/\af=J):=by
 refine bw.code ae.e ae.p ae.f I I I I ?_;refine aa.seq (aa.region ?_);refine bo ?_;cases l with
 |nil=>
  refine aa.seq (aa.seq (aa.draw I I ?_));refine pJ ?_;refine aa.cl I (λ_=>?_) (λh=>by cases h);refine eo ?_;exact aa.ret ⟨rfl,rfl,rfl⟩
 |cons c t=>
  have hlt:t.length+1<2^62:=ao;have b6o:¬t.length+1<1:=by omega
  refine aa.seq ?_;refine aa.seq (aa.draw I I ?_);refine cd.go I I I I ?_;refine cd.go I I I I ?_;refine cd.bin (a:=aw (t.length+1)) (b:=aw 1) (v:=.b false) I I I I (cG (jV b6o)) ?_;refine cd.go I I I I ?_;refine cd.go I I I I ?_;refine cd.go I I I I ?_;by_cases mU:16<t.length+1
  ·refine cd.bin (a:=aw (t.length+1)) (b:=aw 16) (v:=.b true) I I I I (cG (jU mU)) ?_;refine pJ ?_;refine aa.cl I (λ_=>?_) (λh=>by cases h);refine eo ?_;refine aa.ret ⟨rfl,?_,rfl⟩;show cQ.ok (.b false)=cQ.ok (.b (nameB p1 p2 (c::t)));rw[nameB,decide_eq_false U];rfl
  ·refine cd.bin (a:=aw (t.length+1)) (b:=aw 16) (v:=.b false) I I I I (cG (jV mU)) ?_;have zY:t.length+1<=16:=by omega
   refine pJ ?_;refine cd.known hf bJ.1 bJ.2 (al (c::t)) I I I (fZ I) ?_;cases vd:kO (c::t) with
   |true=>
    refine pJ ?_;refine aa.cl I (λ_=>?_) (λh=>by cases h);refine eo ?_;refine aa.ret ⟨rfl,?_,rfl⟩;show cQ.ok (.b false)=cQ.ok (.b (nameB p1 p2 (c::t)));rw[nameB,decide_eq_true zY,vd];rfl
   |false=>
    repeat (first|refine cd.go I I I I ?_|refine cd.a0 ka I I I I ?_|refine cd.cmp I I I I I ?_|refine cd.off I I ?_|refine cd.nil ?_)
    refine cd.known hf aF.1 aF.2 (h1 c) I I I (fZ I) ?_;cases qI:p1 c with
    |false=>
     refine pJ ?_;refine aa.cl I (λ_=>?_) (λh=>by cases h);refine eo ?_;refine aa.ret ⟨rfl,?_,rfl⟩;show cQ.ok (.b false)=cQ.ok (.b (nameB p1 p2 (c::t)));rw[nameB,decide_eq_true zY,vd,qI];rfl
    |true=>
     have dh:nameB p1 p2 (c::t)=t.all p2:=by rw[nameB,decide_eq_true zY,vd,qI];rfl
     rw[dh];refine pJ ?_;refine aa.cl I (λh=>by cases h) (λ_=>?_);refine aa.skip (aa.seq (aa.seq (aa.region ?_)));refine bo ?_;refine aa.block ?_;refine aa.loop (λm f af=>af=J/\∃i,i+m=t.length+1/\(((c::t).drop i).all p2)=t.all p2/\sat [(0,.s (c::t)),(1,.p (some (i1,0))),(2,.p (some (i2,0))),(5,aw i)] f) ?_ t.length ⟨rfl,1,U,b9⟩;intro m g af ⟨e,i,hi,hall,hL⟩;rw[e];clear e af;refine aa.norm _ hL λg=>?_;clear hL;refine aa.seq (aa.seq (aa.region ?_));refine ab.go I I I I ?_;refine ab.go I I I I ?_;refine ab.go I I I I ?_;refine ab.bin (a:=aw i) (b:=aw (t.length+1)) (v:=.b (decide (i<t.length+1))) I I I I (cG I) ?_;refine bo ?_;refine aa.cl I (λht=>?_) (λhf=>?_)
     ·have jm:i<t.length+1:=of_decide_eq_true ht;have tc:i<(c::t).length:=jm;rw[zU tc] at hall;refine aa.skip (aa.seq (aa.block (aa.seq (aa.draw I I ?_))))
      repeat (first|refine cd.go I I I I ?_|refine cd.a0 hK I I I I ?_|refine cd.cmp I I I I I ?_|refine cd.off I I ?_|refine cd.nil ?_)
      refine cd.val I I (Yl (j:=i) I I (EY tc)) ?_;refine cd.known hf aV.1 aV.2 (h2 _) I I I (fZ I) ?_;cases oP:p2 (c::t)[i] with
      |true=>
       rw[H5,oP,zt] at hall;refine pJ ?_;refine aa.cl I (λh=>by cases h) (λ_=>?_);refine aa.skip ?_;refine aa.region ?_;refine ab.go I I I I ?_;refine ab.bin (a:=aw i) (b:=aw 1) I I I I (ir U) ?_;refine bo ?_;exact⟨m-1,U,rfl,i+1,U,hall,b9⟩
      |false=>
       rw[H5,oP,QE] at hall;refine pJ ?_;refine aa.cl I (λ_=>?_) (λh=>by cases h);refine eo ?_;exact aa.ret ⟨rfl,by rw[<-hall];rfl,rfl⟩
     ·have iX:¬i<t.length+1:=of_decide_eq_false hf;rw[QF (by show t.length+1<=i;omega)] at hall;refine aa.exit ?_;refine eo ?_;exact aa.ret ⟨rfl,by rw[<-hall];rfl,rfl⟩
def QL(ae:bc (b.aQ K) Ci Fo)(cn ct:Nat)(J:ag)(k:Nat)(aC:J.next=k):bw (b.aQ K) 0 (.f (.func Ci) [] []) [.f (.func cn) [] [],.f (.func ct) [] []] J
  (λr af=>r= .ok (.f (.func zN) [] [.p (some (k,0)),.p (some (k+1,0))])/\af.get k=some (.cells [.f (.func cn) [] []])/\af.get (k+1)=some (.cells [.f (.func ct) [] []])):=by
 refine bw.code ae.e ae.p ae.f I I I I ?_;refine aa.seq (aa.region (ab.box (v:=.f (.func cn) [] []) k aC I I I I I λbu e6 h1 _=>ab.box (v:=.f (.func ct) [] []) (k+1) e6 I I I I I λbA fk h2 ba=>?_));replace h1:=ba _ _ h1;refine eo ?_;exact aa.ret ⟨rfl,rfl,h1,h2⟩
def prefB:List Nat->List Nat->Bool
 |_,[]=>true
 |[],_::_=>false
 |a::l,b::m=>Nat.beq b a&&prefB l m
def ZG:∀(a b:List Nat),b.length<=a.length->eqL (a.take b.length) b=prefB a b
 |[],[],_=>rfl
 |_::_,[],_=>rfl
 |[],_::_,h=>by simp at h
 |x::a,y::b,h=>by
  show cond (Nat.beq x y) (eqL (a.take b.length) b) false=(Nat.beq y x&&prefB a b);have e:Nat.beq x y=Nat.beq y x:=by
   rw[rl,mw,mw];exact eq_comm
  rw[e,ZG a b (by simpa using h)];cases Nat.beq y x<;>rfl
def ZI:∀(a b:List Nat),a.length<b.length->prefB a b=false
 |[],[],h=>by simp at h
 |_::_,[],h=>by simp at h
 |[],_::_,_=>rfl
 |x::a,y::b,h=>by
  show(Nat.beq y x&&prefB a b)=false;rw[ZI a b (by simpa using h)];simp
def b6p(x y:List Nat)(body:bC)(hb:Zo.body=some body):aa (b.aQ K) 18 body (eh [.s x,.s y]) ⟨.nil,0⟩ (kP 4 (.b (prefB x y))):=by
 cases hb;refine aa.seq (aa.region ?_);refine bo ?_;refine aa.seq (aa.region ?_);refine P7 ?_;by_cases h:y.length<=x.length
 ·refine ab.bin (a:=aw x.length) (b:=aw y.length) (v:=.b true) I I I I (cG (jU h)) ?_;refine P7 ?_;refine ab.val I I (JT (l:=0) (h:=y.length) I I I U h) ?_;refine P7 ?_;refine ab.bin (a:=.s (x.take y.length)) (b:=.s y) (v:=.b (eqL (x.take y.length) y)) I I I I I ?_;refine bo ?_;refine aa.ret ⟨rfl,?_⟩;show some (AV.b (eqL (x.take y.length) y))=_;rw[ZG x y h]
 ·refine ab.bin (a:=aw x.length) (b:=aw y.length) (v:=.b false) I I I I (cG (jV h)) ?_;refine bo ?_;refine aa.ret ⟨rfl,?_⟩;show some (AV.b false)=_;rw[ZI x y U]
include hf in
theorem b6q(ay:∀x y,K FL [.s x,.s y] (.b (prefB x y)))(pR:b.ext FL=0/\b.pure FL=true)(x y:List Nat)(body:bC)(hb:Zl.body=some body):aa (b.aQ K) 8 body (eh [.s x,.s y]) ⟨.nil,0⟩ (kP 4 (.b (prefB x y))):=by
 cases hb;refine aa.seq (aa.region ?_);refine bo ?_;refine aa.seq (aa.region ?_);refine bo ?_;refine ab.known hf pR.1 pR.2 (ay x y) I I I (lq I I) ?_;refine bo ?_;exact aa.ret ⟨rfl,rfl⟩
include hf in
theorem b6r(h1:∀c,K vA [a3 c] (.b (su c)))(aF:b.ext vA=0/\b.pure vA=true)(h2:∀c,K tH [a3 c] (.b (qZ c)))(aV:b.ext tH=0/\b.pure tH=true)(al:∀l,K oV [.s l] (.b (kO l)))(bJ:b.ext oV=0/\b.pure oV=true)
  (nK:bc (b.aQ K) zN Fp) (ae:bc (b.aQ K) Ci Fo) (l:List Nat) (ao:l.length<2^62) (body:bC) (hb:Y_.body=some body):aa (b.aQ K) 6 body (eh [.s l]) ⟨.nil,0⟩ (kP 2 (.b (pQ l))):=by
 cases hb;refine aa.seq (aa.region ?_);refine bo ?_;refine aa.seq (aa.region ?_);refine ab.dW I I I (QL ae vA tH ⟨.nil,0⟩ 0 I) λr J ⟨e,a9,bt⟩=>⟨_,e,?_⟩
 refine bo ?_;refine ab.dW I I I (QK hf h1 aF h2 aV al bJ nK l ao 0 1 J a9 bt) λr ah ⟨e,dp⟩=>⟨_,e,?_⟩
 refine eo ?_;exact aa.ret ⟨rfl,rfl⟩
include hf in
theorem b6s(h1:∀c,K Cj [a3 c] (.b (xK c)))(aF:b.ext Cj=0/\b.pure Cj=true)(h2:∀c,K vB [a3 c] (.b (sv c)))(aV:b.ext vB=0/\b.pure vB=true)(al:∀l,K oV [.s l] (.b (kO l)))(bJ:b.ext oV=0/\b.pure oV=true)
  (nK:bc (b.aQ K) zN Fp) (ae:bc (b.aQ K) Ci Fo) (l:List Nat) (ao:l.length<2^62) (body:bC) (hb:Y4.body=some body):aa (b.aQ K) 6 body (eh [.s l]) ⟨.nil,0⟩ (kP 2 (.b (isVar l))):=by
 cases hb;refine aa.seq (aa.region ?_);refine bo ?_;refine aa.seq (aa.region ?_);refine ab.dW I I I (QL ae Cj vB ⟨.nil,0⟩ 0 I) λr J ⟨e,a9,bt⟩=>⟨_,e,?_⟩
 refine bo ?_;refine ab.dW I I I (QK hf h1 aF h2 aV al bJ nK l ao 0 1 J a9 bt) λr ah ⟨e,dp⟩=>⟨_,e,?_⟩
 refine eo ?_;exact aa.ret ⟨rfl,rfl⟩
include hf in
theorem b6t(h1:∀c,K Ck [a3 c] (.b (xL c)))(aF:b.ext Ck=0/\b.pure Ck=true)(h2:∀c,K tH [a3 c] (.b (qZ c)))(aV:b.ext tH=0/\b.pure tH=true)(al:∀l,K oV [.s l] (.b (kO l)))(bJ:b.ext oV=0/\b.pure oV=true)
  (nK:bc (b.aQ K) zN Fp) (ae:bc (b.aQ K) Ci Fo) (l:List Nat) (ao:l.length<2^62) (body:bC) (hb:Zd.body=some body):aa (b.aQ K) 6 body (eh [.s l]) ⟨.nil,0⟩ (kP 2 (.b (isFun l))):=by
 cases hb;refine aa.seq (aa.region ?_);refine bo ?_;refine aa.seq (aa.region ?_);refine ab.dW I I I (QL ae Ck tH ⟨.nil,0⟩ 0 I) λr J ⟨e,a9,bt⟩=>⟨_,e,?_⟩
 refine bo ?_;refine ab.dW I I I (QK hf h1 aF h2 aV al bJ nK l ao 0 1 J a9 bt) λr ah ⟨e,dp⟩=>⟨_,e,?_⟩
 refine eo ?_;exact aa.ret ⟨rfl,rfl⟩
include hf in
theorem b6u(h1:∀l,l.length<2^62->K xD [.s l] (.b (pQ l)))(aF:b.ext xD=0/\b.pure xD=true)(ay:∀x y,y.length<2^62->x.length<2^62->K xG [.s x,.s y] (.b (prefB x y)))(pR:b.ext xG=0/\b.pure xG=true)(l:List Nat)(ao:l.length<2^62)(body:bC)(hb:Zi.body=some body):
  aa (b.aQ K) 15 body (eh [.s l]) ⟨.nil,0⟩ (kP 2 (.b (Ct l))):=by
 cases hb;refine aa.seq (aa.region ?_);refine bo ?_;refine aa.seq (aa.region ?_);refine ab.go I I I I ?_;refine ab.go I I I I ?_;by_cases mU:l.length<=16
 ·refine ab.bin (a:=aw l.length) (b:=aw 16) (v:=.b true) I I I I (cG (jU mU)) ?_;refine bo ?_;refine ab.known hf pR.1 pR.2 (ay l [63] eI ao) I I I (lq I I) ?_;cases l with
  |nil=>
   refine bo ?_;exact aa.ret ⟨rfl,rfl⟩
  |cons c t=>
   have zY:t.length+1<=16:=mU;by_cases ae:c=63
   ·subst ae;rw[show prefB (63::t) [63]=true from by simp[prefB]];refine bo ?_;refine ab.val I I (JT (s:=63::t) (l:=1) (h:=t.length+1) I I I U (b6 _)) ?_;rw[show((63::t).drop 1).take (t.length+1-1)=t from by simp];refine bo ?_;refine ab.known hf aF.1 aF.2 (h1 t U) I I I (fZ I) ?_;refine bo ?_;refine aa.ret ⟨rfl,?_⟩;show some (AV.b (pQ t))=some (AV.b (decide (t.length+1<=16)&&(decide (63=63)&&pQ t)));rw[decide_eq_true zY];rfl
   ·have QM:prefB (c::t) [63]=false:=by
     have hb:Nat.beq 63 c=false:=by cases hb:Nat.beq 63 c with
      |false=>rfl
      |true=>exact absurd (eM hb).symm ae
     simp only[prefB,hb,QE]
    rw[QM];refine bo ?_;refine aa.ret ⟨rfl,?_⟩;show some (AV.b false)=some (AV.b (decide (t.length+1<=16)&&(decide (c=63)&&pQ t)));rw[decide_eq_false ae];simp
 ·refine ab.bin (a:=aw l.length) (b:=aw 16) (v:=.b false) I I I I (cG (jV mU)) ?_;refine bo ?_;refine aa.ret ⟨rfl,?_⟩;show some (AV.b false)=some (AV.b (Ct l));cases l with
  |nil=>rfl
  |cons c t=>
   show some (AV.b false)=some (AV.b (decide (t.length+1<=16)&&(decide (c=63)&&pQ t)));rw[decide_eq_false (by simpa using mU)];rfl
include hf in
theorem b6v(h1:∀l,l.length<2^62->K xE [.s l] (.b (isFun l)))(aF:b.ext xE=0/\b.pure xE=true)(ay:∀x y,y.length<2^62->x.length<2^62->K xG [.s x,.s y] (.b (prefB x y)))(pR:b.ext xG=0/\b.pure xG=true)(l:List Nat)(ao:l.length<2^62)(body:bC)(hb:Zj.body=some body):
  aa (b.aQ K) 15 body (eh [.s l]) ⟨.nil,0⟩ (kP 2 (.b (oY l))):=by
 cases hb;refine aa.seq (aa.region ?_);refine bo ?_;refine aa.seq (aa.region ?_);refine ab.go I I I I ?_;refine ab.go I I I I ?_;by_cases mU:l.length<=16
 ·refine ab.bin (a:=aw l.length) (b:=aw 16) (v:=.b true) I I I I (cG (jU mU)) ?_;refine bo ?_;refine ab.known hf pR.1 pR.2 (ay l [63] eI ao) I I I (lq I I) ?_;cases l with
  |nil=>
   refine bo ?_;exact aa.ret ⟨rfl,rfl⟩
  |cons c t=>
   have zY:t.length+1<=16:=mU;by_cases ae:c=63
   ·subst ae;rw[show prefB (63::t) [63]=true from by simp[prefB]];refine bo ?_;refine ab.val I I (JT (s:=63::t) (l:=1) (h:=t.length+1) I I I U (b6 _)) ?_;rw[show((63::t).drop 1).take (t.length+1-1)=t from by simp];refine bo ?_;refine ab.known hf aF.1 aF.2 (h1 t U) I I I (fZ I) ?_;refine bo ?_;refine aa.ret ⟨rfl,?_⟩;show some (AV.b (isFun t))=some (AV.b (decide (t.length+1<=16)&&(decide (63=63)&&isFun t)));rw[decide_eq_true zY];rfl
   ·have QM:prefB (c::t) [63]=false:=by
     have hb:Nat.beq 63 c=false:=by cases hb:Nat.beq 63 c with
      |false=>rfl
      |true=>exact absurd (eM hb).symm ae
     simp only[prefB,hb,QE]
    rw[QM];refine bo ?_;refine aa.ret ⟨rfl,?_⟩;show some (AV.b false)=some (AV.b (decide (t.length+1<=16)&&(decide (c=63)&&isFun t)));rw[decide_eq_false ae];simp
 ·refine ab.bin (a:=aw l.length) (b:=aw 16) (v:=.b false) I I I I (cG (jV mU)) ?_;refine bo ?_;refine aa.ret ⟨rfl,?_⟩;show some (AV.b false)=some (AV.b (oY l));cases l with
  |nil=>rfl
  |cons c t=>
   show some (AV.b false)=some (AV.b (decide (t.length+1<=16)&&(decide (c=63)&&isFun t)));rw[decide_eq_false (by simpa using mU)];rfl
end
def nodeJ(deep depth:Nat):Nat->Option Nat
 |0=>none
 |L+1=>if depth<=deep then some L else none
mutual
def termJ(cx:Bool)(deep:Nat):Tm->Nat->Nat->Option Nat
 | .mk v n none,depth,L=>match nodeJ deep depth L with
  |none=>none
  |some L=>if v then(if(isVar n||(cx&&oY n))=true then some L else none) else(if isFun n=true then some L else none)
 | .mk v n (some l),depth,L=>match nodeJ deep depth L with
  |none=>none
  |some L=>if v then(if l.length=0/\(isVar n||(cx&&oY n))=true then some L else none) else(if l.length<=4/\isFun n=true then termsJ cx deep l (depth+1) L else none)
def termsJ(cx:Bool)(deep:Nat):List Tm->Nat->Nat->Option Nat
 |[],_,L=>some L
 |t::l,depth,L=>match termJ cx deep t depth L with
  |none=>none
  |some L=>termsJ cx deep l depth L
end
def KY(cx:Bool)(deep:Nat)(t:Tm)(depth L:Nat):termJ cx deep t depth L=match nodeJ deep depth L with
  |none=>none
  |some L=>if t.var then(if t.args.length=0/\(isVar t.name||(cx&&oY t.name))=true then some L else none) else(if t.args.length<=4/\isFun t.name=true then termsJ cx deep t.args (depth+1) L else none):=by
 obtain⟨v,n,a⟩:=t;cases a with
 |none=>
  rw[termJ];cases nodeJ deep depth L with
  |none=>rfl
  |some L=>
   show(if v then _ else _)=(if v then(if(0=0/\_) then _ else _) else(if 0<=4/\isFun n=true then termsJ cx deep [] (depth+1) L else none));simp[termsJ,Tm.name]
 |some l=>rw[termJ];rfl
def q0(op:Nat):Bool:=decide (1<=op)&&decide (op<=14)
def tM(op:Nat):Bool:=decide (1<=op)&&decide (op<=16)
def pS(op:Nat):Nat:=if op=1 then 1 else if op=8\/op=9 then 2 else if op=15\/op=16 then 3 else 0
def q1(op:Nat):Nat:=if op=1 then 4 else if op=16 then 2 else 0
def nv(op:Nat):Nat:=if op=3\/op=8\/op=9\/op=10\/op=11\/op=12\/op=13 then 1 else if op=4\/op=5\/op=6\/op=7\/op=14 then 2 else 0
def KZ(op:Nat):List AV:=[.b (q0 op),.b (tM op),.i .u8 (Int.ofNat (pS op)),aw (q1 op),aw (nv op)]
def FX:List AV:=(List.range 17).flatMap KZ
def b6w{op:Nat}(h:op<17):dB (some 5) (FX.drop (op*5))=some (.ad (KZ op)):=by
 have:op=0\/op=1\/op=2\/op=3\/op=4\/op=5\/op=6\/op=7\/op=8\/op=9\/op=10\/op=11\/op=12\/op=13\/op=14\/op=15\/op=16:=by omega
 rcases this with rfl|rfl|rfl|rfl|rfl|rfl|rfl|rfl|rfl|rfl|rfl|rfl|rfl|rfl|rfl|rfl|rfl<;>rfl
def k6(sort:Nat)(s:List Nat):Bool:=if sort=1 then pQ s else if sort=2 then isVar s else if sort=3 then Ct s else eqL s []
def instB(l:List Tm):Bool:=match l with|[a,b]=>a.var&&(isVar a.name&&(b.var&&oY b.name))|_=>false
mutual
def formJ(cx:Bool)(deep:Nat):Fm->Nat->Nat->Option Nat
 | .mk op n a none,depth,L=>match nodeJ deep depth L with
  |none=>none
  |some L=>if op<17/\(q0 op||(cx&&tM op))=true/\k6 (pS op) n=true/\(a.getD []).length<=q1 op/\0=nv op/\(op=16->instB (a.getD [])=true) then termsJ cx deep (a.getD []) (depth+1) L else none
 | .mk op n a (some l),depth,L=>match nodeJ deep depth L with
  |none=>none
  |some L=>if op<17/\(q0 op||(cx&&tM op))=true/\k6 (pS op) n=true/\(a.getD []).length<=q1 op/\l.length=nv op/\(op=16->instB (a.getD [])=true) then
    match termsJ cx deep (a.getD []) (depth+1) L with
    |none=>none
    |some L=>formsJ cx deep l (depth+1) L
   else none
def formsJ(cx:Bool)(deep:Nat):List Fm->Nat->Nat->Option Nat
 |[],_,L=>some L
 |t::l,depth,L=>match formJ cx deep t depth L with
  |none=>none
  |some L=>formsJ cx deep l depth L
end
def ZJ(cx:Bool)(deep:Nat)(f:Fm)(depth L:Nat):formJ cx deep f depth L=match nodeJ deep depth L with
  |none=>none
  |some L=>if f.op<17/\(q0 f.op||(cx&&tM f.op))=true/\k6 (pS f.op) f.name=true/\f.args.length<=q1 f.op/\f.sub.length=nv f.op/\(f.op=16->instB f.args=true) then
    match termsJ cx deep f.args (depth+1) L with
    |none=>none
    |some L=>formsJ cx deep f.sub (depth+1) L
   else none:=by
 obtain⟨op,n,a,s⟩:=f;cases s with
 |none=>
  rw[formJ];cases nodeJ deep depth L with
  |none=>rfl
  |some L=>
   show(if op<17/\_ then termsJ cx deep (a.getD []) (depth+1) L else none)=(if op<17/\_ then(match termsJ cx deep (a.getD []) (depth+1) L with|none=>none|some L=>formsJ cx deep [] (depth+1) L) else none);have:(match termsJ cx deep (a.getD []) (depth+1) L with|none=>none|some L=>formsJ cx deep [] (depth+1) L)=termsJ cx deep (a.getD []) (depth+1) L:=by
    cases termsJ cx deep (a.getD []) (depth+1) L with
    |none=>rfl
    |some L=>show formsJ cx deep [] (depth+1) L=some L;rw[formsJ]
   rw[this];rfl
 |some l=>rw[formJ];rfl
def oZ(f:Fm):Bool:=(formJ false 40 f 1 400).isSome
def ZK{av:aH->Option AV}{J:ag}{k:IntKind}{x:aH}{a:Nat}(h1:av x=some (.i k (Int.ofNat a)))(h:a<2^63):opx 0 av J (.conv .i64 x)=some (.val (aw a) J):=by
 show(match av x with|some (.i _ n)=>some (bH.val (.i .i64 (wrapN .i64 n)) J)|some (.e3 _ d j)=>some (.val (.e3 .i64 d j) J)|_=>none)=_;rw[h1];show some (bH.val (.i .i64 (wrapN .i64 (Int.ofNat a))) J)=_;rw[PY h]
def xM(j:Nat)(cx:Bool)(deep:Nat)(o:Option Nat)(J:ag)(r:cQ)(af:ag):Prop:=r= .ok (.b o.isSome)/\(∀L,o=some L->af.get j=some (.cells [.b cx,aw L,aw deep]))/\hv (λi=>i=j) J af
section
variable {b:b8}{K:Nat->List AV->AV->Prop}(hf:∀g aB r bS,K g aB r->K g aB bS->r=bS)
def ZM(hn:bc (b.aQ K) KH Qn)(j:Nat)(cx:Bool)(deep depth L:Nat)(an:deep<2^63)(FY:depth<2^63)(hL:L<2^63)(J:ag)(aG:J.get j=some (.cells [.b cx,aw L,aw deep])):
  bw (b.aQ K) 0 (.f (.func KH) [] []) [.p (some (j,0)),aw depth] J (xM j cx deep (nodeJ deep depth L) J):=by
 refine bw.code hn.e hn.p hn.f I I I I ?_;refine aa.seq (aa.region ?_);refine bo ?_;refine aa.seq (aa.region ?_);refine E7 ?_;cases L with
 |zero=>
  refine ab.bin (a:=aw 0) (b:=aw 1) (v:=.i .i64 (-1)) I I I I I ?_;refine E7 ?_;refine ab.store (bn:=[.b cx,.i .i64 (-1),aw deep]) aG I I I I I λah e6 h1 bM=>?_;refine ab.nil (aa.seq (aa.region ?_));refine YA ?_;refine ab.bin (a:=.i .i64 (-1)) (b:=.i .i64 0) (v:=.b false) I I I I I ?_;refine YA ?_;exact aa.ret ⟨rfl,rfl,λL h=>(by cases h),⟨U,λi o hi ho=>bM i o hi ho⟩⟩
 |succ L=>
  refine ab.bin (a:=aw (L+1)) (b:=aw 1) I I I I (jS U hL) ?_;refine E7 ?_;refine ab.store (bn:=[.b cx,aw L,aw deep]) aG I I I I I λah e6 h1 bM=>?_;refine ab.nil (aa.seq (aa.region ?_));refine YC ?_;refine ab.bin (a:=aw L) (b:=aw 0) (v:=.b true) I I I I (cG (jU (kA _))) ?_;refine YC ?_;have aC:hv (λi=>i=j) J ah:=⟨U,λi o hi ho=>bM i o hi ho⟩
  by_cases h:depth<=deep
  ·refine ab.bin (a:=aw depth) (b:=aw deep) (v:=.b true) I I I I (cG (jU h)) ?_;refine bo ?_;refine aa.ret ⟨rfl,?_⟩;rw[nodeJ,if_pos h];exact⟨rfl,λdT e=>by cases e;exact h1,aC⟩
  ·refine ab.bin (a:=aw depth) (b:=aw deep) (v:=.b false) I I I I (cG (jV h)) ?_;refine bo ?_;refine aa.ret ⟨rfl,?_⟩;rw[nodeJ,if_neg h];exact⟨rfl,λdT e=>(by cases e),aC⟩
structure FZ(b:b8)(K:Nat->List AV->AV->Prop):Prop where
 fn:∀g aB r bS,K g aB r->K g aB bS->r=bS
 var:∀l,l.length<2^62->K sg [.s l] (.b (isVar l))
 ZN:∀l,l.length<2^62->K xE [.s l] (.b (isFun l))
 xN:∀l,l.length<2^62->K xF [.s l] (.b (oY l))
 named:∀k l,l.length<2^62->K FE [a3 k,.s l] (.b (k6 k l))
 inst:∀l:Option (List Tm),(l.getD []).length<2^62->(∀t∈l.getD [],t.name.length<2^62/\2*t.dep<=b.a2+800)->K FF [cy true l] (.b (instB (l.getD [])))
 QN:b.ext sg=0/\b.pure sg=true
 QO:b.ext xE=0/\b.pure xE=true
 QP:b.ext xF=0/\b.pure xF=true
 QQ:b.ext FE=0/\b.pure FE=true
 F0:b.ext FF=0/\b.pure FF=true
 node:bc (b.aQ K) KH Qn
 term:bc (b.aQ K) KI Ze
 K0:bc (b.aQ K) QA Zc
 form:bc (b.aQ K) Qz Y7
inductive Tm.ok:Tm->Prop
 |mk {v:Bool} {n:List Nat} {a:Option (List Tm)} (hn:n.length<2^62) (ao:(a.getD []).length<2^62) (h:∀x∈a.getD [],Tm.ok x):Tm.ok (.mk v n a)
def Tm.ok.aD{t:Tm}(h:t.ok):t.name.length<2^62:=by cases h with|mk h _ _=>exact h
def Tm.ok.len{t:Tm}(h:t.ok):t.args.length<2^62:=by cases h with|mk _ h _=>exact h
def Tm.ok.arg{t:Tm}(h:t.ok):∀x∈t.args,x.ok:=by cases h with|mk _ _ h=>exact h
inductive Fm.ok:Fm->Prop
 |mk {op:Nat} {n:List Nat} {a:Option (List Tm)} {s:Option (List Fm)} (ho:op<256) (hn:n.length<2^62) (gW:(a.getD []).length<2^62) (ha:∀x∈a.getD [],Tm.ok x) (ao:(s.getD []).length<2^62) (h:∀x∈s.getD [],Fm.ok x):Fm.ok (.mk op n a s)
def Fm.ok.op{t:Fm}(h:t.ok):t.op<256:=by cases h with|mk h _ _ _ _ _=>exact h
def Fm.ok.aD{t:Fm}(h:t.ok):t.name.length<2^62:=by cases h with|mk _ h _ _ _ _=>exact h
def Fm.ok.B1{t:Fm}(h:t.ok):t.args.length<2^62:=by cases h with|mk _ _ h _ _ _=>exact h
def Fm.ok.arg{t:Fm}(h:t.ok):∀x∈t.args,x.ok:=by cases h with|mk _ _ _ h _ _=>exact h
def Fm.ok.JZ{t:Fm}(h:t.ok):t.sub.length<2^62:=by cases h with|mk _ _ _ _ h _=>exact h
def Fm.ok.vh{t:Fm}(h:t.ok):∀x∈t.sub,x.ok:=by cases h with|mk _ _ _ _ _ h=>exact h
def F1{deep depth L dT:Nat}(h:nodeJ deep depth L=some dT):L=dT+1/\depth<=deep:=by
 cases L with
 |zero=>cases h
 |succ L=>
  rw[nodeJ] at h;split at h
  ·cases h;exact⟨rfl,‹_›⟩
  ·cases h
mutual
def ZQ{cx:Bool}{deep:Nat}:∀(t:Tm) {depth L dT:Nat},termJ cx deep t depth L=some dT->dT<=L
 | .mk v n none,depth,L,dT,h=>by
  rw[termJ] at h;cases hn:nodeJ deep depth L with
  |none=>rw[hn] at h;cases h
  |some M=>
   have:=(F1 hn).1;rw[hn] at h;simp only[] at h;split at h<;>split at h<;>(first|(cases h;omega)|cases h)
 | .mk v n (some l),depth,L,dT,h=>by
  rw[termJ] at h;cases hn:nodeJ deep depth L with
  |none=>rw[hn] at h;cases h
  |some M=>
   have:=(F1 hn).1;rw[hn] at h;simp only[] at h;split at h
   ·split at h
    ·cases h;omega
    ·cases h
   ·split at h
    ·have:=K1 l h;omega
    ·cases h
def K1{cx:Bool}{deep:Nat}:∀(l:List Tm) {depth L dT:Nat},termsJ cx deep l depth L=some dT->dT<=L
 |[],depth,L,dT,h=>by rw[termsJ] at h;cases h;exact b6 _
 |t::l,depth,L,dT,h=>by
  rw[termsJ] at h;cases ht:termJ cx deep t depth L with
  |none=>rw[ht] at h;cases h
  |some M=>
   rw[ht] at h;have h1:=ZQ t ht;have h2:=K1 l h;omega
end
def ZS(aC:FZ b K){j:Nat}{cx:Bool}{deep:Nat}(zZ:deep<2^62){d:Nat}
  (ar:∀(t:Tm),t.dep<=d->t.ok->∀(depth L:Nat),depth<=deep+1->L<2^63->∀J:ag,J.get j=some (.cells [.b cx,aw L,aw deep])->bw (b.aQ K) 0 (.f (.func KI) [] []) [.p (some (j,0)),t.A true,aw depth] J (xM j cx deep (termJ cx deep t depth L) J))
  (a:Option (List Tm)) (ha:∀t∈a.getD [],t.dep<=d/\t.ok) (ao:(a.getD []).length<2^62) (depth L:Nat) (FY:depth<=deep+1) (hL:L<2^63) (cr:ag) (aG:cr.get j=some (.cells [.b cx,aw L,aw deep])):
  bw (b.aQ K) 0 (.f (.func QA) [] []) [.p (some (j,0)),cy true a,aw depth] cr (xM j cx deep (termsJ cx deep (a.getD []) depth L) cr):=by
 refine bw.code aC.K0.e aC.K0.p aC.K0.f I I I I ?_;refine aa.seq (aa.region ?_);refine bo ?_;refine aa.seq (aa.seq (aa.region ?_));refine bo ?_;refine ab.len I I I lr ?_;refine bo ?_;refine aa.block ?_;refine aa.loop (λm f af=>hv (λi=>i=j) cr af/\∃i M,i+m=(a.getD []).length/\M<2^63/\af.get j=some (.cells [.b cx,aw M,aw deep])/\termsJ cx deep ((a.getD []).drop i) depth M=termsJ cx deep (a.getD []) depth L∧
  sat [(0,.p (some (j,0))),(2,aw depth),(9,cy true a),(10,aw (a.getD []).length),(11,aw i)] f) ?_ (a.getD []).length ⟨.refl,0,L,U,hL,aG,by rw[y_],b9⟩
 intro m g J ⟨hy,i,M,hi,xO,aG,g4,F2⟩;refine aa.norm _ F2 λg=>?_;clear F2;refine eo ?_;refine aa.cl I (λht=>?_) (λhf=>?_)
 ·have hlt:i<(a.getD []).length:=of_decide_eq_true ht;rw[zU hlt,termsJ] at g4;generalize hg:(a.getD [])[i]=t at g4;have K2:t∈a.getD []:=by rw[<-hg];exact c3 hlt
  obtain⟨b6x,b6y⟩:=ha t K2;refine aa.skip (aa.seq (aa.block (aa.seq (aa.region ?_))));refine ab.idx (v:=.dk true (t.A true)) I I I I (by rw[<-hg];exact oR hlt) ?_;refine ab.gY I I I (Tm.conf true t) ?_;refine ab.var (v:=t.A true) (c:=t.cells true) J.next I I I I (Tm.conf true t) I (Tm.len true t) λah fk aN ba=>?_;replace aG:=ba _ _ aG;refine ab.nil (aa.seq (aa.region ?_));refine bo ?_;refine ab.a0 aN I I I (Tm.a0 true t) ?_;refine bo ?_;refine ab.dW I I I (ar t b6x b6y depth M FY xO ah aG) λr a1 ⟨aF,fj,fT⟩=>⟨_,aF,?_⟩
  have jW:hv (λi=>i=j) cr a1:=(hy.trans (.of U ba)).trans fT;cases vG:termJ cx deep t depth M with
  |none=>
   rw[vG] at g4;refine bo ?_;refine aa.cl I (λ_=>?_) (λh=>by cases h);refine eo ?_;refine aa.ret ⟨rfl,?_⟩;rw[<-g4];exact⟨rfl,λL e=>(by cases e),jW⟩
  |some F3=>
   rw[vG] at g4;have b6z:=ZQ t vG;refine bo ?_;refine aa.cl I (λh=>by cases h) (λ_=>?_);refine aa.skip ?_;refine aa.region ?_;refine ab.bin (a:=aw i) (b:=aw 1) I I I I (ir U) ?_;refine bo ?_;exact⟨m-1,U,jW,i+1,F3,U,U,fj F3 vG,g4,b9⟩
 ·have iX:¬i<(a.getD []).length:=of_decide_eq_false hf;rw[QF U,termsJ] at g4;refine aa.exit ?_;refine eo ?_;refine aa.ret ⟨rfl,?_⟩;rw[<-g4];exact⟨rfl,λL e=>by cases e;exact aG,hy⟩
set_option maxHeartbeats 0 in
def ZT(aC:FZ b K){j:Nat}{cx:Bool}{deep:Nat}(zZ:deep<2^62):∀(d:Nat) (t:Tm),t.dep<=d->t.ok->∀(depth L:Nat),depth<=deep+1->L<2^63->∀J:ag,J.get j=some (.cells [.b cx,aw L,aw deep])→
  bw (b.aQ K) 0 (.f (.func KI) [] []) [.p (some (j,0)),t.A true,aw depth] J (xM j cx deep (termJ cx deep t depth L) J)
 |0,t,h,_,_,_,_,_,_,_=>by rw[Tm.e0] at h;omega
 |d+1,t,an,ht,depth,L,FY,hL,cr,aG=>by
  have jX:=ht.aD;refine bw.code aC.term.e aC.term.p aC.term.f I I I I ?_;generalize w7:cr.next=k;have YH:j<k:=by have:=ag.cJ aG;omega
  refine aa.seq (aa.region (ab.box (v:=t.A true) (c:=t.cells true) k w7 I I I I I λJ hn h1 bM=>?_));have hy:hv (λi=>i=j) cr J:=.of U bM;replace aG:=bM _ _ aG;refine bo ?_;refine aa.seq (aa.seq (aa.region ?_));refine bo ?_;refine ab.dW I I I (ZM aC.node j cx deep depth L U U hL J aG) λr ah ⟨aF,fj,nu⟩=>⟨_,aF,?_⟩
  replace h1:=nu.bK _ _ U h1;have fT:=hy.trans nu;obtain⟨o,ho⟩:∃o,termJ cx deep t depth L=o:=⟨_,rfl⟩
  rw[ho];rw[KY] at ho;cases vH:nodeJ deep depth L with
  |none=>
   rw[vH] at ho;subst ho;refine bo ?_;refine aa.cl I (λ_=>?_) (λh=>by cases h);refine eo ?_;exact aa.ret ⟨rfl,rfl,λL e=>(by cases e),fT⟩
  |some M=>
   obtain⟨b6A,Jd⟩:=F1 vH;replace aG:=fj M vH;rw[vH] at ho;replace ho:(if t.var=true then(if t.args.length=0/\(isVar t.name||(cx&&oY t.name))=true then some M else none) else(if t.args.length<=4/\isFun t.name=true then termsJ cx deep t.args (depth+1) M else none))=o:=ho;refine bo ?_;refine aa.cl I (λh=>by cases h) (λ_=>?_);refine aa.skip (aa.seq (aa.seq (aa.region ?_)));refine bo ?_;refine ab.a0 h1 I I I (Tm.JY true t) ?_;refine bo ?_;refine aa.cl I (λau=>?_) (λau=>?_)
   ·-- a variable
    rw[if_pos au] at ho;refine aa.seq (aa.region ?_);refine bo ?_;refine ab.a0 h1 I I I (Tm.qM true t) ?_;refine ab.len I I I lr ?_;have K3:t.args.length=0/\(isVar t.name||(cx&&oY t.name))=true->xM j cx deep o cr (.ok (.b true)) ah:=λh=>by
     rw[if_pos h] at ho;subst ho;exact⟨rfl,λL e=>by cases e;exact aG,fT⟩
    have jC:¬(t.args.length=0/\(isVar t.name||(cx&&oY t.name))=true)->xM j cx deep o cr (.ok (.b false)) ah:=λh=>by
     rw[if_neg h] at ho;subst ho;exact⟨rfl,λL e=>(by cases e),fT⟩
    clear ho;by_cases h0:t.args.length=0
    ·refine ab.bin (a:=aw t.args.length) (b:=aw 0) (v:=.b true) I I I I (cG (jU h0)) ?_;refine bo ?_;refine ab.a0 h1 I I I (Tm.tA true t) ?_;refine ab.known aC.fn aC.QN.1 aC.QN.2 (aC.var t.name jX) I I I (fZ I) ?_;cases ZU:isVar t.name with
     |true=>
      refine bo ?_;exact aa.ret ⟨rfl,K3 ⟨h0,by rw[ZU];rfl⟩⟩
     |false=>
      rw[ZU,IW] at K3 jC;refine E7 ?_;cases pq:cx with
      |false=>
       refine bo ?_;exact aa.ret ⟨rfl,pq▸jC λh=>by rw[pq] at h;cases h.2⟩
      |true=>
       refine bo ?_;refine ab.a0 h1 I I I (Tm.tA true t) ?_;refine ab.known aC.fn aC.QP.1 aC.QP.2 (aC.xN t.name jX) I I I (fZ I) ?_;rw[pq,zt] at K3 jC;cases K2:oY t.name with
       |true=>
        refine bo ?_;exact aa.ret ⟨rfl,K3 ⟨h0,K2⟩⟩
       |false=>
        refine bo ?_;exact aa.ret ⟨rfl,jC λh=>by rw[K2] at h;cases h.2⟩
    ·refine ab.bin (a:=aw t.args.length) (b:=aw 0) (v:=.b false) I I I I (cG (jV h0)) ?_;refine bo ?_;exact aa.ret ⟨rfl,jC λh=>h0 h.1⟩
   ·rw[au] at ho;replace ho:(if t.args.length<=4/\isFun t.name=true then termsJ cx deep t.args (depth+1) M else none)=o:=ho;refine aa.skip (aa.seq (aa.region ?_));refine bo ?_;refine ab.a0 h1 I I I (Tm.qM true t) ?_;refine ab.len I I I lr ?_;by_cases aN:t.args.length<=4
    ·refine ab.bin (a:=aw t.args.length) (b:=aw 4) (v:=.b true) I I I I (cG (jU aN)) ?_;refine bo ?_;refine ab.a0 h1 I I I (Tm.tA true t) ?_;refine ab.known aC.fn aC.QO.1 aC.QO.2 (aC.ZN t.name jX) I I I (fZ I) ?_;cases hfn:isFun t.name with
     |true=>
      rw[if_pos ⟨aN,hfn⟩] at ho;refine bo ?_;refine ab.a0 h1 I I I (Tm.qM true t) ?_;refine bo ?_;refine ab.bin (a:=aw depth) (b:=aw 1) I I I I (ir U) ?_;refine ab.dW I I I (ZS aC zZ (d:=d) (λu hu QR F4 dT h1 h2 af h3=>ZT aC zZ d u hu QR F4 dT h1 h2 af h3) t.cP (λu hu=>⟨by have:=Tm.l9 (t:=t) hu;omega,ht.arg u hu⟩) ht.len (depth+1) M U U ah aG) λr a1 ⟨aV,mI,jW⟩=>⟨_,aV,?_⟩
      have ho:termsJ cx deep (t.cP.getD []) (depth+1) M=o:=ho;rw[ho] at mI ⊢;refine bo ?_;refine aa.ret ⟨rfl,?_,mI,fT.trans jW⟩;cases o<;>rfl
     |false=>
      rw[if_neg (λh=>by rw[hfn] at h;cases h.2)] at ho;subst ho;refine bo ?_;exact aa.ret ⟨rfl,rfl,λL e=>(by cases e),fT⟩
    ·refine ab.bin (a:=aw t.args.length) (b:=aw 4) (v:=.b false) I I I I (cG (jV aN)) ?_;rw[if_neg (λh=>aN h.1)] at ho;subst ho;refine bo ?_;exact aa.ret ⟨rfl,rfl,λL e=>(by cases e),fT⟩
def b6B{cx:Bool}{deep:Nat}{l:List Fm}(h:∀f∈l,∀depth L dT,formJ cx deep f depth L=some dT->dT<=L):∀ {depth L dT:Nat},formsJ cx deep l depth L=some dT->dT<=L:=by
 induction l with
 |nil=>intro depth L dT e;rw[formsJ] at e;cases e;exact b6 _
 |cons f l ar=>
  intro depth L dT e;rw[formsJ] at e;cases hf:formJ cx deep f depth L with
  |none=>rw[hf] at e;cases e
  |some M=>
   rw[hf] at e;have h1:=h f aT _ _ _ hf;have h2:=ar (λg hg=>h g (fP _ hg)) e;omega
def ZV{cx:Bool}{deep:Nat}:∀(d:Nat) (f:Fm),f.dep<=d->∀ {depth L dT:Nat},formJ cx deep f depth L=some dT->dT<=L
 |0,f,h,_,_,_,_=>by rw[Fm.e0] at h;omega
 |d+1,f,h,depth,L,dT,e=>by
  rw[ZJ] at e;cases hn:nodeJ deep depth L with
  |none=>rw[hn] at e;cases e
  |some M=>
   have:=(F1 hn).1;rw[hn] at e;simp only[] at e;split at e
   ·cases ht:termsJ cx deep f.args (depth+1) M with
    |none=>rw[ht] at e;cases e
    |some N=>
     rw[ht] at e;have h1:=K1 _ ht;have h2:=b6B (λg hg _ _ _ e=>ZV d g (by have:=Fm.pH hg;omega) e) e;omega
   ·cases e
set_option maxHeartbeats 0 in
def ZX(aC:FZ b K)(hg:b.mA KT=some (.ad FX)){j:Nat}{cx:Bool}{deep:Nat}(zZ:deep<2^62):∀(d:Nat) (F:Fm),F.dep<=d->2*F.dep<=b.a2+800->F.ok->∀(depth L:Nat),depth<=deep+1->L<2^63->∀J:ag,J.get j=some (.cells [.b cx,aw L,aw deep])→
  bw (b.aQ K) 0 (.f (.func Qz) [] []) [.p (some (j,0)),F.A true,aw depth] J (xM j cx deep (formJ cx deep F depth L) J)
 |0,t,h,_,_,_,_,_,_,_,_=>by rw[Fm.e0] at h;omega
 |d+1,F,an,K4,bB,depth,L,FY,hL,cr,aG=>by
  have jX:=bB.aD;have eO:=bB.op;refine bw.code aC.form.e aC.form.p aC.form.f I I I I ?_;generalize w7:cr.next=k;have YH:j<k:=by have:=ag.cJ aG;omega
  refine aa.seq (aa.region (ab.box (v:=F.A true) (c:=F.cells true) k w7 I I I I I λJ hn h1 bM=>?_));have hy:hv (λi=>i=j) cr J:=.of U bM;replace aG:=bM _ _ aG;refine bo ?_;refine aa.seq (aa.seq (aa.region ?_));refine bo ?_;refine ab.dW I I I (ZM aC.node j cx deep depth L U U hL J aG) λr ah ⟨aF,fj,nu⟩=>⟨_,aF,?_⟩
  replace h1:=nu.bK _ _ U h1;have fT:=hy.trans nu;have fk:=nu.next;obtain⟨o,ho⟩:∃o,formJ cx deep F depth L=o:=⟨_,rfl⟩
  rw[ho];rw[ZJ] at ho;cases vH:nodeJ deep depth L with
  |none=>
   rw[vH] at ho;subst ho;refine bo ?_;refine aa.cl I (λ_=>?_) (λh=>by cases h);refine eo ?_;exact aa.ret ⟨rfl,rfl,λL e=>(by cases e),fT⟩
  |some M=>
   obtain⟨b6A,Jd⟩:=F1 vH;replace aG:=fj M vH;rw[vH] at ho;replace ho:(if F.op<17/\(q0 F.op||(cx&&tM F.op))=true/\k6 (pS F.op) F.name=true/\F.args.length<=q1 F.op/\F.sub.length=nv F.op/\(F.op=16->instB F.args=true) then
    (match termsJ cx deep F.args (depth+1) M with
    |none=>none
    |some L=>formsJ cx deep F.sub (depth+1) L)
    else none)=o:=ho
   have xP:¬(F.op<17/\(q0 F.op||(cx&&tM F.op))=true/\k6 (pS F.op) F.name=true/\F.args.length<=q1 F.op/\F.sub.length=nv F.op/\(F.op=16->instB F.args=true))->o=none:=λh=>by rw[if_neg h] at ho;exact ho.symm
   have jC:o=none->∀ {a1:ag},hv (λi=>i=j) cr a1->xM j cx deep o cr (.ok (.b false)) a1:=λh a1 eg=>by subst h;exact⟨rfl,λL e=>(by cases e),eg⟩
   refine bo ?_;refine ab.a0 h1 I I I (Fm.vs true F) ?_;refine ab.val I I (ZK (a:=F.op) I U) ?_;by_cases ZY:17<=F.op
   ·refine ab.bin (a:=aw F.op) (b:=aw 17) (v:=.b true) I I I I (cG (jU ZY)) ?_;refine bo ?_;refine aa.cl I (λ_=>?_) (λh=>by cases h);refine eo ?_;exact aa.ret ⟨rfl,jC (xP λh=>by omega) fT⟩
   have QS:F.op<17:=by omega
   refine ab.bin (a:=aw F.op) (b:=aw 17) (v:=.b false) I I I I (cG (jV ZY)) ?_;refine bo ?_;refine aa.cl I (λh=>by cases h) (λ_=>?_);refine aa.skip ?_;refine aa.norm [(0,.p (some (j,0))),(2,aw depth),(4,.p (some (k,0))),(6,.b false),(7,c4),(27,c4),(32,c4)] b9 λg=>?_;refine aa.seq (aa.region ?_);refine bo ?_;refine ab.a0 h1 I I I (Fm.vs true F) ?_;refine ab.val I I (b4O (j:=F.op) (cs:=FX) (o:=true) (by show(match b.mA KT with|some v=>some (AV.dk true v)|none=>none)=_;rw[hg]) I QS (b6w QS)) ?_;refine ab.gY I I I I ?_;generalize ZZ:ah.next=z;refine ab.var (v:=.ad (KZ F.op)) (c:=KZ F.op) z ZZ I I I I I I λca lM h2 ba=>?_;have b6C:k<z:=by omega
   replace h1:=ba _ _ h1;replace aG:=ba _ _ aG;have jW:hv (λi=>i=j) cr ca:=fT.trans (.of U ba);clear hy nu fT bM ba fj aF;refine ab.nil ?_;refine aa.norm [(0,.p (some (j,0))),(2,aw depth),(4,.p (some (k,0))),(6,.b false),(7,.p (some (z,0)))] b9 λg=>?_
   -- rn row is one of right c6N
   refine aa.EX [(0,.p (some (j,0))),(2,aw depth),(4,.p (some (k,0))),(6,.b false),(7,.p (some (z,0)))] (E:=λx bD af=>x= .ret/\bD 6= .b false/\af=ca/\o=none) (M:=(q0 F.op||(cx&&tM F.op))=true) ?_ ?_ λhR g=>?_
   ·-- rn row c6O in H8 is right
    refine aa.seq (aa.region ?_);refine J5 ?_;cases hS:q0 F.op with
    |true=>
     refine J5 ?_;refine aa.cl I (λh=>by cases h) (λ_=>?_);exact aa.skip (.inl ⟨rfl,rfl,b9,rfl⟩)
    |false=>
     refine E7 ?_;cases pq:cx with
     |false=>
      refine bo ?_;refine aa.cl I (λ_=>?_) (λh=>by cases h);refine eo ?_;exact aa.ret (.inr ⟨rfl,rfl,rfl,xP λae=>by rw[hS,pq] at ae;cases ae.2.1⟩)
     |true=>
      refine J5 ?_;cases nV:tM F.op with
      |true=>
       refine bo ?_;refine aa.cl I (λh=>by cases h) (λ_=>?_);exact aa.skip (.inl ⟨rfl,rfl,b9,rfl⟩)
      |false=>
       refine bo ?_;refine aa.cl I (λ_=>?_) (λh=>by cases h);refine eo ?_;exact aa.ret (.inr ⟨rfl,rfl,rfl,xP λae=>by rw[hS,pq,nV] at ae;cases ae.2.1⟩)
   ·rintro x bD af ⟨rfl,cf,rfl,h⟩;exact⟨aT,rfl,by rw[cf];exact jC h jW⟩
   refine aa.EX [(0,.p (some (j,0))),(2,aw depth),(4,.p (some (k,0))),(6,.b false),(7,.p (some (z,0)))] (E:=λx bD af=>x= .ret/\bD 6= .b false/\af=ca/\o=none) (M:=k6 (pS F.op) F.name=true/\F.args.length<=q1 F.op/\F.sub.length=nv F.op) ?_ ?_ λhs g=>?_
   ·-- name,arguments,parts
    refine aa.seq (aa.region ?_);refine J5 ?_;refine ab.a0 h1 I I I (Fm.tA true F) ?_;refine ab.known aC.fn aC.QQ.1 aC.QQ.2 (aC.named (pS F.op) F.name jX) I I I (lq I I) ?_;cases e6:k6 (pS F.op) F.name with
    |false=>
     refine bo ?_;refine aa.cl I (λ_=>?_) (λh=>by cases h);refine eo ?_;exact aa.ret (.inr ⟨rfl,rfl,rfl,xP λae=>by rw[e6] at ae;cases ae.2.2.1⟩)
    |true=>
     refine bo ?_;refine ab.a0 h1 I I I (Fm.qM true F) ?_;refine ab.len I I I lr ?_;refine YD ?_;by_cases gW:F.args.length<=q1 F.op
     ·refine ab.bin (a:=aw F.args.length) (b:=aw (q1 F.op)) (v:=.b false) I I I I (cG (jV U)) ?_;refine bo ?_;refine ab.a0 h1 I I I (Fm.E2 true F) ?_;refine ab.len I I I qN ?_;refine YD ?_;by_cases gi:F.sub.length=nv F.op
      ·refine ab.bin (a:=aw F.sub.length) (b:=aw (nv F.op)) (v:=.b false) I I I I (cG (show some (AV.b (!decide (F.sub.length=nv F.op)))=some (AV.b false) by rw[decide_eq_true gi];rfl)) ?_;refine bo ?_;refine aa.cl I (λh=>by cases h) (λ_=>?_);exact aa.skip (.inl ⟨rfl,rfl,b9,rfl,gW,gi⟩)
      ·refine ab.bin (a:=aw F.sub.length) (b:=aw (nv F.op)) (v:=.b true) I I I I (cG (show some (AV.b (!decide (F.sub.length=nv F.op)))=some (AV.b true) by rw[decide_eq_false gi];rfl)) ?_;refine bo ?_;refine aa.cl I (λ_=>?_) (λh=>by cases h);refine eo ?_;exact aa.ret (.inr ⟨rfl,rfl,rfl,xP λae=>gi ae.2.2.2.2.1⟩)
     ·refine ab.bin (a:=aw F.args.length) (b:=aw (q1 F.op)) (v:=.b true) I I I I (cG (jU U)) ?_;refine bo ?_;refine aa.cl I (λ_=>?_) (λh=>by cases h);refine eo ?_;exact aa.ret (.inr ⟨rfl,rfl,rfl,xP λae=>gW ae.2.2.2.1⟩)
   ·rintro x bD af ⟨rfl,cf,rfl,h⟩;exact⟨aT,rfl,by rw[cf];exact jC h jW⟩
   refine aa.EX [(0,.p (some (j,0))),(2,aw depth),(4,.p (some (k,0))),(6,.b false),(7,.p (some (z,0)))] (E:=λx bD af=>x= .ret/\bD 6= .b false/\af=ca/\o=none) (M:=F.op=16->instB F.args=true) ?_ ?_ λbz g=>?_
   ·-- wP instance
    refine aa.seq (aa.region ?_);refine bo ?_;refine ab.a0 h1 I I I (Fm.vs true F) ?_;by_cases mU:F.op=16
    ·refine ab.bin (a:=a3 F.op) (b:=.i .u8 (Int.ofNat 16)) (v:=.b true) I I I I (cG (jU mU)) ?_;refine bo ?_;refine ab.a0 h1 I I I (Fm.qM true F) ?_;refine ab.known aC.fn aC.F0.1 aC.F0.2 (aC.inst F.cP bB.B1 λt ht=>⟨(bB.arg t ht).aD,by have:=Fm.l9 (f:=F) ht;omega⟩) I I I (fZ (xt (k:=b.a2+999) λt ht=>Tm.snap _ true t.dep t (b.a2+999) (b6 _) (by have:=Fm.l9 (f:=F) ht;omega))) ?_;cases hi:instB F.args with
     |true=>
      rw[show instB (F.cP.getD [])=true from hi];refine bo ?_;refine aa.cl I (λh=>by cases h) (λ_=>?_);exact aa.skip (.inl ⟨rfl,rfl,b9,λ_=>rfl⟩)
     |false=>
      rw[show instB (F.cP.getD [])=false from hi];refine bo ?_;refine aa.cl I (λ_=>?_) (λh=>by cases h);refine eo ?_;exact aa.ret (.inr ⟨rfl,rfl,rfl,xP λae=>by have:=ae.2.2.2.2.2 mU;rw[hi] at this;cases this⟩)
    ·refine ab.bin (a:=a3 F.op) (b:=.i .u8 (Int.ofNat 16)) (v:=.b false) I I I I (cG (jV mU)) ?_;refine bo ?_;refine aa.cl I (λh=>by cases h) (λ_=>?_);exact aa.skip (.inl ⟨rfl,rfl,b9,λh=>absurd h mU⟩)
   ·rintro x bD af ⟨rfl,cf,rfl,h⟩;exact⟨aT,rfl,by rw[cf];exact jC h jW⟩
   rw[if_pos ⟨QS,hR,hs.1,hs.2.1,hs.2.2,bz⟩] at ho
   -- rn arguments
   refine aa.seq (aa.seq (aa.region ?_));refine bo ?_;refine ab.a0 h1 I I I (Fm.qM true F) ?_;refine bo ?_;refine ab.bin (a:=aw depth) (b:=aw 1) I I I I (ir U) ?_;refine ab.dW I I I (ZS aC zZ (d:=F.dep) (λu hu QR F4 dT h1 h2 af h3=>ZT aC zZ _ u hu QR F4 dT h1 h2 af h3) F.cP (λu hu=>⟨by have:=Fm.l9 (f:=F) hu;omega,bB.arg u hu⟩) bB.B1 (depth+1) M U U ca aG) λr c_ ⟨aV,ER,K5⟩=>⟨_,aV,?_⟩
   replace h1:=K5.bK _ _ U h1;have QT:=jW.trans K5;have BA:=K5.next;cases kI:termsJ cx deep F.args (depth+1) M with
   |none=>
    rw[kI] at ho;rw[show termsJ cx deep (F.cP.getD []) (depth+1) M=none from kI];refine bo ?_;refine aa.cl I (λ_=>?_) (λh=>by cases h);refine eo ?_;exact aa.ret ⟨rfl,jC ho.symm QT⟩
   |some N=>
    rw[kI] at ho;replace aG:=ER N kI;have c6P:=K1 _ kI;rw[show termsJ cx deep (F.cP.getD []) (depth+1) M=some N from kI];replace ho:formsJ cx deep F.sub (depth+1) N=o:=ho;refine bo ?_;refine aa.cl I (λh=>by cases h) (λ_=>?_);refine aa.skip (aa.seq (aa.seq (aa.region ?_)));refine bo ?_;refine ab.a0 h1 I I I (Fm.E2 true F) ?_;refine ab.len I I I qN ?_;refine bo ?_;refine aa.block ?_;refine aa.loop (λm f af=>hv (λi=>i=j) cr af/\∃i P,i+m=F.sub.length/\P<2^63/\af.get j=some (.cells [.b cx,aw P,aw deep])/\formsJ cx deep (F.sub.drop i) (depth+1) P=o∧
     sat [(0,.p (some (j,0))),(2,aw depth),(77,fa true F.d_),(78,aw F.sub.length),(79,aw i)] f) ?_ F.sub.length ⟨QT,0,N,U,U,aG,by rw[y_];exact ho,b9⟩
    clear aG h1 h2 jW K5 QT ER jC xP ho;intro m g J ⟨hy,i,P,hi,k7,aG,g4,F2⟩;refine aa.norm _ F2 λg=>?_;clear F2;refine eo ?_;refine aa.cl I (λht=>?_) (λhf=>?_)
    ·have hlt:i<F.sub.length:=of_decide_eq_true ht;have c6Q:=bB.JZ;rw[zU hlt,formsJ] at g4;generalize hg:F.sub[i]=G at g4;have sq:G∈F.sub:=by rw[<-hg];exact c3 hlt
     have c6R:=Fm.pH sq;refine aa.skip (aa.seq (aa.block (aa.seq (aa.region ?_))));refine ab.idx (v:=.dk true (G.A true)) I I I I (by rw[<-hg];exact tB hlt) ?_;refine ab.gY I I I (Fm.conf true G) ?_;refine ab.var (v:=G.A true) (c:=G.cells true) J.next I I I I (Fm.conf true G) I (Fm.len true G) λah fk aN ba=>?_;replace aG:=ba _ _ aG;refine ab.nil (aa.seq (aa.region ?_));refine bo ?_;refine ab.a0 aN I I I (Fm.a0 true G) ?_;refine bo ?_;refine ab.bin (a:=aw depth) (b:=aw 1) I I I I (ir U) ?_;refine ab.dW I I I (ZX aC ‹_› zZ d G U U (bB.vh G sq) (depth+1) P U k7 ah aG) λr a1 ⟨aF,fj,fT⟩=>⟨_,aF,?_⟩
     have jW:hv (λi=>i=j) cr a1:=(hy.trans (.of U ba)).trans fT;cases vG:formJ cx deep G (depth+1) P with
     |none=>
      rw[vG] at g4;refine bo ?_;refine aa.cl I (λ_=>?_) (λh=>by cases h);refine eo ?_;refine aa.ret ⟨rfl,?_⟩;rw[<-g4];exact⟨rfl,λL e=>(by cases e),jW⟩
     |some F3=>
      rw[vG] at g4;have b6z:=ZV _ G (b6 _) vG;refine bo ?_;refine aa.cl I (λh=>by cases h) (λ_=>?_);refine aa.skip ?_;refine aa.region ?_;refine ab.bin (a:=aw i) (b:=aw 1) I I I I (ir U) ?_;refine bo ?_;exact⟨m-1,U,jW,i+1,F3,U,U,fj F3 vG,g4,b9⟩
    ·have iX:¬i<F.sub.length:=of_decide_eq_false hf;rw[QF U,formsJ] at g4;refine aa.exit ?_;refine eo ?_;refine aa.ret ⟨rfl,?_⟩;rw[<-g4];exact⟨rfl,λL e=>by cases e;exact aG,hy⟩
end
section
variable {b:b8}{K:Nat->List AV->AV->Prop}
def b6D(aC:FZ b K)(hg:b.mA KT=some (.ad FX))(F:Fm)(K4:2*F.dep<=b.a2+800)(bB:F.ok)(body:bC)(hb:Y3.body=some body):aa (b.aQ K) 7 body (eh [F.A true]) ⟨.nil,0⟩ (kP 2 (.b (oZ F))):=by
 cases hb;refine aa.seq (aa.region (ab.box (v:=F.A true) (c:=F.cells true) 0 I I I I I I λbu e6 h1 _=>?_));refine bo ?_;refine aa.seq (aa.region ?_);refine ab.go (v:=.ad [.b false,aw 400,aw 40]) I I I I ?_;refine ab.var (v:=.ad [.b false,aw 400,aw 40]) (c:=[.b false,aw 400,aw 40]) 1 e6 I I I I I I λJ hn h2 ba=>?_;replace h1:=ba _ _ h1;refine ab.nil (aa.seq (aa.region ?_));refine ab.a0 h1 I I I (Fm.a0 true F) ?_;refine ab.dW I I I (ZX aC hg (j:=1) (cx:=false) (deep:=40) U F.dep F (b6 _) K4 bB 1 400 U U J h2) λr ah ⟨aF,_,_⟩=>⟨_,aF,?_⟩
 refine bo ?_;exact aa.ret ⟨rfl,rfl⟩
variable (hf:∀g aB r bS,K g aB r->K g aB bS->r=bS)
include hf in
theorem b6E(ay:∀l,l.length<2^62->K xD [.s l] (.b (pQ l)))(pR:b.ext xD=0/\b.pure xD=true)(au:∀l,l.length<2^62->K sg [.s l] (.b (isVar l)))(av:b.ext sg=0/\b.pure sg=true)(hm:∀l,l.length<2^62->K FH [.s l] (.b (Ct l)))(em:b.ext FH=0/\b.pure FH=true)
  (k:Nat) (l:List Nat) (ao:l.length<2^62) (body:bC) (hb:Za.body=some body):aa (b.aQ K) 20 body (eh [a3 k,.s l]) ⟨.nil,0⟩ (kP 4 (.b (k6 k l))):=by
 cases hb;refine aa.seq (aa.region ?_);refine bo ?_;refine aa.seq (aa.seq (aa.region ?_));refine bo ?_;refine aa.block (aa.seq (aa.region ?_));refine ab.bin (a:=a3 k) (b:=.i .u8 (Int.ofNat 1)) (v:=.b (decide (k=1))) I I I I (cG I) ?_;refine bo ?_;refine aa.cl I (λh=>?_) (λh=>?_)
 ·have aC:=of_decide_eq_true h;refine eo ?_;refine ab.known hf pR.1 pR.2 (ay l ao) I I I (fZ I) ?_;refine eo ?_;exact aa.ret ⟨rfl,by show some (AV.b (pQ l))=some (AV.b (k6 k l));unfold k6;rw[if_pos aC]⟩
 have h1:=of_decide_eq_false h;refine aa.seq (aa.region ?_);refine ab.bin (a:=a3 k) (b:=.i .u8 (Int.ofNat 2)) (v:=.b (decide (k=2))) I I I I (cG I) ?_;refine bo ?_;refine aa.cl I (λh=>?_) (λh=>?_)
 ·have aC:=of_decide_eq_true h;refine eo ?_;refine ab.known hf av.1 av.2 (au l ao) I I I (fZ I) ?_;refine eo ?_;exact aa.ret ⟨rfl,by show some (AV.b (isVar l))=some (AV.b (k6 k l));unfold k6;rw[if_neg h1,if_pos aC]⟩
 have h2:=of_decide_eq_false h;refine aa.seq (aa.region ?_);refine ab.bin (a:=a3 k) (b:=.i .u8 (Int.ofNat 3)) (v:=.b (decide (k=3))) I I I I (cG I) ?_;refine bo ?_;refine aa.cl I (λh=>?_) (λh=>?_)
 ·have aC:=of_decide_eq_true h;refine eo ?_;refine ab.known hf em.1 em.2 (hm l ao) I I I (fZ I) ?_;refine eo ?_;exact aa.ret ⟨rfl,by show some (AV.b (Ct l))=some (AV.b (k6 k l));unfold k6;rw[if_neg h1,if_neg h2,if_pos aC]⟩
 have h3:=of_decide_eq_false h;refine eo ?_;refine ab.bin (a:=.s l) (b:=.s []) (v:=.b (eqL l [])) I I I I I ?_;refine eo ?_;exact aa.ret ⟨rfl,by show some (AV.b (eqL l []))=some (AV.b (k6 k l));unfold k6;rw[if_neg h1,if_neg h2,if_neg h3]⟩
def K6{av:aH->Option AV}{J:ag}{off:Nat}{R:Option Nat}{x:aH}{o:Bool}{cs:List AV}{v:AV}(h1:av x=some (.dk o (.ad cs)))(h2:dB R (cs.drop off)=some v):opx 0 av J (.fieldAddr off R x)=some (.val (.dk o v) J):=by
 show(match av x with|some x=>(match fieldAddrA off R x with|some v=>some (bH.val v J)|none=>none)|none=>none)=_;rw[h1];show(match(match dB R (cs.drop off) with|some v=>some (AV.dk o v)|none=>none) with|some v=>some (bH.val v J)|none=>none)=_;rw[h2]
include hf in
theorem b6F(au:∀l,l.length<2^62->K sg [.s l] (.b (isVar l)))(av:b.ext sg=0/\b.pure sg=true)(hm:∀l,l.length<2^62->K xF [.s l] (.b (oY l)))(em:b.ext xF=0/\b.pure xF=true)
  (a:Option (List Tm)) (ao:(a.getD []).length<2^62) (hn:∀t∈a.getD [],t.name.length<2^62) (body:bC) (hb:Zb.body=some body):aa (b.aQ K) 32 body (eh [cy true a]) ⟨.nil,0⟩ (kP 2 (.b (instB (a.getD [])))):=by
 cases hb;refine aa.seq (aa.region ?_);refine bo ?_;refine aa.seq (aa.region ?_);refine ab.go I I I I ?_;refine ab.len I I I lr ?_;by_cases h2:(a.getD []).length=2
 ·refine ab.bin (a:=aw (a.getD []).length) (b:=aw 2) (v:=.b true) I I I I (cG (jU h2)) ?_;obtain⟨x,y,vg⟩:∃x y,a.getD []=[x,y]:=by
   match qJ:a.getD [],h2 with
   |[x,y],_=>exact⟨x,y,rfl⟩
  have i0:idxSlA (some 3) (cy true a) 0=some (.dk true (x.A true)):=by
   rw[oR U];congr 2;simp[vg]
  have i1:idxSlA (some 3) (cy true a) 1=some (.dk true (y.A true)):=by
   rw[oR U];congr 2;simp[vg]
  have rW:=hn x (by rw[vg];simp);have b6G:=hn y (by rw[vg];simp);rw[vg];have hi:instB [x,y]=(x.var&&(isVar x.name&&(y.var&&oY y.name))):=rfl;rw[hi];refine bo ?_;refine ab.idx (j:=0) I I I I i0 ?_;refine ab.val I I (K6 (cs:=x.cells true) I (Tm.JY true x)) ?_;refine ab.gY I I I I ?_;cases gQ:x.var with
  |false=>
   refine bo ?_;exact aa.ret ⟨rfl,rfl⟩
  |true=>
   refine bo ?_;refine ab.idx (j:=0) I I I I i0 ?_;refine ab.val I I (K6 (cs:=x.cells true) I (Tm.tA true x)) ?_;refine ab.gY I I I I ?_;refine ab.known hf av.1 av.2 (au x.name rW) I I I (fZ I) ?_;cases PB:isVar x.name with
   |false=>
    refine bo ?_;exact aa.ret ⟨rfl,rfl⟩
   |true=>
    refine bo ?_;refine ab.idx (j:=1) I I I I i1 ?_;refine ab.val I I (K6 (cs:=y.cells true) I (Tm.JY true y)) ?_;refine ab.gY I I I I ?_;cases l4:y.var with
    |false=>
     refine bo ?_;exact aa.ret ⟨rfl,rfl⟩
    |true=>
     refine bo ?_;refine ab.idx (j:=1) I I I I i1 ?_;refine ab.val I I (K6 (cs:=y.cells true) I (Tm.tA true y)) ?_;refine ab.gY I I I I ?_;refine ab.known hf em.1 em.2 (hm y.name b6G) I I I (fZ I) ?_;refine bo ?_;exact aa.ret ⟨rfl,rfl⟩
 ·refine ab.bin (a:=aw (a.getD []).length) (b:=aw 2) (v:=.b false) I I I I (cG (jV h2)) ?_;refine bo ?_;refine aa.ret ⟨rfl,?_⟩;have:instB (a.getD [])=false:=by
   unfold instB;split
   ·rename_i x y e;rw[e] at h2;simp at h2
   ·rfl
  rw[this];rfl
end
abbrev mV(J af:ag):Prop:=J.next<=af.next/\∀i o,J.get i=some o->af.get i=some o
def Acc.F5{J:ag}{R:Option Nat}{v:AV}{xs l:List AV}(h:Acc J R v xs):dB none (v::l)=some v:=by cases h<;>rfl
def Acc.n3{J:ag}{R:Option Nat}{v:AV}{xs:List AV}(h:Acc J R v xs):Go.Lyc.conf none v=true:=by cases h<;>rfl
def Acc.inv{J:ag}{R:Option Nat}{v:AV}{xs:List AV}(h:Acc J R v xs)(hx:0<xs.length):∃o,v= .aq o 0 xs.length R none/\J.get o=some (.cells (xs.flatMap AV.cells))/\∀y∈xs,Go.Lyc.conf R y=true:=by
 cases h with
 |nil=>cases hx
 |aq o x xs h ae=>exact⟨o,rfl,h,ae⟩
def Acc.of{J:ag}{R:Option Nat}{o:Nat}{xs:List AV}(hx:0<xs.length)(h:J.get o=some (.cells (xs.flatMap AV.cells)))(ae:∀y∈xs,Go.Lyc.conf R y=true):Acc J R (.aq o 0 xs.length R none) xs:=by
 cases xs with
 |nil=>cases hx
 |cons x xs=>exact .aq o x xs h ae
def K7{R:Option Nat}{x:AV}(h:conf R x=true):x.cells.length=shN R:=by
 cases R with
 |none=>rw[EZ h];rfl
 |some k=>obtain⟨l,rfl,ao⟩:=xr h;exact ao
def QU{R:Option Nat}:∀ {xs:List AV} (j:Nat),(∀x∈xs,conf R x=true)->(xs.flatMap AV.cells).drop (j*shN R)=(xs.drop j).flatMap AV.cells
 |xs,0,_=>by rw[EH];rfl
 |[],j+1,_=>by simp
 |x::xs,j+1,h=>by
  have e:(j+1)*shN R=x.cells.length+j*shN R:=by rw[K7 (h x aT),jz,qh,uR]
  rw[j4,e,← ov,FU,QU j λy aI=>h y (fP _ aI)];rfl
def vI{R:Option Nat}{xs:List AV}{j:Nat}(aG:j<xs.length)(h:∀x∈xs,conf R x=true):dB R ((xs.flatMap AV.cells).drop (0+j*shN R))=some xs[j]:=by
 rw[lQ,QU j h,zU aG,j4];exact(BZ (h _ (c3 aG))).1
def b6H{R:Option Nat}{xs:List AV}{k:Nat}(aC:k<=xs.length)(h:∀x∈xs,conf R x=true):elems R k (xs.flatMap AV.cells)=some (xs.take k):=by
 have e:xs.flatMap AV.cells=(xs.take k).flatMap AV.cells++(xs.drop k).flatMap AV.cells:=by rw[<-xJ,BR]
 have:=tz (R:=R) (xs:=xs.take k) (r:=(xs.drop k).flatMap AV.cells) λx hx=>h x (oo hx);rw[<-e,gM,KV aC] at this;exact this
def QV{av:aH->Option AV}{J:ag}{R:Option Nat}{s hi cI:aH}{o n k:Nat}(h1:av s=some (.aq o 0 n R none))(h2:av hi=some (aw k))(h3:av cI=some (aw k))(aC:k<=n):opx 0 av J (.m7 R s none (some hi) (some cI))=some (.val (.aq o 0 k R (some k)) J):=by
 have e:sliceA av R (.aq o 0 n R none) none (some hi) (some cI)=some (.aq o 0 k R (some k)):=by
  have db:∀d,bndO av (some hi) d=some k:=λd=>by unfold bndO;simp only[h2];rfl
  have cK:∀d,bndO av (some cI) d=some k:=λd=>by unfold bndO;simp only[h3];rfl
  unfold sliceA;simp only[if_pos];rw[db,cK];show(match some 0,some k with|some l,some h=>_|_,_=>none)=_;simp[hO aC,bndO]
 show(match av s with|some v=>(match sliceA av R v none (some hi) (some cI) with|some v=>some (bH.val v J)|none=>sliceX J av R v none (some hi) (some cI))|none=>none)=_;rw[h1];show(match sliceA av R (.aq o 0 n R none) none (some hi) (some cI) with|some v=>some (bH.val v J)|none=>sliceX J av R (.aq o 0 n R none) none (some hi) (some cI))=_;rw[e]
def b6I{J:ag}{R:Option Nat}{xs:List AV}{o k:Nat}{x y:AV}{bytes:Nat}(h:J.get o=some (.cells (xs.flatMap AV.cells)))(ae:∀z∈xs,conf R z=true)(aC:k<=xs.length)(hx:newOf J x=some [y])(aI:conf R y=true)(hb:(3*(k+1)+2000)*bytes<=281474976710656):
  appendO 0 J R bytes (.aq o 0 k R (some k)) x=some (.aq J.next 0 (k+1) R none,J.push (.cells ((xs.take k++[y]).flatMap AV.cells))):=by
 have al:readList J (.aq o 0 k R (some k))=some (xs.take k):=by
  show(match J.get o with|some (.cells c)=>elems R k (c.drop 0)|_=>none)=_;rw[h];exact b6H aC ae
 unfold appendO;rw[al,hx];show cond (cB (conf R) (xs.take k)&&cB (conf R) [y]&&Nat.ble ((3*((xs.take k).length+1)+2000)*bytes) 281474976710656) _ none=_;rw[iI λz aZ=>ae z (oo aZ),iI λz aZ=>(by rw[dx.1 aZ];exact aI),gM,KV aC,hO hb];show(if R=R then cond (Nat.ble (k+1) k) _ _ else none)=_;rw[if_pos I,show Nat.ble (k+1) k=false from by rw[JF];exact λe=>by have:=eb e;omega,cond_false];rw[xJ];rfl
section
variable {env:Env}{aJ:Option Nat}{D:List (Nat ⊕ (AV×List AV))}{n:Nat}{f:Nat->AV}{J:ag}{Q:eR}
def ab.QW{d:Nat}{R:Option Nat}{bytes:Nat}{s x:aH}{wn:List Nat}{ops:List aX}{xs:List AV}{o k:Nat}{b y:AV}(h:J.get o=some (.cells (xs.flatMap AV.cells)))(ae:∀z∈xs,conf R z=true)(aC:k<=xs.length)(hx:newOf J b=some [y])(aI:conf R y=true)(hb:(3*(k+1)+2000)*bytes<=281474976710656)
  (an:Nat.blt d n=true) (h1:dc env n f s=some (.aq o 0 k R (some k))) (h2:dc env n f x=some b)
  (cu:∀v af,Acc af R v (xs.take k++[y])->v.dU =some J.next->af.next=J.next+1->(∀i o,J.get i=some o->af.get i=some o)->dE env aJ D n ops (cY f d v) af Q):dE env aJ D n (⟨some d,.append R bytes s x,none,wn⟩::ops) f J Q:=by
 refine ab.val an I (JW h1 h2 (b6I h ae aC hx aI hb)) (cu _ _ ?_ I I λi o ho=>by rw[ag.fy trivial _ (ag.cJ ho)];exact ho);have e:k+1=(xs.take k++[y]).length:=by rw[h5,gM,KV aC];rfl
 rw[e];refine Acc.of (by rw[<-e];omega) (ag.ij _) λz aZ=>?_;rcases gN.1 aZ with aZ|aZ
 ·exact ae z (oo aZ)
 ·rw[dx.1 aZ];exact aI
end
section
variable {env:Env}{aJ:Option Nat}{D:List (Nat ⊕ (AV×List AV))}{n:Nat}{f:Nat->AV}{J:ag}{Q:eR}
def aa.Z0{α:Type}{a b:bC}(L:α->List (Nat×AV))(az:α->ag->Prop)(h1:ch env aJ D n a f J (λx bD af=>x= .normal/\∃t,az t af/\sat (L t) bD))(h2:∀t af g,az t af->ch env aJ D n b (b4 (L t) g) af Q):ch env aJ D n (.seq a b) f J Q:=aa.seq (h1.mono λx bD af ⟨aF,t,aV,dp⟩=>by
 subst aF;show ch env aJ D n b bD af Q;exact aa.norm (L t) dp λg=>h2 t af g aV)
end
def QX{n:Nat}(h:n<256):wrapN .u8 (Int.ofNat n)=Int.ofNat n:=by
 have h:(n:Int)<256:=by omega
 simp[wrapN,IntKind.wrap,IntKind.bits,IntKind.signed];omega
def Z1{a b:Nat}(h:a+b<256):binop .add (a3 a) (a3 b)=some (a3 (a+b)):=by
 show some (AV.i .u8 (wrapN .u8 (Int.ofNat (a+b))))=_;rw[QX h]
def Z2{a b:Nat}(hb:b<=a)(h:a<256):binop .sub (a3 a) (a3 b)=some (a3 (a-b)):=by
 show some (AV.i .u8 (wrapN .u8 (Int.ofNat a-Int.ofNat b)))=_;have:Int.ofNat a-Int.ofNat b=Int.ofNat (a-b):=by simp only[uQ];omega
 rw[this,QX U]
abbrev dM:=List Nat×Nat
abbrev c0(s:dM):AV:=.ad [.s s.1,aw s.2]
def Z3:∀(a b:List Nat),eqL a b=decide (a=b)
 |[],[]=>rfl
 |[],_::_=>rfl
 |_::_,[]=>rfl
 |x::a,y::b=>by
  show cond (Nat.beq x y) (eqL a b) false=_;cases h:Nat.beq x y with
  |false=>
   have:x≠y:=λe=>by rw[e,fE] at h;cases h
   rw[decide_eq_false (λe=>this (by injection e))];rfl
  |true=>
   rw[eM h,cond_true,Z3 a b];simp
def Z4(a b:dM):keyEq (.inr [1,0]) (c0 a) (c0 b)=some (decide (a=b)):=by
 show(match leafEq 1 (.s a.1) (.s b.1),mz [0] [aw a.2] [aw b.2] with|some a,some b=>some (a&&b)|_,_=>none)=_;have e:mz [0] [aw a.2] [aw b.2]=some (decide (a.2=b.2)):=by
  show(match leafEq 0 (aw a.2) (aw b.2),mz [] [] [] with|some a,some b=>some (a&&b)|_,_=>none)=_;show(match(if(IntKind.i64= .i64) then some (decide (Int.ofNat a.2=Int.ofNat b.2)) else none),some true with|some a,some b=>some (a&&b)|_,_=>none)=_;rw[if_pos I];simp only[uQ,Int.natCast_inj,Bool.and_true]
 rw[e];show some (eqL a.1 b.1&&decide (a.2=b.2))=_;rw[Z3];obtain⟨a9,bt⟩:=a;obtain⟨db,cK⟩:=b;by_cases h1:a9=db<;>by_cases h2:bt=cK<;>simp[h1,h2]
section
variable {α:Type}[DecidableEq α]{cN:α->AV}{R:jf}
def setE(cN:α->AV):Nat->List α->List (AV×AV×Nat)
 |_,[]=>[]
 |i,k::a7=>(cN k,.b true,i)::setE cN (i+1) a7
def lS(k:α)(l:List α):List α:=if k∈l then l else l++[k]
def QY:∀(l:List α) (i:Nat) (k:α),setE cN i (l++[k])=setE cN i l++[(cN k,.b true,i+l.length)]
 |[],i,k=>rfl
 |x::l,i,k=>by
  show _::setE cN (i+1) (l++[k])=_;rw[QY l (i+1) k];show _=(cN x,AV.b true,i)::(setE cN (i+1) l++[(cN k,.b true,i+(l.length+1))]);rw[show i+1+l.length=i+(l.length+1) from by omega]
def QZ(aC:∀a b,keyEq R (cN a) (cN b)=some (decide (a=b)))(k:α):∀(l:List α) (i:Nat),kX R (cN k) (.b true) (setE cN i l)=some (if k∈l then some (setE cN i l) else none)
 |[],i=>rfl
 |x::l,i=>by
  show(match keyEq R (cN k) (cN x) with
   |none=>none
   |some true=>some (some ((cN k,AV.b true,i)::setE cN (i+1) l))
   |some false=>match kX R (cN k) (AV.b true) (setE cN (i+1) l) with|none=>none|some none=>some none|some (some es)=>some (some ((cN x,AV.b true,i)::es)))=_
  rw[aC,QZ aC k l (i+1)];by_cases h:k=x
  ·subst h;rw[decide_eq_true I,if_pos (oq)];rfl
  ·rw[decide_eq_false h];by_cases hm:k∈l
   ·rw[if_pos hm,if_pos (fP _ hm)];rfl
   ·rw[if_neg hm,if_neg (by simp[h,hm])]
def K8{env:Env}{n:Nat}{f:Nat->AV}{J:ag}(aC:∀a b,keyEq R (cN a) (cN b)=some (decide (a=b))){x y:aH}{bU:Nat}{k:α}{l:List α}(h1:dc env n f x=some (.m (some bU)))(h2:dc env n f y=some (cN k))(hm:J.get bU=some (.map (setE cN 0 l) l.length)):
  opx 0 (dc env n f) J (.ox R x y (.c (.b true)))=some (.val c4 (J.set bU (.map (setE cN 0 (lS k l)) (lS k l).length))):=by
 show(match dc env n f x,dc env n f y,some (AV.b true) with
  |some (.m (some id)),some k,some v=>
   if Nat.blt id 0 then none else
   match J.get id with
   |some (.map es aU)=>match keyEq R k k with
    |none=>none
    |some _=>match kX R k v es with
    |some (some es)=>some (bH.val c4 (J.set id (.map es aU)))
    |some none=>some (bH.val c4 (J.set id (.map (es++[(k,v,aU)]) (aU+1))))
    |none=>none
   |_=>none
  |_,_,_=>none)=_
 rw[h1,h2];show(if Nat.blt bU 0 then none else
   match J.get bU with
   |some (.map es aU)=>(match keyEq R (cN k) (cN k) with
    |none=>none
    |some _=>match kX R (cN k) (.b true) es with
    |some (some es)=>some (bH.val c4 (J.set bU (.map es aU)))
    |some none=>some (bH.val c4 (J.set bU (.map (es++[(cN k,AV.b true,aU)]) (aU+1))))
    |none=>none)
   |_=>none)=_
 rw[if_neg (by simp[Nat.blt,Nat.ble]),hm];show(match keyEq R (cN k) (cN k) with
    |none=>none
    |some _=>match kX R (cN k) (.b true) (setE cN 0 l) with
    |some (some es)=>some (bH.val c4 (J.set bU (.map es l.length)))
    |some none=>some (bH.val c4 (J.set bU (.map (setE cN 0 l++[(cN k,AV.b true,l.length)]) (l.length+1))))
    |none=>none)=_
 rw[aC,QZ aC];unfold lS;by_cases eQ:k∈l
 ·rw[if_pos eQ,if_pos eQ]
 ·rw[if_neg eQ,if_neg eQ,QY,h5,lQ];rfl
def Z5:∀(l:List α) (i c:Nat),i+l.length<=c->cB (λ(e:AV×AV×Nat)=>Nat.blt e.2.2 c) (setE cN i l)=true
 |[],_,_,_=>rfl
 |x::l,i,c,h=>by
  show cond (Nat.blt i c) (cB _ (setE cN (i+1) l)) false=true;have h:i+(l.length+1)<=c:=h;rw[show Nat.blt i c=true from hO U,cond_true];exact Z5 l (i+1) c U
def gZ(seen:List Nat):Nat->List α->List (α×Nat)
 |_,[]=>[]
 |i,k::a7=>cond (lH i seen) (gZ seen (i+1) a7) ((k,i)::gZ seen (i+1) a7)
def Z6(seen:List Nat):∀(l:List α) (i:Nat),mB seen (setE cN i l)=(gZ seen i l).map λp=>(cN p.1,.b true,p.2)
 |[],_=>rfl
 |x::l,i=>by
  show cond (lH i seen) (mB seen (setE cN (i+1) l)) ((cN x,.b true,i)::mB seen (setE cN (i+1) l))=_;rw[Z6 seen l (i+1),gZ];cases lH i seen<;>rfl
def Q0(n:Nat)(j:Nat):∀(l:List Nat),lH n (l++[j])=(lH n l||Nat.beq j n)
 |[]=>by show cond (Nat.beq j n) true false=_;cases Nat.beq j n<;>rfl
 |x::l=>by
  show cond (Nat.beq x n) true (lH n (l++[j]))=(cond (Nat.beq x n) true (lH n l)||Nat.beq j n);rw[Q0 n j l];cases Nat.beq x n<;>rfl
def Q1:∀(l:List α) (i:Nat),(gZ [] i l).map Prod.fst=l
 |[],_=>rfl
 |x::l,i=>by
  show x::(gZ [] (i+1) l).map Prod.fst=_;rw[Q1 l (i+1)]
def K9(seen:List Nat):∀(l:List α) (i:Nat) (p:α×Nat),p∈gZ seen i l->i<=p.2
 |[],_,_,h=>by simp[gZ] at h
 |x::l,i,p,h=>by
  rw[gZ] at h;cases hm:lH i seen with
  |true=>rw[hm] at h;have:=K9 seen l (i+1) p h;omega
  |false=>
   rw[hm,cond_false] at h;rcases eH.1 h with rfl|h
   ·exact b6 _
   ·have:=K9 seen l (i+1) p h;omega
def Z7(seen:List Nat)(j:Nat):∀(l:List α) (i:Nat),j<i->gZ (seen++[j]) i l=gZ seen i l
 |[],_,_=>rfl
 |x::l,i,h=>by
  rw[gZ,gZ,Q0,Z7 seen j l (i+1) U];have:Nat.beq j i=false:=by
   cases hb:Nat.beq j i with
   |false=>rfl
   |true=>have:=eM hb;omega
  rw[this,Bool.or_false]
def K_(seen:List Nat):∀(l:List α) (i:Nat) (p:α×Nat),p∈gZ seen i l->(p::gZ (seen++[p.2]) i l).Perm (gZ seen i l)
 |[],_,_,h=>by simp[gZ] at h
 |x::l,i,p,h=>by
  rw[gZ] at h ⊢;rw[gZ,Q0];cases hm:lH i seen with
  |true=>
   rw[hm,cond_true] at h;rw[Bool.true_or,cond_true,cond_true];exact K_ seen l (i+1) p h
  |false=>
   rw[hm,cond_false] at h;rw[IW,cond_false];rcases eH.1 h with rfl|h
   ·rw[fE,cond_true,Z7 seen i l (i+1) U]
   ·have iX:=K9 seen l (i+1) p h;have:Nat.beq p.2 i=false:=by
     cases hb:Nat.beq p.2 i with
     |false=>rfl
     |true=>have:=eM hb;omega
    rw[this,cond_false];exact(List.Perm.swap _ _ _).trans ((K_ seen l (i+1) p h).cons _)
def Z8(seen:List Nat):∀(l:List α) (i:Nat) (p:α×Nat),p∈gZ seen i l->pc p.2 (setE cN i l)=some (cN p.1,.b true,p.2)
 |[],_,_,h=>by simp[gZ] at h
 |x::l,i,p,h=>by
  rw[gZ] at h;show cond (Nat.beq i p.2) (some (cN x,AV.b true,i)) (pc p.2 (setE cN (i+1) l))=_;have key:∀h:p∈gZ seen (i+1) l,cond (Nat.beq i p.2) (some (cN x,AV.b true,i)) (pc p.2 (setE cN (i+1) l))=some (cN p.1,.b true,p.2):=λh=>by
   have iX:=K9 seen l (i+1) p h;have:Nat.beq i p.2=false:=by
    cases hb:Nat.beq i p.2 with
    |false=>rfl
    |true=>have:=eM hb;omega
   rw[this,cond_false];exact Z8 seen l (i+1) p h
  cases hm:lH i seen with
  |true=>rw[hm,cond_true] at h;exact key h
  |false=>
   rw[hm,cond_false] at h;rcases eH.1 h with rfl|h
   ·rw[fE];rfl
   ·exact key h
def Z9(j:Nat):∀(l:List Nat),ql (l++[j])=some j
 |[]=>rfl
 |x::l=>by
  show(match ql (l++[j]) with|none=>some x|some y=>some y)=_;rw[Z9 j l]
section
variable {env:Env}{aJ:Option Nat}{D:List (Nat ⊕ (AV×List AV))}{n:Nat}{f:Nat->AV}{J:ag}{Q:eR}
def ab.mkMap{d:Nat}{wn:List Nat}{ops:List aX}(k:Nat)(hn:J.next=k)(an:Nat.blt d n=true)
  (h:∀af:ag,af.next=k+1->af.get k=some (.map [] 0)->(∀i o,J.get i=some o->af.get i=some o)->dE env aJ D n ops (cY f d (.m (some k))) af Q):dE env aJ D n (⟨some d,.mkMap,none,wn⟩::ops) f J Q:=by
 subst hn;exact ab.val (v:=.m (some J.next)) (af:=J.push (.map [] 0)) an I I (h (J.push (.map [] 0)) I (ag.ij _) λi o ho=>by rw[ag.fy trivial _ (ag.cJ ho)];exact ho)
def ab.K8(aC:∀a b,keyEq R (cN a) (cN b)=some (decide (a=b))){wn:List Nat}{ops:List aX}{x y:aH}{bU:Nat}{k:α}{l:List α}(hm:J.get bU=some (.map (setE cN 0 l) l.length))(h1:dc env n f x=some (.m (some bU)))(h2:dc env n f y=some (cN k))
  (h:∀af:ag,af.next=J.next->af.get bU=some (.map (setE cN 0 (lS k l)) (lS k l).length)->(∀i o,i≠bU->J.get i=some o->af.get i=some o)->dE env aJ D n ops f af Q):dE env aJ D n (⟨none,.ox R x y (.c (.b true)),none,wn⟩::ops) f J Q:=
 ab.qG I (Go.Lyc.K8 aC h1 h2 hm) (h _ I (hX hm).1 (hX hm).2)
def ab.Z_{d:Nat}{wn:List Nat}{ops:List aX}{x:aH}{bU c:Nat}{es:List (AV×AV×Nat)}(k:Nat)(hn:J.next=k)(hm:J.get bU=some (.map es c))(an:Nat.blt d n=true)(h1:dc env n f x=some (.m (some bU)))
  (h:∀af:ag,af.next=k+1->af.get k=some (.mapIter (some bU) c [] c)->(∀i o,J.get i=some o->af.get i=some o)->dE env aJ D n ops (cY f d (.p (some (k,0)))) af Q):dE env aJ D n (⟨some d,.rangeMap x,none,wn⟩::ops) f J Q:=by
 subst hn;refine ab.val (v:=.p (some (J.next,0))) (af:=J.push (.mapIter (some bU) c [] c)) an I ?_ (h (J.push (.mapIter (some bU) c [] c)) I (ag.ij _) λi o ho=>by rw[ag.fy trivial _ (ag.cJ ho)];exact ho);show(match dc env n f x with
  |some (.m none)=>some (bH.val (jL J.next 0) (J.push (.mapIter none 0 [] 0)))
  |some (.m (some id))=>match J.get id with
   |some (.map _ aU)=>some (bH.val (jL J.next 0) (J.push (.mapIter (some id) aU [] aU)))
   |_=>none
  |_=>none)=_
 rw[h1];show(match J.get bU with
   |some (.map _ aU)=>some (bH.val (jL J.next 0) (J.push (.mapIter (some bU) aU [] aU)))
   |_=>none)=_
 rw[hm];rfl
def ab.a0a{d:Nat}{wn:List Nat}{ops:List aX}{x:aH}{bU it:Nat}{l:List α}{seen:List Nat}(jm:J.get it=some (.mapIter (some bU) l.length seen l.length))(hm:J.get bU=some (.map (setE cN 0 l) l.length))(an:Nat.blt d n=true)(h1:dc env n f x=some (.p (some (it,0))))
  (h0:gZ seen 0 l=[]->dE env aJ D n ops (cY f d (.a6 [.b false])) J Q)
  (ak:∀p∈gZ seen 0 l,∀af:ag,af.next=J.next->af.get it=some (.mapIter (some bU) l.length (seen++[p.2]) l.length)->(∀i o,i≠it->J.get i=some o->af.get i=some o)->dE env aJ D n ops (cY f d (.a6 [.b true,cN p.1,.b true])) af Q):dE env aJ D n (⟨some d,.sW x,none,wn⟩::ops) f J Q:=by
 have e:opx 0 (dc env n f) J (.sW x)=(match mB seen (setE cN 0 l) with
       |[]=>some (bH.val (.a6 [.b false]) J)
       |bq=>some (bH.g3 (bq.map λ(e:AV×AV×Nat)=>(.a6 [.b true,e.1,e.2.1],J.set it (.mapIter (some bU) l.length (seen++[e.2.2]) l.length))))):=by
  show(match dc env n f x with
   |some (.p (some (it,0)))=>if Nat.blt it 0 then none else
    match J.get it with
    |some (.mapIter none _ _ _)=>some (bH.val (.a6 [.b false]) J)
    |some (.mapIter (some id) since seen g2)=>match J.get id with
     |some (.map es aU)=>
      cond (Nat.beq aU since&&Nat.beq g2 since&&cB (λ(e:AV×AV×Nat)=>Nat.blt e.2.2 since) es)
       (match mB seen es with
        |[]=>some (bH.val (.a6 [.b false]) J)
        |l=>some (bH.g3 (l.map λ(e:AV×AV×Nat)=>(.a6 [.b true,e.1,e.2.1],J.set it (.mapIter (some id) since (seen++[e.2.2]) aU))))) none
     |_=>none
    |_=>none
   |_=>none)=_
  rw[h1];show(if Nat.blt it 0 then none else
    match J.get it with
    |some (.mapIter none _ _ _)=>some (bH.val (.a6 [.b false]) J)
    |some (.mapIter (some id) since seen g2)=>match J.get id with
     |some (.map es aU)=>
      cond (Nat.beq aU since&&Nat.beq g2 since&&cB (λ(e:AV×AV×Nat)=>Nat.blt e.2.2 since) es)
       (match mB seen es with
        |[]=>some (bH.val (.a6 [.b false]) J)
        |l=>some (bH.g3 (l.map λ(e:AV×AV×Nat)=>(.a6 [.b true,e.1,e.2.1],J.set it (.mapIter (some id) since (seen++[e.2.2]) aU))))) none
     |_=>none
    |_=>none)=_
  rw[if_neg (by simp[Nat.blt,Nat.ble]),jm];show(match J.get bU with
     |some (.map es aU)=>
      cond (Nat.beq aU l.length&&Nat.beq l.length l.length&&cB (λ(e:AV×AV×Nat)=>Nat.blt e.2.2 l.length) es)
       (match mB seen es with
        |[]=>some (bH.val (.a6 [.b false]) J)
        |bq=>some (bH.g3 (bq.map λ(e:AV×AV×Nat)=>(.a6 [.b true,e.1,e.2.1],J.set it (.mapIter (some bU) l.length (seen++[e.2.2]) aU))))) none
     |_=>none)=_
  rw[hm];show cond (Nat.beq l.length l.length&&Nat.beq l.length l.length&&cB (λ(e:AV×AV×Nat)=>Nat.blt e.2.2 l.length) (setE cN 0 l)) _ none=_;rw[fE,Z5 l 0 l.length U];rfl
 rw[Z6] at e;cases ao:gZ seen 0 l with
 |nil=>
  rw[ao] at e;exact ab.val an I e (h0 ao)
 |cons p0 t=>
  rw[ao] at e;refine ab.g3 an I e aT λq aP=>?_;rw[kz] at aP;obtain⟨p,ay,rfl⟩:=di.1 aP;rw[<-ao] at ay;exact ak p ay _ I (hX jm).1 (hX jm).2
def ab.a0b{d:Nat}{wn:List Nat}{ops:List aX}{x:aH}{bU it:Nat}{l:List α}{seen:List Nat}{p:α×Nat}(ay:p∈gZ seen 0 l)(jm:J.get it=some (.mapIter (some bU) l.length (seen++[p.2]) l.length))(hm:J.get bU=some (.map (setE cN 0 l) l.length))(an:Nat.blt d n=true)(h1:dc env n f x=some (.p (some (it,0))))
  (h:dE env aJ D n ops (cY f d (.a6 [cN p.1,.b true])) J Q):dE env aJ D n (⟨some d,.entry x,none,wn⟩::ops) f J Q:=by
 refine ab.val an I ?_ h;show(match dc env n f x with
  |some (.p (some (it,0)))=>match J.get it with
   |some (.mapIter (some id) since seen g2)=>match J.get id with
    |some (.map es aU)=>cond (Nat.beq aU g2) (match ql seen with
     |some b=>match pc b es with
      |some e=>some (bH.val (.a6 [e.1,e.2.1]) J)
      |none=>none
     |none=>none) none
    |_=>none
   |_=>none
  |_=>none)=_
 rw[h1];show(match J.get it with
   |some (.mapIter (some id) since seen g2)=>match J.get id with
    |some (.map es aU)=>cond (Nat.beq aU g2) (match ql seen with
     |some b=>match pc b es with
      |some e=>some (bH.val (.a6 [e.1,e.2.1]) J)
      |none=>none
     |none=>none) none
    |_=>none
   |_=>none)=_
 rw[jm];show(match J.get bU with
    |some (.map es aU)=>cond (Nat.beq aU l.length) (match ql (seen++[p.2]) with
     |some b=>match pc b es with
      |some e=>some (bH.val (.a6 [e.1,e.2.1]) J)
      |none=>none
     |none=>none) none
    |_=>none)=_
 rw[hm];show cond (Nat.beq l.length l.length) (match ql (seen++[p.2]) with
     |some b=>match pc b (setE cN 0 l) with
      |some e=>some (bH.val (.a6 [e.1,e.2.1]) J)
      |none=>none
     |none=>none) none=_
 rw[fE,cond_true,Z9];show(match pc p.2 (setE cN 0 l) with
      |some e=>some (bH.val (.a6 [e.1,e.2.1]) J)
      |none=>none)=_
 rw[Z8 seen l 0 p ay]
end
end
structure Cu(B:Nat)(W:Nat->Prop)(J af:ag):Prop where
 next:J.next<=af.next
 old:∀i o,i<B->¬W i->J.get i=some o->af.get i=some o
 it:∀i a b c d,J.get i=some (.mapIter a b c d)->af.get i=some (.mapIter a b c d)
abbrev a0c(J af:ag):Prop:=J.next<=af.next/\∀i o,(∀a b c d,o≠ .mapIter a b c d)->J.get i=some o->af.get i=some o
def Acc.a0d{J af:ag}{R:Option Nat}{v:AV}{xs:List AV}(h:Acc J R v xs)(aC:∀i c,v.dU =some i->J.get i=some (.cells c)->af.get i=some (.cells c)):Acc af R v xs:=by
 cases h with
 |nil=>exact .nil
 |aq o x xs h ae=>exact .aq o x xs (aC _ _ I h) ae
def Acc.a0e{J:ag}{R:Option Nat}{v:AV}{xs:List AV}(h:Acc J R v xs){i:Nat}(hi:v.dU =some i):∃c,J.get i=some (.cells c):=by
 cases h with
 |nil=>cases hi
 |aq o x xs h ae=>cases hi;exact⟨_,h⟩
def b6J{env:Env}(hh:bc env oU xA){W:Nat->Prop}{B bU dK:Nat}{a7:List dM}(dH:List dM->ag->Prop)(bz:∀c J af,dH c J->a0c J af->dH c af)(iY:AV)
  (aI:∀k c J,B<=J.next->c.length<a7.length->dH c J->bw env 0 iY [c0 k] J (λr af=>r= .ok (.b true)/\dH (c++[k]) af/\Cu B W J af)) (J:ag) (eu:B<=J.next) (Q2:bU<B) (z0:¬W bU)
  (hm:J.get bU=some (.map (setE c0 0 a7) a7.length)) (iK:J.get dK=some (.cells [.m (some bU)])) (h0:dH [] J):
  bw env 0 (.f (.func oU) [] [.p (some (dK,0))]) [iY] J (λr af=>r= .ok (.a6 [])/\∃c,c.Perm a7/\dH c af/\J.next<=af.next/\∀i o,i<B->¬W i->J.get i=some o->af.get i=some o):=by
 refine bw.pI hh.e hh.p hh.f I I I ?_;refine aa.seq (aa.region ?_);refine ab.a0 (v:=.m (some bU)) iK I I I I ?_;generalize aC:J.next=k at eu;refine ab.Z_ k aC hm I I λbu dQ jm bM=>?_;refine ab.nil (aa.block ?_);refine aa.loop (λm f ah=>k+1<=ah.next/\∃seen c,m=(gZ seen 0 a7).length/\(c++(gZ seen 0 a7).map Prod.fst).Perm a7/\ah.get k=some (.mapIter (some bU) a7.length seen a7.length)/\dH c ah/\(∀i o,i<B->¬W i->J.get i=some o->ah.get i=some o)∧
  sat [(0,iY),(5,.p (some (k,0)))] f) ?_ (gZ [] 0 a7).length ⟨U,[],[],rfl,by rw[Q1];exact .refl _,jm,bz _ _ _ h0 ⟨U,λi o _ ho=>bM i o ho⟩,λi o _ _ ho=>bM i o ho,b9⟩
 clear jm dQ bM h0;intro m g ah ⟨hn,seen,c,rM,qH,jm,F6,hold,hL⟩;refine aa.norm _ hL λg=>?_;clear hL;have pg:=hold bU _ Q2 z0 hm;refine aa.seq (aa.region ?_);refine ab.a0a jm pg I I (λzf=>?_) (λp ay bA dC F7 ba=>?_)
 ·refine ab.go I I I I ?_;refine ab.nil (aa.seq ?_);refine aa.cl I (λh=>by cases h) (λ_=>?_);refine aa.exit ?_;rw[zf,List.map_nil,fp] at qH;exact⟨.inr I,rfl,c,qH,F6,U,hold⟩
 ·refine ab.go I I I I ?_;refine ab.nil (aa.seq ?_);refine aa.cl I (λ_=>?_) (λh=>by cases h);have tN:bU≠k:=by omega
  have qE:=ba _ _ tN pg;refine aa.skip (aa.block (aa.seq (aa.region ?_)));refine ab.a0b ay F7 qE I I ?_;refine ab.go I I I I ?_;refine ab.var (v:=c0 p.1) (c:=[.s p.1.1,aw p.1.2]) ah.next dC I I I I I I λc8 fY h3 bj=>?_;refine ab.nil (aa.seq (aa.region ?_));refine ab.go I I I I ?_;refine ab.a0 (v:=c0 p.1) h3 I I I I ?_;have lT:=K_ seen a7 0 p ay;have hlen:=qH.length_eq;have Q3:=lT.length_eq;rw[h5,cb] at hlen;rw[gS] at Q3;have zV:dH c c8:=bz _ _ _ (bz _ _ _ F6 ⟨U,λi o b_ ho=>ba i o (λe=>by subst e;rw[jm] at ho;cases ho;exact b_ _ _ _ _ I) ho⟩) ⟨U,λi o _ ho=>bj i o ho⟩;refine ab.dW I I I (aI p.1 c c8 U U zV) λr lx ⟨jA,F8,jW⟩=>⟨_,jA,?_⟩
  refine ab.go I I I I ?_;refine ab.nil (aa.cl I (λh=>by cases h) (λ_=>?_));have hM:=jW.next;refine aa.skip ⟨(gZ (seen++[p.2]) 0 a7).length,U,U,seen++[p.2],c++[p.1],rfl,?_,jW.it _ _ _ _ _ (bj _ _ F7),F8,λi o hi hw ho=>jW.old i o hi hw (bj i o (ba i o U (hold i o hi hw ho))),b9⟩;refine List.Perm.trans ?_ qH;rw[jD];exact(lT.map Prod.fst).append_left c
def b6K{env:Env}(hh:bc env FB Kv)(bU:Nat)(J:ag)(k:Nat)(aC:J.next=k):bw env 0 (.f (.func FB) [] []) [.m (some bU)] J (λr af=>r= .ok (.f (.func oU) [] [.p (some (k,0))])/\af.next=k+1/\af.get k=some (.cells [.m (some bU)])/\∀i o,J.get i=some o->af.get i=some o):=by
 refine bw.code hh.e hh.p hh.f I I I I ?_;refine aa.seq (aa.region (ab.box (v:=.m (some bU)) (c:=[.m (some bU)]) k aC I I I I I λah hn h1 bM=>?_));refine eo ?_;exact aa.ret ⟨rfl,rfl,hn,h1,bM⟩
def cO.keys{env:Env}{D:List (Nat ⊕ (AV×List AV))}{n:Nat}{f:Nat->AV}{J:ag}{Q:eR}(ik:bc env oU xA){jG:aH}{p:Nat}{ep b:bC}{bU dK:Nat}{a7:List dM}(W:Nat->Prop)(S:List dM->ag->Prop)(k:Nat)(aC:J.next=k)
  (jQ:dc env n f jG=some (.f (.func oU) [] [.p (some (dK,0))])) (ay:Nat.blt p n=true) (hm:J.get bU=some (.map (setE c0 0 a7) a7.length)) (iK:J.get dK=some (.cells [.m (some bU)])) (hW:∀i,W i->i<k) (z0:¬W bU)
  (cg:∀c ah a1,S c ah->ah.next<=a1.next->(∀i o,i≠k+1->(∀a b c d,o≠ .mapIter a b c d)->ah.get i=some o->a1.get i=some o)->S c a1) (h0:S [] J)
  (zW:∀y c ah,k+2<=ah.next->c.length<a7.length->S c ah->ch env (some (k+1)) [] n ep (cY f p (c0 y)) ah (λx f1 c2=>x= .normal/\mV ah c2∧
   ∀ca,ca.next=c2.next->(∀i o,i≠k+1->c2.get i=some o->ca.get i=some o)->ch env (some (k+1)) [] n b f1 ca (λx _ c_=>x= .normal/\S (c++[y]) c_/\Cu (k+2) W ca c_)))
  (zX:∀c ah,c.Perm a7->S c ah->k+2<=ah.next->ah.get k=some .dN->(∀i o,¬W i->J.get i=some o->ah.get i=some o)->Q .normal f ah):cO env D (.inl k::D) n (.rangeFunc jG [p] ep b) f J Q:=by
 subst aC;refine cO.range jQ ik.e λaq gi=>?_;generalize aC:J.next=k at *;obtain⟨bA,aV,dC,qJ,lh,ba⟩:∃bA:ag,(J.push .dN).push (.loop .ready none aq [p] ep b k)=bA/\bA.next=k+2/\bA.get (k+1)=some (.loop .ready none aq [p] ep b k)/\bA.get k=some .dN/\∀i o,J.get i=some o->bA.get i=some o:=by
  refine⟨_,rfl,by show J.next+1+1=_;omega,?_,?_,λi o ho=>?_⟩
  ·have:=ag.ij (J:=J.push .dN) (.loop .ready none aq [p] ep b k);rwa[show(J.push .dN).next=k+1 from by show J.next+1=_;omega] at this
  ·rw[ag.fy trivial _ (show k<(J.push .dN).next from by show k<J.next+1;omega)];have:=ag.ij (J:=J) .dN;rwa[aC] at this
  ·have:=ag.cJ ho;rw[ag.fy trivial _ (show i<(J.push .dN).next from by show i<J.next+1;omega),ag.fy trivial _ this];exact ho
 rw[aV];clear aV;have tN:=ag.cJ hm;have Cr:¬W (k+1):=λh=>by have:=hW _ h;omega
 have mc:¬W k:=λh=>by have:=hW _ h;omega
 refine(b6J ik (W:=λi=>W i\/i=k+1) (B:=k+2) (bU:=bU) (dK:=dK) (a7:=a7)
  (λc ah=>S c ah/\ah.get (k+1)=some (.loop .ready none aq [p] ep b k)) ?_ (.f (.yield (k+1)) [] []) ?_ bA U U (λh=>h.elim z0 U) (ba _ _ hm) (ba _ _ iK) ⟨cg _ _ _ h0 U λi o _ _ ho=>ba i o ho,qJ⟩).mono ?_
 ·rintro c ah a1 ⟨a9,bt⟩ ⟨db,cK⟩;exact⟨cg _ _ _ a9 db λi o _ h ho=>cK i o h ho,cK _ _ (by intros;simp) bt⟩
 ·rintro y c ah eu hlt ⟨a9,bt⟩;refine(bw.round (az:=λaf=>(S (c++[y]) af/\af.get (k+1)=some (.loop .ready none aq [p] ep b k))/\Cu (k+2) (λi=>W i\/i=k+1) ah af) (f:=f) (n:=n) bt gi (by show cond (Nat.blt p n) _ _=true;rw[ay];rfl) I ?_).mono λr af h=>h;refine(zW y c ah eu hlt a9).mono λx f1 c2 ⟨aF,hy,h1⟩=>?_;have iV:=hy.2 _ _ bt;have eG:=hX (bV:=.loop .busy none aq [p] ep b k) iV;refine⟨aF,iV,(h1 (c2.set (k+1) (.loop .busy none aq [p] ep b k)) I (λi o hi ho=>eG.2 i o hi ho)).mono λx _ c_ ⟨aV,sr,fT⟩=>?_⟩;have md:=fT.old _ _ U Cr eG.1;have me:=hX (bV:=.loop .ready none aq [p] ep b k) md;have dQ:=hy.1;have fY:c2.next<=c_.next:=fT.next;have b_:∀ {i:Nat} {a eY bn dt},c2.get i=some (.mapIter a eY bn dt)->i≠k+1:=λh e=>by subst e;rw[iV] at h;cases h
  have Q4:∀ {i:Nat} {a eY bn dt},c_.get i=some (.mapIter a eY bn dt)->i≠k+1:=λh e=>by subst e;rw[md] at h;cases h
  refine⟨aV,md,⟨cg _ _ _ sr (b6 _) λi o hi _ ho=>me.2 i o hi ho,me.1⟩,by show ah.next<=c_.next;omega,λi o hi hw ho=>?_,λi a eY bn dt ho=>?_⟩
  ·have pT:i≠k+1:=λe=>hw (.inr e);exact me.2 i o pT (fT.old i o hi (λe=>hw (.inl e)) (eG.2 i o pT (hy.2 i o ho)))
  ·have h1:=hy.2 _ _ ho;have h3:=fT.it _ _ _ _ _ (eG.2 _ _ (b_ h1) h1);exact me.2 _ _ (Q4 h3) h3
 ·rintro r ah ⟨aF,c,ae,⟨a9,bt⟩,db,cK⟩;have eG:=hX (bV:=.loop .exhausted none aq [p] ep b k) bt;refine⟨_,.ready,aF,bt,aT,zX c _ ae (cg _ _ _ a9 (b6 _) λi o hi _ ho=>eG.2 i o hi ho) (by show k+2<=ah.next;omega) (eG.2 _ _ U (cK _ _ U (λh=>h.elim mc U) lh)) λi o hi ho=>?_⟩;have:=ag.cJ ho;exact eG.2 i o U (cK i o U (λh=>h.elim hi U) (ba i o ho))
def b6L{env:Env}(hh:bc env zL Cd)(ik:bc env oU xA){bU dK:Nat}{a7:List dM}(vJ:a7.length<=1000000)(J:ag)(hm:J.get bU=some (.map (setE c0 0 a7) a7.length))(iK:J.get dK=some (.cells [.m (some bU)])):
  bw env 0 (.f (.func zL) [] []) [.aj,.f (.func oU) [] [.p (some (dK,0))]] J (λr af=>∃(v:AV) (c:List dM),r= .ok v/\c.Perm a7/\Acc af (some 2) v (c.map c0)/\(∀a,v.dU =some a->J.next<=a)/\mV J af):=by
 generalize aC:J.next=k;refine bw.E4 (d:=k+1) hh.e hh.p hh.f I I I I ?_;refine cO.jT (aa.region (ab.box (v:=.aj) (c:=[.aj]) k aC I I I I I λbu dQ h1 bM=>?_));refine bo ?_;refine⟨rfl,cO.xu (cO.jT (aa.region ?_))⟩;refine bo ?_;refine⟨rfl,cO.block ?_⟩;have tN:=ag.cJ hm;refine cO.keys ik (λi=>i=k) (λc ah=>∃v,ah.get k=some (.cells [v])/\Acc ah (some 2) v (c.map c0)/\∀a,v.dU =some a->k+3<=a/\a<ah.next) (k+1) dQ I I (bM _ _ hm) (bM _ _ iK) (λi hi=>by omega) U ?_ ⟨.aj,h1,.nil,λa h=>by cases h⟩ ?_ ?_
 ·rintro c ah a1 ⟨v,eD,e4,jt⟩ db cK;exact⟨v,cK _ _ U (by intros;simp) eD,e4.a0d λi c hi h=>cK _ _ (by have:=jt i hi;omega) (by intros;simp) h,λa h=>by have:=jt a h;omega⟩
 ·rintro y c ah eu hlt ⟨v,eD,e4,jt⟩;refine aa.region ?_;refine ab.var (v:=c0 y) (c:=[.s y.1,aw y.2]) ah.next I I I I I I I λc2 b3 cn iB=>?_;refine ab.nil ⟨rfl,⟨U,iB⟩,λca h_ l0=>?_⟩;have gO:∀i o,i≠k+2->ah.get i=some o->ca.get i=some o:=λi o hi ho=>l0 i o hi (iB i o ho);have z1:=gO _ _ U eD;have hA:=e4.bK λi o hi ho=>gO i o (by have:=jt i hi;omega) ho;refine aa.block (aa.region ?_);refine ab.a0 (v:=v) z1 I I I hA.F5 ?_;refine ab.a0 (v:=c0 y) (l0 _ _ U cn) I I I I ?_;refine ab.Yq (y:=c0 y) hA I I I (by rw[cb];omega) I I λa_ c_ hr hT xe h9=>?_;refine ab.store (bn:=[a_]) (h9 _ _ (λe=>by have:=jt _ e;omega) z1) I I I hr.n3 (by show storeCells _ 0 a_.cells=_;rw[EZ hr.n3];rfl) λgz b6M fm iE=>?_;refine ab.nil ⟨rfl,⟨a_,fm,?_,λa e=>by rw[hT] at e;cases e;omega⟩,U,λi o hi hw ho=>iE i o hw (h9 i o (λe=>by have:=jt _ e;omega) ho),λi a eY bn dt ho=>?_⟩
  ·rw[ie];exact hr.bK λi o hi ho=>by
    rw[hT] at hi;cases hi;exact iE _ _ U ho
  ·refine iE _ _ (λe=>by subst e;rw[z1] at ho;cases ho) (h9 _ _ (λe=>?_) ho);obtain⟨m8,fs⟩:=hA.a0e e;rw[fs] at ho;cases ho
 ·rintro c ah ae ⟨v,eD,e4,jt⟩ hn an hold;refine⟨rfl,rfl,?_⟩;refine aa.seq (aa.region ?_);refine ab.a0 (v:=v) eD I I I e4.F5 ?_;refine bo ?_;have eG:=hX (bV:=AO.dead) an;refine aa.ret ⟨rfl,an,v,c,rfl,ae,e4.bK λi o hi ho=>eG.2 i o (by have:=jt i hi;omega) ho,λa h=>by have:=jt a h;omega,by show J.next<=ah.next;omega,λi o ho=>?_⟩;have:=ag.cJ ho;exact eG.2 i o U (hold i o U (bM i o ho))
def a0f{R:Option Nat}:∀ {xs:List AV} (j:Nat),(∀x∈xs,conf R x=true)->(xs.flatMap AV.cells).take (j*shN R)=(xs.take j).flatMap AV.cells
 |xs,0,_=>by rw[EH];rfl
 |[],j+1,_=>by simp
 |x::xs,j+1,h=>by
  have e:(j+1)*shN R=x.cells.length+j*shN R:=by rw[K7 (h x aT),jz,qh,uR]
  rw[j4,e,List.take_length_add_append,a0f j λy aI=>h y (fP _ aI)];rfl
def a0g{R:Option Nat}:∀ {xs:List AV},(∀x∈xs,conf R x=true)->(xs.flatMap AV.cells).length=xs.length*shN R
 |[],_=>by simp
 |x::xs,h=>by
  rw[j4,h5,K7 (h x aT),a0g λy aI=>h y (fP _ aI),gS,jz,qh,uR]
def b6N{R:Option Nat}{xs:List AV}{j:Nat}{y:AV}(aG:j<xs.length)(h:∀x∈xs,conf R x=true)(aI:conf R y=true):storeCells (xs.flatMap AV.cells) (0+j*shN R) y.cells=some ((xs.set j y).flatMap AV.cells):=by
 have aF:0+j*shN R+y.cells.length=(j+1)*shN R:=by rw[K7 aI,jz,qh,lQ]
 unfold storeCells;rw[aF,lQ,if_pos (hO (by rw[a0g h];exact qg _ U)),a0f j h,QU (j+1) h,List.set_eq_take_append_cons_drop,if_pos aG,xJ,j4]
section
variable {env:Env}{aJ:Option Nat}{D:List (Nat ⊕ (AV×List AV))}{n:Nat}{f:Nat->AV}{J:ag}{Q:eR}
def ab.La{R:Option Nat}{a x:aH}{g:Option (Nat×Bool)}{wn:List Nat}{ops:List aX}{xs:List AV}{v y:AV}{j o:Nat}(hA:Acc J R v xs)(hT:v.dU =some o)(aG:j<xs.length)(aI:conf R y=true)(hw:gj g n f=true)(h1:dc env n f a=some (.p (some (o,0+j*shN R))))(h2:dc env n f x=some y)
  (h:∀af:ag,af.next=J.next->Acc af R v (xs.set j y)->(∀i bV,i≠o->J.get i=some bV->af.get i=some bV)->dE env aJ D n ops f af Q):dE env aJ D n (⟨none,.store R a x,g,wn⟩::ops) f J Q:=by
 obtain⟨bV,au,ho,ae⟩:=hA.inv U;subst au;cases hT;refine ab.store ho hw h1 h2 aI (b6N aG ae aI) λaf ft h' fg=>h af ft ?_ fg;have:=Acc.of (J:=af) (R:=R) (o:=o) (xs:=xs.set j y) (by rw[wO];omega) h' (λz aZ=>by
  rcases List.mem_or_eq_of_mem_set aZ with aZ|aZ
  ·exact ae z aZ
  ·rw[aZ];exact aI)
 rwa[wO] at this
end
def F9(a b:Nat):Int:=if a<b then-1 else if b<a then 1 else 0
def vK(a b:List Nat):Int:=cond (hD a b) (-1) (cond (eqL a b) 0 1)
def sw(a b:dM):Int:=if vK a.1 b.1=0 then F9 a.2 b.2 else vK a.1 b.1
def swap_perm{l:List dM}{j:Nat}(aG:j+1<l.length):((l.set (j+1) l[j]).set j l[j+1]).Perm l:=by
 exact Zt (i:=j+1) (j:=j) U U
section
variable {b:b8}{K:Nat->List AV->AV->Prop}
def Lb{av:aH->Option AV}{J:ag}{x:aH}{k:IntKind}{m:Int}(h:av x=some (.i k m))(ba:IntKind):opx 0 av J (.conv ba x)=some (.val (.i ba (wrapN ba m)) J):=by
 show(match av x with|some (.i _ n)=>some (bH.val (.i ba (wrapN ba n)) J)|some (.e3 _ d j)=>(match ba with| .i64=>some (.val (.e3 .i64 d j) J)|_=>none)|_=>none)=_;rw[h]
def b6O(hh:bc (b.aQ K) Cg Fw)(ha:bc (b.aQ K) zL Cd)(ik:bc (b.aQ K) oU xA){bU dK:Nat}{a7:List dM}(vJ:a7.length<=1000000)(J:ag)(hm:J.get bU=some (.map (setE c0 0 a7) a7.length))(iK:J.get dK=some (.cells [.m (some bU)])):
  bw (b.aQ K) 0 (.f (.func Cg) [] []) [.f (.func oU) [] [.p (some (dK,0))]] J (λr af=>∃(v:AV) (c:List dM),r= .ok v/\c.Perm a7/\Acc af (some 2) v (c.map c0)/\(∀a,v.dU =some a->J.next<=a)/\mV J af):=by
 refine bw.code hh.e hh.p hh.f I I I I ?_;refine aa.seq (aa.region ?_);refine ab.go I I I I ?_;refine ab.nil (aa.seq (aa.region ?_));refine ab.go I I I I ?_;refine ab.dW I I I (b6L ha ik vJ J hm iK) λr bA ⟨v,c,aF,h1,h2,h3,aN⟩=>⟨_,aF,?_⟩
 refine ab.go I I I I ?_;exact ab.nil (aa.ret ⟨rfl,_,c,rfl,h1,h2,h3,aN⟩)
end
inductive Sl(J:ag)(R:Option Nat):AV->List AV->Prop
 |nil:Sl J R .aj []
 |aq (o:Nat) (cap:Option Nat) (xs rest:List AV) (h:J.get o=some (.cells (xs.flatMap AV.cells++rest))) (ae:∀y∈xs,conf R y=true) (aC:cap=none\/cap=some xs.length):Sl J R (.aq o 0 xs.length R cap) xs
def Sl.bK{J ah:ag}{R:Option Nat}{v:AV}{xs:List AV}(h:Sl J R v xs)(k:∀i o,v.dU =some i->J.get i=some o->ah.get i=some o):Sl ah R v xs:=by
 cases h with
 |nil=>exact .nil
 |aq o cap xs rest h ae aC=>exact .aq o cap xs rest (k _ _ I h) ae aC
def Sl.conf{J:ag}{R:Option Nat}{v:AV}{xs:List AV}(h:Sl J R v xs):∀y∈xs,conf R y=true:=by
 cases h with
 |nil=>intro y aI;simp at aI
 |aq o cap xs rest h ae aC=>exact ae
def Sl.n3{J:ag}{R:Option Nat}{v:AV}{xs:List AV}(h:Sl J R v xs):Go.Lyc.conf none v=true:=by cases h<;>rfl
def Sl.tO{J:ag}{R:Option Nat}{v:AV}{xs:List AV}(h:Sl J R v xs):v.cells=[v]:=by cases h<;>rfl
def Sl.b6P{J:ag}{R:Option Nat}{v:AV}{xs:List AV}(h:Sl J R v xs):v.val=true:=by cases h<;>rfl
def Sl.len{J ah:ag}{R:Option Nat}{v:AV}{xs:List AV}(h:Sl J R v xs):lenA ah 1 v=some xs.length:=by cases h<;>rfl
def a0h{R:Option Nat}:∀ {xs:List AV} {rest:List AV},(∀y∈xs,Go.Lyc.conf R y=true)->∀(j:Nat) (aG:j<xs.length),∃r,(xs.flatMap AV.cells++rest).drop (j*shN R)=(xs[j]).cells++r/\dB R ((xs[j]).cells++r)=some xs[j]
 |[],_,_,j,aG=>by simp at aG
 |x::xs,rest,h,0,_=>⟨xs.flatMap AV.cells++rest,by rw[EH,y_,j4,jD];rfl,(BZ (h x aT)).1⟩
 |x::xs,rest,h,j+1,aG=>by
  obtain⟨r,h1,h2⟩:=a0h (rest:=rest) (λy aI=>h y (fP _ aI)) j (by simpa using aG);refine⟨r,?_,h2⟩;rw[j4,jD,show(j+1)*shN R=shN R+j*shN R from by rw[FV,uR],← ov,(BZ (h x aT)).2,h1];rfl
def Sl.fb{J:ag}{R:Option Nat}{v:AV}{xs:List AV}(h:Sl J R v xs){j:Nat}(aG:j<xs.length):∃o c r,v.dU =some o/\idxSlA R v j=some (.p (some (o,j*shN R)))/\J.get o=some (.cells c)/\c.drop (j*shN R)=(xs[j]).cells++r/\dB R (c.drop (j*shN R))=some xs[j]:=by
 cases h with
 |nil=>simp at aG
 |aq o cap xs rest h ae aC=>
  obtain⟨r,h1,h2⟩:=a0h (rest:=rest) ae j aG;refine⟨o,_,r,rfl,?_,h,h1,by rw[h1];exact h2⟩;have h3:Nat.blt j xs.length=true:=hO aG;simp only[idxSlA,h3,decide_true,H6,if_true,lQ]
def Sl.read{J:ag}{R:Option Nat}{v:AV}{xs:List AV}(h:Sl J R v xs):readList J v=some xs:=by
 cases h with
 |nil=>rfl
 |aq o cap xs rest h ae aC=>
  show(match J.get o with|some (.cells c)=>elems R xs.length (c.drop 0)|_=>none)=_;rw[h];exact tz ae
def Sl.append{J:ag}{R:Option Nat}{v x:AV}{xs a4:List AV}{y:AV}{bytes:Nat}(h:Sl J R v xs)(hx:newOf J x=some (y::a4))(ae:∀z∈y::a4,Go.Lyc.conf R z=true)(hb:(3*(xs.length+(y::a4).length)+2000)*bytes<=281474976710656):
  ∃a_ af,appendO 0 J R bytes v x=some (a_,af)/\Sl af R a_ (xs++y::a4)/\a_.dU =some J.next/\(∀o l c,a_= .aq o 0 l R c->c=none)/\af.next=J.next+1/\∀i o,v.dU ≠some i->J.get i=some o->af.get i=some o:=by
 have JV:=h.conf;have hall:(cB (Go.Lyc.conf R) xs&&cB (Go.Lyc.conf R) (y::a4)&&Nat.ble ((3*(xs.length+(y::a4).length)+2000)*bytes) 281474976710656)=true:=by
  rw[iI JV,iI ae,hO hb];rfl
 have al:=h.read;have mk:∀ah:ag,ah.next=J.next->Sl (ah.push (.cells (xs.flatMap AV.cells++(y::a4).flatMap AV.cells))) R (.aq J.next 0 (xs.length+(y::a4).length) R none) (xs++y::a4):=λah vF=>by
  have:=Sl.aq (J:=ah.push (.cells (xs.flatMap AV.cells++(y::a4).flatMap AV.cells))) (R:=R) J.next none (xs++y::a4) [] (by rw[<-vF,ag.ij,xJ,fp]) (λz aZ=>by
   rcases gN.1 aZ with aZ|aZ
   ·exact JV z aZ
   ·exact ae z aZ) (.inl I)
  rwa[h5] at this
 cases h with
 |nil=>
  refine⟨.aq J.next 0 (y::a4).length R none,J.push (.cells ((y::a4).flatMap AV.cells)),?_,?_,rfl,λ_ _ _ h=>by cases h;rfl,rfl,λi o _ ho=>by rw[ag.fy trivial _ (ag.cJ ho)];exact ho⟩
  ·unfold appendO;rw[hx];show cond _ _ none=_;rw[hall];rfl
  ·have:=mk J I;simpa using this
 |aq o cap xs rest h fs rF=>
  have an:∀i bV,i≠o->J.get i=some bV->((J.set o .dead).push (.cells (xs.flatMap AV.cells++(y::a4).flatMap AV.cells))).get i=some bV:=λi bV b_ ho=>by
   have hlt:=ag.cJ ho;rw[ag.fy trivial _ (show i<(J.set o .dead).next from hlt),ag.ji trivial _ (ag.cJ h),if_neg b_];exact ho
  rcases rF with rfl|rfl
  ·refine⟨.aq J.next 0 (xs.length+(y::a4).length) R none,(J.set o .dead).push (.cells (xs.flatMap AV.cells++(y::a4).flatMap AV.cells)),?_,mk _ I,rfl,λ_ _ _ h=>by cases h;rfl,rfl,λi bV b_ ho=>an i bV (λe=>b_ (by rw[e];rfl)) ho⟩;unfold appendO;rw[al,hx];show cond _ _ none=_;rw[hall,cond_true];show(if R=R then(if Nat.blt o 0 then none else if Nat.beq 0 0 then some (AV.aq J.next 0 (xs.length+(y::a4).length) R none,(J.set o .dead).push (.cells (xs.flatMap AV.cells++(y::a4).flatMap AV.cells))) else none) else none)=_;rw[if_pos I,if_neg (by simp[Nat.blt,Nat.ble]),if_pos (by rfl)]
  ·refine⟨.aq J.next 0 (xs.length+(y::a4).length) R none,J.push (.cells (xs.flatMap AV.cells++(y::a4).flatMap AV.cells)),?_,mk _ I,rfl,λ_ _ _ h=>by cases h;rfl,rfl,λi bV _ ho=>by rw[ag.fy trivial _ (ag.cJ ho)];exact ho⟩;unfold appendO;rw[al,hx];show cond _ _ none=_;rw[hall,cond_true];show(if R=R then cond (Nat.ble (xs.length+(y::a4).length) xs.length) _ (some (AV.aq J.next 0 (xs.length+(y::a4).length) R none,J.push (.cells (xs.flatMap AV.cells++(y::a4).flatMap AV.cells)))) else none)=_;rw[if_pos I,show Nat.ble (xs.length+(y::a4).length) xs.length=false from by rw[JF];intro h;have:=eb h;simp only[gS] at this;omega];rfl
namespace W
section
variable {cF:qR}{env:Env}{aJ:Option Nat}{D:List (Nat ⊕ (AV×List AV))}{n:Nat}{F:List (Nat×AV)}{z:Nat->AV}{J:ag}{Q:eR}
def Cv{d:Nat}{R:Option Nat}{x:aH}{g:Option (Nat×Bool)}{ops:List aX}{id off:Nat}{c:List AV}{v:AV}(ak:J.get id=some (.cells c))(an:Nat.blt d n=true)(hw:wtL g n F=true)(h1:dJ env n F z x=some (.p (some (id,off))))(h2:dB R (c.drop off)=some v)(h:cz cF env aJ D n ops (b4 ((d,v)::F) z) J Q):cz cF env aJ D n (⟨some d,.load R x,g,[]⟩::ops) (b4 F z) J Q:=val an hw (lp _ _ h1 (l8 ak h2)) h
def z2{N:Nat}{b2:lR}{d:Nat}{R:Option Nat}{x:aH}{g:Option (Nat×Bool)}{wn:List Nat}{ops:List aX}{id off:Nat}{c:List AV}{v:AV}(ak:J.get id=some (.cells c))(an:Nat.blt d n=true)(hw:wtL g n F=true)(h1:dJ env n F z x=some (.p (some (id,off))))(h2:dB R (c.drop off)=some v)(au:AV.eqb env.a2 v v=true)
  (h:cz (.dR N (wn.map (λq=>(q,id,AO.cells c))++b2)) env aJ D n ops (b4 ((d,v)::F) z) J Q):cz (.dR N b2) env aJ D n (⟨some d,.load R x,g,wn⟩::ops) (b4 F z) J Q:=fq.nq ak an (r9 hw) (λs ak=>by rw[oS];exact lp _ _ h1 (l8 ak h2)) au h
def le{d:Nat}{R:Option Nat}{x:aH}{g:Option (Nat×Bool)}{ops:List aX}{a v:AV}(an:Nat.blt d n=true)(hw:wtL g n F=true)(h1:dJ env n F z x=some a)(h2:sY J R a=some v)(h:cz cF env aJ D n ops (b4 ((d,v)::F) z) J Q):cz cF env aJ D n (⟨some d,.load R x,g,[]⟩::ops) (b4 F z) J Q:=val an hw (lp _ _ h1 h2) h
def gU{L:List (Nat×List AV)}(H:Has J L){d m:Nat}{R:Option Nat}{jc:List AV}{aE:List (Nat×aH)}{g:Option (Nat×Bool)}{ops:List aX}{c:List AV}{k:Nat}(hn:J.next=k)(an:Nat.blt d n=true)(hw:wtL g n F=true)(ao:hQ (dJ env n F z) (λi cL=>i*cL) (aE.map λp=>(p.1,shN R,p.2)) (fw m jc)=some c)
  (h:∀ah:ag,ah.next=k+1->Has ah ((k,c)::L)->(∀i o,J.get i=some o->ah.get i=some o)->cz cF env aJ D n ops (b4 ((d,.aq k 0 m R (some m))::F) z) ah Q):cz cF env aJ D n (⟨some d,.buildSlice R m jc aE,g,[]⟩::ops) (b4 F z) J Q:=by
 subst hn;have cH:∀i o,J.get i=some o->(J.push (.cells c)).get i=some o:=λi o ho=>by rw[ag.fy trivial _ (ag.cJ ho)];exact ho
 refine val (v:=.aq J.next 0 m R (some m)) (af:=J.push (.cells c)) an hw ?_ (h (J.push (.cells c)) I (H.push I (ag.ij _) cH) cH);show(match hQ (dJ env n F z) (λi cL=>i*cL) (aE.map λp=>(p.1,shN R,p.2)) (fw m jc) with
  |some c=>some (bH.val (.aq J.next 0 m R (some m)) (J.push (.cells c)))
  |none=>none)=_
 rw[ao]
def ap{d:Nat}{R:Option Nat}{bytes:Nat}{s x:aH}{g:Option (Nat×Bool)}{ops:List aX}{v w:AV}{xs:List AV}(y:AV)(a4:List AV)(hA:Sl J R v xs)(hx:newOf J w=some (y::a4))(ae:∀z∈y::a4,Go.Lyc.conf R z=true)(hb:(3*(xs.length+(y::a4).length)+2000)*bytes<=281474976710656)(an:Nat.blt d n=true)(hw:wtL g n F=true)(h1:dJ env n F z s=some v)(h2:dJ env n F z x=some w)
  (h:∀a_ ah,Sl ah R a_ (xs++y::a4)->a_.dU =some J.next->(∀o l c,a_= .aq o 0 l R c->c=none)->ah.next=J.next+1->(∀i o,v.dU ≠some i->J.get i=some o->ah.get i=some o)->cz cF env aJ D n ops (b4 ((d,a_)::F) z) ah Q):cz cF env aJ D n (⟨some d,.append R bytes s x,g,[]⟩::ops) (b4 F z) J Q:=by
 obtain⟨a_,ah,e,a,b,c,dt,cp⟩:=hA.append hx ae hb;refine val (v:=a_) (af:=ah) an hw ?_ (h a_ ah a b c dt cp);show(match dJ env n F z s,dJ env n F z x with|some s,some x=>(match appendO 0 J R bytes s x with|some (v,J)=>some (bH.val v J)|none=>none)|_,_=>none)=_;rw[h1,h2];show(match appendO 0 J R bytes v w with|some (v,J)=>some (bH.val v J)|none=>none)=_;rw[e]
def pu{d d0:Nat}{R:Option Nat}{bytes:Nat}{jc:List AV}{aE:List (Nat×aH)}{s:aH}{g ct:Option (Nat×Bool)}{ops:List aX}{v:AV}{xs c:List AV}(y:AV)(hA:Sl J R v xs)(an:Nat.blt d n=true)(py:Nat.blt d0 n=true)(hw:wtL g n F=true)(ao:hQ (dJ env n F z) (λi cL=>i*cL) (aE.map λp=>(p.1,shN R,p.2)) (fw 1 jc)=some c)(aI:elems R 1 c=some [y])(dX:Go.Lyc.conf R y=true)
  (BK:wtL ct n ((d0,.aq J.next 0 1 R (some 1))::F)=true) (h1:dJ env n ((d0,.aq J.next 0 1 R (some 1))::F) z s=some v) (h2:Nat.beq d0 d0=true) (hb:(3*(xs.length+1)+2000)*bytes<=281474976710656)
  (h:∀a_ ah,Sl ah R a_ (xs++[y])->a_.dU =some (J.next+1)->(∀o l c,a_= .aq o 0 l R c->c=none)->ah.next=J.next+2->(∀i o,v.dU ≠some i->J.get i=some o->ah.get i=some o)->cz cF env aJ D n ops (b4 ((d,a_)::(d0,.aq J.next 0 1 R (some 1))::F) z) ah Q):
  cz cF env aJ D n (⟨some d0,.buildSlice R 1 jc aE,g,[]⟩::⟨some d,.append R bytes s (.t d0),ct,[]⟩::ops) (b4 F z) J Q:=by
 refine gU Has.nil I py hw ao λc2 dQ H1 bM=>?_;have nK:=H1.fK;refine ap (w:=.aq J.next 0 1 R (some 1)) y [] (hA.bK λi o _=>bM i o) ?_ (λz aZ=>by rw[dx.1 aZ];exact dX) hb an BK h1 ?_ λa_ ah a9 bt cW eD e4=>h a_ ah a9 (by rw[bt,dQ]) cW (by rw[eD,dQ]) λi o hi ho=>e4 i o hi (bM i o ho)
 ·show readList c2 (.aq J.next 0 1 R (some 1))=_;show(match c2.get J.next with|some (.cells c)=>elems R 1 (c.drop 0)|_=>none)=_;rw[nK];exact aI
 ·show cond (Nat.blt d0 n) (match cond (Nat.beq d0 d0) (some _) _ with|some v=>some v|none=>some (z d0)) none=_;rw[py,h2];rfl
end
end W
structure xQ where
 F4:Nat
 op:Nat
 hyp:Bool
 f:Fm
 b6Q:List Nat
 cs:List (Nat×Nat)
abbrev bm(F:Fm):List AV:=[a3 F.op,.s F.name,cy true F.cP,fa true F.d_]
def mf(F:Fm):F.A true= .ad (bm F):=by unfold Fm.A;rw[Fm.gJ]
abbrev Q5(o:Bool)(l:List (Nat×Nat)):AV:=.aR o (some 2) (l.map λc=>.ad [aw c.1,aw c.2])
def b6R{ah:ag}{o:Bool}{l:List (Nat×Nat)}:lenA ah 1 (Q5 o l)=some l.length:=congrArg some (cb _)
def b6S{o:Bool}{l:List (Nat×Nat)}{j:Nat}(h:j<l.length):idxSlA (some 2) (Q5 o l) j=some (.dk o (.ad [aw (l[j]).1,aw (l[j]).2])):=by
 have:=E1 (o:=o) (R:=some 2) (l:=some l) (g:=λc:Nat×Nat=>AV.ad [aw c.1,aw c.2]) h;exact this
abbrev xQ.A(x:xQ):AV:=.ad [aw x.F4,aw x.op,.b x.hyp,a3 x.f.op,.s x.f.name,cy true x.f.cP,fa true x.f.d_,.s x.b6Q,Q5 true x.cs]
abbrev a0i(L:List xQ):AV:=.aR true (some 9) (L.map xQ.A)
def b6T{L:List xQ}{j:Nat}(h:j<L.length):idxSlA (some 9) (a0i L) j=some (.dk true (L[j]).A):=by
 have:=Yo (o:=true) (R:=some 9) (f:=xQ.A) h;cases L with
 |nil=>simp at h
 |cons x l=>exact this
def b6U{J:ag}{L:List xQ}:lenA J 1 (a0i L)=some L.length:=by show some (L.map xQ.A).length=_;rw[cb]
@[irreducible] def Lc (R:Option Nat) (v:AV) (j:Nat):AV:=(idxSlA R v j).getD .eC
def Ld{R:Option Nat}{v w:AV}{j:Nat}(h:idxSlA R v j=some w):Lc R v j=w:=by unfold Lc;rw[h];rfl
structure z3(J:ag)(R:Option Nat)(v:AV)(xs:List AV):Prop where
 len:∀ah,lenA ah 1 v=some xs.length
 jq:∀ {j},j<xs.length->idxSlA R v j=some (Lc R v j)
 a0:∀ {j} (h:j<xs.length),sY J R (Lc R v j)=some xs[j]
def Sl.a0j{J:ag}{R:Option Nat}{v:AV}{xs:List AV}(h:Sl J R v xs):z3 J R v xs:=
 ⟨λah=>h.len,λ{j} aG=>by obtain⟨o,c,r,h0,h1,_⟩:=h.fb aG;rw[Ld h1];exact h1,λ{j} aG=>by
  obtain⟨o,c,r,h0,h1,h2,h3,aN⟩:=h.fb aG;rw[Ld h1];exact l8 h2 aN⟩
def b6V{J:ag}{R:Option Nat}{o:Bool}{xs:List AV}(ae:∀y∈xs,conf R y=true):z3 J R (slA o R xs) xs:=
 ⟨λah=>Yn ah o R xs,λaG=>by rw[Ld (JU aG)];exact JU aG,λ{j} aG=>by
  rw[Ld (JU aG)];show(if conf R xs[j] then some xs[j] else none)=_;rw[if_pos (ae _ (c3 aG))]⟩
def b6W{o:Bool}{R:Option Nat}{l:List AV}:conf none (slA o R l)=true:=by cases l<;>rfl
def b6X{a:Nat}(h:a+1<2^63):binop .add (aw a) (.i .i64 1)=some (aw (a+1)):=ir (b:=1) h
def b6Y{a:Nat}(h1:1<=a)(h:a<2^63):binop .sub (aw a) (.i .i64 1)=some (aw (a-1)):=jS (b:=1) h1 h
def aO{P az:Prop}(k:az)(h:Hid az->P:=by
 intro k
 repeat (first
  |refine W.go I I I I ?_
  |refine W.off I I ?_
  |(refine W.b5r ?_;first|refine W.lt I I I I ?_|refine W.lt I I I b6W ?_|(refine W.a0 (c:=?_) (v:=?_) H I I I ?_ ?_ ?_;rotate_left 2;(repeat (first|exact .head _|refine .tail _ ?_));exact rfl)|refine W.le I I I (a0k.a0 (by assumption) (by omega)) ?_|refine W.le I I I (z3.a0 (by assumption) (by omega)) ?_)
  |(refine W.b5t ?_;first|refine W.b5q I I I I (by simp only[W.cmpP,gS,nn];first|done|omega|exact id|exact λh=>h trivial) ?_|refine W.zG I I I I I (by simp only[W.cmpP,gS,nn];first|done|omega|exact id|exact λh=>h trivial) ?_|refine W.bin I I I I (b6X (by omega)) ?_|refine W.bin I I I I (b6Y (by omega) (by omega)) ?_|refine W.bin I I I I (ir (by omega)) ?_|refine W.bin I I I I (jS (by omega) (by omega)) ?_)
  |(refine W.b5u ?_;first|refine W.jq I I I I (b6T (by omega)) ?_|refine W.jq I I I I (b6S (by omega)) ?_|refine W.jq I I I I (Yo (by omega)) ?_|refine W.jq I I I I (a0k.jq (by assumption) (by omega)) ?_|refine W.jq I I I I (z3.jq (by assumption) (by omega)) ?_)
  |(refine W.b5v ?_;first|refine W.len I I I b6U ?_|refine W.len I I I b6R ?_|refine W.len I I I b4P ?_|refine W.len I I I (a0k.len (by assumption) _) ?_|refine W.len I I I (z3.len (by assumption) _) ?_|refine W.len I I I I ?_)
  |(refine W.b5s ?_;first|(refine W.nq (c:=?_) (v:=?_) H I I I ?_ ?_ ?_ ?_;rotate_left 2;(repeat (first|exact .head _|refine .tail _ ?_));exact rfl;first|exact Fb rfl|exact b5w I))
  |refine W.bk ?_|refine W.rg ?_|refine W.zF I ?_|refine W.b5k ?_|refine aa.block (a:=.seq _ _) ?_|refine aa.block (a:=.region _) ?_|refine aa.block (a:=.draw _) ?_|refine aa.block (a:=.cond _ _ _) ?_
  |refine W.nil ?_|refine W.b5m ?_
  |refine W.now (_::_) _ I I (by(repeat (refine tC.c H (by repeat (first|exact List.Mem.head _|refine List.Mem.tail _ ?_)) ?_));exact trivial) ?_
  |refine W.YM I ?_|refine W.b5l I ?_)
 exact k.out):P:=h ⟨k⟩
def resV(J:ag)(f:Nat->AV)(r:Nat×Option (Option Nat)):Option AV:=
 match r.2 with
 |none=>some (f r.1)
 |some R=>match f r.1 with
  | .p (some (id,off))=>match J.get id with
   |some (.cells c)=>dB R (c.drop off)
   |_=>none
  |_=>none
def tP(J:ag)(f:Nat->AV)(rs:List (Nat×Option (Option Nat))):Option AV:=
 match mapO (resV J f) rs with
 |some [v]=>some v
 |some a8=>some (.a6 a8)
 |none=>none
def b6Z{D:List (Nat ⊕ (AV×List AV))}{n:Nat}{f:Nat->AV}{ai:Fr}(J:ag)(h:g6 D n f ai){r:Nat×Option (Option Nat)}(al:Nat.blt r.1 n=true):resultOf J ai.a5 r=resV J f r:=by
 have hg:=h.get r.1;have hn:r.1<n:=eb al;rw[if_pos hn] at hg;obtain⟨d,o⟩:=r;unfold resultOf resV;simp only[] at hg ⊢;rw[hg];cases o with
 |none=>rfl
 |some R=>
  cases f d with
  |p a=>cases a with
   |none=>rfl
   |some a=>rfl
  |_=>rfl
def Q6{D:List (Nat ⊕ (AV×List AV))}{n:Nat}{f:Nat->AV}{ai:Fr}(J:ag)(h:g6 D n f ai){rs:List (Nat×Option (Option Nat))}(al:cB (λr=>Nat.blt r.1 n) rs=true):resultsOf J ai.a5 rs=tP J f rs:=by
 have:mapO (resultOf J ai.a5) rs=mapO (resV J f) rs:=BJ λx hx=>b6Z J h (np al x hx);show(match mapO (resultOf J ai.a5) rs with|some [v]=>some v|some a8=>some (.a6 a8)|none=>none)=match mapO (resV J f) rs with|some [v]=>some v|some a8=>some (.a6 a8)|none=>none
 rw[this]
def a0l{env:Env}{fn:bP}{n:Nat}{f:Nat->AV}{ai:Fr}{J:ag}{v:AV}(h1:g6 [] n f ai)(an:cB (λr=>Nat.blt r.1 n) fn.results=true)(au:tP J f fn.results=some v):endF env 0 fn (.ret,ai,J)=some [(.ok v,J)]:=by
 show(match leave 0 (callD env 0) ai.defers none J with
  |none=>none
  |some (some v,J)=>some [(cQ.err v,J)]
  |some (none,J)=>match resultsOf J ai.a5 fn.results with
   |some v=>some [(.ok v,J)]
   |none=>none)=_
 rw[h1.ds];show(match resultsOf J ai.a5 fn.results with|some v=>some [(cQ.ok v,J)]|none=>none)=_;rw[Q6 J h1 an,au]
def b7a{env:Env}{fn:bP}{n d:Nat}{f:Nat->AV}{ai:Fr}{J:ag}{v:AV}(h1:g6 [.inl d] n f ai)(hm:J.get d=some .dN)(an:cB (λr=>Nat.blt r.1 n) fn.results=true)(au:tP (J.set d .dead) f fn.results=some v):endF env 0 fn (.ret,ai,J)=some [(.ok v,J.set d .dead)]:=by
 show(match leave 0 (callD env 0) ai.defers none J with
  |none=>none
  |some (some v,J)=>some [(cQ.err v,J)]
  |some (none,J)=>match resultsOf J ai.a5 fn.results with
   |some v=>some [(.ok v,J)]
   |none=>none)=_
 have ao:leave 0 (callD env 0) ai.defers none J=some (none,J.set d .dead):=by
  rw[h1.ds];show(if Nat.blt d 0 then none else match J.get d with
   |some .dN=>some (none,J.set d .dead)
   |_=>none)=_
  rw[if_neg (by simp[Nat.blt,Nat.ble]),hm]
 rw[ao];show(match resultsOf (J.set d .dead) ai.a5 fn.results with|some v=>some [(cQ.ok v,J.set d .dead)]|none=>none)=_;rw[Q6 _ h1 an,au]
def q2{J:ag}{f:Nat->AV}{d id off:Nat}{R:Option Nat}{c:List AV}{v:AV}(h:f d= .p (some (id,off)))(hg:J.get id=some (.cells c))(ht:dB R (c.drop off)=some v):resV J f (d,some R)=some v:=by
 show(match f d with| .p (some (id,off))=>(match J.get id with|some (.cells c)=>dB R (c.drop off)|_=>none)|_=>none)=_;rw[h];show(match J.get id with|some (.cells c)=>dB R (c.drop off)|_=>none)=_;rw[hg];exact ht
def k8{J:ag}{f:Nat->AV}{d:Nat}{v:AV}(h:f d=v):resV J f (d,none)=some v:=by rw[<-h];rfl
def mW{J:ag}{f:Nat->AV}{x:Nat×Option (Option Nat)}{v:AV}(h:resV J f x=some v):tP J f [x]=some v:=by
 show(match mapO (resV J f) [x] with|some [v]=>some v|some a8=>some (.a6 a8)|none=>none)=_;rw[mapO_cons,h];rfl
def xR{J:ag}{f:Nat->AV}{x y:Nat×Option (Option Nat)}{v w:AV}(h:resV J f x=some v)(h2:resV J f y=some w):tP J f [x,y]=some (.a6 [v,w]):=by
 show(match mapO (resV J f) [x,y] with|some [v]=>some v|some a8=>some (.a6 a8)|none=>none)=_;rw[mapO_cons,mapO_cons,h,h2];rfl
section
variable {env:Env}{J:ag}{fn:Nat}{bG:bP}{body:bC}{first cap args:List AV}{az:cQ->ag->Prop}
def W.b7b{d:Nat}(e:env.ext fn=0)(ay:env.pure fn=false)(hf:env.funcs fn=some bG)(hb:bG.body=some body)
  (hn:(Nat.beq (first++args++cap).length bG.ig&&Nat.ble (first++args++cap).length bG.ntmps)=true) (an:cB (λr=>Nat.blt r.1 bG.ntmps) bG.results=true)
  (h:∀z,cO env [] [.inl d] bG.ntmps body (b4 (W.oT 0 (first++args++cap)) z) J (λx bD af=>x= .ret/\af.get d=some .dN/\∃v,tP (af.set d .dead) bD bG.results=some v/\az (.ok v) (af.set d .dead))):bw env 0 (.f (.func fn) first cap) args J az:=by
 have hle:(first++args++cap).length<=bG.ntmps:=by
  simp only[c7] at hn;exact eb hn.2
 have jP:b4 (W.oT 0 (first++args++cap)) (eh (first++args++cap))=eh (first++args++cap):=BX (W.Ka _ 0 λj a e=>by show(first++args++cap).getD (0+j) c4=a;rw[lQ,nQ,e];rfl);refine bw.run e ay hf hb hn ((h (eh (first++args++cap)) _ (by rw[jP];exact qK hle)).mono λx bQ af ⟨bD,h1,h2,h3,v,aN,bY⟩=>?_);subst h2;exact⟨.ok v,_,b7a h1 h3 an aN,bY⟩
end
def n4(rs:List (Nat×Option (Option Nat)))(r:AV):eR:=λx f af=>x= .ret/\∃v,tP af f rs=some v/\freeze af 0 1000 v=some r
def nw{P:Program}{b:b8}{K:Nat->List AV->AV->Prop}(hb:jb P b)(eg:vq P b K){g:Nat}{fn:bP}{body:bC}{aB:List AV}(r:AV)(hf:b.funcs.get g=some fn)(iC:fn.body=some body)
  (hn:(Nat.beq aB.length fn.ig&&Nat.ble aB.length fn.ntmps)=true) (an:cB (λr=>Nat.blt r.1 fn.ntmps) fn.results=true) {ai:Nat} (al:gI ai r=true) (hG:AV.eqb 1000 r r=true)
  (h:aa (b.aQ K) fn.ntmps body (eh aB) ⟨.nil,0⟩ (n4 fn.results r)) (bN:Nat):SpecEntry P (b.env []) bN g aB r:=by
 have hle:aB.length<=fn.ntmps:=by
  simp only[c7] at hn;exact eb hn.2
 refine JN (env:=b.aQ K) (m:=1000) (BS _ _) ⟨λg bG hg=>pF.zy hb.funcs g bG hg⟩ (λbN g aB r ak=>eg g aB r (EW ak) bN) hb.ext hb.vo hf iC hn al ((h _ (qK hle)).mono λx ai af ⟨f,h1,h2,v,h3,aN⟩=>?_) hG bN;subst h2;exact⟨.ok v,_,a0l h1 an h3,_,rfl,aN⟩
section
variable {b:b8}{K:Nat->List AV->AV->Prop}
def W.b7c{α:Type}{env:Env}{aJ:Option Nat}{D:List (Nat ⊕ (AV×List AV))}{n:Nat}{a:bC}{f:Nat->AV}{J:ag}{Q:eR}(L:α->List (Nat×AV))(az:α->ag->Prop)(h1:ch env aJ D n a f J (λx bD af=>x= .normal/\∃p,az p af/\sat (L p) bD))(h2:∀p g af,az p af->Q .normal (b4 (L p) g) af):ch env aJ D n a f J Q:=
 h1.mono λx bD af ⟨aF,p,aV,dp⟩=>by
  subst aF;rw[<-BX dp];exact h2 p bD af aV
end
structure ib(W W':Nat->Prop)(ah a1:ag):Prop where
 next:ah.next<=a1.next
 bK:∀c o,¬W c->ah.get c=some o->a1.get c=some o
 own:∀c,W' c->W c\/ah.next<=c/\c<a1.next
abbrev tQ:=Nat->(Nat->Prop)->ag->Prop
def Cw(fW:Nat)(fu:tQ):Prop:=∀i W ah a1,fu i W ah->(∀c o,c<fW\/W c->ah.get c=some o->a1.get c=some o)->ah.next<=a1.next->fu i W a1
section
attribute [local irreducible] cz ch dE fq bw
def tR(a b:List Nat):eqL a b=decide (a=b):=by
 by_cases h:a=b
 ·subst h;rw[tx,decide_eq_true I]
 ·rw[decide_eq_false h];cases e:eqL a b with
  |false=>rfl
  |true=>exact absurd ((rB a b).1 e) h
def xS(a b:List Nat):keyEq (.inl 1) (.s a) (.s b)=some (decide (a=b)):=by
 show some (eqL a b)=_;rw[tR]
namespace W
section
variable {cF:qR}{env:Env}{aJ:Option Nat}{D:List (Nat ⊕ (AV×List AV))}{n:Nat}{F:List (Nat×AV)}{z:Nat->AV}{J:ag}{Q:eR}{g:Option (Nat×Bool)}{ops:List aX}
def a0m{av:aH->Option AV}{R:jf}{x y:aH}{bU aU:Nat}{key jc:AV}{two:Bool}{es:List (AV×AV×Nat)}{r:Option AV}(hm:J.get bU=some (.map es aU))(h1:av x=some (.m (some bU)))(h2:av y=some key)(aC:keySelf R key=true)(hf:oy R key es=some r):opx 0 av J (.lookup R x y jc two)=some (.val (v2 two (r.getD jc) r.isSome) J):=by
 show(match av x,av y with|some x,some k=>(match cond (keySelf R k) (match x with
  | .m none=>some (v2 two jc false)
  | .m (some id)=>match J.get id with
   |some (.map es _)=>match oy R k es with|some (some v)=>some (v2 two v true)|some none=>some (v2 two jc false)|none=>none
   |_=>none
  |_=>none) none with|some v=>some (bH.val v J)|none=>none)|_,_=>none)=_
 rw[h1,h2];show(match cond (keySelf R key) (match J.get bU with|some (.map es _)=>(match oy R key es with|some (some v)=>some (v2 two v true)|some none=>some (v2 two jc false)|none=>none)|_=>none) none with|some v=>some (bH.val v J)|none=>none)=_;rw[aC,cond_true,hm];show(match(match oy R key es with|some (some v)=>some (v2 two v true)|some none=>some (v2 two jc false)|none=>none) with|some v=>some (bH.val v J)|none=>none)=_;rw[hf];cases r<;>rfl
def pK{d:Nat}{R:jf}{x y:aH}{bU aU:Nat}{key jc:AV}{two:Bool}{es:List (AV×AV×Nat)}{r:Option AV}(hm:J.get bU=some (.map es aU))(an:Nat.blt d n=true)(hw:wtL g n F=true)(h1:dJ env n F z x=some (.m (some bU)))(h2:dJ env n F z y=some key)(aC:keySelf R key=true)(hf:oy R key es=some r)
  (h:cz cF env aJ D n ops (b4 ((d,v2 two (r.getD jc) r.isSome)::F) z) J Q):cz cF env aJ D n (⟨some d,.lookup R x y jc two,g,[]⟩::ops) (b4 F z) J Q:=val an hw (a0m hm h1 h2 aC hf) h
end
end W
def Le(es:List (AV×AV×Nat))(aU:Nat)(key v:AV):Option (List (AV×AV×Nat))->AO
 |some dI=>.map dI aU
 |none=>.map (es++[(key,v,aU)]) (aU+1)
namespace W
section
variable {cF:qR}{env:Env}{aJ:Option Nat}{D:List (Nat ⊕ (AV×List AV))}{n:Nat}{F:List (Nat×AV)}{z:Nat->AV}{J:ag}{Q:eR}{g:Option (Nat×Bool)}{ops:List aX}
def mu{R:jf}{x y u:aH}{bU aU:Nat}{key v:AV}{t:Bool}{es:List (AV×AV×Nat)}{r:Option (List (AV×AV×Nat))}(hm:J.get bU=some (.map es aU))(hw:wtL g n F=true)(h1:dJ env n F z x=some (.m (some bU)))(h2:dJ env n F z y=some key)(h3:dJ env n F z u=some v)(aC:keyEq R key key=some t)(hu:kX R key v es=some r)
  (h:∀ah:ag,ah.next=J.next->ah.get bU=some (Le es aU key v r)->(∀i o,i≠bU->J.get i=some o->ah.get i=some o)->cz cF env aJ D n ops (b4 F z) ah Q):cz cF env aJ D n (⟨none,.ox R x y u,g,[]⟩::ops) (b4 F z) J Q:=by
 have ak:=λbV=>hX (bV:=bV) hm;refine qG (v:=c4) (af:=J.set bU (Le es aU key v r)) hw ?_ (h _ I (ak _).1 (ak _).2);show(match dJ env n F z x,dJ env n F z y,dJ env n F z u with
  |some (.m (some id)),some k,some v=>
   if Nat.blt id 0 then none else
   match J.get id with
   |some (.map es aU)=>match keyEq R k k with
    |none=>none
    |some _=>match kX R k v es with
    |some (some es)=>some (bH.val c4 (J.set id (.map es aU)))
    |some none=>some (bH.val c4 (J.set id (.map (es++[(k,v,aU)]) (aU+1))))
    |none=>none
   |_=>none
  |_,_,_=>none)=_
 rw[h1,h2,h3];show(if Nat.blt bU 0 then none else
   match J.get bU with
   |some (.map es aU)=>(match keyEq R key key with
    |none=>none
    |some _=>match kX R key v es with
    |some (some es)=>some (bH.val c4 (J.set bU (.map es aU)))
    |some none=>some (bH.val c4 (J.set bU (.map (es++[(key,v,aU)]) (aU+1))))
    |none=>none)
   |_=>none)=_
 rw[if_neg (by simp[Nat.blt,Nat.ble]),hm];simp only[aC,hu];cases r<;>rfl
def a0n{L:List (Nat×List AV)}(H:Has J L){d k:Nat}(hn:J.next=k)(an:Nat.blt d n=true)(hw:wtL g n F=true)
  (h:∀ah:ag,ah.next=k+1->Has ah L->ah.get k=some (.map [] 0)->(∀i o,J.get i=some o->ah.get i=some o)->cz cF env aJ D n ops (b4 ((d,.m (some k))::F) z) ah Q):cz cF env aJ D n (⟨some d,.mkMap,g,[]⟩::ops) (b4 F z) J Q:=by
 subst hn;have cH:∀i o,J.get i=some o->(J.push (.map [] 0)).get i=some o:=λi o ho=>by rw[ag.fy trivial _ (ag.cJ ho)];exact ho
 exact val (v:=.m (some J.next)) (af:=J.push (.map [] 0)) an hw I (h _ I (H.bK cH) (ag.ij _) cH)
end
end W
abbrev n5:=List (List Nat×Nat)
def k9:Nat->n5->List (AV×AV×Nat)
 |_,[]=>[]
 |i,p::l=>(.s p.1,aw p.2,i)::k9 (i+1) l
def cnt:n5->List Nat->Nat
 |[],_=>0
 |p::l,s=>if s=p.1 then p.2 else cnt l s
def n6:n5->List Nat->Bool
 |[],_=>false
 |p::l,s=>decide (s=p.1)||n6 l s
def setC:n5->List Nat->Nat->n5
 |[],s,v=>[(s,v)]
 |p::l,s,v=>if s=p.1 then(p.1,v)::l else p::setC l s v
def Q7:∀(l:n5) (s:List Nat) (v:Nat) (t:List Nat),cnt (setC l s v) t=if t=s then v else cnt l t
 |[],s,v,t=>rfl
 |p::l,s,v,t=>by
  unfold setC;by_cases h:s=p.1
  ·rw[if_pos h];unfold cnt;by_cases ht:t=s
   ·rw[if_pos ht,if_pos (ht.trans h)]
   ·rw[if_neg ht];have:¬t=p.1:=λe=>ht (e.trans h.symm);rw[if_neg this];show cnt l t=if t=p.1 then p.2 else cnt l t
    rw[if_neg this]
  ·rw[if_neg h];show(if t=p.1 then p.2 else cnt (setC l s v) t)=if t=s then v else(if t=p.1 then p.2 else cnt l t)
   rw[Q7 l s v t];by_cases ht:t=p.1
   ·rw[if_pos ht,if_pos ht,if_neg λe=>h (e.symm.trans ht)]
   ·rw[if_neg ht,if_neg ht]
def a0o(s:List Nat):∀(l:n5) (i:Nat),oy (.inl 1) (.s s) (k9 i l)=some (if n6 l s then some (aw (cnt l s)) else none)
 |[],i=>rfl
 |p::l,i=>by
  show(match keyEq (.inl 1) (.s s) (.s p.1) with|none=>none|some true=>some (some (aw p.2))|some false=>oy (.inl 1) (.s s) (k9 (i+1) l))=_;rw[xS];by_cases h:s=p.1
  ·rw[decide_eq_true h];show some (some (aw p.2))=some (if(decide (s=p.1)||n6 l s)=true then some (aw (if s=p.1 then p.2 else cnt l s)) else none);rw[decide_eq_true h,if_pos h];rfl
  ·rw[decide_eq_false h];show oy (.inl 1) (.s s) (k9 (i+1) l)=some (if(decide (s=p.1)||n6 l s)=true then some (aw (if s=p.1 then p.2 else cnt l s)) else none);rw[a0o s l (i+1),decide_eq_false h,if_neg h];rfl
def a0p{s:List Nat}:∀ {l:n5},n6 l s=false->cnt l s=0
 |[],_=>rfl
 |p::l,h=>by
  replace h:(decide (s=p.1)||n6 l s)=false:=h;rw[QG] at h;show(if s=p.1 then p.2 else cnt l s)=0;rw[if_neg (of_decide_eq_false h.1),a0p h.2]
def Q8(l:n5)(s:List Nat):∃r,oy (.inl 1) (.s s) (k9 0 l)=some r/\r.getD (aw 0)=aw (cnt l s):=by
 refine⟨_,a0o s l 0,?_⟩;cases h:n6 l s with
 |true=>rfl
 |false=>rw[a0p h];rfl
def a0q(s:List Nat)(v:Nat):∀(l:n5) (i:Nat),kX (.inl 1) (.s s) (aw v) (k9 i l)=some (if n6 l s then some (k9 i (setC l s v)) else none)
 |[],i=>rfl
 |p::l,i=>by
  show(match keyEq (.inl 1) (.s s) (.s p.1) with
   |none=>none
   |some true=>some (some ((.s s,aw v,i)::k9 (i+1) l))
   |some false=>(match kX (.inl 1) (.s s) (aw v) (k9 (i+1) l) with|none=>none|some none=>some none|some (some es)=>some (some ((.s p.1,aw p.2,i)::es))))=some (if(decide (s=p.1)||n6 l s)=true then some (k9 i (if s=p.1 then(p.1,v)::l else p::setC l s v)) else none)
  rw[xS];by_cases h:s=p.1
  ·rw[decide_eq_true h,if_pos h,← h];rfl
  ·rw[decide_eq_false h,if_neg h,a0q s v l (i+1)];cases n6 l s<;>rfl
def a0r{s:List Nat}{v:Nat}:∀ {l:n5},n6 l s=false->setC l s v=l++[(s,v)]
 |[],_=>rfl
 |p::l,h=>by
  replace h:(decide (s=p.1)||n6 l s)=false:=h;rw[QG] at h;show(if s=p.1 then(p.1,v)::l else p::setC l s v)=_;rw[if_neg (of_decide_eq_false h.1),a0r h.2];rfl
def a0s{s:List Nat}{v:Nat}:∀ {l:n5},n6 l s=true->(setC l s v).length=l.length
 |[],h=>by cases h
 |p::l,h=>by
  show(if s=p.1 then(p.1,v)::l else p::setC l s v).length=_;split
  ·rfl
  ·next ak=>
   replace h:(decide (s=p.1)||n6 l s)=true:=h;rw[decide_eq_false ak,IW] at h;rw[gS,a0s h];rfl
def a0t:∀(l:n5) (i:Nat) (p:List Nat×Nat),k9 i (l++[p])=k9 i l++[(.s p.1,aw p.2,i+l.length)]
 |[],i,p=>rfl
 |x::l,i,p=>by
  show _::k9 (i+1) (l++[p])=_;rw[a0t l (i+1) p];show _=(_::k9 (i+1) l)++[(_,_,i+(l.length+1))];rw[show i+(l.length+1)=i+1+l.length by omega];rfl
def nx(J:ag)(da:Nat)(β:List Nat->Nat):Prop:=∃l:n5,J.get da=some (.map (k9 0 l) l.length)/\∀s,cnt l s=β s
def a0u{l:n5}{s:List Nat}{v:Nat}:∃r,kX (.inl 1) (.s s) (aw v) (k9 0 l)=some r/\Le (k9 0 l) l.length (.s s) (aw v) r= .map (k9 0 (setC l s v)) (setC l s v).length:=by
 refine⟨_,a0q s v l 0,?_⟩;cases h:n6 l s with
 |true=>show AO.map (k9 0 (setC l s v)) l.length=_;rw[a0s h]
 |false=>
  show AO.map (k9 0 l++[(.s s,aw v,l.length)]) (l.length+1)=_;rw[a0r h,a0t,h5,lQ];rfl
section
abbrev bT(k:Nat):AV:=.p (some (k,0))
abbrev bs(o:Bool)(t:Tm):List AV:=[.b t.var,.s t.name,cy o t.cP]
def ny(o:Bool)(t:Tm):t.A o= .ad (bs o t):=by unfold Tm.A;rw[Tm.gJ]
def ib.grow{V:Nat->Prop}{J ah:ag}(h1:J.next<=ah.next)(h2:∀c o,J.get c=some o->ah.get c=some o):ib V V J ah:=⟨h1,λc o _ h=>h2 c o h,λc h=>.inl h⟩
def ib.trans{V dA kQ:Nat->Prop}{J ah a1:ag}(h:ib V dA J ah)(h':ib dA kQ ah a1):ib V kQ J a1:=by
 have a:=h.next;have c:=h'.next;refine⟨U,λi o hn hg=>h'.bK i o (λau=>?_) (h.bK i o hn hg),λi au=>?_⟩
 ·rcases h.own i au with h1|h1
  ·exact hn h1
  ·have:=ag.cJ hg;omega
 ·rcases h'.own i au with h1|h1
  ·rcases h.own i h1 with h2|h2
   ·exact .inl h2
   ·exact .inr U
  ·exact .inr U
structure a0v(S:Nat->(Nat->Prop)->ag->Prop):Prop where
 grow:∀i V ah a1,S i V ah->(∀c o,ah.get c=some o->a1.get c=some o)->ah.next<=a1.next->S i V a1
 lt:∀i V ah,S i V ah->∀c,V c->c<ah.next
mutual
def fTz(β:List Nat->Nat):Tm->List (List Nat)
 | .mk v n none=>if v=true/\β n=0 then[n] else[]
 | .mk v n (some l)=>(if v=true/\β n=0 then[n] else[])++fTs β l
def fTs(β:List Nat->Nat):List Tm->List (List Nat)
 |[]=>[]
 |t::l=>fTz β t++fTs β l
end
def a0w(β:List Nat->Nat):∀l,fTs β l=l.flatMap (fTz β)
 |[]=>by rw[fTs];rfl
 |t::l=>by rw[fTs,a0w β l,j4]
def b7d(β:List Nat->Nat)(t:Tm):fTz β t=(if t.var=true/\β t.name=0 then[t.name] else[])++t.args.flatMap (fTz β):=by
 obtain⟨v,n,a⟩:=t;cases a with
 |none=>rw[fTz];exact(fp _).symm
 |some l=>rw[fTz,a0w];rfl
def Lf{α β:Type}{f:α->List β}{L:List β}{l:List α}{i:Nat}{rest:List β}(h:L.drop i=l.flatMap f++rest){j:Nat}(aG:j<l.length):L.drop (i+((l.take j).flatMap f).length)=f l[j]++((l.drop (j+1)).flatMap f++rest):=by
 rw[<-ov,h];have e:l.flatMap f=(l.take j).flatMap f++(f l[j]++(l.drop (j+1)).flatMap f):=by
  conv=>lhs;rw[<-BR j l,zU aG]
  rw[xJ,j4]
 rw[e,jD,FU,jD]
def Lg{α β:Type}{f:α->List β}{l:List α}{j:Nat}(aG:j<l.length):((l.take (j+1)).flatMap f).length=((l.take j).flatMap f).length+(f l[j]).length:=by
 rw[lv aG,xJ,h5,j4,List.flatMap_nil,fp]
def vL(β:List Nat->Nat)(s:List Nat):Nat:=if β s=0 then 1 else 0
section
variable {b:b8}{K:Nat->List AV->AV->Prop}
def a0x(hh:bc (b.aQ K) zS Ca){S:Nat->(Nat->Prop)->ag->Prop}(cg:a0v S){β:List Nat->Nat}{L:List (List Nat)}{f_:Nat}{cap:List AV}
  (a0y:∀i V ah s,S i V ah->(β s=0->L[i]? =some s)->bw (b.aQ K) 0 (.f (.func f_) [] cap) [.s s] ah (λr a1=>r= .ok (.b true)/\∃dj,S (i+vL β s) dj a1/\ib V dj ah a1)):
  ∀(d:Nat) (t:Tm),t.dep<=d->t.ok->∀(i:Nat) (V:Nat->Prop) (J:ag) (rest:List (List Nat)),S i V J->L.drop i=fTz β t++rest→
   bw (b.aQ K) 0 (.f (.func zS) [] []) [.ad (bs true t),.f (.func f_) [] cap] J (λr ah=>r= .ok (.b true)/\∃dj,S (i+(fTz β t).length) dj ah/\ib V dj J ah)
 |0,t,an,_,_,_,_,_,_,_=>by rw[Tm.e0] at an;omega
 |d+1,t,an,jF,i,V,J,rest,a0z,hL=>by
  have ar:=a0x hh cg a0y d;have hlen:=jF.len;have F_:=jF.arg;have Q9:∀u∈t.args,u.dep<=d:=λu hu=>by have:=Tm.l9 hu;omega
  rw[b7d] at hL ⊢;obtain⟨v,aD,a⟩:=t;change ∀u∈a.getD [],u.dep<=d at Q9;change ∀u∈a.getD [],u.ok at F_;change(a.getD []).length<2^62 at hlen;change L.drop i=((if v=true/\β aD=0 then[aD] else[])++(a.getD []).flatMap (fTz β))++rest at hL;change bw _ _ _ _ _ λr ah=>r= .ok (.b true)/\∃dj,S (i+((if v=true/\β aD=0 then[aD] else[])++(a.getD []).flatMap (fTz β)).length) dj ah/\ib V dj J ah;refine W.code hh.e hh.p hh.f I I I I λz=>?_;have H:Has J []:=Has.nil;generalize aP:J.next=q;refine aO ?_;refine W.dK (c:=[.b v,.s aD,cy true a]) H aP I I I I I λah dQ H bM=>?_;have zw:=cg.grow _ _ _ ah a0z bM U;have a0A:ib V V J ah:=.grow U bM;have Q_:¬V q:=λh=>by have:=cg.lt _ _ _ a0z q h;omega
  refine aO ?_;rcases v with _|_
  ·refine aO ?_;obtain⟨xT,rfl⟩:∃x,x=ah:=⟨_,rfl⟩
   obtain⟨i1,dA,z4,sx,vM,z5,e6⟩:∃i1 dA,S i1 dA xT/\ib V dA J xT/\¬dA q/\L.drop i1=(a.getD []).flatMap (fTz β)++rest/\i1+((a.getD []).flatMap (fTz β)).length=i+((if false=true/\β aD=0 then[aD] else[])++(a.getD []).flatMap (fTz β)).length:=⟨i,V,zw,a0A,Q_,by simpa using hL,aT⟩
   have H:Has xT [(q,[.b false,.s aD,cy true a])]:=H;revert z4 sx vM z5 e6 H;generalize((if false=true/\β aD=0 then[aD] else[])++(a.getD []).flatMap (fTz β)).length=b7e;intro z4 sx vM z5 e6 H;have Ra:=H;refine aO ?_;refine W.len I I I lr ?_;refine aO ?_;show ch _ _ _ _ _ _ _ _;refine aa.each (a.getD []).length (λj f a1=>(∃dj,S (i1+(((a.getD []).take j).flatMap (fTz β)).length) dj a1/\ib dA dj xT a1)/\a1.get q=some (.cells [.b false,.s aD,cy true a])/\sat [(1,.f (.func f_) [] cap),(2,bT q),(17,cy true a)] f) hlen ⟨⟨dA,z4,.grow (b6 _) λ_ _ h=>h⟩,H.fK,b9⟩ I I (λj f a1 aG bz hi hm=>?_) (λf a1 bz hi=>?_)
   ·obtain⟨⟨dj,o0,kR⟩,q3,ak⟩:=bz;refine aa.norm [(1,.f (.func f_) [] cap),(2,bT q),(17,cy true a),(19,aw j),(18,aw (a.getD []).length)] ⟨ak.1,ak.2.1,ak.2.2.1,hi,hm,trivial⟩ λf=>?_;have H:Has a1 [(q,[.b false,.s aD,cy true a])]:=Has.nil.cons q3 aT;have hu:=c3 (l:=a.getD []) aG;refine aO ?_;refine W.jq I I I I (oR aG) ?_;refine W.gY (R:=some 3) I I I (Tm.conf true _) ?_;rw[ny];generalize g5:a1.next=hq;refine W.jr (c:=bs true (a.getD [])[j]) H g5 I I I I I I λca dC H ba=>?_;refine aO ?_;refine W.js I I I (ar _ (Q9 _ hu) (F_ _ hu) _ dj ca _ (cg.grow _ _ _ ca o0 ba U) (Lf z5 aG)) λr c_ ⟨e,z6,sr,tS⟩=>⟨_,e,?_⟩
    have Cx:c_.get q=some (.cells [.b false,.s aD,cy true a]):=tS.bK _ _ (λh=>by
     rcases kR.own q h with h|h
     ·exact vM h
     ·have:=ag.cJ (Ra.fK);omega) (ba _ _ q3)
    refine aO ?_;refine⟨rfl,rfl,⟨z6,by rw[Lg aG,← sU];exact sr,kR.trans ((ib.grow U ba).trans tS)⟩,Cx,b9⟩
   ·obtain⟨⟨dj,o0,kR⟩,q3,ak⟩:=bz;refine aa.norm [(1,.f (.func f_) [] cap),(2,bT q)] ⟨ak.1,ak.2.1,trivial⟩ λf=>?_;refine aO ?_;refine aa.ret ⟨rfl,rfl,dj,?_,sx.trans kR⟩;rw[so (b6 _)] at o0;rw[<-e6];exact o0
  ·refine aO ?_;have k_:((if true=true/\β aD=0 then[aD] else[]):List (List Nat)).length=vL β aD:=by
    unfold vL;by_cases h:β aD=0
    ·rw[if_pos ⟨rfl,h⟩,if_pos h];rfl
    ·rw[if_neg (λe=>h e.2),if_neg h];rfl
   refine W.js I I I (a0y i V ah aD zw λh0=>?_) λr xT ⟨e,dA,z4,sx⟩=>⟨_,e,?_⟩
   ·rw[if_pos ⟨rfl,h0⟩] at hL;have:=congrArg (λl=>l[0]?) hL;simpa using this
   have vM:¬dA q:=λh=>by
    rcases sx.own q h with h|h
    ·exact Q_ h
    ·omega
   have H:Has xT [(q,[.b true,.s aD,cy true a])]:=Has.nil.cons (sx.bK _ _ Q_ (H.fK)) aT;have sx:=a0A.trans sx;have z5:L.drop (i+vL β aD)=(a.getD []).flatMap (fTz β)++rest:=by
    rw[<-k_,← ov,hL,jD,FU]
   have e6:i+vL β aD+((a.getD []).flatMap (fTz β)).length=i+((if true=true/\β aD=0 then[aD] else[])++(a.getD []).flatMap (fTz β)).length:=by rw[h5,k_];omega
   revert z4 sx vM z5 e6 H;generalize((if true=true/\β aD=0 then[aD] else[])++(a.getD []).flatMap (fTz β)).length=b7e;generalize i+vL β aD=i1;intro z4 vM H sx z5 e6;have Ra:=H;refine aO ?_;refine W.len I I I lr ?_;refine aO ?_;show ch _ _ _ _ _ _ _ _;refine aa.each (a.getD []).length (λj f a1=>(∃dj,S (i1+(((a.getD []).take j).flatMap (fTz β)).length) dj a1/\ib dA dj xT a1)/\a1.get q=some (.cells [.b true,.s aD,cy true a])/\sat [(1,.f (.func f_) [] cap),(2,bT q),(17,cy true a)] f) hlen ⟨⟨dA,z4,.grow (b6 _) λ_ _ h=>h⟩,H.fK,b9⟩ I I (λj f a1 aG bz hi hm=>?_) (λf a1 bz hi=>?_)
   ·obtain⟨⟨dj,o0,kR⟩,q3,ak⟩:=bz;refine aa.norm [(1,.f (.func f_) [] cap),(2,bT q),(17,cy true a),(19,aw j),(18,aw (a.getD []).length)] ⟨ak.1,ak.2.1,ak.2.2.1,hi,hm,trivial⟩ λf=>?_;have H:Has a1 [(q,[.b true,.s aD,cy true a])]:=Has.nil.cons q3 aT;have hu:=c3 (l:=a.getD []) aG;refine aO ?_;refine W.jq I I I I (oR aG) ?_;refine W.gY (R:=some 3) I I I (Tm.conf true _) ?_;rw[ny];generalize g5:a1.next=hq;refine W.jr (c:=bs true (a.getD [])[j]) H g5 I I I I I I λca dC H ba=>?_;refine aO ?_;refine W.js I I I (ar _ (Q9 _ hu) (F_ _ hu) _ dj ca _ (cg.grow _ _ _ ca o0 ba U) (Lf z5 aG)) λr c_ ⟨e,z6,sr,tS⟩=>⟨_,e,?_⟩
    have Cx:c_.get q=some (.cells [.b true,.s aD,cy true a]):=tS.bK _ _ (λh=>by
     rcases kR.own q h with h|h
     ·exact vM h
     ·have:=ag.cJ (Ra.fK);omega) (ba _ _ q3)
    refine aO ?_;refine⟨rfl,rfl,⟨z6,by rw[Lg aG,← sU];exact sr,kR.trans ((ib.grow U ba).trans tS)⟩,Cx,b9⟩
   ·obtain⟨⟨dj,o0,kR⟩,q3,ak⟩:=bz;refine aa.norm [(1,.f (.func f_) [] cap),(2,bT q)] ⟨ak.1,ak.2.1,trivial⟩ λf=>?_;refine aO ?_;refine aa.ret ⟨rfl,rfl,dj,?_,sx.trans kR⟩;rw[so (b6 _)] at o0;rw[<-e6];exact o0
end
end
end
section
variable {env:Env}{D:List (Nat ⊕ (AV×List AV))}{n:Nat}{f:Nat->AV}{J:ag}{Q:eR}
def cO.un{c:bC}(h:cO env D D n c f J Q):ch env none D n c f J Q:=h
def cO.b7f{op:AOp}{d:Nat}{bx:AV}(an:Nat.blt d n=true)(h1:opx 0 (dc env n f) J op=some (.val bx J))(hfn:isFn bx=true)(h:Q .normal (cY f d bx) J):cO env D (.inr (bx,[])::D) n (.region [⟨some d,op,none,[]⟩,⟨none,.iP (.val (.t d)) [],none,[]⟩]) f J Q:=λai bE=>by
 refine fI.region (jR.val I (by rw[bE.av];exact h1) ?_);have h2:=bE.put bx an;refine df.one (x:=(.normal,⟨(ai.put (some d) bx).a5,.inr (bx,[])::D,false⟩,J)) (λF=>?_) ⟨_,⟨h2.get,rfl,rfl⟩,h⟩;rw[xa];have e:opx 0 (evalA env (ai.put (some d) bx).a5) J (.iP (.val (.t d)) [])=some (.iP bx []):=by
  rw[h2.av];show(match(cond (Nat.blt d n) (some (cY f d bx d)) none),mapO (dc env n (cY f d bx)) [] with|some bx,some args=>some (bH.iP bx args)|_,_=>none)=_;rw[an,J7];rfl
 have lh:=h2.ds;have nV:=h2.rc;simp only[e];show cond (true&&isFn bx) _ _=_;rw[hfn,lh,nV];rfl
end
def a0B{env:Env}{floor:Nat}{call:AV->List AV->ag->Option (cQ×ag)}{rc:Option AV}{dm:Bool}{o:aX}{ops:List aX}{ai:Fr}{J af:ag}{v:AV}(hw:wantedA o.guard ai.a5=true)(al:o.op.isRec=false)(ho:opx floor (evalA env ai.a5) J o.op=some (.val v af)):lb env floor call rc dm (o::ops) ai J=lb env floor call rc dm ops (ai.put o.dst v) af:=by
 have e:lb env floor call rc dm (o::ops) ai J=cond (wantedA o.guard ai.a5)
   (cond o.op.isRec
    (match rc with
     |some v=>lb env floor call rc dm ops (Fr.put ⟨ai.a5,ai.defers,true⟩ o.dst (cond ai.fh .eC v)) J
     |none=>none)
    (match rq o.op floor (evalA env ai.a5) J with
     |some (.val v J)=>lb env floor call rc dm ops (ai.put o.dst v) J
     |some (.call bx args)=>match call bx args J with
      |some (.ok v,J)=>lb env floor call rc dm ops (ai.put o.dst v) J
      |some (.err v,J)=>some (.panic v,ai,J)
      |none=>none
     |some (.iP bx args)=>cond (dm&&isFn bx) (lb env floor call rc dm ops (Fr.put ⟨ai.a5,.inr (bx,args)::ai.defers,ai.fh⟩ o.dst c4) J) none
     |some (.panic v)=>some (.panic v,ai,J)
     |some (.g3 _)=>none
     |none=>none))
   (lb env floor call rc dm ops (ai.put o.dst c4) J):=rfl
 rw[e,hw,cond_true,al,cond_false,w_,ho]
def nA(env:Env)(n:Nat)(ops:List aX)(f:Nat->AV)(J:ag)(Q:(Nat->AV)->ag->Prop):Prop:=∀ai,g6 [] n f ai->∃bQ bD af,lb env 0 (λ_ _ _=>none) (some .eC) false ops ai J=some (.normal,bQ,af)/\g6 [] n bD bQ/\Q bD af
section
variable {env:Env}{n:Nat}{f:Nat->AV}{J:ag}{Q:(Nat->AV)->ag->Prop}
def nA.nil(h:Q f J):nA env n [] f J Q:=λai bE=>⟨ai,f,J,rfl,bE,h⟩
def nA.val{d:Nat}{op:AOp}{v:AV}{af:ag}{ops:List aX}(an:Nat.blt d n=true)(al:op.isRec=false)(ho:opx 0 (dc env n f) J op=some (.val v af))(h:nA env n ops (cY f d v) af Q):nA env n (⟨some d,op,none,[]⟩::ops) f J Q:=λai bE=>by
 obtain⟨bQ,bD,bA,h1,h2,h3⟩:=h _ (bE.put v an);exact⟨bQ,bD,bA,(a0B I al (by rw[bE.av];exact ho)).trans h1,h2,h3⟩
def nA.qG{op:AOp}{v:AV}{af:ag}{ops:List aX}(al:op.isRec=false)(ho:opx 0 (dc env n f) J op=some (.val v af))(h:nA env n ops f af Q):nA env n (⟨none,op,none,[]⟩::ops) f J Q:=λai bE=>by
 obtain⟨bQ,bD,bA,h1,h2,h3⟩:=h _ bE;exact⟨bQ,bD,bA,(a0B I al (by rw[bE.av];exact ho)).trans h1,h2,h3⟩
end
section
variable {env:Env}{J:ag}{fn:Nat}{bG:bP}{body:bC}{first cap args:List AV}{az:cQ->ag->Prop}
def callD_region{g:Nat}{tT:List AV}{ops:List aX}{Q:(Nat->AV)->ag->Prop}(hf:env.funcs g=some bG)(hb:bG.body=some (.region ops))(al:bG.results=[])
  (hn:(Nat.beq tT.length bG.ig&&Nat.ble tT.length bG.ntmps)=true) (h:nA env bG.ntmps ops (eh tT) J Q):∃bD af,callD env 0 (.f (.func g) [] tT) [] .eC J=some (false,af)/\Q bD af:=by
 have hle:tT.length<=bG.ntmps:=by
  simp only[c7] at hn;exact eb hn.2
 obtain⟨bQ,bD,af,h1,h2,h3⟩:=h _ (qK hle);refine⟨bD,af,?_,h3⟩;show(match env.funcs g with
  |some fn=>match fn.body with
   |some body=>cond (Nat.beq ([]++[]++tT).length fn.ig&&Nat.ble ([]++[]++tT).length fn.ntmps)
    (match sZ env 0 .eC body (pe fn ([]++[]++tT)) J with
     |some (.normal,ai,J)=>(match ai.defers,resultsOf J ai.a5 fn.results with|[],some _=>some (ai.fh,J)|_,_=>none)
     |some (.ret,ai,J)=>(match ai.defers,resultsOf J ai.a5 fn.results with|[],some _=>some (ai.fh,J)|_,_=>none)
     |_=>none) none
   |none=>none
  |none=>none)=_
 simp only[hf,hb,qA,hn,cond_true];have e:sZ env 0 .eC (.region ops) (pe bG tT) J=some (.normal,bQ,af):=h1;simp only[e,h2.ds,al,h2.rc];rfl
def b7g{n:Nat}{f:Nat->AV}{ai:Fr}{ah:ag}{bx v:AV}(h1:g6 [.inr (bx,[])] n f ai)(ae:callD env 0 bx [] .eC J=some (false,ah))(an:cB (λr=>Nat.blt r.1 n) bG.results=true)(au:tP ah f bG.results=some v):endF env 0 bG (.ret,ai,J)=some [(.ok v,ah)]:=by
 show(match leave 0 (callD env 0) ai.defers none J with
  |none=>none
  |some (some v,J)=>some [(cQ.err v,J)]
  |some (none,J)=>match resultsOf J ai.a5 bG.results with
   |some v=>some [(.ok v,J)]
   |none=>none)=_
 have ao:leave 0 (callD env 0) ai.defers none J=some (none,ah):=by
  rw[h1.ds];show(match callD env 0 bx [] .eC J with|some (r,J)=>some ((cond r none none:Option AV),J)|none=>none)=_;rw[ae];rfl
 rw[ao];show(match resultsOf ah ai.a5 bG.results with|some v=>some [(cQ.ok v,ah)]|none=>none)=_;rw[Q6 ah h1 an,au]
def W.b7h{bx:AV}(e:env.ext fn=0)(ay:env.pure fn=false)(hf:env.funcs fn=some bG)(hb:bG.body=some body)
  (hn:(Nat.beq (first++args++cap).length bG.ig&&Nat.ble (first++args++cap).length bG.ntmps)=true) (an:cB (λr=>Nat.blt r.1 bG.ntmps) bG.results=true)
  (h:∀z,cO env [] [.inr (bx,[])] bG.ntmps body (b4 (W.oT 0 (first++args++cap)) z) J (λx bD af=>x= .ret/\∃ah,callD env 0 bx [] .eC af=some (false,ah)/\∃v,tP ah bD bG.results=some v/\az (.ok v) ah)):bw env 0 (.f (.func fn) first cap) args J az:=by
 have hle:(first++args++cap).length<=bG.ntmps:=by
  simp only[c7] at hn;exact eb hn.2
 have jP:b4 (W.oT 0 (first++args++cap)) (eh (first++args++cap))=eh (first++args++cap):=BX (W.Ka _ 0 λj a e=>by show(first++args++cap).getD (0+j) c4=a;rw[lQ,nQ,e];rfl);refine bw.run e ay hf hb hn ((h (eh (first++args++cap)) _ (by rw[jP];exact qK hle)).mono λx bQ af ⟨bD,h1,h2,ah,h3,v,aN,bY⟩=>?_);subst h2;exact⟨.ok v,_,b7g h1 h3 an aN,bY⟩
end
section
attribute [local irreducible] cz ch dE fq bw
section
def op_mu{av:aH->Option AV}{J:ag}{R:jf}{x y u:aH}{bU aU:Nat}{key v:AV}{t:Bool}{es:List (AV×AV×Nat)}{r:Option (List (AV×AV×Nat))}(hm:J.get bU=some (.map es aU))(h1:av x=some (.m (some bU)))(h2:av y=some key)(h3:av u=some v)(aC:keyEq R key key=some t)(hu:kX R key v es=some r):opx 0 av J (.ox R x y u)=some (.val c4 (J.set bU (Le es aU key v r))):=by
 show(match av x,av y,av u with
  |some (.m (some id)),some k,some v=>
   if Nat.blt id 0 then none else
   match J.get id with
   |some (.map es aU)=>match keyEq R k k with
    |none=>none
    |some _=>match kX R k v es with
    |some (some es)=>some (bH.val c4 (J.set id (.map es aU)))
    |some none=>some (bH.val c4 (J.set id (.map (es++[(k,v,aU)]) (aU+1))))
    |none=>none
   |_=>none
  |_,_,_=>none)=_
 rw[h1,h2,h3];show(if Nat.blt bU 0 then none else
   match J.get bU with
   |some (.map es aU)=>(match keyEq R key key with
    |none=>none
    |some _=>match kX R key v es with
    |some (some es)=>some (bH.val c4 (J.set bU (.map es aU)))
    |some none=>some (bH.val c4 (J.set bU (.map (es++[(key,v,aU)]) (aU+1))))
    |none=>none)
   |_=>none)=_
 rw[if_neg (by simp[Nat.blt,Nat.ble]),hm];simp only[aC,hu];cases r<;>rfl
def vN(β:List Nat->Nat)(aD:List Nat):List Nat->Nat:=λs=>if s=aD then β aD+1 else β s
abbrev mg(F:Fm):Prop:=F.op=8\/F.op=9
def q4(β:List Nat->Nat)(F:Fm):List Nat->Nat:=if mg F then vN β F.name else β
mutual
def fO(β:List Nat->Nat):Fm->List (List Nat)
 | .mk op n a none=>(a.getD []).flatMap (fTz β)
 | .mk op n a (some l)=>(a.getD []).flatMap (fTz β)++fOs (if op=8\/op=9 then vN β n else β) l
def fOs(β:List Nat->Nat):List Fm->List (List Nat)
 |[]=>[]
 |t::l=>fO β t++fOs β l
end
def a0C(β:List Nat->Nat):∀l,fOs β l=l.flatMap (fO β)
 |[]=>by rw[fOs];rfl
 |t::l=>by rw[fOs,a0C β l,j4]
def b7i(β:List Nat->Nat)(F:Fm):fO β F=F.args.flatMap (fTz β)++F.sub.flatMap (fO (q4 β F)):=by
 obtain⟨op,n,a,s⟩:=F;cases s with
 |none=>rw[fO];exact(fp _).symm
 |some l=>rw[fO,a0C];rfl
section
variable {b:b8}{K:Nat->List AV->AV->Prop}
def b7j{env:Env}(hf:env.funcs zR=some Fv){β:List Nat->Nat}{J:ag}{F:Fm}{ga jI da:Nat}(h1:J.get ga=some (.cells [.m (some da)]))(h2:J.get jI=some (.cells (bm F)))(hm:nx J da (vN β F.name))(hlt:β F.name<2^62):
  ∃ah,callD env 0 (.f (.func zR) [] [bT ga,bT jI]) [] .eC J=some (false,ah)/\nx ah da β/\ah.next=J.next/\∀c o,c≠da->J.get c=some o->ah.get c=some o:=by
 obtain⟨l,hg,ae⟩:=hm;obtain⟨r,aF,aV⟩:=Q8 l F.name;have VI:cnt l F.name=β F.name+1:=by rw[ae];unfold vN;rw[if_pos I]
 obtain⟨l0,dp,jA⟩:=a0u (l:=l) (s:=F.name) (v:=β F.name);have eG:=λbV=>hX (bV:=bV) hg;obtain⟨bD,ah,h3,aN⟩:=callD_region (env:=env) (J:=J) (tT:=[bT ga,bT jI]) (Q:=λ_ ah=>ah=J.set da (.map (k9 0 (setC l F.name (β F.name))) (setC l F.name (β F.name)).length)) hf I I I (by
  refine nA.val I I (lp _ _ I (l8 h1 I)) ?_;refine nA.val I I I ?_;refine nA.val I I (lp (.p (some (jI,0+1))) (.s F.name) I (l8 h2 I)) ?_;refine nA.val I I (W.a0m hg I I (by show(match keyEq (.inl 1) (.s F.name) (.s F.name) with|some _=>true|none=>false)=true;rw[xS]) aF) ?_;refine nA.val (v:=aw (β F.name)) (af:=J) I I ?_ ?_
  ·show(match binop .sub (v2 false (r.getD (aw 0)) r.isSome) (aw 1) with|some v=>some (bH.val v J)|none=>none)=_;have e:v2 false (r.getD (aw 0)) r.isSome=r.getD (aw 0):=rfl;rw[e,aV,VI,jS U U];rfl
  refine nA.qG I (op_mu hg I I I (xS _ _) dp) ?_;exact nA.nil (congrArg _ jA))
 subst aN;refine⟨_,h3,⟨_,(eG _).1,λs=>?_⟩,rfl,(eG _).2⟩;rw[Q7,ae];unfold vN;split
 ·next h=>rw[h]
 ·rfl
end
end
section
variable {b:b8}{K:Nat->List AV->AV->Prop}
def a0D(hh:bc (b.aQ K) Cm Fu)(F:Fm)(J:ag):bw (b.aQ K) 0 (.f (.func Cm) [] []) [.ad (bm F)] J (λr ah=>r= .ok (.b (decide (mg F)))/\J.next<=ah.next/\∀c o,J.get c=some o->ah.get c=some o):=by
 refine W.code hh.e hh.p hh.f I I I I λz=>?_;have H:Has J []:=Has.nil;generalize aP:J.next=q;refine aO ?_;refine W.dK (c:=bm F) H aP I I I I I λah dQ H bM=>?_;refine aO ?_;by_cases gG:F.op=8
 ·refine W.bin (v:=.b true) I I I I (by show some (AV.b (decide (Int.ofNat F.op=Int.ofNat 8)))=_;rw[gG];rfl) ?_;refine aO ?_;exact aa.ret ⟨rfl,by rw[decide_eq_true (show mg F from .inl gG)];rfl,U,bM⟩
 ·refine W.bin (v:=.b false) I I I I (by show some (AV.b (decide (Int.ofNat F.op=Int.ofNat 8)))=_;rw[decide_eq_false (λe=>gG (ot e))]) ?_;refine aO ?_;by_cases iF:F.op=9
  ·refine W.bin (v:=.b true) I I I I (by show some (AV.b (decide (Int.ofNat F.op=Int.ofNat 9)))=_;rw[iF];rfl) ?_;refine aO ?_;exact aa.ret ⟨rfl,by rw[decide_eq_true (show mg F from .inr iF)];rfl,U,bM⟩
  ·refine W.bin (v:=.b false) I I I I (by show some (AV.b (decide (Int.ofNat F.op=Int.ofNat 9)))=_;rw[decide_eq_false (λe=>iF (ot e))]) ?_;refine aO ?_;exact aa.ret ⟨rfl,by rw[decide_eq_false (show ¬mg F from λh=>h.elim gG iF)];rfl,U,bM⟩
structure xU(fu:tQ)(fW da ga sy:Nat)(iY:AV)(β:List Nat->Nat)(i:Nat)(V:Nat->Prop)(ah:ag):Prop where
 j:fu i V ah
 m:nx ah da β
 lt:∀c,V c->c<ah.next
 aD:¬V da
 fW:fW<=ah.next
 vO:ah.get ga=some (.cells [.m (some da)])
 nf:¬V ga
 vP:ah.get sy=some (.cells [iY])
 Ga:¬V sy
def nx.bK{J ah:ag}{da:Nat}{β:List Nat->Nat}(h:nx J da β)(k:∀o,J.get da=some o->ah.get da=some o):nx ah da β:=by
 obtain⟨l,h1,h2⟩:=h;exact⟨l,k _ h1,h2⟩
def nx.lt{J:ag}{da:Nat}{β:List Nat->Nat}(h:nx J da β):da<J.next:=by
 obtain⟨l,h1,h2⟩:=h;exact ag.cJ h1
def xU.b7k{fu:tQ}{fW da ga sy:Nat}{iY:AV}{β:List Nat->Nat}(cR:Cw fW fu):a0v (xU fu fW da ga sy iY β) where
 grow i V ah a1 h k n:=⟨cR _ _ _ _ h.j (λc o _=>k c o) n,h.m.bK λo=>k _ o,λc ae=>by have:=h.lt c ae;omega,h.aD,by have:=h.fW;omega,k _ _ h.vO,h.nf,k _ _ h.vP,h.Ga⟩
 lt i V ah h:=h.lt
def b7l(hh:bc (b.aQ K) vD Cb){fu:tQ}{fW da ga sy:Nat}{iY:AV}{β:List Nat->Nat}{L:List (List Nat)}(cR:Cw fW fu)
  (aI:∀i V c2 s,fW<=c2.next->L[i]? =some s->fu i V c2->bw (b.aQ K) 0 iY [.s s] c2 (λr ca=>r= .ok (.b true)/\∃dj,fu (i+1) dj ca/\ib V dj c2 ca))
  (l4:∃g,iY= .f (.yield g) [] []) (i:Nat) (V:Nat->Prop) (ah:ag) (s:List Nat) (cg:xU fu fW da ga sy iY β i V ah) (hL:β s=0->L[i]? =some s):
  bw (b.aQ K) 0 (.f (.func vD) [] [bT ga,bT sy]) [.s s] ah (λr a1=>r= .ok (.b true)/\∃dj,xU fu fW da ga sy iY β (i+vL β s) dj a1/\ib V dj ah a1):=by
 obtain⟨mX,rfl⟩:=l4;obtain⟨l,hg,ae⟩:=cg.m;obtain⟨r,aF,aV⟩:=Q8 l s;refine W.code hh.e hh.p hh.f I I I I λz=>?_;have b_:ga≠sy:=λe=>by have:=cg.vO;rw[e,cg.vP] at this;cases this
 have H:Has ah [(ga,[.m (some da)]),(sy,[.f (.yield mX) [] []])]:=(Has.nil.cons cg.vP aT).cons cg.vO (by simp;exact λe=>b_ e.symm);refine aO ?_;refine W.pK hg I I I I (by show(match keyEq (.inl 1) (.s s) (.s s) with|some _=>true|none=>false)=true;rw[xS]) aF ?_;rw[show v2 false (r.getD (AV.i .i64 0)) r.isSome=aw (β s) from by rw[<-ae,← aV];rfl];have IA:binop .gtr (aw (β s)) (aw 0)=some (.b (decide (0<β s))):=by
  show some (AV.b (decide (Int.ofNat 0<Int.ofNat (β s))))=_
  congr 2
  rw[decide_eq_decide];exact Dp
 by_cases h0:β s=0
 ·refine W.bin (v:=.b false) I I I I (IA.trans (by rw[h0];rfl)) ?_;refine aO ?_;refine W.js I I I (aI i V ah s cg.fW (hL h0) cg.j) λr a1 ⟨e,dj,tU,k7⟩=>⟨_,e,?_⟩
  refine aO ?_;have dQ:=k7.next;have own:∀c,c<ah.next->dj c->V c:=λc ae h=>by
   rcases k7.own c h with h|h
   ·exact h
   ·omega
  refine aa.ret ⟨rfl,rfl,dj,⟨?_,cg.m.bK λo=>k7.bK _ o cg.aD,λc ae=>?_,λh=>cg.aD (own _ cg.m.lt h),by have:=cg.fW;omega,k7.bK _ _ cg.nf cg.vO,λh=>cg.nf (own _ (ag.cJ cg.vO) h),k7.bK _ _ cg.Ga cg.vP,λh=>cg.Ga (own _ (ag.cJ cg.vP) h)⟩,k7⟩
  ·unfold vL;rw[if_pos h0];exact tU
  ·rcases k7.own c ae with h|h
   ·have:=cg.lt c h;omega
   ·exact h.2
 ·refine W.bin (v:=.b true) I I I I (IA.trans (by rw[decide_eq_true (Zu h0)])) ?_;refine aO ?_;refine aa.ret ⟨rfl,rfl,V,?_,.grow (b6 _) λ_ _ h=>h⟩;unfold vL;rw[if_neg h0];exact cg
end
structure vQ(da:Nat)(V dj:Nat->Prop)(J ah:ag):Prop where
 next:J.next<=ah.next
 bK:∀c o,¬V c->c≠da->J.get c=some o->ah.get c=some o
 own:∀c,dj c->V c\/J.next<=c/\c<ah.next
def vQ.trans{da:Nat}{V dA kQ:Nat->Prop}{J ah a1:ag}(h:vQ da V dA J ah)(h':vQ da dA kQ ah a1):vQ da V kQ J a1:=by
 have a:=h.next;have c:=h'.next;refine⟨U,λi o hn hb hg=>h'.bK i o (λau=>?_) hb (h.bK i o hn hb hg),λi au=>?_⟩
 ·rcases h.own i au with h1|h1
  ·exact hn h1
  ·have:=ag.cJ hg;omega
 ·rcases h'.own i au with h1|h1
  ·rcases h.own i h1 with h2|h2
   ·exact .inl h2
   ·exact .inr U
  ·exact .inr U
def ib.b{da:Nat}{V dj:Nat->Prop}{J ah:ag}(h:ib V dj J ah):vQ da V dj J ah:=⟨h.next,λc o hn _=>h.bK c o hn,h.own⟩
def Rb:bC:=match B_.body with|some (.seq _ (.seq _ (.seq _ r)))=>r|_=>.skip
def a0E:bC:=match B_.body with|some r=>r|_=>.skip
section
variable {b:b8}{K:Nat->List AV->AV->Prop}
def a0F(ht:bc (b.aQ K) zS Ca)(h1:bc (b.aQ K) vD Cb){fu:tQ}{fW da mX:Nat}{L:List (List Nat)}(cR:Cw fW fu)
  (aI:∀i V c2 s,fW<=c2.next->L[i]? =some s->fu i V c2->bw (b.aQ K) 0 (.f (.yield mX) [] []) [.s s] c2 (λr ca=>r= .ok (.b true)/\∃dj,fu (i+1) dj ca/\ib V dj c2 ca))
  {F:Fm} (jF:F.ok) {β:List Nat->Nat} {i:Nat} {V:Nat->Prop} {J:ag} {rest:List (List Nat)} {q:Nat} (aP:J.next=q) (tU:fu i V J) (hm:nx J da β) (hV:∀c,V c->c<J.next) (jX:¬V da) (Lh:fW<=J.next) (hL:L.drop i=F.args.flatMap (fTz β)++rest)
  {gy:List (Nat ⊕ (AV×List AV))} {Q:eR} {z:Nat->AV}
  (h:∀(f:Nat->AV) (ah:ag) (dj:Nat->Prop),xU fu fW da (q+1) (q+2) (.f (.yield mX) [] []) β (i+(F.args.flatMap (fTz β)).length) dj ah->ib V dj J ah->ah.get q=some (.cells (bm F))->¬dj q->sat [(3,bT q),(4,bT (q+1)),(5,bT (q+2))] f->cO (b.aQ K) [] gy 46 Rb f ah Q):
  cO (b.aQ K) [] gy 46 a0E (b4 (W.oT 0 [.ad (bm F),.m (some da),.f (.yield mX) [] []]) z) J Q:=by
 have H:Has J []:=Has.nil;refine cO.jT ?_;refine aO ?_;refine W.dK (c:=bm F) H aP I I I I I λc2 dQ H bM=>?_;refine aO ?_;refine W.dK (c:=[.m (some da)]) H dQ I I I I I λca dC H ba=>?_;refine aO ?_;refine W.dK (c:=[.f (.yield mX) [] []]) H dC I I I I I λc_ fY H bj=>?_;refine aO ?_;refine⟨rfl,cO.jT ?_⟩;refine aO ?_;refine⟨rfl,cO.jT ?_⟩;refine aO ?_;refine W.len I I I lr ?_;refine aO ?_;show ch _ _ _ _ _ _ _ _;have cg:=xU.b7k (fW:=fW) (da:=da) (ga:=q+1) (sy:=q+2) (iY:=.f (.yield mX) [] []) (β:=β) cR;have cq:∀c o,J.get c=some o->c_.get c=some o:=λc o h=>bj _ _ (ba _ _ (bM _ _ h));have Li:∀c,q<=c->¬V c:=λc h1 h2=>by have:=hV c h2;omega
 have pE:xU fu fW da (q+1) (q+2) (.f (.yield mX) [] []) β i V c_:=⟨cR _ _ _ _ tU (λc o _=>cq c o) U,hm.bK λo=>cq _ o,λc ae=>by have:=hV c ae;omega,jX,U,H.n0,Li _ U,H.fK,Li _ U⟩
 have PE:c_.get q=some (.cells (bm F)):=H.B7;have b7m:ib V V J c_:=.grow U cq;have F_:=jF.arg;have hlen:=jF.B1;refine aa.each F.args.length (λj f a1=>(∃dj,xU fu fW da (q+1) (q+2) (.f (.yield mX) [] []) β (i+((F.args.take j).flatMap (fTz β)).length) dj a1/\ib V dj c_ a1)/\a1.get q=some (.cells (bm F))/\sat [(3,bT q),(4,bT (q+1)),(5,bT (q+2)),(7,.f (.func vD) [] [bT (q+1),bT (q+2)]),(14,cy true F.cP)] f) hlen ⟨⟨V,pE,.grow (b6 _) λ_ _ h=>h⟩,PE,b9⟩ I I (λj f a1 aG bz hi hm=>?_) (λf a1 bz hi=>?_)
 ·obtain⟨⟨dj,o0,kR⟩,q3,ak⟩:=bz;refine aa.norm [(3,bT q),(4,bT (q+1)),(5,bT (q+2)),(7,.f (.func vD) [] [bT (q+1),bT (q+2)]),(14,cy true F.cP),(16,aw j),(15,aw F.args.length)] ⟨ak.1,ak.2.1,ak.2.2.1,ak.2.2.2.1,ak.2.2.2.2.1,hi,hm,trivial⟩ λf=>?_;have H:Has a1 [(q,bm F)]:=Has.nil.cons q3 aT;have hu:=c3 (l:=F.args) aG;refine aO ?_;refine W.jq I I I I (oR aG) ?_;refine W.gY (R:=some 3) I I I (Tm.conf true _) ?_;rw[ny];generalize g5:a1.next=hq;refine W.jr (c:=bs true (F.args)[j]) H g5 I I I I I I λca dC H ba=>?_;refine aO ?_;refine W.js I I I (a0x ht cg (λi V ah s oE lN=>b7l h1 cR aI ⟨_,rfl⟩ i V ah s oE lN) _ _ (b6 _) (F_ _ hu) _ dj ca _ (cg.grow _ _ _ ca o0 ba U) (Lf hL aG)) λr b7n ⟨e,z6,sr,tS⟩=>⟨_,e,?_⟩
  have Cx:b7n.get q=some (.cells (bm F)):=tS.bK _ _ (λh=>by
   rcases kR.own q h with h|h
   ·exact Li q (b6 _) h
   ·omega) (ba _ _ q3)
  refine aO ?_;refine⟨rfl,rfl,⟨z6,by rw[Lg aG,← sU];exact sr,kR.trans ((ib.grow U ba).trans tS)⟩,Cx,b9⟩
 ·obtain⟨⟨dj,o0,kR⟩,q3,ak⟩:=bz;rw[so (b6 _)] at o0;refine⟨rfl,h _ a1 dj o0 (b7m.trans kR) q3 (λh=>?_) ⟨?_,?_,?_,trivial⟩⟩
  ·rcases kR.own q h with h|h
   ·exact Li q (b6 _) h
   ·omega
  ·show cY f 17 _ 3=_;rw[E9 eI];exact ak.1
  ·show cY f 17 _ 4=_;rw[E9 eI];exact ak.2.1
  ·show cY f 17 _ 5=_;rw[E9 eI];exact ak.2.2.1
def b7o:bC:=match Rb with| .seq _ r=>r|_=>.skip
def Rc(fu:tQ)(da:Nat)(β:List Nat->Nat)(n:Nat)(V:Nat->Prop)(J:ag)(r:cQ)(ah:ag):Prop:=r= .ok (.b true)/\∃dj,fu n dj ah/\nx ah da β/\(∀c,dj c->c<ah.next)/\¬dj da/\vQ da V dj J ah
def a0G{fu:tQ}{fW da mX:Nat}{L:List (List Nat)}(cR:Cw fW fu)(Lj:fW<=da)
  {F:Fm} (jF:F.ok) {β:List Nat->Nat} (ar:∀G∈F.sub,∀(i:Nat) (V:Nat->Prop) (J:ag) (rest:List (List Nat)),fu i V J->nx J da β->(∀c,V c->c<J.next)->¬V da->fW<=J.next->L.drop i=fO β G++rest->bw (b.aQ K) 0 (.f (.func zQ) [] []) [.ad (bm G),.m (some da),.f (.yield mX) [] []] J (Rc fu da β (i+(fO β G).length) V J))
  {D:List (Nat ⊕ (AV×List AV))} {i:Nat} {V:Nat->Prop} {ah:ag} {rest:List (List Nat)} {q:Nat} {f:Nat->AV} (tU:fu i V ah) (hm:nx ah da β) (hV:∀c,V c->c<ah.next) (jX:¬V da) (Lh:fW<=ah.next) (zm:da<q) (aP:ah.get q=some (.cells (bm F))) (vM:ah.get (q+1)=some (.cells [.m (some da)])) (mE:ah.get (q+2)=some (.cells [.f (.yield mX) [] []])) (hn:∀c,q<=c->c<q+3->¬V c)
  (hL:L.drop i=F.sub.flatMap (fO β)++rest) (ak:sat [(3,bT q),(4,bT (q+1)),(5,bT (q+2))] f):
  ch (b.aQ K) none D 46 b7o f ah (λx bD a1=>x= .ret/\bD 6= .b true/\∃dj,fu (i+(F.sub.flatMap (fO β)).length) dj a1/\nx a1 da β/\(∀c,dj c->c<a1.next)/\¬dj da/\vQ da V dj ah a1):=by
 refine aa.norm _ ak λf=>?_;have H:Has ah [(q,bm F)]:=Has.nil.cons aP aT;have qw:=ag.cJ mE;have hlen:=jF.JZ;refine aO ?_;refine W.len I I I qN ?_;refine aO ?_;show ch _ _ _ _ _ _ _ _;refine aa.each F.sub.length (λj f a1=>(∃dj,fu (i+((F.sub.take j).flatMap (fO β)).length) dj a1/\nx a1 da β/\(∀c,dj c->c<a1.next)/\¬dj da/\vQ da V dj ah a1)/\sat [(3,bT q),(4,bT (q+1)),(5,bT (q+2)),(34,fa true F.d_)] f) hlen ⟨⟨V,tU,hm,hV,jX,b6 _,λ_ _ _ _ h=>h,λ_ h=>.inl h⟩,b9⟩ I I (λj f a1 aG bz hi hm=>?_) (λf a1 bz hi=>?_)
 ·obtain⟨⟨dj,Lk,Re,Rf,Rg,kR⟩,ak⟩:=bz;refine aa.norm [(3,bT q),(4,bT (q+1)),(5,bT (q+2)),(34,fa true F.d_),(36,aw j),(35,aw F.sub.length)] ⟨ak.1,ak.2.1,ak.2.2.1,ak.2.2.2.1,hi,hm,trivial⟩ λf=>?_;have hu:=c3 (l:=F.sub) aG;have H:Has a1 [(q+1,[.m (some da)]),(q+2,[.f (.yield mX) [] []])]:=(Has.nil.cons (kR.bK _ _ (hn _ U U) U mE) aT).cons (kR.bK _ _ (hn _ U U) U vM) aT;refine aO ?_;refine W.jq I I I I (tB aG) ?_;refine W.gY (R:=some 4) I I I (Fm.conf true _) ?_;rw[mf];generalize g5:a1.next=hq;refine W.jr (c:=bm (F.sub)[j]) H g5 I I I I I I λca dC H ba=>?_;refine aO ?_;have fi:=kR.next;refine W.js I I I (ar _ hu _ dj ca _ (cR _ _ _ _ Lk (λc o _=>ba c o) U) (Re.bK λo=>ba _ o) (λc ae=>by have:=Rf c ae;omega) Rg U (Lf hL aG)) λr c_ ⟨e,z6,b7p,tm,b7q,lM,tS⟩=>⟨_,e,?_⟩
  refine aO ?_;refine⟨rfl,rfl,⟨z6,by rw[Lg aG,← sU];exact b7p,tm,b7q,lM,kR.trans ((ib.grow U ba).b.trans tS)⟩,b9⟩
 ·obtain⟨⟨dj,Lk,Re,Rf,Rg,kR⟩,ak⟩:=bz;rw[so (b6 _)] at Lk;refine aa.norm [(3,bT q)] ⟨ak.1,trivial⟩ λf=>?_;refine aO ?_;exact aa.ret ⟨rfl,rfl,dj,Lk,Re,Rf,Rg,kR⟩
def cO.cl{env:Env}{D gy:List (Nat ⊕ (AV×List AV))}{n:Nat}{f:Nat->AV}{J:ag}{Q:eR}{o:aH}{a c:bC}(ho:dc env n f o=some (.b true))(h:cO env D gy n a f J Q):cO env D gy n (.cond o a c) f J Q:=λai bE=>fI.cl (t:=true) (by rw[bE.av];exact ho) (λ_=>h ai bE) (λe=>by cases e)
def a0H(hh:bc (b.aQ K) zQ B_)(ht:bc (b.aQ K) zS Ca)(h1:bc (b.aQ K) vD Cb)(BI:(b.aQ K).funcs zR=some Fv)(aP:bc (b.aQ K) Cm Fu){fu:tQ}{fW da mX:Nat}{L:List (List Nat)}(cR:Cw fW fu)(Lj:fW<=da)
  (aI:∀i V c2 s,fW<=c2.next->L[i]? =some s->fu i V c2->bw (b.aQ K) 0 (.f (.yield mX) [] []) [.s s] c2 (λr ca=>r= .ok (.b true)/\∃dj,fu (i+1) dj ca/\ib V dj c2 ca)):
  ∀(d:Nat) (F:Fm),F.dep<=d->F.ok->∀(β:List Nat->Nat),(∀s,β s+F.dep<=2^20)->∀(i:Nat) (V:Nat->Prop) (J:ag) (rest:List (List Nat)),fu i V J->nx J da β->(∀c,V c->c<J.next)->¬V da->fW<=J.next->L.drop i=fO β F++rest→
   bw (b.aQ K) 0 (.f (.func zQ) [] []) [.ad (bm F),.m (some da),.f (.yield mX) [] []] J (Rc fu da β (i+(fO β F).length) V J)
 |0,F,an,_,_,_,_,_,_,_,_,_,_,_,_,_=>by rw[Fm.e0] at an;omega
 |d+1,F,an,jF,β,pU,i,V,J,rest,tU,hm,hV,jX,Lh,hL=>by
  have b7r:∀s,q4 β F s<=β s+1:=λs=>by
   unfold q4 vN;split
   ·show(if s=F.name then β F.name+1 else β s)<=β s+1;split
    ·next h=>rw[h];omega
    ·omega
   ·omega
  have ar:∀G∈F.sub,∀(i:Nat) (V:Nat->Prop) (J:ag) (rest:List (List Nat)),fu i V J->nx J da (q4 β F)->(∀c,V c->c<J.next)->¬V da->fW<=J.next->L.drop i=fO (q4 β F) G++rest->bw (b.aQ K) 0 (.f (.func zQ) [] []) [.ad (bm G),.m (some da),.f (.yield mX) [] []] J (Rc fu da (q4 β F) (i+(fO (q4 β F) G).length) V J):=λG cc i V J rest=>by
   have FY:=Fm.pH cc;exact a0H hh ht h1 BI aP cR Lj aI d G U (jF.vh G cc) _ (λs=>by have:=pU s;have:=b7r s;omega) i V J rest
  rw[b7i] at hL ⊢;rw[jD] at hL;generalize JJ:J.next=q;have zm:da<q:=by have:=hm.lt;omega
  have Rh:L.drop (i+(F.args.flatMap (fTz β)).length)=F.sub.flatMap (fO (q4 β F))++rest:=by rw[<-ov,hL,FU]
  have Ri:i+(F.args.flatMap (fTz β)).length+(F.sub.flatMap (fO (q4 β F))).length=i+(F.args.flatMap (fTz β)++F.sub.flatMap (fO (q4 β F))).length:=by rw[h5];omega
  by_cases cu:mg F
  ·refine W.b7h (bx:=.f (.func zR) [] [bT (q+1),bT q]) hh.e hh.p hh.f I I I λz=>?_;refine a0F ht h1 cR aI jF JJ tU hm hV jX Lh hL λf ah dA cg k7 z7 Cy ak=>?_;refine cO.xu (cO.jT ?_);refine aa.norm _ ak λf=>?_;have H:Has ah [(q,bm F)]:=Has.nil.cons z7 aT;refine aO ?_;show cz _ _ _ _ _ _ (b4 ((25,.ad (bm F))::_) f) _ _;refine W.js I I I (a0D aP F ah) λr ca ⟨e,dC,ba⟩=>⟨_,e,?_⟩
   rw[decide_eq_true cu];refine aO ?_;refine⟨rfl,cO.cl I (cO.jT ?_)⟩;have H:Has ca [(q,bm F),(q+1,[.m (some da)])]:=(Has.nil.cons (ba _ _ cg.vO) aT).cons (ba _ _ z7) aT;obtain⟨l,hg,ae⟩:=cg.m.bK λo=>ba _ o;obtain⟨Ll,aF,aV⟩:=Q8 l F.name;obtain⟨l0,dp,jA⟩:=a0u (l:=l) (s:=F.name) (v:=β F.name+1);refine aO ?_;refine W.pK hg I I I I (by show(match keyEq (.inl 1) (.s F.name) (.s F.name) with|some _=>true|none=>false)=true;rw[xS]) aF ?_;rw[show v2 false (Ll.getD (AV.i .i64 0)) Ll.isSome=aw (β F.name) from by rw[<-ae,← aV];rfl];refine W.bin (v:=aw (β F.name+1)) I I I I (by have:=pU F.name;exact ir (a:=β F.name) (b:=1) U) ?_;refine W.mu hg I I I I (xS _ _) dp λc_ fY vi bj=>?_;refine aO ?_;refine⟨rfl,cO.b7f I I I ⟨rfl,?_⟩⟩;have z8:∀c,q<=c->c≠da:=λc ae=>by omega
   have cq:∀c o,c≠da->ah.get c=some o->c_.get c=some o:=λc o h ho=>bj _ _ h (ba _ _ ho);have Gb:∀c,q<=c->c<q+3->¬dA c:=λc oE lN au=>by
    by_cases aF:c=q
    ·subst aF;exact Cy au
    ·by_cases aV:c=q+1
     ·subst aV;exact cg.nf au
     ·have:c=q+2:=by omega
      subst this;exact cg.Ga au
   have kH:q4 β F=vN β F.name:=if_pos cu;have gX:∀c,c<fW\/dA c->c≠da:=λc ae e=>by
    subst e;rcases ae with h|h
    ·omega
    ·exact cg.aD h
   have tw:=ag.cJ (ba _ _ cg.vP);refine(a0G cR Lj jF ar (V:=dA) (ah:=c_) (q:=q) (cR _ _ _ _ cg.j (λc o ae=>cq c o (gX c ae)) U) ⟨_,vi.trans (congrArg some jA),λs=>by rw[Q7,kH,ae];rfl⟩ (λc ae=>by have:=cg.lt c ae;omega) cg.aD (by have:=cg.fW;omega) zm (cq _ _ (z8 _ U) z7) (cq _ _ (z8 _ U) cg.vO) (cq _ _ (z8 _ U) cg.vP) Gb Rh b9).mono λx bD a1 ⟨aF,aV,kQ,Cz,qE,tV,fk,CA⟩=>?_;rw[kH] at qE;obtain⟨gz,oI,Pe,oM,CB⟩:=b7j BI (CA.bK _ _ (Gb _ U U) (z8 _ U) (cq _ _ (z8 _ U) cg.vO)) (CA.bK _ _ (Gb _ U U) (z8 _ U) (cq _ _ (z8 _ U) z7)) qE (by have:=pU F.name;omega);refine⟨aF,gz,oI,_,mW (k8 aV),rfl,kQ,?_,Pe,λc ae=>by rw[oM];exact tV c ae,fk,?_⟩
   ·rw[<-Ri];exact cR _ _ _ _ Cz (λc o ae=>CB c o λe=>by
     subst e;rcases ae with h|h
     ·omega
     ·exact fk h) U
   ·refine(k7.b.trans ⟨U,λc o _ h ho=>cq c o h ho,λc h=>.inl h⟩:vQ da V dA J c_).trans (CA.trans ⟨U,λc o _ h ho=>CB c o h ho,λc h=>.inl h⟩)
  ·refine W.code hh.e hh.p hh.f I I I I λz=>?_;refine cO.un (c:=a0E) ?_;refine a0F ht h1 cR aI jF JJ tU hm hV jX Lh hL λf ah dA cg k7 z7 Cy ak=>?_;refine cO.plain (c:=Rb) ?_;refine aa.norm _ ak λf=>?_;have H:Has ah [(q,bm F)]:=Has.nil.cons z7 aT;have kH:q4 β F=β:=if_neg cu;rw[kH] at Rh Ri ⊢ ar;refine aO ?_;show cz _ _ _ _ _ _ (b4 ((25,.ad (bm F))::_) f) _ _;refine W.js I I I (a0D aP F ah) λr ca ⟨e,dC,ba⟩=>⟨_,e,?_⟩
   rw[decide_eq_false cu];have Gb:∀c,q<=c->c<q+3->¬dA c:=λc oE lN au=>by
    by_cases aF:c=q
    ·subst aF;exact Cy au
    ·by_cases aV:c=q+1
     ·subst aV;exact cg.nf au
     ·have:c=q+2:=by omega
      subst this;exact cg.Ga au
   refine W.nil ?_;refine aa.cl I (λh=>by cases h) λ_=>?_;refine aa.skip ?_;have tw:=ag.cJ (ba _ _ cg.vP);refine(a0G cR Lj jF ar (V:=dA) (ah:=ca) (q:=q) (cR _ _ _ _ cg.j (λc o ae=>ba c o) dC) (cg.m.bK λo=>ba _ o) (λc ae=>by have:=cg.lt c ae;omega) cg.aD (by have:=cg.fW;omega) zm (ba _ _ z7) (ba _ _ cg.vO) (ba _ _ cg.vP) Gb Rh b9).mono λx bD a1 ⟨aF,aV,kQ,Cz,qE,tV,fk,CA⟩=>?_;refine⟨aF,congrArg cQ.ok aV,kQ,?_,qE,tV,fk,(k7.b.trans (ib.grow dC ba).b).trans CA⟩;rw[<-Ri];exact Cz
end
end
def nm4:Nat->List Nat
 |0=>[63,120]
 |i+1=>[120+i]
def dD(i:Nat):AV:=.s (nm4 i)
def Rj:∀ {a c:Nat},nm4 a=nm4 c->a=c
 |0,0,_=>rfl
 |0,c+1,h=>by simp[nm4] at h
 |a+1,0,h=>by simp[nm4] at h
 |a+1,c+1,h=>by simp only[nm4,rk,and_true] at h;omega
def a0I(a b:Nat):keyEq (.inl 1) (dD a) (dD b)=some (decide (a=b)):=by
 show keyEq (.inl 1) (.s (nm4 a)) (.s (nm4 b))=_;rw[xS];by_cases h:a=b
 ·rw[decide_eq_true h,decide_eq_true (congrArg nm4 h)]
 ·rw[decide_eq_false h,decide_eq_false λe=>h (Rj e)]
def b7s{env:Env}(hh:bc env pP zJ){W:Nat->Prop}{B bU dK:Nat}{a7:List Nat}(dH:List Nat->ag->Prop)(bz:∀c J af,dH c J->a0c J af->dH c af)(iY:AV)
  (aI:∀k c J,B<=J.next->c.length<a7.length->dH c J->bw env 0 iY [dD k] J (λr af=>r= .ok (.b true)/\dH (c++[k]) af/\Cu B W J af)) (J:ag) (eu:B<=J.next) (Q2:bU<B) (z0:¬W bU)
  (hm:J.get bU=some (.map (setE dD 0 a7) a7.length)) (iK:J.get dK=some (.cells [.m (some bU)])) (h0:dH [] J):
  bw env 0 (.f (.func pP) [] [.p (some (dK,0))]) [iY] J (λr af=>r= .ok (.a6 [])/\∃c,c.Perm a7/\dH c af/\J.next<=af.next/\∀i o,i<B->¬W i->J.get i=some o->af.get i=some o):=by
 refine bw.pI hh.e hh.p hh.f I I I ?_;refine aa.seq (aa.region ?_);refine ab.a0 (v:=.m (some bU)) iK I I I I ?_;generalize aC:J.next=k at eu;refine ab.Z_ k aC hm I I λbu dQ jm bM=>?_;refine ab.nil (aa.block ?_);refine aa.loop (λm f ah=>k+1<=ah.next/\∃seen c,m=(gZ seen 0 a7).length/\(c++(gZ seen 0 a7).map Prod.fst).Perm a7/\ah.get k=some (.mapIter (some bU) a7.length seen a7.length)/\dH c ah/\(∀i o,i<B->¬W i->J.get i=some o->ah.get i=some o)∧
  sat [(0,iY),(5,.p (some (k,0)))] f) ?_ (gZ [] 0 a7).length ⟨U,[],[],rfl,by rw[Q1];exact .refl _,jm,bz _ _ _ h0 ⟨U,λi o _ ho=>bM i o ho⟩,λi o _ _ ho=>bM i o ho,b9⟩
 clear jm dQ bM h0;intro m g ah ⟨hn,seen,c,rM,qH,jm,F6,hold,hL⟩;refine aa.norm _ hL λg=>?_;clear hL;have pg:=hold bU _ Q2 z0 hm;refine aa.seq (aa.region ?_);refine ab.a0a jm pg I I (λzf=>?_) (λp ay bA dC F7 ba=>?_)
 ·refine ab.go I I I I ?_;refine ab.nil (aa.seq ?_);refine aa.cl I (λh=>by cases h) (λ_=>?_);refine aa.exit ?_;rw[zf,List.map_nil,fp] at qH;exact⟨.inr I,rfl,c,qH,F6,U,hold⟩
 ·refine ab.go I I I I ?_;refine ab.nil (aa.seq ?_);refine aa.cl I (λ_=>?_) (λh=>by cases h);have tN:bU≠k:=by omega
  have qE:=ba _ _ tN pg;refine aa.skip (aa.block (aa.seq (aa.region ?_)));refine ab.a0b ay F7 qE I I ?_;refine ab.go I I I I ?_;refine ab.go I I I I ?_;refine ab.nil (aa.seq (aa.region ?_));refine ab.go I I I I ?_;refine ab.go I I I I ?_;have lT:=K_ seen a7 0 p ay;have hlen:=qH.length_eq;have Q3:=lT.length_eq;rw[h5,cb] at hlen;rw[gS] at Q3;have zV:dH c bA:=bz _ _ _ F6 ⟨U,λi o b_ ho=>ba i o (λe=>by subst e;rw[jm] at ho;cases ho;exact b_ _ _ _ _ I) ho⟩;refine ab.dW I I I (aI p.1 c bA U U zV) λr lx ⟨jA,F8,jW⟩=>⟨_,jA,?_⟩
  refine ab.go I I I I ?_;refine ab.nil (aa.cl I (λh=>by cases h) (λ_=>?_));have hM:=jW.next;refine aa.skip ⟨(gZ (seen++[p.2]) 0 a7).length,U,U,seen++[p.2],c++[p.1],rfl,?_,jW.it _ _ _ _ _ F7,F8,λi o hi hw ho=>jW.old i o hi hw (ba i o U (hold i o hi hw ho)),b9⟩;refine List.Perm.trans ?_ qH;rw[jD];exact(lT.map Prod.fst).append_left c
def b7t{env:Env}(hh:bc env KR Qp)(bU:Nat)(J:ag)(k:Nat)(aC:J.next=k):bw env 0 (.f (.func KR) [] []) [.m (some bU)] J (λr af=>r= .ok (.f (.func pP) [] [.p (some (k,0))])/\af.next=k+1/\af.get k=some (.cells [.m (some bU)])/\∀i o,J.get i=some o->af.get i=some o):=by
 refine bw.code hh.e hh.p hh.f I I I I ?_;refine aa.seq (aa.region (ab.box (v:=.m (some bU)) (c:=[.m (some bU)]) k aC I I I I I λah hn h1 bM=>?_));refine eo ?_;exact aa.ret ⟨rfl,rfl,hn,h1,bM⟩
def cO.b7u{env:Env}{D:List (Nat ⊕ (AV×List AV))}{n:Nat}{f:Nat->AV}{J:ag}{Q:eR}(ik:bc env pP zJ){jG:aH}{p:Nat}{ep b:bC}{bU dK:Nat}{a7:List Nat}(W:Nat->Prop)(S:List Nat->ag->Prop)(k:Nat)(aC:J.next=k)
  (jQ:dc env n f jG=some (.f (.func pP) [] [.p (some (dK,0))])) (ay:Nat.blt p n=true) (hm:J.get bU=some (.map (setE dD 0 a7) a7.length)) (iK:J.get dK=some (.cells [.m (some bU)])) (hW:∀i,W i->i<k) (z0:¬W bU)
  (cg:∀c ah a1,S c ah->ah.next<=a1.next->(∀i o,i≠k+1->(∀a b c d,o≠ .mapIter a b c d)->ah.get i=some o->a1.get i=some o)->S c a1) (h0:S [] J)
  (zW:∀y c ah,k+2<=ah.next->c.length<a7.length->S c ah->ch env (some (k+1)) [] n ep (cY f p (dD y)) ah (λx f1 c2=>x= .normal/\mV ah c2∧
   ∀ca,ca.next=c2.next->(∀i o,i≠k+1->c2.get i=some o->ca.get i=some o)->ch env (some (k+1)) [] n b f1 ca (λx _ c_=>x= .normal/\S (c++[y]) c_/\Cu (k+2) W ca c_)))
  (zX:∀c ah,c.Perm a7->S c ah->k+2<=ah.next->ah.get k=some .dN->(∀i o,¬W i->J.get i=some o->ah.get i=some o)->Q .normal f ah):cO env D (.inl k::D) n (.rangeFunc jG [p] ep b) f J Q:=by
 subst aC;refine cO.range jQ ik.e λaq gi=>?_;generalize aC:J.next=k at *;obtain⟨bA,aV,dC,qJ,lh,ba⟩:∃bA:ag,(J.push .dN).push (.loop .ready none aq [p] ep b k)=bA/\bA.next=k+2/\bA.get (k+1)=some (.loop .ready none aq [p] ep b k)/\bA.get k=some .dN/\∀i o,J.get i=some o->bA.get i=some o:=by
  refine⟨_,rfl,by show J.next+1+1=_;omega,?_,?_,λi o ho=>?_⟩
  ·have:=ag.ij (J:=J.push .dN) (.loop .ready none aq [p] ep b k);rwa[show(J.push .dN).next=k+1 from by show J.next+1=_;omega] at this
  ·rw[ag.fy trivial _ (show k<(J.push .dN).next from by show k<J.next+1;omega)];have:=ag.ij (J:=J) .dN;rwa[aC] at this
  ·have:=ag.cJ ho;rw[ag.fy trivial _ (show i<(J.push .dN).next from by show i<J.next+1;omega),ag.fy trivial _ this];exact ho
 rw[aV];clear aV;have tN:=ag.cJ hm;have Cr:¬W (k+1):=λh=>by have:=hW _ h;omega
 have mc:¬W k:=λh=>by have:=hW _ h;omega
 refine(b7s ik (W:=λi=>W i\/i=k+1) (B:=k+2) (bU:=bU) (dK:=dK) (a7:=a7)
  (λc ah=>S c ah/\ah.get (k+1)=some (.loop .ready none aq [p] ep b k)) ?_ (.f (.yield (k+1)) [] []) ?_ bA U U (λh=>h.elim z0 U) (ba _ _ hm) (ba _ _ iK) ⟨cg _ _ _ h0 U λi o _ _ ho=>ba i o ho,qJ⟩).mono ?_
 ·rintro c ah a1 ⟨a9,bt⟩ ⟨db,cK⟩;exact⟨cg _ _ _ a9 db λi o _ h ho=>cK i o h ho,cK _ _ (by intros;simp) bt⟩
 ·rintro y c ah eu hlt ⟨a9,bt⟩;refine(bw.round (az:=λaf=>(S (c++[y]) af/\af.get (k+1)=some (.loop .ready none aq [p] ep b k))/\Cu (k+2) (λi=>W i\/i=k+1) ah af) (f:=f) (n:=n) bt gi (by show cond (Nat.blt p n) _ _=true;rw[ay];rfl) I ?_).mono λr af h=>h;refine(zW y c ah eu hlt a9).mono λx f1 c2 ⟨aF,hy,h1⟩=>?_;have iV:=hy.2 _ _ bt;have eG:=hX (bV:=.loop .busy none aq [p] ep b k) iV;refine⟨aF,iV,(h1 (c2.set (k+1) (.loop .busy none aq [p] ep b k)) I (λi o hi ho=>eG.2 i o hi ho)).mono λx _ c_ ⟨aV,sr,fT⟩=>?_⟩;have md:=fT.old _ _ U Cr eG.1;have me:=hX (bV:=.loop .ready none aq [p] ep b k) md;have dQ:=hy.1;have fY:c2.next<=c_.next:=fT.next;have b_:∀ {i:Nat} {a eY bn dt},c2.get i=some (.mapIter a eY bn dt)->i≠k+1:=λh e=>by subst e;rw[iV] at h;cases h
  have Q4:∀ {i:Nat} {a eY bn dt},c_.get i=some (.mapIter a eY bn dt)->i≠k+1:=λh e=>by subst e;rw[md] at h;cases h
  refine⟨aV,md,⟨cg _ _ _ sr (b6 _) λi o hi _ ho=>me.2 i o hi ho,me.1⟩,by show ah.next<=c_.next;omega,λi o hi hw ho=>?_,λi a eY bn dt ho=>?_⟩
  ·have pT:i≠k+1:=λe=>hw (.inr e);exact me.2 i o pT (fT.old i o hi (λe=>hw (.inl e)) (eG.2 i o pT (hy.2 i o ho)))
  ·have h1:=hy.2 _ _ ho;have h3:=fT.it _ _ _ _ _ (eG.2 _ _ (b_ h1) h1);exact me.2 _ _ (Q4 h3) h3
 ·rintro r ah ⟨aF,c,ae,⟨a9,bt⟩,db,cK⟩;have eG:=hX (bV:=.loop .exhausted none aq [p] ep b k) bt;refine⟨_,.ready,aF,bt,aT,zX c _ ae (cg _ _ _ a9 (b6 _) λi o hi _ ho=>eG.2 i o hi ho) (by show k+2<=ah.next;omega) (eG.2 _ _ U (cK _ _ U (λh=>h.elim mc U) lh)) λi o hi ho=>?_⟩;have:=ag.cJ ho;exact eG.2 i o U (cK i o U (λh=>h.elim hi U) (ba i o ho))
def b7v{env:Env}(hh:bc env Co Fs)(ik:bc env pP zJ){bU dK:Nat}{a7:List Nat}(vJ:a7.length<=1000000)(J:ag)(hm:J.get bU=some (.map (setE dD 0 a7) a7.length))(iK:J.get dK=some (.cells [.m (some bU)])):
  bw env 0 (.f (.func Co) [] []) [.aj,.f (.func pP) [] [.p (some (dK,0))]] J (λr af=>∃(v:AV) (c:List Nat),r= .ok v/\c.Perm a7/\Acc af none v (c.map dD)/\(∀a,v.dU =some a->J.next<=a)/\mV J af):=by
 generalize aC:J.next=k;refine bw.E4 (d:=k+1) hh.e hh.p hh.f I I I I ?_;refine cO.jT (aa.region (ab.box (v:=.aj) (c:=[.aj]) k aC I I I I I λbu dQ h1 bM=>?_));refine bo ?_;refine⟨rfl,cO.xu (cO.jT (aa.region ?_))⟩;refine bo ?_;refine⟨rfl,cO.block ?_⟩;have tN:=ag.cJ hm;refine cO.b7u ik (λi=>i=k) (λc ah=>∃v,ah.get k=some (.cells [v])/\Acc ah none v (c.map dD)/\∀a,v.dU =some a->k+3<=a/\a<ah.next) (k+1) dQ I I (bM _ _ hm) (bM _ _ iK) (λi hi=>by omega) U ?_ ⟨.aj,h1,.nil,λa h=>by cases h⟩ ?_ ?_
 ·rintro c ah a1 ⟨v,eD,e4,jt⟩ db cK;exact⟨v,cK _ _ U (by intros;simp) eD,e4.a0d λi c hi h=>cK _ _ (by have:=jt i hi;omega) (by intros;simp) h,λa h=>by have:=jt a h;omega⟩
 ·rintro y c ah eu hlt ⟨v,eD,e4,jt⟩;refine aa.region ?_;refine ab.go I I I I ?_;refine ab.nil ⟨rfl,⟨b6 _,λi o ho=>ho⟩,λca h_ l0=>?_⟩;have gO:∀i o,i≠k+2->ah.get i=some o->ca.get i=some o:=λi o hi ho=>l0 i o hi ho;have z1:=gO _ _ U eD;have hA:=e4.bK λi o hi ho=>gO i o (by have:=jt i hi;omega) ho;refine aa.block (aa.region ?_);refine ab.a0 (v:=v) z1 I I I hA.F5 ?_;refine ab.go I I I I ?_;refine ab.Yq (y:=dD y) hA I I I (by rw[cb];omega) I I λa_ c_ hr hT xe h9=>?_;refine ab.store (bn:=[a_]) (h9 _ _ (λe=>by have:=jt _ e;omega) z1) I I I hr.n3 (by show storeCells _ 0 a_.cells=_;rw[EZ hr.n3];rfl) λgz b6M fm iE=>?_;refine ab.nil ⟨rfl,⟨a_,fm,?_,λa e=>by rw[hT] at e;cases e;omega⟩,U,λi o hi hw ho=>iE i o hw (h9 i o (λe=>by have:=jt _ e;omega) ho),λi a eY bn dt ho=>?_⟩
  ·rw[ie];exact hr.bK λi o hi ho=>by
    rw[hT] at hi;cases hi;exact iE _ _ U ho
  ·refine iE _ _ (λe=>by subst e;rw[z1] at ho;cases ho) (h9 _ _ (λe=>?_) ho);obtain⟨m8,fs⟩:=hA.a0e e;rw[fs] at ho;cases ho
 ·rintro c ah ae ⟨v,eD,e4,jt⟩ hn an hold;refine⟨rfl,rfl,?_⟩;refine aa.seq (aa.region ?_);refine ab.a0 (v:=v) eD I I I e4.F5 ?_;refine bo ?_;have eG:=hX (bV:=AO.dead) an;refine aa.ret ⟨rfl,an,v,c,rfl,ae,e4.bK λi o hi ho=>eG.2 i o (by have:=jt i hi;omega) ho,λa h=>by have:=jt a h;omega,by show J.next<=ah.next;omega,λi o ho=>?_⟩;have:=ag.cJ ho;exact eG.2 i o U (hold i o U (bM i o ho))
section
variable {b:b8}{K:Nat->List AV->AV->Prop}
def b7w(hh:bc (b.aQ K) FP Kn)(ha:bc (b.aQ K) Co Fs)(ik:bc (b.aQ K) pP zJ){bU dK:Nat}{a7:List Nat}(vJ:a7.length<=1000000)(J:ag)(hm:J.get bU=some (.map (setE dD 0 a7) a7.length))(iK:J.get dK=some (.cells [.m (some bU)])):
  bw (b.aQ K) 0 (.f (.func FP) [] []) [.f (.func pP) [] [.p (some (dK,0))]] J (λr af=>∃(v:AV) (c:List Nat),r= .ok v/\c.Perm a7/\Acc af none v (c.map dD)/\(∀a,v.dU =some a->J.next<=a)/\mV J af):=by
 refine bw.code hh.e hh.p hh.f I I I I ?_;refine aa.seq (aa.region ?_);refine ab.go I I I I ?_;refine ab.nil (aa.seq (aa.region ?_));refine ab.go I I I I ?_;refine ab.dW I I I (b7v ha ik vJ J hm iK) λr bA ⟨v,c,aF,h1,h2,h3,aN⟩=>⟨_,aF,?_⟩
 refine ab.go I I I I ?_;exact ab.nil (aa.ret ⟨rfl,_,c,rfl,h1,h2,h3,aN⟩)
end
section
variable {b:b8}{K:Nat->List AV->AV->Prop}(hf:∀g aB r bS,K g aB r->K g aB bS->r=bS)
include hf in
theorem b7x(hh:bc (b.aQ K) xC zK)(ka:∀a c:dM,K iv [c0 a,c0 c] (.i .i64 (sw a c)))(k2:b.ext iv=0/\b.pure iv=true){l:List dM}{v:AV}(ao:l.length<=1000000)(J:ag)(hA:Acc J (some 2) v (l.map c0)):
  bw (b.aQ K) 0 (.f (.func xC) [] []) [v,aw 0,aw l.length,.f (.func iv) [] []] J (λr af=>r= .ok (.a6 [])/\af.next=J.next/\(∃bq:List dM,bq.Perm l/\Acc af (some 2) v (bq.map c0))/\∀i o,v.dU ≠some i->J.get i=some o->af.get i=some o):=by
 refine bw.pI hh.e hh.p hh.f I I I ?_;refine aa.seq (aa.region ?_);refine ab.go I I I I ?_;refine ab.bin (a:=aw 0) (b:=aw 1) I I I I (ir U) ?_;refine ab.go I I I I ?_;refine ab.nil (aa.block ?_);refine aa.loop (λm f ah=>∃(i:Nat) (bq:List dM),i+m=l.length+1/\1<=i/\bq.Perm l/\Acc ah (some 2) v (bq.map c0)/\ah.next=J.next/\(∀i o,v.dU ≠some i->J.get i=some o->ah.get i=some o)∧
  sat [(0,v),(1,aw 0),(2,aw l.length),(3,.f (.func iv) [] []),(8,aw i)] f) ?_ l.length ⟨1,l,U,U,.refl _,hA,rfl,λi o _ h=>h,b9⟩
 intro m g ah ⟨i,bq,hi,pT,ay,hr,hn,hold,hL⟩;refine aa.norm _ hL λg=>?_;clear hL;refine aa.seq (aa.seq (aa.region ?_));refine ab.go I I I I ?_;refine ab.go I I I I ?_;refine ab.bin (a:=aw i) (b:=aw l.length) (v:=.b (decide (i<l.length))) I I I I (cG I) ?_;refine ab.nil ?_;refine aa.cl I (λht=>?_) (λdP=>?_)
 ·have hlt:i<l.length:=of_decide_eq_true ht;have sb:=ay.length_eq;refine aa.skip (aa.seq ?_);refine aa.block (aa.seq (aa.region ?_));refine ab.go I I I I ?_;refine ab.go I I I I ?_;refine ab.nil (aa.block ?_);refine aa.loop (λm f ah=>m<=i/\∃bq:List dM,bq.Perm l/\Acc ah (some 2) v (bq.map c0)/\ah.next=J.next/\(∀i o,v.dU ≠some i->J.get i=some o->ah.get i=some o)∧
   sat [(0,v),(1,aw 0),(2,aw l.length),(3,.f (.func iv) [] []),(8,aw i),(9,aw m)] f) ?_ i ⟨b6 _,bq,ay,hr,hn,hold,b9⟩
  clear hr hold hn ay sb;intro j g ah ⟨DU,bq,ay,hr,hn,hold,hL⟩;refine aa.norm _ hL λg=>?_;clear hL;have sb:=ay.length_eq;have fin:∀ {f:Nat->AV},sat [(0,v),(1,aw 0),(2,aw l.length),(3,.f (.func iv) [] []),(8,aw i)] f->ch (b.aQ K) none [] 53 (.region [⟨(some 15),.cD (.t 8),none,[]⟩,⟨(some 16),.bin .add (.t 15) (.c (.i .i64 1)),none,[]⟩,⟨(some 8),.cD (.t 16),none,[]⟩]) f ah (λx bD af=>match x with
   | .normal=>∃aK,aK<m/\∃(i:Nat) (bq:List dM),i+aK=l.length+1/\1<=i/\bq.Perm l/\Acc af (some 2) v (bq.map c0)/\af.next=J.next/\(∀i o,v.dU ≠some i->J.get i=some o->af.get i=some o)/\sat [(0,v),(1,aw 0),(2,aw l.length),(3,.f (.func iv) [] []),(8,aw i)] bD
   |_=>False):=by
   intro f ak;refine aa.norm _ ak λg=>?_;refine aa.region ?_;refine ab.go I I I I ?_;refine ab.bin (a:=aw i) (b:=aw 1) I I I I (ir U) ?_;refine ab.go I I I I ?_;exact ab.nil ⟨m-1,U,i+1,bq,U,U,ay,hr,hn,hold,b9⟩
  obtain⟨o,au,ho,dX⟩:=hr.inv (by rw[cb];omega);rw[cb] at au;subst au;refine aa.seq (aa.seq (aa.draw I I ?_));refine cd.go I I I I ?_;refine cd.go I I I I ?_;refine cd.cmp (a:=j) (b:=0) I I I I I ?_;by_cases Gc:0<j
  ·rw[show decide (0<j)=true from decide_eq_true Gc];obtain⟨j,rfl⟩:∃q,j=q+1:=⟨j-1,U⟩
   have n7:j+1<bq.length:=by omega
   have aF:dB (some 2) (((bq.map c0).flatMap AV.cells).drop (0+(j+1)*shN (some 2)))=some (c0 bq[j+1]):=by
    rw[vI (by rw[cb];omega) dX,ic]
   have aV:dB (some 2) (((bq.map c0).flatMap AV.cells).drop (0+j*shN (some 2)))=some (c0 (bq[j]'U)):=by
    rw[vI (by rw[cb];omega) dX,ic]
   refine cd.go I I I I ?_;refine cd.go I I I I ?_;refine cd.go I I I I ?_;refine cd.go I I I I ?_;refine cd.idx (j:=j+1) I I I I (kM n7) ?_;refine cd.a0 (v:=c0 bq[j+1]) ho I I I aF ?_;refine cd.go I I I I ?_;refine cd.go I I I I ?_;refine cd.bin (a:=aw (j+1)) (b:=aw 1) I I I I (jS U U) ?_;refine cd.idx (j:=j) I I I I (kM U) ?_;refine cd.a0 (v:=c0 (bq[j]'U)) ho I I I aV ?_;refine cd.known hf k2.1 k2.2 (ka bq[j+1] (bq[j]'U)) I I I (lq I I) ?_;refine cd.bin (v:=.b (decide (sw bq[j+1] (bq[j]'U)<0))) I I I I I ?_;refine cd.go I I I I ?_;refine cd.nil ?_;refine aa.cl I (λ_=>?_) (λ_=>?_)
   ·refine aa.skip (aa.seq (aa.block (aa.xx 0 I (gK.fin (gs:=[]) .nil I ?_))));refine ab.go I I I I ?_;refine ab.go I I I I ?_;refine ab.go I I I I ?_;refine ab.go I I I I ?_;refine ab.bin (a:=aw (j+1)) (b:=aw 1) I I I I (jS U U) ?_;refine ab.go I I I I ?_;refine ab.go I I I I ?_;refine ab.bin (a:=aw (j+1)) (b:=aw 1) I I I I (jS U U) ?_;refine ab.idx (j:=j) I I I I (kM U) ?_;refine ab.a0 (v:=c0 (bq[j]'U)) ho I I I aV ?_;refine ab.go I I I I ?_;refine ab.go I I I I ?_;refine ab.idx (j:=j+1) I I I I (kM n7) ?_;refine ab.a0 (v:=c0 bq[j+1]) ho I I I aF ?_;refine ab.idx (j:=j+1) I I I I (kM n7) ?_;refine ab.La (j:=j+1) (y:=c0 (bq[j]'U)) (v:=.aq o 0 bq.length (some 2) none) hr I (by rw[cb];omega) I I I I λc2 dQ Rk bM=>?_;refine ab.idx (j:=j) I I I I (kM U) ?_;refine ab.La (j:=j) (y:=c0 bq[j+1]) Rk I (by rw[wO,cb];omega) I I I I λca dC Rl ba=>?_;refine ab.nil ⟨rfl,?_⟩;refine aa.region ?_;refine ab.go I I I I ?_;refine ab.bin (a:=aw (j+1)) (b:=aw 1) I I I I (jS U U) ?_;refine ab.go I I I I ?_;refine ab.nil ⟨j,U,U,(bq.set (j+1) (bq[j]'U)).set j bq[j+1],(swap_perm n7).trans ay,?_,U,λi bV h lO=>ba i bV (λe=>h (by rw[e];rfl)) (bM i bV (λe=>h (by rw[e];rfl)) (hold i bV h lO)),b9⟩;rw[KW,KW];exact Rl
   ·refine aa.exit ?_;exact(fin b9).mono λx f J h=>by cases x<;>first|exact h|exact h.elim
  ·rw[show decide (0<j)=false from decide_eq_false Gc];refine pJ ?_;refine aa.cl I (λh=>by cases h) (λ_=>?_);refine aa.exit ?_;exact(fin b9).mono λx f J h=>by cases x<;>first|exact h|exact h.elim
 ·have iX:¬i<l.length:=of_decide_eq_false dP;refine aa.exit ?_;exact⟨.inr I,rfl,hn,⟨bq,ay,hr⟩,hold⟩
end
def Lm(b:b8)(K:Nat->List AV->AV->Prop)(N:Nat):Prop:=N<=60000/\∀ {bU:Nat} {a7:List dM} (_:a7.length<=N) (J:ag) (_:J.get bU=some (.map (setE c0 0 a7) a7.length)),
  bw (b.aQ K) 0 (.f (.func Fz) [] []) [.m (some bU)] J (λr af=>∃(v:AV) (c:List dM),r= .ok v/\c.Perm a7/\Acc af (some 2) v (c.map c0)/\(∀a,v.dU =some a->J.next<=a)/\mV J af)
def z9(f:Fm)(a7:List dM):List dM:=if f.op=1 then lS (f.name,f.args.length) a7 else a7
def xV(l:List Fm)(a7:List dM):List dM:=l.foldl (λa7 f=>z9 f a7) a7
def tW(F:Fm):List dM:=xV F.parts []
def sz(t:Tm)(a7:List dM):List dM:=if t.var=false then lS (t.name,t.args.length) a7 else a7
def z_(l:List Tm)(a7:List dM):List dM:=l.foldl (λa7 f=>sz f a7) a7
def Ln(l:List Fm)(a7:List dM):List dM:=l.foldl (λa7 f=>z_ (Tm.eA f.args) a7) a7
def sA(F:Fm):List dM:=Ln F.parts []
section
variable {b:b8}{K:Nat->List AV->AV->Prop}{N:Nat}(hf:∀g aB r bS,K g aB r->K g aB bS->r=bS)
include hf in
theorem b7y(ak:Lm b K N)(hh:bc (b.aQ K) KC Ql)(au:bc (b.aQ K) qT sd)(fH:bc (b.aQ K) pM tD)(hw:bc (b.aQ K) tG vz)(F:Fm)(bB:F.fA)(Gd:(tW F).length<=N)(J:ag):
  bw (b.aQ K) 0 (.f (.func KC) [] []) [F.A true] J (λr af=>∃(v:AV) (c:List dM),r= .ok v/\c.Perm (tW F)/\Acc af (some 2) v (c.map c0)/\(∀a,v.dU =some a->J.next<=a)/\mV J af):=by
 generalize aC:J.next=k;refine bw.E4 (d:=k+4) hh.e hh.p hh.f I I I I ?_;refine cO.jT (aa.region (ab.box (v:=F.A true) (c:=F.cells true) k aC I I I I I λbu e6 h1 bM=>?_));refine bo ?_;refine⟨rfl,cO.jT (aa.region (ab.mkMap (k+1) e6 I λbA fk h2 ba=>?_))⟩;refine ab.var (v:=.m (some (k+1))) (c:=[.m (some (k+1))]) (k+2) fk I I I I I I λc8 lM h3 bj=>?_;replace h1:=bj _ _ (ba _ _ h1);replace h2:=bj _ _ h2;refine ab.nil ⟨rfl,cO.xu (cO.jT (aa.region ?_))⟩;refine ab.a0 h1 I I I (Fm.a0 true F) ?_;refine ab.dW I I I (KX hw true F c8 (k+3) lM) λr lx ⟨aF,oM,aN,de⟩=>⟨_,aF,?_⟩
 replace h1:=de _ _ h1;replace h2:=de _ _ h2;replace h3:=de _ _ h3;have cq:∀i o,J.get i=some o->lx.get i=some o:=λi o ho=>de i o (bj i o (ba i o (bM i o ho)));refine ab.nil ⟨rfl,cO.block ?_⟩;refine cO.walk au fH true (λi=>i=k+1\/i=k+2) (λl ah=>∃a7,xV l a7=tW F/\ah.get (k+1)=some (.map (setE c0 0 a7) a7.length)/\ah.get (k+2)=some (.cells [.m (some (k+1))])) (k+4) oM I I bB aN (λi hi=>by omega) (λl ah a1 ⟨a7,a9,bt,cW⟩ aC=>⟨a7,a9,aC _ _ (.inl I) bt,aC _ _ (.inr I) cW⟩) ⟨[],rfl,h2,h3⟩ ?_ ?_
 ·intro G rest ah cc vF ⟨a7,a9,bt,cW⟩;refine aa.region ?_;refine ab.var (v:=G.A true) (c:=G.cells true) ah.next I I I I (Fm.conf true G) I (Fm.len true G) λc2 oM aN de=>?_;refine ab.nil ⟨rfl,.of U de,λca BA e8=>?_⟩;replace aN:=e8 _ _ U aN;replace bt:=e8 _ _ U (de _ _ bt);replace cW:=e8 _ _ U (de _ _ cW);refine aa.block (aa.seq (aa.region ?_));refine bo ?_;refine ab.a0 aN I I I (Fm.vs true G) ?_;refine ab.bin (a:=a3 G.op) (b:=.i .u8 (Int.ofNat 1)) (v:=.b (decide (G.op=1))) I I I I (cG I) ?_;refine ab.nil (aa.cl I (λh=>?_) (λh=>?_))
  ·have eO:G.op=1:=of_decide_eq_true h;refine aa.region ?_;refine ab.a0 (v:=.m (some (k+1))) cW I I I I ?_;refine ab.go I I I I ?_;refine ab.a0 aN I I I (Fm.tA true G) ?_;refine ab.go I I I I ?_;refine ab.a0 aN I I I (Fm.qM true G) ?_;refine ab.len I I I lr ?_;refine ab.go (v:=c0 (G.name,G.args.length)) I I I I ?_;refine ab.K8 (cN:=c0) (k:=(G.name,G.args.length)) Z4 bt I I λc_ mO cf gH=>?_;refine ab.nil ⟨rfl,⟨_,by rw[<-a9];show xV rest _=xV rest (z9 G a7);unfold z9;rw[if_pos eO],cf,gH _ _ U cW⟩,⟨U,λi o hi ho=>gH i o (λe=>hi (.inl e)) ho⟩⟩
  ·have eO:¬G.op=1:=of_decide_eq_false h;exact aa.skip ⟨rfl,⟨a7,by rw[<-a9];show xV rest _=xV rest (z9 G a7);unfold z9;rw[if_neg eO],bt,cW⟩,.refl⟩
 ·intro ah ⟨a7,a9,bt,cW⟩ vF an hold;have a9:a7=tW F:=a9;subst a9;refine⟨rfl,rfl,?_⟩;refine aa.seq (aa.region ?_);refine ab.a0 (v:=.m (some (k+1))) cW I I I I ?_;refine ab.dW I I I (ak.2 Gd ah bt) λr ca ⟨v,c,aF,db,cK,et,kW⟩=>⟨_,aF,?_⟩
  refine ab.go I I I I ?_;have hn:=kW.1;have eG:=hX (bV:=AO.dead) (kW.2 _ _ an);refine ab.nil (aa.ret ⟨rfl,kW.2 _ _ an,v,c,rfl,db,cK.bK λi o hi ho=>eG.2 i o (by have:=et i hi;omega) ho,λa e=>by have:=et a e;omega,by show J.next<=ca.next;omega,λi o ho=>?_⟩);have:=ag.cJ ho;exact eG.2 i o U (kW.2 i o (hold i o U (cq i o ho)))
def Rm{env:Env}(au:bc env xB zI)(o:Bool){W:Nat->Prop}{B:Nat}(hW:∀i,W i->i<B)(dH:List Tm->ag->Prop)(bz:∀l J af,dH l J->J.next<=af.next->(∀i o,J.get i=some o->af.get i=some o)->dH l af)(bx:AV)
  (aI:∀t rest J,t.fA->B<=J.next->dH (t::rest) J->bw env 0 bx [t.A o] J (λr af=>r= .ok (.b true)/\dH rest af/\hv W J af)):
  ∀(d:Nat) (a:Option (List Tm)) (rest:List Tm) (J:ag),Tm.cv (a.getD [])<d->(∀t∈a.getD [],t.fA)->(a.getD []).length<2^62->B<=J.next->dH (Tm.eA (a.getD [])++rest) J->bw env 0 (.f (.func xB) [] []) [cy o a,bx] J (λr af=>r= .ok (.b true)/\dH rest af/\hv W J af)
 |0,_,_,_,h,_,_,_,_=>by omega
 |d+1,a,rest,cr,an,Rn,b6b,eu,h0=>by
  refine bw.code au.e au.p au.f I I I I ?_;refine aa.seq (aa.region ?_);refine ab.go I I I I ?_;refine ab.nil (aa.seq (aa.seq (aa.region ?_)));refine ab.go I I I I ?_;refine ab.len I I I lr ?_;refine ab.go I I I I ?_;refine ab.nil (aa.block ?_);refine aa.loop (λm f ah=>cr.next<=ah.next/\hv W cr ah/\∃i,i+m=(a.getD []).length/\dH (Tm.eA ((a.getD []).drop i)++rest) ah∧
   sat [(1,bx),(7,cy o a),(8,aw (a.getD []).length),(9,aw i)] f) ?_ (a.getD []).length ⟨b6 _,.refl,0,U,by rw[y_];exact h0,b9⟩
  clear h0;intro m g J ⟨hn,hy,i,hi,n2,hL⟩;refine aa.norm _ hL λg=>?_;clear hL;refine aa.seq (aa.region ?_);refine ab.bin (a:=aw i) (b:=aw (a.getD []).length) (v:=.b (decide (i<(a.getD []).length))) I I I I (cG I) ?_;refine ab.nil (aa.seq ?_);refine aa.cl I (λht=>?_) (λdP=>?_)
  ·have hlt:i<(a.getD []).length:=of_decide_eq_true ht;rw[zU hlt,Tm.eA,Tm.parts_eq,qz,qz,jD] at n2;have Lo:=oR (o:=o) hlt;have sq:(a.getD [])[i]∈a.getD []:=c3 hlt;generalize(a.getD [])[i]=G at n2 Lo sq;have Ro:Tm.cv G.args<d:=by
    have h1:=Tm.vr sq;rw[Tm.e0] at h1;omega
   refine aa.skip (aa.seq (aa.block (aa.seq (aa.region ?_))));refine ab.idx (v:=.dk o (G.A o)) I I I I Lo ?_;refine ab.gY I I I (Tm.conf o G) ?_;refine ab.var (v:=G.A o) (c:=G.cells o) J.next I I I I (Tm.conf o G) I (Tm.len o G) λah fk aN ba=>?_;have mc:¬W J.next:=λh=>by have:=hW _ h;omega
   have nu:=hy.trans (.of (W:=W) U ba);have Cq:=bz _ _ _ n2 U ba;refine ab.nil (aa.seq (aa.region ?_));refine ab.go I I I I ?_;refine ab.a0 aN I I I (Tm.a0 o G) ?_;refine ab.dW I I I (aI G _ ah (Rn G sq) U Cq) λr ca ⟨aF,zV,fT⟩=>⟨_,aF,?_⟩
   have Fg:=fT.bK _ _ mc aN;have lM:=fT.next;refine bo ?_;refine ab.a0 Fg I I I (Tm.qM o G) ?_;refine bo ?_;refine ab.dW I I I (Rm au o hW dH bz bx aI d G.cP _ ca Ro (Rn G sq).arg (Rn G sq).len U zV) λr c_ ⟨aF,F8,jW⟩=>⟨_,aF,?_⟩
   have oM:=jW.next;refine bo ?_;refine aa.cl I (λh=>by cases h) (λ_=>aa.skip ?_);refine aa.region ?_;refine ab.bin (a:=aw i) (b:=aw 1) I I I I (ir U) ?_;refine ab.go I I I I ?_;exact ab.nil ⟨m-1,U,U,(nu.trans fT).trans jW,i+1,U,F8,b9⟩
  ·have iX:¬i<(a.getD []).length:=of_decide_eq_false dP;obtain rfl:i=(a.getD []).length:=by omega
   rw[Pz] at n2;refine aa.exit ?_;refine aa.seq (aa.region ?_);refine ab.go I I I I ?_;exact ab.nil (aa.ret ⟨rfl,rfl,n2,hy⟩)
end
section
variable {b:b8}{K:Nat->List AV->AV->Prop}
set_option maxRecDepth 100000 in
def b7z(hh:bc (b.aQ K) qU se)(m:Nat)(hm:m<256)(J:ag):bw (b.aQ K) 0 (.f (.func qU) [] []) [.i .u64 (Int.ofNat m)] J (λr af=>(∃q,r= .ok (.i .i64 q))/\af=J):=by
 refine bw.code hh.e hh.p hh.f I I I I ?_;refine aa.seq (aa.region ?_);refine bo ?_;refine aa.seq (aa.seq (aa.region ?_));refine ab.go I I I I ?_;refine ab.bin (a:=.i .u64 (Int.ofNat m)) (b:=.i .u64 (Int.ofNat 4294967296)) (v:=.b false) I I I I (cG (by show some (AV.b (decide (4294967296<=m)))=_;rw[decide_eq_false U])) ?_;refine ab.nil (aa.cl I (λh=>by cases h) λ_=>aa.skip ?_);refine aa.seq (aa.seq (aa.region ?_));refine ab.go I I I I ?_;refine ab.bin (a:=.i .u64 (Int.ofNat m)) (b:=.i .u64 (Int.ofNat 65536)) (v:=.b false) I I I I (cG (by show some (AV.b (decide (65536<=m)))=_;rw[decide_eq_false U])) ?_;refine ab.nil (aa.cl I (λh=>by cases h) λ_=>aa.skip ?_);refine aa.seq (aa.seq (aa.region ?_));refine ab.go I I I I ?_;refine ab.bin (a:=.i .u64 (Int.ofNat m)) (b:=.i .u64 (Int.ofNat 256)) (v:=.b false) I I I I (cG (by show some (AV.b (decide (256<=m)))=_;rw[decide_eq_false U])) ?_;refine ab.nil (aa.cl I (λh=>by cases h) λ_=>aa.skip ?_);refine aa.seq (aa.region ?_);refine ab.go I I I I ?_;refine ab.go I I I I ?_;have gG:wrapN .u8 (Int.ofNat m)=Int.ofNat m:=QX hm;refine ab.val I I (Lb (m:=Int.ofNat m) I _) ?_;rw[gG];refine ab.val I I (Yl (j:=m) I I (EY (u7 hm eI))) ?_;refine ab.val I I (Lb I _) ?_;refine ab.bin I I I I I ?_;refine ab.go I I I I ?_;exact ab.nil (aa.ret ⟨rfl,⟨_,rfl⟩,rfl⟩)
def a0J(hh:bc (b.aQ K) sf tE)(cf:bc (b.aQ K) qU se)(m:Nat)(hm:m<256)(J:ag):bw (b.aQ K) 0 (.f (.func sf) [] []) [.i .u64 (Int.ofNat m)] J (λr af=>(∃q,r= .ok (.i .i64 q))/\af=J):=by
 refine bw.code hh.e hh.p hh.f I I I I ?_;refine aa.seq (aa.region ?_);refine bo ?_;refine aa.seq (aa.cl I (λh=>by cases h) λ_=>aa.skip ?_);refine aa.seq (aa.region ?_);refine ab.go I I I I ?_;refine ab.dW I I I (b7z cf m hm J) λr bA ⟨⟨q,aF⟩,aV⟩=>⟨_,aF,?_⟩
 refine ab.go I I I I ?_;exact ab.nil (aa.ret ⟨rfl,⟨_,rfl⟩,aV⟩)
variable (hf:∀g aB r bS,K g aB r->K g aB bS->r=bS)
include hf in
theorem b7A(hh:bc (b.aQ K) zM Ce)(hi:bc (b.aQ K) xC zK)(ka:∀a c:dM,K iv [c0 a,c0 c] (.i .i64 (sw a c)))(k2:b.ext iv=0/\b.pure iv=true){l:List dM}{v:AV}(ao:l.length<=12)(q:Int)(J:ag)(hA:Acc J (some 2) v (l.map c0)):
  bw (b.aQ K) 0 (.f (.func zM) [] []) [v,aw 0,aw l.length,.i .i64 q,.f (.func iv) [] []] J (λr af=>r= .ok (.a6 [])/\af.next=J.next/\(∃bq:List dM,bq.Perm l/\Acc af (some 2) v (bq.map c0))/\∀i o,v.dU ≠some i->J.get i=some o->af.get i=some o):=by
 refine bw.pI hh.e hh.p hh.f I I I ?_;refine aa.seq (aa.region ?_);refine ab.go I I I I ?_;refine ab.nil (aa.seq (aa.region ?_));refine ab.go I I I I ?_;refine ab.nil (aa.block ?_);refine aa.loop (λm f ah=>ah=J/\sat [(0,v),(1,aw 0),(2,aw l.length),(4,.f (.func iv) [] [])] f) ?_ 0 b9;rintro m g ah ⟨rfl,hL⟩;refine aa.norm _ hL λg=>?_;clear hL;refine aa.block (aa.seq (aa.region ?_));refine ab.go I I I I ?_;refine ab.go I I I I ?_;refine ab.bin (a:=aw l.length) (b:=aw 0) I I I I (jS U U) ?_;refine ab.go I I I I ?_;refine ab.nil (aa.seq (aa.seq (aa.region ?_)));refine ab.go I I I I ?_;refine ab.bin (a:=aw (l.length-0)) (b:=aw 12) (v:=.b true) I I I I (cG (by show some (AV.b (decide (l.length-0<=12)))=_;rw[decide_eq_true U])) ?_;refine ab.nil (aa.cl I (λ_=>?_) (λh=>by cases h));refine aa.seq (aa.region ?_);refine ab.go I I I I ?_;refine ab.go I I I I ?_;refine ab.go I I I I ?_;refine ab.go I I I I ?_;refine ab.dW I I I (b7x hf hi ka k2 U ah hA) λr bA ⟨aF,h1,h2,h3⟩=>⟨_,aF,?_⟩
 exact ab.nil (aa.ret ⟨.inl I,rfl,h1,h2,h3⟩)
include hf in
theorem b7B(hh:bc (b.aQ K) Ch Fx)(qw:bc (b.aQ K) sf tE)(cf:bc (b.aQ K) qU se)(ay:bc (b.aQ K) zM Ce)(hi:bc (b.aQ K) xC zK)(ka:∀a c:dM,K iv [c0 a,c0 c] (.i .i64 (sw a c)))(k2:b.ext iv=0/\b.pure iv=true){l:List dM}{v:AV}(ao:l.length<=12)(J:ag)(hA:Acc J (some 2) v (l.map c0)):
  bw (b.aQ K) 0 (.f (.func Ch) [] []) [v,.f (.func iv) [] []] J (λr af=>r= .ok (.a6 [])/\af.next=J.next/\(∃bq:List dM,bq.Perm l/\Acc af (some 2) v (bq.map c0))/\∀i o,v.dU ≠some i->J.get i=some o->af.get i=some o):=by
 refine bw.pI hh.e hh.p hh.f I I I ?_;refine aa.seq (aa.region ?_);refine ab.go I I I I ?_;refine ab.len (m:=l.length) I I I (by have:=hA.len (ah:=J);rwa[cb] at this) ?_;refine ab.go I I I I ?_;refine ab.nil (aa.region ?_);refine ab.go I I I I ?_;refine ab.go I I I I ?_;refine ab.go I I I I ?_;refine ab.val I I (Lb (m:=Int.ofNat l.length) I _) ?_;have hw:wrapN .u64 (Int.ofNat l.length)=Int.ofNat l.length:=by
  have:(l.length:Int)<18446744073709551616:=by omega
  simp[wrapN,IntKind.wrap,IntKind.bits,IntKind.signed];omega
 rw[hw];refine ab.dW I I I (a0J qw cf l.length U J) λr bA ⟨⟨q,aF⟩,aV⟩=>⟨_,aF,?_⟩
 subst aV;refine ab.go I I I I ?_;refine ab.dW I I I (b7A hf ay hi ka k2 ao q bA hA) λr c8 ⟨aF,h1,h2,h3⟩=>⟨_,aF,?_⟩
 exact ab.nil ⟨.inr I,rfl,h1,h2,h3⟩
include hf in
theorem b7C(hh:bc (b.aQ K) FA Ku)(ae:bc (b.aQ K) Cg Fw)(ha:bc (b.aQ K) zL Cd)(ik:bc (b.aQ K) oU xA)(ak:bc (b.aQ K) Ch Fx)(qw:bc (b.aQ K) sf tE)(cf:bc (b.aQ K) qU se)(ay:bc (b.aQ K) zM Ce)(hi:bc (b.aQ K) xC zK)(ka:∀a c:dM,K iv [c0 a,c0 c] (.i .i64 (sw a c)))(k2:b.ext iv=0/\b.pure iv=true)
  {bU dK:Nat} {a7:List dM} (vJ:a7.length<=12) (J:ag) (hm:J.get bU=some (.map (setE c0 0 a7) a7.length)) (iK:J.get dK=some (.cells [.m (some bU)])):
  bw (b.aQ K) 0 (.f (.func FA) [] []) [.f (.func oU) [] [.p (some (dK,0))],.f (.func iv) [] []] J (λr af=>∃(v:AV) (c:List dM),r= .ok v/\c.Perm a7/\Acc af (some 2) v (c.map c0)/\(∀a,v.dU =some a->J.next<=a)/\mV J af):=by
 refine bw.code hh.e hh.p hh.f I I I I ?_;refine aa.seq (aa.region ?_);refine ab.go I I I I ?_;refine ab.nil (aa.seq (aa.region ?_));refine ab.go I I I I ?_;refine ab.dW I I I (b6O ae ha ik U J hm iK) λr bA ⟨v,c,aF,h1,h2,h3,aN⟩=>⟨_,aF,?_⟩
 have j9:=h1.length_eq;refine ab.go I I I I ?_;refine ab.nil (aa.seq (aa.region ?_));refine ab.go I I I I ?_;refine ab.go I I I I ?_;refine ab.dW I I I (b7B hf ak qw cf ay hi ka k2 (l:=c) U bA h2) λr c8 ⟨aV,fY,⟨bq,oF,hr⟩,bj⟩=>⟨_,aV,?_⟩
 refine ab.nil (aa.seq (aa.region ?_));refine ab.go I I I I ?_;refine ab.go I I I I ?_;have hn:=aN.1;exact ab.nil (aa.ret ⟨rfl,_,bq,rfl,oF.trans h1,hr,h3,U,λi o ho=>bj i o (λe=>by have:=h3 i e;have:=ag.cJ ho;omega) (aN.2 i o ho)⟩)
include hf in
theorem b7D(hh:bc (b.aQ K) Fz Qs)(aC:bc (b.aQ K) FB Kv)(Lp:bc (b.aQ K) FA Ku)(ae:bc (b.aQ K) Cg Fw)(ha:bc (b.aQ K) zL Cd)(ik:bc (b.aQ K) oU xA)(ak:bc (b.aQ K) Ch Fx)(qw:bc (b.aQ K) sf tE)(cf:bc (b.aQ K) qU se)(ay:bc (b.aQ K) zM Ce)(hi:bc (b.aQ K) xC zK)(ka:∀a c:dM,K iv [c0 a,c0 c] (.i .i64 (sw a c)))(k2:b.ext iv=0/\b.pure iv=true)
  {bU:Nat} {a7:List dM} (vJ:a7.length<=12) (J:ag) (hm:J.get bU=some (.map (setE c0 0 a7) a7.length)):
  bw (b.aQ K) 0 (.f (.func Fz) [] []) [.m (some bU)] J (λr af=>∃(v:AV) (c:List dM),r= .ok v/\c.Perm a7/\Acc af (some 2) v (c.map c0)/\(∀a,v.dU =some a->J.next<=a)/\mV J af):=by
 refine bw.code hh.e hh.p hh.f I I I I ?_;refine aa.seq (aa.region ?_);refine ab.go I I I I ?_;refine ab.nil (aa.seq (aa.region ?_));refine ab.go I I I I ?_;generalize aZ:J.next=z;refine ab.dW I I I (b6K aC bU J z aZ) λr bA ⟨aF,dC,h2,ba⟩=>⟨_,aF,?_⟩
 refine ab.dW I I I (b7C hf Lp ae ha ik ak qw cf ay hi ka k2 vJ bA (ba _ _ hm) h2) λr c8 ⟨v,c,aF,h1,h3,aN,bY⟩=>⟨_,aF,?_⟩
 refine ab.go I I I I ?_;have:=bY.1;exact ab.nil (aa.ret ⟨rfl,_,c,rfl,h1,h3,λa e=>by have:=aN a e;omega,U,λi o ho=>bY.2 i o (ba i o ho)⟩)
end
structure Rp(b:b8)(K:Nat->List AV->AV->Prop):Prop where
 sorted:bc (b.aQ K) Fz Qs
 keys:bc (b.aQ K) FB Kv
 a0K:bc (b.aQ K) FA Ku
 a0L:bc (b.aQ K) Cg Fw
 app:bc (b.aQ K) zL Cd
 a0M:bc (b.aQ K) oU xA
 a0N:bc (b.aQ K) Ch Fx
 len:bc (b.aQ K) sf tE
 a0O:bc (b.aQ K) qU se
 Lq:bc (b.aQ K) zM Ce
 ins:bc (b.aQ K) xC zK
 cmp:∀a c:dM,K iv [c0 a,c0 c] (.i .i64 (sw a c))
 FW:b.ext iv=0/\b.pure iv=true
def Rp.go{b:b8}{K:Nat->List AV->AV->Prop}(hf:∀g aB r bS,K g aB r->K g aB bS->r=bS)(ak:Rp b K):Lm b K 12:=⟨eI,λhn J hm=>b7D hf ak.sorted ak.keys ak.a0K ak.a0L ak.app ak.a0M ak.a0N ak.len ak.a0O ak.Lq ak.ins ak.cmp ak.FW hn J hm⟩
def tX(l:List Nat)(i:Nat):Prop:=∀p q,p<q->q<i->l.getD p 0<=l.getD q 0
def vR(l:List Nat)(i m:Nat):Prop:=∀p q,p<q->q<=i->q≠m->l.getD p 0<=l.getD q 0
def tX.x{l:List Nat}{i:Nat}(h:tX l i):vR l i i:=λp q h1 h2 h3=>h p q h1 U
def vR.zero{l:List Nat}{i:Nat}(h:vR l i 0):tX l (i+1):=λp q h1 h2=>h p q h1 U U
def vR.done{l:List Nat}{i j:Nat}(h:vR l i (j+1))(h2:l.getD j 0<=l.getD (j+1) 0):tX l (i+1):=λp q h1 h3=>by
 by_cases e:q=j+1
 ·subst e;by_cases aV:p=j
  ·subst aV;exact h2
  ·by_cases dp:j=0
   ·omega
   ·have:=h p j U U U;omega
 ·exact h p q h1 U e
def a0P{l:List Nat}{j:Nat}(aG:j+1<l.length)(q:Nat):((l.set (j+1) l[j]).set j l[j+1]).getD q 0=if q=j then l.getD (j+1) 0 else if q=j+1 then l.getD j 0 else l.getD q 0:=by
 simp only[nQ];by_cases e:q=j
 ·subst e;rw[if_pos I,Zv (by rw[wO];omega),eS aG]
 ·rw[if_neg e,Zw (om e)];by_cases aV:q=j+1
  ·subst aV;rw[if_pos I,Zv aG,eS (show j<l.length by omega)]
  ·rw[if_neg aV,Zw (om aV)]
def vR.swap{l:List Nat}{i j:Nat}(h:vR l i (j+1))(aG:j+1<l.length)(DU:j+1<=i)(h2:l.getD (j+1) 0<l.getD j 0):vR ((l.set (j+1) l[j]).set j l[j+1]) i j:=λp q h1 h3 aN=>by
 rw[a0P aG,a0P aG,if_neg aN];by_cases e:q=j+1
 ·rw[if_pos e];by_cases aV:p=j
  ·rw[if_pos aV];omega
  ·rw[if_neg aV,if_neg U];exact h p j U U U
 ·rw[if_neg e];by_cases aV:p=j
  ·rw[if_pos aV];exact h (j+1) q U h3 e
  ·rw[if_neg aV];by_cases dp:p=j+1
   ·rw[if_pos dp];exact h j q U h3 e
   ·rw[if_neg dp];exact h p q h1 h3 e
def tX.B5{l:List Nat}{i:Nat}(h:tX l i)(hi:l.length<=i):l.Pairwise (· ≤ ·):=JG.2 λp q ay aP hH=>by
 have:=h p q hH U;rwa[nQ,nQ,eS ay,eS aP] at this
def b7E{l:List Nat}{j:Nat}(aG:j+1<l.length):((l.set (j+1) l[j]).set j l[j+1]).Perm l:=Zt (i:=j+1) (j:=j) U U
section
variable {b:b8}{K:Nat->List AV->AV->Prop}(hf:∀g aB r bS,K g aB r->K g aB bS->r=bS)
include hf in
theorem b7F(hh:bc (b.aQ K) zT Cc){l:List Nat}(ka:∀a∈l,∀c∈l,K mb [dD a,dD c] (.b (decide (a<c))))(k2:b.ext mb=0/\b.pure mb=true){v:AV}(ao:l.length<=12)(J:ag)(hA:Acc J none v (l.map dD)):
  bw (b.aQ K) 0 (.f (.func zT) [] []) [v,aw 0,aw l.length] J (λr af=>r= .ok (.a6 [])/\af.next=J.next/\(∃bq:List Nat,bq.Perm l/\bq.Pairwise (· ≤ ·)/\Acc af none v (bq.map dD))/\∀i o,v.dU ≠some i->J.get i=some o->af.get i=some o):=by
 refine bw.pI hh.e hh.p hh.f I I I ?_;refine aa.seq (aa.region ?_);refine ab.go I I I I ?_;refine ab.bin (a:=aw 0) (b:=aw 1) I I I I (ir U) ?_;refine ab.go I I I I ?_;refine ab.nil (aa.block ?_);refine aa.loop (λm f ah=>∃(i:Nat) (bq:List Nat),i+m=l.length+1/\1<=i/\tX bq i/\bq.Perm l/\Acc ah none v (bq.map dD)/\ah.next=J.next/\(∀i o,v.dU ≠some i->J.get i=some o->ah.get i=some o)∧
  sat [(0,v),(1,aw 0),(2,aw l.length),(6,aw i)] f) ?_ l.length ⟨1,l,U,U,λp q h1 h2=>by omega,.refl _,hA,rfl,λi o _ h=>h,b9⟩
 intro m g ah ⟨i,bq,hi,pT,vS,ay,hr,hn,hold,hL⟩;refine aa.norm _ hL λg=>?_;clear hL;refine aa.seq (aa.seq (aa.region ?_));refine ab.go I I I I ?_;refine ab.go I I I I ?_;refine ab.bin (a:=aw i) (b:=aw l.length) (v:=.b (decide (i<l.length))) I I I I (cG I) ?_;refine ab.nil ?_;refine aa.cl I (λht=>?_) (λdP=>?_)
 ·have hlt:i<l.length:=of_decide_eq_true ht;have sb:=ay.length_eq;refine aa.skip (aa.seq ?_);refine aa.block (aa.seq (aa.region ?_));refine ab.go I I I I ?_;refine ab.go I I I I ?_;refine ab.nil (aa.block ?_);refine aa.loop (λm f ah=>m<=i/\∃bq:List Nat,vR bq i m/\bq.Perm l/\Acc ah none v (bq.map dD)/\ah.next=J.next/\(∀i o,v.dU ≠some i->J.get i=some o->ah.get i=some o)∧
   sat [(0,v),(1,aw 0),(2,aw l.length),(6,aw i),(7,aw m)] f) ?_ i ⟨b6 _,bq,vS.x,ay,hr,hn,hold,b9⟩
  clear hr hold hn ay sb vS;intro j g ah ⟨DU,bq,Rq,ay,hr,hn,hold,hL⟩;refine aa.norm _ hL λg=>?_;clear hL;have sb:=ay.length_eq;have fin:tX bq (i+1)->∀ {f:Nat->AV},sat [(0,v),(1,aw 0),(2,aw l.length),(6,aw i)] f->ch (b.aQ K) none [] 49 (.region [⟨(some 13),.cD (.t 6),none,[]⟩,⟨(some 14),.bin .add (.t 13) (.c (.i .i64 1)),none,[]⟩,⟨(some 6),.cD (.t 14),none,[]⟩]) f ah (λx bD af=>match x with
   | .normal=>∃aK,aK<m/\∃(i:Nat) (bq:List Nat),i+aK=l.length+1/\1<=i/\tX bq i/\bq.Perm l/\Acc af none v (bq.map dD)/\af.next=J.next/\(∀i o,v.dU ≠some i->J.get i=some o->af.get i=some o)/\sat [(0,v),(1,aw 0),(2,aw l.length),(6,aw i)] bD
   |_=>False):=by
   intro Rr f ak;refine aa.norm _ ak λg=>?_;refine aa.region ?_;refine ab.go I I I I ?_;refine ab.bin (a:=aw i) (b:=aw 1) I I I I (ir U) ?_;refine ab.go I I I I ?_;exact ab.nil ⟨m-1,U,i+1,bq,U,U,Rr,ay,hr,hn,hold,b9⟩
  obtain⟨o,au,ho,dX⟩:=hr.inv (by rw[cb];omega);rw[cb] at au;subst au;refine aa.seq (aa.seq (aa.draw I I ?_));refine cd.go I I I I ?_;refine cd.go I I I I ?_;refine cd.cmp (a:=j) (b:=0) I I I I I ?_;by_cases Gc:0<j
  ·rw[show decide (0<j)=true from decide_eq_true Gc];obtain⟨j,rfl⟩:∃q,j=q+1:=⟨j-1,U⟩
   have n7:j+1<bq.length:=by omega
   have aF:dB none (((bq.map dD).flatMap AV.cells).drop (0+(j+1)*shN none))=some (dD bq[j+1]):=by
    rw[vI (by rw[cb];omega) dX,ic]
   have aV:dB none (((bq.map dD).flatMap AV.cells).drop (0+j*shN none))=some (dD (bq[j]'U)):=by
    rw[vI (by rw[cb];omega) dX,ic]
   refine cd.go I I I I ?_;refine cd.go I I I I ?_;refine cd.go I I I I ?_;refine cd.idx (j:=j+1) I I I I (kM n7) ?_;refine cd.a0 (v:=dD bq[j+1]) ho I I I aF ?_;refine cd.go I I I I ?_;refine cd.go I I I I ?_;refine cd.bin (a:=aw (j+1)) (b:=aw 1) I I I I (jS U U) ?_;refine cd.idx (j:=j) I I I I (kM U) ?_;refine cd.a0 (v:=dD (bq[j]'U)) ho I I I aV ?_;refine cd.known hf k2.1 k2.2 (ka bq[j+1] (ay.mem_iff.1 (c3 _)) (bq[j]'U) (ay.mem_iff.1 (c3 _))) I I I (lq I I) ?_;refine cd.go I I I I ?_;refine cd.nil ?_;refine aa.cl I (λtw=>?_) (λtw=>?_)
   ·refine aa.skip (aa.seq (aa.block (aa.xx 0 I (gK.fin (gs:=[]) .nil I ?_))));refine ab.go I I I I ?_;refine ab.go I I I I ?_;refine ab.go I I I I ?_;refine ab.go I I I I ?_;refine ab.bin (a:=aw (j+1)) (b:=aw 1) I I I I (jS U U) ?_;refine ab.go I I I I ?_;refine ab.go I I I I ?_;refine ab.bin (a:=aw (j+1)) (b:=aw 1) I I I I (jS U U) ?_;refine ab.idx (j:=j) I I I I (kM U) ?_;refine ab.a0 (v:=dD (bq[j]'U)) ho I I I aV ?_;refine ab.go I I I I ?_;refine ab.go I I I I ?_;refine ab.idx (j:=j+1) I I I I (kM n7) ?_;refine ab.a0 (v:=dD bq[j+1]) ho I I I aF ?_;refine ab.idx (j:=j+1) I I I I (kM n7) ?_;refine ab.La (j:=j+1) (y:=dD (bq[j]'U)) (v:=.aq o 0 bq.length none none) hr I (by rw[cb];omega) I I I I λc2 dQ Rk bM=>?_;refine ab.idx (j:=j) I I I I (kM U) ?_;refine ab.La (j:=j) (y:=dD bq[j+1]) Rk I (by rw[wO,cb];omega) I I I I λca dC Rl ba=>?_;refine ab.nil ⟨rfl,?_⟩;refine aa.region ?_;refine ab.go I I I I ?_;refine ab.bin (a:=aw (j+1)) (b:=aw 1) I I I I (jS U U) ?_;refine ab.go I I I I ?_;refine ab.nil ⟨j,U,U,(bq.set (j+1) (bq[j]'U)).set j bq[j+1],?_,(b7E n7).trans ay,?_,U,λi bV h lO=>ba i bV (λe=>h (by rw[e];rfl)) (bM i bV (λe=>h (by rw[e];rfl)) (hold i bV h lO)),b9⟩
    ·refine Rq.swap n7 U ?_;have:=of_decide_eq_true tw;rwa[nQ,nQ,eS n7,eS (show j<bq.length by omega)]
    ·rw[KW,KW];exact Rl
   ·refine aa.exit ?_;have Rr:tX bq (i+1):=Rq.done (by
     have:=of_decide_eq_false tw;rw[nQ,nQ,eS n7,eS (show j<bq.length by omega)];show bq[j]<=bq[j+1];omega)
    exact(fin Rr b9).mono λx f J h=>by cases x<;>first|exact h|exact h.elim
  ·rw[show decide (0<j)=false from decide_eq_false Gc];refine pJ ?_;refine aa.cl I (λh=>by cases h) (λ_=>?_);refine aa.exit ?_;have b7G:j=0:=by omega
   subst b7G;exact(fin Rq.zero b9).mono λx f J h=>by cases x<;>first|exact h|exact h.elim
 ·have iX:¬i<l.length:=of_decide_eq_false dP;refine aa.exit ?_;refine⟨.inr I,rfl,hn,⟨bq,ay,?_,hr⟩,hold⟩;exact vS.B5 (by have:=ay.length_eq;omega)
include hf in
theorem b7H(hh:bc (b.aQ K) Cp Ft)(hi:bc (b.aQ K) zT Cc){l:List Nat}(ka:∀a∈l,∀c∈l,K mb [dD a,dD c] (.b (decide (a<c))))(k2:b.ext mb=0/\b.pure mb=true){v:AV}(ao:l.length<=12)(q:Int)(J:ag)(hA:Acc J none v (l.map dD)):
  bw (b.aQ K) 0 (.f (.func Cp) [] []) [v,aw 0,aw l.length,.i .i64 q] J (λr af=>r= .ok (.a6 [])/\af.next=J.next/\(∃bq:List Nat,bq.Perm l/\bq.Pairwise (· ≤ ·)/\Acc af none v (bq.map dD))/\∀i o,v.dU ≠some i->J.get i=some o->af.get i=some o):=by
 refine bw.pI hh.e hh.p hh.f I I I ?_;refine aa.seq (aa.region ?_);refine ab.go I I I I ?_;refine ab.nil (aa.seq (aa.region ?_));refine ab.go I I I I ?_;refine ab.nil (aa.block ?_);refine aa.loop (λm f ah=>ah=J/\sat [(0,v),(1,aw 0),(2,aw l.length)] f) ?_ 0 b9;rintro m g ah ⟨rfl,hL⟩;refine aa.norm _ hL λg=>?_;clear hL;refine aa.block (aa.seq (aa.region ?_));refine ab.go I I I I ?_;refine ab.go I I I I ?_;refine ab.bin (a:=aw l.length) (b:=aw 0) I I I I (jS U U) ?_;refine ab.go I I I I ?_;refine ab.nil (aa.seq (aa.seq (aa.region ?_)));refine ab.go I I I I ?_;refine ab.bin (a:=aw (l.length-0)) (b:=aw 12) (v:=.b (decide (l.length-0<=12))) I I I I (cG I) ?_;rw[show decide (l.length-0<=12)=true from decide_eq_true U];refine ab.nil (aa.cl I (λ_=>?_) (λh=>by cases h));refine aa.seq (aa.region ?_);refine ab.go I I I I ?_;refine ab.go I I I I ?_;refine ab.go I I I I ?_;refine ab.dW I I I (b7F hf hi ka k2 ao ah hA) λr bA ⟨aF,h1,h2,h3⟩=>⟨_,aF,?_⟩
 exact ab.nil (aa.ret ⟨.inl I,rfl,h1,h2,h3⟩)
include hf in
theorem b7I(hh:bc (b.aQ K) FQ Ko)(qw:bc (b.aQ K) sf tE)(cf:bc (b.aQ K) qU se)(ay:bc (b.aQ K) Cp Ft)(hi:bc (b.aQ K) zT Cc){l:List Nat}(ka:∀a∈l,∀c∈l,K mb [dD a,dD c] (.b (decide (a<c))))(k2:b.ext mb=0/\b.pure mb=true){v:AV}(ao:l.length<=12)(J:ag)(hA:Acc J none v (l.map dD)):
  bw (b.aQ K) 0 (.f (.func FQ) [] []) [v] J (λr af=>r= .ok (.a6 [])/\af.next=J.next/\(∃bq:List Nat,bq.Perm l/\bq.Pairwise (· ≤ ·)/\Acc af none v (bq.map dD))/\∀i o,v.dU ≠some i->J.get i=some o->af.get i=some o):=by
 refine bw.pI hh.e hh.p hh.f I I I ?_;refine aa.seq (aa.region ?_);refine ab.go I I I I ?_;refine ab.len (m:=l.length) I I I (by have:=hA.len (ah:=J);rwa[cb] at this) ?_;refine ab.go I I I I ?_;refine ab.nil (aa.region ?_);refine ab.go I I I I ?_;refine ab.go I I I I ?_;refine ab.go I I I I ?_;refine ab.val I I (Lb (m:=Int.ofNat l.length) I _) ?_;have hw:wrapN .u64 (Int.ofNat l.length)=Int.ofNat l.length:=by
  have:(l.length:Int)<18446744073709551616:=by omega
  simp[wrapN,IntKind.wrap,IntKind.bits,IntKind.signed];omega
 rw[hw];refine ab.dW I I I (a0J qw cf l.length U J) λr bA ⟨⟨q,aF⟩,aV⟩=>⟨_,aF,?_⟩
 subst aV;refine ab.dW I I I (b7H hf ay hi ka k2 ao q bA hA) λr c8 ⟨aF,h1,h2,h3⟩=>⟨_,aF,?_⟩
 exact ab.nil ⟨.inr I,rfl,h1,h2,h3⟩
include hf in
theorem b7J(hh:bc (b.aQ K) KQ Qo)(ae:bc (b.aQ K) FP Kn)(ha:bc (b.aQ K) Co Fs)(ik:bc (b.aQ K) pP zJ)(ak:bc (b.aQ K) FQ Ko)(qw:bc (b.aQ K) sf tE)(cf:bc (b.aQ K) qU se)(ay:bc (b.aQ K) Cp Ft)(hi:bc (b.aQ K) zT Cc)
  {bU dK:Nat} {a7:List Nat} (ka:∀a∈a7,∀c∈a7,K mb [dD a,dD c] (.b (decide (a<c)))) (k2:b.ext mb=0/\b.pure mb=true) (vJ:a7.length<=12) (J:ag) (hm:J.get bU=some (.map (setE dD 0 a7) a7.length)) (iK:J.get dK=some (.cells [.m (some bU)])):
  bw (b.aQ K) 0 (.f (.func KQ) [] []) [.f (.func pP) [] [.p (some (dK,0))]] J (λr af=>∃(v:AV) (c:List Nat),r= .ok v/\c.Perm a7/\c.Pairwise (· ≤ ·)/\Acc af none v (c.map dD)/\(∀a,v.dU =some a->J.next<=a)/\mV J af):=by
 refine bw.code hh.e hh.p hh.f I I I I ?_;refine aa.seq (aa.region ?_);refine ab.go I I I I ?_;refine ab.nil (aa.seq (aa.region ?_));refine ab.go I I I I ?_;refine ab.dW I I I (b7w ae ha ik U J hm iK) λr bA ⟨v,c,aF,h1,h2,h3,aN⟩=>⟨_,aF,?_⟩
 have j9:=h1.length_eq;refine ab.go I I I I ?_;refine ab.nil (aa.seq (aa.region ?_));refine ab.go I I I I ?_;refine ab.dW I I I (b7I hf ak qw cf ay hi (l:=c) (λa rS d an=>ka a (h1.mem_iff.1 rS) d (h1.mem_iff.1 an)) k2 U bA h2) λr c8 ⟨aV,fY,⟨bq,oF,xo,hr⟩,bj⟩=>⟨_,aV,?_⟩
 refine ab.nil (aa.seq (aa.region ?_));refine ab.go I I I I ?_;refine ab.go I I I I ?_;have hn:=aN.1;exact ab.nil (aa.ret ⟨rfl,_,bq,rfl,oF.trans h1,xo,hr,h3,U,λi o ho=>bj i o (λe=>by have:=h3 i e;have:=ag.cJ ho;omega) (aN.2 i o ho)⟩)
end
section
def Rs(env:Env)(g:Nat)(cap:List AV)(N:Nat)(A:Nat->(Nat->Prop)->ag->List AV->Prop)(J:ag)(jY:Nat->Prop):Prop:=
 ∀(y:Nat) (fu:tQ) (ah:ag),Cw ah.next fu->(∀i W c2 args,i<N->ah.next<=c2.next->A i W c2 args->fu i W c2->bw env 0 (.f (.yield y) [] []) args c2 (λr ca=>r= .ok (.b true)/\∃W',fu (i+1) W' ca/\ib W W' c2 ca))→
  J.next<=ah.next->(∀c o,J.get c=some o->ah.get c=some o)->(∀c,jY c->c<J.next)->fu 0 jY ah->bw env 0 (.f (.func g) [] cap) [.f (.yield y) [] []] ah (λr a1=>r= .ok (.a6 [])/\∃W',fu N W' a1)
def cO.b7K{env:Env}{D:List (Nat ⊕ (AV×List AV))}{n:Nat}{f:Nat->AV}{J:ag}{Q:eR}{jG:aH}{aE:List Nat}{ep mQ:bC}{g:Nat}{cap:List AV}{k:Nat}(N:Nat)(dH:tQ)(A:Nat->(Nat->Prop)->ag->List AV->Prop)(jY:Nat->Prop)(aC:J.next=k)
  (jQ:dc env n f jG=some (.f (.func g) [] cap)) (he:env.ext g=0) (ay:cB (λp=>Nat.blt p n) aE=true) (hlen:∀i W ah args,A i W ah args->args.length=aE.length)
  (cR:∀i W ah a1,dH i W ah->(∀c o,W c->ah.get c=some o->a1.get c=some o)->ah.next<=a1.next->dH i W a1) (h0:dH 0 jY J) (Aa:∀c,jY c->c<k) (cc:Rs env g cap N A J jY)
  (zW:∀i W ah args,i<N->A i W ah args->dH i W ah->(∀c,ah.get (k+1)≠some (.cells c))->(∀c,W c->c<k\/k+2<=c)->k+2<=ah.next->(∀c o,¬jY c->J.get c=some o->ah.get c=some o)->ch env (some (k+1)) [] n ep (J0 aE args f) ah (λx f1 c2=>x= .normal/\(ah.next<=c2.next/\∀c o,ah.get c=some o->c2.get c=some o)∧
   ∀ca,ca.next=c2.next->(∀c o,c≠k+1->c2.get c=some o->ca.get c=some o)->dH i W ca->ch env (some (k+1)) [] n mQ f1 ca (λx _ c_=>x= .normal/\∃W',dH (i+1) W' c_/\ib W W' ca c_)))
  (zX:∀W ah,dH N W ah->ah.get k=some .dN->k+2<=ah.next->(∀c o,¬jY c->J.get c=some o->ah.get c=some o)->(∀c,W c->jY c\/k+2<=c)->Q .normal f ah):cO env D (.inl k::D) n (.rangeFunc jG aE ep mQ) f J Q:=by
 subst aC;refine cO.range jQ he λaq gi=>?_;generalize aC:J.next=k at *;have qI:((J.push .dN).push (.loop .ready none aq aE ep mQ k)).get (k+1)=some (.loop .ready none aq aE ep mQ k):=by
  have:=ag.ij (J:=J.push .dN) (.loop .ready none aq aE ep mQ k);rwa[show(J.push .dN).next=k+1 from by show J.next+1=_;rw[aC]] at this
 have oP:∀i o,J.get i=some o->((J.push .dN).push (.loop .ready none aq aE ep mQ k)).get i=some o:=λi o ho=>by
  have:=ag.cJ ho;rw[ag.fy trivial _ (show i<(J.push .dN).next from by show i<J.next+1;omega),ag.fy trivial _ this];exact ho
 have QI:((J.push .dN).push (.loop .ready none aq aE ep mQ k)).get k=some .dN:=by
  rw[ag.fy trivial _ (show k<(J.push .dN).next from by show k<J.next+1;omega)];have:=ag.ij (J:=J) .dN;rwa[aC] at this
 have i_:((J.push .dN).push (.loop .ready none aq aE ep mQ k)).next=k+2:=by show J.next+1+1=_;rw[aC]
 generalize(J.push .dN).push (.loop .ready none aq aE ep mQ k)=bA at *;refine(cc (k+1) (λi W ah=>dH i W ah/\ah.get (k+1)=some (.loop .ready none aq aE ep mQ k)/\k+2<=ah.next/\ah.get k=some .dN/\(∀c,W c->jY c\/k+2<=c)/\∀c o,¬jY c->J.get c=some o->ah.get c=some o) bA ?_ ?_ U oP (λc ae=>by rw[aC];exact Aa c ae) ?_).mono ?_
 ·rintro i W ah a1 ⟨a9,bt,cW,eD,e4,jt⟩ cH hn;exact⟨cR i W ah a1 a9 (λc o ae=>cH c o (.inr ae)) hn,cH _ _ (.inl U) bt,U,cH _ _ (.inl U) eD,e4,λc o ae ho=>cH c o (.inl (by have:=ag.cJ ho;omega)) (jt c o ae ho)⟩
 ·rintro i W ah args hi hn hA ⟨a9,bt,cW,eD,e4,jt⟩;have mc:∀c,W c->c<k\/k+2<=c:=λc ae=>by
   rcases e4 c ae with h|h
   ·exact .inl (Aa c h)
   ·exact .inr h
  refine(bw.round (az:=λca=>∃W',(dH (i+1) W' ca/\ca.get (k+1)=some (.loop .ready none aq aE ep mQ k)/\k+2<=ca.next/\ca.get k=some .dN/\(∀c,W' c->jY c\/k+2<=c)/\∀c o,¬jY c->J.get c=some o->ca.get c=some o)/\ib W W' ah ca) (f:=f) (n:=n) bt gi ay (by rw[hlen i W ah args hA];exact fE _) ?_).mono λr af h=>h;refine(zW i W ah args hi hA a9 (λc e=>by rw[bt] at e;cases e) mc cW jt).mono λx f1 c2 ⟨aF,aV,h1⟩=>?_;have a0Q:=aV.2 _ _ bt;have b7L:=cR i W ah c2 a9 (λc o _=>aV.2 c o) aV.1;have eG:=hX (bV:=.loop .busy none aq aE ep mQ k) a0Q;have Rt:¬W (k+1):=λh=>by rcases mc _ h with h|h<;>omega
  have b7M:¬W k:=λh=>by rcases mc _ h with h|h<;>omega
  have b3:=aV.1;refine⟨aF,a0Q,(h1 (c2.set (k+1) (.loop .busy none aq aE ep mQ k)) I (λc o ae ho=>eG.2 c o ae ho) (cR i W _ _ b7L (λc o ae ho=>eG.2 c o (λe=>Rt (e▸ae)) ho) (b6 _))).mono λx _ c_ ⟨dp,W',bz,cg⟩=>?_⟩;have md:=cg.bK _ _ Rt eG.1;have me:=hX (bV:=.loop .ready none aq aE ep mQ k) md;have fY:c2.next<=c_.next:=cg.next;have own:∀c,W' c->W c\/c2.next<=c:=λc ae=>(cg.own c ae).imp id And.left;have Ru:¬W' (k+1):=λh=>by rcases own _ h with h|h;exact Rt h;omega
  have cq:∀c o,¬W c->c≠k+1->ah.get c=some o->(c_.set (k+1) (.loop .ready none aq aE ep mQ k)).get c=some o:=λc o ae b_ ho=>me.2 c o b_ (cg.bK c o ae (eG.2 c o b_ (aV.2 _ _ ho)));refine⟨dp,md,W',⟨cR _ _ _ _ bz (λc o ae ho=>me.2 c o (λe=>Ru (e▸ae)) ho) (b6 _),me.1,by show k+2<=c_.next;omega,cq k _ b7M U eD,λc ae=>?_,λc o ae ho=>?_⟩,by show ah.next<=c_.next;omega,λc o ae ho=>?_,λc ae=>(cg.own c ae).imp id λh=>⟨by have h1:c2.next<=c:=h.1;omega,h.2⟩⟩
  ·rcases own c ae with h|h
   ·exact e4 c h
   ·exact .inr U
  ·have hlt:=ag.cJ ho;by_cases a0R:W c
   ·rcases e4 c a0R with h|h
    ·exact absurd h ae
    ·omega
   ·exact cq c o a0R U (jt c o ae ho)
  ·by_cases ao:c=k+1
   ·subst ao;rw[bt] at ho;cases ho;exact me.1
   ·exact cq c o ae ao ho
 ·exact⟨cR 0 jY J bA h0 (λc o _ ho=>oP c o ho) U,qI,U,QI,λc ae=>.inl ae,λc o _ ho=>oP c o ho⟩
 ·rintro r ah ⟨aF,W',a9,bt,cW,eD,e4,jt⟩;have eG:=hX (bV:=.loop .exhausted none aq aE ep mQ k) bt;have Ru:¬W' (k+1):=λh=>by
   rcases e4 _ h with h|h
   ·have:=Aa _ h;omega
   ·omega
  exact⟨_,.ready,aF,bt,aT,zX W' _ (cR _ _ _ _ a9 (λc o ae ho=>eG.2 c o (λe=>Ru (e▸ae)) ho) (b6 _)) (eG.2 _ _ U eD) cW (λc o ae ho=>eG.2 c o (by have:=ag.cJ ho;omega) (jt c o ae ho)) e4⟩
attribute [local irreducible] cz ch dE fq bw
def Rv(L:List (List Nat))(i:Nat)(_:Nat->Prop)(_:ag)(args:List AV):Prop:=∃s,L[i]? =some s/\args=[.s s]
section
variable {b:b8}{K:Nat->List AV->AV->Prop}
abbrev lU:List Nat->Nat:=λ_=>0
def b7N(hh:bc (b.aQ K) KP Qr)(F:Fm)(J:ag)(k:Nat)(aC:J.next=k):bw (b.aQ K) 0 (.f (.func KP) [] []) [.ad (bm F)] J (λr ah=>r= .ok (.f (.func FO) [] [bT k])/\ah.next=k+1/\ah.get k=some (.cells (bm F))/\∀c o,J.get c=some o->ah.get c=some o):=by
 refine W.code hh.e hh.p hh.f I I I I λz=>?_;have H:Has J []:=Has.nil;refine aO ?_;refine W.dK (c:=bm F) H aC I I I I I λah dQ H bM=>?_;refine aO ?_;exact aa.ret ⟨rfl,rfl,dQ,H.fK,bM⟩
def b7O(h0:bc (b.aQ K) FO Qt)(hh:bc (b.aQ K) zQ B_)(ht:bc (b.aQ K) zS Ca)(h1:bc (b.aQ K) vD Cb)(BI:(b.aQ K).funcs zR=some Fv)(aP:bc (b.aQ K) Cm Fu){F:Fm}(jF:F.ok)(an:F.dep<=2^20){k:Nat}{J:ag}(aC:J.get k=some (.cells (bm F)))(jY:Nat->Prop)(Aa:¬jY k):
  Rs (b.aQ K) FO [bT k] (fO lU F).length (Rv (fO lU F)) J jY:=by
 intro y fu ah cR aI hn b7P hW tU;refine W.pI h0.e h0.p h0.f I I I λz=>?_;have H:Has ah [(k,bm F)]:=Has.nil.cons (b7P _ _ aC) aT;refine aO ?_;generalize g5:ah.next=q at cR aI;refine W.a0n H g5 I I λc2 dQ H hm bM=>?_;refine aO ?_;have b7Q:¬jY q:=λh=>by have:=hW q h;omega
 refine W.js I I I (a0H hh ht h1 BI aP (fW:=q) (L:=fO lU F) cR (b6 _) (λi V c2 s h1 h2 h3=>aI i V c2 [.s s] (lG.1 h2).1 h1 ⟨s,h2,rfl⟩ h3) F.dep F (b6 _) jF lU (λs=>by show 0+F.dep<=_;omega) 0 jY c2 [] (cR _ _ _ _ tU (λc o _=>bM c o) U) ⟨[],hm,λs=>rfl⟩ (λc ae=>by have:=hW c ae;omega) b7Q U (by rw[fp];rfl)) λr ca ⟨e,dj,Cz,qE,tV,fk,CA⟩=>⟨_,e,?_⟩
 refine aO ?_;exact⟨.inr I,rfl,dj,by rw[lQ] at Cz;exact Cz⟩
def mY(l:List Nat):List Nat:=l.foldl (λa k=>lS k a) []
def b7R{l:List Nat}{j:Nat}(aG:j<l.length):mY (l.take (j+1))=lS l[j] (mY (l.take j)):=by
 unfold mY;rw[lv aG,List.foldl_append];rfl
def b7S{k a:Nat}{l:List Nat}:a∈lS k l↔a=k\/a∈l:=by
 unfold lS;split
 ·next h=>exact⟨.inr,λh'=>h'.elim (λe=>e▸h) id⟩
 ·rw[gN,dx];exact Or.comm
def b7T{k:Nat}{l:List Nat}(h:l.Nodup):(lS k l).Nodup:=by
 unfold lS;split
 ·exact h
 ·next aC=>exact Zx.2 ⟨h,aT,λa ha c ae e=>aC (by rw[dx.1 ae] at e;exact e▸ha)⟩
def b7U(l:List Nat):(∀a,a∈mY l↔a∈l)/\(mY l).Nodup:=by
 have:∀(l acc:List Nat),acc.Nodup->(∀a,a∈l.foldl (λa k=>lS k a) acc↔a∈l\/a∈acc)/\(l.foldl (λa k=>lS k a) acc).Nodup:=by
  intro l
  induction l with
  |nil=>intro acc h;exact⟨λa=>by simp,h⟩
  |cons x l ar=>
   intro acc h;obtain⟨h1,h2⟩:=ar (lS x acc) (b7T h);refine⟨λa=>?_,h2⟩;rw[Nl,h1,b7S,eH];exact⟨λh=>h.elim (λh=>.inl (.inr h)) λh=>h.elim (λh=>.inl (.inl h)) .inr,λh=>h.elim (λh=>h.elim (λh=>.inr (.inl h)) .inl) λh=>.inr (.inr h)⟩
 obtain⟨h1,h2⟩:=this l [] QH;exact⟨λa=>by rw[mY,h1];simp,h2⟩
def b7V(hh:bc (b.aQ K) KO Qq){g:Nat}{cap:List AV}{l:List Nat}(he:(b.aQ K).ext g=0)(J:ag)
  (b7W:∀(af:ag) (jY:Nat->Prop),J.next<=af.next->(∀c o,J.get c=some o->af.get c=some o)->(∀c,jY c->J.next<=c)->Rs (b.aQ K) g cap (l.map nm4).length (Rv (l.map nm4)) af jY):
  bw (b.aQ K) 0 (.f (.func KO) [] []) [.f (.func g) [] cap] J (λr ah=>r= .ok (.m (some J.next))/\ah.get J.next=some (.map (setE dD 0 (mY l)) (mY l).length)/\J.next<=ah.next/\∀c o,J.get c=some o->ah.get c=some o):=by
 have H:Has J []:=Has.nil;generalize aP:J.next=q;refine W.b7b (d:=q+2) hh.e hh.p hh.f I I I λz=>?_;refine cO.jT ?_;refine aO ?_;refine⟨rfl,cO.jT ?_⟩;refine aO ?_;refine W.a0n H aP I I λc2 dQ H hm bM=>?_;refine W.hI (c:=[.m none]) H dQ I I I λca dC H ba=>?_;refine aO ?_;refine W.st (bn:=[.m (some q)]) H 0 I I I I I I λc_ fY H bj=>?_;refine aO ?_;refine⟨rfl,cO.xu (cO.jT ?_)⟩;refine aO ?_;have b7X:c_.next=q+2:=by omega
 have tm:c_.get q=some (.map (setE dD 0 (mY [])) (mY []).length):=bj _ _ U (ba _ _ hm);have cq:∀c o,J.get c=some o->c_.get c=some o:=λc o h=>by
  have:=ag.cJ h;exact bj _ _ U (ba _ _ (bM _ _ h))
 have rH:c_.get (q+1)=some (.cells [.m (some q)]):=H.fK;refine⟨rfl,cO.block ?_⟩;refine cO.b7K (k:=q+2) (l.map nm4).length (λi W ah=>ah.get q=some (.map (setE dD 0 (mY (l.take i))) (mY (l.take i)).length)/\W q) (Rv (l.map nm4)) (λc=>c=q) b7X I he I (λi W ah args ⟨s,_,e⟩=>by rw[e];rfl) (λi W ah a1 ⟨h,hw⟩ k _=>⟨k _ _ hw h,hw⟩) ⟨tm,rfl⟩ (λc ae=>by omega) (b7W c_ _ U cq λc ae=>by omega) ?_ ?_
 ·rintro i V ah args hi ⟨s,ak,rfl⟩ bz IH c6S w7 cH;refine aa.norm [(3,bT (q+1)),(7,.s s)] b9 λg=>?_;have H:Has ah []:=Has.nil;refine aO ?_;refine⟨rfl,⟨b6 _,λ_ _ h=>h⟩,λvT nf ga bz=>?_⟩;obtain⟨bz,tV⟩:=bz;have tc:i<l.length:=by rwa[cb] at hi
  have es:s=nm4 l[i]:=by rw[w4,eS tc] at ak;exact(A0 ak).symm
  subst es;have H:Has vT [(q+1,[.m (some q)])]:=Has.nil.cons (ga _ _ U (cH _ _ U rH)) aT;refine aO ?_;refine W.mu (key:=dD l[i]) (v:=.b true) bz I I I I (a0I _ _) (QZ a0I _ _ 0) λxT wY b7Y IV=>?_;refine aO ?_;refine⟨rfl,V,⟨?_,tV⟩,U,λc o ae ho=>IV c o (λe=>ae (e▸tV)) ho,λc ae=>.inl ae⟩;rw[b7Y,b7R tc];unfold lS;split
  ·rfl
  ·rw[QY,h5,lQ];rfl
 ·intro V ah ⟨bz,tV⟩ tN rW cH mc;refine⟨rfl,rfl,?_⟩;have H:Has ah [(q+1,[.m (some q)])]:=Has.nil.cons (cH _ _ U rH) aT;refine aa.norm [(3,bT (q+1))] ⟨rfl,trivial⟩ λg=>?_;refine aO ?_;have eG:=hX (bV:=.dead) tN;rw[cb,so (b6 _)] at bz;refine aa.ret ⟨rfl,tN,_,mW (k8 I),rfl,eG.2 _ _ U bz,by show q<=ah.next;omega,λc o ho=>?_⟩;have:=ag.cJ ho;exact eG.2 _ _ U (cH _ _ U (cq _ _ ho))
end
end
def Lr(x:cQ×ag)(a_:AV)(cs:List (List AV)):Prop:=∃(v:AV) (af:ag) (ids:List Nat),x=(.ok v,af)/\ids.Nodup/\cs.length=ids.length/\okV ids a_=true/\Fe ids a_=v/\∀i (h:i<cs.length) (h':i<ids.length),af.get ids[i]=some (.cells (cs[i].map (r_ ids)))/\∀x∈cs[i],sa ids x=true
section
variable {P:Program}{env:Env}
def b7Z(fS:px P env)(ei:zx P env)(hex:tk P env)(jQ:P.follows .mixedOrders=true){n g:Nat}{aB:List AV}{l:List (cQ×ag)}(h:runF env (exec env n) 0 g aB ⟨.nil,0⟩=some l)
  {a_:AV} {cs:List (List AV)} (hall:∀x∈l,Lr x a_ cs) (bN:Nat):
  zk P env bN g aB a_ (cs.map AO.cells):=by
 refine⟨?_,λk rd w us eu cc ha=>?_⟩
 ·unfold runF at h;cases hg:env.funcs g with
  |none=>simp[hg] at h
  |some bG=>
   obtain⟨fn,h1,h2,h3⟩:=fS.funcs g bG hg;obtain⟨_,c,_,_,aN,_⟩:=D_ h2;exact⟨fn,c,h1,aN,h3⟩
 ·have EO:Globs env w w.heap.size:=λg v hg ej=>(cc g v hg ej).mono (λ_ _ h=>h) (b6 _) (λ_ _ h=>h) (λb _ hb=>⟨rfl,λho=>hb (lE eu ho)⟩);have b5:=JL fS (ei w.heap.size) hex jQ n;have nT:=PI (P:=P) w;have rS:bF w (λ_=>none) (bh ⟨.nil,0⟩ (λ_=>none)) w.heap.size aB us.toList:=ha.mono (λ_ _ h=>h) (b6 _) (λ_ _ h=>h) (λb _ _=>⟨rfl,PJ b⟩);obtain⟨_,ae⟩:=Eb fS b5 (Eg fS 0) h k rd nT EO rS;refine w3 ae (λe bf dh=>?_);obtain⟨ret,bu,eQ,b3,hU,hS,fl⟩:=dh;obtain⟨v,af,ids,hx,hnd,ao,au,Qc,hJ⟩:=hall _ eQ;cases hx;have hb:∀id aA,(ids[id]?).bind b3=some aA->∃(h:id<ids.length),b3 ids[id]=some aA:=λid aA hm=>by
   obtain⟨j,aG,hm⟩:=dy.1 hm;obtain⟨h1,h2⟩:=lG.1 aG;exact⟨h1,by rw[h2];exact hm⟩
  have r7:∀id c,(cs.map AO.cells)[id]? =some (.cells c)->∃(h:id<ids.length),bu.get ids[id]=some (.cells (c.map (r_ ids)))/\∀x∈c,sa ids x=true:=λid c ho=>by
   rw[w4] at ho;obtain⟨bn,h1,h2⟩:=eE.1 ho;cases h2;obtain⟨h3,aN⟩:=lG.1 h1;have:=hJ id h3 U;rw[aN] at this;exact⟨U,this⟩
  cases e with
  |returned u=>
   have hU:az bf b3 (bh bu b3) w.heap.size v u:=hU;refine⟨u,rfl,⟨λi=>(ids[i]?).bind b3,YQ au,YS au (by rw[Qc];exact hU),λid aA hm=>?_,λid aA c hm ho=>?_,λid eW aA c bn hm pg ho lO=>?_⟩,fl.size,λb hb=>fl.bK b hb (λ⟨_,_,h,_⟩=>by simp at h),fl.os,fl.tape,fl.out⟩
   ·obtain⟨h1,h2⟩:=hb _ _ hm;exact⟨hS.base _ _ h2,(hS.eV _ _ h2).1,by rw[cb];omega⟩
   ·obtain⟨h1,h2⟩:=hb _ _ hm;obtain⟨h3,aN,bY⟩:=r7 _ _ ho;obtain⟨arr,el,a2,iB,gO,h9,iE,nY⟩:=hS.cells h2 aN;rw[cb] at gO h9;refine⟨arr,el,a2,iB,h9,λi a b=>?_,iE,λx hx=>Ff (bY x hx)⟩;have:=gO.2 i (by rw[cb];exact a) (by rw[gO.1,cb];exact a);rw[ic] at this;exact Kb (bY _ (c3 a)) (by simpa using this)
   ·obtain⟨h1,h2⟩:=hb _ _ hm;obtain⟨oE,lN⟩:=hb _ _ pg;obtain⟨_,aN,_⟩:=r7 _ _ ho;obtain⟨_,Fg,_⟩:=r7 _ _ lO;have e:=hS.inj _ _ _ h2 lN ⟨_,aN,rfl⟩ ⟨_,Fg,rfl⟩;exact(List.getElem_inj hnd).1 e
  |panicked mL=>exact hU.elim
  |outgrown=>exact hU.elim
def b8a(fS:px P env)(ei:zx P env)(hex:tk P env)(jQ:P.follows .mixedOrders=true){g:Nat}{fn:bP}{body:bC}{aB:List AV}{a_:AV}{cs:List (List AV)}(hf:env.funcs g=some fn)(hb:fn.body=some body)
  (hn:(Nat.beq aB.length fn.ig&&Nat.ble aB.length fn.ntmps)=true) (h:fI env 0 none body (pe fn aB) ⟨.nil,0⟩ (PQ env 0 fn (λv af=>Lr (v,af) a_ cs))) (bN:Nat):zk P env bN g aB a_ (cs.map AO.cells):=by
 have h1:df (λF=>hP (exec env F 0 none body (pe fn aB) ⟨.nil,0⟩) (endF env 0 fn)) (λo=>Lr o a_ cs):=
  df.then (g:=λx _=>endF env 0 fn x) h λo ho=>by
   obtain⟨v,af,h1,h2⟩:=ho;exact df.one (λ_=>h1) h2
 obtain⟨dZ,l,ao,h2,h3⟩:=h1;have b5:runF env (exec env dZ) 0 g aB ⟨.nil,0⟩=some l:=by
  unfold runF;rw[hf];show(match fn.body with|none=>none|some body=>_)=_;rw[hb];show cond _ _ _=_;rw[hn,cond_true];exact h2 dZ (b6 _)
 exact b7Z fS ei hex jQ b5 h3 bN
end
section
variable {b:b8}{K:Nat->List AV->AV->Prop}
def a0S(rs:List (Nat×Option (Option Nat)))(a_:AV)(cs:List (List AV)):eR:=λx f af=>x= .ret/\∃v,tP af f rs=some v/\Lr (.ok v,af) a_ cs
def b8b{P:Program}(hb:jb P b)(eg:vq P b K){g:Nat}{fn:bP}{body:bC}{aB:List AV}{a_:AV}{cs:List (List AV)}(hf:b.funcs.get g=some fn)(iC:fn.body=some body)
  (hn:(Nat.beq aB.length fn.ig&&Nat.ble aB.length fn.ntmps)=true) (an:cB (λr=>Nat.blt r.1 fn.ntmps) fn.results=true)
  (h:aa (b.aQ K) fn.ntmps body (eh aB) ⟨.nil,0⟩ (a0S fn.results a_ cs)) (bN:Nat):zk P (b.env []) bN g aB a_ (cs.map AO.cells):=by
 have hle:aB.length<=fn.ntmps:=by
  simp only[c7] at hn;exact eb hn.2
 refine b8a (env:=b.aQ K) ⟨λg bG hg=>pF.zy hb.funcs g bG hg⟩ (λbN g aB r ak=>eg g aB r (EW ak) bN) hb.ext hb.vo hf iC hn ((h _ (qK hle)).mono λx ai af ⟨f,h1,h2,v,h3,aN⟩=>?_) bN;subst h2;exact⟨.ok v,_,a0l h1 an h3,aN⟩
attribute [local irreducible] cz ch dE fq bw
structure a0T(b:b8)(K:Nat->List AV->AV->Prop):Prop where
 fn:bc (b.aQ K) KP Qr
 f1:bc (b.aQ K) FO Qt
 nk:bc (b.aQ K) zQ B_
 Rw:bc (b.aQ K) zS Ca
 v1:bc (b.aQ K) vD Cb
 v2:(b.aQ K).funcs zR=some Fv
 q:bc (b.aQ K) Cm Fu
 st:bc (b.aQ K) KO Qq
 a7:bc (b.aQ K) KR Qp
 Rx:bc (b.aQ K) pP zJ
 c6:bc (b.aQ K) KQ Qo
 aU:bc (b.aQ K) FP Kn
 ap:bc (b.aQ K) Co Fs
 jH:bc (b.aQ K) FQ Ko
 Ry:bc (b.aQ K) sf tE
 Rz:bc (b.aQ K) qU se
 RA:bc (b.aQ K) Cp Ft
 ins:bc (b.aQ K) zT Cc
 el:b.ext mb=0/\b.pure mb=true
 IU:∀a c,K mb [dD a,dD c] (.b (decide (a<c)))
def b8c(hfn:∀g aB r bS,K g aB r->K g aB bS->r=bS)(hh:a0T b K){F:Fm}(jF:F.ok)(an:F.dep<=2^20){l:List Nat}(ao:fO lU F=l.map nm4)(EF:(mY l).length<=12){c:List Nat}(ae:∀bn:List Nat,bn.Perm (mY l)->bn.Pairwise (· ≤ ·)->bn=c)(body:bC)(hb:Kf.body=some body):
  aa (b.aQ K) Kf.ntmps body (eh [.ad (bm F)]) ⟨.nil,0⟩ (a0S Kf.results (match c with|[]=>.aj|x::c=>.aq 0 0 (c.length+1) none none) (match c with|[]=>[]|x::c=>[(x::c).map dD])):=by
 cases hb;refine W.n1 λz H=>?_;refine aO ?_;refine W.dK (c:=bm F) H I I I I I I λah dQ H bM=>?_;refine aO ?_;show cz _ _ _ _ _ _ (b4 ((3,.ad (bm F))::_) z) _ _;refine W.js I I I (b7N hh.fn F ah _ I) λr ca ⟨e,dC,ct,ba⟩=>⟨_,e,?_⟩
 generalize aC:ah.next=k at ct;refine W.js I I I (b7V hh.st (l:=l) hh.f1.e ca λaf jY hn cq hW=>?_) λr c_ ⟨e,eN,fY,bj⟩=>⟨_,e,?_⟩
 ·have:=b7O (K:=K) hh.f1 hh.nk hh.Rw hh.v1 hh.v2 hh.q jF an (J:=af) (cq _ _ ct) jY (λh=>by have:=hW k h;omega);rw[ao] at this;exact this
 refine W.js I I I (b7t hh.a7 _ c_ _ I) λr gz ⟨e,hM,fm,de⟩=>⟨_,e,?_⟩
 refine W.js I I I (b7J hfn hh.c6 hh.aU hh.ap hh.Rx hh.jH hh.Ry hh.Rz hh.RA hh.ins (λa _ c _=>hh.IU a c) hh.el EF gz (de _ _ eN) fm) λr g7 ⟨v,bn,e,ay,ak,hA,hT,xO⟩=>⟨_,e,?_⟩
 refine aO ?_;obtain rfl:=ae bn ay ak;refine aa.ret ⟨rfl,_,mW (k8 I),?_⟩;cases bn with
 |nil=>
  generalize au:([]:List Nat).map dD=xs at hA;cases hA with
  |nil=>exact⟨_,_,[],rfl,QH,rfl,rfl,rfl,λi h=>by simp at h⟩
  |aq o x xs h _=>cases au
 |cons x c=>
  generalize au:(x::c).map dD=xs at hA;cases hA with
  |nil=>cases au
  |aq o y a4 h _=>
   rw[mv] at au;injection au with aF aV
   subst aF;subst aV;refine⟨_,_,[o],rfl,aT,rfl,rfl,by rw[cb];rfl,λi hi du=>?_⟩;obtain rfl:i=0:=by simpa using du
   have dP:∀l:List Nat,(l.map dD).flatMap AV.cells=l.map dD:=λl=>by
    induction l with
    |nil=>rfl
    |cons a l ar=>rw[mv,j4,ar];rfl
   have b8d:∀l:List Nat,(l.map dD).map (r_ [o])=l.map dD:=λl=>by rw[kz];rfl
   refine⟨?_,λz aZ=>?_⟩
   ·show _=some (AO.cells (((x::c).map dD).map (r_ [o])));rw[b8d,← dP];exact h
   ·obtain⟨a,_,rfl⟩:=di.1 (show z∈(x::c).map dD from aZ);rfl
end
section
attribute [local irreducible] cz ch dE fq bw
def b8e:∀a c:Nat,hD (nm4 a) (nm4 c)=decide (a<c)
 |0,0=>rfl
 |0,c+1=>by
  show cond (Nat.blt 63 (120+c)) true _=_;rw[show Nat.blt 63 (120+c)=true from hO U,decide_eq_true (Nat.succ_pos c)];rfl
 |a+1,0=>by
  show cond (Nat.blt (120+a) 63) true (cond (Nat.beq (120+a) 63) _ false)=_;have h1:Nat.blt (120+a) 63=false:=by
   cases h:Nat.blt (120+a) 63 with
   |false=>rfl
   |true=>have:120+a<63:=eb h;omega
  have h2:Nat.beq (120+a) 63=false:=by
   cases h:Nat.beq (120+a) 63 with
   |false=>rfl
   |true=>have:=eM h;omega
  rw[h1,h2];rfl
 |a+1,c+1=>by
  show cond (Nat.blt (120+a) (120+c)) true (cond (Nat.beq (120+a) (120+c)) false false)=_;by_cases h:a<c
  ·rw[show Nat.blt (120+a) (120+c)=true from hO U,decide_eq_true (by omega:a+1<c+1)];rfl
  ·have h1:Nat.blt (120+a) (120+c)=false:=by
    cases h':Nat.blt (120+a) (120+c) with
    |false=>rfl
    |true=>have:120+a<120+c:=eb h';omega
   rw[h1,decide_eq_false (by omega:¬a+1<c+1)];cases Nat.beq (120+a) (120+c)<;>rfl
section
variable {b:b8}{K:Nat->List AV->AV->Prop}
def b8f(hh:bc (b.aQ K) KS Qy)(s:List Nat)(J:ag):bw (b.aQ K) 0 (.f (.func KS) [] []) [.s s] J (λr ah=>r= .ok (.b false)/\ah=J):=by
 refine W.code hh.e hh.p hh.f I I I I λz=>?_;have H:Has J []:=Has.nil;refine aO ?_;refine W.bin (v:=.b false) I I I I (by show some (AV.b (!eqL s s))=_;rw[tx];rfl) ?_;refine aO ?_;exact aa.ret ⟨rfl,rfl,rfl⟩
def b8g(hh:bc (b.aQ K) KS Qy)(a c:Nat)(body:bC)(hb:KA.body=some body):aa (b.aQ K) KA.ntmps body (eh [dD a,dD c]) ⟨.nil,0⟩ (n4 KA.results (.b (decide (a<c)))):=by
 cases hb;refine W.n1 λz H=>?_;refine aO ?_;refine W.js I I I (b8f hh (nm4 a) _) λr ah ⟨e,aV⟩=>⟨_,e,?_⟩
 subst aV;refine aO ?_;refine W.bin (v:=.b (decide (a<c))) I I I I (by show some (AV.b (hD (nm4 a) (nm4 c)))=_;rw[b8e]) ?_;refine aO ?_;exact aa.ret ⟨rfl,_,mW (k8 I),rfl⟩
end
mutual
def ocT(s:List Nat):Tm->Nat
 | .mk v n none=>if v=true/\n=s then 1 else 0
 | .mk v n (some l)=>(if v=true/\n=s then 1 else 0)+ocTs s l
def ocTs(s:List Nat):List Tm->Nat
 |[]=>0
 |t::l=>ocT s t+ocTs s l
end
mutual
def ocF(s:List Nat):Fm->Nat
 | .mk _ _ a none=>ocTs s (a.getD [])
 | .mk _ _ a (some l)=>ocTs s (a.getD [])+ocFs s l
def ocFs(s:List Nat):List Fm->Nat
 |[]=>0
 |t::l=>ocF s t+ocFs s l
end
def RB(s:List Nat):∀l,ocTs s l=(l.map (ocT s)).sum
 |[]=>by rw[ocTs];rfl
 |t::l=>by rw[ocTs,RB s l];rfl
def RC(s:List Nat):∀l,ocFs s l=(l.map (ocF s)).sum
 |[]=>by rw[ocFs];rfl
 |t::l=>by rw[ocFs,RC s l];rfl
def a0U(s:List Nat)(t:Tm):ocT s t=(if t.var=true/\t.name=s then 1 else 0)+ocTs s t.args:=by
 obtain⟨v,n,a⟩:=t;cases a with
 |none=>rw[ocT];show _=_+ocTs s [];rw[ocTs];rfl
 |some l=>rw[ocT];rfl
def a0V(s:List Nat)(F:Fm):ocF s F=ocTs s F.args+ocFs s F.sub:=by
 obtain⟨op,n,a,t⟩:=F;cases t with
 |none=>rw[ocF];show _=_+ocFs s [];rw[ocFs];rfl
 |some l=>rw[ocF];rfl
def Ls{α:Type}{f:α->Nat}{l:List α}{j:Nat}(aG:j<l.length):((l.take (j+1)).map f).sum=((l.take j).map f).sum+f l[j]:=by
 rw[lv aG,ie,List.sum_append];simp
def RD{α:Type}{f:α->Nat}:∀(l:List α) (j:Nat),((l.take j).map f).sum<=(l.map f).sum
 |[],j=>by simp
 |x::l,0=>by simp
 |x::l,j+1=>by
  have:=RD (f:=f) l j;simp only[Ok,mv,List.sum_cons];omega
section
variable {b:b8}{K:Nat->List AV->AV->Prop}(hfn:∀g aB r bS,K g aB r->K g aB bS->r=bS)
include hfn
theorem a0W(s:List Nat)(a:Option (List Tm))(e:b.ext sj=0/\b.pure sj=true)(hlen:(a.getD []).length<2^62)(iC:ocTs s (a.getD [])<2^62)(gA:∀u∈a.getD [],∀ah:ag,bp ah (b.a2+1000) (cy true u.cP)=some (cy true u.cP))(eg:∀u∈a.getD [],K sj [cy true u.cP,.s s] (aw (ocTs s u.args)))
  (body:bC) (hb:Kr.body=some body):aa (b.aQ K) Kr.ntmps body (eh [cy true a,.s s]) ⟨.nil,0⟩ (n4 Kr.results (aw (ocTs s (a.getD [])))):=by
 cases hb;rw[RB] at iC ⊢;refine W.n1 λz H=>?_;refine aO ?_;refine W.len I I I lr ?_;refine aO ?_;show ch _ _ _ _ _ _ _ _;refine aa.each (a.getD []).length (λj f _=>sat [(1,.s s),(5,aw (((a.getD []).take j).map (ocT s)).sum),(8,cy true a)] f) hlen b9 I I (λj f ah aG bz hi hm=>?_) (λf ah bz hi=>?_)
 ·refine aa.norm [(1,.s s),(5,aw (((a.getD []).take j).map (ocT s)).sum),(8,cy true a),(10,aw j),(9,aw (a.getD []).length)] ⟨bz.1,bz.2.1,bz.2.2.1,hi,hm,trivial⟩ λf=>?_;have hu:=c3 (l:=a.getD []) aG;have hle:=RD (f:=ocT s) (a.getD []) (j+1);rw[Ls aG] at hle;rw[Ls aG];have o1:=a0U s (a.getD [])[j];have H:Has ah []:=Has.nil;have aC:=eg _ hu;have hY:=gA _ hu;refine aO ?_;refine W.jq I I I I (oR aG) ?_;refine W.gY (R:=some 3) I I I (Tm.conf true _) ?_;rw[ny];generalize(a.getD [])[j]=u at *;generalize((List.take j (a.getD [])).map (ocT s)).sum=acc at *;obtain⟨v,aD,tY⟩:=u;generalize g5:ah.next=hq;refine W.jr (c:=[.b v,.s aD,cy true tY]) H g5 I I I I I I λca dC H ba=>?_;change ocT s ⟨v,aD,tY⟩=(if v=true/\aD=s then 1 else 0)+ocTs s (tY.getD []) at o1;change K sj [cy true tY,.s s] (aw (ocTs s (tY.getD []))) at aC;change ∀ah:ag,bp ah (b.a2+1000) (cy true tY)=some (cy true tY) at hY;refine aO ?_;cases v with
  |false=>
   rw[if_neg aT] at o1;refine aO ?_;refine W.gx hfn e aC I I I (lq (hY _) I) ?_;refine W.bin (v:=aw (acc+ocT s ⟨false,aD,tY⟩)) I I I I (by rw[o1,lQ];exact ir U) ?_;refine aO ?_;exact b9
  |true=>
   refine aO ?_;by_cases ak:aD=s
   ·rw[if_pos ⟨rfl,ak⟩] at o1;refine W.bin (v:=.b true) I I I I (by show some (AV.b (eqL aD s))=_;rw[tR,decide_eq_true ak]) ?_;refine aO ?_;refine W.gx hfn e aC I I I (lq (hY _) I) ?_;refine W.bin (v:=aw (acc+ocT s ⟨true,aD,tY⟩)) I I I I (by rw[o1,← sU];exact ir (a:=acc+1) U) ?_;refine aO ?_;exact b9
   ·rw[if_neg (λh=>ak h.2)] at o1;refine W.bin (v:=.b false) I I I I (by show some (AV.b (eqL aD s))=_;rw[tR,decide_eq_false ak]) ?_;refine aO ?_;refine W.gx hfn e aC I I I (lq (hY _) I) ?_;refine W.bin (v:=aw (acc+ocT s ⟨true,aD,tY⟩)) I I I I (by rw[o1,lQ];exact ir U) ?_;refine aO ?_;exact b9
 ·refine aa.norm [(5,aw (((a.getD []).take (a.getD []).length).map (ocT s)).sum)] ⟨bz.2.1,trivial⟩ λf=>?_;rw[so (b6 _)];refine aO ?_;exact aa.ret ⟨rfl,_,mW (k8 I),rfl⟩
theorem b8h(s:List Nat)(F:Fm)(e:b.ext tI=0/\b.pure tI=true)(zc:b.ext sj=0/\b.pure sj=true)(hlen:F.sub.length<2^62)(iC:ocF s F<2^62)(b8i:∀ah:ag,bp ah (b.a2+1000) (cy true F.cP)=some (cy true F.cP))(gA:∀u∈F.sub,∀ah:ag,bp ah (b.a2+1000) (.ad (bm u))=some (.ad (bm u)))(ll:K sj [cy true F.cP,.s s] (aw (ocTs s F.args)))(eg:∀u∈F.sub,K tI [.ad (bm u),.s s] (aw (ocF s u)))
  (body:bC) (hb:Kj.body=some body):aa (b.aQ K) Kj.ntmps body (eh [.ad (bm F),.s s]) ⟨.nil,0⟩ (n4 Kj.results (aw (ocF s F))):=by
 cases hb;rw[a0V,RC] at iC ⊢;refine W.n1 λz H=>?_;refine aO ?_;refine W.dK (c:=bm F) H I I I I I I λah dQ H bM=>?_;refine aO ?_;refine W.gx hfn zc ll I I I (lq (b8i _) I) ?_;refine aO ?_;refine W.len I I I qN ?_;refine aO ?_;show ch _ _ _ _ _ _ _ _;refine aa.each F.sub.length (λj f _=>sat [(1,.s s),(5,aw (ocTs s F.args+((F.sub.take j).map (ocF s)).sum)),(13,fa true F.d_)] f) hlen b9 I I (λj f ah aG bz hi hm=>?_) (λf ah bz hi=>?_)
 ·refine aa.norm [(1,.s s),(5,aw (ocTs s F.args+((F.sub.take j).map (ocF s)).sum)),(13,fa true F.d_),(15,aw j),(14,aw F.sub.length)] ⟨bz.1,bz.2.1,bz.2.2.1,hi,hm,trivial⟩ λf=>?_;have hu:=c3 (l:=F.sub) aG;have hle:=RD (f:=ocF s) F.sub (j+1);rw[Ls aG] at hle;rw[Ls aG];have H:Has ah []:=Has.nil;have aC:=eg _ hu;have hY:=gA _ hu;refine aO ?_;refine W.jq I I I I (tB aG) ?_;refine W.gY (R:=some 4) I I I (Fm.conf true _) ?_;rw[mf];generalize g5:ah.next=hq;refine W.jr (c:=bm (F.sub)[j]) H g5 I I I I I I λca dC H ba=>?_;refine aO ?_;refine W.gx hfn e aC I I I (lq (hY _) I) ?_;refine W.bin (v:=aw (ocTs s F.args+(((F.sub.take j).map (ocF s)).sum+ocF s (F.sub)[j]))) I I I I (by rw[<-sU];exact ir U) ?_;refine aO ?_;exact b9
 ·refine aa.norm [(5,aw (ocTs s F.args+((F.sub.take F.sub.length).map (ocF s)).sum))] ⟨bz.2.1,trivial⟩ λf=>?_;rw[so (b6 _)];refine aO ?_;exact aa.ret ⟨rfl,_,mW (k8 I),rfl⟩
end
end
end Go.Lyc
end
