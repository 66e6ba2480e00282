/-
  What functions of the program compute: walks, part 1. No conditions: definitions and laws.
-/
import Derived.Test.YthdbakjhebkohaaGreatDoorNames
set_option linter.all false
noncomputable section
namespace Go.Lyc
def IP:=@List.drop_eq_getElem_cons
def Ov:=@Nat.or_lt_two_pow
def IQ:=@Nat.pow_lt_pow_right
def Ow:=@Nat.two_pow_pos
def D7:=@List.flatMap_append
def g6:=@List.length_nil
def mf:=@List.take_succ_eq_append_getElem
def mO:=@List.take_length
def A2:=@List.filter_append
def yJ:=@List.length_filter_le
def Ox:=@List.set_eq_take_append_cons_drop
def Oy:=@Bool.or_false
def Oz:=@List.any_cons
def wP:=@List.range_succ
def A3:=@List.map_nil
def Y0:=@Bool.or_eq_false_iff
def IS:=@List.length_replicate
def A4:=@Bool.false_and
def IT:=@List.mem_range
def D8:=@List.map_id'
def oS:=@List.getElem_concat_length
def Y1:=@List.mem_or_eq_of_mem_set
def A5:=@List.getElem?_append_right
def kD:=@List.getElem?_append_left
set_option maxHeartbeats 0
variable [Tok][TokOk]
open Go.RowKit Go.Lyc.T
structure mP(W:Nat->Prop)(J ag:ae):Prop where
 next:J.next<=ag.next
 aS:∀i o,¬W i->J.get i=some o->ag.get i=some o
theorem mP.refl{W:Nat->Prop}{J:ae}:mP W J J:=⟨br _,λ_ _ _ h=>h⟩
theorem mP.trans{W:Nat->Prop}{J b2 cT:ae}(h:mP W J b2)(h':mP W b2 cT):mP W J cT:=⟨o_ h.next h'.next,λi o hi ho=>h'.aS i o hi (h.aS i o hi ho)⟩
theorem mP.of{W:Nat->Prop}{J b2:ae}(hn:J.next<=b2.next)(h:∀i o,J.get i=some o->b2.get i=some o):mP W J b2:=⟨hn,λi o _ ho=>h i o ho⟩
structure bq(env:Env)(g:Nat)(cd:aP):Prop where
 f:env.funcs g=some cd
 e:env.ext g=0
 p:env.pure g=false
theorem Y2{env:Env}(av:bq env wC yx)(o:Bool){W:Nat->Prop}{B:Nat}(hW:∀i,W i->i<B)(eM:List Fm->ae->Prop)(a0:∀l J ag,eM l J->J.next<=ag.next->(∀i o,J.get i=some o->ag.get i=some o)->eM l ag)(g4:AV)
  (hy:∀f rest J,f.jW->B<=J.next->eM (f::rest) J->bH env 0 g4 [f.A o] J (λr ag=>r= .ok (.b true)/\eM rest ag/\mP W J ag)):
  ∀(d:Nat) (f:Fm) (rest:List Fm) (J:ae),f.dep<=d->f.jW->B<=J.next->eM (f.parts++rest) J->bH env 0 (.f (.func wC) [] []) [f.A o,g4] J (λr ag=>r= .ok (.b true)/\eM rest ag/\mP W J ag)
 |0,f,_,_,h,_,_,_=>by rw[Fm.rW] at h;omega
 |d+1,F,rest,dg,hd,b4,b3,h0=>by
  refine bH.code av.e av.p av.f I I I I ?_;generalize ay:dg.next=k at b3;refine ak.seq (ak.region (aJ.box (v:=F.A o) (c:=F.cells o) k ay I I I I I λJ hn h1 bG=>?_));have vd:=a0 _ _ _ h0 U bG;have oT:mP W dg J:=.of U bG;have nm:¬W k:=λh=>by have:=hW _ h;omega
  rw[Fm.parts_eq] at vd;refine jX ?_;refine ak.seq (ak.seq (ak.region ?_));refine jX ?_;refine aJ.az h1 I I I (Fm.az o F) ?_;refine aJ.iX I I I (hy F _ J b4 U vd) λr τ ⟨aR,nn,A6⟩=>⟨_,aR,?_⟩
  replace h1:=A6.aS _ _ nm h1;have h8:=A6.next;refine jX ?_;refine ak.iW I (λh=>by cases h) (λ_=>?_);refine ak.skip ?_;refine ak.seq (ak.seq (ak.region ?_));refine jX ?_;refine aJ.az h1 I I I (Fm.b3p o F) ?_;refine aJ.len I I I b3r ?_;refine jX ?_;refine ak.block ?_;refine ak.loop (λm f ag=>k+1<=ag.next/\mP W dg ag/\∃i,i+m=F.sub.length/\eM (Fm.tr (F.sub.drop i)++rest) ag∧
   sat [(1,g4),(12,iH o F.gy),(13,ai F.sub.length),(14,ai i)] f) ?_ F.sub.length ⟨U,oT.trans A6,0,U,by rw[FU];exact nn,rfl,rfl,rfl,rfl,trivial⟩
  clear h1 vd nn oT A6 hn h8 bG;intro m g J ⟨hn,oT,i,hi,vd,hL⟩;refine ak.norm _ hL λg=>?_;clear hL;refine HD ?_;refine ak.iW I (λht=>?_) (λhf=>?_)
  ·have hlt:i<F.sub.length:=of_decide_eq_true ht;have c7w:=b4.b3t;rw[IP hlt,Fm.tr,jA] at vd;generalize hg:F.sub[i]=G at vd;have Y3:G∈F.sub:=by rw[<-hg];exact bJ hlt
   refine ak.skip (ak.seq (ak.block (ak.seq (ak.region ?_))));refine aJ.idx (v:=.dG o (G.A o)) I I I I (by rw[<-hg];exact b3s hlt) ?_;refine aJ.Hp I I I (Fm.conf o G) ?_;refine aJ.var (v:=G.A o) (c:=G.cells o) J.next I I I I (Fm.conf o G) I (Fm.len o G) λτ h8 aQ bw=>?_;have A6:=oT.trans (.of (W:=W) U bw);have nn:=a0 _ _ _ vd U bw;refine aJ.nil (ak.seq (ak.region ?_));refine aJ.az aQ I I I (Fm.az o G) ?_;refine jX ?_;refine aJ.iX I I I (Y2 av o hW eM a0 g4 hy d G _ τ (by have:=Fm.Wt Y3;omega) (b4.sb G Y3) U nn) λr aM ⟨aR,OA,r9⟩=>⟨_,aR,?_⟩
   have pk:=r9.next;refine jX ?_;refine ak.iW I (λh=>by cases h) (λ_=>?_);refine ak.skip ?_;refine ak.region ?_;refine aJ.bin (a:=ai i) (b:=ai 1) I I I I (pI U) ?_;refine jX ?_;exact⟨m-1,U,U,A6.trans r9,i+1,U,OA,rfl,rfl,rfl,rfl,trivial⟩
  ·have mE:¬i<F.sub.length:=of_decide_eq_false hf;obtain rfl:i=F.sub.length:=by omega
   rw[List.drop_length] at vd;refine ak.exit ?_;refine HD ?_;exact ak.ret ⟨rfl,rfl,vd,oT⟩
theorem b6P{env:Env}(av:bq env wC yx)(hw:bq env u7 AN)(o:Bool){W:Nat->Prop}{B:Nat}(hW:∀i,W i->i<B)(eM:List Fm->ae->Prop)(a0:∀l J ag,eM l J->J.next<=ag.next->(∀i o,J.get i=some o->ag.get i=some o)->eM l ag)(g4:AV)
  (hy:∀f rest J,f.jW->B<=J.next->eM (f::rest) J->bH env 0 g4 [f.A o] J (λr ag=>r= .ok (.b true)/\eM rest ag/\mP W J ag)) (F:Fm) (b4:F.jW) (rest:List Fm) (J:ae) (cM:Nat) (gl:J.get cM=some (.cells (F.cells o))) (b3:B<=J.next) (h0:eM (F.parts++rest) J):
  bH env 0 (.f (.func u7) [] [.p (some (cM,0))]) [g4] J (λr ag=>r= .ok (.a9 [])/\eM rest ag/\mP W J ag):=by
 refine bH.pM hw.e hw.p hw.f I I I ?_;refine ak.region ?_;refine aJ.az gl I I I (Fm.az o F) ?_;refine jX ?_;refine aJ.iX I I I (Y2 av o hW eM a0 g4 hy _ F rest J (br _) b4 b3 h0) λr τ ⟨aR,h1,h2⟩=>⟨_,aR,?_⟩
 refine jX ?_;exact⟨.inr I,rfl,h1,h2⟩
theorem OB{env:Env}(hw:bq env AM DQ)(o:Bool)(F:Fm)(J:ae)(k:Nat)(ay:J.next=k):bH env 0 (.f (.func AM) [] []) [F.A o] J (λr ag=>r= .ok (.f (.func u7) [] [.p (some (k,0))])/\ag.next=k+1/\ag.get k=some (.cells (F.cells o))/\∀i o,J.get i=some o->ag.get i=some o):=by
 refine bH.code hw.e hw.p hw.f I I I I ?_;refine ak.seq (ak.region (aJ.box (v:=F.A o) (c:=F.cells o) k ay I I I I I λτ hn h1 bG=>?_));refine HD ?_;exact ak.ret ⟨rfl,rfl,hn,h1,bG⟩
theorem dK.walk{env:Env}{D:List (Nat ⊕ (AV×List AV))}{n:Nat}{f:Nat->AV}{J:ae}{Q:ec}(av:bq env wC yx)(hw:bq env u7 AN)(o:Bool){oL:aI}{p:Nat}{fH b:bO}{cM:Nat}{F:Fm}(W:Nat->Prop)(S:List Fm->ae->Prop)(k:Nat)(ay:J.next=k)
  (nf:dv env n f oL=some (.f (.func u7) [] [.p (some (cM,0))])) (au:Nat.blt p n=true) (b4:F.jW) (gl:J.get cM=some (.cells (F.cells o))) (hW:∀i,W i->i<k) (cW:∀l J ag,S l J->(∀i o,W i->J.get i=some o->ag.get i=some o)->S l ag) (h0:S F.parts J)
  (D9:∀G rest τ,G.jW->k+2<=τ.next->S (G::rest) τ->bR env (some (k+1)) [] n fH (dd f p (G.A o)) τ (λx f1 eN=>x= .normal/\mP W τ eN∧
   ∀bl,bl.next=eN.next->(∀i o,i≠k+1->eN.get i=some o->bl.get i=some o)->bR env (some (k+1)) [] n b f1 bl (λx _ bZ=>x= .normal/\S rest bZ/\mP W bl bZ)))
  (D_:∀τ,S [] τ->k+2<=τ.next->τ.get k=some .eo->(∀i o,¬W i->J.get i=some o->τ.get i=some o)->Q .normal f τ):dK env D (.inl k::D) n (.rangeFunc oL [p] fH b) f J Q:=by
 subst ay;refine dK.range nf hw.e λao gK=>?_;generalize ay:J.next=k at *;have nm:∀i,W i->i<k:=hW;have rN:((J.push .eo).push (.loop .ready none ao [p] fH b k)).get (k+1)=some (.loop .ready none ao [p] fH b k):=by
  have:=ae.jP (J:=J.push .eo) (.loop .ready none ao [p] fH b k);rwa[show(J.push .eo).next=k+1 from by show J.next+1=_;rw[ay]] at this
 have nZ:∀i o,J.get i=some o->((J.push .eo).push (.loop .ready none ao [p] fH b k)).get i=some o:=λi o ho=>by
  have:=ae.bE ho;rw[ae.gw trivial _ (show i<(J.push .eo).next from by show i<J.next+1;omega),ae.gw trivial _ this];exact ho
 have tC:((J.push .eo).push (.loop .ready none ao [p] fH b k)).get k=some .eo:=by
  rw[ae.gw trivial _ (show k<(J.push .eo).next from by show k<J.next+1;omega)];have:=ae.jP (J:=J) .eo;rwa[ay] at this
 have jS:((J.push .eo).push (.loop .ready none ao [p] fH b k)).next=k+2:=by show J.next+1+1=_;rw[ay]
 generalize(J.push .eo).push (.loop .ready none ao [p] fH b k)=cT at *;refine(b6P av hw o (W:=λi=>W i\/i=k+1) (B:=k+2) (λi hi=>by rcases hi with hi|hi;have:=nm i hi;omega;omega)
  (λl τ=>S l τ/\τ.get (k+1)=some (.loop .ready none ao [p] fH b k)/\k+2<=τ.next/\τ.get k=some .eo/\∀i o,¬W i->J.get i=some o->τ.get i=some o)
  (λl τ aM ⟨a2,bm,cx,ep,eW⟩ er dy=>⟨cW _ _ _ a2 λi o _ ho=>dy i o ho,dy _ _ bm,U,dy _ _ ep,λi o hi ho=>dy _ _ (eW i o hi ho)⟩) (.f (.yield (k+1)) [] []) ?_ F b4 [] cT cM (nZ _ _ gl) U ?_).mono ?_
 ·intro G rest τ de b3 ⟨a2,bm,cx,ep,eW⟩;refine(bH.round (R:=λag=>(S rest ag/\ag.get (k+1)=some (.loop .ready none ao [p] fH b k)/\k+2<=ag.next/\ag.get k=some .eo/\∀i o,¬W i->J.get i=some o->ag.get i=some o)/\mP (λi=>W i\/i=k+1) τ ag) (f:=f) (n:=n) bm gK (by show cond (Nat.blt p n) _ _=true;rw[au];rfl) I ?_).mono λr ag h=>h;refine(D9 G rest τ de cx a2).mono λx f1 eN ⟨aR,oT,h1⟩=>?_;have qQ:¬W (k+1):=λh=>by have:=nm _ h;omega
  have ji:=oT.aS _ _ qQ bm;have gP:=jF (bU:=.loop .busy none ao [p] fH b k) ji;refine⟨aR,ji,(h1 (eN.set (k+1) (.loop .busy none ao [p] fH b k)) I (λi o hi ho=>gP.2 i o hi ho)).mono λx _ bZ ⟨a6,tD,r9⟩=>?_⟩;have ve:=r9.aS _ _ qQ gP.1;have pO:=jF (bU:=.loop .ready none ao [p] fH b k) ve;have c_:=oT.next;have fc:eN.next<=bZ.next:=r9.next;have c6:∀i o,¬W i->i≠k+1->τ.get i=some o->(bZ.set (k+1) (.loop .ready none ao [p] fH b k)).get i=some o:=λi o hi a5 ho=>pO.2 i o a5 (r9.aS i o hi (gP.2 i o a5 (oT.aS i o hi ho)));refine⟨a6,ve,⟨cW _ _ _ tD λi o hi ho=>pO.2 i o (by have:=nm i hi;omega) ho,pO.1,by show k+2<=bZ.next;omega,c6 k _ (λh=>by have:=nm _ h;omega) U ep,λi o hi ho=>c6 i o hi (by have:=ae.bE ho;omega) (eW i o hi ho)⟩,⟨by show τ.next<=bZ.next;omega,λi o hi ho=>c6 i o (λh=>hi (.inl h)) (λh=>hi (.inr h)) ho⟩⟩
 ·rw[iG];exact⟨cW _ _ _ h0 λi o _ ho=>nZ i o ho,rN,U,tC,λi o _ ho=>nZ i o ho⟩
 ·rintro r τ ⟨aR,⟨a2,bm,cx,ep,eW⟩,_⟩;have gP:=jF (bU:=.loop .exhausted none ao [p] fH b k) bm;exact⟨_,.ready,aR,bm,aG,D_ _ (cW _ _ _ a2 λi o hi ho=>gP.2 i o (by have:=nm i hi;omega) ho) cx (gP.2 _ _ U ep) λi o hi ho=>gP.2 i o (by have:=ae.bE ho;omega) (eW i o hi ho)⟩
theorem wrap32{n:Nat}(h:n<2^32):IntKind.wrap .u32 (n:Int)=(n:Int):=by
 have h:(n:Int)<4294967296:=by omega
 simp only[IntKind.wrap,IntKind.bits,IntKind.signed];simp;omega
theorem ofInt32(n:Nat)(h:n<2^32):(BitVec.ofInt IntKind.u32.bits (Int.ofNat n)).toNat=n:=by
 simp[IntKind.bits];omega
theorem b6Q{a b:Nat}(ha:a<2^32)(hb:b<2^32):binop .or (.i .u32 (Int.ofNat a)) (.i .u32 (Int.ofNat b))=some (.i .u32 (Int.ofNat (a ||| b))):=by
 have h:(BitVec.ofInt IntKind.u32.bits (Int.ofNat a) ||| BitVec.ofInt IntKind.u32.bits (Int.ofNat b)).toNat=a ||| b:=by
  rw[BitVec.toNat_or,ofInt32 a ha,ofInt32 b hb]
 show some (AV.i .u32 (IntKind.wrap .u32 ((BitVec.ofInt IntKind.u32.bits (Int.ofNat a) ||| BitVec.ofInt IntKind.u32.bits (Int.ofNat b)).toNat:Int)))=_;rw[h,wrap32 (Ov ha hb)];rfl
theorem b6R{k:IntKind}{a:Nat}(h:a<32):binop .shl (.i .u32 (Int.ofNat 1)) (.i k (Int.ofNat a))=some (.i .u32 (Int.ofNat (2^a))):=by
 show(if(Int.ofNat a)<0 then none else some (AV.i .u32 (IntKind.wrap .u32 (Int.ofNat 1*2^(min (Int.ofNat a).toNat IntKind.u32.bits)))))=_;rw[if_neg aG];have e:min (Int.ofNat a).toNat IntKind.u32.bits=a:=by show min a 32=a;omega
 rw[e];have:(Int.ofNat 1*2^a:Int)=((2^a:Nat):Int):=by show(1:Int)*_=_;rw[Int.one_mul];simp
 rw[this,wrap32 (IQ U h)];rfl
def qR(f:Fm):Nat:=if f.op<32 then 2^f.op else 0
def wQ(l:List Fm)(m:Nat):Nat:=l.foldl (λm f=>m ||| qR f) m
def wR(f:Fm):Nat:=wQ f.parts 0
theorem b6S(f:Fm):qR f<2^32:=by
 unfold qR;split
 ·exact IQ U ‹_›
 ·exact Ow _
theorem Y4:∀ {l:List Fm} {m:Nat},m<2^32->wQ l m<2^32
 |[],_,h=>h
 |f::l,m,h=>by
  show wQ l (m ||| qR f)<_;exact Y4 (Ov h (b6S f))
theorem b6T{b:b5}{K:Nat->List AV->AV->Prop}(av:bq (b.aV K) wC yx)(mF:bq (b.aV K) u7 AN)(hw:bq (b.aV K) AM DQ)(F:Fm)(b4:F.jW)(body:bO)(hb:YK.body=some body):
  dK (b.aV K) [] [.inl 3] 17 body (gO [F.A true]) ⟨.nil,0⟩ (λx f ag=>x= .ret/\ag.get 3=some .eo/\freeze (ag.set 3 .dead) 0 1000 (f 2)=some (.i .u32 (Int.ofNat (wR F)))):=by
 cases hb;refine dK.lO (ak.region (aJ.box (v:=F.A true) (c:=F.cells true) 0 I I I I I I λb2 iD h1 _=>?_));refine jX ?_;refine⟨rfl,dK.lO (ak.region (aJ.alloc 1 iD I I I λcT h8 h2 bw=>?_))⟩;replace h1:=bw _ _ h1;refine jX ?_;refine⟨rfl,dK.Ax (dK.lO (ak.region ?_))⟩;refine aJ.az h1 I I I (Fm.az true F) ?_;refine aJ.iX I I I (OB hw true F cT 2 h8) λr J ⟨aR,hn,h3,bg⟩=>⟨_,aR,?_⟩
 replace h1:=bg _ _ h1;replace h2:=bg _ _ h2;refine jX ?_;refine⟨rfl,dK.block ?_⟩;refine dK.walk av mF true (λi=>i=1) (λl τ=>∃m,m<2^32/\wQ l m=wR F/\τ.get 1=some (.cells [.i .u32 (Int.ofNat m)])) 3 hn I I b4 h3 (λi hi=>by omega) (λl τ aM ⟨m,a2,bm,cx⟩ ay=>⟨m,a2,bm,ay _ _ I cx⟩) ⟨0,Ow _,rfl,h2⟩ ?_ ?_
 ·intro G rest τ de yK ⟨m,a2,bm,cx⟩;refine ak.region ?_;refine aJ.var (v:=G.A true) (c:=G.cells true) τ.next I I I I (Fm.conf true G) I (Fm.len true G) λeN ta aQ b9=>?_;refine aJ.nil ⟨rfl,.of U b9,λbl GD c9=>?_⟩;replace aQ:=c9 _ _ U aQ;replace cx:=c9 _ _ U (b9 _ _ cx);refine ak.block (ak.seq (ak.region ?_));refine jX ?_;refine aJ.az aQ I I I (Fm.qI true G) ?_;refine jX ?_;refine ak.iW I (λh=>?_) (λh=>?_)
  ·have eb:G.op<32:=of_decide_eq_true h;have IU:qR G=2^G.op:=by unfold qR;rw[if_pos eb]
   refine ak.region ?_;refine Wy ?_;refine aJ.az aQ I I I (Fm.qI true G) ?_;refine aJ.bin (a:=.i .u32 (Int.ofNat 1)) (b:=.i .u8 (Int.ofNat G.op)) I I I I (b6R eb) ?_;refine aJ.bin (a:=.i .u32 (Int.ofNat m)) (b:=.i .u32 (Int.ofNat (2^G.op))) I I I I (b6Q a2 (IQ U eb)) ?_;refine aJ.store (bX:=[.i .u32 (Int.ofNat (m ||| 2^G.op))]) cx I I I I I λbZ UQ cw eu=>?_;exact aJ.nil ⟨rfl,⟨_,Ov a2 (IQ U eb),by rw[<-bm,← IU];rfl,cw⟩,⟨U,λi o hi ho=>eu i o hi ho⟩⟩
  ·have eb:¬G.op<32:=of_decide_eq_false h;have IU:qR G=0:=by unfold qR;rw[if_neg eb]
   exact ak.skip ⟨rfl,⟨m,a2,by rw[<-bm];show wQ rest m=wQ rest (m ||| qR G);rw[IU,Nat.or_zero],cx⟩,.refl⟩
 ·intro τ ⟨m,a2,bm,cx⟩ yK hd _;refine⟨rfl,rfl,?_⟩;refine ak.seq (ak.region ?_);refine Wy ?_;refine ak.ret ⟨rfl,hd,?_⟩;show some (AV.i .u32 (Int.ofNat m))=_;rw[<-bm];rfl
abbrev uB(c:Nat):AV:=.i .u8 (Int.ofNat c)
section
variable {b:b5}{K:Nat->List AV->AV->Prop}(hf:∀g aY r cc,K g aY r->K g aY cc->r=cc)
abbrev lT(d:Nat)(r:AV):ec:=λx f ag=>x= .ret/\freeze ag 0 1000 (f d)=some r
end
def b6U(op:Nat):Bool:=decide (1<=op)&&decide (op<=14)
def IV(op:Nat):Bool:=decide (1<=op)&&decide (op<=16)
def tE(op:Nat):Nat:=if op=1 then 1 else if op=8\/op=9 then 2 else if op=15\/op=16 then 3 else 0
def IW(op:Nat):Nat:=if op=1 then 4 else if op=16 then 2 else 0
def b6V(op:Nat):Nat:=if op=3\/op=8\/op=9\/op=10\/op=11\/op=12\/op=13 then 1 else if op=4\/op=5\/op=6\/op=7\/op=14 then 2 else 0
def b6W(op:Nat):List AV:=[.b (b6U op),.b (IV op),.i .u8 (Int.ofNat (tE op)),ai (IW op),ai (b6V op)]
def IX:List AV:=(List.range 17).flatMap b6W
theorem b6X{ar:aI->Option AV}{J:ae}{k:IntKind}{x:aI}{a:Nat}(h1:ar x=some (.i k (Int.ofNat a)))(h:a<2^63):opx 0 ar J (.conv .i64 x)=some (.val (ai a) J):=by
 show(match ar x with|some (.i _ n)=>some (bV.val (.i .i64 (wrapN .i64 n)) J)|some (.hc _ d j)=>some (.val (.hc .i64 d j) J)|_=>none)=_;rw[h1];show some (bV.val (.i .i64 (wrapN .i64 (Int.ofNat a))) J)=_;rw[Au h]
inductive Sl(J:ae)(aa:Option Nat):AV->List AV->Prop
 |nil:Sl J aa .af []
 |ao (o:Nat) (cap:Option Nat) (xs rest:List AV) (h:J.get o=some (.cells (xs.flatMap AV.cells++rest))) (ab:∀y∈xs,conf aa y=true) (ay:cap=none\/cap=some xs.length):Sl J aa (.ao o 0 xs.length aa cap) xs
theorem Sl.aS{J τ:ae}{aa:Option Nat}{v:AV}{xs:List AV}(h:Sl J aa v xs)(k:∀i o,v.at? =some i->J.get i=some o->τ.get i=some o):Sl τ aa v xs:=by
 cases h with
 |nil=>exact .nil
 |ao o cap xs rest h ab ay=>exact .ao o cap xs rest (k _ _ I h) ab ay
theorem Sl.conf{J:ae}{aa:Option Nat}{v:AV}{xs:List AV}(h:Sl J aa v xs):∀y∈xs,conf aa y=true:=by
 cases h with
 |nil=>intro y hy;simp at hy
 |ao o cap xs rest h ab ay=>exact ab
theorem Sl.lf{J:ae}{aa:Option Nat}{v:AV}{xs:List AV}(h:Sl J aa v xs):v.lf=true:=by cases h<;>rfl
theorem Sl.ln{J:ae}{aa:Option Nat}{v:AV}{xs:List AV}(h:Sl J aa v xs):Go.Lyc.conf none v=true:=by cases h<;>rfl
theorem Sl.mg{J:ae}{aa:Option Nat}{v:AV}{xs:List AV}(h:Sl J aa v xs):v.cells=[v]:=by cases h<;>rfl
theorem Sl.OC{J:ae}{aa:Option Nat}{v:AV}{xs:List AV}(h:Sl J aa v xs):v.val=true:=by cases h<;>rfl
theorem Sl.len{J τ:ae}{aa:Option Nat}{v:AV}{xs:List AV}(h:Sl J aa v xs):lenA τ 1 v=some xs.length:=by cases h<;>rfl
theorem Sl.lt{J:ae}{aa:Option Nat}{v:AV}{xs:List AV}(h:Sl J aa v xs){i:Nat}(hi:v.at? =some i):i<J.next:=by
 cases h with
 |nil=>cases hi
 |ao o cap xs rest h ab ay=>cases hi;exact ae.bE h
theorem OD{aa:Option Nat}:∀ {xs:List AV} {rest:List AV},(∀y∈xs,Go.Lyc.conf aa y=true)->∀(j:Nat) (aC:j<xs.length),∃r,(xs.flatMap AV.cells++rest).drop (j*shN aa)=(xs[j]).cells++r/\dU aa ((xs[j]).cells++r)=some xs[j]
 |[],_,_,j,aC=>by simp at aC
 |x::xs,rest,h,0,_=>⟨xs.flatMap AV.cells++rest,by rw[CO,FU,lC,jA];rfl,(DE (h x aG)).1⟩
 |x::xs,rest,h,j+1,aC=>by
  obtain⟨r,h1,h2⟩:=OD (rest:=rest) (λy hy=>h y (iM _ hy)) j (by simpa using aC);refine⟨r,?_,h2⟩;rw[lC,jA,show(j+1)*shN aa=shN aa+j*shN aa from by rw[Nat.succ_mul,uf],← nD,(DE (h x aG)).2,h1];rfl
theorem Sl.gd{J:ae}{aa:Option Nat}{v:AV}{xs:List AV}(h:Sl J aa v xs){j:Nat}(aC:j<xs.length):∃o c r,v.at? =some o/\idxSlA aa v j=some (.p (some (o,j*shN aa)))/\J.get o=some (.cells c)/\c.drop (j*shN aa)=(xs[j]).cells++r/\dU aa (c.drop (j*shN aa))=some xs[j]:=by
 cases h with
 |nil=>simp at aC
 |ao o cap xs rest h ab ay=>
  obtain⟨r,h1,h2⟩:=OD (rest:=rest) ab j aC;refine⟨o,_,r,rfl,?_,h,h1,by rw[h1];exact h2⟩;have h3:Nat.blt j xs.length=true:=j7 aC;simp only[idxSlA,h3,decide_true,K_,if_true,qw]
theorem Sl.read{J:ae}{aa:Option Nat}{v:AV}{xs:List AV}(h:Sl J aa v xs):readList J v=some xs:=by
 cases h with
 |nil=>rfl
 |ao o cap xs rest h ab ay=>
  show(match J.get o with|some (.cells c)=>elems aa xs.length (c.drop 0)|_=>none)=_;rw[h];exact Ht ab
theorem b6Y{xs:List AV}(k:Nat):xs.flatMap AV.cells=(xs.take k).flatMap AV.cells++(xs.drop k).flatMap AV.cells:=by
 rw[<-D7,xX]
theorem Sl.cut{J:ae}{aa:Option Nat}{v:AV}{xs:List AV}(h:Sl J aa v xs)(hn:∀o l c,v= .ao o 0 l aa c->c=none){ar:aI->Option AV}{hi:aI}{k:Nat}(ay:k<=xs.length)(he:ar hi=some (ai k)):∃w,sliceA ar aa v none (some hi) none=some w/\Sl J aa w (xs.take k)/\w.at? =v.at? ∧∀o l c,w= .ao o 0 l aa c->c=none:=by
 have hb:∀d,bndO ar (some hi) d=some k:=λd=>by show(match ar hi with|some v=>natOf v|none=>none)=_;rw[he];rfl
 cases h with
 |nil=>
  obtain rfl:k=0:=by simpa using ay
  refine⟨.af,?_,.nil,rfl,λ_ _ _ h=>by cases h⟩;show(match bndO ar none 0,bndO ar (some hi) 0,bndO ar none 0 with|some 0,some 0,some 0=>some AV.af|_,_,_=>none)=_;rw[hb];rfl
 |ao o cap xs rest h ab hk=>
  obtain rfl:=hn o xs.length cap I;refine⟨.ao o 0 k aa none,?_,?_,rfl,λ_ _ _ h=>by cases h;rfl⟩
  ·have h1:Nat.ble 0 k=true:=j7 (k0 k);have h2:(Nat.ble k xs.length&&Nat.beq 0 0)=true:=by rw[j7 ay];rfl
   have h0:bndO ar none 0=some 0:=rfl;simp only[sliceA,if_true,h0,hb,h1,h2]
  ·have e:(xs.take k).length=k:=by rw[gI];omega
   have:=Sl.ao (aa:=aa) o none (xs.take k) ((xs.drop k).flatMap AV.cells++rest) (by rw[h,b6Y k,jA]) (λy hy=>ab y (pa hy)) (.inl I);rwa[e] at this
theorem Sl.append{J:ae}{aa:Option Nat}{v x:AV}{xs ba:List AV}{y:AV}{bytes:Nat}(h:Sl J aa v xs)(hx:newOf J x=some (y::ba))(ab:∀z∈y::ba,Go.Lyc.conf aa z=true)(hb:(3*(xs.length+(y::ba).length)+2000)*bytes<=281474976710656):
  ∃bM ag,appendO 0 J aa bytes v x=some (bM,ag)/\Sl ag aa bM (xs++y::ba)/\bM.at? =some J.next/\(∀o l c,bM= .ao o 0 l aa c->c=none)/\ag.next=J.next+1/\∀i o,v.at? ≠some i->J.get i=some o->ag.get i=some o:=by
 have tq:=h.conf;have hall:(cP (Go.Lyc.conf aa) xs&&cP (Go.Lyc.conf aa) (y::ba)&&Nat.ble ((3*(xs.length+(y::ba).length)+2000)*bytes) 281474976710656)=true:=by
  rw[jE tq,jE ab,j7 hb];rfl
 have al:=h.read;have mk:∀τ:ae,τ.next=J.next->Sl (τ.push (.cells (xs.flatMap AV.cells++(y::ba).flatMap AV.cells))) aa (.ao J.next 0 (xs.length+(y::ba).length) aa none) (xs++y::ba):=λτ yK=>by
  have:=Sl.ao (J:=τ.push (.cells (xs.flatMap AV.cells++(y::ba).flatMap AV.cells))) (aa:=aa) J.next none (xs++y::ba) [] (by rw[<-yK,ae.jP,D7,iG]) (λz bb=>by
   rcases eP.1 bb with bb|bb
   ·exact tq z bb
   ·exact ab z bb) (.inl I)
  rwa[c4] at this
 cases h with
 |nil=>
  refine⟨.ao J.next 0 (y::ba).length aa none,J.push (.cells ((y::ba).flatMap AV.cells)),?_,?_,rfl,λ_ _ _ h=>by cases h;rfl,rfl,λi o _ ho=>by rw[ae.gw trivial _ (ae.bE ho)];exact ho⟩
  ·unfold appendO;rw[hx];show cond _ _ none=_;rw[hall];rfl
  ·have:=mk J I;simpa using this
 |ao o cap xs rest h fm hk=>
  have hd:∀i bU,i≠o->J.get i=some bU->((J.set o .dead).push (.cells (xs.flatMap AV.cells++(y::ba).flatMap AV.cells))).get i=some bU:=λi bU a5 ho=>by
   have hlt:=ae.bE ho;rw[ae.gw trivial _ (show i<(J.set o .dead).next from hlt),ae.jh trivial _ (ae.bE h),if_neg a5];exact ho
  rcases hk with rfl|rfl
  ·refine⟨.ao J.next 0 (xs.length+(y::ba).length) aa none,(J.set o .dead).push (.cells (xs.flatMap AV.cells++(y::ba).flatMap AV.cells)),?_,mk _ I,rfl,λ_ _ _ h=>by cases h;rfl,rfl,λi bU a5 ho=>hd i bU (λe=>a5 (by rw[e];rfl)) ho⟩;unfold appendO;rw[al,hx];show cond _ _ none=_;rw[hall,cond_true];show(if aa=aa then(if Nat.blt o 0 then none else if Nat.beq 0 0 then some (AV.ao J.next 0 (xs.length+(y::ba).length) aa none,(J.set o .dead).push (.cells (xs.flatMap AV.cells++(y::ba).flatMap AV.cells))) else none) else none)=_;rw[if_pos I,if_neg (by simp[Nat.blt,Nat.ble]),if_pos (by rfl)]
  ·refine⟨.ao J.next 0 (xs.length+(y::ba).length) aa none,J.push (.cells (xs.flatMap AV.cells++(y::ba).flatMap AV.cells)),?_,mk _ I,rfl,λ_ _ _ h=>by cases h;rfl,rfl,λi bU _ ho=>by rw[ae.gw trivial _ (ae.bE ho)];exact ho⟩;unfold appendO;rw[al,hx];show cond _ _ none=_;rw[hall,cond_true];show(if aa=aa then cond (Nat.ble (xs.length+(y::ba).length) xs.length) _ (some (AV.ao J.next 0 (xs.length+(y::ba).length) aa none,J.push (.cells (xs.flatMap AV.cells++(y::ba).flatMap AV.cells)))) else none)=_;rw[if_pos I,show Nat.ble (xs.length+(y::ba).length) xs.length=false from by rw[Wf];intro h;have:=gB h;simp only[gp] at this;omega];rfl
namespace W
section
variable {cf:lj}{env:Env}{aN:Option Nat}{D:List (Nat ⊕ (AV×List AV))}{n:Nat}{F:List (Nat×AV)}{z:Nat->AV}{J:ae}{Q:ec}
theorem oU{d:Nat}{aa:Option Nat}{x:aI}{g:Option (Nat×Bool)}{ops:List a3}{id off:Nat}{c:List AV}{v:AV}(an:J.get id=some (.cells c))(hd:Nat.blt d n=true)(hw:wtL g n F=true)(h1:db env n F z x=some (.p (some (id,off))))(h2:dU aa (c.drop off)=some v)(h:ch cf env aN D n ops (bx ((d,v)::F) z) J Q):ch cf env aN D n (⟨some d,.load aa x,g,[]⟩::ops) (bx F z) J Q:=val hd hw (n4 _ _ h1 (uV an h2)) h
theorem A7{N:Nat}{cV:lP}{d:Nat}{aa:Option Nat}{x:aI}{g:Option (Nat×Bool)}{wn:List Nat}{ops:List a3}{id off:Nat}{c:List AV}{v:AV}(an:J.get id=some (.cells c))(hd:Nat.blt d n=true)(hw:wtL g n F=true)(h1:db env n F z x=some (.p (some (id,off))))(h2:dU aa (c.drop off)=some v)(av:AV.eqb env.bt v v=true)
  (h:ch (.dz N (wn.map (λq=>(q,id,c))++cV)) env aN D n ops (bx ((d,v)::F) z) J Q):ch (.dz N cV) env aN D n (⟨some d,.load aa x,g,wn⟩::ops) (bx F z) J Q:=ev.lQ an hd (qM hw) (λs an=>by rw[oM];exact n4 _ _ h1 (uV an h2)) av h
theorem le{d:Nat}{aa:Option Nat}{x:aI}{g:Option (Nat×Bool)}{ops:List a3}{a v:AV}(hd:Nat.blt d n=true)(hw:wtL g n F=true)(h1:db env n F z x=some a)(h2:rp J aa a=some v)(h:ch cf env aN D n ops (bx ((d,v)::F) z) J Q):ch cf env aN D n (⟨some d,.load aa x,g,[]⟩::ops) (bx F z) J Q:=val hd hw (n4 _ _ h1 h2) h
theorem bI{L:List (Nat×List AV)}(H:Has J L){d m:Nat}{aa:Option Nat}{kT:List AV}{aE:List (Nat×aI)}{g:Option (Nat×Bool)}{ops:List a3}{c:List AV}{k:Nat}(hn:J.next=k)(hd:Nat.blt d n=true)(hw:wtL g n F=true)(hl:h4 (db env n F z) (λi bS=>i*bS) (aE.map λp=>(p.1,shN aa,p.2)) (g2 m kT)=some c)
  (h:∀τ:ae,τ.next=k+1->Has τ ((k,c)::L)->(∀i o,J.get i=some o->τ.get i=some o)->ch cf env aN D n ops (bx ((d,.ao k 0 m aa (some m))::F) z) τ Q):ch cf env aN D n (⟨some d,.buildSlice aa m kT aE,g,[]⟩::ops) (bx F z) J Q:=by
 subst hn;have dk:∀i o,J.get i=some o->(J.push (.cells c)).get i=some o:=λi o ho=>by rw[ae.gw trivial _ (ae.bE ho)];exact ho
 refine val (v:=.ao J.next 0 m aa (some m)) (ag:=J.push (.cells c)) hd hw ?_ (h (J.push (.cells c)) I (H.push I (ae.jP _) dk) dk);show(match h4 (db env n F z) (λi bS=>i*bS) (aE.map λp=>(p.1,shN aa,p.2)) (g2 m kT) with
  |some c=>some (bV.val (.ao J.next 0 m aa (some m)) (J.push (.cells c)))
  |none=>none)=_
 rw[hl]
theorem ap{d:Nat}{aa:Option Nat}{bytes:Nat}{s x:aI}{g:Option (Nat×Bool)}{ops:List a3}{v w:AV}{xs:List AV}(y:AV)(ba:List AV)(hA:Sl J aa v xs)(hx:newOf J w=some (y::ba))(ab:∀z∈y::ba,Go.Lyc.conf aa z=true)(hb:(3*(xs.length+(y::ba).length)+2000)*bytes<=281474976710656)(hd:Nat.blt d n=true)(hw:wtL g n F=true)(h1:db env n F z s=some v)(h2:db env n F z x=some w)
  (h:∀bM τ,Sl τ aa bM (xs++y::ba)->bM.at? =some J.next->(∀o l c,bM= .ao o 0 l aa c->c=none)->τ.next=J.next+1->(∀i o,v.at? ≠some i->J.get i=some o->τ.get i=some o)->ch cf env aN D n ops (bx ((d,bM)::F) z) τ Q):ch cf env aN D n (⟨some d,.append aa bytes s x,g,[]⟩::ops) (bx F z) J Q:=by
 obtain⟨bM,τ,e,a,b,c,je,dS⟩:=hA.append hx ab hb;refine val (v:=bM) (ag:=τ) hd hw ?_ (h bM τ a b c je dS);show(match db env n F z s,db env n F z x with|some s,some x=>(match appendO 0 J aa bytes s x with|some (v,J)=>some (bV.val v J)|none=>none)|_,_=>none)=_;rw[h1,h2];show(match appendO 0 J aa bytes v w with|some (v,J)=>some (bV.val v J)|none=>none)=_;rw[e]
theorem pu{d d0:Nat}{aa:Option Nat}{bytes:Nat}{kT:List AV}{aE:List (Nat×aI)}{s:aI}{g bQ:Option (Nat×Bool)}{ops:List a3}{v:AV}{xs c:List AV}(y:AV)(hA:Sl J aa v xs)(hd:Nat.blt d n=true)(k_:Nat.blt d0 n=true)(hw:wtL g n F=true)(hl:h4 (db env n F z) (λi bS=>i*bS) (aE.map λp=>(p.1,shN aa,p.2)) (g2 1 kT)=some c)(hy:elems aa 1 c=some [y])(iu:Go.Lyc.conf aa y=true)
  (jU:wtL bQ n ((d0,.ao J.next 0 1 aa (some 1))::F)=true) (h1:db env n ((d0,.ao J.next 0 1 aa (some 1))::F) z s=some v) (h2:Nat.beq d0 d0=true) (hb:(3*(xs.length+1)+2000)*bytes<=281474976710656)
  (h:∀bM τ,Sl τ aa bM (xs++[y])->bM.at? =some (J.next+1)->(∀o l c,bM= .ao o 0 l aa c->c=none)->τ.next=J.next+2->(∀i o,v.at? ≠some i->J.get i=some o->τ.get i=some o)->ch cf env aN D n ops (bx ((d,bM)::(d0,.ao J.next 0 1 aa (some 1))::F) z) τ Q):
  ch cf env aN D n (⟨some d0,.buildSlice aa 1 kT aE,g,[]⟩::⟨some d,.append aa bytes s (.t d0),bQ,[]⟩::ops) (bx F z) J Q:=by
 refine bI Has.nil I k_ hw hl λeN c_ H1 bG=>?_;have k7:=H1.get _ (.head _);refine ap (w:=.ao J.next 0 1 aa (some 1)) y [] (hA.aS λi o _=>bG i o) ?_ (λz bb=>by rw[cu.1 bb];exact iu) hb hd jU h1 ?_ λbM τ a2 bm cx ep eW=>h bM τ a2 (by rw[bm,c_]) cx (by rw[ep,c_]) λi o hi ho=>eW i o hi (bG i o ho)
 ·show readList eN (.ao J.next 0 1 aa (some 1))=_;show(match eN.get J.next with|some (.cells c)=>elems aa 1 (c.drop 0)|_=>none)=_;rw[k7];exact hy
 ·show cond (Nat.blt d0 n) (match cond (Nat.beq d0 d0) (some _) _ with|some v=>some v|none=>some (z d0)) none=_;rw[k_,h2];rfl
end
end W
structure bu where
 bs:Nat
 op:Nat
 hyp:Bool
 f:Fm
 fV:List Nat
 cs:List (Nat×Nat)
abbrev bA(F:Fm):List AV:=[.i .u8 (Int.ofNat F.op),.s F.name,jG true F.gV,iH true F.gy]
theorem jY(F:Fm):F.A true= .ah (bA F):=by unfold Fm.A;rw[Fm.jV]
abbrev np(o:Bool)(l:List (Nat×Nat)):AV:=slA o (some 2) (l.map λc=>.ah [ai c.1,ai c.2])
abbrev bu.A(x:bu):AV:=.ah [ai x.bs,ai x.op,.b x.hyp,.i .u8 (Int.ofNat x.f.op),.s x.f.name,jG true x.f.gV,iH true x.f.gy,.s x.fV,np true x.cs]
abbrev cC(L:List bu):AV:=.a_ true (some 9) (L.map bu.A)
theorem IY{L:List bu}{j:Nat}(h:j<L.length):idxSlA (some 9) (cC L) j=some (.dG true (L[j]).A):=by
 have:=Av (o:=true) (aa:=some 9) (f:=bu.A) h;cases L with
 |nil=>simp at h
 |cons x l=>exact this
theorem IZ{J:ae}{L:List bu}:lenA J 1 (cC L)=some L.length:=by show some (L.map bu.A).length=_;rw[b0]
@[irreducible] def A8 (aa:Option Nat) (v:AV) (j:Nat):AV:=(idxSlA aa v j).getD .fJ
theorem r_{aa:Option Nat}{v w:AV}{j:Nat}(h:idxSlA aa v j=some w):A8 aa v j=w:=by unfold A8;rw[h];rfl
structure hU(J:ae)(aa:Option Nat)(v:AV)(xs:List AV):Prop where
 len:∀τ,lenA τ 1 v=some xs.length
 eG:∀ {j},j<xs.length->idxSlA aa v j=some (A8 aa v j)
 az:∀ {j} (h:j<xs.length),rp J aa (A8 aa v j)=some xs[j]
structure lo(J:ae)(v:AV)(l:List Nat):Prop where
 len:∀τ,lenA τ 1 v=some l.length
 eG:∀ {j},j<l.length->idxSlA none v j=some (A8 none v j)
 az:∀ {j} (h:j<l.length),rp J none (A8 none v j)=some (ai l[j])
theorem Sl.vw{J:ae}{aa:Option Nat}{v:AV}{xs:List AV}(h:Sl J aa v xs):hU J aa v xs:=
 ⟨λτ=>h.len,λ{j} aC=>by obtain⟨o,c,r,h0,h1,_⟩:=h.gd aC;rw[r_ h1];exact h1,λ{j} aC=>by
  obtain⟨o,c,r,h0,h1,h2,h3,aQ⟩:=h.gd aC;rw[r_ h1];exact uV h2 aQ⟩
theorem hU.kE{J:ae}{v:AV}{l:List Nat}(h:hU J none v (l.map ai)):lo J v l:=
 ⟨λτ=>by rw[h.len,b0],λaC=>h.eG (by rw[b0];exact aC),λaC=>by rw[h.az (by rw[b0];exact aC),e_]⟩
theorem Sl.kE{J:ae}{v:AV}{l:List Nat}(h:Sl J none v (l.map ai)):lo J v l:=h.vw.kE
theorem Ea{J:ae}{aa:Option Nat}{o:Bool}{xs:List AV}(ab:∀y∈xs,conf aa y=true):hU J aa (slA o aa xs) xs:=
 ⟨λτ=>Wp τ o aa xs,λaC=>by rw[r_ (DD aC)];exact DD aC,λ{j} aC=>by
  rw[r_ (DD aC)];show(if conf aa xs[j] then some xs[j] else none)=_;rw[if_pos (ab _ (bJ aC))]⟩
abbrev fp(J:ae)(v:AV)(l:List Nat):Prop:=Sl J none v (l.map ai)
theorem Sl.b6Z{J:ae}{v:AV}{l:List Nat}(h:fp J v l){ar:aI->Option AV}{hi:aI}{k:Nat}(ay:k<=l.length)(he:ar hi=some (ai k)):∃w,sliceA ar none v none (some hi) none=some w/\lo J w (l.take k):=by
 by_cases hn:∀o l c,v= .ao o 0 l none c->c=none
 ·obtain⟨w,h1,h2,_⟩:=h.cut hn (k:=k) (by rw[b0];exact ay) he;exact⟨w,h1,Sl.kE (by rw[FQ];exact h2)⟩
 ·have h':=h;unfold fp at h';generalize hm:l.map ai=xs at h';cases h' with
  |nil=>exact absurd (λ_ _ _ h=>by cases h) hn
  |ao o cap xs rest hg ab hk=>
   have hlen:xs.length=l.length:=by rw[<-hm,b0]
   rcases hk with rfl|rfl
   ·exact absurd (λ_ _ _ h=>by cases h;rfl) hn
   ·refine⟨.ao o 0 k none (some xs.length),?_,?_⟩
    ·have hb:bndO ar (some hi) xs.length=some k:=by show(match ar hi with|some v=>natOf v|none=>none)=_;rw[he];rfl
     have h1:Nat.ble 0 k=true:=j7 (k0 k);have h2:Nat.ble k xs.length=true:=j7 U;have h0:bndO ar none 0=some 0:=rfl;simp only[sliceA,if_true,h0,hb,h1,h2,CO,sG,ite_self,Nc]
    ·have oy:(l.take k).length=k:=by rw[gI];omega
     have hx:∀ {j},j<k->idxSlA none (.ao o 0 k none (some xs.length)) j=some (.p (some (o,j))):=λ{j} aC=>by
      rw[tp aC,qw,show j*shN none=j from Hk j]
     refine⟨λτ=>by rw[oy];rfl,λ{j} aC=>?_,λ{j} aC=>?_⟩
     ·rw[r_ (hx U)];exact hx U
     ·rw[r_ (hx U)];obtain⟨r,a2,bm⟩:=OD (rest:=rest) ab j U;rw[show j*shN none=j from Hk j] at a2;refine uV hg ?_;rw[a2,bm,ud];subst hm;rw[e_]
theorem W.vf{cf:lj}{env:Env}{aN:Option Nat}{D:List (Nat ⊕ (AV×List AV))}{n:Nat}{F:List (Nat×AV)}{z:Nat->AV}{J:ae}{Q:ec}{d:Nat}{x hi:aI}{g:Option (Nat×Bool)}{ops:List a3}{v:AV}{l:List Nat}{k:Nat}(h:fp J v l)(ay:k<=l.length)(hd:Nat.blt d n=true)(hw:wtL g n F=true)(h1:db env n F z x=some v)(h2:db env n F z hi=some (ai k))
  (ab:∀w,lo J w (l.take k)->ch cf env aN D n ops (bx ((d,w)::F) z) J Q):ch cf env aN D n (⟨some d,.m5 none x none (some hi) none,g,[]⟩::ops) (bx F z) J Q:=by
 obtain⟨w,aR,a6⟩:=h.b6Z ay h2;refine W.val (v:=w) (ag:=J) hd hw ?_ (ab w a6);show(match db env n F z x with|some x=>(match sliceA (db env n F z) none x none (some hi) none with|some v=>some (bV.val v J)|none=>none)|none=>none)=_;rw[h1];show(match sliceA (db env n F z) none v none (some hi) none with|some v=>some (bV.val v J)|none=>none)=_;rw[aR]
structure mQ(J:ae)(p:Nat)(L:List bu)(B N:List (List Nat)):Prop where
 ex:∃cX fs bI e5,J.get p=some (.cells [cC L,cX,fs])/\Sl J none cX bI/\bI.length=B.length/\(∀i (h:i<bI.length) (h':i<B.length),fp J bI[i] B[i])/\Sl J none fs e5/\e5.length=N.length/\∀i (h:i<e5.length) (h':i<N.length),fp J e5[i] N[i]
theorem mQ.aS{J τ:ae}{p:Nat}{L:List bu}{B N:List (List Nat)}(h:mQ J p L B N)(k:∀i o,J.get i=some o->τ.get i=some o):mQ τ p L B N:=by
 obtain⟨cX,fs,bI,e5,h1,h2,h3,aQ,bF,cw,eL⟩:=h.ex;exact⟨cX,fs,bI,e5,k _ _ h1,h2.aS λi o _=>k i o,h3,λi a b=>(aQ i a b).aS λi o _=>k i o,bF.aS λi o _=>k i o,cw,λi a b=>(eL i a b).aS λi o _=>k i o⟩
theorem I0{o:Bool}{aa:Option Nat}{l:List AV}:conf none (slA o aa l)=true:=by cases l<;>rfl
theorem I1{a:Nat}(h:a+1<2^63):binop .add (ai a) (.i .i64 1)=some (ai (a+1)):=pI (b:=1) h
theorem I2{a:Nat}(h1:1<=a)(h:a<2^63):binop .sub (ai a) (.i .i64 1)=some (ai (a-1)):=rV (b:=1) h1 h
theorem aj{P R:Prop}(k:R)(h:Hid R->P:=by
 intro k
 repeat (first
  |refine W.go I I I I ?_
  |refine W.off I I ?_
  |(refine W.HP ?_;first|refine W.lt I I I I ?_|refine W.lt I I I I0 ?_|(refine W.az (c:=?_) (v:=?_) H I I I ?_ ?_ ?_;rotate_left 2;(repeat (first|exact .head _|refine .tail _ ?_));exact rfl)|refine W.le I I I (lo.az (by assumption) (by omega)) ?_|refine W.le I I I (hU.az (by assumption) (by omega)) ?_)
  |(refine W.HQ ?_;first|refine W.DJ I I I I (by simp only[W.cmpP,gp,g6];first|done|omega|exact id|exact λh=>h trivial) ?_|refine W.eT I I I I I (by simp only[W.cmpP,gp,g6];first|done|omega|exact id|exact λh=>h trivial) ?_|refine W.bin I I I I (I1 (by omega)) ?_|refine W.bin I I I I (I2 (by omega) (by omega)) ?_|refine W.bin I I I I (pI (by omega)) ?_|refine W.bin I I I I (rV (by omega) (by omega)) ?_)
  |(refine W.HR ?_;first|refine W.eG I I I I (IY (by omega)) ?_|refine W.eG I I I I (Av (by omega)) ?_|refine W.eG I I I I (lo.eG (by assumption) (by omega)) ?_|refine W.eG I I I I (hU.eG (by assumption) (by omega)) ?_)
  |(refine W.HS ?_;first|refine W.len I I I IZ ?_|refine W.len I I I Hr ?_|refine W.len I I I (lo.len (by assumption) _) ?_|refine W.len I I I (hU.len (by assumption) _) ?_|refine W.len I I I I ?_)
  |(refine W.Nu ?_;first|(refine W.lQ (c:=?_) (v:=?_) H I I I ?_ ?_ ?_ ?_;rotate_left 2;(repeat (first|exact .head _|refine .tail _ ?_));exact rfl;first|exact e1 rfl|exact HU I))
  |refine W.sq ?_|refine W.rg ?_|refine W.b3I I ?_|refine W.DI ?_|refine ak.block (a:=.seq _ _) ?_|refine ak.block (a:=.region _) ?_|refine ak.block (a:=.draw _) ?_|refine ak.block (a:=.cond _ _ _) ?_
  |refine W.nil ?_|refine W.AE ?_
  |refine W.now (_::_) _ I I (by(repeat (refine⟨H.get _ (by repeat (first|exact List.Mem.head _|refine List.Mem.tail _ ?_)),?_⟩));exact trivial) ?_
  |refine W.mL I ?_|refine W.mM I ?_)
 exact k.out):P:=h ⟨k⟩
theorem eO{P R:Prop}(k:R)(h:Hid R->P:=by
 intro k
 repeat (first
  |refine W.go I I I I ?_
  |refine W.off I I ?_
  |(refine W.HP ?_;first|refine W.lt I I I I ?_|refine W.lt I I I I0 ?_|(refine W.az (c:=?_) (v:=?_) H I I I ?_ ?_ ?_;rotate_left 2;(repeat (first|exact .head _|refine .tail _ ?_));exact rfl)|refine W.le I I I (lo.az (by assumption) (by omega)) ?_|refine W.le I I I (hU.az (by assumption) (by omega)) ?_)
  |(refine W.HQ ?_;first|refine W.DJ I I I I (by simp only[W.cmpP,gp,g6];first|done|omega|exact id|exact λh=>h trivial) ?_|refine W.eT I I I I I (by simp only[W.cmpP,gp,g6];first|done|omega|exact id|exact λh=>h trivial) ?_|refine W.bin I I I I (I1 (by omega)) ?_|refine W.bin I I I I (I2 (by omega) (by omega)) ?_|refine W.bin I I I I (pI (by omega)) ?_|refine W.bin I I I I (rV (by omega) (by omega)) ?_)
  |(refine W.HR ?_;first|refine W.eG I I I I (IY (by omega)) ?_|refine W.eG I I I I (Av (by omega)) ?_|refine W.eG I I I I (lo.eG (by assumption) (by omega)) ?_|refine W.eG I I I I (hU.eG (by assumption) (by omega)) ?_)
  |(refine W.HS ?_;first|refine W.len I I I IZ ?_|refine W.len I I I Hr ?_|refine W.len I I I (lo.len (by assumption) _) ?_|refine W.len I I I (hU.len (by assumption) _) ?_|refine W.len I I I I ?_)
  |(refine W.Nu ?_;first|(refine W.lQ (c:=?_) (v:=?_) H I I I ?_ ?_ ?_ ?_;rotate_left 2;(repeat (first|exact .head _|refine .tail _ ?_));exact rfl;first|exact e1 rfl|exact HU I))
  |refine W.now (_::_) _ I I (by(repeat (refine⟨H.get _ (by repeat (first|exact List.Mem.head _|refine List.Mem.tail _ ?_)),?_⟩));exact trivial) ?_)
 exact k.out):P:=h ⟨k⟩
end Go.Lyc
end
noncomputable section
namespace Go.Lyc
set_option maxHeartbeats 0
variable [Tok][TokOk]
open Go.RowKit Go.Lyc.T
attribute [local irreducible] ch bR dC ev bH
section
variable {b:b5}{K:Nat->List AV->AV->Prop}
abbrev ee(J ag:ae):Prop:=J.next<=ag.next/\∀i o,J.get i=some o->ag.get i=some o
abbrev aT(p:Nat):AV:=.p (some (p,0))
def I3:List Nat:=[A0,D3,D5,D4,IH,IB,IC,ID,IA,IE]
structure mR(b:b5)(K:Nat->List AV->AV->Prop):Prop where
 I4:bq (b.aV K) A0 N4
 equal:bq (b.aV K) D3 Oa
 index:bq (b.aV K) D5 Oc
 cont:bq (b.aV K) D4 Ob
 clone:bq (b.aV K) IH YX
 A_:bq (b.aV K) IB YS
 I5:bq (b.aV K) IC N5
 beside:bq (b.aV K) ID YT
 Ba:bq (b.aV K) IA YR
 I6:bq (b.aV K) IE YU
theorem mR.q(h:mR b K):uZ (b.aV K) I3:=by
 have mk:∀ {g:Nat} {cd:aP} {body:bO},bq (b.aV K) g cd->cd.body=some body->quiet I3 body=true->(b.aV K).ext g=0/\((b.aV K).pure g=true\/(b.aV K).pure g=false/\∃cd body,(b.aV K).funcs g=some cd/\cd.body=some body/\quiet I3 body=true):=λhh hb aX=>⟨hh.e,.inr ⟨hh.p,_,_,hh.f,hb,aX⟩⟩
 intro g hg;simp only[I3,dF,gT,or_false] at hg;rcases hg with rfl|rfl|rfl|rfl|rfl|rfl|rfl|rfl|rfl|rfl
 ·exact mk h.I4 I I
 ·exact mk h.equal I I
 ·exact mk h.index I I
 ·exact mk h.cont I I
 ·exact mk h.clone I I
 ·exact mk h.A_ I I
 ·exact mk h.I5 I I
 ·exact mk h.beside I I
 ·exact mk h.Ba I I
 ·exact mk h.I6 I I
def mS(B:List (List Nat))(n d first:Nat):Bool:=decide ((B.getD (n-1) [])[d-1]? =some first)
theorem b7a(hh:bq (b.aV K) A0 N4){p:Nat}{L:List bu}{B N:List (List Nat)}{J:ae}(fg:mQ J p L B N)(n d first:Nat)(hn:1<=n)(h8:n<=B.length)(b3:B.length<2^62)(hd:1<=d)(jk:d<2^62):
  bH (b.aV K) 0 (.f (.func A0) [] []) [aT p,ai n,ai d,ai first] J (λr τ=>r= .ok (.b (mS B n d first))/\τ=J):=by
 refine W.code hh.e hh.p hh.f I I I I λz=>?_;obtain⟨cX,fs,bI,e5,h1,h2,h3,aQ,bF,cw,eL⟩:=fg.ex;have H:Has J [(p,[cC L,cX,fs])]:=Has.nil.cons h1 aG;have av:=h2.vw;have a0:=(aQ (n-1) U U).kE;have hg:B.getD (n-1) []=B[n-1]:=by rw[fO,cK U];rfl
 unfold mS;rw[hg];generalize B[n-1]=mz at a0;refine aj ?_;by_cases hlt:d<=mz.length
 ·refine aj ?_;refine W.WC I I I I I ?_;refine aj ?_;rw[show decide (mz[d-1]? =some first)=decide (mz[d-1]=first) from by rw[cK U];simp];exact ak.ret ⟨rfl,rfl,rfl⟩
 ·refine aj ?_;rw[show decide (mz[d-1]? =some first)=false from by rw[s6 U];simp];exact ak.ret ⟨rfl,rfl,rfl⟩
theorem Y5(hh:bq (b.aV K) D3 Oa){J:ae}{v w:AV}{l m:List Nat}(h1:lo J v l)(h2:lo J w m)(hl:l.length<2^62):
  bH (b.aV K) 0 (.f (.func D3) [] []) [v,w] J (λr τ=>r= .ok (.b (decide (l=m)))/\τ=J):=by
 refine W.code hh.e hh.p hh.f I I I I λz=>?_;have H:Has J []:=Has.nil;refine aj ?_;by_cases hlen:l.length=m.length
 ·refine aj ?_;refine ak.each l.length (λj f τ=>τ=J/\sat [(0,v),(1,w)] f/\l.take j=m.take j) hl ⟨rfl,⟨rfl,rfl,trivial⟩,rfl⟩ I I (λj g τ aC a0 hi hm=>?_) (λg τ a0 hi=>?_)
  ·obtain⟨rfl,⟨cZ,bL,_⟩,ht⟩:=a0;refine ak.norm [(0,v),(1,w),(13,ai j),(12,ai l.length)] ⟨cZ,bL,hi,hm,trivial⟩ λg=>?_;refine aj ?_;by_cases he:l[j]=m[j]
   ·refine aj ?_;exact⟨rfl,rfl,rfl,⟨rfl,rfl,trivial⟩,by rw[mf aC,mf U,ht,he]⟩
   ·refine aj ?_;rw[show decide (l=m)=false from decide_eq_false λe=>he (by subst e;rfl)];exact ak.ret ⟨rfl,rfl,rfl⟩
  ·obtain⟨rfl,_,ht⟩:=a0;refine ak.norm [] trivial λz=>?_;rw[show decide (l=m)=true from decide_eq_true (by rwa[mO,hlen,mO] at ht)];refine aj ?_;exact ak.ret ⟨rfl,rfl,rfl⟩
 ·refine aj ?_;rw[show decide (l=m)=false from decide_eq_false λe=>hlen (by rw[e])];exact ak.ret ⟨rfl,rfl,rfl⟩
theorem b7b(hh:bq (b.aV K) D4 Ob)(hx:bq (b.aV K) D5 Oc){J:ae}{v:AV}{l:List Nat}(h1:lo J v l)(hl:l.length<2^62)(a:Nat):
  bH (b.aV K) 0 (.f (.func D4) [] []) [v,ai a] J (λr τ=>r= .ok (.b (decide (a∈l)))/\τ=J):=by
 have hi:bH (b.aV K) 0 (.f (.func D5) [] []) [v,ai a] J (λr τ=>(∃k,r= .ok (.i .i64 k)/\decide (0<=k)=decide (a∈l))/\τ=J):=by
  refine W.code hx.e hx.p hx.f I I I I λz=>?_;have H:Has J []:=Has.nil;refine aj ?_;refine ak.each l.length (λj f τ=>τ=J/\sat [(0,v),(1,ai a)] f/\a∉l.take j) hl ⟨rfl,⟨rfl,rfl,trivial⟩,aG⟩ I I (λj g τ aC a0 hi hm=>?_) (λg τ a0 hi=>?_)
  ·obtain⟨rfl,⟨cZ,bL,_⟩,ht⟩:=a0;refine ak.norm [(0,v),(1,ai a),(8,ai j),(7,ai l.length)] ⟨cZ,bL,hi,hm,trivial⟩ λg=>?_;refine aj ?_;by_cases he:a=l[j]
   ·refine aj ?_;refine ak.ret ⟨rfl,⟨_,rfl,?_⟩,rfl⟩;rw[decide_eq_true (show a∈l from he▸bJ aC)];exact decide_eq_true (Cd j)
   ·refine aj ?_;refine⟨rfl,rfl,rfl,⟨rfl,rfl,trivial⟩,λh=>?_⟩;rw[mf aC] at h;rcases eP.1 h with h|h
    ·exact ht h
    ·exact he (cu.1 h)
  ·obtain⟨rfl,_,ht⟩:=a0;refine ak.norm [] trivial λz=>?_;refine aj ?_;refine ak.ret ⟨rfl,⟨_,rfl,?_⟩,rfl⟩;rw[mO] at ht;rw[decide_eq_false ht];rfl
 refine W.code hh.e hh.p hh.f I I I I λz=>?_;have H:Has J []:=Has.nil;refine aj ?_;refine W.aq trivial I I I hi λr τ ⟨⟨k,e,ay⟩,a6⟩=>⟨_,e,?_⟩
 subst a6;refine W.bin (v:=.b (decide (0<=k))) I I I I I ?_;rw[ay];refine aj ?_;exact ak.ret ⟨rfl,rfl,rfl⟩
structure tF(L:List bu)(B:List (List Nat)):Prop where
 len:B.length=L.length
 lt:L.length<2^20
 bs:∀x∈L,x.bs<2^20
 blt:∀x∈B,x.length<2^20
def ig(L:List bu)(k:Nat):Nat:=(L.map bu.bs).getD (k-1) 0
def ih(L:List bu)(B:List (List Nat))(k a c:Nat):Bool:=
 mS B a (ig L k+1) a&&(decide ((B.getD (a-1) []).take (ig L k)=B.getD (k-1) [])&&(decide (ig L c=ig L k+1)&&(mS B c (ig L k+1) a&& !mS B (c+1) (ig L k+1) a)))
theorem Eb{L:List bu}{k:Nat}(h1:1<=k)(h2:k<=L.length):ig L k=(L[k-1]'U).bs:=by
 unfold ig;rw[fO,kA,cK U];rfl
theorem Y6(hf:mR b K){p:Nat}{L:List bu}{B N:List (List Nat)}{J:ae}(fg:mQ J p L B N)(dL:tF L B)(k a c:Nat)(ha:1<=a)(dW:a<=c)(k8:c<k)(ay:k<=L.length):
  bH (b.aV K) 0 (.f (.func IB) [] []) [aT p,ai k,.ah [ai a,ai c]] J (λr τ=>r= .ok (.b (ih L B k a c))/\ee J τ):=by
 refine W.code hf.A_.e hf.A_.p hf.A_.f I I I I λz=>?_;obtain⟨cX,fs,bI,e5,h1,h2,h3,aQ,bF,cw,eL⟩:=fg.ex;have H:Has J [(p,[cC L,cX,fs])]:=Has.nil.cons h1 aG;have hl:=dL.lt;have hd:=dL.len;refine aj ?_;generalize aX:J.next=q;refine W.cM H aX I I I I I λτ hn H bG=>?_;have s4:=dL.bs _ (bJ (show k-1<L.length by omega));have av:=(h2.aS (τ:=τ) λi o _=>bG i o).vw;have aR:=Eb (L:=L) (k:=k) U ay;have a6:=Eb (L:=L) (k:=c) U U;have b7c:=fg.aS bG;have cn:∀(m:Nat) ag,mQ ag p L B N->1<=m->m<=B.length->bH (b.aV K) 0 (.f (.func A0) [] []) [aT p,ai m,ai (L[k-1].bs+1),ai a] ag (λr τ=>r= .ok (.b (mS B m (L[k-1].bs+1) a))/\τ=ag):=λm ag h bL bQ=>b7a hf.I4 h m _ a bL bQ U U U;unfold ih;rw[aR,a6];refine aj ?_;refine W.aq (hf.q.one I) I I I (cn a τ b7c ha U) λr aM ⟨e,c0⟩=>⟨_,e,?_⟩
 subst c0;cases an:mS B a (L[k-1].bs+1) a with
 |false=>
  refine aj ?_;exact ak.ret ⟨rfl,rfl,U,bG⟩
 |true=>
  have n8:B.getD (a-1) []=B[a-1]:=by rw[fO,cK U];rfl
  have OE:B.getD (k-1) []=B[k-1]:=by rw[fO,cK U];rfl
  have hlen:L[k-1].bs+1<=B[a-1].length:=by
   have:=of_decide_eq_true an;rw[n8] at this;have:=(fC.1 this).1;omega
  have a0:=(aQ (a-1) U U).aS (τ:=aM) λi o _=>bG i o;have iI:=(aQ (k-1) U U).aS (τ:=aM) λi o _=>bG i o;rw[n8,OE];refine aj ?_;refine W.vf a0 U I I I I λw hw=>?_;have Y7:=iI.kE;refine aj ?_;have eZ:L[k-1].bs+1-1=L[k-1].bs:=by omega
  rw[eZ] at hw;refine W.aq (hf.q.one I) I I I (Y5 hf.equal hw Y7 (by rw[gI];omega)) λr τ ⟨e,c0⟩=>⟨_,e,?_⟩
  subst c0;by_cases he:(B[a-1]).take (L[k-1].bs)=B[k-1]
  ·rw[decide_eq_true he,pG,pG];refine aj ?_;by_cases OF:L[c-1].bs=L[k-1].bs+1
   ·rw[decide_eq_true OF,pG];refine aj ?_;refine W.aq (hf.q.one I) I I I (cn c _ (fg.aS bG) U U) λr τ ⟨e,c0⟩=>⟨_,e,?_⟩
    subst c0;cases lJ:mS B c (L[k-1].bs+1) a with
    |false=>
     refine aj ?_;exact ak.ret ⟨rfl,rfl,U,bG⟩
    |true=>
     refine aj ?_;refine W.aq (hf.q.one I) I I I (cn (c+1) _ (fg.aS bG) U U) λr τ ⟨e,c0⟩=>⟨_,e,?_⟩
     subst c0;refine aj ?_;exact ak.ret ⟨rfl,rfl,U,bG⟩
   ·rw[decide_eq_false OF];refine aj ?_;exact ak.ret ⟨rfl,rfl,U,bG⟩
  ·rw[decide_eq_false he];refine aj ?_;exact ak.ret ⟨rfl,rfl,U,bG⟩
def asmF(L:List bu)(first d:Nat):Nat->Nat->List Nat
 |0,_=>[]
 |m+1,n=>match L[n-1]? with
  |some x=>if x.hyp=true/\x.bs=d/\¬(first<n/\0<x.op) then n::asmF L first d m (n+1) else[]
  |none=>[]
def iZ(L:List bu)(first d:Nat):List Nat:=asmF L first d (L.length+1-first) first
theorem yL(L:List bu)(first d m n:Nat):asmF L first d (m+1) n=match L[n-1]? with
  |some x=>if x.hyp=true/\x.bs=d/\¬(first<n/\0<x.op) then n::asmF L first d m (n+1) else[]
  |none=>[]:=rfl
structure yM(J τ:ae)(v:AV)(l:List Nat):Prop where
 ao:fp τ v l
 c5:∀i,v.at? =some i->J.next<=i
 iE:l=[]->v= .af
theorem Y8(hf:mR b K){p:Nat}{L:List bu}{B N:List (List Nat)}{J:ae}(fg:mQ J p L B N)(hL:L.length<2^20)(eb:∀x∈L,x.op<2^20)(first d:Nat)(h1:1<=first)(h2:first<=L.length):
  bH (b.aV K) 0 (.f (.func IC) [] []) [aT p,ai first,ai d] J (λr τ=>∃v,r= .ok v/\yM J τ v (iZ L first d)/\ee J τ):=by
 refine W.code hf.I5.e hf.I5.p hf.I5.f I I I I λz=>?_;obtain⟨cX,fs,bI,e5,au,_⟩:=fg.ex;have H:Has J [(p,[cC L,cX,fs])]:=Has.nil.cons au aG;refine aj ?_;refine ak.block ?_;refine ak.loop (λm f τ=>∃n v l,n+m=L.length+1/\first<=n/\l++asmF L first d m n=iZ L first d/\l.length+first=n/\yM J τ v l/\ee J τ/\sat [(0,aT p),(1,ai first),(2,ai d),(7,v),(8,ai n)] f) ?_ (L.length+1-first) ⟨first,.af,[],U,U,rfl,aG,⟨.nil,(λ_ h=>by cases h),λ_=>rfl⟩,⟨U,λ_ _ h=>h⟩,rfl,rfl,rfl,rfl,rfl,trivial⟩;rintro m f τ ⟨n,v,l,OG,iD,hl,fh,av,b_,an⟩;refine ak.norm _ an λz=>?_;clear an;have H:=H.aS b_.2;by_cases hn:n<=L.length
 ·obtain⟨m,rfl⟩:∃k,m=k+1:=⟨m-1,U⟩
  have hx:L[n-1]? =some L[n-1]:=cK U;have ho:=eb _ (bJ (show n-1<L.length by omega));rw[yL,hx] at hl;simp only[] at hl;refine aj ?_;generalize jI:L[n-1]=x at hl ho;refine W.lk H I I I I I I I λbl ei H bw=>?_;have tn:=av.ao.aS (τ:=bl) λi o _=>bw i o;have M2:ee J bl:=⟨by have:=b_.1;omega,λi o ho=>bw i o (b_.2 i o ho)⟩
  have fin:∀g:Nat->AV,iZ L first d=l->bR (b.aV K) none [] N5.ntmps (.seq (.region [⟨some 51,.bh (.t 7),none,[]⟩,⟨some 6,.bh (.t 51),none,[]⟩]) .ret) (bx [(7,v)] g) bl (λx b6 ag=>x= .ret/\∃v,et.ok (b6 6)= .ok v/\yM J ag v (iZ L first d)/\ee J ag):=λg e=>by
   refine aj ?_;exact ak.ret ⟨rfl,v,rfl,by rw[e];exact⟨tn,av.c5,av.iE⟩,M2⟩
  refine W.nil ?_;refine ak.b3k [(0,aT p),(1,ai first),(2,ai d),(7,v),(8,ai n)] (E:=λx f ag=>x= .exit 0/\sat [(7,v)] f/\ag=bl/\iZ L first d=l) (M:=l++n::asmF L first d m (n+1)=iZ L first d) ?_ ?_ ?_
  ·obtain⟨wS,oD,I7,Y9,Bb,qS⟩:=x;simp only[] at hl ho;have out:∀(F:List (Nat×AV)) (g:Nat->AV),¬(I7=true/\wS=d/\¬(first<n/\0<oD))->sat [(7,v)] (bx F g)->(fN.exit 0=fN.normal/\bl=bl/\sat [(0,aT p),(1,ai first),(2,ai d),(7,v),(8,ai n)] (bx F g)/\l++n::asmF L first d m (n+1)=iZ L first d)\/(fN.exit 0=fN.exit 0/\sat [(7,v)] (bx F g)/\bl=bl/\iZ L first d=l):=λF g ab an=>by
    rw[if_neg ab,iG] at hl;exact .inr ⟨rfl,an,rfl,hl.symm⟩
   cases I7 with
   |false=>
    refine aj ?_;refine ak.exit ?_;exact(out _ _ aG ⟨rfl,trivial⟩)
   |true=>
    by_cases hd:wS=d
    ·by_cases hfn:first<n
     ·by_cases h0:0<oD
      ·refine aj ?_;refine ak.exit ?_;exact(out _ _ (λh=>h.2.2 ⟨hfn,h0⟩) ⟨rfl,trivial⟩)
      ·refine aj ?_;rw[if_pos ⟨rfl,hd,λh=>h0 h.2⟩] at hl;exact .inl ⟨rfl,rfl,⟨rfl,rfl,rfl,rfl,rfl,trivial⟩,hl⟩
     ·refine aj ?_;rw[if_pos ⟨rfl,hd,λh=>hfn h.1⟩] at hl;exact .inl ⟨rfl,rfl,⟨rfl,rfl,rfl,rfl,rfl,trivial⟩,hl⟩
    ·refine aj ?_;refine ak.exit ?_;exact(out _ _ (λh=>hd h.2.1) ⟨rfl,trivial⟩)
  ·rintro x f ag ⟨rfl,an,rfl,e⟩;refine⟨aG,?_⟩;show bR _ _ _ _ _ _ _ _;exact ak.norm _ an λg=>fin g e
  ·intro b7d g;refine aj ?_;refine W.pu (ai n) tn I I I I I I I I I (by rw[b0];omega) λbM bZ qT qU _ fc bg=>?_;refine aj ?_;refine⟨m,U,n+1,bM,l++[n],U,U,by rw[jA];exact b7d,by simp;omega,⟨by unfold fp;rw[g_];exact qT,λi hi=>?_,λe=>absurd e aG⟩,⟨?_,λi o ho=>?_⟩,rfl,rfl,rfl,rfl,rfl,trivial⟩
   ·rw[qU] at hi;cases hi;have:=b_.1;omega
   ·have:=b_.1;omega
   ·exact bg i o (λe=>by have:=av.c5 i e;have:=ae.bE ho;omega) (M2.2 i o ho)
 ·obtain rfl:m=0:=by omega
  refine aj ?_;refine ak.exit ?_;show bR _ _ _ _ _ _ _ _;refine ak.norm [(7,v)] ⟨rfl,trivial⟩ λg=>?_;refine aj ?_;exact ak.ret ⟨rfl,v,rfl,⟨by rw[<-hl,show asmF L first d 0 n=[] from rfl,iG];exact av.ao,av.c5,λe=>av.iE (by rw[<-hl,show asmF L first d 0 n=[] from rfl,iG] at e;exact e)⟩,b_⟩
def lU(L:List bu)(N:List (List Nat))(k a c:Nat):List Nat:=(N.getD (c-1) []).filter λn=>!decide (n∈iZ L a (ig L k+1))
theorem OH(L:List bu)(first d:Nat):∀m n,(asmF L first d m n).length<=m
 |0,_=>br _
 |m+1,n=>by
  rw[yL];split
  ·split
   ·have:=OH L first d m (n+1);simp only[gp];omega
   ·exact k0 _
  ·exact k0 _
theorem Y_(hf:mR b K){p:Nat}{L:List bu}{B N:List (List Nat)}{J:ae}(fg:mQ J p L B N)(dL:tF L B)(eb:∀x∈L,x.op<2^20)(ed:∀l∈N,l.length<2^20)(k a c:Nat)(ha:1<=a)(dW:a<=c)(k8:c<k)(ay:k<=L.length)(ab:c<=N.length):
  bH (b.aV K) 0 (.f (.func ID) [] []) [aT p,ai k,.ah [ai a,ai c]] J (λr τ=>∃v,r= .ok v/\yM J τ v (lU L N k a c)/\ee J τ):=by
 refine W.code hf.beside.e hf.beside.p hf.beside.f I I I I λz=>?_;obtain⟨cX,fs,bI,e5,h1,h2,h3,aQ,bF,cw,eL⟩:=fg.ex;have H:Has J [(p,[cC L,cX,fs])]:=Has.nil.cons h1 aG;have hl:=dL.lt;refine aj ?_;refine W.cM H I I I I I I λτ hn H bG=>?_;have s4:=dL.bs _ (bJ (show k-1<L.length by omega));have aR:=Eb (L:=L) (k:=k) U ay;unfold lU;rw[aR];refine aj ?_;refine W.aq (hf.q.one I) I I I (Y8 hf (fg.aS bG) hl eb a (L[k-1].bs+1) ha U) λr bl ⟨v,e,av,M⟩=>⟨_,e,?_⟩
 have H:=H.aS M.2;have bw:∀i o,J.get i=some o->bl.get i=some o:=λi o h=>M.2 i o (bG i o h);have OI:=(bF.aS (τ:=bl) λi o _=>bw i o).vw;have a0:=(eL (c-1) U U).aS (τ:=bl) λi o _=>bw i o;have mh:N.getD (c-1) []=N[c-1]:=by rw[fO,cK U];rfl
 have b7e:=ed _ (bJ (show c-1<N.length by omega));rw[mh];have OJ:=a0.kE;have qn:(iZ L a (L[k-1].bs+1)).length<2^62:=by have:=OH L a (L[k-1].bs+1) (L.length+1-a) a;unfold iZ;omega
 generalize iZ L a (L[k-1].bs+1)=own at av qn;generalize N[c-1]=iE at a0 OJ b7e;generalize b7f:e5[c-1]=Za at a0 OJ;refine aj ?_;rw[b7f];refine aj ?_;have yl:=av.ao;refine ak.each iE.length (λj f aM=>∃w,yM bl aM w ((iE.take j).filter λn=>!decide (n∈own))/\ee bl aM/\sat [(7,v),(8,w),(33,Za)] f) U ⟨.af,⟨.nil,(λ_ h=>by cases h),λ_=>rfl⟩,⟨U,λ_ _ h=>h⟩,rfl,rfl,rfl,trivial⟩ I I (λj g aM aC I8 hi hm=>?_) (λg aM I8 hi=>?_)
 ·obtain⟨w,hw,M2,gU,hs,I9,_⟩:=I8;refine ak.norm [(7,v),(8,w),(33,Za),(35,ai j),(34,ai iE.length)] ⟨gU,hs,I9,hi,hm,trivial⟩ λg=>?_;have OJ:=(a0.aS (τ:=aM) λi o _=>M2.2 i o).kE;have b7g:=(yl.aS (τ:=aM) λi o _=>M2.2 i o).kE;refine aj ?_;refine W.aq trivial I I I (b7b hf.cont hf.index b7g qn iE[j]) λr bZ ⟨e,c0⟩=>⟨_,e,?_⟩
  subst c0;by_cases hm:iE[j]∈own
  ·rw[decide_eq_true hm];refine aj ?_;exact⟨rfl,rfl,w,by rw[mf aC,A2,uj,decide_eq_true hm];simpa using hw,M2,rfl,rfl,rfl,trivial⟩
  ·rw[decide_eq_false hm];refine aj ?_;refine W.pu (ai iE[j]) hw.ao I I I I I I I I I (by rw[b0];have:=yJ (λn=>!decide (n∈own)) (iE.take j);rw[gI] at this;omega) λbM cG yN n9 _ fF b9=>?_;refine aj ?_;refine⟨rfl,rfl,bM,⟨?_,λi hi=>?_,λe=>?_⟩,⟨?_,λi o ho=>b9 i o (λe=>?_) (M2.2 i o ho)⟩,rfl,rfl,rfl,trivial⟩
   ·rw[mf aC,A2,uj,decide_eq_false hm];unfold fp;rw[g_];exact yN
   ·rw[n9] at hi;cases hi;have:=M2.1;omega
   ·rw[mf aC,A2,uj,decide_eq_false hm] at e;simp at e
   ·have:=M2.1;omega
   ·have:=hw.c5 i e;have:=ae.bE ho;omega
 ·obtain⟨w,hw,M2,gU,hs,_⟩:=I8;refine ak.norm [(8,w)] ⟨hs,trivial⟩ λg=>?_;refine aj ?_;have ei:=M.1;refine ak.ret ⟨rfl,w,rfl,⟨by rw[mO] at hw;exact hw.ao,(λi hi=>by have:=hw.c5 i hi;omega),λe=>hw.iE (by rw[mO];exact e)⟩,⟨by have:=M2.1;omega,λi o h=>M2.2 i o (bw i o h)⟩⟩
end
section
variable {b:b5}{K:Nat->List AV->AV->Prop}
theorem W.I_{α:Type}{env:Env}{aN:Option Nat}{D:List (Nat ⊕ (AV×List AV))}{n:Nat}{a:bO}{f:Nat->AV}{J:ae}{Q:ec}(L:α->List (Nat×AV))(R:α->ae->Prop)(h1:bR env aN D n a f J (λx b6 ag=>x= .normal/\∃p,R p ag/\sat (L p) b6))(h2:∀p g ag,R p ag->Q .normal (bx (L p) g) ag):bR env aN D n a f J Q:=
 h1.mono λx b6 ag ⟨aR,p,a6,c0⟩=>by
  subst aR;rw[<-Dz c0];exact h2 p b6 ag a6
theorem W.mk{cf:lj}{env:Env}{aN:Option Nat}{D:List (Nat ⊕ (AV×List AV))}{n:Nat}{F:List (Nat×AV)}{z:Nat->AV}{J:ae}{Q:ec}{L:List (Nat×List AV)}(H:Has J L){d:Nat}{kT:AV}{x y:aI}{g:Option (Nat×Bool)}{ops:List a3}{m:Nat}{k bytes:Nat}(hn:J.next=k)(hb:bytes*m<=281474976710656)(hm:m<=281474976710656)(hd:Nat.blt d n=true)(hw:wtL g n F=true)(h1:db env n F z x=some (ai m))(h2:db env n F z y=some (ai m))
  (h:∀τ:ae,τ.next=k+1->Has τ ((k,List.replicate m kT)::L)->(∀i o,J.get i=some o->τ.get i=some o)->ch cf env aN D n ops (bx ((d,.ao k 0 m none (some m))::F) z) τ Q):ch cf env aN D n (⟨some d,.mkSlice none bytes [kT] x y,g,[]⟩::ops) (bx F z) J Q:=by
 subst hn;have b7h:∀m,g2 m [kT]=List.replicate m kT:=λm=>by
  induction m with
  |zero=>rfl
  |succ m aH=>show kT::g2 m [kT]=_;rw[aH];rfl
 have dk:∀i o,J.get i=some o->(J.push (.cells (List.replicate m kT))).get i=some o:=λi o ho=>by rw[ae.gw trivial _ (ae.bE ho)];exact ho
 refine W.val (v:=.ao J.next 0 m none (some m)) (ag:=J.push (.cells (List.replicate m kT))) hd hw ?_ (h (J.push (.cells (List.replicate m kT))) I (H.push I (ae.jP _) dk) dk);show(match db env n F z x,db env n F z y with
  |some (.i _ (.ofNat n)),some (.i _ (.ofNat m))=>
   cond (Nat.beq [kT].length (shN none)&&(Nat.ble n m&&(Nat.ble (bytes*m) 281474976710656&&Nat.ble m 281474976710656)))
    (some (bV.val (.ao J.next 0 n none (some m)) (J.push (.cells (g2 m [kT]))))) none
  |some .af,some (.i _ (.ofNat m))=>
   cond (Nat.beq [kT].length (Nat.succ (shN none))&&(Nat.blt 0 m&&Nat.ble ((3*m+2000)*bytes) 281474976710656))
    (some (bV.val (.ao J.next 0 m none none) (J.push (.cells (g2 m [kT].tail))))) none
  |_,_=>none)=_
 rw[h1,h2];show cond (Nat.ble m m&&(Nat.ble (bytes*m) 281474976710656&&Nat.ble m 281474976710656)) (some (bV.val (.ao J.next 0 m none (some m)) (J.push (.cells (g2 m [kT]))))) none=_;rw[j7 (br m),j7 hb,j7 hm,b7h];rfl
theorem b7i{vg:List Bool}{n:Nat}(h:n<vg.length):storeCells (vg.map AV.b) (0+n*shN none) (AV.b true).cells=some ((vg.set n true).map AV.b):=by
 have e:0+n*shN none=n:=by show 0+n*1=n;omega
 rw[e];unfold storeCells;rw[if_pos (j7 (by show n+1<=_;rw[b0];omega))];show some ((vg.map AV.b).take n++([AV.b true]++(vg.map AV.b).drop (n+1)))=_;rw[Ox,if_pos h];simp
theorem b7j{vg:List Bool}{n:Nat}(h:n<vg.length):dU none ((vg.map AV.b).drop (0+n*shN none))=some (.b vg[n]):=by
 have e:0+n*shN none=n:=by show 0+n*1=n;omega
 rw[e,← List.map_drop,IP h];rfl
def qV(L:List bu)(B N:List (List Nat))(k:Nat)(ac:Nat×Nat):List Nat:=cond (ih L B k ac.1 ac.2) (lU L N k ac.1 ac.2) (N.getD (ac.2-1) [])
def n_(L:List bu)(B N:List (List Nat))(k:Nat)(l:List (Nat×Nat))(n:Nat):Bool:=l.any λac=>decide (n∈qV L B N k ac)
def needL(L:List bu)(B N:List (List Nat))(k:Nat):List Nat:=match L[k-1]? with
 |some x=>cond x.hyp [k] ((List.range k).filter (n_ L B N k x.cs))
 |none=>[]
def sa(k:Nat)(l:List (Nat×Nat)):Prop:=l.length<2^20/\∀ac∈l,1<=ac.1/\ac.1<=ac.2/\ac.2<k
theorem b7k{k:Nat}(p:Nat->Bool)(n:Nat):((List.range k).map p).set n true=(List.range k).map λi=>p i||decide (i=n):=by
 apply xu
 ·simp
 ·intro i h1 h2;rw[ui];simp only[e_,qc];by_cases h:n=i
  ·subst h;simp
  ·rw[if_neg h,decide_eq_false (λe=>h e.symm),Oy]
theorem b7l(hf:mR b K){p:Nat}{L:List bu}{B N:List (List Nat)}{J:ae}(fg:mQ J p L B N)(dL:tF L B)(eb:∀x∈L,x.op<2^20)(ed:∀l∈N,l.length<2^20)(k:Nat)(Ja:1<=k)(ay:k<=L.length)(Zb:k<=N.length+1)(b7m:∀l∈N.take (k-1),∀n∈l,n<k)(ab:∀x,L[k-1]? =some x->sa k x.cs):
  bH (b.aV K) 0 (.f (.func IA) [] []) [aT p,ai k] J (λr τ=>∃v,r= .ok v/\yM J τ v (needL L B N k)/\ee J τ):=by
 refine W.code hf.Ba.e hf.Ba.p hf.Ba.f I I I I λz=>?_;obtain⟨cX,fs,bI,e5,h1,h2,h3,aQ,bF,cw,eL⟩:=fg.ex;have H:Has J [(p,[cC L,cX,fs])]:=Has.nil.cons h1 aG;have hl:=dL.lt;have hx:L[k-1]? =some L[k-1]:=cK U;replace ab:=ab _ hx;have dh:needL L B N k=cond (L[k-1]).hyp [k] ((List.range k).filter (n_ L B N k (L[k-1]).cs)):=by unfold needL;rw[hx]
 refine aj ?_;generalize jI:L[k-1]=x at ab dh;cases hh:x.hyp with
 |true=>
  refine aj ?_;refine W.bI (c:=[ai k]) H I I I I λτ hn H bG=>?_;refine aj ?_;rw[hh] at dh;refine ak.ret ⟨rfl,_,rfl,⟨by rw[dh];exact .ao J.next (some 1) [ai k] [] (H.get _ (.head _)) (by intro y hy;rw[cu.1 hy];exact(rfl:conf none (ai k)=true)) (.inr I),(λi hi=>by cases hi;exact br _),λe=>absurd (dh.symm.trans e) aG⟩,U,bG⟩
 |false=>
  refine aj ?_;refine W.mk H I U U I I I I λτ hn H bG=>?_;generalize aX:J.next=q at H hn;refine aj ?_;rw[jI];refine aj ?_;have OK:∀i o,J.get i=some o->i≠q:=λi o ho=>by have:=ae.bE ho;omega
  have yg:q≠p:=λe=>OK p _ h1 e.symm
  -- FW is there at uk c7x c7y
  let Np:ae->Prop:=λaM=>q<aM.next/\∀i o,J.get i=some o->aM.get i=some o
  refine ak.each x.cs.length (λj f aM=>Np aM/\aM.get q=some (.cells (((List.range k).map (n_ L B N k (x.cs.take j))).map AV.b))/\sat [(0,aT p),(1,ai k),(5,.ao q 0 k none (some k)),(35,np true x.cs)] f) (by have:=ab.1;omega) ⟨⟨U,bG⟩,?_,rfl,rfl,rfl,rfl,trivial⟩ I I (λj g aM aC a0 hi hm=>?_) (λg aM a0 hi=>?_)
  ·rw[H.get _ (.head _)]
   congr 2
   apply xu<;>simp[n_]
  ·obtain⟨⟨b7n,gJ⟩,hb,cZ,bL,dB,Bc,_⟩:=a0;refine ak.norm [(0,aT p),(1,ai k),(5,.ao q 0 k none (some k)),(35,np true x.cs),(37,ai j),(36,ai x.cs.length)] ⟨cZ,bL,dB,Bc,hi,hm,trivial⟩ λg=>?_;have H:Has aM [(p,[cC L,cX,fs])]:=Has.nil.cons (gJ _ _ h1) aG;obtain⟨ha,dW,k8⟩:=ab.2 _ (bJ aC);refine aj ?_;generalize Jb:x.cs[j]=ac at ha dW k8;obtain⟨a,c⟩:=ac;simp only[] at ha dW k8;refine W.lk H I I I I I I I λbl ei H bw=>?_;have Ec:∀i o,J.get i=some o->bl.get i=some o:=λi o h=>bw i o (gJ i o h);have OI:=(bF.aS (τ:=bl) λi o _=>Ec i o).vw;have k6:=bw _ _ hb;have a0:=(eL (c-1) U U).aS (τ:=bl) λi o _=>Ec i o;refine aj ?_;refine W.aq trivial I I I (Y6 hf (fg.aS Ec) dL k a c ha dW k8 ay) λr bZ ⟨e,e2⟩=>⟨_,e,?_⟩
   have H:=H.aS e2.2;have mh:N.getD (c-1) []=N[c-1]:=by rw[fO,cK U];rfl
   refine W.nil ?_;refine W.I_ (α:=AV) (λv=>[(0,aT p),(1,ai k),(5,.ao q 0 k none (some k)),(35,np true x.cs),(37,ai j),(36,ai x.cs.length),(8,v)]) (λv aM=>fp aM v (qV L B N k (a,c))/\(∀i,v.at? =some i->i≠q)/\ee bl aM) ?_ ?_
   ·unfold qV;cases Jc:ih L B k a c with
    |true=>
     refine aj ?_;refine W.aq trivial I I I (Y_ hf (fg.aS λi o h=>e2.2 i o (Ec i o h)) dL eb ed k a c ha dW k8 ay U) λr cG ⟨v,e,av,fi⟩=>⟨_,e,?_⟩
     refine aj ?_;exact⟨rfl,v,⟨av.ao,λi hi e=>by have:=av.c5 i hi;have:=e2.1;omega,by have:=e2.1;have:=fi.1;omega,λi o h=>fi.2 i o (e2.2 i o h)⟩,rfl,rfl,rfl,rfl,rfl,rfl,rfl,trivial⟩
    |false=>
     refine aj ?_;refine⟨rfl,_,⟨?_,λi hi e=>?_,e2⟩,rfl,rfl,rfl,rfl,rfl,rfl,rfl,trivial⟩
     ·show fp bZ e5[c-1] (N.getD (c-1) []);rw[mh];exact a0.aS λi o _=>e2.2 i o
     ·obtain⟨o,ho⟩:∃o,J.get i=some o:=by
       have h:=eL (c-1) U U;unfold fp at h;generalize List.map ai _=xs at h;have hi:(e5[c-1]).at? =some i:=hi;generalize e5[c-1]=w at h hi;cases h with
       |nil=>cases hi
       |ao o cap xs rest hg ab ay=>cases hi;exact⟨_,hg⟩
      exact OK i o ho e
   ·intro v g cG ⟨av,b7o,fi⟩;have Zc:∀n∈qV L B N k (a,c),n<k:=λn hn=>by
     have gb:N[c-1]∈N.take (k-1):=List.mem_take_iff_getElem.2 ⟨c-1,U,rfl⟩;have h8:n∈N.getD (c-1) []:=by
      unfold qV at hn;cases Jc:ih L B k a c with
      |true=>simp only[Jc,cond_true] at hn;exact(nP.1 hn).1
      |false=>simpa only[Jc,cond_false] using hn
     rw[mh] at h8;exact b7m _ gb n h8
    have b7p:(qV L B N k (a,c)).length<2^20:=by
     have h1:=ed _ (bJ (show c-1<N.length by omega));unfold qV;cases ih L B k a c with
     |true=>rw[cond_true];unfold lU;rw[mh];exact sL (yJ _ _) h1
     |false=>rw[cond_false,mh];exact h1
    have sc:=av.kE;generalize OL:qV L B N k (a,c)=iE at av b7p Zc sc;refine aj ?_;refine ak.each iE.length (λi f aM=>(∀i o,i≠q->cG.get i=some o->aM.get i=some o)/\cG.next<=aM.next/\aM.get q=some (.cells (((List.range k).map λm=>n_ L B N k (x.cs.take j) m||decide (m∈iE.take i)).map AV.b))/\sat [(0,aT p),(1,ai k),(5,.ao q 0 k none (some k)),(35,np true x.cs),(37,ai j),(36,ai x.cs.length),(58,v)] f) U ⟨λ_ _ _ h=>h,br _,?_,rfl,rfl,rfl,rfl,rfl,rfl,rfl,trivial⟩ I I (λi g aM fw a0 dc nF=>?_) (λg aM a0 dc=>?_)
    ·rw[fi.2 _ _ k6];simp
    ·obtain⟨Jd,ta,Bd,cZ,bL,dB,Bc,OM,ON,Zd,_⟩:=a0;refine ak.norm [(0,aT p),(1,ai k),(5,.ao q 0 k none (some k)),(35,np true x.cs),(37,ai j),(36,ai x.cs.length),(58,v),(60,ai i),(59,ai iE.length)] ⟨cZ,bL,dB,Bc,OM,ON,Zd,dc,nF,trivial⟩ λg=>?_;have H:Has aM [(q,_)]:=Has.nil.cons Bd aG;have sc:=(av.aS (τ:=aM) λi o hi=>Jd i o (b7o i hi)).kE;have hlt:=Zc _ (bJ fw);refine aj ?_;refine W.eG I I I I (tp hlt) ?_;refine W.st H 0 I I I I I (b7i (by rw[b0,lZ];exact hlt)) λdq iU H c9=>?_;refine aj ?_;refine⟨rfl,rfl,λi o hi h=>c9 i o hi (Jd i o hi h),U,?_,rfl,rfl,rfl,rfl,rfl,rfl,rfl,trivial⟩;rw[H.get _ (.head _),b7k];refine congrArg (λf=>some (AO.cells (((List.range k).map f).map AV.b))) (funext λm=>?_);rw[mf fw,Bool.or_assoc];refine congrArg (λt=>n_ L B N k (x.cs.take j) m||t) ?_;rw[sJ,qa,decide_eq_true_eq,decide_eq_true_eq,decide_eq_true_eq,eP,cu]
    ·obtain⟨Jd,ta,Bd,cZ,bL,dB,Bc,OM,ON,Zd,_⟩:=a0;refine⟨OM,ON,⟨by have:=fi.1;omega,λi o h=>Jd i o (OK i o h) (fi.2 i o (Ec i o h))⟩,?_,cZ,bL,dB,Bc,trivial⟩;rw[Bd];refine congrArg (λf=>some (AO.cells (((List.range k).map f).map AV.b))) (funext λm=>?_);rw[mf aC,mO];unfold n_;rw[List.any_append,Jb,Oz,List.any_nil,Oy,OL]
  ·obtain⟨⟨b7n,gJ⟩,hb,cZ,bL,dB,Bc,_⟩:=a0;refine ak.norm [(0,aT p),(1,ai k),(5,.ao q 0 k none (some k))] ⟨cZ,bL,dB,trivial⟩ λg=>?_;rw[mO] at hb;have H:Has aM [(q,_)]:=Has.nil.cons hb aG;refine aj ?_;refine ak.each k (λj f bl=>∃w,yM aM bl w ((List.range j).filter (n_ L B N k x.cs))/\ee aM bl/\sat [(11,w),(69,.ao q 0 k none (some k))] f) U ⟨.af,⟨.nil,(λ_ h=>by cases h),λ_=>rfl⟩,⟨br _,λ_ _ h=>h⟩,rfl,rfl,trivial⟩ I I (λj g bl aC a0 hi hm=>?_) (λg bl a0 hi=>?_)
   ·obtain⟨w,hw,M2,vh,b7q,_⟩:=a0;refine ak.norm [(11,w),(69,.ao q 0 k none (some k)),(71,ai j),(70,ai k)] ⟨vh,b7q,hi,hm,trivial⟩ λg=>?_;have H:=H.aS M2.2;have b7r:dU none ((((List.range k).map (n_ L B N k x.cs)).map AV.b).drop (0+j*shN none))=some (.b (n_ L B N k x.cs j)):=by rw[b7j (by simpa using aC)];simp
    refine aj ?_;refine W.eG I I I I (tp aC) ?_;refine W.az H I I I (.head _) b7r ?_;cases hn:n_ L B N k x.cs j with
    |false=>
     refine aj ?_;exact⟨rfl,rfl,w,by rw[wP,A2,uj,hn];simpa using hw,M2,rfl,rfl,trivial⟩
    |true=>
     refine aj ?_;refine W.pu (ai j) hw.ao I I I I I I I I I (by rw[b0];have:=yJ (n_ L B N k x.cs) (List.range j);rw[lZ] at this;omega) λbM cG yN n9 _ fF b9=>?_;refine aj ?_;refine⟨rfl,rfl,bM,⟨?_,λi hi=>?_,λe=>?_⟩,⟨?_,λi o ho=>b9 i o (λe=>?_) (M2.2 i o ho)⟩,rfl,rfl,trivial⟩
     ·rw[wP,A2,uj,hn];unfold fp;rw[g_];exact yN
     ·rw[n9] at hi;cases hi;have:=M2.1;omega
     ·rw[wP,A2,uj,hn] at e;simp at e
     ·have:=M2.1;omega
     ·have:=hw.c5 i e;have:=ae.bE ho;omega
   ·obtain⟨w,hw,M2,vh,_⟩:=a0;refine ak.norm [(11,w)] ⟨vh,trivial⟩ λg=>?_;refine aj ?_;rw[hh] at dh;exact ak.ret ⟨rfl,w,rfl,⟨by rw[dh];exact hw.ao,(λi hi=>by have:=hw.c5 i hi;omega),λe=>hw.iE (dh.symm.trans e)⟩,by have:=M2.1;omega,λi o h=>M2.2 i o (gJ i o h)⟩
end
end Go.Lyc
end
noncomputable section
namespace Go.Lyc
set_option maxHeartbeats 0
variable [Tok][TokOk]
open Go.RowKit Go.Lyc.T
theorem W.mT{env:Env}{aN:Option Nat}{D:List (Nat ⊕ (AV×List AV))}{n:Nat}{F:List (Nat×AV)}{z:Nat->AV}{J:ae}{Q:ec}{d:Nat}{op:AOp}{g:Option (Nat×Bool)}{ops:List a3}{cr:AV}{args:List AV}{R:et->ae->Prop}(hd:Nat.blt d n=true)(hw:wtL g n F=true)(ho:opx 0 (db env n F z) J op=some (.call cr args))
  (ab:bH env 0 cr args J R) (h:∀r τ,R r τ->∃v,r= .ok v/\ch .pl env aN D n ops (bx ((d,v)::F) z) τ Q):ch .pl env aN D n (⟨some d,op,g,[]⟩::ops) (bx F z) J Q:=aJ.iX hd (qM hw) (by rw[oM];exact ho) ab h
structure sd(W W':Nat->Prop)(τ aM:ae):Prop where
 next:τ.next<=aM.next
 aS:∀c o,¬W c->τ.get c=some o->aM.get c=some o
 own:∀c,W' c->W c\/τ.next<=c/\c<aM.next
abbrev OO:=Nat->(Nat->Prop)->ae->Prop
def b7s(Cz:Nat)(mU:OO):Prop:=∀i W τ aM,mU i W τ->(∀c o,c<Cz\/W c->τ.get c=some o->aM.get c=some o)->τ.next<=aM.next->mU i W aM
def Yields(env:Env)(g:Nat)(cap:List AV)(N:Nat)(A:Nat->(Nat->Prop)->ae->List AV->Prop)(J:ae)(kj:Nat->Prop):Prop:=
 ∀(g4:AV) (mU:OO) (τ:ae),b7s τ.next mU->(∀i W eN args,i<N->τ.next<=eN.next->A i W eN args->mU i W eN->bH env 0 g4 args eN (λr bl=>r= .ok (.b true)/\∃W',mU (i+1) W' bl/\sd W W' eN bl))→
  J.next<=τ.next->(∀c o,J.get c=some o->τ.get c=some o)->(∀c,kj c->c<J.next)->mU 0 kj τ->bH env 0 (.f (.func g) [] cap) [g4] τ (λr aM=>r= .ok (.a9 [])/\∃W',mU N W' aM)
theorem dK.iter{env:Env}{D:List (Nat ⊕ (AV×List AV))}{n:Nat}{f:Nat->AV}{J:ae}{Q:ec}{oL:aI}{aE:List Nat}{fH jD:bO}{g:Nat}{cap:List AV}{k:Nat}(N:Nat)(eM:OO)(A:Nat->(Nat->Prop)->ae->List AV->Prop)(kj:Nat->Prop)(ay:J.next=k)
  (nf:dv env n f oL=some (.f (.func g) [] cap)) (he:env.ext g=0) (au:cP (λp=>Nat.blt p n) aE=true) (hlen:∀i W τ args,A i W τ args->args.length=aE.length)
  (cn:∀i W τ aM,eM i W τ->(∀c o,W c->τ.get c=some o->aM.get c=some o)->τ.next<=aM.next->eM i W aM) (h0:eM 0 kj J) (yO:∀c,kj c->c<k) (de:Yields env g cap N A J kj)
  (D9:∀i W τ args,i<N->A i W τ args->eM i W τ->(∀c,τ.get (k+1)≠some (.cells c))->(∀c,W c->c<k\/k+2<=c)->k+2<=τ.next->(∀c o,¬kj c->J.get c=some o->τ.get c=some o)->bR env (some (k+1)) [] n fH (Hv aE args f) τ (λx f1 eN=>x= .normal/\(τ.next<=eN.next/\∀c o,τ.get c=some o->eN.get c=some o)∧
   ∀bl,bl.next=eN.next->(∀c o,c≠k+1->eN.get c=some o->bl.get c=some o)->eM i W bl->bR env (some (k+1)) [] n jD f1 bl (λx _ bZ=>x= .normal/\∃W',eM (i+1) W' bZ/\sd W W' bl bZ)))
  (D_:∀W τ,eM N W τ->τ.get k=some .eo->k+2<=τ.next->(∀c o,¬kj c->J.get c=some o->τ.get c=some o)->(∀c,W c->kj c\/k+2<=c)->Q .normal f τ):dK env D (.inl k::D) n (.rangeFunc oL aE fH jD) f J Q:=by
 subst ay;refine dK.range nf he λao gK=>?_;generalize ay:J.next=k at *;have rN:((J.push .eo).push (.loop .ready none ao aE fH jD k)).get (k+1)=some (.loop .ready none ao aE fH jD k):=by
  have:=ae.jP (J:=J.push .eo) (.loop .ready none ao aE fH jD k);rwa[show(J.push .eo).next=k+1 from by show J.next+1=_;rw[ay]] at this
 have nZ:∀i o,J.get i=some o->((J.push .eo).push (.loop .ready none ao aE fH jD k)).get i=some o:=λi o ho=>by
  have:=ae.bE ho;rw[ae.gw trivial _ (show i<(J.push .eo).next from by show i<J.next+1;omega),ae.gw trivial _ this];exact ho
 have tC:((J.push .eo).push (.loop .ready none ao aE fH jD k)).get k=some .eo:=by
  rw[ae.gw trivial _ (show k<(J.push .eo).next from by show k<J.next+1;omega)];have:=ae.jP (J:=J) .eo;rwa[ay] at this
 have jS:((J.push .eo).push (.loop .ready none ao aE fH jD k)).next=k+2:=by show J.next+1+1=_;rw[ay]
 generalize(J.push .eo).push (.loop .ready none ao aE fH jD k)=cT at *;refine(de (.f (.yield (k+1)) [] []) (λi W τ=>eM i W τ/\τ.get (k+1)=some (.loop .ready none ao aE fH jD k)/\k+2<=τ.next/\τ.get k=some .eo/\(∀c,W c->kj c\/k+2<=c)/\∀c o,¬kj c->J.get c=some o->τ.get c=some o) cT ?_ ?_ U nZ (λc ab=>by rw[ay];exact yO c ab) ?_).mono ?_
 ·rintro i W τ aM ⟨a2,bm,cx,ep,eW,mi⟩ dk hn;exact⟨cn i W τ aM a2 (λc o ab=>dk c o (.inr ab)) hn,dk _ _ (.inl U) bm,U,dk _ _ (.inl U) ep,eW,λc o ab ho=>dk c o (.inl (by have:=ae.bE ho;omega)) (mi c o ab ho)⟩
 ·rintro i W τ args hi hn hA ⟨a2,bm,cx,ep,eW,mi⟩;have nm:∀c,W c->c<k\/k+2<=c:=λc ab=>by
   rcases eW c ab with h|h
   ·exact .inl (yO c h)
   ·exact .inr h
  refine(bH.round (R:=λbl=>∃W',(eM (i+1) W' bl/\bl.get (k+1)=some (.loop .ready none ao aE fH jD k)/\k+2<=bl.next/\bl.get k=some .eo/\(∀c,W' c->kj c\/k+2<=c)/\∀c o,¬kj c->J.get c=some o->bl.get c=some o)/\sd W W' τ bl) (f:=f) (n:=n) bm gK au (by rw[hlen i W τ args hA];exact gH _) ?_).mono λr ag h=>h;refine(D9 i W τ args hi hA a2 (λc e=>by rw[bm] at e;cases e) nm cx mi).mono λx f1 eN ⟨aR,a6,h1⟩=>?_;have Ze:=a6.2 _ _ bm;have b7t:=cn i W τ eN a2 (λc o _=>a6.2 c o) a6.1;have gP:=jF (bU:=.loop .busy none ao aE fH jD k) Ze;have OP:¬W (k+1):=λh=>by rcases nm _ h with h|h<;>omega
  have b7u:¬W k:=λh=>by rcases nm _ h with h|h<;>omega
  have df:=a6.1;refine⟨aR,Ze,(h1 (eN.set (k+1) (.loop .busy none ao aE fH jD k)) I (λc o ab ho=>gP.2 c o ab ho) (cn i W _ _ b7t (λc o ab ho=>gP.2 c o (λe=>OP (e▸ab)) ho) (br _))).mono λx _ bZ ⟨c0,W',a0,cW⟩=>?_⟩;have ve:=cW.aS _ _ OP gP.1;have pO:=jF (bU:=.loop .ready none ao aE fH jD k) ve;have fc:eN.next<=bZ.next:=cW.next;have own:∀c,W' c->W c\/eN.next<=c:=λc ab=>(cW.own c ab).imp id And.left;have OQ:¬W' (k+1):=λh=>by rcases own _ h with h|h;exact OP h;omega
  have c6:∀c o,¬W c->c≠k+1->τ.get c=some o->(bZ.set (k+1) (.loop .ready none ao aE fH jD k)).get c=some o:=λc o ab a5 ho=>pO.2 c o a5 (cW.aS c o ab (gP.2 c o a5 (a6.2 _ _ ho)));refine⟨c0,ve,W',⟨cn _ _ _ _ a0 (λc o ab ho=>pO.2 c o (λe=>OQ (e▸ab)) ho) (br _),pO.1,by show k+2<=bZ.next;omega,c6 k _ b7u U ep,λc ab=>?_,λc o ab ho=>?_⟩,by show τ.next<=bZ.next;omega,λc o ab ho=>?_,λc ab=>(cW.own c ab).imp id λh=>⟨by have h1:eN.next<=c:=h.1;omega,h.2⟩⟩
  ·rcases own c ab with h|h
   ·exact eW c h
   ·exact .inr U
  ·have hlt:=ae.bE ho;by_cases Zf:W c
   ·rcases eW c Zf with h|h
    ·exact absurd h ab
    ·omega
   ·exact c6 c o Zf U (mi c o ab ho)
  ·by_cases hl:c=k+1
   ·subst hl;rw[bm] at ho;cases ho;exact pO.1
   ·exact c6 c o ab hl ho
 ·exact⟨cn 0 kj J cT h0 (λc o _ ho=>nZ c o ho) U,rN,U,tC,λc ab=>.inl ab,λc o _ ho=>nZ c o ho⟩
 ·rintro r τ ⟨aR,W',a2,bm,cx,ep,eW,mi⟩;have gP:=jF (bU:=.loop .exhausted none ao aE fH jD k) bm;have OQ:¬W' (k+1):=λh=>by
   rcases eW _ h with h|h
   ·have:=yO _ h;omega
   ·omega
  exact⟨_,.ready,aR,bm,aG,D_ W' _ (cn _ _ _ _ a2 (λc o ab ho=>gP.2 c o (λe=>OQ (e▸ab)) ho) (br _)) (gP.2 _ _ U ep) cx (λc o ab ho=>gP.2 c o (by have:=ae.bE ho;omega) (mi c o ab ho)) eW⟩
end Go.Lyc
end
noncomputable section
namespace Go.Lyc
set_option maxHeartbeats 0
variable [Tok][TokOk]
open Go.RowKit Go.Lyc.T
attribute [local irreducible] ch bR dC ev bH
section
variable {b:b5}{K:Nat->List AV->AV->Prop}
structure Zg(J τ:ae)(aa:Option Nat)(v:AV)(xs:List AV):Prop where
 ao:Sl τ aa v xs
 c5:∀i,v.at? =some i->J.next<=i
 iE:xs=[]->v= .af
structure b7v(J τ:ae)(u v:AV)(l:List Nat):Prop where
 ao:fp τ v l
 c5:∀i,v.at? =some i->J.next<=i
 iE:v.at? =none↔u.at? =none
theorem b7w(hf:mR b K){J:ae}{v:AV}{l:List Nat}(h:fp J v l)(hl:l.length<2^20):bH (b.aV K) 0 (.f (.func IH) [] []) [v] J (λr τ=>∃bM,r= .ok bM/\b7v J τ v bM l/\ee J τ):=by
 refine W.code hf.clone.e hf.clone.p hf.clone.f I I I I λz=>?_;have H:Has J []:=Has.nil;have h':=h;unfold fp at h';generalize hm:l.map ai=xs at h';cases h' with
 |nil=>
  refine aj ?_;exact ak.ret ⟨rfl,_,rfl,⟨by unfold fp;rw[hm];exact .nil,(λi hi=>by cases hi),Iff.rfl⟩,br _,λ_ _ h=>h⟩
 |ao o cap xs rest hg ab ay=>
  have hlen:xs.length=l.length:=by rw[<-hm,b0]
  have al:readList J (.ao o 0 xs.length none cap)=some xs:=h.read.trans (by rw[hm]);refine aj ?_;refine W.bI (c:=[]) H I I I I λτ hn H bG=>?_;have qB:readList τ (.ao o 0 xs.length none cap)=some xs:=b3x (λi c h=>bG i _ h) al;have h0:Sl τ none (.ao J.next 0 0 none (some 0)) []:=.ao J.next (some 0) [] [] (H.get _ (.head _)) aG (.inr I);refine aj ?_;cases xs with
  |nil=>
   refine W.val (v:=.ao J.next 0 0 none (some 0)) (ag:=τ) I I ?_ ?_
   ·show(match appendO 0 τ none 8 (.ao J.next 0 0 none (some 0)) (.ao o 0 0 none cap) with|some (v,J)=>some (bV.val v J)|none=>none)=_;have zR:newOf τ (.ao o 0 0 none cap)=some []:=qB;unfold appendO;rw[h0.read,zR];rfl
   ·refine aj ?_;exact ak.ret ⟨rfl,_,rfl,⟨by unfold fp;rw[hm];exact h0,(λi hi=>by cases hi;exact br _),⟨(λe=>by cases e),λe=>by cases e⟩⟩,U,bG⟩
  |cons y ba=>
   have zR:newOf τ (.ao o 0 (ba.length+1) none cap)=some (y::ba):=qB;refine W.ap y ba h0 zR ab (by simp only[g6];omega) I I I I λbM bl av ha _ ei bw=>?_;refine aj ?_;refine ak.ret ⟨rfl,_,rfl,⟨by unfold fp;rw[hm];exact av,λi hi=>?_,⟨λe=>?_,λe=>by cases e⟩⟩,U,λi o ho=>bw i o (λe=>?_) (bG i o ho)⟩
   ·have hi:bM.at? =some i:=hi;rw[ha] at hi;cases hi;omega
   ·have e:bM.at? =none:=e;rw[e] at ha;cases ha
   ·cases e;have:=ae.bE ho;omega
def fj(L:List bu)(n:Nat):Fm:=(L.map bu.f).getD (n-1) (.mk 0 [] none none)
theorem Be{L:List bu}{n:Nat}(h1:1<=n)(h2:n<=L.length):fj L n=(L[n-1]'U).f:=by
 unfold fj;rw[fO,kA,cK U];rfl
theorem OR(hf:mR b K){p:Nat}{L:List bu}{B N:List (List Nat)}{J:ae}(fg:mQ J p L B N)(hL:L.length<2^20){v:AV}{l:List Nat}(av:fp J v l)(hl:l.length<2^20)(hn:∀n∈l,1<=n/\n<=L.length):
  bH (b.aV K) 0 (.f (.func IE) [] []) [aT p,v] J (λr τ=>∃w,r= .ok w/\Zg J τ (some 4) w (l.map λn=>.ah (bA (fj L n)))/\ee J τ):=by
 refine W.code hf.I6.e hf.I6.p hf.I6.f I I I I λz=>?_;obtain⟨cX,fs,bI,e5,au,_⟩:=fg.ex;have H:Has J [(p,[cC L,cX,fs])]:=Has.nil.cons au aG;have sc:=av.kE;refine aj ?_;refine ak.each l.length (λj f τ=>∃w,Zg J τ (some 4) w ((l.take j).map λn=>.ah (bA (fj L n)))/\ee J τ/\sat [(0,aT p),(5,w),(8,v)] f) U ⟨.af,⟨.nil,(λ_ h=>by cases h),λ_=>rfl⟩,⟨br _,λ_ _ h=>h⟩,rfl,rfl,rfl,trivial⟩ I I (λj g τ aC a0 hi hm=>?_) (λg τ a0 hi=>?_)
 ·obtain⟨w,hw,M,cZ,dB,hs,_⟩:=a0;refine ak.norm [(0,aT p),(5,w),(8,v),(10,ai j),(9,ai l.length)] ⟨cZ,dB,hs,hi,hm,trivial⟩ λg=>?_;have H:=H.aS M.2;have sc:=(av.aS (τ:=τ) λi o _=>M.2 i o).kE;obtain⟨iD,h8⟩:=hn _ (bJ aC);have b4:=Be iD h8;refine aj ?_;refine W.pu (c:=bA (L[l[j]-1]).f) (.ah (bA (L[l[j]-1]).f)) hw.ao I I I I I I I I I (by rw[b0,gI];omega) λbM bl tn b7x _ ei bw=>?_;refine aj ?_;refine⟨rfl,rfl,bM,⟨?_,λi hi=>?_,λe=>?_⟩,⟨?_,λi o ho=>bw i o (λe=>?_) (M.2 i o ho)⟩,rfl,rfl,rfl,trivial⟩
  ·rw[mf aC,g_,pb,A3,b4];exact tn
  ·rw[b7x] at hi;cases hi;have:=M.1;omega
  ·have:=congrArg List.length e;rw[b0,gI,g6] at this;omega
  ·have:=M.1;omega
  ·have:=hw.c5 i e;have:=ae.bE ho;omega
 ·obtain⟨w,hw,M,cZ,dB,_⟩:=a0;refine ak.norm [(5,w)] ⟨dB,trivial⟩ λg=>?_;refine aj ?_;exact ak.ret ⟨rfl,w,rfl,⟨by rw[mO] at hw;exact hw.ao,hw.c5,λe=>hw.iE (by rw[mO];exact e)⟩,M⟩
def tG(s:List Nat)(i:Nat)(x:bu):List Nat:=s.take (x.bs-x.op)++List.replicate x.op (i+1)
def stF(L:List bu):Nat->List Nat
 |0=>[]
 |i+1=>match L[i]? with
  |some x=>tG (stF L i) i x
  |none=>[]
theorem vi{L:List bu}{i:Nat}(h:i<L.length):stF L (i+1)=tG (stF L i) i L[i]:=by
 rw[stF,cK h]
def c3(L:List bu):List (List Nat):=(List.range L.length).map λi=>stF L (i+1)
def nq(L:List bu):Nat->Bool
 |0=>false
 |i+1=>nq L i|| !(stF L (i+1)).isEmpty
theorem Zh{L:List bu}:∀ {i:Nat},nq L i=false->stF L i=[]
 |0,_=>rfl
 |i+1,h=>by
  rw[nq,Y0] at h;cases an:stF L (i+1) with
  |nil=>rfl
  |cons x l=>rw[an] at h;simp at h
structure wT(L:List bu):Prop where
 lt:L.length<2^10
 num:∀x∈L,x.bs<2^10/\x.op<=x.bs
 go:∀i (h:i<L.length),(L[i]).bs-(L[i]).op<=(stF L i).length
theorem wT.len{L:List bu}(h:wT L):∀i,i<L.length->(stF L (i+1)).length=(L[i]?.elim 0 bu.bs):=λi hi=>by
 rw[vi hi,cK hi];unfold tG;have:=h.go i hi;have:=(h.num _ (bJ hi)).2;rw[c4,gI,IS];show _=(L[i]).bs;omega
theorem W.cO{cf:lj}{env:Env}{aN:Option Nat}{D:List (Nat ⊕ (AV×List AV))}{n:Nat}{F:List (Nat×AV)}{z:Nat->AV}{J:ae}{Q:ec}{d:Nat}{x hi:aI}{g:Option (Nat×Bool)}{ops:List a3}{v:AV}{l:List Nat}{k:Nat}(h:fp J v l)(hn:∀o l c,v= .ao o 0 l none c->c=none)(ay:k<=l.length)(hd:Nat.blt d n=true)(hw:wtL g n F=true)(h1:db env n F z x=some v)(h2:db env n F z hi=some (ai k))
  (ab:∀w,fp J w (l.take k)->w.at? =v.at? →(∀o l c,w= .ao o 0 l none c->c=none)->ch cf env aN D n ops (bx ((d,w)::F) z) J Q):ch cf env aN D n (⟨some d,.m5 none x none (some hi) none,g,[]⟩::ops) (bx F z) J Q:=by
 obtain⟨w,aR,a6,c0,h7⟩:=Sl.cut (ar:=db env n F z) (hi:=hi) (k:=k) h hn (by rw[b0];exact ay) h2;refine W.val (v:=w) (ag:=J) hd hw ?_ (ab w (by rw[<-FQ] at a6;exact a6) c0 h7);show(match db env n F z x with|some x=>(match sliceA (db env n F z) none x none (some hi) none with|some v=>some (bV.val v J)|none=>none)|none=>none)=_;rw[h1];show(match sliceA (db env n F z) none v none (some hi) none with|some v=>some (bV.val v J)|none=>none)=_;rw[aR]
theorem b7y(hh:bq (b.aV K) AZ Iy){L:List bu}(cW:wT L){J:ae}{cM:Nat}(gl:J.get cM=some (.cells [cC L]))(kj:Nat->Prop)(yO:¬kj cM):
  Yields (b.aV K) AZ [aT cM] L.length (λi V τ args=>∃v,args=[ai (i+1),v]/\fp τ v (stF L (i+1))/\(v.at? =none↔nq L (i+1)=false)/\∀o,v.at? =some o->¬V o) J kj:=by
 intro g4 mU qW cn hy Zi Ed hlt iI;refine W.pM hh.e hh.p hh.f I I I λz=>?_;have H:Has qW [(cM,[cC L])]:=Has.nil.cons (Ed _ _ gl) aG;have hl:=cW.lt;refine aj ?_;refine ak.each L.length (λj f τ=>∃v V,fp τ v (stF L j)/\(v.at? =none↔nq L j=false)/\(∀o l c,v= .ao o 0 l none c->c=none)/\(∀o,v.at? =some o->qW.next<=o/\¬V o)/\mU j V τ/\qW.next<=τ.next/\(∀c,V c->c<τ.next)/\sat [(0,g4),(3,v),(6,cC L)] f) U ⟨.af,kj,.nil,⟨λ_=>rfl,λ_=>rfl⟩,(λ_ _ _ h=>by cases h),(λ_ h=>by cases h),iI,br _,λc ab=>vX (hlt c ab) Zi,rfl,rfl,rfl,trivial⟩ I I (λj g τ aC a0 hi hm=>?_) (λg τ a0 hi=>?_)
 ·obtain⟨v,V,av,sV,pj,qX,iI,iD,qQ,cZ,cm,ib,_⟩:=a0;refine ak.norm [(0,g4),(3,v),(6,cC L),(8,ai j),(7,ai L.length)] ⟨cZ,cm,ib,hi,hm,trivial⟩ λg=>?_;have H:Has τ []:=Has.nil;have gx:=cW.go j aC;have OL:=cW.num _ (bJ aC);have fP:=vi aC;refine aj ?_;generalize jI:L[j]=x at gx OL fP;refine W.cB H I I I I λeN c_ H bG=>?_;have uO:=av.aS (τ:=eN) λi o _=>bG i o;have OS:=cn _ _ _ eN iI (λc o _=>bG c o) U;refine aj ?_;refine W.st H 0 I I I I I I λbl ei H bw=>?_;have a5:∀o,v.at? =some o->o<τ.next:=λo ho=>av.lt ho;have tn:=uO.aS (τ:=bl) λi o hi=>bw i o (by have:=a5 i hi;omega);have OT:=cn _ _ _ bl OS (λc o ab=>bw c o (by rcases ab with h|h;omega;have:=qQ c h;omega)) U;refine aj ?_;refine W.cO tn pj (k:=x.bs-x.op) gx I I I I λw hw Zj b7z=>?_;refine aj ?_;refine ak.each x.op (λr f τ=>∃v,fp τ v ((stF L j).take (x.bs-x.op)++List.replicate r (j+1))/\(v.at? =none↔nq L j=false/\r=0)/\(∀o l c,v= .ao o 0 l none c->c=none)/\(∀o,v.at? =some o->qW.next<=o/\¬V o)/\mU j V τ/\qW.next<=τ.next/\(∀c,V c->c<τ.next)/\sat [(0,g4),(3,v),(4,ai j),(6,cC L),(7,ai L.length),(8,ai j)] f) U ⟨w,by simpa using hw,by rw[Zj,sV];simp,b7z,λo ho=>qX o (Zj▸ho),OT,U,λc ab=>by have:=qQ c ab;omega,rfl,rfl,rfl,rfl,rfl,rfl,trivial⟩ I I (λr g τ al a0 hi hm=>?_) (λg τ a0 hi=>?_)
  ·obtain⟨v,av,sV,pj,qX,iI,iD,qQ,cZ,cm,c7,ib,gU,hs,_⟩:=a0;refine ak.norm [(0,g4),(3,v),(4,ai j),(6,cC L),(7,ai L.length),(8,ai j),(22,ai r),(21,ai x.op)] ⟨cZ,cm,c7,ib,gU,hs,hi,hm,trivial⟩ λg=>?_;refine aj ?_;refine W.pu (ai (j+1)) av I I I I I I I I I (by rw[b0,c4,gI,IS];omega) λbM cG yN n9 OU fF b9=>?_;refine aj ?_;refine⟨rfl,rfl,bM,?_,⟨λe=>(by rw[n9] at e;cases e),λe=>by simp at e⟩,OU,λo ho=>?_,cn _ _ _ cG iI (λc o ab=>b9 c o λe=>?_) U,U,λc ab=>by have:=qQ c ab;omega,rfl,rfl,rfl,rfl,rfl,rfl,trivial⟩
   ·rw[Wc,← jA];unfold fp;rw[g_];exact yN
   ·rw[n9] at ho;cases ho;exact⟨U,λh=>by have:=qQ _ h;omega⟩
   ·have:=qX c e;rcases ab with h|h
    ·omega
    ·exact this.2 h
  ·obtain⟨v,av,sV,pj,qX,iI,iD,qQ,cZ,cm,c7,ib,gU,hs,_⟩:=a0;refine ak.norm [(0,g4),(3,v),(4,ai j),(6,cC L),(7,ai L.length),(8,ai j)] ⟨cZ,cm,c7,ib,gU,hs,trivial⟩ λg=>?_;have nJ:fp τ v (stF L (j+1)):=by rw[fP];exact av
   have Zk:v.at? =none↔nq L (j+1)=false:=by
    rw[sV,nq,Y0,fP];refine and_congr_right λh=>?_;rw[tG,Zh h];cases x.op with
    |zero=>simp
    |succ m=>simp[L9]
   refine aj ?_;refine W.mT I I I (hy j V τ _ aC iD ⟨v,rfl,nJ,Zk,λo ho=>(qX o ho).2⟩ iI) λr dq ⟨e,b7A,b7B,Je⟩=>⟨_,e,?_⟩
   refine aj ?_;have iU:=Je.next;refine⟨rfl,rfl,v,b7A,nJ.aS λi o hi=>Je.aS i o (qX i hi).2,Zk,pj,λo ho=>⟨(qX o ho).1,λh=>?_⟩,b7B,U,λc ab=>?_,rfl,rfl,rfl,trivial⟩
   ·rcases Je.own o h with h|h
    ·exact(qX o ho).2 h
    ·have:=av.lt ho;omega
   ·rcases Je.own c ab with h|h
    ·have:=qQ c h;omega
    ·exact h.2
 ·exact⟨.inr I,rfl,by obtain⟨v,V,_,_,_,_,h,_⟩:=a0;exact⟨V,h⟩⟩
end
section
variable {b:b5}{K:Nat->List AV->AV->Prop}(hfn:∀g aY r cc,K g aY r->K g aY cc->r=cc)
def vj(L:List bu)(k:Nat):Bool×Nat:=if 1<k then(match L[k-2]? with|some x=>(x.hyp,x.bs)|none=>(true,0)) else(true,0)
def vk(k:Nat)(c:Nat×Nat):Bool:=decide (1<=c.1/\c.1<=c.2/\c.2<k)
def Bf(x:bu)(p:Bool×Nat)(k:Nat):Bool:=
 decide (x.bs<=40/\x.op<=x.bs)&&(decide (x.bs-x.op<=p.2)&&cond x.hyp (x.fV.isEmpty&&(x.cs.isEmpty&&(decide (0<x.op)||(p.1&&decide (p.2=x.bs))))) (x.cs.all (vk k)&& !x.fV.isEmpty))
def se(L:List bu)(k:Nat):Bool:=match L[k-1]? with|some x=>Bf x (vj L k) k|none=>false
theorem b7C(L:List bu)(hL:L.length<2^10)(hn:∀x∈L,x.bs<2^10/\x.op<2^10/\x.cs.length<2^20)(k:Nat)(h1:1<=k)(h2:k<=L.length)(body:bO)(hb:N2.body=some body):ak (b.aV K) N2.ntmps body (gO [cC L,ai k]) ⟨.nil,0⟩ (lT 4 (.b (se L k))):=by
 cases hb;refine W.args λz=>?_;have H:Has (⟨.nil,0⟩:ae) []:=Has.nil;have hx:L[k-1]? =some L[k-1]:=cK U;have mI:=hn _ (bJ (show k-1<L.length by omega));unfold se;rw[hx];simp only[];refine aj ?_;generalize jI:L[k-1]=x at mI;refine W.lk H I I I I I I I λτ c_ H bG=>?_;have au:∃p,vj L k=p/\p.2<2^10/\(k=1->p=(true,0))/\(1<k->∃y,L[k-2]? =some y/\p=(y.hyp,y.bs)):=by
  refine⟨_,rfl,?_⟩;unfold vj;by_cases h:1<k
  ·rw[if_pos h,cK U];exact⟨(hn _ (bJ _)).1,λe=>by omega,λ_=>⟨_,rfl,rfl⟩⟩
  ·rw[if_neg h];exact⟨by show 0<_;omega,λ_=>rfl,λh'=>absurd h' h⟩
 obtain⟨p,aR,nZ,rN,b7D⟩:=au;rw[aR];unfold Bf;by_cases k7:x.bs<=40
 ·by_cases uy:x.op<=x.bs
  ·rw[decide_eq_true (show x.bs<=40/\x.op<=x.bs from⟨k7,uy⟩),pG];refine aj ?_;refine W.lk (c:=[ai 0,ai 0,.b true,.i .u8 0,.s [],.af,.af,.s [],.af]) H I I I I I I I λbl ei H bw=>?_;refine W.nil ?_;refine W.sq ?_;refine W.I_ (α:=AV×List AV) (λ_=>[(0,cC L),(1,ai k),(5,.p (some (0,0))),(6,.p (some (τ.next,0)))]) (λc aM=>Has aM [(τ.next,ai p.2::c.1:: .b p.1::c.2),(0,x.A.cells)]) ?_ ?_
   ·by_cases gJ:1<k
    ·obtain⟨y,hy,a6⟩:=b7D gJ;have b7E:L[k-2]=y:=(fC.1 hy).2;refine aj ?_;refine W.bin I I I I (rV (b:=2) U U) ?_;refine aj ?_;rw[b7E];refine W.st H 0 I I I I I I λbZ fc H bg=>?_;refine aj ?_;rw[a6];exact⟨rfl,(_,_),H,rfl,rfl,rfl,rfl,trivial⟩
    ·refine aj ?_;rw[rN U];exact⟨rfl,(_,_),H,rfl,rfl,rfl,rfl,trivial⟩
   ·intro c g bZ H;refine aj ?_;obtain⟨wS,oD,I7,Y9,Bb,qS⟩:=x;obtain⟨Zl,Zm⟩:=p;simp only[] at k7 uy mI nZ ⊢;have sb:∀l:List Nat,binop .eql (.s l) (.s [])=some (.b l.isEmpty):=λl=>by cases l<;>rfl
    have kF:∀l:List Nat,binop .neq (.s l) (.s [])=some (.b (!l.isEmpty)):=λl=>by cases l<;>rfl
    by_cases Jf:wS-oD<=Zm
    ·rw[decide_eq_true Jf,pG];refine aj ?_;cases I7 with
     |true=>
      rw[cond_true];refine W.mL I ?_;refine ak.cut [(5,.p (some (0,0))),(7,.b (Zl&&decide (Zm=wS)))] ?_ λg=>?_
      ·cases Zl with
       |true=>
        refine aj ?_;refine W.WC I I I I I ?_;refine aj ?_;exact⟨rfl,rfl,rfl,by rw[pG];rfl,trivial⟩
       |false=>
        refine aj ?_;exact⟨rfl,rfl,rfl,rfl,trivial⟩
      ·refine aj ?_;refine W.bin I I I I (sb Bb) ?_;cases Bb with
       |cons c t=>
        refine aj ?_;refine ak.ret ?_;exact⟨rfl,rfl⟩
       |nil=>
        refine aj ?_;cases qS with
        |cons c t=>
         refine aj ?_;refine ak.ret ?_;exact⟨rfl,rfl⟩
        |nil=>
         by_cases h0:0<oD
         ·rw[decide_eq_true h0];refine aj ?_;refine ak.ret ?_;exact⟨rfl,rfl⟩
         ·rw[decide_eq_false h0];refine aj ?_;refine ak.ret ?_;exact⟨rfl,rfl⟩
     |false=>
      rw[cond_false];refine W.mM I ?_;refine aj ?_;refine ak.each qS.length (λj f aM=>aM.next=aM.next/\(qS.take j).all (vk k)=true/\Has aM [(0,bu.A ⟨wS,oD,false,Y9,Bb,qS⟩ |>.cells)]/\sat [(1,ai k),(5,.p (some (0,0))),(80,np true qS)] f) U ⟨rfl,rfl,⟨λp au=>H.get p (.tail _ au),H.u0.tail⟩,rfl,rfl,rfl,trivial⟩ I I (λj g aM aC a0 hi hm=>?_) (λg aM a0 hi=>?_)
      ·obtain⟨_,hall,H,bL,dB,Zn,_⟩:=a0;refine ak.norm [(1,ai k),(5,.p (some (0,0))),(80,np true qS),(82,ai j),(81,ai qS.length)] ⟨bL,dB,Zn,hi,hm,trivial⟩ λg=>?_;refine aj ?_;generalize Jb:qS[j]=ac;obtain⟨a,c⟩:=ac;refine W.lk H I I I I I I I λcG fF H b9=>?_;have out:vk k (a,c)=false->(qS.all (vk k)&& !Bb.isEmpty)=false:=λh=>by
        have:qS.all (vk k)=false:=List.all_eq_false.2 ⟨qS[j],bJ aC,by rw[Jb,h];simp⟩;rw[this];rfl
       by_cases ha:1<=a
       ·by_cases dW:a<=c
        ·by_cases k8:c<k
         ·refine aj ?_;refine⟨rfl,rfl,rfl,?_,⟨λp au=>H.get p (.tail _ au),H.u0.tail⟩,rfl,rfl,rfl,trivial⟩;rw[mf aC,List.all_append,hall,Jb];simp[vk,ha,dW,k8]
         ·refine aj ?_;rw[out (decide_eq_false λh=>k8 h.2.2)];exact ak.ret ⟨rfl,rfl⟩
        ·refine aj ?_;rw[out (decide_eq_false λh=>dW h.2.1)];exact ak.ret ⟨rfl,rfl⟩
       ·refine aj ?_;rw[out (decide_eq_false λh=>ha h.1)];exact ak.ret ⟨rfl,rfl⟩
      ·obtain⟨_,hall,H,bL,dB,Zn,_⟩:=a0;refine ak.norm [(5,.p (some (0,0)))] ⟨dB,trivial⟩ λg=>?_;rw[mO] at hall;rw[hall,pG];refine aj ?_;refine W.bin I I I I (kF Bb) ?_;refine aj ?_;exact ak.ret ⟨rfl,rfl⟩
    ·rw[decide_eq_false Jf,A4];refine aj ?_;exact ak.ret ⟨rfl,rfl⟩
  ·rw[decide_eq_false (show ¬(x.bs<=40/\x.op<=x.bs) from λh=>uy h.2),A4];refine aj ?_;exact ak.ret ⟨rfl,rfl⟩
 ·rw[decide_eq_false (show ¬(x.bs<=40/\x.op<=x.bs) from λh=>k7 h.1),A4];refine aj ?_;exact ak.ret ⟨rfl,rfl⟩
end
end Go.Lyc
end
noncomputable section
namespace Go.Lyc
set_option maxHeartbeats 0
variable [Tok][TokOk]
open Go.RowKit Go.Lyc.T
def resV(J:ae)(f:Nat->AV)(r:Nat×Option (Option Nat)):Option AV:=
 match r.2 with
 |none=>some (f r.1)
 |some aa=>match f r.1 with
  | .p (some (id,off))=>match J.get id with
   |some (.cells c)=>dU aa (c.drop off)
   |_=>none
  |_=>none
def tH(J:ae)(f:Nat->AV)(rs:List (Nat×Option (Option Nat))):Option AV:=
 match mapO (resV J f) rs with
 |some [v]=>some v
 |some bo=>some (.a9 bo)
 |none=>none
theorem b7F{D:List (Nat ⊕ (AV×List AV))}{n:Nat}{f:Nat->AV}{ad:Fr}(J:ae)(h:iw D n f ad){r:Nat×Option (Option Nat)}(al:Nat.blt r.1 n=true):resultOf J ad.bf r=resV J f r:=by
 have hg:=h.get r.1;have hn:r.1<n:=gB al;rw[if_pos hn] at hg;obtain⟨d,o⟩:=r;unfold resultOf resV;simp only[] at hg ⊢;rw[hg];cases o with
 |none=>rfl
 |some aa=>
  cases f d with
  |p a=>cases a with
   |none=>rfl
   |some a=>rfl
  |_=>rfl
theorem Zo{D:List (Nat ⊕ (AV×List AV))}{n:Nat}{f:Nat->AV}{ad:Fr}(J:ae)(h:iw D n f ad){rs:List (Nat×Option (Option Nat))}(al:cP (λr=>Nat.blt r.1 n) rs=true):resultsOf J ad.bf rs=tH J f rs:=by
 have:mapO (resultOf J ad.bf) rs=mapO (resV J f) rs:=Aj λx hx=>b7F J h (lg al x hx);show(match mapO (resultOf J ad.bf) rs with|some [v]=>some v|some bo=>some (.a9 bo)|none=>none)=match mapO (resV J f) rs with|some [v]=>some v|some bo=>some (.a9 bo)|none=>none
 rw[this]
theorem Zp{env:Env}{fn:aP}{n:Nat}{f:Nat->AV}{ad:Fr}{J:ae}{v:AV}(h1:iw [] n f ad)(hd:cP (λr=>Nat.blt r.1 n) fn.results=true)(av:tH J f fn.results=some v):endF env 0 fn (.ret,ad,J)=some [(.ok v,J)]:=by
 show(match leave 0 (callD env 0) ad.defers none J with
  |none=>none
  |some (some v,J)=>some [(et.err v,J)]
  |some (none,J)=>match resultsOf J ad.bf fn.results with
   |some v=>some [(.ok v,J)]
   |none=>none)=_
 rw[h1.ds];show(match resultsOf J ad.bf fn.results with|some v=>some [(et.ok v,J)]|none=>none)=_;rw[Zo J h1 hd,av]
theorem Zq{env:Env}{fn:aP}{n d:Nat}{f:Nat->AV}{ad:Fr}{J:ae}{v:AV}(h1:iw [.inl d] n f ad)(hm:J.get d=some .eo)(hd:cP (λr=>Nat.blt r.1 n) fn.results=true)(av:tH (J.set d .dead) f fn.results=some v):endF env 0 fn (.ret,ad,J)=some [(.ok v,J.set d .dead)]:=by
 show(match leave 0 (callD env 0) ad.defers none J with
  |none=>none
  |some (some v,J)=>some [(et.err v,J)]
  |some (none,J)=>match resultsOf J ad.bf fn.results with
   |some v=>some [(.ok v,J)]
   |none=>none)=_
 have hl:leave 0 (callD env 0) ad.defers none J=some (none,J.set d .dead):=by
  rw[h1.ds];show(if Nat.blt d 0 then none else match J.get d with
   |some .eo=>some (none,J.set d .dead)
   |_=>none)=_
  rw[if_neg (by simp[Nat.blt,Nat.ble]),hm]
 rw[hl];show(match resultsOf (J.set d .dead) ad.bf fn.results with|some v=>some [(et.ok v,J.set d .dead)]|none=>none)=_;rw[Zo _ h1 hd,av]
theorem gW{J:ae}{f:Nat->AV}{d id off:Nat}{aa:Option Nat}{c:List AV}{v:AV}(h:f d= .p (some (id,off)))(hg:J.get id=some (.cells c))(ht:dU aa (c.drop off)=some v):resV J f (d,some aa)=some v:=by
 show(match f d with| .p (some (id,off))=>(match J.get id with|some (.cells c)=>dU aa (c.drop off)|_=>none)|_=>none)=_;rw[h];show(match J.get id with|some (.cells c)=>dU aa (c.drop off)|_=>none)=_;rw[hg];exact ht
theorem lp{J:ae}{f:Nat->AV}{d:Nat}{v:AV}(h:f d=v):resV J f (d,none)=some v:=by rw[<-h];rfl
theorem vl{J:ae}{f:Nat->AV}{x:Nat×Option (Option Nat)}{v:AV}(h:resV J f x=some v):tH J f [x]=some v:=by
 show(match mapO (resV J f) [x] with|some [v]=>some v|some bo=>some (.a9 bo)|none=>none)=_;rw[mapO_cons,h];rfl
theorem kk{J:ae}{f:Nat->AV}{x y:Nat×Option (Option Nat)}{v w:AV}(h:resV J f x=some v)(h2:resV J f y=some w):tH J f [x,y]=some (.a9 [v,w]):=by
 show(match mapO (resV J f) [x,y] with|some [v]=>some v|some bo=>some (.a9 bo)|none=>none)=_;rw[mapO_cons,mapO_cons,h,h2];rfl
theorem Zr{J:ae}{f:Nat->AV}{x y z:Nat×Option (Option Nat)}{v w u:AV}(h:resV J f x=some v)(h2:resV J f y=some w)(h3:resV J f z=some u):tH J f [x,y,z]=some (.a9 [v,w,u]):=by
 show(match mapO (resV J f) [x,y,z] with|some [v]=>some v|some bo=>some (.a9 bo)|none=>none)=_;rw[mapO_cons,mapO_cons,mapO_cons,h,h2,h3];rfl
section
variable {env:Env}{J:ae}{fn:Nat}{cd:aP}{body:bO}{first cap args:List AV}{R:et->ae->Prop}
theorem W.oa(e:env.ext fn=0)(au:env.pure fn=false)(hf:env.funcs fn=some cd)(hb:cd.body=some body)
  (hn:(Nat.beq (first++args++cap).length cd.kr&&Nat.ble (first++args++cap).length cd.ntmps)=true) (hd:cP (λr=>Nat.blt r.1 cd.ntmps) cd.results=true)
  (h:∀z,bR env none [] cd.ntmps body (bx (W.r0 0 (first++args++cap)) z) J (λx b6 ag=>x= .ret/\∃v,tH ag b6 cd.results=some v/\R (.ok v) ag)):bH env 0 (.f (.func fn) first cap) args J R:=by
 have hle:(first++args++cap).length<=cd.ntmps:=by
  simp only[du] at hn;exact gB hn.2
 refine bH.run e au hf hb hn ((W.args h _ (uW hle)).mono λx bc ag ⟨b6,h1,h2,v,h3,aQ⟩=>?_);subst h2;exact⟨.ok v,ag,Zp h1 hd h3,aQ⟩
theorem W.b7G{d:Nat}(e:env.ext fn=0)(au:env.pure fn=false)(hf:env.funcs fn=some cd)(hb:cd.body=some body)
  (hn:(Nat.beq (first++args++cap).length cd.kr&&Nat.ble (first++args++cap).length cd.ntmps)=true) (hd:cP (λr=>Nat.blt r.1 cd.ntmps) cd.results=true)
  (h:∀z,dK env [] [.inl d] cd.ntmps body (bx (W.r0 0 (first++args++cap)) z) J (λx b6 ag=>x= .ret/\ag.get d=some .eo/\∃v,tH (ag.set d .dead) b6 cd.results=some v/\R (.ok v) (ag.set d .dead))):bH env 0 (.f (.func fn) first cap) args J R:=by
 have hle:(first++args++cap).length<=cd.ntmps:=by
  simp only[du] at hn;exact gB hn.2
 have h9:bx (W.r0 0 (first++args++cap)) (gO (first++args++cap))=gO (first++args++cap):=Dz (W.HT _ 0 λj a e=>by show(first++args++cap).getD (0+j) ea=a;rw[qw,fO,e];rfl);refine bH.run e au hf hb hn ((h (gO (first++args++cap)) _ (by rw[h9];exact uW hle)).mono λx bc ag ⟨b6,h1,h2,h3,v,aQ,bF⟩=>?_);subst h2;exact⟨.ok v,_,Zq h1 h3 hd aQ,bF⟩
end
def Jg(rs:List (Nat×Option (Option Nat)))(r:AV):ec:=λx f ag=>x= .ret/\∃v,tH ag f rs=some v/\freeze ag 0 1000 v=some r
theorem OV{P:Program}{b:b5}{K:Nat->List AV->AV->Prop}(hb:kg P b)(cU:tm P b K){g:Nat}{fn:aP}{body:bO}{aY:List AV}(r:AV)(hf:b.funcs.get g=some fn)(iB:fn.body=some body)
  (hn:(Nat.beq aY.length fn.kr&&Nat.ble aY.length fn.ntmps)=true) (hd:cP (λr=>Nat.blt r.1 fn.ntmps) fn.results=true) {ad:Nat} (al:fQ ad r=true) (iA:AV.eqb 1000 r r=true)
  (h:ak (b.aV K) fn.ntmps body (gO aY) ⟨.nil,0⟩ (Jg fn.results r)) (b1:Nat):SpecEntry P (b.env []) b1 g aY r:=by
 have hle:aY.length<=fn.ntmps:=by
  simp only[du] at hn;exact gB hn.2
 refine Hi (env:=b.aV K) (m:=1000) (Hj _ _) ⟨λg cd hg=>mJ.yj hb.funcs g cd hg⟩ (λb1 g aY r an=>cU g aY r (Hn an) b1) hb.ext hb.Aq hf iB hn al ((h _ (uW hle)).mono λx ad ag ⟨f,h1,h2,v,h3,aQ⟩=>?_) iA b1;subst h2;exact⟨.ok v,_,Zp h1 hd h3,_,rfl,aQ⟩
end Go.Lyc
end
noncomputable section
namespace Go.Lyc
set_option maxHeartbeats 0
variable [Tok][TokOk]
open Go.RowKit Go.Lyc.T
attribute [local irreducible] ch bR dC ev bH
section
variable {b:b5}{K:Nat->List AV->AV->Prop}(hfn:∀g aY r cc,K g aY r->K g aY cc->r=cc)
include hfn
theorem b7H(xs:List AV)(hV:∀J,bT J (b.bt+1000) (.a_ true (some 9) xs)=some (.a_ true (some 9) xs))(hl:xs.length<2^20)(s:Nat->Bool)(e:b.ext yI=0/\b.pure yI=true)(r:Nat)(al:r<=xs.length)(cU:∀k,1<=k->k<=xs.length->(r=0\/k<=r)->K yI [.a_ true (some 9) xs,ai k] (.b (s k)))
  (an:∀k,1<=k->k<=xs.length->(r=0\/k<r)->s k=true) (lJ:r≠0->s r=false) (body:bO) (hb:N1.body=some body):ak (b.aV K) N1.ntmps body (gO [.a_ true (some 9) xs]) ⟨.nil,0⟩ (lT 2 (ai r)):=by
 cases hb;refine W.args λz=>?_;have H:Has (⟨.nil,0⟩:ae) []:=Has.nil;have hlen:∀J:ae,lenA J 1 (.a_ true (some 9) xs)=some xs.length:=λ_=>rfl;refine aj ?_;refine ak.block ?_;refine ak.loop (λm f τ=>∃k,k+m=xs.length+1/\1<=k/\(r=0\/k<=r)/\sat [(0,.a_ true (some 9) xs),(3,ai k)] f) ?_ xs.length ⟨1,U,U,U,rfl,rfl,trivial⟩;rintro m f τ ⟨k,Mj,gJ,Zs,Zt⟩;refine ak.norm _ Zt λz=>?_;clear Zt;have H:Has τ []:=Has.nil;by_cases hn:k<=xs.length
 ·obtain⟨m,rfl⟩:∃k,m=k+1:=⟨m-1,U⟩
  refine aj ?_;refine W.ga hfn e (cU k gJ hn Zs) I I I (pJ (hV _) I) ?_;by_cases aX:k=r
  ·subst aX;rw[lJ U];refine aj ?_;refine ak.ret ?_;exact⟨rfl,rfl⟩
  ·rw[an k gJ hn U];refine aj ?_;exact⟨m,U,k+1,U,U,U,rfl,rfl,trivial⟩
 ·obtain rfl:m=0:=by omega
  refine aj ?_;refine ak.exit ?_;show bR _ _ _ _ _ _ _ _;refine ak.norm [] trivial λg=>?_;refine aj ?_;refine ak.ret ?_;obtain rfl:r=0:=by omega
  exact⟨rfl,rfl⟩
end
theorem Sl.Ee{J τ:ae}{aa:Option Nat}{v:AV}{xs:List AV}(h:Sl J aa v xs)(k:∀i c,v.at? =some i->J.get i=some (.cells c)->τ.get i=some (.cells c)):Sl τ aa v xs:=by
 cases h with
 |nil=>exact .nil
 |ao o cap xs rest h ab ay=>exact .ao o cap xs rest (k _ _ I h) ab ay
def ndsL(L:List bu):Nat->List (List Nat)
 |0=>[]
 |j+1=>ndsL L j++[needL L (c3 L) (ndsL L j) (j+1)]
theorem Jh(L:List bu):∀j,(ndsL L j).length=j
 |0=>rfl
 |j+1=>by rw[ndsL,c4,Jh L j];rfl
theorem b7I{L:List bu}{B N:List (List Nat)}{k n:Nat}(h:n∈needL L B N k):n<=k:=by
 unfold needL at h;split at h
 ·rename_i x _;cases hx:x.hyp with
  |true=>rw[hx,cond_true] at h;simp at h;omega
  |false=>rw[hx,cond_false] at h;have:=IT.1 (nP.1 h).1;omega
 ·simp at h
theorem b7J{L:List bu}{B N:List (List Nat)}{k:Nat}:(needL L B N k).length<=k+1:=by
 unfold needL;split
 ·rename_i x _;cases hx:x.hyp with
  |true=>rw[cond_true];simp
  |false=>rw[cond_false];have:=yJ (n_ L B N k x.cs) (List.range k);rw[lZ] at this;omega
 ·simp
theorem yP{L:List bu}:∀ {j:Nat} {l:List Nat},l∈ndsL L j->l.length<=j+1/\∀n∈l,n<=j
 |0,l,h=>by simp[ndsL] at h
 |j+1,l,h=>by
  rw[ndsL] at h;rcases eP.1 h with h|h
  ·obtain⟨a,b⟩:=yP h;exact⟨U,λn hn=>by have:=b n hn;omega⟩
  ·rw[cu.1 h];exact⟨b7J,λn hn=>b7I hn⟩
theorem Zu{ar:aI->Option AV}{o:aI}{w z:AV}(h:ar o=some w)(ab:w.cells=[w])(av:w.val=true):h4 ar (λi bS=>i*bS) (List.map (λp=>(p.1,shN none,p.2)) [(0,o)]) (g2 1 [z])=some [w]:=by
 show(match ar o with|none=>none|some v=>cond (Nat.beq v.cells.length 1&&v.val) (match storeCells [z] (0*1) v.cells with|none=>none|some c=>some c) none)=_;rw[h];show cond (Nat.beq w.cells.length 1&&w.val) (match storeCells [z] (0*1) w.cells with|none=>none|some c=>some c) none=_;rw[ab,av];rfl
structure jZ(τ:ae)(p:Nat)(cX:AV)(bI:List AV)(B:List (List Nat)):Prop where
 ao:Sl τ none cX bI
 len:bI.length=B.length
 el:∀i (h:i<bI.length) (h':i<B.length),fp τ bI[i] B[i]
 pv:∀o,cX.at? =some o->p<o
 sb:∀x∈bI,∀o,x.at? =some o->p<o/\cX.at? ≠some o
theorem jZ.nil{τ:ae}{p:Nat}:jZ τ p .af [] []:=⟨.nil,rfl,(λi h=>by simp at h),(λo h=>by cases h),(λx h=>by simp at h)⟩
def vm(cX:AV)(bI:List AV)(c:Nat):Prop:=cX.at? =some c\/∃x∈bI,x.at? =some c
theorem jZ.OW{τ aM:ae}{p:Nat}{cX:AV}{bI:List AV}{B:List (List Nat)}(h:jZ τ p cX bI B)(k:∀i c,vm cX bI i->τ.get i=some (.cells c)->aM.get i=some (.cells c)):jZ aM p cX bI B:=
 ⟨h.ao.Ee λi c hi=>k i c (.inl hi),h.len,λi a b=>(h.el i a b).Ee λj c aC=>k j c (.inr ⟨_,bJ a,aC⟩),h.pv,h.sb⟩
theorem jZ.aS{τ aM:ae}{p:Nat}{cX:AV}{bI:List AV}{B:List (List Nat)}(h:jZ τ p cX bI B)(k:∀i c,p<i->τ.get i=some (.cells c)->aM.get i=some (.cells c)):jZ aM p cX bI B:=h.OW λi c hi=>k i c (by
 rcases hi with hi|⟨x,hx,hi⟩
 ·exact h.pv i hi
 ·exact(h.sb x hx i hi).1)
theorem jZ.lt{τ:ae}{p:Nat}{cX:AV}{bI:List AV}{B:List (List Nat)}(h:jZ τ p cX bI B){c:Nat}(ab:vm cX bI c):c<τ.next:=by
 rcases ab with hi|⟨x,hx,hi⟩
 ·exact h.ao.lt hi
 ·obtain⟨i,hlt,rfl⟩:=jw hx;exact(h.el i hlt (by rw[<-h.len];exact hlt)).lt hi
theorem jZ.push{τ aM:ae}{p:Nat}{cX bM w:AV}{bI:List AV}{B:List (List Nat)}{l:List Nat}(h:jZ τ p cX bI B)(hw:fp τ w l)(wU:∀o,w.at? =some o->p<o/\cX.at? ≠some o)(au:p<τ.next)(av:Sl aM none bM (bI++[w]))(ha:bM.at? =some (τ.next+1))(k:∀i o,cX.at? ≠some i->τ.get i=some o->aM.get i=some o):jZ aM p bM (bI++[w]) (B++[l]):=by
 refine⟨av,by rw[c4,c4,h.len];rfl,λi a b=>?_,(λo ho=>by rw[ha] at ho;cases ho;omega),λx hx o ho=>?_⟩
 ·by_cases hi:i<bI.length
  ·rw[g9 hi,g9 (by rw[<-h.len];exact hi)];exact(h.el i hi (by rw[<-h.len];exact hi)).Ee λj c aC=>k j _ ((h.sb _ (bJ hi) j aC).2)
  ·have e:i=bI.length:=by rw[c4] at a;simp only[gp,g6] at a;omega
   subst e;have a6:(B++[l])[bI.length]'b=l:=by simp[h.len]
   have c0:(bI++[w])[bI.length]'a=w:=by simp
   rw[a6,c0];exact hw.Ee λj c aC=>k j _ ((wU j aC).2)
 ·rw[ha];rcases eP.1 hx with hx|hx
  ·exact⟨(h.sb x hx o ho).1,(λe=>by cases e;have:=h.lt (.inr ⟨x,hx,ho⟩);omega)⟩
  ·rw[cu.1 hx] at ho;exact⟨(wU o ho).1,(λe=>by cases e;have:=hw.lt ho;omega)⟩
def Bg(L:List bu)(bI:List AV):Prop:=∀i (h:i<bI.length),(bI[i]).at? =none↔nq L (i+1)=false
def Bh(e5:List AV)(N:List (List Nat)):Prop:=∀i (h:i<e5.length) (h':i<N.length),N[i]=[]->e5[i]= .af
theorem Bg.push{L:List bu}{bI:List AV}{w:AV}(h:Bg L bI)(hw:w.at? =none↔nq L (bI.length+1)=false):Bg L (bI++[w]):=λi hi=>by
 by_cases hl:i<bI.length
 ·rw[g9 hl];exact h i hl
 ·have e:i=bI.length:=by rw[c4] at hi;simp only[gp,g6] at hi;omega
  subst e;rw[show(bI++[w])[bI.length]'hi=w from by simp];exact hw
theorem Bh.push{e5:List AV}{N:List (List Nat)}{w:AV}{l:List Nat}(h:Bh e5 N)(hl:e5.length=N.length)(hw:l=[]->w= .af):Bh (e5++[w]) (N++[l]):=λi hi dc=>by
 by_cases hlt:i<e5.length
 ·rw[g9 hlt,g9 (by rw[<-hl];exact hlt)];exact h i hlt _
 ·have e:i=e5.length:=by rw[c4] at hi;simp only[gp,g6] at hi;omega
  subst e;rw[show(e5++[w])[e5.length]'hi=w from by simp,show(N++[l])[e5.length]'dc=l from by simp[hl]];exact hw
structure Op(τ:ae)(p:Nat)(L:List bu):Prop where
 ex:∃q cX fs bI e5,τ.get p=some (.cells [cC L,cX,fs])/\jZ τ q cX bI (c3 L)/\jZ τ q fs e5 (ndsL L L.length)/\Bg L bI/\Bh e5 (ndsL L L.length)
theorem Op.Bi{τ:ae}{p:Nat}{L:List bu}(h:Op τ p L):mQ τ p L (c3 L) (ndsL L L.length):=by
 obtain⟨q,cX,fs,bI,e5,au,b3,ed,_⟩:=h.ex;exact⟨cX,fs,bI,e5,au,b3.ao,b3.len,b3.el,ed.ao,ed.len,ed.el⟩
theorem Op.aS{τ aM:ae}{p:Nat}{L:List bu}(h:Op τ p L)(k:∀i c,τ.get i=some (.cells c)->aM.get i=some (.cells c)):Op aM p L:=by
 obtain⟨q,cX,fs,bI,e5,au,b3,ed,h1,h2⟩:=h.ex;exact⟨q,cX,fs,bI,e5,k _ _ au,b3.aS λi c _=>k i c,ed.aS λi c _=>k i c,h1,h2⟩
section
variable {b:b5}{K:Nat->List AV->AV->Prop}
theorem b7K(hh:bq (b.aV K) D2 Ix){L:List bu}{J:ae}:
  bH (b.aV K) 0 (.f (.func D2) [] []) [cC L] J (λr τ=>r= .ok (.f (.func AZ) [] [aT J.next])/\τ.get J.next=some (.cells [cC L])/\τ.next=J.next+1/\ee J τ):=by
 refine W.code hh.e hh.p hh.f I I I I λz=>?_;have H:Has J []:=Has.nil;refine aj ?_;generalize aX:J.next=q;refine W.cM H aX I I I I I λτ hn H bG=>?_;refine aj ?_;exact ak.ret ⟨rfl,rfl,H.get _ (.head _),hn,U,bG⟩
end
section
variable {b:b5}{K:Nat->List AV->AV->Prop}(hfn:∀g aY r cc,K g aY r->K g aY cc->r=cc)
include hfn
theorem Zv(hf:mR b K)(hh:bq (b.aV K) Iw N0)(ha:bq (b.aV K) D2 Ix)(Zw:bq (b.aV K) AZ Iy){L:List bu}(cW:wT L)(a5:0<L.length)(c7z:L.length<=500)(b7L:∀J,bT J (b.bt+1000) (cC L)=some (cC L))(em:b.ext tx=0/\b.pure tx=true)(hm:K tx [cC L] (ai 0))(dL:tF L (c3 L))(ab:∀k x,L[k-1]? =some x->1<=k->sa k x.cs){J:ae}:
  bH (b.aV K) 0 (.f (.func Iw) [] []) [cC L] J (λr τ=>∃p,r= .ok (.a9 [aT p,ai 0])/\Op τ p L/\J.next<=p/\ee J τ):=by
 refine W.b7G (d:=J.next+3) hh.e hh.p hh.f I I I λz=>?_;have H:Has J []:=Has.nil;refine dK.lO ?_;refine aj ?_;refine⟨rfl,?_⟩;refine dK.lO ?_;refine aj ?_;refine⟨rfl,?_⟩;refine dK.lO ?_;refine aj ?_;refine W.ga hfn em hm I I I (qH (b7L _)) ?_;refine W.bin (v:=.b false) I I I I I ?_;refine aj ?_;refine⟨rfl,?_⟩;refine dK.lO ?_;refine aj ?_;refine W.cM (c:=[cC L,.af,.af]) H I I I I I I λτ c_ H bG=>?_;refine aj ?_;refine W.lk H c_ I I I I I I λbl ei H bw=>?_;refine aj ?_;refine⟨rfl,?_⟩;refine dK.Ax ?_;refine dK.lO ?_;refine aj ?_;refine W.aq trivial I I I (b7K ha) λr bZ ⟨e,cm,fc,e2⟩=>⟨_,e,?_⟩
 refine aj ?_;refine⟨rfl,?_⟩;refine dK.block ?_;have b7M:bZ.next=J.next+3:=by omega
 have a6:bl.next=J.next+2:=by omega
 rw[a6] at cm ⊢;clear a6 fc e;have wV:=H.aS e2.2;have H:Has bZ [(J.next+1,[aT J.next]),(J.next,[cC L,.af,.af])]:=wV;have b_:ee J bZ:=⟨U,λi o h=>e2.2 i o (bw i o (bG i o h))⟩
 clear wV e2 bw bG ei c_;generalize aX:J.next=q at *;have hlen:=dL.len;have pr:∀i,i<L.length->(c3 L).getD i []=stF L (i+1):=λi hi=>by
  unfold c3;rw[fO,kA,Mf hi];rfl
 refine dK.iter (k:=q+3) L.length (λi W τ=>∃cX bI,jZ τ (q+4) cX bI ((List.range i).map λi=>stF L (i+1))/\τ.get q=some (.cells [cC L,cX,.af])/\Bg L bI/\∀c,W c↔c=q\/vm cX bI c) (λi V τ args=>∃v,args=[ai (i+1),v]/\fp τ v (stF L (i+1))/\(v.at? =none↔nq L (i+1)=false)/\∀o,v.at? =some o->¬V o) (λc=>c=q) b7M I Zw.e I (λi W τ args ⟨v,e,_⟩=>by rw[e];rfl) ?_ ?_ (λc ab=>by rw[ab];omega) (b7y Zw cW cm _ (by show ¬(q+2=q);omega)) ?_ ?_
 ·rintro i V τ aM ⟨cX,bI,h1,h2,h3,aQ⟩ dk hn;exact⟨cX,bI,h1.OW λi c hi=>dk i _ ((aQ i).2 (.inr hi)),dk _ _ ((aQ _).2 (.inl I)) h2,h3,aQ⟩
 ·exact⟨.af,[],.nil,H.get _ (.tail _ (.head _)),(λi h=>by simp at h),λc=>by simp[vm,AV.at?]⟩
 ·rintro i V τ args hi ⟨v,rfl,av,sc,qX⟩ a0 vP b7N zZ dk;refine ak.norm [(25,v),(4,aT (q+1))] ⟨rfl,rfl,trivial⟩ λg=>?_;have b7O:Has τ []:=Has.nil;have gl:=dk _ _ (show ¬q+1=q by omega) (H.get _ (.head _));clear H b7O;have H:Has τ []:=Has.nil;refine aj ?_;refine⟨rfl,⟨br _,λ_ _ h=>h⟩,λbl h8 bw a0=>?_⟩;obtain⟨cX,bI,tI,au,Ef,hW⟩:=a0;have gl:=bw _ _ U gl;have av:=av.Ee (τ:=bl) λi c hi hg=>bw i _ (λe=>vP c (e▸hg)) hg;have H:Has bl [(q,[cC L,cX,.af]),(q+1,[aT q])]:=(Has.nil.cons gl aG).cons au aG;refine ak.norm [(6,v),(4,aT (q+1))] ⟨rfl,rfl,trivial⟩ λg=>?_;have gK:bI.length=i:=by rw[tI.len];simp
  have b7P:(stF L (i+1)).length<2^20:=by
   rw[cW.len i hi,cK hi];have:=(cW.num _ (bJ hi)).1;show(L[i]).bs<_;omega
  refine aj ?_;refine W.lQ H I I I (.head _) I (e1 tI.ao.lf) ?_;refine aj ?_;refine W.aq (hf.q.one I) I I I (b7w hf av b7P) λr cG ⟨w,e,hw,fi⟩=>⟨_,e,?_⟩
  have H:=H.aS fi.2;refine aj ?_;have aQ:=tI.ao.aS (τ:=cG) λi o _=>fi.2 i o;refine W.bI (c:=[w]) H I I I (Zu I hw.ao.mg hw.ao.OC) λaM pK H eR=>?_;have h_:=H.get _ (.head _);have OX:aM.get q=some (.cells [cC L,cX,.af]):=H.get _ (.tail _ (.head _));have Eg:aM.get (q+1)=some (.cells [aT q]):=H.get _ (.tail _ (.tail _ (.head _)));refine W.now [(8,q,[cC L,cX,.af]),(8,q+1,[aT q]),(8,q+1,[aT q])] [(11,q+1,[aT q])] I I ⟨OX,Eg,Eg,trivial⟩ ?_;refine W.ap (w:=.ao cG.next 0 1 none (some 1)) w [] (aQ.aS λi o _=>eR i o) (by show readList aM (.ao cG.next 0 1 none (some 1))=_;show(match aM.get cG.next with|some (.cells c)=>elems none 1 (c.drop 0)|_=>none)=_;rw[h_];rfl) (λz bb=>by rw[cu.1 bb];exact hw.ao.ln) (by show(3*(bI.length+1)+2000)*24<=_;rw[gK];omega) I I I I λbM dq yQ OY OZ b7Q O0=>?_;have tJ:bM.at? =some (cG.next+1):=by rw[OY,pK]
  have iU:dq.next=cG.next+2:=by omega
  have c9:∀i o,cX.at? ≠some i->cG.get i=some o->dq.get i=some o:=λi o hi ho=>O0 i o hi (eR i o ho);replace H:Has cG [(q,[cC L,cX,.af]),(q+1,[aT q])]:=(Has.nil.cons (fi.2 _ _ gl) aG).cons (fi.2 _ _ au) aG;have H:Has dq [(q,[cC L,cX,.af]),(q+1,[aT q])]:=(Has.nil.cons (c9 _ _ (λe=>by have:=tI.pv _ e;omega) (H.get _ (.tail _ (.head _)))) aG).cons (c9 _ _ (λe=>by have:=tI.pv _ e;omega) (H.get _ (.head _))) aG;refine aj ?_;refine W.st (bX:=[cC L,bM,.af]) H 0 I I I I yQ.ln (by rw[yQ.mg];rfl) λeA jC H eu=>?_;refine aj ?_;have b7R:jZ cG (q+4) cX bI ((List.range i).map λi=>stF L (i+1)):=tI.aS λi c _=>fi.2 i _;have b7S:=b7R.push hw.ao (λo ho=>⟨by have:=hw.c5 o ho;omega,λe=>by have:=hw.c5 o ho;have:=tI.lt (.inl e);omega⟩) (by have:=fi.1;omega) yQ tJ c9;refine⟨rfl,λc=>c=q\/vm bM (bI++[w]) c,⟨bM,bI++[w],?_,H.get _ (.head _),Ef.push (by rw[hw.iE,gK];exact sc),λc=>Iff.rfl⟩,?_⟩
  ·rw[wP,g_];exact b7S.aS λi c hi=>eu i _ U
  ·refine⟨by have:=fi.1;omega,λc o ab ho=>eu _ _ (λe=>ab ((hW c).2 (.inl e))) (c9 _ _ (λe=>ab ((hW c).2 (.inr (.inl e)))) (fi.2 _ _ ho)),λc ab=>?_⟩;rcases ab with rfl|ab|⟨x,hx,ab⟩
   ·exact .inl ((hW _).2 (.inl I))
   ·right;rw[tJ] at ab;cases ab;have:=fi.1;omega
   ·rcases eP.1 hx with hx|hx
    ·exact .inl ((hW _).2 (.inr (.inr ⟨x,hx,ab⟩)))
    ·right;rw[cu.1 hx] at ab;have:=hw.c5 c ab;have:=hw.ao.lt ab;omega
 ·intro W' τ ⟨cX,bI,tI,au,Ef,hW⟩ nr mI dk nm;have b3:((List.range L.length).map λi=>stF L (i+1))=c3 L:=rfl;rw[b3] at tI;refine⟨rfl,rfl,?_⟩;refine ak.norm [(0,cC L),(4,aT (q+1)),(3,ai 0)] ⟨rfl,rfl,rfl,trivial⟩ λg=>?_;have gl:=dk _ _ (show ¬q+1=q by omega) (H.get _ (.head _));have b7T:ee J τ:=⟨by have:=b_.1;omega,λi o ho=>dk i o (by have:=ae.bE ho;omega) (b_.2 i o ho)⟩
  clear H dk nm hW;have H:Has τ [(q,[cC L,cX,.af]),(q+1,[aT q])]:=(Has.nil.cons gl aG).cons au aG;refine aj ?_;show bR _ _ _ _ _ _ _ _;refine W.I_ (α:=AV×List AV) (λ_=>[(0,cC L),(4,aT (q+1)),(3,ai 0)]) (λx τ=>jZ τ (q+4) cX bI (c3 L)/\jZ τ (q+4) x.1 x.2 (ndsL L L.length)/\(∀c,vm cX bI c->¬vm x.1 x.2 c)/\Bh x.2 (ndsL L L.length)/\τ.get q=some (.cells [cC L,cX,x.1])/\τ.get (q+1)=some (.cells [aT q])/\τ.get (q+3)=some .eo/\ee J τ) ?_ ?_
  ·refine ak.each L.length (λj f τ=>∃fs e5,jZ τ (q+4) cX bI (c3 L)/\jZ τ (q+4) fs e5 (ndsL L j)/\(∀c,vm cX bI c->¬vm fs e5 c)/\Bh e5 (ndsL L j)/\τ.get q=some (.cells [cC L,cX,fs])/\τ.get (q+1)=some (.cells [aT q])/\τ.get (q+3)=some .eo/\q+5<=τ.next/\ee J τ/\sat [(0,cC L),(4,aT (q+1)),(3,ai 0)] f) U ⟨.af,[],tI,.nil,?_,(λi h=>by simp at h),au,gl,nr,mI,b7T,rfl,rfl,rfl,trivial⟩ I I (λj g τ aC a0 hi hm=>?_) (λg τ a0 hi=>?_)
   ·intro c _ h;rcases h with h|⟨x,hx,h⟩
    ·cases h
    ·simp at hx
   ·obtain⟨fs,e5,b3,ed,hd,Bj,au,gl,nr,mI,b_,cZ,c7,cm,_⟩:=a0;refine ak.norm [(0,cC L),(4,aT (q+1)),(3,ai 0),(39,ai j),(38,ai L.length)] ⟨cZ,c7,cm,hi,hm,trivial⟩ λg=>?_;have H:Has τ [(q,[cC L,cX,fs]),(q+1,[aT q])]:=(Has.nil.cons gl aG).cons au aG;have vP:=Jh L j;have fg:mQ τ q L (c3 L) (ndsL L j):=⟨cX,fs,bI,e5,au,b3.ao,b3.len,b3.el,ed.ao,ed.len,ed.el⟩
    refine aj ?_;refine W.lQ H I I I (.head _) I (e1 ed.ao.lf) ?_;refine aj ?_;refine W.aq (hf.q.one I) I I I (b7l hf fg dL (λx hx=>by have:=cW.num x hx;omega) (λl hl=>by have:=(yP hl).1;omega) (j+1) U U U (λl hl n hn=>by have:=(yP (pa hl)).2 n hn;omega) (λx hx=>ab (j+1) x hx U)) λr cG ⟨w,e,hw,fi⟩=>⟨_,e,?_⟩
    have H:=H.aS fi.2;refine aj ?_;have aQ:=ed.ao.aS (τ:=cG) λi o _=>fi.2 i o;refine W.bI (c:=[w]) H I I I (Zu I hw.ao.mg hw.ao.OC) λaM pK H eR=>?_;have h_:=H.get _ (.head _);have OX:aM.get q=some (.cells [cC L,cX,fs]):=H.get _ (.tail _ (.head _));have Eg:aM.get (q+1)=some (.cells [aT q]):=H.get _ (.tail _ (.tail _ (.head _)));refine W.now [(10,q,[cC L,cX,fs]),(10,q+1,[aT q]),(10,q+1,[aT q])] [(13,q+1,[aT q])] I I ⟨OX,Eg,Eg,trivial⟩ ?_;have gK:e5.length=j:=by rw[ed.len,vP]
    refine W.ap (w:=.ao cG.next 0 1 none (some 1)) w [] (aQ.aS λi o _=>eR i o) (by show readList aM (.ao cG.next 0 1 none (some 1))=_;show(match aM.get cG.next with|some (.cells c)=>elems none 1 (c.drop 0)|_=>none)=_;rw[h_];rfl) (λz bb=>by rw[cu.1 bb];exact hw.ao.ln) (by show(3*(e5.length+1)+2000)*24<=_;rw[gK];omega) I I I I λbM dq yQ OY OZ b7Q O0=>?_;have tJ:bM.at? =some (cG.next+1):=by rw[OY,pK]
    have iU:dq.next=cG.next+2:=by omega
    have c9:∀i o,fs.at? ≠some i->cG.get i=some o->dq.get i=some o:=λi o hi ho=>O0 i o hi (eR i o ho);have O1:=fi.1;replace H:Has dq [(q,[cC L,cX,fs]),(q+1,[aT q])]:=(Has.nil.cons (c9 _ _ (λe=>by have:=ed.pv _ e;omega) (fi.2 _ _ gl)) aG).cons (c9 _ _ (λe=>by have:=ed.pv _ e;omega) (fi.2 _ _ au)) aG;refine aj ?_;refine W.st (bX:=[cC L,cX,bM]) H 0 I I I I yQ.ln (by rw[yQ.mg];rfl) λeA jC H eu=>?_;refine aj ?_;have b7U:jZ cG (q+4) fs e5 (ndsL L j):=ed.aS λi c _=>fi.2 i _;have b7V:=b7U.push hw.ao (λo ho=>⟨by have:=hw.c5 o ho;omega,λe=>by have:=hw.c5 o ho;have:=ed.lt (.inl e);omega⟩) U yQ tJ c9;refine⟨rfl,rfl,bM,e5++[w],(b3.OW λi c hi hg=>eu i _ ?_ (c9 i _ (λe=>hd i hi (.inl e)) (fi.2 i _ hg))),b7V.aS λi c hi=>eu i _ U,?_,Bj.push ed.len hw.iE,H.get _ (.head _),H.get _ (.tail _ (.head _)),eu _ _ U (c9 _ _ (λe=>by have:=ed.pv _ e;omega) (fi.2 _ _ nr)),U,⟨by have:=b_.1;omega,λi o ho=>eu _ _ (by have:=ae.bE ho;omega) (c9 _ _ (λe=>by have:=ed.pv _ e;have:=ae.bE ho;omega) (fi.2 _ _ (b_.2 _ _ ho)))⟩,rfl,rfl,rfl,trivial⟩
    ·intro e;subst e;rcases hi with hi|⟨x,hx,hi⟩
     ·have:=b3.pv _ hi;omega
     ·have:=(b3.sb x hx _ hi).1;omega
    ·intro c Zx b7W;have hlt:=b3.lt Zx;rcases b7W with h|⟨x,hx,h⟩
     ·rw[tJ] at h;cases h;omega
     ·rcases eP.1 hx with hx|hx
      ·exact hd c Zx (.inr ⟨x,hx,h⟩)
      ·rw[cu.1 hx] at h;have:=hw.c5 c h;omega
   ·obtain⟨fs,e5,b3,ed,hd,Bj,au,gl,nr,mI,b_,cZ,c7,cm,_⟩:=a0;exact⟨rfl,(fs,e5),⟨b3,ed,hd,Bj,au,gl,nr,b_⟩,cZ,c7,cm,trivial⟩
  ·intro x g aM ⟨b3,ed,hd,Bj,au,gl,nr,b_⟩;have H:Has aM [(q,[cC L,cX,x.1]),(q+1,[aT q])]:=(Has.nil.cons gl aG).cons au aG;refine aj ?_;refine ak.ret ⟨rfl,nr,_,rfl,q,rfl,?_,?_,?_⟩
   ·have fg:Op aM q L:=⟨q+4,cX,x.1,bI,x.2,au,b3,ed,Ef,Bj⟩
    exact fg.aS λi c hg=>(jF nr).2 i _ (λe=>by subst e;rw[nr] at hg;cases hg) hg
   ·omega
   ·exact⟨b_.1,λi o ho=>(jF nr).2 i _ (λe=>by have:=ae.bE ho;omega) (b_.2 i o ho)⟩
end
theorem Bk{α β:Type}{f:α->Option β}{g:α->β}:∀ {l:List α},(∀x∈l,f x=some (g x))->mapO f l=some (l.map g)
 |[],_=>rfl
 |x::l,h=>by
  rw[mapO_cons,h x aG,Bk λy hy=>h y (iM _ hy)];rfl
theorem Bl{α β:Type}{f:α->Option β}:∀ {l:List α} {r:List β},l.length=r.length->(∀i (h:i<l.length) (h':i<r.length),f l[i]=some r[i])->mapO f l=some r
 |[],[],_,_=>rfl
 |[],_::_,h,_=>by simp at h
 |_::_,[],h,_=>by simp at h
 |x::l,y::r,h,hi=>by
  rw[mapO_cons,show f x=some y from hi 0 aG aG,Bl (l:=l) (r:=r) (by simpa using h) λi a b=>hi (i+1) (by simpa using a) (by simpa using b)]
def Eh(v:AV)(aa:Option Nat)(ba:List AV):AV:=match v.at? with|none=>.af|some _=>.a_ false aa ba
theorem Sl.freeze{J:ae}{aa:Option Nat}{v:AV}{xs ba:List AV}{n:Nat}(h:Sl J aa v xs)(hm:mapO (Go.Lyc.freeze J 0 n) xs=some ba):Go.Lyc.freeze J 0 (n+1) v=some (Eh v aa ba):=by
 have al:=h.read;cases h with
 |nil=>rfl
 |ao o cap xs rest h ab ay=>
  rw[freeze_succ];simp only[al,hm];rfl
theorem Sl.b7X{J:ae}{v:AV}{l:List Nat}{n:Nat}(h:fp J v l):Go.Lyc.freeze J 0 (n+2) v=some (Eh v none (l.map ai)):=Sl.freeze h (by
 have:=Bk (f:=Go.Lyc.freeze J 0 (n+1)) (g:=λx=>x) (l:=l.map ai) (λx hx=>by obtain⟨m,_,rfl⟩:=dx.1 hx;rfl);rwa[D8] at this)
def b7Y(N:List (List Nat)):AV:=slA false none (N.map λl=>slA false none (l.map ai))
def lV(L:List bu)(i:Nat):AV:=cond (nq L (i+1)) (.a_ false none ((stF L (i+1)).map ai)) .af
def jn(L:List bu):AV:=.a_ false none ((List.range L.length).map (lV L))
theorem jZ.b7Z{τ:ae}{q:Nat}{cX:AV}{bI:List AV}{L:List bu}(h:jZ τ q cX bI (c3 L))(bb:Bg L bI)(a5:0<L.length){n:Nat}:Go.Lyc.freeze τ 0 (n+3) cX=some (jn L):=by
 have pr:(c3 L).length=L.length:=by unfold c3;rw[b0,lZ]
 rw[h.ao.freeze (ba:=(List.range L.length).map (lV L)) (Bl (by rw[b0,h.len,pr,lZ]) λi a b=>?_)]
 ·unfold jn Eh;have hl:=h.len;have:=h.ao;cases this with
  |nil=>rw[pr] at hl;simp only[g6] at hl;omega
  |ao o cap xs rest hg ab ay=>rfl
 ·rw[e_,qc];have hb:i<(c3 L).length:=by rw[<-h.len];exact a
  rw[(h.el i a hb).b7X];have e:(c3 L)[i]=stF L (i+1):=(e_ (λi=>stF L (i+1))).trans (by rw[qc]);rw[e];unfold Eh lV;have h2:=bb i a;cases an:nq L (i+1) with
  |false=>rw[h2.2 an];rfl
  |true=>
   cases ha:(bI[i]).at? with
   |none=>rw[h2.1 ha] at an;cases an
   |some o=>rfl
section
variable {b:b5}{K:Nat->List AV->AV->Prop}(hfn:∀g aY r cc,K g aY r->K g aY cc->r=cc)
structure wW(b:b5)(K:Nat->List AV->AV->Prop)(L:List bu):Prop where
 ix:wT L
 ne:0<L.length
 le:L.length<=500
 kF:∀J,bT J (b.bt+1000) (cC L)=some (cC L)
 Bm:K tx [cC L] (ai 0)
 mV:tF L (c3 L)
 Bn:∀k x,L[k-1]? =some x->1<=k->sa k x.cs
structure O2(b:b5)(K:Nat->List AV->AV->Prop):Prop where
 op:bq (b.aV K) Iw N0
 aY:bq (b.aV K) D2 Ix
 Zy:bq (b.aV K) AZ Iy
 gu:b.ext tx=0/\b.pure tx=true
include hfn
theorem b8a(hf:mR b K)(ho:O2 b K){L:List bu}(de:wW b K L)(body:bO)(hb:Iu.body=some body):ak (b.aV K) Iu.ntmps body (gO [cC L]) ⟨.nil,0⟩ (Jg Iu.results (.a9 [jn L,ai 0])):=by
 cases hb;refine W.args λz=>?_;have H:Has (⟨.nil,0⟩:ae) []:=Has.nil;refine aj ?_;refine W.aq trivial I I I (Zv hfn hf ho.op ho.aY ho.Zy de.ix de.ne de.le de.kF ho.gu de.Bm de.mV de.Bn) λr τ ⟨p,e,cp,_,M⟩=>⟨_,e,?_⟩
 refine aj ?_;obtain⟨q,cX,fs,bI,e5,au,b3,ed,Ef,Bj⟩:=cp.ex;have H:Has τ [(p,[cC L,cX,fs])]:=Has.nil.cons au aG;refine aj ?_;refine ak.ret ?_;refine⟨rfl,_,rfl,?_⟩;rw[freeze_succ];show(match mapO (Go.Lyc.freeze τ 0 999) [cX,ai 0] with|none=>none|some l=>some (AV.a9 l))=_;rw[mapO_cons,b3.b7Z Ef de.ne (n:=996)];rfl
end
structure dN where
 fz:Fm
 hyps:List Fm
 rest:List Fm
abbrev sf(F:Fm):AV:=.ah (.b true::bA F)
abbrev dN.A(g:dN):AV:=.ah (bA g.fz++[slA true (some 5) (g.hyps.map sf),slA true (some 4) (g.rest.map λF=>.ah (bA F))])
structure qY(P:Nat->Prop)(J:ae)(v:AV)(g:dN):Prop where
 ex:∃av qD,v= .ah (bA g.fz++[av,qD])/\Sl J (some 5) av (g.hyps.map sf)/\(g.hyps=[]->av= .af)/\Sl J (some 4) qD (g.rest.map λF=>.ah (bA F))/\(g.rest=[]->qD= .af)/\∀o,av.at? =some o\/qD.at? =some o->P o
theorem qY.aS{P Zz:Nat->Prop}{J τ:ae}{v:AV}{g:dN}(h:qY P J v g)(k:∀i o,P i->J.get i=some o->τ.get i=some o)(fg:∀i,P i->i<J.next->Zz i):qY Zz τ v g:=by
 obtain⟨av,qD,e,h1,h2,h3,aQ,bF⟩:=h.ex;exact⟨av,qD,e,h1.aS λi o hi=>k i o (bF _ (.inl hi)),h2,h3.aS λi o hi=>k i o (bF _ (.inr hi)),aQ,λo ho=>fg o (bF o ho) (by rcases ho with ho|ho;exact h1.lt ho;exact h3.lt ho)⟩
theorem pP{ar:aI->Option AV}{bS:Nat->Nat->Nat}{aE:List (Nat×Nat×aI)}{i n:Nat}{o:aI}{v:AV}{z c r:List AV}(h:ar o=some v)(hl:(Nat.beq v.cells.length n&&v.val)=true)(an:storeCells z (bS i n) v.cells=some c)(al:h4 ar bS aE c=some r):h4 ar bS ((i,n,o)::aE) z=some r:=by
 show(match ar o with|none=>none|some v=>cond (Nat.beq v.cells.length n&&v.val) (match storeCells z (bS i n) v.cells with|none=>none|some c=>h4 ar bS aE c) none)=_;rw[h];show cond (Nat.beq v.cells.length n&&v.val) (match storeCells z (bS i n) v.cells with|none=>none|some c=>h4 ar bS aE c) none=_;rw[hl,cond_true,an];exact al
theorem ZA{ar:aI->Option AV}{bS:Nat->Nat->Nat}{aE:List (Nat×Nat×aI)}{i:Nat}{o:aI}{w:AV}{z c r:List AV}{J:ae}{aa:Option Nat}{xs:List AV}(hw:Sl J aa w xs)(h:ar o=some w)(an:storeCells z (bS i 1) [w]=some c)(al:h4 ar bS aE c=some r):h4 ar bS ((i,1,o)::aE) z=some r:=
 pP h (by rw[hw.mg,hw.OC];rfl) (by rw[hw.mg];exact an) al
theorem W.jD{cf:lj}{env:Env}{aN:Option Nat}{D:List (Nat ⊕ (AV×List AV))}{n:Nat}{F:List (Nat×AV)}{z:Nat->AV}{J:ae}{Q:ec}{d:Nat}{Gu c:List AV}{aE:List (Nat×Nat×aI)}{g:Option (Nat×Bool)}{ops:List a3}(hd:Nat.blt d n=true)(hw:wtL g n F=true)(hl:h4 (db env n F z) (λoff _=>off) aE Gu=some c)(h:ch cf env aN D n ops (bx ((d,.ah c)::F) z) J Q):ch cf env aN D n (⟨some d,.build Gu aE,g,[]⟩::ops) (bx F z) J Q:=
 W.val hd hw (by show(match h4 (db env n F z) (λoff _=>off) aE Gu with|some c=>some (bV.val (.ah c) J)|none=>none)=_;rw[hl]) h
def j0:dN:=⟨.mk 0 [] none none,[],[]⟩
theorem j0.v{P:Nat->Prop}{J:ae}:qY P J (.ah [.i .u8 0,.s [],.af,.af,.af,.af]) j0:=⟨.af,.af,rfl,.nil,λ_=>rfl,.nil,λ_=>rfl,λo h=>by rcases h with h|h<;>cases h⟩
def ns(B:List (List Nat))(k a c:Nat):Bool:=decide (a=c)&&(decide ((B.getD (c-1) []).length<=(B.getD (k-1) []).length)&&decide (B.getD (c-1) []=(B.getD (k-1) []).take (B.getD (c-1) []).length))
section
variable {b:b5}{K:Nat->List AV->AV->Prop}
theorem b8b(hf:mR b K)(hh:bq (b.aV K) wI N7){p er dy:Nat}{L:List bu}{B N:List (List Nat)}{J:ae}(fg:mQ J p L B N)(dL:tF L B)(kb:J.get er=some (.cells [aT p]))(k a c:Nat)(k6:J.get dy=some (.cells [ai k]))(ha:1<=a)(dW:a<=c)(k8:c<k)(ay:k<=L.length)(Zb:N.length=L.length)(ed:∀l∈N,l.length<2^20/\∀n∈l,1<=n/\n<=L.length)(kG:∀J,bT J (b.bt+1000) (cC L)=some (cC L))(qZ:∀x∈L,x.f.dep<=200):
  bH (b.aV K) 0 (.f (.func wI) [] [aT er,aT dy]) [.ah [ai a,ai c]] J (λr τ=>∃g,r= .ok (.a9 [g,.b (ns B k a c)])/\qY (λo=>J.next<=o) τ g (cond (ns B k a c) ⟨fj L c,[],(N.getD (c-1) []).map (fj L)⟩ j0)/\ee J τ):=by
 refine W.oa hh.e hh.p hh.f I I I λz=>?_;obtain⟨cX,fs,bI,e5,h1,h2,h3,aQ,bF,cw,eL⟩:=fg.ex;have a5:∀ {i j:Nat} {c d:List AV},J.get i=some (.cells c)->J.get j=some (.cells d)->c≠d->j≠i:=λh h' x6 e=>x6 (by subst e;rw[h] at h';cases h';rfl);have H:Has J [(p,[cC L,cX,fs]),(er,[aT p]),(dy,[ai k])]:=((Has.nil.cons k6 aG).cons kb λx hx=>by rw[cu.1 hx];exact a5 kb k6 aG).cons h1 λx hx=>by
  rcases dF.1 hx with rfl|hx
  ·exact a5 h1 kb aG
  ·rw[cu.1 hx];exact a5 h1 k6 aG
 have hl:=dL.lt;have hd:=dL.len;refine aj ?_;generalize aX:J.next=q;refine W.cM (c:=[ai a,ai c]) H aX I I I I I λτ hn H bG=>?_;refine aj ?_;refine W.cB (c:=[.i .u8 0,.s [],.af,.af,.af,.af]) H hn I I I λbl h8 H bw=>?_;have c6:∀i o,J.get i=some o->bl.get i=some o:=λi o h=>bw _ _ (bG _ _ h);have av:=(h2.aS (τ:=bl) λi o _=>c6 i o).vw;have sc:=(bF.aS (τ:=bl) λi o _=>c6 i o).vw;have a0:=(aQ (c-1) U U).aS (τ:=bl) λi o _=>c6 i o;have iI:=(aQ (k-1) U U).aS (τ:=bl) λi o _=>c6 i o;have cW:=(eL (c-1) U U).aS (τ:=bl) λi o _=>c6 i o;have mh:B.getD (c-1) []=B[c-1]:=by rw[fO,cK U];rfl
 have OE:B.getD (k-1) []=B[k-1]:=by rw[fO,cK U];rfl
 have v5:N.getD (c-1) []=N[c-1]:=by rw[fO,cK U];rfl
 have hIn:=a0.kE;have Y7:=iI.kE;have kL:=dL.blt _ (bJ (show c-1<B.length by omega));have n0:=dL.blt _ (bJ (show k-1<B.length by omega));unfold ns;rw[mh,OE,v5];refine aj ?_;by_cases aR:a=c
 ·subst aR;rw[decide_eq_true I,pG];by_cases a6:(B[a-1]).length<=(B[k-1]).length
  ·rw[decide_eq_true a6,pG];refine aj ?_;refine W.vf iI a6 I I I I λw hw=>?_;refine aj ?_;refine W.aq (hf.q.one I) I I I (Y5 hf.equal hIn hw U) λr τ ⟨e,c0⟩=>⟨_,e,?_⟩
   subst c0;by_cases c0:B[a-1]=(B[k-1]).take (B[a-1]).length
   ·rw[decide_eq_true c0];have Ei:=qZ _ (bJ (show a-1<L.length by omega));have Ej:=Be (L:=L) (n:=a) ha U;have ZB:=ed _ (bJ (show a-1<N.length by omega));refine aj ?_;refine W.lQ H I I I (.tail _ (.tail _ (.head _))) I (Snp.eqb _ _ kG) ?_;refine aj ?_;refine W.rZ (v:=.ah (bA (L[a-1]).f)) I I I (λs=>n4 _ _ I I) (Snp.eqb _ _ λJ=>by have:=Fm.snap J true _ (L[a-1]).f (b.bt+1000) (br _) U;rwa[jY] at this) ?_;refine aj ?_;refine W.aq (hf.q.one I) I I I (OR hf (fg.aS c6) U cW ZB.1 ZB.2) λr cG ⟨jm,e,jU,fi⟩=>⟨_,e,?_⟩
    have H:=H.aS fi.2;refine aj ?_;refine W.jD I I (pP I I I (ZA jU.ao I I I)) ?_;refine aj ?_;refine W.st H 0 I I I I I I λbZ fc H bg=>?_;refine aj ?_;refine ak.ret ⟨rfl,_,kk (gW I (H.get _ (.head _)) I) I,_,rfl,?_,?_,λi o h=>bg _ _ (by have:=ae.bE h;omega) (fi.2 _ _ (c6 _ _ h))⟩
    ·have c7A:=fi.1;have O3:=jU.ao.aS (τ:=bZ) λi o hi=>bg i o (by have:=jU.c5 i hi;omega);have:=jU.iE;rw[cond_true];refine⟨.af,jm,by rw[Ej];rfl,.nil,λ_=>rfl,?_,λe=>this ?_,λo ho=>?_⟩
     ·rw[mm];exact O3
     ·simpa using e
     ·rcases ho with ho|ho
      ·cases ho
      ·have:=jU.c5 o ho;omega
    ·have:=fi.1;omega
   ·rw[decide_eq_false c0];refine aj ?_;refine W.st H 0 I I I I I I λbZ fc H bg=>?_;refine aj ?_;exact ak.ret ⟨rfl,_,kk (gW I (H.get _ (.head _)) I) I,_,rfl,j0.v,U,λi o h=>bg _ _ (by have:=ae.bE h;omega) (c6 _ _ h)⟩
  ·rw[decide_eq_false a6,A4];refine aj ?_;refine W.st H 0 I I I I I I λbZ fc H bg=>?_;refine aj ?_;exact ak.ret ⟨rfl,_,kk (gW I (H.get _ (.head _)) I) I,_,rfl,j0.v,U,λi o h=>bg _ _ (by have:=ae.bE h;omega) (c6 _ _ h)⟩
 ·rw[decide_eq_false aR,A4];refine aj ?_;refine W.st H 0 I I I I I I λbZ fc H bg=>?_;refine aj ?_;exact ak.ret ⟨rfl,_,kk (gW I (H.get _ (.head _)) I) I,_,rfl,j0.v,U,λi o h=>bg _ _ (by have:=ae.bE h;omega) (c6 _ _ h)⟩
end
theorem ZC{L:List bu}{first d:Nat}:∀ {m zQ n:Nat},n∈asmF L first d m zQ->zQ<=n/\n-1<L.length
 |0,_,_,h=>by simp[asmF] at h
 |m+1,zQ,n,h=>by
  rw[yL] at h;split at h
  ·rename_i x hx;split at h
   ·rcases dF.1 h with rfl|h
    ·exact⟨br _,(fC.1 hx).1⟩
    ·have:=ZC h;omega
   ·simp at h
  ·simp at h
section
variable {b:b5}{K:Nat->List AV->AV->Prop}
theorem b8c(hf:mR b K)(hh:bq (b.aV K) wJ N8){p er dy:Nat}{L:List bu}{B N:List (List Nat)}{J:ae}(fg:mQ J p L B N)(dL:tF L B)(kb:J.get er=some (.cells [aT p]))(k a c:Nat)(k6:J.get dy=some (.cells [ai k]))(ha:1<=a)(dW:a<=c)(k8:c<k)(ay:k<=L.length)(Zb:N.length=L.length)(ed:∀l∈N,l.length<2^20/\∀n∈l,1<=n/\n<=L.length)(kG:∀J,bT J (b.bt+1000) (cC L)=some (cC L))(qZ:∀x∈L,x.f.dep<=200)(eb:∀x∈L,x.op<2^20)(hlt:L.length<2^16):
  bH (b.aV K) 0 (.f (.func wJ) [] [aT er,aT dy]) [.ah [ai a,ai c]] J (λr τ=>∃g,r= .ok (.a9 [g,.b (ih L B k a c)])/\qY (λo=>J.next<=o) τ g (cond (ih L B k a c) ⟨fj L c,(iZ L a (ig L k+1)).map (fj L),(lU L N k a c).map (fj L)⟩ j0)/\ee J τ):=by
 refine W.oa hh.e hh.p hh.f I I I λz=>?_;obtain⟨cX,fs,bI,e5,h1,h2,h3,aQ,bF,cw,eL⟩:=fg.ex;have a5:∀ {i j:Nat} {c d:List AV},J.get i=some (.cells c)->J.get j=some (.cells d)->c≠d->j≠i:=λh h' x6 e=>x6 (by subst e;rw[h] at h';cases h';rfl);have H:Has J [(p,[cC L,cX,fs]),(er,[aT p]),(dy,[ai k])]:=((Has.nil.cons k6 aG).cons kb λx hx=>by rw[cu.1 hx];exact a5 kb k6 aG).cons h1 λx hx=>by
  rcases dF.1 hx with rfl|hx
  ·exact a5 h1 kb aG
  ·rw[cu.1 hx];exact a5 h1 k6 aG
 have hl:=dL.lt;have hd:=dL.len;have s4:=dL.bs _ (bJ (show k-1<L.length by omega));have b8d:=Eb (L:=L) (k:=k) U ay;refine aj ?_;generalize aX:J.next=q;refine W.cM (c:=[ai a,ai c]) H aX I I I I I λτ hn H bG=>?_;refine aj ?_;refine W.cB (c:=[.i .u8 0,.s [],.af,.af,.af,.af]) H hn I I I λbl h8 H bw=>?_;have c6:∀i o,J.get i=some o->bl.get i=some o:=λi o h=>bw _ _ (bG _ _ h);refine aj ?_;refine W.aq trivial I I I (Y6 hf (fg.aS c6) dL k a c ha dW k8 ay) λr bZ ⟨e,e2⟩=>⟨_,e,?_⟩
 have H:=H.aS e2.2;have td:=e2.1;have Ji:∀i o,J.get i=some o->bZ.get i=some o:=λi o h=>e2.2 _ _ (c6 _ _ h);cases Jc:ih L B k a c with
 |false=>
  refine aj ?_;refine W.st H 0 I I I I I I λcG fF H b9=>?_;refine aj ?_;exact ak.ret ⟨rfl,_,kk (gW I (H.get _ (.head _)) I) I,_,rfl,j0.v,U,λi o h=>b9 _ _ (by have:=ae.bE h;omega) (Ji _ _ h)⟩
 |true=>
  have Ei:=qZ _ (bJ (show c-1<L.length by omega));have Ej:=Be (L:=L) (n:=c) U U;have ZD:=ed _ (bJ (show c-1<N.length by omega));have v5:N.getD (c-1) []=N[c-1]:=by rw[fO,cK U];rfl
  have O4:∀n∈lU L N k a c,n∈N[c-1]:=λn hn=>by unfold lU at hn;rw[v5] at hn;exact(nP.1 hn).1
  have pr:(lU L N k a c).length<2^20:=by
   unfold lU;rw[v5];have:=yJ (λn=>!decide (n∈iZ L a (ig L k+1))) N[c-1];have:=ZD.1;omega
  refine aj ?_;refine W.lQ H I I I (.tail _ (.tail _ (.head _))) I (Snp.eqb _ _ kG) ?_;refine aj ?_;refine W.rZ (v:=.ah (bA (L[c-1]).f)) I I I (λs=>n4 _ _ I I) (Snp.eqb _ _ λJ=>by have:=Fm.snap J true _ (L[c-1]).f (b.bt+1000) (br _) U;rwa[jY] at this) ?_;refine aj ?_;generalize b8e:bZ.next=mj at *;refine W.cB (c:=[.i .u8 0,.s [],.af,.af,.af,.af]) H b8e I I I λcG fF H b9=>?_;refine aj ?_;refine W.aq (hf.q.one I) I I I (Y_ hf (fg.aS λi o h=>b9 _ _ (Ji i o h)) dL eb (λl hl=>(ed l hl).1) k a c ha dW k8 ay U) λr dq ⟨w,e,hw,kH⟩=>⟨_,e,?_⟩
  have H:=H.aS kH.2;have Jj:=kH.1;refine aj ?_;refine W.aq (hf.q.one I) I I I (OR hf (fg.aS λi o h=>kH.2 _ _ (b9 _ _ (Ji i o h))) U hw.ao pr λn hn=>ZD.2 n (O4 n hn)) λr eA ⟨jm,e,jU,Ek⟩=>⟨_,e,?_⟩
  have H:=H.aS Ek.2;have c7B:=Ek.1;refine aj ?_;refine W.jD I I (pP I I I (ZA jU.ao I I I)) ?_;refine aj ?_;refine W.st H 0 I I I I I I λe6 l_ H gX=>?_;have yR:∀i o,J.get i=some o->e6.get i=some o:=λi o h=>gX _ _ (by have:=ae.bE h;omega) (Ek.2 _ _ (kH.2 _ _ (b9 _ _ (Ji i o h))));have O5:=jU.ao.aS (τ:=e6) λi o hi=>gX i o (by have:=jU.c5 i hi;omega);refine aj ?_;refine W.aq (hf.q.one I) I I I (Y8 hf (fg.aS yR) U eb a (L[k-1].bs+1) ha U) λr fI ⟨Ad,e,O3,i_⟩=>⟨_,e,?_⟩
  have H:=H.aS i_.2;have Jk:=i_.1;refine aj ?_;have kc:(iZ L a (L[k-1].bs+1)).length<2^17:=by have:=OH L a (L[k-1].bs+1) (L.length+1-a) a;unfold iZ;omega
  have xZ:∀n∈iZ L a (L[k-1].bs+1),1<=n/\n<=L.length:=λn hn=>by have:=ZC hn;omega
  rw[b8d];generalize iZ L a (L[k-1].bs+1)=l at *;refine W.aq (hf.q.one I) I I I (OR hf (fg.aS λi o h=>i_.2 _ _ (yR i o h)) U O3.ao U xZ) λr j1 ⟨ZE,e,El,Jl⟩=>⟨_,e,?_⟩
  have H:=H.aS Jl.2;have c7C:=Jl.1;have yN:=El.ao.vw;have Em:(l.map λn=>AV.ah (bA (fj L n))).length=l.length:=b0 _;refine aj ?_;rw[Em];refine aj ?_;refine ak.each l.length (λj f aM=>∃av,aM.get mj=some (.cells (bA (L[c-1].f)++[av,jm]))/\Sl aM (some 5) av ((l.take j).map λn=>sf (fj L n))/\(l.take j=[]->av= .af)/\(∀i,av.at? =some i->j1.next<=i)/\j1.next<=aM.next/\(∀i o,i≠mj->j1.get i=some o->aM.get i=some o)/\sat [(4,aT (q+1)),(6,aT mj),(47,ZE)] f) U ⟨.af,H.get _ (.head _),.nil,λ_=>rfl,(λ_ h=>by cases h),br _,λ_ _ _ h=>h,rfl,rfl,rfl,trivial⟩ I I (λj g aM aC a0 hi hm=>?_) (λg aM a0 hi=>?_)
  ·obtain⟨av,hg,an,sg,qj,mI,oV,c7,ib,q0,_⟩:=a0;refine ak.norm [(4,aT (q+1)),(6,aT mj),(47,ZE),(49,ai j),(48,ai l.length)] ⟨c7,ib,q0,hi,hm,trivial⟩ λg=>?_;have H:Has aM [(mj,bA (L[c-1].f)++[av,jm])]:=Has.nil.cons hg aG;have yN:=(El.ao.aS (τ:=aM) λi o hi=>oV i o (by have:=El.c5 i hi;omega)).vw;refine aj ?_;rw[e_];refine W.lk (c:=bA (fj L l[j])) H I I I I I I I λg7 q1 H cE=>?_;have mW:=an.aS (τ:=g7) λi o _=>cE i o;refine aj ?_;refine W.pu (c:=.b true::bA (fj L l[j])) (sf (fj L l[j])) mW I I I I I I I I I (by rw[b0,gI];omega) λbM ja O6 HM _ po iJ=>?_;have H:Has ja [(mj,bA (L[c-1].f)++[av,jm])]:=Has.nil.cons (iJ _ _ (λe=>by have:=qj _ e;omega) (H.get _ (.tail _ (.head _)))) aG;refine aj ?_;refine W.st (bX:=bA (L[c-1].f)++[bM,jm]) H 0 I I I I O6.ln (by rw[O6.mg];rfl) λlq s0 H nN=>?_;refine aj ?_;refine⟨rfl,rfl,bM,H.get _ (.head _),?_,λe=>?_,(λi hi=>by rw[HM] at hi;cases hi;omega),U,λi o hi ho=>nN _ _ hi (iJ _ _ (λe=>by have:=qj _ e;have:=ae.bE ho;omega) (cE _ _ (oV _ _ hi ho))),rfl,rfl,rfl,trivial⟩
   ·rw[mf aC,g_];exact O6.aS λi o hi=>nN i o (λe=>by rw[HM] at hi;cases hi;omega)
   ·have:=congrArg List.length e;rw[gI,g6] at this;omega
  ·obtain⟨av,hg,an,sg,qj,mI,oV,c7,ib,_⟩:=a0;show bR _ _ _ _ _ _ _ _;refine ak.norm [(4,aT (q+1)),(6,aT mj)] ⟨c7,ib,trivial⟩ λg=>?_;rw[mO] at an sg;have b8f:aM.get (q+1)=some (.cells [.i .u8 0,.s [],.af,.af,.af,.af]):=oV _ _ U (H.get _ (.tail _ (.head _)));have H:Has aM [(q+1,[.i .u8 0,.s [],.af,.af,.af,.af]),(mj,bA (L[c-1].f)++[av,jm])]:=(Has.nil.cons hg aG).cons b8f (by simp;omega);refine aj ?_;refine W.st (bX:=bA (L[c-1].f)++[av,jm]) H 0 I I I I I I λsh dQ H cD=>?_;refine aj ?_;have iq:Sl sh (some 5) av ((l.map (fj L)).map sf):=by
    rw[mm];exact an.aS λi o hi=>cD i o (by have:=qj i hi;omega)
   have l4:l.map (fj L)=[]->av= .af:=λe=>sg (by simpa using e);have ow:Sl sh (some 4) jm (((lU L N k a c).map (fj L)).map λF=>.ah (bA F)):=by
    rw[mm];exact O5.aS λi o hi ho=>cD _ _ (by have:=jU.c5 i hi;omega) (oV _ _ (by have:=jU.c5 i hi;omega) (Jl.2 _ _ (i_.2 _ _ ho)))
   have ux:(lU L N k a c).map (fj L)=[]->jm= .af:=λe=>jU.iE (by simpa using e);have CC:∀o,av.at? =some o\/jm.at? =some o->q<=o:=λo ho=>by
    rcases ho with ho|ho
    ·have:=qj o ho;omega
    ·have:=jU.c5 o ho;omega
   refine ak.ret ⟨rfl,_,kk (gW I (H.get _ (.head _)) I) I,_,rfl,by rw[cond_true];exact⟨av,jm,by rw[Ej];rfl,iq,l4,ow,ux,CC⟩,U,λi o h=>cD _ _ (by have:=ae.bE h;omega) (oV _ _ (by have:=ae.bE h;omega) (Jl.2 _ _ (i_.2 _ _ (yR _ _ h))))⟩
end
structure e7 where
 hyps:List Fm
 f:Fm
 fresh:List Nat
 closed:Bool
abbrev e7.cells(p:e7):List AV:=[slA true (some 4) (p.hyps.map λF=>.ah (bA F)),.i .u8 (Int.ofNat p.f.op),.s p.f.name,jG true p.f.gV,iH true p.f.gy,.s p.fresh,.b p.closed]
abbrev e7.A(p:e7):AV:=.ah p.cells
def e7.cM(p:e7):Bool:=!p.hyps.isEmpty||(!p.fresh.isEmpty||p.closed)
def iK(L:List bu)(B N:List (List Nat))(k:Nat)(p:e7)(ac:Nat×Nat):dN:=cond p.cM (cond (ih L B k ac.1 ac.2) ⟨fj L ac.2,(iZ L ac.1 (ig L k+1)).map (fj L),(lU L N k ac.1 ac.2).map (fj L)⟩ j0) (cond (ns B k ac.1 ac.2) ⟨fj L ac.2,[],(N.getD (ac.2-1) []).map (fj L)⟩ j0)
def gY(L:List bu)(B:List (List Nat))(k:Nat)(p:e7)(ac:Nat×Nat):Bool:=cond p.cM (ih L B k ac.1 ac.2) (ns B k ac.1 ac.2)
def citeB(L:List bu)(B:List (List Nat))(k:Nat):List e7->List (Nat×Nat)->Bool
 |[],[]=>true
 |p::aE,c::cs=>gY L B k p c&&citeB L B k aE cs
 |_,_=>false
def gotsL(L:List bu)(B N:List (List Nat))(k:Nat):List e7->List (Nat×Nat)->List dN
 |p::aE,c::cs=>iK L B N k p c::gotsL L B N k aE cs
 |_,_=>[]
theorem ZF{L:List bu}{B N:List (List Nat)}{k:Nat}:∀ {aE:List e7} {cs:List (Nat×Nat)},cs.length=aE.length->(gotsL L B N k aE cs).length=aE.length
 |[],_,_=>rfl
 |_::_,[],h=>by simp at h
 |p::aE,c::cs,h=>by
  show(gotsL L B N k aE cs).length+1=aE.length+1;rw[ZF (by simpa using h)]
theorem ZG{L:List bu}{B N:List (List Nat)}{k:Nat}:∀ {aE:List e7} {cs:List (Nat×Nat)} {j:Nat} (h1:j<aE.length) (h2:j<cs.length) (h3:j<(gotsL L B N k aE cs).length),(gotsL L B N k aE cs)[j]=iK L B N k aE[j] cs[j]
 |_::_,_::_,0,_,_,_=>rfl
 |p::aE,c::cs,j+1,h1,h2,h3=>ZG (aE:=aE) (cs:=cs) (j:=j) (by simpa using h1) (by simpa using h2) (by simpa [gotsL] using h3)
theorem ZH{L:List bu}{B:List (List Nat)}{k:Nat}:∀ {aE:List e7} {cs:List (Nat×Nat)},cs.length=aE.length->(∀j (h1:j<aE.length) (h2:j<cs.length),gY L B k aE[j] cs[j]=true)->citeB L B k aE cs=true
 |[],[],_,_=>rfl
 |[],_::_,h,_=>by simp at h
 |_::_,[],h,_=>by simp at h
 |p::aE,c::cs,h,hh=>by
  have h0:gY L B k p c=true:=hh 0 aG aG;rw[citeB,h0,pG];exact ZH (by simpa using h) λj h1 h2=>hh (j+1) (by simpa using h1) (by simpa using h2)
theorem O7{L:List bu}{B:List (List Nat)}{k:Nat}:∀ {aE:List e7} {cs:List (Nat×Nat)} {j:Nat} (h1:j<aE.length) (h2:j<cs.length),gY L B k aE[j] cs[j]=false->citeB L B k aE cs=false
 |p::aE,c::cs,0,_,_,h=>by
  have h:gY L B k p c=false:=h;rw[citeB,h,A4]
 |p::aE,c::cs,j+1,h1,h2,h=>by
  rw[citeB,O7 (aE:=aE) (cs:=cs) (j:=j) (by simpa using h1) (by simpa using h2) h,Bool.and_false]
theorem Jm{L:List bu}{B:List (List Nat)}{k:Nat}:∀ {aE:List e7} {cs:List (Nat×Nat)},citeB L B k aE cs=true->cs.length=aE.length
 |[],[],_=>rfl
 |[],_::_,h=>by cases h
 |_::_,[],h=>by cases h
 |p::aE,c::cs,h=>by
  rw[citeB,du] at h;have:=Jm h.2;simp[this]
section
variable {b:b5}{K:Nat->List AV->AV->Prop}
theorem b8g(hh:bq (b.aV K) IF N6){p k:Nat}{J:ae}{q:Nat}(aX:J.next=q):
  bH (b.aV K) 0 (.f (.func IF) [] []) [aT p,ai k] J (λr τ=>r= .ok (.ah [.f (.func wI) [] [aT q,aT (q+1)],.f (.func wJ) [] [aT q,aT (q+1)]])/\τ.get q=some (.cells [aT p])/\τ.get (q+1)=some (.cells [ai k])/\τ.next=q+3/\ee J τ):=by
 refine W.oa hh.e hh.p hh.f I I I λz=>?_;have H:Has J []:=Has.nil;refine aj ?_;refine W.cM (c:=[aT p]) H aX I I I I I λτ hn H bG=>?_;refine aj ?_;refine W.cM (c:=[ai k]) H hn I I I I I λbl h8 H bw=>?_;refine aj ?_;refine W.cB (c:=[.d_,.d_]) H h8 I I I λbZ pk H bg=>?_;refine aj ?_;refine W.st H 0 I I I I I I λcG fF H b9=>?_;refine aj ?_;exact ak.ret ⟨rfl,_,vl (gW I (H.get _ (.head _)) I),rfl,H.get _ (.tail _ (.tail _ (.head _))),H.get _ (.tail _ (.head _)),U,U,λi o h=>b9 _ _ (by have:=ae.bE h;omega) (bg _ _ (bw _ _ (bG _ _ h)))⟩
theorem b8h(hh:bq (b.aV K) Iz N3)(p:e7){J:ae}:
  bH (b.aV K) 0 (.f (.func Iz) [] []) [p.A] J (λr τ=>r= .ok (.b p.cM)/\ee J τ):=by
 refine W.code hh.e hh.p hh.f I I I I λz=>?_;have H:Has J []:=Has.nil;refine aj ?_;refine W.cM (c:=p.cells) H I I I I I I λτ hn H bG=>?_;obtain⟨hy,f,ad,aq⟩:=p;unfold e7.cM;cases hy with
 |cons F l=>
  refine aj ?_;exact ak.ret ⟨rfl,rfl,U,bG⟩
 |nil=>
  refine aj ?_;cases ad with
  |cons c l=>
   refine aj ?_;refine W.bin (v:=.b true) I I I I I ?_;refine aj ?_;exact ak.ret ⟨rfl,rfl,U,bG⟩
  |nil=>
   refine aj ?_;refine W.bin (v:=.b false) I I I I I ?_;refine aj ?_;exact ak.ret ⟨rfl,rfl,U,bG⟩
end
section
variable {b:b5}{K:Nat->List AV->AV->Prop}
structure En(b:b5)(K:Nat->List AV->AV->Prop):Prop where
 b8i:bq (b.aV K) IF N6
 q2:bq (b.aV K) wI N7
 pr2:bq (b.aV K) wJ N8
 b8j:bq (b.aV K) Iz N3
 O8:bq (b.aV K) N9 YV
structure Jn(b:b5)(L:List bu)(B N:List (List Nat)):Prop where
 mV:tF L B
 nl:N.length=L.length
 iE:∀l∈N,l.length<2^20/\∀n∈l,1<=n/\n<=L.length
 kF:∀J,bT J (b.bt+1000) (cC L)=some (cC L)
 bs:∀x∈L,x.f.dep<=200
 op:∀x∈L,x.op<2^20
 lt:L.length<2^16
theorem ZI{P:Nat->Prop}{J:ae}{v:AV}{g:dN}(h:qY P J v g):∃av qD,v= .ah (bA g.fz++[av,qD]):=by
 obtain⟨av,qD,e,_⟩:=h.ex;exact⟨av,qD,e⟩
def ZJ(q:Nat)(cM:Bool):AV:=.f (.func (cond cM wJ wI)) [] [aT q,aT (q+1)]
theorem b8k(hf:mR b K)(au:En b K){p q k:Nat}{L:List bu}{B N:List (List Nat)}{J:ae}(fg:mQ J p L B N)(cp:Jn b L B N)(ay:k<=L.length)(bL:J.get q=some (.cells [aT p]))(bQ:J.get (q+1)=some (.cells [ai k]))(pm:e7)(ac:Nat×Nat)(h:1<=ac.1/\ac.1<=ac.2/\ac.2<k):
  bH (b.aV K) 0 (ZJ q pm.cM) [.ah [ai ac.1,ai ac.2]] J (λr τ=>∃g,r= .ok (.a9 [g,.b (gY L B k pm ac)])/\qY (λo=>J.next<=o) τ g (iK L B N k pm ac)/\ee J τ):=by
 unfold gY iK;cases pm.cM with
 |false=>exact b8b hf au.q2 fg cp.mV bL k ac.1 ac.2 bQ h.1 h.2.1 h.2.2 ay cp.nl cp.iE cp.kF cp.bs
 |true=>exact b8c hf au.pr2 fg cp.mV bL k ac.1 ac.2 bQ h.1 h.2.1 h.2.2 ay cp.nl cp.iE cp.kF cp.bs cp.op cp.lt
theorem ZK(hf:mR b K)(au:En b K){p k:Nat}{L:List bu}{B N:List (List Nat)}{J:ae}(fg:mQ J p L B N)(cp:Jn b L B N)(Ja:1<=k)(ay:k<=L.length){aE:List e7}{V:AV}(hV:∀τ,(∀i o,J.get i=some o->τ.get i=some o)->hU τ (some 7) V (aE.map e7.A))(jH:aE.length<2^20){x:bu}(hx:L[k-1]? =some x)(ab:sa k x.cs):
  bH (b.aV K) 0 (.f (.func N9) [] []) [aT p,ai k,V] J (λr τ=>∃v,r= .ok (.a9 [v,.b (citeB L B k aE x.cs)])/\(citeB L B k aE x.cs=true->∃eB,Sl τ (some 6) v eB/\(eB=[]->v= .af)/\eB.length=aE.length/\∀i (h:i<eB.length) (h':i<aE.length) (wX:i<x.cs.length),qY (λ_=>True) τ eB[i] (iK L B N k aE[i] x.cs[i]))/\ee J τ):=by
 refine W.oa au.O8.e au.O8.p au.O8.f I I I λz=>?_;obtain⟨cX,fs,bI,e5,h1,_⟩:=fg.ex;have H:Has J [(p,[cC L,cX,fs])]:=Has.nil.cons h1 aG;have hl:=cp.lt;have Jo:L[k-1]'U=x:=(fC.1 hx).2;have av:=hV J λ_ _ h=>h;have O9:(aE.map e7.A).length=aE.length:=b0 _;have gq:=ab.1;refine aj ?_;rw[Jo];refine aj ?_;rw[O9];by_cases hlen:x.cs.length=aE.length
 ·refine aj ?_;generalize aX:J.next=q;refine W.aq trivial I I I (b8g au.b8i aX) λr τ ⟨e,bL,bQ,c_,Bo⟩=>⟨_,e,?_⟩
  have H:=H.aS Bo.2;refine aj ?_;refine W.lk (c:=[.f (.func wI) [] [aT q,aT (q+1)],.f (.func wJ) [] [aT q,aT (q+1)]]) H c_ I I I I I I λbl ei H bw=>?_;have av:=hV bl λ_ _ h=>bw _ _ (Bo.2 _ _ h);refine aj ?_;rw[O9];refine aj ?_;show bR _ _ _ _ _ _ _ _;refine ak.each aE.length (λj f aM=>∃v eB,Sl aM (some 6) v eB/\(eB=[]->v= .af)/\eB.length=j/\(∀i (h:i<eB.length) (h':i<aE.length) (wX:i<x.cs.length),qY (λo=>v.at? ≠some o) aM eB[i] (iK L B N k aE[i] x.cs[i]))/\(∀i (h':i<aE.length) (wX:i<x.cs.length),i<j->gY L B k aE[i] x.cs[i]=true)/\(∀o,v.at? =some o->bl.next<=o)/\bl.next<=aM.next/\(∀i o,bl.get i=some o->aM.get i=some o)/\sat [(8,np true x.cs),(9,aT (q+3)),(10,v),(33,V)] f) U ⟨.af,[],.nil,λ_=>rfl,rfl,(λi h=>by simp at h),(λi _ _ h=>by omega),(λ_ h=>by cases h),br _,λ_ _ h=>h,rfl,rfl,rfl,rfl,trivial⟩ I I (λj g aM aC a0 hi hm=>?_) (λg aM a0 hi=>?_)
  ·obtain⟨v,eB,an,sg,ld,uC,nY,qj,mI,oV,hs,kU,lr,I9,_⟩:=a0;refine ak.norm [(8,np true x.cs),(9,aT (q+3)),(10,v),(33,V),(35,ai j),(34,ai aE.length)] ⟨hs,kU,lr,I9,hi,hm,trivial⟩ λg=>?_;have H:Has aM [(q+3,[.f (.func wI) [] [aT q,aT (q+1)],.f (.func wJ) [] [aT q,aT (q+1)]])]:=Has.nil.cons (oV _ _ (H.get _ (.head _))) aG;have c6:∀i o,J.get i=some o->aM.get i=some o:=λi o h=>oV _ _ (bw _ _ (Bo.2 _ _ h));have av:=hV aM c6;refine aj ?_;rw[e_];refine W.cB H I I I I λg7 q1 H cE=>?_;refine aj ?_;refine W.st (bX:=(aE[j]).cells) H 0 I I I I I I λja po H iJ=>?_;refine W.nil ?_;refine W.sq ?_;refine W.rg ?_;refine eO ?_;refine W.nil ?_;have q3:∀i o,aM.get i=some o->ja.get i=some o:=λi o h=>iJ _ _ (by have:=ae.bE h;omega) (cE _ _ h);refine W.sq ?_;refine W.I_ (α:=Unit) (λ_=>[(8,np true x.cs),(9,aT (q+3)),(10,v),(11,ai j),(13,ZJ q (aE[j]).cM),(33,V),(35,ai j),(34,ai aE.length)]) (λ_ lq=>ee ja lq) ?_ ?_
   ·refine aj ?_;refine W.aq trivial I I I (b8h au.b8j aE[j]) λr lq ⟨e,e2⟩=>⟨_,e,?_⟩
    have H:=H.aS e2.2;cases(aE[j]).cM with
    |false=>
     refine aj ?_;exact⟨rfl,(),e2,rfl,rfl,rfl,rfl,rfl,rfl,rfl,rfl,trivial⟩
    |true=>
     refine aj ?_;exact⟨rfl,(),e2,rfl,rfl,rfl,rfl,rfl,rfl,rfl,rfl,trivial⟩
   ·intro _ g lq e2;have nN:∀i o,aM.get i=some o->lq.get i=some o:=λi o h=>e2.2 _ _ (q3 _ _ h);have H:=H.aS e2.2;have Eo:j<x.cs.length:=by omega
    refine aj ?_;refine W.mT I I I (b8k hf au (fg.aS λi o h=>nN _ _ (c6 _ _ h)) cp ay (nN _ _ (oV _ _ (bw _ _ bL))) (nN _ _ (oV _ _ (bw _ _ bQ))) aE[j] x.cs[j] (ab.2 _ (bJ Eo))) λr sh ⟨gt,e,rM,fi⟩=>⟨_,e,?_⟩
    have H:=H.aS fi.2;obtain⟨nJ,Jp,O_⟩:=ZI rM;subst O_;refine aj ?_;have cD:∀i o,aM.get i=some o->sh.get i=some o:=λi o h=>fi.2 _ _ (nN _ _ h);have dQ:aM.next<=sh.next:=by have:=e2.1;have:=fi.1;omega
    refine W.cB H I I I I λsi ne H Bp=>?_;refine W.st (bX:=bA (iK L B N k aE[j] x.cs[j]).fz++[nJ,Jp]) H 0 I I I I I I λEp d_ H wY=>?_;have Er:∀i o,sh.get i=some o->Ep.get i=some o:=λi o h=>wY _ _ (by have:=ae.bE h;omega) (Bp _ _ h);refine aj ?_;cases Pa:gY L B k aE[j] x.cs[j] with
    |false=>
     refine aj ?_;refine ak.ret ⟨rfl,_,kk (lp I) (lp I),_,by rw[O7 aC Eo Pa];rfl,λh=>(by rw[O7 aC Eo Pa] at h;cases h),?_,λi o h=>Er _ _ (cD _ _ (c6 _ _ h))⟩;have:=Bo.1;omega
    |true=>
     refine aj ?_;have Pb:=an.aS (τ:=Ep) λi o _ h=>Er _ _ (cD _ _ h);refine W.pu (c:=bA (iK L B N k aE[j] x.cs[j]).fz++[nJ,Jp]) (.ah (bA (iK L B N k aE[j] x.cs[j]).fz++[nJ,Jp])) Pb I I I I I I I I I (by rw[ld];omega) λbM Pc b8l Pd _ ZL yS=>?_;refine aj ?_;have b8m:∀o,v.at? =some o->o<aM.next:=λo ho=>an.lt ho;refine⟨rfl,rfl,bM,eB++[_],b8l,λe=>absurd e aG,by rw[c4,ld];rfl,λi h h' wX=>?_,λi h' wX hi=>?_,(λo ho=>by rw[Pd] at ho;cases ho;omega),U,λi o ho=>yS _ _ (λe=>by have:=qj _ e;have:=ae.bE ho;omega) (Er _ _ (cD _ _ (oV _ _ ho))),rfl,rfl,rfl,rfl,trivial⟩
     ·by_cases g5:i<eB.length
      ·rw[g9 g5];exact(uC i g5 h' wX).aS (λi o hi ho=>yS _ _ hi (Er _ _ (cD _ _ ho))) λo hi hlt e=>by rw[Pd] at e;cases e;omega
      ·have e:i=eB.length:=by rw[c4] at h;simp only[gp,g6] at h;omega
       subst e;rw[show(eB++[_])[eB.length]'h=_ from oS I _];subst ld;exact rM.aS (λi o hi ho=>yS _ _ (λe=>by have:=b8m _ e;have:=e2.1;omega) (Er _ _ ho)) λo hi hlt e=>by rw[Pd] at e;cases e;omega
     ·by_cases g5:i<j
      ·exact nY i h' wX g5
      ·obtain rfl:i=j:=by omega
       exact Pa
  ·obtain⟨v,eB,an,sg,ld,uC,nY,qj,mI,oV,hs,kU,lr,I9,_⟩:=a0;show bR _ _ _ _ _ _ _ _;refine ak.norm [(10,v)] ⟨lr,trivial⟩ λg=>?_;refine aj ?_;have hall:=ZH hlen λj h1 h2=>nY j h1 h2 h1;refine ak.ret ⟨rfl,_,kk (lp I) (lp I),_,by rw[hall];rfl,λ_=>⟨eB,an,sg,ld,λi h h' wX=>(uC i h h' wX).aS (λ_ _ _ h=>h) λ_ _ _=>trivial⟩,?_,λi o h=>oV _ _ (bw _ _ (Bo.2 _ _ h))⟩;have:=Bo.1;omega
 ·refine aj ?_;have yT:citeB L B k aE x.cs=false:=by
   cases yT:citeB L B k aE x.cs with
   |true=>exact absurd (Jm yT) hlen
   |false=>rfl
  refine ak.ret ⟨rfl,_,kk (lp I) (lp I),.af,by rw[yT];rfl,λh=>absurd (Jm h) hlen,br _,λ_ _ h=>h⟩
end
end Go.Lyc
end
noncomputable section
namespace Go.Lyc
set_option maxHeartbeats 0
variable [Tok][TokOk]
open Go.RowKit Go.Lyc.T
abbrev wZ(J ag:ae):Prop:=J.next<=ag.next/\∀i o,J.get i=some o->ag.get i=some o
theorem Acc.ZM{J:ae}{aa:Option Nat}{v:AV}{xs l:List AV}(h:Acc J aa v xs):dU none (v::l)=some v:=by cases h<;>rfl
theorem Acc.ln{J:ae}{aa:Option Nat}{v:AV}{xs:List AV}(h:Acc J aa v xs):Go.Lyc.conf none v=true:=by cases h<;>rfl
theorem Acc.inv{J:ae}{aa:Option Nat}{v:AV}{xs:List AV}(h:Acc J aa v xs)(hx:0<xs.length):∃o,v= .ao o 0 xs.length aa none/\J.get o=some (.cells (xs.flatMap AV.cells))/\∀y∈xs,Go.Lyc.conf aa y=true:=by
 cases h with
 |nil=>cases hx
 |ao o x xs h ab=>exact⟨o,rfl,h,ab⟩
theorem Acc.of{J:ae}{aa:Option Nat}{o:Nat}{xs:List AV}(hx:0<xs.length)(h:J.get o=some (.cells (xs.flatMap AV.cells)))(ab:∀y∈xs,Go.Lyc.conf aa y=true):Acc J aa (.ao o 0 xs.length aa none) xs:=by
 cases xs with
 |nil=>cases hx
 |cons x xs=>exact .ao o x xs h ab
theorem Jq{aa:Option Nat}{x:AV}(h:conf aa x=true):x.cells.length=shN aa:=by
 cases aa with
 |none=>rw[Hs h];rfl
 |some k=>obtain⟨l,rfl,hl⟩:=Wr h;exact hl
theorem Pe{aa:Option Nat}:∀ {xs:List AV} (j:Nat),(∀x∈xs,conf aa x=true)->(xs.flatMap AV.cells).drop (j*shN aa)=(xs.drop j).flatMap AV.cells
 |xs,0,_=>by rw[CO];rfl
 |[],j+1,_=>by simp
 |x::xs,j+1,h=>by
  have e:(j+1)*shN aa=x.cells.length+j*shN aa:=by rw[Jq (h x aG),jL,qb,uf]
  rw[lC,e,← nD,List.drop_left,Pe j λy hy=>h y (iM _ hy)];rfl
theorem Pf{aa:Option Nat}{xs:List AV}{j:Nat}(aC:j<xs.length)(h:∀x∈xs,conf aa x=true):dU aa ((xs.flatMap AV.cells).drop (0+j*shN aa))=some xs[j]:=by
 rw[qw,Pe j h,IP aC,lC];exact(DE (h _ (bJ aC))).1
theorem b8n{n:Nat}(h:n<256):wrapN .u8 (Int.ofNat n)=Int.ofNat n:=by
 have h:(n:Int)<256:=by omega
 simp[wrapN,IntKind.wrap,IntKind.bits,IntKind.signed];omega
abbrev fA:=List Nat×Nat
abbrev dr(s:fA):AV:=.ah [.s s.1,ai s.2]
theorem ZN:∀(a b:List Nat),eqL a b=decide (a=b)
 |[],[]=>rfl
 |[],_::_=>rfl
 |_::_,[]=>rfl
 |x::a,y::b=>by
  show cond (Nat.beq x y) (eqL a b) false=_;cases h:Nat.beq x y with
  |false=>
   have:x≠y:=λe=>by rw[e,gH] at h;cases h
   rw[decide_eq_false (λe=>this (by injection e))];rfl
  |true=>
   rw[fX h,cond_true,ZN a b];simp
theorem b8o(a b:fA):keyEq (.inr [1,0]) (dr a) (dr b)=some (decide (a=b)):=by
 show(match leafEq 1 (.s a.1) (.s b.1),mq [0] [ai a.2] [ai b.2] with|some a,some b=>some (a&&b)|_,_=>none)=_;have e:mq [0] [ai a.2] [ai b.2]=some (decide (a.2=b.2)):=by
  show(match leafEq 0 (ai a.2) (ai b.2),mq [] [] [] with|some a,some b=>some (a&&b)|_,_=>none)=_;show(match(if(IntKind.i64= .i64) then some (decide (Int.ofNat a.2=Int.ofNat b.2)) else none),some true with|some a,some b=>some (a&&b)|_,_=>none)=_;rw[if_pos I];simp only[Wd,Int.natCast_inj,As]
 rw[e];show some (eqL a.1 b.1&&decide (a.2=b.2))=_;rw[ZN];obtain⟨a2,bm⟩:=a;obtain⟨er,dy⟩:=b;by_cases h1:a2=er<;>by_cases h2:bm=dy<;>simp[h1,h2]
section
variable {α:Type}[DecidableEq α]{cE:α->AV}{aa:ks}
def setE(cE:α->AV):Nat->List α->List (AV×AV×Nat)
 |_,[]=>[]
 |i,k::bz=>(cE k,.b true,i)::setE cE (i+1) bz
def Bq(k:α)(l:List α):List α:=if k∈l then l else l++[k]
theorem ZO:∀(l:List α) (i:Nat) (k:α),setE cE i (l++[k])=setE cE i l++[(cE k,.b true,i+l.length)]
 |[],i,k=>rfl
 |x::l,i,k=>by
  show _::setE cE (i+1) (l++[k])=_;rw[ZO l (i+1) k];show _=(cE x,AV.b true,i)::(setE cE (i+1) l++[(cE k,.b true,i+(l.length+1))]);rw[show i+1+l.length=i+(l.length+1) from by omega]
theorem ZP(ay:∀a b,keyEq aa (cE a) (cE b)=some (decide (a=b)))(k:α):∀(l:List α) (i:Nat),qf aa (cE k) (.b true) (setE cE i l)=some (if k∈l then some (setE cE i l) else none)
 |[],i=>rfl
 |x::l,i=>by
  show(match keyEq aa (cE k) (cE x) with
   |none=>none
   |some true=>some (some ((cE k,AV.b true,i)::setE cE (i+1) l))
   |some false=>match qf aa (cE k) (AV.b true) (setE cE (i+1) l) with|none=>none|some none=>some none|some (some es)=>some (some ((cE x,AV.b true,i)::es)))=_
  rw[ay,ZP ay k l (i+1)];by_cases h:k=x
  ·subst h;rw[decide_eq_true I,if_pos (Cc)];rfl
  ·rw[decide_eq_false h];by_cases hm:k∈l
   ·rw[if_pos hm,if_pos (iM _ hm)];rfl
   ·rw[if_neg hm,if_neg (by simp[h,hm])]
theorem Pg{env:Env}{n:Nat}{f:Nat->AV}{J:ae}(ay:∀a b,keyEq aa (cE a) (cE b)=some (decide (a=b))){x y:aI}{dw:Nat}{k:α}{l:List α}(h1:dv env n f x=some (.m (some dw)))(h2:dv env n f y=some (cE k))(hm:J.get dw=some (.map (setE cE 0 l) l.length)):
  opx 0 (dv env n f) J (.j9 aa x y (.c (.b true)))=some (.val ea (J.set dw (.map (setE cE 0 (Bq k l)) (Bq k l).length))):=by
 show(match dv env n f x,dv env n f y,some (AV.b true) with
  |some (.m (some id)),some k,some v=>
   if Nat.blt id 0 then none else
   match J.get id with
   |some (.map es aq)=>match keyEq aa k k with
    |none=>none
    |some _=>match qf aa k v es with
    |some (some es)=>some (bV.val ea (J.set id (.map es aq)))
    |some none=>some (bV.val ea (J.set id (.map (es++[(k,v,aq)]) (aq+1))))
    |none=>none
   |_=>none
  |_,_,_=>none)=_
 rw[h1,h2];show(if Nat.blt dw 0 then none else
   match J.get dw with
   |some (.map es aq)=>(match keyEq aa (cE k) (cE k) with
    |none=>none
    |some _=>match qf aa (cE k) (.b true) es with
    |some (some es)=>some (bV.val ea (J.set dw (.map es aq)))
    |some none=>some (bV.val ea (J.set dw (.map (es++[(cE k,AV.b true,aq)]) (aq+1))))
    |none=>none)
   |_=>none)=_
 rw[if_neg (by simp[Nat.blt,Nat.ble]),hm];show(match keyEq aa (cE k) (cE k) with
    |none=>none
    |some _=>match qf aa (cE k) (.b true) (setE cE 0 l) with
    |some (some es)=>some (bV.val ea (J.set dw (.map es l.length)))
    |some none=>some (bV.val ea (J.set dw (.map (setE cE 0 l++[(cE k,AV.b true,l.length)]) (l.length+1))))
    |none=>none)=_
 rw[ay,ZP ay];unfold Bq;by_cases gb:k∈l
 ·rw[if_pos gb,if_pos gb]
 ·rw[if_neg gb,if_neg gb,ZO,c4,qw];rfl
theorem ZQ:∀(l:List α) (i c:Nat),i+l.length<=c->cP (λ(e:AV×AV×Nat)=>Nat.blt e.2.2 c) (setE cE i l)=true
 |[],_,_,_=>rfl
 |x::l,i,c,h=>by
  show cond (Nat.blt i c) (cP _ (setE cE (i+1) l)) false=true;have h:i+(l.length+1)<=c:=h;rw[show Nat.blt i c=true from j7 U,cond_true];exact ZQ l (i+1) c U
def hX(seen:List Nat):Nat->List α->List (α×Nat)
 |_,[]=>[]
 |i,k::bz=>cond (oq i seen) (hX seen (i+1) bz) ((k,i)::hX seen (i+1) bz)
theorem ZR(seen:List Nat):∀(l:List α) (i:Nat),mu seen (setE cE i l)=(hX seen i l).map λp=>(cE p.1,.b true,p.2)
 |[],_=>rfl
 |x::l,i=>by
  show cond (oq i seen) (mu seen (setE cE (i+1) l)) ((cE x,.b true,i)::mu seen (setE cE (i+1) l))=_;rw[ZR seen l (i+1),hX];cases oq i seen<;>rfl
theorem Ph(n:Nat)(j:Nat):∀(l:List Nat),oq n (l++[j])=(oq n l||Nat.beq j n)
 |[]=>by show cond (Nat.beq j n) true false=_;cases Nat.beq j n<;>rfl
 |x::l=>by
  show cond (Nat.beq x n) true (oq n (l++[j]))=(cond (Nat.beq x n) true (oq n l)||Nat.beq j n);rw[Ph n j l];cases Nat.beq x n<;>rfl
theorem ZS:∀(l:List α) (i:Nat),(hX [] i l).map Prod.fst=l
 |[],_=>rfl
 |x::l,i=>by
  show x::(hX [] (i+1) l).map Prod.fst=_;rw[ZS l (i+1)]
theorem Jr(seen:List Nat):∀(l:List α) (i:Nat) (p:α×Nat),p∈hX seen i l->i<=p.2
 |[],_,_,h=>by simp[hX] at h
 |x::l,i,p,h=>by
  rw[hX] at h;cases hm:oq i seen with
  |true=>rw[hm] at h;have:=Jr seen l (i+1) p h;omega
  |false=>
   rw[hm,cond_false] at h;rcases dF.1 h with rfl|h
   ·exact br _
   ·have:=Jr seen l (i+1) p h;omega
theorem ZT(seen:List Nat)(j:Nat):∀(l:List α) (i:Nat),j<i->hX (seen++[j]) i l=hX seen i l
 |[],_,_=>rfl
 |x::l,i,h=>by
  rw[hX,hX,Ph,ZT seen j l (i+1) U];have:Nat.beq j i=false:=by
   cases hb:Nat.beq j i with
   |false=>rfl
   |true=>have:=fX hb;omega
  rw[this,Oy]
theorem Pj(seen:List Nat):∀(l:List α) (i:Nat) (p:α×Nat),p∈hX seen i l->(p::hX (seen++[p.2]) i l).Perm (hX seen i l)
 |[],_,_,h=>by simp[hX] at h
 |x::l,i,p,h=>by
  rw[hX] at h ⊢;rw[hX,Ph];cases hm:oq i seen with
  |true=>
   rw[hm,cond_true] at h;rw[Bool.true_or,cond_true,cond_true];exact Pj seen l (i+1) p h
  |false=>
   rw[hm,cond_false] at h;rw[Bool.false_or,cond_false];rcases dF.1 h with rfl|h
   ·rw[gH,cond_true,ZT seen i l (i+1) U]
   ·have mE:=Jr seen l (i+1) p h;have:Nat.beq p.2 i=false:=by
     cases hb:Nat.beq p.2 i with
     |false=>rfl
     |true=>have:=fX hb;omega
    rw[this,cond_false];exact(List.Perm.swap _ _ _).trans ((Pj seen l (i+1) p h).cons _)
theorem ZU(seen:List Nat):∀(l:List α) (i:Nat) (p:α×Nat),p∈hX seen i l->pc p.2 (setE cE i l)=some (cE p.1,.b true,p.2)
 |[],_,_,h=>by simp[hX] at h
 |x::l,i,p,h=>by
  rw[hX] at h;show cond (Nat.beq i p.2) (some (cE x,AV.b true,i)) (pc p.2 (setE cE (i+1) l))=_;have key:∀h:p∈hX seen (i+1) l,cond (Nat.beq i p.2) (some (cE x,AV.b true,i)) (pc p.2 (setE cE (i+1) l))=some (cE p.1,.b true,p.2):=λh=>by
   have mE:=Jr seen l (i+1) p h;have:Nat.beq i p.2=false:=by
    cases hb:Nat.beq i p.2 with
    |false=>rfl
    |true=>have:=fX hb;omega
   rw[this,cond_false];exact ZU seen l (i+1) p h
  cases hm:oq i seen with
  |true=>rw[hm,cond_true] at h;exact key h
  |false=>
   rw[hm,cond_false] at h;rcases dF.1 h with rfl|h
   ·rw[gH];rfl
   ·exact key h
theorem ZV(j:Nat):∀(l:List Nat),qg (l++[j])=some j
 |[]=>rfl
 |x::l=>by
  show(match qg (l++[j]) with|none=>some x|some y=>some y)=_;rw[ZV j l]
section
variable {env:Env}{aN:Option Nat}{D:List (Nat ⊕ (AV×List AV))}{n:Nat}{f:Nat->AV}{J:ae}{Q:ec}
theorem aJ.mkMap{d:Nat}{wn:List Nat}{ops:List a3}(k:Nat)(hn:J.next=k)(hd:Nat.blt d n=true)
  (h:∀ag:ae,ag.next=k+1->ag.get k=some (.map [] 0)->(∀i o,J.get i=some o->ag.get i=some o)->dC env aN D n ops (dd f d (.m (some k))) ag Q):dC env aN D n (⟨some d,.mkMap,none,wn⟩::ops) f J Q:=by
 subst hn;exact aJ.val (v:=.m (some J.next)) (ag:=J.push (.map [] 0)) hd I I (h (J.push (.map [] 0)) I (ae.jP _) λi o ho=>by rw[ae.gw trivial _ (ae.bE ho)];exact ho)
theorem aJ.Pg(ay:∀a b,keyEq aa (cE a) (cE b)=some (decide (a=b))){wn:List Nat}{ops:List a3}{x y:aI}{dw:Nat}{k:α}{l:List α}(hm:J.get dw=some (.map (setE cE 0 l) l.length))(h1:dv env n f x=some (.m (some dw)))(h2:dv env n f y=some (cE k))
  (h:∀ag:ae,ag.next=J.next->ag.get dw=some (.map (setE cE 0 (Bq k l)) (Bq k l).length)->(∀i o,i≠dw->J.get i=some o->ag.get i=some o)->dC env aN D n ops f ag Q):dC env aN D n (⟨none,.j9 aa x y (.c (.b true)),none,wn⟩::ops) f J Q:=
 aJ.wc I (Go.Lyc.Pg ay h1 h2 hm) (h _ I (jF hm).1 (jF hm).2)
theorem aJ.b8p{d:Nat}{wn:List Nat}{ops:List a3}{x:aI}{dw c:Nat}{es:List (AV×AV×Nat)}(k:Nat)(hn:J.next=k)(hm:J.get dw=some (.map es c))(hd:Nat.blt d n=true)(h1:dv env n f x=some (.m (some dw)))
  (h:∀ag:ae,ag.next=k+1->ag.get k=some (.mapIter (some dw) c [] c)->(∀i o,J.get i=some o->ag.get i=some o)->dC env aN D n ops (dd f d (.p (some (k,0)))) ag Q):dC env aN D n (⟨some d,.rangeMap x,none,wn⟩::ops) f J Q:=by
 subst hn;refine aJ.val (v:=.p (some (J.next,0))) (ag:=J.push (.mapIter (some dw) c [] c)) hd I ?_ (h (J.push (.mapIter (some dw) c [] c)) I (ae.jP _) λi o ho=>by rw[ae.gw trivial _ (ae.bE ho)];exact ho);show(match dv env n f x with
  |some (.m none)=>some (bV.val (jN J.next 0) (J.push (.mapIter none 0 [] 0)))
  |some (.m (some id))=>match J.get id with
   |some (.map _ aq)=>some (bV.val (jN J.next 0) (J.push (.mapIter (some id) aq [] aq)))
   |_=>none
  |_=>none)=_
 rw[h1];show(match J.get dw with
   |some (.map _ aq)=>some (bV.val (jN J.next 0) (J.push (.mapIter (some dw) aq [] aq)))
   |_=>none)=_
 rw[hm];rfl
theorem aJ.b8q{d:Nat}{wn:List Nat}{ops:List a3}{x:aI}{dw it:Nat}{l:List α}{seen:List Nat}(mH:J.get it=some (.mapIter (some dw) l.length seen l.length))(hm:J.get dw=some (.map (setE cE 0 l) l.length))(hd:Nat.blt d n=true)(h1:dv env n f x=some (.p (some (it,0))))
  (h0:hX seen 0 l=[]->dC env aN D n ops (dd f d (.a9 [.b false])) J Q)
  (an:∀p∈hX seen 0 l,∀ag:ae,ag.next=J.next->ag.get it=some (.mapIter (some dw) l.length (seen++[p.2]) l.length)->(∀i o,i≠it->J.get i=some o->ag.get i=some o)->dC env aN D n ops (dd f d (.a9 [.b true,cE p.1,.b true])) ag Q):dC env aN D n (⟨some d,.sN x,none,wn⟩::ops) f J Q:=by
 have e:opx 0 (dv env n f) J (.sN x)=(match mu seen (setE cE 0 l) with
       |[]=>some (bV.val (.a9 [.b false]) J)
       |ct=>some (bV.jM (ct.map λ(e:AV×AV×Nat)=>(.a9 [.b true,e.1,e.2.1],J.set it (.mapIter (some dw) l.length (seen++[e.2.2]) l.length))))):=by
  show(match dv env n f x with
   |some (.p (some (it,0)))=>if Nat.blt it 0 then none else
    match J.get it with
    |some (.mapIter none _ _ _)=>some (bV.val (.a9 [.b false]) J)
    |some (.mapIter (some id) since seen g1)=>match J.get id with
     |some (.map es aq)=>
      cond (Nat.beq aq since&&Nat.beq g1 since&&cP (λ(e:AV×AV×Nat)=>Nat.blt e.2.2 since) es)
       (match mu seen es with
        |[]=>some (bV.val (.a9 [.b false]) J)
        |l=>some (bV.jM (l.map λ(e:AV×AV×Nat)=>(.a9 [.b true,e.1,e.2.1],J.set it (.mapIter (some id) since (seen++[e.2.2]) aq))))) none
     |_=>none
    |_=>none
   |_=>none)=_
  rw[h1];show(if Nat.blt it 0 then none else
    match J.get it with
    |some (.mapIter none _ _ _)=>some (bV.val (.a9 [.b false]) J)
    |some (.mapIter (some id) since seen g1)=>match J.get id with
     |some (.map es aq)=>
      cond (Nat.beq aq since&&Nat.beq g1 since&&cP (λ(e:AV×AV×Nat)=>Nat.blt e.2.2 since) es)
       (match mu seen es with
        |[]=>some (bV.val (.a9 [.b false]) J)
        |l=>some (bV.jM (l.map λ(e:AV×AV×Nat)=>(.a9 [.b true,e.1,e.2.1],J.set it (.mapIter (some id) since (seen++[e.2.2]) aq))))) none
     |_=>none
    |_=>none)=_
  rw[if_neg (by simp[Nat.blt,Nat.ble]),mH];show(match J.get dw with
     |some (.map es aq)=>
      cond (Nat.beq aq l.length&&Nat.beq l.length l.length&&cP (λ(e:AV×AV×Nat)=>Nat.blt e.2.2 l.length) es)
       (match mu seen es with
        |[]=>some (bV.val (.a9 [.b false]) J)
        |ct=>some (bV.jM (ct.map λ(e:AV×AV×Nat)=>(.a9 [.b true,e.1,e.2.1],J.set it (.mapIter (some dw) l.length (seen++[e.2.2]) aq))))) none
     |_=>none)=_
  rw[hm];show cond (Nat.beq l.length l.length&&Nat.beq l.length l.length&&cP (λ(e:AV×AV×Nat)=>Nat.blt e.2.2 l.length) (setE cE 0 l)) _ none=_;rw[gH,ZQ l 0 l.length U];rfl
 rw[ZR] at e;cases hl:hX seen 0 l with
 |nil=>
  rw[hl] at e;exact aJ.val hd I e (h0 hl)
 |cons p0 t=>
  rw[hl] at e;refine aJ.jM hd I e aG λq aX=>?_;rw[mm] at aX;obtain⟨p,au,rfl⟩:=dx.1 aX;rw[<-hl] at au;exact an p au _ I (jF mH).1 (jF mH).2
theorem aJ.b8r{d:Nat}{wn:List Nat}{ops:List a3}{x:aI}{dw it:Nat}{l:List α}{seen:List Nat}{p:α×Nat}(au:p∈hX seen 0 l)(mH:J.get it=some (.mapIter (some dw) l.length (seen++[p.2]) l.length))(hm:J.get dw=some (.map (setE cE 0 l) l.length))(hd:Nat.blt d n=true)(h1:dv env n f x=some (.p (some (it,0))))
  (h:dC env aN D n ops (dd f d (.a9 [cE p.1,.b true])) J Q):dC env aN D n (⟨some d,.entry x,none,wn⟩::ops) f J Q:=by
 refine aJ.val hd I ?_ h;show(match dv env n f x with
  |some (.p (some (it,0)))=>match J.get it with
   |some (.mapIter (some id) since seen g1)=>match J.get id with
    |some (.map es aq)=>cond (Nat.beq aq g1) (match qg seen with
     |some b=>match pc b es with
      |some e=>some (bV.val (.a9 [e.1,e.2.1]) J)
      |none=>none
     |none=>none) none
    |_=>none
   |_=>none
  |_=>none)=_
 rw[h1];show(match J.get it with
   |some (.mapIter (some id) since seen g1)=>match J.get id with
    |some (.map es aq)=>cond (Nat.beq aq g1) (match qg seen with
     |some b=>match pc b es with
      |some e=>some (bV.val (.a9 [e.1,e.2.1]) J)
      |none=>none
     |none=>none) none
    |_=>none
   |_=>none)=_
 rw[mH];show(match J.get dw with
    |some (.map es aq)=>cond (Nat.beq aq l.length) (match qg (seen++[p.2]) with
     |some b=>match pc b es with
      |some e=>some (bV.val (.a9 [e.1,e.2.1]) J)
      |none=>none
     |none=>none) none
    |_=>none)=_
 rw[hm];show cond (Nat.beq l.length l.length) (match qg (seen++[p.2]) with
     |some b=>match pc b (setE cE 0 l) with
      |some e=>some (bV.val (.a9 [e.1,e.2.1]) J)
      |none=>none
     |none=>none) none=_
 rw[gH,cond_true,ZV];show(match pc p.2 (setE cE 0 l) with
      |some e=>some (bV.val (.a9 [e.1,e.2.1]) J)
      |none=>none)=_
 rw[ZU seen l 0 p au]
end
end
structure Pk(B:Nat)(W:Nat->Prop)(J ag:ae):Prop where
 next:J.next<=ag.next
 old:∀i o,i<B->¬W i->J.get i=some o->ag.get i=some o
 it:∀i a b c d,J.get i=some (.mapIter a b c d)->ag.get i=some (.mapIter a b c d)
abbrev b8s(J ag:ae):Prop:=J.next<=ag.next/\∀i o,(∀a b c d,o≠ .mapIter a b c d)->J.get i=some o->ag.get i=some o
theorem Acc.b8t{J ag:ae}{aa:Option Nat}{v:AV}{xs:List AV}(h:Acc J aa v xs)(ay:∀i c,v.at? =some i->J.get i=some (.cells c)->ag.get i=some (.cells c)):Acc ag aa v xs:=by
 cases h with
 |nil=>exact .nil
 |ao o x xs h ab=>exact .ao o x xs (ay _ _ I h) ab
theorem Acc.b8u{J:ae}{aa:Option Nat}{v:AV}{xs:List AV}(h:Acc J aa v xs){i:Nat}(hi:v.at? =some i):∃c,J.get i=some (.cells c):=by
 cases h with
 |nil=>cases hi
 |ao o x xs h ab=>cases hi;exact⟨_,h⟩
theorem b8v{env:Env}(hh:bq env oP wD){W:Nat->Prop}{B dw cM:Nat}{bz:List fA}(eM:List fA->ae->Prop)(a0:∀c J ag,eM c J->b8s J ag->eM c ag)(g4:AV)
  (hy:∀k c J,B<=J.next->c.length<bz.length->eM c J->bH env 0 g4 [dr k] J (λr ag=>r= .ok (.b true)/\eM (c++[k]) ag/\Pk B W J ag)) (J:ae) (b3:B<=J.next) (b8w:dw<B) (Pl:¬W dw)
  (hm:J.get dw=some (.map (setE dr 0 bz) bz.length)) (gl:J.get cM=some (.cells [.m (some dw)])) (h0:eM [] J):
  bH env 0 (.f (.func oP) [] [.p (some (cM,0))]) [g4] J (λr ag=>r= .ok (.a9 [])/\∃c,c.Perm bz/\eM c ag/\J.next<=ag.next/\∀i o,i<B->¬W i->J.get i=some o->ag.get i=some o):=by
 refine bH.pM hh.e hh.p hh.f I I I ?_;refine ak.seq (ak.region ?_);refine aJ.az (v:=.m (some dw)) gl I I I I ?_;generalize ay:J.next=k at b3;refine aJ.b8p k ay hm I I λb2 c_ mH bG=>?_;refine aJ.nil (ak.block ?_);refine ak.loop (λm f τ=>k+1<=τ.next/\∃seen c,m=(hX seen 0 bz).length/\(c++(hX seen 0 bz).map Prod.fst).Perm bz/\τ.get k=some (.mapIter (some dw) bz.length seen bz.length)/\eM c τ/\(∀i o,i<B->¬W i->J.get i=some o->τ.get i=some o)∧
  sat [(0,g4),(5,.p (some (k,0)))] f) ?_ (hX [] 0 bz).length ⟨U,[],[],rfl,by rw[ZS];exact .refl _,mH,a0 _ _ _ h0 ⟨U,λi o _ ho=>bG i o ho⟩,λi o _ _ ho=>bG i o ho,rfl,rfl,trivial⟩
 clear mH c_ bG h0;intro m g τ ⟨hn,seen,c,qx,yd,mH,ZW,hold,hL⟩;refine ak.norm _ hL λg=>?_;clear hL;have nF:=hold dw _ b8w Pl hm;refine ak.seq (ak.region ?_);refine aJ.b8q mH nF I I (λCR=>?_) (λp au cT ei ZX bw=>?_)
 ·refine aJ.go I I I I ?_;refine aJ.nil (ak.seq ?_);refine ak.iW I (λh=>by cases h) (λ_=>?_);refine ak.exit ?_;rw[CR,A3,iG] at yd;exact⟨.inr I,rfl,c,yd,ZW,U,hold⟩
 ·refine aJ.go I I I I ?_;refine aJ.nil (ak.seq ?_);refine ak.iW I (λ_=>?_) (λh=>by cases h);have nr:dw≠k:=by omega
  have b8x:=bw _ _ nr nF;refine ak.skip (ak.block (ak.seq (ak.region ?_)));refine aJ.b8r au ZX b8x I I ?_;refine aJ.go I I I I ?_;refine aJ.var (v:=dr p.1) (c:=[.s p.1.1,ai p.1.2]) τ.next ei I I I I I I λhC fc h3 bg=>?_;refine aJ.nil (ak.seq (ak.region ?_));refine aJ.go I I I I ?_;refine aJ.az (v:=dr p.1) h3 I I I I ?_;have ZY:=Pj seen bz 0 p au;have hlen:=yd.length_eq;have b8y:=ZY.length_eq;rw[c4,b0] at hlen;rw[gp] at b8y;have OA:eM c hC:=a0 _ _ _ (a0 _ _ _ ZW ⟨U,λi o a5 ho=>bw i o (λe=>by subst e;rw[mH] at ho;cases ho;exact a5 _ _ _ _ I) ho⟩) ⟨U,λi o _ ho=>bg i o ho⟩;refine aJ.iX I I I (hy p.1 c hC U U OA) λr Js ⟨h7,b8z,Pm⟩=>⟨_,h7,?_⟩
  refine aJ.go I I I I ?_;refine aJ.nil (ak.iW I (λh=>by cases h) (λ_=>?_));have fF:=Pm.next;refine ak.skip ⟨(hX (seen++[p.2]) 0 bz).length,U,U,seen++[p.2],c++[p.1],rfl,?_,Pm.it _ _ _ _ _ (bg _ _ ZX),b8z,λi o hi hw ho=>Pm.old i o hi hw (bg i o (bw i o U (hold i o hi hw ho))),rfl,rfl,trivial⟩;refine List.Perm.trans ?_ yd;rw[jA];exact(ZY.map Prod.fst).append_left c
theorem b8A{env:Env}(hh:bq env DT Ie)(dw:Nat)(J:ae)(k:Nat)(ay:J.next=k):bH env 0 (.f (.func DT) [] []) [.m (some dw)] J (λr ag=>r= .ok (.f (.func oP) [] [.p (some (k,0))])/\ag.next=k+1/\ag.get k=some (.cells [.m (some dw)])/\∀i o,J.get i=some o->ag.get i=some o):=by
 refine bH.code hh.e hh.p hh.f I I I I ?_;refine ak.seq (ak.region (aJ.box (v:=.m (some dw)) (c:=[.m (some dw)]) k ay I I I I I λτ hn h1 bG=>?_));refine HD ?_;exact ak.ret ⟨rfl,rfl,hn,h1,bG⟩
theorem dK.keys{env:Env}{D:List (Nat ⊕ (AV×List AV))}{n:Nat}{f:Nat->AV}{J:ae}{Q:ec}(gJ:bq env oP wD){oL:aI}{p:Nat}{fH b:bO}{dw cM:Nat}{bz:List fA}(W:Nat->Prop)(S:List fA->ae->Prop)(k:Nat)(ay:J.next=k)
  (nf:dv env n f oL=some (.f (.func oP) [] [.p (some (cM,0))])) (au:Nat.blt p n=true) (hm:J.get dw=some (.map (setE dr 0 bz) bz.length)) (gl:J.get cM=some (.cells [.m (some dw)])) (hW:∀i,W i->i<k) (Pl:¬W dw)
  (cW:∀c τ aM,S c τ->τ.next<=aM.next->(∀i o,i≠k+1->(∀a b c d,o≠ .mapIter a b c d)->τ.get i=some o->aM.get i=some o)->S c aM) (h0:S [] J)
  (D9:∀y c τ,k+2<=τ.next->c.length<bz.length->S c τ->bR env (some (k+1)) [] n fH (dd f p (dr y)) τ (λx f1 eN=>x= .normal/\wZ τ eN∧
   ∀bl,bl.next=eN.next->(∀i o,i≠k+1->eN.get i=some o->bl.get i=some o)->bR env (some (k+1)) [] n b f1 bl (λx _ bZ=>x= .normal/\S (c++[y]) bZ/\Pk (k+2) W bl bZ)))
  (D_:∀c τ,c.Perm bz->S c τ->k+2<=τ.next->τ.get k=some .eo->(∀i o,¬W i->J.get i=some o->τ.get i=some o)->Q .normal f τ):dK env D (.inl k::D) n (.rangeFunc oL [p] fH b) f J Q:=by
 subst ay;refine dK.range nf gJ.e λao gK=>?_;generalize ay:J.next=k at *;obtain⟨cT,a6,ei,n2,jk,bw⟩:∃cT:ae,(J.push .eo).push (.loop .ready none ao [p] fH b k)=cT/\cT.next=k+2/\cT.get (k+1)=some (.loop .ready none ao [p] fH b k)/\cT.get k=some .eo/\∀i o,J.get i=some o->cT.get i=some o:=by
  refine⟨_,rfl,by show J.next+1+1=_;omega,?_,?_,λi o ho=>?_⟩
  ·have:=ae.jP (J:=J.push .eo) (.loop .ready none ao [p] fH b k);rwa[show(J.push .eo).next=k+1 from by show J.next+1=_;omega] at this
  ·rw[ae.gw trivial _ (show k<(J.push .eo).next from by show k<J.next+1;omega)];have:=ae.jP (J:=J) .eo;rwa[ay] at this
  ·have:=ae.bE ho;rw[ae.gw trivial _ (show i<(J.push .eo).next from by show i<J.next+1;omega),ae.gw trivial _ this];exact ho
 rw[a6];clear a6;have nr:=ae.bE hm;have qQ:¬W (k+1):=λh=>by have:=hW _ h;omega
 have nm:¬W k:=λh=>by have:=hW _ h;omega
 refine(b8v gJ (W:=λi=>W i\/i=k+1) (B:=k+2) (dw:=dw) (cM:=cM) (bz:=bz)
  (λc τ=>S c τ/\τ.get (k+1)=some (.loop .ready none ao [p] fH b k)) ?_ (.f (.yield (k+1)) [] []) ?_ cT U U (λh=>h.elim Pl U) (bw _ _ hm) (bw _ _ gl) ⟨cW _ _ _ h0 U λi o _ _ ho=>bw i o ho,n2⟩).mono ?_
 ·rintro c τ aM ⟨a2,bm⟩ ⟨er,dy⟩;exact⟨cW _ _ _ a2 er λi o _ h ho=>dy i o h ho,dy _ _ (by intros;simp) bm⟩
 ·rintro y c τ b3 hlt ⟨a2,bm⟩;refine(bH.round (R:=λag=>(S (c++[y]) ag/\ag.get (k+1)=some (.loop .ready none ao [p] fH b k))/\Pk (k+2) (λi=>W i\/i=k+1) τ ag) (f:=f) (n:=n) bm gK (by show cond (Nat.blt p n) _ _=true;rw[au];rfl) I ?_).mono λr ag h=>h;refine(D9 y c τ b3 hlt a2).mono λx f1 eN ⟨aR,oT,h1⟩=>?_;have ji:=oT.2 _ _ bm;have gP:=jF (bU:=.loop .busy none ao [p] fH b k) ji;refine⟨aR,ji,(h1 (eN.set (k+1) (.loop .busy none ao [p] fH b k)) I (λi o hi ho=>gP.2 i o hi ho)).mono λx _ bZ ⟨a6,tD,r9⟩=>?_⟩;have ve:=r9.old _ _ U qQ gP.1;have pO:=jF (bU:=.loop .ready none ao [p] fH b k) ve;have c_:=oT.1;have fc:eN.next<=bZ.next:=r9.next;have a5:∀ {i:Nat} {a fK bX je},eN.get i=some (.mapIter a fK bX je)->i≠k+1:=λh e=>by subst e;rw[ji] at h;cases h
  have b8B:∀ {i:Nat} {a fK bX je},bZ.get i=some (.mapIter a fK bX je)->i≠k+1:=λh e=>by subst e;rw[ve] at h;cases h
  refine⟨a6,ve,⟨cW _ _ _ tD (br _) λi o hi _ ho=>pO.2 i o hi ho,pO.1⟩,by show τ.next<=bZ.next;omega,λi o hi hw ho=>?_,λi a fK bX je ho=>?_⟩
  ·have Jt:i≠k+1:=λe=>hw (.inr e);exact pO.2 i o Jt (r9.old i o hi (λe=>hw (.inl e)) (gP.2 i o Jt (oT.2 i o ho)))
  ·have h1:=oT.2 _ _ ho;have h3:=r9.it _ _ _ _ _ (gP.2 _ _ (a5 h1) h1);exact pO.2 _ _ (b8B h3) h3
 ·rintro r τ ⟨aR,c,ab,⟨a2,bm⟩,er,dy⟩;have gP:=jF (bU:=.loop .exhausted none ao [p] fH b k) bm;refine⟨_,.ready,aR,bm,aG,D_ c _ ab (cW _ _ _ a2 (br _) λi o hi _ ho=>gP.2 i o hi ho) (by show k+2<=τ.next;omega) (gP.2 _ _ U (dy _ _ U (λh=>h.elim nm U) jk)) λi o hi ho=>?_⟩;have:=ae.bE ho;exact gP.2 i o U (dy i o U (λh=>h.elim hi U) (bw i o ho))
theorem b8C{env:Env}(hh:bq env yz AQ)(gJ:bq env oP wD){dw cM:Nat}{bz:List fA}(Es:bz.length<=1000000)(J:ae)(hm:J.get dw=some (.map (setE dr 0 bz) bz.length))(gl:J.get cM=some (.cells [.m (some dw)])):
  bH env 0 (.f (.func yz) [] []) [.af,.f (.func oP) [] [.p (some (cM,0))]] J (λr ag=>∃(v:AV) (c:List fA),r= .ok v/\c.Perm bz/\Acc ag (some 2) v (c.map dr)/\(∀a,v.at? =some a->J.next<=a)/\wZ J ag):=by
 generalize ay:J.next=k;refine bH.No (d:=k+1) hh.e hh.p hh.f I I I I ?_;refine dK.lO (ak.region (aJ.box (v:=.af) (c:=[.af]) k ay I I I I I λb2 c_ h1 bG=>?_));refine jX ?_;refine⟨rfl,dK.Ax (dK.lO (ak.region ?_))⟩;refine jX ?_;refine⟨rfl,dK.block ?_⟩;have nr:=ae.bE hm;refine dK.keys gJ (λi=>i=k) (λc τ=>∃v,τ.get k=some (.cells [v])/\Acc τ (some 2) v (c.map dr)/\∀a,v.at? =some a->k+3<=a/\a<τ.next) (k+1) c_ I I (bG _ _ hm) (bG _ _ gl) (λi hi=>by omega) U ?_ ⟨.af,h1,.nil,λa h=>by cases h⟩ ?_ ?_
 ·rintro c τ aM ⟨v,ep,eW,mi⟩ er dy;exact⟨v,dy _ _ U (by intros;simp) ep,eW.b8t λi c hi h=>dy _ _ (by have:=mi i hi;omega) (by intros;simp) h,λa h=>by have:=mi a h;omega⟩
 ·rintro y c τ b3 hlt ⟨v,ep,eW,mi⟩;refine ak.region ?_;refine aJ.var (v:=dr y) (c:=[.s y.1,ai y.2]) τ.next I I I I I I I λeN df bL vn=>?_;refine aJ.nil ⟨rfl,⟨U,vn⟩,λbl qF l4=>?_⟩;have nt:∀i o,i≠k+2->τ.get i=some o->bl.get i=some o:=λi o hi ho=>l4 i o hi (vn i o ho);have Et:=nt _ _ U ep;have hA:=eW.aS λi o hi ho=>nt i o (by have:=mi i hi;omega) ho;refine ak.block (ak.region ?_);refine aJ.az (v:=v) Et I I I hA.ZM ?_;refine aJ.az (v:=dr y) (l4 _ _ U bL) I I I I ?_;refine aJ.b3m (y:=dr y) hA I I I (by rw[b0];omega) I I λbM bZ kC fE td ml=>?_;refine aJ.store (bX:=[bM]) (ml _ _ (λe=>by have:=mi _ e;omega) Et) I I I kC.ln (by show storeCells _ 0 bM.cells=_;rw[Hs kC.ln];rfl) λcG O1 c7 mj=>?_;refine aJ.nil ⟨rfl,⟨bM,c7,?_,λa e=>by rw[fE] at e;cases e;omega⟩,U,λi o hi hw ho=>mj i o hw (ml i o (λe=>by have:=mi _ e;omega) ho),λi a fK bX je ho=>?_⟩
  ·rw[g_];exact kC.aS λi o hi ho=>by
    rw[fE] at hi;cases hi;exact mj _ _ U ho
  ·refine mj _ _ (λe=>by subst e;rw[Et] at ho;cases ho) (ml _ _ (λe=>?_) ho);obtain⟨sP,fm⟩:=hA.b8u e;rw[fm] at ho;cases ho
 ·rintro c τ ab ⟨v,ep,eW,mi⟩ hn hd hold;refine⟨rfl,rfl,?_⟩;refine ak.seq (ak.region ?_);refine aJ.az (v:=v) ep I I I eW.ZM ?_;refine jX ?_;have gP:=jF (bU:=AO.dead) hd;refine ak.ret ⟨rfl,hd,v,c,rfl,ab,eW.aS λi o hi ho=>gP.2 i o (by have:=mi i hi;omega) ho,λa h=>by have:=mi a h;omega,by show J.next<=τ.next;omega,λi o ho=>?_⟩;have:=ae.bE ho;exact gP.2 i o U (hold i o U (bG i o ho))
theorem ZZ{aa:Option Nat}:∀ {xs:List AV} (j:Nat),(∀x∈xs,conf aa x=true)->(xs.flatMap AV.cells).take (j*shN aa)=(xs.take j).flatMap AV.cells
 |xs,0,_=>by rw[CO];rfl
 |[],j+1,_=>by simp
 |x::xs,j+1,h=>by
  have e:(j+1)*shN aa=x.cells.length+j*shN aa:=by rw[Jq (h x aG),jL,qb,uf]
  rw[lC,e,List.take_length_add_append,ZZ j λy hy=>h y (iM _ hy)];rfl
theorem Z0{aa:Option Nat}:∀ {xs:List AV},(∀x∈xs,conf aa x=true)->(xs.flatMap AV.cells).length=xs.length*shN aa
 |[],_=>by simp
 |x::xs,h=>by
  rw[lC,c4,Jq (h x aG),Z0 λy hy=>h y (iM _ hy),gp,jL,qb,uf]
theorem b8D{aa:Option Nat}{xs:List AV}{j:Nat}{y:AV}(aC:j<xs.length)(h:∀x∈xs,conf aa x=true)(hy:conf aa y=true):storeCells (xs.flatMap AV.cells) (0+j*shN aa) y.cells=some ((xs.set j y).flatMap AV.cells):=by
 have aR:0+j*shN aa+y.cells.length=(j+1)*shN aa:=by rw[Jq hy,jL,qb,qw]
 unfold storeCells;rw[aR,qw,if_pos (j7 (by rw[Z0 h];exact rk _ U)),ZZ j h,Pe (j+1) h,Ox,if_pos aC,D7,lC]
section
variable {env:Env}{aN:Option Nat}{D:List (Nat ⊕ (AV×List AV))}{n:Nat}{f:Nat->AV}{J:ae}{Q:ec}
theorem aJ.Z1{aa:Option Nat}{a x:aI}{g:Option (Nat×Bool)}{wn:List Nat}{ops:List a3}{xs:List AV}{v y:AV}{j o:Nat}(hA:Acc J aa v xs)(fE:v.at? =some o)(aC:j<xs.length)(hy:conf aa y=true)(hw:gN g n f=true)(h1:dv env n f a=some (.p (some (o,0+j*shN aa))))(h2:dv env n f x=some y)
  (h:∀ag:ae,ag.next=J.next->Acc ag aa v (xs.set j y)->(∀i bU,i≠o->J.get i=some bU->ag.get i=some bU)->dC env aN D n ops f ag Q):dC env aN D n (⟨none,.store aa a x,g,wn⟩::ops) f J Q:=by
 obtain⟨bU,av,ho,ab⟩:=hA.inv U;subst av;cases fE;refine aJ.store ho hw h1 h2 hy (b8D aC ab hy) λag pK h' eR=>h ag pK ?_ eR;have:=Acc.of (J:=ag) (aa:=aa) (o:=o) (xs:=xs.set j y) (by rw[mo];omega) h' (λz bb=>by
  rcases Y1 bb with bb|bb
  ·exact ab z bb
  ·rw[bb];exact hy)
 rwa[mo] at this
end
def Eu(a b:Nat):Int:=if a<b then-1 else if b<a then 1 else 0
def vo(a b:List Nat):Int:=cond (hZ a b) (-1) (cond (eqL a b) 0 1)
def pQ(a b:fA):Int:=if vo a.1 b.1=0 then Eu a.2 b.2 else vo a.1 b.1
theorem swap_perm{l:List fA}{j:Nat}(aC:j+1<l.length):((l.set (j+1) l[j]).set j l[j+1]).Perm l:=by
 exact List.set_set_perm (i:=j+1) (j:=j) U U
section
variable {b:b5}{K:Nat->List AV->AV->Prop}
theorem Pn{ar:aI->Option AV}{J:ae}{x:aI}{k:IntKind}{m:Int}(h:ar x=some (.i k m))(bw:IntKind):opx 0 ar J (.conv bw x)=some (.val (.i bw (wrapN bw m)) J):=by
 show(match ar x with|some (.i _ n)=>some (bV.val (.i bw (wrapN bw n)) J)|some (.hc _ d j)=>(match bw with| .i64=>some (.val (.hc .i64 d j) J)|_=>none)|_=>none)=_;rw[h]
theorem b8E(hh:bq (b.aV K) AP DU)(ha:bq (b.aV K) yz AQ)(gJ:bq (b.aV K) oP wD){dw cM:Nat}{bz:List fA}(Es:bz.length<=1000000)(J:ae)(hm:J.get dw=some (.map (setE dr 0 bz) bz.length))(gl:J.get cM=some (.cells [.m (some dw)])):
  bH (b.aV K) 0 (.f (.func AP) [] []) [.f (.func oP) [] [.p (some (cM,0))]] J (λr ag=>∃(v:AV) (c:List fA),r= .ok v/\c.Perm bz/\Acc ag (some 2) v (c.map dr)/\(∀a,v.at? =some a->J.next<=a)/\wZ J ag):=by
 refine bH.code hh.e hh.p hh.f I I I I ?_;refine ak.seq (ak.region ?_);refine aJ.go I I I I ?_;refine aJ.nil (ak.seq (ak.region ?_));refine aJ.go I I I I ?_;refine aJ.iX I I I (b8C ha gJ Es J hm gl) λr cT ⟨v,c,aR,h1,h2,h3,aQ⟩=>⟨_,aR,?_⟩
 refine aJ.go I I I I ?_;exact aJ.nil (ak.ret ⟨rfl,_,c,rfl,h1,h2,h3,aQ⟩)
end
def Po(b:b5)(K:Nat->List AV->AV->Prop)(N:Nat):Prop:=N<=60000/\∀ {dw:Nat} {bz:List fA} (_:bz.length<=N) (J:ae) (_:J.get dw=some (.map (setE dr 0 bz) bz.length)),
  bH (b.aV K) 0 (.f (.func DR) [] []) [.m (some dw)] J (λr ag=>∃(v:AV) (c:List fA),r= .ok v/\c.Perm bz/\Acc ag (some 2) v (c.map dr)/\(∀a,v.at? =some a->J.next<=a)/\wZ J ag)
def vp(f:Fm)(bz:List fA):List fA:=if f.op=1 then Bq (f.name,f.args.length) bz else bz
def yU(l:List Fm)(bz:List fA):List fA:=l.foldl (λbz f=>vp f bz) bz
def Ev(F:Fm):List fA:=yU F.parts []
section
variable {b:b5}{K:Nat->List AV->AV->Prop}{N:Nat}(hf:∀g aY r cc,K g aY r->K g aY cc->r=cc)
include hf in
theorem b8F(an:Po b K N)(hh:bq (b.aV K) Ia NF)(av:bq (b.aV K) wC yx)(mF:bq (b.aV K) u7 AN)(hw:bq (b.aV K) AM DQ)(F:Fm)(b4:F.jW)(b8G:(Ev F).length<=N)(J:ae):
  bH (b.aV K) 0 (.f (.func Ia) [] []) [F.A true] J (λr ag=>∃(v:AV) (c:List fA),r= .ok v/\c.Perm (Ev F)/\Acc ag (some 2) v (c.map dr)/\(∀a,v.at? =some a->J.next<=a)/\wZ J ag):=by
 generalize ay:J.next=k;refine bH.No (d:=k+4) hh.e hh.p hh.f I I I I ?_;refine dK.lO (ak.region (aJ.box (v:=F.A true) (c:=F.cells true) k ay I I I I I λb2 iD h1 bG=>?_));refine jX ?_;refine⟨rfl,dK.lO (ak.region (aJ.mkMap (k+1) iD I λcT h8 h2 bw=>?_))⟩;refine aJ.var (v:=.m (some (k+1))) (c:=[.m (some (k+1))]) (k+2) h8 I I I I I I λhC pk h3 bg=>?_;replace h1:=bg _ _ (bw _ _ h1);replace h2:=bg _ _ h2;refine aJ.nil ⟨rfl,dK.Ax (dK.lO (ak.region ?_))⟩;refine aJ.az h1 I I I (Fm.az true F) ?_;refine aJ.iX I I I (OB hw true F hC (k+3) pk) λr Js ⟨aR,ta,aQ,b9⟩=>⟨_,aR,?_⟩
 replace h1:=b9 _ _ h1;replace h2:=b9 _ _ h2;replace h3:=b9 _ _ h3;have c6:∀i o,J.get i=some o->Js.get i=some o:=λi o ho=>b9 i o (bg i o (bw i o (bG i o ho)));refine aJ.nil ⟨rfl,dK.block ?_⟩;refine dK.walk av mF true (λi=>i=k+1\/i=k+2) (λl τ=>∃bz,yU l bz=Ev F/\τ.get (k+1)=some (.map (setE dr 0 bz) bz.length)/\τ.get (k+2)=some (.cells [.m (some (k+1))])) (k+4) ta I I b4 aQ (λi hi=>by omega) (λl τ aM ⟨bz,a2,bm,cx⟩ ay=>⟨bz,a2,ay _ _ (.inl I) bm,ay _ _ (.inr I) cx⟩) ⟨[],rfl,h2,h3⟩ ?_ ?_
 ·intro G rest τ de yK ⟨bz,a2,bm,cx⟩;refine ak.region ?_;refine aJ.var (v:=G.A true) (c:=G.cells true) τ.next I I I I (Fm.conf true G) I (Fm.len true G) λeN ta aQ b9=>?_;refine aJ.nil ⟨rfl,.of U b9,λbl GD c9=>?_⟩;replace aQ:=c9 _ _ U aQ;replace bm:=c9 _ _ U (b9 _ _ bm);replace cx:=c9 _ _ U (b9 _ _ cx);refine ak.block (ak.seq (ak.region ?_));refine jX ?_;refine aJ.az aQ I I I (Fm.qI true G) ?_;refine aJ.bin (a:=.i .u8 (Int.ofNat G.op)) (b:=.i .u8 (Int.ofNat 1)) (v:=.b (decide (G.op=1))) I I I I (oK I) ?_;refine aJ.nil (ak.iW I (λh=>?_) (λh=>?_))
  ·have eb:G.op=1:=of_decide_eq_true h;refine ak.region ?_;refine aJ.az (v:=.m (some (k+1))) cx I I I I ?_;refine aJ.go I I I I ?_;refine aJ.az aQ I I I (Fm.b3o true G) ?_;refine aJ.go I I I I ?_;refine aJ.az aQ I I I (Fm.Wv true G) ?_;refine aJ.len I I I b3q ?_;refine aJ.go (v:=dr (G.name,G.args.length)) I I I I ?_;refine aJ.Pg (cE:=dr) (k:=(G.name,G.args.length)) b8o bm I I λbZ jC cw eu=>?_;refine aJ.nil ⟨rfl,⟨_,by rw[<-a2];show yU rest _=yU rest (vp G bz);unfold vp;rw[if_pos eb],cw,eu _ _ U cx⟩,⟨U,λi o hi ho=>eu i o (λe=>hi (.inl e)) ho⟩⟩
  ·have eb:¬G.op=1:=of_decide_eq_false h;exact ak.skip ⟨rfl,⟨bz,by rw[<-a2];show yU rest _=yU rest (vp G bz);unfold vp;rw[if_neg eb],bm,cx⟩,.refl⟩
 ·intro τ ⟨bz,a2,bm,cx⟩ yK hd hold;have a2:bz=Ev F:=a2;subst a2;refine⟨rfl,rfl,?_⟩;refine ak.seq (ak.region ?_);refine aJ.az (v:=.m (some (k+1))) cx I I I I ?_;refine aJ.iX I I I (an.2 b8G τ bm) λr bl ⟨v,c,aR,er,dy,dV,fl⟩=>⟨_,aR,?_⟩
  refine aJ.go I I I I ?_;have hn:=fl.1;have gP:=jF (bU:=AO.dead) (fl.2 _ _ hd);refine aJ.nil (ak.ret ⟨rfl,fl.2 _ _ hd,v,c,rfl,er,dy.aS λi o hi ho=>gP.2 i o (by have:=dV i hi;omega) ho,λa e=>by have:=dV a e;omega,by show J.next<=bl.next;omega,λi o ho=>?_⟩);have:=ae.bE ho;exact gP.2 i o U (fl.2 i o (hold i o U (c6 i o ho)))
end
abbrev w0(a b:Nat):Prop:=a &&& b=a
theorem b8H{a b:Nat}:ym a b=0↔w0 a b:=by
 unfold ym;constructor
 ·intro h;have:=congrArg (λx=>x ^^^ (a &&& b)) h;simp only[Nat.xor_assoc,Nat.xor_self,Nat.xor_zero,Nat.zero_xor] at this;exact this.symm
 ·intro h;have h:a &&& b=a:=h;rw[h,Nat.xor_self]
theorem b8I{a b c:Nat}(h1:w0 a c)(h2:w0 b c):w0 (a ||| b) c:=by
 have h1:a &&& c=a:=h1;have h2:b &&& c=b:=h2;show(a ||| b) &&& c=_;rw[Nat.and_or_distrib_right,h1,h2]
theorem Z2{c:Nat}:∀ {l:List Fm} {m:Nat},w0 m c->(∀f∈l,w0 (qR f) c)->w0 (wQ l m) c
 |[],_,h,_=>h
 |f::l,m,h,hl=>by
  show w0 (wQ l (m ||| qR f)) c;exact Z2 (b8I h (hl f aG)) λg hg=>hl g (iM _ hg)
theorem b8J{a b:Nat}(ha:a<2^32)(hb:b<2^32):binop .andNot (.i .u32 (Int.ofNat a)) (.i .u32 (Int.ofNat b))=some (.i .u32 (Int.ofNat (ym a b))):=by
 have h:(BitVec.ofInt IntKind.u32.bits (Int.ofNat a) &&& ~~~ BitVec.ofInt IntKind.u32.bits (Int.ofNat b)).toNat=ym a b:=by
  have e:∀x y:BitVec IntKind.u32.bits,x &&& ~~~ y=x ^^^ (x &&& y):=λx y=>by ext i;simp;cases x[i]<;>cases y[i]<;>rfl
  rw[e,BitVec.toNat_xor,BitVec.toNat_and,ofInt32 a ha,ofInt32 b hb];rfl
 show some (AV.i .u32 (IntKind.wrap .u32 ((BitVec.ofInt IntKind.u32.bits (Int.ofNat a) &&& ~~~ BitVec.ofInt IntKind.u32.bits (Int.ofNat b)).toNat:Int)))=_;rw[h,wrap32 (b3c a b ha)];rfl
structure lu where
 b7:List Nat
 ops:Nat
 kind:Nat
 ad:Nat
 b8K:List AV
 rs:List AV
def lu.cells(o:Bool)(l:lu):List AV:=[.s l.b7,.i .u32 (Int.ofNat l.ops),.i .u8 (Int.ofNat l.kind),.i .u8 (Int.ofNat l.ad),.a_ o (some 6) (cond o l.rs l.b8K)]
def lu.A(o:Bool)(l:lu):AV:=.ah (l.cells o)
end Go.Lyc
end
noncomputable section
namespace Go.Lyc
set_option maxHeartbeats 0
variable [Tok][TokOk]
open Go.RowKit Go.Lyc.T
attribute [local irreducible] ch bR dC ev bH
structure dj where
 b7:List Nat
 cS:List e7
 fz:Fm
abbrev dj.A(r:dj):AV:=.ah (.s r.b7::slA true (some 7) (r.cS.map e7.A)::bA r.fz)
def mX:e7:=⟨[],.mk 0 [] none none,[],false⟩
def ixN(b7:List Nat):List dj->Option Nat
 |[]=>none
 |r::l=>if r.b7=b7 then some 0 else(ixN b7 l).map (· +1)
theorem Pp{b7:List Nat}:∀ {l:List dj} {i:Nat},ixN b7 l=some i->∃h:i<l.length,l[i].b7=b7/\∀j (h':j<l.length),j<i->l[j].b7≠b7
 |[],i,h=>by cases h
 |r::l,i,h=>by
  rw[ixN] at h;split at h
  ·rename_i e;cases h;exact⟨aG,e,λj _ aC=>by omega⟩
  ·rename_i e;cases hx:ixN b7 l with
   |none=>rw[hx] at h;cases h
   |some m=>
    rw[hx] at h;cases h;obtain⟨h1,h2,h3⟩:=Pp hx;refine⟨by simpa using h1,h2,λj aC hlt=>?_⟩;cases j with
    |zero=>exact e
    |succ j=>exact h3 j (by simpa using aC) (by have hlt:j+1<m+1:=hlt;omega)
theorem Z3{b7:List Nat}:∀ {l:List dj},ixN b7 l=none->∀j (h:j<l.length),l[j].b7≠b7
 |[],_,j,h=>by simp at h
 |r::l,hn,j,h=>by
  rw[ixN] at hn;split at hn
  ·cases hn
  ·rename_i e;cases hx:ixN b7 l with
   |some m=>rw[hx] at hn;cases hn
   |none=>
    cases j with
    |zero=>exact e
    |succ j=>exact Z3 hx j (by simpa using h)
theorem tl_vw{J:ae}{aa:Option Nat}{o:Bool}{xs:List AV}(ab:∀y∈xs,conf aa y=true):hU J aa (.a_ o aa xs) xs:=by
 refine⟨λτ=>rfl,λ{j} aC=>?_,λ{j} aC=>?_⟩
 ·cases xs with
  |nil=>simp at aC
  |cons x l=>exact(Ea (J:=J) (o:=o) ab).eG aC
 ·cases xs with
  |nil=>simp at aC
  |cons x l=>exact(Ea (J:=J) (o:=o) ab).az aC
theorem w1(l m:List Nat):binop .eql (.s l) (.s m)=some (.b (decide (l=m))):=by
 show some (AV.b (eqL l m))=_;cases he:eqL l m with
 |true=>rw[decide_eq_true ((ox l m).1 he)]
 |false=>rw[decide_eq_false λh=>by rw[(ox l m).2 h] at he;cases he]
section
variable {b:b5}{K:Nat->List AV->AV->Prop}
theorem b8L(hh:bq (b.aV K) wK IG){q:Nat}{x:bu}{J:ae}(aX:J.get q=some (.cells x.A.cells))(r:dj):
  bH (b.aV K) 0 (.f (.func wK) [] [aT q]) [r.A] J (λv τ=>v= .ok (.b (decide (r.b7=x.fV)))/\ee J τ):=by
 refine W.code hh.e hh.p hh.f I I I I λz=>?_;have H:Has J [(q,x.A.cells)]:=Has.nil.cons aX aG;refine aj ?_;refine W.cM (c:=r.A.cells) H I I I I I I λτ hn H bG=>?_;refine aj ?_;refine W.bin I I I I (w1 _ _) ?_;refine aj ?_;exact ak.ret ⟨rfl,rfl,U,bG⟩
theorem Pq(hh:bq (b.aV K) II Od)(h1:bq (b.aV K) wK IG){q:Nat}{x:bu}{J:ae}(aX:J.get q=some (.cells x.A.cells))(R:List dj)(hR:R.length<2^20):
  bH (b.aV K) 0 (.f (.func II) [] []) [.a_ true (some 6) (R.map dj.A),.f (.func wK) [] [aT q]] J (λv τ=>v= .ok (match ixN x.fV R with|some i=>ai i|none=>.i .i64 (-1))/\ee J τ):=by
 refine W.code hh.e hh.p hh.f I I I I λz=>?_;have H:Has J [(q,x.A.cells)]:=Has.nil.cons aX aG;have av:hU J (some 6) (.a_ true (some 6) (R.map dj.A)) (R.map dj.A):=tl_vw λy hy=>by obtain⟨r,_,rfl⟩:=dx.1 hy;rfl
 have hlen:(R.map dj.A).length=R.length:=b0 _;refine aj ?_;rw[hlen];refine aj ?_;refine ak.each R.length (λj f τ=>(∀i (h:i<R.length),i<j->R[i].b7≠x.fV)/\ee J τ/\sat [(0,.a_ true (some 6) (R.map dj.A)),(1,.f (.func wK) [] [aT q])] f) U ⟨λi _ h=>by omega,⟨br _,λ_ _ h=>h⟩,rfl,rfl,trivial⟩ I I (λj g τ aC a0 hi hm=>?_) (λg τ a0 hi=>?_)
 ·obtain⟨nV,M,cZ,bL,_⟩:=a0;refine ak.norm [(0,.a_ true (some 6) (R.map dj.A)),(1,.f (.func wK) [] [aT q]),(8,ai j),(7,ai R.length)] ⟨cZ,bL,hi,hm,trivial⟩ λg=>?_;have H:=H.aS M.2;have av:hU τ (some 6) (.a_ true (some 6) (R.map dj.A)) (R.map dj.A):=tl_vw λy hy=>by obtain⟨r,_,rfl⟩:=dx.1 hy;rfl
  refine aj ?_;rw[e_];refine W.mT I I I (b8L h1 (M.2 _ _ aX) R[j]) λr bl ⟨e,M2⟩=>⟨_,e,?_⟩
  have e2:ee J bl:=⟨by have:=M.1;have:=M2.1;omega,λi o h=>M2.2 _ _ (M.2 _ _ h)⟩
  by_cases he:R[j].b7=x.fV
  ·rw[decide_eq_true he];refine aj ?_;refine ak.ret ⟨rfl,?_,e2⟩;cases hx:ixN x.fV R with
   |none=>exact absurd he (Z3 hx j aC)
   |some i=>
    obtain⟨h1,h2,h3⟩:=Pp hx;have:i=j:=by
     rcases vY i j with h|h|h
     ·exact absurd h2 (nV i h1 h)
     ·exact h
     ·exact absurd he (h3 j aC h)
    subst this;rfl
  ·rw[decide_eq_false he];refine aj ?_;refine⟨rfl,rfl,λi h hlt=>?_,e2,rfl,rfl,trivial⟩;by_cases g5:i<j
   ·exact nV i h g5
   ·obtain rfl:i=j:=by omega
    exact he
 ·obtain⟨nV,M,_⟩:=a0;refine ak.norm [] trivial λg=>?_;refine aj ?_;refine ak.ret ⟨rfl,?_,M⟩;cases hx:ixN x.fV R with
  |none=>rfl
  |some i=>
   obtain⟨h1,h2,_⟩:=Pp hx;exact absurd h2 (nV i h1 h1)
end
abbrev gZ(gs:List dN):AV:=slA true (some 6) (gs.map dN.A)
abbrev jJ:List Nat:=[97,103,97,105,110]
inductive Pr(K:Nat->List AV->AV->Prop)(L:List bu)(B:List (List Nat))(k:Nat)(x:bu):Nat->Nat->Nat->Prop
 |lv (aQ:citeB L B k [mX] x.cs=false):Pr K L B k x 5 0 0
 |ap (ac:Nat×Nat) (h0:x.cs=[ac]) (aQ:citeB L B k [mX] x.cs=true) (cB:Bool) (bF:K tA [(fj L ac.2).A true,x.f.A true] (.b cB)):Pr K L B k x (cond cB 0 6) (cond cB 0 2) (cond cB 0 1)
inductive Ju(K:Nat->List AV->AV->Prop)(L:List bu)(B N:List (List Nat))(k:Nat)(x:bu)(r:dj):Nat->Nat->Nat->Nat->Prop
 |lv (bF:citeB L B k r.cS x.cs=false):Ju K L B N k x r 5 0 0 0
 |ap (bF:citeB L B k r.cS x.cs=true) (ck eS:AV) (cy cz ax e:Nat) (cw:K oR [r.A,x.f.A true,gZ (gotsL L B N k r.cS x.cs)] (.a9 [.ah [ck,eS],.ah [.i .u8 (Int.ofNat cy),ai cz,ai ax],ai e])):Ju K L B N k x r (if e=0 then 0 else 6) (if e=0 then 0 else cy) (if e=0 then 0 else cz) (if e=0 then 0 else ax)
inductive j2(K:Nat->List AV->AV->Prop)(L:List bu)(B N:List (List Nat))(R:List dj)(k:Nat)(x:bu)(fW:Bool):Nat->Nat->Nat->Nat->Prop
 |form (h:fW=false):j2 K L B N R k x fW 3 0 0 0
 |hyp (h:fW=true) (h2:x.hyp=true):j2 K L B N R k x fW 0 0 0 0
 |fV (h:fW=true) (h2:x.hyp=false) (h3:x.fV≠jJ) (aQ:ixN x.fV R=none):j2 K L B N R k x fW 4 0 0 0
 |again (h:fW=true) (h2:x.hyp=false) (h3:x.fV=jJ) {cD cy cz:Nat} (de:Pr K L B k x cD cy cz):j2 K L B N R k x fW cD cy cz 0
 |step (h:fW=true) (h2:x.hyp=false) (h3:x.fV≠jJ) (i:Nat) (hi:i<R.length) (aQ:ixN x.fV R=some i) {cD cy cz ax:Nat} (cW:Ju K L B N k x R[i] cD cy cz ax):j2 K L B N R k x fW cD cy cz ax
theorem tK{α β:Type}{f:α->Option β}:∀ {l:List α} {r:List β} {m:List α} {s:List β},mapO f l=some r->mapO f m=some s->mapO f (l++m)=some (r++s)
 |[],r,m,s,h,h2=>by cases h;exact h2
 |x::l,r,m,s,h,h2=>by
  rw[mapO_cons] at h;rw[Cg,mapO_cons];cases hx:f x with
  |none=>rw[hx] at h;cases h
  |some y=>
   rw[hx] at h;cases hl:mapO f l with
   |none=>rw[hl] at h;cases h
   |some ba=>
    rw[hl] at h;cases h;rw[tK hl h2];rfl
theorem b8M{P:Nat->Prop}{J:ae}{n:Nat}{v:AV}{g:dN}(h:qY P J v g)(h1:g.fz.dep<=200)(h2:∀F∈g.hyps,F.dep<=200)(h3:∀F∈g.rest,F.dep<=200)(hn:900<=n):bT J n v=some g.A:=by
 obtain⟨av,qD,e,an,iD,al,h8,_⟩:=h.ex;subst e;obtain⟨m,rfl⟩:∃m,n=m+3:=⟨n-3,U⟩
 have b4:∀F:Fm,F.dep<=200->∀m,500<=m->bT J m (.ah (bA F))=some (.ah (bA F)):=λF hd m hm=>by
  have:=Fm.snap J true _ F m (br _) U;rwa[jY] at this
 have ab:∀F:Fm,F.dep<=200->∀m,500<=m->mapO (bT J m) (bA F)=some (bA F):=λF hd m hm=>by
  have:=b4 F hd (m+1) U;obtain⟨fa,a2,bm⟩:=Hw this;cases bm;exact a2
 have gK:∀ {aa:Option Nat} {v:AV} {xs:List AV} {m:Nat},Sl J aa v xs->(xs=[]->v= .af)->(∀y∈xs,bT J m y=some y)->bT J (m+1) v=some (slA true aa xs):=λ{aa v xs m} an hn hy=>by
  have hm:=Bk (f:=bT J m) (g:=λx=>x) hy;rw[D8] at hm;have al:=an.read;cases an with
  |nil=>rfl
  |ao o cap xs rest hg ab ay=>
   rw[snapshot_succ];simp only[al,hm];cases xs with
   |nil=>cases hn rfl
   |cons y l=>rfl
 refine pL ?_;have aR:=gK (m:=m+1) an (λe=>iD (by simpa using e)) (λy hy=>by
  obtain⟨F,Ps,rfl⟩:=dx.1 hy;refine pL ?_;rw[mapO_cons,ab F (h2 F Ps) m U];cases m with
  |zero=>omega
  |succ m=>rfl)
 have a6:=gK (m:=m+1) al (λe=>h8 (by simpa using e)) (λy hy=>by
  obtain⟨F,Ps,rfl⟩:=dx.1 hy;exact b4 F (h3 F Ps) (m+1) U)
 have c0:=ab g.fz h1 (m+2) U;exact tK c0 (by rw[mapO_cons,aR,mapO_cons,a6];rfl)
theorem Sl.Ew{J:ae}{aa:Option Nat}{v:AV}{xs ba:List AV}{m:Nat}(an:Sl J aa v xs)(hn:xs=[]->v= .af)(hm:mapO (bT J m) xs=some ba):bT J (m+1) v=some (slA true aa ba):=by
 have al:=an.read;cases an with
 |nil=>rw[Lj] at hm;cases hm;rfl
 |ao o cap xs rest hg ab ay=>
  rw[snapshot_succ];simp only[al,hm];cases xs with
  |nil=>cases hn rfl
  |cons y l=>
   cases ba with
   |nil=>have:=(ov hm).1;simp at this
   |cons z r=>rfl
theorem W.b8N{cf:lj}{env:Env}{aN:Option Nat}{D:List (Nat ⊕ (AV×List AV))}{n:Nat}{F:List (Nat×AV)}{z:Nat->AV}{J:ae}{Q:ec}{L:List (Nat×List AV)}(H:Has J L){d:Nat}{op:AOp}{v:AV}{g:Option (Nat×Bool)}{ops:List a3}{c:List AV}(hd:Nat.blt d n=true)(hw:wtL g n F=true)(ho:opx 0 (db env n F z) J op=some (.val v (J.push (.cells c))))
  (h:∀τ:ae,τ.next=J.next+1->Has τ ((J.next,c)::L)->(∀i o,J.get i=some o->τ.get i=some o)->ch cf env aN D n ops (bx ((d,v)::F) z) τ Q):ch cf env aN D n (⟨some d,op,g,[]⟩::ops) (bx F z) J Q:=by
 have dk:∀i o,J.get i=some o->(J.push (.cells c)).get i=some o:=λi o ho=>by rw[ae.gw trivial _ (ae.bE ho)];exact ho
 exact W.val hd hw ho (h (J.push (.cells c)) I (H.push I (ae.jP _) dk) dk)
theorem b8O{α:Type}{aa:Option Nat}{o:Bool}{l:List α}{f:α->AV}{j:Nat}(h:j<l.length):idxSlA aa (.a_ o aa (l.map f)) j=some (.dG o (f l[j])):=by
 cases l with
 |nil=>simp at h
 |cons x l=>exact Av (o:=o) (aa:=aa) (f:=f) h
theorem b8P{L:List bu}(h:∀x∈L,x.f.dep<=200)(n:Nat):(fj L n).dep<=200:=by
 unfold fj;rw[fO,kA];cases hx:L[n-1]? with
 |none=>decide
 |some x=>exact h x (hH hx)
theorem Pt{L:List bu}{B N:List (List Nat)}{k:Nat}{p:e7}{ac:Nat×Nat}(h:∀n,(fj L n).dep<=200):(iK L B N k p ac).fz.dep<=200/\(∀F∈(iK L B N k p ac).hyps,F.dep<=200)/\∀F∈(iK L B N k p ac).rest,F.dep<=200:=by
 have hm:∀l:List Nat,∀F∈l.map (fj L),F.dep<=200:=λl F b4=>by obtain⟨n,_,rfl⟩:=dx.1 b4;exact h n
 have h0:j0.fz.dep<=200/\(∀F∈j0.hyps,F.dep<=200)/\∀F∈j0.rest,F.dep<=200:=⟨ca,by simp[j0],by simp[j0]⟩
 unfold iK;cases p.cM with
 |true=>
  cases ih L B k ac.1 ac.2 with
  |true=>exact⟨h _,hm _,hm _⟩
  |false=>exact h0
 |false=>
  cases ns B k ac.1 ac.2 with
  |true=>exact⟨h _,aG,hm _⟩
  |false=>exact h0
structure Pu(b:b5)(K:Nat->List AV->AV->Prop):Prop where
 bad:bq (b.aV K) N_ YW
 Pv:bq (b.aV K) wK IG
 Pw:bq (b.aV K) II Od
 fW:b.ext oQ=0/\b.pure oQ=true
 Px:b.ext tA=0/\b.pure tA=true
 app:b.ext oR=0/\b.pure oR=true
section
variable {b:b5}{K:Nat->List AV->AV->Prop}(hfn:∀g aY r cc,K g aY r->K g aY cc->r=cc)
include hfn
theorem Z4(hf:mR b K)(au:En b K)(hb:Pu b K){p k:Nat}{L:List bu}{B N:List (List Nat)}{J:ae}(fg:mQ J p L B N)(cp:Jn b L B N)(Ja:1<=k)(ay:k<=L.length){l:lu}{R:List dj}(hR:l.rs=R.map dj.A)(Br:R.length<2^20)(Jv:∀r∈R,r.cS.length<2^20/\∀J,bT J (b.bt+1000) r.A=some r.A)(tL:∀J,bT J (b.bt+1000) (l.A true)=some (l.A true))
  {x:bu} (hx:L[k-1]? =some x) (ab:sa k x.cs) {fW:Bool} (hA:K oQ [l.A true,x.f.A true] (.b fW)) {cD cy cz ax:Nat} (b3:j2 K L B N R k x fW cD cy cz ax):
  bH (b.aV K) 0 (.f (.func N_) [] []) [aT p,l.A true,ai k] J (λr τ=>r= .ok (.a9 [.i .u8 (Int.ofNat cD),.ah [.i .u8 (Int.ofNat cy),ai cz,ai ax]])/\ee J τ):=by
 refine W.oa hb.bad.e hb.bad.p hb.bad.f I I I λz=>?_;obtain⟨cX,fs,bI,e5,h1,_⟩:=fg.ex;have H:Has J [(p,[cC L,cX,fs])]:=Has.nil.cons h1 aG;have hl:=cp.lt;have Jo:L[k-1]'U=x:=(fC.1 hx).2;have b8Q:x∈L:=Jo▸bJ (show k-1<L.length by omega);have Ei:=λJ=>Fm.snap J true _ x.f (b.bt+1000) (br _) (by have:=cp.bs x b8Q;omega);refine aj ?_;generalize aX:J.next=q;refine W.cM (c:=l.cells true) H aX I I I I I λτ c_ H bG=>?_;refine aj ?_;refine W.cB (c:=[.i .u8 0,ai 0,ai 0]) H c_ I I I λbl ei H bw=>?_;refine aj ?_;rw[Jo];refine W.lk (c:=x.A.cells) H ei I I I I I I λbZ fc H bg=>?_;refine aj ?_;refine W.ga (r:=.b fW) hfn hb.fW hA I I I ?_ ?_
 ·exact pJ (tL _) (by have:=Ei bZ;rw[jY] at this ⊢;exact this)
 have Ex:ee J bZ:=⟨U,λi o h=>bg _ _ (bw _ _ (bG _ _ h))⟩
 cases b3 with
 |form h=>
  subst h;refine aj ?_;refine W.st H 1 I I I I I I λcG fF H b9=>?_;refine aj ?_;exact ak.ret ⟨rfl,_,kk (lp I) (gW I (H.get _ (.tail _ (.head _))) I),rfl,U,λi o h=>b9 _ _ (by have:=ae.bE h;omega) (Ex.2 _ _ h)⟩
 |hyp h h2=>
  subst h;refine aj ?_;rw[h2];refine aj ?_;refine W.st H 1 I I I I I I λcG fF H b9=>?_;refine aj ?_;exact ak.ret ⟨rfl,_,kk (lp I) (gW I (H.get _ (.tail _ (.head _))) I),rfl,U,λi o h=>b9 _ _ (by have:=ae.bE h;omega) (Ex.2 _ _ h)⟩
 |fV h h2 h3 aQ=>
  subst h;refine aj ?_;rw[h2];refine aj ?_;rw[hR];refine W.aq trivial I I I (Pq hb.Pw hb.Pv (H.get _ (.head _)) R Br) λr cG ⟨e,fi⟩=>⟨_,e,?_⟩
  have H:=H.aS fi.2;rw[aQ];refine aj ?_;refine W.cB (c:=[.s [],.af,.i .u8 0,.s [],.af,.af]) H I I I I λdq iU H c9=>?_;refine aj ?_;refine W.bin (v:=.b false) I I I I ((w1 _ _).trans (by rw[decide_eq_false h3])) ?_;refine aj ?_;refine W.bin (v:=.b true) I I I I I ?_;refine aj ?_;refine W.st H 2 I I I I I I λeA jC H eu=>?_;refine aj ?_;exact ak.ret ⟨rfl,_,kk (lp I) (gW I (H.get _ (.tail _ (.tail _ (.head _)))) I),rfl,by have:=fi.1;omega,λi o h=>eu _ _ (by have:=ae.bE h;omega) (c9 _ _ (fi.2 _ _ (Ex.2 _ _ h)))⟩
 |again h h2 h3 de=>
  subst h;refine aj ?_;rw[h2];refine aj ?_;rw[hR];refine W.aq trivial I I I (Pq hb.Pw hb.Pv (H.get _ (.head _)) R Br) λr cG ⟨e,fi⟩=>⟨_,e,?_⟩
  have O1:=fi.1;have H:=H.aS fi.2;refine aj ?_;refine W.cB (c:=[.s [],.af,.i .u8 0,.s [],.af,.af]) H I I I I λdq iU H c9=>?_;refine aj ?_;refine W.bin (v:=.b true) I I I I ((w1 _ _).trans (by rw[decide_eq_true h3])) ?_;refine aj ?_;refine W.b8N (v:=.ao dq.next 0 1 (some 7) (some 1)) (c:=mX.cells) H I I I λeA jC H eu=>?_;refine aj ?_;refine W.st (bX:=[.s [],.ao dq.next 0 1 (some 7) (some 1),.i .u8 0,.s [],.af,.af]) H 1 I I I I I I λe6 l_ H gX=>?_;have c6:∀i o,J.get i=some o->e6.get i=some o:=λi o h=>gX _ _ (by have:=ae.bE h;omega) (eu _ _ (c9 _ _ (fi.2 _ _ (Ex.2 _ _ h))));refine aj ?_;have hV:Sl e6 (some 7) (.ao dq.next 0 1 (some 7) (some 1)) ([mX].map e7.A):=.ao dq.next (some 1) [mX.A] [] (H.get _ (.head _)) (λy hy=>by rw[cu.1 hy];rfl) (.inr I);refine W.aq trivial I I I (ZK hf au (fg.aS c6) cp Ja ay (aE:=[mX]) (λτ dk=>(hV.aS λi o _=>dk i o).vw) (by show 1<_;omega) hx ab) λr fI ⟨v,e,hg,i_⟩=>⟨_,e,?_⟩
  have Jk:=i_.1;have H:=H.aS i_.2;have Bs:∀i o,J.get i=some o->fI.get i=some o:=λi o h=>i_.2 _ _ (c6 _ _ h);cases de with
  |lv aQ=>
   rw[aQ];refine aj ?_;refine W.st H 3 I I I I I I λj1 qC H kf=>?_;refine aj ?_;exact ak.ret ⟨rfl,_,kk (lp I) (gW I (H.get _ (.tail _ (.tail _ (.tail _ (.head _))))) I),rfl,U,λi o h=>kf _ _ (by have:=ae.bE h;omega) (Bs _ _ h)⟩
  |ap ac h0 aQ cB bF=>
   obtain⟨eB,an,sg,ld,uC⟩:=hg aQ;have dW:=ab.2 ac (by rw[h0];simp);have wm:qY (λ_=>True) fI (eB[0]'(by rw[ld];exact Nat.one_pos)) ⟨fj L ac.2,[],(N.getD (ac.2-1) []).map (fj L)⟩:=by
    have h:=uC 0 (by rw[ld];exact Nat.one_pos) Nat.one_pos (by rw[h0];exact Nat.one_pos);have e:iK L B N k [mX][0] (x.cs[0]'(by rw[h0];exact Nat.one_pos))=⟨fj L ac.2,[],(N.getD (ac.2-1) []).map (fj L)⟩:=by
     have h9:x.cs[0]'(by rw[h0];exact Nat.one_pos)=ac:=by simp only[h0];rfl
     have av:ns B k ac.1 ac.2=true:=by rw[h0,citeB,du] at aQ;exact aQ.1
     rw[h9];show cond (ns B k ac.1 ac.2) _ _=_;rw[av];rfl
    rw[e] at h;exact h
   obtain⟨nJ,Jp,O_⟩:=ZI wm;obtain⟨o,c,rE,fE,q4,gx,qJ,_⟩:=an.gd (j:=0) (by rw[ld];exact Nat.one_pos);have c7D:=cp.bs _ (bJ (show ac.2-1<L.length by omega));have Ej:=Be (L:=L) (n:=ac.2) U U;rw[aQ];refine aj ?_;refine W.bin (v:=.b true) I I I I ((w1 _ _).trans (by rw[decide_eq_true h3])) ?_;refine aj ?_;refine W.eG I I I I q4 ?_;refine aj ?_;refine W.oU (v:=.ah (bA (fj L ac.2))) gx I I I (by show dU (some 4) (c.drop (0*shN (some 6)))=_;rw[qJ,O_];rfl) ?_;refine aj ?_;refine W.ga (r:=.b cB) hfn hb.Px bF I I I ?_ ?_
   ·refine pJ ?_ (by have:=Ei fI;rw[jY] at this ⊢;exact this);have:=Fm.snap fI true _ (fj L ac.2) (b.bt+1000) (br _) (by rw[Ej];omega);rw[jY] at this ⊢;exact this
   cases cB with
   |true=>
    refine aj ?_;refine W.st H 3 I I I I I I λj1 qC H kf=>?_;refine aj ?_;exact ak.ret ⟨rfl,_,kk (lp I) (gW I (H.get _ (.tail _ (.tail _ (.tail _ (.head _))))) I),rfl,U,λi o h=>kf _ _ (by have:=ae.bE h;omega) (Bs _ _ h)⟩
   |false=>
    refine aj ?_;refine W.st H 3 I I I I I I λj1 qC H kf=>?_;refine aj ?_;exact ak.ret ⟨rfl,_,kk (lp I) (gW I (H.get _ (.tail _ (.tail _ (.tail _ (.head _))))) I),rfl,U,λi o h=>kf _ _ (by have:=ae.bE h;omega) (Bs _ _ h)⟩
 |step h h2 h3 i hi aQ cW=>
  subst h;refine aj ?_;rw[h2];refine aj ?_;rw[hR];refine W.aq trivial I I I (Pq hb.Pw hb.Pv (H.get _ (.head _)) R Br) λr cG ⟨e,fi⟩=>⟨_,e,?_⟩
  have O1:=fi.1;have H:=H.aS fi.2;rw[aQ];refine aj ?_;refine W.cB (c:=[.s [],.af,.i .u8 0,.s [],.af,.af]) H I I I I λdq iU H c9=>?_;refine aj ?_;refine W.bin (v:=.b false) I I I I ((w1 _ _).trans (by rw[decide_eq_false h3])) ?_;refine aj ?_;rw[hR];refine W.eG I I I I (b8O hi) ?_;refine aj ?_;refine W.st (bX:=(R[i]).A.cells) H 0 I I I I I I λeA jC H eu=>?_;have c6:∀i o,J.get i=some o->eA.get i=some o:=λi o h=>eu _ _ (by have:=ae.bE h;omega) (c9 _ _ (fi.2 _ _ (Ex.2 _ _ h)));obtain⟨kM,uL⟩:=Jv _ (bJ hi);generalize R[i]=r at *;refine aj ?_;refine W.aq trivial I I I (ZK hf au (fg.aS c6) cp Ja ay (aE:=r.cS) (V:=slA true (some 7) (r.cS.map e7.A)) (λτ _=>Ea λy hy=>by obtain⟨_,_,rfl⟩:=dx.1 hy;rfl) kM hx ab) λv fI ⟨w,e,hg,i_⟩=>⟨_,e,?_⟩
  have Jk:=i_.1;have H:=H.aS i_.2;have Bs:∀i o,J.get i=some o->fI.get i=some o:=λi o h=>i_.2 _ _ (c6 _ _ h);cases cW with
  |lv bF=>
   rw[bF];refine aj ?_;refine W.st H 2 I I I I I I λj1 qC H kf=>?_;refine aj ?_;exact ak.ret ⟨rfl,_,kk (lp I) (gW I (H.get _ (.tail _ (.tail _ (.head _)))) I),rfl,U,λi o h=>kf _ _ (by have:=ae.bE h;omega) (Bs _ _ h)⟩
  |ap bF ck eS cy cz ax e cw=>
   obtain⟨eB,an,sg,ld,uC⟩:=hg bF;rw[bF];refine aj ?_;refine W.bin (v:=.b false) I I I I ((w1 _ _).trans (by rw[decide_eq_false h3])) ?_;refine aj ?_;refine W.ga hfn hb.app cw I I I ?_ ?_
   ·refine DC (uL _) (by have:=Ei fI;rw[jY] at this ⊢;exact this) ?_;have gq:=Jm bF;have b8R:=ZF (L:=L) (B:=B) (N:=N) (k:=k) gq;refine Sl.Ew (m:=b.bt+999) an sg (Bl (by rw[b0,ld,b8R]) λj h1 h2=>?_);rw[b0] at h2;have aC:=uC j h1 U U;rw[e_,ZG U U];have qZ:=b8P cp.bs;refine b8M aC ?_ ?_ ?_ U
    ·exact(Pt qZ).1
    ·exact(Pt qZ).2.1
    ·exact(Pt qZ).2.2
   refine aj ?_;refine W.cB H I I I I λj1 qC H kf=>?_;refine aj ?_;refine W.cB H I I I I λg7 q1 H cE=>?_;refine aj ?_;refine W.st H 1 I I I I I I λja po H iJ=>?_;refine aj ?_;refine W.st H 0 I I I I I I λlq s0 H nN=>?_;have Z5:∀i o,J.get i=some o->lq.get i=some o:=λi o h=>nN _ _ (by have:=ae.bE h;omega) (iJ _ _ (by have:=ae.bE h;omega) (cE _ _ (kf _ _ (Bs _ _ h))));by_cases he:e=0
   ·subst he;refine aj ?_;refine W.st H 4 I I I I I I λsh dQ H cD=>?_;refine aj ?_;exact ak.ret ⟨rfl,_,kk (lp I) (gW I (H.get _ (.tail _ (.tail _ (.tail _ (.tail _ (.head _)))))) I),rfl,U,λi o h=>cD _ _ (by have:=ae.bE h;omega) (Z5 _ _ h)⟩
   ·rw[if_neg he,if_neg he,if_neg he,if_neg he];refine aj ?_;refine W.st H 4 I I I I I I λsh dQ H cD=>?_;refine aj ?_;exact ak.ret ⟨rfl,_,kk (lp I) (gW I (H.get _ (.tail _ (.tail _ (.tail _ (.tail _ (.head _)))))) I),rfl,U,λi o h=>cD _ _ (by have:=ae.bE h;omega) (Z5 _ _ h)⟩
end
theorem Z6{α:Type}{l:List (List α)}{i:Nat}{x:α}(h:x∈l.getD i []):∃y∈l,x∈y:=by
 rw[fO] at h;cases hl:l[i]? with
 |none=>rw[hl] at h;simp at h
 |some y=>rw[hl] at h;exact⟨y,hH hl,h⟩
theorem b8S{L:List bu}{B N:List (List Nat)}{k n:Nat}(ed:∀l∈N,∀n∈l,1<=n)(ay:1<=k)(h:n∈needL L B N k):1<=n:=by
 unfold needL at h;split at h
 ·rename_i x _;cases hx:x.hyp with
  |true=>rw[hx,cond_true] at h;simp at h;omega
  |false=>
   rw[hx,cond_false] at h;have an:=(nP.1 h).2;unfold n_ at an;obtain⟨ac,_,hm⟩:=Md.1 an;have hm:=of_decide_eq_true hm;unfold qV at hm;have:∃y∈N,n∈y:=by
    cases hb:ih L B k ac.1 ac.2 with
    |true=>rw[hb,cond_true] at hm;exact Z6 (nP.1 hm).1
    |false=>rw[hb,cond_false] at hm;exact Z6 hm
   obtain⟨y,hy,b8T⟩:=this;exact ed y hy n b8T
 ·simp at h
theorem Ey{L:List bu}:∀ {j:Nat},∀l∈ndsL L j,∀n∈l,1<=n
 |0,l,h=>by simp[ndsL] at h
 |j+1,l,h=>by
  rw[ndsL] at h;rcases eP.1 h with h|h
  ·exact Ey l h
  ·rw[cu.1 h];exact λn hn=>b8S Ey U hn
section
variable {b:b5}{K:Nat->List AV->AV->Prop}(hfn:∀g aY r cc,K g aY r->K g aY cc->r=cc)
theorem wW.ok{L:List bu}(h:wW b K L)(hd:∀x∈L,x.f.dep<=200):Jn b L (c3 L) (ndsL L L.length) where
 mV:=h.mV
 nl:=Jh L _
 iE:=λl hl=>⟨by have:=(yP hl).1;have:=h.le;omega,λn hn=>⟨Ey l hl n hn,(yP hl).2 n hn⟩⟩
 kF:=h.kF
 bs:=hd
 op:=λx hx=>by have:=h.ix.num x hx;omega
 lt:=by have:=h.le;omega
structure Z7(K:Nat->List AV->AV->Prop)(l:lu)(R:List dj)(L:List bu)(r cD cy cz ax:Nat):Prop where
 le:r<=L.length
 ok:∀k x,1<=k->(r=0\/k<r)->L[k-1]? =some x->∃fW,K oQ [l.A true,x.f.A true] (.b fW)/\j2 K L (c3 L) (ndsL L L.length) R k x fW 0 0 0 0
 no:r≠0->cD≠0/\cD<256/\∀x,L[r-1]? =some x->∃fW,K oQ [l.A true,x.f.A true] (.b fW)/\j2 K L (c3 L) (ndsL L L.length) R r x fW cD cy cz ax
include hfn
theorem b8U(hf:mR b K)(ho:O2 b K)(au:En b K)(hb:Pu b K){L:List bu}(de:wW b K L)(hd:∀x∈L,x.f.dep<=200){l:lu}{R:List dj}(hR:l.rs=R.map dj.A)(Br:R.length<2^20)(Jv:∀r∈R,r.cS.length<2^20/\∀J,bT J (b.bt+1000) r.A=some r.A)(tL:∀J,bT J (b.bt+1000) (l.A true)=some (l.A true))(Py:b.ext n6=0/\b.pure n6=true)(hL:K n6 [l.A true] (.b true))
  {r cD cy cz ax:Nat} (oW:Z7 K l R L r cD cy cz ax) {aA e iy hM hN dX:Nat} (dh:if r=0 then(if ig L L.length=0 then(aA=0/\iy=0/\hM=0/\hN=0/\dX=0/\e=0) else(aA=L.length/\iy=7/\hM=0/\hN=0/\dX=0/\e=180)) else(aA=r/\iy=cD/\hM=cy/\hN=cz/\dX=ax/\e=180)) (body:bO) (x8:Iv.body=some body):
  ak (b.aV K) Iv.ntmps body (gO [l.A true,cC L]) ⟨.nil,0⟩ (Jg Iv.results (.a9 [.ah [ai aA,.i .u8 (Int.ofNat iy),.i .u8 (Int.ofNat hM),ai hN,ai dX],ai e])):=by
 cases x8;refine W.args λz=>?_;have H:Has (⟨.nil,0⟩:ae) []:=Has.nil;have a5:=de.ne;have hle:=de.le;refine aj ?_;refine W.cM (c:=l.cells true) H I I I I I I λτ c_ H bG=>?_;refine aj ?_;refine W.cB (c:=[ai 0,.i .u8 0,.i .u8 0,ai 0,ai 0]) H c_ I I I λbl ei H bw=>?_;refine aj ?_;refine W.ga hfn Py hL I I I (qH (tL _)) ?_;refine aj ?_;refine W.aq trivial I I I (Zv hfn hf ho.op ho.aY ho.Zy de.ix de.ne de.le de.kF ho.gu de.Bm de.mV de.Bn) λv bZ ⟨p,ar,cp,_,M⟩=>⟨_,ar,?_⟩
 have H:=H.aS M.2;have td:=M.1;refine aj ?_;show bR _ _ _ _ _ _ _ _;have Pz:=de.ok hd;have h2:bZ.get 0=some (.cells (l.cells true)):=H.get _ (.tail _ (.head _));have h3:bZ.get 1=some (.cells [ai 0,.i .u8 0,.i .u8 0,ai 0,ai 0]):=H.get _ (.head _);clear H;refine ak.block ?_;refine ak.loop (λm f τ=>∃k,k+m=L.length+1/\1<=k/\(r=0\/k<=r)/\(∀i o,bZ.get i=some o->τ.get i=some o)/\sat [(1,cC L),(2,aT 0),(4,aT 1),(6,aT p),(8,ai k)] f) ?_ L.length ⟨1,U,U,U,λ_ _ h=>h,rfl,rfl,rfl,rfl,rfl,trivial⟩;rintro m f cG ⟨k,Mj,gJ,Zs,dk,an⟩;refine ak.norm _ an λz=>?_;clear an;have H:Has cG [(1,[ai 0,.i .u8 0,.i .u8 0,ai 0,ai 0]),(0,l.cells true)]:=(Has.nil.cons (dk _ _ h2) aG).cons (dk _ _ h3) aG;have fg:=(cp.aS λi c h=>dk i _ h).Bi;by_cases hn:k<=L.length
 ·obtain⟨m,rfl⟩:∃k,m=k+1:=⟨m-1,U⟩
  have hx:L[k-1]? =some L[k-1]:=cK U;refine aj ?_;by_cases aX:k=r
  ·subst aX;obtain⟨Ed,c7E,vq⟩:=oW.no U;obtain⟨fW,hA,b3⟩:=vq _ hx;rw[if_neg U] at dh;obtain⟨rfl,rfl,rfl,rfl,rfl,rfl⟩:=dh;refine W.aq trivial I I I (Z4 hfn hf au hb fg Pz gJ hn hR Br Jv tL hx (de.Bn _ _ hx gJ) hA b3) λv dq ⟨ar,kH⟩=>⟨_,ar,?_⟩
   have Jj:=kH.1;have H:=H.aS kH.2;refine aj ?_;refine W.cB H I I I I λeA jC H eu=>?_;refine aj ?_;refine W.st H 0 I I I I I I λe6 l_ H gX=>?_;refine aj ?_;refine W.st H 1 I I I I I I λfI tb H nu=>?_;refine aj ?_;refine ak.ret ?_;exact⟨rfl,_,kk (gW I (H.get _ (.tail _ (.head _))) I) (lp I),rfl⟩
  ·obtain⟨fW,hA,b3⟩:=oW.ok k _ gJ U hx;refine W.aq trivial I I I (Z4 hfn hf au hb fg Pz gJ hn hR Br Jv tL hx (de.Bn _ _ hx gJ) hA b3) λv dq ⟨ar,kH⟩=>⟨_,ar,?_⟩
   have Jj:=kH.1;have H:=H.aS kH.2;refine aj ?_;refine W.cB H I I I I λeA jC H eu=>?_;refine aj ?_;refine W.st H 0 I I I I I I λe6 l_ H gX=>?_;refine aj ?_;exact⟨m,U,k+1,U,U,U,λi o h=>gX _ _ (by have:=ae.bE (kH.2 _ _ (dk _ _ h));omega) (eu _ _ (kH.2 _ _ (dk _ _ h))),rfl,rfl,rfl,rfl,rfl,trivial⟩
 ·obtain rfl:m=0:=by omega
  have oC:r=0:=by have:=oW.le;omega
  rw[if_pos oC] at dh;have qZ:=Eb (L:=L) (k:=L.length) a5 (br _);have C5:=Pz.mV.bs _ (bJ (show L.length-1<L.length by omega));refine aj ?_;refine ak.exit ?_;show bR _ _ _ _ _ _ _ _;refine ak.norm [(1,cC L),(4,aT 1)] ⟨rfl,rfl,trivial⟩ λg=>?_;refine aj ?_;by_cases h0:ig L L.length=0
  ·rw[if_pos h0] at dh;obtain⟨rfl,rfl,rfl,rfl,rfl,rfl⟩:=dh;refine aj ?_;refine W.st H 0 I I I I I I λfI tb H nu=>?_;refine aj ?_;refine ak.ret ?_;exact⟨rfl,_,kk (gW I (H.get _ (.head _)) I) (lp I),rfl⟩
  ·rw[if_neg h0] at dh;obtain⟨rfl,rfl,rfl,rfl,rfl,rfl⟩:=dh;refine aj ?_;refine W.st H 0 I I I I I I λfI tb H nu=>?_;refine aj ?_;refine ak.ret ?_;exact⟨rfl,_,kk (gW I (H.get _ (.head _)) I) (lp I),rfl⟩
end
def dN.a8(g:dN):List Fm:=g.fz::(g.hyps++g.rest)
def tM(F:Fm)(gs:List dN):List Fm:=F::gs.flatMap dN.a8
def sj(gs:List dN)(j:Nat):Nat:=1+((gs.take j).flatMap dN.a8).length
theorem b8V{F:Fm}{gs:List dN}{j:Nat}(aC:j<gs.length){t:Nat}{x:Fm}(h:(gs[j]).a8[t]? =some x):(tM F gs)[sj gs j+t]? =some x:=by
 have e:gs.flatMap dN.a8=(gs.take j).flatMap dN.a8++((gs[j]).a8++(gs.drop (j+1)).flatMap dN.a8):=by
  rw[<-lC,← IP aC,← D7,xX]
 have ht:=(fC.1 h).1;unfold tM sj;rw[show 1+((gs.take j).flatMap dN.a8).length+t=((gs.take j).flatMap dN.a8).length+t+1 from by omega,FN,e,A5 U,show((gs.take j).flatMap dN.a8).length+t-((gs.take j).flatMap dN.a8).length=t from by omega,kD ht,h]
theorem b8W{gs:List dN}{j:Nat}(aC:j<gs.length):sj gs (j+1)=sj gs j+1+(gs[j]).hyps.length+(gs[j]).rest.length:=by
 unfold sj;rw[mf aC,D7,c4];have:([gs[j]].flatMap dN.a8).length=1+(gs[j]).hyps.length+(gs[j]).rest.length:=by
  simp[dN.a8];omega
 omega
theorem b8X{F:Fm}{gs:List dN}:sj gs gs.length=(tM F gs).length:=by
 unfold sj tM;rw[mO,gp];omega
section
variable {b:b5}{K:Nat->List AV->AV->Prop}
theorem b8Y(hh:bq (b.aV K) IK Oe){F:Fm}{gs:List dN}{J:ae}{q:Nat}(aX:J.next=q):
  bH (b.aV K) 0 (.f (.func IK) [] []) [.ah (bA F),gZ gs] J (λr τ=>r= .ok (.f (.func D6) [] [aT q,aT (q+1)])/\τ.get q=some (.cells (bA F))/\τ.get (q+1)=some (.cells [gZ gs])/\τ.next=q+2/\ee J τ):=by
 refine W.code hh.e hh.p hh.f I I I I λz=>?_;have H:Has J []:=Has.nil;refine aj ?_;refine W.cM (c:=bA F) H aX I I I I I λτ hn H bG=>?_;refine aj ?_;have hg:(gZ gs).cells=[gZ gs]:=by cases gs<;>rfl
 have rM:(gZ gs).val=true:=by cases gs<;>rfl
 refine W.cM (c:=[gZ gs]) H hn I I I rM hg λbl h8 H bw=>?_;refine aj ?_;exact ak.ret ⟨rfl,rfl,H.get _ (.tail _ (.head _)),H.get _ (.head _),U,U,λi o h=>bw _ _ (bG _ _ h)⟩
theorem b8Z(hh:bq (b.aV K) D6 Of){F:Fm}{gs:List dN}{J:ae}{q:Nat}(h1:J.get q=some (.cells (bA F)))(h2:J.get (q+1)=some (.cells [gZ gs]))(kj:Nat->Prop)(yO:¬kj q/\¬kj (q+1))(ld:gs.length<2^20)(b9a:∀g∈gs,g.hyps.length<2^20/\g.rest.length<2^20):
  Yields (b.aV K) D6 [aT q,aT (q+1)] (tM F gs).length (λi _ _ args=>∃f,(tM F gs)[i]? =some f/\args=[.ah (bA f)]) J kj:=by
 intro g4 mU qW cn hy Zi Ed hlt iI;refine W.pM hh.e hh.p hh.f I I I λz=>?_;have H:Has qW [(q,bA F),(q+1,[gZ gs])]:=(Has.nil.cons (Ed _ _ h2) aG).cons (Ed _ _ h1) aG;have kM:=b8X (F:=F) (gs:=gs);have b9b:sj gs 0=1:=rfl;refine aj ?_;refine W.mT I I I (hy 0 kj qW _ (by show 0<_+1;omega) (br _) ⟨F,rfl,rfl⟩ iI) λr eN ⟨e,Z8,OS,uU⟩=>⟨_,e,?_⟩
 have iD:=uU.next;have H:Has eN [(q,bA F),(q+1,[gZ gs])]:=(Has.nil.cons (uU.aS _ _ yO.2 (H.get _ (.tail _ (.head _)))) aG).cons (uU.aS _ _ yO.1 (H.get _ (.head _))) aG;have b9c:∀c,Z8 c->c<eN.next:=λc ab=>by
  rcases uU.own c ab with h|h
  ·have:=hlt c h;omega
  ·omega
 have rM:hU eN (some 6) (gZ gs) (gs.map dN.A):=Ea λy hy=>by obtain⟨g,_,rfl⟩:=dx.1 hy;rfl
 refine aj ?_;show bR _ _ _ _ _ _ _ _;have step:∀(i:Nat) (V:Nat->Prop) (τ:ae) (f:Fm),(tM F gs)[i]? =some f->qW.next<=τ.next->mU i V τ->bH (b.aV K) 0 g4 [.ah (bA f)] τ (λr bl=>r= .ok (.b true)/\∃W',mU (i+1) W' bl/\sd V W' τ bl):=λi V τ f hf hn iI=>hy i V τ _ (fC.1 hf).1 hn ⟨f,hf,rfl⟩ iI;refine ak.each gs.length (λj f τ=>∃V,mU (sj gs j) V τ/\qW.next<=τ.next/\(∀c,V c->c<τ.next)/\sat [(0,g4),(14,gZ gs)] f) U ⟨Z8,by rw[b9b];exact OS,iD,b9c,rfl,rfl,trivial⟩ I I (λj g τ aC a0 hi hm=>?_) (λg τ a0 hi=>?_)
 ·obtain⟨V,iI,hn,hV,cZ,lW,_⟩:=a0;refine ak.norm [(0,g4),(14,gZ gs),(16,ai j),(15,ai gs.length)] ⟨cZ,lW,hi,hm,trivial⟩ λg=>?_;have H:Has τ []:=Has.nil;have rM:hU τ (some 6) (gZ gs) (gs.map dN.A):=Ea λy hy=>by obtain⟨g,_,rfl⟩:=dx.1 hy;rfl
  refine aj ?_;have c7F:=b9a _ (bJ aC);have ef:=λt x h=>b8V (F:=F) aC (t:=t) (x:=x) h;have jH:=b8W aC;generalize gs[j]=gt at *;refine W.lk (c:=gt.A.cells) H I I I I I I I λbl ei H bw=>?_;have OT:=cn _ _ _ bl iI (λc o _=>bw c o) U;have CF:¬V τ.next:=λh=>by have:=hV _ h;omega
  generalize PA:τ.next=l0 at *;refine aj ?_;refine W.mT I I I (step _ V bl gt.fz (ef 0 _ I) U OT) λr bZ ⟨e,PB,b9d,tD⟩=>⟨_,e,?_⟩
  have fc:=tD.next;have s3:¬PB l0:=λh=>by
   rcases tD.own _ h with h|h
   ·exact CF h
   ·omega
  have Z9:∀c,PB c->c<bZ.next:=λc ab=>by
   rcases tD.own c ab with h|h
   ·have:=hV c h;omega
   ·omega
  have H:Has bZ [(l0,gt.A.cells)]:=Has.nil.cons (tD.aS _ _ CF (H.get _ (.head _))) aG;refine aj ?_;show bR _ _ _ _ _ _ _ _;refine ak.each gt.hyps.length (λi f τ=>∃V,mU (sj gs j+1+i) V τ/\τ.get l0=some (.cells gt.A.cells)/\¬V l0/\l0<τ.next/\qW.next<=τ.next/\(∀c,V c->c<τ.next)/\sat [(0,g4),(5,aT l0),(14,gZ gs),(15,ai gs.length),(16,ai j),(26,slA true (some 5) (gt.hyps.map sf))] f) U ⟨PB,b9d,H.get _ (.head _),s3,U,U,Z9,rfl,rfl,rfl,rfl,rfl,rfl,trivial⟩ I I (λi g τ g5 a0 hi hm=>?_) (λg τ a0 hi=>?_)
  ·obtain⟨V,iI,yV,PC,m9,hn,hV,cZ,dB,lW,sk,sl,b9e,_⟩:=a0;refine ak.norm [(0,g4),(5,aT l0),(14,gZ gs),(15,ai gs.length),(16,ai j),(26,slA true (some 5) (gt.hyps.map sf)),(28,ai i),(27,ai gt.hyps.length)] ⟨cZ,dB,lW,sk,sl,b9e,hi,hm,trivial⟩ λg=>?_;have H:Has τ []:=Has.nil;refine aj ?_;refine W.lk (c:=.b true::bA gt.hyps[i]) H I I I I I I I λcG fF H b9=>?_;have PD:=cn _ _ _ cG iI (λc o _=>b9 c o) U;refine aj ?_;refine W.mT I I I (step _ V cG gt.hyps[i] (by rw[vG];exact ef (1+i) _ (by rw[uf];exact(kD g5).trans (cK g5))) U PD) λr dq ⟨e,PE,PG,yW⟩=>⟨_,e,?_⟩
   have iU:=yW.next;refine aj ?_;refine⟨rfl,rfl,PE,PG,yW.aS _ _ PC (b9 _ _ yV),λh=>?_,U,U,λc ab=>?_,rfl,rfl,rfl,rfl,rfl,rfl,trivial⟩
   ·rcases yW.own _ h with h|h
    ·exact PC h
    ·omega
   ·rcases yW.own c ab with h|h
    ·have:=hV c h;omega
    ·omega
  ·obtain⟨V,iI,yV,PC,m9,hn,hV,cZ,dB,lW,sk,sl,_⟩:=a0;show bR _ _ _ _ _ _ _ _;refine ak.norm [(0,g4),(5,aT l0),(14,gZ gs),(15,ai gs.length),(16,ai j)] ⟨cZ,dB,lW,sk,sl,trivial⟩ λg=>?_;have H:Has τ [(l0,gt.A.cells)]:=Has.nil.cons yV aG;refine aj ?_;refine ak.each gt.rest.length (λi f τ=>∃V,mU (sj gs j+1+gt.hyps.length+i) V τ/\qW.next<=τ.next/\(∀c,V c->c<τ.next)/\sat [(0,g4),(14,gZ gs),(15,ai gs.length),(16,ai j),(43,slA true (some 4) (gt.rest.map λF=>.ah (bA F)))] f) U ⟨V,iI,hn,hV,rfl,rfl,rfl,rfl,rfl,trivial⟩ I I (λi g τ g5 a0 hi hm=>?_) (λg τ a0 hi=>?_)
   ·obtain⟨V,iI,hn,hV,cZ,lW,sk,sl,b9f,_⟩:=a0;refine ak.norm [(0,g4),(14,gZ gs),(15,ai gs.length),(16,ai j),(43,slA true (some 4) (gt.rest.map λF=>.ah (bA F))),(45,ai i),(44,ai gt.rest.length)] ⟨cZ,lW,sk,sl,b9f,hi,hm,trivial⟩ λg=>?_;have H:Has τ []:=Has.nil;refine aj ?_;refine W.lk (c:=bA gt.rest[i]) H I I I I I I I λcG fF H b9=>?_;have PD:=cn _ _ _ cG iI (λc o _=>b9 c o) U;refine aj ?_;refine W.mT I I I (step _ V cG gt.rest[i] (by rw[vG,vG];exact ef (1+(gt.hyps.length+i)) _ (by rw[uf];exact(A5 (FV _ _)).trans (by rw[SR];exact cK g5))) U PD) λr dq ⟨e,PE,PG,yW⟩=>⟨_,e,?_⟩
    have iU:=yW.next;refine aj ?_;refine⟨rfl,rfl,PE,PG,U,λc ab=>?_,rfl,rfl,rfl,rfl,rfl,trivial⟩;rcases yW.own c ab with h|h
    ·have:=hV c h;omega
    ·omega
   ·obtain⟨V,iI,hn,hV,cZ,lW,sk,sl,_⟩:=a0;exact⟨sl,sk,V,by rw[jH];exact iI,hn,hV,cZ,lW,trivial⟩
 ·obtain⟨V,iI,_⟩:=a0;exact⟨.inr I,rfl,V,by rw[<-kM];exact iI⟩
end
abbrev lx(r:dj)(F:Fm)(gs:List dN)(ck eS:AV):List AV:=r.A.cells++(bA F++[gZ gs,ck,eS])
abbrev q5(a b c:Nat):AV:=.ah [.i .u8 (Int.ofNat a),ai b,ai c]
structure Ez(r:dj)(gs:List dN):Prop where
 len:gs.length=r.cS.length
 lt:gs.length<2^20
 hy:∀i (h:i<gs.length) (h':i<r.cS.length),(gs[i]).hyps.length=(r.cS[i]).hyps.length
 hl:∀g∈gs,g.hyps.length<2^20/\g.rest.length<2^20
section
variable {b:b5}{K:Nat->List AV->AV->Prop}
theorem b9g(hh:bq (b.aV K) wL Og){r:dj}{F:Fm}{gs:List dN}{ck eS:AV}{J:ae}{aE:Nat}(an:J.get aE=some (.cells (lx r F gs ck eS)))(ab:Ez r gs):
  bH (b.aV K) 0 (.f (.func wL) [aT aE] []) [] J (λv τ=>v= .ok (q5 0 0 0)/\ee J τ):=by
 refine W.oa hh.e hh.p hh.f I I I λz=>?_;have H:Has J [(aE,lx r F gs ck eS)]:=Has.nil.cons an aG;have hlen:=ab.len;have hlt:=ab.lt;refine aj ?_;refine W.cB (c:=[.i .u8 0,ai 0,ai 0]) H I I I I λτ c_ H bG=>?_;refine aj ?_;show bR _ _ _ _ _ _ _ _;refine ak.each r.cS.length (λj f aM=>ee τ aM/\sat [(0,aT aE),(2,aT J.next),(22,slA true (some 7) (r.cS.map e7.A))] f) U ⟨⟨br _,λ_ _ h=>h⟩,rfl,rfl,rfl,trivial⟩ I I (λj g aM aC a0 hi hm=>?_) (λg aM a0 hi=>?_)
 ·obtain⟨M,cZ,bQ,b9h,_⟩:=a0;refine ak.norm [(0,aT aE),(2,aT J.next),(22,slA true (some 7) (r.cS.map e7.A)),(24,ai j),(23,ai r.cS.length)] ⟨cZ,bQ,b9h,hi,hm,trivial⟩ λg=>?_;have H:=H.aS M.2;have hy:=ab.hy j U aC;have hl:=(ab.hl _ (bJ (show j<gs.length by omega))).1;refine aj ?_;refine W.cB H I I I I λbl ei H bw=>?_;refine aj ?_;refine W.st (bX:=(r.cS[j]).cells) H 0 I I I I I I λbZ fc H bg=>?_;refine aj ?_;refine⟨rfl,rfl,⟨by have:=M.1;omega,λi o h=>bg _ _ (by have:=ae.bE (M.2 _ _ h);omega) (bw _ _ (M.2 _ _ h))⟩,rfl,rfl,rfl,trivial⟩
 ·obtain⟨M,cZ,bQ,_⟩:=a0;refine ak.norm [(2,aT J.next)] ⟨bQ,trivial⟩ λg=>?_;have H:Has aM [(J.next,[.i .u8 0,ai 0,ai 0])]:=Has.nil.cons (M.2 _ _ (H.get _ (.head _))) aG;refine aj ?_;refine W.st H 0 I I I I I I λbZ fc H bg=>?_;refine aj ?_;exact ak.ret ⟨rfl,_,vl (gW I (H.get _ (.head _)) I),rfl,by have:=M.1;omega,λi o h=>bg _ _ (by have:=ae.bE h;omega) (M.2 _ _ (bG _ _ h))⟩
abbrev jo(p:Fm×Fm):AV:=.ah (bA p.1++bA p.2)
abbrev yX(p:Nat×Nat):AV:=q5 2 p.1 p.2
structure q6(J:ae)(dV fl:Nat)(P:List (Fm×Fm))(Q:List (Nat×Nat))(X:Nat->Prop):Prop where
 ex:∃v w,J.get dV=some (.cells [v])/\J.get fl=some (.cells [w])/\Sl J (some 8) v (P.map jo)/\Sl J (some 3) w (Q.map yX)/\(P=[]->v= .af)/\∀o,(v.at? =some o->¬X o/\o≠dV/\o≠fl)/\(w.at? =some o->¬X o/\o≠dV/\o≠fl/\v.at? ≠some o)
theorem q6.sub{J:ae}{dV fl:Nat}{P:List (Fm×Fm)}{Q:List (Nat×Nat)}{X PH:Nat->Prop}(h:q6 J dV fl P Q X)(hx:∀i,PH i->i<J.next->X i):q6 J dV fl P Q PH:=by
 obtain⟨v,w,cm,c7,av,hw,hn,hl⟩:=h.ex;exact⟨v,w,cm,c7,av,hw,hn,λo=>⟨λe=>⟨λjI=>((hl o).1 e).1 (hx o jI (av.lt e)),((hl o).1 e).2⟩,λe=>⟨λjI=>((hl o).2 e).1 (hx o jI (hw.lt e)),((hl o).2 e).2⟩⟩⟩
theorem q6.aS{J τ:ae}{dV fl:Nat}{P:List (Fm×Fm)}{Q:List (Nat×Nat)}{X:Nat->Prop}(h:q6 J dV fl P Q X)(k:∀i o,J.get i=some o->τ.get i=some o):q6 τ dV fl P Q X:=by
 obtain⟨v,w,cm,c7,av,hw,hn,hl⟩:=h.ex;exact⟨v,w,k _ _ cm,k _ _ c7,av.aS λi o _=>k i o,hw.aS λi o _=>k i o,hn,hl⟩
structure b9i(X:Nat->Prop)(dV fl:Nat)(J τ:ae):Prop where
 next:J.next<=τ.next
 aS:∀i o,X i->i≠dV->i≠fl->J.get i=some o->τ.get i=some o
theorem PI(hh:bq (b.aV K) n7 IL){J:ae}{dV fl:Nat}{X:Nat->Prop}{P:List (Fm×Fm)}{Q:List (Nat×Nat)}(hA:q6 J dV fl P Q X)(c7G:dV≠fl)(jI:∀i,X i->i<J.next)(S F:Fm)(i j:Nat)(fg:P.length<2^30)(b8:Q.length<2^30):
  bH (b.aV K) 0 (.f (.func n7) [] [aT dV,aT fl]) [.ah (bA S),.ah (bA F),ai i,ai j] J (λv τ=>v= .ok (.a9 [])/\q6 τ dV fl (P++[(S,F)]) (Q++[(i,j)]) X/\b9i X dV fl J τ):=by
 refine W.pM hh.e hh.p hh.f I I I λz=>?_;obtain⟨v,w,cm,c7,av,hw,hn,hl⟩:=hA.ex;have b1A:=ae.bE cm;have c7H:=ae.bE c7;have H:Has J [(dV,[v]),(fl,[w])]:=(Has.nil.cons c7 aG).cons cm (by simp;omega);refine aj ?_;refine W.cM (c:=bA S) H I I I I I I λτ c_ H bG=>?_;refine aj ?_;refine W.cM (c:=bA F) H I I I I I I λbl ei H bw=>?_;have c6:∀i o,J.get i=some o->bl.get i=some o:=λi o h=>bw _ _ (bG _ _ h);have tn:=av.aS (τ:=bl) λi o _=>c6 i o;have jU:=hw.aS (τ:=bl) λi o _=>c6 i o;refine aj ?_;refine W.pu (c:=bA S++bA F) (jo (S,F)) tn I I I I I I I I I (by rw[b0];omega) λbM bZ qT qU _ fc bg=>?_;have hlt:∀o,v.at? =some o->o<J.next:=λo h=>av.lt h;have b9j:∀o,w.at? =some o->o<J.next:=λo h=>hw.lt h;have H:Has bZ [(dV,[v]),(fl,[w])]:=(Has.nil.cons (bg _ _ (λe=>((hl _).1 e).2.2 I) (c6 _ _ c7)) aG).cons (bg _ _ (λe=>((hl _).1 e).2.1 I) (c6 _ _ cm)) (by simp;omega);refine aj ?_;refine W.st (bX:=[bM]) H 0 I I I I qT.ln (by rw[qT.mg];rfl) λcG fF H b9=>?_;have El:=jU.aS (τ:=cG) λi o hi ho=>b9 _ _ ((hl i).2 hi).2.1 (bg _ _ ((hl i).2 hi).2.2.2 ho);refine aj ?_;refine W.pu (c:=[.i .u8 2,ai i,ai j]) (yX (i,j)) El I I I I I I I I I (by rw[b0];omega) λaw dq PJ tJ _ iU c9=>?_;have H:Has dq [(dV,[bM]),(fl,[w])]:=(Has.nil.cons (c9 _ _ (λe=>((hl _).2 e).2.2.1 I) (H.get _ (.tail _ (.head _)))) aG).cons (c9 _ _ (λe=>((hl _).2 e).2.1 I) (H.get _ (.head _))) (by simp;omega);refine aj ?_;refine W.st (bX:=[aw]) H 1 I I I I PJ.ln (by rw[PJ.mg];rfl) λeA jC H eu=>?_;refine aj ?_;refine⟨.inr I,rfl,⟨bM,aw,H.get _ (.head _),H.get _ (.tail _ (.head _)),?_,?_,λe=>absurd e aG,λo=>⟨λe=>?_,λe=>?_⟩⟩,U,λi o Z_ Nb b9k ho=>eu _ _ b9k (c9 _ _ (λe=>((hl _).2 e).1 Z_) (b9 _ _ Nb (bg _ _ (λe=>((hl _).1 e).1 Z_) (c6 _ _ ho))))⟩
 ·rw[g_];exact qT.aS λi o hi ho=>eu _ _ (λe=>by rw[qU] at hi;cases hi;omega) (c9 _ _ (λe=>by rw[qU] at hi;cases hi;have:=b9j _ e;omega) (b9 _ _ (λe=>by rw[qU] at hi;cases hi;omega) ho))
 ·rw[g_];exact PJ.aS λi o hi ho=>eu _ _ (λe=>by rw[tJ] at hi;cases hi;omega) ho
 ·rw[qU] at e;cases e;exact⟨λh=>by have:=jI _ h;omega,U,U⟩
 ·rw[tJ] at e;cases e;exact⟨λh=>by have:=jI _ h;omega,U,U,λe=>by rw[qU] at e;have:=il e;omega⟩
end
def EA:Fm:=.mk 0 [] none none
def q2(r:dj)(gs:List dN)(j:Nat):List (Fm×Fm):=(List.range j).map λi=>((r.cS.getD i mX).f,(gs.getD i j0).fz)
def vr(r:dj)(gs:List dN)(i t:Nat):List (Fm×Fm):=(List.range t).map λt=>((r.cS.getD i mX).hyps.getD t EA,(gs.getD i j0).hyps.getD t EA)
def pr2(r:dj)(gs:List dN):Nat->List (Fm×Fm)
 |0=>[]
 |j+1=>pr2 r gs j++vr r gs j (gs.getD j j0).hyps.length
def tN(j:Nat):List (Nat×Nat):=(List.range j).map λi=>(i,0)
def vs(i t:Nat):List (Nat×Nat):=(List.range t).map λt=>(i,t+1)
def w2(gs:List dN):Nat->List (Nat×Nat)
 |0=>[]
 |j+1=>w2 gs j++vs j (gs.getD j j0).hyps.length
def nv(r:dj)(F:Fm)(gs:List dN):List (Fm×Fm):=q2 r gs r.cS.length++pr2 r gs r.cS.length++[(r.fz,F)]
def yY(r:dj)(gs:List dN):List (Nat×Nat):=tN r.cS.length++w2 gs r.cS.length++[(r.cS.length,0)]
theorem sm{α:Type}{l:List α}{i:Nat}{d:α}(h:i<l.length):l.getD i d=l[i]:=by rw[fO,cK h];rfl
theorem PK{r:dj}{gs:List dN}(h:∀g∈gs,g.hyps.length<2^10):∀ {j:Nat},(pr2 r gs j).length<=j*2^10/\(w2 gs j).length<=j*2^10
 |0=>⟨br _,br _⟩
 |j+1=>by
  obtain⟨h1,h2⟩:=PK (r:=r) (gs:=gs) h (j:=j);have:(gs.getD j j0).hyps.length<2^10:=by
   rw[fO];cases hx:gs[j]? with
   |none=>decide
   |some g=>exact h g (hH hx)
  rw[pr2,w2,c4,c4];unfold vr vs;rw[b0,lZ,b0,lZ];omega
section
variable {b:b5}{K:Nat->List AV->AV->Prop}(hfn:∀g aY r cc,K g aY r->K g aY cc->r=cc)
include hfn
theorem b9l(hh:bq (b.aV K) wM Oh)(h1:bq (b.aV K) n7 IL)(b9m:b.ext nk=0/\b.pure nk=true){r:dj}{F:Fm}{gs:List dN}{J:ae}{aE:Nat}(an:J.get aE=some (.cells (lx r F gs .af .af)))(ab:Ez r gs)(G_:gs.length<2^10)(EB:∀g∈gs,g.hyps.length<2^10){ck eS:AV}{at_ e:Nat}
  (kG:∀p∈nv r F gs,p.1.dep<=200/\p.2.dep<=200) (k6:(AV.ah [ck,eS]).val=true) (fE:e≠0->at_<(yY r gs).length) (b_:K nk [slA true (some 8) ((nv r F gs).map jo),.ah [.af,.af]] (.a9 [.ah [ck,eS],ai at_,ai e])):
  bH (b.aV K) 0 (.f (.func wM) [aT aE] []) [] J (λv τ=>(if e=0 then v= .ok (q5 0 0 0)/\τ.get aE=some (.cells (lx r F gs ck eS)) else v= .ok (yX ((yY r gs).getD at_ (0,0)))/\τ.get aE=some (.cells (lx r F gs .af .af)))/\J.next<=τ.next/\∀i o,i≠aE->J.get i=some o->τ.get i=some o):=by
 refine W.oa hh.e hh.p hh.f I I I λz=>?_;have H:Has J [(aE,lx r F gs .af .af)]:=Has.nil.cons an aG;have hlen:=ab.len;have a0a:=ae.bE an;refine aj ?_;generalize aX:J.next=q;refine W.cB (c:=[.i .u8 0,ai 0,ai 0]) H aX I I I λτ c_ H bG=>?_;refine aj ?_;refine W.cB (c:=[.af]) H c_ I I I λbl ei H bw=>?_;refine aj ?_;refine W.cB (c:=[.af]) H ei I I I λbZ fc H bg=>?_;have c6:∀i o,J.get i=some o->bZ.get i=some o:=λi o h=>bg _ _ (bw _ _ (bG _ _ h));refine aj ?_;show bR _ _ _ _ _ _ _ _;have hA0:q6 bZ (q+1) (q+2) [] [] (λi=>i<q+1):=⟨.af,.af,H.get _ (.tail _ (.head _)),H.get _ (.head _),.nil,.nil,λ_=>rfl,λo=>⟨(λh=>by cases h),(λh=>by cases h)⟩⟩
 have gl:bZ.get q=some (.cells [.i .u8 0,ai 0,ai 0]):=H.get _ (.tail _ (.tail _ (.head _)));have tC:=c6 _ _ an;have q7:AB (b.aV K) n7:=(show uZ (b.aV K) [n7] from λg hg=>by rw[cu.1 hg];exact⟨h1.e,.inr ⟨h1.p,_,_,h1.f,rfl,rfl⟩⟩).one I;clear H;refine ak.each r.cS.length (λj f τ=>q6 τ (q+1) (q+2) (q2 r gs j) (tN j) (λi=>i<q+1)/\(∀i o,i<q+1->bZ.get i=some o->τ.get i=some o)/\q+3<=τ.next/\sat [(0,aT aE),(2,aT q),(3,aT (q+1)),(4,aT (q+2)),(5,.f (.func n7) [] [aT (q+1),aT (q+2)]),(20,slA true (some 7) (r.cS.map e7.A))] f) U ⟨hA0,λ_ _ _ h=>h,U,rfl,rfl,rfl,rfl,rfl,rfl,trivial⟩ I I (λj g τ aC a0 hi hm=>?_) (λg τ a0 hi=>?_)
 ·obtain⟨hA,dk,hn,cZ,bQ,cm,c7,dB,PL,_⟩:=a0;refine ak.norm [(0,aT aE),(2,aT q),(3,aT (q+1)),(4,aT (q+2)),(5,.f (.func n7) [] [aT (q+1),aT (q+2)]),(20,slA true (some 7) (r.cS.map e7.A)),(22,ai j),(21,ai r.cS.length)] ⟨cZ,bQ,cm,c7,dB,PL,hi,hm,trivial⟩ λg=>?_;have H:Has τ [(aE,lx r F gs .af .af)]:=Has.nil.cons (dk _ _ U tC) aG;refine aj ?_;refine W.cB H I I I I λg7 q1 H cE=>?_;refine aj ?_;refine W.st (bX:=(r.cS[j]).cells) H 0 I I I I I I λja po H iJ=>?_;have q3:∀i o,τ.get i=some o->ja.get i=some o:=λi o h=>iJ _ _ (by have:=ae.bE h;omega) (cE _ _ h);refine aj ?_;refine W.aq q7 I I I (PI h1 (hA.aS q3) U (λi hi=>by omega) (r.cS[j]).f (gs[j]'U).fz j 0 (by unfold q2;rw[b0,lZ];omega) (by unfold tN;rw[b0,lZ];omega)) λv lq ⟨ar,kC,ay⟩=>⟨_,ar,?_⟩
  have zZ:=ay.next;have H:Has lq [(aE,lx r F gs .af .af)]:=Has.nil.cons (ay.aS _ _ U U U (q3 _ _ (dk _ _ U tC))) aG;refine aj ?_;refine⟨rfl,rfl,?_,λi o hi ho=>ay.aS _ _ hi U U (q3 _ _ (dk _ _ hi ho)),U,rfl,rfl,rfl,rfl,rfl,rfl,trivial⟩;have aR:q2 r gs (j+1)=q2 r gs j++[((r.cS[j]).f,(gs[j]'U).fz)]:=by
   unfold q2;rw[wP,g_,pb,A3,sm aC,sm U]
  have a6:tN (j+1)=tN j++[(j,0)]:=by unfold tN;rw[wP,g_];rfl
  rw[aR,a6];exact kC
 ·obtain⟨hA,dk,hn,cZ,bQ,cm,c7,dB,_⟩:=a0;show bR _ _ _ _ _ _ _ _;refine ak.norm [(0,aT aE),(2,aT q),(3,aT (q+1)),(4,aT (q+2)),(5,.f (.func n7) [] [aT (q+1),aT (q+2)])] ⟨cZ,bQ,cm,c7,dB,trivial⟩ λg=>?_;have H:Has τ [(aE,lx r F gs .af .af)]:=Has.nil.cons (dk _ _ U tC) aG;refine aj ?_;show bR _ _ _ _ _ _ _ _;have ji:(q2 r gs r.cS.length).length=r.cS.length/\(tN r.cS.length).length=r.cS.length:=by unfold q2 tN;simp
  refine ak.each r.cS.length (λj f τ=>q6 τ (q+1) (q+2) (q2 r gs r.cS.length++pr2 r gs j) (tN r.cS.length++w2 gs j) (λi=>i<q+1)/\(∀i o,i<q+1->bZ.get i=some o->τ.get i=some o)/\q+3<=τ.next/\sat [(0,aT aE),(2,aT q),(3,aT (q+1)),(4,aT (q+2)),(5,.f (.func n7) [] [aT (q+1),aT (q+2)]),(45,slA true (some 7) (r.cS.map e7.A))] f) U ⟨by rw[pr2,w2,iG,iG];exact hA,dk,hn,rfl,rfl,rfl,rfl,rfl,rfl,trivial⟩ I I (λj g τ aC a0 hi hm=>?_) (λg τ a0 hi=>?_)
  ·obtain⟨hA,dk,hn,cZ,bQ,cm,c7,dB,EC,_⟩:=a0;refine ak.norm [(0,aT aE),(2,aT q),(3,aT (q+1)),(4,aT (q+2)),(5,.f (.func n7) [] [aT (q+1),aT (q+2)]),(45,slA true (some 7) (r.cS.map e7.A)),(47,ai j),(46,ai r.cS.length)] ⟨cZ,bQ,cm,c7,dB,EC,hi,hm,trivial⟩ λg=>?_;have H:Has τ [(aE,lx r F gs .af .af)]:=Has.nil.cons (dk _ _ U tC) aG;have hy:=ab.hy j U aC;have vt:gs.getD j j0=gs[j]'U:=sm U;have b9n:r.cS.getD j mX=r.cS[j]:=sm aC;have q8:=EB _ (bJ (show j<gs.length by omega));obtain⟨nZ,GZ⟩:=PK (r:=r) EB (j:=j);refine aj ?_;refine W.cB H I I I I λg7 q1 H cE=>?_;refine aj ?_;refine W.st (bX:=(r.cS[j]).cells) H 0 I I I I I I λja po H iJ=>?_;have q3:∀i o,τ.get i=some o->ja.get i=some o:=λi o h=>iJ _ _ (by have:=ae.bE h;omega) (cE _ _ h);refine aj ?_;show bR _ _ _ _ _ _ _ _;have Bt:ja.get τ.next=some (.cells (r.cS[j]).cells):=H.get _ (.head _);have b9o:=(hA.sub (PH:=λi=>i<q+1\/i=τ.next) (λi hi hlt=>by rcases hi with h|h;exact h;omega)).aS q3;have c7I:τ.next<ja.next:=by omega
   have c7J:=hn;generalize τ.next=Bu at *;clear H;have c7K:(gs[j]'U).hyps.length=(r.cS[j]).hyps.length:=hy;refine ak.each (gs[j]'U).hyps.length (λt f τ=>q6 τ (q+1) (q+2) (q2 r gs r.cS.length++(pr2 r gs j++vr r gs j t)) (tN r.cS.length++(w2 gs j++vs j t)) (λi=>i<q+1\/i=Bu)/\(∀i o,i<q+1->bZ.get i=some o->τ.get i=some o)/\τ.get Bu=some (.cells (r.cS[j]).cells)/\q+3<=τ.next/\sat [(0,aT aE),(2,aT q),(3,aT (q+1)),(4,aT (q+2)),(5,.f (.func n7) [] [aT (q+1),aT (q+2)]),(8,ai j),(9,aT Bu),(45,slA true (some 7) (r.cS.map e7.A)),(47,ai j),(46,ai r.cS.length),(59,slA true (some 5) ((gs[j]'U).hyps.map sf))] f) U ⟨?_,λi o hi ho=>q3 _ _ (dk _ _ hi ho),Bt,U,rfl,rfl,rfl,rfl,rfl,rfl,rfl,rfl,rfl,rfl,rfl,trivial⟩ I I (λt g τ ht a0 hi hm=>?_) (λg τ a0 hi=>?_)
   ·have aR:vr r gs j 0=[]:=rfl;have a6:vs j 0=[]:=rfl;rw[aR,a6,iG,iG];exact b9o
   ·obtain⟨hA,dk,Bt,hn,cZ,bQ,cm,c7,dB,hs,kU,EC,q0,PM,PN,_⟩:=a0;refine ak.norm [(0,aT aE),(2,aT q),(3,aT (q+1)),(4,aT (q+2)),(5,.f (.func n7) [] [aT (q+1),aT (q+2)]),(8,ai j),(9,aT Bu),(45,slA true (some 7) (r.cS.map e7.A)),(47,ai j),(46,ai r.cS.length),(59,slA true (some 5) ((gs[j]'U).hyps.map sf)),(61,ai t),(60,ai (gs[j]'U).hyps.length)] ⟨cZ,bQ,cm,c7,dB,hs,kU,EC,q0,PM,PN,hi,hm,trivial⟩ λg=>?_;have H:Has τ [(Bu,(r.cS[j]).cells)]:=Has.nil.cons Bt aG;refine aj ?_;refine W.cB H I I I I λg7 q1 H cE=>?_;refine aj ?_;refine W.st (bX:=.b true::bA (gs[j]'U).hyps[t]) H 0 I I I I I I λja po H iJ=>?_;have q3:∀i o,τ.get i=some o->ja.get i=some o:=λi o h=>iJ _ _ (by have:=ae.bE h;omega) (cE _ _ h);have c7L:=ae.bE Bt;have n2:(vr r gs j t).length=t/\(vs j t).length=t:=by unfold vr vs;simp
    refine aj ?_;refine W.aq q7 I I I (PI h1 (hA.aS q3) U (λi hi=>by omega) ((r.cS[j]).hyps[t]'U) (gs[j]'U).hyps[t] j (t+1) (by rw[c4,c4];omega) (by rw[c4,c4];omega)) λv lq ⟨ar,kC,ay⟩=>⟨_,ar,?_⟩
    have zZ:=ay.next;have H:Has lq [(Bu,(r.cS[j]).cells)]:=Has.nil.cons (ay.aS _ _ (.inr I) U U (q3 _ _ Bt)) aG;refine aj ?_;refine⟨rfl,rfl,?_,λi o hi ho=>ay.aS _ _ (.inl hi) U U (q3 _ _ (dk _ _ hi ho)),H.get _ (.head _),U,rfl,rfl,rfl,rfl,rfl,rfl,rfl,rfl,rfl,rfl,rfl,trivial⟩;have aR:vr r gs j (t+1)=vr r gs j t++[((r.cS[j]).hyps[t]'U,(gs[j]'U).hyps[t])]:=by
     unfold vr;rw[wP,g_,pb,A3,vt,b9n,sm U,sm ht]
    have a6:vs j (t+1)=vs j t++[(j,t+1)]:=by unfold vs;rw[wP,g_];rfl
    rw[aR,a6,← jA,← jA,← jA,← jA];rw[<-jA,← jA] at kC;exact kC
   ·obtain⟨hA,dk,Bt,hn,cZ,bQ,cm,c7,dB,hs,kU,EC,q0,PM,_⟩:=a0;refine⟨q0,PM,?_,dk,hn,cZ,bQ,cm,c7,dB,EC,trivial⟩;rw[pr2,w2,vt];exact hA.sub λi hi _=>.inl hi
  ·obtain⟨hA,dk,hn,cZ,bQ,cm,c7,dB,_⟩:=a0;show bR _ _ _ _ _ _ _ _;refine ak.norm [(0,aT aE),(2,aT q),(3,aT (q+1)),(4,aT (q+2)),(5,.f (.func n7) [] [aT (q+1),aT (q+2)])] ⟨cZ,bQ,cm,c7,dB,trivial⟩ λg=>?_;have H:Has τ [(aE,lx r F gs .af .af)]:=Has.nil.cons (dk _ _ U tC) aG;obtain⟨nZ,GZ⟩:=PK (r:=r) EB (j:=r.cS.length);refine aj ?_;refine W.aq q7 I I I (PI h1 hA U (λi hi=>by omega) r.fz F r.cS.length 0 (by rw[c4];omega) (by rw[c4];omega)) λv lq ⟨ar,kC,ay⟩=>⟨_,ar,?_⟩
   have zZ:=ay.next;have xT:∀i o,i<q+1->bZ.get i=some o->lq.get i=some o:=λi o hi ho=>ay.aS _ _ hi U U (dk _ _ hi ho);obtain⟨v,w,b9p,b9q,av,hw,sc,hl⟩:=kC.ex;have H:Has lq [(q+1,[v]),(q+2,[w]),(aE,lx r F gs .af .af),(q,[.i .u8 0,ai 0,ai 0])]:=(((Has.nil.cons (xT _ _ U gl) aG).cons (xT _ _ U tC) (by simp;omega)).cons b9q (by simp;omega)).cons b9p (by simp;omega);refine aj ?_;refine W.ga hfn b9m b_ I I I ?_ ?_
   ·refine pJ ?_ I;refine Sl.Ew (m:=b.bt+999) av (λe=>absurd (congrArg List.length e) aG) ?_;have:=Bk (f:=bT lq (b.bt+999)) (g:=λx=>x) (l:=(nv r F gs).map jo) (λy hy=>by
     obtain⟨Bi,ED,rfl⟩:=dx.1 hy;obtain⟨d1,d2⟩:=kG _ ED;have b4:∀F:Fm,F.dep<=200->mapO (bT lq (b.bt+998)) (bA F)=some (bA F):=λF hd=>by
      have:=Fm.snap lq true _ F (b.bt+999) (br _) U;rw[jY] at this;obtain⟨fa,a2,bm⟩:=Hw this;cases bm;exact a2
     exact pL (tK (b4 _ d1) (b4 _ d2)))
    rwa[D8] at this
   refine aj ?_;refine W.cB H I I I I λsh dQ H cD=>?_;refine aj ?_;refine W.st (bX:=[ck,eS]) H 0 I I I I I I λsi ne H Bp=>?_;have PO:∀i o,lq.get i=some o->si.get i=some o:=λi o h=>Bp _ _ (by have:=ae.bE h;omega) (cD _ _ h);refine aj ?_;by_cases he:e=0
   ·subst he;refine aj ?_;refine W.st (bX:=lx r F gs ck eS) H 3 I I I I I I λEp d_ H wY=>?_;refine aj ?_;refine W.st H 4 I I I I I I λPc ZL H yS=>?_;refine aj ?_;refine ak.ret ⟨rfl,_,vl (gW I (H.get _ (.tail _ (.tail _ (.tail _ (.tail _ (.head _)))))) I),?_,U,λi o hi ho=>yS _ _ (by have:=ae.bE ho;omega) (wY _ _ hi (PO _ _ (xT _ _ (by have:=ae.bE ho;omega) (c6 _ _ ho))))⟩;rw[if_pos I];exact⟨rfl,H.get _ (.tail _ (.tail _ (.tail _ (.head _))))⟩
   ·have a0b:=fE he;have b9r:=hw.aS (τ:=si) λi o _=>PO i o;obtain⟨o,c,rE,_,q4,gx,qJ,jq⟩:=b9r.gd (j:=at_) (by rw[b0];exact a0b);rw[e_] at qJ jq;refine aj ?_;refine W.eG I I I I q4 ?_;refine aj ?_;refine W.oU gx I I I jq ?_;refine aj ?_;refine W.st H 4 I I I I I I λPc ZL H yS=>?_;refine aj ?_;refine ak.ret ⟨rfl,_,vl (gW I (H.get _ (.tail _ (.tail _ (.tail _ (.tail _ (.head _)))))) I),?_,U,λi o hi ho=>yS _ _ (by have:=ae.bE ho;omega) (PO _ _ (xT _ _ (by have:=ae.bE ho;omega) (c6 _ _ ho)))⟩;rw[if_neg he];refine⟨?_,H.get _ (.tail _ (.tail _ (.tail _ (.head _))))⟩;rw[sm a0b];rfl
end
section
variable {b:b5}{K:Nat->List AV->AV->Prop}
theorem b9s(hh:bq (b.aV K) A1 Om){ck:AV}{b7:List Nat}{J:ae}:
  bH (b.aV K) 0 (.f (.func A1) [] []) [.ah [ck,.af],.s b7] J (λv τ=>v= .ok (.a9 [.ah [.b false,.s [],.af],.b false])/\ee J τ):=by
 refine W.oa hh.e hh.p hh.f I I I λz=>?_;have H:Has J []:=Has.nil;refine aj ?_;refine W.cM (c:=[ck,.af]) H I I I I I I λτ c_ H bG=>?_;refine aj ?_;refine W.cB (c:=[.b false,.s [],.af]) H I I I I λbl ei H bw=>?_;refine aj ?_;show bR _ _ _ _ _ _ _ _;refine ak.each 0 (λj f aM=>ee bl aM/\sat [(4,aT (J.next+1))] f) U ⟨⟨br _,λ_ _ h=>h⟩,(by show aT _=aT _;rw[c_]),trivial⟩ I I (λj g aM aC a0 hi hm=>by omega) (λg aM a0 hi=>?_);obtain⟨M,c7,_⟩:=a0;refine ak.norm [(4,aT (J.next+1))] ⟨c7,trivial⟩ λg=>?_;have H:Has aM [(J.next+1,[.b false,.s [],.af])]:=Has.nil.cons (M.2 _ _ (by rw[<-c_];exact H.get _ (.head _))) aG;refine aj ?_;refine W.st H 0 I I I I I I λbZ fc H bg=>?_;refine aj ?_;exact ak.ret ⟨rfl,_,kk (gW I (H.get _ (.head _)) I) (lp I),rfl,by have:=M.1;omega,λi o h=>bg _ _ (by have:=ae.bE h;omega) (M.2 _ _ (bw _ _ (bG _ _ h)))⟩
theorem b9t(hh:bq (b.aV K) IM Ok){tO k:Nat}{cr:AV}(kv:cr= .f (.func tz) [] [aT k,aT (k+1)]){J:ae}(bF:J.get tO=some (.cells [.af])):
  bH (b.aV K) 0 (.f (.func IM) [] [aT tO]) [.i .u8 7,cr] J (λv τ=>v= .ok (.a9 [])/\J.next<=τ.next/\(∃x y w,τ.get tO=some (.cells [w])/\Sl τ none w [.f (.func vc) [] [aT x,aT y]]/\J.next<=x/\J.next<=y/\(∀o,w.at? =some o->J.next<=o)/\τ.get x=some (.cells [cr])/\τ.get y=some (.cells [.i .u8 7]))/\∀i o,i≠tO->J.get i=some o->τ.get i=some o):=by
 subst kv;refine W.pM hh.e hh.p hh.f I I I λz=>?_;have H:Has J [(tO,[.af])]:=Has.nil.cons bF aG;have q9:=ae.bE bF;refine aj ?_;generalize aX:J.next=q;refine W.cM (c:=[.i .u8 7]) H aX I I I I I λτ c_ H bG=>?_;refine aj ?_;refine W.cM (c:=[.f (.func tz) [] [aT k,aT (k+1)]]) H c_ I I I I I λbl ei H bw=>?_;refine aj ?_;refine W.pu (c:=[.f (.func vc) [] [aT (q+1),aT q]]) (.f (.func vc) [] [aT (q+1),aT q]) Sl.nil I I I I I I I I I (by show(3*(0+1)+2000)*8<=_;omega) λbM bZ qT qU _ fc bg=>?_;have c6:∀i o,bl.get i=some o->bZ.get i=some o:=λi o h=>bg i o (λe=>by cases e) h;have H:=H.aS c6;refine aj ?_;refine W.st (bX:=[bM]) H 2 I I I I qT.ln (by rw[qT.mg];rfl) λcG fF H b9=>?_;refine aj ?_;refine⟨.inr I,rfl,U,⟨q+1,q,bM,H.get _ (.tail _ (.tail _ (.head _))),qT.aS λi o hi=>b9 _ _ (λe=>by rw[qU] at hi;cases hi;omega),U,U,λo ho=>by rw[qU] at ho;cases ho;omega,H.get _ (.head _),H.get _ (.tail _ (.head _))⟩,λi o hi ho=>b9 _ _ hi (c6 _ _ (bw _ _ (bG _ _ ho)))⟩
theorem b9u(hh:bq (b.aV K) tz IN){sn yZ:Nat}{p:e7}(au:p.closed=false){J:ae}(eL:J.get sn=some (.cells p.cells)):
  bH (b.aV K) 0 (.f (.func tz) [] [aT sn,aT yZ]) [] J (λv τ=>v= .ok (.a9 [ai 0,.b false])/\ee J τ):=by
 refine W.oa hh.e hh.p hh.f I I I λz=>?_;have H:Has J [(sn,p.cells)]:=Has.nil.cons eL aG;refine aj ?_;rw[au];refine aj ?_;exact ak.ret ⟨rfl,_,rfl,rfl,br _,λ_ _ h=>h⟩
theorem b9v(hh:bq (b.aV K) vc Ol)(cw:bq (b.aV K) tz IN){sn yZ x y k:Nat}{p:e7}(au:p.closed=false){J:ae}(eL:J.get sn=some (.cells p.cells))(hx:J.get x=some (.cells [.f (.func tz) [] [aT sn,aT yZ]]))(hy:J.get y=some (.cells [.i .u8 (Int.ofNat k)])):
  bH (b.aV K) 0 (.f (.func vc) [] [aT x,aT y]) [] J (λv τ=>v= .ok (.a9 [.i .u8 (Int.ofNat k),ai 0,.b false])/\ee J τ):=by
 refine W.oa hh.e hh.p hh.f I I I λz=>?_;have a5:x≠y:=λe=>by subst e;rw[hx] at hy;cases hy
 have H:Has J [(x,[.f (.func tz) [] [aT sn,aT yZ]]),(y,[.i .u8 (Int.ofNat k)])]:=(Has.nil.cons hy aG).cons hx (by simp;omega);refine aj ?_;refine W.mT I I I (b9u cw au eL) λr τ ⟨e,M⟩=>⟨_,e,?_⟩
 have H:=H.aS M.2;refine aj ?_;exact ak.ret ⟨rfl,_,rfl,rfl,M⟩
end
structure PQ(b:b5)(r:dj)(gs:List dN):Prop where
 P:∀J,bT J (b.bt+1000) (slA true (some 7) (r.cS.map e7.A))=some (slA true (some 7) (r.cS.map e7.A))
 p:∀p∈r.cS,∀J,bT J (b.bt+1000) p.A=some p.A
 G:∀J,bT J (b.bt+1000) (gZ gs)=some (gZ gs)
 g:∀g∈gs,∀J,bT J (b.bt+1000) g.A=some g.A
structure Bv(b:b5)(K:Nat->List AV->AV->Prop):Prop where
 PR:bq (b.aV K) Oj YY
 b9w:bq (b.aV K) IM Ok
 b9x:bq (b.aV K) vc Ol
 b9y:bq (b.aV K) tz IN
 Jw:bq (b.aV K) A1 Om
 PS:bq (b.aV K) NS YO
section
variable {b:b5}{K:Nat->List AV->AV->Prop}
theorem Bv.one(h:Bv b K):AB (b.aV K) A1:=(show uZ (b.aV K) [A1,NS] from λg hg=>by
 rcases dF.1 hg with rfl|hg
 ·exact⟨h.Jw.e,.inr ⟨h.Jw.p,_,_,h.Jw.f,rfl,rfl⟩⟩
 ·rw[cu.1 hg];exact⟨h.PS.e,.inr ⟨h.PS.p,_,_,h.PS.f,rfl,rfl⟩⟩).one I
theorem b9z(hh:Bv b K){r:dj}{F:Fm}{gs:List dN}{ck:AV}{J:ae}{aE:Nat}(an:J.get aE=some (.cells (lx r F gs ck .af)))(hn:PQ b r gs)(y0:AV.eqb (b.aV K).bt (.ah [ck,.af]) (.ah [ck,.af])=true)(j:Nat)(h1:j<r.cS.length)(h2:j<gs.length)(hl:r.cS.length<2^20/\gs.length<2^20)(bC:(r.cS[j]).closed=false):
  bH (b.aV K) 0 (.f (.func Oj) [] []) [aT aE,ai j] J (λv τ=>(∃w x y sn yZ,v= .ok w/\Sl τ none w [.f (.func vc) [] [aT x,aT y]]/\τ.get x=some (.cells [.f (.func tz) [] [aT sn,aT yZ]])/\τ.get y=some (.cells [.i .u8 7])/\τ.get sn=some (.cells (r.cS[j]).cells))/\ee J τ):=by
 refine W.code hh.PR.e hh.PR.p hh.PR.f I I I I λz=>?_;have a0a:=ae.bE an;have H:Has J [(aE,lx r F gs ck .af)]:=Has.nil.cons an aG;refine aj ?_;generalize aX:J.next=q;refine W.cM (c:=[aT aE]) H aX I I I I I λτ c_ H bG=>?_;refine aj ?_;refine W.cB (c:=[.af]) H c_ I I I λbl ei H bw=>?_;refine aj ?_;refine W.lQ H I I I (.tail _ (.tail _ (.head _))) I (Snp.eqb _ _ hn.P) ?_;refine aj ?_;refine W.rZ (v:=(r.cS[j]).A) I I I (λs=>n4 _ _ I I) (Snp.eqb _ _ (hn.p _ (bJ h1))) ?_;refine aj ?_;refine W.lQ H I I I (.tail _ (.tail _ (.head _))) I (Snp.eqb _ _ hn.G) ?_;refine aj ?_;refine W.rZ (v:=(gs[j]).A) I I I (λs=>n4 _ _ I I) (Snp.eqb _ _ (hn.g _ (bJ h2))) ?_;refine aj ?_;refine W.cB (c:=[.af,.i .u8 0,.s [],.af,.af,.s [],.b false]) H ei I I I λbZ fc H bg=>?_;refine aj ?_;refine W.cB (c:=[.i .u8 0,.s [],.af,.af,.af,.af]) H fc I I I λcG fF H b9=>?_;refine aj ?_;refine W.st (bX:=(r.cS[j]).cells) H 1 I I I I I I λdq iU H c9=>?_;refine aj ?_;refine W.st (bX:=(gs[j]).A.cells) H 0 I I I I I I λeA jC H eu=>?_;have c6:∀i o,J.get i=some o->eA.get i=some o:=λi o h=>eu _ _ (by have:=ae.bE h;omega) (c9 _ _ (by have:=ae.bE h;omega) (b9 _ _ (bg _ _ (bw _ _ (bG _ _ h)))));refine aj ?_;refine W.lQ H I I I (.tail _ (.tail _ (.tail _ (.tail _ (.head _))))) I y0 ?_;refine aj ?_;refine W.cB (c:=[.b false,.s [],.af]) H I I I I λe6 l_ H gX=>?_;refine aj ?_;refine W.aq hh.one I I I (b9s hh.Jw) λv fI ⟨e,i_⟩=>⟨_,e,?_⟩
 have Jk:=i_.1;have H:=H.aS i_.2;refine aj ?_;refine W.st H 0 I I I I I I λj1 qC H kf=>?_;have b9A:∀i o,J.get i=some o->j1.get i=some o:=λi o h=>kf _ _ (by have:=ae.bE h;omega) (i_.2 _ _ (gX _ _ (c6 _ _ h)));refine aj ?_;refine W.mT I I I (b9t hh.b9w (k:=q+2) I (H.get _ (.tail _ (.tail _ (.tail _ (.head _)))))) λv g7 ⟨e,q1,⟨x,y,w,b9B,hw,hx,hy,wU,PT,PU⟩,cE⟩=>⟨_,e,?_⟩
 have H:Has g7 [(q+1,[w]),(q+2,(r.cS[j]).cells)]:=(Has.nil.cons (cE _ _ U (H.get _ (.tail _ (.tail _ (.head _))))) aG).cons b9B aG;refine aj ?_;exact ak.ret ⟨rfl,⟨w,x,y,q+2,q+3,rfl,hw,PT,PU,H.get _ (.tail _ (.head _))⟩,U,λi o h=>cE _ _ (by have:=ae.bE h;omega) (b9A _ _ h)⟩
theorem b9C(hn:bq (b.aV K) wN Oi)(hh:Bv b K){r:dj}{F:Fm}{gs:List dN}{ck:AV}{J:ae}{aE:Nat}(an:J.get aE=some (.cells (lx r F gs ck .af)))(cW:PQ b r gs)(y0:AV.eqb (b.aV K).bt (.ah [ck,.af]) (.ah [ck,.af])=true)(hl:r.cS.length<2^20)(ld:gs.length=r.cS.length)(bC:∀p∈r.cS,p.closed=false):
  bH (b.aV K) 0 (.f (.func wN) [aT aE] []) [] J (λv τ=>v= .ok (q5 0 0 0)/\ee J τ):=by
 refine W.oa hn.e hn.p hn.f I I I λz=>?_;have a0a:=ae.bE an;have H:Has J [(aE,lx r F gs ck .af)]:=Has.nil.cons an aG;refine aj ?_;generalize aX:J.next=q;refine W.cB (c:=[.i .u8 0,ai 0,ai 0]) H aX I I I λτ c_ H bG=>?_;refine aj ?_;show bR _ _ _ _ _ _ _ _;refine ak.each r.cS.length (λj f aM=>ee τ aM/\sat [(0,aT aE),(2,aT q)] f) U ⟨⟨br _,λ_ _ h=>h⟩,rfl,rfl,trivial⟩ I I (λj g aM aC a0 hi hm=>?_) (λg aM a0 hi=>?_)
 ·obtain⟨M,cZ,bQ,_⟩:=a0;refine ak.norm [(0,aT aE),(2,aT q),(15,ai j),(14,ai r.cS.length)] ⟨cZ,bQ,hi,hm,trivial⟩ λg=>?_;have H:=H.aS M.2;refine aj ?_;refine W.aq trivial I I I (b9z hh (M.2 _ _ (bG _ _ an)) cW y0 j aC U U (bC _ (bJ aC))) λv bl ⟨⟨w,x,y,sn,yZ,e,hw,PT,PU,gU⟩,M2⟩=>⟨_,e,?_⟩
  have e2:ee τ bl:=⟨by have:=M.1;have:=M2.1;omega,λi o h=>M2.2 _ _ (M.2 _ _ h)⟩
  have PV:=hw.vw;have mF:[AV.f (.func vc) [] [aT x,aT y]].length=1:=rfl;refine aj ?_;show bR _ _ _ _ _ _ _ _;refine ak.each 1 (λt f aM=>ee bl aM/\sat [(0,aT aE),(2,aT q),(15,ai j),(14,ai r.cS.length),(20,w)] f) U ⟨⟨br _,λ_ _ h=>h⟩,rfl,rfl,rfl,rfl,rfl,trivial⟩ I I (λt g aM ht a0 hi hm=>?_) (λg aM a0 hi=>?_)
  ·obtain⟨M,cZ,bQ,sk,lW,PL,_⟩:=a0;refine ak.norm [(0,aT aE),(2,aT q),(15,ai j),(14,ai r.cS.length),(20,w),(22,ai t),(21,ai 1)] ⟨cZ,bQ,sk,lW,PL,hi,hm,trivial⟩ λg=>?_;have H:Has aM []:=Has.nil;have PV:=(hw.aS (τ:=aM) λi o _=>M.2 i o).vw;obtain rfl:t=0:=by omega
   refine aj ?_;refine W.mT I I I (b9v hh.b9x hh.b9y (bC _ (bJ aC)) (M.2 _ _ gU) (M.2 _ _ PT) (M.2 _ _ PU)) λv bZ ⟨e,fi⟩=>⟨_,e,?_⟩
   refine aj ?_;exact⟨rfl,rfl,⟨by have:=M.1;have:=fi.1;omega,λi o h=>fi.2 _ _ (M.2 _ _ h)⟩,rfl,rfl,rfl,rfl,rfl,trivial⟩
  ·obtain⟨M,cZ,bQ,sk,lW,_⟩:=a0;exact⟨sk,lW,⟨by have:=M.1;have:=e2.1;omega,λi o h=>M.2 _ _ (e2.2 _ _ h)⟩,cZ,bQ,trivial⟩
 ·obtain⟨M,cZ,bQ,_⟩:=a0;show bR _ _ _ _ _ _ _ _;refine ak.norm [(2,aT q)] ⟨bQ,trivial⟩ λg=>?_;have H:Has aM [(q,[.i .u8 0,ai 0,ai 0])]:=Has.nil.cons (M.2 _ _ (H.get _ (.head _))) aG;refine aj ?_;refine W.st H 0 I I I I I I λbZ fc H bg=>?_;refine aj ?_;exact ak.ret ⟨rfl,_,vl (gW I (H.get _ (.head _)) I),rfl,by have:=M.1;omega,λi o h=>bg _ _ (by have:=ae.bE h;omega) (M.2 _ _ (bG _ _ h))⟩
end
end Go.Lyc
end
noncomputable section
namespace Go.Lyc
set_option maxHeartbeats 0
variable [Tok][TokOk]
open Go.RowKit Go.Lyc.T
section
def a0c(d:Nat)(rs:List (Nat×Option (Option Nat)))(r:AV):ec:=λx f ag=>x= .ret/\ag.get d=some .eo/\∃v,tH (ag.set d .dead) f rs=some v/\freeze (ag.set d .dead) 0 1000 v=some r
theorem a0d{P:Program}{b:b5}{K:Nat->List AV->AV->Prop}(hb:kg P b)(cU:tm P b K){g:Nat}{fn:aP}{body:bO}{aY:List AV}{d:Nat}(r:AV)(hf:b.funcs.get g=some fn)(iB:fn.body=some body)
  (hn:(Nat.beq aY.length fn.kr&&Nat.ble aY.length fn.ntmps)=true) (hd:cP (λr=>Nat.blt r.1 fn.ntmps) fn.results=true) {ad:Nat} (al:fQ ad r=true) (iA:AV.eqb 1000 r r=true)
  (h:dK (b.aV K) [] [.inl d] fn.ntmps body (gO aY) ⟨.nil,0⟩ (a0c d fn.results r)) (b1:Nat):SpecEntry P (b.env []) b1 g aY r:=by
 have hle:aY.length<=fn.ntmps:=by
  simp only[du] at hn;exact gB hn.2
 refine Hi (env:=b.aV K) (m:=1000) (Hj _ _) ⟨λg cd hg=>mJ.yj hb.funcs g cd hg⟩ (λb1 g aY r an=>cU g aY r (Hn an) b1) hb.ext hb.Aq hf iB hn al ((h _ (uW hle)).mono λx ad ag ⟨f,h1,h2,h3,v,aQ,bF⟩=>?_) iA b1;subst h2;exact⟨.ok v,_,Zq h1 h3 hd aQ,_,rfl,bF⟩
theorem dK.args{env:Env}{D ma:List (Nat ⊕ (AV×List AV))}{n:Nat}{c:bO}{vV:List AV}{J:ae}{Q:ec}(h:∀z,dK env D ma n c (bx (W.r0 0 vV) z) J Q):dK env D ma n c (gO vV) J Q:=by
 have h9:bx (W.r0 0 vV) (gO vV)=gO vV:=Dz (W.HT _ 0 λj a e=>by show vV.getD (0+j) ea=a;rw[qw,fO,e];rfl);have:=h (gO vV);rwa[h9] at this
theorem a0e{J:ae}{ck:AV}{a b c d:Nat}(h:freeze J 0 998 ck=some ck):freeze J 0 1000 (.a9 [.ah [ck,.af],q5 a b c,ai d])=some (.a9 [.ah [ck,.af],q5 a b c,ai d]):=by
 have h1:freeze J 0 999 (.ah [ck,.af])=some (.ah [ck,.af]):=by
  rw[freeze_succ];show(match mapO (freeze J 0 998) [ck,.af] with|none=>none|some l=>some (AV.ah l))=_;rw[mapO_cons,h];rfl
 rw[freeze_succ];show(match mapO (freeze J 0 999) [.ah [ck,.af],q5 a b c,ai d] with|none=>none|some l=>some (AV.a9 l))=_;rw[mapO_cons,h1];rfl
attribute [local irreducible] ch bR dC ev bH
structure a0f(b:b5)(K:Nat->List AV->AV->Prop):Prop where
 oL:bq (b.aV K) IK Oe
 a0g:bq (b.aV K) D6 Of
 b9D:bq (b.aV K) wL Og
 Bw:bq (b.aV K) wM Oh
 b9E:bq (b.aV K) n7 IL
 PW:bq (b.aV K) wN Oi
 aL:Bv b K
 b9F:b.ext nk=0/\b.pure nk=true
 rE:b.ext wO=0/\b.pure wO=true
 b9G:b.ext ki=0/\b.pure ki=true
section
variable {b:b5}{K:Nat->List AV->AV->Prop}(hfn:∀g aY r cc,K g aY r->K g aY cc->r=cc)
include hfn
theorem b9H(hh:a0f b K){r:dj}{F:Fm}{gs:List dN}(ab:Ez r gs)(G_:gs.length<2^10)(EB:∀g∈gs,g.hyps.length<2^10){ck:AV}{at_ e:Nat}(cW:PQ b r gs)(uL:∀J,bT J (b.bt+1000) r.A=some r.A)
  (kG:∀p∈nv r F gs,p.1.dep<=200/\p.2.dep<=200) (fE:e≠0->at_<(yY r gs).length) (b_:K nk [slA true (some 8) ((nv r F gs).map jo),.ah [.af,.af]] (.a9 [.ah [ck,.af],ai at_,ai e]))
  (y0:AV.eqb (b.aV K).bt (.ah [ck,.af]) (.ah [ck,.af])=true) (PX:∀J,freeze J 0 998 ck=some ck) (bC:∀p∈r.cS,p.closed=false) (hR:K wO [r.A] (.b true)) (b9I:∀f∈tM F gs,f.dep<=200/\K ki [f.A true] (.b true)) (body:bO) (hb:IJ.body=some body):
  dK (b.aV K) [] [.inl 7] IJ.ntmps body (gO [r.A,.ah (bA F),gZ gs]) ⟨.nil,0⟩ (a0c 7 IJ.results (if e=0 then .a9 [.ah [ck,.af],q5 0 0 0,ai 0] else .a9 [.ah [.af,.af],yX ((yY r gs).getD at_ (0,0)),ai 80])):=by
 cases hb;refine dK.args λz=>?_;have H:Has (⟨.nil,0⟩:ae) []:=Has.nil;have ld:=ab.len;refine dK.lO ?_;refine aj ?_;refine W.cM (c:=r.A.cells) H I I I I I I λτ c_ H bG=>?_;refine aj ?_;refine W.cM (c:=bA F) H c_ I I I I I λbl ei H bw=>?_;refine aj ?_;refine W.cB (c:=[.af,.af]) H ei I I I λbZ fc H bg=>?_;refine aj ?_;refine W.cB (c:=[.i .u8 0,ai 0,ai 0]) H fc I I I λcG fF H b9=>?_;refine aj ?_;refine W.cB (c:=[ai 0]) H fF I I I λdq iU H c9=>?_;refine aj ?_;refine⟨rfl,?_⟩;refine dK.lO ?_;refine aj ?_;refine W.ga hfn hh.rE hR I I I (qH (uL _)) ?_;refine aj ?_;refine⟨rfl,?_⟩;refine dK.Ax ?_;refine dK.lO ?_;refine aj ?_;refine W.aq trivial I I I (b8Y hh.oL iU) λv eA ⟨ar,dB,ib,jC,Ek⟩=>⟨_,ar,?_⟩
 have H:=H.aS Ek.2;refine aj ?_;refine⟨rfl,?_⟩;refine dK.block ?_;refine dK.iter (k:=7) (tM F gs).length (λi W τ=>∀c,¬W c) (λi _ _ args=>∃f,(tM F gs)[i]? =some f/\args=[.ah (bA f)]) (λ_=>False) jC I hh.a0g.e I (λi W τ args ⟨f,_,e⟩=>by rw[e];rfl) (λi W τ aM h _ _=>h) (λ_ h=>h) (λ_ h=>h.elim) (b8Z hh.a0g dB ib _ ⟨id,id⟩ U λg hg=>by have:=ab.hl g hg;omega) ?_ ?_
 ·rintro i V τ args hi ⟨f,hf,rfl⟩ a0 vP b7N zZ dk;obtain⟨hd,cU⟩:=b9I f (hH hf);refine ak.norm [(22,.ah (bA f))] ⟨rfl,trivial⟩ λg=>?_;have H:Has τ []:=Has.nil;refine aj ?_;refine W.lk (c:=bA f) H I I I I I I I λg7 q1 H cE=>?_;refine aj ?_;refine⟨rfl,⟨U,cE⟩,λja po iJ a0=>?_⟩;have H:Has ja [(τ.next,bA f)]:=Has.nil.cons (iJ _ _ U (H.get _ (.head _))) aG;refine aj ?_;refine W.ga hfn hh.b9G cU I I I (qH ?_) ?_
  ·have:=Fm.snap ja true _ f (b.bt+1000) (br _) U;rw[jY] at this ⊢;exact this
  refine aj ?_;exact⟨rfl,V,a0,br _,λ_ _ _ h=>h,λc ab=>.inl ab⟩
 ·intro V τ a0 nr mI dk nm;refine⟨rfl,rfl,?_⟩;have wV:=H.aS λi o h=>dk i o id h;have H:Has τ [(4,[ai 0]),(3,[.i .u8 0,ai 0,ai 0]),(2,[.af,.af]),(1,bA F),(0,r.A.cells)]:=wV;clear wV;have mh:(gZ gs).cells=[gZ gs]:=by cases gs<;>rfl
  have rM:(gZ gs).val=true:=by cases gs<;>rfl
  refine ak.norm [(2,gZ gs),(3,aT 0),(4,aT 1),(6,aT 2),(7,aT 3),(8,aT 4)] ⟨rfl,rfl,rfl,rfl,rfl,rfl,trivial⟩ λg=>?_;refine aj ?_;refine W.jD I I (pP I I I (pP I I I (pP I (by rw[mh,rM];rfl) (by rw[mh];rfl) I))) ?_;generalize aX:τ.next=q at *;refine W.cM (c:=lx r F gs .af .af) H aX I I I I I λg7 q1 H cE=>?_;refine aj ?_;refine W.bI (c:=[.f (.func wL) [aT q] [],.f (.func wM) [aT q] [],.f (.func wN) [aT q] []]) H I I I I λja po H iJ=>?_;have hw:Sl ja none (.ao g7.next 0 3 none (some 3)) [.f (.func wL) [aT q] [],.f (.func wM) [aT q] [],.f (.func wN) [aT q] []]:=.ao g7.next (some 3) [.f (.func wL) [aT q] [],.f (.func wM) [aT q] [],.f (.func wN) [aT q] []] [] (H.get _ (.head _)) (λy hy=>by
   rcases dF.1 hy with rfl|hy
   ·rfl
   ·rcases dF.1 hy with rfl|hy
    ·rfl
    ·rw[cu.1 hy];rfl) (.inr I)
  have a0h:=iJ _ _ (cE _ _ nr);refine aj ?_;show bR _ _ _ _ _ _ _ _;refine ak.each 3 (λj f τ=>(∃so,τ.get q=some (.cells (lx r F gs so .af))/\(j<=1->so= .af)/\(2<=j->e=0/\so=ck))/\(∀i o,i≠q->ja.get i=some o->τ.get i=some o)/\ja.next<=τ.next/\sat [(6,aT 2),(7,aT 3),(8,aT 4),(10,aT q),(39,.ao g7.next 0 3 none (some 3))] f) U ⟨⟨.af,H.get _ (.tail _ (.head _)),λ_=>rfl,λh=>by omega⟩,λ_ _ _ h=>h,br _,rfl,rfl,rfl,rfl,rfl,trivial⟩ I I (λj g aM aC a0 hi hm=>?_) (λg aM a0 hi=>?_)
  ·obtain⟨⟨so,jH,kb,k6⟩,nw,sg,ib,gU,hs,lr,b9J,_⟩:=a0;refine ak.norm [(6,aT 2),(7,aT 3),(8,aT 4),(10,aT q),(39,.ao g7.next 0 3 none (some 3)),(41,ai j),(40,ai 3)] ⟨ib,gU,hs,lr,b9J,hi,hm,trivial⟩ λg=>?_;have PV:=(hw.aS (τ:=aM) λi o hi=>nw i o (by cases hi;omega)).vw;have H:Has aM [(4,[ai 0]),(3,[.i .u8 0,ai 0,ai 0]),(2,[.af,.af])]:=((Has.nil.cons (nw _ _ U (H.get _ (.tail _ (.tail _ (.tail _ (.tail _ (.head _))))))) aG).cons (nw _ _ U (H.get _ (.tail _ (.tail _ (.tail _ (.head _)))))) aG).cons (nw _ _ U (H.get _ (.tail _ (.tail _ (.head _))))) aG;have h3:[AV.f (.func wL) [aT q] [],.f (.func wM) [aT q] [],.f (.func wN) [aT q] []].length=3:=rfl;have eL:=nw _ _ U a0h;refine aj ?_;rcases(show j=0\/j=1\/j=2 by omega) with rfl|rfl|rfl
   ·obtain rfl:=kb U;refine W.mT I I I (b9g hh.b9D jH ab) λv bl ⟨ar,M⟩=>⟨_,ar,?_⟩
    have H:=H.aS M.2;have qF:=M.1;refine aj ?_;refine W.cB H I I I I λbZ fc H bg=>?_;refine W.st H 0 I I I I I I λcG fF H b9=>?_;refine aj ?_;exact⟨rfl,rfl,⟨.af,b9 _ _ (by have:=ae.bE jH;omega) (bg _ _ (M.2 _ _ jH)),λ_=>rfl,λh=>by omega⟩,λi o hi ho=>b9 _ _ (by have:=ae.bE (nw _ _ hi ho);omega) (bg _ _ (M.2 _ _ (nw _ _ hi ho))),U,rfl,rfl,rfl,rfl,rfl,trivial⟩
   ·obtain rfl:=kb U;refine W.mT I I I (b9l hfn hh.Bw hh.b9E hh.b9F jH ab G_ EB kG I fE b_) λv bl ⟨ar,qF,bw⟩=>?_;have H:Has bl [(4,[ai 0]),(3,[.i .u8 0,ai 0,ai 0]),(2,[.af,.af])]:=((Has.nil.cons (bw _ _ U (H.get _ (.tail _ (.tail _ (.head _))))) aG).cons (bw _ _ U (H.get _ (.tail _ (.head _)))) aG).cons (bw _ _ U (H.get _ (.head _))) aG;have b9K:=bw _ _ U eL;by_cases he:e=0
    ·rw[if_pos he] at ar;refine⟨_,ar.1,?_⟩;have a0i:=ar.2;refine aj ?_;refine W.cB H I I I I λbZ fc H bg=>?_;refine W.st H 0 I I I I I I λcG fF H b9=>?_;refine aj ?_;exact⟨rfl,rfl,⟨ck,b9 _ _ (by have:=ae.bE a0i;omega) (bg _ _ a0i),λh=>by omega,λ_=>⟨he,rfl⟩⟩,λi o hi ho=>b9 _ _ (by have:=ae.bE (nw _ _ hi ho);omega) (bg _ _ (bw _ _ hi (nw _ _ hi ho))),U,rfl,rfl,rfl,rfl,rfl,trivial⟩
    ·rw[if_neg he] at ar;rw[if_neg he];refine⟨_,ar.1,?_⟩;generalize(yY r gs).getD at_ (0,0)=r5;refine aj ?_;refine W.cB H I I I I λbZ fc H bg=>?_;refine W.st H 0 I I I I I I λcG fF H b9=>?_;refine aj ?_;refine W.st H 3 I I I I I I λdq iU H c9=>?_;refine aj ?_;refine W.st H 2 I I I I I I λeA jC H eu=>?_;refine aj ?_;refine W.st H 1 I I I I I I λe6 l_ H gX=>?_;refine aj ?_;have EE:=gX _ _ U (eu _ _ U (c9 _ _ U (b9 _ _ U (bg _ _ b9K))));have cn:=(jF (bU:=.dead) EE).2;refine ak.ret ?_;exact⟨rfl,EE,_,Zr (gW I (cn _ _ U (H.get _ (.tail _ (.tail _ (.tail _ (.head _)))))) I) (gW I (cn _ _ U (H.get _ (.tail _ (.tail _ (.head _))))) I) (gW I (cn _ _ U (H.get _ (.tail _ (.head _)))) I),a0e I⟩
   ·obtain⟨rfl,rfl⟩:=k6 U;refine W.mT I I I (b9C hh.PW hh.aL jH cW y0 (by have:=ab.lt;omega) ld bC) λv bl ⟨ar,M⟩=>⟨_,ar,?_⟩
    have H:=H.aS M.2;have qF:=M.1;refine aj ?_;refine W.cB H I I I I λbZ fc H bg=>?_;refine W.st H 0 I I I I I I λcG fF H b9=>?_;refine aj ?_;exact⟨rfl,rfl,⟨so,b9 _ _ (by have:=ae.bE jH;omega) (bg _ _ (M.2 _ _ jH)),λh=>by omega,λ_=>⟨rfl,rfl⟩⟩,λi o hi ho=>b9 _ _ (by have:=ae.bE (nw _ _ hi ho);omega) (bg _ _ (M.2 _ _ (nw _ _ hi ho))),U,rfl,rfl,rfl,rfl,rfl,trivial⟩
  ·obtain⟨⟨so,jH,kb,k6⟩,nw,sg,ib,gU,hs,lr,_⟩:=a0;obtain⟨rfl,rfl⟩:=k6 U;show bR _ _ _ _ _ _ _ _;refine ak.norm [(6,aT 2),(7,aT 3),(8,aT 4),(10,aT q)] ⟨ib,gU,hs,lr,trivial⟩ λg=>?_;have H:Has aM [(4,[ai 0]),(3,[.i .u8 0,ai 0,ai 0]),(2,[.af,.af]),(q,lx r F gs so .af)]:=(((Has.nil.cons jH aG).cons (nw _ _ U (H.get _ (.tail _ (.tail _ (.tail _ (.tail _ (.head _))))))) (by simp;omega)).cons (nw _ _ U (H.get _ (.tail _ (.tail _ (.tail _ (.head _)))))) (by simp;omega)).cons (nw _ _ U (H.get _ (.tail _ (.tail _ (.head _))))) (by simp;omega);have eL:=nw _ _ U a0h;refine aj ?_;refine W.st H 2 I I I I I I λdq iU H c9=>?_;refine aj ?_;refine W.st H 1 I I I I I I λeA jC H eu=>?_;refine aj ?_;refine W.st H 0 I I I I I I λe6 l_ H gX=>?_;refine aj ?_;have EE:=gX _ _ U (eu _ _ U (c9 _ _ U eL));have cn:=(jF (bU:=.dead) EE).2;refine ak.ret ?_;rw[if_pos I];exact⟨rfl,EE,_,Zr (gW I (cn _ _ U (H.get _ (.tail _ (.tail _ (.head _))))) I) (gW I (cn _ _ U (H.get _ (.tail _ (.head _)))) I) (gW I (cn _ _ U (H.get _ (.head _))) I),a0e (PX _)⟩
end
end
end Go.Lyc
end
