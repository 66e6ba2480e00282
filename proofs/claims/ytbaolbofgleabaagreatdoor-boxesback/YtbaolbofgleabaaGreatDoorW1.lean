/-
  What functions of the program compute: walks, part 1. No conditions: definitions and laws.
-/
import Derived.Test.YtbaolbofgleabaaGreatDoorNames
set_option linter.all false
noncomputable section
namespace Go.Lyc
def Av:=@List.drop_eq_getElem_cons
def SF:=@Nat.or_lt_two_pow
def MK:=@Nat.pow_lt_pow_right
def SG:=@Nat.two_pow_pos
def Aw:=@List.flatMap_append
def hr:=@List.length_nil
def jL:=@List.take_succ_eq_append_getElem
def jw:=@List.take_length
def Ax:=@List.filter_append
def sz:=@List.length_filter_le
def ML:=@List.set_eq_take_append_cons_drop
def SH:=@Bool.or_false
def SI:=@List.any_cons
def yo:=@List.range_succ
def yp:=@List.map_nil
def a1n:=@Bool.or_eq_false_iff
def a1o:=@List.length_replicate
def Dr:=@Bool.false_and
def Ay:=@List.mem_range
def wJ:=@List.map_id'
def oP:=@List.getElem_concat_length
def a1p:=@List.mem_or_eq_of_mem_set
def a1q:=@List.set_set_perm
def Ds:=@List.getElem?_append_right
def yq:=@List.getElem?_append_left
def G3:=@List.filterMap_append
def SJ:=@List.filterMap_cons
def a1r:=@List.length_filterMap_le
def a1s:=@List.filterMap_nil
variable {b:bJ}{K:Nat->List AV->AV->Prop}
set_option maxHeartbeats 0
set_option maxRecDepth 100000
variable [Tok][TokOk]
open Go.RowKit Go.Lyc.T
structure n3(W:Nat->Prop)(J ai:ad):Prop where
 next:J.next<=ai.next
 aD:∀i o,¬W i->J.get i=some o->ai.get i=some o
def n3.refl{W:Nat->Prop}{J:ad}:n3 W J J:=⟨a8 _,λ_ _ _ h=>h⟩
def n3.trans{W:Nat->Prop}{J bP cr:ad}(h:n3 W J bP)(h':n3 W bP cr):n3 W J cr:=⟨p5 h.next h'.next,λi o hi ho=>h'.aD i o hi (h.aD i o hi ho)⟩
def n3.of{W:Nat->Prop}{J bP:ad}(hn:J.next<=bP.next)(h:∀i o,J.get i=some o->bP.get i=some o):n3 W J bP:=⟨hn,λi o _ ho=>h i o ho⟩
structure a3(env:Env)(g:Nat)(cj:gr):Prop where
 f:env.funcs g=some cj
 e:env.ext g=0
 p:env.pure g=false
def W.m1{env:Env}{aK:Option Nat}{D:List (Nat ⊕ (AV×List AV))}{n:Nat}{c:b5}{l:List AV}{J:ad}{Q:dO}(h:∀z,Has J []->bo env aK D n c (bs (W.qw 0 l) z) J Q):bo env aK D n c (gy l) J Q:=W.args λz=>h z Has.nil
def W.sA{env:Env}{J:ad}{fn:Nat}{cj:gr}{body:b5}{dp:Nat}{first cap args:List AV}{R:ee->ad->Prop}(hh:a3 env fn cj)(hn:(Nat.beq (first++args++cap).length cj.kF&&Nat.ble (first++args++cap).length cj.ntmps)=true)(c0:cj.results=[(dp,none)])(oK:Nat.blt dp cj.ntmps=true)(h:∀z,Has J []->bo env none [] cj.ntmps body (bs (W.qw 0 (first++args++cap)) z) J (λx b9 ai=>x=.ret/\R (.ok (b9 dp)) ai))(hb:cj.body=some body:=by cbv):bb env 0 (.f (.func fn) first cap) args J R:=W.code hh.e hh.p hh.f hb hn c0 oK λz=>h z Has.nil
def W.d0S{env:Env}{J:ad}{fn:Nat}{cj:gr}{body:b5}{first cap args:List AV}{R:ee->ad->Prop}(hh:a3 env fn cj)(hn:(Nat.beq (first++args++cap).length cj.kF&&Nat.ble (first++args++cap).length cj.ntmps)=true)(c0:cj.results=[])(h:∀z,Has J []->bo env none [] cj.ntmps body (bs (W.qw 0 (first++args++cap)) z) J (λx _ ai=>(x=.ret\/x=.normal)/\R (.ok (.bg [])) ai))(hb:cj.body=some body:=by cbv):bb env 0 (.f (.func fn) first cap) args J R:=W.mV hh.e hh.p hh.f hb hn c0 λz=>h z Has.nil
def a1t{env:Env}(aq:a3 env yb x_)(o:Bool){W:Nat->Prop}{B:Nat}(hW:∀i,W i->i<B)(dq:List Fm->ad->Prop)(aL:∀l J ai,dq l J->J.next<=ai.next->(∀i o,J.get i=some o->ai.get i=some o)->dq l ai)(g2:AV)
  (hy:∀f rest J,f.kN->B<=J.next->dq (f::rest) J->bb env 0 g2 [f.A o] J (λr ai=>r= .ok (.b true)/\dq rest ai/\n3 W J ai)):
  ∀(d:Nat) (f:Fm) (rest:List Fm) (J:ad),f.dep<=d->f.kN->B<=J.next->dq (f.parts++rest) J->bb env 0 (.f (.func yb) [] []) [f.A o,g2] J (λr ai=>r= .ok (.b true)/\dq rest ai/\n3 W J ai)
 |0,f,_,_,h,_,_,_=>by rw[Fm.qu] at h;omega
 |d+1,F,rest,c8,hd,bL,b0,h0=>by
  refine bb.code aq.e aq.p aq.f (by cbv) I I I ?_;generalize aB:c8.next=k at b0;refine ah.seq (ah.region (az.box (v:=F.A o) (c:=F.cells o) k aB I I I I I λJ hn h1 bl=>?_));have wK:=aL _ _ _ h0 U bl;have fO:n3 W c8 J:=.of U bl;have kO:¬W k:=λh=>by have:=hW _ h;omega
  rw[Fm.parts_eq] at wK;refine j2 ?_;refine ah.seq (ah.seq (ah.region ?_));refine j2 ?_;refine az.cK h1 I I I (Fm.cK o F) ?_;refine az.iy I I I (hy F _ J bL U wK) λr τ ⟨aM,oQ,kP⟩=>⟨_,aM,?_⟩
  replace h1:=kP.aD _ _ kO h1;have iH:=kP.next;refine j2 ?_;refine ah.hJ I (λh=>by cases h) (λ_=>?_);refine ah.skip ?_;refine ah.seq (ah.seq (ah.region ?_));refine j2 ?_;refine az.cK h1 I I I (Fm.b4U o F) ?_;refine az.len I I I b4W ?_;refine j2 ?_;refine ah.block ?_;refine ah.loop (λm f ai=>k+1<=ai.next/\n3 W c8 ai/\∃i,i+m=F.sub.length/\dq (Fm.uY (F.sub.drop i)++rest) ai∧
   sat [(1,g2),(12,iW o F.gz),(13,ag F.sub.length),(14,ag i)] f) ?_ F.sub.length ⟨U,fO.trans kP,0,U,by rw[BW];exact oQ,dm⟩
  clear h1 wK oQ fO kP hn iH bl;intro m g J ⟨hn,fO,i,hi,wK,hL⟩;refine ah.norm _ hL λg=>?_;clear hL;refine F1 ?_;refine ah.hJ I (λht=>?_) (λhf=>?_)
  ·have hlt:i<F.sub.length:=of_decide_eq_true ht;have d0T:=bL.b4Y;rw[Av hlt,Fm.uY,iJ] at wK;generalize hg:F.sub[i]=G at wK;have a1u:G∈F.sub:=by rw[<-hg];exact bC hlt
   refine ah.skip (ah.seq (ah.block (ah.seq (ah.region ?_))));refine az.idx (v:=.df o (G.A o)) I I I I (by rw[<-hg];exact b4X hlt) ?_;refine az.K7 I I I (Fm.conf o G) ?_;refine az.var (v:=G.A o) (c:=G.cells o) J.next I I I I (Fm.conf o G) I (Fm.len o G) λτ iH aH bj=>?_;have kP:=fO.trans (.of (W:=W) U bj);have oQ:=aL _ _ _ wK U bj;refine az.nil (ah.seq (ah.region ?_));refine az.cK aH I I I (Fm.cK o G) ?_;refine j2 ?_;refine az.iy I I I (a1t aq o hW dq aL g2 hy d G _ τ (by have:=Fm.a0V a1u;omega) (bL.sb G a1u) U oQ) λr ax ⟨aM,G4,oR⟩=>⟨_,aM,?_⟩
   have qZ:=oR.next;refine j2 ?_;refine ah.hJ I (λh=>by cases h) (λ_=>?_);refine ah.skip ?_;refine ah.region ?_;refine az.bin (a:=ag i) (b:=ag 1) I I I I (rm U) ?_;refine j2 ?_;exact⟨m-1,U,U,kP.trans oR,i+1,U,G4,dm⟩
  ·have np:¬i<F.sub.length:=of_decide_eq_false hf;obtain rfl:i=F.sub.length:=by omega
   rw[List.drop_length] at wK;refine ah.exit ?_;refine F1 ?_;exact ah.ret ⟨rfl,rfl,wK,fO⟩
def b9a{env:Env}(aq:a3 env yb x_)(hw:a3 env wG Ai)(o:Bool){W:Nat->Prop}{B:Nat}(hW:∀i,W i->i<B)(dq:List Fm->ad->Prop)(aL:∀l J ai,dq l J->J.next<=ai.next->(∀i o,J.get i=some o->ai.get i=some o)->dq l ai)(g2:AV)
  (hy:∀f rest J,f.kN->B<=J.next->dq (f::rest) J->bb env 0 g2 [f.A o] J (λr ai=>r= .ok (.b true)/\dq rest ai/\n3 W J ai)) (F:Fm) (bL:F.kN) (rest:List Fm) (J:ad) (bN:Nat) (fY:J.get bN=some (.cells (F.cells o))) (b0:B<=J.next) (h0:dq (F.parts++rest) J):
  bb env 0 (.f (.func wG) [] [.p (some (bN,0))]) [g2] J (λr ai=>r= .ok (.bg [])/\dq rest ai/\n3 W J ai):=by
 refine bb.mV hw.e hw.p hw.f (by cbv) I I ?_;refine ah.region ?_;refine az.cK fY I I I (Fm.cK o F) ?_;refine j2 ?_;refine az.iy I I I (a1t aq o hW dq aL g2 hy _ F rest J (a8 _) bL b0 h0) λr τ ⟨aM,h1,h2⟩=>⟨_,aM,?_⟩
 refine j2 ?_;exact⟨.inr I,rfl,h1,h2⟩
def SK{env:Env}(hw:a3 env C9 C5)(o:Bool)(F:Fm)(J:ad)(k:Nat)(aB:J.next=k):bb env 0 (.f (.func C9) [] []) [F.A o] J (λr ai=>r= .ok (.f (.func wG) [] [.p (some (k,0))])/\ai.next=k+1/\ai.get k=some (.cells (F.cells o))/\∀i o,J.get i=some o->ai.get i=some o):=by
 refine bb.code hw.e hw.p hw.f (by cbv) I I I ?_;refine ah.seq (ah.region (az.box (v:=F.A o) (c:=F.cells o) k aB I I I I I λτ hn h1 bl=>?_));refine F1 ?_;exact ah.ret ⟨rfl,rfl,hn,h1,bl⟩
def cQ.walk{env:Env}{D:List (Nat ⊕ (AV×List AV))}{n:Nat}{f:Nat->AV}{J:ad}{Q:dO}(aq:a3 env yb x_)(hw:a3 env wG Ai)(o:Bool){dX:aJ}{p:Nat}{dw b:b5}{bN:Nat}{F:Fm}(W:Nat->Prop)(S:List Fm->ad->Prop)(k:Nat)(aB:J.next=k)
  (mn:dJ env n f dX=some (.f (.func wG) [] [.p (some (bN,0))])) (an:Nat.blt p n=true) (bL:F.kN) (fY:J.get bN=some (.cells (F.cells o))) (hW:∀i,W i->i<k) (ct:∀l J ai,S l J->(∀i o,W i->J.get i=some o->ai.get i=some o)->S l ai) (h0:S F.parts J)
  (wL:∀G rest τ,G.kN->k+2<=τ.next->S (G::rest) τ->bo env (some (k+1)) [] n dw (di f p (G.A o)) τ (λx f1 cx=>x= .normal/\n3 W τ cx∧
   ∀a5,a5.next=cx.next->(∀i o,i≠k+1->cx.get i=some o->a5.get i=some o)->bo env (some (k+1)) [] n b f1 a5 (λx _ bu=>x= .normal/\S rest bu/\n3 W a5 bu)))
  (wM:∀τ,S [] τ->k+2<=τ.next->τ.get k=some .c7->(∀i o,¬W i->J.get i=some o->τ.get i=some o)->Q .normal f τ):cQ env D (.inl k::D) n (.rangeFunc dX [p] dw b) f J Q:=by
 subst aB;refine cQ.range mn hw.e λao fM=>?_;generalize aB:J.next=k at *;have kO:∀i,W i->i<k:=hW;have pG:((J.push .c7).push (.loop .ready none ao [p] dw b k)).get (k+1)=some (.loop .ready none ao [p] dw b k):=by
  have:=ad.js (J:=J.push .c7) (.loop .ready none ao [p] dw b k);rwa[show(J.push .c7).next=k+1 from by show J.next+1=_;rw[aB]] at this
 have lD:∀i o,J.get i=some o->((J.push .c7).push (.loop .ready none ao [p] dw b k)).get i=some o:=λi o ho=>by
  have:=ad.a9 ho;rw[ad.fX trivial _ (show i<(J.push .c7).next from by show i<J.next+1;omega),ad.fX trivial _ this];exact ho
 have oS:((J.push .c7).push (.loop .ready none ao [p] dw b k)).get k=some .c7:=by
  rw[ad.fX trivial _ (show k<(J.push .c7).next from by show k<J.next+1;omega)];have:=ad.js (J:=J) .c7;rwa[aB] at this
 have jG:((J.push .c7).push (.loop .ready none ao [p] dw b k)).next=k+2:=by show J.next+1+1=_;rw[aB]
 generalize(J.push .c7).push (.loop .ready none ao [p] dw b k)=cr at *;refine(b9a aq hw o (W:=λi=>W i\/i=k+1) (B:=k+2) (λi hi=>by rcases hi with hi|hi;have:=kO i hi;omega;omega)
  (λl τ=>S l τ/\τ.get (k+1)=some (.loop .ready none ao [p] dw b k)/\k+2<=τ.next/\τ.get k=some .c7/\∀i o,¬W i->J.get i=some o->τ.get i=some o)
  (λl τ ax ⟨aQ,aZ,bX,cS,ed⟩ dg cD=>⟨ct _ _ _ aQ λi o _ ho=>cD i o ho,cD _ _ aZ,U,cD _ _ cS,λi o hi ho=>cD _ _ (ed i o hi ho)⟩) (.f (.yield (k+1)) [] []) ?_ F bL [] cr bN (lD _ _ fY) U ?_).mono ?_
 ·intro G rest τ dt b0 ⟨aQ,aZ,bX,cS,ed⟩;refine(bb.round (R:=λai=>(S rest ai/\ai.get (k+1)=some (.loop .ready none ao [p] dw b k)/\k+2<=ai.next/\ai.get k=some .c7/\∀i o,¬W i->J.get i=some o->ai.get i=some o)/\n3 (λi=>W i\/i=k+1) τ ai) (f:=f) (n:=n) aZ fM (by show cond (Nat.blt p n) _ _=true;rw[an];rfl) I ?_).mono λr ai h=>h;refine(wL G rest τ dt bX aQ).mono λx f1 cx ⟨aM,fO,h1⟩=>?_;have qB:¬W (k+1):=λh=>by have:=kO _ h;omega
  have jd:=fO.aD _ _ qB aZ;have eK:=hK (bF:=.loop .busy none ao [p] dw b k) jd;refine⟨aM,jd,(h1 (cx.set (k+1) (.loop .busy none ao [p] dw b k)) I (λi o hi ho=>eK.2 i o hi ho)).mono λx _ bu ⟨aU,sB,oR⟩=>?_⟩;have oT:=oR.aD _ _ qB eK.1;have lh:=hK (bF:=.loop .ready none ao [p] dw b k) oT;have cy:=fO.next;have dx:cx.next<=bu.next:=oR.next;have cG:∀i o,¬W i->i≠k+1->τ.get i=some o->(bu.set (k+1) (.loop .ready none ao [p] dw b k)).get i=some o:=λi o hi aY ho=>lh.2 i o aY (oR.aD i o hi (eK.2 i o aY (fO.aD i o hi ho)));refine⟨aU,oT,⟨ct _ _ _ sB λi o hi ho=>lh.2 i o (by have:=kO i hi;omega) ho,lh.1,by show k+2<=bu.next;omega,cG k _ (λh=>by have:=kO _ h;omega) U cS,λi o hi ho=>cG i o hi (by have:=ad.a9 ho;omega) (ed i o hi ho)⟩,⟨by show τ.next<=bu.next;omega,λi o hi ho=>cG i o (λh=>hi (.inl h)) (λh=>hi (.inr h)) ho⟩⟩
 ·rw[hI];exact⟨ct _ _ _ h0 λi o _ ho=>lD i o ho,pG,U,oS,λi o _ ho=>lD i o ho⟩
 ·rintro r τ ⟨aM,⟨aQ,aZ,bX,cS,ed⟩,_⟩;have eK:=hK (bF:=.loop .exhausted none ao [p] dw b k) aZ;exact⟨_,.ready,aM,aZ,ay,wM _ (ct _ _ _ aQ λi o hi ho=>eK.2 i o (by have:=kO i hi;omega) ho) bX (eK.2 _ _ U cS) λi o hi ho=>eK.2 i o (by have:=ad.a9 ho;omega) (ed i o hi ho)⟩
def wrap32{n:Nat}(h:n<2^32):IntKind.wrap .u32 (n:Int)=(n:Int):=by
 have h:(n:Int)<4294967296:=by omega
 simp only[IntKind.wrap,IntKind.bits,IntKind.signed];simp;omega
def ofInt32(n:Nat)(h:n<2^32):(BitVec.ofInt IntKind.u32.bits (Int.ofNat n)).toNat=n:=by
 simp[IntKind.bits];omega
def b9b{a b:Nat}(ha:a<2^32)(hb:b<2^32):binop .or (.i .u32 (Int.ofNat a)) (.i .u32 (Int.ofNat b))=some (.i .u32 (Int.ofNat (a ||| b))):=by
 have h:(BitVec.ofInt IntKind.u32.bits (Int.ofNat a) ||| BitVec.ofInt IntKind.u32.bits (Int.ofNat b)).toNat=a ||| b:=by
  rw[BitVec.toNat_or,ofInt32 a ha,ofInt32 b hb]
 show some (AV.i .u32 (IntKind.wrap .u32 ((BitVec.ofInt IntKind.u32.bits (Int.ofNat a) ||| BitVec.ofInt IntKind.u32.bits (Int.ofNat b)).toNat:Int)))=_;rw[h,wrap32 (SF ha hb)];rfl
def b9c{k:IntKind}{a:Nat}(h:a<32):binop .shl (.i .u32 (Int.ofNat 1)) (.i k (Int.ofNat a))=some (.i .u32 (Int.ofNat (2^a))):=by
 show(if(Int.ofNat a)<0 then none else some (AV.i .u32 (IntKind.wrap .u32 (Int.ofNat 1*2^(min (Int.ofNat a).toNat IntKind.u32.bits)))))=_;rw[if_neg ay];have e:min (Int.ofNat a).toNat IntKind.u32.bits=a:=by show min a 32=a;omega
 rw[e];have:(Int.ofNat 1*2^a:Int)=((2^a:Nat):Int):=by show(1:Int)*_=_;rw[Int.one_mul];simp
 rw[this,wrap32 (MK U h)];rfl
def sC(f:Fm):Nat:=if f.op<32 then 2^f.op else 0
def yr(l:List Fm)(m:Nat):Nat:=l.foldl (λm f=>m ||| sC f) m
def ys(f:Fm):Nat:=yr f.parts 0
def b9d(f:Fm):sC f<2^32:=by
 unfold sC;split
 ·exact MK U ‹_›
 ·exact SG _
def a1v:∀ {l:List Fm} {m:Nat},m<2^32->yr l m<2^32
 |[],_,h=>h
 |f::l,m,h=>by
  show yr l (m ||| sC f)<_;exact a1v (SF h (b9d f))
def b9e{b:bJ}{K:Nat->List AV->AV->Prop}(aq:a3 (b.aF K) yb x_)(lB:a3 (b.aF K) wG Ai)(hw:a3 (b.aF K) C9 C5)(F:Fm)(bL:F.kN)(body:b5)(hb:Sd.body=some body):
  cQ (b.aF K) [] [.inl 3] 17 body (gy [F.A true]) ⟨.nil,0⟩ (λx f ai=>x= .ret/\ai.get 3=some .c7/\freeze (ai.set 3 .dead) 0 1000 (f 2)=some (.i .u32 (Int.ofNat (ys F)))):=by
 cbv at hb
 cases hb;refine cQ.j1 (ah.region (az.box (v:=F.A true) (c:=F.cells true) 0 I I I I I I λbP jf h1 _=>?_));refine j2 ?_;refine⟨rfl,cQ.j1 (ah.region (az.alloc 1 jf I I I λcr iH h2 bj=>?_))⟩;replace h1:=bj _ _ h1;refine j2 ?_;refine⟨rfl,cQ.wC (cQ.j1 (ah.region ?_))⟩;refine az.cK h1 I I I (Fm.cK true F) ?_;refine az.iy I I I (SK hw true F cr 2 iH) λr J ⟨aM,hn,h3,k3⟩=>⟨_,aM,?_⟩
 replace h1:=k3 _ _ h1;replace h2:=k3 _ _ h2;refine j2 ?_;refine⟨rfl,cQ.block ?_⟩;refine cQ.walk aq lB true (λi=>i=1) (λl τ=>∃m,m<2^32/\yr l m=ys F/\τ.get 1=some (.cells [.i .u32 (Int.ofNat m)])) 3 hn I I bL h3 (λi hi=>by omega) (λl τ ax ⟨m,aQ,aZ,bX⟩ aB=>⟨m,aQ,aZ,aB _ _ I bX⟩) ⟨0,SG _,rfl,h2⟩ ?_ ?_
 ·intro G rest τ dt Az ⟨m,aQ,aZ,bX⟩;refine ah.region ?_;refine az.var (v:=G.A true) (c:=G.cells true) τ.next I I I I (Fm.conf true G) I (Fm.len true G) λcx uN aH bI=>?_;refine az.nil ⟨rfl,.of U bI,λa5 Kn cP=>?_⟩;replace aH:=cP _ _ U aH;replace bX:=cP _ _ U (bI _ _ bX);refine ah.block (ah.seq (ah.region ?_));refine j2 ?_;refine az.cK aH I I I (Fm.su true G) ?_;refine j2 ?_;refine ah.hJ I (λh=>?_) (λh=>?_)
  ·have dS:G.op<32:=of_decide_eq_true h;have MM:sC G=2^G.op:=by unfold sC;rw[if_pos dS]
   refine ah.region ?_;refine a1c ?_;refine az.cK aH I I I (Fm.su true G) ?_;refine az.bin (a:=.i .u32 (Int.ofNat 1)) (b:=.i .u8 (Int.ofNat G.op)) I I I I (b9c dS) ?_;refine az.bin (a:=.i .u32 (Int.ofNat m)) (b:=.i .u32 (Int.ofNat (2^G.op))) I I I I (b9b aQ (MK U dS)) ?_;refine az.store (bc:=[.i .u32 (Int.ofNat (m ||| 2^G.op))]) bX I I I I I λbu Zk cE dI=>?_;exact az.nil ⟨rfl,⟨_,SF aQ (MK U dS),by rw[<-aZ,← MM];rfl,cE⟩,⟨U,λi o hi ho=>dI i o hi ho⟩⟩
  ·have dS:¬G.op<32:=of_decide_eq_false h;have MM:sC G=0:=by unfold sC;rw[if_neg dS]
   exact ah.skip ⟨rfl,⟨m,aQ,by rw[<-aZ];show yr rest m=yr rest (m ||| sC G);rw[MM,Nat.or_zero],bX⟩,.refl⟩
 ·intro τ ⟨m,aQ,aZ,bX⟩ Az hd _;refine⟨rfl,rfl,?_⟩;refine ah.seq (ah.region ?_);refine a1c ?_;refine ah.ret ⟨rfl,hd,?_⟩;show some (AV.i .u32 (Int.ofNat m))=_;rw[<-aZ];rfl
abbrev uB(c:Nat):AV:=.i .u8 (Int.ofNat c)
section
variable {b:bJ}{K:Nat->List AV->AV->Prop}(hf:∀g aO r bR,K g aO r->K g aO bR->r=bR)
abbrev oU(d:Nat)(r:AV):dO:=λx f ai=>x= .ret/\freeze ai 0 1000 (f d)=some r
end
def b9f(op:Nat):Bool:=decide (1<=op)&&decide (op<=14)
def SL(op:Nat):Bool:=decide (1<=op)&&decide (op<=16)
def u4(op:Nat):Nat:=if op=1 then 1 else if op=8\/op=9 then 2 else if op=15\/op=16 then 3 else 0
def MN(op:Nat):Nat:=if op=1 then 4 else if op=16 then 2 else 0
def b9g(op:Nat):Nat:=if op=3\/op=8\/op=9\/op=10\/op=11\/op=12\/op=13 then 1 else if op=4\/op=5\/op=6\/op=7\/op=14 then 2 else 0
def b9h(op:Nat):List AV:=[.b (b9f op),.b (SL op),.i .u8 (Int.ofNat (u4 op)),ag (MN op),ag (b9g op)]
def MO:List AV:=(List.range 17).flatMap b9h
def b9i{ar:aJ->Option AV}{J:ad}{k:IntKind}{x:aJ}{a:Nat}(h1:ar x=some (.i k (Int.ofNat a)))(h:a<2^63):opx 0 ar J (.conv .i64 x)=some (.val (ag a) J):=by
 show(match ar x with|some (.i _ n)=>some (bO.val (.i .i64 (wrapN .i64 n)) J)|some (.ih _ d j)=>some (.val (.ih .i64 d j) J)|_=>none)=_;rw[h1];show some (bO.val (.i .i64 (wrapN .i64 (Int.ofNat a))) J)=_;rw[K6 h]
inductive Sl(J:ad)(ab:Option Nat):AV->List AV->Prop
 |nil:Sl J ab .nilsl []
 |ao (o:Nat) (cap:Option Nat) (xs rest:List AV) (h:J.get o=some (.cells (xs.flatMap AV.cells++rest))) (aa:∀y∈xs,conf ab y=true) (aB:cap=none\/cap=some xs.length):Sl J ab (.ao o 0 xs.length ab cap) xs
def Sl.aD{J τ:ad}{ab:Option Nat}{v:AV}{xs:List AV}(h:Sl J ab v xs)(k:∀i o,v.at? =some i->J.get i=some o->τ.get i=some o):Sl τ ab v xs:=by
 cases h with
 |nil=>exact .nil
 |ao o cap xs rest h aa aB=>exact .ao o cap xs rest (k _ _ I h) aa aB
def Sl.conf{J:ad}{ab:Option Nat}{v:AV}{xs:List AV}(h:Sl J ab v xs):∀y∈xs,conf ab y=true:=by
 cases h with
 |nil=>intro y hy;simp at hy
 |ao o cap xs rest h aa aB=>exact aa
def Sl.lf{J:ad}{ab:Option Nat}{v:AV}{xs:List AV}(h:Sl J ab v xs):v.lf=true:=by cases h<;>rfl
def Sl.jm{J:ad}{ab:Option Nat}{v:AV}{xs:List AV}(h:Sl J ab v xs):Go.Lyc.conf none v=true:=by cases h<;>rfl
def Sl.j3{J:ad}{ab:Option Nat}{v:AV}{xs:List AV}(h:Sl J ab v xs):v.cells=[v]:=by cases h<;>rfl
def Sl.G5{J:ad}{ab:Option Nat}{v:AV}{xs:List AV}(h:Sl J ab v xs):v.val=true:=by cases h<;>rfl
def Sl.len{J τ:ad}{ab:Option Nat}{v:AV}{xs:List AV}(h:Sl J ab v xs):lenA τ 1 v=some xs.length:=by cases h<;>rfl
def Sl.lt{J:ad}{ab:Option Nat}{v:AV}{xs:List AV}(h:Sl J ab v xs){i:Nat}(hi:v.at? =some i):i<J.next:=by
 cases h with
 |nil=>cases hi
 |ao o cap xs rest h aa aB=>cases hi;exact ad.a9 h
def SM{ab:Option Nat}:∀ {xs:List AV} {rest:List AV},(∀y∈xs,Go.Lyc.conf ab y=true)->∀(j:Nat) (aA:j<xs.length),∃r,(xs.flatMap AV.cells++rest).drop (j*shN ab)=(xs[j]).cells++r/\dE ab ((xs[j]).cells++r)=some xs[j]
 |[],_,_,j,aA=>by simp at aA
 |x::xs,rest,h,0,_=>⟨xs.flatMap AV.cells++rest,by rw[E2,BW,lR,iJ];rfl,(FW (h x ay)).1⟩
 |x::xs,rest,h,j+1,aA=>by
  obtain⟨r,h1,h2⟩:=SM (rest:=rest) (λy hy=>h y (g1 _ hy)) j (by simpa using aA);refine⟨r,?_,h2⟩;rw[lR,iJ,show(j+1)*shN ab=shN ab+j*shN ab from by rw[Nat.succ_mul,rY],← pj,(FW (h x ay)).2,h1];rfl
def Sl.gb{J:ad}{ab:Option Nat}{v:AV}{xs:List AV}(h:Sl J ab v xs){j:Nat}(aA:j<xs.length):∃o c r,v.at? =some o/\idxSlA ab v j=some (.p (some (o,j*shN ab)))/\J.get o=some (.cells c)/\c.drop (j*shN ab)=(xs[j]).cells++r/\dE ab (c.drop (j*shN ab))=some xs[j]:=by
 cases h with
 |nil=>simp at aA
 |ao o cap xs rest h aa aB=>
  obtain⟨r,h1,h2⟩:=SM (rest:=rest) aa j aA;refine⟨o,_,r,rfl,?_,h,h1,by rw[h1];exact h2⟩;have h3:Nat.blt j xs.length=true:=kE aA;simp only[idxSlA,h3,decide_true,PB,if_true,nq]
def Sl.read{J:ad}{ab:Option Nat}{v:AV}{xs:List AV}(h:Sl J ab v xs):readList J v=some xs:=by
 cases h with
 |nil=>rfl
 |ao o cap xs rest h aa aB=>
  show(match J.get o with|some (.cells c)=>elems ab xs.length (c.drop 0)|_=>none)=_;rw[h];exact K_ aa
def b9j{xs:List AV}(k:Nat):xs.flatMap AV.cells=(xs.take k).flatMap AV.cells++(xs.drop k).flatMap AV.cells:=by
 rw[<-Aw,wa]
def Sl.cut{J:ad}{ab:Option Nat}{v:AV}{xs:List AV}(h:Sl J ab v xs)(hn:∀o l c,v= .ao o 0 l ab c->c=none){ar:aJ->Option AV}{hi:aJ}{k:Nat}(aB:k<=xs.length)(he:ar hi=some (ag k)):∃w,sliceA ar ab v none (some hi) none=some w/\Sl J ab w (xs.take k)/\w.at? =v.at? ∧∀o l c,w= .ao o 0 l ab c->c=none:=by
 have hb:∀d,bndO ar (some hi) d=some k:=λd=>by show(match ar hi with|some v=>natOf v|none=>none)=_;rw[he];rfl
 cases h with
 |nil=>
  obtain rfl:k=0:=by simpa using aB
  refine⟨.nilsl,?_,.nil,rfl,λ_ _ _ h=>by cases h⟩;show(match bndO ar none 0,bndO ar (some hi) 0,bndO ar none 0 with|some 0,some 0,some 0=>some AV.nilsl|_,_,_=>none)=_;rw[hb];rfl
 |ao o cap xs rest h aa il=>
  obtain rfl:=hn o xs.length cap I;refine⟨.ao o 0 k ab none,?_,?_,rfl,λ_ _ _ h=>by cases h;rfl⟩
  ·have h1:Nat.ble 0 k=true:=kE (jD k);have h2:(Nat.ble k xs.length&&Nat.beq 0 0)=true:=by rw[kE aB];rfl
   have h0:bndO ar none 0=some 0:=rfl;simp only[sliceA,if_true,h0,hb,h1,h2]
  ·have e:(xs.take k).length=k:=by rw[g6];omega
   have:=Sl.ao (ab:=ab) o none (xs.take k) ((xs.drop k).flatMap AV.cells++rest) (by rw[h,b9j k,iJ]) (λy hy=>aa y (pe hy)) (.inl I);rwa[e] at this
def Sl.append{J:ad}{ab:Option Nat}{v x:AV}{xs ba:List AV}{y:AV}{bytes:Nat}(h:Sl J ab v xs)(hx:newOf J x=some (y::ba))(aa:∀z∈y::ba,Go.Lyc.conf ab z=true)(hb:(3*(xs.length+(y::ba).length)+2000)*bytes<=281474976710656):
  ∃bn ai,appendO 0 J ab bytes v x=some (bn,ai)/\Sl ai ab bn (xs++y::ba)/\bn.at? =some J.next/\(∀o l c,bn= .ao o 0 l ab c->c=none)/\ai.next=J.next+1/\∀i o,v.at? ≠some i->J.get i=some o->ai.get i=some o:=by
 have oI:=h.conf;have hall:(cN (Go.Lyc.conf ab) xs&&cN (Go.Lyc.conf ab) (y::ba)&&Nat.ble ((3*(xs.length+(y::ba).length)+2000)*bytes) 281474976710656)=true:=by
  rw[jI oI,jI aa,kE hb];rfl
 have ak:=h.read;have mk:∀τ:ad,τ.next=J.next->Sl (τ.push (.cells (xs.flatMap AV.cells++(y::ba).flatMap AV.cells))) ab (.ao J.next 0 (xs.length+(y::ba).length) ab none) (xs++y::ba):=λτ Az=>by
  have:=Sl.ao (J:=τ.push (.cells (xs.flatMap AV.cells++(y::ba).flatMap AV.cells))) (ab:=ab) J.next none (xs++y::ba) [] (by rw[<-Az,ad.js,Aw,hI]) (λz a_=>by
   rcases eX.1 a_ with a_|a_
   ·exact oI z a_
   ·exact aa z a_) (.inl I)
  rwa[c5] at this
 cases h with
 |nil=>
  refine⟨.ao J.next 0 (y::ba).length ab none,J.push (.cells ((y::ba).flatMap AV.cells)),?_,?_,rfl,λ_ _ _ h=>by cases h;rfl,rfl,λi o _ ho=>by rw[ad.fX trivial _ (ad.a9 ho)];exact ho⟩
  ·unfold appendO;rw[hx];show cond _ _ none=_;rw[hall];rfl
  ·have:=mk J I;simpa using this
 |ao o cap xs rest h e6 il=>
  have hd:∀i bF,i≠o->J.get i=some bF->((J.set o .dead).push (.cells (xs.flatMap AV.cells++(y::ba).flatMap AV.cells))).get i=some bF:=λi bF aY ho=>by
   have hlt:=ad.a9 ho;rw[ad.fX trivial _ (show i<(J.set o .dead).next from hlt),ad.kf trivial _ (ad.a9 h),if_neg aY];exact ho
  rcases il with rfl|rfl
  ·refine⟨.ao J.next 0 (xs.length+(y::ba).length) ab none,(J.set o .dead).push (.cells (xs.flatMap AV.cells++(y::ba).flatMap AV.cells)),?_,mk _ I,rfl,λ_ _ _ h=>by cases h;rfl,rfl,λi bF aY ho=>hd i bF (λe=>aY (by rw[e];rfl)) ho⟩;unfold appendO;rw[ak,hx];show cond _ _ none=_;rw[hall,cond_true];show(if ab=ab then(if Nat.blt o 0 then none else if Nat.beq 0 0 then some (AV.ao J.next 0 (xs.length+(y::ba).length) ab none,(J.set o .dead).push (.cells (xs.flatMap AV.cells++(y::ba).flatMap AV.cells))) else none) else none)=_;rw[if_pos I,if_neg (by simp[Nat.blt,Nat.ble]),if_pos (by rfl)]
  ·refine⟨.ao J.next 0 (xs.length+(y::ba).length) ab none,J.push (.cells (xs.flatMap AV.cells++(y::ba).flatMap AV.cells)),?_,mk _ I,rfl,λ_ _ _ h=>by cases h;rfl,rfl,λi bF _ ho=>by rw[ad.fX trivial _ (ad.a9 ho)];exact ho⟩;unfold appendO;rw[ak,hx];show cond _ _ none=_;rw[hall,cond_true];show(if ab=ab then cond (Nat.ble (xs.length+(y::ba).length) xs.length) _ (some (AV.ao J.next 0 (xs.length+(y::ba).length) ab none,J.push (.cells (xs.flatMap AV.cells++(y::ba).flatMap AV.cells)))) else none)=_;rw[if_pos I,show Nat.ble (xs.length+(y::ba).length) xs.length=false from by rw[a0A];intro h;have:=g7 h;simp only[fw] at this;omega];rfl
namespace W
section
variable {cb:jv}{env:Env}{aK:Option Nat}{D:List (Nat ⊕ (AV×List AV))}{n:Nat}{F:List (Nat×AV)}{z:Nat->AV}{J:ad}{Q:dO}
def sD{d:Nat}{ab:Option Nat}{x:aJ}{g:Option (Nat×Bool)}{ops:List a2}{id off:Nat}{c:List AV}{v:AV}(al:J.get id=some (.cells c))(hd:Nat.blt d n=true)(hw:wtL g n F=true)(h1:cL env n F z x=some (.p (some (id,off))))(h2:dE ab (c.drop off)=some v)(h:bM cb env aK D n ops (bs ((d,v)::F) z) J Q):bM cb env aK D n (⟨some d,.load ab x,g,[]⟩::ops) (bs F z) J Q:=val hd hw (nZ _ _ h1 (tv al h2)) h
def AA{N:Nat}{cu:kB}{d:Nat}{ab:Option Nat}{x:aJ}{g:Option (Nat×Bool)}{wn:List Nat}{ops:List a2}{id off:Nat}{c:List AV}{v:AV}(al:J.get id=some (.cells c))(hd:Nat.blt d n=true)(hw:wtL g n F=true)(h1:cL env n F z x=some (.p (some (id,off))))(h2:dE ab (c.drop off)=some v)(aq:AV.eqb env.bh v v=true)
  (h:bM (.dp N (wn.map (λq=>(q,id,AO.cells c))++cu)) env aK D n ops (bs ((d,v)::F) z) J Q):bM (.dp N cu) env aK D n (⟨some d,.load ab x,g,wn⟩::ops) (bs F z) J Q:=dy.jK al hd (sv hw) (λs al=>by rw[nx];exact nZ _ _ h1 (tv al h2)) aq h
def le{d:Nat}{ab:Option Nat}{x:aJ}{g:Option (Nat×Bool)}{ops:List a2}{a v:AV}(hd:Nat.blt d n=true)(hw:wtL g n F=true)(h1:cL env n F z x=some a)(h2:qQ J ab a=some v)(h:bM cb env aK D n ops (bs ((d,v)::F) z) J Q):bM cb env aK D n (⟨some d,.load ab x,g,[]⟩::ops) (bs F z) J Q:=val hd hw (nZ _ _ h1 h2) h
def bV{L:List (Nat×List AV)}(H:Has J L){d m:Nat}{ab:Option Nat}{hs:List AV}{aE:List (Nat×aJ)}{g:Option (Nat×Bool)}{ops:List a2}{c:List AV}{k:Nat}(hn:J.next=k)(hd:Nat.blt d n=true)(hw:wtL g n F=true)(hl:ja (cL env n F z) (λi b1=>i*b1) (aE.map λp=>(p.1,shN ab,p.2)) (hQ m hs)=some c)
  (h:∀τ:ad,τ.next=k+1->Has τ ((k,c)::L)->(∀i o,J.get i=some o->τ.get i=some o)->bM cb env aK D n ops (bs ((d,.ao k 0 m ab (some m))::F) z) τ Q):bM cb env aK D n (⟨some d,.buildSlice ab m hs aE,g,[]⟩::ops) (bs F z) J Q:=by
 subst hn;have bA:∀i o,J.get i=some o->(J.push (.cells c)).get i=some o:=λi o ho=>by rw[ad.fX trivial _ (ad.a9 ho)];exact ho
 refine val (v:=.ao J.next 0 m ab (some m)) (ai:=J.push (.cells c)) hd hw ?_ (h (J.push (.cells c)) I (H.push I (ad.js _) bA) bA);show(match ja (cL env n F z) (λi b1=>i*b1) (aE.map λp=>(p.1,shN ab,p.2)) (hQ m hs) with
  |some c=>some (bO.val (.ao J.next 0 m ab (some m)) (J.push (.cells c)))
  |none=>none)=_
 rw[hl]
def ap{d:Nat}{ab:Option Nat}{bytes:Nat}{s x:aJ}{g:Option (Nat×Bool)}{ops:List a2}{v w:AV}{xs:List AV}(y:AV)(ba:List AV)(hA:Sl J ab v xs)(hx:newOf J w=some (y::ba))(aa:∀z∈y::ba,Go.Lyc.conf ab z=true)(hb:(3*(xs.length+(y::ba).length)+2000)*bytes<=281474976710656)(hd:Nat.blt d n=true)(hw:wtL g n F=true)(h1:cL env n F z s=some v)(h2:cL env n F z x=some w)
  (h:∀bn τ,Sl τ ab bn (xs++y::ba)->bn.at? =some J.next->(∀o l c,bn= .ao o 0 l ab c->c=none)->τ.next=J.next+1->(∀i o,v.at? ≠some i->J.get i=some o->τ.get i=some o)->bM cb env aK D n ops (bs ((d,bn)::F) z) τ Q):bM cb env aK D n (⟨some d,.append ab bytes s x,g,[]⟩::ops) (bs F z) J Q:=by
 obtain⟨bn,τ,e,a,b,c,iE,d_⟩:=hA.append hx aa hb;refine val (v:=bn) (ai:=τ) hd hw ?_ (h bn τ a b c iE d_);show(match cL env n F z s,cL env n F z x with|some s,some x=>(match appendO 0 J ab bytes s x with|some (v,J)=>some (bO.val v J)|none=>none)|_,_=>none)=_;rw[h1,h2];show(match appendO 0 J ab bytes v w with|some (v,J)=>some (bO.val v J)|none=>none)=_;rw[e]
def pu{d d0:Nat}{ab:Option Nat}{bytes:Nat}{hs:List AV}{aE:List (Nat×aJ)}{s:aJ}{g bz:Option (Nat×Bool)}{ops:List a2}{v:AV}{xs c:List AV}(y:AV)(hA:Sl J ab v xs)(hd:Nat.blt d n=true)(ml:Nat.blt d0 n=true)(hw:wtL g n F=true)(hl:ja (cL env n F z) (λi b1=>i*b1) (aE.map λp=>(p.1,shN ab,p.2)) (hQ 1 hs)=some c)(hy:elems ab 1 c=some [y])(g4:Go.Lyc.conf ab y=true)
  (kA:wtL bz n ((d0,.ao J.next 0 1 ab (some 1))::F)=true) (h1:cL env n ((d0,.ao J.next 0 1 ab (some 1))::F) z s=some v) (h2:Nat.beq d0 d0=true) (hb:(3*(xs.length+1)+2000)*bytes<=281474976710656)
  (h:∀bn τ,Sl τ ab bn (xs++[y])->bn.at? =some (J.next+1)->(∀o l c,bn= .ao o 0 l ab c->c=none)->τ.next=J.next+2->(∀i o,v.at? ≠some i->J.get i=some o->τ.get i=some o)->bM cb env aK D n ops (bs ((d,bn)::(d0,.ao J.next 0 1 ab (some 1))::F) z) τ Q):
  bM cb env aK D n (⟨some d0,.buildSlice ab 1 hs aE,g,[]⟩::⟨some d,.append ab bytes s (.t d0),bz,[]⟩::ops) (bs F z) J Q:=by
 refine bV Has.nil I ml hw hl λcx cy H1 bl=>?_;have mg:=H1.qx;refine ap (w:=.ao J.next 0 1 ab (some 1)) y [] (hA.aD λi o _=>bl i o) ?_ (λz a_=>by rw[cA.1 a_];exact g4) hb hd kA h1 ?_ λbn τ aQ aZ bX cS ed=>h bn τ aQ (by rw[aZ,cy]) bX (by rw[cS,cy]) λi o hi ho=>ed i o hi (bl i o ho)
 ·show readList cx (.ao J.next 0 1 ab (some 1))=_;show(match cx.get J.next with|some (.cells c)=>elems ab 1 (c.drop 0)|_=>none)=_;rw[mg];exact hy
 ·show cond (Nat.blt d0 n) (match cond (Nat.beq d0 d0) (some _) _ with|some v=>some v|none=>some (z d0)) none=_;rw[ml,h2];rfl
end
end W
structure a7 where
 bK:Nat
 op:Nat
 hyp:Bool
 f:Fm
 bH:List Nat
 cs:List (Nat×Nat)
abbrev br(F:Fm):List AV:=[uB F.op,.s F.name,jJ true F.gW,iW true F.gz]
def j4(F:Fm):F.A true= .aj (br F):=by unfold Fm.A;rw[Fm.kj]
abbrev l6(o:Bool)(l:List (Nat×Nat)):AV:=slA o (some 2) (l.map λc=>.aj [ag c.1,ag c.2])
abbrev a7.A(x:a7):AV:=.aj [ag x.bK,ag x.op,.b x.hyp,uB x.f.op,.s x.f.name,jJ true x.f.gW,iW true x.f.gz,.s x.bH,l6 true x.cs]
abbrev ck(L:List a7):AV:=.aV true (some 9) (L.map a7.A)
def Dt{L:List a7}{j:Nat}(h:j<L.length):idxSlA (some 9) (ck L) j=some (.df true (L[j]).A):=by
 have:=CO (o:=true) (ab:=some 9) (f:=a7.A) h;cases L with
 |nil=>simp at h
 |cons x l=>exact this
def MP{J:ad}{L:List a7}:lenA J 1 (ck L)=some L.length:=by show some (L.map a7.A).length=_;rw[bB]
@[irreducible] def Du (ab:Option Nat) (v:AV) (j:Nat):AV:=(idxSlA ab v j).getD .fx
def tE{ab:Option Nat}{v w:AV}{j:Nat}(h:idxSlA ab v j=some w):Du ab v j=w:=by unfold Du;rw[h];rfl
structure Vw(J:ad)(ab:Option Nat)(v:AV)(xs:List AV):Prop where
 len:∀τ,lenA τ 1 v=some xs.length
 eg:∀ {j},j<xs.length->idxSlA ab v j=some (Du ab v j)
 cK:∀ {j} (h:j<xs.length),qQ J ab (Du ab v j)=some xs[j]
structure lj(J:ad)(v:AV)(l:List Nat):Prop where
 len:∀τ,lenA τ 1 v=some l.length
 eg:∀ {j},j<l.length->idxSlA none v j=some (Du none v j)
 cK:∀ {j} (h:j<l.length),qQ J none (Du none v j)=some (ag l[j])
def Sl.vw{J:ad}{ab:Option Nat}{v:AV}{xs:List AV}(h:Sl J ab v xs):Vw J ab v xs:=
 ⟨λτ=>h.len,λ{j} aA=>by obtain⟨o,c,r,h0,h1,_⟩:=h.gb aA;rw[tE h1];exact h1,λ{j} aA=>by
  obtain⟨o,c,r,h0,h1,h2,h3,aH⟩:=h.gb aA;rw[tE h1];exact tv h2 aH⟩
def Vw.kQ{J:ad}{v:AV}{l:List Nat}(h:Vw J none v (l.map ag)):lj J v l:=
 ⟨λτ=>by rw[h.len,bB],λaA=>h.eg (by rw[bB];exact aA),λaA=>by rw[h.cK (by rw[bB];exact aA),ez]⟩
def Sl.kQ{J:ad}{v:AV}{l:List Nat}(h:Sl J none v (l.map ag)):lj J v l:=h.vw.kQ
def AB{J:ad}{ab:Option Nat}{o:Bool}{xs:List AV}(aa:∀y∈xs,conf ab y=true):Vw J ab (slA o ab xs) xs:=
 ⟨λτ=>a0R τ o ab xs,λaA=>by rw[tE (FT aA)];exact FT aA,λ{j} aA=>by
  rw[tE (FT aA)];show(if conf ab xs[j] then some xs[j] else none)=_;rw[if_pos (aa _ (bC aA))]⟩
abbrev eL(J:ad)(v:AV)(l:List Nat):Prop:=Sl J none v (l.map ag)
def Sl.b9k{J:ad}{v:AV}{l:List Nat}(h:eL J v l){ar:aJ->Option AV}{hi:aJ}{k:Nat}(aB:k<=l.length)(he:ar hi=some (ag k)):∃w,sliceA ar none v none (some hi) none=some w/\lj J w (l.take k):=by
 by_cases hn:∀o l c,v= .ao o 0 l none c->c=none
 ·obtain⟨w,h1,h2,_⟩:=h.cut hn (k:=k) (by rw[bB];exact aB) he;exact⟨w,h1,Sl.kQ (by rw[JA];exact h2)⟩
 ·have h':=h;unfold eL at h';generalize hm:l.map ag=xs at h';cases h' with
  |nil=>exact absurd (λ_ _ _ h=>by cases h) hn
  |ao o cap xs rest hg aa il=>
   have hlen:xs.length=l.length:=by rw[<-hm,bB]
   rcases il with rfl|rfl
   ·exact absurd (λ_ _ _ h=>by cases h;rfl) hn
   ·refine⟨.ao o 0 k none (some xs.length),?_,?_⟩
    ·have hb:bndO ar (some hi) xs.length=some k:=by show(match ar hi with|some v=>natOf v|none=>none)=_;rw[he];rfl
     have h1:Nat.ble 0 k=true:=kE (jD k);have h2:Nat.ble k xs.length=true:=kE U;have h0:bndO ar none 0=some 0:=rfl;simp only[sliceA,if_true,h0,hb,h1,h2,E2,uh,ite_self,RI]
    ·have ps:(l.take k).length=k:=by rw[g6];omega
     have hx:∀ {j},j<k->idxSlA none (.ao o 0 k none (some xs.length)) j=some (.p (some (o,j))):=λ{j} aA=>by
      rw[jl aA,nq,show j*shN none=j from KZ j]
     refine⟨λτ=>by rw[ps];rfl,λ{j} aA=>?_,λ{j} aA=>?_⟩
     ·rw[tE (hx U)];exact hx U
     ·rw[tE (hx U)];obtain⟨r,aQ,aZ⟩:=SM (rest:=rest) aa j U;rw[show j*shN none=j from KZ j] at aQ;refine tv hg ?_;rw[aQ,aZ,sW];subst hm;rw[ez]
def W.MQ{cb:jv}{env:Env}{aK:Option Nat}{D:List (Nat ⊕ (AV×List AV))}{n:Nat}{F:List (Nat×AV)}{z:Nat->AV}{J:ad}{Q:dO}{d:Nat}{x hi:aJ}{g:Option (Nat×Bool)}{ops:List a2}{v:AV}{l:List Nat}{k:Nat}(h:eL J v l)(aB:k<=l.length)(hd:Nat.blt d n=true)(hw:wtL g n F=true)(h1:cL env n F z x=some v)(h2:cL env n F z hi=some (ag k))
  (aa:∀w,lj J w (l.take k)->bM cb env aK D n ops (bs ((d,w)::F) z) J Q):bM cb env aK D n (⟨some d,.xu none x none (some hi) none,g,[]⟩::ops) (bs F z) J Q:=by
 obtain⟨w,aM,aU⟩:=h.b9k aB h2;refine W.val (v:=w) (ai:=J) hd hw ?_ (aa w aU);show(match cL env n F z x with|some x=>(match sliceA (cL env n F z) none x none (some hi) none with|some v=>some (bO.val v J)|none=>none)|none=>none)=_;rw[h1];show(match sliceA (cL env n F z) none v none (some hi) none with|some v=>some (bO.val v J)|none=>none)=_;rw[aM]
structure n4(J:ad)(p:Nat)(L:List a7)(B N:List (List Nat)):Prop where
 ex:∃c4 eQ bV eR,J.get p=some (.cells [ck L,c4,eQ])/\Sl J none c4 bV/\bV.length=B.length/\(∀i (h:i<bV.length) (h':i<B.length),eL J bV[i] B[i])/\Sl J none eQ eR/\eR.length=N.length/\∀i (h:i<eR.length) (h':i<N.length),eL J eR[i] N[i]
def n4.aD{J τ:ad}{p:Nat}{L:List a7}{B N:List (List Nat)}(h:n4 J p L B N)(k:∀i o,J.get i=some o->τ.get i=some o):n4 τ p L B N:=by
 obtain⟨c4,eQ,bV,eR,h1,h2,h3,aH,bT,cE,eI⟩:=h.ex;exact⟨c4,eQ,bV,eR,k _ _ h1,h2.aD λi o _=>k i o,h3,λi a b=>(aH i a b).aD λi o _=>k i o,bT.aD λi o _=>k i o,cE,λi a b=>(eI i a b).aD λi o _=>k i o⟩
def m2{o:Bool}{ab:Option Nat}{l:List AV}:conf none (slA o ab l)=true:=by cases l<;>rfl
def MR{a:Nat}(h:a+1<2^63):binop .add (ag a) (.i .i64 1)=some (ag (a+1)):=rm (b:=1) h
def MS{a:Nat}(h1:1<=a)(h:a<2^63):binop .sub (ag a) (.i .i64 1)=some (ag (a-1)):=oH (b:=1) h1 h
def af{P R:Prop}(k:R)(h:Hid R->P:=by
 intro k
 repeat (first
  |refine W.go I I I I ?_
  |refine W.off I I ?_
  |(refine W.Lk ?_;first|refine W.lt I I I I ?_|refine W.lt I I I m2 ?_|(refine W.cK (c:=?_) (v:=?_) H I I I ?_ ?_ ?_;rotate_left 2;(repeat (first|exact .head _|refine .tail _ ?_));exact rfl)|refine W.le I I I (lj.cK (by assumption) (by omega)) ?_|refine W.le I I I (Vw.cK (by assumption) (by omega)) ?_)
  |(refine W.Ll ?_;first|refine W.F4 I I I I (by simp only[W.cmpP,fw,hr];first|done|omega|exact id|exact λh=>h trivial) ?_|refine W.gA I I I I I (by simp only[W.cmpP,fw,hr];first|done|omega|exact id|exact λh=>h trivial) ?_|refine W.bin I I I I (MR (by omega)) ?_|refine W.bin I I I I (MS (by omega) (by omega)) ?_|refine W.bin I I I I (rm (by omega)) ?_|refine W.bin I I I I (oH (by omega) (by omega)) ?_)
  |(refine W.Lm ?_;first|refine W.eg I I I I (Dt (by omega)) ?_|refine W.eg I I I I (CO (by omega)) ?_|refine W.eg I I I I (lj.eg (by assumption) (by omega)) ?_|refine W.eg I I I I (Vw.eg (by assumption) (by omega)) ?_)
  |(refine W.Ln ?_;first|refine W.len I I I MP ?_|refine W.len I I I K9 ?_|refine W.len I I I (lj.len (by assumption) _) ?_|refine W.len I I I (Vw.len (by assumption) _) ?_|refine W.len I I I I ?_)
  |(refine W.R4 ?_;first|(refine W.jK (c:=?_) (v:=?_) H I I I ?_ ?_ ?_ ?_;rotate_left 2;(repeat (first|exact .head _|refine .tail _ ?_));exact rfl;first|exact eo rfl|exact Lp I))
  |refine W.sq ?_|refine W.rg ?_|refine W.b5n I ?_|refine W.F3 ?_|refine ah.block (a:=.seq _ _) ?_|refine ah.block (a:=.region _) ?_|refine ah.block (a:=.draw _) ?_|refine ah.block (a:=.cond _ _ _) ?_
  |refine W.nil ?_|refine W.CV ?_
  |refine W.now (_::_) _ I I (by(repeat (refine tx.c H (by repeat (first|exact List.Mem.head _|refine List.Mem.tail _ ?_)) ?_));exact trivial) ?_
  |refine W.mX I ?_|refine W.oL I ?_)
 exact k.out):P:=h ⟨k⟩
def fV{P R:Prop}(k:R)(h:Hid R->P:=by
 intro k
 repeat (first
  |refine W.go I I I I ?_
  |refine W.off I I ?_
  |(refine W.Lk ?_;first|refine W.lt I I I I ?_|refine W.lt I I I m2 ?_|(refine W.cK (c:=?_) (v:=?_) H I I I ?_ ?_ ?_;rotate_left 2;(repeat (first|exact .head _|refine .tail _ ?_));exact rfl)|refine W.le I I I (lj.cK (by assumption) (by omega)) ?_|refine W.le I I I (Vw.cK (by assumption) (by omega)) ?_)
  |(refine W.Ll ?_;first|refine W.F4 I I I I (by simp only[W.cmpP,fw,hr];first|done|omega|exact id|exact λh=>h trivial) ?_|refine W.gA I I I I I (by simp only[W.cmpP,fw,hr];first|done|omega|exact id|exact λh=>h trivial) ?_|refine W.bin I I I I (MR (by omega)) ?_|refine W.bin I I I I (MS (by omega) (by omega)) ?_|refine W.bin I I I I (rm (by omega)) ?_|refine W.bin I I I I (oH (by omega) (by omega)) ?_)
  |(refine W.Lm ?_;first|refine W.eg I I I I (Dt (by omega)) ?_|refine W.eg I I I I (CO (by omega)) ?_|refine W.eg I I I I (lj.eg (by assumption) (by omega)) ?_|refine W.eg I I I I (Vw.eg (by assumption) (by omega)) ?_)
  |(refine W.Ln ?_;first|refine W.len I I I MP ?_|refine W.len I I I K9 ?_|refine W.len I I I (lj.len (by assumption) _) ?_|refine W.len I I I (Vw.len (by assumption) _) ?_|refine W.len I I I I ?_)
  |(refine W.R4 ?_;first|(refine W.jK (c:=?_) (v:=?_) H I I I ?_ ?_ ?_ ?_;rotate_left 2;(repeat (first|exact .head _|refine .tail _ ?_));exact rfl;first|exact eo rfl|exact Lp I))
  |refine W.now (_::_) _ I I (by(repeat (refine tx.c H (by repeat (first|exact List.Mem.head _|refine List.Mem.tail _ ?_)) ?_));exact trivial) ?_)
 exact k.out):P:=h ⟨k⟩
section
attribute [local irreducible] bM bo da dy bb
section
abbrev cM(J ai:ad):Prop:=J.next<=ai.next/\∀i o,J.get i=some o->ai.get i=some o
abbrev aw(p:Nat):AV:=.p (some (p,0))
structure n5(b:bJ)(K:Nat->List AV->AV->Prop):Prop where
 SN:a3 (b.aF K) GD L1
 equal:a3 (b.aF K) Mu L2
 index:a3 (b.aF K) Mw L8
 cont:a3 (b.aF K) Mv L0
 clone:a3 (b.aF K) SA R7
 G6:a3 (b.aF K) Su Sb
 SO:a3 (b.aF K) Sv L3
 beside:a3 (b.aF K) Sw Sc
 G7:a3 (b.aF K) St R8
 G8:a3 (b.aF K) Sx Sk
def Sl.G9{α:Type}{J τ:ad}{ab:Option Nat}{v:AV}{xs:List α}{g:α->AV}(h:Sl J ab v (xs.map g)):lenA τ 1 v=some xs.length:=by rw[h.len,bB]
def l7(B:List (List Nat))(n d first:Nat):Bool:=decide ((B.getD (n-1) [])[d-1]? =some first)
def b9l(hh:a3 (b.aF K) GD L1){p:Nat}{L:List a7}{B N:List (List Nat)}{J:ad}(ft:n4 J p L B N)(n d first:Nat)(hn:1<=n)(iH:n<=B.length)(b0:B.length<2^62)(hd:1<=d)(iT:d<2^62):
  bb (b.aF K) 0 (.f (.func GD) [] []) [aw p,ag n,ag d,ag first] J (λr τ=>r= .ok (.b (l7 B n d first))/\τ=J):=by
 refine W.code hh.e hh.p hh.f (by cbv) I I I λz=>?_;obtain⟨c4,eQ,bV,eR,h1,h2,h3,aH,bT,cE,eI⟩:=ft.ex;have H:Has J [(p,[ck L,c4,eQ])]:=Has.nil.cons h1 ay;have aq:=h2.vw;have aL:=(aH (n-1) U U).kQ;have hg:B.getD (n-1) []=B[n-1]:=by rw[fD,cp U];rfl
 unfold l7;rw[hg];generalize B[n-1]=lS at aL;refine af ?_;by_cases hlt:d<=lS.length
 ·refine af ?_;refine W.R3 I I I I I ?_;refine af ?_;rw[show decide (lS[d-1]? =some first)=decide (lS[d-1]=first) from by rw[cp U];simp];exact ah.ret ⟨rfl,rfl,rfl⟩
 ·refine af ?_;rw[show decide (lS[d-1]? =some first)=false from by rw[te U];simp];exact ah.ret ⟨rfl,rfl,rfl⟩
def a1w(hh:a3 (b.aF K) Mu L2){J:ad}{v w:AV}{l m:List Nat}(h1:lj J v l)(h2:lj J w m)(hl:l.length<2^62):
  bb (b.aF K) 0 (.f (.func Mu) [] []) [v,w] J (λr τ=>r= .ok (.b (decide (l=m)))/\τ=J):=by
 refine W.sA hh I I I λz H=>?_;refine af ?_;by_cases hlen:l.length=m.length
 ·refine af ?_;refine ah.each l.length (λj f τ=>τ=J/\sat [(0,v),(1,w)] f/\l.take j=m.take j) hl ⟨rfl,dm,rfl⟩ I I (λj g τ aA aL hi hm=>?_) (λg τ aL hi=>?_)
  ·obtain⟨rfl,⟨cm,bx,_⟩,ht⟩:=aL;refine ah.norm [(0,v),(1,w),(13,ag j),(12,ag l.length)] ⟨cm,bx,hi,hm,trivial⟩ λg=>?_;refine af ?_;by_cases he:l[j]=m[j]
   ·refine af ?_;exact⟨rfl,rfl,rfl,dm,by rw[jL aA,jL U,ht,he]⟩
   ·refine af ?_;rw[show decide (l=m)=false from decide_eq_false λe=>he (by subst e;rfl)];exact ah.ret ⟨rfl,rfl,rfl⟩
  ·obtain⟨rfl,_,ht⟩:=aL;refine ah.norm [] trivial λz=>?_;rw[show decide (l=m)=true from decide_eq_true (by rwa[jw,hlen,jw] at ht)];refine af ?_;exact ah.ret ⟨rfl,rfl,rfl⟩
 ·refine af ?_;rw[show decide (l=m)=false from decide_eq_false λe=>hlen (by rw[e])];exact ah.ret ⟨rfl,rfl,rfl⟩
def SP(hh:a3 (b.aF K) Mv L0)(hx:a3 (b.aF K) Mw L8){J:ad}{v:AV}{l:List Nat}(h1:lj J v l)(hl:l.length<2^62)(a:Nat):
  bb (b.aF K) 0 (.f (.func Mv) [] []) [v,ag a] J (λr τ=>r= .ok (.b (decide (a∈l)))/\τ=J):=by
 have hi:bb (b.aF K) 0 (.f (.func Mw) [] []) [v,ag a] J (λr τ=>(∃k,r= .ok (.i .i64 k)/\decide (0<=k)=decide (a∈l))/\τ=J):=by
  refine W.code hx.e hx.p hx.f (by cbv) I I I λz=>?_;have H:Has J []:=Has.nil;refine af ?_;refine ah.each l.length (λj f τ=>τ=J/\sat [(0,v),(1,ag a)] f/\a∉l.take j) hl ⟨rfl,dm,ay⟩ I I (λj g τ aA aL hi hm=>?_) (λg τ aL hi=>?_)
  ·obtain⟨rfl,⟨cm,bx,_⟩,ht⟩:=aL;refine ah.norm [(0,v),(1,ag a),(8,ag j),(7,ag l.length)] ⟨cm,bx,hi,hm,trivial⟩ λg=>?_;refine af ?_;by_cases he:a=l[j]
   ·refine af ?_;refine ah.ret ⟨rfl,⟨_,rfl,?_⟩,rfl⟩;rw[decide_eq_true (show a∈l from he▸bC aA)];exact decide_eq_true (Et j)
   ·refine af ?_;refine⟨rfl,rfl,rfl,dm,λh=>?_⟩;rw[jL aA] at h;rcases eX.1 h with h|h
    ·exact ht h
    ·exact he (cA.1 h)
  ·obtain⟨rfl,_,ht⟩:=aL;refine ah.norm [] trivial λz=>?_;refine af ?_;refine ah.ret ⟨rfl,⟨_,rfl,?_⟩,rfl⟩;rw[jw] at ht;rw[decide_eq_false ht];rfl
 refine W.sA hh I I I λz H=>?_;refine af ?_;refine W.bS I I I hi λr τ ⟨⟨k,e,aB⟩,aU⟩=>⟨_,e,?_⟩
 subst aU;refine W.bin (v:=.b (decide (0<=k))) I I I I I ?_;rw[aB];refine af ?_;exact ah.ret ⟨rfl,rfl,rfl⟩
structure u5(L:List a7)(B:List (List Nat)):Prop where
 len:B.length=L.length
 lt:L.length<2^20
 bK:∀x∈L,x.bK<2^20
 blt:∀x∈B,x.length<2^20
def jM(L:List a7)(k:Nat):Nat:=(L.map a7.bK).getD (k-1) 0
def lK(L:List a7)(B:List (List Nat))(k a c:Nat):Bool:=
 l7 B a (jM L k+1) a&&(decide ((B.getD (a-1) []).take (jM L k)=B.getD (k-1) [])&&(decide (jM L c=jM L k+1)&&(l7 B c (jM L k+1) a&& !l7 B (c+1) (jM L k+1) a)))
def Dv{L:List a7}{k:Nat}(h1:1<=k)(h2:k<=L.length):jM L k=(L[k-1]'U).bK:=by
 unfold jM;rw[fD,iR,cp U];rfl
def a1x(hf:n5 b K){p:Nat}{L:List a7}{B N:List (List Nat)}{J:ad}(ft:n4 J p L B N)(dW:u5 L B)(k a c:Nat)(ha:1<=a)(fU:a<=c)(e9:c<k)(aB:k<=L.length):
  bb (b.aF K) 0 (.f (.func Su) [] []) [aw p,ag k,.aj [ag a,ag c]] J (λr τ=>r= .ok (.b (lK L B k a c))/\cM J τ):=by
 refine W.code hf.G6.e hf.G6.p hf.G6.f (by cbv) I I I λz=>?_;obtain⟨c4,eQ,bV,eR,h1,h2,h3,aH,bT,cE,eI⟩:=ft.ex;have H:Has J [(p,[ck L,c4,eQ])]:=Has.nil.cons h1 ay;have hl:=dW.lt;have hd:=dW.len;refine af ?_;generalize aS:J.next=q;refine W.bN H aS I I I I I λτ hn H bl=>?_;have uE:=dW.bK _ (bC (show k-1<L.length by omega));have aq:=(h2.aD (τ:=τ) λi o _=>bl i o).vw;have aM:=Dv (L:=L) (k:=k) U aB;have aU:=Dv (L:=L) (k:=c) U U;have b9m:=ft.aD bl;have cq:∀(m:Nat) ai,n4 ai p L B N->1<=m->m<=B.length->bb (b.aF K) 0 (.f (.func GD) [] []) [aw p,ag m,ag (L[k-1].bK+1),ag a] ai (λr τ=>r= .ok (.b (l7 B m (L[k-1].bK+1) a))/\τ=ai):=λm ai h bx bz=>b9l hf.SN h m _ a bx bz U U U;unfold lK;rw[aM,aU];refine af ?_;refine W.bS I I I (cq a τ b9m ha U) λr ax ⟨e,c3⟩=>⟨_,e,?_⟩
 subst c3;cases al:l7 B a (L[k-1].bK+1) a with
 |false=>
  refine af ?_;exact ah.ret ⟨rfl,rfl,U,bl⟩
 |true=>
  have rq:B.getD (a-1) []=B[a-1]:=by rw[fD,cp U];rfl
  have SQ:B.getD (k-1) []=B[k-1]:=by rw[fD,cp U];rfl
  have hlen:L[k-1].bK+1<=B[a-1].length:=by
   have:=of_decide_eq_true al;rw[rq] at this;have:=(fH.1 this).1;omega
  have aL:=(aH (a-1) U U).aD (τ:=ax) λi o _=>bl i o;have gX:=(aH (k-1) U U).aD (τ:=ax) λi o _=>bl i o;rw[rq,SQ];refine af ?_;refine W.MQ aL U I I I I λw hw=>?_;have a1y:=gX.kQ;refine af ?_;have dM:L[k-1].bK+1-1=L[k-1].bK:=by omega
  rw[dM] at hw;refine W.bS I I I (a1w hf.equal hw a1y (by rw[g6];omega)) λr τ ⟨e,c3⟩=>⟨_,e,?_⟩
  subst c3;by_cases he:(B[a-1]).take (L[k-1].bK)=B[k-1]
  ·rw[decide_eq_true he,pI,pI];refine af ?_;by_cases SR:L[c-1].bK=L[k-1].bK+1
   ·rw[decide_eq_true SR,pI];refine af ?_;refine W.bS I I I (cq c _ (ft.aD bl) U U) λr τ ⟨e,c3⟩=>⟨_,e,?_⟩
    subst c3;cases oC:l7 B c (L[k-1].bK+1) a with
    |false=>
     refine af ?_;exact ah.ret ⟨rfl,rfl,U,bl⟩
    |true=>
     refine af ?_;refine W.bS I I I (cq (c+1) _ (ft.aD bl) U U) λr τ ⟨e,c3⟩=>⟨_,e,?_⟩
     subst c3;refine af ?_;exact ah.ret ⟨rfl,rfl,U,bl⟩
   ·rw[decide_eq_false SR];refine af ?_;exact ah.ret ⟨rfl,rfl,U,bl⟩
  ·rw[decide_eq_false he];refine af ?_;exact ah.ret ⟨rfl,rfl,U,bl⟩
def asmF(L:List a7)(first d:Nat):Nat->Nat->List Nat
 |0,_=>[]
 |m+1,n=>match L[n-1]? with
  |some x=>if x.hyp=true/\x.bK=d/\¬(first<n/\0<x.op) then n::asmF L first d m (n+1) else[]
  |none=>[]
def kR(L:List a7)(first d:Nat):List Nat:=asmF L first d (L.length+1-first) first
def AD(L:List a7)(first d m n:Nat):asmF L first d (m+1) n=match L[n-1]? with
  |some x=>if x.hyp=true/\x.bK=d/\¬(first<n/\0<x.op) then n::asmF L first d m (n+1) else[]
  |none=>[]:=rfl
structure AE(J τ:ad)(v:AV)(l:List Nat):Prop where
 ao:eL τ v l
 c1:∀i,v.at? =some i->J.next<=i
 iq:l=[]->v= .nilsl
def a1z(hf:n5 b K){p:Nat}{L:List a7}{B N:List (List Nat)}{J:ad}(ft:n4 J p L B N)(hL:L.length<2^20)(dS:∀x∈L,x.op<2^20)(first d:Nat)(h1:1<=first)(h2:first<=L.length):
  bb (b.aF K) 0 (.f (.func Sv) [] []) [aw p,ag first,ag d] J (λr τ=>∃v,r= .ok v/\AE J τ v (kR L first d)/\cM J τ):=by
 refine W.code hf.SO.e hf.SO.p hf.SO.f (by cbv) I I I λz=>?_;obtain⟨c4,eQ,bV,eR,an,_⟩:=ft.ex;have H:Has J [(p,[ck L,c4,eQ])]:=Has.nil.cons an ay;refine af ?_;refine ah.block ?_;refine ah.loop (λm f τ=>∃n v l,n+m=L.length+1/\first<=n/\l++asmF L first d m n=kR L first d/\l.length+first=n/\AE J τ v l/\cM J τ/\sat [(0,aw p),(1,ag first),(2,ag d),(7,v),(8,ag n)] f) ?_ (L.length+1-first) ⟨first,.nilsl,[],U,U,rfl,ay,⟨.nil,(λ_ h=>by cases h),λ_=>rfl⟩,⟨U,λ_ _ h=>h⟩,dm⟩;rintro m f τ ⟨n,v,l,rr,jf,hl,eZ,aq,cl,al⟩;refine ah.norm _ al λz=>?_;clear al;have H:=H.aD cl.2;by_cases hn:n<=L.length
 ·obtain⟨m,rfl⟩:∃k,m=k+1:=⟨m-1,U⟩
  have hx:L[n-1]? =some L[n-1]:=cp U;have ho:=dS _ (bC (show n-1<L.length by omega));rw[AD,hx] at hl;simp only[] at hl;refine af ?_;generalize cw:L[n-1]=x at hl ho;refine W.kk H I I I I I I I λa5 c6 H bj=>?_;have kM:=aq.ao.aD (τ:=a5) λi o _=>bj i o;have M2:cM J a5:=⟨by have:=cl.1;omega,λi o ho=>bj i o (cl.2 i o ho)⟩
  have fin:∀g:Nat->AV,kR L first d=l->bo (b.aF K) none [] L3.ntmps (.seq (.region [⟨some 51,.mb (.t 7),none,[]⟩,⟨some 6,.mb (.t 51),none,[]⟩]) .ret) (bs [(7,v)] g) a5 (λx b9 ai=>x= .ret/\∃v,ee.ok (b9 6)= .ok v/\AE J ai v (kR L first d)/\cM J ai):=λg e=>by
   refine af ?_;exact ah.ret ⟨rfl,v,rfl,by rw[e];exact⟨kM,aq.c1,aq.iq⟩,M2⟩
  refine W.nil ?_;refine ah.b4Q [(0,aw p),(1,ag first),(2,ag d),(7,v),(8,ag n)] (E:=λx f ai=>x= .exit 0/\sat [(7,v)] f/\ai=a5/\kR L first d=l) (M:=l++n::asmF L first d m (n+1)=kR L first d) ?_ ?_ ?_
  ·obtain⟨wN,qn,AF,SS,AG,ru⟩:=x;simp only[] at hl ho;have out:∀(F:List (Nat×AV)) (g:Nat->AV),¬(AF=true/\wN=d/\¬(first<n/\0<qn))->sat [(7,v)] (bs F g)->(hE.exit 0=hE.normal/\a5=a5/\sat [(0,aw p),(1,ag first),(2,ag d),(7,v),(8,ag n)] (bs F g)/\l++n::asmF L first d m (n+1)=kR L first d)\/(hE.exit 0=hE.exit 0/\sat [(7,v)] (bs F g)/\a5=a5/\kR L first d=l):=λF g aa al=>by
    rw[if_neg aa,hI] at hl;exact .inr ⟨rfl,al,rfl,hl.symm⟩
   cases AF with
   |false=>
    refine af ?_;refine ah.exit ?_;exact(out _ _ ay ⟨rfl,trivial⟩)
   |true=>
    by_cases hd:wN=d
    ·by_cases hfn:first<n
     ·by_cases h0:0<qn
      ·refine af ?_;refine ah.exit ?_;exact(out _ _ (λh=>h.2.2 ⟨hfn,h0⟩) ⟨rfl,trivial⟩)
      ·refine af ?_;rw[if_pos ⟨rfl,hd,λh=>h0 h.2⟩] at hl;exact .inl ⟨rfl,rfl,dm,hl⟩
     ·refine af ?_;rw[if_pos ⟨rfl,hd,λh=>hfn h.1⟩] at hl;exact .inl ⟨rfl,rfl,dm,hl⟩
    ·refine af ?_;refine ah.exit ?_;exact(out _ _ (λh=>hd h.2.1) ⟨rfl,trivial⟩)
  ·rintro x f ai ⟨rfl,al,rfl,e⟩;refine⟨ay,?_⟩;show bo _ _ _ _ _ _ _ _;exact ah.norm _ al λg=>fin g e
  ·intro b9n g;refine af ?_;refine W.pu (ag n) kM I I I I I I I I I (by rw[bB];omega) λbn bu oV kS _ dx k3=>?_;refine af ?_;refine⟨m,U,n+1,bn,l++[n],U,U,by rw[iJ];exact b9n,by simp;omega,⟨by unfold eL;rw[gO];exact oV,λi hi=>?_,λe=>absurd e ay⟩,⟨?_,λi o ho=>?_⟩,dm⟩
   ·rw[kS] at hi;cases hi;have:=cl.1;omega
   ·have:=cl.1;omega
   ·exact k3 i o (λe=>by have:=aq.c1 i e;have:=ad.a9 ho;omega) (M2.2 i o ho)
 ·obtain rfl:m=0:=by omega
  refine af ?_;refine ah.exit ?_;show bo _ _ _ _ _ _ _ _;refine ah.norm [(7,v)] ⟨rfl,trivial⟩ λg=>?_;refine af ?_;exact ah.ret ⟨rfl,v,rfl,⟨by rw[<-hl,show asmF L first d 0 n=[] from rfl,hI];exact aq.ao,aq.c1,λe=>aq.iq (by rw[<-hl,show asmF L first d 0 n=[] from rfl,hI] at e;exact e)⟩,cl⟩
def pP(L:List a7)(N:List (List Nat))(k a c:Nat):List Nat:=(N.getD (c-1) []).filter λn=>!decide (n∈kR L a (jM L k+1))
def SU(L:List a7)(first d:Nat):∀m n,(asmF L first d m n).length<=m
 |0,_=>a8 _
 |m+1,n=>by
  rw[AD];split
  ·split
   ·have:=SU L first d m (n+1);simp only[fw];omega
   ·exact jD _
  ·exact jD _
def a1A(hf:n5 b K){p:Nat}{L:List a7}{B N:List (List Nat)}{J:ad}(ft:n4 J p L B N)(dW:u5 L B)(dS:∀x∈L,x.op<2^20)(dP:∀l∈N,l.length<2^20)(k a c:Nat)(ha:1<=a)(fU:a<=c)(e9:c<k)(aB:k<=L.length)(aa:c<=N.length):
  bb (b.aF K) 0 (.f (.func Sw) [] []) [aw p,ag k,.aj [ag a,ag c]] J (λr τ=>∃v,r= .ok v/\AE J τ v (pP L N k a c)/\cM J τ):=by
 refine W.code hf.beside.e hf.beside.p hf.beside.f (by cbv) I I I λz=>?_;obtain⟨c4,eQ,bV,eR,h1,h2,h3,aH,bT,cE,eI⟩:=ft.ex;have H:Has J [(p,[ck L,c4,eQ])]:=Has.nil.cons h1 ay;have hl:=dW.lt;refine af ?_;refine W.bN H I I I I I I λτ hn H bl=>?_;have uE:=dW.bK _ (bC (show k-1<L.length by omega));have aM:=Dv (L:=L) (k:=k) U aB;unfold pP;rw[aM];refine af ?_;refine W.bS I I I (a1z hf (ft.aD bl) hl dS a (L[k-1].bK+1) ha U) λr a5 ⟨v,e,aq,M⟩=>⟨_,e,?_⟩
 have H:=H.aD M.2;have bj:∀i o,J.get i=some o->a5.get i=some o:=λi o h=>M.2 i o (bl i o h);have AH:=(bT.aD (τ:=a5) λi o _=>bj i o).vw;have aL:=(eI (c-1) U U).aD (τ:=a5) λi o _=>bj i o;have ny:N.getD (c-1) []=N[c-1]:=by rw[fD,cp U];rfl
 have b9o:=dP _ (bC (show c-1<N.length by omega));rw[ny];have SV:=aL.kQ;have ow:(kR L a (L[k-1].bK+1)).length<2^62:=by have:=SU L a (L[k-1].bK+1) (L.length+1-a) a;unfold kR;omega
 generalize kR L a (L[k-1].bK+1)=own at aq ow;generalize N[c-1]=iq at aL SV b9o;generalize b9p:eR[c-1]=a1B at aL SV;refine af ?_;rw[b9p];refine af ?_;have z_:=aq.ao;refine ah.each iq.length (λj f ax=>∃w,AE a5 ax w ((iq.take j).filter λn=>!decide (n∈own))/\cM a5 ax/\sat [(7,v),(8,w),(33,a1B)] f) U ⟨.nilsl,⟨.nil,(λ_ h=>by cases h),λ_=>rfl⟩,⟨U,λ_ _ h=>h⟩,dm⟩ I I (λj g ax aA MT hi hm=>?_) (λg ax MT hi=>?_)
 ·obtain⟨w,hw,M2,fN,ga,MU,_⟩:=MT;refine ah.norm [(7,v),(8,w),(33,a1B),(35,ag j),(34,ag iq.length)] ⟨fN,ga,MU,hi,hm,trivial⟩ λg=>?_;have SV:=(aL.aD (τ:=ax) λi o _=>M2.2 i o).kQ;have G_:=(z_.aD (τ:=ax) λi o _=>M2.2 i o).kQ;refine af ?_;refine W.bS I I I (SP hf.cont hf.index G_ ow iq[j]) λr bu ⟨e,c3⟩=>⟨_,e,?_⟩
  subst c3;by_cases hm:iq[j]∈own
  ·rw[decide_eq_true hm];refine af ?_;exact⟨rfl,rfl,w,by rw[jL aA,Ax,vN,decide_eq_true hm];simpa using hw,M2,dm⟩
  ·rw[decide_eq_false hm];refine af ?_;refine W.pu (ag iq[j]) hw.ao I I I I I I I I I (by rw[bB];have:=sz (λn=>!decide (n∈own)) (iq.take j);rw[g6] at this;omega) λbn b3 AI pQ _ eC bI=>?_;refine af ?_;refine⟨rfl,rfl,bn,⟨?_,λi hi=>?_,λe=>?_⟩,⟨?_,λi o ho=>bI i o (λe=>?_) (M2.2 i o ho)⟩,dm⟩
   ·rw[jL aA,Ax,vN,decide_eq_false hm];unfold eL;rw[gO];exact AI
   ·rw[pQ] at hi;cases hi;have:=M2.1;omega
   ·rw[jL aA,Ax,vN,decide_eq_false hm] at e;simp at e
   ·have:=M2.1;omega
   ·have:=hw.c1 i e;have:=ad.a9 ho;omega
 ·obtain⟨w,hw,M2,fN,ga,_⟩:=MT;refine ah.norm [(8,w)] ⟨ga,trivial⟩ λg=>?_;refine af ?_;have c6:=M.1;refine ah.ret ⟨rfl,w,rfl,⟨by rw[jw] at hw;exact hw.ao,(λi hi=>by have:=hw.c1 i hi;omega),λe=>hw.iq (by rw[jw];exact e)⟩,⟨by have:=M2.1;omega,λi o h=>M2.2 i o (bj i o h)⟩⟩
end
section
def W.u6{α:Type}{env:Env}{aK:Option Nat}{D:List (Nat ⊕ (AV×List AV))}{n:Nat}{a:b5}{f:Nat->AV}{J:ad}{Q:dO}(L:α->List (Nat×AV))(R:α->ad->Prop)(h1:bo env aK D n a f J (λx b9 ai=>x= .normal/\∃p,R p ai/\sat (L p) b9))(h2:∀p g ai,R p ai->Q .normal (bs (L p) g) ai):bo env aK D n a f J Q:=
 h1.mono λx b9 ai ⟨aM,p,aU,c3⟩=>by
  subst aM;rw[<-FP c3];exact h2 p b9 ai aU
def W.mk{cb:jv}{env:Env}{aK:Option Nat}{D:List (Nat ⊕ (AV×List AV))}{n:Nat}{F:List (Nat×AV)}{z:Nat->AV}{J:ad}{Q:dO}{L:List (Nat×List AV)}(H:Has J L){d:Nat}{hs:AV}{x y:aJ}{g:Option (Nat×Bool)}{ops:List a2}{m:Nat}{k bytes:Nat}(hn:J.next=k)(hb:bytes*m<=281474976710656)(hm:m<=281474976710656)(hd:Nat.blt d n=true)(hw:wtL g n F=true)(h1:cL env n F z x=some (ag m))(h2:cL env n F z y=some (ag m))
  (h:∀τ:ad,τ.next=k+1->Has τ ((k,List.replicate m hs)::L)->(∀i o,J.get i=some o->τ.get i=some o)->bM cb env aK D n ops (bs ((d,.ao k 0 m none (some m))::F) z) τ Q):bM cb env aK D n (⟨some d,.mkSlice none bytes [hs] x y,g,[]⟩::ops) (bs F z) J Q:=by
 subst hn;have b9q:∀m,hQ m [hs]=List.replicate m hs:=λm=>by
  induction m with
  |zero=>rfl
  |succ m aC=>show hs::hQ m [hs]=_;rw[aC];rfl
 have bA:∀i o,J.get i=some o->(J.push (.cells (List.replicate m hs))).get i=some o:=λi o ho=>by rw[ad.fX trivial _ (ad.a9 ho)];exact ho
 refine W.val (v:=.ao J.next 0 m none (some m)) (ai:=J.push (.cells (List.replicate m hs))) hd hw ?_ (h (J.push (.cells (List.replicate m hs))) I (H.push I (ad.js _) bA) bA);show(match cL env n F z x,cL env n F z y with
  |some (.i _ (.ofNat n)),some (.i _ (.ofNat m))=>
   cond (Nat.beq [hs].length (shN none)&&(Nat.ble n m&&(Nat.ble (bytes*m) 281474976710656&&Nat.ble m 281474976710656)))
    (some (bO.val (.ao J.next 0 n none (some m)) (J.push (.cells (hQ m [hs]))))) none
  |some .nilsl,some (.i _ (.ofNat m))=>
   cond (Nat.beq [hs].length (Nat.succ (shN none))&&(Nat.blt 0 m&&Nat.ble ((3*m+2000)*bytes) 281474976710656))
    (some (bO.val (.ao J.next 0 m none none) (J.push (.cells (hQ m [hs].tail))))) none
  |_,_=>none)=_
 rw[h1,h2];show cond (Nat.ble m m&&(Nat.ble (bytes*m) 281474976710656&&Nat.ble m 281474976710656)) (some (bO.val (.ao J.next 0 m none (some m)) (J.push (.cells (hQ m [hs]))))) none=_;rw[kE (a8 m),kE hb,kE hm,b9q];rfl
def b9r{wO:List Bool}{n:Nat}(h:n<wO.length):storeCells (wO.map AV.b) (0+n*shN none) (AV.b true).cells=some ((wO.set n true).map AV.b):=by
 have e:0+n*shN none=n:=by show 0+n*1=n;omega
 rw[e];unfold storeCells;rw[if_pos (kE (by show n+1<=_;rw[bB];omega))];show some ((wO.map AV.b).take n++([AV.b true]++(wO.map AV.b).drop (n+1)))=_;rw[ML,if_pos h];simp
def b9s{wO:List Bool}{n:Nat}(h:n<wO.length):dE none ((wO.map AV.b).drop (0+n*shN none))=some (.b wO[n]):=by
 have e:0+n*shN none=n:=by show 0+n*1=n;omega
 rw[e,← Pz,Av h];rfl
def pR(L:List a7)(B N:List (List Nat))(k:Nat)(ac:Nat×Nat):List Nat:=cond (lK L B k ac.1 ac.2) (pP L N k ac.1 ac.2) (N.getD (ac.2-1) [])
def oW(L:List a7)(B N:List (List Nat))(k:Nat)(l:List (Nat×Nat))(n:Nat):Bool:=l.any λac=>decide (n∈pR L B N k ac)
def needL(L:List a7)(B N:List (List Nat))(k:Nat):List Nat:=match L[k-1]? with
 |some x=>cond x.hyp [k] ((List.range k).filter (oW L B N k x.cs))
 |none=>[]
def wP(k:Nat)(l:List (Nat×Nat)):Prop:=l.length<2^20/\∀ac∈l,1<=ac.1/\ac.1<=ac.2/\ac.2<k
def b9t{k:Nat}(p:Nat->Bool)(n:Nat):((List.range k).map p).set n true=(List.range k).map λi=>p i||decide (i=n):=by
 apply xr
 ·simp
 ·intro i h1 h2;rw[s0];simp only[ez,pg];by_cases h:n=i
  ·subst h;simp
  ·rw[if_neg h,decide_eq_false (λe=>h e.symm),SH]
def b9u(hf:n5 b K){p:Nat}{L:List a7}{B N:List (List Nat)}{J:ad}(ft:n4 J p L B N)(dW:u5 L B)(dS:∀x∈L,x.op<2^20)(dP:∀l∈N,l.length<2^20)(k:Nat)(oX:1<=k)(aB:k<=L.length)(a1C:k<=N.length+1)(b9v:∀l∈N.take (k-1),∀n∈l,n<k)(aa:∀x,L[k-1]? =some x->wP k x.cs):
  bb (b.aF K) 0 (.f (.func St) [] []) [aw p,ag k] J (λr τ=>∃v,r= .ok v/\AE J τ v (needL L B N k)/\cM J τ):=by
 refine W.code hf.G7.e hf.G7.p hf.G7.f (by cbv) I I I λz=>?_;obtain⟨c4,eQ,bV,eR,h1,h2,h3,aH,bT,cE,eI⟩:=ft.ex;have H:Has J [(p,[ck L,c4,eQ])]:=Has.nil.cons h1 ay;have hl:=dW.lt;have hx:L[k-1]? =some L[k-1]:=cp U;replace aa:=aa _ hx;have c0:needL L B N k=cond (L[k-1]).hyp [k] ((List.range k).filter (oW L B N k (L[k-1]).cs)):=by unfold needL;rw[hx]
 refine af ?_;generalize cw:L[k-1]=x at aa c0;cases hh:x.hyp with
 |true=>
  refine af ?_;refine W.bV (c:=[ag k]) H I I I I λτ hn H bl=>?_;refine af ?_;rw[hh] at c0;refine ah.ret ⟨rfl,_,rfl,⟨by rw[c0];exact .ao J.next (some 1) [ag k] [] (H.qx) (by intro y hy;rw[cA.1 hy];exact(rfl:conf none (ag k)=true)) (.inr I),(λi hi=>by cases hi;exact a8 _),λe=>absurd (c0.symm.trans e) ay⟩,U,bl⟩
 |false=>
  refine af ?_;refine W.mk H I U U I I I I λτ hn H bl=>?_;generalize aS:J.next=q at H hn;refine af ?_;rw[cw];refine af ?_;have SW:∀i o,J.get i=some o->i≠q:=λi o ho=>by have:=ad.a9 ho;omega
  have z4:q≠p:=λe=>SW p _ h1 e.symm
  -- JD is there at vO d0U d0V
  let RW:ad->Prop:=λax=>q<ax.next/\∀i o,J.get i=some o->ax.get i=some o
  refine ah.each x.cs.length (λj f ax=>RW ax/\ax.get q=some (.cells (((List.range k).map (oW L B N k (x.cs.take j))).map AV.b))/\sat [(0,aw p),(1,ag k),(5,.ao q 0 k none (some k)),(35,l6 true x.cs)] f) (by have:=aa.1;omega) ⟨⟨U,bl⟩,?_,dm⟩ I I (λj g ax aA aL hi hm=>?_) (λg ax aL hi=>?_)
  ·rw[H.qx]
   congr 2
   apply xr<;>simp[oW]
  ·obtain⟨⟨SX,fC⟩,hb,cm,bx,c9,yt,_⟩:=aL;refine ah.norm [(0,aw p),(1,ag k),(5,.ao q 0 k none (some k)),(35,l6 true x.cs),(37,ag j),(36,ag x.cs.length)] ⟨cm,bx,c9,yt,hi,hm,trivial⟩ λg=>?_;have H:Has ax [(p,[ck L,c4,eQ])]:=Has.nil.cons (fC _ _ h1) ay;obtain⟨ha,fU,e9⟩:=aa.2 _ (bC aA);refine af ?_;generalize MV:x.cs[j]=ac at ha fU e9;obtain⟨a,c⟩:=ac;simp only[] at ha fU e9;refine W.kk H I I I I I I I λa5 c6 H bj=>?_;have Ha:∀i o,J.get i=some o->a5.get i=some o:=λi o h=>bj i o (fC i o h);have AH:=(bT.aD (τ:=a5) λi o _=>Ha i o).vw;have lx:=bj _ _ hb;have aL:=(eI (c-1) U U).aD (τ:=a5) λi o _=>Ha i o;refine af ?_;refine W.bS I I I (a1x hf (ft.aD Ha) dW k a c ha fU e9 aB) λr bu ⟨e,ey⟩=>⟨_,e,?_⟩
   have H:=H.aD ey.2;have ny:N.getD (c-1) []=N[c-1]:=by rw[fD,cp U];rfl
   refine W.nil ?_;refine W.u6 (α:=AV) (λv=>[(0,aw p),(1,ag k),(5,.ao q 0 k none (some k)),(35,l6 true x.cs),(37,ag j),(36,ag x.cs.length),(8,v)]) (λv ax=>eL ax v (pR L B N k (a,c))/\(∀i,v.at? =some i->i≠q)/\cM a5 ax) ?_ ?_
   ·unfold pR;cases MW:lK L B k a c with
    |true=>
     refine af ?_;refine W.bS I I I (a1A hf (ft.aD λi o h=>ey.2 i o (Ha i o h)) dW dS dP k a c ha fU e9 aB U) λr b3 ⟨v,e,aq,eS⟩=>⟨_,e,?_⟩
     refine af ?_;exact⟨rfl,v,⟨aq.ao,λi hi e=>by have:=aq.c1 i hi;have:=ey.1;omega,by have:=ey.1;have:=eS.1;omega,λi o h=>eS.2 i o (ey.2 i o h)⟩,dm⟩
    |false=>
     refine af ?_;refine⟨rfl,_,⟨?_,λi hi e=>?_,ey⟩,dm⟩
     ·show eL bu eR[c-1] (N.getD (c-1) []);rw[ny];exact aL.aD λi o _=>ey.2 i o
     ·obtain⟨o,ho⟩:∃o,J.get i=some o:=by
       have h:=eI (c-1) U U;unfold eL at h;generalize List.map ag _=xs at h;have hi:(eR[c-1]).at? =some i:=hi;generalize eR[c-1]=w at h hi;cases h with
       |nil=>cases hi
       |ao o cap xs rest hg aa aB=>cases hi;exact⟨_,hg⟩
      exact SW i o ho e
   ·intro v g b3 ⟨aq,tF,eS⟩;have a1D:∀n∈pR L B N k (a,c),n<k:=λn hn=>by
     have eO:N[c-1]∈N.take (k-1):=List.mem_take_iff_getElem.2 ⟨c-1,U,rfl⟩;have iH:n∈N.getD (c-1) []:=by
      unfold pR at hn;cases MW:lK L B k a c with
      |true=>simp only[MW,cond_true] at hn;exact(mj.1 hn).1
      |false=>simpa only[MW,cond_false] using hn
     rw[ny] at iH;exact b9v _ eO n iH
    have u7:(pR L B N k (a,c)).length<2^20:=by
     have h1:=dP _ (bC (show c-1<N.length by omega));unfold pR;cases lK L B k a c with
     |true=>rw[cond_true];unfold pP;rw[ny];exact zd (sz _ _) h1
     |false=>rw[cond_false,ny];exact h1
    have oY:=aq.kQ;generalize yu:pR L B N k (a,c)=iq at aq u7 a1D oY;refine af ?_;refine ah.each iq.length (λi f ax=>(∀i o,i≠q->b3.get i=some o->ax.get i=some o)/\b3.next<=ax.next/\ax.get q=some (.cells (((List.range k).map λm=>oW L B N k (x.cs.take j) m||decide (m∈iq.take i)).map AV.b))/\sat [(0,aw p),(1,ag k),(5,.ao q 0 k none (some k)),(35,l6 true x.cs),(37,ag j),(36,ag x.cs.length),(58,v)] f) U ⟨λ_ _ _ h=>h,a8 _,?_,dm⟩ I I (λi g ax fB aL dh nh=>?_) (λg ax aL dh=>?_)
    ·rw[eS.2 _ _ lx];simp
    ·obtain⟨MX,uN,wQ,cm,bx,c9,yt,SY,SZ,a1E,_⟩:=aL;refine ah.norm [(0,aw p),(1,ag k),(5,.ao q 0 k none (some k)),(35,l6 true x.cs),(37,ag j),(36,ag x.cs.length),(58,v),(60,ag i),(59,ag iq.length)] ⟨cm,bx,c9,yt,SY,SZ,a1E,dh,nh,trivial⟩ λg=>?_;have H:Has ax [(q,_)]:=Has.nil.cons wQ ay;have oY:=(aq.aD (τ:=ax) λi o hi=>MX i o (tF i hi)).kQ;have hlt:=a1D _ (bC fB);refine af ?_;refine W.eg I I I I (jl hlt) ?_;refine W.st H 0 I I I I I (b9r (by rw[bB,nc];exact hlt)) λcW gw H cP=>?_;refine af ?_;refine⟨rfl,rfl,λi o hi h=>cP i o hi (MX i o hi h),U,?_,dm⟩;rw[H.qx,b9t];refine congrArg (λf=>some (AO.cells (((List.range k).map f).map AV.b))) (funext λm=>?_);rw[jL fB,Bool.or_assoc];refine congrArg (λt=>oW L B N k (x.cs.take j) m||t) ?_;rw[uk,um,decide_eq_true_eq,decide_eq_true_eq,decide_eq_true_eq,eX,cA]
    ·obtain⟨MX,uN,wQ,cm,bx,c9,yt,SY,SZ,a1E,_⟩:=aL;refine⟨SY,SZ,⟨by have:=eS.1;omega,λi o h=>MX i o (SW i o h) (eS.2 i o (Ha i o h))⟩,?_,cm,bx,c9,yt,trivial⟩;rw[wQ];refine congrArg (λf=>some (AO.cells (((List.range k).map f).map AV.b))) (funext λm=>?_);rw[jL aA,jw];unfold oW;rw[List.any_append,MV,SI,List.any_nil,SH,yu]
  ·obtain⟨⟨SX,fC⟩,hb,cm,bx,c9,yt,_⟩:=aL;refine ah.norm [(0,aw p),(1,ag k),(5,.ao q 0 k none (some k))] ⟨cm,bx,c9,trivial⟩ λg=>?_;rw[jw] at hb;have H:Has ax [(q,_)]:=Has.nil.cons hb ay;refine af ?_;refine ah.each k (λj f a5=>∃w,AE ax a5 w ((List.range j).filter (oW L B N k x.cs))/\cM ax a5/\sat [(11,w),(69,.ao q 0 k none (some k))] f) U ⟨.nilsl,⟨.nil,(λ_ h=>by cases h),λ_=>rfl⟩,⟨a8 _,λ_ _ h=>h⟩,dm⟩ I I (λj g a5 aA aL hi hm=>?_) (λg a5 aL hi=>?_)
   ·obtain⟨w,hw,M2,u9,b9w,_⟩:=aL;refine ah.norm [(11,w),(69,.ao q 0 k none (some k)),(71,ag j),(70,ag k)] ⟨u9,b9w,hi,hm,trivial⟩ λg=>?_;have H:=H.aD M2.2;have b9x:dE none ((((List.range k).map (oW L B N k x.cs)).map AV.b).drop (0+j*shN none))=some (.b (oW L B N k x.cs j)):=by rw[b9s (by simpa using aA)];simp
    refine af ?_;refine W.eg I I I I (jl aA) ?_;refine W.cK H I I I (.head _) b9x ?_;cases hn:oW L B N k x.cs j with
    |false=>
     refine af ?_;exact⟨rfl,rfl,w,by rw[yo,Ax,vN,hn];simpa using hw,M2,dm⟩
    |true=>
     refine af ?_;refine W.pu (ag j) hw.ao I I I I I I I I I (by rw[bB];have:=sz (oW L B N k x.cs) (List.range j);rw[nc] at this;omega) λbn b3 AI pQ _ eC bI=>?_;refine af ?_;refine⟨rfl,rfl,bn,⟨?_,λi hi=>?_,λe=>?_⟩,⟨?_,λi o ho=>bI i o (λe=>?_) (M2.2 i o ho)⟩,dm⟩
     ·rw[yo,Ax,vN,hn];unfold eL;rw[gO];exact AI
     ·rw[pQ] at hi;cases hi;have:=M2.1;omega
     ·rw[yo,Ax,vN,hn] at e;simp at e
     ·have:=M2.1;omega
     ·have:=hw.c1 i e;have:=ad.a9 ho;omega
   ·obtain⟨w,hw,M2,u9,_⟩:=aL;refine ah.norm [(11,w)] ⟨u9,trivial⟩ λg=>?_;refine af ?_;rw[hh] at c0;exact ah.ret ⟨rfl,w,rfl,⟨by rw[c0];exact hw.ao,(λi hi=>by have:=hw.c1 i hi;omega),λe=>hw.iq (c0.symm.trans e)⟩,by have:=M2.1;omega,λi o h=>M2.2 i o (fC i o h)⟩
end
end
structure oZ(W W':Nat->Prop)(τ ax:ad):Prop where
 next:τ.next<=ax.next
 aD:∀c o,¬W c->τ.get c=some o->ax.get c=some o
 own:∀c,W' c->W c\/τ.next<=c/\c<ax.next
abbrev Dw:=Nat->(Nat->Prop)->ad->Prop
def S0(cO:Nat)(h8:Dw):Prop:=∀i W τ ax,h8 i W τ->(∀c o,c<cO\/W c->τ.get c=some o->ax.get c=some o)->τ.next<=ax.next->h8 i W ax
def Yields(env:Env)(g:Nat)(cap:List AV)(N:Nat)(A:Nat->(Nat->Prop)->ad->List AV->Prop)(J:ad)(gB:Nat->Prop):Prop:=
 ∀(g2:AV) (h8:Dw) (τ:ad),S0 τ.next h8->(∀i W cx args,i<N->τ.next<=cx.next->A i W cx args->h8 i W cx->bb env 0 g2 args cx (λr a5=>r= .ok (.b true)/\∃W',h8 (i+1) W' a5/\oZ W W' cx a5))→
  J.next<=τ.next->(∀c o,J.get c=some o->τ.get c=some o)->(∀c,gB c->c<J.next)->h8 0 gB τ->bb env 0 (.f (.func g) [] cap) [g2] τ (λr ax=>r= .ok (.bg [])/\∃W',h8 N W' ax)
def cQ.iter{env:Env}{D:List (Nat ⊕ (AV×List AV))}{n:Nat}{f:Nat->AV}{J:ad}{Q:dO}{dX:aJ}{aE:List Nat}{dw gx:b5}{g:Nat}{cap:List AV}{k:Nat}(N:Nat)(dq:Dw)(A:Nat->(Nat->Prop)->ad->List AV->Prop)(gB:Nat->Prop)(aB:J.next=k)
  (mn:dJ env n f dX=some (.f (.func g) [] cap)) (he:env.ext g=0) (an:cN (λp=>Nat.blt p n) aE=true) (hlen:∀i W τ args,A i W τ args->args.length=aE.length)
  (cq:∀i W τ ax,dq i W τ->(∀c o,W c->τ.get c=some o->ax.get c=some o)->τ.next<=ax.next->dq i W ax) (h0:dq 0 gB J) (rv:∀c,gB c->c<k) (dt:Yields env g cap N A J gB)
  (wL:∀i W τ args,i<N->A i W τ args->dq i W τ->(∀c,τ.get (k+1)≠some (.cells c))->(∀c,W c->c<k\/k+2<=c)->k+2<=τ.next->(∀c o,¬gB c->J.get c=some o->τ.get c=some o)->bo env (some (k+1)) [] n dw (FY aE args f) τ (λx f1 cx=>x= .normal/\(τ.next<=cx.next/\∀c o,τ.get c=some o->cx.get c=some o)∧
   ∀a5,a5.next=cx.next->(∀c o,c≠k+1->cx.get c=some o->a5.get c=some o)->dq i W a5->bo env (some (k+1)) [] n gx f1 a5 (λx _ bu=>x= .normal/\∃W',dq (i+1) W' bu/\oZ W W' a5 bu)))
  (wM:∀W τ,dq N W τ->τ.get k=some .c7->k+2<=τ.next->(∀c o,¬gB c->J.get c=some o->τ.get c=some o)->(∀c,W c->gB c\/k+2<=c)->Q .normal f τ):cQ env D (.inl k::D) n (.rangeFunc dX aE dw gx) f J Q:=by
 subst aB;refine cQ.range mn he λao fM=>?_;generalize aB:J.next=k at *;have pG:((J.push .c7).push (.loop .ready none ao aE dw gx k)).get (k+1)=some (.loop .ready none ao aE dw gx k):=by
  have:=ad.js (J:=J.push .c7) (.loop .ready none ao aE dw gx k);rwa[show(J.push .c7).next=k+1 from by show J.next+1=_;rw[aB]] at this
 have lD:∀i o,J.get i=some o->((J.push .c7).push (.loop .ready none ao aE dw gx k)).get i=some o:=λi o ho=>by
  have:=ad.a9 ho;rw[ad.fX trivial _ (show i<(J.push .c7).next from by show i<J.next+1;omega),ad.fX trivial _ this];exact ho
 have oS:((J.push .c7).push (.loop .ready none ao aE dw gx k)).get k=some .c7:=by
  rw[ad.fX trivial _ (show k<(J.push .c7).next from by show k<J.next+1;omega)];have:=ad.js (J:=J) .c7;rwa[aB] at this
 have jG:((J.push .c7).push (.loop .ready none ao aE dw gx k)).next=k+2:=by show J.next+1+1=_;rw[aB]
 generalize(J.push .c7).push (.loop .ready none ao aE dw gx k)=cr at *;refine(dt (.f (.yield (k+1)) [] []) (λi W τ=>dq i W τ/\τ.get (k+1)=some (.loop .ready none ao aE dw gx k)/\k+2<=τ.next/\τ.get k=some .c7/\(∀c,W c->gB c\/k+2<=c)/\∀c o,¬gB c->J.get c=some o->τ.get c=some o) cr ?_ ?_ U lD (λc aa=>by rw[aB];exact rv c aa) ?_).mono ?_
 ·rintro i W τ ax ⟨aQ,aZ,bX,cS,ed,hM⟩ bA hn;exact⟨cq i W τ ax aQ (λc o aa=>bA c o (.inr aa)) hn,bA _ _ (.inl U) aZ,U,bA _ _ (.inl U) cS,ed,λc o aa ho=>bA c o (.inl (by have:=ad.a9 ho;omega)) (hM c o aa ho)⟩
 ·rintro i W τ args hi hn hA ⟨aQ,aZ,bX,cS,ed,hM⟩;have kO:∀c,W c->c<k\/k+2<=c:=λc aa=>by
   rcases ed c aa with h|h
   ·exact .inl (rv c h)
   ·exact .inr h
  refine(bb.round (R:=λa5=>∃W',(dq (i+1) W' a5/\a5.get (k+1)=some (.loop .ready none ao aE dw gx k)/\k+2<=a5.next/\a5.get k=some .c7/\(∀c,W' c->gB c\/k+2<=c)/\∀c o,¬gB c->J.get c=some o->a5.get c=some o)/\oZ W W' τ a5) (f:=f) (n:=n) aZ fM an (by rw[hlen i W τ args hA];exact g0 _) ?_).mono λr ai h=>h;refine(wL i W τ args hi hA aQ (λc e=>by rw[aZ] at e;cases e) kO bX hM).mono λx f1 cx ⟨aM,aU,h1⟩=>?_;have Hb:=aU.2 _ _ aZ;have S1:=cq i W τ cx aQ (λc o _=>aU.2 c o) aU.1;have eK:=hK (bF:=.loop .busy none ao aE dw gx k) Hb;have AJ:¬W (k+1):=λh=>by rcases kO _ h with h|h<;>omega
  have S2:¬W k:=λh=>by rcases kO _ h with h|h<;>omega
  have cV:=aU.1;refine⟨aM,Hb,(h1 (cx.set (k+1) (.loop .busy none ao aE dw gx k)) I (λc o aa ho=>eK.2 c o aa ho) (cq i W _ _ S1 (λc o aa ho=>eK.2 c o (λe=>AJ (e▸aa)) ho) (a8 _))).mono λx _ bu ⟨c3,W',aL,ct⟩=>?_⟩;have oT:=ct.aD _ _ AJ eK.1;have lh:=hK (bF:=.loop .ready none ao aE dw gx k) oT;have dx:cx.next<=bu.next:=ct.next;have own:∀c,W' c->W c\/cx.next<=c:=λc aa=>(ct.own c aa).imp id And.left;have AK:¬W' (k+1):=λh=>by rcases own _ h with h|h;exact AJ h;omega
  have cG:∀c o,¬W c->c≠k+1->τ.get c=some o->(bu.set (k+1) (.loop .ready none ao aE dw gx k)).get c=some o:=λc o aa aY ho=>lh.2 c o aY (ct.aD c o aa (eK.2 c o aY (aU.2 _ _ ho)));refine⟨c3,oT,W',⟨cq _ _ _ _ aL (λc o aa ho=>lh.2 c o (λe=>AK (e▸aa)) ho) (a8 _),lh.1,by show k+2<=bu.next;omega,cG k _ S2 U cS,λc aa=>?_,λc o aa ho=>?_⟩,by show τ.next<=bu.next;omega,λc o aa ho=>?_,λc aa=>(ct.own c aa).imp id λh=>⟨by have h1:cx.next<=c:=h.1;omega,h.2⟩⟩
  ·rcases own c aa with h|h
   ·exact ed c h
   ·exact .inr U
  ·have hlt:=ad.a9 ho;by_cases Hc:W c
   ·rcases ed c Hc with h|h
    ·exact absurd h aa
    ·omega
   ·exact cG c o Hc U (hM c o aa ho)
  ·by_cases hl:c=k+1
   ·subst hl;rw[aZ] at ho;cases ho;exact lh.1
   ·exact cG c o aa hl ho
 ·exact⟨cq 0 gB J cr h0 (λc o _ ho=>lD c o ho) U,pG,U,oS,λc aa=>.inl aa,λc o _ ho=>lD c o ho⟩
 ·rintro r τ ⟨aM,W',aQ,aZ,bX,cS,ed,hM⟩;have eK:=hK (bF:=.loop .exhausted none ao aE dw gx k) aZ;have AK:¬W' (k+1):=λh=>by
   rcases ed _ h with h|h
   ·have:=rv _ h;omega
   ·omega
  exact⟨_,.ready,aM,aZ,ay,wM W' _ (cq _ _ _ _ aQ (λc o aa ho=>eK.2 c o (λe=>AK (e▸aa)) ho) (a8 _)) (eK.2 _ _ U cS) bX (λc o aa ho=>eK.2 c o (by have:=ad.a9 ho;omega) (hM c o aa ho)) ed⟩
section
attribute [local irreducible] bM bo da dy bb
section
structure a1F(J τ:ad)(ab:Option Nat)(v:AV)(xs:List AV):Prop where
 ao:Sl τ ab v xs
 c1:∀i,v.at? =some i->J.next<=i
 iq:xs=[]->v= .nilsl
structure b9y(J τ:ad)(u v:AV)(l:List Nat):Prop where
 ao:eL τ v l
 c1:∀i,v.at? =some i->J.next<=i
 iq:v.at? =none↔u.at? =none
def a1G(hf:n5 b K){J:ad}{v:AV}{l:List Nat}(h:eL J v l)(hl:l.length<2^20):bb (b.aF K) 0 (.f (.func SA) [] []) [v] J (λr τ=>∃bn,r= .ok bn/\b9y J τ v bn l/\cM J τ):=by
 refine W.code hf.clone.e hf.clone.p hf.clone.f (by cbv) I I I λz=>?_;have H:Has J []:=Has.nil;have h':=h;unfold eL at h';generalize hm:l.map ag=xs at h';cases h' with
 |nil=>
  refine af ?_;exact ah.ret ⟨rfl,_,rfl,⟨by unfold eL;rw[hm];exact .nil,(λi hi=>by cases hi),Iff.rfl⟩,a8 _,λ_ _ h=>h⟩
 |ao o cap xs rest hg aa aB=>
  have hlen:xs.length=l.length:=by rw[<-hm,bB]
  have ak:readList J (.ao o 0 xs.length none cap)=some xs:=h.read.trans (by rw[hm]);refine af ?_;refine W.bV (c:=[]) H I I I I λτ hn H bl=>?_;have kx:readList τ (.ao o 0 xs.length none cap)=some xs:=b5c (λi c h=>bl i _ h) ak;have h0:Sl τ none (.ao J.next 0 0 none (some 0)) []:=.ao J.next (some 0) [] [] (H.qx) ay (.inr I);refine af ?_;cases xs with
  |nil=>
   refine W.val (v:=.ao J.next 0 0 none (some 0)) (ai:=τ) I I ?_ ?_
   ·show(match appendO 0 τ none 8 (.ao J.next 0 0 none (some 0)) (.ao o 0 0 none cap) with|some (v,J)=>some (bO.val v J)|none=>none)=_;have Cg:newOf τ (.ao o 0 0 none cap)=some []:=kx;unfold appendO;rw[h0.read,Cg];rfl
   ·refine af ?_;exact ah.ret ⟨rfl,_,rfl,⟨by unfold eL;rw[hm];exact h0,(λi hi=>by cases hi;exact a8 _),⟨(λe=>by cases e),λe=>by cases e⟩⟩,U,bl⟩
  |cons y ba=>
   have Cg:newOf τ (.ao o 0 (ba.length+1) none cap)=some (y::ba):=kx;refine W.ap y ba h0 Cg aa (by simp only[hr];omega) I I I I λbn a5 aq ha _ c6 bj=>?_;refine af ?_;refine ah.ret ⟨rfl,_,rfl,⟨by unfold eL;rw[hm];exact aq,λi hi=>?_,⟨λe=>?_,λe=>by cases e⟩⟩,U,λi o ho=>bj i o (λe=>?_) (bl i o ho)⟩
   ·have hi:bn.at? =some i:=hi;rw[ha] at hi;cases hi;omega
   ·have e:bn.at? =none:=e;rw[e] at ha;cases ha
   ·cases e;have:=ad.a9 ho;omega
def gU(L:List a7)(n:Nat):Fm:=(L.map a7.f).getD (n-1) (.mk 0 [] none none)
def MY{L:List a7}{n:Nat}(h1:1<=n)(h2:n<=L.length):gU L n=(L[n-1]'U).f:=by
 unfold gU;rw[fD,iR,cp U];rfl
def S3(hf:n5 b K){p:Nat}{L:List a7}{B N:List (List Nat)}{J:ad}(ft:n4 J p L B N)(hL:L.length<2^20){v:AV}{l:List Nat}(aq:eL J v l)(hl:l.length<2^20)(hn:∀n∈l,1<=n/\n<=L.length):
  bb (b.aF K) 0 (.f (.func Sx) [] []) [aw p,v] J (λr τ=>∃w,r= .ok w/\a1F J τ (some 4) w (l.map λn=>.aj (br (gU L n)))/\cM J τ):=by
 refine W.code hf.G8.e hf.G8.p hf.G8.f (by cbv) I I I λz=>?_;obtain⟨c4,eQ,bV,eR,an,_⟩:=ft.ex;have H:Has J [(p,[ck L,c4,eQ])]:=Has.nil.cons an ay;have oY:=aq.kQ;refine af ?_;refine ah.each l.length (λj f τ=>∃w,a1F J τ (some 4) w ((l.take j).map λn=>.aj (br (gU L n)))/\cM J τ/\sat [(0,aw p),(5,w),(8,v)] f) U ⟨.nilsl,⟨.nil,(λ_ h=>by cases h),λ_=>rfl⟩,⟨a8 _,λ_ _ h=>h⟩,dm⟩ I I (λj g τ aA aL hi hm=>?_) (λg τ aL hi=>?_)
 ·obtain⟨w,hw,M,cm,c9,ga,_⟩:=aL;refine ah.norm [(0,aw p),(5,w),(8,v),(10,ag j),(9,ag l.length)] ⟨cm,c9,ga,hi,hm,trivial⟩ λg=>?_;have H:=H.aD M.2;have oY:=(aq.aD (τ:=τ) λi o _=>M.2 i o).kQ;obtain⟨jf,iH⟩:=hn _ (bC aA);have bL:=MY jf iH;refine af ?_;refine W.pu (c:=br (L[l[j]-1]).f) (.aj (br (L[l[j]-1]).f)) hw.ao I I I I I I I I I (by rw[bB,g6];omega) λbn a5 kM nz _ c6 bj=>?_;refine af ?_;refine⟨rfl,rfl,bn,⟨?_,λi hi=>?_,λe=>?_⟩,⟨?_,λi o ho=>bj i o (λe=>?_) (M.2 i o ho)⟩,dm⟩
  ·rw[jL aA,gO,pf,yp,bL];exact kM
  ·rw[nz] at hi;cases hi;have:=M.1;omega
  ·have:=congrArg List.length e;rw[bB,g6,hr] at this;omega
  ·have:=M.1;omega
  ·have:=hw.c1 i e;have:=ad.a9 ho;omega
 ·obtain⟨w,hw,M,cm,c9,_⟩:=aL;refine ah.norm [(5,w)] ⟨c9,trivial⟩ λg=>?_;refine af ?_;exact ah.ret ⟨rfl,w,rfl,⟨by rw[jw] at hw;exact hw.ao,hw.c1,λe=>hw.iq (by rw[jw];exact e)⟩,M⟩
def Hd(s:List Nat)(i:Nat)(x:a7):List Nat:=s.take (x.bK-x.op)++List.replicate x.op (i+1)
def stF(L:List a7):Nat->List Nat
 |0=>[]
 |i+1=>match L[i]? with
  |some x=>Hd (stF L i) i x
  |none=>[]
def He{L:List a7}{i:Nat}(h:i<L.length):stF L (i+1)=Hd (stF L i) i L[i]:=by
 rw[stF,cp h]
def ea(L:List a7):List (List Nat):=(List.range L.length).map λi=>stF L (i+1)
def tG(L:List a7):Nat->Bool
 |0=>false
 |i+1=>tG L i|| !(stF L (i+1)).isEmpty
def b9z{L:List a7}:∀ {i:Nat},tG L i=false->stF L i=[]
 |0,_=>rfl
 |i+1,h=>by
  rw[tG,a1n] at h;cases al:stF L (i+1) with
  |nil=>rfl
  |cons x l=>rw[al] at h;simp at h
structure yv(L:List a7):Prop where
 lt:L.length<2^10
 num:∀x∈L,x.bK<2^10/\x.op<=x.bK
 go:∀i (h:i<L.length),(L[i]).bK-(L[i]).op<=(stF L i).length
def yv.len{L:List a7}(h:yv L):∀i,i<L.length->(stF L (i+1)).length=(L[i]?.elim 0 a7.bK):=λi hi=>by
 rw[He hi,cp hi];unfold Hd;have:=h.go i hi;have:=(h.num _ (bC hi)).2;rw[c5,g6,a1o];show _=(L[i]).bK;omega
def W.ch{cb:jv}{env:Env}{aK:Option Nat}{D:List (Nat ⊕ (AV×List AV))}{n:Nat}{F:List (Nat×AV)}{z:Nat->AV}{J:ad}{Q:dO}{d:Nat}{x hi:aJ}{g:Option (Nat×Bool)}{ops:List a2}{v:AV}{l:List Nat}{k:Nat}(h:eL J v l)(hn:∀o l c,v= .ao o 0 l none c->c=none)(aB:k<=l.length)(hd:Nat.blt d n=true)(hw:wtL g n F=true)(h1:cL env n F z x=some v)(h2:cL env n F z hi=some (ag k))
  (aa:∀w,eL J w (l.take k)->w.at? =v.at? →(∀o l c,w= .ao o 0 l none c->c=none)->bM cb env aK D n ops (bs ((d,w)::F) z) J Q):bM cb env aK D n (⟨some d,.xu none x none (some hi) none,g,[]⟩::ops) (bs F z) J Q:=by
 obtain⟨w,aM,aU,c3,fK⟩:=Sl.cut (ar:=cL env n F z) (hi:=hi) (k:=k) h hn (by rw[bB];exact aB) h2;refine W.val (v:=w) (ai:=J) hd hw ?_ (aa w (by rw[<-JA] at aU;exact aU) c3 fK);show(match cL env n F z x with|some x=>(match sliceA (cL env n F z) none x none (some hi) none with|some v=>some (bO.val v J)|none=>none)|none=>none)=_;rw[h1];show(match sliceA (cL env n F z) none v none (some hi) none with|some v=>some (bO.val v J)|none=>none)=_;rw[aM]
def b9A(hh:a3 (b.aF K) Dg Gl){L:List a7}(ct:yv L){J:ad}{bN:Nat}(fY:J.get bN=some (.cells [ck L]))(gB:Nat->Prop)(rv:¬gB bN):
  Yields (b.aF K) Dg [aw bN] L.length (λi V τ args=>∃v,args=[ag (i+1),v]/\eL τ v (stF L (i+1))/\(v.at? =none↔tG L (i+1)=false)/\∀o,v.at? =some o->¬V o) J gB:=by
 intro g2 h8 sE cq hy MZ u_ hlt gX;refine W.mV hh.e hh.p hh.f (by cbv) I I λz=>?_;have H:Has sE [(bN,[ck L])]:=Has.nil.cons (u_ _ _ fY) ay;have hl:=ct.lt;refine af ?_;refine ah.each L.length (λj f τ=>∃v V,eL τ v (stF L j)/\(v.at? =none↔tG L j=false)/\(∀o l c,v= .ao o 0 l none c->c=none)/\(∀o,v.at? =some o->sE.next<=o/\¬V o)/\h8 j V τ/\sE.next<=τ.next/\(∀c,V c->c<τ.next)/\sat [(0,g2),(3,v),(6,ck L)] f) U ⟨.nilsl,gB,.nil,⟨λ_=>rfl,λ_=>rfl⟩,(λ_ _ _ h=>by cases h),(λ_ h=>by cases h),gX,a8 _,λc aa=>zJ (hlt c aa) MZ,dm⟩ I I (λj g τ aA aL hi hm=>?_) (λg τ aL hi=>?_)
 ·obtain⟨v,V,aq,gG,qh,jx,gX,jf,qB,cm,bY,gR,_⟩:=aL;refine ah.norm [(0,g2),(3,v),(6,ck L),(8,ag j),(7,ag L.length)] ⟨cm,bY,gR,hi,hm,trivial⟩ λg=>?_;have H:Has τ []:=Has.nil;have lX:=ct.go j aA;have yu:=ct.num _ (bC aA);have gj:=He aA;refine af ?_;generalize cw:L[j]=x at lX yu gj;refine W.b6 H I I I I λcx cy H bl=>?_;have wq:=aq.aD (τ:=cx) λi o _=>bl i o;have Hf:=cq _ _ _ cx gX (λc o _=>bl c o) U;refine af ?_;refine W.st H 0 I I I I I I λa5 c6 H bj=>?_;have aY:∀o,v.at? =some o->o<τ.next:=λo ho=>aq.lt ho;have kM:=wq.aD (τ:=a5) λi o hi=>bj i o (by have:=aY i hi;omega);have S4:=cq _ _ _ a5 Hf (λc o aa=>bj c o (by rcases aa with h|h;omega;have:=qB c h;omega)) U;refine af ?_;refine W.ch kM qh (k:=x.bK-x.op) lX I I I I λw hw Hg S5=>?_;refine af ?_;refine ah.each x.op (λr f τ=>∃v,eL τ v ((stF L j).take (x.bK-x.op)++List.replicate r (j+1))/\(v.at? =none↔tG L j=false/\r=0)/\(∀o l c,v= .ao o 0 l none c->c=none)/\(∀o,v.at? =some o->sE.next<=o/\¬V o)/\h8 j V τ/\sE.next<=τ.next/\(∀c,V c->c<τ.next)/\sat [(0,g2),(3,v),(4,ag j),(6,ck L),(7,ag L.length),(8,ag j)] f) U ⟨w,by simpa using hw,by rw[Hg,gG];simp,S5,λo ho=>jx o (Hg▸ho),S4,U,λc aa=>by have:=qB c aa;omega,dm⟩ I I (λr g τ ak aL hi hm=>?_) (λg τ aL hi=>?_)
  ·obtain⟨v,aq,gG,qh,jx,gX,jf,qB,cm,bY,cf,gR,fN,ga,_⟩:=aL;refine ah.norm [(0,g2),(3,v),(4,ag j),(6,ck L),(7,ag L.length),(8,ag j),(22,ag r),(21,ag x.op)] ⟨cm,bY,cf,gR,fN,ga,hi,hm,trivial⟩ λg=>?_;refine af ?_;refine W.pu (ag (j+1)) aq I I I I I I I I I (by rw[bB,c5,g6,a1o];omega) λbn b3 AI pQ M0 eC bI=>?_;refine af ?_;refine⟨rfl,rfl,bn,?_,⟨λe=>(by rw[pQ] at e;cases e),λe=>by simp at e⟩,M0,λo ho=>?_,cq _ _ _ b3 gX (λc o aa=>bI c o λe=>?_) U,U,λc aa=>by have:=qB c aa;omega,dm⟩
   ·rw[a0y,← iJ];unfold eL;rw[gO];exact AI
   ·rw[pQ] at ho;cases ho;exact⟨U,λh=>by have:=qB _ h;omega⟩
   ·have:=jx c e;rcases aa with h|h
    ·omega
    ·exact this.2 h
  ·obtain⟨v,aq,gG,qh,jx,gX,jf,qB,cm,bY,cf,gR,fN,ga,_⟩:=aL;refine ah.norm [(0,g2),(3,v),(4,ag j),(6,ck L),(7,ag L.length),(8,ag j)] ⟨cm,bY,cf,gR,fN,ga,trivial⟩ λg=>?_;have iG:eL τ v (stF L (j+1)):=by rw[gj];exact aq
   have a1H:v.at? =none↔tG L (j+1)=false:=by
    rw[gG,tG,a1n,gj];refine and_congr_right λh=>?_;rw[Hd,b9z h];cases x.op with
    |zero=>simp
    |succ m=>simp[Qz]
   refine af ?_;refine W.bS I I I (hy j V τ _ aA jf ⟨v,rfl,iG,a1H,λo ho=>(jx o ho).2⟩ gX) λr cW ⟨e,lk,b9B,M1⟩=>⟨_,e,?_⟩
   refine af ?_;have gw:=M1.next;refine⟨rfl,rfl,v,lk,iG.aD λi o hi=>M1.aD i o (jx i hi).2,a1H,qh,λo ho=>⟨(jx o ho).1,λh=>?_⟩,b9B,U,λc aa=>?_,dm⟩
   ·rcases M1.own o h with h|h
    ·exact(jx o ho).2 h
    ·have:=aq.lt ho;omega
   ·rcases M1.own c aa with h|h
    ·have:=qB c h;omega
    ·exact h.2
 ·exact⟨.inr I,rfl,by obtain⟨v,V,_,_,_,_,h,_⟩:=aL;exact⟨V,h⟩⟩
end
section
variable {b:bJ}{K:Nat->List AV->AV->Prop}(hfn:∀g aO r bR,K g aO r->K g aO bR->r=bR)
def M3(L:List a7)(k:Nat):Bool×Nat:=if 1<k then(match L[k-2]? with|some x=>(x.hyp,x.bK)|none=>(true,0)) else(true,0)
def yw(k:Nat)(c:Nat×Nat):Bool:=decide (1<=c.1/\c.1<=c.2/\c.2<k)
def Hh(x:a7)(p:Bool×Nat)(k:Nat):Bool:=
 decide (x.bK<=40/\x.op<=x.bK)&&(decide (x.bK-x.op<=p.2)&&cond x.hyp (x.bH.isEmpty&&(x.cs.isEmpty&&(decide (0<x.op)||(p.1&&decide (p.2=x.bK))))) (x.cs.all (yw k)&& !x.bH.isEmpty))
def tH(L:List a7)(k:Nat):Bool:=match L[k-1]? with|some x=>Hh x (M3 L k) k|none=>false
def b9C{V:AV}{x:a7}{p:Bool×Nat}(k:Nat)(h1:1<=k)(aB:k<2^20)(mq:idxSlA (some 9) V (k-1)=some (.df true x.A))(jj:x.bK<2^10/\x.op<2^10/\x.cs.length<2^20)(lD:p.2<2^10)(pG:k=1->p=(true,0))(b9D:1<k->∃y:a7,idxSlA (some 9) V (k-2)=some (.df true y.A)/\p=(y.hyp,y.bK))(body:b5)(hb:C2.body=some body):ah (b.aF K) C2.ntmps body (gy [V,ag k]) ⟨.nil,0⟩ (oU 4 (.b (Hh x p k))):=by
 cbv at hb
 cases hb;refine W.m1 λz H=>?_;refine af ?_;refine W.eg I I I I mq ?_;refine af ?_;refine W.kk (c:=x.A.cells) H I I I I I I I λτ cy H bl=>?_;unfold Hh;by_cases mg:x.bK<=40
 ·by_cases s9:x.op<=x.bK
  ·rw[decide_eq_true (show x.bK<=40/\x.op<=x.bK from⟨mg,s9⟩),pI];refine af ?_;refine W.kk (c:=[ag 0,ag 0,.b true,.i .u8 0,.s [],.nilsl,.nilsl,.s [],.nilsl]) H I I I I I I I λa5 c6 H bj=>?_;refine W.nil ?_;refine W.sq ?_;refine W.u6 (α:=AV×List AV) (λ_=>[(0,V),(1,ag k),(5,.p (some (0,0))),(6,.p (some (τ.next,0)))]) (λc ax=>Has ax [(τ.next,ag p.2::c.1:: .b p.1::c.2),(0,x.A.cells)]) ?_ ?_
   ·by_cases fC:1<k
    ·obtain⟨y,hy,aU⟩:=b9D fC;refine af ?_;refine W.bin I I I I (oH (b:=2) U U) ?_;refine W.eg I I I I hy ?_;refine af ?_;refine W.st H 0 I I I I I I λbu dx H k3=>?_;refine af ?_;rw[aU];exact⟨rfl,(_,_),H,dm⟩
    ·refine af ?_;rw[pG U];exact⟨rfl,(_,_),H,dm⟩
   ·intro c g bu H;refine af ?_;obtain⟨wN,qn,AF,SS,AG,ru⟩:=x;obtain⟨yx,a1I⟩:=p;simp only[] at mg s9 jj lD ⊢;have sb:∀l:List Nat,binop .eql (.s l) (.s [])=some (.b l.isEmpty):=λl=>by cases l<;>rfl
    have jy:∀l:List Nat,binop .neq (.s l) (.s [])=some (.b (!l.isEmpty)):=λl=>by cases l<;>rfl
    by_cases M4:wN-qn<=a1I
    ·rw[decide_eq_true M4,pI];refine af ?_;cases AF with
     |true=>
      rw[cond_true];refine W.mX I ?_;refine ah.cut [(5,.p (some (0,0))),(7,.b (yx&&decide (a1I=wN)))] ?_ λg=>?_
      ·cases yx with
       |true=>
        refine af ?_;refine W.R3 I I I I I ?_;refine af ?_;exact⟨rfl,rfl,rfl,by rw[pI];rfl,trivial⟩
       |false=>
        refine af ?_;exact dm
      ·refine af ?_;refine W.bin I I I I (sb AG) ?_;cases AG with
       |cons c t=>
        refine af ?_;refine ah.ret ?_;exact⟨rfl,rfl⟩
       |nil=>
        refine af ?_;cases ru with
        |cons c t=>
         refine af ?_;refine ah.ret ?_;exact⟨rfl,rfl⟩
        |nil=>
         by_cases h0:0<qn
         ·rw[decide_eq_true h0];refine af ?_;refine ah.ret ?_;exact⟨rfl,rfl⟩
         ·rw[decide_eq_false h0];refine af ?_;refine ah.ret ?_;exact⟨rfl,rfl⟩
     |false=>
      rw[cond_false];refine W.oL I ?_;refine af ?_;refine ah.each ru.length (λj f ax=>ax.next=ax.next/\(ru.take j).all (yw k)=true/\Has ax [(0,a7.A ⟨wN,qn,false,SS,AG,ru⟩ |>.cells)]/\sat [(1,ag k),(5,.p (some (0,0))),(80,l6 true ru)] f) U ⟨rfl,rfl,⟨λp an=>H.get p (.tail _ an),H.CU.tail⟩,dm⟩ I I (λj g ax aA aL hi hm=>?_) (λg ax aL hi=>?_)
      ·obtain⟨_,hall,H,bx,c9,a1J,_⟩:=aL;refine ah.norm [(1,ag k),(5,.p (some (0,0))),(80,l6 true ru),(82,ag j),(81,ag ru.length)] ⟨bx,c9,a1J,hi,hm,trivial⟩ λg=>?_;refine af ?_;generalize MV:ru[j]=ac;obtain⟨a,c⟩:=ac;refine W.kk H I I I I I I I λb3 eC H bI=>?_;have out:yw k (a,c)=false->(ru.all (yw k)&& !AG.isEmpty)=false:=λh=>by
        have:ru.all (yw k)=false:=List.all_eq_false.2 ⟨ru[j],bC aA,by rw[MV,h];simp⟩;rw[this];rfl
       by_cases ha:1<=a
       ·by_cases fU:a<=c
        ·by_cases e9:c<k
         ·refine af ?_;refine⟨rfl,rfl,rfl,?_,⟨λp an=>H.get p (.tail _ an),H.CU.tail⟩,dm⟩;rw[jL aA,List.all_append,hall,MV];simp[yw,ha,fU,e9]
         ·refine af ?_;rw[out (decide_eq_false λh=>e9 h.2.2)];exact ah.ret ⟨rfl,rfl⟩
        ·refine af ?_;rw[out (decide_eq_false λh=>fU h.2.1)];exact ah.ret ⟨rfl,rfl⟩
       ·refine af ?_;rw[out (decide_eq_false λh=>ha h.1)];exact ah.ret ⟨rfl,rfl⟩
      ·obtain⟨_,hall,H,bx,c9,a1J,_⟩:=aL;refine ah.norm [(5,.p (some (0,0)))] ⟨c9,trivial⟩ λg=>?_;rw[jw] at hall;rw[hall,pI];refine af ?_;refine W.bin I I I I (jy AG) ?_;refine af ?_;exact ah.ret ⟨rfl,rfl⟩
    ·rw[decide_eq_false M4,Dr];refine af ?_;exact ah.ret ⟨rfl,rfl⟩
  ·rw[decide_eq_false (show ¬(x.bK<=40/\x.op<=x.bK) from λh=>s9 h.2),Dr];refine af ?_;exact ah.ret ⟨rfl,rfl⟩
 ·rw[decide_eq_false (show ¬(x.bK<=40/\x.op<=x.bK) from λh=>mg h.1),Dr];refine af ?_;exact ah.ret ⟨rfl,rfl⟩
def a1K(L:List a7)(hL:L.length<2^10)(hn:∀x∈L,x.bK<2^10/\x.op<2^10/\x.cs.length<2^20)(k:Nat)(h1:1<=k)(h2:k<=L.length)(body:b5)(hb:C2.body=some body):ah (b.aF K) C2.ntmps body (gy [ck L,ag k]) ⟨.nil,0⟩ (oU 4 (.b (tH L k))):=by
 have hx:L[k-1]? =some L[k-1]:=cp U;unfold tH;rw[hx];refine b9C k h1 U (Dt U) (hn _ (bC U)) ?_ (λe=>if_neg U) (λh=>⟨L[k-2],Dt U,by rw[if_pos h,cp U]⟩) body hb;split
 ·rw[cp U];exact(hn _ (bC _)).1
 ·show 0<_;omega
end
end
def resV(J:ad)(f:Nat->AV)(r:Nat×Option (Option Nat)):Option AV:=
 match r.2 with
 |none=>some (f r.1)
 |some ab=>match f r.1 with
  | .p (some (id,off))=>match J.get id with
   |some (.cells c)=>dE ab (c.drop off)
   |_=>none
  |_=>none
def va(J:ad)(f:Nat->AV)(rs:List (Nat×Option (Option Nat))):Option AV:=
 match mapO (resV J f) rs with
 |some [v]=>some v
 |some bp=>some (.bg bp)
 |none=>none
def b9E{D:List (Nat ⊕ (AV×List AV))}{n:Nat}{f:Nat->AV}{ae:Fr}(J:ad)(h:jk D n f ae){r:Nat×Option (Option Nat)}(ak:Nat.blt r.1 n=true):resultOf J ae.bk r=resV J f r:=by
 have hg:=h.get r.1;have hn:r.1<n:=g7 ak;rw[if_pos hn] at hg;obtain⟨d,o⟩:=r;unfold resultOf resV;simp only[] at hg ⊢;rw[hg];cases o with
 |none=>rfl
 |some ab=>
  cases f d with
  |p a=>cases a with
   |none=>rfl
   |some a=>rfl
  |_=>rfl
def a1L{D:List (Nat ⊕ (AV×List AV))}{n:Nat}{f:Nat->AV}{ae:Fr}(J:ad)(h:jk D n f ae){rs:List (Nat×Option (Option Nat))}(ak:cN (λr=>Nat.blt r.1 n) rs=true):resultsOf J ae.bk rs=va J f rs:=by
 have:mapO (resultOf J ae.bk) rs=mapO (resV J f) rs:=CD λx hx=>b9E J h (nv ak x hx);show(match mapO (resultOf J ae.bk) rs with|some [v]=>some v|some bp=>some (.bg bp)|none=>none)=match mapO (resV J f) rs with|some [v]=>some v|some bp=>some (.bg bp)|none=>none
 rw[this]
def a1M{env:Env}{fn:gr}{n:Nat}{f:Nat->AV}{ae:Fr}{J:ad}{v:AV}(h1:jk [] n f ae)(hd:cN (λr=>Nat.blt r.1 n) fn.results=true)(aq:va J f fn.results=some v):endF env 0 fn (.ret,ae,J)=some [(.ok v,J)]:=by
 show(match leave 0 (callD env 0) ae.defers none J with
  |none=>none
  |some (some v,J)=>some [(ee.err v,J)]
  |some (none,J)=>match resultsOf J ae.bk fn.results with
   |some v=>some [(.ok v,J)]
   |none=>none)=_
 rw[h1.ds];show(match resultsOf J ae.bk fn.results with|some v=>some [(ee.ok v,J)]|none=>none)=_;rw[a1L J h1 hd,aq]
def a1N{env:Env}{fn:gr}{n d:Nat}{f:Nat->AV}{ae:Fr}{J:ad}{v:AV}(h1:jk [.inl d] n f ae)(hm:J.get d=some .c7)(hd:cN (λr=>Nat.blt r.1 n) fn.results=true)(aq:va (J.set d .dead) f fn.results=some v):endF env 0 fn (.ret,ae,J)=some [(.ok v,J.set d .dead)]:=by
 show(match leave 0 (callD env 0) ae.defers none J with
  |none=>none
  |some (some v,J)=>some [(ee.err v,J)]
  |some (none,J)=>match resultsOf J ae.bk fn.results with
   |some v=>some [(.ok v,J)]
   |none=>none)=_
 have hl:leave 0 (callD env 0) ae.defers none J=some (none,J.set d .dead):=by
  rw[h1.ds];show(if Nat.blt d 0 then none else match J.get d with
   |some .c7=>some (none,J.set d .dead)
   |_=>none)=_
  rw[if_neg (by simp[Nat.blt,Nat.ble]),hm]
 rw[hl];show(match resultsOf (J.set d .dead) ae.bk fn.results with|some v=>some [(ee.ok v,J.set d .dead)]|none=>none)=_;rw[a1L _ h1 hd,aq]
def gl{J:ad}{f:Nat->AV}{d id off:Nat}{ab:Option Nat}{c:List AV}{v:AV}(h:f d= .p (some (id,off)))(hg:J.get id=some (.cells c))(ht:dE ab (c.drop off)=some v):resV J f (d,some ab)=some v:=by
 show(match f d with| .p (some (id,off))=>(match J.get id with|some (.cells c)=>dE ab (c.drop off)|_=>none)|_=>none)=_;rw[h];show(match J.get id with|some (.cells c)=>dE ab (c.drop off)|_=>none)=_;rw[hg];exact ht
def jn{J:ad}{f:Nat->AV}{d:Nat}{v:AV}(h:f d=v):resV J f (d,none)=some v:=by rw[<-h];rfl
def qC{J:ad}{f:Nat->AV}{x:Nat×Option (Option Nat)}{v:AV}(h:resV J f x=some v):va J f [x]=some v:=by
 show(match mapO (resV J f) [x] with|some [v]=>some v|some bp=>some (.bg bp)|none=>none)=_;rw[mapO_cons,h];rfl
def jN{J:ad}{f:Nat->AV}{x y:Nat×Option (Option Nat)}{v w:AV}(h:resV J f x=some v)(h2:resV J f y=some w):va J f [x,y]=some (.bg [v,w]):=by
 show(match mapO (resV J f) [x,y] with|some [v]=>some v|some bp=>some (.bg bp)|none=>none)=_;rw[mapO_cons,mapO_cons,h,h2];rfl
def S6{J:ad}{f:Nat->AV}{x y z:Nat×Option (Option Nat)}{v w u:AV}(h:resV J f x=some v)(h2:resV J f y=some w)(h3:resV J f z=some u):va J f [x,y,z]=some (.bg [v,w,u]):=by
 show(match mapO (resV J f) [x,y,z] with|some [v]=>some v|some bp=>some (.bg bp)|none=>none)=_;rw[mapO_cons,mapO_cons,mapO_cons,h,h2,h3];rfl
section
variable {env:Env}{J:ad}{fn:Nat}{cj:gr}{body:b5}{first cap args:List AV}{R:ee->ad->Prop}
def W.m3(e:env.ext fn=0)(an:env.pure fn=false)(hf:env.funcs fn=some cj)(hb:cj.body=some body)
  (hn:(Nat.beq (first++args++cap).length cj.kF&&Nat.ble (first++args++cap).length cj.ntmps)=true) (hd:cN (λr=>Nat.blt r.1 cj.ntmps) cj.results=true)
  (h:∀z,bo env none [] cj.ntmps body (bs (W.qw 0 (first++args++cap)) z) J (λx b9 ai=>x= .ret/\∃v,va ai b9 cj.results=some v/\R (.ok v) ai)):bb env 0 (.f (.func fn) first cap) args J R:=by
 have hle:(first++args++cap).length<=cj.ntmps:=by
  simp only[dD] at hn;exact g7 hn.2
 refine bb.run e an hf hb hn ((W.args h _ (wA hle)).mono λx bZ ai ⟨b9,h1,h2,v,h3,aH⟩=>?_);subst h2;exact⟨.ok v,ai,a1M h1 hd h3,aH⟩
def W.a1O{d:Nat}(e:env.ext fn=0)(an:env.pure fn=false)(hf:env.funcs fn=some cj)(hb:cj.body=some body)
  (hn:(Nat.beq (first++args++cap).length cj.kF&&Nat.ble (first++args++cap).length cj.ntmps)=true) (hd:cN (λr=>Nat.blt r.1 cj.ntmps) cj.results=true)
  (h:∀z,cQ env [] [.inl d] cj.ntmps body (bs (W.qw 0 (first++args++cap)) z) J (λx b9 ai=>x= .ret/\ai.get d=some .c7/\∃v,va (ai.set d .dead) b9 cj.results=some v/\R (.ok v) (ai.set d .dead))):bb env 0 (.f (.func fn) first cap) args J R:=by
 have hle:(first++args++cap).length<=cj.ntmps:=by
  simp only[dD] at hn;exact g7 hn.2
 have kv:bs (W.qw 0 (first++args++cap)) (gy (first++args++cap))=gy (first++args++cap):=FP (W.Lo _ 0 λj a e=>by show(first++args++cap).getD (0+j) dF=a;rw[nq,fD,e];rfl);refine bb.run e an hf hb hn ((h (gy (first++args++cap)) _ (by rw[kv];exact wA hle)).mono λx bZ ai ⟨b9,h1,h2,h3,v,aH,bT⟩=>?_);subst h2;exact⟨.ok v,_,a1N h1 h3 hd aH,bT⟩
end
def Dx(rs:List (Nat×Option (Option Nat)))(r:AV):dO:=λx f ai=>x= .ret/\∃v,va ai f rs=some v/\freeze ai 0 1000 v=some r
def Hi{P:Program}{b:bJ}{K:Nat->List AV->AV->Prop}(hb:lb P b)(de:uX P b K){g:Nat}{fn:gr}{body:b5}{aO:List AV}(r:AV)(hf:b.funcs.get g=some fn)(jt:fn.body=some body)
  (hn:(Nat.beq aO.length fn.kF&&Nat.ble aO.length fn.ntmps)=true) (hd:cN (λr=>Nat.blt r.1 fn.ntmps) fn.results=true) {ae:Nat} (ak:fs ae r=true) (gQ:AV.eqb 1000 r r=true)
  (h:ah (b.aF K) fn.ntmps body (gy aO) ⟨.nil,0⟩ (Dx fn.results r)) (b2:Nat):SpecEntry P (b.env []) b2 g aO r:=by
 have hle:aO.length<=fn.ntmps:=by
  simp only[dD] at hn;exact g7 hn.2
 refine K1 (env:=b.aF K) (m:=1000) (Aa _ _) ⟨λg cj hg=>nY.z7 hb.funcs g cj hg⟩ (λb2 g aO r al=>de g aO r (K3 al) b2) hb.ext hb.CL hf jt hn ak ((h _ (wA hle)).mono λx ae ai ⟨f,h1,h2,v,h3,aH⟩=>?_) gQ b2;subst h2;exact⟨.ok v,_,a1M h1 hd h3,_,rfl,aH⟩
section
attribute [local irreducible] bM bo da dy bb
section
variable {b:bJ}{K:Nat->List AV->AV->Prop}(hfn:∀g aO r bR,K g aO r->K g aO bR->r=bR)
include hfn
theorem a1P(xs:List AV)(hV:∀J,bt J (b.bh+1000) (.aV true (some 9) xs)=some (.aV true (some 9) xs))(hl:xs.length<2^20)(s:Nat->Bool)(e:b.ext yf=0/\b.pure yf=true)(r:Nat)(ak:r<=xs.length)(de:∀k,1<=k->k<=xs.length->(r=0\/k<=r)->K yf [.aV true (some 9) xs,ag k] (.b (s k)))
  (al:∀k,1<=k->k<=xs.length->(r=0\/k<r)->s k=true) (oC:r≠0->s r=false) (body:b5) (hb:LF.body=some body):ah (b.aF K) LF.ntmps body (gy [.aV true (some 9) xs]) ⟨.nil,0⟩ (oU 2 (ag r)):=by
 cbv at hb
 cases hb;refine W.m1 λz H=>?_;have hlen:∀J:ad,lenA J 1 (.aV true (some 9) xs)=some xs.length:=λ_=>rfl;refine af ?_;refine ah.block ?_;refine ah.loop (λm f τ=>∃k,k+m=xs.length+1/\1<=k/\(r=0\/k<=r)/\sat [(0,.aV true (some 9) xs),(3,ag k)] f) ?_ xs.length ⟨1,U,U,U,dm⟩;rintro m f τ ⟨k,QI,fC,a1Q,Hj⟩;refine ah.norm _ Hj λz=>?_;clear Hj;have H:Has τ []:=Has.nil;by_cases hn:k<=xs.length
 ·obtain⟨m,rfl⟩:∃k,m=k+1:=⟨m-1,U⟩
  refine af ?_;refine W.et hfn e (de k fC hn a1Q) I I I (mT (hV _) I) ?_;by_cases aS:k=r
  ·subst aS;rw[oC U];refine af ?_;refine ah.ret ?_;exact⟨rfl,rfl⟩
  ·rw[al k fC hn U];refine af ?_;exact⟨m,U,k+1,U,U,U,dm⟩
 ·obtain rfl:m=0:=by omega
  refine af ?_;refine ah.exit ?_;show bo _ _ _ _ _ _ _ _;refine ah.norm [] trivial λg=>?_;refine af ?_;refine ah.ret ?_;obtain rfl:r=0:=by omega
  exact⟨rfl,rfl⟩
end
def Sl.Hk{J τ:ad}{ab:Option Nat}{v:AV}{xs:List AV}(h:Sl J ab v xs)(k:∀i c,v.at? =some i->J.get i=some (.cells c)->τ.get i=some (.cells c)):Sl τ ab v xs:=by
 cases h with
 |nil=>exact .nil
 |ao o cap xs rest h aa aB=>exact .ao o cap xs rest (k _ _ I h) aa aB
def ndsL(L:List a7):Nat->List (List Nat)
 |0=>[]
 |j+1=>ndsL L j++[needL L (ea L) (ndsL L j) (j+1)]
def yy(L:List a7):∀j,(ndsL L j).length=j
 |0=>rfl
 |j+1=>by rw[ndsL,c5,yy L j];rfl
def a1R{L:List a7}{B N:List (List Nat)}{k n:Nat}(h:n∈needL L B N k):n<=k:=by
 unfold needL at h;split at h
 ·rename_i x _;cases hx:x.hyp with
  |true=>rw[hx,cond_true] at h;simp at h;omega
  |false=>rw[hx,cond_false] at h;have:=Ay.1 (mj.1 h).1;omega
 ·simp at h
def b9F{L:List a7}{B N:List (List Nat)}{k:Nat}:(needL L B N k).length<=k+1:=by
 unfold needL;split
 ·rename_i x _;cases hx:x.hyp with
  |true=>rw[cond_true];simp
  |false=>rw[cond_false];have:=sz (oW L B N k x.cs) (List.range k);rw[nc] at this;omega
 ·simp
def Dy{L:List a7}:∀ {j:Nat} {l:List Nat},l∈ndsL L j->l.length<=j+1/\∀n∈l,n<=j
 |0,l,h=>by simp[ndsL] at h
 |j+1,l,h=>by
  rw[ndsL] at h;rcases eX.1 h with h|h
  ·obtain⟨a,b⟩:=Dy h;exact⟨U,λn hn=>by have:=b n hn;omega⟩
  ·rw[cA.1 h];exact⟨b9F,λn hn=>a1R hn⟩
def S7{ar:aJ->Option AV}{o:aJ}{w z:AV}(h:ar o=some w)(aa:w.cells=[w])(aq:w.val=true):ja ar (λi b1=>i*b1) (List.map (λp=>(p.1,shN none,p.2)) [(0,o)]) (hQ 1 [z])=some [w]:=by
 show(match ar o with|none=>none|some v=>cond (Nat.beq v.cells.length 1&&v.val) (match storeCells [z] (0*1) v.cells with|none=>none|some c=>some c) none)=_;rw[h];show cond (Nat.beq w.cells.length 1&&w.val) (match storeCells [z] (0*1) w.cells with|none=>none|some c=>some c) none=_;rw[aa,aq];rfl
structure kT(τ:ad)(p:Nat)(c4:AV)(bV:List AV)(B:List (List Nat)):Prop where
 ao:Sl τ none c4 bV
 len:bV.length=B.length
 el:∀i (h:i<bV.length) (h':i<B.length),eL τ bV[i] B[i]
 q8:∀o,c4.at? =some o->p<o
 sb:∀x∈bV,∀o,x.at? =some o->p<o/\c4.at? ≠some o
def kT.nil{τ:ad}{p:Nat}:kT τ p .nilsl [] []:=⟨.nil,rfl,(λi h=>by simp at h),(λo h=>by cases h),(λx h=>by simp at h)⟩
def wR(c4:AV)(bV:List AV)(c:Nat):Prop:=c4.at? =some c\/∃x∈bV,x.at? =some c
def kT.S8{τ ax:ad}{p:Nat}{c4:AV}{bV:List AV}{B:List (List Nat)}(h:kT τ p c4 bV B)(k:∀i c,wR c4 bV i->τ.get i=some (.cells c)->ax.get i=some (.cells c)):kT ax p c4 bV B:=
 ⟨h.ao.Hk λi c hi=>k i c (.inl hi),h.len,λi a b=>(h.el i a b).Hk λj c aA=>k j c (.inr ⟨_,bC a,aA⟩),h.q8,h.sb⟩
def kT.aD{τ ax:ad}{p:Nat}{c4:AV}{bV:List AV}{B:List (List Nat)}(h:kT τ p c4 bV B)(k:∀i c,p<i->τ.get i=some (.cells c)->ax.get i=some (.cells c)):kT ax p c4 bV B:=h.S8 λi c hi=>k i c (by
 rcases hi with hi|⟨x,hx,hi⟩
 ·exact h.q8 i hi
 ·exact(h.sb x hx i hi).1)
def kT.lt{τ:ad}{p:Nat}{c4:AV}{bV:List AV}{B:List (List Nat)}(h:kT τ p c4 bV B){c:Nat}(aa:wR c4 bV c):c<τ.next:=by
 rcases aa with hi|⟨x,hx,hi⟩
 ·exact h.ao.lt hi
 ·obtain⟨i,hlt,rfl⟩:=iP hx;exact(h.el i hlt (by rw[<-h.len];exact hlt)).lt hi
def kT.push{τ ax:ad}{p:Nat}{c4 bn w:AV}{bV:List AV}{B:List (List Nat)}{l:List Nat}(h:kT τ p c4 bV B)(hw:eL τ w l)(pS:∀o,w.at? =some o->p<o/\c4.at? ≠some o)(an:p<τ.next)(aq:Sl ax none bn (bV++[w]))(ha:bn.at? =some (τ.next+1))(k:∀i o,c4.at? ≠some i->τ.get i=some o->ax.get i=some o):kT ax p bn (bV++[w]) (B++[l]):=by
 refine⟨aq,by rw[c5,c5,h.len];rfl,λi a b=>?_,(λo ho=>by rw[ha] at ho;cases ho;omega),λx hx o ho=>?_⟩
 ·by_cases hi:i<bV.length
  ·rw[iC hi,iC (by rw[<-h.len];exact hi)];exact(h.el i hi (by rw[<-h.len];exact hi)).Hk λj c aA=>k j _ ((h.sb _ (bC hi) j aA).2)
  ·have e:i=bV.length:=by rw[c5] at a;simp only[fw,hr] at a;omega
   subst e;have aU:(B++[l])[bV.length]'b=l:=by simp[h.len]
   have c3:(bV++[w])[bV.length]'a=w:=by simp
   rw[aU,c3];exact hw.Hk λj c aA=>k j _ ((pS j aA).2)
 ·rw[ha];rcases eX.1 hx with hx|hx
  ·exact⟨(h.sb x hx o ho).1,(λe=>by cases e;have:=h.lt (.inr ⟨x,hx,ho⟩);omega)⟩
  ·rw[cA.1 hx] at ho;exact⟨(pS o ho).1,(λe=>by cases e;have:=hw.lt ho;omega)⟩
def Hl(L:List a7)(bV:List AV):Prop:=∀i (h:i<bV.length),(bV[i]).at? =none↔tG L (i+1)=false
def AL(eR:List AV)(N:List (List Nat)):Prop:=∀i (h:i<eR.length) (h':i<N.length),N[i]=[]->eR[i]= .nilsl
def Hl.push{L:List a7}{bV:List AV}{w:AV}(h:Hl L bV)(hw:w.at? =none↔tG L (bV.length+1)=false):Hl L (bV++[w]):=λi hi=>by
 by_cases hl:i<bV.length
 ·rw[iC hl];exact h i hl
 ·have e:i=bV.length:=by rw[c5] at hi;simp only[fw,hr] at hi;omega
  subst e;rw[show(bV++[w])[bV.length]'hi=w from by simp];exact hw
def AL.push{eR:List AV}{N:List (List Nat)}{w:AV}{l:List Nat}(h:AL eR N)(hl:eR.length=N.length)(hw:l=[]->w= .nilsl):AL (eR++[w]) (N++[l]):=λi hi dh=>by
 by_cases hlt:i<eR.length
 ·rw[iC hlt,iC (by rw[<-hl];exact hlt)];exact h i hlt _
 ·have e:i=eR.length:=by rw[c5] at hi;simp only[fw,hr] at hi;omega
  subst e;rw[show(eR++[w])[eR.length]'hi=w from by simp,show(N++[l])[eR.length]'dh=l from by simp[hl]];exact hw
structure Op(τ:ad)(p:Nat)(L:List a7):Prop where
 ex:∃q c4 eQ bV eR,τ.get p=some (.cells [ck L,c4,eQ])/\kT τ q c4 bV (ea L)/\kT τ q eQ eR (ndsL L L.length)/\Hl L bV/\AL eR (ndsL L L.length)
def Op.Dz{τ:ad}{p:Nat}{L:List a7}(h:Op τ p L):n4 τ p L (ea L) (ndsL L L.length):=by
 obtain⟨q,c4,eQ,bV,eR,an,b0,dP,_⟩:=h.ex;exact⟨c4,eQ,bV,eR,an,b0.ao,b0.len,b0.el,dP.ao,dP.len,dP.el⟩
def Op.aD{τ ax:ad}{p:Nat}{L:List a7}(h:Op τ p L)(k:∀i c,τ.get i=some (.cells c)->ax.get i=some (.cells c)):Op ax p L:=by
 obtain⟨q,c4,eQ,bV,eR,an,b0,dP,h1,h2⟩:=h.ex;exact⟨q,c4,eQ,bV,eR,k _ _ an,b0.aD λi c _=>k i c,dP.aD λi c _=>k i c,h1,h2⟩
section
def b9G(hh:a3 (b.aF K) GC Gf){L:List a7}{J:ad}:
  bb (b.aF K) 0 (.f (.func GC) [] []) [ck L] J (λr τ=>r= .ok (.f (.func Dg) [] [aw J.next])/\τ.get J.next=some (.cells [ck L])/\τ.next=J.next+1/\cM J τ):=by
 refine W.sA hh I I I λz H=>?_;refine af ?_;generalize aS:J.next=q;refine W.bN H aS I I I I I λτ hn H bl=>?_;refine af ?_;exact ah.ret ⟨rfl,rfl,H.qx,hn,U,bl⟩
end
section
variable {b:bJ}{K:Nat->List AV->AV->Prop}(hfn:∀g aO r bR,K g aO r->K g aO bR->r=bR)
include hfn
theorem a1S(hf:n5 b K)(hh:a3 (b.aF K) Ms LA)(ha:a3 (b.aF K) GC Gf)(a1T:a3 (b.aF K) Dg Gl){L:List a7}(ct:yv L)(aY:0<L.length)(d0W:L.length<=500)(Rz:∀J,bt J (b.bh+1000) (ck L)=some (ck L))(em:b.ext tC=0/\b.pure tC=true)(hm:K tC [ck L] (ag 0))(dW:u5 L (ea L))(aa:∀k x,L[k-1]? =some x->1<=k->wP k x.cs){J:ad}:
  bb (b.aF K) 0 (.f (.func Ms) [] []) [ck L] J (λr τ=>∃p,r= .ok (.bg [aw p,ag 0])/\Op τ p L/\J.next<=p/\cM J τ):=by
 refine W.a1O (d:=J.next+3) hh.e hh.p hh.f (by cbv) I I λz=>?_;have H:Has J []:=Has.nil;refine cQ.j1 ?_;refine af ?_;refine⟨rfl,?_⟩;refine cQ.j1 ?_;refine af ?_;refine⟨rfl,?_⟩;refine cQ.j1 ?_;refine af ?_;refine W.et hfn em hm I I I (mS (Rz _)) ?_;refine W.bin (v:=.b false) I I I I I ?_;refine af ?_;refine⟨rfl,?_⟩;refine cQ.j1 ?_;refine af ?_;refine W.bN (c:=[ck L,.nilsl,.nilsl]) H I I I I I I λτ cy H bl=>?_;refine af ?_;refine W.kk H cy I I I I I I λa5 c6 H bj=>?_;refine af ?_;refine⟨rfl,?_⟩;refine cQ.wC ?_;refine cQ.j1 ?_;refine af ?_;refine W.bS I I I (b9G ha) λr bu ⟨e,bY,dx,ey⟩=>⟨_,e,?_⟩
 refine af ?_;refine⟨rfl,?_⟩;refine cQ.block ?_;have b9H:bu.next=J.next+3:=by omega
 have aU:a5.next=J.next+2:=by omega
 rw[aU] at bY ⊢;clear aU dx e;have vb:=H.aD ey.2;have H:Has bu [(J.next+1,[aw J.next]),(J.next,[ck L,.nilsl,.nilsl])]:=vb;have cl:cM J bu:=⟨U,λi o h=>ey.2 i o (bj i o (bl i o h))⟩
 clear vb ey bj bl c6 cy;generalize aS:J.next=q at *;have hlen:=dW.len;have J_:∀i,i<L.length->(ea L).getD i []=stF L (i+1):=λi hi=>by
  unfold ea;rw[fD,iR,E1 hi];rfl
 refine cQ.iter (k:=q+3) L.length (λi W τ=>∃c4 bV,kT τ (q+4) c4 bV ((List.range i).map λi=>stF L (i+1))/\τ.get q=some (.cells [ck L,c4,.nilsl])/\Hl L bV/\∀c,W c↔c=q\/wR c4 bV c) (λi V τ args=>∃v,args=[ag (i+1),v]/\eL τ v (stF L (i+1))/\(v.at? =none↔tG L (i+1)=false)/\∀o,v.at? =some o->¬V o) (λc=>c=q) b9H I a1T.e I (λi W τ args ⟨v,e,_⟩=>by rw[e];rfl) ?_ ?_ (λc aa=>by rw[aa];omega) (b9A a1T ct bY _ (by show ¬(q+2=q);omega)) ?_ ?_
 ·rintro i V τ ax ⟨c4,bV,h1,h2,h3,aH⟩ bA hn;exact⟨c4,bV,h1.S8 λi c hi=>bA i _ ((aH i).2 (.inr hi)),bA _ _ ((aH _).2 (.inl I)) h2,h3,aH⟩
 ·exact⟨.nilsl,[],.nil,H.x7,(λi h=>by simp at h),λc=>by simp[wR,AV.at?]⟩
 ·rintro i V τ args hi ⟨v,rfl,aq,oY,jx⟩ aL tc S9 uK bA;refine ah.norm [(25,v),(4,aw (q+1))] dm λg=>?_;have b9I:Has τ []:=Has.nil;have fY:=bA _ _ (show ¬q+1=q by omega) (H.qx);clear H b9I;have H:Has τ []:=Has.nil;refine af ?_;refine⟨rfl,⟨a8 _,λ_ _ h=>h⟩,λa5 iH bj aL=>?_⟩;obtain⟨c4,bV,vc,an,M5,hW⟩:=aL;have fY:=bj _ _ U fY;have aq:=aq.Hk (τ:=a5) λi c hi hg=>bj i _ (λe=>tc c (e▸hg)) hg;have H:Has a5 [(q,[ck L,c4,.nilsl]),(q+1,[aw q])]:=(Has.nil.cons fY ay).cons an ay;refine ah.norm [(6,v),(4,aw (q+1))] dm λg=>?_;have fM:bV.length=i:=by rw[vc.len];simp
  have b9J:(stF L (i+1)).length<2^20:=by
   rw[ct.len i hi,cp hi];have:=(ct.num _ (bC hi)).1;show(L[i]).bK<_;omega
  refine af ?_;refine W.jK H I I I (.head _) I (eo vc.ao.lf) ?_;refine af ?_;refine W.bS I I I (a1G hf aq b9J) λr b3 ⟨w,e,hw,eS⟩=>⟨_,e,?_⟩
  have H:=H.aD eS.2;refine af ?_;have aH:=vc.ao.aD (τ:=b3) λi o _=>eS.2 i o;refine W.bV (c:=[w]) H I I I (S7 I hw.ao.j3 hw.ao.G5) λax pL H fh=>?_;have h4:=H.qx;have S_:ax.get q=some (.cells [ck L,c4,.nilsl]):=H.x7;have Hm:ax.get (q+1)=some (.cells [aw q]):=H.Ag;refine W.now [(8,q,.cells [ck L,c4,.nilsl]),(8,q+1,.cells [aw q]),(8,q+1,.cells [aw q])] [(11,q+1,.cells [aw q])] I I ⟨S_,Hm,Hm,trivial⟩ ?_;refine W.ap (w:=.ao b3.next 0 1 none (some 1)) w [] (aH.aD λi o _=>fh i o) (by show readList ax (.ao b3.next 0 1 none (some 1))=_;show(match ax.get b3.next with|some (.cells c)=>elems none 1 (c.drop 0)|_=>none)=_;rw[h4];rfl) (λz a_=>by rw[cA.1 a_];exact hw.ao.jm) (by show(3*(bV.length+1)+2000)*24<=_;rw[fM];omega) I I I I λbn cW wS Ta Tb b9K Tc=>?_;have sF:bn.at? =some (b3.next+1):=by rw[Ta,pL]
  have gw:cW.next=b3.next+2:=by omega
  have cP:∀i o,c4.at? ≠some i->b3.get i=some o->cW.get i=some o:=λi o hi ho=>Tc i o hi (fh i o ho);replace H:Has b3 [(q,[ck L,c4,.nilsl]),(q+1,[aw q])]:=(Has.nil.cons (eS.2 _ _ fY) ay).cons (eS.2 _ _ an) ay;have H:Has cW [(q,[ck L,c4,.nilsl]),(q+1,[aw q])]:=(Has.nil.cons (cP _ _ (λe=>by have:=vc.q8 _ e;omega) (H.x7)) ay).cons (cP _ _ (λe=>by have:=vc.q8 _ e;omega) (H.qx)) ay;refine af ?_;refine W.st (bc:=[ck L,bn,.nilsl]) H 0 I I I I wS.jm (by rw[wS.j3];rfl) λdr h5 H dI=>?_;refine af ?_;have b9L:kT b3 (q+4) c4 bV ((List.range i).map λi=>stF L (i+1)):=vc.aD λi c _=>eS.2 i _;have b9M:=b9L.push hw.ao (λo ho=>⟨by have:=hw.c1 o ho;omega,λe=>by have:=hw.c1 o ho;have:=vc.lt (.inl e);omega⟩) (by have:=eS.1;omega) wS sF cP;refine⟨rfl,λc=>c=q\/wR bn (bV++[w]) c,⟨bn,bV++[w],?_,H.qx,M5.push (by rw[hw.iq,fM];exact oY),λc=>Iff.rfl⟩,?_⟩
  ·rw[yo,gO];exact b9M.aD λi c hi=>dI i _ U
  ·refine⟨by have:=eS.1;omega,λc o aa ho=>dI _ _ (λe=>aa ((hW c).2 (.inl e))) (cP _ _ (λe=>aa ((hW c).2 (.inr (.inl e)))) (eS.2 _ _ ho)),λc aa=>?_⟩;rcases aa with rfl|aa|⟨x,hx,aa⟩
   ·exact .inl ((hW _).2 (.inl I))
   ·right;rw[sF] at aa;cases aa;have:=eS.1;omega
   ·rcases eX.1 hx with hx|hx
    ·exact .inl ((hW _).2 (.inr (.inr ⟨x,hx,aa⟩)))
    ·right;rw[cA.1 hx] at aa;have:=hw.c1 c aa;have:=hw.ao.lt aa;omega
 ·intro W' τ ⟨c4,bV,vc,an,M5,hW⟩ eH jj bA kO;have b0:((List.range L.length).map λi=>stF L (i+1))=ea L:=rfl;rw[b0] at vc;refine⟨rfl,rfl,?_⟩;refine ah.norm [(0,ck L),(4,aw (q+1)),(3,ag 0)] dm λg=>?_;have fY:=bA _ _ (show ¬q+1=q by omega) (H.qx);have b9N:cM J τ:=⟨by have:=cl.1;omega,λi o ho=>bA i o (by have:=ad.a9 ho;omega) (cl.2 i o ho)⟩
  clear H bA kO hW;have H:Has τ [(q,[ck L,c4,.nilsl]),(q+1,[aw q])]:=(Has.nil.cons fY ay).cons an ay;refine af ?_;show bo _ _ _ _ _ _ _ _;refine W.u6 (α:=AV×List AV) (λ_=>[(0,ck L),(4,aw (q+1)),(3,ag 0)]) (λx τ=>kT τ (q+4) c4 bV (ea L)/\kT τ (q+4) x.1 x.2 (ndsL L L.length)/\(∀c,wR c4 bV c->¬wR x.1 x.2 c)/\AL x.2 (ndsL L L.length)/\τ.get q=some (.cells [ck L,c4,x.1])/\τ.get (q+1)=some (.cells [aw q])/\τ.get (q+3)=some .c7/\cM J τ) ?_ ?_
  ·refine ah.each L.length (λj f τ=>∃eQ eR,kT τ (q+4) c4 bV (ea L)/\kT τ (q+4) eQ eR (ndsL L j)/\(∀c,wR c4 bV c->¬wR eQ eR c)/\AL eR (ndsL L j)/\τ.get q=some (.cells [ck L,c4,eQ])/\τ.get (q+1)=some (.cells [aw q])/\τ.get (q+3)=some .c7/\q+5<=τ.next/\cM J τ/\sat [(0,ck L),(4,aw (q+1)),(3,ag 0)] f) U ⟨.nilsl,[],vc,.nil,?_,(λi h=>by simp at h),an,fY,eH,jj,b9N,dm⟩ I I (λj g τ aA aL hi hm=>?_) (λg τ aL hi=>?_)
   ·intro c _ h;rcases h with h|⟨x,hx,h⟩
    ·cases h
    ·simp at hx
   ·obtain⟨eQ,eR,b0,dP,hd,AM,an,fY,eH,jj,cl,cm,cf,bY,_⟩:=aL;refine ah.norm [(0,ck L),(4,aw (q+1)),(3,ag 0),(39,ag j),(38,ag L.length)] ⟨cm,cf,bY,hi,hm,trivial⟩ λg=>?_;have H:Has τ [(q,[ck L,c4,eQ]),(q+1,[aw q])]:=(Has.nil.cons fY ay).cons an ay;have tc:=yy L j;have ft:n4 τ q L (ea L) (ndsL L j):=⟨c4,eQ,bV,eR,an,b0.ao,b0.len,b0.el,dP.ao,dP.len,dP.el⟩
    refine af ?_;refine W.jK H I I I (.head _) I (eo dP.ao.lf) ?_;refine af ?_;refine W.bS I I I (b9u hf ft dW (λx hx=>by have:=ct.num x hx;omega) (λl hl=>by have:=(Dy hl).1;omega) (j+1) U U U (λl hl n hn=>by have:=(Dy (pe hl)).2 n hn;omega) (λx hx=>aa (j+1) x hx U)) λr b3 ⟨w,e,hw,eS⟩=>⟨_,e,?_⟩
    have H:=H.aD eS.2;refine af ?_;have aH:=dP.ao.aD (τ:=b3) λi o _=>eS.2 i o;refine W.bV (c:=[w]) H I I I (S7 I hw.ao.j3 hw.ao.G5) λax pL H fh=>?_;have h4:=H.qx;have S_:ax.get q=some (.cells [ck L,c4,eQ]):=H.x7;have Hm:ax.get (q+1)=some (.cells [aw q]):=H.Ag;refine W.now [(10,q,.cells [ck L,c4,eQ]),(10,q+1,.cells [aw q]),(10,q+1,.cells [aw q])] [(13,q+1,.cells [aw q])] I I ⟨S_,Hm,Hm,trivial⟩ ?_;have fM:eR.length=j:=by rw[dP.len,tc]
    refine W.ap (w:=.ao b3.next 0 1 none (some 1)) w [] (aH.aD λi o _=>fh i o) (by show readList ax (.ao b3.next 0 1 none (some 1))=_;show(match ax.get b3.next with|some (.cells c)=>elems none 1 (c.drop 0)|_=>none)=_;rw[h4];rfl) (λz a_=>by rw[cA.1 a_];exact hw.ao.jm) (by show(3*(eR.length+1)+2000)*24<=_;rw[fM];omega) I I I I λbn cW wS Ta Tb b9K Tc=>?_;have sF:bn.at? =some (b3.next+1):=by rw[Ta,pL]
    have gw:cW.next=b3.next+2:=by omega
    have cP:∀i o,eQ.at? ≠some i->b3.get i=some o->cW.get i=some o:=λi o hi ho=>Tc i o hi (fh i o ho);have DA:=eS.1;replace H:Has cW [(q,[ck L,c4,eQ]),(q+1,[aw q])]:=(Has.nil.cons (cP _ _ (λe=>by have:=dP.q8 _ e;omega) (eS.2 _ _ fY)) ay).cons (cP _ _ (λe=>by have:=dP.q8 _ e;omega) (eS.2 _ _ an)) ay;refine af ?_;refine W.st (bc:=[ck L,c4,bn]) H 0 I I I I wS.jm (by rw[wS.j3];rfl) λdr h5 H dI=>?_;refine af ?_;have b9O:kT b3 (q+4) eQ eR (ndsL L j):=dP.aD λi c _=>eS.2 i _;have b9P:=b9O.push hw.ao (λo ho=>⟨by have:=hw.c1 o ho;omega,λe=>by have:=hw.c1 o ho;have:=dP.lt (.inl e);omega⟩) U wS sF cP;refine⟨rfl,rfl,bn,eR++[w],(b0.S8 λi c hi hg=>dI i _ ?_ (cP i _ (λe=>hd i hi (.inl e)) (eS.2 i _ hg))),b9P.aD λi c hi=>dI i _ U,?_,AM.push dP.len hw.iq,H.qx,H.x7,dI _ _ U (cP _ _ (λe=>by have:=dP.q8 _ e;omega) (eS.2 _ _ eH)),U,⟨by have:=cl.1;omega,λi o ho=>dI _ _ (by have:=ad.a9 ho;omega) (cP _ _ (λe=>by have:=dP.q8 _ e;have:=ad.a9 ho;omega) (eS.2 _ _ (cl.2 _ _ ho)))⟩,dm⟩
    ·intro e;subst e;rcases hi with hi|⟨x,hx,hi⟩
     ·have:=b0.q8 _ hi;omega
     ·have:=(b0.sb x hx _ hi).1;omega
    ·intro c a1U b9Q;have hlt:=b0.lt a1U;rcases b9Q with h|⟨x,hx,h⟩
     ·rw[sF] at h;cases h;omega
     ·rcases eX.1 hx with hx|hx
      ·exact hd c a1U (.inr ⟨x,hx,h⟩)
      ·rw[cA.1 hx] at h;have:=hw.c1 c h;omega
   ·obtain⟨eQ,eR,b0,dP,hd,AM,an,fY,eH,jj,cl,cm,cf,bY,_⟩:=aL;exact⟨rfl,(eQ,eR),⟨b0,dP,hd,AM,an,fY,eH,cl⟩,cm,cf,bY,trivial⟩
  ·intro x g ax ⟨b0,dP,hd,AM,an,fY,eH,cl⟩;have H:Has ax [(q,[ck L,c4,x.1]),(q+1,[aw q])]:=(Has.nil.cons fY ay).cons an ay;refine af ?_;refine ah.ret ⟨rfl,eH,_,rfl,q,rfl,?_,?_,?_⟩
   ·have ft:Op ax q L:=⟨q+4,c4,x.1,bV,x.2,an,b0,dP,M5,AM⟩
    exact ft.aD λi c hg=>(hK eH).2 i _ (λe=>by subst e;rw[eH] at hg;cases hg) hg
   ·omega
   ·exact⟨cl.1,λi o ho=>(hK eH).2 i _ (λe=>by have:=ad.a9 ho;omega) (cl.2 i o ho)⟩
end
def vd{α β:Type}{f:α->Option β}{g:α->β}:∀ {l:List α},(∀x∈l,f x=some (g x))->mapO f l=some (l.map g)
 |[],_=>rfl
 |x::l,h=>by
  rw[mapO_cons,h x ay,vd λy hy=>h y (g1 _ hy)];rfl
def sG{α β:Type}{f:α->Option β}:∀ {l:List α} {r:List β},l.length=r.length->(∀i (h:i<l.length) (h':i<r.length),f l[i]=some r[i])->mapO f l=some r
 |[],[],_,_=>rfl
 |[],_::_,h,_=>by simp at h
 |_::_,[],h,_=>by simp at h
 |x::l,y::r,h,hi=>by
  rw[mapO_cons,show f x=some y from hi 0 ay ay,sG (l:=l) (r:=r) (by simpa using h) λi a b=>hi (i+1) (by simpa using a) (by simpa using b)]
def DB(v:AV)(ab:Option Nat)(ba:List AV):AV:=match v.at? with|none=>.nilsl|some _=>.aV false ab ba
def Sl.freeze{J:ad}{ab:Option Nat}{v:AV}{xs ba:List AV}{n:Nat}(h:Sl J ab v xs)(hm:mapO (Go.Lyc.freeze J 0 n) xs=some ba):Go.Lyc.freeze J 0 (n+1) v=some (DB v ab ba):=by
 have ak:=h.read;cases h with
 |nil=>rfl
 |ao o cap xs rest h aa aB=>
  rw[freeze_succ];simp only[ak,hm];rfl
def Sl.DC{J:ad}{v:AV}{l:List Nat}{n:Nat}(h:eL J v l):Go.Lyc.freeze J 0 (n+2) v=some (DB v none (l.map ag)):=Sl.freeze h (by
 have:=vd (f:=Go.Lyc.freeze J 0 (n+1)) (g:=λx=>x) (l:=l.map ag) (λx hx=>by obtain⟨m,_,rfl⟩:=cT.1 hx;rfl);rwa[wJ] at this)
def o0(N:List (List Nat)):AV:=slA false none (N.map λl=>slA false none (l.map ag))
def kT.b9R{τ:ad}{q:Nat}{eQ:AV}{eR:List AV}{N:List (List Nat)}(h:kT τ q eQ eR N)(a_:AL eR N)(aY:N≠[]){n:Nat}:Go.Lyc.freeze τ 0 (n+3) eQ=some (o0 N):=by
 rw[h.ao.freeze (ba:=N.map λl=>slA false none (l.map ag)) (sG (by rw[bB,h.len]) λi a b=>?_)]
 ·unfold o0 DB;have hl:=h.len;cases N with
  |nil=>exact absurd I aY
  |cons l N=>
   have:=h.ao;cases this with
   |nil=>simp at hl
   |ao o cap xs rest hg aa aB=>rfl
 ·rw[ez];have hb:i<N.length:=by rw[<-h.len];exact a
  rw[(h.el i a hb).DC];unfold DB;have h1:=h.el i a hb;have h2:=a_ i a hb;generalize eR[i]=w at h1 h2;generalize N[i]=l at h1 h2;cases l with
  |nil=>rw[h2 I];rfl
  |cons x l=>
   unfold eL at h1;generalize hm:(x::l).map ag=xs at h1;cases h1 with
   |nil=>simp at hm
   |ao o cap xs rest hg aa aB=>subst hm;rfl
section
variable {b:bJ}{K:Nat->List AV->AV->Prop}(hfn:∀g aO r bR,K g aO r->K g aO bR->r=bR)
structure DD(b:bJ)(K:Nat->List AV->AV->Prop)(L:List a7):Prop where
 kU:yv L
 ne:0<L.length
 le:L.length<=500
 jy:∀J,bt J (b.bh+1000) (ck L)=some (ck L)
 AN:K tC [ck L] (ag 0)
 o1:u5 L (ea L)
 e0:∀k x,L[k-1]? =some x->1<=k->wP k x.cs
structure HO(b:bJ)(K:Nat->List AV->AV->Prop):Prop where
 op:a3 (b.aF K) Ms LA
 aO:a3 (b.aF K) GC Gf
 a1V:a3 (b.aF K) Dg Gl
 gL:b.ext tC=0/\b.pure tC=true
include hfn
theorem b9S(hf:n5 b K)(ho:HO b K){L:List a7}(dt:DD b K L)(body:b5)(hb:F8.body=some body):ah (b.aF K) F8.ntmps body (gy [ck L]) ⟨.nil,0⟩ (Dx F8.results (.bg [o0 (ndsL L L.length),ag 0])):=by
 cbv at hb
 cases hb;refine W.m1 λz H=>?_;refine af ?_;refine W.bS I I I (a1S hfn hf ho.op ho.aO ho.a1V dt.kU dt.ne dt.le dt.jy ho.gL dt.AN dt.o1 dt.e0) λr τ ⟨p,e,cv,_,M⟩=>⟨_,e,?_⟩
 refine af ?_;obtain⟨q,c4,eQ,bV,eR,an,b0,dP,M5,AM⟩:=cv.ex;have H:Has τ [(p,[ck L,c4,eQ])]:=Has.nil.cons an ay;refine af ?_;refine ah.ret ?_;refine⟨rfl,_,rfl,?_⟩;have aY:ndsL L L.length≠[]:=λe=>by have:=yy L L.length;rw[e] at this;have:=dt.ne;simp at *;omega
 rw[freeze_succ];show(match mapO (Go.Lyc.freeze τ 0 999) [eQ,ag 0] with|none=>none|some l=>some (AV.bg l))=_;rw[mapO_cons,dP.b9R AM aY (n:=996)];rfl
end
structure kV where
 eE:Fm
 hyps:List Fm
 rest:List Fm
abbrev DE(F:Fm):AV:=.aj (.b true::br F)
abbrev kV.A(g:kV):AV:=.aj (br g.eE++[slA true (some 5) (g.hyps.map DE),slA true (some 4) (g.rest.map λF=>.aj (br F))])
structure sH(P:Nat->Prop)(J:ad)(v:AV)(g:kV):Prop where
 ex:∃aq gk,v= .aj (br g.eE++[aq,gk])/\Sl J (some 5) aq (g.hyps.map DE)/\(g.hyps=[]->aq= .nilsl)/\Sl J (some 4) gk (g.rest.map λF=>.aj (br F))/\(g.rest=[]->gk= .nilsl)/\∀o,aq.at? =some o\/gk.at? =some o->P o
def sH.aD{P a1W:Nat->Prop}{J τ:ad}{v:AV}{g:kV}(h:sH P J v g)(k:∀i o,P i->J.get i=some o->τ.get i=some o)(ft:∀i,P i->i<J.next->a1W i):sH a1W τ v g:=by
 obtain⟨aq,gk,e,h1,h2,h3,aH,bT⟩:=h.ex;exact⟨aq,gk,e,h1.aD λi o hi=>k i o (bT _ (.inl hi)),h2,h3.aD λi o hi=>k i o (bT _ (.inr hi)),aH,λo ho=>ft o (bT o ho) (by rcases ho with ho|ho;exact h1.lt ho;exact h3.lt ho)⟩
def ry{ar:aJ->Option AV}{b1:Nat->Nat->Nat}{aE:List (Nat×Nat×aJ)}{i n:Nat}{o:aJ}{v:AV}{z c r:List AV}(h:ar o=some v)(hl:(Nat.beq v.cells.length n&&v.val)=true)(al:storeCells z (b1 i n) v.cells=some c)(ak:ja ar b1 aE c=some r):ja ar b1 ((i,n,o)::aE) z=some r:=by
 show(match ar o with|none=>none|some v=>cond (Nat.beq v.cells.length n&&v.val) (match storeCells z (b1 i n) v.cells with|none=>none|some c=>ja ar b1 aE c) none)=_;rw[h];show cond (Nat.beq v.cells.length n&&v.val) (match storeCells z (b1 i n) v.cells with|none=>none|some c=>ja ar b1 aE c) none=_;rw[hl,cond_true,al];exact ak
def a1X{ar:aJ->Option AV}{b1:Nat->Nat->Nat}{aE:List (Nat×Nat×aJ)}{i:Nat}{o:aJ}{w:AV}{z c r:List AV}{J:ad}{ab:Option Nat}{xs:List AV}(hw:Sl J ab w xs)(h:ar o=some w)(al:storeCells z (b1 i 1) [w]=some c)(ak:ja ar b1 aE c=some r):ja ar b1 ((i,1,o)::aE) z=some r:=
 ry h (by rw[hw.j3,hw.G5];rfl) (by rw[hw.j3];exact al) ak
def W.gx{cb:jv}{env:Env}{aK:Option Nat}{D:List (Nat ⊕ (AV×List AV))}{n:Nat}{F:List (Nat×AV)}{z:Nat->AV}{J:ad}{Q:dO}{d:Nat}{Ke c:List AV}{aE:List (Nat×Nat×aJ)}{g:Option (Nat×Bool)}{ops:List a2}(hd:Nat.blt d n=true)(hw:wtL g n F=true)(hl:ja (cL env n F z) (λoff _=>off) aE Ke=some c)(h:bM cb env aK D n ops (bs ((d,.aj c)::F) z) J Q):bM cb env aK D n (⟨some d,.build Ke aE,g,[]⟩::ops) (bs F z) J Q:=
 W.val hd hw (by show(match ja (cL env n F z) (λoff _=>off) aE Ke with|some c=>some (bO.val (.aj c) J)|none=>none)=_;rw[hl]) h
def nA:kV:=⟨.mk 0 [] none none,[],[]⟩
def nA.v{P:Nat->Prop}{J:ad}:sH P J (.aj [.i .u8 0,.s [],.nilsl,.nilsl,.nilsl,.nilsl]) nA:=⟨.nilsl,.nilsl,rfl,.nil,λ_=>rfl,.nil,λ_=>rfl,λo h=>by rcases h with h|h<;>cases h⟩
def kW(B:List (List Nat))(k a c:Nat):Bool:=decide (a=c)&&(decide ((B.getD (c-1) []).length<=(B.getD (k-1) []).length)&&decide (B.getD (c-1) []=(B.getD (k-1) []).take (B.getD (c-1) []).length))
section
def b9T(hf:n5 b K)(hh:a3 (b.aF K) yg L5){p dg cD:Nat}{L:List a7}{B N:List (List Nat)}{J:ad}(ft:n4 J p L B N)(dW:u5 L B)(jX:J.get dg=some (.cells [aw p]))(k a c:Nat)(lx:J.get cD=some (.cells [ag k]))(ha:1<=a)(fU:a<=c)(e9:c<k)(aB:k<=L.length)(a1C:N.length=L.length)(dP:∀l∈N,l.length<2^20/\∀n∈l,1<=n/\n<=L.length)(jo:∀J,bt J (b.bh+1000) (ck L)=some (ck L))(m4:∀x∈L,x.f.dep<=200):
  bb (b.aF K) 0 (.f (.func yg) [] [aw dg,aw cD]) [.aj [ag a,ag c]] J (λr τ=>∃g,r= .ok (.bg [g,.b (kW B k a c)])/\sH (λo=>J.next<=o) τ g (cond (kW B k a c) ⟨gU L c,[],(N.getD (c-1) []).map (gU L)⟩ nA)/\cM J τ):=by
 refine W.m3 hh.e hh.p hh.f (by cbv) I I λz=>?_;obtain⟨c4,eQ,bV,eR,h1,h2,h3,aH,bT,cE,eI⟩:=ft.ex;have aY:∀ {i j:Nat} {c d:List AV},J.get i=some (.cells c)->J.get j=some (.cells d)->c≠d->j≠i:=λh h' wm e=>wm (by subst e;rw[h] at h';cases h';rfl);have H:Has J [(p,[ck L,c4,eQ]),(dg,[aw p]),(cD,[ag k])]:=((Has.nil.cons lx ay).cons jX λx hx=>by rw[cA.1 hx];exact aY jX lx ay).cons h1 λx hx=>by
  rcases c2.1 hx with rfl|hx
  ·exact aY h1 jX ay
  ·rw[cA.1 hx];exact aY h1 lx ay
 have hl:=dW.lt;have hd:=dW.len;refine af ?_;generalize aS:J.next=q;refine W.bN (c:=[ag a,ag c]) H aS I I I I I λτ hn H bl=>?_;refine af ?_;refine W.b6 (c:=[.i .u8 0,.s [],.nilsl,.nilsl,.nilsl,.nilsl]) H hn I I I λa5 iH H bj=>?_;have cG:∀i o,J.get i=some o->a5.get i=some o:=λi o h=>bj _ _ (bl _ _ h);have aq:=(h2.aD (τ:=a5) λi o _=>cG i o).vw;have oY:=(bT.aD (τ:=a5) λi o _=>cG i o).vw;have aL:=(aH (c-1) U U).aD (τ:=a5) λi o _=>cG i o;have gX:=(aH (k-1) U U).aD (τ:=a5) λi o _=>cG i o;have ct:=(eI (c-1) U U).aD (τ:=a5) λi o _=>cG i o;have ny:B.getD (c-1) []=B[c-1]:=by rw[fD,cp U];rfl
 have SQ:B.getD (k-1) []=B[k-1]:=by rw[fD,cp U];rfl
 have xM:N.getD (c-1) []=N[c-1]:=by rw[fD,cp U];rfl
 have hIn:=aL.kQ;have a1y:=gX.kQ;have lU:=dW.blt _ (bC (show c-1<B.length by omega));have ZL:=dW.blt _ (bC (show k-1<B.length by omega));unfold kW;rw[ny,SQ,xM];refine af ?_;by_cases aM:a=c
 ·subst aM;rw[decide_eq_true I,pI];by_cases aU:(B[a-1]).length<=(B[k-1]).length
  ·rw[decide_eq_true aU,pI];refine af ?_;refine W.MQ gX aU I I I I λw hw=>?_;refine af ?_;refine W.bS I I I (a1w hf.equal hIn hw U) λr τ ⟨e,c3⟩=>⟨_,e,?_⟩
   subst c3;by_cases c3:B[a-1]=(B[k-1]).take (B[a-1]).length
   ·rw[decide_eq_true c3];have Hn:=m4 _ (bC (show a-1<L.length by omega));have Ho:=MY (L:=L) (n:=a) ha U;have a1Y:=dP _ (bC (show a-1<N.length by omega));refine af ?_;refine W.jK H I I I (.tail _ (.tail _ (.head _))) I (Snp.eqb _ _ jo) ?_;refine af ?_;refine W.pM (v:=.aj (br (L[a-1]).f)) I I I (λs=>nZ _ _ I I) (Snp.eqb _ _ λJ=>by have:=Fm.snap J true _ (L[a-1]).f (b.bh+1000) (a8 _) U;rwa[j4] at this) ?_;refine af ?_;refine W.bS I I I (S3 hf (ft.aD cG) U ct a1Y.1 a1Y.2) λr b3 ⟨ir,e,kA,eS⟩=>⟨_,e,?_⟩
    have H:=H.aD eS.2;refine af ?_;refine W.gx I I (ry I I I (a1X kA.ao I I I)) ?_;refine af ?_;refine W.st H 0 I I I I I I λbu dx H k3=>?_;refine af ?_;refine ah.ret ⟨rfl,_,jN (gl I (H.qx) I) I,_,rfl,?_,?_,λi o h=>k3 _ _ (by have:=ad.a9 h;omega) (eS.2 _ _ (cG _ _ h))⟩
    ·have d0X:=eS.1;have Td:=kA.ao.aD (τ:=bu) λi o hi=>k3 i o (by have:=kA.c1 i hi;omega);have:=kA.iq;rw[cond_true];refine⟨.nilsl,ir,by rw[Ho];rfl,.nil,λ_=>rfl,?_,λe=>this ?_,λo ho=>?_⟩
     ·rw[kq];exact Td
     ·simpa using e
     ·rcases ho with ho|ho
      ·cases ho
      ·have:=kA.c1 o ho;omega
    ·have:=eS.1;omega
   ·rw[decide_eq_false c3];refine af ?_;refine W.st H 0 I I I I I I λbu dx H k3=>?_;refine af ?_;exact ah.ret ⟨rfl,_,jN (gl I (H.qx) I) I,_,rfl,nA.v,U,λi o h=>k3 _ _ (by have:=ad.a9 h;omega) (cG _ _ h)⟩
  ·rw[decide_eq_false aU,Dr];refine af ?_;refine W.st H 0 I I I I I I λbu dx H k3=>?_;refine af ?_;exact ah.ret ⟨rfl,_,jN (gl I (H.qx) I) I,_,rfl,nA.v,U,λi o h=>k3 _ _ (by have:=ad.a9 h;omega) (cG _ _ h)⟩
 ·rw[decide_eq_false aM,Dr];refine af ?_;refine W.st H 0 I I I I I I λbu dx H k3=>?_;refine af ?_;exact ah.ret ⟨rfl,_,jN (gl I (H.qx) I) I,_,rfl,nA.v,U,λi o h=>k3 _ _ (by have:=ad.a9 h;omega) (cG _ _ h)⟩
end
def a1Z{L:List a7}{first d:Nat}:∀ {m Cf n:Nat},n∈asmF L first d m Cf->Cf<=n/\n-1<L.length
 |0,_,_,h=>by simp[asmF] at h
 |m+1,Cf,n,h=>by
  rw[AD] at h;split at h
  ·rename_i x hx;split at h
   ·rcases c2.1 h with rfl|h
    ·exact⟨a8 _,(fH.1 hx).1⟩
    ·have:=a1Z h;omega
   ·simp at h
  ·simp at h
section
def b9U(hf:n5 b K)(hh:a3 (b.aF K) yh L6){p dg cD:Nat}{L:List a7}{B N:List (List Nat)}{J:ad}(ft:n4 J p L B N)(dW:u5 L B)(jX:J.get dg=some (.cells [aw p]))(k a c:Nat)(lx:J.get cD=some (.cells [ag k]))(ha:1<=a)(fU:a<=c)(e9:c<k)(aB:k<=L.length)(a1C:N.length=L.length)(dP:∀l∈N,l.length<2^20/\∀n∈l,1<=n/\n<=L.length)(jo:∀J,bt J (b.bh+1000) (ck L)=some (ck L))(m4:∀x∈L,x.f.dep<=200)(dS:∀x∈L,x.op<2^20)(hlt:L.length<2^16):
  bb (b.aF K) 0 (.f (.func yh) [] [aw dg,aw cD]) [.aj [ag a,ag c]] J (λr τ=>∃g,r= .ok (.bg [g,.b (lK L B k a c)])/\sH (λo=>J.next<=o) τ g (cond (lK L B k a c) ⟨gU L c,(kR L a (jM L k+1)).map (gU L),(pP L N k a c).map (gU L)⟩ nA)/\cM J τ):=by
 refine W.m3 hh.e hh.p hh.f (by cbv) I I λz=>?_;obtain⟨c4,eQ,bV,eR,h1,h2,h3,aH,bT,cE,eI⟩:=ft.ex;have aY:∀ {i j:Nat} {c d:List AV},J.get i=some (.cells c)->J.get j=some (.cells d)->c≠d->j≠i:=λh h' wm e=>wm (by subst e;rw[h] at h';cases h';rfl);have H:Has J [(p,[ck L,c4,eQ]),(dg,[aw p]),(cD,[ag k])]:=((Has.nil.cons lx ay).cons jX λx hx=>by rw[cA.1 hx];exact aY jX lx ay).cons h1 λx hx=>by
  rcases c2.1 hx with rfl|hx
  ·exact aY h1 jX ay
  ·rw[cA.1 hx];exact aY h1 lx ay
 have hl:=dW.lt;have hd:=dW.len;have uE:=dW.bK _ (bC (show k-1<L.length by omega));have b9V:=Dv (L:=L) (k:=k) U aB;refine af ?_;generalize aS:J.next=q;refine W.bN (c:=[ag a,ag c]) H aS I I I I I λτ hn H bl=>?_;refine af ?_;refine W.b6 (c:=[.i .u8 0,.s [],.nilsl,.nilsl,.nilsl,.nilsl]) H hn I I I λa5 iH H bj=>?_;have cG:∀i o,J.get i=some o->a5.get i=some o:=λi o h=>bj _ _ (bl _ _ h);refine af ?_;refine W.bS I I I (a1x hf (ft.aD cG) dW k a c ha fU e9 aB) λr bu ⟨e,ey⟩=>⟨_,e,?_⟩
 have H:=H.aD ey.2;have rf:=ey.1;have yz:∀i o,J.get i=some o->bu.get i=some o:=λi o h=>ey.2 _ _ (cG _ _ h);cases MW:lK L B k a c with
 |false=>
  refine af ?_;refine W.st H 0 I I I I I I λb3 eC H bI=>?_;refine af ?_;exact ah.ret ⟨rfl,_,jN (gl I (H.qx) I) I,_,rfl,nA.v,U,λi o h=>bI _ _ (by have:=ad.a9 h;omega) (yz _ _ h)⟩
 |true=>
  have Hn:=m4 _ (bC (show c-1<L.length by omega));have Ho:=MY (L:=L) (n:=c) U U;have a2a:=dP _ (bC (show c-1<N.length by omega));have xM:N.getD (c-1) []=N[c-1]:=by rw[fD,cp U];rfl
  have b9W:∀n∈pP L N k a c,n∈N[c-1]:=λn hn=>by unfold pP at hn;rw[xM] at hn;exact(mj.1 hn).1
  have J_:(pP L N k a c).length<2^20:=by
   unfold pP;rw[xM];have:=sz (λn=>!decide (n∈kR L a (jM L k+1))) N[c-1];have:=a2a.1;omega
  refine af ?_;refine W.jK H I I I (.tail _ (.tail _ (.head _))) I (Snp.eqb _ _ jo) ?_;refine af ?_;refine W.pM (v:=.aj (br (L[c-1]).f)) I I I (λs=>nZ _ _ I I) (Snp.eqb _ _ λJ=>by have:=Fm.snap J true _ (L[c-1]).f (b.bh+1000) (a8 _) U;rwa[j4] at this) ?_;refine af ?_;generalize b9X:bu.next=o2 at *;refine W.b6 (c:=[.i .u8 0,.s [],.nilsl,.nilsl,.nilsl,.nilsl]) H b9X I I I λb3 eC H bI=>?_;refine af ?_;refine W.bS I I I (a1A hf (ft.aD λi o h=>bI _ _ (yz i o h)) dW dS (λl hl=>(dP l hl).1) k a c ha fU e9 aB U) λr cW ⟨w,e,hw,gC⟩=>⟨_,e,?_⟩
  have H:=H.aD gC.2;have AP:=gC.1;refine af ?_;refine W.bS I I I (S3 hf (ft.aD λi o h=>gC.2 _ _ (bI _ _ (yz i o h))) U hw.ao J_ λn hn=>a2a.2 n (b9W n hn)) λr dr ⟨ir,e,kA,Hp⟩=>⟨_,e,?_⟩
  have H:=H.aD Hp.2;have d0Y:=Hp.1;refine af ?_;refine W.gx I I (ry I I I (a1X kA.ao I I I)) ?_;refine af ?_;refine W.st H 0 I I I I I I λeT j0 H fZ=>?_;have tI:∀i o,J.get i=some o->eT.get i=some o:=λi o h=>fZ _ _ (by have:=ad.a9 h;omega) (Hp.2 _ _ (gC.2 _ _ (bI _ _ (yz i o h))));have Te:=kA.ao.aD (τ:=eT) λi o hi=>fZ i o (by have:=kA.c1 i hi;omega);refine af ?_;refine W.bS I I I (a1z hf (ft.aD tI) U dS a (L[k-1].bK+1) ha U) λr eV ⟨wu,e,Td,j5⟩=>⟨_,e,?_⟩
  have H:=H.aD j5.2;have M6:=j5.1;refine af ?_;have mM:(kR L a (L[k-1].bK+1)).length<2^17:=by have:=SU L a (L[k-1].bK+1) (L.length+1-a) a;unfold kR;omega
  have zN:∀n∈kR L a (L[k-1].bK+1),1<=n/\n<=L.length:=λn hn=>by have:=a1Z hn;omega
  rw[b9V];generalize kR L a (L[k-1].bK+1)=l at *;refine W.bS I I I (S3 hf (ft.aD λi o h=>j5.2 _ _ (tI i o h)) U Td.ao U zN) λr hv ⟨a2b,e,Hq,M7⟩=>⟨_,e,?_⟩
  have H:=H.aD M7.2;have d0Z:=M7.1;have AI:=Hq.ao.vw;have Hr:(l.map λn=>AV.aj (br (gU L n))).length=l.length:=bB _;refine af ?_;rw[Hr];refine af ?_;refine ah.each l.length (λj f ax=>∃aq,ax.get o2=some (.cells (br (L[c-1].f)++[aq,ir]))/\Sl ax (some 5) aq ((l.take j).map λn=>DE (gU L n))/\(l.take j=[]->aq= .nilsl)/\(∀i,aq.at? =some i->hv.next<=i)/\hv.next<=ax.next/\(∀i o,i≠o2->hv.get i=some o->ax.get i=some o)/\sat [(4,aw (q+1)),(6,aw o2),(47,a2b)] f) U ⟨.nilsl,H.qx,.nil,λ_=>rfl,(λ_ h=>by cases h),a8 _,λ_ _ _ h=>h,dm⟩ I I (λj g ax aA aL hi hm=>?_) (λg ax aL hi=>?_)
  ·obtain⟨aq,hg,al,m5,r5,jj,jz,cf,gR,Hs,_⟩:=aL;refine ah.norm [(4,aw (q+1)),(6,aw o2),(47,a2b),(49,ag j),(48,ag l.length)] ⟨cf,gR,Hs,hi,hm,trivial⟩ λg=>?_;have H:Has ax [(o2,br (L[c-1].f)++[aq,ir])]:=Has.nil.cons hg ay;have AI:=(Hq.ao.aD (τ:=ax) λi o hi=>jz i o (by have:=Hq.c1 i hi;omega)).vw;refine af ?_;rw[ez];refine W.kk (c:=br (gU L l[j])) H I I I I I I I λfu mr H ca=>?_;have n6:=al.aD (τ:=fu) λi o _=>ca i o;refine af ?_;refine W.pu (c:=.b true::br (gU L l[j])) (DE (gU L l[j])) n6 I I I I I I I I I (by rw[bB,g6];omega) λbn fG Tf Li _ ly fP=>?_;have H:Has fG [(o2,br (L[c-1].f)++[aq,ir])]:=Has.nil.cons (fP _ _ (λe=>by have:=r5 _ e;omega) (H.x7)) ay;refine af ?_;refine W.st (bc:=br (L[c-1].f)++[bn,ir]) H 0 I I I I Tf.jm (by rw[Tf.j3];rfl) λgD pv H jg=>?_;refine af ?_;refine⟨rfl,rfl,bn,H.qx,?_,λe=>?_,(λi hi=>by rw[Li] at hi;cases hi;omega),U,λi o hi ho=>jg _ _ hi (fP _ _ (λe=>by have:=r5 _ e;have:=ad.a9 ho;omega) (ca _ _ (jz _ _ hi ho))),dm⟩
   ·rw[jL aA,gO];exact Tf.aD λi o hi=>jg i o (λe=>by rw[Li] at hi;cases hi;omega)
   ·have:=congrArg List.length e;rw[g6,hr] at this;omega
  ·obtain⟨aq,hg,al,m5,r5,jj,jz,cf,gR,_⟩:=aL;show bo _ _ _ _ _ _ _ _;refine ah.norm [(4,aw (q+1)),(6,aw o2)] ⟨cf,gR,trivial⟩ λg=>?_;rw[jw] at al m5;have b9Y:ax.get (q+1)=some (.cells [.i .u8 0,.s [],.nilsl,.nilsl,.nilsl,.nilsl]):=jz _ _ U (H.x7);have H:Has ax [(q+1,[.i .u8 0,.s [],.nilsl,.nilsl,.nilsl,.nilsl]),(o2,br (L[c-1].f)++[aq,ir])]:=(Has.nil.cons hg ay).cons b9Y (by simp;omega);refine af ?_;refine W.st (bc:=br (L[c-1].f)++[aq,ir]) H 0 I I I I I I λh9 dc H c_=>?_;refine af ?_;have ik:Sl h9 (some 5) aq ((l.map (gU L)).map DE):=by
    rw[kq];exact al.aD λi o hi=>c_ i o (by have:=r5 i hi;omega)
   have kJ:l.map (gU L)=[]->aq= .nilsl:=λe=>m5 (by simpa using e);have qd:Sl h9 (some 4) ir (((pP L N k a c).map (gU L)).map λF=>.aj (br F)):=by
    rw[kq];exact Te.aD λi o hi ho=>c_ _ _ (by have:=kA.c1 i hi;omega) (jz _ _ (by have:=kA.c1 i hi;omega) (M7.2 _ _ (j5.2 _ _ ho)))
   have vX:(pP L N k a c).map (gU L)=[]->ir= .nilsl:=λe=>kA.iq (by simpa using e);have ER:∀o,aq.at? =some o\/ir.at? =some o->q<=o:=λo ho=>by
    rcases ho with ho|ho
    ·have:=r5 o ho;omega
    ·have:=kA.c1 o ho;omega
   refine ah.ret ⟨rfl,_,jN (gl I (H.qx) I) I,_,rfl,by rw[cond_true];exact⟨aq,ir,by rw[Ho];rfl,ik,kJ,qd,vX,ER⟩,U,λi o h=>c_ _ _ (by have:=ad.a9 h;omega) (jz _ _ (by have:=ad.a9 h;omega) (M7.2 _ _ (j5.2 _ _ (tI _ _ h))))⟩
end
structure fz where
 hyps:List Fm
 f:Fm
 fresh:List Nat
 closed:Bool
abbrev fz.cells(p:fz):List AV:=[slA true (some 4) (p.hyps.map λF=>.aj (br F)),uB p.f.op,.s p.f.name,jJ true p.f.gW,iW true p.f.gz,.s p.fresh,.b p.closed]
abbrev fz.A(p:fz):AV:=.aj p.cells
def fz.bN(p:fz):Bool:=!p.hyps.isEmpty||(!p.fresh.isEmpty||p.closed)
def m6(L:List a7)(B N:List (List Nat))(k:Nat)(p:fz)(ac:Nat×Nat):kV:=cond p.bN (cond (lK L B k ac.1 ac.2) ⟨gU L ac.2,(kR L ac.1 (jM L k+1)).map (gU L),(pP L N k ac.1 ac.2).map (gU L)⟩ nA) (cond (kW B k ac.1 ac.2) ⟨gU L ac.2,[],(N.getD (ac.2-1) []).map (gU L)⟩ nA)
def km(L:List a7)(B:List (List Nat))(k:Nat)(p:fz)(ac:Nat×Nat):Bool:=cond p.bN (lK L B k ac.1 ac.2) (kW B k ac.1 ac.2)
def citeB(L:List a7)(B:List (List Nat))(k:Nat):List fz->List (Nat×Nat)->Bool
 |[],[]=>true
 |p::aE,c::cs=>km L B k p c&&citeB L B k aE cs
 |_,_=>false
def gotsL(L:List a7)(B N:List (List Nat))(k:Nat):List fz->List (Nat×Nat)->List kV
 |p::aE,c::cs=>m6 L B N k p c::gotsL L B N k aE cs
 |_,_=>[]
def a2c{L:List a7}{B N:List (List Nat)}{k:Nat}:∀ {aE:List fz} {cs:List (Nat×Nat)},cs.length=aE.length->(gotsL L B N k aE cs).length=aE.length
 |[],_,_=>rfl
 |_::_,[],h=>by simp at h
 |p::aE,c::cs,h=>by
  show(gotsL L B N k aE cs).length+1=aE.length+1;rw[a2c (by simpa using h)]
def a2d{L:List a7}{B N:List (List Nat)}{k:Nat}:∀ {aE:List fz} {cs:List (Nat×Nat)} {j:Nat} (h1:j<aE.length) (h2:j<cs.length) (h3:j<(gotsL L B N k aE cs).length),(gotsL L B N k aE cs)[j]=m6 L B N k aE[j] cs[j]
 |_::_,_::_,0,_,_,_=>rfl
 |p::aE,c::cs,j+1,h1,h2,h3=>a2d (aE:=aE) (cs:=cs) (j:=j) (by simpa using h1) (by simpa using h2) (by simpa [gotsL] using h3)
def a2e{L:List a7}{B:List (List Nat)}{k:Nat}:∀ {aE:List fz} {cs:List (Nat×Nat)},cs.length=aE.length->(∀j (h1:j<aE.length) (h2:j<cs.length),km L B k aE[j] cs[j]=true)->citeB L B k aE cs=true
 |[],[],_,_=>rfl
 |[],_::_,h,_=>by simp at h
 |_::_,[],h,_=>by simp at h
 |p::aE,c::cs,h,hh=>by
  have h0:km L B k p c=true:=hh 0 ay ay;rw[citeB,h0,pI];exact a2e (by simpa using h) λj h1 h2=>hh (j+1) (by simpa using h1) (by simpa using h2)
def Tg{L:List a7}{B:List (List Nat)}{k:Nat}:∀ {aE:List fz} {cs:List (Nat×Nat)} {j:Nat} (h1:j<aE.length) (h2:j<cs.length),km L B k aE[j] cs[j]=false->citeB L B k aE cs=false
 |p::aE,c::cs,0,_,_,h=>by
  have h:km L B k p c=false:=h;rw[citeB,h,Dr]
 |p::aE,c::cs,j+1,h1,h2,h=>by
  rw[citeB,Tg (aE:=aE) (cs:=cs) (j:=j) (by simpa using h1) (by simpa using h2) h,Bool.and_false]
def M8{L:List a7}{B:List (List Nat)}{k:Nat}:∀ {aE:List fz} {cs:List (Nat×Nat)},citeB L B k aE cs=true->cs.length=aE.length
 |[],[],_=>rfl
 |[],_::_,h=>by cases h
 |_::_,[],h=>by cases h
 |p::aE,c::cs,h=>by
  rw[citeB,dD] at h;have:=M8 h.2;simp[this]
section
def b9Z(hh:a3 (b.aF K) Mt LS){p k:Nat}{J:ad}{q:Nat}(aS:J.next=q):
  bb (b.aF K) 0 (.f (.func Mt) [] []) [aw p,ag k] J (λr τ=>r= .ok (.aj [.f (.func yg) [] [aw q,aw (q+1)],.f (.func yh) [] [aw q,aw (q+1)]])/\τ.get q=some (.cells [aw p])/\τ.get (q+1)=some (.cells [ag k])/\τ.next=q+3/\cM J τ):=by
 refine W.m3 hh.e hh.p hh.f (by cbv) I I λz=>?_;have H:Has J []:=Has.nil;refine af ?_;refine W.bN (c:=[aw p]) H aS I I I I I λτ hn H bl=>?_;refine af ?_;refine W.bN (c:=[ag k]) H hn I I I I I λa5 iH H bj=>?_;refine af ?_;refine W.b6 (c:=[.hD,.hD]) H iH I I I λbu qZ H k3=>?_;refine af ?_;refine W.st H 0 I I I I I I λb3 eC H bI=>?_;refine af ?_;exact ah.ret ⟨rfl,_,qC (gl I (H.qx) I),rfl,H.Ag,H.x7,U,U,λi o h=>bI _ _ (by have:=ad.a9 h;omega) (k3 _ _ (bj _ _ (bl _ _ h)))⟩
def a2f(hh:a3 (b.aF K) Dh C0)(p:fz){J:ad}:
  bb (b.aF K) 0 (.f (.func Dh) [] []) [p.A] J (λr τ=>r= .ok (.b p.bN)/\cM J τ):=by
 refine W.sA hh I I I λz H=>?_;refine af ?_;refine W.bN (c:=p.cells) H I I I I I I λτ hn H bl=>?_;obtain⟨hy,f,ae,bm⟩:=p;unfold fz.bN;cases hy with
 |cons F l=>
  refine af ?_;exact ah.ret ⟨rfl,rfl,U,bl⟩
 |nil=>
  refine af ?_;cases ae with
  |cons c l=>
   refine af ?_;refine W.bin (v:=.b true) I I I I I ?_;refine af ?_;exact ah.ret ⟨rfl,rfl,U,bl⟩
  |nil=>
   refine af ?_;refine W.bin (v:=.b false) I I I I I ?_;refine af ?_;exact ah.ret ⟨rfl,rfl,U,bl⟩
end
section
structure fl(b:bJ)(K:Nat->List AV->AV->Prop):Prop where
 c0a:a3 (b.aF K) Mt LS
 a2g:a3 (b.aF K) yg L5
 pr2:a3 (b.aF K) yh L6
 c0b:a3 (b.aF K) Dh C0
 Th:a3 (b.aF K) Sy R_
structure M9(b:bJ)(L:List a7)(B N:List (List Nat)):Prop where
 o1:u5 L B
 nl:N.length=L.length
 iq:∀l∈N,l.length<2^20/\∀n∈l,1<=n/\n<=L.length
 jy:∀J,bt J (b.bh+1000) (ck L)=some (ck L)
 bK:∀x∈L,x.f.dep<=200
 op:∀x∈L,x.op<2^20
 lt:L.length<2^16
def a2h{P:Nat->Prop}{J:ad}{v:AV}{g:kV}(h:sH P J v g):∃aq gk,v= .aj (br g.eE++[aq,gk]):=by
 obtain⟨aq,gk,e,_⟩:=h.ex;exact⟨aq,gk,e⟩
def a2i(q:Nat)(bN:Bool):AV:=.f (.func (cond bN yh yg)) [] [aw q,aw (q+1)]
def c0c(hf:n5 b K)(an:fl b K){p q k:Nat}{L:List a7}{B N:List (List Nat)}{J:ad}(ft:n4 J p L B N)(cv:M9 b L B N)(aB:k<=L.length)(bx:J.get q=some (.cells [aw p]))(bz:J.get (q+1)=some (.cells [ag k]))(pm:fz)(ac:Nat×Nat)(h:1<=ac.1/\ac.1<=ac.2/\ac.2<k):
  bb (b.aF K) 0 (a2i q pm.bN) [.aj [ag ac.1,ag ac.2]] J (λr τ=>∃g,r= .ok (.bg [g,.b (km L B k pm ac)])/\sH (λo=>J.next<=o) τ g (m6 L B N k pm ac)/\cM J τ):=by
 unfold km m6;cases pm.bN with
 |false=>exact b9T hf an.a2g ft cv.o1 bx k ac.1 ac.2 bz h.1 h.2.1 h.2.2 aB cv.nl cv.iq cv.jy cv.bK
 |true=>exact b9U hf an.pr2 ft cv.o1 bx k ac.1 ac.2 bz h.1 h.2.1 h.2.2 aB cv.nl cv.iq cv.jy cv.bK cv.op cv.lt
def a2j(hf:n5 b K)(an:fl b K){p k:Nat}{L:List a7}{B N:List (List Nat)}{J:ad}(ft:n4 J p L B N)(cv:M9 b L B N)(oX:1<=k)(aB:k<=L.length){aE:List fz}{V:AV}(hV:∀τ,(∀i o,J.get i=some o->τ.get i=some o)->Vw τ (some 7) V (aE.map fz.A))(lg:aE.length<2^20){x:a7}(hx:L[k-1]? =some x)(aa:wP k x.cs):
  bb (b.aF K) 0 (.f (.func Sy) [] []) [aw p,ag k,V] J (λr τ=>∃v,r= .ok (.bg [v,.b (citeB L B k aE x.cs)])/\(citeB L B k aE x.cs=true->∃gm,Sl τ (some 6) v gm/\(gm=[]->v= .nilsl)/\gm.length=aE.length/\∀i (h:i<gm.length) (h':i<aE.length) (yA:i<x.cs.length),sH (λ_=>True) τ gm[i] (m6 L B N k aE[i] x.cs[i]))/\cM J τ):=by
 refine W.m3 an.Th.e an.Th.p an.Th.f (by cbv) I I λz=>?_;obtain⟨c4,eQ,bV,eR,h1,_⟩:=ft.ex;have H:Has J [(p,[ck L,c4,eQ])]:=Has.nil.cons h1 ay;have hl:=cv.lt;have M_:L[k-1]'U=x:=(fH.1 hx).2;have aq:=hV J λ_ _ h=>h;have Ti:(aE.map fz.A).length=aE.length:=bB _;have eD:=aa.1;refine af ?_;rw[M_];refine af ?_;rw[Ti];by_cases hlen:x.cs.length=aE.length
 ·refine af ?_;generalize aS:J.next=q;refine W.bS I I I (b9Z an.c0a aS) λr τ ⟨e,bx,bz,cy,DF⟩=>⟨_,e,?_⟩
  have H:=H.aD DF.2;refine af ?_;refine W.kk (c:=[.f (.func yg) [] [aw q,aw (q+1)],.f (.func yh) [] [aw q,aw (q+1)]]) H cy I I I I I I λa5 c6 H bj=>?_;have aq:=hV a5 λ_ _ h=>bj _ _ (DF.2 _ _ h);refine af ?_;rw[Ti];refine af ?_;show bo _ _ _ _ _ _ _ _;refine ah.each aE.length (λj f ax=>∃v gm,Sl ax (some 6) v gm/\(gm=[]->v= .nilsl)/\gm.length=j/\(∀i (h:i<gm.length) (h':i<aE.length) (yA:i<x.cs.length),sH (λo=>v.at? ≠some o) ax gm[i] (m6 L B N k aE[i] x.cs[i]))/\(∀i (h':i<aE.length) (yA:i<x.cs.length),i<j->km L B k aE[i] x.cs[i]=true)/\(∀o,v.at? =some o->a5.next<=o)/\a5.next<=ax.next/\(∀i o,a5.get i=some o->ax.get i=some o)/\sat [(8,l6 true x.cs),(9,aw (q+3)),(10,v),(33,V)] f) U ⟨.nilsl,[],.nil,λ_=>rfl,rfl,(λi h=>by simp at h),(λi _ _ h=>by omega),(λ_ h=>by cases h),a8 _,λ_ _ h=>h,dm⟩ I I (λj g ax aA aL hi hm=>?_) (λg ax aL hi=>?_)
  ·obtain⟨v,gm,al,m5,lG,qi,sm,r5,jj,jz,ga,tJ,nB,MU,_⟩:=aL;refine ah.norm [(8,l6 true x.cs),(9,aw (q+3)),(10,v),(33,V),(35,ag j),(34,ag aE.length)] ⟨ga,tJ,nB,MU,hi,hm,trivial⟩ λg=>?_;have H:Has ax [(q+3,[.f (.func yg) [] [aw q,aw (q+1)],.f (.func yh) [] [aw q,aw (q+1)]])]:=Has.nil.cons (jz _ _ (H.qx)) ay;have cG:∀i o,J.get i=some o->ax.get i=some o:=λi o h=>jz _ _ (bj _ _ (DF.2 _ _ h));have aq:=hV ax cG;refine af ?_;rw[ez];refine W.b6 H I I I I λfu mr H ca=>?_;refine af ?_;refine W.st (bc:=(aE[j]).cells) H 0 I I I I I I λfG ly H fP=>?_;refine W.nil ?_;refine W.sq ?_;refine W.rg ?_;refine fV ?_;refine W.nil ?_;have pT:∀i o,ax.get i=some o->fG.get i=some o:=λi o h=>fP _ _ (by have:=ad.a9 h;omega) (ca _ _ h);refine W.sq ?_;refine W.u6 (α:=Unit) (λ_=>[(8,l6 true x.cs),(9,aw (q+3)),(10,v),(11,ag j),(13,a2i q (aE[j]).bN),(33,V),(35,ag j),(34,ag aE.length)]) (λ_ gD=>cM fG gD) ?_ ?_
   ·refine af ?_;refine W.bS I I I (a2f an.c0b aE[j]) λr gD ⟨e,ey⟩=>⟨_,e,?_⟩
    have H:=H.aD ey.2;cases(aE[j]).bN with
    |false=>
     refine af ?_;exact⟨rfl,(),ey,dm⟩
    |true=>
     refine af ?_;exact⟨rfl,(),ey,dm⟩
   ·intro _ g gD ey;have jg:∀i o,ax.get i=some o->gD.get i=some o:=λi o h=>ey.2 _ _ (pT _ _ h);have H:=H.aD ey.2;have Tj:j<x.cs.length:=by omega
    refine af ?_;refine W.bS I I I (c0c hf an (ft.aD λi o h=>jg _ _ (cG _ _ h)) cv aB (jg _ _ (jz _ _ (bj _ _ bx))) (jg _ _ (jz _ _ (bj _ _ bz))) aE[j] x.cs[j] (aa.2 _ (bC Tj))) λr h9 ⟨gt,e,ri,eS⟩=>⟨_,e,?_⟩
    have H:=H.aD eS.2;obtain⟨iG,Na,Tk⟩:=a2h ri;subst Tk;refine af ?_;have c_:∀i o,ax.get i=some o->h9.get i=some o:=λi o h=>eS.2 _ _ (jg _ _ h);have dc:ax.next<=h9.next:=by have:=ey.1;have:=eS.1;omega
    refine W.b6 H I I I I λg8 ne H j6=>?_;refine W.st (bc:=br (m6 L B N k aE[j] x.cs[j]).eE++[iG,Na]) H 0 I I I I I I λn7 hD H mv=>?_;have Ht:∀i o,h9.get i=some o->n7.get i=some o:=λi o h=>mv _ _ (by have:=ad.a9 h;omega) (j6 _ _ h);refine af ?_;cases Tl:km L B k aE[j] x.cs[j] with
    |false=>
     refine af ?_;refine ah.ret ⟨rfl,_,jN (jn I) (jn I),_,by rw[Tg aA Tj Tl];rfl,λh=>(by rw[Tg aA Tj Tl] at h;cases h),?_,λi o h=>Ht _ _ (c_ _ _ (cG _ _ h))⟩;have:=DF.1;omega
    |true=>
     refine af ?_;have DG:=al.aD (τ:=n7) λi o _ h=>Ht _ _ (c_ _ _ h);refine W.pu (c:=br (m6 L B N k aE[j] x.cs[j]).eE++[iG,Na]) (.aj (br (m6 L B N k aE[j] x.cs[j]).eE++[iG,Na])) DG I I I I I I I I I (by rw[lG];omega) λbn AQ c0d Tn _ Nb pU=>?_;refine af ?_;have c0e:∀o,v.at? =some o->o<ax.next:=λo ho=>al.lt ho;refine⟨rfl,rfl,bn,gm++[_],c0d,λe=>absurd e ay,by rw[c5,lG];rfl,λi h h' yA=>?_,λi h' yA hi=>?_,(λo ho=>by rw[Tn] at ho;cases ho;omega),U,λi o ho=>pU _ _ (λe=>by have:=r5 _ e;have:=ad.a9 ho;omega) (Ht _ _ (c_ _ _ (jz _ _ ho))),dm⟩
     ·by_cases iK:i<gm.length
      ·rw[iC iK];exact(qi i iK h' yA).aD (λi o hi ho=>pU _ _ hi (Ht _ _ (c_ _ _ ho))) λo hi hlt e=>by rw[Tn] at e;cases e;omega
      ·have e:i=gm.length:=by rw[c5] at h;simp only[fw,hr] at h;omega
       subst e;rw[show(gm++[_])[gm.length]'h=_ from oP I _];subst lG;exact ri.aD (λi o hi ho=>pU _ _ (λe=>by have:=c0e _ e;have:=ey.1;omega) (Ht _ _ ho)) λo hi hlt e=>by rw[Tn] at e;cases e;omega
     ·by_cases iK:i<j
      ·exact sm i h' yA iK
      ·obtain rfl:i=j:=by omega
       exact Tl
  ·obtain⟨v,gm,al,m5,lG,qi,sm,r5,jj,jz,ga,tJ,nB,MU,_⟩:=aL;show bo _ _ _ _ _ _ _ _;refine ah.norm [(10,v)] ⟨nB,trivial⟩ λg=>?_;refine af ?_;have hall:=a2e hlen λj h1 h2=>sm j h1 h2 h1;refine ah.ret ⟨rfl,_,jN (jn I) (jn I),_,by rw[hall];rfl,λ_=>⟨gm,al,m5,lG,λi h h' yA=>(qi i h h' yA).aD (λ_ _ _ h=>h) λ_ _ _=>trivial⟩,?_,λi o h=>jz _ _ (bj _ _ (DF.2 _ _ h))⟩;have:=DF.1;omega
 ·refine af ?_;have ve:citeB L B k aE x.cs=false:=by
   cases ve:citeB L B k aE x.cs with
   |true=>exact absurd (M8 ve) hlen
   |false=>rfl
  refine ah.ret ⟨rfl,_,jN (jn I) (jn I),.nilsl,by rw[ve];rfl,λh=>absurd (M8 h) hlen,a8 _,λ_ _ h=>h⟩
end
end
abbrev sI(J ai:ad):Prop:=J.next<=ai.next/\∀i o,J.get i=some o->ai.get i=some o
def Acc.Nc{J:ad}{ab:Option Nat}{v:AV}{xs l:List AV}(h:Acc J ab v xs):dE none (v::l)=some v:=by cases h<;>rfl
def Acc.jm{J:ad}{ab:Option Nat}{v:AV}{xs:List AV}(h:Acc J ab v xs):Go.Lyc.conf none v=true:=by cases h<;>rfl
def Acc.inv{J:ad}{ab:Option Nat}{v:AV}{xs:List AV}(h:Acc J ab v xs)(hx:0<xs.length):∃o,v= .ao o 0 xs.length ab none/\J.get o=some (.cells (xs.flatMap AV.cells))/\∀y∈xs,Go.Lyc.conf ab y=true:=by
 cases h with
 |nil=>cases hx
 |ao o x xs h aa=>exact⟨o,rfl,h,aa⟩
def Acc.of{J:ad}{ab:Option Nat}{o:Nat}{xs:List AV}(hx:0<xs.length)(h:J.get o=some (.cells (xs.flatMap AV.cells)))(aa:∀y∈xs,Go.Lyc.conf ab y=true):Acc J ab (.ao o 0 xs.length ab none) xs:=by
 cases xs with
 |nil=>cases hx
 |cons x xs=>exact .ao o x xs h aa
def Nd{ab:Option Nat}{x:AV}(h:conf ab x=true):x.cells.length=shN ab:=by
 cases ab with
 |none=>rw[FV h];rfl
 |some k=>obtain⟨l,rfl,hl⟩:=a0S h;exact hl
def To{ab:Option Nat}:∀ {xs:List AV} (j:Nat),(∀x∈xs,conf ab x=true)->(xs.flatMap AV.cells).drop (j*shN ab)=(xs.drop j).flatMap AV.cells
 |xs,0,_=>by rw[E2];rfl
 |[],j+1,_=>by simp
 |x::xs,j+1,h=>by
  have e:(j+1)*shN ab=x.cells.length+j*shN ab:=by rw[Nd (h x ay),kD,rX,rY]
  rw[lR,e,← pj,List.drop_left,To j λy hy=>h y (g1 _ hy)];rfl
def Hu{ab:Option Nat}{xs:List AV}{j:Nat}(aA:j<xs.length)(h:∀x∈xs,conf ab x=true):dE ab ((xs.flatMap AV.cells).drop (0+j*shN ab))=some xs[j]:=by
 rw[nq,To j h,Av aA,lR];exact(FW (h _ (bC aA))).1
def c0f{n:Nat}(h:n<256):wrapN .u8 (Int.ofNat n)=Int.ofNat n:=by
 have h:(n:Int)<256:=by omega
 simp[wrapN,IntKind.wrap,IntKind.bits,IntKind.signed];omega
abbrev fQ:=List Nat×Nat
abbrev dB(s:fQ):AV:=.aj [.s s.1,ag s.2]
def Hv:∀(a b:List Nat),eqL a b=decide (a=b)
 |[],[]=>rfl
 |[],_::_=>rfl
 |_::_,[]=>rfl
 |x::a,y::b=>by
  show cond (Nat.beq x y) (eqL a b) false=_;cases h:Nat.beq x y with
  |false=>
   have:x≠y:=λe=>by rw[e,g0] at h;cases h
   rw[decide_eq_false (λe=>this (by injection e))];rfl
  |true=>
   rw[gE h,cond_true,Hv a b];simp
def c0g(a b:fQ):keyEq (.inr [1,0]) (dB a) (dB b)=some (decide (a=b)):=by
 show(match leafEq 1 (.s a.1) (.s b.1),nL [0] [ag a.2] [ag b.2] with|some a,some b=>some (a&&b)|_,_=>none)=_;have e:nL [0] [ag a.2] [ag b.2]=some (decide (a.2=b.2)):=by
  show(match leafEq 0 (ag a.2) (ag b.2),nL [] [] [] with|some a,some b=>some (a&&b)|_,_=>none)=_;show(match(if(IntKind.i64= .i64) then some (decide (Int.ofNat a.2=Int.ofNat b.2)) else none),some true with|some a,some b=>some (a&&b)|_,_=>none)=_;rw[if_pos I];simp only[RJ,Int.natCast_inj,Bool.and_true]
 rw[e];show some (eqL a.1 b.1&&decide (a.2=b.2))=_;rw[Hv];obtain⟨aQ,aZ⟩:=a;obtain⟨dg,cD⟩:=b;by_cases h1:aQ=dg<;>by_cases h2:aZ=cD<;>simp[h1,h2]
section
variable {α:Type}[DecidableEq α]{ca:α->AV}{ab:kc}
def setE(ca:α->AV):Nat->List α->List (AV×AV×Nat)
 |_,[]=>[]
 |i,k::aR=>(ca k,.b true,i)::setE ca (i+1) aR
def n8(k:α)(l:List α):List α:=if k∈l then l else l++[k]
def Tp:∀(l:List α) (i:Nat) (k:α),setE ca i (l++[k])=setE ca i l++[(ca k,.b true,i+l.length)]
 |[],i,k=>rfl
 |x::l,i,k=>by
  show _::setE ca (i+1) (l++[k])=_;rw[Tp l (i+1) k];show _=(ca x,AV.b true,i)::(setE ca (i+1) l++[(ca k,.b true,i+(l.length+1))]);rw[show i+1+l.length=i+(l.length+1) from by omega]
def Nf(aB:∀a b,keyEq ab (ca a) (ca b)=some (decide (a=b)))(k:α):∀(l:List α) (i:Nat),mF ab (ca k) (.b true) (setE ca i l)=some (if k∈l then some (setE ca i l) else none)
 |[],i=>rfl
 |x::l,i=>by
  show(match keyEq ab (ca k) (ca x) with
   |none=>none
   |some true=>some (some ((ca k,AV.b true,i)::setE ca (i+1) l))
   |some false=>match mF ab (ca k) (AV.b true) (setE ca (i+1) l) with|none=>none|some none=>some none|some (some es)=>some (some ((ca x,AV.b true,i)::es)))=_
  rw[aB,Nf aB k l (i+1)];by_cases h:k=x
  ·subst h;rw[decide_eq_true I,if_pos (k1)];rfl
  ·rw[decide_eq_false h];by_cases hm:k∈l
   ·rw[if_pos hm,if_pos (g1 _ hm)];rfl
   ·rw[if_neg hm,if_neg (by simp[h,hm])]
def Tq{env:Env}{n:Nat}{f:Nat->AV}{J:ad}(aB:∀a b,keyEq ab (ca a) (ca b)=some (decide (a=b))){x y:aJ}{bf:Nat}{k:α}{l:List α}(h1:dJ env n f x=some (.m (some bf)))(h2:dJ env n f y=some (ca k))(hm:J.get bf=some (.map (setE ca 0 l) l.length)):
  opx 0 (dJ env n f) J (.xv ab x y (.c (.b true)))=some (.val dF (J.set bf (.map (setE ca 0 (n8 k l)) (n8 k l).length))):=by
 show(match dJ env n f x,dJ env n f y,some (AV.b true) with
  |some (.m (some id)),some k,some v=>
   if Nat.blt id 0 then none else
   match J.get id with
   |some (.map es bm)=>match keyEq ab k k with
    |none=>none
    |some _=>match mF ab k v es with
    |some (some es)=>some (bO.val dF (J.set id (.map es bm)))
    |some none=>some (bO.val dF (J.set id (.map (es++[(k,v,bm)]) (bm+1))))
    |none=>none
   |_=>none
  |_,_,_=>none)=_
 rw[h1,h2];show(if Nat.blt bf 0 then none else
   match J.get bf with
   |some (.map es bm)=>(match keyEq ab (ca k) (ca k) with
    |none=>none
    |some _=>match mF ab (ca k) (.b true) es with
    |some (some es)=>some (bO.val dF (J.set bf (.map es bm)))
    |some none=>some (bO.val dF (J.set bf (.map (es++[(ca k,AV.b true,bm)]) (bm+1))))
    |none=>none)
   |_=>none)=_
 rw[if_neg (by simp[Nat.blt,Nat.ble]),hm];show(match keyEq ab (ca k) (ca k) with
    |none=>none
    |some _=>match mF ab (ca k) (.b true) (setE ca 0 l) with
    |some (some es)=>some (bO.val dF (J.set bf (.map es l.length)))
    |some none=>some (bO.val dF (J.set bf (.map (setE ca 0 l++[(ca k,AV.b true,l.length)]) (l.length+1))))
    |none=>none)=_
 rw[aB,Nf aB];unfold n8;by_cases eO:k∈l
 ·rw[if_pos eO,if_pos eO]
 ·rw[if_neg eO,if_neg eO,Tp,c5,nq];rfl
def a2k:∀(l:List α) (i c:Nat),i+l.length<=c->cN (λ(e:AV×AV×Nat)=>Nat.blt e.2.2 c) (setE ca i l)=true
 |[],_,_,_=>rfl
 |x::l,i,c,h=>by
  show cond (Nat.blt i c) (cN _ (setE ca (i+1) l)) false=true;have h:i+(l.length+1)<=c:=h;rw[show Nat.blt i c=true from kE U,cond_true];exact a2k l (i+1) c U
def gd(seen:List Nat):Nat->List α->List (α×Nat)
 |_,[]=>[]
 |i,k::aR=>cond (qa i seen) (gd seen (i+1) aR) ((k,i)::gd seen (i+1) aR)
def a2l(seen:List Nat):∀(l:List α) (i:Nat),nN seen (setE ca i l)=(gd seen i l).map λp=>(ca p.1,.b true,p.2)
 |[],_=>rfl
 |x::l,i=>by
  show cond (qa i seen) (nN seen (setE ca (i+1) l)) ((ca x,.b true,i)::nN seen (setE ca (i+1) l))=_;rw[a2l seen l (i+1),gd];cases qa i seen<;>rfl
def Tr(n:Nat)(j:Nat):∀(l:List Nat),qa n (l++[j])=(qa n l||Nat.beq j n)
 |[]=>by show cond (Nat.beq j n) true false=_;cases Nat.beq j n<;>rfl
 |x::l=>by
  show cond (Nat.beq x n) true (qa n (l++[j]))=(cond (Nat.beq x n) true (qa n l)||Nat.beq j n);rw[Tr n j l];cases Nat.beq x n<;>rfl
def Ng:∀(l:List α) (i:Nat),(gd [] i l).map Prod.fst=l
 |[],_=>rfl
 |x::l,i=>by
  show x::(gd [] (i+1) l).map Prod.fst=_;rw[Ng l (i+1)]
def Nh(seen:List Nat):∀(l:List α) (i:Nat) (p:α×Nat),p∈gd seen i l->i<=p.2
 |[],_,_,h=>by simp[gd] at h
 |x::l,i,p,h=>by
  rw[gd] at h;cases hm:qa i seen with
  |true=>rw[hm] at h;have:=Nh seen l (i+1) p h;omega
  |false=>
   rw[hm,cond_false] at h;rcases c2.1 h with rfl|h
   ·exact a8 _
   ·have:=Nh seen l (i+1) p h;omega
def a2m(seen:List Nat)(j:Nat):∀(l:List α) (i:Nat),j<i->gd (seen++[j]) i l=gd seen i l
 |[],_,_=>rfl
 |x::l,i,h=>by
  rw[gd,gd,Tr,a2m seen j l (i+1) U];have:Nat.beq j i=false:=by
   cases hb:Nat.beq j i with
   |false=>rfl
   |true=>have:=gE hb;omega
  rw[this,SH]
def Hw(seen:List Nat):∀(l:List α) (i:Nat) (p:α×Nat),p∈gd seen i l->(p::gd (seen++[p.2]) i l).Perm (gd seen i l)
 |[],_,_,h=>by simp[gd] at h
 |x::l,i,p,h=>by
  rw[gd] at h ⊢;rw[gd,Tr];cases hm:qa i seen with
  |true=>
   rw[hm,cond_true] at h;rw[Bool.true_or,cond_true,cond_true];exact Hw seen l (i+1) p h
  |false=>
   rw[hm,cond_false] at h;rw[Bool.false_or,cond_false];rcases c2.1 h with rfl|h
   ·rw[g0,cond_true,a2m seen i l (i+1) U]
   ·have np:=Nh seen l (i+1) p h;have:Nat.beq p.2 i=false:=by
     cases hb:Nat.beq p.2 i with
     |false=>rfl
     |true=>have:=gE hb;omega
    rw[this,cond_false];exact(List.Perm.swap _ _ _).trans ((Hw seen l (i+1) p h).cons _)
def a2n(seen:List Nat):∀(l:List α) (i:Nat) (p:α×Nat),p∈gd seen i l->qR p.2 (setE ca i l)=some (ca p.1,.b true,p.2)
 |[],_,_,h=>by simp[gd] at h
 |x::l,i,p,h=>by
  rw[gd] at h;show cond (Nat.beq i p.2) (some (ca x,AV.b true,i)) (qR p.2 (setE ca (i+1) l))=_;have key:∀h:p∈gd seen (i+1) l,cond (Nat.beq i p.2) (some (ca x,AV.b true,i)) (qR p.2 (setE ca (i+1) l))=some (ca p.1,.b true,p.2):=λh=>by
   have np:=Nh seen l (i+1) p h;have:Nat.beq i p.2=false:=by
    cases hb:Nat.beq i p.2 with
    |false=>rfl
    |true=>have:=gE hb;omega
   rw[this,cond_false];exact a2n seen l (i+1) p h
  cases hm:qa i seen with
  |true=>rw[hm,cond_true] at h;exact key h
  |false=>
   rw[hm,cond_false] at h;rcases c2.1 h with rfl|h
   ·rw[g0];rfl
   ·exact key h
def a2o(j:Nat):∀(l:List Nat),r1 (l++[j])=some j
 |[]=>rfl
 |x::l=>by
  show(match r1 (l++[j]) with|none=>some x|some y=>some y)=_;rw[a2o j l]
section
variable {env:Env}{aK:Option Nat}{D:List (Nat ⊕ (AV×List AV))}{n:Nat}{f:Nat->AV}{J:ad}{Q:dO}
def az.mkMap{d:Nat}{wn:List Nat}{ops:List a2}(k:Nat)(hn:J.next=k)(hd:Nat.blt d n=true)
  (h:∀ai:ad,ai.next=k+1->ai.get k=some (.map [] 0)->(∀i o,J.get i=some o->ai.get i=some o)->da env aK D n ops (di f d (.m (some k))) ai Q):da env aK D n (⟨some d,.mkMap,none,wn⟩::ops) f J Q:=by
 subst hn;exact az.val (v:=.m (some J.next)) (ai:=J.push (.map [] 0)) hd I I (h (J.push (.map [] 0)) I (ad.js _) λi o ho=>by rw[ad.fX trivial _ (ad.a9 ho)];exact ho)
def az.Tq(aB:∀a b,keyEq ab (ca a) (ca b)=some (decide (a=b))){wn:List Nat}{ops:List a2}{x y:aJ}{bf:Nat}{k:α}{l:List α}(hm:J.get bf=some (.map (setE ca 0 l) l.length))(h1:dJ env n f x=some (.m (some bf)))(h2:dJ env n f y=some (ca k))
  (h:∀ai:ad,ai.next=J.next->ai.get bf=some (.map (setE ca 0 (n8 k l)) (n8 k l).length)->(∀i o,i≠bf->J.get i=some o->ai.get i=some o)->da env aK D n ops f ai Q):da env aK D n (⟨none,.xv ab x y (.c (.b true)),none,wn⟩::ops) f J Q:=
 az.uR I (Go.Lyc.Tq aB h1 h2 hm) (h _ I (hK hm).1 (hK hm).2)
def az.Ts{d:Nat}{wn:List Nat}{ops:List a2}{x:aJ}{bf c:Nat}{es:List (AV×AV×Nat)}(k:Nat)(hn:J.next=k)(hm:J.get bf=some (.map es c))(hd:Nat.blt d n=true)(h1:dJ env n f x=some (.m (some bf)))
  (h:∀ai:ad,ai.next=k+1->ai.get k=some (.mapIter (some bf) c [] c)->(∀i o,J.get i=some o->ai.get i=some o)->da env aK D n ops (di f d (.p (some (k,0)))) ai Q):da env aK D n (⟨some d,.rangeMap x,none,wn⟩::ops) f J Q:=by
 subst hn;refine az.val (v:=.p (some (J.next,0))) (ai:=J.push (.mapIter (some bf) c [] c)) hd I ?_ (h (J.push (.mapIter (some bf) c [] c)) I (ad.js _) λi o ho=>by rw[ad.fX trivial _ (ad.a9 ho)];exact ho);show(match dJ env n f x with
  |some (.m none)=>some (bO.val (kH J.next 0) (J.push (.mapIter none 0 [] 0)))
  |some (.m (some id))=>match J.get id with
   |some (.map _ bm)=>some (bO.val (kH J.next 0) (J.push (.mapIter (some id) bm [] bm)))
   |_=>none
  |_=>none)=_
 rw[h1];show(match J.get bf with
   |some (.map _ bm)=>some (bO.val (kH J.next 0) (J.push (.mapIter (some bf) bm [] bm)))
   |_=>none)=_
 rw[hm];rfl
def az.Tt{d:Nat}{wn:List Nat}{ops:List a2}{x:aJ}{bf it:Nat}{l:List α}{seen:List Nat}(iv:J.get it=some (.mapIter (some bf) l.length seen l.length))(hm:J.get bf=some (.map (setE ca 0 l) l.length))(hd:Nat.blt d n=true)(h1:dJ env n f x=some (.p (some (it,0))))
  (h0:gd seen 0 l=[]->da env aK D n ops (di f d (.bg [.b false])) J Q)
  (al:∀p∈gd seen 0 l,∀ai:ad,ai.next=J.next->ai.get it=some (.mapIter (some bf) l.length (seen++[p.2]) l.length)->(∀i o,i≠it->J.get i=some o->ai.get i=some o)->da env aK D n ops (di f d (.bg [.b true,ca p.1,.b true])) ai Q):da env aK D n (⟨some d,.vP x,none,wn⟩::ops) f J Q:=by
 have e:opx 0 (dJ env n f) J (.vP x)=(match nN seen (setE ca 0 l) with
       |[]=>some (bO.val (.bg [.b false]) J)
       |bD=>some (bO.kG (bD.map λ(e:AV×AV×Nat)=>(.bg [.b true,e.1,e.2.1],J.set it (.mapIter (some bf) l.length (seen++[e.2.2]) l.length))))):=by
  show(match dJ env n f x with
   |some (.p (some (it,0)))=>if Nat.blt it 0 then none else
    match J.get it with
    |some (.mapIter none _ _ _)=>some (bO.val (.bg [.b false]) J)
    |some (.mapIter (some id) since seen hP)=>match J.get id with
     |some (.map es bm)=>
      cond (Nat.beq bm since&&Nat.beq hP since&&cN (λ(e:AV×AV×Nat)=>Nat.blt e.2.2 since) es)
       (match nN seen es with
        |[]=>some (bO.val (.bg [.b false]) J)
        |l=>some (bO.kG (l.map λ(e:AV×AV×Nat)=>(.bg [.b true,e.1,e.2.1],J.set it (.mapIter (some id) since (seen++[e.2.2]) bm))))) none
     |_=>none
    |_=>none
   |_=>none)=_
  rw[h1];show(if Nat.blt it 0 then none else
    match J.get it with
    |some (.mapIter none _ _ _)=>some (bO.val (.bg [.b false]) J)
    |some (.mapIter (some id) since seen hP)=>match J.get id with
     |some (.map es bm)=>
      cond (Nat.beq bm since&&Nat.beq hP since&&cN (λ(e:AV×AV×Nat)=>Nat.blt e.2.2 since) es)
       (match nN seen es with
        |[]=>some (bO.val (.bg [.b false]) J)
        |l=>some (bO.kG (l.map λ(e:AV×AV×Nat)=>(.bg [.b true,e.1,e.2.1],J.set it (.mapIter (some id) since (seen++[e.2.2]) bm))))) none
     |_=>none
    |_=>none)=_
  rw[if_neg (by simp[Nat.blt,Nat.ble]),iv];show(match J.get bf with
     |some (.map es bm)=>
      cond (Nat.beq bm l.length&&Nat.beq l.length l.length&&cN (λ(e:AV×AV×Nat)=>Nat.blt e.2.2 l.length) es)
       (match nN seen es with
        |[]=>some (bO.val (.bg [.b false]) J)
        |bD=>some (bO.kG (bD.map λ(e:AV×AV×Nat)=>(.bg [.b true,e.1,e.2.1],J.set it (.mapIter (some bf) l.length (seen++[e.2.2]) bm))))) none
     |_=>none)=_
  rw[hm];show cond (Nat.beq l.length l.length&&Nat.beq l.length l.length&&cN (λ(e:AV×AV×Nat)=>Nat.blt e.2.2 l.length) (setE ca 0 l)) _ none=_;rw[g0,a2k l 0 l.length U];rfl
 rw[a2l] at e;cases hl:gd seen 0 l with
 |nil=>
  rw[hl] at e;exact az.val hd I e (h0 hl)
 |cons p0 t=>
  rw[hl] at e;refine az.kG hd I e ay λq aS=>?_;rw[kq] at aS;obtain⟨p,an,rfl⟩:=cT.1 aS;rw[<-hl] at an;exact al p an _ I (hK iv).1 (hK iv).2
def az.Tu{d:Nat}{wn:List Nat}{ops:List a2}{x:aJ}{bf it:Nat}{l:List α}{seen:List Nat}{p:α×Nat}(an:p∈gd seen 0 l)(iv:J.get it=some (.mapIter (some bf) l.length (seen++[p.2]) l.length))(hm:J.get bf=some (.map (setE ca 0 l) l.length))(hd:Nat.blt d n=true)(h1:dJ env n f x=some (.p (some (it,0))))
  (h:da env aK D n ops (di f d (.bg [ca p.1,.b true])) J Q):da env aK D n (⟨some d,.entry x,none,wn⟩::ops) f J Q:=by
 refine az.val hd I ?_ h;show(match dJ env n f x with
  |some (.p (some (it,0)))=>match J.get it with
   |some (.mapIter (some id) since seen hP)=>match J.get id with
    |some (.map es bm)=>cond (Nat.beq bm hP) (match r1 seen with
     |some b=>match qR b es with
      |some e=>some (bO.val (.bg [e.1,e.2.1]) J)
      |none=>none
     |none=>none) none
    |_=>none
   |_=>none
  |_=>none)=_
 rw[h1];show(match J.get it with
   |some (.mapIter (some id) since seen hP)=>match J.get id with
    |some (.map es bm)=>cond (Nat.beq bm hP) (match r1 seen with
     |some b=>match qR b es with
      |some e=>some (bO.val (.bg [e.1,e.2.1]) J)
      |none=>none
     |none=>none) none
    |_=>none
   |_=>none)=_
 rw[iv];show(match J.get bf with
    |some (.map es bm)=>cond (Nat.beq bm l.length) (match r1 (seen++[p.2]) with
     |some b=>match qR b es with
      |some e=>some (bO.val (.bg [e.1,e.2.1]) J)
      |none=>none
     |none=>none) none
    |_=>none)=_
 rw[hm];show cond (Nat.beq l.length l.length) (match r1 (seen++[p.2]) with
     |some b=>match qR b (setE ca 0 l) with
      |some e=>some (bO.val (.bg [e.1,e.2.1]) J)
      |none=>none
     |none=>none) none=_
 rw[g0,cond_true,a2o];show(match qR p.2 (setE ca 0 l) with
      |some e=>some (bO.val (.bg [e.1,e.2.1]) J)
      |none=>none)=_
 rw[a2n seen l 0 p an]
end
end
structure DH(B:Nat)(W:Nat->Prop)(J ai:ad):Prop where
 next:J.next<=ai.next
 old:∀i o,i<B->¬W i->J.get i=some o->ai.get i=some o
 it:∀i a b c d,J.get i=some (.mapIter a b c d)->ai.get i=some (.mapIter a b c d)
abbrev a2p(J ai:ad):Prop:=J.next<=ai.next/\∀i o,(∀a b c d,o≠ .mapIter a b c d)->J.get i=some o->ai.get i=some o
def Acc.a2q{J ai:ad}{ab:Option Nat}{v:AV}{xs:List AV}(h:Acc J ab v xs)(aB:∀i c,v.at? =some i->J.get i=some (.cells c)->ai.get i=some (.cells c)):Acc ai ab v xs:=by
 cases h with
 |nil=>exact .nil
 |ao o x xs h aa=>exact .ao o x xs (aB _ _ I h) aa
def Acc.a2r{J:ad}{ab:Option Nat}{v:AV}{xs:List AV}(h:Acc J ab v xs){i:Nat}(hi:v.at? =some i):∃c,J.get i=some (.cells c):=by
 cases h with
 |nil=>cases hi
 |ao o x xs h aa=>cases hi;exact⟨_,h⟩
def c0h{env:Env}(hh:a3 env qy wF){W:Nat->Prop}{B bf bN:Nat}{aR:List fQ}(dq:List fQ->ad->Prop)(aL:∀c J ai,dq c J->a2p J ai->dq c ai)(g2:AV)
  (hy:∀k c J,B<=J.next->c.length<aR.length->dq c J->bb env 0 g2 [dB k] J (λr ai=>r= .ok (.b true)/\dq (c++[k]) ai/\DH B W J ai)) (J:ad) (b0:B<=J.next) (Tv:bf<B) (AR:¬W bf)
  (hm:J.get bf=some (.map (setE dB 0 aR) aR.length)) (fY:J.get bN=some (.cells [.m (some bf)])) (h0:dq [] J):
  bb env 0 (.f (.func qy) [] [.p (some (bN,0))]) [g2] J (λr ai=>r= .ok (.bg [])/\∃c,c.Perm aR/\dq c ai/\J.next<=ai.next/\∀i o,i<B->¬W i->J.get i=some o->ai.get i=some o):=by
 refine bb.mV hh.e hh.p hh.f (by cbv) I I ?_;refine ah.seq (ah.region ?_);refine az.cK (v:=.m (some bf)) fY I I I I ?_;generalize aB:J.next=k at b0;refine az.Ts k aB hm I I λbP cy iv bl=>?_;refine az.nil (ah.block ?_);refine ah.loop (λm f τ=>k+1<=τ.next/\∃seen c,m=(gd seen 0 aR).length/\(c++(gd seen 0 aR).map Prod.fst).Perm aR/\τ.get k=some (.mapIter (some bf) aR.length seen aR.length)/\dq c τ/\(∀i o,i<B->¬W i->J.get i=some o->τ.get i=some o)∧
  sat [(0,g2),(5,.p (some (k,0)))] f) ?_ (gd [] 0 aR).length ⟨U,[],[],rfl,by rw[Ng];exact .refl _,iv,aL _ _ _ h0 ⟨U,λi o _ ho=>bl i o ho⟩,λi o _ _ ho=>bl i o ho,dm⟩
 clear iv cy bl h0;intro m g τ ⟨hn,seen,c,oz,oF,iv,Hx,hold,hL⟩;refine ah.norm _ hL λg=>?_;clear hL;have nh:=hold bf _ Tv AR hm;refine ah.seq (ah.region ?_);refine az.Tt iv nh I I (λwc=>?_) (λp an cr c6 Hy bj=>?_)
 ·refine az.go I I I I ?_;refine az.nil (ah.seq ?_);refine ah.hJ I (λh=>by cases h) (λ_=>?_);refine ah.exit ?_;rw[wc,yp,hI] at oF;exact⟨.inr I,rfl,c,oF,Hx,U,hold⟩
 ·refine az.go I I I I ?_;refine az.nil (ah.seq ?_);refine ah.hJ I (λ_=>?_) (λh=>by cases h);have eH:bf≠k:=by omega
  have mw:=bj _ _ eH nh;refine ah.skip (ah.block (ah.seq (ah.region ?_)));refine az.Tu an Hy mw I I ?_;refine az.go I I I I ?_;refine az.var (v:=dB p.1) (c:=[.s p.1.1,ag p.1.2]) τ.next c6 I I I I I I λhS dx h3 k3=>?_;refine az.nil (ah.seq (ah.region ?_));refine az.go I I I I ?_;refine az.cK (v:=dB p.1) h3 I I I I ?_;have yB:=Hw seen aR 0 p an;have hlen:=oF.length_eq;have Tw:=yB.length_eq;rw[c5,bB] at hlen;rw[fw] at Tw;have G4:dq c hS:=aL _ _ _ (aL _ _ _ Hx ⟨U,λi o aY ho=>bj i o (λe=>by subst e;rw[iv] at ho;cases ho;exact aY _ _ _ _ I) ho⟩) ⟨U,λi o _ ho=>k3 i o ho⟩;refine az.iy I I I (hy p.1 c hS U U G4) λr Hz ⟨fK,Tx,AS⟩=>⟨_,fK,?_⟩
  refine az.go I I I I ?_;refine az.nil (ah.hJ I (λh=>by cases h) (λ_=>?_));have eC:=AS.next;refine ah.skip ⟨(gd (seen++[p.2]) 0 aR).length,U,U,seen++[p.2],c++[p.1],rfl,?_,AS.it _ _ _ _ _ (k3 _ _ Hy),Tx,λi o hi hw ho=>AS.old i o hi hw (k3 i o (bj i o U (hold i o hi hw ho))),dm⟩;refine List.Perm.trans ?_ oF;rw[iJ];exact(yB.map Prod.fst).append_left c
def c0i{env:Env}(hh:a3 env Gx Gu)(bf:Nat)(J:ad)(k:Nat)(aB:J.next=k):bb env 0 (.f (.func Gx) [] []) [.m (some bf)] J (λr ai=>r= .ok (.f (.func qy) [] [.p (some (k,0))])/\ai.next=k+1/\ai.get k=some (.cells [.m (some bf)])/\∀i o,J.get i=some o->ai.get i=some o):=by
 refine bb.code hh.e hh.p hh.f (by cbv) I I I ?_;refine ah.seq (ah.region (az.box (v:=.m (some bf)) (c:=[.m (some bf)]) k aB I I I I I λτ hn h1 bl=>?_));refine F1 ?_;exact ah.ret ⟨rfl,rfl,hn,h1,bl⟩
def cQ.keys{env:Env}{D:List (Nat ⊕ (AV×List AV))}{n:Nat}{f:Nat->AV}{J:ad}{Q:dO}(fC:a3 env qy wF){dX:aJ}{p:Nat}{dw b:b5}{bf bN:Nat}{aR:List fQ}(W:Nat->Prop)(S:List fQ->ad->Prop)(k:Nat)(aB:J.next=k)
  (mn:dJ env n f dX=some (.f (.func qy) [] [.p (some (bN,0))])) (an:Nat.blt p n=true) (hm:J.get bf=some (.map (setE dB 0 aR) aR.length)) (fY:J.get bN=some (.cells [.m (some bf)])) (hW:∀i,W i->i<k) (AR:¬W bf)
  (ct:∀c τ ax,S c τ->τ.next<=ax.next->(∀i o,i≠k+1->(∀a b c d,o≠ .mapIter a b c d)->τ.get i=some o->ax.get i=some o)->S c ax) (h0:S [] J)
  (wL:∀y c τ,k+2<=τ.next->c.length<aR.length->S c τ->bo env (some (k+1)) [] n dw (di f p (dB y)) τ (λx f1 cx=>x= .normal/\sI τ cx∧
   ∀a5,a5.next=cx.next->(∀i o,i≠k+1->cx.get i=some o->a5.get i=some o)->bo env (some (k+1)) [] n b f1 a5 (λx _ bu=>x= .normal/\S (c++[y]) bu/\DH (k+2) W a5 bu)))
  (wM:∀c τ,c.Perm aR->S c τ->k+2<=τ.next->τ.get k=some .c7->(∀i o,¬W i->J.get i=some o->τ.get i=some o)->Q .normal f τ):cQ env D (.inl k::D) n (.rangeFunc dX [p] dw b) f J Q:=by
 subst aB;refine cQ.range mn fC.e λao fM=>?_;generalize aB:J.next=k at *;obtain⟨cr,aU,c6,nW,iT,bj⟩:∃cr:ad,(J.push .c7).push (.loop .ready none ao [p] dw b k)=cr/\cr.next=k+2/\cr.get (k+1)=some (.loop .ready none ao [p] dw b k)/\cr.get k=some .c7/\∀i o,J.get i=some o->cr.get i=some o:=by
  refine⟨_,rfl,by show J.next+1+1=_;omega,?_,?_,λi o ho=>?_⟩
  ·have:=ad.js (J:=J.push .c7) (.loop .ready none ao [p] dw b k);rwa[show(J.push .c7).next=k+1 from by show J.next+1=_;omega] at this
  ·rw[ad.fX trivial _ (show k<(J.push .c7).next from by show k<J.next+1;omega)];have:=ad.js (J:=J) .c7;rwa[aB] at this
  ·have:=ad.a9 ho;rw[ad.fX trivial _ (show i<(J.push .c7).next from by show i<J.next+1;omega),ad.fX trivial _ this];exact ho
 rw[aU];clear aU;have eH:=ad.a9 hm;have qB:¬W (k+1):=λh=>by have:=hW _ h;omega
 have kO:¬W k:=λh=>by have:=hW _ h;omega
 refine(c0h fC (W:=λi=>W i\/i=k+1) (B:=k+2) (bf:=bf) (bN:=bN) (aR:=aR)
  (λc τ=>S c τ/\τ.get (k+1)=some (.loop .ready none ao [p] dw b k)) ?_ (.f (.yield (k+1)) [] []) ?_ cr U U (λh=>h.elim AR U) (bj _ _ hm) (bj _ _ fY) ⟨ct _ _ _ h0 U λi o _ _ ho=>bj i o ho,nW⟩).mono ?_
 ·rintro c τ ax ⟨aQ,aZ⟩ ⟨dg,cD⟩;exact⟨ct _ _ _ aQ dg λi o _ h ho=>cD i o h ho,cD _ _ (by intros;simp) aZ⟩
 ·rintro y c τ b0 hlt ⟨aQ,aZ⟩;refine(bb.round (R:=λai=>(S (c++[y]) ai/\ai.get (k+1)=some (.loop .ready none ao [p] dw b k))/\DH (k+2) (λi=>W i\/i=k+1) τ ai) (f:=f) (n:=n) aZ fM (by show cond (Nat.blt p n) _ _=true;rw[an];rfl) I ?_).mono λr ai h=>h;refine(wL y c τ b0 hlt aQ).mono λx f1 cx ⟨aM,fO,h1⟩=>?_;have jd:=fO.2 _ _ aZ;have eK:=hK (bF:=.loop .busy none ao [p] dw b k) jd;refine⟨aM,jd,(h1 (cx.set (k+1) (.loop .busy none ao [p] dw b k)) I (λi o hi ho=>eK.2 i o hi ho)).mono λx _ bu ⟨aU,sB,oR⟩=>?_⟩;have oT:=oR.old _ _ U qB eK.1;have lh:=hK (bF:=.loop .ready none ao [p] dw b k) oT;have cy:=fO.1;have dx:cx.next<=bu.next:=oR.next;have aY:∀ {i:Nat} {a fq bc iE},cx.get i=some (.mapIter a fq bc iE)->i≠k+1:=λh e=>by subst e;rw[jd] at h;cases h
  have Ty:∀ {i:Nat} {a fq bc iE},bu.get i=some (.mapIter a fq bc iE)->i≠k+1:=λh e=>by subst e;rw[oT] at h;cases h
  refine⟨aU,oT,⟨ct _ _ _ sB (a8 _) λi o hi _ ho=>lh.2 i o hi ho,lh.1⟩,by show τ.next<=bu.next;omega,λi o hi hw ho=>?_,λi a fq bc iE ho=>?_⟩
  ·have AT:i≠k+1:=λe=>hw (.inr e);exact lh.2 i o AT (oR.old i o hi (λe=>hw (.inl e)) (eK.2 i o AT (fO.2 i o ho)))
  ·have h1:=fO.2 _ _ ho;have h3:=oR.it _ _ _ _ _ (eK.2 _ _ (aY h1) h1);exact lh.2 _ _ (Ty h3) h3
 ·rintro r τ ⟨aM,c,aa,⟨aQ,aZ⟩,dg,cD⟩;have eK:=hK (bF:=.loop .exhausted none ao [p] dw b k) aZ;refine⟨_,.ready,aM,aZ,ay,wM c _ aa (ct _ _ _ aQ (a8 _) λi o hi _ ho=>eK.2 i o hi ho) (by show k+2<=τ.next;omega) (eK.2 _ _ U (cD _ _ U (λh=>h.elim kO U) iT)) λi o hi ho=>?_⟩;have:=ad.a9 ho;exact eK.2 i o U (cD i o U (λh=>h.elim hi U) (bj i o ho))
def c0j{env:Env}(hh:a3 env An Ak)(fC:a3 env qy wF){bf bN:Nat}{aR:List fQ}(lL:aR.length<=1000000)(J:ad)(hm:J.get bf=some (.map (setE dB 0 aR) aR.length))(fY:J.get bN=some (.cells [.m (some bf)])):
  bb env 0 (.f (.func An) [] []) [.nilsl,.f (.func qy) [] [.p (some (bN,0))]] J (λr ai=>∃(v:AV) (c:List fQ),r= .ok v/\c.Perm aR/\Acc ai (some 2) v (c.map dB)/\(∀a,v.at? =some a->J.next<=a)/\sI J ai):=by
 generalize aB:J.next=k;refine bb.Lb (d:=k+1) hh.e hh.p hh.f (by cbv) I I I ?_;refine cQ.j1 (ah.region (az.box (v:=.nilsl) (c:=[.nilsl]) k aB I I I I I λbP cy h1 bl=>?_));refine j2 ?_;refine⟨rfl,cQ.wC (cQ.j1 (ah.region ?_))⟩;refine j2 ?_;refine⟨rfl,cQ.block ?_⟩;have eH:=ad.a9 hm;refine cQ.keys fC (λi=>i=k) (λc τ=>∃v,τ.get k=some (.cells [v])/\Acc τ (some 2) v (c.map dB)/\∀a,v.at? =some a->k+3<=a/\a<τ.next) (k+1) cy I I (bl _ _ hm) (bl _ _ fY) (λi hi=>by omega) U ?_ ⟨.nilsl,h1,.nil,λa h=>by cases h⟩ ?_ ?_
 ·rintro c τ ax ⟨v,cS,ed,hM⟩ dg cD;exact⟨v,cD _ _ U (by intros;simp) cS,ed.a2q λi c hi h=>cD _ _ (by have:=hM i hi;omega) (by intros;simp) h,λa h=>by have:=hM a h;omega⟩
 ·rintro y c τ b0 hlt ⟨v,cS,ed,hM⟩;refine ah.region ?_;refine az.var (v:=dB y) (c:=[.s y.1,ag y.2]) τ.next I I I I I I I λcx cV bx mx=>?_;refine az.nil ⟨rfl,⟨U,mx⟩,λa5 ji kJ=>?_⟩;have l8:∀i o,i≠k+2->τ.get i=some o->a5.get i=some o:=λi o hi ho=>kJ i o hi (mx i o ho);have wT:=l8 _ _ U cS;have hA:=ed.aD λi o hi ho=>l8 i o (by have:=hM i hi;omega) ho;refine ah.block (ah.region ?_);refine az.cK (v:=v) wT I I I hA.Nc ?_;refine az.cK (v:=dB y) (kJ _ _ U bx) I I I I ?_;refine az.a0T (y:=dB y) hA I I I (by rw[bB];omega) I I λbn bu hq gi rf o3=>?_;refine az.store (bc:=[bn]) (o3 _ _ (λe=>by have:=hM _ e;omega) wT) I I I hq.jm (by show storeCells _ 0 bn.cells=_;rw[FV hq.jm];rfl) λb3 DA cf o2=>?_;refine az.nil ⟨rfl,⟨bn,cf,?_,λa e=>by rw[gi] at e;cases e;omega⟩,U,λi o hi hw ho=>o2 i o hw (o3 i o (λe=>by have:=hM _ e;omega) ho),λi a fq bc iE ho=>?_⟩
  ·rw[gO];exact hq.aD λi o hi ho=>by
    rw[gi] at hi;cases hi;exact o2 _ _ U ho
  ·refine o2 _ _ (λe=>by subst e;rw[wT] at ho;cases ho) (o3 _ _ (λe=>?_) ho);obtain⟨nd,e6⟩:=hA.a2r e;rw[e6] at ho;cases ho
 ·rintro c τ aa ⟨v,cS,ed,hM⟩ hn hd hold;refine⟨rfl,rfl,?_⟩;refine ah.seq (ah.region ?_);refine az.cK (v:=v) cS I I I ed.Nc ?_;refine j2 ?_;have eK:=hK (bF:=AO.dead) hd;refine ah.ret ⟨rfl,hd,v,c,rfl,aa,ed.aD λi o hi ho=>eK.2 i o (by have:=hM i hi;omega) ho,λa h=>by have:=hM a h;omega,by show J.next<=τ.next;omega,λi o ho=>?_⟩;have:=ad.a9 ho;exact eK.2 i o U (hold i o U (bl i o ho))
def a2s{ab:Option Nat}:∀ {xs:List AV} (j:Nat),(∀x∈xs,conf ab x=true)->(xs.flatMap AV.cells).take (j*shN ab)=(xs.take j).flatMap AV.cells
 |xs,0,_=>by rw[E2];rfl
 |[],j+1,_=>by simp
 |x::xs,j+1,h=>by
  have e:(j+1)*shN ab=x.cells.length+j*shN ab:=by rw[Nd (h x ay),kD,rX,rY]
  rw[lR,e,List.take_length_add_append,a2s j λy hy=>h y (g1 _ hy)];rfl
def a2t{ab:Option Nat}:∀ {xs:List AV},(∀x∈xs,conf ab x=true)->(xs.flatMap AV.cells).length=xs.length*shN ab
 |[],_=>by simp
 |x::xs,h=>by
  rw[lR,c5,Nd (h x ay),a2t λy hy=>h y (g1 _ hy),fw,kD,rX,rY]
def c0k{ab:Option Nat}{xs:List AV}{j:Nat}{y:AV}(aA:j<xs.length)(h:∀x∈xs,conf ab x=true)(hy:conf ab y=true):storeCells (xs.flatMap AV.cells) (0+j*shN ab) y.cells=some ((xs.set j y).flatMap AV.cells):=by
 have aM:0+j*shN ab+y.cells.length=(j+1)*shN ab:=by rw[Nd hy,kD,rX,nq]
 unfold storeCells;rw[aM,nq,if_pos (kE (by rw[a2t h];exact sZ _ U)),a2s j h,To (j+1) h,ML,if_pos aA,Aw,lR]
section
variable {env:Env}{aK:Option Nat}{D:List (Nat ⊕ (AV×List AV))}{n:Nat}{f:Nat->AV}{J:ad}{Q:dO}
def az.Ni{ab:Option Nat}{a x:aJ}{g:Option (Nat×Bool)}{wn:List Nat}{ops:List a2}{xs:List AV}{v y:AV}{j o:Nat}(hA:Acc J ab v xs)(gi:v.at? =some o)(aA:j<xs.length)(hy:conf ab y=true)(hw:hp g n f=true)(h1:dJ env n f a=some (.p (some (o,0+j*shN ab))))(h2:dJ env n f x=some y)
  (h:∀ai:ad,ai.next=J.next->Acc ai ab v (xs.set j y)->(∀i bF,i≠o->J.get i=some bF->ai.get i=some bF)->da env aK D n ops f ai Q):da env aK D n (⟨none,.store ab a x,g,wn⟩::ops) f J Q:=by
 obtain⟨bF,aq,ho,aa⟩:=hA.inv U;subst aq;cases gi;refine az.store ho hw h1 h2 hy (c0k aA aa hy) λai pL h' fh=>h ai pL ?_ fh;have:=Acc.of (J:=ai) (ab:=ab) (o:=o) (xs:=xs.set j y) (by rw[lr];omega) h' (λz a_=>by
  rcases a1p a_ with a_|a_
  ·exact aa z a_
  ·rw[a_];exact hy)
 rwa[lr] at this
end
def HD(a b:Nat):Int:=if a<b then-1 else if b<a then 1 else 0
def wU(a b:List Nat):Int:=cond (i_ a b) (-1) (cond (eqL a b) 0 1)
def rz(a b:fQ):Int:=if wU a.1 b.1=0 then HD a.2 b.2 else wU a.1 b.1
def swap_perm{l:List fQ}{j:Nat}(aA:j+1<l.length):((l.set (j+1) l[j]).set j l[j+1]).Perm l:=by
 exact a1q (i:=j+1) (j:=j) U U
section
def Nj{ar:aJ->Option AV}{J:ad}{x:aJ}{k:IntKind}{m:Int}(h:ar x=some (.i k m))(bj:IntKind):opx 0 ar J (.conv bj x)=some (.val (.i bj (wrapN bj m)) J):=by
 show(match ar x with|some (.i _ n)=>some (bO.val (.i bj (wrapN bj n)) J)|some (.ih _ d j)=>(match bj with| .i64=>some (.val (.ih .i64 d j) J)|_=>none)|_=>none)=_;rw[h]
def c0l(hh:a3 (b.aF K) C_ C6)(ha:a3 (b.aF K) An Ak)(fC:a3 (b.aF K) qy wF){bf bN:Nat}{aR:List fQ}(lL:aR.length<=1000000)(J:ad)(hm:J.get bf=some (.map (setE dB 0 aR) aR.length))(fY:J.get bN=some (.cells [.m (some bf)])):
  bb (b.aF K) 0 (.f (.func C_) [] []) [.f (.func qy) [] [.p (some (bN,0))]] J (λr ai=>∃(v:AV) (c:List fQ),r= .ok v/\c.Perm aR/\Acc ai (some 2) v (c.map dB)/\(∀a,v.at? =some a->J.next<=a)/\sI J ai):=by
 refine bb.code hh.e hh.p hh.f (by cbv) I I I ?_;refine ah.seq (ah.region ?_);refine az.go I I I I ?_;refine az.nil (ah.seq (ah.region ?_));refine az.go I I I I ?_;refine az.iy I I I (c0j ha fC lL J hm fY) λr cr ⟨v,c,aM,h1,h2,h3,aH⟩=>⟨_,aM,?_⟩
 refine az.go I I I I ?_;exact az.nil (ah.ret ⟨rfl,_,c,rfl,h1,h2,h3,aH⟩)
end
def Tz(b:bJ)(K:Nat->List AV->AV->Prop)(N:Nat):Prop:=N<=60000/\∀ {bf:Nat} {aR:List fQ} (_:aR.length<=N) (J:ad) (_:J.get bf=some (.map (setE dB 0 aR) aR.length)),
  bb (b.aF K) 0 (.f (.func Gv) [] []) [.m (some bf)] J (λr ai=>∃(v:AV) (c:List fQ),r= .ok v/\c.Perm aR/\Acc ai (some 2) v (c.map dB)/\(∀a,v.at? =some a->J.next<=a)/\sI J ai)
def wV(f:Fm)(aR:List fQ):List fQ:=if f.op=1 then n8 (f.name,f.args.length) aR else aR
def AU(l:List Fm)(aR:List fQ):List fQ:=l.foldl (λaR f=>wV f aR) aR
def HF(F:Fm):List fQ:=AU F.parts []
section
variable {b:bJ}{K:Nat->List AV->AV->Prop}{N:Nat}(hf:∀g aO r bR,K g aO r->K g aO bR->r=bR)
include hf in
theorem c0m(al:Tz b K N)(hh:a3 (b.aF K) Mj L_)(aq:a3 (b.aF K) yb x_)(lB:a3 (b.aF K) wG Ai)(hw:a3 (b.aF K) C9 C5)(F:Fm)(bL:F.kN)(c0n:(HF F).length<=N)(J:ad):
  bb (b.aF K) 0 (.f (.func Mj) [] []) [F.A true] J (λr ai=>∃(v:AV) (c:List fQ),r= .ok v/\c.Perm (HF F)/\Acc ai (some 2) v (c.map dB)/\(∀a,v.at? =some a->J.next<=a)/\sI J ai):=by
 generalize aB:J.next=k;refine bb.Lb (d:=k+4) hh.e hh.p hh.f (by cbv) I I I ?_;refine cQ.j1 (ah.region (az.box (v:=F.A true) (c:=F.cells true) k aB I I I I I λbP jf h1 bl=>?_));refine j2 ?_;refine⟨rfl,cQ.j1 (ah.region (az.mkMap (k+1) jf I λcr iH h2 bj=>?_))⟩;refine az.var (v:=.m (some (k+1))) (c:=[.m (some (k+1))]) (k+2) iH I I I I I I λhS qZ h3 k3=>?_;replace h1:=k3 _ _ (bj _ _ h1);replace h2:=k3 _ _ h2;refine az.nil ⟨rfl,cQ.wC (cQ.j1 (ah.region ?_))⟩;refine az.cK h1 I I I (Fm.cK true F) ?_;refine az.iy I I I (SK hw true F hS (k+3) qZ) λr Hz ⟨aM,uN,aH,bI⟩=>⟨_,aM,?_⟩
 replace h1:=bI _ _ h1;replace h2:=bI _ _ h2;replace h3:=bI _ _ h3;have cG:∀i o,J.get i=some o->Hz.get i=some o:=λi o ho=>bI i o (k3 i o (bj i o (bl i o ho)));refine az.nil ⟨rfl,cQ.block ?_⟩;refine cQ.walk aq lB true (λi=>i=k+1\/i=k+2) (λl τ=>∃aR,AU l aR=HF F/\τ.get (k+1)=some (.map (setE dB 0 aR) aR.length)/\τ.get (k+2)=some (.cells [.m (some (k+1))])) (k+4) uN I I bL aH (λi hi=>by omega) (λl τ ax ⟨aR,aQ,aZ,bX⟩ aB=>⟨aR,aQ,aB _ _ (.inl I) aZ,aB _ _ (.inr I) bX⟩) ⟨[],rfl,h2,h3⟩ ?_ ?_
 ·intro G rest τ dt Az ⟨aR,aQ,aZ,bX⟩;refine ah.region ?_;refine az.var (v:=G.A true) (c:=G.cells true) τ.next I I I I (Fm.conf true G) I (Fm.len true G) λcx uN aH bI=>?_;refine az.nil ⟨rfl,.of U bI,λa5 Kn cP=>?_⟩;replace aH:=cP _ _ U aH;replace aZ:=cP _ _ U (bI _ _ aZ);replace bX:=cP _ _ U (bI _ _ bX);refine ah.block (ah.seq (ah.region ?_));refine j2 ?_;refine az.cK aH I I I (Fm.su true G) ?_;refine az.bin (a:=uB G.op) (b:=.i .u8 (Int.ofNat 1)) (v:=.b (decide (G.op=1))) I I I I (n1 I) ?_;refine az.nil (ah.hJ I (λh=>?_) (λh=>?_))
  ·have dS:G.op=1:=of_decide_eq_true h;refine ah.region ?_;refine az.cK (v:=.m (some (k+1))) bX I I I I ?_;refine az.go I I I I ?_;refine az.cK aH I I I (Fm.b4T true G) ?_;refine az.go I I I I ?_;refine az.cK aH I I I (Fm.a0X true G) ?_;refine az.len I I I b4V ?_;refine az.go (v:=dB (G.name,G.args.length)) I I I I ?_;refine az.Tq (ca:=dB) (k:=(G.name,G.args.length)) c0g aZ I I λbu h5 cE dI=>?_;refine az.nil ⟨rfl,⟨_,by rw[<-aQ];show AU rest _=AU rest (wV G aR);unfold wV;rw[if_pos dS],cE,dI _ _ U bX⟩,⟨U,λi o hi ho=>dI i o (λe=>hi (.inl e)) ho⟩⟩
  ·have dS:¬G.op=1:=of_decide_eq_false h;exact ah.skip ⟨rfl,⟨aR,by rw[<-aQ];show AU rest _=AU rest (wV G aR);unfold wV;rw[if_neg dS],aZ,bX⟩,.refl⟩
 ·intro τ ⟨aR,aQ,aZ,bX⟩ Az hd hold;have aQ:aR=HF F:=aQ;subst aQ;refine⟨rfl,rfl,?_⟩;refine ah.seq (ah.region ?_);refine az.cK (v:=.m (some (k+1))) bX I I I I ?_;refine az.iy I I I (al.2 c0n τ aZ) λr a5 ⟨v,c,aM,dg,cD,dn,e4⟩=>⟨_,aM,?_⟩
  refine az.go I I I I ?_;have hn:=e4.1;have eK:=hK (bF:=AO.dead) (e4.2 _ _ hd);refine az.nil (ah.ret ⟨rfl,e4.2 _ _ hd,v,c,rfl,dg,cD.aD λi o hi ho=>eK.2 i o (by have:=dn i hi;omega) ho,λa e=>by have:=dn a e;omega,by show J.next<=a5.next;omega,λi o ho=>?_⟩);have:=ad.a9 ho;exact eK.2 i o U (e4.2 i o (hold i o U (cG i o ho)))
end
abbrev yC(a b:Nat):Prop:=a &&& b=a
def c0o{a b:Nat}:Ac a b=0↔yC a b:=by
 unfold Ac;constructor
 ·intro h;have:=congrArg (λx=>x ^^^ (a &&& b)) h;simp only[Nat.xor_assoc,Nat.xor_self,Nat.xor_zero,Nat.zero_xor] at this;exact this.symm
 ·intro h;have h:a &&& b=a:=h;rw[h,Nat.xor_self]
def c0p{a b c:Nat}(h1:yC a c)(h2:yC b c):yC (a ||| b) c:=by
 have h1:a &&& c=a:=h1;have h2:b &&& c=b:=h2;show(a ||| b) &&& c=_;rw[Nat.and_or_distrib_right,h1,h2]
def a2u{c:Nat}:∀ {l:List Fm} {m:Nat},yC m c->(∀f∈l,yC (sC f) c)->yC (yr l m) c
 |[],_,h,_=>h
 |f::l,m,h,hl=>by
  show yC (yr l (m ||| sC f)) c;exact a2u (c0p h (hl f ay)) λg hg=>hl g (g1 _ hg)
def c0q{a b:Nat}(ha:a<2^32)(hb:b<2^32):binop .andNot (.i .u32 (Int.ofNat a)) (.i .u32 (Int.ofNat b))=some (.i .u32 (Int.ofNat (Ac a b))):=by
 have h:(BitVec.ofInt IntKind.u32.bits (Int.ofNat a) &&& ~~~ BitVec.ofInt IntKind.u32.bits (Int.ofNat b)).toNat=Ac a b:=by
  have e:∀x y:BitVec IntKind.u32.bits,x &&& ~~~ y=x ^^^ (x &&& y):=λx y=>by ext i;simp;cases x[i]<;>cases y[i]<;>rfl
  rw[e,BitVec.toNat_xor,BitVec.toNat_and,ofInt32 a ha,ofInt32 b hb];rfl
 show some (AV.i .u32 (IntKind.wrap .u32 ((BitVec.ofInt IntKind.u32.bits (Int.ofNat a) &&& ~~~ BitVec.ofInt IntKind.u32.bits (Int.ofNat b)).toNat:Int)))=_;rw[h,wrap32 (b4I a b ha)];rfl
structure hz where
 aW:List Nat
 ops:Nat
 kind:Nat
 ae:Nat
 TA:List AV
 rs:List AV
def hz.cells(o:Bool)(l:hz):List AV:=[.s l.aW,.i .u32 (Int.ofNat l.ops),uB l.kind,uB l.ae,.aV o (some 6) (cond o l.rs l.TA)]
def hz.A(o:Bool)(l:hz):AV:=.aj (l.cells o)
section
attribute [local irreducible] bM bo da dy bb
structure bw where
 aW:List Nat
 cg:List fz
 eE:Fm
abbrev bw.A(r:bw):AV:=.aj (.s r.aW::slA true (some 7) (r.cg.map fz.A)::br r.eE)
def j7:fz:=⟨[],.mk 0 [] none none,[],false⟩
def ixN(aW:List Nat):List bw->Option Nat
 |[]=>none
 |r::l=>if r.aW=aW then some 0 else(ixN aW l).map (· +1)
def TB{aW:List Nat}:∀ {l:List bw} {i:Nat},ixN aW l=some i->∃h:i<l.length,l[i].aW=aW/\∀j (h':j<l.length),j<i->l[j].aW≠aW
 |[],i,h=>by cases h
 |r::l,i,h=>by
  rw[ixN] at h;split at h
  ·rename_i e;cases h;exact⟨ay,e,λj _ aA=>by omega⟩
  ·rename_i e;cases hx:ixN aW l with
   |none=>rw[hx] at h;cases h
   |some m=>
    rw[hx] at h;cases h;obtain⟨h1,h2,h3⟩:=TB hx;refine⟨by simpa using h1,h2,λj aA hlt=>?_⟩;cases j with
    |zero=>exact e
    |succ j=>exact h3 j (by simpa using aA) (by have hlt:j+1<m+1:=hlt;omega)
def a2v{aW:List Nat}:∀ {l:List bw},ixN aW l=none->∀j (h:j<l.length),l[j].aW≠aW
 |[],_,j,h=>by simp at h
 |r::l,hn,j,h=>by
  rw[ixN] at hn;split at hn
  ·cases hn
  ·rename_i e;cases hx:ixN aW l with
   |some m=>rw[hx] at hn;cases hn
   |none=>
    cases j with
    |zero=>exact e
    |succ j=>exact a2v hx j (by simpa using h)
def tl_vw{J:ad}{ab:Option Nat}{o:Bool}{xs:List AV}(aa:∀y∈xs,conf ab y=true):Vw J ab (.aV o ab xs) xs:=by
 refine⟨λτ=>rfl,λ{j} aA=>?_,λ{j} aA=>?_⟩
 ·cases xs with
  |nil=>simp at aA
  |cons x l=>exact(AB (J:=J) (o:=o) aa).eg aA
 ·cases xs with
  |nil=>simp at aA
  |cons x l=>exact(AB (J:=J) (o:=o) aa).cK aA
def yD(l m:List Nat):binop .eql (.s l) (.s m)=some (.b (decide (l=m))):=by
 show some (AV.b (eqL l m))=_;cases he:eqL l m with
 |true=>rw[decide_eq_true ((qe l m).1 he)]
 |false=>rw[decide_eq_false λh=>by rw[(qe l m).2 h] at he;cases he]
section
def c0r(hh:a3 (b.aF K) yi Gg){q:Nat}{x:a7}{J:ad}(aS:J.get q=some (.cells x.A.cells))(r:bw):
  bb (b.aF K) 0 (.f (.func yi) [] [aw q]) [r.A] J (λv τ=>v= .ok (.b (decide (r.aW=x.bH)))/\cM J τ):=by
 refine W.code hh.e hh.p hh.f (by cbv) I I I λz=>?_;have H:Has J [(q,x.A.cells)]:=Has.nil.cons aS ay;refine af ?_;refine W.bN (c:=r.A.cells) H I I I I I I λτ hn H bl=>?_;refine af ?_;refine W.bin I I I I (yD _ _) ?_;refine af ?_;exact ah.ret ⟨rfl,rfl,U,bl⟩
def TC(hh:a3 (b.aF K) Mx LM)(h1:a3 (b.aF K) yi Gg){q:Nat}{x:a7}{J:ad}(aS:J.get q=some (.cells x.A.cells))(R:List bw)(hR:R.length<2^20):
  bb (b.aF K) 0 (.f (.func Mx) [] []) [.aV true (some 6) (R.map bw.A),.f (.func yi) [] [aw q]] J (λv τ=>v= .ok (match ixN x.bH R with|some i=>ag i|none=>.i .i64 (-1))/\cM J τ):=by
 refine W.code hh.e hh.p hh.f (by cbv) I I I λz=>?_;have H:Has J [(q,x.A.cells)]:=Has.nil.cons aS ay;have aq:Vw J (some 6) (.aV true (some 6) (R.map bw.A)) (R.map bw.A):=tl_vw λy hy=>by obtain⟨r,_,rfl⟩:=cT.1 hy;rfl
 have hlen:(R.map bw.A).length=R.length:=bB _;refine af ?_;rw[hlen];refine af ?_;refine ah.each R.length (λj f τ=>(∀i (h:i<R.length),i<j->R[i].aW≠x.bH)/\cM J τ/\sat [(0,.aV true (some 6) (R.map bw.A)),(1,.f (.func yi) [] [aw q])] f) U ⟨λi _ h=>by omega,⟨a8 _,λ_ _ h=>h⟩,dm⟩ I I (λj g τ aA aL hi hm=>?_) (λg τ aL hi=>?_)
 ·obtain⟨pD,M,cm,bx,_⟩:=aL;refine ah.norm [(0,.aV true (some 6) (R.map bw.A)),(1,.f (.func yi) [] [aw q]),(8,ag j),(7,ag R.length)] ⟨cm,bx,hi,hm,trivial⟩ λg=>?_;have H:=H.aD M.2;have aq:Vw τ (some 6) (.aV true (some 6) (R.map bw.A)) (R.map bw.A):=tl_vw λy hy=>by obtain⟨r,_,rfl⟩:=cT.1 hy;rfl
  refine af ?_;rw[ez];refine W.bS I I I (c0r h1 (M.2 _ _ aS) R[j]) λr a5 ⟨e,M2⟩=>⟨_,e,?_⟩
  have ey:cM J a5:=⟨by have:=M.1;have:=M2.1;omega,λi o h=>M2.2 _ _ (M.2 _ _ h)⟩
  by_cases he:R[j].aW=x.bH
  ·rw[decide_eq_true he];refine af ?_;refine ah.ret ⟨rfl,?_,ey⟩;cases hx:ixN x.bH R with
   |none=>exact absurd he (a2v hx j aA)
   |some i=>
    obtain⟨h1,h2,h3⟩:=TB hx;have:i=j:=by
     rcases v_ i j with h|h|h
     ·exact absurd h2 (pD i h1 h)
     ·exact h
     ·exact absurd he (h3 j aA h)
    subst this;rfl
  ·rw[decide_eq_false he];refine af ?_;refine⟨rfl,rfl,λi h hlt=>?_,ey,dm⟩;by_cases iK:i<j
   ·exact pD i h iK
   ·obtain rfl:i=j:=by omega
    exact he
 ·obtain⟨pD,M,_⟩:=aL;refine ah.norm [] trivial λg=>?_;refine af ?_;refine ah.ret ⟨rfl,?_,M⟩;cases hx:ixN x.bH R with
  |none=>rfl
  |some i=>
   obtain⟨h1,h2,_⟩:=TB hx;exact absurd h2 (pD i h1 h1)
end
abbrev Nk(gs:List kV):AV:=slA true (some 6) (gs.map kV.A)
abbrev ep:List Nat:=[97,103,97,105,110]
inductive TD(K:Nat->List AV->AV->Prop)(L:List a7)(B:List (List Nat))(k:Nat)(x:a7):Nat->Nat->Nat->Prop
 |vf (aH:citeB L B k [j7] x.cs=false):TD K L B k x 5 0 0
 |ap (ac:Nat×Nat) (h0:x.cs=[ac]) (aH:citeB L B k [j7] x.cs=true) (b6:Bool) (bT:K pO [(gU L ac.2).A true,x.f.A true] (.b b6)):TD K L B k x (cond b6 0 6) (cond b6 0 2) (cond b6 0 1)
inductive Nl(K:Nat->List AV->AV->Prop)(L:List a7)(B N:List (List Nat))(k:Nat)(x:a7)(r:bw):Nat->Nat->Nat->Nat->Prop
 |vf (bT:citeB L B k r.cg x.cs=false):Nl K L B N k x r 5 0 0 0
 |ap (bT:citeB L B k r.cg x.cs=true) (cB fE:AV) (ei ej au e:Nat) (cE:K oO [r.A,x.f.A true,Nk (gotsL L B N k r.cg x.cs)] (.bg [.aj [cB,fE],.aj [uB ei,ag ej,ag au],ag e])):Nl K L B N k x r (if e=0 then 0 else 6) (if e=0 then 0 else ei) (if e=0 then 0 else ej) (if e=0 then 0 else au)
inductive vg(K:Nat->List AV->AV->Prop)(L:List a7)(B N:List (List Nat))(R:List bw)(k:Nat)(x:a7)(iz:Bool):Nat->Nat->Nat->Nat->Prop
 |form (h:iz=false):vg K L B N R k x iz 3 0 0 0
 |hyp (h:iz=true) (h2:x.hyp=true):vg K L B N R k x iz 0 0 0 0
 |bH (h:iz=true) (h2:x.hyp=false) (h3:x.bH≠ep) (aH:ixN x.bH R=none):vg K L B N R k x iz 4 0 0 0
 |again (h:iz=true) (h2:x.hyp=false) (h3:x.bH=ep) {c_ ei ej:Nat} (dt:TD K L B k x c_ ei ej):vg K L B N R k x iz c_ ei ej 0
 |step (h:iz=true) (h2:x.hyp=false) (h3:x.bH≠ep) (i:Nat) (hi:i<R.length) (aH:ixN x.bH R=some i) {c_ ei ej au:Nat} (ct:Nl K L B N k x R[i] c_ ei ej au):vg K L B N R k x iz c_ ei ej au
def rA{α β:Type}{f:α->Option β}:∀ {l:List α} {r:List β} {m:List α} {s:List β},mapO f l=some r->mapO f m=some s->mapO f (l++m)=some (r++s)
 |[],r,m,s,h,h2=>by cases h;exact h2
 |x::l,r,m,s,h,h2=>by
  rw[mapO_cons] at h;rw[zf,mapO_cons];cases hx:f x with
  |none=>rw[hx] at h;cases h
  |some y=>
   rw[hx] at h;cases hl:mapO f l with
   |none=>rw[hl] at h;cases h
   |some ba=>
    rw[hl] at h;cases h;rw[rA hl h2];rfl
def c0s{P:Nat->Prop}{J:ad}{n:Nat}{v:AV}{g:kV}(h:sH P J v g)(h1:g.eE.dep<=200)(h2:∀F∈g.hyps,F.dep<=200)(h3:∀F∈g.rest,F.dep<=200)(hn:900<=n):bt J n v=some g.A:=by
 obtain⟨aq,gk,e,al,jf,ak,iH,_⟩:=h.ex;subst e;obtain⟨m,rfl⟩:∃m,n=m+3:=⟨n-3,U⟩
 have bL:∀F:Fm,F.dep<=200->∀m,500<=m->bt J m (.aj (br F))=some (.aj (br F)):=λF hd m hm=>by
  have:=Fm.snap J true _ F m (a8 _) U;rwa[j4] at this
 have aa:∀F:Fm,F.dep<=200->∀m,500<=m->mapO (bt J m) (br F)=some (br F):=λF hd m hm=>by
  have:=bL F hd (m+1) U;obtain⟨e5,aQ,aZ⟩:=CQ this;cases aZ;exact aQ
 have fM:∀ {ab:Option Nat} {v:AV} {xs:List AV} {m:Nat},Sl J ab v xs->(xs=[]->v= .nilsl)->(∀y∈xs,bt J m y=some y)->bt J (m+1) v=some (slA true ab xs):=λ{ab v xs m} al hn hy=>by
  have hm:=vd (f:=bt J m) (g:=λx=>x) hy;rw[wJ] at hm;have ak:=al.read;cases al with
  |nil=>rfl
  |ao o cap xs rest hg aa aB=>
   rw[snapshot_succ];simp only[ak,hm];cases xs with
   |nil=>cases hn rfl
   |cons y l=>rfl
 refine oJ ?_;have aM:=fM (m:=m+1) al (λe=>jf (by simpa using e)) (λy hy=>by
  obtain⟨F,vh,rfl⟩:=cT.1 hy;refine oJ ?_;rw[mapO_cons,aa F (h2 F vh) m U];cases m with
  |zero=>omega
  |succ m=>rfl)
 have aU:=fM (m:=m+1) ak (λe=>iH (by simpa using e)) (λy hy=>by
  obtain⟨F,vh,rfl⟩:=cT.1 hy;exact bL F (h3 F vh) (m+1) U)
 have c3:=aa g.eE h1 (m+2) U;exact rA c3 (by rw[mapO_cons,aM,mapO_cons,aU];rfl)
def Sl.tK{J:ad}{ab:Option Nat}{v:AV}{xs ba:List AV}{m:Nat}(al:Sl J ab v xs)(hn:xs=[]->v= .nilsl)(hm:mapO (bt J m) xs=some ba):bt J (m+1) v=some (slA true ab ba):=by
 have ak:=al.read;cases al with
 |nil=>rw[PO] at hm;cases hm;rfl
 |ao o cap xs rest hg aa aB=>
  rw[snapshot_succ];simp only[ak,hm];cases xs with
  |nil=>cases hn rfl
  |cons y l=>
   cases ba with
   |nil=>have:=(qc hm).1;simp at this
   |cons z r=>rfl
def W.c0t{cb:jv}{env:Env}{aK:Option Nat}{D:List (Nat ⊕ (AV×List AV))}{n:Nat}{F:List (Nat×AV)}{z:Nat->AV}{J:ad}{Q:dO}{L:List (Nat×List AV)}(H:Has J L){d:Nat}{op:AOp}{v:AV}{g:Option (Nat×Bool)}{ops:List a2}{c:List AV}(hd:Nat.blt d n=true)(hw:wtL g n F=true)(ho:opx 0 (cL env n F z) J op=some (.val v (J.push (.cells c))))
  (h:∀τ:ad,τ.next=J.next+1->Has τ ((J.next,c)::L)->(∀i o,J.get i=some o->τ.get i=some o)->bM cb env aK D n ops (bs ((d,v)::F) z) τ Q):bM cb env aK D n (⟨some d,op,g,[]⟩::ops) (bs F z) J Q:=by
 have bA:∀i o,J.get i=some o->(J.push (.cells c)).get i=some o:=λi o ho=>by rw[ad.fX trivial _ (ad.a9 ho)];exact ho
 exact W.val hd hw ho (h (J.push (.cells c)) I (H.push I (ad.js _) bA) bA)
def c0u{α:Type}{ab:Option Nat}{o:Bool}{l:List α}{f:α->AV}{j:Nat}(h:j<l.length):idxSlA ab (.aV o ab (l.map f)) j=some (.df o (f l[j])):=by
 cases l with
 |nil=>simp at h
 |cons x l=>exact CO (o:=o) (ab:=ab) (f:=f) h
def c0v{L:List a7}(h:∀x∈L,x.f.dep<=200)(n:Nat):(gU L n).dep<=200:=by
 unfold gU;rw[fD,iR];cases hx:L[n-1]? with
 |none=>decide
 |some x=>exact h x (eY hx)
def TE{L:List a7}{B N:List (List Nat)}{k:Nat}{p:fz}{ac:Nat×Nat}(h:∀n,(gU L n).dep<=200):(m6 L B N k p ac).eE.dep<=200/\(∀F∈(m6 L B N k p ac).hyps,F.dep<=200)/\∀F∈(m6 L B N k p ac).rest,F.dep<=200:=by
 have hm:∀l:List Nat,∀F∈l.map (gU L),F.dep<=200:=λl F bL=>by obtain⟨n,_,rfl⟩:=cT.1 bL;exact h n
 have h0:nA.eE.dep<=200/\(∀F∈nA.hyps,F.dep<=200)/\∀F∈nA.rest,F.dep<=200:=⟨b_,by simp[nA],by simp[nA]⟩
 unfold m6;cases p.bN with
 |true=>
  cases lK L B k ac.1 ac.2 with
  |true=>exact⟨h _,hm _,hm _⟩
  |false=>exact h0
 |false=>
  cases kW B k ac.1 ac.2 with
  |true=>exact⟨h _,ay,hm _⟩
  |false=>exact h0
structure TF(b:bJ)(K:Nat->List AV->AV->Prop):Prop where
 bad:a3 (b.aF K) Sz R6
 TG:a3 (b.aF K) yi Gg
 TH:a3 (b.aF K) Mx LM
 iz:b.ext pN=0/\b.pure pN=true
 wW:b.ext pO=0/\b.pure pO=true
 app:b.ext oO=0/\b.pure oO=true
section
variable {b:bJ}{K:Nat->List AV->AV->Prop}(hfn:∀g aO r bR,K g aO r->K g aO bR->r=bR)
include hfn
theorem a2w(hf:n5 b K)(an:fl b K)(hb:TF b K){p k:Nat}{L:List a7}{B N:List (List Nat)}{J:ad}(ft:n4 J p L B N)(cv:M9 b L B N)(oX:1<=k)(aB:k<=L.length){l:hz}{R:List bw}(hR:l.rs=R.map bw.A)(vi:R.length<2^20)(Nm:∀r∈R,r.cg.length<2^20/\∀J,bt J (b.bh+1000) r.A=some r.A)(nC:∀J,bt J (b.bh+1000) (l.A true)=some (l.A true))
  {x:a7} (hx:L[k-1]? =some x) (aa:wP k x.cs) {iz:Bool} (hA:K pN [l.A true,x.f.A true] (.b iz)) {c_ ei ej au:Nat} (b0:vg K L B N R k x iz c_ ei ej au):
  bb (b.aF K) 0 (.f (.func Sz) [] []) [aw p,l.A true,ag k] J (λr τ=>r= .ok (.bg [uB c_,.aj [uB ei,ag ej,ag au]])/\cM J τ):=by
 refine W.m3 hb.bad.e hb.bad.p hb.bad.f (by cbv) I I λz=>?_;obtain⟨c4,eQ,bV,eR,h1,_⟩:=ft.ex;have H:Has J [(p,[ck L,c4,eQ])]:=Has.nil.cons h1 ay;have hl:=cv.lt;have M_:L[k-1]'U=x:=(fH.1 hx).2;have kC:x∈L:=M_▸bC (show k-1<L.length by omega);have Hn:=λJ=>Fm.snap J true _ x.f (b.bh+1000) (a8 _) (by have:=cv.bK x kC;omega);refine af ?_;generalize aS:J.next=q;refine W.bN (c:=l.cells true) H aS I I I I I λτ cy H bl=>?_;refine af ?_;refine W.b6 (c:=[.i .u8 0,ag 0,ag 0]) H cy I I I λa5 c6 H bj=>?_;refine af ?_;rw[M_];refine W.kk (c:=x.A.cells) H c6 I I I I I I λbu dx H k3=>?_;refine af ?_;refine W.et (r:=.b iz) hfn hb.iz hA I I I ?_ ?_
 ·exact mT (nC _) (by have:=Hn bu;rw[j4] at this ⊢;exact this)
 have HH:cM J bu:=⟨U,λi o h=>k3 _ _ (bj _ _ (bl _ _ h))⟩
 cases b0 with
 |form h=>
  subst h;refine af ?_;refine W.st H 1 I I I I I I λb3 eC H bI=>?_;refine af ?_;exact ah.ret ⟨rfl,_,jN (jn I) (gl I (H.x7) I),rfl,U,λi o h=>bI _ _ (by have:=ad.a9 h;omega) (HH.2 _ _ h)⟩
 |hyp h h2=>
  subst h;refine af ?_;rw[h2];refine af ?_;refine W.st H 1 I I I I I I λb3 eC H bI=>?_;refine af ?_;exact ah.ret ⟨rfl,_,jN (jn I) (gl I (H.x7) I),rfl,U,λi o h=>bI _ _ (by have:=ad.a9 h;omega) (HH.2 _ _ h)⟩
 |bH h h2 h3 aH=>
  subst h;refine af ?_;rw[h2];refine af ?_;rw[hR];refine W.bS I I I (TC hb.TH hb.TG (H.qx) R vi) λr b3 ⟨e,eS⟩=>⟨_,e,?_⟩
  have H:=H.aD eS.2;rw[aH];refine af ?_;refine W.b6 (c:=[.s [],.nilsl,.i .u8 0,.s [],.nilsl,.nilsl]) H I I I I λcW gw H cP=>?_;refine af ?_;refine W.bin (v:=.b false) I I I I ((yD _ _).trans (by rw[decide_eq_false h3])) ?_;refine af ?_;refine W.bin (v:=.b true) I I I I I ?_;refine af ?_;refine W.st H 2 I I I I I I λdr h5 H dI=>?_;refine af ?_;exact ah.ret ⟨rfl,_,jN (jn I) (gl I (H.Ag) I),rfl,by have:=eS.1;omega,λi o h=>dI _ _ (by have:=ad.a9 h;omega) (cP _ _ (eS.2 _ _ (HH.2 _ _ h)))⟩
 |again h h2 h3 dt=>
  subst h;refine af ?_;rw[h2];refine af ?_;rw[hR];refine W.bS I I I (TC hb.TH hb.TG (H.qx) R vi) λr b3 ⟨e,eS⟩=>⟨_,e,?_⟩
  have DA:=eS.1;have H:=H.aD eS.2;refine af ?_;refine W.b6 (c:=[.s [],.nilsl,.i .u8 0,.s [],.nilsl,.nilsl]) H I I I I λcW gw H cP=>?_;refine af ?_;refine W.bin (v:=.b true) I I I I ((yD _ _).trans (by rw[decide_eq_true h3])) ?_;refine af ?_;refine W.c0t (v:=.ao cW.next 0 1 (some 7) (some 1)) (c:=j7.cells) H I I I λdr h5 H dI=>?_;refine af ?_;refine W.st (bc:=[.s [],.ao cW.next 0 1 (some 7) (some 1),.i .u8 0,.s [],.nilsl,.nilsl]) H 1 I I I I I I λeT j0 H fZ=>?_;have cG:∀i o,J.get i=some o->eT.get i=some o:=λi o h=>fZ _ _ (by have:=ad.a9 h;omega) (dI _ _ (cP _ _ (eS.2 _ _ (HH.2 _ _ h))));refine af ?_;have hV:Sl eT (some 7) (.ao cW.next 0 1 (some 7) (some 1)) ([j7].map fz.A):=.ao cW.next (some 1) [j7.A] [] (H.qx) (λy hy=>by rw[cA.1 hy];rfl) (.inr I);refine W.bS I I I (a2j hf an (ft.aD cG) cv oX aB (aE:=[j7]) (λτ bA=>(hV.aD λi o _=>bA i o).vw) (by show 1<_;omega) hx aa) λr eV ⟨v,e,hg,j5⟩=>⟨_,e,?_⟩
  have M6:=j5.1;have H:=H.aD j5.2;have qD:∀i o,J.get i=some o->eV.get i=some o:=λi o h=>j5.2 _ _ (cG _ _ h);cases dt with
  |vf aH=>
   rw[aH];refine af ?_;refine W.st H 3 I I I I I I λhv oE H hH=>?_;refine af ?_;exact ah.ret ⟨rfl,_,jN (jn I) (gl I (H.CX) I),rfl,U,λi o h=>hH _ _ (by have:=ad.a9 h;omega) (qD _ _ h)⟩
  |ap ac h0 aH b6 bT=>
   obtain⟨gm,al,m5,lG,qi⟩:=hg aH;have fU:=aa.2 ac (by rw[h0];simp);have ss:sH (λ_=>True) eV (gm[0]'(by rw[lG];exact Nat.one_pos)) ⟨gU L ac.2,[],(N.getD (ac.2-1) []).map (gU L)⟩:=by
    have h:=qi 0 (by rw[lG];exact Nat.one_pos) Nat.one_pos (by rw[h0];exact Nat.one_pos);have e:m6 L B N k [j7][0] (x.cs[0]'(by rw[h0];exact Nat.one_pos))=⟨gU L ac.2,[],(N.getD (ac.2-1) []).map (gU L)⟩:=by
     have kv:x.cs[0]'(by rw[h0];exact Nat.one_pos)=ac:=by simp only[h0];rfl
     have aq:kW B k ac.1 ac.2=true:=by rw[h0,citeB,dD] at aH;exact aH.1
     rw[kv];show cond (kW B k ac.1 ac.2) _ _=_;rw[aq];rfl
    rw[e] at h;exact h
   obtain⟨iG,Na,Tk⟩:=a2h ss;obtain⟨o,c,hZ,gi,mq,lX,oK,_⟩:=al.gb (j:=0) (by rw[lG];exact Nat.one_pos);have d1a:=cv.bK _ (bC (show ac.2-1<L.length by omega));have Ho:=MY (L:=L) (n:=ac.2) U U;rw[aH];refine af ?_;refine W.bin (v:=.b true) I I I I ((yD _ _).trans (by rw[decide_eq_true h3])) ?_;refine af ?_;refine W.eg I I I I mq ?_;refine af ?_;refine W.sD (v:=.aj (br (gU L ac.2))) lX I I I (by show dE (some 4) (c.drop (0*shN (some 6)))=_;rw[oK,Tk];rfl) ?_;refine af ?_;refine W.et (r:=.b b6) hfn hb.wW bT I I I ?_ ?_
   ·refine mT ?_ (by have:=Hn eV;rw[j4] at this ⊢;exact this);have:=Fm.snap eV true _ (gU L ac.2) (b.bh+1000) (a8 _) (by rw[Ho];omega);rw[j4] at this ⊢;exact this
   cases b6 with
   |true=>
    refine af ?_;refine W.st H 3 I I I I I I λhv oE H hH=>?_;refine af ?_;exact ah.ret ⟨rfl,_,jN (jn I) (gl I (H.CX) I),rfl,U,λi o h=>hH _ _ (by have:=ad.a9 h;omega) (qD _ _ h)⟩
   |false=>
    refine af ?_;refine W.st H 3 I I I I I I λhv oE H hH=>?_;refine af ?_;exact ah.ret ⟨rfl,_,jN (jn I) (gl I (H.CX) I),rfl,U,λi o h=>hH _ _ (by have:=ad.a9 h;omega) (qD _ _ h)⟩
 |step h h2 h3 i hi aH ct=>
  subst h;refine af ?_;rw[h2];refine af ?_;rw[hR];refine W.bS I I I (TC hb.TH hb.TG (H.qx) R vi) λr b3 ⟨e,eS⟩=>⟨_,e,?_⟩
  have DA:=eS.1;have H:=H.aD eS.2;rw[aH];refine af ?_;refine W.b6 (c:=[.s [],.nilsl,.i .u8 0,.s [],.nilsl,.nilsl]) H I I I I λcW gw H cP=>?_;refine af ?_;refine W.bin (v:=.b false) I I I I ((yD _ _).trans (by rw[decide_eq_false h3])) ?_;refine af ?_;rw[hR];refine W.eg I I I I (c0u hi) ?_;refine af ?_;refine W.st (bc:=(R[i]).A.cells) H 0 I I I I I I λdr h5 H dI=>?_;have cG:∀i o,J.get i=some o->dr.get i=some o:=λi o h=>dI _ _ (by have:=ad.a9 h;omega) (cP _ _ (eS.2 _ _ (HH.2 _ _ h)));obtain⟨hX,wj⟩:=Nm _ (bC hi);generalize R[i]=r at *;refine af ?_;refine W.bS I I I (a2j hf an (ft.aD cG) cv oX aB (aE:=r.cg) (V:=slA true (some 7) (r.cg.map fz.A)) (λτ _=>AB λy hy=>by obtain⟨_,_,rfl⟩:=cT.1 hy;rfl) hX hx aa) λv eV ⟨w,e,hg,j5⟩=>⟨_,e,?_⟩
  have M6:=j5.1;have H:=H.aD j5.2;have qD:∀i o,J.get i=some o->eV.get i=some o:=λi o h=>j5.2 _ _ (cG _ _ h);cases ct with
  |vf bT=>
   rw[bT];refine af ?_;refine W.st H 2 I I I I I I λhv oE H hH=>?_;refine af ?_;exact ah.ret ⟨rfl,_,jN (jn I) (gl I (H.Ag) I),rfl,U,λi o h=>hH _ _ (by have:=ad.a9 h;omega) (qD _ _ h)⟩
  |ap bT cB fE ei ej au e cE=>
   obtain⟨gm,al,m5,lG,qi⟩:=hg bT;rw[bT];refine af ?_;refine W.bin (v:=.b false) I I I I ((yD _ _).trans (by rw[decide_eq_false h3])) ?_;refine af ?_;refine W.et hfn hb.app cE I I I ?_ ?_
   ·refine CN (wj _) (by have:=Hn eV;rw[j4] at this ⊢;exact this) ?_;have eD:=M8 bT;have c0w:=a2c (L:=L) (B:=B) (N:=N) (k:=k) eD;refine Sl.tK (m:=b.bh+999) al m5 (sG (by rw[bB,lG,c0w]) λj h1 h2=>?_);rw[bB] at h2;have aA:=qi j h1 U U;rw[ez,a2d U U];have m4:=c0v cv.bK;refine c0s aA ?_ ?_ ?_ U
    ·exact(TE m4).1
    ·exact(TE m4).2.1
    ·exact(TE m4).2.2
   refine af ?_;refine W.b6 H I I I I λhv oE H hH=>?_;refine af ?_;refine W.b6 H I I I I λfu mr H ca=>?_;refine af ?_;refine W.st H 1 I I I I I I λfG ly H fP=>?_;refine af ?_;refine W.st H 0 I I I I I I λgD pv H jg=>?_;have a2x:∀i o,J.get i=some o->gD.get i=some o:=λi o h=>jg _ _ (by have:=ad.a9 h;omega) (fP _ _ (by have:=ad.a9 h;omega) (ca _ _ (hH _ _ (qD _ _ h))));by_cases he:e=0
   ·subst he;refine af ?_;refine W.st H 4 I I I I I I λh9 dc H c_=>?_;refine af ?_;exact ah.ret ⟨rfl,_,jN (jn I) (gl I (H.Lq) I),rfl,U,λi o h=>c_ _ _ (by have:=ad.a9 h;omega) (a2x _ _ h)⟩
   ·rw[if_neg he,if_neg he,if_neg he,if_neg he];refine af ?_;refine W.st H 4 I I I I I I λh9 dc H c_=>?_;refine af ?_;exact ah.ret ⟨rfl,_,jN (jn I) (gl I (H.Lq) I),rfl,U,λi o h=>c_ _ _ (by have:=ad.a9 h;omega) (a2x _ _ h)⟩
end
def a2y{α:Type}{l:List (List α)}{i:Nat}{x:α}(h:x∈l.getD i []):∃y∈l,x∈y:=by
 rw[fD] at h;cases hl:l[i]? with
 |none=>rw[hl] at h;simp at h
 |some y=>rw[hl] at h;exact⟨y,eY hl,h⟩
def c0x{L:List a7}{B N:List (List Nat)}{k n:Nat}(dP:∀l∈N,∀n∈l,1<=n)(aB:1<=k)(h:n∈needL L B N k):1<=n:=by
 unfold needL at h;split at h
 ·rename_i x _;cases hx:x.hyp with
  |true=>rw[hx,cond_true] at h;simp at h;omega
  |false=>
   rw[hx,cond_false] at h;have al:=(mj.1 h).2;unfold oW at al;obtain⟨ac,_,hm⟩:=Kc.1 al;have hm:=of_decide_eq_true hm;unfold pR at hm;have:∃y∈N,n∈y:=by
    cases hb:lK L B k ac.1 ac.2 with
    |true=>rw[hb,cond_true] at hm;exact a2y (mj.1 hm).1
    |false=>rw[hb,cond_false] at hm;exact a2y hm
   obtain⟨y,hy,c0y⟩:=this;exact dP y hy n c0y
 ·simp at h
def Nn{L:List a7}:∀ {j:Nat},∀l∈ndsL L j,∀n∈l,1<=n
 |0,l,h=>by simp[ndsL] at h
 |j+1,l,h=>by
  rw[ndsL] at h;rcases eX.1 h with h|h
  ·exact Nn l h
  ·rw[cA.1 h];exact λn hn=>c0x Nn U hn
section
variable {b:bJ}{K:Nat->List AV->AV->Prop}(hfn:∀g aO r bR,K g aO r->K g aO bR->r=bR)
def DD.ok{L:List a7}(h:DD b K L)(hd:∀x∈L,x.f.dep<=200):M9 b L (ea L) (ndsL L L.length) where
 o1:=h.o1
 nl:=yy L _
 iq:=λl hl=>⟨by have:=(Dy hl).1;have:=h.le;omega,λn hn=>⟨Nn l hl n hn,(Dy hl).2 n hn⟩⟩
 jy:=h.jy
 bK:=hd
 op:=λx hx=>by have:=h.kU.num x hx;omega
 lt:=by have:=h.le;omega
structure TI(K:Nat->List AV->AV->Prop)(l:hz)(R:List bw)(L:List a7)(r c_ ei ej au:Nat):Prop where
 le:r<=L.length
 ok:∀k x,1<=k->(r=0\/k<r)->L[k-1]? =some x->∃iz,K pN [l.A true,x.f.A true] (.b iz)/\vg K L (ea L) (ndsL L L.length) R k x iz 0 0 0 0
 no:r≠0->c_≠0/\c_<256/\∀x,L[r-1]? =some x->∃iz,K pN [l.A true,x.f.A true] (.b iz)/\vg K L (ea L) (ndsL L L.length) R r x iz c_ ei ej au
include hfn
theorem c0z(hf:n5 b K)(ho:HO b K)(an:fl b K)(hb:TF b K){L:List a7}(dt:DD b K L)(hd:∀x∈L,x.f.dep<=200){l:hz}{R:List bw}(hR:l.rs=R.map bw.A)(vi:R.length<2^20)(Nm:∀r∈R,r.cg.length<2^20/\∀J,bt J (b.bh+1000) r.A=some r.A)(nC:∀J,bt J (b.bh+1000) (l.A true)=some (l.A true))(TJ:b.ext mo=0/\b.pure mo=true)(hL:K mo [l.A true] (.b true))
  {r c_ ei ej au:Nat} (sJ:TI K l R L r c_ ei ej au) {a4 e nD nE nF fc:Nat} (c0:if r=0 then(if jM L L.length=0 then(a4=0/\nD=0/\nE=0/\nF=0/\fc=0/\e=0) else(a4=L.length/\nD=7/\nE=0/\nF=0/\fc=0/\e=180)) else(a4=r/\nD=c_/\nE=ei/\nF=ej/\fc=au/\e=180)) (body:b5) (tk:Ga.body=some body):
  ah (b.aF K) Ga.ntmps body (gy [l.A true,ck L]) ⟨.nil,0⟩ (Dx Ga.results (.bg [.aj [ag a4,uB nD,uB nE,ag nF,ag fc],ag e])):=by
 cbv at tk
 cases tk;refine W.m1 λz H=>?_;have aY:=dt.ne;have hle:=dt.le;refine af ?_;refine W.bN (c:=l.cells true) H I I I I I I λτ cy H bl=>?_;refine af ?_;refine W.b6 (c:=[ag 0,.i .u8 0,.i .u8 0,ag 0,ag 0]) H cy I I I λa5 c6 H bj=>?_;refine af ?_;refine W.et hfn TJ hL I I I (mS (nC _)) ?_;refine af ?_;refine W.bS I I I (a1S hfn hf ho.op ho.aO ho.a1V dt.kU dt.ne dt.le dt.jy ho.gL dt.AN dt.o1 dt.e0) λv bu ⟨p,ar,cv,_,M⟩=>⟨_,ar,?_⟩
 have H:=H.aD M.2;have rf:=M.1;refine af ?_;show bo _ _ _ _ _ _ _ _;have TK:=dt.ok hd;have h2:bu.get 0=some (.cells (l.cells true)):=H.x7;have h3:bu.get 1=some (.cells [ag 0,.i .u8 0,.i .u8 0,ag 0,ag 0]):=H.qx;clear H;refine ah.block ?_;refine ah.loop (λm f τ=>∃k,k+m=L.length+1/\1<=k/\(r=0\/k<=r)/\(∀i o,bu.get i=some o->τ.get i=some o)/\sat [(1,ck L),(2,aw 0),(4,aw 1),(6,aw p),(8,ag k)] f) ?_ L.length ⟨1,U,U,U,λ_ _ h=>h,dm⟩;rintro m f b3 ⟨k,QI,fC,a1Q,bA,al⟩;refine ah.norm _ al λz=>?_;clear al;have H:Has b3 [(1,[ag 0,.i .u8 0,.i .u8 0,ag 0,ag 0]),(0,l.cells true)]:=(Has.nil.cons (bA _ _ h2) ay).cons (bA _ _ h3) ay;have ft:=(cv.aD λi c h=>bA i _ h).Dz;by_cases hn:k<=L.length
 ·obtain⟨m,rfl⟩:∃k,m=k+1:=⟨m-1,U⟩
  have hx:L[k-1]? =some L[k-1]:=cp U;refine af ?_;by_cases aS:k=r
  ·subst aS;obtain⟨u_,d1b,c0A⟩:=sJ.no U;obtain⟨iz,hA,b0⟩:=c0A _ hx;rw[if_neg U] at c0;obtain⟨rfl,rfl,rfl,rfl,rfl,rfl⟩:=c0;refine W.bS I I I (a2w hfn hf an hb ft TK fC hn hR vi Nm nC hx (dt.e0 _ _ hx fC) hA b0) λv cW ⟨ar,gC⟩=>⟨_,ar,?_⟩
   have AP:=gC.1;have H:=H.aD gC.2;refine af ?_;refine W.b6 H I I I I λdr h5 H dI=>?_;refine af ?_;refine W.st H 0 I I I I I I λeT j0 H fZ=>?_;refine af ?_;refine W.st H 1 I I I I I I λeV oD H j8=>?_;refine af ?_;refine ah.ret ?_;exact⟨rfl,_,jN (gl I (H.x7) I) (jn I),rfl⟩
  ·obtain⟨iz,hA,b0⟩:=sJ.ok k _ fC U hx;refine W.bS I I I (a2w hfn hf an hb ft TK fC hn hR vi Nm nC hx (dt.e0 _ _ hx fC) hA b0) λv cW ⟨ar,gC⟩=>⟨_,ar,?_⟩
   have AP:=gC.1;have H:=H.aD gC.2;refine af ?_;refine W.b6 H I I I I λdr h5 H dI=>?_;refine af ?_;refine W.st H 0 I I I I I I λeT j0 H fZ=>?_;refine af ?_;exact⟨m,U,k+1,U,U,U,λi o h=>fZ _ _ (by have:=ad.a9 (gC.2 _ _ (bA _ _ h));omega) (dI _ _ (gC.2 _ _ (bA _ _ h))),dm⟩
 ·obtain rfl:m=0:=by omega
  have qm:r=0:=by have:=sJ.le;omega
  rw[if_pos qm] at c0;have m4:=Dv (L:=L) (k:=L.length) aY (a8 _);have Fh:=TK.o1.bK _ (bC (show L.length-1<L.length by omega));refine af ?_;refine ah.exit ?_;show bo _ _ _ _ _ _ _ _;refine ah.norm [(1,ck L),(4,aw 1)] dm λg=>?_;refine af ?_;by_cases h0:jM L L.length=0
  ·rw[if_pos h0] at c0;obtain⟨rfl,rfl,rfl,rfl,rfl,rfl⟩:=c0;refine af ?_;refine W.st H 0 I I I I I I λeV oD H j8=>?_;refine af ?_;refine ah.ret ?_;exact⟨rfl,_,jN (gl I (H.qx) I) (jn I),rfl⟩
  ·rw[if_neg h0] at c0;obtain⟨rfl,rfl,rfl,rfl,rfl,rfl⟩:=c0;refine af ?_;refine W.st H 0 I I I I I I λeV oD H j8=>?_;refine af ?_;refine ah.ret ?_;exact⟨rfl,_,jN (gl I (H.qx) I) (jn I),rfl⟩
end
abbrev sK(a b c:Nat):AV:=.aj [uB a,ag b,ag c]
section
abbrev n9(p:Fm×Fm):AV:=.aj (br p.1++br p.2)
abbrev AW(p:Nat×Nat):AV:=sK 2 p.1 p.2
structure sL(J:ad)(dn e4:Nat)(P:List (Fm×Fm))(Q:List (Nat×Nat))(X:Nat->Prop):Prop where
 ex:∃v w,J.get dn=some (.cells [v])/\J.get e4=some (.cells [w])/\Sl J (some 8) v (P.map n9)/\Sl J (some 3) w (Q.map AW)/\(P=[]->v= .nilsl)/\∀o,(v.at? =some o->¬X o/\o≠dn/\o≠e4)/\(w.at? =some o->¬X o/\o≠dn/\o≠e4/\v.at? ≠some o)
def sL.sub{J:ad}{dn e4:Nat}{P:List (Fm×Fm)}{Q:List (Nat×Nat)}{X DI:Nat->Prop}(h:sL J dn e4 P Q X)(hx:∀i,DI i->i<J.next->X i):sL J dn e4 P Q DI:=by
 obtain⟨v,w,bY,cf,aq,hw,hn,hl⟩:=h.ex;exact⟨v,w,bY,cf,aq,hw,hn,λo=>⟨λe=>⟨λcw=>((hl o).1 e).1 (hx o cw (aq.lt e)),((hl o).1 e).2⟩,λe=>⟨λcw=>((hl o).2 e).1 (hx o cw (hw.lt e)),((hl o).2 e).2⟩⟩⟩
def sL.aD{J τ:ad}{dn e4:Nat}{P:List (Fm×Fm)}{Q:List (Nat×Nat)}{X:Nat->Prop}(h:sL J dn e4 P Q X)(k:∀i o,J.get i=some o->τ.get i=some o):sL τ dn e4 P Q X:=by
 obtain⟨v,w,bY,cf,aq,hw,hn,hl⟩:=h.ex;exact⟨v,w,k _ _ bY,k _ _ cf,aq.aD λi o _=>k i o,hw.aD λi o _=>k i o,hn,hl⟩
structure c0B(X:Nat->Prop)(dn e4:Nat)(J τ:ad):Prop where
 next:J.next<=τ.next
 aD:∀i o,X i->i≠dn->i≠e4->J.get i=some o->τ.get i=some o
def TL(hh:a3 (b.aF K) rp Gn){J:ad}{dn e4:Nat}{X:Nat->Prop}{P:List (Fm×Fm)}{Q:List (Nat×Nat)}(hA:sL J dn e4 P Q X)(d1c:dn≠e4)(cw:∀i,X i->i<J.next)(S F:Fm)(i j:Nat)(ft:P.length<2^30)(cc:Q.length<2^30):
  bb (b.aF K) 0 (.f (.func rp) [] [aw dn,aw e4]) [.aj (br S),.aj (br F),ag i,ag j] J (λv τ=>v= .ok (.bg [])/\sL τ dn e4 (P++[(S,F)]) (Q++[(i,j)]) X/\c0B X dn e4 J τ):=by
 refine W.mV hh.e hh.p hh.f (by cbv) I I λz=>?_;obtain⟨v,w,bY,cf,aq,hw,hn,hl⟩:=hA.ex;have b3h:=ad.a9 bY;have d1d:=ad.a9 cf;have H:Has J [(dn,[v]),(e4,[w])]:=(Has.nil.cons cf ay).cons bY (by simp;omega);refine af ?_;refine W.bN (c:=br S) H I I I I I I λτ cy H bl=>?_;refine af ?_;refine W.bN (c:=br F) H I I I I I I λa5 c6 H bj=>?_;have cG:∀i o,J.get i=some o->a5.get i=some o:=λi o h=>bj _ _ (bl _ _ h);have kM:=aq.aD (τ:=a5) λi o _=>cG i o;have kA:=hw.aD (τ:=a5) λi o _=>cG i o;refine af ?_;refine W.pu (c:=br S++br F) (n9 (S,F)) kM I I I I I I I I I (by rw[bB];omega) λbn bu oV kS _ dx k3=>?_;have hlt:∀o,v.at? =some o->o<J.next:=λo h=>aq.lt h;have c0C:∀o,w.at? =some o->o<J.next:=λo h=>hw.lt h;have H:Has bu [(dn,[v]),(e4,[w])]:=(Has.nil.cons (k3 _ _ (λe=>((hl _).1 e).2.2 I) (cG _ _ cf)) ay).cons (k3 _ _ (λe=>((hl _).1 e).2.1 I) (cG _ _ bY)) (by simp;omega);refine af ?_;refine W.st (bc:=[bn]) H 0 I I I I oV.jm (by rw[oV.j3];rfl) λb3 eC H bI=>?_;have Hq:=kA.aD (τ:=b3) λi o hi ho=>bI _ _ ((hl i).2 hi).2.1 (k3 _ _ ((hl i).2 hi).2.2.2 ho);refine af ?_;refine W.pu (c:=[.i .u8 2,ag i,ag j]) (AW (i,j)) Hq I I I I I I I I I (by rw[bB];omega) λav cW TM sF _ gw cP=>?_;have H:Has cW [(dn,[bn]),(e4,[w])]:=(Has.nil.cons (cP _ _ (λe=>((hl _).2 e).2.2.1 I) (H.x7)) ay).cons (cP _ _ (λe=>((hl _).2 e).2.1 I) (H.qx)) (by simp;omega);refine af ?_;refine W.st (bc:=[av]) H 1 I I I I TM.jm (by rw[TM.j3];rfl) λdr h5 H dI=>?_;refine af ?_;refine⟨.inr I,rfl,⟨bn,av,H.qx,H.x7,?_,?_,λe=>absurd e ay,λo=>⟨λe=>?_,λe=>?_⟩⟩,U,λi o a2z RK No ho=>dI _ _ No (cP _ _ (λe=>((hl _).2 e).1 a2z) (bI _ _ RK (k3 _ _ (λe=>((hl _).1 e).1 a2z) (cG _ _ ho))))⟩
 ·rw[gO];exact oV.aD λi o hi ho=>dI _ _ (λe=>by rw[kS] at hi;cases hi;omega) (cP _ _ (λe=>by rw[kS] at hi;cases hi;have:=c0C _ e;omega) (bI _ _ (λe=>by rw[kS] at hi;cases hi;omega) ho))
 ·rw[gO];exact TM.aD λi o hi ho=>dI _ _ (λe=>by rw[sF] at hi;cases hi;omega) ho
 ·rw[kS] at e;cases e;exact⟨λh=>by have:=cw _ h;omega,U,U⟩
 ·rw[sF] at e;cases e;exact⟨λh=>by have:=cw _ h;omega,U,U,λe=>by rw[kS] at e;have:=kr e;omega⟩
end
def j9:Fm:=.mk 0 [] none none
def a2g(r:bw)(gs:List kV)(j:Nat):List (Fm×Fm):=(List.range j).map λi=>((r.cg.getD i j7).f,(gs.getD i nA).eE)
def c0D(r:bw)(gs:List kV)(i t:Nat):List (Fm×Fm):=(List.range t).map λt=>((r.cg.getD i j7).hyps.getD t j9,(gs.getD i nA).hyps.getD t j9)
def pr2(r:bw)(gs:List kV):Nat->List (Fm×Fm)
 |0=>[]
 |j+1=>pr2 r gs j++c0D r gs j (gs.getD j nA).hyps.length
def vj(j:Nat):List (Nat×Nat):=(List.range j).map λi=>(i,0)
def jA{α:Type}{l:List α}{i:Nat}{d:α}(h:i<l.length):l.getD i d=l[i]:=by rw[fD,cp h];rfl
section
def c0E(hh:a3 (b.aF K) MA Mc){cB:AV}{aW:List Nat}{J:ad}:
  bb (b.aF K) 0 (.f (.func MA) [] []) [.aj [cB,.nilsl],.s aW] J (λv τ=>v= .ok (.bg [.aj [.b false,.s [],.nilsl],.b false])/\cM J τ):=by
 refine W.m3 hh.e hh.p hh.f (by cbv) I I λz=>?_;have H:Has J []:=Has.nil;refine af ?_;refine W.bN (c:=[cB,.nilsl]) H I I I I I I λτ cy H bl=>?_;refine af ?_;refine W.b6 (c:=[.b false,.s [],.nilsl]) H I I I I λa5 c6 H bj=>?_;refine af ?_;show bo _ _ _ _ _ _ _ _;refine ah.each 0 (λj f ax=>cM a5 ax/\sat [(4,aw (J.next+1))] f) U ⟨⟨a8 _,λ_ _ h=>h⟩,(by show aw _=aw _;rw[cy]),trivial⟩ I I (λj g ax aA aL hi hm=>by omega) (λg ax aL hi=>?_);obtain⟨M,cf,_⟩:=aL;refine ah.norm [(4,aw (J.next+1))] ⟨cf,trivial⟩ λg=>?_;have H:Has ax [(J.next+1,[.b false,.s [],.nilsl])]:=Has.nil.cons (M.2 _ _ (by rw[<-cy];exact H.qx)) ay;refine af ?_;refine W.st H 0 I I I I I I λbu dx H k3=>?_;refine af ?_;exact ah.ret ⟨rfl,_,jN (gl I (H.qx) I) (jn I),rfl,by have:=M.1;omega,λi o h=>k3 _ _ (by have:=ad.a9 h;omega) (M.2 _ _ (bj _ _ (bl _ _ h)))⟩
def c0F(hh:a3 (b.aF K) Mz Ma){HI k:Nat}{bG:AV}(hU:bG= .f (.func u2) [] [aw k,aw (k+1)]){J:ad}(bT:J.get HI=some (.cells [.nilsl])):
  bb (b.aF K) 0 (.f (.func Mz) [] [aw HI]) [.i .u8 7,bG] J (λv τ=>v= .ok (.bg [])/\J.next<=τ.next/\(∃x y w,τ.get HI=some (.cells [w])/\Sl τ none w [.f (.func wI) [] [aw x,aw y]]/\J.next<=x/\J.next<=y/\(∀o,w.at? =some o->J.next<=o)/\τ.get x=some (.cells [bG])/\τ.get y=some (.cells [.i .u8 7]))/\∀i o,i≠HI->J.get i=some o->τ.get i=some o):=by
 subst hU;refine W.mV hh.e hh.p hh.f (by cbv) I I λz=>?_;have H:Has J [(HI,[.nilsl])]:=Has.nil.cons bT ay;have AX:=ad.a9 bT;refine af ?_;generalize aS:J.next=q;refine W.bN (c:=[.i .u8 7]) H aS I I I I I λτ cy H bl=>?_;refine af ?_;refine W.bN (c:=[.f (.func u2) [] [aw k,aw (k+1)]]) H cy I I I I I λa5 c6 H bj=>?_;refine af ?_;refine W.pu (c:=[.f (.func wI) [] [aw (q+1),aw q]]) (.f (.func wI) [] [aw (q+1),aw q]) Sl.nil I I I I I I I I I (by show(3*(0+1)+2000)*8<=_;omega) λbn bu oV kS _ dx k3=>?_;have cG:∀i o,a5.get i=some o->bu.get i=some o:=λi o h=>k3 i o (λe=>by cases e) h;have H:=H.aD cG;refine af ?_;refine W.st (bc:=[bn]) H 2 I I I I oV.jm (by rw[oV.j3];rfl) λb3 eC H bI=>?_;refine af ?_;refine⟨.inr I,rfl,U,⟨q+1,q,bn,H.Ag,oV.aD λi o hi=>bI _ _ (λe=>by rw[kS] at hi;cases hi;omega),U,U,λo ho=>by rw[kS] at ho;cases ho;omega,H.qx,H.x7⟩,λi o hi ho=>bI _ _ hi (cG _ _ (bj _ _ (bl _ _ ho)))⟩
def c0G(hh:a3 (b.aF K) u2 Gp){tL rB:Nat}{p:fz}(an:p.closed=false){J:ad}(eI:J.get tL=some (.cells p.cells)):
  bb (b.aF K) 0 (.f (.func u2) [] [aw tL,aw rB]) [] J (λv τ=>v= .ok (.bg [ag 0,.b false])/\cM J τ):=by
 refine W.m3 hh.e hh.p hh.f (by cbv) I I λz=>?_;have H:Has J [(tL,p.cells)]:=Has.nil.cons eI ay;refine af ?_;rw[an];refine af ?_;exact ah.ret ⟨rfl,_,rfl,rfl,a8 _,λ_ _ h=>h⟩
def c0H(hh:a3 (b.aF K) wI Mb)(cE:a3 (b.aF K) u2 Gp){tL rB x y k:Nat}{p:fz}(an:p.closed=false){J:ad}(eI:J.get tL=some (.cells p.cells))(hx:J.get x=some (.cells [.f (.func u2) [] [aw tL,aw rB]]))(hy:J.get y=some (.cells [uB k])):
  bb (b.aF K) 0 (.f (.func wI) [] [aw x,aw y]) [] J (λv τ=>v= .ok (.bg [uB k,ag 0,.b false])/\cM J τ):=by
 refine W.m3 hh.e hh.p hh.f (by cbv) I I λz=>?_;have aY:x≠y:=λe=>by subst e;rw[hx] at hy;cases hy
 have H:Has J [(x,[.f (.func u2) [] [aw tL,aw rB]]),(y,[uB k])]:=(Has.nil.cons hy ay).cons hx (by simp;omega);refine af ?_;refine W.bS I I I (c0G cE an eI) λr τ ⟨e,M⟩=>⟨_,e,?_⟩
 have H:=H.aD M.2;refine af ?_;exact ah.ret ⟨rfl,_,rfl,rfl,M⟩
end
structure Np(b:bJ)(K:Nat->List AV->AV->Prop):Prop where
 TN:a3 (b.aF K) SB Sm
 c0I:a3 (b.aF K) Mz Ma
 c0J:a3 (b.aF K) wI Mb
 c0K:a3 (b.aF K) u2 Gp
 c0L:a3 (b.aF K) MA Mc
 d1e:a3 (b.aF K) a1k So
end
section
def TO(d:Nat)(rs:List (Nat×Option (Option Nat)))(r:AV):dO:=λx f ai=>x= .ret/\ai.get d=some .c7/\∃v,va (ai.set d .dead) f rs=some v/\freeze (ai.set d .dead) 0 1000 v=some r
def TP{P:Program}{b:bJ}{K:Nat->List AV->AV->Prop}(hb:lb P b)(de:uX P b K){g:Nat}{fn:gr}{body:b5}{aO:List AV}{d:Nat}(r:AV)(hf:b.funcs.get g=some fn)(jt:fn.body=some body)
  (hn:(Nat.beq aO.length fn.kF&&Nat.ble aO.length fn.ntmps)=true) (hd:cN (λr=>Nat.blt r.1 fn.ntmps) fn.results=true) {ae:Nat} (ak:fs ae r=true) (gQ:AV.eqb 1000 r r=true)
  (h:cQ (b.aF K) [] [.inl d] fn.ntmps body (gy aO) ⟨.nil,0⟩ (TO d fn.results r)) (b2:Nat):SpecEntry P (b.env []) b2 g aO r:=by
 have hle:aO.length<=fn.ntmps:=by
  simp only[dD] at hn;exact g7 hn.2
 refine K1 (env:=b.aF K) (m:=1000) (Aa _ _) ⟨λg cj hg=>nY.z7 hb.funcs g cj hg⟩ (λb2 g aO r al=>de g aO r (K3 al) b2) hb.ext hb.CL hf jt hn ak ((h _ (wA hle)).mono λx ae ai ⟨f,h1,h2,h3,v,aH,bT⟩=>?_) gQ b2;subst h2;exact⟨.ok v,_,a1N h1 h3 hd aH,_,rfl,bT⟩
def cQ.args{env:Env}{D ns:List (Nat ⊕ (AV×List AV))}{n:Nat}{c:b5}{xH:List AV}{J:ad}{Q:dO}(h:∀z,cQ env D ns n c (bs (W.qw 0 xH) z) J Q):cQ env D ns n c (gy xH) J Q:=by
 have kv:bs (W.qw 0 xH) (gy xH)=gy xH:=FP (W.Lo _ 0 λj a e=>by show xH.getD (0+j) dF=a;rw[nq,fD,e];rfl);have:=h (gy xH);rwa[kv] at this
def a2A{J:ad}{cB:AV}{a b c d:Nat}(h:freeze J 0 998 cB=some cB):freeze J 0 1000 (.bg [.aj [cB,.nilsl],sK a b c,ag d])=some (.bg [.aj [cB,.nilsl],sK a b c,ag d]):=by
 have h1:freeze J 0 999 (.aj [cB,.nilsl])=some (.aj [cB,.nilsl]):=by
  rw[freeze_succ];show(match mapO (freeze J 0 998) [cB,.nilsl] with|none=>none|some l=>some (AV.aj l))=_;rw[mapO_cons,h];rfl
 rw[freeze_succ];show(match mapO (freeze J 0 999) [.aj [cB,.nilsl],sK a b c,ag d] with|none=>none|some l=>some (AV.bg l))=_;rw[mapO_cons,h1];rfl
attribute [local irreducible] bM bo da dy bb
structure a2B(b:bJ)(K:Nat->List AV->AV->Prop):Prop where
 dX:a3 (b.aF K) My LU
 a2C:a3 (b.aF K) GG L7
 c0M:a3 (b.aF K) yj LV
 HJ:a3 (b.aF K) yk LW
 c0N:a3 (b.aF K) rp Gn
 TQ:a3 (b.aF K) yl LX
 iU:Np b K
 c0O:b.ext rn=0/\b.pure rn=true
 hZ:b.ext ym=0/\b.pure ym=true
 c0P:b.ext mZ=0/\b.pure mZ=true
end
section
attribute [local irreducible] bM bo da dy bb
structure dC where
 eE:Fm
 hyps:List (Option Fm)
 rest:List Fm
abbrev pV(x:Option Fm):AV:=.aj (.b x.isSome::br (x.getD j9))
abbrev dC.A(g:dC):AV:=.aj (br g.eE++[slA true (some 5) (g.hyps.map pV),slA true (some 4) (g.rest.map λF=>.aj (br F))])
abbrev hB(gs:List dC):AV:=slA true (some 6) (gs.map dC.A)
def o4:dC:=⟨j9,[],[]⟩
def dC.al(g:dC):List Fm:=g.hyps.filterMap id
def dC.a6(g:dC):List Fm:=g.eE::(g.al++g.rest)
def vk(F:Fm)(gs:List dC):List Fm:=F::gs.flatMap dC.a6
def tM(gs:List dC)(j:Nat):Nat:=1+((gs.take j).flatMap dC.a6).length
def c0Q{F:Fm}{gs:List dC}{j:Nat}(aA:j<gs.length){t:Nat}{x:Fm}(h:(gs[j]).a6[t]? =some x):(vk F gs)[tM gs j+t]? =some x:=by
 have e:gs.flatMap dC.a6=(gs.take j).flatMap dC.a6++((gs[j]).a6++(gs.drop (j+1)).flatMap dC.a6):=by
  rw[<-lR,← Av aA,← Aw,wa]
 have ht:=(fH.1 h).1;unfold vk tM;rw[show 1+((gs.take j).flatMap dC.a6).length+t=((gs.take j).flatMap dC.a6).length+t+1 from by omega,Jy,e,Ds U,show((gs.take j).flatMap dC.a6).length+t-((gs.take j).flatMap dC.a6).length=t from by omega,yq ht,h]
def c0R{gs:List dC}{j:Nat}(aA:j<gs.length):tM gs (j+1)=tM gs j+1+(gs[j]).al.length+(gs[j]).rest.length:=by
 unfold tM;rw[jL aA,Aw,c5];have:([gs[j]].flatMap dC.a6).length=1+(gs[j]).al.length+(gs[j]).rest.length:=by
  simp[dC.a6];omega
 omega
def c0S{F:Fm}{gs:List dC}:tM gs gs.length=(vk F gs).length:=by
 unfold tM vk;rw[jw,fw];omega
def c0T{l:List (Option Fm)}{i:Nat}{f:Fm}(h:l[i]? =some (some f)):(l.filterMap id)[((l.take i).filterMap id).length]? =some f/\((l.take (i+1)).filterMap id).length=((l.take i).filterMap id).length+1:=by
 obtain⟨hi,he⟩:=fH.1 h;have e:l.filterMap id=(l.take i).filterMap id++f::(l.drop (i+1)).filterMap id:=by
  conv=>lhs;rw[<-wa i l,Av hi,he]
  rw[G3,SJ];rfl
 rw[e,jL hi,he,G3];exact⟨by rw[Ds (a8 _),Ew];rfl,by rw[c5];rfl⟩
def c0U{l:List (Option Fm)}{i:Nat}(h:l[i]? =some none):((l.take (i+1)).filterMap id).length=((l.take i).filterMap id).length:=by
 obtain⟨hi,he⟩:=fH.1 h;rw[jL hi,he,G3];simp
section
def c0V(hh:a3 (b.aF K) My LU){F:Fm}{gs:List dC}{J:ad}{q:Nat}(aS:J.next=q):
  bb (b.aF K) 0 (.f (.func My) [] []) [.aj (br F),hB gs] J (λr τ=>r= .ok (.f (.func GG) [] [aw q,aw (q+1)])/\τ.get q=some (.cells (br F))/\τ.get (q+1)=some (.cells [hB gs])/\τ.next=q+2/\cM J τ):=by
 refine W.sA hh I I I λz H=>?_;refine af ?_;refine W.bN (c:=br F) H aS I I I I I λτ hn H bl=>?_;refine af ?_;have hg:(hB gs).cells=[hB gs]:=by cases gs<;>rfl
 have ri:(hB gs).val=true:=by cases gs<;>rfl
 refine W.bN (c:=[hB gs]) H hn I I I ri hg λa5 iH H bj=>?_;refine af ?_;exact ah.ret ⟨rfl,rfl,H.x7,H.qx,U,U,λi o h=>bj _ _ (bl _ _ h)⟩
def c0W(hh:a3 (b.aF K) GG L7){F:Fm}{gs:List dC}{J:ad}{q:Nat}(h1:J.get q=some (.cells (br F)))(h2:J.get (q+1)=some (.cells [hB gs]))(gB:Nat->Prop)(rv:¬gB q/\¬gB (q+1))(lG:gs.length<2^20)(c0X:∀g∈gs,g.hyps.length<2^20/\g.rest.length<2^20):
  Yields (b.aF K) GG [aw q,aw (q+1)] (vk F gs).length (λi _ _ args=>∃f,(vk F gs)[i]? =some f/\args=[.aj (br f)]) J gB:=by
 intro g2 h8 sE cq hy MZ u_ hlt gX;refine W.mV hh.e hh.p hh.f (by cbv) I I λz=>?_;have H:Has sE [(q,br F),(q+1,[hB gs])]:=(Has.nil.cons (u_ _ _ h2) ay).cons (u_ _ _ h1) ay;have hX:=c0S (F:=F) (gs:=gs);have c0Y:tM gs 0=1:=rfl;refine af ?_;refine W.bS I I I (hy 0 gB sE _ (by show 0<_+1;omega) (a8 _) ⟨F,rfl,rfl⟩ gX) λr cx ⟨e,AY,Hf,l4⟩=>⟨_,e,?_⟩
 have jf:=l4.next;have H:Has cx [(q,br F),(q+1,[hB gs])]:=(Has.nil.cons (l4.aD _ _ rv.2 (H.x7)) ay).cons (l4.aD _ _ rv.1 (H.qx)) ay;have wX:∀c,AY c->c<cx.next:=λc aa=>by
  rcases l4.own c aa with h|h
  ·have:=hlt c h;omega
  ·omega
 have ri:Vw cx (some 6) (hB gs) (gs.map dC.A):=AB λy hy=>by obtain⟨g,_,rfl⟩:=cT.1 hy;rfl
 refine af ?_;show bo _ _ _ _ _ _ _ _;have step:∀(i:Nat) (V:Nat->Prop) (τ:ad) (f:Fm),(vk F gs)[i]? =some f->sE.next<=τ.next->h8 i V τ->bb (b.aF K) 0 g2 [.aj (br f)] τ (λr a5=>r= .ok (.b true)/\∃W',h8 (i+1) W' a5/\oZ V W' τ a5):=λi V τ f hf hn gX=>hy i V τ _ (fH.1 hf).1 hn ⟨f,hf,rfl⟩ gX;refine ah.each gs.length (λj f τ=>∃V,h8 (tM gs j) V τ/\sE.next<=τ.next/\(∀c,V c->c<τ.next)/\sat [(0,g2),(14,hB gs)] f) U ⟨AY,by rw[c0Y];exact Hf,jf,wX,dm⟩ I I (λj g τ aA aL hi hm=>?_) (λg τ aL hi=>?_)
 ·obtain⟨V,gX,hn,hV,cm,m7,_⟩:=aL;refine ah.norm [(0,g2),(14,hB gs),(16,ag j),(15,ag gs.length)] ⟨cm,m7,hi,hm,trivial⟩ λg=>?_;have H:Has τ []:=Has.nil;have ri:Vw τ (some 6) (hB gs) (gs.map dC.A):=AB λy hy=>by obtain⟨g,_,rfl⟩:=cT.1 hy;rfl
  refine af ?_;have d1f:=c0X _ (bC aA);have du:=λt x h=>c0Q (F:=F) aA (t:=t) (x:=x) h;have lg:=c0R aA;generalize gs[j]=gt at *;refine W.kk (c:=gt.A.cells) H I I I I I I I λa5 c6 H bj=>?_;have S4:=cq _ _ _ a5 gX (λc o _=>bj c o) U;have xF:¬V τ.next:=λh=>by have:=hV _ h;omega
  generalize HP:τ.next=k4 at *;refine af ?_;refine W.bS I I I (step _ V a5 gt.eE (du 0 _ I) U S4) λr bu ⟨e,TR,TS,sB⟩=>⟨_,e,?_⟩
  have dx:=sB.next;have uC:¬TR k4:=λh=>by
   rcases sB.own _ h with h|h
   ·exact xF h
   ·omega
  have c0Z:∀c,TR c->c<bu.next:=λc aa=>by
   rcases sB.own c aa with h|h
   ·have:=hV c h;omega
   ·omega
  have H:Has bu [(k4,gt.A.cells)]:=Has.nil.cons (sB.aD _ _ xF (H.qx)) ay;refine af ?_;show bo _ _ _ _ _ _ _ _;refine ah.each gt.hyps.length (λi f τ=>∃V,h8 (tM gs j+1+((gt.hyps.take i).filterMap id).length) V τ/\τ.get k4=some (.cells gt.A.cells)/\¬V k4/\k4<τ.next/\sE.next<=τ.next/\(∀c,V c->c<τ.next)/\sat [(0,g2),(5,aw k4),(14,hB gs),(15,ag gs.length),(16,ag j),(26,slA true (some 5) (gt.hyps.map pV))] f) U ⟨TR,TS,H.qx,uC,U,U,c0Z,dm⟩ I I (λi g τ iK aL hi hm=>?_) (λg τ aL hi=>?_)
  ·obtain⟨V,gX,yE,Nq,P3,hn,hV,cm,c9,m7,o5,wY,c1a,_⟩:=aL;refine ah.norm [(0,g2),(5,aw k4),(14,hB gs),(15,ag gs.length),(16,ag j),(26,slA true (some 5) (gt.hyps.map pV)),(28,ag i),(27,ag gt.hyps.length)] ⟨cm,c9,m7,o5,wY,c1a,hi,hm,trivial⟩ λg=>?_;have H:Has τ []:=Has.nil;refine af ?_;have hc:gt.hyps[i]? =some gt.hyps[i]:=cp iK;generalize gt.hyps[i]=hx at hc;refine W.kk (c:=.b hx.isSome::br (hx.getD j9)) H I I I I I I I λb3 eC H bI=>?_;have DJ:=cq _ _ _ b3 gX (λc o _=>bI c o) U;cases hx with
   |none=>
    refine af ?_;refine⟨rfl,rfl,V,by rw[c0U hc];exact DJ,bI _ _ yE,Nq,U,U,λc aa=>by have:=hV c aa;omega,dm⟩
   |some f=>
    obtain⟨mx,l8⟩:=c0T hc;refine af ?_;refine W.bS I I I (step _ V b3 f (by rw[qO];exact du (1+((gt.hyps.take i).filterMap id).length) _ (by rw[rY];exact(yq (fH.1 mx).1).trans mx)) U DJ) λr cW ⟨e,TT,DK,AZ⟩=>⟨_,e,?_⟩
    have gw:=AZ.next;refine af ?_;refine⟨rfl,rfl,TT,by rw[l8];exact DK,AZ.aD _ _ Nq (bI _ _ yE),λh=>?_,U,U,λc aa=>?_,dm⟩
    ·rcases AZ.own _ h with h|h
     ·exact Nq h
     ·omega
    ·rcases AZ.own c aa with h|h
     ·have:=hV c h;omega
     ·omega
  ·obtain⟨V,gX,yE,Nq,P3,hn,hV,cm,c9,m7,o5,wY,_⟩:=aL;rw[jw] at gX;show bo _ _ _ _ _ _ _ _;refine ah.norm [(0,g2),(5,aw k4),(14,hB gs),(15,ag gs.length),(16,ag j)] ⟨cm,c9,m7,o5,wY,trivial⟩ λg=>?_;have H:Has τ [(k4,gt.A.cells)]:=Has.nil.cons yE ay;refine af ?_;refine ah.each gt.rest.length (λi f τ=>∃V,h8 (tM gs j+1+gt.al.length+i) V τ/\sE.next<=τ.next/\(∀c,V c->c<τ.next)/\sat [(0,g2),(14,hB gs),(15,ag gs.length),(16,ag j),(43,slA true (some 4) (gt.rest.map λF=>.aj (br F)))] f) U ⟨V,gX,hn,hV,dm⟩ I I (λi g τ iK aL hi hm=>?_) (λg τ aL hi=>?_)
   ·obtain⟨V,gX,hn,hV,cm,m7,o5,wY,c1b,_⟩:=aL;refine ah.norm [(0,g2),(14,hB gs),(15,ag gs.length),(16,ag j),(43,slA true (some 4) (gt.rest.map λF=>.aj (br F))),(45,ag i),(44,ag gt.rest.length)] ⟨cm,m7,o5,wY,c1b,hi,hm,trivial⟩ λg=>?_;have H:Has τ []:=Has.nil;refine af ?_;refine W.kk (c:=br gt.rest[i]) H I I I I I I I λb3 eC H bI=>?_;have DJ:=cq _ _ _ b3 gX (λc o _=>bI c o) U;refine af ?_;refine W.bS I I I (step _ V b3 gt.rest[i] (by rw[qO,qO];exact du (1+(gt.al.length+i)) _ (by rw[rY];exact(Ds (PC _ _)).trans (by rw[Xn];exact cp iK))) U DJ) λr cW ⟨e,TT,DK,AZ⟩=>⟨_,e,?_⟩
    have gw:=AZ.next;refine af ?_;refine⟨rfl,rfl,TT,DK,U,λc aa=>?_,dm⟩;rcases AZ.own c aa with h|h
    ·have:=hV c h;omega
    ·omega
   ·obtain⟨V,gX,hn,hV,cm,m7,o5,wY,_⟩:=aL;exact⟨wY,o5,V,by rw[lg];exact gX,hn,hV,cm,m7,trivial⟩
 ·obtain⟨V,gX,_⟩:=aL;exact⟨.inr I,rfl,V,by rw[<-hX];exact gX⟩
end
abbrev my(r:bw)(F:Fm)(gs:List dC)(cB fE:AV):List AV:=r.A.cells++(br F++[hB gs,cB,fE])
structure HU(r:bw)(gs:List dC):Prop where
 len:gs.length=r.cg.length
 lt:gs.length<2^20
 hy:∀i (h:i<gs.length) (h':i<r.cg.length),(gs[i]).hyps.length=(r.cg[i]).hyps.length
 hl:∀g∈gs,g.hyps.length<2^20/\g.rest.length<2^20
section
def c1c(hh:a3 (b.aF K) yj LV){r:bw}{F:Fm}{gs:List dC}{cB fE:AV}{J:ad}{aE:Nat}(al:J.get aE=some (.cells (my r F gs cB fE)))(aa:HU r gs):
  bb (b.aF K) 0 (.f (.func yj) [aw aE] []) [] J (λv τ=>v= .ok (sK 0 0 0)/\cM J τ):=by
 refine W.m3 hh.e hh.p hh.f (by cbv) I I λz=>?_;have H:Has J [(aE,my r F gs cB fE)]:=Has.nil.cons al ay;have hlen:=aa.len;have hlt:=aa.lt;refine af ?_;refine W.b6 (c:=[.i .u8 0,ag 0,ag 0]) H I I I I λτ cy H bl=>?_;refine af ?_;show bo _ _ _ _ _ _ _ _;refine ah.each r.cg.length (λj f ax=>cM τ ax/\sat [(0,aw aE),(2,aw J.next),(22,slA true (some 7) (r.cg.map fz.A))] f) U ⟨⟨a8 _,λ_ _ h=>h⟩,dm⟩ I I (λj g ax aA aL hi hm=>?_) (λg ax aL hi=>?_)
 ·obtain⟨M,cm,bz,c1d,_⟩:=aL;refine ah.norm [(0,aw aE),(2,aw J.next),(22,slA true (some 7) (r.cg.map fz.A)),(24,ag j),(23,ag r.cg.length)] ⟨cm,bz,c1d,hi,hm,trivial⟩ λg=>?_;have H:=H.aD M.2;have hy:=aa.hy j U aA;have hl:=(aa.hl _ (bC (show j<gs.length by omega))).1;refine af ?_;refine W.b6 H I I I I λa5 c6 H bj=>?_;refine af ?_;refine W.st (bc:=(r.cg[j]).cells) H 0 I I I I I I λbu dx H k3=>?_;refine af ?_;refine⟨rfl,rfl,⟨by have:=M.1;omega,λi o h=>k3 _ _ (by have:=ad.a9 (M.2 _ _ h);omega) (bj _ _ (M.2 _ _ h))⟩,dm⟩
 ·obtain⟨M,cm,bz,_⟩:=aL;refine ah.norm [(2,aw J.next)] ⟨bz,trivial⟩ λg=>?_;have H:Has ax [(J.next,[.i .u8 0,ag 0,ag 0])]:=Has.nil.cons (M.2 _ _ (H.qx)) ay;refine af ?_;refine W.st H 0 I I I I I I λbu dx H k3=>?_;refine af ?_;exact ah.ret ⟨rfl,_,qC (gl I (H.qx) I),rfl,by have:=M.1;omega,λi o h=>k3 _ _ (by have:=ad.a9 h;omega) (M.2 _ _ (bl _ _ h))⟩
end
def vl(r:bw)(gs:List dC)(j:Nat):List (Fm×Fm):=(List.range j).map λi=>((r.cg.getD i j7).f,(gs.getD i o4).eE)
def A0(r:bw)(gs:List dC)(i t:Nat):List (Fm×Fm):=(List.range t).filterMap λt=>((gs.getD i o4).hyps.getD t none).map λf=>((r.cg.getD i j7).hyps.getD t j9,f)
def pr2U(r:bw)(gs:List dC):Nat->List (Fm×Fm)
 |0=>[]
 |j+1=>pr2U r gs j++A0 r gs j (gs.getD j o4).hyps.length
def A1(gs:List dC)(i t:Nat):List (Nat×Nat):=(List.range t).filterMap λt=>((gs.getD i o4).hyps.getD t none).map λ_=>(i,t+1)
def yF(gs:List dC):Nat->List (Nat×Nat)
 |0=>[]
 |j+1=>yF gs j++A1 gs j (gs.getD j o4).hyps.length
def o6(r:bw)(F:Fm)(gs:List dC):List (Fm×Fm):=vl r gs r.cg.length++pr2U r gs r.cg.length++[(r.eE,F)]
def A2(r:bw)(gs:List dC):List (Nat×Nat):=vj r.cg.length++yF gs r.cg.length++[(r.cg.length,0)]
def TU{r:bw}{gs:List dC}{i t:Nat}:(A0 r gs i t).length<=t/\(A1 gs i t).length<=t:=⟨by
 have:=a1r (λt=>((gs.getD i o4).hyps.getD t none).map λf=>((r.cg.getD i j7).hyps.getD t j9,f)) (List.range t);rwa[nc] at this,by
 have:=a1r (λt=>((gs.getD i o4).hyps.getD t none).map λ_=>(i,t+1)) (List.range t);rwa[nc] at this⟩
def TV{r:bw}{gs:List dC}(h:∀g∈gs,g.hyps.length<2^10):∀ {j:Nat},(pr2U r gs j).length<=j*2^10/\(yF gs j).length<=j*2^10
 |0=>⟨a8 _,a8 _⟩
 |j+1=>by
  obtain⟨h1,h2⟩:=TV (r:=r) (gs:=gs) h (j:=j);have:(gs.getD j o4).hyps.length<2^10:=by
   rw[fD];cases hx:gs[j]? with
   |none=>decide
   |some g=>exact h g (eY hx)
  rw[pr2U,yF,c5,c5];have aQ:=(TU (r:=r) (gs:=gs) (i:=j) (t:=(gs.getD j o4).hyps.length)).1;have aZ:=(TU (r:=r) (gs:=gs) (i:=j) (t:=(gs.getD j o4).hyps.length)).2;omega
section
variable {b:bJ}{K:Nat->List AV->AV->Prop}(hfn:∀g aO r bR,K g aO r->K g aO bR->r=bR)
include hfn
theorem c1e(hh:a3 (b.aF K) yk LW)(h1:a3 (b.aF K) rp Gn)(wZ:b.ext rn=0/\b.pure rn=true){r:bw}{F:Fm}{gs:List dC}{J:ad}{aE:Nat}(al:J.get aE=some (.cells (my r F gs .nilsl .nilsl)))(aa:HU r gs)(ki:gs.length<2^10)(HV:∀g∈gs,g.hyps.length<2^10){cB fE:AV}{at_ e:Nat}
  (jo:∀p∈o6 r F gs,p.1.dep<=200/\p.2.dep<=200) (lx:(AV.aj [cB,fE]).val=true) (gi:e≠0->at_<(A2 r gs).length) (cl:K rn [slA true (some 8) ((o6 r F gs).map n9),.aj [.nilsl,.nilsl]] (.bg [.aj [cB,fE],ag at_,ag e])):
  bb (b.aF K) 0 (.f (.func yk) [aw aE] []) [] J (λv τ=>(if e=0 then v= .ok (sK 0 0 0)/\τ.get aE=some (.cells (my r F gs cB fE)) else v= .ok (AW ((A2 r gs).getD at_ (0,0)))/\τ.get aE=some (.cells (my r F gs .nilsl .nilsl)))/\J.next<=τ.next/\∀i o,i≠aE->J.get i=some o->τ.get i=some o):=by
 refine W.m3 hh.e hh.p hh.f (by cbv) I I λz=>?_;have H:Has J [(aE,my r F gs .nilsl .nilsl)]:=Has.nil.cons al ay;have hlen:=aa.len;have a2D:=ad.a9 al;refine af ?_;generalize aS:J.next=q;refine W.b6 (c:=[.i .u8 0,ag 0,ag 0]) H aS I I I λτ cy H bl=>?_;refine af ?_;refine W.b6 (c:=[.nilsl]) H cy I I I λa5 c6 H bj=>?_;refine af ?_;refine W.b6 (c:=[.nilsl]) H c6 I I I λbu dx H k3=>?_;have cG:∀i o,J.get i=some o->bu.get i=some o:=λi o h=>k3 _ _ (bj _ _ (bl _ _ h));refine af ?_;show bo _ _ _ _ _ _ _ _;have hA0:sL bu (q+1) (q+2) [] [] (λi=>i<q+1):=⟨.nilsl,.nilsl,H.x7,H.qx,.nil,.nil,λ_=>rfl,λo=>⟨(λh=>by cases h),(λh=>by cases h)⟩⟩
 have fY:bu.get q=some (.cells [.i .u8 0,ag 0,ag 0]):=H.Ag;have oS:=cG _ _ al;clear H;refine ah.each r.cg.length (λj f τ=>sL τ (q+1) (q+2) (vl r gs j) (vj j) (λi=>i<q+1)/\(∀i o,i<q+1->bu.get i=some o->τ.get i=some o)/\q+3<=τ.next/\sat [(0,aw aE),(2,aw q),(3,aw (q+1)),(4,aw (q+2)),(5,.f (.func rp) [] [aw (q+1),aw (q+2)]),(20,slA true (some 7) (r.cg.map fz.A))] f) U ⟨hA0,λ_ _ _ h=>h,U,dm⟩ I I (λj g τ aA aL hi hm=>?_) (λg τ aL hi=>?_)
 ·obtain⟨hA,bA,hn,cm,bz,bY,cf,c9,qE,_⟩:=aL;refine ah.norm [(0,aw aE),(2,aw q),(3,aw (q+1)),(4,aw (q+2)),(5,.f (.func rp) [] [aw (q+1),aw (q+2)]),(20,slA true (some 7) (r.cg.map fz.A)),(22,ag j),(21,ag r.cg.length)] ⟨cm,bz,bY,cf,c9,qE,hi,hm,trivial⟩ λg=>?_;have H:Has τ [(aE,my r F gs .nilsl .nilsl)]:=Has.nil.cons (bA _ _ U oS) ay;refine af ?_;refine W.b6 H I I I I λfu mr H ca=>?_;refine af ?_;refine W.st (bc:=(r.cg[j]).cells) H 0 I I I I I I λfG ly H fP=>?_;have pT:∀i o,τ.get i=some o->fG.get i=some o:=λi o h=>fP _ _ (by have:=ad.a9 h;omega) (ca _ _ h);refine af ?_;refine W.bS I I I (TL h1 (hA.aD pT) U (λi hi=>by omega) (r.cg[j]).f (gs[j]'U).eE j 0 (by unfold vl;rw[bB,nc];omega) (by unfold vj;rw[bB,nc];omega)) λv gD ⟨ar,hq,aB⟩=>⟨_,ar,?_⟩
  have uK:=aB.next;have H:Has gD [(aE,my r F gs .nilsl .nilsl)]:=Has.nil.cons (aB.aD _ _ U U U (pT _ _ (bA _ _ U oS))) ay;refine af ?_;refine⟨rfl,rfl,?_,λi o hi ho=>aB.aD _ _ hi U U (pT _ _ (bA _ _ hi ho)),U,dm⟩;have aM:vl r gs (j+1)=vl r gs j++[((r.cg[j]).f,(gs[j]'U).eE)]:=by
   unfold vl;rw[yo,gO,pf,yp,jA aA,jA U]
  have aU:vj (j+1)=vj j++[(j,0)]:=by unfold vj;rw[yo,gO];rfl
  rw[aM,aU];exact hq
 ·obtain⟨hA,bA,hn,cm,bz,bY,cf,c9,_⟩:=aL;show bo _ _ _ _ _ _ _ _;refine ah.norm [(0,aw aE),(2,aw q),(3,aw (q+1)),(4,aw (q+2)),(5,.f (.func rp) [] [aw (q+1),aw (q+2)])] ⟨cm,bz,bY,cf,c9,trivial⟩ λg=>?_;have H:Has τ [(aE,my r F gs .nilsl .nilsl)]:=Has.nil.cons (bA _ _ U oS) ay;refine af ?_;show bo _ _ _ _ _ _ _ _;have jd:(vl r gs r.cg.length).length=r.cg.length/\(vj r.cg.length).length=r.cg.length:=by unfold vl vj;simp
  refine ah.each r.cg.length (λj f τ=>sL τ (q+1) (q+2) (vl r gs r.cg.length++pr2U r gs j) (vj r.cg.length++yF gs j) (λi=>i<q+1)/\(∀i o,i<q+1->bu.get i=some o->τ.get i=some o)/\q+3<=τ.next/\sat [(0,aw aE),(2,aw q),(3,aw (q+1)),(4,aw (q+2)),(5,.f (.func rp) [] [aw (q+1),aw (q+2)]),(45,slA true (some 7) (r.cg.map fz.A))] f) U ⟨by rw[pr2U,yF,hI,hI];exact hA,bA,hn,dm⟩ I I (λj g τ aA aL hi hm=>?_) (λg τ aL hi=>?_)
  ·obtain⟨hA,bA,hn,cm,bz,bY,cf,c9,HW,_⟩:=aL;refine ah.norm [(0,aw aE),(2,aw q),(3,aw (q+1)),(4,aw (q+2)),(5,.f (.func rp) [] [aw (q+1),aw (q+2)]),(45,slA true (some 7) (r.cg.map fz.A)),(47,ag j),(46,ag r.cg.length)] ⟨cm,bz,bY,cf,c9,HW,hi,hm,trivial⟩ λg=>?_;have H:Has τ [(aE,my r F gs .nilsl .nilsl)]:=Has.nil.cons (bA _ _ U oS) ay;have hy:=aa.hy j U aA;have n_:gs.getD j o4=gs[j]'U:=jA U;have c1f:r.cg.getD j j7=r.cg[j]:=jA aA;have TW:=HV _ (bC (show j<gs.length by omega));obtain⟨lD,KE⟩:=TV (r:=r) HV (j:=j);refine af ?_;refine W.b6 H I I I I λfu mr H ca=>?_;refine af ?_;refine W.st (bc:=(r.cg[j]).cells) H 0 I I I I I I λfG ly H fP=>?_;have pT:∀i o,τ.get i=some o->fG.get i=some o:=λi o h=>fP _ _ (by have:=ad.a9 h;omega) (ca _ _ h);refine af ?_;show bo _ _ _ _ _ _ _ _;have A3:fG.get τ.next=some (.cells (r.cg[j]).cells):=H.qx;have c1g:=(hA.sub (DI:=λi=>i<q+1\/i=τ.next) (λi hi hlt=>by rcases hi with h|h;exact h;omega)).aD pT;have d1g:τ.next<fG.next:=by omega
   have d1h:=hn;generalize τ.next=DL at *;clear H;have d1i:(gs[j]'U).hyps.length=(r.cg[j]).hyps.length:=hy;refine ah.each (gs[j]'U).hyps.length (λt f τ=>sL τ (q+1) (q+2) (vl r gs r.cg.length++(pr2U r gs j++A0 r gs j t)) (vj r.cg.length++(yF gs j++A1 gs j t)) (λi=>i<q+1\/i=DL)/\(∀i o,i<q+1->bu.get i=some o->τ.get i=some o)/\τ.get DL=some (.cells (r.cg[j]).cells)/\q+3<=τ.next/\sat [(0,aw aE),(2,aw q),(3,aw (q+1)),(4,aw (q+2)),(5,.f (.func rp) [] [aw (q+1),aw (q+2)]),(8,ag j),(9,aw DL),(45,slA true (some 7) (r.cg.map fz.A)),(47,ag j),(46,ag r.cg.length),(59,slA true (some 5) ((gs[j]'U).hyps.map pV))] f) U ⟨?_,λi o hi ho=>pT _ _ (bA _ _ hi ho),A3,U,dm⟩ I I (λt g τ ht aL hi hm=>?_) (λg τ aL hi=>?_)
   ·have aM:A0 r gs j 0=[]:=rfl;have aU:A1 gs j 0=[]:=rfl;rw[aM,aU,hI,hI];exact c1g
   ·obtain⟨hA,bA,A3,hn,cm,bz,bY,cf,c9,ga,tJ,HW,Hs,TX,TY,_⟩:=aL;refine ah.norm [(0,aw aE),(2,aw q),(3,aw (q+1)),(4,aw (q+2)),(5,.f (.func rp) [] [aw (q+1),aw (q+2)]),(8,ag j),(9,aw DL),(45,slA true (some 7) (r.cg.map fz.A)),(47,ag j),(46,ag r.cg.length),(59,slA true (some 5) ((gs[j]'U).hyps.map pV)),(61,ag t),(60,ag (gs[j]'U).hyps.length)] ⟨cm,bz,bY,cf,c9,ga,tJ,HW,Hs,TX,TY,hi,hm,trivial⟩ λg=>?_;have H:Has τ [(DL,(r.cg[j]).cells)]:=Has.nil.cons A3 ay;refine af ?_;refine W.b6 H I I I I λfu mr H ca=>?_;refine af ?_;have qi:(gs[j]'U).hyps.getD t none=(gs[j]'U).hyps[t]:=jA ht;have p1:A0 r gs j (t+1)=A0 r gs j t++((((gs[j]'U).hyps[t]).map λf=>((r.cg[j]).hyps[t]'U,f)).toList):=by
     unfold A0;rw[yo,G3,n_,c1f]
     congr 1
     rw[SJ,a1s,qi,jA (show t<(r.cg[j]).hyps.length by omega)];cases(gs[j]'U).hyps[t]<;>rfl
    have kL:A1 gs j (t+1)=A1 gs j t++((((gs[j]'U).hyps[t]).map λ_=>(j,t+1)).toList):=by
     unfold A1;rw[yo,G3,n_]
     congr 1
     rw[SJ,a1s,qi];cases(gs[j]'U).hyps[t]<;>rfl
    have d1j:=ad.a9 A3;obtain⟨d1k,d1l⟩:=TU (r:=r) (gs:=gs) (i:=j) (t:=t);generalize(gs[j]'U).hyps[t]=hx at p1 kL;refine W.st (bc:=.b hx.isSome::br (hx.getD j9)) H 0 I I I I I I λfG ly H fP=>?_;have pT:∀i o,τ.get i=some o->fG.get i=some o:=λi o h=>fP _ _ (by have:=ad.a9 h;omega) (ca _ _ h);cases hx with
    |none=>
     refine af ?_;refine⟨rfl,rfl,?_,λi o hi ho=>pT _ _ (bA _ _ hi ho),pT _ _ A3,U,dm⟩;rw[p1,kL];simp only[Option.map_none,Option.toList_none,hI];exact hA.aD pT
    |some hf=>
     refine af ?_;refine W.bS I I I (TL h1 (hA.aD pT) U (λi hi=>by omega) ((r.cg[j]).hyps[t]'U) hf j (t+1) (by rw[c5,c5];omega) (by rw[c5,c5];omega)) λv gD ⟨ar,hq,aB⟩=>⟨_,ar,?_⟩
     have uK:=aB.next;have H:Has gD [(DL,(r.cg[j]).cells)]:=Has.nil.cons (aB.aD _ _ (.inr I) U U (pT _ _ A3)) ay;refine af ?_;refine⟨rfl,rfl,?_,λi o hi ho=>aB.aD _ _ (.inl hi) U U (pT _ _ (bA _ _ hi ho)),H.qx,U,dm⟩;simp only[Eu,Option.toList_some] at p1 kL;rw[p1,kL,← iJ,← iJ,← iJ,← iJ];rw[<-iJ,← iJ] at hq;exact hq
   ·obtain⟨hA,bA,A3,hn,cm,bz,bY,cf,c9,ga,tJ,HW,Hs,TX,_⟩:=aL;refine⟨Hs,TX,?_,bA,hn,cm,bz,bY,cf,c9,HW,trivial⟩;rw[pr2U,yF,n_];exact hA.sub λi hi _=>.inl hi
  ·obtain⟨hA,bA,hn,cm,bz,bY,cf,c9,_⟩:=aL;show bo _ _ _ _ _ _ _ _;refine ah.norm [(0,aw aE),(2,aw q),(3,aw (q+1)),(4,aw (q+2)),(5,.f (.func rp) [] [aw (q+1),aw (q+2)])] ⟨cm,bz,bY,cf,c9,trivial⟩ λg=>?_;have H:Has τ [(aE,my r F gs .nilsl .nilsl)]:=Has.nil.cons (bA _ _ U oS) ay;obtain⟨lD,KE⟩:=TV (r:=r) HV (j:=r.cg.length);refine af ?_;refine W.bS I I I (TL h1 hA U (λi hi=>by omega) r.eE F r.cg.length 0 (by rw[c5];omega) (by rw[c5];omega)) λv gD ⟨ar,hq,aB⟩=>⟨_,ar,?_⟩
   have uK:=aB.next;have qk:∀i o,i<q+1->bu.get i=some o->gD.get i=some o:=λi o hi ho=>aB.aD _ _ hi U U (bA _ _ hi ho);obtain⟨v,w,c1h,c1i,aq,hw,oY,hl⟩:=hq.ex;have H:Has gD [(q+1,[v]),(q+2,[w]),(aE,my r F gs .nilsl .nilsl),(q,[.i .u8 0,ag 0,ag 0])]:=(((Has.nil.cons (qk _ _ U fY) ay).cons (qk _ _ U oS) (by simp;omega)).cons c1i (by simp;omega)).cons c1h (by simp;omega);refine af ?_;refine W.et hfn wZ cl I I I ?_ ?_
   ·refine mT ?_ I;refine Sl.tK (m:=b.bh+999) aq (λe=>absurd (congrArg List.length e) ay) ?_;have:=vd (f:=bt gD (b.bh+999)) (g:=λx=>x) (l:=(o6 r F gs).map n9) (λy hy=>by
     obtain⟨Dz,HX,rfl⟩:=cT.1 hy;obtain⟨d1,d2⟩:=jo _ HX;have bL:∀F:Fm,F.dep<=200->mapO (bt gD (b.bh+998)) (br F)=some (br F):=λF hd=>by
      have:=Fm.snap gD true _ F (b.bh+999) (a8 _) U;rw[j4] at this;obtain⟨e5,aQ,aZ⟩:=CQ this;cases aZ;exact aQ
     exact oJ (rA (bL _ d1) (bL _ d2)))
    rwa[wJ] at this
   refine af ?_;refine W.b6 H I I I I λh9 dc H c_=>?_;refine af ?_;refine W.st (bc:=[cB,fE]) H 0 I I I I I I λg8 ne H j6=>?_;have TZ:∀i o,gD.get i=some o->g8.get i=some o:=λi o h=>j6 _ _ (by have:=ad.a9 h;omega) (c_ _ _ h);refine af ?_;by_cases he:e=0
   ·subst he;refine af ?_;refine W.st (bc:=my r F gs cB fE) H 3 I I I I I I λn7 hD H mv=>?_;refine af ?_;refine W.st H 4 I I I I I I λAQ Nb H pU=>?_;refine af ?_;refine ah.ret ⟨rfl,_,qC (gl I (H.Lq) I),?_,U,λi o hi ho=>pU _ _ (by have:=ad.a9 ho;omega) (mv _ _ hi (TZ _ _ (qk _ _ (by have:=ad.a9 ho;omega) (cG _ _ ho))))⟩;rw[if_pos I];exact⟨rfl,H.CX⟩
   ·have a2E:=gi he;have c1j:=hw.aD (τ:=g8) λi o _=>TZ i o;obtain⟨o,c,hZ,_,mq,lX,oK,fv⟩:=c1j.gb (j:=at_) (by rw[bB];exact a2E);rw[ez] at oK fv;refine af ?_;refine W.eg I I I I mq ?_;refine af ?_;refine W.sD lX I I I fv ?_;refine af ?_;refine W.st H 4 I I I I I I λAQ Nb H pU=>?_;refine af ?_;refine ah.ret ⟨rfl,_,qC (gl I (H.Lq) I),?_,U,λi o hi ho=>pU _ _ (by have:=ad.a9 ho;omega) (TZ _ _ (qk _ _ (by have:=ad.a9 ho;omega) (cG _ _ ho)))⟩;rw[if_neg he];refine⟨?_,H.CX⟩;rw[jA a2E];rfl
end
structure T0(b:bJ)(r:bw)(gs:List dC):Prop where
 P:∀J,bt J (b.bh+1000) (slA true (some 7) (r.cg.map fz.A))=some (slA true (some 7) (r.cg.map fz.A))
 p:∀p∈r.cg,∀J,bt J (b.bh+1000) p.A=some p.A
 G:∀J,bt J (b.bh+1000) (hB gs)=some (hB gs)
 g:∀g∈gs,∀J,bt J (b.bh+1000) g.A=some g.A
section
def c1k(hh:Np b K){r:bw}{F:Fm}{gs:List dC}{cB:AV}{J:ad}{aE:Nat}(al:J.get aE=some (.cells (my r F gs cB .nilsl)))(hn:T0 b r gs)(A4:AV.eqb (b.aF K).bh (.aj [cB,.nilsl]) (.aj [cB,.nilsl])=true)(j:Nat)(h1:j<r.cg.length)(h2:j<gs.length)(hl:r.cg.length<2^20/\gs.length<2^20)(bE:(r.cg[j]).closed=false):
  bb (b.aF K) 0 (.f (.func SB) [] []) [aw aE,ag j] J (λv τ=>(∃w x y tL rB,v= .ok w/\Sl τ none w [.f (.func wI) [] [aw x,aw y]]/\τ.get x=some (.cells [.f (.func u2) [] [aw tL,aw rB]])/\τ.get y=some (.cells [.i .u8 7])/\τ.get tL=some (.cells (r.cg[j]).cells))/\cM J τ):=by
 refine W.code hh.TN.e hh.TN.p hh.TN.f (by cbv) I I I λz=>?_;have a2D:=ad.a9 al;have H:Has J [(aE,my r F gs cB .nilsl)]:=Has.nil.cons al ay;refine af ?_;generalize aS:J.next=q;refine W.bN (c:=[aw aE]) H aS I I I I I λτ cy H bl=>?_;refine af ?_;refine W.b6 (c:=[.nilsl]) H cy I I I λa5 c6 H bj=>?_;refine af ?_;refine W.jK H I I I (.tail _ (.tail _ (.head _))) I (Snp.eqb _ _ hn.P) ?_;refine af ?_;refine W.pM (v:=(r.cg[j]).A) I I I (λs=>nZ _ _ I I) (Snp.eqb _ _ (hn.p _ (bC h1))) ?_;refine af ?_;refine W.jK H I I I (.tail _ (.tail _ (.head _))) I (Snp.eqb _ _ hn.G) ?_;refine af ?_;refine W.pM (v:=(gs[j]).A) I I I (λs=>nZ _ _ I I) (Snp.eqb _ _ (hn.g _ (bC h2))) ?_;refine af ?_;refine W.b6 (c:=[.nilsl,.i .u8 0,.s [],.nilsl,.nilsl,.s [],.b false]) H c6 I I I λbu dx H k3=>?_;refine af ?_;refine W.b6 (c:=[.i .u8 0,.s [],.nilsl,.nilsl,.nilsl,.nilsl]) H dx I I I λb3 eC H bI=>?_;refine af ?_;refine W.st (bc:=(r.cg[j]).cells) H 1 I I I I I I λcW gw H cP=>?_;refine af ?_;refine W.st (bc:=(gs[j]).A.cells) H 0 I I I I I I λdr h5 H dI=>?_;have cG:∀i o,J.get i=some o->dr.get i=some o:=λi o h=>dI _ _ (by have:=ad.a9 h;omega) (cP _ _ (by have:=ad.a9 h;omega) (bI _ _ (k3 _ _ (bj _ _ (bl _ _ h)))));refine af ?_;refine W.jK H I I I (.tail _ (.tail _ (.tail _ (.tail _ (.head _))))) I A4 ?_;refine af ?_;refine W.b6 (c:=[.b false,.s [],.nilsl]) H I I I I λeT j0 H fZ=>?_;refine af ?_;refine W.bS I I I (c0E hh.c0L) λv eV ⟨e,j5⟩=>⟨_,e,?_⟩
 have M6:=j5.1;have H:=H.aD j5.2;refine af ?_;refine W.st H 0 I I I I I I λhv oE H hH=>?_;have A5:∀i o,J.get i=some o->hv.get i=some o:=λi o h=>hH _ _ (by have:=ad.a9 h;omega) (j5.2 _ _ (fZ _ _ (cG _ _ h)));refine af ?_;refine W.bS I I I (c0F hh.c0I (k:=q+2) I (H.CX)) λv fu ⟨e,mr,⟨x,y,w,c1l,hw,hx,hy,pS,T1,T2⟩,ca⟩=>⟨_,e,?_⟩
 have H:Has fu [(q+1,[w]),(q+2,(r.cg[j]).cells)]:=(Has.nil.cons (ca _ _ U (H.Ag)) ay).cons c1l ay;refine af ?_;exact ah.ret ⟨rfl,⟨w,x,y,q+2,q+3,rfl,hw,T1,T2,H.x7⟩,U,λi o h=>ca _ _ (by have:=ad.a9 h;omega) (A5 _ _ h)⟩
def c1m(hn:a3 (b.aF K) yl LX)(hh:Np b K){r:bw}{F:Fm}{gs:List dC}{cB:AV}{J:ad}{aE:Nat}(al:J.get aE=some (.cells (my r F gs cB .nilsl)))(ct:T0 b r gs)(A4:AV.eqb (b.aF K).bh (.aj [cB,.nilsl]) (.aj [cB,.nilsl])=true)(hl:r.cg.length<2^20)(lG:gs.length=r.cg.length)(bE:∀p∈r.cg,p.closed=false):
  bb (b.aF K) 0 (.f (.func yl) [aw aE] []) [] J (λv τ=>v= .ok (sK 0 0 0)/\cM J τ):=by
 refine W.m3 hn.e hn.p hn.f (by cbv) I I λz=>?_;have a2D:=ad.a9 al;have H:Has J [(aE,my r F gs cB .nilsl)]:=Has.nil.cons al ay;refine af ?_;generalize aS:J.next=q;refine W.b6 (c:=[.i .u8 0,ag 0,ag 0]) H aS I I I λτ cy H bl=>?_;refine af ?_;show bo _ _ _ _ _ _ _ _;refine ah.each r.cg.length (λj f ax=>cM τ ax/\sat [(0,aw aE),(2,aw q)] f) U ⟨⟨a8 _,λ_ _ h=>h⟩,dm⟩ I I (λj g ax aA aL hi hm=>?_) (λg ax aL hi=>?_)
 ·obtain⟨M,cm,bz,_⟩:=aL;refine ah.norm [(0,aw aE),(2,aw q),(15,ag j),(14,ag r.cg.length)] ⟨cm,bz,hi,hm,trivial⟩ λg=>?_;have H:=H.aD M.2;refine af ?_;refine W.bS I I I (c1k hh (M.2 _ _ (bl _ _ al)) ct A4 j aA U U (bE _ (bC aA))) λv a5 ⟨⟨w,x,y,tL,rB,e,hw,T1,T2,fN⟩,M2⟩=>⟨_,e,?_⟩
  have ey:cM τ a5:=⟨by have:=M.1;have:=M2.1;omega,λi o h=>M2.2 _ _ (M.2 _ _ h)⟩
  have T3:=hw.vw;have lB:[AV.f (.func wI) [] [aw x,aw y]].length=1:=rfl;refine af ?_;show bo _ _ _ _ _ _ _ _;refine ah.each 1 (λt f ax=>cM a5 ax/\sat [(0,aw aE),(2,aw q),(15,ag j),(14,ag r.cg.length),(20,w)] f) U ⟨⟨a8 _,λ_ _ h=>h⟩,dm⟩ I I (λt g ax ht aL hi hm=>?_) (λg ax aL hi=>?_)
  ·obtain⟨M,cm,bz,o5,m7,qE,_⟩:=aL;refine ah.norm [(0,aw aE),(2,aw q),(15,ag j),(14,ag r.cg.length),(20,w),(22,ag t),(21,ag 1)] ⟨cm,bz,o5,m7,qE,hi,hm,trivial⟩ λg=>?_;have H:Has ax []:=Has.nil;have T3:=(hw.aD (τ:=ax) λi o _=>M.2 i o).vw;obtain rfl:t=0:=by omega
   refine af ?_;refine W.bS I I I (c0H hh.c0J hh.c0K (bE _ (bC aA)) (M.2 _ _ fN) (M.2 _ _ T1) (M.2 _ _ T2)) λv bu ⟨e,eS⟩=>⟨_,e,?_⟩
   refine af ?_;exact⟨rfl,rfl,⟨by have:=M.1;have:=eS.1;omega,λi o h=>eS.2 _ _ (M.2 _ _ h)⟩,dm⟩
  ·obtain⟨M,cm,bz,o5,m7,_⟩:=aL;exact⟨o5,m7,⟨by have:=M.1;have:=ey.1;omega,λi o h=>M.2 _ _ (ey.2 _ _ h)⟩,cm,bz,trivial⟩
 ·obtain⟨M,cm,bz,_⟩:=aL;show bo _ _ _ _ _ _ _ _;refine ah.norm [(2,aw q)] ⟨bz,trivial⟩ λg=>?_;have H:Has ax [(q,[.i .u8 0,ag 0,ag 0])]:=Has.nil.cons (M.2 _ _ (H.qx)) ay;refine af ?_;refine W.st H 0 I I I I I I λbu dx H k3=>?_;refine af ?_;exact ah.ret ⟨rfl,_,qC (gl I (H.qx) I),rfl,by have:=M.1;omega,λi o h=>k3 _ _ (by have:=ad.a9 h;omega) (M.2 _ _ (bl _ _ h))⟩
end
end
end Go.Lyc
end
