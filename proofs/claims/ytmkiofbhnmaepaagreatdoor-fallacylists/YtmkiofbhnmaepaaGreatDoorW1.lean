/-
  What functions of the program compute: walks, part 1. No conditions: definitions and laws.
-/
import Derived.Test.YtmkiofbhnmaepaaGreatDoorNames
set_option linter.all false
noncomputable section
namespace Go.Lyc
def xe:=@List.drop_eq_getElem_cons
def u1:=@Nat.or_lt_two_pow
def Hf:=@Nat.pow_lt_pow_right
def CE:=@Bool.false_and
def CF:=@List.drop_of_length_le
def Hg:=@Bool.or_false
def Yi:=@List.flatMap_append
def Hh:=@Nat.lt_succ_iff_lt_or_eq
def Yj:=@List.getD_cons_succ
def lU:=@Bool.and_false
def zw:=@Bool.or_assoc
def gx:=@List.take_succ_eq_append_getElem
def Yk:=@List.length_eq_zero_iff
def kH:=@List.all_eq_false
def my:=@List.all_append
def fv:=@List.take_of_length_le
def MK:=@List.foldl_append
def oi:=@List.take_zero
def rQ:=@List.any_append
def ta:=@List.any_cons
def Yl:=@Int.fdiv_eq_ediv_of_nonneg
def Ym:=@BitVec.getLsbD_ofNat
def Hi:=@Nat.zero_testBit
def ML:=@Nat.eq_of_testBit_eq
def CG:=@Nat.testBit_and
def MM:=@Nat.testBit_lt_two_pow
def MN:=@Nat.pow_le_pow_right
def CH:=@List.map_eq_nil_iff
def CI:=@Iff.rfl
set_option maxHeartbeats 0
set_option maxRecDepth 100000
section
variable [Tok][TokOk]
open Go.RowKit Go.Lyc.T
structure iG(W:Nat→Prop)(o ah:ad):Prop where
 next:o.next≤ah.next
 ee:∀i I,¬W i→o.get i=some I→ah.get i=some I
theorem iG.refl{W:Nat→Prop}{o:ad}:iG W o o:=⟨bK _,fun _ _ _ h=>h⟩
theorem iG.trans{W:Nat→Prop}{o bk b7:ad}(h:iG W o bk)(h':iG W bk b7):iG W o b7:=⟨jk h.next h'.next,fun i I hi aj=>h'.ee i I hi (h.ee i I hi aj)⟩
theorem iG.of{W:Nat→Prop}{o bk:ad}(hn:o.next≤bk.next)(h:∀i I,o.get i=some I→bk.get i=some I):iG W o bk:=⟨hn,fun i I _ aj=>h i I aj⟩
structure dt(env:Env)(g:Nat)(cA:bV):Prop where
 f:env.funcs g=some cA
 e:env.ext g=0
 p:env.pure g=false
theorem Yn{env:Env}(av:dt env y4 Cv)(I:Bool){W:Nat→Prop}{B:Nat}(hW:∀i,W i→i<B)(eL:List Fm→ad→Prop)(bo:∀l o ah,eL l o→o.next≤ah.next→(∀i I,o.get i=some I→ah.get i=some I)→eL l ah)(n4:AV)
  (aJ:∀f rest o,f.kF→B≤o.next→eL (f::rest) o→cy env 0 n4 [f.A I] o (fun r ah=>r= .ok (.b true)∧eL rest ah∧iG W o ah)):
  ∀(d:Nat) (f:Fm) (rest:List Fm) (o:ad),f.dep≤d→f.kF→B≤o.next→eL (f.parts++rest) o→cy env 0 (.f (.func y4) [] []) [f.A I,n4] o (fun r ah=>r= .ok (.b true)∧eL rest ah∧iG W o ah)
 |0,f,_,_,h,_,_,_=>by rw[Fm.fO] at h;omega
 |d+1,F,rest,b_,an,eT,fc,h0=>by
  refine cy.code av.e av.p av.f rfl rfl rfl rfl ?_;generalize ax:b_.next=k at fc;refine U.seq (U.region (aA.box (v:=F.A I) (c:=F.cells I) k ax rfl rfl rfl rfl rfl fun o hn h1 cc=>?_));have tb:=bo _ _ _ h0 (by omega) cc;have ih:iG W b_ o:=.of (by omega) cc;have tc:¬W k:=fun h=>by have:=hW _ h;omega
  rw[Fm.parts_eq] at tb;refine bD ?_;refine U.seq (U.seq (U.region ?_));refine bD ?_;refine aA.a1 h1 rfl rfl rfl (Fm.a1 I F) ?_;refine aA.j_ rfl rfl rfl (aJ F _ o eT (by omega) tb) fun r ai ⟨aE,Hj,mz⟩=>⟨_,aE,?_⟩
  replace h1:=mz.ee _ _ tc h1;have lM:=mz.next;refine bD ?_;refine U.eE rfl (fun h=>by cases h) (fun _=>?_);refine U.skip ?_;refine U.seq (U.seq (U.region ?_));refine bD ?_;refine aA.a1 h1 rfl rfl rfl (Fm.Mh I F) ?_;refine aA.len rfl rfl rfl gD ?_;refine bD ?_;refine U.block ?_;refine U.loop (fun m f ah=>k+1≤ah.next∧iG W b_ ah∧∃i,i+m=F.sub.length∧eL (Fm.dW (F.sub.drop i)++rest) ah∧
   sat [(1,n4),(12,dk I F.ea),(13,aC F.sub.length),(14,aC i)] f) ?_ F.sub.length ⟨by omega,ih.trans mz,0,by omega,by rw[tU];exact Hj,rfl,rfl,rfl,rfl,trivial⟩
  clear h1 tb Hj ih mz hn lM cc;intro m g o ⟨hn,ih,i,hi,tb,hL⟩;refine U.norm _ hL fun g=>?_;clear hL;refine ew ?_;refine U.eE rfl (fun ht=>?_) (fun hf=>?_)
  ·have bu:i<F.sub.length:=of_decide_eq_true ht;have d9W:=eT.pb;rw[xe bu,Fm.dW,kn] at tb;generalize hg:F.sub[i]=G at tb;have CJ:G∈F.sub:=by rw[←hg];exact cB bu
   refine U.skip (U.seq (U.block (U.seq (U.region ?_))));refine aA.idx (v:=.cG I (G.A I)) rfl rfl rfl rfl (by rw[←hg];exact wW bu) ?_;refine aA.eV rfl rfl rfl (Fm.conf I G) ?_;refine aA.var (v:=G.A I) (c:=G.cells I) o.next rfl rfl rfl rfl (Fm.conf I G) rfl (Fm.len I G) fun ai lM aN cJ=>?_;have mz:=ih.trans (.of (W:=W) (by omega) cJ);have Hj:=bo _ _ _ tb (by omega) cJ;refine aA.nil (U.seq (U.region ?_));refine aA.a1 aN rfl rfl rfl (Fm.a1 I G) ?_;refine bD ?_;refine aA.j_ rfl rfl rfl (Yn av I hW eL bo n4 aJ d G _ ai (by have:=Fm.iF CJ;omega) (eT.ml G CJ) (by omega) Hj) fun r eg ⟨aE,MO,iH⟩=>⟨_,aE,?_⟩
   have rj:=iH.next;refine bD ?_;refine U.eE rfl (fun h=>by cases h) (fun _=>?_);refine U.skip ?_;refine U.region ?_;refine aA.bin (a:=aC i) (b:=aC 1) rfl rfl rfl rfl (mv (by omega)) ?_;refine bD ?_;exact⟨m-1,by omega,by omega,mz.trans iH,i+1,by omega,MO,rfl,rfl,rfl,rfl,trivial⟩
  ·have jd:¬i<F.sub.length:=of_decide_eq_false hf;obtain rfl:i=F.sub.length:=by omega
   rw[List.drop_length] at tb;refine U.exit ?_;refine ew ?_;exact U.ret ⟨rfl,rfl,tb,ih⟩
theorem c5H{env:Env}(av:dt env y4 Cv)(hw:dt env w7 GI)(I:Bool){W:Nat→Prop}{B:Nat}(hW:∀i,W i→i<B)(eL:List Fm→ad→Prop)(bo:∀l o ah,eL l o→o.next≤ah.next→(∀i I,o.get i=some I→ah.get i=some I)→eL l ah)(n4:AV)
  (aJ:∀f rest o,f.kF→B≤o.next→eL (f::rest) o→cy env 0 n4 [f.A I] o (fun r ah=>r= .ok (.b true)∧eL rest ah∧iG W o ah)) (F:Fm) (eT:F.kF) (rest:List Fm) (o:ad) (dr:Nat) (oj:o.get dr=some (.cells (F.cells I))) (fc:B≤o.next) (h0:eL (F.parts++rest) o):
  cy env 0 (.f (.func w7) [] [.p (some (dr,0))]) [n4] o (fun r ah=>r= .ok (.aK [])∧eL rest ah∧iG W o ah):=by
 refine cy.uz hw.e hw.p hw.f rfl rfl rfl ?_;refine U.region ?_;refine aA.a1 oj rfl rfl rfl (Fm.a1 I F) ?_;refine bD ?_;refine aA.j_ rfl rfl rfl (Yn av I hW eL bo n4 aJ _ F rest o (bK _) eT fc h0) fun r ai ⟨aE,h1,h2⟩=>⟨_,aE,?_⟩
 refine bD ?_;exact⟨.inr rfl,rfl,h1,h2⟩
theorem c5I{env:Env}(hw:dt env G4 MA)(I:Bool)(F:Fm)(o:ad)(k:Nat)(ax:o.next=k):cy env 0 (.f (.func G4) [] []) [F.A I] o (fun r ah=>r= .ok (.f (.func w7) [] [.p (some (k,0))])∧ah.next=k+1∧ah.get k=some (.cells (F.cells I))∧∀i I,o.get i=some I→ah.get i=some I):=by
 refine cy.code hw.e hw.p hw.f rfl rfl rfl rfl ?_;refine U.seq (U.region (aA.box (v:=F.A I) (c:=F.cells I) k ax rfl rfl rfl rfl rfl fun ai hn h1 cc=>?_));refine ew ?_;exact U.ret ⟨rfl,rfl,hn,h1,cc⟩
theorem fG.walk{env:Env}{D:List (Nat ⊕ (AV×List AV))}{n:Nat}{f:Nat→AV}{o:ad}{Q:fo}(av:dt env y4 Cv)(hw:dt env w7 GI)(I:Bool){mw:az}{p:Nat}{eX b:bc}{dr:Nat}{F:Fm}(W:Nat→Prop)(S:List Fm→ad→Prop)(k:Nat)(ax:o.next=k)
  (lp:dV env n f mw=some (.f (.func w7) [] [.p (some (dr,0))])) (hp:Nat.blt p n=true) (eT:F.kF) (oj:o.get dr=some (.cells (F.cells I))) (hW:∀i,W i→i<k) (cE:∀l o ah,S l o→(∀i I,W i→o.get i=some I→ah.get i=some I)→S l ah) (h0:S F.parts o)
  (CK:∀G rest ai,G.kF→k+2≤ai.next→S (G::rest) ai→ck env (some (k+1)) [] n eX (c7 f p (G.A I)) ai (fun x f1 c2=>x= .normal∧iG W ai c2∧
   ∀cL,cL.next=c2.next→(∀i I,i≠k+1→c2.get i=some I→cL.get i=some I)→ck env (some (k+1)) [] n b f1 cL (fun x _ b8=>x= .normal∧S rest b8∧iG W cL b8)))
  (CL:∀ai,S [] ai→k+2≤ai.next→ai.get k=some .cT→(∀i I,¬W i→o.get i=some I→ai.get i=some I)→Q .normal f ai):fG env D (.inl k::D) n (.rangeFunc mw [p] eX b) f o Q:=by
 subst ax;refine fG.range lp hw.e fun al eB=>?_;generalize ax:o.next=k at *;have tc:∀i,W i→i<k:=hW;have o6:((o.push .cT).push (.loop .ready none al [p] eX b k)).get (k+1)=some (.loop .ready none al [p] eX b k):=by
  have:=ad.jH (o:=o.push .cT) (.loop .ready none al [p] eX b k);rwa[show(o.push .cT).next=k+1 from by show o.next+1=_;rw[ax]] at this
 have n9:∀i I,o.get i=some I→((o.push .cT).push (.loop .ready none al [p] eX b k)).get i=some I:=fun i I aj=>by
  have:=ad.ei aj;rw[ad.fZ trivial _ (show i<(o.push .cT).next from by show i<o.next+1;omega),ad.fZ trivial _ this];exact aj
 have MP:((o.push .cT).push (.loop .ready none al [p] eX b k)).get k=some .cT:=by
  rw[ad.fZ trivial _ (show k<(o.push .cT).next from by show k<o.next+1;omega)];have:=ad.jH (o:=o) .cT;rwa[ax] at this
 have iD:((o.push .cT).push (.loop .ready none al [p] eX b k)).next=k+2:=by show o.next+1+1=_;rw[ax]
 generalize(o.push .cT).push (.loop .ready none al [p] eX b k)=b7 at *;refine(c5H av hw I (W:=fun i=>W i∨i=k+1) (B:=k+2) (fun i hi=>by rcases hi with hi|hi;have:=tc i hi;omega;omega)
  (fun l ai=>S l ai∧ai.get (k+1)=some (.loop .ready none al [p] eX b k)∧k+2≤ai.next∧ai.get k=some .cT∧∀i I,¬W i→o.get i=some I→ai.get i=some I)
  (fun l ai eg ⟨a6,a2,a3,a4,a5⟩ dA dQ=>⟨cE _ _ _ a6 fun i I _ aj=>dQ i I aj,dQ _ _ a2,by omega,dQ _ _ a4,fun i I hi aj=>dQ _ _ (a5 i I hi aj)⟩) (.f (.yield (k+1)) [] []) ?_ F eT [] b7 dr (n9 _ _ oj) (by omega) ?_).mono ?_
 ·intro G rest ai eS fc ⟨a6,a2,a3,a4,a5⟩;refine(cy.round (aq:=fun ah=>(S rest ah∧ah.get (k+1)=some (.loop .ready none al [p] eX b k)∧k+2≤ah.next∧ah.get k=some .cT∧∀i I,¬W i→o.get i=some I→ah.get i=some I)∧iG (fun i=>W i∨i=k+1) ai ah) (f:=f) (n:=n) a2 eB (by show cond (Nat.blt p n) _ _=true;rw[hp];rfl) rfl ?_).mono fun r ah h=>h;refine(CK G rest ai eS a3 a6).mono fun x f1 c2 ⟨aE,ih,h1⟩=>?_;have Hk:¬W (k+1):=fun h=>by have:=tc _ h;omega
  have hF:=ih.ee _ _ Hk a2;have hd:=kr (bE:=.loop .busy none al [p] eX b k) hF;refine⟨aE,hF,(h1 (c2.set (k+1) (.loop .busy none al [p] eX b k)) rfl (fun i I hi aj=>hd.2 i I hi aj)).mono fun x _ b8 ⟨aY,kb,iH⟩=>?_⟩;have rR:=iH.ee _ _ Hk hd.1;have nC:=kr (bE:=.loop .ready none al [p] eX b k) rR;have ek:=ih.next;have ju:c2.next≤b8.next:=iH.next;have re:∀i I,¬W i→i≠k+1→ai.get i=some I→(b8.set (k+1) (.loop .ready none al [p] eX b k)).get i=some I:=fun i I hi bS aj=>nC.2 i I bS (iH.ee i I hi (hd.2 i I bS (ih.ee i I hi aj)));refine⟨aY,rR,⟨cE _ _ _ kb fun i I hi aj=>nC.2 i I (by have:=tc i hi;omega) aj,nC.1,by show k+2≤b8.next;omega,re k _ (fun h=>by have:=tc _ h;omega) (by omega) a4,fun i I hi aj=>re i I hi (by have:=ad.ei aj;omega) (a5 i I hi aj)⟩,⟨by show ai.next≤b8.next;omega,fun i I hi aj=>re i I (fun h=>hi (.inl h)) (fun h=>hi (.inr h)) aj⟩⟩
 ·rw[jv];exact⟨cE _ _ _ h0 fun i I _ aj=>n9 i I aj,o6,by omega,MP,fun i I _ aj=>n9 i I aj⟩
 ·rintro r ai ⟨aE,⟨a6,a2,a3,a4,a5⟩,_⟩;have hd:=kr (bE:=.loop .exhausted none al [p] eX b k) a2;exact⟨_,.ready,aE,a2,by simp,CL _ (cE _ _ _ a6 fun i I hi aj=>hd.2 i I (by have:=tc i hi;omega) aj) a3 (hd.2 _ _ (by omega) a4) fun i I hi aj=>hd.2 i I (by have:=ad.ei aj;omega) (a5 i I hi aj)⟩
theorem wrap32{n:Nat}(h:n<2^32):IntKind.wrap .u32 (n:Int)=(n:Int):=by
 have h:(n:Int)<4294967296:=by omega
 simp only[IntKind.wrap,IntKind.bits,IntKind.signed];simp;omega
theorem ofInt32(n:Nat)(h:n<2^32):(BitVec.ofInt IntKind.u32.bits (Int.ofNat n)).toNat=n:=by
 simp[IntKind.bits];omega
theorem u2{a b:Nat}(ha:a<2^32)(hb:b<2^32):binop .or (.i .u32 (Int.ofNat a)) (.i .u32 (Int.ofNat b))=some (.i .u32 (Int.ofNat (a ||| b))):=by
 have h:(BitVec.ofInt IntKind.u32.bits (Int.ofNat a) ||| BitVec.ofInt IntKind.u32.bits (Int.ofNat b)).toNat=a ||| b:=by
  rw[BitVec.toNat_or,ofInt32 a ha,ofInt32 b hb]
 show some (AV.i .u32 (IntKind.wrap .u32 ((BitVec.ofInt IntKind.u32.bits (Int.ofNat a) ||| BitVec.ofInt IntKind.u32.bits (Int.ofNat b)).toNat:Int)))=_;rw[h,wrap32 (u1 ha hb)];rfl
theorem Yo{k:IntKind}{a:Nat}(h:a<32):binop .shl (.i .u32 (Int.ofNat 1)) (.i k (Int.ofNat a))=some (.i .u32 (Int.ofNat (2^a))):=by
 show(if(Int.ofNat a)<0 then none else some (AV.i .u32 (IntKind.wrap .u32 (Int.ofNat 1*2^(min (Int.ofNat a).toNat IntKind.u32.bits)))))=_;rw[if_neg (by simp)];have e:min (Int.ofNat a).toNat IntKind.u32.bits=a:=by show min a 32=a;omega
 rw[e];have:(Int.ofNat 1*2^a:Int)=((2^a:Nat):Int):=by show(1:Int)*_=_;rw[Int.one_mul];simp
 rw[this,wrap32 (Hf (by omega) h)];rfl
def kI(f:Fm):Nat:=if f.op<32 then 2^f.op else 0
def opsL(l:List Fm)(m:Nat):Nat:=l.foldl (fun m f=>m ||| kI f) m
def gU(f:Fm):Nat:=opsL f.parts 0
theorem Yp(f:Fm):kI f<2^32:=by
 unfold kI;split
 ·exact Hf (by omega) ‹_›
 ·exact Nat.two_pow_pos _
theorem Yq:∀ {l:List Fm} {m:Nat},m<2^32→opsL l m<2^32
 |[],_,h=>h
 |f::l,m,h=>by
  show opsL l (m ||| kI f)<_;exact Yq (u1 h (Yp f))
theorem c5J{b:cv}{K:Nat→List AV→AV→Prop}(av:dt (b.bj K) y4 Cv)(tS:dt (b.bj K) w7 GI)(hw:dt (b.bj K) G4 MA)(F:Fm)(eT:F.kF)(body:bc)(hb:XT.body=some body):
  fG (b.bj K) [] [.inl 3] 17 body (c4 [F.A true]) ⟨.nil,0⟩ (fun x f ah=>x= .ret∧ah.get 3=some .cT∧freeze (ah.set 3 .dead) 0 1000 (f 2)=some (.i .u32 (Int.ofNat (gU F)))):=by
 cases hb;refine fG.hH (U.region (aA.box (v:=F.A true) (c:=F.cells true) 0 rfl rfl rfl rfl rfl rfl fun bk kC h1 _=>?_));refine bD ?_;refine⟨rfl,fG.hH (U.region (aA.alloc 1 kC rfl rfl rfl fun b7 lM h2 cJ=>?_))⟩;replace h1:=cJ _ _ h1;refine bD ?_;refine⟨rfl,fG.Xu (fG.hH (U.region ?_))⟩;refine aA.a1 h1 rfl rfl rfl (Fm.a1 true F) ?_;refine aA.j_ rfl rfl rfl (c5I hw true F b7 2 lM) fun r o ⟨aE,hn,h3,bx⟩=>⟨_,aE,?_⟩
 replace h1:=bx _ _ h1;replace h2:=bx _ _ h2;refine bD ?_;refine⟨rfl,fG.block ?_⟩;refine fG.walk av tS true (fun i=>i=1) (fun l ai=>∃m,m<2^32∧opsL l m=gU F∧ai.get 1=some (.cells [.i .u32 (Int.ofNat m)])) 3 hn rfl rfl eT h3 (fun i hi=>by omega) (fun l ai eg ⟨m,a6,a2,a3⟩ ax=>⟨m,a6,a2,ax _ _ rfl a3⟩) ⟨0,Nat.two_pow_pos _,rfl,h2⟩ ?_ ?_
 ·intro G rest ai eS MQ ⟨m,a6,a2,a3⟩;refine U.region ?_;refine aA.var (v:=G.A true) (c:=G.cells true) ai.next rfl rfl rfl rfl (Fm.conf true G) rfl (Fm.len true G) fun c2 Vv aN fM=>?_;refine aA.nil ⟨rfl,.of (by omega) fM,fun cL Ld h_=>?_⟩;replace aN:=h_ _ _ (by omega) aN;replace a3:=h_ _ _ (by omega) (fM _ _ a3);refine U.block (U.seq (U.region ?_));refine bD ?_;refine aA.a1 aN rfl rfl rfl (Fm.Ci true G) ?_;refine bD ?_;refine U.eE rfl (fun h=>?_) (fun h=>?_)
  ·have fm:G.op<32:=of_decide_eq_true h;have MR:kI G=2^G.op:=by unfold kI;rw[if_pos fm]
   refine U.region ?_;refine Xx ?_;refine aA.a1 aN rfl rfl rfl (Fm.Ci true G) ?_;refine aA.bin (a:=.i .u32 (Int.ofNat 1)) (b:=.i .u8 (Int.ofNat G.op)) rfl rfl rfl rfl (Yo fm) ?_;refine aA.bin (a:=.i .u32 (Int.ofNat m)) (b:=.i .u32 (Int.ofNat (2^G.op))) rfl rfl rfl rfl (u2 a6 (Hf (by omega) fm)) ?_;refine aA.store (bR:=[.i .u32 (Int.ofNat (m ||| 2^G.op))]) a3 rfl rfl rfl rfl rfl fun b8 Vw de o9=>?_;exact aA.nil ⟨rfl,⟨_,u1 a6 (Hf (by omega) fm),by rw[←a2,← MR];rfl,de⟩,⟨by omega,fun i I hi aj=>o9 i I hi aj⟩⟩
  ·have fm:¬G.op<32:=of_decide_eq_false h;have MR:kI G=0:=by unfold kI;rw[if_neg fm]
   exact U.skip ⟨rfl,⟨m,a6,by rw[←a2];show opsL rest m=opsL rest (m ||| kI G);rw[MR,Nat.or_zero],a3⟩,.refl⟩
 ·intro ai ⟨m,a6,a2,a3⟩ MQ an _;refine⟨rfl,rfl,?_⟩;refine U.seq (U.region ?_);refine Xx ?_;refine U.ret ⟨rfl,an,?_⟩;show some (AV.i .u32 (Int.ofNat m))=_;rw[←a2];rfl
theorem lV{p:Prop}[Decidable p](h:p):some (AV.b (decide p))=some (AV.b true):=by rw[decide_eq_true h]
theorem lW{p:Prop}[Decidable p](h:¬p):some (AV.b (decide p))=some (AV.b false):=by rw[decide_eq_false h]
def isSmall(c:Nat):Bool:=decide (97≤c)&&decide (c≤122)
def om(c:Nat):Bool:=decide (65≤c)&&decide (c≤90)
def mA(c:Nat):Bool:=decide (48≤c)&&decide (c≤57)
def m4(c:Nat):Bool:=isSmall c||(om c||mA c)
def td(c:Nat):Bool:=decide (117≤c)&&decide (c≤122)
def te(c:Nat):Bool:=decide (97≤c)&&decide (c≤116)
abbrev b5(c:Nat):AV:=.i .u8 (Int.ofNat c)
def iY(l:List Nat):Bool:=eqL l [97,108,108]||(eqL l [115,111,109,101]||(eqL l [102,97,108,115,101]||(eqL l [110,101,120,116]||(eqL l [97,108,119,97,121,115]||eqL l [117,110,116,105,108]))))
def nameB(first other:Nat→Bool):List Nat→Bool
 |[]=>false
 |c::l=>decide (l.length+1≤16)&&(!iY (c::l)&&(first c&&l.all other))
def gE(l:List Nat):Bool:=nameB om m4 l
def isVar(l:List Nat):Bool:=nameB td mA l
def isFun(l:List Nat):Bool:=nameB te m4 l
def Yr(p:List Nat→Bool):List Nat→Bool
 |[]=>false
 |c::l=>decide (l.length+1≤16)&&(decide (c=63)&&p l)
def kt(l:List Nat):Bool:=Yr gE l
def hv(l:List Nat):Bool:=Yr isFun l
section
variable {b:cv}{K:Nat→List AV→AV→Prop}(hf:∀g aO r cj,K g aO r→K g aO cj→r=cj)
abbrev mB(d:Nat)(r:AV):fo:=fun x f ah=>x= .ret∧freeze ah 0 1000 (f d)=some r
theorem c5K(c:Nat)(body:bc)(hb:Yb.body=some body):U (b.bj K) 9 body (c4 [b5 c]) ⟨.nil,0⟩ (mB 2 (.b (isSmall c))):=by
 cases hb;refine U.seq (U.region ?_);refine aA.go rfl rfl rfl rfl ?_;refine aA.nil (U.seq (U.region ?_));refine aA.go rfl rfl rfl rfl ?_;by_cases h1:97≤c
 ·refine aA.bin (a:=b5 c) (b:=b5 97) (v:=.b true) rfl rfl rfl rfl (fa (lV h1)) ?_;refine ew ?_;refine U.ret ⟨rfl,?_⟩;show some (AV.b (decide (c≤122)))=some (AV.b (isSmall c));unfold isSmall;rw[decide_eq_true h1];rfl
 ·refine aA.bin (a:=b5 c) (b:=b5 97) (v:=.b false) rfl rfl rfl rfl (fa (lW h1)) ?_;refine ew ?_;refine U.ret ⟨rfl,?_⟩;show some (AV.b false)=some (AV.b (isSmall c));unfold isSmall;rw[decide_eq_false h1];rfl
theorem c5L(c:Nat)(body:bc)(hb:X4.body=some body):U (b.bj K) 9 body (c4 [b5 c]) ⟨.nil,0⟩ (mB 2 (.b (om c))):=by
 cases hb;refine U.seq (U.region ?_);refine aA.go rfl rfl rfl rfl ?_;refine aA.nil (U.seq (U.region ?_));refine aA.go rfl rfl rfl rfl ?_;by_cases h1:65≤c
 ·refine aA.bin (a:=b5 c) (b:=b5 65) (v:=.b true) rfl rfl rfl rfl (fa (lV h1)) ?_;refine ew ?_;refine U.ret ⟨rfl,?_⟩;show some (AV.b (decide (c≤90)))=some (AV.b (om c));unfold om;rw[decide_eq_true h1];rfl
 ·refine aA.bin (a:=b5 c) (b:=b5 65) (v:=.b false) rfl rfl rfl rfl (fa (lW h1)) ?_;refine ew ?_;refine U.ret ⟨rfl,?_⟩;show some (AV.b false)=some (AV.b (om c));unfold om;rw[decide_eq_false h1];rfl
theorem c5M(c:Nat)(body:bc)(hb:Yc.body=some body):U (b.bj K) 9 body (c4 [b5 c]) ⟨.nil,0⟩ (mB 2 (.b (mA c))):=by
 cases hb;refine U.seq (U.region ?_);refine aA.go rfl rfl rfl rfl ?_;refine aA.nil (U.seq (U.region ?_));refine aA.go rfl rfl rfl rfl ?_;by_cases h1:48≤c
 ·refine aA.bin (a:=b5 c) (b:=b5 48) (v:=.b true) rfl rfl rfl rfl (fa (lV h1)) ?_;refine ew ?_;refine U.ret ⟨rfl,?_⟩;show some (AV.b (decide (c≤57)))=some (AV.b (mA c));unfold mA;rw[decide_eq_true h1];rfl
 ·refine aA.bin (a:=b5 c) (b:=b5 48) (v:=.b false) rfl rfl rfl rfl (fa (lW h1)) ?_;refine ew ?_;refine U.ret ⟨rfl,?_⟩;show some (AV.b false)=some (AV.b (mA c));unfold mA;rw[decide_eq_false h1];rfl
theorem c5N(c:Nat)(body:bc)(hb:Yd.body=some body):U (b.bj K) 9 body (c4 [b5 c]) ⟨.nil,0⟩ (mB 2 (.b (td c))):=by
 cases hb;refine U.seq (U.region ?_);refine aA.go rfl rfl rfl rfl ?_;refine aA.nil (U.seq (U.region ?_));refine aA.go rfl rfl rfl rfl ?_;by_cases h1:117≤c
 ·refine aA.bin (a:=b5 c) (b:=b5 117) (v:=.b true) rfl rfl rfl rfl (fa (lV h1)) ?_;refine ew ?_;refine U.ret ⟨rfl,?_⟩;show some (AV.b (decide (c≤122)))=some (AV.b (td c));unfold td;rw[decide_eq_true h1];rfl
 ·refine aA.bin (a:=b5 c) (b:=b5 117) (v:=.b false) rfl rfl rfl rfl (fa (lW h1)) ?_;refine ew ?_;refine U.ret ⟨rfl,?_⟩;show some (AV.b false)=some (AV.b (td c));unfold td;rw[decide_eq_false h1];rfl
theorem c5O(c:Nat)(body:bc)(hb:X9.body=some body):U (b.bj K) 9 body (c4 [b5 c]) ⟨.nil,0⟩ (mB 2 (.b (te c))):=by
 cases hb;refine U.seq (U.region ?_);refine aA.go rfl rfl rfl rfl ?_;refine aA.nil (U.seq (U.region ?_));refine aA.go rfl rfl rfl rfl ?_;by_cases h1:97≤c
 ·refine aA.bin (a:=b5 c) (b:=b5 97) (v:=.b true) rfl rfl rfl rfl (fa (lV h1)) ?_;refine ew ?_;refine U.ret ⟨rfl,?_⟩;show some (AV.b (decide (c≤116)))=some (AV.b (te c));unfold te;rw[decide_eq_true h1];rfl
 ·refine aA.bin (a:=b5 c) (b:=b5 97) (v:=.b false) rfl rfl rfl rfl (fa (lW h1)) ?_;refine ew ?_;refine U.ret ⟨rfl,?_⟩;show some (AV.b false)=some (AV.b (te c));unfold te;rw[decide_eq_false h1];rfl
include hf in
theorem c5P(hs:∀c,K xa [b5 c] (.b (isSmall c)))(ab:∀c,K qx [b5 c] (.b (om c)))(an:∀c,K qy [b5 c] (.b (mA c)))(es:b.ext xa=0∧b.pure xa=true)(Fj:b.ext qx=0∧b.pure qx=true)(Ys:b.ext qy=0∧b.pure qy=true)
  (c:Nat) (body:bc) (hb:X5.body=some body):U (b.bj K) 13 body (c4 [b5 c]) ⟨.nil,0⟩ (mB 2 (.b (m4 c))):=by
 cases hb;refine ew ?_;refine aA.known hf es.1 es.2 (hs c) rfl rfl rfl (dx rfl) ?_;cases h1:isSmall c with
 |true=>
  refine ew ?_;exact U.ret ⟨rfl,by show some (AV.b true)=some (AV.b (m4 c));unfold m4;rw[h1];rfl⟩
 |false=>
  refine ew ?_;refine aA.known hf Fj.1 Fj.2 (ab c) rfl rfl rfl (dx rfl) ?_;cases h2:om c with
  |true=>
   refine ew ?_;exact U.ret ⟨rfl,by show some (AV.b true)=some (AV.b (m4 c));unfold m4;rw[h1,h2];rfl⟩
  |false=>
   refine ew ?_;refine aA.known hf Ys.1 Ys.2 (an c) rfl rfl rfl (dx rfl) ?_;refine ew ?_;exact U.ret ⟨rfl,by show some (AV.b (mA c))=some (AV.b (m4 c));unfold m4;rw[h1,h2];rfl⟩
theorem c5Q(l:List Nat)(body:bc)(hb:Ya.body=some body):U (b.bj K) 11 body (c4 [.s l]) ⟨.nil,0⟩ (mB 2 (.b (iY l))):=by
 cases hb;refine U.seq (U.region ?_);refine bD ?_;refine U.seq (U.seq (U.region ?_));refine bD ?_;refine U.block ?_;refine U.cut [(4,.b (iY l))] ?_ fun g=>?_
 ·refine U.seq (U.region ?_);refine aA.bin (v:=.b (eqL l [97,108,108])) rfl rfl rfl rfl rfl ?_;refine bD ?_;refine U.eE rfl (fun h=>?_) (fun h=>?_)
  ·exact U.skip ⟨rfl,rfl,congrArg AV.b (by unfold iY;rw[h];rfl),trivial⟩
  refine U.seq (U.region ?_);refine aA.bin (v:=.b (eqL l [115,111,109,101])) rfl rfl rfl rfl rfl ?_;refine bD ?_;refine U.eE rfl (fun h2=>?_) (fun h2=>?_)
  ·exact U.skip ⟨rfl,rfl,congrArg AV.b (by unfold iY;rw[h,h2];rfl),trivial⟩
  refine U.seq (U.region ?_);refine aA.bin (v:=.b (eqL l [102,97,108,115,101])) rfl rfl rfl rfl rfl ?_;refine bD ?_;refine U.eE rfl (fun h3=>?_) (fun h3=>?_)
  ·exact U.skip ⟨rfl,rfl,congrArg AV.b (by unfold iY;rw[h,h2,h3];rfl),trivial⟩
  refine U.seq (U.region ?_);refine aA.bin (v:=.b (eqL l [110,101,120,116])) rfl rfl rfl rfl rfl ?_;refine bD ?_;refine U.eE rfl (fun aN=>?_) (fun aN=>?_)
  ·exact U.skip ⟨rfl,rfl,congrArg AV.b (by unfold iY;rw[h,h2,h3,aN];rfl),trivial⟩
  refine U.seq (U.region ?_);refine aA.bin (v:=.b (eqL l [97,108,119,97,121,115])) rfl rfl rfl rfl rfl ?_;refine bD ?_;refine U.eE rfl (fun bH=>?_) (fun bH=>?_)
  ·exact U.skip ⟨rfl,rfl,congrArg AV.b (by unfold iY;rw[h,h2,h3,aN,bH];rfl),trivial⟩
  refine U.region ?_;refine aA.bin (v:=.b (eqL l [117,110,116,105,108])) rfl rfl rfl rfl rfl ?_;refine bD ?_;exact⟨rfl,rfl,congrArg AV.b (by unfold iY;rw[h,h2,h3,aN,bH];rfl),trivial⟩
 refine U.eE rfl (fun h=>?_) (fun h=>?_)
 ·refine ew ?_;exact U.ret ⟨rfl,by rw[h];rfl⟩
 ·refine ew ?_;exact U.ret ⟨rfl,by rw[h];rfl⟩
include hf in
set_option maxHeartbeats 0 in
theorem MS{g1 g2:Nat}{p1 jL:Nat→Bool}(h1:∀c,K g1 [b5 c] (.b (p1 c)))(aE:b.ext g1=0∧b.pure g1=true)(h2:∀c,K g2 [b5 c] (.b (jL c)))(aY:b.ext g2=0∧b.pure g2=true)(af:∀l,K mx [.s l] (.b (iY l)))(dY:b.ext mx=0∧b.pure mx=true)
  (ab:dt (b.bj K) w_ Cz) (l:List Nat) (au:l.length<2^62) (i1 i2:Nat) (o:ad) (o4:o.get i1=some (.cells [.f (.func g1) [] []])) (kX:o.get i2=some (.cells [.f (.func g2) [] []])):
  cy (b.bj K) 0 (.f (.func w_) [] [.p (some (i1,0)),.p (some (i2,0))]) [.s l] o (fun r ah=>r= .ok (.b (nameB p1 jL l))∧ah=o):=by
 refine cy.code ab.e ab.p ab.f rfl rfl rfl rfl ?_;refine U.seq (U.region ?_);refine bD ?_;cases l with
 |nil=>
  refine U.seq (U.seq (U.draw rfl rfl ?_));refine uA ?_;refine U.eE rfl (fun _=>?_) (fun h=>by cases h);refine ew ?_;exact U.ret ⟨rfl,rfl,rfl⟩
 |cons c t=>
  have bu:t.length+1<2^62:=au;have c5R:¬t.length+1<1:=by omega
  refine U.seq ?_;refine U.seq (U.draw rfl rfl ?_);refine ef.go rfl rfl rfl rfl ?_;refine ef.go rfl rfl rfl rfl ?_;refine ef.bin (a:=aC (t.length+1)) (b:=aC 1) (v:=.b false) rfl rfl rfl rfl (fa (lW c5R)) ?_;refine ef.go rfl rfl rfl rfl ?_;refine ef.go rfl rfl rfl rfl ?_;refine ef.go rfl rfl rfl rfl ?_;by_cases jy:16<t.length+1
  ·refine ef.bin (a:=aC (t.length+1)) (b:=aC 16) (v:=.b true) rfl rfl rfl rfl (fa (lV jy)) ?_;refine uA ?_;refine U.eE rfl (fun _=>?_) (fun h=>by cases h);refine ew ?_;refine U.ret ⟨rfl,?_,rfl⟩;show c6.ok (.b false)=c6.ok (.b (nameB p1 jL (c::t)));rw[nameB,decide_eq_false (by omega)];rfl
  ·refine ef.bin (a:=aC (t.length+1)) (b:=aC 16) (v:=.b false) rfl rfl rfl rfl (fa (lW jy)) ?_;have xf:t.length+1≤16:=by omega
   refine uA ?_;refine ef.known hf dY.1 dY.2 (af (c::t)) rfl rfl rfl (dx rfl) ?_;cases sF:iY (c::t) with
   |true=>
    refine uA ?_;refine U.eE rfl (fun _=>?_) (fun h=>by cases h);refine ew ?_;refine U.ret ⟨rfl,?_,rfl⟩;show c6.ok (.b false)=c6.ok (.b (nameB p1 jL (c::t)));rw[nameB,decide_eq_true xf,sF];rfl
   |false=>
    repeat (first|refine ef.go rfl rfl rfl rfl ?_|refine ef.a1 o4 rfl rfl rfl rfl ?_|refine ef.cmp rfl rfl rfl rfl rfl ?_|refine ef.off rfl rfl ?_|refine ef.nil ?_)
    refine ef.known hf aE.1 aE.2 (h1 c) rfl rfl rfl (dx rfl) ?_;cases o6:p1 c with
    |false=>
     refine uA ?_;refine U.eE rfl (fun _=>?_) (fun h=>by cases h);refine ew ?_;refine U.ret ⟨rfl,?_,rfl⟩;show c6.ok (.b false)=c6.ok (.b (nameB p1 jL (c::t)));rw[nameB,decide_eq_true xf,sF,o6];rfl
    |true=>
     have dH:nameB p1 jL (c::t)=t.all jL:=by rw[nameB,decide_eq_true xf,sF,o6];rfl
     rw[dH];refine uA ?_;refine U.eE rfl (fun h=>by cases h) (fun _=>?_);refine U.skip (U.seq (U.seq (U.region ?_)));refine bD ?_;refine U.block ?_;refine U.loop (fun m f ah=>ah=o∧∃i,i+m=t.length+1∧(((c::t).drop i).all jL)=t.all jL∧sat [(0,.s (c::t)),(1,.p (some (i1,0))),(2,.p (some (i2,0))),(5,aC i)] f) ?_ t.length ⟨rfl,1,by omega,rfl,rfl,rfl,rfl,rfl,trivial⟩;intro m g ah ⟨e,i,hi,hall,hL⟩;rw[e];clear e ah;refine U.norm _ hL fun g=>?_;clear hL;refine U.seq (U.seq (U.region ?_));refine aA.go rfl rfl rfl rfl ?_;refine aA.go rfl rfl rfl rfl ?_;refine aA.go rfl rfl rfl rfl ?_;refine aA.bin (a:=aC i) (b:=aC (t.length+1)) (v:=.b (decide (i<t.length+1))) rfl rfl rfl rfl (fa rfl) ?_;refine bD ?_;refine U.eE rfl (fun ht=>?_) (fun hf=>?_)
     ·have jP:i<t.length+1:=of_decide_eq_true ht;have lh:i<(c::t).length:=jP;rw[xe lh] at hall;refine U.skip (U.seq (U.block (U.seq (U.draw rfl rfl ?_))))
      repeat (first|refine ef.go rfl rfl rfl rfl ?_|refine ef.a1 kX rfl rfl rfl rfl ?_|refine ef.cmp rfl rfl rfl rfl rfl ?_|refine ef.off rfl rfl ?_|refine ef.nil ?_)
      refine ef.val rfl rfl (pa (j:=i) rfl rfl (uy lh)) ?_;refine ef.known hf aY.1 aY.2 (h2 _) rfl rfl rfl (dx rfl) ?_;cases n9:jL (c::t)[i] with
      |true=>
       rw[kP,n9,gS] at hall;refine uA ?_;refine U.eE rfl (fun h=>by cases h) (fun _=>?_);refine U.skip ?_;refine U.region ?_;refine aA.go rfl rfl rfl rfl ?_;refine aA.bin (a:=aC i) (b:=aC 1) rfl rfl rfl rfl (mv (by omega)) ?_;refine bD ?_;exact⟨m-1,by omega,rfl,i+1,by omega,hall,rfl,rfl,rfl,rfl,trivial⟩
      |false=>
       rw[kP,n9,CE] at hall;refine uA ?_;refine U.eE rfl (fun _=>?_) (fun h=>by cases h);refine ew ?_;exact U.ret ⟨rfl,by rw[←hall];rfl,rfl⟩
     ·have jd:¬i<t.length+1:=of_decide_eq_false hf;rw[CF (by show t.length+1≤i;omega)] at hall;refine U.exit ?_;refine ew ?_;exact U.ret ⟨rfl,by rw[←hall];rfl,rfl⟩
theorem MT(ab:dt (b.bj K) y5 Cy)(g1 g2:Nat)(o:ad)(k:Nat)(ax:o.next=k):cy (b.bj K) 0 (.f (.func y5) [] []) [.f (.func g1) [] [],.f (.func g2) [] []] o
  (fun r ah=>r= .ok (.f (.func w_) [] [.p (some (k,0)),.p (some (k+1,0))])∧ah.get k=some (.cells [.f (.func g1) [] []])∧ah.get (k+1)=some (.cells [.f (.func g2) [] []])):=by
 refine cy.code ab.e ab.p ab.f rfl rfl rfl rfl ?_;refine U.seq (U.region (aA.box (v:=.f (.func g1) [] []) k ax rfl rfl rfl rfl rfl fun bk kC h1 _=>aA.box (v:=.f (.func g2) [] []) (k+1) kC rfl rfl rfl rfl rfl fun b7 lM h2 cJ=>?_));replace h1:=cJ _ _ h1;refine ew ?_;exact U.ret ⟨rfl,rfl,h1,h2⟩
def prefB:List Nat→List Nat→Bool
 |_,[]=>true
 |[],_::_=>false
 |a::l,b::m=>Nat.beq b a&&prefB l m
theorem Yt:∀(a b:List Nat),b.length≤a.length→eqL (a.take b.length) b=prefB a b
 |[],[],_=>rfl
 |_::_,[],_=>rfl
 |[],_::_,h=>by simp at h
 |x::a,y::b,h=>by
  show cond (Nat.beq x y) (eqL (a.take b.length) b) false=(Nat.beq y x&&prefB a b);have e:Nat.beq x y=Nat.beq y x:=by
   rw[hD,lC,lC];exact eq_comm
  rw[e,Yt a b (by simpa using h)];cases Nat.beq y x<;>rfl
theorem Yu:∀(a b:List Nat),a.length<b.length→prefB a b=false
 |[],[],h=>by simp at h
 |_::_,[],h=>by simp at h
 |[],_::_,_=>rfl
 |x::a,y::b,h=>by
  show(Nat.beq y x&&prefB a b)=false;rw[Yu a b (by simpa using h)];simp
theorem c5S(x y:List Nat)(body:bc)(hb:Ye.body=some body):U (b.bj K) 18 body (c4 [.s x,.s y]) ⟨.nil,0⟩ (mB 4 (.b (prefB x y))):=by
 cases hb;refine U.seq (U.region ?_);refine bD ?_;refine U.seq (U.region ?_);refine Ml ?_;by_cases h:y.length≤x.length
 ·refine aA.bin (a:=aC x.length) (b:=aC y.length) (v:=.b true) rfl rfl rfl rfl (fa (lV h)) ?_;refine Ml ?_;refine aA.val rfl rfl (yR (l:=0) (h:=y.length) rfl rfl rfl (by omega) h) ?_;refine Ml ?_;refine aA.bin (a:=.s (x.take y.length)) (b:=.s y) (v:=.b (eqL (x.take y.length) y)) rfl rfl rfl rfl rfl ?_;refine bD ?_;refine U.ret ⟨rfl,?_⟩;show some (AV.b (eqL (x.take y.length) y))=_;rw[Yt x y h]
 ·refine aA.bin (a:=aC x.length) (b:=aC y.length) (v:=.b false) rfl rfl rfl rfl (fa (lW h)) ?_;refine bD ?_;refine U.ret ⟨rfl,?_⟩;show some (AV.b false)=_;rw[Yu x y (by omega)]
include hf in
theorem c5T(hp:∀x y,K xb [.s x,.s y] (.b (prefB x y)))(jS:b.ext xb=0∧b.pure xb=true)(x y:List Nat)(body:bc)(hb:X_.body=some body):U (b.bj K) 8 body (c4 [.s x,.s y]) ⟨.nil,0⟩ (mB 4 (.b (prefB x y))):=by
 cases hb;refine U.seq (U.region ?_);refine bD ?_;refine U.seq (U.region ?_);refine bD ?_;refine aA.known hf jS.1 jS.2 (hp x y) rfl rfl rfl (gT rfl rfl) ?_;refine bD ?_;exact U.ret ⟨rfl,rfl⟩
include hf in
theorem c5U(h1:∀c,K qx [b5 c] (.b (om c)))(aE:b.ext qx=0∧b.pure qx=true)(h2:∀c,K pg [b5 c] (.b (m4 c)))(aY:b.ext pg=0∧b.pure pg=true)(af:∀l,K mx [.s l] (.b (iY l)))(dY:b.ext mx=0∧b.pure mx=true)
  (nn:dt (b.bj K) w_ Cz) (ab:dt (b.bj K) y5 Cy) (l:List Nat) (au:l.length<2^62) (body:bc) (hb:XX.body=some body):U (b.bj K) 6 body (c4 [.s l]) ⟨.nil,0⟩ (mB 2 (.b (gE l))):=by
 cases hb;refine U.seq (U.region ?_);refine bD ?_;refine U.seq (U.region ?_);refine aA.j_ rfl rfl rfl (MT ab qx pg ⟨.nil,0⟩ 0 rfl) fun r o ⟨e,a6,a2⟩=>⟨_,e,?_⟩
 refine bD ?_;refine aA.j_ rfl rfl rfl (MS hf h1 aE h2 aY af dY nn l au 0 1 o a6 a2) fun r ai ⟨e,cZ⟩=>⟨_,e,?_⟩
 refine ew ?_;exact U.ret ⟨rfl,rfl⟩
include hf in
theorem c5V(h1:∀c,K uL [b5 c] (.b (td c)))(aE:b.ext uL=0∧b.pure uL=true)(h2:∀c,K qy [b5 c] (.b (mA c)))(aY:b.ext qy=0∧b.pure qy=true)(af:∀l,K mx [.s l] (.b (iY l)))(dY:b.ext mx=0∧b.pure mx=true)
  (nn:dt (b.bj K) w_ Cz) (ab:dt (b.bj K) y5 Cy) (l:List Nat) (au:l.length<2^62) (body:bc) (hb:X6.body=some body):U (b.bj K) 6 body (c4 [.s l]) ⟨.nil,0⟩ (mB 2 (.b (isVar l))):=by
 cases hb;refine U.seq (U.region ?_);refine bD ?_;refine U.seq (U.region ?_);refine aA.j_ rfl rfl rfl (MT ab uL qy ⟨.nil,0⟩ 0 rfl) fun r o ⟨e,a6,a2⟩=>⟨_,e,?_⟩
 refine bD ?_;refine aA.j_ rfl rfl rfl (MS hf h1 aE h2 aY af dY nn l au 0 1 o a6 a2) fun r ai ⟨e,cZ⟩=>⟨_,e,?_⟩
 refine ew ?_;exact U.ret ⟨rfl,rfl⟩
include hf in
theorem c5W(h1:∀c,K uM [b5 c] (.b (te c)))(aE:b.ext uM=0∧b.pure uM=true)(h2:∀c,K pg [b5 c] (.b (m4 c)))(aY:b.ext pg=0∧b.pure pg=true)(af:∀l,K mx [.s l] (.b (iY l)))(dY:b.ext mx=0∧b.pure mx=true)
  (nn:dt (b.bj K) w_ Cz) (ab:dt (b.bj K) y5 Cy) (l:List Nat) (au:l.length<2^62) (body:bc) (hb:X1.body=some body):U (b.bj K) 6 body (c4 [.s l]) ⟨.nil,0⟩ (mB 2 (.b (isFun l))):=by
 cases hb;refine U.seq (U.region ?_);refine bD ?_;refine U.seq (U.region ?_);refine aA.j_ rfl rfl rfl (MT ab uM pg ⟨.nil,0⟩ 0 rfl) fun r o ⟨e,a6,a2⟩=>⟨_,e,?_⟩
 refine bD ?_;refine aA.j_ rfl rfl rfl (MS hf h1 aE h2 aY af dY nn l au 0 1 o a6 a2) fun r ai ⟨e,cZ⟩=>⟨_,e,?_⟩
 refine ew ?_;exact U.ret ⟨rfl,rfl⟩
include hf in
theorem c5X(h1:∀l,l.length<2^62→K pf [.s l] (.b (gE l)))(aE:b.ext pf=0∧b.pure pf=true)(hp:∀x y,y.length<2^62→x.length<2^62→K rL [.s x,.s y] (.b (prefB x y)))(jS:b.ext rL=0∧b.pure rL=true)(l:List Nat)(au:l.length<2^62)(body:bc)(hb:X7.body=some body):
  U (b.bj K) 15 body (c4 [.s l]) ⟨.nil,0⟩ (mB 2 (.b (kt l))):=by
 cases hb;refine U.seq (U.region ?_);refine bD ?_;refine U.seq (U.region ?_);refine aA.go rfl rfl rfl rfl ?_;refine aA.go rfl rfl rfl rfl ?_;by_cases jy:l.length≤16
 ·refine aA.bin (a:=aC l.length) (b:=aC 16) (v:=.b true) rfl rfl rfl rfl (fa (lV jy)) ?_;refine bD ?_;refine aA.known hf jS.1 jS.2 (hp l [63] (by decide) au) rfl rfl rfl (gT rfl rfl) ?_;cases l with
  |nil=>
   refine bD ?_;exact U.ret ⟨rfl,rfl⟩
  |cons c t=>
   have xf:t.length+1≤16:=jy;by_cases ab:c=63
   ·subst ab;rw[show prefB (63::t) [63]=true from by simp[prefB]];refine bD ?_;refine aA.val rfl rfl (yR (s:=63::t) (l:=1) (h:=t.length+1) rfl rfl rfl (by omega) (bK _)) ?_;rw[show((63::t).drop 1).take (t.length+1-1)=t from by simp];refine bD ?_;refine aA.known hf aE.1 aE.2 (h1 t (by omega)) rfl rfl rfl (dx rfl) ?_;refine bD ?_;refine U.ret ⟨rfl,?_⟩;show some (AV.b (gE t))=some (AV.b (decide (t.length+1≤16)&&(decide (63=63)&&gE t)));rw[decide_eq_true xf];rfl
   ·have MU:prefB (c::t) [63]=false:=by
     have hb:Nat.beq 63 c=false:=by cases hb:Nat.beq 63 c with
      |false=>rfl
      |true=>exact absurd (eM hb).symm ab
     simp only[prefB,hb,CE]
    rw[MU];refine bD ?_;refine U.ret ⟨rfl,?_⟩;show some (AV.b false)=some (AV.b (decide (t.length+1≤16)&&(decide (c=63)&&gE t)));rw[decide_eq_false ab];simp
 ·refine aA.bin (a:=aC l.length) (b:=aC 16) (v:=.b false) rfl rfl rfl rfl (fa (lW jy)) ?_;refine bD ?_;refine U.ret ⟨rfl,?_⟩;show some (AV.b false)=some (AV.b (kt l));cases l with
  |nil=>rfl
  |cons c t=>
   show some (AV.b false)=some (AV.b (decide (t.length+1≤16)&&(decide (c=63)&&gE t)));rw[decide_eq_false (by simpa using jy)];rfl
include hf in
theorem c5Y(h1:∀l,l.length<2^62→K rK [.s l] (.b (isFun l)))(aE:b.ext rK=0∧b.pure rK=true)(hp:∀x y,y.length<2^62→x.length<2^62→K rL [.s x,.s y] (.b (prefB x y)))(jS:b.ext rL=0∧b.pure rL=true)(l:List Nat)(au:l.length<2^62)(body:bc)(hb:X8.body=some body):
  U (b.bj K) 15 body (c4 [.s l]) ⟨.nil,0⟩ (mB 2 (.b (hv l))):=by
 cases hb;refine U.seq (U.region ?_);refine bD ?_;refine U.seq (U.region ?_);refine aA.go rfl rfl rfl rfl ?_;refine aA.go rfl rfl rfl rfl ?_;by_cases jy:l.length≤16
 ·refine aA.bin (a:=aC l.length) (b:=aC 16) (v:=.b true) rfl rfl rfl rfl (fa (lV jy)) ?_;refine bD ?_;refine aA.known hf jS.1 jS.2 (hp l [63] (by decide) au) rfl rfl rfl (gT rfl rfl) ?_;cases l with
  |nil=>
   refine bD ?_;exact U.ret ⟨rfl,rfl⟩
  |cons c t=>
   have xf:t.length+1≤16:=jy;by_cases ab:c=63
   ·subst ab;rw[show prefB (63::t) [63]=true from by simp[prefB]];refine bD ?_;refine aA.val rfl rfl (yR (s:=63::t) (l:=1) (h:=t.length+1) rfl rfl rfl (by omega) (bK _)) ?_;rw[show((63::t).drop 1).take (t.length+1-1)=t from by simp];refine bD ?_;refine aA.known hf aE.1 aE.2 (h1 t (by omega)) rfl rfl rfl (dx rfl) ?_;refine bD ?_;refine U.ret ⟨rfl,?_⟩;show some (AV.b (isFun t))=some (AV.b (decide (t.length+1≤16)&&(decide (63=63)&&isFun t)));rw[decide_eq_true xf];rfl
   ·have MU:prefB (c::t) [63]=false:=by
     have hb:Nat.beq 63 c=false:=by cases hb:Nat.beq 63 c with
      |false=>rfl
      |true=>exact absurd (eM hb).symm ab
     simp only[prefB,hb,CE]
    rw[MU];refine bD ?_;refine U.ret ⟨rfl,?_⟩;show some (AV.b false)=some (AV.b (decide (t.length+1≤16)&&(decide (c=63)&&isFun t)));rw[decide_eq_false ab];simp
 ·refine aA.bin (a:=aC l.length) (b:=aC 16) (v:=.b false) rfl rfl rfl rfl (fa (lW jy)) ?_;refine bD ?_;refine U.ret ⟨rfl,?_⟩;show some (AV.b false)=some (AV.b (hv l));cases l with
  |nil=>rfl
  |cons c t=>
   show some (AV.b false)=some (AV.b (decide (t.length+1≤16)&&(decide (c=63)&&isFun t)));rw[decide_eq_false (by simpa using jy)];rfl
end
def nodeJ(deep depth:Nat):Nat→Option Nat
 |0=>none
 |L+1=>if depth≤deep then some L else none
mutual
def termJ(cd:Bool)(deep:Nat):Tm→Nat→Nat→Option Nat
 | .mk v n none,depth,L=>match nodeJ deep depth L with
  |none=>none
  |some L=>if v then(if(isVar n||(cd&&hv n))=true then some L else none) else(if isFun n=true then some L else none)
 | .mk v n (some l),depth,L=>match nodeJ deep depth L with
  |none=>none
  |some L=>if v then(if l.length=0∧(isVar n||(cd&&hv n))=true then some L else none) else(if l.length≤4∧isFun n=true then termsJ cd deep l (depth+1) L else none)
def termsJ(cd:Bool)(deep:Nat):List Tm→Nat→Nat→Option Nat
 |[],_,L=>some L
 |t::l,depth,L=>match termJ cd deep t depth L with
  |none=>none
  |some L=>termsJ cd deep l depth L
end
theorem Yv(cd:Bool)(deep:Nat)(t:Tm)(depth L:Nat):termJ cd deep t depth L=match nodeJ deep depth L with
  |none=>none
  |some L=>if t.var then(if t.args.length=0∧(isVar t.name||(cd&&hv t.name))=true then some L else none) else(if t.args.length≤4∧isFun t.name=true then termsJ cd deep t.args (depth+1) L else none):=by
 obtain⟨v,n,a⟩:=t;cases a with
 |none=>
  rw[termJ];cases nodeJ deep depth L with
  |none=>rfl
  |some L=>
   show(if v then _ else _)=(if v then(if(0=0∧_) then _ else _) else(if 0≤4∧isFun n=true then termsJ cd deep [] (depth+1) L else none));simp[termsJ,Tm.name]
 |some l=>rw[termJ];rfl
def ij(op:Nat):Bool:=decide (1≤op)&&decide (op≤14)
def ik(op:Nat):Bool:=decide (1≤op)&&decide (op≤16)
def il(op:Nat):Nat:=if op=1 then 1 else if op=8∨op=9 then 2 else if op=15∨op=16 then 3 else 0
def hX(op:Nat):Nat:=if op=1 then 4 else if op=16 then 2 else 0
def hy(op:Nat):Nat:=if op=3∨op=8∨op=9∨op=10∨op=11∨op=12∨op=13 then 1 else if op=4∨op=5∨op=6∨op=7∨op=14 then 2 else 0
def Hl(op:Nat):List AV:=[.b (ij op),.b (ik op),.i .u8 (Int.ofNat (il op)),aC (hX op),aC (hy op)]
def CM:List AV:=(List.range 17).flatMap Hl
theorem c5Z{op:Nat}(h:op<17):eA (some 5) (CM.drop (op*5))=some (.ag (Hl op)):=by
 have:op=0∨op=1∨op=2∨op=3∨op=4∨op=5∨op=6∨op=7∨op=8∨op=9∨op=10∨op=11∨op=12∨op=13∨op=14∨op=15∨op=16:=by omega
 rcases this with rfl|rfl|rfl|rfl|rfl|rfl|rfl|rfl|rfl|rfl|rfl|rfl|rfl|rfl|rfl|rfl|rfl<;>rfl
def fW(sort:Nat)(s:List Nat):Bool:=if sort=1 then gE s else if sort=2 then isVar s else if sort=3 then kt s else eqL s []
def instB(l:List Tm):Bool:=match l with|[a,b]=>a.var&&(isVar a.name&&(b.var&&hv b.name))|_=>false
mutual
def formJ(cd:Bool)(deep:Nat):Fm→Nat→Nat→Option Nat
 | .mk op n a none,depth,L=>match nodeJ deep depth L with
  |none=>none
  |some L=>if op<17∧(ij op||(cd&&ik op))=true∧fW (il op) n=true∧(a.getD []).length≤hX op∧0=hy op∧(op=16→instB (a.getD [])=true) then termsJ cd deep (a.getD []) (depth+1) L else none
 | .mk op n a (some l),depth,L=>match nodeJ deep depth L with
  |none=>none
  |some L=>if op<17∧(ij op||(cd&&ik op))=true∧fW (il op) n=true∧(a.getD []).length≤hX op∧l.length=hy op∧(op=16→instB (a.getD [])=true) then
    match termsJ cd deep (a.getD []) (depth+1) L with
    |none=>none
    |some L=>formsJ cd deep l (depth+1) L
   else none
def formsJ(cd:Bool)(deep:Nat):List Fm→Nat→Nat→Option Nat
 |[],_,L=>some L
 |t::l,depth,L=>match formJ cd deep t depth L with
  |none=>none
  |some L=>formsJ cd deep l depth L
end
theorem MV(cd:Bool)(deep:Nat)(f:Fm)(depth L:Nat):formJ cd deep f depth L=match nodeJ deep depth L with
  |none=>none
  |some L=>if f.op<17∧(ij f.op||(cd&&ik f.op))=true∧fW (il f.op) f.name=true∧f.args.length≤hX f.op∧f.sub.length=hy f.op∧(f.op=16→instB f.args=true) then
    match termsJ cd deep f.args (depth+1) L with
    |none=>none
    |some L=>formsJ cd deep f.sub (depth+1) L
   else none:=by
 obtain⟨op,n,a,s⟩:=f;cases s with
 |none=>
  rw[formJ];cases nodeJ deep depth L with
  |none=>rfl
  |some L=>
   show(if op<17∧_ then termsJ cd deep (a.getD []) (depth+1) L else none)=(if op<17∧_ then(match termsJ cd deep (a.getD []) (depth+1) L with|none=>none|some L=>formsJ cd deep [] (depth+1) L) else none);have:(match termsJ cd deep (a.getD []) (depth+1) L with|none=>none|some L=>formsJ cd deep [] (depth+1) L)=termsJ cd deep (a.getD []) (depth+1) L:=by
    cases termsJ cd deep (a.getD []) (depth+1) L with
    |none=>rfl
    |some L=>show formsJ cd deep [] (depth+1) L=some L;rw[formsJ]
   rw[this];rfl
 |some l=>rw[formJ];rfl
theorem c6a{aw:az→Option AV}{o:ad}{k:IntKind}{x:az}{a:Nat}(h1:aw x=some (.i k (Int.ofNat a)))(h:a<2^63):opx 0 aw o (.conv .i64 x)=some (.val (aC a) o):=by
 show(match aw x with|some (.i _ n)=>some (bG.val (.i .i64 (wrapN .i64 n)) o)|some (.hq _ d j)=>some (.val (.hq .i64 d j) o)|_=>none)=_;rw[h1];show some (bG.val (.i .i64 (wrapN .i64 (Int.ofNat a))) o)=_;rw[Mc h]
def u3(j:Nat)(cd:Bool)(deep:Nat)(I:Option Nat)(o:ad)(r:c6)(ah:ad):Prop:=r= .ok (.b I.isSome)∧(∀L,I=some L→ah.get j=some (.cells [.b cd,aC L,aC deep]))∧iG (fun i=>i=j) o ah
section
variable {b:cv}{K:Nat→List AV→AV→Prop}(hf:∀g aO r cj,K g aO r→K g aO cj→r=cj)
theorem Yw(hn:dt (b.bj K) G5 MB)(j:Nat)(cd:Bool)(deep depth L:Nat)(an:deep<2^63)(Hm:depth<2^63)(hL:L<2^63)(o:ad)(aB:o.get j=some (.cells [.b cd,aC L,aC deep])):
  cy (b.bj K) 0 (.f (.func G5) [] []) [.p (some (j,0)),aC depth] o (u3 j cd deep (nodeJ deep depth L) o):=by
 refine cy.code hn.e hn.p hn.f rfl rfl rfl rfl ?_;refine U.seq (U.region ?_);refine bD ?_;refine U.seq (U.region ?_);refine Cl ?_;cases L with
 |zero=>
  refine aA.bin (a:=aC 0) (b:=aC 1) (v:=.i .i64 (-1)) rfl rfl rfl rfl rfl ?_;refine Cl ?_;refine aA.store (bR:=[.b cd,.i .i64 (-1),aC deep]) aB rfl rfl rfl rfl rfl fun ai kC h1 cc=>?_;refine aA.nil (U.seq (U.region ?_));refine Xw ?_;refine aA.bin (a:=.i .i64 (-1)) (b:=.i .i64 0) (v:=.b false) rfl rfl rfl rfl rfl ?_;refine Xw ?_;exact U.ret ⟨rfl,rfl,fun L h=>(by cases h),⟨by omega,fun i I hi aj=>cc i I hi aj⟩⟩
 |succ L=>
  refine aA.bin (a:=aC (L+1)) (b:=aC 1) rfl rfl rfl rfl (F4 (by omega) hL) ?_;refine Cl ?_;refine aA.store (bR:=[.b cd,aC L,aC deep]) aB rfl rfl rfl rfl rfl fun ai kC h1 cc=>?_;refine aA.nil (U.seq (U.region ?_));refine Xy ?_;refine aA.bin (a:=aC L) (b:=aC 0) (v:=.b true) rfl rfl rfl rfl (fa (lV (ir _))) ?_;refine Xy ?_;have ax:iG (fun i=>i=j) o ai:=⟨by omega,fun i I hi aj=>cc i I hi aj⟩
  by_cases h:depth≤deep
  ·refine aA.bin (a:=aC depth) (b:=aC deep) (v:=.b true) rfl rfl rfl rfl (fa (lV h)) ?_;refine bD ?_;refine U.ret ⟨rfl,?_⟩;rw[nodeJ,if_pos h];exact⟨rfl,fun gf e=>by cases e;exact h1,ax⟩
  ·refine aA.bin (a:=aC depth) (b:=aC deep) (v:=.b false) rfl rfl rfl rfl (fa (lW h)) ?_;refine bD ?_;refine U.ret ⟨rfl,?_⟩;rw[nodeJ,if_neg h];exact⟨rfl,fun gf e=>(by cases e),ax⟩
structure CN(b:cv)(K:Nat→List AV→AV→Prop):Prop where
 fn:∀g aO r cj,K g aO r→K g aO cj→r=cj
 var:∀l,l.length<2^62→K og [.s l] (.b (isVar l))
 CO:∀l,l.length<2^62→K rK [.s l] (.b (isFun l))
 Yx:∀l,l.length<2^62→K ph [.s l] (.b (hv l))
 named:∀k l,l.length<2^62→K w8 [.i .u8 (Int.ofNat k),.s l] (.b (fW k l))
 inst:∀l:Option (List Tm),(l.getD []).length<2^62→(∀t∈l.getD [],t.name.length<2^62∧2*t.dep≤b.aT+800)→K w9 [cR true l] (.b (instB (l.getD [])))
 tf:b.ext og=0∧b.pure og=true
 zx:b.ext rK=0∧b.pure rK=true
 MW:b.ext ph=0∧b.pure ph=true
 MX:b.ext w8=0∧b.pure w8=true
 MY:b.ext w9=0∧b.pure w9=true
 node:dt (b.bj K) G5 MB
 term:dt (b.bj K) G6 X2
 Hn:dt (b.bj K) MG X0
 form:dt (b.bj K) MF XV
inductive Tm.ok:Tm→Prop
 |mk {v:Bool} {n:List Nat} {a:Option (List Tm)} (hn:n.length<2^62) (au:(a.getD []).length<2^62) (h:∀x∈a.getD [],Tm.ok x):Tm.ok (.mk v n a)
theorem Tm.ok.nm{t:Tm}(h:t.ok):t.name.length<2^62:=by cases h with|mk h _ _=>exact h
theorem Tm.ok.len{t:Tm}(h:t.ok):t.args.length<2^62:=by cases h with|mk _ h _=>exact h
theorem Tm.ok.arg{t:Tm}(h:t.ok):∀x∈t.args,x.ok:=by cases h with|mk _ _ h=>exact h
inductive Fm.ok:Fm→Prop
 |mk {op:Nat} {n:List Nat} {a:Option (List Tm)} {s:Option (List Fm)} (aj:op<256) (hn:n.length<2^62) (cQ:(a.getD []).length<2^62) (ha:∀x∈a.getD [],Tm.ok x) (au:(s.getD []).length<2^62) (h:∀x∈s.getD [],Fm.ok x):Fm.ok (.mk op n a s)
theorem Fm.ok.op{t:Fm}(h:t.ok):t.op<256:=by cases h with|mk h _ _ _ _ _=>exact h
theorem Fm.ok.nm{t:Fm}(h:t.ok):t.name.length<2^62:=by cases h with|mk _ h _ _ _ _=>exact h
theorem Fm.ok.zy{t:Fm}(h:t.ok):t.args.length<2^62:=by cases h with|mk _ _ h _ _ _=>exact h
theorem Fm.ok.arg{t:Fm}(h:t.ok):∀x∈t.args,x.ok:=by cases h with|mk _ _ _ h _ _=>exact h
theorem Fm.ok.pb{t:Fm}(h:t.ok):t.sub.length<2^62:=by cases h with|mk _ _ _ _ h _=>exact h
theorem Fm.ok.ml{t:Fm}(h:t.ok):∀x∈t.sub,x.ok:=by cases h with|mk _ _ _ _ _ h=>exact h
theorem CP{deep depth L gf:Nat}(h:nodeJ deep depth L=some gf):L=gf+1∧depth≤deep:=by
 cases L with
 |zero=>cases h
 |succ L=>
  rw[nodeJ] at h;split at h
  ·cases h;exact⟨rfl,‹_›⟩
  ·cases h
mutual
theorem Yy{cd:Bool}{deep:Nat}:∀(t:Tm) {depth L gf:Nat},termJ cd deep t depth L=some gf→gf≤L
 | .mk v n none,depth,L,gf,h=>by
  rw[termJ] at h;cases hn:nodeJ deep depth L with
  |none=>rw[hn] at h;cases h
  |some M=>
   have:=(CP hn).1;rw[hn] at h;simp only[] at h;split at h<;>split at h<;>(first|(cases h;omega)|cases h)
 | .mk v n (some l),depth,L,gf,h=>by
  rw[termJ] at h;cases hn:nodeJ deep depth L with
  |none=>rw[hn] at h;cases h
  |some M=>
   have:=(CP hn).1;rw[hn] at h;simp only[] at h;split at h
   ·split at h
    ·cases h;omega
    ·cases h
   ·split at h
    ·have:=Ho l h;omega
    ·cases h
theorem Ho{cd:Bool}{deep:Nat}:∀(l:List Tm) {depth L gf:Nat},termsJ cd deep l depth L=some gf→gf≤L
 |[],depth,L,gf,h=>by rw[termsJ] at h;cases h;exact bK _
 |t::l,depth,L,gf,h=>by
  rw[termsJ] at h;cases ht:termJ cd deep t depth L with
  |none=>rw[ht] at h;cases h
  |some M=>
   rw[ht] at h;have h1:=Yy t ht;have h2:=Ho l h;omega
end
theorem Yz(ax:CN b K){j:Nat}{cd:Bool}{deep:Nat}(xg:deep<2^62){d:Nat}
  (ay:∀(t:Tm),t.dep≤d→t.ok→∀(depth L:Nat),depth≤deep+1→L<2^63→∀o:ad,o.get j=some (.cells [.b cd,aC L,aC deep])→cy (b.bj K) 0 (.f (.func G6) [] []) [.p (some (j,0)),t.A true,aC depth] o (u3 j cd deep (termJ cd deep t depth L) o))
  (a:Option (List Tm)) (ha:∀t∈a.getD [],t.dep≤d∧t.ok) (au:(a.getD []).length<2^62) (depth L:Nat) (Hm:depth≤deep+1) (hL:L<2^63) (b_:ad) (aB:b_.get j=some (.cells [.b cd,aC L,aC deep])):
  cy (b.bj K) 0 (.f (.func MG) [] []) [.p (some (j,0)),cR true a,aC depth] b_ (u3 j cd deep (termsJ cd deep (a.getD []) depth L) b_):=by
 refine cy.code ax.Hn.e ax.Hn.p ax.Hn.f rfl rfl rfl rfl ?_;refine U.seq (U.region ?_);refine bD ?_;refine U.seq (U.seq (U.region ?_));refine bD ?_;refine aA.len rfl rfl rfl kZ ?_;refine bD ?_;refine U.block ?_;refine U.loop (fun m f ah=>iG (fun i=>i=j) b_ ah∧∃i M,i+m=(a.getD []).length∧M<2^63∧ah.get j=some (.cells [.b cd,aC M,aC deep])∧termsJ cd deep ((a.getD []).drop i) depth M=termsJ cd deep (a.getD []) depth L∧
  sat [(0,.p (some (j,0))),(2,aC depth),(9,cR true a),(10,aC (a.getD []).length),(11,aC i)] f) ?_ (a.getD []).length ⟨.refl,0,L,by omega,hL,aB,by rw[tU],rfl,rfl,rfl,rfl,rfl,trivial⟩
 intro m g o ⟨ih,i,M,hi,du,aB,hr,CQ⟩;refine U.norm _ CQ fun g=>?_;clear CQ;refine ew ?_;refine U.eE rfl (fun ht=>?_) (fun hf=>?_)
 ·have bu:i<(a.getD []).length:=of_decide_eq_true ht;rw[xe bu,termsJ] at hr;generalize hg:(a.getD [])[i]=t at hr;have pk:t∈a.getD []:=by rw[←hg];exact cB bu
  obtain⟨c6b,c6c⟩:=ha t pk;refine U.skip (U.seq (U.block (U.seq (U.region ?_))));refine aA.idx (v:=.cG true (t.A true)) rfl rfl rfl rfl (by rw[←hg];exact rJ bu) ?_;refine aA.eV rfl rfl rfl (Tm.conf true t) ?_;refine aA.var (v:=t.A true) (c:=t.cells true) o.next rfl rfl rfl rfl (Tm.conf true t) rfl (Tm.len true t) fun ai lM aN cJ=>?_;replace aB:=cJ _ _ aB;refine aA.nil (U.seq (U.region ?_));refine bD ?_;refine aA.a1 aN rfl rfl rfl (Tm.a1 true t) ?_;refine bD ?_;refine aA.j_ rfl rfl rfl (ay t c6b c6c depth M Hm du ai aB) fun r eg ⟨aE,fK,iH⟩=>⟨_,aE,?_⟩
  have lX:iG (fun i=>i=j) b_ eg:=(ih.trans (.of (by omega) cJ)).trans iH;cases tg:termJ cd deep t depth M with
  |none=>
   rw[tg] at hr;refine bD ?_;refine U.eE rfl (fun _=>?_) (fun h=>by cases h);refine ew ?_;refine U.ret ⟨rfl,?_⟩;rw[←hr];exact⟨rfl,fun L e=>(by cases e),lX⟩
  |some CR=>
   rw[tg] at hr;have Hp:=Yy t tg;refine bD ?_;refine U.eE rfl (fun h=>by cases h) (fun _=>?_);refine U.skip ?_;refine U.region ?_;refine aA.bin (a:=aC i) (b:=aC 1) rfl rfl rfl rfl (mv (by omega)) ?_;refine bD ?_;exact⟨m-1,by omega,lX,i+1,CR,by omega,by omega,fK CR tg,hr,rfl,rfl,rfl,rfl,rfl,trivial⟩
 ·have jd:¬i<(a.getD []).length:=of_decide_eq_false hf;rw[CF (by omega),termsJ] at hr;refine U.exit ?_;refine ew ?_;refine U.ret ⟨rfl,?_⟩;rw[←hr];exact⟨rfl,fun L e=>by cases e;exact aB,ih⟩
set_option maxHeartbeats 0 in
theorem YA(ax:CN b K){j:Nat}{cd:Bool}{deep:Nat}(xg:deep<2^62):∀(d:Nat) (t:Tm),t.dep≤d→t.ok→∀(depth L:Nat),depth≤deep+1→L<2^63→∀o:ad,o.get j=some (.cells [.b cd,aC L,aC deep])→
  cy (b.bj K) 0 (.f (.func G6) [] []) [.p (some (j,0)),t.A true,aC depth] o (u3 j cd deep (termJ cd deep t depth L) o)
 |0,t,h,_,_,_,_,_,_,_=>by rw[Tm.fO] at h;omega
 |d+1,t,an,ht,depth,L,Hm,hL,b_,aB=>by
  have hnm:=ht.nm;refine cy.code ax.term.e ax.term.p ax.term.f rfl rfl rfl rfl ?_;generalize oZ:b_.next=k;have XC:j<k:=by have:=ad.ei aB;omega
  refine U.seq (U.region (aA.box (v:=t.A true) (c:=t.cells true) k oZ rfl rfl rfl rfl rfl fun o hn h1 cc=>?_));have ih:iG (fun i=>i=j) b_ o:=.of (by omega) cc;replace aB:=cc _ _ aB;refine bD ?_;refine U.seq (U.seq (U.region ?_));refine bD ?_;refine aA.j_ rfl rfl rfl (Yw ax.node j cd deep depth L (by omega) (by omega) hL o aB) fun r ai ⟨aE,fK,mz⟩=>⟨_,aE,?_⟩
  replace h1:=mz.ee _ _ (by omega) h1;have iH:=ih.trans mz;obtain⟨I,aj⟩:∃I,termJ cd deep t depth L=I:=⟨_,rfl⟩
  rw[aj];rw[Yv] at aj;cases th:nodeJ deep depth L with
  |none=>
   rw[th] at aj;subst aj;refine bD ?_;refine U.eE rfl (fun _=>?_) (fun h=>by cases h);refine ew ?_;exact U.ret ⟨rfl,rfl,fun L e=>(by cases e),iH⟩
  |some M=>
   obtain⟨c6d,Fi⟩:=CP th;replace aB:=fK M th;rw[th] at aj;replace aj:(if t.var=true then(if t.args.length=0∧(isVar t.name||(cd&&hv t.name))=true then some M else none) else(if t.args.length≤4∧isFun t.name=true then termsJ cd deep t.args (depth+1) M else none))=I:=aj;refine bD ?_;refine U.eE rfl (fun h=>by cases h) (fun _=>?_);refine U.skip (U.seq (U.seq (U.region ?_)));refine bD ?_;refine aA.a1 h1 rfl rfl rfl (Tm.Mg true t) ?_;refine bD ?_;refine U.eE rfl (fun av=>?_) (fun av=>?_)
   ·-- a variable
    rw[if_pos av] at aj;refine U.seq (U.region ?_);refine bD ?_;refine aA.a1 h1 rfl rfl rfl (Tm.wV true t) ?_;refine aA.len rfl rfl rfl kZ ?_;have Hq:t.args.length=0∧(isVar t.name||(cd&&hv t.name))=true→u3 j cd deep I b_ (.ok (.b true)) ai:=fun h=>by
     rw[if_pos h] at aj;subst aj;exact⟨rfl,fun L e=>by cases e;exact aB,iH⟩
    have gb:¬(t.args.length=0∧(isVar t.name||(cd&&hv t.name))=true)→u3 j cd deep I b_ (.ok (.b false)) ai:=fun h=>by
     rw[if_neg h] at aj;subst aj;exact⟨rfl,fun L e=>(by cases e),iH⟩
    clear aj;by_cases h0:t.args.length=0
    ·refine aA.bin (a:=aC t.args.length) (b:=aC 0) (v:=.b true) rfl rfl rfl rfl (fa (lV h0)) ?_;refine bD ?_;refine aA.a1 h1 rfl rfl rfl (Tm.wU true t) ?_;refine aA.known ax.fn ax.tf.1 ax.tf.2 (ax.var t.name hnm) rfl rfl rfl (dx rfl) ?_;cases YE:isVar t.name with
     |true=>
      refine bD ?_;exact U.ret ⟨rfl,Hq ⟨h0,by rw[YE];rfl⟩⟩
     |false=>
      rw[YE,tW] at Hq gb;refine Cl ?_;cases np:cd with
      |false=>
       refine bD ?_;exact U.ret ⟨rfl,np▸gb fun h=>by rw[np] at h;cases h.2⟩
      |true=>
       refine bD ?_;refine aA.a1 h1 rfl rfl rfl (Tm.wU true t) ?_;refine aA.known ax.fn ax.MW.1 ax.MW.2 (ax.Yx t.name hnm) rfl rfl rfl (dx rfl) ?_;rw[np,gS] at Hq gb;cases pk:hv t.name with
       |true=>
        refine bD ?_;exact U.ret ⟨rfl,Hq ⟨h0,pk⟩⟩
       |false=>
        refine bD ?_;exact U.ret ⟨rfl,gb fun h=>by rw[pk] at h;cases h.2⟩
    ·refine aA.bin (a:=aC t.args.length) (b:=aC 0) (v:=.b false) rfl rfl rfl rfl (fa (lW h0)) ?_;refine bD ?_;exact U.ret ⟨rfl,gb fun h=>h0 h.1⟩
   ·rw[av] at aj;replace aj:(if t.args.length≤4∧isFun t.name=true then termsJ cd deep t.args (depth+1) M else none)=I:=aj;refine U.skip (U.seq (U.region ?_));refine bD ?_;refine aA.a1 h1 rfl rfl rfl (Tm.wV true t) ?_;refine aA.len rfl rfl rfl kZ ?_;by_cases aN:t.args.length≤4
    ·refine aA.bin (a:=aC t.args.length) (b:=aC 4) (v:=.b true) rfl rfl rfl rfl (fa (lV aN)) ?_;refine bD ?_;refine aA.a1 h1 rfl rfl rfl (Tm.wU true t) ?_;refine aA.known ax.fn ax.zx.1 ax.zx.2 (ax.CO t.name hnm) rfl rfl rfl (dx rfl) ?_;cases hfn:isFun t.name with
     |true=>
      rw[if_pos ⟨aN,hfn⟩] at aj;refine bD ?_;refine aA.a1 h1 rfl rfl rfl (Tm.wV true t) ?_;refine bD ?_;refine aA.bin (a:=aC depth) (b:=aC 1) rfl rfl rfl rfl (mv (by omega)) ?_;refine aA.j_ rfl rfl rfl (Yz ax xg (d:=d) (fun u hu MZ CS gf h1 h2 ah h3=>YA ax xg d u hu MZ CS gf h1 h2 ah h3) t.cH (fun u hu=>⟨by have:=Tm.j9 (t:=t) hu;omega,ht.arg u hu⟩) ht.len (depth+1) M (by omega) (by omega) ai aB) fun r eg ⟨aY,mf,lX⟩=>⟨_,aY,?_⟩
      have aj:termsJ cd deep (t.cH.getD []) (depth+1) M=I:=aj;rw[aj] at mf ⊢;refine bD ?_;refine U.ret ⟨rfl,?_,mf,iH.trans lX⟩;cases I<;>rfl
     |false=>
      rw[if_neg (fun h=>by rw[hfn] at h;cases h.2)] at aj;subst aj;refine bD ?_;exact U.ret ⟨rfl,rfl,fun L e=>(by cases e),iH⟩
    ·refine aA.bin (a:=aC t.args.length) (b:=aC 4) (v:=.b false) rfl rfl rfl rfl (fa (lW aN)) ?_;rw[if_neg (fun h=>aN h.1)] at aj;subst aj;refine bD ?_;exact U.ret ⟨rfl,rfl,fun L e=>(by cases e),iH⟩
theorem c6e{cd:Bool}{deep:Nat}{l:List Fm}(h:∀f∈l,∀depth L gf,formJ cd deep f depth L=some gf→gf≤L):∀ {depth L gf:Nat},formsJ cd deep l depth L=some gf→gf≤L:=by
 induction l with
 |nil=>intro depth L gf e;rw[formsJ] at e;cases e;exact bK _
 |cons f l ay=>
  intro depth L gf e;rw[formsJ] at e;cases hf:formJ cd deep f depth L with
  |none=>rw[hf] at e;cases e
  |some M=>
   rw[hf] at e;have h1:=h f (by simp) _ _ _ hf;have h2:=ay (fun g hg=>h g (e_ _ hg)) e;omega
theorem YF{cd:Bool}{deep:Nat}:∀(d:Nat) (f:Fm),f.dep≤d→∀ {depth L gf:Nat},formJ cd deep f depth L=some gf→gf≤L
 |0,f,h,_,_,_,_=>by rw[Fm.fO] at h;omega
 |d+1,f,h,depth,L,gf,e=>by
  rw[MV] at e;cases hn:nodeJ deep depth L with
  |none=>rw[hn] at e;cases e
  |some M=>
   have:=(CP hn).1;rw[hn] at e;simp only[] at e;split at e
   ·cases ht:termsJ cd deep f.args (depth+1) M with
    |none=>rw[ht] at e;cases e
    |some N=>
     rw[ht] at e;have h1:=Ho _ ht;have h2:=c6e (fun g hg _ _ _ e=>YF d g (by have:=Fm.iF hg;omega) e) e;omega
   ·cases e
set_option maxHeartbeats 0 in
theorem YG(ax:CN b K)(hg:b.jm He=some (.ag CM)){j:Nat}{cd:Bool}{deep:Nat}(xg:deep<2^62):∀(d:Nat) (F:Fm),F.dep≤d→2*F.dep≤b.aT+800→F.ok→∀(depth L:Nat),depth≤deep+1→L<2^63→∀o:ad,o.get j=some (.cells [.b cd,aC L,aC deep])→
  cy (b.bj K) 0 (.f (.func MF) [] []) [.p (some (j,0)),F.A true,aC depth] o (u3 j cd deep (formJ cd deep F depth L) o)
 |0,t,h,_,_,_,_,_,_,_,_=>by rw[Fm.fO] at h;omega
 |d+1,F,an,YH,eT,depth,L,Hm,hL,b_,aB=>by
  have hnm:=eT.nm;have fm:=eT.op;refine cy.code ax.form.e ax.form.p ax.form.f rfl rfl rfl rfl ?_;generalize oZ:b_.next=k;have XC:j<k:=by have:=ad.ei aB;omega
  refine U.seq (U.region (aA.box (v:=F.A true) (c:=F.cells true) k oZ rfl rfl rfl rfl rfl fun o hn h1 cc=>?_));have ih:iG (fun i=>i=j) b_ o:=.of (by omega) cc;replace aB:=cc _ _ aB;refine bD ?_;refine U.seq (U.seq (U.region ?_));refine bD ?_;refine aA.j_ rfl rfl rfl (Yw ax.node j cd deep depth L (by omega) (by omega) hL o aB) fun r ai ⟨aE,fK,mz⟩=>⟨_,aE,?_⟩
  replace h1:=mz.ee _ _ (by omega) h1;have iH:=ih.trans mz;have lM:=mz.next;obtain⟨I,aj⟩:∃I,formJ cd deep F depth L=I:=⟨_,rfl⟩
  rw[aj];rw[MV] at aj;cases th:nodeJ deep depth L with
  |none=>
   rw[th] at aj;subst aj;refine bD ?_;refine U.eE rfl (fun _=>?_) (fun h=>by cases h);refine ew ?_;exact U.ret ⟨rfl,rfl,fun L e=>(by cases e),iH⟩
  |some M=>
   obtain⟨c6d,Fi⟩:=CP th;replace aB:=fK M th;rw[th] at aj;replace aj:(if F.op<17∧(ij F.op||(cd&&ik F.op))=true∧fW (il F.op) F.name=true∧F.args.length≤hX F.op∧F.sub.length=hy F.op∧(F.op=16→instB F.args=true) then
    (match termsJ cd deep F.args (depth+1) M with
    |none=>none
    |some L=>formsJ cd deep F.sub (depth+1) L)
    else none)=I:=aj
   have u4:¬(F.op<17∧(ij F.op||(cd&&ik F.op))=true∧fW (il F.op) F.name=true∧F.args.length≤hX F.op∧F.sub.length=hy F.op∧(F.op=16→instB F.args=true))→I=none:=fun h=>by rw[if_neg h] at aj;exact aj.symm
   have gb:I=none→∀ {eg:ad},iG (fun i=>i=j) b_ eg→u3 j cd deep I b_ (.ok (.b false)) eg:=fun h eg cX=>by subst h;exact⟨rfl,fun L e=>(by cases e),cX⟩
   refine bD ?_;refine aA.a1 h1 rfl rfl rfl (Fm.Ci true F) ?_;refine aA.val rfl rfl (c6a (a:=F.op) rfl (by omega)) ?_;by_cases Hr:17≤F.op
   ·refine aA.bin (a:=aC F.op) (b:=aC 17) (v:=.b true) rfl rfl rfl rfl (fa (lV Hr)) ?_;refine bD ?_;refine U.eE rfl (fun _=>?_) (fun h=>by cases h);refine ew ?_;exact U.ret ⟨rfl,gb (u4 fun h=>by omega) iH⟩
   have M0:F.op<17:=by omega
   refine aA.bin (a:=aC F.op) (b:=aC 17) (v:=.b false) rfl rfl rfl rfl (fa (lW Hr)) ?_;refine bD ?_;refine U.eE rfl (fun h=>by cases h) (fun _=>?_);refine U.skip ?_;refine U.norm [(0,.p (some (j,0))),(2,aC depth),(4,.p (some (k,0))),(6,.b false),(7,dw),(27,dw),(32,dw)] ⟨rfl,rfl,rfl,rfl,rfl,rfl,rfl,trivial⟩ fun g=>?_;refine U.seq (U.region ?_);refine bD ?_;refine aA.a1 h1 rfl rfl rfl (Fm.Ci true F) ?_;refine aA.val rfl rfl (c4N (j:=F.op) (cs:=CM) (I:=true) (by show(match b.jm He with|some v=>some (AV.cG true v)|none=>none)=_;rw[hg]) rfl M0 (c5Z M0)) ?_;refine aA.eV rfl rfl rfl rfl ?_;generalize c6f:ai.next=z;refine aA.var (v:=.ag (Hl F.op)) (c:=Hl F.op) z c6f rfl rfl rfl rfl rfl rfl fun cL rj h2 cJ=>?_;have d9X:k<z:=by omega
   replace h1:=cJ _ _ h1;replace aB:=cJ _ _ aB;have lX:iG (fun i=>i=j) b_ cL:=iH.trans (.of (by omega) cJ);clear ih mz iH cc cJ fK aE;refine aA.nil ?_;refine U.norm [(0,.p (some (j,0))),(2,aC depth),(4,.p (some (k,0))),(6,.b false),(7,.p (some (z,0)))] ⟨rfl,rfl,rfl,rfl,rfl,trivial⟩ fun g=>?_
   -- pJ row is one of right d9Y
   refine U.od [(0,.p (some (j,0))),(2,aC depth),(4,.p (some (k,0))),(6,.b false),(7,.p (some (z,0)))] (E:=fun x bC ah=>x= .ret∧bC 6= .b false∧ah=cL∧I=none) (M:=(ij F.op||(cd&&ik F.op))=true) ?_ ?_ fun b9 g=>?_
   ·-- pJ row d9Z in Ek is right
    refine U.seq (U.region ?_);refine F_ ?_;cases iR:ij F.op with
    |true=>
     refine F_ ?_;refine U.eE rfl (fun h=>by cases h) (fun _=>?_);exact U.skip (.inl ⟨rfl,rfl,⟨rfl,rfl,rfl,rfl,rfl,trivial⟩,rfl⟩)
    |false=>
     refine Cl ?_;cases np:cd with
     |false=>
      refine bD ?_;refine U.eE rfl (fun _=>?_) (fun h=>by cases h);refine ew ?_;exact U.ret (.inr ⟨rfl,rfl,rfl,u4 fun ab=>by rw[iR,np] at ab;cases ab.2.1⟩)
     |true=>
      refine F_ ?_;cases qe:ik F.op with
      |true=>
       refine bD ?_;refine U.eE rfl (fun h=>by cases h) (fun _=>?_);exact U.skip (.inl ⟨rfl,rfl,⟨rfl,rfl,rfl,rfl,rfl,trivial⟩,rfl⟩)
      |false=>
       refine bD ?_;refine U.eE rfl (fun _=>?_) (fun h=>by cases h);refine ew ?_;exact U.ret (.inr ⟨rfl,rfl,rfl,u4 fun ab=>by rw[iR,np,qe] at ab;cases ab.2.1⟩)
   ·rintro x bC ah ⟨rfl,de,rfl,h⟩;exact⟨by simp,rfl,by rw[de];exact gb h lX⟩
   refine U.od [(0,.p (some (j,0))),(2,aC depth),(4,.p (some (k,0))),(6,.b false),(7,.p (some (z,0)))] (E:=fun x bC ah=>x= .ret∧bC 6= .b false∧ah=cL∧I=none) (M:=fW (il F.op) F.name=true∧F.args.length≤hX F.op∧F.sub.length=hy F.op) ?_ ?_ fun uC g=>?_
   ·-- name,arguments,parts
    refine U.seq (U.region ?_);refine F_ ?_;refine aA.a1 h1 rfl rfl rfl (Fm.wU true F) ?_;refine aA.known ax.fn ax.MX.1 ax.MX.2 (ax.named (il F.op) F.name hnm) rfl rfl rfl (gT rfl rfl) ?_;cases kC:fW (il F.op) F.name with
    |false=>
     refine bD ?_;refine U.eE rfl (fun _=>?_) (fun h=>by cases h);refine ew ?_;exact U.ret (.inr ⟨rfl,rfl,rfl,u4 fun ab=>by rw[kC] at ab;cases ab.2.2.1⟩)
    |true=>
     refine bD ?_;refine aA.a1 h1 rfl rfl rfl (Fm.wV true F) ?_;refine aA.len rfl rfl rfl kZ ?_;refine Xz ?_;by_cases cQ:F.args.length≤hX F.op
     ·refine aA.bin (a:=aC F.args.length) (b:=aC (hX F.op)) (v:=.b false) rfl rfl rfl rfl (fa (lW (by omega))) ?_;refine bD ?_;refine aA.a1 h1 rfl rfl rfl (Fm.Mh true F) ?_;refine aA.len rfl rfl rfl gD ?_;refine Xz ?_;by_cases eB:F.sub.length=hy F.op
      ·refine aA.bin (a:=aC F.sub.length) (b:=aC (hy F.op)) (v:=.b false) rfl rfl rfl rfl (fa (show some (AV.b (!decide (F.sub.length=hy F.op)))=some (AV.b false) by rw[decide_eq_true eB];rfl)) ?_;refine bD ?_;refine U.eE rfl (fun h=>by cases h) (fun _=>?_);exact U.skip (.inl ⟨rfl,rfl,⟨rfl,rfl,rfl,rfl,rfl,trivial⟩,rfl,cQ,eB⟩)
      ·refine aA.bin (a:=aC F.sub.length) (b:=aC (hy F.op)) (v:=.b true) rfl rfl rfl rfl (fa (show some (AV.b (!decide (F.sub.length=hy F.op)))=some (AV.b true) by rw[decide_eq_false eB];rfl)) ?_;refine bD ?_;refine U.eE rfl (fun _=>?_) (fun h=>by cases h);refine ew ?_;exact U.ret (.inr ⟨rfl,rfl,rfl,u4 fun ab=>eB ab.2.2.2.2.1⟩)
     ·refine aA.bin (a:=aC F.args.length) (b:=aC (hX F.op)) (v:=.b true) rfl rfl rfl rfl (fa (lV (by omega))) ?_;refine bD ?_;refine U.eE rfl (fun _=>?_) (fun h=>by cases h);refine ew ?_;exact U.ret (.inr ⟨rfl,rfl,rfl,u4 fun ab=>cQ ab.2.2.2.1⟩)
   ·rintro x bC ah ⟨rfl,de,rfl,h⟩;exact⟨by simp,rfl,by rw[de];exact gb h lX⟩
   refine U.od [(0,.p (some (j,0))),(2,aC depth),(4,.p (some (k,0))),(6,.b false),(7,.p (some (z,0)))] (E:=fun x bC ah=>x= .ret∧bC 6= .b false∧ah=cL∧I=none) (M:=F.op=16→instB F.args=true) ?_ ?_ fun bo g=>?_
   ·-- tC instance
    refine U.seq (U.region ?_);refine bD ?_;refine aA.a1 h1 rfl rfl rfl (Fm.Ci true F) ?_;by_cases jy:F.op=16
    ·refine aA.bin (a:=.i .u8 (Int.ofNat F.op)) (b:=.i .u8 (Int.ofNat 16)) (v:=.b true) rfl rfl rfl rfl (fa (lV jy)) ?_;refine bD ?_;refine aA.a1 h1 rfl rfl rfl (Fm.wV true F) ?_;refine aA.known ax.fn ax.MY.1 ax.MY.2 (ax.inst F.cH eT.zy fun t ht=>⟨(eT.arg t ht).nm,by have:=Fm.j9 (f:=F) ht;omega⟩) rfl rfl rfl (dx (F7 (k:=b.aT+999) fun t ht=>Tm.snap _ true t.dep t (b.aT+999) (bK _) (by have:=Fm.j9 (f:=F) ht;omega))) ?_;cases hi:instB F.args with
     |true=>
      rw[show instB (F.cH.getD [])=true from hi];refine bD ?_;refine U.eE rfl (fun h=>by cases h) (fun _=>?_);exact U.skip (.inl ⟨rfl,rfl,⟨rfl,rfl,rfl,rfl,rfl,trivial⟩,fun _=>rfl⟩)
     |false=>
      rw[show instB (F.cH.getD [])=false from hi];refine bD ?_;refine U.eE rfl (fun _=>?_) (fun h=>by cases h);refine ew ?_;exact U.ret (.inr ⟨rfl,rfl,rfl,u4 fun ab=>by have:=ab.2.2.2.2.2 jy;rw[hi] at this;cases this⟩)
    ·refine aA.bin (a:=.i .u8 (Int.ofNat F.op)) (b:=.i .u8 (Int.ofNat 16)) (v:=.b false) rfl rfl rfl rfl (fa (lW jy)) ?_;refine bD ?_;refine U.eE rfl (fun h=>by cases h) (fun _=>?_);exact U.skip (.inl ⟨rfl,rfl,⟨rfl,rfl,rfl,rfl,rfl,trivial⟩,fun h=>absurd h jy⟩)
   ·rintro x bC ah ⟨rfl,de,rfl,h⟩;exact⟨by simp,rfl,by rw[de];exact gb h lX⟩
   rw[if_pos ⟨M0,b9,uC.1,uC.2.1,uC.2.2,bo⟩] at aj
   -- pJ arguments
   refine U.seq (U.seq (U.region ?_));refine bD ?_;refine aA.a1 h1 rfl rfl rfl (Fm.wV true F) ?_;refine bD ?_;refine aA.bin (a:=aC depth) (b:=aC 1) rfl rfl rfl rfl (mv (by omega)) ?_;refine aA.j_ rfl rfl rfl (Yz ax xg (d:=F.dep) (fun u hu MZ CS gf h1 h2 ah h3=>YA ax xg _ u hu MZ CS gf h1 h2 ah h3) F.cH (fun u hu=>⟨by have:=Fm.j9 (f:=F) hu;omega,eT.arg u hu⟩) eT.zy (depth+1) M (by omega) (by omega) cL aB) fun r b8 ⟨aY,Ca,Hs⟩=>⟨_,aY,?_⟩
   replace h1:=Hs.ee _ _ (by omega) h1;have M1:=lX.trans Hs;have Ld:=Hs.next;cases j6:termsJ cd deep F.args (depth+1) M with
   |none=>
    rw[j6] at aj;rw[show termsJ cd deep (F.cH.getD []) (depth+1) M=none from j6];refine bD ?_;refine U.eE rfl (fun _=>?_) (fun h=>by cases h);refine ew ?_;exact U.ret ⟨rfl,gb aj.symm M1⟩
   |some N=>
    rw[j6] at aj;replace aB:=Ca N j6;have e0a:=Ho _ j6;rw[show termsJ cd deep (F.cH.getD []) (depth+1) M=some N from j6];replace aj:formsJ cd deep F.sub (depth+1) N=I:=aj;refine bD ?_;refine U.eE rfl (fun h=>by cases h) (fun _=>?_);refine U.skip (U.seq (U.seq (U.region ?_)));refine bD ?_;refine aA.a1 h1 rfl rfl rfl (Fm.Mh true F) ?_;refine aA.len rfl rfl rfl gD ?_;refine bD ?_;refine U.block ?_;refine U.loop (fun m f ah=>iG (fun i=>i=j) b_ ah∧∃i P,i+m=F.sub.length∧P<2^63∧ah.get j=some (.cells [.b cd,aC P,aC deep])∧formsJ cd deep (F.sub.drop i) (depth+1) P=I∧
     sat [(0,.p (some (j,0))),(2,aC depth),(77,dk true F.ea),(78,aC F.sub.length),(79,aC i)] f) ?_ F.sub.length ⟨M1,0,N,by omega,by omega,aB,by rw[tU];exact aj,rfl,rfl,rfl,rfl,rfl,trivial⟩
    clear aB h1 h2 lX Hs M1 Ca gb u4 aj;intro m g o ⟨ih,i,P,hi,ku,aB,hr,CQ⟩;refine U.norm _ CQ fun g=>?_;clear CQ;refine ew ?_;refine U.eE rfl (fun ht=>?_) (fun hf=>?_)
    ·have bu:i<F.sub.length:=of_decide_eq_true ht;have e0b:=eT.pb;rw[xe bu,formsJ] at hr;generalize hg:F.sub[i]=G at hr;have CJ:G∈F.sub:=by rw[←hg];exact cB bu
     have e0c:=Fm.iF CJ;refine U.skip (U.seq (U.block (U.seq (U.region ?_))));refine aA.idx (v:=.cG true (G.A true)) rfl rfl rfl rfl (by rw[←hg];exact wW bu) ?_;refine aA.eV rfl rfl rfl (Fm.conf true G) ?_;refine aA.var (v:=G.A true) (c:=G.cells true) o.next rfl rfl rfl rfl (Fm.conf true G) rfl (Fm.len true G) fun ai lM aN cJ=>?_;replace aB:=cJ _ _ aB;refine aA.nil (U.seq (U.region ?_));refine bD ?_;refine aA.a1 aN rfl rfl rfl (Fm.a1 true G) ?_;refine bD ?_;refine aA.bin (a:=aC depth) (b:=aC 1) rfl rfl rfl rfl (mv (by omega)) ?_;refine aA.j_ rfl rfl rfl (YG ax ‹_› xg d G (by omega) (by omega) (eT.ml G CJ) (depth+1) P (by omega) ku ai aB) fun r eg ⟨aE,fK,iH⟩=>⟨_,aE,?_⟩
     have lX:iG (fun i=>i=j) b_ eg:=(ih.trans (.of (by omega) cJ)).trans iH;cases tg:formJ cd deep G (depth+1) P with
     |none=>
      rw[tg] at hr;refine bD ?_;refine U.eE rfl (fun _=>?_) (fun h=>by cases h);refine ew ?_;refine U.ret ⟨rfl,?_⟩;rw[←hr];exact⟨rfl,fun L e=>(by cases e),lX⟩
     |some CR=>
      rw[tg] at hr;have Hp:=YF _ G (bK _) tg;refine bD ?_;refine U.eE rfl (fun h=>by cases h) (fun _=>?_);refine U.skip ?_;refine U.region ?_;refine aA.bin (a:=aC i) (b:=aC 1) rfl rfl rfl rfl (mv (by omega)) ?_;refine bD ?_;exact⟨m-1,by omega,lX,i+1,CR,by omega,by omega,fK CR tg,hr,rfl,rfl,rfl,rfl,rfl,trivial⟩
    ·have jd:¬i<F.sub.length:=of_decide_eq_false hf;rw[CF (by omega),formsJ] at hr;refine U.exit ?_;refine ew ?_;refine U.ret ⟨rfl,?_⟩;rw[←hr];exact⟨rfl,fun L e=>by cases e;exact aB,ih⟩
end
section
variable {b:cv}{K:Nat→List AV→AV→Prop}
variable (hf:∀g aO r cj,K g aO r→K g aO cj→r=cj)
include hf in
theorem c6g(hp:∀l,l.length<2^62→K pf [.s l] (.b (gE l)))(jS:b.ext pf=0∧b.pure pf=true)(av:∀l,l.length<2^62→K og [.s l] (.b (isVar l)))(aw:b.ext og=0∧b.pure og=true)(hm:∀l,l.length<2^62→K s8 [.s l] (.b (kt l)))(em:b.ext s8=0∧b.pure s8=true)
  (k:Nat) (l:List Nat) (au:l.length<2^62) (body:bc) (hb:XY.body=some body):U (b.bj K) 20 body (c4 [.i .u8 (Int.ofNat k),.s l]) ⟨.nil,0⟩ (mB 4 (.b (fW k l))):=by
 cases hb;refine U.seq (U.region ?_);refine bD ?_;refine U.seq (U.seq (U.region ?_));refine bD ?_;refine U.block (U.seq (U.region ?_));refine aA.bin (a:=.i .u8 (Int.ofNat k)) (b:=.i .u8 (Int.ofNat 1)) (v:=.b (decide (k=1))) rfl rfl rfl rfl (fa rfl) ?_;refine bD ?_;refine U.eE rfl (fun h=>?_) (fun h=>?_)
 ·have ax:=of_decide_eq_true h;refine ew ?_;refine aA.known hf jS.1 jS.2 (hp l au) rfl rfl rfl (dx rfl) ?_;refine ew ?_;exact U.ret ⟨rfl,by show some (AV.b (gE l))=some (AV.b (fW k l));unfold fW;rw[if_pos ax]⟩
 have h1:=of_decide_eq_false h;refine U.seq (U.region ?_);refine aA.bin (a:=.i .u8 (Int.ofNat k)) (b:=.i .u8 (Int.ofNat 2)) (v:=.b (decide (k=2))) rfl rfl rfl rfl (fa rfl) ?_;refine bD ?_;refine U.eE rfl (fun h=>?_) (fun h=>?_)
 ·have ax:=of_decide_eq_true h;refine ew ?_;refine aA.known hf aw.1 aw.2 (av l au) rfl rfl rfl (dx rfl) ?_;refine ew ?_;exact U.ret ⟨rfl,by show some (AV.b (isVar l))=some (AV.b (fW k l));unfold fW;rw[if_neg h1,if_pos ax]⟩
 have h2:=of_decide_eq_false h;refine U.seq (U.region ?_);refine aA.bin (a:=.i .u8 (Int.ofNat k)) (b:=.i .u8 (Int.ofNat 3)) (v:=.b (decide (k=3))) rfl rfl rfl rfl (fa rfl) ?_;refine bD ?_;refine U.eE rfl (fun h=>?_) (fun h=>?_)
 ·have ax:=of_decide_eq_true h;refine ew ?_;refine aA.known hf em.1 em.2 (hm l au) rfl rfl rfl (dx rfl) ?_;refine ew ?_;exact U.ret ⟨rfl,by show some (AV.b (kt l))=some (AV.b (fW k l));unfold fW;rw[if_neg h1,if_neg h2,if_pos ax]⟩
 have h3:=of_decide_eq_false h;refine ew ?_;refine aA.bin (a:=.s l) (b:=.s []) (v:=.b (eqL l [])) rfl rfl rfl rfl rfl ?_;refine ew ?_;exact U.ret ⟨rfl,by show some (AV.b (eqL l []))=some (AV.b (fW k l));unfold fW;rw[if_neg h1,if_neg h2,if_neg h3]⟩
theorem Ht{aw:az→Option AV}{o:ad}{off:Nat}{R:Option Nat}{x:az}{I:Bool}{cs:List AV}{v:AV}(h1:aw x=some (.cG I (.ag cs)))(h2:eA R (cs.drop off)=some v):opx 0 aw o (.fieldAddr off R x)=some (.val (.cG I v) o):=by
 show(match aw x with|some x=>(match fieldAddrA off R x with|some v=>some (bG.val v o)|none=>none)|none=>none)=_;rw[h1];show(match(match eA R (cs.drop off) with|some v=>some (AV.cG I v)|none=>none) with|some v=>some (bG.val v o)|none=>none)=_;rw[h2]
include hf in
theorem c6h(av:∀l,l.length<2^62→K og [.s l] (.b (isVar l)))(aw:b.ext og=0∧b.pure og=true)(hm:∀l,l.length<2^62→K ph [.s l] (.b (hv l)))(em:b.ext ph=0∧b.pure ph=true)
  (a:Option (List Tm)) (au:(a.getD []).length<2^62) (hn:∀t∈a.getD [],t.name.length<2^62) (body:bc) (hb:XZ.body=some body):U (b.bj K) 32 body (c4 [cR true a]) ⟨.nil,0⟩ (mB 2 (.b (instB (a.getD [])))):=by
 cases hb;refine U.seq (U.region ?_);refine bD ?_;refine U.seq (U.region ?_);refine aA.go rfl rfl rfl rfl ?_;refine aA.len rfl rfl rfl kZ ?_;by_cases h2:(a.getD []).length=2
 ·refine aA.bin (a:=aC (a.getD []).length) (b:=aC 2) (v:=.b true) rfl rfl rfl rfl (fa (lV h2)) ?_;obtain⟨x,y,sI⟩:∃x y,a.getD []=[x,y]:=by
   match nz:a.getD [],h2 with
   |[x,y],_=>exact⟨x,y,rfl⟩
  have i0:idxSlA (some 3) (cR true a) 0=some (.cG true (x.A true)):=by
   rw[rJ (by omega)];congr 2;simp[sI]
  have i1:idxSlA (some 3) (cR true a) 1=some (.cG true (y.A true)):=by
   rw[rJ (by omega)];congr 2;simp[sI]
  have BG:=hn x (by rw[sI];simp);have c6i:=hn y (by rw[sI];simp);rw[sI];have hi:instB [x,y]=(x.var&&(isVar x.name&&(y.var&&hv y.name))):=rfl;rw[hi];refine bD ?_;refine aA.idx (j:=0) rfl rfl rfl rfl i0 ?_;refine aA.val rfl rfl (Ht (cs:=x.cells true) rfl (Tm.Mg true x)) ?_;refine aA.eV rfl rfl rfl rfl ?_;cases gj:x.var with
  |false=>
   refine bD ?_;exact U.ret ⟨rfl,rfl⟩
  |true=>
   refine bD ?_;refine aA.idx (j:=0) rfl rfl rfl rfl i0 ?_;refine aA.val rfl rfl (Ht (cs:=x.cells true) rfl (Tm.wU true x)) ?_;refine aA.eV rfl rfl rfl rfl ?_;refine aA.known hf aw.1 aw.2 (av x.name BG) rfl rfl rfl (dx rfl) ?_;cases LQ:isVar x.name with
   |false=>
    refine bD ?_;exact U.ret ⟨rfl,rfl⟩
   |true=>
    refine bD ?_;refine aA.idx (j:=1) rfl rfl rfl rfl i1 ?_;refine aA.val rfl rfl (Ht (cs:=y.cells true) rfl (Tm.Mg true y)) ?_;refine aA.eV rfl rfl rfl rfl ?_;cases mg:y.var with
    |false=>
     refine bD ?_;exact U.ret ⟨rfl,rfl⟩
    |true=>
     refine bD ?_;refine aA.idx (j:=1) rfl rfl rfl rfl i1 ?_;refine aA.val rfl rfl (Ht (cs:=y.cells true) rfl (Tm.wU true y)) ?_;refine aA.eV rfl rfl rfl rfl ?_;refine aA.known hf em.1 em.2 (hm y.name c6i) rfl rfl rfl (dx rfl) ?_;refine bD ?_;exact U.ret ⟨rfl,rfl⟩
 ·refine aA.bin (a:=aC (a.getD []).length) (b:=aC 2) (v:=.b false) rfl rfl rfl rfl (fa (lW h2)) ?_;refine bD ?_;refine U.ret ⟨rfl,?_⟩;have:instB (a.getD [])=false:=by
   unfold instB;split
   ·rename_i x y e;rw[e] at h2;simp at h2
   ·rfl
  rw[this];rfl
end
abbrev Hu(o ah:ad):Prop:=o.next≤ah.next∧∀i I,o.get i=some I→ah.get i=some I
theorem Acc.YI{o:ad}{R:Option Nat}{v:AV}{xs l:List AV}(h:Acc o R v xs):eA none (v::l)=some v:=by cases h<;>rfl
theorem Acc.YJ{o:ad}{R:Option Nat}{v:AV}{xs:List AV}(h:Acc o R v xs):Go.Lyc.conf none v=true:=by cases h<;>rfl
theorem Acc.inv{o:ad}{R:Option Nat}{v:AV}{xs:List AV}(h:Acc o R v xs)(hx:0<xs.length):∃I,v= .al I 0 xs.length R none∧o.get I=some (.cells (xs.flatMap AV.cells))∧∀y∈xs,Go.Lyc.conf R y=true:=by
 cases h with
 |nil=>cases hx
 |al I x xs h ab=>exact⟨I,rfl,h,ab⟩
theorem c6j{R:Option Nat}{x:AV}(h:conf R x=true):x.cells.length=shN R:=by
 cases R with
 |none=>rw[Mf h];rfl
 |some k=>obtain⟨l,rfl,au⟩:=Xk h;exact au
theorem YK{R:Option Nat}:∀ {xs:List AV} (j:Nat),(∀x∈xs,conf R x=true)→(xs.flatMap AV.cells).drop (j*shN R)=(xs.drop j).flatMap AV.cells
 |xs,0,_=>by rw[FR];rfl
 |[],j+1,_=>by simp
 |x::xs,j+1,h=>by
  have e:(j+1)*shN R=x.cells.length+j*shN R:=by rw[c6j (h x (by simp)),jV,sb,xH]
  rw[mb,e,← q2,List.drop_left,YK j fun y aJ=>h y (e_ _ aJ)];rfl
theorem c6k{R:Option Nat}{xs:List AV}{j:Nat}(aB:j<xs.length)(h:∀x∈xs,conf R x=true):eA R ((xs.flatMap AV.cells).drop (0+j*shN R))=some xs[j]:=by
 rw[rD,YK j h,xe aB,mb];exact(Cg (h _ (cB aB))).1
section
variable {env:Env}{aH:Option Nat}{D:List (Nat ⊕ (AV×List AV))}{n:Nat}{f:Nat→AV}{o:ad}{Q:fo}
theorem U.c6l{α:Type}{a b:bc}(L:α→List (Nat×AV))(aq:α→ad→Prop)(h1:ck env aH D n a f o (fun x bC ah=>x= .normal∧∃t,aq t ah∧sat (L t) bC))(h2:∀t ah g,aq t ah→ck env aH D n b (cg (L t) g) ah Q):ck env aH D n (.seq a b) f o Q:=U.seq (h1.mono fun x bC ah ⟨aE,t,aY,cZ⟩=>by
 subst aE;show ck env aH D n b bC ah Q;exact U.norm (L t) cZ fun g=>h2 t ah g aY)
end
section
variable {α:Type}[DecidableEq α]{fi:α→AV}{R:ja}
def setE(fi:α→AV):Nat→List α→List (AV×AV×Nat)
 |_,[]=>[]
 |i,k::ba=>(fi k,.b true,i)::setE fi (i+1) ba
def ti(k:α)(l:List α):List α:=if k∈l then l else l++[k]
theorem YL:∀(l:List α) (i:Nat) (k:α),setE fi i (l++[k])=setE fi i l++[(fi k,.b true,i+l.length)]
 |[],i,k=>rfl
 |x::l,i,k=>by
  show _::setE fi (i+1) (l++[k])=_;rw[YL l (i+1) k];show _=(fi x,AV.b true,i)::(setE fi (i+1) l++[(fi k,.b true,i+(l.length+1))]);rw[show i+1+l.length=i+(l.length+1) from by omega]
theorem YM(ax:∀a b,keyEq R (fi a) (fi b)=some (decide (a=b)))(k:α):∀(l:List α) (i:Nat),oL R (fi k) (.b true) (setE fi i l)=some (if k∈l then some (setE fi i l) else none)
 |[],i=>rfl
 |x::l,i=>by
  show(match keyEq R (fi k) (fi x) with
   |none=>none
   |some true=>some (some ((fi k,AV.b true,i)::setE fi (i+1) l))
   |some false=>match oL R (fi k) (AV.b true) (setE fi (i+1) l) with|none=>none|some none=>some none|some (some es)=>some (some ((fi x,AV.b true,i)::es)))=_
  rw[ax,YM ax k l (i+1)];by_cases h:k=x
  ·subst h;rw[decide_eq_true rfl,if_pos (iq)];rfl
  ·rw[decide_eq_false h];by_cases hm:k∈l
   ·rw[if_pos hm,if_pos (e_ _ hm)];rfl
   ·rw[if_neg hm,if_neg (by simp[h,hm])]
theorem YN:∀(l:List α) (i c:Nat),i+l.length≤c→cV (fun(e:AV×AV×Nat)=>Nat.blt e.2.2 c) (setE fi i l)=true
 |[],_,_,_=>rfl
 |x::l,i,c,h=>by
  show cond (Nat.blt i c) (cV _ (setE fi (i+1) l)) false=true;have h:i+(l.length+1)≤c:=h;rw[show Nat.blt i c=true from kg (by omega),cond_true];exact YN l (i+1) c (by omega)
def hz(seen:List Nat):Nat→List α→List (α×Nat)
 |_,[]=>[]
 |i,k::ba=>cond (kQ i seen) (hz seen (i+1) ba) ((k,i)::hz seen (i+1) ba)
theorem YO(seen:List Nat):∀(l:List α) (i:Nat),lF seen (setE fi i l)=(hz seen i l).map fun p=>(fi p.1,.b true,p.2)
 |[],_=>rfl
 |x::l,i=>by
  show cond (kQ i seen) (lF seen (setE fi (i+1) l)) ((fi x,.b true,i)::lF seen (setE fi (i+1) l))=_;rw[YO seen l (i+1),hz];cases kQ i seen<;>rfl
theorem M3(n:Nat)(j:Nat):∀(l:List Nat),kQ n (l++[j])=(kQ n l||Nat.beq j n)
 |[]=>by show cond (Nat.beq j n) true false=_;cases Nat.beq j n<;>rfl
 |x::l=>by
  show cond (Nat.beq x n) true (kQ n (l++[j]))=(cond (Nat.beq x n) true (kQ n l)||Nat.beq j n);rw[M3 n j l];cases Nat.beq x n<;>rfl
theorem YP:∀(l:List α) (i:Nat),(hz [] i l).map Prod.fst=l
 |[],_=>rfl
 |x::l,i=>by
  show x::(hz [] (i+1) l).map Prod.fst=_;rw[YP l (i+1)]
theorem Hv(seen:List Nat):∀(l:List α) (i:Nat) (p:α×Nat),p∈hz seen i l→i≤p.2
 |[],_,_,h=>by simp[hz] at h
 |x::l,i,p,h=>by
  rw[hz] at h;cases hm:kQ i seen with
  |true=>rw[hm] at h;have:=Hv seen l (i+1) p h;omega
  |false=>
   rw[hm,cond_false] at h;rcases dP.1 h with rfl|h
   ·exact bK _
   ·have:=Hv seen l (i+1) p h;omega
theorem YQ(seen:List Nat)(j:Nat):∀(l:List α) (i:Nat),j<i→hz (seen++[j]) i l=hz seen i l
 |[],_,_=>rfl
 |x::l,i,h=>by
  rw[hz,hz,M3,YQ seen j l (i+1) (by omega)];have:Nat.beq j i=false:=by
   cases hb:Nat.beq j i with
   |false=>rfl
   |true=>have:=eM hb;omega
  rw[this,Hg]
theorem M4(seen:List Nat):∀(l:List α) (i:Nat) (p:α×Nat),p∈hz seen i l→(p::hz (seen++[p.2]) i l).Perm (hz seen i l)
 |[],_,_,h=>by simp[hz] at h
 |x::l,i,p,h=>by
  rw[hz] at h ⊢;rw[hz,M3];cases hm:kQ i seen with
  |true=>
   rw[hm,cond_true] at h;rw[Bool.true_or,cond_true,cond_true];exact M4 seen l (i+1) p h
  |false=>
   rw[hm,cond_false] at h;rw[tW,cond_false];rcases dP.1 h with rfl|h
   ·rw[fR,cond_true,YQ seen i l (i+1) (by omega)]
   ·have jd:=Hv seen l (i+1) p h;have:Nat.beq p.2 i=false:=by
     cases hb:Nat.beq p.2 i with
     |false=>rfl
     |true=>have:=eM hb;omega
    rw[this,cond_false];exact(List.Perm.swap _ _ _).trans ((M4 seen l (i+1) p h).cons _)
theorem YR(seen:List Nat):∀(l:List α) (i:Nat) (p:α×Nat),p∈hz seen i l→nQ p.2 (setE fi i l)=some (fi p.1,.b true,p.2)
 |[],_,_,h=>by simp[hz] at h
 |x::l,i,p,h=>by
  rw[hz] at h;show cond (Nat.beq i p.2) (some (fi x,AV.b true,i)) (nQ p.2 (setE fi (i+1) l))=_;have key:∀h:p∈hz seen (i+1) l,cond (Nat.beq i p.2) (some (fi x,AV.b true,i)) (nQ p.2 (setE fi (i+1) l))=some (fi p.1,.b true,p.2):=fun h=>by
   have jd:=Hv seen l (i+1) p h;have:Nat.beq i p.2=false:=by
    cases hb:Nat.beq i p.2 with
    |false=>rfl
    |true=>have:=eM hb;omega
   rw[this,cond_false];exact YR seen l (i+1) p h
  cases hm:kQ i seen with
  |true=>rw[hm,cond_true] at h;exact key h
  |false=>
   rw[hm,cond_false] at h;rcases dP.1 h with rfl|h
   ·rw[fR];rfl
   ·exact key h
theorem YS(j:Nat):∀(l:List Nat),oM (l++[j])=some j
 |[]=>rfl
 |x::l=>by
  show(match oM (l++[j]) with|none=>some x|some y=>some y)=_;rw[YS j l]
section
variable {env:Env}{aH:Option Nat}{D:List (Nat ⊕ (AV×List AV))}{n:Nat}{f:Nat→AV}{o:ad}{Q:fo}
theorem aA.c6m{d:Nat}{wn:List Nat}{ops:List aQ}{x:az}{bz c:Nat}{es:List (AV×AV×Nat)}(k:Nat)(hn:o.next=k)(hm:o.get bz=some (.map es c))(an:Nat.blt d n=true)(h1:dV env n f x=some (.m (some bz)))
  (h:∀ah:ad,ah.next=k+1→ah.get k=some (.mapIter (some bz) c [] c)→(∀i I,o.get i=some I→ah.get i=some I)→dJ env aH D n ops (c7 f d (.p (some (k,0)))) ah Q):dJ env aH D n (⟨some d,.rangeMap x,none,wn⟩::ops) f o Q:=by
 subst hn;refine aA.val (v:=.p (some (o.next,0))) (ah:=o.push (.mapIter (some bz) c [] c)) an rfl ?_ (h (o.push (.mapIter (some bz) c [] c)) rfl (ad.jH _) fun i I aj=>by rw[ad.fZ trivial _ (ad.ei aj)];exact aj);show(match dV env n f x with
  |some (.m none)=>some (bG.val (jn o.next 0) (o.push (.mapIter none 0 [] 0)))
  |some (.m (some id))=>match o.get id with
   |some (.map _ cl)=>some (bG.val (jn o.next 0) (o.push (.mapIter (some id) cl [] cl)))
   |_=>none
  |_=>none)=_
 rw[h1];show(match o.get bz with
   |some (.map _ cl)=>some (bG.val (jn o.next 0) (o.push (.mapIter (some bz) cl [] cl)))
   |_=>none)=_
 rw[hm];rfl
theorem aA.c6n{d:Nat}{wn:List Nat}{ops:List aQ}{x:az}{bz it:Nat}{l:List α}{seen:List Nat}(jP:o.get it=some (.mapIter (some bz) l.length seen l.length))(hm:o.get bz=some (.map (setE fi 0 l) l.length))(an:Nat.blt d n=true)(h1:dV env n f x=some (.p (some (it,0))))
  (h0:hz seen 0 l=[]→dJ env aH D n ops (c7 f d (.aK [.b false])) o Q)
  (hs:∀p∈hz seen 0 l,∀ah:ad,ah.next=o.next→ah.get it=some (.mapIter (some bz) l.length (seen++[p.2]) l.length)→(∀i I,i≠it→o.get i=some I→ah.get i=some I)→dJ env aH D n ops (c7 f d (.aK [.b true,fi p.1,.b true])) ah Q):dJ env aH D n (⟨some d,.sf x,none,wn⟩::ops) f o Q:=by
 have e:opx 0 (dV env n f) o (.sf x)=(match lF seen (setE fi 0 l) with
       |[]=>some (bG.val (.aK [.b false]) o)
       |dF=>some (bG.gJ (dF.map fun(e:AV×AV×Nat)=>(.aK [.b true,e.1,e.2.1],o.set it (.mapIter (some bz) l.length (seen++[e.2.2]) l.length))))):=by
  show(match dV env n f x with
   |some (.p (some (it,0)))=>if Nat.blt it 0 then none else
    match o.get it with
    |some (.mapIter none _ _ _)=>some (bG.val (.aK [.b false]) o)
    |some (.mapIter (some id) since seen gB)=>match o.get id with
     |some (.map es cl)=>
      cond (Nat.beq cl since&&Nat.beq gB since&&cV (fun(e:AV×AV×Nat)=>Nat.blt e.2.2 since) es)
       (match lF seen es with
        |[]=>some (bG.val (.aK [.b false]) o)
        |l=>some (bG.gJ (l.map fun(e:AV×AV×Nat)=>(.aK [.b true,e.1,e.2.1],o.set it (.mapIter (some id) since (seen++[e.2.2]) cl))))) none
     |_=>none
    |_=>none
   |_=>none)=_
  rw[h1];show(if Nat.blt it 0 then none else
    match o.get it with
    |some (.mapIter none _ _ _)=>some (bG.val (.aK [.b false]) o)
    |some (.mapIter (some id) since seen gB)=>match o.get id with
     |some (.map es cl)=>
      cond (Nat.beq cl since&&Nat.beq gB since&&cV (fun(e:AV×AV×Nat)=>Nat.blt e.2.2 since) es)
       (match lF seen es with
        |[]=>some (bG.val (.aK [.b false]) o)
        |l=>some (bG.gJ (l.map fun(e:AV×AV×Nat)=>(.aK [.b true,e.1,e.2.1],o.set it (.mapIter (some id) since (seen++[e.2.2]) cl))))) none
     |_=>none
    |_=>none)=_
  rw[if_neg (by simp[Nat.blt,Nat.ble]),jP];show(match o.get bz with
     |some (.map es cl)=>
      cond (Nat.beq cl l.length&&Nat.beq l.length l.length&&cV (fun(e:AV×AV×Nat)=>Nat.blt e.2.2 l.length) es)
       (match lF seen es with
        |[]=>some (bG.val (.aK [.b false]) o)
        |dF=>some (bG.gJ (dF.map fun(e:AV×AV×Nat)=>(.aK [.b true,e.1,e.2.1],o.set it (.mapIter (some bz) l.length (seen++[e.2.2]) cl))))) none
     |_=>none)=_
  rw[hm];show cond (Nat.beq l.length l.length&&Nat.beq l.length l.length&&cV (fun(e:AV×AV×Nat)=>Nat.blt e.2.2 l.length) (setE fi 0 l)) _ none=_;rw[fR,YN l 0 l.length (by omega)];rfl
 rw[YO] at e;cases au:hz seen 0 l with
 |nil=>
  rw[au] at e;exact aA.val an rfl e (h0 au)
 |cons p0 t=>
  rw[au] at e;refine aA.gJ an rfl e (by simp) fun q aI=>?_;rw[qY] at aI;obtain⟨p,hp,rfl⟩:=fq.1 aI;rw[←au] at hp;exact hs p hp _ rfl (kr jP).1 (kr jP).2
theorem aA.c6o{d:Nat}{wn:List Nat}{ops:List aQ}{x:az}{bz it:Nat}{l:List α}{seen:List Nat}{p:α×Nat}(hp:p∈hz seen 0 l)(jP:o.get it=some (.mapIter (some bz) l.length (seen++[p.2]) l.length))(hm:o.get bz=some (.map (setE fi 0 l) l.length))(an:Nat.blt d n=true)(h1:dV env n f x=some (.p (some (it,0))))
  (h:dJ env aH D n ops (c7 f d (.aK [fi p.1,.b true])) o Q):dJ env aH D n (⟨some d,.entry x,none,wn⟩::ops) f o Q:=by
 refine aA.val an rfl ?_ h;show(match dV env n f x with
  |some (.p (some (it,0)))=>match o.get it with
   |some (.mapIter (some id) since seen gB)=>match o.get id with
    |some (.map es cl)=>cond (Nat.beq cl gB) (match oM seen with
     |some b=>match nQ b es with
      |some e=>some (bG.val (.aK [e.1,e.2.1]) o)
      |none=>none
     |none=>none) none
    |_=>none
   |_=>none
  |_=>none)=_
 rw[h1];show(match o.get it with
   |some (.mapIter (some id) since seen gB)=>match o.get id with
    |some (.map es cl)=>cond (Nat.beq cl gB) (match oM seen with
     |some b=>match nQ b es with
      |some e=>some (bG.val (.aK [e.1,e.2.1]) o)
      |none=>none
     |none=>none) none
    |_=>none
   |_=>none)=_
 rw[jP];show(match o.get bz with
    |some (.map es cl)=>cond (Nat.beq cl l.length) (match oM (seen++[p.2]) with
     |some b=>match nQ b es with
      |some e=>some (bG.val (.aK [e.1,e.2.1]) o)
      |none=>none
     |none=>none) none
    |_=>none)=_
 rw[hm];show cond (Nat.beq l.length l.length) (match oM (seen++[p.2]) with
     |some b=>match nQ b (setE fi 0 l) with
      |some e=>some (bG.val (.aK [e.1,e.2.1]) o)
      |none=>none
     |none=>none) none=_
 rw[fR,cond_true,YS];show(match nQ p.2 (setE fi 0 l) with
      |some e=>some (bG.val (.aK [e.1,e.2.1]) o)
      |none=>none)=_
 rw[YR seen l 0 p hp]
end
end
structure M5(B:Nat)(W:Nat→Prop)(o ah:ad):Prop where
 next:o.next≤ah.next
 old:∀i I,i<B→¬W i→o.get i=some I→ah.get i=some I
 it:∀i a b c d,o.get i=some (.mapIter a b c d)→ah.get i=some (.mapIter a b c d)
abbrev c6p(o ah:ad):Prop:=o.next≤ah.next∧∀i I,(∀a b c d,I≠ .mapIter a b c d)→o.get i=some I→ah.get i=some I
theorem Acc.c6q{o ah:ad}{R:Option Nat}{v:AV}{xs:List AV}(h:Acc o R v xs)(ax:∀i c,v.hU =some i→o.get i=some (.cells c)→ah.get i=some (.cells c)):Acc ah R v xs:=by
 cases h with
 |nil=>exact .nil
 |al I x xs h ab=>exact .al I x xs (ax _ _ rfl h) ab
theorem Acc.c6r{o:ad}{R:Option Nat}{v:AV}{xs:List AV}(h:Acc o R v xs){i:Nat}(hi:v.hU =some i):∃c,o.get i=some (.cells c):=by
 cases h with
 |nil=>cases hi
 |al I x xs h ab=>cases hi;exact⟨_,h⟩
inductive fA(o:ad)(R:Option Nat):AV→List AV→Prop
 |nil:fA o R .J []
 |al (I:Nat) (cap:Option Nat) (xs rest:List AV) (h:o.get I=some (.cells (xs.flatMap AV.cells++rest))) (ab:∀y∈xs,conf R y=true) (ax:cap=none∨cap=some xs.length):fA o R (.al I 0 xs.length R cap) xs
theorem fA.ee{o ai:ad}{R:Option Nat}{v:AV}{xs:List AV}(h:fA o R v xs)(k:∀i I,v.hU =some i→o.get i=some I→ai.get i=some I):fA ai R v xs:=by
 cases h with
 |nil=>exact .nil
 |al I cap xs rest h ab ax=>exact .al I cap xs rest (k _ _ rfl h) ab ax
theorem fA.conf{o:ad}{R:Option Nat}{v:AV}{xs:List AV}(h:fA o R v xs):∀y∈xs,conf R y=true:=by
 cases h with
 |nil=>intro y aJ;simp at aJ
 |al I cap xs rest h ab ax=>exact ab
theorem fA.len{o ai:ad}{R:Option Nat}{v:AV}{xs:List AV}(h:fA o R v xs):lenA ai 1 v=some xs.length:=by cases h<;>rfl
theorem fA.lt{o:ad}{R:Option Nat}{v:AV}{xs:List AV}(h:fA o R v xs){i:Nat}(hi:v.hU =some i):i<o.next:=by
 cases h with
 |nil=>cases hi
 |al I cap xs rest h ab ax=>cases hi;exact ad.ei h
theorem YT{R:Option Nat}:∀ {xs:List AV} {rest:List AV},(∀y∈xs,Go.Lyc.conf R y=true)→∀(j:Nat) (aB:j<xs.length),∃r,(xs.flatMap AV.cells++rest).drop (j*shN R)=(xs[j]).cells++r∧eA R ((xs[j]).cells++r)=some xs[j]
 |[],_,_,j,aB=>by simp at aB
 |x::xs,rest,h,0,_=>⟨xs.flatMap AV.cells++rest,by rw[FR,tU,mb,kn];rfl,(Cg (h x (by simp))).1⟩
 |x::xs,rest,h,j+1,aB=>by
  obtain⟨r,h1,h2⟩:=YT (rest:=rest) (fun y aJ=>h y (e_ _ aJ)) j (by simpa using aB);refine⟨r,?_,h2⟩;rw[mb,kn,show(j+1)*shN R=shN R+j*shN R from by rw[Nat.succ_mul,xH],← q2,(Cg (h x (by simp))).2,h1];rfl
theorem fA.m5{o:ad}{R:Option Nat}{v:AV}{xs:List AV}(h:fA o R v xs){j:Nat}(aB:j<xs.length):∃I c r,v.hU =some I∧idxSlA R v j=some (.p (some (I,j*shN R)))∧o.get I=some (.cells c)∧c.drop (j*shN R)=(xs[j]).cells++r∧eA R (c.drop (j*shN R))=some xs[j]:=by
 cases h with
 |nil=>simp at aB
 |al I cap xs rest h ab ax=>
  obtain⟨r,h1,h2⟩:=YT (rest:=rest) ab j aB;refine⟨I,_,r,rfl,?_,h,h1,by rw[h1];exact h2⟩;have h3:Nat.blt j xs.length=true:=kg aB;simp only[idxSlA,h3,decide_true,Eg,if_true,rD]
theorem fA.read{o:ad}{R:Option Nat}{v:AV}{xs:List AV}(h:fA o R v xs):readList o v=some xs:=by
 cases h with
 |nil=>rfl
 |al I cap xs rest h ab ax=>
  show(match o.get I with|some (.cells c)=>elems R xs.length (c.drop 0)|_=>none)=_;rw[h];exact Ch ab
theorem fA.append{o:ad}{R:Option Nat}{v x:AV}{xs aZ:List AV}{y:AV}{bytes:Nat}(h:fA o R v xs)(hx:newOf o x=some (y::aZ))(ab:∀z∈y::aZ,Go.Lyc.conf R z=true)(hb:(3*(xs.length+(y::aZ).length)+2000)*bytes≤281474976710656):
  ∃bJ ah,appendO 0 o R bytes v x=some (bJ,ah)∧fA ah R bJ (xs++y::aZ)∧bJ.hU =some o.next∧(∀I l c,bJ= .al I 0 l R c→c=none)∧ah.next=o.next+1∧∀i I,v.hU ≠some i→o.get i=some I→ah.get i=some I:=by
 have F5:=h.conf;have hall:(cV (Go.Lyc.conf R) xs&&cV (Go.Lyc.conf R) (y::aZ)&&Nat.ble ((3*(xs.length+(y::aZ).length)+2000)*bytes) 281474976710656)=true:=by
  rw[m2 F5,m2 ab,kg hb];rfl
 have af:=h.read;have mk:∀ai:ad,ai.next=o.next→fA (ai.push (.cells (xs.flatMap AV.cells++(y::aZ).flatMap AV.cells))) R (.al o.next 0 (xs.length+(y::aZ).length) R none) (xs++y::aZ):=fun ai MQ=>by
  have:=fA.al (o:=ai.push (.cells (xs.flatMap AV.cells++(y::aZ).flatMap AV.cells))) (R:=R) o.next none (xs++y::aZ) [] (by rw[←MQ,ad.jH,Yi,jv]) (fun z bw=>by
   rcases e4.1 bw with bw|bw
   ·exact F5 z bw
   ·exact ab z bw) (.inl rfl)
  rwa[k_] at this
 cases h with
 |nil=>
  refine⟨.al o.next 0 (y::aZ).length R none,o.push (.cells ((y::aZ).flatMap AV.cells)),?_,?_,rfl,fun _ _ _ h=>by cases h;rfl,rfl,fun i I _ aj=>by rw[ad.fZ trivial _ (ad.ei aj)];exact aj⟩
  ·unfold appendO;rw[hx];show cond _ _ none=_;rw[hall];rfl
  ·have:=mk o rfl;simpa using this
 |al I cap xs rest h hc0 p2=>
  have an:∀i bE,i≠I→o.get i=some bE→((o.set I .dead).push (.cells (xs.flatMap AV.cells++(y::aZ).flatMap AV.cells))).get i=some bE:=fun i bE bS aj=>by
   have bu:=ad.ei aj;rw[ad.fZ trivial _ (show i<(o.set I .dead).next from bu),ad.ix trivial _ (ad.ei h),if_neg bS];exact aj
  rcases p2 with rfl|rfl
  ·refine⟨.al o.next 0 (xs.length+(y::aZ).length) R none,(o.set I .dead).push (.cells (xs.flatMap AV.cells++(y::aZ).flatMap AV.cells)),?_,mk _ rfl,rfl,fun _ _ _ h=>by cases h;rfl,rfl,fun i bE bS aj=>an i bE (fun e=>bS (by rw[e];rfl)) aj⟩;unfold appendO;rw[af,hx];show cond _ _ none=_;rw[hall,cond_true];show(if R=R then(if Nat.blt I 0 then none else if Nat.beq 0 0 then some (AV.al o.next 0 (xs.length+(y::aZ).length) R none,(o.set I .dead).push (.cells (xs.flatMap AV.cells++(y::aZ).flatMap AV.cells))) else none) else none)=_;rw[if_pos rfl,if_neg (by simp[Nat.blt,Nat.ble]),if_pos (by rfl)]
  ·refine⟨.al o.next 0 (xs.length+(y::aZ).length) R none,o.push (.cells (xs.flatMap AV.cells++(y::aZ).flatMap AV.cells)),?_,mk _ rfl,rfl,fun _ _ _ h=>by cases h;rfl,rfl,fun i bE _ aj=>by rw[ad.fZ trivial _ (ad.ei aj)];exact aj⟩;unfold appendO;rw[af,hx];show cond _ _ none=_;rw[hall,cond_true];show(if R=R then cond (Nat.ble (xs.length+(y::aZ).length) xs.length) _ (some (AV.al o.next 0 (xs.length+(y::aZ).length) R none,o.push (.cells (xs.flatMap AV.cells++(y::aZ).flatMap AV.cells)))) else none)=_;rw[if_pos rfl,show Nat.ble (xs.length+(y::aZ).length) xs.length=false from by rw[Ww];intro h;have:=eY h;simp only[jD] at this;omega];rfl
namespace W
section
variable {md:s0}{env:Env}{aH:Option Nat}{D:List (Nat ⊕ (AV×List AV))}{n:Nat}{F:List (Nat×AV)}{z:Nat→AV}{o:ad}{Q:fo}
theorem YU{d:Nat}{R:Option Nat}{x:az}{g:Option (Nat×Bool)}{ops:List aQ}{id off:Nat}{c:List AV}{v:AV}(hs:o.get id=some (.cells c))(an:Nat.blt d n=true)(hw:wtL g n F=true)(h1:eW env n F z x=some (.p (some (id,off))))(h2:eA R (c.drop off)=some v)(h:cU md env aH D n ops (cg ((d,v)::F) z) o Q):cU md env aH D n (⟨some d,.load R x,g,[]⟩::ops) (cg F z) o Q:=val an hw (qp _ _ h1 (sT hs h2)) h
theorem le{d:Nat}{R:Option Nat}{x:az}{g:Option (Nat×Bool)}{ops:List aQ}{a v:AV}(an:Nat.blt d n=true)(hw:wtL g n F=true)(h1:eW env n F z x=some a)(h2:q6 o R a=some v)(h:cU md env aH D n ops (cg ((d,v)::F) z) o Q):cU md env aH D n (⟨some d,.load R x,g,[]⟩::ops) (cg F z) o Q:=val an hw (qp _ _ h1 h2) h
theorem h7{L:List (Nat×List AV)}(H:Has o L){d m:Nat}{R:Option Nat}{oo:List AV}{ps:List (Nat×az)}{g:Option (Nat×Bool)}{ops:List aQ}{c:List AV}{k:Nat}(hn:o.next=k)(an:Nat.blt d n=true)(hw:wtL g n F=true)(au:jW (eW env n F z) (fun i fl=>i*fl) (ps.map fun p=>(p.1,shN R,p.2)) (hN m oo)=some c)
  (h:∀ai:ad,ai.next=k+1→Has ai ((k,c)::L)→(∀i I,o.get i=some I→ai.get i=some I)→cU md env aH D n ops (cg ((d,.al k 0 m R (some m))::F) z) ai Q):cU md env aH D n (⟨some d,.buildSlice R m oo ps,g,[]⟩::ops) (cg F z) o Q:=by
 subst hn;have ks:∀i I,o.get i=some I→(o.push (.cells c)).get i=some I:=fun i I aj=>by rw[ad.fZ trivial _ (ad.ei aj)];exact aj
 refine val (v:=.al o.next 0 m R (some m)) (ah:=o.push (.cells c)) an hw ?_ (h (o.push (.cells c)) rfl (H.push rfl (ad.jH _) ks) ks);show(match jW (eW env n F z) (fun i fl=>i*fl) (ps.map fun p=>(p.1,shN R,p.2)) (hN m oo) with
  |some c=>some (bG.val (.al o.next 0 m R (some m)) (o.push (.cells c)))
  |none=>none)=_
 rw[au]
theorem ap{d:Nat}{R:Option Nat}{bytes:Nat}{s x:az}{g:Option (Nat×Bool)}{ops:List aQ}{v w:AV}{xs:List AV}(y:AV)(aZ:List AV)(hA:fA o R v xs)(hx:newOf o w=some (y::aZ))(ab:∀z∈y::aZ,Go.Lyc.conf R z=true)(hb:(3*(xs.length+(y::aZ).length)+2000)*bytes≤281474976710656)(an:Nat.blt d n=true)(hw:wtL g n F=true)(h1:eW env n F z s=some v)(h2:eW env n F z x=some w)
  (h:∀bJ ai,fA ai R bJ (xs++y::aZ)→bJ.hU =some o.next→(∀I l c,bJ= .al I 0 l R c→c=none)→ai.next=o.next+1→(∀i I,v.hU ≠some i→o.get i=some I→ai.get i=some I)→cU md env aH D n ops (cg ((d,bJ)::F) z) ai Q):cU md env aH D n (⟨some d,.append R bytes s x,g,[]⟩::ops) (cg F z) o Q:=by
 obtain⟨bJ,ai,e,a,b,c,e5,eQ⟩:=hA.append hx ab hb;refine val (v:=bJ) (ah:=ai) an hw ?_ (h bJ ai a b c e5 eQ);show(match eW env n F z s,eW env n F z x with|some s,some x=>(match appendO 0 o R bytes s x with|some (v,o)=>some (bG.val v o)|none=>none)|_,_=>none)=_;rw[h1,h2];show(match appendO 0 o R bytes v w with|some (v,o)=>some (bG.val v o)|none=>none)=_;rw[e]
end
end W
structure u5 where
 CS:Nat
 op:Nat
 hyp:Bool
 f:Fm
 c6s:List Nat
 cs:List (Nat×Nat)
abbrev aV(F:Fm):List AV:=[.i .u8 (Int.ofNat F.op),.s F.name,cR true F.cH,dk true F.ea]
theorem oq(F:Fm):F.A true= .ag (aV F):=by unfold Fm.A;rw[Fm.fF]
abbrev M6(I:Bool)(l:List (Nat×Nat)):AV:=.aD I (some 2) (l.map fun c=>.ag [aC c.1,aC c.2])
theorem YV{ai:ad}{I:Bool}{l:List (Nat×Nat)}:lenA ai 1 (M6 I l)=some l.length:=congrArg some (dO _)
theorem YW{I:Bool}{l:List (Nat×Nat)}{j:Nat}(h:j<l.length):idxSlA (some 2) (M6 I l) j=some (.cG I (.ag [aC (l[j]).1,aC (l[j]).2])):=by
 have:=wT (I:=I) (R:=some 2) (l:=some l) (g:=fun c:Nat×Nat=>AV.ag [aC c.1,aC c.2]) h;exact this
abbrev u5.A(x:u5):AV:=.ag [aC x.CS,aC x.op,.b x.hyp,.i .u8 (Int.ofNat x.f.op),.s x.f.name,cR true x.f.cH,dk true x.f.ea,.s x.c6s,M6 true x.cs]
abbrev YX(L:List u5):AV:=.aD true (some 9) (L.map u5.A)
theorem YY{L:List u5}{j:Nat}(h:j<L.length):idxSlA (some 9) (YX L) j=some (.cG true (L[j]).A):=by
 have:=Me (I:=true) (R:=some 9) (f:=u5.A) h;cases L with
 |nil=>simp at h
 |cons x l=>exact this
theorem YZ{o:ad}{L:List u5}:lenA o 1 (YX L)=some L.length:=by show some (L.map u5.A).length=_;rw[dO]
@[irreducible] def Hw (R:Option Nat) (v:AV) (j:Nat):AV:=(idxSlA R v j).getD .fb
theorem Y0{R:Option Nat}{v w:AV}{j:Nat}(h:idxSlA R v j=some w):Hw R v j=w:=by unfold Hw;rw[h];rfl
structure xh(o:ad)(R:Option Nat)(v:AV)(xs:List AV):Prop where
 len:∀ai,lenA ai 1 v=some xs.length
 dg:∀ {j},j<xs.length→idxSlA R v j=some (Hw R v j)
 a1:∀ {j} (h:j<xs.length),q6 o R (Hw R v j)=some xs[j]
theorem fA.e0d{o:ad}{R:Option Nat}{v:AV}{xs:List AV}(h:fA o R v xs):xh o R v xs:=
 ⟨fun ai=>h.len,fun {j} aB=>by obtain⟨I,c,r,h0,h1,_⟩:=h.m5 aB;rw[Y0 h1];exact h1,fun {j} aB=>by
  obtain⟨I,c,r,h0,h1,h2,h3,aN⟩:=h.m5 aB;rw[Y0 h1];exact sT h2 aN⟩
theorem Y1{I:Bool}{R:Option Nat}{l:List AV}:conf none (slA I R l)=true:=by cases l<;>rfl
theorem Y2{a:Nat}(h:a+1<2^63):binop .add (aC a) (.i .i64 1)=some (aC (a+1)):=mv (b:=1) h
theorem Y3{a:Nat}(h1:1≤a)(h:a<2^63):binop .sub (aC a) (.i .i64 1)=some (aC (a-1)):=F4 (b:=1) h1 h
theorem aa{P aq:Prop}(k:aq)(h:Hid aq→P:=by
 intro k
 repeat (first
  |refine W.go rfl rfl rfl rfl ?_
  |refine W.off rfl rfl ?_
  |(refine W.XH ?_;first|refine W.lt rfl rfl rfl rfl ?_|refine W.lt rfl rfl rfl Y1 ?_|(refine W.a1 (c:=?_) (v:=?_) H rfl rfl rfl ?_ ?_ ?_;rotate_left 2;(repeat (first|exact .head _|refine .tail _ ?_));exact rfl)|refine W.le rfl rfl rfl (CT.a1 (by assumption) (by omega)) ?_|refine W.le rfl rfl rfl (xh.a1 (by assumption) (by omega)) ?_)
  |(refine W.XJ ?_;first|refine W.ct rfl rfl rfl rfl (by simp only[W.cmpP,jD,uu];first|done|omega|exact id|exact fun h=>h trivial) ?_|refine W.cf rfl rfl rfl rfl rfl (by simp only[W.cmpP,jD,uu];first|done|omega|exact id|exact fun h=>h trivial) ?_|refine W.bin rfl rfl rfl rfl (Y2 (by omega)) ?_|refine W.bin rfl rfl rfl rfl (Y3 (by omega) (by omega)) ?_|refine W.bin rfl rfl rfl rfl (mv (by omega)) ?_|refine W.bin rfl rfl rfl rfl (F4 (by omega) (by omega)) ?_)
  |(refine W.XK ?_;first|refine W.dg rfl rfl rfl rfl (YY (by omega)) ?_|refine W.dg rfl rfl rfl rfl (YW (by omega)) ?_|refine W.dg rfl rfl rfl rfl (Me (by omega)) ?_|refine W.dg rfl rfl rfl rfl (CT.dg (by assumption) (by omega)) ?_|refine W.dg rfl rfl rfl rfl (xh.dg (by assumption) (by omega)) ?_)
  |(refine W.XL ?_;first|refine W.len rfl rfl rfl YZ ?_|refine W.len rfl rfl rfl YV ?_|refine W.len rfl rfl rfl Xj ?_|refine W.len rfl rfl rfl (CT.len (by assumption) _) ?_|refine W.len rfl rfl rfl (xh.len (by assumption) _) ?_|refine W.len rfl rfl rfl rfl ?_)
  |(refine W.XI ?_;first|(refine W.sZ (c:=?_) (v:=?_) H rfl rfl rfl ?_ ?_ ?_ ?_;rotate_left 2;(repeat (first|exact .head _|refine .tail _ ?_));exact rfl;first|exact yV rfl|exact XM rfl))
  |refine W.aU ?_|refine W.rg ?_|refine W.c5n rfl ?_|refine W.c5k ?_|refine U.block (a:=.seq _ _) ?_|refine U.block (a:=.region _) ?_|refine U.block (a:=.draw _) ?_|refine U.block (a:=.cond _ _ _) ?_
  |refine W.nil ?_|refine W.c5o ?_
  |refine W.now (_::_) _ rfl rfl (by(repeat (refine qs.c H (by repeat (first|exact List.Mem.head _|refine List.Mem.tail _ ?_)) ?_));exact trivial) ?_
  |refine W.c5l rfl ?_|refine W.c5m rfl ?_)
 exact k.out):P:=h ⟨k⟩
theorem lv{P aq:Prop}(k:aq)(h:Hid aq→P:=by
 intro k
 repeat (first
  |refine W.go rfl rfl rfl rfl ?_
  |refine W.off rfl rfl ?_
  |(refine W.XH ?_;first|refine W.lt rfl rfl rfl rfl ?_|refine W.lt rfl rfl rfl Y1 ?_|(refine W.a1 (c:=?_) (v:=?_) H rfl rfl rfl ?_ ?_ ?_;rotate_left 2;(repeat (first|exact .head _|refine .tail _ ?_));exact rfl)|refine W.le rfl rfl rfl (CT.a1 (by assumption) (by omega)) ?_|refine W.le rfl rfl rfl (xh.a1 (by assumption) (by omega)) ?_)
  |(refine W.XJ ?_;first|refine W.ct rfl rfl rfl rfl (by simp only[W.cmpP,jD,uu];first|done|omega|exact id|exact fun h=>h trivial) ?_|refine W.cf rfl rfl rfl rfl rfl (by simp only[W.cmpP,jD,uu];first|done|omega|exact id|exact fun h=>h trivial) ?_|refine W.bin rfl rfl rfl rfl (Y2 (by omega)) ?_|refine W.bin rfl rfl rfl rfl (Y3 (by omega) (by omega)) ?_|refine W.bin rfl rfl rfl rfl (mv (by omega)) ?_|refine W.bin rfl rfl rfl rfl (F4 (by omega) (by omega)) ?_)
  |(refine W.XK ?_;first|refine W.dg rfl rfl rfl rfl (YY (by omega)) ?_|refine W.dg rfl rfl rfl rfl (YW (by omega)) ?_|refine W.dg rfl rfl rfl rfl (Me (by omega)) ?_|refine W.dg rfl rfl rfl rfl (CT.dg (by assumption) (by omega)) ?_|refine W.dg rfl rfl rfl rfl (xh.dg (by assumption) (by omega)) ?_)
  |(refine W.XL ?_;first|refine W.len rfl rfl rfl YZ ?_|refine W.len rfl rfl rfl YV ?_|refine W.len rfl rfl rfl Xj ?_|refine W.len rfl rfl rfl (CT.len (by assumption) _) ?_|refine W.len rfl rfl rfl (xh.len (by assumption) _) ?_|refine W.len rfl rfl rfl rfl ?_)
  |(refine W.XI ?_;first|(refine W.sZ (c:=?_) (v:=?_) H rfl rfl rfl ?_ ?_ ?_ ?_;rotate_left 2;(repeat (first|exact .head _|refine .tail _ ?_));exact rfl;first|exact yV rfl|exact XM rfl))
  |refine W.now (_::_) _ rfl rfl (by(repeat (refine qs.c H (by repeat (first|exact List.Mem.head _|refine List.Mem.tail _ ?_)) ?_));exact trivial) ?_)
 exact k.out):P:=h ⟨k⟩
def resV(o:ad)(f:Nat→AV)(r:Nat×Option (Option Nat)):Option AV:=
 match r.2 with
 |none=>some (f r.1)
 |some R=>match f r.1 with
  | .p (some (id,off))=>match o.get id with
   |some (.cells c)=>eA R (c.drop off)
   |_=>none
  |_=>none
def xi(o:ad)(f:Nat→AV)(rs:List (Nat×Option (Option Nat))):Option AV:=
 match mapO (resV o f) rs with
 |some [v]=>some v
 |some aX=>some (.aK aX)
 |none=>none
theorem c6t{D:List (Nat ⊕ (AV×List AV))}{n:Nat}{f:Nat→AV}{ae:Fr}(o:ad)(h:hc D n f ae){r:Nat×Option (Option Nat)}(af:Nat.blt r.1 n=true):resultOf o ae.aW r=resV o f r:=by
 have hg:=h.get r.1;have hn:r.1<n:=eY af;rw[if_pos hn] at hg;obtain⟨d,I⟩:=r;unfold resultOf resV;simp only[] at hg ⊢;rw[hg];cases I with
 |none=>rfl
 |some R=>
  cases f d with
  |p a=>cases a with
   |none=>rfl
   |some a=>rfl
  |_=>rfl
theorem Y4{D:List (Nat ⊕ (AV×List AV))}{n:Nat}{f:Nat→AV}{ae:Fr}(o:ad)(h:hc D n f ae){rs:List (Nat×Option (Option Nat))}(af:cV (fun r=>Nat.blt r.1 n) rs=true):resultsOf o ae.aW rs=xi o f rs:=by
 have:mapO (resultOf o ae.aW) rs=mapO (resV o f) rs:=yy fun x hx=>c6t o h (sU af x hx);show(match mapO (resultOf o ae.aW) rs with|some [v]=>some v|some aX=>some (.aK aX)|none=>none)=match mapO (resV o f) rs with|some [v]=>some v|some aX=>some (.aK aX)|none=>none
 rw[this]
theorem c6u{env:Env}{fn:bV}{n:Nat}{f:Nat→AV}{ae:Fr}{o:ad}{v:AV}(h1:hc [] n f ae)(an:cV (fun r=>Nat.blt r.1 n) fn.results=true)(av:xi o f fn.results=some v):endF env 0 fn (.ret,ae,o)=some [(.ok v,o)]:=by
 show(match leave 0 (callD env 0) ae.defers none o with
  |none=>none
  |some (some v,o)=>some [(c6.err v,o)]
  |some (none,o)=>match resultsOf o ae.aW fn.results with
   |some v=>some [(.ok v,o)]
   |none=>none)=_
 rw[h1.ds];show(match resultsOf o ae.aW fn.results with|some v=>some [(c6.ok v,o)]|none=>none)=_;rw[Y4 o h1 an,av]
theorem pn{o:ad}{f:Nat→AV}{d id off:Nat}{R:Option Nat}{c:List AV}{v:AV}(h:f d= .p (some (id,off)))(hg:o.get id=some (.cells c))(ht:eA R (c.drop off)=some v):resV o f (d,some R)=some v:=by
 show(match f d with| .p (some (id,off))=>(match o.get id with|some (.cells c)=>eA R (c.drop off)|_=>none)|_=>none)=_;rw[h];show(match o.get id with|some (.cells c)=>eA R (c.drop off)|_=>none)=_;rw[hg];exact ht
theorem aS{o:ad}{f:Nat→AV}{d:Nat}{v:AV}(h:f d=v):resV o f (d,none)=some v:=by rw[←h];rfl
theorem aR{o:ad}{f:Nat→AV}{x:Nat×Option (Option Nat)}{v:AV}(h:resV o f x=some v):xi o f [x]=some v:=by
 show(match mapO (resV o f) [x] with|some [v]=>some v|some aX=>some (.aK aX)|none=>none)=_;rw[mapO_cons,h];rfl
theorem Hx{o:ad}{f:Nat→AV}{x y:Nat×Option (Option Nat)}{v w:AV}(h:resV o f x=some v)(h2:resV o f y=some w):xi o f [x,y]=some (.aK [v,w]):=by
 show(match mapO (resV o f) [x,y] with|some [v]=>some v|some aX=>some (.aK aX)|none=>none)=_;rw[mapO_cons,mapO_cons,h,h2];rfl
def eO(rs:List (Nat×Option (Option Nat)))(r:AV):fo:=fun x f ah=>x= .ret∧∃v,xi ah f rs=some v∧freeze ah 0 1000 v=some r
theorem fH{P:Program}{b:cv}{K:Nat→List AV→AV→Prop}(hb:iE P b)(cX:yQ P b K){g:Nat}{fn:bV}{body:bc}{aO:List AV}(r:AV)(hf:b.funcs.get g=some fn)(j0:fn.body=some body)
  (hn:(Nat.beq aO.length fn.kz&&Nat.ble aO.length fn.ntmps)=true) (an:cV (fun r=>Nat.blt r.1 fn.ntmps) fn.results=true) {ae:Nat} (af:j8 ae r=true) (gC:AV.eqb 1000 r r=true)
  (h:U (b.bj K) fn.ntmps body (c4 aO) ⟨.nil,0⟩ (eO fn.results r)) (cM:Nat):SpecEntry P (b.env []) cM g aO r:=by
 have hle:aO.length≤fn.ntmps:=by
  simp only[bT] at hn;exact eY hn.2
 refine FZ (env:=b.bj K) (m:=1000) (FT _ _) ⟨fun g cA hg=>o_.yM hb.funcs g cA hg⟩ (fun cM g aO r hs=>cX g aO r (F0 hs) cM) hb.ext hb.rG hf j0 hn af ((h _ (wP hle)).mono fun x ae ah ⟨f,h1,h2,v,h3,aN⟩=>?_) gC cM;subst h2;exact⟨.ok v,_,c6u h1 an h3,_,rfl,aN⟩
section
variable {b:cv}{K:Nat→List AV→AV→Prop}
theorem W.M7{α:Type}{env:Env}{aH:Option Nat}{D:List (Nat ⊕ (AV×List AV))}{n:Nat}{a:bc}{f:Nat→AV}{o:ad}{Q:fo}(L:α→List (Nat×AV))(aq:α→ad→Prop)(h1:ck env aH D n a f o (fun x bC ah=>x= .normal∧∃p,aq p ah∧sat (L p) bC))(h2:∀p g ah,aq p ah→Q .normal (cg (L p) g) ah):ck env aH D n a f o Q:=
 h1.mono fun x bC ah ⟨aE,p,aY,cZ⟩=>by
  subst aE;rw[←Cc cZ];exact h2 p bC ah aY
end
end
section
variable [Tok][TokOk]
open Go.RowKit Go.Lyc.T
attribute [local irreducible] cU ck dJ fP cy
theorem c6v(a b:List Nat):eqL a b=decide (a=b):=by
 by_cases h:a=b
 ·subst h;rw[wQ,decide_eq_true rfl]
 ·rw[decide_eq_false h];cases e:eqL a b with
  |false=>rfl
  |true=>exact absurd ((kU a b).1 e) h
theorem Hy(a b:List Nat):keyEq (.inl 1) (.s a) (.s b)=some (decide (a=b)):=by
 show some (eqL a b)=_;rw[c6v]
namespace W
section
variable {md:s0}{env:Env}{aH:Option Nat}{D:List (Nat ⊕ (AV×List AV))}{n:Nat}{F:List (Nat×AV)}{z:Nat→AV}{o:ad}{Q:fo}{g:Option (Nat×Bool)}{ops:List aQ}
theorem c6w{aw:az→Option AV}{R:ja}{x y:az}{bz cl:Nat}{key oo:AV}{two:Bool}{es:List (AV×AV×Nat)}{r:Option AV}(hm:o.get bz=some (.map es cl))(h1:aw x=some (.m (some bz)))(h2:aw y=some key)(ax:keySelf R key=true)(hf:nP R key es=some r):opx 0 aw o (.lookup R x y oo two)=some (.val (v2 two (r.getD oo) r.isSome) o):=by
 show(match aw x,aw y with|some x,some k=>(match cond (keySelf R k) (match x with
  | .m none=>some (v2 two oo false)
  | .m (some id)=>match o.get id with
   |some (.map es _)=>match nP R k es with|some (some v)=>some (v2 two v true)|some none=>some (v2 two oo false)|none=>none
   |_=>none
  |_=>none) none with|some v=>some (bG.val v o)|none=>none)|_,_=>none)=_
 rw[h1,h2];show(match cond (keySelf R key) (match o.get bz with|some (.map es _)=>(match nP R key es with|some (some v)=>some (v2 two v true)|some none=>some (v2 two oo false)|none=>none)|_=>none) none with|some v=>some (bG.val v o)|none=>none)=_;rw[ax,cond_true,hm];show(match(match nP R key es with|some (some v)=>some (v2 two v true)|some none=>some (v2 two oo false)|none=>none) with|some v=>some (bG.val v o)|none=>none)=_;rw[hf];cases r<;>rfl
theorem pc{d:Nat}{R:ja}{x y:az}{bz cl:Nat}{key oo:AV}{two:Bool}{es:List (AV×AV×Nat)}{r:Option AV}(hm:o.get bz=some (.map es cl))(an:Nat.blt d n=true)(hw:wtL g n F=true)(h1:eW env n F z x=some (.m (some bz)))(h2:eW env n F z y=some key)(ax:keySelf R key=true)(hf:nP R key es=some r)
  (h:cU md env aH D n ops (cg ((d,v2 two (r.getD oo) r.isSome)::F) z) o Q):cU md env aH D n (⟨some d,.lookup R x y oo two,g,[]⟩::ops) (cg F z) o Q:=val an hw (c6w hm h1 h2 ax hf) h
end
end W
def M8(es:List (AV×AV×Nat))(cl:Nat)(key v:AV):Option (List (AV×AV×Nat))→AO
 |some db=>.map db cl
 |none=>.map (es++[(key,v,cl)]) (cl+1)
namespace W
section
variable {md:s0}{env:Env}{aH:Option Nat}{D:List (Nat ⊕ (AV×List AV))}{n:Nat}{F:List (Nat×AV)}{z:Nat→AV}{o:ad}{Q:fo}{g:Option (Nat×Bool)}{ops:List aQ}
theorem mu{R:ja}{x y u:az}{bz cl:Nat}{key v:AV}{t:Bool}{es:List (AV×AV×Nat)}{r:Option (List (AV×AV×Nat))}(hm:o.get bz=some (.map es cl))(hw:wtL g n F=true)(h1:eW env n F z x=some (.m (some bz)))(h2:eW env n F z y=some key)(h3:eW env n F z u=some v)(ax:keyEq R key key=some t)(hu:oL R key v es=some r)
  (h:∀ai:ad,ai.next=o.next→ai.get bz=some (M8 es cl key v r)→(∀i I,i≠bz→o.get i=some I→ai.get i=some I)→cU md env aH D n ops (cg F z) ai Q):cU md env aH D n (⟨none,.pK R x y u,g,[]⟩::ops) (cg F z) o Q:=by
 have hs:=fun bE=>kr (bE:=bE) hm;refine sM (v:=dw) (ah:=o.set bz (M8 es cl key v r)) hw ?_ (h _ rfl (hs _).1 (hs _).2);show(match eW env n F z x,eW env n F z y,eW env n F z u with
  |some (.m (some id)),some k,some v=>
   if Nat.blt id 0 then none else
   match o.get id with
   |some (.map es cl)=>match keyEq R k k with
    |none=>none
    |some _=>match oL R k v es with
    |some (some es)=>some (bG.val dw (o.set id (.map es cl)))
    |some none=>some (bG.val dw (o.set id (.map (es++[(k,v,cl)]) (cl+1))))
    |none=>none
   |_=>none
  |_,_,_=>none)=_
 rw[h1,h2,h3];show(if Nat.blt bz 0 then none else
   match o.get bz with
   |some (.map es cl)=>(match keyEq R key key with
    |none=>none
    |some _=>match oL R key v es with
    |some (some es)=>some (bG.val dw (o.set bz (.map es cl)))
    |some none=>some (bG.val dw (o.set bz (.map (es++[(key,v,cl)]) (cl+1))))
    |none=>none)
   |_=>none)=_
 rw[if_neg (by simp[Nat.blt,Nat.ble]),hm];simp only[ax,hu];cases r<;>rfl
theorem tj{L:List (Nat×List AV)}(H:Has o L){d k:Nat}(hn:o.next=k)(an:Nat.blt d n=true)(hw:wtL g n F=true)
  (h:∀ai:ad,ai.next=k+1→Has ai L→ai.get k=some (.map [] 0)→(∀i I,o.get i=some I→ai.get i=some I)→cU md env aH D n ops (cg ((d,.m (some k))::F) z) ai Q):cU md env aH D n (⟨some d,.mkMap,g,[]⟩::ops) (cg F z) o Q:=by
 subst hn;have ks:∀i I,o.get i=some I→(o.push (.map [] 0)).get i=some I:=fun i I aj=>by rw[ad.fZ trivial _ (ad.ei aj)];exact aj
 exact val (v:=.m (some o.next)) (ah:=o.push (.map [] 0)) an hw rfl (h _ rfl (H.ee ks) (ad.jH _) ks)
end
end W
theorem cls(c:Nat):c<48∨(48≤c∧c≤57)∨(57<c∧c<65)∨(65≤c∧c≤90)∨(90<c∧c<97)∨(97≤c∧c≤122)∨122<c:=by omega
def okB(i c:Nat):Bool:=decide ((97≤c∧c≤122)∨(65≤c∧c≤90)∨(48≤c∧c≤57∧i≠0))
def iI(l:List Nat):Bool:=decide (1≤l.length∧l.length≤16∧∀i,i<l.length→okB i (l.getD i 0)=true)
theorem CU{l:List Nat}(h:¬(1≤l.length∧l.length≤16∧∀i,i<l.length→okB i (l.getD i 0)=true)):iI l=false:=decide_eq_false h
section
variable {b:cv}{K:Nat→List AV→AV→Prop}
theorem Y5(l:List Nat)(au:l.length<2^62)(body:bc)(hb:Gp.body=some body):U (b.bj K) Gp.ntmps body (c4 [.s l]) ⟨.nil,0⟩ (eO Gp.results (.b (iI l))):=by
 cases hb;refine W.args fun z=>?_;have H:Has (⟨.nil,0⟩:ad) []:=Has.nil;have bad:∀ {ai:ad},¬(1≤l.length∧l.length≤16∧∀i,i<l.length→okB i (l.getD i 0)=true)→freeze ai 0 1000 (.b false)=some (.b (iI l)):=fun h=>by rw[CU h];rfl
 refine aa ?_;by_cases h1:l.length<1
 ·refine aa ?_;exact U.ret ⟨rfl,_,aR (aS rfl),bad fun h=>by omega⟩
 refine aa ?_;by_cases h2:16<l.length
 ·refine aa ?_;exact U.ret ⟨rfl,_,aR (aS rfl),bad fun h=>by omega⟩
 refine aa ?_;refine U.block (U.loop (fun k F ai=>∃j,j+k=l.length∧ai=⟨.nil,0⟩∧(∀i,i<j→okB i (l.getD i 0)=true)∧sat [(0,.s l),(3,aC j)] F) (fun k F ai bo=>?_) l.length ⟨0,by omega,rfl,fun i hi=>by omega,rfl,rfl,trivial⟩);obtain⟨j,aB,rfl,hok,b4⟩:=bo;refine U.norm _ b4 fun F=>?_;clear b4;have H:Has (⟨.nil,0⟩:ad) []:=Has.nil;by_cases b2:j<l.length
 ·refine aa ?_;refine W.val rfl rfl (pa (j:=j) rfl rfl (uy b2)) ?_;have qz:l.getD j 0=l[j]:=by rw[p5,cS b2];rfl
  have im:okB j l[j]=true→∀i,i<j+1→okB i (l.getD i 0)=true:=fun h i hi=>by
   rcases Hh.1 hi with hi|rfl
   ·exact hok i hi
   ·rw[qz];exact h
  have stop:¬okB j l[j]=true→¬(1≤l.length∧l.length≤16∧∀i,i<l.length→okB i (l.getD i 0)=true):=fun h h'=>h (by rw[←qz];exact h'.2.2 j b2);generalize l[j]=c at im stop;rcases cls c with h|h|h|h|h|h|h
  ·refine aa ?_;by_cases h0:j=0
   ·refine aa ?_;exact U.ret ⟨rfl,_,aR (aS rfl),bad (stop (by unfold okB;simp;omega))⟩
   ·refine aa ?_;exact U.ret ⟨rfl,_,aR (aS rfl),bad (stop (by unfold okB;simp;omega))⟩
  ·refine aa ?_;by_cases h0:j=0
   ·refine aa ?_;exact U.ret ⟨rfl,_,aR (aS rfl),bad (stop (by unfold okB;simp;omega))⟩
   ·refine aa ?_;exact⟨k-1,by omega,j+1,by omega,rfl,im (by unfold okB;simp;omega),rfl,rfl,trivial⟩
  ·refine aa ?_;by_cases h0:j=0
   ·refine aa ?_;exact U.ret ⟨rfl,_,aR (aS rfl),bad (stop (by unfold okB;simp;omega))⟩
   ·refine aa ?_;exact U.ret ⟨rfl,_,aR (aS rfl),bad (stop (by unfold okB;simp;omega))⟩
  ·refine aa ?_;exact⟨k-1,by omega,j+1,by omega,rfl,im (by unfold okB;simp;omega),rfl,rfl,trivial⟩
  ·refine aa ?_;by_cases h0:j=0
   ·refine aa ?_;exact U.ret ⟨rfl,_,aR (aS rfl),bad (stop (by unfold okB;simp;omega))⟩
   ·refine aa ?_;exact U.ret ⟨rfl,_,aR (aS rfl),bad (stop (by unfold okB;simp;omega))⟩
  ·refine aa ?_;exact⟨k-1,by omega,j+1,by omega,rfl,im (by unfold okB;simp;omega),rfl,rfl,trivial⟩
  ·refine aa ?_;by_cases h0:j=0
   ·refine aa ?_;exact U.ret ⟨rfl,_,aR (aS rfl),bad (stop (by unfold okB;simp;omega))⟩
   ·refine aa ?_;exact U.ret ⟨rfl,_,aR (aS rfl),bad (stop (by unfold okB;simp;omega))⟩
 ·refine aa ?_;refine U.exit ?_;show ck _ _ _ _ _ _ _ _;refine aa ?_;have yv:j=l.length:=by omega
  subst yv;exact U.ret ⟨rfl,_,aR (aS rfl),by rw[show iI l=true from decide_eq_true ⟨by omega,by omega,hok⟩];rfl⟩
theorem c6x(l:List Nat)(au:l.length<2^62)(body:bc)(hb:Gx.body=some body):U (b.bj K) Gx.ntmps body (c4 [.s l]) ⟨.nil,0⟩ (eO Gx.results (.b (iI l))):=Y5 l au body hb
end
abbrev c5(b:cv)(g:Nat):Prop:=b.ext g=0∧b.pure g=true
def kc(c bs hi:Nat):Bool:=decide (bs≤c∧c≤hi)
def po(d:Bool)(c:Nat):Prop:=(48≤c∧c≤57)∨(d=false∧((65≤c∧c≤90)∨(97≤c∧c≤122)))
def kJ(d:Bool)(l:List Nat):Bool:=@decide (0<l.length∧l.length≤16∧∀i,1≤i→i<l.length→po d (l.getD i 0)) (Classical.propDecidable _)
theorem Y6{d:Bool}{l:List Nat}(h:0<l.length∧l.length≤16∧∀i,1≤i→i<l.length→po d (l.getD i 0)):kJ d l=true:=@decide_eq_true _ (Classical.propDecidable _) h
theorem tk{d:Bool}{l:List Nat}(h:¬(0<l.length∧l.length≤16∧∀i,1≤i→i<l.length→po d (l.getD i 0))):kJ d l=false:=@decide_eq_false _ (Classical.propDecidable _) h
def hd0(p:Nat→Bool):List Nat→Bool
 |[]=>false
 |c::_=>p c
theorem all_cons{p:Nat→Bool}{P:Nat→Prop}(hp:∀c,p c=true↔P c)(c:Nat)(l:List Nat):l.all p=true↔∀i,1≤i→i<l.length+1→P ((c::l).getD i 0):=by
 rw[fI];constructor
 ·intro h i h1 h2;obtain⟨k,rfl⟩:∃k,i=k+1:=⟨i-1,by omega⟩
  rw[Yj,p5,cS (by omega)];exact(hp _).1 (h _ (cB _))
 ·intro h x hx;obtain⟨i,hi,e⟩:=Eh.1 hx;have:=h (i+1) (by omega) (by omega);rw[Yj,p5,cS hi] at this;rw[←e];exact(hp _).2 this
theorem Y7(c:Nat):mA c=true↔po true c:=by unfold mA po;simp
theorem Y8(c:Nat):m4 c=true↔po false c:=by unfold m4 mA isSmall om po;simp;omega
theorem M9{first other:Nat→Bool}{d:Bool}(hp:∀c,other c=true↔po d c)(l:List Nat):nameB first other l=(kJ d l&&(!iY l&&hd0 first l)):=by
 cases l with
 |nil=>rw[tk (by simp)];rfl
 |cons c l=>
  show(decide (l.length+1≤16)&&(!iY (c::l)&&(first c&&l.all other)))=_;have h:=all_cons hp c l;by_cases h1:l.length+1≤16
  ·rw[decide_eq_true h1,gS];cases ha:l.all other with
   |true=>
    rw[Y6 (d:=d) (l:=c::l) ⟨by simp,by simpa using h1,h.1 ha⟩];simp[hd0]
   |false=>
    rw[tk (d:=d) (l:=c::l) fun hh=>by rw[h.2 hh.2.2] at ha;cases ha];simp
  ·rw[decide_eq_false h1,tk fun hh=>h1 (by simpa using hh.2.1)];rfl
theorem Y9{l:List Nat}(h:iY l=true):∃c t,l=c::t∧97≤c∧(c=117→¬t.all mA=true):=by
 unfold iY at h;simp only[kO,kU] at h;rcases h with h|h|h|h|h|h<;>subst h<;>exact⟨_,_,rfl,by omega,by first|(intro h;omega)|(intro _;decide)⟩
theorem Y_(l:List Nat):isVar l=(kJ true l&&hd0 (fun c=>kc c 117 122) l):=by
 unfold isVar;rw[M9 Y7];cases af:iY l with
 |false=>rw[yI,gS];cases l with|nil=>rfl|cons c l=>show(_&&(decide _&&decide _))=(_&&decide _);congr 1;simp
 |true=>
  obtain⟨c,t,rfl,h1,h2⟩:=Y9 af;rw[Bh,CE,lU];cases au:kJ true (c::t) with
  |false=>rfl
  |true=>
   rw[gS];show false=decide (117≤c∧c≤122);refine(decide_eq_false fun ab=>?_).symm;unfold iY at af;simp only[kO,kU] at af;rcases af with h|h|h|h|h|h<;>injection h with h3 aN<;>subst h3<;>first|omega|skip
   refine h2 rfl ((all_cons Y7 117 t).2 ?_);have:=@of_decide_eq_true _ (Classical.propDecidable _) au;exact this.2.2
theorem Za(l:List Nat):gE l=(kJ false l&&hd0 (fun c=>kc c 65 90) l):=by
 unfold gE;rw[M9 Y8];cases af:iY l with
 |false=>rw[yI,gS];cases l with|nil=>rfl|cons c l=>show(_&&(decide _&&decide _))=(_&&decide _);congr 1;simp
 |true=>
  obtain⟨c,t,rfl,h1,h2⟩:=Y9 af;rw[Bh,CE,lU];show false=(_&&decide (65≤c∧c≤90));rw[decide_eq_false (by omega),lU]
def ot(l:List Nat):Bool:=eqL l [97,108,108]||(eqL l [115,111,109,101]||(eqL l [102,97,108,115,101]||(eqL l [110,101,120,116]||eqL l [97,108,119,97,121,115])))
theorem Zb(l:List Nat):isFun l=(!ot l&&(kJ false l&&hd0 (fun c=>kc c 97 116) l)):=by
 unfold isFun;rw[M9 Y8];have e:iY l=(ot l||eqL l [117,110,116,105,108]):=by unfold iY ot;simp only[zw]
 cases hu:eqL l [117,110,116,105,108] with
 |true=>
  have:=(kU _ _).1 hu;subst this;show(_&&(!iY _&&_))=(_&&(_&&decide (97≤117∧117≤116)));rw[e,hu];simp
 |false=>
  rw[e,hu,Hg];cases l with
  |nil=>cases kJ false []<;>rfl
  |cons c l=>
   show(_&&(_&&(decide _&&decide _)))=(_&&(_&&decide _));cases ot (c::l)<;>cases kJ false (c::l)<;>simp
section
variable {b:cv}{K:Nat→List AV→AV→Prop}
theorem c6y(l:List Nat)(au:l.length<2^62)(body:bc)(hb:GB.body=some body):U (b.bj K) GB.ntmps body (c4 [.s l]) ⟨.nil,0⟩ (eO GB.results (.b (iI l))):=by
 cases hb;refine W.args fun z=>?_;have H:Has (⟨.nil,0⟩:ad) []:=Has.nil;have bad:∀ {ai:ad},¬(1≤l.length∧l.length≤16∧∀i,i<l.length→okB i (l.getD i 0)=true)→freeze ai 0 1000 (.b false)=some (.b (iI l)):=fun h=>by rw[CU h];rfl
 refine aa ?_;by_cases h1:l.length=0
 ·refine aa ?_;exact U.ret ⟨rfl,_,aR (aS rfl),bad fun h=>by omega⟩
 refine aa ?_;by_cases h2:16<l.length
 ·refine aa ?_;exact U.ret ⟨rfl,_,aR (aS rfl),bad fun h=>by omega⟩
 refine aa ?_;refine U.block (U.loop (fun k F ai=>∃j,j+k=l.length∧ai=⟨.nil,0⟩∧(∀i,i<j→okB i (l.getD i 0)=true)∧sat [(0,.s l),(3,aC j)] F) (fun k F ai bo=>?_) l.length ⟨0,by omega,rfl,fun i hi=>by omega,rfl,rfl,trivial⟩);obtain⟨j,aB,rfl,hok,b4⟩:=bo;refine U.norm _ b4 fun F=>?_;clear b4;have H:Has (⟨.nil,0⟩:ad) []:=Has.nil;by_cases b2:j<l.length
 ·refine aa ?_;refine W.val rfl rfl (pa (j:=j) rfl rfl (uy b2)) ?_;have qz:l.getD j 0=l[j]:=by rw[p5,cS b2];rfl
  have im:okB j l[j]=true→∀i,i<j+1→okB i (l.getD i 0)=true:=fun h i hi=>by
   rcases Hh.1 hi with hi|rfl
   ·exact hok i hi
   ·rw[qz];exact h
  have stop:¬okB j l[j]=true→¬(1≤l.length∧l.length≤16∧∀i,i<l.length→okB i (l.getD i 0)=true):=fun h h'=>h (by rw[←qz];exact h'.2.2 j b2);generalize l[j]=c at im stop;rcases cls c with h|h|h|h|h|h|h
  ·refine aa ?_;exact U.ret ⟨rfl,_,aR (aS rfl),bad (stop (by unfold okB;simp;omega))⟩
  ·refine aa ?_;by_cases h0:j=0
   ·refine aa ?_;exact U.ret ⟨rfl,_,aR (aS rfl),bad (stop (by unfold okB;simp;omega))⟩
   ·refine aa ?_;exact⟨k-1,by omega,j+1,by omega,rfl,im (by unfold okB;simp;omega),rfl,rfl,trivial⟩
  ·refine aa ?_;exact U.ret ⟨rfl,_,aR (aS rfl),bad (stop (by unfold okB;simp;omega))⟩
  ·refine aa ?_;exact⟨k-1,by omega,j+1,by omega,rfl,im (by unfold okB;simp;omega),rfl,rfl,trivial⟩
  ·refine aa ?_;exact U.ret ⟨rfl,_,aR (aS rfl),bad (stop (by unfold okB;simp;omega))⟩
  ·refine aa ?_;exact⟨k-1,by omega,j+1,by omega,rfl,im (by unfold okB;simp;omega),rfl,rfl,trivial⟩
  ·refine aa ?_;exact U.ret ⟨rfl,_,aR (aS rfl),bad (stop (by unfold okB;simp;omega))⟩
 ·refine aa ?_;refine U.exit ?_;show ck _ _ _ _ _ _ _ _;refine aa ?_;have yv:j=l.length:=by omega
  subst yv;exact U.ret ⟨rfl,_,aR (aS rfl),by rw[show iI l=true from decide_eq_true ⟨by omega,by omega,hok⟩];rfl⟩
theorem c6z(c bs hi:Nat)(body:bc)(hb:G3.body=some body):U (b.bj K) G3.ntmps body (c4 [b5 c,b5 bs,b5 hi]) ⟨.nil,0⟩ (eO G3.results (.b (kc c bs hi))):=by
 cases hb;refine W.args fun z=>?_;have H:Has (⟨.nil,0⟩:ad) []:=Has.nil;refine aa ?_;by_cases h1:bs≤c
 ·refine aa ?_;by_cases h2:c≤hi
  ·refine aa ?_;exact U.ret ⟨rfl,_,aR (aS rfl),by rw[show kc c bs hi=true from decide_eq_true ⟨h1,h2⟩];rfl⟩
  ·refine aa ?_;exact U.ret ⟨rfl,_,aR (aS rfl),by rw[show kc c bs hi=false from decide_eq_false fun h=>h2 h.2];rfl⟩
 ·refine aa ?_;exact U.ret ⟨rfl,_,aR (aS rfl),by rw[show kc c bs hi=false from decide_eq_false fun h=>h1 h.1];rfl⟩
variable (hf:∀g aO r cj,K g aO r→K g aO cj→r=cj)
include hf
theorem c6A(nB:c5 b pj)(hi:∀c bs hi,K pj [b5 c,b5 bs,b5 hi] (.b (kc c bs hi)))(d:Bool)(l:List Nat)(au:l.length<2^62)(body:bc)(hb:G2.body=some body):
  U (b.bj K) G2.ntmps body (c4 [.s l,.b d]) ⟨.nil,0⟩ (eO G2.results (.b (kJ d l))):=by
 cases hb;refine W.args fun z=>?_;have H:Has (⟨.nil,0⟩:ad) []:=Has.nil;refine aa ?_;refine U.block (U.loop (fun k F ai=>∃j,j+k=max 1 l.length∧1≤j∧ai=⟨.nil,0⟩∧(∀i,1≤i→i<j→po d (l.getD i 0))∧sat [(0,.s l),(1,.b d),(5,aC j)] F) (fun k F ai bo=>?_) (max 1 l.length-1) ⟨1,by omega,by omega,rfl,fun i _ hi=>by omega,rfl,rfl,rfl,trivial⟩);obtain⟨j,aB,c6B,rfl,hok,b4⟩:=bo;refine U.norm _ b4 fun F=>?_;clear b4;have H:Has (⟨.nil,0⟩:ad) []:=Has.nil;by_cases b2:j<l.length
 ·have bI:=uy b2;have qz:l.getD j 0=l[j]:=by rw[p5,cS b2];rfl
  have im:po d l[j]→∀i,1≤i→i<j+1→po d (l.getD i 0):=fun h i h1 hi=>by
   rcases Hh.1 hi with hi|rfl
   ·exact hok i h1 hi
   ·rw[qz];exact h
  have stop:∀ {ai:ad},¬po d l[j]→freeze ai 0 1000 (.b false)=some (.b (kJ d l)):=fun h=>by rw[tk fun h'=>h (by rw[←qz];exact h'.2.2 j c6B b2)];rfl
  generalize l[j]=c at im stop bI;refine aa ?_;refine W.val rfl rfl (pa (j:=j) rfl rfl bI) ?_;refine W.cx hf nB (hi c 48 57) rfl rfl rfl (sV rfl rfl rfl) ?_;by_cases h1:48≤c∧c≤57
  ·rw[show kc c 48 57=true from decide_eq_true h1];refine aa ?_;exact⟨k-1,by omega,j+1,by omega,by omega,rfl,im (.inl h1),rfl,rfl,rfl,trivial⟩
  rw[show kc c 48 57=false from decide_eq_false h1];cases d with
  |true=>
   refine aa ?_;exact U.ret ⟨rfl,_,aR (aS rfl),stop fun h=>by rcases h with h|h;exact h1 h;cases h.1⟩
  |false=>
  refine aa ?_;refine W.val rfl rfl (pa (j:=j) rfl rfl bI) ?_;refine W.cx hf nB (hi c 65 90) rfl rfl rfl (sV rfl rfl rfl) ?_;by_cases h2:65≤c∧c≤90
  ·rw[show kc c 65 90=true from decide_eq_true h2];refine aa ?_;exact⟨k-1,by omega,j+1,by omega,by omega,rfl,im (.inr ⟨rfl,.inl h2⟩),rfl,rfl,rfl,trivial⟩
  rw[show kc c 65 90=false from decide_eq_false h2];refine aa ?_;refine W.val rfl rfl (pa (j:=j) rfl rfl bI) ?_;refine W.cx hf nB (hi c 97 122) rfl rfl rfl (sV rfl rfl rfl) ?_;by_cases h3:97≤c∧c≤122
  ·rw[show kc c 97 122=true from decide_eq_true h3];refine aa ?_;exact⟨k-1,by omega,j+1,by omega,by omega,rfl,im (.inr ⟨rfl,.inr h3⟩),rfl,rfl,rfl,trivial⟩
  rw[show kc c 97 122=false from decide_eq_false h3];refine aa ?_;exact U.ret ⟨rfl,_,aR (aS rfl),stop fun h=>by rcases h with h|⟨_,h|h⟩;exact h1 h;exact h2 h;exact h3 h⟩
 ·refine aa ?_;refine U.exit ?_;show ck _ _ _ _ _ _ _ _;refine aa ?_;have yv:j=max 1 l.length:=by omega
  by_cases h1:0<l.length
  ·refine aa ?_;by_cases h2:l.length≤16
   ·refine aa ?_;exact U.ret ⟨rfl,_,aR (aS rfl),by rw[Y6 ⟨h1,h2,fun i a c=>hok i a (by omega)⟩];rfl⟩
   ·refine aa ?_;exact U.ret ⟨rfl,_,aR (aS rfl),by rw[tk fun h=>h2 h.2.1];rfl⟩
  ·refine aa ?_;exact U.ret ⟨rfl,_,aR (aS rfl),by rw[tk fun h=>h1 h.1];rfl⟩
theorem c6C(nB:c5 b pj)(hi:∀c bs hi,K pj [b5 c,b5 bs,b5 hi] (.b (kc c bs hi)))(el:c5 b rP)(hL:∀d l,l.length<2^62→K rP [.s l,.b d] (.b (kJ d l)))(l:List Nat)(au:l.length<2^62)(body:bc)(hb:GY.body=some body):
  U (b.bj K) GY.ntmps body (c4 [.s l]) ⟨.nil,0⟩ (eO GY.results (.b (isVar l))):=by
 cases hb;refine W.args fun z=>?_;have H:Has (⟨.nil,0⟩:ad) []:=Has.nil;rw[Y_];refine aa ?_;refine W.cx hf el (hL true l au) rfl rfl rfl (gT rfl rfl) ?_;cases h1:kJ true l with
 |false=>
  refine aa ?_;exact U.ret ⟨rfl,_,aR (aS rfl),rfl⟩
 |true=>
 cases l with
 |nil=>rw[tk (by simp)] at h1;cases h1
 |cons c l=>
 refine aa ?_;refine W.val rfl rfl (pa (j:=0) rfl rfl rfl) ?_;refine W.cx hf nB (hi c 117 122) rfl rfl rfl (sV rfl rfl rfl) ?_;refine aa ?_;exact U.ret ⟨rfl,_,aR (aS rfl),rfl⟩
theorem c6D(nB:c5 b pj)(hi:∀c bs hi,K pj [b5 c,b5 bs,b5 hi] (.b (kc c bs hi)))(el:c5 b rP)(hL:∀d l,l.length<2^62→K rP [.s l,.b d] (.b (kJ d l)))(l:List Nat)(au:l.length<2^62)(body:bc)(hb:GX.body=some body):
  U (b.bj K) GX.ntmps body (c4 [.s l]) ⟨.nil,0⟩ (eO GX.results (.b (gE l))):=by
 cases hb;refine W.args fun z=>?_;have H:Has (⟨.nil,0⟩:ad) []:=Has.nil;rw[Za];refine aa ?_;refine W.cx hf el (hL false l au) rfl rfl rfl (gT rfl rfl) ?_;cases h1:kJ false l with
 |false=>
  refine aa ?_;exact U.ret ⟨rfl,_,aR (aS rfl),rfl⟩
 |true=>
 cases l with
 |nil=>rw[tk (by simp)] at h1;cases h1
 |cons c l=>
 refine aa ?_;refine W.val rfl rfl (pa (j:=0) rfl rfl rfl) ?_;refine W.cx hf nB (hi c 65 90) rfl rfl rfl (sV rfl rfl rfl) ?_;refine aa ?_;exact U.ret ⟨rfl,_,aR (aS rfl),rfl⟩
theorem c6E(nB:c5 b pj)(hi:∀c bs hi,K pj [b5 c,b5 bs,b5 hi] (.b (kc c bs hi)))(el:c5 b rP)(hL:∀d l,l.length<2^62→K rP [.s l,.b d] (.b (kJ d l)))(l:List Nat)(au:l.length<2^62)(body:bc)(hb:G1.body=some body):
  U (b.bj K) G1.ntmps body (c4 [.s l]) ⟨.nil,0⟩ (eO G1.results (.b (isFun l))):=by
 cases hb;refine W.args fun z=>?_;have H:Has (⟨.nil,0⟩:ad) []:=Has.nil;rw[Zb];have yes:ot l=true→∀ {ai:ad},freeze ai 0 1000 (.b false)=some (.b (!ot l&&(kJ false l&&hd0 (fun c=>kc c 97 116) l))):=fun h _=>by rw[h];rfl
 refine aa ?_;refine W.bin (v:=.b (eqL l [97,108,108])) rfl rfl rfl rfl rfl ?_;cases h0:eqL l [97,108,108] with
 |true=>
  refine aa ?_;exact U.ret ⟨rfl,_,aR (aS rfl),yes (by unfold ot;rw[h0];simp)⟩
 |false=>
 refine aa ?_;refine W.bin (v:=.b (eqL l [115,111,109,101])) rfl rfl rfl rfl rfl ?_;cases h1:eqL l [115,111,109,101] with
 |true=>
  refine aa ?_;exact U.ret ⟨rfl,_,aR (aS rfl),yes (by unfold ot;rw[h1];simp)⟩
 |false=>
 refine aa ?_;refine W.bin (v:=.b (eqL l [102,97,108,115,101])) rfl rfl rfl rfl rfl ?_;cases h2:eqL l [102,97,108,115,101] with
 |true=>
  refine aa ?_;exact U.ret ⟨rfl,_,aR (aS rfl),yes (by unfold ot;rw[h2];simp)⟩
 |false=>
 refine aa ?_;refine W.bin (v:=.b (eqL l [110,101,120,116])) rfl rfl rfl rfl rfl ?_;cases h3:eqL l [110,101,120,116] with
 |true=>
  refine aa ?_;exact U.ret ⟨rfl,_,aR (aS rfl),yes (by unfold ot;rw[h3];simp)⟩
 |false=>
 refine aa ?_;refine W.bin (v:=.b (eqL l [97,108,119,97,121,115])) rfl rfl rfl rfl rfl ?_;cases aN:eqL l [97,108,119,97,121,115] with
 |true=>
  refine aa ?_;exact U.ret ⟨rfl,_,aR (aS rfl),yes (by unfold ot;rw[aN];simp)⟩
 |false=>
 refine aa ?_;rw[show ot l=false from by unfold ot;rw[h0,h1,h2,h3,aN];rfl,yI,gS];refine W.cx hf el (hL false l au) rfl rfl rfl (gT rfl rfl) ?_;cases bH:kJ false l with
 |false=>
  refine aa ?_;exact U.ret ⟨rfl,_,aR (aS rfl),rfl⟩
 |true=>
 cases l with
 |nil=>rw[tk (by simp)] at bH;cases bH
 |cons c l=>
 refine aa ?_;refine W.val rfl rfl (pa (j:=0) rfl rfl rfl) ?_;refine W.cx hf nB (hi c 97 116) rfl rfl rfl (sV rfl rfl rfl) ?_;refine aa ?_;exact U.ret ⟨rfl,_,aR (aS rfl),rfl⟩
theorem c6F(jS:c5 b u0)(hp:∀l,l.length<2^62→K u0 [.s l] (.b (gE l)))(l:List Nat)(au:l.length<2^62)(body:bc)(hb:GZ.body=some body):
  U (b.bj K) GZ.ntmps body (c4 [.s l]) ⟨.nil,0⟩ (eO GZ.results (.b (kt l))):=by
 cases hb;refine W.args fun z=>?_;have H:Has (⟨.nil,0⟩:ad) []:=Has.nil;refine aa ?_;by_cases h1:1<l.length
 rotate_left
 ·refine aa ?_;refine U.ret ⟨rfl,_,aR (aS rfl),?_⟩
  match l,h1 with
  |[],_=>rfl
  |[c],_=>show some (AV.b false)=some (.b (decide (1≤16)&&(decide (c=63)&&false)));simp
  |_::_::l,h=>exact absurd (show 1<l.length+1+1 by omega) h
 refine aa ?_;by_cases h2:l.length≤16
 rotate_left
 ·refine aa ?_;refine U.ret ⟨rfl,_,aR (aS rfl),?_⟩;cases l with
  |nil=>rfl
  |cons c l=>show some (AV.b false)=some (.b (decide (l.length+1≤16)&&_));rw[decide_eq_false (by simpa using h2)];rfl
 cases l with
 |nil=>exact absurd h1 (by simp)
 |cons c l=>
 have qc:l.length+1≤16:=h2;have e:kt (c::l)=(decide (c=63)&&gE l):=by show(decide (l.length+1≤16)&&(decide (c=63)&&gE l))=_;rw[decide_eq_true qc,gS]
 rw[e];refine aa ?_;refine W.val rfl rfl (pa (j:=0) rfl rfl rfl) ?_;by_cases h3:c=63
 rotate_left
 ·refine aa ?_;exact U.ret ⟨rfl,_,aR (aS rfl),by rw[decide_eq_false h3];rfl⟩
 rw[decide_eq_true h3,gS];refine aa ?_;refine W.val rfl rfl (yR (s:=c::l) (l:=1) (h:=l.length+1) rfl rfl rfl (by omega) (bK _)) ?_;rw[show((c::l).drop 1).take (l.length+1-1)=l from by simp];refine W.cx hf jS (hp l (by omega)) rfl rfl rfl (dx rfl) ?_;refine aa ?_;exact U.ret ⟨rfl,_,aR (aS rfl),rfl⟩
theorem c6G(jS:c5 b uZ)(hp:∀l,l.length<2^62→K uZ [.s l] (.b (isFun l)))(l:List Nat)(au:l.length<2^62)(body:bc)(hb:G0.body=some body):
  U (b.bj K) G0.ntmps body (c4 [.s l]) ⟨.nil,0⟩ (eO G0.results (.b (hv l))):=by
 cases hb;refine W.args fun z=>?_;have H:Has (⟨.nil,0⟩:ad) []:=Has.nil;refine aa ?_;by_cases h1:1<l.length
 rotate_left
 ·refine aa ?_;refine U.ret ⟨rfl,_,aR (aS rfl),?_⟩
  match l,h1 with
  |[],_=>rfl
  |[c],_=>show some (AV.b false)=some (.b (decide (1≤16)&&(decide (c=63)&&false)));simp
  |_::_::l,h=>exact absurd (show 1<l.length+1+1 by omega) h
 refine aa ?_;by_cases h2:l.length≤16
 rotate_left
 ·refine aa ?_;refine U.ret ⟨rfl,_,aR (aS rfl),?_⟩;cases l with
  |nil=>rfl
  |cons c l=>show some (AV.b false)=some (.b (decide (l.length+1≤16)&&_));rw[decide_eq_false (by simpa using h2)];rfl
 cases l with
 |nil=>exact absurd h1 (by simp)
 |cons c l=>
 have qc:l.length+1≤16:=h2;have e:hv (c::l)=(decide (c=63)&&isFun l):=by show(decide (l.length+1≤16)&&(decide (c=63)&&isFun l))=_;rw[decide_eq_true qc,gS]
 rw[e];refine aa ?_;refine W.val rfl rfl (pa (j:=0) rfl rfl rfl) ?_;by_cases h3:c=63
 rotate_left
 ·refine aa ?_;exact U.ret ⟨rfl,_,aR (aS rfl),by rw[decide_eq_false h3];rfl⟩
 rw[decide_eq_true h3,gS];refine aa ?_;refine W.val rfl rfl (yR (s:=c::l) (l:=1) (h:=l.length+1) rfl rfl rfl (by omega) (bK _)) ?_;rw[show((c::l).drop 1).take (l.length+1-1)=l from by simp];refine W.cx hf jS (hp l (by omega)) rfl rfl rfl (dx rfl) ?_;refine aa ?_;exact U.ret ⟨rfl,_,aR (aS rfl),rfl⟩
end
end
section
open Go.RowKit Go.Lyc.T
mutual
def Tm.nd:Tm→Nat
 | .mk _ _ none=>1
 | .mk _ _ (some l)=>Tm.nds l+1
def Tm.nds:List Tm→Nat
 |[]=>0
 |t::l=>t.nd+Tm.nds l
end
mutual
def Fm.nd:Fm→Nat
 | .mk _ _ a none=>Tm.nds (a.getD [])+1
 | .mk _ _ a (some l)=>Tm.nds (a.getD [])+Fm.nds l+1
def Fm.nds:List Fm→Nat
 |[]=>0
 |f::l=>f.nd+Fm.nds l
end
theorem Tm.iZ(t:Tm):t.nd=Tm.nds t.args+1:=by
 obtain⟨v,n,a⟩:=t;cases a with
 |none=>rw[Tm.nd];simp[Tm.args,Tm.cH,Tm.nds]
 |some l=>rw[Tm.nd];rfl
theorem Fm.iZ(f:Fm):f.nd=Tm.nds f.args+Fm.nds f.sub+1:=by
 obtain⟨op,n,a,s⟩:=f;cases s with
 |none=>rw[Fm.nd];simp[Fm.args,Fm.cH,Fm.sub,Fm.ea,Fm.nds]
 |some l=>rw[Fm.nd];rfl
theorem Tm.tl:∀ {l:List Tm} {t:Tm},t∈l→t.nd≤Tm.nds l
 |[],_,h=>by simp at h
 |g::l,f,h=>by
  rw[Tm.nds];rcases dP.1 h with rfl|h
  ·omega
  ·have:=Tm.tl h;omega
theorem Fm.tl:∀ {l:List Fm} {t:Fm},t∈l→t.nd≤Fm.nds l
 |[],_,h=>by simp at h
 |g::l,f,h=>by
  rw[Fm.nds];rcases dP.1 h with rfl|h
  ·omega
  ·have:=Fm.tl h;omega
theorem Tm.u6:∀l:List Tm,l.length≤Tm.nds l
 |[]=>ir _
 |t::l=>by rw[Tm.nds,jD];have:=Tm.u6 l;have:=t.iZ;omega
theorem Fm.u6:∀l:List Fm,l.length≤Fm.nds l
 |[]=>ir _
 |t::l=>by rw[Fm.nds,jD];have:=Fm.u6 l;have:=t.iZ;omega
theorem Tm.xj:∀l m:List Tm,Tm.nds (l++m)=Tm.nds l+Tm.nds m
 |[],m=>by rw[Tm.nds];simp
 |t::l,m=>by rw[n2,Tm.nds,Tm.nds,Tm.xj l m];omega
theorem Fm.xj:∀l m:List Fm,Fm.nds (l++m)=Fm.nds l+Fm.nds m
 |[],m=>by rw[Fm.nds];simp
 |t::l,m=>by rw[n2,Fm.nds,Fm.nds,Fm.xj l m];omega
theorem Tm.rS{l:List Tm}{j:Nat}(h:j<l.length):Tm.nds (l.take (j+1))=Tm.nds (l.take j)+l[j].nd:=by rw[gx h,Tm.xj,Tm.nds,Tm.nds];rfl
theorem Fm.rS{l:List Fm}{j:Nat}(h:j<l.length):Fm.nds (l.take (j+1))=Fm.nds (l.take j)+l[j].nd:=by rw[gx h,Fm.xj,Fm.nds,Fm.nds];rfl
theorem Tm.pq(l:List Tm)(j:Nat):Tm.nds (l.take j)≤Tm.nds l:=by
 conv=>rhs;rw[←B0 j l]
 rw[Tm.xj];omega
theorem Fm.pq(l:List Fm)(j:Nat):Fm.nds (l.take j)≤Fm.nds l:=by
 conv=>rhs;rw[←B0 j l]
 rw[Fm.xj];omega
theorem Tm.tm:∀(d:Nat) (l:List Tm),Tm.dM l≤d→Tm.dM l≤Tm.nds l
 |d,[],_=>by rw[Tm.dM];omega
 |d,t::l,h=>by
  rw[Tm.dM] at h ⊢;rw[Tm.nds];have h2:=Tm.tm d l (by omega);have h1:=t.fO;have h3:=t.iZ;cases d with
  |zero=>omega
  |succ d=>have:=Tm.tm d t.args (by omega);omega
theorem Fm.tm:∀(d:Nat) (l:List Fm),Fm.dM l≤d→Fm.dM l≤Fm.nds l
 |d,[],_=>by rw[Fm.dM];omega
 |d,t::l,h=>by
  rw[Fm.dM] at h ⊢;rw[Fm.nds];have h2:=Fm.tm d l (by omega);have h1:=t.fO;have h3:=t.iZ;have aN:=Tm.tm _ t.args (bK _);cases d with
  |zero=>omega
  |succ d=>have:=Fm.tm d t.sub (by omega);omega
theorem Fm.Zc(f:Fm):f.dep≤f.nd:=by
 have h1:=f.fO;have h3:=f.iZ;have aN:=Tm.tm _ f.args (bK _);have bH:=Fm.tm _ f.sub (bK _);omega
mutual
def gV(s:Bool):Tm→Bool
 | .mk v n none=>cond v (isVar n||(s&&hv n)) (isFun n)
 | .mk v n (some l)=>cond v (decide (l.length=0)&&(isVar n||(s&&hv n))) (decide (l.length≤4)&&isFun n&&CV s l)
def CV(s:Bool):List Tm→Bool
 |[]=>true
 |t::l=>gV s t&&CV s l
end
theorem Zd(s:Bool):∀l,CV s l=l.all (gV s)
 |[]=>by rw[CV];rfl
 |t::l=>by rw[CV,Zd s l];rfl
theorem Hz(s:Bool)(t:Tm):gV s t=cond t.var (decide (t.args.length=0)&&(isVar t.name||(s&&hv t.name))) (decide (t.args.length≤4)&&isFun t.name&&t.args.all (gV s)):=by
 obtain⟨v,n,a⟩:=t;cases a with
 |none=>rw[gV];cases v<;>simp[Tm.var,Tm.name,Tm.args,Tm.cH]
 |some l=>rw[gV,Zd];rfl
def e8(s:Bool)(f:Fm):Bool:=decide (f.op<17∧(ij f.op||(s&&ik f.op))=true∧fW (il f.op) f.name=true∧f.args.length≤hX f.op∧f.sub.length=hy f.op∧(f.op=16→instB f.args=true))
mutual
def ji(s:Bool):Fm→Bool
 | .mk op n a none=>e8 s (.mk op n a none)&&(a.getD []).all (gV s)
 | .mk op n a (some l)=>e8 s (.mk op n a (some l))&&(a.getD []).all (gV s)&&CW s l
def CW(s:Bool):List Fm→Bool
 |[]=>true
 |t::l=>ji s t&&CW s l
end
theorem Ze(s:Bool):∀l,CW s l=l.all (ji s)
 |[]=>by rw[CW];rfl
 |t::l=>by rw[CW,Ze s l];rfl
theorem M_(s:Bool)(f:Fm):ji s f=(e8 s f&&f.args.all (gV s)&&f.sub.all (ji s)):=by
 obtain⟨op,n,a,ml⟩:=f;cases ml with
 |none=>rw[ji];simp[Fm.args,Fm.cH,Fm.sub,Fm.ea]
 |some l=>rw[ji,Ze];rfl
variable [Tok][TokOk]
theorem Zf(deep depth L:Nat):nodeJ deep depth L=if 1≤L∧depth≤deep then some (L-1) else none:=by
 cases L with
 |zero=>rw[if_neg (by omega)];rfl
 |succ L=>
  rw[nodeJ];by_cases h:depth≤deep
  ·rw[if_pos h,if_pos ⟨by omega,h⟩];rfl
  ·rw[if_neg h,if_neg fun hh=>h hh.2]
theorem Na{s:Bool}{deep:Nat}:∀(l:List Tm),(∀t∈l,∀depth L,termJ s deep t depth L=if gV s t=true∧t.nd≤L∧depth+t.dep≤deep+1 then some (L-t.nd) else none)→∀depth L,depth≤deep+1→
  termsJ s deep l depth L=if l.all (gV s)=true∧Tm.nds l≤L∧depth+Tm.dM l≤deep+1 then some (L-Tm.nds l) else none
 |[],_,depth,L,an=>by rw[termsJ,Tm.nds,Tm.dM,if_pos ⟨rfl,ir _,an⟩];rfl
 |t::l,h,depth,L,an=>by
  rw[termsJ,h t (by simp) depth L,Tm.nds,Tm.dM,kP];have ay:=Na l fun u hu=>h u (e_ _ hu);by_cases c:gV s t=true∧t.nd≤L∧depth+t.dep≤deep+1
  ·rw[if_pos c];show termsJ s deep l depth (L-t.nd)=_;rw[ay depth (L-t.nd) an];obtain⟨bY,dL,jh⟩:=c;by_cases e:l.all (gV s)=true∧Tm.nds l≤L-t.nd∧depth+Tm.dM l≤deep+1
   ·rw[if_pos e,if_pos ⟨by rw[bY,e.1];rfl,by omega,by omega⟩]
    congr 1;omega
   ·rw[if_neg e,if_neg fun hh=>e ⟨by have:=hh.1;rw[bY,gS] at this;exact this,by omega,by omega⟩]
  ·rw[if_neg c,if_neg fun hh=>c ⟨by have:=hh.1;rw[bT] at this;exact this.1,by omega,by omega⟩]
theorem Zg{s:Bool}{deep:Nat}:∀(d:Nat) (t:Tm),t.dep≤d→∀depth L,termJ s deep t depth L=if gV s t=true∧t.nd≤L∧depth+t.dep≤deep+1 then some (L-t.nd) else none
 |0,t,h,_,_=>by rw[Tm.fO] at h;omega
 |d+1,t,h,depth,L=>by
  have an:=t.fO;have hn:=t.iZ;rw[Yv,Zf,Hz];by_cases c:1≤L∧depth≤deep
  ·rw[if_pos c];show(if t.var=true then(if t.args.length=0∧(isVar t.name||(s&&hv t.name))=true then some (L-1) else none) else(if t.args.length≤4∧isFun t.name=true then termsJ s deep t.args (depth+1) (L-1) else none))=_;cases av:t.var with
   |true=>
    rw[if_pos rfl,cond_true];by_cases e:t.args.length=0∧(isVar t.name||(s&&hv t.name))=true
    ·have xk:t.args=[]:=Yk.1 e.1;rw[xk,Tm.dM] at an;rw[xk,Tm.nds] at hn;rw[if_pos e,if_pos ⟨by rw[decide_eq_true e.1,e.2];rfl,by omega,by omega⟩,hn]
    ·rw[if_neg e,if_neg fun hh=>e (by have:=hh.1;rw[bT] at this;exact⟨of_decide_eq_true this.1,this.2⟩)]
   |false=>
    rw[if_neg (by simp),cond_false];by_cases e:t.args.length≤4∧isFun t.name=true
    ·rw[if_pos e,Na t.args (fun u hu=>Zg d u (by have:=Tm.j9 hu;omega)) (depth+1) (L-1) (by omega),decide_eq_true e.1,e.2,Eg,gS];by_cases q:t.args.all (gV s)=true∧Tm.nds t.args≤L-1∧depth+1+Tm.dM t.args≤deep+1
     ·rw[if_pos q,if_pos ⟨q.1,by omega,by omega⟩];congr 1;omega
     ·rw[if_neg q,if_neg fun hh=>q ⟨hh.1,by omega,by omega⟩]
    ·rw[if_neg e,if_neg fun hh=>e (by have:=hh.1;rw[bT,bT] at this;exact⟨of_decide_eq_true this.1.1,this.1.2⟩)]
  ·rw[if_neg c,if_neg fun hh=>c ⟨by omega,by omega⟩]
theorem Zh{s:Bool}{deep:Nat}:∀(l:List Fm),(∀t∈l,∀depth L,formJ s deep t depth L=if ji s t=true∧t.nd≤L∧depth+t.dep≤deep+1 then some (L-t.nd) else none)→∀depth L,depth≤deep+1→
  formsJ s deep l depth L=if l.all (ji s)=true∧Fm.nds l≤L∧depth+Fm.dM l≤deep+1 then some (L-Fm.nds l) else none
 |[],_,depth,L,an=>by rw[formsJ,Fm.nds,Fm.dM,if_pos ⟨rfl,ir _,an⟩];rfl
 |t::l,h,depth,L,an=>by
  rw[formsJ,h t (by simp) depth L,Fm.nds,Fm.dM,kP];have ay:=Zh l fun u hu=>h u (e_ _ hu);by_cases c:ji s t=true∧t.nd≤L∧depth+t.dep≤deep+1
  ·rw[if_pos c];show formsJ s deep l depth (L-t.nd)=_;rw[ay depth (L-t.nd) an];obtain⟨bY,dL,jh⟩:=c;by_cases e:l.all (ji s)=true∧Fm.nds l≤L-t.nd∧depth+Fm.dM l≤deep+1
   ·rw[if_pos e,if_pos ⟨by rw[bY,e.1];rfl,by omega,by omega⟩]
    congr 1;omega
   ·rw[if_neg e,if_neg fun hh=>e ⟨by have:=hh.1;rw[bY,gS] at this;exact this,by omega,by omega⟩]
  ·rw[if_neg c,if_neg fun hh=>c ⟨by have:=hh.1;rw[bT] at this;exact this.1,by omega,by omega⟩]
theorem Zi{s:Bool}{deep:Nat}:∀(d:Nat) (t:Fm),t.dep≤d→∀depth L,formJ s deep t depth L=if ji s t=true∧t.nd≤L∧depth+t.dep≤deep+1 then some (L-t.nd) else none
 |0,t,h,_,_=>by rw[Fm.fO] at h;omega
 |d+1,t,h,depth,L=>by
  have an:=t.fO;have hn:=t.iZ;rw[MV,Zf,M_];by_cases c:1≤L∧depth≤deep
  ·rw[if_pos c];show(if t.op<17∧(ij t.op||(s&&ik t.op))=true∧fW (il t.op) t.name=true∧t.args.length≤hX t.op∧t.sub.length=hy t.op∧(t.op=16→instB t.args=true) then
    match termsJ s deep t.args (depth+1) (L-1) with
    |none=>none
    |some L=>formsJ s deep t.sub (depth+1) L
   else none)=_
   by_cases r:t.op<17∧(ij t.op||(s&&ik t.op))=true∧fW (il t.op) t.name=true∧t.args.length≤hX t.op∧t.sub.length=hy t.op∧(t.op=16→instB t.args=true)
   ·rw[if_pos r,show e8 s t=true from decide_eq_true r,gS,Na t.args (fun u _=>Zg _ u (bK _)) (depth+1) (L-1) (by omega)];by_cases q:t.args.all (gV s)=true∧Tm.nds t.args≤L-1∧depth+1+Tm.dM t.args≤deep+1
    ·rw[if_pos q];show formsJ s deep t.sub (depth+1) (L-1-Tm.nds t.args)=_;rw[Zh t.sub (fun u hu=>Zi d u (by have:=Fm.iF hu;omega)) (depth+1) _ (by omega),q.1,gS];by_cases e:t.sub.all (ji s)=true∧Fm.nds t.sub≤L-1-Tm.nds t.args∧depth+1+Fm.dM t.sub≤deep+1
     ·rw[if_pos e,if_pos ⟨e.1,by omega,by omega⟩];congr 1;omega
     ·rw[if_neg e,if_neg fun hh=>e ⟨hh.1,by omega,by omega⟩]
    ·rw[if_neg q,if_neg fun hh=>q ⟨by have:=hh.1;rw[bT] at this;exact this.1,by omega,by omega⟩]
   ·rw[if_neg r,if_neg fun hh=>r (by have:=hh.1;rw[bT,bT] at this;exact of_decide_eq_true this.1.1)]
  ·rw[if_neg c,if_neg fun hh=>c ⟨by omega,by omega⟩]
def hj(s:Bool)(f:Fm):Bool:=ji s f&&(decide (f.nd≤400)&&decide (f.dep≤40))
theorem c6H(s:Bool)(f:Fm):(formJ s 40 f 1 400).isSome=hj s f:=by
 rw[Zi _ f (bK _)];unfold hj;by_cases c:ji s f=true∧f.nd≤400∧1+f.dep≤40+1
 ·rw[if_pos c,c.1,decide_eq_true c.2.1,decide_eq_true (show f.dep≤40 by omega)];rfl
 ·rw[if_neg c];cases h:(ji s f&&(decide (f.nd≤400)&&decide (f.dep≤40))) with
  |false=>rfl
  |true=>
   rw[bT,bT] at h;exact absurd ⟨h.1,of_decide_eq_true h.2.1,by have:=of_decide_eq_true h.2.2;omega⟩ c
end
section
variable [Tok][TokOk]
open Go.RowKit Go.Lyc.T
attribute [local irreducible] cU ck dJ fP cy
abbrev k1(t:Tm):List AV:=[.b t.var,.s t.name,cR true t.cH]
theorem CX(t:Tm):t.A true= .ag (k1 t):=by unfold Tm.A;rw[Tm.fF]
theorem Nb(l:List Tm):instB l=true↔l.length=2∧∃h0:0<l.length,∃h1:1<l.length,l[0].var=true∧isVar l[0].name=true∧l[1].var=true∧hv l[1].name=true:=by
 match l with
 |[]=>simp[instB]
 |[_]=>simp[instB]
 |[a,c]=>simp[instB]
 |_::_::_::l=>simp[instB]
structure Nc(b:cv)(K:Nat→List AV→AV→Prop):Prop where
 fn:∀g aO r cj,K g aO r→K g aO cj→r=cj
 var:∀l,l.length<2^62→K zt [.s l] (.b (isVar l))
 CO:∀l,l.length<2^62→K uZ [.s l] (.b (isFun l))
 pred:∀l,l.length<2^62→K u0 [.s l] (.b (gE l))
 jz:∀l,l.length<2^62→K zu [.s l] (.b (kt l))
 rT:∀l,l.length<2^62→K zv [.s l] (.b (hv l))
 tf:c5 b zt
 zx:c5 b uZ
 CY:c5 b u0
 Nd:c5 b zu
 Nf:c5 b zv
section
variable {b:cv}{K:Nat→List AV→AV→Prop}(ax:Nc b K)
include ax
theorem c6I(s:Bool)(f:Fm)(hok:f.ok)(body:bc)(hb:GP.body=some body):
  U (b.bj K) GP.ntmps body (c4 [.ag (aV f),.b s]) ⟨.nil,0⟩ (eO GP.results (.b (e8 s f))):=by
 cases hb;refine W.args fun z=>?_;have H:Has (⟨.nil,0⟩:ad) []:=Has.nil;have hnm:=hok.nm;have cQ:f.args.length<2^62:=hok.zy;have eB:f.sub.length<2^62:=hok.pb;have fm:=hok.op;have xk:(f.cH.getD []).length=f.args.length:=rfl;have es:(f.ea.getD []).length=f.sub.length:=rfl;refine aa ?_;refine W.dr (c:=aV f) H rfl rfl rfl rfl rfl rfl fun fj ek H cc=>?_;refine aa ?_;refine W.len rfl rfl rfl kZ ?_;refine aa ?_;refine W.len rfl rfl rfl gD ?_;refine aa ?_;by_cases gM:f.op=1
 ·have af:e8 s f=(gE f.name&&(decide (f.args.length≤4)&&decide (f.sub.length=0))):=by
   unfold e8;rw[hD];simp[gM,ij,ik,il,hX,hy,fW,and_assoc]
  refine aa ?_;refine W.cx ax.fn ax.CY (ax.pred _ hnm) rfl rfl rfl (dx rfl) ?_;cases h1:gE f.name with
  |false=>
   refine aa ?_;exact U.ret ⟨rfl,_,aR (aS rfl),by rw[af,h1];rfl⟩
  |true=>
  refine aa ?_;by_cases h2:f.args.length≤4
  rotate_left
  ·refine aa ?_;exact U.ret ⟨rfl,_,aR (aS rfl),by rw[af,decide_eq_false h2];simp;rfl⟩
  refine aa ?_;by_cases h3:f.sub.length=0
  ·refine aa ?_;exact U.ret ⟨rfl,_,aR (aS rfl),by rw[af,h1,decide_eq_true h2,decide_eq_true h3];rfl⟩
  ·refine aa ?_;exact U.ret ⟨rfl,_,aR (aS rfl),by rw[af,decide_eq_false h3];simp;rfl⟩
 by_cases fz:f.op=2
 ·have af:e8 s f=(eqL f.name []&&(decide (f.args.length=0)&&decide (f.sub.length=0))):=by
   unfold e8;rw[hD];simp[fz,ij,ik,il,hX,hy,fW,and_assoc]
  refine aa ?_;refine W.bin (v:=.b (eqL f.name [])) rfl rfl rfl rfl rfl ?_;cases h1:eqL f.name [] with
  |false=>
   refine aa ?_;exact U.ret ⟨rfl,_,aR (aS rfl),by rw[af,h1];rfl⟩
  |true=>
  refine aa ?_;by_cases h2:f.args.length=0
  rotate_left
  ·refine aa ?_;exact U.ret ⟨rfl,_,aR (aS rfl),by rw[af,decide_eq_false h2];simp;rfl⟩
  refine aa ?_;by_cases h3:f.sub.length=0
  ·refine aa ?_;exact U.ret ⟨rfl,_,aR (aS rfl),by rw[af,h1,decide_eq_true h2,decide_eq_true h3];rfl⟩
  ·refine aa ?_;exact U.ret ⟨rfl,_,aR (aS rfl),by rw[af,decide_eq_false h3];simp;rfl⟩
 by_cases j4:f.op=3
 ·have af:e8 s f=(eqL f.name []&&(decide (f.args.length=0)&&decide (f.sub.length=1))):=by
   unfold e8;rw[hD];simp[j4,ij,ik,il,hX,hy,fW,and_assoc]
  refine aa ?_;refine W.bin (v:=.b (eqL f.name [])) rfl rfl rfl rfl rfl ?_;cases h1:eqL f.name [] with
  |false=>
   refine aa ?_;exact U.ret ⟨rfl,_,aR (aS rfl),by rw[af,h1];rfl⟩
  |true=>
  refine aa ?_;by_cases h2:f.args.length=0
  rotate_left
  ·refine aa ?_;exact U.ret ⟨rfl,_,aR (aS rfl),by rw[af,decide_eq_false h2];simp;rfl⟩
  refine aa ?_;by_cases h3:f.sub.length=1
  ·refine aa ?_;exact U.ret ⟨rfl,_,aR (aS rfl),by rw[af,h1,decide_eq_true h2,decide_eq_true h3];rfl⟩
  ·refine aa ?_;exact U.ret ⟨rfl,_,aR (aS rfl),by rw[af,decide_eq_false h3];simp;rfl⟩
 by_cases c6J:f.op=10
 ·have af:e8 s f=(eqL f.name []&&(decide (f.args.length=0)&&decide (f.sub.length=1))):=by
   unfold e8;rw[hD];simp[c6J,ij,ik,il,hX,hy,fW,and_assoc]
  refine aa ?_;refine W.bin (v:=.b (eqL f.name [])) rfl rfl rfl rfl rfl ?_;cases h1:eqL f.name [] with
  |false=>
   refine aa ?_;exact U.ret ⟨rfl,_,aR (aS rfl),by rw[af,h1];rfl⟩
  |true=>
  refine aa ?_;by_cases h2:f.args.length=0
  rotate_left
  ·refine aa ?_;exact U.ret ⟨rfl,_,aR (aS rfl),by rw[af,decide_eq_false h2];simp;rfl⟩
  refine aa ?_;by_cases h3:f.sub.length=1
  ·refine aa ?_;exact U.ret ⟨rfl,_,aR (aS rfl),by rw[af,h1,decide_eq_true h2,decide_eq_true h3];rfl⟩
  ·refine aa ?_;exact U.ret ⟨rfl,_,aR (aS rfl),by rw[af,decide_eq_false h3];simp;rfl⟩
 by_cases c6K:f.op=11
 ·have af:e8 s f=(eqL f.name []&&(decide (f.args.length=0)&&decide (f.sub.length=1))):=by
   unfold e8;rw[hD];simp[c6K,ij,ik,il,hX,hy,fW,and_assoc]
  refine aa ?_;refine W.bin (v:=.b (eqL f.name [])) rfl rfl rfl rfl rfl ?_;cases h1:eqL f.name [] with
  |false=>
   refine aa ?_;exact U.ret ⟨rfl,_,aR (aS rfl),by rw[af,h1];rfl⟩
  |true=>
  refine aa ?_;by_cases h2:f.args.length=0
  rotate_left
  ·refine aa ?_;exact U.ret ⟨rfl,_,aR (aS rfl),by rw[af,decide_eq_false h2];simp;rfl⟩
  refine aa ?_;by_cases h3:f.sub.length=1
  ·refine aa ?_;exact U.ret ⟨rfl,_,aR (aS rfl),by rw[af,h1,decide_eq_true h2,decide_eq_true h3];rfl⟩
  ·refine aa ?_;exact U.ret ⟨rfl,_,aR (aS rfl),by rw[af,decide_eq_false h3];simp;rfl⟩
 by_cases c6L:f.op=12
 ·have af:e8 s f=(eqL f.name []&&(decide (f.args.length=0)&&decide (f.sub.length=1))):=by
   unfold e8;rw[hD];simp[c6L,ij,ik,il,hX,hy,fW,and_assoc]
  refine aa ?_;refine W.bin (v:=.b (eqL f.name [])) rfl rfl rfl rfl rfl ?_;cases h1:eqL f.name [] with
  |false=>
   refine aa ?_;exact U.ret ⟨rfl,_,aR (aS rfl),by rw[af,h1];rfl⟩
  |true=>
  refine aa ?_;by_cases h2:f.args.length=0
  rotate_left
  ·refine aa ?_;exact U.ret ⟨rfl,_,aR (aS rfl),by rw[af,decide_eq_false h2];simp;rfl⟩
  refine aa ?_;by_cases h3:f.sub.length=1
  ·refine aa ?_;exact U.ret ⟨rfl,_,aR (aS rfl),by rw[af,h1,decide_eq_true h2,decide_eq_true h3];rfl⟩
  ·refine aa ?_;exact U.ret ⟨rfl,_,aR (aS rfl),by rw[af,decide_eq_false h3];simp;rfl⟩
 by_cases c6M:f.op=13
 ·have af:e8 s f=(eqL f.name []&&(decide (f.args.length=0)&&decide (f.sub.length=1))):=by
   unfold e8;rw[hD];simp[c6M,ij,ik,il,hX,hy,fW,and_assoc]
  refine aa ?_;refine W.bin (v:=.b (eqL f.name [])) rfl rfl rfl rfl rfl ?_;cases h1:eqL f.name [] with
  |false=>
   refine aa ?_;exact U.ret ⟨rfl,_,aR (aS rfl),by rw[af,h1];rfl⟩
  |true=>
  refine aa ?_;by_cases h2:f.args.length=0
  rotate_left
  ·refine aa ?_;exact U.ret ⟨rfl,_,aR (aS rfl),by rw[af,decide_eq_false h2];simp;rfl⟩
  refine aa ?_;by_cases h3:f.sub.length=1
  ·refine aa ?_;exact U.ret ⟨rfl,_,aR (aS rfl),by rw[af,h1,decide_eq_true h2,decide_eq_true h3];rfl⟩
  ·refine aa ?_;exact U.ret ⟨rfl,_,aR (aS rfl),by rw[af,decide_eq_false h3];simp;rfl⟩
 by_cases lk:f.op=4
 ·have af:e8 s f=(eqL f.name []&&(decide (f.args.length=0)&&decide (f.sub.length=2))):=by
   unfold e8;rw[hD];simp[lk,ij,ik,il,hX,hy,fW,and_assoc]
  refine aa ?_;refine W.bin (v:=.b (eqL f.name [])) rfl rfl rfl rfl rfl ?_;cases h1:eqL f.name [] with
  |false=>
   refine aa ?_;exact U.ret ⟨rfl,_,aR (aS rfl),by rw[af,h1];rfl⟩
  |true=>
  refine aa ?_;by_cases h2:f.args.length=0
  rotate_left
  ·refine aa ?_;exact U.ret ⟨rfl,_,aR (aS rfl),by rw[af,decide_eq_false h2];simp;rfl⟩
  refine aa ?_;by_cases h3:f.sub.length=2
  ·refine aa ?_;exact U.ret ⟨rfl,_,aR (aS rfl),by rw[af,h1,decide_eq_true h2,decide_eq_true h3];rfl⟩
  ·refine aa ?_;exact U.ret ⟨rfl,_,aR (aS rfl),by rw[af,decide_eq_false h3];simp;rfl⟩
 by_cases wB:f.op=5
 ·have af:e8 s f=(eqL f.name []&&(decide (f.args.length=0)&&decide (f.sub.length=2))):=by
   unfold e8;rw[hD];simp[wB,ij,ik,il,hX,hy,fW,and_assoc]
  refine aa ?_;refine W.bin (v:=.b (eqL f.name [])) rfl rfl rfl rfl rfl ?_;cases h1:eqL f.name [] with
  |false=>
   refine aa ?_;exact U.ret ⟨rfl,_,aR (aS rfl),by rw[af,h1];rfl⟩
  |true=>
  refine aa ?_;by_cases h2:f.args.length=0
  rotate_left
  ·refine aa ?_;exact U.ret ⟨rfl,_,aR (aS rfl),by rw[af,decide_eq_false h2];simp;rfl⟩
  refine aa ?_;by_cases h3:f.sub.length=2
  ·refine aa ?_;exact U.ret ⟨rfl,_,aR (aS rfl),by rw[af,h1,decide_eq_true h2,decide_eq_true h3];rfl⟩
  ·refine aa ?_;exact U.ret ⟨rfl,_,aR (aS rfl),by rw[af,decide_eq_false h3];simp;rfl⟩
 by_cases c6N:f.op=6
 ·have af:e8 s f=(eqL f.name []&&(decide (f.args.length=0)&&decide (f.sub.length=2))):=by
   unfold e8;rw[hD];simp[c6N,ij,ik,il,hX,hy,fW,and_assoc]
  refine aa ?_;refine W.bin (v:=.b (eqL f.name [])) rfl rfl rfl rfl rfl ?_;cases h1:eqL f.name [] with
  |false=>
   refine aa ?_;exact U.ret ⟨rfl,_,aR (aS rfl),by rw[af,h1];rfl⟩
  |true=>
  refine aa ?_;by_cases h2:f.args.length=0
  rotate_left
  ·refine aa ?_;exact U.ret ⟨rfl,_,aR (aS rfl),by rw[af,decide_eq_false h2];simp;rfl⟩
  refine aa ?_;by_cases h3:f.sub.length=2
  ·refine aa ?_;exact U.ret ⟨rfl,_,aR (aS rfl),by rw[af,h1,decide_eq_true h2,decide_eq_true h3];rfl⟩
  ·refine aa ?_;exact U.ret ⟨rfl,_,aR (aS rfl),by rw[af,decide_eq_false h3];simp;rfl⟩
 by_cases c6O:f.op=7
 ·have af:e8 s f=(eqL f.name []&&(decide (f.args.length=0)&&decide (f.sub.length=2))):=by
   unfold e8;rw[hD];simp[c6O,ij,ik,il,hX,hy,fW,and_assoc]
  refine aa ?_;refine W.bin (v:=.b (eqL f.name [])) rfl rfl rfl rfl rfl ?_;cases h1:eqL f.name [] with
  |false=>
   refine aa ?_;exact U.ret ⟨rfl,_,aR (aS rfl),by rw[af,h1];rfl⟩
  |true=>
  refine aa ?_;by_cases h2:f.args.length=0
  rotate_left
  ·refine aa ?_;exact U.ret ⟨rfl,_,aR (aS rfl),by rw[af,decide_eq_false h2];simp;rfl⟩
  refine aa ?_;by_cases h3:f.sub.length=2
  ·refine aa ?_;exact U.ret ⟨rfl,_,aR (aS rfl),by rw[af,h1,decide_eq_true h2,decide_eq_true h3];rfl⟩
  ·refine aa ?_;exact U.ret ⟨rfl,_,aR (aS rfl),by rw[af,decide_eq_false h3];simp;rfl⟩
 by_cases c6P:f.op=14
 ·have af:e8 s f=(eqL f.name []&&(decide (f.args.length=0)&&decide (f.sub.length=2))):=by
   unfold e8;rw[hD];simp[c6P,ij,ik,il,hX,hy,fW,and_assoc]
  refine aa ?_;refine W.bin (v:=.b (eqL f.name [])) rfl rfl rfl rfl rfl ?_;cases h1:eqL f.name [] with
  |false=>
   refine aa ?_;exact U.ret ⟨rfl,_,aR (aS rfl),by rw[af,h1];rfl⟩
  |true=>
  refine aa ?_;by_cases h2:f.args.length=0
  rotate_left
  ·refine aa ?_;exact U.ret ⟨rfl,_,aR (aS rfl),by rw[af,decide_eq_false h2];simp;rfl⟩
  refine aa ?_;by_cases h3:f.sub.length=2
  ·refine aa ?_;exact U.ret ⟨rfl,_,aR (aS rfl),by rw[af,h1,decide_eq_true h2,decide_eq_true h3];rfl⟩
  ·refine aa ?_;exact U.ret ⟨rfl,_,aR (aS rfl),by rw[af,decide_eq_false h3];simp;rfl⟩
 by_cases c6Q:f.op=8
 ·have af:e8 s f=(isVar f.name&&(decide (f.args.length=0)&&decide (f.sub.length=1))):=by
   unfold e8;rw[hD];simp[c6Q,ij,ik,il,hX,hy,fW,and_assoc]
  refine aa ?_;refine W.cx ax.fn ax.tf (ax.var _ hnm) rfl rfl rfl (dx rfl) ?_;cases h1:isVar f.name with
  |false=>
   refine aa ?_;exact U.ret ⟨rfl,_,aR (aS rfl),by rw[af,h1];rfl⟩
  |true=>
  refine aa ?_;by_cases h2:f.args.length=0
  rotate_left
  ·refine aa ?_;exact U.ret ⟨rfl,_,aR (aS rfl),by rw[af,decide_eq_false h2];simp;rfl⟩
  refine aa ?_;by_cases h3:f.sub.length=1
  ·refine aa ?_;exact U.ret ⟨rfl,_,aR (aS rfl),by rw[af,h1,decide_eq_true h2,decide_eq_true h3];rfl⟩
  ·refine aa ?_;exact U.ret ⟨rfl,_,aR (aS rfl),by rw[af,decide_eq_false h3];simp;rfl⟩
 by_cases c6R:f.op=9
 ·have af:e8 s f=(isVar f.name&&(decide (f.args.length=0)&&decide (f.sub.length=1))):=by
   unfold e8;rw[hD];simp[c6R,ij,ik,il,hX,hy,fW,and_assoc]
  refine aa ?_;refine W.cx ax.fn ax.tf (ax.var _ hnm) rfl rfl rfl (dx rfl) ?_;cases h1:isVar f.name with
  |false=>
   refine aa ?_;exact U.ret ⟨rfl,_,aR (aS rfl),by rw[af,h1];rfl⟩
  |true=>
  refine aa ?_;by_cases h2:f.args.length=0
  rotate_left
  ·refine aa ?_;exact U.ret ⟨rfl,_,aR (aS rfl),by rw[af,decide_eq_false h2];simp;rfl⟩
  refine aa ?_;by_cases h3:f.sub.length=1
  ·refine aa ?_;exact U.ret ⟨rfl,_,aR (aS rfl),by rw[af,h1,decide_eq_true h2,decide_eq_true h3];rfl⟩
  ·refine aa ?_;exact U.ret ⟨rfl,_,aR (aS rfl),by rw[af,decide_eq_false h3];simp;rfl⟩
 by_cases c6S:f.op=15
 ·have af:e8 s f=(s&&(kt f.name&&(decide (f.args.length=0)&&decide (f.sub.length=0)))):=by
   unfold e8;rw[hD];simp[c6S,ij,ik,il,hX,hy,fW,and_assoc]
  refine aa ?_;cases s with
  |false=>
   refine aa ?_;exact U.ret ⟨rfl,_,aR (aS rfl),by rw[af];rfl⟩
  |true=>
  refine aa ?_;refine W.cx ax.fn ax.Nd (ax.jz _ hnm) rfl rfl rfl (dx rfl) ?_;cases h1:kt f.name with
  |false=>
   refine aa ?_;exact U.ret ⟨rfl,_,aR (aS rfl),by rw[af,h1];rfl⟩
  |true=>
  refine aa ?_;by_cases h2:f.args.length=0
  rotate_left
  ·refine aa ?_;exact U.ret ⟨rfl,_,aR (aS rfl),by rw[af,decide_eq_false h2];simp;rfl⟩
  refine aa ?_;by_cases h3:f.sub.length=0
  ·refine aa ?_;exact U.ret ⟨rfl,_,aR (aS rfl),by rw[af,h1,decide_eq_true h2,decide_eq_true h3];rfl⟩
  ·refine aa ?_;exact U.ret ⟨rfl,_,aR (aS rfl),by rw[af,decide_eq_false h3];simp;rfl⟩
 by_cases c6T:f.op=16
 ·have af:e8 s f=(s&&(kt f.name&&(decide (f.args.length≤2)&&(decide (f.sub.length=0)&&instB f.args)))):=by
   unfold e8;rw[hD];simp[c6T,ij,ik,il,hX,hy,fW,and_assoc]
  refine aa ?_;cases s with
  |false=>
   refine aa ?_;exact U.ret ⟨rfl,_,aR (aS rfl),by rw[af];rfl⟩
  |true=>
  refine aa ?_;refine W.cx ax.fn ax.Nd (ax.jz _ hnm) rfl rfl rfl (dx rfl) ?_;cases h1:kt f.name with
  |false=>
   refine aa ?_;exact U.ret ⟨rfl,_,aR (aS rfl),by rw[af,h1];rfl⟩
  |true=>
  have no:∀ {ai:ad},¬(f.sub.length=0∧instB f.args=true)→freeze ai 0 1000 (.b false)=some (.b (e8 true f)):=fun h=>by
   have:(decide (f.sub.length=0)&&instB f.args)=false:=by
    cases e:(decide (f.sub.length=0)&&instB f.args) with
    |false=>rfl
    |true=>rw[bT] at e;exact absurd ⟨of_decide_eq_true e.1,e.2⟩ h
   rw[af,this];simp;rfl
  refine aa ?_;by_cases h2:f.args.length=2
  rotate_left
  ·refine aa ?_;exact U.ret ⟨rfl,_,aR (aS rfl),no fun h=>h2 ((Nb _).1 h.2).1⟩
  refine aa ?_;by_cases h3:f.sub.length=0
  rotate_left
  ·refine aa ?_;exact U.ret ⟨rfl,_,aR (aS rfl),no fun h=>h3 h.1⟩
  refine aa ?_;have sL:0<f.args.length:=by omega
  have dA:1<f.args.length:=by omega
  have oe:idxSlA (some 3) (cR true f.cH) 0=some (.cG true (.ag (k1 f.args[0]))):=by rw[←CX];exact rJ sL
  have dK:idxSlA (some 3) (cR true f.cH) 1=some (.cG true (.ag (k1 f.args[1]))):=by rw[←CX];exact rJ dA
  have dZ:=(hok.arg _ (cB sL)).nm;have bO:=(hok.arg _ (cB dA)).nm;have hi:instB f.args=true↔f.args[0].var=true∧isVar f.args[0].name=true∧f.args[1].var=true∧hv f.args[1].name=true:=by
   rw[Nb];exact⟨fun h=>h.2.2.2,fun h=>⟨h2,sL,dA,h⟩⟩
  generalize f.args[0]=a0 at oe dZ hi;generalize f.args[1]=a6 at dK bO hi;refine W.dg (j:=0) rfl rfl rfl rfl oe ?_;refine aa ?_;cases v0:a0.var with
  |false=>
   refine aa ?_;exact U.ret ⟨rfl,_,aR (aS rfl),no fun h=>by have:=(hi.1 h.2).1;rw[v0] at this;cases this⟩
  |true=>
  refine aa ?_;refine W.dg (j:=0) rfl rfl rfl rfl oe ?_;refine aa ?_;refine W.cx ax.fn ax.tf (ax.var _ dZ) rfl rfl rfl (dx rfl) ?_;cases eC:isVar a0.name with
  |false=>
   refine aa ?_;exact U.ret ⟨rfl,_,aR (aS rfl),no fun h=>by have:=(hi.1 h.2).2.1;rw[eC] at this;cases this⟩
  |true=>
  refine aa ?_;refine W.dg (j:=1) rfl rfl rfl rfl dK ?_;refine aa ?_;cases v1:a6.var with
  |false=>
   refine aa ?_;exact U.ret ⟨rfl,_,aR (aS rfl),no fun h=>by have:=(hi.1 h.2).2.2.1;rw[v1] at this;cases this⟩
  |true=>
  refine aa ?_;refine W.dg (j:=1) rfl rfl rfl rfl dK ?_;refine aa ?_;refine W.cx ax.fn ax.Nf (ax.rT _ bO) rfl rfl rfl (dx rfl) ?_;cases bn:hv a6.name with
  |false=>
   refine aa ?_;exact U.ret ⟨rfl,_,aR (aS rfl),no fun h=>by have:=(hi.1 h.2).2.2.2;rw[bn] at this;cases this⟩
  |true=>
  refine aa ?_;exact U.ret ⟨rfl,_,aR (aS rfl),by rw[af,h1,decide_eq_true (show f.args.length≤2 by omega),decide_eq_true h3,hi.2 ⟨v0,eC,v1,bn⟩];rfl⟩
 ·have af:e8 s f=false:=by
   unfold e8;refine decide_eq_false fun⟨h1,h2,_⟩=>?_;have:f.op=0:=by omega
   rw[this] at h2;cases s<;>simp[ij,ik] at h2
  refine aa ?_;exact U.ret ⟨rfl,_,aR (aS rfl),by rw[af];rfl⟩
end
section
variable {b:cv}{K:Nat→List AV→AV→Prop}(ax:Nc b K)
include ax
theorem c6U(s:Bool)(t:Tm)(hok:t.ok)(hs:∀u∈t.args,∀ai:ad,bW ai (b.aT+1000) (.ag (k1 u))=some (.ag (k1 u)))(e:c5 b uU)(cX:∀u∈t.args,K uU [.ag (k1 u),.b s] (.b (gV s u)))
  (body:bc) (hb:GQ.body=some body):U (b.bj K) GQ.ntmps body (c4 [.ag (k1 t),.b s]) ⟨.nil,0⟩ (eO GQ.results (.b (gV s t))):=by
 cases hb;refine W.args fun z=>?_;have H:Has (⟨.nil,0⟩:ad) []:=Has.nil;have hnm:=hok.nm;have cQ:t.args.length<2^62:=hok.len;have xk:(t.cH.getD []).length=t.args.length:=rfl;have an:=Hz s t;refine aa ?_;refine W.dr (c:=k1 t) H rfl rfl rfl rfl rfl rfl fun fj ek H cc=>?_;refine aa ?_;cases v0:t.var with
 |true=>
  rw[v0,cond_true] at an;refine aa ?_;refine W.len rfl rfl rfl kZ ?_;by_cases h1:t.args.length=0
  rotate_left
  ·refine aa ?_;exact U.ret ⟨rfl,_,aR (aS rfl),by rw[an,decide_eq_false h1];rfl⟩
  rw[decide_eq_true h1,gS] at an;refine aa ?_;refine W.cx ax.fn ax.tf (ax.var _ hnm) rfl rfl rfl (dx rfl) ?_;cases h2:isVar t.name with
  |true=>
   refine aa ?_;exact U.ret ⟨rfl,_,aR (aS rfl),by rw[an,h2];rfl⟩
  |false=>
  rw[h2,tW] at an;cases s with
  |false=>
   refine aa ?_;exact U.ret ⟨rfl,_,aR (aS rfl),by rw[an];rfl⟩
  |true=>
  refine aa ?_;refine W.cx ax.fn ax.Nf (ax.rT _ hnm) rfl rfl rfl (dx rfl) ?_;refine aa ?_;exact U.ret ⟨rfl,_,aR (aS rfl),by rw[an];rfl⟩
 |false=>
 rw[v0,cond_false] at an;refine aa ?_;have jj:=H;refine U.block (U.loop (fun k F ai=>∃j,j+k=t.args.length∧ai=fj∧(t.args.take j).all (gV s)=true∧sat [(1,.b s),(2,.p (some (0,0))),(5,aC j)] F) (fun k F ai bo=>?_) t.args.length ⟨0,by omega,rfl,rfl,rfl,rfl,rfl,trivial⟩);obtain⟨j,aB,rfl,hI,b4⟩:=bo;refine U.norm _ b4 fun F=>?_;clear b4;have H:=jj;by_cases b2:j<t.args.length
 ·refine aa ?_;refine W.len rfl rfl rfl kZ ?_;refine aa ?_;have bI:idxSlA (some 3) (cR true t.cH) j=some (.cG true (.ag (k1 t.args[j]))):=by rw[←CX];exact rJ b2
  refine W.dg rfl rfl rfl rfl bI ?_;refine aa ?_;have hm:=cB b2;have cF:=gx b2;generalize t.args[j]=x at hm cF bI
  try (refine W.eV (R:=some 3) rfl rfl rfl rfl ?_;refine aa ?_)
  refine W.cx ax.fn e (cX _ hm) rfl rfl rfl (gT (hs _ hm _) rfl) ?_;refine aa ?_;cases hf:gV s x with
  |false=>
   refine aa ?_;exact U.ret ⟨rfl,_,aR (aS rfl),by rw[an,kH.2 ⟨x,hm,by rw[hf];simp⟩,lU];rfl⟩
  |true=>
   refine aa ?_;refine⟨k-1,by omega,j+1,by omega,rfl,?_,rfl,rfl,rfl,trivial⟩;rw[cF,my,hI,kP,hf];rfl
 ·refine aa ?_;refine W.len rfl rfl rfl kZ ?_;refine aa ?_;refine U.exit ?_;show ck _ _ _ _ _ _ _ _;refine aa ?_;rw[fv (by omega)] at hI;rw[hI,Bool.and_true] at an;refine W.cx ax.fn ax.zx (ax.CO _ hnm) rfl rfl rfl (dx rfl) ?_;cases h1:isFun t.name with
  |false=>
   refine aa ?_;exact U.ret ⟨rfl,_,aR (aS rfl),by rw[an,h1,lU];rfl⟩
  |true=>
  refine aa ?_;refine W.len rfl rfl rfl kZ ?_;by_cases h2:t.args.length≤4
  ·refine aa ?_;exact U.ret ⟨rfl,_,aR (aS rfl),by rw[an,h1,decide_eq_true h2];rfl⟩
  ·refine aa ?_;exact U.ret ⟨rfl,_,aR (aS rfl),by rw[an,h1,decide_eq_false h2];rfl⟩
omit ax in
theorem c6V(hfn:∀g aO r cj,K g aO r→K g aO cj→r=cj)(s:Bool)(f:Fm)(hok:f.ok)(c1:∀ai:ad,bW ai (b.aT+1000) (.ag (aV f))=some (.ag (aV f)))(o4:∀u∈f.args,∀ai:ad,bW ai (b.aT+1000) (.ag (k1 u))=some (.ag (k1 u)))(kX:∀u∈f.sub,∀ai:ad,bW ai (b.aT+1000) (.ag (aV u))=some (.ag (aV u)))
  (eG:c5 b zs) (aE:c5 b uU) (aY:c5 b uT) (h0:K zs [.ag (aV f),.b s] (.b (e8 s f))) (h1:∀u∈f.args,K uU [.ag (k1 u),.b s] (.b (gV s u))) (h2:∀u∈f.sub,K uT [.ag (aV u),.b s] (.b (ji s u)))
  (body:bc) (hb:GK.body=some body):U (b.bj K) GK.ntmps body (c4 [.ag (aV f),.b s]) ⟨.nil,0⟩ (eO GK.results (.b (ji s f))):=by
 cases hb;refine W.args fun z=>?_;have H:Has (⟨.nil,0⟩:ad) []:=Has.nil;have cQ:f.args.length<2^62:=hok.zy;have eB:f.sub.length<2^62:=hok.pb;have xk:(f.cH.getD []).length=f.args.length:=rfl;have es:(f.ea.getD []).length=f.sub.length:=rfl;have an:=M_ s f;refine aa ?_;refine W.dr (c:=aV f) H rfl rfl rfl rfl rfl rfl fun fj ek H cc=>?_;refine aa ?_;refine W.cx hfn eG h0 rfl rfl rfl (gT (c1 _) rfl) ?_;cases gp:e8 s f with
 |false=>
  refine aa ?_;exact U.ret ⟨rfl,_,aR (aS rfl),by rw[an,gp];rfl⟩
 |true=>
 rw[gp,gS] at an;refine aa ?_;have jj:=H;refine U.block (U.loop (fun k F ai=>∃j,j+k=f.args.length∧ai=fj∧(f.args.take j).all (gV s)=true∧sat [(1,.b s),(2,.p (some (0,0))),(5,aC j)] F) (fun k F ai bo=>?_) f.args.length ⟨0,by omega,rfl,rfl,rfl,rfl,rfl,trivial⟩);obtain⟨j,aB,rfl,hI,b4⟩:=bo;refine U.norm _ b4 fun F=>?_;clear b4;have H:=jj;by_cases b2:j<f.args.length
 ·refine aa ?_;refine W.len rfl rfl rfl kZ ?_;refine aa ?_;have bI:idxSlA (some 3) (cR true f.cH) j=some (.cG true (.ag (k1 f.args[j]))):=by rw[←CX];exact rJ b2
  refine W.dg rfl rfl rfl rfl bI ?_;refine aa ?_;have hm:=cB b2;have cF:=gx b2;generalize f.args[j]=x at hm cF bI
  try (refine W.eV (R:=some 3) rfl rfl rfl rfl ?_;refine aa ?_)
  refine W.cx hfn aE (h1 _ hm) rfl rfl rfl (gT (o4 _ hm _) rfl) ?_;refine aa ?_;cases hf:gV s x with
  |false=>
   refine aa ?_;exact U.ret ⟨rfl,_,aR (aS rfl),by rw[an,kH.2 ⟨x,hm,by rw[hf];simp⟩];rfl⟩
  |true=>
   refine aa ?_;refine⟨k-1,by omega,j+1,by omega,rfl,?_,rfl,rfl,rfl,trivial⟩;rw[cF,my,hI,kP,hf];rfl
 ·refine aa ?_;refine W.len rfl rfl rfl kZ ?_;refine aa ?_;refine U.exit ?_;show ck _ _ _ _ _ _ _ _;refine aa ?_;rw[fv (by omega)] at hI;rw[hI,gS] at an;clear aB hI b2;refine U.block (U.loop (fun k F eg=>∃j,j+k=f.sub.length∧eg=ai∧(f.sub.take j).all (ji s)=true∧sat [(1,.b s),(2,.p (some (0,0))),(6,aC j)] F) (fun k F eg bo=>?_) f.sub.length ⟨0,by omega,rfl,rfl,rfl,rfl,rfl,trivial⟩);obtain⟨j,aB,rfl,hI,b4⟩:=bo;refine U.norm _ b4 fun F=>?_;clear b4;have H:=jj;by_cases b2:j<f.sub.length
  ·refine aa ?_;refine W.len rfl rfl rfl gD ?_;refine aa ?_;have bI:idxSlA (some 4) (dk true f.ea) j=some (.cG true (.ag (aV f.sub[j]))):=by rw[←oq];exact wW b2
   refine W.dg rfl rfl rfl rfl bI ?_;refine aa ?_;have hm:=cB b2;have cF:=gx b2;generalize f.sub[j]=x at hm cF bI
   try (refine W.eV (R:=some 4) rfl rfl rfl rfl ?_;refine aa ?_)
   refine W.cx hfn aY (h2 _ hm) rfl rfl rfl (gT (kX _ hm _) rfl) ?_;refine aa ?_;cases hf:ji s x with
   |false=>
    refine aa ?_;exact U.ret ⟨rfl,_,aR (aS rfl),by rw[an,kH.2 ⟨x,hm,by rw[hf];simp⟩];rfl⟩
   |true=>
    refine aa ?_;refine⟨k-1,by omega,j+1,by omega,rfl,?_,rfl,rfl,rfl,trivial⟩;rw[cF,my,hI,kP,hf];rfl
  ·refine aa ?_;refine W.len rfl rfl rfl gD ?_;refine aa ?_;refine U.exit ?_;show ck _ _ _ _ _ _ _ _;refine aa ?_;rw[fv (by omega)] at hI;exact U.ret ⟨rfl,_,aR (aS rfl),by rw[an,hI];rfl⟩
end
abbrev ou(t:Tm):List AV:=[.b t.var,.s t.name,cR true t.cH]
theorem Zj(t:Tm):t.A true= .ag (ou t):=by unfold Tm.A;rw[Tm.fF]
theorem Zk{I:Bool}{a:Option (List Tm)}:conf none (cR I a)=true:=by cases a<;>rfl
theorem Ng:∀(l:List Fm) (m:Nat),opsL l m=m ||| opsL l 0
 |[],m=>by show m=m ||| 0;rw[Nat.or_zero]
 |f::l,m=>by
  show opsL l (m ||| kI f)=m ||| opsL l (0 ||| kI f);rw[Ng l (m ||| kI f),Ng l (0 ||| kI f),Nat.zero_or,Nat.or_assoc]
theorem c6W(l dF:List Fm)(m:Nat):opsL (l++dF) m=opsL dF (opsL l m):=MK ..
theorem Zl:∀(l:List Fm) (m:Nat),opsL (Fm.dW l) m=l.foldl (fun m g=>m ||| gU g) m
 |[],m=>by rw[Fm.dW];rfl
 |f::l,m=>by
  rw[Fm.dW,c6W,Zl l,JE,Ng f.parts m];rfl
theorem c6X(f:Fm):gU f=f.sub.foldl (fun m g=>m ||| gU g) (kI f):=by
 unfold gU;rw[Fm.parts_eq];show opsL (Fm.dW f.sub) (0 ||| kI f)=_;rw[Nat.zero_or,Zl];rfl
theorem pr(f:Fm):gU f<2^32:=Yq (by decide)
theorem Zm:∀(l:List Fm) (m:Nat),m<2^32→l.foldl (fun m g=>m ||| gU g) m<2^32
 |[],_,h=>h
 |f::l,m,h=>Zm l (m ||| gU f) (u1 h (pr f))
section
variable {b:cv}{K:Nat→List AV→AV→Prop}(hfn:∀g aO r cj,K g aO r→K g aO cj→r=cj)
include hfn
theorem c6Y(a:Option (List Tm))(hn:Tm.nds (a.getD [])<2^60)(hs:∀u∈a.getD [],∀ai:ad,bW ai (b.aT+1000) (cR true u.cH)=some (cR true u.cH))(e:c5 b uW)(cX:∀u∈a.getD [],K uW [cR true u.cH] (aC (Tm.nds u.args)))
  (body:bc) (hb:GS.body=some body):U (b.bj K) GS.ntmps body (c4 [cR true a]) ⟨.nil,0⟩ (eO GS.results (aC (Tm.nds (a.getD [])))):=by
 cases hb;refine W.args fun z=>?_;have H:Has (⟨.nil,0⟩:ad) []:=Has.nil;have cQ:=Tm.u6 (a.getD []);refine aa ?_;refine U.block (U.loop (fun k F ai=>∃j m,j+k=(a.getD []).length∧ai=⟨.nil,0⟩∧m=Tm.nds ((a.getD []).take j)∧sat [(0,cR true a),(3,aC m),(4,aC j)] F) (fun k F ai bo=>?_) (a.getD []).length ⟨0,0,by omega,rfl,by rw[oi,Tm.nds],rfl,rfl,rfl,trivial⟩);obtain⟨j,m,aB,rfl,hm,b4⟩:=bo;refine U.norm _ b4 fun F=>?_;clear b4;have H:Has (⟨.nil,0⟩:ad) []:=Has.nil;have hle:=Tm.pq (a.getD []) j;by_cases b2:j<(a.getD []).length
 ·have cF:=Tm.rS b2;have CZ:=Tm.pq (a.getD []) (j+1);have bI:idxSlA (some 3) (cR true a) j=some (.cG true (.ag (ou (a.getD [])[j]))):=by rw[←Zj];exact rJ b2
  have j5:=cB b2;generalize(a.getD [])[j]=x at cF bI j5;have hx:=x.iZ;refine aa ?_;refine W.len rfl rfl rfl kZ ?_;refine aa ?_;refine W.dg rfl rfl rfl rfl bI ?_;refine aa ?_;refine W.eV (R:=none) rfl rfl rfl Zk ?_;refine aa ?_;refine W.cx hfn e (cX _ j5) rfl rfl rfl (dx (hs _ j5 _)) ?_;refine aa ?_;exact⟨k-1,by omega,j+1,_,by omega,rfl,(show m+1+Tm.nds x.args=_ by omega),rfl,rfl,rfl,trivial⟩
 ·refine aa ?_;refine W.len rfl rfl rfl kZ ?_;refine aa ?_;refine U.exit ?_;show ck _ _ _ _ _ _ _ _;refine aa ?_;rw[fv (by omega)] at hm;exact U.ret ⟨rfl,_,aR (aS rfl),by rw[←hm];rfl⟩
theorem c6Z(a:Option (List Tm))(hn:Tm.nds (a.getD [])<2^60)(hs:∀u∈a.getD [],∀ai:ad,bW ai (b.aT+1000) (cR true u.cH)=some (cR true u.cH))(e:c5 b uY)(cX:∀u∈a.getD [],K uY [cR true u.cH] (aC (Tm.dM u.args)))
  (body:bc) (hb:GV.body=some body):U (b.bj K) GV.ntmps body (c4 [cR true a]) ⟨.nil,0⟩ (eO GV.results (aC (Tm.dM (a.getD [])))):=by
 cases hb;refine W.args fun z=>?_;have H:Has (⟨.nil,0⟩:ad) []:=Has.nil;have cQ:=Tm.u6 (a.getD []);have yP:=Tm.tm _ (a.getD []) (bK _);refine aa ?_;refine U.block (U.loop (fun k F ai=>∃j m,j+k=(a.getD []).length∧ai=⟨.nil,0⟩∧max m (Tm.dM ((a.getD []).drop j))=Tm.dM (a.getD [])∧sat [(0,cR true a),(3,aC m),(4,aC j)] F) (fun k F ai bo=>?_) (a.getD []).length ⟨0,0,by omega,rfl,by rw[tU];omega,rfl,rfl,rfl,trivial⟩);obtain⟨j,m,aB,rfl,hm,b4⟩:=bo;refine U.norm _ b4 fun F=>?_;clear b4;have H:Has (⟨.nil,0⟩:ad) []:=Has.nil;by_cases b2:j<(a.getD []).length
 ·have m3:=xe b2;have bI:idxSlA (some 3) (cR true a) j=some (.cG true (.ag (ou (a.getD [])[j]))):=by rw[←Zj];exact rJ b2
  have j5:=cB b2;generalize(a.getD [])[j]=x at m3 bI j5;rw[m3,Tm.dM] at hm;have hx:=x.fO;refine aa ?_;refine W.len rfl rfl rfl kZ ?_;refine aa ?_;refine W.dg rfl rfl rfl rfl bI ?_;refine aa ?_;refine W.eV (R:=none) rfl rfl rfl Zk ?_;refine aa ?_;refine W.cx hfn e (cX _ j5) rfl rfl rfl (dx (hs _ j5 _)) ?_;refine aa ?_;by_cases c:m<Tm.dM x.args+1
  ·refine aa ?_;exact⟨k-1,by omega,j+1,_,by omega,rfl,(show max (Tm.dM x.args+1) _=_ by omega),rfl,rfl,rfl,trivial⟩
  ·refine aa ?_;exact⟨k-1,by omega,j+1,_,by omega,rfl,(show max m _=_ by omega),rfl,rfl,rfl,trivial⟩
 ·refine aa ?_;refine W.len rfl rfl rfl kZ ?_;refine aa ?_;refine U.exit ?_;show ck _ _ _ _ _ _ _ _;refine aa ?_;rw[CF (by omega),Tm.dM,Nat.max_eq_left (ir _)] at hm;exact U.ret ⟨rfl,_,aR (aS rfl),by rw[←hm];rfl⟩
theorem c7a(f:Fm)(hn:f.nd<2^60)(c1:∀ai:ad,bW ai (b.aT+1000) (cR true f.cH)=some (cR true f.cH))(hs:∀u∈f.sub,∀ai:ad,bW ai (b.aT+1000) (.ag (aV u))=some (.ag (aV u)))(eG:c5 b uW)(h0:K uW [cR true f.cH] (aC (Tm.nds f.args)))(e:c5 b uV)(cX:∀u∈f.sub,K uV [.ag (aV u)] (aC u.nd))
  (body:bc) (hb:GL.body=some body):U (b.bj K) GL.ntmps body (c4 [.ag (aV f)]) ⟨.nil,0⟩ (eO GL.results (aC f.nd)):=by
 cases hb;refine W.args fun z=>?_;have H:Has (⟨.nil,0⟩:ad) []:=Has.nil;have cQ:=Fm.u6 f.sub;have es:(f.ea.getD []).length=f.sub.length:=rfl;have an:=f.iZ;refine aa ?_;refine W.dr (c:=aV f) H rfl rfl rfl rfl rfl rfl fun fj ek H cc=>?_;refine aa ?_;refine W.cx hfn eG h0 rfl rfl rfl (dx (c1 _)) ?_;refine W.bin (a:=aC 1) (b:=aC (Tm.nds f.args)) rfl rfl rfl rfl (mv (by omega)) ?_;refine aa ?_;have jj:=H;refine U.block (U.loop (fun k F ai=>∃j m,j+k=f.sub.length∧ai=fj∧m=1+Tm.nds f.args+Fm.nds (f.sub.take j)∧sat [(1,.p (some (0,0))),(3,aC m),(4,aC j)] F) (fun k F ai bo=>?_) f.sub.length ⟨0,1+Tm.nds f.args,by omega,rfl,by rw[oi,Fm.nds];rfl,rfl,rfl,rfl,trivial⟩);obtain⟨j,m,aB,rfl,hm,b4⟩:=bo;refine U.norm _ b4 fun F=>?_;clear b4;have H:=jj;have hle:=Fm.pq f.sub j;by_cases b2:j<f.sub.length
 ·have cF:=Fm.rS b2;have CZ:=Fm.pq f.sub (j+1);have bI:idxSlA (some 4) (dk true f.ea) j=some (.cG true (.ag (aV f.sub[j]))):=by rw[←oq];exact wW b2
  have j5:=cB b2;generalize f.sub[j]=x at cF bI j5;refine aa ?_;refine W.len rfl rfl rfl gD ?_;refine aa ?_;refine W.dg rfl rfl rfl rfl bI ?_;refine aa ?_
  try (refine W.eV (R:=some 4) rfl rfl rfl rfl ?_;refine aa ?_)
  refine W.cx hfn e (cX _ j5) rfl rfl rfl (dx (hs _ j5 _)) ?_;refine aa ?_;exact⟨k-1,by omega,j+1,_,by omega,rfl,(show m+x.nd=_ by omega),rfl,rfl,rfl,trivial⟩
 ·refine aa ?_;refine W.len rfl rfl rfl gD ?_;refine aa ?_;refine U.exit ?_;show ck _ _ _ _ _ _ _ _;refine aa ?_;rw[fv (by omega)] at hm;exact U.ret ⟨rfl,_,aR (aS rfl),by rw[show f.nd=m by omega];rfl⟩
theorem c7b(f:Fm)(hn:f.nd<2^60)(c1:∀ai:ad,bW ai (b.aT+1000) (cR true f.cH)=some (cR true f.cH))(hs:∀u∈f.sub,∀ai:ad,bW ai (b.aT+1000) (.ag (aV u))=some (.ag (aV u)))(eG:c5 b uY)(h0:K uY [cR true f.cH] (aC (Tm.dM f.args)))(e:c5 b uX)(cX:∀u∈f.sub,K uX [.ag (aV u)] (aC u.dep))
  (body:bc) (hb:GM.body=some body):U (b.bj K) GM.ntmps body (c4 [.ag (aV f)]) ⟨.nil,0⟩ (eO GM.results (aC f.dep)):=by
 cases hb;refine W.args fun z=>?_;have H:Has (⟨.nil,0⟩:ad) []:=Has.nil;have cQ:=Fm.u6 f.sub;have es:(f.ea.getD []).length=f.sub.length:=rfl;have an:=f.fO;have yP:=f.Zc;have hnd:=f.iZ;refine aa ?_;refine W.dr (c:=aV f) H rfl rfl rfl rfl rfl rfl fun fj ek H cc=>?_;refine aa ?_;refine W.cx hfn eG h0 rfl rfl rfl (dx (c1 _)) ?_;refine aa ?_;have jj:=H;refine U.block (U.loop (fun k F ai=>∃j m,j+k=f.sub.length∧ai=fj∧max m (Fm.dM (f.sub.drop j))+1=f.dep∧sat [(1,.p (some (0,0))),(3,aC m),(4,aC j)] F) (fun k F ai bo=>?_) f.sub.length ⟨0,Tm.dM f.args,by omega,rfl,by rw[tU];omega,rfl,rfl,rfl,trivial⟩);obtain⟨j,m,aB,rfl,hm,b4⟩:=bo;refine U.norm _ b4 fun F=>?_;clear b4;have H:=jj;by_cases b2:j<f.sub.length
 ·have m3:=xe b2;have bI:idxSlA (some 4) (dk true f.ea) j=some (.cG true (.ag (aV f.sub[j]))):=by rw[←oq];exact wW b2
  have j5:=cB b2;generalize f.sub[j]=x at m3 bI j5;rw[m3,Fm.dM] at hm;refine aa ?_;refine W.len rfl rfl rfl gD ?_;refine aa ?_;refine W.dg rfl rfl rfl rfl bI ?_;refine aa ?_
  try (refine W.eV (R:=some 4) rfl rfl rfl rfl ?_;refine aa ?_)
  refine W.cx hfn e (cX _ j5) rfl rfl rfl (dx (hs _ j5 _)) ?_;refine aa ?_;by_cases c:m<x.dep
  ·refine aa ?_;exact⟨k-1,by omega,j+1,_,by omega,rfl,(show max x.dep _+1=_ by omega),rfl,rfl,rfl,trivial⟩
  ·refine aa ?_;exact⟨k-1,by omega,j+1,_,by omega,rfl,(show max m _+1=_ by omega),rfl,rfl,rfl,trivial⟩
 ·refine aa ?_;refine W.len rfl rfl rfl gD ?_;refine aa ?_;refine U.exit ?_;show ck _ _ _ _ _ _ _ _;rw[CF (by omega),Fm.dM,Nat.max_eq_left (ir _)] at hm;refine aa ?_;exact U.ret ⟨rfl,_,aR (aS rfl),by rw[←hm];rfl⟩
theorem c7c(f:Fm)(hn:f.nd<2^60)(c1:∀ai:ad,bW ai (b.aT+1000) (.ag (aV f))=some (.ag (aV f)))(eG:c5 b uT)(h0:K uT [.ag (aV f),.b true] (.b (ji true f)))(aE:c5 b uV)(h1:K uV [.ag (aV f)] (aC f.nd))(aY:c5 b uX)(h2:K uX [.ag (aV f)] (aC f.dep))
  (body:bc) (hb:GC.body=some body):U (b.bj K) GC.ntmps body (c4 [.ag (aV f)]) ⟨.nil,0⟩ (eO GC.results (.b (hj true f))):=by
 cases hb;refine W.args fun z=>?_;have H:Has (⟨.nil,0⟩:ad) []:=Has.nil;have yP:=f.Zc;refine aa ?_;refine W.dr (c:=aV f) H rfl rfl rfl rfl rfl rfl fun fj ek H cc=>?_;refine aa ?_;refine W.cx hfn eG h0 rfl rfl rfl (gT (c1 _) rfl) ?_;unfold hj;cases gp:ji true f with
 |false=>
  refine aa ?_;exact U.ret ⟨rfl,_,aR (aS rfl),rfl⟩
 |true=>
 rw[gS];refine aa ?_;refine W.cx hfn aE h1 rfl rfl rfl (dx (c1 _)) ?_;by_cases bY:f.nd≤400
 rotate_left
 ·refine aa ?_;exact U.ret ⟨rfl,_,aR (aS rfl),by rw[decide_eq_false bY];rfl⟩
 rw[decide_eq_true bY,gS];refine aa ?_;refine W.cx hfn aY h2 rfl rfl rfl (dx (c1 _)) ?_;by_cases dL:f.dep≤40
 ·refine aa ?_;exact U.ret ⟨rfl,_,aR (aS rfl),by rw[decide_eq_true dL];rfl⟩
 ·refine aa ?_;exact U.ret ⟨rfl,_,aR (aS rfl),by rw[decide_eq_false dL];rfl⟩
abbrev cN(m:Nat):AV:=.i .u32 (Int.ofNat m)
theorem c7d(f:Fm)(hn:f.nd<2^60)(fm:f.op<256)(hs:∀u∈f.sub,∀ai:ad,bW ai (b.aT+1000) (.ag (aV u))=some (.ag (aV u)))(e:c5 b rO)(cX:∀u∈f.sub,K rO [.ag (aV u)] (cN (gU u)))
  (body:bc) (hb:Gu.body=some body):U (b.bj K) Gu.ntmps body (c4 [.ag (aV f)]) ⟨.nil,0⟩ (eO Gu.results (cN (gU f))):=by
 cases hb;refine W.args fun z=>?_;have H:Has (⟨.nil,0⟩:ad) []:=Has.nil;have cQ:=Fm.u6 f.sub;have es:(f.ea.getD []).length=f.sub.length:=rfl;have an:=f.iZ;have aj:=c6X f;refine aa ?_;refine W.dr (c:=aV f) H rfl rfl rfl rfl rfl rfl fun fj ek H cc=>?_;have jj:=H;refine lv ?_;refine W.nil ?_;refine W.aU ?_;refine W.rg ?_;refine lv ?_;refine W.nil ?_;refine U.cut [(1,.p (some (0,0))),(3,cN (kI f))] ?_ fun F=>?_
 ·by_cases c:f.op<32
  ·refine aa ?_;refine W.bin rfl rfl rfl rfl (Yo c) ?_;refine aa ?_;exact⟨rfl,rfl,rfl,by show cN (2^f.op)=_;unfold kI;rw[if_pos c],trivial⟩
  ·refine aa ?_;exact⟨rfl,rfl,rfl,by show cN 0=_;unfold kI;rw[if_neg c],trivial⟩
 refine aa ?_;refine U.block (U.loop (fun k F ai=>∃j,j+k=f.sub.length∧ai=fj∧sat [(1,.p (some (0,0))),(3,cN ((f.sub.take j).foldl (fun m g=>m ||| gU g) (kI f))),(4,aC j)] F) (fun k F ai bo=>?_) f.sub.length ⟨0,by omega,rfl,rfl,rfl,rfl,trivial⟩);obtain⟨j,aB,rfl,b4⟩:=bo;refine U.norm _ b4 fun F=>?_;clear b4;have H:=jj;have bu:=Zm (f.sub.take j) (kI f) (Yp f);by_cases b2:j<f.sub.length
 ·have cF:=gx b2;have bI:idxSlA (some 4) (dk true f.ea) j=some (.cG true (.ag (aV f.sub[j]))):=by rw[←oq];exact wW b2
  have j5:=cB b2;generalize f.sub[j]=x at cF bI j5;refine aa ?_;refine W.len rfl rfl rfl gD ?_;refine aa ?_;refine W.dg rfl rfl rfl rfl bI ?_;refine aa ?_
  try (refine W.eV (R:=some 4) rfl rfl rfl rfl ?_;refine aa ?_)
  refine W.cx hfn e (cX _ j5) rfl rfl rfl (dx (hs _ j5 _)) ?_;refine W.bin rfl rfl rfl rfl (u2 bu (pr x)) ?_;refine aa ?_;refine⟨k-1,by omega,j+1,by omega,rfl,rfl,?_,rfl,trivial⟩;rw[cF,MK];rfl
 ·refine aa ?_;refine W.len rfl rfl rfl gD ?_;refine aa ?_;refine U.exit ?_;show ck _ _ _ _ _ _ _ _;refine aa ?_;rw[fv (by omega)];exact U.ret ⟨rfl,_,aR (aS rfl),by rw[aj];rfl⟩
end
structure eo where
 gF:Option (List Fm)
 bN:Fm
 fresh:List Nat
 closed:Bool
structure b6 where
 name:List Nat
 dN:Option (List eo)
 bN:Fm
structure Lgc where
 name:List Nat
 ops:Nat
 kind:Nat
 frame:Nat
 kd:Option (List b6)
def eo.hyps(p:eo):List Fm:=p.gF.getD []
def b6.bF(r:b6):List eo:=r.dN.getD []
def Lgc.rules(l:Lgc):List b6:=l.kd.getD []
abbrev gl(p:eo):List AV:=[dk true p.gF,.i .u8 (Int.ofNat p.bN.op),.s p.bN.name,cR true p.bN.cH,dk true p.bN.ea,.s p.fresh,.b p.closed]
def nD(l:Option (List eo)):AV:=osl true (some 7) (l.map fun l=>l.map fun p=>.ag (gl p))
abbrev ec(r:b6):List AV:=[.s r.name,nD r.dN,.i .u8 (Int.ofNat r.bN.op),.s r.bN.name,cR true r.bN.cH,dk true r.bN.ea]
def tn(l:Option (List b6)):AV:=osl true (some 6) (l.map fun l=>l.map fun r=>.ag (ec r))
abbrev lgC(l:Lgc):List AV:=[.s l.name,.i .u32 (Int.ofNat l.ops),.i .u8 (Int.ofNat l.kind),.i .u8 (Int.ofNat l.frame),tn l.kd]
theorem m6{o:ad}{l:Option (List eo)}:lenA o 1 (nD l)=some (l.getD []).length:=F8
theorem xl{o:ad}{l:Option (List b6)}:lenA o 1 (tn l)=some (l.getD []).length:=F8
theorem u7{l:Option (List eo)}{i:Nat}(h:i<(l.getD []).length):idxSlA (some 7) (nD l) i=some (.cG true (.ag (gl (l.getD [])[i]))):=wT h
theorem HB{l:Option (List b6)}{i:Nat}(h:i<(l.getD []).length):idxSlA (some 6) (tn l) i=some (.cG true (.ag (ec (l.getD [])[i]))):=wT h
theorem ov{l:Option (List Fm)}{i:Nat}(h:i<(l.getD []).length):idxSlA (some 4) (dk true l) i=some (.cG true (.ag (aV (l.getD [])[i]))):=by rw[←oq];exact wW h
theorem C0{l:Option (List Tm)}{i:Nat}(h:i<(l.getD []).length):idxSlA (some 3) (cR true l) i=some (.cG true (.ag (k1 (l.getD [])[i]))):=by rw[←CX];exact rJ h
theorem Nh{I:Bool}{a:Option (List Fm)}:conf none (dk I a)=true:=by cases a<;>rfl
theorem HC(p:Fm→Bool):∀l:List Fm,(Fm.dW l).any p=l.any fun f=>f.parts.any p
 |[]=>by rw[Fm.dW];rfl
 |f::l=>by rw[Fm.dW,rQ,HC p l];rfl
theorem Zn(p:Fm→Bool):∀l:List Fm,(Fm.dW l).all p=l.all fun f=>f.parts.all p
 |[]=>by rw[Fm.dW];rfl
 |f::l=>by rw[Fm.dW,my,Zn p l];rfl
def kK(op:Nat)(m:List Nat)(f:Fm):Bool:=f.parts.any fun g=>decide (g.op=op)&&eqL g.name m
theorem c7e(op:Nat)(m:List Nat)(f:Fm):kK op m f=((decide (f.op=op)&&eqL f.name m)||f.sub.any (kK op m)):=by
 unfold kK;rw[Fm.parts_eq,ta,HC]
def u9(g:Fm):List Nat:=(g.args[1]?.map Tm.name).getD []
def hB(m:List Nat)(f:Fm):Bool:=f.parts.any fun g=>decide (g.op=16)&&eqL (u9 g) m
theorem Zo(m:List Nat)(f:Fm):hB m f=((decide (f.op=16)&&eqL (u9 f) m)||f.sub.any (hB m)):=by
 unfold hB;rw[Fm.parts_eq,ta,HC]
def u_(f:Fm):Prop:=∀g∈f.parts,g.op=16→1<g.args.length
theorem u_.sub{f g:Fm}(h:u_ f)(hg:g∈f.sub):u_ g:=fun x hx=>h x (by
 rw[Fm.parts_eq];refine e_ _ ?_;have:∀l:List Fm,g∈l→x∈Fm.dW l:=fun l=>by
  induction l with
  |nil=>intro h;cases h
  |cons y l ay=>
   intro h;rw[Fm.dW,e4];rcases dP.1 h with rfl|h
   ·exact .inl hx
   ·exact .inr (ay h)
 exact this _ hg)
theorem u_.self{f:Fm}(h:u_ f):f.op=16→1<f.args.length:=h f (by rw[Fm.parts_eq];exact iq)
def va(r:b6)(m:List Nat):Bool:=kK 15 m r.bN||r.bF.any fun p=>kK 15 m p.bN
def hk(r:b6)(f:Fm):Bool:=f.parts.all fun g=>!(decide (g.op=15)||decide (g.op=16))||va r g.name
theorem c7f(r:b6)(f:Fm):hk r f=((!(decide (f.op=15)||decide (f.op=16))||va r f.name)&&f.sub.all (hk r)):=by
 unfold hk;rw[Fm.parts_eq,kP,Zn]
section
variable {b:cv}{K:Nat→List AV→AV→Prop}(hfn:∀g aO r cj,K g aO r→K g aO cj→r=cj)
include hfn
theorem c7g(f:Fm)(op:Nat)(m:List Nat)(eB:f.sub.length<2^62)(hs:∀u∈f.sub,∀ai:ad,bW ai (b.aT+1000) (.ag (aV u))=some (.ag (aV u)))(e:c5 b s_)(cX:∀u∈f.sub,K s_ [.ag (aV u),b5 op,.s m] (.b (kK op m u)))
  (body:bc) (hb:Cw.body=some body):U (b.bj K) Cw.ntmps body (c4 [.ag (aV f),b5 op,.s m]) ⟨.nil,0⟩ (eO Cw.results (.b (kK op m f))):=by
 cases hb;refine W.args fun z=>?_;have H:Has (⟨.nil,0⟩:ad) []:=Has.nil;have es:(f.ea.getD []).length=f.sub.length:=rfl;have an:=c7e op m f;refine aa ?_;refine W.dr (c:=aV f) H rfl rfl rfl rfl rfl rfl fun fj ek H cc=>?_;have jj:=H;have yes:∀ {ai:ad},kK op m f=true→freeze ai 0 1000 (.b true)=some (.b (kK op m f)):=fun h=>by rw[h];rfl
 refine lv ?_;refine W.nil ?_;refine U.od [(1,b5 op),(2,.s m),(3,.p (some (0,0)))] (E:=eO Cw.results (.b (kK op m f))) (M:=(decide (f.op=op)&&eqL f.name m)=false) ?_ (fun x bC ah h=>⟨by rw[h.1];simp,h⟩) fun bS F=>?_
 ·refine aa ?_;by_cases bY:f.op=op
  rotate_left
  ·refine aa ?_;exact .inl ⟨rfl,rfl,⟨rfl,rfl,rfl,trivial⟩,by rw[decide_eq_false bY];rfl⟩
  refine aa ?_;refine W.bin (v:=.b (eqL f.name m)) rfl rfl rfl rfl rfl ?_;cases dL:eqL f.name m with
  |false=>
   refine aa ?_;exact .inl ⟨rfl,rfl,⟨rfl,rfl,rfl,trivial⟩,by rw[lU]⟩
  |true=>
   refine aa ?_;exact U.ret (.inr ⟨rfl,_,aR (aS rfl),yes (by rw[an,decide_eq_true bY,dL];rfl)⟩)
 ·rw[bS,tW] at an;refine aa ?_;refine U.block (U.loop (fun k F ai=>∃j,j+k=f.sub.length∧ai=fj∧(f.sub.take j).any (kK op m)=false∧sat [(1,b5 op),(2,.s m),(3,.p (some (0,0))),(7,aC j)] F) (fun k F ai bo=>?_) f.sub.length ⟨0,by omega,rfl,rfl,rfl,rfl,rfl,rfl,trivial⟩);obtain⟨j,aB,rfl,cQ,b4⟩:=bo;refine U.norm _ b4 fun F=>?_;clear b4;have H:=jj;by_cases b2:j<f.sub.length
  ·have hm:=cB b2;have cF:=gx b2;have bI:=ov (l:=f.ea) b2;have eG:(f.ea.getD [])[j]=f.sub[j]:=rfl;rw[eG] at bI;generalize f.sub[j]=x at hm cF bI;refine aa ?_;refine W.len rfl rfl rfl gD ?_;refine aa ?_;refine W.dg rfl rfl rfl rfl bI ?_;refine aa ?_
   try (refine W.eV (R:=some 4) rfl rfl rfl rfl ?_;refine aa ?_)
   refine W.cx hfn e (cX _ hm) rfl rfl rfl (sV (hs _ hm _) rfl rfl) ?_;refine aa ?_;cases hf:kK op m x with
   |true=>
    refine aa ?_;exact U.ret ⟨rfl,_,aR (aS rfl),yes (by rw[an];exact tX.2 ⟨x,hm,hf⟩)⟩
   |false=>
    refine aa ?_;refine⟨k-1,by omega,j+1,by omega,rfl,?_,rfl,rfl,rfl,rfl,trivial⟩;rw[cF,rQ,cQ,ta,hf];rfl
  ·refine aa ?_;refine W.len rfl rfl rfl gD ?_;refine aa ?_;refine U.exit ?_;show ck _ _ _ _ _ _ _ _;refine aa ?_;rw[fv (by omega)] at cQ;exact U.ret ⟨rfl,_,aR (aS rfl),by rw[an,cQ];rfl⟩
theorem c7h(f:Fm)(m:List Nat)(eB:f.sub.length<2^62)(jy:f.op=16→1<f.args.length)(hs:∀u∈f.sub,∀ai:ad,bW ai (b.aT+1000) (.ag (aV u))=some (.ag (aV u)))(e:c5 b uR)(cX:∀u∈f.sub,K uR [.ag (aV u),.s m] (.b (hB m u)))
  (body:bc) (hb:Ct.body=some body):U (b.bj K) Ct.ntmps body (c4 [.ag (aV f),.s m]) ⟨.nil,0⟩ (eO Ct.results (.b (hB m f))):=by
 cases hb;refine W.args fun z=>?_;have H:Has (⟨.nil,0⟩:ad) []:=Has.nil;have es:(f.ea.getD []).length=f.sub.length:=rfl;have an:=Zo m f;refine aa ?_;refine W.dr (c:=aV f) H rfl rfl rfl rfl rfl rfl fun fj ek H cc=>?_;have jj:=H;have yes:∀ {ai:ad},hB m f=true→freeze ai 0 1000 (.b true)=some (.b (hB m f)):=fun h=>by rw[h];rfl
 refine lv ?_;refine W.nil ?_;refine U.od [(1,.s m),(2,.p (some (0,0)))] (E:=eO Ct.results (.b (hB m f))) (M:=(decide (f.op=16)&&eqL (u9 f) m)=false) ?_ (fun x bC ah h=>⟨by rw[h.1];simp,h⟩) fun bS F=>?_
 ·refine aa ?_;by_cases bY:f.op=16
  rotate_left
  ·refine aa ?_;exact .inl ⟨rfl,rfl,⟨rfl,rfl,trivial⟩,by rw[decide_eq_false bY];rfl⟩
  refine aa ?_;have h1:=jy bY;obtain⟨x,bI,aE⟩:∃x:Tm,idxSlA (some 3) (cR true f.cH) 1=some (.cG true (.ag (k1 x)))∧u9 f=x.name:=⟨_,C0 (l:=f.cH) h1,by unfold u9;rw[cS h1];rfl⟩
  rw[aE] at an ⊢;refine W.dg (j:=1) rfl rfl rfl rfl bI ?_;refine aa ?_;refine W.bin (v:=.b (eqL x.name m)) rfl rfl rfl rfl rfl ?_;cases dL:eqL x.name m with
  |false=>
   refine aa ?_;exact .inl ⟨rfl,rfl,⟨rfl,rfl,trivial⟩,by rw[lU]⟩
  |true=>
   refine aa ?_;exact U.ret (.inr ⟨rfl,_,aR (aS rfl),yes (by rw[an,decide_eq_true bY,dL];rfl)⟩)
 ·rw[bS,tW] at an;refine aa ?_;refine U.block (U.loop (fun k F ai=>∃j,j+k=f.sub.length∧ai=fj∧(f.sub.take j).any (hB m)=false∧sat [(1,.s m),(2,.p (some (0,0))),(5,aC j)] F) (fun k F ai bo=>?_) f.sub.length ⟨0,by omega,rfl,rfl,rfl,rfl,rfl,trivial⟩);obtain⟨j,aB,rfl,cQ,b4⟩:=bo;refine U.norm _ b4 fun F=>?_;clear b4;have H:=jj;by_cases b2:j<f.sub.length
  ·have hm:=cB b2;have cF:=gx b2;have bI:=ov (l:=f.ea) b2;have eG:(f.ea.getD [])[j]=f.sub[j]:=rfl;rw[eG] at bI;generalize f.sub[j]=x at hm cF bI;refine aa ?_;refine W.len rfl rfl rfl gD ?_;refine aa ?_;refine W.dg rfl rfl rfl rfl bI ?_;refine aa ?_
   try (refine W.eV (R:=some 4) rfl rfl rfl rfl ?_;refine aa ?_)
   refine W.cx hfn e (cX _ hm) rfl rfl rfl (gT (hs _ hm _) rfl) ?_;refine aa ?_;cases hf:hB m x with
   |true=>
    refine aa ?_;exact U.ret ⟨rfl,_,aR (aS rfl),yes (by rw[an];exact tX.2 ⟨x,hm,hf⟩)⟩
   |false=>
    refine aa ?_;refine⟨k-1,by omega,j+1,by omega,rfl,?_,rfl,rfl,rfl,trivial⟩;rw[cF,rQ,cQ,ta,hf];rfl
  ·refine aa ?_;refine W.len rfl rfl rfl gD ?_;refine aa ?_;refine U.exit ?_;show ck _ _ _ _ _ _ _ _;refine aa ?_;rw[fv (by omega)] at cQ;exact U.ret ⟨rfl,_,aR (aS rfl),by rw[an,cQ];rfl⟩
end
section
variable {b:cv}{K:Nat→List AV→AV→Prop}(hfn:∀g aO r cj,K g aO r→K g aO cj→r=cj)
include hfn
theorem c7i(r:b6)(f:Fm)(eB:f.sub.length<2^62)(js:r.bF.length<2^62)(c1:∀ai:ad,bW ai (b.aT+1000) (.ag (ec r))=some (.ag (ec r)))(o4:∀ai:ad,bW ai (b.aT+1000) (.ag (aV r.bN))=some (.ag (aV r.bN)))(kX:∀p∈r.bF,∀ai:ad,bW ai (b.aT+1000) (.ag (aV p.bN))=some (.ag (aV p.bN)))
  (hs:∀u∈f.sub,∀ai:ad,bW ai (b.aT+1000) (.ag (aV u))=some (.ag (aV u))) (eG:c5 b s_) (h0:∀m,K s_ [.ag (aV r.bN),b5 15,.s m] (.b (kK 15 m r.bN))) (h1:∀p∈r.bF,∀m,K s_ [.ag (aV p.bN),b5 15,.s m] (.b (kK 15 m p.bN)))
  (e:c5 b uS) (cX:∀u∈f.sub,K uS [.ag (ec r),.ag (aV u)] (.b (hk r u)))
  (body:bc) (hb:Cs.body=some body):U (b.bj K) Cs.ntmps body (c4 [.ag (ec r),.ag (aV f)]) ⟨.nil,0⟩ (eO Cs.results (.b (hk r f))):=by
 cases hb;refine W.args fun z=>?_;have H:Has (⟨.nil,0⟩:ad) []:=Has.nil;have es:(f.ea.getD []).length=f.sub.length:=rfl;have jS:(r.dN.getD []).length=r.bF.length:=rfl;have an:=c7f r f;refine aa ?_;refine W.dr (c:=ec r) H rfl rfl rfl rfl rfl rfl fun c2 ek H cc=>?_;refine W.dr (c:=aV f) H (by rw[ek]) rfl rfl rfl rfl rfl fun fj jO H cJ=>?_;have jj:=H;have no:∀ {ai:ad},hk r f=false→freeze ai 0 1000 (.b false)=some (.b (hk r f)):=fun h=>by rw[h];rfl
 refine lv ?_;refine W.nil ?_;refine U.od [(2,.p (some (0,0))),(3,.p (some (1,0)))] (E:=eO Cs.results (.b (hk r f))) (M:=(!(decide (f.op=15)||decide (f.op=16))||va r f.name)=true) ?_ (fun x bC ah h=>⟨by rw[h.1];simp,h⟩) fun bS F=>?_
 ·have fin:(f.op=15∨f.op=16)→(!(decide (f.op=15)||decide (f.op=16))||va r f.name)=va r f.name:=fun h=>by
   rcases h with h|h<;>rw[h]<;>rfl
  refine aa ?_;by_cases bY:f.op=15∨f.op=16
  rotate_left
  ·refine aa ?_;exact .inl ⟨rfl,rfl,⟨rfl,rfl,trivial⟩,by rw[decide_eq_false fun h=>bY (.inl h),decide_eq_false fun h=>bY (.inr h)];rfl⟩
  rw[fin bY] at an ⊢;rcases bY with bY|bY
  all_goals (refine aa ?_)
  all_goals (refine W.cx hfn eG (h0 f.name) rfl rfl rfl (sV (o4 _) rfl rfl) ?_)
  all_goals (refine aa ?_)
  all_goals (refine U.block (U.loop (fun k F ai=>∃j ok,j+k=r.bF.length∧ai=fj∧ok=(kK 15 f.name r.bN||(r.bF.take j).any fun p=>kK 15 f.name p.bN)∧sat [(2,.p (some (0,0))),(3,.p (some (1,0))),(5,.b ok),(6,aC j)] F) (fun k F ai bo=>?_) r.bF.length ⟨0,_,by omega,rfl,by rw[oi,List.any_nil,Hg],rfl,rfl,rfl,rfl,trivial⟩))
  all_goals (obtain⟨j,ok,aB,rfl,hok,b4⟩:=bo)
  all_goals (refine U.norm _ b4 fun F=>?_)
  all_goals (clear b4;have H:=jj)
  all_goals (by_cases b2:j<r.bF.length)
  iterate 2
   ·have hm:=cB b2;have cF:=gx b2;have bI:=u7 (l:=r.dN) b2;have eD:(r.dN.getD [])[j]=r.bF[j]:=rfl;rw[eD] at bI;generalize r.bF[j]=x at hm cF bI;refine aa ?_;refine W.len rfl rfl rfl m6 ?_;cases ok with
    |true=>
     refine aa ?_;refine⟨k-1,by omega,j+1,true,by omega,rfl,?_,rfl,rfl,rfl,rfl,trivial⟩;rw[cF,rQ,← zw,← hok];rfl
    |false=>
     refine aa ?_;refine W.dg rfl rfl rfl rfl bI ?_;refine aa ?_;refine W.cx hfn eG (h1 _ hm f.name) rfl rfl rfl (sV (kX _ hm _) rfl rfl) ?_;refine aa ?_;refine⟨k-1,by omega,j+1,_,by omega,rfl,?_,rfl,rfl,rfl,rfl,trivial⟩;rw[cF,rQ,← zw,← hok,ta];simp
   ·refine aa ?_;refine W.len rfl rfl rfl m6 ?_;refine aa ?_;refine U.exit ?_;show ck _ _ _ _ _ _ _ _;refine aa ?_;rw[fv (by omega)] at hok;have hok:ok=va r f.name:=hok;cases ok with
    |true=>
     refine aa ?_;exact .inl ⟨rfl,rfl,⟨rfl,rfl,trivial⟩,hok.symm⟩
    |false=>
     refine aa ?_;exact U.ret (.inr ⟨rfl,_,aR (aS rfl),no (by rw[an,← hok];rfl)⟩)
 ·rw[bS,gS] at an;refine aa ?_;refine U.block (U.loop (fun k F ai=>∃j,j+k=f.sub.length∧ai=fj∧(f.sub.take j).all (hk r)=true∧sat [(2,.p (some (0,0))),(3,.p (some (1,0))),(7,aC j)] F) (fun k F ai bo=>?_) f.sub.length ⟨0,by omega,rfl,rfl,rfl,rfl,rfl,trivial⟩);obtain⟨j,aB,rfl,cQ,b4⟩:=bo;refine U.norm _ b4 fun F=>?_;clear b4;have H:=jj;by_cases b2:j<f.sub.length
  ·have hm:=cB b2;have cF:=gx b2;have bI:=ov (l:=f.ea) b2;have eG:(f.ea.getD [])[j]=f.sub[j]:=rfl;rw[eG] at bI;generalize f.sub[j]=x at hm cF bI;refine aa ?_;refine W.len rfl rfl rfl gD ?_;refine aa ?_;refine W.dg rfl rfl rfl rfl bI ?_;refine aa ?_
   try (refine W.eV (R:=some 4) rfl rfl rfl rfl ?_;refine aa ?_)
   refine W.cx hfn e (cX _ hm) rfl rfl rfl (gT (c1 _) (hs _ hm _)) ?_;refine aa ?_;cases hf:hk r x with
   |false=>
    refine aa ?_;exact U.ret ⟨rfl,_,aR (aS rfl),no (by rw[an];exact kH.2 ⟨x,hm,by rw[hf];simp⟩)⟩
   |true=>
    refine aa ?_;refine⟨k-1,by omega,j+1,by omega,rfl,?_,rfl,rfl,rfl,trivial⟩;rw[cF,my,cQ,kP,hf];rfl
  ·refine aa ?_;refine W.len rfl rfl rfl gD ?_;refine aa ?_;refine U.exit ?_;show ck _ _ _ _ _ _ _ _;refine aa ?_;rw[fv (by omega)] at cQ;exact U.ret ⟨rfl,_,aR (aS rfl),by rw[an,cQ];rfl⟩
end
def pt(p:eo):Bool:=(eqL p.fresh []||hB p.fresh p.bN)||p.hyps.any (hB p.fresh)
def k2(p:eo):Bool:=decide (p.hyps.length≤3)&&(hj true p.bN&&p.hyps.all (hj true))
def nE(r:b6)(p:eo):Bool:=hk r p.bN&&(p.hyps.all (hk r)&&pt p)
def fp(r:b6):Bool:=iI r.name&&(decide (r.bF.length≤4)&&(hj true r.bN&&(r.bF.all k2&&(hk r r.bN&&r.bF.all (nE r)))))
def eo.fs(p:eo):List Fm:=p.bN::p.hyps
def b6.fs(r:b6):List Fm:=r.bN::r.bF.flatMap eo.fs
theorem b6.mC(r:b6):r.bN∈r.fs:=iq
theorem b6.mD{r:b6}{p:eo}(h:p∈r.bF):p.bN∈r.fs:=e_ _ (sd.2 ⟨p,h,iq⟩)
theorem b6.ow{r:b6}{p:eo}(h:p∈r.bF){f:Fm}(hf:f∈p.hyps):f∈r.fs:=e_ _ (sd.2 ⟨p,h,e_ _ hf⟩)
section
variable {b:cv}{K:Nat→List AV→AV→Prop}(hfn:∀g aO r cj,K g aO r→K g aO cj→r=cj)
include hfn
theorem c7j(r:b6)(js:r.bF.length<2^62)(lx:∀p∈r.bF,p.hyps.length<2^62)(c1:∀ai:ad,bW ai (b.aT+1000) (.ag (ec r))=some (.ag (ec r)))(hs:∀f∈r.fs,∀ai:ad,bW ai (b.aT+1000) (.ag (aV f))=some (.ag (aV f)))
  (eG:c5 b zq) (h0:K zq [.s r.name] (.b (iI r.name))) (aE:c5 b zr) (h1:∀f∈r.fs,K zr [.ag (aV f)] (.b (hj true f))) (aY:c5 b uR) (h2:∀f∈r.fs,hj true f=true→∀m,K uR [.ag (aV f),.s m] (.b (hB m f)))
  (cZ:c5 b uS) (h3:∀f∈r.fs,K uS [.ag (ec r),.ag (aV f)] (.b (hk r f)))
  (body:bc) (hb:Gs.body=some body):U (b.bj K) Gs.ntmps body (c4 [.ag (ec r)]) ⟨.nil,0⟩ (eO Gs.results (.b (fp r))):=by
 cases hb;refine W.args fun z=>?_;have H:Has (⟨.nil,0⟩:ad) []:=Has.nil;have jS:(r.dN.getD []).length=r.bF.length:=rfl;have no:∀ {ai:ad},fp r=false→freeze ai 0 1000 (.b false)=some (.b (fp r)):=fun h=>by rw[h];rfl
 refine aa ?_;refine W.dr (c:=ec r) H rfl rfl rfl rfl rfl rfl fun fj ek H cc=>?_;refine aa ?_;refine W.cx hfn eG h0 rfl rfl rfl (dx rfl) ?_;cases gp:iI r.name with
 |false=>
  refine aa ?_;exact U.ret ⟨rfl,_,aR (aS rfl),no (by unfold fp;rw[gp];rfl)⟩
 |true=>
 refine aa ?_;refine W.len rfl rfl rfl m6 ?_;by_cases bY:r.bF.length≤4
 rotate_left
 ·refine aa ?_;exact U.ret ⟨rfl,_,aR (aS rfl),no (by unfold fp;rw[decide_eq_false bY];simp)⟩
 refine aa ?_;refine W.cx hfn aE (h1 _ r.mC) rfl rfl rfl (dx (hs _ r.mC _)) ?_;cases dL:hj true r.bN with
 |false=>
  refine aa ?_;exact U.ret ⟨rfl,_,aR (aS rfl),no (by unfold fp;rw[dL];simp)⟩
 |true=>
 have an:fp r=(r.bF.all k2&&(hk r r.bN&&r.bF.all (nE r))):=by unfold fp;rw[gp,dL,decide_eq_true bY];rfl
 refine aa ?_;refine U.block (U.loop (fun k F ai=>∃j,j+k=r.bF.length∧ai.get 0=some (.cells (ec r))∧(r.bF.take j).all k2=true∧sat [(1,.p (some (0,0))),(3,aC j)] F) (fun k F ai bo=>?_) r.bF.length ⟨0,by omega,H.get _ (.head _),rfl,rfl,rfl,trivial⟩);obtain⟨j,aB,hg,cQ,b4⟩:=bo;refine U.norm _ b4 fun F=>?_;clear b4 H;have H:Has ai [(0,ec r)]:=Has.nil.cons hg (by simp);by_cases b2:j<r.bF.length
 ·have hm:=cB b2;have cF:=gx b2;have bI:=u7 (l:=r.dN) b2;have eD:(r.dN.getD [])[j]=r.bF[j]:=rfl;rw[eD] at bI;generalize r.bF[j]=p at hm cF bI;have js:=lx p hm;have xm:(p.gF.getD []).length=p.hyps.length:=rfl;have bad:∀ {ai:ad},k2 p=false→freeze ai 0 1000 (.b false)=some (.b (fp r)):=fun h=>no (by rw[an,kH.2 ⟨p,hm,by rw[h];simp⟩];rfl);refine aa ?_;refine W.len rfl rfl rfl m6 ?_;refine aa ?_;refine W.dg rfl rfl rfl rfl bI ?_;refine W.eV (R:=some 7) rfl rfl rfl rfl ?_;generalize aI:ai.next=q;refine W.kG (c:=gl p) H aI rfl rfl rfl rfl rfl rfl fun cL jO H cJ=>?_;have yK:(0:Nat)≠q:=by have:=ad.ei hg;omega
  refine aa ?_;refine W.len rfl rfl rfl gD ?_;by_cases d1:p.hyps.length≤3
  rotate_left
  ·refine aa ?_;exact U.ret ⟨rfl,_,aR (aS rfl),bad (by unfold k2;rw[decide_eq_false d1];rfl)⟩
  refine aa ?_;refine W.cx hfn aE (h1 _ (b6.mD hm)) rfl rfl rfl (dx (hs _ (b6.mD hm) _)) ?_;cases d2:hj true p.bN with
  |false=>
   refine aa ?_;exact U.ret ⟨rfl,_,aR (aS rfl),bad (by unfold k2;rw[d2];simp)⟩
  |true=>
  have hp:k2 p=p.hyps.all (hj true):=by unfold k2;rw[d2,decide_eq_true d1];rfl
  refine aa ?_;have xn:=H;refine U.block (U.loop (fun gZ F eg=>∃i,i+gZ=p.hyps.length∧eg=cL∧(p.hyps.take i).all (hj true)=true∧sat [(1,.p (some (0,0))),(3,aC j),(4,.p (some (q,0))),(5,aC i)] F) (fun gZ F eg bo=>?_) p.hyps.length ⟨0,by omega,rfl,rfl,rfl,rfl,rfl,rfl,trivial⟩);obtain⟨i,hi,rfl,hI,b4⟩:=bo;refine U.norm _ b4 fun F=>?_;clear b4;have H:=xn;by_cases lh:i<p.hyps.length
  ·have hR:=cB lh;have ly:=gx lh;have kL:=ov (l:=p.gF) lh;have eD:(p.gF.getD [])[i]=p.hyps[i]:=rfl;rw[eD] at kL;generalize p.hyps[i]=f at hR ly kL;refine aa ?_;refine W.len rfl rfl rfl gD ?_;refine aa ?_;refine W.dg rfl rfl rfl rfl kL ?_;refine W.eV (R:=some 4) rfl rfl rfl rfl ?_;refine W.cx hfn aE (h1 _ (b6.ow hm hR)) rfl rfl rfl (dx (hs _ (b6.ow hm hR) _)) ?_;cases hf:hj true f with
   |false=>
    refine aa ?_;exact U.ret ⟨rfl,_,aR (aS rfl),bad (by rw[hp];exact kH.2 ⟨f,hR,by rw[hf];simp⟩)⟩
   |true=>
    refine aa ?_;refine⟨gZ-1,by omega,i+1,by omega,rfl,?_,rfl,rfl,rfl,rfl,trivial⟩;rw[ly,my,hI,kP,hf];rfl
  ·refine aa ?_;refine W.len rfl rfl rfl gD ?_;refine aa ?_;refine U.exit ?_;show ck _ _ _ _ _ _ _ _;refine aa ?_;rw[fv (by omega)] at hI;refine⟨k-1,by omega,j+1,by omega,cJ _ _ hg,?_,rfl,rfl,trivial⟩;rw[cF,my,cQ,kP,hp,hI];rfl
 ·refine aa ?_;refine W.len rfl rfl rfl m6 ?_;refine aa ?_;refine U.exit ?_;show ck _ _ _ _ _ _ _ _;rw[fv (by omega)] at cQ;rw[cQ,gS] at an;have c7k:=fI.1 cQ;have np:∀f∈r.fs,hj true f=true:=fun f hf=>by
   rcases dP.1 hf with rfl|hf
   ·exact dL
   ·obtain⟨p,hp,hf⟩:=sd.1 hf;have:=c7k p hp;unfold k2 at this;rw[bT,bT] at this;rcases dP.1 hf with rfl|hf
    ·exact this.2.1
    ·exact fI.1 this.2.2 f hf
  refine aa ?_;refine W.cx hfn cZ (h3 _ r.mC) rfl rfl rfl (gT (c1 _) (hs _ r.mC _)) ?_;cases jh:hk r r.bN with
  |false=>
   refine aa ?_;exact U.ret ⟨rfl,_,aR (aS rfl),no (by rw[an,jh];rfl)⟩
  |true=>
  rw[jh,gS] at an;refine aa ?_;clear cQ aB b2;refine U.block (U.loop (fun k F ai=>∃j,j+k=r.bF.length∧ai.get 0=some (.cells (ec r))∧(r.bF.take j).all (nE r)=true∧sat [(1,.p (some (0,0))),(6,aC j)] F) (fun k F ai bo=>?_) r.bF.length ⟨0,by omega,hg,rfl,rfl,rfl,trivial⟩);clear hg H;obtain⟨j,aB,hg,cQ,b4⟩:=bo;refine U.norm _ b4 fun F=>?_;clear b4;have H:Has ai [(0,ec r)]:=Has.nil.cons hg (by simp);by_cases b2:j<r.bF.length
  ·have hm:=cB b2;have cF:=gx b2;have bI:=u7 (l:=r.dN) b2;have eD:(r.dN.getD [])[j]=r.bF[j]:=rfl;rw[eD] at bI;generalize r.bF[j]=p at hm cF bI;have js:=lx p hm;have xm:(p.gF.getD []).length=p.hyps.length:=rfl;have bad:∀ {ai:ad},nE r p=false→freeze ai 0 1000 (.b false)=some (.b (fp r)):=fun h=>no (by rw[an,kH.2 ⟨p,hm,by rw[h];simp⟩]);refine aa ?_;refine W.len rfl rfl rfl m6 ?_;refine aa ?_;refine W.dg rfl rfl rfl rfl bI ?_;refine W.eV (R:=some 7) rfl rfl rfl rfl ?_;generalize aI:ai.next=q;refine W.kG (c:=gl p) H aI rfl rfl rfl rfl rfl rfl fun cL jO H cJ=>?_;have yK:(0:Nat)≠q:=by have:=ad.ei hg;omega
   have xn:=H;refine lv ?_;refine W.nil ?_;refine U.cut [(1,.p (some (0,0))),(6,aC j),(7,.p (some (q,0))),(8,.b (eqL p.fresh []||hB p.fresh p.bN))] ?_ fun F=>?_
   ·refine aa ?_;refine W.bin (v:=.b (eqL p.fresh [])) rfl rfl rfl rfl rfl ?_;cases d1:eqL p.fresh [] with
    |true=>
     refine aa ?_;exact⟨rfl,rfl,rfl,rfl,rfl,rfl,trivial⟩
    |false=>
     refine aa ?_;refine W.cx hfn aY (h2 _ (b6.mD hm) (np _ (b6.mD hm)) p.fresh) rfl rfl rfl (gT (hs _ (b6.mD hm) _) rfl) ?_;refine aa ?_;exact⟨rfl,rfl,rfl,rfl,rfl,rfl,trivial⟩
   generalize EN:(eqL p.fresh []||hB p.fresh p.bN)=fd;refine aa ?_;refine W.cx hfn cZ (h3 _ (b6.mD hm)) rfl rfl rfl (gT (c1 _) (hs _ (b6.mD hm) _)) ?_;cases d2:hk r p.bN with
   |false=>
    refine aa ?_;exact U.ret ⟨rfl,_,aR (aS rfl),bad (by unfold nE;rw[d2];rfl)⟩
   |true=>
   have hp:nE r p=(p.hyps.all (hk r)&&(fd||p.hyps.any (hB p.fresh))):=by unfold nE pt;rw[d2,EN];rfl
   refine aa ?_;refine U.block (U.loop (fun gZ F eg=>∃i ok,i+gZ=p.hyps.length∧eg=cL∧(p.hyps.take i).all (hk r)=true∧ok=(fd||(p.hyps.take i).any (hB p.fresh))∧sat [(1,.p (some (0,0))),(6,aC j),(7,.p (some (q,0))),(8,.b ok),(9,aC i)] F) (fun gZ F eg bo=>?_) p.hyps.length ⟨0,fd,by omega,rfl,rfl,by rw[oi,List.any_nil,Hg],rfl,rfl,rfl,rfl,rfl,trivial⟩);obtain⟨i,ok,hi,rfl,hI,hok,b4⟩:=bo;refine U.norm _ b4 fun F=>?_;clear b4;have H:=xn;by_cases lh:i<p.hyps.length
   ·have hR:=cB lh;have ly:=gx lh;have kL:=ov (l:=p.gF) lh;have eD:(p.gF.getD [])[i]=p.hyps[i]:=rfl;rw[eD] at kL;generalize p.hyps[i]=f at hR ly kL;refine aa ?_;refine W.len rfl rfl rfl gD ?_;cases ok with
    |true=>
     refine aa ?_;refine W.dg rfl rfl rfl rfl kL ?_;refine aa ?_;refine W.cx hfn cZ (h3 _ (b6.ow hm hR)) rfl rfl rfl (gT (c1 _) (hs _ (b6.ow hm hR) _)) ?_;cases hf:hk r f with
     |false=>
      refine aa ?_;exact U.ret ⟨rfl,_,aR (aS rfl),bad (by rw[hp,kH.2 ⟨f,hR,by rw[hf];simp⟩];rfl)⟩
     |true=>
      refine aa ?_;refine⟨gZ-1,by omega,i+1,true,by omega,rfl,?_,?_,rfl,rfl,rfl,rfl,rfl,trivial⟩
      ·rw[ly,my,hI,kP,hf];rfl
      ·rw[ly,rQ,← zw,← hok];rfl
    |false=>
     refine aa ?_;refine W.dg rfl rfl rfl rfl kL ?_;refine aa ?_;refine W.cx hfn aY (h2 _ (b6.ow hm hR) (np _ (b6.ow hm hR)) p.fresh) rfl rfl rfl (gT (hs _ (b6.ow hm hR) _) rfl) ?_;refine aa ?_;refine W.dg rfl rfl rfl rfl kL ?_;refine aa ?_;refine W.cx hfn cZ (h3 _ (b6.ow hm hR)) rfl rfl rfl (gT (c1 _) (hs _ (b6.ow hm hR) _)) ?_;cases hf:hk r f with
     |false=>
      refine aa ?_;exact U.ret ⟨rfl,_,aR (aS rfl),bad (by rw[hp,kH.2 ⟨f,hR,by rw[hf];simp⟩];rfl)⟩
     |true=>
      refine aa ?_;refine⟨gZ-1,by omega,i+1,_,by omega,rfl,?_,?_,rfl,rfl,rfl,rfl,rfl,trivial⟩
      ·rw[ly,my,hI,kP,hf];rfl
      ·rw[ly,rQ,← zw,← hok,ta];simp
   ·refine aa ?_;refine W.len rfl rfl rfl gD ?_;refine aa ?_;refine U.exit ?_;show ck _ _ _ _ _ _ _ _;refine aa ?_;rw[fv (by omega)] at hI hok;rw[hI,← hok,gS] at hp;cases ok with
    |false=>
     refine aa ?_;exact U.ret ⟨rfl,_,aR (aS rfl),bad hp⟩
    |true=>
     refine aa ?_;refine⟨k-1,by omega,j+1,by omega,cJ _ _ hg,?_,rfl,rfl,trivial⟩;rw[cF,my,cQ,kP,hp];rfl
  ·refine aa ?_;refine W.len rfl rfl rfl m6 ?_;refine aa ?_;refine U.exit ?_;show ck _ _ _ _ _ _ _ _;refine aa ?_;rw[fv (by omega)] at cQ;exact U.ret ⟨rfl,_,aR (aS rfl),by rw[an,cQ];rfl⟩
end
end
section
variable [Tok][TokOk]
open Go.RowKit Go.Lyc.T
def hC(a c:Nat):Nat:=(BitVec.ofNat 32 a &&& ~~~ BitVec.ofNat 32 c).toNat
theorem c7l(a c:Nat):hC a c<2^32:=BitVec.isLt _
theorem zz{a c:Nat}:binop .andNot (cN a) (cN c)=some (cN (hC a c)):=by
 show some (AV.i .u32 (IntKind.wrap .u32 ((hC a c:Nat):Int)))=_;rw[wrap32 (c7l a c)];rfl
theorem Zp{a c:Nat}(ha:a<2^32)(ab:c<2^32):binop .and (cN a) (cN c)=some (cN (a &&& c)):=by
 have h:(BitVec.ofInt IntKind.u32.bits (Int.ofNat a) &&& BitVec.ofInt IntKind.u32.bits (Int.ofNat c)).toNat=a &&& c:=by
  rw[BitVec.toNat_and,ofInt32 a ha,ofInt32 c ab]
 show some (AV.i .u32 (IntKind.wrap .u32 ((BitVec.ofInt IntKind.u32.bits (Int.ofNat a) &&& BitVec.ofInt IntKind.u32.bits (Int.ofNat c)).toNat:Int)))=_;rw[h,wrap32 (vD Nat.and_le_left ha)];rfl
theorem Ni{a c:Nat}(h:a+c<2^32):binop .add (cN a) (cN c)=some (cN (a+c)):=by
 show some (AV.i .u32 (IntKind.wrap .u32 ((a:Int)+(c:Int))))=_;rw[show((a:Int)+(c:Int))=((a+c:Nat):Int) by omega,wrap32 h];rfl
theorem c7m{a c:Nat}(ha:a<2^32)(ab:0<c):binop .quo (cN a) (cN c)=some (cN (a/c)):=by
 show(if Int.ofNat c=0 then none else some (AV.i .u32 (IntKind.wrap .u32 ((Int.ofNat a).tdiv (Int.ofNat c)))))=_;rw[if_neg (by simp;omega),show(Int.ofNat a).tdiv (Int.ofNat c)=((a/c:Nat):Int) from rfl,wrap32 (vD (D_ a c) ha)];rfl
theorem C1{a c:Nat}(ab:0<c):binop .rem (cN a) (cN c)=some (cN (a%c)):=by
 show(if Int.ofNat c=0 then none else some (AV.i .u32 ((Int.ofNat a).tmod (Int.ofNat c))))=_;rw[if_neg (by simp;omega)];rfl
theorem HD{k:IntKind}{a c:Nat}(ab:c≤32):binop .shr (cN a) (.i k (Int.ofNat c))=some (cN (a/2^c)):=by
 show(if Int.ofNat c<0 then none else some (AV.i .u32 ((Int.ofNat a).fdiv (2^(min (Int.ofNat c).toNat IntKind.u32.bits)))))=_;rw[if_neg (by simp),show min (Int.ofNat c).toNat IntKind.u32.bits=c by show min c 32=c;omega]
 congr 2
 show(a:Int).fdiv (2^c)=((a/2^c:Nat):Int);rw[show((2:Int)^c)=((2^c:Nat):Int) by simp];rw[Yl _ (vC _)];rw[Int.natCast_ediv]
theorem xo(a k:Nat):(a/2^k%2=1)↔a.testBit k=true:=by
 rw[Nat.testBit_eq_decide_div_mod_eq];simp
theorem HE(a c i:Nat):(hC a c).testBit i=(decide (i<32)&&(a.testBit i&& !c.testBit i)):=by
 unfold hC;rw[BitVec.testBit_toNat,BitVec.getLsbD_and,BitVec.getLsbD_not,Ym,Ym];by_cases h:i<32
 ·rw[decide_eq_true h];simp
 ·rw[decide_eq_false h];simp
theorem C2(a c:Nat):hC a c=0↔∀i,i<32→a.testBit i=true→c.testBit i=true:=by
 constructor
 ·intro h i hi ha;have h1:=HE a c i;rw[h,Hi,decide_eq_true hi,ha] at h1;cases ab:c.testBit i with
  |true=>rfl
  |false=>rw[ab] at h1;cases h1
 ·intro h;apply ML;intro i;rw[HE,Hi];by_cases hi:i<32
  ·cases ha:a.testBit i with
   |false=>simp
   |true=>rw[h i hi ha];simp
  ·rw[decide_eq_false hi];rfl
theorem Zq(a cq c:Nat):hC (a ||| cq) c=0↔hC a c=0∧hC cq c=0:=by
 rw[C2,C2,C2];constructor
 ·intro h;exact⟨fun i hi ha=>h i hi (by rw[yc,ha];rfl),fun i hi ha=>h i hi (by rw[yc,ha,Bool.or_true])⟩
 ·intro h i hi ha;rw[yc,kO] at ha;rcases ha with ha|ha
  ·exact h.1 i hi ha
  ·exact h.2 i hi ha
theorem c7n{a:Nat}(h:a<256):binop .andNot (b5 a) (b5 7)=some (b5 (a-a%8)):=by
 have:∀a:Fin 256,IntKind.wrap .u8 (((BitVec.ofInt IntKind.u8.bits (Int.ofNat a.val)) &&& ~~~ BitVec.ofInt IntKind.u8.bits (Int.ofNat 7)).toNat:Int)=Int.ofNat (a.val-a.val%8):=by decide+kernel
 exact congrArg (fun x=>some (AV.i .u8 x)) (this ⟨a,h⟩)
def jT(m:Nat)(f:Fm):Bool:=decide (hC (gU f) m=0)
def nF(ops:Nat):Nat:=if ops &&& 768=0 then ops ||| 32768 else(ops ||| 32768) ||| 65536
theorem c7o(ops:Nat):ops &&& 768=0↔¬(ops/256%2=1∨ops/512%2=1):=by
 rw[show(256:Nat)=2^8 from rfl,show(512:Nat)=2^9 from rfl,xo,xo];constructor
 ·intro h hh;rcases hh with hh|hh
  ·have:=congrArg (fun v=>v.testBit 8) h;simp[CG,hh] at this;exact absurd this (by decide)
  ·have:=congrArg (fun v=>v.testBit 9) h;simp[CG,hh] at this;exact absurd this (by decide)
 ·intro h;apply ML;intro i;rw[CG,Hi];by_cases mm:i=8
  ·subst mm;cases e:ops.testBit 8 with|false=>rfl|true=>exact absurd (.inl e) h
  ·by_cases ns:i=9
   ·subst ns;cases e:ops.testBit 9 with|false=>rfl|true=>exact absurd (.inr e) h
   ·have:Nat.testBit 768 i=false:=by
     rw[show(768:Nat)=2^8+2^9 from rfl,show(2^8+2^9:Nat)=2^8 ||| 2^9 from rfl,yc,E4,E4];simp;omega
    rw[this,lU]
theorem Zr{a k:Nat}(h:a<2^k):a ||| 2^k=a+2^k:=by
 rw[Nat.or_comm,xH];have:=Nat.two_pow_add_eq_or_of_lt h 1;rw[Nat.mul_one] at this;exact this.symm
theorem Zs(ops:Nat):ops &&& 2=0↔ops/2%2=0:=by
 have e:ops/2%2=0↔¬ops.testBit 1=true:=by
  have:=xo ops 1;rw[←this];omega
 rw[e];constructor
 ·intro h hh;have:=congrArg (fun v=>v.testBit 1) h;simp[CG,hh] at this;exact absurd this (by decide)
 ·intro h;apply ML;intro i;rw[CG,Hi];by_cases h1:i=1
  ·subst h1;cases e:ops.testBit 1 with|false=>rfl|true=>exact absurd e h
  ·have:Nat.testBit 2 i=false:=by
    rw[show(2:Nat)=2^1 from rfl,E4];simp;omega
   rw[this,lU]
end
section
variable [Tok][TokOk]
open Go.RowKit Go.Lyc.T
attribute [local irreducible] cU ck dJ fP cy
def k3(k:Nat):Nat:=if k=1∨k=3 then 254 else if k=2 then 1022 else if k=4 then 3326 else if k=5 then 28926 else 0
theorem Zt(k:Nat):k3 k<2^15:=by unfold k3;split;decide;split;decide;split;decide;split<;>decide
def qA(m:Nat)(p:eo):Bool:=jT m p.bN&&p.hyps.all (jT m)
def k4(m:Nat)(r:b6):Bool:=jT m r.bN&&r.bF.all (qA m)
def ke(l:List b6):Bool:=decide (l.map b6.name).Nodup
def ep(l:Lgc):Bool:=
 iI l.name&&(decide (1≤l.kind∧l.kind≤5)&&(decide (l.ops &&& 2≠0)&&(decide (hC l.ops (k3 l.kind)=0)&&(decide (l.rules.length≤64)&&(decide (l.frame≤7)&&(decide (l.frame=0∨l.kind=4)&&
  (l.rules.all (fun r=>fp r&&k4 (nF l.ops) r)&&ke l.rules)))))))
theorem Zu{l:List b6}{j:Nat}(aB:j<l.length):ke (l.take (j+1))=(ke (l.take j)&&(l.take j).all fun r=>!eqL r.name l[j].name):=by
 unfold ke;rw[gx aB,nb,hD,bT,decide_eq_true_iff,decide_eq_true_iff,List.nodup_append,fI];constructor
 ·rintro⟨h1,_,h3⟩;refine⟨h1,fun r af=>?_⟩;have:=h3 r.name (LO af) l[j].name (by simp);cases e:eqL r.name l[j].name with
  |false=>rfl
  |true=>exact absurd ((kU _ _).1 e) this
 ·rintro⟨h1,h2⟩;refine⟨h1,by simp,fun a ha c ab e=>?_⟩;obtain⟨r,af,rfl⟩:=fq.1 ha;simp only[k9,List.map_nil,e3] at ab;have:=h2 r af;rw[e,ab,wQ] at this;cases this
theorem Zv{l:List b6}{j:Nat}(h:ke (l.take j)=false):ke l=false:=by
 cases e:ke l with
 |false=>rfl
 |true=>
  unfold ke at h e;have:=of_decide_eq_true e;exact absurd ((this.sublist ((List.take_sublist j l).map _))) (of_decide_eq_false h)
section
variable {b:cv}{K:Nat→List AV→AV→Prop}(hfn:∀g aO r cj,K g aO r→K g aO cj→r=cj)
include hfn
theorem c7p(f:Fm)(m:Nat)(hs:∀ai:ad,bW ai (b.aT+1000) (.ag (aV f))=some (.ag (aV f)))(e:c5 b rO)(cX:K rO [.ag (aV f)] (cN (gU f)))
  (body:bc) (hb:Gt.body=some body):U (b.bj K) Gt.ntmps body (c4 [.ag (aV f),cN m]) ⟨.nil,0⟩ (eO Gt.results (.b (jT m f))):=by
 cases hb;refine W.args fun z=>?_;have H:Has (⟨.nil,0⟩:ad) []:=Has.nil;refine aa ?_;refine W.dr (c:=aV f) H rfl rfl rfl rfl rfl rfl fun fj ek H cc=>?_;refine aa ?_;refine W.cx hfn e cX rfl rfl rfl (dx (hs _)) ?_;refine aa ?_;refine W.bin rfl rfl rfl rfl zz ?_;unfold jT;by_cases c:hC (gU f) m=0
 ·refine aa ?_;exact U.ret ⟨rfl,_,aR (aS rfl),by rw[decide_eq_true c];rfl⟩
 ·refine aa ?_;exact U.ret ⟨rfl,_,aR (aS rfl),by rw[decide_eq_false c];rfl⟩
theorem c7q(l:Lgc)(xp:l.ops<2^32)(lY:l.kind<256)(bl:l.frame<256)(ET:l.name.length<2^62)(tR:l.rules.length<2^62)(js:∀r∈l.rules,r.bF.length<2^62)(lx:∀r∈l.rules,∀p∈r.bF,p.hyps.length<2^62)
  (c1:∀r∈l.rules,∀ai:ad,bW ai (b.aT+1000) (.ag (ec r))=some (.ag (ec r))) (hs:∀r∈l.rules,∀f∈r.fs,∀ai:ad,bW ai (b.aT+1000) (.ag (aV f))=some (.ag (aV f)))
  (eG:c5 b uQ) (h0:1≤l.kind→l.kind≤5→K uQ [b5 l.kind] (cN (k3 l.kind))) (aE:c5 b zp) (h1:∀r∈l.rules,K zp [.ag (ec r)] (.b (fp r)))
  (aY:c5 b zo) (h2:∀r∈l.rules,∀f∈r.fs,∀m,K zo [.ag (aV f),cN m] (.b (jT m f)))
  (body:bc) (hb:y2.body=some body):U (b.bj K) y2.ntmps body (c4 [.ag (lgC l)]) ⟨.nil,0⟩ (eO y2.results (.b (ep l))):=by
 cases hb;refine W.args fun z=>?_;have H:Has (⟨.nil,0⟩:ad) []:=Has.nil;have dY:(l.kd.getD []).length=l.rules.length:=rfl;have no:∀ {ai:ad},ep l=false→freeze ai 0 1000 (.b false)=some (.b (ep l)):=fun h=>by rw[h];rfl
 refine aa ?_;refine W.dr (c:=lgC l) H rfl rfl rfl rfl rfl rfl fun fj ek H cc=>?_;refine lv ?_;refine W.nil ?_;refine U.od [(1,.p (some (0,0)))] (E:=eO y2.results (.b (ep l))) (M:=ep l=(iI l.name&&(l.rules.all (fun r=>fp r&&k4 (nF l.ops) r)&&ke l.rules))∧1≤l.name.length∧l.name.length≤16∧l.ops<2^15) ?_ (fun x bC ah h=>⟨by rw[h.1];simp,h⟩) fun du F=>?_
 ·refine aa ?_;by_cases a6:l.name.length=0
  ·refine aa ?_;exact U.ret (.inr ⟨rfl,_,aR (aS rfl),no (by unfold ep;rw[CU fun h=>by omega];rfl)⟩)
  refine aa ?_;by_cases a2:16<l.name.length
  ·refine aa ?_;exact U.ret (.inr ⟨rfl,_,aR (aS rfl),no (by unfold ep;rw[CU fun h=>by omega];rfl)⟩)
  refine aa ?_;by_cases a3:l.kind<1
  ·refine aa ?_;exact U.ret (.inr ⟨rfl,_,aR (aS rfl),no (by unfold ep;rw[decide_eq_false (p:=1≤l.kind∧l.kind≤5) (by omega)];simp)⟩)
  refine aa ?_;by_cases a4:5<l.kind
  ·refine aa ?_;exact U.ret (.inr ⟨rfl,_,aR (aS rfl),no (by unfold ep;rw[decide_eq_false (p:=1≤l.kind∧l.kind≤5) (by omega)];simp)⟩)
  refine aa ?_;refine W.bin rfl rfl rfl rfl (c7m (c:=2) xp (by omega)) ?_;refine aa ?_;refine W.bin rfl rfl rfl rfl (C1 (c:=2) (by omega)) ?_;by_cases a5:l.ops/2%2=0
  ·refine aa ?_;exact U.ret (.inr ⟨rfl,_,aR (aS rfl),no (by unfold ep;rw[decide_eq_false (p:=l.ops &&& 2≠0) (fun h=>h ((Zs _).2 a5))];simp)⟩)
  refine aa ?_;refine W.cx hfn eG (h0 (by omega) (by omega)) rfl rfl rfl (dx rfl) ?_;refine aa ?_;refine W.bin rfl rfl rfl rfl zz ?_;by_cases kv:hC l.ops (k3 l.kind)=0
  rotate_left
  ·refine aa ?_;exact U.ret (.inr ⟨rfl,_,aR (aS rfl),no (by unfold ep;rw[decide_eq_false kv];simp)⟩)
  refine aa ?_;refine W.len rfl rfl rfl xl ?_;by_cases rU:64<l.rules.length
  ·refine aa ?_;exact U.ret (.inr ⟨rfl,_,aR (aS rfl),no (by unfold ep;rw[decide_eq_false (p:=l.rules.length≤64) (by omega)];simp)⟩)
  refine aa ?_;by_cases Zw:7<l.frame
  ·refine aa ?_;exact U.ret (.inr ⟨rfl,_,aR (aS rfl),no (by unfold ep;rw[decide_eq_false (p:=l.frame≤7) (by omega)];simp)⟩)
  have a9:(0<l.frame∧l.kind≠4)→ep l=false:=fun h=>by unfold ep;rw[decide_eq_false (p:=l.frame=0∨l.kind=4) (by omega)];simp
  have bu:l.ops<2^15:=Nat.lt_pow_two_of_testBit _ fun i hi=>by
   cases e:l.ops.testBit i with
   |false=>rfl
   |true=>
    by_cases c7r:i<32
    ·have:=(C2 _ _).1 kv i c7r e;have h2:=MM (sA (Zt l.kind) (MN (by omega) hi));rw[h2] at this;cases this
    ·have:=MM (sA xp (MN (n:=2) (by omega) (show 32≤i by omega)));rw[this] at e;cases e
  have main:¬(0<l.frame∧l.kind≠4)→ep l=(iI l.name&&(l.rules.all (fun r=>fp r&&k4 (nF l.ops) r)&&ke l.rules)):=fun h=>by
   unfold ep;rw[decide_eq_true (show 1≤l.kind∧l.kind≤5 by omega),decide_eq_true (show l.ops &&& 2≠0 from fun h=>a5 ((Zs _).1 h)),decide_eq_true kv,decide_eq_true (show l.rules.length≤64 by omega),decide_eq_true (show l.frame≤7 by omega),decide_eq_true (show l.frame=0∨l.kind=4 by omega)];simp
  have ok:¬(0<l.frame∧l.kind≠4)→ep l=(iI l.name&&(l.rules.all (fun r=>fp r&&k4 (nF l.ops) r)&&ke l.rules))∧1≤l.name.length∧l.name.length≤16∧l.ops<2^15:=fun h=>⟨main h,by omega,by omega,bu⟩
  by_cases Zx:0<l.frame
  ·refine aa ?_;by_cases Zy:l.kind=4
   ·refine aa ?_;exact .inl ⟨rfl,rfl,⟨rfl,trivial⟩,ok fun h=>h.2 Zy⟩
   ·refine aa ?_;exact U.ret (.inr ⟨rfl,_,aR (aS rfl),no (a9 ⟨Zx,Zy⟩)⟩)
  ·refine aa ?_;exact .inl ⟨rfl,rfl,⟨rfl,trivial⟩,ok fun h=>Zx h.1⟩
 obtain⟨du,hF,c7s,c7t⟩:=du;have jj:=H;refine U.od [(1,.p (some (0,0)))] (E:=eO y2.results (.b (ep l))) (M:=iI l.name=true) ?_ (fun x bC ah h=>⟨by rw[h.1];simp,h⟩) fun uC F=>?_
 ·have bad:∀ {ai:ad},¬(1≤l.name.length∧l.name.length≤16∧∀i,i<l.name.length→okB i (l.name.getD i 0)=true)→freeze ai 0 1000 (.b false)=some (.b (ep l)):=fun h=>no (by rw[du,CU h];rfl);refine aa ?_;refine U.block (U.loop (fun k F ai=>∃j,j+k=l.name.length∧ai=fj∧(∀i,i<j→okB i (l.name.getD i 0)=true)∧sat [(1,.p (some (0,0))),(3,aC j)] F) (fun k F ai bo=>?_) l.name.length ⟨0,by omega,rfl,fun i hi=>by omega,rfl,rfl,trivial⟩);obtain⟨j,aB,rfl,hok,b4⟩:=bo;refine U.norm _ b4 fun F=>?_;clear b4;have H:=jj;by_cases b2:j<l.name.length
  ·refine aa ?_;refine W.val rfl rfl (pa (j:=j) rfl rfl (uy b2)) ?_;have qz:l.name.getD j 0=l.name[j]:=by rw[p5,cS b2];rfl
   have im:okB j l.name[j]=true→∀i,i<j+1→okB i (l.name.getD i 0)=true:=fun h i hi=>by
    rcases Hh.1 hi with hi|rfl
    ·exact hok i hi
    ·rw[qz];exact h
   have stop:¬okB j l.name[j]=true→¬(1≤l.name.length∧l.name.length≤16∧∀i,i<l.name.length→okB i (l.name.getD i 0)=true):=fun h h'=>h (by rw[←qz];exact h'.2.2 j b2);generalize l.name[j]=c at im stop;rcases cls c with h|h|h|h|h|h|h
   ·refine aa ?_;exact U.ret (.inr ⟨rfl,_,aR (aS rfl),bad (stop (by unfold okB;simp;omega))⟩)
   ·refine aa ?_;by_cases h0:j=0
    ·refine aa ?_;exact U.ret (.inr ⟨rfl,_,aR (aS rfl),bad (stop (by unfold okB;simp;omega))⟩)
    ·refine aa ?_;exact⟨k-1,by omega,j+1,by omega,rfl,im (by unfold okB;simp;omega),rfl,rfl,trivial⟩
   ·refine aa ?_;exact U.ret (.inr ⟨rfl,_,aR (aS rfl),bad (stop (by unfold okB;simp;omega))⟩)
   ·refine aa ?_;exact⟨k-1,by omega,j+1,by omega,rfl,im (by unfold okB;simp;omega),rfl,rfl,trivial⟩
   ·refine aa ?_;exact U.ret (.inr ⟨rfl,_,aR (aS rfl),bad (stop (by unfold okB;simp;omega))⟩)
   ·refine aa ?_;exact⟨k-1,by omega,j+1,by omega,rfl,im (by unfold okB;simp;omega),rfl,rfl,trivial⟩
   ·refine aa ?_;exact U.ret (.inr ⟨rfl,_,aR (aS rfl),bad (stop (by unfold okB;simp;omega))⟩)
  ·refine aa ?_;refine U.exit ?_;exact .inl ⟨rfl,rfl,⟨rfl,trivial⟩,decide_eq_true ⟨hF,c7s,fun i hi=>hok i (by omega)⟩⟩
 rw[uC,gS] at du;refine aa ?_;refine W.bin rfl rfl rfl rfl (Ni (c:=32768) (by omega)) ?_;refine lv ?_;refine W.nil ?_;refine U.cut [(1,.p (some (0,0))),(5,cN (nF l.ops))] ?_ fun F=>?_
 ·have aE:l.ops+32768=l.ops ||| 32768:=(Zr (k:=15) c7t).symm;have c7u:l.ops ||| 32768<2^16:=by rw[←aE];omega
  have aY:l.ops+32768+65536=l.ops ||| 32768 ||| 65536:=by rw[aE];exact(Zr (k:=16) c7u).symm
  have q:=c7o l.ops;refine aa ?_;refine W.bin rfl rfl rfl rfl (HD (c:=8) (by omega)) ?_;refine aa ?_;refine W.bin rfl rfl rfl rfl (C1 (c:=2) (by omega)) ?_;by_cases bY:l.ops/2^8%2=1
  ·refine aa ?_;refine W.bin rfl rfl rfl rfl (Ni (c:=65536) (by omega)) ?_;refine aa ?_;exact⟨rfl,rfl,rfl,by show cN (l.ops+32768+65536)=_;unfold nF;rw[if_neg fun h=>q.1 h (.inl bY),aY],trivial⟩
  refine aa ?_;refine W.bin rfl rfl rfl rfl (HD (c:=9) (by omega)) ?_;refine aa ?_;refine W.bin rfl rfl rfl rfl (C1 (c:=2) (by omega)) ?_;by_cases dL:l.ops/2^9%2=1
  ·refine aa ?_;refine W.bin rfl rfl rfl rfl (Ni (c:=65536) (by omega)) ?_;refine aa ?_;exact⟨rfl,rfl,rfl,by show cN (l.ops+32768+65536)=_;unfold nF;rw[if_neg fun h=>q.1 h (.inr dL),aY],trivial⟩
  refine aa ?_;exact⟨rfl,rfl,rfl,by show cN (l.ops+32768)=_;unfold nF;rw[if_pos (q.2 fun h=>by rcases h with h|h;exact bY h;exact dL h),aE],trivial⟩
 generalize nF l.ops=mk at du;refine aa ?_;refine U.block (U.loop (fun k F ai=>∃j,j+k=l.rules.length∧ai.get 0=some (.cells (lgC l))∧(l.rules.take j).all (fun r=>fp r&&k4 mk r)=true∧ke (l.rules.take j)=true∧sat [(1,.p (some (0,0))),(5,cN mk),(6,aC j)] F) (fun k F ai bo=>?_) l.rules.length ⟨0,by omega,H.get _ (.head _),rfl,rfl,rfl,rfl,rfl,trivial⟩);clear jj H;obtain⟨j,aB,hg,cQ,hnd,b4⟩:=bo;refine U.norm _ b4 fun F=>?_;clear b4;have H:Has ai [(0,lgC l)]:=Has.nil.cons hg (by simp);by_cases b2:j<l.rules.length
 ·have hm:=cB b2;have cF:=gx b2;have jN:=Zu b2;have bI:=HB (l:=l.kd) b2;have eD:(l.kd.getD [])[j]=l.rules[j]:=rfl;rw[eD] at bI;generalize l.rules[j]=r at hm cF bI jN;have js:=js r hm;have lx:=lx r hm;have jS:(r.dN.getD []).length=r.bF.length:=rfl;have bad:∀ {ai:ad},(fp r&&k4 mk r)=false→freeze ai 0 1000 (.b false)=some (.b (ep l)):=fun h=>no (by rw[du,kH.2 ⟨r,hm,by simp only[h];simp⟩];rfl);refine aa ?_;refine W.len rfl rfl rfl xl ?_;refine aa ?_;refine W.dg rfl rfl rfl rfl bI ?_;refine W.eV (R:=some 6) rfl rfl rfl rfl ?_;generalize aI:ai.next=q;refine W.kG (c:=ec r) H aI rfl rfl rfl rfl rfl rfl fun cL jO H cJ=>?_;have yK:(0:Nat)≠q:=by have:=ad.ei hg;omega
  refine aa ?_;refine W.cx hfn aE (h1 r hm) rfl rfl rfl (dx (c1 r hm _)) ?_;cases d1:fp r with
  |false=>
   refine aa ?_;exact U.ret ⟨rfl,_,aR (aS rfl),bad (by rw[d1];rfl)⟩
  |true=>
  refine aa ?_;refine W.cx hfn aY (h2 r hm _ r.mC mk) rfl rfl rfl (gT (hs r hm _ r.mC _) rfl) ?_;cases d2:jT mk r.bN with
  |false=>
   refine aa ?_;exact U.ret ⟨rfl,_,aR (aS rfl),bad (by unfold k4;rw[d2];simp)⟩
  |true=>
  have hw:(fp r&&k4 mk r)=r.bF.all (qA mk):=by unfold k4;rw[d1,d2];rfl
  refine aa ?_;have xn:=H;refine U.block (U.loop (fun gZ F eg=>∃i,i+gZ=j∧eg=cL∧((l.rules.take j).take i).all (fun x=>!eqL x.name r.name)=true∧sat [(1,.p (some (0,0))),(5,cN mk),(6,aC j),(7,.p (some (q,0))),(8,aC i)] F) (fun gZ F eg bo=>?_) j ⟨0,by omega,rfl,rfl,rfl,rfl,rfl,rfl,rfl,trivial⟩);obtain⟨i,hi,rfl,hI,b4⟩:=bo;refine U.norm _ b4 fun F=>?_;clear b4;have H:=xn;by_cases lh:i<j
  ·have c7v:i<l.rules.length:=by omega
   have jP:i<(l.rules.take j).length:=by rw[l9];omega
   have ly:=gx jP;have nB:(l.rules.take j)[i]=l.rules[i]:=AM;rw[nB] at ly;have Zz:l.rules[i]∈l.rules.take j:=by rw[←nB];exact cB jP
   have kL:=HB (l:=l.kd) c7v;have eD:(l.kd.getD [])[i]=l.rules[i]:=rfl;rw[eD] at kL;generalize l.rules[i]=x at ly kL Zz;refine aa ?_;refine W.dg rfl rfl rfl rfl kL ?_;refine aa ?_;refine W.bin (v:=.b (eqL x.name r.name)) rfl rfl rfl rfl rfl ?_;cases d3:eqL x.name r.name with
   |true=>
    refine aa ?_;exact U.ret ⟨rfl,_,aR (aS rfl),no (by rw[du,Zv (j:=j+1) (by rw[jN,kH.2 ⟨x,Zz,by rw[d3];simp⟩,lU]),lU])⟩
   |false=>
    refine aa ?_;refine⟨gZ-1,by omega,i+1,by omega,rfl,?_,rfl,rfl,rfl,rfl,rfl,trivial⟩;rw[ly,my,hI,kP,d3];rfl
  refine aa ?_;refine U.exit ?_;show ck _ _ _ _ _ _ _ _;refine aa ?_;rw[fv (by rw[l9];omega)] at hI;rw[hnd,hI] at jN;clear hi hI lh;refine U.block (U.loop (fun gZ F Nj=>∃i,i+gZ=r.bF.length∧Nj=eg∧(r.bF.take i).all (qA mk)=true∧sat [(1,.p (some (0,0))),(5,cN mk),(6,aC j),(7,.p (some (q,0))),(9,aC i)] F) (fun gZ F Nj bo=>?_) r.bF.length ⟨0,by omega,rfl,rfl,rfl,rfl,rfl,rfl,rfl,trivial⟩);obtain⟨i,hi,rfl,hI,b4⟩:=bo;refine U.norm _ b4 fun F=>?_;clear b4;have H:=xn;by_cases lh:i<r.bF.length
  ·have hR:=cB lh;have ly:=gx lh;have kL:=u7 (l:=r.dN) lh;have eD:(r.dN.getD [])[i]=r.bF[i]:=rfl;rw[eD] at kL;generalize r.bF[i]=p at hR ly kL;have lx:=lx p hR;have xm:(p.gF.getD []).length=p.hyps.length:=rfl;refine aa ?_;refine W.len rfl rfl rfl m6 ?_;refine aa ?_;refine W.dg rfl rfl rfl rfl kL ?_;refine aa ?_;refine W.cx hfn aY (h2 r hm _ (b6.mD hR) mk) rfl rfl rfl (gT (hs r hm _ (b6.mD hR) _) rfl) ?_;cases d4:jT mk p.bN with
   |false=>
    refine aa ?_;exact U.ret ⟨rfl,_,aR (aS rfl),bad (by rw[hw];exact kH.2 ⟨p,hR,by unfold qA;rw[d4];simp⟩)⟩
   |true=>
   have ZB:qA mk p=p.hyps.all (jT mk):=by unfold qA;rw[d4];rfl
   refine aa ?_;refine U.block (U.loop (fun bx F b8=>∃h,h+bx=p.hyps.length∧b8=Nj∧(p.hyps.take h).all (jT mk)=true∧sat [(1,.p (some (0,0))),(5,cN mk),(6,aC j),(7,.p (some (q,0))),(9,aC i),(10,aC h)] F) (fun bx F b8 bo=>?_) p.hyps.length ⟨0,by omega,rfl,rfl,rfl,rfl,rfl,rfl,rfl,rfl,trivial⟩);obtain⟨h,hh,rfl,Nk,b4⟩:=bo;refine U.norm _ b4 fun F=>?_;clear b4;have H:=xn;by_cases Nl:h<p.hyps.length
   ·have qj:=cB Nl;have ZC:=gx Nl;have Nn:=ov (l:=p.gF) Nl;have eD:(p.gF.getD [])[h]=p.hyps[h]:=rfl;rw[eD] at Nn;generalize p.hyps[h]=f at qj ZC Nn;refine aa ?_;refine W.dg rfl rfl rfl rfl kL ?_;refine aa ?_
    try (refine W.eV (R:=none) rfl rfl rfl Nh ?_;refine aa ?_)
    refine W.len rfl rfl rfl gD ?_;refine aa ?_;refine W.dg rfl rfl rfl rfl kL ?_;refine aa ?_
    try (refine W.eV (R:=none) rfl rfl rfl Nh ?_;refine aa ?_)
    refine W.dg rfl rfl rfl rfl Nn ?_;refine aa ?_
    try (refine W.eV (R:=some 4) rfl rfl rfl rfl ?_;refine aa ?_)
    refine W.cx hfn aY (h2 r hm _ (b6.ow hR qj) mk) rfl rfl rfl (gT (hs r hm _ (b6.ow hR qj) _) rfl) ?_;cases d5:jT mk f with
    |false=>
     refine aa ?_;exact U.ret ⟨rfl,_,aR (aS rfl),bad (by rw[hw];exact kH.2 ⟨p,hR,by rw[ZB,kH.2 ⟨f,qj,by rw[d5];simp⟩];simp⟩)⟩
    |true=>
     refine aa ?_;refine⟨bx-1,by omega,h+1,by omega,rfl,?_,rfl,rfl,rfl,rfl,rfl,rfl,trivial⟩;rw[ZC,my,Nk,kP,d5];rfl
   ·refine aa ?_;refine W.dg rfl rfl rfl rfl kL ?_;refine aa ?_
    try (refine W.eV (R:=none) rfl rfl rfl Nh ?_;refine aa ?_)
    refine W.len rfl rfl rfl gD ?_;refine aa ?_;refine U.exit ?_;show ck _ _ _ _ _ _ _ _;refine aa ?_;rw[fv (by omega)] at Nk;refine⟨gZ-1,by omega,i+1,by omega,rfl,?_,rfl,rfl,rfl,rfl,rfl,trivial⟩;rw[ly,my,hI,kP,ZB,Nk];rfl
  ·refine aa ?_;refine W.len rfl rfl rfl m6 ?_;refine aa ?_;refine U.exit ?_;show ck _ _ _ _ _ _ _ _;refine aa ?_;rw[fv (by omega)] at hI;refine⟨k-1,by omega,j+1,by omega,cJ _ _ hg,?_,jN,rfl,rfl,rfl,trivial⟩;rw[cF,my,cQ,kP,hw,hI];rfl
 ·refine aa ?_;refine W.len rfl rfl rfl xl ?_;refine aa ?_;refine U.exit ?_;show ck _ _ _ _ _ _ _ _;refine aa ?_;rw[fv (by omega)] at cQ hnd;exact U.ret ⟨rfl,_,aR (aS rfl),by rw[du,cQ,hnd];rfl⟩
end
end
section
variable [Tok][TokOk]
open Go.RowKit Go.Lyc.T
abbrev fk(s:List Nat):AV:=.s s
theorem c7w{env:Env}(hh:dt env oh w6){W:Nat→Prop}{B bz dr:Nat}{ba:List (List Nat)}(eL:List (List Nat)→ad→Prop)(bo:∀c o ah,eL c o→c6p o ah→eL c ah)(n4:AV)
  (aJ:∀k c o,B≤o.next→c.length<ba.length→eL c o→cy env 0 n4 [fk k] o (fun r ah=>r= .ok (.b true)∧eL (c++[k]) ah∧M5 B W o ah)) (o:ad) (fc:B≤o.next) (c7x:bz<B) (No:¬W bz)
  (hm:o.get bz=some (.map (setE fk 0 ba) ba.length)) (oj:o.get dr=some (.cells [.m (some bz)])) (h0:eL [] o):
  cy env 0 (.f (.func oh) [] [.p (some (dr,0))]) [n4] o (fun r ah=>r= .ok (.aK [])∧∃c,c.Perm ba∧eL c ah∧o.next≤ah.next∧∀i I,i<B→¬W i→o.get i=some I→ah.get i=some I):=by
 refine cy.uz hh.e hh.p hh.f rfl rfl rfl ?_;refine U.seq (U.region ?_);refine aA.a1 (v:=.m (some bz)) oj rfl rfl rfl rfl ?_;generalize ax:o.next=k at fc;refine aA.c6m k ax hm rfl rfl fun bk ek jP cc=>?_;refine aA.nil (U.block ?_);refine U.loop (fun m f ai=>k+1≤ai.next∧∃seen c,m=(hz seen 0 ba).length∧(c++(hz seen 0 ba).map Prod.fst).Perm ba∧ai.get k=some (.mapIter (some bz) ba.length seen ba.length)∧eL c ai∧(∀i I,i<B→¬W i→o.get i=some I→ai.get i=some I)∧
  sat [(0,n4),(5,.p (some (k,0)))] f) ?_ (hz [] 0 ba).length ⟨by omega,[],[],rfl,by rw[YP];exact .refl _,jP,bo _ _ _ h0 ⟨by omega,fun i I _ aj=>cc i I aj⟩,fun i I _ _ aj=>cc i I aj,rfl,rfl,trivial⟩
 clear jP ek cc h0;intro m g ai ⟨hn,seen,c,j5,wG,jP,ZD,hold,hL⟩;refine U.norm _ hL fun g=>?_;clear hL;have q9:=hold bz _ c7x No hm;refine U.seq (U.region ?_);refine aA.c6n jP q9 rfl rfl (fun Bm=>?_) (fun p hp b7 jO ZE cJ=>?_)
 ·refine aA.go rfl rfl rfl rfl ?_;refine aA.nil (U.seq ?_);refine U.eE rfl (fun h=>by cases h) (fun _=>?_);refine U.exit ?_;rw[Bm,List.map_nil,jv] at wG;exact⟨.inr rfl,rfl,c,wG,ZD,by omega,hold⟩
 ·refine aA.go rfl rfl rfl rfl ?_;refine aA.nil (U.seq ?_);refine U.eE rfl (fun _=>?_) (fun h=>by cases h);have Np:bz≠k:=by omega
  have hR:=cJ _ _ Np q9;refine U.skip (U.block (U.seq (U.region ?_)));refine aA.c6o hp ZE hR rfl rfl ?_;refine aA.go rfl rfl rfl rfl ?_;refine aA.go rfl rfl rfl rfl ?_;refine aA.nil (U.seq (U.region ?_));refine aA.go rfl rfl rfl rfl ?_;refine aA.go rfl rfl rfl rfl ?_;have ZF:=M4 seen ba 0 p hp;have hlen:=wG.length_eq;have c7y:=ZF.length_eq;rw[k_,dO] at hlen;rw[jD] at c7y;have MO:eL c b7:=bo _ _ _ ZD ⟨by omega,fun i I bS aj=>cJ i I (fun e=>by subst e;rw[jP] at aj;cases aj;exact bS _ _ _ _ rfl) aj⟩;refine aA.j_ rfl rfl rfl (aJ p.1 c b7 (by omega) (by omega) MO) fun r e0e ⟨lI,c7z,lX⟩=>⟨_,lI,?_⟩
  refine aA.go rfl rfl rfl rfl ?_;refine aA.nil (U.eE rfl (fun h=>by cases h) (fun _=>?_));have n7:=lX.next;refine U.skip ⟨(hz (seen++[p.2]) 0 ba).length,by omega,by omega,seen++[p.2],c++[p.1],rfl,?_,lX.it _ _ _ _ _ ZE,c7z,fun i I hi hw aj=>lX.old i I hi hw (cJ i I (by omega) (hold i I hi hw aj)),rfl,rfl,trivial⟩;refine List.Perm.trans ?_ wG;rw[kn];exact(ZF.map Prod.fst).append_left c
theorem c7A{env:Env}(hh:dt env G8 MC)(bz:Nat)(o:ad)(k:Nat)(ax:o.next=k):cy env 0 (.f (.func G8) [] []) [.m (some bz)] o (fun r ah=>r= .ok (.f (.func oh) [] [.p (some (k,0))])∧ah.next=k+1∧ah.get k=some (.cells [.m (some bz)])∧∀i I,o.get i=some I→ah.get i=some I):=by
 refine cy.code hh.e hh.p hh.f rfl rfl rfl rfl ?_;refine U.seq (U.region (aA.box (v:=.m (some bz)) (c:=[.m (some bz)]) k ax rfl rfl rfl rfl rfl fun ai hn h1 cc=>?_));refine ew ?_;exact U.ret ⟨rfl,rfl,hn,h1,cc⟩
theorem fG.c7B{env:Env}{D:List (Nat ⊕ (AV×List AV))}{n:Nat}{f:Nat→AV}{o:ad}{Q:fo}(ld:dt env oh w6){mw:az}{p:Nat}{eX b:bc}{bz dr:Nat}{ba:List (List Nat)}(W:Nat→Prop)(S:List (List Nat)→ad→Prop)(k:Nat)(ax:o.next=k)
  (lp:dV env n f mw=some (.f (.func oh) [] [.p (some (dr,0))])) (hp:Nat.blt p n=true) (hm:o.get bz=some (.map (setE fk 0 ba) ba.length)) (oj:o.get dr=some (.cells [.m (some bz)])) (hW:∀i,W i→i<k) (No:¬W bz)
  (cE:∀c ai eg,S c ai→ai.next≤eg.next→(∀i I,i≠k+1→(∀a b c d,I≠ .mapIter a b c d)→ai.get i=some I→eg.get i=some I)→S c eg) (h0:S [] o)
  (CK:∀y c ai,k+2≤ai.next→c.length<ba.length→S c ai→ck env (some (k+1)) [] n eX (c7 f p (fk y)) ai (fun x f1 c2=>x= .normal∧Hu ai c2∧
   ∀cL,cL.next=c2.next→(∀i I,i≠k+1→c2.get i=some I→cL.get i=some I)→ck env (some (k+1)) [] n b f1 cL (fun x _ b8=>x= .normal∧S (c++[y]) b8∧M5 (k+2) W cL b8)))
  (CL:∀c ai,c.Perm ba→S c ai→k+2≤ai.next→ai.get k=some .cT→(∀i I,¬W i→o.get i=some I→ai.get i=some I)→Q .normal f ai):fG env D (.inl k::D) n (.rangeFunc mw [p] eX b) f o Q:=by
 subst ax;refine fG.range lp ld.e fun al eB=>?_;generalize ax:o.next=k at *;obtain⟨b7,aY,jO,nz,ym,cJ⟩:∃b7:ad,(o.push .cT).push (.loop .ready none al [p] eX b k)=b7∧b7.next=k+2∧b7.get (k+1)=some (.loop .ready none al [p] eX b k)∧b7.get k=some .cT∧∀i I,o.get i=some I→b7.get i=some I:=by
  refine⟨_,rfl,by show o.next+1+1=_;omega,?_,?_,fun i I aj=>?_⟩
  ·have:=ad.jH (o:=o.push .cT) (.loop .ready none al [p] eX b k);rwa[show(o.push .cT).next=k+1 from by show o.next+1=_;omega] at this
  ·rw[ad.fZ trivial _ (show k<(o.push .cT).next from by show k<o.next+1;omega)];have:=ad.jH (o:=o) .cT;rwa[ax] at this
  ·have:=ad.ei aj;rw[ad.fZ trivial _ (show i<(o.push .cT).next from by show i<o.next+1;omega),ad.fZ trivial _ this];exact aj
 rw[aY];clear aY;have Np:=ad.ei hm;have Hk:¬W (k+1):=fun h=>by have:=hW _ h;omega
 have tc:¬W k:=fun h=>by have:=hW _ h;omega
 refine(c7w ld (W:=fun i=>W i∨i=k+1) (B:=k+2) (bz:=bz) (dr:=dr) (ba:=ba)
  (fun c ai=>S c ai∧ai.get (k+1)=some (.loop .ready none al [p] eX b k)) ?_ (.f (.yield (k+1)) [] []) ?_ b7 (by omega) (by omega) (fun h=>h.elim No (by omega)) (cJ _ _ hm) (cJ _ _ oj) ⟨cE _ _ _ h0 (by omega) fun i I _ _ aj=>cJ i I aj,nz⟩).mono ?_
 ·rintro c ai eg ⟨a6,a2⟩ ⟨dA,dQ⟩;exact⟨cE _ _ _ a6 dA fun i I _ h aj=>dQ i I h aj,dQ _ _ (by intros;simp) a2⟩
 ·rintro y c ai fc bu ⟨a6,a2⟩;refine(cy.round (aq:=fun ah=>(S (c++[y]) ah∧ah.get (k+1)=some (.loop .ready none al [p] eX b k))∧M5 (k+2) (fun i=>W i∨i=k+1) ai ah) (f:=f) (n:=n) a2 eB (by show cond (Nat.blt p n) _ _=true;rw[hp];rfl) rfl ?_).mono fun r ah h=>h;refine(CK y c ai fc bu a6).mono fun x f1 c2 ⟨aE,ih,h1⟩=>?_;have hF:=ih.2 _ _ a2;have hd:=kr (bE:=.loop .busy none al [p] eX b k) hF;refine⟨aE,hF,(h1 (c2.set (k+1) (.loop .busy none al [p] eX b k)) rfl (fun i I hi aj=>hd.2 i I hi aj)).mono fun x _ b8 ⟨aY,kb,iH⟩=>?_⟩;have rR:=iH.old _ _ (by omega) Hk hd.1;have nC:=kr (bE:=.loop .ready none al [p] eX b k) rR;have ek:=ih.1;have ju:c2.next≤b8.next:=iH.next;have bS:∀ {i:Nat} {a b' bR e5},c2.get i=some (.mapIter a b' bR e5)→i≠k+1:=fun h e=>by subst e;rw[hF] at h;cases h
  have c7C:∀ {i:Nat} {a b' bR e5},b8.get i=some (.mapIter a b' bR e5)→i≠k+1:=fun h e=>by subst e;rw[rR] at h;cases h
  refine⟨aY,rR,⟨cE _ _ _ kb (bK _) fun i I hi _ aj=>nC.2 i I hi aj,nC.1⟩,by show ai.next≤b8.next;omega,fun i I hi hw aj=>?_,fun i a b' bR e5 aj=>?_⟩
  ·have Nq:i≠k+1:=fun e=>hw (.inr e);exact nC.2 i I Nq (iH.old i I hi (fun e=>hw (.inl e)) (hd.2 i I Nq (ih.2 i I aj)))
  ·have h1:=ih.2 _ _ aj;have h3:=iH.it _ _ _ _ _ (hd.2 _ _ (bS h1) h1);exact nC.2 _ _ (c7C h3) h3
 ·rintro r ai ⟨aE,c,ab,⟨a6,a2⟩,dA,dQ⟩;have hd:=kr (bE:=.loop .exhausted none al [p] eX b k) a2;refine⟨_,.ready,aE,a2,by simp,CL c _ ab (cE _ _ _ a6 (bK _) fun i I hi _ aj=>hd.2 i I hi aj) (by show k+2≤ai.next;omega) (hd.2 _ _ (by omega) (dQ _ _ (by omega) (fun h=>h.elim tc (by omega)) ym)) fun i I hi aj=>?_⟩;have:=ad.ei aj;exact hd.2 i I (by omega) (dQ i I (by omega) (fun h=>h.elim hi (by omega)) (cJ i I aj))
theorem c7D{env:Env}(hh:dt env y7 Cx)(ld:dt env oh w6){bz dr:Nat}{ba:List (List Nat)}(nG:ba.length≤1000000)(o:ad)(hm:o.get bz=some (.map (setE fk 0 ba) ba.length))(oj:o.get dr=some (.cells [.m (some bz)])):
  cy env 0 (.f (.func y7) [] []) [.J,.f (.func oh) [] [.p (some (dr,0))]] o (fun r ah=>∃(v:AV) (c:List (List Nat)),r= .ok v∧c.Perm ba∧Acc ah none v (c.map fk)∧(∀a,v.hU =some a→o.next≤a)∧Hu o ah):=by
 generalize ax:o.next=k;refine cy.c4V (d:=k+1) hh.e hh.p hh.f rfl rfl rfl rfl ?_;refine fG.hH (U.region (aA.box (v:=.J) (c:=[.J]) k ax rfl rfl rfl rfl rfl fun bk ek h1 cc=>?_));refine bD ?_;refine⟨rfl,fG.Xu (fG.hH (U.region ?_))⟩;refine bD ?_;refine⟨rfl,fG.block ?_⟩;have Np:=ad.ei hm;refine fG.c7B ld (fun i=>i=k) (fun c ai=>∃v,ai.get k=some (.cells [v])∧Acc ai none v (c.map fk)∧∀a,v.hU =some a→k+3≤a∧a<ai.next) (k+1) ek rfl rfl (cc _ _ hm) (cc _ _ oj) (fun i hi=>by omega) (by omega) ?_ ⟨.J,h1,.nil,fun a h=>by cases h⟩ ?_ ?_
 ·rintro c ai eg ⟨v,a4,a5,kv⟩ dA dQ;exact⟨v,dQ _ _ (by omega) (by intros;simp) a4,a5.c6q fun i c hi h=>dQ _ _ (by have:=kv i hi;omega) (by intros;simp) h,fun a h=>by have:=kv a h;omega⟩
 ·rintro y c ai fc bu ⟨v,a4,a5,kv⟩;refine U.region ?_;refine aA.go rfl rfl rfl rfl ?_;refine aA.nil ⟨rfl,⟨bK _,fun i I aj=>aj⟩,fun cL jg jJ=>?_⟩;have fz:∀i I,i≠k+2→ai.get i=some I→cL.get i=some I:=fun i I hi aj=>jJ i I hi aj;have Nr:=fz _ _ (by omega) a4;have hA:=a5.ee fun i I hi aj=>fz i I (by have:=kv i hi;omega) aj;refine U.block (U.region ?_);refine aA.a1 (v:=v) Nr rfl rfl rfl hA.YI ?_;refine aA.go rfl rfl rfl rfl ?_;refine aA.c4Q (y:=fk y) hA rfl rfl rfl (by rw[dO];omega) rfl rfl fun bJ b8 wR p4 o5 j4=>?_;refine aA.store (bR:=[bJ]) (j4 _ _ (fun e=>by have:=kv _ e;omega) Nr) rfl rfl rfl wR.YJ (by show storeCells _ 0 bJ.cells=_;rw[Mf wR.YJ];rfl) fun k5 e0f g4 lk=>?_;refine aA.nil ⟨rfl,⟨bJ,g4,?_,fun a e=>by rw[p4] at e;cases e;omega⟩,by omega,fun i I hi hw aj=>lk i I hw (j4 i I (fun e=>by have:=kv _ e;omega) aj),fun i a b' bR e5 aj=>?_⟩
  ·rw[nb];exact wR.ee fun i I hi aj=>by
    rw[p4] at hi;cases hi;exact lk _ _ (by omega) aj
  ·refine lk _ _ (fun e=>by subst e;rw[Nr] at aj;cases aj) (j4 _ _ (fun e=>?_) aj);obtain⟨gp,hc0⟩:=hA.c6r e;rw[hc0] at aj;cases aj
 ·rintro c ai ab ⟨v,a4,a5,kv⟩ hn an hold;refine⟨rfl,rfl,?_⟩;refine U.seq (U.region ?_);refine aA.a1 (v:=v) a4 rfl rfl rfl a5.YI ?_;refine bD ?_;have hd:=kr (bE:=AO.dead) an;refine U.ret ⟨rfl,an,v,c,rfl,ab,a5.ee fun i I hi aj=>hd.2 i I (by have:=kv i hi;omega) aj,fun a h=>by have:=kv a h;omega,by show o.next≤ai.next;omega,fun i I aj=>?_⟩;have:=ad.ei aj;exact hd.2 i I (by omega) (hold i I (by omega) (cc i I aj))
section
variable {b:cv}{K:Nat→List AV→AV→Prop}
theorem c7E(hh:dt (b.bj K) CB GD)(ha:dt (b.bj K) y7 Cx)(ld:dt (b.bj K) oh w6){bz dr:Nat}{ba:List (List Nat)}(nG:ba.length≤1000000)(o:ad)(hm:o.get bz=some (.map (setE fk 0 ba) ba.length))(oj:o.get dr=some (.cells [.m (some bz)])):
  cy (b.bj K) 0 (.f (.func CB) [] []) [.f (.func oh) [] [.p (some (dr,0))]] o (fun r ah=>∃(v:AV) (c:List (List Nat)),r= .ok v∧c.Perm ba∧Acc ah none v (c.map fk)∧(∀a,v.hU =some a→o.next≤a)∧Hu o ah):=by
 refine cy.code hh.e hh.p hh.f rfl rfl rfl rfl ?_;refine U.seq (U.region ?_);refine aA.go rfl rfl rfl rfl ?_;refine aA.nil (U.seq (U.region ?_));refine aA.go rfl rfl rfl rfl ?_;refine aA.j_ rfl rfl rfl (c7D ha ld nG o hm oj) fun r b7 ⟨v,c,aE,h1,h2,h3,aN⟩=>⟨_,aE,?_⟩
 refine aA.go rfl rfl rfl rfl ?_;exact aA.nil (U.ret ⟨rfl,_,c,rfl,h1,h2,h3,aN⟩)
theorem cy.uJ{env:Env}{o:ad}{g:Nat}{v:AV}{l:List (List Nat)}{Q:c6→ad→Prop}(he:env.ext g=9)(aj:∀aO,env.lE g aO=none)(hA:Acc o none v (l.map fk))(au:l.length<4611686018427387904)
  (h:∀ai:ad,ai.next=o.next→Acc ai none v ((jF l).map fk)→(∀i I,v.hU ≠some i→o.get i=some I→ai.get i=some I)→Q (.ok (.aK [])) ai):cy env 0 (.f (.func g) [] []) [v] o Q:=by
 have key:∃ai,mclE 0 9 [v] o=some [(.ok (.aK []),ai)]∧ai.next=o.next∧Acc ai none v ((jF l).map fk)∧∀i I,v.hU ≠some i→o.get i=some I→ai.get i=some I:=by
  generalize hx:l.map fk=xs at hA;cases hA with
  |nil=>
   have:l=[]:=CH.1 hx;subst this;exact⟨o,rfl,rfl,.nil,fun i I _ h=>h⟩
  |al I x xs hg ab=>
   have hlen:xs.length+1=l.length:=by have ns:(l.map fk).length=l.length:=dO ..;rw[←ns,hx];rfl
   have lJ:(x::xs).flatMap AV.cells=l.map .s:=by
    rw[←hx];clear hx hg ab hlen h au
    induction l with
    |nil=>rfl
    |cons a l ay=>rw[k9,mb,ay];rfl
   rw[lJ] at hg;have hd:=kr (bE:=AO.cells ((jF l).map .s)) hg;refine⟨o.set I (.cells ((jF l).map .s)),?_,rfl,?_,fun i bE hi h=>hd.2 i bE (fun e=>hi (by rw[e];rfl)) h⟩
   ·show(match o.get I with
     |some (.cells c)=>match si c with
      |some l=>match Nat.ble 0 I&&(Nat.beq (xs.length+1) l.length&&Nat.blt (xs.length+1) 4611686018427387904) with
       |true=>some [((.ok (.aK []):c6),o.set I (.cells ((jF l).map .s)))]
       |false=>none
      |none=>none
     |_=>none)=_
    rw[hg];show(match si (l.map .s) with
      |some l=>match Nat.ble 0 I&&(Nat.beq (xs.length+1) l.length&&Nat.blt (xs.length+1) 4611686018427387904) with
       |true=>some [((.ok (.aK []):c6),o.set I (.cells ((jF l).map .s)))]
       |false=>none
      |none=>none)=_
    rw[VC];show(match Nat.ble 0 I&&(Nat.beq (xs.length+1) l.length&&Nat.blt (xs.length+1) 4611686018427387904) with
       |true=>some [((.ok (.aK []):c6),o.set I (.cells ((jF l).map .s)))]
       |false=>none)=_
    rw[kg (ir I),hlen,fR,show Nat.blt l.length 4611686018427387904=true from kg au];rfl
   ·have eB:=(wA l).length_eq;cases hs:jF l with
    |nil=>rw[hs] at eB;simp at eB;omega
    |cons y aZ=>
     have aE:xs.length=aZ.length:=by rw[hs] at eB;simp at eB;omega
     rw[aE];have aY:((y::aZ).map fk).flatMap AV.cells=(y::aZ).map .s:=by
      generalize y::aZ=w
      induction w with
      |nil=>rfl
      |cons a l ay=>rw[k9,mb,ay];rfl
     have:=Acc.al (o:=o.set I (.cells ((jF l).map .s))) (R:=none) I (fk y) (aZ.map fk) (by rw[hd.1,hs];show some (AO.cells ((y::aZ).map .s))=some (AO.cells (((y::aZ).map fk).flatMap AV.cells));rw[aY]) (fun z bw=>by
      obtain⟨q,_,rfl⟩:=fq.1 (show z∈(y::aZ).map fk from bw);rfl)
     rw[dO] at this;rw[hs] at this;exact this
 obtain⟨ai,h1,h2,h3,aN⟩:=key;refine cO.one (x:=(.ok (.aK []),ai)) (fun F=>?_) (h ai h2 h3 aN);show callF env (exec env F) 0 g ([]++[v]++[]) o=_;rw[wi,jv];unfold callF;rw[he];show(match extRow 9 [v] with|some v=>some [((.ok v:c6),o)]|none=>(match(match mapO (bW o env.aT) [v] with|some aO=>env.lE g aO|none=>none) with|some (v,os)=>some [(.ok (xO o.next v),pO o.next os o)]|none=>mclE 0 9 [v] o))=_;have eG:extRow 9 [v]=none:=by
  generalize l.map fk=xs at hA;cases hA<;>rfl
 rw[eG];have aE:(match mapO (bW o env.aT) [v] with|some aO=>env.lE g aO|none=>none)=none:=by
  cases mapO (bW o env.aT) [v] with
  |none=>rfl
  |some aO=>exact aj aO
 show(match(match mapO (bW o env.aT) [v] with|some aO=>env.lE g aO|none=>none) with|some (v,os)=>some [((.ok (xO o.next v):c6),pO o.next os o)]|none=>mclE 0 9 [v] o)=_;rw[aE];exact h1
theorem c7F(hh:dt (b.bj K) G7 Mx)(ab:dt (b.bj K) CB GD)(ha:dt (b.bj K) y7 Cx)(ld:dt (b.bj K) oh w6)(he:b.ext y6=9)(aj:∀aO,(b.bj K).lE y6 aO=none)
  {bz dr:Nat} {ba:List (List Nat)} (nG:ba.length≤1000000) (o:ad) (hm:o.get bz=some (.map (setE fk 0 ba) ba.length)) (oj:o.get dr=some (.cells [.m (some bz)])):
  cy (b.bj K) 0 (.f (.func G7) [] []) [.f (.func oh) [] [.p (some (dr,0))]] o (fun r ah=>∃(v:AV) (c:List (List Nat)),r= .ok v∧c.Perm ba∧Acc ah none v (c.map fk)∧(∀a,v.hU =some a→o.next≤a)∧Hu o ah):=by
 refine cy.code hh.e hh.p hh.f rfl rfl rfl rfl ?_;refine U.seq (U.region ?_);refine aA.go rfl rfl rfl rfl ?_;refine aA.nil (U.seq (U.region ?_));refine aA.go rfl rfl rfl rfl ?_;refine aA.j_ rfl rfl rfl (c7E ab ha ld nG o hm oj) fun r b7 ⟨v,c,aE,h1,h2,h3,aN⟩=>⟨_,aE,?_⟩
 have jK:=h1.length_eq;refine aA.go rfl rfl rfl rfl ?_;refine aA.nil (U.seq (U.region ?_));refine aA.go rfl rfl rfl rfl ?_;refine aA.j_ (aq:=fun r ah=>r= .ok (.aK [])∧ah.next=b7.next∧Acc ah none v ((jF c).map fk)∧∀i I,v.hU ≠some i→b7.get i=some I→ah.get i=some I) rfl rfl rfl (cy.uJ he aj h2 (by omega) fun ai a6 a2 a3=>⟨rfl,a6,a2,a3⟩) fun r fJ ⟨aY,ju,wR,bx⟩=>⟨_,aY,?_⟩
 refine aA.nil (U.seq (U.region ?_));refine aA.go rfl rfl rfl rfl ?_;refine aA.go rfl rfl rfl rfl ?_;have hn:=aN.1;exact aA.nil (U.ret ⟨rfl,_,jF c,rfl,(wA c).trans h1,wR,h3,by omega,fun i I aj=>bx i I (fun e=>by have:=h3 i e;have:=ad.ei aj;omega) (aN.2 i I aj)⟩)
end
end
section
variable [Tok][TokOk]
open Go.RowKit Go.Lyc.T
attribute [local irreducible] cU ck dJ fP cy
def gy(ai:ad)(bz:Nat)(ba:List (List Nat)):Prop:=ai.get bz=some (.map (setE fk 0 ba) ba.length)
theorem ZG(k:List Nat):∀(l:List (List Nat)) (i:Nat),nP (.inl 1) (.s k) (setE fk i l)=some (if k∈l then some (.b true) else none)
 |[],_=>rfl
 |y::l,i=>by
  show(match keyEq (.inl 1) (.s k) (.s y) with|none=>none|some true=>some (some (AV.b true))|some false=>nP (.inl 1) (.s k) (setE fk (i+1) l))=_;rw[Hy];by_cases h:k=y
  ·subst h;rw[decide_eq_true rfl,if_pos iq]
  ·rw[decide_eq_false h];show nP (.inl 1) (.s k) (setE fk (i+1) l)=_;rw[ZG k l (i+1)];simp only[dP,h,false_or]
theorem c7G{k:List Nat}{l:List (List Nat)}{i:Decidable (k∈l)}:M8 (setE fk 0 l) l.length (.s k) (.b true) (@ite _ (k∈l) i (some (setE fk 0 l)) none)= .map (setE fk 0 (ti k l)) (ti k l).length:=by
 unfold ti;by_cases h:k∈l
 ·rw[if_pos h,if_pos h];rfl
 ·rw[if_neg h,if_neg h,YL,k_,rD];rfl
theorem ZH{k a:List Nat}{l:List (List Nat)}:a∈ti k l↔a∈l∨a=k:=by
 unfold ti;split
 ·exact⟨.inl,fun h=>h.elim id fun e=>e▸ ‹_›⟩
 ·rw[e4,e3]
theorem c7H{k:List Nat}{l:List (List Nat)}:(ti k l).length≤l.length+1:=by
 unfold ti;split
 ·omega
 ·rw[k_];simp
theorem W.wX{md:s0}{env:Env}{aH:Option Nat}{D:List (Nat ⊕ (AV×List AV))}{n:Nat}{F:List (Nat×AV)}{z:Nat→AV}{o:ad}{Q:fo}{g:Option (Nat×Bool)}{ops:List aQ}{x y:az}{bz:Nat}{s:List Nat}{ba:List (List Nat)}(hm:gy o bz ba)(hw:wtL g n F=true)(h1:eW env n F z x=some (.m (some bz)))(h2:eW env n F z y=some (.s s))
  (h:∀ai:ad,ai.next=o.next→gy ai bz (ti s ba)→(∀i I,i≠bz→o.get i=some I→ai.get i=some I)→cU md env aH D n ops (cg F z) ai Q):cU md env aH D n (⟨none,.pK (.inl 1) x y (.c (.b true)),g,[]⟩::ops) (cg F z) o Q:=
 W.mu (t:=true) hm hw h1 h2 rfl (by rw[Hy,decide_eq_true rfl]) (YM (fun a c=>Hy a c) s ba 0) fun ai a6 a2 a3=>h ai a6 (by unfold gy;rw[a2];exact congrArg some c7G) a3
theorem W.ZI{md:s0}{env:Env}{aH:Option Nat}{D:List (Nat ⊕ (AV×List AV))}{n:Nat}{F:List (Nat×AV)}{z:Nat→AV}{o:ad}{Q:fo}{g:Option (Nat×Bool)}{ops:List aQ}{d:Nat}{x y:az}{bz:Nat}{s:List Nat}{ba:List (List Nat)}(hm:gy o bz ba)(an:Nat.blt d n=true)(hw:wtL g n F=true)(h1:eW env n F z x=some (.m (some bz)))(h2:eW env n F z y=some (.s s))
  (h:cU md env aH D n ops (cg ((d,.b (decide (s∈ba)))::F) z) o Q):cU md env aH D n (⟨some d,.lookup (.inl 1) x y (.b false) false,g,[]⟩::ops) (cg F z) o Q:=by
 refine W.pc hm an hw h1 h2 (by show keySelf (.inl 1) (.s s)=true;show(match keyEq (.inl 1) (.s s) (.s s) with|some _=>true|none=>false)=true;rw[Hy]) (ZG s ba 0) ?_;have:v2 false ((if s∈ba then some (AV.b true) else none).getD (.b false)) (if s∈ba then some (AV.b true) else none).isSome= .b (decide (s∈ba)):=by
  by_cases hh:s∈ba
  ·rw[if_pos hh,decide_eq_true hh];rfl
  ·rw[if_neg hh,decide_eq_false hh];rfl
 rw[this];exact h
structure gz(P:List Nat→Prop)(n:Nat)(ba fL:List (List Nat)):Prop where
 mem:∀x,x∈fL↔x∈ba∨P x
 len:fL.length≤ba.length+n
theorem gz.refl{P:List Nat→Prop}{ba:List (List Nat)}(h:∀x,¬P x):gz P 0 ba ba:=⟨fun x=>⟨.inl,fun h'=>h'.elim id fun e=>absurd e (h x)⟩,bK _⟩
theorem gz.ins{s:List Nat}{ba:List (List Nat)}:gz (fun x=>x=s) 1 ba (ti s ba):=⟨fun x=>ZH,c7H⟩
theorem gz.trans{P Q aq:List Nat→Prop}{n m:Nat}{cc cJ bx:List (List Nat)}(h:gz P n cc cJ)(h':gz Q m cJ bx)(af:∀x,aq x↔P x∨Q x):gz aq (n+m) cc bx:=
 ⟨fun x=>by rw[h'.mem,h.mem,af,or_assoc],by have:=h.len;have:=h'.len;omega⟩
theorem gz.le{P:List Nat→Prop}{n m:Nat}{ba fL:List (List Nat)}(h:gz P n ba fL)(hn:n≤m):gz P m ba fL:=⟨h.mem,by have:=h.len;omega⟩
theorem gz.iff{P Q:List Nat→Prop}{n:Nat}{ba fL:List (List Nat)}(h:gz P n ba fL)(aI:∀x,Q x↔P x):gz Q n ba fL:=⟨fun x=>by rw[h.mem,aI],h.len⟩
def kx(bz:Nat)(o ai:ad):Prop:=o.next≤ai.next∧∀i I,i≠bz→o.get i=some I→ai.get i=some I
theorem kx.trans{bz:Nat}{o ai ZJ:ad}(h:kx bz o ai)(h':kx bz ai ZJ):kx bz o ZJ:=⟨jk h.1 h'.1,fun i I hi aj=>h'.2 i I hi (h.2 i I hi aj)⟩
theorem kx.of{bz:Nat}{o ai:ad}(h:o.next≤ai.next)(k:∀i I,o.get i=some I→ai.get i=some I):kx bz o ai:=⟨h,fun i I _ aj=>k i I aj⟩
def isMeta(s:List Nat):Bool:=kt s||hv s
def m7(l:List Tm)(x:List Nat):Prop:=∃u∈Tm.dW l,u.var=true∧isMeta u.name=true∧x=u.name
def nH(l:List Fm)(x:List Nat):Prop:=∃g∈Fm.dW l,((g.op=15∨g.op=16)∧isMeta g.name=true∧x=g.name)∨m7 g.args x
theorem c7I(x:List Nat):¬m7 [] x:=fun⟨u,h,_⟩=>by rw[Tm.dW] at h;cases h
theorem c7J(x:List Nat):¬nH [] x:=fun⟨u,h,_⟩=>by rw[Fm.dW] at h;cases h
theorem Tm.zA:∀l m:List Tm,Tm.dW (l++m)=Tm.dW l++Tm.dW m
 |[],m=>by rw[Tm.dW];rfl
 |t::l,m=>by rw[n2,Tm.dW,Tm.dW,Tm.zA l m,kn]
theorem Fm.zA:∀l m:List Fm,Fm.dW (l++m)=Fm.dW l++Fm.dW m
 |[],m=>by rw[Fm.dW];rfl
 |t::l,m=>by rw[n2,Fm.dW,Fm.dW,Fm.zA l m,kn]
theorem c7K{l m:List Tm}{x:List Nat}:m7 (l++m) x↔m7 l x∨m7 m x:=by
 unfold m7;rw[Tm.zA];simp only[e4];exact⟨fun⟨u,h,q⟩=>h.elim (fun h=>.inl ⟨u,h,q⟩) fun h=>.inr ⟨u,h,q⟩,fun h=>h.elim (fun⟨u,h,q⟩=>⟨u,.inl h,q⟩) fun⟨u,h,q⟩=>⟨u,.inr h,q⟩⟩
theorem c7L{l m:List Fm}{x:List Nat}:nH (l++m) x↔nH l x∨nH m x:=by
 unfold nH;rw[Fm.zA];simp only[e4];exact⟨fun⟨u,h,q⟩=>h.elim (fun h=>.inl ⟨u,h,q⟩) fun h=>.inr ⟨u,h,q⟩,fun h=>h.elim (fun⟨u,h,q⟩=>⟨u,.inl h,q⟩) fun⟨u,h,q⟩=>⟨u,.inr h,q⟩⟩
theorem c7M{t:Tm}{x:List Nat}:m7 [t] x↔(t.var=true∧isMeta t.name=true∧x=t.name)∨m7 t.args x:=by
 unfold m7;rw[Tm.dW,Tm.dW,jv,Tm.parts_eq];simp only[dP];exact⟨fun⟨u,h,q⟩=>h.elim (fun h=>.inl (h▸q)) fun h=>.inr ⟨u,h,q⟩,fun h=>h.elim (fun q=>⟨t,.inl rfl,q⟩) fun⟨u,h,q⟩=>⟨u,.inr h,q⟩⟩
theorem c7N{f:Fm}{x:List Nat}:nH [f] x↔(((f.op=15∨f.op=16)∧isMeta f.name=true∧x=f.name)∨m7 f.args x)∨nH f.sub x:=by
 unfold nH;rw[Fm.dW,Fm.dW,jv,Fm.parts_eq];simp only[dP];exact⟨fun⟨u,h,q⟩=>h.elim (fun h=>.inl (h▸q)) fun h=>.inr ⟨u,h,q⟩,fun h=>h.elim (fun q=>⟨f,.inl rfl,q⟩) fun⟨u,h,q⟩=>⟨u,.inr h,q⟩⟩
section
variable {b:cv}{K:Nat→List AV→AV→Prop}
theorem c7O(hfn:∀g aO r cj,K g aO r→K g aO cj→r=cj)(aE:c5 b s8)(h1:∀l,l.length<2^62→K s8 [.s l] (.b (kt l)))(aY:c5 b ph)(h2:∀l,l.length<2^62→K ph [.s l] (.b (hv l)))(l:List Nat)(au:l.length<2^62)(body:bc)(hb:GO.body=some body):
  U (b.bj K) GO.ntmps body (c4 [.s l]) ⟨.nil,0⟩ (eO GO.results (.b (isMeta l))):=by
 cases hb;refine W.args fun z=>?_;have H:Has (⟨.nil,0⟩:ad) []:=Has.nil;unfold isMeta;refine aa ?_;refine W.cx hfn aE (h1 l au) rfl rfl rfl (dx rfl) ?_;cases bY:kt l with
 |true=>
  refine aa ?_;exact U.ret ⟨rfl,_,aR (aS rfl),rfl⟩
 |false=>
  refine aa ?_;refine W.cx hfn aY (h2 l au) rfl rfl rfl (dx rfl) ?_;refine aa ?_;exact U.ret ⟨rfl,_,aR (aS rfl),rfl⟩
theorem c7P(hfn:∀g aO r cj,K g aO r→K g aO cj→r=cj)(hh:dt (b.bj K) zh GW)(e:c5 b rN)(du:∀l,l.length<2^62→K rN [.s l] (.b (isMeta l))):
  ∀(d:Nat) (a:Option (List Tm)),Tm.dM (a.getD [])≤d→(a.getD []).length<2^62→(∀u∈a.getD [],u.ok)→∀(o:ad) (bz:Nat) (ba:List (List Nat)),gy o bz ba→
   cy (b.bj K) 0 (.f (.func zh) [] []) [cR true a,.m (some bz)] o (fun r ai=>r= .ok (.aK [])∧∃fL,gz (m7 (a.getD [])) (Tm.nds (a.getD [])) ba fL∧gy ai bz fL∧kx bz o ai):=fun d=>by
 induction d using Nat.strongRecOn with
 |ind d ay=>
 intro a an hlen hok o bz ba cE;refine W.uz hh.e hh.p hh.f rfl rfl rfl fun z=>?_;have H:Has o []:=Has.nil;refine aa ?_;refine W.len rfl rfl rfl kZ ?_;refine aa ?_;refine U.each (a.getD []).length (fun j f ai=>(∃fL,gz (m7 ((a.getD []).take j)) (Tm.nds ((a.getD []).take j)) ba fL∧gy ai bz fL)∧kx bz o ai∧sat [(1,.m (some bz)),(6,cR true a)] f) hlen ⟨⟨ba,by rw[oi,Tm.nds];exact .refl c7I,cE⟩,.of (bK _) fun _ _ h=>h,rfl,rfl,trivial⟩ rfl rfl (fun j f ai aB bo hi hm=>?_) (fun f ai bo hi=>?_)
 ·obtain⟨⟨k6,hA,iW⟩,cX,hs⟩:=bo;refine U.norm [(1,.m (some bz)),(6,cR true a),(8,aC j),(7,aC (a.getD []).length)] ⟨hs.1,hs.2.1,hi,hm,trivial⟩ fun f=>?_;have hu:=cB (l:=a.getD []) aB;have cF:=gx aB;have jN:=Tm.rS aB;have bI:=C0 (l:=a) aB;generalize(a.getD [])[j]=t at hu cF jN bI;have gb:=hok t hu;have H:Has ai []:=Has.nil;refine aa ?_;refine W.dg rfl rfl rfl rfl bI ?_;refine W.eV (R:=some 3) rfl rfl rfl rfl ?_;generalize aI:ai.next=q;refine W.kG (c:=k1 t) H aI rfl rfl rfl rfl rfl rfl fun cL jO H cJ=>?_;have zB:bz≠q:=by have:=ad.ei iW;omega
  have pv:gy cL bz k6:=cJ _ _ iW;have wM:kx bz ai cL:=.of (by omega) cJ;have fin:∀ {P:List Nat→Prop} {jU tp:List (List Nat)},gz P 1 k6 jU→(∀x,P x↔t.var=true∧isMeta t.name=true∧x=t.name)→gz (m7 t.args) (Tm.nds t.args) jU tp→gz (m7 ((a.getD []).take (j+1))) (Tm.nds ((a.getD []).take (j+1))) ba tp:=fun h1 hp h2=>by
   rw[jN,cF];have:=t.iZ;exact((hA.trans ((h1.iff (fun x=>(hp x).symm)).trans h2 fun x=>c7M) fun x=>c7K)).le (by omega)
  have c7Q:∀(b8:ad) (jU:List (List Nat)),gy b8 bz jU→cy (b.bj K) 0 (.f (.func zh) [] []) [cR true t.cH,.m (some bz)] b8 (fun r ai=>r= .ok (.aK [])∧∃fL,gz (m7 t.args) (Tm.nds t.args) jU fL∧gy ai bz fL∧kx bz b8 ai):=fun b8 jU h3=>
   ay (Tm.dM t.args) (by have:=Tm.sW hu;have:=t.fO;omega) t.cH (bK _) gb.len gb.arg b8 bz jU h3
  obtain⟨P,ku⟩:∃P:List Nat→Prop,∀x,P x↔t.var=true∧isMeta t.name=true∧x=t.name:=⟨_,fun _=>CI⟩
  refine lv ?_;refine W.nil ?_;refine W.aU ?_;refine W.M7 (α:=Unit) (fun _=>[(1,.m (some bz)),(5,.p (some (q,0))),(6,cR true a),(8,aC j),(7,aC (a.getD []).length)]) (fun _ b8=>(∃jU,gz P 1 k6 jU∧gy b8 bz jU)∧kx bz cL b8∧b8.get q=some (.cells (k1 t))) ?_ ?_
  ·have nothing:¬(t.var=true∧isMeta t.name=true)→gz P 1 k6 k6:=fun h=>(gz.refl fun x hx=>h ⟨((ku x).1 hx).1,((ku x).1 hx).2.1⟩).le (ir _);refine aa ?_;cases av:t.var with
   |false=>
    refine aa ?_;exact⟨rfl,(),⟨⟨k6,nothing (fun h=>by rw[av] at h;cases h.1),pv⟩,.of (bK _) fun _ _ h=>h,H.get _ (.head _)⟩,rfl,rfl,rfl,rfl,rfl,trivial⟩
   |true=>
   refine aa ?_;refine W.cx hfn e (du _ gb.nm) rfl rfl rfl (dx rfl) ?_;cases C3:isMeta t.name with
   |false=>
    refine aa ?_;exact⟨rfl,(),⟨⟨k6,nothing (fun h=>by rw[C3] at h;cases h.2),pv⟩,.of (bK _) fun _ _ h=>h,H.get _ (.head _)⟩,rfl,rfl,rfl,rfl,rfl,trivial⟩
   |true=>
   refine aa ?_;refine W.wX pv rfl rfl rfl fun b8 ju kb bx=>?_;refine aa ?_;exact⟨rfl,(),⟨⟨_,gz.ins.iff fun x=>⟨fun h=>((ku x).1 h).2.2,fun h=>(ku x).2 ⟨av,C3,h⟩⟩,kb⟩,⟨by omega,bx⟩,bx _ _ (fun e=>zB e.symm) (H.get _ (.head _))⟩,rfl,rfl,rfl,rfl,rfl,trivial⟩
  ·intro _ f b8 ⟨⟨jU,C4,kb⟩,C5,nx⟩;have H:Has b8 [(q,k1 t)]:=Has.nil.cons nx (by simp);refine aa ?_;refine W.jR rfl rfl rfl (c7Q b8 jU kb) fun r k5 ⟨dY,tp,C6,rV,zC⟩=>⟨_,dY,?_⟩
   refine aa ?_;exact⟨rfl,rfl,⟨tp,fin C4 ku C6,rV⟩,cX.trans (wM.trans (C5.trans zC)),rfl,rfl,trivial⟩
 ·obtain⟨⟨k6,hA,iW⟩,cX,hs⟩:=bo;rw[fv (bK _)] at hA;exact⟨.inr rfl,rfl,k6,hA,iW,cX⟩
end
def m8(l:List Fm)(x:List Nat):Prop:=∃g∈Fm.dW l,g.op=15∧x=g.name
theorem c7R(x:List Nat):¬m8 [] x:=fun⟨u,h,_⟩=>by rw[Fm.dW] at h;cases h
theorem ZK{l m:List Fm}{x:List Nat}:m8 (l++m) x↔m8 l x∨m8 m x:=by
 unfold m8;rw[Fm.zA];simp only[e4];exact⟨fun⟨u,h,q⟩=>h.elim (fun h=>.inl ⟨u,h,q⟩) fun h=>.inr ⟨u,h,q⟩,fun h=>h.elim (fun⟨u,h,q⟩=>⟨u,.inl h,q⟩) fun⟨u,h,q⟩=>⟨u,.inr h,q⟩⟩
theorem c7S{f:Fm}{x:List Nat}:m8 [f] x↔(f.op=15∧x=f.name)∨m8 f.sub x:=by
 unfold m8;rw[Fm.dW,Fm.dW,jv,Fm.parts_eq];simp only[dP];exact⟨fun⟨u,h,q⟩=>h.elim (fun h=>.inl (h▸q)) fun h=>.inr ⟨u,h,q⟩,fun h=>h.elim (fun q=>⟨f,.inl rfl,q⟩) fun⟨u,h,q⟩=>⟨u,.inr h,q⟩⟩
section
variable {b:cv}{K:Nat→List AV→AV→Prop}
theorem Ns(hh:dt (b.bj K) Ha Mz):
  ∀(d:Nat) (f:Fm),f.dep≤d→f.ok→∀(o:ad) (bz:Nat) (ba:List (List Nat)),gy o bz ba→
   cy (b.bj K) 0 (.f (.func Ha) [] []) [.ag (aV f),.m (some bz)] o (fun r ai=>r= .ok (.aK [])∧∃fL,gz (m8 [f]) f.nd ba fL∧gy ai bz fL∧kx bz o ai)
 |0,f,an,_,_,_,_,_=>by rw[Fm.fO] at an;omega
 |d+1,f,an,hok,o,bz,ba,cE=>by
  have ay:=Ns hh d;have eB:f.sub.length<2^62:=hok.pb;have es:(f.ea.getD []).length=f.sub.length:=rfl;have hnd:=f.iZ;refine W.uz hh.e hh.p hh.f rfl rfl rfl fun z=>?_;have H:Has o []:=Has.nil;refine aa ?_;generalize aI:o.next=q;refine W.dr (c:=aV f) H aI rfl rfl rfl rfl rfl fun fj sv H nZ=>?_;have zB:bz≠q:=by have:=ad.ei cE;omega
  have lo:gy fj bz ba:=nZ _ _ cE;obtain⟨P,ku⟩:∃P:List Nat→Prop,∀x,P x↔f.op=15∧x=f.name:=⟨_,fun _=>CI⟩
  refine lv ?_;refine W.nil ?_;refine W.aU ?_;refine W.M7 (α:=Unit) (fun _=>[(1,.m (some bz)),(2,.p (some (q,0)))]) (fun _ b8=>(∃jU,gz P 1 ba jU∧gy b8 bz jU)∧kx bz fj b8∧b8.get q=some (.cells (aV f))) ?_ ?_
  ·refine aa ?_;by_cases bY:f.op=15
   ·refine aa ?_;refine W.wX lo rfl rfl rfl fun b8 ju kb bx=>?_;refine aa ?_;exact⟨rfl,(),⟨⟨_,gz.ins.iff fun x=>⟨fun h=>((ku x).1 h).2,fun h=>(ku x).2 ⟨bY,h⟩⟩,kb⟩,⟨by omega,bx⟩,bx _ _ (fun e=>zB e.symm) (H.get _ (.head _))⟩,rfl,rfl,trivial⟩
   ·refine aa ?_;exact⟨rfl,(),⟨⟨ba,(gz.refl fun x hx=>bY ((ku x).1 hx).1).le (ir _),lo⟩,.of (bK _) fun _ _ h=>h,H.get _ (.head _)⟩,rfl,rfl,trivial⟩
  ·intro _ g b8 ⟨⟨jU,C4,kb⟩,C5,nx⟩;have H:Has b8 [(q,aV f)]:=Has.nil.cons nx (by simp);refine aa ?_;refine W.len rfl rfl rfl gD ?_;refine aa ?_;refine U.each f.sub.length (fun j g ai=>(∃fL,gz (m8 (f.sub.take j)) (Fm.nds (f.sub.take j)) jU fL∧gy ai bz fL)∧kx bz b8 ai∧sat [(1,.m (some bz)),(13,dk true f.ea)] g) eB ⟨⟨jU,by rw[oi,Fm.nds];exact .refl c7R,kb⟩,.of (bK _) fun _ _ h=>h,rfl,rfl,trivial⟩ rfl rfl (fun j g ai aB bo hi hm=>?_) (fun g ai bo hi=>?_)
   ·obtain⟨⟨k6,hA,iW⟩,cX,hs⟩:=bo;refine U.norm [(1,.m (some bz)),(13,dk true f.ea),(15,aC j),(14,aC f.sub.length)] ⟨hs.1,hs.2.1,hi,hm,trivial⟩ fun g=>?_;have hu:=cB (l:=f.sub) aB;have cF:=gx aB;have jN:=Fm.rS aB;have bI:=ov (l:=f.ea) aB;have eD:(f.ea.getD [])[j]=f.sub[j]:=rfl;rw[eD] at bI;generalize f.sub[j]=t at hu cF jN bI;have H:Has ai []:=Has.nil;refine aa ?_;refine W.dg rfl rfl rfl rfl bI ?_;refine W.eV (R:=some 4) rfl rfl rfl rfl ?_;generalize aI:ai.next=q;refine W.kG (c:=aV t) H aI rfl rfl rfl rfl rfl rfl fun cL jO H cJ=>?_;have pv:gy cL bz k6:=cJ _ _ iW;refine aa ?_;refine W.jR rfl rfl rfl (ay t (by have:=Fm.iF hu;omega) (hok.ml _ hu) cL bz k6 pv) fun r k5 ⟨dY,tp,C6,rV,zC⟩=>⟨_,dY,?_⟩
    refine aa ?_;refine⟨rfl,rfl,⟨tp,?_,rV⟩,cX.trans ((kx.of (by omega) cJ).trans zC),rfl,rfl,trivial⟩;rw[jN,cF];exact hA.trans C6 fun x=>ZK
   ·obtain⟨⟨k6,hA,iW⟩,cX,hs⟩:=bo;rw[fv (bK _)] at hA;exact⟨.inr rfl,rfl,k6,((C4.iff (fun x=>(ku x).symm)).trans hA fun x=>c7S).le (by omega),iW,(kx.of (by omega) nZ).trans (C5.trans cX)⟩
theorem ZL(hfn:∀g aO r cj,K g aO r→K g aO cj→r=cj)(hh:dt (b.bj K) Hb MD)(ht:dt (b.bj K) zh GW)(e:c5 b rN)(du:∀l,l.length<2^62→K rN [.s l] (.b (isMeta l))):
  ∀(d:Nat) (f:Fm),f.dep≤d→f.ok→∀(o:ad) (bz:Nat) (ba:List (List Nat)),gy o bz ba→
   cy (b.bj K) 0 (.f (.func Hb) [] []) [.ag (aV f),.m (some bz)] o (fun r ai=>r= .ok (.aK [])∧∃fL,gz (nH [f]) f.nd ba fL∧gy ai bz fL∧kx bz o ai)
 |0,f,an,_,_,_,_,_=>by rw[Fm.fO] at an;omega
 |d+1,f,an,hok,o,bz,ba,cE=>by
  have ay:=ZL hfn hh ht e du d;have eB:f.sub.length<2^62:=hok.pb;have hnm:=hok.nm;have es:(f.ea.getD []).length=f.sub.length:=rfl;have hnd:=f.iZ;have e0g:Tm.nds (f.cH.getD [])=Tm.nds f.args:=rfl;refine W.uz hh.e hh.p hh.f rfl rfl rfl fun z=>?_;have H:Has o []:=Has.nil;refine aa ?_;generalize aI:o.next=q;refine W.dr (c:=aV f) H aI rfl rfl rfl rfl rfl fun fj sv H nZ=>?_;have zB:bz≠q:=by have:=ad.ei cE;omega
  have lo:gy fj bz ba:=nZ _ _ cE;obtain⟨P,ku⟩:∃P:List Nat→Prop,∀x,P x↔(f.op=15∨f.op=16)∧isMeta f.name=true∧x=f.name:=⟨_,fun _=>CI⟩
  refine lv ?_;refine W.nil ?_;refine W.aU ?_;refine W.M7 (α:=Unit) (fun _=>[(1,.m (some bz)),(2,.p (some (q,0)))]) (fun _ b8=>(∃jU,gz P 1 ba jU∧gy b8 bz jU)∧kx bz fj b8∧b8.get q=some (.cells (aV f))) ?_ ?_
  ·have nothing:¬((f.op=15∨f.op=16)∧isMeta f.name=true)→gz P 1 ba ba:=fun h=>(gz.refl fun x hx=>h ⟨((ku x).1 hx).1,((ku x).1 hx).2.1⟩).le (ir _);refine aa ?_;by_cases bY:f.op=15∨f.op=16
   rotate_left
   ·refine aa ?_;exact⟨rfl,(),⟨⟨ba,nothing (fun h=>bY h.1),lo⟩,.of (bK _) fun _ _ h=>h,H.get _ (.head _)⟩,rfl,rfl,trivial⟩
   have LJ:=bY;rcases bY with bY|bY
   all_goals (refine aa ?_)
   all_goals (refine W.cx hfn e (du _ hnm) rfl rfl rfl (dx rfl) ?_)
   all_goals (cases C3:isMeta f.name)
   iterate 2
    ·refine aa ?_;exact⟨rfl,(),⟨⟨ba,nothing (fun h=>by rw[C3] at h;cases h.2),lo⟩,.of (bK _) fun _ _ h=>h,H.get _ (.head _)⟩,rfl,rfl,trivial⟩
    ·refine aa ?_;refine W.wX lo rfl rfl rfl fun b8 ju kb bx=>?_;refine aa ?_;exact⟨rfl,(),⟨⟨_,gz.ins.iff fun x=>⟨fun h=>((ku x).1 h).2.2,fun h=>(ku x).2 ⟨LJ,C3,h⟩⟩,kb⟩,⟨by omega,bx⟩,bx _ _ (fun e=>zB e.symm) (H.get _ (.head _))⟩,rfl,rfl,trivial⟩
  ·intro _ g b8 ⟨⟨jU,C4,kb⟩,C5,nx⟩;have H:Has b8 [(q,aV f)]:=Has.nil.cons nx (by simp);refine aa ?_;refine W.jR rfl rfl rfl (c7P hfn ht e du _ f.cH (bK _) hok.zy hok.arg b8 bz jU kb) fun r k5 ⟨dY,tp,C6,rV,zC⟩=>⟨_,dY,?_⟩
   have c7T:=zC.2 _ _ (fun e=>zB e.symm) nx;have H:Has k5 [(q,aV f)]:=Has.nil.cons c7T (by simp);refine aa ?_;refine W.len rfl rfl rfl gD ?_;refine aa ?_;refine U.each f.sub.length (fun j g ai=>(∃fL,gz (nH (f.sub.take j)) (Fm.nds (f.sub.take j)) tp fL∧gy ai bz fL)∧kx bz k5 ai∧sat [(1,.m (some bz)),(27,dk true f.ea)] g) eB ⟨⟨tp,by rw[oi,Fm.nds];exact .refl c7J,rV⟩,.of (bK _) fun _ _ h=>h,rfl,rfl,trivial⟩ rfl rfl (fun j g ai aB bo hi hm=>?_) (fun g ai bo hi=>?_)
   ·obtain⟨⟨k6,hA,iW⟩,cX,hs⟩:=bo;refine U.norm [(1,.m (some bz)),(27,dk true f.ea),(29,aC j),(28,aC f.sub.length)] ⟨hs.1,hs.2.1,hi,hm,trivial⟩ fun g=>?_;have hu:=cB (l:=f.sub) aB;have cF:=gx aB;have jN:=Fm.rS aB;have bI:=ov (l:=f.ea) aB;have eD:(f.ea.getD [])[j]=f.sub[j]:=rfl;rw[eD] at bI;generalize f.sub[j]=t at hu cF jN bI;have H:Has ai []:=Has.nil;refine aa ?_;refine W.dg rfl rfl rfl rfl bI ?_;refine W.eV (R:=some 4) rfl rfl rfl rfl ?_;generalize aI:ai.next=q;refine W.kG (c:=aV t) H aI rfl rfl rfl rfl rfl rfl fun cL jO H cJ=>?_;have pv:gy cL bz k6:=cJ _ _ iW;refine aa ?_;refine W.jR rfl rfl rfl (ay t (by have:=Fm.iF hu;omega) (hok.ml _ hu) cL bz k6 pv) fun r kf ⟨dY,c7U,c7V,Nt,c7W⟩=>⟨_,dY,?_⟩
    refine aa ?_;refine⟨rfl,rfl,⟨c7U,?_,Nt⟩,cX.trans ((kx.of (by omega) cJ).trans c7W),rfl,rfl,trivial⟩;rw[jN,cF];exact hA.trans c7V fun x=>c7L
   ·obtain⟨⟨k6,hA,iW⟩,cX,hs⟩:=bo;rw[fv (bK _)] at hA;exact⟨.inr rfl,rfl,k6,((((C4.iff (fun x=>(ku x).symm)).trans C6 fun x=>CI).trans hA fun x=>c7N)).le (by omega),iW,(kx.of (by omega) nZ).trans (C5.trans (zC.trans cX))⟩
end
end
end Go.Lyc
end
