/-
  An abstract executor of the program's code, and that it is sound, part 3. No conditions: definitions and laws.
-/
import Derived.Test.YtiakhfkclbnpoaaGreatDoorEng2
import Derived.Carry
import Derived.OpenShut
import Derived.ChangeSlices
set_option linter.all false
noncomputable section
namespace Go.Lyc
def OR:=@Nat.sub_zero
def Bw:=@Classical.choose_spec
def IF:=@Nat.le_add_left
def Xw:=@List.replicate_succ'
def iL:=@List.append_nil
def IG:=@Bool.and_true
def oq:=@Bool.true_and
def Xx:=@Int.ofNat_eq_natCast
def IH:=@Nat.mul_one
def Xy:=@List.reverse_append
def Xz:=@Bool.eq_false_iff
def OS:=@List.pairwise_cons
def II:=@List.pairwise_iff_getElem
def E4:=@Bool.not_false
set_option maxHeartbeats 0
section
variable [Tok][TokOk]
open Go.RowKit
def dd(f:Nat->AV)(d:Nat)(v:AV):Nat->AV:=λi=>cond (Nat.beq i d) v (f i)
structure iM(D:List (Nat ⊕ (AV×List AV)))(n:Nat)(f:Nat->AV)(ad:Fr):Prop where
 get:∀i,ad.bj.get i=if i<n then some (f i) else none
 ds:ad.defers=D
 rc:ad.gg=false
def iM.put{D:List (Nat ⊕ (AV×List AV))}{n d:Nat}{f:Nat->AV}{ad:Fr}(h:iM D n f ad)(v:AV)(hd:Nat.blt d n=true):iM D n (dd f d v) (ad.put (some d) v):=by
 have hd:d<n:=pL hd;refine⟨λi=>?_,h.ds,h.rc⟩;show(ad.bj.set d v).get i=_;rw[a1.jw,h.get d,h.get i,if_pos hd];by_cases hi:i=d
 ·subst hi;rw[if_pos I,if_pos hd];show some v=some (cond (Nat.beq i i) v (f i));rw[gQ];rfl
 ·rw[if_neg hi];have:dd f d v i=f i:=by
   show cond (Nat.beq i d) v (f i)=f i;cases hb:Nat.beq i d with
   |false=>rfl
   |true=>exact absurd (gb hb) hi
  rw[this]
def dJ(env:Env)(n:Nat)(f:Nat->AV):aJ->Option AV
 | .t i=>cond (Nat.blt i n) (some (f i)) none
 | .c v=>some v
 | .g g=>match env.mm g with|some v=>some (.dh true v)|none=>none
def iM.ar{D:List (Nat ⊕ (AV×List AV))}{n:Nat}{f:Nat->AV}{ad:Fr}(h:iM D n f ad)(env:Env):evalA env ad.bj=dJ env n f:=by
 funext x
 cases x with
 |t i=>
  show ad.bj.get i=cond (Nat.blt i n) (some (f i)) none;rw[h.get];by_cases hi:i<n
  ·rw[if_pos hi,show Nat.blt i n=true from iR hi];rfl
  ·rw[if_neg hi,show Nat.blt i n=false from by cases hb:Nat.blt i n with|false=>rfl|true=>exact absurd (pL hb) hi];rfl
 |c v=>rfl
 |g g=>rfl
def gV(g:Option (Nat×Bool))(n:Nat)(f:Nat->AV):Bool:=
 match g with
 |none=>true
 |some (d,w)=>cond (Nat.blt d n) (match f d with| .b x=>x==w|_=>false) false
def iM.wanted{D:List (Nat ⊕ (AV×List AV))}{n:Nat}{f:Nat->AV}{ad:Fr}(h:iM D n f ad)(g:Option (Nat×Bool)):wantedA g ad.bj=gV g n f:=by
 cases g with
 |none=>rfl
 |some p=>
  obtain⟨d,w⟩:=p;show(match ad.bj.get d with|some (.b x)=>x==w|_=>false)=cond (Nat.blt d n) _ false;rw[h.get];by_cases hi:d<n
  ·rw[if_pos hi,show Nat.blt d n=true from iR hi,cond_true];cases f d<;>rfl
  ·rw[if_neg hi,show Nat.blt d n=false from by cases hb:Nat.blt d n with|false=>rfl|true=>exact absurd (pL hb) hi];rfl
abbrev dZ:=fZ->(Nat->AV)->ae->Prop
def Bx(D:List (Nat ⊕ (AV×List AV)))(n:Nat)(Q:dZ):sx:=λx ad J=>∃f,iM D n f ad/\Q x f J
def bL(env:Env)(aR:Option Nat)(D:List (Nat ⊕ (AV×List AV)))(n:Nat)(c:bF)(f:Nat->AV)(J:ae)(Q:dZ):Prop:=∀ad,iM D n f ad->gv env 0 aR c ad J (Bx D n Q)
def dC(env:Env)(aR:Option Nat)(D:List (Nat ⊕ (AV×List AV)))(n:Nat)(ops:List a4)(f:Nat->AV)(J:ae)(Q:dZ):Prop:=∀ad,iM D n f ad->kp env 0 aR.isNone ops ad J (Bx D n Q)
abbrev ak(env:Env):=bL env none []
section
variable {env:Env}{aR:Option Nat}{D:List (Nat ⊕ (AV×List AV))}{n:Nat}{f:Nat->AV}{J:ae}{Q:dZ}
def bL.mono{c:bF}{ot:dZ}(h:bL env aR D n c f J Q)(aV:∀x f J,Q x f J->ot x f J):bL env aR D n c f J ot:=λad bH=>(h ad bH).mono λ_ _ _ ⟨f,h1,h2⟩=>⟨f,h1,aV _ _ _ h2⟩
def ak.skip(h:Q .normal f J):bL env aR D n .skip f J Q:=λ_ bH=>gv.skip ⟨f,bH,h⟩
def ak.ret(h:Q .ret f J):bL env aR D n .ret f J Q:=λ_ bH=>gv.ret ⟨f,bH,h⟩
def ak.exit{id:Nat}(h:Q (.exit id) f J):bL env aR D n (.exit id) f J Q:=λ_ bH=>gv.exit ⟨f,bH,h⟩
def ak.region{ops:List a4}(h:dC env aR D n ops f J Q):bL env aR D n (.region ops) f J Q:=λad bH=>gv.region (h ad bH)
def ak.seq{a b:bF}(h:bL env aR D n a f J (λx f J=>match x with| .normal=>bL env aR D n b f J Q|x=>Q x f J)):bL env aR D n (.seq a b) f J Q:=λad bH=>gv.seq ((h ad bH).mono λx ad J ⟨f,h1,h2⟩=>by
 cases x with
 |normal=>exact h2 ad h1
 |exit i=>exact⟨f,h1,h2⟩
 |ret=>exact⟨f,h1,h2⟩
 |panic v=>exact⟨f,h1,h2⟩)
def ak.block{a:bF}{id:Nat}(h:bL env aR D n a f J (λx f J=>match x with| .exit j=>cond (Nat.beq j id) (Q .normal f J) (Q (.exit j) f J)|x=>Q x f J)):bL env aR D n (.block id a) f J Q:=λad bH=>gv.block ((h ad bH).mono λx ad J ⟨f,h1,h2⟩=>by
 cases x with
 |normal=>exact⟨f,h1,h2⟩
 |exit i=>
  have h2:cond (Nat.beq i id) (Q .normal f J) (Q (.exit i) f J):=h2;show if i=id then Bx D n Q .normal ad J else Bx D n Q (.exit i) ad J
  cases hb:Nat.beq i id with
  |false=>rw[if_neg (λh=>by rw[h,gQ] at hb;cases hb)];rw[hb] at h2;exact⟨f,h1,h2⟩
  |true=>rw[if_pos (gb hb)];rw[hb] at h2;exact⟨f,h1,h2⟩
 |ret=>exact⟨f,h1,h2⟩
 |panic v=>exact⟨f,h1,h2⟩)
def ak.jg{o:aJ}{a b:bF}{t:Bool}(ho:dJ env n f o=some (.b t))(ht:t=true->bL env aR D n a f J Q)(hf:t=false->bL env aR D n b f J Q):bL env aR D n (.cond o a b) f J Q:=λad bH=>
 gv.jg (by rw[bH.ar];exact ho) (λh=>ht h ad bH) (λh=>hf h ad bH)
def ak.loop{a:bF}(eV:Nat->(Nat->AV)->ae->Prop)(aW:∀m f J,eV m f J->bL env aR D n a f J (λx b_ ai=>match x with| .normal=>∃aT,aT<m/\eV aT b_ ai|x=>Q x b_ ai))(m:Nat)(h:eV m f J):bL env aR D n (.loop a) f J Q:=λad bH=>
 gv.loop (Q:=Bx D n Q) (λm ad J=>∃f,iM D n f ad/\eV m f J) (λm ad J ⟨f,h1,h2⟩=>(aW m f J h2 ad h1).mono λx bd ai ⟨b_,h3,aO⟩=>by
  cases x with
  |normal=>obtain⟨aT,bI,cx⟩:=aO;exact⟨aT,bI,b_,h3,cx⟩
  |exit i=>exact⟨b_,h3,aO⟩
  |ret=>exact⟨b_,h3,aO⟩
  |panic v=>exact⟨b_,h3,aO⟩) m ad J ⟨f,bH,h⟩
def aK.nil(h:Q .normal f J):dC env aR D n [] f J Q:=λ_ bH=>kp.nil ⟨f,bH,h⟩
def aK.val{d:Nat}{op:AOp}{g:Option (Nat×Bool)}{wn:List Nat}{ops:List a4}{v:AV}{ai:ae}(hd:Nat.blt d n=true)(hw:gV g n f=true)(ho:opx 0 (dJ env n f) J op=some (.val v ai))(h:dC env aR D n ops (dd f d v) ai Q):
  dC env aR D n (⟨some d,op,g,wn⟩::ops) f J Q:=λad bH=>kp.val (by rw[bH.wanted];exact hw) (by rw[bH.ar];exact ho) (h _ (bH.put v hd))
def aK.w8{op:AOp}{g:Option (Nat×Bool)}{wn:List Nat}{ops:List a4}{v:AV}{ai:ae}(hw:gV g n f=true)(ho:opx 0 (dJ env n f) J op=some (.val v ai))(h:dC env aR D n ops f ai Q):
  dC env aR D n (⟨none,op,g,wn⟩::ops) f J Q:=λad bH=>kp.val (by rw[bH.wanted];exact hw) (by rw[bH.ar];exact ho) (h _ bH)
def aK.off{d:Nat}{op:AOp}{g:Option (Nat×Bool)}{wn:List Nat}{ops:List a4}(hd:Nat.blt d n=true)(hw:gV g n f=false)(h:dC env aR D n ops (dd f d ei) J Q):
  dC env aR D n (⟨some d,op,g,wn⟩::ops) f J Q:=λad bH=>kp.off (by rw[bH.wanted];exact hw) (h _ (bH.put _ hd))
def aK.spec{d:Nat}{op:AOp}{g:Option (Nat×Bool)}{wn:List Nat}{ops:List a4}{fn:Nat}{args aQ:List AV}{r:AV}(hd:Nat.blt d n=true)(hw:gV g n f=true)(ho:opx 0 (dJ env n f) J op=some (.call (.f (.func fn) [] []) args))
  (he:env.ext fn=0) (aw:env.pure fn=true) (ha:mapO (bM J env.bp) args=some aQ) (ao:env.spec fn aQ=some r) (h:dC env aR D n ops (dd f d r) J Q):dC env aR D n (⟨some d,op,g,wn⟩::ops) f J Q:=λad bH=>
 kp.call (by rw[bH.wanted];exact hw) (by rw[bH.ar];exact ho) (bE.spec he aw (by simpa using ha) ao (h _ (bH.put r hd)))
end
def sat:List (Nat×AV)->(Nat->AV)->Prop
 |[],_=>True
 |(i,v)::L,f=>f i=v/\sat L f
def bB:List (Nat×AV)->(Nat->AV)->Nat->AV
 |[],f=>f
 |(i,v)::L,f=>dd (bB L f) i v
def b5h{f:Nat->AV}{i:Nat}{v:AV}(h:f i=v):dd f i v=f:=by
 funext j
 show cond (Nat.beq j i) v (f j)=f j;cases hb:Nat.beq j i with
 |false=>rfl
 |true=>rw[gb hb,h];rfl
def Er:∀ {L:List (Nat×AV)} {f:Nat->AV},sat L f->bB L f=f
 |[],_,_=>rfl
 |(i,v)::L,f,⟨h1,h2⟩=>by
  show dd (bB L f) i v=f;rw[Er h2,b5h h1]
def ak.norm{env:Env}{aR:Option Nat}{D:List (Nat ⊕ (AV×List AV))}{n:Nat}{c:bF}{f:Nat->AV}{J:ae}{Q:dZ}(L:List (Nat×AV))(ao:sat L f)(h:∀g,bL env aR D n c (bB L g) J Q):bL env aR D n c f J Q:=by
 rw[<-Er ao];exact h f
section
variable {floor:Nat}{ar:aJ->Option AV}{J:ae}
def ou{aa:Option Nat}{a:aJ}(p v:AV)(h1:ar a=some p)(h2:rY J aa p=some v):opx floor ar J (.load aa a)=some (.val v J):=by
 show(match ar a with|some p=>(match rY J aa p with|some v=>some (bZ.val v J)|none=>none)|none=>none)=_;rw[h1];show(match rY J aa p with|some v=>some (bZ.val v J)|none=>none)=_;rw[h2]
def vx{aa:Option Nat}{id off:Nat}{c:List AV}{v:AV}(h1:J.get id=some (.cells c))(h2:dV aa (c.drop off)=some v):rY J aa (.p (some (id,off)))=some v:=by
 show(match J.get id with|some (.cells c)=>dV aa (c.drop off)|_=>none)=_;rw[h1];exact h2
def IK{aa:Option Nat}{x i:aJ}(k:IntKind)(a:AV)(j:Nat)(v:AV)(h1:ar x=some a)(h2:ar i=some (.i k (Int.ofNat j)))(h3:idxSlA aa a j=some v):opx floor ar J (.bn aa x i)=some (.val v J):=by
 show(match ar x,ar i with|some x,some j=>(match natOf j with|some j=>(match idxSlA aa x j with|some v=>some (bZ.val v J)|none=>none)|none=>none)|_,_=>none)=_;rw[h1,h2];show(match idxSlA aa a j with|some v=>some (bZ.val v J)|none=>none)=_;rw[h3]
def XH{o:Bool}{aa:Option Nat}{xs:List AV}{j:Nat}{v:AV}(h:nth xs j=some v):idxSlA aa (.a_ o aa xs) j=some (.dh o v):=by
 show(if aa=aa then(match nth xs j with|some v=>some (AV.dh o v)|none=>none) else none)=_;rw[if_pos I,h]
def Es{op:BinOp}{x y:aJ}(a b v:AV)(h1:ar x=some a)(h2:ar y=some b)(h3:binop op a b=some v):opx floor ar J (.bin op x y)=some (.val v J):=by
 show(match ar x,ar y with|some a,some b=>(match binop op a b with|some v=>some (bZ.val v J)|none=>none)|_,_=>none)=_;rw[h1,h2];show(match binop op a b with|some v=>some (bZ.val v J)|none=>none)=_;rw[h3]
end
abbrev ah(n:Nat):AV:=.i .i64 (Int.ofNat n)
def b5i{n:Nat}(h:n<2^63):IntKind.wrap .i64 (n:Int)=(n:Int):=by
 have h:(n:Int)<9223372036854775808:=by omega
 simp only[IntKind.wrap,IntKind.bits,IntKind.signed];simp;omega
def tU(a b:Nat):Nat:=a ^^^ (a &&& b)
def b5j(a b:Nat){k:Nat}(h:a<2^k):tU a b<2^k:=Nat.xor_lt_two_pow h (qJ Nat.and_le_left h)
def XI{α:Type}:∀(l:List α) (k:Nat) (t:a1 α) (i:Nat),(a1.lay l k t).get i=if k<=i then(match l[i-k]? with|some x=>(t.get i).map (λ_=>x)|none=>t.get i) else t.get i
 |[],k,t,i=>by
  show t.get i=_;split<;>simp
 |x::l,k,t,i=>by
  show(a1.lay l (k+1) (t.set k x)).get i=_;rw[XI l (k+1) (t.set k x) i,a1.jw];by_cases h1:k+1<=i
  ·have h2:k<=i:=by omega
   have h3:i≠k:=by omega
   have aO:(x::l)[i-k]? =l[i-(k+1)]? :=by
    rw[show i-k=(i-(k+1))+1 from by omega];rfl
   rw[if_pos h1,if_pos h2,if_neg h3,aO]
  ·rw[if_neg h1];by_cases h2:i=k
   ·subst h2;rw[if_pos I,if_pos (bs _),Hd];rfl
   ·rw[if_neg h2,if_neg U]
def fv(args:List AV):Nat->AV:=λi=>args.getD i ei
def vy{fn:aN}{args:List AV}(h:args.length<=fn.ntmps):iM [] fn.ntmps (fv args) (u3 fn args):=by
 refine⟨λi=>?_,rfl,rfl⟩;show(a1.lay args 0 (a1.full fn.ntmps ei fn.ntmps)).get i=_;rw[XI,if_pos (rU _),OR];by_cases hi:i<fn.ntmps
 ·rw[if_pos hi,a1.Hs _ _ _ _ hi (bs _)];show _=some (args.getD i ei);rw[yT];cases args[i]? <;>rfl
 ·rw[if_neg hi,q1 U];cases hg:(a1.full fn.ntmps ei fn.ntmps).get i with
  |none=>rfl
  |some y=>exact absurd (a1.Ht _ _ _ _ _ hg).2 hi
def XJ{env:Env}{floor:Nat}{fn:aN}{n d:Nat}{f:Nat->AV}{ad:Fr}{J:ae}(h1:iM [] n f ad)(df:fn.results=[(d,none)])(hd:Nat.blt d n=true):endF env floor fn (.ret,ad,J)=some [(.ok (f d),J)]:=by
 show(match leave floor (callD env floor) ad.defers none J with
  |none=>none
  |some (some v,J)=>some [(en.err v,J)]
  |some (none,J)=>match resultsOf J ad.bj fn.results with
   |some v=>some [(.ok v,J)]
   |none=>none)=_
 rw[h1.ds];show(match resultsOf J ad.bj fn.results with|some v=>some [(en.ok v,J)]|none=>none)=_;rw[df];have hg:=h1.get d;have OU:d<n:=pL hd;rw[if_pos OU] at hg;have:resultsOf J ad.bj [(d,none)]=some (f d):=by
  unfold resultsOf;have aL:resultOf J ad.bj (d,none)=some (f d):=by
   unfold resultOf;rw[hg]
  have e:mapO (resultOf J ad.bj) [(d,none)]=some [f d]:=by
   unfold mapO;simp only[aL]
  rw[e]
 rw[this]
def b5k{P:Program}{env:Env}{m:Nat}(hm:m<=env.bp)(gT:tK P env)(fy:IC P env)(hex:Bg P env)(nE:P.follows .mixedOrders=true){g:Nat}{fn:aN}{body:bF}{aQ:List AV}{d:Nat}(r:AV)(hf:env.funcs g=some fn)(hb:fn.body=some body)
  (hn:(Nat.beq aQ.length fn.j0&&Nat.ble aQ.length fn.ntmps)=true) (df:fn.results=[(d,none)]) (hd:Nat.blt d fn.ntmps=true) {ad:Nat} (aq:fk ad r=true) (iT:AV.eqb m r r=true)
  (h:ak env fn.ntmps body (fv aQ) ⟨.nil,0⟩ (λx f ai=>x= .ret/\freeze ai 0 m (f d)=some r)) (bz:Nat):SpecEntry P env bz g aQ r:=by
 have hle:aQ.length<=fn.ntmps:=by
  simp only[C2] at hn;exact pL hn.2
 refine IJ hm gT fy hex nE hf hb hn aq ((h _ (vy hle)).mono λx ad ai ⟨f,h1,h2,h3⟩=>?_) iT bz;subst h2;exact⟨.ok (f d),ai,XJ h1 df hd,_,rfl,h3⟩
open Classical in
def Et(K:Nat->List AV->AV->Prop):Nat->List AV->Option AV:=λg aQ=>if h:∃r,K g aQ r then some (Classical.choose h) else none
def OV{K:Nat->List AV->AV->Prop}(hf:∀g aQ r b5,K g aQ r->K g aQ b5->r=b5){g:Nat}{aQ:List AV}{r:AV}(h:K g aQ r):Et K g aQ=some r:=by
 have hex:∃r,K g aQ r:=⟨r,h⟩
 unfold Et;rw[dif_pos hex];exact congrArg some (hf g aQ _ _ (Bw hex) h)
def IL{K:Nat->List AV->AV->Prop}{g:Nat}{aQ:List AV}{r:AV}(h:Et K g aQ=some r):K g aQ r:=by
 unfold Et at h;split at h
 ·rename_i hex;cases h;exact Bw hex
 ·cases h
def bT.aM(b:bT)(K:Nat->List AV->AV->Prop):Env:={funcs:=b.funcs.get,mm:=b.mm,pure:=b.pure,spec:=Et K,bp:=b.bp+1000,ext:=b.ext}
def tV(P:Program)(b:bT)(K:Nat->List AV->AV->Prop):Prop:=∀g aQ r,K g aQ r->∀bz,SpecEntry P (b.env []) bz g aQ r
def lI{P:Program}{b:bT}{K:Nat->List AV->AV->Prop}(hb:jR P b)(c0:tV P b K){g:Nat}{fn:aN}{body:bF}{aQ:List AV}{d:Nat}(r:AV)(hf:b.funcs.get g=some fn)(iU:fn.body=some body)
  (hn:(Nat.beq aQ.length fn.j0&&Nat.ble aQ.length fn.ntmps)=true) (df:fn.results=[(d,none)]) (hd:Nat.blt d fn.ntmps=true) {ad:Nat} (aq:fk ad r=true) (iT:AV.eqb 1000 r r=true)
  (h:ak (b.aM K) fn.ntmps body (fv aQ) ⟨.nil,0⟩ (λx f ai=>x= .ret/\freeze ai 0 1000 (f d)=some r)) (bz:Nat):SpecEntry P (b.env []) bz g aQ r:=
 b5k (env:=b.aM K) (m:=1000) (IF _ _) ⟨λg b3 hg=>m6.zh hb.funcs g b3 hg⟩ (λbz g aQ r ao=>c0 g aQ r (IL ao) bz) hb.ext hb.Bu r hf iU hn df hd aq iT h bz
def b5l(env:Env)(J:ae)(w:tu):Prop:=∃v,opx 0 (evalA env w.2.1) J w.1.op=some (.val v J)/\AV.eqb env.bp v w.2.2=true
def eN(env:Env)(D:List (Nat ⊕ (AV×List AV)))(n:Nat)(ops:List a4)(f:Nat->AV)(J:ae)(Q:(Nat->AV)->Prop):Prop:=
 ∀ad,iM D n f ad->∃fC bd b_ wn,(∀F,fC<=F->∀cN ws,jv env 0 (callV env (exec env F) 0) ops ad cN ws J=some (bd,List.replicate ops.length J++cN,wn++ws,J))/\iM D n b_ bd/\Q b_/\∀w∈wn,b5l env J w/\w.1∈ops
section
variable {env:Env}{aR:Option Nat}{D:List (Nat ⊕ (AV×List AV))}{n:Nat}{f:Nat->AV}{J:ae}{Q:(Nat->AV)->Prop}
def OW(k:Nat)(cN:List ae):List.replicate k J++J::cN=List.replicate (k+1) J++cN:=by
 rw[Xw,iE];rfl
def eN.nil(h:Q f):eN env D n [] f J Q:=λad bH=>⟨0,ad,f,[],λ_ _ _ _=>rfl,bH,h,λ_ hw=>absurd hw aF⟩
def eN.val{d:Nat}{op:AOp}{g:Option (Nat×Bool)}{ops:List a4}{v:AV}(hd:Nat.blt d n=true)(hw:gV g n f=true)(ho:opx 0 (dJ env n f) J op=some (.val v J))(h:eN env D n ops (dd f d v) J Q):
  eN env D n (⟨some d,op,g,[]⟩::ops) f J Q:=λad bH=>by
 obtain⟨fC,bd,b_,wn,h1,h2,h3,aO⟩:=h _ (bH.put v hd);refine⟨fC,bd,b_,wn,λF b2 cN ws=>?_,h2,h3,λw hw=>⟨(aO w hw).1,C1 _ (aO w hw).2⟩⟩;rw[runDraw_cons];show cond (wantedA g ad.bj) _ _=_;rw[bH.wanted,hw,cond_true,bH.ar,ho];show jv env 0 _ ops (ad.put (some d) v) (J::cN) ws J=_;rw[h1 F b2,OW];rfl
def eN.off{d:Nat}{op:AOp}{g:Option (Nat×Bool)}{wn:List Nat}{ops:List a4}(hd:Nat.blt d n=true)(hw:gV g n f=false)(h:eN env D n ops (dd f d ei) J Q):
  eN env D n (⟨some d,op,g,wn⟩::ops) f J Q:=λad bH=>by
 obtain⟨fC,bd,b_,wn,h1,h2,h3,aO⟩:=h _ (bH.put _ hd);refine⟨fC,bd,b_,wn,λF b2 cN ws=>?_,h2,h3,λw hw=>⟨(aO w hw).1,C1 _ (aO w hw).2⟩⟩;rw[runDraw_cons];show cond (wantedA g ad.bj) _ _=_;rw[bH.wanted,hw,cond_false,h1 F b2,OW];rfl
def eN.spec{d:Nat}{op:AOp}{g:Option (Nat×Bool)}{wn:List Nat}{ops:List a4}{fn:Nat}{args aQ:List AV}{r:AV}(hd:Nat.blt d n=true)(hw:gV g n f=true)(ho:opx 0 (dJ env n f) J op=some (.call (.f (.func fn) [] []) args))
  (he:env.ext fn=0) (aw:env.pure fn=true) (ha:mapO (bM J env.bp) args=some aQ) (ao:env.spec fn aQ=some r) (h:eN env D n ops (dd f d r) J Q):eN env D n (⟨some d,op,g,wn⟩::ops) f J Q:=λad bH=>by
 obtain⟨fC,bd,b_,wn,h1,h2,h3,aO⟩:=h _ (bH.put _ hd);refine⟨fC,bd,b_,wn,λF b2 cN ws=>?_,h2,h3,λw hw=>⟨(aO w hw).1,C1 _ (aO w hw).2⟩⟩;rw[runDraw_cons];show cond (wantedA g ad.bj) _ _=_;have ab:callV env (exec env F) 0 (.f (.func fn) [] []) args J=some [(.ok r,J)]:=by
  show callF env (exec env F) 0 fn ([]++args++[]) J=_;unfold callF;rw[he];show cond (env.pure fn) _ _=_;rw[aw,cond_true,yQ,iL,ha];show(match env.spec fn aQ with|some r=>_|none=>_)=_;rw[ao]
 rw[bH.wanted,hw,cond_true,bH.ar,ho];show(match callV env (exec env F) 0 (.f (.func fn) [] []) args J with|some [(.ok v,ai)]=>jv env 0 _ ops (ad.put (some d) v) (J::cN) ws ai|_=>none)=_;rw[ab];show jv env 0 _ ops (ad.put (some d) r) (J::cN) ws J=_;rw[h1 F b2,OW];rfl
def b5m(ops:List a4):Bool:=cD (λo=>cD (λq=>Nat.ble q ops.length) o.kj) ops
def swapT(ops:List a4):Bool:=match ops.reverse with|y::_=>(match y.kj with|[]=>true|_::_=>false)|[]=>true
def OX{env:Env}{al:a1 AV}{ops:List a4}(h:swapT ops=true):swapOk env al ops=true:=by
 unfold swapT at h;unfold swapOk;cases aq:ops.reverse with
 |nil=>rfl
 |cons y t=>
  rw[aq] at h;cases t with
  |nil=>rfl
  |cons x t=>
   cases hw:y.kj with
   |nil=>simp only[hw]
   |cons a l=>simp only[hw] at h;cases h
def lJ{α:Type}{p:α->Bool}{l:List α}(h:cD p l=true):∀x∈l,p x=true:=λx hx=>n8 h x hx
def XK{α:Type}(x:α):∀ {k q:Nat},q<k->nth (List.replicate k x) q=some x
 |0,q,h=>by omega
 |k+1,0,_=>rfl
 |k+1,q+1,h=>by
  show nth (List.replicate k x) q=some x;exact XK x U
def ak.draw{ops:List a4}{Q:dZ}(hw:b5m ops=true)(ao:swapT ops=true)(h:eN env D n ops f J (λb_=>Q .normal b_ J)):bL env aR D n (.draw ops) f J Q:=λad bH=>by
 obtain⟨fC,bd,b_,wn,h1,h2,h3,aO⟩:=h ad bH;refine⟨fC+1,[(.normal,bd,J)],aF,λF b2=>?_,λo ho=>?_⟩
 ·obtain⟨k,rfl⟩:∃k,F=k+1:=⟨F-1,U⟩
  show exec env (k+1) 0 aR (bF.draw ops) ad J=_;rw[og];show(match jv env 0 (callV env (exec env k) 0) ops ad [] [] J with
   |some (bd,cN,ws,ai)=>cond (ws.all (steady env 0 (ai::cN).reverse)&&swapOk env bd.bj ops) (some [(fZ.normal,bd,ai)]) none
   |none=>none)=_
  rw[h1 k U];show cond ((wn++[]).all (steady env 0 (J::(List.replicate ops.length J++[])).reverse)&&swapOk env bd.bj ops) (some [(fZ.normal,bd,J)]) none=_;rw[iL,iL,OX ao,IG];have:wn.all (steady env 0 (J::List.replicate ops.length J).reverse)=true:=by
   rw[nY];intro w lK;obtain⟨⟨v,sl,sy⟩,gn⟩:=aO w lK;unfold steady;refine ig λq aV=>?_;have IB:q<=ops.length:=pL (lJ (lJ hw w.1 gn) q aV);have:(J::List.replicate ops.length J).reverse=List.replicate (ops.length+1) J:=by
    rw[<-DG,List.reverse_replicate]
   rw[this,XK J U];show(match tt w.1.op 0 (evalA env w.2.1) J with|some (.val v _)=>AV.eqb env.bp v w.2.2|_=>false)=true;rw[yY,sl];exact sy
  rw[this];rfl
 ·rw[uT.1 ho];exact⟨b_,h2,h3⟩
end
def Snp(n:Nat)(v:AV):Prop:=∀J,bM J n v=some v
def XL{α:Type}{f:AV->Option AV}{g h:α->AV}:∀ {l:List α},(∀x∈l,f (g x)=some (h x))->mapO f (l.map g)=some (l.map h)
 |[],_=>rfl
 |x::l,hx=>by rw[uW,qd,hx x aF,XL λy hy=>hx y (C1 _ hy)];rfl
def Snp.i(n:Nat)(k:IntKind)(x:Int):Snp (n+1) (.i k x):=λ_=>rfl
def Snp.b(n:Nat)(x:Bool):Snp (n+1) (.b x):=λ_=>rfl
def ov{α:Type}{f:α->α->Bool}:∀ {l:List α},(∀x∈l,f x x=true)->fY f l l=true
 |[],_=>rfl
 |x::l,h=>by
  show cond (f x x) (fY f l l) false=true;rw[h x aF,cond_true];exact ov λy hy=>h y (C1 _ hy)
def IM:∀l,eqL l l=true
 |[]=>rfl
 |x::l=>by
  show cond (Nat.beq x x) (eqL l l) false=true;rw[gQ,cond_true,IM l]
def Snp.eqb:∀(n:Nat) (v:AV),Snp n v->AV.eqb n v v=true
 |0,v,h=>by have:=h ⟨.nil,0⟩;cases this
 |n+1,v,h=>by
  have aH:=Snp.eqb n;cases v with
  |b x=>show(x==x)=true;simp
  |i k x=>show(decide (k=k)&&decide (x=x))=true;simp
  |s l=>exact IM l
  |p a=>cases a with
   |none=>rfl
   |some a=>have:=h ⟨.nil,0⟩;cases this
  |dh o v=>have:=h ⟨.nil,0⟩;cases this
  |al a b c d e=>
   have ao:=h ⟨.nil,0⟩;have:bM ⟨.nil,0⟩ (n+1) (.al a b c d e)=(match readList ⟨.nil,0⟩ (.al a b c d e) with|none=>none|some xs=>match mapO (bM ⟨.nil,0⟩ n) xs with|none=>none|some xs=>some (AV.a_ true d xs)):=rfl;rw[this] at ao;split at ao
   ·cases ao
   ·split at ao<;>cases ao
  |af=>rfl
  |a_ o aa xs=>
   have ao:=h ⟨.nil,0⟩;have e:bM ⟨.nil,0⟩ (n+1) (.a_ o aa xs)=(match mapO (bM ⟨.nil,0⟩ n) xs with|none=>none|some xs=>some (AV.a_ true aa xs)):=rfl;show((o==o)&&decide (aa=aa)&&fY (AV.eqb n) xs xs)=true;have hx:∀J,mapO (bM J n) xs=some xs:=λJ=>by
    have ao:=h J;have e:bM J (n+1) (.a_ o aa xs)=(match mapO (bM J n) xs with|none=>none|some xs=>some (AV.a_ true aa xs)):=rfl;rw[e] at ao;cases hm:mapO (bM J n) xs with
    |none=>rw[hm] at ao;cases ao
    |some bf=>rw[hm] at ao;simp only[cL,AV.a_.injEq] at ao;rw[ao.2.2]
   have hall:fY (AV.eqb n) xs xs=true:=ov λx eo=>aH x λJ=>by
    have:=hx J;exact OY this x eo
   simp[hall]
  |m r=>cases r with
   |none=>rfl
   |some r=>have:=h ⟨.nil,0⟩;cases this
  |f a b c=>have:=h ⟨.nil,0⟩;cases this
  |eh=>rfl
  |it t v=>
   show(Nat.beq t t&&AV.eqb n v v)=true;rw[gQ,oq];refine aH v λJ=>?_;have ao:=h J;have e:bM J (n+1) (.it t v)=(match bM J n v with|none=>none|some v=>some (AV.it t v)):=rfl;rw[e] at ao;cases hm:bM J n v with
   |none=>rw[hm] at ao;cases ao
   |some y=>rw[hm] at ao;simp only[cL,AV.it.injEq,true_and] at ao;rw[ao]
  |fP=>rfl
  |R l=>
   show fY (AV.eqb n) l l=true;refine ov λx eo=>aH x λJ=>?_;have ao:=h J;have e:bM J (n+1) (.R l)=(match mapO (bM J n) l with|none=>none|some l=>some (AV.R l)):=rfl;rw[e] at ao;cases hm:mapO (bM J n) l with
   |none=>rw[hm] at ao;cases ao
   |some bf=>rw[hm] at ao;simp only[cL,AV.R.injEq] at ao;subst ao;exact OY hm x eo
  |a0 l=>
   show fY (AV.eqb n) l l=true;refine ov λx eo=>aH x λJ=>?_;have ao:=h J;have e:bM J (n+1) (.a0 l)=(match mapO (bM J n) l with|none=>none|some l=>some (AV.a0 l)):=rfl;rw[e] at ao;cases hm:mapO (bM J n) l with
   |none=>rw[hm] at ao;cases ao
   |some bf=>rw[hm] at ao;simp only[cL,AV.a0.injEq] at ao;subst ao;exact OY hm x eo
  |hv k d j=>show(decide (k=k)&&(Nat.beq d d&&Nat.beq j j))=true;simp
  |ic l=>exact ov λx _=>IM x
  |iI hi=>show(hi==hi)=true;simp
  |y i=>exact gQ i
  |gu o i=>show((o==o)&&Nat.beq i i)=true;simp
where
 OY {f:AV->Option AV}:∀ {l:List AV},mapO f l=some l->∀x∈l,f x=some x:=λ{l}=>by
  induction l with
  |nil=>intro _ x hx;simp at hx
  |cons a l g6=>
   intro h x hx;rw[qd] at h;cases ha:f a with
   |none=>rw[ha] at h;cases h
   |some y=>
    rw[ha] at h;cases hl:mapO f l with
    |none=>simp only[hl] at h;cases h
    |some bf=>
     simp only[hl,cL,rT] at h;obtain⟨h1,h2⟩:=h;subst h1;subst h2;rcases dB.1 hx with rfl|hx
     ·exact ha
     ·exact g6 hl x hx
def XM{a b:Nat}:decide (Int.ofNat a=Int.ofNat b)=decide (a=b):=decide_eq_decide.2 ⟨oT,λh=>by rw[h]⟩
def b5n{k:IntKind}{a b:Nat}:binop .eql (.i k (Int.ofNat a)) (.i k (Int.ofNat b))=some (.b (decide (a=b))):=by
 rw[<-XM];show(if k=k then binI .eql k (Int.ofNat a) (Int.ofNat b) else none)=_;rw[if_pos I];rfl
def b5o{k:IntKind}{a b:Nat}:binop .neq (.i k (Int.ofNat a)) (.i k (Int.ofNat b))=some (.b (!decide (a=b))):=by
 rw[<-XM];show(if k=k then binI .neq k (Int.ofNat a) (Int.ofNat b) else none)=_;rw[if_pos I];rfl
def cmpO(op:BinOp)(a b:Nat):Option AV:=
 match op with
 | .eql=>some (.b (decide (a=b)))
 | .neq=>some (.b (!decide (a=b)))
 | .lss=>some (.b (decide (a<b)))
 | .leq=>some (.b (decide (a<=b)))
 | .gtr=>some (.b (decide (b<a)))
 | .geq=>some (.b (decide (b<=a)))
 |_=>none
def ow{op:BinOp}{k:IntKind}{a b:Nat}{v:AV}(h:cmpO op a b=some v):binop op (.i k (Int.ofNat a)) (.i k (Int.ofNat b))=some v:=by
 cases op with
 |eql=>rw[b5n];exact h
 |neq=>rw[b5o];exact h
 |lss=>
  rw[<-h];show(if k=k then binI .lss k (Int.ofNat a) (Int.ofNat b) else none)=_;rw[if_pos I];show some (AV.b (decide ((Int.ofNat a)<Int.ofNat b)))=some (.b (decide (a<b)))
  congr 2;simp
 |leq=>
  rw[<-h];show(if k=k then binI .leq k (Int.ofNat a) (Int.ofNat b) else none)=_;rw[if_pos I];show some (AV.b (decide ((Int.ofNat a)<=Int.ofNat b)))=some (.b (decide (a<=b)))
  congr 2;simp
 |gtr=>
  rw[<-h];show(if k=k then binI .gtr k (Int.ofNat a) (Int.ofNat b) else none)=_;rw[if_pos I];show some (AV.b (decide ((Int.ofNat b)<Int.ofNat a)))=some (.b (decide (b<a)))
  congr 2;simp
 |geq=>
  rw[<-h];show(if k=k then binI .geq k (Int.ofNat a) (Int.ofNat b) else none)=_;rw[if_pos I];show some (AV.b (decide ((Int.ofNat b)<=Int.ofNat a)))=some (.b (decide (b<=a)))
  congr 2;simp
 |_=>cases h
def Eu{n:Nat}(h:n<2^63):wrapN .i64 (Int.ofNat n)=Int.ofNat n:=by
 show cond (Nat.blt n 9223372036854775808) (Int.ofNat n) _=_;rw[show Nat.blt n 9223372036854775808=true from iR U];rfl
def sz{a b:Nat}(h:a+b<2^63):binop .add (ah a) (ah b)=some (ah (a+b)):=by
 show some (AV.i .i64 (wrapN .i64 (Int.ofNat (a+b))))=_;rw[Eu h]
def sA{a b:Nat}(hb:b<=a)(h:a<2^63):binop .sub (ah a) (ah b)=some (ah (a-b)):=by
 show some (AV.i .i64 (wrapN .i64 (Int.ofNat a-Int.ofNat b)))=_;have:Int.ofNat a-Int.ofNat b=Int.ofNat (a-b):=by simp only[Xx];omega
 rw[this,Eu U]
def XN:AOp->Bool
 | .bin _ _ _=>false
 | .conv _ _=>false
 | .append _ _ _ _=>false
 | .buildSlice _ _ _ _=>false
 | .neg _=>false
 |_=>true
section
variable {env:Env}{aR:Option Nat}{D:List (Nat ⊕ (AV×List AV))}{n:Nat}{f:Nat->AV}{J:ae}{Q:dZ}
def aK.go{d:Nat}{op:AOp}{g:Option (Nat×Bool)}{wn:List Nat}{ops:List a4}{v:AV}{ai:ae}(_hb:XN op=true)(hd:Nat.blt d n=true)(hw:gV g n f=true)(ho:opx 0 (dJ env n f) J op=some (.val v ai))(h:dC env aR D n ops (dd f d v) ai Q):
  dC env aR D n (⟨some d,op,g,wn⟩::ops) f J Q:=aK.val hd hw ho h
def aK.bin{d:Nat}{op:BinOp}{x y:aJ}{g:Option (Nat×Bool)}{wn:List Nat}{ops:List a4}{a b v:AV}(hd:Nat.blt d n=true)(hw:gV g n f=true)(h1:dJ env n f x=some a)(h2:dJ env n f y=some b)(h3:binop op a b=some v)
  (h:dC env aR D n ops (dd f d v) J Q):dC env aR D n (⟨some d,.bin op x y,g,wn⟩::ops) f J Q:=aK.val hd hw (Es a b v h1 h2 h3) h
def aK.cmp{d:Nat}{op:BinOp}{x y:aJ}{g:Option (Nat×Bool)}{wn:List Nat}{ops:List a4}{k:IntKind}{a b:Nat}{v:AV}(hd:Nat.blt d n=true)(hw:gV g n f=true)(h1:dJ env n f x=some (.i k (Int.ofNat a)))(h2:dJ env n f y=some (.i k (Int.ofNat b)))(h3:cmpO op a b=some v)
  (h:dC env aR D n ops (dd f d v) J Q):dC env aR D n (⟨some d,.bin op x y,g,wn⟩::ops) f J Q:=aK.val hd hw (Es _ _ v h1 h2 (ow h3)) h
def eN.cmp{d:Nat}{op:BinOp}{x y:aJ}{g:Option (Nat×Bool)}{ops:List a4}{k:IntKind}{a b:Nat}{v:AV}{Q:(Nat->AV)->Prop}(hd:Nat.blt d n=true)(hw:gV g n f=true)(h1:dJ env n f x=some (.i k (Int.ofNat a)))(h2:dJ env n f y=some (.i k (Int.ofNat b)))(h3:cmpO op a b=some v)
  (h:eN env D n ops (dd f d v) J Q):eN env D n (⟨some d,.bin op x y,g,[]⟩::ops) f J Q:=eN.val hd hw (Es _ _ v h1 h2 (ow h3)) h
def aK.aA{d:Nat}{aa:Option Nat}{x:aJ}{g:Option (Nat×Bool)}{wn:List Nat}{ops:List a4}{id off:Nat}{c:List AV}{v:AV}(ao:J.get id=some (.cells c))(hd:Nat.blt d n=true)(hw:gV g n f=true)(h1:dJ env n f x=some (.p (some (id,off))))(h2:dV aa (c.drop off)=some v)
  (h:dC env aR D n ops (dd f d v) J Q):dC env aR D n (⟨some d,.load aa x,g,wn⟩::ops) f J Q:=aK.val hd hw (ou _ _ h1 (vx ao h2)) h
def eN.go{d:Nat}{op:AOp}{g:Option (Nat×Bool)}{ops:List a4}{v:AV}{Q:(Nat->AV)->Prop}(_hb:XN op=true)(hd:Nat.blt d n=true)(hw:gV g n f=true)(ho:opx 0 (dJ env n f) J op=some (.val v J))(h:eN env D n ops (dd f d v) J Q):
  eN env D n (⟨some d,op,g,[]⟩::ops) f J Q:=eN.val hd hw ho h
def eN.bin{d:Nat}{op:BinOp}{x y:aJ}{g:Option (Nat×Bool)}{ops:List a4}{a b v:AV}{Q:(Nat->AV)->Prop}(hd:Nat.blt d n=true)(hw:gV g n f=true)(h1:dJ env n f x=some a)(h2:dJ env n f y=some b)(h3:binop op a b=some v)
  (h:eN env D n ops (dd f d v) J Q):eN env D n (⟨some d,.bin op x y,g,[]⟩::ops) f J Q:=eN.val hd hw (Es a b v h1 h2 h3) h
def eN.aA{d:Nat}{aa:Option Nat}{x:aJ}{g:Option (Nat×Bool)}{ops:List a4}{id off:Nat}{c:List AV}{v:AV}{Q:(Nat->AV)->Prop}(ao:J.get id=some (.cells c))(hd:Nat.blt d n=true)(hw:gV g n f=true)(h1:dJ env n f x=some (.p (some (id,off))))(h2:dV aa (c.drop off)=some v)
  (h:eN env D n ops (dd f d v) J Q):eN env D n (⟨some d,.load aa x,g,[]⟩::ops) f J Q:=eN.val hd hw (ou _ _ h1 (vx ao h2)) h
def xf{ar:aJ->Option AV}{k:Nat}{x:aJ}{v:AV}{m:Nat}(h1:ar x=some v)(h2:lenA J k v=some m):opx 0 ar J (.len k x)=some (.val (ah m) J):=by
 show(match ar x with|some x=>(match lenA J k x with|some n=>some (bZ.val (ah n) J)|none=>lenU J k x)|none=>none)=_;rw[h1];show(match lenA J k v with|some n=>some (bZ.val (ah n) J)|none=>lenU J k v)=_;rw[h2]
def aK.len{d k m:Nat}{x:aJ}{g:Option (Nat×Bool)}{wn:List Nat}{ops:List a4}{v:AV}(hd:Nat.blt d n=true)(hw:gV g n f=true)(h1:dJ env n f x=some v)(h2:lenA J k v=some m)(h:dC env aR D n ops (dd f d (ah m)) J Q):
  dC env aR D n (⟨some d,.len k x,g,wn⟩::ops) f J Q:=aK.val hd hw (xf h1 h2) h
def aK.idx{d:Nat}{aa:Option Nat}{x i:aJ}{g:Option (Nat×Bool)}{wn:List Nat}{ops:List a4}{k:IntKind}{a v:AV}{j:Nat}(hd:Nat.blt d n=true)(hw:gV g n f=true)(h1:dJ env n f x=some a)(h2:dJ env n f i=some (.i k (Int.ofNat j)))(h3:idxSlA aa a j=some v)
  (h:dC env aR D n ops (dd f d v) J Q):dC env aR D n (⟨some d,.bn aa x i,g,wn⟩::ops) f J Q:=aK.val hd hw (IK k a j v h1 h2 h3) h
def eN.idx{d:Nat}{aa:Option Nat}{x i:aJ}{g:Option (Nat×Bool)}{ops:List a4}{k:IntKind}{a v:AV}{j:Nat}{Q:(Nat->AV)->Prop}(hd:Nat.blt d n=true)(hw:gV g n f=true)(h1:dJ env n f x=some a)(h2:dJ env n f i=some (.i k (Int.ofNat j)))(h3:idxSlA aa a j=some v)
  (h:eN env D n ops (dd f d v) J Q):eN env D n (⟨some d,.bn aa x i,g,[]⟩::ops) f J Q:=eN.val hd hw (IK k a j v h1 h2 h3) h
def aK.IN{d:Nat}{aa:Option Nat}{x:aJ}{g:Option (Nat×Bool)}{wn:List Nat}{ops:List a4}{o:Bool}{v:AV}(hd:Nat.blt d n=true)(hw:gV g n f=true)(h1:dJ env n f x=some (.dh o v))(h2:conf aa v=true)
  (h:dC env aR D n ops (dd f d v) J Q):dC env aR D n (⟨some d,.load aa x,g,wn⟩::ops) f J Q:=aK.val hd hw (ou _ _ h1 (by show(if conf aa v then some v else none)=_;rw[if_pos h2])) h
def b5p{ar:aJ->Option AV}{x i:aJ}{k:IntKind}{l:List Nat}{j c:Nat}(h1:ar x=some (.s l))(h2:ar i=some (.i k (Int.ofNat j)))(h:nth l j=some c):opx 0 ar J (.lu x i)=some (.val (.i .u8 (Int.ofNat c)) J):=by
 show(match ar x,ar i with
  |some (.s l),some j=>(match natOf j with
   |some j=>(match nth l j with|some c=>some (bZ.val (.i .u8 (Int.ofNat c)) J)|none=>none)
   |none=>none)
  |_,_=>none)=_
 rw[h1,h2];show(match nth l j with|some c=>some (bZ.val (.i .u8 (Int.ofNat c)) J)|none=>none)=_;rw[h]
def XO{ar:aJ->Option AV}{m:Nat}{aa:Option Nat}{x i:aJ}{k:IntKind}{o:Bool}{cs:List AV}{j:Nat}{v:AV}(h1:ar x=some (.dh o (.R cs)))(h2:ar i=some (.i k (Int.ofNat j)))(h:j<m)(h3:dV aa (cs.drop (j*shN aa))=some v):opx 0 ar J (.rV m aa x i)=some (.val (.dh o v) J):=by
 show(match ar x,ar i with
  |some x,some j=>(match natOf j with
   |some j=>(if Nat.blt j m then(match fieldAddrA (j*shN aa) aa x with|some v=>some (bZ.val v J)|none=>none) else none)
   |none=>none)
  |_,_=>none)=_
 rw[h1,h2];show(if Nat.blt j m then(match(match dV aa (cs.drop (j*shN aa)) with|some v=>some (AV.dh o v)|none=>none) with|some v=>some (bZ.val v J)|none=>none) else none)=_;rw[if_pos (show Nat.blt j m=true from iR h),h3]
def ak.cut{a b:bF}(L:List (Nat×AV))(h1:bL env aR D n a f J (λx b_ ai=>x= .normal/\ai=J/\sat L b_))(h2:∀g,bL env aR D n b (bB L g) J Q):bL env aR D n (.seq a b) f J Q:=ak.seq (h1.mono λx b_ ai ⟨aL,a5,cy⟩=>by
 subst aL;subst a5;show bL env aR D n b b_ ai Q;exact ak.norm L cy h2)
def ak.b5q{a b:bF}(L:List (Nat×AV)){E:dZ}{M:Prop}(h1:bL env aR D n a f J (λx b_ ai=>(x= .normal/\ai=J/\sat L b_/\M)\/E x b_ ai))(h3:∀x b_ ai,E x b_ ai->x≠ .normal/\Q x b_ ai)(h2:M->∀g,bL env aR D n b (bB L g) J Q):bL env aR D n (.seq a b) f J Q:=ak.seq (h1.mono λx b_ ai h=>by
 rcases h with⟨aL,a5,cy,iB⟩|h
 ·subst aL;subst a5;show bL env aR D n b b_ ai Q;exact ak.norm L cy λg=>h2 iB g
 ·obtain⟨aL,a5⟩:=h3 _ _ _ h;cases x with
  |normal=>exact absurd I aL
  |exit i=>exact a5
  |ret=>exact a5
  |panic v=>exact a5)
def aK.box{d:Nat}{x:aJ}{g:Option (Nat×Bool)}{wn:List Nat}{ops:List a4}{v:AV}{c:List AV}(k:Nat)(hn:J.next=k)(hd:Nat.blt d n=true)(hw:gV g n f=true)(au:dJ env n f x=some v)(hval:v.val=true)(ab:v.cells=c)
  (h:∀ai:ae,ai.next=k+1->ai.get k=some (.cells c)->(∀i o,J.get i=some o->ai.get i=some o)->dC env aR D n ops (dd f d (.p (some (k,0)))) ai Q):dC env aR D n (⟨some d,.box x,g,wn⟩::ops) f J Q:=by
 subst hn;refine aK.val (v:=j2 J.next 0) (ai:=J.push (.cells c)) hd hw ?_ (h (J.push (.cells c)) I (ae.jL _) λi o ho=>?_)
 ·show(match dJ env n f x with|some v=>cond v.val (some (bZ.val (j2 J.next 0) (J.push (.cells v.cells)))) none|none=>none)=_;rw[au];show cond v.val _ _=_;rw[hval,cond_true,ab]
 ·rw[ae.gD trivial _ (ae.bt ho)];exact ho
def aK.alloc{d:Nat}{v:AV}{g:Option (Nat×Bool)}{wn:List Nat}{ops:List a4}{c:List AV}(k:Nat)(hn:J.next=k)(hd:Nat.blt d n=true)(hw:gV g n f=true)(ab:v.cells=c)
  (h:∀ai:ae,ai.next=k+1->ai.get k=some (.cells c)->(∀i o,J.get i=some o->ai.get i=some o)->dC env aR D n ops (dd f d (.p (some (k,0)))) ai Q):dC env aR D n (⟨some d,.alloc v,g,wn⟩::ops) f J Q:=by
 subst hn;refine aK.val (v:=j2 J.next 0) (ai:=J.push (.cells c)) hd hw ?_ (h (J.push (.cells c)) I (ae.jL _) λi o ho=>?_)
 ·rw[<-ab];rfl
 ·rw[ae.gD trivial _ (ae.bt ho)];exact ho
def XP{ar:aJ->Option AV}{aa:Option Nat}{a x:aJ}{id off:Nat}{v:AV}{c bD:List AV}(ao:J.get id=some (.cells c))(h1:ar a=some (.p (some (id,off))))(h2:ar x=some v)(h7:conf aa v=true)(ab:storeCells c off v.cells=some bD):
  opx 0 ar J (.store aa a x)=some (.val ei (J.set id (.cells bD))):=by
 show(match ar a,ar x with
  |some (.p (some (id,off))),some v=>
   if Nat.blt id 0 then none else
   if conf aa v then
    match J.get id with
    |some (.cells c)=>match storeCells c off v.cells with
     |some c=>some (bZ.val ei (J.set id (.cells c)))
     |none=>none
    |_=>none
   else none
  |_,_=>none)=_
 rw[h1,h2];show(if Nat.blt id 0 then none else if conf aa v then(match J.get id with
    |some (.cells c)=>match storeCells c off v.cells with
     |some c=>some (bZ.val ei (J.set id (.cells c)))
     |none=>none
    |_=>none) else none)=_
 rw[if_neg (by simp[Nat.blt,Nat.ble]),if_pos h7,ao];show(match storeCells c off v.cells with|some c=>some (bZ.val ei (J.set id (.cells c)))|none=>none)=_;rw[ab]
def jS{id:Nat}{o bX:AO}(ao:J.get id=some o):(J.set id bX).get id=some bX/\(∀i o,i≠id->J.get i=some o->(J.set id bX).get i=some o):=by
 have hlt:=ae.bt ao;refine⟨by rw[ae.jw trivial _ hlt,if_pos I],λi o hi ho=>?_⟩;rw[ae.jw trivial _ hlt,if_neg hi];exact ho
def aK.store{aa:Option Nat}{a x:aJ}{g:Option (Nat×Bool)}{wn:List Nat}{ops:List a4}{id off:Nat}{v:AV}{c bD:List AV}(ao:J.get id=some (.cells c))(hw:gV g n f=true)(h1:dJ env n f a=some (.p (some (id,off))))(h2:dJ env n f x=some v)(h7:conf aa v=true)(ab:storeCells c off v.cells=some bD)
  (h:∀ai:ae,ai.next=J.next->ai.get id=some (.cells bD)->(∀i o,i≠id->J.get i=some o->ai.get i=some o)->dC env aR D n ops f ai Q):dC env aR D n (⟨none,.store aa a x,g,wn⟩::ops) f J Q:=
 aK.w8 hw (XP ao h1 h2 h7 ab) (h _ I (jS ao).1 (jS ao).2)
def storeAll{c v:List AV}(h:v.length=c.length):storeCells c 0 v=some v:=by
 unfold storeCells;rw[if_pos (iR U),NS,h,List.drop_length];simp
def aK.var{d:Nat}{z:AV}{aa:Option Nat}{x:aJ}{wn OZ:List Nat}{ops:List a4}{v:AV}{c:List AV}(k:Nat)(hn:J.next=k)(hd:Nat.blt d n=true)(h1:Nat.beq d d=true)(hx:dJ env n (dd f d (.p (some (k,0)))) x=some v)(h7:conf aa v=true)(ab:v.cells=c)(hl:c.length=z.cells.length)
  (h:∀ai:ae,ai.next=k+1->ai.get k=some (.cells c)->(∀i o,J.get i=some o->ai.get i=some o)->dC env aR D n ops (dd f d (.p (some (k,0)))) ai Q):dC env aR D n (⟨some d,.alloc z,none,wn⟩::⟨none,.store aa (.t d) x,none,OZ⟩::ops) f J Q:=by
 refine aK.alloc k hn hd I I λb8 aX bc cq=>?_;refine aK.store (bD:=c) bc I ?_ hx h7 (by rw[ab];exact storeAll hl) λcT eF dE dW=>h cT (eF.trans aX) dE λi o ho=>dW i o ?_ (cq i o ho)
 ·show cond (Nat.blt d n) (some (cond (Nat.beq d d) _ (f d))) none=_;rw[hd,h1];rfl
 ·have:=ae.bt ho;omega
def aK.known{b:bT}{K:Nat->List AV->AV->Prop}{d:Nat}{op:AOp}{g:Option (Nat×Bool)}{wn:List Nat}{ops:List a4}{fn:Nat}{args aQ:List AV}{r:AV}(hf:∀g aQ r b5,K g aQ r->K g aQ b5->r=b5)(he:b.ext fn=0)(aw:b.pure fn=true)(c0:K fn aQ r)
  (hd:Nat.blt d n=true) (hw:gV g n f=true) (ho:opx 0 (dJ (b.aM K) n f) J op=some (.call (.f (.func fn) [] []) args)) (ha:mapO (bM J (b.bp+1000)) args=some aQ) (h:dC (b.aM K) aR D n ops (dd f d r) J Q):dC (b.aM K) aR D n (⟨some d,op,g,wn⟩::ops) f J Q:=
 aK.spec hd hw ho he aw ha (OV hf c0) h
def eN.known{b:bT}{K:Nat->List AV->AV->Prop}{d:Nat}{op:AOp}{g:Option (Nat×Bool)}{wn:List Nat}{ops:List a4}{fn:Nat}{args aQ:List AV}{r:AV}{Q:(Nat->AV)->Prop}(hf:∀g aQ r b5,K g aQ r->K g aQ b5->r=b5)(he:b.ext fn=0)(aw:b.pure fn=true)(c0:K fn aQ r)
  (hd:Nat.blt d n=true) (hw:gV g n f=true) (ho:opx 0 (dJ (b.aM K) n f) J op=some (.call (.f (.func fn) [] []) args)) (ha:mapO (bM J (b.bp+1000)) args=some aQ) (h:eN (b.aM K) D n ops (dd f d r) J Q):eN (b.aM K) D n (⟨some d,op,g,wn⟩::ops) f J Q:=
 eN.spec hd hw ho he aw ha (OV hf c0) h
def k_{n:Nat}{a:AV}{x:AV}(h:bM J n a=some x):mapO (bM J n) [a]=some [x]:=by rw[qd,h];rfl
def nF{n:Nat}{a b:AV}{x y:AV}(h:bM J n a=some x)(h2:bM J n b=some y):mapO (bM J n) [a,b]=some [x,y]:=by rw[qd,h,k_ h2]
def Ev{n:Nat}{a b c:AV}{x y z:AV}(h:bM J n a=some x)(h2:bM J n b=some y)(h3:bM J n c=some z):mapO (bM J n) [a,b,c]=some [x,y,z]:=by rw[qd,h,nF h2 h3]
end
def slA(o:Bool)(aa:Option Nat):List AV->AV
 |[]=>.af
 |x::l=>.a_ o aa (x::l)
def XQ(J:ae)(o:Bool)(aa:Option Nat)(l:List AV):lenA J 1 (slA o aa l)=some l.length:=by cases l<;>rfl
def IP{α:Type}:∀ {l:List α} {i:Nat} (h:i<l.length),nth l i=some l[i]
 |[],i,h=>by simp at h
 |x::l,0,_=>rfl
 |x::l,i+1,h=>IP (l:=l) (by simpa using h)
def Ew{o:Bool}{aa:Option Nat}{l:List AV}{i:Nat}(h:i<l.length):idxSlA aa (slA o aa l) i=some (.dh o l[i]):=by
 cases l with
 |nil=>simp at h
 |cons x l=>exact XH (IP h)
def IQ{α:Type}{J:ae}{o:Bool}{aa:Option Nat}{l:List α}{f:α->AV}:lenA J 1 (slA o aa (l.map f))=some l.length:=by rw[XQ,uV]
def zj{α:Type}{o:Bool}{aa:Option Nat}{l:List α}{f:α->AV}{i:Nat}(h:i<l.length):idxSlA aa (slA o aa (l.map f)) i=some (.dh o (f l[i])):=by rw[Ew (by simpa using h),mQ]
def XR{o:Bool}{aa:Option Nat}{l m:List AV}(h:slA o aa l=slA o aa m):l=m:=by
 cases l<;>cases m<;>simp_all [slA]
def m7{aa:Option Nat}{id off len j:Nat}{cap:Option Nat}(h:j<len):idxSlA aa (.al id off len aa cap) j=some (.p (some (id,off+j*shN aa))):=by
 show(if Nat.blt j len&&decide (aa=aa) then some (AV.p (some (id,off+j*shN aa))) else none)=_;rw[show Nat.blt j len=true from iR h];simp
def XS{k:Nat}{x:AV}(h:conf (some k) x=true):∃l,x= .R l/\l.length=k:=by
 cases x with
 |R l=>exact⟨l,rfl,gb h⟩
 |_=>cases h
def IS{x:AV}(h:conf none x=true):x.cells=[x]:=by
 cases x with
 |R l=>cases h
 |_=>rfl
def Ex{aa:Option Nat}{x:AV}{r:List AV}(h:conf aa x=true):dV aa (x.cells++r)=some x/\(x.cells++r).drop (shN aa)=r:=by
 cases aa with
 |none=>rw[IS h];exact⟨rfl,rfl⟩
 |some k=>
  obtain⟨l,rfl,hl⟩:=XS h;subst hl;refine⟨?_,?_⟩
  ·show(let m:=(l++r).take l.length;if m.length=l.length then some (AV.R m) else none)=_;simp
  ·show(l++r).drop l.length=r;simp
def IT{aa:Option Nat}:∀ {xs:List AV} {r:List AV},(∀x∈xs,conf aa x=true)->elems aa xs.length (xs.flatMap AV.cells++r)=some xs
 |[],r,_=>rfl
 |x::xs,r,h=>by
  have hx:=h x aF;rw[CZ,elems_succ,jY,iE,(Ex hx).1,(Ex hx).2,IT λy hy=>h y (C1 _ hy)]
inductive Acc(J:ae)(aa:Option Nat):AV->List AV->Prop
 |nil:Acc J aa .af []
 |al (o:Nat) (x:AV) (xs:List AV) (h:J.get o=some (.cells ((x::xs).flatMap AV.cells))) (ab:∀y∈x::xs,conf aa y=true):Acc J aa (.al o 0 (xs.length+1) aa none) (x::xs)
def AV.at? :AV->Option Nat
 | .al id _ _ _ _=>some id
 |_=>none
def Acc.conf{J:ae}{aa:Option Nat}{v:AV}{xs:List AV}(h:Acc J aa v xs):∀y∈xs,conf aa y=true:=by
 cases h with
 |nil=>intro y hy;simp at hy
 |al o x xs h ab=>exact ab
def Acc.read{J:ae}{aa:Option Nat}{v:AV}{xs:List AV}(h:Acc J aa v xs):readList J v=some xs:=by
 cases h with
 |nil=>rfl
 |al o x xs h ab=>
  show(match J.get o with|some (.cells c)=>elems aa (xs.length+1) (c.drop 0)|_=>none)=_;rw[h];show elems aa (x::xs).length ((x::xs).flatMap AV.cells)=_;have:=IT (r:=[]) ab;rwa[iL] at this
def Acc.aP{J ai:ae}{aa:Option Nat}{v:AV}{xs:List AV}(h:Acc J aa v xs)(ay:∀i o,v.at? =some i->J.get i=some o->ai.get i=some o):Acc ai aa v xs:=by
 cases h with
 |nil=>exact .nil
 |al o x xs h ab=>exact .al o x xs (ay _ _ I h) ab
def Acc.len{J τ:ae}{aa:Option Nat}{v:AV}{xs:List AV}(h:Acc J aa v xs):lenA τ 1 v=some xs.length:=by
 cases h with
 |nil=>rfl
 |al o x xs h ab=>rfl
def Acc.append{J:ae}{aa:Option Nat}{v x:AV}{xs bf:List AV}{y:AV}{bytes:Nat}(h:Acc J aa v xs)(hx:newOf J x=some (y::bf))(ab:∀z∈y::bf,Go.Lyc.conf aa z=true)(hb:(3*(xs.length+(y::bf).length)+2000)*bytes<=281474976710656):
  ∃bR ai,appendO 0 J aa bytes v x=some (bR,ai)/\Acc ai aa bR (xs++y::bf)/\bR.at? =some J.next/\ai.next=J.next+1/\∀i o,v.at? ≠some i->J.get i=some o->ai.get i=some o:=by
 have vz:=h.conf;have hall:(cD (Go.Lyc.conf aa) xs&&cD (Go.Lyc.conf aa) (y::bf)&&Nat.ble ((3*(xs.length+(y::bf).length)+2000)*bytes) 281474976710656)=true:=by
  rw[ig vz,ig ab,iR hb];rfl
 cases h with
 |nil=>
  refine⟨.al J.next 0 (y::bf).length aa none,J.push (.cells ((y::bf).flatMap AV.cells)),?_,?_,rfl,rfl,λi o _ ho=>?_⟩
  ·unfold appendO;rw[hx];show cond _ _ none=_;rw[hall];rfl
  ·exact .al _ _ _ (ae.jL _) ab
  ·rw[ae.gD trivial _ (ae.bt ho)];exact ho
 |al o vA xs h iu=>
  have aq:readList J (.al o 0 (xs.length+1) aa none)=some (vA::xs):=(Acc.al o vA xs h iu).read;refine⟨.al J.next 0 (xs.length+1+(y::bf).length) aa none,(J.set o .dead).push (.cells ((vA::xs).flatMap AV.cells++(y::bf).flatMap AV.cells)),?_,?_,rfl,rfl,λi bX a7 ho=>?_⟩
  ·unfold appendO;rw[aq,hx];show cond (cD (Go.Lyc.conf aa) (vA::xs)&&cD (Go.Lyc.conf aa) (y::bf)&&Nat.ble ((3*((vA::xs).length+(y::bf).length)+2000)*bytes) 281474976710656) _ none=_;rw[hall,cond_true];show(if aa=aa then(if Nat.blt o 0 then none else if Nat.beq 0 0 then some (AV.al J.next 0 (xs.length+1+(y::bf).length) aa none,(J.set o .dead).push (.cells ((vA::xs).flatMap AV.cells++(y::bf).flatMap AV.cells))) else none) else none)=_;rw[if_pos I,if_neg (by simp[Nat.blt,Nat.ble]),if_pos (by rfl)]
  ·have e:(vA::xs)++y::bf=vA::(xs++y::bf):=rfl;rw[e];have a5:xs.length+1+(y::bf).length=(xs++y::bf).length+1:=by simp;omega
   rw[a5];refine .al _ _ _ ?_ λz a6=>?_
   ·have:(J.set o .dead).next=J.next:=rfl;rw[<-this,ae.jL];simp
   ·rcases tl.1 (show z∈(vA::xs)++y::bf from a6) with a6|a6
    ·exact iu z a6
    ·exact ab z a6
  ·have hlt:=ae.bt ho;rw[ae.gD trivial _ (show i<(J.set o .dead).next from hlt),ae.jw trivial _ (ae.bt h),if_neg (λe=>a7 (by rw[e];rfl))];exact ho
section
variable {env:Env}{aR:Option Nat}{D:List (Nat ⊕ (AV×List AV))}{n:Nat}{f:Nat->AV}{J:ae}{Q:dZ}
def b5r{ar:aJ->Option AV}{aa:Option Nat}{bytes:Nat}{s x:aJ}{a b v:AV}{ai:ae}(h1:ar s=some a)(h2:ar x=some b)(h:appendO 0 J aa bytes a b=some (v,ai)):opx 0 ar J (.append aa bytes s x)=some (.val v ai):=by
 show(match ar s,ar x with
  |some s,some x=>(match appendO 0 J aa bytes s x with|some (v,J)=>some (bZ.val v J)|none=>none)
  |_,_=>none)=_
 rw[h1,h2];show(match appendO 0 J aa bytes a b with|some (v,J)=>some (bZ.val v J)|none=>none)=_;rw[h]
def aK.append{d:Nat}{aa:Option Nat}{bytes:Nat}{s x:aJ}{g:Option (Nat×Bool)}{wn:List Nat}{ops:List a4}{a b:AV}{xs bf:List AV}{y:AV}(hA:Acc J aa a xs)(hx:newOf J b=some (y::bf))(ab:∀z∈y::bf,conf aa z=true)(hb:(3*(xs.length+(y::bf).length)+2000)*bytes<=281474976710656)
  (hd:Nat.blt d n=true) (hw:gV g n f=true) (h1:dJ env n f s=some a) (h2:dJ env n f x=some b)
  (h:∀v ai,Acc ai aa v (xs++y::bf)->v.at? =some J.next->ai.next=J.next+1->(∀i o,a.at? ≠some i->J.get i=some o->ai.get i=some o)->dC env aR D n ops (dd f d v) ai Q):dC env aR D n (⟨some d,.append aa bytes s x,g,wn⟩::ops) f J Q:=by
 obtain⟨bR,ai,aX,bc,cq,ew,eJ⟩:=hA.append hx ab hb;exact aK.val hd hw (b5r h1 h2 aX) (h bR ai bc cq ew eJ)
def aK.b5s{d d0:Nat}{aa:Option Nat}{bytes:Nat}{z:List AV}{s x:aJ}{wn OZ:List Nat}{ops:List a4}{a y:AV}{xs:List AV}(hA:Acc J aa a xs)(oi:Nat.blt d0 n=true)(au:opx 0 (dJ env n f) J (.buildSlice aa 1 z [(0,x)])=some (.val (.al J.next 0 1 aa (some 1)) (J.push (.cells y.cells))))(ab:conf aa y=true)
  (hb:(3*(xs.length+1)+2000)*bytes<=281474976710656) (hd:Nat.blt d n=true) (h1:dJ env n (dd f d0 (.al J.next 0 1 aa (some 1))) s=some a)
  (h:∀v ai,Acc ai aa v (xs++[y])->v.at? =some (J.next+1)->ai.next=J.next+2->(∀i o,a.at? ≠some i->J.get i=some o->ai.get i=some o)->dC env aR D n ops (dd (dd f d0 (.al J.next 0 1 aa (some 1))) d v) ai Q):
  dC env aR D n (⟨some d0,.buildSlice aa 1 z [(0,x)],none,wn⟩::⟨some d,.append aa bytes s (.t d0),none,OZ⟩::ops) f J Q:=by
 refine aK.val oi I au ?_;have kO:Acc (J.push (.cells y.cells)) aa a xs:=hA.aP λi o _ ho=>by rw[ae.gD trivial _ (ae.bt ho)];exact ho
 have ly:newOf (J.push (.cells y.cells)) (.al J.next 0 1 aa (some 1))=some [y]:=by
  show readList (J.push (.cells y.cells)) (.al J.next 0 1 aa (some 1))=_;show(match(J.push (.cells y.cells)).get J.next with|some (.cells c)=>elems aa 1 (c.drop 0)|_=>none)=_;rw[ae.jL];have:=IT (aa:=aa) (xs:=[y]) (r:=[]) (by intro w hw;rw[uT.1 hw];exact ab);simpa using this
 refine aK.append kO ly (by intro w hw;rw[uT.1 hw];exact ab) hb hd I h1 ?_ λv ai eF dE dW fK=>h v ai eF dE dW λi o hi ho=>fK i o hi (by rw[ae.gD trivial _ (ae.bt ho)];exact ho);show cond (Nat.blt d0 n) (some (cond (Nat.beq d0 d0) _ (f d0))) none=_;rw[oi,gQ];rfl
end
end
section
open Go.RowKit
inductive Tm where
 |mk (var:Bool) (name:List Nat) (args:Option (List Tm))
inductive Fm where
 |mk (op:Nat) (name:List Nat) (args:Option (List Tm)) (sub:Option (List Fm))
def Tm.var:Tm->Bool| .mk v _ _=>v
def Tm.name:Tm->List Nat| .mk _ n _=>n
def Tm.fl:Tm->Option (List Tm)| .mk _ _ a=>a
def Tm.args(t:Tm):List Tm:=t.fl.getD []
def Fm.op:Fm->Nat| .mk o _ _ _=>o
def Fm.name:Fm->List Nat| .mk _ n _ _=>n
def Fm.fl:Fm->Option (List Tm)| .mk _ _ a _=>a
def Fm.args(f:Fm):List Tm:=f.fl.getD []
def Fm.e4:Fm->Option (List Fm)| .mk _ _ _ s=>s
def Fm.sub(f:Fm):List Fm:=f.e4.getD []
def osl(o:Bool)(aa:Option Nat):Option (List AV)->AV
 |none=>.af
 |some l=>.a_ o aa l
mutual
def Tm.cells(o:Bool):Tm->List AV
 | .mk v n none=>[.b v,.s n,.af]
 | .mk v n (some l)=>[.b v,.s n,.a_ o (some 3) (Tm.lA o l)]
def Tm.lA(o:Bool):List Tm->List AV
 |[]=>[]
 |t::l=>.R (t.cells o)::Tm.lA o l
end
def Tm.A(o:Bool)(t:Tm):AV:=.R (t.cells o)
def Tm.zk(o:Bool):∀l,Tm.lA o l=l.map (Tm.A o)
 |[]=>by simp[Tm.lA]
 |t::l=>by rw[Tm.lA,Tm.zk o l];rfl
def gG(o:Bool)(l:Option (List Tm)):AV:=osl o (some 3) (l.map λl=>l.map (Tm.A o))
def Tm.j_(o:Bool)(t:Tm):t.cells o=[.b t.var,.s t.name,gG o t.fl]:=by
 obtain⟨v,n,a⟩:=t;cases a with
 |none=>rw[Tm.cells];rfl
 |some l=>rw[Tm.cells,Tm.zk];rfl
mutual
def Fm.cells(o:Bool):Fm->List AV
 | .mk op n a none=>[.i .u8 (Int.ofNat op),.s n,gG o a,.af]
 | .mk op n a (some l)=>[.i .u8 (Int.ofNat op),.s n,gG o a,.a_ o (some 4) (Fm.lA o l)]
def Fm.lA(o:Bool):List Fm->List AV
 |[]=>[]
 |f::l=>.R (f.cells o)::Fm.lA o l
end
def Fm.A(o:Bool)(f:Fm):AV:=.R (f.cells o)
def Fm.zk(o:Bool):∀l,Fm.lA o l=l.map (Fm.A o)
 |[]=>by simp[Fm.lA]
 |f::l=>by rw[Fm.lA,Fm.zk o l];rfl
def gp(o:Bool)(l:Option (List Fm)):AV:=osl o (some 4) (l.map λl=>l.map (Fm.A o))
def Fm.j_(o:Bool)(f:Fm):f.cells o=[.i .u8 (Int.ofNat f.op),.s f.name,gG o f.fl,gp o f.e4]:=by
 obtain⟨op,n,a,s⟩:=f;cases s with
 |none=>rw[Fm.cells];rfl
 |some l=>rw[Fm.cells,Fm.zk];rfl
mutual
def Tm.IU(o:Bool):∀(t u:Tm),t.cells o=u.cells o->t=u
 | .mk v n none,.mk bR qe none,h=>by simp only[Tm.cells,rT,AV.b.injEq,AV.s.injEq] at h;rw[h.1,h.2.1]
 | .mk v n none,.mk bR qe (some l),h=>by simp[Tm.cells] at h
 | .mk v n (some l),.mk bR qe none,h=>by simp[Tm.cells] at h
 | .mk v n (some l),.mk bR qe (some cu),h=>by
  simp only[Tm.cells,rT,AV.b.injEq,AV.s.injEq,AV.a_.injEq,true_and,and_true] at h;rw[h.1,h.2.1,Tm.By o l cu h.2.2]
def Tm.By(o:Bool):∀(l m:List Tm),Tm.lA o l=Tm.lA o m->l=m
 |[],[],_=>rfl
 |[],_::_,h=>by simp[Tm.lA] at h
 |_::_,[],h=>by simp[Tm.lA] at h
 |a::l,b::m,h=>by
  simp only[Tm.lA,rT,AV.R.injEq] at h;rw[Tm.IU o a b h.1,Tm.By o l m h.2]
end
def XT{o:Bool}{a b:Option (List Tm)}(h:gG o a=gG o b):a=b:=by
 cases a with
 |none=>cases b with
  |none=>rfl
  |some m=>cases h
 |some l=>cases b with
  |none=>cases h
  |some m=>
   simp only[gG,osl,kD,AV.a_.injEq,true_and] at h;rw[<-Tm.zk,← Tm.zk] at h;rw[Tm.By o l m h]
mutual
def Fm.IU(o:Bool):∀(f g:Fm),f.cells o=g.cells o->f=g
 | .mk p n a none,.mk eQ qe cH none,h=>by simp only[Fm.cells,rT,AV.i.injEq,AV.s.injEq,true_and] at h;rw[oT h.1,h.2.1,XT h.2.2.1]
 | .mk p n a none,.mk eQ qe cH (some l),h=>by simp[Fm.cells] at h
 | .mk p n a (some l),.mk eQ qe cH none,h=>by simp[Fm.cells] at h
 | .mk p n a (some l),.mk eQ qe cH (some cu),h=>by
  simp only[Fm.cells,rT,AV.i.injEq,AV.s.injEq,AV.a_.injEq,true_and,and_true] at h;rw[oT h.1,h.2.1,XT h.2.2.1,Fm.By o l cu h.2.2.2]
def Fm.By(o:Bool):∀(l m:List Fm),Fm.lA o l=Fm.lA o m->l=m
 |[],[],_=>rfl
 |[],_::_,h=>by simp[Fm.lA] at h
 |_::_,[],h=>by simp[Fm.lA] at h
 |a::l,b::m,h=>by
  simp only[Fm.lA,rT,AV.R.injEq] at h;rw[Fm.IU o a b h.1,Fm.By o l m h.2]
end
def Fm.kP{o:Bool}{f g:Fm}(h:f.A o=g.A o):f=g:=Fm.IU o f g (by unfold Fm.A at h;injection h)
mutual
def Tm.dep:Tm->Nat
 | .mk _ _ none=>1
 | .mk _ _ (some l)=>Tm.gH l+1
def Tm.gH:List Tm->Nat
 |[]=>0
 |t::l=>max t.dep (Tm.gH l)
end
mutual
def Fm.dep:Fm->Nat
 | .mk _ _ a none=>Tm.gH (a.getD [])+1
 | .mk _ _ a (some l)=>max (Tm.gH (a.getD [])) (Fm.gH l)+1
def Fm.gH:List Fm->Nat
 |[]=>0
 |f::l=>max f.dep (Fm.gH l)
end
def Tm.xg:∀ {l:List Tm} {t:Tm},t∈l->t.dep<=Tm.gH l
 |[],_,h=>by simp at h
 |g::l,f,h=>by
  rw[Tm.gH];rcases dB.1 h with rfl|h
  ·omega
  ·have:=Tm.xg h;omega
def Fm.xg:∀ {l:List Fm} {t:Fm},t∈l->t.dep<=Fm.gH l
 |[],_,h=>by simp at h
 |g::l,f,h=>by
  rw[Fm.gH];rcases dB.1 h with rfl|h
  ·omega
  ·have:=Fm.xg h;omega
def Tm.qf(t:Tm):t.dep=Tm.gH t.args+1:=by
 obtain⟨v,n,a⟩:=t;cases a with
 |none=>rw[Tm.dep];simp[Tm.args,Tm.fl,Tm.gH]
 |some l=>rw[Tm.dep];rfl
def Fm.qf(f:Fm):f.dep=max (Tm.gH f.args) (Fm.gH f.sub)+1:=by
 obtain⟨op,n,a,s⟩:=f;cases s with
 |none=>rw[Fm.dep];simp[Fm.args,Fm.fl,Fm.sub,Fm.e4,Fm.gH]
 |some l=>rw[Fm.dep];rfl
def Tm.O0{t u:Tm}(h:u∈t.args):u.dep<t.dep:=by have:=Tm.xg h;rw[Tm.qf t];omega
def Fm.O0{f:Fm}{u:Tm}(h:u∈f.args):u.dep<f.dep:=by have:=Tm.xg h;rw[Fm.qf f];omega
def Fm.XU{f g:Fm}(h:g∈f.sub):g.dep<f.dep:=by have:=Fm.xg h;rw[Fm.qf f];omega
variable [Tok][TokOk]
def O1{α:Type}{J:ae}{k:Nat}{o:Bool}{aa:Option Nat}{l:Option (List α)}{g tQ:α->AV}(h:∀x∈l.getD [],bM J k (g x)=some (tQ x)):bM J (k+1) (osl o aa (l.map λl=>l.map g))=some (osl true aa (l.map λl=>l.map tQ)):=by
 cases l with
 |none=>rfl
 |some l=>
  show(match mapO (bM J k) (l.map g) with|none=>none|some xs=>some (AV.a_ true aa xs))=_;rw[XL (l:=l) (h:=tQ) λx hx=>h x hx];rfl
def ox{J:ae}{k:Nat}{l cu:List AV}(h:mapO (bM J k) l=some cu):bM J (k+1) (.R l)=some (.R cu):=by
 show(match mapO (bM J k) l with|none=>none|some l=>some (AV.R l))=_;rw[h]
def Tm.snap(J:ae)(o:Bool):∀(d:Nat) (t:Tm) (k:Nat),t.dep<=d->2*d+1<=k->bM J k (t.A o)=some (t.A true)
 |0,t,k,h,_=>by rw[Tm.qf] at h;omega
 |d+1,t,k,h,ay=>by
  obtain⟨k,rfl⟩:∃j,k=j+3:=⟨k-3,U⟩
  unfold Tm.A;rw[Tm.j_,Tm.j_];refine ox ?_;have e:bM J (k+2) (gG o t.fl)=some (gG true t.fl):=O1 (k:=k+1) λx hx=>Tm.snap J o d x (k+1) (by have:=Tm.O0 (t:=t) hx;omega) U;rw[qd,qd,qd,e];rfl
def Fm.snap(J:ae)(o:Bool):∀(d:Nat) (f:Fm) (k:Nat),f.dep<=d->2*d+1<=k->bM J k (f.A o)=some (f.A true)
 |0,f,k,h,_=>by rw[Fm.qf] at h;omega
 |d+1,f,k,h,ay=>by
  obtain⟨k,rfl⟩:∃j,k=j+3:=⟨k-3,U⟩
  unfold Fm.A;rw[Fm.j_,Fm.j_];refine ox ?_;have aL:bM J (k+2) (gG o f.fl)=some (gG true f.fl):=O1 (k:=k+1) λx hx=>Tm.snap J o d x (k+1) (by have:=Fm.O0 (f:=f) hx;omega) U;have a5:bM J (k+2) (gp o f.e4)=some (gp true f.e4):=O1 (k:=k+1) λx hx=>Fm.snap J o d x (k+1) (by have:=Fm.XU (f:=f) hx;omega) U;rw[qd,qd,qd,qd,aL,a5];rfl
def XV{α:Type}{J:ae}{o:Bool}{aa:Option Nat}{l:Option (List α)}{g:α->AV}:lenA J 1 (osl o aa (l.map λl=>l.map g))=some (l.getD []).length:=by
 cases l with
 |none=>rfl
 |some l=>show some (l.map g).length=_;rw[uV];rfl
def b5t{α:Type}{o:Bool}{aa:Option Nat}{l:Option (List α)}{g:α->AV}{i:Nat}(h:i<(l.getD []).length):idxSlA aa (osl o aa (l.map λl=>l.map g)) i=some (.dh o (g ((l.getD [])[i]))):=by
 cases l with
 |none=>simp at h
 |some l=>
  refine XH ?_;have h:i<l.length:=h;rw[IP (by simpa using h),mQ];rfl
def Fm.len(o:Bool)(f:Fm):(f.cells o).length=4:=by rw[Fm.j_];rfl
def Fm.conf(o:Bool)(f:Fm):conf (some 4) (f.A o)=true:=by unfold Fm.A;rw[Fm.j_];rfl
def Fm.aA(o:Bool)(f:Fm):dV (some 4) ((f.cells o).drop 0)=some (f.A o):=by unfold Fm.A;rw[Fm.j_];rfl
def Fm.re(o:Bool)(f:Fm):dV none ((f.cells o).drop 0)=some (.i .u8 (Int.ofNat f.op)):=by rw[Fm.j_];rfl
def Fm.b5u(o:Bool)(f:Fm):dV none ((f.cells o).drop 1)=some (.s f.name):=by rw[Fm.j_];rfl
def Fm.XW(o:Bool)(f:Fm):dV none ((f.cells o).drop 2)=some (gG o f.fl):=by rw[Fm.j_];rfl
def Fm.b5v(o:Bool)(f:Fm):dV none ((f.cells o).drop 3)=some (gp o f.e4):=by rw[Fm.j_];rfl
def b5w{J:ae}{o:Bool}{l:Option (List Tm)}:lenA J 1 (gG o l)=some (l.getD []).length:=XV
def b5x{J:ae}{o:Bool}{l:Option (List Fm)}:lenA J 1 (gp o l)=some (l.getD []).length:=XV
def b5y{o:Bool}{l:Option (List Fm)}{i:Nat}(h:i<(l.getD []).length):idxSlA (some 4) (gp o l) i=some (.dh o (((l.getD [])[i]).A o)):=b5t h
mutual
def Fm.parts:Fm->List Fm
 | .mk op n a none=>[.mk op n a none]
 | .mk op n a (some l)=>.mk op n a (some l)::Fm.sB l
def Fm.sB:List Fm->List Fm
 |[]=>[]
 |f::l=>f.parts++Fm.sB l
end
def Fm.parts_eq(f:Fm):f.parts=f::Fm.sB f.sub:=by
 obtain⟨op,n,a,s⟩:=f;cases s with
 |none=>rw[Fm.parts];simp[Fm.sub,Fm.e4,Fm.sB]
 |some l=>rw[Fm.parts];rfl
inductive Tm.jC:Tm->Prop
 |mk {v:Bool} {n:List Nat} {a:Option (List Tm)} (hl:(a.getD []).length<2^62) (h:∀x∈a.getD [],Tm.jC x):Tm.jC (.mk v n a)
inductive Fm.jC:Fm->Prop
 |mk {op:Nat} {n:List Nat} {a:Option (List Tm)} {s:Option (List Fm)} (k5:(a.getD []).length<2^62) (ha:∀x∈a.getD [],Tm.jC x) (hl:(s.getD []).length<2^62) (h:∀x∈s.getD [],Fm.jC x):Fm.jC (.mk op n a s)
def Fm.jC.b5z{t:Fm}(h:t.jC):t.sub.length<2^62:=by cases h with|mk _ _ hl _=>exact hl
def Fm.jC.sb{t:Fm}(h:t.jC):∀x∈t.sub,x.jC:=by cases h with|mk _ _ _ h=>exact h
end
section
variable [Tok][TokOk]
open Go Go.RowKit Go.ChangeShapes Go.WideShapes
def b5A{H:Type}{enc:TypeId×Value->H}{P:Program}{f:Func}{s:ChangeSpec}{apart fresh handsOn:Bool}{W W':World}{args:Array Value}{ds:List (DataW H)}{Ey:TypeId}{aC yB:List MemPlace}
  (hf:f.resultTypes= #[Ey]) (hb:P.underlying Ey=some .bool) (au:s.vars=[]) (hfn:s.fn H ds={results:=[.lit (.bool true)],args:=ds})
  (hW:DataW.Whole enc P f.params.toList s.vars apart W args.toList ds [] aC) (p5:DataW.TrodAll enc P W' 0 (λb=>decide (b<W.heap.size)) true f.params.toList args.toList ds yB)
  (ay:∀b,b<W.heap.size->W'.heap[b]? =W.heap[b]?) (mo:W'.os=W.os) (lX:W'.output=W.output):s.post enc P f apart fresh handsOn false W args (.bool true) W':=by
 refine⟨ds,[],aC,[],yB,[],hW,?_,?_,?_,b5b ay mo lX,λh=>by cases h⟩
 ·rw[iL,hfn,hf];exact trodAll_mk1 (shut_bool hb _)
 ·rw[iL,hfn];exact p5
 ·rw[iL,hfn,au];rfl
def calls_trueS{H:Type}{enc:TypeId×Value->H}{P:Program}{env:Env}{f:Func}{s:ChangeSpec}{apart fresh handsOn:Bool}{W:World}{args:Array Value}{ds:List (DataW H)}{Ey:TypeId}{g:Nat}{aQ:List AV}{aC yB:List MemPlace}
  (cQ:∀bz,SpecEntry P env bz g aQ (.b true)) (cW:Globs env W W.heap.size) (ha:bQ W (λ_=>none) (λ_=>False) W.heap.size aQ args.toList)
  (hf:f.resultTypes= #[Ey]) (hb:P.underlying Ey=some .bool) (au:s.vars=[]) (hfn:s.fn H ds={results:=[.lit (.bool true)],args:=ds})
  (hW:DataW.Whole enc P f.params.toList s.vars apart W args.toList ds [] aC) (p5:∀W':World,Below W.heap.size W W'->DataW.TrodAll enc P W' 0 (λb=>decide (b<W.heap.size)) true f.params.toList args.toList ds yB):
  Calls P g args W λe W'=>∃v,e= .returned v/\s.post enc P f apart fresh handsOn false W args v W':=by
 refine((cQ W.heap.size).calls (bs _) cW ha).mono λe W' ⟨u,he,hR,cz,ay,mo,pQ,lX⟩=>?_;cases hR;exact⟨_,he,b5A hf hb au hfn hW (p5 W' ⟨mo,pQ,lX,cz,ay⟩) ay mo lX⟩
def bytes_R{H:Type}{enc:TypeId×Value->H}{P:Program}{W:World}{t e:TypeId}{v:Value}{d:DataW H}{aC:List MemPlace}{Wt:Nat}(ht:P.underlying t=some (.slice e))(he:P.underlying e=some (.int .u8))(ab:P.cellsOf e=1)
  (hval:Value.okWide P W .any Wt t v) (hd:DataW.Trod enc P W 0 (λ_=>true) true t v d aC):
  ∃o:Option (List Nat),ag W (λ_=>none) (λ_=>False) W.heap.size (osl true none (o.map λl=>l.map λc=>AV.i .u8 (Int.ofNat c))) v/\(∀c∈o.getD [],c<256)/\(o=none\/∃es sp,d= .slice es sp/\(o.getD []).length=es.length):=by
 obtain⟨a,len,cap,rfl⟩:=okWide_slice ht hval;obtain⟨fuel,hf⟩:=hd;rcases open_ints ht he ab hf with⟨h0,_⟩|⟨cH,b5B,gl,e2,h0,_,hl,hm,a6,hx,yM,zg⟩
 ·have h0:[Value.slice a len cap]=[.slice none 0 0]:=h0;injection h0 with h0 _
  rw[h0];exact⟨none,.af,aF,.inl I⟩
 ·have h0:[Value.slice a len cap]=[.slice (some cH) b5B gl]:=h0;injection h0 with h0 _
  injection h0 with h1 h2 h3
  subst h1 h2 h3;have hval:cH.spot=none/\∃row cells,W.shape? cH.block=some (row,cells):=by
   have au:=hval;simp only[Value.okWide,ht,Cell.okWide,Cell.ok] at au;obtain⟨_,_,_,h,row,cells,h2,_⟩:=au;exact⟨h,row,cells,h2⟩
  obtain⟨fy,row,cells,O2⟩:=hval;obtain⟨aD,off,sp⟩:=cH;have fy:sp=none:=fy;subst fy;have ny:e2.length=cap:=by simpa using a6
  have hb:∀i,i<e2.length->0<=e2.getD i 0/\e2.getD i 0<=255:=λi hi=>by
   have hm:e2.getD i 0∈e2:=by
    rw[yT,fw hi];exact gC hi
   exact bounds_u8 (zg _ hm)
  refine⟨some ((e2.take len).map Int.toNat),?_,λc ab=>?_,.inr ⟨_,_,congrArg Prod.fst hx,by simp[lits]⟩⟩
  ·have e:osl true none ((some ((e2.take len).map Int.toNat)).map λl=>l.map λc=>AV.i .u8 (Int.ofNat c))= .a_ true none (((e2.take len).map Int.toNat).map λc=>AV.i .u8 (Int.ofNat c)):=rfl;rw[e];have hlen:(((e2.take len).map Int.toNat).map λc=>AV.i .u8 (Int.ofNat c)).length=len:=by simp;omega
   have hZ:∀i (h:i<(((e2.take len).map Int.toNat).map λc=>AV.i .u8 (Int.ofNat c)).length),(((e2.take len).map Int.toNat).map λc=>AV.i .u8 (Int.ofNat c))[i]= .i .u8 (e2.getD i 0):=λi h=>by
    rw[hlen] at h;have:=(hb i U).1;simp only[mQ,MH]
    congr 1
    rw[yT,fw U] at this ⊢;show((e2[i].toNat:Nat):Int)=e2[i];exact Int.toNat_of_nonneg this
   have key:=ag.a_ (w:=W) (m:=λ_=>none) (O:=λ_=>False) (B:=W.heap.size) (old:=true) (aa:=none) (xs:=((e2.take len).map Int.toNat).map λc=>AV.i .u8 (Int.ofNat c)) (aD:=aD) (off:=off) (gl:=cap) (λi _=>.int .u8 (e2.getD i 0))
    (λ_=>⟨λh=>h,?_,λh=>by cases h⟩) (λi h=>by rw[hZ i h];rfl) (λi h j ax=>?_) (λi h j ax=>?_) (by rw[hlen];exact hl) (λv au x hx=>?_) (λ_=>rfl)
   ·rwa[hlen] at key
   ·unfold World.shape? at O2;cases hh:W.heap[aD]? with
    |none=>rw[hh] at O2;cases O2
    |some o=>exact(ME.1 hh).1
   ·rw[hlen] at h;rw[hZ i (by rw[hlen];exact h)] at ax;have ax:j<1:=ax;obtain rfl:j=0:=by omega
    have:=yM i U;rw[add_plain] at this;show W.cell? ⟨aD,off+i*1+0,none⟩=_;rw[IH,g5];exact this
   ·have hg:=hZ i h;generalize(((e2.take len).map Int.toNat).map λc=>AV.i .u8 (Int.ofNat c))[i]=y at hg ax ⊢;subst hg;have fA:j<1:=ax;obtain rfl:j=0:=by omega
    exact .i _ _
   ·obtain⟨c,_,rfl⟩:=ti.1 au;have hx:x∈[AV.i .u8 (Int.ofNat c)]:=hx;rw[uT.1 hx];rfl
  ·have ab:c∈(e2.take len).map Int.toNat:=ab;obtain⟨z,a6,rfl⟩:=ti.1 ab;have:=bounds_u8 (zg z (uU a6));omega
end
section
variable [Tok][TokOk]
open Go.RowKit
def bE.mono{env:Env}{floor:Nat}{ct:AV}{args:List AV}{J:ae}{Q ot:en->ae->Prop}(h:bE env floor ct args J Q)(aV:∀r ai,Q r ai->ot r ai):bE env floor ct args J ot:=dx.mono h λ_ ho=>aV _ _ ho
def dQ(env:Env)(D mD:List (Nat ⊕ (AV×List AV)))(n:Nat)(c:bF)(f:Nat->AV)(J:ae)(Q:dZ):Prop:=∀ad,iM D n f ad->gv env 0 none c ad J (Bx mD n Q)
section
variable {env:Env}{D mD Wp:List (Nat ⊕ (AV×List AV))}{n:Nat}{f:Nat->AV}{J:ae}{Q:dZ}
def dQ.l6{a b:bF}(h:bL env none D n a f J (λx f J=>x= .normal/\dQ env D mD n b f J Q)):dQ env D mD n (.seq a b) f J Q:=λad bH=>gv.seq ((h ad bH).mono λx ad J ⟨f,h1,h2,h3⟩=>by subst h2;exact h3 ad h1)
def dQ.Bz{a b:bF}(h:dQ env D mD n a f J (λx f J=>x= .normal/\bL env none mD n b f J Q)):dQ env D mD n (.seq a b) f J Q:=λad bH=>gv.seq ((h ad bH).mono λx ad J ⟨f,h1,h2,h3⟩=>by subst h2;exact h3 ad h1)
def dQ.block{a:bF}{id:Nat}(h:dQ env D mD n a f J (λx f J=>x= .normal/\Q .normal f J)):dQ env D mD n (.block id a) f J Q:=λad bH=>gv.block ((h ad bH).mono λx ad J ⟨f,h1,h2,h3⟩=>by subst h2;exact⟨f,h1,h3⟩)
def dQ.range{pd:aJ}{aC:List Nat}{as b:bF}{g:Nat}{first cap:List AV}(hf:dJ env n f pd=some (.f (.func g) first cap))(he:env.ext g=0)
  (h:∀al,(∀i,al.get i=if i<n then some (f i) else none)->bE env 0 (.f (.func g) first cap) [.f (.yield (J.next+1)) [] []] ((J.push .eE).push (.loop .ready none al aC as b J.next))
   (λr hX=>∃v st,r= .ok v/\hX.get (J.next+1)=some (.loop st none al aC as b J.next)/\st≠ .busy/\Q .normal f (hX.set (J.next+1) (.loop .exhausted none al aC as b J.next)))):
  dQ env D (.inl J.next::D) n (.rangeFunc pd aC as b) f J Q:=λad bH=>by
 have h':=h ad.bj bH.get;refine dx.succ (dx.then (g:=λx F=>rangeK (exec env F) 0 none ad (.inl J.next::ad.defers) (J.next+1) x) h' λo ho=>?_) λF=>?_
 ·obtain⟨r,hX⟩:=o;obtain⟨v,st,h1,h2,h3,aO⟩:=ho;have h1:r= .ok v:=h1;subst h1;have h2:hX.get (J.next+1)=some (.loop st none ad.bj aC as b J.next):=h2;refine dx.one (x:=(.normal,⟨ad.bj,.inl J.next::ad.defers,ad.gg⟩,hX.set (J.next+1) (.loop .exhausted none ad.bj aC as b J.next))) (λF=>?_) ⟨f,⟨bH.get,by show _::ad.defers=_;rw[bH.ds],bH.rc⟩,aO⟩;show(match hX.get (J.next+1) with
   |some (.loop st mn u4 nv iz fR jt)=>(match st with
    | .busy=>none
    |_=>match mn with
     |none=>some [(fZ.normal,(⟨ad.bj,.inl J.next::ad.defers,ad.gg⟩:Fr),hX.set (J.next+1) (.loop .exhausted mn u4 nv iz fR jt))]
     |some c=>exec env F 0 none c ⟨ad.bj,.inl J.next::ad.defers,ad.gg⟩ (hX.set (J.next+1) (.loop .exhausted mn u4 nv iz fR jt)))
   |_=>none)=_
  rw[h2];cases st with
  |busy=>exact absurd I h3
  |_=>rfl
 ·rw[og];show(if Nat.blt J.next 0 then none else
   match evalA env ad.bj pd with
   |some (.f (.func g) first cap)=>
    match Db none ad J with
    |none=>none
    |some (d,b8,ds)=>
     match env.ext g with
     |0=>hT (callF env (exec env F) 0 g (first++AV.f (.yield b8.next) [] []::cap) (b8.push (.loop .ready none ad.bj aC as b d))) (rangeK (exec env F) 0 none ad ds b8.next)
     |_=>none
   |_=>none)=_
  rw[if_neg (by simp[Nat.blt,Nat.ble]),bH.ar,hf];show(match env.ext g with
     |0=>hT (callF env (exec env F) 0 g (first++AV.f (.yield (J.next+1)) [] []::cap) ((J.push .eE).push (.loop .ready none ad.bj aC as b J.next))) (rangeK (exec env F) 0 none ad (.inl J.next::ad.defers) (J.next+1))
     |_=>none)=_
  rw[he];show hT (callF env (exec env F) 0 g (first++AV.f (.yield (J.next+1)) [] []::cap) _) _=hT (callF env (exec env F) 0 g (first++[AV.f (.yield (J.next+1)) [] []]++cap) _) _;rw[iE];rfl
end
def IV:List Nat->List AV->(Nat->AV)->Nat->AV
 |p::aC,a::as,f=>IV aC as (dd f p a)
 |_,_,f=>f
def XX{n:Nat}:∀ {aC:List Nat} {args:List AV} {f:Nat->AV} {al:a1 AV},cD (λp=>Nat.blt p n) aC=true->(∀i,al.get i=if i<n then some (f i) else none)->iM [] n (IV aC args f) ⟨layAll aC args al,[],false⟩
 |[],_,f,al,_,h=>⟨h,rfl,rfl⟩
 |p::aC,[],f,al,_,h=>⟨h,rfl,rfl⟩
 |p::aC,a::args,f,al,aw,h=>by
  have sn:Nat.blt p n=true:=by
   have aw:cond (Nat.blt p n) (cD (λp=>Nat.blt p n) aC) false=true:=aw;cases hb:Nat.blt p n with
   |true=>rfl
   |false=>rw[hb] at aw;cases aw
  have l4:cD (λp=>Nat.blt p n) aC=true:=by
   have aw:cond (Nat.blt p n) (cD (λp=>Nat.blt p n) aC) false=true:=aw;rw[sn] at aw;exact aw
  have h0:iM [] n f ⟨al,[],false⟩:=⟨h,rfl,rfl⟩
  exact XX (f:=dd f p a) (al:=al.set p a) l4 (h0.put a sn).get
def bE.round{env:Env}{l n:Nat}{f:Nat->AV}{J:ae}{al:a1 AV}{aC:List Nat}{as b:bF}{d:Nat}{args:List AV}{ag:ae->Prop}(hl:J.get l=some (.loop .ready none al aC as b d))(hc:∀i,al.get i=if i<n then some (f i) else none)(kq:cD (λp=>Nat.blt p n) aC=true)(hlen:Nat.beq aC.length args.length=true)
  (h:bL env (some l) [] n as (IV aC args f) J (λx f1 b8=>x= .normal/\b8.get l=some (.loop .ready none al aC as b d)∧
   bL env (some l) [] n b f1 (b8.set l (.loop .busy none al aC as b d)) (λx _ cT=>x= .normal/\cT.get l=some (.loop .busy none al aC as b d)/\ag (cT.set l (.loop .ready none al aC as b d))))):
  bE env 0 (.f (.yield l) [] []) args J (λr ai=>r= .ok (.b true)/\ag ai):=by
 have h1:=h _ (XX (args:=args) kq hc);refine dx.congr (dx.then (g:=λx F=>roundMid (exec env F) 0 l b x) h1 λo ho=>?_) λF=>?_
 ·obtain⟨x,ej,b8⟩:=o;obtain⟨f1,O3,hx,jM,h2⟩:=ho;have hx:x= .normal:=hx;subst hx;have jM:b8.get l=some (.loop .ready none al aC as b d):=jM;refine dx.congr (dx.then (g:=λx _=>roundEnd l x) (h2 ej O3) λo ho=>?_) λF=>?_
  ·obtain⟨x,xh,cT⟩:=o;obtain⟨f2,_,hx,pb,hR⟩:=ho;have hx:x= .normal:=hx;subst hx;have pb:cT.get l=some (.loop .busy none al aC as b d):=pb;refine dx.one (x:=(.ok (.b true),cT.set l (.loop .ready none al aC as b d))) (λ_=>?_) ⟨rfl,hR⟩;show(endRound cT l none).map (λx=>[x])=_;unfold endRound;rw[pb];rfl
  ·show(match b8.get l with
    |some (.loop .ready mn u4 nv iz fR jt)=>hT (exec env F 0 (some l) b ej (b8.set l (.loop .busy mn u4 nv iz fR jt))) (roundEnd l)
    |_=>none)=_
   rw[jM]
 ·show(if Nat.blt l 0 then none else
   match J.get l with
   |some (.loop .ready _ al aC as b _)=>cond (Nat.beq aC.length args.length) (hT (exec env F 0 (some l) as ⟨layAll aC args al,[],false⟩ J) (roundMid (exec env F) 0 l b)) none
   |_=>none)=_
  rw[if_neg (by simp[Nat.blt,Nat.ble]),hl];show cond (Nat.beq aC.length args.length) _ none=_;rw[hlen,cond_true]
section
variable {env:Env}{aR:Option Nat}{D:List (Nat ⊕ (AV×List AV))}{n:Nat}{f:Nat->AV}{J:ae}{Q:dZ}
def aK.jh{d:Nat}{op:AOp}{g:Option (Nat×Bool)}{wn:List Nat}{ops:List a4}{ct:AV}{args:List AV}{ag:en->ae->Prop}(hd:Nat.blt d n=true)(hw:gV g n f=true)(ho:opx 0 (dJ env n f) J op=some (.call ct args))(ab:bE env 0 ct args J ag)
  (h:∀r ai,ag r ai->∃v,r= .ok v/\dC env aR D n ops (dd f d v) ai Q):dC env aR D n (⟨some d,op,g,wn⟩::ops) f J Q:=λad bH=>
 kp.call (by rw[bH.wanted];exact hw) (by rw[bH.ar];exact ho) (ab.mono λr ai aq=>by
  obtain⟨v,rfl,au⟩:=h r ai aq;exact au _ (bH.put v hd))
def bE.code{fn:Nat}{b3:aN}{body:bF}{dw:Nat}{first cap args:List AV}{ag:en->ae->Prop}(he:env.ext fn=0)(aw:env.pure fn=false)(hf:env.funcs fn=some b3)(hb:b3.body=some body)
  (hn:(Nat.beq (first++args++cap).length b3.j0&&Nat.ble (first++args++cap).length b3.ntmps)=true) (df:b3.results=[(dw,none)]) (mH:Nat.blt dw b3.ntmps=true)
  (h:ak env b3.ntmps body (fv (first++args++cap)) J (λx b_ ai=>x= .ret/\ag (.ok (b_ dw)) ai)):bE env 0 (.f (.func fn) first cap) args J ag:=by
 have hle:(first++args++cap).length<=b3.ntmps:=by
  simp only[C2] at hn;exact pL hn.2
 refine bE.run he aw hf hb hn ((h _ (vy hle)).mono λx bd ai ⟨b_,h1,h2,h3⟩=>?_);subst h2;exact⟨.ok (b_ dw),ai,XJ h1 df mH,h3⟩
def bE.pe{fn:Nat}{b3:aN}{body:bF}{first cap args:List AV}{ag:en->ae->Prop}(he:env.ext fn=0)(aw:env.pure fn=false)(hf:env.funcs fn=some b3)(hb:b3.body=some body)
  (hn:(Nat.beq (first++args++cap).length b3.j0&&Nat.ble (first++args++cap).length b3.ntmps)=true) (df:b3.results=[])
  (h:ak env b3.ntmps body (fv (first++args++cap)) J (λx _ ai=>(x= .ret\/x= .normal)/\ag (.ok (.a0 [])) ai)):bE env 0 (.f (.func fn) first cap) args J ag:=by
 have hle:(first++args++cap).length<=b3.ntmps:=by
  simp only[C2] at hn;exact pL hn.2
 refine bE.run he aw hf hb hn ((h _ (vy hle)).mono λx bd ai ⟨b_,h1,h2,h3⟩=>?_);refine⟨.ok (.a0 []),ai,?_,h3⟩;have e:endF env 0 b3 (.ret,bd,ai)=some [(.ok (.a0 []),ai)]:=by
  show(match leave 0 (callD env 0) bd.defers none ai with
   |none=>none
   |some (some v,J)=>some [(en.err v,J)]
   |some (none,J)=>match resultsOf J bd.bj b3.results with
    |some v=>some [(.ok v,J)]
    |none=>none)=_
  rw[h1.ds,df];rfl
 rcases h2 with rfl|rfl
 ·exact e
 ·exact e
end
def XY{env:Env}{fn:aN}{n d dw:Nat}{f:Nat->AV}{ad:Fr}{J:ae}(h1:iM [.inl d] n f ad)(hm:J.get d=some .eE)(df:fn.results=[(dw,none)])(hd:Nat.blt dw n=true):endF env 0 fn (.ret,ad,J)=some [(.ok (f dw),J.set d .dead)]:=by
 show(match leave 0 (callD env 0) ad.defers none J with
  |none=>none
  |some (some v,J)=>some [(en.err v,J)]
  |some (none,J)=>match resultsOf J ad.bj fn.results with
   |some v=>some [(.ok v,J)]
   |none=>none)=_
 have hl:leave 0 (callD env 0) ad.defers none J=some (none,J.set d .dead):=by
  rw[h1.ds];show(if Nat.blt d 0 then none else match J.get d with
   |some .eE=>some (none,J.set d .dead)
   |_=>none)=_
  rw[if_neg (by simp[Nat.blt,Nat.ble]),hm]
 rw[hl];show(match resultsOf (J.set d .dead) ad.bj fn.results with|some v=>some [(en.ok v,J.set d .dead)]|none=>none)=_;rw[df];have hg:=h1.get dw;have OU:dw<n:=pL hd;rw[if_pos OU] at hg;have aL:resultOf (J.set d .dead) ad.bj (dw,none)=some (f dw):=by
  unfold resultOf;rw[hg]
 have:resultsOf (J.set d .dead) ad.bj [(dw,none)]=some (f dw):=by
  unfold resultsOf;have e:mapO (resultOf (J.set d .dead) ad.bj) [(dw,none)]=some [f dw]:=by
   unfold mapO;simp only[aL]
  rw[e]
 rw[this]
def bE.O4{env:Env}{J:ae}{fn:Nat}{b3:aN}{body:bF}{dw d:Nat}{first cap args:List AV}{ag:en->ae->Prop}(he:env.ext fn=0)(aw:env.pure fn=false)(hf:env.funcs fn=some b3)(hb:b3.body=some body)
  (hn:(Nat.beq (first++args++cap).length b3.j0&&Nat.ble (first++args++cap).length b3.ntmps)=true) (df:b3.results=[(dw,none)]) (mH:Nat.blt dw b3.ntmps=true)
  (h:dQ env [] [.inl d] b3.ntmps body (fv (first++args++cap)) J (λx b_ ai=>x= .ret/\ai.get d=some .eE/\ag (.ok (b_ dw)) (ai.set d .dead))):bE env 0 (.f (.func fn) first cap) args J ag:=by
 have hle:(first++args++cap).length<=b3.ntmps:=by
  simp only[C2] at hn;exact pL hn.2
 refine bE.run he aw hf hb hn ((h _ (vy hle)).mono λx bd ai ⟨b_,h1,h2,h3,aO⟩=>?_);subst h2;exact⟨.ok (b_ dw),_,XY h1 h3 df mH,aO⟩
def XZ{P:Program}{b:bT}{K:Nat->List AV->AV->Prop}(hb:jR P b)(c0:tV P b K){g:Nat}{fn:aN}{body:bF}{aQ:List AV}{dw d:Nat}(r:AV)(hf:b.funcs.get g=some fn)(iU:fn.body=some body)
  (hn:(Nat.beq aQ.length fn.j0&&Nat.ble aQ.length fn.ntmps)=true) (df:fn.results=[(dw,none)]) (hd:Nat.blt dw fn.ntmps=true) {ad:Nat} (aq:fk ad r=true) (iT:AV.eqb 1000 r r=true)
  (h:dQ (b.aM K) [] [.inl d] fn.ntmps body (fv aQ) ⟨.nil,0⟩ (λx f ai=>x= .ret/\ai.get d=some .eE/\freeze (ai.set d .dead) 0 1000 (f dw)=some r)) (bz:Nat):SpecEntry P (b.env []) bz g aQ r:=by
 have hle:aQ.length<=fn.ntmps:=by
  simp only[C2] at hn;exact pL hn.2
 refine IJ (env:=b.aM K) (m:=1000) (IF _ _) ⟨λg b3 hg=>m6.zh hb.funcs g b3 hg⟩ (λbz g aQ r ao=>c0 g aQ r (IL ao) bz) hb.ext hb.Bu hf iU hn aq ((h _ (vy hle)).mono λx ad ai ⟨f,h1,h2,h3,aO⟩=>?_) iT bz;subst h2;exact⟨.ok (f dw),_,XY h1 h3 df hd,_,rfl,aO⟩
def b5C{J ai:ae}(ay:∀i c,J.get i=some (.cells c)->ai.get i=some (.cells c)){v:AV}{l:List AV}(h:readList J v=some l):readList ai v=some l:=by
 cases v with
 |al id off len aa cap=>
  have h:(match J.get id with|some (.cells c)=>elems aa len (c.drop off)|_=>none)=some l:=h;show(match ai.get id with|some (.cells c)=>elems aa len (c.drop off)|_=>none)=some l;cases hg:J.get id with
  |none=>rw[hg] at h;cases h
  |some o=>
   cases o with
   |cells c=>rw[hg] at h;rw[ay id c hg];exact h
   |_=>rw[hg] at h;cases h
 |af=>exact h
 |a_ o aa xs=>exact h
 |_=>cases h
def zl{J:ae}{n:Nat}{xs:List AV}{w:AV}(h:bM J (n+1) (.R xs)=some w):∃e2,mapO (bM J n) xs=some e2/\w= .R e2:=by
 rw[snapshot_succ] at h;simp only[] at h;cases hm:mapO (bM J n) xs with
 |none=>rw[hm] at h;cases h
 |some e2=>rw[hm] at h;cases h;exact⟨e2,rfl,rfl⟩
def vB{k:IntKind}{a c:Nat}(ab:c≠0):binop .rem (.i k (Int.ofNat a)) (.i k (Int.ofNat c))=some (.i k (Int.ofNat (a%c))):=by
 show(if k=k then binI .rem k (Int.ofNat a) (Int.ofNat c) else none)=_;rw[if_pos I];show(if Int.ofNat c=0 then none else some (AV.i k ((Int.ofNat a).tmod (Int.ofNat c))))=_;rw[if_neg (by simpa using ab)];rfl
def calm:AOp->Bool
 | .call _ _=>false
 | .lv _ _=>false
 | .tq _=>false
 | .len 0 _=>false
 |_=>true
def BA:Option bZ->Prop
 |none=>True
 |some (.val _ _)=>True
 |some (.panic _)=>True
 |_=>False
def b5D{c:Bool}{a b:Option bZ}(ha:BA a)(hb:BA b):BA (cond c a b):=by cases c<;>assumption
def b5E{k:Nat}{x:aJ}{v:AV}{J:ae}(h:calm (.len k x)=true):BA (lenU J k v):=by
 cases k with
 |zero=>cases h
 |succ k=>exact trivial
set_option maxHeartbeats 0 in
def IW{floor:Nat}{ar:aJ->Option AV}{J:ae}:∀ {op:AOp},calm op=true->BA (opx floor ar J op):=by
 intro op h;cases op<;>first
  |(cases h;done)
  |(simp only[opx];repeat' split)<;>(first|trivial|exact b5E h|exact b5D trivial trivial|(simp_all [BA];done))
def ji{α:Type}:Option (List α)->Prop
 |none=>True
 |some l=>∃x,l=[x]
def ji.hT{α β:Type}{r:Option (List α)}{f:α->Option (List β)}(h:ji r)(hf:∀x,ji (f x)):ji (Go.Lyc.hT r f):=by
 cases r with
 |none=>trivial
 |some l=>obtain⟨x,rfl⟩:=h;exact hf x
def IX(env:Env)(gs:List Nat):Prop:=∀g∈gs,∀F args J,ji (callV env (exec env F) 0 (.f (.func g) [] []) args J)
def IX.nil{env:Env}:IX env []:=λ_ h=>absurd h aF
def sC(gs:List Nat)(g:Nat):Bool:=gs.any λx=>Nat.beq x g
def BB{g:Nat}{gs:List Nat}(h:sC gs g=true):g∈gs:=by
 obtain⟨x,h1,h2⟩:=NP.1 h;rw[<-gb h2];exact h1
def Ez(gs:List Nat)(o:a4):Bool:=
 (match o.kj with|[]=>true|_::_=>false)&&(match o.op with
  | .call (.fn g) _=>sC gs g
  |op=>calm op)
def b5F{gs:List Nat}{o:a4}(h:Ez gs o=true):o.kj=[]/\((∃g as,o.op= .call (.fn g) as/\g∈gs)\/calm o.op=true):=by
 obtain⟨d,op,zm,w⟩:=o;cases w with
 |cons a l=>cases h
 |nil=>
  refine⟨rfl,?_⟩;cases op with
  |call c as=>cases c with
   |fn g=>exact .inl ⟨g,as,rfl,BB h⟩
   |val x=>cases h
  |_=>exact .inr h
abbrev O5(J τ:ae):Prop:=∀i o,J.get i=some o->τ.get i=some o
def O6{env:Env}{gs:List Nat}(hg:IX env gs){F:Nat}{dX:Bool}:∀ {ops:List a4},cD (Ez gs) ops=true->∀ {ad:Fr} {J:ae} {outs:nu},runOps env 0 (callV env (exec env F) 0) dX ops ad J=some outs->(∀o∈outs,o.1= .normal)->outs≠[]→
  ∃bd fj ai,outs=[(.normal,bd,ai)]/\fj.length=ops.length/\(∃t,(ai::fj).reverse=J::t)/\∀cN ws,jv env 0 (callV env (exec env F) 0) ops ad cN ws J=some (bd,fj++cN,ws,ai)
 |[],_,ad,J,outs,h,_,_=>by
  cases h;exact⟨ad,[],J,rfl,rfl,⟨[],rfl⟩,λ_ _=>rfl⟩
 |o::ops,ao,ad,J,outs,h,hn,a7=>by
  have h1:Ez gs o=true:=lJ ao o aF;have h2:cD (Ez gs) ops=true:=ig λx hx=>lJ ao x (C1 _ hx);rw[yZ] at h;obtain⟨hw,gS⟩:=b5F h1;have fin:∀ {ej:Fr} {b8:ae},runOps env 0 (callV env (exec env F) 0) dX ops ej b8=some outs->(∀cN ws,jv env 0 (callV env (exec env F) 0) (o::ops) ad cN ws J=jv env 0 (callV env (exec env F) 0) ops ej (J::cN) ws b8)→
    ∃bd fj ai,outs=[(.normal,bd,ai)]/\fj.length=(o::ops).length/\(∃t,(ai::fj).reverse=J::t)/\∀cN ws,jv env 0 (callV env (exec env F) 0) (o::ops) ad cN ws J=some (bd,fj++cN,ws,ai):=λ{ej b8} aq hd=>by
   obtain⟨bd,fj,ai,aX,bc,_,ew⟩:=O6 hg h2 aq hn a7;refine⟨bd,fj++[J],ai,aX,by simp[bc],⟨(ai::fj).reverse,by rw[<-C5,Xy];rfl⟩,λcN ws=>?_⟩;rw[hd,ew,iE];rfl
  cases hwt:wantedA o.guard ad.bj with
  |false=>
   rw[hwt,cond_false] at h;exact fin h λcN ws=>by rw[runDraw_cons,hwt,cond_false]
  |true=>
   rw[hwt,cond_true] at h;cases hx:opx 0 (evalA env ad.bj) J o.op with
   |none=>rw[hx] at h;cases h
   |some r=>
    rw[hx] at h;cases r with
    |val v b8=>exact fin h λcN ws=>by rw[runDraw_cons,hwt,cond_true,hx,hw]
    |panic v=>cases h;have:=hn _ (uT.2 I);cases this
    |call ct args=>
     have dP:∃g,ct= .f (.func g) [] []/\g∈gs:=by
      rcases gS with⟨g,as,ho,k4⟩|gS
      ·rw[ho] at hx;refine⟨g,?_,k4⟩;simp only[opx] at hx
       repeat' split at hx
       all_goals first|(cases hx;done)|(rename_i a _;cases hx;cases a;rfl)
      ·have:=IW (floor:=0) (ar:=evalA env ad.bj) (J:=J) gS;rw[hx] at this;exact this.elim
     obtain⟨g,kH,k4⟩:=dP;subst kH;have h:hT (callV env (exec env F) 0 (.f (.func g) [] []) args J) (λr=>match r with
      |(.ok v,J)=>runOps env 0 (callV env (exec env F) 0) dX ops (ad.put o.dst v) J
      |(.err v,J)=>some [(.panic v,ad,J)])=some outs:=h
     have h1:=hg g k4 F args J;cases ab:callV env (exec env F) 0 (.f (.func g) [] []) args J with
     |none=>rw[ab] at h;cases h
     |some l=>
      rw[ab] at h1 h;obtain⟨x,rfl⟩:=h1;obtain⟨rt,b8⟩:=x;have e:∀(f:en×ae->Option nu),hT (some [(rt,b8)]) f=f (rt,b8):=λf=>by
       rfl
      rw[e] at h;cases rt with
      |err v=>cases h;have:=hn _ (uT.2 I);cases this
      |ok v=>
       have h:runOps env 0 (callV env (exec env F) 0) dX ops (ad.put o.dst v) b8=some outs:=h;refine fin h λcN ws=>?_;rw[runDraw_cons,hwt,cond_true,hx];show(match callV env (exec env F) 0 (.f (.func g) [] []) args J with|some [(.ok v,ai)]=>jv env 0 (callV env (exec env F) 0) ops (ad.put o.dst v) (J::cN) ws ai|_=>none)=_;rw[ab]
    |lv ct args=>
     exfalso;rcases gS with⟨g,as,ho,k4⟩|gS
     ·rw[ho] at hx;simp only[opx] at hx
      repeat' split at hx
      all_goals first|(cases hx;done)|(simp_all;done)
     ·have:=IW (floor:=0) (ar:=evalA env ad.bj) (J:=J) gS;rw[hx] at this;exact this.elim
    |j1 l=>
     exfalso;rcases gS with⟨g,as,ho,k4⟩|gS
     ·rw[ho] at hx;simp only[opx] at hx
      repeat' split at hx
      all_goals first|(cases hx;done)|(simp_all;done)
     ·have:=IW (floor:=0) (ar:=evalA env ad.bj) (J:=J) gS;rw[hx] at this;exact this.elim
def b5G(env:Env)(m:Nat)(s:ae)(w:tu):Prop:=(∀q∈w.1.kj,q=m)/\∃v τ,opx 0 (evalA env w.2.1) s w.1.op=some (.val v τ)/\AV.eqb env.bp v w.2.2=true
def IY(env:Env)(aR:Option Nat)(D:List (Nat ⊕ (AV×List AV)))(n m k:Nat)(ops:List a4)(f:Nat->AV)(J:ae)(Q:(Nat->AV)->ae->Prop):Prop:=
 ∀ad,iM D n f ad->∃fC bd b_ ai,iM D n b_ bd/\Q b_ ai/\k<=m/\∀F,fC<=F->∃fj wn s,fj.length=ops.length/\(∀cN ws,jv env 0 (callV env (exec env F) 0) ops ad cN ws J=some (bd,fj++cN,wn++ws,ai))∧
  nth (ai::fj).reverse (m-k)=some s/\O5 J s/\∀w∈wn,b5G env m s w
section
variable {env:Env}{aR:Option Nat}{D:List (Nat ⊕ (AV×List AV))}{n m k:Nat}{f:Nat->AV}{J:ae}{gs:List Nat}
def ak.b5H{ops:List a4}{Q:dZ}(m:Nat)(ao:swapT ops=true)(h:IY env aR D n m 0 ops f J (λb_ ai=>Q .normal b_ ai)):bL env aR D n (.draw ops) f J Q:=λad bH=>by
 obtain⟨fC,bd,b_,ai,h2,h3,_,h1⟩:=h ad bH;refine⟨fC+1,[(.normal,bd,ai)],aF,λF b2=>?_,λo ho=>?_⟩
 ·obtain⟨k,rfl⟩:∃k,F=k+1:=⟨F-1,U⟩
  obtain⟨fj,wn,s,_,bc,cq,_,eJ⟩:=h1 k U;show exec env (k+1) 0 aR (bF.draw ops) ad J=_;rw[og];show(match jv env 0 (callV env (exec env k) 0) ops ad [] [] J with
   |some (bd,cN,ws,ai)=>cond (ws.all (steady env 0 (ai::cN).reverse)&&swapOk env bd.bj ops) (some [(fZ.normal,bd,ai)]) none
   |none=>none)=_
  rw[bc];show cond ((wn++[]).all (steady env 0 (ai::(fj++[])).reverse)&&swapOk env bd.bj ops) (some [(fZ.normal,bd,ai)]) none=_;rw[iL,iL,OX ao,IG];have:wn.all (steady env 0 (ai::fj).reverse)=true:=by
   rw[nY];intro w lK;obtain⟨eF,v,τ,dE,dW⟩:=eJ w lK;unfold steady;refine ig λq aV=>?_;rw[eF q aV,show nth (ai::fj).reverse m=some s from cq];show(match tt w.1.op 0 (evalA env w.2.1) s with|some (.val v _)=>AV.eqb env.bp v w.2.2|_=>false)=true;rw[yY,dE];exact dW
  rw[this];rfl
 ·rw[uT.1 ho];exact⟨b_,h2,h3⟩
def IY.fin{ops:List a4}{Q:(Nat->AV)->ae->Prop}(hg:IX env gs)(ao:cD (Ez gs) ops=true)(h:dC env aR D n ops f J (λx b_ ai=>x= .normal/\Q b_ ai)):IY env aR D n m m ops f J Q:=λad bH=>by
 obtain⟨fC,outs,h1,h2,h3⟩:=h ad bH;have hn:∀o∈outs,o.1= .normal:=λo ho=>by obtain⟨b_,_,h,_⟩:=h3 o ho;exact h
 obtain⟨bd,fj,ai,e,_,_,_⟩:=O6 hg ao (h2 fC (bs _)) hn h1;obtain⟨b_,eF,_,dE⟩:=h3 _ (by rw[e];exact uT.2 I);refine⟨fC,bd,b_,ai,eF,dE,bs _,λF b2=>?_⟩;obtain⟨xh,b5I,cT,a5,m4,⟨t,qg⟩,BC⟩:=O6 hg ao (h2 F b2) hn h1;rw[e] at a5;cases a5;exact⟨b5I,[],J,m4,λcN ws=>BC cN ws,by rw[qg,Hd];rfl,λ_ _ h=>h,λ_ h=>absurd h aF⟩
end
end
structure Hid(ag:Prop):Prop where
 out:ag
def IZ{P ag:Prop}(k:ag)(h:Hid ag->P:=by
 intro k
 repeat (first|refine aK.go I I I I ?_|refine aK.cmp I I I I I ?_|refine aK.off I I ?_|refine aK.nil ?_|refine ak.seq ?_|refine ak.region ?_|refine ak.skip ?_|refine ak.block ?_)
 exact k.out):P:=h ⟨k⟩
def b5J{P ag:Prop}(k:ag)(h:Hid ag->P:=by
 intro k
 repeat (first|refine eN.go I I I I ?_|refine eN.cmp I I I I I ?_|refine eN.off I I ?_|refine eN.nil ?_)
 exact k.out):P:=h ⟨k⟩
def ka{P ag:Prop}(k:ag)(h:Hid ag->P:=by
 intro k
 repeat (first|refine aK.go I I I I ?_|refine aK.cmp I I I I I ?_|refine aK.off I I ?_|refine aK.nil ?_)
 exact k.out):P:=h ⟨k⟩
def X0{P ag:Prop}(k:ag)(h:Hid ag->P:=by
 intro k
 repeat (first|refine aK.go I I I I ?_|refine aK.aA cq I I I I ?_|refine aK.cmp I I I I I ?_|refine aK.off I I ?_|refine aK.nil ?_)
 exact k.out):P:=h ⟨k⟩
section
open Go Go.RowKit
def I0{f:Nat->AV}{i j:Nat}{v:AV}(h:Nat.beq j i=false):dd f i v j=f j:=by show cond (Nat.beq j i) v (f j)=f j;rw[h];rfl
def BD{f:Nat->AV}{i:Nat}{v:AV}:dd f i v i=v:=by show cond (Nat.beq i i) v (f i)=v;rw[gQ];rfl
variable [Tok][TokOk] in
def ak.each{env:Env}{aR:Option Nat}{D:List (Nat ⊕ (AV×List AV))}{n i m c d b fR:Nat}{body:bF}{f:Nat->AV}{J:ae}{Q:dZ}(N:Nat)(eV:Nat->(Nat->AV)->ae->Prop)
  (ek:N<2^62) (h0:eV 0 f J) (vp:f i=ah 0) (oy:f m=ah N)
  (hb:∀j g τ,j<N->eV j g τ->g i=ah j->g m=ah N->bL env aR D n (.block fR body) (dd g c (.b true)) τ (λx b_ aB=>match x with
   | .normal=>b_ i=ah j/\b_ m=ah N/\eV (j+1) (dd (dd b_ d (ah (j+1))) i (ah (j+1))) aB
   | .exit e=>Nat.beq e b=false/\Q (.exit e) b_ aB
   |x=>Q x b_ aB))
  (hx:∀g τ,eV N g τ->g i=ah N->Q .normal (dd g c (.b false)) τ)
  (ab:Nat.blt c n=true:=by rfl) (hd:Nat.blt d n=true:=by rfl) (hi:Nat.blt i n=true:=by rfl) (hm:Nat.blt m n=true:=by rfl) (O7:Nat.beq m d=false:=by rfl) (wQ:Nat.beq m i=false:=by rfl):
  bL env aR D n (.block b (.loop (.seq (.region [⟨some c,.bin .lss (.t i) (.t m),none,[]⟩]) (.seq (.cond (.t c) .skip (.exit b)) (.seq (.block fR body) (.region [⟨some d,.bin .add (.t i) (.c (.i .i64 1)),none,[]⟩,⟨some i,.bJ (.t d),none,[]⟩])))))) f J Q:=by
 refine ak.block (ak.loop (λk g τ=>∃j,j+k=N/\eV j g τ/\g i=ah j/\g m=ah N) ?_ N ⟨0,U,h0,vp,oy⟩);rintro k g τ ⟨j,I1,aW,zn,k4⟩;have nG:dJ env n g (.t i)=some (ah j):=by show cond (Nat.blt i n) (some (g i)) none=_;rw[hi,zn];rfl
 have em:dJ env n g (.t m)=some (ah N):=by show cond (Nat.blt m n) (some (g m)) none=_;rw[hm,k4];rfl
 refine ak.seq (ak.region ?_);refine aK.cmp (a:=j) (b:=N) ab I nG em I ?_;refine aK.nil (ak.seq (ak.jg (t:=decide (j<N)) (by show cond (Nat.blt c n) (some (dd g c (.b (decide (j<N))) c)) none=_;rw[ab,BD];rfl) (λh=>?_) λh=>?_))
 ·have ax:j<N:=of_decide_eq_true h;rw[h];refine ak.skip (ak.seq ((hb j g τ ax aW zn k4).mono λx b_ aB h'=>?_));cases x with
  |normal=>
   obtain⟨h1,h2,h3⟩:=h';refine ak.region ?_;have aL:dJ env n b_ (.t i)=some (ah j):=by show cond (Nat.blt i n) (some (b_ i)) none=_;rw[hi,h1];rfl
   refine aK.bin hd I aL I (sz (a:=j) (b:=1) U) ?_;refine aK.go I hi I (v:=ah (j+1)) (ai:=aB) ?_ ?_
   ·show(match cond (Nat.blt d n) (some (dd b_ d (ah (j+1)) d)) none with|some v=>some (bZ.val v aB)|none=>none)=_;rw[hd,BD];rfl
   ·refine aK.nil ?_;refine⟨k-1,U,j+1,U,h3,BD,?_⟩;rw[I0 wQ,I0 O7,h2]
  |exit e=>
   show cond (Nat.beq e b) (Q .normal b_ aB) (Q (.exit e) b_ aB);rw[h'.1];exact h'.2
  |ret=>exact h'
  |panic v=>exact h'
 ·have ax:j=N:=by have:=of_decide_eq_false h;omega
  subst ax;rw[h];refine ak.exit ?_;show cond (Nat.beq b b) (Q .normal (dd g c (.b false)) τ) (Q (.exit b) (dd g c (.b false)) τ);rw[gQ];exact hx g τ aW zn
end
section
variable [Tok][TokOk]
open Go.RowKit
def I2(gs:List Nat)(o:a4):Bool:=match o.op with
 | .call (.fn g) _=>sC gs g
 |op=>calm op
def quiet(gs:List Nat):bF->Bool
 | .skip=>true
 | .region ops=>cD (I2 gs) ops
 | .draw _=>true
 | .seq a b=>quiet gs a&&quiet gs b
 | .cond _ a b=>quiet gs a&&quiet gs b
 | .block _ a=>quiet gs a
 | .loop a=>quiet gs a
 | .scope a=>quiet gs a
 | .exit _=>true
 | .ret=>true
 |_=>false
def zo(env:Env)(g:Nat):Prop:=∀F first cap args J,ji (callV env (exec env F) 0 (.f (.func g) first cap) args J)
def I3{env:Env}{gs:List Nat}{call:mT}(ab:∀g∈gs,∀args J,ji (call (.f (.func g) [] []) args J)){dX:Bool}:∀ {ops:List a4},cD (I2 gs) ops=true->∀ad J,ji (runOps env 0 call dX ops ad J)
 |[],_,ad,J=>⟨_,rfl⟩
 |o::ops,h,ad,J=>by
  have h1:I2 gs o=true:=lJ h o aF;have h2:cD (I2 gs) ops=true:=ig λx hx=>lJ h x (C1 _ hx);rw[yZ];cases wantedA o.guard ad.bj with
  |false=>exact I3 ab h2 _ _
  |true=>
   rw[cond_true];obtain⟨d,op,zm,wn⟩:=o;by_cases gj:∃g as,op= .call (.fn g) as
   ·obtain⟨g,as,rfl⟩:=gj;have hg:g∈gs:=BB h1;cases hx:opx 0 (evalA env ad.bj) J (.call (.fn g) as) with
    |none=>trivial
    |some r=>
     have dP:∃args,r= .call (.f (.func g) [] []) args:=by
      simp only[opx] at hx
      repeat' split at hx
      all_goals first|(cases hx;done)|(rename_i a _;cases hx;cases a;exact⟨_,rfl⟩)|(cases hx;exact⟨_,rfl⟩)
     obtain⟨args,rfl⟩:=dP;refine ji.hT (ab g hg _ _) λr=>?_;obtain⟨r,ai⟩:=r;cases r with
     |ok v=>exact I3 ab h2 _ _
     |err v=>exact⟨_,rfl⟩
   ·have AS:calm op=true:=by
     cases op with
     |call c as=>cases c with
      |fn g=>exact absurd ⟨g,as,rfl⟩ gj
      |val x=>exact h1
     |_=>exact h1
    have:=IW (floor:=0) (ar:=evalA env ad.bj) (J:=J) AS;cases hx:opx 0 (evalA env ad.bj) J op with
    |none=>trivial
    |some r=>
     rw[hx] at this;cases r with
     |val v ai=>exact I3 ab h2 _ _
     |panic v=>exact⟨_,rfl⟩
     |call _ _=>exact this.elim
     |lv _ _=>exact this.elim
     |j1 _=>exact this.elim
def tW(env:Env)(gs:List Nat):Prop:=∀g∈gs,env.ext g=0/\(env.pure g=true\/env.pure g=false/\∃b3 body,env.funcs g=some b3/\b3.body=some body/\quiet gs body=true)
def quiet_code{env:Env}{gs:List Nat}{F:Nat}(aV:∀G,G<F->∀g∈gs,∀args J,ji (callV env (exec env G) 0 (.f (.func g) [] []) args J)):∀(G:Nat),G<=F->∀ {c:bF},quiet gs c=true->∀ {aR} ad J,ji (exec env G 0 aR c ad J)
 |0,_,_,_,_,_,_=>trivial
 |G+1,cW,c,h,aR,ad,J=>by
  have aH:=λ{c} h {aR} ad J=>@quiet_code env gs F aV G U c h aR ad J;rw[og];cases c with
  |skip=>exact⟨_,rfl⟩
  |region ops=>exact I3 (aV G U) h ad J
  |draw ops=>
   show ji (match jv env 0 (callV env (exec env G) 0) ops ad [] [] J with|some (bd,cN,ws,ai)=>cond (ws.all (steady env 0 (ai::cN).reverse)&&swapOk env bd.bj ops) (some [(fZ.normal,bd,ai)]) none|none=>none);split
   ·rename_i bd cN ws ai _;cases(ws.all (steady env 0 (ai::cN).reverse)&&swapOk env bd.bj ops) with
    |true=>exact⟨_,rfl⟩
    |false=>trivial
   ·trivial
  |seq a b=>
   rw[quiet,C2] at h;refine ji.hT (aH h.1 ad J) λr=>?_;obtain⟨x,bd,ai⟩:=r;cases x with
   |normal=>exact aH h.2 bd ai
   |_=>exact⟨_,rfl⟩
  |cond o a b=>
   rw[quiet,C2] at h;show ji (match evalA env ad.bj o with|some (.b t)=>exec env G 0 aR (cond t a b) ad J|_=>none);split
   ·rename_i t _;cases t with
    |true=>exact aH h.1 ad J
    |false=>exact aH h.2 ad J
   ·trivial
  |block id a=>
   refine ji.hT (aH (show quiet gs a=true from h) ad J) λr=>?_;obtain⟨x,bd,ai⟩:=r;cases x with
   |exit j=>
    show ji (cond (Nat.beq j id) (some [(fZ.normal,bd,ai)]) (some [(fZ.exit j,bd,ai)]));cases Nat.beq j id<;>exact⟨_,rfl⟩
   |_=>exact⟨_,rfl⟩
  |loop a=>
   refine ji.hT (aH (show quiet gs a=true from h) ad J) λr=>?_;obtain⟨x,bd,ai⟩:=r;cases x with
   |normal=>exact aH (c:=.loop a) h bd ai
   |_=>exact⟨_,rfl⟩
  |scope a=>exact aH (show quiet gs a=true from h) ad J
  |rangeFunc _ _ _ _=>cases h
  |exit id=>exact⟨_,rfl⟩
  |ret=>exact⟨_,rfl⟩
  |bad=>cases h
def b5K{env:Env}{b3:aN}(r:fZ×Fr×ae):ji (endF env 0 b3 r):=by
 obtain⟨x,ad,J⟩:=r;cases x with
 |exit i=>trivial
 |_=>
  unfold endF;simp only[];split
  ·trivial
  ·exact⟨_,rfl⟩
  ·split
   ·exact⟨_,rfl⟩
   ·trivial
def tW.call{env:Env}{gs:List Nat}(aV:tW env gs):∀F,∀g∈gs,∀first cap args J,ji (callV env (exec env F) 0 (.f (.func g) first cap) args J):=by
 intro F
 induction F using Nat.strongRecOn with
 |ind F aH=>
  intro g hg first cap args J
  obtain⟨he,aw⟩:=aV g hg;show ji (callF env (exec env F) 0 g (first++args++cap) J);unfold callF;rw[he];rcases aw with aw|⟨aw,b3,body,hf,hb,b5L⟩
  ·show ji (cond (env.pure g) _ _);rw[aw,cond_true]
   repeat' split
   all_goals first|trivial|exact⟨_,rfl⟩
  ·show ji (cond (env.pure g) _ _);rw[aw,cond_false];unfold runF;rw[hf];show ji (match b3.body with|none=>none|some body=>_);rw[hb];show ji (cond _ _ none);cases(Nat.beq (first++args++cap).length b3.j0&&Nat.ble (first++args++cap).length b3.ntmps) with
   |false=>trivial
   |true=>exact ji.hT (quiet_code (λG cW g hg args J=>aH G cW g hg [] [] args J) F (bs _) b5L _ _) b5K
def tW.one{env:Env}{gs:List Nat}(aV:tW env gs){g:Nat}(h:sC gs g=true):zo env g:=λF first cap args J=>aV.call F g (BB h) first cap args J
abbrev l7:=List (Nat×Nat×List AV)
def zp(N len:Nat)(I4:List ae)(q:Nat)(P:ae->Prop):Prop:=∃j s,q+len=N+j/\nth I4 j=some s/\P s
def zp.up{N len q:Nat}{I4:List ae}{J:ae}{P:ae->Prop}(h:zp N len I4 q P):zp N (len+1) (J::I4) q P:=by
 obtain⟨j,s,h1,h2,h3⟩:=h;exact⟨j+1,s,U,h2,h3⟩
def eu(env:Env)(D:List (Nat ⊕ (AV×List AV)))(n N:Nat)(cw:l7)(ops:List a4)(f:Nat->AV)(J:ae)(Q:dZ):Prop:=
 ∀ad,iM D n f ad->∃fC bd b_ ai,iM D n b_ bd/\Q .normal b_ ai/\∀F,fC<=F->∃fj wn,(∃t,(ai::fj).reverse=J::t/\t.length=ops.length)∧
  (∀cN ws,jv env 0 (callV env (exec env F) 0) ops ad cN ws J=some (bd,fj++cN,wn++ws,ai))∧
  (∀p∈cw,zp N ops.length (ai::fj).reverse p.1 λs=>s.get p.2.1=some (.cells p.2.2))∧
  ∀w∈wn,∀q∈w.1.kj,zp N ops.length (ai::fj).reverse q λs=>∃v τ,opx 0 (evalA env w.2.1) s w.1.op=some (.val v τ)/\AV.eqb env.bp v w.2.2=true
section
variable {env:Env}{aR:Option Nat}{D:List (Nat ⊕ (AV×List AV))}{n N:Nat}{f:Nat->AV}{J:ae}{Q:dZ}{cw:l7}
def ak.O8{ops:List a4}(ao:swapT ops=true)(h:eu env D n ops.length [] ops f J Q):bL env aR D n (.draw ops) f J Q:=λad bH=>by
 obtain⟨fC,bd,b_,ai,h2,h3,h1⟩:=h ad bH;refine⟨fC+1,[(.normal,bd,ai)],aF,λF b2=>?_,λo ho=>?_⟩
 ·obtain⟨k,rfl⟩:∃k,F=k+1:=⟨F-1,U⟩
  obtain⟨fj,wn,_,bc,_,eJ⟩:=h1 k U;show exec env (k+1) 0 aR (bF.draw ops) ad J=_;rw[og];show(match jv env 0 (callV env (exec env k) 0) ops ad [] [] J with
   |some (bd,cN,ws,ai)=>cond (ws.all (steady env 0 (ai::cN).reverse)&&swapOk env bd.bj ops) (some [(fZ.normal,bd,ai)]) none
   |none=>none)=_
  rw[bc];show cond ((wn++[]).all (steady env 0 (ai::(fj++[])).reverse)&&swapOk env bd.bj ops) (some [(fZ.normal,bd,ai)]) none=_;rw[iL,iL,OX ao,IG];have:wn.all (steady env 0 (ai::fj).reverse)=true:=by
   rw[nY];intro w lK;unfold steady;refine ig λq aV=>?_;obtain⟨j,s,e,eF,v,τ,dE,dW⟩:=eJ w lK q aV;obtain rfl:q=j:=by omega
   rw[eF];show(match tt w.1.op 0 (evalA env w.2.1) s with|some (.val v _)=>AV.eqb env.bp v w.2.2|_=>false)=true;rw[yY,dE];exact dW
  rw[this];rfl
 ·rw[uT.1 ho];exact⟨b_,h2,h3⟩
def eu.one{o:a4}{ops:List a4}{f1:Nat->AV}{b8:ae}{oz:l7}{wl:a1 AV->List tu}(h:eu env D n N oz ops f1 b8 Q)(b5M:∀p∈cw,p∈oz)
  (aq:∀ad,iM D n f ad->∃ej fC,iM D n f1 ej/\(∀w∈wl ad.bj,∀q∈w.1.kj,∀st,(∀p∈oz,zp N ops.length st p.1 λs=>s.get p.2.1=some (.cells p.2.2))->st.length=ops.length+1->zp N ops.length st q λs=>∃v τ,opx 0 (evalA env w.2.1) s w.1.op=some (.val v τ)/\AV.eqb env.bp v w.2.2=true)∧
   ∀F,fC<=F->∀cN ws,jv env 0 (callV env (exec env F) 0) (o::ops) ad cN ws J=jv env 0 (callV env (exec env F) 0) ops ej (J::cN) (wl ad.bj++ws) b8):eu env D n N cw (o::ops) f J Q:=λad bH=>by
 obtain⟨ej,tT,O3,hw,aq⟩:=aq ad bH;obtain⟨fC,bd,b_,ai,h2,h3,h1⟩:=h ej O3;refine⟨max fC tT,bd,b_,ai,h2,h3,λF b2=>?_⟩;obtain⟨fj,wn,⟨t,bU,bV⟩,cp,cX,dm⟩:=h1 F U;have e:(ai::(fj++[J])).reverse=J::(ai::fj).reverse:=by rw[<-C5,Xy];rfl
 refine⟨fj++[J],wn++wl ad.bj,⟨(ai::fj).reverse,e,by rw[bU];simp[bV]⟩,λcN ws=>by rw[aq F U,cp,iE,iE];rfl,λp aw=>?_,λw kQ q aV=>?_⟩
 ·rw[e];exact(cX p (b5M p aw)).up
 ·rw[e];rcases tl.1 kQ with kQ|kQ
  ·exact(dm w kQ q aV).up
  ·exact(hw w kQ q aV _ cX (by rw[bU];simp[bV])).up
def eu.val{d:Option Nat}{op:AOp}{g:Option (Nat×Bool)}{ops:List a4}{v:AV}{ai:ae}(hd:∀x,d=some x->Nat.blt x n=true)(hw:gV g n f=true)(ho:opx 0 (dJ env n f) J op=some (.val v ai))(h:eu env D n N cw ops (match d with|some d=>dd f d v|none=>f) ai Q):
  eu env D n N cw (⟨d,op,g,[]⟩::ops) f J Q:=eu.one (wl:=λ_=>[]) h (λ_ h=>h) λad bH=>⟨ad.put d v,0,by
 cases d with
 |none=>exact bH
 |some d=>exact bH.put v (hd d I),λ_ h=>absurd h aF,λF _ cN ws=>by
  rw[runDraw_cons];show cond (wantedA g ad.bj) _ _=_;rw[bH.wanted,hw,cond_true,bH.ar,ho];rfl⟩
def eu.off{d:Nat}{op:AOp}{g:Option (Nat×Bool)}{wn:List Nat}{ops:List a4}(hd:Nat.blt d n=true)(hw:gV g n f=false)(h:eu env D n N cw ops (dd f d ei) J Q):eu env D n N cw (⟨some d,op,g,wn⟩::ops) f J Q:=
 eu.one (wl:=λ_=>[]) h (λ_ h=>h) λad bH=>⟨ad.put (some d) ei,0,bH.put _ hd,λ_ h=>absurd h aF,λF _ cN ws=>by
  rw[runDraw_cons];show cond (wantedA g ad.bj) _ _=_;rw[bH.wanted,hw,cond_false];rfl⟩
def eu.l8{d:Nat}{op:AOp}{g:Option (Nat×Bool)}{wn:List Nat}{ops:List a4}{v:AV}{id:Nat}{c:List AV}(ao:J.get id=some (.cells c))(hd:Nat.blt d n=true)(hw:gV g n f=true)(ho:∀s:ae,s.get id=some (.cells c)->opx 0 (dJ env n f) s op=some (.val v s))(au:AV.eqb env.bp v v=true)
  (h:eu env D n N (wn.map (λq=>(q,id,c))++cw) ops (dd f d v) J Q):eu env D n N cw (⟨some d,op,g,wn⟩::ops) f J Q:=
 eu.one (wl:=λal=>match wn with|[]=>[]|_::_=>[(⟨some d,op,g,wn⟩,al,v)]) h (λ_ h=>tl.2 (.inr h)) λad bH=>⟨ad.put (some d) v,0,bH.put v hd,λw kQ q aV st cR _=>by
  cases wn with
  |nil=>simp at kQ
  |cons a l=>
   rw[uT.1 kQ] at aV ⊢;obtain⟨j,s,aL,a5,cy⟩:=cR (q,id,c) (tl.2 (.inl (ti.2 ⟨q,aV,rfl⟩)));exact⟨j,s,aL,a5,v,s,by show opx 0 (evalA env ad.bj) s op=_;rw[bH.ar];exact ho s cy,au⟩,λF _ cN ws=>by
  rw[runDraw_cons];show cond (wantedA g ad.bj) _ _=_;rw[bH.wanted,hw,cond_true,bH.ar,ho J ao];cases wn<;>rfl⟩
def eu.sD{d:Nat}{op:AOp}{g:Option (Nat×Bool)}{wn:List Nat}{ops:List a4}{v:AV}(lK:cD (λq=>Nat.ble N (q+ops.length)&&Nat.ble q N) wn=true)(hd:Nat.blt d n=true)(hw:gV g n f=true)(ho:∀s:ae,opx 0 (dJ env n f) s op=some (.val v s))(au:AV.eqb env.bp v v=true)
  (h:eu env D n N cw ops (dd f d v) J Q):eu env D n N cw (⟨some d,op,g,wn⟩::ops) f J Q:=
 eu.one (wl:=λal=>match wn with|[]=>[]|_::_=>[(⟨some d,op,g,wn⟩,al,v)]) h (λ_ h=>h) λad bH=>⟨ad.put (some d) v,0,bH.put v hd,λw kQ q aV st cR hl=>by
  cases wn with
  |nil=>simp at kQ
  |cons a l=>
   rw[uT.1 kQ] at aV ⊢;have hb:=lJ lK q aV;simp only[C2] at hb;have h1:=pL hb.1;have h2:=pL hb.2;obtain⟨s,ao⟩:∃s,nth st (q+ops.length-N)=some s:=⟨st[q+ops.length-N]'U,by rw[Dg,fw]⟩
   exact⟨q+ops.length-N,s,U,ao,v,s,by show opx 0 (evalA env ad.bj) s op=_;rw[bH.ar];exact ho s,au⟩,λF _ cN ws=>by
  rw[runDraw_cons];show cond (wantedA g ad.bj) _ _=_;rw[bH.wanted,hw,cond_true,bH.ar,ho J];cases wn<;>rfl⟩
def eu.call{d:Option Nat}{op:AOp}{g:Option (Nat×Bool)}{ops:List a4}{aU:Nat}{first cap args:List AV}{ag:en->ae->Prop}(hd:∀x,d=some x->Nat.blt x n=true)(hw:gV g n f=true)(ho:opx 0 (dJ env n f) J op=some (.call (.f (.func aU) first cap) args))(h1:zo env aU)
  (ab:bE env 0 (.f (.func aU) first cap) args J ag) (h:∀r ai,ag r ai->∃v,r= .ok v/\eu env D n N cw ops (match d with|some d=>dd f d v|none=>f) ai Q):eu env D n N cw (⟨d,op,g,[]⟩::ops) f J Q:=by
 obtain⟨tT,l,hl,h2,h3⟩:=ab;have aL:=h1 tT first cap args J
 rw[show callV env (exec env tT) 0 (.f (.func aU) first cap) args J=some l from h2 tT (bs _)] at aL;obtain⟨⟨r,b8⟩,rfl⟩:=aL;obtain⟨v,rfl,h⟩:=h r b8 (h3 (r,b8) (uT.2 I));refine eu.one (wl:=λ_=>[]) h (λ_ h=>h) λad bH=>⟨ad.put d v,tT,?_,λ_ h=>absurd h aF,λF b2 cN ws=>?_⟩
 ·cases d with
  |none=>exact bH
  |some d=>exact bH.put v (hd d I)
 ·rw[runDraw_cons];show cond (wantedA g ad.bj) _ _=_;rw[bH.wanted,hw,cond_true,bH.ar,ho];show(match callV env (exec env F) 0 (.f (.func aU) first cap) args J with|some [(.ok v,ai)]=>jv env 0 (callV env (exec env F) 0) ops (ad.put d v) (J::cN) ws ai|_=>none)=_;rw[show callV env (exec env F) 0 (.f (.func aU) first cap) args J=some [(.ok v,b8)] from h2 F b2];rfl
def BE(J:ae):List (Nat×Nat×List AV)->Prop
 |[]=>True
 |p::l=>J.get p.2.1=some (.cells p.2.2)/\BE J l
def BE.mem{J:ae}:∀ {l:List (Nat×Nat×List AV)},BE J l->∀p∈l,J.get p.2.1=some (.cells p.2.2)
 |_::_,h,p,aw=>by
  rcases dB.1 aw with rfl|aw
  ·exact h.1
  ·exact h.2.mem p aw
def O9(N len:Nat)(cw:l7):l7:=cw.filter λp=>Nat.beq (p.1+len) N
def X1(N len:Nat)(cw:l7):l7:=cw.filter λp=>!Nat.beq (p.1+len) N
def eu.now{ops:List a4}(l cu:l7)(h1:O9 N ops.length cw=l)(h2:X1 N ops.length cw=cu)(hh:BE J l)(h:eu env D n N cu ops f J Q):eu env D n N cw ops f J Q:=λad bH=>by
 obtain⟨fC,bd,b_,ai,bV,cp,bU⟩:=h ad bH;refine⟨fC,bd,b_,ai,bV,cp,λF b2=>?_⟩;obtain⟨fj,wn,⟨t,aX,bc⟩,cq,ew,eJ⟩:=bU F b2;refine⟨fj,wn,⟨t,aX,bc⟩,cq,λp aw=>?_,eJ⟩;by_cases hb:Nat.beq (p.1+ops.length) N=true
 ·exact⟨0,J,by rw[gb hb];rfl,by rw[aX];rfl,hh.mem p (by rw[<-h1];exact NN.2 ⟨aw,hb⟩)⟩
 ·exact ew p (by rw[<-h2];exact NN.2 ⟨aw,by rw[Xz.2 hb];rfl⟩)
def eu.nil(hh:O9 N 0 cw=cw)(hl:BE J cw)(h:Q .normal f J):eu env D n N cw [] f J Q:=λad bH=>
 ⟨0,ad,f,J,bH,h,λF _=>⟨[],[],⟨[],rfl,rfl⟩,λ_ _=>rfl,λp aw=>⟨0,J,by
  rw[<-hh] at aw;exact gb (NN.1 aw).2,rfl,hl.mem p aw⟩,λ_ h=>absurd h aF⟩⟩
end
inductive l9 where
 |pl
 |dw (N:Nat) (cw:l7)
def cg(ck:l9)(env:Env)(aR:Option Nat)(D:List (Nat ⊕ (AV×List AV)))(n:Nat)(ops:List a4)(f:Nat->AV)(J:ae)(Q:dZ):Prop:=
 match ck with
 | .pl=>dC env aR D n ops f J Q
 | .dw N cw=>eu env D n N cw ops f J Q
structure Has(J:ae)(L:List (Nat×List AV)):Prop where
 get:∀p∈L,J.get p.1=some (.cells p.2)
 BF:L.Pairwise λa b=>a.1≠b.1
def Has.nil{J:ae}:Has J []:=⟨λ_ h=>absurd h aF,.nil⟩
def Has.aP{J τ:ae}{L:List (Nat×List AV)}(h:Has J L)(k:∀i o,J.get i=some o->τ.get i=some o):Has τ L:=⟨λp aw=>k _ _ (h.get p aw),h.BF⟩
def Has.lt{J:ae}{L:List (Nat×List AV)}(h:Has J L){p:Nat×List AV}(aw:p∈L):p.1<J.next:=ae.bt (h.get p aw)
def Has.cons{J:ae}{L:List (Nat×List AV)}{k:Nat}{c:List AV}(h:Has J L)(ay:J.get k=some (.cells c))(hn:∀p∈L,p.1≠k):Has J ((k,c)::L):=⟨λp aw=>by
 rcases dB.1 aw with rfl|aw
 ·exact ay
 ·exact h.get p aw,OS.2 ⟨λp aw e=>hn p aw e.symm,h.BF⟩⟩
def Has.push{J τ:ae}{L:List (Nat×List AV)}{k:Nat}{c:List AV}(h:Has J L)(hn:J.next=k)(ay:τ.get k=some (.cells c))(dr:∀i o,J.get i=some o->τ.get i=some o):Has τ ((k,c)::L):=
 (h.aP dr).cons ay λp aw=>by have:=h.lt aw;omega
def Has.set{J τ:ae}{L:List (Nat×List AV)}{id:Nat}{c bD:List AV}(h:Has J L)(j:Nat)(ax:L[j]? =some (id,c))(ay:τ.get id=some (.cells bD))(dr:∀i o,i≠id->J.get i=some o->τ.get i=some o):Has τ (L.set j (id,bD)):=by
 obtain⟨hlt,he⟩:=jK.1 ax;have a7:∀i (hi:i<L.length),i≠j->(L[i]).1≠id:=λi hi hG=>by
  have aw:=II.1 h.BF;have e:(L[j]).1=id:=by rw[he]
  rcases MG i j with h1|h1
  ·rw[<-e];exact aw i j hi hlt h1
  ·rw[<-e];exact λc4=>aw j i hlt hi U c4.symm
 refine⟨λp aw=>?_,II.2 λa b ha hb I5=>?_⟩
 ·obtain⟨i,hi,rfl⟩:=tj aw;rw[ib] at hi;rw[uZ];split
  ·exact ay
  ·exact dr _ _ (a7 i hi U) (h.get _ (gC hi))
 ·rw[ib] at ha hb;rw[uZ,uZ];split<;>split
  ·omega
  ·rename_i e _;exact λc4=>a7 b hb U c4.symm
  ·exact a7 a ha U
  ·exact II.1 h.BF a b ha hb I5
def tX:List (Nat×AV)->Nat->Option AV
 |[],_=>none
 |(j,v)::L,i=>cond (Nat.beq i j) (some v) (tX L i)
def dn(env:Env)(n:Nat)(L:List (Nat×AV))(g:Nat->AV):aJ->Option AV
 | .t i=>cond (Nat.blt i n) (match tX L i with|some v=>some v|none=>some (g i)) none
 | .c v=>some v
 | .g j=>match env.mm j with|some v=>some (.dh true v)|none=>none
def I6{g:Nat->AV}:∀ {L:List (Nat×AV)} (i:Nat),bB L g i=(match tX L i with|some v=>v|none=>g i)
 |[],i=>rfl
 |(j,v)::L,i=>by
  show cond (Nat.beq i j) v (bB L g i)=(match cond (Nat.beq i j) (some v) (tX L i) with|some v=>v|none=>g i);cases Nat.beq i j with
  |true=>rfl
  |false=>exact I6 i
def pf(env:Env)(n:Nat)(L:List (Nat×AV))(g:Nat->AV):dJ env n (bB L g)=dn env n L g:=by
 funext x
 cases x with
 |t i=>
  show cond (Nat.blt i n) (some (bB L g i)) none=cond (Nat.blt i n) (match tX L i with|some v=>some v|none=>some (g i)) none;rw[I6];cases tX L i<;>rfl
 |c v=>rfl
 |g j=>rfl
def wtL(q:Option (Nat×Bool))(n:Nat)(L:List (Nat×AV)):Bool:=
 match q with
 |none=>true
 |some (d,w)=>cond (Nat.blt d n) (match tX L d with|some (.b x)=>x==w|_=>false) false
def offL(q:Option (Nat×Bool))(n:Nat)(L:List (Nat×AV)):Bool:=
 match q with
 |none=>false
 |some (d,w)=>cond (Nat.blt d n) (match tX L d with|some (.b x)=>!(x==w)|some _=>true|none=>false) false
def rf{q:Option (Nat×Bool)}{n:Nat}{L:List (Nat×AV)}{g:Nat->AV}(h:wtL q n L=true):gV q n (bB L g)=true:=by
 cases q with
 |none=>rfl
 |some p=>
  obtain⟨d,w⟩:=p;have h:cond (Nat.blt d n) (match tX L d with|some (.b x)=>x==w|_=>false) false=true:=h;show cond (Nat.blt d n) (match bB L g d with| .b x=>x==w|_=>false) false=true;cases hb:Nat.blt d n with
  |false=>rw[hb] at h;cases h
  |true=>
   rw[hb,cond_true] at h;rw[cond_true,I6];split at h
   ·rename_i hl;rw[hl];exact h
   ·cases h
def X2{q:Option (Nat×Bool)}{n:Nat}{L:List (Nat×AV)}{g:Nat->AV}(h:offL q n L=true):gV q n (bB L g)=false:=by
 cases q with
 |none=>cases h
 |some p=>
  obtain⟨d,w⟩:=p;have h:cond (Nat.blt d n) (match tX L d with|some (.b x)=>!(x==w)|some _=>true|none=>false) false=true:=h;show cond (Nat.blt d n) (match bB L g d with| .b x=>x==w|_=>false) false=false;cases hb:Nat.blt d n with
  |false=>rw[hb] at h;cases h
  |true=>
   rw[hb,cond_true] at h;rw[cond_true,I6];split at h
   ·rename_i hl;rw[hl];simpa using h
   ·rename_i x hx hl;rw[hl];clear hl;cases x with
    |b y=>exact absurd I (hx y)
    |_=>rfl
   ·cases h
namespace W
section
variable {env:Env}{aR:Option Nat}{D:List (Nat ⊕ (AV×List AV))}{n:Nat}{F:List (Nat×AV)}{z:Nat->AV}{J:ae}{Q:dZ}
def sq{a b:bF}(h:bL env aR D n a (bB F z) J (λx f J=>match x with| .normal=>bL env aR D n b f J Q|x=>Q x f J)):bL env aR D n (.seq a b) (bB F z) J Q:=ak.seq h
def EA(h:Q .normal (bB F z) J):bL env aR D n .skip (bB F z) J Q:=ak.skip h
def lL{o:aJ}{a b:bF}(ho:dn env n F z o=some (.b true))(h:bL env aR D n a (bB F z) J Q):bL env aR D n (.cond o a b) (bB F z) J Q:=ak.jg (t:=true) (by rw[pf];exact ho) (λ_=>h) λh=>by cases h
def lM{o:aJ}{a b:bF}(ho:dn env n F z o=some (.b false))(h:bL env aR D n b (bB F z) J Q):bL env aR D n (.cond o a b) (bB F z) J Q:=ak.jg (t:=false) (by rw[pf];exact ho) (λh=>by cases h) λ_=>h
end
section
variable {ck:l9}{env:Env}{aR:Option Nat}{D:List (Nat ⊕ (AV×List AV))}{n:Nat}{F:List (Nat×AV)}{z:Nat->AV}{J:ae}{Q:dZ}
def rg{ops:List a4}(h:cg .pl env aR D n ops (bB F z) J Q):bL env aR D n (.region ops) (bB F z) J Q:=ak.region h
def b5N{ops:List a4}(ao:swapT ops=true)(h:cg (.dw ops.length []) env aR D n ops (bB F z) J Q):bL env aR D n (.draw ops) (bB F z) J Q:=ak.O8 ao h
def nil(h:Q .normal (bB F z) J):cg .pl env aR D n [] (bB F z) J Q:=aK.nil h
def EB{N:Nat}(h:Q .normal (bB F z) J):cg (.dw N []) env aR D n [] (bB F z) J Q:=eu.nil I trivial h
def now{N:Nat}{cw:l7}{ops:List a4}(l cu:l7)(h1:O9 N ops.length cw=l)(h2:X1 N ops.length cw=cu)(hh:BE J l)(h:cg (.dw N cu) env aR D n ops (bB F z) J Q):cg (.dw N cw) env aR D n ops (bB F z) J Q:=eu.now l cu h1 h2 hh h
def val{d:Nat}{op:AOp}{g:Option (Nat×Bool)}{ops:List a4}{v:AV}{ai:ae}(hd:Nat.blt d n=true)(hw:wtL g n F=true)(ho:opx 0 (dn env n F z) J op=some (.val v ai))(h:cg ck env aR D n ops (bB ((d,v)::F) z) ai Q):cg ck env aR D n (⟨some d,op,g,[]⟩::ops) (bB F z) J Q:=by
 cases ck with
 |pl=>exact aK.val hd (rf hw) (by rw[pf];exact ho) h
 |dw N cw=>exact eu.val (λx e=>by cases e;exact hd) (rf hw) (by rw[pf];exact ho) h
def w8{op:AOp}{g:Option (Nat×Bool)}{ops:List a4}{v:AV}{ai:ae}(hw:wtL g n F=true)(ho:opx 0 (dn env n F z) J op=some (.val v ai))(h:cg ck env aR D n ops (bB F z) ai Q):cg ck env aR D n (⟨none,op,g,[]⟩::ops) (bB F z) J Q:=by
 cases ck with
 |pl=>exact aK.w8 (rf hw) (by rw[pf];exact ho) h
 |dw N cw=>exact eu.val (λx e=>by cases e) (rf hw) (by rw[pf];exact ho) h
def off{d:Nat}{op:AOp}{g:Option (Nat×Bool)}{wn:List Nat}{ops:List a4}(hd:Nat.blt d n=true)(hw:offL g n F=true)(h:cg ck env aR D n ops (bB ((d,ei)::F) z) J Q):cg ck env aR D n (⟨some d,op,g,wn⟩::ops) (bB F z) J Q:=by
 cases ck with
 |pl=>exact aK.off hd (X2 hw) h
 |dw N cw=>exact eu.off hd (X2 hw) h
def b5O:AOp->Bool
 | .bJ _=>true| .pick _ _ _=>true| .build _ _=>true| .nilCheck _=>true| .yp _ _ _=>true| .jZ _ _ _ _=>true| .not _=>true| .fQ _ _ _=>true| .Hh _ _=>true
 | .nt _ _ _ _ _=>true| .wH _ _ _ _ _=>true| .iZ _ _ _=>true| .fieldAddr _ _ _=>true| .field _ _ _=>true| .rV _ _ _ _=>true| .bn _ _ _=>true| .extract _ _=>true| .Hj _=>true
 |_=>false
def go{d:Nat}{op:AOp}{g:Option (Nat×Bool)}{ops:List a4}{v:AV}{ai:ae}(_hb:b5O op=true)(hd:Nat.blt d n=true)(hw:wtL g n F=true)(ho:opx 0 (dn env n F z) J op=some (.val v ai))(h:cg ck env aR D n ops (bB ((d,v)::F) z) ai Q):cg ck env aR D n (⟨some d,op,g,[]⟩::ops) (bB F z) J Q:=val hd hw ho h
def bin{d:Nat}{op:BinOp}{x y:aJ}{g:Option (Nat×Bool)}{ops:List a4}{a b v:AV}(hd:Nat.blt d n=true)(hw:wtL g n F=true)(h1:dn env n F z x=some a)(h2:dn env n F z y=some b)(h3:binop op a b=some v)(h:cg ck env aR D n ops (bB ((d,v)::F) z) J Q):cg ck env aR D n (⟨some d,.bin op x y,g,[]⟩::ops) (bB F z) J Q:=val hd hw (Es a b v h1 h2 h3) h
def cmpP(op:BinOp)(a b:Nat):Prop:=
 match op with
 | .eql=>a=b
 | .neq=>¬a=b
 | .lss=>a<b
 | .leq=>a<=b
 | .gtr=>b<a
 | .geq=>b<=a
 |_=>False
def X3:BinOp->Bool
 | .eql=>true
 | .neq=>true
 | .lss=>true
 | .leq=>true
 | .gtr=>true
 | .geq=>true
 |_=>false
def b5P{op:BinOp}{a b:Nat}(h:cmpP op a b):cmpO op a b=some (.b true):=by
 cases op<;>first
  |(have h:_:=h;simp only[cmpP] at h;simp only[cmpO,decide_eq_true h];done)
  |(have h:_:=h;simp only[cmpP] at h;simp only[cmpO,decide_eq_false h,E4];done)
  |exact h.elim
def b5Q{op:BinOp}{a b:Nat}(ab:X3 op=true)(h:¬cmpP op a b):cmpO op a b=some (.b false):=by
 cases op<;>first
  |(simp only[cmpP] at h;simp only[cmpO,decide_eq_false h];done)
  |(simp only[cmpP,Decidable.not_not] at h;simp only[cmpO,decide_eq_true h,NO];done)
  |cases ab
def EC{d:Nat}{op:BinOp}{x y:aJ}{g:Option (Nat×Bool)}{ops:List a4}{k:IntKind}{a b:Nat}(hd:Nat.blt d n=true)(hw:wtL g n F=true)(h1:dn env n F z x=some (.i k (Int.ofNat a)))(h2:dn env n F z y=some (.i k (Int.ofNat b)))(h3:cmpP op a b)(h:cg ck env aR D n ops (bB ((d,.b true)::F) z) J Q):cg ck env aR D n (⟨some d,.bin op x y,g,[]⟩::ops) (bB F z) J Q:=bin hd hw h1 h2 (ow (b5P h3)) h
def fD{d:Nat}{op:BinOp}{x y:aJ}{g:Option (Nat×Bool)}{ops:List a4}{k:IntKind}{a b:Nat}(hd:Nat.blt d n=true)(hw:wtL g n F=true)(ab:X3 op=true)(h1:dn env n F z x=some (.i k (Int.ofNat a)))(h2:dn env n F z y=some (.i k (Int.ofNat b)))(h3:¬cmpP op a b)(h:cg ck env aR D n ops (bB ((d,.b false)::F) z) J Q):cg ck env aR D n (⟨some d,.bin op x y,g,[]⟩::ops) (bB F z) J Q:=bin hd hw h1 h2 (ow (b5Q ab h3)) h
def X4{d:Nat}{op:BinOp}{x y:aJ}{g:Option (Nat×Bool)}{ops:List a4}{k:IntKind}{a b:Nat}{v:AV}(hd:Nat.blt d n=true)(hw:wtL g n F=true)(h1:dn env n F z x=some (.i k (Int.ofNat a)))(h2:dn env n F z y=some (.i k (Int.ofNat b)))(h3:cmpO op a b=some v)(h:cg ck env aR D n ops (bB ((d,v)::F) z) J Q):cg ck env aR D n (⟨some d,.bin op x y,g,[]⟩::ops) (bB F z) J Q:=bin hd hw h1 h2 (ow h3) h
def len{d k m:Nat}{x:aJ}{g:Option (Nat×Bool)}{ops:List a4}{v:AV}(hd:Nat.blt d n=true)(hw:wtL g n F=true)(h1:dn env n F z x=some v)(h2:lenA J k v=some m)(h:cg ck env aR D n ops (bB ((d,ah m)::F) z) J Q):cg ck env aR D n (⟨some d,.len k x,g,[]⟩::ops) (bB F z) J Q:=val hd hw (xf h1 h2) h
def eR{d:Nat}{aa:Option Nat}{x i:aJ}{g:Option (Nat×Bool)}{ops:List a4}{k:IntKind}{a v:AV}{j:Nat}(hd:Nat.blt d n=true)(hw:wtL g n F=true)(h1:dn env n F z x=some a)(h2:dn env n F z i=some (.i k (Int.ofNat j)))(h3:idxSlA aa a j=some v)(h:cg ck env aR D n ops (bB ((d,v)::F) z) J Q):cg ck env aR D n (⟨some d,.bn aa x i,g,[]⟩::ops) (bB F z) J Q:=val hd hw (IK k a j v h1 h2 h3) h
def IN{d:Nat}{aa:Option Nat}{x:aJ}{g:Option (Nat×Bool)}{ops:List a4}{o:Bool}{v:AV}(hd:Nat.blt d n=true)(hw:wtL g n F=true)(h1:dn env n F z x=some (.dh o v))(h2:conf aa v=true)(h:cg ck env aR D n ops (bB ((d,v)::F) z) J Q):cg ck env aR D n (⟨some d,.load aa x,g,[]⟩::ops) (bB F z) J Q:=val hd hw (ou _ _ h1 (by show(if conf aa v then some v else none)=_;rw[if_pos h2])) h
def aA{L:List (Nat×List AV)}(H:Has J L){d:Nat}{aa:Option Nat}{x:aJ}{g:Option (Nat×Bool)}{ops:List a4}{id off:Nat}{c:List AV}{v:AV}(hd:Nat.blt d n=true)(hw:wtL g n F=true)(h1:dn env n F z x=some (.p (some (id,off))))(hm:(id,c)∈L)(h2:dV aa (c.drop off)=some v)(h:cg ck env aR D n ops (bB ((d,v)::F) z) J Q):cg ck env aR D n (⟨some d,.load aa x,g,[]⟩::ops) (bB F z) J Q:=val hd hw (ou _ _ h1 (vx (H.get _ hm) h2)) h
def l8{N:Nat}{cw:l7}{L:List (Nat×List AV)}(H:Has J L){d:Nat}{aa:Option Nat}{x:aJ}{g:Option (Nat×Bool)}{wn:List Nat}{ops:List a4}{id off:Nat}{c:List AV}{v:AV}(hd:Nat.blt d n=true)(hw:wtL g n F=true)(h1:dn env n F z x=some (.p (some (id,off))))(hm:(id,c)∈L)(h2:dV aa (c.drop off)=some v)(au:AV.eqb env.bp v v=true)
  (h:cg (.dw N (wn.map (λq=>(q,id,c))++cw)) env aR D n ops (bB ((d,v)::F) z) J Q):cg (.dw N cw) env aR D n (⟨some d,.load aa x,g,wn⟩::ops) (bB F z) J Q:=eu.l8 (H.get _ hm) hd (rf hw) (λs ao=>by rw[pf];exact ou _ _ h1 (vx ao h2)) au h
def sD{N:Nat}{cw:l7}{d:Nat}{op:AOp}{g:Option (Nat×Bool)}{wn:List Nat}{ops:List a4}{v:AV}(lK:cD (λq=>Nat.ble N (q+ops.length)&&Nat.ble q N) wn=true)(hd:Nat.blt d n=true)(hw:wtL g n F=true)(ho:∀s:ae,opx 0 (dn env n F z) s op=some (.val v s))(au:AV.eqb env.bp v v=true)(h:cg (.dw N cw) env aR D n ops (bB ((d,v)::F) z) J Q):cg (.dw N cw) env aR D n (⟨some d,op,g,wn⟩::ops) (bB F z) J Q:=eu.sD lK hd (rf hw) (λs=>by rw[pf];exact ho s) au h
def cC{L:List (Nat×List AV)}(H:Has J L){d:Nat}{v:AV}{g:Option (Nat×Bool)}{ops:List a4}{c:List AV}{k:Nat}(hn:J.next=k)(hd:Nat.blt d n=true)(hw:wtL g n F=true)(ab:v.cells=c)(h:∀τ:ae,τ.next=k+1->Has τ ((k,c)::L)->(∀i o,J.get i=some o->τ.get i=some o)->cg ck env aR D n ops (bB ((d,.p (some (k,0)))::F) z) τ Q):cg ck env aR D n (⟨some d,.alloc v,g,[]⟩::ops) (bB F z) J Q:=by
 subst hn;have dr:∀i o,J.get i=some o->(J.push (.cells c)).get i=some o:=λi o ho=>by rw[ae.gD trivial _ (ae.bt ho)];exact ho
 refine val (v:=j2 J.next 0) (ai:=J.push (.cells c)) hd hw (by rw[<-ab];rfl) (h (J.push (.cells c)) I (H.push I (ae.jL _) dr) dr)
def cA{L:List (Nat×List AV)}(H:Has J L){d:Nat}{x:aJ}{v:AV}{g:Option (Nat×Bool)}{ops:List a4}{c:List AV}{k:Nat}(hn:J.next=k)(hd:Nat.blt d n=true)(hw:wtL g n F=true)(au:dn env n F z x=some v)(hval:v.val=true)(ab:v.cells=c)(h:∀τ:ae,τ.next=k+1->Has τ ((k,c)::L)->(∀i o,J.get i=some o->τ.get i=some o)->cg ck env aR D n ops (bB ((d,.p (some (k,0)))::F) z) τ Q):cg ck env aR D n (⟨some d,.box x,g,[]⟩::ops) (bB F z) J Q:=by
 subst hn;have dr:∀i o,J.get i=some o->(J.push (.cells c)).get i=some o:=λi o ho=>by rw[ae.gD trivial _ (ae.bt ho)];exact ho
 refine val (v:=j2 J.next 0) (ai:=J.push (.cells c)) hd hw ?_ (h (J.push (.cells c)) I (H.push I (ae.jL _) dr) dr);show(match dn env n F z x with|some v=>cond v.val (some (bZ.val (j2 J.next 0) (J.push (.cells v.cells)))) none|none=>none)=_;rw[au];show cond v.val _ _=_;rw[hval,cond_true,ab]
def st{L:List (Nat×List AV)}(H:Has J L)(j:Nat){aa:Option Nat}{a x:aJ}{g:Option (Nat×Bool)}{ops:List a4}{id off:Nat}{v:AV}{c bD:List AV}(hw:wtL g n F=true)(h1:dn env n F z a=some (.p (some (id,off))))(ax:L[j]? =some (id,c))(h2:dn env n F z x=some v)(h7:conf aa v=true)(ab:storeCells c off v.cells=some bD)
  (h:∀τ:ae,τ.next=J.next->Has τ (L.set j (id,bD))->(∀i o,i≠id->J.get i=some o->τ.get i=some o)->cg ck env aR D n ops (bB F z) τ Q):cg ck env aR D n (⟨none,.store aa a x,g,[]⟩::ops) (bB F z) J Q:=by
 have ao:=H.get _ (fL ax);exact w8 hw (XP ao h1 h2 h7 ab) (h _ I (H.set j ax (jS ao).1 (jS ao).2) (jS ao).2)
def jj{L:List (Nat×List AV)}(H:Has J L){d:Nat}{v0 v:AV}{aa:Option Nat}{x:aJ}{ops:List a4}{c:List AV}{k:Nat}(hn:J.next=k)(hd:Nat.blt d n=true)(hx:dn env n ((d,.p (some (k,0)))::F) z x=some v)(h7:conf aa v=true)(ab:v.cells=c)(hl:c.length=v0.cells.length)(h1:Nat.beq d d=true)
  (h:∀τ:ae,τ.next=k+1->Has τ ((k,c)::L)->(∀i o,J.get i=some o->τ.get i=some o)->cg ck env aR D n ops (bB ((d,.p (some (k,0)))::F) z) τ Q):cg ck env aR D n (⟨some d,.alloc v0,none,[]⟩::⟨none,.store aa (.t d) x,none,[]⟩::ops) (bB F z) J Q:=by
 refine cC H hn hd I I λτ aX bc cq=>?_;have aL:dn env n ((d,.p (some (k,0)))::F) z (.t d)=some (.p (some (k,0))):=by
  show cond (Nat.blt d n) (match cond (Nat.beq d d) (some _) _ with|some v=>some v|none=>some (z d)) none=_;rw[hd,h1];rfl
 refine st bc 0 I aL I hx h7 (by rw[ab];exact storeAll hl) λa9 eF dE dW=>h a9 (eF.trans aX) dE λi o ho=>dW i o ?_ (cq i o ho);have:=ae.bt ho;omega
def e3{b:bT}{K:Nat->List AV->AV->Prop}{d:Nat}{op:AOp}{g:Option (Nat×Bool)}{ops:List a4}{fn:Nat}{args aQ:List AV}{r:AV}(hf:∀g aQ r b5,K g aQ r->K g aQ b5->r=b5)(e:b.ext fn=0/\b.pure fn=true)(c0:K fn aQ r)
  (hd:Nat.blt d n=true) (hw:wtL g n F=true) (ho:opx 0 (dn (b.aM K) n F z) J op=some (.call (.f (.func fn) [] []) args)) (ha:mapO (bM J (b.bp+1000)) args=some aQ) (h:cg ck (b.aM K) aR D n ops (bB ((d,r)::F) z) J Q):cg ck (b.aM K) aR D n (⟨some d,op,g,[]⟩::ops) (bB F z) J Q:=by
 cases ck with
 |pl=>exact aK.known hf e.1 e.2 c0 hd (rf hw) (by rw[pf];exact ho) ha h
 |dw N cw=>
  refine eu.call (ag:=λx τ=>x= .ok r/\τ=J) (λx e=>by cases e;exact hd) (rf hw) (by rw[pf];exact ho) ?_ (bE.spec e.1 e.2 (by rw[yQ,iL];exact ha) (OV hf c0) ⟨rfl,rfl⟩) λb5 τ ⟨aL,a5⟩=>⟨_,aL,by subst a5;exact h⟩
  intro F first cap args J
  show ji (callF (b.aM K) (exec (b.aM K) F) 0 fn (first++args++cap) J);unfold callF;rw[show(b.aM K).ext fn=0 from e.1];show ji (cond ((b.aM K).pure fn) _ _);rw[show(b.aM K).pure fn=true from e.2,cond_true]
  repeat' split
  all_goals first|trivial|exact⟨_,rfl⟩
def b5R(ck:l9)(env:Env)(g:Nat):Prop:=match ck with| .pl=>True| .dw _ _=>zo env g
def an{d:Nat}{op:AOp}{g:Option (Nat×Bool)}{ops:List a4}{aU:Nat}{first cap args:List AV}{ag:en->ae->Prop}(h1:b5R ck env aU)(hd:Nat.blt d n=true)(hw:wtL g n F=true)(ho:opx 0 (dn env n F z) J op=some (.call (.f (.func aU) first cap) args))
  (ab:bE env 0 (.f (.func aU) first cap) args J ag) (h:∀r τ,ag r τ->∃v,r= .ok v/\cg ck env aR D n ops (bB ((d,v)::F) z) τ Q):cg ck env aR D n (⟨some d,op,g,[]⟩::ops) (bB F z) J Q:=by
 cases ck with
 |pl=>exact aK.jh hd (rf hw) (by rw[pf];exact ho) ab h
 |dw N cw=>exact eu.call (λx e=>by cases e;exact hd) (rf hw) (by rw[pf];exact ho) h1 ab h
end
section
variable {ck:l9}{env:Env}{aR:Option Nat}{D:List (Nat ⊕ (AV×List AV))}{n:Nat}{f:Nat->AV}{J:ae}{Q:dZ}{d:Option Nat}{g:Option (Nat×Bool)}{wn:List Nat}{ops:List a4}
def I7{aa:Option Nat}{x:aJ}(h:cg ck env aR D n (⟨d,.load aa x,g,[]⟩::ops) f J Q):cg ck env aR D n (⟨d,.load aa x,g,[]⟩::ops) f J Q:=h
def O_{aa:Option Nat}{x:aJ}{a:Nat}{l:List Nat}(h:cg ck env aR D n (⟨d,.load aa x,g,a::l⟩::ops) f J Q):cg ck env aR D n (⟨d,.load aa x,g,a::l⟩::ops) f J Q:=h
def I8{op:BinOp}{x y:aJ}(h:cg ck env aR D n (⟨d,.bin op x y,g,wn⟩::ops) f J Q):cg ck env aR D n (⟨d,.bin op x y,g,wn⟩::ops) f J Q:=h
def I9{aa:Option Nat}{x y:aJ}(h:cg ck env aR D n (⟨d,.bn aa x y,g,wn⟩::ops) f J Q):cg ck env aR D n (⟨d,.bn aa x y,g,wn⟩::ops) f J Q:=h
def I_{k:Nat}{x:aJ}(h:cg ck env aR D n (⟨d,.len k x,g,wn⟩::ops) f J Q):cg ck env aR D n (⟨d,.len k x,g,wn⟩::ops) f J Q:=h
end
def lt{ck:l9}{env:Env}{aR:Option Nat}{D:List (Nat ⊕ (AV×List AV))}{n:Nat}{F:List (Nat×AV)}{z:Nat->AV}{J:ae}{Q:dZ}{d:Nat}{aa:Option Nat}{x:aJ}{g:Option (Nat×Bool)}{ops:List a4}{o:Bool}{v:AV}(hd:Nat.blt d n=true)(hw:wtL g n F=true)(h1:dn env n F z x=some (.dh o v))(h2:conf aa v=true)(h:cg ck env aR D n ops (bB ((d,v)::F) z) J Q):cg ck env aR D n (⟨some d,.load aa x,g,[]⟩::ops) (bB F z) J Q:=IN hd hw h1 h2 h
def pg:Nat->List AV->List (Nat×AV)
 |_,[]=>[]
 |i,a::l=>(i,a)::pg (i+1) l
def Ja{f:Nat->AV}:∀(l:List AV) (i:Nat),(∀j a,l[j]? =some a->f (i+j)=a)->sat (pg i l) f
 |[],_,_=>trivial
 |a::l,i,h=>⟨h 0 a I,Ja l (i+1) λj cH e=>by have:=h (j+1) cH e;rwa[show i+(j+1)=i+1+j from by omega] at this⟩
def args{env:Env}{aR:Option Nat}{D:List (Nat ⊕ (AV×List AV))}{n:Nat}{c:bF}{as:List AV}{J:ae}{Q:dZ}(h:∀z,bL env aR D n c (bB (pg 0 as) z) J Q):bL env aR D n c (fv as) J Q:=
 ak.norm (pg 0 as) (Ja as 0 λj a e=>by show as.getD (0+j) ei=a;rw[NS,yT,e];rfl) h
def code{env:Env}{J:ae}{fn:Nat}{b3:aN}{body:bF}{dw:Nat}{first cap args:List AV}{ag:en->ae->Prop}(e:env.ext fn=0)(aw:env.pure fn=false)(hf:env.funcs fn=some b3)(hb:b3.body=some body)
  (hn:(Nat.beq (first++args++cap).length b3.j0&&Nat.ble (first++args++cap).length b3.ntmps)=true) (df:b3.results=[(dw,none)]) (mH:Nat.blt dw b3.ntmps=true)
  (h:∀z,bL env none [] b3.ntmps body (bB (pg 0 (first++args++cap)) z) J (λx b_ ai=>x= .ret/\ag (.ok (b_ dw)) ai)):bE env 0 (.f (.func fn) first cap) args J ag:=bE.code e aw hf hb hn df mH (W.args h)
def pe{env:Env}{J:ae}{fn:Nat}{b3:aN}{body:bF}{first cap args:List AV}{ag:en->ae->Prop}(e:env.ext fn=0)(aw:env.pure fn=false)(hf:env.funcs fn=some b3)(hb:b3.body=some body)
  (hn:(Nat.beq (first++args++cap).length b3.j0&&Nat.ble (first++args++cap).length b3.ntmps)=true) (df:b3.results=[])
  (h:∀z,bL env none [] b3.ntmps body (bB (pg 0 (first++args++cap)) z) J (λx _ ai=>(x= .ret\/x= .normal)/\ag (.ok (.a0 [])) ai)):bE env 0 (.f (.func fn) first cap) args J ag:=bE.pe e aw hf hb hn df (W.args h)
end W
def AV.lf:AV->Bool
 | .b _=>true| .i _ _=>true| .s _=>true| .p _=>true| .al _ _ _ _ _=>true| .af=>true| .m _=>true| .eh=>true| .fP=>true| .y _=>true| .gu _ _=>true
 |_=>false
def ev{n:Nat}{v:AV}(h:v.lf=true):AV.eqb (n+1) v v=true:=by
 cases v with
 |b x=>show(x==x)=true;simp
 |i k x=>show(decide (k=k)&&decide (x=x))=true;simp
 |s l=>exact IM l
 |p a=>cases a with
  |none=>rfl
  |some a=>show(Nat.beq a.1 a.1&&Nat.beq a.2 a.2)=true;simp
 |al a b c d e=>show(Nat.beq a a&&Nat.beq b b&&Nat.beq c c&&decide (d=d)&&decide (e=e))=true;simp
 |af=>rfl
 |m r=>cases r with
  |none=>rfl
  |some r=>show Nat.beq r r=true;simp
 |eh=>rfl
 |fP=>rfl
 |y i=>show Nat.beq i i=true;simp
 |gu o i=>show((o==o)&&Nat.beq i i)=true;simp
 |_=>cases h
def Jb{n:Nat}{l:List AV}(h:cD AV.lf l=true):AV.eqb (n+2) (.R l) (.R l)=true:=ov λx hx=>ev (lJ h x hx)
def kp.j1{env:Env}{floor:Nat}{dX:Bool}{o:a4}{ops:List a4}{ad:Fr}{J:ae}{Q:sx}{l:List (AV×ae)}(hw:wantedA o.guard ad.bj=true)(ho:opx floor (evalA env ad.bj) J o.op=some (.j1 l))(hl:l≠[])
  (h:∀p∈l,kp env floor dX ops (ad.put o.dst p.1) p.2 Q):kp env floor dX (o::ops) ad J Q:=by
 have:=dx.flat (g:=λ(p:AV×ae) F=>runOps env floor (callV env (exec env F) floor) dX ops (ad.put o.dst p.1) p.2) (Q:=λ(o:fZ×Fr×ae)=>Q o.1 o.2.1 o.2.2) l hl h;refine dx.congr this λF=>?_;rw[yZ,hw,cond_true,ho]
section
variable {env:Env}{aR:Option Nat}{D:List (Nat ⊕ (AV×List AV))}{n:Nat}{f:Nat->AV}{J:ae}{Q:dZ}
def aK.j1{d:Nat}{op:AOp}{g:Option (Nat×Bool)}{wn:List Nat}{ops:List a4}{l:List (AV×ae)}(hd:Nat.blt d n=true)(hw:gV g n f=true)(ho:opx 0 (dJ env n f) J op=some (.j1 l))(hl:l≠[])
  (h:∀p∈l,dC env aR D n ops (dd f d p.1) p.2 Q):dC env aR D n (⟨some d,op,g,wn⟩::ops) f J Q:=λad bH=>
 kp.j1 (by rw[bH.wanted];exact hw) (by rw[bH.ar];exact ho) hl λp aw=>h p aw _ (bH.put p.1 hd)
end
end
end Go.Lyc
end
