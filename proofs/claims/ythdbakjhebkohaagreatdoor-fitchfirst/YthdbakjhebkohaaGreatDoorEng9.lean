/-
  An abstract executor of the program's code, and that it is sound, part 3. No conditions: definitions and laws.
-/
import Derived.Test.YthdbakjhebkohaaGreatDoorEng2
import Derived.Carry
import Derived.OpenShut
import Derived.ChangeSlices
set_option linter.all false
noncomputable section
namespace Go.Lyc
set_option maxHeartbeats 0
variable [Tok][TokOk]
open Go.RowKit
def cR(f:Nat->AV)(d:Nat)(v:AV):Nat->AV:=λi=>cond (Nat.beq i d) v (f i)
structure g6(D:List (Nat ⊕ (AV×List AV)))(n:Nat)(f:Nat->AV)(ab:Fr):Prop where
 get:∀i,ab.a_.get i=if i<n then some (f i) else none
 ds:ab.defers=D
 rc:ab.fi=false
theorem g6.put{D:List (Nat ⊕ (AV×List AV))}{n d:Nat}{f:Nat->AV}{ab:Fr}(h:g6 D n f ab)(v:AV)(hd:Nat.blt d n=true):g6 D n (cR f d v) (ab.put (some d) v):=by
 have hd:d<n:=Nat.le_of_ble_eq_true hd;refine⟨λi=>?_,h.ds,h.rc⟩;show(ab.a_.set d v).get i=_;rw[aX.h5,h.get d,h.get i,if_pos hd];by_cases hi:i=d
 ·subst hi;rw[if_pos I,if_pos hd];show some v=some (cond (Nat.beq i i) v (f i));rw[Nat.beq_refl];rfl
 ·rw[if_neg hi];have:cR f d v i=f i:=by
   show cond (Nat.beq i d) v (f i)=f i;cases hb:Nat.beq i d with
   |false=>rfl
   |true=>exact absurd (Nat.eq_of_beq_eq_true hb) hi
  rw[this]
def da(env:Env)(n:Nat)(f:Nat->AV):aF->Option AV
 | .t i=>cond (Nat.blt i n) (some (f i)) none
 | .c v=>some v
 | .g g=>match env.kS g with|some v=>some (.df true v)|none=>none
theorem g6.aq{D:List (Nat ⊕ (AV×List AV))}{n:Nat}{f:Nat->AV}{ab:Fr}(h:g6 D n f ab)(env:Env):evalA env ab.a_=da env n f:=by
 funext x
 cases x with
 |t i=>
  show ab.a_.get i=cond (Nat.blt i n) (some (f i)) none;rw[h.get];by_cases hi:i<n
  ·rw[if_pos hi,show Nat.blt i n=true from Nat.ble_eq_true_of_le hi];rfl
  ·rw[if_neg hi,show Nat.blt i n=false from by cases hb:Nat.blt i n with|false=>rfl|true=>exact absurd (Nat.le_of_ble_eq_true hb) hi];rfl
 |c v=>rfl
 |g g=>rfl
def fQ(g:Option (Nat×Bool))(n:Nat)(f:Nat->AV):Bool:=
 match g with
 |none=>true
 |some (d,w)=>cond (Nat.blt d n) (match f d with| .b x=>x==w|_=>false) false
theorem g6.wanted{D:List (Nat ⊕ (AV×List AV))}{n:Nat}{f:Nat->AV}{ab:Fr}(h:g6 D n f ab)(g:Option (Nat×Bool)):wantedA g ab.a_=fQ g n f:=by
 cases g with
 |none=>rfl
 |some p=>
  obtain⟨d,w⟩:=p;show(match ab.a_.get d with|some (.b x)=>x==w|_=>false)=cond (Nat.blt d n) _ false;rw[h.get];by_cases hi:d<n
  ·rw[if_pos hi,show Nat.blt d n=true from Nat.ble_eq_true_of_le hi,cond_true];cases f d<;>rfl
  ·rw[if_neg hi,show Nat.blt d n=false from by cases hb:Nat.blt d n with|false=>rfl|true=>exact absurd (Nat.le_of_ble_eq_true hb) hi];rfl
abbrev dS:=fa->(Nat->AV)->ad->Prop
def xE(D:List (Nat ⊕ (AV×List AV)))(n:Nat)(Q:dS):pJ:=λx ab J=>∃f,g6 D n f ab/\Q x f J
def bO(env:Env)(aJ:Option Nat)(D:List (Nat ⊕ (AV×List AV)))(n:Nat)(c:bF)(f:Nat->AV)(J:ad)(Q:dS):Prop:=∀ab,g6 D n f ab->fv env 0 aJ c ab J (xE D n Q)
def dj(env:Env)(aJ:Option Nat)(D:List (Nat ⊕ (AV×List AV)))(n:Nat)(ops:List aY)(f:Nat->AV)(J:ad)(Q:dS):Prop:=∀ab,g6 D n f ab->iV env 0 aJ.isNone ops ab J (xE D n Q)
abbrev aj(env:Env):=bO env none []
section
variable {env:Env}{aJ:Option Nat}{D:List (Nat ⊕ (AV×List AV))}{n:Nat}{f:Nat->AV}{J:ad}{Q:dS}
theorem bO.mono{c:bF}{mh:dS}(h:bO env aJ D n c f J Q)(aS:∀x f J,Q x f J->mh x f J):bO env aJ D n c f J mh:=λab bq=>(h ab bq).mono λ_ _ _ ⟨f,h1,h2⟩=>⟨f,h1,aS _ _ _ h2⟩
theorem aj.skip(h:Q .normal f J):bO env aJ D n .skip f J Q:=λ_ bq=>fv.skip ⟨f,bq,h⟩
theorem aj.ret(h:Q .ret f J):bO env aJ D n .ret f J Q:=λ_ bq=>fv.ret ⟨f,bq,h⟩
theorem aj.exit{id:Nat}(h:Q (.exit id) f J):bO env aJ D n (.exit id) f J Q:=λ_ bq=>fv.exit ⟨f,bq,h⟩
theorem aj.region{ops:List aY}(h:dj env aJ D n ops f J Q):bO env aJ D n (.region ops) f J Q:=λab bq=>fv.region (h ab bq)
theorem aj.seq{a b:bF}(h:bO env aJ D n a f J (λx f J=>match x with| .normal=>bO env aJ D n b f J Q|x=>Q x f J)):bO env aJ D n (.seq a b) f J Q:=λab bq=>fv.seq ((h ab bq).mono λx ab J ⟨f,h1,h2⟩=>by
 cases x with
 |normal=>exact h2 ab h1
 |exit i=>exact⟨f,h1,h2⟩
 |ret=>exact⟨f,h1,h2⟩
 |panic v=>exact⟨f,h1,h2⟩)
theorem aj.block{a:bF}{id:Nat}(h:bO env aJ D n a f J (λx f J=>match x with| .exit j=>cond (Nat.beq j id) (Q .normal f J) (Q (.exit j) f J)|x=>Q x f J)):bO env aJ D n (.block id a) f J Q:=λab bq=>fv.block ((h ab bq).mono λx ab J ⟨f,h1,h2⟩=>by
 cases x with
 |normal=>exact⟨f,h1,h2⟩
 |exit i=>
  have h2:cond (Nat.beq i id) (Q .normal f J) (Q (.exit i) f J):=h2;show if i=id then xE D n Q .normal ab J else xE D n Q (.exit i) ab J
  cases hb:Nat.beq i id with
  |false=>rw[if_neg (λh=>by rw[h,Nat.beq_refl] at hb;cases hb)];rw[hb] at h2;exact⟨f,h1,h2⟩
  |true=>rw[if_pos (Nat.eq_of_beq_eq_true hb)];rw[hb] at h2;exact⟨f,h1,h2⟩
 |ret=>exact⟨f,h1,h2⟩
 |panic v=>exact⟨f,h1,h2⟩)
theorem aj.hJ{o:aF}{a b:bF}{t:Bool}(ho:da env n f o=some (.b t))(ht:t=true->bO env aJ D n a f J Q)(hf:t=false->bO env aJ D n b f J Q):bO env aJ D n (.cond o a b) f J Q:=λab bq=>
 fv.hJ (by rw[bq.aq];exact ho) (λh=>ht h ab bq) (λh=>hf h ab bq)
theorem aj.loop{a:bF}(ed:Nat->(Nat->AV)->ad->Prop)(aV:∀m f J,ed m f J->bO env aJ D n a f J (λx bW af=>match x with| .normal=>∃aP,aP<m/\ed aP bW af|x=>Q x bW af))(m:Nat)(h:ed m f J):bO env aJ D n (.loop a) f J Q:=λab bq=>
 fv.loop (Q:=xE D n Q) (λm ab J=>∃f,g6 D n f ab/\ed m f J) (λm ab J ⟨f,h1,h2⟩=>(aV m f J h2 ab h1).mono λx a9 af ⟨bW,h3,aQ⟩=>by
  cases x with
  |normal=>obtain⟨aP,bJ,cu⟩:=aQ;exact⟨aP,bJ,bW,h3,cu⟩
  |exit i=>exact⟨bW,h3,aQ⟩
  |ret=>exact⟨bW,h3,aQ⟩
  |panic v=>exact⟨bW,h3,aQ⟩) m ab J ⟨f,bq,h⟩
theorem aE.nil(h:Q .normal f J):dj env aJ D n [] f J Q:=λ_ bq=>iV.nil ⟨f,bq,h⟩
theorem aE.val{d:Nat}{op:AOp}{g:Option (Nat×Bool)}{wn:List Nat}{ops:List aY}{v:AV}{af:ad}(hd:Nat.blt d n=true)(hw:fQ g n f=true)(ho:opx 0 (da env n f) J op=some (.val v af))(h:dj env aJ D n ops (cR f d v) af Q):
  dj env aJ D n (⟨some d,op,g,wn⟩::ops) f J Q:=λab bq=>iV.val (by rw[bq.wanted];exact hw) (by rw[bq.aq];exact ho) (h _ (bq.put v hd))
theorem aE.tl{op:AOp}{g:Option (Nat×Bool)}{wn:List Nat}{ops:List aY}{v:AV}{af:ad}(hw:fQ g n f=true)(ho:opx 0 (da env n f) J op=some (.val v af))(h:dj env aJ D n ops f af Q):
  dj env aJ D n (⟨none,op,g,wn⟩::ops) f J Q:=λab bq=>iV.val (by rw[bq.wanted];exact hw) (by rw[bq.aq];exact ho) (h _ bq)
theorem aE.off{d:Nat}{op:AOp}{g:Option (Nat×Bool)}{wn:List Nat}{ops:List aY}(hd:Nat.blt d n=true)(hw:fQ g n f=false)(h:dj env aJ D n ops (cR f d dB) J Q):
  dj env aJ D n (⟨some d,op,g,wn⟩::ops) f J Q:=λab bq=>iV.off (by rw[bq.wanted];exact hw) (h _ (bq.put _ hd))
theorem aE.spec{d:Nat}{op:AOp}{g:Option (Nat×Bool)}{wn:List Nat}{ops:List aY}{fn:Nat}{args aW:List AV}{r:AV}(hd:Nat.blt d n=true)(hw:fQ g n f=true)(ho:opx 0 (da env n f) J op=some (.call (.f (.func fn) [] []) args))
  (he:env.ext fn=0) (ar:env.pure fn=true) (ha:mapO (bG J env.bn) args=some aW) (ao:env.spec fn aW=some r) (h:dj env aJ D n ops (cR f d r) J Q):dj env aJ D n (⟨some d,op,g,wn⟩::ops) f J Q:=λab bq=>
 iV.call (by rw[bq.wanted];exact hw) (by rw[bq.aq];exact ho) (bu.spec he ar (by simpa using ha) ao (h _ (bq.put r hd)))
end
def sat:List (Nat×AV)->(Nat->AV)->Prop
 |[],_=>True
 |(i,v)::L,f=>f i=v/\sat L f
def bs:List (Nat×AV)->(Nat->AV)->Nat->AV
 |[],f=>f
 |(i,v)::L,f=>cR (bs L f) i v
theorem a7g{f:Nat->AV}{i:Nat}{v:AV}(h:f i=v):cR f i v=f:=by
 funext j
 show cond (Nat.beq j i) v (f j)=f j;cases hb:Nat.beq j i with
 |false=>rfl
 |true=>rw[Nat.eq_of_beq_eq_true hb,h];rfl
theorem Ah:∀ {L:List (Nat×AV)} {f:Nat->AV},sat L f->bs L f=f
 |[],_,_=>rfl
 |(i,v)::L,f,⟨h1,h2⟩=>by
  show cR (bs L f) i v=f;rw[Ah h2,a7g h1]
theorem aj.norm{env:Env}{aJ:Option Nat}{D:List (Nat ⊕ (AV×List AV))}{n:Nat}{c:bF}{f:Nat->AV}{J:ad}{Q:dS}(L:List (Nat×AV))(ao:sat L f)(h:∀g,bO env aJ D n c (bs L g) J Q):bO env aJ D n c f J Q:=by
 rw[<-Ah ao];exact h f
section
variable {floor:Nat}{aq:aF->Option AV}{J:ad}
theorem mi{U:Option Nat}{a:aF}(p v:AV)(h1:aq a=some p)(h2:pc J U p=some v):opx floor aq J (.load U a)=some (.val v J):=by
 show(match aq a with|some p=>(match pc J U p with|some v=>some (bL.val v J)|none=>none)|none=>none)=_;rw[h1];show(match pc J U p with|some v=>some (bL.val v J)|none=>none)=_;rw[h2]
theorem sc{U:Option Nat}{id off:Nat}{c:List AV}{v:AV}(h1:J.get id=some (.cells c))(h2:dI U (c.drop off)=some v):pc J U (.p (some (id,off)))=some v:=by
 show(match J.get id with|some (.cells c)=>dI U (c.drop off)|_=>none)=_;rw[h1];exact h2
theorem DL{U:Option Nat}{x i:aF}(k:IntKind)(a:AV)(j:Nat)(v:AV)(h1:aq x=some a)(h2:aq i=some (.i k (Int.ofNat j)))(h3:idxSlA U a j=some v):opx floor aq J (.bl U x i)=some (.val v J):=by
 show(match aq x,aq i with|some x,some j=>(match natOf j with|some j=>(match idxSlA U x j with|some v=>some (bL.val v J)|none=>none)|none=>none)|_,_=>none)=_;rw[h1,h2];show(match idxSlA U a j with|some v=>some (bL.val v J)|none=>none)=_;rw[h3]
theorem RN{o:Bool}{U:Option Nat}{xs:List AV}{j:Nat}{v:AV}(h:nth xs j=some v):idxSlA U (.a7 o U xs) j=some (.df o v):=by
 show(if U=U then(match nth xs j with|some v=>some (AV.df o v)|none=>none) else none)=_;rw[if_pos I,h]
theorem Ai{op:BinOp}{x y:aF}(a b v:AV)(h1:aq x=some a)(h2:aq y=some b)(h3:binop op a b=some v):opx floor aq J (.bin op x y)=some (.val v J):=by
 show(match aq x,aq y with|some a,some b=>(match binop op a b with|some v=>some (bL.val v J)|none=>none)|_,_=>none)=_;rw[h1,h2];show(match binop op a b with|some v=>some (bL.val v J)|none=>none)=_;rw[h3]
end
abbrev ah(n:Nat):AV:=.i .i64 (Int.ofNat n)
theorem a7h{n:Nat}(h:n<2^63):IntKind.wrap .i64 (n:Int)=(n:Int):=by
 have h:(n:Int)<9223372036854775808:=by omega
 simp only[IntKind.wrap,IntKind.bits,IntKind.signed];simp;omega
def vx(a b:Nat):Nat:=a ^^^ (a &&& b)
theorem a7i(a b:Nat){k:Nat}(h:a<2^k):vx a b<2^k:=Nat.xor_lt_two_pow h (Nat.lt_of_le_of_lt Nat.and_le_left h)
theorem RO{α:Type}:∀(l:List α) (k:Nat) (t:aX α) (i:Nat),(aX.lay l k t).get i=if k<=i then(match l[i-k]? with|some x=>(t.get i).map (λ_=>x)|none=>t.get i) else t.get i
 |[],k,t,i=>by
  show t.get i=_;split<;>simp
 |x::l,k,t,i=>by
  show(aX.lay l (k+1) (t.set k x)).get i=_;rw[RO l (k+1) (t.set k x) i,aX.h5];by_cases h1:k+1<=i
  ·have h2:k<=i:=by omega
   have h3:i≠k:=by omega
   have aQ:(x::l)[i-k]? =l[i-(k+1)]? :=by
    rw[show i-k=(i-(k+1))+1 from by omega];rfl
   rw[if_pos h1,if_pos h2,if_neg h3,aQ]
  ·rw[if_neg h1];by_cases h2:i=k
   ·subst h2;rw[if_pos I,if_pos (Nat.le_refl _),Nat.sub_self];rfl
   ·rw[if_neg h2,if_neg (by omega)]
def fR(args:List AV):Nat->AV:=λi=>args.getD i dB
theorem sd{fn:aI}{args:List AV}(h:args.length<=fn.ntmps):g6 [] fn.ntmps (fR args) (rH fn args):=by
 refine⟨λi=>?_,rfl,rfl⟩;show(aX.lay args 0 (aX.full fn.ntmps dB fn.ntmps)).get i=_;rw[RO,if_pos (Nat.zero_le _),Nat.sub_zero];by_cases hi:i<fn.ntmps
 ·rw[if_pos hi,aX.CE _ _ _ _ hi (Nat.le_refl _)];show _=some (args.getD i dB);rw[List.getD_eq_getElem?_getD];cases args[i]? <;>rfl
 ·rw[if_neg hi,List.getElem?_eq_none (by omega)];cases hg:(aX.full fn.ntmps dB fn.ntmps).get i with
  |none=>rfl
  |some y=>exact absurd (aX.CF _ _ _ _ _ hg).2 hi
theorem RP{env:Env}{floor:Nat}{fn:aI}{n d:Nat}{f:Nat->AV}{ab:Fr}{J:ad}(h1:g6 [] n f ab)(c0:fn.results=[(d,none)])(hd:Nat.blt d n=true):endF env floor fn (.ret,ab,J)=some [(.ok (f d),J)]:=by
 show(match leave floor (callD env floor) ab.defers none J with
  |none=>none
  |some (some v,J)=>some [(dR.err v,J)]
  |some (none,J)=>match resultsOf J ab.a_ fn.results with
   |some v=>some [(.ok v,J)]
   |none=>none)=_
 rw[h1.ds];show(match resultsOf J ab.a_ fn.results with|some v=>some [(dR.ok v,J)]|none=>none)=_;rw[c0];have hg:=h1.get d;have Ju:d<n:=Nat.le_of_ble_eq_true hd;rw[if_pos Ju] at hg;have:resultsOf J ab.a_ [(d,none)]=some (f d):=by
  unfold resultsOf;have aN:resultOf J ab.a_ (d,none)=some (f d):=by
   unfold resultOf;rw[hg]
  have e:mapO (resultOf J ab.a_) [(d,none)]=some [f d]:=by
   unfold mapO;simp only[aN]
  rw[e]
 rw[this]
theorem a7j{P:Program}{env:Env}{m:Nat}(hm:m<=env.bn)(fO:qI P env)(eP:DG P env)(hex:xm P env)(lD:P.follows .mixedOrders=true){g:Nat}{fn:aI}{body:bF}{aW:List AV}{d:Nat}(r:AV)(hf:env.funcs g=some fn)(hb:fn.body=some body)
  (hn:(Nat.beq aW.length fn.jg&&Nat.ble aW.length fn.ntmps)=true) (c0:fn.results=[(d,none)]) (hd:Nat.blt d fn.ntmps=true) {ab:Nat} (ak:fe ab r=true) (hj:AV.eqb m r r=true)
  (h:aj env fn.ntmps body (fR aW) ⟨.nil,0⟩ (λx f af=>x= .ret/\freeze af 0 m (f d)=some r)) (b6:Nat):SpecEntry P env b6 g aW r:=by
 have hle:aW.length<=fn.ntmps:=by
  simp only[Bool.and_eq_true] at hn;exact Nat.le_of_ble_eq_true hn.2
 refine DK hm fO eP hex lD hf hb hn ak ((h _ (sd hle)).mono λx ab af ⟨f,h1,h2,h3⟩=>?_) hj b6;subst h2;exact⟨.ok (f d),af,RP h1 c0 hd,_,rfl,h3⟩
open Classical in
def Aj(K:Nat->List AV->AV->Prop):Nat->List AV->Option AV:=λg aW=>if h:∃r,K g aW r then some (Classical.choose h) else none
theorem Jv{K:Nat->List AV->AV->Prop}(hf:∀g aW r cw,K g aW r->K g aW cw->r=cw){g:Nat}{aW:List AV}{r:AV}(h:K g aW r):Aj K g aW=some r:=by
 have hex:∃r,K g aW r:=⟨r,h⟩
 unfold Aj;rw[dif_pos hex];exact congrArg some (hf g aW _ _ (Classical.choose_spec hex) h)
theorem DM{K:Nat->List AV->AV->Prop}{g:Nat}{aW:List AV}{r:AV}(h:Aj K g aW=some r):K g aW r:=by
 unfold Aj at h;split at h
 ·rename_i hex;cases h;exact Classical.choose_spec hex
 ·cases h
def b8.aM(b:b8)(K:Nat->List AV->AV->Prop):Env:={funcs:=b.funcs.get,kS:=b.kS,pure:=b.pure,spec:=Aj K,bn:=b.bn+1000,ext:=b.ext}
def Ak(P:Program)(b:b8)(K:Nat->List AV->AV->Prop):Prop:=∀g aW r,K g aW r->∀b6,SpecEntry P (b.env []) b6 g aW r
theorem mW{P:Program}{b:b8}{K:Nat->List AV->AV->Prop}(hb:kH P b)(cM:Ak P b K){g:Nat}{fn:aI}{body:bF}{aW:List AV}{d:Nat}(r:AV)(hf:b.funcs.get g=some fn)(hF:fn.body=some body)
  (hn:(Nat.beq aW.length fn.jg&&Nat.ble aW.length fn.ntmps)=true) (c0:fn.results=[(d,none)]) (hd:Nat.blt d fn.ntmps=true) {ab:Nat} (ak:fe ab r=true) (hj:AV.eqb 1000 r r=true)
  (h:aj (b.aM K) fn.ntmps body (fR aW) ⟨.nil,0⟩ (λx f af=>x= .ret/\freeze af 0 1000 (f d)=some r)) (b6:Nat):SpecEntry P (b.env []) b6 g aW r:=
 a7j (env:=b.aM K) (m:=1000) (Nat.le_add_left _ _) ⟨λg b1 hg=>k5.vs hb.funcs g b1 hg⟩ (λb6 g aW r ao=>cM g aW r (DM ao) b6) hb.ext hb.xD r hf hF hn c0 hd ak hj h b6
def a7k(env:Env)(J:ad)(w:qs):Prop:=∃v,opx 0 (evalA env w.2.1) J w.1.op=some (.val v J)/\AV.eqb env.bn v w.2.2=true
def dX(env:Env)(D:List (Nat ⊕ (AV×List AV)))(n:Nat)(ops:List aY)(f:Nat->AV)(J:ad)(Q:(Nat->AV)->Prop):Prop:=
 ∀ab,g6 D n f ab->∃eU a9 bW wn,(∀F,eU<=F->∀cp ws,h4 env 0 (callV env (exec env F) 0) ops ab cp ws J=some (a9,List.replicate ops.length J++cp,wn++ws,J))/\g6 D n bW a9/\Q bW/\∀w∈wn,a7k env J w/\w.1∈ops
section
variable {env:Env}{aJ:Option Nat}{D:List (Nat ⊕ (AV×List AV))}{n:Nat}{f:Nat->AV}{J:ad}{Q:(Nat->AV)->Prop}
theorem Jw(k:Nat)(cp:List ad):List.replicate k J++J::cp=List.replicate (k+1) J++cp:=by
 rw[List.replicate_succ',List.append_assoc];rfl
theorem dX.nil(h:Q f):dX env D n [] f J Q:=λab bq=>⟨0,ab,f,[],λ_ _ _ _=>rfl,bq,h,λ_ hw=>absurd hw (by simp)⟩
theorem dX.val{d:Nat}{op:AOp}{g:Option (Nat×Bool)}{ops:List aY}{v:AV}(hd:Nat.blt d n=true)(hw:fQ g n f=true)(ho:opx 0 (da env n f) J op=some (.val v J))(h:dX env D n ops (cR f d v) J Q):
  dX env D n (⟨some d,op,g,[]⟩::ops) f J Q:=λab bq=>by
 obtain⟨eU,a9,bW,wn,h1,h2,h3,aQ⟩:=h _ (bq.put v hd);refine⟨eU,a9,bW,wn,λF b_ cp ws=>?_,h2,h3,λw hw=>⟨(aQ w hw).1,List.mem_cons_of_mem _ (aQ w hw).2⟩⟩;rw[runDraw_cons];show cond (wantedA g ab.a_) _ _=_;rw[bq.wanted,hw,cond_true,bq.aq,ho];show h4 env 0 _ ops (ab.put (some d) v) (J::cp) ws J=_;rw[h1 F b_,Jw];rfl
theorem dX.off{d:Nat}{op:AOp}{g:Option (Nat×Bool)}{wn:List Nat}{ops:List aY}(hd:Nat.blt d n=true)(hw:fQ g n f=false)(h:dX env D n ops (cR f d dB) J Q):
  dX env D n (⟨some d,op,g,wn⟩::ops) f J Q:=λab bq=>by
 obtain⟨eU,a9,bW,wn,h1,h2,h3,aQ⟩:=h _ (bq.put _ hd);refine⟨eU,a9,bW,wn,λF b_ cp ws=>?_,h2,h3,λw hw=>⟨(aQ w hw).1,List.mem_cons_of_mem _ (aQ w hw).2⟩⟩;rw[runDraw_cons];show cond (wantedA g ab.a_) _ _=_;rw[bq.wanted,hw,cond_false,h1 F b_,Jw];rfl
theorem dX.spec{d:Nat}{op:AOp}{g:Option (Nat×Bool)}{wn:List Nat}{ops:List aY}{fn:Nat}{args aW:List AV}{r:AV}(hd:Nat.blt d n=true)(hw:fQ g n f=true)(ho:opx 0 (da env n f) J op=some (.call (.f (.func fn) [] []) args))
  (he:env.ext fn=0) (ar:env.pure fn=true) (ha:mapO (bG J env.bn) args=some aW) (ao:env.spec fn aW=some r) (h:dX env D n ops (cR f d r) J Q):dX env D n (⟨some d,op,g,wn⟩::ops) f J Q:=λab bq=>by
 obtain⟨eU,a9,bW,wn,h1,h2,h3,aQ⟩:=h _ (bq.put _ hd);refine⟨eU,a9,bW,wn,λF b_ cp ws=>?_,h2,h3,λw hw=>⟨(aQ w hw).1,List.mem_cons_of_mem _ (aQ w hw).2⟩⟩;rw[runDraw_cons];show cond (wantedA g ab.a_) _ _=_;have aa:callV env (exec env F) 0 (.f (.func fn) [] []) args J=some [(.ok r,J)]:=by
  show callF env (exec env F) 0 fn ([]++args++[]) J=_;unfold callF;rw[he];show cond (env.pure fn) _ _=_;rw[ar,cond_true,List.nil_append,List.append_nil,ha];show(match env.spec fn aW with|some r=>_|none=>_)=_;rw[ao]
 rw[bq.wanted,hw,cond_true,bq.aq,ho];show(match callV env (exec env F) 0 (.f (.func fn) [] []) args J with|some [(.ok v,af)]=>h4 env 0 _ ops (ab.put (some d) v) (J::cp) ws af|_=>none)=_;rw[aa];show h4 env 0 _ ops (ab.put (some d) r) (J::cp) ws J=_;rw[h1 F b_,Jw];rfl
def a7l(ops:List aY):Bool:=cr (λo=>cr (λq=>Nat.ble q ops.length) o.iS) ops
def swapT(ops:List aY):Bool:=match ops.reverse with|y::_=>(match y.iS with|[]=>true|_::_=>false)|[]=>true
theorem Jx{env:Env}{al:aX AV}{ops:List aY}(h:swapT ops=true):swapOk env al ops=true:=by
 unfold swapT at h;unfold swapOk;cases ak:ops.reverse with
 |nil=>rfl
 |cons y t=>
  rw[ak] at h;cases t with
  |nil=>rfl
  |cons x t=>
   cases hw:y.iS with
   |nil=>simp only[hw]
   |cons a l=>simp only[hw] at h;cases h
theorem kI{α:Type}{p:α->Bool}{l:List α}(h:cr p l=true):∀x∈l,p x=true:=λx hx=>l3 h x hx
theorem RQ{α:Type}(x:α):∀ {k q:Nat},q<k->nth (List.replicate k x) q=some x
 |0,q,h=>by omega
 |k+1,0,_=>rfl
 |k+1,q+1,h=>by
  show nth (List.replicate k x) q=some x;exact RQ x (by omega)
theorem aj.draw{ops:List aY}{Q:dS}(hw:a7l ops=true)(ao:swapT ops=true)(h:dX env D n ops f J (λbW=>Q .normal bW J)):bO env aJ D n (.draw ops) f J Q:=λab bq=>by
 obtain⟨eU,a9,bW,wn,h1,h2,h3,aQ⟩:=h ab bq;refine⟨eU+1,[(.normal,a9,J)],by simp,λF b_=>?_,λo ho=>?_⟩
 ·obtain⟨k,rfl⟩:∃k,F=k+1:=⟨F-1,by omega⟩
  show exec env (k+1) 0 aJ (bF.draw ops) ab J=_;rw[mb];show(match h4 env 0 (callV env (exec env k) 0) ops ab [] [] J with
   |some (a9,cp,ws,af)=>cond (ws.all (steady env 0 (af::cp).reverse)&&swapOk env a9.a_ ops) (some [(fa.normal,a9,af)]) none
   |none=>none)=_
  rw[h1 k (by omega)];show cond ((wn++[]).all (steady env 0 (J::(List.replicate ops.length J++[])).reverse)&&swapOk env a9.a_ ops) (some [(fa.normal,a9,J)]) none=_;rw[List.append_nil,List.append_nil,Jx ao,Bool.and_true];have:wn.all (steady env 0 (J::List.replicate ops.length J).reverse)=true:=by
   rw[List.all_eq_true];intro w j6;obtain⟨⟨v,r4,qU⟩,fq⟩:=aQ w j6;unfold steady;refine iv λq aS=>?_;have DF:q<=ops.length:=Nat.le_of_ble_eq_true (kI (kI hw w.1 fq) q aS);have:(J::List.replicate ops.length J).reverse=List.replicate (ops.length+1) J:=by
    rw[<-List.replicate_succ,List.reverse_replicate]
   rw[this,RQ J (by omega)];show(match qq w.1.op 0 (evalA env w.2.1) J with|some (.val v _)=>AV.eqb env.bn v w.2.2|_=>false)=true;rw[u_,r4];exact qU
  rw[this];rfl
 ·rw[List.mem_singleton.1 ho];exact⟨bW,h2,h3⟩
end
def Snp(n:Nat)(v:AV):Prop:=∀J,bG J n v=some v
theorem RR{α:Type}{f:AV->Option AV}{g h:α->AV}:∀ {l:List α},(∀x∈l,f (g x)=some (h x))->mapO f (l.map g)=some (l.map h)
 |[],_=>rfl
 |x::l,hx=>by rw[List.map_cons,nI,hx x (by simp),RR λy hy=>hx y (List.mem_cons_of_mem _ hy)];rfl
theorem Snp.i(n:Nat)(k:IntKind)(x:Int):Snp (n+1) (.i k x):=λ_=>rfl
theorem Snp.b(n:Nat)(x:Bool):Snp (n+1) (.b x):=λ_=>rfl
theorem oD{α:Type}{f:α->α->Bool}:∀ {l:List α},(∀x∈l,f x x=true)->ft f l l=true
 |[],_=>rfl
 |x::l,h=>by
  show cond (f x x) (ft f l l) false=true;rw[h x (by simp),cond_true];exact oD λy hy=>h y (List.mem_cons_of_mem _ hy)
theorem DN:∀l,eqL l l=true
 |[]=>rfl
 |x::l=>by
  show cond (Nat.beq x x) (eqL l l) false=true;rw[Nat.beq_refl,cond_true,DN l]
theorem Snp.eqb:∀(n:Nat) (v:AV),Snp n v->AV.eqb n v v=true
 |0,v,h=>by have:=h ⟨.nil,0⟩;cases this
 |n+1,v,h=>by
  have aD:=Snp.eqb n;cases v with
  |b x=>show(x==x)=true;simp
  |i k x=>show(decide (k=k)&&decide (x=x))=true;simp
  |s l=>exact DN l
  |p a=>cases a with
   |none=>rfl
   |some a=>have:=h ⟨.nil,0⟩;cases this
  |df o v=>have:=h ⟨.nil,0⟩;cases this
  |al a b c d e=>
   have ao:=h ⟨.nil,0⟩;have:bG ⟨.nil,0⟩ (n+1) (.al a b c d e)=(match readList ⟨.nil,0⟩ (.al a b c d e) with|none=>none|some xs=>match mapO (bG ⟨.nil,0⟩ n) xs with|none=>none|some xs=>some (AV.a7 true d xs)):=rfl;rw[this] at ao;split at ao
   ·cases ao
   ·split at ao<;>cases ao
  |ae=>rfl
  |a7 o U xs=>
   have ao:=h ⟨.nil,0⟩;have e:bG ⟨.nil,0⟩ (n+1) (.a7 o U xs)=(match mapO (bG ⟨.nil,0⟩ n) xs with|none=>none|some xs=>some (AV.a7 true U xs)):=rfl;show((o==o)&&decide (U=U)&&ft (AV.eqb n) xs xs)=true;have hx:∀J,mapO (bG J n) xs=some xs:=λJ=>by
    have ao:=h J;have e:bG J (n+1) (.a7 o U xs)=(match mapO (bG J n) xs with|none=>none|some xs=>some (AV.a7 true U xs)):=rfl;rw[e] at ao;cases hm:mapO (bG J n) xs with
    |none=>rw[hm] at ao;cases ao
    |some a8=>rw[hm] at ao;simp only[Option.some.injEq,AV.a7.injEq] at ao;rw[ao.2.2]
   have hall:ft (AV.eqb n) xs xs=true:=oD λx eE=>aD x λJ=>by
    have:=hx J;exact Jy this x eE
   simp[hall]
  |m r=>cases r with
   |none=>rfl
   |some r=>have:=h ⟨.nil,0⟩;cases this
  |f a b c=>have:=h ⟨.nil,0⟩;cases this
  |dA=>rfl
  |it t v=>
   show(Nat.beq t t&&AV.eqb n v v)=true;rw[Nat.beq_refl,Bool.true_and];refine aD v λJ=>?_;have ao:=h J;have e:bG J (n+1) (.it t v)=(match bG J n v with|none=>none|some v=>some (AV.it t v)):=rfl;rw[e] at ao;cases hm:bG J n v with
   |none=>rw[hm] at ao;cases ao
   |some y=>rw[hm] at ao;simp only[Option.some.injEq,AV.it.injEq,true_and] at ao;rw[ao]
  |eO=>rfl
  |ag l=>
   show ft (AV.eqb n) l l=true;refine oD λx eE=>aD x λJ=>?_;have ao:=h J;have e:bG J (n+1) (.ag l)=(match mapO (bG J n) l with|none=>none|some l=>some (AV.ag l)):=rfl;rw[e] at ao;cases hm:mapO (bG J n) l with
   |none=>rw[hm] at ao;cases ao
   |some a8=>rw[hm] at ao;simp only[Option.some.injEq,AV.ag.injEq] at ao;subst ao;exact Jy hm x eE
  |a6 l=>
   show ft (AV.eqb n) l l=true;refine oD λx eE=>aD x λJ=>?_;have ao:=h J;have e:bG J (n+1) (.a6 l)=(match mapO (bG J n) l with|none=>none|some l=>some (AV.a6 l)):=rfl;rw[e] at ao;cases hm:mapO (bG J n) l with
   |none=>rw[hm] at ao;cases ao
   |some a8=>rw[hm] at ao;simp only[Option.some.injEq,AV.a6.injEq] at ao;subst ao;exact Jy hm x eE
  |gk k d j=>show(decide (k=k)&&(Nat.beq d d&&Nat.beq j j))=true;simp
  |gK l=>exact oD λx _=>DN x
  |g1 hi=>show(hi==hi)=true;simp
  |y i=>exact Nat.beq_refl i
  |fs o i=>show((o==o)&&Nat.beq i i)=true;simp
where
 Jy {f:AV->Option AV}:∀ {l:List AV},mapO f l=some l->∀x∈l,f x=some x:=λ{l}=>by
  induction l with
  |nil=>intro _ x hx;simp at hx
  |cons a l fY=>
   intro h x hx;rw[nI] at h;cases ha:f a with
   |none=>rw[ha] at h;cases h
   |some y=>
    rw[ha] at h;cases hl:mapO f l with
    |none=>simp only[hl] at h;cases h
    |some a8=>
     simp only[hl,Option.some.injEq,List.cons.injEq] at h;obtain⟨h1,h2⟩:=h;subst h1;subst h2;rcases List.mem_cons.1 hx with rfl|hx
     ·exact ha
     ·exact fY hl x hx
theorem RS{a b:Nat}:decide (Int.ofNat a=Int.ofNat b)=decide (a=b):=decide_eq_decide.2 ⟨Int.ofNat.inj,λh=>by rw[h]⟩
theorem a7m{k:IntKind}{a b:Nat}:binop .eql (.i k (Int.ofNat a)) (.i k (Int.ofNat b))=some (.b (decide (a=b))):=by
 rw[<-RS];show(if k=k then binI .eql k (Int.ofNat a) (Int.ofNat b) else none)=_;rw[if_pos I];rfl
theorem a7n{k:IntKind}{a b:Nat}:binop .neq (.i k (Int.ofNat a)) (.i k (Int.ofNat b))=some (.b (!decide (a=b))):=by
 rw[<-RS];show(if k=k then binI .neq k (Int.ofNat a) (Int.ofNat b) else none)=_;rw[if_pos I];rfl
def cmpO(op:BinOp)(a b:Nat):Option AV:=
 match op with
 | .eql=>some (.b (decide (a=b)))
 | .neq=>some (.b (!decide (a=b)))
 | .lss=>some (.b (decide (a<b)))
 | .leq=>some (.b (decide (a<=b)))
 | .gtr=>some (.b (decide (b<a)))
 | .geq=>some (.b (decide (b<=a)))
 |_=>none
theorem mX{op:BinOp}{k:IntKind}{a b:Nat}{v:AV}(h:cmpO op a b=some v):binop op (.i k (Int.ofNat a)) (.i k (Int.ofNat b))=some v:=by
 cases op with
 |eql=>rw[a7m];exact h
 |neq=>rw[a7n];exact h
 |lss=>
  rw[<-h];show(if k=k then binI .lss k (Int.ofNat a) (Int.ofNat b) else none)=_;rw[if_pos I];show some (AV.b (decide ((Int.ofNat a)<Int.ofNat b)))=some (.b (decide (a<b)))
  congr 2;simp
 |leq=>
  rw[<-h];show(if k=k then binI .leq k (Int.ofNat a) (Int.ofNat b) else none)=_;rw[if_pos I];show some (AV.b (decide ((Int.ofNat a)<=Int.ofNat b)))=some (.b (decide (a<=b)))
  congr 2;simp
 |gtr=>
  rw[<-h];show(if k=k then binI .gtr k (Int.ofNat a) (Int.ofNat b) else none)=_;rw[if_pos I];show some (AV.b (decide ((Int.ofNat b)<Int.ofNat a)))=some (.b (decide (b<a)))
  congr 2;simp
 |geq=>
  rw[<-h];show(if k=k then binI .geq k (Int.ofNat a) (Int.ofNat b) else none)=_;rw[if_pos I];show some (AV.b (decide ((Int.ofNat b)<=Int.ofNat a)))=some (.b (decide (b<=a)))
  congr 2;simp
 |_=>cases h
theorem Al{n:Nat}(h:n<2^63):wrapN .i64 (Int.ofNat n)=Int.ofNat n:=by
 show cond (Nat.blt n 9223372036854775808) (Int.ofNat n) _=_;rw[show Nat.blt n 9223372036854775808=true from Nat.ble_eq_true_of_le (by omega)];rfl
theorem oE{a b:Nat}(h:a+b<2^63):binop .add (ah a) (ah b)=some (ah (a+b)):=by
 show some (AV.i .i64 (wrapN .i64 (Int.ofNat (a+b))))=_;rw[Al h]
theorem pK{a b:Nat}(hb:b<=a)(h:a<2^63):binop .sub (ah a) (ah b)=some (ah (a-b)):=by
 show some (AV.i .i64 (wrapN .i64 (Int.ofNat a-Int.ofNat b)))=_;have:Int.ofNat a-Int.ofNat b=Int.ofNat (a-b):=by simp only[Int.ofNat_eq_natCast];omega
 rw[this,Al (by omega)]
def RT:AOp->Bool
 | .bin _ _ _=>false
 | .conv _ _=>false
 | .append _ _ _ _=>false
 | .buildSlice _ _ _ _=>false
 | .neg _=>false
 |_=>true
section
variable {env:Env}{aJ:Option Nat}{D:List (Nat ⊕ (AV×List AV))}{n:Nat}{f:Nat->AV}{J:ad}{Q:dS}
theorem aE.go{d:Nat}{op:AOp}{g:Option (Nat×Bool)}{wn:List Nat}{ops:List aY}{v:AV}{af:ad}(_hb:RT op=true)(hd:Nat.blt d n=true)(hw:fQ g n f=true)(ho:opx 0 (da env n f) J op=some (.val v af))(h:dj env aJ D n ops (cR f d v) af Q):
  dj env aJ D n (⟨some d,op,g,wn⟩::ops) f J Q:=aE.val hd hw ho h
theorem aE.bin{d:Nat}{op:BinOp}{x y:aF}{g:Option (Nat×Bool)}{wn:List Nat}{ops:List aY}{a b v:AV}(hd:Nat.blt d n=true)(hw:fQ g n f=true)(h1:da env n f x=some a)(h2:da env n f y=some b)(h3:binop op a b=some v)
  (h:dj env aJ D n ops (cR f d v) J Q):dj env aJ D n (⟨some d,.bin op x y,g,wn⟩::ops) f J Q:=aE.val hd hw (Ai a b v h1 h2 h3) h
theorem aE.cmp{d:Nat}{op:BinOp}{x y:aF}{g:Option (Nat×Bool)}{wn:List Nat}{ops:List aY}{k:IntKind}{a b:Nat}{v:AV}(hd:Nat.blt d n=true)(hw:fQ g n f=true)(h1:da env n f x=some (.i k (Int.ofNat a)))(h2:da env n f y=some (.i k (Int.ofNat b)))(h3:cmpO op a b=some v)
  (h:dj env aJ D n ops (cR f d v) J Q):dj env aJ D n (⟨some d,.bin op x y,g,wn⟩::ops) f J Q:=aE.val hd hw (Ai _ _ v h1 h2 (mX h3)) h
theorem dX.cmp{d:Nat}{op:BinOp}{x y:aF}{g:Option (Nat×Bool)}{ops:List aY}{k:IntKind}{a b:Nat}{v:AV}{Q:(Nat->AV)->Prop}(hd:Nat.blt d n=true)(hw:fQ g n f=true)(h1:da env n f x=some (.i k (Int.ofNat a)))(h2:da env n f y=some (.i k (Int.ofNat b)))(h3:cmpO op a b=some v)
  (h:dX env D n ops (cR f d v) J Q):dX env D n (⟨some d,.bin op x y,g,[]⟩::ops) f J Q:=dX.val hd hw (Ai _ _ v h1 h2 (mX h3)) h
theorem aE.aw{d:Nat}{U:Option Nat}{x:aF}{g:Option (Nat×Bool)}{wn:List Nat}{ops:List aY}{id off:Nat}{c:List AV}{v:AV}(ao:J.get id=some (.cells c))(hd:Nat.blt d n=true)(hw:fQ g n f=true)(h1:da env n f x=some (.p (some (id,off))))(h2:dI U (c.drop off)=some v)
  (h:dj env aJ D n ops (cR f d v) J Q):dj env aJ D n (⟨some d,.load U x,g,wn⟩::ops) f J Q:=aE.val hd hw (mi _ _ h1 (sc ao h2)) h
theorem dX.go{d:Nat}{op:AOp}{g:Option (Nat×Bool)}{ops:List aY}{v:AV}{Q:(Nat->AV)->Prop}(_hb:RT op=true)(hd:Nat.blt d n=true)(hw:fQ g n f=true)(ho:opx 0 (da env n f) J op=some (.val v J))(h:dX env D n ops (cR f d v) J Q):
  dX env D n (⟨some d,op,g,[]⟩::ops) f J Q:=dX.val hd hw ho h
theorem dX.bin{d:Nat}{op:BinOp}{x y:aF}{g:Option (Nat×Bool)}{ops:List aY}{a b v:AV}{Q:(Nat->AV)->Prop}(hd:Nat.blt d n=true)(hw:fQ g n f=true)(h1:da env n f x=some a)(h2:da env n f y=some b)(h3:binop op a b=some v)
  (h:dX env D n ops (cR f d v) J Q):dX env D n (⟨some d,.bin op x y,g,[]⟩::ops) f J Q:=dX.val hd hw (Ai a b v h1 h2 h3) h
theorem dX.aw{d:Nat}{U:Option Nat}{x:aF}{g:Option (Nat×Bool)}{ops:List aY}{id off:Nat}{c:List AV}{v:AV}{Q:(Nat->AV)->Prop}(ao:J.get id=some (.cells c))(hd:Nat.blt d n=true)(hw:fQ g n f=true)(h1:da env n f x=some (.p (some (id,off))))(h2:dI U (c.drop off)=some v)
  (h:dX env D n ops (cR f d v) J Q):dX env D n (⟨some d,.load U x,g,[]⟩::ops) f J Q:=dX.val hd hw (mi _ _ h1 (sc ao h2)) h
theorem ts{aq:aF->Option AV}{k:Nat}{x:aF}{v:AV}{m:Nat}(h1:aq x=some v)(h2:lenA J k v=some m):opx 0 aq J (.len k x)=some (.val (ah m) J):=by
 show(match aq x with|some x=>(match lenA J k x with|some n=>some (bL.val (ah n) J)|none=>lenU J k x)|none=>none)=_;rw[h1];show(match lenA J k v with|some n=>some (bL.val (ah n) J)|none=>lenU J k v)=_;rw[h2]
theorem aE.len{d k m:Nat}{x:aF}{g:Option (Nat×Bool)}{wn:List Nat}{ops:List aY}{v:AV}(hd:Nat.blt d n=true)(hw:fQ g n f=true)(h1:da env n f x=some v)(h2:lenA J k v=some m)(h:dj env aJ D n ops (cR f d (ah m)) J Q):
  dj env aJ D n (⟨some d,.len k x,g,wn⟩::ops) f J Q:=aE.val hd hw (ts h1 h2) h
theorem aE.idx{d:Nat}{U:Option Nat}{x i:aF}{g:Option (Nat×Bool)}{wn:List Nat}{ops:List aY}{k:IntKind}{a v:AV}{j:Nat}(hd:Nat.blt d n=true)(hw:fQ g n f=true)(h1:da env n f x=some a)(h2:da env n f i=some (.i k (Int.ofNat j)))(h3:idxSlA U a j=some v)
  (h:dj env aJ D n ops (cR f d v) J Q):dj env aJ D n (⟨some d,.bl U x i,g,wn⟩::ops) f J Q:=aE.val hd hw (DL k a j v h1 h2 h3) h
theorem dX.idx{d:Nat}{U:Option Nat}{x i:aF}{g:Option (Nat×Bool)}{ops:List aY}{k:IntKind}{a v:AV}{j:Nat}{Q:(Nat->AV)->Prop}(hd:Nat.blt d n=true)(hw:fQ g n f=true)(h1:da env n f x=some a)(h2:da env n f i=some (.i k (Int.ofNat j)))(h3:idxSlA U a j=some v)
  (h:dX env D n ops (cR f d v) J Q):dX env D n (⟨some d,.bl U x i,g,[]⟩::ops) f J Q:=dX.val hd hw (DL k a j v h1 h2 h3) h
theorem aE.DO{d:Nat}{U:Option Nat}{x:aF}{g:Option (Nat×Bool)}{wn:List Nat}{ops:List aY}{o:Bool}{v:AV}(hd:Nat.blt d n=true)(hw:fQ g n f=true)(h1:da env n f x=some (.df o v))(h2:conf U v=true)
  (h:dj env aJ D n ops (cR f d v) J Q):dj env aJ D n (⟨some d,.load U x,g,wn⟩::ops) f J Q:=aE.val hd hw (mi _ _ h1 (by show(if conf U v then some v else none)=_;rw[if_pos h2])) h
theorem a7o{aq:aF->Option AV}{x i:aF}{k:IntKind}{l:List Nat}{j c:Nat}(h1:aq x=some (.s l))(h2:aq i=some (.i k (Int.ofNat j)))(h:nth l j=some c):opx 0 aq J (.jV x i)=some (.val (.i .u8 (Int.ofNat c)) J):=by
 show(match aq x,aq i with
  |some (.s l),some j=>(match natOf j with
   |some j=>(match nth l j with|some c=>some (bL.val (.i .u8 (Int.ofNat c)) J)|none=>none)
   |none=>none)
  |_,_=>none)=_
 rw[h1,h2];show(match nth l j with|some c=>some (bL.val (.i .u8 (Int.ofNat c)) J)|none=>none)=_;rw[h]
theorem a7p{aq:aF->Option AV}{m:Nat}{U:Option Nat}{x i:aF}{k:IntKind}{o:Bool}{cs:List AV}{j:Nat}{v:AV}(h1:aq x=some (.df o (.ag cs)))(h2:aq i=some (.i k (Int.ofNat j)))(h:j<m)(h3:dI U (cs.drop (j*shN U))=some v):opx 0 aq J (.pa m U x i)=some (.val (.df o v) J):=by
 show(match aq x,aq i with
  |some x,some j=>(match natOf j with
   |some j=>(if Nat.blt j m then(match fieldAddrA (j*shN U) U x with|some v=>some (bL.val v J)|none=>none) else none)
   |none=>none)
  |_,_=>none)=_
 rw[h1,h2];show(if Nat.blt j m then(match(match dI U (cs.drop (j*shN U)) with|some v=>some (AV.df o v)|none=>none) with|some v=>some (bL.val v J)|none=>none) else none)=_;rw[if_pos (show Nat.blt j m=true from Nat.ble_eq_true_of_le h),h3]
theorem aj.cut{a b:bF}(L:List (Nat×AV))(h1:bO env aJ D n a f J (λx bW af=>x= .normal/\af=J/\sat L bW))(h2:∀g,bO env aJ D n b (bs L g) J Q):bO env aJ D n (.seq a b) f J Q:=aj.seq (h1.mono λx bW af ⟨aN,a4,cQ⟩=>by
 subst aN;subst a4;show bO env aJ D n b bW af Q;exact aj.norm L cQ h2)
theorem aj.a7q{a b:bF}(L:List (Nat×AV)){E:dS}{M:Prop}(h1:bO env aJ D n a f J (λx bW af=>(x= .normal/\af=J/\sat L bW/\M)\/E x bW af))(h3:∀x bW af,E x bW af->x≠ .normal/\Q x bW af)(h2:M->∀g,bO env aJ D n b (bs L g) J Q):bO env aJ D n (.seq a b) f J Q:=aj.seq (h1.mono λx bW af h=>by
 rcases h with⟨aN,a4,cQ,h6⟩|h
 ·subst aN;subst a4;show bO env aJ D n b bW af Q;exact aj.norm L cQ λg=>h2 h6 g
 ·obtain⟨aN,a4⟩:=h3 _ _ _ h;cases x with
  |normal=>exact absurd I aN
  |exit i=>exact a4
  |ret=>exact a4
  |panic v=>exact a4)
theorem aE.box{d:Nat}{x:aF}{g:Option (Nat×Bool)}{wn:List Nat}{ops:List aY}{v:AV}{c:List AV}(k:Nat)(hn:J.next=k)(hd:Nat.blt d n=true)(hw:fQ g n f=true)(au:da env n f x=some v)(hval:v.val=true)(aa:v.cells=c)
  (h:∀af:ad,af.next=k+1->af.get k=some (.cells c)->(∀i o,J.get i=some o->af.get i=some o)->dj env aJ D n ops (cR f d (.p (some (k,0)))) af Q):dj env aJ D n (⟨some d,.box x,g,wn⟩::ops) f J Q:=by
 subst hn;refine aE.val (v:=iz J.next 0) (af:=J.push (.cells c)) hd hw ?_ (h (J.push (.cells c)) I (ad.iB _) λi o ho=>?_)
 ·show(match da env n f x with|some v=>cond v.val (some (bL.val (iz J.next 0) (J.push (.cells v.cells)))) none|none=>none)=_;rw[au];show cond v.val _ _=_;rw[hval,cond_true,aa]
 ·rw[ad.fD trivial _ (ad.bt ho)];exact ho
theorem aE.alloc{d:Nat}{v:AV}{g:Option (Nat×Bool)}{wn:List Nat}{ops:List aY}{c:List AV}(k:Nat)(hn:J.next=k)(hd:Nat.blt d n=true)(hw:fQ g n f=true)(aa:v.cells=c)
  (h:∀af:ad,af.next=k+1->af.get k=some (.cells c)->(∀i o,J.get i=some o->af.get i=some o)->dj env aJ D n ops (cR f d (.p (some (k,0)))) af Q):dj env aJ D n (⟨some d,.alloc v,g,wn⟩::ops) f J Q:=by
 subst hn;refine aE.val (v:=iz J.next 0) (af:=J.push (.cells c)) hd hw ?_ (h (J.push (.cells c)) I (ad.iB _) λi o ho=>?_)
 ·rw[<-aa];rfl
 ·rw[ad.fD trivial _ (ad.bt ho)];exact ho
theorem RU{aq:aF->Option AV}{U:Option Nat}{a x:aF}{id off:Nat}{v:AV}{c bM:List AV}(ao:J.get id=some (.cells c))(h1:aq a=some (.p (some (id,off))))(h2:aq x=some v)(g4:conf U v=true)(aa:storeCells c off v.cells=some bM):
  opx 0 aq J (.store U a x)=some (.val dB (J.set id (.cells bM))):=by
 show(match aq a,aq x with
  |some (.p (some (id,off))),some v=>
   if Nat.blt id 0 then none else
   if conf U v then
    match J.get id with
    |some (.cells c)=>match storeCells c off v.cells with
     |some c=>some (bL.val dB (J.set id (.cells c)))
     |none=>none
    |_=>none
   else none
  |_,_=>none)=_
 rw[h1,h2];show(if Nat.blt id 0 then none else if conf U v then(match J.get id with
    |some (.cells c)=>match storeCells c off v.cells with
     |some c=>some (bL.val dB (J.set id (.cells c)))
     |none=>none
    |_=>none) else none)=_
 rw[if_neg (by simp[Nat.blt,Nat.ble]),if_pos g4,ao];show(match storeCells c off v.cells with|some c=>some (bL.val dB (J.set id (.cells c)))|none=>none)=_;rw[aa]
theorem iw{id:Nat}{o bH:AO}(ao:J.get id=some o):(J.set id bH).get id=some bH/\(∀i o,i≠id->J.get i=some o->(J.set id bH).get i=some o):=by
 have hlt:=ad.bt ao;refine⟨by rw[ad.h5 trivial _ hlt,if_pos I],λi o hi ho=>?_⟩;rw[ad.h5 trivial _ hlt,if_neg hi];exact ho
theorem aE.store{U:Option Nat}{a x:aF}{g:Option (Nat×Bool)}{wn:List Nat}{ops:List aY}{id off:Nat}{v:AV}{c bM:List AV}(ao:J.get id=some (.cells c))(hw:fQ g n f=true)(h1:da env n f a=some (.p (some (id,off))))(h2:da env n f x=some v)(g4:conf U v=true)(aa:storeCells c off v.cells=some bM)
  (h:∀af:ad,af.next=J.next->af.get id=some (.cells bM)->(∀i o,i≠id->J.get i=some o->af.get i=some o)->dj env aJ D n ops f af Q):dj env aJ D n (⟨none,.store U a x,g,wn⟩::ops) f J Q:=
 aE.tl hw (RU ao h1 h2 g4 aa) (h _ I (iw ao).1 (iw ao).2)
theorem storeAll{c v:List AV}(h:v.length=c.length):storeCells c 0 v=some v:=by
 unfold storeCells;rw[if_pos (Nat.ble_eq_true_of_le (by omega)),Nat.zero_add,h,List.drop_length];simp
theorem aE.var{d:Nat}{z:AV}{U:Option Nat}{x:aF}{wn Jz:List Nat}{ops:List aY}{v:AV}{c:List AV}(k:Nat)(hn:J.next=k)(hd:Nat.blt d n=true)(h1:Nat.beq d d=true)(hx:da env n (cR f d (.p (some (k,0)))) x=some v)(g4:conf U v=true)(aa:v.cells=c)(hl:c.length=z.cells.length)
  (h:∀af:ad,af.next=k+1->af.get k=some (.cells c)->(∀i o,J.get i=some o->af.get i=some o)->dj env aJ D n ops (cR f d (.p (some (k,0)))) af Q):dj env aJ D n (⟨some d,.alloc z,none,wn⟩::⟨none,.store U (.t d) x,none,Jz⟩::ops) f J Q:=by
 refine aE.alloc k hn hd I I λbP a3 bm cv=>?_;refine aE.store (bM:=c) bm I ?_ hx g4 (by rw[aa];exact storeAll hl) λcx ec dp dO=>h cx (ec.trans a3) dp λi o ho=>dO i o ?_ (cv i o ho)
 ·show cond (Nat.blt d n) (some (cond (Nat.beq d d) _ (f d))) none=_;rw[hd,h1];rfl
 ·have:=ad.bt ho;omega
theorem aE.known{b:b8}{K:Nat->List AV->AV->Prop}{d:Nat}{op:AOp}{g:Option (Nat×Bool)}{wn:List Nat}{ops:List aY}{fn:Nat}{args aW:List AV}{r:AV}(hf:∀g aW r cw,K g aW r->K g aW cw->r=cw)(he:b.ext fn=0)(ar:b.pure fn=true)(cM:K fn aW r)
  (hd:Nat.blt d n=true) (hw:fQ g n f=true) (ho:opx 0 (da (b.aM K) n f) J op=some (.call (.f (.func fn) [] []) args)) (ha:mapO (bG J (b.bn+1000)) args=some aW) (h:dj (b.aM K) aJ D n ops (cR f d r) J Q):dj (b.aM K) aJ D n (⟨some d,op,g,wn⟩::ops) f J Q:=
 aE.spec hd hw ho he ar ha (Jv hf cM) h
theorem dX.known{b:b8}{K:Nat->List AV->AV->Prop}{d:Nat}{op:AOp}{g:Option (Nat×Bool)}{wn:List Nat}{ops:List aY}{fn:Nat}{args aW:List AV}{r:AV}{Q:(Nat->AV)->Prop}(hf:∀g aW r cw,K g aW r->K g aW cw->r=cw)(he:b.ext fn=0)(ar:b.pure fn=true)(cM:K fn aW r)
  (hd:Nat.blt d n=true) (hw:fQ g n f=true) (ho:opx 0 (da (b.aM K) n f) J op=some (.call (.f (.func fn) [] []) args)) (ha:mapO (bG J (b.bn+1000)) args=some aW) (h:dX (b.aM K) D n ops (cR f d r) J Q):dX (b.aM K) D n (⟨some d,op,g,wn⟩::ops) f J Q:=
 dX.spec hd hw ho he ar ha (Jv hf cM) h
theorem nJ{n:Nat}{a:AV}{x:AV}(h:bG J n a=some x):mapO (bG J n) [a]=some [x]:=by rw[nI,h];rfl
theorem oF{n:Nat}{a b:AV}{x y:AV}(h:bG J n a=some x)(h2:bG J n b=some y):mapO (bG J n) [a,b]=some [x,y]:=by rw[nI,h,nJ h2]
theorem Am{n:Nat}{a b c:AV}{x y z:AV}(h:bG J n a=some x)(h2:bG J n b=some y)(h3:bG J n c=some z):mapO (bG J n) [a,b,c]=some [x,y,z]:=by rw[nI,h,oF h2 h3]
end
def slA(o:Bool)(U:Option Nat):List AV->AV
 |[]=>.ae
 |x::l=>.a7 o U (x::l)
theorem RV(J:ad)(o:Bool)(U:Option Nat)(l:List AV):lenA J 1 (slA o U l)=some l.length:=by cases l<;>rfl
theorem DP{α:Type}:∀ {l:List α} {i:Nat} (h:i<l.length),nth l i=some l[i]
 |[],i,h=>by simp at h
 |x::l,0,_=>rfl
 |x::l,i+1,h=>DP (l:=l) (by simpa using h)
theorem An{o:Bool}{U:Option Nat}{l:List AV}{i:Nat}(h:i<l.length):idxSlA U (slA o U l) i=some (.df o l[i]):=by
 cases l with
 |nil=>simp at h
 |cons x l=>exact RN (DP h)
theorem DQ{α:Type}{J:ad}{o:Bool}{U:Option Nat}{l:List α}{f:α->AV}:lenA J 1 (slA o U (l.map f))=some l.length:=by rw[RV,List.length_map]
theorem xF{α:Type}{o:Bool}{U:Option Nat}{l:List α}{f:α->AV}{i:Nat}(h:i<l.length):idxSlA U (slA o U (l.map f)) i=some (.df o (f l[i])):=by rw[An (by simpa using h),List.getElem_map]
theorem RW{o:Bool}{U:Option Nat}{l m:List AV}(h:slA o U l=slA o U m):l=m:=by
 cases l<;>cases m<;>simp_all [slA]
theorem qV{U:Option Nat}{id off len j:Nat}{cap:Option Nat}(h:j<len):idxSlA U (.al id off len U cap) j=some (.p (some (id,off+j*shN U))):=by
 show(if Nat.blt j len&&decide (U=U) then some (AV.p (some (id,off+j*shN U))) else none)=_;rw[show Nat.blt j len=true from Nat.ble_eq_true_of_le h];simp
theorem RX{k:Nat}{x:AV}(h:conf (some k) x=true):∃l,x= .ag l/\l.length=k:=by
 cases x with
 |ag l=>exact⟨l,rfl,Nat.eq_of_beq_eq_true h⟩
 |_=>cases h
theorem DR{x:AV}(h:conf none x=true):x.cells=[x]:=by
 cases x with
 |ag l=>cases h
 |_=>rfl
theorem Ao{U:Option Nat}{x:AV}{r:List AV}(h:conf U x=true):dI U (x.cells++r)=some x/\(x.cells++r).drop (shN U)=r:=by
 cases U with
 |none=>rw[DR h];exact⟨rfl,rfl⟩
 |some k=>
  obtain⟨l,rfl,hl⟩:=RX h;subst hl;refine⟨?_,?_⟩
  ·show(let m:=(l++r).take l.length;if m.length=l.length then some (AV.ag m) else none)=_;simp
  ·show(l++r).drop l.length=r;simp
theorem DS{U:Option Nat}:∀ {xs:List AV} {r:List AV},(∀x∈xs,conf U x=true)->elems U xs.length (xs.flatMap AV.cells++r)=some xs
 |[],r,_=>rfl
 |x::xs,r,h=>by
  have hx:=h x (by simp);rw[List.length_cons,elems_succ,List.flatMap_cons,List.append_assoc,(Ao hx).1,(Ao hx).2,DS λy hy=>h y (List.mem_cons_of_mem _ hy)]
inductive Acc(J:ad)(U:Option Nat):AV->List AV->Prop
 |nil:Acc J U .ae []
 |al (o:Nat) (x:AV) (xs:List AV) (h:J.get o=some (.cells ((x::xs).flatMap AV.cells))) (aa:∀y∈x::xs,conf U y=true):Acc J U (.al o 0 (xs.length+1) U none) (x::xs)
def AV.at? :AV->Option Nat
 | .al id _ _ _ _=>some id
 |_=>none
theorem Acc.conf{J:ad}{U:Option Nat}{v:AV}{xs:List AV}(h:Acc J U v xs):∀y∈xs,conf U y=true:=by
 cases h with
 |nil=>intro y hy;simp at hy
 |al o x xs h aa=>exact aa
theorem Acc.read{J:ad}{U:Option Nat}{v:AV}{xs:List AV}(h:Acc J U v xs):readList J v=some xs:=by
 cases h with
 |nil=>rfl
 |al o x xs h aa=>
  show(match J.get o with|some (.cells c)=>elems U (xs.length+1) (c.drop 0)|_=>none)=_;rw[h];show elems U (x::xs).length ((x::xs).flatMap AV.cells)=_;have:=DS (r:=[]) aa;rwa[List.append_nil] at this
theorem Acc.aO{J af:ad}{U:Option Nat}{v:AV}{xs:List AV}(h:Acc J U v xs)(az:∀i o,v.at? =some i->J.get i=some o->af.get i=some o):Acc af U v xs:=by
 cases h with
 |nil=>exact .nil
 |al o x xs h aa=>exact .al o x xs (az _ _ I h) aa
theorem Acc.len{J τ:ad}{U:Option Nat}{v:AV}{xs:List AV}(h:Acc J U v xs):lenA τ 1 v=some xs.length:=by
 cases h with
 |nil=>rfl
 |al o x xs h aa=>rfl
theorem Acc.append{J:ad}{U:Option Nat}{v x:AV}{xs a8:List AV}{y:AV}{bytes:Nat}(h:Acc J U v xs)(hx:newOf J x=some (y::a8))(aa:∀z∈y::a8,Go.Lyc.conf U z=true)(hb:(3*(xs.length+(y::a8).length)+2000)*bytes<=281474976710656):
  ∃bA af,appendO 0 J U bytes v x=some (bA,af)/\Acc af U bA (xs++y::a8)/\bA.at? =some J.next/\af.next=J.next+1/\∀i o,v.at? ≠some i->J.get i=some o->af.get i=some o:=by
 have se:=h.conf;have hall:(cr (Go.Lyc.conf U) xs&&cr (Go.Lyc.conf U) (y::a8)&&Nat.ble ((3*(xs.length+(y::a8).length)+2000)*bytes) 281474976710656)=true:=by
  rw[iv se,iv aa,Nat.ble_eq_true_of_le hb];rfl
 cases h with
 |nil=>
  refine⟨.al J.next 0 (y::a8).length U none,J.push (.cells ((y::a8).flatMap AV.cells)),?_,?_,rfl,rfl,λi o _ ho=>?_⟩
  ·unfold appendO;rw[hx];show cond _ _ none=_;rw[hall];rfl
  ·exact .al _ _ _ (ad.iB _) aa
  ·rw[ad.fD trivial _ (ad.bt ho)];exact ho
 |al o sf xs h eJ=>
  have ak:readList J (.al o 0 (xs.length+1) U none)=some (sf::xs):=(Acc.al o sf xs h eJ).read;refine⟨.al J.next 0 (xs.length+1+(y::a8).length) U none,(J.set o .dead).push (.cells ((sf::xs).flatMap AV.cells++(y::a8).flatMap AV.cells)),?_,?_,rfl,rfl,λi bH a5 ho=>?_⟩
  ·unfold appendO;rw[ak,hx];show cond (cr (Go.Lyc.conf U) (sf::xs)&&cr (Go.Lyc.conf U) (y::a8)&&Nat.ble ((3*((sf::xs).length+(y::a8).length)+2000)*bytes) 281474976710656) _ none=_;rw[hall,cond_true];show(if U=U then(if Nat.blt o 0 then none else if Nat.beq 0 0 then some (AV.al J.next 0 (xs.length+1+(y::a8).length) U none,(J.set o .dead).push (.cells ((sf::xs).flatMap AV.cells++(y::a8).flatMap AV.cells))) else none) else none)=_;rw[if_pos I,if_neg (by simp[Nat.blt,Nat.ble]),if_pos (by rfl)]
  ·have e:(sf::xs)++y::a8=sf::(xs++y::a8):=rfl;rw[e];have a4:xs.length+1+(y::a8).length=(xs++y::a8).length+1:=by simp;omega
   rw[a4];refine .al _ _ _ ?_ λz bg=>?_
   ·have:(J.set o .dead).next=J.next:=rfl;rw[<-this,ad.iB];simp
   ·rcases List.mem_append.1 (show z∈(sf::xs)++y::a8 from bg) with bg|bg
    ·exact eJ z bg
    ·exact aa z bg
  ·have hlt:=ad.bt ho;rw[ad.fD trivial _ (show i<(J.set o .dead).next from hlt),ad.h5 trivial _ (ad.bt h),if_neg (λe=>a5 (by rw[e];rfl))];exact ho
section
variable {env:Env}{aJ:Option Nat}{D:List (Nat ⊕ (AV×List AV))}{n:Nat}{f:Nat->AV}{J:ad}{Q:dS}
theorem a7r{aq:aF->Option AV}{U:Option Nat}{bytes:Nat}{s x:aF}{a b v:AV}{af:ad}(h1:aq s=some a)(h2:aq x=some b)(h:appendO 0 J U bytes a b=some (v,af)):opx 0 aq J (.append U bytes s x)=some (.val v af):=by
 show(match aq s,aq x with
  |some s,some x=>(match appendO 0 J U bytes s x with|some (v,J)=>some (bL.val v J)|none=>none)
  |_,_=>none)=_
 rw[h1,h2];show(match appendO 0 J U bytes a b with|some (v,J)=>some (bL.val v J)|none=>none)=_;rw[h]
theorem aE.append{d:Nat}{U:Option Nat}{bytes:Nat}{s x:aF}{g:Option (Nat×Bool)}{wn:List Nat}{ops:List aY}{a b:AV}{xs a8:List AV}{y:AV}(hA:Acc J U a xs)(hx:newOf J b=some (y::a8))(aa:∀z∈y::a8,conf U z=true)(hb:(3*(xs.length+(y::a8).length)+2000)*bytes<=281474976710656)
  (hd:Nat.blt d n=true) (hw:fQ g n f=true) (h1:da env n f s=some a) (h2:da env n f x=some b)
  (h:∀v af,Acc af U v (xs++y::a8)->v.at? =some J.next->af.next=J.next+1->(∀i o,a.at? ≠some i->J.get i=some o->af.get i=some o)->dj env aJ D n ops (cR f d v) af Q):dj env aJ D n (⟨some d,.append U bytes s x,g,wn⟩::ops) f J Q:=by
 obtain⟨bA,af,a3,bm,cv,dU,en⟩:=hA.append hx aa hb;exact aE.val hd hw (a7r h1 h2 a3) (h bA af bm cv dU en)
theorem aE.a7s{d d0:Nat}{U:Option Nat}{bytes:Nat}{z:List AV}{s x:aF}{wn Jz:List Nat}{ops:List aY}{a y:AV}{xs:List AV}(hA:Acc J U a xs)(mc:Nat.blt d0 n=true)(au:opx 0 (da env n f) J (.buildSlice U 1 z [(0,x)])=some (.val (.al J.next 0 1 U (some 1)) (J.push (.cells y.cells))))(aa:conf U y=true)
  (hb:(3*(xs.length+1)+2000)*bytes<=281474976710656) (hd:Nat.blt d n=true) (h1:da env n (cR f d0 (.al J.next 0 1 U (some 1))) s=some a)
  (h:∀v af,Acc af U v (xs++[y])->v.at? =some (J.next+1)->af.next=J.next+2->(∀i o,a.at? ≠some i->J.get i=some o->af.get i=some o)->dj env aJ D n ops (cR (cR f d0 (.al J.next 0 1 U (some 1))) d v) af Q):
  dj env aJ D n (⟨some d0,.buildSlice U 1 z [(0,x)],none,wn⟩::⟨some d,.append U bytes s (.t d0),none,Jz⟩::ops) f J Q:=by
 refine aE.val mc I au ?_;have js:Acc (J.push (.cells y.cells)) U a xs:=hA.aO λi o _ ho=>by rw[ad.fD trivial _ (ad.bt ho)];exact ho
 have kv:newOf (J.push (.cells y.cells)) (.al J.next 0 1 U (some 1))=some [y]:=by
  show readList (J.push (.cells y.cells)) (.al J.next 0 1 U (some 1))=_;show(match(J.push (.cells y.cells)).get J.next with|some (.cells c)=>elems U 1 (c.drop 0)|_=>none)=_;rw[ad.iB];have:=DS (U:=U) (xs:=[y]) (r:=[]) (by intro w hw;rw[List.mem_singleton.1 hw];exact aa);simpa using this
 refine aE.append js kv (by intro w hw;rw[List.mem_singleton.1 hw];exact aa) hb hd I h1 ?_ λv af ec dp dO e1=>h v af ec dp dO λi o hi ho=>e1 i o hi (by rw[ad.fD trivial _ (ad.bt ho)];exact ho);show cond (Nat.blt d0 n) (some (cond (Nat.beq d0 d0) _ (f d0))) none=_;rw[mc,Nat.beq_refl];rfl
end
end Go.Lyc
end
noncomputable section
namespace Go.Lyc
set_option maxHeartbeats 0
open Go.RowKit
inductive Tm where
 |mk (var:Bool) (name:List Nat) (args:Option (List Tm))
inductive Fm where
 |mk (op:Nat) (name:List Nat) (args:Option (List Tm)) (sub:Option (List Fm))
def Tm.var:Tm->Bool| .mk v _ _=>v
def Tm.name:Tm->List Nat| .mk _ n _=>n
def Tm.fW:Tm->Option (List Tm)| .mk _ _ a=>a
def Tm.args(t:Tm):List Tm:=t.fW.getD []
def Fm.op:Fm->Nat| .mk o _ _ _=>o
def Fm.name:Fm->List Nat| .mk _ n _ _=>n
def Fm.fW:Fm->Option (List Tm)| .mk _ _ a _=>a
def Fm.args(f:Fm):List Tm:=f.fW.getD []
def Fm.fF:Fm->Option (List Fm)| .mk _ _ _ s=>s
def Fm.sub(f:Fm):List Fm:=f.fF.getD []
def osl(o:Bool)(U:Option Nat):Option (List AV)->AV
 |none=>.ae
 |some l=>.a7 o U l
mutual
def Tm.cells(o:Bool):Tm->List AV
 | .mk v n none=>[.b v,.s n,.ae]
 | .mk v n (some l)=>[.b v,.s n,.a7 o (some 3) (Tm.lA o l)]
def Tm.lA(o:Bool):List Tm->List AV
 |[]=>[]
 |t::l=>.ag (t.cells o)::Tm.lA o l
end
def Tm.A(o:Bool)(t:Tm):AV:=.ag (t.cells o)
theorem Tm.vy(o:Bool):∀l,Tm.lA o l=l.map (Tm.A o)
 |[]=>by simp[Tm.lA]
 |t::l=>by rw[Tm.lA,Tm.vy o l];rfl
def ix(o:Bool)(l:Option (List Tm)):AV:=osl o (some 3) (l.map λl=>l.map (Tm.A o))
theorem Tm.iI(o:Bool)(t:Tm):t.cells o=[.b t.var,.s t.name,ix o t.fW]:=by
 obtain⟨v,n,a⟩:=t;cases a with
 |none=>rw[Tm.cells];rfl
 |some l=>rw[Tm.cells,Tm.vy];rfl
mutual
def Fm.cells(o:Bool):Fm->List AV
 | .mk op n a none=>[.i .u8 (Int.ofNat op),.s n,ix o a,.ae]
 | .mk op n a (some l)=>[.i .u8 (Int.ofNat op),.s n,ix o a,.a7 o (some 4) (Fm.lA o l)]
def Fm.lA(o:Bool):List Fm->List AV
 |[]=>[]
 |f::l=>.ag (f.cells o)::Fm.lA o l
end
def Fm.A(o:Bool)(f:Fm):AV:=.ag (f.cells o)
theorem Fm.vy(o:Bool):∀l,Fm.lA o l=l.map (Fm.A o)
 |[]=>by simp[Fm.lA]
 |f::l=>by rw[Fm.lA,Fm.vy o l];rfl
def hr(o:Bool)(l:Option (List Fm)):AV:=osl o (some 4) (l.map λl=>l.map (Fm.A o))
theorem Fm.iI(o:Bool)(f:Fm):f.cells o=[.i .u8 (Int.ofNat f.op),.s f.name,ix o f.fW,hr o f.fF]:=by
 obtain⟨op,n,a,s⟩:=f;cases s with
 |none=>rw[Fm.cells];rfl
 |some l=>rw[Fm.cells,Fm.vy];rfl
mutual
theorem Tm.DT(o:Bool):∀(t u:Tm),t.cells o=u.cells o->t=u
 | .mk v n none,.mk bA nK none,h=>by simp only[Tm.cells,List.cons.injEq,AV.b.injEq,AV.s.injEq] at h;rw[h.1,h.2.1]
 | .mk v n none,.mk bA nK (some l),h=>by simp[Tm.cells] at h
 | .mk v n (some l),.mk bA nK none,h=>by simp[Tm.cells] at h
 | .mk v n (some l),.mk bA nK (some cf),h=>by
  simp only[Tm.cells,List.cons.injEq,AV.b.injEq,AV.s.injEq,AV.a7.injEq,true_and,and_true] at h;rw[h.1,h.2.1,Tm.xG o l cf h.2.2]
theorem Tm.xG(o:Bool):∀(l m:List Tm),Tm.lA o l=Tm.lA o m->l=m
 |[],[],_=>rfl
 |[],_::_,h=>by simp[Tm.lA] at h
 |_::_,[],h=>by simp[Tm.lA] at h
 |a::l,b::m,h=>by
  simp only[Tm.lA,List.cons.injEq,AV.ag.injEq] at h;rw[Tm.DT o a b h.1,Tm.xG o l m h.2]
end
theorem RY{o:Bool}{a b:Option (List Tm)}(h:ix o a=ix o b):a=b:=by
 cases a with
 |none=>cases b with
  |none=>rfl
  |some m=>cases h
 |some l=>cases b with
  |none=>cases h
  |some m=>
   simp only[ix,osl,Option.map_some,AV.a7.injEq,true_and] at h;rw[<-Tm.vy,← Tm.vy] at h;rw[Tm.xG o l m h]
mutual
theorem Fm.DT(o:Bool):∀(f g:Fm),f.cells o=g.cells o->f=g
 | .mk p n a none,.mk d_ nK cn none,h=>by simp only[Fm.cells,List.cons.injEq,AV.i.injEq,AV.s.injEq,true_and] at h;rw[Int.ofNat.inj h.1,h.2.1,RY h.2.2.1]
 | .mk p n a none,.mk d_ nK cn (some l),h=>by simp[Fm.cells] at h
 | .mk p n a (some l),.mk d_ nK cn none,h=>by simp[Fm.cells] at h
 | .mk p n a (some l),.mk d_ nK cn (some cf),h=>by
  simp only[Fm.cells,List.cons.injEq,AV.i.injEq,AV.s.injEq,AV.a7.injEq,true_and,and_true] at h;rw[Int.ofNat.inj h.1,h.2.1,RY h.2.2.1,Fm.xG o l cf h.2.2.2]
theorem Fm.xG(o:Bool):∀(l m:List Fm),Fm.lA o l=Fm.lA o m->l=m
 |[],[],_=>rfl
 |[],_::_,h=>by simp[Fm.lA] at h
 |_::_,[],h=>by simp[Fm.lA] at h
 |a::l,b::m,h=>by
  simp only[Fm.lA,List.cons.injEq,AV.ag.injEq] at h;rw[Fm.DT o a b h.1,Fm.xG o l m h.2]
end
theorem Fm.k6{o:Bool}{f g:Fm}(h:f.A o=g.A o):f=g:=Fm.DT o f g (by unfold Fm.A at h;injection h)
mutual
def Tm.dep:Tm->Nat
 | .mk _ _ none=>1
 | .mk _ _ (some l)=>Tm.gF l+1
def Tm.gF:List Tm->Nat
 |[]=>0
 |t::l=>max t.dep (Tm.gF l)
end
mutual
def Fm.dep:Fm->Nat
 | .mk _ _ a none=>Tm.gF (a.getD [])+1
 | .mk _ _ a (some l)=>max (Tm.gF (a.getD [])) (Fm.gF l)+1
def Fm.gF:List Fm->Nat
 |[]=>0
 |f::l=>max f.dep (Fm.gF l)
end
theorem Tm.tt:∀ {l:List Tm} {t:Tm},t∈l->t.dep<=Tm.gF l
 |[],_,h=>by simp at h
 |g::l,f,h=>by
  rw[Tm.gF];rcases List.mem_cons.1 h with rfl|h
  ·omega
  ·have:=Tm.tt h;omega
theorem Fm.tt:∀ {l:List Fm} {t:Fm},t∈l->t.dep<=Fm.gF l
 |[],_,h=>by simp at h
 |g::l,f,h=>by
  rw[Fm.gF];rcases List.mem_cons.1 h with rfl|h
  ·omega
  ·have:=Fm.tt h;omega
theorem Tm.pL(t:Tm):t.dep=Tm.gF t.args+1:=by
 obtain⟨v,n,a⟩:=t;cases a with
 |none=>rw[Tm.dep];simp[Tm.args,Tm.fW,Tm.gF]
 |some l=>rw[Tm.dep];rfl
theorem Fm.pL(f:Fm):f.dep=max (Tm.gF f.args) (Fm.gF f.sub)+1:=by
 obtain⟨op,n,a,s⟩:=f;cases s with
 |none=>rw[Fm.dep];simp[Fm.args,Fm.fW,Fm.sub,Fm.fF,Fm.gF]
 |some l=>rw[Fm.dep];rfl
theorem Tm.JA{t u:Tm}(h:u∈t.args):u.dep<t.dep:=by have:=Tm.tt h;rw[Tm.pL t];omega
theorem Fm.JA{f:Fm}{u:Tm}(h:u∈f.args):u.dep<f.dep:=by have:=Tm.tt h;rw[Fm.pL f];omega
theorem Fm.RZ{f g:Fm}(h:g∈f.sub):g.dep<f.dep:=by have:=Fm.tt h;rw[Fm.pL f];omega
variable [Tok][TokOk]
theorem JB{α:Type}{J:ad}{k:Nat}{o:Bool}{U:Option Nat}{l:Option (List α)}{g qQ:α->AV}(h:∀x∈l.getD [],bG J k (g x)=some (qQ x)):bG J (k+1) (osl o U (l.map λl=>l.map g))=some (osl true U (l.map λl=>l.map qQ)):=by
 cases l with
 |none=>rfl
 |some l=>
  show(match mapO (bG J k) (l.map g) with|none=>none|some xs=>some (AV.a7 true U xs))=_;rw[RR (l:=l) (h:=qQ) λx hx=>h x hx];rfl
theorem oG{J:ad}{k:Nat}{l cf:List AV}(h:mapO (bG J k) l=some cf):bG J (k+1) (.ag l)=some (.ag cf):=by
 show(match mapO (bG J k) l with|none=>none|some l=>some (AV.ag l))=_;rw[h]
theorem Tm.snap(J:ad)(o:Bool):∀(d:Nat) (t:Tm) (k:Nat),t.dep<=d->2*d+1<=k->bG J k (t.A o)=some (t.A true)
 |0,t,k,h,_=>by rw[Tm.pL] at h;omega
 |d+1,t,k,h,az=>by
  obtain⟨k,rfl⟩:∃j,k=j+3:=⟨k-3,by omega⟩
  unfold Tm.A;rw[Tm.iI,Tm.iI];refine oG ?_;have e:bG J (k+2) (ix o t.fW)=some (ix true t.fW):=JB (k:=k+1) λx hx=>Tm.snap J o d x (k+1) (by have:=Tm.JA (t:=t) hx;omega) (by omega);rw[nI,nI,nI,e];rfl
theorem Fm.snap(J:ad)(o:Bool):∀(d:Nat) (f:Fm) (k:Nat),f.dep<=d->2*d+1<=k->bG J k (f.A o)=some (f.A true)
 |0,f,k,h,_=>by rw[Fm.pL] at h;omega
 |d+1,f,k,h,az=>by
  obtain⟨k,rfl⟩:∃j,k=j+3:=⟨k-3,by omega⟩
  unfold Fm.A;rw[Fm.iI,Fm.iI];refine oG ?_;have aN:bG J (k+2) (ix o f.fW)=some (ix true f.fW):=JB (k:=k+1) λx hx=>Tm.snap J o d x (k+1) (by have:=Fm.JA (f:=f) hx;omega) (by omega);have a4:bG J (k+2) (hr o f.fF)=some (hr true f.fF):=JB (k:=k+1) λx hx=>Fm.snap J o d x (k+1) (by have:=Fm.RZ (f:=f) hx;omega) (by omega);rw[nI,nI,nI,nI,aN,a4];rfl
theorem R0{α:Type}{J:ad}{o:Bool}{U:Option Nat}{l:Option (List α)}{g:α->AV}:lenA J 1 (osl o U (l.map λl=>l.map g))=some (l.getD []).length:=by
 cases l with
 |none=>rfl
 |some l=>show some (l.map g).length=_;rw[List.length_map];rfl
theorem a7t{α:Type}{o:Bool}{U:Option Nat}{l:Option (List α)}{g:α->AV}{i:Nat}(h:i<(l.getD []).length):idxSlA U (osl o U (l.map λl=>l.map g)) i=some (.df o (g ((l.getD [])[i]))):=by
 cases l with
 |none=>simp at h
 |some l=>
  refine RN ?_;have h:i<l.length:=h;rw[DP (by simpa using h),List.getElem_map];rfl
theorem Fm.len(o:Bool)(f:Fm):(f.cells o).length=4:=by rw[Fm.iI];rfl
theorem Fm.conf(o:Bool)(f:Fm):conf (some 4) (f.A o)=true:=by unfold Fm.A;rw[Fm.iI];rfl
theorem Fm.aw(o:Bool)(f:Fm):dI (some 4) ((f.cells o).drop 0)=some (f.A o):=by unfold Fm.A;rw[Fm.iI];rfl
theorem Fm.oH(o:Bool)(f:Fm):dI none ((f.cells o).drop 0)=some (.i .u8 (Int.ofNat f.op)):=by rw[Fm.iI];rfl
theorem Fm.a7u(o:Bool)(f:Fm):dI none ((f.cells o).drop 1)=some (.s f.name):=by rw[Fm.iI];rfl
theorem Fm.R1(o:Bool)(f:Fm):dI none ((f.cells o).drop 2)=some (ix o f.fW):=by rw[Fm.iI];rfl
theorem Fm.a7v(o:Bool)(f:Fm):dI none ((f.cells o).drop 3)=some (hr o f.fF):=by rw[Fm.iI];rfl
theorem a7w{J:ad}{o:Bool}{l:Option (List Tm)}:lenA J 1 (ix o l)=some (l.getD []).length:=R0
theorem a7x{J:ad}{o:Bool}{l:Option (List Fm)}:lenA J 1 (hr o l)=some (l.getD []).length:=R0
theorem a7y{o:Bool}{l:Option (List Fm)}{i:Nat}(h:i<(l.getD []).length):idxSlA (some 4) (hr o l) i=some (.df o (((l.getD [])[i]).A o)):=a7t h
mutual
def Fm.parts:Fm->List Fm
 | .mk op n a none=>[.mk op n a none]
 | .mk op n a (some l)=>.mk op n a (some l)::Fm.qW l
def Fm.qW:List Fm->List Fm
 |[]=>[]
 |f::l=>f.parts++Fm.qW l
end
theorem Fm.parts_eq(f:Fm):f.parts=f::Fm.qW f.sub:=by
 obtain⟨op,n,a,s⟩:=f;cases s with
 |none=>rw[Fm.parts];simp[Fm.sub,Fm.fF,Fm.qW]
 |some l=>rw[Fm.parts];rfl
inductive Tm.iJ:Tm->Prop
 |mk {v:Bool} {n:List Nat} {a:Option (List Tm)} (hl:(a.getD []).length<2^62) (h:∀x∈a.getD [],Tm.iJ x):Tm.iJ (.mk v n a)
inductive Fm.iJ:Fm->Prop
 |mk {op:Nat} {n:List Nat} {a:Option (List Tm)} {s:Option (List Fm)} (kg:(a.getD []).length<2^62) (ha:∀x∈a.getD [],Tm.iJ x) (hl:(s.getD []).length<2^62) (h:∀x∈s.getD [],Fm.iJ x):Fm.iJ (.mk op n a s)
theorem Fm.iJ.a7z{t:Fm}(h:t.iJ):t.sub.length<2^62:=by cases h with|mk _ _ hl _=>exact hl
theorem Fm.iJ.sb{t:Fm}(h:t.iJ):∀x∈t.sub,x.iJ:=by cases h with|mk _ _ _ h=>exact h
end Go.Lyc
end
noncomputable section
namespace Go.Lyc
set_option maxHeartbeats 0
variable [Tok][TokOk]
open Go Go.RowKit Go.ChangeShapes Go.WideShapes
theorem a7A{H:Type}{enc:TypeId×Value->H}{P:Program}{f:Func}{s:ChangeSpec}{apart fresh handsOn:Bool}{W W':World}{args:Array Value}{ds:List (DataW H)}{Ap:TypeId}{aC uT:List MemPlace}
  (hf:f.resultTypes= #[Ap]) (hb:P.underlying Ap=some .bool) (au:s.vars=[]) (hfn:s.fn H ds={results:=[.lit (.bool true)],args:=ds})
  (hW:DataW.Whole enc P f.params.toList s.vars apart W args.toList ds [] aC) (nw:DataW.TrodAll enc P W' 0 (λb=>decide (b<W.heap.size)) true f.params.toList args.toList ds uT)
  (az:∀b,b<W.heap.size->W'.heap[b]? =W.heap[b]?) (ku:W'.os=W.os) (kc:W'.output=W.output):s.post enc P f apart fresh handsOn false W args (.bool true) W':=by
 refine⟨ds,[],aC,[],uT,[],hW,?_,?_,?_,a7a az ku kc,λh=>by cases h⟩
 ·rw[List.append_nil,hfn,hf];exact trodAll_mk1 (shut_bool hb _)
 ·rw[List.append_nil,hfn];exact nw
 ·rw[List.append_nil,hfn,au];rfl
theorem calls_trueS{H:Type}{enc:TypeId×Value->H}{P:Program}{env:Env}{f:Func}{s:ChangeSpec}{apart fresh handsOn:Bool}{W:World}{args:Array Value}{ds:List (DataW H)}{Ap:TypeId}{g:Nat}{aW:List AV}{aC uT:List MemPlace}
  (cP:∀b6,SpecEntry P env b6 g aW (.b true)) (cZ:Globs env W W.heap.size) (ha:bz W (λ_=>none) (λ_=>False) W.heap.size aW args.toList)
  (hf:f.resultTypes= #[Ap]) (hb:P.underlying Ap=some .bool) (au:s.vars=[]) (hfn:s.fn H ds={results:=[.lit (.bool true)],args:=ds})
  (hW:DataW.Whole enc P f.params.toList s.vars apart W args.toList ds [] aC) (nw:∀W':World,Below W.heap.size W W'->DataW.TrodAll enc P W' 0 (λb=>decide (b<W.heap.size)) true f.params.toList args.toList ds uT):
  Calls P g args W λe W'=>∃v,e= .returned v/\s.post enc P f apart fresh handsOn false W args v W':=by
 refine((cP W.heap.size).calls (Nat.le_refl _) cZ ha).mono λe W' ⟨u,he,hR,cj,az,ku,nj,kc⟩=>?_;cases hR;exact⟨_,he,a7A hf hb au hfn hW (nw W' ⟨ku,nj,kc,cj,az⟩) az ku kc⟩
theorem bytes_R{H:Type}{enc:TypeId×Value->H}{P:Program}{W:World}{t e:TypeId}{v:Value}{d:DataW H}{aC:List MemPlace}{QC:Nat}(ht:P.underlying t=some (.slice e))(he:P.underlying e=some (.int .u8))(aa:P.cellsOf e=1)
  (hval:Value.okWide P W .any QC t v) (hd:DataW.Trod enc P W 0 (λ_=>true) true t v d aC):
  ∃o:Option (List Nat),R W (λ_=>none) (λ_=>False) W.heap.size (osl true none (o.map λl=>l.map λc=>AV.i .u8 (Int.ofNat c))) v/\(∀c∈o.getD [],c<256)/\(o=none\/∃es sp,d= .slice es sp/\(o.getD []).length=es.length):=by
 obtain⟨a,len,cap,rfl⟩:=okWide_slice ht hval;obtain⟨fuel,hf⟩:=hd;rcases open_ints ht he aa hf with⟨h0,_⟩|⟨cn,a7B,fo,eB,h0,_,hl,hm,bg,hx,u2,vr⟩
 ·have h0:[Value.slice a len cap]=[.slice none 0 0]:=h0;injection h0 with h0 _
  rw[h0];exact⟨none,.ae,by simp,.inl I⟩
 ·have h0:[Value.slice a len cap]=[.slice (some cn) a7B fo]:=h0;injection h0 with h0 _
  injection h0 with h1 h2 h3
  subst h1 h2 h3;have hval:cn.spot=none/\∃row cells,W.shape? cn.block=some (row,cells):=by
   have au:=hval;simp only[Value.okWide,ht,Cell.okWide,Cell.ok] at au;obtain⟨_,_,_,h,row,cells,h2,_⟩:=au;exact⟨h,row,cells,h2⟩
  obtain⟨eP,row,cells,JC⟩:=hval;obtain⟨aB,off,sp⟩:=cn;have eP:sp=none:=eP;subst eP;have lx:eB.length=cap:=by simpa using bg
  have hb:∀i,i<eB.length->0<=eB.getD i 0/\eB.getD i 0<=255:=λi hi=>by
   have hm:eB.getD i 0∈eB:=by
    rw[List.getD_eq_getElem?_getD,List.getElem?_eq_getElem hi];exact List.getElem_mem hi
   exact bounds_u8 (vr _ hm)
  refine⟨some ((eB.take len).map Int.toNat),?_,λc aa=>?_,.inr ⟨_,_,congrArg Prod.fst hx,by simp[lits]⟩⟩
  ·have e:osl true none ((some ((eB.take len).map Int.toNat)).map λl=>l.map λc=>AV.i .u8 (Int.ofNat c))= .a7 true none (((eB.take len).map Int.toNat).map λc=>AV.i .u8 (Int.ofNat c)):=rfl;rw[e];have hlen:(((eB.take len).map Int.toNat).map λc=>AV.i .u8 (Int.ofNat c)).length=len:=by simp;omega
   have gA:∀i (h:i<(((eB.take len).map Int.toNat).map λc=>AV.i .u8 (Int.ofNat c)).length),(((eB.take len).map Int.toNat).map λc=>AV.i .u8 (Int.ofNat c))[i]= .i .u8 (eB.getD i 0):=λi h=>by
    rw[hlen] at h;have:=(hb i (by omega)).1;simp only[List.getElem_map,List.getElem_take]
    congr 1
    rw[List.getD_eq_getElem?_getD,List.getElem?_eq_getElem (by omega)] at this ⊢;show((eB[i].toNat:Nat):Int)=eB[i];exact Int.toNat_of_nonneg this
   have key:=R.a7 (w:=W) (m:=λ_=>none) (O:=λ_=>False) (B:=W.heap.size) (old:=true) (U:=none) (xs:=((eB.take len).map Int.toNat).map λc=>AV.i .u8 (Int.ofNat c)) (aB:=aB) (off:=off) (fo:=cap) (λi _=>.int .u8 (eB.getD i 0))
    (λ_=>⟨λh=>h,?_,λh=>by cases h⟩) (λi h=>by rw[gA i h];rfl) (λi h j aA=>?_) (λi h j aA=>?_) (by rw[hlen];exact hl) (λv au x hx=>?_) (λ_=>rfl)
   ·rwa[hlen] at key
   ·unfold World.shape? at JC;cases hh:W.heap[aB]? with
    |none=>rw[hh] at JC;cases JC
    |some o=>exact(Array.getElem?_eq_some_iff.1 hh).1
   ·rw[hlen] at h;rw[gA i (by rw[hlen];exact h)] at aA;have aA:j<1:=aA;obtain rfl:j=0:=by omega
    have:=u2 i (by omega);rw[add_plain] at this;show W.cell? ⟨aB,off+i*1+0,none⟩=_;rw[Nat.mul_one,Nat.add_zero];exact this
   ·have hg:=gA i h;generalize(((eB.take len).map Int.toNat).map λc=>AV.i .u8 (Int.ofNat c))[i]=y at hg aA ⊢;subst hg;have eR:j<1:=aA;obtain rfl:j=0:=by omega
    exact .i _ _
   ·obtain⟨c,_,rfl⟩:=List.mem_map.1 au;have hx:x∈[AV.i .u8 (Int.ofNat c)]:=hx;rw[List.mem_singleton.1 hx];rfl
  ·have aa:c∈(eB.take len).map Int.toNat:=aa;obtain⟨z,bg,rfl⟩:=List.mem_map.1 aa;have:=bounds_u8 (vr z (List.mem_of_mem_take bg));omega
end Go.Lyc
end
noncomputable section
namespace Go.Lyc
set_option maxHeartbeats 0
variable [Tok][TokOk]
open Go.RowKit
theorem bu.mono{env:Env}{floor:Nat}{cd:AV}{args:List AV}{J:ad}{Q mh:dR->ad->Prop}(h:bu env floor cd args J Q)(aS:∀r af,Q r af->mh r af):bu env floor cd args J mh:=c4.mono h λ_ ho=>aS _ _ ho
def dk(env:Env)(D kF:List (Nat ⊕ (AV×List AV)))(n:Nat)(c:bF)(f:Nat->AV)(J:ad)(Q:dS):Prop:=∀ab,g6 D n f ab->fv env 0 none c ab J (xE kF n Q)
section
variable {env:Env}{D kF Qy:List (Nat ⊕ (AV×List AV))}{n:Nat}{f:Nat->AV}{J:ad}{Q:dS}
theorem dk.km{a b:bF}(h:bO env none D n a f J (λx f J=>x= .normal/\dk env D kF n b f J Q)):dk env D kF n (.seq a b) f J Q:=λab bq=>fv.seq ((h ab bq).mono λx ab J ⟨f,h1,h2,h3⟩=>by subst h2;exact h3 ab h1)
theorem dk.xH{a b:bF}(h:dk env D kF n a f J (λx f J=>x= .normal/\bO env none kF n b f J Q)):dk env D kF n (.seq a b) f J Q:=λab bq=>fv.seq ((h ab bq).mono λx ab J ⟨f,h1,h2,h3⟩=>by subst h2;exact h3 ab h1)
theorem dk.block{a:bF}{id:Nat}(h:dk env D kF n a f J (λx f J=>x= .normal/\Q .normal f J)):dk env D kF n (.block id a) f J Q:=λab bq=>fv.block ((h ab bq).mono λx ab J ⟨f,h1,h2,h3⟩=>by subst h2;exact⟨f,h1,h3⟩)
theorem dk.range{mY:aF}{aC:List Nat}{as b:bF}{g:Nat}{first cap:List AV}(hf:da env n f mY=some (.f (.func g) first cap))(he:env.ext g=0)
  (h:∀al,(∀i,al.get i=if i<n then some (f i) else none)->bu env 0 (.f (.func g) first cap) [.f (.yield (J.next+1)) [] []] ((J.push .dN).push (.loop .ready none al aC as b J.next))
   (λr gy=>∃v st,r= .ok v/\gy.get (J.next+1)=some (.loop st none al aC as b J.next)/\st≠ .busy/\Q .normal f (gy.set (J.next+1) (.loop .exhausted none al aC as b J.next)))):
  dk env D (.inl J.next::D) n (.rangeFunc mY aC as b) f J Q:=λab bq=>by
 have h':=h ab.a_ bq.get;refine c4.succ (c4.then (g:=λx F=>rangeK (exec env F) 0 none ab (.inl J.next::ab.defers) (J.next+1) x) h' λo ho=>?_) λF=>?_
 ·obtain⟨r,gy⟩:=o;obtain⟨v,st,h1,h2,h3,aQ⟩:=ho;have h1:r= .ok v:=h1;subst h1;have h2:gy.get (J.next+1)=some (.loop st none ab.a_ aC as b J.next):=h2;refine c4.one (x:=(.normal,⟨ab.a_,.inl J.next::ab.defers,ab.fi⟩,gy.set (J.next+1) (.loop .exhausted none ab.a_ aC as b J.next))) (λF=>?_) ⟨f,⟨bq.get,by show _::ab.defers=_;rw[bq.ds],bq.rc⟩,aQ⟩;show(match gy.get (J.next+1) with
   |some (.loop st kt rI lu gV e5 hY)=>(match st with
    | .busy=>none
    |_=>match kt with
     |none=>some [(fa.normal,(⟨ab.a_,.inl J.next::ab.defers,ab.fi⟩:Fr),gy.set (J.next+1) (.loop .exhausted kt rI lu gV e5 hY))]
     |some c=>exec env F 0 none c ⟨ab.a_,.inl J.next::ab.defers,ab.fi⟩ (gy.set (J.next+1) (.loop .exhausted kt rI lu gV e5 hY)))
   |_=>none)=_
  rw[h2];cases st with
  |busy=>exact absurd I h3
  |_=>rfl
 ·rw[mb];show(if Nat.blt J.next 0 then none else
   match evalA env ab.a_ mY with
   |some (.f (.func g) first cap)=>
    match y7 none ab J with
    |none=>none
    |some (d,bP,ds)=>
     match env.ext g with
     |0=>gw (callF env (exec env F) 0 g (first++AV.f (.yield bP.next) [] []::cap) (bP.push (.loop .ready none ab.a_ aC as b d))) (rangeK (exec env F) 0 none ab ds bP.next)
     |_=>none
   |_=>none)=_
  rw[if_neg (by simp[Nat.blt,Nat.ble]),bq.aq,hf];show(match env.ext g with
     |0=>gw (callF env (exec env F) 0 g (first++AV.f (.yield (J.next+1)) [] []::cap) ((J.push .dN).push (.loop .ready none ab.a_ aC as b J.next))) (rangeK (exec env F) 0 none ab (.inl J.next::ab.defers) (J.next+1))
     |_=>none)=_
  rw[he];show gw (callF env (exec env F) 0 g (first++AV.f (.yield (J.next+1)) [] []::cap) _) _=gw (callF env (exec env F) 0 g (first++[AV.f (.yield (J.next+1)) [] []]++cap) _) _;rw[List.append_assoc];rfl
end
def DU:List Nat->List AV->(Nat->AV)->Nat->AV
 |p::aC,a::as,f=>DU aC as (cR f p a)
 |_,_,f=>f
theorem R2{n:Nat}:∀ {aC:List Nat} {args:List AV} {f:Nat->AV} {al:aX AV},cr (λp=>Nat.blt p n) aC=true->(∀i,al.get i=if i<n then some (f i) else none)->g6 [] n (DU aC args f) ⟨layAll aC args al,[],false⟩
 |[],_,f,al,_,h=>⟨h,rfl,rfl⟩
 |p::aC,[],f,al,_,h=>⟨h,rfl,rfl⟩
 |p::aC,a::args,f,al,ar,h=>by
  have pB:Nat.blt p n=true:=by
   have ar:cond (Nat.blt p n) (cr (λp=>Nat.blt p n) aC) false=true:=ar;cases hb:Nat.blt p n with
   |true=>rfl
   |false=>rw[hb] at ar;cases ar
  have mf:cr (λp=>Nat.blt p n) aC=true:=by
   have ar:cond (Nat.blt p n) (cr (λp=>Nat.blt p n) aC) false=true:=ar;rw[pB] at ar;exact ar
  have h0:g6 [] n f ⟨al,[],false⟩:=⟨h,rfl,rfl⟩
  exact R2 (f:=cR f p a) (al:=al.set p a) mf (h0.put a pB).get
theorem bu.round{env:Env}{l n:Nat}{f:Nat->AV}{J:ad}{al:aX AV}{aC:List Nat}{as b:bF}{d:Nat}{args:List AV}{R:ad->Prop}(hl:J.get l=some (.loop .ready none al aC as b d))(gL:∀i,al.get i=if i<n then some (f i) else none)(jI:cr (λp=>Nat.blt p n) aC=true)(hlen:Nat.beq aC.length args.length=true)
  (h:bO env (some l) [] n as (DU aC args f) J (λx f1 bP=>x= .normal/\bP.get l=some (.loop .ready none al aC as b d)∧
   bO env (some l) [] n b f1 (bP.set l (.loop .busy none al aC as b d)) (λx _ cx=>x= .normal/\cx.get l=some (.loop .busy none al aC as b d)/\R (cx.set l (.loop .ready none al aC as b d))))):
  bu env 0 (.f (.yield l) [] []) args J (λr af=>r= .ok (.b true)/\R af):=by
 have h1:=h _ (R2 (args:=args) jI gL);refine c4.congr (c4.then (g:=λx F=>roundMid (exec env F) 0 l b x) h1 λo ho=>?_) λF=>?_
 ·obtain⟨x,dw,bP⟩:=o;obtain⟨f1,JD,hx,ij,h2⟩:=ho;have hx:x= .normal:=hx;subst hx;have ij:bP.get l=some (.loop .ready none al aC as b d):=ij;refine c4.congr (c4.then (g:=λx _=>roundEnd l x) (h2 dw JD) λo ho=>?_) λF=>?_
  ·obtain⟨x,tu,cx⟩:=o;obtain⟨f2,_,hx,mU,hR⟩:=ho;have hx:x= .normal:=hx;subst hx;have mU:cx.get l=some (.loop .busy none al aC as b d):=mU;refine c4.one (x:=(.ok (.b true),cx.set l (.loop .ready none al aC as b d))) (λ_=>?_) ⟨rfl,hR⟩;show(endRound cx l none).map (λx=>[x])=_;unfold endRound;rw[mU];rfl
  ·show(match bP.get l with
    |some (.loop .ready kt rI lu gV e5 hY)=>gw (exec env F 0 (some l) b dw (bP.set l (.loop .busy kt rI lu gV e5 hY))) (roundEnd l)
    |_=>none)=_
   rw[ij]
 ·show(if Nat.blt l 0 then none else
   match J.get l with
   |some (.loop .ready _ al aC as b _)=>cond (Nat.beq aC.length args.length) (gw (exec env F 0 (some l) as ⟨layAll aC args al,[],false⟩ J) (roundMid (exec env F) 0 l b)) none
   |_=>none)=_
  rw[if_neg (by simp[Nat.blt,Nat.ble]),hl];show cond (Nat.beq aC.length args.length) _ none=_;rw[hlen,cond_true]
section
variable {env:Env}{aJ:Option Nat}{D:List (Nat ⊕ (AV×List AV))}{n:Nat}{f:Nat->AV}{J:ad}{Q:dS}
theorem aE.hK{d:Nat}{op:AOp}{g:Option (Nat×Bool)}{wn:List Nat}{ops:List aY}{cd:AV}{args:List AV}{R:dR->ad->Prop}(hd:Nat.blt d n=true)(hw:fQ g n f=true)(ho:opx 0 (da env n f) J op=some (.call cd args))(aa:bu env 0 cd args J R)
  (h:∀r af,R r af->∃v,r= .ok v/\dj env aJ D n ops (cR f d v) af Q):dj env aJ D n (⟨some d,op,g,wn⟩::ops) f J Q:=λab bq=>
 iV.call (by rw[bq.wanted];exact hw) (by rw[bq.aq];exact ho) (aa.mono λr af ak=>by
  obtain⟨v,rfl,au⟩:=h r af ak;exact au _ (bq.put v hd))
theorem bu.code{fn:Nat}{b1:aI}{body:bF}{dc:Nat}{first cap args:List AV}{R:dR->ad->Prop}(he:env.ext fn=0)(ar:env.pure fn=false)(hf:env.funcs fn=some b1)(hb:b1.body=some body)
  (hn:(Nat.beq (first++args++cap).length b1.jg&&Nat.ble (first++args++cap).length b1.ntmps)=true) (c0:b1.results=[(dc,none)]) (k7:Nat.blt dc b1.ntmps=true)
  (h:aj env b1.ntmps body (fR (first++args++cap)) J (λx bW af=>x= .ret/\R (.ok (bW dc)) af)):bu env 0 (.f (.func fn) first cap) args J R:=by
 have hle:(first++args++cap).length<=b1.ntmps:=by
  simp only[Bool.and_eq_true] at hn;exact Nat.le_of_ble_eq_true hn.2
 refine bu.run he ar hf hb hn ((h _ (sd hle)).mono λx a9 af ⟨bW,h1,h2,h3⟩=>?_);subst h2;exact⟨.ok (bW dc),af,RP h1 c0 k7,h3⟩
theorem bu.nL{fn:Nat}{b1:aI}{body:bF}{first cap args:List AV}{R:dR->ad->Prop}(he:env.ext fn=0)(ar:env.pure fn=false)(hf:env.funcs fn=some b1)(hb:b1.body=some body)
  (hn:(Nat.beq (first++args++cap).length b1.jg&&Nat.ble (first++args++cap).length b1.ntmps)=true) (c0:b1.results=[])
  (h:aj env b1.ntmps body (fR (first++args++cap)) J (λx _ af=>(x= .ret\/x= .normal)/\R (.ok (.a6 [])) af)):bu env 0 (.f (.func fn) first cap) args J R:=by
 have hle:(first++args++cap).length<=b1.ntmps:=by
  simp only[Bool.and_eq_true] at hn;exact Nat.le_of_ble_eq_true hn.2
 refine bu.run he ar hf hb hn ((h _ (sd hle)).mono λx a9 af ⟨bW,h1,h2,h3⟩=>?_);refine⟨.ok (.a6 []),af,?_,h3⟩;have e:endF env 0 b1 (.ret,a9,af)=some [(.ok (.a6 []),af)]:=by
  show(match leave 0 (callD env 0) a9.defers none af with
   |none=>none
   |some (some v,J)=>some [(dR.err v,J)]
   |some (none,J)=>match resultsOf J a9.a_ b1.results with
    |some v=>some [(.ok v,J)]
    |none=>none)=_
  rw[h1.ds,c0];rfl
 rcases h2 with rfl|rfl
 ·exact e
 ·exact e
end
theorem R3{env:Env}{fn:aI}{n d dc:Nat}{f:Nat->AV}{ab:Fr}{J:ad}(h1:g6 [.inl d] n f ab)(hm:J.get d=some .dN)(c0:fn.results=[(dc,none)])(hd:Nat.blt dc n=true):endF env 0 fn (.ret,ab,J)=some [(.ok (f dc),J.set d .dead)]:=by
 show(match leave 0 (callD env 0) ab.defers none J with
  |none=>none
  |some (some v,J)=>some [(dR.err v,J)]
  |some (none,J)=>match resultsOf J ab.a_ fn.results with
   |some v=>some [(.ok v,J)]
   |none=>none)=_
 have hl:leave 0 (callD env 0) ab.defers none J=some (none,J.set d .dead):=by
  rw[h1.ds];show(if Nat.blt d 0 then none else match J.get d with
   |some .dN=>some (none,J.set d .dead)
   |_=>none)=_
  rw[if_neg (by simp[Nat.blt,Nat.ble]),hm]
 rw[hl];show(match resultsOf (J.set d .dead) ab.a_ fn.results with|some v=>some [(dR.ok v,J.set d .dead)]|none=>none)=_;rw[c0];have hg:=h1.get dc;have Ju:dc<n:=Nat.le_of_ble_eq_true hd;rw[if_pos Ju] at hg;have aN:resultOf (J.set d .dead) ab.a_ (dc,none)=some (f dc):=by
  unfold resultOf;rw[hg]
 have:resultsOf (J.set d .dead) ab.a_ [(dc,none)]=some (f dc):=by
  unfold resultsOf;have e:mapO (resultOf (J.set d .dead) ab.a_) [(dc,none)]=some [f dc]:=by
   unfold mapO;simp only[aN]
  rw[e]
 rw[this]
theorem bu.JE{env:Env}{J:ad}{fn:Nat}{b1:aI}{body:bF}{dc d:Nat}{first cap args:List AV}{R:dR->ad->Prop}(he:env.ext fn=0)(ar:env.pure fn=false)(hf:env.funcs fn=some b1)(hb:b1.body=some body)
  (hn:(Nat.beq (first++args++cap).length b1.jg&&Nat.ble (first++args++cap).length b1.ntmps)=true) (c0:b1.results=[(dc,none)]) (k7:Nat.blt dc b1.ntmps=true)
  (h:dk env [] [.inl d] b1.ntmps body (fR (first++args++cap)) J (λx bW af=>x= .ret/\af.get d=some .dN/\R (.ok (bW dc)) (af.set d .dead))):bu env 0 (.f (.func fn) first cap) args J R:=by
 have hle:(first++args++cap).length<=b1.ntmps:=by
  simp only[Bool.and_eq_true] at hn;exact Nat.le_of_ble_eq_true hn.2
 refine bu.run he ar hf hb hn ((h _ (sd hle)).mono λx a9 af ⟨bW,h1,h2,h3,aQ⟩=>?_);subst h2;exact⟨.ok (bW dc),_,R3 h1 h3 c0 k7,aQ⟩
theorem a7C{P:Program}{b:b8}{K:Nat->List AV->AV->Prop}(hb:kH P b)(cM:Ak P b K){g:Nat}{fn:aI}{body:bF}{aW:List AV}{dc d:Nat}(r:AV)(hf:b.funcs.get g=some fn)(hF:fn.body=some body)
  (hn:(Nat.beq aW.length fn.jg&&Nat.ble aW.length fn.ntmps)=true) (c0:fn.results=[(dc,none)]) (hd:Nat.blt dc fn.ntmps=true) {ab:Nat} (ak:fe ab r=true) (hj:AV.eqb 1000 r r=true)
  (h:dk (b.aM K) [] [.inl d] fn.ntmps body (fR aW) ⟨.nil,0⟩ (λx f af=>x= .ret/\af.get d=some .dN/\freeze (af.set d .dead) 0 1000 (f dc)=some r)) (b6:Nat):SpecEntry P (b.env []) b6 g aW r:=by
 have hle:aW.length<=fn.ntmps:=by
  simp only[Bool.and_eq_true] at hn;exact Nat.le_of_ble_eq_true hn.2
 refine DK (env:=b.aM K) (m:=1000) (Nat.le_add_left _ _) ⟨λg b1 hg=>k5.vs hb.funcs g b1 hg⟩ (λb6 g aW r ao=>cM g aW r (DM ao) b6) hb.ext hb.xD hf hF hn ak ((h _ (sd hle)).mono λx ab af ⟨f,h1,h2,h3,aQ⟩=>?_) hj b6;subst h2;exact⟨.ok (f dc),_,R3 h1 h3 c0 hd,_,rfl,aQ⟩
theorem a7D{J af:ad}(az:∀i c,J.get i=some (.cells c)->af.get i=some (.cells c)){v:AV}{l:List AV}(h:readList J v=some l):readList af v=some l:=by
 cases v with
 |al id off len U cap=>
  have h:(match J.get id with|some (.cells c)=>elems U len (c.drop off)|_=>none)=some l:=h;show(match af.get id with|some (.cells c)=>elems U len (c.drop off)|_=>none)=some l;cases hg:J.get id with
  |none=>rw[hg] at h;cases h
  |some o=>
   cases o with
   |cells c=>rw[hg] at h;rw[az id c hg];exact h
   |_=>rw[hg] at h;cases h
 |ae=>exact h
 |a7 o U xs=>exact h
 |_=>cases h
theorem DV{J:ad}{n:Nat}{xs:List AV}{w:AV}(h:bG J (n+1) (.ag xs)=some w):∃eB,mapO (bG J n) xs=some eB/\w= .ag eB:=by
 rw[snapshot_succ] at h;simp only[] at h;cases hm:mapO (bG J n) xs with
 |none=>rw[hm] at h;cases h
 |some eB=>rw[hm] at h;cases h;exact⟨eB,rfl,rfl⟩
theorem tv{k:IntKind}{a c:Nat}(aa:c≠0):binop .rem (.i k (Int.ofNat a)) (.i k (Int.ofNat c))=some (.i k (Int.ofNat (a%c))):=by
 show(if k=k then binI .rem k (Int.ofNat a) (Int.ofNat c) else none)=_;rw[if_pos I];show(if Int.ofNat c=0 then none else some (AV.i k ((Int.ofNat a).tmod (Int.ofNat c))))=_;rw[if_neg (by simpa using aa)];rfl
end Go.Lyc
end
noncomputable section
namespace Go.Lyc
set_option maxHeartbeats 0
structure Hid(R:Prop):Prop where
 out:R
theorem DW{P R:Prop}(k:R)(h:Hid R->P:=by
 intro k
 repeat (first|refine aE.go I I I I ?_|refine aE.cmp I I I I I ?_|refine aE.off I I ?_|refine aE.nil ?_|refine aj.seq ?_|refine aj.region ?_|refine aj.skip ?_|refine aj.block ?_)
 exact k.out):P:=h ⟨k⟩
theorem a7E{P R:Prop}(k:R)(h:Hid R->P:=by
 intro k
 repeat (first|refine dX.go I I I I ?_|refine dX.cmp I I I I I ?_|refine dX.off I I ?_|refine dX.nil ?_)
 exact k.out):P:=h ⟨k⟩
theorem iK{P R:Prop}(k:R)(h:Hid R->P:=by
 intro k
 repeat (first|refine aE.go I I I I ?_|refine aE.cmp I I I I I ?_|refine aE.off I I ?_|refine aE.nil ?_)
 exact k.out):P:=h ⟨k⟩
theorem R4{P R:Prop}(k:R)(h:Hid R->P:=by
 intro k
 repeat (first|refine aE.go I I I I ?_|refine aE.aw cv I I I I ?_|refine aE.cmp I I I I I ?_|refine aE.off I I ?_|refine aE.nil ?_)
 exact k.out):P:=h ⟨k⟩
end Go.Lyc
end
noncomputable section
namespace Go.Lyc
set_option maxHeartbeats 0
variable [Tok][TokOk]
open Go.RowKit
def calm:AOp->Bool
 | .call _ _=>false
 | .jW _ _=>false
 | .qn _=>false
 | .len 0 _=>false
 |_=>true
def xI:Option bL->Prop
 |none=>True
 |some (.val _ _)=>True
 |some (.panic _)=>True
 |_=>False
theorem a7F{c:Bool}{a b:Option bL}(ha:xI a)(hb:xI b):xI (cond c a b):=by cases c<;>assumption
theorem a7G{k:Nat}{x:aF}{v:AV}{J:ad}(h:calm (.len k x)=true):xI (lenU J k v):=by
 cases k with
 |zero=>cases h
 |succ k=>exact trivial
set_option maxHeartbeats 0 in
theorem DX{floor:Nat}{aq:aF->Option AV}{J:ad}:∀ {op:AOp},calm op=true->xI (opx floor aq J op):=by
 intro op h;cases op<;>first
  |(cases h;done)
  |(simp only[opx];repeat' split)<;>(first|trivial|exact a7G h|exact a7F trivial trivial|(simp_all [xI];done))
def hM{α:Type}:Option (List α)->Prop
 |none=>True
 |some l=>∃x,l=[x]
theorem hM.gw{α β:Type}{r:Option (List α)}{f:α->Option (List β)}(h:hM r)(hf:∀x,hM (f x)):hM (Go.Lyc.gw r f):=by
 cases r with
 |none=>trivial
 |some l=>obtain⟨x,rfl⟩:=h;exact hf x
def DY(env:Env)(gs:List Nat):Prop:=∀g∈gs,∀F args J,hM (callV env (exec env F) 0 (.f (.func g) [] []) args J)
theorem DY.nil{env:Env}:DY env []:=λ_ h=>absurd h (by simp)
def tw(gs:List Nat)(g:Nat):Bool:=gs.any λx=>Nat.beq x g
theorem xJ{g:Nat}{gs:List Nat}(h:tw gs g=true):g∈gs:=by
 obtain⟨x,h1,h2⟩:=List.any_eq_true.1 h;rw[<-Nat.eq_of_beq_eq_true h2];exact h1
def Aq(gs:List Nat)(o:aY):Bool:=
 (match o.iS with|[]=>true|_::_=>false)&&(match o.op with
  | .call (.fn g) _=>tw gs g
  |op=>calm op)
theorem a7H{gs:List Nat}{o:aY}(h:Aq gs o=true):o.iS=[]/\((∃g as,o.op= .call (.fn g) as/\g∈gs)\/calm o.op=true):=by
 obtain⟨d,op,DZ,w⟩:=o;cases w with
 |cons a l=>cases h
 |nil=>
  refine⟨rfl,?_⟩;cases op with
  |call c as=>cases c with
   |fn g=>exact .inl ⟨g,as,rfl,xJ h⟩
   |val x=>cases h
  |_=>exact .inr h
abbrev JF(J τ:ad):Prop:=∀i o,J.get i=some o->τ.get i=some o
theorem JG{env:Env}{gs:List Nat}(hg:DY env gs){F:Nat}{du:Bool}:∀ {ops:List aY},cr (Aq gs) ops=true->∀ {ab:Fr} {J:ad} {outs:lr},runOps env 0 (callV env (exec env F) 0) du ops ab J=some outs->(∀o∈outs,o.1= .normal)->outs≠[]→
  ∃a9 eC af,outs=[(.normal,a9,af)]/\eC.length=ops.length/\(∃t,(af::eC).reverse=J::t)/\∀cp ws,h4 env 0 (callV env (exec env F) 0) ops ab cp ws J=some (a9,eC++cp,ws,af)
 |[],_,ab,J,outs,h,_,_=>by
  cases h;exact⟨ab,[],J,rfl,rfl,⟨[],rfl⟩,λ_ _=>rfl⟩
 |o::ops,ao,ab,J,outs,h,hn,a5=>by
  have h1:Aq gs o=true:=kI ao o (by simp);have h2:cr (Aq gs) ops=true:=iv λx hx=>kI ao x (List.mem_cons_of_mem _ hx);rw[va] at h;obtain⟨hw,fN⟩:=a7H h1;have fin:∀ {dw:Fr} {bP:ad},runOps env 0 (callV env (exec env F) 0) du ops dw bP=some outs->(∀cp ws,h4 env 0 (callV env (exec env F) 0) (o::ops) ab cp ws J=h4 env 0 (callV env (exec env F) 0) ops dw (J::cp) ws bP)→
    ∃a9 eC af,outs=[(.normal,a9,af)]/\eC.length=(o::ops).length/\(∃t,(af::eC).reverse=J::t)/\∀cp ws,h4 env 0 (callV env (exec env F) 0) (o::ops) ab cp ws J=some (a9,eC++cp,ws,af):=λ{dw bP} ak hd=>by
   obtain⟨a9,eC,af,a3,bm,_,dU⟩:=JG hg h2 ak hn a5;refine⟨a9,eC++[J],af,a3,by simp[bm],⟨(af::eC).reverse,by rw[<-List.cons_append,List.reverse_append];rfl⟩,λcp ws=>?_⟩;rw[hd,dU,List.append_assoc];rfl
  cases hwt:wantedA o.guard ab.a_ with
  |false=>
   rw[hwt,cond_false] at h;exact fin h λcp ws=>by rw[runDraw_cons,hwt,cond_false]
  |true=>
   rw[hwt,cond_true] at h;cases hx:opx 0 (evalA env ab.a_) J o.op with
   |none=>rw[hx] at h;cases h
   |some r=>
    rw[hx] at h;cases r with
    |val v bP=>exact fin h λcp ws=>by rw[runDraw_cons,hwt,cond_true,hx,hw]
    |panic v=>cases h;have:=hn _ (List.mem_singleton.2 I);cases this
    |call cd args=>
     have dK:∃g,cd= .f (.func g) [] []/\g∈gs:=by
      rcases fN with⟨g,as,ho,jC⟩|fN
      ·rw[ho] at hx;refine⟨g,?_,jC⟩;simp only[opx] at hx
       repeat' split at hx
       all_goals first|(cases hx;done)|(rename_i a _;cases hx;cases a;rfl)
      ·have:=DX (floor:=0) (aq:=evalA env ab.a_) (J:=J) fN;rw[hx] at this;exact this.elim
     obtain⟨g,jk,jC⟩:=dK;subst jk;have h:gw (callV env (exec env F) 0 (.f (.func g) [] []) args J) (λr=>match r with
      |(.ok v,J)=>runOps env 0 (callV env (exec env F) 0) du ops (ab.put o.dst v) J
      |(.err v,J)=>some [(.panic v,ab,J)])=some outs:=h
     have h1:=hg g jC F args J;cases aa:callV env (exec env F) 0 (.f (.func g) [] []) args J with
     |none=>rw[aa] at h;cases h
     |some l=>
      rw[aa] at h1 h;obtain⟨x,rfl⟩:=h1;obtain⟨rt,bP⟩:=x;have e:∀(f:dR×ad->Option lr),gw (some [(rt,bP)]) f=f (rt,bP):=λf=>by
       rfl
      rw[e] at h;cases rt with
      |err v=>cases h;have:=hn _ (List.mem_singleton.2 I);cases this
      |ok v=>
       have h:runOps env 0 (callV env (exec env F) 0) du ops (ab.put o.dst v) bP=some outs:=h;refine fin h λcp ws=>?_;rw[runDraw_cons,hwt,cond_true,hx];show(match callV env (exec env F) 0 (.f (.func g) [] []) args J with|some [(.ok v,af)]=>h4 env 0 (callV env (exec env F) 0) ops (ab.put o.dst v) (J::cp) ws af|_=>none)=_;rw[aa]
    |jW cd args=>
     exfalso;rcases fN with⟨g,as,ho,jC⟩|fN
     ·rw[ho] at hx;simp only[opx] at hx
      repeat' split at hx
      all_goals first|(cases hx;done)|(simp_all;done)
     ·have:=DX (floor:=0) (aq:=evalA env ab.a_) (J:=J) fN;rw[hx] at this;exact this.elim
    |iy l=>
     exfalso;rcases fN with⟨g,as,ho,jC⟩|fN
     ·rw[ho] at hx;simp only[opx] at hx
      repeat' split at hx
      all_goals first|(cases hx;done)|(simp_all;done)
     ·have:=DX (floor:=0) (aq:=evalA env ab.a_) (J:=J) fN;rw[hx] at this;exact this.elim
def a7I(env:Env)(m:Nat)(s:ad)(w:qs):Prop:=(∀q∈w.1.iS,q=m)/\∃v τ,opx 0 (evalA env w.2.1) s w.1.op=some (.val v τ)/\AV.eqb env.bn v w.2.2=true
def D0(env:Env)(aJ:Option Nat)(D:List (Nat ⊕ (AV×List AV)))(n m k:Nat)(ops:List aY)(f:Nat->AV)(J:ad)(Q:(Nat->AV)->ad->Prop):Prop:=
 ∀ab,g6 D n f ab->∃eU a9 bW af,g6 D n bW a9/\Q bW af/\k<=m/\∀F,eU<=F->∃eC wn s,eC.length=ops.length/\(∀cp ws,h4 env 0 (callV env (exec env F) 0) ops ab cp ws J=some (a9,eC++cp,wn++ws,af))∧
  nth (af::eC).reverse (m-k)=some s/\JF J s/\∀w∈wn,a7I env m s w
section
variable {env:Env}{aJ:Option Nat}{D:List (Nat ⊕ (AV×List AV))}{n m k:Nat}{f:Nat->AV}{J:ad}{gs:List Nat}
theorem aj.a7J{ops:List aY}{Q:dS}(m:Nat)(ao:swapT ops=true)(h:D0 env aJ D n m 0 ops f J (λbW af=>Q .normal bW af)):bO env aJ D n (.draw ops) f J Q:=λab bq=>by
 obtain⟨eU,a9,bW,af,h2,h3,_,h1⟩:=h ab bq;refine⟨eU+1,[(.normal,a9,af)],by simp,λF b_=>?_,λo ho=>?_⟩
 ·obtain⟨k,rfl⟩:∃k,F=k+1:=⟨F-1,by omega⟩
  obtain⟨eC,wn,s,_,bm,cv,_,en⟩:=h1 k (by omega);show exec env (k+1) 0 aJ (bF.draw ops) ab J=_;rw[mb];show(match h4 env 0 (callV env (exec env k) 0) ops ab [] [] J with
   |some (a9,cp,ws,af)=>cond (ws.all (steady env 0 (af::cp).reverse)&&swapOk env a9.a_ ops) (some [(fa.normal,a9,af)]) none
   |none=>none)=_
  rw[bm];show cond ((wn++[]).all (steady env 0 (af::(eC++[])).reverse)&&swapOk env a9.a_ ops) (some [(fa.normal,a9,af)]) none=_;rw[List.append_nil,List.append_nil,Jx ao,Bool.and_true];have:wn.all (steady env 0 (af::eC).reverse)=true:=by
   rw[List.all_eq_true];intro w j6;obtain⟨ec,v,τ,dp,dO⟩:=en w j6;unfold steady;refine iv λq aS=>?_;rw[ec q aS,show nth (af::eC).reverse m=some s from cv];show(match qq w.1.op 0 (evalA env w.2.1) s with|some (.val v _)=>AV.eqb env.bn v w.2.2|_=>false)=true;rw[u_,dp];exact dO
  rw[this];rfl
 ·rw[List.mem_singleton.1 ho];exact⟨bW,h2,h3⟩
theorem D0.fin{ops:List aY}{Q:(Nat->AV)->ad->Prop}(hg:DY env gs)(ao:cr (Aq gs) ops=true)(h:dj env aJ D n ops f J (λx bW af=>x= .normal/\Q bW af)):D0 env aJ D n m m ops f J Q:=λab bq=>by
 obtain⟨eU,outs,h1,h2,h3⟩:=h ab bq;have hn:∀o∈outs,o.1= .normal:=λo ho=>by obtain⟨bW,_,h,_⟩:=h3 o ho;exact h
 obtain⟨a9,eC,af,e,_,_,_⟩:=JG hg ao (h2 eU (Nat.le_refl _)) hn h1;obtain⟨bW,ec,_,dp⟩:=h3 _ (by rw[e];exact List.mem_singleton.2 I);refine⟨eU,a9,bW,af,ec,dp,Nat.le_refl _,λF b_=>?_⟩;obtain⟨tu,a7K,cx,a4,k4,⟨t,nM⟩,D1⟩:=JG hg ao (h2 F b_) hn h1;rw[e] at a4;cases a4;exact⟨a7K,[],J,k4,λcp ws=>D1 cp ws,by rw[nM,Nat.sub_self];rfl,λ_ _ h=>h,λ_ h=>absurd h (by simp)⟩
end
end Go.Lyc
end
noncomputable section
namespace Go.Lyc
set_option maxHeartbeats 0
open Go Go.RowKit
theorem D2{f:Nat->AV}{i j:Nat}{v:AV}(h:Nat.beq j i=false):cR f i v j=f j:=by show cond (Nat.beq j i) v (f j)=f j;rw[h];rfl
theorem xK{f:Nat->AV}{i:Nat}{v:AV}:cR f i v i=v:=by show cond (Nat.beq i i) v (f i)=v;rw[Nat.beq_refl];rfl
variable [Tok][TokOk] in
theorem aj.each{env:Env}{aJ:Option Nat}{D:List (Nat ⊕ (AV×List AV))}{n i m c d b e5:Nat}{body:bF}{f:Nat->AV}{J:ad}{Q:dS}(N:Nat)(ed:Nat->(Nat->AV)->ad->Prop)
  (de:N<2^62) (h0:ed 0 f J) (r3:f i=ah 0) (D3:f m=ah N)
  (hb:∀j g τ,j<N->ed j g τ->g i=ah j->g m=ah N->bO env aJ D n (.block e5 body) (cR g c (.b true)) τ (λx bW aH=>match x with
   | .normal=>bW i=ah j/\bW m=ah N/\ed (j+1) (cR (cR bW d (ah (j+1))) i (ah (j+1))) aH
   | .exit e=>Nat.beq e b=false/\Q (.exit e) bW aH
   |x=>Q x bW aH))
  (hx:∀g τ,ed N g τ->g i=ah N->Q .normal (cR g c (.b false)) τ)
  (aa:Nat.blt c n=true:=by rfl) (hd:Nat.blt d n=true:=by rfl) (hi:Nat.blt i n=true:=by rfl) (hm:Nat.blt m n=true:=by rfl) (JH:Nat.beq m d=false:=by rfl) (s8:Nat.beq m i=false:=by rfl):
  bO env aJ D n (.block b (.loop (.seq (.region [⟨some c,.bin .lss (.t i) (.t m),none,[]⟩]) (.seq (.cond (.t c) .skip (.exit b)) (.seq (.block e5 body) (.region [⟨some d,.bin .add (.t i) (.c (.i .i64 1)),none,[]⟩,⟨some i,.bx (.t d),none,[]⟩])))))) f J Q:=by
 refine aj.block (aj.loop (λk g τ=>∃j,j+k=N/\ed j g τ/\g i=ah j/\g m=ah N) ?_ N ⟨0,by omega,h0,r3,D3⟩);rintro k g τ ⟨j,D4,aV,vz,jC⟩;have oI:da env n g (.t i)=some (ah j):=by show cond (Nat.blt i n) (some (g i)) none=_;rw[hi,vz];rfl
 have em:da env n g (.t m)=some (ah N):=by show cond (Nat.blt m n) (some (g m)) none=_;rw[hm,jC];rfl
 refine aj.seq (aj.region ?_);refine aE.cmp (a:=j) (b:=N) aa I oI em I ?_;refine aE.nil (aj.seq (aj.hJ (t:=decide (j<N)) (by show cond (Nat.blt c n) (some (cR g c (.b (decide (j<N))) c)) none=_;rw[aa,xK];rfl) (λh=>?_) λh=>?_))
 ·have aA:j<N:=of_decide_eq_true h;rw[h];refine aj.skip (aj.seq ((hb j g τ aA aV vz jC).mono λx bW aH h'=>?_));cases x with
  |normal=>
   obtain⟨h1,h2,h3⟩:=h';refine aj.region ?_;have aN:da env n bW (.t i)=some (ah j):=by show cond (Nat.blt i n) (some (bW i)) none=_;rw[hi,h1];rfl
   refine aE.bin hd I aN I (oE (a:=j) (b:=1) (by omega)) ?_;refine aE.go I hi I (v:=ah (j+1)) (af:=aH) ?_ ?_
   ·show(match cond (Nat.blt d n) (some (cR bW d (ah (j+1)) d)) none with|some v=>some (bL.val v aH)|none=>none)=_;rw[hd,xK];rfl
   ·refine aE.nil ?_;refine⟨k-1,by omega,j+1,by omega,h3,xK,?_⟩;rw[D2 s8,D2 JH,h2]
  |exit e=>
   show cond (Nat.beq e b) (Q .normal bW aH) (Q (.exit e) bW aH);rw[h'.1];exact h'.2
  |ret=>exact h'
  |panic v=>exact h'
 ·have aA:j=N:=by have:=of_decide_eq_false h;omega
  subst aA;rw[h];refine aj.exit ?_;show cond (Nat.beq b b) (Q .normal (cR g c (.b false)) τ) (Q (.exit b) (cR g c (.b false)) τ);rw[Nat.beq_refl];exact hx g τ aV vz
end Go.Lyc
end
noncomputable section
namespace Go.Lyc
set_option maxHeartbeats 0
variable [Tok][TokOk]
open Go.RowKit
def D5(gs:List Nat)(o:aY):Bool:=match o.op with
 | .call (.fn g) _=>tw gs g
 |op=>calm op
def quiet(gs:List Nat):bF->Bool
 | .skip=>true
 | .region ops=>cr (D5 gs) ops
 | .draw _=>true
 | .seq a b=>quiet gs a&&quiet gs b
 | .cond _ a b=>quiet gs a&&quiet gs b
 | .block _ a=>quiet gs a
 | .loop a=>quiet gs a
 | .scope a=>quiet gs a
 | .exit _=>true
 | .ret=>true
 |_=>false
def vA(env:Env)(g:Nat):Prop:=∀F first cap args J,hM (callV env (exec env F) 0 (.f (.func g) first cap) args J)
theorem D6{env:Env}{gs:List Nat}{call:kU}(aa:∀g∈gs,∀args J,hM (call (.f (.func g) [] []) args J)){du:Bool}:∀ {ops:List aY},cr (D5 gs) ops=true->∀ab J,hM (runOps env 0 call du ops ab J)
 |[],_,ab,J=>⟨_,rfl⟩
 |o::ops,h,ab,J=>by
  have h1:D5 gs o=true:=kI h o (by simp);have h2:cr (D5 gs) ops=true:=iv λx hx=>kI h x (List.mem_cons_of_mem _ hx);rw[va];cases wantedA o.guard ab.a_ with
  |false=>exact D6 aa h2 _ _
  |true=>
   rw[cond_true];obtain⟨d,op,DZ,wn⟩:=o;by_cases fH:∃g as,op= .call (.fn g) as
   ·obtain⟨g,as,rfl⟩:=fH;have hg:g∈gs:=xJ h1;cases hx:opx 0 (evalA env ab.a_) J (.call (.fn g) as) with
    |none=>trivial
    |some r=>
     have dK:∃args,r= .call (.f (.func g) [] []) args:=by
      simp only[opx] at hx
      repeat' split at hx
      all_goals first|(cases hx;done)|(rename_i a _;cases hx;cases a;exact⟨_,rfl⟩)|(cases hx;exact⟨_,rfl⟩)
     obtain⟨args,rfl⟩:=dK;refine hM.gw (aa g hg _ _) λr=>?_;obtain⟨r,af⟩:=r;cases r with
     |ok v=>exact D6 aa h2 _ _
     |err v=>exact⟨_,rfl⟩
   ·have w1:calm op=true:=by
     cases op with
     |call c as=>cases c with
      |fn g=>exact absurd ⟨g,as,rfl⟩ fH
      |val x=>exact h1
     |_=>exact h1
    have:=DX (floor:=0) (aq:=evalA env ab.a_) (J:=J) w1;cases hx:opx 0 (evalA env ab.a_) J op with
    |none=>trivial
    |some r=>
     rw[hx] at this;cases r with
     |val v af=>exact D6 aa h2 _ _
     |panic v=>exact⟨_,rfl⟩
     |call _ _=>exact this.elim
     |jW _ _=>exact this.elim
     |iy _=>exact this.elim
def qX(env:Env)(gs:List Nat):Prop:=∀g∈gs,env.ext g=0/\(env.pure g=true\/env.pure g=false/\∃b1 body,env.funcs g=some b1/\b1.body=some body/\quiet gs body=true)
theorem quiet_code{env:Env}{gs:List Nat}{F:Nat}(aS:∀G,G<F->∀g∈gs,∀args J,hM (callV env (exec env G) 0 (.f (.func g) [] []) args J)):∀(G:Nat),G<=F->∀ {c:bF},quiet gs c=true->∀ {aJ} ab J,hM (exec env G 0 aJ c ab J)
 |0,_,_,_,_,_,_=>trivial
 |G+1,cZ,c,h,aJ,ab,J=>by
  have aD:=λ{c} h {aJ} ab J=>@quiet_code env gs F aS G (by omega) c h aJ ab J;rw[mb];cases c with
  |skip=>exact⟨_,rfl⟩
  |region ops=>exact D6 (aS G (by omega)) h ab J
  |draw ops=>
   show hM (match h4 env 0 (callV env (exec env G) 0) ops ab [] [] J with|some (a9,cp,ws,af)=>cond (ws.all (steady env 0 (af::cp).reverse)&&swapOk env a9.a_ ops) (some [(fa.normal,a9,af)]) none|none=>none);split
   ·rename_i a9 cp ws af _;cases(ws.all (steady env 0 (af::cp).reverse)&&swapOk env a9.a_ ops) with
    |true=>exact⟨_,rfl⟩
    |false=>trivial
   ·trivial
  |seq a b=>
   rw[quiet,Bool.and_eq_true] at h;refine hM.gw (aD h.1 ab J) λr=>?_;obtain⟨x,a9,af⟩:=r;cases x with
   |normal=>exact aD h.2 a9 af
   |_=>exact⟨_,rfl⟩
  |cond o a b=>
   rw[quiet,Bool.and_eq_true] at h;show hM (match evalA env ab.a_ o with|some (.b t)=>exec env G 0 aJ (cond t a b) ab J|_=>none);split
   ·rename_i t _;cases t with
    |true=>exact aD h.1 ab J
    |false=>exact aD h.2 ab J
   ·trivial
  |block id a=>
   refine hM.gw (aD (show quiet gs a=true from h) ab J) λr=>?_;obtain⟨x,a9,af⟩:=r;cases x with
   |exit j=>
    show hM (cond (Nat.beq j id) (some [(fa.normal,a9,af)]) (some [(fa.exit j,a9,af)]));cases Nat.beq j id<;>exact⟨_,rfl⟩
   |_=>exact⟨_,rfl⟩
  |loop a=>
   refine hM.gw (aD (show quiet gs a=true from h) ab J) λr=>?_;obtain⟨x,a9,af⟩:=r;cases x with
   |normal=>exact aD (c:=.loop a) h a9 af
   |_=>exact⟨_,rfl⟩
  |scope a=>exact aD (show quiet gs a=true from h) ab J
  |rangeFunc _ _ _ _=>cases h
  |exit id=>exact⟨_,rfl⟩
  |ret=>exact⟨_,rfl⟩
  |bad=>cases h
theorem a7L{env:Env}{b1:aI}(r:fa×Fr×ad):hM (endF env 0 b1 r):=by
 obtain⟨x,ab,J⟩:=r;cases x with
 |exit i=>trivial
 |_=>
  unfold endF;simp only[];split
  ·trivial
  ·exact⟨_,rfl⟩
  ·split
   ·exact⟨_,rfl⟩
   ·trivial
theorem qX.call{env:Env}{gs:List Nat}(aS:qX env gs):∀F,∀g∈gs,∀first cap args J,hM (callV env (exec env F) 0 (.f (.func g) first cap) args J):=by
 intro F
 induction F using Nat.strongRecOn with
 |ind F aD=>
  intro g hg first cap args J
  obtain⟨he,ar⟩:=aS g hg;show hM (callF env (exec env F) 0 g (first++args++cap) J);unfold callF;rw[he];rcases ar with ar|⟨ar,b1,body,hf,hb,a7M⟩
  ·show hM (cond (env.pure g) _ _);rw[ar,cond_true]
   repeat' split
   all_goals first|trivial|exact⟨_,rfl⟩
  ·show hM (cond (env.pure g) _ _);rw[ar,cond_false];unfold runF;rw[hf];show hM (match b1.body with|none=>none|some body=>_);rw[hb];show hM (cond _ _ none);cases(Nat.beq (first++args++cap).length b1.jg&&Nat.ble (first++args++cap).length b1.ntmps) with
   |false=>trivial
   |true=>exact hM.gw (quiet_code (λG cZ g hg args J=>aD G cZ g hg [] [] args J) F (Nat.le_refl _) a7M _ _) a7L
theorem qX.one{env:Env}{gs:List Nat}(aS:qX env gs){g:Nat}(h:tw gs g=true):vA env g:=λF first cap args J=>aS.call F g (xJ h) first cap args J
abbrev kn:=List (Nat×Nat×List AV)
def vB(N len:Nat)(D7:List ad)(q:Nat)(P:ad->Prop):Prop:=∃j s,q+len=N+j/\nth D7 j=some s/\P s
theorem vB.up{N len q:Nat}{D7:List ad}{J:ad}{P:ad->Prop}(h:vB N len D7 q P):vB N (len+1) (J::D7) q P:=by
 obtain⟨j,s,h1,h2,h3⟩:=h;exact⟨j+1,s,by omega,h2,h3⟩
def dY(env:Env)(D:List (Nat ⊕ (AV×List AV)))(n N:Nat)(cz:kn)(ops:List aY)(f:Nat->AV)(J:ad)(Q:dS):Prop:=
 ∀ab,g6 D n f ab->∃eU a9 bW af,g6 D n bW a9/\Q .normal bW af/\∀F,eU<=F->∃eC wn,(∃t,(af::eC).reverse=J::t/\t.length=ops.length)∧
  (∀cp ws,h4 env 0 (callV env (exec env F) 0) ops ab cp ws J=some (a9,eC++cp,wn++ws,af))∧
  (∀p∈cz,vB N ops.length (af::eC).reverse p.1 λs=>s.get p.2.1=some (.cells p.2.2))∧
  ∀w∈wn,∀q∈w.1.iS,vB N ops.length (af::eC).reverse q λs=>∃v τ,opx 0 (evalA env w.2.1) s w.1.op=some (.val v τ)/\AV.eqb env.bn v w.2.2=true
section
variable {env:Env}{aJ:Option Nat}{D:List (Nat ⊕ (AV×List AV))}{n N:Nat}{f:Nat->AV}{J:ad}{Q:dS}{cz:kn}
theorem aj.JI{ops:List aY}(ao:swapT ops=true)(h:dY env D n ops.length [] ops f J Q):bO env aJ D n (.draw ops) f J Q:=λab bq=>by
 obtain⟨eU,a9,bW,af,h2,h3,h1⟩:=h ab bq;refine⟨eU+1,[(.normal,a9,af)],by simp,λF b_=>?_,λo ho=>?_⟩
 ·obtain⟨k,rfl⟩:∃k,F=k+1:=⟨F-1,by omega⟩
  obtain⟨eC,wn,_,bm,_,en⟩:=h1 k (by omega);show exec env (k+1) 0 aJ (bF.draw ops) ab J=_;rw[mb];show(match h4 env 0 (callV env (exec env k) 0) ops ab [] [] J with
   |some (a9,cp,ws,af)=>cond (ws.all (steady env 0 (af::cp).reverse)&&swapOk env a9.a_ ops) (some [(fa.normal,a9,af)]) none
   |none=>none)=_
  rw[bm];show cond ((wn++[]).all (steady env 0 (af::(eC++[])).reverse)&&swapOk env a9.a_ ops) (some [(fa.normal,a9,af)]) none=_;rw[List.append_nil,List.append_nil,Jx ao,Bool.and_true];have:wn.all (steady env 0 (af::eC).reverse)=true:=by
   rw[List.all_eq_true];intro w j6;unfold steady;refine iv λq aS=>?_;obtain⟨j,s,e,ec,v,τ,dp,dO⟩:=en w j6 q aS;obtain rfl:q=j:=by omega
   rw[ec];show(match qq w.1.op 0 (evalA env w.2.1) s with|some (.val v _)=>AV.eqb env.bn v w.2.2|_=>false)=true;rw[u_,dp];exact dO
  rw[this];rfl
 ·rw[List.mem_singleton.1 ho];exact⟨bW,h2,h3⟩
theorem dY.one{o:aY}{ops:List aY}{f1:Nat->AV}{bP:ad}{mj:kn}{wl:aX AV->List qs}(h:dY env D n N mj ops f1 bP Q)(a7N:∀p∈cz,p∈mj)
  (ak:∀ab,g6 D n f ab->∃dw eU,g6 D n f1 dw/\(∀w∈wl ab.a_,∀q∈w.1.iS,∀st,(∀p∈mj,vB N ops.length st p.1 λs=>s.get p.2.1=some (.cells p.2.2))->st.length=ops.length+1->vB N ops.length st q λs=>∃v τ,opx 0 (evalA env w.2.1) s w.1.op=some (.val v τ)/\AV.eqb env.bn v w.2.2=true)∧
   ∀F,eU<=F->∀cp ws,h4 env 0 (callV env (exec env F) 0) (o::ops) ab cp ws J=h4 env 0 (callV env (exec env F) 0) ops dw (J::cp) (wl ab.a_++ws) bP):dY env D n N cz (o::ops) f J Q:=λab bq=>by
 obtain⟨dw,qT,JD,hw,ak⟩:=ak ab bq;obtain⟨eU,a9,bW,af,h2,h3,h1⟩:=h dw JD;refine⟨max eU qT,a9,bW,af,h2,h3,λF b_=>?_⟩;obtain⟨eC,wn,⟨t,bN,bQ⟩,cc,cI,c_⟩:=h1 F (by omega);have e:(af::(eC++[J])).reverse=J::(af::eC).reverse:=by rw[<-List.cons_append,List.reverse_append];rfl
 refine⟨eC++[J],wn++wl ab.a_,⟨(af::eC).reverse,e,by rw[bN];simp[bQ]⟩,λcp ws=>by rw[ak F (by omega),cc,List.append_assoc,List.append_assoc];rfl,λp ar=>?_,λw pM q aS=>?_⟩
 ·rw[e];exact(cI p (a7N p ar)).up
 ·rw[e];rcases List.mem_append.1 pM with pM|pM
  ·exact(c_ w pM q aS).up
  ·exact(hw w pM q aS _ cI (by rw[bN];simp[bQ])).up
theorem dY.val{d:Option Nat}{op:AOp}{g:Option (Nat×Bool)}{ops:List aY}{v:AV}{af:ad}(hd:∀x,d=some x->Nat.blt x n=true)(hw:fQ g n f=true)(ho:opx 0 (da env n f) J op=some (.val v af))(h:dY env D n N cz ops (match d with|some d=>cR f d v|none=>f) af Q):
  dY env D n N cz (⟨d,op,g,[]⟩::ops) f J Q:=dY.one (wl:=λ_=>[]) h (λ_ h=>h) λab bq=>⟨ab.put d v,0,by
 cases d with
 |none=>exact bq
 |some d=>exact bq.put v (hd d I),λ_ h=>absurd h (by simp),λF _ cp ws=>by
  rw[runDraw_cons];show cond (wantedA g ab.a_) _ _=_;rw[bq.wanted,hw,cond_true,bq.aq,ho];rfl⟩
theorem dY.off{d:Nat}{op:AOp}{g:Option (Nat×Bool)}{wn:List Nat}{ops:List aY}(hd:Nat.blt d n=true)(hw:fQ g n f=false)(h:dY env D n N cz ops (cR f d dB) J Q):dY env D n N cz (⟨some d,op,g,wn⟩::ops) f J Q:=
 dY.one (wl:=λ_=>[]) h (λ_ h=>h) λab bq=>⟨ab.put (some d) dB,0,bq.put _ hd,λ_ h=>absurd h (by simp),λF _ cp ws=>by
  rw[runDraw_cons];show cond (wantedA g ab.a_) _ _=_;rw[bq.wanted,hw,cond_false];rfl⟩
theorem dY.fJ{d:Nat}{op:AOp}{g:Option (Nat×Bool)}{wn:List Nat}{ops:List aY}{v:AV}{id:Nat}{c:List AV}(ao:J.get id=some (.cells c))(hd:Nat.blt d n=true)(hw:fQ g n f=true)(ho:∀s:ad,s.get id=some (.cells c)->opx 0 (da env n f) s op=some (.val v s))(au:AV.eqb env.bn v v=true)
  (h:dY env D n N (wn.map (λq=>(q,id,c))++cz) ops (cR f d v) J Q):dY env D n N cz (⟨some d,op,g,wn⟩::ops) f J Q:=
 dY.one (wl:=λal=>match wn with|[]=>[]|_::_=>[(⟨some d,op,g,wn⟩,al,v)]) h (λ_ h=>List.mem_append.2 (.inr h)) λab bq=>⟨ab.put (some d) v,0,bq.put v hd,λw pM q aS st cA _=>by
  cases wn with
  |nil=>simp at pM
  |cons a l=>
   rw[List.mem_singleton.1 pM] at aS ⊢;obtain⟨j,s,aN,a4,cQ⟩:=cA (q,id,c) (List.mem_append.2 (.inl (List.mem_map.2 ⟨q,aS,rfl⟩)));exact⟨j,s,aN,a4,v,s,by show opx 0 (evalA env ab.a_) s op=_;rw[bq.aq];exact ho s cQ,au⟩,λF _ cp ws=>by
  rw[runDraw_cons];show cond (wantedA g ab.a_) _ _=_;rw[bq.wanted,hw,cond_true,bq.aq,ho J ao];cases wn<;>rfl⟩
theorem dY.pN{d:Nat}{op:AOp}{g:Option (Nat×Bool)}{wn:List Nat}{ops:List aY}{v:AV}(j6:cr (λq=>Nat.ble N (q+ops.length)&&Nat.ble q N) wn=true)(hd:Nat.blt d n=true)(hw:fQ g n f=true)(ho:∀s:ad,opx 0 (da env n f) s op=some (.val v s))(au:AV.eqb env.bn v v=true)
  (h:dY env D n N cz ops (cR f d v) J Q):dY env D n N cz (⟨some d,op,g,wn⟩::ops) f J Q:=
 dY.one (wl:=λal=>match wn with|[]=>[]|_::_=>[(⟨some d,op,g,wn⟩,al,v)]) h (λ_ h=>h) λab bq=>⟨ab.put (some d) v,0,bq.put v hd,λw pM q aS st cA hl=>by
  cases wn with
  |nil=>simp at pM
  |cons a l=>
   rw[List.mem_singleton.1 pM] at aS ⊢;have hb:=kI j6 q aS;simp only[Bool.and_eq_true] at hb;have h1:=Nat.le_of_ble_eq_true hb.1;have h2:=Nat.le_of_ble_eq_true hb.2;obtain⟨s,ao⟩:∃s,nth st (q+ops.length-N)=some s:=⟨st[q+ops.length-N]'(by omega),by rw[zb,List.getElem?_eq_getElem]⟩
   exact⟨q+ops.length-N,s,by omega,ao,v,s,by show opx 0 (evalA env ab.a_) s op=_;rw[bq.aq];exact ho s,au⟩,λF _ cp ws=>by
  rw[runDraw_cons];show cond (wantedA g ab.a_) _ _=_;rw[bq.wanted,hw,cond_true,bq.aq,ho J];cases wn<;>rfl⟩
theorem dY.call{d:Option Nat}{op:AOp}{g:Option (Nat×Bool)}{ops:List aY}{aR:Nat}{first cap args:List AV}{R:dR->ad->Prop}(hd:∀x,d=some x->Nat.blt x n=true)(hw:fQ g n f=true)(ho:opx 0 (da env n f) J op=some (.call (.f (.func aR) first cap) args))(h1:vA env aR)
  (aa:bu env 0 (.f (.func aR) first cap) args J R) (h:∀r af,R r af->∃v,r= .ok v/\dY env D n N cz ops (match d with|some d=>cR f d v|none=>f) af Q):dY env D n N cz (⟨d,op,g,[]⟩::ops) f J Q:=by
 obtain⟨qT,l,hl,h2,h3⟩:=aa;have aN:=h1 qT first cap args J
 rw[show callV env (exec env qT) 0 (.f (.func aR) first cap) args J=some l from h2 qT (Nat.le_refl _)] at aN;obtain⟨⟨r,bP⟩,rfl⟩:=aN;obtain⟨v,rfl,h⟩:=h r bP (h3 (r,bP) (List.mem_singleton.2 I));refine dY.one (wl:=λ_=>[]) h (λ_ h=>h) λab bq=>⟨ab.put d v,qT,?_,λ_ h=>absurd h (by simp),λF b_ cp ws=>?_⟩
 ·cases d with
  |none=>exact bq
  |some d=>exact bq.put v (hd d I)
 ·rw[runDraw_cons];show cond (wantedA g ab.a_) _ _=_;rw[bq.wanted,hw,cond_true,bq.aq,ho];show(match callV env (exec env F) 0 (.f (.func aR) first cap) args J with|some [(.ok v,af)]=>h4 env 0 (callV env (exec env F) 0) ops (ab.put d v) (J::cp) ws af|_=>none)=_;rw[show callV env (exec env F) 0 (.f (.func aR) first cap) args J=some [(.ok v,bP)] from h2 F b_];rfl
def xL(J:ad):List (Nat×Nat×List AV)->Prop
 |[]=>True
 |p::l=>J.get p.2.1=some (.cells p.2.2)/\xL J l
theorem xL.mem{J:ad}:∀ {l:List (Nat×Nat×List AV)},xL J l->∀p∈l,J.get p.2.1=some (.cells p.2.2)
 |_::_,h,p,ar=>by
  rcases List.mem_cons.1 ar with rfl|ar
  ·exact h.1
  ·exact h.2.mem p ar
def JJ(N len:Nat)(cz:kn):kn:=cz.filter λp=>Nat.beq (p.1+len) N
def R5(N len:Nat)(cz:kn):kn:=cz.filter λp=>!Nat.beq (p.1+len) N
theorem dY.now{ops:List aY}(l cf:kn)(h1:JJ N ops.length cz=l)(h2:R5 N ops.length cz=cf)(hh:xL J l)(h:dY env D n N cf ops f J Q):dY env D n N cz ops f J Q:=λab bq=>by
 obtain⟨eU,a9,bW,af,bQ,cc,bN⟩:=h ab bq;refine⟨eU,a9,bW,af,bQ,cc,λF b_=>?_⟩;obtain⟨eC,wn,⟨t,a3,bm⟩,cv,dU,en⟩:=bN F b_;refine⟨eC,wn,⟨t,a3,bm⟩,cv,λp ar=>?_,en⟩;by_cases hb:Nat.beq (p.1+ops.length) N=true
 ·exact⟨0,J,by rw[Nat.eq_of_beq_eq_true hb];rfl,by rw[a3];rfl,hh.mem p (by rw[<-h1];exact List.mem_filter.2 ⟨ar,hb⟩)⟩
 ·exact dU p (by rw[<-h2];exact List.mem_filter.2 ⟨ar,by rw[Bool.eq_false_iff.2 hb];rfl⟩)
theorem dY.nil(hh:JJ N 0 cz=cz)(hl:xL J cz)(h:Q .normal f J):dY env D n N cz [] f J Q:=λab bq=>
 ⟨0,ab,f,J,bq,h,λF _=>⟨[],[],⟨[],rfl,rfl⟩,λ_ _=>rfl,λp ar=>⟨0,J,by
  rw[<-hh] at ar;exact Nat.eq_of_beq_eq_true (List.mem_filter.1 ar).2,rfl,hl.mem p ar⟩,λ_ h=>absurd h (by simp)⟩⟩
end
inductive kJ where
 |pl
 |dc (N:Nat) (cz:kn)
def b9(cg:kJ)(env:Env)(aJ:Option Nat)(D:List (Nat ⊕ (AV×List AV)))(n:Nat)(ops:List aY)(f:Nat->AV)(J:ad)(Q:dS):Prop:=
 match cg with
 | .pl=>dj env aJ D n ops f J Q
 | .dc N cz=>dY env D n N cz ops f J Q
structure Has(J:ad)(L:List (Nat×List AV)):Prop where
 get:∀p∈L,J.get p.1=some (.cells p.2)
 xM:L.Pairwise λa b=>a.1≠b.1
theorem Has.nil{J:ad}:Has J []:=⟨λ_ h=>absurd h (by simp),.nil⟩
theorem Has.aO{J τ:ad}{L:List (Nat×List AV)}(h:Has J L)(k:∀i o,J.get i=some o->τ.get i=some o):Has τ L:=⟨λp ar=>k _ _ (h.get p ar),h.xM⟩
theorem Has.lt{J:ad}{L:List (Nat×List AV)}(h:Has J L){p:Nat×List AV}(ar:p∈L):p.1<J.next:=ad.bt (h.get p ar)
theorem Has.cons{J:ad}{L:List (Nat×List AV)}{k:Nat}{c:List AV}(h:Has J L)(az:J.get k=some (.cells c))(hn:∀p∈L,p.1≠k):Has J ((k,c)::L):=⟨λp ar=>by
 rcases List.mem_cons.1 ar with rfl|ar
 ·exact az
 ·exact h.get p ar,List.pairwise_cons.2 ⟨λp ar e=>hn p ar e.symm,h.xM⟩⟩
theorem Has.push{J τ:ad}{L:List (Nat×List AV)}{k:Nat}{c:List AV}(h:Has J L)(hn:J.next=k)(az:τ.get k=some (.cells c))(c7:∀i o,J.get i=some o->τ.get i=some o):Has τ ((k,c)::L):=
 (h.aO c7).cons az λp ar=>by have:=h.lt ar;omega
theorem Has.set{J τ:ad}{L:List (Nat×List AV)}{id:Nat}{c bM:List AV}(h:Has J L)(j:Nat)(aA:L[j]? =some (id,c))(az:τ.get id=some (.cells bM))(c7:∀i o,i≠id->J.get i=some o->τ.get i=some o):Has τ (L.set j (id,bM)):=by
 obtain⟨hlt,he⟩:=List.getElem?_eq_some_iff.1 aA;have a5:∀i (hi:i<L.length),i≠j->(L[i]).1≠id:=λi hi gp=>by
  have ar:=List.pairwise_iff_getElem.1 h.xM;have e:(L[j]).1=id:=by rw[he]
  rcases Nat.lt_or_ge i j with h1|h1
  ·rw[<-e];exact ar i j hi hlt h1
  ·rw[<-e];exact λeg=>ar j i hlt hi (by omega) eg.symm
 refine⟨λp ar=>?_,List.pairwise_iff_getElem.2 λa b ha hb D8=>?_⟩
 ·obtain⟨i,hi,rfl⟩:=List.getElem_of_mem ar;rw[List.length_set] at hi;rw[List.getElem_set];split
  ·exact az
  ·exact c7 _ _ (a5 i hi (by omega)) (h.get _ (List.getElem_mem hi))
 ·rw[List.length_set] at ha hb;rw[List.getElem_set,List.getElem_set];split<;>split
  ·omega
  ·rename_i e _;exact λeg=>a5 b hb (by omega) eg.symm
  ·exact a5 a ha (by omega)
  ·exact List.pairwise_iff_getElem.1 h.xM a b ha hb D8
def qY:List (Nat×AV)->Nat->Option AV
 |[],_=>none
 |(j,v)::L,i=>cond (Nat.beq i j) (some v) (qY L i)
def c8(env:Env)(n:Nat)(L:List (Nat×AV))(g:Nat->AV):aF->Option AV
 | .t i=>cond (Nat.blt i n) (match qY L i with|some v=>some v|none=>some (g i)) none
 | .c v=>some v
 | .g j=>match env.kS j with|some v=>some (.df true v)|none=>none
theorem D9{g:Nat->AV}:∀ {L:List (Nat×AV)} (i:Nat),bs L g i=(match qY L i with|some v=>v|none=>g i)
 |[],i=>rfl
 |(j,v)::L,i=>by
  show cond (Nat.beq i j) v (bs L g i)=(match cond (Nat.beq i j) (some v) (qY L i) with|some v=>v|none=>g i);cases Nat.beq i j with
  |true=>rfl
  |false=>exact D9 i
theorem mZ(env:Env)(n:Nat)(L:List (Nat×AV))(g:Nat->AV):da env n (bs L g)=c8 env n L g:=by
 funext x
 cases x with
 |t i=>
  show cond (Nat.blt i n) (some (bs L g i)) none=cond (Nat.blt i n) (match qY L i with|some v=>some v|none=>some (g i)) none;rw[D9];cases qY L i<;>rfl
 |c v=>rfl
 |g j=>rfl
def wtL(q:Option (Nat×Bool))(n:Nat)(L:List (Nat×AV)):Bool:=
 match q with
 |none=>true
 |some (d,w)=>cond (Nat.blt d n) (match qY L d with|some (.b x)=>x==w|_=>false) false
def offL(q:Option (Nat×Bool))(n:Nat)(L:List (Nat×AV)):Bool:=
 match q with
 |none=>false
 |some (d,w)=>cond (Nat.blt d n) (match qY L d with|some (.b x)=>!(x==w)|some _=>true|none=>false) false
theorem oJ{q:Option (Nat×Bool)}{n:Nat}{L:List (Nat×AV)}{g:Nat->AV}(h:wtL q n L=true):fQ q n (bs L g)=true:=by
 cases q with
 |none=>rfl
 |some p=>
  obtain⟨d,w⟩:=p;have h:cond (Nat.blt d n) (match qY L d with|some (.b x)=>x==w|_=>false) false=true:=h;show cond (Nat.blt d n) (match bs L g d with| .b x=>x==w|_=>false) false=true;cases hb:Nat.blt d n with
  |false=>rw[hb] at h;cases h
  |true=>
   rw[hb,cond_true] at h;rw[cond_true,D9];split at h
   ·rename_i hl;rw[hl];exact h
   ·cases h
theorem R6{q:Option (Nat×Bool)}{n:Nat}{L:List (Nat×AV)}{g:Nat->AV}(h:offL q n L=true):fQ q n (bs L g)=false:=by
 cases q with
 |none=>cases h
 |some p=>
  obtain⟨d,w⟩:=p;have h:cond (Nat.blt d n) (match qY L d with|some (.b x)=>!(x==w)|some _=>true|none=>false) false=true:=h;show cond (Nat.blt d n) (match bs L g d with| .b x=>x==w|_=>false) false=false;cases hb:Nat.blt d n with
  |false=>rw[hb] at h;cases h
  |true=>
   rw[hb,cond_true] at h;rw[cond_true,D9];split at h
   ·rename_i hl;rw[hl];simpa using h
   ·rename_i x hx hl;rw[hl];clear hl;cases x with
    |b y=>exact absurd I (hx y)
    |_=>rfl
   ·cases h
namespace W
section
variable {env:Env}{aJ:Option Nat}{D:List (Nat ⊕ (AV×List AV))}{n:Nat}{F:List (Nat×AV)}{z:Nat->AV}{J:ad}{Q:dS}
theorem sq{a b:bF}(h:bO env aJ D n a (bs F z) J (λx f J=>match x with| .normal=>bO env aJ D n b f J Q|x=>Q x f J)):bO env aJ D n (.seq a b) (bs F z) J Q:=aj.seq h
theorem Ar(h:Q .normal (bs F z) J):bO env aJ D n .skip (bs F z) J Q:=aj.skip h
theorem k8{o:aF}{a b:bF}(ho:c8 env n F z o=some (.b true))(h:bO env aJ D n a (bs F z) J Q):bO env aJ D n (.cond o a b) (bs F z) J Q:=aj.hJ (t:=true) (by rw[mZ];exact ho) (λ_=>h) λh=>by cases h
theorem m0{o:aF}{a b:bF}(ho:c8 env n F z o=some (.b false))(h:bO env aJ D n b (bs F z) J Q):bO env aJ D n (.cond o a b) (bs F z) J Q:=aj.hJ (t:=false) (by rw[mZ];exact ho) (λh=>by cases h) λ_=>h
end
section
variable {cg:kJ}{env:Env}{aJ:Option Nat}{D:List (Nat ⊕ (AV×List AV))}{n:Nat}{F:List (Nat×AV)}{z:Nat->AV}{J:ad}{Q:dS}
theorem rg{ops:List aY}(h:b9 .pl env aJ D n ops (bs F z) J Q):bO env aJ D n (.region ops) (bs F z) J Q:=aj.region h
theorem a7O{ops:List aY}(ao:swapT ops=true)(h:b9 (.dc ops.length []) env aJ D n ops (bs F z) J Q):bO env aJ D n (.draw ops) (bs F z) J Q:=aj.JI ao h
theorem nil(h:Q .normal (bs F z) J):b9 .pl env aJ D n [] (bs F z) J Q:=aE.nil h
theorem vC{N:Nat}(h:Q .normal (bs F z) J):b9 (.dc N []) env aJ D n [] (bs F z) J Q:=dY.nil I trivial h
theorem now{N:Nat}{cz:kn}{ops:List aY}(l cf:kn)(h1:JJ N ops.length cz=l)(h2:R5 N ops.length cz=cf)(hh:xL J l)(h:b9 (.dc N cf) env aJ D n ops (bs F z) J Q):b9 (.dc N cz) env aJ D n ops (bs F z) J Q:=dY.now l cf h1 h2 hh h
theorem val{d:Nat}{op:AOp}{g:Option (Nat×Bool)}{ops:List aY}{v:AV}{af:ad}(hd:Nat.blt d n=true)(hw:wtL g n F=true)(ho:opx 0 (c8 env n F z) J op=some (.val v af))(h:b9 cg env aJ D n ops (bs ((d,v)::F) z) af Q):b9 cg env aJ D n (⟨some d,op,g,[]⟩::ops) (bs F z) J Q:=by
 cases cg with
 |pl=>exact aE.val hd (oJ hw) (by rw[mZ];exact ho) h
 |dc N cz=>exact dY.val (λx e=>by cases e;exact hd) (oJ hw) (by rw[mZ];exact ho) h
theorem tl{op:AOp}{g:Option (Nat×Bool)}{ops:List aY}{v:AV}{af:ad}(hw:wtL g n F=true)(ho:opx 0 (c8 env n F z) J op=some (.val v af))(h:b9 cg env aJ D n ops (bs F z) af Q):b9 cg env aJ D n (⟨none,op,g,[]⟩::ops) (bs F z) J Q:=by
 cases cg with
 |pl=>exact aE.tl (oJ hw) (by rw[mZ];exact ho) h
 |dc N cz=>exact dY.val (λx e=>by cases e) (oJ hw) (by rw[mZ];exact ho) h
theorem off{d:Nat}{op:AOp}{g:Option (Nat×Bool)}{wn:List Nat}{ops:List aY}(hd:Nat.blt d n=true)(hw:offL g n F=true)(h:b9 cg env aJ D n ops (bs ((d,dB)::F) z) J Q):b9 cg env aJ D n (⟨some d,op,g,wn⟩::ops) (bs F z) J Q:=by
 cases cg with
 |pl=>exact aE.off hd (R6 hw) h
 |dc N cz=>exact dY.off hd (R6 hw) h
def a7P:AOp->Bool
 | .bx _=>true| .pick _ _ _=>true| .build _ _=>true| .nilCheck _=>true| .wJ _ _ _=>true| .iQ _ _ _ _=>true| .not _=>true| .e_ _ _ _=>true| .Cu _ _=>true
 | .ks _ _ _ _ _=>true| .sV _ _ _ _ _=>true| .hz _ _ _=>true| .fieldAddr _ _ _=>true| .field _ _ _=>true| .pa _ _ _ _=>true| .bl _ _ _=>true| .extract _ _=>true| .Cw _=>true
 |_=>false
theorem go{d:Nat}{op:AOp}{g:Option (Nat×Bool)}{ops:List aY}{v:AV}{af:ad}(_hb:a7P op=true)(hd:Nat.blt d n=true)(hw:wtL g n F=true)(ho:opx 0 (c8 env n F z) J op=some (.val v af))(h:b9 cg env aJ D n ops (bs ((d,v)::F) z) af Q):b9 cg env aJ D n (⟨some d,op,g,[]⟩::ops) (bs F z) J Q:=val hd hw ho h
theorem bin{d:Nat}{op:BinOp}{x y:aF}{g:Option (Nat×Bool)}{ops:List aY}{a b v:AV}(hd:Nat.blt d n=true)(hw:wtL g n F=true)(h1:c8 env n F z x=some a)(h2:c8 env n F z y=some b)(h3:binop op a b=some v)(h:b9 cg env aJ D n ops (bs ((d,v)::F) z) J Q):b9 cg env aJ D n (⟨some d,.bin op x y,g,[]⟩::ops) (bs F z) J Q:=val hd hw (Ai a b v h1 h2 h3) h
def cmpP(op:BinOp)(a b:Nat):Prop:=
 match op with
 | .eql=>a=b
 | .neq=>¬a=b
 | .lss=>a<b
 | .leq=>a<=b
 | .gtr=>b<a
 | .geq=>b<=a
 |_=>False
def R7:BinOp->Bool
 | .eql=>true
 | .neq=>true
 | .lss=>true
 | .leq=>true
 | .gtr=>true
 | .geq=>true
 |_=>false
theorem a7Q{op:BinOp}{a b:Nat}(h:cmpP op a b):cmpO op a b=some (.b true):=by
 cases op<;>first
  |(have h:_:=h;simp only[cmpP] at h;simp only[cmpO,decide_eq_true h];done)
  |(have h:_:=h;simp only[cmpP] at h;simp only[cmpO,decide_eq_false h,Bool.not_false];done)
  |exact h.elim
theorem a7R{op:BinOp}{a b:Nat}(aa:R7 op=true)(h:¬cmpP op a b):cmpO op a b=some (.b false):=by
 cases op<;>first
  |(simp only[cmpP] at h;simp only[cmpO,decide_eq_false h];done)
  |(simp only[cmpP,Decidable.not_not] at h;simp only[cmpO,decide_eq_true h,Bool.not_true];done)
  |cases aa
theorem As{d:Nat}{op:BinOp}{x y:aF}{g:Option (Nat×Bool)}{ops:List aY}{k:IntKind}{a b:Nat}(hd:Nat.blt d n=true)(hw:wtL g n F=true)(h1:c8 env n F z x=some (.i k (Int.ofNat a)))(h2:c8 env n F z y=some (.i k (Int.ofNat b)))(h3:cmpP op a b)(h:b9 cg env aJ D n ops (bs ((d,.b true)::F) z) J Q):b9 cg env aJ D n (⟨some d,.bin op x y,g,[]⟩::ops) (bs F z) J Q:=bin hd hw h1 h2 (mX (a7Q h3)) h
theorem fm{d:Nat}{op:BinOp}{x y:aF}{g:Option (Nat×Bool)}{ops:List aY}{k:IntKind}{a b:Nat}(hd:Nat.blt d n=true)(hw:wtL g n F=true)(aa:R7 op=true)(h1:c8 env n F z x=some (.i k (Int.ofNat a)))(h2:c8 env n F z y=some (.i k (Int.ofNat b)))(h3:¬cmpP op a b)(h:b9 cg env aJ D n ops (bs ((d,.b false)::F) z) J Q):b9 cg env aJ D n (⟨some d,.bin op x y,g,[]⟩::ops) (bs F z) J Q:=bin hd hw h1 h2 (mX (a7R aa h3)) h
theorem R8{d:Nat}{op:BinOp}{x y:aF}{g:Option (Nat×Bool)}{ops:List aY}{k:IntKind}{a b:Nat}{v:AV}(hd:Nat.blt d n=true)(hw:wtL g n F=true)(h1:c8 env n F z x=some (.i k (Int.ofNat a)))(h2:c8 env n F z y=some (.i k (Int.ofNat b)))(h3:cmpO op a b=some v)(h:b9 cg env aJ D n ops (bs ((d,v)::F) z) J Q):b9 cg env aJ D n (⟨some d,.bin op x y,g,[]⟩::ops) (bs F z) J Q:=bin hd hw h1 h2 (mX h3) h
theorem len{d k m:Nat}{x:aF}{g:Option (Nat×Bool)}{ops:List aY}{v:AV}(hd:Nat.blt d n=true)(hw:wtL g n F=true)(h1:c8 env n F z x=some v)(h2:lenA J k v=some m)(h:b9 cg env aJ D n ops (bs ((d,ah m)::F) z) J Q):b9 cg env aJ D n (⟨some d,.len k x,g,[]⟩::ops) (bs F z) J Q:=val hd hw (ts h1 h2) h
theorem eV{d:Nat}{U:Option Nat}{x i:aF}{g:Option (Nat×Bool)}{ops:List aY}{k:IntKind}{a v:AV}{j:Nat}(hd:Nat.blt d n=true)(hw:wtL g n F=true)(h1:c8 env n F z x=some a)(h2:c8 env n F z i=some (.i k (Int.ofNat j)))(h3:idxSlA U a j=some v)(h:b9 cg env aJ D n ops (bs ((d,v)::F) z) J Q):b9 cg env aJ D n (⟨some d,.bl U x i,g,[]⟩::ops) (bs F z) J Q:=val hd hw (DL k a j v h1 h2 h3) h
theorem DO{d:Nat}{U:Option Nat}{x:aF}{g:Option (Nat×Bool)}{ops:List aY}{o:Bool}{v:AV}(hd:Nat.blt d n=true)(hw:wtL g n F=true)(h1:c8 env n F z x=some (.df o v))(h2:conf U v=true)(h:b9 cg env aJ D n ops (bs ((d,v)::F) z) J Q):b9 cg env aJ D n (⟨some d,.load U x,g,[]⟩::ops) (bs F z) J Q:=val hd hw (mi _ _ h1 (by show(if conf U v then some v else none)=_;rw[if_pos h2])) h
theorem aw{L:List (Nat×List AV)}(H:Has J L){d:Nat}{U:Option Nat}{x:aF}{g:Option (Nat×Bool)}{ops:List aY}{id off:Nat}{c:List AV}{v:AV}(hd:Nat.blt d n=true)(hw:wtL g n F=true)(h1:c8 env n F z x=some (.p (some (id,off))))(hm:(id,c)∈L)(h2:dI U (c.drop off)=some v)(h:b9 cg env aJ D n ops (bs ((d,v)::F) z) J Q):b9 cg env aJ D n (⟨some d,.load U x,g,[]⟩::ops) (bs F z) J Q:=val hd hw (mi _ _ h1 (sc (H.get _ hm) h2)) h
theorem fJ{N:Nat}{cz:kn}{L:List (Nat×List AV)}(H:Has J L){d:Nat}{U:Option Nat}{x:aF}{g:Option (Nat×Bool)}{wn:List Nat}{ops:List aY}{id off:Nat}{c:List AV}{v:AV}(hd:Nat.blt d n=true)(hw:wtL g n F=true)(h1:c8 env n F z x=some (.p (some (id,off))))(hm:(id,c)∈L)(h2:dI U (c.drop off)=some v)(au:AV.eqb env.bn v v=true)
  (h:b9 (.dc N (wn.map (λq=>(q,id,c))++cz)) env aJ D n ops (bs ((d,v)::F) z) J Q):b9 (.dc N cz) env aJ D n (⟨some d,.load U x,g,wn⟩::ops) (bs F z) J Q:=dY.fJ (H.get _ hm) hd (oJ hw) (λs ao=>by rw[mZ];exact mi _ _ h1 (sc ao h2)) au h
theorem pN{N:Nat}{cz:kn}{d:Nat}{op:AOp}{g:Option (Nat×Bool)}{wn:List Nat}{ops:List aY}{v:AV}(j6:cr (λq=>Nat.ble N (q+ops.length)&&Nat.ble q N) wn=true)(hd:Nat.blt d n=true)(hw:wtL g n F=true)(ho:∀s:ad,opx 0 (c8 env n F z) s op=some (.val v s))(au:AV.eqb env.bn v v=true)(h:b9 (.dc N cz) env aJ D n ops (bs ((d,v)::F) z) J Q):b9 (.dc N cz) env aJ D n (⟨some d,op,g,wn⟩::ops) (bs F z) J Q:=dY.pN j6 hd (oJ hw) (λs=>by rw[mZ];exact ho s) au h
theorem cC{L:List (Nat×List AV)}(H:Has J L){d:Nat}{v:AV}{g:Option (Nat×Bool)}{ops:List aY}{c:List AV}{k:Nat}(hn:J.next=k)(hd:Nat.blt d n=true)(hw:wtL g n F=true)(aa:v.cells=c)(h:∀τ:ad,τ.next=k+1->Has τ ((k,c)::L)->(∀i o,J.get i=some o->τ.get i=some o)->b9 cg env aJ D n ops (bs ((d,.p (some (k,0)))::F) z) τ Q):b9 cg env aJ D n (⟨some d,.alloc v,g,[]⟩::ops) (bs F z) J Q:=by
 subst hn;have c7:∀i o,J.get i=some o->(J.push (.cells c)).get i=some o:=λi o ho=>by rw[ad.fD trivial _ (ad.bt ho)];exact ho
 refine val (v:=iz J.next 0) (af:=J.push (.cells c)) hd hw (by rw[<-aa];rfl) (h (J.push (.cells c)) I (H.push I (ad.iB _) c7) c7)
theorem cy{L:List (Nat×List AV)}(H:Has J L){d:Nat}{x:aF}{v:AV}{g:Option (Nat×Bool)}{ops:List aY}{c:List AV}{k:Nat}(hn:J.next=k)(hd:Nat.blt d n=true)(hw:wtL g n F=true)(au:c8 env n F z x=some v)(hval:v.val=true)(aa:v.cells=c)(h:∀τ:ad,τ.next=k+1->Has τ ((k,c)::L)->(∀i o,J.get i=some o->τ.get i=some o)->b9 cg env aJ D n ops (bs ((d,.p (some (k,0)))::F) z) τ Q):b9 cg env aJ D n (⟨some d,.box x,g,[]⟩::ops) (bs F z) J Q:=by
 subst hn;have c7:∀i o,J.get i=some o->(J.push (.cells c)).get i=some o:=λi o ho=>by rw[ad.fD trivial _ (ad.bt ho)];exact ho
 refine val (v:=iz J.next 0) (af:=J.push (.cells c)) hd hw ?_ (h (J.push (.cells c)) I (H.push I (ad.iB _) c7) c7);show(match c8 env n F z x with|some v=>cond v.val (some (bL.val (iz J.next 0) (J.push (.cells v.cells)))) none|none=>none)=_;rw[au];show cond v.val _ _=_;rw[hval,cond_true,aa]
theorem st{L:List (Nat×List AV)}(H:Has J L)(j:Nat){U:Option Nat}{a x:aF}{g:Option (Nat×Bool)}{ops:List aY}{id off:Nat}{v:AV}{c bM:List AV}(hw:wtL g n F=true)(h1:c8 env n F z a=some (.p (some (id,off))))(aA:L[j]? =some (id,c))(h2:c8 env n F z x=some v)(g4:conf U v=true)(aa:storeCells c off v.cells=some bM)
  (h:∀τ:ad,τ.next=J.next->Has τ (L.set j (id,bM))->(∀i o,i≠id->J.get i=some o->τ.get i=some o)->b9 cg env aJ D n ops (bs F z) τ Q):b9 cg env aJ D n (⟨none,.store U a x,g,[]⟩::ops) (bs F z) J Q:=by
 have ao:=H.get _ (List.mem_of_getElem? aA);exact tl hw (RU ao h1 h2 g4 aa) (h _ I (H.set j aA (iw ao).1 (iw ao).2) (iw ao).2)
theorem ko{L:List (Nat×List AV)}(H:Has J L){d:Nat}{v0 v:AV}{U:Option Nat}{x:aF}{ops:List aY}{c:List AV}{k:Nat}(hn:J.next=k)(hd:Nat.blt d n=true)(hx:c8 env n ((d,.p (some (k,0)))::F) z x=some v)(g4:conf U v=true)(aa:v.cells=c)(hl:c.length=v0.cells.length)(h1:Nat.beq d d=true)
  (h:∀τ:ad,τ.next=k+1->Has τ ((k,c)::L)->(∀i o,J.get i=some o->τ.get i=some o)->b9 cg env aJ D n ops (bs ((d,.p (some (k,0)))::F) z) τ Q):b9 cg env aJ D n (⟨some d,.alloc v0,none,[]⟩::⟨none,.store U (.t d) x,none,[]⟩::ops) (bs F z) J Q:=by
 refine cC H hn hd I I λτ a3 bm cv=>?_;have aN:c8 env n ((d,.p (some (k,0)))::F) z (.t d)=some (.p (some (k,0))):=by
  show cond (Nat.blt d n) (match cond (Nat.beq d d) (some _) _ with|some v=>some v|none=>some (z d)) none=_;rw[hd,h1];rfl
 refine st bm 0 I aN I hx g4 (by rw[aa];exact storeAll hl) λbh ec dp dO=>h bh (ec.trans a3) dp λi o ho=>dO i o ?_ (cv i o ho);have:=ad.bt ho;omega
theorem fu{b:b8}{K:Nat->List AV->AV->Prop}{d:Nat}{op:AOp}{g:Option (Nat×Bool)}{ops:List aY}{fn:Nat}{args aW:List AV}{r:AV}(hf:∀g aW r cw,K g aW r->K g aW cw->r=cw)(e:b.ext fn=0/\b.pure fn=true)(cM:K fn aW r)
  (hd:Nat.blt d n=true) (hw:wtL g n F=true) (ho:opx 0 (c8 (b.aM K) n F z) J op=some (.call (.f (.func fn) [] []) args)) (ha:mapO (bG J (b.bn+1000)) args=some aW) (h:b9 cg (b.aM K) aJ D n ops (bs ((d,r)::F) z) J Q):b9 cg (b.aM K) aJ D n (⟨some d,op,g,[]⟩::ops) (bs F z) J Q:=by
 cases cg with
 |pl=>exact aE.known hf e.1 e.2 cM hd (oJ hw) (by rw[mZ];exact ho) ha h
 |dc N cz=>
  refine dY.call (R:=λx τ=>x= .ok r/\τ=J) (λx e=>by cases e;exact hd) (oJ hw) (by rw[mZ];exact ho) ?_ (bu.spec e.1 e.2 (by rw[List.nil_append,List.append_nil];exact ha) (Jv hf cM) ⟨rfl,rfl⟩) λcw τ ⟨aN,a4⟩=>⟨_,aN,by subst a4;exact h⟩
  intro F first cap args J
  show hM (callF (b.aM K) (exec (b.aM K) F) 0 fn (first++args++cap) J);unfold callF;rw[show(b.aM K).ext fn=0 from e.1];show hM (cond ((b.aM K).pure fn) _ _);rw[show(b.aM K).pure fn=true from e.2,cond_true]
  repeat' split
  all_goals first|trivial|exact⟨_,rfl⟩
def a7S(cg:kJ)(env:Env)(g:Nat):Prop:=match cg with| .pl=>True| .dc _ _=>vA env g
theorem an{d:Nat}{op:AOp}{g:Option (Nat×Bool)}{ops:List aY}{aR:Nat}{first cap args:List AV}{R:dR->ad->Prop}(h1:a7S cg env aR)(hd:Nat.blt d n=true)(hw:wtL g n F=true)(ho:opx 0 (c8 env n F z) J op=some (.call (.f (.func aR) first cap) args))
  (aa:bu env 0 (.f (.func aR) first cap) args J R) (h:∀r τ,R r τ->∃v,r= .ok v/\b9 cg env aJ D n ops (bs ((d,v)::F) z) τ Q):b9 cg env aJ D n (⟨some d,op,g,[]⟩::ops) (bs F z) J Q:=by
 cases cg with
 |pl=>exact aE.hK hd (oJ hw) (by rw[mZ];exact ho) aa h
 |dc N cz=>exact dY.call (λx e=>by cases e;exact hd) (oJ hw) (by rw[mZ];exact ho) h1 aa h
end
section
variable {cg:kJ}{env:Env}{aJ:Option Nat}{D:List (Nat ⊕ (AV×List AV))}{n:Nat}{f:Nat->AV}{J:ad}{Q:dS}{d:Option Nat}{g:Option (Nat×Bool)}{wn:List Nat}{ops:List aY}
theorem D_{U:Option Nat}{x:aF}(h:b9 cg env aJ D n (⟨d,.load U x,g,[]⟩::ops) f J Q):b9 cg env aJ D n (⟨d,.load U x,g,[]⟩::ops) f J Q:=h
theorem JK{U:Option Nat}{x:aF}{a:Nat}{l:List Nat}(h:b9 cg env aJ D n (⟨d,.load U x,g,a::l⟩::ops) f J Q):b9 cg env aJ D n (⟨d,.load U x,g,a::l⟩::ops) f J Q:=h
theorem Ea{op:BinOp}{x y:aF}(h:b9 cg env aJ D n (⟨d,.bin op x y,g,wn⟩::ops) f J Q):b9 cg env aJ D n (⟨d,.bin op x y,g,wn⟩::ops) f J Q:=h
theorem Eb{U:Option Nat}{x y:aF}(h:b9 cg env aJ D n (⟨d,.bl U x y,g,wn⟩::ops) f J Q):b9 cg env aJ D n (⟨d,.bl U x y,g,wn⟩::ops) f J Q:=h
theorem Ec{k:Nat}{x:aF}(h:b9 cg env aJ D n (⟨d,.len k x,g,wn⟩::ops) f J Q):b9 cg env aJ D n (⟨d,.len k x,g,wn⟩::ops) f J Q:=h
end
theorem lt{cg:kJ}{env:Env}{aJ:Option Nat}{D:List (Nat ⊕ (AV×List AV))}{n:Nat}{F:List (Nat×AV)}{z:Nat->AV}{J:ad}{Q:dS}{d:Nat}{U:Option Nat}{x:aF}{g:Option (Nat×Bool)}{ops:List aY}{o:Bool}{v:AV}(hd:Nat.blt d n=true)(hw:wtL g n F=true)(h1:c8 env n F z x=some (.df o v))(h2:conf U v=true)(h:b9 cg env aJ D n ops (bs ((d,v)::F) z) J Q):b9 cg env aJ D n (⟨some d,.load U x,g,[]⟩::ops) (bs F z) J Q:=DO hd hw h1 h2 h
def pO:Nat->List AV->List (Nat×AV)
 |_,[]=>[]
 |i,a::l=>(i,a)::pO (i+1) l
theorem Ed{f:Nat->AV}:∀(l:List AV) (i:Nat),(∀j a,l[j]? =some a->f (i+j)=a)->sat (pO i l) f
 |[],_,_=>trivial
 |a::l,i,h=>⟨h 0 a I,Ed l (i+1) λj cn e=>by have:=h (j+1) cn e;rwa[show i+(j+1)=i+1+j from by omega] at this⟩
theorem args{env:Env}{aJ:Option Nat}{D:List (Nat ⊕ (AV×List AV))}{n:Nat}{c:bF}{as:List AV}{J:ad}{Q:dS}(h:∀z,bO env aJ D n c (bs (pO 0 as) z) J Q):bO env aJ D n c (fR as) J Q:=
 aj.norm (pO 0 as) (Ed as 0 λj a e=>by show as.getD (0+j) dB=a;rw[Nat.zero_add,List.getD_eq_getElem?_getD,e];rfl) h
theorem code{env:Env}{J:ad}{fn:Nat}{b1:aI}{body:bF}{dc:Nat}{first cap args:List AV}{R:dR->ad->Prop}(e:env.ext fn=0)(ar:env.pure fn=false)(hf:env.funcs fn=some b1)(hb:b1.body=some body)
  (hn:(Nat.beq (first++args++cap).length b1.jg&&Nat.ble (first++args++cap).length b1.ntmps)=true) (c0:b1.results=[(dc,none)]) (k7:Nat.blt dc b1.ntmps=true)
  (h:∀z,bO env none [] b1.ntmps body (bs (pO 0 (first++args++cap)) z) J (λx bW af=>x= .ret/\R (.ok (bW dc)) af)):bu env 0 (.f (.func fn) first cap) args J R:=bu.code e ar hf hb hn c0 k7 (W.args h)
theorem nL{env:Env}{J:ad}{fn:Nat}{b1:aI}{body:bF}{first cap args:List AV}{R:dR->ad->Prop}(e:env.ext fn=0)(ar:env.pure fn=false)(hf:env.funcs fn=some b1)(hb:b1.body=some body)
  (hn:(Nat.beq (first++args++cap).length b1.jg&&Nat.ble (first++args++cap).length b1.ntmps)=true) (c0:b1.results=[])
  (h:∀z,bO env none [] b1.ntmps body (bs (pO 0 (first++args++cap)) z) J (λx _ af=>(x= .ret\/x= .normal)/\R (.ok (.a6 [])) af)):bu env 0 (.f (.func fn) first cap) args J R:=bu.nL e ar hf hb hn c0 (W.args h)
end W
def AV.lf:AV->Bool
 | .b _=>true| .i _ _=>true| .s _=>true| .p _=>true| .al _ _ _ _ _=>true| .ae=>true| .m _=>true| .dA=>true| .eO=>true| .y _=>true| .fs _ _=>true
 |_=>false
theorem cX{n:Nat}{v:AV}(h:v.lf=true):AV.eqb (n+1) v v=true:=by
 cases v with
 |b x=>show(x==x)=true;simp
 |i k x=>show(decide (k=k)&&decide (x=x))=true;simp
 |s l=>exact DN l
 |p a=>cases a with
  |none=>rfl
  |some a=>show(Nat.beq a.1 a.1&&Nat.beq a.2 a.2)=true;simp
 |al a b c d e=>show(Nat.beq a a&&Nat.beq b b&&Nat.beq c c&&decide (d=d)&&decide (e=e))=true;simp
 |ae=>rfl
 |m r=>cases r with
  |none=>rfl
  |some r=>show Nat.beq r r=true;simp
 |dA=>rfl
 |eO=>rfl
 |y i=>show Nat.beq i i=true;simp
 |fs o i=>show((o==o)&&Nat.beq i i)=true;simp
 |_=>cases h
theorem hN{n:Nat}{l:List AV}(h:cr AV.lf l=true):AV.eqb (n+2) (.ag l) (.ag l)=true:=oD λx hx=>cX (kI h x hx)
theorem iV.iy{env:Env}{floor:Nat}{du:Bool}{o:aY}{ops:List aY}{ab:Fr}{J:ad}{Q:pJ}{l:List (AV×ad)}(hw:wantedA o.guard ab.a_=true)(ho:opx floor (evalA env ab.a_) J o.op=some (.iy l))(hl:l≠[])
  (h:∀p∈l,iV env floor du ops (ab.put o.dst p.1) p.2 Q):iV env floor du (o::ops) ab J Q:=by
 have:=c4.flat (g:=λ(p:AV×ad) F=>runOps env floor (callV env (exec env F) floor) du ops (ab.put o.dst p.1) p.2) (Q:=λ(o:fa×Fr×ad)=>Q o.1 o.2.1 o.2.2) l hl h;refine c4.congr this λF=>?_;rw[va,hw,cond_true,ho]
section
variable {env:Env}{aJ:Option Nat}{D:List (Nat ⊕ (AV×List AV))}{n:Nat}{f:Nat->AV}{J:ad}{Q:dS}
theorem aE.iy{d:Nat}{op:AOp}{g:Option (Nat×Bool)}{wn:List Nat}{ops:List aY}{l:List (AV×ad)}(hd:Nat.blt d n=true)(hw:fQ g n f=true)(ho:opx 0 (da env n f) J op=some (.iy l))(hl:l≠[])
  (h:∀p∈l,dj env aJ D n ops (cR f d p.1) p.2 Q):dj env aJ D n (⟨some d,op,g,wn⟩::ops) f J Q:=λab bq=>
 iV.iy (by rw[bq.wanted];exact hw) (by rw[bq.aq];exact ho) hl λp ar=>h p ar _ (bq.put p.1 hd)
end
end Go.Lyc
end
