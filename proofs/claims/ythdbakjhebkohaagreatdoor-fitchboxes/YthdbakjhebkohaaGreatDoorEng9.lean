/-
  An abstract executor of the program's code, and that it is sound, part 3. No conditions: definitions and laws.
-/
import Derived.Test.YthdbakjhebkohaaGreatDoorEng2
import Derived.Carry
import Derived.OpenShut
import Derived.ChangeSlices
set_option linter.all false
noncomputable section
namespace Go.Lyc
def Nc:=@Nat.sub_zero
def Ar:=@Classical.choose_spec
def Hj:=@Nat.le_add_left
def Wc:=@List.replicate_succ'
def iG:=@List.append_nil
def As:=@Bool.and_true
def pG:=@Bool.true_and
def Wd:=@Int.ofNat_eq_natCast
def Hk:=@Nat.mul_one
def We:=@List.reverse_append
def Wf:=@Bool.eq_false_iff
def Hl:=@List.pairwise_iff_getElem
set_option maxHeartbeats 0
variable [Tok][TokOk]
open Go.RowKit
def dd(f:Nat->AV)(d:Nat)(v:AV):Nat->AV:=λi=>cond (Nat.beq i d) v (f i)
structure iw(D:List (Nat ⊕ (AV×List AV)))(n:Nat)(f:Nat->AV)(ad:Fr):Prop where
 get:∀i,ad.bf.get i=if i<n then some (f i) else none
 ds:ad.defers=D
 rc:ad.fS=false
theorem iw.put{D:List (Nat ⊕ (AV×List AV))}{n d:Nat}{f:Nat->AV}{ad:Fr}(h:iw D n f ad)(v:AV)(hd:Nat.blt d n=true):iw D n (dd f d v) (ad.put (some d) v):=by
 have hd:d<n:=gB hd;refine⟨λi=>?_,h.ds,h.rc⟩;show(ad.bf.set d v).get i=_;rw[a1.jh,h.get d,h.get i,if_pos hd];by_cases hi:i=d
 ·subst hi;rw[if_pos I,if_pos hd];show some v=some (cond (Nat.beq i i) v (f i));rw[gH];rfl
 ·rw[if_neg hi];have:dd f d v i=f i:=by
   show cond (Nat.beq i d) v (f i)=f i;cases hb:Nat.beq i d with
   |false=>rfl
   |true=>exact absurd (fX hb) hi
  rw[this]
def dv(env:Env)(n:Nat)(f:Nat->AV):aI->Option AV
 | .t i=>cond (Nat.blt i n) (some (f i)) none
 | .c v=>some v
 | .g g=>match env.mr g with|some v=>some (.dG true v)|none=>none
theorem iw.ar{D:List (Nat ⊕ (AV×List AV))}{n:Nat}{f:Nat->AV}{ad:Fr}(h:iw D n f ad)(env:Env):evalA env ad.bf=dv env n f:=by
 funext x
 cases x with
 |t i=>
  show ad.bf.get i=cond (Nat.blt i n) (some (f i)) none;rw[h.get];by_cases hi:i<n
  ·rw[if_pos hi,show Nat.blt i n=true from j7 hi];rfl
  ·rw[if_neg hi,show Nat.blt i n=false from by cases hb:Nat.blt i n with|false=>rfl|true=>exact absurd (gB hb) hi];rfl
 |c v=>rfl
 |g g=>rfl
def gN(g:Option (Nat×Bool))(n:Nat)(f:Nat->AV):Bool:=
 match g with
 |none=>true
 |some (d,w)=>cond (Nat.blt d n) (match f d with| .b x=>x==w|_=>false) false
theorem iw.wanted{D:List (Nat ⊕ (AV×List AV))}{n:Nat}{f:Nat->AV}{ad:Fr}(h:iw D n f ad)(g:Option (Nat×Bool)):wantedA g ad.bf=gN g n f:=by
 cases g with
 |none=>rfl
 |some p=>
  obtain⟨d,w⟩:=p;show(match ad.bf.get d with|some (.b x)=>x==w|_=>false)=cond (Nat.blt d n) _ false;rw[h.get];by_cases hi:d<n
  ·rw[if_pos hi,show Nat.blt d n=true from j7 hi,cond_true];cases f d<;>rfl
  ·rw[if_neg hi,show Nat.blt d n=false from by cases hb:Nat.blt d n with|false=>rfl|true=>exact absurd (gB hb) hi];rfl
abbrev ec:=fN->(Nat->AV)->ae->Prop
def At(D:List (Nat ⊕ (AV×List AV)))(n:Nat)(Q:ec):rU:=λx ad J=>∃f,iw D n f ad/\Q x f J
def bR(env:Env)(aN:Option Nat)(D:List (Nat ⊕ (AV×List AV)))(n:Nat)(c:bO)(f:Nat->AV)(J:ae)(Q:ec):Prop:=∀ad,iw D n f ad->gj env 0 aN c ad J (At D n Q)
def dC(env:Env)(aN:Option Nat)(D:List (Nat ⊕ (AV×List AV)))(n:Nat)(ops:List a3)(f:Nat->AV)(J:ae)(Q:ec):Prop:=∀ad,iw D n f ad->kh env 0 aN.isNone ops ad J (At D n Q)
abbrev ak(env:Env):=bR env none []
section
variable {env:Env}{aN:Option Nat}{D:List (Nat ⊕ (AV×List AV))}{n:Nat}{f:Nat->AV}{J:ae}{Q:ec}
theorem bR.mono{c:bO}{n3:ec}(h:bR env aN D n c f J Q)(aX:∀x f J,Q x f J->n3 x f J):bR env aN D n c f J n3:=λad bC=>(h ad bC).mono λ_ _ _ ⟨f,h1,h2⟩=>⟨f,h1,aX _ _ _ h2⟩
theorem ak.skip(h:Q .normal f J):bR env aN D n .skip f J Q:=λ_ bC=>gj.skip ⟨f,bC,h⟩
theorem ak.ret(h:Q .ret f J):bR env aN D n .ret f J Q:=λ_ bC=>gj.ret ⟨f,bC,h⟩
theorem ak.exit{id:Nat}(h:Q (.exit id) f J):bR env aN D n (.exit id) f J Q:=λ_ bC=>gj.exit ⟨f,bC,h⟩
theorem ak.region{ops:List a3}(h:dC env aN D n ops f J Q):bR env aN D n (.region ops) f J Q:=λad bC=>gj.region (h ad bC)
theorem ak.seq{a b:bO}(h:bR env aN D n a f J (λx f J=>match x with| .normal=>bR env aN D n b f J Q|x=>Q x f J)):bR env aN D n (.seq a b) f J Q:=λad bC=>gj.seq ((h ad bC).mono λx ad J ⟨f,h1,h2⟩=>by
 cases x with
 |normal=>exact h2 ad h1
 |exit i=>exact⟨f,h1,h2⟩
 |ret=>exact⟨f,h1,h2⟩
 |panic v=>exact⟨f,h1,h2⟩)
theorem ak.block{a:bO}{id:Nat}(h:bR env aN D n a f J (λx f J=>match x with| .exit j=>cond (Nat.beq j id) (Q .normal f J) (Q (.exit j) f J)|x=>Q x f J)):bR env aN D n (.block id a) f J Q:=λad bC=>gj.block ((h ad bC).mono λx ad J ⟨f,h1,h2⟩=>by
 cases x with
 |normal=>exact⟨f,h1,h2⟩
 |exit i=>
  have h2:cond (Nat.beq i id) (Q .normal f J) (Q (.exit i) f J):=h2;show if i=id then At D n Q .normal ad J else At D n Q (.exit i) ad J
  cases hb:Nat.beq i id with
  |false=>rw[if_neg (λh=>by rw[h,gH] at hb;cases hb)];rw[hb] at h2;exact⟨f,h1,h2⟩
  |true=>rw[if_pos (fX hb)];rw[hb] at h2;exact⟨f,h1,h2⟩
 |ret=>exact⟨f,h1,h2⟩
 |panic v=>exact⟨f,h1,h2⟩)
theorem ak.iW{o:aI}{a b:bO}{t:Bool}(ho:dv env n f o=some (.b t))(ht:t=true->bR env aN D n a f J Q)(hf:t=false->bR env aN D n b f J Q):bR env aN D n (.cond o a b) f J Q:=λad bC=>
 gj.iW (by rw[bC.ar];exact ho) (λh=>ht h ad bC) (λh=>hf h ad bC)
theorem ak.loop{a:bO}(eM:Nat->(Nat->AV)->ae->Prop)(a0:∀m f J,eM m f J->bR env aN D n a f J (λx b6 ag=>match x with| .normal=>∃aW,aW<m/\eM aW b6 ag|x=>Q x b6 ag))(m:Nat)(h:eM m f J):bR env aN D n (.loop a) f J Q:=λad bC=>
 gj.loop (Q:=At D n Q) (λm ad J=>∃f,iw D n f ad/\eM m f J) (λm ad J ⟨f,h1,h2⟩=>(a0 m f J h2 ad h1).mono λx bc ag ⟨b6,h3,aQ⟩=>by
  cases x with
  |normal=>obtain⟨aW,bF,cw⟩:=aQ;exact⟨aW,bF,b6,h3,cw⟩
  |exit i=>exact⟨b6,h3,aQ⟩
  |ret=>exact⟨b6,h3,aQ⟩
  |panic v=>exact⟨b6,h3,aQ⟩) m ad J ⟨f,bC,h⟩
theorem aJ.nil(h:Q .normal f J):dC env aN D n [] f J Q:=λ_ bC=>kh.nil ⟨f,bC,h⟩
theorem aJ.val{d:Nat}{op:AOp}{g:Option (Nat×Bool)}{wn:List Nat}{ops:List a3}{v:AV}{ag:ae}(hd:Nat.blt d n=true)(hw:gN g n f=true)(ho:opx 0 (dv env n f) J op=some (.val v ag))(h:dC env aN D n ops (dd f d v) ag Q):
  dC env aN D n (⟨some d,op,g,wn⟩::ops) f J Q:=λad bC=>kh.val (by rw[bC.wanted];exact hw) (by rw[bC.ar];exact ho) (h _ (bC.put v hd))
theorem aJ.wc{op:AOp}{g:Option (Nat×Bool)}{wn:List Nat}{ops:List a3}{v:AV}{ag:ae}(hw:gN g n f=true)(ho:opx 0 (dv env n f) J op=some (.val v ag))(h:dC env aN D n ops f ag Q):
  dC env aN D n (⟨none,op,g,wn⟩::ops) f J Q:=λad bC=>kh.val (by rw[bC.wanted];exact hw) (by rw[bC.ar];exact ho) (h _ bC)
theorem aJ.off{d:Nat}{op:AOp}{g:Option (Nat×Bool)}{wn:List Nat}{ops:List a3}(hd:Nat.blt d n=true)(hw:gN g n f=false)(h:dC env aN D n ops (dd f d ea) J Q):
  dC env aN D n (⟨some d,op,g,wn⟩::ops) f J Q:=λad bC=>kh.off (by rw[bC.wanted];exact hw) (h _ (bC.put _ hd))
theorem aJ.spec{d:Nat}{op:AOp}{g:Option (Nat×Bool)}{wn:List Nat}{ops:List a3}{fn:Nat}{args aY:List AV}{r:AV}(hd:Nat.blt d n=true)(hw:gN g n f=true)(ho:opx 0 (dv env n f) J op=some (.call (.f (.func fn) [] []) args))
  (he:env.ext fn=0) (au:env.pure fn=true) (ha:mapO (bT J env.bt) args=some aY) (an:env.spec fn aY=some r) (h:dC env aN D n ops (dd f d r) J Q):dC env aN D n (⟨some d,op,g,wn⟩::ops) f J Q:=λad bC=>
 kh.call (by rw[bC.wanted];exact hw) (by rw[bC.ar];exact ho) (bH.spec he au (by simpa using ha) an (h _ (bC.put r hd)))
end
def sat:List (Nat×AV)->(Nat->AV)->Prop
 |[],_=>True
 |(i,v)::L,f=>f i=v/\sat L f
def bx:List (Nat×AV)->(Nat->AV)->Nat->AV
 |[],f=>f
 |(i,v)::L,f=>dd (bx L f) i v
theorem b3a{f:Nat->AV}{i:Nat}{v:AV}(h:f i=v):dd f i v=f:=by
 funext j
 show cond (Nat.beq j i) v (f j)=f j;cases hb:Nat.beq j i with
 |false=>rfl
 |true=>rw[fX hb,h];rfl
theorem Dz:∀ {L:List (Nat×AV)} {f:Nat->AV},sat L f->bx L f=f
 |[],_,_=>rfl
 |(i,v)::L,f,⟨h1,h2⟩=>by
  show dd (bx L f) i v=f;rw[Dz h2,b3a h1]
theorem ak.norm{env:Env}{aN:Option Nat}{D:List (Nat ⊕ (AV×List AV))}{n:Nat}{c:bO}{f:Nat->AV}{J:ae}{Q:ec}(L:List (Nat×AV))(an:sat L f)(h:∀g,bR env aN D n c (bx L g) J Q):bR env aN D n c f J Q:=by
 rw[<-Dz an];exact h f
section
variable {floor:Nat}{ar:aI->Option AV}{J:ae}
theorem n4{aa:Option Nat}{a:aI}(p v:AV)(h1:ar a=some p)(h2:rp J aa p=some v):opx floor ar J (.load aa a)=some (.val v J):=by
 show(match ar a with|some p=>(match rp J aa p with|some v=>some (bV.val v J)|none=>none)|none=>none)=_;rw[h1];show(match rp J aa p with|some v=>some (bV.val v J)|none=>none)=_;rw[h2]
theorem uV{aa:Option Nat}{id off:Nat}{c:List AV}{v:AV}(h1:J.get id=some (.cells c))(h2:dU aa (c.drop off)=some v):rp J aa (.p (some (id,off)))=some v:=by
 show(match J.get id with|some (.cells c)=>dU aa (c.drop off)|_=>none)=_;rw[h1];exact h2
theorem Hm{aa:Option Nat}{x i:aI}(k:IntKind)(a:AV)(j:Nat)(v:AV)(h1:ar x=some a)(h2:ar i=some (.i k (Int.ofNat j)))(h3:idxSlA aa a j=some v):opx floor ar J (.bj aa x i)=some (.val v J):=by
 show(match ar x,ar i with|some x,some j=>(match natOf j with|some j=>(match idxSlA aa x j with|some v=>some (bV.val v J)|none=>none)|none=>none)|_,_=>none)=_;rw[h1,h2];show(match idxSlA aa a j with|some v=>some (bV.val v J)|none=>none)=_;rw[h3]
theorem Wg{o:Bool}{aa:Option Nat}{xs:List AV}{j:Nat}{v:AV}(h:nth xs j=some v):idxSlA aa (.a_ o aa xs) j=some (.dG o v):=by
 show(if aa=aa then(match nth xs j with|some v=>some (AV.dG o v)|none=>none) else none)=_;rw[if_pos I,h]
theorem DA{op:BinOp}{x y:aI}(a b v:AV)(h1:ar x=some a)(h2:ar y=some b)(h3:binop op a b=some v):opx floor ar J (.bin op x y)=some (.val v J):=by
 show(match ar x,ar y with|some a,some b=>(match binop op a b with|some v=>some (bV.val v J)|none=>none)|_,_=>none)=_;rw[h1,h2];show(match binop op a b with|some v=>some (bV.val v J)|none=>none)=_;rw[h3]
end
abbrev ai(n:Nat):AV:=.i .i64 (Int.ofNat n)
theorem b3b{n:Nat}(h:n<2^63):IntKind.wrap .i64 (n:Int)=(n:Int):=by
 have h:(n:Int)<9223372036854775808:=by omega
 simp only[IntKind.wrap,IntKind.bits,IntKind.signed];simp;omega
def ym(a b:Nat):Nat:=a ^^^ (a &&& b)
theorem b3c(a b:Nat){k:Nat}(h:a<2^k):ym a b<2^k:=Nat.xor_lt_two_pow h (sL Nat.and_le_left h)
theorem Wh{α:Type}:∀(l:List α) (k:Nat) (t:a1 α) (i:Nat),(a1.lay l k t).get i=if k<=i then(match l[i-k]? with|some x=>(t.get i).map (λ_=>x)|none=>t.get i) else t.get i
 |[],k,t,i=>by
  show t.get i=_;split<;>simp
 |x::l,k,t,i=>by
  show(a1.lay l (k+1) (t.set k x)).get i=_;rw[Wh l (k+1) (t.set k x) i,a1.jh];by_cases h1:k+1<=i
  ·have h2:k<=i:=by omega
   have h3:i≠k:=by omega
   have aQ:(x::l)[i-k]? =l[i-(k+1)]? :=by
    rw[show i-k=(i-(k+1))+1 from by omega];rfl
   rw[if_pos h1,if_pos h2,if_neg h3,aQ]
  ·rw[if_neg h1];by_cases h2:i=k
   ·subst h2;rw[if_pos I,if_pos (br _),Cf];rfl
   ·rw[if_neg h2,if_neg U]
def gO(args:List AV):Nat->AV:=λi=>args.getD i ea
theorem uW{fn:aP}{args:List AV}(h:args.length<=fn.ntmps):iw [] fn.ntmps (gO args) (uo fn args):=by
 refine⟨λi=>?_,rfl,rfl⟩;show(a1.lay args 0 (a1.full fn.ntmps ea fn.ntmps)).get i=_;rw[Wh,if_pos (k0 _),Nc];by_cases hi:i<fn.ntmps
 ·rw[if_pos hi,a1.F8 _ _ _ _ hi (br _)];show _=some (args.getD i ea);rw[fO];cases args[i]? <;>rfl
 ·rw[if_neg hi,s6 U];cases hg:(a1.full fn.ntmps ea fn.ntmps).get i with
  |none=>rfl
  |some y=>exact absurd (a1.F9 _ _ _ _ _ hg).2 hi
theorem Wi{env:Env}{floor:Nat}{fn:aP}{n d:Nat}{f:Nat->AV}{ad:Fr}{J:ae}(h1:iw [] n f ad)(dh:fn.results=[(d,none)])(hd:Nat.blt d n=true):endF env floor fn (.ret,ad,J)=some [(.ok (f d),J)]:=by
 show(match leave floor (callD env floor) ad.defers none J with
  |none=>none
  |some (some v,J)=>some [(et.err v,J)]
  |some (none,J)=>match resultsOf J ad.bf fn.results with
   |some v=>some [(.ok v,J)]
   |none=>none)=_
 rw[h1.ds];show(match resultsOf J ad.bf fn.results with|some v=>some [(et.ok v,J)]|none=>none)=_;rw[dh];have hg:=h1.get d;have Nd:d<n:=gB hd;rw[if_pos Nd] at hg;have:resultsOf J ad.bf [(d,none)]=some (f d):=by
  unfold resultsOf;have aR:resultOf J ad.bf (d,none)=some (f d):=by
   unfold resultOf;rw[hg]
  have e:mapO (resultOf J ad.bf) [(d,none)]=some [f d]:=by
   unfold mapO;simp only[aR]
  rw[e]
 rw[this]
theorem b3d{P:Program}{env:Env}{m:Nat}(hm:m<=env.bt)(gM:s_ P env)(fu:He P env)(hex:z_ P env)(nf:P.follows .mixedOrders=true){g:Nat}{fn:aP}{body:bO}{aY:List AV}{d:Nat}(r:AV)(hf:env.funcs g=some fn)(hb:fn.body=some body)
  (hn:(Nat.beq aY.length fn.kr&&Nat.ble aY.length fn.ntmps)=true) (dh:fn.results=[(d,none)]) (hd:Nat.blt d fn.ntmps=true) {ad:Nat} (al:fQ ad r=true) (iA:AV.eqb m r r=true)
  (h:ak env fn.ntmps body (gO aY) ⟨.nil,0⟩ (λx f ag=>x= .ret/\freeze ag 0 m (f d)=some r)) (b1:Nat):SpecEntry P env b1 g aY r:=by
 have hle:aY.length<=fn.ntmps:=by
  simp only[du] at hn;exact gB hn.2
 refine Hi hm gM fu hex nf hf hb hn al ((h _ (uW hle)).mono λx ad ag ⟨f,h1,h2,h3⟩=>?_) iA b1;subst h2;exact⟨.ok (f d),ag,Wi h1 dh hd,_,rfl,h3⟩
open Classical in
def DB(K:Nat->List AV->AV->Prop):Nat->List AV->Option AV:=λg aY=>if h:∃r,K g aY r then some (Classical.choose h) else none
theorem Nf{K:Nat->List AV->AV->Prop}(hf:∀g aY r cc,K g aY r->K g aY cc->r=cc){g:Nat}{aY:List AV}{r:AV}(h:K g aY r):DB K g aY=some r:=by
 have hex:∃r,K g aY r:=⟨r,h⟩
 unfold DB;rw[dif_pos hex];exact congrArg some (hf g aY _ _ (Ar hex) h)
theorem Hn{K:Nat->List AV->AV->Prop}{g:Nat}{aY:List AV}{r:AV}(h:DB K g aY=some r):K g aY r:=by
 unfold DB at h;split at h
 ·rename_i hex;cases h;exact Ar hex
 ·cases h
def b5.aV(b:b5)(K:Nat->List AV->AV->Prop):Env:={funcs:=b.funcs.get,mr:=b.mr,pure:=b.pure,spec:=DB K,bt:=b.bt+1000,ext:=b.ext}
def tm(P:Program)(b:b5)(K:Nat->List AV->AV->Prop):Prop:=∀g aY r,K g aY r->∀b1,SpecEntry P (b.env []) b1 g aY r
theorem oJ{P:Program}{b:b5}{K:Nat->List AV->AV->Prop}(hb:kg P b)(cU:tm P b K){g:Nat}{fn:aP}{body:bO}{aY:List AV}{d:Nat}(r:AV)(hf:b.funcs.get g=some fn)(iB:fn.body=some body)
  (hn:(Nat.beq aY.length fn.kr&&Nat.ble aY.length fn.ntmps)=true) (dh:fn.results=[(d,none)]) (hd:Nat.blt d fn.ntmps=true) {ad:Nat} (al:fQ ad r=true) (iA:AV.eqb 1000 r r=true)
  (h:ak (b.aV K) fn.ntmps body (gO aY) ⟨.nil,0⟩ (λx f ag=>x= .ret/\freeze ag 0 1000 (f d)=some r)) (b1:Nat):SpecEntry P (b.env []) b1 g aY r:=
 b3d (env:=b.aV K) (m:=1000) (Hj _ _) ⟨λg cd hg=>mJ.yj hb.funcs g cd hg⟩ (λb1 g aY r an=>cU g aY r (Hn an) b1) hb.ext hb.Aq r hf iB hn dh hd al iA h b1
def b3e(env:Env)(J:ae)(w:sR):Prop:=∃v,opx 0 (evalA env w.2.1) J w.1.op=some (.val v J)/\AV.eqb env.bt v w.2.2=true
def eF(env:Env)(D:List (Nat ⊕ (AV×List AV)))(n:Nat)(ops:List a3)(f:Nat->AV)(J:ae)(Q:(Nat->AV)->Prop):Prop:=
 ∀ad,iw D n f ad->∃fy bc b6 wn,(∀F,fy<=F->∀cO ws,jg env 0 (callV env (exec env F) 0) ops ad cO ws J=some (bc,List.replicate ops.length J++cO,wn++ws,J))/\iw D n b6 bc/\Q b6/\∀w∈wn,b3e env J w/\w.1∈ops
section
variable {env:Env}{aN:Option Nat}{D:List (Nat ⊕ (AV×List AV))}{n:Nat}{f:Nat->AV}{J:ae}{Q:(Nat->AV)->Prop}
theorem Ng(k:Nat)(cO:List ae):List.replicate k J++J::cO=List.replicate (k+1) J++cO:=by
 rw[Wc,jA];rfl
theorem eF.nil(h:Q f):eF env D n [] f J Q:=λad bC=>⟨0,ad,f,[],λ_ _ _ _=>rfl,bC,h,λ_ hw=>absurd hw aG⟩
theorem eF.val{d:Nat}{op:AOp}{g:Option (Nat×Bool)}{ops:List a3}{v:AV}(hd:Nat.blt d n=true)(hw:gN g n f=true)(ho:opx 0 (dv env n f) J op=some (.val v J))(h:eF env D n ops (dd f d v) J Q):
  eF env D n (⟨some d,op,g,[]⟩::ops) f J Q:=λad bC=>by
 obtain⟨fy,bc,b6,wn,h1,h2,h3,aQ⟩:=h _ (bC.put v hd);refine⟨fy,bc,b6,wn,λF b4 cO ws=>?_,h2,h3,λw hw=>⟨(aQ w hw).1,iM _ (aQ w hw).2⟩⟩;rw[runDraw_cons];show cond (wantedA g ad.bf) _ _=_;rw[bC.wanted,hw,cond_true,bC.ar,ho];show jg env 0 _ ops (ad.put (some d) v) (J::cO) ws J=_;rw[h1 F b4,Ng];rfl
theorem eF.off{d:Nat}{op:AOp}{g:Option (Nat×Bool)}{wn:List Nat}{ops:List a3}(hd:Nat.blt d n=true)(hw:gN g n f=false)(h:eF env D n ops (dd f d ea) J Q):
  eF env D n (⟨some d,op,g,wn⟩::ops) f J Q:=λad bC=>by
 obtain⟨fy,bc,b6,wn,h1,h2,h3,aQ⟩:=h _ (bC.put _ hd);refine⟨fy,bc,b6,wn,λF b4 cO ws=>?_,h2,h3,λw hw=>⟨(aQ w hw).1,iM _ (aQ w hw).2⟩⟩;rw[runDraw_cons];show cond (wantedA g ad.bf) _ _=_;rw[bC.wanted,hw,cond_false,h1 F b4,Ng];rfl
theorem eF.spec{d:Nat}{op:AOp}{g:Option (Nat×Bool)}{wn:List Nat}{ops:List a3}{fn:Nat}{args aY:List AV}{r:AV}(hd:Nat.blt d n=true)(hw:gN g n f=true)(ho:opx 0 (dv env n f) J op=some (.call (.f (.func fn) [] []) args))
  (he:env.ext fn=0) (au:env.pure fn=true) (ha:mapO (bT J env.bt) args=some aY) (an:env.spec fn aY=some r) (h:eF env D n ops (dd f d r) J Q):eF env D n (⟨some d,op,g,wn⟩::ops) f J Q:=λad bC=>by
 obtain⟨fy,bc,b6,wn,h1,h2,h3,aQ⟩:=h _ (bC.put _ hd);refine⟨fy,bc,b6,wn,λF b4 cO ws=>?_,h2,h3,λw hw=>⟨(aQ w hw).1,iM _ (aQ w hw).2⟩⟩;rw[runDraw_cons];show cond (wantedA g ad.bf) _ _=_;have ab:callV env (exec env F) 0 (.f (.func fn) [] []) args J=some [(.ok r,J)]:=by
  show callF env (exec env F) 0 fn ([]++args++[]) J=_;unfold callF;rw[he];show cond (env.pure fn) _ _=_;rw[au,cond_true,vW,iG,ha];show(match env.spec fn aY with|some r=>_|none=>_)=_;rw[an]
 rw[bC.wanted,hw,cond_true,bC.ar,ho];show(match callV env (exec env F) 0 (.f (.func fn) [] []) args J with|some [(.ok v,ag)]=>jg env 0 _ ops (ad.put (some d) v) (J::cO) ws ag|_=>none)=_;rw[ab];show jg env 0 _ ops (ad.put (some d) r) (J::cO) ws J=_;rw[h1 F b4,Ng];rfl
def b3f(ops:List a3):Bool:=cP (λo=>cP (λq=>Nat.ble q ops.length) o.j_) ops
def swapT(ops:List a3):Bool:=match ops.reverse with|y::_=>(match y.j_ with|[]=>true|_::_=>false)|[]=>true
theorem Nh{env:Env}{ao:a1 AV}{ops:List a3}(h:swapT ops=true):swapOk env ao ops=true:=by
 unfold swapT at h;unfold swapOk;cases al:ops.reverse with
 |nil=>rfl
 |cons y t=>
  rw[al] at h;cases t with
  |nil=>rfl
  |cons x t=>
   cases hw:y.j_ with
   |nil=>simp only[hw]
   |cons a l=>simp only[hw] at h;cases h
theorem lg{α:Type}{p:α->Bool}{l:List α}(h:cP p l=true):∀x∈l,p x=true:=λx hx=>nL h x hx
theorem Wj{α:Type}(x:α):∀ {k q:Nat},q<k->nth (List.replicate k x) q=some x
 |0,q,h=>by omega
 |k+1,0,_=>rfl
 |k+1,q+1,h=>by
  show nth (List.replicate k x) q=some x;exact Wj x U
theorem ak.draw{ops:List a3}{Q:ec}(hw:b3f ops=true)(an:swapT ops=true)(h:eF env D n ops f J (λb6=>Q .normal b6 J)):bR env aN D n (.draw ops) f J Q:=λad bC=>by
 obtain⟨fy,bc,b6,wn,h1,h2,h3,aQ⟩:=h ad bC;refine⟨fy+1,[(.normal,bc,J)],aG,λF b4=>?_,λo ho=>?_⟩
 ·obtain⟨k,rfl⟩:∃k,F=k+1:=⟨F-1,U⟩
  show exec env (k+1) 0 aN (bO.draw ops) ad J=_;rw[nU];show(match jg env 0 (callV env (exec env k) 0) ops ad [] [] J with
   |some (bc,cO,ws,ag)=>cond (ws.all (steady env 0 (ag::cO).reverse)&&swapOk env bc.bf ops) (some [(fN.normal,bc,ag)]) none
   |none=>none)=_
  rw[h1 k U];show cond ((wn++[]).all (steady env 0 (J::(List.replicate ops.length J++[])).reverse)&&swapOk env bc.bf ops) (some [(fN.normal,bc,J)]) none=_;rw[iG,iG,Nh an,As];have:wn.all (steady env 0 (J::List.replicate ops.length J).reverse)=true:=by
   rw[m4];intro w lh;obtain⟨⟨v,uO,tn⟩,gb⟩:=aQ w lh;unfold steady;refine jE λq aX=>?_;have Hd:q<=ops.length:=gB (lg (lg hw w.1 gb) q aX);have:(J::List.replicate ops.length J).reverse=List.replicate (ops.length+1) J:=by
    rw[<-L9,List.reverse_replicate]
   rw[this,Wj J U];show(match sQ w.1.op 0 (evalA env w.2.1) J with|some (.val v _)=>AV.eqb env.bt v w.2.2|_=>false)=true;rw[x1,uO];exact tn
  rw[this];rfl
 ·rw[cu.1 ho];exact⟨b6,h2,h3⟩
end
def Snp(n:Nat)(v:AV):Prop:=∀J,bT J n v=some v
theorem Wl{α:Type}{f:AV->Option AV}{g h:α->AV}:∀ {l:List α},(∀x∈l,f (g x)=some (h x))->mapO f (l.map g)=some (l.map h)
 |[],_=>rfl
 |x::l,hx=>by rw[pb,pF,hx x aG,Wl λy hy=>hx y (iM _ hy)];rfl
theorem Snp.i(n:Nat)(k:IntKind)(x:Int):Snp (n+1) (.i k x):=λ_=>rfl
theorem Snp.b(n:Nat)(x:Bool):Snp (n+1) (.b x):=λ_=>rfl
theorem pH{α:Type}{f:α->α->Bool}:∀ {l:List α},(∀x∈l,f x x=true)->fY f l l=true
 |[],_=>rfl
 |x::l,h=>by
  show cond (f x x) (fY f l l) false=true;rw[h x aG,cond_true];exact pH λy hy=>h y (iM _ hy)
theorem Ho:∀l,eqL l l=true
 |[]=>rfl
 |x::l=>by
  show cond (Nat.beq x x) (eqL l l) false=true;rw[gH,cond_true,Ho l]
theorem Snp.eqb:∀(n:Nat) (v:AV),Snp n v->AV.eqb n v v=true
 |0,v,h=>by have:=h ⟨.nil,0⟩;cases this
 |n+1,v,h=>by
  have aH:=Snp.eqb n;cases v with
  |b x=>show(x==x)=true;simp
  |i k x=>show(decide (k=k)&&decide (x=x))=true;simp
  |s l=>exact Ho l
  |p a=>cases a with
   |none=>rfl
   |some a=>have:=h ⟨.nil,0⟩;cases this
  |dG o v=>have:=h ⟨.nil,0⟩;cases this
  |ao a b c d e=>
   have an:=h ⟨.nil,0⟩;have:bT ⟨.nil,0⟩ (n+1) (.ao a b c d e)=(match readList ⟨.nil,0⟩ (.ao a b c d e) with|none=>none|some xs=>match mapO (bT ⟨.nil,0⟩ n) xs with|none=>none|some xs=>some (AV.a_ true d xs)):=rfl;rw[this] at an;split at an
   ·cases an
   ·split at an<;>cases an
  |af=>rfl
  |a_ o aa xs=>
   have an:=h ⟨.nil,0⟩;have e:bT ⟨.nil,0⟩ (n+1) (.a_ o aa xs)=(match mapO (bT ⟨.nil,0⟩ n) xs with|none=>none|some xs=>some (AV.a_ true aa xs)):=rfl;show((o==o)&&decide (aa=aa)&&fY (AV.eqb n) xs xs)=true;have hx:∀J,mapO (bT J n) xs=some xs:=λJ=>by
    have an:=h J;have e:bT J (n+1) (.a_ o aa xs)=(match mapO (bT J n) xs with|none=>none|some xs=>some (AV.a_ true aa xs)):=rfl;rw[e] at an;cases hm:mapO (bT J n) xs with
    |none=>rw[hm] at an;cases an
    |some ba=>rw[hm] at an;simp only[cJ,AV.a_.injEq] at an;rw[an.2.2]
   have hall:fY (AV.eqb n) xs xs=true:=pH λx eY=>aH x λJ=>by
    have:=hx J;exact Ni this x eY
   simp[hall]
  |m r=>cases r with
   |none=>rfl
   |some r=>have:=h ⟨.nil,0⟩;cases this
  |f a b c=>have:=h ⟨.nil,0⟩;cases this
  |d_=>rfl
  |it t v=>
   show(Nat.beq t t&&AV.eqb n v v)=true;rw[gH,pG];refine aH v λJ=>?_;have an:=h J;have e:bT J (n+1) (.it t v)=(match bT J n v with|none=>none|some v=>some (AV.it t v)):=rfl;rw[e] at an;cases hm:bT J n v with
   |none=>rw[hm] at an;cases an
   |some y=>rw[hm] at an;simp only[cJ,AV.it.injEq,true_and] at an;rw[an]
  |fJ=>rfl
  |ah l=>
   show fY (AV.eqb n) l l=true;refine pH λx eY=>aH x λJ=>?_;have an:=h J;have e:bT J (n+1) (.ah l)=(match mapO (bT J n) l with|none=>none|some l=>some (AV.ah l)):=rfl;rw[e] at an;cases hm:mapO (bT J n) l with
   |none=>rw[hm] at an;cases an
   |some ba=>rw[hm] at an;simp only[cJ,AV.ah.injEq] at an;subst an;exact Ni hm x eY
  |a9 l=>
   show fY (AV.eqb n) l l=true;refine pH λx eY=>aH x λJ=>?_;have an:=h J;have e:bT J (n+1) (.a9 l)=(match mapO (bT J n) l with|none=>none|some l=>some (AV.a9 l)):=rfl;rw[e] at an;cases hm:mapO (bT J n) l with
   |none=>rw[hm] at an;cases an
   |some ba=>rw[hm] at an;simp only[cJ,AV.a9.injEq] at an;subst an;exact Ni hm x eY
  |hc k d j=>show(decide (k=k)&&(Nat.beq d d&&Nat.beq j j))=true;simp
  |hP l=>exact pH λx _=>Ho x
  |im hi=>show(hi==hi)=true;simp
  |y i=>exact gH i
  |gi o i=>show((o==o)&&Nat.beq i i)=true;simp
where
 Ni {f:AV->Option AV}:∀ {l:List AV},mapO f l=some l->∀x∈l,f x=some x:=λ{l}=>by
  induction l with
  |nil=>intro _ x hx;simp at hx
  |cons a l g0=>
   intro h x hx;rw[pF] at h;cases ha:f a with
   |none=>rw[ha] at h;cases h
   |some y=>
    rw[ha] at h;cases hl:mapO f l with
    |none=>simp only[hl] at h;cases h
    |some ba=>
     simp only[hl,cJ,ue] at h;obtain⟨h1,h2⟩:=h;subst h1;subst h2;rcases dF.1 hx with rfl|hx
     ·exact ha
     ·exact g0 hl x hx
theorem Wm{a b:Nat}:decide (Int.ofNat a=Int.ofNat b)=decide (a=b):=decide_eq_decide.2 ⟨sK,λh=>by rw[h]⟩
theorem b3g{k:IntKind}{a b:Nat}:binop .eql (.i k (Int.ofNat a)) (.i k (Int.ofNat b))=some (.b (decide (a=b))):=by
 rw[<-Wm];show(if k=k then binI .eql k (Int.ofNat a) (Int.ofNat b) else none)=_;rw[if_pos I];rfl
theorem b3h{k:IntKind}{a b:Nat}:binop .neq (.i k (Int.ofNat a)) (.i k (Int.ofNat b))=some (.b (!decide (a=b))):=by
 rw[<-Wm];show(if k=k then binI .neq k (Int.ofNat a) (Int.ofNat b) else none)=_;rw[if_pos I];rfl
def cmpO(op:BinOp)(a b:Nat):Option AV:=
 match op with
 | .eql=>some (.b (decide (a=b)))
 | .neq=>some (.b (!decide (a=b)))
 | .lss=>some (.b (decide (a<b)))
 | .leq=>some (.b (decide (a<=b)))
 | .gtr=>some (.b (decide (b<a)))
 | .geq=>some (.b (decide (b<=a)))
 |_=>none
theorem oK{op:BinOp}{k:IntKind}{a b:Nat}{v:AV}(h:cmpO op a b=some v):binop op (.i k (Int.ofNat a)) (.i k (Int.ofNat b))=some v:=by
 cases op with
 |eql=>rw[b3g];exact h
 |neq=>rw[b3h];exact h
 |lss=>
  rw[<-h];show(if k=k then binI .lss k (Int.ofNat a) (Int.ofNat b) else none)=_;rw[if_pos I];show some (AV.b (decide ((Int.ofNat a)<Int.ofNat b)))=some (.b (decide (a<b)))
  congr 2;simp
 |leq=>
  rw[<-h];show(if k=k then binI .leq k (Int.ofNat a) (Int.ofNat b) else none)=_;rw[if_pos I];show some (AV.b (decide ((Int.ofNat a)<=Int.ofNat b)))=some (.b (decide (a<=b)))
  congr 2;simp
 |gtr=>
  rw[<-h];show(if k=k then binI .gtr k (Int.ofNat a) (Int.ofNat b) else none)=_;rw[if_pos I];show some (AV.b (decide ((Int.ofNat b)<Int.ofNat a)))=some (.b (decide (b<a)))
  congr 2;simp
 |geq=>
  rw[<-h];show(if k=k then binI .geq k (Int.ofNat a) (Int.ofNat b) else none)=_;rw[if_pos I];show some (AV.b (decide ((Int.ofNat b)<=Int.ofNat a)))=some (.b (decide (b<=a)))
  congr 2;simp
 |_=>cases h
theorem Au{n:Nat}(h:n<2^63):wrapN .i64 (Int.ofNat n)=Int.ofNat n:=by
 show cond (Nat.blt n 9223372036854775808) (Int.ofNat n) _=_;rw[show Nat.blt n 9223372036854775808=true from j7 U];rfl
theorem pI{a b:Nat}(h:a+b<2^63):binop .add (ai a) (ai b)=some (ai (a+b)):=by
 show some (AV.i .i64 (wrapN .i64 (Int.ofNat (a+b))))=_;rw[Au h]
theorem rV{a b:Nat}(hb:b<=a)(h:a<2^63):binop .sub (ai a) (ai b)=some (ai (a-b)):=by
 show some (AV.i .i64 (wrapN .i64 (Int.ofNat a-Int.ofNat b)))=_;have:Int.ofNat a-Int.ofNat b=Int.ofNat (a-b):=by simp only[Wd];omega
 rw[this,Au U]
def Wn:AOp->Bool
 | .bin _ _ _=>false
 | .conv _ _=>false
 | .append _ _ _ _=>false
 | .buildSlice _ _ _ _=>false
 | .neg _=>false
 |_=>true
section
variable {env:Env}{aN:Option Nat}{D:List (Nat ⊕ (AV×List AV))}{n:Nat}{f:Nat->AV}{J:ae}{Q:ec}
theorem aJ.go{d:Nat}{op:AOp}{g:Option (Nat×Bool)}{wn:List Nat}{ops:List a3}{v:AV}{ag:ae}(_hb:Wn op=true)(hd:Nat.blt d n=true)(hw:gN g n f=true)(ho:opx 0 (dv env n f) J op=some (.val v ag))(h:dC env aN D n ops (dd f d v) ag Q):
  dC env aN D n (⟨some d,op,g,wn⟩::ops) f J Q:=aJ.val hd hw ho h
theorem aJ.bin{d:Nat}{op:BinOp}{x y:aI}{g:Option (Nat×Bool)}{wn:List Nat}{ops:List a3}{a b v:AV}(hd:Nat.blt d n=true)(hw:gN g n f=true)(h1:dv env n f x=some a)(h2:dv env n f y=some b)(h3:binop op a b=some v)
  (h:dC env aN D n ops (dd f d v) J Q):dC env aN D n (⟨some d,.bin op x y,g,wn⟩::ops) f J Q:=aJ.val hd hw (DA a b v h1 h2 h3) h
theorem aJ.cmp{d:Nat}{op:BinOp}{x y:aI}{g:Option (Nat×Bool)}{wn:List Nat}{ops:List a3}{k:IntKind}{a b:Nat}{v:AV}(hd:Nat.blt d n=true)(hw:gN g n f=true)(h1:dv env n f x=some (.i k (Int.ofNat a)))(h2:dv env n f y=some (.i k (Int.ofNat b)))(h3:cmpO op a b=some v)
  (h:dC env aN D n ops (dd f d v) J Q):dC env aN D n (⟨some d,.bin op x y,g,wn⟩::ops) f J Q:=aJ.val hd hw (DA _ _ v h1 h2 (oK h3)) h
theorem eF.cmp{d:Nat}{op:BinOp}{x y:aI}{g:Option (Nat×Bool)}{ops:List a3}{k:IntKind}{a b:Nat}{v:AV}{Q:(Nat->AV)->Prop}(hd:Nat.blt d n=true)(hw:gN g n f=true)(h1:dv env n f x=some (.i k (Int.ofNat a)))(h2:dv env n f y=some (.i k (Int.ofNat b)))(h3:cmpO op a b=some v)
  (h:eF env D n ops (dd f d v) J Q):eF env D n (⟨some d,.bin op x y,g,[]⟩::ops) f J Q:=eF.val hd hw (DA _ _ v h1 h2 (oK h3)) h
theorem aJ.az{d:Nat}{aa:Option Nat}{x:aI}{g:Option (Nat×Bool)}{wn:List Nat}{ops:List a3}{id off:Nat}{c:List AV}{v:AV}(an:J.get id=some (.cells c))(hd:Nat.blt d n=true)(hw:gN g n f=true)(h1:dv env n f x=some (.p (some (id,off))))(h2:dU aa (c.drop off)=some v)
  (h:dC env aN D n ops (dd f d v) J Q):dC env aN D n (⟨some d,.load aa x,g,wn⟩::ops) f J Q:=aJ.val hd hw (n4 _ _ h1 (uV an h2)) h
theorem eF.go{d:Nat}{op:AOp}{g:Option (Nat×Bool)}{ops:List a3}{v:AV}{Q:(Nat->AV)->Prop}(_hb:Wn op=true)(hd:Nat.blt d n=true)(hw:gN g n f=true)(ho:opx 0 (dv env n f) J op=some (.val v J))(h:eF env D n ops (dd f d v) J Q):
  eF env D n (⟨some d,op,g,[]⟩::ops) f J Q:=eF.val hd hw ho h
theorem eF.bin{d:Nat}{op:BinOp}{x y:aI}{g:Option (Nat×Bool)}{ops:List a3}{a b v:AV}{Q:(Nat->AV)->Prop}(hd:Nat.blt d n=true)(hw:gN g n f=true)(h1:dv env n f x=some a)(h2:dv env n f y=some b)(h3:binop op a b=some v)
  (h:eF env D n ops (dd f d v) J Q):eF env D n (⟨some d,.bin op x y,g,[]⟩::ops) f J Q:=eF.val hd hw (DA a b v h1 h2 h3) h
theorem eF.az{d:Nat}{aa:Option Nat}{x:aI}{g:Option (Nat×Bool)}{ops:List a3}{id off:Nat}{c:List AV}{v:AV}{Q:(Nat->AV)->Prop}(an:J.get id=some (.cells c))(hd:Nat.blt d n=true)(hw:gN g n f=true)(h1:dv env n f x=some (.p (some (id,off))))(h2:dU aa (c.drop off)=some v)
  (h:eF env D n ops (dd f d v) J Q):eF env D n (⟨some d,.load aa x,g,[]⟩::ops) f J Q:=eF.val hd hw (n4 _ _ h1 (uV an h2)) h
theorem wo{ar:aI->Option AV}{k:Nat}{x:aI}{v:AV}{m:Nat}(h1:ar x=some v)(h2:lenA J k v=some m):opx 0 ar J (.len k x)=some (.val (ai m) J):=by
 show(match ar x with|some x=>(match lenA J k x with|some n=>some (bV.val (ai n) J)|none=>lenU J k x)|none=>none)=_;rw[h1];show(match lenA J k v with|some n=>some (bV.val (ai n) J)|none=>lenU J k v)=_;rw[h2]
theorem aJ.len{d k m:Nat}{x:aI}{g:Option (Nat×Bool)}{wn:List Nat}{ops:List a3}{v:AV}(hd:Nat.blt d n=true)(hw:gN g n f=true)(h1:dv env n f x=some v)(h2:lenA J k v=some m)(h:dC env aN D n ops (dd f d (ai m)) J Q):
  dC env aN D n (⟨some d,.len k x,g,wn⟩::ops) f J Q:=aJ.val hd hw (wo h1 h2) h
theorem aJ.idx{d:Nat}{aa:Option Nat}{x i:aI}{g:Option (Nat×Bool)}{wn:List Nat}{ops:List a3}{k:IntKind}{a v:AV}{j:Nat}(hd:Nat.blt d n=true)(hw:gN g n f=true)(h1:dv env n f x=some a)(h2:dv env n f i=some (.i k (Int.ofNat j)))(h3:idxSlA aa a j=some v)
  (h:dC env aN D n ops (dd f d v) J Q):dC env aN D n (⟨some d,.bj aa x i,g,wn⟩::ops) f J Q:=aJ.val hd hw (Hm k a j v h1 h2 h3) h
theorem eF.idx{d:Nat}{aa:Option Nat}{x i:aI}{g:Option (Nat×Bool)}{ops:List a3}{k:IntKind}{a v:AV}{j:Nat}{Q:(Nat->AV)->Prop}(hd:Nat.blt d n=true)(hw:gN g n f=true)(h1:dv env n f x=some a)(h2:dv env n f i=some (.i k (Int.ofNat j)))(h3:idxSlA aa a j=some v)
  (h:eF env D n ops (dd f d v) J Q):eF env D n (⟨some d,.bj aa x i,g,[]⟩::ops) f J Q:=eF.val hd hw (Hm k a j v h1 h2 h3) h
theorem aJ.Hp{d:Nat}{aa:Option Nat}{x:aI}{g:Option (Nat×Bool)}{wn:List Nat}{ops:List a3}{o:Bool}{v:AV}(hd:Nat.blt d n=true)(hw:gN g n f=true)(h1:dv env n f x=some (.dG o v))(h2:conf aa v=true)
  (h:dC env aN D n ops (dd f d v) J Q):dC env aN D n (⟨some d,.load aa x,g,wn⟩::ops) f J Q:=aJ.val hd hw (n4 _ _ h1 (by show(if conf aa v then some v else none)=_;rw[if_pos h2])) h
theorem b3i{ar:aI->Option AV}{x i:aI}{k:IntKind}{l:List Nat}{j c:Nat}(h1:ar x=some (.s l))(h2:ar i=some (.i k (Int.ofNat j)))(h:nth l j=some c):opx 0 ar J (.k1 x i)=some (.val (.i .u8 (Int.ofNat c)) J):=by
 show(match ar x,ar i with
  |some (.s l),some j=>(match natOf j with
   |some j=>(match nth l j with|some c=>some (bV.val (.i .u8 (Int.ofNat c)) J)|none=>none)
   |none=>none)
  |_,_=>none)=_
 rw[h1,h2];show(match nth l j with|some c=>some (bV.val (.i .u8 (Int.ofNat c)) J)|none=>none)=_;rw[h]
theorem b3j{ar:aI->Option AV}{m:Nat}{aa:Option Nat}{x i:aI}{k:IntKind}{o:Bool}{cs:List AV}{j:Nat}{v:AV}(h1:ar x=some (.dG o (.ah cs)))(h2:ar i=some (.i k (Int.ofNat j)))(h:j<m)(h3:dU aa (cs.drop (j*shN aa))=some v):opx 0 ar J (.rl m aa x i)=some (.val (.dG o v) J):=by
 show(match ar x,ar i with
  |some x,some j=>(match natOf j with
   |some j=>(if Nat.blt j m then(match fieldAddrA (j*shN aa) aa x with|some v=>some (bV.val v J)|none=>none) else none)
   |none=>none)
  |_,_=>none)=_
 rw[h1,h2];show(if Nat.blt j m then(match(match dU aa (cs.drop (j*shN aa)) with|some v=>some (AV.dG o v)|none=>none) with|some v=>some (bV.val v J)|none=>none) else none)=_;rw[if_pos (show Nat.blt j m=true from j7 h),h3]
theorem ak.cut{a b:bO}(L:List (Nat×AV))(h1:bR env aN D n a f J (λx b6 ag=>x= .normal/\ag=J/\sat L b6))(h2:∀g,bR env aN D n b (bx L g) J Q):bR env aN D n (.seq a b) f J Q:=ak.seq (h1.mono λx b6 ag ⟨aR,a6,c0⟩=>by
 subst aR;subst a6;show bR env aN D n b b6 ag Q;exact ak.norm L c0 h2)
theorem ak.b3k{a b:bO}(L:List (Nat×AV)){E:ec}{M:Prop}(h1:bR env aN D n a f J (λx b6 ag=>(x= .normal/\ag=J/\sat L b6/\M)\/E x b6 ag))(h3:∀x b6 ag,E x b6 ag->x≠ .normal/\Q x b6 ag)(h2:M->∀g,bR env aN D n b (bx L g) J Q):bR env aN D n (.seq a b) f J Q:=ak.seq (h1.mono λx b6 ag h=>by
 rcases h with⟨aR,a6,c0,h7⟩|h
 ·subst aR;subst a6;show bR env aN D n b b6 ag Q;exact ak.norm L c0 λg=>h2 h7 g
 ·obtain⟨aR,a6⟩:=h3 _ _ _ h;cases x with
  |normal=>exact absurd I aR
  |exit i=>exact a6
  |ret=>exact a6
  |panic v=>exact a6)
theorem aJ.box{d:Nat}{x:aI}{g:Option (Nat×Bool)}{wn:List Nat}{ops:List a3}{v:AV}{c:List AV}(k:Nat)(hn:J.next=k)(hd:Nat.blt d n=true)(hw:gN g n f=true)(av:dv env n f x=some v)(hval:v.val=true)(ab:v.cells=c)
  (h:∀ag:ae,ag.next=k+1->ag.get k=some (.cells c)->(∀i o,J.get i=some o->ag.get i=some o)->dC env aN D n ops (dd f d (.p (some (k,0)))) ag Q):dC env aN D n (⟨some d,.box x,g,wn⟩::ops) f J Q:=by
 subst hn;refine aJ.val (v:=jN J.next 0) (ag:=J.push (.cells c)) hd hw ?_ (h (J.push (.cells c)) I (ae.jP _) λi o ho=>?_)
 ·show(match dv env n f x with|some v=>cond v.val (some (bV.val (jN J.next 0) (J.push (.cells v.cells)))) none|none=>none)=_;rw[av];show cond v.val _ _=_;rw[hval,cond_true,ab]
 ·rw[ae.gw trivial _ (ae.bE ho)];exact ho
theorem aJ.alloc{d:Nat}{v:AV}{g:Option (Nat×Bool)}{wn:List Nat}{ops:List a3}{c:List AV}(k:Nat)(hn:J.next=k)(hd:Nat.blt d n=true)(hw:gN g n f=true)(ab:v.cells=c)
  (h:∀ag:ae,ag.next=k+1->ag.get k=some (.cells c)->(∀i o,J.get i=some o->ag.get i=some o)->dC env aN D n ops (dd f d (.p (some (k,0)))) ag Q):dC env aN D n (⟨some d,.alloc v,g,wn⟩::ops) f J Q:=by
 subst hn;refine aJ.val (v:=jN J.next 0) (ag:=J.push (.cells c)) hd hw ?_ (h (J.push (.cells c)) I (ae.jP _) λi o ho=>?_)
 ·rw[<-ab];rfl
 ·rw[ae.gw trivial _ (ae.bE ho)];exact ho
theorem Wo{ar:aI->Option AV}{aa:Option Nat}{a x:aI}{id off:Nat}{v:AV}{c bX:List AV}(an:J.get id=some (.cells c))(h1:ar a=some (.p (some (id,off))))(h2:ar x=some v)(iu:conf aa v=true)(ab:storeCells c off v.cells=some bX):
  opx 0 ar J (.store aa a x)=some (.val ea (J.set id (.cells bX))):=by
 show(match ar a,ar x with
  |some (.p (some (id,off))),some v=>
   if Nat.blt id 0 then none else
   if conf aa v then
    match J.get id with
    |some (.cells c)=>match storeCells c off v.cells with
     |some c=>some (bV.val ea (J.set id (.cells c)))
     |none=>none
    |_=>none
   else none
  |_,_=>none)=_
 rw[h1,h2];show(if Nat.blt id 0 then none else if conf aa v then(match J.get id with
    |some (.cells c)=>match storeCells c off v.cells with
     |some c=>some (bV.val ea (J.set id (.cells c)))
     |none=>none
    |_=>none) else none)=_
 rw[if_neg (by simp[Nat.blt,Nat.ble]),if_pos iu,an];show(match storeCells c off v.cells with|some c=>some (bV.val ea (J.set id (.cells c)))|none=>none)=_;rw[ab]
theorem jF{id:Nat}{o bU:AO}(an:J.get id=some o):(J.set id bU).get id=some bU/\(∀i o,i≠id->J.get i=some o->(J.set id bU).get i=some o):=by
 have hlt:=ae.bE an;refine⟨by rw[ae.jh trivial _ hlt,if_pos I],λi o hi ho=>?_⟩;rw[ae.jh trivial _ hlt,if_neg hi];exact ho
theorem aJ.store{aa:Option Nat}{a x:aI}{g:Option (Nat×Bool)}{wn:List Nat}{ops:List a3}{id off:Nat}{v:AV}{c bX:List AV}(an:J.get id=some (.cells c))(hw:gN g n f=true)(h1:dv env n f a=some (.p (some (id,off))))(h2:dv env n f x=some v)(iu:conf aa v=true)(ab:storeCells c off v.cells=some bX)
  (h:∀ag:ae,ag.next=J.next->ag.get id=some (.cells bX)->(∀i o,i≠id->J.get i=some o->ag.get i=some o)->dC env aN D n ops f ag Q):dC env aN D n (⟨none,.store aa a x,g,wn⟩::ops) f J Q:=
 aJ.wc hw (Wo an h1 h2 iu ab) (h _ I (jF an).1 (jF an).2)
theorem storeAll{c v:List AV}(h:v.length=c.length):storeCells c 0 v=some v:=by
 unfold storeCells;rw[if_pos (j7 U),qw,h,List.drop_length];simp
theorem aJ.var{d:Nat}{z:AV}{aa:Option Nat}{x:aI}{wn Nj:List Nat}{ops:List a3}{v:AV}{c:List AV}(k:Nat)(hn:J.next=k)(hd:Nat.blt d n=true)(h1:Nat.beq d d=true)(hx:dv env n (dd f d (.p (some (k,0)))) x=some v)(iu:conf aa v=true)(ab:v.cells=c)(hl:c.length=z.cells.length)
  (h:∀ag:ae,ag.next=k+1->ag.get k=some (.cells c)->(∀i o,J.get i=some o->ag.get i=some o)->dC env aN D n ops (dd f d (.p (some (k,0)))) ag Q):dC env aN D n (⟨some d,.alloc z,none,wn⟩::⟨none,.store aa (.t d) x,none,Nj⟩::ops) f J Q:=by
 refine aJ.alloc k hn hd I I λb2 a2 bm cx=>?_;refine aJ.store (bX:=c) bm I ?_ hx iu (by rw[ab];exact storeAll hl) λcT er dy dV=>h cT (er.trans a2) dy λi o ho=>dV i o ?_ (cx i o ho)
 ·show cond (Nat.blt d n) (some (cond (Nat.beq d d) _ (f d))) none=_;rw[hd,h1];rfl
 ·have:=ae.bE ho;omega
theorem aJ.known{b:b5}{K:Nat->List AV->AV->Prop}{d:Nat}{op:AOp}{g:Option (Nat×Bool)}{wn:List Nat}{ops:List a3}{fn:Nat}{args aY:List AV}{r:AV}(hf:∀g aY r cc,K g aY r->K g aY cc->r=cc)(he:b.ext fn=0)(au:b.pure fn=true)(cU:K fn aY r)
  (hd:Nat.blt d n=true) (hw:gN g n f=true) (ho:opx 0 (dv (b.aV K) n f) J op=some (.call (.f (.func fn) [] []) args)) (ha:mapO (bT J (b.bt+1000)) args=some aY) (h:dC (b.aV K) aN D n ops (dd f d r) J Q):dC (b.aV K) aN D n (⟨some d,op,g,wn⟩::ops) f J Q:=
 aJ.spec hd hw ho he au ha (Nf hf cU) h
theorem eF.known{b:b5}{K:Nat->List AV->AV->Prop}{d:Nat}{op:AOp}{g:Option (Nat×Bool)}{wn:List Nat}{ops:List a3}{fn:Nat}{args aY:List AV}{r:AV}{Q:(Nat->AV)->Prop}(hf:∀g aY r cc,K g aY r->K g aY cc->r=cc)(he:b.ext fn=0)(au:b.pure fn=true)(cU:K fn aY r)
  (hd:Nat.blt d n=true) (hw:gN g n f=true) (ho:opx 0 (dv (b.aV K) n f) J op=some (.call (.f (.func fn) [] []) args)) (ha:mapO (bT J (b.bt+1000)) args=some aY) (h:eF (b.aV K) D n ops (dd f d r) J Q):eF (b.aV K) D n (⟨some d,op,g,wn⟩::ops) f J Q:=
 eF.spec hd hw ho he au ha (Nf hf cU) h
theorem qH{n:Nat}{a:AV}{x:AV}(h:bT J n a=some x):mapO (bT J n) [a]=some [x]:=by rw[pF,h];rfl
theorem pJ{n:Nat}{a b:AV}{x y:AV}(h:bT J n a=some x)(h2:bT J n b=some y):mapO (bT J n) [a,b]=some [x,y]:=by rw[pF,h,qH h2]
theorem DC{n:Nat}{a b c:AV}{x y z:AV}(h:bT J n a=some x)(h2:bT J n b=some y)(h3:bT J n c=some z):mapO (bT J n) [a,b,c]=some [x,y,z]:=by rw[pF,h,pJ h2 h3]
end
def slA(o:Bool)(aa:Option Nat):List AV->AV
 |[]=>.af
 |x::l=>.a_ o aa (x::l)
theorem Wp(J:ae)(o:Bool)(aa:Option Nat)(l:List AV):lenA J 1 (slA o aa l)=some l.length:=by cases l<;>rfl
theorem Hq{α:Type}:∀ {l:List α} {i:Nat} (h:i<l.length),nth l i=some l[i]
 |[],i,h=>by simp at h
 |x::l,0,_=>rfl
 |x::l,i+1,h=>Hq (l:=l) (by simpa using h)
theorem DD{o:Bool}{aa:Option Nat}{l:List AV}{i:Nat}(h:i<l.length):idxSlA aa (slA o aa l) i=some (.dG o l[i]):=by
 cases l with
 |nil=>simp at h
 |cons x l=>exact Wg (Hq h)
theorem Hr{α:Type}{J:ae}{o:Bool}{aa:Option Nat}{l:List α}{f:α->AV}:lenA J 1 (slA o aa (l.map f))=some l.length:=by rw[Wp,b0]
theorem Av{α:Type}{o:Bool}{aa:Option Nat}{l:List α}{f:α->AV}{i:Nat}(h:i<l.length):idxSlA aa (slA o aa (l.map f)) i=some (.dG o (f l[i])):=by rw[DD (by simpa using h),e_]
theorem Wq{o:Bool}{aa:Option Nat}{l m:List AV}(h:slA o aa l=slA o aa m):l=m:=by
 cases l<;>cases m<;>simp_all [slA]
theorem tp{aa:Option Nat}{id off len j:Nat}{cap:Option Nat}(h:j<len):idxSlA aa (.ao id off len aa cap) j=some (.p (some (id,off+j*shN aa))):=by
 show(if Nat.blt j len&&decide (aa=aa) then some (AV.p (some (id,off+j*shN aa))) else none)=_;rw[show Nat.blt j len=true from j7 h];simp
theorem Wr{k:Nat}{x:AV}(h:conf (some k) x=true):∃l,x= .ah l/\l.length=k:=by
 cases x with
 |ah l=>exact⟨l,rfl,fX h⟩
 |_=>cases h
theorem Hs{x:AV}(h:conf none x=true):x.cells=[x]:=by
 cases x with
 |ah l=>cases h
 |_=>rfl
theorem DE{aa:Option Nat}{x:AV}{r:List AV}(h:conf aa x=true):dU aa (x.cells++r)=some x/\(x.cells++r).drop (shN aa)=r:=by
 cases aa with
 |none=>rw[Hs h];exact⟨rfl,rfl⟩
 |some k=>
  obtain⟨l,rfl,hl⟩:=Wr h;subst hl;refine⟨?_,?_⟩
  ·show(let m:=(l++r).take l.length;if m.length=l.length then some (AV.ah m) else none)=_;simp
  ·show(l++r).drop l.length=r;simp
theorem Ht{aa:Option Nat}:∀ {xs:List AV} {r:List AV},(∀x∈xs,conf aa x=true)->elems aa xs.length (xs.flatMap AV.cells++r)=some xs
 |[],r,_=>rfl
 |x::xs,r,h=>by
  have hx:=h x aG;rw[gp,elems_succ,lC,jA,(DE hx).1,(DE hx).2,Ht λy hy=>h y (iM _ hy)]
inductive Acc(J:ae)(aa:Option Nat):AV->List AV->Prop
 |nil:Acc J aa .af []
 |ao (o:Nat) (x:AV) (xs:List AV) (h:J.get o=some (.cells ((x::xs).flatMap AV.cells))) (ab:∀y∈x::xs,conf aa y=true):Acc J aa (.ao o 0 (xs.length+1) aa none) (x::xs)
def AV.at? :AV->Option Nat
 | .ao id _ _ _ _=>some id
 |_=>none
theorem Acc.conf{J:ae}{aa:Option Nat}{v:AV}{xs:List AV}(h:Acc J aa v xs):∀y∈xs,conf aa y=true:=by
 cases h with
 |nil=>intro y hy;simp at hy
 |ao o x xs h ab=>exact ab
theorem Acc.read{J:ae}{aa:Option Nat}{v:AV}{xs:List AV}(h:Acc J aa v xs):readList J v=some xs:=by
 cases h with
 |nil=>rfl
 |ao o x xs h ab=>
  show(match J.get o with|some (.cells c)=>elems aa (xs.length+1) (c.drop 0)|_=>none)=_;rw[h];show elems aa (x::xs).length ((x::xs).flatMap AV.cells)=_;have:=Ht (r:=[]) ab;rwa[iG] at this
theorem Acc.aS{J ag:ae}{aa:Option Nat}{v:AV}{xs:List AV}(h:Acc J aa v xs)(ay:∀i o,v.at? =some i->J.get i=some o->ag.get i=some o):Acc ag aa v xs:=by
 cases h with
 |nil=>exact .nil
 |ao o x xs h ab=>exact .ao o x xs (ay _ _ I h) ab
theorem Acc.len{J τ:ae}{aa:Option Nat}{v:AV}{xs:List AV}(h:Acc J aa v xs):lenA τ 1 v=some xs.length:=by
 cases h with
 |nil=>rfl
 |ao o x xs h ab=>rfl
theorem Acc.append{J:ae}{aa:Option Nat}{v x:AV}{xs ba:List AV}{y:AV}{bytes:Nat}(h:Acc J aa v xs)(hx:newOf J x=some (y::ba))(ab:∀z∈y::ba,Go.Lyc.conf aa z=true)(hb:(3*(xs.length+(y::ba).length)+2000)*bytes<=281474976710656):
  ∃bM ag,appendO 0 J aa bytes v x=some (bM,ag)/\Acc ag aa bM (xs++y::ba)/\bM.at? =some J.next/\ag.next=J.next+1/\∀i o,v.at? ≠some i->J.get i=some o->ag.get i=some o:=by
 have tq:=h.conf;have hall:(cP (Go.Lyc.conf aa) xs&&cP (Go.Lyc.conf aa) (y::ba)&&Nat.ble ((3*(xs.length+(y::ba).length)+2000)*bytes) 281474976710656)=true:=by
  rw[jE tq,jE ab,j7 hb];rfl
 cases h with
 |nil=>
  refine⟨.ao J.next 0 (y::ba).length aa none,J.push (.cells ((y::ba).flatMap AV.cells)),?_,?_,rfl,rfl,λi o _ ho=>?_⟩
  ·unfold appendO;rw[hx];show cond _ _ none=_;rw[hall];rfl
  ·exact .ao _ _ _ (ae.jP _) ab
  ·rw[ae.gw trivial _ (ae.bE ho)];exact ho
 |ao o uX xs h fm=>
  have al:readList J (.ao o 0 (xs.length+1) aa none)=some (uX::xs):=(Acc.ao o uX xs h fm).read;refine⟨.ao J.next 0 (xs.length+1+(y::ba).length) aa none,(J.set o .dead).push (.cells ((uX::xs).flatMap AV.cells++(y::ba).flatMap AV.cells)),?_,?_,rfl,rfl,λi bU a5 ho=>?_⟩
  ·unfold appendO;rw[al,hx];show cond (cP (Go.Lyc.conf aa) (uX::xs)&&cP (Go.Lyc.conf aa) (y::ba)&&Nat.ble ((3*((uX::xs).length+(y::ba).length)+2000)*bytes) 281474976710656) _ none=_;rw[hall,cond_true];show(if aa=aa then(if Nat.blt o 0 then none else if Nat.beq 0 0 then some (AV.ao J.next 0 (xs.length+1+(y::ba).length) aa none,(J.set o .dead).push (.cells ((uX::xs).flatMap AV.cells++(y::ba).flatMap AV.cells))) else none) else none)=_;rw[if_pos I,if_neg (by simp[Nat.blt,Nat.ble]),if_pos (by rfl)]
  ·have e:(uX::xs)++y::ba=uX::(xs++y::ba):=rfl;rw[e];have a6:xs.length+1+(y::ba).length=(xs++y::ba).length+1:=by simp;omega
   rw[a6];refine .ao _ _ _ ?_ λz bb=>?_
   ·have:(J.set o .dead).next=J.next:=rfl;rw[<-this,ae.jP];simp
   ·rcases eP.1 (show z∈(uX::xs)++y::ba from bb) with bb|bb
    ·exact fm z bb
    ·exact ab z bb
  ·have hlt:=ae.bE ho;rw[ae.gw trivial _ (show i<(J.set o .dead).next from hlt),ae.jh trivial _ (ae.bE h),if_neg (λe=>a5 (by rw[e];rfl))];exact ho
section
variable {env:Env}{aN:Option Nat}{D:List (Nat ⊕ (AV×List AV))}{n:Nat}{f:Nat->AV}{J:ae}{Q:ec}
theorem b3l{ar:aI->Option AV}{aa:Option Nat}{bytes:Nat}{s x:aI}{a b v:AV}{ag:ae}(h1:ar s=some a)(h2:ar x=some b)(h:appendO 0 J aa bytes a b=some (v,ag)):opx 0 ar J (.append aa bytes s x)=some (.val v ag):=by
 show(match ar s,ar x with
  |some s,some x=>(match appendO 0 J aa bytes s x with|some (v,J)=>some (bV.val v J)|none=>none)
  |_,_=>none)=_
 rw[h1,h2];show(match appendO 0 J aa bytes a b with|some (v,J)=>some (bV.val v J)|none=>none)=_;rw[h]
theorem aJ.append{d:Nat}{aa:Option Nat}{bytes:Nat}{s x:aI}{g:Option (Nat×Bool)}{wn:List Nat}{ops:List a3}{a b:AV}{xs ba:List AV}{y:AV}(hA:Acc J aa a xs)(hx:newOf J b=some (y::ba))(ab:∀z∈y::ba,conf aa z=true)(hb:(3*(xs.length+(y::ba).length)+2000)*bytes<=281474976710656)
  (hd:Nat.blt d n=true) (hw:gN g n f=true) (h1:dv env n f s=some a) (h2:dv env n f x=some b)
  (h:∀v ag,Acc ag aa v (xs++y::ba)->v.at? =some J.next->ag.next=J.next+1->(∀i o,a.at? ≠some i->J.get i=some o->ag.get i=some o)->dC env aN D n ops (dd f d v) ag Q):dC env aN D n (⟨some d,.append aa bytes s x,g,wn⟩::ops) f J Q:=by
 obtain⟨bM,ag,a2,bm,cx,ep,eW⟩:=hA.append hx ab hb;exact aJ.val hd hw (b3l h1 h2 a2) (h bM ag bm cx ep eW)
theorem aJ.b3m{d d0:Nat}{aa:Option Nat}{bytes:Nat}{z:List AV}{s x:aI}{wn Nj:List Nat}{ops:List a3}{a y:AV}{xs:List AV}(hA:Acc J aa a xs)(k_:Nat.blt d0 n=true)(av:opx 0 (dv env n f) J (.buildSlice aa 1 z [(0,x)])=some (.val (.ao J.next 0 1 aa (some 1)) (J.push (.cells y.cells))))(ab:conf aa y=true)
  (hb:(3*(xs.length+1)+2000)*bytes<=281474976710656) (hd:Nat.blt d n=true) (h1:dv env n (dd f d0 (.ao J.next 0 1 aa (some 1))) s=some a)
  (h:∀v ag,Acc ag aa v (xs++[y])->v.at? =some (J.next+1)->ag.next=J.next+2->(∀i o,a.at? ≠some i->J.get i=some o->ag.get i=some o)->dC env aN D n ops (dd (dd f d0 (.ao J.next 0 1 aa (some 1))) d v) ag Q):
  dC env aN D n (⟨some d0,.buildSlice aa 1 z [(0,x)],none,wn⟩::⟨some d,.append aa bytes s (.t d0),none,Nj⟩::ops) f J Q:=by
 refine aJ.val k_ I av ?_;have kC:Acc (J.push (.cells y.cells)) aa a xs:=hA.aS λi o _ ho=>by rw[ae.gw trivial _ (ae.bE ho)];exact ho
 have jx:newOf (J.push (.cells y.cells)) (.ao J.next 0 1 aa (some 1))=some [y]:=by
  show readList (J.push (.cells y.cells)) (.ao J.next 0 1 aa (some 1))=_;show(match(J.push (.cells y.cells)).get J.next with|some (.cells c)=>elems aa 1 (c.drop 0)|_=>none)=_;rw[ae.jP];have:=Ht (aa:=aa) (xs:=[y]) (r:=[]) (by intro w hw;rw[cu.1 hw];exact ab);simpa using this
 refine aJ.append kC jx (by intro w hw;rw[cu.1 hw];exact ab) hb hd I h1 ?_ λv ag er dy dV fl=>h v ag er dy dV λi o hi ho=>fl i o hi (by rw[ae.gw trivial _ (ae.bE ho)];exact ho);show cond (Nat.blt d0 n) (some (cond (Nat.beq d0 d0) _ (f d0))) none=_;rw[k_,gH];rfl
end
end Go.Lyc
end
noncomputable section
namespace Go.Lyc
set_option maxHeartbeats 0
open Go.RowKit
inductive Tm where
 |mk (var:Bool) (name:List Nat) (args:Option (List Tm))
inductive Fm where
 |mk (op:Nat) (name:List Nat) (args:Option (List Tm)) (sub:Option (List Fm))
def Tm.var:Tm->Bool| .mk v _ _=>v
def Tm.name:Tm->List Nat| .mk _ n _=>n
def Tm.gV:Tm->Option (List Tm)| .mk _ _ a=>a
def Tm.args(t:Tm):List Tm:=t.gV.getD []
def Fm.op:Fm->Nat| .mk o _ _ _=>o
def Fm.name:Fm->List Nat| .mk _ n _ _=>n
def Fm.gV:Fm->Option (List Tm)| .mk _ _ a _=>a
def Fm.args(f:Fm):List Tm:=f.gV.getD []
def Fm.gy:Fm->Option (List Fm)| .mk _ _ _ s=>s
def Fm.sub(f:Fm):List Fm:=f.gy.getD []
def osl(o:Bool)(aa:Option Nat):Option (List AV)->AV
 |none=>.af
 |some l=>.a_ o aa l
mutual
def Tm.cells(o:Bool):Tm->List AV
 | .mk v n none=>[.b v,.s n,.af]
 | .mk v n (some l)=>[.b v,.s n,.a_ o (some 3) (Tm.lA o l)]
def Tm.lA(o:Bool):List Tm->List AV
 |[]=>[]
 |t::l=>.ah (t.cells o)::Tm.lA o l
end
def Tm.A(o:Bool)(t:Tm):AV:=.ah (t.cells o)
theorem Tm.yn(o:Bool):∀l,Tm.lA o l=l.map (Tm.A o)
 |[]=>by simp[Tm.lA]
 |t::l=>by rw[Tm.lA,Tm.yn o l];rfl
def jG(o:Bool)(l:Option (List Tm)):AV:=osl o (some 3) (l.map λl=>l.map (Tm.A o))
theorem Tm.jV(o:Bool)(t:Tm):t.cells o=[.b t.var,.s t.name,jG o t.gV]:=by
 obtain⟨v,n,a⟩:=t;cases a with
 |none=>rw[Tm.cells];rfl
 |some l=>rw[Tm.cells,Tm.yn];rfl
mutual
def Fm.cells(o:Bool):Fm->List AV
 | .mk op n a none=>[.i .u8 (Int.ofNat op),.s n,jG o a,.af]
 | .mk op n a (some l)=>[.i .u8 (Int.ofNat op),.s n,jG o a,.a_ o (some 4) (Fm.lA o l)]
def Fm.lA(o:Bool):List Fm->List AV
 |[]=>[]
 |f::l=>.ah (f.cells o)::Fm.lA o l
end
def Fm.A(o:Bool)(f:Fm):AV:=.ah (f.cells o)
theorem Fm.yn(o:Bool):∀l,Fm.lA o l=l.map (Fm.A o)
 |[]=>by simp[Fm.lA]
 |f::l=>by rw[Fm.lA,Fm.yn o l];rfl
def iH(o:Bool)(l:Option (List Fm)):AV:=osl o (some 4) (l.map λl=>l.map (Fm.A o))
theorem Fm.jV(o:Bool)(f:Fm):f.cells o=[.i .u8 (Int.ofNat f.op),.s f.name,jG o f.gV,iH o f.gy]:=by
 obtain⟨op,n,a,s⟩:=f;cases s with
 |none=>rw[Fm.cells];rfl
 |some l=>rw[Fm.cells,Fm.yn];rfl
mutual
theorem Tm.Hu(o:Bool):∀(t u:Tm),t.cells o=u.cells o->t=u
 | .mk v n none,.mk bM pK none,h=>by simp only[Tm.cells,ue,AV.b.injEq,AV.s.injEq] at h;rw[h.1,h.2.1]
 | .mk v n none,.mk bM pK (some l),h=>by simp[Tm.cells] at h
 | .mk v n (some l),.mk bM pK none,h=>by simp[Tm.cells] at h
 | .mk v n (some l),.mk bM pK (some ct),h=>by
  simp only[Tm.cells,ue,AV.b.injEq,AV.s.injEq,AV.a_.injEq,true_and,and_true] at h;rw[h.1,h.2.1,Tm.Aw o l ct h.2.2]
theorem Tm.Aw(o:Bool):∀(l m:List Tm),Tm.lA o l=Tm.lA o m->l=m
 |[],[],_=>rfl
 |[],_::_,h=>by simp[Tm.lA] at h
 |_::_,[],h=>by simp[Tm.lA] at h
 |a::l,b::m,h=>by
  simp only[Tm.lA,ue,AV.ah.injEq] at h;rw[Tm.Hu o a b h.1,Tm.Aw o l m h.2]
end
theorem Ws{o:Bool}{a b:Option (List Tm)}(h:jG o a=jG o b):a=b:=by
 cases a with
 |none=>cases b with
  |none=>rfl
  |some m=>cases h
 |some l=>cases b with
  |none=>cases h
  |some m=>
   simp only[jG,osl,FP,AV.a_.injEq,true_and] at h;rw[<-Tm.yn,← Tm.yn] at h;rw[Tm.Aw o l m h]
mutual
theorem Fm.Hu(o:Bool):∀(f g:Fm),f.cells o=g.cells o->f=g
 | .mk p n a none,.mk eJ pK cL none,h=>by simp only[Fm.cells,ue,AV.i.injEq,AV.s.injEq,true_and] at h;rw[sK h.1,h.2.1,Ws h.2.2.1]
 | .mk p n a none,.mk eJ pK cL (some l),h=>by simp[Fm.cells] at h
 | .mk p n a (some l),.mk eJ pK cL none,h=>by simp[Fm.cells] at h
 | .mk p n a (some l),.mk eJ pK cL (some ct),h=>by
  simp only[Fm.cells,ue,AV.i.injEq,AV.s.injEq,AV.a_.injEq,true_and,and_true] at h;rw[sK h.1,h.2.1,Ws h.2.2.1,Fm.Aw o l ct h.2.2.2]
theorem Fm.Aw(o:Bool):∀(l m:List Fm),Fm.lA o l=Fm.lA o m->l=m
 |[],[],_=>rfl
 |[],_::_,h=>by simp[Fm.lA] at h
 |_::_,[],h=>by simp[Fm.lA] at h
 |a::l,b::m,h=>by
  simp only[Fm.lA,ue,AV.ah.injEq] at h;rw[Fm.Hu o a b h.1,Fm.Aw o l m h.2]
end
theorem Fm.mK{o:Bool}{f g:Fm}(h:f.A o=g.A o):f=g:=Fm.Hu o f g (by unfold Fm.A at h;injection h)
mutual
def Tm.dep:Tm->Nat
 | .mk _ _ none=>1
 | .mk _ _ (some l)=>Tm.hK l+1
def Tm.hK:List Tm->Nat
 |[]=>0
 |t::l=>max t.dep (Tm.hK l)
end
mutual
def Fm.dep:Fm->Nat
 | .mk _ _ a none=>Tm.hK (a.getD [])+1
 | .mk _ _ a (some l)=>max (Tm.hK (a.getD [])) (Fm.hK l)+1
def Fm.hK:List Fm->Nat
 |[]=>0
 |f::l=>max f.dep (Fm.hK l)
end
theorem Tm.wq:∀ {l:List Tm} {t:Tm},t∈l->t.dep<=Tm.hK l
 |[],_,h=>by simp at h
 |g::l,f,h=>by
  rw[Tm.hK];rcases dF.1 h with rfl|h
  ·omega
  ·have:=Tm.wq h;omega
theorem Fm.wq:∀ {l:List Fm} {t:Fm},t∈l->t.dep<=Fm.hK l
 |[],_,h=>by simp at h
 |g::l,f,h=>by
  rw[Fm.hK];rcases dF.1 h with rfl|h
  ·omega
  ·have:=Fm.wq h;omega
theorem Tm.rW(t:Tm):t.dep=Tm.hK t.args+1:=by
 obtain⟨v,n,a⟩:=t;cases a with
 |none=>rw[Tm.dep];simp[Tm.args,Tm.gV,Tm.hK]
 |some l=>rw[Tm.dep];rfl
theorem Fm.rW(f:Fm):f.dep=max (Tm.hK f.args) (Fm.hK f.sub)+1:=by
 obtain⟨op,n,a,s⟩:=f;cases s with
 |none=>rw[Fm.dep];simp[Fm.args,Fm.gV,Fm.sub,Fm.gy,Fm.hK]
 |some l=>rw[Fm.dep];rfl
theorem Tm.Nk{t u:Tm}(h:u∈t.args):u.dep<t.dep:=by have:=Tm.wq h;rw[Tm.rW t];omega
theorem Fm.Nk{f:Fm}{u:Tm}(h:u∈f.args):u.dep<f.dep:=by have:=Tm.wq h;rw[Fm.rW f];omega
theorem Fm.Wt{f g:Fm}(h:g∈f.sub):g.dep<f.dep:=by have:=Fm.wq h;rw[Fm.rW f];omega
variable [Tok][TokOk]
theorem Nl{α:Type}{J:ae}{k:Nat}{o:Bool}{aa:Option Nat}{l:Option (List α)}{g ti:α->AV}(h:∀x∈l.getD [],bT J k (g x)=some (ti x)):bT J (k+1) (osl o aa (l.map λl=>l.map g))=some (osl true aa (l.map λl=>l.map ti)):=by
 cases l with
 |none=>rfl
 |some l=>
  show(match mapO (bT J k) (l.map g) with|none=>none|some xs=>some (AV.a_ true aa xs))=_;rw[Wl (l:=l) (h:=ti) λx hx=>h x hx];rfl
theorem pL{J:ae}{k:Nat}{l ct:List AV}(h:mapO (bT J k) l=some ct):bT J (k+1) (.ah l)=some (.ah ct):=by
 show(match mapO (bT J k) l with|none=>none|some l=>some (AV.ah l))=_;rw[h]
theorem Tm.snap(J:ae)(o:Bool):∀(d:Nat) (t:Tm) (k:Nat),t.dep<=d->2*d+1<=k->bT J k (t.A o)=some (t.A true)
 |0,t,k,h,_=>by rw[Tm.rW] at h;omega
 |d+1,t,k,h,ay=>by
  obtain⟨k,rfl⟩:∃j,k=j+3:=⟨k-3,U⟩
  unfold Tm.A;rw[Tm.jV,Tm.jV];refine pL ?_;have e:bT J (k+2) (jG o t.gV)=some (jG true t.gV):=Nl (k:=k+1) λx hx=>Tm.snap J o d x (k+1) (by have:=Tm.Nk (t:=t) hx;omega) U;rw[pF,pF,pF,e];rfl
theorem Fm.snap(J:ae)(o:Bool):∀(d:Nat) (f:Fm) (k:Nat),f.dep<=d->2*d+1<=k->bT J k (f.A o)=some (f.A true)
 |0,f,k,h,_=>by rw[Fm.rW] at h;omega
 |d+1,f,k,h,ay=>by
  obtain⟨k,rfl⟩:∃j,k=j+3:=⟨k-3,U⟩
  unfold Fm.A;rw[Fm.jV,Fm.jV];refine pL ?_;have aR:bT J (k+2) (jG o f.gV)=some (jG true f.gV):=Nl (k:=k+1) λx hx=>Tm.snap J o d x (k+1) (by have:=Fm.Nk (f:=f) hx;omega) U;have a6:bT J (k+2) (iH o f.gy)=some (iH true f.gy):=Nl (k:=k+1) λx hx=>Fm.snap J o d x (k+1) (by have:=Fm.Wt (f:=f) hx;omega) U;rw[pF,pF,pF,pF,aR,a6];rfl
theorem Wu{α:Type}{J:ae}{o:Bool}{aa:Option Nat}{l:Option (List α)}{g:α->AV}:lenA J 1 (osl o aa (l.map λl=>l.map g))=some (l.getD []).length:=by
 cases l with
 |none=>rfl
 |some l=>show some (l.map g).length=_;rw[b0];rfl
theorem b3n{α:Type}{o:Bool}{aa:Option Nat}{l:Option (List α)}{g:α->AV}{i:Nat}(h:i<(l.getD []).length):idxSlA aa (osl o aa (l.map λl=>l.map g)) i=some (.dG o (g ((l.getD [])[i]))):=by
 cases l with
 |none=>simp at h
 |some l=>
  refine Wg ?_;have h:i<l.length:=h;rw[Hq (by simpa using h),e_];rfl
theorem Fm.len(o:Bool)(f:Fm):(f.cells o).length=4:=by rw[Fm.jV];rfl
theorem Fm.conf(o:Bool)(f:Fm):conf (some 4) (f.A o)=true:=by unfold Fm.A;rw[Fm.jV];rfl
theorem Fm.az(o:Bool)(f:Fm):dU (some 4) ((f.cells o).drop 0)=some (f.A o):=by unfold Fm.A;rw[Fm.jV];rfl
theorem Fm.qI(o:Bool)(f:Fm):dU none ((f.cells o).drop 0)=some (.i .u8 (Int.ofNat f.op)):=by rw[Fm.jV];rfl
theorem Fm.b3o(o:Bool)(f:Fm):dU none ((f.cells o).drop 1)=some (.s f.name):=by rw[Fm.jV];rfl
theorem Fm.Wv(o:Bool)(f:Fm):dU none ((f.cells o).drop 2)=some (jG o f.gV):=by rw[Fm.jV];rfl
theorem Fm.b3p(o:Bool)(f:Fm):dU none ((f.cells o).drop 3)=some (iH o f.gy):=by rw[Fm.jV];rfl
theorem b3q{J:ae}{o:Bool}{l:Option (List Tm)}:lenA J 1 (jG o l)=some (l.getD []).length:=Wu
theorem b3r{J:ae}{o:Bool}{l:Option (List Fm)}:lenA J 1 (iH o l)=some (l.getD []).length:=Wu
theorem b3s{o:Bool}{l:Option (List Fm)}{i:Nat}(h:i<(l.getD []).length):idxSlA (some 4) (iH o l) i=some (.dG o (((l.getD [])[i]).A o)):=b3n h
mutual
def Fm.parts:Fm->List Fm
 | .mk op n a none=>[.mk op n a none]
 | .mk op n a (some l)=>.mk op n a (some l)::Fm.tr l
def Fm.tr:List Fm->List Fm
 |[]=>[]
 |f::l=>f.parts++Fm.tr l
end
theorem Fm.parts_eq(f:Fm):f.parts=f::Fm.tr f.sub:=by
 obtain⟨op,n,a,s⟩:=f;cases s with
 |none=>rw[Fm.parts];simp[Fm.sub,Fm.gy,Fm.tr]
 |some l=>rw[Fm.parts];rfl
inductive Tm.jW:Tm->Prop
 |mk {v:Bool} {n:List Nat} {a:Option (List Tm)} (hl:(a.getD []).length<2^62) (h:∀x∈a.getD [],Tm.jW x):Tm.jW (.mk v n a)
inductive Fm.jW:Fm->Prop
 |mk {op:Nat} {n:List Nat} {a:Option (List Tm)} {s:Option (List Fm)} (kc:(a.getD []).length<2^62) (ha:∀x∈a.getD [],Tm.jW x) (hl:(s.getD []).length<2^62) (h:∀x∈s.getD [],Fm.jW x):Fm.jW (.mk op n a s)
theorem Fm.jW.b3t{t:Fm}(h:t.jW):t.sub.length<2^62:=by cases h with|mk _ _ hl _=>exact hl
theorem Fm.jW.sb{t:Fm}(h:t.jW):∀x∈t.sub,x.jW:=by cases h with|mk _ _ _ h=>exact h
end Go.Lyc
end
noncomputable section
namespace Go.Lyc
set_option maxHeartbeats 0
variable [Tok][TokOk]
open Go Go.RowKit Go.ChangeShapes Go.WideShapes
theorem b3u{H:Type}{enc:TypeId×Value->H}{P:Program}{f:Func}{s:ChangeSpec}{apart fresh handsOn:Bool}{W W':World}{args:Array Value}{ds:List (DataW H)}{DF:TypeId}{aE xH:List MemPlace}
  (hf:f.resultTypes= #[DF]) (hb:P.underlying DF=some .bool) (av:s.vars=[]) (hfn:s.fn H ds={results:=[.lit (.bool true)],args:=ds})
  (hW:DataW.Whole enc P f.params.toList s.vars apart W args.toList ds [] aE) (px:DataW.TrodAll enc P W' 0 (λb=>decide (b<W.heap.size)) true f.params.toList args.toList ds xH)
  (ay:∀b,b<W.heap.size->W'.heap[b]? =W.heap[b]?) (l2:W'.os=W.os) (lE:W'.output=W.output):s.post enc P f apart fresh handsOn false W args (.bool true) W':=by
 refine⟨ds,[],aE,[],xH,[],hW,?_,?_,?_,b2U ay l2 lE,λh=>by cases h⟩
 ·rw[iG,hfn,hf];exact trodAll_mk1 (shut_bool hb _)
 ·rw[iG,hfn];exact px
 ·rw[iG,hfn,av];rfl
theorem calls_trueS{H:Type}{enc:TypeId×Value->H}{P:Program}{env:Env}{f:Func}{s:ChangeSpec}{apart fresh handsOn:Bool}{W:World}{args:Array Value}{ds:List (DataW H)}{DF:TypeId}{g:Nat}{aY:List AV}{aE xH:List MemPlace}
  (cW:∀b1,SpecEntry P env b1 g aY (.b true)) (de:Globs env W W.heap.size) (ha:bK W (λ_=>none) (λ_=>False) W.heap.size aY args.toList)
  (hf:f.resultTypes= #[DF]) (hb:P.underlying DF=some .bool) (av:s.vars=[]) (hfn:s.fn H ds={results:=[.lit (.bool true)],args:=ds})
  (hW:DataW.Whole enc P f.params.toList s.vars apart W args.toList ds [] aE) (px:∀W':World,Below W.heap.size W W'->DataW.TrodAll enc P W' 0 (λb=>decide (b<W.heap.size)) true f.params.toList args.toList ds xH):
  Calls P g args W λe W'=>∃v,e= .returned v/\s.post enc P f apart fresh handsOn false W args v W':=by
 refine((cW W.heap.size).calls (br _) de ha).mono λe W' ⟨u,he,hR,cv,ay,l2,pf,lE⟩=>?_;cases hR;exact⟨_,he,b3u hf hb av hfn hW (px W' ⟨l2,pf,lE,cv,ay⟩) ay l2 lE⟩
theorem bytes_R{H:Type}{enc:TypeId×Value->H}{P:Program}{W:World}{t e:TypeId}{v:Value}{d:DataW H}{aE:List MemPlace}{U6:Nat}(ht:P.underlying t=some (.slice e))(he:P.underlying e=some (.int .u8))(ab:P.cellsOf e=1)
  (hval:Value.okWide P W .any U6 t v) (hd:DataW.Trod enc P W 0 (λ_=>true) true t v d aE):
  ∃o:Option (List Nat),R W (λ_=>none) (λ_=>False) W.heap.size (osl true none (o.map λl=>l.map λc=>AV.i .u8 (Int.ofNat c))) v/\(∀c∈o.getD [],c<256)/\(o=none\/∃es sp,d= .slice es sp/\(o.getD []).length=es.length):=by
 obtain⟨a,len,cap,rfl⟩:=okWide_slice ht hval;obtain⟨fuel,hf⟩:=hd;rcases open_ints ht he ab hf with⟨h0,_⟩|⟨cL,b3v,fZ,fa,h0,_,hl,hm,bb,hx,xR,yh⟩
 ·have h0:[Value.slice a len cap]=[.slice none 0 0]:=h0;injection h0 with h0 _
  rw[h0];exact⟨none,.af,aG,.inl I⟩
 ·have h0:[Value.slice a len cap]=[.slice (some cL) b3v fZ]:=h0;injection h0 with h0 _
  injection h0 with h1 h2 h3
  subst h1 h2 h3;have hval:cL.spot=none/\∃row cells,W.shape? cL.block=some (row,cells):=by
   have av:=hval;simp only[Value.okWide,ht,Cell.okWide,Cell.ok] at av;obtain⟨_,_,_,h,row,cells,h2,_⟩:=av;exact⟨h,row,cells,h2⟩
  obtain⟨fu,row,cells,Nm⟩:=hval;obtain⟨aF,off,sp⟩:=cL;have fu:sp=none:=fu;subst fu;have na:fa.length=cap:=by simpa using bb
  have hb:∀i,i<fa.length->0<=fa.getD i 0/\fa.getD i 0<=255:=λi hi=>by
   have hm:fa.getD i 0∈fa:=by
    rw[fO,cK hi];exact bJ hi
   exact bounds_u8 (yh _ hm)
  refine⟨some ((fa.take len).map Int.toNat),?_,λc ab=>?_,.inr ⟨_,_,congrArg Prod.fst hx,by simp[lits]⟩⟩
  ·have e:osl true none ((some ((fa.take len).map Int.toNat)).map λl=>l.map λc=>AV.i .u8 (Int.ofNat c))= .a_ true none (((fa.take len).map Int.toNat).map λc=>AV.i .u8 (Int.ofNat c)):=rfl;rw[e];have hlen:(((fa.take len).map Int.toNat).map λc=>AV.i .u8 (Int.ofNat c)).length=len:=by simp;omega
   have hF:∀i (h:i<(((fa.take len).map Int.toNat).map λc=>AV.i .u8 (Int.ofNat c)).length),(((fa.take len).map Int.toNat).map λc=>AV.i .u8 (Int.ofNat c))[i]= .i .u8 (fa.getD i 0):=λi h=>by
    rw[hlen] at h;have:=(hb i U).1;simp only[e_,ud]
    congr 1
    rw[fO,cK U] at this ⊢;show((fa[i].toNat:Nat):Int)=fa[i];exact Int.toNat_of_nonneg this
   have key:=R.a_ (w:=W) (m:=λ_=>none) (O:=λ_=>False) (B:=W.heap.size) (old:=true) (aa:=none) (xs:=((fa.take len).map Int.toNat).map λc=>AV.i .u8 (Int.ofNat c)) (aF:=aF) (off:=off) (fZ:=cap) (λi _=>.int .u8 (fa.getD i 0))
    (λ_=>⟨λh=>h,?_,λh=>by cases h⟩) (λi h=>by rw[hF i h];rfl) (λi h j aC=>?_) (λi h j aC=>?_) (by rw[hlen];exact hl) (λv av x hx=>?_) (λ_=>rfl)
   ·rwa[hlen] at key
   ·unfold World.shape? at Nm;cases hh:W.heap[aF]? with
    |none=>rw[hh] at Nm;cases Nm
    |some o=>exact(xt.1 hh).1
   ·rw[hlen] at h;rw[hF i (by rw[hlen];exact h)] at aC;have aC:j<1:=aC;obtain rfl:j=0:=by omega
    have:=xR i U;rw[add_plain] at this;show W.cell? ⟨aF,off+i*1+0,none⟩=_;rw[Hk,sG];exact this
   ·have hg:=hF i h;generalize(((fa.take len).map Int.toNat).map λc=>AV.i .u8 (Int.ofNat c))[i]=y at hg aC ⊢;subst hg;have fw:j<1:=aC;obtain rfl:j=0:=by omega
    exact .i _ _
   ·obtain⟨c,_,rfl⟩:=dx.1 av;have hx:x∈[AV.i .u8 (Int.ofNat c)]:=hx;rw[cu.1 hx];rfl
  ·have ab:c∈(fa.take len).map Int.toNat:=ab;obtain⟨z,bb,rfl⟩:=dx.1 ab;have:=bounds_u8 (yh z (pa bb));omega
end Go.Lyc
end
noncomputable section
namespace Go.Lyc
set_option maxHeartbeats 0
variable [Tok][TokOk]
open Go.RowKit
theorem bH.mono{env:Env}{floor:Nat}{cr:AV}{args:List AV}{J:ae}{Q n3:et->ae->Prop}(h:bH env floor cr args J Q)(aX:∀r ag,Q r ag->n3 r ag):bH env floor cr args J n3:=dp.mono h λ_ ho=>aX _ _ ho
def dK(env:Env)(D ma:List (Nat ⊕ (AV×List AV)))(n:Nat)(c:bO)(f:Nat->AV)(J:ae)(Q:ec):Prop:=∀ad,iw D n f ad->gj env 0 none c ad J (At ma n Q)
section
variable {env:Env}{D ma U1:List (Nat ⊕ (AV×List AV))}{n:Nat}{f:Nat->AV}{J:ae}{Q:ec}
theorem dK.lO{a b:bO}(h:bR env none D n a f J (λx f J=>x= .normal/\dK env D ma n b f J Q)):dK env D ma n (.seq a b) f J Q:=λad bC=>gj.seq ((h ad bC).mono λx ad J ⟨f,h1,h2,h3⟩=>by subst h2;exact h3 ad h1)
theorem dK.Ax{a b:bO}(h:dK env D ma n a f J (λx f J=>x= .normal/\bR env none ma n b f J Q)):dK env D ma n (.seq a b) f J Q:=λad bC=>gj.seq ((h ad bC).mono λx ad J ⟨f,h1,h2,h3⟩=>by subst h2;exact h3 ad h1)
theorem dK.block{a:bO}{id:Nat}(h:dK env D ma n a f J (λx f J=>x= .normal/\Q .normal f J)):dK env D ma n (.block id a) f J Q:=λad bC=>gj.block ((h ad bC).mono λx ad J ⟨f,h1,h2,h3⟩=>by subst h2;exact⟨f,h1,h3⟩)
theorem dK.range{oL:aI}{aE:List Nat}{as b:bO}{g:Nat}{first cap:List AV}(hf:dv env n f oL=some (.f (.func g) first cap))(he:env.ext g=0)
  (h:∀ao,(∀i,ao.get i=if i<n then some (f i) else none)->bH env 0 (.f (.func g) first cap) [.f (.yield (J.next+1)) [] []] ((J.push .eo).push (.loop .ready none ao aE as b J.next))
   (λr hC=>∃v st,r= .ok v/\hC.get (J.next+1)=some (.loop st none ao aE as b J.next)/\st≠ .busy/\Q .normal f (hC.set (J.next+1) (.loop .exhausted none ao aE as b J.next)))):
  dK env D (.inl J.next::D) n (.rangeFunc oL aE as b) f J Q:=λad bC=>by
 have h':=h ad.bf bC.get;refine dp.succ (dp.then (g:=λx F=>rangeK (exec env F) 0 none ad (.inl J.next::ad.defers) (J.next+1) x) h' λo ho=>?_) λF=>?_
 ·obtain⟨r,hC⟩:=o;obtain⟨v,st,h1,h2,h3,aQ⟩:=ho;have h1:r= .ok v:=h1;subst h1;have h2:hC.get (J.next+1)=some (.loop st none ad.bf aE as b J.next):=h2;refine dp.one (x:=(.normal,⟨ad.bf,.inl J.next::ad.defers,ad.fS⟩,hC.set (J.next+1) (.loop .exhausted none ad.bf aE as b J.next))) (λF=>?_) ⟨f,⟨bC.get,by show _::ad.defers=_;rw[bC.ds],bC.rc⟩,aQ⟩;show(match hC.get (J.next+1) with
   |some (.loop st l1 uq m7 h5 fK je)=>(match st with
    | .busy=>none
    |_=>match l1 with
     |none=>some [(fN.normal,(⟨ad.bf,.inl J.next::ad.defers,ad.fS⟩:Fr),hC.set (J.next+1) (.loop .exhausted l1 uq m7 h5 fK je))]
     |some c=>exec env F 0 none c ⟨ad.bf,.inl J.next::ad.defers,ad.fS⟩ (hC.set (J.next+1) (.loop .exhausted l1 uq m7 h5 fK je)))
   |_=>none)=_
  rw[h2];cases st with
  |busy=>exact absurd I h3
  |_=>rfl
 ·rw[nU];show(if Nat.blt J.next 0 then none else
   match evalA env ad.bf oL with
   |some (.f (.func g) first cap)=>
    match Cm none ad J with
    |none=>none
    |some (d,b2,ds)=>
     match env.ext g with
     |0=>hB (callF env (exec env F) 0 g (first++AV.f (.yield b2.next) [] []::cap) (b2.push (.loop .ready none ad.bf aE as b d))) (rangeK (exec env F) 0 none ad ds b2.next)
     |_=>none
   |_=>none)=_
  rw[if_neg (by simp[Nat.blt,Nat.ble]),bC.ar,hf];show(match env.ext g with
     |0=>hB (callF env (exec env F) 0 g (first++AV.f (.yield (J.next+1)) [] []::cap) ((J.push .eo).push (.loop .ready none ad.bf aE as b J.next))) (rangeK (exec env F) 0 none ad (.inl J.next::ad.defers) (J.next+1))
     |_=>none)=_
  rw[he];show hB (callF env (exec env F) 0 g (first++AV.f (.yield (J.next+1)) [] []::cap) _) _=hB (callF env (exec env F) 0 g (first++[AV.f (.yield (J.next+1)) [] []]++cap) _) _;rw[jA];rfl
end
def Hv:List Nat->List AV->(Nat->AV)->Nat->AV
 |p::aE,a::as,f=>Hv aE as (dd f p a)
 |_,_,f=>f
theorem Ww{n:Nat}:∀ {aE:List Nat} {args:List AV} {f:Nat->AV} {ao:a1 AV},cP (λp=>Nat.blt p n) aE=true->(∀i,ao.get i=if i<n then some (f i) else none)->iw [] n (Hv aE args f) ⟨layAll aE args ao,[],false⟩
 |[],_,f,ao,_,h=>⟨h,rfl,rfl⟩
 |p::aE,[],f,ao,_,h=>⟨h,rfl,rfl⟩
 |p::aE,a::args,f,ao,au,h=>by
  have rN:Nat.blt p n=true:=by
   have au:cond (Nat.blt p n) (cP (λp=>Nat.blt p n) aE) false=true:=au;cases hb:Nat.blt p n with
   |true=>rfl
   |false=>rw[hb] at au;cases au
  have nZ:cP (λp=>Nat.blt p n) aE=true:=by
   have au:cond (Nat.blt p n) (cP (λp=>Nat.blt p n) aE) false=true:=au;rw[rN] at au;exact au
  have h0:iw [] n f ⟨ao,[],false⟩:=⟨h,rfl,rfl⟩
  exact Ww (f:=dd f p a) (ao:=ao.set p a) nZ (h0.put a rN).get
theorem bH.round{env:Env}{l n:Nat}{f:Nat->AV}{J:ae}{ao:a1 AV}{aE:List Nat}{as b:bO}{d:Nat}{args:List AV}{R:ae->Prop}(hl:J.get l=some (.loop .ready none ao aE as b d))(gK:∀i,ao.get i=if i<n then some (f i) else none)(jH:cP (λp=>Nat.blt p n) aE=true)(hlen:Nat.beq aE.length args.length=true)
  (h:bR env (some l) [] n as (Hv aE args f) J (λx f1 b2=>x= .normal/\b2.get l=some (.loop .ready none ao aE as b d)∧
   bR env (some l) [] n b f1 (b2.set l (.loop .busy none ao aE as b d)) (λx _ cT=>x= .normal/\cT.get l=some (.loop .busy none ao aE as b d)/\R (cT.set l (.loop .ready none ao aE as b d))))):
  bH env 0 (.f (.yield l) [] []) args J (λr ag=>r= .ok (.b true)/\R ag):=by
 have h1:=h _ (Ww (args:=args) jH gK);refine dp.congr (dp.then (g:=λx F=>roundMid (exec env F) 0 l b x) h1 λo ho=>?_) λF=>?_
 ·obtain⟨x,eh,b2⟩:=o;obtain⟨f1,Nn,hx,ji,h2⟩:=ho;have hx:x= .normal:=hx;subst hx;have ji:b2.get l=some (.loop .ready none ao aE as b d):=ji;refine dp.congr (dp.then (g:=λx _=>roundEnd l x) (h2 eh Nn) λo ho=>?_) λF=>?_
  ·obtain⟨x,wu,cT⟩:=o;obtain⟨f2,_,hx,n2,hR⟩:=ho;have hx:x= .normal:=hx;subst hx;have n2:cT.get l=some (.loop .busy none ao aE as b d):=n2;refine dp.one (x:=(.ok (.b true),cT.set l (.loop .ready none ao aE as b d))) (λ_=>?_) ⟨rfl,hR⟩;show(endRound cT l none).map (λx=>[x])=_;unfold endRound;rw[n2];rfl
  ·show(match b2.get l with
    |some (.loop .ready l1 uq m7 h5 fK je)=>hB (exec env F 0 (some l) b eh (b2.set l (.loop .busy l1 uq m7 h5 fK je))) (roundEnd l)
    |_=>none)=_
   rw[ji]
 ·show(if Nat.blt l 0 then none else
   match J.get l with
   |some (.loop .ready _ ao aE as b _)=>cond (Nat.beq aE.length args.length) (hB (exec env F 0 (some l) as ⟨layAll aE args ao,[],false⟩ J) (roundMid (exec env F) 0 l b)) none
   |_=>none)=_
  rw[if_neg (by simp[Nat.blt,Nat.ble]),hl];show cond (Nat.beq aE.length args.length) _ none=_;rw[hlen,cond_true]
section
variable {env:Env}{aN:Option Nat}{D:List (Nat ⊕ (AV×List AV))}{n:Nat}{f:Nat->AV}{J:ae}{Q:ec}
theorem aJ.iX{d:Nat}{op:AOp}{g:Option (Nat×Bool)}{wn:List Nat}{ops:List a3}{cr:AV}{args:List AV}{R:et->ae->Prop}(hd:Nat.blt d n=true)(hw:gN g n f=true)(ho:opx 0 (dv env n f) J op=some (.call cr args))(ab:bH env 0 cr args J R)
  (h:∀r ag,R r ag->∃v,r= .ok v/\dC env aN D n ops (dd f d v) ag Q):dC env aN D n (⟨some d,op,g,wn⟩::ops) f J Q:=λad bC=>
 kh.call (by rw[bC.wanted];exact hw) (by rw[bC.ar];exact ho) (ab.mono λr ag al=>by
  obtain⟨v,rfl,av⟩:=h r ag al;exact av _ (bC.put v hd))
theorem bH.code{fn:Nat}{cd:aP}{body:bO}{dz:Nat}{first cap args:List AV}{R:et->ae->Prop}(he:env.ext fn=0)(au:env.pure fn=false)(hf:env.funcs fn=some cd)(hb:cd.body=some body)
  (hn:(Nat.beq (first++args++cap).length cd.kr&&Nat.ble (first++args++cap).length cd.ntmps)=true) (dh:cd.results=[(dz,none)]) (qJ:Nat.blt dz cd.ntmps=true)
  (h:ak env cd.ntmps body (gO (first++args++cap)) J (λx b6 ag=>x= .ret/\R (.ok (b6 dz)) ag)):bH env 0 (.f (.func fn) first cap) args J R:=by
 have hle:(first++args++cap).length<=cd.ntmps:=by
  simp only[du] at hn;exact gB hn.2
 refine bH.run he au hf hb hn ((h _ (uW hle)).mono λx bc ag ⟨b6,h1,h2,h3⟩=>?_);subst h2;exact⟨.ok (b6 dz),ag,Wi h1 dh qJ,h3⟩
theorem bH.pM{fn:Nat}{cd:aP}{body:bO}{first cap args:List AV}{R:et->ae->Prop}(he:env.ext fn=0)(au:env.pure fn=false)(hf:env.funcs fn=some cd)(hb:cd.body=some body)
  (hn:(Nat.beq (first++args++cap).length cd.kr&&Nat.ble (first++args++cap).length cd.ntmps)=true) (dh:cd.results=[])
  (h:ak env cd.ntmps body (gO (first++args++cap)) J (λx _ ag=>(x= .ret\/x= .normal)/\R (.ok (.a9 [])) ag)):bH env 0 (.f (.func fn) first cap) args J R:=by
 have hle:(first++args++cap).length<=cd.ntmps:=by
  simp only[du] at hn;exact gB hn.2
 refine bH.run he au hf hb hn ((h _ (uW hle)).mono λx bc ag ⟨b6,h1,h2,h3⟩=>?_);refine⟨.ok (.a9 []),ag,?_,h3⟩;have e:endF env 0 cd (.ret,bc,ag)=some [(.ok (.a9 []),ag)]:=by
  show(match leave 0 (callD env 0) bc.defers none ag with
   |none=>none
   |some (some v,J)=>some [(et.err v,J)]
   |some (none,J)=>match resultsOf J bc.bf cd.results with
    |some v=>some [(.ok v,J)]
    |none=>none)=_
  rw[h1.ds,dh];rfl
 rcases h2 with rfl|rfl
 ·exact e
 ·exact e
end
theorem Wx{env:Env}{fn:aP}{n d dz:Nat}{f:Nat->AV}{ad:Fr}{J:ae}(h1:iw [.inl d] n f ad)(hm:J.get d=some .eo)(dh:fn.results=[(dz,none)])(hd:Nat.blt dz n=true):endF env 0 fn (.ret,ad,J)=some [(.ok (f dz),J.set d .dead)]:=by
 show(match leave 0 (callD env 0) ad.defers none J with
  |none=>none
  |some (some v,J)=>some [(et.err v,J)]
  |some (none,J)=>match resultsOf J ad.bf fn.results with
   |some v=>some [(.ok v,J)]
   |none=>none)=_
 have hl:leave 0 (callD env 0) ad.defers none J=some (none,J.set d .dead):=by
  rw[h1.ds];show(if Nat.blt d 0 then none else match J.get d with
   |some .eo=>some (none,J.set d .dead)
   |_=>none)=_
  rw[if_neg (by simp[Nat.blt,Nat.ble]),hm]
 rw[hl];show(match resultsOf (J.set d .dead) ad.bf fn.results with|some v=>some [(et.ok v,J.set d .dead)]|none=>none)=_;rw[dh];have hg:=h1.get dz;have Nd:dz<n:=gB hd;rw[if_pos Nd] at hg;have aR:resultOf (J.set d .dead) ad.bf (dz,none)=some (f dz):=by
  unfold resultOf;rw[hg]
 have:resultsOf (J.set d .dead) ad.bf [(dz,none)]=some (f dz):=by
  unfold resultsOf;have e:mapO (resultOf (J.set d .dead) ad.bf) [(dz,none)]=some [f dz]:=by
   unfold mapO;simp only[aR]
  rw[e]
 rw[this]
theorem bH.No{env:Env}{J:ae}{fn:Nat}{cd:aP}{body:bO}{dz d:Nat}{first cap args:List AV}{R:et->ae->Prop}(he:env.ext fn=0)(au:env.pure fn=false)(hf:env.funcs fn=some cd)(hb:cd.body=some body)
  (hn:(Nat.beq (first++args++cap).length cd.kr&&Nat.ble (first++args++cap).length cd.ntmps)=true) (dh:cd.results=[(dz,none)]) (qJ:Nat.blt dz cd.ntmps=true)
  (h:dK env [] [.inl d] cd.ntmps body (gO (first++args++cap)) J (λx b6 ag=>x= .ret/\ag.get d=some .eo/\R (.ok (b6 dz)) (ag.set d .dead))):bH env 0 (.f (.func fn) first cap) args J R:=by
 have hle:(first++args++cap).length<=cd.ntmps:=by
  simp only[du] at hn;exact gB hn.2
 refine bH.run he au hf hb hn ((h _ (uW hle)).mono λx bc ag ⟨b6,h1,h2,h3,aQ⟩=>?_);subst h2;exact⟨.ok (b6 dz),_,Wx h1 h3 dh qJ,aQ⟩
theorem b3w{P:Program}{b:b5}{K:Nat->List AV->AV->Prop}(hb:kg P b)(cU:tm P b K){g:Nat}{fn:aP}{body:bO}{aY:List AV}{dz d:Nat}(r:AV)(hf:b.funcs.get g=some fn)(iB:fn.body=some body)
  (hn:(Nat.beq aY.length fn.kr&&Nat.ble aY.length fn.ntmps)=true) (dh:fn.results=[(dz,none)]) (hd:Nat.blt dz fn.ntmps=true) {ad:Nat} (al:fQ ad r=true) (iA:AV.eqb 1000 r r=true)
  (h:dK (b.aV K) [] [.inl d] fn.ntmps body (gO aY) ⟨.nil,0⟩ (λx f ag=>x= .ret/\ag.get d=some .eo/\freeze (ag.set d .dead) 0 1000 (f dz)=some r)) (b1:Nat):SpecEntry P (b.env []) b1 g aY r:=by
 have hle:aY.length<=fn.ntmps:=by
  simp only[du] at hn;exact gB hn.2
 refine Hi (env:=b.aV K) (m:=1000) (Hj _ _) ⟨λg cd hg=>mJ.yj hb.funcs g cd hg⟩ (λb1 g aY r an=>cU g aY r (Hn an) b1) hb.ext hb.Aq hf iB hn al ((h _ (uW hle)).mono λx ad ag ⟨f,h1,h2,h3,aQ⟩=>?_) iA b1;subst h2;exact⟨.ok (f dz),_,Wx h1 h3 dh hd,_,rfl,aQ⟩
theorem b3x{J ag:ae}(ay:∀i c,J.get i=some (.cells c)->ag.get i=some (.cells c)){v:AV}{l:List AV}(h:readList J v=some l):readList ag v=some l:=by
 cases v with
 |ao id off len aa cap=>
  have h:(match J.get id with|some (.cells c)=>elems aa len (c.drop off)|_=>none)=some l:=h;show(match ag.get id with|some (.cells c)=>elems aa len (c.drop off)|_=>none)=some l;cases hg:J.get id with
  |none=>rw[hg] at h;cases h
  |some o=>
   cases o with
   |cells c=>rw[hg] at h;rw[ay id c hg];exact h
   |_=>rw[hg] at h;cases h
 |af=>exact h
 |a_ o aa xs=>exact h
 |_=>cases h
theorem Hw{J:ae}{n:Nat}{xs:List AV}{w:AV}(h:bT J (n+1) (.ah xs)=some w):∃fa,mapO (bT J n) xs=some fa/\w= .ah fa:=by
 rw[snapshot_succ] at h;simp only[] at h;cases hm:mapO (bT J n) xs with
 |none=>rw[hm] at h;cases h
 |some fa=>rw[hm] at h;cases h;exact⟨fa,rfl,rfl⟩
theorem uY{k:IntKind}{a c:Nat}(ab:c≠0):binop .rem (.i k (Int.ofNat a)) (.i k (Int.ofNat c))=some (.i k (Int.ofNat (a%c))):=by
 show(if k=k then binI .rem k (Int.ofNat a) (Int.ofNat c) else none)=_;rw[if_pos I];show(if Int.ofNat c=0 then none else some (AV.i k ((Int.ofNat a).tmod (Int.ofNat c))))=_;rw[if_neg (by simpa using ab)];rfl
def calm:AOp->Bool
 | .call _ _=>false
 | .k2 _ _=>false
 | .sN _=>false
 | .len 0 _=>false
 |_=>true
def Ay:Option bV->Prop
 |none=>True
 |some (.val _ _)=>True
 |some (.panic _)=>True
 |_=>False
theorem b3y{c:Bool}{a b:Option bV}(ha:Ay a)(hb:Ay b):Ay (cond c a b):=by cases c<;>assumption
theorem b3z{k:Nat}{x:aI}{v:AV}{J:ae}(h:calm (.len k x)=true):Ay (lenU J k v):=by
 cases k with
 |zero=>cases h
 |succ k=>exact trivial
set_option maxHeartbeats 0 in
theorem Hx{floor:Nat}{ar:aI->Option AV}{J:ae}:∀ {op:AOp},calm op=true->Ay (opx floor ar J op):=by
 intro op h;cases op<;>first
  |(cases h;done)
  |(simp only[opx];repeat' split)<;>(first|trivial|exact b3z h|exact b3y trivial trivial|(simp_all [Ay];done))
def iY{α:Type}:Option (List α)->Prop
 |none=>True
 |some l=>∃x,l=[x]
theorem iY.hB{α β:Type}{r:Option (List α)}{f:α->Option (List β)}(h:iY r)(hf:∀x,iY (f x)):iY (Go.Lyc.hB r f):=by
 cases r with
 |none=>trivial
 |some l=>obtain⟨x,rfl⟩:=h;exact hf x
def Hy(env:Env)(gs:List Nat):Prop:=∀g∈gs,∀F args J,iY (callV env (exec env F) 0 (.f (.func g) [] []) args J)
theorem Hy.nil{env:Env}:Hy env []:=λ_ h=>absurd h aG
def wv(gs:List Nat)(g:Nat):Bool:=gs.any λx=>Nat.beq x g
theorem Az{g:Nat}{gs:List Nat}(h:wv gs g=true):g∈gs:=by
 obtain⟨x,h1,h2⟩:=Md.1 h;rw[<-fX h2];exact h1
def DG(gs:List Nat)(o:a3):Bool:=
 (match o.j_ with|[]=>true|_::_=>false)&&(match o.op with
  | .call (.fn g) _=>wv gs g
  |op=>calm op)
theorem b3A{gs:List Nat}{o:a3}(h:DG gs o=true):o.j_=[]/\((∃g as,o.op= .call (.fn g) as/\g∈gs)\/calm o.op=true):=by
 obtain⟨d,op,Hz,w⟩:=o;cases w with
 |cons a l=>cases h
 |nil=>
  refine⟨rfl,?_⟩;cases op with
  |call c as=>cases c with
   |fn g=>exact .inl ⟨g,as,rfl,Az h⟩
   |val x=>cases h
  |_=>exact .inr h
abbrev Np(J τ:ae):Prop:=∀i o,J.get i=some o->τ.get i=some o
theorem Nq{env:Env}{gs:List Nat}(hg:Hy env gs){F:Nat}{dQ:Bool}:∀ {ops:List a3},cP (DG gs) ops=true->∀ {ad:Fr} {J:ae} {outs:m6},runOps env 0 (callV env (exec env F) 0) dQ ops ad J=some outs->(∀o∈outs,o.1= .normal)->outs≠[]→
  ∃bc fe ag,outs=[(.normal,bc,ag)]/\fe.length=ops.length/\(∃t,(ag::fe).reverse=J::t)/\∀cO ws,jg env 0 (callV env (exec env F) 0) ops ad cO ws J=some (bc,fe++cO,ws,ag)
 |[],_,ad,J,outs,h,_,_=>by
  cases h;exact⟨ad,[],J,rfl,rfl,⟨[],rfl⟩,λ_ _=>rfl⟩
 |o::ops,an,ad,J,outs,h,hn,a5=>by
  have h1:DG gs o=true:=lg an o aG;have h2:cP (DG gs) ops=true:=jE λx hx=>lg an x (iM _ hx);rw[x2] at h;obtain⟨hw,gL⟩:=b3A h1;have fin:∀ {eh:Fr} {b2:ae},runOps env 0 (callV env (exec env F) 0) dQ ops eh b2=some outs->(∀cO ws,jg env 0 (callV env (exec env F) 0) (o::ops) ad cO ws J=jg env 0 (callV env (exec env F) 0) ops eh (J::cO) ws b2)→
    ∃bc fe ag,outs=[(.normal,bc,ag)]/\fe.length=(o::ops).length/\(∃t,(ag::fe).reverse=J::t)/\∀cO ws,jg env 0 (callV env (exec env F) 0) (o::ops) ad cO ws J=some (bc,fe++cO,ws,ag):=λ{eh b2} al hd=>by
   obtain⟨bc,fe,ag,a2,bm,_,ep⟩:=Nq hg h2 al hn a5;refine⟨bc,fe++[J],ag,a2,by simp[bm],⟨(ag::fe).reverse,by rw[<-Cg,We];rfl⟩,λcO ws=>?_⟩;rw[hd,ep,jA];rfl
  cases hwt:wantedA o.guard ad.bf with
  |false=>
   rw[hwt,cond_false] at h;exact fin h λcO ws=>by rw[runDraw_cons,hwt,cond_false]
  |true=>
   rw[hwt,cond_true] at h;cases hx:opx 0 (evalA env ad.bf) J o.op with
   |none=>rw[hx] at h;cases h
   |some r=>
    rw[hx] at h;cases r with
    |val v b2=>exact fin h λcO ws=>by rw[runDraw_cons,hwt,cond_true,hx,hw]
    |panic v=>cases h;have:=hn _ (cu.2 I);cases this
    |call cr args=>
     have eb:∃g,cr= .f (.func g) [] []/\g∈gs:=by
      rcases gL with⟨g,as,ho,kN⟩|gL
      ·rw[ho] at hx;refine⟨g,?_,kN⟩;simp only[opx] at hx
       repeat' split at hx
       all_goals first|(cases hx;done)|(rename_i a _;cases hx;cases a;rfl)
      ·have:=Hx (floor:=0) (ar:=evalA env ad.bf) (J:=J) gL;rw[hx] at this;exact this.elim
     obtain⟨g,kv,kN⟩:=eb;subst kv;have h:hB (callV env (exec env F) 0 (.f (.func g) [] []) args J) (λr=>match r with
      |(.ok v,J)=>runOps env 0 (callV env (exec env F) 0) dQ ops (ad.put o.dst v) J
      |(.err v,J)=>some [(.panic v,ad,J)])=some outs:=h
     have h1:=hg g kN F args J;cases ab:callV env (exec env F) 0 (.f (.func g) [] []) args J with
     |none=>rw[ab] at h;cases h
     |some l=>
      rw[ab] at h1 h;obtain⟨x,rfl⟩:=h1;obtain⟨rt,b2⟩:=x;have e:∀(f:et×ae->Option m6),hB (some [(rt,b2)]) f=f (rt,b2):=λf=>by
       rfl
      rw[e] at h;cases rt with
      |err v=>cases h;have:=hn _ (cu.2 I);cases this
      |ok v=>
       have h:runOps env 0 (callV env (exec env F) 0) dQ ops (ad.put o.dst v) b2=some outs:=h;refine fin h λcO ws=>?_;rw[runDraw_cons,hwt,cond_true,hx];show(match callV env (exec env F) 0 (.f (.func g) [] []) args J with|some [(.ok v,ag)]=>jg env 0 (callV env (exec env F) 0) ops (ad.put o.dst v) (J::cO) ws ag|_=>none)=_;rw[ab]
    |k2 cr args=>
     exfalso;rcases gL with⟨g,as,ho,kN⟩|gL
     ·rw[ho] at hx;simp only[opx] at hx
      repeat' split at hx
      all_goals first|(cases hx;done)|(simp_all;done)
     ·have:=Hx (floor:=0) (ar:=evalA env ad.bf) (J:=J) gL;rw[hx] at this;exact this.elim
    |jM l=>
     exfalso;rcases gL with⟨g,as,ho,kN⟩|gL
     ·rw[ho] at hx;simp only[opx] at hx
      repeat' split at hx
      all_goals first|(cases hx;done)|(simp_all;done)
     ·have:=Hx (floor:=0) (ar:=evalA env ad.bf) (J:=J) gL;rw[hx] at this;exact this.elim
def b3B(env:Env)(m:Nat)(s:ae)(w:sR):Prop:=(∀q∈w.1.j_,q=m)/\∃v τ,opx 0 (evalA env w.2.1) s w.1.op=some (.val v τ)/\AV.eqb env.bt v w.2.2=true
def HC(env:Env)(aN:Option Nat)(D:List (Nat ⊕ (AV×List AV)))(n m k:Nat)(ops:List a3)(f:Nat->AV)(J:ae)(Q:(Nat->AV)->ae->Prop):Prop:=
 ∀ad,iw D n f ad->∃fy bc b6 ag,iw D n b6 bc/\Q b6 ag/\k<=m/\∀F,fy<=F->∃fe wn s,fe.length=ops.length/\(∀cO ws,jg env 0 (callV env (exec env F) 0) ops ad cO ws J=some (bc,fe++cO,wn++ws,ag))∧
  nth (ag::fe).reverse (m-k)=some s/\Np J s/\∀w∈wn,b3B env m s w
section
variable {env:Env}{aN:Option Nat}{D:List (Nat ⊕ (AV×List AV))}{n m k:Nat}{f:Nat->AV}{J:ae}{gs:List Nat}
theorem ak.b3C{ops:List a3}{Q:ec}(m:Nat)(an:swapT ops=true)(h:HC env aN D n m 0 ops f J (λb6 ag=>Q .normal b6 ag)):bR env aN D n (.draw ops) f J Q:=λad bC=>by
 obtain⟨fy,bc,b6,ag,h2,h3,_,h1⟩:=h ad bC;refine⟨fy+1,[(.normal,bc,ag)],aG,λF b4=>?_,λo ho=>?_⟩
 ·obtain⟨k,rfl⟩:∃k,F=k+1:=⟨F-1,U⟩
  obtain⟨fe,wn,s,_,bm,cx,_,eW⟩:=h1 k U;show exec env (k+1) 0 aN (bO.draw ops) ad J=_;rw[nU];show(match jg env 0 (callV env (exec env k) 0) ops ad [] [] J with
   |some (bc,cO,ws,ag)=>cond (ws.all (steady env 0 (ag::cO).reverse)&&swapOk env bc.bf ops) (some [(fN.normal,bc,ag)]) none
   |none=>none)=_
  rw[bm];show cond ((wn++[]).all (steady env 0 (ag::(fe++[])).reverse)&&swapOk env bc.bf ops) (some [(fN.normal,bc,ag)]) none=_;rw[iG,iG,Nh an,As];have:wn.all (steady env 0 (ag::fe).reverse)=true:=by
   rw[m4];intro w lh;obtain⟨er,v,τ,dy,dV⟩:=eW w lh;unfold steady;refine jE λq aX=>?_;rw[er q aX,show nth (ag::fe).reverse m=some s from cx];show(match sQ w.1.op 0 (evalA env w.2.1) s with|some (.val v _)=>AV.eqb env.bt v w.2.2|_=>false)=true;rw[x1,dy];exact dV
  rw[this];rfl
 ·rw[cu.1 ho];exact⟨b6,h2,h3⟩
theorem HC.fin{ops:List a3}{Q:(Nat->AV)->ae->Prop}(hg:Hy env gs)(an:cP (DG gs) ops=true)(h:dC env aN D n ops f J (λx b6 ag=>x= .normal/\Q b6 ag)):HC env aN D n m m ops f J Q:=λad bC=>by
 obtain⟨fy,outs,h1,h2,h3⟩:=h ad bC;have hn:∀o∈outs,o.1= .normal:=λo ho=>by obtain⟨b6,_,h,_⟩:=h3 o ho;exact h
 obtain⟨bc,fe,ag,e,_,_,_⟩:=Nq hg an (h2 fy (br _)) hn h1;obtain⟨b6,er,_,dy⟩:=h3 _ (by rw[e];exact cu.2 I);refine⟨fy,bc,b6,ag,er,dy,br _,λF b4=>?_⟩;obtain⟨wu,b3D,cT,a6,lN,⟨t,qK⟩,yo⟩:=Nq hg an (h2 F b4) hn h1;rw[e] at a6;cases a6;exact⟨b3D,[],J,lN,λcO ws=>yo cO ws,by rw[qK,Cf];rfl,λ_ _ h=>h,λ_ h=>absurd h aG⟩
end
end Go.Lyc
end
noncomputable section
namespace Go.Lyc
set_option maxHeartbeats 0
structure Hid(R:Prop):Prop where
 out:R
theorem HD{P R:Prop}(k:R)(h:Hid R->P:=by
 intro k
 repeat (first|refine aJ.go I I I I ?_|refine aJ.cmp I I I I I ?_|refine aJ.off I I ?_|refine aJ.nil ?_|refine ak.seq ?_|refine ak.region ?_|refine ak.skip ?_|refine ak.block ?_)
 exact k.out):P:=h ⟨k⟩
theorem b3E{P R:Prop}(k:R)(h:Hid R->P:=by
 intro k
 repeat (first|refine eF.go I I I I ?_|refine eF.cmp I I I I I ?_|refine eF.off I I ?_|refine eF.nil ?_)
 exact k.out):P:=h ⟨k⟩
theorem jX{P R:Prop}(k:R)(h:Hid R->P:=by
 intro k
 repeat (first|refine aJ.go I I I I ?_|refine aJ.cmp I I I I I ?_|refine aJ.off I I ?_|refine aJ.nil ?_)
 exact k.out):P:=h ⟨k⟩
theorem Wy{P R:Prop}(k:R)(h:Hid R->P:=by
 intro k
 repeat (first|refine aJ.go I I I I ?_|refine aJ.az cx I I I I ?_|refine aJ.cmp I I I I I ?_|refine aJ.off I I ?_|refine aJ.nil ?_)
 exact k.out):P:=h ⟨k⟩
end Go.Lyc
end
noncomputable section
namespace Go.Lyc
set_option maxHeartbeats 0
open Go Go.RowKit
theorem HF{f:Nat->AV}{i j:Nat}{v:AV}(h:Nat.beq j i=false):dd f i v j=f j:=by show cond (Nat.beq j i) v (f j)=f j;rw[h];rfl
theorem AA{f:Nat->AV}{i:Nat}{v:AV}:dd f i v i=v:=by show cond (Nat.beq i i) v (f i)=v;rw[gH];rfl
variable [Tok][TokOk] in
theorem ak.each{env:Env}{aN:Option Nat}{D:List (Nat ⊕ (AV×List AV))}{n i m c d b fK:Nat}{body:bO}{f:Nat->AV}{J:ae}{Q:ec}(N:Nat)(eM:Nat->(Nat->AV)->ae->Prop)
  (ed:N<2^62) (h0:eM 0 f J) (uN:f i=ai 0) (DH:f m=ai N)
  (hb:∀j g τ,j<N->eM j g τ->g i=ai j->g m=ai N->bR env aN D n (.block fK body) (dd g c (.b true)) τ (λx b6 aM=>match x with
   | .normal=>b6 i=ai j/\b6 m=ai N/\eM (j+1) (dd (dd b6 d (ai (j+1))) i (ai (j+1))) aM
   | .exit e=>Nat.beq e b=false/\Q (.exit e) b6 aM
   |x=>Q x b6 aM))
  (hx:∀g τ,eM N g τ->g i=ai N->Q .normal (dd g c (.b false)) τ)
  (ab:Nat.blt c n=true:=by rfl) (hd:Nat.blt d n=true:=by rfl) (hi:Nat.blt i n=true:=by rfl) (hm:Nat.blt m n=true:=by rfl) (Nr:Nat.beq m d=false:=by rfl) (vT:Nat.beq m i=false:=by rfl):
  bR env aN D n (.block b (.loop (.seq (.region [⟨some c,.bin .lss (.t i) (.t m),none,[]⟩]) (.seq (.cond (.t c) .skip (.exit b)) (.seq (.block fK body) (.region [⟨some d,.bin .add (.t i) (.c (.i .i64 1)),none,[]⟩,⟨some i,.bh (.t d),none,[]⟩])))))) f J Q:=by
 refine ak.block (ak.loop (λk g τ=>∃j,j+k=N/\eM j g τ/\g i=ai j/\g m=ai N) ?_ N ⟨0,U,h0,uN,DH⟩);rintro k g τ ⟨j,HH,a0,yp,kN⟩;have qL:dv env n g (.t i)=some (ai j):=by show cond (Nat.blt i n) (some (g i)) none=_;rw[hi,yp];rfl
 have em:dv env n g (.t m)=some (ai N):=by show cond (Nat.blt m n) (some (g m)) none=_;rw[hm,kN];rfl
 refine ak.seq (ak.region ?_);refine aJ.cmp (a:=j) (b:=N) ab I qL em I ?_;refine aJ.nil (ak.seq (ak.iW (t:=decide (j<N)) (by show cond (Nat.blt c n) (some (dd g c (.b (decide (j<N))) c)) none=_;rw[ab,AA];rfl) (λh=>?_) λh=>?_))
 ·have aC:j<N:=of_decide_eq_true h;rw[h];refine ak.skip (ak.seq ((hb j g τ aC a0 yp kN).mono λx b6 aM h'=>?_));cases x with
  |normal=>
   obtain⟨h1,h2,h3⟩:=h';refine ak.region ?_;have aR:dv env n b6 (.t i)=some (ai j):=by show cond (Nat.blt i n) (some (b6 i)) none=_;rw[hi,h1];rfl
   refine aJ.bin hd I aR I (pI (a:=j) (b:=1) U) ?_;refine aJ.go I hi I (v:=ai (j+1)) (ag:=aM) ?_ ?_
   ·show(match cond (Nat.blt d n) (some (dd b6 d (ai (j+1)) d)) none with|some v=>some (bV.val v aM)|none=>none)=_;rw[hd,AA];rfl
   ·refine aJ.nil ?_;refine⟨k-1,U,j+1,U,h3,AA,?_⟩;rw[HF vT,HF Nr,h2]
  |exit e=>
   show cond (Nat.beq e b) (Q .normal b6 aM) (Q (.exit e) b6 aM);rw[h'.1];exact h'.2
  |ret=>exact h'
  |panic v=>exact h'
 ·have aC:j=N:=by have:=of_decide_eq_false h;omega
  subst aC;rw[h];refine ak.exit ?_;show cond (Nat.beq b b) (Q .normal (dd g c (.b false)) τ) (Q (.exit b) (dd g c (.b false)) τ);rw[gH];exact hx g τ a0 yp
end Go.Lyc
end
noncomputable section
namespace Go.Lyc
set_option maxHeartbeats 0
variable [Tok][TokOk]
open Go.RowKit
def HI(gs:List Nat)(o:a3):Bool:=match o.op with
 | .call (.fn g) _=>wv gs g
 |op=>calm op
def quiet(gs:List Nat):bO->Bool
 | .skip=>true
 | .region ops=>cP (HI gs) ops
 | .draw _=>true
 | .seq a b=>quiet gs a&&quiet gs b
 | .cond _ a b=>quiet gs a&&quiet gs b
 | .block _ a=>quiet gs a
 | .loop a=>quiet gs a
 | .scope a=>quiet gs a
 | .exit _=>true
 | .ret=>true
 |_=>false
def AB(env:Env)(g:Nat):Prop:=∀F first cap args J,iY (callV env (exec env F) 0 (.f (.func g) first cap) args J)
theorem HJ{env:Env}{gs:List Nat}{call:mv}(ab:∀g∈gs,∀args J,iY (call (.f (.func g) [] []) args J)){dQ:Bool}:∀ {ops:List a3},cP (HI gs) ops=true->∀ad J,iY (runOps env 0 call dQ ops ad J)
 |[],_,ad,J=>⟨_,rfl⟩
 |o::ops,h,ad,J=>by
  have h1:HI gs o=true:=lg h o aG;have h2:cP (HI gs) ops=true:=jE λx hx=>lg h x (iM _ hx);rw[x2];cases wantedA o.guard ad.bf with
  |false=>exact HJ ab h2 _ _
  |true=>
   rw[cond_true];obtain⟨d,op,Hz,wn⟩:=o;by_cases gq:∃g as,op= .call (.fn g) as
   ·obtain⟨g,as,rfl⟩:=gq;have hg:g∈gs:=Az h1;cases hx:opx 0 (evalA env ad.bf) J (.call (.fn g) as) with
    |none=>trivial
    |some r=>
     have eb:∃args,r= .call (.f (.func g) [] []) args:=by
      simp only[opx] at hx
      repeat' split at hx
      all_goals first|(cases hx;done)|(rename_i a _;cases hx;cases a;exact⟨_,rfl⟩)|(cases hx;exact⟨_,rfl⟩)
     obtain⟨args,rfl⟩:=eb;refine iY.hB (ab g hg _ _) λr=>?_;obtain⟨r,ag⟩:=r;cases r with
     |ok v=>exact HJ ab h2 _ _
     |err v=>exact⟨_,rfl⟩
   ·have zN:calm op=true:=by
     cases op with
     |call c as=>cases c with
      |fn g=>exact absurd ⟨g,as,rfl⟩ gq
      |val x=>exact h1
     |_=>exact h1
    have:=Hx (floor:=0) (ar:=evalA env ad.bf) (J:=J) zN;cases hx:opx 0 (evalA env ad.bf) J op with
    |none=>trivial
    |some r=>
     rw[hx] at this;cases r with
     |val v ag=>exact HJ ab h2 _ _
     |panic v=>exact⟨_,rfl⟩
     |call _ _=>exact this.elim
     |k2 _ _=>exact this.elim
     |jM _=>exact this.elim
def uZ(env:Env)(gs:List Nat):Prop:=∀g∈gs,env.ext g=0/\(env.pure g=true\/env.pure g=false/\∃cd body,env.funcs g=some cd/\cd.body=some body/\quiet gs body=true)
theorem quiet_code{env:Env}{gs:List Nat}{F:Nat}(aX:∀G,G<F->∀g∈gs,∀args J,iY (callV env (exec env G) 0 (.f (.func g) [] []) args J)):∀(G:Nat),G<=F->∀ {c:bO},quiet gs c=true->∀ {aN} ad J,iY (exec env G 0 aN c ad J)
 |0,_,_,_,_,_,_=>trivial
 |G+1,de,c,h,aN,ad,J=>by
  have aH:=λ{c} h {aN} ad J=>@quiet_code env gs F aX G U c h aN ad J;rw[nU];cases c with
  |skip=>exact⟨_,rfl⟩
  |region ops=>exact HJ (aX G U) h ad J
  |draw ops=>
   show iY (match jg env 0 (callV env (exec env G) 0) ops ad [] [] J with|some (bc,cO,ws,ag)=>cond (ws.all (steady env 0 (ag::cO).reverse)&&swapOk env bc.bf ops) (some [(fN.normal,bc,ag)]) none|none=>none);split
   ·rename_i bc cO ws ag _;cases(ws.all (steady env 0 (ag::cO).reverse)&&swapOk env bc.bf ops) with
    |true=>exact⟨_,rfl⟩
    |false=>trivial
   ·trivial
  |seq a b=>
   rw[quiet,du] at h;refine iY.hB (aH h.1 ad J) λr=>?_;obtain⟨x,bc,ag⟩:=r;cases x with
   |normal=>exact aH h.2 bc ag
   |_=>exact⟨_,rfl⟩
  |cond o a b=>
   rw[quiet,du] at h;show iY (match evalA env ad.bf o with|some (.b t)=>exec env G 0 aN (cond t a b) ad J|_=>none);split
   ·rename_i t _;cases t with
    |true=>exact aH h.1 ad J
    |false=>exact aH h.2 ad J
   ·trivial
  |block id a=>
   refine iY.hB (aH (show quiet gs a=true from h) ad J) λr=>?_;obtain⟨x,bc,ag⟩:=r;cases x with
   |exit j=>
    show iY (cond (Nat.beq j id) (some [(fN.normal,bc,ag)]) (some [(fN.exit j,bc,ag)]));cases Nat.beq j id<;>exact⟨_,rfl⟩
   |_=>exact⟨_,rfl⟩
  |loop a=>
   refine iY.hB (aH (show quiet gs a=true from h) ad J) λr=>?_;obtain⟨x,bc,ag⟩:=r;cases x with
   |normal=>exact aH (c:=.loop a) h bc ag
   |_=>exact⟨_,rfl⟩
  |scope a=>exact aH (show quiet gs a=true from h) ad J
  |rangeFunc _ _ _ _=>cases h
  |exit id=>exact⟨_,rfl⟩
  |ret=>exact⟨_,rfl⟩
  |bad=>cases h
theorem b3F{env:Env}{cd:aP}(r:fN×Fr×ae):iY (endF env 0 cd r):=by
 obtain⟨x,ad,J⟩:=r;cases x with
 |exit i=>trivial
 |_=>
  unfold endF;simp only[];split
  ·trivial
  ·exact⟨_,rfl⟩
  ·split
   ·exact⟨_,rfl⟩
   ·trivial
theorem uZ.call{env:Env}{gs:List Nat}(aX:uZ env gs):∀F,∀g∈gs,∀first cap args J,iY (callV env (exec env F) 0 (.f (.func g) first cap) args J):=by
 intro F
 induction F using Nat.strongRecOn with
 |ind F aH=>
  intro g hg first cap args J
  obtain⟨he,au⟩:=aX g hg;show iY (callF env (exec env F) 0 g (first++args++cap) J);unfold callF;rw[he];rcases au with au|⟨au,cd,body,hf,hb,b3G⟩
  ·show iY (cond (env.pure g) _ _);rw[au,cond_true]
   repeat' split
   all_goals first|trivial|exact⟨_,rfl⟩
  ·show iY (cond (env.pure g) _ _);rw[au,cond_false];unfold runF;rw[hf];show iY (match cd.body with|none=>none|some body=>_);rw[hb];show iY (cond _ _ none);cases(Nat.beq (first++args++cap).length cd.kr&&Nat.ble (first++args++cap).length cd.ntmps) with
   |false=>trivial
   |true=>exact iY.hB (quiet_code (λG de g hg args J=>aH G de g hg [] [] args J) F (br _) b3G _ _) b3F
theorem uZ.one{env:Env}{gs:List Nat}(aX:uZ env gs){g:Nat}(h:wv gs g=true):AB env g:=λF first cap args J=>aX.call F g (Az h) first cap args J
abbrev lP:=List (Nat×Nat×List AV)
def yq(N len:Nat)(HL:List ae)(q:Nat)(P:ae->Prop):Prop:=∃j s,q+len=N+j/\nth HL j=some s/\P s
theorem yq.up{N len q:Nat}{HL:List ae}{J:ae}{P:ae->Prop}(h:yq N len HL q P):yq N (len+1) (J::HL) q P:=by
 obtain⟨j,s,h1,h2,h3⟩:=h;exact⟨j+1,s,U,h2,h3⟩
def ev(env:Env)(D:List (Nat ⊕ (AV×List AV)))(n N:Nat)(cV:lP)(ops:List a3)(f:Nat->AV)(J:ae)(Q:ec):Prop:=
 ∀ad,iw D n f ad->∃fy bc b6 ag,iw D n b6 bc/\Q .normal b6 ag/\∀F,fy<=F->∃fe wn,(∃t,(ag::fe).reverse=J::t/\t.length=ops.length)∧
  (∀cO ws,jg env 0 (callV env (exec env F) 0) ops ad cO ws J=some (bc,fe++cO,wn++ws,ag))∧
  (∀p∈cV,yq N ops.length (ag::fe).reverse p.1 λs=>s.get p.2.1=some (.cells p.2.2))∧
  ∀w∈wn,∀q∈w.1.j_,yq N ops.length (ag::fe).reverse q λs=>∃v τ,opx 0 (evalA env w.2.1) s w.1.op=some (.val v τ)/\AV.eqb env.bt v w.2.2=true
section
variable {env:Env}{aN:Option Nat}{D:List (Nat ⊕ (AV×List AV))}{n N:Nat}{f:Nat->AV}{J:ae}{Q:ec}{cV:lP}
theorem ak.Ns{ops:List a3}(an:swapT ops=true)(h:ev env D n ops.length [] ops f J Q):bR env aN D n (.draw ops) f J Q:=λad bC=>by
 obtain⟨fy,bc,b6,ag,h2,h3,h1⟩:=h ad bC;refine⟨fy+1,[(.normal,bc,ag)],aG,λF b4=>?_,λo ho=>?_⟩
 ·obtain⟨k,rfl⟩:∃k,F=k+1:=⟨F-1,U⟩
  obtain⟨fe,wn,_,bm,_,eW⟩:=h1 k U;show exec env (k+1) 0 aN (bO.draw ops) ad J=_;rw[nU];show(match jg env 0 (callV env (exec env k) 0) ops ad [] [] J with
   |some (bc,cO,ws,ag)=>cond (ws.all (steady env 0 (ag::cO).reverse)&&swapOk env bc.bf ops) (some [(fN.normal,bc,ag)]) none
   |none=>none)=_
  rw[bm];show cond ((wn++[]).all (steady env 0 (ag::(fe++[])).reverse)&&swapOk env bc.bf ops) (some [(fN.normal,bc,ag)]) none=_;rw[iG,iG,Nh an,As];have:wn.all (steady env 0 (ag::fe).reverse)=true:=by
   rw[m4];intro w lh;unfold steady;refine jE λq aX=>?_;obtain⟨j,s,e,er,v,τ,dy,dV⟩:=eW w lh q aX;obtain rfl:q=j:=by omega
   rw[er];show(match sQ w.1.op 0 (evalA env w.2.1) s with|some (.val v _)=>AV.eqb env.bt v w.2.2|_=>false)=true;rw[x1,dy];exact dV
  rw[this];rfl
 ·rw[cu.1 ho];exact⟨b6,h2,h3⟩
theorem ev.one{o:a3}{ops:List a3}{f1:Nat->AV}{b2:ae}{n5:lP}{wl:a1 AV->List sR}(h:ev env D n N n5 ops f1 b2 Q)(b3H:∀p∈cV,p∈n5)
  (al:∀ad,iw D n f ad->∃eh fy,iw D n f1 eh/\(∀w∈wl ad.bf,∀q∈w.1.j_,∀st,(∀p∈n5,yq N ops.length st p.1 λs=>s.get p.2.1=some (.cells p.2.2))->st.length=ops.length+1->yq N ops.length st q λs=>∃v τ,opx 0 (evalA env w.2.1) s w.1.op=some (.val v τ)/\AV.eqb env.bt v w.2.2=true)∧
   ∀F,fy<=F->∀cO ws,jg env 0 (callV env (exec env F) 0) (o::ops) ad cO ws J=jg env 0 (callV env (exec env F) 0) ops eh (J::cO) (wl ad.bf++ws) b2):ev env D n N cV (o::ops) f J Q:=λad bC=>by
 obtain⟨eh,tl,Nn,hw,al⟩:=al ad bC;obtain⟨fy,bc,b6,ag,h2,h3,h1⟩:=h eh Nn;refine⟨max fy tl,bc,b6,ag,h2,h3,λF b4=>?_⟩;obtain⟨fe,wn,⟨t,bL,bQ⟩,cm,c7,dB⟩:=h1 F U;have e:(ag::(fe++[J])).reverse=J::(ag::fe).reverse:=by rw[<-Cg,We];rfl
 refine⟨fe++[J],wn++wl ad.bf,⟨(ag::fe).reverse,e,by rw[bL];simp[bQ]⟩,λcO ws=>by rw[al F U,cm,jA,jA];rfl,λp au=>?_,λw rY q aX=>?_⟩
 ·rw[e];exact(c7 p (b3H p au)).up
 ·rw[e];rcases eP.1 rY with rY|rY
  ·exact(dB w rY q aX).up
  ·exact(hw w rY q aX _ c7 (by rw[bL];simp[bQ])).up
theorem ev.val{d:Option Nat}{op:AOp}{g:Option (Nat×Bool)}{ops:List a3}{v:AV}{ag:ae}(hd:∀x,d=some x->Nat.blt x n=true)(hw:gN g n f=true)(ho:opx 0 (dv env n f) J op=some (.val v ag))(h:ev env D n N cV ops (match d with|some d=>dd f d v|none=>f) ag Q):
  ev env D n N cV (⟨d,op,g,[]⟩::ops) f J Q:=ev.one (wl:=λ_=>[]) h (λ_ h=>h) λad bC=>⟨ad.put d v,0,by
 cases d with
 |none=>exact bC
 |some d=>exact bC.put v (hd d I),λ_ h=>absurd h aG,λF _ cO ws=>by
  rw[runDraw_cons];show cond (wantedA g ad.bf) _ _=_;rw[bC.wanted,hw,cond_true,bC.ar,ho];rfl⟩
theorem ev.off{d:Nat}{op:AOp}{g:Option (Nat×Bool)}{wn:List Nat}{ops:List a3}(hd:Nat.blt d n=true)(hw:gN g n f=false)(h:ev env D n N cV ops (dd f d ea) J Q):ev env D n N cV (⟨some d,op,g,wn⟩::ops) f J Q:=
 ev.one (wl:=λ_=>[]) h (λ_ h=>h) λad bC=>⟨ad.put (some d) ea,0,bC.put _ hd,λ_ h=>absurd h aG,λF _ cO ws=>by
  rw[runDraw_cons];show cond (wantedA g ad.bf) _ _=_;rw[bC.wanted,hw,cond_false];rfl⟩
theorem ev.lQ{d:Nat}{op:AOp}{g:Option (Nat×Bool)}{wn:List Nat}{ops:List a3}{v:AV}{id:Nat}{c:List AV}(an:J.get id=some (.cells c))(hd:Nat.blt d n=true)(hw:gN g n f=true)(ho:∀s:ae,s.get id=some (.cells c)->opx 0 (dv env n f) s op=some (.val v s))(av:AV.eqb env.bt v v=true)
  (h:ev env D n N (wn.map (λq=>(q,id,c))++cV) ops (dd f d v) J Q):ev env D n N cV (⟨some d,op,g,wn⟩::ops) f J Q:=
 ev.one (wl:=λao=>match wn with|[]=>[]|_::_=>[(⟨some d,op,g,wn⟩,ao,v)]) h (λ_ h=>eP.2 (.inr h)) λad bC=>⟨ad.put (some d) v,0,bC.put v hd,λw rY q aX st cn _=>by
  cases wn with
  |nil=>simp at rY
  |cons a l=>
   rw[cu.1 rY] at aX ⊢;obtain⟨j,s,aR,a6,c0⟩:=cn (q,id,c) (eP.2 (.inl (dx.2 ⟨q,aX,rfl⟩)));exact⟨j,s,aR,a6,v,s,by show opx 0 (evalA env ad.bf) s op=_;rw[bC.ar];exact ho s c0,av⟩,λF _ cO ws=>by
  rw[runDraw_cons];show cond (wantedA g ad.bf) _ _=_;rw[bC.wanted,hw,cond_true,bC.ar,ho J an];cases wn<;>rfl⟩
theorem ev.rZ{d:Nat}{op:AOp}{g:Option (Nat×Bool)}{wn:List Nat}{ops:List a3}{v:AV}(lh:cP (λq=>Nat.ble N (q+ops.length)&&Nat.ble q N) wn=true)(hd:Nat.blt d n=true)(hw:gN g n f=true)(ho:∀s:ae,opx 0 (dv env n f) s op=some (.val v s))(av:AV.eqb env.bt v v=true)
  (h:ev env D n N cV ops (dd f d v) J Q):ev env D n N cV (⟨some d,op,g,wn⟩::ops) f J Q:=
 ev.one (wl:=λao=>match wn with|[]=>[]|_::_=>[(⟨some d,op,g,wn⟩,ao,v)]) h (λ_ h=>h) λad bC=>⟨ad.put (some d) v,0,bC.put v hd,λw rY q aX st cn hl=>by
  cases wn with
  |nil=>simp at rY
  |cons a l=>
   rw[cu.1 rY] at aX ⊢;have hb:=lg lh q aX;simp only[du] at hb;have h1:=gB hb.1;have h2:=gB hb.2;obtain⟨s,an⟩:∃s,nth st (q+ops.length-N)=some s:=⟨st[q+ops.length-N]'U,by rw[Cr,cK]⟩
   exact⟨q+ops.length-N,s,U,an,v,s,by show opx 0 (evalA env ad.bf) s op=_;rw[bC.ar];exact ho s,av⟩,λF _ cO ws=>by
  rw[runDraw_cons];show cond (wantedA g ad.bf) _ _=_;rw[bC.wanted,hw,cond_true,bC.ar,ho J];cases wn<;>rfl⟩
theorem ev.call{d:Option Nat}{op:AOp}{g:Option (Nat×Bool)}{ops:List a3}{aK:Nat}{first cap args:List AV}{R:et->ae->Prop}(hd:∀x,d=some x->Nat.blt x n=true)(hw:gN g n f=true)(ho:opx 0 (dv env n f) J op=some (.call (.f (.func aK) first cap) args))(h1:AB env aK)
  (ab:bH env 0 (.f (.func aK) first cap) args J R) (h:∀r ag,R r ag->∃v,r= .ok v/\ev env D n N cV ops (match d with|some d=>dd f d v|none=>f) ag Q):ev env D n N cV (⟨d,op,g,[]⟩::ops) f J Q:=by
 obtain⟨tl,l,hl,h2,h3⟩:=ab;have aR:=h1 tl first cap args J
 rw[show callV env (exec env tl) 0 (.f (.func aK) first cap) args J=some l from h2 tl (br _)] at aR;obtain⟨⟨r,b2⟩,rfl⟩:=aR;obtain⟨v,rfl,h⟩:=h r b2 (h3 (r,b2) (cu.2 I));refine ev.one (wl:=λ_=>[]) h (λ_ h=>h) λad bC=>⟨ad.put d v,tl,?_,λ_ h=>absurd h aG,λF b4 cO ws=>?_⟩
 ·cases d with
  |none=>exact bC
  |some d=>exact bC.put v (hd d I)
 ·rw[runDraw_cons];show cond (wantedA g ad.bf) _ _=_;rw[bC.wanted,hw,cond_true,bC.ar,ho];show(match callV env (exec env F) 0 (.f (.func aK) first cap) args J with|some [(.ok v,ag)]=>jg env 0 (callV env (exec env F) 0) ops (ad.put d v) (J::cO) ws ag|_=>none)=_;rw[show callV env (exec env F) 0 (.f (.func aK) first cap) args J=some [(.ok v,b2)] from h2 F b4];rfl
def AD(J:ae):List (Nat×Nat×List AV)->Prop
 |[]=>True
 |p::l=>J.get p.2.1=some (.cells p.2.2)/\AD J l
theorem AD.mem{J:ae}:∀ {l:List (Nat×Nat×List AV)},AD J l->∀p∈l,J.get p.2.1=some (.cells p.2.2)
 |_::_,h,p,au=>by
  rcases dF.1 au with rfl|au
  ·exact h.1
  ·exact h.2.mem p au
def Nt(N len:Nat)(cV:lP):lP:=cV.filter λp=>Nat.beq (p.1+len) N
def Wz(N len:Nat)(cV:lP):lP:=cV.filter λp=>!Nat.beq (p.1+len) N
theorem ev.now{ops:List a3}(l ct:lP)(h1:Nt N ops.length cV=l)(h2:Wz N ops.length cV=ct)(hh:AD J l)(h:ev env D n N ct ops f J Q):ev env D n N cV ops f J Q:=λad bC=>by
 obtain⟨fy,bc,b6,ag,bQ,cm,bL⟩:=h ad bC;refine⟨fy,bc,b6,ag,bQ,cm,λF b4=>?_⟩;obtain⟨fe,wn,⟨t,a2,bm⟩,cx,ep,eW⟩:=bL F b4;refine⟨fe,wn,⟨t,a2,bm⟩,cx,λp au=>?_,eW⟩;by_cases hb:Nat.beq (p.1+ops.length) N=true
 ·exact⟨0,J,by rw[fX hb];rfl,by rw[a2];rfl,hh.mem p (by rw[<-h1];exact nP.2 ⟨au,hb⟩)⟩
 ·exact ep p (by rw[<-h2];exact nP.2 ⟨au,by rw[Wf.2 hb];rfl⟩)
theorem ev.nil(hh:Nt N 0 cV=cV)(hl:AD J cV)(h:Q .normal f J):ev env D n N cV [] f J Q:=λad bC=>
 ⟨0,ad,f,J,bC,h,λF _=>⟨[],[],⟨[],rfl,rfl⟩,λ_ _=>rfl,λp au=>⟨0,J,by
  rw[<-hh] at au;exact fX (nP.1 au).2,rfl,hl.mem p au⟩,λ_ h=>absurd h aG⟩⟩
end
inductive lj where
 |pl
 |dz (N:Nat) (cV:lP)
def ch(cf:lj)(env:Env)(aN:Option Nat)(D:List (Nat ⊕ (AV×List AV)))(n:Nat)(ops:List a3)(f:Nat->AV)(J:ae)(Q:ec):Prop:=
 match cf with
 | .pl=>dC env aN D n ops f J Q
 | .dz N cV=>ev env D n N cV ops f J Q
structure Has(J:ae)(L:List (Nat×List AV)):Prop where
 get:∀p∈L,J.get p.1=some (.cells p.2)
 u0:L.Pairwise λa b=>a.1≠b.1
theorem Has.nil{J:ae}:Has J []:=⟨λ_ h=>absurd h aG,.nil⟩
theorem Has.aS{J τ:ae}{L:List (Nat×List AV)}(h:Has J L)(k:∀i o,J.get i=some o->τ.get i=some o):Has τ L:=⟨λp au=>k _ _ (h.get p au),h.u0⟩
theorem Has.lt{J:ae}{L:List (Nat×List AV)}(h:Has J L){p:Nat×List AV}(au:p∈L):p.1<J.next:=ae.bE (h.get p au)
theorem Has.cons{J:ae}{L:List (Nat×List AV)}{k:Nat}{c:List AV}(h:Has J L)(ay:J.get k=some (.cells c))(hn:∀p∈L,p.1≠k):Has J ((k,c)::L):=⟨λp au=>by
 rcases dF.1 au with rfl|au
 ·exact ay
 ·exact h.get p au,List.pairwise_cons.2 ⟨λp au e=>hn p au e.symm,h.u0⟩⟩
theorem Has.push{J τ:ae}{L:List (Nat×List AV)}{k:Nat}{c:List AV}(h:Has J L)(hn:J.next=k)(ay:τ.get k=some (.cells c))(dk:∀i o,J.get i=some o->τ.get i=some o):Has τ ((k,c)::L):=
 (h.aS dk).cons ay λp au=>by have:=h.lt au;omega
theorem Has.set{J τ:ae}{L:List (Nat×List AV)}{id:Nat}{c bX:List AV}(h:Has J L)(j:Nat)(aC:L[j]? =some (id,c))(ay:τ.get id=some (.cells bX))(dk:∀i o,i≠id->J.get i=some o->τ.get i=some o):Has τ (L.set j (id,bX)):=by
 obtain⟨hlt,he⟩:=fC.1 aC;have a5:∀i (hi:i<L.length),i≠j->(L[i]).1≠id:=λi hi g5=>by
  have au:=Hl.1 h.u0;have e:(L[j]).1=id:=by rw[he]
  rcases nC i j with h1|h1
  ·rw[<-e];exact au i j hi hlt h1
  ·rw[<-e];exact λdS=>au j i hlt hi U dS.symm
 refine⟨λp au=>?_,Hl.2 λa b ha hb HM=>?_⟩
 ·obtain⟨i,hi,rfl⟩:=jw au;rw[mo] at hi;rw[ui];split
  ·exact ay
  ·exact dk _ _ (a5 i hi U) (h.get _ (bJ hi))
 ·rw[mo] at ha hb;rw[ui,ui];split<;>split
  ·omega
  ·rename_i e _;exact λdS=>a5 b hb U dS.symm
  ·exact a5 a ha U
  ·exact Hl.1 h.u0 a b ha hb HM
theorem Has.erase{J τ:ae}{L:List (Nat×List AV)}(h:Has J L)(j:Nat){p:Nat×List AV}(aC:L[j]? =some p)(dk:∀i o,i≠p.1->J.get i=some o->τ.get i=some o):Has τ (L.eraseIdx j):=by
 obtain⟨hlt,he⟩:=fC.1 aC;refine⟨λq aX=>?_,h.u0.sublist (List.eraseIdx_sublist _ _)⟩;obtain⟨i,g5,hi⟩:=List.mem_eraseIdx_iff_getElem?.1 aX;obtain⟨vS,rfl⟩:=fC.1 hi;refine dk _ _ ?_ (h.get _ (bJ vS));have au:=Hl.1 h.u0;rw[<-he];rcases nC i j with h1|h1
 ·exact au i j vS hlt h1
 ·exact λdS=>au j i hlt vS U dS.symm
def ts:List (Nat×AV)->Nat->Option AV
 |[],_=>none
 |(j,v)::L,i=>cond (Nat.beq i j) (some v) (ts L i)
def db(env:Env)(n:Nat)(L:List (Nat×AV))(g:Nat->AV):aI->Option AV
 | .t i=>cond (Nat.blt i n) (match ts L i with|some v=>some v|none=>some (g i)) none
 | .c v=>some v
 | .g j=>match env.mr j with|some v=>some (.dG true v)|none=>none
theorem HO{g:Nat->AV}:∀ {L:List (Nat×AV)} (i:Nat),bx L g i=(match ts L i with|some v=>v|none=>g i)
 |[],i=>rfl
 |(j,v)::L,i=>by
  show cond (Nat.beq i j) v (bx L g i)=(match cond (Nat.beq i j) (some v) (ts L i) with|some v=>v|none=>g i);cases Nat.beq i j with
  |true=>rfl
  |false=>exact HO i
theorem oM(env:Env)(n:Nat)(L:List (Nat×AV))(g:Nat->AV):dv env n (bx L g)=db env n L g:=by
 funext x
 cases x with
 |t i=>
  show cond (Nat.blt i n) (some (bx L g i)) none=cond (Nat.blt i n) (match ts L i with|some v=>some v|none=>some (g i)) none;rw[HO];cases ts L i<;>rfl
 |c v=>rfl
 |g j=>rfl
def wtL(q:Option (Nat×Bool))(n:Nat)(L:List (Nat×AV)):Bool:=
 match q with
 |none=>true
 |some (d,w)=>cond (Nat.blt d n) (match ts L d with|some (.b x)=>x==w|_=>false) false
def offL(q:Option (Nat×Bool))(n:Nat)(L:List (Nat×AV)):Bool:=
 match q with
 |none=>false
 |some (d,w)=>cond (Nat.blt d n) (match ts L d with|some (.b x)=>!(x==w)|some _=>true|none=>false) false
theorem qM{q:Option (Nat×Bool)}{n:Nat}{L:List (Nat×AV)}{g:Nat->AV}(h:wtL q n L=true):gN q n (bx L g)=true:=by
 cases q with
 |none=>rfl
 |some p=>
  obtain⟨d,w⟩:=p;have h:cond (Nat.blt d n) (match ts L d with|some (.b x)=>x==w|_=>false) false=true:=h;show cond (Nat.blt d n) (match bx L g d with| .b x=>x==w|_=>false) false=true;cases hb:Nat.blt d n with
  |false=>rw[hb] at h;cases h
  |true=>
   rw[hb,cond_true] at h;rw[cond_true,HO];split at h
   ·rename_i hl;rw[hl];exact h
   ·cases h
theorem WA{q:Option (Nat×Bool)}{n:Nat}{L:List (Nat×AV)}{g:Nat->AV}(h:offL q n L=true):gN q n (bx L g)=false:=by
 cases q with
 |none=>cases h
 |some p=>
  obtain⟨d,w⟩:=p;have h:cond (Nat.blt d n) (match ts L d with|some (.b x)=>!(x==w)|some _=>true|none=>false) false=true:=h;show cond (Nat.blt d n) (match bx L g d with| .b x=>x==w|_=>false) false=false;cases hb:Nat.blt d n with
  |false=>rw[hb] at h;cases h
  |true=>
   rw[hb,cond_true] at h;rw[cond_true,HO];split at h
   ·rename_i hl;rw[hl];simpa using h
   ·rename_i x hx hl;rw[hl];clear hl;cases x with
    |b y=>exact absurd I (hx y)
    |_=>rfl
   ·cases h
namespace W
section
variable {env:Env}{aN:Option Nat}{D:List (Nat ⊕ (AV×List AV))}{n:Nat}{F:List (Nat×AV)}{z:Nat->AV}{J:ae}{Q:ec}
theorem sq{a b:bO}(h:bR env aN D n a (bx F z) J (λx f J=>match x with| .normal=>bR env aN D n b f J Q|x=>Q x f J)):bR env aN D n (.seq a b) (bx F z) J Q:=ak.seq h
theorem DI(h:Q .normal (bx F z) J):bR env aN D n .skip (bx F z) J Q:=ak.skip h
theorem mL{o:aI}{a b:bO}(ho:db env n F z o=some (.b true))(h:bR env aN D n a (bx F z) J Q):bR env aN D n (.cond o a b) (bx F z) J Q:=ak.iW (t:=true) (by rw[oM];exact ho) (λ_=>h) λh=>by cases h
theorem mM{o:aI}{a b:bO}(ho:db env n F z o=some (.b false))(h:bR env aN D n b (bx F z) J Q):bR env aN D n (.cond o a b) (bx F z) J Q:=ak.iW (t:=false) (by rw[oM];exact ho) (λh=>by cases h) λ_=>h
end
section
variable {cf:lj}{env:Env}{aN:Option Nat}{D:List (Nat ⊕ (AV×List AV))}{n:Nat}{F:List (Nat×AV)}{z:Nat->AV}{J:ae}{Q:ec}
theorem rg{ops:List a3}(h:ch .pl env aN D n ops (bx F z) J Q):bR env aN D n (.region ops) (bx F z) J Q:=ak.region h
theorem b3I{ops:List a3}(an:swapT ops=true)(h:ch (.dz ops.length []) env aN D n ops (bx F z) J Q):bR env aN D n (.draw ops) (bx F z) J Q:=ak.Ns an h
theorem nil(h:Q .normal (bx F z) J):ch .pl env aN D n [] (bx F z) J Q:=aJ.nil h
theorem AE{N:Nat}(h:Q .normal (bx F z) J):ch (.dz N []) env aN D n [] (bx F z) J Q:=ev.nil I trivial h
theorem now{N:Nat}{cV:lP}{ops:List a3}(l ct:lP)(h1:Nt N ops.length cV=l)(h2:Wz N ops.length cV=ct)(hh:AD J l)(h:ch (.dz N ct) env aN D n ops (bx F z) J Q):ch (.dz N cV) env aN D n ops (bx F z) J Q:=ev.now l ct h1 h2 hh h
theorem val{d:Nat}{op:AOp}{g:Option (Nat×Bool)}{ops:List a3}{v:AV}{ag:ae}(hd:Nat.blt d n=true)(hw:wtL g n F=true)(ho:opx 0 (db env n F z) J op=some (.val v ag))(h:ch cf env aN D n ops (bx ((d,v)::F) z) ag Q):ch cf env aN D n (⟨some d,op,g,[]⟩::ops) (bx F z) J Q:=by
 cases cf with
 |pl=>exact aJ.val hd (qM hw) (by rw[oM];exact ho) h
 |dz N cV=>exact ev.val (λx e=>by cases e;exact hd) (qM hw) (by rw[oM];exact ho) h
theorem wc{op:AOp}{g:Option (Nat×Bool)}{ops:List a3}{v:AV}{ag:ae}(hw:wtL g n F=true)(ho:opx 0 (db env n F z) J op=some (.val v ag))(h:ch cf env aN D n ops (bx F z) ag Q):ch cf env aN D n (⟨none,op,g,[]⟩::ops) (bx F z) J Q:=by
 cases cf with
 |pl=>exact aJ.wc (qM hw) (by rw[oM];exact ho) h
 |dz N cV=>exact ev.val (λx e=>by cases e) (qM hw) (by rw[oM];exact ho) h
theorem off{d:Nat}{op:AOp}{g:Option (Nat×Bool)}{wn:List Nat}{ops:List a3}(hd:Nat.blt d n=true)(hw:offL g n F=true)(h:ch cf env aN D n ops (bx ((d,ea)::F) z) J Q):ch cf env aN D n (⟨some d,op,g,wn⟩::ops) (bx F z) J Q:=by
 cases cf with
 |pl=>exact aJ.off hd (WA hw) h
 |dz N cV=>exact ev.off hd (WA hw) h
def b3J:AOp->Bool
 | .bh _=>true| .pick _ _ _=>true| .build _ _=>true| .nilCheck _=>true| .zv _ _ _=>true| .j8 _ _ _ _=>true| .not _=>true| .fM _ _ _=>true| .FY _ _=>true
 | .m5 _ _ _ _ _=>true| .vH _ _ _ _ _=>true| .iN _ _ _=>true| .fieldAddr _ _ _=>true| .field _ _ _=>true| .rl _ _ _ _=>true| .bj _ _ _=>true| .extract _ _=>true| .F0 _=>true
 |_=>false
theorem go{d:Nat}{op:AOp}{g:Option (Nat×Bool)}{ops:List a3}{v:AV}{ag:ae}(_hb:b3J op=true)(hd:Nat.blt d n=true)(hw:wtL g n F=true)(ho:opx 0 (db env n F z) J op=some (.val v ag))(h:ch cf env aN D n ops (bx ((d,v)::F) z) ag Q):ch cf env aN D n (⟨some d,op,g,[]⟩::ops) (bx F z) J Q:=val hd hw ho h
theorem bin{d:Nat}{op:BinOp}{x y:aI}{g:Option (Nat×Bool)}{ops:List a3}{a b v:AV}(hd:Nat.blt d n=true)(hw:wtL g n F=true)(h1:db env n F z x=some a)(h2:db env n F z y=some b)(h3:binop op a b=some v)(h:ch cf env aN D n ops (bx ((d,v)::F) z) J Q):ch cf env aN D n (⟨some d,.bin op x y,g,[]⟩::ops) (bx F z) J Q:=val hd hw (DA a b v h1 h2 h3) h
def cmpP(op:BinOp)(a b:Nat):Prop:=
 match op with
 | .eql=>a=b
 | .neq=>¬a=b
 | .lss=>a<b
 | .leq=>a<=b
 | .gtr=>b<a
 | .geq=>b<=a
 |_=>False
def WB:BinOp->Bool
 | .eql=>true
 | .neq=>true
 | .lss=>true
 | .leq=>true
 | .gtr=>true
 | .geq=>true
 |_=>false
theorem b3K{op:BinOp}{a b:Nat}(h:cmpP op a b):cmpO op a b=some (.b true):=by
 cases op<;>first
  |(have h:_:=h;simp only[cmpP] at h;simp only[cmpO,decide_eq_true h];done)
  |(have h:_:=h;simp only[cmpP] at h;simp only[cmpO,decide_eq_false h,Bool.not_false];done)
  |exact h.elim
theorem b3L{op:BinOp}{a b:Nat}(ab:WB op=true)(h:¬cmpP op a b):cmpO op a b=some (.b false):=by
 cases op<;>first
  |(simp only[cmpP] at h;simp only[cmpO,decide_eq_false h];done)
  |(simp only[cmpP,Decidable.not_not] at h;simp only[cmpO,decide_eq_true h,Mc];done)
  |cases ab
theorem DJ{d:Nat}{op:BinOp}{x y:aI}{g:Option (Nat×Bool)}{ops:List a3}{k:IntKind}{a b:Nat}(hd:Nat.blt d n=true)(hw:wtL g n F=true)(h1:db env n F z x=some (.i k (Int.ofNat a)))(h2:db env n F z y=some (.i k (Int.ofNat b)))(h3:cmpP op a b)(h:ch cf env aN D n ops (bx ((d,.b true)::F) z) J Q):ch cf env aN D n (⟨some d,.bin op x y,g,[]⟩::ops) (bx F z) J Q:=bin hd hw h1 h2 (oK (b3K h3)) h
theorem eT{d:Nat}{op:BinOp}{x y:aI}{g:Option (Nat×Bool)}{ops:List a3}{k:IntKind}{a b:Nat}(hd:Nat.blt d n=true)(hw:wtL g n F=true)(ab:WB op=true)(h1:db env n F z x=some (.i k (Int.ofNat a)))(h2:db env n F z y=some (.i k (Int.ofNat b)))(h3:¬cmpP op a b)(h:ch cf env aN D n ops (bx ((d,.b false)::F) z) J Q):ch cf env aN D n (⟨some d,.bin op x y,g,[]⟩::ops) (bx F z) J Q:=bin hd hw h1 h2 (oK (b3L ab h3)) h
theorem WC{d:Nat}{op:BinOp}{x y:aI}{g:Option (Nat×Bool)}{ops:List a3}{k:IntKind}{a b:Nat}{v:AV}(hd:Nat.blt d n=true)(hw:wtL g n F=true)(h1:db env n F z x=some (.i k (Int.ofNat a)))(h2:db env n F z y=some (.i k (Int.ofNat b)))(h3:cmpO op a b=some v)(h:ch cf env aN D n ops (bx ((d,v)::F) z) J Q):ch cf env aN D n (⟨some d,.bin op x y,g,[]⟩::ops) (bx F z) J Q:=bin hd hw h1 h2 (oK h3) h
theorem len{d k m:Nat}{x:aI}{g:Option (Nat×Bool)}{ops:List a3}{v:AV}(hd:Nat.blt d n=true)(hw:wtL g n F=true)(h1:db env n F z x=some v)(h2:lenA J k v=some m)(h:ch cf env aN D n ops (bx ((d,ai m)::F) z) J Q):ch cf env aN D n (⟨some d,.len k x,g,[]⟩::ops) (bx F z) J Q:=val hd hw (wo h1 h2) h
theorem eG{d:Nat}{aa:Option Nat}{x i:aI}{g:Option (Nat×Bool)}{ops:List a3}{k:IntKind}{a v:AV}{j:Nat}(hd:Nat.blt d n=true)(hw:wtL g n F=true)(h1:db env n F z x=some a)(h2:db env n F z i=some (.i k (Int.ofNat j)))(h3:idxSlA aa a j=some v)(h:ch cf env aN D n ops (bx ((d,v)::F) z) J Q):ch cf env aN D n (⟨some d,.bj aa x i,g,[]⟩::ops) (bx F z) J Q:=val hd hw (Hm k a j v h1 h2 h3) h
theorem Hp{d:Nat}{aa:Option Nat}{x:aI}{g:Option (Nat×Bool)}{ops:List a3}{o:Bool}{v:AV}(hd:Nat.blt d n=true)(hw:wtL g n F=true)(h1:db env n F z x=some (.dG o v))(h2:conf aa v=true)(h:ch cf env aN D n ops (bx ((d,v)::F) z) J Q):ch cf env aN D n (⟨some d,.load aa x,g,[]⟩::ops) (bx F z) J Q:=val hd hw (n4 _ _ h1 (by show(if conf aa v then some v else none)=_;rw[if_pos h2])) h
theorem az{L:List (Nat×List AV)}(H:Has J L){d:Nat}{aa:Option Nat}{x:aI}{g:Option (Nat×Bool)}{ops:List a3}{id off:Nat}{c:List AV}{v:AV}(hd:Nat.blt d n=true)(hw:wtL g n F=true)(h1:db env n F z x=some (.p (some (id,off))))(hm:(id,c)∈L)(h2:dU aa (c.drop off)=some v)(h:ch cf env aN D n ops (bx ((d,v)::F) z) J Q):ch cf env aN D n (⟨some d,.load aa x,g,[]⟩::ops) (bx F z) J Q:=val hd hw (n4 _ _ h1 (uV (H.get _ hm) h2)) h
theorem lQ{N:Nat}{cV:lP}{L:List (Nat×List AV)}(H:Has J L){d:Nat}{aa:Option Nat}{x:aI}{g:Option (Nat×Bool)}{wn:List Nat}{ops:List a3}{id off:Nat}{c:List AV}{v:AV}(hd:Nat.blt d n=true)(hw:wtL g n F=true)(h1:db env n F z x=some (.p (some (id,off))))(hm:(id,c)∈L)(h2:dU aa (c.drop off)=some v)(av:AV.eqb env.bt v v=true)
  (h:ch (.dz N (wn.map (λq=>(q,id,c))++cV)) env aN D n ops (bx ((d,v)::F) z) J Q):ch (.dz N cV) env aN D n (⟨some d,.load aa x,g,wn⟩::ops) (bx F z) J Q:=ev.lQ (H.get _ hm) hd (qM hw) (λs an=>by rw[oM];exact n4 _ _ h1 (uV an h2)) av h
theorem rZ{N:Nat}{cV:lP}{d:Nat}{op:AOp}{g:Option (Nat×Bool)}{wn:List Nat}{ops:List a3}{v:AV}(lh:cP (λq=>Nat.ble N (q+ops.length)&&Nat.ble q N) wn=true)(hd:Nat.blt d n=true)(hw:wtL g n F=true)(ho:∀s:ae,opx 0 (db env n F z) s op=some (.val v s))(av:AV.eqb env.bt v v=true)(h:ch (.dz N cV) env aN D n ops (bx ((d,v)::F) z) J Q):ch (.dz N cV) env aN D n (⟨some d,op,g,wn⟩::ops) (bx F z) J Q:=ev.rZ lh hd (qM hw) (λs=>by rw[oM];exact ho s) av h
theorem cB{L:List (Nat×List AV)}(H:Has J L){d:Nat}{v:AV}{g:Option (Nat×Bool)}{ops:List a3}{c:List AV}{k:Nat}(hn:J.next=k)(hd:Nat.blt d n=true)(hw:wtL g n F=true)(ab:v.cells=c)(h:∀τ:ae,τ.next=k+1->Has τ ((k,c)::L)->(∀i o,J.get i=some o->τ.get i=some o)->ch cf env aN D n ops (bx ((d,.p (some (k,0)))::F) z) τ Q):ch cf env aN D n (⟨some d,.alloc v,g,[]⟩::ops) (bx F z) J Q:=by
 subst hn;have dk:∀i o,J.get i=some o->(J.push (.cells c)).get i=some o:=λi o ho=>by rw[ae.gw trivial _ (ae.bE ho)];exact ho
 refine val (v:=jN J.next 0) (ag:=J.push (.cells c)) hd hw (by rw[<-ab];rfl) (h (J.push (.cells c)) I (H.push I (ae.jP _) dk) dk)
theorem cM{L:List (Nat×List AV)}(H:Has J L){d:Nat}{x:aI}{v:AV}{g:Option (Nat×Bool)}{ops:List a3}{c:List AV}{k:Nat}(hn:J.next=k)(hd:Nat.blt d n=true)(hw:wtL g n F=true)(av:db env n F z x=some v)(hval:v.val=true)(ab:v.cells=c)(h:∀τ:ae,τ.next=k+1->Has τ ((k,c)::L)->(∀i o,J.get i=some o->τ.get i=some o)->ch cf env aN D n ops (bx ((d,.p (some (k,0)))::F) z) τ Q):ch cf env aN D n (⟨some d,.box x,g,[]⟩::ops) (bx F z) J Q:=by
 subst hn;have dk:∀i o,J.get i=some o->(J.push (.cells c)).get i=some o:=λi o ho=>by rw[ae.gw trivial _ (ae.bE ho)];exact ho
 refine val (v:=jN J.next 0) (ag:=J.push (.cells c)) hd hw ?_ (h (J.push (.cells c)) I (H.push I (ae.jP _) dk) dk);show(match db env n F z x with|some v=>cond v.val (some (bV.val (jN J.next 0) (J.push (.cells v.cells)))) none|none=>none)=_;rw[av];show cond v.val _ _=_;rw[hval,cond_true,ab]
theorem st{L:List (Nat×List AV)}(H:Has J L)(j:Nat){aa:Option Nat}{a x:aI}{g:Option (Nat×Bool)}{ops:List a3}{id off:Nat}{v:AV}{c bX:List AV}(hw:wtL g n F=true)(h1:db env n F z a=some (.p (some (id,off))))(aC:L[j]? =some (id,c))(h2:db env n F z x=some v)(iu:conf aa v=true)(ab:storeCells c off v.cells=some bX)
  (h:∀τ:ae,τ.next=J.next->Has τ (L.set j (id,bX))->(∀i o,i≠id->J.get i=some o->τ.get i=some o)->ch cf env aN D n ops (bx F z) τ Q):ch cf env aN D n (⟨none,.store aa a x,g,[]⟩::ops) (bx F z) J Q:=by
 have an:=H.get _ (hH aC);exact wc hw (Wo an h1 h2 iu ab) (h _ I (H.set j aC (jF an).1 (jF an).2) (jF an).2)
theorem lk{L:List (Nat×List AV)}(H:Has J L){d:Nat}{v0 v:AV}{aa:Option Nat}{x:aI}{ops:List a3}{c:List AV}{k:Nat}(hn:J.next=k)(hd:Nat.blt d n=true)(hx:db env n ((d,.p (some (k,0)))::F) z x=some v)(iu:conf aa v=true)(ab:v.cells=c)(hl:c.length=v0.cells.length)(h1:Nat.beq d d=true)
  (h:∀τ:ae,τ.next=k+1->Has τ ((k,c)::L)->(∀i o,J.get i=some o->τ.get i=some o)->ch cf env aN D n ops (bx ((d,.p (some (k,0)))::F) z) τ Q):ch cf env aN D n (⟨some d,.alloc v0,none,[]⟩::⟨none,.store aa (.t d) x,none,[]⟩::ops) (bx F z) J Q:=by
 refine cB H hn hd I I λτ a2 bm cx=>?_;have aR:db env n ((d,.p (some (k,0)))::F) z (.t d)=some (.p (some (k,0))):=by
  show cond (Nat.blt d n) (match cond (Nat.beq d d) (some _) _ with|some v=>some v|none=>some (z d)) none=_;rw[hd,h1];rfl
 refine st bm 0 I aR I hx iu (by rw[ab];exact storeAll hl) λbl er dy dV=>h bl (er.trans a2) dy λi o ho=>dV i o ?_ (cx i o ho);have:=ae.bE ho;omega
theorem ga{b:b5}{K:Nat->List AV->AV->Prop}{d:Nat}{op:AOp}{g:Option (Nat×Bool)}{ops:List a3}{fn:Nat}{args aY:List AV}{r:AV}(hf:∀g aY r cc,K g aY r->K g aY cc->r=cc)(e:b.ext fn=0/\b.pure fn=true)(cU:K fn aY r)
  (hd:Nat.blt d n=true) (hw:wtL g n F=true) (ho:opx 0 (db (b.aV K) n F z) J op=some (.call (.f (.func fn) [] []) args)) (ha:mapO (bT J (b.bt+1000)) args=some aY) (h:ch cf (b.aV K) aN D n ops (bx ((d,r)::F) z) J Q):ch cf (b.aV K) aN D n (⟨some d,op,g,[]⟩::ops) (bx F z) J Q:=by
 cases cf with
 |pl=>exact aJ.known hf e.1 e.2 cU hd (qM hw) (by rw[oM];exact ho) ha h
 |dz N cV=>
  refine ev.call (R:=λx τ=>x= .ok r/\τ=J) (λx e=>by cases e;exact hd) (qM hw) (by rw[oM];exact ho) ?_ (bH.spec e.1 e.2 (by rw[vW,iG];exact ha) (Nf hf cU) ⟨rfl,rfl⟩) λcc τ ⟨aR,a6⟩=>⟨_,aR,by subst a6;exact h⟩
  intro F first cap args J
  show iY (callF (b.aV K) (exec (b.aV K) F) 0 fn (first++args++cap) J);unfold callF;rw[show(b.aV K).ext fn=0 from e.1];show iY (cond ((b.aV K).pure fn) _ _);rw[show(b.aV K).pure fn=true from e.2,cond_true]
  repeat' split
  all_goals first|trivial|exact⟨_,rfl⟩
def b3M(cf:lj)(env:Env)(g:Nat):Prop:=match cf with| .pl=>True| .dz _ _=>AB env g
theorem aq{d:Nat}{op:AOp}{g:Option (Nat×Bool)}{ops:List a3}{aK:Nat}{first cap args:List AV}{R:et->ae->Prop}(h1:b3M cf env aK)(hd:Nat.blt d n=true)(hw:wtL g n F=true)(ho:opx 0 (db env n F z) J op=some (.call (.f (.func aK) first cap) args))
  (ab:bH env 0 (.f (.func aK) first cap) args J R) (h:∀r τ,R r τ->∃v,r= .ok v/\ch cf env aN D n ops (bx ((d,v)::F) z) τ Q):ch cf env aN D n (⟨some d,op,g,[]⟩::ops) (bx F z) J Q:=by
 cases cf with
 |pl=>exact aJ.iX hd (qM hw) (by rw[oM];exact ho) ab h
 |dz N cV=>exact ev.call (λx e=>by cases e;exact hd) (qM hw) (by rw[oM];exact ho) h1 ab h
end
section
variable {cf:lj}{env:Env}{aN:Option Nat}{D:List (Nat ⊕ (AV×List AV))}{n:Nat}{f:Nat->AV}{J:ae}{Q:ec}{d:Option Nat}{g:Option (Nat×Bool)}{wn:List Nat}{ops:List a3}
theorem HP{aa:Option Nat}{x:aI}(h:ch cf env aN D n (⟨d,.load aa x,g,[]⟩::ops) f J Q):ch cf env aN D n (⟨d,.load aa x,g,[]⟩::ops) f J Q:=h
theorem Nu{aa:Option Nat}{x:aI}{a:Nat}{l:List Nat}(h:ch cf env aN D n (⟨d,.load aa x,g,a::l⟩::ops) f J Q):ch cf env aN D n (⟨d,.load aa x,g,a::l⟩::ops) f J Q:=h
theorem HQ{op:BinOp}{x y:aI}(h:ch cf env aN D n (⟨d,.bin op x y,g,wn⟩::ops) f J Q):ch cf env aN D n (⟨d,.bin op x y,g,wn⟩::ops) f J Q:=h
theorem HR{aa:Option Nat}{x y:aI}(h:ch cf env aN D n (⟨d,.bj aa x y,g,wn⟩::ops) f J Q):ch cf env aN D n (⟨d,.bj aa x y,g,wn⟩::ops) f J Q:=h
theorem HS{k:Nat}{x:aI}(h:ch cf env aN D n (⟨d,.len k x,g,wn⟩::ops) f J Q):ch cf env aN D n (⟨d,.len k x,g,wn⟩::ops) f J Q:=h
end
theorem lt{cf:lj}{env:Env}{aN:Option Nat}{D:List (Nat ⊕ (AV×List AV))}{n:Nat}{F:List (Nat×AV)}{z:Nat->AV}{J:ae}{Q:ec}{d:Nat}{aa:Option Nat}{x:aI}{g:Option (Nat×Bool)}{ops:List a3}{o:Bool}{v:AV}(hd:Nat.blt d n=true)(hw:wtL g n F=true)(h1:db env n F z x=some (.dG o v))(h2:conf aa v=true)(h:ch cf env aN D n ops (bx ((d,v)::F) z) J Q):ch cf env aN D n (⟨some d,.load aa x,g,[]⟩::ops) (bx F z) J Q:=Hp hd hw h1 h2 h
def r0:Nat->List AV->List (Nat×AV)
 |_,[]=>[]
 |i,a::l=>(i,a)::r0 (i+1) l
theorem HT{f:Nat->AV}:∀(l:List AV) (i:Nat),(∀j a,l[j]? =some a->f (i+j)=a)->sat (r0 i l) f
 |[],_,_=>trivial
 |a::l,i,h=>⟨h 0 a I,HT l (i+1) λj cL e=>by have:=h (j+1) cL e;rwa[show i+(j+1)=i+1+j from by omega] at this⟩
theorem args{env:Env}{aN:Option Nat}{D:List (Nat ⊕ (AV×List AV))}{n:Nat}{c:bO}{as:List AV}{J:ae}{Q:ec}(h:∀z,bR env aN D n c (bx (r0 0 as) z) J Q):bR env aN D n c (gO as) J Q:=
 ak.norm (r0 0 as) (HT as 0 λj a e=>by show as.getD (0+j) ea=a;rw[qw,fO,e];rfl) h
theorem code{env:Env}{J:ae}{fn:Nat}{cd:aP}{body:bO}{dz:Nat}{first cap args:List AV}{R:et->ae->Prop}(e:env.ext fn=0)(au:env.pure fn=false)(hf:env.funcs fn=some cd)(hb:cd.body=some body)
  (hn:(Nat.beq (first++args++cap).length cd.kr&&Nat.ble (first++args++cap).length cd.ntmps)=true) (dh:cd.results=[(dz,none)]) (qJ:Nat.blt dz cd.ntmps=true)
  (h:∀z,bR env none [] cd.ntmps body (bx (r0 0 (first++args++cap)) z) J (λx b6 ag=>x= .ret/\R (.ok (b6 dz)) ag)):bH env 0 (.f (.func fn) first cap) args J R:=bH.code e au hf hb hn dh qJ (W.args h)
theorem pM{env:Env}{J:ae}{fn:Nat}{cd:aP}{body:bO}{first cap args:List AV}{R:et->ae->Prop}(e:env.ext fn=0)(au:env.pure fn=false)(hf:env.funcs fn=some cd)(hb:cd.body=some body)
  (hn:(Nat.beq (first++args++cap).length cd.kr&&Nat.ble (first++args++cap).length cd.ntmps)=true) (dh:cd.results=[])
  (h:∀z,bR env none [] cd.ntmps body (bx (r0 0 (first++args++cap)) z) J (λx _ ag=>(x= .ret\/x= .normal)/\R (.ok (.a9 [])) ag)):bH env 0 (.f (.func fn) first cap) args J R:=bH.pM e au hf hb hn dh (W.args h)
end W
def AV.lf:AV->Bool
 | .b _=>true| .i _ _=>true| .s _=>true| .p _=>true| .ao _ _ _ _ _=>true| .af=>true| .m _=>true| .d_=>true| .fJ=>true| .y _=>true| .gi _ _=>true
 |_=>false
theorem e1{n:Nat}{v:AV}(h:v.lf=true):AV.eqb (n+1) v v=true:=by
 cases v with
 |b x=>show(x==x)=true;simp
 |i k x=>show(decide (k=k)&&decide (x=x))=true;simp
 |s l=>exact Ho l
 |p a=>cases a with
  |none=>rfl
  |some a=>show(Nat.beq a.1 a.1&&Nat.beq a.2 a.2)=true;simp
 |ao a b c d e=>show(Nat.beq a a&&Nat.beq b b&&Nat.beq c c&&decide (d=d)&&decide (e=e))=true;simp
 |af=>rfl
 |m r=>cases r with
  |none=>rfl
  |some r=>show Nat.beq r r=true;simp
 |d_=>rfl
 |fJ=>rfl
 |y i=>show Nat.beq i i=true;simp
 |gi o i=>show((o==o)&&Nat.beq i i)=true;simp
 |_=>cases h
theorem HU{n:Nat}{l:List AV}(h:cP AV.lf l=true):AV.eqb (n+2) (.ah l) (.ah l)=true:=pH λx hx=>e1 (lg h x hx)
theorem kh.jM{env:Env}{floor:Nat}{dQ:Bool}{o:a3}{ops:List a3}{ad:Fr}{J:ae}{Q:rU}{l:List (AV×ae)}(hw:wantedA o.guard ad.bf=true)(ho:opx floor (evalA env ad.bf) J o.op=some (.jM l))(hl:l≠[])
  (h:∀p∈l,kh env floor dQ ops (ad.put o.dst p.1) p.2 Q):kh env floor dQ (o::ops) ad J Q:=by
 have:=dp.flat (g:=λ(p:AV×ae) F=>runOps env floor (callV env (exec env F) floor) dQ ops (ad.put o.dst p.1) p.2) (Q:=λ(o:fN×Fr×ae)=>Q o.1 o.2.1 o.2.2) l hl h;refine dp.congr this λF=>?_;rw[x2,hw,cond_true,ho]
section
variable {env:Env}{aN:Option Nat}{D:List (Nat ⊕ (AV×List AV))}{n:Nat}{f:Nat->AV}{J:ae}{Q:ec}
theorem aJ.jM{d:Nat}{op:AOp}{g:Option (Nat×Bool)}{wn:List Nat}{ops:List a3}{l:List (AV×ae)}(hd:Nat.blt d n=true)(hw:gN g n f=true)(ho:opx 0 (dv env n f) J op=some (.jM l))(hl:l≠[])
  (h:∀p∈l,dC env aN D n ops (dd f d p.1) p.2 Q):dC env aN D n (⟨some d,op,g,wn⟩::ops) f J Q:=λad bC=>
 kh.jM (by rw[bC.wanted];exact hw) (by rw[bC.ar];exact ho) hl λp au=>h p au _ (bC.put p.1 hd)
end
end Go.Lyc
end
