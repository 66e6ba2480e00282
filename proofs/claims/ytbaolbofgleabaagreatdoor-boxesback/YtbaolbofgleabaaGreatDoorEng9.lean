/-
  An abstract executor of the program's code, and that it is sound, part 3. No conditions: definitions and laws.
-/
import Derived.Test.YtbaolbofgleabaaGreatDoorEng2
import Derived.Carry
import Derived.OpenShut
import Derived.ChangeSlices
set_option linter.all false
noncomputable section
namespace Go.Lyc
def RI:=@Nat.sub_zero
def KY:=@Classical.choose_spec
def Aa:=@Nat.le_add_left
def a0y:=@List.replicate_succ'
def hI:=@List.append_nil
def pI:=@Bool.true_and
def RJ:=@Int.ofNat_eq_natCast
def KZ:=@Nat.mul_one
def a0z:=@List.reverse_append
def a0A:=@Bool.eq_false_iff
def a0B:=@List.pairwise_cons
def K0:=@List.pairwise_iff_getElem
set_option maxHeartbeats 0
set_option maxRecDepth 100000
section
variable [Tok][TokOk]
open Go.RowKit
def dz{α:Type}(f:Nat->Option (List α))(Q:α->Prop):Prop:=∃e7 l,l≠[]/\(∀F,e7<=F->f F=some l)/\∀x∈l,Q x
def dz.one{α:Type}{f:Nat->Option (List α)}{Q:α->Prop}{x:α}(h:∀F,f F=some [x])(aS:Q x):dz f Q:=⟨0,[x],ay,λF _=>h F,λ_ hy=>by rw[cA.1 hy];exact aS⟩
def dz.mono{α:Type}{f:Nat->Option (List α)}{Q pJ:α->Prop}(h:dz f Q)(aS:∀x,Q x->pJ x):dz f pJ:=let⟨e7,l,h1,h2,h3⟩:=h;⟨e7,l,h1,h2,λx hx=>aS x (h3 x hx)⟩
def dz.congr{α:Type}{f g:Nat->Option (List α)}{Q:α->Prop}(h:dz f Q)(e:∀F,g F=f F):dz g Q:=let⟨e7,l,h1,h2,h3⟩:=h;⟨e7,l,h1,λF bL=>(e F).trans (h2 F bL),h3⟩
def dz.succ{α:Type}{f g:Nat->Option (List α)}{Q:α->Prop}(h:dz f Q)(e:∀F,g (F+1)=f F):dz g Q:=
 let⟨e7,l,h1,h2,h3⟩:=h
 ⟨e7+1,l,h1,λF bL=>by obtain⟨k,rfl⟩:∃k,F=k+1:=⟨F-1,U⟩;exact(e k).trans (h2 k U),h3⟩
def b4C{α β:Type}(f:α->Option (List β))(x y:α)(t:List α):k5 f (x::y::t)=match f x with|none=>none|some a=>match k5 f (y::t) with|none=>none|some b=>some (a++b):=rfl
def dz.flat{α β:Type}{g:α->Nat->Option (List β)}{Q:β->Prop}:∀(l:List α),l≠[]->(∀x∈l,dz (g x) Q)->dz (λF=>k5 (λx=>g x F) l) Q
 |[],h,_=>absurd I h
 |[x],_,h=>(h x ay).congr λF=>rfl
 |x::y::t,_,h=>by
  obtain⟨Ab,jY,aQ,dg,dU⟩:=h x ay;obtain⟨x2,mR,aZ,cD,fr⟩:=dz.flat (g:=g) (Q:=Q) (y::t) ay (λz a_=>h z (g1 _ a_));refine⟨max Ab x2,jY++mR,by simp[aQ],λF bL=>?_,λz a_=>?_⟩
  ·show k5 (λx=>g x F) (x::y::t)=_;have aU:k5 (λx=>g x F) (y::t)=some mR:=cD F U;rw[b4C,dg F U,aU]
  ·rcases eX.1 a_ with a_|a_
   ·exact dU z a_
   ·exact fr z a_
def dz.then{α β:Type}{f:Nat->Option (List α)}{g:α->Nat->Option (List β)}{Q:α->Prop}{pJ:β->Prop}(h:dz f Q)(hg:∀x,Q x->dz (g x) pJ):dz (λF=>ks (f F) (λx=>g x F)) pJ:=by
 obtain⟨e7,l,h1,h2,h3⟩:=h;obtain⟨Ab,bD,a,b,c⟩:=dz.flat (g:=g) (Q:=pJ) l h1 (λx hx=>hg x (h3 x hx));exact⟨max e7 Ab,bD,a,λF bL=>by show ks (f F) _=_;rw[h2 F U];exact b F U,c⟩
abbrev tu:=hE->Fr->ad->Prop
def gT(env:Env)(floor:Nat)(aK:Option Nat)(c:b5)(ae:Fr)(J:ad)(Q:tu):Prop:=dz (λF=>exec env F floor aK c ae J) (λo=>Q o.1 o.2.1 o.2.2)
def ld(env:Env)(floor:Nat)(dc:Bool)(ops:List a2)(ae:Fr)(J:ad)(Q:tu):Prop:=dz (λF=>runOps env floor (callV env (exec env F) floor) dc ops ae J) (λo=>Q o.1 o.2.1 o.2.2)
def bb(env:Env)(floor:Nat)(bG:AV)(args:List AV)(J:ad)(Q:ee->ad->Prop):Prop:=dz (λF=>callV env (exec env F) floor bG args J) (λo=>Q o.1 o.2)
section
variable {env:Env}{floor:Nat}{aK:Option Nat}{ae:Fr}{J:ad}{Q:tu}
def gT.mono{c:b5}{pJ:tu}(h:gT env floor aK c ae J Q)(aS:∀x ae J,Q x ae J->pJ x ae J):gT env floor aK c ae J pJ:=dz.mono h λ_ ho=>aS _ _ _ ho
def gT.skip(h:Q .normal ae J):gT env floor aK .skip ae J Q:=(dz.one (f:=λF=>some [(hE.normal,ae,J)]) (Q:=λo=>Q o.1 o.2.1 o.2.2) (λ_=>rfl) h).succ λF=>by rw[ra];rfl
def gT.ret(h:Q .ret ae J):gT env floor aK .ret ae J Q:=(dz.one (f:=λF=>some [(hE.ret,ae,J)]) (Q:=λo=>Q o.1 o.2.1 o.2.2) (λ_=>rfl) h).succ λF=>by rw[ra];rfl
def gT.exit{id:Nat}(h:Q (.exit id) ae J):gT env floor aK (.exit id) ae J Q:=(dz.one (f:=λF=>some [(hE.exit id,ae,J)]) (Q:=λo=>Q o.1 o.2.1 o.2.2) (λ_=>rfl) h).succ λF=>by rw[ra];rfl
def gT.region{ops:List a2}(h:ld env floor aK.isNone ops ae J Q):gT env floor aK (.region ops) ae J Q:=dz.succ h λF=>by rw[ra];rfl
def b4D(env:Env)(floor:Nat)(aK:Option Nat)(b:b5)(Q:tu):tu:=λx ae J=>match x with| .normal=>gT env floor aK b ae J Q|x=>Q x ae J
def gT.seq{a b:b5}(h:gT env floor aK a ae J (b4D env floor aK b Q)):gT env floor aK (.seq a b) ae J Q:=by
 refine dz.succ (dz.then (g:=λx F=>B3 (exec env F) floor aK b x) h λo ho=>?_) λF=>by rw[ra];rfl
 obtain⟨x,bZ,ai⟩:=o;cases x with
 |normal=>exact ho
 |exit i=>exact dz.one (λ_=>rfl) ho
 |ret=>exact dz.one (λ_=>rfl) ho
 |panic v=>exact dz.one (λ_=>rfl) ho
def b4E(id:Nat)(Q:tu):tu:=λx ae J=>match x with| .exit j=>if j=id then Q .normal ae J else Q (.exit j) ae J|x=>Q x ae J
def gT.block{a:b5}{id:Nat}(h:gT env floor aK a ae J (b4E id Q)):gT env floor aK (.block id a) ae J Q:=by
 refine dz.succ (dz.then (g:=λx _=>PL id x) h λo ho=>?_) λF=>by rw[ra];rfl
 obtain⟨x,bZ,ai⟩:=o;cases x with
 |normal=>exact dz.one (λ_=>rfl) ho
 |exit i=>
  have ho:(if i=id then Q .normal bZ ai else Q (.exit i) bZ ai):=ho;by_cases hi:i=id
  ·subst hi;rw[if_pos I] at ho;refine dz.one (x:=(.normal,bZ,ai)) (λ_=>?_) ho;show cond (Nat.beq i i) _ _=_;rw[g0];rfl
  ·rw[if_neg hi] at ho;refine dz.one (x:=(.exit i,bZ,ai)) (λ_=>?_) ho;show cond (Nat.beq i id) _ _=_;rw[show Nat.beq i id=false from by cases hb:Nat.beq i id with|false=>rfl|true=>exact absurd (gE hb) hi];rfl
 |ret=>exact dz.one (λ_=>rfl) ho
 |panic v=>exact dz.one (λ_=>rfl) ho
def gT.hJ{o:aJ}{a b:b5}{t:Bool}(ho:evalA env ae.bk o=some (.b t))(ht:t=true->gT env floor aK a ae J Q)(hf:t=false->gT env floor aK b ae J Q):gT env floor aK (.cond o a b) ae J Q:=by
 cases t with
 |true=>
  refine dz.succ (ht I) λF=>?_;rw[ra];show(match evalA env ae.bk o with|some (.b t)=>exec env F floor aK (cond t a b) ae J|_=>none)=_;rw[ho];rfl
 |false=>
  refine dz.succ (hf I) λF=>?_;rw[ra];show(match evalA env ae.bk o with|some (.b t)=>exec env F floor aK (cond t a b) ae J|_=>none)=_;rw[ho];rfl
def gT.loop{a:b5}(dq:Nat->Fr->ad->Prop)(aL:∀m ae J,dq m ae J->gT env floor aK a ae J (λx bZ ai=>match x with| .normal=>∃aP,aP<m/\dq aP bZ ai|x=>Q x bZ ai)):∀m ae J,dq m ae J->gT env floor aK (.loop a) ae J Q:=by
 intro m
 induction m using Nat.strongRecOn with
 |ind m aC=>
  intro ae J h;refine dz.succ (dz.then (g:=λx F=>B3 (exec env F) floor aK (.loop a) x) (aL m ae J h) λo ho=>?_) λF=>by rw[ra];rfl
  obtain⟨x,bZ,ai⟩:=o;cases x with
  |normal=>obtain⟨aP,h1,h2⟩:=ho;exact aC aP h1 bZ ai h2
  |exit i=>exact dz.one (λ_=>rfl) ho
  |ret=>exact dz.one (λ_=>rfl) ho
  |panic v=>exact dz.one (λ_=>rfl) ho
def ld.nil{dc:Bool}(h:Q .normal ae J):ld env floor dc [] ae J Q:=dz.one (λ_=>rfl) h
def ld.val{dc:Bool}{o:a2}{ops:List a2}{v:AV}{ai:ad}(hw:wantedA o.guard ae.bk=true)(ho:opx floor (evalA env ae.bk) J o.op=some (.val v ai))(h:ld env floor dc ops (ae.put o.dst v) ai Q):ld env floor dc (o::ops) ae J Q:=
 dz.congr h λF=>by rw[Cq,hw,cond_true,ho]
def ld.off{dc:Bool}{o:a2}{ops:List a2}(hw:wantedA o.guard ae.bk=false)(h:ld env floor dc ops (ae.put o.dst dF) J Q):ld env floor dc (o::ops) ae J Q:=
 dz.congr h λF=>by rw[Cq,hw,cond_false]
def ld.call{dc:Bool}{o:a2}{ops:List a2}{bG:AV}{args:List AV}(hw:wantedA o.guard ae.bk=true)(ho:opx floor (evalA env ae.bk) J o.op=some (.call bG args))
  (h:bb env floor bG args J (λr ai=>match r with| .ok v=>ld env floor dc ops (ae.put o.dst v) ai Q| .err v=>Q (.panic v) ae ai)):ld env floor dc (o::ops) ae J Q:=by
 refine dz.congr (dz.then (g:=λ(r:ee×ad) F=>(match r with
     |(.ok v,J)=>runOps env floor (callV env (exec env F) floor) dc ops (ae.put o.dst v) J
     |(.err v,J)=>some [(.panic v,ae,J)])) h λr ak=>?_) λF=>by rw[Cq,hw,cond_true,ho]<;>rfl
 obtain⟨r,ai⟩:=r;cases r with
 |ok v=>exact ak
 |err v=>exact dz.one (λ_=>rfl) ak
def bb.spec{g:Nat}{first cap args aO:List AV}{r:AV}{Q:ee->ad->Prop}(he:env.ext g=0)(an:env.pure g=true)(ha:mapO (bt J env.bh) (first++args++cap)=some aO)(al:env.spec g aO=some r)(h:Q (.ok r) J):
  bb env floor (.f (.func g) first cap) args J Q:=by
 refine dz.one (x:=(.ok r,J)) (λF=>?_) h;show callF env (exec env F) floor g (first++args++cap) J=_;unfold callF;rw[he];show cond (env.pure g) _ _=_;rw[an,cond_true,ha];show(match env.spec g aO with|some r=>_|none=>_)=_;rw[al]
def a0C(env:Env)(floor:Nat)(fn:gr)(Q:ee->ad->Prop):tu:=λx ae J=>∃r ai,endF env floor fn (x,ae,J)=some [(r,ai)]/\Q r ai
def bb.run{g:Nat}{first cap args:List AV}{fn:gr}{body:b5}{Q:ee->ad->Prop}(he:env.ext g=0)(an:env.pure g=false)(hf:env.funcs g=some fn)(hb:fn.body=some body)
  (hn:(Nat.beq (first++args++cap).length fn.kF&&Nat.ble (first++args++cap).length fn.ntmps)=true) (h:gT env floor none body (vR fn (first++args++cap)) J (a0C env floor fn Q)):bb env floor (.f (.func g) first cap) args J Q:=by
 refine dz.congr (dz.then (g:=λx _=>endF env floor fn x) h λo ho=>?_) λF=>?_
 ·obtain⟨r,ai,h1,h2⟩:=ho;exact dz.one (λ_=>h1) h2
 ·show callF env (exec env F) floor g (first++args++cap) J=_;unfold callF;rw[he];show cond (env.pure g) _ _=_;rw[an,cond_false];unfold runF;rw[hf];show(match fn.body with|none=>none|some body=>_)=_;rw[hb];show cond _ _ _=_;rw[hn,cond_true]
def qt{α β:Type}(f:α->Option β)(x:α)(l:List α):mapO f (x::l)=match f x with|none=>none|some y=>match mapO f l with|none=>none|some ba=>some (y::ba):=rfl
def a0D{f g:AV->Option AV}(h:∀x y,f x=some y->g x=some y):∀ {l r:List AV},mapO f l=some r->mapO g l=some r
 |[],r,e=>e
 |x::l,r,e=>by
  rw[qt] at e ⊢;cases hx:f x with
  |none=>rw[hx] at e;cases e
  |some y=>
   rw[hx] at e;cases hl:mapO f l with
   |none=>rw[hl] at e;cases e
   |some ba=>rw[hl] at e;rw[h x y hx,a0D h hl];exact e
def a0E{J:ad}{base:Nat}:∀(n:Nat) (v r:AV),freeze J base n v=some r->freeze J base (n+1) v=some r
 |0,_,_,h=>by cases h
 |n+1,v,r,h=>by
  have aC:=a0E (J:=J) (base:=base) n;have g_:∀ {l bD:List AV},mapO (freeze J base n) l=some bD->mapO (freeze J base (n+1)) l=some bD:=a0D aC;rw[freeze_succ] at h;rw[freeze_succ];split at h
  ·split at h<;>try (cases h;done)
   rename_i hb;rw[if_neg hb];split at h<;>try (cases h;done)
   rename_i xs dG;split at h<;>cases h;rename_i ba zS;simp only[dG,g_ zS]
  ·split at h<;>cases h;rename_i ba zS;simp only[g_ zS]
  ·split at h<;>cases h;rename_i ba zS;simp only[g_ zS]
  ·split at h<;>cases h;rename_i y hy;simp only[aC _ _ hy]
  ·cases h
  ·cases h
  ·cases h
  ·exact h
def a0F{J:ad}{base n m:Nat}(hn:n<=m){v r:AV}(h:freeze J base n v=some r):freeze J base m v=some r:=by
 obtain⟨k,rfl⟩:∃k,m=n+k:=⟨m-n,U⟩
 induction k with
 |zero=>exact h
 |succ k aC=>exact a0E _ _ _ (aC U)
def a0G{f g:AV->AV->Bool}(h:∀x y,f x y=true->g x y=true):∀ {l r:List AV},gu f l r=true->gu g l r=true
 |[],[],e=>e
 |[],_::_,e=>by cases e
 |_::_,[],e=>by cases e
 |x::l,y::r,e=>by
  have e:cond (f x y) (gu f l r) false=true:=e;show cond (g x y) (gu g l r) false=true;cases hx:f x y with
  |false=>rw[hx] at e;cases e
  |true=>rw[hx] at e;rw[h x y hx];exact a0G h e
def a0H:∀(n:Nat) (x y:AV),AV.eqb n x y=true->AV.eqb (n+1) x y=true
 |0,_,_,h=>by cases h
 |n+1,x,y,h=>by
  have aC:=a0H n;have g_:∀ {l r:List AV},gu (AV.eqb n) l r=true->gu (AV.eqb (n+1)) l r=true:=a0G aC;have e:=AV.Cx _ _ _ h;subst e;cases x
  case aV o ab xs=>
   have h:((o==o)&&decide (ab=ab)&&gu (AV.eqb n) xs xs)=true:=h;show((o==o)&&decide (ab=ab)&&gu (AV.eqb (n+1)) xs xs)=true;simp only[dD] at h ⊢;exact⟨h.1,g_ h.2⟩
  case df o v=>
   have h:((o==o)&&AV.eqb n v v)=true:=h;show((o==o)&&AV.eqb (n+1) v v)=true;simp only[dD] at h ⊢;exact⟨h.1,aC _ _ h.2⟩
  case f cR a c=>
   have h:(decide (cR=cR)&&(gu (AV.eqb n) a a&&gu (AV.eqb n) c c))=true:=h;show(decide (cR=cR)&&(gu (AV.eqb (n+1)) a a&&gu (AV.eqb (n+1)) c c))=true;simp only[dD] at h ⊢;exact⟨h.1,g_ h.2.1,g_ h.2.2⟩
  case it t v=>
   have h:(Nat.beq t t&&AV.eqb n v v)=true:=h;show(Nat.beq t t&&AV.eqb (n+1) v v)=true;simp only[dD] at h ⊢;exact⟨h.1,aC _ _ h.2⟩
  case p a=>cases a<;>exact h
  case m a=>cases a<;>exact h
  case aj l=>exact g_ (l:=l) (r:=l) h
  case bg l=>exact g_ (l:=l) (r:=l) h
  all_goals exact h
def b4F{n m:Nat}(hn:n<=m){x y:AV}(h:AV.eqb n x y=true):AV.eqb m x y=true:=by
 obtain⟨k,rfl⟩:∃k,m=n+k:=⟨m-n,U⟩
 induction k with
 |zero=>exact h
 |succ k aC=>exact a0H _ _ _ (aC U)
def jI{α:Type}{p:α->Bool}:∀ {l:List α},(∀y∈l,p y=true)->cN p l=true
 |[],_=>rfl
 |y::t,h=>by
  show cond (p y) (cN p t) false=true;rw[h y ay,cond_true];exact jI λz a_=>h z (g1 _ a_)
def K1{P:Program}{m:Nat}(hm:m<=env.bh)(hk:uM P env)(fI:KU P env)(hex:Cw P env)(mn:P.follows .mixedOrders=true){g:Nat}{fn:gr}{body:b5}{aO:List AV}{r:AV}(hf:env.funcs g=some fn)(hb:fn.body=some body)
  (hn:(Nat.beq aO.length fn.kF&&Nat.ble aO.length fn.ntmps)=true) {ae:Nat} (ak:fs ae r=true)
  (h:gT env 0 none body (vR fn aO) ⟨.nil,0⟩ (a0C env 0 fn (λv ai=>∃bn,v= .ok bn/\freeze ai 0 m bn=some r))) (gQ:AV.eqb m r r=true) (b2:Nat):SpecEntry P env b2 g aO r:=by
 have h1:dz (λF=>ks (exec env F 0 none body (vR fn aO) ⟨.nil,0⟩) (endF env 0 fn)) (λo=>∃bn,o.1= .ok bn/\freeze o.2 0 m bn=some r):=
  dz.then (g:=λx _=>endF env 0 fn x) h λo ho=>by
   obtain⟨v,ai,h1,h2⟩:=ho;exact dz.one (λ_=>h1) h2
 obtain⟨e7,l,hl,h2,h3⟩:=h1;have cd:runF env (exec env e7) 0 g aO ⟨.nil,0⟩=some l:=by
  unfold runF;rw[hf];show(match fn.body with|none=>none|some body=>_)=_;rw[hb];show cond _ _ _=_;rw[hn,cond_true];exact h2 e7 (a8 _)
 refine a0l (bh:=env.bh) hk fI hex mn cd ?_ ak b2;cases l with
 |nil=>exact absurd I hl
 |cons x t=>
  obtain⟨v,aH,bT⟩:=h3 x ay;obtain⟨gg,pF⟩:=x;have aH:gg= .ok v:=aH;replace bT:freeze pF 0 env.bh v=some r:=a0F hm bT;subst aH;show(match freeze pF 0 env.bh v with|none=>none|some v1=>cond (cN (zj env.bh 0 v1) t) (some v1) none)=_;rw[bT];have:cN (zj env.bh 0 r) t=true:=by
   have RK:∀y∈t,zj env.bh 0 r y=true:=λy hy=>by
    obtain⟨w,cE,eI⟩:=h3 y (g1 _ hy);obtain⟨pn,tm⟩:=y;have cE:pn= .ok w:=cE;replace eI:freeze tm 0 env.bh w=some r:=a0F hm eI;subst cE;show(match freeze tm 0 env.bh w with|some b4=>AV.eqb env.bh b4 r|none=>false)=true;rw[eI];exact b4F hm gQ
   exact jI RK
  show cond (cN (zj env.bh 0 r) t) (some r) none=_;rw[this];rfl
end
def di(f:Nat->AV)(d:Nat)(v:AV):Nat->AV:=λi=>cond (Nat.beq i d) v (f i)
structure jk(D:List (Nat ⊕ (AV×List AV)))(n:Nat)(f:Nat->AV)(ae:Fr):Prop where
 get:∀i,ae.bk.get i=if i<n then some (f i) else none
 ds:ae.defers=D
 rc:ae.gv=false
def jk.put{D:List (Nat ⊕ (AV×List AV))}{n d:Nat}{f:Nat->AV}{ae:Fr}(h:jk D n f ae)(v:AV)(hd:Nat.blt d n=true):jk D n (di f d v) (ae.put (some d) v):=by
 have hd:d<n:=g7 hd;refine⟨λi=>?_,h.ds,h.rc⟩;show(ae.bk.set d v).get i=_;rw[a1.kf,h.get d,h.get i,if_pos hd];by_cases hi:i=d
 ·subst hi;rw[if_pos I,if_pos hd];show some v=some (cond (Nat.beq i i) v (f i));rw[g0];rfl
 ·rw[if_neg hi];have:di f d v i=f i:=by
   show cond (Nat.beq i d) v (f i)=f i;cases hb:Nat.beq i d with
   |false=>rfl
   |true=>exact absurd (gE hb) hi
  rw[this]
def dJ(env:Env)(n:Nat)(f:Nat->AV):aJ->Option AV
 | .t i=>cond (Nat.blt i n) (some (f i)) none
 | .c v=>some v
 | .g g=>match env.nM g with|some v=>some (.df true v)|none=>none
def jk.ar{D:List (Nat ⊕ (AV×List AV))}{n:Nat}{f:Nat->AV}{ae:Fr}(h:jk D n f ae)(env:Env):evalA env ae.bk=dJ env n f:=by
 funext x
 cases x with
 |t i=>
  show ae.bk.get i=cond (Nat.blt i n) (some (f i)) none;rw[h.get];by_cases hi:i<n
  ·rw[if_pos hi,show Nat.blt i n=true from kE hi];rfl
  ·rw[if_neg hi,show Nat.blt i n=false from by cases hb:Nat.blt i n with|false=>rfl|true=>exact absurd (g7 hb) hi];rfl
 |c v=>rfl
 |g g=>rfl
def hp(g:Option (Nat×Bool))(n:Nat)(f:Nat->AV):Bool:=
 match g with
 |none=>true
 |some (d,w)=>cond (Nat.blt d n) (match f d with| .b x=>x==w|_=>false) false
def jk.wanted{D:List (Nat ⊕ (AV×List AV))}{n:Nat}{f:Nat->AV}{ae:Fr}(h:jk D n f ae)(g:Option (Nat×Bool)):wantedA g ae.bk=hp g n f:=by
 cases g with
 |none=>rfl
 |some p=>
  obtain⟨d,w⟩:=p;show(match ae.bk.get d with|some (.b x)=>x==w|_=>false)=cond (Nat.blt d n) _ false;rw[h.get];by_cases hi:d<n
  ·rw[if_pos hi,show Nat.blt d n=true from kE hi,cond_true];cases f d<;>rfl
  ·rw[if_neg hi,show Nat.blt d n=false from by cases hb:Nat.blt d n with|false=>rfl|true=>exact absurd (g7 hb) hi];rfl
abbrev dO:=hE->(Nat->AV)->ad->Prop
def CM(D:List (Nat ⊕ (AV×List AV)))(n:Nat)(Q:dO):tu:=λx ae J=>∃f,jk D n f ae/\Q x f J
def bo(env:Env)(aK:Option Nat)(D:List (Nat ⊕ (AV×List AV)))(n:Nat)(c:b5)(f:Nat->AV)(J:ad)(Q:dO):Prop:=∀ae,jk D n f ae->gT env 0 aK c ae J (CM D n Q)
def da(env:Env)(aK:Option Nat)(D:List (Nat ⊕ (AV×List AV)))(n:Nat)(ops:List a2)(f:Nat->AV)(J:ad)(Q:dO):Prop:=∀ae,jk D n f ae->ld env 0 aK.isNone ops ae J (CM D n Q)
abbrev ah(env:Env):=bo env none []
section
variable {env:Env}{aK:Option Nat}{D:List (Nat ⊕ (AV×List AV))}{n:Nat}{f:Nat->AV}{J:ad}{Q:dO}
def bo.mono{c:b5}{pJ:dO}(h:bo env aK D n c f J Q)(aS:∀x f J,Q x f J->pJ x f J):bo env aK D n c f J pJ:=λae bE=>(h ae bE).mono λ_ _ _ ⟨f,h1,h2⟩=>⟨f,h1,aS _ _ _ h2⟩
def ah.skip(h:Q .normal f J):bo env aK D n .skip f J Q:=λ_ bE=>gT.skip ⟨f,bE,h⟩
def ah.ret(h:Q .ret f J):bo env aK D n .ret f J Q:=λ_ bE=>gT.ret ⟨f,bE,h⟩
def ah.exit{id:Nat}(h:Q (.exit id) f J):bo env aK D n (.exit id) f J Q:=λ_ bE=>gT.exit ⟨f,bE,h⟩
def ah.region{ops:List a2}(h:da env aK D n ops f J Q):bo env aK D n (.region ops) f J Q:=λae bE=>gT.region (h ae bE)
def ah.seq{a b:b5}(h:bo env aK D n a f J (λx f J=>match x with| .normal=>bo env aK D n b f J Q|x=>Q x f J)):bo env aK D n (.seq a b) f J Q:=λae bE=>gT.seq ((h ae bE).mono λx ae J ⟨f,h1,h2⟩=>by
 cases x with
 |normal=>exact h2 ae h1
 |exit i=>exact⟨f,h1,h2⟩
 |ret=>exact⟨f,h1,h2⟩
 |panic v=>exact⟨f,h1,h2⟩)
def ah.block{a:b5}{id:Nat}(h:bo env aK D n a f J (λx f J=>match x with| .exit j=>cond (Nat.beq j id) (Q .normal f J) (Q (.exit j) f J)|x=>Q x f J)):bo env aK D n (.block id a) f J Q:=λae bE=>gT.block ((h ae bE).mono λx ae J ⟨f,h1,h2⟩=>by
 cases x with
 |normal=>exact⟨f,h1,h2⟩
 |exit i=>
  have h2:cond (Nat.beq i id) (Q .normal f J) (Q (.exit i) f J):=h2;show if i=id then CM D n Q .normal ae J else CM D n Q (.exit i) ae J
  cases hb:Nat.beq i id with
  |false=>rw[if_neg (λh=>by rw[h,g0] at hb;cases hb)];rw[hb] at h2;exact⟨f,h1,h2⟩
  |true=>rw[if_pos (gE hb)];rw[hb] at h2;exact⟨f,h1,h2⟩
 |ret=>exact⟨f,h1,h2⟩
 |panic v=>exact⟨f,h1,h2⟩)
def ah.hJ{o:aJ}{a b:b5}{t:Bool}(ho:dJ env n f o=some (.b t))(ht:t=true->bo env aK D n a f J Q)(hf:t=false->bo env aK D n b f J Q):bo env aK D n (.cond o a b) f J Q:=λae bE=>
 gT.hJ (by rw[bE.ar];exact ho) (λh=>ht h ae bE) (λh=>hf h ae bE)
def ah.loop{a:b5}(dq:Nat->(Nat->AV)->ad->Prop)(aL:∀m f J,dq m f J->bo env aK D n a f J (λx b9 ai=>match x with| .normal=>∃aP,aP<m/\dq aP b9 ai|x=>Q x b9 ai))(m:Nat)(h:dq m f J):bo env aK D n (.loop a) f J Q:=λae bE=>
 gT.loop (Q:=CM D n Q) (λm ae J=>∃f,jk D n f ae/\dq m f J) (λm ae J ⟨f,h1,h2⟩=>(aL m f J h2 ae h1).mono λx bZ ai ⟨b9,h3,aH⟩=>by
  cases x with
  |normal=>obtain⟨aP,bT,cE⟩:=aH;exact⟨aP,bT,b9,h3,cE⟩
  |exit i=>exact⟨b9,h3,aH⟩
  |ret=>exact⟨b9,h3,aH⟩
  |panic v=>exact⟨b9,h3,aH⟩) m ae J ⟨f,bE,h⟩
def az.nil(h:Q .normal f J):da env aK D n [] f J Q:=λ_ bE=>ld.nil ⟨f,bE,h⟩
def az.val{d:Nat}{op:AOp}{g:Option (Nat×Bool)}{wn:List Nat}{ops:List a2}{v:AV}{ai:ad}(hd:Nat.blt d n=true)(hw:hp g n f=true)(ho:opx 0 (dJ env n f) J op=some (.val v ai))(h:da env aK D n ops (di f d v) ai Q):
  da env aK D n (⟨some d,op,g,wn⟩::ops) f J Q:=λae bE=>ld.val (by rw[bE.wanted];exact hw) (by rw[bE.ar];exact ho) (h _ (bE.put v hd))
def az.uR{op:AOp}{g:Option (Nat×Bool)}{wn:List Nat}{ops:List a2}{v:AV}{ai:ad}(hw:hp g n f=true)(ho:opx 0 (dJ env n f) J op=some (.val v ai))(h:da env aK D n ops f ai Q):
  da env aK D n (⟨none,op,g,wn⟩::ops) f J Q:=λae bE=>ld.val (by rw[bE.wanted];exact hw) (by rw[bE.ar];exact ho) (h _ bE)
def az.off{d:Nat}{op:AOp}{g:Option (Nat×Bool)}{wn:List Nat}{ops:List a2}(hd:Nat.blt d n=true)(hw:hp g n f=false)(h:da env aK D n ops (di f d dF) J Q):
  da env aK D n (⟨some d,op,g,wn⟩::ops) f J Q:=λae bE=>ld.off (by rw[bE.wanted];exact hw) (h _ (bE.put _ hd))
def az.spec{d:Nat}{op:AOp}{g:Option (Nat×Bool)}{wn:List Nat}{ops:List a2}{fn:Nat}{args aO:List AV}{r:AV}(hd:Nat.blt d n=true)(hw:hp g n f=true)(ho:opx 0 (dJ env n f) J op=some (.call (.f (.func fn) [] []) args))
  (he:env.ext fn=0) (an:env.pure fn=true) (ha:mapO (bt J env.bh) args=some aO) (al:env.spec fn aO=some r) (h:da env aK D n ops (di f d r) J Q):da env aK D n (⟨some d,op,g,wn⟩::ops) f J Q:=λae bE=>
 ld.call (by rw[bE.wanted];exact hw) (by rw[bE.ar];exact ho) (bb.spec he an (by simpa using ha) al (h _ (bE.put r hd)))
end
def sat:List (Nat×AV)->(Nat->AV)->Prop
 |[],_=>True
 |(i,v)::L,f=>f i=v/\sat L f
def bs:List (Nat×AV)->(Nat->AV)->Nat->AV
 |[],f=>f
 |(i,v)::L,f=>di (bs L f) i v
def b4G{f:Nat->AV}{i:Nat}{v:AV}(h:f i=v):di f i v=f:=by
 funext j
 show cond (Nat.beq j i) v (f j)=f j;cases hb:Nat.beq j i with
 |false=>rfl
 |true=>rw[gE hb,h];rfl
def FP:∀ {L:List (Nat×AV)} {f:Nat->AV},sat L f->bs L f=f
 |[],_,_=>rfl
 |(i,v)::L,f,⟨h1,h2⟩=>by
  show di (bs L f) i v=f;rw[FP h2,b4G h1]
def ah.norm{env:Env}{aK:Option Nat}{D:List (Nat ⊕ (AV×List AV))}{n:Nat}{c:b5}{f:Nat->AV}{J:ad}{Q:dO}(L:List (Nat×AV))(al:sat L f)(h:∀g,bo env aK D n c (bs L g) J Q):bo env aK D n c f J Q:=by
 rw[<-FP al];exact h f
section
variable {floor:Nat}{ar:aJ->Option AV}{J:ad}
def nZ{ab:Option Nat}{a:aJ}(p v:AV)(h1:ar a=some p)(h2:qQ J ab p=some v):opx floor ar J (.load ab a)=some (.val v J):=by
 show(match ar a with|some p=>(match qQ J ab p with|some v=>some (bO.val v J)|none=>none)|none=>none)=_;rw[h1];show(match qQ J ab p with|some v=>some (bO.val v J)|none=>none)=_;rw[h2]
def tv{ab:Option Nat}{id off:Nat}{c:List AV}{v:AV}(h1:J.get id=some (.cells c))(h2:dE ab (c.drop off)=some v):qQ J ab (.p (some (id,off)))=some v:=by
 show(match J.get id with|some (.cells c)=>dE ab (c.drop off)|_=>none)=_;rw[h1];exact h2
def K2{ab:Option Nat}{x i:aJ}(k:IntKind)(a:AV)(j:Nat)(v:AV)(h1:ar x=some a)(h2:ar i=some (.i k (Int.ofNat j)))(h3:idxSlA ab a j=some v):opx floor ar J (.k2 ab x i)=some (.val v J):=by
 show(match ar x,ar i with|some x,some j=>(match natOf j with|some j=>(match idxSlA ab x j with|some v=>some (bO.val v J)|none=>none)|none=>none)|_,_=>none)=_;rw[h1,h2];show(match idxSlA ab a j with|some v=>some (bO.val v J)|none=>none)=_;rw[h3]
def a0I{o:Bool}{ab:Option Nat}{xs:List AV}{j:Nat}{v:AV}(h:nth xs j=some v):idxSlA ab (.aV o ab xs) j=some (.df o v):=by
 show(if ab=ab then(match nth xs j with|some v=>some (AV.df o v)|none=>none) else none)=_;rw[if_pos I,h]
def FQ{op:BinOp}{x y:aJ}(a b v:AV)(h1:ar x=some a)(h2:ar y=some b)(h3:binop op a b=some v):opx floor ar J (.bin op x y)=some (.val v J):=by
 show(match ar x,ar y with|some a,some b=>(match binop op a b with|some v=>some (bO.val v J)|none=>none)|_,_=>none)=_;rw[h1,h2];show(match binop op a b with|some v=>some (bO.val v J)|none=>none)=_;rw[h3]
end
abbrev ag(n:Nat):AV:=.i .i64 (Int.ofNat n)
def b4H{n:Nat}(h:n<2^63):IntKind.wrap .i64 (n:Int)=(n:Int):=by
 have h:(n:Int)<9223372036854775808:=by omega
 simp only[IntKind.wrap,IntKind.bits,IntKind.signed];simp;omega
def Ac(a b:Nat):Nat:=a ^^^ (a &&& b)
def b4I(a b:Nat){k:Nat}(h:a<2^k):Ac a b<2^k:=Nat.xor_lt_two_pow h (zd Nat.and_le_left h)
def a0J{α:Type}:∀(l:List α) (k:Nat) (t:a1 α) (i:Nat),(a1.lay l k t).get i=if k<=i then(match l[i-k]? with|some x=>(t.get i).map (λ_=>x)|none=>t.get i) else t.get i
 |[],k,t,i=>by
  show t.get i=_;split<;>simp
 |x::l,k,t,i=>by
  show(a1.lay l (k+1) (t.set k x)).get i=_;rw[a0J l (k+1) (t.set k x) i,a1.kf];by_cases h1:k+1<=i
  ·have h2:k<=i:=by omega
   have h3:i≠k:=by omega
   have aH:(x::l)[i-k]? =l[i-(k+1)]? :=by
    rw[show i-k=(i-(k+1))+1 from by omega];rfl
   rw[if_pos h1,if_pos h2,if_neg h3,aH]
  ·rw[if_neg h1];by_cases h2:i=k
   ·subst h2;rw[if_pos I,if_pos (a8 _),Ew];rfl
   ·rw[if_neg h2,if_neg U]
def gy(args:List AV):Nat->AV:=λi=>args.getD i dF
def wA{fn:gr}{args:List AV}(h:args.length<=fn.ntmps):jk [] fn.ntmps (gy args) (vR fn args):=by
 refine⟨λi=>?_,rfl,rfl⟩;show(a1.lay args 0 (a1.full fn.ntmps dF fn.ntmps)).get i=_;rw[a0J,if_pos (jD _),RI];by_cases hi:i<fn.ntmps
 ·rw[if_pos hi,a1.JP _ _ _ _ hi (a8 _)];show _=some (args.getD i dF);rw[fD];cases args[i]? <;>rfl
 ·rw[if_neg hi,te U];cases hg:(a1.full fn.ntmps dF fn.ntmps).get i with
  |none=>rfl
  |some y=>exact absurd (a1.JQ _ _ _ _ _ hg).2 hi
def a0K{env:Env}{floor:Nat}{fn:gr}{n d:Nat}{f:Nat->AV}{ae:Fr}{J:ad}(h1:jk [] n f ae)(c0:fn.results=[(d,none)])(hd:Nat.blt d n=true):endF env floor fn (.ret,ae,J)=some [(.ok (f d),J)]:=by
 show(match leave floor (callD env floor) ae.defers none J with
  |none=>none
  |some (some v,J)=>some [(ee.err v,J)]
  |some (none,J)=>match resultsOf J ae.bk fn.results with
   |some v=>some [(.ok v,J)]
   |none=>none)=_
 rw[h1.ds];show(match resultsOf J ae.bk fn.results with|some v=>some [(ee.ok v,J)]|none=>none)=_;rw[c0];have hg:=h1.get d;have RL:d<n:=g7 hd;rw[if_pos RL] at hg;have:resultsOf J ae.bk [(d,none)]=some (f d):=by
  unfold resultsOf;have aM:resultOf J ae.bk (d,none)=some (f d):=by
   unfold resultOf;rw[hg]
  have e:mapO (resultOf J ae.bk) [(d,none)]=some [f d]:=by
   unfold mapO;simp only[aM]
  rw[e]
 rw[this]
def b4J{P:Program}{env:Env}{m:Nat}(hm:m<=env.bh)(hk:uM P env)(fI:KU P env)(hex:Cw P env)(mn:P.follows .mixedOrders=true){g:Nat}{fn:gr}{body:b5}{aO:List AV}{d:Nat}(r:AV)(hf:env.funcs g=some fn)(hb:fn.body=some body)
  (hn:(Nat.beq aO.length fn.kF&&Nat.ble aO.length fn.ntmps)=true) (c0:fn.results=[(d,none)]) (hd:Nat.blt d fn.ntmps=true) {ae:Nat} (ak:fs ae r=true) (gQ:AV.eqb m r r=true)
  (h:ah env fn.ntmps body (gy aO) ⟨.nil,0⟩ (λx f ai=>x= .ret/\freeze ai 0 m (f d)=some r)) (b2:Nat):SpecEntry P env b2 g aO r:=by
 have hle:aO.length<=fn.ntmps:=by
  simp only[dD] at hn;exact g7 hn.2
 refine K1 hm hk fI hex mn hf hb hn ak ((h _ (wA hle)).mono λx ae ai ⟨f,h1,h2,h3⟩=>?_) gQ b2;subst h2;exact⟨.ok (f d),ai,a0K h1 c0 hd,_,rfl,h3⟩
open Classical in
def FR(K:Nat->List AV->AV->Prop):Nat->List AV->Option AV:=λg aO=>if h:∃r,K g aO r then some (Classical.choose h) else none
def RM{K:Nat->List AV->AV->Prop}(hf:∀g aO r bR,K g aO r->K g aO bR->r=bR){g:Nat}{aO:List AV}{r:AV}(h:K g aO r):FR K g aO=some r:=by
 have hex:∃r,K g aO r:=⟨r,h⟩
 unfold FR;rw[dif_pos hex];exact congrArg some (hf g aO _ _ (KY hex) h)
def K3{K:Nat->List AV->AV->Prop}{g:Nat}{aO:List AV}{r:AV}(h:FR K g aO=some r):K g aO r:=by
 unfold FR at h;split at h
 ·rename_i hex;cases h;exact KY hex
 ·cases h
def bJ.aF(b:bJ)(K:Nat->List AV->AV->Prop):Env:={funcs:=b.funcs.get,nM:=b.nM,pure:=b.pure,spec:=FR K,bh:=b.bh+1000,ext:=b.ext}
def uX(P:Program)(b:bJ)(K:Nat->List AV->AV->Prop):Prop:=∀g aO r,K g aO r->∀b2,SpecEntry P (b.env []) b2 g aO r
def n0{P:Program}{b:bJ}{K:Nat->List AV->AV->Prop}(hb:lb P b)(de:uX P b K){g:Nat}{fn:gr}{body:b5}{aO:List AV}{d:Nat}(r:AV)(hf:b.funcs.get g=some fn)(jt:fn.body=some body)
  (hn:(Nat.beq aO.length fn.kF&&Nat.ble aO.length fn.ntmps)=true) (c0:fn.results=[(d,none)]) (hd:Nat.blt d fn.ntmps=true) {ae:Nat} (ak:fs ae r=true) (gQ:AV.eqb 1000 r r=true)
  (h:ah (b.aF K) fn.ntmps body (gy aO) ⟨.nil,0⟩ (λx f ai=>x= .ret/\freeze ai 0 1000 (f d)=some r)) (b2:Nat):SpecEntry P (b.env []) b2 g aO r:=
 b4J (env:=b.aF K) (m:=1000) (Aa _ _) ⟨λg cj hg=>nY.z7 hb.funcs g cj hg⟩ (λb2 g aO r al=>de g aO r (K3 al) b2) hb.ext hb.CL r hf jt hn c0 hd ak gQ h b2
def runDraw(env:Env)(floor:Nat)(call:mG)(ops:List a2):Fr->List ad->List md->ad->Option ke:=
 List.rec (λae ch ws J=>some (ae,ch,ws,J)) (λo _ aC ae ch ws J=>
  cond (wantedA o.guard ae.bk)
   (match opx floor (evalA env ae.bk) J o.op with
    |some (.val v ai)=>aC (ae.put o.dst v) (J::ch) (match o.jS with|[]=>ws|_::_=>(o,ae.bk,v)::ws) ai
    |some (.call bG args)=>match call bG args J with
     |some [(.ok v,ai)]=>aC (ae.put o.dst v) (J::ch) ws ai
     |_=>none
    |_=>none)
   (aC (ae.put o.dst dF) (J::ch) ws J)) ops
def Ad{env:Env}{f:Nat}{call:mG}(o:a2)(pl:List a2)(ae:Fr)(ch:List ad)(ws:List md)(J:ad):runDraw env f call (o::pl) ae ch ws J=
  cond (wantedA o.guard ae.bk)
   (match opx f (evalA env ae.bk) J o.op with
    |some (.val v ai)=>runDraw env f call pl (ae.put o.dst v) (J::ch) (match o.jS with|[]=>ws|_::_=>(o,ae.bk,v)::ws) ai
    |some (.call bG args)=>match call bG args J with
     |some [(.ok v,ai)]=>runDraw env f call pl (ae.put o.dst v) (J::ch) ws ai
     |_=>none
    |_=>none)
   (runDraw env f call pl (ae.put o.dst dF) (J::ch) ws J):=rfl
def K4{env:Env}{f:Nat}{call:mG}:∀ {pl:List a2} {ae:Fr} {ch:List ad} {ws:List md} {J:ad} {x:ke},runDraw env f call pl ae ch ws J=some x->runDraws env f call pl ae ch ws J=some [x]
 |[],_,_,_,_,_,h=>by cases h;rfl
 |o::pl,ae,ch,ws,J,x,h=>by
  rw[Ad] at h;rw[runDraws_cons];cases hw:wantedA o.guard ae.bk with
  |false=>rw[hw] at h;exact K4 h
  |true=>
   rw[hw,cond_true] at h;rw[cond_true];cases hx:opx f (evalA env ae.bk) J o.op with
   |none=>rw[hx] at h;cases h
   |some r=>
    rw[hx] at h;cases r with
    |val v ai=>exact K4 h
    |call bG args=>
     simp only[] at h ⊢;cases aa:call bG args J with
     |none=>rw[aa] at h;cases h
     |some l=>
      rw[aa] at h;cases l with
      |nil=>cases h
      |cons y t=>
       obtain⟨pn,tm⟩:=y;cases t with
       |cons z t=>cases pn<;>cases h
       |nil=>cases pn with
        |ok v=>exact K4 h
        |err v=>cases h
    |mE bG args=>cases h
    |panic v=>cases h
    |kG l=>cases h
def a0L{env:Env}{k:Nat}{aK:Option Nat}{ops:List a2}{ae bZ:Fr}{J ai:ad}{ch:List ad}{ws:List md}(h:runDraw env 0 (callV env (exec env k) 0) ops ae [] [] J=some (bZ,ch,ws,ai))(cq:ws.all (steady env 0 (ai::ch).reverse)=true)(sr:swapOk env bZ.bk ops=true):exec env (k+1) 0 aK (b5.draw ops) ae J=some [(.normal,bZ,ai)]:=by
 rw[ra];show(match runDraws env 0 (callV env (exec env k) 0) ops ae [] [] J with|some l=>mapO (drawn env 0 ops) l|none=>none)=_;rw[K4 h];have hd:drawn env 0 ops (bZ,ch,ws,ai)=some (.normal,bZ,ai):=by
  unfold drawn;rw[cq,sr];rfl
 show mapO (drawn env 0 ops) [(bZ,ch,ws,ai)]=_;rw[mapO_cons,hd];rfl
def b4K(env:Env)(J:ad)(w:md):Prop:=∃v,opx 0 (evalA env w.2.1) J w.1.op=some (.val v J)/\AV.eqb env.bh v w.2.2=true
def dv(env:Env)(D:List (Nat ⊕ (AV×List AV)))(n:Nat)(ops:List a2)(f:Nat->AV)(J:ad)(Q:(Nat->AV)->Prop):Prop:=
 ∀ae,jk D n f ae->∃e7 bZ b9 wn,(∀F,e7<=F->∀ch ws,runDraw env 0 (callV env (exec env F) 0) ops ae ch ws J=some (bZ,List.replicate ops.length J++ch,wn++ws,J))/\jk D n b9 bZ/\Q b9/\∀w∈wn,b4K env J w/\w.1∈ops
section
variable {env:Env}{aK:Option Nat}{D:List (Nat ⊕ (AV×List AV))}{n:Nat}{f:Nat->AV}{J:ad}{Q:(Nat->AV)->Prop}
def RN(k:Nat)(ch:List ad):List.replicate k J++J::ch=List.replicate (k+1) J++ch:=by
 rw[a0y,iJ];rfl
def dv.nil(h:Q f):dv env D n [] f J Q:=λae bE=>⟨0,ae,f,[],λ_ _ _ _=>rfl,bE,h,λ_ hw=>absurd hw ay⟩
def dv.val{d:Nat}{op:AOp}{g:Option (Nat×Bool)}{ops:List a2}{v:AV}(hd:Nat.blt d n=true)(hw:hp g n f=true)(ho:opx 0 (dJ env n f) J op=some (.val v J))(h:dv env D n ops (di f d v) J Q):
  dv env D n (⟨some d,op,g,[]⟩::ops) f J Q:=λae bE=>by
 obtain⟨e7,bZ,b9,wn,h1,h2,h3,aH⟩:=h _ (bE.put v hd);refine⟨e7,bZ,b9,wn,λF bL ch ws=>?_,h2,h3,λw hw=>⟨(aH w hw).1,g1 _ (aH w hw).2⟩⟩;rw[Ad];show cond (wantedA g ae.bk) _ _=_;rw[bE.wanted,hw,cond_true,bE.ar,ho];show runDraw env 0 _ ops (ae.put (some d) v) (J::ch) ws J=_;rw[h1 F bL,RN];rfl
def dv.off{d:Nat}{op:AOp}{g:Option (Nat×Bool)}{wn:List Nat}{ops:List a2}(hd:Nat.blt d n=true)(hw:hp g n f=false)(h:dv env D n ops (di f d dF) J Q):
  dv env D n (⟨some d,op,g,wn⟩::ops) f J Q:=λae bE=>by
 obtain⟨e7,bZ,b9,wn,h1,h2,h3,aH⟩:=h _ (bE.put _ hd);refine⟨e7,bZ,b9,wn,λF bL ch ws=>?_,h2,h3,λw hw=>⟨(aH w hw).1,g1 _ (aH w hw).2⟩⟩;rw[Ad];show cond (wantedA g ae.bk) _ _=_;rw[bE.wanted,hw,cond_false,h1 F bL,RN];rfl
def dv.spec{d:Nat}{op:AOp}{g:Option (Nat×Bool)}{wn:List Nat}{ops:List a2}{fn:Nat}{args aO:List AV}{r:AV}(hd:Nat.blt d n=true)(hw:hp g n f=true)(ho:opx 0 (dJ env n f) J op=some (.call (.f (.func fn) [] []) args))
  (he:env.ext fn=0) (an:env.pure fn=true) (ha:mapO (bt J env.bh) args=some aO) (al:env.spec fn aO=some r) (h:dv env D n ops (di f d r) J Q):dv env D n (⟨some d,op,g,wn⟩::ops) f J Q:=λae bE=>by
 obtain⟨e7,bZ,b9,wn,h1,h2,h3,aH⟩:=h _ (bE.put _ hd);refine⟨e7,bZ,b9,wn,λF bL ch ws=>?_,h2,h3,λw hw=>⟨(aH w hw).1,g1 _ (aH w hw).2⟩⟩;rw[Ad];show cond (wantedA g ae.bk) _ _=_;have aa:callV env (exec env F) 0 (.f (.func fn) [] []) args J=some [(.ok r,J)]:=by
  show callF env (exec env F) 0 fn ([]++args++[]) J=_;unfold callF;rw[he];show cond (env.pure fn) _ _=_;rw[an,cond_true,xI,hI,ha];show(match env.spec fn aO with|some r=>_|none=>_)=_;rw[al]
 rw[bE.wanted,hw,cond_true,bE.ar,ho];show(match callV env (exec env F) 0 (.f (.func fn) [] []) args J with|some [(.ok v,ai)]=>runDraw env 0 _ ops (ae.put (some d) v) (J::ch) ws ai|_=>none)=_;rw[aa];show runDraw env 0 _ ops (ae.put (some d) r) (J::ch) ws J=_;rw[h1 F bL,RN];rfl
def b4L(ops:List a2):Bool:=cN (λo=>cN (λq=>Nat.ble q ops.length) o.jS) ops
def swapT(ops:List a2):Bool:=match ops.reverse with|y::_=>(match y.jS with|[]=>true|_::_=>false)|[]=>true
def RO{env:Env}{ao:a1 AV}{ops:List a2}(h:swapT ops=true):swapOk env ao ops=true:=by
 unfold swapT at h;unfold swapOk;cases ak:ops.reverse with
 |nil=>rfl
 |cons y t=>
  rw[ak] at h;cases t with
  |nil=>rfl
  |cons x t=>
   cases hw:y.jS with
   |nil=>simp only[hw]
   |cons a l=>simp only[hw] at h;cases h
def nv{α:Type}{p:α->Bool}{l:List α}(h:cN p l=true):∀x∈l,p x=true:=λx hx=>pw h x hx
def a0M{α:Type}(x:α):∀ {k q:Nat},q<k->nth (List.replicate k x) q=some x
 |0,q,h=>by omega
 |k+1,0,_=>rfl
 |k+1,q+1,h=>by
  show nth (List.replicate k x) q=some x;exact a0M x U
def ah.draw{ops:List a2}{Q:dO}(hw:b4L ops=true)(al:swapT ops=true)(h:dv env D n ops f J (λb9=>Q .normal b9 J)):bo env aK D n (.draw ops) f J Q:=λae bE=>by
 obtain⟨e7,bZ,b9,wn,h1,h2,h3,aH⟩:=h ae bE;refine⟨e7+1,[(.normal,bZ,J)],ay,λF bL=>?_,λo ho=>?_⟩
 ·obtain⟨k,rfl⟩:∃k,F=k+1:=⟨F-1,U⟩
  have h1:=h1 k U [] [];rw[hI,hI] at h1;refine a0L h1 ?_ (RO al);have:wn.all (steady env 0 (J::List.replicate ops.length J).reverse)=true:=by
   rw[pk];intro w lH;obtain⟨⟨v,wq,kM⟩,eO⟩:=aH w lH;unfold steady;refine jI λq aS=>?_;have KT:q<=ops.length:=g7 (nv (nv hw w.1 eO) q aS);have:(J::List.replicate ops.length J).reverse=List.replicate (ops.length+1) J:=by
    rw[<-Qz,List.reverse_replicate]
   rw[this,a0M J U];show(match ur w.1.op 0 (evalA env w.2.1) J with|some (.val v _)=>AV.eqb env.bh v w.2.2|_=>false)=true;rw[zP,wq];exact kM
  exact this
 ·rw[cA.1 ho];exact⟨b9,h2,h3⟩
end
def Snp(n:Nat)(v:AV):Prop:=∀J,bt J n v=some v
def a0N{α:Type}{f:AV->Option AV}{g h:α->AV}:∀ {l:List α},(∀x∈l,f (g x)=some (h x))->mapO f (l.map g)=some (l.map h)
 |[],_=>rfl
 |x::l,hx=>by rw[pf,qt,hx x ay,a0N λy hy=>hx y (g1 _ hy)];rfl
def Snp.i(n:Nat)(k:IntKind)(x:Int):Snp (n+1) (.i k x):=λ_=>rfl
def Snp.b(n:Nat)(x:Bool):Snp (n+1) (.b x):=λ_=>rfl
def pK{α:Type}{f:α->α->Bool}:∀ {l:List α},(∀x∈l,f x x=true)->gu f l l=true
 |[],_=>rfl
 |x::l,h=>by
  show cond (f x x) (gu f l l) false=true;rw[h x ay,cond_true];exact pK λy hy=>h y (g1 _ hy)
def K5:∀l,eqL l l=true
 |[]=>rfl
 |x::l=>by
  show cond (Nat.beq x x) (eqL l l) false=true;rw[g0,cond_true,K5 l]
def Snp.eqb:∀(n:Nat) (v:AV),Snp n v->AV.eqb n v v=true
 |0,v,h=>by have:=h ⟨.nil,0⟩;cases this
 |n+1,v,h=>by
  have aC:=Snp.eqb n;cases v with
  |b x=>show(x==x)=true;simp
  |i k x=>show(decide (k=k)&&decide (x=x))=true;simp
  |s l=>exact K5 l
  |p a=>cases a with
   |none=>rfl
   |some a=>have:=h ⟨.nil,0⟩;cases this
  |df o v=>have:=h ⟨.nil,0⟩;cases this
  |ao a b c d e=>
   have al:=h ⟨.nil,0⟩;have:bt ⟨.nil,0⟩ (n+1) (.ao a b c d e)=(match readList ⟨.nil,0⟩ (.ao a b c d e) with|none=>none|some xs=>match mapO (bt ⟨.nil,0⟩ n) xs with|none=>none|some xs=>some (AV.aV true d xs)):=rfl;rw[this] at al;split at al
   ·cases al
   ·split at al<;>cases al
  |nilsl=>rfl
  |aV o ab xs=>
   have al:=h ⟨.nil,0⟩;have e:bt ⟨.nil,0⟩ (n+1) (.aV o ab xs)=(match mapO (bt ⟨.nil,0⟩ n) xs with|none=>none|some xs=>some (AV.aV true ab xs)):=rfl;show((o==o)&&decide (ab=ab)&&gu (AV.eqb n) xs xs)=true;have hx:∀J,mapO (bt J n) xs=some xs:=λJ=>by
    have al:=h J;have e:bt J (n+1) (.aV o ab xs)=(match mapO (bt J n) xs with|none=>none|some xs=>some (AV.aV true ab xs)):=rfl;rw[e] at al;cases hm:mapO (bt J n) xs with
    |none=>rw[hm] at al;cases al
    |some ba=>rw[hm] at al;simp only[cJ,AV.aV.injEq] at al;rw[al.2.2]
   have hall:gu (AV.eqb n) xs xs=true:=pK λx cX=>aC x λJ=>by
    have:=hx J;exact RP this x cX
   simp[hall]
  |m r=>cases r with
   |none=>rfl
   |some r=>have:=h ⟨.nil,0⟩;cases this
  |f a b c=>have:=h ⟨.nil,0⟩;cases this
  |hD=>rfl
  |it t v=>
   show(Nat.beq t t&&AV.eqb n v v)=true;rw[g0,pI];refine aC v λJ=>?_;have al:=h J;have e:bt J (n+1) (.it t v)=(match bt J n v with|none=>none|some v=>some (AV.it t v)):=rfl;rw[e] at al;cases hm:bt J n v with
   |none=>rw[hm] at al;cases al
   |some y=>rw[hm] at al;simp only[cJ,AV.it.injEq,true_and] at al;rw[al]
  |fx=>rfl
  |aj l=>
   show gu (AV.eqb n) l l=true;refine pK λx cX=>aC x λJ=>?_;have al:=h J;have e:bt J (n+1) (.aj l)=(match mapO (bt J n) l with|none=>none|some l=>some (AV.aj l)):=rfl;rw[e] at al;cases hm:mapO (bt J n) l with
   |none=>rw[hm] at al;cases al
   |some ba=>rw[hm] at al;simp only[cJ,AV.aj.injEq] at al;subst al;exact RP hm x cX
  |bg l=>
   show gu (AV.eqb n) l l=true;refine pK λx cX=>aC x λJ=>?_;have al:=h J;have e:bt J (n+1) (.bg l)=(match mapO (bt J n) l with|none=>none|some l=>some (AV.bg l)):=rfl;rw[e] at al;cases hm:mapO (bt J n) l with
   |none=>rw[hm] at al;cases al
   |some ba=>rw[hm] at al;simp only[cJ,AV.bg.injEq] at al;subst al;exact RP hm x cX
  |ih k d j=>show(decide (k=k)&&(Nat.beq d d&&Nat.beq j j))=true;simp
  |iQ l=>exact pK λx _=>K5 x
  |jr hi=>show(hi==hi)=true;simp
  |y i=>exact g0 i
  |gP o i=>show((o==o)&&Nat.beq i i)=true;simp
where
 RP {f:AV->Option AV}:∀ {l:List AV},mapO f l=some l->∀x∈l,f x=some x:=λ{l}=>by
  induction l with
  |nil=>intro _ x hx;simp at hx
  |cons a l g_=>
   intro h x hx;rw[qt] at h;cases ha:f a with
   |none=>rw[ha] at h;cases h
   |some y=>
    rw[ha] at h;cases hl:mapO f l with
    |none=>simp only[hl] at h;cases h
    |some ba=>
     simp only[hl,cJ,vL] at h;obtain⟨h1,h2⟩:=h;subst h1;subst h2;rcases c2.1 hx with rfl|hx
     ·exact ha
     ·exact g_ hl x hx
def a0O{a b:Nat}:decide (Int.ofNat a=Int.ofNat b)=decide (a=b):=decide_eq_decide.2 ⟨sY,λh=>by rw[h]⟩
def b4M{k:IntKind}{a b:Nat}:binop .eql (.i k (Int.ofNat a)) (.i k (Int.ofNat b))=some (.b (decide (a=b))):=by
 rw[<-a0O];show(if k=k then binI .eql k (Int.ofNat a) (Int.ofNat b) else none)=_;rw[if_pos I];rfl
def b4N{k:IntKind}{a b:Nat}:binop .neq (.i k (Int.ofNat a)) (.i k (Int.ofNat b))=some (.b (!decide (a=b))):=by
 rw[<-a0O];show(if k=k then binI .neq k (Int.ofNat a) (Int.ofNat b) else none)=_;rw[if_pos I];rfl
def cmpO(op:BinOp)(a b:Nat):Option AV:=
 match op with
 | .eql=>some (.b (decide (a=b)))
 | .neq=>some (.b (!decide (a=b)))
 | .lss=>some (.b (decide (a<b)))
 | .leq=>some (.b (decide (a<=b)))
 | .gtr=>some (.b (decide (b<a)))
 | .geq=>some (.b (decide (b<=a)))
 |_=>none
def n1{op:BinOp}{k:IntKind}{a b:Nat}{v:AV}(h:cmpO op a b=some v):binop op (.i k (Int.ofNat a)) (.i k (Int.ofNat b))=some v:=by
 cases op with
 |eql=>rw[b4M];exact h
 |neq=>rw[b4N];exact h
 |lss=>
  rw[<-h];show(if k=k then binI .lss k (Int.ofNat a) (Int.ofNat b) else none)=_;rw[if_pos I];show some (AV.b (decide ((Int.ofNat a)<Int.ofNat b)))=some (.b (decide (a<b)))
  congr 2;simp
 |leq=>
  rw[<-h];show(if k=k then binI .leq k (Int.ofNat a) (Int.ofNat b) else none)=_;rw[if_pos I];show some (AV.b (decide ((Int.ofNat a)<=Int.ofNat b)))=some (.b (decide (a<=b)))
  congr 2;simp
 |gtr=>
  rw[<-h];show(if k=k then binI .gtr k (Int.ofNat a) (Int.ofNat b) else none)=_;rw[if_pos I];show some (AV.b (decide ((Int.ofNat b)<Int.ofNat a)))=some (.b (decide (b<a)))
  congr 2;simp
 |geq=>
  rw[<-h];show(if k=k then binI .geq k (Int.ofNat a) (Int.ofNat b) else none)=_;rw[if_pos I];show some (AV.b (decide ((Int.ofNat b)<=Int.ofNat a)))=some (.b (decide (b<=a)))
  congr 2;simp
 |_=>cases h
def K6{n:Nat}(h:n<2^63):wrapN .i64 (Int.ofNat n)=Int.ofNat n:=by
 show cond (Nat.blt n 9223372036854775808) (Int.ofNat n) _=_;rw[show Nat.blt n 9223372036854775808=true from kE U];rfl
def rm{a b:Nat}(h:a+b<2^63):binop .add (ag a) (ag b)=some (ag (a+b)):=by
 show some (AV.i .i64 (wrapN .i64 (Int.ofNat (a+b))))=_;rw[K6 h]
def oH{a b:Nat}(hb:b<=a)(h:a<2^63):binop .sub (ag a) (ag b)=some (ag (a-b)):=by
 show some (AV.i .i64 (wrapN .i64 (Int.ofNat a-Int.ofNat b)))=_;have:Int.ofNat a-Int.ofNat b=Int.ofNat (a-b):=by simp only[RJ];omega
 rw[this,K6 U]
def a0P:AOp->Bool
 | .bin _ _ _=>false
 | .conv _ _=>false
 | .append _ _ _ _=>false
 | .buildSlice _ _ _ _=>false
 | .neg _=>false
 |_=>true
section
variable {env:Env}{aK:Option Nat}{D:List (Nat ⊕ (AV×List AV))}{n:Nat}{f:Nat->AV}{J:ad}{Q:dO}
def az.go{d:Nat}{op:AOp}{g:Option (Nat×Bool)}{wn:List Nat}{ops:List a2}{v:AV}{ai:ad}(_hb:a0P op=true)(hd:Nat.blt d n=true)(hw:hp g n f=true)(ho:opx 0 (dJ env n f) J op=some (.val v ai))(h:da env aK D n ops (di f d v) ai Q):
  da env aK D n (⟨some d,op,g,wn⟩::ops) f J Q:=az.val hd hw ho h
def az.bin{d:Nat}{op:BinOp}{x y:aJ}{g:Option (Nat×Bool)}{wn:List Nat}{ops:List a2}{a b v:AV}(hd:Nat.blt d n=true)(hw:hp g n f=true)(h1:dJ env n f x=some a)(h2:dJ env n f y=some b)(h3:binop op a b=some v)
  (h:da env aK D n ops (di f d v) J Q):da env aK D n (⟨some d,.bin op x y,g,wn⟩::ops) f J Q:=az.val hd hw (FQ a b v h1 h2 h3) h
def az.cmp{d:Nat}{op:BinOp}{x y:aJ}{g:Option (Nat×Bool)}{wn:List Nat}{ops:List a2}{k:IntKind}{a b:Nat}{v:AV}(hd:Nat.blt d n=true)(hw:hp g n f=true)(h1:dJ env n f x=some (.i k (Int.ofNat a)))(h2:dJ env n f y=some (.i k (Int.ofNat b)))(h3:cmpO op a b=some v)
  (h:da env aK D n ops (di f d v) J Q):da env aK D n (⟨some d,.bin op x y,g,wn⟩::ops) f J Q:=az.val hd hw (FQ _ _ v h1 h2 (n1 h3)) h
def dv.cmp{d:Nat}{op:BinOp}{x y:aJ}{g:Option (Nat×Bool)}{ops:List a2}{k:IntKind}{a b:Nat}{v:AV}{Q:(Nat->AV)->Prop}(hd:Nat.blt d n=true)(hw:hp g n f=true)(h1:dJ env n f x=some (.i k (Int.ofNat a)))(h2:dJ env n f y=some (.i k (Int.ofNat b)))(h3:cmpO op a b=some v)
  (h:dv env D n ops (di f d v) J Q):dv env D n (⟨some d,.bin op x y,g,[]⟩::ops) f J Q:=dv.val hd hw (FQ _ _ v h1 h2 (n1 h3)) h
def az.cK{d:Nat}{ab:Option Nat}{x:aJ}{g:Option (Nat×Bool)}{wn:List Nat}{ops:List a2}{id off:Nat}{c:List AV}{v:AV}(al:J.get id=some (.cells c))(hd:Nat.blt d n=true)(hw:hp g n f=true)(h1:dJ env n f x=some (.p (some (id,off))))(h2:dE ab (c.drop off)=some v)
  (h:da env aK D n ops (di f d v) J Q):da env aK D n (⟨some d,.load ab x,g,wn⟩::ops) f J Q:=az.val hd hw (nZ _ _ h1 (tv al h2)) h
def dv.go{d:Nat}{op:AOp}{g:Option (Nat×Bool)}{ops:List a2}{v:AV}{Q:(Nat->AV)->Prop}(_hb:a0P op=true)(hd:Nat.blt d n=true)(hw:hp g n f=true)(ho:opx 0 (dJ env n f) J op=some (.val v J))(h:dv env D n ops (di f d v) J Q):
  dv env D n (⟨some d,op,g,[]⟩::ops) f J Q:=dv.val hd hw ho h
def dv.bin{d:Nat}{op:BinOp}{x y:aJ}{g:Option (Nat×Bool)}{ops:List a2}{a b v:AV}{Q:(Nat->AV)->Prop}(hd:Nat.blt d n=true)(hw:hp g n f=true)(h1:dJ env n f x=some a)(h2:dJ env n f y=some b)(h3:binop op a b=some v)
  (h:dv env D n ops (di f d v) J Q):dv env D n (⟨some d,.bin op x y,g,[]⟩::ops) f J Q:=dv.val hd hw (FQ a b v h1 h2 h3) h
def dv.cK{d:Nat}{ab:Option Nat}{x:aJ}{g:Option (Nat×Bool)}{ops:List a2}{id off:Nat}{c:List AV}{v:AV}{Q:(Nat->AV)->Prop}(al:J.get id=some (.cells c))(hd:Nat.blt d n=true)(hw:hp g n f=true)(h1:dJ env n f x=some (.p (some (id,off))))(h2:dE ab (c.drop off)=some v)
  (h:dv env D n ops (di f d v) J Q):dv env D n (⟨some d,.load ab x,g,[]⟩::ops) f J Q:=dv.val hd hw (nZ _ _ h1 (tv al h2)) h
def x3{ar:aJ->Option AV}{k:Nat}{x:aJ}{v:AV}{m:Nat}(h1:ar x=some v)(h2:lenA J k v=some m):opx 0 ar J (.len k x)=some (.val (ag m) J):=by
 show(match ar x with|some x=>(match lenA J k x with|some n=>some (bO.val (ag n) J)|none=>lenU J k x)|none=>none)=_;rw[h1];show(match lenA J k v with|some n=>some (bO.val (ag n) J)|none=>lenU J k v)=_;rw[h2]
def az.len{d k m:Nat}{x:aJ}{g:Option (Nat×Bool)}{wn:List Nat}{ops:List a2}{v:AV}(hd:Nat.blt d n=true)(hw:hp g n f=true)(h1:dJ env n f x=some v)(h2:lenA J k v=some m)(h:da env aK D n ops (di f d (ag m)) J Q):
  da env aK D n (⟨some d,.len k x,g,wn⟩::ops) f J Q:=az.val hd hw (x3 h1 h2) h
def az.idx{d:Nat}{ab:Option Nat}{x i:aJ}{g:Option (Nat×Bool)}{wn:List Nat}{ops:List a2}{k:IntKind}{a v:AV}{j:Nat}(hd:Nat.blt d n=true)(hw:hp g n f=true)(h1:dJ env n f x=some a)(h2:dJ env n f i=some (.i k (Int.ofNat j)))(h3:idxSlA ab a j=some v)
  (h:da env aK D n ops (di f d v) J Q):da env aK D n (⟨some d,.k2 ab x i,g,wn⟩::ops) f J Q:=az.val hd hw (K2 k a j v h1 h2 h3) h
def dv.idx{d:Nat}{ab:Option Nat}{x i:aJ}{g:Option (Nat×Bool)}{ops:List a2}{k:IntKind}{a v:AV}{j:Nat}{Q:(Nat->AV)->Prop}(hd:Nat.blt d n=true)(hw:hp g n f=true)(h1:dJ env n f x=some a)(h2:dJ env n f i=some (.i k (Int.ofNat j)))(h3:idxSlA ab a j=some v)
  (h:dv env D n ops (di f d v) J Q):dv env D n (⟨some d,.k2 ab x i,g,[]⟩::ops) f J Q:=dv.val hd hw (K2 k a j v h1 h2 h3) h
def az.K7{d:Nat}{ab:Option Nat}{x:aJ}{g:Option (Nat×Bool)}{wn:List Nat}{ops:List a2}{o:Bool}{v:AV}(hd:Nat.blt d n=true)(hw:hp g n f=true)(h1:dJ env n f x=some (.df o v))(h2:conf ab v=true)
  (h:da env aK D n ops (di f d v) J Q):da env aK D n (⟨some d,.load ab x,g,wn⟩::ops) f J Q:=az.val hd hw (nZ _ _ h1 (by show(if conf ab v then some v else none)=_;rw[if_pos h2])) h
def b4O{ar:aJ->Option AV}{x i:aJ}{k:IntKind}{l:List Nat}{j c:Nat}(h1:ar x=some (.s l))(h2:ar i=some (.i k (Int.ofNat j)))(h:nth l j=some c):opx 0 ar J (.JH x i)=some (.val (.i .u8 (Int.ofNat c)) J):=by
 show(match ar x,ar i with
  |some (.s l),some j=>(match natOf j with
   |some j=>(match nth l j with|some c=>some (bO.val (.i .u8 (Int.ofNat c)) J)|none=>none)
   |none=>none)
  |_,_=>none)=_
 rw[h1,h2];show(match nth l j with|some c=>some (bO.val (.i .u8 (Int.ofNat c)) J)|none=>none)=_;rw[h]
def b4P{ar:aJ->Option AV}{m:Nat}{ab:Option Nat}{x i:aJ}{k:IntKind}{o:Bool}{cs:List AV}{j:Nat}{v:AV}(h1:ar x=some (.df o (.aj cs)))(h2:ar i=some (.i k (Int.ofNat j)))(h:j<m)(h3:dE ab (cs.drop (j*shN ab))=some v):opx 0 ar J (.EB m ab x i)=some (.val (.df o v) J):=by
 show(match ar x,ar i with
  |some x,some j=>(match natOf j with
   |some j=>(if Nat.blt j m then(match fieldAddrA (j*shN ab) ab x with|some v=>some (bO.val v J)|none=>none) else none)
   |none=>none)
  |_,_=>none)=_
 rw[h1,h2];show(if Nat.blt j m then(match(match dE ab (cs.drop (j*shN ab)) with|some v=>some (AV.df o v)|none=>none) with|some v=>some (bO.val v J)|none=>none) else none)=_;rw[if_pos (show Nat.blt j m=true from kE h),h3]
def ah.cut{a b:b5}(L:List (Nat×AV))(h1:bo env aK D n a f J (λx b9 ai=>x= .normal/\ai=J/\sat L b9))(h2:∀g,bo env aK D n b (bs L g) J Q):bo env aK D n (.seq a b) f J Q:=ah.seq (h1.mono λx b9 ai ⟨aM,aU,c3⟩=>by
 subst aM;subst aU;show bo env aK D n b b9 ai Q;exact ah.norm L c3 h2)
def ah.b4Q{a b:b5}(L:List (Nat×AV)){E:dO}{M:Prop}(h1:bo env aK D n a f J (λx b9 ai=>(x= .normal/\ai=J/\sat L b9/\M)\/E x b9 ai))(h3:∀x b9 ai,E x b9 ai->x≠ .normal/\Q x b9 ai)(h2:M->∀g,bo env aK D n b (bs L g) J Q):bo env aK D n (.seq a b) f J Q:=ah.seq (h1.mono λx b9 ai h=>by
 rcases h with⟨aM,aU,c3,fK⟩|h
 ·subst aM;subst aU;show bo env aK D n b b9 ai Q;exact ah.norm L c3 λg=>h2 fK g
 ·obtain⟨aM,aU⟩:=h3 _ _ _ h;cases x with
  |normal=>exact absurd I aM
  |exit i=>exact aU
  |ret=>exact aU
  |panic v=>exact aU)
def az.box{d:Nat}{x:aJ}{g:Option (Nat×Bool)}{wn:List Nat}{ops:List a2}{v:AV}{c:List AV}(k:Nat)(hn:J.next=k)(hd:Nat.blt d n=true)(hw:hp g n f=true)(aq:dJ env n f x=some v)(hval:v.val=true)(aa:v.cells=c)
  (h:∀ai:ad,ai.next=k+1->ai.get k=some (.cells c)->(∀i o,J.get i=some o->ai.get i=some o)->da env aK D n ops (di f d (.p (some (k,0)))) ai Q):da env aK D n (⟨some d,.box x,g,wn⟩::ops) f J Q:=by
 subst hn;refine az.val (v:=kH J.next 0) (ai:=J.push (.cells c)) hd hw ?_ (h (J.push (.cells c)) I (ad.js _) λi o ho=>?_)
 ·show(match dJ env n f x with|some v=>cond v.val (some (bO.val (kH J.next 0) (J.push (.cells v.cells)))) none|none=>none)=_;rw[aq];show cond v.val _ _=_;rw[hval,cond_true,aa]
 ·rw[ad.fX trivial _ (ad.a9 ho)];exact ho
def az.alloc{d:Nat}{v:AV}{g:Option (Nat×Bool)}{wn:List Nat}{ops:List a2}{c:List AV}(k:Nat)(hn:J.next=k)(hd:Nat.blt d n=true)(hw:hp g n f=true)(aa:v.cells=c)
  (h:∀ai:ad,ai.next=k+1->ai.get k=some (.cells c)->(∀i o,J.get i=some o->ai.get i=some o)->da env aK D n ops (di f d (.p (some (k,0)))) ai Q):da env aK D n (⟨some d,.alloc v,g,wn⟩::ops) f J Q:=by
 subst hn;refine az.val (v:=kH J.next 0) (ai:=J.push (.cells c)) hd hw ?_ (h (J.push (.cells c)) I (ad.js _) λi o ho=>?_)
 ·rw[<-aa];rfl
 ·rw[ad.fX trivial _ (ad.a9 ho)];exact ho
def a0Q{ar:aJ->Option AV}{ab:Option Nat}{a x:aJ}{id off:Nat}{v:AV}{c bc:List AV}(al:J.get id=some (.cells c))(h1:ar a=some (.p (some (id,off))))(h2:ar x=some v)(g4:conf ab v=true)(aa:storeCells c off v.cells=some bc):
  opx 0 ar J (.store ab a x)=some (.val dF (J.set id (.cells bc))):=by
 show(match ar a,ar x with
  |some (.p (some (id,off))),some v=>
   if Nat.blt id 0 then none else
   if conf ab v then
    match J.get id with
    |some (.cells c)=>match storeCells c off v.cells with
     |some c=>some (bO.val dF (J.set id (.cells c)))
     |none=>none
    |_=>none
   else none
  |_,_=>none)=_
 rw[h1,h2];show(if Nat.blt id 0 then none else if conf ab v then(match J.get id with
    |some (.cells c)=>match storeCells c off v.cells with
     |some c=>some (bO.val dF (J.set id (.cells c)))
     |none=>none
    |_=>none) else none)=_
 rw[if_neg (by simp[Nat.blt,Nat.ble]),if_pos g4,al];show(match storeCells c off v.cells with|some c=>some (bO.val dF (J.set id (.cells c)))|none=>none)=_;rw[aa]
def hK{id:Nat}{o bF:AO}(al:J.get id=some o):(J.set id bF).get id=some bF/\(∀i o,i≠id->J.get i=some o->(J.set id bF).get i=some o):=by
 have hlt:=ad.a9 al;refine⟨by rw[ad.kf trivial _ hlt,if_pos I],λi o hi ho=>?_⟩;rw[ad.kf trivial _ hlt,if_neg hi];exact ho
def az.store{ab:Option Nat}{a x:aJ}{g:Option (Nat×Bool)}{wn:List Nat}{ops:List a2}{id off:Nat}{v:AV}{c bc:List AV}(al:J.get id=some (.cells c))(hw:hp g n f=true)(h1:dJ env n f a=some (.p (some (id,off))))(h2:dJ env n f x=some v)(g4:conf ab v=true)(aa:storeCells c off v.cells=some bc)
  (h:∀ai:ad,ai.next=J.next->ai.get id=some (.cells bc)->(∀i o,i≠id->J.get i=some o->ai.get i=some o)->da env aK D n ops f ai Q):da env aK D n (⟨none,.store ab a x,g,wn⟩::ops) f J Q:=
 az.uR hw (a0Q al h1 h2 g4 aa) (h _ I (hK al).1 (hK al).2)
def storeAll{c v:List AV}(h:v.length=c.length):storeCells c 0 v=some v:=by
 unfold storeCells;rw[if_pos (kE U),nq,h,List.drop_length];simp
def az.var{d:Nat}{z:AV}{ab:Option Nat}{x:aJ}{wn RQ:List Nat}{ops:List a2}{v:AV}{c:List AV}(k:Nat)(hn:J.next=k)(hd:Nat.blt d n=true)(h1:Nat.beq d d=true)(hx:dJ env n (di f d (.p (some (k,0)))) x=some v)(g4:conf ab v=true)(aa:v.cells=c)(hl:c.length=z.cells.length)
  (h:∀ai:ad,ai.next=k+1->ai.get k=some (.cells c)->(∀i o,J.get i=some o->ai.get i=some o)->da env aK D n ops (di f d (.p (some (k,0)))) ai Q):da env aK D n (⟨some d,.alloc z,none,wn⟩::⟨none,.store ab (.t d) x,none,RQ⟩::ops) f J Q:=by
 refine az.alloc k hn hd I I λbP aQ aZ bX=>?_;refine az.store (bc:=c) aZ I ?_ hx g4 (by rw[aa];exact storeAll hl) λcr dg cD dn=>h cr (dg.trans aQ) cD λi o ho=>dn i o ?_ (bX i o ho)
 ·show cond (Nat.blt d n) (some (cond (Nat.beq d d) _ (f d))) none=_;rw[hd,h1];rfl
 ·have:=ad.a9 ho;omega
def az.known{b:bJ}{K:Nat->List AV->AV->Prop}{d:Nat}{op:AOp}{g:Option (Nat×Bool)}{wn:List Nat}{ops:List a2}{fn:Nat}{args aO:List AV}{r:AV}(hf:∀g aO r bR,K g aO r->K g aO bR->r=bR)(he:b.ext fn=0)(an:b.pure fn=true)(de:K fn aO r)
  (hd:Nat.blt d n=true) (hw:hp g n f=true) (ho:opx 0 (dJ (b.aF K) n f) J op=some (.call (.f (.func fn) [] []) args)) (ha:mapO (bt J (b.bh+1000)) args=some aO) (h:da (b.aF K) aK D n ops (di f d r) J Q):da (b.aF K) aK D n (⟨some d,op,g,wn⟩::ops) f J Q:=
 az.spec hd hw ho he an ha (RM hf de) h
def dv.known{b:bJ}{K:Nat->List AV->AV->Prop}{d:Nat}{op:AOp}{g:Option (Nat×Bool)}{wn:List Nat}{ops:List a2}{fn:Nat}{args aO:List AV}{r:AV}{Q:(Nat->AV)->Prop}(hf:∀g aO r bR,K g aO r->K g aO bR->r=bR)(he:b.ext fn=0)(an:b.pure fn=true)(de:K fn aO r)
  (hd:Nat.blt d n=true) (hw:hp g n f=true) (ho:opx 0 (dJ (b.aF K) n f) J op=some (.call (.f (.func fn) [] []) args)) (ha:mapO (bt J (b.bh+1000)) args=some aO) (h:dv (b.aF K) D n ops (di f d r) J Q):dv (b.aF K) D n (⟨some d,op,g,wn⟩::ops) f J Q:=
 dv.spec hd hw ho he an ha (RM hf de) h
def mS{n:Nat}{a:AV}{x:AV}(h:bt J n a=some x):mapO (bt J n) [a]=some [x]:=by rw[qt,h];rfl
def mT{n:Nat}{a b:AV}{x y:AV}(h:bt J n a=some x)(h2:bt J n b=some y):mapO (bt J n) [a,b]=some [x,y]:=by rw[qt,h,mS h2]
def CN{n:Nat}{a b c:AV}{x y z:AV}(h:bt J n a=some x)(h2:bt J n b=some y)(h3:bt J n c=some z):mapO (bt J n) [a,b,c]=some [x,y,z]:=by rw[qt,h,mT h2 h3]
end
def slA(o:Bool)(ab:Option Nat):List AV->AV
 |[]=>.nilsl
 |x::l=>.aV o ab (x::l)
def a0R(J:ad)(o:Bool)(ab:Option Nat)(l:List AV):lenA J 1 (slA o ab l)=some l.length:=by cases l<;>rfl
def K8{α:Type}:∀ {l:List α} {i:Nat} (h:i<l.length),nth l i=some l[i]
 |[],i,h=>by simp at h
 |x::l,0,_=>rfl
 |x::l,i+1,h=>K8 (l:=l) (by simpa using h)
def FT{o:Bool}{ab:Option Nat}{l:List AV}{i:Nat}(h:i<l.length):idxSlA ab (slA o ab l) i=some (.df o l[i]):=by
 cases l with
 |nil=>simp at h
 |cons x l=>exact a0I (K8 h)
def K9{α:Type}{J:ad}{o:Bool}{ab:Option Nat}{l:List α}{f:α->AV}:lenA J 1 (slA o ab (l.map f))=some l.length:=by rw[a0R,bB]
def CO{α:Type}{o:Bool}{ab:Option Nat}{l:List α}{f:α->AV}{i:Nat}(h:i<l.length):idxSlA ab (slA o ab (l.map f)) i=some (.df o (f l[i])):=by rw[FT (by simpa using h),ez]
def FU{o:Bool}{ab:Option Nat}{l m:List AV}(h:slA o ab l=slA o ab m):l=m:=by
 cases l<;>cases m<;>simp_all [slA]
def jl{ab:Option Nat}{id off len j:Nat}{cap:Option Nat}(h:j<len):idxSlA ab (.ao id off len ab cap) j=some (.p (some (id,off+j*shN ab))):=by
 show(if Nat.blt j len&&decide (ab=ab) then some (AV.p (some (id,off+j*shN ab))) else none)=_;rw[show Nat.blt j len=true from kE h];simp
def a0S{k:Nat}{x:AV}(h:conf (some k) x=true):∃l,x= .aj l/\l.length=k:=by
 cases x with
 |aj l=>exact⟨l,rfl,gE h⟩
 |_=>cases h
def FV{x:AV}(h:conf none x=true):x.cells=[x]:=by
 cases x with
 |aj l=>cases h
 |_=>rfl
def FW{ab:Option Nat}{x:AV}{r:List AV}(h:conf ab x=true):dE ab (x.cells++r)=some x/\(x.cells++r).drop (shN ab)=r:=by
 cases ab with
 |none=>rw[FV h];exact⟨rfl,rfl⟩
 |some k=>
  obtain⟨l,rfl,hl⟩:=a0S h;subst hl;refine⟨?_,?_⟩
  ·show(let m:=(l++r).take l.length;if m.length=l.length then some (AV.aj m) else none)=_;simp
  ·show(l++r).drop l.length=r;simp
def K_{ab:Option Nat}:∀ {xs:List AV} {r:List AV},(∀x∈xs,conf ab x=true)->elems ab xs.length (xs.flatMap AV.cells++r)=some xs
 |[],r,_=>rfl
 |x::xs,r,h=>by
  have hx:=h x ay;rw[fw,elems_succ,lR,iJ,(FW hx).1,(FW hx).2,K_ λy hy=>h y (g1 _ hy)]
inductive Acc(J:ad)(ab:Option Nat):AV->List AV->Prop
 |nil:Acc J ab .nilsl []
 |ao (o:Nat) (x:AV) (xs:List AV) (h:J.get o=some (.cells ((x::xs).flatMap AV.cells))) (aa:∀y∈x::xs,conf ab y=true):Acc J ab (.ao o 0 (xs.length+1) ab none) (x::xs)
def AV.at? :AV->Option Nat
 | .ao id _ _ _ _=>some id
 |_=>none
def Acc.conf{J:ad}{ab:Option Nat}{v:AV}{xs:List AV}(h:Acc J ab v xs):∀y∈xs,conf ab y=true:=by
 cases h with
 |nil=>intro y hy;simp at hy
 |ao o x xs h aa=>exact aa
def Acc.read{J:ad}{ab:Option Nat}{v:AV}{xs:List AV}(h:Acc J ab v xs):readList J v=some xs:=by
 cases h with
 |nil=>rfl
 |ao o x xs h aa=>
  show(match J.get o with|some (.cells c)=>elems ab (xs.length+1) (c.drop 0)|_=>none)=_;rw[h];show elems ab (x::xs).length ((x::xs).flatMap AV.cells)=_;have:=K_ (r:=[]) aa;rwa[hI] at this
def Acc.aD{J ai:ad}{ab:Option Nat}{v:AV}{xs:List AV}(h:Acc J ab v xs)(aB:∀i o,v.at? =some i->J.get i=some o->ai.get i=some o):Acc ai ab v xs:=by
 cases h with
 |nil=>exact .nil
 |ao o x xs h aa=>exact .ao o x xs (aB _ _ I h) aa
def Acc.len{J τ:ad}{ab:Option Nat}{v:AV}{xs:List AV}(h:Acc J ab v xs):lenA τ 1 v=some xs.length:=by
 cases h with
 |nil=>rfl
 |ao o x xs h aa=>rfl
def Acc.append{J:ad}{ab:Option Nat}{v x:AV}{xs ba:List AV}{y:AV}{bytes:Nat}(h:Acc J ab v xs)(hx:newOf J x=some (y::ba))(aa:∀z∈y::ba,Go.Lyc.conf ab z=true)(hb:(3*(xs.length+(y::ba).length)+2000)*bytes<=281474976710656):
  ∃bn ai,appendO 0 J ab bytes v x=some (bn,ai)/\Acc ai ab bn (xs++y::ba)/\bn.at? =some J.next/\ai.next=J.next+1/\∀i o,v.at? ≠some i->J.get i=some o->ai.get i=some o:=by
 have oI:=h.conf;have hall:(cN (Go.Lyc.conf ab) xs&&cN (Go.Lyc.conf ab) (y::ba)&&Nat.ble ((3*(xs.length+(y::ba).length)+2000)*bytes) 281474976710656)=true:=by
  rw[jI oI,jI aa,kE hb];rfl
 cases h with
 |nil=>
  refine⟨.ao J.next 0 (y::ba).length ab none,J.push (.cells ((y::ba).flatMap AV.cells)),?_,?_,rfl,rfl,λi o _ ho=>?_⟩
  ·unfold appendO;rw[hx];show cond _ _ none=_;rw[hall];rfl
  ·exact .ao _ _ _ (ad.js _) aa
  ·rw[ad.fX trivial _ (ad.a9 ho)];exact ho
 |ao o wB xs h e6=>
  have ak:readList J (.ao o 0 (xs.length+1) ab none)=some (wB::xs):=(Acc.ao o wB xs h e6).read;refine⟨.ao J.next 0 (xs.length+1+(y::ba).length) ab none,(J.set o .dead).push (.cells ((wB::xs).flatMap AV.cells++(y::ba).flatMap AV.cells)),?_,?_,rfl,rfl,λi bF aY ho=>?_⟩
  ·unfold appendO;rw[ak,hx];show cond (cN (Go.Lyc.conf ab) (wB::xs)&&cN (Go.Lyc.conf ab) (y::ba)&&Nat.ble ((3*((wB::xs).length+(y::ba).length)+2000)*bytes) 281474976710656) _ none=_;rw[hall,cond_true];show(if ab=ab then(if Nat.blt o 0 then none else if Nat.beq 0 0 then some (AV.ao J.next 0 (xs.length+1+(y::ba).length) ab none,(J.set o .dead).push (.cells ((wB::xs).flatMap AV.cells++(y::ba).flatMap AV.cells))) else none) else none)=_;rw[if_pos I,if_neg (by simp[Nat.blt,Nat.ble]),if_pos (by rfl)]
  ·have e:(wB::xs)++y::ba=wB::(xs++y::ba):=rfl;rw[e];have aU:xs.length+1+(y::ba).length=(xs++y::ba).length+1:=by simp;omega
   rw[aU];refine .ao _ _ _ ?_ λz a_=>?_
   ·have:(J.set o .dead).next=J.next:=rfl;rw[<-this,ad.js];simp
   ·rcases eX.1 (show z∈(wB::xs)++y::ba from a_) with a_|a_
    ·exact e6 z a_
    ·exact aa z a_
  ·have hlt:=ad.a9 ho;rw[ad.fX trivial _ (show i<(J.set o .dead).next from hlt),ad.kf trivial _ (ad.a9 h),if_neg (λe=>aY (by rw[e];rfl))];exact ho
section
variable {env:Env}{aK:Option Nat}{D:List (Nat ⊕ (AV×List AV))}{n:Nat}{f:Nat->AV}{J:ad}{Q:dO}
def b4R{ar:aJ->Option AV}{ab:Option Nat}{bytes:Nat}{s x:aJ}{a b v:AV}{ai:ad}(h1:ar s=some a)(h2:ar x=some b)(h:appendO 0 J ab bytes a b=some (v,ai)):opx 0 ar J (.append ab bytes s x)=some (.val v ai):=by
 show(match ar s,ar x with
  |some s,some x=>(match appendO 0 J ab bytes s x with|some (v,J)=>some (bO.val v J)|none=>none)
  |_,_=>none)=_
 rw[h1,h2];show(match appendO 0 J ab bytes a b with|some (v,J)=>some (bO.val v J)|none=>none)=_;rw[h]
def az.append{d:Nat}{ab:Option Nat}{bytes:Nat}{s x:aJ}{g:Option (Nat×Bool)}{wn:List Nat}{ops:List a2}{a b:AV}{xs ba:List AV}{y:AV}(hA:Acc J ab a xs)(hx:newOf J b=some (y::ba))(aa:∀z∈y::ba,conf ab z=true)(hb:(3*(xs.length+(y::ba).length)+2000)*bytes<=281474976710656)
  (hd:Nat.blt d n=true) (hw:hp g n f=true) (h1:dJ env n f s=some a) (h2:dJ env n f x=some b)
  (h:∀v ai,Acc ai ab v (xs++y::ba)->v.at? =some J.next->ai.next=J.next+1->(∀i o,a.at? ≠some i->J.get i=some o->ai.get i=some o)->da env aK D n ops (di f d v) ai Q):da env aK D n (⟨some d,.append ab bytes s x,g,wn⟩::ops) f J Q:=by
 obtain⟨bn,ai,aQ,aZ,bX,cS,ed⟩:=hA.append hx aa hb;exact az.val hd hw (b4R h1 h2 aQ) (h bn ai aZ bX cS ed)
def az.a0T{d d0:Nat}{ab:Option Nat}{bytes:Nat}{z:List AV}{s x:aJ}{wn RQ:List Nat}{ops:List a2}{a y:AV}{xs:List AV}(hA:Acc J ab a xs)(ml:Nat.blt d0 n=true)(aq:opx 0 (dJ env n f) J (.buildSlice ab 1 z [(0,x)])=some (.val (.ao J.next 0 1 ab (some 1)) (J.push (.cells y.cells))))(aa:conf ab y=true)
  (hb:(3*(xs.length+1)+2000)*bytes<=281474976710656) (hd:Nat.blt d n=true) (h1:dJ env n (di f d0 (.ao J.next 0 1 ab (some 1))) s=some a)
  (h:∀v ai,Acc ai ab v (xs++[y])->v.at? =some (J.next+1)->ai.next=J.next+2->(∀i o,a.at? ≠some i->J.get i=some o->ai.get i=some o)->da env aK D n ops (di (di f d0 (.ao J.next 0 1 ab (some 1))) d v) ai Q):
  da env aK D n (⟨some d0,.buildSlice ab 1 z [(0,x)],none,wn⟩::⟨some d,.append ab bytes s (.t d0),none,RQ⟩::ops) f J Q:=by
 refine az.val ml I aq ?_;have hq:Acc (J.push (.cells y.cells)) ab a xs:=hA.aD λi o _ ho=>by rw[ad.fX trivial _ (ad.a9 ho)];exact ho
 have nj:newOf (J.push (.cells y.cells)) (.ao J.next 0 1 ab (some 1))=some [y]:=by
  show readList (J.push (.cells y.cells)) (.ao J.next 0 1 ab (some 1))=_;show(match(J.push (.cells y.cells)).get J.next with|some (.cells c)=>elems ab 1 (c.drop 0)|_=>none)=_;rw[ad.js];have:=K_ (ab:=ab) (xs:=[y]) (r:=[]) (by intro w hw;rw[cA.1 hw];exact aa);simpa using this
 refine az.append hq nj (by intro w hw;rw[cA.1 hw];exact aa) hb hd I h1 ?_ λv ai dg cD dn e4=>h v ai dg cD dn λi o hi ho=>e4 i o hi (by rw[ad.fX trivial _ (ad.a9 ho)];exact ho);show cond (Nat.blt d0 n) (some (cond (Nat.beq d0 d0) _ (f d0))) none=_;rw[ml,g0];rfl
end
end
section
open Go.RowKit
inductive Tm where
 |mk (var:Bool) (name:List Nat) (args:Option (List Tm))
inductive Fm where
 |mk (op:Nat) (name:List Nat) (args:Option (List Tm)) (sub:Option (List Fm))
def Tm.var:Tm->Bool| .mk v _ _=>v
def Tm.name:Tm->List Nat| .mk _ n _=>n
def Tm.gW:Tm->Option (List Tm)| .mk _ _ a=>a
def Tm.args(t:Tm):List Tm:=t.gW.getD []
def Fm.op:Fm->Nat| .mk o _ _ _=>o
def Fm.name:Fm->List Nat| .mk _ n _ _=>n
def Fm.gW:Fm->Option (List Tm)| .mk _ _ a _=>a
def Fm.args(f:Fm):List Tm:=f.gW.getD []
def Fm.gz:Fm->Option (List Fm)| .mk _ _ _ s=>s
def Fm.sub(f:Fm):List Fm:=f.gz.getD []
def osl(o:Bool)(ab:Option Nat):Option (List AV)->AV
 |none=>.nilsl
 |some l=>.aV o ab l
mutual
def Tm.cells(o:Bool):Tm->List AV
 | .mk v n none=>[.b v,.s n,.nilsl]
 | .mk v n (some l)=>[.b v,.s n,.aV o (some 3) (Tm.lA o l)]
def Tm.lA(o:Bool):List Tm->List AV
 |[]=>[]
 |t::l=>.aj (t.cells o)::Tm.lA o l
end
def Tm.A(o:Bool)(t:Tm):AV:=.aj (t.cells o)
def Tm.Ae(o:Bool):∀l,Tm.lA o l=l.map (Tm.A o)
 |[]=>by simp[Tm.lA]
 |t::l=>by rw[Tm.lA,Tm.Ae o l];rfl
def jJ(o:Bool)(l:Option (List Tm)):AV:=osl o (some 3) (l.map λl=>l.map (Tm.A o))
def Tm.kj(o:Bool)(t:Tm):t.cells o=[.b t.var,.s t.name,jJ o t.gW]:=by
 obtain⟨v,n,a⟩:=t;cases a with
 |none=>rw[Tm.cells];rfl
 |some l=>rw[Tm.cells,Tm.Ae];rfl
mutual
def Fm.cells(o:Bool):Fm->List AV
 | .mk op n a none=>[.i .u8 (Int.ofNat op),.s n,jJ o a,.nilsl]
 | .mk op n a (some l)=>[.i .u8 (Int.ofNat op),.s n,jJ o a,.aV o (some 4) (Fm.lA o l)]
def Fm.lA(o:Bool):List Fm->List AV
 |[]=>[]
 |f::l=>.aj (f.cells o)::Fm.lA o l
end
def Fm.A(o:Bool)(f:Fm):AV:=.aj (f.cells o)
def Fm.Ae(o:Bool):∀l,Fm.lA o l=l.map (Fm.A o)
 |[]=>by simp[Fm.lA]
 |f::l=>by rw[Fm.lA,Fm.Ae o l];rfl
def iW(o:Bool)(l:Option (List Fm)):AV:=osl o (some 4) (l.map λl=>l.map (Fm.A o))
def Fm.kj(o:Bool)(f:Fm):f.cells o=[.i .u8 (Int.ofNat f.op),.s f.name,jJ o f.gW,iW o f.gz]:=by
 obtain⟨op,n,a,s⟩:=f;cases s with
 |none=>rw[Fm.cells];rfl
 |some l=>rw[Fm.cells,Fm.Ae];rfl
mutual
def Tm.La(o:Bool):∀(t u:Tm),t.cells o=u.cells o->t=u
 | .mk v n none,.mk bn pL none,h=>by simp only[Tm.cells,vL,AV.b.injEq,AV.s.injEq] at h;rw[h.1,h.2.1]
 | .mk v n none,.mk bn pL (some l),h=>by simp[Tm.cells] at h
 | .mk v n (some l),.mk bn pL none,h=>by simp[Tm.cells] at h
 | .mk v n (some l),.mk bn pL (some bD),h=>by
  simp only[Tm.cells,vL,AV.b.injEq,AV.s.injEq,AV.aV.injEq,true_and,and_true] at h;rw[h.1,h.2.1,Tm.CP o l bD h.2.2]
def Tm.CP(o:Bool):∀(l m:List Tm),Tm.lA o l=Tm.lA o m->l=m
 |[],[],_=>rfl
 |[],_::_,h=>by simp[Tm.lA] at h
 |_::_,[],h=>by simp[Tm.lA] at h
 |a::l,b::m,h=>by
  simp only[Tm.lA,vL,AV.aj.injEq] at h;rw[Tm.La o a b h.1,Tm.CP o l m h.2]
end
def a0U{o:Bool}{a b:Option (List Tm)}(h:jJ o a=jJ o b):a=b:=by
 cases a with
 |none=>cases b with
  |none=>rfl
  |some m=>cases h
 |some l=>cases b with
  |none=>cases h
  |some m=>
   simp only[jJ,osl,Eu,AV.aV.injEq,true_and] at h;rw[<-Tm.Ae,← Tm.Ae] at h;rw[Tm.CP o l m h]
mutual
def Fm.La(o:Bool):∀(f g:Fm),f.cells o=g.cells o->f=g
 | .mk p n a none,.mk ew pL cF none,h=>by simp only[Fm.cells,vL,AV.i.injEq,AV.s.injEq,true_and] at h;rw[sY h.1,h.2.1,a0U h.2.2.1]
 | .mk p n a none,.mk ew pL cF (some l),h=>by simp[Fm.cells] at h
 | .mk p n a (some l),.mk ew pL cF none,h=>by simp[Fm.cells] at h
 | .mk p n a (some l),.mk ew pL cF (some bD),h=>by
  simp only[Fm.cells,vL,AV.i.injEq,AV.s.injEq,AV.aV.injEq,true_and,and_true] at h;rw[sY h.1,h.2.1,a0U h.2.2.1,Fm.CP o l bD h.2.2.2]
def Fm.CP(o:Bool):∀(l m:List Fm),Fm.lA o l=Fm.lA o m->l=m
 |[],[],_=>rfl
 |[],_::_,h=>by simp[Fm.lA] at h
 |_::_,[],h=>by simp[Fm.lA] at h
 |a::l,b::m,h=>by
  simp only[Fm.lA,vL,AV.aj.injEq] at h;rw[Fm.La o a b h.1,Fm.CP o l m h.2]
end
def Fm.mU{o:Bool}{f g:Fm}(h:f.A o=g.A o):f=g:=Fm.La o f g (by unfold Fm.A at h;injection h)
mutual
def Tm.dep:Tm->Nat
 | .mk _ _ none=>1
 | .mk _ _ (some l)=>Tm.iN l+1
def Tm.iN:List Tm->Nat
 |[]=>0
 |t::l=>max t.dep (Tm.iN l)
end
mutual
def Fm.dep:Fm->Nat
 | .mk _ _ a none=>Tm.iN (a.getD [])+1
 | .mk _ _ a (some l)=>max (Tm.iN (a.getD [])) (Fm.iN l)+1
def Fm.iN:List Fm->Nat
 |[]=>0
 |f::l=>max f.dep (Fm.iN l)
end
def Tm.x4:∀ {l:List Tm} {t:Tm},t∈l->t.dep<=Tm.iN l
 |[],_,h=>by simp at h
 |g::l,f,h=>by
  rw[Tm.iN];rcases c2.1 h with rfl|h
  ·omega
  ·have:=Tm.x4 h;omega
def Fm.x4:∀ {l:List Fm} {t:Fm},t∈l->t.dep<=Fm.iN l
 |[],_,h=>by simp at h
 |g::l,f,h=>by
  rw[Fm.iN];rcases c2.1 h with rfl|h
  ·omega
  ·have:=Fm.x4 h;omega
def Tm.qu(t:Tm):t.dep=Tm.iN t.args+1:=by
 obtain⟨v,n,a⟩:=t;cases a with
 |none=>rw[Tm.dep];simp[Tm.args,Tm.gW,Tm.iN]
 |some l=>rw[Tm.dep];rfl
def Fm.qu(f:Fm):f.dep=max (Tm.iN f.args) (Fm.iN f.sub)+1:=by
 obtain⟨op,n,a,s⟩:=f;cases s with
 |none=>rw[Fm.dep];simp[Fm.args,Fm.gW,Fm.sub,Fm.gz,Fm.iN]
 |some l=>rw[Fm.dep];rfl
def Tm.RR{t u:Tm}(h:u∈t.args):u.dep<t.dep:=by have:=Tm.x4 h;rw[Tm.qu t];omega
def Fm.RR{f:Fm}{u:Tm}(h:u∈f.args):u.dep<f.dep:=by have:=Tm.x4 h;rw[Fm.qu f];omega
def Fm.a0V{f g:Fm}(h:g∈f.sub):g.dep<f.dep:=by have:=Fm.x4 h;rw[Fm.qu f];omega
variable [Tok][TokOk]
def RS{α:Type}{J:ad}{k:Nat}{o:Bool}{ab:Option Nat}{l:Option (List α)}{g uS:α->AV}(h:∀x∈l.getD [],bt J k (g x)=some (uS x)):bt J (k+1) (osl o ab (l.map λl=>l.map g))=some (osl true ab (l.map λl=>l.map uS)):=by
 cases l with
 |none=>rfl
 |some l=>
  show(match mapO (bt J k) (l.map g) with|none=>none|some xs=>some (AV.aV true ab xs))=_;rw[a0N (l:=l) (h:=uS) λx hx=>h x hx];rfl
def oJ{J:ad}{k:Nat}{l bD:List AV}(h:mapO (bt J k) l=some bD):bt J (k+1) (.aj l)=some (.aj bD):=by
 show(match mapO (bt J k) l with|none=>none|some l=>some (AV.aj l))=_;rw[h]
def Tm.snap(J:ad)(o:Bool):∀(d:Nat) (t:Tm) (k:Nat),t.dep<=d->2*d+1<=k->bt J k (t.A o)=some (t.A true)
 |0,t,k,h,_=>by rw[Tm.qu] at h;omega
 |d+1,t,k,h,aB=>by
  obtain⟨k,rfl⟩:∃j,k=j+3:=⟨k-3,U⟩
  unfold Tm.A;rw[Tm.kj,Tm.kj];refine oJ ?_;have e:bt J (k+2) (jJ o t.gW)=some (jJ true t.gW):=RS (k:=k+1) λx hx=>Tm.snap J o d x (k+1) (by have:=Tm.RR (t:=t) hx;omega) U;rw[qt,qt,qt,e];rfl
def Fm.snap(J:ad)(o:Bool):∀(d:Nat) (f:Fm) (k:Nat),f.dep<=d->2*d+1<=k->bt J k (f.A o)=some (f.A true)
 |0,f,k,h,_=>by rw[Fm.qu] at h;omega
 |d+1,f,k,h,aB=>by
  obtain⟨k,rfl⟩:∃j,k=j+3:=⟨k-3,U⟩
  unfold Fm.A;rw[Fm.kj,Fm.kj];refine oJ ?_;have aM:bt J (k+2) (jJ o f.gW)=some (jJ true f.gW):=RS (k:=k+1) λx hx=>Tm.snap J o d x (k+1) (by have:=Fm.RR (f:=f) hx;omega) U;have aU:bt J (k+2) (iW o f.gz)=some (iW true f.gz):=RS (k:=k+1) λx hx=>Fm.snap J o d x (k+1) (by have:=Fm.a0V (f:=f) hx;omega) U;rw[qt,qt,qt,qt,aM,aU];rfl
def a0W{α:Type}{J:ad}{o:Bool}{ab:Option Nat}{l:Option (List α)}{g:α->AV}:lenA J 1 (osl o ab (l.map λl=>l.map g))=some (l.getD []).length:=by
 cases l with
 |none=>rfl
 |some l=>show some (l.map g).length=_;rw[bB];rfl
def b4S{α:Type}{o:Bool}{ab:Option Nat}{l:Option (List α)}{g:α->AV}{i:Nat}(h:i<(l.getD []).length):idxSlA ab (osl o ab (l.map λl=>l.map g)) i=some (.df o (g ((l.getD [])[i]))):=by
 cases l with
 |none=>simp at h
 |some l=>
  refine a0I ?_;have h:i<l.length:=h;rw[K8 (by simpa using h),ez];rfl
def Fm.len(o:Bool)(f:Fm):(f.cells o).length=4:=by rw[Fm.kj];rfl
def Fm.conf(o:Bool)(f:Fm):conf (some 4) (f.A o)=true:=by unfold Fm.A;rw[Fm.kj];rfl
def Fm.cK(o:Bool)(f:Fm):dE (some 4) ((f.cells o).drop 0)=some (f.A o):=by unfold Fm.A;rw[Fm.kj];rfl
def Fm.su(o:Bool)(f:Fm):dE none ((f.cells o).drop 0)=some (.i .u8 (Int.ofNat f.op)):=by rw[Fm.kj];rfl
def Fm.b4T(o:Bool)(f:Fm):dE none ((f.cells o).drop 1)=some (.s f.name):=by rw[Fm.kj];rfl
def Fm.a0X(o:Bool)(f:Fm):dE none ((f.cells o).drop 2)=some (jJ o f.gW):=by rw[Fm.kj];rfl
def Fm.b4U(o:Bool)(f:Fm):dE none ((f.cells o).drop 3)=some (iW o f.gz):=by rw[Fm.kj];rfl
def b4V{J:ad}{o:Bool}{l:Option (List Tm)}:lenA J 1 (jJ o l)=some (l.getD []).length:=a0W
def b4W{J:ad}{o:Bool}{l:Option (List Fm)}:lenA J 1 (iW o l)=some (l.getD []).length:=a0W
def b4X{o:Bool}{l:Option (List Fm)}{i:Nat}(h:i<(l.getD []).length):idxSlA (some 4) (iW o l) i=some (.df o (((l.getD [])[i]).A o)):=b4S h
mutual
def Fm.parts:Fm->List Fm
 | .mk op n a none=>[.mk op n a none]
 | .mk op n a (some l)=>.mk op n a (some l)::Fm.uY l
def Fm.uY:List Fm->List Fm
 |[]=>[]
 |f::l=>f.parts++Fm.uY l
end
def Fm.parts_eq(f:Fm):f.parts=f::Fm.uY f.sub:=by
 obtain⟨op,n,a,s⟩:=f;cases s with
 |none=>rw[Fm.parts];simp[Fm.sub,Fm.gz,Fm.uY]
 |some l=>rw[Fm.parts];rfl
inductive Tm.kN:Tm->Prop
 |mk {v:Bool} {n:List Nat} {a:Option (List Tm)} (hl:(a.getD []).length<2^62) (h:∀x∈a.getD [],Tm.kN x):Tm.kN (.mk v n a)
inductive Fm.kN:Fm->Prop
 |mk {op:Nat} {n:List Nat} {a:Option (List Tm)} {s:Option (List Fm)} (mM:(a.getD []).length<2^62) (ha:∀x∈a.getD [],Tm.kN x) (hl:(s.getD []).length<2^62) (h:∀x∈s.getD [],Fm.kN x):Fm.kN (.mk op n a s)
def Fm.kN.b4Y{t:Fm}(h:t.kN):t.sub.length<2^62:=by cases h with|mk _ _ hl _=>exact hl
def Fm.kN.sb{t:Fm}(h:t.kN):∀x∈t.sub,x.kN:=by cases h with|mk _ _ _ h=>exact h
end
section
variable [Tok][TokOk]
open Go Go.RowKit Go.ChangeShapes Go.WideShapes
def b4Z{H:Type}{enc:TypeId×Value->H}{P:Program}{f:Func}{s:ChangeSpec}{apart fresh handsOn:Bool}{W W':World}{args:Array Value}{ds:List (DataW H)}{FX:TypeId}{aE zu:List MemPlace}
  (hf:f.resultTypes= #[FX]) (hb:P.underlying FX=some .bool) (aq:s.vars=[]) (hfn:s.fn H ds={results:=[.lit (.bool true)],args:=ds})
  (hW:DataW.Whole enc P f.params.toList s.vars apart W args.toList ds [] aE) (q_:DataW.TrodAll enc P W' 0 (λb=>decide (b<W.heap.size)) true f.params.toList args.toList ds zu)
  (aB:∀b,b<W.heap.size->W'.heap[b]? =W.heap[b]?) (ni:W'.os=W.os) (mI:W'.output=W.output):s.post enc P f apart fresh handsOn false W args (.bool true) W':=by
 refine⟨ds,[],aE,[],zu,[],hW,?_,?_,?_,b4B aB ni mI,λh=>by cases h⟩
 ·rw[hI,hfn,hf];exact trodAll_mk1 (shut_bool hb _)
 ·rw[hI,hfn];exact q_
 ·rw[hI,hfn,aq];rfl
def calls_trueS{H:Type}{enc:TypeId×Value->H}{P:Program}{env:Env}{f:Func}{s:ChangeSpec}{apart fresh handsOn:Bool}{W:World}{args:Array Value}{ds:List (DataW H)}{FX:TypeId}{g:Nat}{aO:List AV}{aE zu:List MemPlace}
  (ct:∀b2,SpecEntry P env b2 g aO (.b true)) (dt:Globs env W W.heap.size) (ha:bQ W (λ_=>none) (λ_=>False) W.heap.size aO args.toList)
  (hf:f.resultTypes= #[FX]) (hb:P.underlying FX=some .bool) (aq:s.vars=[]) (hfn:s.fn H ds={results:=[.lit (.bool true)],args:=ds})
  (hW:DataW.Whole enc P f.params.toList s.vars apart W args.toList ds [] aE) (q_:∀W':World,Below W.heap.size W W'->DataW.TrodAll enc P W' 0 (λb=>decide (b<W.heap.size)) true f.params.toList args.toList ds zu):
  Calls P g args W λe W'=>∃v,e= .returned v/\s.post enc P f apart fresh handsOn false W args v W':=by
 refine((ct W.heap.size).calls (a8 _) dt ha).mono λe W' ⟨u,he,hR,cz,aB,ni,qU,mI⟩=>?_;cases hR;exact⟨_,he,b4Z hf hb aq hfn hW (q_ W' ⟨ni,qU,mI,cz,aB⟩) aB ni mI⟩
def bytes_R{H:Type}{enc:TypeId×Value->H}{P:Program}{W:World}{t e:TypeId}{v:Value}{d:DataW H}{aE:List MemPlace}{zZ:Nat}(ht:P.underlying t=some (.slice e))(he:P.underlying e=some (.int .u8))(aa:P.cellsOf e=1)
  (hval:Value.okWide P W .any zZ t v) (hd:DataW.Trod enc P W 0 (λ_=>true) true t v d aE):
  ∃o:Option (List Nat),R W (λ_=>none) (λ_=>False) W.heap.size (osl true none (o.map λl=>l.map λc=>AV.i .u8 (Int.ofNat c))) v/\(∀c∈o.getD [],c<256)/\(o=none\/∃es sp,d= .slice es sp/\(o.getD []).length=es.length):=by
 obtain⟨a,len,cap,rfl⟩:=okWide_slice ht hval;obtain⟨fuel,hf⟩:=hd;rcases open_ints ht he aa hf with⟨h0,_⟩|⟨cF,b5a,gF,e5,h0,_,hl,hm,a_,hx,zE,z5⟩
 ·have h0:[Value.slice a len cap]=[.slice none 0 0]:=h0;injection h0 with h0 _
  rw[h0];exact⟨none,.nilsl,ay,.inl I⟩
 ·have h0:[Value.slice a len cap]=[.slice (some cF) b5a gF]:=h0;injection h0 with h0 _
  injection h0 with h1 h2 h3
  subst h1 h2 h3;have hval:cF.spot=none/\∃row cells,W.shape? cF.block=some (row,cells):=by
   have aq:=hval;simp only[Value.okWide,ht,Cell.okWide,Cell.ok] at aq;obtain⟨_,_,_,h,row,cells,h2,_⟩:=aq;exact⟨h,row,cells,h2⟩
  obtain⟨fI,row,cells,RT⟩:=hval;obtain⟨aG,off,sp⟩:=cF;have fI:sp=none:=fI;subst fI;have ov:e5.length=cap:=by simpa using a_
  have hb:∀i,i<e5.length->0<=e5.getD i 0/\e5.getD i 0<=255:=λi hi=>by
   have hm:e5.getD i 0∈e5:=by
    rw[fD,cp hi];exact bC hi
   exact bounds_u8 (z5 _ hm)
  refine⟨some ((e5.take len).map Int.toNat),?_,λc aa=>?_,.inr ⟨_,_,congrArg Prod.fst hx,by simp[lits]⟩⟩
  ·have e:osl true none ((some ((e5.take len).map Int.toNat)).map λl=>l.map λc=>AV.i .u8 (Int.ofNat c))= .aV true none (((e5.take len).map Int.toNat).map λc=>AV.i .u8 (Int.ofNat c)):=rfl;rw[e];have hlen:(((e5.take len).map Int.toNat).map λc=>AV.i .u8 (Int.ofNat c)).length=len:=by simp;omega
   have hc:∀i (h:i<(((e5.take len).map Int.toNat).map λc=>AV.i .u8 (Int.ofNat c)).length),(((e5.take len).map Int.toNat).map λc=>AV.i .u8 (Int.ofNat c))[i]= .i .u8 (e5.getD i 0):=λi h=>by
    rw[hlen] at h;have:=(hb i U).1;simp only[ez,sW]
    congr 1
    rw[fD,cp U] at this ⊢;show((e5[i].toNat:Nat):Int)=e5[i];exact Int.toNat_of_nonneg this
   have key:=R.aV (w:=W) (m:=λ_=>none) (O:=λ_=>False) (B:=W.heap.size) (old:=true) (ab:=none) (xs:=((e5.take len).map Int.toNat).map λc=>AV.i .u8 (Int.ofNat c)) (aG:=aG) (off:=off) (gF:=cap) (λi _=>.int .u8 (e5.getD i 0))
    (λ_=>⟨λh=>h,?_,λh=>by cases h⟩) (λi h=>by rw[hc i h];rfl) (λi h j aA=>?_) (λi h j aA=>?_) (by rw[hlen];exact hl) (λv aq x hx=>?_) (λ_=>rfl)
   ·rwa[hlen] at key
   ·unfold World.shape? at RT;cases hh:W.heap[aG]? with
    |none=>rw[hh] at RT;cases RT
    |some o=>exact(zc.1 hh).1
   ·rw[hlen] at h;rw[hc i (by rw[hlen];exact h)] at aA;have aA:j<1:=aA;obtain rfl:j=0:=by omega
    have:=zE i U;rw[add_plain] at this;show W.cell? ⟨aG,off+i*1+0,none⟩=_;rw[KZ,uh];exact this
   ·have hg:=hc i h;generalize(((e5.take len).map Int.toNat).map λc=>AV.i .u8 (Int.ofNat c))[i]=y at hg aA ⊢;subst hg;have fB:j<1:=aA;obtain rfl:j=0:=by omega
    exact .i _ _
   ·obtain⟨c,_,rfl⟩:=cT.1 aq;have hx:x∈[AV.i .u8 (Int.ofNat c)]:=hx;rw[cA.1 hx];rfl
  ·have aa:c∈(e5.take len).map Int.toNat:=aa;obtain⟨z,a_,rfl⟩:=cT.1 aa;have:=bounds_u8 (z5 z (pe a_));omega
end
section
variable [Tok][TokOk]
open Go.RowKit
def bb.mono{env:Env}{floor:Nat}{bG:AV}{args:List AV}{J:ad}{Q pJ:ee->ad->Prop}(h:bb env floor bG args J Q)(aS:∀r ai,Q r ai->pJ r ai):bb env floor bG args J pJ:=dz.mono h λ_ ho=>aS _ _ ho
def cQ(env:Env)(D ns:List (Nat ⊕ (AV×List AV)))(n:Nat)(c:b5)(f:Nat->AV)(J:ad)(Q:dO):Prop:=∀ae,jk D n f ae->gT env 0 none c ae J (CM ns n Q)
section
variable {env:Env}{D ns Zu:List (Nat ⊕ (AV×List AV))}{n:Nat}{f:Nat->AV}{J:ad}{Q:dO}
def cQ.j1{a b:b5}(h:bo env none D n a f J (λx f J=>x= .normal/\cQ env D ns n b f J Q)):cQ env D ns n (.seq a b) f J Q:=λae bE=>gT.seq ((h ae bE).mono λx ae J ⟨f,h1,h2,h3⟩=>by subst h2;exact h3 ae h1)
def cQ.wC{a b:b5}(h:cQ env D ns n a f J (λx f J=>x= .normal/\bo env none ns n b f J Q)):cQ env D ns n (.seq a b) f J Q:=λae bE=>gT.seq ((h ae bE).mono λx ae J ⟨f,h1,h2,h3⟩=>by subst h2;exact h3 ae h1)
def cQ.block{a:b5}{id:Nat}(h:cQ env D ns n a f J (λx f J=>x= .normal/\Q .normal f J)):cQ env D ns n (.block id a) f J Q:=λae bE=>gT.block ((h ae bE).mono λx ae J ⟨f,h1,h2,h3⟩=>by subst h2;exact⟨f,h1,h3⟩)
def cQ.range{dX:aJ}{aE:List Nat}{as b:b5}{g:Nat}{first cap:List AV}(hf:dJ env n f dX=some (.f (.func g) first cap))(he:env.ext g=0)
  (h:∀ao,(∀i,ao.get i=if i<n then some (f i) else none)->bb env 0 (.f (.func g) first cap) [.f (.yield (J.next+1)) [] []] ((J.push .c7).push (.loop .ready none ao aE as b J.next))
   (λr hS=>∃v st,r= .ok v/\hS.get (J.next+1)=some (.loop st none ao aE as b J.next)/\st≠ .busy/\Q .normal f (hS.set (J.next+1) (.loop .exhausted none ao aE as b J.next)))):
  cQ env D (.inl J.next::D) n (.rangeFunc dX aE as b) f J Q:=λae bE=>by
 have h':=h ae.bk bE.get;refine dz.succ (dz.then (g:=λx F=>rangeK (exec env F) 0 none ae (.inl J.next::ae.defers) (J.next+1) x) h' λo ho=>?_) λF=>?_
 ·obtain⟨r,hS⟩:=o;obtain⟨v,st,h1,h2,h3,aH⟩:=ho;have h1:r= .ok v:=h1;subst h1;have h2:hS.get (J.next+1)=some (.loop st none ae.bk aE as b J.next):=h2;refine dz.one (x:=(.normal,⟨ae.bk,.inl J.next::ae.defers,ae.gv⟩,hS.set (J.next+1) (.loop .exhausted none ae.bk aE as b J.next))) (λF=>?_) ⟨f,⟨bE.get,by show _::ae.defers=_;rw[bE.ds],bE.rc⟩,aH⟩;show(match hS.get (J.next+1) with
   |some (.loop st nf vS oq jb fq iE)=>(match st with
    | .busy=>none
    |_=>match nf with
     |none=>some [(hE.normal,(⟨ae.bk,.inl J.next::ae.defers,ae.gv⟩:Fr),hS.set (J.next+1) (.loop .exhausted nf vS oq jb fq iE))]
     |some c=>exec env F 0 none c ⟨ae.bk,.inl J.next::ae.defers,ae.gv⟩ (hS.set (J.next+1) (.loop .exhausted nf vS oq jb fq iE)))
   |_=>none)=_
  rw[h2];cases st with
  |busy=>exact absurd I h3
  |_=>rfl
 ·rw[ra];show(if Nat.blt J.next 0 then none else
   match evalA env ae.bk dX with
   |some (.f (.func g) first cap)=>
    match ED none ae J with
    |none=>none
    |some (d,bP,ds)=>
     match env.ext g with
     |0=>ks (callF env (exec env F) 0 g (first++AV.f (.yield bP.next) [] []::cap) (bP.push (.loop .ready none ae.bk aE as b d))) (rangeK (exec env F) 0 none ae ds bP.next)
     |_=>none
   |_=>none)=_
  rw[if_neg (by simp[Nat.blt,Nat.ble]),bE.ar,hf];show(match env.ext g with
     |0=>ks (callF env (exec env F) 0 g (first++AV.f (.yield (J.next+1)) [] []::cap) ((J.push .c7).push (.loop .ready none ae.bk aE as b J.next))) (rangeK (exec env F) 0 none ae (.inl J.next::ae.defers) (J.next+1))
     |_=>none)=_
  rw[he];show ks (callF env (exec env F) 0 g (first++AV.f (.yield (J.next+1)) [] []::cap) _) _=ks (callF env (exec env F) 0 g (first++[AV.f (.yield (J.next+1)) [] []]++cap) _) _;rw[iJ];rfl
end
def FY:List Nat->List AV->(Nat->AV)->Nat->AV
 |p::aE,a::as,f=>FY aE as (di f p a)
 |_,_,f=>f
def a0Y{n:Nat}:∀ {aE:List Nat} {args:List AV} {f:Nat->AV} {ao:a1 AV},cN (λp=>Nat.blt p n) aE=true->(∀i,ao.get i=if i<n then some (f i) else none)->jk [] n (FY aE args f) ⟨layAll aE args ao,[],false⟩
 |[],_,f,ao,_,h=>⟨h,rfl,rfl⟩
 |p::aE,[],f,ao,_,h=>⟨h,rfl,rfl⟩
 |p::aE,a::args,f,ao,an,h=>by
  have pG:Nat.blt p n=true:=by
   have an:cond (Nat.blt p n) (cN (λp=>Nat.blt p n) aE) false=true:=an;cases hb:Nat.blt p n with
   |true=>rfl
   |false=>rw[hb] at an;cases an
  have lD:cN (λp=>Nat.blt p n) aE=true:=by
   have an:cond (Nat.blt p n) (cN (λp=>Nat.blt p n) aE) false=true:=an;rw[pG] at an;exact an
  have h0:jk [] n f ⟨ao,[],false⟩:=⟨h,rfl,rfl⟩
  exact a0Y (f:=di f p a) (ao:=ao.set p a) lD (h0.put a pG).get
def bb.round{env:Env}{l n:Nat}{f:Nat->AV}{J:ad}{ao:a1 AV}{aE:List Nat}{as b:b5}{d:Nat}{args:List AV}{R:ad->Prop}(hl:J.get l=some (.loop .ready none ao aE as b d))(fM:∀i,ao.get i=if i<n then some (f i) else none)(lg:cN (λp=>Nat.blt p n) aE=true)(hlen:Nat.beq aE.length args.length=true)
  (h:bo env (some l) [] n as (FY aE args f) J (λx f1 bP=>x= .normal/\bP.get l=some (.loop .ready none ao aE as b d)∧
   bo env (some l) [] n b f1 (bP.set l (.loop .busy none ao aE as b d)) (λx _ cr=>x= .normal/\cr.get l=some (.loop .busy none ao aE as b d)/\R (cr.set l (.loop .ready none ao aE as b d))))):
  bb env 0 (.f (.yield l) [] []) args J (λr ai=>r= .ok (.b true)/\R ai):=by
 have h1:=h _ (a0Y (args:=args) lg fM);refine dz.congr (dz.then (g:=λx F=>roundMid (exec env F) 0 l b x) h1 λo ho=>?_) λF=>?_
 ·obtain⟨x,ev,bP⟩:=o;obtain⟨f1,RU,hx,jd,h2⟩:=ho;have hx:x= .normal:=hx;subst hx;have jd:bP.get l=some (.loop .ready none ao aE as b d):=jd;refine dz.congr (dz.then (g:=λx _=>roundEnd l x) (h2 ev RU) λo ho=>?_) λF=>?_
  ·obtain⟨x,wD,cr⟩:=o;obtain⟨f2,_,hx,nW,hR⟩:=ho;have hx:x= .normal:=hx;subst hx;have nW:cr.get l=some (.loop .busy none ao aE as b d):=nW;refine dz.one (x:=(.ok (.b true),cr.set l (.loop .ready none ao aE as b d))) (λ_=>?_) ⟨rfl,hR⟩;show(endRound cr l none).map (λx=>[x])=_;unfold endRound;rw[nW];rfl
  ·show(match bP.get l with
    |some (.loop .ready nf vS oq jb fq iE)=>ks (exec env F 0 (some l) b ev (bP.set l (.loop .busy nf vS oq jb fq iE))) (roundEnd l)
    |_=>none)=_
   rw[jd]
 ·show(if Nat.blt l 0 then none else
   match J.get l with
   |some (.loop .ready _ ao aE as b _)=>cond (Nat.beq aE.length args.length) (ks (exec env F 0 (some l) as ⟨layAll aE args ao,[],false⟩ J) (roundMid (exec env F) 0 l b)) none
   |_=>none)=_
  rw[if_neg (by simp[Nat.blt,Nat.ble]),hl];show cond (Nat.beq aE.length args.length) _ none=_;rw[hlen,cond_true]
section
variable {env:Env}{aK:Option Nat}{D:List (Nat ⊕ (AV×List AV))}{n:Nat}{f:Nat->AV}{J:ad}{Q:dO}
def az.iy{d:Nat}{op:AOp}{g:Option (Nat×Bool)}{wn:List Nat}{ops:List a2}{bG:AV}{args:List AV}{R:ee->ad->Prop}(hd:Nat.blt d n=true)(hw:hp g n f=true)(ho:opx 0 (dJ env n f) J op=some (.call bG args))(aa:bb env 0 bG args J R)
  (h:∀r ai,R r ai->∃v,r= .ok v/\da env aK D n ops (di f d v) ai Q):da env aK D n (⟨some d,op,g,wn⟩::ops) f J Q:=λae bE=>
 ld.call (by rw[bE.wanted];exact hw) (by rw[bE.ar];exact ho) (aa.mono λr ai ak=>by
  obtain⟨v,rfl,aq⟩:=h r ai ak;exact aq _ (bE.put v hd))
def bb.code{fn:Nat}{cj:gr}{body:b5}{dp:Nat}{first cap args:List AV}{R:ee->ad->Prop}(he:env.ext fn=0)(an:env.pure fn=false)(hf:env.funcs fn=some cj)(hb:cj.body=some body)
  (hn:(Nat.beq (first++args++cap).length cj.kF&&Nat.ble (first++args++cap).length cj.ntmps)=true) (c0:cj.results=[(dp,none)]) (oK:Nat.blt dp cj.ntmps=true)
  (h:ah env cj.ntmps body (gy (first++args++cap)) J (λx b9 ai=>x= .ret/\R (.ok (b9 dp)) ai)):bb env 0 (.f (.func fn) first cap) args J R:=by
 have hle:(first++args++cap).length<=cj.ntmps:=by
  simp only[dD] at hn;exact g7 hn.2
 refine bb.run he an hf hb hn ((h _ (wA hle)).mono λx bZ ai ⟨b9,h1,h2,h3⟩=>?_);subst h2;exact⟨.ok (b9 dp),ai,a0K h1 c0 oK,h3⟩
def bb.mV{fn:Nat}{cj:gr}{body:b5}{first cap args:List AV}{R:ee->ad->Prop}(he:env.ext fn=0)(an:env.pure fn=false)(hf:env.funcs fn=some cj)(hb:cj.body=some body)
  (hn:(Nat.beq (first++args++cap).length cj.kF&&Nat.ble (first++args++cap).length cj.ntmps)=true) (c0:cj.results=[])
  (h:ah env cj.ntmps body (gy (first++args++cap)) J (λx _ ai=>(x= .ret\/x= .normal)/\R (.ok (.bg [])) ai)):bb env 0 (.f (.func fn) first cap) args J R:=by
 have hle:(first++args++cap).length<=cj.ntmps:=by
  simp only[dD] at hn;exact g7 hn.2
 refine bb.run he an hf hb hn ((h _ (wA hle)).mono λx bZ ai ⟨b9,h1,h2,h3⟩=>?_);refine⟨.ok (.bg []),ai,?_,h3⟩;have e:endF env 0 cj (.ret,bZ,ai)=some [(.ok (.bg []),ai)]:=by
  show(match leave 0 (callD env 0) bZ.defers none ai with
   |none=>none
   |some (some v,J)=>some [(ee.err v,J)]
   |some (none,J)=>match resultsOf J bZ.bk cj.results with
    |some v=>some [(.ok v,J)]
    |none=>none)=_
  rw[h1.ds,c0];rfl
 rcases h2 with rfl|rfl
 ·exact e
 ·exact e
end
def a0Z{env:Env}{fn:gr}{n d dp:Nat}{f:Nat->AV}{ae:Fr}{J:ad}(h1:jk [.inl d] n f ae)(hm:J.get d=some .c7)(c0:fn.results=[(dp,none)])(hd:Nat.blt dp n=true):endF env 0 fn (.ret,ae,J)=some [(.ok (f dp),J.set d .dead)]:=by
 show(match leave 0 (callD env 0) ae.defers none J with
  |none=>none
  |some (some v,J)=>some [(ee.err v,J)]
  |some (none,J)=>match resultsOf J ae.bk fn.results with
   |some v=>some [(.ok v,J)]
   |none=>none)=_
 have hl:leave 0 (callD env 0) ae.defers none J=some (none,J.set d .dead):=by
  rw[h1.ds];show(if Nat.blt d 0 then none else match J.get d with
   |some .c7=>some (none,J.set d .dead)
   |_=>none)=_
  rw[if_neg (by simp[Nat.blt,Nat.ble]),hm]
 rw[hl];show(match resultsOf (J.set d .dead) ae.bk fn.results with|some v=>some [(ee.ok v,J.set d .dead)]|none=>none)=_;rw[c0];have hg:=h1.get dp;have RL:dp<n:=g7 hd;rw[if_pos RL] at hg;have aM:resultOf (J.set d .dead) ae.bk (dp,none)=some (f dp):=by
  unfold resultOf;rw[hg]
 have:resultsOf (J.set d .dead) ae.bk [(dp,none)]=some (f dp):=by
  unfold resultsOf;have e:mapO (resultOf (J.set d .dead) ae.bk) [(dp,none)]=some [f dp]:=by
   unfold mapO;simp only[aM]
  rw[e]
 rw[this]
def bb.Lb{env:Env}{J:ad}{fn:Nat}{cj:gr}{body:b5}{dp d:Nat}{first cap args:List AV}{R:ee->ad->Prop}(he:env.ext fn=0)(an:env.pure fn=false)(hf:env.funcs fn=some cj)(hb:cj.body=some body)
  (hn:(Nat.beq (first++args++cap).length cj.kF&&Nat.ble (first++args++cap).length cj.ntmps)=true) (c0:cj.results=[(dp,none)]) (oK:Nat.blt dp cj.ntmps=true)
  (h:cQ env [] [.inl d] cj.ntmps body (gy (first++args++cap)) J (λx b9 ai=>x= .ret/\ai.get d=some .c7/\R (.ok (b9 dp)) (ai.set d .dead))):bb env 0 (.f (.func fn) first cap) args J R:=by
 have hle:(first++args++cap).length<=cj.ntmps:=by
  simp only[dD] at hn;exact g7 hn.2
 refine bb.run he an hf hb hn ((h _ (wA hle)).mono λx bZ ai ⟨b9,h1,h2,h3,aH⟩=>?_);subst h2;exact⟨.ok (b9 dp),_,a0Z h1 h3 c0 oK,aH⟩
def b5b{P:Program}{b:bJ}{K:Nat->List AV->AV->Prop}(hb:lb P b)(de:uX P b K){g:Nat}{fn:gr}{body:b5}{aO:List AV}{dp d:Nat}(r:AV)(hf:b.funcs.get g=some fn)(jt:fn.body=some body)
  (hn:(Nat.beq aO.length fn.kF&&Nat.ble aO.length fn.ntmps)=true) (c0:fn.results=[(dp,none)]) (hd:Nat.blt dp fn.ntmps=true) {ae:Nat} (ak:fs ae r=true) (gQ:AV.eqb 1000 r r=true)
  (h:cQ (b.aF K) [] [.inl d] fn.ntmps body (gy aO) ⟨.nil,0⟩ (λx f ai=>x= .ret/\ai.get d=some .c7/\freeze (ai.set d .dead) 0 1000 (f dp)=some r)) (b2:Nat):SpecEntry P (b.env []) b2 g aO r:=by
 have hle:aO.length<=fn.ntmps:=by
  simp only[dD] at hn;exact g7 hn.2
 refine K1 (env:=b.aF K) (m:=1000) (Aa _ _) ⟨λg cj hg=>nY.z7 hb.funcs g cj hg⟩ (λb2 g aO r al=>de g aO r (K3 al) b2) hb.ext hb.CL hf jt hn ak ((h _ (wA hle)).mono λx ae ai ⟨f,h1,h2,h3,aH⟩=>?_) gQ b2;subst h2;exact⟨.ok (f dp),_,a0Z h1 h3 c0 hd,_,rfl,aH⟩
def b5c{J ai:ad}(aB:∀i c,J.get i=some (.cells c)->ai.get i=some (.cells c)){v:AV}{l:List AV}(h:readList J v=some l):readList ai v=some l:=by
 cases v with
 |ao id off len ab cap=>
  have h:(match J.get id with|some (.cells c)=>elems ab len (c.drop off)|_=>none)=some l:=h;show(match ai.get id with|some (.cells c)=>elems ab len (c.drop off)|_=>none)=some l;cases hg:J.get id with
  |none=>rw[hg] at h;cases h
  |some o=>
   cases o with
   |cells c=>rw[hg] at h;rw[aB id c hg];exact h
   |_=>rw[hg] at h;cases h
 |nilsl=>exact h
 |aV o ab xs=>exact h
 |_=>cases h
def CQ{J:ad}{n:Nat}{xs:List AV}{w:AV}(h:bt J (n+1) (.aj xs)=some w):∃e5,mapO (bt J n) xs=some e5/\w= .aj e5:=by
 rw[snapshot_succ] at h;simp only[] at h;cases hm:mapO (bt J n) xs with
 |none=>rw[hm] at h;cases h
 |some e5=>rw[hm] at h;cases h;exact⟨e5,rfl,rfl⟩
def Af{k:IntKind}{a c:Nat}(aa:c≠0):binop .rem (.i k (Int.ofNat a)) (.i k (Int.ofNat c))=some (.i k (Int.ofNat (a%c))):=by
 show(if k=k then binI .rem k (Int.ofNat a) (Int.ofNat c) else none)=_;rw[if_pos I];show(if Int.ofNat c=0 then none else some (AV.i k ((Int.ofNat a).tmod (Int.ofNat c))))=_;rw[if_neg (by simpa using aa)];rfl
def calm:AOp->Bool
 | .call _ _=>false
 | .mE _ _=>false
 | .vP _=>false
 | .len 0 _=>false
 |_=>true
def CR:Option bO->Prop
 |none=>True
 |some (.val _ _)=>True
 |some (.panic _)=>True
 |_=>False
def b5d{c:Bool}{a b:Option bO}(ha:CR a)(hb:CR b):CR (cond c a b):=by cases c<;>assumption
def b5e{k:Nat}{x:aJ}{v:AV}{J:ad}(h:calm (.len k x)=true):CR (lenU J k v):=by
 cases k with
 |zero=>cases h
 |succ k=>exact trivial
set_option maxHeartbeats 0 in
def RV{floor:Nat}{ar:aJ->Option AV}{J:ad}:∀ {op:AOp},calm op=true->CR (opx floor ar J op):=by
 intro op h;cases op<;>first
  |(cases h;done)
  |(simp only[opx];repeat' split)<;>(first|trivial|exact b5e h|exact b5d trivial trivial|(simp_all [CR];done))
def b5f{α:Type}:Option (List α)->Prop
 |none=>True
 |some l=>∃x,l=[x]
def Lc(env:Env)(gs:List Nat):Prop:=∀g∈gs,∀F args J,b5f (callV env (exec env F) 0 (.f (.func g) [] []) args J)
def Lc.nil{env:Env}:Lc env []:=λ_ h=>absurd h ay
def x5(gs:List Nat)(g:Nat):Bool:=gs.any λx=>Nat.beq x g
def Ld{g:Nat}{gs:List Nat}(h:x5 gs g=true):g∈gs:=by
 obtain⟨x,h1,h2⟩:=Kc.1 h;rw[<-gE h2];exact h1
def FZ(gs:List Nat)(o:a2):Bool:=
 (match o.jS with|[]=>true|_::_=>false)&&(match o.op with
  | .call (.fn g) _=>x5 gs g
  |op=>calm op)
def b5g{gs:List Nat}{o:a2}(h:FZ gs o=true):o.jS=[]/\((∃g as,o.op= .call (.fn g) as/\g∈gs)\/calm o.op=true):=by
 obtain⟨d,op,Le,w⟩:=o;cases w with
 |cons a l=>cases h
 |nil=>
  refine⟨rfl,?_⟩;cases op with
  |call c as=>cases c with
   |fn g=>exact .inl ⟨g,as,rfl,Ld h⟩
   |val x=>cases h
  |_=>exact .inr h
abbrev RW(J τ:ad):Prop:=∀i o,J.get i=some o->τ.get i=some o
def RX{env:Env}{gs:List Nat}(hg:Lc env gs){F:Nat}{dc:Bool}:∀ {ops:List a2},cN (FZ gs) ops=true->∀ {ae:Fr} {J:ad} {outs:oo},runOps env 0 (callV env (exec env F) 0) dc ops ae J=some outs->(∀o∈outs,o.1= .normal)->outs≠[]→
  ∃bZ nw ai,outs=[(.normal,bZ,ai)]/\nw.length=ops.length/\(∃t,(ai::nw).reverse=J::t)/\∀ch ws,runDraw env 0 (callV env (exec env F) 0) ops ae ch ws J=some (bZ,nw++ch,ws,ai)
 |[],_,ae,J,outs,h,_,_=>by
  cases h;exact⟨ae,[],J,rfl,rfl,⟨[],rfl⟩,λ_ _=>rfl⟩
 |o::ops,al,ae,J,outs,h,hn,aY=>by
  have h1:FZ gs o=true:=nv al o ay;have h2:cN (FZ gs) ops=true:=jI λx hx=>nv al x (g1 _ hx);rw[Cq] at h;obtain⟨hw,fj⟩:=b5g h1;have fin:∀ {ev:Fr} {bP:ad},runOps env 0 (callV env (exec env F) 0) dc ops ev bP=some outs->(∀ch ws,runDraw env 0 (callV env (exec env F) 0) (o::ops) ae ch ws J=runDraw env 0 (callV env (exec env F) 0) ops ev (J::ch) ws bP)→
    ∃bZ nw ai,outs=[(.normal,bZ,ai)]/\nw.length=(o::ops).length/\(∃t,(ai::nw).reverse=J::t)/\∀ch ws,runDraw env 0 (callV env (exec env F) 0) (o::ops) ae ch ws J=some (bZ,nw++ch,ws,ai):=λ{ev bP} ak hd=>by
   obtain⟨bZ,nw,ai,aQ,aZ,_,cS⟩:=RX hg h2 ak hn aY;refine⟨bZ,nw++[J],ai,aQ,by simp[aZ],⟨(ai::nw).reverse,by rw[<-zf,a0z];rfl⟩,λch ws=>?_⟩;rw[hd,cS,iJ];rfl
  cases hwt:wantedA o.guard ae.bk with
  |false=>
   rw[hwt,cond_false] at h;exact fin h λch ws=>by rw[Ad,hwt,cond_false]
  |true=>
   rw[hwt,cond_true] at h;cases hx:opx 0 (evalA env ae.bk) J o.op with
   |none=>rw[hx] at h;cases h
   |some r=>
    rw[hx] at h;cases r with
    |val v bP=>exact fin h λch ws=>by rw[Ad,hwt,cond_true,hx,hw]
    |panic v=>cases h;have:=hn _ (cA.2 I);cases this
    |call bG args=>
     have dS:∃g,bG= .f (.func g) [] []/\g∈gs:=by
      rcases fj with⟨g,as,ho,fi⟩|fj
      ·rw[ho] at hx;refine⟨g,?_,fi⟩;simp only[opx] at hx
       repeat' split at hx
       all_goals first|(cases hx;done)|(rename_i a _;cases hx;cases a;rfl)
      ·have:=RV (floor:=0) (ar:=evalA env ae.bk) (J:=J) fj;rw[hx] at this;exact this.elim
     obtain⟨g,hU,fi⟩:=dS;subst hU;have h:ks (callV env (exec env F) 0 (.f (.func g) [] []) args J) (λr=>match r with
      |(.ok v,J)=>runOps env 0 (callV env (exec env F) 0) dc ops (ae.put o.dst v) J
      |(.err v,J)=>some [(.panic v,ae,J)])=some outs:=h
     have h1:=hg g fi F args J;cases aa:callV env (exec env F) 0 (.f (.func g) [] []) args J with
     |none=>rw[aa] at h;cases h
     |some l=>
      rw[aa] at h1 h;obtain⟨x,rfl⟩:=h1;obtain⟨rt,bP⟩:=x;have e:∀(f:ee×ad->Option oo),ks (some [(rt,bP)]) f=f (rt,bP):=λf=>by
       rfl
      rw[e] at h;cases rt with
      |err v=>cases h;have:=hn _ (cA.2 I);cases this
      |ok v=>
       have h:runOps env 0 (callV env (exec env F) 0) dc ops (ae.put o.dst v) bP=some outs:=h;refine fin h λch ws=>?_;rw[Ad,hwt,cond_true,hx];show(match callV env (exec env F) 0 (.f (.func g) [] []) args J with|some [(.ok v,ai)]=>runDraw env 0 (callV env (exec env F) 0) ops (ae.put o.dst v) (J::ch) ws ai|_=>none)=_;rw[aa]
    |mE bG args=>
     exfalso;rcases fj with⟨g,as,ho,fi⟩|fj
     ·rw[ho] at hx;simp only[opx] at hx
      repeat' split at hx
      all_goals first|(cases hx;done)|(simp_all;done)
     ·have:=RV (floor:=0) (ar:=evalA env ae.bk) (J:=J) fj;rw[hx] at this;exact this.elim
    |kG l=>
     exfalso;rcases fj with⟨g,as,ho,fi⟩|fj
     ·rw[ho] at hx;simp only[opx] at hx
      repeat' split at hx
      all_goals first|(cases hx;done)|(simp_all;done)
     ·have:=RV (floor:=0) (ar:=evalA env ae.bk) (J:=J) fj;rw[hx] at this;exact this.elim
def b5h(env:Env)(m:Nat)(s:ad)(w:md):Prop:=(∀q∈w.1.jS,q=m)/\∃v τ,opx 0 (evalA env w.2.1) s w.1.op=some (.val v τ)/\AV.eqb env.bh v w.2.2=true
def F0(env:Env)(aK:Option Nat)(D:List (Nat ⊕ (AV×List AV)))(n m k:Nat)(ops:List a2)(f:Nat->AV)(J:ad)(Q:(Nat->AV)->ad->Prop):Prop:=
 ∀ae,jk D n f ae->∃e7 bZ b9 ai,jk D n b9 bZ/\Q b9 ai/\k<=m/\∀F,e7<=F->∃nw wn s,nw.length=ops.length/\(∀ch ws,runDraw env 0 (callV env (exec env F) 0) ops ae ch ws J=some (bZ,nw++ch,wn++ws,ai))∧
  nth (ai::nw).reverse (m-k)=some s/\RW J s/\∀w∈wn,b5h env m s w
section
variable {env:Env}{aK:Option Nat}{D:List (Nat ⊕ (AV×List AV))}{n m k:Nat}{f:Nat->AV}{J:ad}{gs:List Nat}
def ah.a1a{ops:List a2}{Q:dO}(m:Nat)(al:swapT ops=true)(h:F0 env aK D n m 0 ops f J (λb9 ai=>Q .normal b9 ai)):bo env aK D n (.draw ops) f J Q:=λae bE=>by
 obtain⟨e7,bZ,b9,ai,h2,h3,_,h1⟩:=h ae bE;refine⟨e7+1,[(.normal,bZ,ai)],ay,λF bL=>?_,λo ho=>?_⟩
 ·obtain⟨k,rfl⟩:∃k,F=k+1:=⟨F-1,U⟩
  obtain⟨nw,wn,s,_,aZ,bX,_,ed⟩:=h1 k U;have aZ:=aZ [] [];rw[hI,hI] at aZ;refine a0L aZ ?_ (RO al);have:wn.all (steady env 0 (ai::nw).reverse)=true:=by
   rw[pk];intro w lH;obtain⟨dg,v,τ,cD,dn⟩:=ed w lH;unfold steady;refine jI λq aS=>?_;rw[dg q aS,show nth (ai::nw).reverse m=some s from bX];show(match ur w.1.op 0 (evalA env w.2.1) s with|some (.val v _)=>AV.eqb env.bh v w.2.2|_=>false)=true;rw[zP,cD];exact dn
  exact this
 ·rw[cA.1 ho];exact⟨b9,h2,h3⟩
def F0.fin{ops:List a2}{Q:(Nat->AV)->ad->Prop}(hg:Lc env gs)(al:cN (FZ gs) ops=true)(h:da env aK D n ops f J (λx b9 ai=>x= .normal/\Q b9 ai)):F0 env aK D n m m ops f J Q:=λae bE=>by
 obtain⟨e7,outs,h1,h2,h3⟩:=h ae bE;have hn:∀o∈outs,o.1= .normal:=λo ho=>by obtain⟨b9,_,h,_⟩:=h3 o ho;exact h
 obtain⟨bZ,nw,ai,e,_,_,_⟩:=RX hg al (h2 e7 (a8 _)) hn h1;obtain⟨b9,dg,_,cD⟩:=h3 _ (by rw[e];exact cA.2 I);refine⟨e7,bZ,b9,ai,dg,cD,a8 _,λF bL=>?_⟩;obtain⟨wD,b5i,cr,aU,fr,⟨t,gK⟩,CS⟩:=RX hg al (h2 F bL) hn h1;rw[e] at aU;cases aU;exact⟨b5i,[],J,fr,λch ws=>CS ch ws,by rw[gK,Ew];rfl,λ_ _ h=>h,λ_ h=>absurd h ay⟩
end
end
structure Hid(R:Prop):Prop where
 out:R
def F1{P R:Prop}(k:R)(h:Hid R->P:=by
 intro k
 repeat (first|refine az.go I I I I ?_|refine az.cmp I I I I I ?_|refine az.off I I ?_|refine az.nil ?_|refine ah.seq ?_|refine ah.region ?_|refine ah.skip ?_|refine ah.block ?_)
 exact k.out):P:=h ⟨k⟩
def a1b{P R:Prop}(k:R)(h:Hid R->P:=by
 intro k
 repeat (first|refine dv.go I I I I ?_|refine dv.cmp I I I I I ?_|refine dv.off I I ?_|refine dv.nil ?_)
 exact k.out):P:=h ⟨k⟩
def j2{P R:Prop}(k:R)(h:Hid R->P:=by
 intro k
 repeat (first|refine az.go I I I I ?_|refine az.cmp I I I I I ?_|refine az.off I I ?_|refine az.nil ?_)
 exact k.out):P:=h ⟨k⟩
def a1c{P R:Prop}(k:R)(h:Hid R->P:=by
 intro k
 repeat (first|refine az.go I I I I ?_|refine az.cK bX I I I I ?_|refine az.cmp I I I I I ?_|refine az.off I I ?_|refine az.nil ?_)
 exact k.out):P:=h ⟨k⟩
section
open Go Go.RowKit
def Lf{f:Nat->AV}{i j:Nat}{v:AV}(h:Nat.beq j i=false):di f i v j=f j:=by show cond (Nat.beq j i) v (f j)=f j;rw[h];rfl
def CT{f:Nat->AV}{i:Nat}{v:AV}:di f i v i=v:=by show cond (Nat.beq i i) v (f i)=v;rw[g0];rfl
variable [Tok][TokOk] in
def ah.each{env:Env}{aK:Option Nat}{D:List (Nat ⊕ (AV×List AV))}{n i m c d b fq:Nat}{body:b5}{f:Nat->AV}{J:ad}{Q:dO}(N:Nat)(dq:Nat->(Nat->AV)->ad->Prop)
  (dP:N<2^62) (h0:dq 0 f J) (wo:f i=ag 0) (RY:f m=ag N)
  (hb:∀j g τ,j<N->dq j g τ->g i=ag j->g m=ag N->bo env aK D n (.block fq body) (di g c (.b true)) τ (λx b9 ax=>match x with
   | .normal=>b9 i=ag j/\b9 m=ag N/\dq (j+1) (di (di b9 d (ag (j+1))) i (ag (j+1))) ax
   | .exit e=>Nat.beq e b=false/\Q (.exit e) b9 ax
   |x=>Q x b9 ax))
  (hx:∀g τ,dq N g τ->g i=ag N->Q .normal (di g c (.b false)) τ)
  (aa:Nat.blt c n=true:=by rfl) (hd:Nat.blt d n=true:=by rfl) (hi:Nat.blt i n=true:=by rfl) (hm:Nat.blt m n=true:=by rfl) (RZ:Nat.beq m d=false:=by rfl) (uG:Nat.beq m i=false:=by rfl):
  bo env aK D n (.block b (.loop (.seq (.region [⟨some c,.bin .lss (.t i) (.t m),none,[]⟩]) (.seq (.cond (.t c) .skip (.exit b)) (.seq (.block fq body) (.region [⟨some d,.bin .add (.t i) (.c (.i .i64 1)),none,[]⟩,⟨some i,.mb (.t d),none,[]⟩])))))) f J Q:=by
 refine ah.block (ah.loop (λk g τ=>∃j,j+k=N/\dq j g τ/\g i=ag j/\g m=ag N) ?_ N ⟨0,U,h0,wo,RY⟩);rintro k g τ ⟨j,Lg,aL,fF,fi⟩;have qv:dJ env n g (.t i)=some (ag j):=by show cond (Nat.blt i n) (some (g i)) none=_;rw[hi,fF];rfl
 have em:dJ env n g (.t m)=some (ag N):=by show cond (Nat.blt m n) (some (g m)) none=_;rw[hm,fi];rfl
 refine ah.seq (ah.region ?_);refine az.cmp (a:=j) (b:=N) aa I qv em I ?_;refine az.nil (ah.seq (ah.hJ (t:=decide (j<N)) (by show cond (Nat.blt c n) (some (di g c (.b (decide (j<N))) c)) none=_;rw[aa,CT];rfl) (λh=>?_) λh=>?_))
 ·have aA:j<N:=of_decide_eq_true h;rw[h];refine ah.skip (ah.seq ((hb j g τ aA aL fF fi).mono λx b9 ax h'=>?_));cases x with
  |normal=>
   obtain⟨h1,h2,h3⟩:=h';refine ah.region ?_;have aM:dJ env n b9 (.t i)=some (ag j):=by show cond (Nat.blt i n) (some (b9 i)) none=_;rw[hi,h1];rfl
   refine az.bin hd I aM I (rm (a:=j) (b:=1) U) ?_;refine az.go I hi I (v:=ag (j+1)) (ai:=ax) ?_ ?_
   ·show(match cond (Nat.blt d n) (some (di b9 d (ag (j+1)) d)) none with|some v=>some (bO.val v ax)|none=>none)=_;rw[hd,CT];rfl
   ·refine az.nil ?_;refine⟨k-1,U,j+1,U,h3,CT,?_⟩;rw[Lf uG,Lf RZ,h2]
  |exit e=>
   show cond (Nat.beq e b) (Q .normal b9 ax) (Q (.exit e) b9 ax);rw[h'.1];exact h'.2
  |ret=>exact h'
  |panic v=>exact h'
 ·have aA:j=N:=by have:=of_decide_eq_false h;omega
  subst aA;rw[h];refine ah.exit ?_;show cond (Nat.beq b b) (Q .normal (di g c (.b false)) τ) (Q (.exit b) (di g c (.b false)) τ);rw[g0];exact hx g τ aL fF
end
section
variable [Tok][TokOk]
open Go.RowKit
abbrev kB:=List (Nat×Nat×AO)
def wE(N len:Nat)(Lh:List ad)(q:Nat)(P:ad->Prop):Prop:=∃j s,q+len=N+j/\nth Lh j=some s/\P s
def wE.up{N len q:Nat}{Lh:List ad}{J:ad}{P:ad->Prop}(h:wE N len Lh q P):wE N (len+1) (J::Lh) q P:=by
 obtain⟨j,s,h1,h2,h3⟩:=h;exact⟨j+1,s,U,h2,h3⟩
structure F2(env:Env)(N:Nat)(cu:kB)(ops:List a2)(J:ad)(x:ke):Prop where
 x6:∃t,(x.2.2.2::x.2.1).reverse=J::t/\t.length=ops.length
 cu:∀p∈cu,wE N ops.length (x.2.2.2::x.2.1).reverse p.1 λs=>s.get p.2.1=some p.2.2
 wx:∀w∈x.2.2.1,∀q∈w.1.jS,wE N ops.length (x.2.2.2::x.2.1).reverse q λs=>∃v τ,opx 0 (evalA env w.2.1) s w.1.op=some (.val v τ)/\AV.eqb env.bh v w.2.2=true
def ke.on(ch:List ad)(ws:List md)(x:ke):ke:=(x.1,x.2.1++ch,x.2.2.1++ws,x.2.2.2)
def ke.a1d(x:ke)(a c:List ad)(d e:List md):(x.on a d).on c e=x.on (a++c) (d++e):=by
 show(x.1,(x.2.1++a)++c,(x.2.2.1++d)++e,x.2.2.2)=(x.1,x.2.1++(a++c),x.2.2.1++(d++e),x.2.2.2);rw[iJ,iJ]
def dy(env:Env)(D:List (Nat ⊕ (AV×List AV)))(n N:Nat)(cu:kB)(ops:List a2)(f:Nat->AV)(J:ad)(Q:dO):Prop:=
 ∀ae,jk D n f ae->∃e7 outs,outs≠[]/\(∀o∈outs,∃b9,jk D n b9 o.1/\Q .normal b9 o.2)/\∀F,e7<=F->∃L:List ke,L.map (λx=>(x.1,x.2.2.2))=outs∧
  (∀ch ws,runDraws env 0 (callV env (exec env F) 0) ops ae ch ws J=some (L.map (ke.on ch ws)))/\∀x∈L,F2 env N cu ops J x
section
variable {env:Env}{aK:Option Nat}{D:List (Nat ⊕ (AV×List AV))}{n N:Nat}{f:Nat->AV}{J:ad}{Q:dO}{cu:kB}
def ah.R0{ops:List a2}(al:swapT ops=true)(h:dy env D n ops.length [] ops f J Q):bo env aK D n (.draw ops) f J Q:=λae bE=>by
 obtain⟨e7,outs,h0,h2,h1⟩:=h ae bE;refine⟨e7+1,outs.map λo=>(.normal,o.1,o.2),by simpa using h0,λF bL=>?_,λo ho=>?_⟩
 ·obtain⟨k,rfl⟩:∃k,F=k+1:=⟨F-1,U⟩
  obtain⟨L,e,aZ,ed⟩:=h1 k U;show exec env (k+1) 0 aK (b5.draw ops) ae J=_;rw[ra];show(match runDraws env 0 (callV env (exec env k) 0) ops ae [] [] J with|some l=>mapO (drawn env 0 ops) l|none=>none)=_;rw[aZ,← e,kq];show mapO (drawn env 0 ops) (L.map (ke.on [] []))=_;have hx:∀x∈L,drawn env 0 ops (x.on [] [])=some (.normal,x.1,x.2.2.2):=λx hx=>by
   have ed:=(ed x hx).wx;unfold drawn ke.on;simp only[hI];rw[RO al,Bool.and_true,pk.2 λw lH=>?_];rfl;unfold steady;refine jI λq aS=>?_;obtain⟨j,s,e,dg,v,τ,cD,dn⟩:=ed w lH q aS;obtain rfl:q=j:=by omega
   rw[dg];show(match ur w.1.op 0 (evalA env w.2.1) s with|some (.val v _)=>AV.eqb env.bh v w.2.2|_=>false)=true;rw[zP,cD];exact dn
  clear ed aZ e
  induction L with
  |nil=>rfl
  |cons x L aC=>
   rw[pf,qt,hx x k1,aC λy hy=>hx y (g1 _ hy)];rfl
 ·obtain⟨x,hx,rfl⟩:=cT.1 ho;obtain⟨b9,aQ,aZ⟩:=h2 x hx;exact⟨b9,aQ,aZ⟩
def F2.one{o:a2}{ops:List a2}{bP:ad}{mW:kB}{x:ke}{wl:List md}(h:F2 env N mW ops bP x)(R1:∀p∈cu,p∈mW)(hw:∀w∈wl,∀q∈w.1.jS,∀st,(∀p∈mW,wE N ops.length st p.1 λs=>s.get p.2.1=some p.2.2)->st.length=ops.length+1->wE N ops.length st q λs=>∃v τ,opx 0 (evalA env w.2.1) s w.1.op=some (.val v τ)/\AV.eqb env.bh v w.2.2=true):F2 env N cu (o::ops) J (x.on [J] wl):=by
 have e:((x.on [J] wl).2.2.2::(x.on [J] wl).2.1).reverse=J::(x.2.2.2::x.2.1).reverse:=by
  show(x.2.2.2::(x.2.1++[J])).reverse=_;rw[<-zf,a0z];rfl
 obtain⟨t,bx,bz⟩:=h.x6;refine⟨⟨_,e,by rw[bx];simp[bz]⟩,λp an=>?_,λw tw q aS=>?_⟩
 ·rw[e];exact(h.cu p (R1 p an)).up
 ·rw[e];rcases eX.1 tw with tw|tw
  ·exact(h.wx w tw q aS).up
  ·exact(hw w tw q aS _ h.cu (by rw[bx];simp[bz])).up
def dy.one{o:a2}{ops:List a2}{f1:Nat->AV}{bP:ad}{mW:kB}{wl:a1 AV->List md}(h:dy env D n N mW ops f1 bP Q)(R1:∀p∈cu,p∈mW)
  (ak:∀ae,jk D n f ae->∃ev e7,jk D n f1 ev/\(∀w∈wl ae.bk,∀q∈w.1.jS,∀st,(∀p∈mW,wE N ops.length st p.1 λs=>s.get p.2.1=some p.2.2)->st.length=ops.length+1->wE N ops.length st q λs=>∃v τ,opx 0 (evalA env w.2.1) s w.1.op=some (.val v τ)/\AV.eqb env.bh v w.2.2=true)∧
   ∀F,e7<=F->∀ch ws,runDraws env 0 (callV env (exec env F) 0) (o::ops) ae ch ws J=runDraws env 0 (callV env (exec env F) 0) ops ev (J::ch) (wl ae.bk++ws) bP):dy env D n N cu (o::ops) f J Q:=λae bE=>by
 obtain⟨ev,Ab,RU,hw,ak⟩:=ak ae bE;obtain⟨e7,outs,h0,h2,h1⟩:=h ev RU;refine⟨max e7 Ab,outs,h0,h2,λF bL=>?_⟩;obtain⟨L,e,bY,cf⟩:=h1 F U;refine⟨L.map (ke.on [J] (wl ae.bk)),by rw[kq];exact e,λch ws=>?_,λx hx=>?_⟩
 ·rw[ak F U,bY,kq]
  congr 1
  exact pd λx _=>(x.a1d [J] ch (wl ae.bk) ws).symm
 ·obtain⟨y,hy,rfl⟩:=cT.1 hx;exact(cf y hy).one R1 hw
def dy.val{d:Option Nat}{op:AOp}{g:Option (Nat×Bool)}{ops:List a2}{v:AV}{ai:ad}(hd:∀x,d=some x->Nat.blt x n=true)(hw:hp g n f=true)(ho:opx 0 (dJ env n f) J op=some (.val v ai))(h:dy env D n N cu ops (match d with|some d=>di f d v|none=>f) ai Q):
  dy env D n N cu (⟨d,op,g,[]⟩::ops) f J Q:=dy.one (wl:=λ_=>[]) h (λ_ h=>h) λae bE=>⟨ae.put d v,0,by
 cases d with
 |none=>exact bE
 |some d=>exact bE.put v (hd d I),λ_ h=>absurd h ay,λF _ ch ws=>by
  rw[runDraws_cons];show cond (wantedA g ae.bk) _ _=_;rw[bE.wanted,hw,cond_true,bE.ar,ho];rfl⟩
def dy.off{d:Nat}{op:AOp}{g:Option (Nat×Bool)}{wn:List Nat}{ops:List a2}(hd:Nat.blt d n=true)(hw:hp g n f=false)(h:dy env D n N cu ops (di f d dF) J Q):dy env D n N cu (⟨some d,op,g,wn⟩::ops) f J Q:=
 dy.one (wl:=λ_=>[]) h (λ_ h=>h) λae bE=>⟨ae.put (some d) dF,0,bE.put _ hd,λ_ h=>absurd h ay,λF _ ch ws=>by
  rw[runDraws_cons];show cond (wantedA g ae.bk) _ _=_;rw[bE.wanted,hw,cond_false];rfl⟩
def dy.jK{d:Nat}{op:AOp}{g:Option (Nat×Bool)}{wn:List Nat}{ops:List a2}{v:AV}{id:Nat}{c:AO}(al:J.get id=some c)(hd:Nat.blt d n=true)(hw:hp g n f=true)(ho:∀s:ad,s.get id=some c->opx 0 (dJ env n f) s op=some (.val v s))(aq:AV.eqb env.bh v v=true)
  (h:dy env D n N (wn.map (λq=>(q,id,c))++cu) ops (di f d v) J Q):dy env D n N cu (⟨some d,op,g,wn⟩::ops) f J Q:=
 dy.one (wl:=λao=>match wn with|[]=>[]|_::_=>[(⟨some d,op,g,wn⟩,ao,v)]) h (λ_ h=>eX.2 (.inr h)) λae bE=>⟨ae.put (some d) v,0,bE.put v hd,λw tw q aS st cq _=>by
  cases wn with
  |nil=>simp at tw
  |cons a l=>
   rw[cA.1 tw] at aS ⊢;obtain⟨j,s,aM,aU,c3⟩:=cq (q,id,c) (eX.2 (.inl (cT.2 ⟨q,aS,rfl⟩)));exact⟨j,s,aM,aU,v,s,by show opx 0 (evalA env ae.bk) s op=_;rw[bE.ar];exact ho s c3,aq⟩,λF _ ch ws=>by
  rw[runDraws_cons];show cond (wantedA g ae.bk) _ _=_;rw[bE.wanted,hw,cond_true,bE.ar,ho J al];cases wn<;>rfl⟩
def dy.pM{d:Nat}{op:AOp}{g:Option (Nat×Bool)}{wn:List Nat}{ops:List a2}{v:AV}(lH:cN (λq=>Nat.ble N (q+ops.length)&&Nat.ble q N) wn=true)(hd:Nat.blt d n=true)(hw:hp g n f=true)(ho:∀s:ad,opx 0 (dJ env n f) s op=some (.val v s))(aq:AV.eqb env.bh v v=true)
  (h:dy env D n N cu ops (di f d v) J Q):dy env D n N cu (⟨some d,op,g,wn⟩::ops) f J Q:=
 dy.one (wl:=λao=>match wn with|[]=>[]|_::_=>[(⟨some d,op,g,wn⟩,ao,v)]) h (λ_ h=>h) λae bE=>⟨ae.put (some d) v,0,bE.put v hd,λw tw q aS st cq hl=>by
  cases wn with
  |nil=>simp at tw
  |cons a l=>
   rw[cA.1 tw] at aS ⊢;have hb:=nv lH q aS;simp only[dD] at hb;have h1:=g7 hb.1;have h2:=g7 hb.2;obtain⟨s,al⟩:∃s,nth st (q+ops.length-N)=some s:=⟨st[q+ops.length-N]'U,by rw[EI,cp]⟩
   exact⟨q+ops.length-N,s,U,al,v,s,by show opx 0 (evalA env ae.bk) s op=_;rw[bE.ar];exact ho s,aq⟩,λF _ ch ws=>by
  rw[runDraws_cons];show cond (wantedA g ae.bk) _ _=_;rw[bE.wanted,hw,cond_true,bE.ar,ho J];cases wn<;>rfl⟩
def b5j{α β:Type}{f:α->Option (List β)}{x:α}{l:List α}{a c:List β}(h1:f x=some a)(h2:k5 f l=some c):k5 f (x::l)=some (a++c):=by
 cases l with
 |nil=>
  have h2:some ([]:List β)=some c:=h2;cases h2;rw[hI];exact h1
 |cons y t=>
  show(match f x with|none=>none|some a=>match k5 f (y::t) with|none=>none|some b=>some (a++b))=_;rw[h1,h2]
def dy.call{d:Nat}{op:AOp}{g:Option (Nat×Bool)}{ops:List a2}{bG:AV}{args:List AV}{R:ee->ad->Prop}(hd:Nat.blt d n=true)(hw:hp g n f=true)(ho:opx 0 (dJ env n f) J op=some (.call bG args))
  (aa:bb env 0 bG args J R) (h:∀r ai,R r ai->∃v,r= .ok v/\dy env D n N cu ops (di f d v) ai Q):dy env D n N cu (⟨some d,op,g,[]⟩::ops) f J Q:=λae bE=>by
 obtain⟨Ab,l,hl,h2,h3⟩:=aa;have key:∀l:List (ee×ad),(∀o∈l,R o.1 o.2)->∃e7 outs,(l≠[]->outs≠[])/\(∀o∈outs,∃b9,jk D n b9 o.1/\Q .normal b9 o.2)/\∀F,e7<=F->∃L:List ke,L.map (λx=>(x.1,x.2.2.2))=outs∧
   (∀ch ws,k5 (λr=>match r with|(.ok v,ai)=>runDraws env 0 (callV env (exec env F) 0) ops (ae.put (some d) v) (J::ch) ws ai|_=>none) l=some (L.map (ke.on ch ws)))/\∀x∈L,F2 env N cu (⟨some d,op,g,[]⟩::ops) J x:=by
  intro l
  induction l with
  |nil=>exact λ_=>⟨0,[],λh=>absurd I h,λo ho=>by simp at ho,λF _=>⟨[],rfl,λ_ _=>rfl,λx hx=>by simp at hx⟩⟩
  |cons y l aC=>
   intro hR;obtain⟨x2,b5k,_,cD,dn⟩:=aC λo ho=>hR o (g1 _ ho);obtain⟨r,ai⟩:=y;obtain⟨v,rfl,dt⟩:=h r ai (hR _ k1);obtain⟨e7,outs,dU,fr,gK⟩:=dt _ (bE.put v hd);refine⟨max e7 x2,outs++b5k,λ_ e=>dU (List.append_eq_nil_iff.1 e).1,λo ho=>?_,λF bL=>?_⟩
   ·rcases eX.1 ho with ho|ho
    ·exact fr o ho
    ·exact cD o ho
   ·obtain⟨L,e,bY,cf⟩:=gK F U;obtain⟨b5l,aU,k3,bI⟩:=dn F U;refine⟨L.map (ke.on [J] [])++b5l,by rw[gO,kq,aU];congr 1,λch ws=>?_,λx hx=>?_⟩
    ·rw[gO,kq];refine b5j ?_ (k3 ch ws);show runDraws env 0 _ ops _ (J::ch) ws ai=_;rw[bY]
     congr 1
     exact pd λx _=>(x.a1d [J] ch [] ws).symm
    ·rcases eX.1 hx with hx|hx
     ·obtain⟨z,a_,rfl⟩:=cT.1 hx;exact(cf z a_).one (λ_ h=>h) λw hw=>by simp at hw
     ·exact bI x hx
 obtain⟨e7,outs,aQ,aZ,bX⟩:=key l h3;refine⟨max e7 Ab,outs,aQ hl,aZ,λF bL=>?_⟩;obtain⟨L,e,bY,cf⟩:=bX F U;refine⟨L,e,λch ws=>?_,cf⟩;rw[runDraws_cons];show cond (wantedA g ae.bk) _ _=_;rw[bE.wanted,hw,cond_true,bE.ar,ho];show(match callV env (exec env F) 0 bG args J with|some (x::l)=>k5 _ (x::l)|_=>none)=_;rw[show callV env (exec env F) 0 bG args J=some l from h2 F U];cases l with
 |nil=>exact absurd I hl
 |cons x l=>exact bY ch ws
def tx(J:ad):kB->Prop
 |[]=>True
 |p::l=>J.get p.2.1=some p.2.2/\tx J l
def tx.mem{J:ad}:∀ {l:kB},tx J l->∀p∈l,J.get p.2.1=some p.2.2
 |_::_,h,p,an=>by
  rcases c2.1 an with rfl|an
  ·exact h.1
  ·exact h.2.mem p an
def R2(N len:Nat)(cu:kB):kB:=cu.filter λp=>Nat.beq (p.1+len) N
def a1e(N len:Nat)(cu:kB):kB:=cu.filter λp=>!Nat.beq (p.1+len) N
def dy.now{ops:List a2}(l bD:kB)(h1:R2 N ops.length cu=l)(h2:a1e N ops.length cu=bD)(hh:tx J l)(h:dy env D n N bD ops f J Q):dy env D n N cu ops f J Q:=λae bE=>by
 obtain⟨e7,outs,cm,bz,bx⟩:=h ae bE;refine⟨e7,outs,cm,bz,λF bL=>?_⟩;obtain⟨L,e,bX,cS⟩:=bx F bL;refine⟨L,e,bX,λx hx=>⟨(cS x hx).x6,λp an=>?_,(cS x hx).wx⟩⟩;obtain⟨t,aQ,_⟩:=(cS x hx).x6;by_cases hb:Nat.beq (p.1+ops.length) N=true
 ·exact⟨0,J,by rw[gE hb];rfl,by rw[aQ];rfl,hh.mem p (by rw[<-h1];exact mj.2 ⟨an,hb⟩)⟩
 ·exact(cS x hx).cu p (by rw[<-h2];exact mj.2 ⟨an,by rw[a0A.2 hb];rfl⟩)
def dy.nil(hh:R2 N 0 cu=cu)(hl:tx J cu)(h:Q .normal f J):dy env D n N cu [] f J Q:=λae bE=>
 ⟨0,[(ae,J)],ay,λo ho=>by rw[cA.1 ho];exact⟨f,bE,h⟩,λF _=>⟨[(ae,[],[],J)],rfl,λ_ _=>rfl,λx hx=>by
  rw[cA.1 hx];refine⟨⟨[],rfl,rfl⟩,λp an=>⟨0,J,?_,rfl,hl.mem p an⟩,λ_ h=>absurd h ay⟩;rw[<-hh] at an;exact gE (mj.1 an).2⟩⟩
end
inductive jv where
 |pl
 |dp (N:Nat) (cu:kB)
def bM(cb:jv)(env:Env)(aK:Option Nat)(D:List (Nat ⊕ (AV×List AV)))(n:Nat)(ops:List a2)(f:Nat->AV)(J:ad)(Q:dO):Prop:=
 match cb with
 | .pl=>da env aK D n ops f J Q
 | .dp N cu=>dy env D n N cu ops f J Q
structure Has(J:ad)(L:List (Nat×List AV)):Prop where
 get:∀p∈L,J.get p.1=some (.cells p.2)
 CU:L.Pairwise λa b=>a.1≠b.1
def Has.qx{J:ad}{nS:Nat×List AV}{L:List (Nat×List AV)}(H:Has J (nS::L)):J.get nS.1=some (.cells nS.2):=H.get _ (.head _)
def Has.x7{J:ad}{nS aQ:Nat×List AV}{L:List (Nat×List AV)}(H:Has J (nS::aQ::L)):J.get aQ.1=some (.cells aQ.2):=H.get _ (.tail _ (.head _))
def Has.Ag{J:ad}{nS aQ aZ:Nat×List AV}{L:List (Nat×List AV)}(H:Has J (nS::aQ::aZ::L)):J.get aZ.1=some (.cells aZ.2):=H.get _ (.tail _ (.tail _ (.head _)))
def Has.CX{J:ad}{nS aQ aZ bX:Nat×List AV}{L:List (Nat×List AV)}(H:Has J (nS::aQ::aZ::bX::L)):J.get bX.1=some (.cells bX.2):=H.get _ (.tail _ (.tail _ (.tail _ (.head _))))
def Has.Lq{J:ad}{nS aQ aZ bX cS:Nat×List AV}{L:List (Nat×List AV)}(H:Has J (nS::aQ::aZ::bX::cS::L)):J.get cS.1=some (.cells cS.2):=H.get _ (.tail _ (.tail _ (.tail _ (.tail _ (.head _)))))
def Has.b5u{J:ad}{nS aQ aZ bX cS ed:Nat×List AV}{L:List (Nat×List AV)}(H:Has J (nS::aQ::aZ::bX::cS::ed::L)):J.get ed.1=some (.cells ed.2):=H.get _ (.tail _ (.tail _ (.tail _ (.tail _ (.tail _ (.head _))))))
def Has.b5v{J:ad}{nS aQ aZ bX cS ed hM:Nat×List AV}{L:List (Nat×List AV)}(H:Has J (nS::aQ::aZ::bX::cS::ed::hM::L)):J.get hM.1=some (.cells hM.2):=H.get _ (.tail _ (.tail _ (.tail _ (.tail _ (.tail _ (.tail _ (.head _)))))))
def Has.b5w{J:ad}{nS aQ aZ bX cS ed hM a1h:Nat×List AV}{L:List (Nat×List AV)}(H:Has J (nS::aQ::aZ::bX::cS::ed::hM::a1h::L)):J.get a1h.1=some (.cells a1h.2):=H.get _ (.tail _ (.tail _ (.tail _ (.tail _ (.tail _ (.tail _ (.tail _ (.head _))))))))
def Has.b5y{J:ad}{nS aQ aZ bX cS ed hM a1h b5x:Nat×List AV}{L:List (Nat×List AV)}(H:Has J (nS::aQ::aZ::bX::cS::ed::hM::a1h::b5x::L)):J.get b5x.1=some (.cells b5x.2):=H.get _ (.tail _ (.tail _ (.tail _ (.tail _ (.tail _ (.tail _ (.tail _ (.tail _ (.head _)))))))))
def Has.nil{J:ad}:Has J []:=⟨λ_ h=>absurd h ay,.nil⟩
def Has.aD{J τ:ad}{L:List (Nat×List AV)}(h:Has J L)(k:∀i o,J.get i=some o->τ.get i=some o):Has τ L:=⟨λp an=>k _ _ (h.get p an),h.CU⟩
def tx.c{J:ad}{L:List (Nat×List AV)}{l:kB}{k id:Nat}{c:List AV}(H:Has J L)(hm:(id,c)∈L)(h:tx J l):tx J ((k,id,.cells c)::l):=⟨H.get _ hm,h⟩
def Has.lt{J:ad}{L:List (Nat×List AV)}(h:Has J L){p:Nat×List AV}(an:p∈L):p.1<J.next:=ad.a9 (h.get p an)
def Has.cons{J:ad}{L:List (Nat×List AV)}{k:Nat}{c:List AV}(h:Has J L)(aB:J.get k=some (.cells c))(hn:∀p∈L,p.1≠k):Has J ((k,c)::L):=⟨λp an=>by
 rcases c2.1 an with rfl|an
 ·exact aB
 ·exact h.get p an,a0B.2 ⟨λp an e=>hn p an e.symm,h.CU⟩⟩
def Has.push{J τ:ad}{L:List (Nat×List AV)}{k:Nat}{c:List AV}(h:Has J L)(hn:J.next=k)(aB:τ.get k=some (.cells c))(bA:∀i o,J.get i=some o->τ.get i=some o):Has τ ((k,c)::L):=
 (h.aD bA).cons aB λp an=>by have:=h.lt an;omega
def Has.set{J τ:ad}{L:List (Nat×List AV)}{id:Nat}{c bc:List AV}(h:Has J L)(j:Nat)(aA:L[j]? =some (id,c))(aB:τ.get id=some (.cells bc))(bA:∀i o,i≠id->J.get i=some o->τ.get i=some o):Has τ (L.set j (id,bc)):=by
 obtain⟨hlt,he⟩:=fH.1 aA;have aY:∀i (hi:i<L.length),i≠j->(L[i]).1≠id:=λi hi iK=>by
  have an:=K0.1 h.CU;have e:(L[j]).1=id:=by rw[he]
  rcases p6 i j with h1|h1
  ·rw[<-e];exact an i j hi hlt h1
  ·rw[<-e];exact λd_=>an j i hlt hi U d_.symm
 refine⟨λp an=>?_,K0.2 λa b ha hb Li=>?_⟩
 ·obtain⟨i,hi,rfl⟩:=iP an;rw[lr] at hi;rw[s0];split
  ·exact aB
  ·exact bA _ _ (aY i hi U) (h.get _ (bC hi))
 ·rw[lr] at ha hb;rw[s0,s0];split<;>split
  ·omega
  ·rename_i e _;exact λd_=>aY b hb U d_.symm
  ·exact aY a ha U
  ·exact K0.1 h.CU a b ha hb Li
def n2:List (Nat×AV)->Nat->Option AV
 |[],_=>none
 |(j,v)::L,i=>cond (Nat.beq i j) (some v) (n2 L i)
def cL(env:Env)(n:Nat)(L:List (Nat×AV))(g:Nat->AV):aJ->Option AV
 | .t i=>cond (Nat.blt i n) (match n2 L i with|some v=>some v|none=>some (g i)) none
 | .c v=>some v
 | .g j=>match env.nM j with|some v=>some (.df true v)|none=>none
def Lj{g:Nat->AV}:∀ {L:List (Nat×AV)} (i:Nat),bs L g i=(match n2 L i with|some v=>v|none=>g i)
 |[],i=>rfl
 |(j,v)::L,i=>by
  show cond (Nat.beq i j) v (bs L g i)=(match cond (Nat.beq i j) (some v) (n2 L i) with|some v=>v|none=>g i);cases Nat.beq i j with
  |true=>rfl
  |false=>exact Lj i
def nx(env:Env)(n:Nat)(L:List (Nat×AV))(g:Nat->AV):dJ env n (bs L g)=cL env n L g:=by
 funext x
 cases x with
 |t i=>
  show cond (Nat.blt i n) (some (bs L g i)) none=cond (Nat.blt i n) (match n2 L i with|some v=>some v|none=>some (g i)) none;rw[Lj];cases n2 L i<;>rfl
 |c v=>rfl
 |g j=>rfl
def wtL(q:Option (Nat×Bool))(n:Nat)(L:List (Nat×AV)):Bool:=
 match q with
 |none=>true
 |some (d,w)=>cond (Nat.blt d n) (match n2 L d with|some (.b x)=>x==w|_=>false) false
def offL(q:Option (Nat×Bool))(n:Nat)(L:List (Nat×AV)):Bool:=
 match q with
 |none=>false
 |some (d,w)=>cond (Nat.blt d n) (match n2 L d with|some (.b x)=>!(x==w)|some _=>true|none=>false) false
def sv{q:Option (Nat×Bool)}{n:Nat}{L:List (Nat×AV)}{g:Nat->AV}(h:wtL q n L=true):hp q n (bs L g)=true:=by
 cases q with
 |none=>rfl
 |some p=>
  obtain⟨d,w⟩:=p;have h:cond (Nat.blt d n) (match n2 L d with|some (.b x)=>x==w|_=>false) false=true:=h;show cond (Nat.blt d n) (match bs L g d with| .b x=>x==w|_=>false) false=true;cases hb:Nat.blt d n with
  |false=>rw[hb] at h;cases h
  |true=>
   rw[hb,cond_true] at h;rw[cond_true,Lj];split at h
   ·rename_i hl;rw[hl];exact h
   ·cases h
def a1f{q:Option (Nat×Bool)}{n:Nat}{L:List (Nat×AV)}{g:Nat->AV}(h:offL q n L=true):hp q n (bs L g)=false:=by
 cases q with
 |none=>cases h
 |some p=>
  obtain⟨d,w⟩:=p;have h:cond (Nat.blt d n) (match n2 L d with|some (.b x)=>!(x==w)|some _=>true|none=>false) false=true:=h;show cond (Nat.blt d n) (match bs L g d with| .b x=>x==w|_=>false) false=false;cases hb:Nat.blt d n with
  |false=>rw[hb] at h;cases h
  |true=>
   rw[hb,cond_true] at h;rw[cond_true,Lj];split at h
   ·rename_i hl;rw[hl];simpa using h
   ·rename_i x hx hl;rw[hl];clear hl;cases x with
    |b y=>exact absurd I (hx y)
    |_=>rfl
   ·cases h
namespace W
section
variable {env:Env}{aK:Option Nat}{D:List (Nat ⊕ (AV×List AV))}{n:Nat}{F:List (Nat×AV)}{z:Nat->AV}{J:ad}{Q:dO}
def sq{a b:b5}(h:bo env aK D n a (bs F z) J (λx f J=>match x with| .normal=>bo env aK D n b f J Q|x=>Q x f J)):bo env aK D n (.seq a b) (bs F z) J Q:=ah.seq h
def F3(h:Q .normal (bs F z) J):bo env aK D n .skip (bs F z) J Q:=ah.skip h
def mX{o:aJ}{a b:b5}(ho:cL env n F z o=some (.b true))(h:bo env aK D n a (bs F z) J Q):bo env aK D n (.cond o a b) (bs F z) J Q:=ah.hJ (t:=true) (by rw[nx];exact ho) (λ_=>h) λh=>by cases h
def oL{o:aJ}{a b:b5}(ho:cL env n F z o=some (.b false))(h:bo env aK D n b (bs F z) J Q):bo env aK D n (.cond o a b) (bs F z) J Q:=ah.hJ (t:=false) (by rw[nx];exact ho) (λh=>by cases h) λ_=>h
def b5m{o:aJ}{a b:b5}{t:Bool}(ho:cL env n F z o=some (.b t))(ht:t=true->bo env aK D n a (bs F z) J Q)(hf:t=false->bo env aK D n b (bs F z) J Q):bo env aK D n (.cond o a b) (bs F z) J Q:=ah.hJ (by rw[nx];exact ho) ht hf
end
section
variable {cb:jv}{env:Env}{aK:Option Nat}{D:List (Nat ⊕ (AV×List AV))}{n:Nat}{F:List (Nat×AV)}{z:Nat->AV}{J:ad}{Q:dO}
def rg{ops:List a2}(h:bM .pl env aK D n ops (bs F z) J Q):bo env aK D n (.region ops) (bs F z) J Q:=ah.region h
def b5n{ops:List a2}(al:swapT ops=true)(h:bM (.dp ops.length []) env aK D n ops (bs F z) J Q):bo env aK D n (.draw ops) (bs F z) J Q:=ah.R0 al h
def nil(h:Q .normal (bs F z) J):bM .pl env aK D n [] (bs F z) J Q:=az.nil h
def CV{N:Nat}(h:Q .normal (bs F z) J):bM (.dp N []) env aK D n [] (bs F z) J Q:=dy.nil I trivial h
def now{N:Nat}{cu:kB}{ops:List a2}(l bD:kB)(h1:R2 N ops.length cu=l)(h2:a1e N ops.length cu=bD)(hh:tx J l)(h:bM (.dp N bD) env aK D n ops (bs F z) J Q):bM (.dp N cu) env aK D n ops (bs F z) J Q:=dy.now l bD h1 h2 hh h
def val{d:Nat}{op:AOp}{g:Option (Nat×Bool)}{ops:List a2}{v:AV}{ai:ad}(hd:Nat.blt d n=true)(hw:wtL g n F=true)(ho:opx 0 (cL env n F z) J op=some (.val v ai))(h:bM cb env aK D n ops (bs ((d,v)::F) z) ai Q):bM cb env aK D n (⟨some d,op,g,[]⟩::ops) (bs F z) J Q:=by
 cases cb with
 |pl=>exact az.val hd (sv hw) (by rw[nx];exact ho) h
 |dp N cu=>exact dy.val (λx e=>by cases e;exact hd) (sv hw) (by rw[nx];exact ho) h
def uR{op:AOp}{g:Option (Nat×Bool)}{ops:List a2}{v:AV}{ai:ad}(hw:wtL g n F=true)(ho:opx 0 (cL env n F z) J op=some (.val v ai))(h:bM cb env aK D n ops (bs F z) ai Q):bM cb env aK D n (⟨none,op,g,[]⟩::ops) (bs F z) J Q:=by
 cases cb with
 |pl=>exact az.uR (sv hw) (by rw[nx];exact ho) h
 |dp N cu=>exact dy.val (λx e=>by cases e) (sv hw) (by rw[nx];exact ho) h
def off{d:Nat}{op:AOp}{g:Option (Nat×Bool)}{wn:List Nat}{ops:List a2}(hd:Nat.blt d n=true)(hw:offL g n F=true)(h:bM cb env aK D n ops (bs ((d,dF)::F) z) J Q):bM cb env aK D n (⟨some d,op,g,wn⟩::ops) (bs F z) J Q:=by
 cases cb with
 |pl=>exact az.off hd (a1f hw) h
 |dp N cu=>exact dy.off hd (a1f hw) h
def b5o:AOp->Bool
 | .mb _=>true| .pick _ _ _=>true| .build _ _=>true| .nilCheck _=>true| .BX _ _ _=>true| .nK _ _ _ _=>true| .not _=>true| .zg _ _ _=>true| .JG _ _=>true
 | .xu _ _ _ _ _=>true| .BY _ _ _ _ _=>true| .EA _ _ _=>true| .fieldAddr _ _ _=>true| .field _ _ _=>true| .EB _ _ _ _=>true| .k2 _ _ _=>true| .extract _ _=>true| .JI _=>true
 |_=>false
def go{d:Nat}{op:AOp}{g:Option (Nat×Bool)}{ops:List a2}{v:AV}{ai:ad}(_hb:b5o op=true)(hd:Nat.blt d n=true)(hw:wtL g n F=true)(ho:opx 0 (cL env n F z) J op=some (.val v ai))(h:bM cb env aK D n ops (bs ((d,v)::F) z) ai Q):bM cb env aK D n (⟨some d,op,g,[]⟩::ops) (bs F z) J Q:=val hd hw ho h
def bin{d:Nat}{op:BinOp}{x y:aJ}{g:Option (Nat×Bool)}{ops:List a2}{a b v:AV}(hd:Nat.blt d n=true)(hw:wtL g n F=true)(h1:cL env n F z x=some a)(h2:cL env n F z y=some b)(h3:binop op a b=some v)(h:bM cb env aK D n ops (bs ((d,v)::F) z) J Q):bM cb env aK D n (⟨some d,.bin op x y,g,[]⟩::ops) (bs F z) J Q:=val hd hw (FQ a b v h1 h2 h3) h
def cmpP(op:BinOp)(a b:Nat):Prop:=
 match op with
 | .eql=>a=b
 | .neq=>¬a=b
 | .lss=>a<b
 | .leq=>a<=b
 | .gtr=>b<a
 | .geq=>b<=a
 |_=>False
def a1g:BinOp->Bool
 | .eql=>true
 | .neq=>true
 | .lss=>true
 | .leq=>true
 | .gtr=>true
 | .geq=>true
 |_=>false
def b5p{op:BinOp}{a b:Nat}(h:cmpP op a b):cmpO op a b=some (.b true):=by
 cases op<;>first
  |(have h:_:=h;simp only[cmpP] at h;simp only[cmpO,decide_eq_true h];done)
  |(have h:_:=h;simp only[cmpP] at h;simp only[cmpO,decide_eq_false h,Bool.not_false];done)
  |exact h.elim
def b5q{op:BinOp}{a b:Nat}(aa:a1g op=true)(h:¬cmpP op a b):cmpO op a b=some (.b false):=by
 cases op<;>first
  |(simp only[cmpP] at h;simp only[cmpO,decide_eq_false h];done)
  |(simp only[cmpP,Decidable.not_not] at h;simp only[cmpO,decide_eq_true h,QD];done)
  |cases aa
def F4{d:Nat}{op:BinOp}{x y:aJ}{g:Option (Nat×Bool)}{ops:List a2}{k:IntKind}{a b:Nat}(hd:Nat.blt d n=true)(hw:wtL g n F=true)(h1:cL env n F z x=some (.i k (Int.ofNat a)))(h2:cL env n F z y=some (.i k (Int.ofNat b)))(h3:cmpP op a b)(h:bM cb env aK D n ops (bs ((d,.b true)::F) z) J Q):bM cb env aK D n (⟨some d,.bin op x y,g,[]⟩::ops) (bs F z) J Q:=bin hd hw h1 h2 (n1 (b5p h3)) h
def gA{d:Nat}{op:BinOp}{x y:aJ}{g:Option (Nat×Bool)}{ops:List a2}{k:IntKind}{a b:Nat}(hd:Nat.blt d n=true)(hw:wtL g n F=true)(aa:a1g op=true)(h1:cL env n F z x=some (.i k (Int.ofNat a)))(h2:cL env n F z y=some (.i k (Int.ofNat b)))(h3:¬cmpP op a b)(h:bM cb env aK D n ops (bs ((d,.b false)::F) z) J Q):bM cb env aK D n (⟨some d,.bin op x y,g,[]⟩::ops) (bs F z) J Q:=bin hd hw h1 h2 (n1 (b5q aa h3)) h
def R3{d:Nat}{op:BinOp}{x y:aJ}{g:Option (Nat×Bool)}{ops:List a2}{k:IntKind}{a b:Nat}{v:AV}(hd:Nat.blt d n=true)(hw:wtL g n F=true)(h1:cL env n F z x=some (.i k (Int.ofNat a)))(h2:cL env n F z y=some (.i k (Int.ofNat b)))(h3:cmpO op a b=some v)(h:bM cb env aK D n ops (bs ((d,v)::F) z) J Q):bM cb env aK D n (⟨some d,.bin op x y,g,[]⟩::ops) (bs F z) J Q:=bin hd hw h1 h2 (n1 h3) h
def len{d k m:Nat}{x:aJ}{g:Option (Nat×Bool)}{ops:List a2}{v:AV}(hd:Nat.blt d n=true)(hw:wtL g n F=true)(h1:cL env n F z x=some v)(h2:lenA J k v=some m)(h:bM cb env aK D n ops (bs ((d,ag m)::F) z) J Q):bM cb env aK D n (⟨some d,.len k x,g,[]⟩::ops) (bs F z) J Q:=val hd hw (x3 h1 h2) h
def eg{d:Nat}{ab:Option Nat}{x i:aJ}{g:Option (Nat×Bool)}{ops:List a2}{k:IntKind}{a v:AV}{j:Nat}(hd:Nat.blt d n=true)(hw:wtL g n F=true)(h1:cL env n F z x=some a)(h2:cL env n F z i=some (.i k (Int.ofNat j)))(h3:idxSlA ab a j=some v)(h:bM cb env aK D n ops (bs ((d,v)::F) z) J Q):bM cb env aK D n (⟨some d,.k2 ab x i,g,[]⟩::ops) (bs F z) J Q:=val hd hw (K2 k a j v h1 h2 h3) h
def K7{d:Nat}{ab:Option Nat}{x:aJ}{g:Option (Nat×Bool)}{ops:List a2}{o:Bool}{v:AV}(hd:Nat.blt d n=true)(hw:wtL g n F=true)(h1:cL env n F z x=some (.df o v))(h2:conf ab v=true)(h:bM cb env aK D n ops (bs ((d,v)::F) z) J Q):bM cb env aK D n (⟨some d,.load ab x,g,[]⟩::ops) (bs F z) J Q:=val hd hw (nZ _ _ h1 (by show(if conf ab v then some v else none)=_;rw[if_pos h2])) h
def cK{L:List (Nat×List AV)}(H:Has J L){d:Nat}{ab:Option Nat}{x:aJ}{g:Option (Nat×Bool)}{ops:List a2}{id off:Nat}{c:List AV}{v:AV}(hd:Nat.blt d n=true)(hw:wtL g n F=true)(h1:cL env n F z x=some (.p (some (id,off))))(hm:(id,c)∈L)(h2:dE ab (c.drop off)=some v)(h:bM cb env aK D n ops (bs ((d,v)::F) z) J Q):bM cb env aK D n (⟨some d,.load ab x,g,[]⟩::ops) (bs F z) J Q:=val hd hw (nZ _ _ h1 (tv (H.get _ hm) h2)) h
def jK{N:Nat}{cu:kB}{L:List (Nat×List AV)}(H:Has J L){d:Nat}{ab:Option Nat}{x:aJ}{g:Option (Nat×Bool)}{wn:List Nat}{ops:List a2}{id off:Nat}{c:List AV}{v:AV}(hd:Nat.blt d n=true)(hw:wtL g n F=true)(h1:cL env n F z x=some (.p (some (id,off))))(hm:(id,c)∈L)(h2:dE ab (c.drop off)=some v)(aq:AV.eqb env.bh v v=true)
  (h:bM (.dp N (wn.map (λq=>(q,id,AO.cells c))++cu)) env aK D n ops (bs ((d,v)::F) z) J Q):bM (.dp N cu) env aK D n (⟨some d,.load ab x,g,wn⟩::ops) (bs F z) J Q:=dy.jK (H.get _ hm) hd (sv hw) (λs al=>by rw[nx];exact nZ _ _ h1 (tv al h2)) aq h
def pM{N:Nat}{cu:kB}{d:Nat}{op:AOp}{g:Option (Nat×Bool)}{wn:List Nat}{ops:List a2}{v:AV}(lH:cN (λq=>Nat.ble N (q+ops.length)&&Nat.ble q N) wn=true)(hd:Nat.blt d n=true)(hw:wtL g n F=true)(ho:∀s:ad,opx 0 (cL env n F z) s op=some (.val v s))(aq:AV.eqb env.bh v v=true)(h:bM (.dp N cu) env aK D n ops (bs ((d,v)::F) z) J Q):bM (.dp N cu) env aK D n (⟨some d,op,g,wn⟩::ops) (bs F z) J Q:=dy.pM lH hd (sv hw) (λs=>by rw[nx];exact ho s) aq h
def b6{L:List (Nat×List AV)}(H:Has J L){d:Nat}{v:AV}{g:Option (Nat×Bool)}{ops:List a2}{c:List AV}{k:Nat}(hn:J.next=k)(hd:Nat.blt d n=true)(hw:wtL g n F=true)(aa:v.cells=c)(h:∀τ:ad,τ.next=k+1->Has τ ((k,c)::L)->(∀i o,J.get i=some o->τ.get i=some o)->bM cb env aK D n ops (bs ((d,.p (some (k,0)))::F) z) τ Q):bM cb env aK D n (⟨some d,.alloc v,g,[]⟩::ops) (bs F z) J Q:=by
 subst hn;have bA:∀i o,J.get i=some o->(J.push (.cells c)).get i=some o:=λi o ho=>by rw[ad.fX trivial _ (ad.a9 ho)];exact ho
 refine val (v:=kH J.next 0) (ai:=J.push (.cells c)) hd hw (by rw[<-aa];rfl) (h (J.push (.cells c)) I (H.push I (ad.js _) bA) bA)
def bN{L:List (Nat×List AV)}(H:Has J L){d:Nat}{x:aJ}{v:AV}{g:Option (Nat×Bool)}{ops:List a2}{c:List AV}{k:Nat}(hn:J.next=k)(hd:Nat.blt d n=true)(hw:wtL g n F=true)(aq:cL env n F z x=some v)(hval:v.val=true)(aa:v.cells=c)(h:∀τ:ad,τ.next=k+1->Has τ ((k,c)::L)->(∀i o,J.get i=some o->τ.get i=some o)->bM cb env aK D n ops (bs ((d,.p (some (k,0)))::F) z) τ Q):bM cb env aK D n (⟨some d,.box x,g,[]⟩::ops) (bs F z) J Q:=by
 subst hn;have bA:∀i o,J.get i=some o->(J.push (.cells c)).get i=some o:=λi o ho=>by rw[ad.fX trivial _ (ad.a9 ho)];exact ho
 refine val (v:=kH J.next 0) (ai:=J.push (.cells c)) hd hw ?_ (h (J.push (.cells c)) I (H.push I (ad.js _) bA) bA);show(match cL env n F z x with|some v=>cond v.val (some (bO.val (kH J.next 0) (J.push (.cells v.cells)))) none|none=>none)=_;rw[aq];show cond v.val _ _=_;rw[hval,cond_true,aa]
def st{L:List (Nat×List AV)}(H:Has J L)(j:Nat){ab:Option Nat}{a x:aJ}{g:Option (Nat×Bool)}{ops:List a2}{id off:Nat}{v:AV}{c bc:List AV}(hw:wtL g n F=true)(h1:cL env n F z a=some (.p (some (id,off))))(aA:L[j]? =some (id,c))(h2:cL env n F z x=some v)(g4:conf ab v=true)(aa:storeCells c off v.cells=some bc)
  (h:∀τ:ad,τ.next=J.next->Has τ (L.set j (id,bc))->(∀i o,i≠id->J.get i=some o->τ.get i=some o)->bM cb env aK D n ops (bs F z) τ Q):bM cb env aK D n (⟨none,.store ab a x,g,[]⟩::ops) (bs F z) J Q:=by
 have al:=H.get _ (eY aA);exact uR hw (a0Q al h1 h2 g4 aa) (h _ I (H.set j aA (hK al).1 (hK al).2) (hK al).2)
def kk{L:List (Nat×List AV)}(H:Has J L){d:Nat}{v0 v:AV}{ab:Option Nat}{x:aJ}{ops:List a2}{c:List AV}{k:Nat}(hn:J.next=k)(hd:Nat.blt d n=true)(hx:cL env n ((d,.p (some (k,0)))::F) z x=some v)(g4:conf ab v=true)(aa:v.cells=c)(hl:c.length=v0.cells.length)(h1:Nat.beq d d=true)
  (h:∀τ:ad,τ.next=k+1->Has τ ((k,c)::L)->(∀i o,J.get i=some o->τ.get i=some o)->bM cb env aK D n ops (bs ((d,.p (some (k,0)))::F) z) τ Q):bM cb env aK D n (⟨some d,.alloc v0,none,[]⟩::⟨none,.store ab (.t d) x,none,[]⟩::ops) (bs F z) J Q:=by
 refine b6 H hn hd I I λτ aQ aZ bX=>?_;have aM:cL env n ((d,.p (some (k,0)))::F) z (.t d)=some (.p (some (k,0))):=by
  show cond (Nat.blt d n) (match cond (Nat.beq d d) (some _) _ with|some v=>some v|none=>some (z d)) none=_;rw[hd,h1];rfl
 refine st aZ 0 I aM I hx g4 (by rw[aa];exact storeAll hl) λa5 dg cD dn=>h a5 (dg.trans aQ) cD λi o ho=>dn i o ?_ (bX i o ho);have:=ad.a9 ho;omega
def et{b:bJ}{K:Nat->List AV->AV->Prop}{d:Nat}{op:AOp}{g:Option (Nat×Bool)}{ops:List a2}{fn:Nat}{args aO:List AV}{r:AV}(hf:∀g aO r bR,K g aO r->K g aO bR->r=bR)(e:b.ext fn=0/\b.pure fn=true)(de:K fn aO r)
  (hd:Nat.blt d n=true) (hw:wtL g n F=true) (ho:opx 0 (cL (b.aF K) n F z) J op=some (.call (.f (.func fn) [] []) args)) (ha:mapO (bt J (b.bh+1000)) args=some aO) (h:bM cb (b.aF K) aK D n ops (bs ((d,r)::F) z) J Q):bM cb (b.aF K) aK D n (⟨some d,op,g,[]⟩::ops) (bs F z) J Q:=by
 cases cb with
 |pl=>exact az.known hf e.1 e.2 de hd (sv hw) (by rw[nx];exact ho) ha h
 |dp N cu=>
  exact dy.call (R:=λx τ=>x= .ok r/\τ=J) hd (sv hw) (by rw[nx];exact ho) (bb.spec e.1 e.2 (by rw[xI,hI];exact ha) (RM hf de) ⟨rfl,rfl⟩) λbR τ ⟨aM,aU⟩=>⟨_,aM,by subst aU;exact h⟩
def bS{d:Nat}{op:AOp}{g:Option (Nat×Bool)}{ops:List a2}{bG:AV}{args:List AV}{R:ee->ad->Prop}(hd:Nat.blt d n=true)(hw:wtL g n F=true)(ho:opx 0 (cL env n F z) J op=some (.call bG args))
  (aa:bb env 0 bG args J R) (h:∀r τ,R r τ->∃v,r= .ok v/\bM cb env aK D n ops (bs ((d,v)::F) z) τ Q):bM cb env aK D n (⟨some d,op,g,[]⟩::ops) (bs F z) J Q:=by
 cases cb with
 |pl=>exact az.iy hd (sv hw) (by rw[nx];exact ho) aa h
 |dp N cu=>exact dy.call hd (sv hw) (by rw[nx];exact ho) aa h
end
section
variable {cb:jv}{env:Env}{aK:Option Nat}{D:List (Nat ⊕ (AV×List AV))}{n:Nat}{f:Nat->AV}{J:ad}{Q:dO}{d:Option Nat}{g:Option (Nat×Bool)}{wn:List Nat}{ops:List a2}
def Lk{ab:Option Nat}{x:aJ}(h:bM cb env aK D n (⟨d,.load ab x,g,[]⟩::ops) f J Q):bM cb env aK D n (⟨d,.load ab x,g,[]⟩::ops) f J Q:=h
def R4{ab:Option Nat}{x:aJ}{a:Nat}{l:List Nat}(h:bM cb env aK D n (⟨d,.load ab x,g,a::l⟩::ops) f J Q):bM cb env aK D n (⟨d,.load ab x,g,a::l⟩::ops) f J Q:=h
def Ll{op:BinOp}{x y:aJ}(h:bM cb env aK D n (⟨d,.bin op x y,g,wn⟩::ops) f J Q):bM cb env aK D n (⟨d,.bin op x y,g,wn⟩::ops) f J Q:=h
def Lm{ab:Option Nat}{x y:aJ}(h:bM cb env aK D n (⟨d,.k2 ab x y,g,wn⟩::ops) f J Q):bM cb env aK D n (⟨d,.k2 ab x y,g,wn⟩::ops) f J Q:=h
def Ln{k:Nat}{x:aJ}(h:bM cb env aK D n (⟨d,.len k x,g,wn⟩::ops) f J Q):bM cb env aK D n (⟨d,.len k x,g,wn⟩::ops) f J Q:=h
end
def lt{cb:jv}{env:Env}{aK:Option Nat}{D:List (Nat ⊕ (AV×List AV))}{n:Nat}{F:List (Nat×AV)}{z:Nat->AV}{J:ad}{Q:dO}{d:Nat}{ab:Option Nat}{x:aJ}{g:Option (Nat×Bool)}{ops:List a2}{o:Bool}{v:AV}(hd:Nat.blt d n=true)(hw:wtL g n F=true)(h1:cL env n F z x=some (.df o v))(h2:conf ab v=true)(h:bM cb env aK D n ops (bs ((d,v)::F) z) J Q):bM cb env aK D n (⟨some d,.load ab x,g,[]⟩::ops) (bs F z) J Q:=K7 hd hw h1 h2 h
def qw:Nat->List AV->List (Nat×AV)
 |_,[]=>[]
 |i,a::l=>(i,a)::qw (i+1) l
def Lo{f:Nat->AV}:∀(l:List AV) (i:Nat),(∀j a,l[j]? =some a->f (i+j)=a)->sat (qw i l) f
 |[],_,_=>trivial
 |a::l,i,h=>⟨h 0 a I,Lo l (i+1) λj cF e=>by have:=h (j+1) cF e;rwa[show i+(j+1)=i+1+j from by omega] at this⟩
def args{env:Env}{aK:Option Nat}{D:List (Nat ⊕ (AV×List AV))}{n:Nat}{c:b5}{as:List AV}{J:ad}{Q:dO}(h:∀z,bo env aK D n c (bs (qw 0 as) z) J Q):bo env aK D n c (gy as) J Q:=
 ah.norm (qw 0 as) (Lo as 0 λj a e=>by show as.getD (0+j) dF=a;rw[nq,fD,e];rfl) h
def code{env:Env}{J:ad}{fn:Nat}{cj:gr}{body:b5}{dp:Nat}{first cap args:List AV}{R:ee->ad->Prop}(e:env.ext fn=0)(an:env.pure fn=false)(hf:env.funcs fn=some cj)(hb:cj.body=some body)
  (hn:(Nat.beq (first++args++cap).length cj.kF&&Nat.ble (first++args++cap).length cj.ntmps)=true) (c0:cj.results=[(dp,none)]) (oK:Nat.blt dp cj.ntmps=true)
  (h:∀z,bo env none [] cj.ntmps body (bs (qw 0 (first++args++cap)) z) J (λx b9 ai=>x= .ret/\R (.ok (b9 dp)) ai)):bb env 0 (.f (.func fn) first cap) args J R:=bb.code e an hf hb hn c0 oK (W.args h)
def mV{env:Env}{J:ad}{fn:Nat}{cj:gr}{body:b5}{first cap args:List AV}{R:ee->ad->Prop}(e:env.ext fn=0)(an:env.pure fn=false)(hf:env.funcs fn=some cj)(hb:cj.body=some body)
  (hn:(Nat.beq (first++args++cap).length cj.kF&&Nat.ble (first++args++cap).length cj.ntmps)=true) (c0:cj.results=[])
  (h:∀z,bo env none [] cj.ntmps body (bs (qw 0 (first++args++cap)) z) J (λx _ ai=>(x= .ret\/x= .normal)/\R (.ok (.bg [])) ai)):bb env 0 (.f (.func fn) first cap) args J R:=bb.mV e an hf hb hn c0 (W.args h)
end W
def AV.lf:AV->Bool
 | .b _=>true| .i _ _=>true| .s _=>true| .p _=>true| .ao _ _ _ _ _=>true| .nilsl=>true| .m _=>true| .hD=>true| .fx=>true| .y _=>true| .gP _ _=>true
 |_=>false
def eo{n:Nat}{v:AV}(h:v.lf=true):AV.eqb (n+1) v v=true:=by
 cases v with
 |b x=>show(x==x)=true;simp
 |i k x=>show(decide (k=k)&&decide (x=x))=true;simp
 |s l=>exact K5 l
 |p a=>cases a with
  |none=>rfl
  |some a=>show(Nat.beq a.1 a.1&&Nat.beq a.2 a.2)=true;simp
 |ao a b c d e=>show(Nat.beq a a&&Nat.beq b b&&Nat.beq c c&&decide (d=d)&&decide (e=e))=true;simp
 |nilsl=>rfl
 |m r=>cases r with
  |none=>rfl
  |some r=>show Nat.beq r r=true;simp
 |hD=>rfl
 |fx=>rfl
 |y i=>show Nat.beq i i=true;simp
 |gP o i=>show((o==o)&&Nat.beq i i)=true;simp
 |_=>cases h
def Lp{n:Nat}{l:List AV}(h:cN AV.lf l=true):AV.eqb (n+2) (.aj l) (.aj l)=true:=pK λx hx=>eo (nv h x hx)
end
section
variable (P:Program)
def winGo(A:List Nat)(i nd:Nat):List Nat->List Nat
 |[]=>[]
 |q::es=>if Nat.blt i q then(let t:=if(A.getD q 0).testBit i then[] else winGo A i nd es;if Nat.blt nd q then q::t else t) else winGo A i nd es
def b5r(A es cs:List Nat)(n:Nat)(x:a2×Nat):List Nat:=
 if isStore x.1.op&&(Nat.beq (x.2+1) n&&(Nat.blt 0 x.2&&(es.contains (x.2-1)&& !(A.getD x.2 0).testBit (x.2-1)))) then[x.2-1]
 else if x.1.op.looks then winGo A x.2 ((cs.find? (Nat.blt x.2)).getD n) (es++[n]) else[]
def b5s(ops:Array Oper):b5:=
 let l:=(ops.toList.map λo=>(coper P ops o).getD ⟨none,.bad,none,[]⟩)
 let n:=ops.size
 let ds:=ops.toList.map r3
 let bd:=orderGo n ((l.zip ds).zipIdx.map λx=>(x.2,x.1.1.op.isEffect,x.1.2)) 0
 let cZ:=(List.range n).map λi=>bd.findIdx (Nat.beq i)
 let A:=bd.foldl (λacc i=>acc++[zm acc (zn ds cZ i)]) []
 let pl:=(PM l bd).getD []
 let es:=posOf (·.op.isEffect) pl
 let cs:=posOf EE pl
 .draw (pl.zipIdx.map λx=>{x.1 with jS:=b5r A es cs n x})
def ccodeF:Code->b5
 | .region _ ops true=>b5s P ops
 | .region _ ops false=>.region (ops.toList.map λo=>(coper P ops o).getD ⟨none,.bad,none,[]⟩)
 | .seq a b=>.seq (ccodeF a) (ccodeF b)
 | .cond c a b=>.cond ((opdOf c).getD default) (ccodeF a) (ccodeF b)
 | .block id a=>.block id (ccodeF a)
 | .loop a=>.loop (ccodeF a)
 | .scope a=>.scope (ccodeF a)
 | .rangeFunc f aE a b=>.rangeFunc ((opdOf f).getD default) aE.toList (ccodeF a) (ccodeF b)
 | .exit id=>.exit id
 | .ret=>.ret
 | .skip=>.skip
 | .label _=>.skip
 |_=>.bad
def b5t(f:Func):gr:={kF:=f.params.size+f.nfree,ntmps:=f.ntmps,results:=(mapOL (resOf P) f.results.toList).getD [],body:=f.body.map (ccodeF P)}
end
section
variable [Tok][TokOk]
open Go.RowKit
def ld.kG{env:Env}{floor:Nat}{dc:Bool}{o:a2}{ops:List a2}{ae:Fr}{J:ad}{Q:tu}{l:List (AV×ad)}(hw:wantedA o.guard ae.bk=true)(ho:opx floor (evalA env ae.bk) J o.op=some (.kG l))(hl:l≠[])
  (h:∀p∈l,ld env floor dc ops (ae.put o.dst p.1) p.2 Q):ld env floor dc (o::ops) ae J Q:=by
 have:=dz.flat (g:=λ(p:AV×ad) F=>runOps env floor (callV env (exec env F) floor) dc ops (ae.put o.dst p.1) p.2) (Q:=λ(o:hE×Fr×ad)=>Q o.1 o.2.1 o.2.2) l hl h;refine dz.congr this λF=>?_;rw[Cq,hw,cond_true,ho]
section
variable {env:Env}{aK:Option Nat}{D:List (Nat ⊕ (AV×List AV))}{n:Nat}{f:Nat->AV}{J:ad}{Q:dO}
def az.kG{d:Nat}{op:AOp}{g:Option (Nat×Bool)}{wn:List Nat}{ops:List a2}{l:List (AV×ad)}(hd:Nat.blt d n=true)(hw:hp g n f=true)(ho:opx 0 (dJ env n f) J op=some (.kG l))(hl:l≠[])
  (h:∀p∈l,da env aK D n ops (di f d p.1) p.2 Q):da env aK D n (⟨some d,op,g,wn⟩::ops) f J Q:=λae bE=>
 ld.kG (by rw[bE.wanted];exact hw) (by rw[bE.ar];exact ho) hl λp an=>h p an _ (bE.put p.1 hd)
end
end
end Go.Lyc
end
