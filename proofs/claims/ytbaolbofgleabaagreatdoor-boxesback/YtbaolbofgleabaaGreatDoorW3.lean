/-
  What functions of the program compute: walks, part 3. No conditions: definitions and laws.
-/
import Derived.Test.YtbaolbofgleabaaGreatDoorW2
import Derived.SizedLaws
set_option linter.all false
noncomputable section
namespace Go.Lyc
def Oe:=@List.map_set
def a4h:=@List.getElem?_set_self
def a4i:=@List.getElem?_set_ne
def a4j:=@List.pairwise_lt_range
def a4k:=@List.filter_cons_of_pos
def a4l:=@List.length_pos_of_mem
def Vy:=@List.map_eq_nil_iff
variable {b:bJ}{K:Nat->List AV->AV->Prop}
set_option maxHeartbeats 0
set_option maxRecDepth 100000
section
variable [Tok][TokOk]
open Go.RowKit Go.Lyc.T
structure Bp(J:ad)(p:AV)(cs:List AV):Prop where
 c3C:nilOk p=true
 cR:∀off ab v,dE ab (cs.drop off)=some v->conf ab v=true->∃q,fieldAddrA off ab p=some q/\qQ J ab q=some v
 all:qQ J (some 8) p=some (.aj cs)
def Bp.p{J:ad}{id:Nat}{cs:List AV}(h:J.get id=some (.cells cs))(hl:cs.length=8):Bp J (aw id) cs:=⟨rfl,λoff ab v aq _=>⟨.p (some (id,0+off)),rfl,tv h (by rw[nq];exact aq)⟩,tv h (by
 show(let l:=(cs.drop 0).take 8;if l.length=8 then some (AV.aj l) else none)=_;rw[BW,sM U];simp only[hl,if_true])⟩
def Bp.df{J:ad}{cs:List AV}(hl:cs.length=8):Bp J (.df true (.aj cs)) cs:=⟨rfl,λoff ab v aq aa=>⟨.df true v,by
 show(match dE ab (cs.drop off) with|some v=>some (AV.df true v)|none=>none)=_;rw[aq],by show(if conf ab v then some v else none)=_;rw[if_pos aa]⟩,by
 show(if Nat.beq cs.length 8 then some (AV.aj cs) else none)=_;rw[hl];rfl⟩
namespace W
section
variable {cb:jv}{env:Env}{aK:Option Nat}{D:List (Nat ⊕ (AV×List AV))}{n:Nat}{F:List (Nat×AV)}{z:Nat->AV}{J:ad}{Q:dO}{g bx bz:Option (Nat×Bool)}{ops:List a2}
def Vz{ar:aJ->Option AV}{a:aJ}{p:AV}(h:ar a=some p)(a_:nilOk p=true):opx 0 ar J (.nilCheck a)=some (.val p J):=by
 show(match ar a with|some v=>cond (nilOk v) (some (bO.val v J)) none|none=>none)=_;rw[h];show cond (nilOk p) _ _=_;rw[a_];rfl
def VA{ar:aJ->Option AV}{a:aJ}{p q:AV}{off:Nat}{ab:Option Nat}(h:ar a=some p)(aS:fieldAddrA off ab p=some q):opx 0 ar J (.fieldAddr off ab a)=some (.val q J):=by
 show(match ar a with|some x=>(match fieldAddrA off ab x with|some v=>some (bO.val v J)|none=>none)|none=>none)=_;rw[h];show(match fieldAddrA off ab p with|some v=>some (bO.val v J)|none=>none)=_;rw[aS]
def Ea{d:Nat}{v:AV}(hd:Nat.blt d n=true):cL env n ((d,v)::F) z (.t d)=some v:=by
 show cond (Nat.blt d n) (match cond (Nat.beq d d) (some v) _ with|some v=>some v|none=>some (z d)) none=_;rw[hd,g0];rfl
def eW{p:AV}{cs:List AV}(HN:Bp J p cs){a:aJ}{d1 d2 d3 off:Nat}{ab:Option Nat}{v:AV}(h1:Nat.blt d1 n=true)(h2:Nat.blt d2 n=true)(h3:Nat.blt d3 n=true)(hw:wtL g n F=true)(ha:cL env n F z a=some p)(aq:dE ab (cs.drop off)=some v)(aa:conf ab v=true)
  (lB:∀q,wtL bx n ((d1,p)::F)=true/\wtL bz n ((d2,q)::(d1,p)::F)=true) (h:∀q,bM cb env aK D n ops (bs ((d3,v)::(d2,q)::(d1,p)::F) z) J Q):bM cb env aK D n (⟨some d1,.nilCheck a,g,[]⟩::⟨some d2,.fieldAddr off ab (.t d1),bx,[]⟩::⟨some d3,.load ab (.t d2),bz,[]⟩::ops) (bs F z) J Q:=by
 obtain⟨q,aM,aU⟩:=HN.cR off ab v aq aa;exact val h1 hw (Vz ha HN.c3C) (val h2 (lB q).1 (VA (Ea h1) aM) (val h3 (lB q).2 (nZ _ _ (Ea h2) aU) (h q)))
end
end W
def prt(T:List a7)(k:Nat):List Nat:=
 match T[k-1]? with
 |none=>[]
 |some x=>if x.hyp=true then[k] else if x.bH=ep then(if _h:jC x<k then prt T (jC x) else[]) else k::x.cs.flatMap λc=>if _h:c.2<k then prt T c.2 else[]
termination_by k
section
variable {T:List a7}{R:List bw}(G:hN T R){k:Nat}{x:a7}
def IH(hx:T[k-1]? =some x)(h:x.hyp=true):prt T k=[k]:=by
 rw[prt,hx];simp only[h,if_true]
include G
theorem II(h1:1<=k)(hx:T[k-1]? =some x)(h:x.hyp=false)(ak:x.bH=ep):prt T k=prt T (jC x):=by
 obtain⟨c,l,_,e,_,_,h3⟩:=G.last h1 hx h;rw[prt,hx];simp only[h,ak,if_true];rw[if_neg ay,dif_pos U]
theorem IJ(h1:1<=k)(hx:T[k-1]? =some x)(h:x.hyp=false)(ak:x.bH≠ep):prt T k=k::x.cs.flatMap λc=>prt T c.2:=by
 have aa:=(G.cs k x h1 hx h).2.2;rw[prt,hx];simp only[h];rw[if_neg ay,if_neg ak]
 congr 1
 rw[List.flatMap_def,List.flatMap_def,show(x.cs.map λc=>if _h:c.2<k then prt T c.2 else[])=x.cs.map λc=>prt T c.2 from pd λc je=>dif_pos (aa c je).2.2]
theorem hN.go:ID T:=⟨by have:=G.lt;omega,λk x h1 hx=>by
 cases h:x.hyp with
 |true=>
  obtain⟨aM,aU⟩:=G.hy x (eY hx) h;rw[aM,aU];exact⟨(λh=>by cases h),ay,ay⟩
 |false=>
  obtain⟨a,c,d⟩:=G.cs k x h1 hx h;exact⟨λ_=>a,U,d⟩⟩
omit G
theorem a4m{f:Nat×Nat->Nat}:∀ {l:List (Nat×Nat)} {a:Nat},l.foldl (λa c=>iZ a (f c)) a<=300->(∀c∈l,f c<=300)/\l.foldl (λa c=>iZ a (f c)) a=a+(l.map f).sum
 |[],a,_=>⟨ay,ay⟩
 |y::l,a,h=>by
  obtain⟨h1,h2⟩:=a4m (l:=l) (a:=iZ a (f y)) h;rw[BV] at h ⊢;rw[h2] at h ⊢;have h3:min (a+f y) 301+(l.map f).sum<=300:=h;refine⟨λc aa=>?_,?_⟩
  ·rcases c2.1 aa with rfl|aa
   ·omega
   ·exact h1 c aa
  ·rw[pf,List.sum_cons];show min (a+f y) 301+_=_;omega
theorem a4n{f:Nat×Nat->Nat}:∀ {l:List (Nat×Nat)} {a:Nat},a<=l.foldl (λa c=>fo a (f c)) a/\∀c∈l,f c+1<=l.foldl (λa c=>fo a (f c)) a
 |[],a=>⟨a8 _,ay⟩
 |y::l,a=>by
  obtain⟨h1,h2⟩:=a4n (f:=f) (l:=l) (a:=fo a (f y));rw[BV];have h3:max a (f y+1)<=l.foldl (λa c=>fo a (f c)) (fo a (f y)):=h1;refine⟨U,λc aa=>?_⟩;rcases c2.1 aa with rfl|aa
  ·omega
  ·exact h2 c aa
include G
theorem c3D:∀k,1<=k->k<=T.length->msr T 1 iZ k<=300->(prt T k).length=msr T 1 iZ k:=λk=>by
 induction k using Nat.strongRecOn with
 |ind k aC=>
  intro h1 h2 al;have hx:T[k-1]? =some T[k-1]:=cp U;cases h:(T[k-1]).hyp with
  |true=>
   obtain⟨aM,aU⟩:=G.hy _ (bC (show k-1<T.length by omega)) h;rw[IH hx h,IE G.go h1 hx (by rw[aU];decide),aM];rfl
  |false=>
   by_cases ak:(T[k-1]).bH=ep
   ·obtain⟨c,l,_,e,aQ,aZ,bX⟩:=G.last h1 hx h;rw[Oa G.go h1 hx ak,e] at al ⊢;rw[II G h1 hx h ak,e];exact aC _ bX U U al
   ·rw[IE G.go h1 hx ak] at al ⊢;obtain⟨dg,cD⟩:=a4m al;have aa:=(G.cs k _ h1 hx h).2.2;rw[IJ G h1 hx h ak,cD,fw,List.length_flatMap,rY]
    congr 2
    refine pd λc je=>?_;obtain⟨dU,fr,gK⟩:=aa c je;exact aC _ gK U U (dg c je)
theorem a4o(h1:1<=k)(hx:T[k-1]? =some x)(ak:x.bH≠ep){c:Nat×Nat}(aa:c∈x.cs):msr T 0 fo c.2+1<=msr T 0 fo k:=by
 rw[IE G.go h1 hx ak];exact(a4n (f:=λc:Nat×Nat=>msr T 0 fo c.2)).2 c aa
theorem a4p(h1:1<=k)(hx:T[k-1]? =some x)(ak:x.bH=ep):msr T 0 fo (jC x)=msr T 0 fo k:=(Oa G.go h1 hx ak).symm
def tZ(T:List a7)(k:Nat):Prop:=1<=k/\k<=T.length/\∀x,T[k-1]? =some x->x.hyp=false->x.bH≠ep
theorem VB:∀k,1<=k->k<=T.length->∀j∈prt T k,tZ T j/\j<=k:=λk=>by
 induction k using Nat.strongRecOn with
 |ind k aC=>
  intro h1 h2 j aA;have hx:T[k-1]? =some T[k-1]:=cp U;have self:((T[k-1]).hyp=false->(T[k-1]).bH≠ep)->tZ T k/\k<=k:=λh=>⟨⟨h1,h2,λx cX=>by rw[hx] at cX;cases cX;exact h⟩,a8 _⟩
  cases h:(T[k-1]).hyp with
  |true=>
   rw[IH hx h] at aA;rw[cA.1 aA];exact self λh'=>by rw[h] at h';cases h'
  |false=>
   by_cases ak:(T[k-1]).bH=ep
   ·obtain⟨c,l,_,e,aQ,aZ,bX⟩:=G.last h1 hx h;rw[II G h1 hx h ak,e] at aA;obtain⟨d1,d2⟩:=aC _ bX U U j aA;exact⟨d1,U⟩
   ·rw[IJ G h1 hx h ak] at aA;rcases c2.1 aA with rfl|aA
    ·exact self λ_=>ak
    ·obtain⟨c,je,aA⟩:=uo.1 aA;obtain⟨dU,fr,gK⟩:=(G.cs k _ h1 hx h).2.2 c je;obtain⟨d1,d2⟩:=aC _ gK U U j aA;exact⟨d1,U⟩
end
def a4q(env:Env)(g:Nat)(cap:List AV)(N:Nat)(A:Nat->(Nat->Prop)->ad->List AV->Prop)(J:ad)(gB:Nat->Prop):Prop:=
 ∀(y:Nat) (h8:Dw) (τ:ad),S0 τ.next h8->(∀i W cx args,i<N->τ.next<=cx.next->A i W cx args->h8 i W cx->bb env 0 (.f (.yield y) [] []) args cx (λr a5=>r= .ok (.b true)/\∃W',h8 (i+1) W' a5/\oZ W W' cx a5))→
  J.next<=τ.next->(∀c o,J.get c=some o->τ.get c=some o)->(∀c,gB c->c<J.next)->h8 0 gB τ->bb env 0 (.f (.func g) [] cap) [.f (.yield y) [] []] τ (λr ax=>r= .ok (.bg [])/\∃W',h8 N W' ax)
def cQ.a4r{env:Env}{D:List (Nat ⊕ (AV×List AV))}{n:Nat}{f:Nat->AV}{J:ad}{Q:dO}{dX:aJ}{aE:List Nat}{dw gx:b5}{g:Nat}{cap:List AV}{k:Nat}(N:Nat)(dq:Dw)(A:Nat->(Nat->Prop)->ad->List AV->Prop)(gB:Nat->Prop)(aB:J.next=k)
  (mn:dJ env n f dX=some (.f (.func g) [] cap)) (he:env.ext g=0) (an:cN (λp=>Nat.blt p n) aE=true) (hlen:∀i W τ args,A i W τ args->args.length=aE.length)
  (cq:∀i W τ ax,dq i W τ->(∀c o,W c->τ.get c=some o->ax.get c=some o)->τ.next<=ax.next->dq i W ax) (h0:dq 0 gB J) (rv:∀c,gB c->c<k) (dt:a4q env g cap N A J gB)
  (wL:∀i W τ args,i<N->A i W τ args->dq i W τ->(∀c,τ.get (k+1)≠some (.cells c))->(∀c,W c->c<k\/k+2<=c)->k+2<=τ.next->(∀c o,¬gB c->J.get c=some o->τ.get c=some o)->bo env (some (k+1)) [] n dw (FY aE args f) τ (λx f1 cx=>x= .normal/\(τ.next<=cx.next/\∀c o,τ.get c=some o->cx.get c=some o)∧
   ∀a5,a5.next=cx.next->(∀c o,c≠k+1->cx.get c=some o->a5.get c=some o)->dq i W a5->bo env (some (k+1)) [] n gx f1 a5 (λx _ bu=>x= .normal/\∃W',dq (i+1) W' bu/\oZ W W' a5 bu)))
  (wM:∀W τ,dq N W τ->τ.get k=some .c7->k+2<=τ.next->(∀c o,¬gB c->J.get c=some o->τ.get c=some o)->(∀c,W c->gB c\/k+2<=c)->Q .normal f τ):cQ env D (.inl k::D) n (.rangeFunc dX aE dw gx) f J Q:=by
 subst aB;refine cQ.range mn he λao fM=>?_;generalize aB:J.next=k at *;have pG:((J.push .c7).push (.loop .ready none ao aE dw gx k)).get (k+1)=some (.loop .ready none ao aE dw gx k):=by
  have:=ad.js (J:=J.push .c7) (.loop .ready none ao aE dw gx k);rwa[show(J.push .c7).next=k+1 from by show J.next+1=_;rw[aB]] at this
 have lD:∀i o,J.get i=some o->((J.push .c7).push (.loop .ready none ao aE dw gx k)).get i=some o:=λi o ho=>by
  have:=ad.a9 ho;rw[ad.fX trivial _ (show i<(J.push .c7).next from by show i<J.next+1;omega),ad.fX trivial _ this];exact ho
 have oS:((J.push .c7).push (.loop .ready none ao aE dw gx k)).get k=some .c7:=by
  rw[ad.fX trivial _ (show k<(J.push .c7).next from by show k<J.next+1;omega)];have:=ad.js (J:=J) .c7;rwa[aB] at this
 have jG:((J.push .c7).push (.loop .ready none ao aE dw gx k)).next=k+2:=by show J.next+1+1=_;rw[aB]
 generalize(J.push .c7).push (.loop .ready none ao aE dw gx k)=cr at *;refine(dt (k+1) (λi W τ=>dq i W τ/\τ.get (k+1)=some (.loop .ready none ao aE dw gx k)/\k+2<=τ.next/\τ.get k=some .c7/\(∀c,W c->gB c\/k+2<=c)/\∀c o,¬gB c->J.get c=some o->τ.get c=some o) cr ?_ ?_ U lD (λc aa=>by rw[aB];exact rv c aa) ?_).mono ?_
 ·rintro i W τ ax ⟨aQ,aZ,bX,cS,ed,hM⟩ bA hn;exact⟨cq i W τ ax aQ (λc o aa=>bA c o (.inr aa)) hn,bA _ _ (.inl U) aZ,U,bA _ _ (.inl U) cS,ed,λc o aa ho=>bA c o (.inl (by have:=ad.a9 ho;omega)) (hM c o aa ho)⟩
 ·rintro i W τ args hi hn hA ⟨aQ,aZ,bX,cS,ed,hM⟩;have kO:∀c,W c->c<k\/k+2<=c:=λc aa=>by
   rcases ed c aa with h|h
   ·exact .inl (rv c h)
   ·exact .inr h
  refine(bb.round (R:=λa5=>∃W',(dq (i+1) W' a5/\a5.get (k+1)=some (.loop .ready none ao aE dw gx k)/\k+2<=a5.next/\a5.get k=some .c7/\(∀c,W' c->gB c\/k+2<=c)/\∀c o,¬gB c->J.get c=some o->a5.get c=some o)/\oZ W W' τ a5) (f:=f) (n:=n) aZ fM an (by rw[hlen i W τ args hA];exact g0 _) ?_).mono λr ai h=>h;refine(wL i W τ args hi hA aQ (λc e=>by rw[aZ] at e;cases e) kO bX hM).mono λx f1 cx ⟨aM,aU,h1⟩=>?_;have Hb:=aU.2 _ _ aZ;have S1:=cq i W τ cx aQ (λc o _=>aU.2 c o) aU.1;have eK:=hK (bF:=.loop .busy none ao aE dw gx k) Hb;have AJ:¬W (k+1):=λh=>by rcases kO _ h with h|h<;>omega
  have S2:¬W k:=λh=>by rcases kO _ h with h|h<;>omega
  have cV:=aU.1;refine⟨aM,Hb,(h1 (cx.set (k+1) (.loop .busy none ao aE dw gx k)) I (λc o aa ho=>eK.2 c o aa ho) (cq i W _ _ S1 (λc o aa ho=>eK.2 c o (λe=>AJ (e▸aa)) ho) (a8 _))).mono λx _ bu ⟨c3,W',aL,ct⟩=>?_⟩;have oT:=ct.aD _ _ AJ eK.1;have lh:=hK (bF:=.loop .ready none ao aE dw gx k) oT;have dx:cx.next<=bu.next:=ct.next;have own:∀c,W' c->W c\/cx.next<=c:=λc aa=>(ct.own c aa).imp id And.left;have AK:¬W' (k+1):=λh=>by rcases own _ h with h|h;exact AJ h;omega
  have cG:∀c o,¬W c->c≠k+1->τ.get c=some o->(bu.set (k+1) (.loop .ready none ao aE dw gx k)).get c=some o:=λc o aa aY ho=>lh.2 c o aY (ct.aD c o aa (eK.2 c o aY (aU.2 _ _ ho)));refine⟨c3,oT,W',⟨cq _ _ _ _ aL (λc o aa ho=>lh.2 c o (λe=>AK (e▸aa)) ho) (a8 _),lh.1,by show k+2<=bu.next;omega,cG k _ S2 U cS,λc aa=>?_,λc o aa ho=>?_⟩,by show τ.next<=bu.next;omega,λc o aa ho=>?_,λc aa=>(ct.own c aa).imp id λh=>⟨by have h1:cx.next<=c:=h.1;omega,h.2⟩⟩
  ·rcases own c aa with h|h
   ·exact ed c h
   ·exact .inr U
  ·have hlt:=ad.a9 ho;by_cases Hc:W c
   ·rcases ed c Hc with h|h
    ·exact absurd h aa
    ·omega
   ·exact cG c o Hc U (hM c o aa ho)
  ·by_cases hl:c=k+1
   ·subst hl;rw[aZ] at ho;cases ho;exact lh.1
   ·exact cG c o aa hl ho
 ·exact⟨cq 0 gB J cr h0 (λc o _ ho=>lD c o ho) U,pG,U,oS,λc aa=>.inl aa,λc o _ ho=>lD c o ho⟩
 ·rintro r τ ⟨aM,W',aQ,aZ,bX,cS,ed,hM⟩;have eK:=hK (bF:=.loop .exhausted none ao aE dw gx k) aZ;have AK:¬W' (k+1):=λh=>by
   rcases ed _ h with h|h
   ·have:=rv _ h;omega
   ·omega
  exact⟨_,.ready,aM,aZ,ay,wM W' _ (cq _ _ _ _ aQ (λc o aa ho=>eK.2 c o (λe=>AK (e▸aa)) ho) (a8 _)) (eK.2 _ _ U cS) bX (λc o aa ho=>eK.2 c o (by have:=ad.a9 ho;omega) (hM c o aa ho)) ed⟩
end
section
variable [Tok][TokOk]
open Go.RowKit Go.Lyc.T
attribute [local irreducible] bM bo da dy bb
structure t_(cO:Nat)(W:Nat->Prop)(J:ad)(p:AV)(cs:List AV):Prop where
 len:cs.length=8
 is:p= .df true (.aj cs)\/∃id,p=aw id/\J.get id=some (.cells cs)/\id<cO/\¬W id
def t_.eW{cO:Nat}{W:Nat->Prop}{J:ad}{p:AV}{cs:List AV}(h:t_ cO W J p cs):Bp J p cs:=by
 obtain⟨hl,rfl|⟨id,rfl,h,_⟩⟩:=h
 ·exact .df hl
 ·exact .p h hl
def t_.aD{cO:Nat}{W W':Nat->Prop}{J τ:ad}{p:AV}{cs:List AV}(h:t_ cO W J p cs)(aB:∀c o,c<cO->¬W c->J.get c=some o->τ.get c=some o)(hw:∀c,c<cO->W' c->W c):t_ cO W' τ p cs:=by
 obtain⟨hl,h|⟨id,h1,h,h2,h3⟩⟩:=h
 ·exact⟨hl,.inl h⟩
 ·exact⟨hl,.inr ⟨id,h1,aB _ _ h2 h3 h,h2,λh=>h3 (hw _ h2 h)⟩⟩
structure vy(J:ad)(cO:Nat)(V:Nat->Prop)(v:AV)(l:Nat):Prop where
 ex:∃xs,eL J v xs/\xs.length=l
 b5m:∀o l c,v= .ao o 0 l none c->c=none
 own:∀o,v.at? =some o->cO+3<=o/\¬V o
def vy.aD{J τ:ad}{cO:Nat}{V lk:Nat->Prop}{v:AV}{l:Nat}(h:vy J cO V v l)(aB:∀c o,cO+3<=c->¬V c->J.get c=some o->τ.get c=some o)(aq:∀c,c<J.next->lk c->V c):vy τ cO lk v l:=by
 obtain⟨⟨xs,h1,h2⟩,h3,aH⟩:=h;exact⟨⟨xs,h1.aD λi o hi=>aB i o (aH i hi).1 (aH i hi).2,h2⟩,h3,λo ho=>⟨(aH o ho).1,λh=>(aH o ho).2 (aq o (h1.lt ho) h)⟩⟩
def c3E{α:Type}{f:α->List Nat}{L:List Nat}{l:List α}{i k:Nat}{rest:List Nat}(h:L.drop i=k::l.flatMap f++rest){j:Nat}(aA:j<l.length):L.drop (i+1+((l.take j).flatMap f).length)=f l[j]++((l.drop (j+1)).flatMap f++rest):=by
 rw[qO,← pj,h,rY 1,zf,List.drop_succ_cons];have e:l.flatMap f=(l.take j).flatMap f++(f l[j]++(l.drop (j+1)).flatMap f):=by
  conv=>lhs;rw[<-wa j l,Av aA]
  rw[Aw,lR]
 rw[e,iJ,List.drop_left,iJ]
def c3F{α:Type}{f:α->List Nat}{l:List α}{j:Nat}(aA:j<l.length):((l.take (j+1)).flatMap f).length=((l.take j).flatMap f).length+(f l[j]).length:=by
 rw[jL aA,Aw,c5,lR,List.flatMap_nil,hI]
def Of(T:List a7)(R:List bw)(cO:Nat)(L:List Nat)(i:Nat)(W:Nat->Prop)(τ:ad)(args:List AV):Prop:=∃k v l p cs,L[i]? =some k/\args=[v,p]/\tA T R true k= .aj cs/\t_ cO W τ p cs/\vy τ cO W v l/\l<=40
abbrev xi(cO:Nat):AV:=.f (.func GM) [] [aw cO,aw (cO+1),aw (cO+2)]
section
def c3G(hh:a3 (b.aF K) GM Gi){T:List a7}{R:List bw}(G:hN T R){y cO bl N:Nat}{h8:Dw}{L:List Nat}(cq:S0 cO h8)(c3H:L.length=N)(fC:bl<=cO)
  (hy:∀i W cx args,i<N->cO<=cx.next->Of T R bl L i W cx args->h8 i W cx->bb (b.aF K) 0 (.f (.yield y) [] []) args cx (λr a5=>r= .ok (.b true)/\∃W',h8 (i+1) W' a5/\oZ W W' cx a5)):
  ∀k,1<=k->k<=T.length->∀ {J:ad} {V:Nat->Prop} {i l:Nat} {p v:AV} {cs:List AV} (rest:List Nat),tA T R true k= .aj cs->t_ bl V J p cs->h8 i V J->cO+3<=J.next->J.get cO=some (.cells [.f (.yield y) [] []])->J.get (cO+1)=some (.cells [v])->J.get (cO+2)=some (.cells [xi cO])->vy J cO V v l->l+msr T 0 fo k<=40->L.drop i=prt T k++rest->(∀c,V c->c<J.next/\(c<cO\/cO+3<=c))→
   bb (b.aF K) 0 (xi cO) [p] J (λr τ=>r= .ok (.b true)/\∃lk bn,h8 (i+(prt T k).length) lk τ/\J.next<=τ.next/\τ.get cO=some (.cells [.f (.yield y) [] []])/\τ.get (cO+1)=some (.cells [bn])/\τ.get (cO+2)=some (.cells [xi cO])/\vy τ cO lk bn l/\(∀c,lk c->V c\/J.next<=c/\c<τ.next)/\∀c o,c<cO->¬V c->J.get c=some o->τ.get c=some o):=λk=>by
 induction k using Nat.strongRecOn with
 |ind k aC=>
 intro oX c3l J V i l p v cs rest gV an gX hn ss qq uD hX eZ hL hV;have hx:T[k-1]? =some T[k-1]:=cp U;generalize T[k-1]=x at hx;have again:x.hyp=false->x.bH=ep->prt T k=prt T (jC x)/\tA T R true k=tA T R true (jC x)/\1<=jC x/\jC x<k/\msr T 0 fo (jC x)=msr T 0 fo k:=λh ak=>by
  obtain⟨c,l,_,e,aQ,aZ,bX⟩:=G.last oX hx h;exact⟨II G oX hx h ak,xe G true oX hx h ak,U,U,a4p G oX hx ak⟩
 by_cases ha:x.hyp=false/\x.bH=ep
 ·obtain⟨aM,aU,c3,fK,nT⟩:=again ha.1 ha.2;rw[aM] at hL ⊢;exact aC _ fK c3 U rest (aU▸gV) an gX hn ss qq uD hX U hL hV
 ·have c3I:∃aW dT m,cs=ff true aW x.f dT (slA true (some 8) (x.cs.map λc=>tA T R true c.2)) m/\prt T k=k::x.cs.flatMap (λc=>prt T c.2)/\(∀c∈x.cs,1<=c.2/\c.2<k/\msr T 0 fo c.2+1<=msr T 0 fo k)/\x.cs.length<=4:=by
   cases h:x.hyp with
   |true=>
    obtain⟨aQ,aZ⟩:=G.hy x (eY hx) h;rw[yW true hx h] at gV;cases gV;rw[IH hx h,aQ];exact⟨_,_,_,rfl,rfl,ay,ay⟩
   |false=>
    have ak:x.bH≠ep:=λe=>ha ⟨h,e⟩;rw[yX G true oX hx h ak] at gV;cases gV;obtain⟨_,aH,aa⟩:=G.cs k x oX hx h;exact⟨_,_,_,rfl,IJ G oX hx h ak,λc je=>⟨by have:=aa c je;omega,(aa c je).2.2,a4o G oX hx ak je⟩,aH⟩
  obtain⟨aW,dT,m,rfl,Og,fj,M0⟩:=c3I;clear again ha;have gn:=an.eW;refine W.code hh.e hh.p hh.f (by cbv) I I I λz=>?_;have H:Has J [(cO,[.f (.yield y) [] []]),(cO+1,[v]),(cO+2,[xi cO])]:=((Has.nil.cons uD ay).cons qq ay).cons ss ay;rw[Og] at hL ⊢;have xx:L[i]? =some k:=by
   have:=congrArg (λl=>l[0]?) hL;simpa using this
  have c3J:i<N:=by rw[<-c3H];exact(fH.1 xx).1
  obtain⟨⟨pl,Oh,J0⟩,qh,G_⟩:=hX;refine af ?_;refine W.bS I I I (hy i V J [v,p] c3J U ⟨k,v,l,p,_,xx,rfl,gV,an,⟨⟨pl,Oh,J0⟩,qh,λo ho=>⟨by have:=G_ o ho;omega,(G_ o ho).2⟩⟩,U⟩ gX) λr cx ⟨e,AY,Hf,l4⟩=>⟨_,e,?_⟩
  have cy:=l4.next;refine af ?_;have eQ:∀c,cO<=c->c<cO+3->¬V c:=λc h1 h2 h=>by have:=hV c h;omega
  have pG:t_ bl AY cx p _:=an.aD (λc o _=>l4.aD c o) λc aa h=>by
   rcases l4.own c h with h|h
   ·exact h
   ·omega
  have Oi:=pG.eW;have c3K:vy cx cO AY v l:=vy.aD ⟨⟨pl,Oh,J0⟩,qh,G_⟩ (λc o _=>l4.aD c o) λc aa h=>by
   rcases l4.own c h with h|h
   ·exact h
   ·omega
  have wX:∀c,AY c->V c\/J.next<=c/\c<cx.next:=l4.own;have nS:=l4.aD _ _ (eQ cO U U) ss;have aQ:=l4.aD _ _ (eQ (cO+1) U U) qq;have aZ:=l4.aD _ _ (eQ (cO+2) U U) uD;have c3L:∀c o,c<cO->¬V c->J.get c=some o->cx.get c=some o:=λc o _=>l4.aD c o;clear l4;refine W.eW Oi (v:=slA true (some 8) (x.cs.map λc=>tA T R true c.2)) I I I I I I m2 (λq=>⟨rfl,rfl⟩) λq=>?_;refine af ?_;show bo _ _ _ _ _ _ _ _;refine ah.each x.cs.length (λj f τ=>∃lk bn,h8 (i+1+((x.cs.take j).flatMap λc=>prt T c.2).length) lk τ/\cx.next<=τ.next/\τ.get cO=some (.cells [.f (.yield y) [] []])/\τ.get (cO+1)=some (.cells [bn])/\τ.get (cO+2)=some (.cells [xi cO])/\vy τ cO lk bn l/\(∀c,lk c->V c\/J.next<=c/\c<τ.next)/\(∀c o,c<cO->¬V c->J.get c=some o->τ.get c=some o)/\sat [(0,p),(1,aw cO),(2,aw (cO+1)),(3,aw (cO+2))] f) U ⟨AY,v,Hf,a8 _,nS,aQ,aZ,c3K,wX,c3L,dm⟩ I I (λj g τ aA aL hi hm=>?_) (λg τ aL hi=>?_)
  ·obtain⟨lk,bn,gX,jj,zZ,dg,cD,hX,nH,bA,cm,bx,bz,bY,_⟩:=aL;refine ah.norm [(0,p),(1,aw cO),(2,aw (cO+1)),(3,aw (cO+2)),(17,ag j),(16,ag x.cs.length)] ⟨cm,bx,bz,bY,hi,hm,trivial⟩ λg=>?_;have H:Has τ [(cO,[.f (.yield y) [] []]),(cO+1,[bn]),(cO+2,[xi cO])]:=((Has.nil.cons cD ay).cons dg ay).cons zZ ay;obtain⟨⟨c3M,c3N,c3O⟩,d1L,c3P⟩:=hX;refine af ?_;refine W.pu (ag j) c3N I I I I I I I I I (by simp;omega) λv2 a5 kM nz s9 c6 bj=>?_;have qk:∀c o,(c<cO+3\/lk c)->τ.get c=some o->a5.get c=some o:=λc o aa ho=>bj _ _ (λe=>by
    obtain⟨h1,h2⟩:=c3P _ e;rcases aa with h|h
    ·omega
    ·exact h2 h) ho
   have H:Has a5 [(cO,[.f (.yield y) [] []]),(cO+1,[bn]),(cO+2,[xi cO])]:=((Has.nil.cons (qk _ _ (.inl U) cD) ay).cons (qk _ _ (.inl U) dg) ay).cons (qk _ _ (.inl U) zZ) ay;refine af ?_;refine W.st (bc:=[v2]) H 1 I I I I kM.jm (by rw[kM.j3];rfl) λbu dx H k3=>?_;have VC:∀c,lk c->c<cO\/cO+3<=c:=λc aa=>by
    rcases nH c aa with h|h
    ·exact(hV c h).2
    ·omega
   have TS:h8 _ lk bu:=cq _ _ _ bu gX (λc o aa ho=>k3 _ _ (by
    rcases aa with h|h
    ·omega
    ·have:=VC c h;omega) (qk _ _ (aa.imp (λh=>by omega) id) ho)) U
   have oS:t_ bl lk bu p _:=an.aD (λc o aa aq ho=>k3 _ _ U (qk _ _ (.inl U) (bA c o U aq ho))) λc aa h=>by
    rcases nH c h with h|h
    ·exact h
    ·omega
   have c3Q:=oS.eW;have c3R:vy bu cO lk v2 (l+1):=⟨⟨c3M++[j],?_,by rw[c5,c3O];rfl⟩,s9,λo ho=>?_⟩
   rotate_left
   ·unfold eL;rw[gO];exact Sl.aD kM λi o hi ho=>k3 _ _ (by rw[nz] at hi;cases hi;omega) ho
   ·rw[nz] at ho;cases ho;refine⟨U,λh=>?_⟩;rcases nH _ h with h|h
    ·have:=hV _ h;omega
    ·omega
   refine af ?_;refine W.eW c3Q (v:=slA true (some 8) (x.cs.map λc=>tA T R true c.2)) I I I I I I m2 (λq=>⟨rfl,rfl⟩) λq=>?_;refine af ?_;obtain⟨mx,l8,o3⟩:=fj _ (bC aA);obtain⟨Bq,Bd,Oj,iV,aP,hO⟩:=xf G true _ mx U;have oK:=c3E hL aA;have fv:=c3F (f:=λc:Nat×Nat=>prt T c.2) aA;generalize x.cs[j]=dd at *;rw[hO];refine W.bS I I I (aC dd.2 l8 mx U _ hO ⟨rfl,.inl I⟩ TS U (H.qx) (H.x7) (H.Ag) c3R U oK (λc aa=>⟨by rcases nH c aa with h|h;(have:=hV _ h;omega);omega,VC c aa⟩)) λr b3 ⟨e,a4s,v4,DJ,eC,d0,d1,d2,c3S,VD,IK⟩=>⟨_,e,?_⟩
   have H:Has b3 [(cO,[.f (.yield y) [] []]),(cO+1,[v4]),(cO+2,[xi cO])]:=((Has.nil.cons d2 ay).cons d1 ay).cons d0 ay;obtain⟨⟨c3T,a4t,c3U⟩,c3V,a4u⟩:=c3S;have c3W:∀J,lenA J 1 v4=some (l+1):=λJ=>by rw[Sl.G9 a4t,c3U]
   refine af ?_;refine W.len I I I (c3W _) ?_;refine af ?_;refine W.ch (k:=l) a4t c3V U I I I I λw hw Hg S5=>?_;refine af ?_;refine W.st (bc:=[w]) H 1 I I I I hw.jm (by rw[hw.j3];rfl) λcW gw H cP=>?_;refine af ?_;have d1M:∀c,a4s c->lk c\/bu.next<=c/\c<b3.next:=VD;refine⟨rfl,rfl,a4s,w,?_,U,H.qx,H.x7,H.Ag,⟨⟨c3T.take l,hw.aD λi o hi ho=>cP _ _ (by rw[Hg] at hi;have:=a4u _ hi;omega) ho,by rw[g6];omega⟩,S5,λo ho=>by rw[Hg] at ho;exact a4u o ho⟩,λc aa=>?_,λc o aa aq ho=>?_,dm⟩
   ·rw[fv,← qO];exact cq _ _ _ _ DJ (λc o aa ho=>cP _ _ (by
     rcases aa with h|h
     ·omega
     ·rcases VD c h with h|h
      ·have:=VC c h;omega
      ·omega) ho) U
   ·rcases VD c aa with h|h
    ·rcases nH c h with h|h
     ·exact .inl h
     ·exact .inr U
    ·exact .inr U
   ·have h3:=k3 _ _ U (qk _ _ (.inl U) (bA c o aa aq ho));refine cP _ _ U (IK c o aa (λh=>?_) h3);rcases nH c h with h|h
    ·exact aq h
    ·omega
  ·obtain⟨lk,bn,gX,jj,zZ,dg,cD,hX,nH,bA,cm,bx,bz,bY,_⟩:=aL;rw[jw] at gX;show bo _ _ _ _ _ _ _ _;refine ah.norm [] trivial λg=>?_;have H:Has τ []:=Has.nil;refine af ?_;refine ah.ret ⟨rfl,rfl,lk,bn,by rw[fw,rY _ 1,← qO];exact gX,U,zZ,dg,cD,hX,nH,bA⟩
def a4v(hh:a3 (b.aF K) ME LG){J:ad}{p:AV}(an:p.cells=[p]/\p.val=true/\conf none p=true):
  bb (b.aF K) 0 (.f (.func ME) [] []) [p] J (λr τ=>r= .ok (.f (.func GL) [] [aw J.next])/\τ.get J.next=some (.cells [p])/\τ.next=J.next+1/\cM J τ):=by
 refine W.sA hh I I I λz H=>?_;refine af ?_;generalize aS:J.next=q;refine W.bN (c:=[p]) H aS I I I an.2.1 an.1 λτ hn H bl=>?_;refine af ?_;exact ah.ret ⟨rfl,rfl,H.qx,hn,U,bl⟩
def a4w(hh:a3 (b.aF K) GL LN)(zw:a3 (b.aF K) GM Gi){T:List a7}{R:List bw}(G:hN T R){J:ad}{bN yx n:Nat}{cs:List AV}(hb:J.get bN=some (.cells [aw yx]))(an:J.get yx=some (.cells cs))(gV:tA T R true n= .aj cs)(eD:cs.length=8)(h1:1<=n)(hn:n<=T.length)(hd:msr T 0 fo n<=40)(gB:Nat->Prop)(rv:¬gB yx):
  a4q (b.aF K) GL [aw bN] (prt T n).length (Of T R J.next (prt T n)) J gB:=by
 intro y h8 τ cq hy MZ u_ hlt gX;refine W.mV hh.e hh.p hh.f (by cbv) I I λz=>?_;have H:Has τ [(bN,[aw yx])]:=Has.nil.cons (u_ _ _ hb) ay;have qK:=ad.a9 an;refine af ?_;generalize aS:τ.next=q at *;refine W.bN (c:=[.f (.yield y) [] []]) H aS I I I I I λcx cy H t1=>?_;refine af ?_;refine W.b6 (c:=[.nilsl]) H cy I I I λa5 c6 H t2=>?_;refine af ?_;refine W.b6 (c:=[.hD]) H c6 I I I λbu dx H t3=>?_;refine af ?_;refine W.st (bc:=[xi q]) H 0 I I I I I I λb3 eC H t4=>?_;refine af ?_;have cG:∀c o,c<q->τ.get c=some o->b3.get c=some o:=λc o aa ho=>t4 _ _ U (t3 _ _ (t2 _ _ (t1 _ _ ho)));refine W.bS I I I (c3G zw G (y:=y) (cO:=q) (bl:=J.next) (h8:=h8) (L:=prt T n) (V:=gB) (i:=0) (l:=0) (v:=.nilsl) cq I MZ hy n h1 hn [] gV ⟨eD,.inr ⟨yx,rfl,cG _ _ U (u_ _ _ an),qK,rv⟩⟩ (cq _ _ _ _ gX (λc o aa ho=>cG c o (by rcases aa with h|h;exact h;have:=hlt c h;omega) ho) U) U (H.Ag) (H.x7) (H.qx) ⟨⟨[],.nil,rfl⟩,(λ_ _ _ h=>by cases h),λ_ h=>by cases h⟩ U (by rw[BW,hI]) (λc aa=>by have:=hlt c aa;omega)) λr cW ⟨e,lk,bn,DK,_⟩=>⟨_,e,?_⟩
 refine af ?_;exact⟨.inr I,rfl,lk,by rw[nq] at DK;exact DK⟩
end
structure Ok(b:bJ)(K:Nat->List AV->AV->Prop):Prop where
 st:a3 (b.aF K) ME LG
 g3:a3 (b.aF K) GL LN
 x1:a3 (b.aF K) GM Gi
def a4x{T:List a7}{R:List bw}(G:hN T R){n k:Nat}(h1:1<=n)(hn:n<=T.length){i:Nat}(h:(prt T n)[i]? =some k):tZ T k/\k<=n:=VB G n h1 hn k (eY h)
def rP{T:List a7}{R:List bw}(G:hN T R){k:Nat}(o:Bool)(h:tZ T k):∃x,T[k-1]? =some x/\∃m,tA T R o k= .aj (ff o x.bH x.f (if x.hyp=true then k else 0) (slA o (some 8) (x.cs.map λc=>tA T R o c.2)) m)/\x.cs.length<=4/\(x.hyp=true↔x.bH=[])/\(x.hyp=true->x.cs=[]/\m= .nilsl)/\(x.hyp=false->m=rM o T R k x.cs.length):=by
 obtain⟨h1,h2,h3⟩:=h;have hx:T[k-1]? =some T[k-1]:=cp U;refine⟨_,hx,?_⟩;have h3:=h3 _ hx;have hm:=eY hx;generalize T[k-1]=x at hx h3 hm;cases h:x.hyp with
 |true=>
  obtain⟨aQ,aZ⟩:=G.hy x hm h;rw[yW o hx h,aQ,aZ];exact⟨_,rfl,ay,ay,λ_=>⟨rfl,rfl⟩,λh=>by cases h⟩
 |false=>
  obtain⟨_,aH,_⟩:=G.cs k x h1 hx h;obtain⟨_,_,_,aY,_⟩:=G.fR x hm h (h3 h);rw[yX G o h1 hx h (h3 h)];exact⟨_,rfl,aH,⟨(λh=>by cases h),λh=>absurd h aY⟩,(λh=>by cases h),λ_=>rfl⟩
section
variable {b:bJ}{K:Nat->List AV->AV->Prop}(hfn:∀g aO r bR,K g aO r->K g aO bR->r=bR)
include hfn
theorem c3X(hh:Ok b K){T:List a7}{R:List bw}(G:hN T R){n:Nat}(h1:1<=n)(hn:n<=T.length)(al:msr T 1 iZ n<=300)(hd:msr T 0 fo n<=40)(body:b5)(hb:Gb.body=some body):
  cQ (b.aF K) [] [.inl 4] Gb.ntmps body (gy [tA T R true n]) ⟨.nil,0⟩ (TO 4 Gb.results (.b true)):=by
 obtain rfl:=kr (hb.symm.trans (by cbv));refine cQ.args λz=>?_;have H:Has (⟨.nil,0⟩:ad) []:=Has.nil;obtain⟨aW,F,dT,s,m,hO⟩:=xf G true n h1 hn;have hX:=c3D G n h1 hn al;rw[hO];refine cQ.j1 ?_;refine af ?_;refine W.bN (k:=0) (c:=ff true aW F dT s m) H I I I I I I λτ cy H bl=>?_;refine af ?_;refine W.b6 (c:=[.b false]) H cy I I I λa5 c6 H bj=>?_;refine af ?_;refine⟨rfl,?_⟩;refine cQ.j1 ?_;refine af ?_;refine W.b6 (c:=[ag 0]) H c6 I I I λbu dx H k3=>?_;refine af ?_;refine W.st H 0 I I I I I I λb3 eC H bI=>?_;refine af ?_;refine⟨rfl,?_⟩;refine cQ.wC ?_;refine cQ.j1 ?_;refine af ?_;refine W.bS I I I (a4v hh.st ⟨rfl,rfl,rfl⟩) λv cW ⟨ar,bY,gw,gC⟩=>⟨_,ar,?_⟩
 have H:=H.aD gC.2;have fK:b3.next=3:=by omega
 rw[fK] at bY gw;rw[fK];refine af ?_;refine⟨rfl,?_⟩;refine cQ.block ?_;refine cQ.a4r (k:=4) (prt T n).length (λi W τ=>τ.get 2=some (.cells [ag i])/\W 2) (Of T R cW.next (prt T n)) (λc=>c=2) gw I hh.g3.e I (λi W τ args ⟨k,v,l,p,cs,_,e,_⟩=>by rw[e];rfl) (λi W τ ax ⟨h,hw⟩ k _=>⟨k _ _ hw h,hw⟩) ⟨H.qx,rfl⟩ (λc aa=>by omega) (a4w hh.g3 hh.x1 G bY (H.Ag) hO I h1 hn hd _ (by show ¬(0=2);omega)) ?_ ?_
 ·rintro i V τ args hi ⟨k,v,l,p,cs,aB,rfl,fj,an,hX,hl⟩ aL tc S9 uK bA;refine ah.norm [(2,aw 1),(3,aw 2),(7,v),(8,p)] dm λg=>?_;have H:Has τ []:=Has.nil;refine af ?_;refine⟨rfl,⟨a8 _,λ_ _ h=>h⟩,λfG ly fP aL=>?_⟩;obtain⟨aL,nH⟩:=aL;obtain⟨VE,c3Y⟩:=a4x G h1 hn aB;obtain⟨x,hx,aP,IL,c3Z,_⟩:=rP G true VE;rw[fj] at IL;cases IL;have nP:∀J,lenA J 1 v=some l:=λJ=>by
   obtain⟨⟨xs,h1,h2⟩,_⟩:=hX;rw[Sl.G9 h1,h2]
  have H:Has fG [(2,[ag i])]:=Has.nil.cons aL ay;refine af ?_;refine W.st H 0 I I I I I I λgD pv H jg=>?_;have gn:=(an.aD (W':=V) (τ:=gD) (λc o aa aq ho=>jg c o (λe=>aq (e▸nH)) (fP c o (by rw[gw] at aa;omega) ho)) λ_ _ h=>h).eW;refine af ?_;refine W.len I I I (nP _) ?_;refine af ?_;refine W.eW gn (v:=slA true (some 8) (x.cs.map λc=>tA T R true c.2)) I I I I I I m2 (λq=>⟨rfl,rfl⟩) λq=>?_;refine af ?_;exact⟨rfl,V,⟨H.qx,nH⟩,U,λc o aa ho=>jg c o (λe=>aa (e▸nH)) ho,λc aa=>.inl aa⟩
 ·intro V τ ⟨aL,nH⟩ eH jj bA kO;refine⟨rfl,rfl,?_⟩;have H:Has τ [(1,[.b false])]:=Has.nil.cons (bA _ _ U (H.x7)) ay;refine ah.norm [(2,aw 1)] ⟨rfl,trivial⟩ λg=>?_;refine af ?_;refine W.st (bc:=[.b true]) H 0 I I I I I I λgD pv H jg=>?_;refine af ?_;have hm:=jg _ _ U eH;exact ah.ret ⟨rfl,hm,_,qC (gl I ((hK (bF:=.dead) hm).2 _ _ U (H.qx)) I),rfl⟩
end
end
section
variable [Tok][TokOk]
open Go.RowKit Go.Lyc.T
def xj(a b:Nat):keyEq (.inl 0) (ag a) (ag b)=some (decide (a=b)):=by
 show(if(IntKind.i64= .i64) then some (decide (Int.ofNat a=Int.ofNat b)) else none)=_;rw[if_pos I];simp only[RJ,Int.natCast_inj]
def c4a{env:Env}(hh:a3 env qA x9){W:Nat->Prop}{B bf bN:Nat}{aR:List Nat}(dq:List Nat->ad->Prop)(aL:∀c J ai,dq c J->a2p J ai->dq c ai)(g2:AV)
  (hy:∀k c J,B<=J.next->c.length<aR.length->dq c J->bb env 0 g2 [ag k] J (λr ai=>r= .ok (.b true)/\dq (c++[k]) ai/\DH B W J ai)) (J:ad) (b0:B<=J.next) (Tv:bf<B) (AR:¬W bf)
  (hm:J.get bf=some (.map (setE ag 0 aR) aR.length)) (fY:J.get bN=some (.cells [.m (some bf)])) (h0:dq [] J):
  bb env 0 (.f (.func qA) [] [.p (some (bN,0))]) [g2] J (λr ai=>r= .ok (.bg [])/\∃c,c.Perm aR/\dq c ai/\J.next<=ai.next/\∀i o,i<B->¬W i->J.get i=some o->ai.get i=some o):=by
 refine bb.mV hh.e hh.p hh.f (by cbv) I I ?_;refine ah.seq (ah.region ?_);refine az.cK (v:=.m (some bf)) fY I I I I ?_;generalize aB:J.next=k at b0;refine az.Ts k aB hm I I λbP cy iv bl=>?_;refine az.nil (ah.block ?_);refine ah.loop (λm f τ=>k+1<=τ.next/\∃seen c,m=(gd seen 0 aR).length/\(c++(gd seen 0 aR).map Prod.fst).Perm aR/\τ.get k=some (.mapIter (some bf) aR.length seen aR.length)/\dq c τ/\(∀i o,i<B->¬W i->J.get i=some o->τ.get i=some o)∧
  sat [(0,g2),(5,.p (some (k,0)))] f) ?_ (gd [] 0 aR).length ⟨U,[],[],rfl,by rw[Ng];exact .refl _,iv,aL _ _ _ h0 ⟨U,λi o _ ho=>bl i o ho⟩,λi o _ _ ho=>bl i o ho,dm⟩
 clear iv cy bl h0;intro m g τ ⟨hn,seen,c,oz,oF,iv,Hx,hold,hL⟩;refine ah.norm _ hL λg=>?_;clear hL;have nh:=hold bf _ Tv AR hm;refine ah.seq (ah.region ?_);refine az.Tt iv nh I I (λwc=>?_) (λp an cr c6 Hy bj=>?_)
 ·refine az.go I I I I ?_;refine az.nil (ah.seq ?_);refine ah.hJ I (λh=>by cases h) (λ_=>?_);refine ah.exit ?_;rw[wc,yp,hI] at oF;exact⟨.inr I,rfl,c,oF,Hx,U,hold⟩
 ·refine az.go I I I I ?_;refine az.nil (ah.seq ?_);refine ah.hJ I (λ_=>?_) (λh=>by cases h);have eH:bf≠k:=by omega
  have mw:=bj _ _ eH nh;refine ah.skip (ah.block (ah.seq (ah.region ?_)));refine az.Tu an Hy mw I I ?_;refine az.go I I I I ?_;refine az.go I I I I ?_;refine az.nil (ah.seq (ah.region ?_));refine az.go I I I I ?_;refine az.go I I I I ?_;have yB:=Hw seen aR 0 p an;have hlen:=oF.length_eq;have Tw:=yB.length_eq;rw[c5,bB] at hlen;rw[fw] at Tw;have G4:dq c cr:=aL _ _ _ Hx ⟨U,λi o aY ho=>bj i o (λe=>by subst e;rw[iv] at ho;cases ho;exact aY _ _ _ _ I) ho⟩;refine az.iy I I I (hy p.1 c cr U U G4) λr Hz ⟨fK,Tx,AS⟩=>⟨_,fK,?_⟩
  refine az.go I I I I ?_;refine az.nil (ah.hJ I (λh=>by cases h) (λ_=>?_));have eC:=AS.next;refine ah.skip ⟨(gd (seen++[p.2]) 0 aR).length,U,U,seen++[p.2],c++[p.1],rfl,?_,AS.it _ _ _ _ _ Hy,Tx,λi o hi hw ho=>AS.old i o hi hw (bj i o U (hold i o hi hw ho)),dm⟩;refine List.Perm.trans ?_ oF;rw[iJ];exact(yB.map Prod.fst).append_left c
def a4y{env:Env}(hh:a3 env MJ LJ)(bf:Nat)(J:ad)(k:Nat)(aB:J.next=k):bb env 0 (.f (.func MJ) [] []) [.m (some bf)] J (λr ai=>r= .ok (.f (.func qA) [] [.p (some (k,0))])/\ai.next=k+1/\ai.get k=some (.cells [.m (some bf)])/\∀i o,J.get i=some o->ai.get i=some o):=by
 refine bb.code hh.e hh.p hh.f (by cbv) I I I ?_;refine ah.seq (ah.region (az.box (v:=.m (some bf)) (c:=[.m (some bf)]) k aB I I I I I λτ hn h1 bl=>?_));refine F1 ?_;exact ah.ret ⟨rfl,rfl,hn,h1,bl⟩
def cQ.c4b{env:Env}{D:List (Nat ⊕ (AV×List AV))}{n:Nat}{f:Nat->AV}{J:ad}{Q:dO}(fC:a3 env qA x9){dX:aJ}{p:Nat}{dw b:b5}{bf bN:Nat}{aR:List Nat}(W:Nat->Prop)(S:List Nat->ad->Prop)(k:Nat)(aB:J.next=k)
  (mn:dJ env n f dX=some (.f (.func qA) [] [.p (some (bN,0))])) (an:Nat.blt p n=true) (hm:J.get bf=some (.map (setE ag 0 aR) aR.length)) (fY:J.get bN=some (.cells [.m (some bf)])) (hW:∀i,W i->i<k) (AR:¬W bf)
  (ct:∀c τ ax,S c τ->τ.next<=ax.next->(∀i o,i≠k+1->(∀a b c d,o≠ .mapIter a b c d)->τ.get i=some o->ax.get i=some o)->S c ax) (h0:S [] J)
  (wL:∀y c τ,k+2<=τ.next->c.length<aR.length->S c τ->bo env (some (k+1)) [] n dw (di f p (ag y)) τ (λx f1 cx=>x= .normal/\sI τ cx∧
   ∀a5,a5.next=cx.next->(∀i o,i≠k+1->cx.get i=some o->a5.get i=some o)->bo env (some (k+1)) [] n b f1 a5 (λx _ bu=>x= .normal/\S (c++[y]) bu/\DH (k+2) W a5 bu)))
  (wM:∀c τ,c.Perm aR->S c τ->k+2<=τ.next->τ.get k=some .c7->(∀i o,¬W i->J.get i=some o->τ.get i=some o)->Q .normal f τ):cQ env D (.inl k::D) n (.rangeFunc dX [p] dw b) f J Q:=by
 subst aB;refine cQ.range mn fC.e λao fM=>?_;generalize aB:J.next=k at *;obtain⟨cr,aU,c6,nW,iT,bj⟩:∃cr:ad,(J.push .c7).push (.loop .ready none ao [p] dw b k)=cr/\cr.next=k+2/\cr.get (k+1)=some (.loop .ready none ao [p] dw b k)/\cr.get k=some .c7/\∀i o,J.get i=some o->cr.get i=some o:=by
  refine⟨_,rfl,by show J.next+1+1=_;omega,?_,?_,λi o ho=>?_⟩
  ·have:=ad.js (J:=J.push .c7) (.loop .ready none ao [p] dw b k);rwa[show(J.push .c7).next=k+1 from by show J.next+1=_;omega] at this
  ·rw[ad.fX trivial _ (show k<(J.push .c7).next from by show k<J.next+1;omega)];have:=ad.js (J:=J) .c7;rwa[aB] at this
  ·have:=ad.a9 ho;rw[ad.fX trivial _ (show i<(J.push .c7).next from by show i<J.next+1;omega),ad.fX trivial _ this];exact ho
 rw[aU];clear aU;have eH:=ad.a9 hm;have qB:¬W (k+1):=λh=>by have:=hW _ h;omega
 have kO:¬W k:=λh=>by have:=hW _ h;omega
 refine(c4a fC (W:=λi=>W i\/i=k+1) (B:=k+2) (bf:=bf) (bN:=bN) (aR:=aR)
  (λc τ=>S c τ/\τ.get (k+1)=some (.loop .ready none ao [p] dw b k)) ?_ (.f (.yield (k+1)) [] []) ?_ cr U U (λh=>h.elim AR U) (bj _ _ hm) (bj _ _ fY) ⟨ct _ _ _ h0 U λi o _ _ ho=>bj i o ho,nW⟩).mono ?_
 ·rintro c τ ax ⟨aQ,aZ⟩ ⟨dg,cD⟩;exact⟨ct _ _ _ aQ dg λi o _ h ho=>cD i o h ho,cD _ _ (by intros;simp) aZ⟩
 ·rintro y c τ b0 hlt ⟨aQ,aZ⟩;refine(bb.round (R:=λai=>(S (c++[y]) ai/\ai.get (k+1)=some (.loop .ready none ao [p] dw b k))/\DH (k+2) (λi=>W i\/i=k+1) τ ai) (f:=f) (n:=n) aZ fM (by show cond (Nat.blt p n) _ _=true;rw[an];rfl) I ?_).mono λr ai h=>h;refine(wL y c τ b0 hlt aQ).mono λx f1 cx ⟨aM,fO,h1⟩=>?_;have jd:=fO.2 _ _ aZ;have eK:=hK (bF:=.loop .busy none ao [p] dw b k) jd;refine⟨aM,jd,(h1 (cx.set (k+1) (.loop .busy none ao [p] dw b k)) I (λi o hi ho=>eK.2 i o hi ho)).mono λx _ bu ⟨aU,sB,oR⟩=>?_⟩;have oT:=oR.old _ _ U qB eK.1;have lh:=hK (bF:=.loop .ready none ao [p] dw b k) oT;have cy:=fO.1;have dx:cx.next<=bu.next:=oR.next;have aY:∀ {i:Nat} {a fq bc iE},cx.get i=some (.mapIter a fq bc iE)->i≠k+1:=λh e=>by subst e;rw[jd] at h;cases h
  have Ty:∀ {i:Nat} {a fq bc iE},bu.get i=some (.mapIter a fq bc iE)->i≠k+1:=λh e=>by subst e;rw[oT] at h;cases h
  refine⟨aU,oT,⟨ct _ _ _ sB (a8 _) λi o hi _ ho=>lh.2 i o hi ho,lh.1⟩,by show τ.next<=bu.next;omega,λi o hi hw ho=>?_,λi a fq bc iE ho=>?_⟩
  ·have AT:i≠k+1:=λe=>hw (.inr e);exact lh.2 i o AT (oR.old i o hi (λe=>hw (.inl e)) (eK.2 i o AT (fO.2 i o ho)))
  ·have h1:=fO.2 _ _ ho;have h3:=oR.it _ _ _ _ _ (eK.2 _ _ (aY h1) h1);exact lh.2 _ _ (Ty h3) h3
 ·rintro r τ ⟨aM,c,aa,⟨aQ,aZ⟩,dg,cD⟩;have eK:=hK (bF:=.loop .exhausted none ao [p] dw b k) aZ;refine⟨_,.ready,aM,aZ,ay,wM c _ aa (ct _ _ _ aQ (a8 _) λi o hi _ ho=>eK.2 i o hi ho) (by show k+2<=τ.next;omega) (eK.2 _ _ U (cD _ _ U (λh=>h.elim kO U) iT)) λi o hi ho=>?_⟩;have:=ad.a9 ho;exact eK.2 i o U (cD i o U (λh=>h.elim hi U) (bj i o ho))
def c4c{env:Env}(hh:a3 env Di C3)(fC:a3 env qA x9){bf bN:Nat}{aR:List Nat}(lL:aR.length<=1000000)(J:ad)(hm:J.get bf=some (.map (setE ag 0 aR) aR.length))(fY:J.get bN=some (.cells [.m (some bf)])):
  bb env 0 (.f (.func Di) [] []) [.nilsl,.f (.func qA) [] [.p (some (bN,0))]] J (λr ai=>∃(v:AV) (c:List Nat),r= .ok v/\c.Perm aR/\Acc ai none v (c.map ag)/\(∀a,v.at? =some a->J.next<=a)/\sI J ai):=by
 generalize aB:J.next=k;refine bb.Lb (d:=k+1) hh.e hh.p hh.f (by cbv) I I I ?_;refine cQ.j1 (ah.region (az.box (v:=.nilsl) (c:=[.nilsl]) k aB I I I I I λbP cy h1 bl=>?_));refine j2 ?_;refine⟨rfl,cQ.wC (cQ.j1 (ah.region ?_))⟩;refine j2 ?_;refine⟨rfl,cQ.block ?_⟩;have eH:=ad.a9 hm;refine cQ.c4b fC (λi=>i=k) (λc τ=>∃v,τ.get k=some (.cells [v])/\Acc τ none v (c.map ag)/\∀a,v.at? =some a->k+3<=a/\a<τ.next) (k+1) cy I I (bl _ _ hm) (bl _ _ fY) (λi hi=>by omega) U ?_ ⟨.nilsl,h1,.nil,λa h=>by cases h⟩ ?_ ?_
 ·rintro c τ ax ⟨v,cS,ed,hM⟩ dg cD;exact⟨v,cD _ _ U (by intros;simp) cS,ed.a2q λi c hi h=>cD _ _ (by have:=hM i hi;omega) (by intros;simp) h,λa h=>by have:=hM a h;omega⟩
 ·rintro y c τ b0 hlt ⟨v,cS,ed,hM⟩;refine ah.region ?_;refine az.go I I I I ?_;refine az.nil ⟨rfl,⟨a8 _,λi o ho=>ho⟩,λa5 ji kJ=>?_⟩;have l8:∀i o,i≠k+2->τ.get i=some o->a5.get i=some o:=λi o hi ho=>kJ i o hi ho;have wT:=l8 _ _ U cS;have hA:=ed.aD λi o hi ho=>l8 i o (by have:=hM i hi;omega) ho;refine ah.block (ah.region ?_);refine az.cK (v:=v) wT I I I hA.Nc ?_;refine az.go I I I I ?_;refine az.a0T (y:=ag y) hA I I I (by rw[bB];omega) I I λbn bu hq gi rf o3=>?_;refine az.store (bc:=[bn]) (o3 _ _ (λe=>by have:=hM _ e;omega) wT) I I I hq.jm (by show storeCells _ 0 bn.cells=_;rw[FV hq.jm];rfl) λb3 DA cf o2=>?_;refine az.nil ⟨rfl,⟨bn,cf,?_,λa e=>by rw[gi] at e;cases e;omega⟩,U,λi o hi hw ho=>o2 i o hw (o3 i o (λe=>by have:=hM _ e;omega) ho),λi a fq bc iE ho=>?_⟩
  ·rw[gO];exact hq.aD λi o hi ho=>by
    rw[gi] at hi;cases hi;exact o2 _ _ U ho
  ·refine o2 _ _ (λe=>by subst e;rw[wT] at ho;cases ho) (o3 _ _ (λe=>?_) ho);obtain⟨nd,e6⟩:=hA.a2r e;rw[e6] at ho;cases ho
 ·rintro c τ aa ⟨v,cS,ed,hM⟩ hn hd hold;refine⟨rfl,rfl,?_⟩;refine ah.seq (ah.region ?_);refine az.cK (v:=v) cS I I I ed.Nc ?_;refine j2 ?_;have eK:=hK (bF:=AO.dead) hd;refine ah.ret ⟨rfl,hd,v,c,rfl,aa,ed.aD λi o hi ho=>eK.2 i o (by have:=hM i hi;omega) ho,λa h=>by have:=hM a h;omega,by show J.next<=τ.next;omega,λi o ho=>?_⟩;have:=ad.a9 ho;exact eK.2 i o U (hold i o U (bl i o ho))
section
def c4d(hh:a3 (b.aF K) G1 Gj)(ha:a3 (b.aF K) Di C3)(fC:a3 (b.aF K) qA x9){bf bN:Nat}{aR:List Nat}(lL:aR.length<=1000000)(J:ad)(hm:J.get bf=some (.map (setE ag 0 aR) aR.length))(fY:J.get bN=some (.cells [.m (some bf)])):
  bb (b.aF K) 0 (.f (.func G1) [] []) [.f (.func qA) [] [.p (some (bN,0))]] J (λr ai=>∃(v:AV) (c:List Nat),r= .ok v/\c.Perm aR/\Acc ai none v (c.map ag)/\(∀a,v.at? =some a->J.next<=a)/\sI J ai):=by
 refine bb.code hh.e hh.p hh.f (by cbv) I I I ?_;refine ah.seq (ah.region ?_);refine az.go I I I I ?_;refine az.nil (ah.seq (ah.region ?_));refine az.go I I I I ?_;refine az.iy I I I (c4c ha fC lL J hm fY) λr cr ⟨v,c,aM,h1,h2,h3,aH⟩=>⟨_,aM,?_⟩
 refine az.go I I I I ?_;exact az.nil (ah.ret ⟨rfl,_,c,rfl,h1,h2,h3,aH⟩)
end
section
variable {b:bJ}{K:Nat->List AV->AV->Prop}(hf:∀g aO r bR,K g aO r->K g aO bR->r=bR)
include hf in
theorem c4e(hh:a3 (b.aF K) yc ya)(l2:∀a c:fQ,K iX [dB a,dB c] (.i .i64 (rz a c)))(lW:b.ext iX=0/\b.pure iX=true){l:List fQ}{v:AV}(hl:l.length<=1000000)(J:ad)(hA:Acc J (some 2) v (l.map dB)):
  bb (b.aF K) 0 (.f (.func yc) [] []) [v,ag 0,ag l.length,.f (.func iX) [] []] J (λr ai=>r= .ok (.bg [])/\ai.next=J.next/\(∃bD:List fQ,bD.Perm l/\Acc ai (some 2) v (bD.map dB))/\∀i o,v.at? ≠some i->J.get i=some o->ai.get i=some o):=by
 refine bb.mV hh.e hh.p hh.f (by cbv) I I ?_;refine ah.seq (ah.region ?_);refine az.go I I I I ?_;refine az.bin (a:=ag 0) (b:=ag 1) I I I I (rm U) ?_;refine az.go I I I I ?_;refine az.nil (ah.block ?_);refine ah.loop (λm f τ=>∃(i:Nat) (bD:List fQ),i+m=l.length+1/\1<=i/\bD.Perm l/\Acc τ (some 2) v (bD.map dB)/\τ.next=J.next/\(∀i o,v.at? ≠some i->J.get i=some o->τ.get i=some o)∧
  sat [(0,v),(1,ag 0),(2,ag l.length),(3,.f (.func iX) [] []),(8,ag i)] f) ?_ l.length ⟨1,l,U,U,.refl _,hA,rfl,λi o _ h=>h,dm⟩
 intro m g τ ⟨i,bD,hi,AT,an,hq,hn,hold,hL⟩;refine ah.norm _ hL λg=>?_;clear hL;refine ah.seq (ah.seq (ah.region ?_));refine az.go I I I I ?_;refine az.go I I I I ?_;refine az.bin (a:=ag i) (b:=ag l.length) (v:=.b (decide (i<l.length))) I I I I (n1 I) ?_;refine az.nil ?_;refine ah.hJ I (λht=>?_) (λdu=>?_)
 ·have hlt:i<l.length:=of_decide_eq_true ht;have eZ:=an.length_eq;refine ah.skip (ah.seq ?_);refine ah.block (ah.seq (ah.region ?_));refine az.go I I I I ?_;refine az.go I I I I ?_;refine az.nil (ah.block ?_);refine ah.loop (λm f τ=>m<=i/\∃bD:List fQ,bD.Perm l/\Acc τ (some 2) v (bD.map dB)/\τ.next=J.next/\(∀i o,v.at? ≠some i->J.get i=some o->τ.get i=some o)∧
   sat [(0,v),(1,ag 0),(2,ag l.length),(3,.f (.func iX) [] []),(8,ag i),(9,ag m)] f) ?_ i ⟨a8 _,bD,an,hq,hn,hold,dm⟩
  clear hq hold hn an eZ;intro j g τ ⟨EY,bD,an,hq,hn,hold,hL⟩;refine ah.norm _ hL λg=>?_;clear hL;have eZ:=an.length_eq;have fin:∀ {f:Nat->AV},sat [(0,v),(1,ag 0),(2,ag l.length),(3,.f (.func iX) [] []),(8,ag i)] f->bo (b.aF K) none [] 53 (.region [⟨(some 15),.mb (.t 8),none,[]⟩,⟨(some 16),.bin .add (.t 15) (.c (.i .i64 1)),none,[]⟩,⟨(some 8),.mb (.t 16),none,[]⟩]) f τ (λx b9 ai=>match x with
   | .normal=>∃aP,aP<m/\∃(i:Nat) (bD:List fQ),i+aP=l.length+1/\1<=i/\bD.Perm l/\Acc ai (some 2) v (bD.map dB)/\ai.next=J.next/\(∀i o,v.at? ≠some i->J.get i=some o->ai.get i=some o)/\sat [(0,v),(1,ag 0),(2,ag l.length),(3,.f (.func iX) [] []),(8,ag i)] b9
   |_=>False):=by
   intro f al;refine ah.norm _ al λg=>?_;refine ah.region ?_;refine az.go I I I I ?_;refine az.bin (a:=ag i) (b:=ag 1) I I I I (rm U) ?_;refine az.go I I I I ?_;exact az.nil ⟨m-1,U,i+1,bD,U,U,an,hq,hn,hold,dm⟩
  obtain⟨o,aq,ho,g4⟩:=hq.inv (by rw[bB];omega);rw[bB] at aq;subst aq;refine ah.seq (ah.seq (ah.draw I I ?_));refine dv.go I I I I ?_;refine dv.go I I I I ?_;refine dv.cmp (a:=j) (b:=0) I I I I I ?_;by_cases rN:0<j
  ·rw[show decide (0<j)=true from decide_eq_true rN];obtain⟨j,rfl⟩:∃q,j=q+1:=⟨j-1,U⟩
   have oe:j+1<bD.length:=by omega
   have aM:dE (some 2) (((bD.map dB).flatMap AV.cells).drop (0+(j+1)*shN (some 2)))=some (dB bD[j+1]):=by
    rw[Hu (by rw[bB];omega) g4,ez]
   have aU:dE (some 2) (((bD.map dB).flatMap AV.cells).drop (0+j*shN (some 2)))=some (dB (bD[j]'U)):=by
    rw[Hu (by rw[bB];omega) g4,ez]
   refine dv.go I I I I ?_;refine dv.go I I I I ?_;refine dv.go I I I I ?_;refine dv.go I I I I ?_;refine dv.idx (j:=j+1) I I I I (jl oe) ?_;refine dv.cK (v:=dB bD[j+1]) ho I I I aM ?_;refine dv.go I I I I ?_;refine dv.go I I I I ?_;refine dv.bin (a:=ag (j+1)) (b:=ag 1) I I I I (oH U U) ?_;refine dv.idx (j:=j) I I I I (jl U) ?_;refine dv.cK (v:=dB (bD[j]'U)) ho I I I aU ?_;refine dv.known hf lW.1 lW.2 (l2 bD[j+1] (bD[j]'U)) I I I (mT I I) ?_;refine dv.bin (v:=.b (decide (rz bD[j+1] (bD[j]'U)<0))) I I I I I ?_;refine dv.go I I I I ?_;refine dv.nil ?_;refine ah.hJ I (λ_=>?_) (λ_=>?_)
   ·refine ah.skip (ah.seq (ah.block (ah.a1a 0 I (F0.fin (gs:=[]) .nil I ?_))));refine az.go I I I I ?_;refine az.go I I I I ?_;refine az.go I I I I ?_;refine az.go I I I I ?_;refine az.bin (a:=ag (j+1)) (b:=ag 1) I I I I (oH U U) ?_;refine az.go I I I I ?_;refine az.go I I I I ?_;refine az.bin (a:=ag (j+1)) (b:=ag 1) I I I I (oH U U) ?_;refine az.idx (j:=j) I I I I (jl U) ?_;refine az.cK (v:=dB (bD[j]'U)) ho I I I aU ?_;refine az.go I I I I ?_;refine az.go I I I I ?_;refine az.idx (j:=j+1) I I I I (jl oe) ?_;refine az.cK (v:=dB bD[j+1]) ho I I I aM ?_;refine az.idx (j:=j+1) I I I I (jl oe) ?_;refine az.Ni (j:=j+1) (y:=dB (bD[j]'U)) (v:=.ao o 0 bD.length (some 2) none) hq I (by rw[bB];omega) I I I I λcx cy VF bl=>?_;refine az.idx (j:=j) I I I I (jl U) ?_;refine az.Ni (j:=j) (y:=dB bD[j+1]) VF I (by rw[lr,bB];omega) I I I I λa5 c6 VH bj=>?_;refine az.nil ⟨rfl,?_⟩;refine ah.region ?_;refine az.go I I I I ?_;refine az.bin (a:=ag (j+1)) (b:=ag 1) I I I I (oH U U) ?_;refine az.go I I I I ?_;refine az.nil ⟨j,U,U,(bD.set (j+1) (bD[j]'U)).set j bD[j+1],(swap_perm oe).trans an,?_,U,λi bF h la=>bj i bF (λe=>h (by rw[e];rfl)) (bl i bF (λe=>h (by rw[e];rfl)) (hold i bF h la)),dm⟩;rw[Oe,Oe];exact VH
   ·refine ah.exit ?_;exact(fin dm).mono λx f J h=>by cases x<;>first|exact h|exact h.elim
  ·rw[show decide (0<j)=false from decide_eq_false rN];refine a1b ?_;refine ah.hJ I (λh=>by cases h) (λ_=>?_);refine ah.exit ?_;exact(fin dm).mono λx f J h=>by cases x<;>first|exact h|exact h.elim
 ·have np:¬i<l.length:=of_decide_eq_false du;refine ah.exit ?_;exact⟨.inr I,rfl,hn,⟨bD,an,hq⟩,hold⟩
end
section
set_option maxRecDepth 100000 in
def c4f(hh:a3 (b.aF K) sx sw)(m:Nat)(hm:m<256)(J:ad):bb (b.aF K) 0 (.f (.func sx) [] []) [.i .u64 (Int.ofNat m)] J (λr ai=>(∃q,r= .ok (.i .i64 q))/\ai=J):=by
 refine bb.code hh.e hh.p hh.f (by cbv) I I I ?_;refine ah.seq (ah.region ?_);refine j2 ?_;refine ah.seq (ah.seq (ah.region ?_));refine az.go I I I I ?_;refine az.bin (a:=.i .u64 (Int.ofNat m)) (b:=.i .u64 (Int.ofNat 4294967296)) (v:=.b false) I I I I (n1 (by show some (AV.b (decide (4294967296<=m)))=_;rw[decide_eq_false U])) ?_;refine az.nil (ah.hJ I (λh=>by cases h) λ_=>ah.skip ?_);refine ah.seq (ah.seq (ah.region ?_));refine az.go I I I I ?_;refine az.bin (a:=.i .u64 (Int.ofNat m)) (b:=.i .u64 (Int.ofNat 65536)) (v:=.b false) I I I I (n1 (by show some (AV.b (decide (65536<=m)))=_;rw[decide_eq_false U])) ?_;refine az.nil (ah.hJ I (λh=>by cases h) λ_=>ah.skip ?_);refine ah.seq (ah.seq (ah.region ?_));refine az.go I I I I ?_;refine az.bin (a:=.i .u64 (Int.ofNat m)) (b:=.i .u64 (Int.ofNat 256)) (v:=.b false) I I I I (n1 (by show some (AV.b (decide (256<=m)))=_;rw[decide_eq_false U])) ?_;refine az.nil (ah.hJ I (λh=>by cases h) λ_=>ah.skip ?_);refine ah.seq (ah.region ?_);refine az.go I I I I ?_;refine az.go I I I I ?_;have jH:wrapN .u8 (Int.ofNat m)=Int.ofNat m:=c0f hm;refine az.val I I (Nj (m:=Int.ofNat m) I _) ?_;rw[jH];refine az.val I I (b4O (j:=m) I I (K8 (zJ hm b_))) ?_;refine az.val I I (Nj I _) ?_;refine az.bin I I I I I ?_;refine az.go I I I I ?_;exact az.nil (ah.ret ⟨rfl,⟨_,rfl⟩,rfl⟩)
def a4z(hh:a3 (b.aF K) tB tz)(cE:a3 (b.aF K) sx sw)(m:Nat)(hm:m<256)(J:ad):bb (b.aF K) 0 (.f (.func tB) [] []) [.i .u64 (Int.ofNat m)] J (λr ai=>(∃q,r= .ok (.i .i64 q))/\ai=J):=by
 refine bb.code hh.e hh.p hh.f (by cbv) I I I ?_;refine ah.seq (ah.region ?_);refine j2 ?_;refine ah.seq (ah.hJ I (λh=>by cases h) λ_=>ah.skip ?_);refine ah.seq (ah.region ?_);refine az.go I I I I ?_;refine az.iy I I I (c4f cE m hm J) λr cr ⟨⟨q,aM⟩,aU⟩=>⟨_,aM,?_⟩
 refine az.go I I I I ?_;exact az.nil (ah.ret ⟨rfl,⟨_,rfl⟩,aU⟩)
variable (hf:∀g aO r bR,K g aO r->K g aO bR->r=bR)
include hf in
theorem c4g(hh:a3 (b.aF K) Ao Al)(hi:a3 (b.aF K) yc ya)(l2:∀a c:fQ,K iX [dB a,dB c] (.i .i64 (rz a c)))(lW:b.ext iX=0/\b.pure iX=true){l:List fQ}{v:AV}(hl:l.length<=12)(q:Int)(J:ad)(hA:Acc J (some 2) v (l.map dB)):
  bb (b.aF K) 0 (.f (.func Ao) [] []) [v,ag 0,ag l.length,.i .i64 q,.f (.func iX) [] []] J (λr ai=>r= .ok (.bg [])/\ai.next=J.next/\(∃bD:List fQ,bD.Perm l/\Acc ai (some 2) v (bD.map dB))/\∀i o,v.at? ≠some i->J.get i=some o->ai.get i=some o):=by
 refine bb.mV hh.e hh.p hh.f (by cbv) I I ?_;refine ah.seq (ah.region ?_);refine az.go I I I I ?_;refine az.nil (ah.seq (ah.region ?_));refine az.go I I I I ?_;refine az.nil (ah.block ?_);refine ah.loop (λm f τ=>τ=J/\sat [(0,v),(1,ag 0),(2,ag l.length),(4,.f (.func iX) [] [])] f) ?_ 0 dm;rintro m g τ ⟨rfl,hL⟩;refine ah.norm _ hL λg=>?_;clear hL;refine ah.block (ah.seq (ah.region ?_));refine az.go I I I I ?_;refine az.go I I I I ?_;refine az.bin (a:=ag l.length) (b:=ag 0) I I I I (oH U U) ?_;refine az.go I I I I ?_;refine az.nil (ah.seq (ah.seq (ah.region ?_)));refine az.go I I I I ?_;refine az.bin (a:=ag (l.length-0)) (b:=ag 12) (v:=.b true) I I I I (n1 (by show some (AV.b (decide (l.length-0<=12)))=_;rw[decide_eq_true U])) ?_;refine az.nil (ah.hJ I (λ_=>?_) (λh=>by cases h));refine ah.seq (ah.region ?_);refine az.go I I I I ?_;refine az.go I I I I ?_;refine az.go I I I I ?_;refine az.go I I I I ?_;refine az.iy I I I (c4e hf hi l2 lW U τ hA) λr cr ⟨aM,h1,h2,h3⟩=>⟨_,aM,?_⟩
 exact az.nil (ah.ret ⟨.inl I,rfl,h1,h2,h3⟩)
include hf in
theorem c4h(hh:a3 (b.aF K) Da C7)(k8:a3 (b.aF K) tB tz)(cE:a3 (b.aF K) sx sw)(an:a3 (b.aF K) Ao Al)(hi:a3 (b.aF K) yc ya)(l2:∀a c:fQ,K iX [dB a,dB c] (.i .i64 (rz a c)))(lW:b.ext iX=0/\b.pure iX=true){l:List fQ}{v:AV}(hl:l.length<=12)(J:ad)(hA:Acc J (some 2) v (l.map dB)):
  bb (b.aF K) 0 (.f (.func Da) [] []) [v,.f (.func iX) [] []] J (λr ai=>r= .ok (.bg [])/\ai.next=J.next/\(∃bD:List fQ,bD.Perm l/\Acc ai (some 2) v (bD.map dB))/\∀i o,v.at? ≠some i->J.get i=some o->ai.get i=some o):=by
 refine bb.mV hh.e hh.p hh.f (by cbv) I I ?_;refine ah.seq (ah.region ?_);refine az.go I I I I ?_;refine az.len (m:=l.length) I I I (by have:=hA.len (τ:=J);rwa[bB] at this) ?_;refine az.go I I I I ?_;refine az.nil (ah.region ?_);refine az.go I I I I ?_;refine az.go I I I I ?_;refine az.go I I I I ?_;refine az.val I I (Nj (m:=Int.ofNat l.length) I _) ?_;have hw:wrapN .u64 (Int.ofNat l.length)=Int.ofNat l.length:=by
  have:(l.length:Int)<18446744073709551616:=by omega
  simp[wrapN,IntKind.wrap,IntKind.bits,IntKind.signed];omega
 rw[hw];refine az.iy I I I (a4z k8 cE l.length U J) λr cr ⟨⟨q,aM⟩,aU⟩=>⟨_,aM,?_⟩
 subst aU;refine az.go I I I I ?_;refine az.iy I I I (c4g hf an hi l2 lW hl q cr hA) λr hS ⟨aM,h1,h2,h3⟩=>⟨_,aM,?_⟩
 exact az.nil ⟨.inr I,rfl,h1,h2,h3⟩
include hf in
theorem c4i(hh:a3 (b.aF K) Gw Gt)(aa:a3 (b.aF K) C_ C6)(ha:a3 (b.aF K) An Ak)(fC:a3 (b.aF K) qy wF)(al:a3 (b.aF K) Da C7)(k8:a3 (b.aF K) tB tz)(cE:a3 (b.aF K) sx sw)(an:a3 (b.aF K) Ao Al)(hi:a3 (b.aF K) yc ya)(l2:∀a c:fQ,K iX [dB a,dB c] (.i .i64 (rz a c)))(lW:b.ext iX=0/\b.pure iX=true)
  {bf bN:Nat} {aR:List fQ} (lL:aR.length<=12) (J:ad) (hm:J.get bf=some (.map (setE dB 0 aR) aR.length)) (fY:J.get bN=some (.cells [.m (some bf)])):
  bb (b.aF K) 0 (.f (.func Gw) [] []) [.f (.func qy) [] [.p (some (bN,0))],.f (.func iX) [] []] J (λr ai=>∃(v:AV) (c:List fQ),r= .ok v/\c.Perm aR/\Acc ai (some 2) v (c.map dB)/\(∀a,v.at? =some a->J.next<=a)/\sI J ai):=by
 refine bb.code hh.e hh.p hh.f (by cbv) I I I ?_;refine ah.seq (ah.region ?_);refine az.go I I I I ?_;refine az.nil (ah.seq (ah.region ?_));refine az.go I I I I ?_;refine az.iy I I I (c0l aa ha fC U J hm fY) λr cr ⟨v,c,aM,h1,h2,h3,aH⟩=>⟨_,aM,?_⟩
 have eD:=h1.length_eq;refine az.go I I I I ?_;refine az.nil (ah.seq (ah.region ?_));refine az.go I I I I ?_;refine az.go I I I I ?_;refine az.iy I I I (c4h hf al k8 cE an hi l2 lW (l:=c) U cr h2) λr hS ⟨aU,dx,⟨bD,qf,hq⟩,k3⟩=>⟨_,aU,?_⟩
 refine az.nil (ah.seq (ah.region ?_));refine az.go I I I I ?_;refine az.go I I I I ?_;have hn:=aH.1;exact az.nil (ah.ret ⟨rfl,_,bD,rfl,qf.trans h1,hq,h3,U,λi o ho=>k3 i o (λe=>by have:=h3 i e;have:=ad.a9 ho;omega) (aH.2 i o ho)⟩)
include hf in
theorem c4j(hh:a3 (b.aF K) Gv Me)(aB:a3 (b.aF K) Gx Gu)(DG:a3 (b.aF K) Gw Gt)(aa:a3 (b.aF K) C_ C6)(ha:a3 (b.aF K) An Ak)(fC:a3 (b.aF K) qy wF)(al:a3 (b.aF K) Da C7)(k8:a3 (b.aF K) tB tz)(cE:a3 (b.aF K) sx sw)(an:a3 (b.aF K) Ao Al)(hi:a3 (b.aF K) yc ya)(l2:∀a c:fQ,K iX [dB a,dB c] (.i .i64 (rz a c)))(lW:b.ext iX=0/\b.pure iX=true)
  {bf:Nat} {aR:List fQ} (lL:aR.length<=12) (J:ad) (hm:J.get bf=some (.map (setE dB 0 aR) aR.length)):
  bb (b.aF K) 0 (.f (.func Gv) [] []) [.m (some bf)] J (λr ai=>∃(v:AV) (c:List fQ),r= .ok v/\c.Perm aR/\Acc ai (some 2) v (c.map dB)/\(∀a,v.at? =some a->J.next<=a)/\sI J ai):=by
 refine bb.code hh.e hh.p hh.f (by cbv) I I I ?_;refine ah.seq (ah.region ?_);refine az.go I I I I ?_;refine az.nil (ah.seq (ah.region ?_));refine az.go I I I I ?_;generalize a_:J.next=z;refine az.iy I I I (c0i aB bf J z a_) λr cr ⟨aM,c6,h2,bj⟩=>⟨_,aM,?_⟩
 refine az.iy I I I (c4i hf DG aa ha fC al k8 cE an hi l2 lW lL cr (bj _ _ hm) h2) λr hS ⟨v,c,aM,h1,h3,aH,bT⟩=>⟨_,aM,?_⟩
 refine az.go I I I I ?_;have:=bT.1;exact az.nil (ah.ret ⟨rfl,_,c,rfl,h1,h3,λa e=>by have:=aH a e;omega,U,λi o ho=>bT.2 i o (bj i o ho)⟩)
end
structure VI(b:bJ)(K:Nat->List AV->AV->Prop):Prop where
 sorted:a3 (b.aF K) Gv Me
 keys:a3 (b.aF K) Gx Gu
 c4k:a3 (b.aF K) Gw Gt
 c4l:a3 (b.aF K) C_ C6
 app:a3 (b.aF K) An Ak
 IM:a3 (b.aF K) qy wF
 Eb:a3 (b.aF K) Da C7
 len:a3 (b.aF K) tB tz
 IN:a3 (b.aF K) sx sw
 Br:a3 (b.aF K) Ao Al
 ins:a3 (b.aF K) yc ya
 cmp:∀a c:fQ,K iX [dB a,dB c] (.i .i64 (rz a c))
 Ol:b.ext iX=0/\b.pure iX=true
def VI.go{b:bJ}{K:Nat->List AV->AV->Prop}(hf:∀g aO r bR,K g aO r->K g aO bR->r=bR)(al:VI b K):Tz b K 12:=⟨b_,λhn J hm=>c4j hf al.sorted al.keys al.c4k al.c4l al.app al.IM al.Eb al.len al.IN al.Br al.ins al.cmp al.Ol hn J hm⟩
def vz(l:List Nat)(i:Nat):Prop:=∀p q,p<q->q<i->l.getD p 0<=l.getD q 0
def xk(l:List Nat)(i m:Nat):Prop:=∀p q,p<q->q<=i->q≠m->l.getD p 0<=l.getD q 0
def vz.x{l:List Nat}{i:Nat}(h:vz l i):xk l i i:=λp q h1 h2 h3=>h p q h1 U
def xk.zero{l:List Nat}{i:Nat}(h:xk l i 0):vz l (i+1):=λp q h1 h2=>h p q h1 U U
def xk.done{l:List Nat}{i j:Nat}(h:xk l i (j+1))(h2:l.getD j 0<=l.getD (j+1) 0):vz l (i+1):=λp q h1 h3=>by
 by_cases e:q=j+1
 ·subst e;by_cases aU:p=j
  ·subst aU;exact h2
  ·by_cases c3:j=0
   ·omega
   ·have:=h p j U U U;omega
 ·exact h p q h1 U e
def a4A{l:List Nat}{j:Nat}(aA:j+1<l.length)(q:Nat):((l.set (j+1) l[j]).set j l[j+1]).getD q 0=if q=j then l.getD (j+1) 0 else if q=j+1 then l.getD j 0 else l.getD q 0:=by
 simp only[fD];by_cases e:q=j
 ·subst e;rw[if_pos I,a4h (by rw[lr];omega),cp aA]
 ·rw[if_neg e,a4i (oj e)];by_cases aU:q=j+1
  ·subst aU;rw[if_pos I,a4h aA,cp (show j<l.length by omega)]
  ·rw[if_neg aU,a4i (oj aU)]
def xk.swap{l:List Nat}{i j:Nat}(h:xk l i (j+1))(aA:j+1<l.length)(EY:j+1<=i)(h2:l.getD (j+1) 0<l.getD j 0):xk ((l.set (j+1) l[j]).set j l[j+1]) i j:=λp q h1 h3 aH=>by
 rw[a4A aA,a4A aA,if_neg aH];by_cases e:q=j+1
 ·rw[if_pos e];by_cases aU:p=j
  ·rw[if_pos aU];omega
  ·rw[if_neg aU,if_neg U];exact h p j U U U
 ·rw[if_neg e];by_cases aU:p=j
  ·rw[if_pos aU];exact h (j+1) q U h3 e
  ·rw[if_neg aU];by_cases c3:p=j+1
   ·rw[if_pos c3];exact h j q U h3 e
   ·rw[if_neg c3];exact h p q h1 h3 e
def vz.pM{l:List Nat}{i:Nat}(h:vz l i)(hi:l.length<=i):l.Pairwise (· ≤ ·):=K0.2 λp q an aS iS=>by
 have:=h p q iS U;rwa[fD,fD,cp an,cp aS] at this
def c4m{l:List Nat}{j:Nat}(aA:j+1<l.length):((l.set (j+1) l[j]).set j l[j+1]).Perm l:=a1q (i:=j+1) (j:=j) U U
section
variable {b:bJ}{K:Nat->List AV->AV->Prop}(hf:∀g aO r bR,K g aO r->K g aO bR->r=bR)
include hf in
theorem c4n(hh:a3 (b.aF K) Au Ah){l:List Nat}(l2:∀a∈l,∀c∈l,K m0 [ag a,ag c] (.b (decide (a<c))))(lW:b.ext m0=0/\b.pure m0=true){v:AV}(hl:l.length<=12)(J:ad)(hA:Acc J none v (l.map ag)):
  bb (b.aF K) 0 (.f (.func Au) [] []) [v,ag 0,ag l.length] J (λr ai=>r= .ok (.bg [])/\ai.next=J.next/\(∃bD:List Nat,bD.Perm l/\bD.Pairwise (· ≤ ·)/\Acc ai none v (bD.map ag))/\∀i o,v.at? ≠some i->J.get i=some o->ai.get i=some o):=by
 refine bb.mV hh.e hh.p hh.f (by cbv) I I ?_;refine ah.seq (ah.region ?_);refine az.go I I I I ?_;refine az.bin (a:=ag 0) (b:=ag 1) I I I I (rm U) ?_;refine az.go I I I I ?_;refine az.nil (ah.block ?_);refine ah.loop (λm f τ=>∃(i:Nat) (bD:List Nat),i+m=l.length+1/\1<=i/\vz bD i/\bD.Perm l/\Acc τ none v (bD.map ag)/\τ.next=J.next/\(∀i o,v.at? ≠some i->J.get i=some o->τ.get i=some o)∧
  sat [(0,v),(1,ag 0),(2,ag l.length),(6,ag i)] f) ?_ l.length ⟨1,l,U,U,λp q h1 h2=>by omega,.refl _,hA,rfl,λi o _ h=>h,dm⟩
 intro m g τ ⟨i,bD,hi,AT,VJ,an,hq,hn,hold,hL⟩;refine ah.norm _ hL λg=>?_;clear hL;refine ah.seq (ah.seq (ah.region ?_));refine az.go I I I I ?_;refine az.go I I I I ?_;refine az.bin (a:=ag i) (b:=ag l.length) (v:=.b (decide (i<l.length))) I I I I (n1 I) ?_;refine az.nil ?_;refine ah.hJ I (λht=>?_) (λdu=>?_)
 ·have hlt:i<l.length:=of_decide_eq_true ht;have eZ:=an.length_eq;refine ah.skip (ah.seq ?_);refine ah.block (ah.seq (ah.region ?_));refine az.go I I I I ?_;refine az.go I I I I ?_;refine az.nil (ah.block ?_);refine ah.loop (λm f τ=>m<=i/\∃bD:List Nat,xk bD i m/\bD.Perm l/\Acc τ none v (bD.map ag)/\τ.next=J.next/\(∀i o,v.at? ≠some i->J.get i=some o->τ.get i=some o)∧
   sat [(0,v),(1,ag 0),(2,ag l.length),(6,ag i),(7,ag m)] f) ?_ i ⟨a8 _,bD,VJ.x,an,hq,hn,hold,dm⟩
  clear hq hold hn an eZ VJ;intro j g τ ⟨EY,bD,VM,an,hq,hn,hold,hL⟩;refine ah.norm _ hL λg=>?_;clear hL;have eZ:=an.length_eq;have fin:vz bD (i+1)->∀ {f:Nat->AV},sat [(0,v),(1,ag 0),(2,ag l.length),(6,ag i)] f->bo (b.aF K) none [] 49 (.region [⟨(some 13),.mb (.t 6),none,[]⟩,⟨(some 14),.bin .add (.t 13) (.c (.i .i64 1)),none,[]⟩,⟨(some 6),.mb (.t 14),none,[]⟩]) f τ (λx b9 ai=>match x with
   | .normal=>∃aP,aP<m/\∃(i:Nat) (bD:List Nat),i+aP=l.length+1/\1<=i/\vz bD i/\bD.Perm l/\Acc ai none v (bD.map ag)/\ai.next=J.next/\(∀i o,v.at? ≠some i->J.get i=some o->ai.get i=some o)/\sat [(0,v),(1,ag 0),(2,ag l.length),(6,ag i)] b9
   |_=>False):=by
   intro VN f al;refine ah.norm _ al λg=>?_;refine ah.region ?_;refine az.go I I I I ?_;refine az.bin (a:=ag i) (b:=ag 1) I I I I (rm U) ?_;refine az.go I I I I ?_;exact az.nil ⟨m-1,U,i+1,bD,U,U,VN,an,hq,hn,hold,dm⟩
  obtain⟨o,aq,ho,g4⟩:=hq.inv (by rw[bB];omega);rw[bB] at aq;subst aq;refine ah.seq (ah.seq (ah.draw I I ?_));refine dv.go I I I I ?_;refine dv.go I I I I ?_;refine dv.cmp (a:=j) (b:=0) I I I I I ?_;by_cases rN:0<j
  ·rw[show decide (0<j)=true from decide_eq_true rN];obtain⟨j,rfl⟩:∃q,j=q+1:=⟨j-1,U⟩
   have oe:j+1<bD.length:=by omega
   have aM:dE none (((bD.map ag).flatMap AV.cells).drop (0+(j+1)*shN none))=some (ag bD[j+1]):=by
    rw[Hu (by rw[bB];omega) g4,ez]
   have aU:dE none (((bD.map ag).flatMap AV.cells).drop (0+j*shN none))=some (ag (bD[j]'U)):=by
    rw[Hu (by rw[bB];omega) g4,ez]
   refine dv.go I I I I ?_;refine dv.go I I I I ?_;refine dv.go I I I I ?_;refine dv.idx (j:=j+1) I I I I (jl oe) ?_;refine dv.cK (v:=ag bD[j+1]) ho I I I aM ?_;refine dv.go I I I I ?_;refine dv.go I I I I ?_;refine dv.bin (a:=ag (j+1)) (b:=ag 1) I I I I (oH U U) ?_;refine dv.idx (j:=j) I I I I (jl U) ?_;refine dv.cK (v:=ag (bD[j]'U)) ho I I I aU ?_;refine dv.known hf lW.1 lW.2 (l2 bD[j+1] (an.mem_iff.1 (bC _)) (bD[j]'U) (an.mem_iff.1 (bC _))) I I I (mT I I) ?_;refine dv.go I I I I ?_;refine dv.nil ?_;refine ah.hJ I (λFN=>?_) (λFN=>?_)
   ·refine ah.skip (ah.seq (ah.block (ah.a1a 0 I (F0.fin (gs:=[]) .nil I ?_))));refine az.go I I I I ?_;refine az.go I I I I ?_;refine az.go I I I I ?_;refine az.go I I I I ?_;refine az.bin (a:=ag (j+1)) (b:=ag 1) I I I I (oH U U) ?_;refine az.go I I I I ?_;refine az.go I I I I ?_;refine az.bin (a:=ag (j+1)) (b:=ag 1) I I I I (oH U U) ?_;refine az.idx (j:=j) I I I I (jl U) ?_;refine az.cK (v:=ag (bD[j]'U)) ho I I I aU ?_;refine az.go I I I I ?_;refine az.go I I I I ?_;refine az.idx (j:=j+1) I I I I (jl oe) ?_;refine az.cK (v:=ag bD[j+1]) ho I I I aM ?_;refine az.idx (j:=j+1) I I I I (jl oe) ?_;refine az.Ni (j:=j+1) (y:=ag (bD[j]'U)) (v:=.ao o 0 bD.length none none) hq I (by rw[bB];omega) I I I I λcx cy VF bl=>?_;refine az.idx (j:=j) I I I I (jl U) ?_;refine az.Ni (j:=j) (y:=ag bD[j+1]) VF I (by rw[lr,bB];omega) I I I I λa5 c6 VH bj=>?_;refine az.nil ⟨rfl,?_⟩;refine ah.region ?_;refine az.go I I I I ?_;refine az.bin (a:=ag (j+1)) (b:=ag 1) I I I I (oH U U) ?_;refine az.go I I I I ?_;refine az.nil ⟨j,U,U,(bD.set (j+1) (bD[j]'U)).set j bD[j+1],?_,(c4m oe).trans an,?_,U,λi bF h la=>bj i bF (λe=>h (by rw[e];rfl)) (bl i bF (λe=>h (by rw[e];rfl)) (hold i bF h la)),dm⟩
    ·refine VM.swap oe U ?_;have:=of_decide_eq_true FN;rwa[fD,fD,cp oe,cp (show j<bD.length by omega)]
    ·rw[Oe,Oe];exact VH
   ·refine ah.exit ?_;have VN:vz bD (i+1):=VM.done (by
     have:=of_decide_eq_false FN;rw[fD,fD,cp oe,cp (show j<bD.length by omega)];show bD[j]<=bD[j+1];omega)
    exact(fin VN dm).mono λx f J h=>by cases x<;>first|exact h|exact h.elim
  ·rw[show decide (0<j)=false from decide_eq_false rN];refine a1b ?_;refine ah.hJ I (λh=>by cases h) (λ_=>?_);refine ah.exit ?_;have c4o:j=0:=by omega
   subst c4o;exact(fin VM.zero dm).mono λx f J h=>by cases x<;>first|exact h|exact h.elim
 ·have np:¬i<l.length:=of_decide_eq_false du;refine ah.exit ?_;refine⟨.inr I,rfl,hn,⟨bD,an,?_,hq⟩,hold⟩;exact VJ.pM (by have:=an.length_eq;omega)
include hf in
theorem c4p(hh:a3 (b.aF K) Dj C4)(hi:a3 (b.aF K) Au Ah){l:List Nat}(l2:∀a∈l,∀c∈l,K m0 [ag a,ag c] (.b (decide (a<c))))(lW:b.ext m0=0/\b.pure m0=true){v:AV}(hl:l.length<=12)(q:Int)(J:ad)(hA:Acc J none v (l.map ag)):
  bb (b.aF K) 0 (.f (.func Dj) [] []) [v,ag 0,ag l.length,.i .i64 q] J (λr ai=>r= .ok (.bg [])/\ai.next=J.next/\(∃bD:List Nat,bD.Perm l/\bD.Pairwise (· ≤ ·)/\Acc ai none v (bD.map ag))/\∀i o,v.at? ≠some i->J.get i=some o->ai.get i=some o):=by
 refine bb.mV hh.e hh.p hh.f (by cbv) I I ?_;refine ah.seq (ah.region ?_);refine az.go I I I I ?_;refine az.nil (ah.seq (ah.region ?_));refine az.go I I I I ?_;refine az.nil (ah.block ?_);refine ah.loop (λm f τ=>τ=J/\sat [(0,v),(1,ag 0),(2,ag l.length)] f) ?_ 0 dm;rintro m g τ ⟨rfl,hL⟩;refine ah.norm _ hL λg=>?_;clear hL;refine ah.block (ah.seq (ah.region ?_));refine az.go I I I I ?_;refine az.go I I I I ?_;refine az.bin (a:=ag l.length) (b:=ag 0) I I I I (oH U U) ?_;refine az.go I I I I ?_;refine az.nil (ah.seq (ah.seq (ah.region ?_)));refine az.go I I I I ?_;refine az.bin (a:=ag (l.length-0)) (b:=ag 12) (v:=.b (decide (l.length-0<=12))) I I I I (n1 I) ?_;rw[show decide (l.length-0<=12)=true from decide_eq_true U];refine az.nil (ah.hJ I (λ_=>?_) (λh=>by cases h));refine ah.seq (ah.region ?_);refine az.go I I I I ?_;refine az.go I I I I ?_;refine az.go I I I I ?_;refine az.iy I I I (c4n hf hi l2 lW hl τ hA) λr cr ⟨aM,h1,h2,h3⟩=>⟨_,aM,?_⟩
 exact az.nil (ah.ret ⟨.inl I,rfl,h1,h2,h3⟩)
include hf in
theorem c4q(hh:a3 (b.aF K) G2 Gk)(k8:a3 (b.aF K) tB tz)(cE:a3 (b.aF K) sx sw)(an:a3 (b.aF K) Dj C4)(hi:a3 (b.aF K) Au Ah){l:List Nat}(l2:∀a∈l,∀c∈l,K m0 [ag a,ag c] (.b (decide (a<c))))(lW:b.ext m0=0/\b.pure m0=true){v:AV}(hl:l.length<=12)(J:ad)(hA:Acc J none v (l.map ag)):
  bb (b.aF K) 0 (.f (.func G2) [] []) [v] J (λr ai=>r= .ok (.bg [])/\ai.next=J.next/\(∃bD:List Nat,bD.Perm l/\bD.Pairwise (· ≤ ·)/\Acc ai none v (bD.map ag))/\∀i o,v.at? ≠some i->J.get i=some o->ai.get i=some o):=by
 refine bb.mV hh.e hh.p hh.f (by cbv) I I ?_;refine ah.seq (ah.region ?_);refine az.go I I I I ?_;refine az.len (m:=l.length) I I I (by have:=hA.len (τ:=J);rwa[bB] at this) ?_;refine az.go I I I I ?_;refine az.nil (ah.region ?_);refine az.go I I I I ?_;refine az.go I I I I ?_;refine az.go I I I I ?_;refine az.val I I (Nj (m:=Int.ofNat l.length) I _) ?_;have hw:wrapN .u64 (Int.ofNat l.length)=Int.ofNat l.length:=by
  have:(l.length:Int)<18446744073709551616:=by omega
  simp[wrapN,IntKind.wrap,IntKind.bits,IntKind.signed];omega
 rw[hw];refine az.iy I I I (a4z k8 cE l.length U J) λr cr ⟨⟨q,aM⟩,aU⟩=>⟨_,aM,?_⟩
 subst aU;refine az.iy I I I (c4p hf an hi l2 lW hl q cr hA) λr hS ⟨aM,h1,h2,h3⟩=>⟨_,aM,?_⟩
 exact az.nil ⟨.inr I,rfl,h1,h2,h3⟩
include hf in
theorem c4r(hh:a3 (b.aF K) G0 LI)(aa:a3 (b.aF K) G1 Gj)(ha:a3 (b.aF K) Di C3)(fC:a3 (b.aF K) qA x9)(al:a3 (b.aF K) G2 Gk)(k8:a3 (b.aF K) tB tz)(cE:a3 (b.aF K) sx sw)(an:a3 (b.aF K) Dj C4)(hi:a3 (b.aF K) Au Ah)
  {bf bN:Nat} {aR:List Nat} (l2:∀a∈aR,∀c∈aR,K m0 [ag a,ag c] (.b (decide (a<c)))) (lW:b.ext m0=0/\b.pure m0=true) (lL:aR.length<=12) (J:ad) (hm:J.get bf=some (.map (setE ag 0 aR) aR.length)) (fY:J.get bN=some (.cells [.m (some bf)])):
  bb (b.aF K) 0 (.f (.func G0) [] []) [.f (.func qA) [] [.p (some (bN,0))]] J (λr ai=>∃(v:AV) (c:List Nat),r= .ok v/\c.Perm aR/\c.Pairwise (· ≤ ·)/\Acc ai none v (c.map ag)/\(∀a,v.at? =some a->J.next<=a)/\sI J ai):=by
 refine bb.code hh.e hh.p hh.f (by cbv) I I I ?_;refine ah.seq (ah.region ?_);refine az.go I I I I ?_;refine az.nil (ah.seq (ah.region ?_));refine az.go I I I I ?_;refine az.iy I I I (c4d aa ha fC U J hm fY) λr cr ⟨v,c,aM,h1,h2,h3,aH⟩=>⟨_,aM,?_⟩
 have eD:=h1.length_eq;refine az.go I I I I ?_;refine az.nil (ah.seq (ah.region ?_));refine az.go I I I I ?_;refine az.iy I I I (c4q hf al k8 cE an hi (l:=c) (λa Fc d hd=>l2 a (h1.mem_iff.1 Fc) d (h1.mem_iff.1 hd)) lW U cr h2) λr hS ⟨aU,dx,⟨bD,qf,Ry,hq⟩,k3⟩=>⟨_,aU,?_⟩
 refine az.nil (ah.seq (ah.region ?_));refine az.go I I I I ?_;refine az.go I I I I ?_;have hn:=aH.1;exact az.nil (ah.ret ⟨rfl,_,bD,rfl,qf.trans h1,Ry,hq,h3,U,λi o ho=>k3 i o (λe=>by have:=h3 i e;have:=ad.a9 ho;omega) (aH.2 i o ho)⟩)
end
section
namespace W
section
variable {env:Env}{aK:Option Nat}{D:List (Nat ⊕ (AV×List AV))}{n N:Nat}{F:List (Nat×AV)}{z:Nat->AV}{J:ad}{Q:dO}{g bx bz:Option (Nat×Bool)}{ops:List a2}{cu:kB}
def Om{cO:Nat}{W:Nat->Prop}{p:AV}{cs:List AV}(HN:t_ cO W J p cs){a4B:Nat}{nd:List AV}(h0:J.get a4B=some (.cells nd)){a:aJ}{d1 d2 d3 off:Nat}{ab:Option Nat}{v:AV}{wn:List Nat}(lH:cN (λq=>Nat.ble N (q+ops.length)&&Nat.ble q N) wn=true)(h1:Nat.blt d1 n=true)(h2:Nat.blt d2 n=true)(h3:Nat.blt d3 n=true)(hw:wtL g n F=true)(ha:cL env n F z a=some p)(aq:dE ab (cs.drop off)=some v)(aa:conf ab v=true)(he:AV.eqb env.bh v v=true)
  (lB:∀q,wtL bx n ((d1,p)::F)=true/\wtL bz n ((d2,q)::(d1,p)::F)=true) (h:∀q id c,J.get id=some (.cells c)->bM (.dp N (wn.map (λq=>(q,id,AO.cells c))++cu)) env aK D n ops (bs ((d3,v)::(d2,q)::(d1,p)::F) z) J Q):bM (.dp N cu) env aK D n (⟨some d1,.nilCheck a,g,[]⟩::⟨some d2,.fieldAddr off ab (.t d1),bx,[]⟩::⟨some d3,.load ab (.t d2),bz,wn⟩::ops) (bs F z) J Q:=by
 obtain⟨hl,rfl|⟨id,rfl,hg,_⟩⟩:=HN
 ·refine val h1 hw (Vz ha I) (val h2 (lB (.df true v)).1 (VA (q:=.df true v) (Ea h1) (by
   show(match dE ab (cs.drop off) with|some v=>some (AV.df true v)|none=>none)=_;rw[aq])) (pM lH h3 (lB _).2 (λs=>nZ _ _ (Ea h2) (by show(if conf ab v then some v else none)=_;rw[if_pos aa])) he ?_))
  exact dy.DQ (λp an=>eX.2 (.inr an)) (h _ a4B nd h0)
 ·exact val h1 hw (Vz ha I) (val h2 (lB (aw id)).1 (VA (q:=.p (some (id,0+off))) (Ea h1) I) (AA hg h3 (lB _).2 (Ea h2) (by rw[nq];exact aq) he (h _ id _ hg)))
def On{d:Nat}{ab:kc}{x y:aJ}{bf bm:Nat}{key hs:AV}{two:Bool}{es:List (AV×AV×Nat)}{r:Option AV}{wn:List Nat}(hm:J.get bf=some (.map es bm))(hd:Nat.blt d n=true)(hw:wtL g n F=true)(h1:cL env n F z x=some (.m (some bf)))(h2:cL env n F z y=some key)(aB:keySelf ab key=true)(hf:mc ab key es=some r)(he:AV.eqb env.bh (v2 two (r.getD hs) r.isSome) (v2 two (r.getD hs) r.isSome)=true)
  (h:bM (.dp N (wn.map (λq=>(q,bf,AO.map es bm))++cu)) env aK D n ops (bs ((d,v2 two (r.getD hs) r.isSome)::F) z) J Q):bM (.dp N cu) env aK D n (⟨some d,.lookup ab x y hs two,g,wn⟩::ops) (bs F z) J Q:=dy.jK hm hd (sv hw) (λs al=>by rw[nx];exact a3T al h1 h2 aB hf) he h
end
end W
attribute [local irreducible] bM bo da dy bb
def lnfT(T:List a7)(k:Nat):Fm:=match T[k-1]? with
 |some x=>x.f
 |none=>j9
def ua(T:List a7)(aR:List Nat)(k:Nat):List Nat:=match T[k-1]? with
 |some x=>if x.hyp=true then n8 k aR else aR
 |none=>aR
def rQ(T:List a7)(L:List Nat):List Nat:=L.foldl (ua T) []
def qL(T:List a7):Nat->List Nat->List (AV×AV×Nat)
 |_,[]=>[]
 |i,k::l=>(ag k,.aj (fm true (lnfT T k)),i)::qL T (i+1) l
def Ec{T:List a7}(k:Nat):∀(l:List Nat) (i:Nat),mc (.inl 0) (ag k) (qL T i l)=some (if k∈l then some (.aj (fm true (lnfT T k))) else none)
 |[],_=>rfl
 |y::l,i=>by
  show(match keyEq (.inl 0) (ag k) (ag y) with|none=>none|some true=>some (some (AV.aj (fm true (lnfT T y))))|some false=>mc (.inl 0) (ag k) (qL T (i+1) l))=_;rw[xj];by_cases h:k=y
  ·subst h;rw[decide_eq_true I,if_pos k1]
  ·rw[decide_eq_false h];show mc (.inl 0) (ag k) (qL T (i+1) l)=_;rw[Ec k l (i+1)];simp only[c2,h,false_or]
def a4C{T:List a7}(k:Nat)(v:AV):∀(l:List Nat) (i:Nat),k∉l->mF (.inl 0) (ag k) v (qL T i l)=some none
 |[],_,_=>rfl
 |y::l,i,h=>by
  show(match keyEq (.inl 0) (ag k) (ag y) with
   |none=>none
   |some true=>some (some ((ag k,v,i)::qL T (i+1) l))
   |some false=>match mF (.inl 0) (ag k) v (qL T (i+1) l) with|none=>none|some none=>some none|some (some es)=>some (some ((ag y,AV.aj (fm true (lnfT T y)),i)::es)))=_
  rw[xj,decide_eq_false λe=>h (by rw[e];exact k1)];simp only[a4C k v l (i+1) λhm=>h (g1 _ hm)]
def a4D{T:List a7}:∀(l:List Nat) (i k:Nat),qL T i (l++[k])=qL T i l++[(ag k,.aj (fm true (lnfT T k)),i+l.length)]
 |[],i,k=>rfl
 |x::l,i,k=>by
  show _::qL T (i+1) (l++[k])=_::(qL T (i+1) l++_);rw[a4D l (i+1) k,fw,a2G,qO]
def c4s{T:List a7}{L:List Nat}{i k:Nat}(h:L[i]? =some k):rQ T (L.take (i+1))=ua T (rQ T (L.take i)) k:=by
 obtain⟨hi,rfl⟩:=fH.1 h;unfold rQ;rw[jL hi,T8];rfl
def VO{F:Fm}{n:Nat}(two ok:Bool)(h:F.dep<=40)(hn:1000<=n):AV.eqb n (v2 two (.aj (fm true F)) ok) (v2 two (.aj (fm true F)) ok)=true:=by
 have h1:∀J m,900<=m->bt J m (.aj (fm true F))=some (.aj (fm true F)):=λJ m hm=>by
  have:=Fm.snap J true _ F m (a8 _) U;rwa[sO] at this
 cases two with
 |false=>exact Snp.eqb _ _ λJ=>h1 J n U
 |true=>
  obtain⟨n,rfl⟩:∃k,n=k+2:=⟨n-2,U⟩
  refine Snp.eqb (n+2) (.bg [.aj (fm true F),.b ok]) λJ=>?_;show(match mapO (bt J (n+1)) [AV.aj (fm true F),.b ok] with|none=>none|some l=>some (AV.bg l))=_;rw[mapO_cons,h1 J _ U];rfl
def c4t{T:List a7}{aR:List Nat}{k c:Nat}(h:c∈ua T aR k):c∈aR\/c=k/\∃x,T[k-1]? =some x/\x.hyp=true:=by
 unfold ua at h;split at h
 ·rename_i x hx;split at h
  ·rename_i hh;unfold n8 at h;split at h
   ·exact .inl h
   ·rcases eX.1 h with h|h
    ·exact .inl h
    ·exact .inr ⟨cA.1 h,x,hx,hh⟩
  ·exact .inl h
 ·exact .inl h
def c4u{T:List a7}{L:List Nat}{c:Nat}:c∈rQ T L->c∈L/\∃x,T[c-1]? =some x/\x.hyp=true:=by
 suffices H:∀(l aR:List Nat),c∈l.foldl (ua T) aR->c∈aR\/c∈l/\∃x,T[c-1]? =some x/\x.hyp=true from λh=>(H L [] h).elim (λh=>absurd h ay) id
 intro l
 induction l with
 |nil=>exact λaR h=>.inl h
 |cons y l aC=>
  intro aR h;rcases aC _ h with h|⟨h,h2⟩
  ·rcases c4t h with h|⟨rfl,h2⟩
   ·exact .inl h
   ·exact .inr ⟨k1,h2⟩
  ·exact .inr ⟨g1 _ h,h2⟩
section
def ub(T:List a7)(τ:ad)(bf:Nat)(l:List Nat):Prop:=τ.get bf=some (.map (qL T 0 l) l.length)
def a4E(hh:Ok b K)(hf:a3 (b.aF K) GO Gd){T:List a7}{R:List bw}(G:hN T R){n:Nat}(h1:1<=n)(hn:n<=T.length)(hd:msr T 0 fo n<=40){J:ad}:
  bb (b.aF K) 0 (.f (.func GO) [] []) [tA T R true n] J (λr τ=>∃bf,r= .ok (.m (some bf))/\ub T τ bf (rQ T (prt T n))/\J.next<=bf/\cM J τ):=by
 obtain⟨aW,F,dT,s,m,hO⟩:=xf G true n h1 hn;rw[hO];generalize aS:J.next=q;refine W.a1O (d:=q+4) hf.e hf.p hf.f (by cbv) I I λz=>?_;have H:Has J []:=Has.nil;refine cQ.j1 ?_;refine af ?_;refine W.bN (c:=ff true aW F dT s m) H aS I I I I I λτ cy H bl=>?_;refine af ?_;refine⟨rfl,?_⟩;refine cQ.j1 ?_;refine af ?_;refine W.xg H cy I I λa5 c6 H hm bj=>?_;refine af ?_;refine W.b6 (c:=[.m none]) H c6 I I I λbu dx H k3=>?_;refine af ?_;refine W.st (bc:=[.m (some (q+1))]) H 0 I I I I I I λb3 eC H bI=>?_;have wv:=bI _ _ U (k3 _ _ hm);refine af ?_;refine⟨rfl,?_⟩;refine cQ.wC ?_;refine cQ.j1 ?_;refine af ?_;refine W.bS I I I (a4v hh.st ⟨rfl,rfl,rfl⟩) λv cW ⟨ar,bY,gw,gC⟩=>⟨_,ar,?_⟩
 have H:=H.aD gC.2;have Bi:=gC.2 _ _ wv;have fK:b3.next=q+3:=by omega
 rw[fK] at bY gw;rw[fK];refine af ?_;refine⟨rfl,?_⟩;refine cQ.block ?_;refine cQ.a4r (k:=q+4) (prt T n).length (λi W τ=>τ.get (q+1)=some (.map (qL T 0 (rQ T ((prt T n).take i))) (rQ T ((prt T n).take i)).length)/\W (q+1)/\∀c,W c->c≠q+2/\c≠q) (Of T R cW.next (prt T n)) (λc=>c=q+1) gw I hh.g3.e I (λi W τ args ⟨k,v,l,p,cs,_,e,_⟩=>by rw[e];rfl) (λi W τ ax ⟨h,hw,h2⟩ k _=>⟨k _ _ hw h,hw,h2⟩) ⟨Bi,rfl,λc aa=>by omega⟩ (λc aa=>by omega) (a4w hh.g3 hh.x1 G bY (H.x7) hO I h1 hn hd _ (by show ¬(q=q+1);omega)) ?_ ?_
 ·rintro i V τ args hi ⟨k,v,l,p,cs,aB,rfl,fj,an,hX,hl⟩ ⟨aL,wX,nH⟩ tc S9 uK bA;refine ah.norm [(3,aw (q+2)),(11,p)] dm λg=>?_;have vb:Has τ [(q+2,[.m (some (q+1))])]:=Has.nil.cons (bA _ _ U (H.qx)) ay;have H:Has τ []:=Has.nil;refine af ?_;refine⟨rfl,⟨a8 _,λ_ _ h=>h⟩,λfG ly fP ⟨aL,_,_⟩=>?_⟩;obtain⟨VE,c3Y⟩:=a4x G h1 hn aB;obtain⟨x,hx,aP,IL,c3Z,ma,_⟩:=rP G true VE;rw[fj] at IL;cases IL;have lD:=an.aD (W':=V) (τ:=fG) (λc o aa _ ho=>fP c o (by rw[gw] at aa;omega) ho) λ_ _ h=>h;have H:Has fG [(q+2,[.m (some (q+1))])]:=Has.nil.cons (fP _ _ U (vb.qx)) ay;have fv:=c4s (T:=T) aB;have bL:lnfT T k=x.f:=by unfold lnfT;rw[hx]
  have zv:=G.fd _ (eY hx);unfold ua at fv;simp only[hx] at fv;refine af ?_;generalize lL:rQ T ((prt T n).take i)=aR at *;generalize sR:(if x.hyp=true then k else 0)=qK at *;have h0:0∉aR:=λh=>by
   rw[<-lL] at h;have:=(VB G n h1 hn 0 (pe (c4u h).1)).1.1;omega
  obtain⟨r,x2,Ed,a4F,a4G,sm,qm⟩:∃(r:Option AV) (x2:Fm),mc (.inl 0) (ag qK) (qL T 0 aR)=some r/\r.getD (.aj (fm true j9))= .aj (fm true x2)/\x2.dep<=40/\(r.isSome=decide (qK∈aR))/\(x.hyp=false->r=none):=by
   refine⟨_,if qK∈aR then lnfT T qK else j9,Ec qK aR 0,?_,?_,?_,?_⟩
   ·split<;>rfl
   ·split
    ·rename_i hm;cases hh:x.hyp with
     |true=>
      rw[if_pos hh] at sR;rw[<-sR,bL];exact zv
     |false=>
      rw[hh,if_neg ay] at sR;exact absurd (sR▸hm) h0
    ·rw[Fm.qu];decide
   ·split
    ·rename_i hm;rw[decide_eq_true hm];rfl
    ·rename_i hm;rw[decide_eq_false hm];rfl
   ·intro hh;rw[hh,if_neg ay] at sR;rw[if_neg (sR▸h0)]
  refine W.Om lD (H.qx) (v:=ag qK) I I I I I I I I (eo I) (λq=>⟨rfl,rfl⟩) λmP id c kz=>?_;refine af ?_;refine W.On (r:=r) aL I I I I I Ed (by rw[show(AV.aj [AV.i IntKind.u8 0,AV.s [],AV.nilsl,AV.nilsl])= .aj (fm true j9) from rfl,a4F];exact VO _ _ a4G (Aa _ _)) ?_;rw[show(AV.aj [AV.i IntKind.u8 0,AV.s [],AV.nilsl,AV.nilsl])= .aj (fm true j9) from rfl,a4F];refine af ?_;refine W.b6 (c:=fm true j9) H I I I I λgD pv H jg=>?_;have cG:∀i o,fG.get i=some o->gD.get i=some o:=jg;refine W.now (_::_::_::[]) [] I I ⟨jg _ _ aL,jg _ _ kz,H.x7,trivial⟩ ?_;refine W.st (bc:=fm true x2) H 0 I I I I I I λh9 dc H c_=>?_;have Bo:∀i o,i<fG.next->fG.get i=some o->h9.get i=some o:=λi o hi ho=>c_ _ _ U (jg _ _ ho);refine af ?_;have oS:=lD.aD (W':=V) (τ:=h9) (λc o aa _ ho=>Bo c o (ad.a9 ho) ho) λ_ _ h=>h;have gn:=oS.eW;refine W.eW gn (v:=.s x.bH) I I I I I I I (λq=>⟨rfl,rfl⟩) λrR=>?_;refine af ?_;refine W.bin I I I I (yY _ _) ?_;have stay:oZ V V fG h9:=⟨U,λc o _ ho=>Bo c o (ad.a9 ho) ho,λc aa=>.inl aa⟩
  have VP:=Bo _ _ (ad.a9 aL) aL;rw[sm];cases hh:x.hyp with
  |false=>
   rw[decide_eq_false λe=>by rw[ma.2 e] at hh;cases hh];refine af ?_;rw[hh,if_neg ay] at fv;exact⟨rfl,V,⟨by rw[fv];exact VP,wX,nH⟩,stay⟩
  |true=>
   rw[decide_eq_true (ma.1 hh)];rw[hh,if_pos I] at fv sR;subst sR;unfold n8 at fv;by_cases hm:k∈aR
   ·rw[decide_eq_true hm];refine af ?_;rw[if_pos hm] at fv;exact⟨rfl,V,⟨by rw[fv];exact VP,wX,nH⟩,stay⟩
   ·rw[decide_eq_false hm];rw[if_neg hm] at fv;refine af ?_;refine W.eW gn (v:=ag k) I I I I I I I (λq=>⟨rfl,rfl⟩) λa4H=>?_;refine af ?_;refine W.eW gn (v:=.aj (fm true x.f)) I I I I I I I (λq=>⟨rfl,rfl⟩) λd1N=>?_;refine af ?_;refine W.mu (key:=ag k) (v:=.aj (fm true x.f)) VP I I I I (xj _ _) (a4C k _ _ 0 hm) λg8 ne he j6=>?_;refine af ?_;refine⟨rfl,V,⟨?_,wX,nH⟩,U,λc o aa ho=>j6 c o (λe=>aa (e▸wX)) (Bo c o (ad.a9 ho) ho),λc aa=>.inl aa⟩;rw[fv,a4D,c5,nq,bL];exact he
 ·intro V τ ⟨aL,wX,nH⟩ eH jj bA kO;rw[jw] at aL;refine⟨rfl,rfl,?_⟩;have H:Has τ [(q+2,[.m (some (q+1))])]:=Has.nil.cons (bA _ _ U (H.qx)) ay;refine ah.norm [(3,aw (q+2))] ⟨rfl,trivial⟩ λg=>?_;refine af ?_;have al:=(hK (bF:=.dead) eH).2;refine ah.ret ⟨rfl,eH,_,qC (jn I),_,rfl,al _ _ U aL,U,by show J.next<=τ.next;omega,λi o ho=>?_⟩;have:=ad.a9 ho;exact al _ _ U (bA _ _ U (gC.2 _ _ (bI _ _ U (k3 _ _ (bj _ _ (bl _ _ ho))))))
end
end
section
namespace W
section
variable {env:Env}{aK:Option Nat}{D:List (Nat ⊕ (AV×List AV))}{n:Nat}{F:List (Nat×AV)}{z:Nat->AV}{J:ad}{Q:dO}{ops:List a2}{α:Type}[DecidableEq α]{ca:α->AV}
def g9{d bf c:Nat}{x:aJ}{es:List (AV×AV×Nat)}(k:Nat)(hn:J.next=k)(hm:J.get bf=some (.map es c))(hd:Nat.blt d n=true)(h1:cL env n F z x=some (.m (some bf)))
  (h:∀ai:ad,ai.next=k+1->ai.get k=some (.mapIter (some bf) c [] c)->(∀i o,J.get i=some o->ai.get i=some o)->bM .pl env aK D n ops (bs ((d,.p (some (k,0)))::F) z) ai Q):bM .pl env aK D n (⟨some d,.rangeMap x,none,[]⟩::ops) (bs F z) J Q:=az.Ts k hn hm hd (by rw[nx];exact h1) h
def wg{d bf it:Nat}{x:aJ}{l:List α}{seen:List Nat}(iv:J.get it=some (.mapIter (some bf) l.length seen l.length))(hm:J.get bf=some (.map (setE ca 0 l) l.length))(hd:Nat.blt d n=true)(h1:cL env n F z x=some (.p (some (it,0))))
  (h0:gd seen 0 l=[]->bM .pl env aK D n ops (bs ((d,.bg [.b false])::F) z) J Q)
  (al:∀p∈gd seen 0 l,∀ai:ad,ai.next=J.next->ai.get it=some (.mapIter (some bf) l.length (seen++[p.2]) l.length)->(∀i o,i≠it->J.get i=some o->ai.get i=some o)->bM .pl env aK D n ops (bs ((d,.bg [.b true,ca p.1,.b true])::F) z) ai Q):bM .pl env aK D n (⟨some d,.vP x,none,[]⟩::ops) (bs F z) J Q:=az.Tt iv hm hd (by rw[nx];exact h1) h0 al
def q4{d bf it:Nat}{x:aJ}{l:List α}{seen:List Nat}{p:α×Nat}(an:p∈gd seen 0 l)(iv:J.get it=some (.mapIter (some bf) l.length (seen++[p.2]) l.length))(hm:J.get bf=some (.map (setE ca 0 l) l.length))(hd:Nat.blt d n=true)(h1:cL env n F z x=some (.p (some (it,0))))
  (h:bM .pl env aK D n ops (bs ((d,.bg [ca p.1,.b true])::F) z) J Q):bM .pl env aK D n (⟨some d,.entry x,none,[]⟩::ops) (bs F z) J Q:=az.Tu an iv hm hd (by rw[nx];exact h1) h
end
end W
attribute [local irreducible] bM bo da dy bb
structure lN(J:ad)(p:AV)(cs:List AV):Prop where
 len:cs.length=8
 is:p= .df true (.aj cs)\/∃id,p=aw id/\J.get id=some (.cells cs)
def lN.i{J:ad}{p:AV}{cs:List AV}(h:lN J p cs):t_ J.next (λ_=>False) J p cs:=⟨h.len,h.is.imp id λ⟨id,h1,h2⟩=>⟨id,h1,h2,ad.a9 h2,λh=>h⟩⟩
def lN.eW{J:ad}{p:AV}{cs:List AV}(h:lN J p cs):Bp J p cs:=h.i.eW
def lN.aD{J τ:ad}{p:AV}{cs:List AV}(h:lN J p cs)(k:∀i o,J.get i=some o->τ.get i=some o):lN τ p cs:=⟨h.len,h.is.imp id λ⟨id,h1,h2⟩=>⟨id,h1,k _ _ h2⟩⟩
def Ee(τ:ad)(bf:Nat)(aR:List Nat):Prop:=τ.get bf=some (.map (setE ag 0 aR) aR.length)
def VQ{k c:Nat}{l:List Nat}:c∈n8 k l↔c∈l\/c=k:=by
 unfold n8;split
 ·exact⟨.inl,λh=>h.elim id λe=>e▸by assumption⟩
 ·simp
def c4v{k:Nat}{l:List Nat}(h:l.Nodup):(n8 k l).Nodup:=by
 unfold n8;split
 ·exact h
 ·rename_i aB;exact List.nodup_append.2 ⟨h,ay,λa ha b hb=>by rw[cA.1 hb];exact λe=>aB (e▸ha)⟩
def c4w{k:Nat}{l:List Nat}:Vu (setE ag 0 l) l.length (ag k) (.b true) (if k∈l then some (setE ag 0 l) else none)= .map (setE ag 0 (n8 k l)) (n8 k l).length:=by
 unfold n8;split
 ·rfl
 ·rw[Tp,c5,nq];rfl
abbrev y2(mk:Nat->List Nat)(n:Nat):AV:=slA true none ((List.range n).map λi=>slA true none ((mk i).map ag))
section
def c4x(hh:a3 (b.aF K) GS Gm){J:ad}{p:AV}{aW:List Nat}{F:Fm}{dT N i:Nat}{s:AV}{mk:Nat->List Nat}(fl:lN J p (ff true aW F dT s (y2 mk N)))(hi:i<N)(dP:N<2^20):
  bb (b.aF K) 0 (.f (.func GS) [] []) [p,ag i] J (λr τ=>r= .ok (slA true none ((mk i).map ag))/\τ=J):=by
 refine W.sA hh I I I λz H=>?_;have gn:=fl.eW;refine af ?_;refine W.eW gn (v:=y2 mk N) I I I I I I m2 (λq=>⟨rfl,rfl⟩) λq=>?_;have ak:(List.range N).length=N:=nc;refine af ?_;rw[ak];refine af ?_;refine W.eW gn (v:=y2 mk N) I I I I I I m2 (λq=>⟨rfl,rfl⟩) λq=>?_;refine af ?_;exact ah.ret ⟨rfl,by rw[show(List.range N)[i]'(by rw[ak];exact hi)=i from pg _];rfl,rfl⟩
def c4y(hh:a3 (b.aF K) GZ LO)(aB:a3 (b.aF K) GS Gm)(hf:n5 b K){J:ad}{p:AV}{aW:List Nat}{F:Fm}{dT:Nat}{s v:AV}{mk:Nat->List Nat}{fp:List (List Nat)}{gp:List Nat}(fl:lN J p (ff true aW F dT s (y2 mk fp.length)))(aq:Sl J none v (gp.map λm=>AV.m (some m)))(kZ:gp.length=fp.length)(dP:fp.length<2^20)(eH:∀i,i<fp.length->(mk i).length<2^20)(al:∀j (h:j<gp.length) (h':j<fp.length),Ee J gp[j] fp[j]):
  bb (b.aF K) 0 (.f (.func GZ) [] []) [p,v] J (λr τ=>∃bf aR,r= .ok (.m (some bf))/\Ee τ bf aR/\aR.Nodup/\(∀c,c∈aR↔(aW=[]/\c=dT)\/∃j,j<fp.length/\c∈fp.getD j []/\c∉mk j)/\J.next<=bf/\cM J τ):=by
 refine W.sA hh I I I λz H=>?_;refine af ?_;generalize aS:J.next=q;refine W.xg H aS I I λcx cy _ cV bl=>?_;have H:Has cx []:=Has.nil;refine af ?_;have Oi:=(fl.aD bl).eW;refine W.eW Oi (v:=.s aW) I I I I I I I (λq=>⟨rfl,rfl⟩) λmP=>?_;refine af ?_;refine W.bin I I I I (yY _ _) ?_;refine W.nil ?_;refine W.u6 (α:=Unit) (λ_=>[(0,p),(1,v),(5,.m (some q))]) (λ_ τ=>∃aR,Ee τ q aR/\aR.Nodup/\(∀c,c∈aR↔aW=[]/\c=dT)/\τ.next=q+1/\∀i o,i≠q->cx.get i=some o->τ.get i=some o) ?_ ?_
 ·by_cases hn:aW=[]
  ·rw[decide_eq_true hn];refine af ?_;refine W.eW Oi (v:=ag dT) I I I I I I I (λq=>⟨rfl,rfl⟩) λrR=>?_;refine af ?_;refine W.mu (key:=ag dT) (v:=.b true) cV I I I I (xj _ _) (Nf xj dT [] 0) λa5 c6 ji bj=>?_;refine af ?_;refine⟨rfl,(),⟨[dT],ji,ay,λc=>by simp[hn],U,bj⟩,dm⟩
  ·rw[decide_eq_false hn];refine af ?_;exact⟨rfl,(),⟨[],cV,ay,λc=>by simp[hn],U,λ_ _ _ h=>h⟩,dm⟩
 ·rintro _ g a5 ⟨c4z,ji,c4A,c4B,c6,bj⟩;have uc:∀i o,J.get i=some o->a5.get i=some o:=λi o ho=>bj _ _ (by have:=ad.a9 ho;omega) (bl _ _ ho);have H:Has a5 []:=Has.nil;have nP:∀J,lenA J 1 v=some fp.length:=λJ=>by rw[Sl.G9 aq,kZ]
  refine af ?_;refine W.len I I I (nP _) ?_;refine af ?_;show bo _ _ _ _ _ _ _ _;refine ah.each fp.length (λi f τ=>∃aR,Ee τ q aR/\aR.Nodup/\(∀c,c∈aR↔(aW=[]/\c=dT)\/∃j,j<i/\c∈fp.getD j []/\c∉mk j)/\q+1<=τ.next/\(∀i o,J.get i=some o->τ.get i=some o)/\sat [(0,p),(5,.m (some q)),(20,v)] f) U ⟨c4z,ji,c4A,λc=>by rw[c4B];simp,U,uc,dm⟩ I I (λi g τ hi aL fF fi=>?_) (λg τ aL fF=>?_)
  ·obtain⟨aR,hm,hnd,lL,hn,bA,cm,c9,qE,_⟩:=aL;refine ah.norm [(0,p),(5,.m (some q)),(20,v),(22,ag i),(21,ag fp.length)] ⟨cm,c9,qE,fF,fi,trivial⟩ λg=>?_;have H:Has τ []:=Has.nil;have sl:=(aq.aD (τ:=τ) λi o _=>bA i o).vw;have Oo:=al i U hi;have VR:=bA _ _ Oo;have uG:=ad.a9 (al i U hi);have d1O:=eH i hi;have u7:(gp.map λm=>AV.m (some m)).length=fp.length:=by rw[bB];exact kZ
   refine af ?_;rw[ez];have VS:fp.getD i []=fp[i]:=by rw[fD,cp hi];rfl
   generalize fp[i]=l at VR Oo VS;generalize gp[i]'U=gL at VR Oo uG;refine W.g9 τ.next I VR I I λbu dx iv k3=>?_;refine af ?_;generalize hb:τ.next=lS at *;refine ah.block ?_;refine ah.loop (λm f ax=>∃seen c aR,m=(gd seen 0 l).length/\(c++(gd seen 0 l).map Prod.fst).Perm l/\ax.get lS=some (.mapIter (some gL) l.length seen l.length)/\Ee ax q aR/\aR.Nodup/\(∀bc,bc∈aR↔((aW=[]/\bc=dT)\/∃j,j<i/\bc∈fp.getD j []/\bc∉mk j)\/bc∈c/\bc∉mk i)/\lS+1<=ax.next/\(∀i o,J.get i=some o->ax.get i=some o)/\sat [(0,p),(5,.m (some q)),(6,ag i),(20,v),(21,ag fp.length),(22,ag i),(28,.p (some (lS,0)))] f) ?_ (gd [] 0 l).length ⟨[],[],aR,rfl,by rw[Ng];exact .refl _,iv,k3 _ _ hm,hnd,λc=>by rw[lL];simp,U,λi o ho=>k3 _ _ (bA i o ho),dm⟩;clear iv dx k3 hnd lL hm H sl bA;rintro m f ax ⟨seen,c,aR,oz,oF,iv,hm,hnd,lL,ng,bA,Hj⟩;refine ah.norm _ Hj λg=>?_;clear Hj;have H:Has ax []:=Has.nil;have a4I:=bA _ _ Oo;refine af ?_;refine W.wg iv a4I I I (λwc=>?_) (λy hy b3 eC VT bI=>?_)
   ·refine af ?_;refine ah.exit ?_;rw[wc,yp,hI] at oF;refine⟨rfl,rfl,aR,hm,hnd,λbc=>?_,U,bA,dm⟩;rw[lL,oF.mem_iff];constructor
    ·rintro((h|⟨j,h1,h2⟩)|⟨h1,h2⟩)
     ·exact .inl h
     ·exact .inr ⟨j,U,h2⟩
     ·exact .inr ⟨i,U,by rw[VS];exact h1,h2⟩
    ·rintro(h|⟨j,h1,h2,h3⟩)
     ·exact .inl (.inl h)
     ·by_cases e:j=i
      ·subst e;rw[VS] at h2;exact .inr ⟨h2,h3⟩
      ·exact .inl (.inr ⟨j,U,h2,h3⟩)
   ·have c4C:=bI _ _ U a4I;have wv:=bI _ _ U hm;have IK:∀i o,J.get i=some o->b3.get i=some o:=λi o ho=>bI _ _ (by have:=ad.a9 ho;omega) (bA i o ho);have H:Has b3 []:=Has.nil;refine af ?_;refine W.q4 hy VT c4C I I ?_;refine af ?_;refine W.bS I I I (c4x aB (fl.aD IK) hi dP) λr cW ⟨e,nT⟩=>⟨_,e,?_⟩
    subst nT;refine af ?_;have AH:lj cW (slA true none ((mk i).map ag)) (mk i):=(AB λy hy=>by obtain⟨x,_,rfl⟩:=cT.1 hy;rfl).kQ;refine W.bS I I I (SP hf.cont hf.index AH U y.1) λr dr ⟨e,nU⟩=>⟨_,e,?_⟩
    subst nU;have yB:=Hw seen l 0 y hy;have hlen:=yB.length_eq;rw[fw] at hlen;have a4J:((c++[y.1])++(gd (seen++[y.2]) 0 l).map Prod.fst).Perm l:=by
     refine List.Perm.trans ?_ oF;rw[iJ];exact(yB.map Prod.fst).append_left c
    by_cases gI:y.1∈mk i
    ·rw[decide_eq_true gI];refine af ?_;refine⟨(gd (seen++[y.2]) 0 l).length,U,seen++[y.2],c++[y.1],aR,rfl,a4J,VT,wv,hnd,λbc=>?_,U,IK,dm⟩;rw[lL,eX,cA];constructor
     ·rintro(h|⟨h1,h2⟩)
      ·exact .inl h
      ·exact .inr ⟨.inl h1,h2⟩
     ·rintro(h|⟨h1|h1,h2⟩)
      ·exact .inl h
      ·exact .inr ⟨h1,h2⟩
      ·exact absurd (h1▸gI) h2
    ·rw[decide_eq_false gI];refine af ?_;refine W.mu (key:=ag y.1) (v:=.b true) wv I I I I (xj _ _) (Nf xj y.1 aR 0) λeT j0 eI fZ=>?_;rw[c4w] at eI;refine af ?_;refine⟨(gd (seen++[y.2]) 0 l).length,U,seen++[y.2],c++[y.1],n8 y.1 aR,rfl,a4J,fZ _ _ U VT,eI,c4v hnd,λbc=>?_,U,λi o ho=>fZ _ _ (by have:=ad.a9 ho;omega) (IK i o ho),dm⟩;rw[VQ,lL,eX,cA];constructor
     ·rintro((h|⟨h1,h2⟩)|h)
      ·exact .inl h
      ·exact .inr ⟨.inl h1,h2⟩
      ·exact .inr ⟨.inr h,by rw[h];exact gI⟩
     ·rintro(h|⟨h1|h1,h2⟩)
      ·exact .inl (.inl h)
      ·exact .inl (.inr ⟨h1,h2⟩)
      ·exact .inr h1
  ·obtain⟨aR,hm,hnd,lL,hn,bA,cm,c9,qE,_⟩:=aL;show bo _ _ _ _ _ _ _ _;refine ah.norm [(5,.m (some q))] ⟨c9,trivial⟩ λg=>?_;have H:Has τ []:=Has.nil;refine af ?_;exact ah.ret ⟨rfl,q,aR,rfl,hm,hnd,lL,a8 _,U,bA⟩
end
end
end
section
variable [Tok][TokOk]
open Go.RowKit Go.Lyc.T
attribute [local irreducible] bM bo da dy bb
def labS(T:List a7)(R:List bw)(k:Nat):List Nat:=
 match T[k-1]? with
 |none=>[]
 |some x=>if x.hyp=true then[k] else if x.bH=ep then(if _h:jC x<k then labS T R (jC x) else[])
  else(List.range x.cs.length).flatMap λi=>(if _h:(x.cs.getD i (0,0)).2<k then labS T R (x.cs.getD i (0,0)).2 else[]).filter λc=>!decide (c∈gZ T R k i)
termination_by k
section
variable {T:List a7}{R:List bw}(G:hN T R){k:Nat}{x:a7}
def Ef(hx:T[k-1]? =some x)(h:x.hyp=true):labS T R k=[k]:=by
 rw[labS,hx];simp only[h,if_true]
include G
theorem Oq(h1:1<=k)(hx:T[k-1]? =some x)(h:x.hyp=false)(ak:x.bH=ep):labS T R k=labS T R (jC x):=by
 obtain⟨c,l,_,e,_,_,h3⟩:=G.last h1 hx h;rw[labS,hx];simp only[h,ak,if_true];rw[if_neg ay,dif_pos U]
theorem y3(h1:1<=k)(hx:T[k-1]? =some x)(h:x.hyp=false)(ak:x.bH≠ep):∀c,c∈labS T R k↔∃i,i<x.cs.length/\c∈labS T R (x.cs.getD i (0,0)).2/\c∉gZ T R k i:=λc=>by
 have aa:=(G.cs k x h1 hx h).2.2;rw[labS,hx];simp only[h];rw[if_neg ay,if_neg ak,uo];constructor
 ·rintro⟨i,hi,hm⟩;have hi:=Ay.1 hi;have hlt:(x.cs.getD i (0,0)).2<k:=by
   rw[jA hi];exact(aa _ (bC hi)).2.2
  rw[dif_pos hlt,mj] at hm;exact⟨i,hi,hm.1,by simpa using hm.2⟩
 ·rintro⟨i,hi,h1,h2⟩;have hlt:(x.cs.getD i (0,0)).2<k:=by
   rw[jA hi];exact(aa _ (bC hi)).2.2
  exact⟨i,Ay.2 hi,by rw[dif_pos hlt,mj];exact⟨h1,by simpa using h2⟩⟩
theorem Ot:∀k,1<=k->k<=T.length->∃j,j<=k/\tZ T j/\(∀o,tA T R o k=tA T R o j)/\labS T R k=labS T R j/\prt T k=prt T j/\msr T 0 fo k=msr T 0 fo j:=λk=>by
 induction k using Nat.strongRecOn with
 |ind k aC=>
  intro h1 h2;have hx:T[k-1]? =some T[k-1]:=cp U;by_cases ha:(T[k-1]).hyp=false/\(T[k-1]).bH=ep
  ·obtain⟨c,l,_,e,aQ,aZ,bX⟩:=G.last h1 hx ha.1;obtain⟨j,dg,cD,dn,e4,k4,vx⟩:=aC (jC T[k-1]) U U U;exact⟨j,U,cD,λo=>(xe G o h1 hx ha.1 ha.2).trans (dn o),(Oq G h1 hx ha.1 ha.2).trans e4,(II G h1 hx ha.1 ha.2).trans k4,(a4p G h1 hx ha.2).symm.trans vx⟩
  ·exact⟨k,a8 _,⟨h1,h2,λx cX h e=>ha (by rw[hx] at cX;cases cX;exact⟨h,e⟩)⟩,λ_=>rfl,rfl,rfl,rfl⟩
end
structure mC(T:List a7)(R:List bw)(τ:ad)(bf k:Nat)(aR:List Nat):Prop where
 set:Ee τ bf aR
 dc:aR.Nodup
 is:∀c,c∈aR↔c∈labS T R k
def mC.aD{T:List a7}{R:List bw}{J τ:ad}{bf k:Nat}{aR:List Nat}(h:mC T R J bf k aR)(bA:∀i o,J.get i=some o->τ.get i=some o):mC T R τ bf k aR:=⟨bA _ _ h.set,h.dc,h.is⟩
structure y4(T:List a7)(R:List bw)(τ:ad)(v:AV)(cs:List (Nat×Nat))(j:Nat):Prop where
 ex:∃(gp:List Nat) (fp:List (List Nat)),Sl τ none v (gp.map λm=>AV.m (some m))/\gp.length=j/\fp.length=j/\∀i (h:i<gp.length) (h':i<fp.length),mC T R τ gp[i] (cs.getD i (0,0)).2 fp[i]
def y4.push{T:List a7}{R:List bw}{τ:ad}{bn:AV}{gp:List Nat}{fp:List (List Nat)}{cs:List (Nat×Nat)}{j bf:Nat}{aR:List Nat}(h1:gp.length=j)(h2:fp.length=j)(h3:∀i (h:i<gp.length) (h':i<fp.length),mC T R τ gp[i] (cs.getD i (0,0)).2 fp[i])(aH:mC T R τ bf (cs.getD j (0,0)).2 aR)(aq:Sl τ none bn (gp.map (λm=>AV.m (some m))++[.m (some bf)])):y4 T R τ bn cs (j+1):=
 ⟨gp++[bf],fp++[aR],by rw[gO];exact aq,by rw[c5,h1];rfl,by rw[c5,h2];rfl,λi h h'=>by
  by_cases hi:i<gp.length
  ·rw[iC hi,iC U];exact h3 i hi U
  ·have e:i=j:=by rw[c5] at h;simp at h;omega
   subst e;rw[show(gp++[bf])[i]=bf from by simp[<-h1],show(fp++[aR])[i]=aR from by simp[<-h2]];exact aH⟩
section
structure IP(b:bJ)(K:Nat->List AV->AV->Prop):Prop where
 add:a3 (b.aF K) GZ LO
 marks:a3 (b.aF K) GS Gm
 hf:n5 b K
def a4K(hh:IP b K){T:List a7}{R:List bw}(G:hN T R){k:Nat}{x:a7}(h1:1<=k)(hx:T[k-1]? =some x)(ak:x.hyp=false->x.bH≠ep){J:ad}{p v:AV}{cs:List AV}(gV:tA T R true k= .aj cs)(fl:lN J p cs)(aq:y4 T R J v x.cs x.cs.length):
  bb (b.aF K) 0 (.f (.func GZ) [] []) [p,v] J (λr τ=>∃bf aR,r= .ok (.m (some bf))/\mC T R τ bf k aR/\J.next<=bf/\cM J τ):=by
 have hlt:=(fH.1 hx).1;obtain⟨dL,cX,m,e,aH,ma,lC,mw⟩:=rP (R:=R) G (k:=k) true ⟨h1,U,λy hy h=>by rw[hx] at hy;cases hy;exact ak h⟩;rw[hx] at cX;cases cX;rw[gV] at e;cases e;obtain⟨gp,fp,fM,jY,mR,eH⟩:=aq;have hm:m=y2 (gZ T R k) fp.length:=by
  cases h:x.hyp with
  |true=>
   obtain⟨aQ,aZ⟩:=lC h;rw[aZ,mR,aQ];rfl
  |false=>rw[mw h,mR];rfl
 subst hm;refine(c4y hh.add hh.marks hh.hf (mk:=gZ T R k) (fp:=fp) (gp:=gp) fl fM U U (λi hi=>?_) λj h h'=>(eH j h h').set).mono λr τ ⟨bf,aR,aM,aU,c3,fK,nT,nU⟩=>⟨bf,aR,aM,⟨aU,c3,λc=>?_⟩,nT,nU⟩
 ·unfold gZ;rw[hx];simp only[];cases((ib R x.bH).cg.getD i j7).bN with
  |true=>have:=(Vd T (x.cs.getD i (0,0)).1 (x.bK+1)).1;rw[cond_true];omega
  |false=>simp
 ·rw[fK];cases h:x.hyp with
  |true=>
   obtain⟨aQ,_⟩:=lC h;rw[Ef hx h,if_pos I,cA];constructor
   ·rintro(⟨_,h⟩|⟨j,aA,_⟩)
    ·exact h
    ·rw[mR,aQ] at aA;simp at aA
   ·exact λe=>.inl ⟨ma.1 h,e⟩
  |false=>
   rw[y3 G h1 hx h (ak h)];constructor
   ·rintro(⟨e,_⟩|⟨j,aA,h2,h3⟩)
    ·rw[ma.2 e] at h;cases h
    ·refine⟨j,U,?_,h3⟩;rw[jA aA] at h2;exact((eH j U aA).is c).1 h2
   ·rintro⟨j,aA,h2,h3⟩;refine .inr ⟨j,U,?_,h3⟩;rw[jA (show j<fp.length by omega)];exact((eH j U U).is c).2 h2
end
def Eg{T:List a7}{R:List bw}(G:hN T R){k:Nat}{x:a7}(h:tZ T k)(hx:T[k-1]? =some x){c:Nat×Nat}(aa:c∈x.cs):1<=c.2/\c.2<k:=by
 cases hh:x.hyp with
 |true=>
  rw[(G.hy x (eY hx) hh).1] at aa;simp at aa
 |false=>
  have:=(G.cs k x h.1 hx hh).2.2 c aa;omega
def Sl.a4L{J:ad}{ab:Option Nat}{v:AV}{xs:List AV}{o:Nat}(h:Sl J ab v xs)(ho:v.at? =some o):∃c,J.get o=some (.cells c):=by
 cases h with
 |nil=>cases ho
 |ao bF cap xs rest h aa aB=>cases ho;exact⟨_,h⟩
def mC.Ou{T:List a7}{R:List bw}{J τ:ad}{bf k:Nat}{aR:List Nat}(h:mC T R J bf k aR)(bA:∀i es c,J.get i=some (.map es c)->τ.get i=some (.map es c)):mC T R τ bf k aR:=⟨bA _ _ _ h.set,h.dc,h.is⟩
section
def c4D(hh:IP b K)(hl:a3 (b.aF K) GP Ge){T:List a7}{R:List bw}(G:hN T R):∀k,1<=k->k<=T.length->∀ {J:ad} {p:AV} {cs:List AV},tA T R true k= .aj cs->lN J p cs→
  bb (b.aF K) 0 (.f (.func GP) [] []) [p] J (λr τ=>∃bf aR,r= .ok (.m (some bf))/\mC T R τ bf k aR/\J.next<=bf/\cM J τ):=λk=>by
 induction k using Nat.strongRecOn with
 |ind cO VU=>
 intro VV VW;obtain⟨k,u_,hnd,VX,IQ,_,_⟩:=Ot (R:=R) G cO VV VW;have aC:=λj (aA:j<k)=>VU j U;have c0:∀ {τ bf aR},mC T R τ bf k aR->mC T R τ bf cO aR:=λh=>⟨h.set,h.dc,λc=>by rw[IQ];exact h.is c⟩
 intro J p cs vA fl;have gV:tA T R true k= .aj cs:=by rw[<-VX true];exact vA
 obtain⟨x,hx,m,e,aH,ma,lC,mw⟩:=rP (R:=R) G (k:=k) true hnd;have kv:=e;rw[gV] at e;cases e;have dM:=λc aa=>Eg G hnd hx (c:=c) aa;refine W.code hl.e hl.p hl.f (by cbv) I I I λz=>?_;have H:Has J []:=Has.nil;have gn:=fl.eW;refine af ?_;refine W.eW gn (v:=slA true (some 8) (x.cs.map λc=>tA T R true c.2)) I I I I I I m2 (λq=>⟨rfl,rfl⟩) λmP=>?_;refine af ?_;show bo _ _ _ _ _ _ _ _;refine ah.each x.cs.length (λj f τ=>∃(v:AV) (gp:List Nat) (fp:List (List Nat)),sat [(0,p),(3,v)] f/\Sl τ none v (gp.map λm=>AV.m (some m))/\gp.length=j/\fp.length=j/\(∀i (h:i<gp.length) (h':i<fp.length),mC T R τ gp[i] (x.cs.getD i (0,0)).2 fp[i])/\(∀o,v.at? =some o->J.next<=o)/\cM J τ) U ⟨.nilsl,[],[],dm,.nil,rfl,rfl,(λi h=>by simp at h),(λ_ h=>by cases h),a8 _,λ_ _ h=>h⟩ I I (λj g τ aA aL fF fi=>?_) (λg τ aL fF=>?_)
 ·obtain⟨v,gp,fp,⟨cm,bY,_⟩,aq,jY,mR,eH,jx,M⟩:=aL;refine ah.norm [(0,p),(3,v),(10,ag j),(9,ag x.cs.length)] ⟨cm,bY,fF,fi,trivial⟩ λg=>?_;have H:Has τ []:=Has.nil;have gn:=(fl.aD M.2).eW;refine af ?_;refine W.eW gn (v:=slA true (some 8) (x.cs.map λc=>tA T R true c.2)) I I I I I I m2 (λq=>⟨rfl,rfl⟩) λmP=>?_;refine af ?_;obtain⟨mx,l8⟩:=dM _ (bC aA);have n_:x.cs.getD j (0,0)=x.cs[j]:=jA aA;generalize x.cs[j]=dd at *;obtain⟨Bq,Bd,Oj,iV,aP,hO⟩:=xf G true dd.2 mx (by have:=hnd.2.1;omega);rw[hO];refine W.bS I I I (aC dd.2 l8 mx (by have:=hnd.2.1;omega) hO ⟨rfl,.inl I⟩) λr a5 ⟨bf,aR,e,hL,sP,M2⟩=>⟨_,e,?_⟩
  have ji:=M2.1;have cV:=M.1;refine af ?_;refine W.pu (.m (some bf)) (aq.aD (τ:=a5) λi o _=>M2.2 i o) I I I I I I I I I (by rw[bB];omega) λbn bu oV kS _ dx k3=>?_;refine af ?_;have aD:∀i o,v.at? ≠some i->τ.get i=some o->bu.get i=some o:=λi o hi ho=>k3 _ _ hi (M2.2 _ _ ho);have VY:∀i es c,a5.get i=some (.map es c)->v.at? ≠some i:=λi es c ho e=>by
   obtain⟨bc,h4⟩:=aq.a4L e;have:=M2.2 _ _ h4;rw[ho] at this;cases this
  have IS:∀i es c,a5.get i=some (.map es c)->bu.get i=some (.map es c):=λi es c ho=>k3 _ _ (VY i es c ho) ho;refine⟨rfl,rfl,?_⟩;obtain⟨VZ,V0,aQ,aZ,bX,cS⟩:=y4.push (bn:=bn) jY mR (λi h h'=>(eH i h h').Ou (τ:=bu) λi es c ho=>IS _ _ _ (M2.2 _ _ ho)) (by rw[n_];exact hL.Ou IS) oV;refine⟨bn,VZ,V0,dm,aQ,aZ,bX,cS,λo ho=>by rw[kS] at ho;cases ho;omega,U,λi o ho=>aD _ _ (λe=>by have:=jx _ e;have:=ad.a9 ho;omega) (M.2 _ _ ho)⟩
 ·obtain⟨v,gp,fp,⟨cm,bY,_⟩,aq,jY,mR,eH,jx,M⟩:=aL;show bo _ _ _ _ _ _ _ _;refine ah.norm [(0,p),(3,v)] ⟨cm,bY,trivial⟩ λg=>?_;have H:Has τ []:=Has.nil;have cV:=M.1;refine af ?_;refine W.bS I I I (a4K hh G hnd.1 hx (hnd.2.2 x hx) gV (fl.aD M.2) ⟨gp,fp,aq,jY,mR,eH⟩) λr a5 ⟨bf,aR,e,hL,sP,M2⟩=>⟨_,e,?_⟩
  have ji:=M2.1;refine af ?_;exact ah.ret ⟨rfl,bf,aR,rfl,c0 hL,U,U,λi o ho=>M2.2 _ _ (M.2 _ _ ho)⟩
end
end
section
variable [Tok][TokOk]
open Go.RowKit Go.Lyc.T
section
def Ov:∀ {l m:List Nat},l.Pairwise (· < ·)->m.Pairwise (· < ·)->(∀x,x∈l↔x∈m)->l=m
 |[],[],_,_,_=>rfl
 |[],y::m,_,_,h=>by have:=(h y).2 ay;simp at this
 |x::l,[],_,_,h=>by have:=(h x).1 ay;simp at this
 |x::l,y::m,hl,hm,h=>by
  rw[a0B] at hl hm;have e:x=y:=by
   rcases c2.1 ((h x).1 ay) with e|hx
   ·exact e
   ·rcases c2.1 ((h y).2 ay) with e|hy
    ·exact e.symm
    ·have:=hm.1 x hx;have:=hl.1 y hy;omega
  subst e;rw[Ov hl.2 hm.2 λz=>⟨λa_=>by
   rcases c2.1 ((h z).1 (by simp[a_])) with e|lV
   ·have:=hl.1 z a_;omega
   ·exact lV,λa_=>by
   rcases c2.1 ((h z).2 (by simp[a_])) with e|lV
   ·have:=hm.1 z a_;omega
   ·exact lV⟩]
def fg(T:List a7)(R:List bw)(k:Nat):List Nat:=(List.range (T.length+1)).filter λc=>decide (c∈labS T R k)
def c4E{l:List Nat}(h:l.Pairwise (· ≤ ·))(hn:l.Nodup):l.Pairwise (· < ·):=(List.pairwise_and_iff.2 ⟨h,hn⟩).imp λ⟨h1,h2⟩=>by omega
def Ow{T:List a7}{R:List bw}{k:Nat}:(fg T R k).Pairwise (· < ·):=a4j.filter _
section
variable {T:List a7}{R:List bw}(G:hN T R)
include G
theorem Eh:∀k,1<=k->k<=T.length->∀c∈labS T R k,c∈prt T k/\∃x,T[c-1]? =some x/\x.hyp=true:=λk=>by
 induction k using Nat.strongRecOn with
 |ind k aC=>
  intro h1 h2 c aa;have hx:T[k-1]? =some T[k-1]:=cp U;cases h:(T[k-1]).hyp with
  |true=>
   rw[Ef hx h,cA] at aa;subst aa;rw[IH hx h];exact⟨ay,_,hx,h⟩
  |false=>
   by_cases ak:(T[k-1]).bH=ep
   ·obtain⟨bc,l,_,e,aQ,aZ,bX⟩:=G.last h1 hx h;rw[Oq G h1 hx h ak,e] at aa;rw[II G h1 hx h ak,e];exact aC _ bX U U c aa
   ·obtain⟨i,hi,hm,_⟩:=(y3 G h1 hx h ak c).1 aa;obtain⟨dU,fr,gK⟩:=(G.cs k _ h1 hx h).2.2 _ (bC hi);rw[jA hi] at hm;obtain⟨d1,d2⟩:=aC _ gK U U c hm;rw[IJ G h1 hx h ak];exact⟨g1 _ (uo.2 ⟨_,bC hi,d1⟩),d2⟩
theorem a4M{k:Nat}(h1:1<=k)(h2:k<=T.length){c:Nat}(aa:c∈labS T R k):1<=c/\c<=k/\c<=T.length:=by
 obtain⟨a,b⟩:=VB G k h1 h2 c (Eh G k h1 h2 c aa).1;exact⟨a.1,b,a.2.1⟩
theorem vB{k:Nat}(h1:1<=k)(h2:k<=T.length){c:Nat}:c∈fg T R k↔c∈labS T R k:=by
 unfold fg;rw[mj,Ay,decide_eq_true_iff];exact⟨And.right,λh=>⟨by have:=a4M G h1 h2 h;omega,h⟩⟩
theorem c4F{k:Nat}(h1:1<=k)(h2:k<=T.length){J:ad}{bf:Nat}{aR c:List Nat}(h:mC T R J bf k aR)(an:c.Perm aR)(al:c.Pairwise (· ≤ ·)):c=fg T R k:=Ov (c4E al (an.nodup_iff.2 h.dc)) Ow λx=>by rw[an.mem_iff,h.is,vB G h1 h2]
end
def a4N{T:List a7}{L:List Nat}{c:Nat}{x:a7}(aa:c∈L)(hx:T[c-1]? =some x)(hh:x.hyp=true):c∈rQ T L:=by
 have al:∀(aR:List Nat) (y:Nat),c∈aR->c∈ua T aR y:=λaR y h=>by
  unfold ua;split
  ·split
   ·exact VQ.2 (.inl h)
   ·exact h
  ·exact h
 have hf:∀(l aR:List Nat),c∈aR->c∈l.foldl (ua T) aR:=λl=>by
  induction l with
  |nil=>exact λ_ h=>h
  |cons y l aC=>exact λaR h=>aC _ (al aR y h)
 suffices H:∀(l aR:List Nat),c∈l->c∈l.foldl (ua T) aR from H L [] aa
 intro l
 induction l with
 |nil=>exact λ_ h=>absurd h ay
 |cons y l aC=>
  intro aR h;rcases c2.1 h with rfl|h
  ·refine hf l _ ?_;unfold ua;simp only[hx,hh,if_true];exact VQ.2 (.inr I)
  ·exact aC _ h
attribute [local irreducible] bM bo da dy bb
def Acc.c4G{J:ad}{ab:Option Nat}{v:AV}{xs:List AV}(h:Acc J ab v xs):Sl J ab v xs:=by
 cases h with
 |nil=>exact .nil
 |ao o x xs h aa=>exact .ao o none (x::xs) [] (by rw[hI];exact h) aa (.inl I)
section
variable {b:bJ}{K:Nat->List AV->AV->Prop}(hfn:∀g aO r bR,K g aO r->K g aO bR->r=bR)
structure Ox(b:bJ)(K:Nat->List AV->AV->Prop):Prop where
 keys:a3 (b.aF K) MJ LJ
 IM:a3 (b.aF K) qA x9
 sorted:a3 (b.aF K) G0 LI
 V1:a3 (b.aF K) G1 Gj
 app:a3 (b.aF K) Di C3
 sort:a3 (b.aF K) G2 Gk
 len:a3 (b.aF K) tB tz
 IN:a3 (b.aF K) sx sw
 Br:a3 (b.aF K) Dj C4
 ins:a3 (b.aF K) Au Ah
 less:b.ext m0=0/\b.pure m0=true
 lt:∀a c,K m0 [ag a,ag c] (.b (decide (a<c)))
include hfn
theorem a4O(al:Ox b K){T:List a7}{R:List bw}(G:hN T R){k:Nat}(h1:1<=k)(h2:k<=T.length){J:ad}{bf bN:Nat}{aR:List Nat}(hL:mC T R J bf k aR)(tr:aR.length<=12)(hb:J.get bN=some (.cells [.m (some bf)])):
  bb (b.aF K) 0 (.f (.func G0) [] []) [.f (.func qA) [] [aw bN]] J (λr τ=>∃v,r= .ok v/\eL τ v (fg T R k)/\(∀a,v.at? =some a->J.next<=a)/\cM J τ):=
 (c4r hfn al.sorted al.V1 al.app al.IM al.sort al.len al.IN al.Br al.ins (λa _ c _=>al.lt a c) al.less tr J hL.set hb).mono λr τ ⟨v,c,e,an,hw,hA,aq,M⟩=>⟨v,e,by rw[<-c4F G h1 h2 hL an hw];exact hA.c4G,aq,M⟩
abbrev qM(T:List a7)(c:Nat):AV:=.aj (ag c::fm false (lnfT T c))
abbrev Oy(T:List a7)(R:List bw)(k:Nat):Prop:=∀aR:List Nat,aR.Nodup->(∀c∈aR,c∈labS T R k)->aR.length<=12
theorem c4H(al:Ox b K)(hl:IP b K)(cq:Ok b K)(ho:a3 (b.aF K) MI Lz)(hf:a3 (b.aF K) GO Gd)(IQ:a3 (b.aF K) GP Ge)(xh:b.ext lJ=0/\b.pure lJ=true)(wZ:b.ext qz=0/\b.pure qz=true){T:List a7}{R:List bw}(G:hN T R)(nX:∀x∈T,K lJ [.aj (br x.f)] (.aj (h_ x.f))){n:Nat}(h1:1<=n)(hn:n<=T.length)(hd:msr T 0 fo n<=40)(cl:K qz [tA T R true n] (.b true))(tr:Oy T R n){J:ad}:
  bb (b.aF K) 0 (.f (.func MI) [] []) [tA T R true n] J (λr τ=>∃v,r= .ok (.bg [v,ag 0])/\Sl τ (some 5) v ((fg T R n).map (qM T))/\(fg T R n=[]->v= .nilsl)/\(∀o,v.at? =some o->J.next<=o)/\cM J τ):=by
 obtain⟨aW,F,dT,s,m,hO⟩:=xf G true n h1 hn;have jo:∀J,bt J (b.bh+1000) (.aj (ff true aW F dT s m))=some (.aj (ff true aW F dT s m)):=λJ=>by
  have:=Iy G (J:=J) true n h1 hn (b.bh+1000) (by have:=G.lt;omega);rwa[hO] at this
 have IT:=cl;rw[hO] at IT;rw[hO];refine W.m3 ho.e ho.p ho.f (by cbv) I I λz=>?_;have H:Has J []:=Has.nil;refine af ?_;generalize aS:J.next=q;refine W.bN (c:=ff true aW F dT s m) H aS I I I I I λcx cy H bl=>?_;refine af ?_;refine W.et hfn wZ IT I I I (mS (jo _)) ?_;refine af ?_;have Bj:=a4E (J:=cx) cq hf G h1 hn hd;rw[hO] at Bj;refine W.bS I I I Bj λr a5 ⟨Ib,e,bL,d1P,M2⟩=>⟨_,e,?_⟩
 have H:=H.aD M2.2;refine af ?_;refine W.bS I I I (c4D hl IQ G n h1 hn hO ⟨rfl,.inr ⟨q,rfl,H.qx⟩⟩) λr bu ⟨bf,aR,e,hL,sP,ey⟩=>⟨_,e,?_⟩
 refine af ?_;refine W.bS I I I (a4y al.keys bf bu bu.next I) λr b3 ⟨e,eC,cf,bI⟩=>⟨_,e,?_⟩
 have c4I:=hL.aD bI;refine af ?_;refine W.bS I I I (a4O hfn al G h1 hn c4I (tr aR hL.dc λc aa=>(hL.is c).1 aa) cf) λr cW ⟨vC,e,u7,jx,gC⟩=>⟨_,e,?_⟩
 have c4J:ub T cW Ib (rQ T (prt T n)):=gC.2 _ _ (bI _ _ (ey.2 _ _ bL));have H6:∀i o,J.get i=some o->cW.get i=some o:=λi o ho=>gC.2 _ _ (bI _ _ (ey.2 _ _ (M2.2 _ _ (bl _ _ ho))));have ji:=M2.1;have rf:=ey.1;have AP:=gC.1;have hlen:∀J,lenA J 1 vC=some (fg T R n).length:=λJ=>Sl.G9 u7;have ow:(fg T R n).length<=41:=by
  unfold fg;have:=sz (λc=>decide (c∈labS T R n)) (List.range (T.length+1));rw[nc] at this;have:=G.lt;omega
 refine af ?_;refine W.len I I I (hlen _) ?_;refine af ?_;show bo _ _ _ _ _ _ _ _;refine ah.each (fg T R n).length (λj f τ=>∃v,sat [(4,.m (some Ib)),(5,v),(15,vC)] f/\Sl τ (some 5) v (((fg T R n).take j).map (qM T))/\(j=0->v= .nilsl)/\(∀o,v.at? =some o->cW.next<=o)/\cM cW τ) U ⟨.nilsl,dm,.nil,λ_=>rfl,(λ_ h=>by cases h),a8 _,λ_ _ h=>h⟩ I I (λj g τ aA aL fF fi=>?_) (λg τ aL fF=>?_)
 ·obtain⟨v,⟨cf,c9,o5,_⟩,aq,Bs,jx,M⟩:=aL;refine ah.norm [(4,.m (some Ib)),(5,v),(15,vC),(17,ag j),(16,ag (fg T R n).length)] ⟨cf,c9,o5,fF,fi,trivial⟩ λg=>?_;have H:Has τ []:=Has.nil;have AH:lj τ vC (fg T R n):=(u7.aD λi o _=>M.2 i o).kQ;have je:=(vB G h1 hn).1 (bC aA);have fv:(fg T R n).take (j+1)=(fg T R n).take j++[(fg T R n)[j]]:=jL aA;have c4K:ub T τ Ib (rQ T (prt T n)):=M.2 _ _ c4J;have xc:((fg T R n).take j).length=j:=by rw[g6];omega
  refine af ?_;generalize(fg T R n)[j]=c at *;obtain⟨an,x,hx,na⟩:=Eh G n h1 hn c je;have gI:=a4N an hx na;have a4P:lnfT T c=x.f:=by unfold lnfT;rw[hx]
  have kC:=eY hx;refine W.n2 (r:=some (.aj (fm true (lnfT T c)))) c4K I I I I I (by rw[Ec,if_pos gI]) ?_;refine af ?_;have oI:=nX x kC;rw[<-a4P] at oI;have zv:=G.fd x kC;rw[<-a4P] at zv;refine W.et hfn xh oI I I I (mS (by have:=Fm.snap τ true _ (lnfT T c) (b.bh+1000) (a8 _) U;rwa[sO] at this)) ?_;refine af ?_;refine W.pu (qM T c) aq I I I I I I I I I (by rw[bB];omega) λbn bu oV kS _ dx k3=>?_;refine af ?_;refine⟨rfl,rfl,bn,dm,by rw[fv,gO];exact oV,λh=>by omega,λo ho=>by rw[kS] at ho;cases ho;have:=M.1;omega,by have:=M.1;omega,λi o ho=>k3 _ _ (λe=>by have:=jx _ e;have:=ad.a9 ho;omega) (M.2 _ _ ho)⟩
 ·obtain⟨v,⟨cf,c9,o5,_⟩,aq,Bs,jx,M⟩:=aL;rw[jw] at aq;show bo _ _ _ _ _ _ _ _;refine ah.norm [(5,v)] ⟨c9,trivial⟩ λg=>?_;have H:Has τ []:=Has.nil;have cV:=M.1;refine af ?_;exact ah.ret ⟨rfl,_,jN (jn I) (jn I),v,rfl,aq,λe=>Bs (by rw[e];rfl),λo ho=>by have:=jx o ho;omega,U,λi o ho=>M.2 _ _ (H6 _ _ ho)⟩
end
end
end
section
variable [Tok][TokOk]
open Go.RowKit Go.Lyc.T
attribute [local irreducible] bM bo da dy bb
def a4Q{T:List a7}{R:List bw}{k i:Nat}:(gZ T R k i).length<=1/\∀n∈gZ T R k i,n<=T.length:=by
 unfold gZ;split
 ·rename_i x _;cases((ib R x.bH).cg.getD i j7).bN with
  |true=>
   obtain⟨a,b⟩:=Vd T (x.cs.getD i (0,0)).1 (x.bK+1);exact⟨a,λn hn=>by have:=b n hn;omega⟩
  |false=>exact⟨ay,ay⟩
 ·exact⟨ay,ay⟩
section
def c4L(al:a3 (b.aF K) MH LY){T:List a7}{R:List bw}(G:hN T R){k:Nat}(hnd:tZ T k){J:ad}{p:AV}{cs:List AV}(gV:tA T R true k= .aj cs)(fl:lN J p cs):
  bb (b.aF K) 0 (.f (.func MH) [] []) [p] J (λr τ=>r= .ok (.b true)/\cM J τ):=by
 obtain⟨x,hx,m,e,aH,ma,lC,mw⟩:=rP (R:=R) G (k:=k) true hnd;rw[gV] at e;cases e;have hlt:=G.lt;have ps:=hnd.2.1;have fC:=hnd.1;refine W.code al.e al.p al.f (by cbv) I I I λz=>?_;have H:Has J []:=Has.nil;have gn:=fl.eW;refine af ?_;refine W.eW gn (v:=.s x.bH) I I I I I I I (λq=>⟨rfl,rfl⟩) λmP=>?_;refine af ?_;refine W.bin I I I I (yY _ _) ?_;cases hh:x.hyp with
 |true=>
  obtain⟨aQ,aZ⟩:=lC hh;rw[decide_eq_true (ma.1 hh)];subst aZ;rw[ma.1 hh,hh,aQ] at gn;refine af ?_;refine W.eW gn (v:=.nilsl) I I I I I I I (λq=>⟨rfl,rfl⟩) λrR=>?_;refine af ?_;refine W.eW gn (v:=.nilsl) I I I I I I I (λq=>⟨rfl,rfl⟩) λrR=>?_;refine af ?_;refine W.eW gn (v:=.s []) I I I I I I I (λq=>⟨rfl,rfl⟩) λrR=>?_;refine W.bin (v:=.b false) I I I I I ?_;refine af ?_;refine W.eW gn (v:=ag k) I I I I I I I (λq=>⟨rfl,rfl⟩) λrR=>?_;refine af ?_;refine W.eW gn (v:=ag k) I I I I I I I (λq=>⟨rfl,rfl⟩) λrR=>?_;refine af ?_;exact ah.ret ⟨rfl,rfl,a8 _,λ_ _ h=>h⟩
 |false=>
  have ak:=hnd.2.2 x hx hh;obtain⟨_,_,hX,k9,kx⟩:=G.fR x (eY hx) hh ak;rw[decide_eq_false k9];have em:=mw hh;subst em;rw[hh] at gn;obtain⟨aY,_,_⟩:=G.cs k x fC hx hh;refine af ?_;refine W.eW gn (v:=.s x.bH) I I I I I I I (λq=>⟨rfl,rfl⟩) λrR=>?_;refine W.bin I I I I (yY _ _) ?_;rw[decide_eq_false kx];refine af ?_;refine W.eW gn (v:=ag 0) I I I I I I I (λq=>⟨rfl,rfl⟩) λrR=>?_;refine af ?_;refine W.eW gn (v:=rM true T R k x.cs.length) I I I I I I m2 (λq=>⟨rfl,rfl⟩) λrR=>?_;refine af ?_;refine W.eW gn (v:=slA true (some 8) (x.cs.map λc=>tA T R true c.2)) I I I I I I m2 (λq=>⟨rfl,rfl⟩) λrR=>?_;have Bt:(List.range x.cs.length).length=x.cs.length:=nc;refine af ?_;refine W.eW gn (v:=rM true T R k x.cs.length) I I I I I I m2 (λq=>⟨rfl,rfl⟩) λrR=>?_;refine af ?_;rw[Bt];show bo _ _ _ _ _ _ _ _;refine ah.each x.cs.length (λi f τ=>sat [(77,rM true T R k x.cs.length)] f/\cM J τ) U ⟨⟨rfl,trivial⟩,a8 _,λ_ _ h=>h⟩ I I (λi g τ hi aL fF fi=>?_) (λg τ aL fF=>?_)
  ·obtain⟨⟨y5,_⟩,M⟩:=aL;refine ah.norm [(77,rM true T R k x.cs.length),(79,ag i),(78,ag x.cs.length)] ⟨y5,fF,fi,trivial⟩ λg=>?_;have H:Has τ []:=Has.nil;refine af ?_;rw[show(List.range x.cs.length)[i]'(by rw[Bt];exact hi)=i from pg _];obtain⟨jd,nW⟩:=a4Q (T:=T) (R:=R) (k:=k) (i:=i);generalize gZ T R k i=l at *;refine W.xg H I I I λa5 c6 H ji bj=>?_;refine af ?_;show bo _ _ _ _ _ _ _ _;have cV:=M.1;refine ah.each l.length (λj f ax=>sat [(77,rM true T R k x.cs.length),(79,ag i),(78,ag x.cs.length),(5,.m (some τ.next)),(84,slA true none (l.map ag))] f/\cM J ax/\τ.next<ax.next/\(j=0->ax.get τ.next=some (.map [] 0))) U ⟨dm,⟨U,λi o ho=>bj _ _ (M.2 _ _ ho)⟩,U,λ_=>ji⟩ I I (λj g ax aA aL fF fi=>?_) (λg ax aL fF=>?_)
   ·obtain⟨⟨y5,V2,A_,c9,c4M,_⟩,Oz,X6,OA⟩:=aL;refine ah.norm [(77,rM true T R k x.cs.length),(79,ag i),(78,ag x.cs.length),(5,.m (some τ.next)),(84,slA true none (l.map ag)),(86,ag j),(85,ag l.length)] ⟨y5,V2,A_,c9,c4M,fF,fi,trivial⟩ λg=>?_;have H:Has ax []:=Has.nil;have rN:j=0:=by omega
    have OA:=OA rN;have d1Q:=nW _ (bC aA);refine af ?_;generalize l[j]=y at *;refine W.n2 (r:=none) OA I I I I I I ?_;refine af ?_;refine W.bin I I I I I ?_;refine W.mu (key:=ag y) OA I I I I (xj _ _) I λbu dx h3 k3=>?_;refine af ?_;exact⟨rfl,rfl,dm,⟨by have:=Oz.1;omega,λi o ho=>k3 _ _ (by have:=ad.a9 ho;omega) (Oz.2 _ _ ho)⟩,U,λh=>by omega⟩
   ·obtain⟨⟨y5,V2,A_,_⟩,Oz,_⟩:=aL;exact⟨V2,A_,⟨y5,trivial⟩,Oz⟩
  ·obtain⟨_,M⟩:=aL;show bo _ _ _ _ _ _ _ _;refine ah.norm [] trivial λg=>?_;have H:Has τ []:=Has.nil;refine af ?_;exact ah.ret ⟨rfl,rfl,M⟩
end
def a4R(k:Nat):∀(l:List Nat) (i:Nat),mc (.inl 0) (ag k) (setE ag i l)=some (if k∈l then some (.b true) else none)
 |[],_=>rfl
 |y::l,i=>by
  show(match keyEq (.inl 0) (ag k) (ag y) with|none=>none|some true=>some (some (AV.b true))|some false=>mc (.inl 0) (ag k) (setE ag (i+1) l))=_;rw[xj];by_cases h:k=y
  ·subst h;rw[decide_eq_true I,if_pos k1]
  ·rw[decide_eq_false h];show mc (.inl 0) (ag k) (setE ag (i+1) l)=_;rw[a4R k l (i+1)];simp only[c2,h,false_or]
def OB(T:List a7):Prop:=∀k x,1<=k->T[k-1]? =some x->x.hyp=false->x.bH=ep->lnfT T (jC x)=x.f
def OC{T:List a7}{R:List bw}(G:hN T R)(hA:OB T)(o:Bool):∀k,1<=k->k<=T.length->∃aW dT s m,tA T R o k= .aj (ff o aW (lnfT T k) dT s m):=λk=>by
 induction k using Nat.strongRecOn with
 |ind k aC=>
  intro h1 h2;have hx:T[k-1]? =some T[k-1]:=cp U;have hf:lnfT T k=(T[k-1]).f:=by unfold lnfT;rw[hx]
  by_cases ha:(T[k-1]).hyp=false/\(T[k-1]).bH=ep
  ·obtain⟨c,l,_,e,aQ,aZ,bX⟩:=G.last h1 hx ha.1;obtain⟨aW,dT,s,m,aU⟩:=aC (jC T[k-1]) U U U;rw[xe G o h1 hx ha.1 ha.2,aU,hA k _ h1 hx ha.1 ha.2,hf];exact⟨_,_,_,_,rfl⟩
  ·obtain⟨x,cX,m,e,_⟩:=rP (R:=R) G (k:=k) o ⟨h1,h2,λx cX h e=>ha (by rw[hx] at cX;cases cX;exact⟨h,e⟩)⟩;rw[hx] at cX;cases cX;rw[e,hf];exact⟨_,_,_,_,rfl⟩
def nI(T:List a7)(R:List bw)(k i:Nat)(c:Nat×Nat):dC:=⟨lnfT T c.2,(gZ T R k i).map λn=>if n∈labS T R c.2 then some (lnfT T n) else none,((fg T R c.2).filter λn=>!decide (n∈gZ T R k i)).map (lnfT T)⟩
structure Bu(X:Nat->Prop)(τ:ad)(v:AV)(g:dC):Prop where
 ex:∃aq gk,v= .aj (br g.eE++[aq,gk])/\Sl τ (some 5) aq (g.hyps.map pV)/\Sl τ (some 4) gk (g.rest.map λF=>.aj (br F))/\(∀o,aq.at? =some o\/gk.at? =some o->X o)/\(g.hyps=[]->aq= .nilsl)/\(g.rest=[]->gk= .nilsl)
def Bu.aD{X DI:Nat->Prop}{J τ:ad}{v:AV}{g:dC}(h:Bu X J v g)(k:∀i o,X i->J.get i=some o->τ.get i=some o)(hx:∀i,X i->DI i):Bu DI τ v g:=by
 obtain⟨aq,gk,e,h1,h2,h3,aH⟩:=h.ex;exact⟨aq,gk,e,h1.aD λi o hi=>k i o (h3 _ (.inl hi)),h2.aD λi o hi=>k i o (h3 _ (.inr hi)),λo ho=>hx o (h3 o ho),aH⟩
abbrev c4N(x:Option Fm):List AV:=.b x.isSome::br (x.getD j9)
abbrev nb(l:hz)(g9 aI:Nat)(bv:AV):List AV:=l.cells true++[.m (some g9),.m (some aI),bv]
section
variable {b:bJ}{K:Nat->List AV->AV->Prop}(hfn:∀g aO r bR,K g aO r->K g aO bR->r=bR)
include hfn
theorem c4O(hg:a3 (b.aF K) MG LZ)(al:Ox b K)(hl:IP b K){T:List a7}{R:List bw}(G:hN T R)(hA:OB T){l:hz}{k:Nat}(hnd:tZ T k){x:a7}(hx:T[k-1]? =some x){L:List Nat}(hL:∀c∈x.cs,∀n∈labS T R c.2,n∈L)(tr:∀c∈x.cs,Oy T R c.2){J:ad}{e0 g9 aI:Nat}{bv p lO:AV}{cs:List AV}(gV:tA T R true k= .aj cs)(fl:lN J p cs)(e9:J.get e0=some (.cells (nb l g9 aI bv)))(bL:ub T J aI L)(ct:y4 T R J lO x.cs x.cs.length):
  bb (b.aF K) 0 (.f (.func MG) [] []) [aw e0,p,lO] J (λr τ=>∃(v:AV) (xs:List AV) (X:Nat->Prop),r= .ok v/\Sl τ (some 6) v xs/\(xs=[]->v= .nilsl)/\xs.length=x.cs.length/\(∀i (h:i<xs.length) (h':i<x.cs.length),Bu X τ xs[i] (nI T R k i x.cs[i]))/\cM J τ):=by
 obtain⟨dL,cX,m,e,aH,ma,lC,mw⟩:=rP (R:=R) G (k:=k) true hnd;rw[hx] at cX;cases cX;rw[gV] at e;cases e;obtain⟨gp,fp,fM,jY,mR,eH⟩:=ct;have hm:m=y2 (gZ T R k) x.cs.length:=by
  cases h:x.hyp with
  |true=>obtain⟨aQ,aZ⟩:=lC h;rw[aZ,aQ];rfl
  |false=>rw[mw h];rfl
 subst hm;have hlt:=G.lt;have dM:=λc aa=>Eg G hnd hx (c:=c) aa;refine W.code hg.e hg.p hg.f (by cbv) I I I λz=>?_;have H:Has J []:=Has.nil;have gn:=fl.eW;refine af ?_;refine W.eW gn (v:=slA true (some 8) (x.cs.map λc:Nat×Nat=>tA T R true c.2)) I I I I I I m2 (λq=>⟨rfl,rfl⟩) λmP=>?_;refine af ?_;show bo _ _ _ _ _ _ _ _;refine ah.each x.cs.length (λj f τ=>∃(v:AV) (xs:List AV) (X:Nat->Prop),sat [(0,aw e0),(1,p),(2,lO),(7,v),(19,slA true (some 8) (x.cs.map λc:Nat×Nat=>tA T R true c.2))] f/\Sl τ (some 6) v xs/\(xs=[]->v= .nilsl)/\xs.length=j/\(∀i (h:i<xs.length) (h':i<x.cs.length),Bu X τ xs[i] (nI T R k i x.cs[i]))/\(∀o,v.at? =some o->J.next<=o/\¬X o)/\(∀o,X o->J.next<=o/\o<τ.next)/\cM J τ) U ⟨.nilsl,[],λ_=>False,dm,.nil,λ_=>rfl,rfl,(λi h=>by simp at h),(λ_ h=>by cases h),(λ_ h=>h.elim),a8 _,λ_ _ h=>h⟩ I I (λj g τ aA aL fF fi=>?_) (λg τ aL fF=>?_)
 ·obtain⟨v,xs,X,⟨cm,bx,bz,fN,vD,_⟩,aq,Bs,gS,dG,jx,cw,M⟩:=aL;refine ah.norm [(0,aw e0),(1,p),(2,lO),(7,v),(19,slA true (some 8) (x.cs.map λc:Nat×Nat=>tA T R true c.2)),(21,ag j),(20,ag x.cs.length)] ⟨cm,bx,bz,fN,vD,fF,fi,trivial⟩ λg=>?_;have H:Has τ [(e0,nb l g9 aI bv)]:=Has.nil.cons (M.2 _ _ e9) ay;obtain⟨mx,l8⟩:=dM _ (bC aA);obtain⟨Bq,Oj,iV,aP,hO⟩:=OC (R:=R) G hA true _ mx (by have:=hnd.2.1;omega);have a4S:=hL _ (bC aA);have c4P:=tr _ (bC aA);have n_:x.cs.getD j (0,0)=x.cs[j]:=jA aA;have D5:=eH j U U;rw[n_] at D5;have V3:=fl.aD M.2;have OD:=fM.aD (τ:=τ) λi o _=>M.2 i o;refine af ?_;generalize mh:x.cs[j]=dd at *;rw[hO];refine af ?_;refine W.b6 (c:=[.s [],.i .u8 0,.s [],.nilsl,.nilsl,ag 0,.nilsl,.nilsl]) H I I I I λcx cy H bl=>?_;refine af ?_;refine W.st (bc:=ff true Bq (lnfT T dd.2) Oj iV aP) H 0 I I I I I I λa5 c6 H bj=>?_;refine af ?_;refine W.b6 (c:=[.i .u8 0,.s [],.nilsl,.nilsl,.nilsl,.nilsl]) H I I I I λbu dx H k3=>?_;refine af ?_;refine W.st (bc:=br (lnfT T dd.2)++[.nilsl,.nilsl]) H 0 I I I I I I λb3 eC H bI=>?_;have mB:∀i o,τ.get i=some o->b3.get i=some o:=λi o ho=>bI _ _ (by have:=ad.a9 ho;omega) (k3 _ _ (bj _ _ (by have:=ad.a9 ho;omega) (bl _ _ ho)));generalize aS:τ.next=q at *;rw[show a5.next=q+1 by omega] at H ⊢;have c4Q:=H.qx;have c4R:=(V3.aD mB).eW;have Bt:(List.range x.cs.length).length=x.cs.length:=nc;refine af ?_;refine W.eW c4R (v:=y2 (gZ T R k) x.cs.length) I I I I I I m2 (λq=>⟨rfl,rfl⟩) λrR=>?_;refine af ?_;rw[show(List.range x.cs.length)[j]'(by rw[Bt];exact aA)=j from pg _];refine af ?_;obtain⟨d1R,d1S⟩:=a4Q (T:=T) (R:=R) (k:=k) (i:=j);have c4S:∀n∈gZ T R k j,1<=n:=λn hn=>by
   have na:x.hyp=false:=by
    cases h:x.hyp with
    |false=>rfl
    |true=>rw[(lC h).1] at aA;simp at aA
   have h1:=((G.cs k x hnd.1 hx na).2.2 dd (by rw[<-mh];exact bC aA)).1;unfold gZ at hn;rw[hx] at hn;simp only[] at hn;rw[n_] at hn;cases hb:((ib R x.bH).cg.getD j j7).bN with
   |true=>rw[hb,cond_true] at hn;have:=(Vd T dd.1 (x.bK+1)).2 n hn;omega
   |false=>rw[hb] at hn;simp at hn
  have ud:(nI T R k j dd).hyps=(gZ T R k j).map λn=>if n∈labS T R dd.2 then some (lnfT T n) else none:=rfl
  generalize kZ:gZ T R k j=k0 at *;have oA:(nI T R k j dd).rest=((fg T R dd.2).filter λn=>!decide (n∈k0)).map (lnfT T):=by unfold nI;rw[kZ]
  have c4T:(nI T R k j dd).eE=lnfT T dd.2:=rfl;generalize qi:nI T R k j dd=gt at *;generalize c4U:(λn=>if n∈labS T R dd.2 then some (lnfT T n) else none)=hf at ud;have u7:(gp.map λm=>AV.m (some m)).length=x.cs.length:=by rw[bB];exact jY
  have sP:=λ(ax:ad) (bA:∀i o,i<q->τ.get i=some o->ax.get i=some o)=>D5.aD (τ:=ax) λi o ho=>bA i o (by have:=ad.a9 ho;have:=M.1;omega) (M.2 _ _ ho);have c4V:∀i o,i<q->τ.get i=some o->b3.get i=some o:=λi o _ ho=>mB i o ho;refine W.u6 (α:=AV) (λaq=>[(0,aw e0),(1,p),(2,lO),(7,v),(8,ag j),(10,aw (q+1)),(19,slA true (some 8) (x.cs.map λc:Nat×Nat=>tA T R true c.2)),(20,ag x.cs.length),(21,ag j)]) (λaq ax=>ax.get (q+1)=some (.cells (br (lnfT T dd.2)++[aq,.nilsl]))/\Sl ax (some 5) aq (gt.hyps.map pV)/\(gt.hyps=[]->aq= .nilsl)/\(∀o,aq.at? =some o->q+2<=o)/\q+2<=ax.next/\∀i o,i<q->τ.get i=some o->ax.get i=some o) ?_ ?_
  ·have c4W:∀ax:ad,(∀i o,i<q->τ.get i=some o->ax.get i=some o)->ax.get e0=some (.cells (nb l g9 aI bv)):=λax bA=>bA _ _ (by have:=ad.a9 e9;have:=M.1;omega) (M.2 _ _ e9);have c4X:∀ax:ad,(∀i o,i<q->τ.get i=some o->ax.get i=some o)->ub T ax aI L:=λax bA=>bA _ _ (by have:=ad.a9 bL;have:=M.1;omega) (M.2 _ _ bL);refine ah.each k0.length (λt f ax=>∃aq,sat [(0,aw e0),(1,p),(2,lO),(7,v),(8,ag j),(10,aw (q+1)),(19,slA true (some 8) (x.cs.map λc:Nat×Nat=>tA T R true c.2)),(20,ag x.cs.length),(21,ag j),(35,slA true none (k0.map ag))] f/\ax.get (q+1)=some (.cells (br (lnfT T dd.2)++[aq,.nilsl]))/\Sl ax (some 5) aq (((k0.take t).map hf).map pV)/\((k0.take t).map hf=[]->aq= .nilsl)/\(∀o,aq.at? =some o->q+2<=o)/\q+2<=ax.next/\∀i o,i<q->τ.get i=some o->ax.get i=some o) U ⟨.nilsl,dm,c4Q,.nil,λ_=>rfl,(λ_ h=>by cases h),U,c4V⟩ rfl rfl (λt g ax ht aL fF fi=>?_) (λg ax aL fF=>?_)
   ·obtain⟨iG,⟨cm,bx,bz,fN,ga,nB,vD,qE,Bv,yt,_⟩,ki,uJ,oY,tF,jj,bA⟩:=aL;refine ah.norm [(0,aw e0),(1,p),(2,lO),(7,v),(8,ag j),(10,aw (q+1)),(19,slA true (some 8) (x.cs.map λc:Nat×Nat=>tA T R true c.2)),(20,ag x.cs.length),(21,ag j),(35,slA true none (k0.map ag)),(37,ag t),(36,ag k0.length)] ⟨cm,bx,bz,fN,ga,nB,vD,qE,Bv,yt,fF,fi,trivial⟩ λg=>?_;have d1T:=ad.a9 e9;have H:Has ax [(q+1,br (lnfT T dd.2)++[iG,.nilsl]),(e0,nb l g9 aI bv)]:=(Has.nil.cons (c4W _ bA) ay).cons ki (by simp;have:=M.1;omega);have sl:=(OD.aD (τ:=ax) λi o hi ho=>bA i o (by have:=OD.lt hi;omega) ho).vw;have w_:=c4S _ (bC ht);have fv:(k0.take (t+1)).map hf=(k0.take t).map hf++[hf k0[t]]:=by rw[jL ht,gO];rfl
    have uF:hf k0[t]=if k0[t]∈labS T R dd.2 then some (lnfT T k0[t]) else none:=by rw[<-c4U]
    have Ei:=sP ax bA;refine af ?_;generalize k0[t]=y at *;rw[ez];refine W.n2 (r:=if y∈labS T R dd.2 then some (.b true) else none) Ei.set I I I I I (by rw[a4R];simp only[Ei.is]) ?_;by_cases gI:y∈labS T R dd.2
    ·rw[if_pos gI] at uF ⊢;refine af ?_;refine W.b6 (c:=[.b false,.i .u8 0,.s [],.nilsl,.nilsl]) H I I I I λcW gw H cP=>?_;refine af ?_;refine W.st (bc:=[.b true,.i .u8 0,.s [],.nilsl,.nilsl]) H 0 I I I I I I λdr h5 H dI=>?_;have rS:∀i o,ax.get i=some o->dr.get i=some o:=λi o ho=>dI _ _ (by have:=ad.a9 ho;omega) (cP _ _ ho);refine af ?_;refine W.n2 (r:=some (.aj (fm true (lnfT T y)))) (rS _ _ (c4X _ bA)) I I I I I (by rw[Ec,if_pos (a4S y gI)]) ?_;refine af ?_;refine W.st (bc:=c4N (some (lnfT T y))) H 0 I I I I I I λeT j0 H fZ=>?_;have tI:∀i o,ax.get i=some o->eT.get i=some o:=λi o ho=>fZ _ _ (by have:=ad.a9 ho;omega) (rS _ _ ho);refine af ?_;refine W.pu (pV (some (lnfT T y))) (uJ.aD λi o _=>tI i o) I I I I I I I I I (by simp;omega) λv2 eV kM nz _ oD j8=>?_;have H:Has eV [(q+1,br (lnfT T dd.2)++[iG,.nilsl])]:=Has.nil.cons (j8 _ _ (λe=>by have:=tF _ e;omega) (tI _ _ ki)) ay;refine af ?_;refine W.st (bc:=br (lnfT T dd.2)++[v2,.nilsl]) H 0 I I I I kM.jm (by rw[kM.j3];rfl) λhv oE H hH=>?_;refine af ?_;refine⟨rfl,rfl,v2,dm,H.qx,?_,λe=>absurd e (by rw[fv];simp),λo ho=>by rw[nz] at ho;cases ho;omega,U,λi o hi ho=>hH _ _ U (j8 _ _ (λe=>by have:=tF _ e;omega) (tI _ _ (bA _ _ hi ho)))⟩;rw[fv,uF,gO];exact kM.aD λi o hi ho=>hH _ _ (by rw[nz] at hi;cases hi;omega) ho
    ·rw[if_neg gI] at uF ⊢;refine af ?_;refine W.b6 (c:=[.b false,.i .u8 0,.s [],.nilsl,.nilsl]) H I I I I λcW gw H cP=>?_;refine af ?_;refine W.st (bc:=[.b false,.i .u8 0,.s [],.nilsl,.nilsl]) H 0 I I I I I I λdr h5 H dI=>?_;have rS:∀i o,ax.get i=some o->dr.get i=some o:=λi o ho=>dI _ _ (by have:=ad.a9 ho;omega) (cP _ _ ho);refine af ?_;refine W.pu (pV none) (uJ.aD λi o _=>rS i o) I I I I I I I I I (by simp;omega) λv2 eV kM nz _ oD j8=>?_;have H:Has eV [(q+1,br (lnfT T dd.2)++[iG,.nilsl])]:=Has.nil.cons (j8 _ _ (λe=>by have:=tF _ e;omega) (rS _ _ ki)) ay;refine af ?_;refine W.st (bc:=br (lnfT T dd.2)++[v2,.nilsl]) H 0 I I I I kM.jm (by rw[kM.j3];rfl) λhv oE H hH=>?_;refine af ?_;refine⟨rfl,rfl,v2,dm,H.qx,?_,λe=>absurd e (by rw[fv];simp),λo ho=>by rw[nz] at ho;cases ho;omega,U,λi o hi ho=>hH _ _ U (j8 _ _ (λe=>by have:=tF _ e;omega) (rS _ _ (bA _ _ hi ho)))⟩;rw[fv,uF,gO];exact kM.aD λi o hi ho=>hH _ _ (by rw[nz] at hi;cases hi;omega) ho
   ·obtain⟨iG,⟨cm,bx,bz,fN,ga,nB,vD,qE,Bv,_⟩,ki,uJ,oY,tF,jj,bA⟩:=aL;rw[jw] at uJ;refine⟨rfl,iG,⟨ki,by rw[ud];exact uJ,λe=>oY (by rw[jw,← ud];exact e),tF,jj,bA⟩,cm,bx,bz,fN,ga,nB,vD,qE,Bv,trivial⟩
  ·rintro iG g fu ⟨ki,uJ,oY,tF,jj,bA⟩;have H:Has fu []:=Has.nil;have sl:=(OD.aD (τ:=fu) λi o hi ho=>bA i o (by have:=OD.lt hi;omega) ho).vw;have c4Y:=sP fu bA;have cV:=M.1;refine af ?_;rw[ez];refine W.bS I I I (a4y al.keys _ fu fu.next I) λr fG ⟨e,ly,Uv,fP⟩=>⟨_,e,?_⟩
   have Ei:=c4Y.aD fP;refine af ?_;refine W.bS I I I (a4O hfn al G mx (by have:=hnd.2.1;omega) Ei (c4P _ Ei.dc λc aa=>(Ei.is c).1 aa) Uv) λr gD ⟨vC,e,u7,c4Z,tT⟩=>⟨_,e,?_⟩
   have oM:=tT.1;have OE:∀i o,fu.get i=some o->gD.get i=some o:=λi o ho=>tT.2 _ _ (fP _ _ ho);have hlen:∀J,lenA J 1 vC=some (fg T R dd.2).length:=λJ=>Sl.G9 u7;have ow:(fg T R dd.2).length<=41:=by
    unfold fg;have:=sz (λc=>decide (c∈labS T R dd.2)) (List.range (T.length+1));rw[nc] at this;omega
   refine af ?_;refine W.len I I I (hlen _) ?_;refine af ?_;show bo _ _ _ _ _ _ _ _;have c5a:∀o,vC.at? =some o->o<gD.next:=λo ho=>u7.lt ho;have a4T:∀o,iG.at? =some o->o<gD.next:=λo ho=>by have:=uJ.lt ho;omega
   refine W.u6 (α:=AV) (λgk=>[(7,v),(10,aw (q+1)),(0,aw e0),(1,p),(2,lO),(19,slA true (some 8) (x.cs.map λc:Nat×Nat=>tA T R true c.2)),(20,ag x.cs.length),(21,ag j)]) (λgk ax=>ax.get (q+1)=some (.cells (br (lnfT T dd.2)++[iG,gk]))/\Sl ax (some 4) gk (gt.rest.map λF=>.aj (br F))/\(gt.rest=[]->gk= .nilsl)/\(∀o,gk.at? =some o->gD.next<=o)/\gD.next<=ax.next/\∀i o,i<gD.next->i≠q+1->gD.get i=some o->ax.get i=some o) ?_ ?_
   ·have c5b:=OE _ _ ki;refine ah.each (fg T R dd.2).length (λt f ax=>∃gk,sat [(0,aw e0),(1,p),(2,lO),(7,v),(8,ag j),(10,aw (q+1)),(19,slA true (some 8) (x.cs.map λc:Nat×Nat=>tA T R true c.2)),(20,ag x.cs.length),(21,ag j),(73,vC)] f/\ax.get (q+1)=some (.cells (br (lnfT T dd.2)++[iG,gk]))/\Sl ax (some 4) gk (((((fg T R dd.2).take t).filter λn=>!decide (n∈k0)).map (lnfT T)).map λF=>.aj (br F))/\(((fg T R dd.2).take t).filter (λn=>!decide (n∈k0))=[]->gk= .nilsl)/\(∀o,gk.at? =some o->gD.next<=o)/\gD.next<=ax.next/\∀i o,i<gD.next->i≠q+1->gD.get i=some o->ax.get i=some o) U ⟨.nilsl,dm,c5b,.nil,λ_=>rfl,(λ_ h=>by cases h),a8 _,λ_ _ _ _ h=>h⟩ I I (λt g ax ht aL fF fi=>?_) (λg ax aL fF=>?_)
    ·obtain⟨gk,⟨cm,bx,bz,fN,ga,nB,vD,qE,Bv,a4U,_⟩,ki,q2,sQ,pB,D9,uc⟩:=aL;refine ah.norm [(0,aw e0),(1,p),(2,lO),(7,v),(8,ag j),(10,aw (q+1)),(19,slA true (some 8) (x.cs.map λc:Nat×Nat=>tA T R true c.2)),(20,ag x.cs.length),(21,ag j),(73,vC),(75,ag t),(74,ag (fg T R dd.2).length)] ⟨cm,bx,bz,fN,ga,nB,vD,qE,Bv,a4U,fF,fi,trivial⟩ λg=>?_;have Bw:∀i o,i<q->τ.get i=some o->ax.get i=some o:=λi o hi ho=>uc _ _ U U (OE _ _ (bA _ _ hi ho));have a4V:ax.get e0=some (.cells (nb l g9 aI bv)):=Bw _ _ (by have:=ad.a9 e9;omega) (M.2 _ _ e9);have vh:ub T ax aI L:=Bw _ _ (by have:=ad.a9 bL;omega) (M.2 _ _ bL);have c5c:=ad.a9 e9;have H:Has ax [(q+1,br (lnfT T dd.2)++[iG,gk]),(e0,nb l g9 aI bv)]:=(Has.nil.cons a4V ay).cons ki (by simp;omega);have c5d:lN ax p _:=⟨V3.len,V3.is.imp id λ⟨id,h1,h2⟩=>⟨id,h1,Bw _ _ (by rw[<-aS];exact ad.a9 h2) h2⟩⟩
     have c5e:=c5d.eW;have AH:lj ax vC (fg T R dd.2):=(u7.aD (τ:=ax) λi o hi ho=>uc _ _ (c5a _ hi) (by have:=c4Z _ hi;omega) ho).kQ;have je:=(vB G mx (by have:=hnd.2.1;omega)).1 (bC ht);have fv:((fg T R dd.2).take (t+1)).filter (λn=>!decide (n∈k0))=((fg T R dd.2).take t).filter (λn=>!decide (n∈k0))++[(fg T R dd.2)[t]].filter (λn=>!decide (n∈k0)):=by rw[jL ht,Ax]
     refine af ?_;generalize(fg T R dd.2)[t]=y at *;refine W.eW c5e (v:=y2 (gZ T R k) x.cs.length) I I I I I I m2 (λq=>⟨rfl,rfl⟩) λa4H=>?_;refine af ?_;rw[show(List.range x.cs.length)[j]'(by rw[Bt];exact aA)=j from pg _,kZ];have rr:lj ax (slA true none (k0.map ag)) k0:=(AB λy hy=>by obtain⟨x,_,rfl⟩:=cT.1 hy;rfl).kQ;refine W.bS I I I (SP hl.hf.cont hl.hf.index rr U y) λr a4W ⟨e,nU⟩=>⟨_,e,?_⟩
     subst nU;by_cases gI:y∈k0
     ·rw[decide_eq_true gI];refine af ?_;refine⟨rfl,rfl,gk,dm,ki,?_,?_,pB,D9,uc⟩<;>rw[fv,List.filter_cons_of_neg (by simp[gI]),List.filter_nil,hI]
      ·exact q2
      ·exact sQ
     ·rw[decide_eq_false gI];refine af ?_;refine W.jK H I I I (.head _) I (eo q2.lf) ?_;refine af ?_;obtain⟨_,dV,pZ,_⟩:=Eh G _ mx (by have:=hnd.2.1;omega) y je;have NB:(lnfT T y).dep<=40:=by
       have:=G.fd _ (eY pZ);unfold lnfT;rw[pZ];exact this
      refine W.On (r:=some (.aj (fm true (lnfT T y)))) vh I I I I I (by rw[Ec,if_pos (a4S y je)]) (VO false true NB (Aa _ _)) ?_;refine af ?_;refine W.bV (c:=br (lnfT T y)) H I I I I λn7 hD H mv=>?_;have g4:=H.qx;refine W.now (_::_::_::[]) [] I I ⟨mv _ _ vh,mv _ _ a4V,mv _ _ ki,trivial⟩ ?_;refine W.ap (w:=.ao a4W.next 0 1 (some 4) (some 1)) (.aj (br (lnfT T y))) [] (q2.aD λi o _=>mv i o) (by show(match n7.get a4W.next with|some (.cells c)=>elems (some 4) 1 (c.drop 0)|_=>none)=_;rw[g4];rfl) (λz a_=>by rw[cA.1 a_];rfl) (by
       have:((((fg T R dd.2).take t).filter λn=>!decide (n∈k0)).map (lnfT T)).length<=41:=by
        rw[bB];have h1:=sz (λn=>!decide (n∈k0)) ((fg T R dd.2).take t);have h2:=List.length_take_le t (fg T R dd.2);have h3:((fg T R dd.2).take t).length<=(fg T R dd.2).length:=by rw[g6];omega
        omega
       rw[bB];show(3*(_+1)+2000)*72<=_;omega) I I I I λa4X AQ V4 nz _ Nb pU=>?_
      have H:Has AQ [(q+1,br (lnfT T dd.2)++[iG,gk])]:=Has.nil.cons (pU _ _ (λe=>by have:=pB _ e;omega) (mv _ _ ki)) ay;refine af ?_;refine W.st (bc:=br (lnfT T dd.2)++[iG,a4X]) H 0 I I I I V4.jm (by rw[V4.j3];rfl) λNK c3n H qW=>?_;refine af ?_;refine⟨rfl,rfl,a4X,dm,H.qx,?_,λe=>absurd e (by rw[fv,a4k (by simp[gI])];simp),λo ho=>by rw[nz] at ho;cases ho;omega,U,λi o hi aY ho=>qW _ _ aY (pU _ _ (λe=>by have:=pB _ e;omega) (mv _ _ (uc _ _ hi aY ho)))⟩;rw[fv,a4k (by simp[gI]),List.filter_nil,gO,gO];exact V4.aD λi o hi ho=>qW _ _ (by rw[nz] at hi;cases hi;omega) ho
    ·obtain⟨gk,⟨cm,bx,bz,fN,ga,nB,vD,qE,Bv,a4U,_⟩,ki,q2,sQ,pB,D9,uc⟩:=aL;rw[jw,← oA] at q2;rw[jw] at sQ;exact⟨rfl,gk,⟨ki,q2,λe=>sQ (by rw[oA] at e;simpa using e),pB,D9,uc⟩,fN,nB,cm,bx,bz,vD,qE,Bv,trivial⟩
   ·rintro gk g h9 ⟨ki,q2,sQ,pB,d1U,uc⟩;have H:Has h9 [(q+1,br (lnfT T dd.2)++[iG,gk])]:=Has.nil.cons ki ay;have Bw:∀i o,i<q->τ.get i=some o->h9.get i=some o:=λi o hi ho=>uc _ _ U U (OE _ _ (bA _ _ hi ho));refine af ?_;refine W.pu (.aj (br (lnfT T dd.2)++[iG,gk])) (aq.aD (τ:=h9) λi o hi ho=>Bw _ _ (by have:=aq.lt hi;omega) ho) I I I I I I I I I U λv2 g8 kM nz _ ne j6=>?_;refine af ?_;have a4Y:∀o,v.at? =some o->o<q:=λo ho=>by have:=aq.lt ho;omega
    refine⟨rfl,rfl,v2,xs++[.aj (br (lnfT T dd.2)++[iG,gk])],λo=>X o\/q+2<=o/\o<h9.next,dm,kM,λe=>absurd e ay,by rw[c5,gS];rfl,λi h h'=>?_,λo ho=>?_,λo ho=>?_,U,λi o ho=>j6 _ _ (λe=>by have:=(jx _ e).1;have:=ad.a9 ho;omega) (Bw _ _ (by have:=ad.a9 ho;omega) (M.2 _ _ ho))⟩
    ·rw[c5,Nr] at h;by_cases ot:i<xs.length
     ·rw[iC ot];exact(dG i ot h').aD (λo c ho hg=>j6 _ _ (λe=>(jx _ e).2 ho) (Bw _ _ (by have:=cw o ho;omega) hg)) λo ho=>.inl ho
     ·obtain rfl:i=xs.length:=by omega
      rw[oP I];rw[show nI T R k xs.length (x.cs[xs.length]'h')=gt from by rw[show x.cs[xs.length]'h'=dd from by simp only[gS];exact mh,gS,qi]];refine⟨iG,gk,by rw[c4T],(uJ.aD λi o hi ho=>?_),q2.aD λi o hi ho=>j6 _ _ (λe=>by have:=a4Y _ e;have:=pB _ hi;omega) ho,λo ho=>?_,oY,sQ⟩
      ·have h1:=tF _ hi;exact j6 _ _ (λe=>by have:=a4Y _ e;omega) (uc _ _ (by have:=a4T _ hi;omega) U (OE _ _ ho))
      ·rcases ho with ho|ho
       ·have:=tF _ ho;have:=a4T _ ho;exact .inr U
       ·have:=pB _ ho;have:=q2.lt ho;exact .inr U
    ·rw[nz] at ho;cases ho;exact⟨U,λh=>by rcases h with h|h;(have:=cw _ h;omega);omega⟩
    ·rcases ho with h|h
     ·have:=cw _ h;omega
     ·omega
 ·obtain⟨v,xs,X,⟨cm,bx,bz,fN,vD,_⟩,aq,Bs,gS,dG,jx,cw,M⟩:=aL;show bo _ _ _ _ _ _ _ _;refine ah.norm [(7,v)] ⟨fN,trivial⟩ λg=>?_;have H:Has τ []:=Has.nil;refine af ?_;exact ah.ret ⟨rfl,v,xs,X,rfl,aq,Bs,gS,dG,M⟩
end
abbrev y6(T:List a7)(R:List bw)(k:Nat)(cs:List (Nat×Nat)):List dC:=(List.range cs.length).map λi=>nI T R k i (cs.getD i (0,0))
structure Ej(b:bJ)(K:Nat->List AV->AV->Prop)(T:List a7)(R:List bw)(l:hz):Prop where
 G:hN T R
 A:OB T
 iz:∀x∈T,K pN [l.A true,.aj (fm true x.f)] (.b true)
 wW:∀x∈T,K pO [.aj (fm true x.f),.aj (fm true x.f)] (.b true)
 ap:∀k x,1<=k->T[k-1]? =some x->x.hyp=false->x.bH≠ep->∃cB fE ei ej au,K oO [(ib R x.bH).A,.aj (fm true x.f),hB (y6 T R k x.cs)] (.bg [.aj [cB,fE],.aj [uB ei,ag ej,ag au],ag 0])
 ls:∀J,bt J (b.bh+1000) (l.A true)=some (l.A true)
 rs:∀r∈R,∀J,bt J (b.bh+1000) r.A=some r.A
 OF:∀r∈R,∀J,bt J (b.bh+999) r.A=some r.A
 tr:∀k,1<=k->k<=T.length->Oy T R k
structure Ek(b:bJ)(K:Nat->List AV->AV->Prop):Prop where
 fn:∀g aO r bR,K g aO r->K g aO bR->r=bR
 bad:a3 (b.aF K) SC Sa
 dg:a3 (b.aF K) Dk Se
 cD:a3 (b.aF K) Dl Sf
 dn:a3 (b.aF K) Dm Sg
 e4:a3 (b.aF K) Dn Sh
 k4:a3 (b.aF K) Dp Si
 vx:a3 (b.aF K) Dq Sj
 got:a3 (b.aF K) MG LZ
 kU:a3 (b.aF K) MH LY
 c5f:b.ext pN=0/\b.pure pN=true
 c5g:b.ext pO=0/\b.pure pO=true
 app:b.ext oO=0/\b.pure oO=true
 CW:Ox b K
 qK:IP b K
section
variable {b:bJ}{K:Nat->List AV->AV->Prop}(hh:Ek b K){T:List a7}{R:List bw}{l:hz}(cw:Ej b K T R l){k:Nat}(hnd:tZ T k){x:a7}(hx:T[k-1]? =some x){J:ad}{q e0 g9 aI:Nat}{bv p lO:AV}{cs:List AV}(gV:tA T R true k= .aj cs)(fl:lN J p cs)
def OG{J:ad}{n:Nat}{F:Fm}(h:F.dep<=40)(hn:900<=n):bt J n (.aj (fm true F))=some (.aj (fm true F)):=by
 have:=Fm.snap J true _ F n (a8 _) U;rwa[sO] at this
include hh cw hnd gV fl in
theorem c5h(aH:J.get (q+1)=some (.cells [p])):bb (b.aF K) 0 (.f (.func Dk) [] [aw (q+1)]) [] J (λr τ=>r= .ok (.b false)/\cM J τ):=by
 refine W.code hh.dg.e hh.dg.p hh.dg.f (by cbv) I I I λz=>?_;have H:Has J [(q+1,[p])]:=Has.nil.cons aH ay;refine af ?_;refine W.bS I I I (c4L hh.kU cw.G hnd gV fl) λr τ ⟨e,M⟩=>⟨_,e,?_⟩
 refine af ?_;exact ah.ret ⟨rfl,rfl,M⟩
include hh cw hnd hx gV fl in
theorem c5i(h3:J.get q=some (.cells [aw e0]))(aH:J.get (q+1)=some (.cells [p]))(e9:J.get e0=some (.cells (nb l g9 aI bv)))(KG:e0<q):bb (b.aF K) 0 (.f (.func Dl) [] [aw q,aw (q+1)]) [] J (λr τ=>r= .ok (.b false)/\cM J τ):=by
 obtain⟨aW,dT,s,m,e⟩:=OC cw.G cw.A true k hnd.1 hnd.2.1;rw[gV] at e;cases e;have bL:lnfT T k=x.f:=by unfold lnfT;rw[hx]
 have kC:=eY hx;refine W.code hh.cD.e hh.cD.p hh.cD.f (by cbv) I I I λz=>?_;have H:Has J [(q,[aw e0]),(q+1,[p]),(e0,nb l g9 aI bv)]:=((Has.nil.cons e9 ay).cons aH (by simp;omega)).cons h3 (by simp;omega);have gn:=fl.eW;refine af ?_;refine W.eW gn (v:=.aj (fm true (lnfT T k))) I I I I I I I (λq=>⟨rfl,rfl⟩) λmP=>?_;refine W.et hh.fn hh.c5f (by rw[bL];exact cw.iz x kC) I I I (mT (cw.ls _) (OG (by rw[bL];exact cw.G.fd x kC) U)) ?_;refine af ?_;exact ah.ret ⟨rfl,rfl,a8 _,λ_ _ h=>h⟩
include hh cw hnd hx gV fl in
theorem c5j(h3:J.get q=some (.cells [aw e0]))(aH:J.get (q+1)=some (.cells [p]))(e9:J.get e0=some (.cells (nb l g9 aI bv)))(KG:e0<q){L:List Nat}(ue:ub T J aI L)(V5:x.hyp=true->k∈L):bb (b.aF K) 0 (.f (.func Dm) [] [aw (q+1),aw q]) [] J (λr τ=>r= .ok (.b false)/\cM J τ):=by
 obtain⟨dL,cX,m,e,No,ma,lC,mw⟩:=rP (R:=R) cw.G (k:=k) true hnd;rw[hx] at cX;cases cX;rw[gV] at e;cases e;have bL:lnfT T k=x.f:=by unfold lnfT;rw[hx]
 have kC:=eY hx;refine W.code hh.dn.e hh.dn.p hh.dn.f (by cbv) I I I λz=>?_;have H:Has J [(q,[aw e0]),(q+1,[p]),(e0,nb l g9 aI bv)]:=((Has.nil.cons e9 ay).cons aH (by simp;omega)).cons h3 (by simp;omega);have gn:=fl.eW;refine af ?_;refine W.eW gn (v:=.s x.bH) I I I I I I I (λq=>⟨rfl,rfl⟩) λmP=>?_;refine W.bin I I I I (yY _ _) ?_;cases h:x.hyp with
 |false=>
  rw[decide_eq_false λe=>by rw[ma.2 e] at h;cases h];refine af ?_;exact ah.ret ⟨rfl,rfl,a8 _,λ_ _ h=>h⟩
 |true=>
  rw[decide_eq_true (ma.1 h)];rw[h,if_pos I] at gn;refine af ?_;refine W.eW gn (v:=.aj (fm true x.f)) I I I I I I I (λq=>⟨rfl,rfl⟩) λrR=>?_;refine af ?_;refine W.eW gn (v:=ag k) I I I I I I I (λq=>⟨rfl,rfl⟩) λa4H=>?_;refine W.n2 (r:=some (.aj (fm true x.f))) ue I I I I I (by rw[Ec,if_pos (V5 h),bL]) ?_;refine W.et hh.fn hh.c5g (cw.wW x kC) I I I (mT (OG (cw.G.fd x kC) U) (OG (cw.G.fd x kC) U)) ?_;refine af ?_;exact ah.ret ⟨rfl,rfl,a8 _,λ_ _ h=>h⟩
include hh cw hnd hx gV fl in
theorem c5k(aH:J.get (q+1)=some (.cells [p])):bb (b.aF K) 0 (.f (.func Dn) [] [aw (q+1)]) [] J (λr τ=>r= .ok (.b false)/\cM J τ):=by
 obtain⟨dL,cX,m,e,No,ma,lC,mw⟩:=rP (R:=R) cw.G (k:=k) true hnd;rw[hx] at cX;cases cX;rw[gV] at e;cases e;have kC:=eY hx;refine W.code hh.e4.e hh.e4.p hh.e4.f (by cbv) I I I λz=>?_;have H:Has J [(q+1,[p])]:=Has.nil.cons aH ay;have gn:=fl.eW;refine af ?_;refine W.eW gn (v:=.s x.bH) I I I I I I I (λq=>⟨rfl,rfl⟩) λmP=>?_;refine W.bin I I I I (yY _ _) ?_;have ak:x.bH≠[63]:=λe=>by
  cases h:x.hyp with
  |true=>rw[ma.1 h] at e;cases e
  |false=>exact(cw.G.fR x kC h (hnd.2.2 x hx h)).2.2.2.2 e
 rw[decide_eq_false ak];refine af ?_;exact ah.ret ⟨rfl,rfl,a8 _,λ_ _ h=>h⟩
end
section
variable {b:bJ}{K:Nat->List AV->AV->Prop}(hh:Ek b K){J:ad}{q:Nat}
include hh
theorem c5l{xl et:Bool}(jH:J.get (q+4)=some (.cells [.b xl]))(ki:J.get (q+6)=some (.cells [.b et]))(h:xl=true->et=true):bb (b.aF K) 0 (.f (.func Dp) [] [aw (q+4),aw (q+6)]) [] J (λr τ=>r= .ok (.b false)/\cM J τ):=by
 refine W.code hh.k4.e hh.k4.p hh.k4.f (by cbv) I I I λz=>?_;have H:Has J [(q+4,[.b xl]),(q+6,[.b et])]:=(Has.nil.cons ki ay).cons jH ay;cases xl with
 |false=>
  refine af ?_;exact ah.ret ⟨rfl,rfl,a8 _,λ_ _ h=>h⟩
 |true=>
  rw[h I] at H;refine af ?_;exact ah.ret ⟨rfl,rfl,a8 _,λ_ _ h=>h⟩
end
def c5m{X:Nat->Prop}{J:ad}{n:Nat}{v:AV}{g:dC}(h:Bu X J v g)(h1:g.eE.dep<=40)(h2:∀x∈g.hyps,(x.getD j9).dep<=40)(h3:∀F∈g.rest,F.dep<=40)(hn:900<=n):bt J n v=some g.A:=by
 obtain⟨aq,gk,e,al,ak,_,jf,iH⟩:=h.ex;subst e;obtain⟨m,rfl⟩:∃m,n=m+3:=⟨n-3,U⟩
 have aa:∀F:Fm,F.dep<=40->∀m,500<=m->mapO (bt J m) (br F)=some (br F):=λF hd m hm=>by
  have:=Fm.snap J true _ F (m+1) (a8 _) U;rw[j4] at this;obtain⟨e5,aQ,aZ⟩:=CQ this;cases aZ;exact aQ
 refine oJ (rA (aa _ h1 _ U) ?_);have aM:bt J (m+2) aq=some (slA true (some 5) (g.hyps.map pV)):=Sl.tK (m:=m+1) al (λe=>jf (by simpa using e)) (by
  have:=vd (f:=bt J (m+1)) (g:=λx=>x) (l:=g.hyps.map pV) λy hy=>by
   obtain⟨F,vh,rfl⟩:=cT.1 hy;refine oJ ?_;rw[mapO_cons,aa _ (h2 F vh) m U];cases m with
   |zero=>omega
   |succ m=>rfl
  rwa[wJ] at this)
 have aU:bt J (m+2) gk=some (slA true (some 4) (g.rest.map λF=>.aj (br F))):=Sl.tK (m:=m+1) ak (λe=>iH (by simpa using e)) (by
  have:=vd (f:=bt J (m+1)) (g:=λx=>x) (l:=g.rest.map λF=>.aj (br F)) λy hy=>by
   obtain⟨F,vh,rfl⟩:=cT.1 hy;exact oJ (aa _ (h3 F vh) m U)
  rwa[wJ] at this)
 rw[mapO_cons,mapO_cons,aM,aU];rfl
def OH{T:List a7}{R:List bw}(G:hN T R)(k:Nat):(lnfT T k).dep<=40:=by
 unfold lnfT;split
 ·rename_i x hx;exact G.fd x (eY hx)
 ·rw[Fm.qu];decide
def c5n{T:List a7}{R:List bw}(G:hN T R){k i:Nat}{c:Nat×Nat}:(nI T R k i c).eE.dep<=40/\(∀x∈(nI T R k i c).hyps,(x.getD j9).dep<=40)/\∀F∈(nI T R k i c).rest,F.dep<=40:=by
 refine⟨OH G _,λx hx=>?_,λF bL=>?_⟩
 ·obtain⟨n,_,rfl⟩:=cT.1 hx;show(Option.getD (if n∈labS T R c.2 then some (lnfT T n) else none) j9).dep<=40;split
  ·exact OH G _
  ·show j9.dep<=40;rw[Fm.qu];decide
 ·obtain⟨n,_,rfl⟩:=cT.1 bL;exact OH G _
def c5o{T:List a7}{R:List bw}(G:hN T R){k:Nat}{cs:List (Nat×Nat)}{X:Nat->Prop}{J:ad}{v:AV}{xs:List AV}{n:Nat}(aq:Sl J (some 6) v xs)(a_:xs=[]->v= .nilsl)(hl:xs.length=cs.length)(hx:∀i (h:i<xs.length) (h':i<cs.length),Bu X J xs[i] (nI T R k i cs[i]))(hn:901<=n):bt J n v=some (hB (y6 T R k cs)):=by
 obtain⟨n,rfl⟩:∃m,n=m+1:=⟨n-1,U⟩
 refine Sl.tK aq a_ (sG (by simp[hl]) λi h1 h2=>?_);have h3:i<cs.length:=by omega
 have e:((y6 T R k cs).map dC.A)[i]'h2=(nI T R k i cs[i]).A:=by
  simp only[y6,ez,pg,jA h3]
 rw[e];obtain⟨aQ,aZ,bX⟩:=c5n G (k:=k) (i:=i) (c:=cs[i]);exact c5m (hx i h1 h3) aQ aZ bX U
def lN.eqb{T:List a7}{R:List bw}(G:hN T R){k:Nat}(h1:1<=k)(h2:k<=T.length){J:ad}{p:AV}{cs:List AV}(gV:tA T R true k= .aj cs)(fl:lN J p cs){n:Nat}(hn:300<=n):AV.eqb n p p=true:=by
 obtain⟨n,rfl⟩:∃m,n=m+1:=⟨n-1,U⟩
 rcases fl.is with e|⟨id,e,_⟩
 ·subst e;show((true==true)&&AV.eqb n (.aj cs) (.aj cs))=true;rw[Snp.eqb n (.aj cs) λJ=>by
   have:=Iy G (J:=J) true k h1 h2 n (by have:=G.lt;omega);rwa[gV] at this]
  rfl
 ·subst e;exact eo I
section
variable {b:bJ}{K:Nat->List AV->AV->Prop}(hh:Ek b K){T:List a7}{R:List bw}{l:hz}(cw:Ej b K T R l){k:Nat}(hnd:tZ T k){x:a7}(hx:T[k-1]? =some x){J:ad}{q e0 g9 aI:Nat}{bv p lO:AV}{cs:List AV}(gV:tA T R true k= .aj cs)(fl:lN J p cs)
include hh cw hnd hx gV fl in
theorem c5p(h3:J.get q=some (.cells [aw e0]))(aH:J.get (q+1)=some (.cells [p]))(bT:J.get (q+2)=some (.cells [lO])){xl:Bool}(jH:J.get (q+4)=some (.cells [.b xl]))(qY:xl=true->x.hyp=false){rc:List AV}(lZ:J.get (q+5)=some (.cells rc))(Bn:xl=true->rc=(ib R x.bH).A.cells){bG:List AV}(CJ:J.get (q+7)=some (.cells bG))(hU:bG.length=3)
  (e9:J.get e0=some (.cells (nb l g9 aI bv))) (KG:e0<q) {L:List Nat} (ue:ub T J aI L) (hL:∀c∈x.cs,∀n∈labS T R c.2,n∈L) (ct:y4 T R J lO x.cs x.cs.length) (d1V:lO.lf=true):
  bb (b.aF K) 0 (.f (.func Dq) [] [aw (q+4),aw (q+5),aw (q+1),aw q,aw (q+2),aw (q+7)]) [] J (λr τ=>r= .ok (.b false)/\(∃bG,τ.get (q+7)=some (.cells bG)/\bG.length=3)/\J.next<=τ.next/\∀i o,i≠q+7->J.get i=some o->τ.get i=some o):=by
 refine W.code hh.vx.e hh.vx.p hh.vx.f (by cbv) I I I λz=>?_;cases xl with
 |false=>
  have H:Has J [(q+4,[.b false])]:=Has.nil.cons jH ay;refine af ?_;exact ah.ret ⟨rfl,rfl,⟨bG,CJ,hU⟩,a8 _,λ_ _ _ h=>h⟩
 |true=>
  have na:=qY I;have tY:=hnd.2.2 x hx na;have c5q:=Bn I;subst c5q;have kC:=eY hx;obtain⟨D4,sQ,c3m,k9,kx⟩:=cw.G.fR x kC na tY;obtain⟨cB,fE,ei,ej,au,QK⟩:=cw.ap k x hnd.1 hx na tY;have bL:lnfT T k=x.f:=by unfold lnfT;rw[hx]
  obtain⟨aW,dT,s,m,e⟩:=OC cw.G cw.A true k hnd.1 hnd.2.1;have k7:=λn (hn:300<=n)=>fl.eqb cw.G hnd.1 hnd.2.1 gV hn;have H:Has J [(q+4,[.b true]),(q+5,(ib R x.bH).A.cells),(q+1,[p]),(q,[aw e0]),(q+2,[lO])]:=((((Has.nil.cons bT ay).cons h3 ay).cons aH ay).cons lZ ay).cons jH ay;refine af ?_;refine W.jK (v:=(ib R x.bH).A) H I I I (.tail _ (.head _)) I (Snp.eqb _ _ (cw.rs _ D4)) ?_;refine W.jK (v:=p) H I I I (.tail _ (.tail _ (.head _))) I (k7 _ (by show 300<=b.bh+1000;omega)) ?_;rw[gV] at e;cases e;refine W.Om fl.i aH (v:=.aj (fm true (lnfT T k))) I I I I I I I I (VO false true (OH cw.G k) (Aa _ _)) (λq=>⟨rfl,rfl⟩) λmP id c kz=>?_;refine af ?_;refine W.bS I I I (c4O hh.fn hh.got hh.CW hh.qK cw.G cw.A hnd hx hL (λc aa=>by
   obtain⟨aQ,aZ⟩:=Eg cw.G hnd hx aa;exact cw.tr _ aQ (by have:=hnd.2.1;omega)) gV fl e9 ue ct) λr τ ⟨gm,xs,X,e,ri,c5r,lG,NA,M⟩=>⟨_,e,?_⟩
  refine W.now (_::_::_::[]) [] I I ⟨M.2 _ _ kz,M.2 _ _ aH,M.2 _ _ lZ,trivial⟩ ?_;have H:Has τ [(q+7,bG)]:=Has.nil.cons (M.2 _ _ CJ) ay;rw[bL];refine W.et hh.fn hh.app QK I I I (CN (cw.rs _ D4 _) (OG (cw.G.fd x kC) U) (c5o cw.G ri c5r lG NA U)) ?_;refine af ?_;obtain⟨f0,f1,f2,rfl⟩:∃f0 f1 f2,bG=[f0,f1,f2]:=by
   match bG,hU with
   |[f0,f1,f2],_=>exact⟨_,_,_,rfl⟩
  refine W.st (bc:=[uB ei,ag ej,ag au]) H 0 I I I I I I λa5 c6 H bj=>?_;refine af ?_;exact ah.ret ⟨rfl,rfl,⟨_,H.qx,rfl⟩,by have:=M.1;omega,λi o hi ho=>bj _ _ hi (M.2 _ _ ho)⟩
end
def lN.gf{J:ad}{p:AV}{cs:List AV}(h:lN J p cs):p.cells=[p]/\p.val=true/\conf none p=true:=by
 rcases h.is with e|⟨id,e,_⟩<;>subst e<;>exact⟨rfl,rfl,rfl⟩
def a4Z{n:Nat}{c:List AV}(ok:Bool)(h:AV.eqb (n+1) (.aj c) (.aj c)=true):AV.eqb (n+2) (v2 true (.aj c) ok) (v2 true (.aj c) ok)=true:=(pK λy hy=>by
 have hy:y= .aj c\/y= .b ok:=by simpa using hy
 rcases hy with rfl|rfl
 ·exact h
 ·exact eo rfl:gu (AV.eqb (n+1)) [AV.aj c,.b ok] [AV.aj c,.b ok]=true)
def a5a(a c:List Nat):binop .neq (.s a) (.s c)=some (.b (!decide (a=c))):=by
 show some (AV.b (!eqL a c))=_;rw[Hv]
abbrev IU:List AV:=[.s [],.nilsl,.i .u8 0,.s [],.nilsl,.nilsl]
section
variable {b:bJ}{K:Nat->List AV->AV->Prop}(hh:Ek b K){T:List a7}{R:List bw}{l:hz}(cw:Ej b K T R l){k:Nat}(hnd:tZ T k){x:a7}(hx:T[k-1]? =some x){J:ad}{e0 g9 aI oM:Nat}{bv p lO:AV}{cs:List AV}(gV:tA T R true k= .aj cs)(fl:lN J p cs)
include hh cw hnd hx gV fl in
theorem c5s(e9:J.get e0=some (.cells (nb l g9 aI bv)))(sS:J.get g9=some (.map (p2 0 R) oM)){L:List Nat}(ue:ub T J aI L)(V5:x.hyp=true->k∈L)(hL:∀c∈x.cs,∀n∈labS T R c.2,n∈L)(ct:y4 T R J lO x.cs x.cs.length):
  bb (b.aF K) 0 (.f (.func SC) [] []) [aw e0,p,lO] J (λr τ=>∃f0 f1 f2,r= .ok (.bg [.i .u8 0,.aj [f0,f1,f2]])/\cM J τ):=by
 obtain⟨dL,cX,m,e,No,ma,lC,mw⟩:=rP (R:=R) cw.G (k:=k) true hnd;rw[hx] at cX;cases cX;have vA:=gV;rw[gV] at e;cases e;have kC:=eY hx;have c5t:=ct;obtain⟨gp,fp,fM,jY,mR,eH⟩:=c5t;obtain⟨c5u,c5v,d1W⟩:=fl.gf;have c5c:=ad.a9 e9;refine W.m3 hh.bad.e hh.bad.p hh.bad.f (by cbv) I I λz=>?_;have H:Has J [(e0,nb l g9 aI bv)]:=Has.nil.cons e9 ay;refine af ?_;generalize aS:J.next=q at *;refine W.bN (c:=[aw e0]) H aS I I I I I λcx cy H bl=>?_;refine af ?_;refine W.bN (c:=[p]) H cy I I I c5v c5u λa5 c6 H bj=>?_;refine af ?_;refine W.bN (c:=[lO]) H c6 I I I fM.G5 fM.j3 λbu dx H k3=>?_;refine af ?_;refine W.b6 (c:=[.i .u8 0,ag 0,ag 0]) H dx I I I λb3 eC H bI=>?_;have mB:∀i o,J.get i=some o->b3.get i=some o:=λi o ho=>bI _ _ (k3 _ _ (bj _ _ (bl _ _ ho)));refine W.nil ?_;refine W.sq ?_;refine W.u6 (α:=Unit) (λ_=>[(3,aw q),(4,aw (q+1)),(5,aw (q+2)),(6,.i .u8 0),(7,aw (q+3)),(8,aw (q+4))]) (λ_ τ=>Has τ [(q+4,[.b (!x.hyp)]),(q+3,[.i .u8 0,ag 0,ag 0]),(q+2,[lO]),(q+1,[p]),(q,[aw e0]),(e0,nb l g9 aI bv)]/\τ.next=q+5/\∀i o,J.get i=some o->τ.get i=some o) ?_ ?_
 ·have gn:=(fl.aD mB).eW;refine af ?_;refine W.eW gn (v:=.s x.bH) I I I I I I I (λq=>⟨rfl,rfl⟩) λmP=>?_;refine W.bin I I I I (a5a _ _) ?_;cases na:x.hyp with
  |true=>
   rw[decide_eq_true (ma.1 na)];refine af ?_;refine W.b6 (c:=[.b false]) H eC I I I λcW gw H cP=>?_;refine af ?_;refine W.st (bc:=[.b false]) H 0 I I I I I I λdr h5 H dI=>?_;refine af ?_;exact⟨rfl,(),⟨H,U,λi o ho=>dI _ _ (by have:=ad.a9 ho;omega) (cP _ _ (mB _ _ ho))⟩,dm⟩
  |false=>
   obtain⟨_,_,_,k9,kx⟩:=cw.G.fR x kC na (hnd.2.2 x hx na);rw[decide_eq_false k9];refine af ?_;refine W.eW gn (v:=.s x.bH) I I I I I I I (λq=>⟨rfl,rfl⟩) λmP=>?_;refine W.bin I I I I (a5a _ _) ?_;rw[decide_eq_false kx];refine af ?_;refine W.b6 (c:=[.b false]) H eC I I I λcW gw H cP=>?_;refine af ?_;refine W.st (bc:=[.b true]) H 0 I I I I I I λdr h5 H dI=>?_;refine af ?_;exact⟨rfl,(),⟨H,U,λi o ho=>dI _ _ (by have:=ad.a9 ho;omega) (cP _ _ (mB _ _ ho))⟩,dm⟩
 ·rintro _ g dr ⟨H,h5,rS⟩;refine W.sq ?_;have OI:=rS _ _ sS;refine W.u6 (α:=Unit) (λ_=>[(3,aw q),(4,aw (q+1)),(5,aw (q+2)),(6,.i .u8 0),(7,aw (q+3)),(8,aw (q+4)),(9,aw (q+5)),(10,aw (q+6))]) (λ_ τ=>∃rc et,Has τ [(q+6,[.b et]),(q+5,rc),(q+4,[.b (!x.hyp)]),(q+3,[.i .u8 0,ag 0,ag 0]),(q+2,[lO]),(q+1,[p]),(q,[aw e0]),(e0,nb l g9 aI bv)]/\(x.hyp=false->rc=(ib R x.bH).A.cells/\et=true)/\τ.next=q+7/\∀i o,J.get i=some o->τ.get i=some o) ?_ ?_
  ·have a5b:=fl.aD rS;have k7:AV.eqb (b.aF K).bh p p=true:=a5b.eqb cw.G hnd.1 hnd.2.1 vA (by show 300<=b.bh+1000;omega);refine af ?_;refine W.jK (v:=p) H I I I (.tail _ (.tail _ (.tail _ (.head _)))) I k7 ?_;refine W.Om a5b.i (H.qx) (v:=.s x.bH) I I I I I I I I (eo I) (λq=>⟨rfl,rfl⟩) λmP id c kz=>?_;have bE:(R.find? λr=>decide (r.aW=x.bH))=none/\x.hyp=true\/∃hZ,(R.find? λr=>decide (r.aW=x.bH))=some hZ/\hZ∈R/\(x.hyp=false->hZ=ib R x.bH):=by
    cases hf:R.find? λr=>decide (r.aW=x.bH) with
    |none=>
     refine .inl ⟨rfl,?_⟩;cases na:x.hyp with
     |true=>rfl
     |false=>
      obtain⟨aQ,aZ,_⟩:=cw.G.fR x kC na (hnd.2.2 x hx na);rw[Vi aQ aZ] at hf;cases hf
    |some hZ=>
     refine .inr ⟨hZ,rfl,List.mem_of_find?_eq_some hf,λna=>?_⟩;obtain⟨aQ,aZ,_⟩:=cw.G.fR x kC na (hnd.2.2 x hx na);rw[Vi aQ aZ] at hf;cases hf;rfl
   have Ed:=Vf x.bH R 0;rcases bE with⟨hf,na⟩|⟨hZ,hf,D4,gQ⟩
   ·rw[hf] at Ed;refine W.On (r:=none) OI I I I I I Ed (a4Z (n:=b.bh+998) (c:=IU) false (tN λy hy=>by
     simp only[c2,hj,or_false] at hy;rcases hy with rfl|rfl|rfl|rfl|rfl|rfl<;>exact eo I)) ?_
    refine af ?_;refine W.b6 (c:=IU) H h5 I I I λeT j0 H fZ=>?_;refine af ?_;refine W.b6 (c:=[.b false]) H j0 I I I λeV oD H j8=>?_;have qD:∀i o,dr.get i=some o->eV.get i=some o:=λi o ho=>j8 _ _ (fZ _ _ ho);refine W.now (_::_::_::_::_::[]) [] I I ⟨qD _ _ OI,qD _ _ kz,H.b5u,H.b5w,H.b5v,trivial⟩ ?_;refine W.st (bc:=IU) H 1 I I I I I I λhv oE H hH=>?_;refine af ?_;refine W.st (bc:=[.b false]) H 0 I I I I I I λfu mr H ca=>?_;refine af ?_;exact⟨rfl,(),⟨IU,false,H,(λh=>by rw[na] at h;cases h),U,λi o ho=>ca _ _ (by have:=ad.a9 ho;omega) (hH _ _ (by have:=ad.a9 ho;omega) (qD _ _ (rS _ _ ho)))⟩,dm⟩
   ·rw[hf] at Ed;refine W.On (r:=some hZ.A) OI I I I I I Ed (a4Z (n:=b.bh+998) (c:=hZ.A.cells) true (Snp.eqb (b.bh+999) hZ.A (cw.OF hZ D4))) ?_;refine af ?_;refine W.b6 (c:=IU) H h5 I I I λeT j0 H fZ=>?_;refine af ?_;refine W.b6 (c:=[.b false]) H j0 I I I λeV oD H j8=>?_;have qD:∀i o,dr.get i=some o->eV.get i=some o:=λi o ho=>j8 _ _ (fZ _ _ ho);refine W.now (_::_::_::_::_::[]) [] I I ⟨qD _ _ OI,qD _ _ kz,H.b5u,H.b5w,H.b5v,trivial⟩ ?_;refine W.st (bc:=hZ.A.cells) H 1 I I I I I I λhv oE H hH=>?_;refine af ?_;refine W.st (bc:=[.b true]) H 0 I I I I I I λfu mr H ca=>?_;refine af ?_;exact⟨rfl,(),⟨hZ.A.cells,true,H,(λh=>by rw[gQ h];exact⟨rfl,rfl⟩),U,λi o ho=>ca _ _ (by have:=ad.a9 ho;omega) (hH _ _ (by have:=ad.a9 ho;omega) (qD _ _ (rS _ _ ho)))⟩,dm⟩
  ·rintro _ g eT ⟨rc,et,H,Bn,j0,tI⟩;refine af ?_;refine W.b6 (c:=[.i .u8 0,ag 0,ag 0]) H j0 I I I λeV oD H j8=>?_;refine af ?_;refine W.bV (c:=[.i .u8 2,.f (.func Dk) [] [aw (q+1)],.i .u8 3,.f (.func Dl) [] [aw q,aw (q+1)],.i .u8 4,.f (.func Dm) [] [aw (q+1),aw q],.i .u8 5,.f (.func Dn) [] [aw (q+1)],.i .u8 6,.f (.func Dp) [] [aw (q+4),aw (q+6)],.i .u8 7,.f (.func Dq) [] [aw (q+4),aw (q+5),aw (q+1),aw q,aw (q+2),aw (q+7)]]) H I I I I λhv oE H hH=>?_;refine af ?_;have y7:=H;have CJ:=H.x7;show bo _ _ _ _ _ _ _ _;have A5:∀i o,J.get i=some o->hv.get i=some o:=λi o ho=>hH _ _ (j8 _ _ (tI _ _ ho));refine ah.each 6 (λj f τ=>(∃bG,τ.get (q+7)=some (.cells bG)/\bG.length=3)/\(∀i o,i≠q+7->hv.get i=some o->τ.get i=some o)/\hv.next<=τ.next/\sat [(7,aw (q+3)),(11,aw (q+7)),(52,.ao (q+8) 0 6 (some 2) (some 6))] f) U ⟨⟨_,CJ,rfl⟩,λ_ _ _ h=>h,a8 _,?_⟩ I I (λj g τ aA aL fF fi=>?_) (λg τ aL fF=>?_)
   ·exact⟨rfl,rfl,(by show AV.ao eV.next 0 6 (some 2) (some 6)=_;rw[oD]),trivial⟩
   ·obtain⟨⟨bG,hU,du⟩,bA,jj,fN,u9,a5c,_⟩:=aL;refine ah.norm [(7,aw (q+3)),(11,aw (q+7)),(52,.ao (q+8) 0 6 (some 2) (some 6)),(54,ag j),(53,ag 6)] ⟨fN,u9,a5c,fF,fi,trivial⟩ λg=>?_;have Vl:=bA _ _ U (y7.qx);have Ir:=bA _ _ U (y7.Ag);have HP:=bA _ _ U (y7.CX);have wQ:=bA _ _ U (y7.Lq);have lx:=bA _ _ U (y7.b5v);have jX:=bA _ _ U (y7.b5w);have V6:=bA _ _ U (y7.b5y);have aR:∀i o,J.get i=some o->τ.get i=some o:=λi o ho=>bA _ _ (by have:=ad.a9 ho;omega) (A5 _ _ ho);have qY:(!x.hyp)=true->x.hyp=false:=λh=>by simpa using h
    have c5w:(!x.hyp)=true->rc=(ib R x.bH).A.cells:=λh=>(Bn (qY h)).1;have uK:(!x.hyp)=true->et=true:=λh=>(Bn (qY h)).2;rw[oD] at Vl;have H:Has τ [(q+8,[.i .u8 2,.f (.func Dk) [] [aw (q+1)],.i .u8 3,.f (.func Dl) [] [aw q,aw (q+1)],.i .u8 4,.f (.func Dm) [] [aw (q+1),aw q],.i .u8 5,.f (.func Dn) [] [aw (q+1)],.i .u8 6,.f (.func Dp) [] [aw (q+4),aw (q+6)],.i .u8 7,.f (.func Dq) [] [aw (q+4),aw (q+5),aw (q+1),aw q,aw (q+2),aw (q+7)]])]:=Has.nil.cons Vl ay;rcases(show j=0\/j=1\/j=2\/j=3\/j=4\/j=5 by omega) with rfl|rfl|rfl|rfl|rfl|rfl
    ·refine af ?_;refine W.b6 (c:=[.i .u8 0,.hD]) H I I I I λh9 dc H c_=>?_;refine af ?_;refine W.st (bc:=[.i .u8 2,.f (.func Dk) [] [aw (q+1)]]) H 0 I I I I I I λg8 ne H j6=>?_;have kw:∀i o,τ.get i=some o->g8.get i=some o:=λi o ho=>j6 _ _ (by have:=ad.a9 ho;omega) (c_ _ _ ho);have og:∀i o,J.get i=some o->g8.get i=some o:=λi o ho=>kw _ _ (aR _ _ ho);refine af ?_;refine W.bS I I I (c5h hh cw hnd vA (fl.aD og) (kw _ _ jX)) λr n7 ⟨e,M⟩=>⟨_,e,?_⟩
     refine af ?_;exact⟨rfl,rfl,⟨bG,M.2 _ _ (kw _ _ hU),du⟩,λi o hi ho=>M.2 _ _ (kw _ _ (bA _ _ hi ho)),by have:=M.1;omega,dm⟩
    ·refine af ?_;refine W.b6 (c:=[.i .u8 0,.hD]) H I I I I λh9 dc H c_=>?_;refine af ?_;refine W.st (bc:=[.i .u8 3,.f (.func Dl) [] [aw q,aw (q+1)]]) H 0 I I I I I I λg8 ne H j6=>?_;have kw:∀i o,τ.get i=some o->g8.get i=some o:=λi o ho=>j6 _ _ (by have:=ad.a9 ho;omega) (c_ _ _ ho);have og:∀i o,J.get i=some o->g8.get i=some o:=λi o ho=>kw _ _ (aR _ _ ho);refine af ?_;refine W.bS I I I (c5i hh cw hnd hx vA (fl.aD og) (kw _ _ V6) (kw _ _ jX) (og _ _ e9) U) λr n7 ⟨e,M⟩=>⟨_,e,?_⟩
     refine af ?_;exact⟨rfl,rfl,⟨bG,M.2 _ _ (kw _ _ hU),du⟩,λi o hi ho=>M.2 _ _ (kw _ _ (bA _ _ hi ho)),by have:=M.1;omega,dm⟩
    ·refine af ?_;refine W.b6 (c:=[.i .u8 0,.hD]) H I I I I λh9 dc H c_=>?_;refine af ?_;refine W.st (bc:=[.i .u8 4,.f (.func Dm) [] [aw (q+1),aw q]]) H 0 I I I I I I λg8 ne H j6=>?_;have kw:∀i o,τ.get i=some o->g8.get i=some o:=λi o ho=>j6 _ _ (by have:=ad.a9 ho;omega) (c_ _ _ ho);have og:∀i o,J.get i=some o->g8.get i=some o:=λi o ho=>kw _ _ (aR _ _ ho);refine af ?_;refine W.bS I I I (c5j hh cw hnd hx vA (fl.aD og) (kw _ _ V6) (kw _ _ jX) (og _ _ e9) U (og _ _ ue) V5) λr n7 ⟨e,M⟩=>⟨_,e,?_⟩
     refine af ?_;exact⟨rfl,rfl,⟨bG,M.2 _ _ (kw _ _ hU),du⟩,λi o hi ho=>M.2 _ _ (kw _ _ (bA _ _ hi ho)),by have:=M.1;omega,dm⟩
    ·refine af ?_;refine W.b6 (c:=[.i .u8 0,.hD]) H I I I I λh9 dc H c_=>?_;refine af ?_;refine W.st (bc:=[.i .u8 5,.f (.func Dn) [] [aw (q+1)]]) H 0 I I I I I I λg8 ne H j6=>?_;have kw:∀i o,τ.get i=some o->g8.get i=some o:=λi o ho=>j6 _ _ (by have:=ad.a9 ho;omega) (c_ _ _ ho);have og:∀i o,J.get i=some o->g8.get i=some o:=λi o ho=>kw _ _ (aR _ _ ho);refine af ?_;refine W.bS I I I (c5k hh cw hnd hx vA (fl.aD og) (kw _ _ jX)) λr n7 ⟨e,M⟩=>⟨_,e,?_⟩
     refine af ?_;exact⟨rfl,rfl,⟨bG,M.2 _ _ (kw _ _ hU),du⟩,λi o hi ho=>M.2 _ _ (kw _ _ (bA _ _ hi ho)),by have:=M.1;omega,dm⟩
    ·refine af ?_;refine W.b6 (c:=[.i .u8 0,.hD]) H I I I I λh9 dc H c_=>?_;refine af ?_;refine W.st (bc:=[.i .u8 6,.f (.func Dp) [] [aw (q+4),aw (q+6)]]) H 0 I I I I I I λg8 ne H j6=>?_;have kw:∀i o,τ.get i=some o->g8.get i=some o:=λi o ho=>j6 _ _ (by have:=ad.a9 ho;omega) (c_ _ _ ho);have og:∀i o,J.get i=some o->g8.get i=some o:=λi o ho=>kw _ _ (aR _ _ ho);refine af ?_;refine W.bS I I I (c5l hh (kw _ _ wQ) (kw _ _ Ir) uK) λr n7 ⟨e,M⟩=>⟨_,e,?_⟩
     refine af ?_;exact⟨rfl,rfl,⟨bG,M.2 _ _ (kw _ _ hU),du⟩,λi o hi ho=>M.2 _ _ (kw _ _ (bA _ _ hi ho)),by have:=M.1;omega,dm⟩
    ·refine af ?_;refine W.b6 (c:=[.i .u8 0,.hD]) H I I I I λh9 dc H c_=>?_;refine af ?_;refine W.st (bc:=[.i .u8 7,.f (.func Dq) [] [aw (q+4),aw (q+5),aw (q+1),aw q,aw (q+2),aw (q+7)]]) H 0 I I I I I I λg8 ne H j6=>?_;have kw:∀i o,τ.get i=some o->g8.get i=some o:=λi o ho=>j6 _ _ (by have:=ad.a9 ho;omega) (c_ _ _ ho);have og:∀i o,J.get i=some o->g8.get i=some o:=λi o ho=>kw _ _ (aR _ _ ho);refine af ?_;refine W.bS I I I (c5p hh cw hnd hx vA (fl.aD og) (kw _ _ V6) (kw _ _ jX) (kw _ _ lx) (kw _ _ wQ) qY (kw _ _ HP) c5w (kw _ _ hU) du (og _ _ e9) U (og _ _ ue) hL ⟨gp,fp,fM.aD (λi o _=>og i o),jY,mR,λi h h'=>(eH i h h').aD og⟩ fM.lf) λr n7 ⟨e,⟨c5x,c5y,c5z⟩,cV,ji⟩=>⟨_,e,?_⟩
     refine af ?_;exact⟨rfl,rfl,⟨c5x,c5y,c5z⟩,λi o hi ho=>ji _ _ hi (kw _ _ (bA _ _ hi ho)),U,dm⟩
   ·obtain⟨⟨bG,hU,du⟩,bA,jj,fN,u9,a5c,_⟩:=aL;show bo _ _ _ _ _ _ _ _;refine ah.norm [(7,aw (q+3)),(11,aw (q+7))] ⟨fN,u9,trivial⟩ λg=>?_;have H:Has τ [(q+7,bG),(q+3,[.i .u8 0,ag 0,ag 0])]:=(Has.nil.cons (bA _ _ U (y7.b5u)) ay).cons hU ay;obtain⟨f0,f1,f2,rfl⟩:∃f0 f1 f2,bG=[f0,f1,f2]:=by
     match bG,du with
     |[f0,f1,f2],_=>exact⟨_,_,_,rfl⟩
    refine af ?_;refine W.st (bc:=[f0,f1,f2]) H 1 I I I I I I λfu mr H ca=>?_;refine af ?_;exact ah.ret ⟨rfl,_,jN (jn I) (gl I (H.x7) I),f0,f1,f2,rfl,U,λi o ho=>ca _ _ (by have:=ad.a9 ho;omega) (bA _ _ (by have:=ad.a9 ho;omega) (A5 _ _ ho))⟩
end
section
variable {b:bJ}{K:Nat->List AV->AV->Prop}(hh:Ek b K){T:List a7}{R:List bw}{l:hz}(cw:Ej b K T R l)
include hh cw in
theorem c5A(hw:a3 (b.aF K) MF LH){L:List Nat}:∀k,1<=k->k<=T.length->(∀j∈prt T k,∀y,T[j-1]? =some y->y.hyp=true->j∈L)->∀ {J:ad} {e0 g9 aI oM:Nat} {bv p El:AV} {cs:List AV} {pl:List Nat},tA T R true k= .aj cs->lN J p cs->J.get e0=some (.cells (nb l g9 aI bv))->J.get g9=some (.map (p2 0 R) oM)->ub T J aI L->eL J El pl->pl.length+msr T 0 fo k<=80→
  bb (b.aF K) 0 (.f (.func MF) [] []) [aw e0,p,El] J (λr τ=>∃bf aR,r= .ok (.m (some bf))/\mC T R τ bf k aR/\J.next<=bf/\cM J τ):=λk=>by
 induction k using Nat.strongRecOn with
 |ind cO VU=>
 intro VV VW V7;obtain⟨k,u_,hnd,VX,IQ,k7,c5B⟩:=Ot (R:=R) cw.G cO VV VW;have aC:=λj (aA:j<k)=>VU j U;have c0:∀ {τ bf aR},mC T R τ bf k aR->mC T R τ bf cO aR:=λh=>⟨h.set,h.dc,λc=>by rw[IQ];exact h.is c⟩
 intro J e0 g9 aI oM bv p El cs pl vA fl e9 sS ue Oh m4;have gV:tA T R true k= .aj cs:=by rw[<-VX true];exact vA
 rw[k7] at V7;rw[c5B] at m4;obtain⟨x,hx,m,e,aH,ma,lC,mw⟩:=rP (R:=R) cw.G (k:=k) true hnd;have a5d:=gV;rw[gV] at e;cases e;have dM:=λc aa=>Eg cw.G hnd hx (c:=c) aa;have Og:prt T k=k::x.cs.flatMap λc=>prt T c.2:=by
  cases h:x.hyp with
  |true=>rw[IH hx h,(lC h).1];rfl
  |false=>exact IJ cw.G hnd.1 hx h (hnd.2.2 x hx h)
 have c5C:x.hyp=true->k∈L:=λh=>V7 k (by rw[Og];exact k1) x hx h;have a5e:∀c∈x.cs,∀j∈prt T c.2,∀y,T[j-1]? =some y->y.hyp=true->j∈L:=λc aa j aA=>V7 j (by rw[Og];exact g1 _ (uo.2 ⟨c,aa,aA⟩));have c5D:∀c∈x.cs,∀n∈labS T R c.2,n∈L:=λc aa n hn=>by
  obtain⟨aQ,aZ⟩:=dM c aa;obtain⟨dg,y,cD,dn⟩:=Eh cw.G c.2 aQ (by have:=hnd.2.1;omega) n hn;exact a5e c aa n dg y cD dn
 have wm:∀c∈x.cs,msr T 0 fo c.2+1<=msr T 0 fo k:=λc aa=>a4o cw.G hnd.1 hx (λe=>by
  cases h:x.hyp with
  |true=>rw[(lC h).1] at aa;simp at aa
  |false=>exact hnd.2.2 x hx h e) aa
 refine W.code hw.e hw.p hw.f (by cbv) I I I λz=>?_;have H:Has J []:=Has.nil;have gn:=fl.eW;refine af ?_;refine W.eW gn (v:=slA true (some 8) (x.cs.map λc:Nat×Nat=>tA T R true c.2)) I I I I I I m2 (λq=>⟨rfl,rfl⟩) λmP=>?_;refine af ?_;show bo _ _ _ _ _ _ _ _;refine ah.each x.cs.length (λj f τ=>∃(v:AV) (gp:List Nat) (fp:List (List Nat)),sat [(0,aw e0),(1,p),(2,El),(7,v)] f/\Sl τ none v (gp.map λm=>AV.m (some m))/\gp.length=j/\fp.length=j/\(∀i (h:i<gp.length) (h':i<fp.length),mC T R τ gp[i] (x.cs.getD i (0,0)).2 fp[i])/\(∀o,v.at? =some o->J.next<=o)/\cM J τ) U ⟨.nilsl,[],[],dm,.nil,rfl,rfl,(λi h=>by simp at h),(λ_ h=>by cases h),a8 _,λ_ _ h=>h⟩ I I (λj g τ aA aL fF fi=>?_) (λg τ aL fF=>?_)
 ·obtain⟨v,gp,fp,⟨cm,bx,bz,fN,_⟩,aq,jY,mR,eH,jx,M⟩:=aL;refine ah.norm [(0,aw e0),(1,p),(2,El),(7,v),(16,ag j),(15,ag x.cs.length)] ⟨cm,bx,bz,fN,fF,fi,trivial⟩ λg=>?_;have H:Has τ []:=Has.nil;have OJ:=fl.aD M.2;refine af ?_;refine W.Om OJ.i (M.2 _ _ e9) (v:=slA true (some 8) (x.cs.map λc:Nat×Nat=>tA T R true c.2)) I I I I I I I m2 (Snp.eqb (b.bh+1000) _ λJ=>N6 (n:=b.bh+999) (f:=λc:Nat×Nat=>tA T R true c.2) (g:=λc:Nat×Nat=>tA T R true c.2) λc aa=>Iy cw.G true c.2 (dM c aa).1 (by have:=(dM c aa).2;have:=hnd.2.1;omega) _ (by have:=cw.G.lt;have:=(dM c aa).2;have:=hnd.2.1;omega)) (λq=>⟨rfl,rfl⟩) λmP id c kz=>?_;obtain⟨mx,l8⟩:=dM _ (bC aA);obtain⟨Bq,Bd,Oj,iV,aP,hO⟩:=xf cw.G true _ mx (by have:=hnd.2.1;omega);have n_:x.cs.getD j (0,0)=x.cs[j]:=jA aA;have d1X:=wm _ (bC aA);have c5E:=a5e _ (bC aA);have cV:=M.1;refine af ?_;generalize x.cs[j]=dd at *;rw[hO];refine af ?_;refine W.bV (c:=[ag j]) H I I I I λcx cy H bl=>?_;refine W.now (_::[]) [(12,id,.cells c),(13,id,.cells c)] I I ⟨bl _ _ kz,trivial⟩ ?_;have c5F:∀i o,J.get i=some o->cx.get i=some o:=λi o ho=>bl _ _ (M.2 _ _ ho);refine W.bS I I I (a1G hh.qK.hf (Oh.aD λi o _=>c5F i o) U) λr a5 ⟨pM,e,Ft,M2⟩=>⟨_,e,?_⟩
  refine W.now (_::[]) [(13,id,.cells c)] I I ⟨M2.2 _ _ (bl _ _ kz),trivial⟩ ?_;have g4:=M2.2 _ _ (H.qx);refine W.ap (w:=.ao τ.next 0 1 none (some 1)) (ag j) [] Ft.ao (by show(match a5.get τ.next with|some (.cells c)=>elems none 1 (c.drop 0)|_=>none)=_;rw[g4];rfl) (λz a_=>by rw[cA.1 a_];rfl) (by rw[bB];show(3*(pl.length+1)+2000)*8<=_;omega) I I I I λd1Y bu c5G kS _ dx k3=>?_;have aY:∀i o,i<cx.next->a5.get i=some o->bu.get i=some o:=λi o hi ho=>k3 _ _ (λe=>by have:=Ft.c1 _ e;omega) ho;have yz:∀i o,τ.get i=some o->bu.get i=some o:=λi o ho=>aY _ _ (by have:=ad.a9 ho;omega) (M2.2 _ _ (bl _ _ ho));refine W.now (_::[]) [] I I ⟨yz _ _ kz,trivial⟩ ?_;have V8:∀i o,J.get i=some o->bu.get i=some o:=λi o ho=>yz _ _ (M.2 _ _ ho);refine W.bS I I I (aC dd.2 l8 mx (by have:=hnd.2.1;omega) c5E (J:=bu) (pl:=pl++[j]) hO ⟨rfl,.inl I⟩ (V8 _ _ e9) (V8 _ _ sS) (V8 _ _ ue) (by unfold eL;rw[gO];exact c5G) (by rw[c5,Nr];omega)) λr b3 ⟨bf,aR,e,hL,sP,eS⟩=>⟨_,e,?_⟩
  have ji:=M2.1;have DA:=eS.1;have mB:∀i o,τ.get i=some o->b3.get i=some o:=λi o ho=>eS.2 _ _ (yz _ _ ho);refine W.pu (.m (some bf)) (aq.aD (τ:=b3) λi o _=>mB i o) I I I I I I I I I (by rw[bB];omega) λbn cW wS sF _ gw cP=>?_;refine af ?_;have VY:∀i es c,b3.get i=some (.map es c)->v.at? ≠some i:=λi es c ho e=>by
   obtain⟨bc,h4⟩:=aq.a4L e;have:=mB _ _ h4;rw[ho] at this;cases this
  have IS:∀i es c,b3.get i=some (.map es c)->cW.get i=some (.map es c):=λi es c ho=>cP _ _ (VY i es c ho) ho;refine⟨rfl,rfl,?_⟩;obtain⟨VZ,V0,aQ,aZ,bX,cS⟩:=y4.push (bn:=bn) jY mR (λi h h'=>(eH i h h').Ou (τ:=cW) λi es c ho=>IS _ _ _ (mB _ _ ho)) (by rw[n_];exact hL.Ou IS) wS;refine⟨bn,VZ,V0,dm,aQ,aZ,bX,cS,λo ho=>by rw[sF] at ho;cases ho;omega,U,λi o ho=>cP _ _ (λe=>by have:=jx _ e;have:=ad.a9 ho;omega) (mB _ _ (M.2 _ _ ho))⟩
 ·obtain⟨v,gp,fp,⟨cm,bx,bz,fN,_⟩,aq,jY,mR,eH,jx,M⟩:=aL;show bo _ _ _ _ _ _ _ _;refine ah.norm [(0,aw e0),(1,p),(2,El),(7,v)] ⟨cm,bx,bz,fN,trivial⟩ λg=>?_;have H:Has τ []:=Has.nil;have cV:=M.1;have OJ:=fl.aD M.2;refine af ?_;refine W.bS I I I (c5s hh cw hnd hx a5d OJ (M.2 _ _ e9) (M.2 _ _ sS) (M.2 _ _ ue) c5C c5D ⟨gp,fp,aq,jY,mR,eH⟩) λr a5 ⟨f0,f1,f2,e,M2⟩=>⟨_,e,?_⟩
  have ji:=M2.1;have H:Has a5 []:=Has.nil;refine af ?_;refine W.b6 (c:=[.i .u8 0,ag 0,ag 0]) H I I I I λbu dx H k3=>?_;refine af ?_;refine W.st (bc:=[f0,f1,f2]) H 0 I I I I I I λb3 eC H bI=>?_;have mB:∀i o,τ.get i=some o->b3.get i=some o:=λi o ho=>bI _ _ (by have:=ad.a9 ho;omega) (k3 _ _ (M2.2 _ _ ho));refine af ?_;refine W.bS I I I (a4K hh.qK cw.G hnd.1 hx (hnd.2.2 x hx) a5d (OJ.aD mB) ⟨gp,fp,aq.aD λi o _=>mB i o,jY,mR,λi h h'=>(eH i h h').aD mB⟩) λr cW ⟨bf,aR,e,hL,sP,gC⟩=>⟨_,e,?_⟩
  have AP:=gC.1;refine af ?_;exact ah.ret ⟨rfl,bf,aR,rfl,c0 hL,U,U,λi o ho=>gC.2 _ _ (mB _ _ (M.2 _ _ ho))⟩
end
structure a5f(b:bJ)(K:Nat->List AV->AV->Prop):Prop where
 mY:Ek b K
 st:Ok b K
 Em:a3 (b.aF K) SD R5
 walk:a3 (b.aF K) MF LH
 V9:a3 (b.aF K) GO Gd
 a5g:a3 (b.aF K) GP Ge
 opens:a3 (b.aF K) MI Lz
 wZ:b.ext qz=0/\b.pure qz=true
 xh:b.ext lJ=0/\b.pure lJ=true
 Ba:b.ext mo=0/\b.pure mo=true
section
variable {b:bJ}{K:Nat->List AV->AV->Prop}(hh:a5f b K){T:List a7}{R:List bw}{l:hz}(cw:Ej b K T R l)
include hh cw in
theorem c5H{n:Nat}(h1:1<=n)(hn:n<=T.length)(hd:msr T 0 fo n<=40)(cl:K qz [tA T R true n] (.b true))(hR:K mo [l.A true] (.b true))(hl:l.rs=R.map bw.A)(vi:R.length<2^20)(IG:∀i j (h:i<R.length) (h':j<R.length),i<j->R[i].aW≠R[j].aW){J:ad}:
  bb (b.aF K) 0 (.f (.func SD) [] []) [l.A true,tA T R true n] J (λr τ=>r= .ok (.bg [.nilsl,ag 0])/\cM J τ):=by
 obtain⟨aW,F,dT,s,m,hO⟩:=xf cw.G true n h1 hn;have jo:∀J,bt J (b.bh+1000) (.aj (ff true aW F dT s m))=some (.aj (ff true aW F dT s m)):=λJ=>by
  have:=Iy cw.G (J:=J) true n h1 hn (b.bh+1000) (by have:=cw.G.lt;omega);rwa[hO] at this
 have IT:=cl;rw[hO] at IT;rw[hO];refine W.m3 hh.Em.e hh.Em.p hh.Em.f (by cbv) I I λz=>?_;have H:Has J []:=Has.nil;refine af ?_;generalize aS:J.next=q;refine W.bN (c:=l.cells true) H aS I I I I I λcx cy H bl=>?_;refine af ?_;refine W.bN (c:=ff true aW F dT s m) H cy I I I I I λa5 c6 H bj=>?_;refine af ?_;refine W.et hh.mY.fn hh.Ba hR I I I (mS (cw.ls _)) ?_;refine af ?_;refine W.et hh.mY.fn hh.wZ IT I I I (mS (jo _)) ?_;refine af ?_;refine W.jK (v:=l.A true) H I I I (.tail _ (.head _)) I (Snp.eqb _ _ cw.ls) ?_;refine W.xg H c6 I I λbu dx H xR k3=>?_;refine W.jK (v:=.aj (ff true aW F dT s m)) H I I I (.head _) I (Snp.eqb _ _ jo) ?_;refine W.b6 (c:=[.s [],.i .u32 0,.i .u8 0,.i .u8 0,.nilsl,.m none,.m none,.nilsl]) H dx I I I λb3 eC H bI=>?_;refine W.now (_::_::[]) [(6,q,.cells (l.cells true))] I I ⟨H.x7,H.Ag,trivial⟩ ?_;have Bj:=a4E (J:=b3) hh.st hh.V9 cw.G h1 hn hd;rw[hO] at Bj;refine W.bS I I I Bj λr cW ⟨aI,e,ue,d1Z,gC⟩=>⟨_,e,?_⟩
 have H:=H.aD gC.2;have Bi:=gC.2 _ _ (bI _ _ xR);have AP:=gC.1;refine af ?_;refine W.st (bc:=nb l (q+2) aI .nilsl) H 0 I I I I I I λdr h5 H dI=>?_;have c5I:=dI _ _ U Bi;have c5J:ub T dr aI (rQ T (prt T n)):=dI _ _ U ue;have rS:∀i o,J.get i=some o->dr.get i=some o:=λi o ho=>dI _ _ (by have:=ad.a9 ho;omega) (gC.2 _ _ (bI _ _ (k3 _ _ (bj _ _ (bl _ _ ho)))));refine af ?_;have Vv:(R.map bw.A).length=R.length:=bB _;rw[show(cond true l.rs l.TA)=R.map bw.A from hl];have aq:∀J:ad,Vw J (some 6) (.aV true (some 6) (R.map bw.A)) (R.map bw.A):=λJ=>tl_vw λy hy=>by obtain⟨r,_,rfl⟩:=cT.1 hy;rfl
 rw[Vv];show bo _ _ _ _ _ _ _ _;refine ah.each R.length (λi f ax=>ax.get (q+2)=some (.map (p2 0 (R.take i)) i)/\(∀i o,i≠q+2->dr.get i=some o->ax.get i=some o)/\dr.next<=ax.next/\sat [(3,aw (q+1)),(6,aw (q+3)),(23,.aV true (some 6) (R.map bw.A))] f) U ⟨c5I,λ_ _ _ h=>h,a8 _,dm⟩ I I (λi g ax hi aL fF fi=>?_) (λg ax aL fF=>?_)
 ·obtain⟨h3,bA,jj,bY,gR,a5h,_⟩:=aL;refine ah.norm [(3,aw (q+1)),(6,aw (q+3)),(23,.aV true (some 6) (R.map bw.A)),(25,ag i),(24,ag R.length)] ⟨bY,gR,a5h,fF,fi,trivial⟩ λg=>?_;have H:Has ax [(q+3,nb l (q+2) aI .nilsl)]:=Has.nil.cons (bA _ _ U (H.qx)) ay;have sl:=aq ax;have aM:R.take (i+1)=R.take i++[R[i]]:=jL hi;have aU:(R.take i).length=i:=by rw[g6];omega
  have m5:∀r∈R.take i,r.aW≠(R[i]).aW:=λr ak=>by
   obtain⟨j,aA,rfl⟩:=iP ak;rw[sW];exact IG j i U hi U
  refine af ?_;rw[ez];generalize R[i]=hZ at *;refine W.kk (c:=hZ.A.cells) H I I I I I I I λfu mr H ca=>?_;refine af ?_;refine W.mu (key:=.s hZ.aW) (v:=hZ.A) (ca _ _ h3) I I I I (N9 _ _) (Vg hZ.aW _ _ 0 m5) λfG ly hb fP=>?_;refine af ?_;refine⟨rfl,rfl,?_,λi o aY ho=>fP _ _ aY (ca _ _ (bA _ _ aY ho)),U,dm⟩;rw[aM,Vh,aU,nq];exact hb
 ·obtain⟨h3,bA,jj,bY,gR,a5h,_⟩:=aL;rw[jw] at h3;show bo _ _ _ _ _ _ _ _;refine ah.norm [(3,aw (q+1)),(6,aw (q+3))] ⟨bY,gR,trivial⟩ λg=>?_;have H:Has ax [(q+3,nb l (q+2) aI .nilsl),(q+1,ff true aW F dT s m)]:=(Has.nil.cons (bA _ _ U (H.x7)) ay).cons (bA _ _ U (H.qx)) ay;refine af ?_;refine W.bS I I I (c5A hh.mY cw hh.walk (L:=rQ T (prt T n)) (pl:=[]) n h1 hn (λj aA y hy c5K=>a4N aA hy c5K) hO ⟨rfl,.inr ⟨q+1,rfl,H.x7⟩⟩ (H.qx) h3 (bA _ _ U c5J) .nil (by show 0+_<=80;omega)) λr eT ⟨bf,aR,e,hL,sP,V_⟩=>⟨_,e,?_⟩
  have H:=H.aD V_.2;have d2a:=V_.1;refine af ?_;exact ah.ret ⟨rfl,_,jN (jn I) (jn I),rfl,U,λi o ho=>V_.2 _ _ (bA _ _ (by have:=ad.a9 ho;omega) (rS _ _ ho))⟩
abbrev y8:List AV:=[.nilsl,.i .u8 0,.i .u8 0,ag 0,ag 0]
abbrev xm(T:List a7)(R:List bw)(n:Nat):AV:=.bg [slA false (some 5) ((fg T R n).map (qM T)),.aj y8,ag 0]
def c5L{J:ad}{v:AV}{l:List Nat}(aq:Sl J (some 5) v (l.map (qM T)))(a_:l=[]->v= .nilsl)(n:Nat):freeze J 0 (n+4) v=some (slA false (some 5) (l.map (qM T))):=by
 have hm:mapO (freeze J 0 (n+3)) (l.map (qM T))=some (l.map (qM T)):=by
  have:=vd (f:=freeze J 0 (n+3)) (g:=λx=>x) (l:=l.map (qM T)) λy hy=>by
   obtain⟨c,_,rfl⟩:=cT.1 hy;rw[freeze_succ];show(match mapO (freeze J 0 (n+2)) (ag c::fm false (lnfT T c)) with|none=>none|some l=>some (AV.aj l))=_;rw[mapO_cons,a3R];rfl
  rwa[wJ] at this
 rw[Sl.freeze aq hm];exact congrArg some (N8 aq (λe=>a_ (by simpa using e)) I)
include hh cw in
theorem c5M{n:Nat}(h1:1<=n)(hn:n<=T.length)(hd:msr T 0 fo n<=40)(cl:K qz [tA T R true n] (.b true))(hR:K mo [l.A true] (.b true))(hl:l.rs=R.map bw.A)(vi:R.length<2^20)(IG:∀i j (h:i<R.length) (h':j<R.length),i<j->R[i].aW≠R[j].aW)(nX:∀x∈T,K lJ [.aj (br x.f)] (.aj (h_ x.f)))(body:b5)(hb:F7.body=some body):
  ah (b.aF K) F7.ntmps body (gy [l.A true,tA T R true n]) ⟨.nil,0⟩ (Dx F7.results (xm T R n)):=by
 cbv at hb
 cases hb;obtain⟨aW,F,dT,s,m,hO⟩:=xf cw.G true n h1 hn;refine W.m1 λz H=>?_;rw[hO];refine af ?_;refine W.bN (k:=0) (c:=l.cells true) H I I I I I I λcx cy H bl=>?_;refine af ?_;refine W.bN (c:=ff true aW F dT s m) H cy I I I I I λa5 c6 H bj=>?_;refine af ?_;refine W.b6 (c:=y8) H c6 I I I λbu dx H k3=>?_;refine af ?_;have a5i:=c5H (J:=bu) hh cw h1 hn hd cl hR hl vi IG;rw[hO] at a5i;refine W.bS I I I a5i λr b3 ⟨e,eS⟩=>⟨_,e,?_⟩
 have H:=H.aD eS.2;refine af ?_;have a5j:=c4H (J:=b3) hh.mY.fn hh.mY.CW hh.mY.qK hh.st hh.opens hh.V9 hh.a5g hh.xh hh.wZ cw.G nX h1 hn hd cl (cw.tr n h1 hn);rw[hO] at a5j;refine W.bS I I I a5j λr cW ⟨v,e,aq,Bs,jx,gC⟩=>⟨_,e,?_⟩
 have H:=H.aD gC.2;refine af ?_;refine W.st (bc:=y8) H 0 I I I I I I λdr h5 H dI=>?_;refine af ?_;refine ah.ret ⟨rfl,_,S6 (jn I) (gl I (H.qx) I) (jn I),?_⟩;have DA:=eS.1;have c5N:=aq.aD (τ:=dr) λi o hi ho=>dI _ _ (by have:=jx _ hi;omega) ho;show freeze dr 0 1000 (.bg [v,.aj y8,ag 0])=some (xm T R n);rw[freeze_succ];show(match mapO (freeze dr 0 999) [v,.aj y8,ag 0] with|none=>none|some l=>some (AV.bg l))=_;rw[mapO_cons,c5L c5N Bs 995];rfl
end
end
section
variable [Tok][TokOk]
open Go.RowKit Go.Lyc.T
inductive c5O(L:List aN)(k:Nat)(x:aN):Prop
 |hyp (h:x.hyp=true) (aa:x.cs=[]) (ak:x.bH=[]) (al:(k<=3/\x.bK=0)\/k∈stF (L.map aN.a4) k) (h0:x.op=0->k<=3)
 |again (c:Nat) (h:x.hyp=false) (ak:x.bH=ep) (aa:x.cs=[(c,c)]) (hf:ko L c x.f) (aq:kW (ea (L.map aN.a4)) k c c=true)
 |step (r:bw) (l:List Nat) (a6:List PF) (h:x.hyp=false) (ak:x.bH=r.aW) (hm:r∈rulesP) (hn:r.aW≠ep) (aa:x.cs=l.map λn=>(n,n)) (aY:l≠[]) (an:r.cg.length=l.length/\∀p∈r.cg,p.bN=false) (ha:od r x.f (a6.map λf=>(f,[]))) (hl:a6.length=l.length) (hf:∀i (h:i<l.length) (h':i<a6.length),ko L l[i] a6[i]) (aq:∀c∈l,kW (ea (L.map aN.a4)) k c c=true)
 |box (r:bw) (first last:Nat) (f g:PF) (h:x.hyp=false) (ak:x.bH=r.aW) (hm:r∈rulesP) (hn:r.aW≠ep) (aa:x.cs=[(first,last)]) (an:∃p,r.cg=[p]/\p.bN=true) (ha:od r x.f [(g,[f])]) (h1:∃y,L[first-1]? =some y/\y.hyp=true/\y.bK=x.bK+1/\y.f=f) (h2:ko L last g) (hb:lK (L.map aN.a4) (ea (L.map aN.a4)) k first last=true) (al:stF (L.map aN.a4) last=stF (L.map aN.a4) k++[first])
def Rd.kind{L:List aN}{ae:List (List Nat)}{au:List Nat}(h:Rd L ae au){k:Nat}{x:aN}(h1:1<=k)(hx:L[k-1]? =some x):c5O L k x:=by
 obtain⟨ev,pY,wD,jB,bx,bz,bY,hl,yK⟩:=h.line h1 hx;have r7:k<=L.length:=by have:=(fH.1 hx).1;omega
 have dM:∀i y,(L.take (k-1))[i]? =some y->L[i]? =some y:=λi y hy=>by
  have:=(fH.1 hy).1;rw[g6] at this;rwa[vK U] at hy
 generalize L.take (k-1)=gY at bx bz bY hl yK dM;have aB:gY.length+1=k:=by omega
 have ix:L.map aN.a4=gY.map aN.a4++([x.a4]++(L.drop k).map aN.a4):=by
  conv=>lhs;rw[yK]
  simp only[gO,pf,yp,iJ]
 have aL:=bx.inv;have b0:=bx.b;have cq:stF (L.map aN.a4) k=jB.tail:=by
  have h3:=bY.b.st;rw[c5,show gY.length+[x].length=k from aB] at h3;rw[<-h3,ix,← iJ,show gY.map aN.a4++[x.a4]=(gY++[x]).map aN.a4 by simp];exact tW (by rw[bB,c5];exact T6 aB.symm)
 have m8:∀ {c:Nat} {a:PF},ko gY c a->ko L c a:=λ⟨y,hy,hf⟩=>⟨y,dM _ _ hy,hf⟩
 cases bz with
 |w9 f n an h3=>exact .hyp I I I (.inl ⟨U,rfl⟩) λ_=>by omega
 |yM _ _ n aY bT=>
  refine .hyp I I I (.inr ?_) λh=>by cases h
  rw[cq];have Bl:pY≠[]:=λe=>by have:=aL.len;have:=aL.ne;rw[e] at *;simp at *;omega
  rw[HZ Bl,aB];simp
 |vf F f _ aY aa=>
  have aq:∀ {c:Nat},(∃b9∈F++[f],c∈b9)->kW (ea (L.map aN.a4)) k c c=true:=λaa=>a3N ix aB r7 b0 aL aa cq;have two:∀ {a c:Nat} {f g:PF},ko L a f->ko L c g->∀i (h:i<[a,c].length) (h':i<[f,g].length),ko L [a,c][i] [f,g][i]:=λha aa i h1 h2=>by
   match i,h1 with
   |0,_=>exact ha
   |1,_=>exact aa
  have one:∀ {a:Nat} {f:PF},ko L a f->∀i (h:i<[a].length) (h':i<[f].length),ko L [a][i] [f][i]:=λha i h1 h2=>by
   match i,h1 with
   |0,_=>exact ha
  have v1:∀ {a:Nat},kW (ea (L.map aN.a4)) k a a=true->∀c∈[a],kW (ea (L.map aN.a4)) k c c=true:=λh c aa=>by rw[cA.1 aa];exact h
  have v2:∀ {a c:Nat},kW (ea (L.map aN.a4)) k a a=true->kW (ea (L.map aN.a4)) k c c=true->∀d∈[a,c],kW (ea (L.map aN.a4)) k d d=true:=λh h' d hd=>by
   rcases c2.1 hd with rfl|hd
   ·exact h
   ·rw[cA.1 hd];exact h'
  cases aa with
  |and aQ aZ f1 f2 al=>exact .step NY [_,_] [_,_] I I (by simp[rulesP]) b_ I ay ⟨rfl,b_⟩ (.and _ _) I (two (m8 f1) (m8 f2)) (v2 (aq aQ) (aq aZ))
  |or n aQ f1 al=>exact .step NZ [_] [_] I I (by simp[rulesP]) b_ I ay ⟨rfl,b_⟩ (.or _ _) I (one (m8 f1)) (v1 (aq aQ))
  |jP q aQ f1=>exact .step (D0 q) [_] [_] I I (by cases q<;>simp[rulesP]) (by cases q<;>decide) I ay ⟨by cases q<;>rfl,by cases q<;>decide⟩ (.jP q _ _) I (one (m8 f1)) (v1 (aq aQ))
  |imp aQ aZ f1 f2=>exact .step N1 [_,_] [_,_] I I (by simp[rulesP]) b_ I ay ⟨rfl,b_⟩ (.w6 _ _) I (two (m8 f1) (m8 f2)) (v2 (aq aQ) (aq aZ))
  |not aQ aZ f1 f2=>exact .step N3 [_,_] [_,_] I I (by simp[rulesP]) b_ I ay ⟨rfl,b_⟩ (.w7 _) I (two (m8 f1) (m8 f2)) (v2 (aq aQ) (aq aZ))
  |again aQ f1=>exact .again _ I I I (m8 f1) (aq aQ)
  |w8 n aQ f1=>exact .step N4 [_] [_] I I (by simp[rulesP]) b_ I ay ⟨rfl,b_⟩ (.w8 _) I (one (m8 f1)) (v1 (aq aQ))
 |shut F e f _ first cX pZ=>
  rename_i dL dV;have hlen:=aL.len;simp only[c5,fw,hr] at hlen;obtain⟨p1,n,kL⟩:=aL.fst jB.length first U ay
  rw[cX] at kL;cases kL;have du:=(fH.1 cX).1;have U_:jB≠[]:=λe=>by rw[e] at hlen;simp at hlen
  have ht:(jB++[first]).tail=jB.tail++[first]:=HZ U_;have xc:jB.tail.length=F.length:=by rw[A7];omega
  have Va:gY≠[]:=λe=>by rw[e] at pZ;simp at pZ
  have w3:=(aL.last Va).2 _ pZ;simp only[c5,fw,hr] at w3;have rL:(L.map aN.a4).length=L.length:=bB _;have dg:(ea (L.map aN.a4)).getD (first-1) []=jB.tail++[first]:=by
   rw[rI p1 U,ix,tW (by rw[bB];omega),b0.fst jB.length first U ay,ht,sM (by simp;omega)]
  have cD:(ea (L.map aN.a4)).getD (gY.length-1) []=jB.tail++[first]:=by
   rw[rI U U,ix,tW (by rw[bB];exact a8 _),b0.st,ht]
  have dn:(ea (L.map aN.a4)).getD (k-1) []=jB.tail:=by rw[rI U U,cq]
  have d1:jM (L.map aN.a4) k=F.length:=by
   rw[yU hx,yP];cases decide (dV.f= .cC)<;>rfl
  have d2:jM (L.map aN.a4) gY.length=F.length+1:=by rw[yU (dM _ _ pZ),w3];omega
  have s1:l7 (ea (L.map aN.a4)) first (F.length+1) first=true:=by
   unfold l7;rw[dg];exact decide_eq_true (by rw[A8,← xc];simp)
  have s2:l7 (ea (L.map aN.a4)) gY.length (F.length+1) first=true:=by
   unfold l7;rw[cD];exact decide_eq_true (by rw[A8,← xc];simp)
  have yT:l7 (ea (L.map aN.a4)) (gY.length+1) (F.length+1) first=false:=by
   unfold l7;rw[aB,dn];exact decide_eq_false (by rw[A8,te U];simp)
  have Iv:lK (L.map aN.a4) (ea (L.map aN.a4)) k first gY.length=true:=by
   unfold lK;rw[d1,d2,s1,s2,yT,dg,dn,yG U,sM U,decide_eq_true I,decide_eq_true I];rfl
  have a5k:=dM _ _ pZ;have a5l:stF (L.map aN.a4) gY.length=stF (L.map aN.a4) k++[first]:=by
   rw[<-rI U U,← rI U U,cD,dn]
  have fk:∃y:aN,L[first-1]? =some y/\y.hyp=true/\y.bK=F.length+1/\y.f=e2 n:=⟨_,dM _ _ cX,rfl,by show jB.length=_;omega,rfl⟩
  rw[yP];by_cases tS:dV.f= .cC
  ·rw[decide_eq_true tS];exact .box N2 first gY.length (e2 n) .cC I I (by simp[rulesP]) b_ I ⟨_,rfl,b_⟩ (.U7 _) fk ⟨_,a5k,tS⟩ Iv a5l
  ·rw[decide_eq_false tS];exact .box N0 first gY.length (e2 n) dV.f I I (by simp[rulesP]) b_ I ⟨_,rfl,b_⟩ (.U6 _ _) fk ⟨_,a5k,rfl⟩ Iv a5l
end
section
variable [Tok][TokOk]
open Go.RowKit Go.Lyc.T
attribute [local irreducible] bM bo da dy bb
abbrev xn(L:Nat):List AV:=[.b false,ag L,ag 40]
abbrev Wa(j:Nat)(J τ:ad):Prop:=J.next<=τ.next/\∀i o,i≠j->J.get i=some o->τ.get i=some o
section
def c5P(hh:a3 (b.aF K) Mo LP){j d L:Nat}(hd:d<=40)(hL:L<2^20){J:ad}(aA:J.get j=some (.cells (xn (L+1)))):
  bb (b.aF K) 0 (.f (.func Mo) [] []) [aw j,ag d] J (λr τ=>r= .ok (.b true)/\τ.get j=some (.cells (xn L))/\Wa j J τ):=by
 refine W.code hh.e hh.p hh.f (by cbv) I I I λz=>?_;have H:Has J [(j,xn (L+1))]:=Has.nil.cons aA ay;refine af ?_;refine W.st (bc:=xn L) H 0 I I I I I I λτ cy H bl=>?_;refine af ?_;exact ah.ret ⟨rfl,rfl,H.qx,U,bl⟩
def c5Q(hh:a3 (b.aF K) Mp LQ){j d:Nat}{J:ad}:
  bb (b.aF K) 0 (.f (.func Mp) [] []) [aw j,.nilsl,ag d] J (λr τ=>r= .ok (.b true)/\τ=J):=by
 refine W.sA hh I I I λz H=>?_;refine af ?_;refine ah.each 0 (λj F τ=>τ=J) b_ I I I (λj F τ aA=>by omega) λF τ aL _=>?_;subst aL;refine ah.norm [] trivial λF=>?_;refine af ?_;exact ah.ret ⟨rfl,rfl,rfl⟩
def PF.row(a:PF):dE (some 5) (MO.drop (a.op*5))=some (.aj [.b true,.b true,uB (u4 a.op),ag (MN a.op),ag a.subs.length]):=by
 cases a with
 |bin k a c=>
  obtain⟨k,aB⟩:=k;have:k=0\/k=1\/k=2:=by omega
  rcases this with rfl|rfl|rfl<;>rfl
 |_=>rfl
structure a5m(b:bJ)(K:Nat->List AV->AV->Prop):Prop where
 fn:∀g aO r bR,K g aO r->K g aO bR->r=bR
 node:a3 (b.aF K) Mo LP
 c5R:a3 (b.aF K) Mp LQ
 form:a3 (b.aF K) Sr R9
 q4:b.ext oN=0/\b.pure oN=true
 TQ:∀a:PF,K oN [uB (u4 a.op),.s a.aW] (.b true)
 rows:b.nM SE=some (.aj MO)
def a5n(h:a5m b K){j:Nat}:∀(n:Nat) (a:PF),a.dep<=n->∀d L,d+a.dep<=41->a.b1<=L->L<2^20->∀J:ad,J.get j=some (.cells (xn L))→
  bb (b.aF K) 0 (.f (.func Sr) [] []) [aw j,.aj (fe a),ag d] J (λr τ=>r= .ok (.b true)/\τ.get j=some (.cells (xn (L-a.b1)))/\Wa j J τ)
 |0,a,hn=>by cases a<;>simp[PF.dep] at hn
 |n+1,a,hn=>λd L hd cz hL J aA=>by
  have dS:=a.rC;have m4:1<=a.dep:=by cases a<;>simp[PF.dep]
  have a2N:=a.a2M;obtain⟨L,rfl⟩:∃m,L=m+1:=⟨L-1,U⟩
  refine W.code h.form.e h.form.p h.form.f (by cbv) I I I λz=>?_;have H:Has J [(j,xn (L+1))]:=Has.nil.cons aA ay;have c5S:=ad.a9 aA;refine af ?_;generalize aS:J.next=q at c5S;refine W.bN (c:=fe a) H aS I I I I I λcx cy H bl=>?_;refine af ?_;refine W.bS I I I (c5P h.node U U (bl _ _ aA)) λr a5 ⟨ar,iI,c6,bj⟩=>⟨_,ar,?_⟩
  have yS:=bj q _ U (H.qx);have H:Has a5 [(q,fe a)]:=Has.nil.cons yS ay;refine af ?_;refine W.val (v:=ag a.op) (ai:=a5) I I (b9i I U) ?_;refine af ?_;refine W.val (v:=.df true (.aj [.b true,.b true,uB (u4 a.op),ag (MN a.op),ag a.subs.length])) (ai:=a5) I I (b4P (j:=a.op) (cs:=MO) (o:=true) (by show(match b.nM SE with|some v=>some (AV.df true v)|none=>none)=_;rw[h.rows]) I U a.row) ?_;refine af ?_;refine W.b6 (c:=[.b false,.b false,uB 0,ag 0,ag 0]) H I I I I λbu dx H k3=>?_;refine W.st (bc:=[.b true,.b true,uB (u4 a.op),ag (MN a.op),ag a.subs.length]) H 0 I I I I I I λb3 eC H bI=>?_;have KW:=bI _ _ (by have:=ad.a9 iI;omega) (k3 _ _ iI);refine af ?_;refine W.et h.fn h.q4 (h.TQ a) I I I I ?_;refine af ?_;refine W.bS I I I (c5Q h.c5R) λr cW ⟨ar,nT⟩=>⟨_,ar,?_⟩
  subst nT;refine af ?_;have Ti:(a.subs.map λx=>AV.aj (br x.aI)).length=a.subs.length:=bB _;refine ah.norm [(79,ag 0),(78,ag a.subs.length),(77,j_ a),(0,aw j),(2,ag d)] dm λF=>?_;have hlen:=a.vm;refine ah.each a.subs.length (λi F τ=>τ.get j=some (.cells (xn (L-((a.subs.take i).map PF.b1).sum)))/\Wa j cW τ/\sat [(77,j_ a),(0,aw j),(2,ag d)] F) U ⟨KW,⟨a8 _,λ_ _ _ h=>h⟩,dm⟩ I I (λi F τ hi aL IV Wb=>?_) (λF τ aL IV=>?_)
  ·obtain⟨IW,⟨Wc,jT⟩,y5,cm,bz,_⟩:=aL;refine ah.norm [(79,ag i),(78,ag a.subs.length),(77,j_ a),(0,aw j),(2,ag d)] ⟨IV,Wb,y5,cm,bz,trivial⟩ λF=>?_;have H:Has τ []:=Has.nil;have q6:=PF.l9 (bC hi);have fv:((a.subs.take (i+1)).map PF.b1).sum=((a.subs.take i).map PF.b1).sum+(a.subs[i]).b1:=by
    rw[jL hi,gO,HY];simp
   have hle:((a.subs.take (i+1)).map PF.b1).sum<=(a.subs.map PF.b1).sum:=by
    conv=>rhs;rw[<-wa (i+1) a.subs,gO,HY]
    omega
   refine af ?_;generalize a.subs[i]=x at q6 fv;refine W.b6 (c:=[.i .u8 0,.s [],.nilsl,.nilsl]) H I I I I λdr h5 H dI=>?_;refine W.st (bc:=br x.aI) H 0 I I I I I I λeT j0 H fZ=>?_;have c5T:=fZ _ _ (by have:=ad.a9 IW;omega) (dI _ _ IW);refine af ?_;have hx:br x.aI=fe x:=PF.Ns x;have hf:=a5n h n x U (d+1) (L-((a.subs.take i).map PF.b1).sum) U U U eT c5T;rw[<-hx] at hf;refine W.bS I I I hf λr eV ⟨ar,DS,oD,j8⟩=>⟨_,ar,?_⟩
   refine af ?_;refine⟨rfl,rfl,?_,⟨U,λc o aa h=>j8 _ _ aa (fZ _ _ (by have:=ad.a9 h;have:=ad.a9 (jT _ _ aa h);omega) (dI _ _ (jT _ _ aa h)))⟩,dm⟩;rw[DS,fv,Nat.sub_sub]
  ·obtain⟨IW,⟨Wc,jT⟩,y5,cm,bz,_⟩:=aL;refine ah.norm [] trivial λF=>?_;rw[jw] at IW;have H:Has τ []:=Has.nil;refine af ?_;refine ah.ret ⟨rfl,rfl,?_,U,λc o aa ho=>jT _ _ aa (bI _ _ (by have:=ad.a9 ho;omega) (k3 _ _ (bj _ _ aa (bl _ _ ho))))⟩;rw[IW,show L+1-a.b1=L-(a.subs.map PF.b1).sum by omega]
def c5U(h:a5m b K)(a:PF)(ha:a.low)(body:b5)(hb:LB.body=some body):ah (b.aF K) LB.ntmps body (gy [.aj (fe a)]) ⟨.nil,0⟩ (oU 2 (.b true)):=by
 cbv at hb
 cases hb;refine W.m1 λz H=>?_;have h1:=ha.1;have h2:=ha.2;refine af ?_;refine W.bN (c:=fe a) H I I I I I I λτ cy H bl=>?_;refine af ?_;refine W.b6 (c:=[.b false,ag 0,ag 0]) H cy I I I λa5 c6 H bj=>?_;refine af ?_;refine W.st (bc:=xn 400) H 0 I I I I I I λbu dx H k3=>?_;refine af ?_;refine W.bS I I I (a5n h _ a (a8 _) 1 400 U U b_ bu (H.qx)) λr b3 ⟨ar,_⟩=>⟨_,ar,?_⟩
 refine af ?_;exact ah.ret ⟨rfl,rfl⟩
end
def PF.parts(a:PF):∀x∈a.aI.parts,∃c:PF,x=c.aI:=by
 induction a with
 | gb q=>intro x hx;rw[Fm.parts_eq] at hx;exact⟨.gb q,by simpa [PF.aI,Fm.sub,Fm.gz,Fm.uY] using hx⟩
 |cC=>intro x hx;rw[Fm.parts_eq] at hx;exact⟨.cC,by simpa [PF.aI,Fm.sub,Fm.gz,Fm.uY] using hx⟩
 |neg a aC=>
  intro x hx;rw[Fm.parts_eq] at hx;rcases c2.1 hx with rfl|hx
  ·exact⟨_,rfl⟩
  ·refine aC x ?_;simpa [PF.aI,Fm.sub,Fm.gz,Fm.uY] using hx
 |bin k a c aC s6=>
  intro x hx;rw[Fm.parts_eq] at hx;rcases c2.1 hx with rfl|hx
  ·exact⟨_,rfl⟩
  ·have hx:x∈a.aI.parts\/x∈c.aI.parts:=by simpa [PF.aI,Fm.sub,Fm.gz,Fm.uY] using hx
   rcases hx with hx|hx
   ·exact aC x hx
   ·exact s6 x hx
def PF.kN(a:PF):a.aI.kN:=by
 induction a with
 | gb q=>exact .mk ay ay ay ay
 |cC=>exact .mk ay ay ay ay
 |neg a aC=>exact .mk ay ay ay (λx hx=>by rw[show x=a.aI by simpa using hx];exact aC)
 |bin k a c aC s6=>exact .mk ay ay ay (λx hx=>by
   have hx:x=a.aI\/x=c.aI:=by simpa using hx
   rcases hx with rfl|rfl
   ·exact aC
   ·exact s6)
def xo:List (List fQ):=[[],[([80],0)],[([81],0)],[([80],0),([81],0)],[([81],0),([80],0)]]
def PF.wV(a:PF){aR:List fQ}(h:aR∈xo):Lyc.wV a.aI aR∈xo:=by
 unfold Lyc.wV;cases a with
 | gb q=>
  simp only[xo,c2,hj,or_false] at h;rcases h with rfl|rfl|rfl|rfl|rfl<;>cases q<;>decide
 |cC=>exact h
 |neg a=>exact h
 |bin k a c=>
  rw[if_neg (show ¬(PF.bin k a c).aI.op=1 by show ¬ 4+k.val=1;omega)];exact h
def a5o:∀ {l:List Fm} {aR:List fQ},(∀x∈l,∃c:PF,x=c.aI)->aR∈xo->AU l aR∈xo
 |[],_,_,h=>h
 |x::l,aR,hl,h=>by
  obtain⟨c,rfl⟩:=hl x ay;exact a5o (l:=l) (λy hy=>hl y (g1 _ hy)) (c.wV h)
def PF.c5V(a:PF):HF a.aI∈xo:=a5o a.parts b_
def PF.ops(a:PF):Ac (ys a.aI) 254=0:=by
 refine c0o.2 (a2u b_ λf hf=>?_);obtain⟨c,rfl⟩:=a.parts f hf;have:=c.rC;unfold sC;rw[PF.a2K,if_pos U];have:c.op=1\/c.op=2\/c.op=3\/c.op=4\/c.op=5\/c.op=6:=by omega
 rcases this with h|h|h|h|h|h<;>rw[h]<;>decide
def PF.c5W(a:PF):a.aI.gW=none:=by cases a<;>rfl
section
variable {b:bJ}{K:Nat->List AV->AV->Prop}(hf:∀g aO r bR,K g aO r->K g aO bR->r=bR)
structure Wd(b:bJ)(K:Nat->List AV->AV->Prop):Prop where
 Eb:Tz b K 12
 c5X:a3 (b.aF K) Mk Mf
 IX:a3 (b.aF K) yb x_
 b4:a3 (b.aF K) wG Ai
 w:a3 (b.aF K) C9 C5
 Dz:a3 (b.aF K) Mj L_
 fn:a3 (b.aF K) Sq Sn
def c5Y(hh:a3 (b.aF K) Mk Mf){g2:AV}{J:ad}:bb (b.aF K) 0 (.f (.func Mk) [] []) [.nilsl,g2] J (λr τ=>r= .ok (.b true)/\τ=J):=by
 refine W.sA hh I I I λz H=>?_;refine af ?_;refine ah.each 0 (λj F τ=>τ=J) b_ I I I (λj F τ aA=>by omega) λF τ aL _=>?_;subst aL;refine ah.norm [] trivial λF=>?_;refine af ?_;exact ah.ret ⟨rfl,rfl,rfl⟩
def c5Z(h:Wd b K)(a:PF)(J:ad):
  bb (b.aF K) 0 (.f (.func Sq) [] []) [a.aI.A true] J (λr ai=>∃v,r= .ok v/\Acc ai (some 2) v []/\sI J ai):=by
 generalize aB:J.next=k;refine bb.Lb (d:=k+4) h.fn.e h.fn.p h.fn.f (by cbv) I I I ?_;refine cQ.j1 (ah.region (az.box (v:=a.aI.A true) (c:=a.aI.cells true) k aB I I I I I λbP jf h1 bl=>?_));refine j2 ?_;refine⟨rfl,cQ.j1 (ah.region (az.mkMap (k+1) jf I λcr iH h2 bj=>?_))⟩;refine az.var (v:=.m (some (k+1))) (c:=[.m (some (k+1))]) (k+2) iH I I I I I I λhS qZ h3 k3=>?_;replace h1:=k3 _ _ (bj _ _ h1);replace h2:=k3 _ _ h2;refine az.nil ⟨rfl,cQ.wC (cQ.j1 (ah.region ?_))⟩;refine az.cK h1 I I I (Fm.cK true a.aI) ?_;refine az.iy I I I (SK h.w true a.aI hS (k+3) qZ) λr Hz ⟨aM,uN,aH,bI⟩=>⟨_,aM,?_⟩
 replace h2:=bI _ _ h2;replace h3:=bI _ _ h3;have cG:∀i o,J.get i=some o->Hz.get i=some o:=λi o ho=>bI i o (k3 i o (bj i o (bl i o ho)));refine az.nil ⟨rfl,cQ.block ?_⟩;refine cQ.walk h.IX h.b4 true (λi=>i=k+1\/i=k+2) (λl τ=>(∀x∈l,∃c:PF,x=c.aI)/\τ.get (k+1)=some (.map [] 0)/\τ.get (k+2)=some (.cells [.m (some (k+1))])) (k+4) uN I I a.kN aH (λi hi=>by omega) (λl τ ax ⟨aQ,aZ,bX⟩ aB=>⟨aQ,aB _ _ (.inl I) aZ,aB _ _ (.inr I) bX⟩) ⟨a.parts,h2,h3⟩ ?_ ?_
 ·intro G rest τ dt Az ⟨aQ,aZ,bX⟩;obtain⟨c,rfl⟩:=aQ G ay;refine ah.region ?_;refine az.var (v:=c.aI.A true) (c:=c.aI.cells true) τ.next I I I I (Fm.conf true c.aI) I (Fm.len true c.aI) λcx uN aH bI=>?_;refine az.nil ⟨rfl,.of U bI,λa5 Kn cP=>?_⟩;replace aH:=cP _ _ U aH;replace aZ:=cP _ _ U (bI _ _ aZ);replace bX:=cP _ _ U (bI _ _ bX);refine ah.block (ah.region ?_);refine j2 ?_;refine az.cK aH I I I (Fm.a0X true c.aI) ?_;refine az.go I I I I ?_;rw[c.c5W];refine az.iy I I I (c5Y h.c5X) λr bu ⟨aM,aU⟩=>⟨_,aM,?_⟩
  subst aU;exact az.nil ⟨rfl,⟨λx hx=>aQ x (g1 _ hx),aZ,bX⟩,.refl⟩
 ·intro τ ⟨_,aZ,bX⟩ Az hd hold;refine⟨rfl,rfl,?_⟩;refine ah.seq (ah.region ?_);refine az.cK (v:=.m (some (k+1))) bX I I I I ?_;refine az.iy I I I (h.Eb.2 (aR:=[]) (jD _) τ aZ) λr a5 ⟨v,c,aM,dg,cD,dn,e4⟩=>⟨_,aM,?_⟩
  cases dg.eq_nil;refine az.go I I I I ?_;have hn:=e4.1;have eK:=hK (bF:=AO.dead) (e4.2 _ _ hd);refine az.nil (ah.ret ⟨rfl,e4.2 _ _ hd,v,rfl,cD.aD λi o hi ho=>eK.2 i o (by have:=dn i hi;omega) ho,by show J.next<=a5.next;omega,λi o ho=>?_⟩);have:=ad.a9 ho;exact eK.2 i o U (e4.2 i o (hold i o U (cG i o ho)))
include hf in
theorem c6a(h:Wd b K)(a:PF)(kind:Nat)(aB:¬kind=2)(body:b5)(hb:L4.body=some body):ah (b.aF K) L4.ntmps body (gy [uB kind,.aj (fe a)]) ⟨.nil,0⟩ (oU 4 (.b true)):=by
 cbv at hb
 cases hb;refine W.m1 λz H=>?_;refine af ?_;refine W.bN (c:=fe a) H I I I I I I λτ cy H bl=>?_;refine af ?_;have aS:=a.c5V;have ft:=c0m hf h.Eb h.Dz h.IX h.b4 h.w a.aI a.kN (by simp only[xo,c2,hj,or_false] at aS;rcases aS with h|h|h|h|h<;>rw[h]<;>decide) τ;have bL:=λτ=>c5Z h a τ;simp only[oa] at ft bL;refine W.bS I I I ft λr a5 ⟨v,c,aM,dg,cD,dn,e4⟩=>⟨_,aM,?_⟩
 have H:=H.aD e4.2;have e6:∀s∈c,s.2=0:=λs al=>by
  have al:=dg.mem_iff.1 al;simp only[xo,c2,hj,or_false] at aS;rcases aS with h|h|h|h|h<;>rw[h] at al<;>simp at al<;>(try rcases al with rfl|rfl)<;>simp_all
 have eD:c.length<=2:=by
  rw[dg.length_eq];simp only[xo,c2,hj,or_false] at aS;rcases aS with h|h|h|h|h<;>rw[h]<;>decide
 have hlen:∀τ,lenA τ 1 v=some c.length:=λτ=>by have:=cD.len (τ:=τ);rwa[bB] at this
 refine W.val (v:=ag c.length) (ai:=a5) I I (x3 I (hlen _)) ?_;refine af ?_;refine ah.each c.length (λi F τ=>a5.next<=τ.next/\(∀i o,a5.get i=some o->τ.get i=some o)/\sat [(5,ag 0),(14,v),(3,aw 0)] F) U ⟨a8 _,(λ_ _ h=>h),dm⟩ I I (λi F τ hi aL IV Wb=>?_) (λF τ aL IV=>?_)
 ·obtain⟨Wc,jT,c9,m7,bY,_⟩:=aL;refine ah.norm [(16,ag i),(15,ag c.length),(5,ag 0),(14,v),(3,aw 0)] ⟨IV,Wb,c9,m7,bY,trivial⟩ λF=>?_;have H:Has τ []:=Has.nil;obtain⟨o,jx,ho,g4⟩:=cD.inv (by rw[bB];omega);rw[bB] at jx;subst jx;have aM:dE (some 2) (((c.map dB).flatMap AV.cells).drop (0+i*shN (some 2)))=some (dB c[i]):=by
   rw[Hu (by rw[bB];omega) g4,ez]
  refine af ?_;refine W.val (v:=.p (some (o,0+i*shN (some 2)))) (ai:=τ) I I (K2 _ _ i _ I I (jl hi)) ?_;refine W.val (v:=dB c[i]) (ai:=τ) I I (nZ _ _ I (tv (jT _ _ ho) aM)) ?_;refine W.b6 (c:=[.s [],ag 0]) H I I I I λbu dx H k3=>?_;refine W.st (bc:=[.s c[i].1,ag c[i].2]) H 0 I I I I I I λb3 eC H bI=>?_;have h0:=e6 _ (bC hi);rw[h0] at H;refine af ?_;exact⟨rfl,rfl,U,λi o ho=>bI _ _ (by have:=ad.a9 ho;omega) (k3 _ _ (jT _ _ ho)),dm⟩
 ·obtain⟨Wc,jT,c9,m7,bY,_⟩:=aL;refine ah.norm [(3,aw 0)] ⟨bY,trivial⟩ λF=>?_;have H:=H.aD jT;refine af ?_;refine W.bS I I I (bL τ) λr cW ⟨v,aM,cD,e4⟩=>⟨_,aM,?_⟩
  have hlen:∀τ,lenA τ 1 v=some 0:=λτ=>cD.len (τ:=τ);refine W.val (v:=ag 0) (ai:=cW) I I (x3 I (hlen _)) ?_;have H:=H.aD e4.2;refine af ?_;refine ah.each 0 (λj F τ=>True) b_ trivial I I (λj F τ aA=>by omega) λF τ aL _=>?_;refine ah.norm [] trivial λF=>?_;have H:Has τ []:=Has.nil;refine af ?_;exact ah.ret ⟨rfl,rfl⟩
def OK(a:PF)(h:a.aI.dep<=200)(τ:ad):bt τ (b.bh+1000) (.aj (fe a))=some (.aj (fe a)):=by
 have:=vn a h (b:=b) τ;rwa[PF.Ns,oa] at this
include hf in
theorem c6b(a:PF)(hd:a.aI.dep<=200)(l:hz)(ho:l.ops=254)(hR:K mZ [.aj (fe a)] (.b true))(Ba:b.ext mZ=0/\b.pure mZ=true)(cv:K Am [.aj (fe a)] (.i .u32 (Int.ofNat (ys a.aI))))(c6c:b.ext Am=0/\b.pure Am=true)
  (hA:K Dc [uB l.kind,.aj (fe a)] (.b true)) (c6d:b.ext Dc=0/\b.pure Dc=true) (body:b5) (hb:LR.body=some body):ah (b.aF K) LR.ntmps body (gy [l.A true,.aj (fe a)]) ⟨.nil,0⟩ (oU 4 (.b true)):=by
 cbv at hb
 cases hb;refine W.m1 λz H=>?_;refine af ?_;refine W.bN (c:=l.cells true) H I I I I I I λτ cy H bl=>?_;refine af ?_;refine W.bN (c:=fe a) H cy I I I I I λa5 c6 H bj=>?_;refine af ?_;refine W.et hf Ba hR I I I (mS (OK a hd _)) ?_;refine af ?_;refine W.et hf c6c cv I I I (mS (OK a hd _)) ?_;refine W.bin (v:=.i .u32 (Int.ofNat 0)) I I I I ((c0q (a1v (SG _)) (by rw[ho];decide)).trans (by rw[ho];show some (AV.i .u32 (Int.ofNat (Ac (ys a.aI) 254)))=_;rw[a.ops])) ?_;refine af ?_;refine W.et hf c6d hA I I I (mT I (OK a hd _)) ?_;refine af ?_;exact ah.ret ⟨rfl,rfl⟩
include hf in
theorem c6e(a:PF)(hd:a.aI.dep<=200)(l:hz)(nC:∀J,bt J (b.bh+1000) (l.A true)=some (l.A true))(hL:K mo [l.A true] (.b true))(TJ:b.ext mo=0/\b.pure mo=true)(h1:K Db [l.A true,.aj (fe a)] (.b true))(aM:b.ext Db=0/\b.pure Db=true)
  (body:b5) (hb:LL.body=some body):ah (b.aF K) LL.ntmps body (gy [l.A true,.aj (fe a)]) ⟨.nil,0⟩ (oU 4 (.b true)):=by
 cbv at hb
 cases hb;refine W.m1 λz H=>?_;refine af ?_;refine W.bN (c:=l.cells true) H I I I I I I λτ cy H bl=>?_;refine af ?_;refine W.bN (c:=fe a) H cy I I I I I λa5 c6 H bj=>?_;refine af ?_;refine W.et hf TJ hL I I I (mS (nC _)) ?_;refine af ?_;refine W.et hf aM h1 I I I (mT (nC _) (OK a hd _)) ?_;refine af ?_;exact ah.ret ⟨rfl,rfl⟩
end
end
section
variable [Tok][TokOk]
open Go.RowKit Go.Lyc.T
def OL{a b:AV}(h:[a]=[b]):a=b:=by injection h
def pa{a b c d:AV}(h:[a,b]=[c,d]):a=c/\b=d:=by injection h with h1 h2;injection h2 with h2;exact⟨h1,h2⟩
def We{a b:List Nat}(h:AV.s a= .s b):a=b:=by injection h
def En{k:IntKind}{a b:Int}(h:AV.i k a= .i k b):a=b:=by injection h
def a5p{a b:fQ}(h:dB a=dB b):a=b:=by
 obtain⟨aQ,aZ⟩:=a;obtain⟨dg,cD⟩:=b;injection h with h
 injection h with h1 h2
 injection h2 with h2 _
 injection h2 with _ h2
 exact Prod.ext (We h1) (sY h2)
abbrev HB(b:bJ)(g:Nat)(c:gr):Prop:=b.funcs.get g=some c/\b.ext g=0/\b.pure g=false
abbrev lP(b:bJ)(g:Nat)(c:gr):Prop:=b.funcs.get g=some c/\b.ext g=0/\b.pure g=true
def HB.h{b:bJ}{K:Nat->List AV->AV->Prop}{g:Nat}{c:gr}(h:HB b g c):a3 (b.aF K) g c:=⟨h.1,h.2.1,h.2.2⟩
def ka(x:Bool):fs 1000 (.b x)=true/\AV.eqb 1000 (.b x) (.b x)=true:=⟨rfl,Snp.eqb 1000 _ (Snp.b 999 _)⟩
def qv(k:IntKind)(x:Int):fs 1000 (.i k x)=true/\AV.eqb 1000 (.i k x) (.i k x)=true:=⟨rfl,Snp.eqb 1000 _ (Snp.i 999 _ _)⟩
def PF.kb(a:PF):a.aI.dep=a.dep:=by
 induction a with
 | gb q=>rfl
 |cC=>rfl
 |neg a aC=>
  rw[Fm.qu];show max 0 (Fm.iN [a.aI])+1=a.dep+1;rw[Fm.iN,aC,Fm.iN];omega
 |bin k a c aC s6=>
  rw[Fm.qu];show max 0 (Fm.iN [a.aI,c.aI])+1=max a.dep c.dep+1;rw[Fm.iN,aC,Fm.iN,s6,Fm.iN];omega
def PF.c6f:∀ {a c:PF},a.aI=c.aI->a=c:=λ{a c} h=>by
 induction a generalizing c with
 | gb q=>cases c with
  | gb oG=>cases q<;>cases oG<;>first|rfl|(injection h with _ h;cases h)
  |bin k _ _=>injection h with h;exact absurd h U
  |_=>cases h
 |cC=>cases c with
  |cC=>rfl
  |bin k _ _=>injection h with h;exact absurd h U
  |_=>cases h
 |neg a aC=>cases c with
  |neg c=>injection h with _ _ _ h;injection h with h;injection h with h;rw[aC h]
  |bin k _ _=>injection h with h;exact absurd h U
  |_=>cases h
 |bin k a aZ aC s6=>cases c with
  |bin fh c fr=>
   injection h with h0 _ _ h
   injection h with h
   injection h with h1 h
   injection h with h2
   rw[aC h1,s6 h2,Fin.ext (show k.val=fh.val by omega)]
  | gb q=>injection h with h;exact absurd h U
  |cC=>injection h with h;exact absurd h U
  |neg c=>injection h with h;exact absurd h U
def PF.mU{a c:PF}(h:a.aI.A true=c.aI.A true):a=c:=PF.c6f (Fm.mU h)
def map_inj{α β:Type}{f:α->β}(hf:∀x y,f x=f y->x=y):∀ {l m:List α},l.map f=m.map f->l=m
 |[],[],_=>rfl
 |[],_::_,h=>by cases h
 |_::_,[],h=>by cases h
 |x::l,y::m,h=>by
  injection h with h1 h2
  rw[hf x y h1,map_inj hf h2]
def a5q{a c:PF}(h:j_ a=j_ c):a.subs=c.subs:=by
 have h:=FU h;refine map_inj (f:=λx:PF=>AV.aj (br x.aI)) (λx y zV=>PF.mU ?_) h;rw[j4,j4];exact zV
def c6g{l m:List (Nat×Nat)}(h:l6 true l=l6 true m):l=m:=by
 refine map_inj (f:=λc:Nat×Nat=>AV.aj [ag c.1,ag c.2]) (λx y zV=>?_) (FU h);injection zV with h
 injection h with h1 h
 injection h with h2 _
 exact Prod.ext (sY (En h1)) (sY (En h2))
def a7.mU{x y:a7}(h:x.A=y.A):x=y:=by
 obtain⟨aQ,aZ,bX,cS,ed,hM⟩:=x;obtain⟨dg,cD,dn,e4,k4,vx⟩:=y;injection h with h
 injection h with h1 h
 injection h with h2 h
 injection h with h3 h
 injection h with f1 h
 injection h with f2 h
 injection h with f3 h
 injection h with f4 h
 injection h with bT h
 injection h with cE _
 have fK:cS=e4:=Fm.mU (o:=true) (by rw[j4,j4];show AV.aj [_,_,_,_]=AV.aj [_,_,_,_];rw[f1,f2,f3,f4]);have aM:aQ=dg:=sY (En h1);have aU:aZ=cD:=sY (En h2);have c3:bX=dn:=by injection h3
 have nT:ed=k4:=We bT;have nU:hM=vx:=c6g cE;rw[aM,aU,c3,fK,nT,nU]
def Wf{T a5r:List a7}(h:ck T=ck a5r):T=a5r:=by
 injection h with _ _ h
 exact map_inj (λx y=>a7.mU) h
def Wg(r:AV):Prop:=∃cB,r= .bg [.aj [cB,.nilsl],ag 0,ag 0]/\(∀J,freeze J 0 998 cB=some cB)/\(∀n,AV.eqb (n+500) cB cB=true)/\∀n,fs (n+500) cB=true
def OM:List Nat:=[mZ,pN,mo,ym,wH,b8Y,Dc,Db,oN]
structure lQ(db b8:AV)(g:Nat)(aO:List AV)(r:AV):Prop where
 vE:g∈OM->r= .b true
 AN:g=tC->r=ag 0
 size:g=uZ->∀a:PF,aO=[a.aI.A true]->r=ag a.b1
 c6h:g=Aq->∀a c:PF,aO=[j_ a,j_ c]->r= .b (decide (a.subs=c.subs))
 a5s:g=u0->∀a c:PF,aO=[a.aI.A true,c.aI.A true]->r= .b (decide (a=c))
 c6i:g=yn->∀a c:PF,aO=[a.aI.A true,c.aI.A true,.nilsl]->r= .b (decide (a=c))
 a5t:g=u3->∀a c:PF,aO=[a.aI.A true,c.aI.A true,.nilsl]->r= .b (decide (a=c))
 wW:g=pO->∀a c:PF,aO=[a.aI.A true,c.aI.A true]->r= .b (decide (a=c))
 c6j:g=yd->∀a:PF,∀p,aO=[p,a.aI.A true,.nilsl]->r= .bg [a.aI.A false,.b true]
 c6k:g=lJ->∀a:PF,aO=[a.aI.A true]->r=a.aI.A false
 kU:g=yf->∀T k,aO=[ck T,ag k]->r= .b (tH T k)
 xd:g=Ar->∀T,aO=[ck T]->r= .bg [o0 (ndsL T T.length),ag 0]
 Wh:g=u1->∀T,aO=[db,ck T]->c3w T r
 ops:g=Am->∀a:PF,aO=[a.aI.A true]->r= .i .u32 (Int.ofNat (ys a.aI))
 Eb:g=iX->∀x y:fQ,aO=[dB x,dB y]->r= .i .i64 (rz x y)
 log:g=b8Z->r=b8
 HJ:g=rn->Wg r
 app:g=oO->∃cB fE ei ej au,r= .bg [.aj [cB,fE],.aj [uB ei,ag ej,ag au],ag 0]
section
variable (P:Program)(b:bJ)(db b8:AV)
def er(g:Nat)(aO:List AV)(r:AV):Prop:=∀b2,SpecEntry P (b.env []) b2 g aO r
def cU(g:Nat)(aO:List AV)(r:AV):Prop:=∃h:∃r,er P b g aO r/\lQ db b8 g aO r,r=Classical.choose h
end
section
variable {P:Program}{b:bJ}{db b8:AV}
def cU.fn:∀g aO r bR,cU P b db b8 g aO r->cU P b db b8 g aO bR->r=bR:=λg aO r bR ⟨h,e⟩ ⟨h',d_⟩=>by rw[e,d_]
def cU.ok:uX P b (cU P b db b8):=λg aO r ⟨h,e⟩=>by subst e;exact(KY h).1
def cU.get{g:Nat}{aO:List AV}{r:AV}(h:er P b g aO r)(aL:lQ db b8 g aO r):∃r,cU P b db b8 g aO r/\lQ db b8 g aO r:=⟨_,⟨⟨r,h,aL⟩,rfl⟩,(KY (⟨r,h,aL⟩:∃r,er P b g aO r/\lQ db b8 g aO r)).2⟩
def cU.jQ{g:Nat}{aO:List AV}{r:AV}(h:er P b g aO r)(aL:lQ db b8 g aO r)(hu:∀bR,lQ db b8 g aO bR->bR=r):cU P b db b8 g aO r:=by
 obtain⟨bR,h1,h2⟩:=cU.get h aL;rw[<-hu bR h2];exact h1
def a5u(a:PF):lQ db b8 uZ [a.aI.A true] (ag a.b1):=by
 constructor<;>(intro h;first|exact absurd h b_|skip)
 intro c h;rw[PF.mU (OL h)]
def c6l(a c:PF):lQ db b8 Aq [j_ a,j_ c] (.b (decide (a.subs=c.subs))):=by
 constructor<;>(intro h;first|exact absurd h b_|skip)
 intro cF bc h;rw[a5q (pa h).1,a5q (pa h).2]
def a5v(a c:PF):lQ db b8 u0 [a.aI.A true,c.aI.A true] (.b (decide (a=c))):=by
 constructor<;>(intro h;first|exact absurd h b_|skip)
 intro cF bc h;rw[PF.mU (pa h).1,PF.mU (pa h).2]
def c6m(a c:PF):lQ db b8 yn [a.aI.A true,c.aI.A true,.nilsl] (.b (decide (a=c))):=by
 constructor<;>(intro h;first|exact absurd h b_|skip)
 intro cF bc h;injection h with h1 h
 rw[PF.mU h1,PF.mU (pa h).1]
def a5w(a c:PF):lQ db b8 u3 [a.aI.A true,c.aI.A true,.nilsl] (.b (decide (a=c))):=by
 constructor<;>(intro h;first|exact absurd h b_|skip)
 intro cF bc h;injection h with h1 h
 rw[PF.mU h1,PF.mU (pa h).1]
def c6n(a c:PF):lQ db b8 pO [a.aI.A true,c.aI.A true] (.b (decide (a=c))):=by
 constructor<;>(intro h;first|exact absurd h b_|skip)
 intro cF bc h;rw[PF.mU (pa h).1,PF.mU (pa h).2]
def c6o(p:AV)(a:PF):lQ db b8 yd [p,a.aI.A true,.nilsl] (.bg [a.aI.A false,.b true]):=by
 constructor<;>(intro h;first|exact absurd h b_|skip)
 intro cF ew h;injection h with h1 h
 rw[PF.mU (pa h).1]
def c6p(a:PF):lQ db b8 lJ [a.aI.A true] (a.aI.A false):=by
 constructor<;>(intro h;first|exact absurd h b_|skip)
 intro c h;rw[PF.mU (OL h)]
def c6q(a:PF):lQ db b8 Am [a.aI.A true] (.i .u32 (Int.ofNat (ys a.aI))):=by
 constructor<;>(intro h;first|exact absurd h b_|skip)
 intro c h;rw[PF.mU (OL h)]
def c6r(x y:fQ):lQ db b8 iX [dB x,dB y] (.i .i64 (rz x y)):=by
 constructor<;>(intro h;first|exact absurd h b_|skip)
 intro a c h;rw[a5p (pa h).1,a5p (pa h).2]
def vF{g:Nat}{aO:List AV}(hg:g∈OM):lQ db b8 g aO (.b true):=by
 simp only[OM,c2,hj,or_false] at hg;rcases hg with rfl|rfl|rfl|rfl|rfl|rfl|rfl|rfl|rfl<;>constructor<;>(intro h;first|exact absurd h b_|rfl)
def a5x{aO:List AV}:lQ db b8 tC aO (ag 0):=by
 constructor<;>(intro h;first|exact absurd h b_|rfl)
def a5y(T:List a7)(k:Nat):lQ db b8 yf [ck T,ag k] (.b (tH T k)):=by
 constructor<;>(intro h;first|exact absurd h b_|skip)
 intro h7 fh h;rw[Wf (pa h).1,sY (En (pa h).2)]
def c6s(T:List a7):lQ db b8 Ar [ck T] (.bg [o0 (ndsL T T.length),ag 0]):=by
 constructor<;>(intro h;first|exact absurd h b_|skip)
 intro h7 h;rw[Wf (OL h)]
def c6t{aO:List AV}{r:AV}(ak:Wg r):lQ db b8 rn aO r:=by
 constructor<;>(intro h;first|exact absurd h b_|exact ak)
def a5z{aO:List AV}{r:AV}(ak:∃cB fE ei ej au,r= .bg [.aj [cB,fE],.aj [uB ei,ag ej,ag au],ag 0]):lQ db b8 oO aO r:=by
 constructor<;>(intro h;first|exact absurd h b_|exact ak)
end
def IY{rest:List bw}{r:bw}(h:r∈rulesP):ib (rulesP++rest) r.aW=r:=by
 unfold ib;rw[List.find?_append];simp only[rulesP,c2,hj,or_false] at h;rcases h with rfl|rfl|rfl|rfl|rfl|rfl|rfl|rfl|rfl|rfl|rfl<;>rfl
section
variable {L:List aN}{ae:List (List Nat)}{au:List Nat}(h:Rd L ae au)(hL:L.length<=36){R rest:List bw}(hR:R=rulesP++rest)
def IZ{L:List aN}{k:Nat}{x:a7}(hx:(L.map aN.a4)[k-1]? =some x):∃y,L[k-1]? =some y/\x=y.a4:=by
 rw[iR] at hx;cases hy:L[k-1]? with
 |none=>rw[hy] at hx;cases hx
 |some y=>rw[hy] at hx;cases hx;exact⟨y,rfl,rfl⟩
theorem Wi{L:List aN}{x:a7}(hx:x∈L.map aN.a4):∃k y,1<=k/\L[k-1]? =some y/\x=y.a4:=by
 obtain⟨y,hy,rfl⟩:=cT.1 hx;obtain⟨i,hi,rfl⟩:=iP hy;exact⟨i+1,_,U,cp hi,rfl⟩
def Bx{L:List aN}{k:Nat}{y:aN}(hy:L[k-1]? =some y):lnfT (L.map aN.a4) k=y.f.aI:=by
 unfold lnfT;rw[iR,hy];rfl
include h hL in
theorem Rd.a5A:OB (L.map aN.a4):=λk x h1 hx hh ak=>by
 obtain⟨y,hy,rfl⟩:=IZ hx;have ak:y.bH=ep:=ak;have hh:y.hyp=false:=hh;cases h.kind h1 hy with
 |hyp h0=>rw[h0] at hh;cases hh
 |again c _ _ aa hf _=>
  obtain⟨z,a_,tb⟩:=hf;have:jC y.a4=c:=by show(y.cs.headD (0,0)).2=c;rw[aa];rfl
  rw[this,Bx a_,tb];rfl
 |step r l a6 _ gQ _ hn=>exact absurd (gQ.symm.trans ak) hn
 |box r a c f g _ gQ _ hn=>exact absurd (gQ.symm.trans ak) hn
include h hL hR in
theorem Rd.gtr:hN (L.map aN.a4) R where
 lt:=by rw[bB];omega
 cs k x h1 hx hh:=by
  obtain⟨y,hy,rfl⟩:=IZ hx;have hh:y.hyp=false:=hh;obtain⟨_,_,_,_,a,c⟩:=h.shape h1 hy;refine⟨?_,by show y.cs.length<=4;omega,c⟩;show y.cs≠[];cases h.kind h1 hy with
  |hyp h0=>rw[h0] at hh;cases hh
  |again c _ _ aa=>rw[aa];simp
  |step r l a6 _ _ _ _ aa aY=>rw[aa];simpa using aY
  |box r a c f g _ _ _ _ aa=>rw[aa];simp
 fd x hx:=by
  obtain⟨y,hy,rfl⟩:=cT.1 hx;show y.f.aI.dep<=40;rw[PF.kb];have:=(h.low hL hy).1;omega
 fR x hx hh ak:=by
  obtain⟨k,y,h1,hy,rfl⟩:=Wi hx;have hh:y.hyp=false:=hh;have ak:y.bH≠ep:=ak;have key:∀r,r∈rulesP->y.bH=r.aW->r.cg.length=y.cs.length->ib R y.bH∈R/\(ib R y.bH).aW=y.bH/\(ib R y.bH).cg.length=y.cs.length/\y.bH≠[]/\y.bH≠[63]:=λr hm e hl=>by
   rw[e,hR,IY hm];have hd:∀r∈rulesP,r.aW≠[]/\r.aW≠[63]:=by decide
   exact⟨zI _ hm,rfl,hl,hd r hm⟩
  cases h.kind h1 hy with
  |hyp h0=>rw[h0] at hh;cases hh
  |again c _ q3=>exact absurd q3 ak
  |step r l a6 _ e hm _ aa _ an=>exact key r hm e (by rw[aa,bB];exact an.1)
  |box r a c f g _ e hm _ aa an=>exact key r hm e (by obtain⟨p,an,_⟩:=an;rw[aa,an];rfl)
 op x hx:=by
  obtain⟨y,hy,rfl⟩:=cT.1 hx;exact h.b.hyp y hy
 hy x hx hh:=by
  obtain⟨k,y,h1,hy,rfl⟩:=Wi hx;have hh:y.hyp=true:=hh;cases h.kind h1 hy with
  |hyp _ a c=>exact⟨a,c⟩
  |again c h0=>rw[h0] at hh;cases hh
  |step r l a6 h0=>rw[h0] at hh;cases hh
  |box r a c f g h0=>rw[h0] at hh;cases hh
 bK x hx:=by
  obtain⟨k,y,h1,hy,rfl⟩:=Wi hx;obtain⟨_,a,_⟩:=h.shape h1 hy;show y.bK<=40;omega
end
abbrev vG(T:List a7)(k:Nat):List Nat:=(ndsL T T.length).getD (k-1) []
def I0{T:List a7}{k m:Nat}(h1:1<=k)(aB:k<=m):(ndsL T m).getD (k-1) []=needL T (ea T) (ndsL T (k-1)) k:=by
 obtain⟨j,rfl⟩:∃j,k=j+1:=⟨k-1,U⟩
 obtain⟨n,rfl⟩:∃n,m=(j+1)+n:=⟨m-(j+1),U⟩
 rw[fD,a3P U,ndsL,Ds (by rw[yy];omega),yy];simp
def c6u{T:List a7}{k:Nat}(h1:1<=k)(aB:k<=T.length)(aa:∀x,T[k-1]? =some x->wP k x.cs):vG T k=needL T (ea T) (ndsL T T.length) k:=by
 unfold vG;rw[I0 h1 aB];unfold needL;rw[cp U];show cond _ _ _=cond _ _ _;have e9:=(aa _ (cp U)).2;generalize T[k-1]=x at e9
 congr 1
 apply List.filter_congr;intro n _;unfold oW;refine any_congr λac fU=>?_;obtain⟨dU,fr,gK⟩:=e9 ac fU;have e:(ndsL T (k-1)).getD (ac.2-1) []=(ndsL T T.length).getD (ac.2-1) []:=by
  rw[I0 U U,I0 U U]
 unfold pR pP;rw[e]
def c6v{T:List a7}{k:Nat}(h1:1<=k){x:a7}(hx:T[k-1]? =some x)(aa:wP k x.cs){n:Nat}:n∈vG T k↔if x.hyp=true then n=k else n<k/\∃ac∈x.cs,n∈pR T (ea T) (ndsL T T.length) k ac:=by
 have aB:=(fH.1 hx).1;rw[c6u h1 U λy hy=>by rw[hx] at hy;cases hy;exact aa];unfold needL;rw[hx];simp only[];cases x.hyp with
 |true=>rw[cond_true,if_pos I,cA]
 |false=>
  rw[cond_false,if_neg ay,mj,Ay];unfold oW;rw[Kc];simp only[decide_eq_true_iff]
def Wj{T:List a7}{k n:Nat}(hn:n∈vG T k)(h1:1<=k)(aB:k<=T.length):n<=k:=by
 unfold vG at hn;rw[I0 h1 aB] at hn;exact a1R hn
def c6w{T:List a7}{k c:Nat}(ct:yv T)(h1:1<=k)(aB:k<=T.length)(aq:kW (ea T) k c c=true):lK T (ea T) k c c=false:=by
 have hl:((ea T).getD (k-1) []).length=jM T k:=by
  rw[rI h1 aB,Dv h1 aB];have:=ct.len (k-1) U;rw[show k-1+1=k by omega,cp U] at this;exact this
 unfold kW at aq;rw[dD,dD,decide_eq_true_iff,decide_eq_true_iff] at aq;cases hb:lK T (ea T) k c c with
 |false=>rfl
 |true=>
  unfold lK at hb;rw[dD] at hb;have al:=hb.1;unfold l7 at al;have:=(fH.1 (of_decide_eq_true al)).1;omega
section
variable {L:List aN}{ae:List (List Nat)}{au:List Nat}(h:Rd L ae au)(hL:L.length<=36){R rest:List bw}(hR:R=rulesP++rest)
include h hL hR
theorem Rd.a5B{k:Nat}{x:aN}(hx:L[k-1]? =some x){r:bw}(hm:r∈rulesP)(e:x.bH=r.aW)(an:∀p∈r.cg,p.bN=false)(i:Nat):gZ (L.map aN.a4) R k i=[]:=by
 unfold gZ;rw[iR,hx];show cond ((ib R x.bH).cg.getD i j7).bN _ _=_;have:((ib R x.bH).cg.getD i j7).bN=false:=by
  rw[e,hR,IY hm,fD];cases aS:r.cg[i]? with
  |none=>rfl
  |some p=>exact an p (eY aS)
 rw[this];rfl
theorem Rd.Wl{k:Nat}{x:aN}(hx:L[k-1]? =some x){r:bw}(hm:r∈rulesP)(e:x.bH=r.aW){p:fz}(an:r.cg=[p])(hb:p.bN=true){a c:Nat}(aa:x.cs=[(a,c)])(hy:∃y,L[a-1]? =some y/\y.hyp=true/\y.bK=x.bK+1):gZ (L.map aN.a4) R k 0=[a]:=by
 obtain⟨y,hy,pn,tm⟩:=hy;unfold gZ;rw[iR,hx];show cond ((ib R x.bH).cg.getD 0 j7).bN (as1 (L.map aN.a4) (x.cs.getD 0 (0,0)).1 (x.bK+1)) _=_;rw[e,hR,IY hm,an,aa];show cond p.bN (as1 (L.map aN.a4) a (x.bK+1)) _=_;rw[hb,cond_true];unfold as1;rw[iR,hy];show(if y.hyp=true/\y.bK=x.bK+1 then[a] else[])=_;rw[if_pos ⟨pn,tm⟩]
theorem Rd.c6x:∀k,1<=k->k<=L.length->∀n,n∈labS (L.map aN.a4) R k↔n∈vG (L.map aN.a4) k:=λk=>by
 induction k using Nat.strongRecOn with
 |ind k aC=>
  intro h1 h2 n;have G:=h.gtr hL hR;have hx:L[k-1]? =some L[k-1]:=cp U;generalize L[k-1]=x at hx;have sT:(L.map aN.a4)[k-1]? =some x.a4:=by rw[iR,hx];rfl
  have e9:=h.vu h1 sT;have rL:(L.map aN.a4).length=L.length:=bB _;have ct:=h.kU (by omega:L.length<=40);have dS:∀x∈L.map aN.a4,x.hyp=true->x.op=0->x.bK=0:=G.op;rw[c6v h1 sT e9];have yu:∀c,kW (ea (L.map aN.a4)) k c c=true->pR (L.map aN.a4) (ea (L.map aN.a4)) (ndsL (L.map aN.a4) (L.map aN.a4).length) k (c,c)=vG (L.map aN.a4) c:=λc aq=>by
   unfold pR;rw[c6w ct h1 U aq];rfl
  have hlt:∀c,(c,c)∈x.cs->1<=c/\c<k:=λc aa=>by have:=e9.2 _ aa;exact⟨this.1,this.2.2⟩
  cases h.kind h1 hx with
  |hyp h0=>
   rw[Ef sT h0,cA];show _↔if x.hyp=true then _ else _
   rw[if_pos h0]
  |again c h0 ak aa hf aq=>
   obtain⟨dU,fr⟩:=hlt c (by rw[aa];simp);have lU:jC x.a4=c:=by show(x.cs.headD (0,0)).2=c;rw[aa];rfl
   rw[Oq G h1 sT h0 ak,lU,aC c fr dU U];show _↔if x.hyp=true then _ else n<k/\∃ac∈x.cs,_
   rw[if_neg (by rw[h0];simp),aa];constructor
   ·intro hn;have:=Wj hn dU U;exact⟨U,(c,c),ay,by rw[yu c aq];exact hn⟩
   ·rintro⟨_,ac,fU,hn⟩;rw[cA.1 fU,yu c aq] at hn;exact hn
  |step r l a6 h0 ak hm hn aa aY an ha hl hf aq=>
   rw[y3 G h1 sT h0 (by show x.bH≠ep;rw[ak];exact hn)];show(∃i,i<x.cs.length/\n∈labS _ R (x.cs.getD i (0,0)).2/\_)↔if x.hyp=true then _ else n<k/\∃ac∈x.cs,_
   rw[if_neg (by rw[h0];simp)];constructor
   ·rintro⟨i,hi,gG,_⟩;have eO:=bC hi;rw[jA hi] at gG;generalize x.cs[i]=ac at eO gG;rw[aa] at eO;obtain⟨c,eD,rfl⟩:=cT.1 eO;obtain⟨dU,fr⟩:=hlt c (by rw[aa];exact eO);have gG:=(aC c fr dU U n).1 gG;have:=Wj gG dU U;exact⟨U,(c,c),by rw[aa];exact eO,by rw[yu c (aq c eD)];exact gG⟩
   ·rintro⟨_,ac,fU,gG⟩;obtain⟨i,hi,rfl⟩:=iP fU;refine⟨i,hi,?_,by rw[h.a5B hL hR hx hm ak an.2];simp⟩;rw[jA hi];generalize x.cs[i]=ac at fU gG;have eO:=fU;rw[aa] at eO;obtain⟨c,eD,rfl⟩:=cT.1 eO;obtain⟨dU,fr⟩:=hlt c fU;rw[yu c (aq c eD)] at gG;exact(aC c fr dU U n).2 gG
  |box r first last f g h0 ak hm hn aa an ha w_ w4 hb=>
   obtain⟨p,an,I1⟩:=an;obtain⟨y,hy,pn,tm,c6y⟩:=w_;have eD:=e9.2 (first,last) (by show _∈x.cs;rw[aa];simp);simp only[] at eD;have eH:=h.Wl hL hR hx hm ak an I1 aa ⟨y,hy,pn,tm⟩;have m4:jM (L.map aN.a4) k=x.bK:=yU hx;have N5:kR (L.map aN.a4) first (x.bK+1)=[first]:=by
    rw[asm_one dS eD.1 U U,iR,hy];show(if y.hyp=true/\y.bK=x.bK+1 then[first] else[])=_;rw[if_pos ⟨pn,tm⟩]
   have xF:pR (L.map aN.a4) (ea (L.map aN.a4)) (ndsL (L.map aN.a4) (L.map aN.a4).length) k (first,last)=(vG (L.map aN.a4) last).filter λn=>!decide (n∈[first]):=by
    unfold pR pP;rw[hb,m4,N5];rfl
   rw[y3 G h1 sT h0 (by show x.bH≠ep;rw[ak];exact hn)];show(∃i,i<x.cs.length/\n∈labS _ R (x.cs.getD i (0,0)).2/\_)↔if x.hyp=true then _ else n<k/\∃ac∈x.cs,_
   rw[if_neg (by rw[h0];simp),aa];constructor
   ·rintro⟨i,hi,gG,rr⟩;obtain rfl:i=0:=by simpa using hi
    rw[eH] at rr;have gG:=(aC last eD.2.2 U U n).1 gG;have:=Wj gG U U;exact⟨U,(first,last),ay,by rw[xF,mj];exact⟨gG,by simpa using rr⟩⟩
   ·rintro⟨_,ac,fU,gG⟩;rw[cA.1 fU,xF,mj] at gG;refine⟨0,ay,(aC last eD.2.2 U U n).2 gG.1,?_⟩;rw[eH];simpa using gG.2
end
def a5C:∀ {aR l:List Nat},aR.Nodup->(∀c∈aR,c∈l)->aR.length<=l.length
 |[],_,_,_=>jD _
 |x::aR,l,hn,h=>by
  rw[List.nodup_cons] at hn;have hx:=h x k1;have:=a5C (l:=l.erase x) hn.2 λc aa=>(List.mem_erase_of_ne λe:c=x=>hn.1 (by rw[<-e];exact aa)).2 (h c (g1 _ aa));rw[List.length_erase_of_mem hx] at this;have:=a4l hx;rw[fw];omega
section
variable {L:List aN}{ae:List (List Nat)}{au:List Nat}(h:Rd L ae au)(hL:L.length<=36){R rest:List bw}(hR:R=rulesP++rest)
include h hL hR
theorem Rd.a5D:∀k,1<=k->k<=L.length->∀n,n∈labS (L.map aN.a4) R k->(n<=3/\jM (L.map aN.a4) n=0)\/n∈stF (L.map aN.a4) k:=λk=>by
 induction k using Nat.strongRecOn with
 |ind k aC=>
  intro h1 h2 n hn;have G:=h.gtr hL hR;have hx:L[k-1]? =some L[k-1]:=cp U;generalize L[k-1]=x at hx;have sT:(L.map aN.a4)[k-1]? =some x.a4:=by rw[iR,hx];rfl
  have rL:(L.map aN.a4).length=L.length:=bB _;have e9:=h.vu h1 sT;have IX:∀c,1<=c->c<k->kW (ea (L.map aN.a4)) k c c=true->n∈labS (L.map aN.a4) R c->(n<=3/\jM (L.map aN.a4) n=0)\/n∈stF (L.map aN.a4) k:=λc dU fr aq aa=>by
   rcases aC c fr dU U n aa with h|h
   ·exact .inl h
   ·refine .inr ?_;unfold kW at aq;rw[dD,dD,decide_eq_true_iff,decide_eq_true_iff,decide_eq_true_iff,rI dU U,rI h1 U] at aq;rw[aq.2.2] at h;exact pe h
  have hlt:∀c,(c,c)∈x.cs->1<=c/\c<k:=λc aa=>by have:=e9.2 _ aa;exact⟨this.1,this.2.2⟩
  cases h.kind h1 hx with
  |hyp h0 aa ak al=>
   rw[Ef sT h0,cA] at hn;subst hn;exact al.imp (λ⟨a,c⟩=>⟨a,by rw[yU hx];exact c⟩) id
  |again c h0 ak aa hf aq=>
   obtain⟨dU,fr⟩:=hlt c (by rw[aa];simp);have lU:jC x.a4=c:=by show(x.cs.headD (0,0)).2=c;rw[aa];rfl
   rw[Oq G h1 sT h0 ak,lU] at hn;exact IX c dU fr aq hn
  |step r l a6 h0 ak hm m5 aa aY an ha hl hf aq=>
   rw[y3 G h1 sT h0 (by show x.bH≠ep;rw[ak];exact m5)] at hn;obtain⟨i,hi,gG,_⟩:=hn;have hi:i<x.cs.length:=hi;have eO:=bC hi;have gG:n∈labS (L.map aN.a4) R (x.cs.getD i (0,0)).2:=gG;rw[jA hi] at gG;generalize x.cs[i]=ac at eO gG;rw[aa] at eO;obtain⟨c,eD,rfl⟩:=cT.1 eO;obtain⟨dU,fr⟩:=hlt c (by rw[aa];exact eO);exact IX c dU fr (aq c eD) gG
  |box r first last f g h0 ak hm m5 aa an ha w_ w4 hb al=>
   obtain⟨p,an,I1⟩:=an;obtain⟨y,hy,pn,tm,c6y⟩:=w_;have eD:=e9.2 (first,last) (by show _∈x.cs;rw[aa];simp);simp only[] at eD;have eH:=h.Wl hL hR hx hm ak an I1 aa ⟨y,hy,pn,tm⟩;rw[y3 G h1 sT h0 (by show x.bH≠ep;rw[ak];exact m5)] at hn;obtain⟨i,hi,gG,rr⟩:=hn;have hi:i<x.cs.length:=hi;have gG:n∈labS (L.map aN.a4) R (x.cs.getD i (0,0)).2:=gG;rw[aa] at hi gG;obtain rfl:i=0:=by simpa using hi
   rw[eH] at rr;rcases aC last eD.2.2 U U n gG with h|h
   ·exact .inl h
   ·rw[al] at h;rcases eX.1 h with h|h
    ·exact .inr h
    ·exact absurd h rr
theorem Rd.hlen{k:Nat}(h1:1<=k)(h2:k<=L.length):Oy (L.map aN.a4) R k:=λaR hn aB=>by
 have hx:L[k-1]? =some L[k-1]:=cp U;have ct:=(h.kU (by omega:L.length<=40)).len (k-1) (by rw[bB];omega);rw[show k-1+1=k by omega,iR,hx] at ct;have ct:(stF (L.map aN.a4) k).length=(L[k-1]).bK:=ct;have hd:=(h.shape h1 hx).2.1;have:=a5C (aR:=aR) (l:=[0,1,2,3]++stF (L.map aN.a4) k) hn λc aa=>by
  rcases h.a5D hL hR k h1 h2 c (aB c aa) with h|h
  ·refine zI _ ?_;have:c=0\/c=1\/c=2\/c=3:=by have:=h.1;omega
   simpa using this
  ·exact Kb _ h
 rw[c5] at this;simp only[fw,hr] at this;omega
theorem Rd.a5E{k n:Nat}(h1:1<=k)(h2:k<=L.length)(hn:n∈labS (L.map aN.a4) R k):∃y,L[n-1]? =some y/\y.hyp=true/\1<=n/\n<=k:=by
 have G:=h.gtr hL hR;have rL:(L.map aN.a4).length=L.length:=bB _;obtain⟨_,x,hx,hh⟩:=Eh G k h1 U n hn;obtain⟨y,hy,rfl⟩:=IZ hx;have:=a4M G h1 U hn;exact⟨y,hy,hh,this.1,this.2.1⟩
end
end
section
open Go Go.RowKit Go.ChangeShapes Go.WideShapes
section
variable {H:Type}{enc:TypeId×Value->H}{P:Program}{w:World}{B:Nat}
structure d2b(P:Program)(ON I2 OO I3 I4 I5 OP:TypeId):Prop where
 b:P.underlying ON=some .bool
 s:P.underlying I2=some .string
 u:P.underlying OO=some (.int .u8)
 mi:P.underlying I4=some (.slice I3)
 a6:P.underlying OP=some (.slice I5)
 d2c:P.cellsOf ON=1
 cs:P.cellsOf I2=1
 d2d:P.cellsOf OO=1
 d2e:P.cellsOf I4=1
 d2f:P.cellsOf OP=1
 F4:P.cellsOf I3=3
 gA:P.cellsOf I5=4
 fE:0<P.bytesOf I3
 cB:0<P.bytesOf I5
 t:∃a b c:Field,P.underlying I3=some (.struct #[a,b,c])/\(a.type=ON/\a.offset=0)/\(b.type=I2/\b.offset=1)/\(c.type=I4/\c.offset=2)
 f:∃a b c d:Field,P.underlying I5=some (.struct #[a,b,c,d])/\(a.type=OO/\a.offset=0)/\(b.type=I2/\b.offset=1)/\(c.type=I4/\c.offset=2)/\(d.type=OP/\d.offset=3)
variable {ON I2 OO I3 I4 I5 OP:TypeId}
end
end
section
open Go Go.RowKit
section
variable [Tok][TokOk]
def elemF(f:AV->AV)(x:AV):AV:=match x with| .aj c=>.aj (c.map f)|x=>f x
def sb(n:Nat):AV->AV:=Nat.rec (motive:=λ_=>AV->AV) (λv=>v) (λ_ aC v=>match v with
 | .y i=>Tok.EG i
 | .gP o i=>Tok.qS o i
 | .aj l=>.aj (l.map aC)
 | .aV o ab xs=>.aV o ab (xs.map (elemF aC))
 |v=>v) n
end
abbrev tokOf(F:Fm):Tok:=⟨λi=>cond (Nat.beq i 0) (uB F.op) (.s F.name),λo i=>cond (Nat.beq i 0) (jJ o F.gW) (iW o F.gz)⟩
section
variable [Tok]
def Seen(w:World)(o bF:Bool)(O k6:Nat->Prop)(B eG:Nat):Prop:=∀aG,aG<w.heap.size->¬O aG->(o=false->B<=aG)->¬k6 aG/\(bF=false->eG<=aG)
def a5F{α:Type}{w:World}{o bF:Bool}{O k6:Nat->Prop}{B eG k:Nat}(ct:Seen w o bF O k6 B eG)(f g:α->List AV)(l:List α)(hf:∀x∈l,(f x).length=k)(hg:∀x∈l,(g x).length=k)(aa:∀x∈l,∀y∈g x,conf none y=true)
  (aC:∀x∈l,∀i (h:i<(f x).length) (h':i<(g x).length) u,R w (λ_=>none) O B ((f x)[i]) u->R w (λ_=>none) k6 eG ((g x)[i]) u) {u:Value} (h:R w (λ_=>none) O B (.aV o (some k) (l.map λx=>.aj (f x))) u):R w (λ_=>none) k6 eG (.aV bF (some k) (l.map λx=>.aj (g x))) u:=by
 generalize dG:l.map (λx=>AV.aj (f x))=xs at h;cases h with
 |mH=>
  obtain rfl:=Vy.1 dG;exact .mH
 |aV ba cv al zE ak hl tS fI=>
  rename_i aG off gF sp;have hlen:xs.length=(l.map λx=>AV.aj (g x)).length:=by rw[<-dG,bB,bB]
  rw[hlen];have aY:(l.map λx=>AV.aj (g x))≠[]->xs≠[]:=λh e=>h (by rw[<-dG,Vy] at e;rw[e];rfl);have hx:∀i (h:i<xs.length) (h':i<l.length),xs[i]= .aj (f l[i]):=λi h h'=>by subst dG;simp
  have hy:∀i (h:i<(l.map λx=>AV.aj (g x)).length) (h':i<l.length),(l.map λx=>AV.aj (g x))[i]= .aj (g l[i]):=λi h h'=>by simp
  have eZ:(l.map λx=>AV.aj (g x)).length=l.length:=bB ..;refine .aV ba (λh=>?_) (λi hi=>?_) (λi hi j aA=>?_) (λi hi j aA=>?_) U (λv aq x hx=>?_) (λh=>fI (aY h))
  ·obtain⟨h1,h2,h3⟩:=cv (aY h);obtain⟨aH,bT⟩:=ct aG h2 h1 h3;exact⟨aH,h2,bT⟩
  ·rw[hy i hi U];show conf (some k) (.aj _)=true;simp[conf,hg _ (bC (show i<l.length by omega))]
  ·have dh:i<l.length:=by omega
   have aM:((l.map λx=>AV.aj (g x))[i]).cells=g l[i]:=by rw[hy i hi dh];rfl
   have fB:j<(g l[i]).length:=by rw[aM] at aA;exact aA
   have aU:(xs[i]'U).cells=f l[i]:=by rw[hx i U dh];rfl
   exact zE i U j (by rw[aU,hf _ (bC dh),← hg _ (bC dh)];exact fB)
  ·have dh:i<l.length:=by omega
   have aM:((l.map λx=>AV.aj (g x))[i]).cells=g l[i]:=by rw[hy i hi dh];rfl
   have fB:j<(g l[i]).length:=by rw[aM] at aA;exact aA
   have aU:(xs[i]'U).cells=f l[i]:=by rw[hx i U dh];rfl
   have iI:j<(f l[i]).length:=by rw[hf _ (bC dh),← hg _ (bC dh)];exact fB
   have:=ak i U j (by rw[aU];exact iI);simp only[aU] at this;simp only[aM];exact aC _ (bC dh) j iI fB _ this
  ·obtain⟨y,hy,rfl⟩:=cT.1 aq;exact aa y hy x hx
def OQ{w:World}{o bF:Bool}{O k6:Nat->Prop}{B eG:Nat}(ct:Seen w o bF O k6 B eG):∀(d:Nat) (a:Option (List Tm)),Tm.iN (a.getD [])<d->∀u,R w (λ_=>none) O B (jJ o a) u->R w (λ_=>none) k6 eG (jJ bF a) u
 |0,a,h,_,_=>by omega
 |d+1,none,_,u,h=>by
  have h:R w (λ_=>none) O B .nilsl u:=h;cases h;exact .nilsl
 |d+1,some l,hd,u,h=>by
  refine a5F (k:=3) ct (λt:Tm=>t.cells o) (λt:Tm=>t.cells bF) l (λt _=>by rw[Tm.kj];rfl) (λt _=>by rw[Tm.kj];rfl) (λt _ y hy=>?_) (λt ht i h1 h2 u hu=>?_) h
  ·rw[Tm.kj] at hy;simp only[c2,hj,or_false] at hy;rcases hy with rfl|rfl|rfl
   ·rfl
   ·rfl
   ·cases t.gW<;>rfl
  ·have Wm:Tm.iN (t.gW.getD [])<d:=by
    have h3:Tm.iN l<d+1:=hd;have aH:=Tm.x4 ht;have bT:t.dep=Tm.iN (t.gW.getD [])+1:=Tm.qu t;omega
   simp only[Tm.kj] at hu h1 h2 ⊢
   match i,h1 with
   |0,_=>cases hu;exact .b _
   |1,_=>cases hu;exact .s _ (by assumption)
   |2,_=>exact OQ ct d t.gW Wm u hu
def I6{w:World}{o bF:Bool}{O k6:Nat->Prop}{B eG:Nat}(ct:Seen w o bF O k6 B eG):∀(d:Nat) (a:Option (List Fm)),Fm.iN (a.getD [])<d->∀u,R w (λ_=>none) O B (iW o a) u->R w (λ_=>none) k6 eG (iW bF a) u
 |0,a,h,_,_=>by omega
 |d+1,none,_,u,h=>by
  have h:R w (λ_=>none) O B .nilsl u:=h;cases h;exact .nilsl
 |d+1,some l,hd,u,h=>by
  refine a5F (k:=4) ct (λt:Fm=>t.cells o) (λt:Fm=>t.cells bF) l (λt _=>by rw[Fm.kj];rfl) (λt _=>by rw[Fm.kj];rfl) (λt _ y hy=>?_) (λt ht i h1 h2 u hu=>?_) h
  ·rw[Fm.kj] at hy;simp only[c2,hj,or_false] at hy;rcases hy with rfl|rfl|rfl|rfl
   ·rfl
   ·rfl
   ·cases t.gW<;>rfl
   ·cases t.gz<;>rfl
  ·have Wm:Fm.iN (t.gz.getD [])<d:=by
    have h3:Fm.iN l<d+1:=hd;have aH:=Fm.x4 ht;have bT:t.dep=max (Tm.iN (t.gW.getD [])) (Fm.iN (t.gz.getD []))+1:=Fm.qu t;omega
   simp only[Fm.kj] at hu h1 h2 ⊢
   match i,h1 with
   |0,_=>cases hu;exact .i _ _
   |1,_=>cases hu;exact .s _ (by assumption)
   |2,_=>exact OQ ct _ t.gW (mD _) u hu
   |3,_=>exact I6 ct d t.gz Wm u hu
end
theorem tokOf_ok(F:Fm): @TokOk (tokOf F):=by
 letI:Tok:=tokOf F
 refine⟨λ{w O B eG i old u} h=>?_,λ{w O B i u} h=>?_⟩
 ·have ct:Seen w old true O (λ_=>False) B eG:=λaG _ _ _=>⟨λh=>h,λh=>by cases h⟩
  by_cases hi:i=0
  ·subst hi;exact OQ ct _ F.gW (mD _) u h
  ·have e:∀o,Tok.qS o i=iW o F.gz:=λo=>by
    show cond (Nat.beq i 0) (jJ o F.gW) (iW o F.gz)=_;cases i with
    |zero=>exact absurd I hi
    |succ i=>rfl
   rw[e] at h ⊢;exact I6 ct _ F.gz (mD _) u h
 ·have ct:Seen w false false O (λb=>b<B) B B:=λaG _ _ h=>⟨λh2=>by have:=h I;omega,h⟩
  by_cases hi:i=0
  ·subst hi;exact OQ ct _ F.gW (mD _) u h
  ·have e:∀o,Tok.qS o i=iW o F.gz:=λo=>by
    show cond (Nat.beq i 0) (jJ o F.gW) (iW o F.gz)=_;cases i with
    |zero=>exact absurd I hi
    |succ i=>rfl
   rw[e] at h ⊢;exact I6 ct _ F.gz (mD _) u h
inductive b7(T:Tok):AV->AV->Prop
 |i (k:IntKind) (n:Int):b7 T (.i k n) (.i k n)
 |s (l:List Nat):b7 T (.s l) (.s l)
 |b (x:Bool):b7 T (.b x) (.b x)
 |nil:b7 T .nilsl .nilsl
 |y (i:Nat) (h:(∃k n,T.EG i= .i k n)\/∃l,T.EG i= .s l):b7 T (.y i) (T.EG i)
 |gP (o:Bool) (i:Nat) (v:AV) (h:T.qS o i= .nilsl\/∃ab l,T.qS o i= .aV o ab l) (aq:b7 T (T.qS o i) v):b7 T (.gP o i) v
 |aj (l m:List AV) (hl:l.length=m.length) (h:∀i (h:i<l.length) (h':i<m.length),b7 T l[i] m[i]):b7 T (.aj l) (.aj m)
 |bg (l m:List AV) (hl:l.length=m.length) (h:∀i (h:i<l.length) (h':i<m.length),b7 T l[i] m[i]):b7 T (.bg l) (.bg m)
 |aV (o:Bool) (ab:Option Nat) (c d:List (List AV)) (hl:c.length=d.length) (eZ:∀i (h:i<c.length) (h':i<d.length),(c[i]).length=(d[i]).length) (h:∀i (h:i<c.length) (h':i<d.length) j (aA:j<(c[i]).length) (fB:j<(d[i]).length),b7 T (c[i])[j] (d[i])[j]):b7 T (.aV o ab (c.map AV.aj)) (.aV o ab (d.map AV.aj))
def b7.conf{T:Tok}{v bn:AV}(h:b7 T v bn):conf none v=conf none bn:=by
 induction h with
 |y i h=>rcases h with⟨k,n,e⟩|⟨l,e⟩<;>rw[e]<;>rfl
 |gP o i v h aq aC=>rw[<-aC];rcases h with e|⟨ab,l,e⟩<;>rw[e]<;>rfl
 |_=>rfl
def b7.R{T ic:Tok}{w:World}{O:Nat->Prop}{B:Nat}{v bn:AV}(h:b7 T v bn):∀u,@Go.Lyc.R T w (λ_=>none) O B v u↔ @Go.Lyc.R ic w (λ_=>none) O B bn u:=by
 induction h with
 |i k n=>exact λu=>⟨λh=>by cases h;exact .i _ _,λh=>by cases h;exact @Go.Lyc.R.i T w _ O B _ _⟩
 |s l=>exact λu=>⟨λh=>by cases h;exact .s _ (by assumption),λh=>by cases h;exact @Go.Lyc.R.s T w _ O B _ (by assumption)⟩
 |b x=>exact λu=>⟨λh=>by cases h;exact .b _,λh=>by cases h;exact @Go.Lyc.R.b T w _ O B _⟩
 |nil=>exact λu=>⟨λh=>by cases h;exact .nilsl,λh=>by cases h;exact @Go.Lyc.R.nilsl T w _ O B⟩
 |y i h=>
  intro u;constructor
  ·intro hR;cases hR with
   |y hl=>
    rcases h with⟨k,n,e⟩|⟨l,e⟩
    ·rw[e] at hl ⊢;cases hl;exact .i _ _
    ·rw[e] at hl ⊢;cases hl with
     |s l h=>exact .s l h
  ·intro hR;refine @Go.Lyc.R.y T w _ O B i u ?_;rcases h with⟨k,n,e⟩|⟨l,e⟩
   ·rw[e] at hR ⊢;cases hR;exact .i _ _
   ·rw[e] at hR ⊢;cases hR with
    |s l h=>exact .s l h
 |gP o i v h aq aC=>
  intro u;constructor
  ·intro hR;cases hR with
   |gP hu h=>exact(aC u).1 h
  ·intro hR;have h2:=(aC u).2 hR;obtain⟨a,l,c,e⟩:∃a l c,u= .slice a l c:=by
    rcases h with e|⟨ab,l,e⟩
    ·rw[e] at h2;cases h2;exact⟨_,_,_,rfl⟩
    ·rw[e] at h2;cases h2<;>exact⟨_,_,_,rfl⟩
   exact @Go.Lyc.R.gP T w _ O B i o u a l c e h2
 |aj l m hl h aC=>
  intro u;constructor
  ·intro hR;cases hR with
   |aj al ak hf=>
    refine .aj U (λi h1 h2=>(aC i U h1 _).1 (ak i U h2)) λx hx=>?_;obtain⟨i,hi,rfl⟩:=iP hx;rw[<-(h i U hi).conf];exact hf _ (bC _)
  ·intro hR;cases hR with
   |aj al ak hf=>
    refine @Go.Lyc.R.aj T w _ O B l _ U (λi h1 h2=>(aC i h1 U _).2 (ak i U h2)) λx hx=>?_;obtain⟨i,hi,rfl⟩:=iP hx;rw[(h i hi U).conf];exact hf _ (bC _)
 |bg l m hl h aC=>
  intro u;constructor
  ·intro hR;cases hR with
   |bg al ak=>exact .bg U λi h1 h2=>(aC i U h1 _).1 (ak i U h2)
  ·intro hR;cases hR with
   |bg al ak=>exact @Go.Lyc.R.bg T w _ O B l _ U λi h1 h2=>(aC i h1 U _).2 (ak i U h2)
 |aV o ab c d hl eZ h aC=>
  have key:∀(Wn qs:Tok) (c d:List (List AV)),c.length=d.length->(∀i (h:i<c.length) (h':i<d.length),(c[i]).length=(d[i]).length)->(∀i (h:i<c.length) (h':i<d.length) j (aA:j<(c[i]).length) (fB:j<(d[i]).length),Go.Lyc.conf none (c[i])[j]=Go.Lyc.conf none (d[i])[j]/\∀u,@Go.Lyc.R Wn w (λ_=>none) O B (c[i])[j] u→ @Go.Lyc.R qs w (λ_=>none) O B (d[i])[j] u)->∀u,@Go.Lyc.R Wn w (λ_=>none) O B (.aV o ab (c.map AV.aj)) u→ @Go.Lyc.R qs w (λ_=>none) O B (.aV o ab (d.map AV.aj)) u:=by
   intro Wn qs c d hl eZ hh u hR;generalize hx:c.map AV.aj=xs at hR;cases hR with
   |mH=>
    obtain rfl:=Vy.1 hx;obtain rfl:d=[]:=w0.1 (by simpa using hl.symm);exact .mH
   |aV ba cv al aa ak hL hf fI=>
    have gS:xs.length=c.length:=by rw[<-hx,bB]
    have hg:∀i (h:i<xs.length) (h':i<c.length),xs[i]= .aj c[i]:=λi h h'=>by subst hx;simp
    have Fh:(d.map AV.aj).length=xs.length:=by rw[bB];omega
    have n_:∀i (h:i<(d.map AV.aj).length) (h':i<d.length),(d.map AV.aj)[i]= .aj d[i]:=λi h h'=>by simp
    have aY:d.map AV.aj≠[]->xs≠[]:=λh e=>h (w0.1 (by rw[Fh,e];rfl));rw[<-Fh];refine .aV ba (λh=>cv (aY h)) (λi h=>?_) (λi h j aA=>?_) (λi h j aA=>?_) U (λv aq x cX=>?_) (λh=>fI (aY h))
    ·have h1:=al i U;rw[hg i U U] at h1;rw[n_ i h U];cases ab with
     |none=>cases h1
     |some k=>
      have h1:Nat.beq (c[i]'U).length k=true:=h1;show Nat.beq (d[i]'U).length k=true;rw[<-eZ i U U];exact h1
    ·have aM:((d.map AV.aj)[i]).cells.length=(d[i]'U).length:=by rw[n_ i h U];rfl
     have aU:(xs[i]'U).cells.length=(c[i]'U).length:=by rw[hg i U U];rfl
     exact aa i U j (by rw[aU,eZ i U U,← aM];exact aA)
    ·have aM:((d.map AV.aj)[i]).cells=d[i]'U:=by rw[n_ i h U];rfl
     have aU:(xs[i]'U).cells=c[i]'U:=by rw[hg i U U];rfl
     have oe:j<(d[i]'U).length:=by rw[<-aM];exact aA
     have iI:j<(c[i]'U).length:=by rw[eZ i U U];exact oe
     have h3:=ak i U j (by rw[aU];exact iI);simp only[aU] at h3;simp only[aM];exact(hh i U U j iI oe).2 _ h3
    ·obtain⟨i,hi,rfl⟩:=iP aq;have aM:((d.map AV.aj)[i]).cells=d[i]'(by rw[bB] at hi;exact hi):=by rw[n_ i hi (by rw[bB] at hi;exact hi)];rfl
     rw[bB] at hi;rw[aM] at cX;obtain⟨j,aA,rfl⟩:=iP cX;have aU:(xs[i]'U).cells=c[i]'U:=by rw[hg i U U];rfl
     have iI:j<(c[i]'U).length:=by rw[eZ i U U];exact aA
     rw[<-(hh i U U j iI aA).1];exact hf _ (bC (show i<xs.length by omega)) _ (by rw[aU];exact bC _)
  intro u;constructor
  ·exact key T ic c d hl eZ (λi h1 h2 j aA fB=>⟨(h i h1 h2 j aA fB).conf,λu=>(aC i h1 h2 j aA fB u).1⟩) u
  ·exact key ic T d c hl.symm (λi h1 h2=>(eZ i h2 h1).symm) (λi h1 h2 j aA fB=>⟨(h i h2 h1 j fB aA).conf.symm,λu=>(aC i h2 h1 j fB aA u).2⟩) u
def a5G:AV->Bool
 | .i _ _=>true
 | .s _=>true
 | .b _=>true
 | .nilsl=>true
 |_=>false
def b7.leaf{T:Tok}{v:AV}(h:a5G v=true):b7 T v v:=by
 cases v with
 |i k n=>exact .i k n
 |s l=>exact .s l
 |b x=>exact .b x
 |nilsl=>exact .nil
 |_=>cases h
def I7(env:Env):Prop:=∀g v,env.nM g=some v->∃l,v= .aj l/\∀x∈l,a5G x=true
def Globs.iL{ic T:Tok}{env:Env}(hl:I7 env){w:World}{B:Nat}(h: @Globs ic env w B): @Globs T env w B:=λg v hg eG=>by
 have hR:=h g v hg eG;obtain⟨l,rfl,hl⟩:=hl g v hg;cases hR with
 |df ba cv hb b0 aa ak hf=>exact .df ba cv hb b0 aa (λj aA=>((b7.leaf (T:=ic) (hl _ (bC aA))).R (ic:=T) _).1 (ak j aA)) hf
def b7.entry{T ic:Tok}{P:Program}{env:Env}(dt:I7 env){b2 g:Nat}{aO pb:List AV}{r bR:AV}(hl:aO.length=pb.length)(h:∀i (h:i<aO.length) (h':i<pb.length),b7 T aO[i] pb[i])(ak:b7 T r bR): @SpecEntry T P env b2 g aO r↔ @SpecEntry ic P env b2 g pb bR:=by
 constructor
 ·intro lY;exact⟨lY.1,λk rd w us b0 FK hR=>(lY.2 k rd w us b0 (FK.iL dt) ⟨by rw[hR.1,hl],λi h1 h2=>((h i h1 U).R _).2 (hR.2 i U h2)⟩).mono λe b4 ⟨u,aM,aU,c3⟩=>⟨u,aM,(ak.R _).1 aU,c3⟩⟩
 ·intro lY;exact⟨lY.1,λk rd w us b0 FK hR=>(lY.2 k rd w us b0 (FK.iL dt) ⟨by rw[hR.1,hl],λi h1 h2=>((h i U h1).R _).1 (hR.2 i U h2)⟩).mono λe b4 ⟨u,aM,aU,c3⟩=>⟨u,aM,(ak.R _).2 aU,c3⟩⟩
end
section
variable [Tok][TokOk]
open Go.RowKit Go.Lyc.T
structure oh(b:bJ):Prop where
 SN:HB b GD L1
 c6z:HB b Mu L2
 c6A:HB b Mw L8
 c6B:HB b Mv L0
 c6C:HB b SA R7
 G6:HB b Su Sb
 assumptions:HB b Sv L3
 beside:HB b Sw Sc
 G7:HB b St R8
 c6D:HB b Sx Sk
 c6E:HB b Ms LA
 c6F:HB b GC Gf
 c6G:HB b Dg Gl
 c6H:HB b Mt LS
 c6I:HB b yg L5
 c6J:HB b yh L6
 a5H:HB b Dh C0
 c6K:HB b Sy R_
 c6L:HB b Sz R6
 c6M:HB b yi Gg
 c6N:HB b Mx LM
 c6O:HB b My LU
 c6P:HB b GG L7
 c6Q:HB b yj LV
 c6R:HB b yk LW
 c6S:HB b rp Gn
 c6T:HB b yl LX
 c6U:HB b SB Sm
 c6V:HB b Mz Ma
 c6W:HB b wI Mb
 c6X:HB b u2 Gp
 c6Y:HB b MA Mc
 c6Z:HB b a1k So
 a5I:HB b Ss Gr
 c7a:HB b a1l LK
 Made:HB b Mq lI
 c7b:HB b ye F9
 c7c:HB b Dd Lu
 line:HB b GB F_
 c7d:HB b De CY
 c7e:HB b Gz Lw
 c7f:HB b Mr Lt
 join:HB b Df CZ
 atom:HB b GA Gc
 d2g:HB b b8X a1i
 Wo:lP b uZ Lv
 a5J:lP b Aq LD
 Wp:lP b u0 Ls
 a5K:lP b yn Mg
 Wq:lP b u3 LC
 OR:lP b pO Lr
 a5L:lP b yd Gq
 OS:lP b yf C2
 Wr:lP b tC LF
 a5M:lP b Ar F8
 a5N:lP b u1 Ga
 OT:lP b oO Gh
 s_:∀g∈[mZ,pN,mo,ym,wH,rn],b.ext g=0/\b.pure g=true
def oh.xp{b:bJ}(h:oh b){g:Nat}(hg:x5 [mZ,pN,mo,ym,wH,rn] g=true):b.ext g=0/\b.pure g=true:=h.s_ g (Ld hg)
def PF.c7g{a x:PF}(h:x∈a.subs):x.b1<a.b1:=by
 cases a with
 | gb _=>simp[PF.subs] at h
 |cC=>simp[PF.subs] at h
 |neg a=>rw[cA.1 h];exact mD _
 |bin k a b=>
  show x.b1<a.b1+b.b1+1;rcases c2.1 h with rfl|h
  ·omega
  ·rw[cA.1 h];omega
def a5O:∀(n:Nat) (v:AV),fs n v=true->fs (n+1) v=true
 |0,_,h=>by cases h
 |n+1,v,h=>by
  have aC:=a5O n;have g_:∀ {l:List AV},cN (fs n) l=true->cN (fs (n+1)) l=true:=λ{l} h=>jI λx hx=>aC x (nv h x hx);rw[nu] at h ⊢;cases v with
  |df o v=>
   have h:(!o&&cN (fs n) v.cells)=true:=h;show(!o&&cN (fs (n+1)) v.cells)=true;rw[dD] at h ⊢;exact⟨h.1,g_ h.2⟩
  |aV o ab xs=>
   have h:((!o||xs.isEmpty)&&cN (λx=>cN (fs n) x.cells) xs)=true:=h;show((!o||xs.isEmpty)&&cN (λx=>cN (fs (n+1)) x.cells) xs)=true;rw[dD] at h ⊢;exact⟨h.1,jI λx hx=>g_ (nv h.2 x hx)⟩
  |it t v=>exact aC v h
  |aj l=>exact g_ h
  |bg l=>exact g_ h
  |f g x y=>
   have h:(cN (fs n) x&&cN (fs n) y)=true:=h;show(cN (fs (n+1)) x&&cN (fs (n+1)) y)=true;rw[dD] at h ⊢;exact⟨g_ h.1,g_ h.2⟩
  |_=>exact h
def OU:∀(d:Nat) (a:PF) {n:Nat},a.dep<=d->2*d+2<=n->fs n (.aj (h_ a.aI))=true
 |0,a,_,hd,_=>by cases a<;>simp[PF.dep] at hd
 |d+1,a,n,hd,hn=>by
  obtain⟨n,rfl⟩:∃m,n=m+2:=⟨n-2,U⟩
  rw[PF.T9,nu];have al:∀x∈a.subs,fs n (.aj (h_ x.aI))=true:=λx hx=>OU d x (by have:=PF.l9 hx;omega) U;have aH:fs (n+1) (slA false (some 4) (a.subs.map λx=>.aj (h_ x.aI)))=true:=by
   cases c7h:a.subs with
   |nil=>rfl
   |cons x l=>
    rw[c7h] at al;show fs (n+1) (.aV false (some 4) ((x::l).map λx=>.aj (h_ x.aI)))=true;rw[nu];show((!false||_)&&cN (λx=>cN (fs n) x.cells) ((x::l).map λx=>AV.aj (h_ x.aI)))=true;rw[Bool.not_false,Bool.true_or,pI];refine jI λv aq=>?_;obtain⟨y,hy,rfl⟩:=cT.1 aq;have:=al y hy;obtain⟨n,rfl⟩:∃m,n=m+1:=⟨n-1,U⟩
    rw[nu] at this;have this:cN (fs n) (h_ y.aI)=true:=this;exact jI λz a_=>a5O _ _ (nv this z a_)
  refine jI λy hy=>?_;simp only[c2,hj,or_false] at hy;rcases hy with rfl|rfl|rfl|rfl
  ·rfl
  ·rfl
  ·rfl
  ·exact aH
section
variable {P:Program}{b:bJ}(hb:lb P b)(fb:oh b){db b8:AV}
structure y9(P:Program)(b:bJ)(db b8:AV):Prop where
 st:er P b wH [.nilsl,.nilsl] (.b true)
 right:∀a:PF,a.low->er P b mZ [a.aI.A true] (.b true)
 iz:∀a:PF,a.low->er P b pN [db,a.aI.A true] (.b true)
 D3:er P b mo [db] (.b true)
 hZ:∀r∈rulesP,er P b ym [r.A] (.b true)
include hb fb
theorem a5P:∀(n:Nat) (a:PF),a.dep<=n->a.dep<=190->a.b1<2^62->er P b uZ [a.aI.A true] (ag a.b1)
 |0,a,hd,_,_=>by cases a<;>simp[PF.dep] at hd
 |n+1,a,hd,iT,al=>λb2=>by
  rw[oa];exact n0 hb (cU.ok (db:=.nilsl) (b8:=.nilsl)) _ fb.Wo.1 I I I I (qv _ _).1 (qv _ _).2 (c1C cU.fn a (λx hx=>by rw[PF.kb];have:=PF.l9 hx;omega) al fb.Wo.2 (λx hx=>cU.jQ (a5P n x (by have:=PF.l9 hx;omega) (by have:=PF.l9 hx;omega) (by have:=PF.c7g hx;omega)) (a5u x) λr h=>h.size I x I) _ I) b2
theorem a5Q(cq:er P b wH [.nilsl,.nilsl] (.b true)):∀(n:Nat) (a c:PF),a.dep<=n->a.dep<=190->c.dep<=190->er P b u0 [a.aI.A true,c.aI.A true] (.b (decide (a=c)))
 |0,a,_,hd,_,_=>by cases a<;>simp[PF.dep] at hd
 |n+1,a,c,hd,iT,xT=>by
  have n6:∀ {x:PF},x∈a.subs->x.aI.dep<=200/\x.dep<=n/\x.dep<=190:=λ{x} hx=>by rw[PF.kb];have:=PF.l9 hx;omega
  have ta:∀ {x:PF},x∈c.subs->x.aI.dep<=200/\x.dep<=190:=λ{x} hx=>by rw[PF.kb];have:=PF.l9 hx;omega
  have jo:∀(x:PF),x.dep<=190->∀τ,bt τ (b.bh+1000) (j_ x)=some (j_ x):=λx hx τ=>D2 (n:=b.bh+999) λy hy=>by
   have h1:=Fm.snap τ true _ y.aI (b.bh+999) (a8 _) (by rw[PF.kb];have:=PF.l9 hy;omega);rwa[j4] at h1
  have h1:er P b Aq [j_ a,j_ c] (.b (decide (a.subs=c.subs))):=λb2=>n0 hb (cU.ok (db:=.nilsl) (b8:=.nilsl)) _ fb.a5J.1 I I I I (ka _).1 (ka _).2 (c1x cU.fn a.subs c.subs ⟨a.vm,c.vm⟩ (λx hx=>(n6 hx).1) (λx hx=>(ta hx).1) fb.Wp.2 (λx hx y hy=>cU.jQ (a5Q cq n x y (n6 hx).2.1 (n6 hx).2.2 (ta hy).2) (a5v x y) λr h=>h.a5s I x y I) _ I) b2;intro b2;rw[oa,oa];exact n0 hb (cU.ok (db:=.nilsl) (b8:=.nilsl)) _ fb.Wp.1 I I I I (ka _).1 (ka _).2 (c1y cU.fn a c (fb.xp I) (cU.jQ cq (vF b_) λr h=>h.vE b_) fb.a5J.2 (cU.jQ h1 (c6l a c) λr h=>h.c6h I a c I) (jo a iT) (jo c xT) _ I) b2
theorem a5R:∀(n:Nat) (a c:PF),a.dep<=n->a.dep<=190->c.dep<=190->er P b yn [a.aI.A true,c.aI.A true,.nilsl] (.b (decide (a=c)))
 |0,a,_,hd,_,_=>by cases a<;>simp[PF.dep] at hd
 |n+1,a,c,hd,iT,xT=>λb2=>by
  have n6:∀ {x:PF},x∈a.subs->x.aI.dep<=200/\x.dep<=n/\x.dep<=190:=λ{x} hx=>by rw[PF.kb];have:=PF.l9 hx;omega
  have ta:∀ {x:PF},x∈c.subs->x.aI.dep<=200/\x.dep<=190:=λ{x} hx=>by rw[PF.kb];have:=PF.l9 hx;omega
  rw[oa,oa];exact n0 hb (cU.ok (db:=.nilsl) (b8:=.nilsl)) _ fb.a5K.1 I I I I (ka _).1 (ka _).2 (c1u cU.fn a c (by rw[PF.kb,PF.kb];omega) fb.a5I.h fb.a5K.2 (λx hx y hy=>cU.jQ (a5R n x y (n6 hx).2.1 (n6 hx).2.2 (ta hy).2) (c6m x y) λr h=>h.c6i I x y I) (λx hx=>(n6 hx).1) (λx hx=>(ta hx).1) _ I) b2
theorem a5S:∀(n:Nat) (a c:PF),a.dep<=n->a.dep<=190->c.dep<=190->er P b u3 [a.aI.A true,c.aI.A true,.nilsl] (.b (decide (a=c)))
 |0,a,_,hd,_,_=>by cases a<;>simp[PF.dep] at hd
 |n+1,a,c,hd,iT,xT=>λb2=>by
  have n6:∀ {x:PF},x∈a.subs->x.aI.dep<=200/\x.dep<=n/\x.dep<=190:=λ{x} hx=>by rw[PF.kb];have:=PF.l9 hx;omega
  have ta:∀ {x:PF},x∈c.subs->x.aI.dep<=200/\x.dep<=190:=λ{x} hx=>by rw[PF.kb];have:=PF.l9 hx;omega
  rw[oa,oa];exact n0 hb (cU.ok (db:=.nilsl) (b8:=.nilsl)) _ fb.Wq.1 I I I I (ka _).1 (ka _).2 (c1v cU.fn a c (by rw[PF.kb,PF.kb];omega) fb.c7a.h fb.Wq.2 (λx hx y hy=>cU.jQ (a5S n x y (n6 hx).2.1 (n6 hx).2.2 (ta hy).2) (a5w x y) λr h=>h.a5t I x y I) (λx hx=>(n6 hx).1) (λx hx=>(ta hx).1) _ I) b2
theorem c7i(ak:∀a:PF,a.low->er P b mZ [a.aI.A true] (.b true))(a c:PF)(ha:a.low)(aa:c.low):er P b pO [a.aI.A true,c.aI.A true] (.b (decide (a=c))):=λb2=>by
 have h1:=ha.1;have h2:=aa.1;have c7j:=ak a ha;have c7k:=ak c aa;rw[oa,oa];exact n0 hb (cU.ok (db:=.nilsl) (b8:=.nilsl)) _ fb.OR.1 I I I I (ka _).1 (ka _).2 (c1w cU.fn a c (by rw[PF.kb];omega) (by rw[PF.kb];omega) (fb.xp I) (cU.jQ c7j (vF b_) λr h=>h.vE b_) (cU.jQ c7k (vF b_) λr h=>h.vE b_) fb.Wq.2 (cU.jQ (a5S hb fb _ a c (a8 _) U U) (a5w a c) λr h=>h.a5t I a c I) _ I) b2
theorem a5T(S F:Fm)(lg:∀τ,bt τ (b.bh+1000) (vo S F)=some (vo S F)):∀(n:Nat) (a:PF),a.dep<=n->a.dep<=190->er P b yd [vo S F,a.aI.A true,.nilsl] (.bg [a.aI.A false,.b true])
 |0,a,hd,_=>by cases a<;>simp[PF.dep] at hd
 |n+1,a,hd,iT=>λb2=>by
  have n6:∀ {x:PF},x∈a.subs->x.aI.dep<=200/\x.dep<=n/\x.dep<=190:=λ{x} hx=>by rw[PF.kb];have:=PF.l9 hx;omega
  rw[oa];refine Hi hb (cU.ok (db:=.nilsl) (b8:=.nilsl)) (ae:=1000) _ fb.a5L.1 I I I ?_ ?_ (c1D cU.fn S F lg a fb.a5I.h (λx hx=>(n6 hx).1) fb.a5L.2 (λx hx=>cU.jQ (a5T S F lg n x (n6 hx).2.1 (n6 hx).2.2) (c6o _ x) λr h=>h.c6j I x _ I) _ I) b2
  ·rw[yI,nu];refine jI λy hy=>?_;simp only[c2,hj,or_false] at hy;rcases hy with rfl|rfl
   ·exact OU _ a (n:=999) (a8 _) U
   ·rfl
  ·rw[yI];refine(pK λy hy=>?_:gu (AV.eqb 999) [AV.aj (h_ a.aI),.b true] [AV.aj (h_ a.aI),.b true]=true);simp only[c2,hj,or_false] at hy;rcases hy with rfl|rfl
   ·exact(e1.tree (W:=λ_=>True) (J:=⟨.nil,0⟩) _ (a8 a.dep)).eqb _ (a8 _) (n:=999) U
   ·rfl
end
end
section
open Go Go.RowKit Go.Lyc.T
section
variable [Tok]
def xq(k j:Nat)(o:Bool):List AV:=[.y (10*k+2+2*j),.y (10*k+3+2*j),.nilsl,.gP o (10*k+j)]
def rT(k s:Nat)(o:Bool):List AV:=[.y (10*k),.y (10*k+1),.nilsl,slA o (some 4) ((List.range s).map λj=>.aj (xq k j o))]
end
def a5U(x:PF)(r:Nat):AV:=cond (Nat.beq r 0) (uB x.op) (.s x.aW)
def Ws(f g:PF)(i:Nat):PF:=cond (Nat.beq (i/10) 0) f g
abbrev ie(f g:PF):Tok:=⟨λi=>cond (Nat.blt (i%10) 2) (a5U (Ws f g i) (i%10)) (a5U ((Ws f g i).subs.getD ((i%10-2)/2) .cC) ((i%10-2)%2)),λo i=>iW o ((Ws f g i).subs.getD (i%10) .cC).aI.gz⟩
theorem rU(f g:PF): @TokOk (ie f g):=by
 letI:Tok:=ie f g
 refine⟨λ{w O B eG i old u} h=>?_,λ{w O B i u} h=>?_⟩
 ·exact I6 (λaG _ _ _=>⟨λh=>h,λh=>by cases h⟩) _ _ (mD _) u h
 ·exact I6 (λaG _ _ h=>⟨λh2=>by have:=h I;omega,h⟩) _ _ (mD _) u h
def PF.Wt{a x:PF}(h:x∈a.subs):x.dep<a.dep:=@PF.l9 (ie .cC .cC) (rU _ _) _ _ h
def PF.OV(a:PF):a.subs.length<=2:=@PF.vm (ie .cC .cC) (rU _ _) a
def PF.By(o:Bool)(a:PF):a.aI.cells o=[uB a.op,.s a.aW,.nilsl,slA o (some 4) (a.subs.map λx=>x.aI.A o)]:=by
 rw[Fm.kj];cases a<;>rfl
def a5V(o:Bool)(a:PF):iW o a.aI.gz=slA o (some 4) (a.subs.map λx=>x.aI.A o):=by cases a<;>rfl
def b7.cells{T:Tok}{l m:List AV}(h:b7 T (.aj l) (.aj m)):l.length=m.length/\∀i (h:i<l.length) (h':i<m.length),b7 T l[i] m[i]:=by
 cases h with
 |aj _ _ hl h=>exact⟨hl,h⟩
def b7.ao{T:Tok}{o:Bool}{ab:Option Nat}{c d:List (List AV)}(hl:c.length=d.length)(h:∀i (h:i<c.length) (h':i<d.length),b7 T (.aj c[i]) (.aj d[i])):b7 T (slA o ab (c.map AV.aj)) (slA o ab (d.map AV.aj)):=by
 cases c with
 |nil=>
  obtain rfl:d=[]:=w0.1 hl.symm;exact .nil
 |cons x c=>
  cases d with
  |nil=>simp at hl
  |cons y d=>exact .aV o ab (x::c) (y::d) hl (λi h1 h2=>(h i h1 h2).cells.1) λi h1 h2 j aA fB=>(h i h1 h2).cells.2 j aA fB
def b7.four{T:Tok}{aQ aZ bX cS dg cD dn e4:AV}(h1:b7 T aQ dg)(h2:b7 T aZ cD)(h3:b7 T bX dn)(aH:b7 T cS e4):b7 T (.aj [aQ,aZ,bX,cS]) (.aj [dg,cD,dn,e4]):=.aj _ _ I λi h h'=>by
 match i,h with
 |0,_=>exact h1
 |1,_=>exact h2
 |2,_=>exact h3
 |3,_=>exact aH
def b7.fS{T:Tok}(o:Bool):∀(d:Nat) (a:PF),a.dep<=d->b7 T (a.aI.A o) (a.aI.A o)
 |0,a,hd=>by cases a<;>simp[PF.dep] at hd
 |d+1,a,hd=>by
  unfold Fm.A;rw[PF.By];refine b7.four (.i _ _) (.s _) .nil ?_;have e:(a.subs.map λx=>x.aI.A o)=(a.subs.map λx=>x.aI.cells o).map AV.aj:=by rw[kq];rfl
  rw[e];refine b7.ao I λi h h'=>?_;rw[bB] at h;rw[ez];exact b7.fS o d a.subs[i] (by have:=PF.Wt (bC h);omega)
section
variable {f g:PF}
def rV(f g:PF)(k:Nat):PF:=cond (Nat.beq k 0) f g
def Wu(o:Bool){k j:Nat}(aB:k<2)(aA:j<2)(hx:j<(rV f g k).subs.length):b7 (ie f g) (.aj (xq k j o)) (((rV f g k).subs[j]).aI.A o):=by
 have hg:(rV f g k).subs.getD j .cC=(rV f g k).subs[j]:=by rw[fD,cp hx];rfl
 rw[<-hg];unfold Fm.A;rw[PF.By,← a5V];have key:∀x:PF,(ie f g).qS o (10*k+j)=iW o x.aI.gz->b7 (ie f g) (.gP o (10*k+j)) (iW o x.aI.gz):=λx e=>by
  refine .gP o _ _ ?_ ?_
  ·rw[e];cases x.aI.gz with
   |none=>exact .inl I
   |some l=>exact .inr ⟨_,_,rfl⟩
  ·rw[e];have:=b7.fS (T:=ie f g) o _ x (a8 _);unfold Fm.A at this;rw[PF.By,← a5V] at this;exact this.cells.2 3 ay ay
 have bj:k=0\/k=1:=by omega
 have tp:j=0\/j=1:=by omega
 rcases bj with rfl|rfl<;>rcases tp with rfl|rfl
 all_goals exact b7.four (.y _ (.inl ⟨_,_,rfl⟩)) (.y _ (.inr ⟨_,rfl⟩)) .nil (key _ I)
def OW(o:Bool){k:Nat}(aB:k<2):b7 (ie f g) (.aj (rT k (rV f g k).subs.length o)) ((rV f g k).aI.A o):=by
 have hl:=(rV f g k).OV;have aH:b7 (ie f g) (slA o (some 4) ((List.range (rV f g k).subs.length).map λj=>.aj (xq k j o))) (slA o (some 4) ((rV f g k).subs.map λx=>x.aI.A o)):=by
  have aM:((List.range (rV f g k).subs.length).map λj=>AV.aj (xq k j o))=((List.range (rV f g k).subs.length).map λj=>xq k j o).map AV.aj:=by rw[kq];rfl
  have aU:((rV f g k).subs.map λx=>x.aI.A o)=((rV f g k).subs.map λx=>x.aI.cells o).map AV.aj:=by rw[kq];rfl
  rw[aM,aU];refine b7.ao ay λi h h'=>?_;rw[bB,nc] at h;rw[ez,ez,pg];exact Wu o aB U h
 unfold Fm.A;rw[PF.By];have bj:k=0\/k=1:=by omega
 rcases bj with rfl|rfl
 all_goals exact b7.four (.y _ (.inl ⟨_,_,rfl⟩)) (.y _ (.inr ⟨_,rfl⟩)) .nil aH
end
inductive vH where
 |a
 |b
 |bin (k:Fin 3)
 |neg
 |cC
def vH.fS(f g:PF):vH->PF
 | .a=>f
 | .b=>g
 | .bin k=>.bin k f g
 | .neg=>.neg f
 | .cC=>.cC
def vH.ig(s1 s2:Nat)(o:Bool):vH->List AV
 | .a=>rT 0 s1 o
 | .b=>rT 1 s2 o
 | .bin k=>[.i .u8 (Int.ofNat (4+k.val)),.s [],.nilsl,.aV o (some 4) [.aj (rT 0 s1 o),.aj (rT 1 s2 o)]]
 | .neg=>[.i .u8 3,.s [],.nilsl,.aV o (some 4) [.aj (rT 0 s1 o)]]
 | .cC=>[.i .u8 2,.s [],.nilsl,.nilsl]
def vH.c7l(f g:PF)(o:Bool)(t:vH):b7 (ie f g) (.aj (t.ig f.subs.length g.subs.length o)) ((t.fS f g).aI.A o):=by
 have h0:=OW (f:=f) (g:=g) o (k:=0) b_;have h1:=OW (f:=f) (g:=g) o (k:=1) b_;cases t with
 |a=>exact h0
 |b=>exact h1
 |bin k=>
  show b7 _ _ (AV.aj ((PF.bin k f g).aI.cells o));rw[PF.By];refine b7.four (.i _ _) (.s _) .nil ?_;exact b7.ao (o:=o) (ab:=some 4) (c:=[rT 0 f.subs.length o,rT 1 g.subs.length o]) (d:=[f.aI.cells o,g.aI.cells o]) I λi h h'=>by
   match i,h with
   |0,_=>exact h0
   |1,_=>exact h1
 |neg=>
  show b7 _ _ (AV.aj ((PF.neg f).aI.cells o));rw[PF.By];refine b7.four (.i _ _) (.s _) .nil ?_;exact b7.ao (o:=o) (ab:=some 4) (c:=[rT 0 f.subs.length o]) (d:=[f.aI.cells o]) I λi h h'=>by
   match i,h with
   |0,_=>exact h0
 |cC=>exact b7.four (.i _ _) (.s _) .nil .nil
end
end Go.Lyc
end
