/-
  What functions of the program compute: walks, part 3. No conditions: definitions and laws.
-/
import Derived.Test.YthdbakjhebkohaaGreatDoorW2
set_option linter.all false
noncomputable section
namespace Go.Lyc
set_option maxHeartbeats 0
variable [Tok][TokOk]
open Go.RowKit Go.Lyc.T
theorem PF.je(a:PF):a.aT.dep=a.dep:=by
 induction a with
 | ff q=>rfl
 |ct=>rfl
 |neg a aD=>
  rw[Fm.pL];show max 0 (Fm.gF [a.aT])+1=a.dep+1;rw[Fm.gF,aD,Fm.gF];omega
 |bin k a c aD pg=>
  rw[Fm.pL];show max 0 (Fm.gF [a.aT,c.aT])+1=max a.dep c.dep+1;rw[Fm.gF,aD,Fm.gF,pg,Fm.gF];omega
theorem PF.b6s:∀ {a c:PF},a.aT=c.aT->a=c:=λ{a c} h=>by
 induction a generalizing c with
 | ff q=>cases c with
  | ff lC=>cases q<;>cases lC<;>first|rfl|(injection h with _ h;cases h)
  |bin k _ _=>injection h with h;exact absurd h (by omega)
  |_=>cases h
 |ct=>cases c with
  |ct=>rfl
  |bin k _ _=>injection h with h;exact absurd h (by omega)
  |_=>cases h
 |neg a aD=>cases c with
  |neg c=>injection h with _ _ _ h;injection h with h;injection h with h;rw[aD h]
  |bin k _ _=>injection h with h;exact absurd h (by omega)
  |_=>cases h
 |bin k a bm aD pg=>cases c with
  |bin gv c k4=>
   injection h with h0 _ _ h
   injection h with h
   injection h with h1 h
   injection h with h2
   rw[aD h1,pg h2,Fin.ext (show k.val=gv.val by omega)]
  | ff q=>injection h with h;exact absurd h (by omega)
  |ct=>injection h with h;exact absurd h (by omega)
  |neg c=>injection h with h;exact absurd h (by omega)
theorem PF.k6{a c:PF}(h:a.aT.A true=c.aT.A true):a=c:=PF.b6s (Fm.k6 h)
theorem map_inj{α β:Type}{f:α->β}(hf:∀x y,f x=f y->x=y):∀ {l m:List α},l.map f=m.map f->l=m
 |[],[],_=>rfl
 |[],_::_,h=>by cases h
 |_::_,[],h=>by cases h
 |x::l,y::m,h=>by
  injection h with h1 h2
  rw[hf x y h1,map_inj hf h2]
theorem W4{a c:PF}(h:hT a=hT c):a.subs=c.subs:=by
 have h:=RW h;refine map_inj (f:=λx:PF=>AV.ag (bD x.aT)) (λx y vh=>PF.k6 ?_) h;rw[iW,iW];exact vh
theorem b6t{l m:List (Nat×Nat)}(h:lK true l=lK true m):l=m:=by
 refine map_inj (f:=λc:Nat×Nat=>AV.ag [ah c.1,ah c.2]) (λx y vh=>?_) (RW h);injection vh with h
 injection h with h1 h
 injection h with h2 _
 exact Prod.ext (Int.ofNat.inj (B7 h1)) (Int.ofNat.inj (B7 h2))
theorem bX.k6{x y:bX}(h:x.A=y.A):x=y:=by
 obtain⟨a3,bm,cv,dU,en,kO⟩:=x;obtain⟨ec,dp,dO,e1,lV,b6u⟩:=y;injection h with h
 injection h with h1 h
 injection h with h2 h
 injection h with h3 h
 injection h with f1 h
 injection h with f2 h
 injection h with f3 h
 injection h with f4 h
 injection h with bJ h
 injection h with cu _
 have h6:dU=e1:=Fm.k6 (o:=true) (by rw[iW,iW];show AV.ag [_,_,_,_]=AV.ag [_,_,_,_];rw[f1,f2,f3,f4]);have aN:a3=ec:=Int.ofNat.inj (B7 h1);have a4:bm=dp:=Int.ofNat.inj (B7 h2);have cQ:cv=dO:=by injection h3
 have nE:en=lV:=W1 bJ;have oz:kO=b6u:=b6t cu;rw[aN,a4,cQ,h6,nE,oz]
theorem Nh{T W5:List bX}(h:cD T=cD W5):T=W5:=by
 injection h with _ _ h
 exact map_inj (λx y=>bX.k6) h
def B9(T:List bX):AV:=if iL T T.length=0 then .a6 [.ag [ah 0,.i .u8 0,.i .u8 0,ah 0,ah 0],ah 0] else .a6 [.ag [ah T.length,.i .u8 7,.i .u8 0,ah 0,ah 0],ah 180]
def Ni(r:AV):Prop:=∃cU,r= .a6 [.ag [cU,.ae],ah 0,ah 0]/\(∀J,freeze J 0 998 cU=some cU)/\(∀n,AV.eqb (n+500) cU cU=true)/\∀n,fe (n+500) cU=true
def Gz:List Nat:=[kp,oO,mm,tQ,sr,tI,x3,x2,lH]
structure jf(cG cE:AV)(g:Nat)(aW:List AV)(r:AV):Prop where
 rA:g∈Gz->r= .b true
 A9:g=q4->r=ah 0
 size:g=q2->∀a:PF,aW=[a.aT.A true]->r=ah a.bK
 b6v:g=vR->∀a c:PF,aW=[hT a,hT c]->r= .b (decide (a.subs=c.subs))
 W6:g=q3->∀a c:PF,aW=[a.aT.A true,c.aT.A true]->r= .b (decide (a=c))
 b6w:g=tR->∀a c:PF,aW=[a.aT.A true,c.aT.A true,.ae]->r= .b (decide (a=c))
 W7:g=q6->∀a c:PF,aW=[a.aT.A true,c.aT.A true,.ae]->r= .b (decide (a=c))
 LJ:g=su->∀a c:PF,aW=[a.aT.A true,c.aT.A true]->r= .b (decide (a=c))
 b6x:g=tH->∀a:PF,∀p,aW=[p,a.aT.A true,.ae]->r= .a6 [a.aT.A false,.b true]
 c1T:g=AH->∀a:PF,aW=[a.aT.A true]->r=a.aT.A false
 oY:g=vU->∀T k,aW=[cD T,ah k]->r= .b (tW T k)
 yN:g=vS->∀T,aW=[cD T]->r= .a6 [jP (ndsL T T.length),ah 0]
 b6y:g=vT->∀T,aW=[cG,cD T]->r=B9 T
 ops:g=vJ->∀a:PF,aW=[a.aT.A true]->r= .i .u32 (Int.ofNat (tT a.aT))
 yQ:g=gP->∀x y:eW,aW=[c5 x,c5 y]->r= .i .i64 (nR x y)
 log:g=sm->r=cE
 Bx:g=oP->Ni r
 app:g=tM->∃cU gM gH gI ax,r= .a6 [.ag [cU,gM],.ag [.i .u8 (Int.ofNat gH),ah gI,ah ax],ah 0]
section
variable (P:Program)(b:b8)(cG cE:AV)
def ev(g:Nat)(aW:List AV)(r:AV):Prop:=∀b6,SpecEntry P (b.env []) b6 g aW r
def cK(g:Nat)(aW:List AV)(r:AV):Prop:=∃h:∃r,ev P b g aW r/\jf cG cE g aW r,r=Classical.choose h
end
section
variable {P:Program}{b:b8}{cG cE:AV}
theorem cK.fn:∀g aW r cw,cK P b cG cE g aW r->cK P b cG cE g aW cw->r=cw:=λg aW r cw ⟨h,e⟩ ⟨h',eg⟩=>by rw[e,eg]
theorem cK.ok:Ak P b (cK P b cG cE):=λg aW r ⟨h,e⟩=>by subst e;exact(Classical.choose_spec h).1
theorem cK.get{g:Nat}{aW:List AV}{r:AV}(h:ev P b g aW r)(aV:jf cG cE g aW r):∃r,cK P b cG cE g aW r/\jf cG cE g aW r:=⟨_,⟨⟨r,h,aV⟩,rfl⟩,(Classical.choose_spec (⟨r,h,aV⟩:∃r,ev P b g aW r/\jf cG cE g aW r)).2⟩
theorem cK.hX{g:Nat}{aW:List AV}{r:AV}(h:ev P b g aW r)(aV:jf cG cE g aW r)(hu:∀cw,jf cG cE g aW cw->cw=r):cK P b cG cE g aW r:=by
 obtain⟨cw,h1,h2⟩:=cK.get h aV;rw[<-hu cw h2];exact h1
theorem W8(a:PF):jf cG cE q2 [a.aT.A true] (ah a.bK):=by
 constructor<;>(intro h;first|exact absurd h (by decide)|skip)
 intro c h;rw[PF.k6 (Nf h)]
theorem b6z(a c:PF):jf cG cE vR [hT a,hT c] (.b (decide (a.subs=c.subs))):=by
 constructor<;>(intro h;first|exact absurd h (by decide)|skip)
 intro cn bM h;rw[W4 (nb h).1,W4 (nb h).2]
theorem W9(a c:PF):jf cG cE q3 [a.aT.A true,c.aT.A true] (.b (decide (a=c))):=by
 constructor<;>(intro h;first|exact absurd h (by decide)|skip)
 intro cn bM h;rw[PF.k6 (nb h).1,PF.k6 (nb h).2]
theorem b6A(a c:PF):jf cG cE tR [a.aT.A true,c.aT.A true,.ae] (.b (decide (a=c))):=by
 constructor<;>(intro h;first|exact absurd h (by decide)|skip)
 intro cn bM h;injection h with h1 h
 rw[PF.k6 h1,PF.k6 (nb h).1]
theorem W_(a c:PF):jf cG cE q6 [a.aT.A true,c.aT.A true,.ae] (.b (decide (a=c))):=by
 constructor<;>(intro h;first|exact absurd h (by decide)|skip)
 intro cn bM h;injection h with h1 h
 rw[PF.k6 h1,PF.k6 (nb h).1]
theorem b6B(a c:PF):jf cG cE su [a.aT.A true,c.aT.A true] (.b (decide (a=c))):=by
 constructor<;>(intro h;first|exact absurd h (by decide)|skip)
 intro cn bM h;rw[PF.k6 (nb h).1,PF.k6 (nb h).2]
theorem b6C(p:AV)(a:PF):jf cG cE tH [p,a.aT.A true,.ae] (.a6 [a.aT.A false,.b true]):=by
 constructor<;>(intro h;first|exact absurd h (by decide)|skip)
 intro cn d_ h;injection h with h1 h
 rw[PF.k6 (nb h).1]
theorem b6D(a:PF):jf cG cE vJ [a.aT.A true] (.i .u32 (Int.ofNat (tT a.aT))):=by
 constructor<;>(intro h;first|exact absurd h (by decide)|skip)
 intro c h;rw[PF.k6 (Nf h)]
theorem b6E(x y:eW):jf cG cE gP [c5 x,c5 y] (.i .i64 (nR x y)):=by
 constructor<;>(intro h;first|exact absurd h (by decide)|skip)
 intro a c h;rw[W2 (nb h).1,W2 (nb h).2]
theorem rB{g:Nat}{aW:List AV}(hg:g∈Gz):jf cG cE g aW (.b true):=by
 simp only[Gz,List.mem_cons,List.not_mem_nil,or_false] at hg;rcases hg with rfl|rfl|rfl|rfl|rfl|rfl|rfl|rfl|rfl<;>constructor<;>(intro h;first|exact absurd h (by decide)|rfl)
theorem b6F{aW:List AV}:jf cG cE q4 aW (ah 0):=by
 constructor<;>(intro h;first|exact absurd h (by decide)|rfl)
theorem b6G(T:List bX)(k:Nat):jf cG cE vU [cD T,ah k] (.b (tW T k)):=by
 constructor<;>(intro h;first|exact absurd h (by decide)|skip)
 intro kl gv h;rw[Nh (nb h).1,Int.ofNat.inj (B7 (nb h).2)]
theorem b6H(T:List bX):jf cG cE vS [cD T] (.a6 [jP (ndsL T T.length),ah 0]):=by
 constructor<;>(intro h;first|exact absurd h (by decide)|skip)
 intro kl h;rw[Nh (Nf h)]
theorem b6I(T:List bX):jf cG cE vT [cG,cD T] (B9 T):=by
 constructor<;>(intro h;first|exact absurd h (by decide)|skip)
 intro kl h;rw[Nh (nb h).2]
theorem b6J{aW:List AV}:jf cG cE sm aW cE:=by
 constructor<;>(intro h;first|exact absurd h (by decide)|rfl)
theorem b6K{aW:List AV}{r:AV}(ak:Ni r):jf cG cE oP aW r:=by
 constructor<;>(intro h;first|exact absurd h (by decide)|exact ak)
theorem b6L{aW:List AV}{r:AV}(ak:∃cU gM gH gI ax,r= .a6 [.ag [cU,gM],.ag [.i .u8 (Int.ofNat gH),ah gI,ah ax],ah 0]):jf cG cE tM aW r:=by
 constructor<;>(intro h;first|exact absurd h (by decide)|exact ak)
end
end Go.Lyc
end
noncomputable section
namespace Go.Lyc
set_option maxHeartbeats 0
open Go Go.RowKit
inductive bT(T:Tok):AV->AV->Prop
 |i (k:IntKind) (n:Int):bT T (.i k n) (.i k n)
 |s (l:List Nat):bT T (.s l) (.s l)
 |b (x:Bool):bT T (.b x) (.b x)
 |nil:bT T .ae .ae
 |y (i:Nat) (h:(∃k n,T.y_ i= .i k n)\/∃l,T.y_ i= .s l):bT T (.y i) (T.y_ i)
 |fs (o:Bool) (i:Nat) (v:AV) (h:T.nh o i= .ae\/∃U l,T.nh o i= .a7 o U l) (au:bT T (T.nh o i) v):bT T (.fs o i) v
 |ag (l m:List AV) (hl:l.length=m.length) (h:∀i (h:i<l.length) (h':i<m.length),bT T l[i] m[i]):bT T (.ag l) (.ag m)
 |a6 (l m:List AV) (hl:l.length=m.length) (h:∀i (h:i<l.length) (h':i<m.length),bT T l[i] m[i]):bT T (.a6 l) (.a6 m)
 |a7 (o:Bool) (U:Option Nat) (c d:List (List AV)) (hl:c.length=d.length) (ez:∀i (h:i<c.length) (h':i<d.length),(c[i]).length=(d[i]).length) (h:∀i (h:i<c.length) (h':i<d.length) j (aA:j<(c[i]).length) (eR:j<(d[i]).length),bT T (c[i])[j] (d[i])[j]):bT T (.a7 o U (c.map AV.ag)) (.a7 o U (d.map AV.ag))
theorem bT.conf{T:Tok}{v bA:AV}(h:bT T v bA):conf none v=conf none bA:=by
 induction h with
 |y i h=>rcases h with⟨k,n,e⟩|⟨l,e⟩<;>rw[e]<;>rfl
 |fs o i v h au aD=>rw[<-aD];rcases h with e|⟨U,l,e⟩<;>rw[e]<;>rfl
 |_=>rfl
theorem bT.R{T hv:Tok}{w:World}{O:Nat->Prop}{B:Nat}{v bA:AV}(h:bT T v bA):∀u,@Go.Lyc.R T w (λ_=>none) O B v u↔ @Go.Lyc.R hv w (λ_=>none) O B bA u:=by
 induction h with
 |i k n=>exact λu=>⟨λh=>by cases h;exact .i _ _,λh=>by cases h;exact @Go.Lyc.R.i T w _ O B _ _⟩
 |s l=>exact λu=>⟨λh=>by cases h;exact .s _ (by assumption),λh=>by cases h;exact @Go.Lyc.R.s T w _ O B _ (by assumption)⟩
 |b x=>exact λu=>⟨λh=>by cases h;exact .b _,λh=>by cases h;exact @Go.Lyc.R.b T w _ O B _⟩
 |nil=>exact λu=>⟨λh=>by cases h;exact .ae,λh=>by cases h;exact @Go.Lyc.R.ae T w _ O B⟩
 |y i h=>
  intro u;constructor
  ·intro hR;cases hR with
   |y hl=>
    rcases h with⟨k,n,e⟩|⟨l,e⟩
    ·rw[e] at hl ⊢;cases hl;exact .i _ _
    ·rw[e] at hl ⊢;cases hl with
     |s l h=>exact .s l h
  ·intro hR;refine @Go.Lyc.R.y T w _ O B i u ?_;rcases h with⟨k,n,e⟩|⟨l,e⟩
   ·rw[e] at hR ⊢;cases hR;exact .i _ _
   ·rw[e] at hR ⊢;cases hR with
    |s l h=>exact .s l h
 |fs o i v h au aD=>
  intro u;constructor
  ·intro hR;cases hR with
   |fs hu h=>exact(aD u).1 h
  ·intro hR;have h2:=(aD u).2 hR;obtain⟨a,l,c,e⟩:∃a l c,u= .slice a l c:=by
    rcases h with e|⟨U,l,e⟩
    ·rw[e] at h2;cases h2;exact⟨_,_,_,rfl⟩
    ·rw[e] at h2;cases h2<;>exact⟨_,_,_,rfl⟩
   exact @Go.Lyc.R.fs T w _ O B i o u a l c e h2
 |ag l m hl h aD=>
  intro u;constructor
  ·intro hR;cases hR with
   |ag ao ak hf=>
    refine .ag (by omega) (λi h1 h2=>(aD i (by omega) h1 _).1 (ak i (by omega) h2)) λx hx=>?_;obtain⟨i,hi,rfl⟩:=List.getElem_of_mem hx;rw[<-(h i (by omega) hi).conf];exact hf _ (List.getElem_mem _)
  ·intro hR;cases hR with
   |ag ao ak hf=>
    refine @Go.Lyc.R.ag T w _ O B l _ (by omega) (λi h1 h2=>(aD i h1 (by omega) _).2 (ak i (by omega) h2)) λx hx=>?_;obtain⟨i,hi,rfl⟩:=List.getElem_of_mem hx;rw[(h i hi (by omega)).conf];exact hf _ (List.getElem_mem _)
 |a6 l m hl h aD=>
  intro u;constructor
  ·intro hR;cases hR with
   |a6 ao ak=>exact .a6 (by omega) λi h1 h2=>(aD i (by omega) h1 _).1 (ak i (by omega) h2)
  ·intro hR;cases hR with
   |a6 ao ak=>exact @Go.Lyc.R.a6 T w _ O B l _ (by omega) λi h1 h2=>(aD i h1 (by omega) _).2 (ak i (by omega) h2)
 |a7 o U c d hl ez h aD=>
  have key:∀(Nj mV:Tok) (c d:List (List AV)),c.length=d.length->(∀i (h:i<c.length) (h':i<d.length),(c[i]).length=(d[i]).length)->(∀i (h:i<c.length) (h':i<d.length) j (aA:j<(c[i]).length) (eR:j<(d[i]).length),Go.Lyc.conf none (c[i])[j]=Go.Lyc.conf none (d[i])[j]/\∀u,@Go.Lyc.R Nj w (λ_=>none) O B (c[i])[j] u→ @Go.Lyc.R mV w (λ_=>none) O B (d[i])[j] u)->∀u,@Go.Lyc.R Nj w (λ_=>none) O B (.a7 o U (c.map AV.ag)) u→ @Go.Lyc.R mV w (λ_=>none) O B (.a7 o U (d.map AV.ag)) u:=by
   intro Nj mV c d hl ez hh u hR;generalize hx:c.map AV.ag=xs at hR;cases hR with
   |kb=>
    obtain rfl:=List.map_eq_nil_iff.1 hx;obtain rfl:d=[]:=List.length_eq_zero_iff.1 (by simpa using hl.symm);exact .kb
   |a7 a8 cb ao aa ak hL hf eP=>
    have h_:xs.length=c.length:=by rw[<-hx,List.length_map]
    have hg:∀i (h:i<xs.length) (h':i<c.length),xs[i]= .ag c[i]:=λi h h'=>by subst hx;simp
    have zO:(d.map AV.ag).length=xs.length:=by rw[List.length_map];omega
    have rl:∀i (h:i<(d.map AV.ag).length) (h':i<d.length),(d.map AV.ag)[i]= .ag d[i]:=λi h h'=>by simp
    have a5:d.map AV.ag≠[]->xs≠[]:=λh e=>h (List.length_eq_zero_iff.1 (by rw[zO,e];rfl));rw[<-zO];refine .a7 a8 (λh=>cb (a5 h)) (λi h=>?_) (λi h j aA=>?_) (λi h j aA=>?_) (by omega) (λv au x eE=>?_) (λh=>eP (a5 h))
    ·have h1:=ao i (by omega);rw[hg i (by omega) (by omega)] at h1;rw[rl i h (by omega)];cases U with
     |none=>cases h1
     |some k=>
      have h1:Nat.beq (c[i]'(by omega)).length k=true:=h1;show Nat.beq (d[i]'(by omega)).length k=true;rw[<-ez i (by omega) (by omega)];exact h1
    ·have aN:((d.map AV.ag)[i]).cells.length=(d[i]'(by omega)).length:=by rw[rl i h (by omega)];rfl
     have a4:(xs[i]'(by omega)).cells.length=(c[i]'(by omega)).length:=by rw[hg i (by omega) (by omega)];rfl
     exact aa i (by omega) j (by rw[a4,ez i (by omega) (by omega),← aN];exact aA)
    ·have aN:((d.map AV.ag)[i]).cells=d[i]'(by omega):=by rw[rl i h (by omega)];rfl
     have a4:(xs[i]'(by omega)).cells=c[i]'(by omega):=by rw[hg i (by omega) (by omega)];rfl
     have wA:j<(d[i]'(by omega)).length:=by rw[<-aN];exact aA
     have gB:j<(c[i]'(by omega)).length:=by rw[ez i (by omega) (by omega)];exact wA
     have h3:=ak i (by omega) j (by rw[a4];exact gB);simp only[a4] at h3;simp only[aN];exact(hh i (by omega) (by omega) j gB wA).2 _ h3
    ·obtain⟨i,hi,rfl⟩:=List.getElem_of_mem au;have aN:((d.map AV.ag)[i]).cells=d[i]'(by rw[List.length_map] at hi;exact hi):=by rw[rl i hi (by rw[List.length_map] at hi;exact hi)];rfl
     rw[List.length_map] at hi;rw[aN] at eE;obtain⟨j,aA,rfl⟩:=List.getElem_of_mem eE;have a4:(xs[i]'(by omega)).cells=c[i]'(by omega):=by rw[hg i (by omega) (by omega)];rfl
     have gB:j<(c[i]'(by omega)).length:=by rw[ez i (by omega) (by omega)];exact aA
     rw[<-(hh i (by omega) (by omega) j gB aA).1];exact hf _ (List.getElem_mem (show i<xs.length by omega)) _ (by rw[a4];exact List.getElem_mem _)
  intro u;constructor
  ·exact key T hv c d hl ez (λi h1 h2 j aA eR=>⟨(h i h1 h2 j aA eR).conf,λu=>(aD i h1 h2 j aA eR u).1⟩) u
  ·exact key hv T d c hl.symm (λi h1 h2=>(ez i h2 h1).symm) (λi h1 h2 j aA eR=>⟨(h i h2 h1 j eR aA).conf.symm,λu=>(aD i h2 h1 j eR aA u).2⟩) u
def Xa:AV->Bool
 | .i _ _=>true
 | .s _=>true
 | .b _=>true
 | .ae=>true
 |_=>false
theorem bT.leaf{T:Tok}{v:AV}(h:Xa v=true):bT T v v:=by
 cases v with
 |i k n=>exact .i k n
 |s l=>exact .s l
 |b x=>exact .b x
 |ae=>exact .nil
 |_=>cases h
def B_(env:Env):Prop:=∀g v,env.kS g=some v->∃l,v= .ag l/\∀x∈l,Xa x=true
theorem Globs.mg{hv T:Tok}{env:Env}(hl:B_ env){w:World}{B:Nat}(h: @Globs hv env w B): @Globs T env w B:=λg v hg dW=>by
 have hR:=h g v hg dW;obtain⟨l,rfl,hl⟩:=hl g v hg;cases hR with
 |df a8 cb hb bV aa ak hf=>exact .df a8 cb hb bV aa (λj aA=>((bT.leaf (T:=hv) (hl _ (List.getElem_mem aA))).R (hv:=T) _).1 (ak j aA)) hf
theorem bT.entry{T hv:Tok}{P:Program}{env:Env}(cZ:B_ env){b6 g:Nat}{aW lT:List AV}{r cw:AV}(hl:aW.length=lT.length)(h:∀i (h:i<aW.length) (h':i<lT.length),bT T aW[i] lT[i])(ak:bT T r cw): @SpecEntry T P env b6 g aW r↔ @SpecEntry hv P env b6 g lT cw:=by
 constructor
 ·intro jn;exact⟨jn.1,λk rd w us bV Ad hR=>(jn.2 k rd w us bV (Ad.mg cZ) ⟨by rw[hR.1,hl],λi h1 h2=>((h i h1 (by omega)).R _).2 (hR.2 i (by omega) h2)⟩).mono λe bR ⟨u,aN,a4,cQ⟩=>⟨u,aN,(ak.R _).1 a4,cQ⟩⟩
 ·intro jn;exact⟨jn.1,λk rd w us bV Ad hR=>(jn.2 k rd w us bV (Ad.mg cZ) ⟨by rw[hR.1,hl],λi h1 h2=>((h i (by omega) h1).R _).1 (hR.2 i (by omega) h2)⟩).mono λe bR ⟨u,aN,a4,cQ⟩=>⟨u,aN,(ak.R _).2 a4,cQ⟩⟩
end Go.Lyc
end
noncomputable section
namespace Go.Lyc
set_option maxHeartbeats 0
variable [Tok][TokOk]
open Go.RowKit Go.Lyc.T
structure jU(b:b8):Prop where
 Fj:HB b x8 Kl
 b6M:HB b AN Ks
 b6N:HB b AQ Ku
 b6O:HB b AP Kt
 b6P:HB b EZ Up
 yd:HB b ET Uk
 assumptions:HB b EU Km
 beside:HB b EV Ul
 ye:HB b ES Uj
 b6Q:HB b EW Um
 b6R:HB b EN Kh
 b6S:HB b AM EO
 b6T:HB b x7 EP
 b6U:HB b EX Kn
 b6V:HB b tJ Ko
 b6W:HB b tK Kp
 b6X:HB b ER Kk
 b6Y:HB b Kq Un
 b6Z:HB b Kr Uo
 b7a:HB b tL EY
 b7b:HB b E0 Kv
 b7c:HB b E2 Kw
 b7d:HB b AR Kx
 b7e:HB b tN Ky
 b7f:HB b tO Kz
 b7g:HB b mn E3
 b7h:HB b tP KA
 b7i:HB b KB Uq
 b7j:HB b E4 KC
 b7k:HB b ss KD
 b7l:HB b q5 E5
 b7m:HB b x9 KE
 b7n:HB b J8 Uh
 Xb:HB b J9 EG
 b7o:HB b Ur KI
 Made:HB b EH jL
 b7p:HB b sn EI
 b7q:HB b vP Ka
 line:HB b x5 EK
 b7r:HB b vQ AI
 b7s:HB b AJ Kb
 b7t:HB b AK Kc
 join:HB b so AL
 atom:HB b x4 EJ
 b7u:HB b x6 Ke
 Nk:kQ b q2 Kd
 Xc:kQ b vR Kg
 Nl:kQ b q3 Kf
 Xd:kQ b tR KF
 Nm:kQ b q6 KH
 Xe:kQ b su KG
 Xf:kQ b tH EF
 Xg:kQ b vU Kj
 Xh:kQ b q4 Ki
 Xi:kQ b vS EL
 Nn:kQ b vT EM
 Xj:kQ b tM E1
 pk:∀g∈[kp,oO,mm,tQ,sr,tI,sm,oP],b.ext g=0/\b.pure g=true
theorem jU.rC{b:b8}(h:jU b){g:Nat}(hg:tw [kp,oO,mm,tQ,sr,tI,sm,oP] g=true):b.ext g=0/\b.pure g=true:=h.pk g (xJ hg)
theorem PF.b7v{a x:PF}(h:x∈a.subs):x.bK<a.bK:=by
 cases a with
 | ff _=>simp[PF.subs] at h
 |ct=>simp[PF.subs] at h
 |neg a=>rw[List.mem_singleton.1 h];exact Nat.lt_succ_self _
 |bin k a b=>
  show x.bK<a.bK+b.bK+1;rcases List.mem_cons.1 h with rfl|h
  ·omega
  ·rw[List.mem_singleton.1 h];omega
theorem Xk:∀(n:Nat) (v:AV),fe n v=true->fe (n+1) v=true
 |0,_,h=>by cases h
 |n+1,v,h=>by
  have aD:=Xk n;have fY:∀ {l:List AV},cr (fe n) l=true->cr (fe (n+1)) l=true:=λ{l} h=>iv λx hx=>aD x (kI h x hx);rw[nH] at h ⊢;cases v with
  |df o v=>
   have h:(!o&&cr (fe n) v.cells)=true:=h;show(!o&&cr (fe (n+1)) v.cells)=true;rw[Bool.and_eq_true] at h ⊢;exact⟨h.1,fY h.2⟩
  |a7 o U xs=>
   have h:((!o||xs.isEmpty)&&cr (λx=>cr (fe n) x.cells) xs)=true:=h;show((!o||xs.isEmpty)&&cr (λx=>cr (fe (n+1)) x.cells) xs)=true;rw[Bool.and_eq_true] at h ⊢;exact⟨h.1,iv λx hx=>fY (kI h.2 x hx)⟩
  |it t v=>exact aD v h
  |ag l=>exact fY h
  |a6 l=>exact fY h
  |f g x y=>
   have h:(cr (fe n) x&&cr (fe n) y)=true:=h;show(cr (fe (n+1)) x&&cr (fe (n+1)) y)=true;rw[Bool.and_eq_true] at h ⊢;exact⟨fY h.1,fY h.2⟩
  |_=>exact h
theorem No:∀(d:Nat) (a:PF) {n:Nat},a.dep<=d->2*d+2<=n->fe n (.ag (ib a.aT))=true
 |0,a,_,hd,_=>by cases a<;>simp[PF.dep] at hd
 |d+1,a,n,hd,hn=>by
  obtain⟨n,rfl⟩:∃m,n=m+2:=⟨n-2,by omega⟩
  rw[PF.L_,nH];have ao:∀x∈a.subs,fe n (.ag (ib x.aT))=true:=λx hx=>No d x (by have:=PF.jQ hx;omega) (by omega);have aQ:fe (n+1) (slA false (some 4) (a.subs.map λx=>.ag (ib x.aT)))=true:=by
   cases b7w:a.subs with
   |nil=>rfl
   |cons x l=>
    rw[b7w] at ao;show fe (n+1) (.a7 false (some 4) ((x::l).map λx=>.ag (ib x.aT)))=true;rw[nH];show((!false||_)&&cr (λx=>cr (fe n) x.cells) ((x::l).map λx=>AV.ag (ib x.aT)))=true;rw[Bool.not_false,Bool.true_or,Bool.true_and];refine iv λv au=>?_;obtain⟨y,hy,rfl⟩:=List.mem_map.1 au;have:=ao y hy;obtain⟨n,rfl⟩:∃m,n=m+1:=⟨n-1,by omega⟩
    rw[nH] at this;have this:cr (fe n) (ib y.aT)=true:=this;exact iv λz bg=>Xk _ _ (kI this z bg)
  refine iv λy hy=>?_;simp only[List.mem_cons,List.not_mem_nil,or_false] at hy;rcases hy with rfl|rfl|rfl|rfl
  ·rfl
  ·rfl
  ·rfl
  ·exact aQ
section
variable {P:Program}{b:b8}(hb:kH P b)(fb:jU b){cG cE:AV}
structure wB(P:Program)(b:b8)(cG cE:AV):Prop where
 st:ev P b sr [.ae,.ae] (.b true)
 right:∀a:PF,a.low->ev P b kp [a.aT.A true] (.b true)
 g_:∀a:PF,a.low->ev P b oO [cG,a.aT.A true] (.b true)
 b7x:ev P b mm [cG] (.b true)
 oj:∀r∈ih,ev P b tQ [r.A] (.b true)
 log:ev P b sm [] cE
 BZ:ev P b tI [] (.b true)
include hb fb
theorem Xl:∀(n:Nat) (a:PF),a.dep<=n->a.dep<=190->a.bK<2^62->ev P b q2 [a.aT.A true] (ah a.bK)
 |0,a,hd,_,_=>by cases a<;>simp[PF.dep] at hd
 |n+1,a,hd,im,ao=>λb6=>by
  rw[ll];exact mW hb (cK.ok (cG:=.ae) (cE:=.ae)) _ fb.Nk.1 I I I I (oI _ _).1 (oI _ _).2 (b3Z cK.fn a (λx hx=>by rw[PF.je];have:=PF.jQ hx;omega) ao fb.Nk.2 (λx hx=>cK.hX (Xl n x (by have:=PF.jQ hx;omega) (by have:=PF.jQ hx;omega) (by have:=PF.b7v hx;omega)) (W8 x) λr h=>h.size I x I) _ I) b6
theorem Xm(cA:ev P b sr [.ae,.ae] (.b true)):∀(n:Nat) (a c:PF),a.dep<=n->a.dep<=190->c.dep<=190->ev P b q3 [a.aT.A true,c.aT.A true] (.b (decide (a=c)))
 |0,a,_,hd,_,_=>by cases a<;>simp[PF.dep] at hd
 |n+1,a,c,hd,im,tk=>by
  have lk:∀ {x:PF},x∈a.subs->x.aT.dep<=200/\x.dep<=n/\x.dep<=190:=λ{x} hx=>by rw[PF.je];have:=PF.jQ hx;omega
  have pn:∀ {x:PF},x∈c.subs->x.aT.dep<=200/\x.dep<=190:=λ{x} hx=>by rw[PF.je];have:=PF.jQ hx;omega
  have ju:∀(x:PF),x.dep<=190->∀τ,bG τ (b.bn+1000) (hT x)=some (hT x):=λx hx τ=>yP (n:=b.bn+999) λy hy=>by
   have h1:=Fm.snap τ true _ y.aT (b.bn+999) (Nat.le_refl _) (by rw[PF.je];have:=PF.jQ hy;omega);rwa[iW] at h1
  have h1:ev P b vR [hT a,hT c] (.b (decide (a.subs=c.subs))):=λb6=>mW hb (cK.ok (cG:=.ae) (cE:=.ae)) _ fb.Xc.1 I I I I (jy _).1 (jy _).2 (b3U cK.fn a.subs c.subs ⟨a.rn,c.rn⟩ (λx hx=>(lk hx).1) (λx hx=>(pn hx).1) fb.Nl.2 (λx hx y hy=>cK.hX (Xm cA n x y (lk hx).2.1 (lk hx).2.2 (pn hy).2) (W9 x y) λr h=>h.W6 I x y I) _ I) b6;intro b6;rw[ll,ll];exact mW hb (cK.ok (cG:=.ae) (cE:=.ae)) _ fb.Nl.1 I I I I (jy _).1 (jy _).2 (b3V cK.fn a c (fb.rC I) (cK.hX cA (rB (by decide)) λr h=>h.rA (by decide)) fb.Xc.2 (cK.hX h1 (b6z a c) λr h=>h.b6v I a c I) (ju a im) (ju c tk) _ I) b6
theorem Xn:∀(n:Nat) (a c:PF),a.dep<=n->a.dep<=190->c.dep<=190->ev P b tR [a.aT.A true,c.aT.A true,.ae] (.b (decide (a=c)))
 |0,a,_,hd,_,_=>by cases a<;>simp[PF.dep] at hd
 |n+1,a,c,hd,im,tk=>λb6=>by
  have lk:∀ {x:PF},x∈a.subs->x.aT.dep<=200/\x.dep<=n/\x.dep<=190:=λ{x} hx=>by rw[PF.je];have:=PF.jQ hx;omega
  have pn:∀ {x:PF},x∈c.subs->x.aT.dep<=200/\x.dep<=190:=λ{x} hx=>by rw[PF.je];have:=PF.jQ hx;omega
  rw[ll,ll];exact mW hb (cK.ok (cG:=.ae) (cE:=.ae)) _ fb.Xd.1 I I I I (jy _).1 (jy _).2 (b3R cK.fn a c (by rw[PF.je,PF.je];omega) fb.Xb.h fb.Xd.2 (λx hx y hy=>cK.hX (Xn n x y (lk hx).2.1 (lk hx).2.2 (pn hy).2) (b6A x y) λr h=>h.b6w I x y I) (λx hx=>(lk hx).1) (λx hx=>(pn hx).1) _ I) b6
theorem Xo:∀(n:Nat) (a c:PF),a.dep<=n->a.dep<=190->c.dep<=190->ev P b q6 [a.aT.A true,c.aT.A true,.ae] (.b (decide (a=c)))
 |0,a,_,hd,_,_=>by cases a<;>simp[PF.dep] at hd
 |n+1,a,c,hd,im,tk=>λb6=>by
  have lk:∀ {x:PF},x∈a.subs->x.aT.dep<=200/\x.dep<=n/\x.dep<=190:=λ{x} hx=>by rw[PF.je];have:=PF.jQ hx;omega
  have pn:∀ {x:PF},x∈c.subs->x.aT.dep<=200/\x.dep<=190:=λ{x} hx=>by rw[PF.je];have:=PF.jQ hx;omega
  rw[ll,ll];exact mW hb (cK.ok (cG:=.ae) (cE:=.ae)) _ fb.Nm.1 I I I I (jy _).1 (jy _).2 (b3S cK.fn a c (by rw[PF.je,PF.je];omega) fb.b7o.h fb.Nm.2 (λx hx y hy=>cK.hX (Xo n x y (lk hx).2.1 (lk hx).2.2 (pn hy).2) (W_ x y) λr h=>h.W7 I x y I) (λx hx=>(lk hx).1) (λx hx=>(pn hx).1) _ I) b6
theorem b7y(ak:∀a:PF,a.low->ev P b kp [a.aT.A true] (.b true))(a c:PF)(ha:a.low)(aa:c.low):ev P b su [a.aT.A true,c.aT.A true] (.b (decide (a=c))):=λb6=>by
 have h1:=ha.1;have h2:=aa.1;have b7z:=ak a ha;have b7A:=ak c aa;rw[ll,ll];exact mW hb (cK.ok (cG:=.ae) (cE:=.ae)) _ fb.Xe.1 I I I I (jy _).1 (jy _).2 (b3T cK.fn a c (by rw[PF.je];omega) (by rw[PF.je];omega) (fb.rC I) (cK.hX b7z (rB (by decide)) λr h=>h.rA (by decide)) (cK.hX b7A (rB (by decide)) λr h=>h.rA (by decide)) fb.Nm.2 (cK.hX (Xo hb fb _ a c (Nat.le_refl _) (by omega) (by omega)) (W_ a c) λr h=>h.W7 I a c I) _ I) b6
theorem Xp(S F:Fm)(jI:∀τ,bG τ (b.bn+1000) (rq S F)=some (rq S F)):∀(n:Nat) (a:PF),a.dep<=n->a.dep<=190->ev P b tH [rq S F,a.aT.A true,.ae] (.a6 [a.aT.A false,.b true])
 |0,a,hd,_=>by cases a<;>simp[PF.dep] at hd
 |n+1,a,hd,im=>λb6=>by
  have lk:∀ {x:PF},x∈a.subs->x.aT.dep<=200/\x.dep<=n/\x.dep<=190:=λ{x} hx=>by rw[PF.je];have:=PF.jQ hx;omega
  rw[ll];refine FC hb (cK.ok (cG:=.ae) (cE:=.ae)) (ab:=1000) _ fb.Xf.1 I I I ?_ ?_ (b4a cK.fn S F jI a fb.Xb.h (λx hx=>(lk hx).1) fb.Xf.2 (λx hx=>cK.hX (Xp S F jI n x (lk hx).2.1 (lk hx).2.2) (b6C _ x) λr h=>h.b6x I x _ I) _ I) b6
  ·rw[ug,nH];refine iv λy hy=>?_;simp only[List.mem_cons,List.not_mem_nil,or_false] at hy;rcases hy with rfl|rfl
   ·exact No _ a (n:=999) (Nat.le_refl _) (by omega)
   ·rfl
  ·rw[ug];refine(oD λy hy=>?_:ft (AV.eqb 999) [AV.ag (ib a.aT),.b true] [AV.ag (ib a.aT),.b true]=true);simp only[List.mem_cons,List.not_mem_nil,or_false] at hy;rcases hy with rfl|rfl
   ·exact(eu.tree (W:=λ_=>True) (J:=⟨.nil,0⟩) _ (Nat.le_refl a.dep)).eqb _ (Nat.le_refl _) (n:=999) (by omega)
   ·rfl
end
end Go.Lyc
end
noncomputable section
namespace Go.Lyc
set_option maxHeartbeats 0
open Go Go.RowKit Go.Lyc.T
section
variable [Tok]
def sR(k j:Nat)(o:Bool):List AV:=[.y (10*k+2+2*j),.y (10*k+3+2*j),.ae,.fs o (10*k+j)]
def n1(k s:Nat)(o:Bool):List AV:=[.y (10*k),.y (10*k+1),.ae,slA o (some 4) ((List.range s).map λj=>.ag (sR k j o))]
end
def Xq(x:PF)(r:Nat):AV:=cond (Nat.beq r 0) (.i .u8 (Int.ofNat x.op)) (.s x.bZ)
def Np(f g:PF)(i:Nat):PF:=cond (Nat.beq (i/10) 0) f g
abbrev gi(f g:PF):Tok:=⟨λi=>cond (Nat.blt (i%10) 2) (Xq (Np f g i) (i%10)) (Xq ((Np f g i).subs.getD ((i%10-2)/2) .ct) ((i%10-2)%2)),λo i=>hr o ((Np f g i).subs.getD (i%10) .ct).aT.fF⟩
theorem n2(f g:PF): @TokOk (gi f g):=by
 letI:Tok:=gi f g
 refine⟨λ{w O B dW i old u} h=>?_,λ{w O B i u} h=>?_⟩
 ·exact B8 (λaB _ _ _=>⟨λh=>h,λh=>by cases h⟩) _ _ (Nat.lt_succ_self _) u h
 ·exact B8 (λaB _ _ h=>⟨λh2=>by have:=h I;omega,h⟩) _ _ (Nat.lt_succ_self _) u h
theorem PF.Nq{a x:PF}(h:x∈a.subs):x.dep<a.dep:=@PF.jQ (gi .ct .ct) (n2 _ _) _ _ h
theorem PF.GA(a:PF):a.subs.length<=2:=@PF.rn (gi .ct .ct) (n2 _ _) a
theorem PF.wC(o:Bool)(a:PF):a.aT.cells o=[.i .u8 (Int.ofNat a.op),.s a.bZ,.ae,slA o (some 4) (a.subs.map λx=>x.aT.A o)]:=by
 rw[Fm.iI];cases a<;>rfl
theorem Xr(o:Bool)(a:PF):hr o a.aT.fF=slA o (some 4) (a.subs.map λx=>x.aT.A o):=by cases a<;>rfl
theorem bT.cells{T:Tok}{l m:List AV}(h:bT T (.ag l) (.ag m)):l.length=m.length/\∀i (h:i<l.length) (h':i<m.length),bT T l[i] m[i]:=by
 cases h with
 |ag _ _ hl h=>exact⟨hl,h⟩
theorem bT.al{T:Tok}{o:Bool}{U:Option Nat}{c d:List (List AV)}(hl:c.length=d.length)(h:∀i (h:i<c.length) (h':i<d.length),bT T (.ag c[i]) (.ag d[i])):bT T (slA o U (c.map AV.ag)) (slA o U (d.map AV.ag)):=by
 cases c with
 |nil=>
  obtain rfl:d=[]:=List.length_eq_zero_iff.1 hl.symm;exact .nil
 |cons x c=>
  cases d with
  |nil=>simp at hl
  |cons y d=>exact .a7 o U (x::c) (y::d) hl (λi h1 h2=>(h i h1 h2).cells.1) λi h1 h2 j aA eR=>(h i h1 h2).cells.2 j aA eR
theorem bT.four{T:Tok}{a3 bm cv dU ec dp dO e1:AV}(h1:bT T a3 ec)(h2:bT T bm dp)(h3:bT T cv dO)(aQ:bT T dU e1):bT T (.ag [a3,bm,cv,dU]) (.ag [ec,dp,dO,e1]):=.ag _ _ I λi h h'=>by
 match i,h with
 |0,_=>exact h1
 |1,_=>exact h2
 |2,_=>exact h3
 |3,_=>exact aQ
theorem bT.fy{T:Tok}(o:Bool):∀(d:Nat) (a:PF),a.dep<=d->bT T (a.aT.A o) (a.aT.A o)
 |0,a,hd=>by cases a<;>simp[PF.dep] at hd
 |d+1,a,hd=>by
  unfold Fm.A;rw[PF.wC];refine bT.four (.i _ _) (.s _) .nil ?_;have e:(a.subs.map λx=>x.aT.A o)=(a.subs.map λx=>x.aT.cells o).map AV.ag:=by rw[List.map_map];rfl
  rw[e];refine bT.al I λi h h'=>?_;rw[List.length_map] at h;rw[List.getElem_map];exact bT.fy o d a.subs[i] (by have:=PF.Nq (List.getElem_mem h);omega)
section
variable {f g:PF}
def n3(f g:PF)(k:Nat):PF:=cond (Nat.beq k 0) f g
theorem Nr(o:Bool){k j:Nat}(az:k<2)(aA:j<2)(hx:j<(n3 f g k).subs.length):bT (gi f g) (.ag (sR k j o)) (((n3 f g k).subs[j]).aT.A o):=by
 have hg:(n3 f g k).subs.getD j .ct=(n3 f g k).subs[j]:=by rw[List.getD_eq_getElem?_getD,List.getElem?_eq_getElem hx];rfl
 rw[<-hg];unfold Fm.A;rw[PF.wC,← Xr];have key:∀x:PF,(gi f g).nh o (10*k+j)=hr o x.aT.fF->bT (gi f g) (.fs o (10*k+j)) (hr o x.aT.fF):=λx e=>by
  refine .fs o _ _ ?_ ?_
  ·rw[e];cases x.aT.fF with
   |none=>exact .inl I
   |some l=>exact .inr ⟨_,_,rfl⟩
  ·rw[e];have:=bT.fy (T:=gi f g) o _ x (Nat.le_refl _);unfold Fm.A at this;rw[PF.wC,← Xr] at this;exact this.cells.2 3 (by simp) (by simp)
 have bp:k=0\/k=1:=by omega
 have pE:j=0\/j=1:=by omega
 rcases bp with rfl|rfl<;>rcases pE with rfl|rfl
 all_goals exact bT.four (.y _ (.inl ⟨_,_,rfl⟩)) (.y _ (.inr ⟨_,rfl⟩)) .nil (key _ I)
theorem GB(o:Bool){k:Nat}(az:k<2):bT (gi f g) (.ag (n1 k (n3 f g k).subs.length o)) ((n3 f g k).aT.A o):=by
 have hl:=(n3 f g k).GA;have aQ:bT (gi f g) (slA o (some 4) ((List.range (n3 f g k).subs.length).map λj=>.ag (sR k j o))) (slA o (some 4) ((n3 f g k).subs.map λx=>x.aT.A o)):=by
  have aN:((List.range (n3 f g k).subs.length).map λj=>AV.ag (sR k j o))=((List.range (n3 f g k).subs.length).map λj=>sR k j o).map AV.ag:=by rw[List.map_map];rfl
  have a4:((n3 f g k).subs.map λx=>x.aT.A o)=((n3 f g k).subs.map λx=>x.aT.cells o).map AV.ag:=by rw[List.map_map];rfl
  rw[aN,a4];refine bT.al (by simp) λi h h'=>?_;rw[List.length_map,List.length_range] at h;rw[List.getElem_map,List.getElem_map,List.getElem_range];exact Nr o az (by omega) h
 unfold Fm.A;rw[PF.wC];have bp:k=0\/k=1:=by omega
 rcases bp with rfl|rfl
 all_goals exact bT.four (.y _ (.inl ⟨_,_,rfl⟩)) (.y _ (.inr ⟨_,rfl⟩)) .nil aQ
end
inductive rD where
 |a
 |b
 |bin (k:Fin 3)
 |neg
 |ct
def rD.fy(f g:PF):rD->PF
 | .a=>f
 | .b=>g
 | .bin k=>.bin k f g
 | .neg=>.neg f
 | .ct=>.ct
def rD.gj(s1 s2:Nat)(o:Bool):rD->List AV
 | .a=>n1 0 s1 o
 | .b=>n1 1 s2 o
 | .bin k=>[.i .u8 (Int.ofNat (4+k.val)),.s [],.ae,.a7 o (some 4) [.ag (n1 0 s1 o),.ag (n1 1 s2 o)]]
 | .neg=>[.i .u8 3,.s [],.ae,.a7 o (some 4) [.ag (n1 0 s1 o)]]
 | .ct=>[.i .u8 2,.s [],.ae,.ae]
theorem rD.b7B(f g:PF)(o:Bool)(t:rD):bT (gi f g) (.ag (t.gj f.subs.length g.subs.length o)) ((t.fy f g).aT.A o):=by
 have h0:=GB (f:=f) (g:=g) o (k:=0) (by decide);have h1:=GB (f:=f) (g:=g) o (k:=1) (by decide);cases t with
 |a=>exact h0
 |b=>exact h1
 |bin k=>
  show bT _ _ (AV.ag ((PF.bin k f g).aT.cells o));rw[PF.wC];refine bT.four (.i _ _) (.s _) .nil ?_;exact bT.al (o:=o) (U:=some 4) (c:=[n1 0 f.subs.length o,n1 1 g.subs.length o]) (d:=[f.aT.cells o,g.aT.cells o]) I λi h h'=>by
   match i,h with
   |0,_=>exact h0
   |1,_=>exact h1
 |neg=>
  show bT _ _ (AV.ag ((PF.neg f).aT.cells o));rw[PF.wC];refine bT.four (.i _ _) (.s _) .nil ?_;exact bT.al (o:=o) (U:=some 4) (c:=[n1 0 f.subs.length o]) (d:=[f.aT.cells o]) I λi h h'=>by
   match i,h with
   |0,_=>exact h0
 |ct=>exact bT.four (.i _ _) (.s _) .nil .nil
abbrev T.GC:Nat:=101
def rowM(r:Nat):List (Fm×rD):=match r with
 |0=>[(mA,.a),(dM,.b),(gS 0 mA dM,.bin 0)]
 |1=>[(gS 0 mA dM,.bin 0),(mA,.a)]
 |2=>[(gS 0 mA dM,.bin 0),(dM,.b)]
 |3=>[(mA,.a),(gS 1 mA dM,.bin 1)]
 |4=>[(dM,.b),(mA,.a),(gS 2 mA dM,.bin 2)]
 |5=>[(gS 2 mA dM,.bin 2),(mA,.a),(dM,.b)]
 |6=>[(lp,.ct),(mA,.a),(o9 mA,.neg)]
 |7=>[(mA,.a),(o9 mA,.neg),(lp,.ct)]
 |_=>[(lp,.ct),(mA,.a)]
def lq(r:Nat):List (Fm×rD):=if r<6 then[(mA,.a),(dM,.b)] else[(mA,.a)]
abbrev Xs:=Nat×List AV×AV
def Ns(r s1 s2:Nat):List Xs:=
 (rowM r).map (λp=>(kp,[.ag (p.2.gj s1 s2 true)],.b true))++((rowM r).map (λp=>(GC,[p.1.A true],.b true))++((lq r).map (λp=>(tH,[.ag (bD p.1++(p.2.gj s1 s2 true++[.ae])),.ag (p.2.gj s1 s2 true),.ae],.a6 [.ag (p.2.gj s1 s2 false),.b true]))++
 ((lq r).map (λp=>(tR,[.ag (p.2.gj s1 s2 true),.ag (p.2.gj s1 s2 true),.ae],.b true))++(lq r).map (λp=>(AH,[.ag (p.2.gj s1 s2 true)],.ag (p.2.gj s1 s2 false))))))
def Xt(r s1 s2:Nat):List AV:=[.a7 true (some 8) ((rowM r).map λp=>.ag (bD p.1++p.2.gj s1 s2 true)),.ag [.ae,.ae]]
def Xu(r s1 s2:Nat):AV:=.a6 [.ag [.a7 false (some 5) ((lq r).map λp=>.ag (.s p.1.name::p.2.gj s1 s2 false)),.ae],ah 0,ah 0]
def Xv(b:b8)(r:Nat):Bool:=cr (λs1=>cr (λs2=>runsTo b (Ns r s1 s2) 100000 (oP,Xt r s1 s2,Xu r s1 s2)) [0,1,2]) [0,1,2]
def Xw(s:Nat):List Xs:=(List.range s).map λj=>(AH,[.ag (sR 0 j true)],.ag (sR 0 j false))
def Xx(b:b8):Bool:=cr (λs=>runsTo b (Xw s) 100000 (AH,[.ag (n1 0 s true)],.ag (n1 0 s false))) [0,1,2]
structure GivM(P:Program)(b:b8)(cG cE:AV):Prop where
 hb:∀T:Tok,@TokOk T→ @kH T P b
 fb:jU b
 fx:∀T:Tok,@TokOk T→ @wB T P b cG cE
 leaf:B_ (b.env [])
 Fe:∀T:Tok,@TokOk T->∀r<9,∀p∈rowM r,@ev T P b GC [p.1.A true] (.b true)
 Bx:∀r<9,Xv b r=true
 P3:Xx b=true
section
variable {P:Program}{b:b8}{cG cE:AV}(G:GivM P b cG cE)
theorem three{s:Nat}(h:s<3):s∈[0,1,2]:=by
 have:s=0\/s=1\/s=2:=by omega
 simpa using this
theorem ev.gj{T hv:Tok}(hl:B_ (b.env [])){g:Nat}{aW lT:List AV}{r cw:AV}(h1:aW.length=lT.length)(h:∀i (h:i<aW.length) (h':i<lT.length),bT T aW[i] lT[i])(ak:bT T r cw): @ev T P b g aW r↔ @ev hv P b g lT cw:=⟨λh' b6=>(bT.entry hl h1 h ak).1 (h' b6),λh' b6=>(bT.entry hl h1 h ak).2 (h' b6)⟩
theorem bT.one{T:Tok}{x y:AV}(h:bT T x y):∀i (h:i<[x].length) (h':i<[y].length),bT T [x][i] [y][i]:=λi h1 h2=>by
 match i,h1 with
 |0,_=>exact h
include G in
theorem Xy:∀(d:Nat) (a:PF),a.dep<=d->∀hv:Tok,@ev hv P b AH [a.aT.A true] (a.aT.A false)
 |0,a,hd=>by cases a<;>simp[PF.dep] at hd
 |d+1,a,hd=>λhv=>by
  have gL:=a.GA;have ht:=GB (f:=a) (g:=a) true (k:=0) (by decide);have hf:=GB (f:=a) (g:=a) false (k:=0) (by decide);refine(ev.gj (T:=gi a a) G.leaf (aW:=[.ag (n1 0 a.subs.length true)]) (r:=.ag (n1 0 a.subs.length false)) (lT:=[a.aT.A true]) (cw:=a.aT.A false) I (bT.one ht) hf).1 ?_
  letI:Tok:=gi a a
  haveI:TokOk:=n2 a a
  have jr:vt P b (Xw a.subs.length):=λe he b6=>by
   obtain⟨j,aA,rfl⟩:=List.mem_map.1 he;rw[List.mem_range] at aA;have h1:=Nr (f:=a) (g:=a) true (k:=0) (j:=j) (by decide) (by omega) aA;have h2:=Nr (f:=a) (g:=a) false (k:=0) (j:=j) (by decide) (by omega) aA;exact(ev.gj (T:=gi a a) (hv:=gi a a) G.leaf (aW:=[.ag (sR 0 j true)]) (r:=.ag (sR 0 j false)) (lT:=[(a.subs[j]).aT.A true]) (cw:=(a.subs[j]).aT.A false) I (bT.one h1) h2).2 (Xy d a.subs[j] (by have:=PF.Nq (List.getElem_mem aA);omega) (gi a a)) b6
  have b2:=kI G.P3 a.subs.length (three (by omega));exact λb6=>jr.entry (G.hb _ (n2 a a)) b2 b6
end
theorem bT.mk{T:Tok}{l m:List AV}(hl:l.length=m.length)(h:∀i (h:i<l.length) (h':i<m.length),bT T l[i] m[i]):bT T (.ag l) (.ag m):=.ag _ _ hl h
theorem bT.app{T:Tok}{l m cf aP:List AV}(h:bT T (.ag l) (.ag m))(h':bT T (.ag cf) (.ag aP)):bT T (.ag (l++cf)) (.ag (m++aP)):=by
 obtain⟨a3,bm⟩:=h.cells;obtain⟨gx,k4⟩:=h'.cells;refine .mk (by rw[List.length_append,List.length_append];omega) λi h1 h2=>?_;by_cases hi:i<l.length
 ·rw[List.getElem_append_left hi,List.getElem_append_left (by omega)];exact bm i hi (by omega)
 ·rw[List.length_append] at h1 h2;rw[List.getElem_append_right (by omega),List.getElem_append_right (by omega)];have:=k4 (i-l.length) (by omega) (by omega);simp only[<-a3];exact this
theorem bT.cons{T:Tok}{x y:AV}{l m:List AV}(hx:bT T x y)(h:bT T (.ag l) (.ag m)):bT T (.ag (x::l)) (.ag (y::m)):=bT.app (l:=[x]) (m:=[y]) (.mk I (bT.one hx)) h
theorem bT.two{T:Tok}{x y eo dJ:AV}(hx:bT T x y)(eE:bT T eo dJ):∀i (h:i<[x,eo].length) (h':i<[y,dJ].length),bT T [x,eo][i] [y,dJ][i]:=λi h1 h2=>by
 match i,h1 with
 |0,_=>exact hx
 |1,_=>exact eE
theorem bT.three{T:Tok}{x y eo dJ Nt Nu:AV}(hx:bT T x y)(eE:bT T eo dJ)(b7C:bT T Nt Nu):∀i (h:i<[x,eo,Nt].length) (h':i<[y,dJ,Nu].length),bT T [x,eo,Nt][i] [y,dJ,Nu][i]:=λi h1 h2=>by
 match i,h1 with
 |0,_=>exact hx
 |1,_=>exact eE
 |2,_=>exact b7C
theorem Nv(F:Fm):F.A true= .ag (bD F):=by unfold Fm.A;rw[Fm.iI]
theorem bT.GD{T:Tok}(op:Nat)(n:List Nat):bT T (.ag (bD (.mk op n none none))) (.ag (bD (.mk op n none none))):=bT.four (.i _ _) (.s _) .nil .nil
theorem bT.Xz{T:Tok}(op:Nat)(n:List Nat)(l:List Fm)(a5:l≠[])(h:∀x∈l,bT T (.ag (bD x)) (.ag (bD x))):bT T (.ag (bD (.mk op n none (some l)))) (.ag (bD (.mk op n none (some l)))):=by
 refine bT.four (.i _ _) (.s _) .nil ?_;show bT T (.a7 true (some 4) (l.map (Fm.A true))) (.a7 true (some 4) (l.map (Fm.A true)));have e:l.map (Fm.A true)=(l.map bD).map AV.ag:=by rw[List.map_map];exact List.map_congr_left λx _=>Nv x
 rw[e];have:=bT.al (T:=T) (o:=true) (U:=some 4) (c:=l.map bD) (d:=l.map bD) I λi h1 h2=>by
  rw[List.length_map] at h1;rw[List.getElem_map];exact h _ (List.getElem_mem h1)
 cases l with
 |nil=>exact absurd I a5
 |cons x l=>exact this
theorem bT.KM{T:Tok}{r:Nat}(ak:r<9):∀p∈rowM r,bT T (.ag (bD p.1)) (.ag (bD p.1)):=by
 have hA:bT T (.ag (bD mA)) (.ag (bD mA)):=bT.GD _ _;have bV:bT T (.ag (bD dM)) (.ag (bD dM)):=bT.GD _ _;have b_:bT T (.ag (bD lp)) (.ag (bD lp)):=bT.GD _ _;have yR:∀k,bT T (.ag (bD (gS k mA dM))) (.ag (bD (gS k mA dM))):=λk=>bT.Xz _ _ [mA,dM] (by simp) λx hx=>by
  have hx:x=mA\/x=dM:=by simpa using hx
  rcases hx with rfl|rfl
  ·exact hA
  ·exact bV
 have de:bT T (.ag (bD (o9 mA))) (.ag (bD (o9 mA))):=bT.Xz _ _ [mA] (by simp) λx hx=>by rw[show x=mA by simpa using hx];exact hA
 have:r=0\/r=1\/r=2\/r=3\/r=4\/r=5\/r=6\/r=7\/r=8:=by omega
 rcases this with rfl|rfl|rfl|rfl|rfl|rfl|rfl|rfl|rfl<;>intro p ar<;>simp only[rowM,List.mem_cons,List.not_mem_nil,or_false] at ar
 ·rcases ar with rfl|rfl|rfl<;>first|exact hA|exact bV|exact yR _
 ·rcases ar with rfl|rfl<;>first|exact hA|exact bV|exact yR _
 ·rcases ar with rfl|rfl<;>first|exact hA|exact bV|exact yR _
 ·rcases ar with rfl|rfl<;>first|exact hA|exact bV|exact yR _
 ·rcases ar with rfl|rfl|rfl<;>first|exact hA|exact bV|exact yR _
 ·rcases ar with rfl|rfl|rfl<;>first|exact hA|exact bV|exact yR _
 ·rcases ar with rfl|rfl|rfl<;>first|exact hA|exact b_|exact de
 ·rcases ar with rfl|rfl|rfl<;>first|exact hA|exact b_|exact de
 ·rcases ar with rfl|rfl<;>first|exact hA|exact b_|exact de
theorem Nw{r:Nat}:∀p∈lq r,(p=(mA,.a)\/p=(dM,.b)):=λp ar=>by
 unfold lq at ar;split at ar
 ·simpa using ar
 ·exact .inl (by simpa using ar)
theorem XA:∀(d:Nat) (a:PF) {n:Nat},a.dep<=d->2*d+2<=n->∀x∈a.aT.cells false,AV.eqb n x x=true
 |0,a,_,hd,_=>by cases a<;>simp[PF.dep] at hd
 |d+1,a,n,hd,hn=>λx hx=>by
  obtain⟨n,rfl⟩:∃m,n=m+2:=⟨n-2,by omega⟩
  rw[PF.wC] at hx;simp only[List.mem_cons,List.not_mem_nil,or_false] at hx
  letI:Tok:=gi .ct .ct
  haveI:TokOk:=n2 .ct .ct
  rcases hx with rfl|rfl|rfl|rfl
  ·exact cX I
  ·exact cX I
  ·exact cX I
  ·cases ao:a.subs with
   |nil=>rfl
   |cons y l=>
    refine BA λz bg=>?_;have bg:z∈(y::l).map λx=>x.aT.A false:=bg;obtain⟨c,aa,rfl⟩:=List.mem_map.1 bg;exact wi λv au=>XA d c (by have:=PF.Nq (a:=a) (x:=c) (by rw[ao];exact aa);omega) (by omega) v au
section
variable {P:Program}{b:b8}{cG cE:AV}(G:GivM P b cG cE)
include G in
theorem b7D{r:Nat}(ak:r<9){f g:PF}(hf:f.low)(hg:g.low)(wz:∀p∈rowM r,(p.2.fy f g).low)(hv:Tok):∃res,@ev hv P b oP [.a7 true (some 8) ((rowM r).map λp=>lO (p.1,(p.2.fy f g).aT)),.ag [.ae,.ae]] res/\Ni res:=by
 have ij:=f.GA;have mU:=g.GA;have hS:∀o (t:rD),bT (gi f g) (.ag (t.gj f.subs.length g.subs.length o)) ((t.fy f g).aT.A o):=λo t=>rD.b7B f g o t;refine⟨.a6 [.ag [.a7 false (some 5) ((lq r).map λp=>.ag (.s p.1.name::(p.2.fy f g).aT.cells false)),.ae],ah 0,ah 0],(ev.gj (T:=gi f g) G.leaf (aW:=Xt r f.subs.length g.subs.length) (r:=Xu r f.subs.length g.subs.length) (lT:=[.a7 true (some 8) ((rowM r).map λp=>lO (p.1,(p.2.fy f g).aT)),.ag [.ae,.ae]]) I ?_ ?_).1 ?_,_,rfl,λJ=>rfl,λn=>?_,λn=>?_⟩
 ·refine bT.two ?_ (.mk I (bT.two .nil .nil));have aN:((rowM r).map λp=>AV.ag (bD p.1++p.2.gj f.subs.length g.subs.length true))=((rowM r).map λp=>bD p.1++p.2.gj f.subs.length g.subs.length true).map AV.ag:=by rw[List.map_map];rfl
  have a4:((rowM r).map λp=>lO (p.1,(p.2.fy f g).aT))=((rowM r).map λp=>bD p.1++bD (p.2.fy f g).aT).map AV.ag:=by rw[List.map_map];rfl
  rw[aN,a4];have hall:∀i (h:i<(rowM r).length),bT (gi f g) (.ag (bD (rowM r)[i].1++(rowM r)[i].2.gj f.subs.length g.subs.length true)) (.ag (bD (rowM r)[i].1++bD ((rowM r)[i].2.fy f g).aT)):=λi h=>(bT.KM ak _ (List.getElem_mem h)).app (by have:=hS true (rowM r)[i].2;rwa[Nv] at this);refine .a7 _ _ _ _ (by rw[List.length_map,List.length_map]) (λi h1 h2=>?_) λi h1 h2 j aA eR=>?_
  ·rw[List.length_map] at h1;rw[List.getElem_map,List.getElem_map];exact(hall i h1).cells.1
  ·rw[List.length_map] at h1;have:=(hall i h1).cells.2 j (by rwa[List.getElem_map] at aA) (by rwa[List.getElem_map] at eR);simpa only[List.getElem_map] using this
 ·refine .a6 _ _ I (bT.three (.mk I (bT.two ?_ .nil)) (.i _ _) (.i _ _));have aN:((lq r).map λp=>AV.ag (.s p.1.name::p.2.gj f.subs.length g.subs.length false))=((lq r).map λp=>.s p.1.name::p.2.gj f.subs.length g.subs.length false).map AV.ag:=by rw[List.map_map];rfl
  have a4:((lq r).map λp=>AV.ag (.s p.1.name::(p.2.fy f g).aT.cells false))=((lq r).map λp=>.s p.1.name::(p.2.fy f g).aT.cells false).map AV.ag:=by rw[List.map_map];rfl
  rw[aN,a4];have hall:∀i (h:i<(lq r).length),bT (gi f g) (.ag (.s (lq r)[i].1.name::(lq r)[i].2.gj f.subs.length g.subs.length false)) (.ag (.s (lq r)[i].1.name::((lq r)[i].2.fy f g).aT.cells false)):=λi h=>bT.cons (.s _) (hS false _);refine .a7 _ _ _ _ (by rw[List.length_map,List.length_map]) (λi h1 h2=>?_) λi h1 h2 j aA eR=>?_
  ·rw[List.length_map] at h1;rw[List.getElem_map,List.getElem_map];exact(hall i h1).cells.1
  ·rw[List.length_map] at h1;have:=(hall i h1).cells.2 j (by rwa[List.getElem_map] at aA) (by rwa[List.getElem_map] at eR);simpa only[List.getElem_map] using this
 ·letI:Tok:=gi f g
  haveI:TokOk:=n2 f g
  have b2:=kI (kI (G.Bx r ak) f.subs.length (three (by omega))) g.subs.length (three (by omega));have jr:vt P b (Ns r f.subs.length g.subs.length):=λe he b6=>by
   unfold Ns at he;have hH:∀p∈lq r,(p.2.fy f g).low/\(p.1=mA\/p.1=dM):=λp ar=>by
    rcases Nw p ar with rfl|rfl
    ·exact⟨hf,.inl I⟩
    ·exact⟨hg,.inr I⟩
   rcases List.mem_append.1 he with he|he
   ·obtain⟨p,ar,rfl⟩:=List.mem_map.1 he;exact(ev.gj (T:=gi f g) (hv:=gi f g) G.leaf (aW:=[.ag (p.2.gj f.subs.length g.subs.length true)]) (lT:=[(p.2.fy f g).aT.A true]) I (bT.one (hS true _)) (.b true)).2 ((G.fx _ (n2 f g)).right _ (wz p ar)) b6
   rcases List.mem_append.1 he with he|he
   ·obtain⟨p,ar,rfl⟩:=List.mem_map.1 he;exact G.Fe _ (n2 f g) r ak p ar b6
   rcases List.mem_append.1 he with he|he
   ·obtain⟨p,ar,rfl⟩:=List.mem_map.1 he;obtain⟨h1,h2⟩:=hH p ar;have hd:=h1.1;have jI:∀τ,bG τ (b.bn+1000) (rq p.1 (p.2.fy f g).aT)=some (rq p.1 (p.2.fy f g).aT):=λτ=>by
     refine oG (k:=b.bn+999) (ud ?_ (ud (B4 (by rw[PF.je];omega)) I));rcases h2 with e|e<;>rw[e]<;>rfl
    have cP:bT (gi f g) (.ag (bD p.1)) (.ag (bD p.1)):=by rcases h2 with e|e<;>rw[e]<;>exact bT.GD _ _
    have cM:=Xp (G.hb _ (n2 f g)) G.fb p.1 (p.2.fy f g).aT jI _ (p.2.fy f g) (Nat.le_refl _) (by omega);have ht:=hS true p.2;refine(ev.gj (T:=gi f g) (hv:=gi f g) G.leaf (aW:=[.ag (bD p.1++(p.2.gj f.subs.length g.subs.length true++[.ae])),.ag (p.2.gj f.subs.length g.subs.length true),.ae]) (r:=.a6 [.ag (p.2.gj f.subs.length g.subs.length false),.b true]) (lT:=[rq p.1 (p.2.fy f g).aT,(p.2.fy f g).aT.A true,.ae]) (cw:=.a6 [(p.2.fy f g).aT.A false,.b true]) I (bT.three (cP.app (bT.app (by rwa[Nv] at ht) (.mk I (bT.one .nil)))) ht .nil) (.a6 _ _ I (bT.two (hS false _) (.b _)))).2 cM b6
   rcases List.mem_append.1 he with he|he
   ·obtain⟨p,ar,rfl⟩:=List.mem_map.1 he;obtain⟨h1,h2⟩:=hH p ar;have hd:=h1.1;have cM:=Xn (G.hb _ (n2 f g)) G.fb _ (p.2.fy f g) (p.2.fy f g) (Nat.le_refl _) (by omega) (by omega);rw[decide_eq_true I] at cM;exact(ev.gj (T:=gi f g) (hv:=gi f g) G.leaf (aW:=[.ag (p.2.gj f.subs.length g.subs.length true),.ag (p.2.gj f.subs.length g.subs.length true),.ae]) (lT:=[(p.2.fy f g).aT.A true,(p.2.fy f g).aT.A true,.ae]) I (bT.three (hS true _) (hS true _) .nil) (.b true)).2 cM b6
   ·obtain⟨p,ar,rfl⟩:=List.mem_map.1 he;exact(ev.gj (T:=gi f g) (hv:=gi f g) G.leaf (aW:=[.ag (p.2.gj f.subs.length g.subs.length true)]) (r:=.ag (p.2.gj f.subs.length g.subs.length false)) (lT:=[(p.2.fy f g).aT.A true]) (cw:=(p.2.fy f g).aT.A false) I (bT.one (hS true _)) (hS false _)).2 (Xy G _ _ (Nat.le_refl _) (gi f g)) b6
  exact λb6=>jr.entry (G.hb _ (n2 f g)) b2 b6
 ·letI:Tok:=gi .ct .ct
  haveI:TokOk:=n2 .ct .ct
  refine BA (n:=n+499) λz bg=>?_;obtain⟨p,ar,rfl⟩:=List.mem_map.1 bg;have hd:(p.2.fy f g).dep<=38:=by
   rcases Nw p ar with rfl|rfl
   ·exact hf.1
   ·exact hg.1
  refine wi (n:=n+498) λv au=>?_;rcases List.mem_cons.1 au with rfl|au
  ·exact cX I
  ·exact XA _ _ (Nat.le_refl _) (by omega) v au
 ·letI:Tok:=gi .ct .ct
  haveI:TokOk:=n2 .ct .ct
  rw[show n+500=n+499+1 from rfl,nH];refine iv λz bg=>?_;obtain⟨p,ar,rfl⟩:=List.mem_map.1 bg;have hd:(p.2.fy f g).dep<=38:=by
   rcases Nw p ar with rfl|rfl
   ·exact hf.1
   ·exact hg.1
  refine iv λv au=>?_;rcases List.mem_cons.1 au with rfl|au
  ·rfl
  ·have h:=No _ (p.2.fy f g) (n:=n+500) (Nat.le_refl _) (by omega);rw[<-ug,nH] at h;exact kI h v au
end
end Go.Lyc
end
noncomputable section
namespace Go.Lyc
set_option maxHeartbeats 0
variable [Tok][TokOk]
open Go.RowKit Go.Lyc.T
section
variable {P:Program}{b:b8}{cG cE:AV}(G:GivM P b cG cE)
structure Ca(r:dn)(F:PF)(gs:List dF)(k:Nat)(f g:PF):Prop where
 CZ:k<9
 yl:(my r F.aT gs).map lO=(rowM k).map λp=>lO (p.1,(p.2.fy f g).aT)
 ne:(my r F.aT gs)≠[]
 low:f.low/\g.low/\∀p∈rowM k,(p.2.fy f g).low
 Nx:r∈ih
 aC:∀p∈r.cB,p.closed=false
 c:FT r gs
 hy:∀x∈gs,x.hyps.length<=1/\x.eZ.dep<=38/\(∀h∈x.hyps,∃a:PF,h=a.aT/\a.low)/\(∃a:PF,x.eZ=a.aT/\a.low)/\(∀h∈x.rest,∃a:PF,h=a.aT/\a.low)
theorem yS:PF.low .ct:=⟨by decide,by decide⟩
theorem qf.one{gs:List dF}{p:PF×List PF}(h:qf gs [p]):∃g,gs=[g]/\o_ g p:=by
 cases h with
 |cons h1 h2=>cases h2;exact⟨_,rfl,h1⟩
theorem qf.two{gs:List dF}{p q:PF×List PF}(h:qf gs [p,q]):∃g qQ,gs=[g,qQ]/\o_ g p/\o_ qQ q:=by
 cases h with
 |cons h1 h2=>cases h2 with
  |cons h2 h3=>cases h3;exact⟨_,_,rfl,h1,h2⟩
theorem o_.hy{g:dF}{p:PF×List PF}(h:o_ g p)(hl:p.2.length<=1):g.hyps.length<=1/\g.eZ.dep<=38/\(∀h∈g.hyps,∃a:PF,h=a.aT/\a.low)/\(∃a:PF,g.eZ=a.aT/\a.low)/\(∀h∈g.rest,∃a:PF,h=a.aT/\a.low):=
 ⟨by rw[h.hyps,List.length_map];exact hl,by rw[h.eZ,PF.je];exact h.low.1.1,λx hx=>by rw[h.hyps] at hx;obtain⟨a,ha,rfl⟩:=List.mem_map.1 hx;exact⟨a,rfl,h.low.2 a ha⟩,⟨p.1,h.eZ,h.low.1⟩,h.rest⟩
theorem XB{r:dn}{F:Fm}{gs:List dF}:my r F gs≠[]:=by simp[my]
theorem Ca.one{r:dn}{F:PF}{x:dF}{p:PF×List PF}{k:Nat}{f g:PF}{pm:eN}(hx:o_ x p)(ar:p.2.length<=1)(ak:r.cB=[pm])(hH:pm.hyps.length=p.2.length)(fH:pm.closed=false)(Ny:r∈ih)(az:k<9)(Bv:(my r F.aT [x]).map lO=(rowM k).map λp=>lO (p.1,(p.2.fy f g).aT))(wz:f.low/\g.low/\∀p∈rowM k,(p.2.fy f g).low):Ca r F [x] k f g:=by
 have hh:=hx.hy ar;refine⟨az,Bv,XB,wz,Ny,λq aS=>?_,⟨by rw[ak];rfl,Nat.lt_of_le_of_lt (show _<=2 from by simp) (by decide),λi h h'=>?_,λz bg=>?_⟩,λz bg=>?_⟩
 ·rw[ak] at aS;rw[List.mem_singleton.1 aS];exact fH
 ·simp only[ak] at h' ⊢
  match i,h with
  |0,_=>show x.hyps.length=pm.hyps.length;rw[hH,hx.hyps,List.length_map]
 ·rw[List.mem_singleton.1 bg];exact⟨by omega,by have:=hx.len;omega⟩
 ·rw[List.mem_singleton.1 bg];exact hh
theorem Ca.two{r:dn}{F:PF}{x y:dF}{p q:PF×List PF}{k:Nat}{f g:PF}{pm Cb:eN}(hx:o_ x p)(hy:o_ y q)(ar:p.2=[])(aS:q.2=[])(ak:r.cB=[pm,Cb])(hH:pm.hyps=[]/\Cb.hyps=[])(fH:pm.closed=false/\Cb.closed=false)(Ny:r∈ih)(az:k<9)(Bv:(my r F.aT [x,y]).map lO=(rowM k).map λp=>lO (p.1,(p.2.fy f g).aT))(wz:f.low/\g.low/\∀p∈rowM k,(p.2.fy f g).low):Ca r F [x,y] k f g:=by
 have hh:=hx.hy (by rw[ar];decide);have zy:=hy.hy (by rw[aS];decide);have aN:x.hyps=[]:=by rw[hx.hyps,ar];rfl
 have a4:y.hyps=[]:=by rw[hy.hyps,aS];rfl
 refine⟨az,Bv,XB,wz,Ny,λq aS=>?_,⟨by rw[ak];rfl,Nat.lt_of_le_of_lt (show _<=2 from by simp) (by decide),λi h h'=>?_,λz bg=>?_⟩,λz bg=>?_⟩
 ·rw[ak] at aS;have aS:q=pm\/q=Cb:=by simpa using aS
  rcases aS with rfl|rfl
  ·exact fH.1
  ·exact fH.2
 ·simp only[ak] at h' ⊢
  match i,h with
  |0,_=>show x.hyps.length=pm.hyps.length;rw[hH.1,aN]
  |1,_=>show y.hyps.length=Cb.hyps.length;rw[hH.2,a4]
 ·have bg:z=x\/z=y:=by simpa using bg
  rcases bg with rfl|rfl
  ·exact⟨by omega,by have:=hx.len;omega⟩
  ·exact⟨by omega,by have:=hy.len;omega⟩
 ·have bg:z=x\/z=y:=by simpa using bg
  rcases bg with rfl|rfl
  ·exact hh
  ·exact zy
theorem n0.row{r:dn}{F:PF}{aC:List (PF×List PF)}{gs:List dF}(h:n0 r F aC)(b_:F.low)(hg:qf gs aC):∃k f g,Ca r F gs k f g:=by
 cases h with
 |and f g=>
  obtain⟨x,y,rfl,hx,hy⟩:=hg.two;obtain⟨gx,h1,hE⟩:=x;obtain⟨k4,h2,ky⟩:=y;obtain rfl:=hx.eZ;obtain rfl:=hy.eZ;obtain rfl:=hx.hyps;obtain rfl:=hy.hyps;refine⟨0,f,g,.two hx hy I I I ⟨rfl,rfl⟩ ⟨rfl,rfl⟩ (by simp[ih]) (by decide) I ⟨hx.low.1,hy.low.1,λp ar=>?_⟩⟩;have ar:p=(mA,.a)\/p=(dM,.b)\/p=(gS 0 mA dM,.bin 0):=by simpa [rowM] using ar
  rcases ar with rfl|rfl|rfl
  ·exact hx.low.1
  ·exact hy.low.1
  ·exact b_
 |ie q f g=>
  obtain⟨x,rfl,hx⟩:=hg.one;obtain⟨gx,h1,hE⟩:=x;obtain rfl:=hx.eZ;obtain rfl:=hx.hyps;have hb:(PF.bin 0 f g).low:=hx.low.1;have ij:max f.dep g.dep+1<=38:=hb.1;have mU:f.bK+g.bK+1<=190:=hb.2;have hf:f.low:=⟨by omega,by omega⟩
  have ru:g.low:=⟨by omega,by omega⟩
  cases q with
  |false=>
   refine⟨1,f,g,.one hx (by simp) I I I (by simp[ih]) (by decide) I ⟨hf,ru,λp ar=>?_⟩⟩;have ar:p=(gS 0 mA dM,.bin 0)\/p=(mA,.a):=by simpa [rowM] using ar
   rcases ar with rfl|rfl
   ·exact hb
   ·exact hf
  |true=>
   refine⟨2,f,g,.one hx (by simp) I I I (by simp[ih]) (by decide) I ⟨hf,ru,λp ar=>?_⟩⟩;have ar:p=(gS 0 mA dM,.bin 0)\/p=(dM,.b):=by simpa [rowM] using ar
   rcases ar with rfl|rfl
   ·exact hb
   ·exact ru
 |or f g=>
  obtain⟨x,rfl,hx⟩:=hg.one;obtain⟨gx,h1,hE⟩:=x;obtain rfl:=hx.eZ;obtain rfl:=hx.hyps;have ij:max f.dep g.dep+1<=38:=b_.1;have mU:f.bK+g.bK+1<=190:=b_.2;refine⟨3,f,g,.one hx (by simp) I I I (by simp[ih]) (by decide) I ⟨hx.low.1,⟨by omega,by omega⟩,λp ar=>?_⟩⟩;have ar:p=(mA,.a)\/p=(gS 1 mA dM,.bin 1):=by simpa [rowM] using ar
  rcases ar with rfl|rfl
  ·exact hx.low.1
  ·exact b_
 |WL f g=>
  obtain⟨x,rfl,hx⟩:=hg.one;obtain⟨gx,h1,hE⟩:=x;obtain rfl:=hx.eZ;obtain rfl:=hx.hyps;have hf:f.low:=hx.low.2 f (by simp);refine⟨4,f,g,.one hx (by simp) I I I (by simp[ih]) (by decide) I ⟨hf,hx.low.1,λp ar=>?_⟩⟩;have ar:p=(dM,.b)\/p=(mA,.a)\/p=(gS 2 mA dM,.bin 2):=by simpa [rowM] using ar
  rcases ar with rfl|rfl|rfl
  ·exact hx.low.1
  ·exact hf
  ·exact b_
 |uk f g=>
  obtain⟨x,y,rfl,hx,hy⟩:=hg.two;obtain⟨gx,h1,hE⟩:=x;obtain⟨k4,h2,ky⟩:=y;obtain rfl:=hx.eZ;obtain rfl:=hy.eZ;obtain rfl:=hx.hyps;obtain rfl:=hy.hyps;refine⟨5,f,F,.two hx hy I I I ⟨rfl,rfl⟩ ⟨rfl,rfl⟩ (by simp[ih]) (by decide) I ⟨hy.low.1,b_,λp ar=>?_⟩⟩;have ar:p=(gS 2 mA dM,.bin 2)\/p=(mA,.a)\/p=(dM,.b):=by simpa [rowM] using ar
  rcases ar with rfl|rfl|rfl
  ·exact hx.low.1
  ·exact hy.low.1
  ·exact b_
 |WM f=>
  obtain⟨x,rfl,hx⟩:=hg.one;obtain⟨gx,h1,hE⟩:=x;obtain rfl:=hx.eZ;obtain rfl:=hx.hyps;have hf:f.low:=hx.low.2 f (by simp);refine⟨6,f,.ct,.one hx (by simp) I I I (by simp[ih]) (by decide) I ⟨hf,yS,λp ar=>?_⟩⟩;have ar:p=(lp,.ct)\/p=(mA,.a)\/p=(o9 mA,.neg):=by simpa [rowM] using ar
  rcases ar with rfl|rfl|rfl
  ·exact yS
  ·exact hf
  ·exact b_
 |um f=>
  obtain⟨x,y,rfl,hx,hy⟩:=hg.two;obtain⟨gx,h1,hE⟩:=x;obtain⟨k4,h2,ky⟩:=y;obtain rfl:=hx.eZ;obtain rfl:=hy.eZ;obtain rfl:=hx.hyps;obtain rfl:=hy.hyps;refine⟨7,f,.ct,.two hx hy I I I ⟨rfl,rfl⟩ ⟨rfl,rfl⟩ (by simp[ih]) (by decide) I ⟨hx.low.1,yS,λp ar=>?_⟩⟩;have ar:p=(mA,.a)\/p=(o9 mA,.neg)\/p=(lp,.ct):=by simpa [rowM] using ar
  rcases ar with rfl|rfl|rfl
  ·exact hx.low.1
  ·exact hy.low.1
  ·exact yS
 |wk=>
  obtain⟨x,rfl,hx⟩:=hg.one;obtain⟨gx,h1,hE⟩:=x;obtain rfl:=hx.eZ;obtain rfl:=hx.hyps;refine⟨8,F,.ct,.one hx (by simp) I I I (by simp[ih]) (by decide) I ⟨b_,yS,λp ar=>?_⟩⟩;have ar:p=(lp,.ct)\/p=(mA,.a):=by simpa [rowM] using ar
  rcases ar with rfl|rfl
  ·exact yS
  ·exact b_
end
theorem b7E{J:ad}{n:Nat}{F:Fm}(h:2*F.dep+3<=n):bG J n (.ag (bD F))=some (.ag (bD F)):=by
 obtain⟨n,rfl⟩:∃m,n=m+1:=⟨n-1,by omega⟩
 exact oG (B4 (by omega))
theorem XC{J:ad}{n:Nat}{g:dF}(h1:g.eZ.dep<=200)(h2:∀F∈g.hyps,F.dep<=200)(h3:∀F∈g.rest,F.dep<=200)(hn:900<=n):bG J n g.A=some g.A:=by
 obtain⟨n,rfl⟩:∃m,n=m+3:=⟨n-3,by omega⟩
 have a3:mapO (bG J (n+2)) (bD g.eZ)=some (bD g.eZ):=B4 (by omega);have bm:bG J (n+2) (slA true (some 5) (g.hyps.map pX))=some (slA true (some 5) (g.hyps.map pX)):=yP λF b_=>by
  have:=h2 F b_;refine oG (k:=n) ?_;rw[mapO_cons,B4 (by omega)];cases n with
  |zero=>omega
  |succ n=>rfl
 have cv:bG J (n+2) (slA true (some 4) (g.rest.map λF=>.ag (bD F)))=some (slA true (some 4) (g.rest.map λF=>.ag (bD F))):=yP λF b_=>b7E (by have:=h3 F b_;omega);refine oG (ud a3 ?_);rw[mapO_cons,mapO_cons,bm,cv];rfl
theorem b7F{b:b8}:∀r∈ih,(∀J,bG J (b.bn+1000) r.A=some r.A)/\(∀J,bG J (b.bn+1000) (slA true (some 7) (r.cB.map eN.A))=some (slA true (some 7) (r.cB.map eN.A)))/\(∀p∈r.cB,∀J,bG J (b.bn+1000) p.A=some p.A)/\r.eZ.dep<=10/\(∀p∈r.cB,p.f.dep<=10/\∀h∈p.hyps,h.dep<=10):=by
 intro r ak;simp only[ih,List.mem_cons,List.not_mem_nil,or_false] at ak;rcases ak with rfl|rfl|rfl|rfl|rfl|rfl|rfl|rfl|rfl|rfl|rfl<;>refine⟨λJ=>rfl,λJ=>rfl,?_,by decide,?_⟩<;>intro p ar
 all_goals (
  simp only[MW,B1,MX,WJ,WK,MY,MZ,M0,M1,M3,List.mem_cons,List.not_mem_nil,or_false] at ar
  first
   |(rcases ar with rfl|rfl|rfl<;>first|exact λJ=>rfl|exact⟨by decide,by decide⟩)
   |(rcases ar with rfl|rfl<;>first|exact λJ=>rfl|exact⟨by decide,by decide⟩)
   |(rcases ar with rfl<;>first|exact λJ=>rfl|exact⟨by decide,by decide⟩))
theorem jU.aG{b:b8}{K:Nat->List AV->AV->Prop}(fb:jU b):yy b K:=⟨fb.b7i.h,fb.b7j.h,fb.b7k.h,fb.b7l.h,fb.b7m.h,fb.b7n.h⟩
theorem jU.ap{b:b8}{K:Nat->List AV->AV->Prop}(fb:jU b):VF b K:=⟨fb.b7c.h,fb.b7d.h,fb.b7e.h,fb.b7f.h,fb.b7g.h,fb.b7h.h,fb.aG,fb.rC I,fb.rC I,fb.rC I⟩
theorem b7G{r:dn}{F:Fm}{gs:List dF}{n:Nat}(h0:1<=n)(aa:r.eZ.dep<=n)(b_:F.dep<=n)(ar:∀p∈r.cB,p.f.dep<=n/\∀h∈p.hyps,h.dep<=n)(hg:∀g∈gs,g.eZ.dep<=n/\∀h∈g.hyps,h.dep<=n):∀p∈my r F gs,p.1.dep<=n/\p.2.dep<=n:=by
 have d0:Br.dep<=n:=by
  have:Br.dep=1:=by decide
  omega
 have XD:∀i,(r.cB.getD i mw).f.dep<=n/\∀h∈(r.cB.getD i mw).hyps,h.dep<=n:=λi=>by
  rw[List.getD_eq_getElem?_getD];cases h:r.cB[i]? with
  |none=>exact⟨d0,λh hh=>by simp[mw] at hh⟩
  |some p=>exact ar p (List.mem_of_getElem? h)
 have XE:∀i,(gs.getD i iN).eZ.dep<=n/\∀h∈(gs.getD i iN).hyps,h.dep<=n:=λi=>by
  rw[List.getD_eq_getElem?_getD];cases h:gs[i]? with
  |none=>exact⟨d0,λh hh=>by simp[iN] at hh⟩
  |some p=>exact hg p (List.mem_of_getElem? h)
 have hl:∀ {l:List Fm} {i:Nat},(∀h∈l,h.dep<=n)->(l.getD i Br).dep<=n:=λ{l i} h=>by
  rw[List.getD_eq_getElem?_getD];cases hx:l[i]? with
  |none=>exact d0
  |some p=>exact h p (List.mem_of_getElem? hx)
 have h2:∀j,∀p∈pr2 r gs j,p.1.dep<=n/\p.2.dep<=n:=λj=>by
  induction j with
  |zero=>intro p ar;simp[pr2] at ar
  |succ j aD=>
   intro p ar;rw[pr2] at ar;rcases List.mem_append.1 ar with ar|ar
   ·exact aD p ar
   ·obtain⟨t,_,rfl⟩:=List.mem_map.1 ar;exact⟨hl (XD j).2,hl (XE j).2⟩
 intro p ar;unfold my at ar;rcases List.mem_append.1 ar with ar|ar
 ·rcases List.mem_append.1 ar with ar|ar
  ·obtain⟨i,_,rfl⟩:=List.mem_map.1 ar;exact⟨(XD i).1,(XE i).1⟩
  ·exact h2 _ p ar
 ·rw[List.mem_singleton.1 ar];exact⟨aa,b_⟩
section
variable {P:Program}{b:b8}{cG cE:AV}(G:GivM P b cG cE)
include G in
theorem b7H(hv:Tok)(Nz: @TokOk hv){r:dn}{F:PF}{aC:List (PF×List PF)}{gs:List dF}(ha:n0 r F aC)(b_:F.low)(hg:qf gs aC):∃cU gM gH gI ax,@ev hv P b tM [r.A,F.aT.A true,g9 gs] (.a6 [.ag [cU,gM],.ag [.i .u8 (Int.ofNat gH),ah gI,ah ax],ah 0]):=by
 letI:Tok:=hv
 haveI:TokOk:=Nz
 obtain⟨k,f,g,hR⟩:=ha.row b_ hg;obtain⟨res,hm,b7I⟩:=b7D G hR.CZ hR.low.1 hR.low.2.1 hR.low.2.2 hv;obtain⟨s1,s2,dT,ba,g0⟩:=b7F (b:=b) r hR.Nx;have uz:∀x∈gs,x.eZ.dep<=200/\(∀h∈x.hyps,h.dep<=200)/\∀h∈x.rest,h.dep<=200:=λx hx=>by
  obtain⟨a3,bm,cv,dU,en⟩:=hR.hy x hx;refine⟨by omega,λh hh=>?_,λh hh=>?_⟩
  ·obtain⟨c,rfl,aa⟩:=cv h hh;rw[PF.je];have:=aa.1;omega
  ·obtain⟨c,rfl,aa⟩:=en h hh;rw[PF.je];have:=aa.1;omega
 have c1U:=b_.1;have aN:slA true (some 8) ((my r F.aT gs).map lO)= .a7 true (some 8) ((rowM k).map λp=>lO (p.1,(p.2.fy f g).aT)):=by
  rw[<-hR.yl];have:=hR.ne;cases hx:my r F.aT gs with
  |nil=>exact absurd hx this
  |cons x l=>rfl
 rw[<-aN] at hm;obtain⟨cw,cM,aV⟩:=cK.get (cG:=cG) (cE:=cE) hm (b6K b7I);obtain⟨cU,a4,hfz,heq,bq⟩:=aV.Bx I;rw[a4] at cM;have we:AV.eqb (b.bn+1000) (.ag [cU,.ae]) (.ag [cU,.ae])=true:=wi (n:=b.bn+999) λx hx=>by
  have hx:x=cU\/x= .ae:=by simpa using hx
  rcases hx with rfl|rfl
  ·exact heq (b.bn+499)
  ·exact cX I
 have mS:=G.fx hv Nz;have m7:∀ {x:dF},x∈gs->x.hyps.length<2^10:=λ{x} hx=>by have:=(hR.hy x hx).1;omega
 have j5:gs.length<2^10:=by
  rw[hR.c.len];have:∀r∈ih,r.cB.length<2^10:=by decide
  exact this r hR.Nx
 refine⟨cU,.ae,0,0,0,λb6=>?_⟩;have hw:=b3K cK.fn (K:=cK P b cG cE) G.fb.ap hR.c j5 (λx hx=>m7 hx) (at_:=0) (e:=0) ⟨s2,dT,λJ=>yP (n:=b.bn+999) λx hx=>XC (uz x hx).1 (uz x hx).2.1 (uz x hx).2.2 (by omega),λx hx J=>XC (uz x hx).1 (uz x hx).2.1 (uz x hx).2.2 (by omega)⟩ s1 (b7G (by decide) (by omega) (by rw[PF.je];omega) (λp ar=>⟨by have:=(g0 p ar).1;omega,λh hh=>by have:=(g0 p ar).2 h hh;omega⟩) λx hx=>⟨(uz x hx).1,(uz x hx).2.1⟩) (λh=>absurd I h) cM we hfz hR.aC (cK.hX (mS.oj r hR.Nx) (rB (by decide)) λr h=>h.rA (by decide)) (λh hh=>?_) _ I
 ·rw[if_pos I] at hw;rw[iW];refine b3F (G.hb hv Nz) (cK.ok (cG:=cG) (cE:=cE)) (ab:=1000) _ G.fb.Xj.1 I I I ?_ ?_ hw b6
  ·rw[nH];refine iv λy hy=>?_;have hy:y= .ag [cU,.ae]\/y=o6 0 0 0\/y=ah 0:=by simpa using hy
   rcases hy with rfl|rfl|rfl
   ·rw[show(999:Nat)=998+1 from rfl,nH];refine iv λz bg=>?_;have bg:z=cU\/z= .ae:=by simpa using bg
    rcases bg with rfl|rfl
    ·exact bq 498
    ·rfl
   ·rfl
   ·rfl
  ·refine(oD λy hy=>?_:ft (AV.eqb 999) [.ag [cU,.ae],o6 0 0 0,ah 0] [.ag [cU,.ae],o6 0 0 0,ah 0]=true);have hy:y= .ag [cU,.ae]\/y=o6 0 0 0\/y=ah 0:=by simpa using hy
   rcases hy with rfl|rfl|rfl
   ·refine wi (n:=998) λx hx=>?_;have hx:x=cU\/x= .ae:=by simpa using hx
    rcases hx with rfl|rfl
    ·exact heq 498
    ·rfl
   ·rfl
   ·rfl
 ·have key:∀a:PF,a.low->a.aT.dep<=200/\cK P b cG cE kp [a.aT.A true] (.b true):=λa ha=>⟨by rw[PF.je];have:=ha.1;omega,cK.hX (mS.right a ha) (rB (by decide)) λr h=>h.rA (by decide)⟩
  rcases List.mem_cons.1 hh with rfl|hh
  ·exact key F b_
  ·obtain⟨x,hx,hh⟩:=List.mem_flatMap.1 hh;obtain⟨a3,bm,cv,⟨c,dU,Bm⟩,en⟩:=hR.hy x hx;rcases List.mem_cons.1 hh with rfl|hh
   ·rw[dU];exact key c Bm
   ·rcases List.mem_append.1 hh with hh|hh
    ·obtain⟨c,rfl,aa⟩:=cv h hh;exact key c aa
    ·obtain⟨c,rfl,aa⟩:=en h hh;exact key c aa
end
section
variable {b:b8}{K:Nat->List AV->AV->Prop}
theorem jU.hf(fb:jU b):lg b K:=⟨fb.Fj.h,fb.b6M.h,fb.b6N.h,fb.b6O.h,fb.b6P.h,fb.yd.h,fb.assumptions.h,fb.beside.h,fb.ye.h,fb.b6Q.h⟩
theorem jU.ho(fb:jU b):Lb b K:=⟨fb.b6R.h,fb.b6S.h,fb.b6T.h,fb.Xh.2⟩
theorem jU.ar(fb:jU b):Bg b K:=⟨fb.b6U.h,fb.b6V.h,fb.b6W.h,fb.b6X.h,fb.b6Y.h⟩
theorem jU.hF(fb:jU b):LG b K:=⟨fb.b6Z.h,fb.b7a.h,fb.b7b.h,fb.rC I,fb.Xe.2,fb.Xj.2⟩
end
theorem b7J(N:List (List Nat)){n:Nat}:fe (n+3) (jP N)=true/\AV.eqb (n+3) (jP N) (jP N)=true:=by
 have h1:∀l:List Nat,fe (n+2) (slA false none (l.map ah))=true/\AV.eqb (n+2) (slA false none (l.map ah)) (slA false none (l.map ah))=true:=λl=>by
  cases l with
  |nil=>exact⟨rfl,rfl⟩
  |cons x l=>
   refine⟨?_,BA (n:=n+1) λy hy=>?_⟩
   ·show fe (n+2) (.a7 false none ((x::l).map ah))=true;rw[show n+2=n+1+1 from rfl,nH];refine iv λy hy=>?_;obtain⟨k,_,rfl⟩:=List.mem_map.1 hy;rfl
   ·obtain⟨k,_,rfl⟩:=List.mem_map.1 (show y∈(x::l).map ah from hy);exact cX I
 unfold jP;cases N with
 |nil=>exact⟨rfl,rfl⟩
 |cons x N=>
  refine⟨?_,BA (n:=n+2) λy hy=>?_⟩
  ·show fe (n+3) (.a7 false none ((x::N).map λl=>slA false none (l.map ah)))=true;rw[show n+3=n+2+1 from rfl,nH];show(true&&cr (λx=>cr (fe (n+2)) x.cells) ((x::N).map λl=>slA false none (l.map ah)))=true;rw[Bool.true_and];refine iv λy hy=>?_;obtain⟨l,_,rfl⟩:=List.mem_map.1 hy;have:(slA false none (l.map ah)).cells=[slA false none (l.map ah)]:=by cases l<;>rfl
   rw[this];exact iv λz bg=>by rw[List.mem_singleton.1 bg];exact(h1 l).1
  ·obtain⟨l,_,rfl⟩:=List.mem_map.1 (show y∈(x::N).map λl=>slA false none (l.map ah) from hy);exact(h1 l).2
structure NA(b:b8)(l:lN)(R:List dn):Prop where
 rs:l.rs=R.map dn.A
 pre:∃rest,R=ih++rest
 len:R.length<2^20
 aC:∀r∈R,r.cB.length<2^20/\∀J,bG J (b.bn+1000) r.A=some r.A
 jO:∀J,bG J (b.bn+1000) (l.A true)=some (l.A true)
section
variable {P:Program}{b:b8}{l:lN}{R:List dn}{cE:AV}(G:GivM P b (l.A true) cE)(hl:NA b l R)
abbrev sS(P:Program)(b:b8)(l:lN)(cE:AV):Nat->List AV->AV->Prop:=cK P b (l.A true) cE
include G
theorem Rd.XF{L:List a1}{ab:List (List Nat)}{ax:List Nat}(h:Rd L ab ax)(hL:L.length<=36):∀x∈L.map a1.br,x.f.dep<=38:=λx hx=>by
 obtain⟨y,hy,rfl⟩:=List.mem_map.1 hx;show y.f.aT.dep<=38;rw[PF.je];exact(h.low hL hy).1
theorem Rd.jO{L:List a1}{ab:List (List Nat)}{ax:List Nat}(h:Rd L ab ax)(hL:L.length<=36)(a5:L≠[]):∀J,bG J (b.bn+1000) (cD (L.map a1.br))=some (cD (L.map a1.br)):=λJ=>b5O (by simpa using a5) λx hx=>by have:=Rd.XF G h hL x hx;omega
theorem b7K(hb:kH P b){L:List a1}{ab:List (List Nat)}{ax:List Nat}(h:Rd L ab ax)(hL:L.length<=36){k:Nat}(h1:1<=k)(h2:k<=L.length):ev P b vU [cD (L.map a1.br),ah k] (.b (tW (L.map a1.br) k)):=λb6=>
 mW hb (cK.ok (cG:=.ae) (cE:=.ae)) _ G.fb.Xg.1 I I I I (jy _).1 (jy _).2 (b1C (L.map a1.br) (by rw[List.length_map];omega) (λx hx=>by
  have h3:=(h.oY (by omega)).num x hx;obtain⟨i,hi,rfl⟩:=List.getElem_of_mem hx;have aQ:=(h.M8 (k:=i+1) (by omega) (List.getElem?_eq_getElem hi)).1;exact⟨by omega,by omega,aQ⟩) k h1 (by rw[List.length_map];exact h2) _ I) b6
theorem b7L(hb:kH P b){L:List a1}{ab:List (List Nat)}{ax:List Nat}(h:Rd L ab ax)(hL:L.length<=36)(a5:L≠[]):ev P b q4 [cD (L.map a1.br)] (ah 0):=λb6=>
 mW hb (cK.ok (cG:=.ae) (cE:=.ae)) _ G.fb.Xh.1 I I I I (oI _ _).1 (oI _ _).2 (b1H cK.fn ((L.map a1.br).map bX.A) (Rd.jO G h hL a5) (by rw[List.length_map,List.length_map];omega) (λk=>tW (L.map a1.br) k) G.fb.Xg.2 0 (Nat.zero_le _) (λk h1 h2 _=>by
  rw[List.length_map,List.length_map] at h2;exact cK.hX (b7K G hb h hL h1 h2) (b6G _ _) λr ak=>ak.oY I _ _ I) (λk h1 h2 _=>by
  rw[List.length_map,List.length_map] at h2;exact(h.shape h1 (List.getElem?_eq_getElem (show k-1<L.length by omega))).1) (λh=>absurd I h) _ I) b6
theorem Rd.DZ(hb:kH P b){L:List a1}{ab:List (List Nat)}{ax:List Nat}(h:Rd L ab ax)(hL:L.length<=36)(a5:L≠[]):A8 b (sS P b l cE) (L.map a1.br) where
 oY:=h.oY (by omega)
 ne:=by rw[List.length_map];exact List.length_pos_iff.2 a5
 le:=by rw[List.length_map];omega
 jO:=Rd.jO G h hL a5
 A9:=cK.hX (b7L G hb h hL a5) b6F λr ak=>ak.A9 I
 pW:=h.pW (by omega)
 A_ k x hx h1:=h.M8 h1 hx
theorem b7M(hb:kH P b){L:List a1}{ab:List (List Nat)}{ax:List Nat}(h:Rd L ab ax)(hL:L.length<=36)(a5:L≠[]):ev P b vS [cD (L.map a1.br)] (.a6 [jP (ndsL (L.map a1.br) (L.map a1.br).length),ah 0]):=λb6=>by
 have hw:=b1Z (K:=sS P b l cE) cK.fn G.fb.hf G.fb.ho (Rd.DZ G hb h hL a5) _ I;have hf:=b7J (ndsL (L.map a1.br) (L.map a1.br).length) (n:=996);refine FC hb cK.ok (ab:=1000) _ G.fb.Xi.1 I I I ?_ ?_ hw b6
 ·rw[show(1000:Nat)=999+1 from rfl,nH];refine iv λy hy=>?_;have hy:y=jP (ndsL (L.map a1.br) (L.map a1.br).length)\/y=ah 0:=by simpa using hy
  rcases hy with rfl|rfl
  ·exact hf.1
  ·rfl
 ·refine(oD λy hy=>?_:ft (AV.eqb 999) [jP (ndsL (L.map a1.br) (L.map a1.br).length),ah 0] [jP (ndsL (L.map a1.br) (L.map a1.br).length),ah 0]=true);have hy:y=jP (ndsL (L.map a1.br) (L.map a1.br).length)\/y=ah 0:=by simpa using hy
  rcases hy with rfl|rfl
  ·exact hf.2
  ·rfl
include hl
theorem b7N(hb:kH P b)(fx:wB P b (l.A true) cE):M4 (sS P b l cE) R (l.A true) where
 pre:=hl.pre
 ap r F aC gs ha b_ hg:=by
  obtain⟨cU,gM,gH,gI,ax,jn⟩:=b7H G _ inferInstance ha b_ hg;obtain⟨cw,cM,aV⟩:=cK.get (cG:=l.A true) (cE:=cE) jn (b6L ⟨_,_,_,_,_,rfl⟩);obtain⟨cU,gM,gH,gI,ax,rfl⟩:=aV.app I;exact⟨cU,gM,gH,gI,ax,cM⟩
 cC f hf:=by
  have:=cK.hX (cG:=l.A true) (cE:=cE) (b7y hb G.fb fx.right f f hf hf) (b6B f f) λr h=>h.LJ I f f I;rwa[decide_eq_true I] at this
 g_ f hf:=cK.hX (fx.g_ f hf) (rB (by decide)) λr h=>h.rA (by decide)
theorem b7O(hb:kH P b)(fx:wB P b (l.A true) cE){L:List a1}{ab:List (List Nat)}{ax:List Nat}(h:Rd L ab ax)(hL:L.length<=36)(a5:L≠[]):ev P b vT [l.A true,cD (L.map a1.br)] (B9 (L.map a1.br)):=λb6=>by
 have cM:=b7N G hl hb fx;have p5:Vx (sS P b l cE) l R (L.map a1.br) 0 0 0 0 0:=⟨Nat.zero_le _,λk x h1 _ hx=>by
  rw[List.getElem?_map] at hx;cases hy:L[k-1]? with
  |none=>rw[hy] at hx;cases hx
  |some y=>
   rw[hy] at hx;cases hx;exact⟨true,cM.g_ _ (h.low hL (List.mem_of_getElem? hy)),h.bad cM hL h1 hy⟩,λh=>absurd I h⟩
 have hd:∀x∈L.map a1.br,x.f.dep<=200:=λx hx=>by have:=Rd.XF G h hL x hx;omega
 have XG:sS P b l cE mm [l.A true] (.b true):=cK.hX fx.b7x (rB (by decide)) λr h=>h.rA (by decide);have rl:=Rd.DZ G hb h hL a5;unfold B9;by_cases h0:iL (L.map a1.br) (L.map a1.br).length=0
 ·rw[if_pos h0];have hw:=Vy (K:=sS P b l cE) cK.fn G.fb.hf G.fb.ho G.fb.ar G.fb.hF rl hd hl.rs hl.len hl.aC hl.jO (G.fb.rC I) XG p5 (br:=0) (e:=0) (yt:=0) (yu:=0) (yv:=0) (fC:=0) (by rw[if_pos I,if_pos h0];exact⟨rfl,rfl,rfl,rfl,rfl,rfl⟩) _ I;exact FC hb cK.ok (ab:=1000) _ G.fb.Nn.1 I I I I I hw b6
 ·rw[if_neg h0];have hw:=Vy (K:=sS P b l cE) cK.fn G.fb.hf G.fb.ho G.fb.ar G.fb.hF rl hd hl.rs hl.len hl.aC hl.jO (G.fb.rC I) XG p5 (br:=(L.map a1.br).length) (e:=180) (yt:=7) (yu:=0) (yv:=0) (fC:=0) (by rw[if_pos I,if_neg h0];exact⟨rfl,rfl,rfl,rfl,rfl,rfl⟩) _ I;refine FC hb cK.ok (ab:=1000) _ G.fb.Nn.1 I I I I ?_ hw b6;refine(oD λy hy=>?_:ft (AV.eqb 999) [.ag [ah (L.map a1.br).length,.i .u8 (Int.ofNat 7),.i .u8 (Int.ofNat 0),ah 0,ah 0],ah 180] [.ag [ah (L.map a1.br).length,.i .u8 (Int.ofNat 7),.i .u8 (Int.ofNat 0),ah 0,ah 0],ah 180]=true);have hy:y= .ag [ah (L.map a1.br).length,.i .u8 (Int.ofNat 7),.i .u8 (Int.ofNat 0),ah 0,ah 0]\/y=ah 180:=by simpa using hy
  rcases hy with rfl|rfl
  ·refine wi (n:=998) λz bg=>?_;simp only[List.mem_cons,List.not_mem_nil,or_false] at bg;rcases bg with rfl|rfl|rfl|rfl|rfl<;>exact cX I
  ·exact cX I
end
section
variable {P:Program}{b:b8}{l:lN}{R:List dn}{lc jx:List AV}(G:GivM P b (l.A true) (.a6 [.ag lc,.ag jx]))(hl:NA b l R)
theorem jU.cg(fb:jU b)(hb:kH P b)(fx:wB P b (l.A true) (.a6 [.ag lc,.ag jx])):jT b (sS P b l (.a6 [.ag lc,.ag jx])) where
 qG:=fb.b7p.h
 ci:=fb.b7q.h
 li:=fb.line.h
 uv:=fb.b7r.h
 U:=fb.b7s.h
 uw:=fb.b7t.h
 o8:=fb.join.h
 at_:=fb.atom.h
 fn:=cK.fn
 es:=fb.Nk.2
 Mv:=fb.Nl.2
 size a h1 h2:=cK.hX (Xl hb fb _ a (Nat.le_refl _) (by omega) (by omega)) (W8 a) λr h=>h.size I a I
 same a c h1 h2:=cK.hX (Xm hb fb fx.st _ a c (Nat.le_refl _) (by omega) (by omega)) (W9 a c) λr h=>h.W6 I a c I
structure NB(b:b8)(l:lN)(lc jx:List AV):Prop where
 rm:lc.length=5/\jx.length=5
 jO:∀J,bG J (b.bn+1000) (.ag lc)=some (l.A true)
 eq:AV.eqb (b.bn+1000) (.ag lc) (.ag lc)=true
theorem jU.lw(fb:jU b)(hb:kH P b)(fx:wB P b (l.A true) (.a6 [.ag lc,.ag jx]))(aa:NB b l lc jx):WD b (sS P b l (.a6 [.ag lc,.ag jx])) lc jx (l.A true) where
 cg:=fb.cg hb fx
 made:=fb.Made.h
 BY:=fb.b7u.h
 WE:=fb.rC I
 log:=cK.hX fx.log b6J λr h=>h.log I
 rm:=aa.rm
 jO:=aa.jO
 eq:=aa.eq
 MT:=fb.rC I
 BZ:=cK.hX fx.BZ (rB (by decide)) λr h=>h.rA (by decide)
 s7:=fb.Xi.2
 Gp:=fb.Nn.2
include G hl in
theorem fitchFirst_E(hb:kH P b)(fx:wB P b (l.A true) (.a6 [.ag lc,.ag jx]))(aa:NB b l lc jx)(hf:b.funcs.get Ui=some J_){cm:AV}{code:List Nat}(au:∀τ,g8 τ none cm (code.map uB))(j1:cm.cells=[cm]/\cm.val=true)(hlen:code.length<2^62)(Bk:∀x∈code,x<256){n:Nat}(hn:n<256):ev P b Ui [cm,uB n] (.b true):=λb6=>
 mW hb cK.ok _ hf I I I I (jy _).1 (jy _).2 (b5B (G.fb.lw hb fx aa) au j1 hlen Bk hn (λL ab ax h hL m h1 h2=>by
  obtain⟨dw,lS,h3⟩:=h.pre h2;have wD:(L.take m).length=m:=by rw[List.length_take];omega
  have jn:=b7M (cE:=.a6 [.ag lc,.ag jx]) G hb h3 (by omega) (λe=>by rw[e] at wD;simp at wD;omega);have hH:((L.take m).map a1.br).length=m:=by rw[List.length_map,wD]
  have cM:=cK.hX (cG:=l.A true) (cE:=.a6 [.ag lc,.ag jx]) jn (b6H _) λr ak=>ak.yN I _ I;rw[hH] at cM;exact⟨cM,λi hi=>b5M h h2 hi⟩) (λL ab ax h hL m hm h1=>by
  obtain⟨dw,lS,h3⟩:=h.pre (show m<=L.length by omega);have wD:(L.take m).length=m:=by rw[List.length_take];omega
  have jn:=b7O G hl hb fx h3 (by omega) (λe=>by rw[e] at wD;simp at wD;omega);have hH:((L.take m).map a1.br).length=m:=by rw[List.length_map,wD]
  have cM:=cK.hX (cG:=l.A true) (cE:=.a6 [.ag lc,.ag jx]) jn (b6I _) λr ak=>ak.b6y I _ I;have aN:iL ((L.take m).map a1.br) m=(L[m-1]).bY:=M5 (by rw[List.getElem?_take_of_lt (by omega)];exact List.getElem?_eq_getElem hm);unfold B9 at cM;rw[hH,aN] at cM;exact cM) _ I) b6
end
theorem bu.ext{env:Env}{floor k g:Nat}{args:List AV}{v:AV}{J:ad}{Q:dR->ad->Prop}(he:env.ext g=k+1)(hx:extRow (k+1) args=some v)(h:Q (.ok v) J):bu env floor (.f (.func g) [] []) args J Q:=by
 refine c4.one (x:=(.ok v,J)) (λF=>?_) h;show callF env (exec env F) floor g ([]++args++[]) J=_;unfold callF;rw[he,List.nil_append,List.append_nil];show(match extRow (k+1) args with|some v=>some [(dR.ok v,J)]|none=>none)=_;rw[hx]
section
variable {b:b8}{K:Nat->List AV->AV->Prop}
theorem b7P(hh:bk (b.aM K) AG EB)(ex:b.ext EC=2)(x y:List Nat)(J:ad):bu (b.aM K) 0 (.f (.func AG) [] []) [.s x,.s y] J (λr af=>r= .ok (.i .i64 (sE x y))/\af=J):=by
 refine bu.code hh.e hh.p hh.f I I I I ?_;refine aj.seq (aj.region ?_);refine aE.go I I I I ?_;refine aE.nil (aj.seq (aj.region ?_));refine aE.go I I I I ?_;refine aE.go I I I I ?_;refine aE.hK (R:=λr af=>r= .ok (.i .i64 (sE x y))/\af=J) I I I (bu.ext (k:=1) ex I ⟨rfl,rfl⟩) λr cx ⟨aN,a4⟩=>⟨_,aN,?_⟩
 refine aE.go I I I I ?_;exact aE.nil (aj.ret ⟨rfl,rfl,a4⟩)
theorem b7Q(hh:bk (b.aM K) Ey JZ)(h2:bk (b.aM K) AG EB)(ex:b.ext EC=2)(x y:List Nat)(J:ad):bu (b.aM K) 0 (.f (.func Ey) [] []) [.s x,.s y] J (λr af=>r= .ok (.i .i64 (sE x y))/\af=J):=by
 refine bu.code hh.e hh.p hh.f I I I I ?_;refine aj.seq (aj.region ?_);refine aE.go I I I I ?_;refine aE.nil (aj.seq (aj.region ?_));refine aE.go I I I I ?_;refine aE.go I I I I ?_;refine aE.hK I I I (b7P h2 ex x y J) λr cx ⟨aN,a4⟩=>⟨_,aN,?_⟩
 refine aE.go I I I I ?_;exact aE.nil (aj.ret ⟨rfl,rfl,a4⟩)
theorem XH(hh:bk (b.aM K) AF EA)(x:Nat)(J:ad):bu (b.aM K) 0 (.f (.func AF) [] []) [ah x] J (λr af=>r= .ok (.b false)/\af=J):=by
 refine bu.code hh.e hh.p hh.f I I I I ?_;refine aj.seq (aj.region ?_);refine aE.go I I I I ?_;refine aE.nil (aj.seq (aj.region ?_));refine aE.go I I I I ?_;refine aE.go I I I I ?_;refine aE.bin (a:=ah x) (b:=ah x) (v:=.b false) I I I I (mX (by show some (AV.b (!decide (x=x)))=_;rw[decide_eq_true I];rfl)) ?_;refine aE.go I I I I ?_;exact aE.nil (aj.ret ⟨rfl,rfl,rfl⟩)
theorem b7R(hh:bk (b.aM K) Ez J0)(h2:bk (b.aM K) AF EA)(x y:Nat)(J:ad):bu (b.aM K) 0 (.f (.func Ez) [] []) [ah x,ah y] J (λr af=>r= .ok (.i .i64 (Bn x y))/\af=J):=by
 refine bu.code hh.e hh.p hh.f I I I I ?_;refine aj.seq (aj.region ?_);refine aE.go I I I I ?_;refine aE.nil (aj.seq (aj.region ?_));refine aE.go I I I I ?_;refine aE.hK I I I (XH h2 x J) λr cx ⟨aN,a4⟩=>⟨_,aN,?_⟩
 subst a4;refine aE.go I I I I ?_;refine aE.nil (aj.seq (aj.region ?_));refine aE.go I I I I ?_;refine aE.hK I I I (XH h2 y cx) λr gy ⟨aN,a4⟩=>⟨_,aN,?_⟩
 subst a4;refine aE.go I I I I ?_;refine aE.nil (aj.seq (aj.seq (aj.region ?_)));refine aE.go I I I I ?_;refine aE.nil (aj.hJ I (λh=>by cases h) λ_=>aj.skip ?_);refine aj.seq (aj.seq (aj.region ?_));refine aE.go I I I I ?_;refine aE.nil (aj.hJ I (λh=>by cases h) λ_=>aj.skip ?_);refine aj.seq (aj.seq (aj.region ?_));refine aE.go I I I I ?_;refine aE.go I I I I ?_;refine aE.bin (a:=ah x) (b:=ah y) (v:=.b (decide (x<y))) I I I I (mX I) ?_;refine aE.nil (aj.hJ I (λh=>?_) λh=>aj.skip ?_)
 ·refine aj.seq (aj.region ?_);refine aE.go I I I I ?_;refine aE.nil (aj.ret ⟨rfl,?_,rfl⟩);unfold Bn;rw[if_pos (of_decide_eq_true h)];rfl
 have h1:=of_decide_eq_false h;refine aj.seq (aj.seq (aj.region ?_));refine aE.go I I I I ?_;refine aE.go I I I I ?_;refine aE.bin (a:=ah x) (b:=ah y) (v:=.b (decide (y<x))) I I I I (mX I) ?_;refine aE.nil (aj.hJ I (λh=>?_) λh=>aj.skip ?_)
 ·refine aj.seq (aj.region ?_);refine aE.go I I I I ?_;refine aE.nil (aj.ret ⟨rfl,?_,rfl⟩);unfold Bn;rw[if_neg h1,if_pos (of_decide_eq_true h)];rfl
 have h2:=of_decide_eq_false h;refine aj.seq (aj.region ?_);refine aE.go I I I I ?_;refine aE.nil (aj.ret ⟨rfl,?_,rfl⟩);unfold Bn;rw[if_neg h1,if_neg h2];rfl
theorem b7S(h1:bk (b.aM K) Ey JZ)(h2:bk (b.aM K) AG EB)(ex:b.ext EC=2)(h3:bk (b.aM K) Ez J0)(aQ:bk (b.aM K) AF EA)(x y:eW)(body:bF)(hb:Uf.body=some body):
  aj (b.aM K) 19 body (fR [c5 x,c5 y]) ⟨.nil,0⟩ (m4 4 (.i .i64 (nR x y))):=by
 cases hb;refine aj.seq (aj.region (aE.box (v:=c5 x) (c:=[.s x.1,ah x.2]) 0 I I I I I I λbP c1 bN Lx=>?_));refine aE.box (v:=c5 y) (c:=[.s y.1,ah y.2]) 1 c1 I I I I I λJ ea bQ sD=>?_;replace bN:=sD _ _ bN;refine aE.go I I I I ?_;refine aE.nil (aj.seq (aj.seq (aj.region ?_)));refine aE.go I I I I ?_;refine aE.aw (v:=.s x.1) bN I I I I ?_;refine aE.go I I I I ?_;refine aE.aw (v:=.s y.1) bQ I I I I ?_;refine aE.hK I I I (b7Q h1 h2 ex x.1 y.1 J) λr cx ⟨aN,a4⟩=>⟨_,aN,?_⟩
 subst a4;refine aE.go I I I I ?_;refine aE.nil (aj.seq (aj.region ?_));refine aE.go I I I I ?_;refine aE.bin (a:=.i .i64 (sE x.1 y.1)) (b:=.i .i64 0) (v:=.b (!decide (sE x.1 y.1=0))) I I I I I ?_;refine aE.nil (aj.hJ I (λh=>?_) λh=>aj.skip ?_)
 ·have a5:¬sE x.1 y.1=0:=λe=>by rw[decide_eq_true e] at h;cases h
  refine aj.seq (aj.region ?_);refine aE.go I I I I ?_;refine aE.go I I I I ?_;refine aE.nil (aj.ret ⟨rfl,?_⟩);unfold nR;rw[if_neg a5];rfl
 ·have he:sE x.1 y.1=0:=Classical.byContradiction λe=>by rw[decide_eq_false e] at h;cases h
  refine aj.seq (aj.region ?_);refine aE.go I I I I ?_;refine aE.aw (v:=ah x.2) bN I I I I ?_;refine aE.go I I I I ?_;refine aE.aw (v:=ah y.2) bQ I I I I ?_;refine aE.hK I I I (b7R h3 aQ x.2 y.2 cx) λr gy ⟨aN,a4⟩=>⟨_,aN,?_⟩
  refine aE.go I I I I ?_;refine aE.nil (aj.ret ⟨rfl,?_⟩);unfold nR;rw[if_pos he];rfl
end
structure XI(b:b8):Prop where
 visit:HB b tD vI
 walk:HB b xV Ay
 XJ:HB b sl xW
 b7T:HB b ED J3
 b7U:HB b EE J4
 b7V:HB b J2 Ug
 sorted:HB b Az JY
 b7W:HB b AB Ex
 b7X:HB b m2 tE
 b7Y:HB b AA Ew
 Collect:HB b xX AD
 b7Z:HB b vK xY
 b8a:HB b xZ AE
 b8b:HB b vN x1
 b8c:HB b tG vO
 Nc:HB b vL x0
 b8d:HB b tF vM
 b8e:HB b Eu JV
 Functions:HB b JW Ue
 b8f:HB b Ev JX
 b8g:HB b Ey JZ
 b8h:HB b AG EB
 b8i:HB b Ez J0
 b8j:HB b AF EA
 XK:kQ b kp J1
 XL:kQ b vJ Ud
 XM:kQ b gP Uf
 XN:kQ b x3 J6
 XO:kQ b x2 J5
 b8k:kQ b oO J7
 named:b.ext lH=0/\b.pure lH=true
 b8l:b.ext mm=0/\b.pure mm=true
 b8m:b.ext EC=2
 rows:b.kS KJ=some (.ag E8)
section
variable {P:Program}{b:b8}(hb:kH P b)(ay:XI b)(hn:∀a:PF,ev P b lH [uB (q9 a.op),.s a.bZ] (.b true))
include hb ay
theorem b8n(x y:eW):ev P b gP [c5 x,c5 y] (.i .i64 (nR x y)):=λb6=>
 mW hb (cK.ok (cG:=.ae) (cE:=.ae)) _ ay.XM.1 I I I I (oI _ _).1 (oI _ _).2 (b7S ay.b8g.h ay.b8h.h ay.b8m ay.b8i.h ay.b8j.h x y _ I) b6
theorem b8o(a:PF):ev P b vJ [a.aT.A true] (.i .u32 (Int.ofNat (tT a.aT))):=λb6=>
 a7C hb (cK.ok (cG:=.ae) (cE:=.ae)) _ ay.XL.1 I I I I (oI _ _).1 (oI _ _).2 (b0S ay.visit.h ay.XJ.h ay.walk.h _ a.iJ _ I) b6
theorem M6:Nd b (cK P b .ae .ae):=⟨Nb.go cK.fn ⟨ay.sorted.h,ay.b7W.h,ay.b7Y.h,ay.Collect.h,ay.b7Z.h,ay.b7X.h,ay.b8a.h,ay.b8b.h,ay.b8c.h,ay.Nc.h,ay.b8d.h,λx y=>cK.hX (b8n hb ay x y) (b6E x y) λr h=>h.yQ I x y I,ay.XM.2⟩,ay.b8f.h,ay.visit.h,ay.XJ.h,ay.walk.h,ay.b8e.h,ay.Functions.h⟩
theorem b8p(a:PF){k:Nat}(az:¬k=2):ev P b x3 [uB k,a.aT.A true] (.b true):=λb6=>by
 rw[ll];exact mW hb (cK.ok (cG:=.ae) (cE:=.ae)) _ ay.XN.1 I I I I (jy _).1 (jy _).2 (b6n cK.fn (M6 hb ay) a k az _ I) b6
include hn
theorem XP(a:PF)(ha:a.low):ev P b kp [a.aT.A true] (.b true):=λb6=>by
 rw[ll];exact mW hb (cK.ok (cG:=.ae) (cE:=.ae)) _ ay.XK.1 I I I I (jy _).1 (jy _).2 (b5U ⟨cK.fn,ay.b7T.h,ay.b7U.h,ay.b7V.h,ay.named,λa=>cK.hX (hn a) (rB (by decide)) λr h=>h.rA (by decide),ay.rows⟩ a ha _ I) b6
theorem b8q(l:lN)(ho:l.ops=254)(az:¬l.kind=2)(ri:∀J,bG J (b.bn+1000) (l.A true)=some (l.A true))(b8r:ev P b mm [l.A true] (.b true))(a:PF)(ha:a.low):ev P b oO [l.A true,a.aT.A true] (.b true):=by
 have hd:a.aT.dep<=200:=by rw[PF.je];have:=ha.1;omega
 have ht:∀ {g:Nat} {aW:List AV},g∈Gz->ev P b g aW (.b true)->cK P b .ae .ae g aW (.b true):=λ{g aW} hg h=>cK.hX h (rB hg) λr h=>h.rA hg;have h1:ev P b x2 [l.A true,a.aT.A true] (.b true):=λb6=>by
  have hR:=ht (by decide) (XP hb ay hn a ha);have hA:=ht (by decide) (b8p hb ay a az);have cb:cK P b .ae .ae _ _ _:=cK.hX (b8o hb ay a) (b6D a) λr h=>h.ops I a I;rw[ll] at hR hA cb ⊢;exact mW hb (cK.ok (cG:=.ae) (cE:=.ae)) _ ay.XO.1 I I I I (jy _).1 (jy _).2 (b6o cK.fn a hd l ho hR ay.XK.2 cb ay.XL.2 hA ay.XN.2 _ I) b6
 intro b6;have h1:=ht (by decide) h1;rw[ll] at h1 ⊢;exact mW hb (cK.ok (cG:=.ae) (cE:=.ae)) _ ay.b8k.1 I I I I (jy _).1 (jy _).2 (b6r cK.fn a hd l ri (ht (by decide) b8r) ay.b8l h1 ay.XO.2 _ I) b6
end
theorem b8s{P:Program}{b:b8}(h1:ev P b lH [uB 1,.s [80]] (.b true))(h2:ev P b lH [uB 1,.s [81]] (.b true))(h3:ev P b lH [uB 0,.s []] (.b true))(a:PF):ev P b lH [uB (q9 a.op),.s a.bZ] (.b true):=by
 cases a with
 | ff q=>cases q;exact h1;exact h2
 |ct=>exact h3
 |neg a=>exact h3
 |bin k a c=>
  have:q9 (4+k.val)=0:=by
   obtain⟨k,az⟩:=k;have:k=0\/k=1\/k=2:=by omega
   rcases this with rfl|rfl|rfl<;>rfl
  show ev P b lH [uB (q9 (4+k.val)),.s []] (.b true);rw[this];exact h3
end Go.Lyc
end
