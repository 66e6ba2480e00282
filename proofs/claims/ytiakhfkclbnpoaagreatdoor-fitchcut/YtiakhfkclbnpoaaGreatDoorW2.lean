/-
  What functions of the program compute: walks, part 2. No conditions: definitions and laws.
-/
import Derived.Test.YtiakhfkclbnpoaaGreatDoorW1
import Derived.SizedLaws
set_option linter.all false
noncomputable section
namespace Go.Lyc
def Kb:=@List.sum_append
def rn:=@List.take_append_of_le_length
def FL:=@Nat.mod_lt
def z4:=@Nat.eq_zero_or_pos
def uE:=@List.eq_nil_or_concat
def a1N:=@List.concat_eq_append
def Rv:=@List.length_eq_zero_iff
def Rw:=@List.tail_append_of_ne_nil
def Rx:=@List.take_of_length_le
def qv:=@List.length_tail
def Cr:=@Nat.add_sub_cancel
def FM:=@List.map_eq_nil_iff
set_option maxHeartbeats 0
section
variable [Tok][TokOk]
open Go.RowKit Go.Lyc.T
inductive PF where
 |fU (q:Bool)
 |cO
 |neg (a:PF)
 |bin (k:Fin 3) (a b:PF)
 deriving DecidableEq
namespace PF
def op:PF->Nat
 | .fU _=>1
 | .cO=>2
 | .neg _=>3
 | .bin k _ _=>4+k.val
def bO:PF->List Nat
 | .fU q=>[cond q 81 80]
 |_=>[]
def subs:PF->List PF
 | .neg a=>[a]
 | .bin _ a b=>[a,b]
 |_=>[]
def aG:PF->Fm
 | .fU q=>.mk 1 [cond q 81 80] none none
 | .cO=>.mk 2 [] none none
 | .neg a=>.mk 3 [] none (some [a.aG])
 | .bin k a b=>.mk (4+k.val) [] none (some [a.aG,b.aG])
def dep:PF->Nat
 | .fU _=>1
 | .cO=>1
 | .neg a=>a.dep+1
 | .bin _ a b=>max a.dep b.dep+1
def ext{a b:PF}:a=b↔a.op=b.op/\a.bO=b.bO/\a.subs=b.subs:=by
 constructor
 ·rintro rfl;exact⟨rfl,rfl,rfl⟩
 ·intro⟨h1,h2,h3⟩;cases a with
  | fU q=>cases b with
   | fU nD=>cases q<;>cases nD<;>first|rfl|cases h2
   |bin k _ _=>exact absurd h1 (by show ¬ 1=4+k.val;omega)
   |_=>cases h1
  |cO=>cases b with
   |cO=>rfl
   |bin k _ _=>exact absurd h1 (by show ¬ 2=4+k.val;omega)
   |_=>cases h1
  |neg a=>cases b with
   |neg b=>cases h3;rfl
   |bin k _ _=>exact absurd h1 (by show ¬ 3=4+k.val;omega)
   |_=>cases h1
  |bin k a cH=>cases b with
   |bin dF b fR=>
    cases h3;have:k=dF:=Fin.ext (by have h1:4+k.val=4+dF.val:=h1;omega);rw[this]
   | fU _=>exact absurd h1 (by show ¬ 4+k.val=1;omega)
   |cO=>exact absurd h1 (by show ¬ 4+k.val=2;omega)
   |neg _=>exact absurd h1 (by show ¬ 4+k.val=3;omega)
def pw(a:PF):1<=a.op/\a.op<=6:=by
 cases a with
 |bin k _ _=>exact⟨by show 1<=4+k.val;omega,by show 4+k.val<=6;omega⟩
 |_=>exact⟨by simp[op],by simp[op]⟩
def KP(a:PF):a.aG.op=a.op:=by cases a<;>rfl
def c1C(a:PF):a.aG.name=a.bO:=by cases a<;>rfl
def c1D(a:PF):a.aG.fl=none:=by cases a<;>rfl
theorem uF(a:PF):a.subs.length<=2:=by cases a<;>simp[subs]
theorem lk{a x:PF}(h:x∈a.subs):x.dep<a.dep:=by
 cases a with
 | fU _=>simp[subs] at h
 |cO=>simp[subs] at h
 |neg a=>rw[uT.1 h];exact lV _
 |bin k a b=>
  show x.dep<max a.dep b.dep+1;rcases dB.1 h with rfl|h
  ·omega
  ·rw[uT.1 h];omega
def ES(a:PF):bN a.aG=[fa a.op,.s a.bO,.af,slA true (some 4) (a.subs.map λx=>.R (bN x.aG))]:=by
 cases a with
 | fU q=>rfl
 |cO=>rfl
 |neg a=>show[_,_,_,gp true (some [a.aG])]=_;show[_,_,_,AV.a_ true (some 4) [a.aG.A true]]=_;rw[jk];rfl
 |bin k a b=>show[_,_,_,AV.a_ true (some 4) [a.aG.A true,b.aG.A true]]=_;rw[jk,jk];rfl
end PF
abbrev fc(a:PF):List AV:=[fa a.op,.s a.bO,.af,slA true (some 4) (a.subs.map λx=>.R (bN x.aG))]
def nk(a:PF):a.aG.A true= .R (fc a):=by rw[jk,PF.ES]
end
section
variable [Tok][TokOk]
open Go.RowKit Go.Lyc.T
attribute [local irreducible] cg bL dC eu bE
def KQ(l m:List Nat):binop .neq (.s l) (.s m)=some (.b (!decide (l=m))):=by
 show some (AV.b (!eqL l m))=_;cases he:eqL l m with
 |true=>rw[decide_eq_true ((o2 l m).1 he)]
 |false=>rw[decide_eq_false λh=>by rw[(o2 l m).2 h] at he;cases he]
abbrev jo(a:PF):AV:=slA true (some 4) (a.subs.map λx=>.R (bN x.aG))
def uG(a:PF)(h:a.aG.dep<=200){b:bT}(τ:ae):bM τ (b.bp+1000) (.R (bN a.aG))=some (a.aG.A true):=by
 have:=Fm.snap τ true _ a.aG (b.bp+1000) (bs _) U;rw[jk] at this ⊢;exact this
section
variable {b:bT}{K:Nat->List AV->AV->Prop}(hfn:∀g aQ r b5,K g aQ r->K g aQ b5->r=b5)
def Cs{n:Nat}{c:aN}(hh:bk (b.aM K) n c)(ab:c=ZV\/c=CP)(a:PF){J:ae}:
  bE (b.aM K) 0 (.f (.func n) [] []) [.R (fc a)] J (λr τ=>r= .ok (.b false)/\dN J τ):=by
 have ho:=a.pw;have H:Has J []:=Has.nil;rcases ab with rfl|rfl
 ·refine W.code hh.e hh.p hh.f I I I I λz=>?_;refine aj ?_;refine W.cA (c:=fc a) H I I I I I I λτ hn H bx=>?_;refine aj ?_;exact ak.ret ⟨rfl,rfl,U,bx⟩
 ·refine W.code hh.e hh.p hh.f I I I I λz=>?_;refine aj ?_;refine W.cA (c:=fc a) H I I I I I I λτ hn H bx=>?_;refine aj ?_;exact ak.ret ⟨rfl,rfl,U,bx⟩
include hfn
theorem c1E(a c:PF)(ha:a.aG.dep<=200/\c.aG.dep<=200)(aV:bk (b.aM K) Pv ZV)(e:b.ext xC=0/\b.pure xC=true)(c0:∀x∈a.subs,∀y∈c.subs,K xC [x.aG.A true,y.aG.A true,.af] (.b (decide (x=y))))(hd:∀x∈a.subs,x.aG.dep<=200)(xV:∀x∈c.subs,x.aG.dep<=200)(body:bF)(hb:b8a.body=some body):
  ak (b.aM K) b8a.ntmps body (fv [.R (fc a),.R (fc c),.af]) ⟨.nil,0⟩ (jU 6 (.b (decide (a=c)))):=by
 cases hb;refine W.jD λz H=>?_;have a1V:=a.pw;have KR:=c.pw;have RA:=a.uF;have mq:=c.uF;refine aj ?_;refine W.cA (c:=fc a) H I I I I I I λτ cP H bx=>?_;refine aj ?_;refine W.cA (c:=fc c) H cP I I I I I λa9 c8 H bb=>?_;by_cases h1:a.op=c.op
 ·by_cases h2:a.subs.length=c.subs.length
  ·by_cases h3:a.bO=c.bO
   ·have eH:(a=c)↔a.subs=c.subs:=by rw[PF.ext];simp[h1,h3]
    refine aj ?_;refine W.bin (v:=.b false) I I I I ((KQ _ _).trans (by rw[decide_eq_true h3];rfl)) ?_;refine aj ?_;show bL _ _ _ _ _ _ _ _;refine ak.each 0 (λj f aB=>dN a9 aB/\sat [(2,.af),(3,aE 0),(4,aE 1)] f) U ⟨⟨bs _,λ_ _ h=>h⟩,rfl,rfl,(by show aE _=aE _;rfl),trivial⟩ I I (λj g aB ax aW hi hm=>by omega) (λg aB aW hi=>?_);obtain⟨M,bV,cp,cX,_⟩:=aW;refine ak.norm [(2,.af),(3,aE 0),(4,aE 1)] ⟨bV,cp,cX,trivial⟩ λg=>?_;have H:Has aB [(1,fc c),(0,fc a)]:=H.aP M.2;refine aj ?_;refine W.an trivial I I I (Cs aV (.inl I) a) λr bu ⟨ar,ee⟩=>⟨_,ar,?_⟩
    have H:=H.aP ee.2;refine aj ?_;show bL _ _ _ _ _ _ _ _;refine ak.each a.subs.length (λj f aB=>(∀i (h:i<a.subs.length) (h':i<c.subs.length),i<j->a.subs[i]=c.subs[i])/\dN bu aB/\sat [(2,.af),(4,aE 1),(78,jo a)] f) U ⟨λi _ _ h=>by omega,⟨bs _,λ_ _ h=>h⟩,rfl,rfl,rfl,trivial⟩ I I (λj g aB ax aW hi hm=>?_) (λg aB aW hi=>?_)
    ·obtain⟨hall,M,bV,cX,RC,_⟩:=aW;refine ak.norm [(2,.af),(4,aE 1),(78,jo a),(80,ah j),(79,ah a.subs.length)] ⟨bV,cX,RC,hi,hm,trivial⟩ λg=>?_;have H:=H.aP M.2;refine aj ?_;refine W.cC H I I I I λcm e_ H b1=>?_;refine aj ?_;refine W.st (bD:=bN (a.subs[j]).aG) H 0 I I I I I I λdg iW H c9=>?_;refine aj ?_;refine W.e3 hfn e (c0 _ (gC ax) _ (gC (show j<c.subs.length by omega))) I I I (Ev (uG _ (hd _ (gC ax)) _) (uG _ (xV _ (gC _)) _) I) ?_;by_cases gK:a.subs[j]=c.subs[j]'U
     ·rw[decide_eq_true gK];refine aj ?_;refine⟨rfl,rfl,λi h h' hlt=>?_,⟨by have:=M.1;omega,λi o h=>c9 _ _ (by have:=ae.bt (M.2 _ _ h);omega) (b1 _ _ (M.2 _ _ h))⟩,rfl,rfl,rfl,trivial⟩;by_cases hG:i<j
      ·exact hall i h h' hG
      ·obtain rfl:i=j:=by omega
       exact gK
     ·rw[decide_eq_false gK,decide_eq_false (show ¬a=c from λh=>gK (by subst h;rfl))];refine aj ?_;refine ak.ret ?_;exact⟨rfl,rfl⟩
    ·obtain⟨hall,_⟩:=aW;refine ak.norm [] trivial λg=>?_;rw[decide_eq_true (eH.2 (ym h2 λi h h'=>hall i h h' h))];refine aj ?_;refine ak.ret ?_;exact⟨rfl,rfl⟩
   ·rw[decide_eq_false (show ¬a=c from λh=>h3 (PF.ext.1 h).2.1)];refine aj ?_;refine W.bin (v:=.b true) I I I I ((KQ _ _).trans (by rw[decide_eq_false h3];rfl)) ?_;refine aj ?_;refine W.an trivial I I I (Cs aV (.inl I) a) λr bu ⟨ar,ee⟩=>⟨_,ar,?_⟩
    refine aj ?_;refine ak.ret ?_;exact⟨rfl,rfl⟩
  ·rw[decide_eq_false (show ¬a=c from λh=>h2 (by rw[h]))];refine aj ?_;refine ak.ret ?_;exact⟨rfl,rfl⟩
 ·rw[decide_eq_false (show ¬a=c from λh=>h1 (by rw[h]))];refine aj ?_;refine ak.ret ?_;exact⟨rfl,rfl⟩
theorem c1F(a c:PF)(ha:a.aG.dep<=200/\c.aG.dep<=200)(aV:bk (b.aM K) a0q CP)(e:b.ext ui=0/\b.pure ui=true)(c0:∀x∈a.subs,∀y∈c.subs,K ui [x.aG.A true,y.aG.A true,.af] (.b (decide (x=y))))(hd:∀x∈a.subs,x.aG.dep<=200)(xV:∀x∈c.subs,x.aG.dep<=200)(body:bF)(hb:b7q.body=some body):
  ak (b.aM K) b7q.ntmps body (fv [.R (fc a),.R (fc c),.af]) ⟨.nil,0⟩ (jU 6 (.b (decide (a=c)))):=by
 cases hb;refine W.jD λz H=>?_;have a1V:=a.pw;have KR:=c.pw;have RA:=a.uF;have mq:=c.uF;refine aj ?_;refine W.cA (c:=fc a) H I I I I I I λτ cP H bx=>?_;refine aj ?_;refine W.cA (c:=fc c) H cP I I I I I λa9 c8 H bb=>?_;by_cases h1:a.op=c.op
 ·by_cases h2:a.subs.length=c.subs.length
  ·by_cases h3:a.bO=c.bO
   ·have eH:(a=c)↔a.subs=c.subs:=by rw[PF.ext];simp[h1,h3]
    refine aj ?_;refine W.an trivial I I I (Cs aV (.inr I) a) λr a9 ⟨ar,M2⟩=>⟨_,ar,?_⟩
    have H:Has a9 [(1,fc c),(0,fc a)]:=H.aP M2.2;refine aj ?_;refine W.bin (v:=.b false) I I I I ((KQ _ _).trans (by rw[decide_eq_true h3];rfl)) ?_;refine aj ?_;show bL _ _ _ _ _ _ _ _;refine ak.each 0 (λj f aB=>dN a9 aB/\sat [(2,.af),(3,aE 0),(4,aE 1)] f) U ⟨⟨bs _,λ_ _ h=>h⟩,rfl,rfl,(by show aE _=aE _;rfl),trivial⟩ I I (λj g aB ax aW hi hm=>by omega) (λg aB aW hi=>?_);obtain⟨M,bV,cp,cX,_⟩:=aW;refine ak.norm [(2,.af),(3,aE 0),(4,aE 1)] ⟨bV,cp,cX,trivial⟩ λg=>?_;have H:Has aB [(1,fc c),(0,fc a)]:=H.aP M.2;refine aj ?_;refine W.an trivial I I I (Cs aV (.inr I) a) λr bu ⟨ar,ee⟩=>⟨_,ar,?_⟩
    have H:=H.aP ee.2;refine aj ?_;show bL _ _ _ _ _ _ _ _;refine ak.each a.subs.length (λj f aB=>(∀i (h:i<a.subs.length) (h':i<c.subs.length),i<j->a.subs[i]=c.subs[i])/\dN bu aB/\sat [(2,.af),(4,aE 1),(78,jo a)] f) U ⟨λi _ _ h=>by omega,⟨bs _,λ_ _ h=>h⟩,rfl,rfl,rfl,trivial⟩ I I (λj g aB ax aW hi hm=>?_) (λg aB aW hi=>?_)
    ·obtain⟨hall,M,bV,cX,RC,_⟩:=aW;refine ak.norm [(2,.af),(4,aE 1),(78,jo a),(80,ah j),(79,ah a.subs.length)] ⟨bV,cX,RC,hi,hm,trivial⟩ λg=>?_;have H:=H.aP M.2;refine aj ?_;refine W.cC H I I I I λcm e_ H b1=>?_;refine aj ?_;refine W.st (bD:=bN (a.subs[j]).aG) H 0 I I I I I I λdg iW H c9=>?_;refine aj ?_;refine W.e3 hfn e (c0 _ (gC ax) _ (gC (show j<c.subs.length by omega))) I I I (Ev (uG _ (hd _ (gC ax)) _) (uG _ (xV _ (gC _)) _) I) ?_;by_cases gK:a.subs[j]=c.subs[j]'U
     ·rw[decide_eq_true gK];refine aj ?_;refine⟨rfl,rfl,λi h h' hlt=>?_,⟨by have:=M.1;omega,λi o h=>c9 _ _ (by have:=ae.bt (M.2 _ _ h);omega) (b1 _ _ (M.2 _ _ h))⟩,rfl,rfl,rfl,trivial⟩;by_cases hG:i<j
      ·exact hall i h h' hG
      ·obtain rfl:i=j:=by omega
       exact gK
     ·rw[decide_eq_false gK,decide_eq_false (show ¬a=c from λh=>gK (by subst h;rfl))];refine aj ?_;refine ak.ret ?_;exact⟨rfl,rfl⟩
    ·obtain⟨hall,_⟩:=aW;refine ak.norm [] trivial λg=>?_;rw[decide_eq_true (eH.2 (ym h2 λi h h'=>hall i h h' h))];refine aj ?_;refine ak.ret ?_;exact⟨rfl,rfl⟩
   ·rw[decide_eq_false (show ¬a=c from λh=>h3 (PF.ext.1 h).2.1)];refine aj ?_;refine W.an trivial I I I (Cs aV (.inr I) a) λr a9 ⟨ar,M2⟩=>⟨_,ar,?_⟩
    have H:Has a9 [(1,fc c),(0,fc a)]:=H.aP M2.2;refine aj ?_;refine W.bin (v:=.b true) I I I I ((KQ _ _).trans (by rw[decide_eq_false h3];rfl)) ?_;refine aj ?_;refine ak.ret ?_;exact⟨rfl,rfl⟩
  ·rw[decide_eq_false (show ¬a=c from λh=>h2 (by rw[h]))];refine aj ?_;refine ak.ret ?_;exact⟨rfl,rfl⟩
 ·rw[decide_eq_false (show ¬a=c from λh=>h1 (by rw[h]))];refine aj ?_;refine ak.ret ?_;exact⟨rfl,rfl⟩
theorem c1G(a c:PF)(hd:a.aG.dep<=200)(xV:c.aG.dep<=200)(Ct:b.ext kb=0/\b.pure kb=true)(hR:K kb [a.aG.A true] (.b true))(DY:K kb [c.aG.A true] (.b true))(e:b.ext ui=0/\b.pure ui=true)(c0:K ui [a.aG.A true,c.aG.A true,.af] (.b (decide (a=c))))(body:bF)(hb:b7i.body=some body):
  ak (b.aM K) b7i.ntmps body (fv [.R (fc a),.R (fc c)]) ⟨.nil,0⟩ (jU 4 (.b (decide (a=c)))):=by
 cases hb;refine W.jD λz H=>?_;have ao:∀a:PF,a.aG.dep<=200->∀τ,bM τ (b.bp+1000) (.R (fc a))=some (a.aG.A true):=λa h τ=>by have:=uG a h (b:=b) τ;rwa[PF.ES] at this
 refine aj ?_;refine W.cA (c:=fc a) H I I I I I I λτ cP H bx=>?_;refine aj ?_;refine W.cA (c:=fc c) H cP I I I I I λa9 c8 H bb=>?_;refine aj ?_;refine W.e3 hfn Ct hR I I I (k_ (ao a hd _)) ?_;refine aj ?_;refine W.e3 hfn Ct DY I I I (k_ (ao c xV _)) ?_;refine aj ?_;refine W.e3 hfn e c0 I I I (Ev (ao a hd _) (ao c xV _) I) ?_;refine aj ?_;refine ak.ret ?_;exact⟨rfl,rfl⟩
theorem c1H(l m:List PF)(hl:l.length<=2/\m.length<=2)(hd:∀x∈l,x.aG.dep<=200)(xV:∀x∈m,x.aG.dep<=200)(e:b.ext ub=0/\b.pure ub=true)(c0:∀x∈l,∀y∈m,K ub [x.aG.A true,y.aG.A true] (.b (decide (x=y))))(body:bF)(hb:YN.body=some body):
  ak (b.aM K) YN.ntmps body (fv [slA true (some 4) (l.map λx=>.R (bN x.aG)),slA true (some 4) (m.map λx=>.R (bN x.aG))]) ⟨.nil,0⟩ (jU 4 (.b (decide (l=m)))):=by
 cases hb;refine W.jD λz H=>?_;by_cases KS:l.length=m.length
 ·refine aj ?_;refine ak.block ?_;refine ak.loop (λn f τ=>∃j,j+n=l.length/\(∀i (h:i<l.length) (h':i<m.length),i<j->l[i]=m[i])/\sat [(0,slA true (some 4) (l.map λx=>.R (bN x.aG))),(1,slA true (some 4) (m.map λx=>.R (bN x.aG))),(5,ah j)] f) ?_ l.length ⟨0,U,λ_ _ _ h=>by omega,rfl,rfl,rfl,trivial⟩;rintro n f τ ⟨j,wU,hall,ao⟩;refine ak.norm _ ao λz=>?_;clear ao;have H:Has τ []:=Has.nil;by_cases hn:j<l.length
  ·obtain⟨n,rfl⟩:∃k,n=k+1:=⟨n-1,U⟩
   refine aj ?_;refine W.e3 hfn e (c0 _ (gC hn) _ (gC (show j<m.length by omega))) I I I (nF (uG _ (hd _ (gC hn)) _) (uG _ (xV _ (gC _)) _)) ?_;by_cases gK:l[j]=m[j]'U
   ·rw[decide_eq_true gK];refine aj ?_;refine⟨n,U,j+1,U,λi h h' hlt=>?_,rfl,rfl,rfl,trivial⟩;by_cases hG:i<j
    ·exact hall i h h' hG
    ·obtain rfl:i=j:=by omega
     exact gK
   ·rw[decide_eq_false gK,decide_eq_false (show ¬l=m from λh=>gK (by subst h;rfl))];refine aj ?_;refine ak.ret ?_;exact⟨rfl,rfl⟩
  ·obtain rfl:n=0:=by omega
   refine aj ?_;refine ak.exit ?_;show bL _ _ _ _ _ _ _ _;refine ak.norm [] trivial λg=>?_;rw[decide_eq_true (ym KS λi h h'=>hall i h h' U)];refine aj ?_;refine ak.ret ?_;exact⟨rfl,rfl⟩
 ·rw[decide_eq_false (show ¬l=m from λh=>KS (by rw[h]))];refine aj ?_;refine ak.ret ?_;exact⟨rfl,rfl⟩
theorem c1I(a c:PF)(c1J:b.ext vN=0/\b.pure vN=true)(j8:K vN [.af,.af] (.b true))(e:b.ext zD=0/\b.pure zD=true)(c0:K zD [jo a,jo c] (.b (decide (a.subs=c.subs))))(lR:∀τ,bM τ (b.bp+1000) (jo a)=some (jo a))(c1K:∀τ,bM τ (b.bp+1000) (jo c)=some (jo c))(body:bF)(hb:Yz.body=some body):
  ak (b.aM K) Yz.ntmps body (fv [.R (fc a),.R (fc c)]) ⟨.nil,0⟩ (jU 4 (.b (decide (a=c)))):=by
 cases hb;refine W.jD λz H=>?_;have a1V:=a.pw;have KR:=c.pw;refine aj ?_;refine W.cA (c:=fc a) H I I I I I I λτ cP H bx=>?_;refine aj ?_;refine W.cA (c:=fc c) H cP I I I I I λa9 c8 H bb=>?_;by_cases h1:a.op=c.op
 ·by_cases h3:a.bO=c.bO
  ·have eH:(a=c)↔a.subs=c.subs:=by rw[PF.ext];simp[h1,h3]
   refine aj ?_;refine W.bin (v:=.b true) I I I I ((xP _ _).trans (by rw[decide_eq_true h3])) ?_;refine aj ?_;refine W.e3 hfn c1J j8 I I I (nF I I) ?_;refine aj ?_;refine W.e3 hfn e c0 I I I (nF (lR _) (c1K _)) ?_;rw[show decide (a=c)=decide (a.subs=c.subs) from by rw[decide_eq_decide];exact eH];refine aj ?_;refine ak.ret ?_;exact⟨rfl,rfl⟩
  ·rw[decide_eq_false (show ¬a=c from λh=>h3 (by rw[h]))];refine aj ?_;refine W.bin (v:=.b false) I I I I ((xP _ _).trans (by rw[decide_eq_false h3])) ?_;refine aj ?_;refine ak.ret ?_;exact⟨rfl,rfl⟩
 ·rw[decide_eq_false (show ¬a=c from λh=>h1 (by rw[h]))];refine aj ?_;refine ak.ret ?_;exact⟨rfl,rfl⟩
end
def PF.b0:PF->Nat
 | .neg a=>a.b0+1
 | .bin _ a b=>a.b0+b.b0+1
 |_=>1
def PF.a1W(a:PF):a.b0=1+(a.subs.map PF.b0).sum:=by
 cases a with
 |neg a=>show a.b0+1=1+(a.b0+0);omega
 |bin k a b=>show a.b0+b.b0+1=1+(a.b0+(b.b0+0));omega
 |_=>rfl
abbrev jG(F:Fm):List AV:=[fa F.op,.s F.name,gG false F.fl,gp false F.e4]
def sW(F:Fm):F.A false= .R (jG F):=by unfold Fm.A;rw[Fm.j_]
def PF.RD(a:PF):jG a.aG=[fa a.op,.s a.bO,.af,slA false (some 4) (a.subs.map λx=>.R (jG x.aG))]:=by
 cases a with
 | fU q=>rfl
 |cO=>rfl
 |neg a=>show[_,_,_,AV.a_ false (some 4) [a.aG.A false]]=_;rw[sW];rfl
 |bin k a b=>show[_,_,_,AV.a_ false (some 4) [a.aG.A false,b.aG.A false]]=_;rw[sW,sW];rfl
abbrev uH(S F:Fm):AV:=.R (bN S++(bN F++[.af]))
def c1L(J:ae)(n:Nat)(F:Fm):freeze J 0 (n+2) (.R (jG F))=some (.R (jG F)):=by
 rw[freeze_succ];show(match mapO (freeze J 0 (n+1)) (jG F) with|none=>none|some l=>some (AV.R l))=_;have h1:freeze J 0 (n+1) (gG false F.fl)=some (gG false F.fl):=by cases F.fl<;>rfl
 have h2:freeze J 0 (n+1) (gp false F.e4)=some (gp false F.e4):=by cases F.e4<;>rfl
 rw[mapO_cons,mapO_cons,mapO_cons,mapO_cons,h1,h2];rfl
section
variable {b:bT}{K:Nat->List AV->AV->Prop}(hfn:∀g aQ r b5,K g aQ r->K g aQ b5->r=b5)
include hfn
theorem c1M(a:PF)(hd:∀x∈a.subs,x.aG.dep<=200)(cz:a.b0<2^62)(e:b.ext ua=0/\b.pure ua=true)(c0:∀x∈a.subs,K ua [x.aG.A true] (ah x.b0))(body:bF)(hb:YG.body=some body):
  ak (b.aM K) YG.ntmps body (fv [.R (fc a)]) ⟨.nil,0⟩ (jU 2 (ah a.b0)):=by
 cases hb;refine W.jD λz H=>?_;have RA:=a.uF;have a1X:=a.a1W;have hle:∀j,((a.subs.take j).map PF.b0).sum<=(a.subs.map PF.b0).sum:=λj=>by
  conv=>rhs;rw[<-yU j a.subs,hQ,Kb]
  exact MM _ _
 refine aj ?_;refine W.cA (c:=fc a) H I I I I I I λτ cP H bx=>?_;refine aj ?_;show bL _ _ _ _ _ _ _ _;refine ak.each a.subs.length (λj f aB=>dN τ aB/\sat [(1,aE 0),(3,ah (1+((a.subs.take j).map PF.b0).sum)),(7,jo a)] f) U ⟨⟨bs _,λ_ _ h=>h⟩,rfl,rfl,rfl,trivial⟩ I I (λj g aB ax aW hi hm=>?_) (λg aB aW hi=>?_)
 ·obtain⟨M,bU,cp,hH,_⟩:=aW;refine ak.norm [(1,aE 0),(3,ah (1+((a.subs.take j).map PF.b0).sum)),(7,jo a),(9,ah j),(8,ah a.subs.length)] ⟨bU,cp,hH,hi,hm,trivial⟩ λg=>?_;have H:=H.aP M.2;have h1:=hle (j+1);have cR:((a.subs.take (j+1)).map PF.b0).sum=((a.subs.take j).map PF.b0).sum+(a.subs[j]).b0:=by rw[lO ax,hQ,Kb];simp
  refine aj ?_;refine W.cC H I I I I λcm e_ H b1=>?_;refine aj ?_;refine W.st (bD:=bN (a.subs[j]).aG) H 0 I I I I I I λdg iW H c9=>?_;refine aj ?_;refine W.e3 hfn e (c0 _ (gC ax)) I I I (k_ (uG _ (hd _ (gC ax)) _)) ?_;refine aj ?_;refine⟨rfl,rfl,⟨by have:=M.1;omega,λi o h=>c9 _ _ (by have:=ae.bt (M.2 _ _ h);omega) (b1 _ _ (M.2 _ _ h))⟩,rfl,?_,rfl,trivial⟩;show ah _=ah _;rw[cR,MJ]
 ·obtain⟨M,bU,cp,_⟩:=aW;refine ak.norm [(3,ah (1+((a.subs.take a.subs.length).map PF.b0).sum))] ⟨cp,trivial⟩ λg=>?_;rw[B0,← a1X];refine aj ?_;refine ak.ret ?_;exact⟨rfl,rfl⟩
theorem c1N(S F:Fm)(kq:∀τ,bM τ (b.bp+1000) (uH S F)=some (uH S F))(a:PF)(aV:bk (b.aM K) Pv ZV)(hd:∀x∈a.subs,x.aG.dep<=200)(e:b.ext xq=0/\b.pure xq=true)(c0:∀x∈a.subs,K xq [uH S F,x.aG.A true,.af] (.a0 [x.aG.A false,.b true]))(body:bF)(hb:b7Z.body=some body):
  ak (b.aM K) b7Z.ntmps body (fv [uH S F,.R (fc a),.af]) ⟨.nil,0⟩ (uv b7Z.results (.a0 [a.aG.A false,.b true])):=by
 cases hb;refine W.jD λz H=>?_;have RA:=a.uF;refine aj ?_;refine W.cA (c:=bN S++(bN F++[.af])) H I I I I I I λτ cP H bx=>?_;refine aj ?_;refine W.cA (c:=fc a) H cP I I I I I λa9 c8 H bb=>?_;refine aj ?_;refine W.cC (c:=[.i .u8 0,.s [],.af,.af]) H c8 I I I λbu er H k3=>?_;refine aj ?_;refine W.jj (c:=[fa a.op,.s a.bO,.af,.af]) H er I I I I I I λcm e_ H b1=>?_;refine aj ?_;show bL _ _ _ _ _ _ _ _;refine ak.each 0 (λj f aB=>dN cm aB/\sat [(2,.af),(3,aE 0),(4,aE 1),(6,aE 2),(8,aE 3)] f) U ⟨⟨bs _,λ_ _ h=>h⟩,rfl,rfl,rfl,rfl,rfl,trivial⟩ I I (λj g aB ax aW hi hm=>by omega) (λg aB aW hi=>?_);obtain⟨M,bV,cp,cX,gU,gM,_⟩:=aW;refine ak.norm [(2,.af),(3,aE 0),(4,aE 1),(6,aE 2),(8,aE 3)] ⟨bV,cp,cX,gU,gM,trivial⟩ λg=>?_;have H:=H.aP M.2;have db:=M.1;refine aj ?_;refine W.an trivial I I I (Cs aV (.inl I) a) λr dg ⟨ar,jl⟩=>⟨_,ar,?_⟩
 have xL:=H.aP jl.2;have zS:=jl.1;have H:Has dg [(3,[fa a.op,.s a.bO,.af,.af]),(2,[.i .u8 0,.s [],.af,.af]),(1,fc a),(0,bN S++(bN F++[.af]))]:=xL;clear xL;refine aj ?_;show bL _ _ _ _ _ _ _ _;refine ak.each a.subs.length (λj f aB=>(∃w,aB.get 3=some (.cells [fa a.op,.s a.bO,.af,w])/\Sl aB (some 4) w ((a.subs.take j).map λx=>.R (jG x.aG))/\(a.subs.take j=[]->w= .af)/\∀o,w.at? =some o->dg.next<=o)/\(∀i o,i≠3->dg.get i=some o->aB.get i=some o)/\dg.next<=aB.next/\sat [(2,.af),(3,aE 0),(6,aE 2),(8,aE 3),(59,jo a)] f) U ⟨⟨.af,H.get _ (.head _),.nil,λ_=>rfl,λ_ h=>by cases h⟩,λ_ _ _ h=>h,bs _,rfl,rfl,rfl,rfl,rfl,trivial⟩ I I (λj g aB ax aW hi hm=>?_) (λg aB aW hi=>?_)
 ·obtain⟨⟨w,hg,hw,lK,xJ⟩,dr,hn,bV,cp,gU,gM,Rn,_⟩:=aW;refine ak.norm [(2,.af),(3,aE 0),(6,aE 2),(8,aE 3),(59,jo a),(61,ah j),(60,ah a.subs.length)] ⟨bV,cp,gU,gM,Rn,hi,hm,trivial⟩ λg=>?_;have H:Has aB [(3,[fa a.op,.s a.bO,.af,w]),(0,bN S++(bN F++[.af]))]:=(Has.nil.cons (dr _ _ U (H.get _ (.tail _ (.tail _ (.tail _ (.head _)))))) aF).cons hg aF;refine aj ?_;refine W.cC H I I I I λeA jf H et=>?_;refine aj ?_;refine W.st (bD:=bN (a.subs[j]).aG) H 0 I I I I I I λeW k6 H gk=>?_;refine aj ?_;have hx:=c0 _ (gC ax);rw[sW] at hx;refine W.e3 hfn e hx I I I (Ev (kq _) (uG _ (hd _ (gC ax)) _) I) ?_;refine aj ?_;refine W.cC H I I I I λfI vq H pt=>?_;refine aj ?_;refine W.st (bD:=jG (a.subs[j]).aG) H 0 I I I I I I λke sk H kN=>?_;have c7:∀i o,aB.get i=some o->ke.get i=some o:=λi o h=>kN _ _ (by have:=ae.bt h;omega) (pt _ _ (gk _ _ (by have:=ae.bt h;omega) (et _ _ h)));have RE:=hw.aP (τ:=ke) λi o _=>c7 i o;refine aj ?_;refine W.pu (c:=jG (a.subs[j]).aG) (.R (jG (a.subs[j]).aG)) RE I I I I I I I I I (by rw[uV,fe];omega) λbR hq z6 FR _ rC cF=>?_;have H:Has hq [(3,[fa a.op,.s a.bO,.af,w])]:=Has.nil.cons (cF _ _ (λe=>by have:=xJ _ e;omega) (c7 _ _ hg)) aF;refine aj ?_;refine W.st (bD:=[fa a.op,.s a.bO,.af,bR]) H 0 I I I I z6.lP (by rw[z6.mM];rfl) λjm pV H jn=>?_;refine aj ?_;refine⟨rfl,rfl,⟨bR,H.get _ (.head _),?_,λh=>?_,λo ho=>by rw[FR] at ho;cases ho;omega⟩,λi o hi ho=>jn _ _ hi (cF _ _ (λe=>by have:=xJ _ e;have:=ae.bt ho;omega) (c7 _ _ (dr _ _ hi ho))),U,rfl,rfl,rfl,rfl,rfl,trivial⟩
  ·rw[lO ax,hQ];exact z6.aP λi o hi=>jn _ _ (λe=>by rw[FR] at hi;cases hi;omega)
  ·have:=congrArg List.length h;rw[fe,lg] at this;omega
 ·obtain⟨⟨w,hg,hw,lK,xJ⟩,dr,hn,bV,cp,gU,gM,_⟩:=aW;refine ak.norm [(6,aE 2),(8,aE 3)] ⟨gU,gM,trivial⟩ λg=>?_;have H:Has aB [(3,[fa a.op,.s a.bO,.af,w]),(2,[.i .u8 0,.s [],.af,.af])]:=(Has.nil.cons (dr _ _ U (H.get _ (.tail _ (.head _)))) aF).cons hg aF;rw[B0] at hw lK;refine aj ?_;refine W.st (bD:=[fa a.op,.s a.bO,.af,w]) H 1 I I I I I I λeW k6 H gk=>?_;refine aj ?_;refine ak.ret ?_;refine⟨rfl,_,jF (gI I (H.get _ (.tail _ (.head _))) I) (ku I),?_⟩;have QG:=hw.aP (τ:=eW) λi o hi=>gk _ _ (by have:=xJ i hi;omega);have h1:freeze eW 0 998 w=some (slA false (some 4) (a.subs.map λx=>.R (jG x.aG))):=by
   rw[QG.freeze (n:=997) (bf:=a.subs.map λx=>.R (jG x.aG)) (by
    have:=zO (f:=freeze eW 0 997) (g:=λx=>x) (l:=a.subs.map λx=>.R (jG x.aG)) (λy hy=>by obtain⟨x,_,rfl⟩:=ti.1 hy;exact c1L eW 995 x.aG);rwa[Ka] at this)]
   unfold Ch;cases ao:a.subs with
   |nil=>rw[ao] at lK;rw[lK I];rfl
   |cons x l=>
    rw[ao] at hw;generalize hx:(x::l).map (λx:PF=>AV.R (jG x.aG))=xs at hw;cases hw with
    |nil=>simp at hx
    |al o cap xs rest hg ab ay=>subst hx;rfl
  have h2:freeze eW 0 999 (.R [fa a.op,.s a.bO,.af,w])=some (a.aG.A false):=by
   rw[freeze_succ];show(match mapO (freeze eW 0 998) [fa a.op,.s a.bO,.af,w] with|none=>none|some l=>some (AV.R l))=_;rw[mapO_cons,mapO_cons,mapO_cons,mapO_cons,h1,sW,PF.RD];rfl
  rw[freeze_succ];show(match mapO (freeze eW 0 999) [.R [fa a.op,.s a.bO,.af,w],.b true] with|none=>none|some l=>some (AV.a0 l))=_;rw[mapO_cons,h2];rfl
end
inductive h_(W:Nat->Prop)(J:ae)(aa:Option Nat):AV->List AV->Prop
 |nil:h_ W J aa .af []
 |al (o:Nat) (cap:Option Nat) (xs rest:List AV) (hW:W o) (h:J.get o=some (.cells (xs.flatMap AV.cells++rest))) (ab:∀y∈xs,conf aa y=true) (ay:cap=none\/cap=some xs.length) (a7:xs≠[]):h_ W J aa (.al o 0 xs.length aa cap) xs
 |a_ (xs:List AV) (ab:∀y∈xs,conf aa y=true) (a7:xs≠[]):h_ W J aa (.a_ false aa xs) xs
def h_.aP{W W':Nat->Prop}{J τ:ae}{aa:Option Nat}{v:AV}{xs:List AV}(h:h_ W J aa v xs)(k:∀i c,W i->J.get i=some (.cells c)->W' i/\τ.get i=some (.cells c)):h_ W' τ aa v xs:=by
 cases h with
 |nil=>exact .nil
 |al o cap xs rest hW h ab ay a7=>exact .al o cap xs rest (k _ _ hW h).1 (k _ _ hW h).2 ab ay a7
 |a_ xs ab a7=>exact .a_ xs ab a7
def h_.one{W:Nat->Prop}{J:ae}{aa:Option Nat}{v:AV}{xs:List AV}(h:h_ W J aa v xs):v.cells=[v]/\v.val=true/\conf none v=true:=by
 cases h<;>exact⟨rfl,rfl,rfl⟩
def h_.snap{W:Nat->Prop}{J:ae}{aa:Option Nat}{v:AV}{xs bf:List AV}{n:Nat}(h:h_ W J aa v xs)(hm:mapO (bM J n) xs=some bf):bM J (n+1) v=some (slA true aa bf):=by
 cases h with
 |nil=>exact Sl.zX .nil (λ_=>rfl) hm
 |al o cap xs rest hW h ab ay a7=>exact Sl.zX (.al o cap xs rest h ab ay) (λe=>absurd e a7) hm
 |a_ xs ab a7=>
  rw[snapshot_succ];simp only[hm];cases bf with
  |nil=>have:=(o0 hm).1;cases xs with|nil=>exact absurd I a7|cons _ _=>simp at this
  |cons z r=>rfl
inductive e1(W:Nat->Prop)(J:ae):PF->AV->Prop
 |mk (a:PF) (w:AV) (xs:List AV) (hl:xs.length=a.subs.length) (hw:h_ W J (some 4) w xs) (hx:∀i (h:i<xs.length) (h':i<a.subs.length),e1 W J a.subs[i] xs[i]):e1 W J a (.R [fa a.op,.s a.bO,.af,w])
def e1.aP{W W':Nat->Prop}{J τ:ae}(k:∀i c,W i->J.get i=some (.cells c)->W' i/\τ.get i=some (.cells c)):∀(d:Nat) {a:PF} {v:AV},a.dep<=d->e1 W J a v->e1 W' τ a v
 |0,a,v,hd,_=>by cases a<;>simp[PF.dep] at hd
 |d+1,a,v,hd,h=>by
  cases h with
  |mk _ w xs hl hw hx=>exact .mk a w xs hl (hw.aP k) λi h h'=>e1.aP k d (by have:=PF.lk (gC h');omega) (hx i h h')
def e1.snap{W:Nat->Prop}{J:ae}:∀(d:Nat) {a:PF} {v:AV} {n:Nat},a.dep<=d->2*d+1<=n->e1 W J a v->bM J n v=some (a.aG.A true)
 |0,a,v,n,hd,_,_=>by cases a<;>simp[PF.dep] at hd
 |d+1,a,v,n,hd,hn,h=>by
  obtain⟨n,rfl⟩:∃m,n=m+2:=⟨n-2,U⟩
  cases h with
  |mk _ w xs hl hw hx=>
   rw[nk];refine ox ?_;have hm:mapO (bM J n) xs=some (a.subs.map λx=>.R (bN x.aG)):=zP (by rw[uV,hl]) λi h1 h2=>by
    rw[uV] at h2;have:=e1.snap d (n:=n) (by have:=PF.lk (gC h2);omega) U (hx i h1 h2);rw[mQ,this,jk]
   have:=hw.snap hm;rw[mapO_cons,mapO_cons,mapO_cons,mapO_cons,this];rfl
def e1.tree{W:Nat->Prop}{J:ae}:∀(d:Nat) {a:PF},a.dep<=d->e1 W J a (.R (jG a.aG))
 |0,a,hd=>by cases a<;>simp[PF.dep] at hd
 |d+1,a,hd=>by
  rw[PF.RD];refine .mk a _ (a.subs.map λx=>.R (jG x.aG)) (uV _) ?_ λi h h'=>?_
  ·cases ao:a.subs with
   |nil=>exact .nil
   |cons x l=>exact .a_ (aa:=some 4) ((x::l).map λx=>.R (jG x.aG)) (λy hy=>by obtain⟨z,_,rfl⟩:=ti.1 (show y∈(x::l).map (λx:PF=>AV.R (jG x.aG)) from hy);rfl) aF
  ·rw[mQ];exact e1.tree d (by have:=PF.lk (gC h');omega)
structure ba where
 br:Nat
 op:Nat
 hyp:Bool
 f:PF
 c2:List Nat
 cs:List (Nat×Nat)
def ba.bA(x:ba):bg:=⟨x.br,x.op,x.hyp,x.f.aG,x.c2,x.cs⟩
inductive kV(W:Nat->Prop)(J:ae)(x:ba):AV->Prop
 |mk (w cv:AV) (hf:e1 W J x.f (.R [fa x.f.op,.s x.f.bO,.af,w])) (ab:h_ W J (some 2) cv (x.cs.map λc=>.R [ah c.1,ah c.2])):kV W J x (.R [ah x.br,ah x.op,.b x.hyp,fa x.f.op,.s x.f.bO,.af,w,.s x.c2,cv])
def kV.aP{W W':Nat->Prop}{J τ:ae}{x:ba}{v:AV}(h:kV W J x v)(k:∀i c,W i->J.get i=some (.cells c)->W' i/\τ.get i=some (.cells c)):kV W' τ x v:=by
 cases h with
 |mk w cv hf ab=>exact .mk w cv (hf.aP k _ (bs _)) (ab.aP k)
def kV.snap{W:Nat->Prop}{J:ae}{x:ba}{v:AV}(h:kV W J x v){n:Nat}(hn:2*x.f.dep+10<=n):bM J n v=some x.bA.A:=by
 obtain⟨n,rfl⟩:∃m,n=m+3:=⟨n-3,U⟩
 cases h with
 |mk w cv hf ab=>
  have h1:=hf.snap x.f.dep (n:=n+3) (bs _) U;rw[jk] at h1;obtain⟨e2,aX,bc⟩:=zl h1;injection bc with bc
  subst bc;rw[mapO_cons,mapO_cons,mapO_cons,mapO_cons] at aX;have AS:mapO (bM J (n+1)) (x.cs.map λc=>.R [ah c.1,ah c.2])=some (x.cs.map λc=>.R [ah c.1,ah c.2]):=by
   have:=zO (f:=bM J (n+1)) (g:=λx=>x) (l:=x.cs.map λc=>AV.R [ah c.1,ah c.2]) (λy hy=>by obtain⟨c,_,rfl⟩:=ti.1 hy;cases n with|zero=>omega|succ m=>rfl);rwa[Ka] at this
  have h2:=ab.snap AS;have h3:bM J (n+2) w=some (gp true x.f.aG.e4):=by
   cases hw:bM J (n+2) w with
   |none=>rw[hw] at aX;cases aX
   |some u=>
    rw[hw] at aX;have aX:some [AV.i .u8 (Int.ofNat x.f.op),.s x.f.bO,.af,u]=some (bN x.f.aG):=aX;injection aX with aX
    injection aX with _ aX
    injection aX with _ aX
    injection aX with _ aX
    injection aX with aX _
    rw[aX]
  refine ox ?_;have aL:x.f.aG.op=x.f.op:=PF.KP _;have a5:x.f.aG.name=x.f.bO:=PF.c1C _;have cy:x.f.aG.fl=none:=PF.c1D _;rw[mapO_cons,mapO_cons,mapO_cons,mapO_cons,mapO_cons,mapO_cons,mapO_cons,mapO_cons,mapO_cons,h2,h3];show some [_,_,_,AV.i .u8 (Int.ofNat x.f.op),.s x.f.bO,.af,gp true x.f.aG.e4,_,_]=some [_,_,_,AV.i .u8 (Int.ofNat x.f.aG.op),.s x.f.aG.name,gG true x.f.aG.fl,gp true x.f.aG.e4,_,_];rw[aL,a5,cy];rfl
def sX{n:Nat}{l:List AV}(h:∀x∈l,AV.eqb n x x=true):AV.eqb (n+1) (.R l) (.R l)=true:=ov h
def xW{n:Nat}{o:Bool}{aa:Option Nat}{l:List AV}(h:∀x∈l,AV.eqb n x x=true):AV.eqb (n+1) (.a_ o aa l) (.a_ o aa l)=true:=by
 show((o==o)&&decide (aa=aa)&&fY (AV.eqb n) l l)=true;rw[ov h];simp
def h_.eqb{W:Nat->Prop}{J:ae}{aa:Option Nat}{v:AV}{xs:List AV}{n:Nat}(h:h_ W J aa v xs)(he:∀x∈xs,AV.eqb n x x=true):AV.eqb (n+1) v v=true:=by
 cases h with
 |nil=>exact ev I
 |al o cap xs rest hW h ab ay a7=>exact ev I
 |a_ xs ab a7=>exact xW he
def e1.eqb{W:Nat->Prop}{J:ae}:∀(d:Nat) {a:PF} {v:AV} {n:Nat},a.dep<=d->2*d+1<=n->e1 W J a v->AV.eqb n v v=true
 |0,a,v,n,hd,_,_=>by cases a<;>simp[PF.dep] at hd
 |d+1,a,v,n,hd,hn,h=>by
  obtain⟨n,rfl⟩:∃m,n=m+2:=⟨n-2,U⟩
  cases h with
  |mk _ w xs hl hw hx=>
   refine sX λy hy=>?_;simp only[dB,NQ,or_false] at hy;rcases hy with rfl|rfl|rfl|rfl
   ·exact ev I
   ·exact ev I
   ·exact ev I
   ·refine hw.eqb λy hy=>?_;obtain⟨i,hi,rfl⟩:=tj hy;exact e1.eqb d (by have:=PF.lk (gC (show i<a.subs.length by omega));omega) U (hx i hi U)
def kV.eqb{W:Nat->Prop}{J:ae}{x:ba}{v:AV}(h:kV W J x v){n:Nat}(hn:2*x.f.dep+10<=n):AV.eqb n v v=true:=by
 obtain⟨n,rfl⟩:∃m,n=m+3:=⟨n-3,U⟩
 cases h with
 |mk w cv hf ab=>
  have hw:AV.eqb (n+2) w w=true:=by
   cases hf with
   |mk _ w xs hl hw hx=>
    refine hw.eqb λy hy=>?_;obtain⟨i,hi,rfl⟩:=tj hy;exact(hx i hi U).eqb _ (bs _) (by have:=PF.lk (gC (show i<x.f.subs.length by omega));omega)
  have mf:AV.eqb (n+2) cv cv=true:=ab.eqb λy hy=>by
   obtain⟨c,_,rfl⟩:=ti.1 hy;cases n with
   |zero=>omega
   |succ m=>exact Jb I
  refine sX λy hy=>?_;simp only[dB,NQ,or_false] at hy;rcases hy with rfl|rfl|rfl|rfl|rfl|rfl|rfl|rfl|rfl
  ·exact ev I
  ·exact ev I
  ·exact ev I
  ·exact ev I
  ·exact ev I
  ·exact ev I
  ·exact hw
  ·exact ev I
  ·exact mf
section
variable {b:bT}{K:Nat->List AV->AV->Prop}
def rH(hh:bk (b.aM K) vM YH){op:Nat}{w:AV}(hw:w.cells=[w])(au:w.val=true){J:ae}:
  bE (b.aM K) 0 (.f (.func vM) [] []) [fa op,w] J (λr τ=>r= .ok (.R [fa op,.s [],.af,w])/\dN J τ):=by
 refine W.nO hh.e hh.p hh.f I I I λz=>?_;have H:Has J []:=Has.nil;refine aj ?_;refine W.cC (c:=[.i .u8 0,.s [],.af,.af]) H I I I I λτ cP H bx=>?_;refine aj ?_;refine W.jQ (c:=[fa op,.s [],.af,w]) I I (qs I I I (qs I (by rw[hw,au];rfl) (by rw[hw];rfl) I)) ?_;refine W.st (bD:=[fa op,.s [],.af,w]) H 0 I I I I I I λa9 c8 H bb=>?_;refine aj ?_;exact ak.ret ⟨rfl,_,vU (gI I (H.get _ (.head _)) I),rfl,U,λi o h=>bb _ _ (by have:=ae.bt h;omega) (bx _ _ h)⟩
def a1Y(hh:bk (b.aM K) BV YO){bO:List Nat}{J:ae}:
  bE (b.aM K) 0 (.f (.func BV) [] []) [.s bO] J (λr τ=>r= .ok (.R [.i .u8 1,.s bO,.af,.af])/\dN J τ):=by
 refine W.nO hh.e hh.p hh.f I I I λz=>?_;have H:Has J []:=Has.nil;refine aj ?_;refine W.cC (c:=[.i .u8 0,.s [],.af,.af]) H I I I I λτ cP H bx=>?_;refine aj ?_;refine W.st H 0 I I I I I I λa9 c8 H bb=>?_;refine aj ?_;exact ak.ret ⟨rfl,_,vU (gI I (H.get _ (.head _)) I),rfl,U,λi o h=>bb _ _ (by have:=ae.bt h;omega) (bx _ _ h)⟩
def c1O(hh:bk (b.aM K) BW YF){d op:Nat}{bO gy:List Nat}{w:AV}{l:List Nat}{v:AV}(hw:w.cells=[w])(Ru:w.val=true){J:ae}(au:fg J v l)(hl:l.length<2^20):
  bE (b.aM K) 0 (.f (.func BW) [] []) [ah d,.R [fa op,.s bO,.af,w],.s gy,v] J (λr τ=>∃cv,r= .ok (.R [ah d,ah 0,.b false,fa op,.s bO,.af,w,.s gy,cv])/\h_ (λi=>J.next<=i) τ (some 2) cv (l.map λn=>.R [ah n,ah n])/\dN J τ):=by
 refine W.nO hh.e hh.p hh.f I I I λz=>?_;have H:Has J []:=Has.nil;have qp:=au.kR;refine aj ?_;generalize aV:J.next=q;refine W.cA (c:=[fa op,.s bO,.af,w]) H aV I I I I I λτ cP H bx=>?_;refine aj ?_;refine W.cC H cP I I I λa9 c8 H bb=>?_;refine aj ?_;refine W.jj (c:=[ah d,ah 0,.b false,fa op,.s bO,.af,w,.s gy,.af]) H c8 I I I I I I λbu er H k3=>?_;have c7:∀i o,J.get i=some o->bu.get i=some o:=λi o h=>k3 _ _ (bb _ _ (bx _ _ h));have pk:=au.aP (τ:=bu) λi o _=>c7 i o;have qp:=pk.kR;refine aj ?_;show bL _ _ _ _ _ _ _ _;refine ak.each l.length (λj f aB=>(∃cv,aB.get (q+2)=some (.cells [ah d,ah 0,.b false,fa op,.s bO,.af,w,.s gy,cv])/\Sl aB (some 2) cv ((l.take j).map λn=>.R [ah n,ah n])/\(l.take j=[]->cv= .af)/\∀o,cv.at? =some o->bu.next<=o)/\(∀i o,i≠q+2->bu.get i=some o->aB.get i=some o)/\bu.next<=aB.next/\sat [(8,aE (q+1)),(9,aE (q+2)),(16,v)] f) U ⟨⟨.af,H.get _ (.head _),.nil,λ_=>rfl,λ_ h=>by cases h⟩,λ_ _ _ h=>h,bs _,rfl,rfl,rfl,trivial⟩ I I (λj g aB ax aW hi hm=>?_) (λg aB aW hi=>?_)
 ·obtain⟨⟨cv,hg,ab,n7,mw⟩,dr,hn,gM,sP,v7,_⟩:=aW;refine ak.norm [(8,aE (q+1)),(9,aE (q+2)),(16,v),(18,ah j),(17,ah l.length)] ⟨gM,sP,v7,hi,hm,trivial⟩ λg=>?_;have H:Has aB [(q+2,[ah d,ah 0,.b false,fa op,.s bO,.af,w,.s gy,cv])]:=Has.nil.cons hg aF;have qp:=(pk.aP (τ:=aB) λi o hi=>dr i o (by have:=au.lt hi;omega)).kR;refine aj ?_;refine W.pu (c:=[ah l[j],ah l[j]]) (.R [ah l[j],ah l[j]]) ab I I I I I I I I I (by rw[uV,fe];omega) λbR hq z6 FR _ rC cF=>?_;have H:Has hq [(q+2,[ah d,ah 0,.b false,fa op,.s bO,.af,w,.s gy,cv])]:=Has.nil.cons (cF _ _ (λe=>by have:=mw _ e;omega) hg) aF;refine aj ?_;refine W.st (bD:=[ah d,ah 0,.b false,fa op,.s bO,.af,w,.s gy,bR]) H 0 I I I I z6.lP (by rw[z6.mM];rfl) λjm pV H jn=>?_;refine aj ?_;refine⟨rfl,rfl,⟨bR,H.get _ (.head _),?_,λh=>?_,λo ho=>by rw[FR] at ho;cases ho;omega⟩,λi o hi ho=>jn _ _ hi (cF _ _ (λe=>by have:=mw _ e;have:=ae.bt ho;omega) (dr _ _ hi ho)),U,rfl,rfl,rfl,trivial⟩
  ·rw[lO ax,hQ];exact z6.aP λi o hi=>jn _ _ (λe=>by rw[FR] at hi;cases hi;omega)
  ·have:=congrArg List.length h;rw[fe,lg] at this;omega
 ·obtain⟨⟨cv,hg,ab,n7,mw⟩,dr,hn,gM,sP,_⟩:=aW;refine ak.norm [(8,aE (q+1)),(9,aE (q+2))] ⟨gM,sP,trivial⟩ λg=>?_;rw[B0] at ab n7;have fu:=dr _ _ (show q+1≠q+2 by omega) (H.get _ (.tail _ (.head _)));have H:Has aB [(q+1,[ah 0,ah 0,.b false,.i .u8 0,.s [],.af,.af,.s [],.af]),(q+2,[ah d,ah 0,.b false,fa op,.s bO,.af,w,.s gy,cv])]:=(Has.nil.cons hg aF).cons fu aF;refine aj ?_;refine W.st (bD:=[ah d,ah 0,.b false,fa op,.s bO,.af,w,.s gy,cv]) H 0 I I I I I I λeW k6 H gk=>?_;refine aj ?_;refine ak.ret ⟨rfl,_,vU (gI I (H.get _ (.head _)) I),cv,rfl,?_,U,λi o h=>gk _ _ (by have:=ae.bt h;omega) (dr _ _ (by have:=ae.bt h;omega) (c7 _ _ h))⟩;have KT:=ab.aP (τ:=eW) λi o hi=>gk _ _ (by have:=mw i hi;omega);cases l with
  |nil=>rw[n7 I];exact .nil
  |cons x l=>
   generalize hx:(x::l).map (λn=>AV.R [ah n,ah n])=xs at KT;cases KT with
   |nil=>simp at hx
   |al o cap xs rest RF KT ay=>exact .al o cap xs rest (by have:=mw o I;omega) RF KT ay (λe=>by subst e;simp at hx)
end
structure a1Z(m:Nat)(dT d_ eg:AV)(a8:List AV)(bP:Nat->Prop):Prop where
 l:∀o,dT.at? =some o->bP o/\o≠m/\d_.at? ≠some o/\eg.at? ≠some o
 f:∀o,d_.at? =some o->bP o/\o≠m/\eg.at? ≠some o
 g:∀o,eg.at? =some o->bP o/\o≠m
 s:∀i (h:i<a8.length) o,(a8[i]).at? =some o->bP o/\o≠m/\dT.at? ≠some o/\d_.at? ≠some o/\eg.at? ≠some o
 cN:∀i j (h:i<a8.length) (h':j<a8.length),i≠j->∀o,(a8[i]).at? =some o->(a8[j]).at? ≠some o
structure kx(τ:ae)(m:Nat)(bP:Nat->Prop)(L:List ba)(ad:List (List Nat))(az:List Nat):Prop where
 lt:∀i,bP i->i<τ.next
 ex:∃dT d_ eg du a8,τ.get m=some (.cells [dT,d_,eg])/\Sl τ (some 9) dT du/\du.length=L.length/\(∀i (h:i<du.length) (h':i<L.length),kV (λi=>¬bP i) τ L[i] du[i])/\Sl τ none d_ a8/\a8.length=ad.length/\(∀i (h:i<a8.length) (h':i<ad.length),fg τ a8[i] ad[i])/\fg τ eg az/\((1<ad.length->(∀o l c,d_= .al o 0 l none c->c=none)/\∀o l c,eg= .al o 0 l none c->c=none)/\∀o l c,dT= .al o 0 l (some 9) c->c=none)/\bP m/\a1Z m dT d_ eg a8 bP
def kx.aP{J τ:ae}{m:Nat}{bP:Nat->Prop}{L:List ba}{ad:List (List Nat)}{az:List Nat}(h:kx J m bP L ad az)(M:dN J τ):kx τ m bP L ad az:=by
 obtain⟨dT,d_,eg,du,a8,hm,hl,e0,hj,hf,ep,l2,hg,hB,jH,ao⟩:=h.ex;exact⟨λi hi=>by have:=h.lt i hi;have:=M.1;omega,dT,d_,eg,du,a8,M.2 _ _ hm,hl.aP λi o _=>M.2 i o,e0,λi a b=>(hj i a b).aP λi c hi ab=>⟨hi,M.2 _ _ ab⟩,hf.aP λi o _=>M.2 i o,ep,λi a b=>(l2 i a b).aP λi o _=>M.2 i o,hg.aP λi o _=>M.2 i o,hB,jH,ao⟩
def RG:∀ {a8:List AV},(∀x∈a8,conf none x=true)->a8.flatMap AV.cells=a8
 |[],_=>rfl
 |x::l,h=>by rw[jY,IS (h x aF),RG λy hy=>h y (C1 _ hy)];rfl
def c1P{a8 rest:List AV}{k:Nat}{w:AV}(ay:k<a8.length)(hw:w.cells=[w]):storeCells (a8++rest) (k*shN none) w.cells=some (a8.set k w++rest):=by
 have e:k*shN none=k:=IH k;rw[e,hw];unfold storeCells;rw[if_pos (iR (by show k+1<=_;rw[dv];omega))];show some ((a8++rest).take k++([w]++(a8++rest).drop (k+1)))=_;rw[P6,if_pos ay,rn U,List.drop_append_of_le_length U];simp
def c1Q{J:ae}{v w:AV}{a8:List AV}{k:Nat}(h:Sl J none v a8)(ay:k<a8.length)(hw:conf none w=true):∃o rest,v.at? =some o/\J.get o=some (.cells (a8++rest))/\∀τ:ae,τ.get o=some (.cells (a8.set k w++rest))->Sl τ none v (a8.set k w):=by
 cases h with
 |nil=>simp at ay
 |al o cap xs rest hg ab hB=>
  refine⟨o,rest,rfl,by rw[hg,RG ab],λτ h=>?_⟩;have iD:∀y∈a8.set k w,conf none y=true:=λy hy=>by
   rcases ql hy with h|rfl
   ·exact ab y h
   ·exact hw
  have:=Sl.al (aa:=none) o cap (a8.set k w) rest (by rw[h,RG iD]) iD (by rw[ib];exact hB);rwa[ib] at this
section
variable {b:bT}{K:Nat->List AV->AV->Prop}
def FT(hh:bk (b.aM K) zC YC){m:Nat}{bP:Nat->Prop}{L:List ba}{ad:List (List Nat)}{az:List Nat}{J:ae}(cQ:kx J m bP L ad az)(bH:0<ad.length)(hL:L.length<2^20/\ad.length<2^20/\∀l∈ad,l.length<2^20){x:ba}{a2a:AV}(hx:kV (λi=>¬bP i) J x a2a)(c9J:x.f.dep<=400):
  bE (b.aM K) 0 (.f (.func zC) [] []) [aE m,a2a] J (λr τ=>r= .ok (ah (L.length+1))/\∃gJ,kx τ m gJ (L++[{x with br:=ad.length-1}]) (ad.set (ad.length-1) (ad.getD (ad.length-1) []++[L.length+1])) az/\sL bP gJ J τ):=by
 refine W.code hh.e hh.p hh.f I I I I λz=>?_;obtain⟨dT,d_,eg,du,a8,hm,hl,e0,hj,hf,ep,l2,hg,hB,jH,ao⟩:=cQ.ex;cases hx with
 |mk w cv a2b IA=>
  have H:Has J [(m,[dT,d_,eg])]:=Has.nil.cons hm aF;have lm:=ae.bt hm;have kH:=hf.vw;refine aj ?_;generalize aV:J.next=q;refine W.cA (c:=[ah x.br,ah x.op,.b x.hyp,fa x.f.op,.s x.f.bO,.af,w,.s x.c2,cv]) H aV I I I I I λτ cP H bx=>?_;have kH:=(hf.aP (τ:=τ) λi o _=>bx i o).vw;refine aj ?_;refine W.st (bD:=[ah (a8.length-1),ah x.op,.b x.hyp,fa x.f.op,.s x.f.bO,.af,w,.s x.c2,cv]) H 0 I I I I I I λa9 c8 H bb=>?_;have c7:∀i o,J.get i=some o->a9.get i=some o:=λi o h=>bb _ _ (by have:=ae.bt h;omega) (bx _ _ h);have pb:=hl.aP (τ:=a9) λi o _=>c7 i o;have FU:kV (λi=>¬bP i) a9 {x with br:=a8.length-1} (.R [ah (a8.length-1),ah x.op,.b x.hyp,fa x.f.op,.s x.f.bO,.af,w,.s x.c2,cv]):=.mk w cv (a2b.aP (λi c h h'=>⟨h,c7 _ _ h'⟩) _ (bs _)) (IA.aP λi c h h'=>⟨h,c7 _ _ h'⟩);have mz:=FU.eqb (n:=(b.aM K).bp) (by show 2*x.f.dep+10<=b.bp+1000;omega);refine aj ?_;refine W.l8 H I I I (.tail _ (.head _)) I (ev hl.lf) ?_;refine W.l8 (v:=.R [ah (a8.length-1),ah x.op,.b x.hyp,fa x.f.op,.s x.f.bO,.af,w,.s x.c2,cv]) H I I I (.head _) I mz ?_;refine W.bK (c:=[ah (a8.length-1),ah x.op,.b x.hyp,fa x.f.op,.s x.f.bO,.af,w,.s x.c2,cv]) H I I I I λbu er H k3=>?_;have iD:=H.get _ (.head _);have sY:=H.get _ (.tail _ (.tail _ (.head _)));refine aj ?_;refine W.ap (w:=.al a9.next 0 1 (some 9) (some 1)) (.R [ah (a8.length-1),ah x.op,.b x.hyp,fa x.f.op,.s x.f.bO,.af,w,.s x.c2,cv]) [] (pb.aP λi o _=>k3 i o) (by show readList bu (.al a9.next 0 1 (some 9) (some 1))=_;show(match bu.get a9.next with|some (.cells c)=>elems (some 9) 1 (c.drop 0)|_=>none)=_;rw[iD];rfl) (λz a6=>by rw[uT.1 a6];rfl) (by show(3*(du.length+1)+2000)*136<=_;omega) I I I I λuI cm Fu oE c1R e_ b1=>?_;have H:Has cm [(m,[dT,d_,eg])]:=Has.nil.cons (b1 _ _ (λe=>(ao.l _ e).2.1 I) sY) aF;refine aj ?_;refine W.st (bD:=[uI,d_,eg]) H 0 I I I I Fu.lP (by rw[Fu.mM];rfl) λdg iW H c9=>?_;have RH:∀i o,i≠m->dT.at? ≠some i->J.get i=some o->dg.get i=some o:=λi o h1 h2 h=>c9 _ _ h1 (b1 _ _ h2 (k3 _ _ (c7 _ _ h)));have RI:=hf.aP (τ:=dg) λi o hi=>RH i o (ao.f _ hi).2.1 λe=>(ao.l _ e).2.2.1 hi;have kH:=RI.vw;have RJ:Sl dg (some 9) uI (du++[.R [ah (a8.length-1),ah x.op,.b x.hyp,fa x.f.op,.s x.f.bO,.af,w,.s x.c2,cv]]):=Fu.aP λi o hi=>c9 _ _ (λe=>by rw[oE] at hi;cases hi;omega);have c1S:=H.get _ (.head _);refine aj ?_;clear kH;obtain⟨o,k2,pX,fS,kT,jx,mH,iq⟩:=RI.fU (j:=a8.length-1) U;have a2c:=(l2 (a8.length-1) U U).aP (τ:=dg) λi bX hi=>by
   obtain⟨aX,bc,cq,ew,eJ⟩:=ao.s _ _ _ hi;exact RH i bX bc cq
  have a2d:∀s:ae,lenA s 1 uI=some (du.length+1):=λs=>by rw[RJ.len,dv];rfl
  have xG:=(ao.f _ fS).2.1;refine W.l8 H I I I (.head _) I (ev hf.lf) ?_;refine aj ?_;refine W.l8 H I I I (.head _) I (ev hf.lf) ?_;refine aj ?_;rw[sK kT];refine W.B3 jx I I I iq (ev a2c.lf) ?_;refine aj ?_;refine W.l8 H I I I (.head _) I (ev RJ.lf) ?_;refine W.sD (v:=ah (du.length+1)) I I I (λs=>xf I (a2d s)) (ev I) ?_;refine W.bK (c:=[ah (du.length+1)]) H I I I I λeA jf H et=>?_;have iD:=H.get _ (.head _);have sY:=H.get _ (.tail _ (.head _));refine W.now [(18,m,[uI,d_,eg]),(18,o,k2),(18,m,[uI,d_,eg]),(18,m,[uI,d_,eg])] [(20,m,[uI,d_,eg])] I I ⟨sY,et _ _ jx,sY,sY,trivial⟩ ?_;refine W.ap (w:=.al dg.next 0 1 none (some 1)) (ah (du.length+1)) [] (a2c.aP λi o _=>et i o) (by show readList eA (.al dg.next 0 1 none (some 1))=_;show(match eA.get dg.next with|some (.cells c)=>elems none 1 (c.drop 0)|_=>none)=_;rw[iD];rfl) (λz a6=>by rw[uT.1 a6];rfl) (by rw[uV];have:=hL.2.2 _ (gC (show a8.length-1<ad.length by omega));show(3*(_+1)+2000)*8<=_;omega) I I I I λRK eW KU KV _ k6 gk=>?_;have KW:∀i bX,(a8[a8.length-1]'U).at? ≠some i->dg.get i=some bX->eW.get i=some bX:=λi bX h1 h2=>gk i bX h1 (et _ _ h2);have FV:=ao.s (a8.length-1) U;have c1T:=RI.aP (τ:=eW) λi bX hi=>KW i bX λe=>(FV _ e).2.2.2.1 hi;obtain⟨iS,rest,n_,AY,gW⟩:=c1Q (w:=RK) c1T (show a8.length-1<a8.length by omega) KU.lP;obtain rfl:o=iS:=by rw[fS] at n_;exact wF n_
  have H:Has eW [(o,a8++rest),(m,[uI,d_,eg])]:=(Has.nil.cons (KW _ _ (λe=>(FV _ e).2.1 I) c1S) aF).cons AY (by simp;omega);refine aj ?_;rw[sK kT];refine aj ?_;refine W.st (bD:=a8.set (a8.length-1) RK++rest) H 0 I I I I KU.lP (c1P U KU.mM) λfI vq H pt=>?_;refine aj ?_;refine W.len I I I (a2d _) ?_;refine aj ?_;have RL:=(ao.f _ fS).1;have RM:∀i bX,i≠o->(a8[a8.length-1]'U).at? ≠some i->i≠m->dT.at? ≠some i->J.get i=some bX->fI.get i=some bX:=λi bX h1 h2 h3 aO h=>pt _ _ h1 (KW _ _ h2 (RH i bX h3 aO h));have a2e:∀i bX,¬bP i->J.get i=some bX->fI.get i=some bX:=λi bX hi h=>RM i bX (λe=>hi (e▸RL)) (λe=>hi (FV _ e).1) (λe=>hi (e▸jH)) (λe=>hi (ao.l _ e).1) h;have RN:q<bu.next/\q<eA.next/\bu.next<eA.next/\eA.next<fI.next:=by omega
  have sZ:∀i,bP i->i<q:=λi hi=>by have:=cQ.lt i hi;omega
  refine ak.ret ⟨rfl,by rw[e0];rfl,λi=>bP i\/i=bu.next\/i=eA.next,?_,?_⟩
  ·have tz:∀i c,¬bP i->J.get i=some (.cells c)->¬(bP i\/i=bu.next\/i=eA.next)/\fI.get i=some (.cells c):=λi c hi hg=>⟨λh=>by
     have:=ae.bt hg;rcases h with h|h|h
     ·exact hi h
     ·omega
     ·omega,a2e _ _ hi hg⟩
   refine⟨λi hi=>?_,uI,d_,eg,du++[.R [ah (a8.length-1),ah x.op,.b x.hyp,fa x.f.op,.s x.f.bO,.af,w,.s x.c2,cv]],a8.set (a8.length-1) RK,H.get _ (.tail _ (.head _)),?_,?_,?_,gW fI (H.get _ (.head _)),?_,?_,?_,?_,.inl jH,?_⟩
   ·rcases hi with h|h|h
    ·have:=sZ i h;omega
    ·omega
    ·omega
   ·exact RJ.aP λi bX hi h=>pt _ _ (λe=>by rw[oE] at hi;cases hi;have:=sZ _ RL;omega) (KW _ _ (λe=>by rw[oE] at hi;cases hi;have:=sZ _ (FV _ e).1;omega) h)
   ·rw[dv,dv,e0];rfl
   ·intro i h h';by_cases tG:i<du.length
    ·rw[cM tG,cM U];exact(hj i tG U).aP tz
    ·have e:i=du.length:=by rw[dv] at h;simp only[CZ,lg] at h;omega
     subst e;rw[xE I,xE e0];rw[ep];exact .mk w cv (a2b.aP tz _ (bs _)) (IA.aP tz)
   ·rw[ib,ib,ep]
   ·intro i h h';rw[ib] at h h';rw[uZ,uZ];by_cases v_:a8.length-1=i
    ·rw[if_pos v_,if_pos U,sT U];unfold fg;rw[hQ];have:=KU.aP (τ:=fI) λi bX hi=>pt _ _ (λe=>by rw[KV] at hi;cases hi;have:=sZ _ RL;omega);rw[e0] at this;simp only[ep] at this;exact this
    ·rw[if_neg v_,if_neg U];exact(l2 i h h').aP λc bX ab=>by
      obtain⟨aX,bc,cq,ew,eJ⟩:=ao.s i h c ab;exact RM c bX (λe=>ew (e▸fS)) (ao.cN _ _ h U (λe=>v_ e.symm) c ab) bc cq
   ·exact hg.aP λc bX ab=>RM c bX (λe=>(ao.f _ fS).2.2 (e▸ab)) (λe=>(FV _ e).2.2.2.2 ab) (ao.g _ ab).2 (λe=>(ao.l _ e).2.2.2 ab)
   ·rw[ib];exact⟨hB.1,c1R⟩
   ·refine⟨λc ab=>?_,λc ab=>?_,λc ab=>?_,λi h c ab=>?_,λi j h h' hG c ab iD=>?_⟩
    ·rw[oE] at ab;cases ab;exact⟨.inr (.inl I),U,λe=>by have:=sZ _ (ao.f _ e).1;omega,λe=>by have:=sZ _ (ao.g _ e).1;omega⟩
    ·exact⟨.inl (ao.f _ ab).1,(ao.f _ ab).2⟩
    ·exact⟨.inl (ao.g _ ab).1,(ao.g _ ab).2⟩
    ·rw[ib] at h;rw[uZ] at ab;by_cases v_:a8.length-1=i
     ·rw[if_pos v_,KV] at ab;cases ab;exact⟨.inr (.inr I),U,λe=>by rw[oE] at e;have:=wF e;omega,λe=>by have:=sZ _ (ao.f _ e).1;omega,λe=>by have:=sZ _ (ao.g _ e).1;omega⟩
     ·rw[if_neg v_] at ab;obtain⟨aX,bc,cq,ew,eJ⟩:=ao.s i h c ab;exact⟨.inl aX,bc,λe=>by rw[oE] at e;have:=wF e;have:=sZ _ aX;omega,ew,eJ⟩
    ·rw[ib] at h h';rw[uZ] at ab iD;by_cases v_:a8.length-1=i
     ·rw[if_pos v_,KV] at ab;rw[if_neg (λe=>hG U)] at iD;have:=sZ _ (ao.s _ h' _ iD).1;have:=wF ab;omega
     ·rw[if_neg v_] at ab;by_cases I1:a8.length-1=j
      ·rw[if_pos I1,KV] at iD;have:=sZ _ (ao.s _ h _ ab).1;have:=wF iD;omega
      ·rw[if_neg I1] at iD;exact ao.cN i j h h' hG c ab iD
  ·refine⟨U,λc bX ab h=>a2e c bX ab h,λc ab=>?_⟩;rcases ab with h|h|h
   ·exact .inl h
   ·right;omega
   ·right;omega
end
def px:List Nat:=[105,109,112,73]
def wa:List Nat:=[110,111,116,73]
def nS(a c:PF)(first last:Nat):ba:=if c= .cO then⟨0,0,false,.neg a,wa,[(first,last)]⟩ else⟨0,0,false,.bin 2 a c,px,[(first,last)]⟩
def W.p3{ck:l9}{env:Env}{aR:Option Nat}{D:List (Nat ⊕ (AV×List AV))}{n:Nat}{F:List (Nat×AV)}{z:Nat->AV}{J:ae}{Q:dZ}{d:Nat}{aa:Option Nat}{x hi:aJ}{g:Option (Nat×Bool)}{ops:List a4}{v:AV}{xs:List AV}{k:Nat}(h:Sl J aa v xs)(hn:∀o l c,v= .al o 0 l aa c->c=none)(ay:k<=xs.length)(hd:Nat.blt d n=true)(hw:wtL g n F=true)(h1:dn env n F z x=some v)(h2:dn env n F z hi=some (ah k))
  (ab:∀w,Sl J aa w (xs.take k)->w.at? =v.at? →(∀o l c,w= .al o 0 l aa c->c=none)->cg ck env aR D n ops (bB ((d,w)::F) z) J Q):cg ck env aR D n (⟨some d,.nt aa x none (some hi) none,g,[]⟩::ops) (bB F z) J Q:=by
 obtain⟨w,aL,a5,cy,iB⟩:=Sl.cut (ar:=dn env n F z) (hi:=hi) (k:=k) h hn ay h2;refine W.val (v:=w) (ai:=J) hd hw ?_ (ab w a5 cy iB);show(match dn env n F z x with|some x=>(match sliceA (dn env n F z) aa x none (some hi) none with|some v=>some (bZ.val v J)|none=>none)|none=>none)=_;rw[h1];show(match sliceA (dn env n F z) aa v none (some hi) none with|some v=>some (bZ.val v J)|none=>none)=_;rw[aL]
section
variable {b:bT}{K:Nat->List AV->AV->Prop}
def c1U(hh:bk (b.aM K) EV YI)(ax:bk (b.aM K) vM YH)(ha:bk (b.aM K) zC YC){m:Nat}{bP:Nat->Prop}{L:List ba}{ad:List (List Nat)}{az:List Nat}{J:ae}(cQ:kx J m bP L ad az)(bH:2<=ad.length)(hL:L.length<2^20/\ad.length<2^20/\∀l∈ad,l.length<2^20)(l2:az.length=ad.length){first:Nat}(w6:az[ad.length-1]? =some first)(w7:1<=first/\first<=L.length){x y:ba}(hx:L[first-1]? =some x)(hy:L[L.length-1]? =some y)(KX:y.br=ad.length-1)(hd:x.f.dep<=300/\y.f.dep<=300):
  bE (b.aM K) 0 (.f (.func EV) [] []) [aE m] J (λr τ=>r= .ok (.a0 [])/\∃gJ,kx τ m gJ (L++[{nS x.f y.f first L.length with br:=ad.length-2}]) ((ad.take (ad.length-1)).set (ad.length-2) (ad.getD (ad.length-2) []++[L.length+1])) (az.take (ad.length-1))/\sL bP gJ J τ):=by
 refine W.pe hh.e hh.p hh.f I I I λz=>?_;obtain⟨dT,d_,eg,du,a8,hm,hl,e0,hj,hf,ep,gT,hg,hB,jH,ao⟩:=cQ.ex;have H:Has J [(m,[dT,d_,eg])]:=Has.nil.cons hm aF;have kH:=hf.vw;have mY:=hl.vw;have sm:=hg.kR;obtain⟨a2f,c1V⟩:=jK.1 w6;obtain⟨jB,FU⟩:=jK.1 hx;obtain⟨c1e,LM⟩:=jK.1 hy;have aL:az[a8.length-1]'U=first:=by simp only[ep];exact c1V
 obtain⟨RO,nd,c9K,c9L,a2g,KY,RP,c1W⟩:=hl.fU (j:=du.length-1) U;obtain⟨c1X,c1Y,rx,c9M,c1Z,a2h,a2i,c2a⟩:=hl.fU (j:=first-1) U;have FW:=hj (du.length-1) U U;have uJ:=hj (first-1) U U;rw[show L[du.length-1]'U=y from by simp only[e0];exact LM] at FW;rw[FU] at uJ;generalize du[du.length-1]'U=g_ at FW RP c1W;generalize du[first-1]'U=DE at uJ a2i c2a;cases FW with
 |mk qF c9N a2j c9O=>
  cases uJ with
  |mk rb c9P a2k vz=>
   refine aj ?_;rw[aL,sK a2g];refine aj ?_;refine W.ur (v:=ah y.br) KY I I I (by rw[g5,RP];rfl) ?_;have c9Q:y.br=a8.length-1:=by omega
   refine aj ?_;refine W.l8 H I I I (.head _) I (ev hl.lf) ?_;refine aj ?_;rw[sK c1Z];refine aj ?_;refine W.B3 (v:=.R [fa x.f.op,.s x.f.bO,.af,rb]) a2h I I I (by rw[<-oV,a2i];rfl) (a2k.eqb _ (bs _) (by show 2*x.f.dep+1<=b.bp+1000;omega)) ?_;refine aj ?_;refine W.l8 H I I I (.head _) I (ev hl.lf) ?_;refine aj ?_;rw[sK a2g];refine aj ?_;refine W.B3 (v:=.R [fa y.f.op,.s y.f.bO,.af,qF]) KY I I I (by rw[<-oV,RP];rfl) (a2j.eqb _ (bs _) (by show 2*y.f.dep+1<=b.bp+1000;omega)) ?_;generalize aV:J.next=q;refine W.cC (c:=[.i .u8 0,.s [],.af,.af]) H aV I I I λτ cP H bx=>?_;refine W.cC (c:=[.i .u8 0,.s [],.af,.af]) H cP I I I λa9 c8 H bb=>?_;have c7:∀i o,J.get i=some o->a9.get i=some o:=λi o h=>bb _ _ (bx _ _ h);have sY:=c7 _ _ hm;refine W.now [(20,RO,nd),(20,m,[dT,d_,eg]),(20,c1X,c1Y),(20,m,[dT,d_,eg])] [(21,RO,nd),(21,m,[dT,d_,eg])] I I ⟨c7 _ _ KY,sY,c7 _ _ a2h,sY,trivial⟩ ?_;refine W.st (bD:=[fa x.f.op,.s x.f.bO,.af,rb]) H 1 I I I I I I λbu er H k3=>?_;have lm:=ae.bt hm;have KZ:∀i o,J.get i=some o->bu.get i=some o:=λi o h=>k3 _ _ (by have:=ae.bt h;omega) (c7 _ _ h);refine W.now [(21,RO,nd),(21,m,[dT,d_,eg])] [] I I ⟨KZ _ _ KY,KZ _ _ hm,trivial⟩ ?_;refine W.st (bD:=[fa y.f.op,.s y.f.bO,.af,qF]) H 0 I I I I I I λcm e_ H b1=>?_;have RQ:∀i o,J.get i=some o->cm.get i=some o:=λi o h=>b1 _ _ (by have:=ae.bt h;omega) (KZ _ _ h);refine aj ?_;obtain⟨lD,va⟩:=hB.1 U;refine W.p3 (hf.aP (τ:=cm) λi o _=>RQ i o) lD (k:=a8.length-1) U I I I I λnT K0 xX kZ=>?_;refine aj ?_;refine W.p3 (hg.aP (τ:=cm) λi o _=>RQ i o) va (k:=a8.length-1) (by rw[uV];omega) I I I I λpy uK qo mN=>?_;refine aj ?_;refine W.st (bD:=[dT,nT,eg]) H 2 I I I I K0.lP (by rw[K0.mM];rfl) λdg iW H c9=>?_;refine aj ?_;refine W.st (bD:=[dT,nT,py]) H 2 I I I I uK.lP (by rw[uK.mM];rfl) λeA jf H et=>?_;have Cu:∀i o,i≠m->J.get i=some o->eA.get i=some o:=λi o hi h=>et _ _ hi (c9 _ _ hi (RQ _ _ h));have a2l:∀i o,i≠m->cm.get i=some o->eA.get i=some o:=λi o hi h=>et _ _ hi (c9 _ _ hi h);have K1:kx eA m bP L (ad.take (ad.length-1)) (az.take (ad.length-1)):=by
    have yG:∀i (h:i<(a8.take (a8.length-1)).length),(a8.take (a8.length-1))[i]=a8[i]'(by rw[fe] at h;omega):=λi h=>MH;refine⟨λi hi=>by have:=cQ.lt i hi;omega,dT,nT,py,du,a8.take (a8.length-1),H.get _ (.tail _ (.tail _ (.head _))),hl.aP λi o hi=>Cu i o (ao.l _ hi).2.1,e0,λi h h'=>(hj i h h').aP λc _ ab hg=>⟨ab,Cu _ _ (λe=>ab (e▸jH)) hg⟩,K0.aP λi o hi=>a2l i o (ao.f _ (xX▸hi)).2.1,by rw[fe,fe];omega,λi h h'=>?_,?_,⟨λ_=>⟨kZ,mN⟩,hB.2⟩,jH,?_⟩
    ·rw[yG i h,MH];exact(gT i _ _).aP λc o ab=>Cu c o (ao.s i _ c ab).2.1
    ·have:=uK.aP (τ:=eA) λi o hi=>a2l i o (ao.g _ (qo▸hi)).2;rw[<-G9,ep] at this;exact this
    ·refine⟨λo ho=>?_,λo ho=>?_,λo ho=>?_,λi h o ho=>?_,λi j h h' hG o ho k8=>?_⟩
     ·rw[xX,qo];exact ao.l o ho
     ·rw[xX] at ho;rw[qo];exact ao.f o ho
     ·rw[qo] at ho;exact ao.g o ho
     ·rw[yG i h] at ho;rw[xX,qo];exact ao.s i _ o ho
     ·rw[yG i h] at ho;rw[yG j h'] at k8;exact ao.cN i j _ _ hG o ho k8
   refine aj ?_;have a2m:e1 (λi=>¬bP i) eA x.f (.R [fa x.f.op,.s x.f.bO,.af,rb]):=a2k.aP (λi c hi h=>⟨hi,Cu _ _ (λe=>hi (e▸jH)) h⟩) _ (bs _);have c2b:e1 (λi=>¬bP i) eA y.f (.R [fa y.f.op,.s y.f.bO,.af,qF]):=a2j.aP (λi c hi h=>⟨hi,Cu _ _ (λe=>hi (e▸jH)) h⟩) _ (bs _);have c2c:eA.next=q+2:=by omega
   have Cv:∀i,bP i->i<q:=λi hi=>by have:=cQ.lt i hi;omega
   refine W.bK (c:=[fa x.f.op,.s x.f.bO,.af,rb]++[fa y.f.op,.s y.f.bO,.af,qF]) H c2c I I I λeW k6 H gk=>?_;have RF:=H.get _ (.head _);refine aj ?_;refine W.an trivial I I I (rH (op:=6) ax I I) λr fI ⟨ar,iP⟩=>⟨_,ar,?_⟩
   have H:=H.aP iP.2;have Ky:=iP.1;refine aj ?_;refine W.bK (c:=[ah first,ah du.length]) H I I I I λke sk H kN=>?_;refine aj ?_;have c2d:=H.get _ (.head _);refine W.jj (c:=[ah 0,ah 0,.b false,.i .u8 6,.s [],.af,.al (q+2) 0 2 (some 4) (some 2),.s px,.al fI.next 0 1 (some 2) (some 1)]) H I I I I I I I λhq rC H cF=>?_;have FX:∀i o,eA.get i=some o->hq.get i=some o:=λi o h=>cF _ _ (kN _ _ (iP.2 _ _ (gk _ _ h)));have gS:h_ (λi=>¬bP i) hq (some 2) (.al fI.next 0 1 (some 2) (some 1)) ([(first,L.length)].map λc=>.R [ah c.1,ah c.2]):=.al fI.next (some 1) [.R [ah first,ah L.length]] [] (λh=>by have:=Cv _ h;omega) (by rw[<-e0];exact H.get _ (.tail _ (.head _))) (λy hy=>by rw[uT.1 hy];rfl) (.inr I) aF;have c2e:=a2m.aP (τ:=hq) (λi c hi h=>⟨hi,FX _ _ h⟩) _ (bs _);have c2f:=c2b.aP (τ:=hq) (λi c hi h=>⟨hi,FX _ _ h⟩) _ (bs _);have c2g:=K1.aP (τ:=hq) ⟨U,FX⟩;have pW:(ad.take (ad.length-1)).length=ad.length-1:=by rw[fe];omega
   have FZ:L.length<2^20/\(ad.take (ad.length-1)).length<2^20/\∀l∈ad.take (ad.length-1),l.length<2^20:=⟨hL.1,U,λl hl=>hL.2.2 l (uU hl)⟩
   have fin:∀ {eW fI:ae} {gJ:Nat->Prop} {RR:ba},dN eA eW->kx fI m gJ (L++[{RR with br:=(ad.take (ad.length-1)).length-1}]) ((ad.take (ad.length-1)).set ((ad.take (ad.length-1)).length-1) ((ad.take (ad.length-1)).getD ((ad.take (ad.length-1)).length-1) []++[L.length+1])) (az.take (ad.length-1))->sL bP gJ eW fI->kx fI m gJ (L++[{RR with br:=ad.length-2}]) ((ad.take (ad.length-1)).set (ad.length-2) (ad.getD (ad.length-2) []++[L.length+1])) (az.take (ad.length-1))/\sL bP gJ J fI:=λ{eW fI gJ RR} M h cR=>by
    rw[pW] at h;have e:(ad.take (ad.length-1)).getD (ad.length-1-1) []=ad.getD (ad.length-2) []:=by
     rw[sT (by rw[pW];omega),sT U,MH];rfl
    rw[e] at h;refine⟨h,by have:=cR.next;have:=M.1;omega,λc o ab ho=>cR.aP _ _ ab (M.2 _ _ (Cu _ _ (λe=>ab (e▸jH)) ho)),λc ab=>?_⟩;rcases cR.own c ab with h|h
    ·exact .inl h
    ·right;have:=M.1;omega
   by_cases z7:y.f= .cO
   ·have dP:y.f.op=2:=by rw[z7];rfl
    refine aj ?_;refine W.bK (c:=[fa x.f.op,.s x.f.bO,.af,rb]) H I I I I λjm pV H jn=>?_;have c2h:=H.get _ (.head _);refine aj ?_;refine W.an trivial I I I (rH (op:=3) ax I I) λr lS ⟨ar,K2⟩=>⟨_,ar,?_⟩
    have H:=H.aP K2.2;have aS:=K2.1;refine aj ?_;refine W.st (bD:=[ah 0,ah 0,.b false,.i .u8 3,.s [],.af,.al hq.next 0 1 (some 4) (some 1),.s px,.al fI.next 0 1 (some 2) (some 1)]) H 1 I I I I I I λsO dX H cI=>?_;refine aj ?_;refine W.st (bD:=[ah 0,ah 0,.b false,.i .u8 3,.s [],.af,.al hq.next 0 1 (some 4) (some 1),.s wa,.al fI.next 0 1 (some 2) (some 1)]) H 1 I I I I I I λsQ ne H Cj=>?_;have a2n:∀i o,i≠ke.next->hq.get i=some o->sQ.get i=some o:=λi o hi h=>Cj _ _ hi (cI _ _ hi (K2.2 _ _ (jn _ _ h)));have RS:∀i o,eA.get i=some o->sQ.get i=some o:=λi o h=>a2n _ _ (by have:=ae.bt h;omega) (FX _ _ h);have c2i:=K1.aP (τ:=sQ) ⟨U,RS⟩;have c2j:h_ (λi=>¬bP i) sQ (some 2) (.al fI.next 0 1 (some 2) (some 1)) ([(first,L.length)].map λc=>.R [ah c.1,ah c.2]):=.al fI.next (some 1) [.R [ah first,ah L.length]] [] (λh=>by have:=Cv _ h;omega) (a2n _ _ U (by rw[<-e0];exact cF _ _ c2d)) (λy hy=>by rw[uT.1 hy];rfl) (.inr I) aF;have c2k:=a2m.aP (τ:=sQ) (λi c hi h=>⟨hi,RS _ _ h⟩) _ (bs _);have F0:kV (λi=>¬bP i) sQ (nS x.f y.f first L.length) (.R [ah 0,ah 0,.b false,.i .u8 3,.s [],.af,.al hq.next 0 1 (some 4) (some 1),.s wa,.al fI.next 0 1 (some 2) (some 1)]):=by
     unfold nS;rw[if_pos z7];refine .mk (.al hq.next 0 1 (some 4) (some 1)) _ (.mk (.neg x.f) _ [.R [fa x.f.op,.s x.f.bO,.af,rb]] I (.al hq.next (some 1) [.R [fa x.f.op,.s x.f.bO,.af,rb]] [] (λh=>by have:=Cv _ h;omega) (Cj _ _ U (cI _ _ U (K2.2 _ _ c2h))) (λy hy=>by rw[uT.1 hy];rfl) (.inr I) aF) λi h h'=>?_) c2j
     match i,h,h' with
     |0,_,_=>exact c2k
    refine aj ?_;refine W.an trivial I I I (FT ha c2i U FZ F0 (by unfold nS;rw[if_pos z7];show x.f.dep+1<=400;omega)) λr Fy ⟨ar,gJ,h1,h2⟩=>⟨_,ar,?_⟩
    refine aj ?_;exact⟨.inr I,rfl,gJ,fin ⟨U,RS⟩ h1 h2⟩
   ·have dP:y.f.op≠2:=λh=>z7 (by cases RT:y.f with
     |cO=>rfl
     | fU _=>rw[RT] at h;cases h
     |neg _=>rw[RT] at h;cases h
     |bin k _ _=>rw[RT] at h;have h:4+k.val=2:=h;omega)
    have F0:kV (λi=>¬bP i) hq (nS x.f y.f first L.length) (.R [ah 0,ah 0,.b false,.i .u8 6,.s [],.af,.al (q+2) 0 2 (some 4) (some 2),.s px,.al fI.next 0 1 (some 2) (some 1)]):=by
     unfold nS;rw[if_neg z7];refine .mk (.al (q+2) 0 2 (some 4) (some 2)) _ (.mk (.bin 2 x.f y.f) _ [.R [fa x.f.op,.s x.f.bO,.af,rb],.R [fa y.f.op,.s y.f.bO,.af,qF]] I (.al (q+2) (some 2) [.R [fa x.f.op,.s x.f.bO,.af,rb],.R [fa y.f.op,.s y.f.bO,.af,qF]] [] (λh=>by have:=Cv _ h;omega) (cF _ _ (kN _ _ (iP.2 _ _ RF))) (λy hy=>by rcases dB.1 hy with rfl|hy;rfl;rw[uT.1 hy];rfl) (.inr I) aF) λi h h'=>?_) gS
     match i,h,h' with
     |0,_,_=>exact c2e
     |1,_,_=>exact c2f
    refine aj ?_;refine W.an trivial I I I (FT ha c2g U FZ F0 (by unfold nS;rw[if_neg z7];show max x.f.dep y.f.dep+1<=400;omega)) λr jm ⟨ar,gJ,h1,h2⟩=>⟨_,ar,?_⟩
    refine aj ?_;exact⟨.inr I,rfl,gJ,fin ⟨U,FX⟩ h1 h2⟩
end
def pz(code:List Nat)(at_:Nat):Nat:=if at_<30 then code.getD at_ 0 else 0
def pA(code:List Nat)(at_:Nat):Nat:=if at_<code.length/\at_<30 then at_+1 else at_
section
variable {b:bT}{K:Nat->List AV->AV->Prop}
def c2l(hh:bk (b.aM K) vL b6U){a c at_:Nat}{code:List Nat}{cK:AV}{J:ae}(au:∀τ,iO τ none cK (code.map fa))(hl:code.length<2^62)(hb:∀x∈code,x<256)(fS:at_<=30)(ha:J.get a=some (.cells [ah at_]))(ab:J.get c=some (.cells [cK]))(eH:a≠c):
  bE (b.aM K) 0 (.f (.func vL) [] [aE a,aE c]) [] J (λr τ=>r= .ok (ah (pz code at_))/\τ.get a=some (.cells [ah (pA code at_)])/\τ.next=J.next/\∀i o,i≠a->J.get i=some o->τ.get i=some o):=by
 refine W.code hh.e hh.p hh.f I I I I λz=>?_;have H:Has J [(a,[ah at_]),(c,[cK])]:=(Has.nil.cons ab aF).cons ha (by simp;omega);have Bd:=au J;have e0:(code.map fa).length=code.length:=uV _;refine aj ?_;rw[e0];by_cases h1:at_<code.length
 ·by_cases h2:at_<30
  ·refine aj ?_;refine W.st (bD:=[ah (at_+1)]) H 0 I I I I I I λa9 c8 H bb=>?_;have Bd:=au a9;have hx:=hb _ (gC h1);refine aj ?_;have e:(code.map fa)[at_+1-1]'(by rw[e0];omega)=fa (code[at_]):=by rw[mQ];rfl
   rw[e];refine W.val (v:=ah code[at_]) (ai:=a9) I I ?_ ?_
   ·show some (bZ.val (.i .i64 (wrapN .i64 (Int.ofNat code[at_]))) a9)=_;rw[Eu U]
   refine aj ?_;refine ak.ret ⟨rfl,?_,?_,c8,bb⟩
   ·unfold pz;rw[if_pos h2,sT h1];rfl
   ·unfold pA;rw[if_pos ⟨h1,h2⟩];exact H.get _ (.head _)
  ·refine aj ?_;refine ak.ret ⟨rfl,?_,?_,rfl,λ_ _ _ h=>h⟩
   ·unfold pz;rw[if_neg h2];rfl
   ·unfold pA;rw[if_neg λh=>h2 h.2];exact ha
 ·refine aj ?_;refine ak.ret ⟨rfl,?_,?_,rfl,λ_ _ _ h=>h⟩
  ·unfold pz;have:code.getD at_ 0=0:=by rw[yT,q1 U];rfl
   rw[this,ite_self];rfl
  ·unfold pA;rw[if_neg λh=>h1 h.1];exact ha
def c2m(hh:bk (b.aM K) zB YE)(hl:bk (b.aM K) BW YF)(ha:bk (b.aM K) zC YC){m K3:Nat}{bP:Nat->Prop}{L:List ba}{ad:List (List Nat)}{az:List Nat}{J:ae}(cQ:kx J m bP L ad az)(c2n:J.get K3=some (.cells [aE m]))(c9R:¬bP K3)(bH:0<ad.length)(hL:L.length<2^20/\ad.length<2^20/\∀l∈ad,l.length<2^20){f:PF}{w:AV}(hf:e1 (λi=>¬bP i) J f (.R [fa f.op,.s f.bO,.af,w]))(hd:f.dep<=400){gy:List Nat}{l:List Nat}{v:AV}(au:fg J v l)(e0:l.length<2^20):
  bE (b.aM K) 0 (.f (.func zB) [] [aE K3]) [.R [fa f.op,.s f.bO,.af,w],.s gy,v] J (λr τ=>r= .ok (.a0 [])/\∃gJ,kx τ m gJ (L++[⟨ad.length-1,0,false,f,gy,l.map λn=>(n,n)⟩]) (ad.set (ad.length-1) (ad.getD (ad.length-1) []++[L.length+1])) az/\sL bP gJ J τ):=by
 refine W.pe hh.e hh.p hh.f I I I λz=>?_;have H:Has J [(K3,[aE m])]:=Has.nil.cons c2n aF;have Cv:=cQ.lt;have hw:w.cells=[w]/\w.val=true:=by
  cases hf with
  |mk _ w xs h1 h2 h3=>exact⟨h2.one.1,h2.one.2.1⟩
 refine aj ?_;generalize aV:J.next=q;refine W.cA (c:=[fa f.op,.s f.bO,.af,w]) H aV I I I I I λτ cP H bx=>?_;refine aj ?_;refine W.an trivial I I I (c1O (d:=0) (op:=f.op) hl hw.1 hw.2 (au.aP λi o _=>bx i o) e0) λr a9 ⟨cv,ar,mf,M2⟩=>⟨_,ar,?_⟩
 have H:=H.aP M2.2;have o_:=M2.1;refine aj ?_;refine W.jj (c:=[ah 0,ah 0,.b false,fa f.op,.s f.bO,.af,w,.s gy,cv]) H I I I I I I I λbu er H k3=>?_;have c7:∀i o,J.get i=some o->bu.get i=some o:=λi o h=>k3 _ _ (M2.2 _ _ (bx _ _ h));have uo:=cQ.aP (τ:=bu) ⟨U,c7⟩;have F0:kV (λi=>¬bP i) bu ⟨0,0,false,f,gy,l.map λn=>(n,n)⟩ (.R [ah 0,ah 0,.b false,fa f.op,.s f.bO,.af,w,.s gy,cv]):=.mk w cv (hf.aP (λi c hi h=>⟨hi,c7 _ _ h⟩) _ (bs _)) (by
  have:=mf.aP (τ:=bu) (W':=λi=>¬bP i) λi c hi h=>⟨λhm=>by have:=Cv _ hm;omega,k3 _ _ h⟩
  rw[Ax];exact this)
 refine aj ?_;refine W.an trivial I I I (FT ha uo bH hL F0 hd) λr cm ⟨ar,gJ,h1,h2⟩=>⟨_,ar,?_⟩
 refine aj ?_;exact⟨.inr I,rfl,gJ,h1,by have:=h2.next;omega,λc o ab ho=>h2.aP _ _ ab (c7 _ _ ho),λc ab=>(h2.own c ab).imp id λh=>⟨U,h.2⟩⟩
end
end
section
variable [Tok][TokOk]
open Go.RowKit Go.Lyc.T
def qw(fJ:List (Nat×List AV))(bC:List Nat):l7:=bC.flatMap λk=>fJ.map λp=>(k,p.1,p.2)
def RU{fJ:List (Nat×List AV)}{bC:List Nat}{k:Nat}{p:Nat×List AV}(h1:k∈bC)(h2:p∈fJ):(k,p.1,p.2)∈qw fJ bC:=Ay.2 ⟨k,h1,ti.2 ⟨p,h2,rfl⟩⟩
def eu.F1{env:Env}{D:List (Nat ⊕ (AV×List AV))}{n N:Nat}{cw oz:l7}{ops:List a4}{f:Nat->AV}{J:ae}{Q:dZ}(ao:∀p∈cw,p∈oz)(h:eu env D n N oz ops f J Q):eu env D n N cw ops f J Q:=λad bH=>by
 obtain⟨fC,bd,b_,ai,bV,cp,bU⟩:=h ad bH;refine⟨fC,bd,b_,ai,bV,cp,λF b2=>?_⟩;obtain⟨fj,wn,aX,cq,ew,eJ⟩:=bU F b2;exact⟨fj,wn,aX,cq,λp aw=>ew p (ao p aw),eJ⟩
structure hK(J:ae)(fJ:List (Nat×List AV)):Prop where
 get:∀p∈fJ,J.get p.1=some (.cells p.2)
def hK.nil{J:ae}:hK J []:=⟨λ_ h=>absurd h aF⟩
def hK.cons{J:ae}{fJ:List (Nat×List AV)}{k:Nat}{c:List AV}(h:hK J fJ)(ay:J.get k=some (.cells c)):hK J ((k,c)::fJ):=⟨λp aw=>by
 rcases dB.1 aw with rfl|aw
 ·exact ay
 ·exact h.get p aw⟩
def hK.aP{J τ:ae}{fJ:List (Nat×List AV)}(h:hK J fJ)(k:∀i o,J.get i=some o->τ.get i=some o):hK τ fJ:=⟨λp aw=>k _ _ (h.get p aw)⟩
def Has.b{J:ae}{fJ:List (Nat×List AV)}(h:Has J fJ):hK J fJ:=⟨h.get⟩
def Ptr(fJ:List (Nat×List AV))(aa:Option Nat)(p v:AV):Prop:=(∃o,p= .dh o v/\conf aa v=true)\/∃id off c,p= .p (some (id,off))/\(id,c)∈fJ/\dV aa (c.drop off)=some v
namespace W
section
variable {env:Env}{aR:Option Nat}{D:List (Nat ⊕ (AV×List AV))}{n N:Nat}{F:List (Nat×AV)}{z:Nat->AV}{J:ae}{Q:dZ}{fJ:List (Nat×List AV)}{bC:List Nat}
def wb(fJ:List (Nat×List AV))(bC:List Nat)(N:Nat){ops:List a4}(ek:Nat.beq ops.length N=true)(ao:swapT ops=true)(h:cg (.dw N (qw fJ bC)) env aR D n ops (bB F z) J Q):bL env aR D n (.draw ops) (bB F z) J Q:=by
 obtain rfl:=gb ek;exact ak.O8 ao (eu.F1 (oz:=qw fJ bC) (λp aw=>by simp at aw) h)
def RV(HB:hK J fJ){d:Nat}{aa:Option Nat}{x:aJ}{g:Option (Nat×Bool)}{wn:List Nat}{ops:List a4}{id off:Nat}{c:List AV}{v:AV}(hm:(id,c)∈fJ)(lK:cD (sC bC) wn=true)(hd:Nat.blt d n=true)(hw:wtL g n F=true)(h1:dn env n F z x=some (.p (some (id,off))))(h2:dV aa (c.drop off)=some v)(au:AV.eqb env.bp v v=true)
  (h:cg (.dw N (qw fJ bC)) env aR D n ops (bB ((d,v)::F) z) J Q):cg (.dw N (qw fJ bC)) env aR D n (⟨some d,.load aa x,g,wn⟩::ops) (bB F z) J Q:=
 B3 (HB.get _ hm) hd hw h1 h2 au (eu.F1 (cw:=wn.map (λq=>(q,id,c))++qw fJ bC) (λp aw=>by
  rcases tl.1 aw with aw|aw
  ·obtain⟨q,aV,rfl⟩:=ti.1 aw;exact RU (p:=(id,c)) (BB (lJ lK q aV)) hm
  ·exact aw) h)
def rI{d:Nat}{aa:Option Nat}{x:aJ}{g:Option (Nat×Bool)}{wn:List Nat}{ops:List a4}{id off:Nat}{c:List AV}{v:AV}(ao:J.get id=some (.cells c))(hm:(id,c)∈fJ)(lK:cD (sC bC) wn=true)(hd:Nat.blt d n=true)(hw:wtL g n F=true)(h1:dn env n F z x=some (.p (some (id,off))))(h2:dV aa (c.drop off)=some v)(au:AV.eqb env.bp v v=true)
  (h:cg (.dw N (qw fJ bC)) env aR D n ops (bB ((d,v)::F) z) J Q):cg (.dw N (qw fJ bC)) env aR D n (⟨some d,.load aa x,g,wn⟩::ops) (bB F z) J Q:=
 B3 ao hd hw h1 h2 au (eu.F1 (cw:=wn.map (λq=>(q,id,c))++qw fJ bC) (λp aw=>by
  rcases tl.1 aw with aw|aw
  ·obtain⟨q,aV,rfl⟩:=ti.1 aw;exact RU (p:=(id,c)) (BB (lJ lK q aV)) hm
  ·exact aw) h)
def c2o{RW:List (Nat×List AV)}(HB:hK J RW)(e8:∀x∈RW,x∈fJ){d:Nat}{aa:Option Nat}{x:aJ}{g:Option (Nat×Bool)}{wn:List Nat}{ops:List a4}{p v:AV}(aw:Ptr RW aa p v)(lK:cD (sC bC) wn=true)(k7:cD (λq=>Nat.ble N (q+ops.length)&&Nat.ble q N) wn=true)(hd:Nat.blt d n=true)(hw:wtL g n F=true)(h1:dn env n F z x=some p)(au:AV.eqb env.bp v v=true)
  (h:cg (.dw N (qw fJ bC)) env aR D n ops (bB ((d,v)::F) z) J Q):cg (.dw N (qw fJ bC)) env aR D n (⟨some d,.load aa x,g,wn⟩::ops) (bB F z) J Q:=by
 rcases aw with⟨o,rfl,ab⟩|⟨id,off,c,rfl,h3,aO⟩
 ·exact sD k7 hd hw (λs=>ou _ _ h1 (by show(if conf aa v then some v else none)=_;rw[if_pos ab])) au h
 ·exact rI (HB.get _ h3) (e8 _ h3) lK hd hw h1 aO au h
def RX(cw:l7)(N:Nat){ops:List a4}(ek:Nat.beq ops.length N=true)(ao:swapT ops=true)(h:cg (.dw N cw) env aR D n ops (bB F z) J Q):bL env aR D n (.draw ops) (bB F z) J Q:=by
 obtain rfl:=gb ek;exact ak.O8 ao (eu.F1 (oz:=cw) (λp aw=>by simp at aw) h)
def re{cw:l7}{d:Nat}{aa:Option Nat}{x:aJ}{g:Option (Nat×Bool)}{wn:List Nat}{ops:List a4}{id off:Nat}{c:List AV}{v:AV}(ao:J.get id=some (.cells c))(hm:∀q∈wn,(q,id,c)∈cw)(hd:Nat.blt d n=true)(hw:wtL g n F=true)(h1:dn env n F z x=some (.p (some (id,off))))(h2:dV aa (c.drop off)=some v)(au:AV.eqb env.bp v v=true)
  (h:cg (.dw N cw) env aR D n ops (bB ((d,v)::F) z) J Q):cg (.dw N cw) env aR D n (⟨some d,.load aa x,g,wn⟩::ops) (bB F z) J Q:=
 B3 ao hd hw h1 h2 au (eu.F1 (cw:=wn.map (λq=>(q,id,c))++cw) (λp aw=>by
  rcases tl.1 aw with aw|aw
  ·obtain⟨q,aV,rfl⟩:=ti.1 aw;exact hm q aV
  ·exact aw) h)
def K4{cw oz:l7}(k:Nat){ops:List a4}(ay:Nat.beq (k+ops.length) N=true)(hh:∀p∈cw,(p.1=k/\J.get p.2.1=some (.cells p.2.2))\/p∈oz)(h:cg (.dw N oz) env aR D n ops (bB F z) J Q):cg (.dw N cw) env aR D n ops (bB F z) J Q:=λad bH=>by
 obtain⟨fC,bd,b_,ai,bV,cp,bU⟩:=h ad bH;refine⟨fC,bd,b_,ai,bV,cp,λF b2=>?_⟩;obtain⟨fj,wn,⟨t,aX,bc⟩,cq,ew,eJ⟩:=bU F b2;refine⟨fj,wn,⟨t,aX,bc⟩,cq,λp aw=>?_,eJ⟩;rcases hh p aw with⟨e,h⟩|h
 ·exact⟨0,J,by rw[e,gb ay];rfl,by rw[aX];rfl,h⟩
 ·exact ew p h
def RY(HB:hK J fJ){ck:l9}{d:Nat}{aa:Option Nat}{x:aJ}{g:Option (Nat×Bool)}{ops:List a4}{p v:AV}(aw:Ptr fJ aa p v)(hd:Nat.blt d n=true)(hw:wtL g n F=true)(h1:dn env n F z x=some p)(h:cg ck env aR D n ops (bB ((d,v)::F) z) J Q):cg ck env aR D n (⟨some d,.load aa x,g,[]⟩::ops) (bB F z) J Q:=by
 rcases aw with⟨o,rfl,ab⟩|⟨id,off,c,rfl,h3,aO⟩
 ·exact IN hd hw h1 ab h
 ·exact ur (HB.get _ h3) hd hw h1 aO h
def mO{k:Nat}{ops:List a4}(HB:hK J fJ)(ay:Nat.beq (k+ops.length) N=true)(h:cg (.dw N (qw fJ bC)) env aR D n ops (bB F z) J Q):cg (.dw N (qw fJ (k::bC))) env aR D n ops (bB F z) J Q:=λad bH=>by
 obtain⟨fC,bd,b_,ai,bV,cp,bU⟩:=h ad bH;refine⟨fC,bd,b_,ai,bV,cp,λF b2=>?_⟩;obtain⟨fj,wn,⟨t,aX,bc⟩,cq,ew,eJ⟩:=bU F b2;refine⟨fj,wn,⟨t,aX,bc⟩,cq,λp aw=>?_,eJ⟩;obtain⟨dF,HF,aw⟩:=Ay.1 aw;obtain⟨q,aV,rfl⟩:=ti.1 aw;rcases dB.1 HF with rfl|HF
 ·exact⟨0,J,gb ay,by rw[aX];rfl,HB.get _ aV⟩
 ·exact ew _ (RU HF aV)
end
end W
def fO{P ag:Prop}(k:ag)(h:Hid ag->P:=by
 intro k
 repeat (first
  |refine W.go I I I I ?_
  |refine W.off I I ?_
  |(refine W.I7 ?_;first|refine W.lt I I I I ?_|refine W.lt I I I Kf ?_|(refine W.aA (c:=?_) (v:=?_) H I I I ?_ ?_ ?_;rotate_left 2;(repeat (first|exact .head _|refine .tail _ ?_));exact rfl)|refine W.le I I I (mc.aA (by assumption) (by omega)) ?_|refine W.le I I I (iO.aA (by assumption) (by omega)) ?_)
  |(refine W.I8 ?_;first|refine W.EC I I I I (by simp only[W.cmpP,CZ,lg];first|done|omega|exact id|exact λh=>h trivial) ?_|refine W.fD I I I I I (by simp only[W.cmpP,CZ,lg];first|done|omega|exact id|exact λh=>h trivial) ?_|refine W.bin I I I I (Kg (by omega)) ?_|refine W.bin I I I I (Kh (by omega) (by omega)) ?_|refine W.bin I I I I (sz (by omega)) ?_|refine W.bin I I I I (sA (by omega) (by omega)) ?_)
  |(refine W.I9 ?_;first|refine W.eR I I I I (B4 (by omega)) ?_|refine W.eR I I I I (zj (by omega)) ?_|refine W.eR I I I I (mc.eR (by assumption) (by omega)) ?_|refine W.eR I I I I (iO.eR (by assumption) (by omega)) ?_)
  |(refine W.I_ ?_;first|refine W.len I I I Kd ?_|refine W.len I I I IQ ?_|refine W.len I I I (mc.len (by assumption) _) ?_|refine W.len I I I (iO.len (by assumption) _) ?_|refine W.len I I I I ?_)
  |(refine W.O_ ?_;first|(refine W.RV (c:=?_) (v:=?_) HB ?_ I I I I ?_ ?_ ?_;rotate_left 2;(repeat (first|exact .head _|refine .tail _ ?_));exact rfl;first|exact ev rfl|exact Jb I))
  |refine W.EB ?_)
 exact k.out):P:=h ⟨k⟩
def eT{P ag:Prop}(k:ag)(h:Hid ag->P:=by
 intro k
 repeat (first
  |refine W.go I I I I ?_
  |refine W.off I I ?_
  |(refine W.I7 ?_;first|refine W.lt I I I I ?_|refine W.lt I I I Kf ?_|(refine W.aA (c:=?_) (v:=?_) H I I I ?_ ?_ ?_;rotate_left 2;(repeat (first|exact .head _|refine .tail _ ?_));exact rfl)|refine W.le I I I (mc.aA (by assumption) (by omega)) ?_|refine W.le I I I (iO.aA (by assumption) (by omega)) ?_)
  |(refine W.I8 ?_;first|refine W.EC I I I I (by simp only[W.cmpP,CZ,lg];first|done|omega|exact id|exact λh=>h trivial) ?_|refine W.fD I I I I I (by simp only[W.cmpP,CZ,lg];first|done|omega|exact id|exact λh=>h trivial) ?_|refine W.bin I I I I (Kg (by omega)) ?_|refine W.bin I I I I (Kh (by omega) (by omega)) ?_|refine W.bin I I I I (sz (by omega)) ?_|refine W.bin I I I I (sA (by omega) (by omega)) ?_)
  |(refine W.I9 ?_;first|refine W.eR I I I I (B4 (by omega)) ?_|refine W.eR I I I I (zj (by omega)) ?_|refine W.eR I I I I (mc.eR (by assumption) (by omega)) ?_|refine W.eR I I I I (iO.eR (by assumption) (by omega)) ?_)
  |(refine W.I_ ?_;first|refine W.len I I I Kd ?_|refine W.len I I I IQ ?_|refine W.len I I I (mc.len (by assumption) _) ?_|refine W.len I I I (iO.len (by assumption) _) ?_|refine W.len I I I I ?_)
  |refine W.sq ?_|refine W.rg ?_|refine W.EA ?_|refine ak.block (a:=.seq _ _) ?_|refine ak.block (a:=.region _) ?_|refine ak.block (a:=.draw _) ?_|refine ak.block (a:=.cond _ _ _) ?_
  |refine W.nil ?_
  |refine W.lL I ?_|refine W.lM I ?_)
 exact k.out):P:=h ⟨k⟩
end
section
variable [Tok][TokOk]
open Go.RowKit Go.Lyc.T
attribute [local irreducible] cg bL dC eu bE
def qx:PF:=.fU false
def s0:PF:=.fU true
def K5:List PF:=[qx,s0,.bin 2 qx s0,.bin 1 qx s0,.neg qx,.bin 0 qx s0,.cO,.bin 2 s0 qx]
def fm(n:Nat):PF:=K5.getD (n%8) .cO
abbrev kg:List AV:=[.i .u8 1,.s [80],.af,.af]
abbrev lU:List AV:=[.i .u8 1,.s [81],.af,.af]
section
variable {b:bT}{K:Nat->List AV->AV->Prop}
def K6(hh:bk (b.aM K) EW YD)(ax:bk (b.aM K) vM YH)(ha:bk (b.aM K) BV YO)(n:Nat)(hn:n<2^62){J:ae}:
  bE (b.aM K) 0 (.f (.func EW) [] []) [ah n] J (λr τ=>∃w,r= .ok (.R [.i .u8 (Int.ofNat (fm n).op),.s (fm n).bO,.af,w])/\e1 (λi=>J.next<=i) τ (fm n) (.R [.i .u8 (Int.ofNat (fm n).op),.s (fm n).bO,.af,w])/\dN J τ):=by
 have pv:zo (b.aM K) vM:=(show tW (b.aM K) [vM] from λg hg=>by rw[uT.1 hg];exact⟨ax.e,.inr ⟨ax.p,_,_,ax.f,rfl,rfl⟩⟩).one I;refine W.nO hh.e hh.p hh.f I I I λz=>?_;have H:Has J []:=Has.nil;refine aj ?_;generalize aV:J.next=q;refine W.cC (c:=[.i .u8 0,.s [],.af,.af]) H aV I I I λτ cP H bx=>?_;refine aj ?_;refine W.an trivial I I I (a1Y ha) λr a9 ⟨ar,M2⟩=>⟨_,ar,?_⟩
 have H:=H.aP M2.2;have o_:=M2.1;refine aj ?_;refine W.an trivial I I I (a1Y ha) λr bu ⟨ar,ee⟩=>⟨_,ar,?_⟩
 have H:=H.aP ee.2;have q9:=ee.1;generalize RN:bu.next=pr at *;refine W.cC (c:=[.i .u8 0,.s [],.af,.af]) H RN I I I λcm e_ H b1=>?_;refine aj ?_;refine W.cC (c:=[.i .u8 0,.s [],.af,.af]) H e_ I I I λdg iW H c9=>?_;refine W.st (bD:=kg) H 1 I I I I I I λeA jf H et=>?_;refine W.st (bD:=lU) H 0 I I I I I I λeW k6 H gk=>?_;have c2p:∀i o,J.get i=some o->eW.get i=some o:=λi o h=>gk _ _ (by have:=ae.bt h;omega) (et _ _ (by have:=ae.bt h;omega) (c9 _ _ (b1 _ _ (ee.2 _ _ (M2.2 _ _ (bx _ _ h))))));refine W.nil ?_;refine W.sq ?_;have iK:eW.next=pr+2:=by omega
 have c2q:=H.get (pr,kg) aF;have c2r:=H.get (pr+1,lU) aF;have HB:hK eW [(pr,kg),(pr+1,lU)]:=(hK.nil.cons c2r).cons c2q;refine W.wb [(pr,kg),(pr+1,lU)] [18,19,20,21,22,23,27] 28 I I ?_;refine fO ?_;refine W.bK (c:=kg++lU) H I I I I λfI vq H pt=>?_;have HB:=HB.aP pt;refine fO ?_;refine W.bK (c:=kg++lU) H I I I I λke sk H kN=>?_;have HB:=HB.aP kN;refine fO ?_;refine W.bK (c:=kg) H I I I I λhq rC H cF=>?_;have HB:=HB.aP cF;refine fO ?_;refine W.bK (c:=kg++lU) H I I I I λjm pV H jn=>?_;have HB:=HB.aP jn;refine fO ?_;refine W.bK (c:=lU++kg) H I I I I λlS tD H oa=>?_;have HB:=HB.aP oa;refine fO ?_;refine W.bin I I I I (vB (c:=8) bw) ?_;refine W.mO HB I ?_;refine W.an pv I I I (rH (op:=6) ax I I) λr sO ⟨ar,l9⟩=>⟨_,ar,?_⟩
 have H:=H.aP l9.2;have HB:=HB.aP l9.2;have ck:=l9.1;refine W.mO HB I ?_;refine W.an pv I I I (rH (op:=5) ax I I) λr sQ ⟨ar,K7⟩=>⟨_,ar,?_⟩
 have H:=H.aP K7.2;have HB:=HB.aP K7.2;have c9S:=K7.1;refine W.mO HB I ?_;refine W.an pv I I I (rH (op:=3) ax I I) λr Fy ⟨ar,K8⟩=>⟨_,ar,?_⟩
 have H:=H.aP K8.2;have HB:=HB.aP K8.2;have c9T:=K8.1;refine W.mO HB I ?_;refine W.an pv I I I (rH (op:=4) ax I I) λr QO ⟨ar,K9⟩=>⟨_,ar,?_⟩
 have H:=H.aP K9.2;have HB:=HB.aP K9.2;have c9U:=K9.1;refine W.mO HB I ?_;refine W.an pv I I I (rH (op:=2) ax I I) λr c9V ⟨ar,K_⟩=>⟨_,ar,?_⟩
 have H:=H.aP K_.2;have HB:=HB.aP K_.2;have c9W:=K_.1;refine W.mO HB I ?_;refine W.an pv I I I (rH (op:=6) ax I I) λr a2o ⟨ar,La⟩=>⟨_,ar,?_⟩
 have H:=H.aP La.2;have HB:=HB.aP La.2;have gx:=La.1
 let xs:List AV:=[.R kg,.R lU,.R [.i .u8 6,.s [],.af,.al eW.next 0 2 (some 4) (some 2)],.R [.i .u8 5,.s [],.af,.al fI.next 0 2 (some 4) (some 2)],.R [.i .u8 3,.s [],.af,.al ke.next 0 1 (some 4) (some 1)],.R [.i .u8 4,.s [],.af,.al hq.next 0 2 (some 4) (some 2)],.R [.i .u8 2,.s [],.af,.af],.R [.i .u8 6,.s [],.af,.al jm.next 0 2 (some 4) (some 2)]]
 refine W.bK (c:=xs.flatMap AV.cells) H I I I I λCw c9X H a2p=>?_;have HB:=HB.aP a2p;have dG:Sl Cw (some 4) (.al a2o.next 0 8 (some 4) (some 8)) xs:=.al a2o.next (some 8) xs [] (by rw[iL];exact H.get _ (.head _)) (λy hy=>by
  simp only[xs,dB,NQ,or_false] at hy;rcases hy with rfl|rfl|rfl|rfl|rfl|rfl|rfl|rfl<;>rfl) (.inr I)
 have z8:n%8<8:=FL _ bw;obtain⟨o,k2,pX,fS,kT,jx,mH,iq⟩:=dG.fU (j:=n%8) (by show n%8<8;exact z8);refine W.eR I I I I kT ?_;refine W.ur jx I I I iq ?_;refine W.mO HB I ?_;have hR:∃w,xs[n%8]'(by show n%8<8;exact z8)= .R [.i .u8 (Int.ofNat (fm n).op),.s (fm n).bO,.af,w]/\∀jq:ae,(∀i o,q<i->Cw.get i=some o->jq.get i=some o)->e1 (λi=>q<=i) jq (fm n) (.R [.i .u8 (Int.ofNat (fm n).op),.s (fm n).bO,.af,w]):=by
  have hH:=H.get (eW.next,kg++lU) aF;have gM:=H.get (fI.next,kg++lU) aF;have sP:=H.get (ke.next,kg) aF;have c2s:=H.get (hq.next,kg++lU) aF;have c2t:=H.get (jm.next,lU++kg) aF;have Cx:∀jq:ae,e1 (λi=>q<=i) jq qx (.R kg):=λjq=>.mk qx .af [] I .nil λi h=>by simp at h
  have F2:∀jq:ae,e1 (λi=>q<=i) jq s0 (.R lU):=λjq=>.mk s0 .af [] I .nil λi h=>by simp at h
  have two:∀(a c:PF) (Cy Cz:List AV),(∀y,y=AV.R Cy\/y=AV.R Cz->conf (some 4) y=true)->∀(k:Fin 3) (id:Nat),q<id->Cw.get id=some (.cells (Cy++Cz))->(∀jq,e1 (λi=>q<=i) jq a (.R Cy))->(∀jq,e1 (λi=>q<=i) jq c (.R Cz))->∀jq:ae,(∀i o,q<i->Cw.get i=some o->jq.get i=some o)->e1 (λi=>q<=i) jq (.bin k a c) (.R [.i .u8 (Int.ofNat (PF.bin k a c).op),.s (PF.bin k a c).bO,.af,.al id 0 2 (some 4) (some 2)]):=λa c Cy Cz ab k id h1 h2 h3 aO jq ay=>
   .mk (.bin k a c) _ [.R Cy,.R Cz] I (.al id (some 2) [.R Cy,.R Cz] [] (show q<=id by omega) (ay _ _ h1 (by rw[h2];simp[AV.cells])) (λy hy=>ab y (by simpa using hy)) (.inr I) aF) λi h h'=>by
    match i,h with
    |0,_=>exact h3 jq
    |1,_=>exact aO jq
  have RZ:∀y,y=AV.R kg\/y=AV.R lU->conf (some 4) y=true:=λy hy=>by rcases hy with rfl|rfl<;>rfl
  have c2u:∀y,y=AV.R lU\/y=AV.R kg->conf (some 4) y=true:=λy hy=>by rcases hy with rfl|rfl<;>rfl
  unfold fm;generalize n%8=j at z8
  match j,z8 with
  |0,_=>exact⟨_,rfl,λjq _=>Cx jq⟩
  |1,_=>exact⟨_,rfl,λjq _=>F2 jq⟩
  |2,_=>exact⟨_,rfl,two qx s0 kg lU RZ 2 _ U hH Cx F2⟩
  |3,_=>exact⟨_,rfl,two qx s0 kg lU RZ 1 _ U gM Cx F2⟩
  |4,_=>exact⟨_,rfl,λjq ay=>.mk (.neg qx) _ [.R kg] I (.al _ (some 1) [.R kg] [] (show q<=ke.next by omega) (ay _ _ U sP) (λy hy=>by rw[uT.1 hy];rfl) (.inr I) aF) λi h h'=>by
    match i,h with
    |0,_=>exact Cx jq⟩
  |5,_=>exact⟨_,rfl,two qx s0 kg lU RZ 0 _ U c2s Cx F2⟩
  |6,_=>exact⟨_,rfl,λjq _=>.mk .cO .af [] I .nil λi h=>by simp at h⟩
  |7,_=>exact⟨_,rfl,two s0 qx lU kg c2u 2 _ U c2t F2 Cx⟩
 obtain⟨w,hw,b2⟩:=hR;rw[hw];have c2v:=H.get (q,[.i .u8 0,.s [],.af,.af]) aF;have c2w:Has Cw [(q,[.i .u8 0,.s [],.af,.af])]:=Has.nil.cons c2v aF;have F3:=b2 Cw λ_ _ _ h=>h;have o5:w.cells=[w]/\w.val=true:=by
  cases F3 with
  |mk _ w xs h1 h2 h3=>exact⟨h2.one.1,h2.one.2.1⟩
 refine W.st (bD:=[.i .u8 (Int.ofNat (fm n).op),.s (fm n).bO,.af,w]) c2w 0 I I I I I I λjq c9Y H c7=>?_;refine aj ?_;refine ak.ret ⟨rfl,_,vU (gI I (H.get _ (.head _)) (v:=.R [.i .u8 (Int.ofNat (fm n).op),.s (fm n).bO,.af,w]) ?_),w,rfl,b2 jq λi o hi h=>c7 _ _ U h,U,λi o h=>?_⟩
 ·rfl
 ·have hi:=ae.bt h;exact c7 _ _ U (a2p _ _ (La.2 _ _ (K_.2 _ _ (K9.2 _ _ (K8.2 _ _ (K7.2 _ _ (l9.2 _ _ (oa _ _ (jn _ _ (cF _ _ (kN _ _ (pt _ _ (c2p _ _ h)))))))))))))
end
end
section
variable [Tok][TokOk]
open Go.RowKit Go.Lyc.T
def F4:List Nat:=[97,110,100,73]
def F5:List Nat:=[111,114,73,49]
def g4(q:Bool):List Nat:=[97,110,100,69,cond q 50 49]
def xY:List Nat:=[105,109,112,69]
def xZ:List Nat:=[110,111,116,69]
def a2q:List Nat:=[97,103,97,105,110]
def F6:List Nat:=[102,97,108,115,101,69]
def nU(L:List ba)(a:Nat)(f:PF):Prop:=∃x,L[a-1]? =some x/\x.f=f
inductive oM(L:List ba)(C:Nat->Prop):PF->List Nat->List Nat->Prop
 |and {a c f g}:C a->C c->nU L a f->nU L c g->f.b0+g.b0<40->oM L C (.bin 0 f g) F4 [a,c]
 |or {a f} (n):C a->nU L a f->f.b0<40->oM L C (.bin 1 f (fm n)) F5 [a]
 |g4 {a f g} (q:Bool):C a->nU L a (.bin 0 f g)->oM L C (cond q g f) (g4 q) [a]
 |imp {a c f g}:C a->C c->nU L a (.bin 2 f g)->nU L c f->oM L C g xY [a,c]
 |not {a c f}:C a->C c->nU L a f->nU L c (.neg f)->oM L C .cO xZ [a,c]
 |again {a f}:C a->nU L a f->oM L C f a2q [a]
 |z9 {a} (n):C a->nU L a .cO->oM L C (fm n) F6 [a]
def wc(n:Nat):ba:=⟨0,0,true,fm n,[],[]⟩
inductive qy(L:List ba):List (List Nat)->List Nat->ba->List (List Nat)->List Nat->Prop
 |wc (f:List Nat) (n:Nat):(∀x∈L,x.hyp=true/\x.br=0)->qy L [f] [0] (wc n) [f++[L.length+1]] [0]
 |CA (ad:List (List Nat)) (az:List Nat) (n:Nat):L≠[]->ad.length<5->qy L ad az ⟨ad.length,1,true,fm n,[],[]⟩ (ad++[[L.length+1]]) (az++[L.length+1])
 |ps (F:List (List Nat)) (f:List Nat) (az:List Nat) {g:PF} {gy l:List Nat}:L≠[]->oM L (λc=>∃k∈F++[f],c∈k) g gy l->qy L (F++[f]) az ⟨F.length,0,false,g,gy,l.map λn=>(n,n)⟩ (F++[f++[L.length+1]]) az
 |shut (F:List (List Nat)) (e f:List Nat) (az:List Nat) (first:Nat) {x y:ba}:L[first-1]? =some x->L[L.length-1]? =some y->qy L (F++[e,f]) (az++[first]) {nS x.f y.f first L.length with br:=F.length} (F++[e++[L.length+1]]) az
inductive Rd:List ba->List (List Nat)->List Nat->Prop
 |nil:Rd [] [[]] [0]
 |step {L ad az x bd fW}:Rd L ad az->qy L ad az x bd fW->Rd (L++[x]) bd fW
def c2x(n:Nat):fm n∈K5:=by
 unfold fm;have h:n%8<K5.length:=FL _ bw;rw[yT,fw h];exact gC h
def x0(n:Nat):(fm n).dep<=2/\(fm n).b0<=3:=by
 have h:∀f∈K5,f.dep<=2/\f.b0<=3:=by decide
 exact h _ (c2x n)
structure x1(L:List ba)(ad:List (List Nat))(az:List Nat):Prop where
 len:az.length=ad.length
 ne:0<ad.length
 le:ad.length<=5
 mem:∀f∈ad,∀c∈f,1<=c/\c<=L.length
 sum:(ad.map List.length).sum<=L.length
 last:L≠[]->(∃F f,ad=F++[f]/\L.length∈f)/\∀y,L[L.length-1]? =some y->y.br=ad.length-1
 F7:L≠[]->∀f∈ad,f≠[]
 dep:∀x∈L,x.f.dep<=2+L.length
 b0:∀x∈L,x.f.b0<=44+4*L.length
 fst:∀k first,1<=k->az[k]? =some first->1<=first/\∃n,L[first-1]? =some ⟨k,1,true,fm n,[],[]⟩
def a2r{α:Type}{L:List α}{x y:α}{i:Nat}(h:L[i]? =some y):(L++[x])[i]? =some y:=by
 obtain⟨h1,h2⟩:=jK.1 h;rw[E7 h1];exact h
def a2s{α:Type}{L:List α}{x:α}:(L++[x])[L.length+1-1]? =some x:=by simp
def nU.mem{L:List ba}{a:Nat}{f:PF}(h:nU L a f):∃x∈L,x.f=f:=by
 obtain⟨x,h1,h2⟩:=h;exact⟨x,fL h1,h2⟩
def oM.le{L:List ba}{C:Nat->Prop}{g:PF}{gy l:List Nat}(h:oM L C g gy l)(hd:∀x∈L,x.f.dep<=2+L.length)(ao:∀x∈L,x.f.b0<=44+4*L.length):g.dep<=3+L.length/\g.b0<=44+4*L.length:=by
 have b2:∀ {a f},nU L a f->f.dep<=2+L.length/\f.b0<=44+4*L.length:=λh=>by
  obtain⟨x,h1,rfl⟩:=h.mem;exact⟨hd x h1,ao x h1⟩
 cases h with
 |and _ _ h1 h2 h3=>
  have:=b2 h1;have:=b2 h2;exact⟨by show max _ _+1<=_;omega,by show _+_+1<=_;omega⟩
 |or n _ h1 h3=>
  have:=b2 h1;have:=x0 n;exact⟨by show max _ _+1<=_;omega,by show _+_+1<=_;omega⟩
 |g4 q _ h1=>
  have h:=b2 h1;have h2:max _ _+1<=_:=h.1;have h3:_+_+1<=_:=h.2;cases q
  ·exact⟨by show PF.dep _<=_;simp only[cond_false];omega,by simp only[cond_false];omega⟩
  ·exact⟨by simp only[cond_true];omega,by simp only[cond_true];omega⟩
 |imp _ _ h1 _=>
  have h:=b2 h1;have h2:max _ _+1<=_:=h.1;have h3:_+_+1<=_:=h.2;exact⟨U,U⟩
 |not=>exact⟨by show 1<=_;omega,by show 1<=_;omega⟩
 |again _ h1=>have:=b2 h1;exact⟨U,U⟩
 |z9 n _ _=>have:=x0 n;exact⟨U,U⟩
def CB(a c:PF)(first last k:Nat):({nS a c first last with br:=k}:ba)=cond (decide (c= .cO)) ⟨k,0,false,.neg a,wa,[(first,last)]⟩ ⟨k,0,false,.bin 2 a c,px,[(first,last)]⟩:=by
 unfold nS;by_cases h:c= .cO
 ·rw[if_pos h,decide_eq_true h];rfl
 ·rw[if_neg h,decide_eq_false h];rfl
def qy.inv{L:List ba}{ad bd:List (List Nat)}{az fW:List Nat}{x:ba}(aW:x1 L ad az)(h:qy L ad az x bd fW):x1 (L++[x]) bd fW:=by
 have hlen:(L++[x]).length=L.length+1:=by simp
 have Lb:∀k first,1<=k->az[k]? =some first->1<=first/\∃n,(L++[x])[first-1]? =some ⟨k,1,true,fm n,[],[]⟩:=λk first h1 h2=>by
  obtain⟨aX,n,bc⟩:=aW.fst k first h1 h2
  exact⟨aX,n,a2r bc⟩
 have hall:∀(P:ba->Prop),(∀y∈L,P y)->P x->∀y∈L++[x],P y:=λP h1 h2 y hy=>by
  rcases tl.1 hy with h|h
  ·exact h1 y h
  ·rw[uT.1 h];exact h2
 have hd:x.f.dep<=3+L.length->∀y∈L++[x],y.f.dep<=2+(L++[x]).length:=λh=>hall _ (λy hy=>by have:=aW.dep y hy;omega) U;have ao:x.f.b0<=48+4*L.length->∀y∈L++[x],y.f.b0<=44+4*(L++[x]).length:=λh=>hall _ (λy hy=>by have:=aW.b0 y hy;omega) U;have uL:∀(F:List (List Nat)) (f:List Nat),x.br=F.length->L++[x]≠[]->(∃a2t b_,F++[f++[L.length+1]]=a2t++[b_]/\(L++[x]).length∈b_)/\∀y,(L++[x])[(L++[x]).length-1]? =some y->y.br=(F++[f++[L.length+1]]).length-1:=λF f hx _=>⟨⟨F,_,rfl,by rw[hlen];simp⟩,λy hy=>by
  rw[hlen,a2s] at hy;cases hy;rw[hx];simp⟩
 have ly:∀(G:List (List Nat)) (f:List Nat),(∀k∈G,k∈ad)->(f=[]\/f∈ad)->∀k∈G++[f++[L.length+1]],∀c∈k,1<=c/\c<=(L++[x]).length:=λG f h1 h2 k ay c ab=>by
  rcases tl.1 ay with ay|ay
  ·have:=aW.mem k (h1 k ay) c ab;omega
  ·rw[uT.1 ay] at ab;rcases tl.1 ab with ab|ab
   ·rcases h2 with rfl|h2
    ·simp at ab
    ·have:=aW.mem f h2 c ab;omega
   ·rw[uT.1 ab];omega
 have CC:=aW.sum;cases h with
 |wc f n h=>
  have aw:=x0 n;exact⟨rfl,aF,aF,ly [] f (λk ay=>by simp at ay) (.inr aF),by simp at CC ⊢;omega,uL [] f I,λ_=>by simp,hd (by show(fm n).dep<=_;omega),ao (by show(fm n).b0<=_;omega),Lb⟩
 |CA _ _ n a7 bI=>
  have aw:=x0 n;refine⟨by simp[aW.len],aF,by simp;omega,ly ad [] (λ_ h=>h) (.inl I),by simp at CC ⊢;omega,uL ad [] I,λ_ k ay=>by
   rcases tl.1 ay with ay|ay
   ·exact aW.F7 a7 k ay
   ·rw[uT.1 ay];simp,hd (by show(fm n).dep<=_;omega),ao (by show(fm n).b0<=_;omega),λk first h1 h2=>?_⟩
  by_cases ay:k<az.length
  ·rw[E7 ay] at h2;exact Lb k first h1 h2
  ·rw[a0s U] at h2;have e:k-az.length=0:=by
    rcases z4 (k-az.length) with h|h
    ·exact h
    ·rw[q1 (by simp;omega)] at h2;cases h2
   rw[e] at h2;cases h2;have a5:k=ad.length:=by have:=aW.len;omega
   exact⟨U,n,by rw[a2s,a5]⟩
 |ps F f _ a7 ab=>
  obtain⟨h1,h2⟩:=ab.le aW.dep aW.b0;exact⟨by have:=aW.len;simpa using this,aF,by have:=aW.le;simpa using this,ly F f (λk ay=>by simp[ay]) (.inr aF),by simp at CC ⊢;omega,uL F f I,λ_ k ay=>by
   rcases tl.1 ay with ay|ay
   ·exact aW.F7 a7 k (by simp[ay])
   ·rw[uT.1 ay];simp,hd h1,ao (by show PF.b0 _<=_;exact qH h2 U),Lb⟩
 |shut F e f az first hx hy=>
  rename_i de ey;have hl:=aW.len;simp only[dv,CZ,lg] at hl;obtain⟨f1,n,f2⟩:=aW.fst fW.length first U aF
  rw[hx] at f2;cases f2;have aw:=x0 n;have c9Z:=aW.dep _ (fL hy);have LM:=aW.b0 _ (fL hy);have a2u:({nS (fm n) ey.f first L.length with br:=F.length}:ba).f.dep<=3+L.length/\({nS (fm n) ey.f first L.length with br:=F.length}:ba).f.b0<=48+4*L.length:=by
   rw[CB];cases decide (ey.f= .cO)
   ·exact⟨by show max _ _+1<=_;omega,by show _+_+1<=_;omega⟩
   ·exact⟨by show _+1<=_;omega,by show _+1<=_;omega⟩
  refine⟨by simp;omega,aF,by have:=aW.le;simp at this ⊢;omega,ly F e (λk ay=>by simp[ay]) (.inr aF),by simp at CC ⊢;omega,uL F e I,λ_ k ay=>by
   rcases tl.1 ay with ay|ay
   ·exact aW.F7 (λe=>by subst e;simp at hx) k (by simp[ay])
   ·rw[uT.1 ay];simp,hd a2u.1,ao a2u.2,λk CD h1 h2=>Lb k CD h1 ?_⟩
  exact a2r h2
def Rd.inv{L:List ba}{ad:List (List Nat)}{az:List Nat}(h:Rd L ad az):x1 L ad az:=by
 induction h with
 |nil=>exact⟨rfl,aF,aF,λf hf c ab=>by simp at hf;subst hf;simp at ab,aF,λh=>absurd I h,λh=>absurd I h,λx hx=>by simp at hx,λx hx=>by simp at hx,λk first h1 h2=>by
   rw[q1 (by simp;omega)] at h2;cases h2⟩
 |step _ h aH=>exact h.inv aH
end
section
variable [Tok][TokOk]
open Go.RowKit Go.Lyc.T
attribute [local irreducible] cg bL dC eu bE
def h_.z_{W W':Nat->Prop}{J τ:ae}(k:∀i c,W i->2<=c.length->J.get i=some (.cells c)->W' i/\τ.get i=some (.cells c)){n:Nat}{v:AV}{xs:List AV}(h:h_ W J (some n) v xs)(hn:2<=n):h_ W' τ (some n) v xs:=by
 cases h with
 |nil=>exact .nil
 |a_ xs ab a7=>exact .a_ xs ab a7
 |al o cap xs rest hW h ab ay a7=>
  have h2:2<=(xs.flatMap AV.cells++rest).length:=by
   cases xs with
   |nil=>exact absurd I a7
   |cons y bf=>
    have:=ab y aF;cases y with
    |R l=>
     have:l.length=n:=gb this;rw[jY,dv,dv];show 2<=l.length+_+_;omega
    |_=>cases this
  exact .al o cap xs rest (k _ _ hW h2 h).1 (k _ _ hW h2 h).2 ab ay a7
def e1.z_{W W':Nat->Prop}{J τ:ae}(k:∀i c,W i->2<=c.length->J.get i=some (.cells c)->W' i/\τ.get i=some (.cells c)):∀(d:Nat) {a:PF} {v:AV},a.dep<=d->e1 W J a v->e1 W' τ a v
 |0,a,v,hd,_=>by cases a<;>simp[PF.dep] at hd
 |d+1,a,v,hd,h=>by
  cases h with
  |mk _ w xs hl hw hx=>
   refine .mk a w xs hl ?_ λi h h'=>e1.z_ k d (by have:=PF.lk (gC h');omega) (hx i h h');exact h_.z_ k hw bw
def kV.z_{W W':Nat->Prop}{J τ:ae}{x:ba}{v:AV}(h:kV W J x v)(k:∀i c,W i->2<=c.length->J.get i=some (.cells c)->W' i/\τ.get i=some (.cells c)):kV W' τ x v:=by
 cases h with
 |mk w cv hf ab=>exact .mk w cv (hf.z_ k _ (bs _)) (h_.z_ k ab bw)
def kx.c2y{J τ:ae}{m a:Nat}{y:AV}{bP:Nat->Prop}{L:List ba}{ad:List (List Nat)}{az:List Nat}(h:kx J m bP L ad az)(ha:J.get a=some (.cells [y]))(c2z:¬bP a)(hn:τ.next=J.next)(k:∀i o,i≠a->J.get i=some o->τ.get i=some o):kx τ m bP L ad az:=by
 obtain⟨dT,d_,eg,du,a8,hm,hl,e0,hj,hf,ep,l2,hg,hB,jH,ao⟩:=h.ex;have x2:∀i o,bP i->J.get i=some o->τ.get i=some o:=λi o hi=>k i o λe=>c2z (e▸hi);exact⟨λi hi=>by have:=h.lt i hi;omega,dT,d_,eg,du,a8,x2 _ _ jH hm,hl.aP λi o hi=>x2 i o (ao.l _ hi).1,e0,λi a b=>(hj i a b).z_ λi c hi h2 ab=>⟨hi,k _ _ (λe=>by subst e;rw[ha] at ab;cases ab;simp at h2) ab⟩,hf.aP λi o hi=>x2 i o (ao.f _ hi).1,ep,λi a b=>(l2 i a b).aP λj o ax=>x2 j o (ao.s i a _ ax).1,hg.aP λi o hi=>x2 i o (ao.g _ hi).1,hB,jH,ao⟩
structure ky(J:ae)(q:Nat)(cK:AV)(at_:Nat)(bP:Nat->Prop)(L:List ba)(ad:List (List Nat))(az:List Nat)(τ:ae):Prop where
 ms:kx τ (q+3) bP L ad az
 qz:∀i,bP i->q<=i/\i≠q/\i≠q+4/\i≠q+5
 c:τ.get q=some (.cells [cK])
 m:τ.get (q+4)=some (.cells [aE (q+3)])
 a:τ.get (q+5)=some (.cells [ah at_])
 old:∀i o,i<q->J.get i=some o->τ.get i=some o
section
variable {J τ aB:ae}{q at_:Nat}{cK:AV}{bP gJ:Nat->Prop}{L kW:List ba}{ad bd:List (List Nat)}{az fW:List Nat}
def ky.hM(h:ky J q cK at_ bP L ad az τ)(M:dN τ aB):ky J q cK at_ bP L ad az aB:=⟨h.ms.aP M,h.qz,M.2 _ _ h.c,M.2 _ _ h.m,M.2 _ _ h.a,λi o hi ho=>M.2 _ _ (h.old i o hi ho)⟩
def ky.F8(h:ky J q cK at_ bP L ad az τ)(h2:kx aB (q+3) gJ kW bd fW)(S:sL bP gJ τ aB):ky J q cK at_ gJ kW bd fW aB where
 ms:=h2
 qz i hi:=by
  rcases S.own i hi with h'|h'
  ·exact h.qz i h'
  ·have:=ae.bt h.a;omega
 c:=S.aP _ _ (λh'=>(h.qz _ h').2.1 I) h.c
 m:=S.aP _ _ (λh'=>(h.qz _ h').2.2.1 I) h.m
 a:=S.aP _ _ (λh'=>(h.qz _ h').2.2.2 I) h.a
 old i o hi ho:=S.aP _ _ (λh'=>by have:=(h.qz _ h').1;omega) (h.old i o hi ho)
variable {b:bT}{K:Nat->List AV->AV->Prop}
def ky.next(hh:bk (b.aM K) vL b6U){code:List Nat}(au:∀τ,iO τ none cK (code.map fa))(hl:code.length<2^62)(hb:∀x∈code,x<256)(fS:at_<=30)(h:ky J q cK at_ bP L ad az τ):
  bE (b.aM K) 0 (.f (.func vL) [] [aE (q+5),aE q]) [] τ (λr aB=>r= .ok (ah (pz code at_))/\ky J q cK (pA code at_) bP L ad az aB/\aB.next=τ.next/\∀i o,i≠q+5->τ.get i=some o->aB.get i=some o):=
 (c2l hh au hl hb fS h.a h.c U).mono λr aB ⟨e,bU,bV,cp⟩=>⟨e,⟨h.ms.c2y h.a (λh'=>(h.qz _ h').2.2.2 I) bV cp,h.qz,cp _ _ U h.c,cp _ _ U h.m,bU,λi o hi ho=>cp _ _ U (h.old i o hi ho)⟩,bV,cp⟩
end
def a2v{code:List Nat}(hb:∀x∈code,x<256)(n:Nat):pz code n<256:=by
 unfold pz;split
 ·rw[yT];cases h:code[n]? with
  |none=>decide
  |some x=>exact hb x (fL h)
 ·decide
def Lc{code:List Nat}{n:Nat}(h:n<=30):pA code n<=30:=by unfold pA;split<;>omega
def Sl.aD{J:ae}{aa:Option Nat}{v:AV}{xs:List AV}(h:Sl J aa v xs)(a7:0<xs.length):∃o c,v.at? =some o/\J.get o=some (.cells c)/\∀j (ax:j<xs.length),idxSlA aa v j=some (.p (some (o,j*shN aa)))/\(∃r,c.drop (j*shN aa)=(xs[j]).cells++r)/\dV aa (c.drop (j*shN aa))=some xs[j]:=by
 obtain⟨o,c,r,h1,h2,h3,aO,bI⟩:=h.fU a7;refine⟨o,c,h1,h3,λj ax=>?_⟩;obtain⟨bX,bD,b5,bU,bV,cp,cX,dm⟩:=h.fU ax;rw[h1] at bU;cases bU;rw[h3] at cp;cases cp;exact⟨bV,⟨b5,cX⟩,dm⟩
structure kX(b:bT)(K:Nat->List AV->AV->Prop):Prop where
 sf:bk (b.aM K) vL b6U
 ci:bk (b.aM K) zB YE
 li:bk (b.aM K) BW YF
 we:bk (b.aM K) zC YC
 aa:bk (b.aM K) EV YI
 wg:bk (b.aM K) EW YD
 pB:bk (b.aM K) vM YH
 at_:bk (b.aM K) BV YO
 fn:∀g aQ r b5,K g aQ r->K g aQ b5->r=b5
 es:b.ext ua=0/\b.pure ua=true
 Ld:b.ext ub=0/\b.pure ub=true
 size:∀a:PF,a.dep<=100->a.b0<2^20->K ua [a.aG.A true] (ah a.b0)
 same:∀a c:PF,a.dep<=100->c.dep<=100->K ub [a.aG.A true,c.aG.A true] (.b (decide (a=c)))
def kX.q{b:bT}{K:Nat->List AV->AV->Prop}(h:kX b K):tW (b.aM K) [vL,zB,BW,zC,EW,vM,BV]:=λg hg=>by
 simp only[dB,NQ,or_false] at hg;rcases hg with rfl|rfl|rfl|rfl|rfl|rfl|rfl
 ·exact⟨h.sf.e,.inr ⟨h.sf.p,_,_,h.sf.f,rfl,rfl⟩⟩
 ·exact⟨h.ci.e,.inr ⟨h.ci.p,_,_,h.ci.f,rfl,rfl⟩⟩
 ·exact⟨h.li.e,.inr ⟨h.li.p,_,_,h.li.f,rfl,rfl⟩⟩
 ·exact⟨h.we.e,.inr ⟨h.we.p,_,_,h.we.f,rfl,rfl⟩⟩
 ·exact⟨h.wg.e,.inr ⟨h.wg.p,_,_,h.wg.f,rfl,rfl⟩⟩
 ·exact⟨h.pB.e,.inr ⟨h.pB.p,_,_,h.pB.f,rfl,rfl⟩⟩
 ·exact⟨h.at_.e,.inr ⟨h.at_.p,_,_,h.at_.f,rfl,rfl⟩⟩
def hN:List Nat->bF->bF
 |[],c=>c
 |i::l,.seq a c=>cond (Nat.beq i 0) (hN l a) (hN l c)
 |i::l,.cond _ a c=>cond (Nat.beq i 0) (hN l a) (hN l c)
 |_::l,.block _ a=>hN l a
 |_::l,.loop a=>hN l a
 |_,c=>c
def nm:bF:=match Yw.body with|some c=>c|none=>.skip
abbrev ia(q:Nat):List (Nat×AV):=[(5,.f (.func vL) [] [aE (q+5),aE q]),(4,aE (q+5)),(3,aE (q+4)),(1,aE q)]
def Out(J:ae)(q:Nat)(cK:AV)(at_ B:Nat)(τ:ae):Prop:=∃bP L ad az,ky J q cK at_ bP L ad az τ/\Rd L ad az/\L≠[]/\L.length+ad.length<=B
section
variable {J τ:ae}{q at_:Nat}{cK:AV}{bP:Nat->Prop}{L:List ba}{ad:List (List Nat)}{az:List Nat}{b:bT}{K:Nat->List AV->AV->Prop}
def a2w{l:List (List Nat)}{x:List Nat}(h:x∈l):x.length<=(l.map List.length).sum:=by
 induction l with
 |nil=>simp at h
 |cons y l aH=>
  rw[uW,List.sum_cons];rcases dB.1 h with rfl|h
  ·omega
  ·have:=aH h;omega
def x1.small(h:x1 L ad az)(ca:L.length+ad.length<=40):L.length<2^20/\ad.length<2^20/\∀l∈ad,l.length<2^20:=⟨U,U,λl hl=>by have:=a2w hl;have:=h.sum;omega⟩
def Aa(cc:kX b K)(h:ky J q cK at_ bP L ad az τ)(hR:Rd L ad az)(a7:L≠[])(ca:L.length+ad.length<=40){f:PF}{w:AV}(b2:e1 (λi=>¬bP i) τ f (.R [fa f.op,.s f.bO,.af,w])){gy l:List Nat}{v:AV}(Cn:oM L (λc=>∃k∈ad,c∈k) f gy l)(au:fg τ v l)(e0:l.length<2^20):
  bE (b.aM K) 0 (.f (.func zB) [] [aE (q+4)]) [.R [fa f.op,.s f.bO,.af,w],.s gy,v] τ (λr aB=>r= .ok (.a0 [])/\Out J q cK at_ (L.length+ad.length+1) aB):=by
 have aW:=hR.inv;have hle:=Cn.le aW.dep aW.b0;obtain⟨F,k,rfl⟩:∃F k,ad=F++[k]:=by
  rcases uE ad with h|⟨F,k,h⟩
  ·have:=aW.ne;rw[h] at this;simp at this
  ·exact⟨F,k,by rw[h,a1N]⟩
 refine(c2m cc.ci cc.li cc.we h.ms h.m (λh'=>(h.qz _ h').2.2.1 I) aW.ne (aW.small ca) b2 U au e0).mono λr aB ⟨e,gJ,h1,h2⟩=>⟨e,gJ,_,_,_,h.F8 h1 h2,?_,aF,?_⟩
 ·have hl:(F++[k]).length-1=F.length:=by simp
  have hg:(F++[k]).getD F.length []=k:=by rw[yT];simp
  have ao:(F++[k]).set F.length (k++[L.length+1])=F++[k++[L.length+1]]:=by simp
  rw[hl,hg,ao];exact .step hR (.ps F k az a7 Cn)
 ·simp only[dv,CZ,lg,ib];omega
def a2x(cc:kX b K)(h:ky J q cK at_ bP L ad az τ)(hR:Rd L ad az)(a7:L≠[])(ca:L.length+ad.length<=40)(h2:2<=ad.length):
  bE (b.aM K) 0 (.f (.func EV) [] []) [aE (q+3)] τ (λr aB=>r= .ok (.a0 [])/\∃gJ kW bd fW,ky J q cK at_ gJ kW bd fW aB/\Rd kW bd fW/\kW≠[]/\kW.length+bd.length=L.length+ad.length/\bd.length+1=ad.length):=by
 have aW:=hR.inv;have hlen:=aW.len;obtain⟨⟨fC,Dq,kL,_⟩,uL⟩:=aW.last a7;have R0:0<L.length:=pM.2 a7;obtain⟨y,hy⟩:∃y,L[L.length-1]? =some y:=⟨L[L.length-1]'U,fw _⟩
 obtain⟨first,hf⟩:∃first,az[ad.length-1]? =some first:=⟨az[ad.length-1]'U,fw _⟩
 obtain⟨f1,n,hx⟩:=aW.fst _ _ U hf;have jB:=(jK.1 hx).1;have aw:=x0 n;have KX:=aW.dep y (fL hy);refine(c1U cc.aa cc.pB cc.we h.ms h2 (aW.small ca) hlen hf ⟨f1,U⟩ hx hy (uL y hy) ⟨by show(fm n).dep<=300;omega,U⟩).mono λr aB ⟨e,gJ,bU,bV⟩=>⟨e,gJ,_,_,_,h.F8 bU bV,?_,aF,?_,?_⟩
 ·obtain⟨F,c4,k,rfl⟩:∃F e k,ad=F++[e,k]:=by
   subst kL;rcases uE fC with h|⟨F,k,h⟩
   ·rw[h] at h2;simp at h2
   ·exact⟨F,k,Dq,by rw[h,a1N,iE];rfl⟩
  obtain⟨G,fst,rfl⟩:∃G x,az=G++[x]:=by
   rcases uE az with h|⟨F,k,h⟩
   ·rw[h] at hlen;simp at hlen
   ·exact⟨F,k,by rw[h,a1N]⟩
  simp only[dv,CZ,lg] at hlen;have a2y:G.length=F.length+1:=by omega
  have el:(F++[c4,k]).length=F.length+2:=by simp
  rw[el,show F.length+2-1=F.length+1 from rfl,show F.length+2-2=F.length from rfl];rw[el,show F.length+2-1=F.length+1 from rfl,← a2y] at hf;have DB:fst=first:=by simpa using hf
  rw[el,show F.length+2-1=F.length+1 from rfl] at hx;subst DB;have aL:(F++[c4,k]).take (F.length+1)=F++[c4]:=by rw[show F++[c4,k]=(F++[c4])++[k] by simp,show F.length+1=(F++[c4]).length by simp,List.take_left]
  have a5:(F++[c4,k]).getD F.length []=c4:=by rw[yT];simp
  have cy:(G++[fst]).take (F.length+1)=G:=by rw[<-a2y];simp
  have iB:(F++[c4]).set F.length (c4++[L.length+1])=F++[c4++[L.length+1]]:=by simp
  rw[aL,a5,cy,iB];exact .step hR (.shut F c4 k G fst hx hy)
 ·simp only[dv,CZ,lg,ib,fe];omega
 ·simp only[ib,fe];omega
end
abbrev fD(f:PF)(w:AV):List AV:=[fa f.op,.s f.bO,.af,w]
structure jI(J:ae)(q:Nat)(cK:AV)(at_:Nat)(bP:Nat->Prop)(L:List ba)(ad:List (List Nat))(az:List Nat)(τ:ae)(a c:Nat)(f g:PF)(ea eX:Nat)(gq hr:AV):Prop where
 gx:ky J q cK at_ bP L ad az τ
 rd:Rd L ad az
 ne:L≠[]
 B:L.length+ad.length<=36
 ha:∃k∈ad,a∈k
 ab:∃k∈ad,c∈k
 e6:nU L a f
 bN:nU L c g
 qA:τ.get ea=some (.cells (fD f gq))
 x3:τ.get eX=some (.cells (fD g hr))
 f12:e1 (λi=>¬bP i) τ f (.R (fD f gq))
 f13:e1 (λi=>¬bP i) τ g (.R (fD g hr))
 k:q+5<ea/\q+5<eX/\ea≠eX
def e1.BC{W:Nat->Prop}{J:ae}{f:PF}{l:List AV}(h:e1 W J f (.R l)):conf (some 4) (.R l)=true:=by cases h;rfl
def e1.two{W:Nat->Prop}{τ:ae}{f g:PF}{l m:List AV}{id:Nat}(k:Fin 3)(hW:W id)(hg:τ.get id=some (.cells (l++m)))(hf:e1 W τ f (.R l))(uK:e1 W τ g (.R m)):e1 W τ (.bin k f g) (.R (fD (.bin k f g) (.al id 0 2 (some 4) (some 2)))):=
 .mk (.bin k f g) _ [.R l,.R m] I (.al id (some 2) [.R l,.R m] [] hW (by rw[hg];show _=some (AO.cells (l++(m++[])++[]));rw[iL,iL]) (λy hy=>by
  simp only[dB,NQ,or_false] at hy;rcases hy with rfl|rfl
  ·exact hf.BC
  ·exact uK.BC) (.inr I) aF) λi h h'=>by
  match i,h with
  |0,_=>exact hf
  |1,_=>exact uK
def fg.one{τ:ae}{id a:Nat}(h:τ.get id=some (.cells [ah a])):fg τ (.al id 0 1 none (some 1)) [a]:=.al id (some 1) [ah a] [] h (λy hy=>by rw[uT.1 hy];rfl) (.inr I)
def fg.two{τ:ae}{id a c:Nat}(h:τ.get id=some (.cells [ah a,ah c])):fg τ (.al id 0 2 none (some 2)) [a,c]:=.al id (some 2) [ah a,ah c] [] h (λy hy=>by
 simp only[dB,NQ,or_false] at hy;rcases hy with rfl|rfl<;>rfl) (.inr I)
abbrev pC(q n a c ea eX:Nat)(can:AV):List (Nat×AV):=[(94,ah (n%10)),(14,.f (.func zB) [] [aE (q+4)]),(13,aE eX),(12,aE ea),(11,ah c),(10,ah a),(7,can),(6,ah n),(5,.f (.func vL) [] [aE (q+5),aE q]),(4,aE (q+5)),(3,aE (q+4)),(1,aE q)]
abbrev uM:List Nat:=[1,1,1,1,1,0,0,0,1,0,1,1,1,1,1,1,1,0]
section
variable {J τ:ae}{q at_:Nat}{cK:AV}{bP:Nat->Prop}{L:List ba}{ad:List (List Nat)}{az:List Nat}{b:bT}{K:Nat->List AV->AV->Prop}{a c ea eX:Nat}{f g:PF}{gq hr:AV}
def jI.hM{aB:ae}(h:jI J q cK at_ bP L ad az τ a c f g ea eX gq hr)(M:dN τ aB):jI J q cK at_ bP L ad az aB a c f g ea eX gq hr:=
 {h with gx:=h.gx.hM M,qA:=M.2 _ _ h.qA,x3:=M.2 _ _ h.x3,f12:=h.f12.aP (λi c hi ab=>⟨hi,M.2 _ _ ab⟩) _ (bs _),f13:=h.f13.aP (λi c hi ab=>⟨hi,M.2 _ _ ab⟩) _ (bs _)}
def jI.dep(h:jI J q cK at_ bP L ad az τ a c f g ea eX gq hr):f.dep<=40/\g.dep<=40/\f.b0<2^10/\g.b0<2^10:=by
 obtain⟨x,h1,rfl⟩:=h.e6.mem;obtain⟨y,h2,rfl⟩:=h.bN.mem;have ca:=h.B;have:=h.rd.inv.ne;have:=h.rd.inv.dep x h1;have:=h.rd.inv.b0 x h1;have:=h.rd.inv.dep y h2;have:=h.rd.inv.b0 y h2;omega
def jI.snap(h:jI J q cK at_ bP L ad az τ a c f g ea eX gq hr):mapO (bM τ (b.bp+1000)) [.R (fD f gq)]=some [f.aG.A true]/\mapO (bM τ (b.bp+1000)) [.R (fD g hr)]=some [g.aG.A true]:=by
 have:=h.dep;rw[mapO_cons,mapO_cons,h.f12.snap _ (bs _) U,h.f13.snap _ (bs _) U];exact⟨rfl,rfl⟩
def Out.le{B eL:Nat}(h:Out J q cK at_ B τ)(hb:B<=eL):Out J q cK at_ eL τ:=by
 obtain⟨bP,L,ad,az,h1,h2,h3,aO⟩:=h;exact⟨bP,L,ad,az,h1,h2,h3,U⟩
def jI.out(h:jI J q cK at_ bP L ad az τ a c f g ea eX gq hr):Out J q cK at_ (L.length+ad.length) τ:=⟨_,_,_,_,h.gx,h.rd,h.ne,bs _⟩
def c2A(cc:kX b K)(h:jI J q cK at_ bP L ad az τ a c f g ea eX gq hr){n:Nat}{can:AV}{z:Nat->AV}{Q:dZ}(b6:∀F aB,sat (ia q) F->Out J q cK at_ (L.length+ad.length+2) aB->Q .normal F aB):
  bL (b.aM K) none [] Yw.ntmps (hN (uM++[1,1,1,0]) nm) (bB (pC q n a c ea eX can) z) τ Q:=by
 have hd:=h.dep;have lR:=h.snap (b:=b);have H:Has τ [(ea,fD f gq),(eX,fD g hr)]:=(Has.nil.cons h.x3 aF).cons h.qA (by simpa using h.k.2.2.symm);have HB:hK τ [(eX,fD g hr)]:=hK.nil.cons h.x3;refine W.sq ?_;refine W.wb [(eX,fD g hr)] [3] 6 I I ?_;refine fO ?_;refine W.RV HB (.head _) I I I I I (h.f13.eqb _ (bs _) (by show _<=b.bp+1000;omega)) ?_;refine W.e3 cc.fn cc.es (cc.size f U U) I I I lR.1 ?_;refine W.mO HB I ?_;refine W.e3 cc.fn cc.es (cc.size g U U) I I I lR.2 ?_;refine fO ?_;by_cases AL:f.b0+g.b0<40
 ·refine fO ?_;refine aj ?_;refine W.bK (c:=fD f gq++fD g hr) H I I I I λa9 c8 H bb=>?_;have h2:=h.hM (aB:=a9) ⟨U,bb⟩;refine W.an trivial I I I (rH (op:=4) cc.pB I I) λr bu ⟨ar,ee⟩=>⟨_,ar,?_⟩
  have h3:=h2.hM ee;have H:=H.aP ee.2;refine aj ?_;refine W.bK (c:=[ah a,ah c]) H I I I I λcm e_ H b1=>?_;have aO:=h3.hM (aB:=cm) ⟨U,b1⟩;refine aj ?_;refine W.an trivial I I I (Aa cc aO.gx aO.rd aO.ne (by have:=h.B;omega) (e1.two 0 (λhm=>by have:=h.gx.ms.lt _ hm;omega) (H.get _ (.tail _ (.head _))) aO.f12 aO.f13) (.and h.ha h.ab h.e6 h.bN AL) (.two (H.get _ (.head _))) aF) λr dg ⟨ar,bI⟩=>⟨_,ar,?_⟩
  refine aj ?_;exact b6 _ _ dp (bI.le U)
 ·refine fO ?_;refine aj ?_;exact b6 _ _ dp (h.out.le U)
end
def h_.ptr{W:Nat->Prop}{J:ae}{aa:Option Nat}{v:AV}{xs:List AV}(h:h_ W J aa v xs):∃fJ,hK J fJ/\∀j (ax:j<xs.length),∃p,idxSlA aa v j=some p/\Ptr fJ aa p xs[j]:=by
 cases h with
 |nil=>exact⟨[],.nil,λj ax=>by simp at ax⟩
 |a_ xs ab a7=>exact⟨[],.nil,λj ax=>⟨.dh false xs[j],by
   cases xs with
   |nil=>simp at ax
   |cons x l=>exact Ew (o:=false) (l:=x::l) ax,.inl ⟨false,rfl,ab _ (gC ax)⟩⟩⟩
 |al o cap xs rest hW h ab ay a7=>
  have ao:Sl J aa (.al o 0 xs.length aa cap) xs:=.al o cap xs rest h ab ay;refine⟨[(o,xs.flatMap AV.cells++rest)],hK.nil.cons h,λj ax=>?_⟩;obtain⟨bX,c,r,h1,h2,h3,aO,bI⟩:=ao.fU ax;cases h1;rw[h] at h3;cases h3;exact⟨_,h2,.inr ⟨o,_,_,rfl,.head _,bI⟩⟩
def PF.a2z{f:PF}{k:Nat}(h:f.op=4+k)(ay:k<3):∃a c,f= .bin ⟨k,ay⟩ a c:=by
 cases f with
 |bin dF a c=>exact⟨a,c,by congr 1;exact Fin.ext (by have:4+dF.val=4+k:=h;show dF.val=k;omega)⟩
 | fU q=>have:1=4+k:=h;omega
 |cO=>have:2=4+k:=h;omega
 |neg a=>have:3=4+k:=h;omega
def PF.c2B{f:PF}(h:f.op=3):∃a,f= .neg a:=by
 cases f with
 |bin dF a c=>have:4+dF.val=3:=h;omega
 | fU q=>cases h
 |cO=>cases h
 |neg a=>exact⟨a,rfl⟩
def PF.c2C{f:PF}(h:f.op=2):f= .cO:=by
 cases f with
 |bin dF a c=>have:4+dF.val=2:=h;omega
 | fU q=>cases h
 |cO=>rfl
 |neg a=>cases h
section
variable {J τ:ae}{q at_:Nat}{cK:AV}{bP:Nat->Prop}{L:List ba}{ad:List (List Nat)}{az:List Nat}{b:bT}{K:Nat->List AV->AV->Prop}{a c ea eX:Nat}{f g:PF}{gq hr:AV}
def jI.num(h:jI J q cK at_ bP L ad az τ a c f g ea eX gq hr):1<=a/\a<=36/\1<=c/\c<=36:=by
 obtain⟨k,h1,h2⟩:=h.ha;obtain⟨dF,h3,aO⟩:=h.ab;have bI:=h.rd.inv.mem k h1 a h2;have cx:=h.rd.inv.mem dF h3 c aO;have:=h.B;omega
def jI.fresh{aB:ae}{i0:Nat}{x:PF}{v:AV}(h:jI J q cK at_ bP L ad az τ a c f g ea eX gq hr)(h0:τ.next<=i0)(hx:e1 (λi=>i0<=i) aB x v):e1 (λi=>¬bP i) aB x v:=hx.aP (λi c hi ab=>⟨λhm=>by have:=h.gx.ms.lt _ hm;omega,ab⟩) _ (bs _)
def c2D(cc:kX b K)(h:jI J q cK at_ bP L ad az τ a c f g ea eX gq hr){n:Nat}{can:AV}{z:Nat->AV}{Q:dZ}(b6:∀F aB,sat (ia q) F->Out J q cK at_ (L.length+ad.length+2) aB->Q .normal F aB):
  bL (b.aM K) none [] Yw.ntmps (hN (uM++[1,1,1,1,1,0]) nm) (bB (pC q n a c ea eX can) z) τ Q:=by
 have hd:=h.dep;have hn:=h.num;have lR:=h.snap (b:=b);have H:Has τ [(ea,fD f gq)]:=Has.nil.cons h.qA aF;have HB:hK τ [(ea,fD f gq)]:=hK.nil.cons h.qA;refine aj ?_;refine W.e3 cc.fn cc.es (cc.size f U U) I I I lR.1 ?_;by_cases AL:f.b0<40
 ·refine e5 ?_;refine W.nil ?_;refine W.lL I ?_;refine W.wb [(ea,fD f gq)] [5,7] 9 I I ?_;refine fO ?_;refine W.RV HB (.head _) I I I I I (h.f12.eqb _ (bs _) (by show _<=b.bp+1000;omega)) ?_;refine fO ?_;refine W.bK (c:=[ah a]) H I I I I λa9 c8 H bb=>?_;have h2:=h.hM (aB:=a9) ⟨U,bb⟩;refine W.mO (HB.aP bb) I ?_;refine W.an (cc.q.one I) I I I (K6 cc.wg cc.pB cc.at_ c U) λr bu ⟨wp,ar,aw,ee⟩=>⟨_,ar,?_⟩
  have h3:=h2.hM ee;have H:=H.aP ee.2;have q9:=ee.1;have aw:=h2.fresh (bs _) aw;refine fO ?_;refine W.bK (c:=fD f gq++fD (fm c) wp) H I I I I λcm e_ H b1=>?_;have aO:=h3.hM (aB:=cm) ⟨U,b1⟩;have F9:=(HB.aP bb).aP λi o h=>b1 _ _ (ee.2 _ _ h);refine W.mO F9 I ?_;refine W.an (cc.q.one I) I I I (rH (op:=5) cc.pB I I) λr dg ⟨ar,jl⟩=>⟨_,ar,?_⟩
  have bI:=aO.hM jl;have H:=H.aP jl.2;have zS:=jl.1;refine W.an (cc.q.one I) I I I (Aa cc bI.gx bI.rd bI.ne (by have:=h.B;omega) (e1.two 1 (λhm=>by have:=h.gx.ms.lt _ hm;omega) (H.get _ (.head _)) bI.f12 (aw.aP (λi c hi ab=>⟨hi,jl.2 _ _ (b1 _ _ ab)⟩) _ (bs _))) (.or c h.ha h.e6 AL) (.one (H.get _ (.tail _ (.head _)))) aF) λr eA ⟨ar,cx⟩=>⟨_,ar,?_⟩
  refine aj ?_;exact b6 _ _ dp (cx.le U)
 ·refine aj ?_;exact b6 _ _ dp (h.out.le U)
def c2E(cc:kX b K)(h:jI J q cK at_ bP L ad az τ a c f g ea eX gq hr){n:Nat}{can:AV}{z:Nat->AV}{Q:dZ}(b6:∀F aB,sat (ia q) F->Out J q cK at_ (L.length+ad.length+2) aB->Q .normal F aB):
  bL (b.aM K) none [] Yw.ntmps (hN (uM++[1,1,1,1,1,1,1,1,1,1,1,1,1,0]) nm) (bB (pC q n a c ea eX can) z) τ Q:=by
 have H:Has τ [(ea,fD f gq)]:=Has.nil.cons h.qA aF;refine aj ?_;refine W.bK (c:=[ah a]) H I I I I λa9 c8 H bb=>?_;have h2:=h.hM (aB:=a9) ⟨U,bb⟩;refine W.an trivial I I I (Aa cc h2.gx h2.rd h2.ne (by have:=h.B;omega) h2.f12 (.again h.ha h.e6) (.one (H.get _ (.head _))) aF) λr eA ⟨ar,cx⟩=>⟨_,ar,?_⟩
 refine aj ?_;exact b6 _ _ dp (cx.le U)
def c2F(cc:kX b K)(h:jI J q cK at_ bP L ad az τ a c f g ea eX gq hr){n:Nat}{can:AV}{z:Nat->AV}{Q:dZ}(b6:∀F aB,sat (ia q) F->Out J q cK at_ (L.length+ad.length+2) aB->Q .normal F aB):
  bL (b.aM K) none [] Yw.ntmps (hN (uM++[1,1,1,1,1,1,1,1,1,1,1,1,1,1,1,0]) nm) (bB (pC q n a c ea eX can) z) τ Q:=by
 have hn:=h.num;have H:Has τ [(ea,fD f gq)]:=Has.nil.cons h.qA aF;have pT:=f.pw;by_cases h2:f.op=2
 ·obtain rfl:=PF.c2C h2;refine aj ?_;refine W.an trivial I I I (K6 cc.wg cc.pB cc.at_ c U) λr bu ⟨wp,ar,aw,ee⟩=>⟨_,ar,?_⟩
  have h3:=h.hM ee;have H:=H.aP ee.2;have aw:=h.fresh (bs _) aw;refine aj ?_;refine W.bK (c:=[ah a]) H I I I I λcm e_ H b1=>?_;have aO:=h3.hM (aB:=cm) ⟨U,b1⟩;refine W.an trivial I I I (Aa cc aO.gx aO.rd aO.ne (by have:=h.B;omega) (aw.aP (λi c hi ab=>⟨hi,b1 _ _ ab⟩) _ (bs _)) (.z9 c h.ha h.e6) (.one (H.get _ (.head _))) aF) λr eA ⟨ar,cx⟩=>⟨_,ar,?_⟩
  refine aj ?_;exact b6 _ _ dp (cx.le U)
 ·refine aj ?_;exact b6 _ _ dp (h.out.le U)
def a2A(cc:kX b K)(h:jI J q cK at_ bP L ad az τ a c f g ea eX gq hr){n:Nat}{can:AV}{z:Nat->AV}{Q:dZ}(b6:∀F aB,sat (ia q) F->Out J q cK at_ (L.length+ad.length+2) aB->Q .normal F aB):
  bL (b.aM K) none [] Yw.ntmps (hN (uM++[1,1,1,1,1,1,1,1,1,1,1,0]) nm) (bB (pC q n a c ea eX can) z) τ Q:=by
 obtain⟨dT,d_,eg,du,a8,hm,hl,e0,hj,hf,ep,gT,hg,hB,jH,ao⟩:=h.gx.ms.ex;have H:Has τ [(q+4,[aE (q+3)]),(q+3,[dT,d_,eg])]:=(Has.nil.cons hm aF).cons h.gx.m aF;have kH:=hf.vw;have ca:=h.B;by_cases h2:2<=ad.length
 ·refine aj ?_;refine W.an trivial I I I (a2x cc h.gx h.rd h.ne U h2) λr eA ⟨ar,gJ,kW,bd,fW,aX,bc,cq,ew,eJ⟩=>⟨_,ar,?_⟩
  refine aj ?_;exact b6 _ _ dp ⟨_,_,_,_,aX,bc,cq,U⟩
 ·refine aj ?_;exact b6 _ _ dp (h.out.le U)
end
section
variable {J τ:ae}{q at_:Nat}{cK:AV}{bP:Nat->Prop}{L:List ba}{ad:List (List Nat)}{az:List Nat}{b:bT}{K:Nat->List AV->AV->Prop}{a c ea eX:Nat}{f g:PF}{gq hr:AV}
def e1.parts{W:Nat->Prop}{f:PF}{w:AV}(h:e1 W τ f (.R (fD f w))):conf none w=true/\(∀n,2*f.dep+2<=n->AV.eqb n w w=true)/\∃(fJ:List (Nat×List AV)) (xs:List AV),hK τ fJ/\xs.length=f.subs.length/\∀j (ax:j<f.subs.length) (hx:j<xs.length),∃p CE,idxSlA (some 4) w j=some p/\Ptr fJ (some 4) p xs[j]/\xs[j]= .R (fD f.subs[j] CE)/\e1 W τ f.subs[j] (.R (fD f.subs[j] CE)):=by
 cases h with
 |mk _ w xs hl hw hx=>
  obtain⟨fJ,ca,aw⟩:=hw.ptr;refine⟨hw.one.2.2,λn hn=>?_,fJ,xs,ca,hl,λj ax fA=>?_⟩
  ·obtain⟨n,rfl⟩:∃m,n=m+1:=⟨n-1,U⟩
   refine hw.eqb λy hy=>?_;obtain⟨i,hi,rfl⟩:=tj hy;exact(hx i hi U).eqb _ (bs _) (by have:=PF.lk (gC (show i<f.subs.length by omega));omega)
  ·obtain⟨p,h1,h2⟩:=aw j fA;have h3:=hx j fA ax;generalize d0a:xs[j]=DE at h2 h3;cases h3 with
   |mk _ CE bf aX bc cq=>exact⟨p,CE,h1,h2,rfl,.mk _ CE bf aX bc cq⟩
def c2G(cc:kX b K)(h:jI J q cK at_ bP L ad az τ a c f g ea eX gq hr){n:Nat}{can:AV}{z:Nat->AV}{Q:dZ}(b6:∀F aB,sat (ia q) F->Out J q cK at_ (L.length+ad.length+2) aB->Q .normal F aB):
  bL (b.aM K) none [] Yw.ntmps (hN (uM++[1,1,1,1,1,1,1,0]) nm) (bB (pC q n a c ea eX can) z) τ Q:=by
 have hd:=h.dep;have hn:=h.num;have pT:=f.pw;have H:Has τ [(ea,fD f gq)]:=Has.nil.cons h.qA aF;by_cases aO:f.op=4
 ·obtain⟨f1,f2,rfl⟩:=PF.a2z (k:=0) aO bw;obtain⟨a2B,R1,Le,xs,Ab,jB,dG⟩:=h.f12.parts;obtain⟨wh,wi⟩:∃wh:Bool,c%2=cond wh 1 0:=by
   rcases T7 c with e|e
   ·exact⟨false,e⟩
   ·exact⟨true,e⟩
  have ax:c%2<2:=FL _ bw;obtain⟨p,CE,kT,a2C,mz,F3⟩:=dG (c%2) ax (by rw[jB];exact ax);have e8:(PF.bin ⟨0,bw⟩ f1 f2).subs[c%2]'ax=cond wh f2 f1:=by
   show[f1,f2][c%2]'ax=_;simp only[wi];cases wh<;>rfl
  rw[e8] at F3 mz;rw[mz] at a2C;have d0b:(cond wh f2 f1).dep<=40:=by
   have:max f1.dep f2.dep+1<=40:=hd.1;cases wh
   ·show f1.dep<=40;omega
   ·show f2.dep<=40;omega
  refine eT ?_;refine W.wb ((τ.next,[.s (g4 false),.s (g4 true)])::(ea,fD (PF.bin ⟨0,bw⟩ f1 f2) gq)::Le) [14] 15 I I ?_;refine e5 ?_;refine W.rI h.qA (.tail _ (.head _)) I I I I I (R1 _ (by show _<=b.bp+1000;omega)) ?_;refine e5 ?_;refine W.bin I I I I (vB (c:=2) bw) ?_;refine W.eR I I I I kT ?_;refine W.c2o Ab (λx hx=>.tail _ (.tail _ hx)) a2C I I I I I (F3.eqb _ (bs _) (by show _<=b.bp+1000;omega)) ?_;refine W.bK (c:=[.s (g4 false),.s (g4 true)]) H I I I I λa9 c8 H bb=>?_;have h2:=h.hM (aB:=a9) ⟨U,bb⟩;have Fb:Sl a9 none (.al τ.next 0 2 none (some 2)) [.s (g4 false),.s (g4 true)]:=.al τ.next (some 2) [.s (g4 false),.s (g4 true)] [] (H.get _ (.head _)) (λy hy=>by
   simp only[dB,NQ,or_false] at hy;rcases hy with rfl|rfl<;>rfl) (.inr I)
  obtain⟨o,k2,pX,fS,c2H,jx,mH,iq⟩:=Fb.fU (j:=c%2) ax;cases fS;have n6:=jx.symm.trans (H.get _ (.head _));cases n6;have Qh:[AV.s (g4 false),.s (g4 true)][c%2]'ax= .s (g4 wh):=by
   simp only[wi];cases wh<;>rfl
  rw[Qh] at iq;refine e5 ?_;refine W.bin I I I I (vB (c:=2) bw) ?_;refine W.eR I I I I c2H ?_;refine W.rI (H.get _ (.head _)) (.head _) I I I I iq (ev I) ?_;refine e5 ?_;refine W.bK (c:=[ah a]) H I I I I λcm e_ H b1=>?_;have aO:=h2.hM (aB:=cm) ⟨U,b1⟩;have F9:hK cm ((τ.next,[.s (g4 false),.s (g4 true)])::(ea,fD (PF.bin ⟨0,bw⟩ f1 f2) gq)::Le):=((Ab.aP λi o h=>b1 _ _ (bb _ _ h)).cons (H.get _ (.tail _ (.tail _ (.head _))))).cons (H.get _ (.tail _ (.head _)));refine W.mO F9 I ?_;refine W.an (cc.q.one I) I I I (Aa cc aO.gx aO.rd aO.ne (by have:=h.B;omega) (F3.aP (λi c hi ab=>⟨hi,b1 _ _ (bb _ _ ab)⟩) _ (bs _)) (.g4 wh h.ha h.e6) (.one (H.get _ (.head _))) aF) λr eA ⟨ar,cx⟩=>⟨_,ar,?_⟩
  refine aj ?_;exact b6 _ _ dp (cx.le U)
 ·refine aj ?_;exact b6 _ _ dp (h.out.le U)
end
def ak.c2I{env:Env}{aR:Option Nat}{D:List (Nat ⊕ (AV×List AV))}{n i m c d b fR:Nat}{body:bF}{f:Nat->AV}{J:ae}{Q:dZ}(N:Nat)(eV:Nat->(Nat->AV)->ae->Prop)
  (ek:N<2^62) (h0:eV 0 f J) (vp:f i=ah 0) (oy:f m=ah N)
  (hb:∀j g τ,j<N->eV j g τ->g i=ah j->g m=ah N->bL env aR D n (.block fR body) (dd g c (.b true)) τ (λx b_ aB=>match x with
   | .normal=>b_ i=ah j/\b_ m=ah N/\eV (j+1) (dd (dd b_ d (ah (j+1))) i (ah (j+1))) aB
   | .exit e=>cond (Nat.beq e b) (Q .normal b_ aB) (Q (.exit e) b_ aB)
   |x=>Q x b_ aB))
  (hx:∀g τ,eV N g τ->g i=ah N->Q .normal (dd g c (.b false)) τ)
  (ab:Nat.blt c n=true:=by rfl) (hd:Nat.blt d n=true:=by rfl) (hi:Nat.blt i n=true:=by rfl) (hm:Nat.blt m n=true:=by rfl) (O7:Nat.beq m d=false:=by rfl) (wQ:Nat.beq m i=false:=by rfl):
  bL env aR D n (.block b (.loop (.seq (.region [⟨some c,.bin .lss (.t i) (.t m),none,[]⟩]) (.seq (.cond (.t c) .skip (.exit b)) (.seq (.block fR body) (.region [⟨some d,.bin .add (.t i) (.c (.i .i64 1)),none,[]⟩,⟨some i,.bJ (.t d),none,[]⟩])))))) f J Q:=by
 refine ak.block (ak.loop (λk g τ=>∃j,j+k=N/\eV j g τ/\g i=ah j/\g m=ah N) ?_ N ⟨0,U,h0,vp,oy⟩);rintro k g τ ⟨j,I1,aW,zn,k4⟩;have nG:dJ env n g (.t i)=some (ah j):=by show cond (Nat.blt i n) (some (g i)) none=_;rw[hi,zn];rfl
 have em:dJ env n g (.t m)=some (ah N):=by show cond (Nat.blt m n) (some (g m)) none=_;rw[hm,k4];rfl
 refine ak.seq (ak.region ?_);refine aK.cmp (a:=j) (b:=N) ab I nG em I ?_;refine aK.nil (ak.seq (ak.jg (t:=decide (j<N)) (by show cond (Nat.blt c n) (some (dd g c (.b (decide (j<N))) c)) none=_;rw[ab,BD];rfl) (λh=>?_) λh=>?_))
 ·have ax:j<N:=of_decide_eq_true h;rw[h];refine ak.skip (ak.seq ((hb j g τ ax aW zn k4).mono λx b_ aB h'=>?_));cases x with
  |normal=>
   obtain⟨h1,h2,h3⟩:=h';refine ak.region ?_;have aL:dJ env n b_ (.t i)=some (ah j):=by show cond (Nat.blt i n) (some (b_ i)) none=_;rw[hi,h1];rfl
   refine aK.bin hd I aL I (sz (a:=j) (b:=1) U) ?_;refine aK.go I hi I (v:=ah (j+1)) (ai:=aB) ?_ ?_
   ·show(match cond (Nat.blt d n) (some (dd b_ d (ah (j+1)) d)) none with|some v=>some (bZ.val v aB)|none=>none)=_;rw[hd,BD];rfl
   ·refine aK.nil ?_;refine⟨k-1,U,j+1,U,h3,BD,?_⟩;rw[I0 wQ,I0 O7,h2]
  |exit e=>exact h'
  |ret=>exact h'
  |panic v=>exact h'
 ·have ax:j=N:=by have:=of_decide_eq_false h;omega
  subst ax;rw[h];refine ak.exit ?_;show cond (Nat.beq b b) (Q .normal (dd g c (.b false)) τ) (Q (.exit b) (dd g c (.b false)) τ);rw[gQ];exact hx g τ aW zn
def kx.lines{τ:ae}{m:Nat}{bP:Nat->Prop}{L:List ba}{ad:List (List Nat)}{az:List Nat}(h:kx τ m bP L ad az)(a7:L≠[]):∃(dT d_ eg:AV) (o:Nat) (c:List AV),τ.get m=some (.cells [dT,d_,eg])/\dT.lf=true/\d_.lf=true/\τ.get o=some (.cells c)∧
  ∀e x,1<=e->L[e-1]? =some x->idxSlA (some 9) dT (e-1)=some (.p (some (o,(e-1)*9)))/\∃w,dV (some 4) (c.drop ((e-1)*9+3))=some (.R (fD x.f w))/\e1 (λi=>¬bP i) τ x.f (.R (fD x.f w)):=by
 obtain⟨dT,d_,eg,du,a8,hm,hl,e0,hj,hf,ep,gT,hg,hB,jH,ao⟩:=h.ex;obtain⟨o,c,h1,h2,h3⟩:=hl.aD (by rw[e0];exact pM.2 a7);refine⟨dT,d_,eg,o,c,hm,hl.lf,hf.lf,h2,λe x he hx=>?_⟩;obtain⟨jB,FU⟩:=jK.1 hx;obtain⟨aX,⟨r,bc⟩,cq⟩:=h3 (e-1) U;have hj:=hj (e-1) U U;rw[FU] at hj;refine⟨aX,?_⟩;generalize du[e-1]'U=DE at hj bc;cases hj with
 |mk w cv a2f vz=>
  refine⟨w,?_,a2f⟩;rw[<-oV,show(e-1)*9=(e-1)*shN (some 9) from rfl,bc];rfl
section
variable {J τ:ae}{q at_:Nat}{cK:AV}{bP:Nat->Prop}{L:List ba}{ad:List (List Nat)}{az:List Nat}{b:bT}{K:Nat->List AV->AV->Prop}{a c ea eX:Nat}{f g:PF}{gq hr:AV}
def Lf{W:Nat->Prop}{f:PF}{w:AV}(h:e1 W τ f (.R (fD f w)))(hd:f.dep<=40){l:List AV}{r:List AV}(hl:mapO (bM τ (b.bp+1000)) l=some r):mapO (bM τ (b.bp+1000)) (.R (fD f w)::l)=some (f.aG.A true::r):=by
 rw[mapO_cons,h.snap _ (bs _) U,hl]
abbrev a2D:List Nat:=uM++[1,1,1,1,1,1,1,1,1,0,1,0,0,1,1,0,0,1]
abbrev Ac(q n a c ea eX:Nat)(can:AV)(j N:Nat):List (Nat×AV):=(190,ah j)::(189,ah N)::(188,can)::pC q n a c ea eX can
def jI.has(h:jI J q cK at_ bP L ad az τ a c f g ea eX gq hr){dT d_ eg:AV}(hm:τ.get (q+3)=some (.cells [dT,d_,eg])):Has τ [(q+4,[aE (q+3)]),(q+3,[dT,d_,eg]),(ea,fD f gq),(eX,fD g hr)]:=by
 have ay:=h.k;exact(((Has.nil.cons h.x3 aF).cons h.qA (by simp;omega)).cons hm (by simp;omega)).cons h.gx.m (by simp;omega)
def c2J(cc:kX b K)(h:jI J q cK at_ bP L ad az τ a c f g ea eX gq hr){n:Nat}{can:AV}{z:Nat->AV}{Q:dZ}{e j N:Nat}(he:∃k∈ad,e∈k)(ek:∀F,sat ((16,ah e)::Ac q n a c ea eX can j N) F->Q .normal F τ)(jV:∀F aB,sat (ia q) F->Out J q cK at_ (L.length+ad.length+2) aB->Q (.exit 7) F aB):
  bL (b.aM K) none [] Yw.ntmps (hN (a2D++[0]) nm) (bB ((16,ah e)::Ac q n a c ea eX can j N) z) τ Q:=by
 have hd:=h.dep;have ca:=h.B;have pT:=f.pw;obtain⟨dT,d_,eg,o,k2,hm,kI,_,ho,nz⟩:=h.gx.ms.lines h.ne;have H:=h.has hm;have R2:1<=e/\e<=L.length:=by
  obtain⟨k,h1,h2⟩:=he;exact h.rd.inv.mem k h1 e h2
 obtain⟨x,hx⟩:∃x,L[e-1]? =some x:=⟨L[e-1]'U,fw _⟩
 obtain⟨R3,c2K,R4,R5⟩:=nz e x R2.1 hx;have R6:x.f.dep<=40:=by have:=h.rd.inv.dep x (fL hx);have:=h.rd.inv.ne;omega
 refine W.sq ?_;refine W.RX [] 19 I I ?_;by_cases cx:f.op=6
 ·obtain⟨f1,f2,rfl⟩:=PF.a2z (k:=2) cx bw;obtain⟨a2B,R1,Le,xs,Ab,jB,dG⟩:=h.f12.parts;obtain⟨p0,eM,R7,F_,R8,R9⟩:=dG 0 (by show 0<2;omega) (by rw[jB];show 0<2;omega);rw[R8] at F_;have ko:f1.dep<=40/\f2.dep<=40:=by
   have:max f1.dep f2.dep+1<=40:=hd.1;omega
  refine fO ?_;refine W.eR I I I I R7 ?_;refine W.RY Ab F_ I I I ?_;refine fO ?_;refine W.eR I I I I R3 ?_;refine fO ?_;refine W.ur ho I I I R4 ?_;refine W.e3 cc.fn cc.Ld (cc.same f1 x.f U U) I I I (Lf R9 ko.1 (Lf R5 R6 I)) ?_;refine fO ?_;by_cases ao:f1=x.f
  ·rw[decide_eq_true ao];refine aj ?_;obtain⟨lq,bW,c2L,a2E,c2M,c2N⟩:=dG 1 (by show 1<2;omega) (by rw[jB];show 1<2;omega);rw[c2M] at a2E;refine W.eR I I I I c2L ?_;refine W.RY Ab a2E I I I ?_;refine aj ?_;refine W.bK (c:=[ah a,ah e]) H I I I I λcm e_ H b1=>?_;have aO:=h.hM (aB:=cm) ⟨U,b1⟩;refine W.an trivial I I I (Aa cc aO.gx aO.rd aO.ne U (c2N.aP (λi c hi ab=>⟨hi,b1 _ _ ab⟩) _ (bs _)) (.imp h.ha he h.e6 ⟨x,hx,ao.symm⟩) (.two (H.get _ (.head _))) aF) λr eA ⟨ar,cx⟩=>⟨_,ar,?_⟩
   refine aj ?_;refine ak.exit ?_;exact jV _ _ dp (cx.le U)
  ·rw[decide_eq_false ao];refine aj ?_;exact ek _ dp
 ·refine fO ?_;refine aj ?_;exact ek _ dp
def c2O(cc:kX b K)(h:jI J q cK at_ bP L ad az τ a c f g ea eX gq hr){n:Nat}{can:AV}{z:Nat->AV}{Q:dZ}{e j N:Nat}(he:∃k∈ad,e∈k)(ek:∀F,sat ((16,ah e)::Ac q n a c ea eX can j N) F->Q .normal F τ)(jV:∀F aB,sat (ia q) F->Out J q cK at_ (L.length+ad.length+2) aB->Q (.exit 7) F aB):
  bL (b.aM K) none [] Yw.ntmps (hN (a2D++[1]) nm) (bB ((16,ah e)::Ac q n a c ea eX can j N) z) τ Q:=by
 have hd:=h.dep;have ca:=h.B;have pT:=g.pw;obtain⟨dT,d_,eg,o,k2,hm,kI,_,ho,nz⟩:=h.gx.ms.lines h.ne;have H:=h.has hm;have R2:1<=e/\e<=L.length:=by
  obtain⟨k,h1,h2⟩:=he;exact h.rd.inv.mem k h1 e h2
 obtain⟨x,hx⟩:∃x,L[e-1]? =some x:=⟨L[e-1]'U,fw _⟩
 obtain⟨R3,c2K,R4,R5⟩:=nz e x R2.1 hx;have R6:x.f.dep<=40:=by have:=h.rd.inv.dep x (fL hx);have:=h.rd.inv.ne;omega
 refine W.sq ?_;refine W.RX [] 19 I I ?_;by_cases cx:g.op=3
 ·obtain⟨bU,rfl⟩:=PF.c2B cx;obtain⟨a2B,R1,Le,xs,Ab,jB,dG⟩:=h.f13.parts;obtain⟨p0,eM,R7,F_,R8,R9⟩:=dG 0 (by show 0<1;omega) (by rw[jB];show 0<1;omega);rw[R8] at F_;have ko:bU.dep<=40:=by
   have:bU.dep+1<=40:=hd.2.1;omega
  refine fO ?_;refine W.eR I I I I R7 ?_;refine W.RY Ab F_ I I I ?_;refine fO ?_;refine W.eR I I I I R3 ?_;refine fO ?_;refine W.ur ho I I I R4 ?_;refine W.e3 cc.fn cc.Ld (cc.same bU x.f U U) I I I (Lf R9 ko (Lf R5 R6 I)) ?_;refine fO ?_;by_cases ao:bU=x.f
  ·rw[decide_eq_true ao];refine aj ?_;refine W.an trivial I I I (rH (op:=2) cc.pB I I) λr bu ⟨ar,ee⟩=>⟨_,ar,?_⟩
   have h3:=h.hM ee;have H:=H.aP ee.2;refine aj ?_;refine W.bK (c:=[ah e,ah c]) H I I I I λcm e_ H b1=>?_;have aO:=h3.hM (aB:=cm) ⟨U,b1⟩;refine W.an trivial I I I (Aa (f:=.cO) cc aO.gx aO.rd aO.ne U (.mk .cO .af [] I .nil λi h=>by simp at h) (.not he h.ab ⟨x,hx,ao.symm⟩ h.bN) (.two (H.get _ (.head _))) aF) λr eA ⟨ar,cx⟩=>⟨_,ar,?_⟩
   refine aj ?_;refine ak.exit ?_;exact jV _ _ dp (cx.le U)
  ·rw[decide_eq_false ao];refine aj ?_;exact ek _ dp
 ·refine fO ?_;refine aj ?_;exact ek _ dp
def a2F(cc:kX b K)(h:jI J q cK at_ bP L ad az τ a c f g ea eX gq hr){n:Nat}{can:AV}{z:Nat->AV}{Q:dZ}{an:List Nat}(oN:fg τ can an)(gj:∀e∈an,∃k∈ad,e∈k)(Ga:an.length<2^20)(b6:∀F aB,sat (ia q) F->Out J q cK at_ (L.length+ad.length+2) aB->Q .normal F aB):
  bL (b.aM K) none [] Yw.ntmps (hN (uM++[1,1,1,1,1,1,1,1,1,0]) nm) (bB (pC q n a c ea eX can) z) τ Q:=by
 have n7:=oN.kR;refine W.sq ?_;refine W.rg ?_;have H:Has τ []:=Has.nil;refine e5 ?_;refine W.nil ?_;refine ak.c2I an.length (λj F aB=>aB=τ/\sat ((188,can)::pC q n a c ea eX can) F) U dp I I (λj F aB ax aW hi wV=>?_) (λF aB aW hi=>?_)
 ·obtain⟨e,a2G,a2H,me,x3,qA,Cc,uz,hH,gU,dm,cX,cp,bU,_⟩:=aW;subst e;refine ak.norm (Ac q n a c ea eX can j an.length) ⟨hi,wV,a2G,a2H,me,x3,qA,Cc,uz,hH,gU,dm,cX,cp,bU,trivial⟩ λF=>?_;have H:Has aB []:=Has.nil;have R_:=gj _ (gC ax);refine ak.block ?_;refine W.sq ?_;refine W.rg ?_;refine e5 ?_;generalize an[j]=e at R_ ⊢;refine W.nil ?_;refine ak.norm ((16,ah e)::Ac q n a c ea eX can j an.length) dp λF=>?_;refine W.sq ?_;refine c2J cc h R_ (λF b2=>?_) λF eA b2 cx=>?_
  ·refine ak.norm ((16,ah e)::Ac q n a c ea eX can j an.length) b2 λF=>?_;refine c2O cc h R_ (λF b2=>?_) λF eA b2 cx=>?_
   ·obtain⟨_,aX,bc,cq,b2⟩:=b2;exact⟨aX,bc,rfl,cq,b2⟩
   ·exact b6 _ _ b2 cx
  ·exact b6 _ _ b2 cx
 ·obtain⟨e,a2G,a2H,me,x3,qA,Cc,uz,hH,gU,dm,cX,cp,bU,_⟩:=aW;subst e;exact b6 _ _ ⟨dm,cX,cp,bU,trivial⟩ (h.out.le U)
end
section
variable {J τ:ae}{q at_:Nat}{cK:AV}{bP:Nat->Prop}{L:List ba}{ad:List (List Nat)}{az:List Nat}{b:bT}{K:Nat->List AV->AV->Prop}{a c ea eX:Nat}{f g:PF}{gq hr:AV}
def kx.open_{m:Nat}{dT d_ eg nT py:AV}{du a8:List AV}{eb iS:Nat}{aB:ae}(hlt:∀i,bP i->i<τ.next)(hl:Sl τ (some 9) dT du)(e0:du.length=L.length)(hj:∀i (h:i<du.length) (h':i<L.length),kV (λi=>¬bP i) τ L[i] du[i])(ep:a8.length=ad.length)(l2:∀i (h:i<a8.length) (h':i<ad.length),fg τ a8[i] ad[i])(jH:bP m)(mq:∀o l c,dT= .al o 0 l (some 9) c->c=none)(ao:a1Z m dT d_ eg a8 bP)(k:∀i o,i≠m->d_.at? ≠some i->eg.at? ≠some i->τ.get i=some o->aB.get i=some o)
  (n1:aB.get m=some (.cells [dT,nT,py])) (hf:Sl aB none nT (a8++[.af])) (hg:fg aB py (az++[L.length+1])) (xX:nT.at? =some eb) (qo:py.at? =some iS) (ho:τ.next<=eb/\τ.next<=iS/\eb≠iS/\eb<aB.next/\iS<aB.next) (kZ:∀o l c,nT= .al o 0 l none c->c=none) (mN:∀o l c,py= .al o 0 l none c->c=none):
  ∃gJ,kx aB m gJ L (ad++[[]]) (az++[L.length+1])/\sL bP gJ τ aB:=by
 have x2:∀i o,¬bP i->τ.get i=some o->aB.get i=some o:=λi o hi h=>k i o (λe=>hi (e▸jH)) (λe=>hi (ao.f _ e).1) (λe=>hi (ao.g _ e).1) h;refine⟨λi=>bP i\/i=eb\/i=iS,⟨λi hi=>?_,dT,nT,py,du,a8++[.af],n1,?_,e0,λi h h'=>?_,hf,by simp[ep],λi h h'=>?_,hg,⟨λ_=>⟨kZ,mN⟩,mq⟩,.inl jH,?_⟩,U,λc o ab h=>x2 c o ab h,λc ab=>?_⟩
 ·rcases hi with h|h|h
  ·have:=hlt i h;omega
  ·omega
  ·omega
 ·exact hl.aP λi o hi=>k i o (ao.l _ hi).2.1 (ao.l _ hi).2.2.1 (ao.l _ hi).2.2.2
 ·exact(hj i h h').aP λi c hi ab=>⟨λh=>by
   have:=ae.bt ab;rcases h with h|h|h
   ·exact hi h
   ·omega
   ·omega,x2 _ _ hi ab⟩
 ·by_cases hi:i<a8.length
  ·rw[cM hi,cM U];exact(l2 i hi U).aP λj o ax=>k j o (ao.s i hi _ ax).2.1 (ao.s i hi _ ax).2.2.2.1 (ao.s i hi _ ax).2.2.2.2
  ·have e:i=a8.length:=by rw[dv] at h;simp only[CZ,lg] at h;omega
   subst e;rw[xE I,xE ep];exact .nil
 ·refine⟨λo h=>?_,λo h=>?_,λo h=>?_,λi h o k8=>?_,λi j h h' hG o h1 h2=>?_⟩
  ·obtain⟨h1,h2,h3,aO⟩:=ao.l o h;have:=hlt o h1;exact⟨.inl h1,h2,λe=>by rw[xX] at e;have:=wF e;omega,λe=>by rw[qo] at e;have:=wF e;omega⟩
  ·rw[xX] at h;cases h;exact⟨.inr (.inl I),λe=>by have:=hlt _ jH;omega,λe=>by rw[qo] at e;have:=wF e;omega⟩
  ·rw[qo] at h;cases h;exact⟨.inr (.inr I),λe=>by have:=hlt _ jH;omega⟩
  ·by_cases hi:i<a8.length
   ·rw[cM hi] at k8;obtain⟨h1,h2,h3,aO,bI⟩:=ao.s i hi o k8;have:=hlt o h1;exact⟨.inl h1,h2,h3,λe=>by rw[xX] at e;have:=wF e;omega,λe=>by rw[qo] at e;have:=wF e;omega⟩
   ·have e:i=a8.length:=by rw[dv] at h;simp only[CZ,lg] at h;omega
    subst e;rw[xE I] at k8;cases k8
  ·by_cases hi:i<a8.length
   ·by_cases ax:j<a8.length
    ·rw[cM hi] at h1;rw[cM ax] at h2;exact ao.cN i j hi ax hG o h1 h2
    ·have e:j=a8.length:=by rw[dv] at h';simp only[CZ,lg] at h';omega
     subst e;rw[xE I] at h2;cases h2
   ·have e:i=a8.length:=by rw[dv] at h;simp only[CZ,lg] at h;omega
    subst e;rw[xE I] at h1;cases h1
 ·rcases ab with h|h|h
  ·exact .inl h
  ·right;omega
  ·right;omega
def c2P(cc:kX b K)(h:jI J q cK at_ bP L ad az τ a c f g ea eX gq hr){n:Nat}(hn:n<256){can:AV}{z:Nat->AV}{Q:dZ}(b6:∀F aB,sat (ia q) F->Out J q cK at_ (L.length+ad.length+2) aB->Q .normal F aB):
  bL (b.aM K) none [] Yw.ntmps (hN (uM++[1,0]) nm) (bB (pC q n a c ea eX can) z) τ Q:=by
 have ca:=h.B;have Fb:=h.num;have aW:=h.rd.inv;have R0:0<L.length:=pM.2 h.ne;obtain⟨dT,d_,eg,du,a8,hm,hl,e0,hj,hf,ep,l2,hg,hB,jH,ao⟩:=h.gx.ms.ex;have H:Has τ [(q+4,[aE (q+3)]),(q+3,[dT,d_,eg])]:=(Has.nil.cons hm aF).cons h.gx.m aF;have kH:=hf.vw;by_cases bI:ad.length<5
 ·refine eT ?_;refine W.RX [(18,q+4,[aE (q+3)]),(19,q+4,[aE (q+3)]),(22,q+4,[aE (q+3)]),(25,q+4,[aE (q+3)]),(18,q+3,[dT,d_,eg]),(19,q+3,[dT,d_,eg])] 26 I I ?_;refine W.re h.gx.m aF I I I I (ev I) ?_;refine W.re h.gx.m aF I I I I (ev I) ?_;refine W.re h.gx.m aF I I I I (ev I) ?_;refine fO ?_;refine W.re hm aF I I I I (ev hf.lf) ?_;refine W.bK (c:=[.af]) H I I I I λa9 c8 H bb=>?_;have sY:=bb _ _ hm;have a2I:=bb _ _ h.gx.m;refine W.re a2I aF I I I I (ev I) ?_;refine fO ?_;refine W.re sY aF I I I I (ev hg.lf) ?_;refine W.re a2I aF I I I I (ev I) ?_;refine fO ?_;refine W.re sY aF I I I I (ev hl.lf) ?_;refine W.sD (v:=ah du.length) I I I (λs=>xf I hl.len) (ev I) ?_;refine fO ?_;refine W.bK (c:=[ah (du.length+1)]) H I I I I λbu er H k3=>?_;have c7:∀i o,τ.get i=some o->bu.get i=some o:=λi o h=>k3 _ _ (bb _ _ h);have bV:=H.get _ (.tail _ (.head _));have cp:=H.get _ (.head _);have Sa:=ae.bt h.gx.m;refine W.K4 (oz:=[(19,q+4,[aE (q+3)]),(22,q+4,[aE (q+3)]),(25,q+4,[aE (q+3)]),(19,q+3,[dT,d_,eg])]) 18 I (λp aw=>by
   simp only[dB,NQ,or_false] at aw;rcases aw with rfl|rfl|rfl|rfl|rfl|rfl
   ·exact .inl ⟨rfl,c7 _ _ h.gx.m⟩
   ·exact .inr aF
   ·exact .inr aF
   ·exact .inr aF
   ·exact .inl ⟨rfl,c7 _ _ hm⟩
   ·exact .inr aF) ?_
  refine W.ap (w:=.al τ.next 0 1 none (some 1)) .af [] (hf.aP λi o _=>c7 i o) (by show(match bu.get τ.next with|some (.cells c)=>elems none 1 (c.drop 0)|_=>none)=_;rw[bV];rfl) (λz a6=>by rw[uT.1 a6];rfl) (by show(3*(a8.length+1)+2000)*24<=_;omega) I I I I λnT cm Sb oE Qu e_ b1=>?_;have Sc:∀i,d_.at? =some i->i≠q+3/\i≠q+4/\i<τ.next:=λi e=>by
   have h1:=ao.f _ e;exact⟨h1.2.1,(h.gx.qz _ h1.1).2.2.1,h.gx.ms.lt _ h1.1⟩
  have xN:∀i o,d_.at? ≠some i->τ.get i=some o->cm.get i=some o:=λi o hi h=>b1 _ _ hi (c7 _ _ h);have Cb:=xN _ _ (λe=>(Sc _ e).2.1 I) h.gx.m;have Im:=xN _ _ (λe=>(Sc _ e).1 I) hm;refine W.K4 (oz:=[(22,q+4,[aE (q+3)]),(25,q+4,[aE (q+3)])]) 19 I (λp aw=>by
   simp only[dB,NQ,or_false] at aw;rcases aw with rfl|rfl|rfl|rfl
   ·exact .inl ⟨rfl,Cb⟩
   ·exact .inr aF
   ·exact .inr aF
   ·exact .inl ⟨rfl,Im⟩) ?_
  have c2Q:=b1 _ _ (λe=>by have:=(Sc _ e).2.2;omega) cp;refine W.ap (w:=.al a9.next 0 1 none (some 1)) (ah (du.length+1)) [] (hg.aP λi o hi h=>xN i o (λe=>(ao.f _ e).2.2 hi) h) (by show(match cm.get a9.next with|some (.cells c)=>elems none 1 (c.drop 0)|_=>none)=_;rw[c2Q];rfl) (λz a6=>by rw[uT.1 a6];rfl) (by rw[uV,aW.len];show(3*(ad.length+1)+2000)*8<=_;omega) I I I I λpy dg zY ux Qz iW c9=>?_;have Sd:∀i,eg.at? =some i->i≠q+3/\i≠q+4/\i<τ.next:=λi e=>by
   have h1:=ao.g _ e;exact⟨h1.2,(h.gx.qz _ h1.1).2.2.1,h.gx.ms.lt _ h1.1⟩
  have Ra:=c9 _ _ (λe=>(Sd _ e).2.1 I) Cb;have c2R:=c9 _ _ (λe=>(Sd _ e).1 I) Im;have H:Has dg [(q+3,[dT,d_,eg])]:=Has.nil.cons c2R aF;refine fO ?_;refine W.K4 (oz:=[(25,q+4,[aE (q+3)])]) 22 I (λp aw=>by
   simp only[dB,NQ,or_false] at aw;rcases aw with rfl|rfl
   ·exact .inl ⟨rfl,Ra⟩
   ·exact .inr aF) ?_
  refine W.st (bD:=[dT,nT,eg]) H 0 I I I I Sb.lP (by rw[Sb.mM];rfl) λeA jf H et=>?_;refine fO ?_;have a2J:=et _ _ aF Ra;refine W.K4 (oz:=[]) 25 I (λp aw=>by
   rw[uT.1 aw];exact .inl ⟨rfl,a2J⟩) ?_
  refine W.st (bD:=[dT,nT,py]) H 0 I I I I zY.lP (by rw[zY.mM];rfl) λeW k6 H gk=>?_;have c2S:=gk _ _ aF a2J;have eG:nT.at? =some bu.next:=oE;have n_:py.at? =some cm.next:=ux;have Ad:∀i o,i≠q+3->dg.get i=some o->eW.get i=some o:=λi o hi h=>gk _ _ hi (et _ _ hi h);have d0c:=h.gx.ms.lt _ jH;obtain⟨gJ,K1,c2T⟩:=kx.open_ (aB:=eW) (nT:=nT) (py:=py) (eb:=bu.next) (iS:=cm.next) h.gx.ms.lt hl e0 hj ep l2 jH hB.2 ao (λi o h1 h2 h3 h=>Ad _ _ h1 (c9 _ _ h3 (xN _ _ h2 h))) (H.get _ (.head _)) (Sb.aP λi o hi h=>Ad _ _ (λe=>by rw[eG] at hi;have:=wF hi;omega) (c9 _ _ (λe=>by rw[eG] at hi;have:=wF hi;have:=(Sd _ e).2.2;omega) h)) (by
   have:=zY.aP (τ:=eW) λi o hi h=>Ad _ _ (λe=>by rw[n_] at hi;have:=wF hi;omega) h;unfold fg;rw[hQ,← e0];exact this) eG n_ U Qu Qz
  have a2K:=h.gx.F8 K1 c2T;have H:Has eW [(q+4,[aE (q+3)])]:=Has.nil.cons c2S aF;have HB:hK eW [(q+4,[aE (q+3)])]:=H.b;refine eT ?_;refine W.EB ?_;refine W.wb [(q+4,[aE (q+3)])] [6] 7 I I ?_;refine fO ?_;refine W.an (cc.q.one I) I I I (K6 cc.wg cc.pB cc.at_ (c+n) U) λr fI ⟨wp,ar,aw,iP⟩=>⟨_,ar,?_⟩
  have o5:wp.cells=[wp]/\wp.val=true:=by
   cases aw with
   |mk _ w xs h1 h2 h3=>exact⟨h2.one.1,h2.one.2.1⟩
  have a2L:=a2K.hM iP;have Se:e1 (λi=>¬gJ i) fI (fm (c+n)) (.R (fD (fm (c+n)) wp)):=aw.aP (λi c hi ab=>⟨λhm=>by have:=a2K.ms.lt _ hm;omega,ab⟩) _ (bs _);have kJ:=x0 (c+n);refine W.jQ (c:=[ah 0,ah 1,.b true,.i .u8 (Int.ofNat (fm (c+n)).op),.s (fm (c+n)).bO,.af,wp,.s [],.af]) I I (qs I I I (qs I I I (qs I I I I))) ?_;refine W.mO (HB.aP iP.2) I ?_;refine W.an (cc.q.one I) I I I (FT cc.we a2L.ms aF ⟨U,by simp;omega,λl hl=>by
   rcases tl.1 hl with hl|hl
   ·exact(aW.small U).2.2 l hl
   ·rw[uT.1 hl];simp⟩ (x:=⟨0,1,true,fm (c+n),[],[]⟩) (.mk wp .af Se .nil) (by show(fm (c+n)).dep<=400;omega)) λr ke ⟨ar,a2M,nB,fo⟩=>⟨_,ar,?_⟩
  refine aj ?_;have Lg:(ad++[[]]).length-1=ad.length:=by simp
  have c2U:(ad++[[]]).getD ad.length []=[]:=by rw[yT];simp
  have gT:(ad++[([]:List Nat)]).set ad.length ([]++[L.length+1])=ad++[[L.length+1]]:=by simp
  rw[Lg,c2U,gT] at nB;refine b6 _ _ dp ⟨a2M,_,_,_,a2L.F8 nB fo,.step h.rd (.CA ad az (c+n) h.ne bI),aF,by simp;omega⟩
 ·refine aj ?_;exact b6 _ _ dp (h.out.le U)
end
abbrev a2N:List Nat:=[1,1,1,1,1,0,0,0,1,0]
def c2V{a c:Nat}(ab:c≠0)(ha:a<2^63):binop .quo (ah a) (ah c)=some (ah (a/c)):=by
 show(if Int.ofNat c=0 then none else some (AV.i .i64 (IntKind.wrap .i64 ((Int.ofNat a).tdiv (Int.ofNat c)))))=_;rw[if_neg (by simpa using ab)];have e:(Int.ofNat a).tdiv (Int.ofNat c)=((a/c:Nat):Int):=rfl;rw[e,b5i (qJ (yl _ _) ha)];rfl
section
variable {J τ:ae}{q at_:Nat}{cK:AV}{bP:Nat->Prop}{L:List ba}{ad:List (List Nat)}{az:List Nat}{b:bT}{K:Nat->List AV->AV->Prop}{a c ea eX:Nat}{f g:PF}{gq hr:AV}
def c2W(cc:kX b K)(h:jI J q cK at_ bP L ad az τ a c f g ea eX gq hr){n:Nat}(hn:n<256){can:AV}{z:Nat->AV}{Q:dZ}{an:List Nat}(oN:fg τ can an)(gj:∀e∈an,∃k∈ad,e∈k)(Ga:an.length<2^20)(b6:∀F aB,sat (ia q) F->Out J q cK at_ (L.length+ad.length+2) aB->Q .normal F aB):
  bL (b.aM K) none [] Yw.ntmps (hN uM nm) (bB (pC q n a c ea eX can) z) τ Q:=by
 have H:Has τ []:=Has.nil;have hm:n%10<10:=FL _ bw;have ek:∀ {aI:bF} {F:List (Nat×AV)},(∀z,bL (b.aM K) none [] Yw.ntmps aI (bB (pC q n a c ea eX can) z) τ Q)->sat (pC q n a c ea eX can) (bB F z)->bL (b.aM K) none [] Yw.ntmps aI (bB F z) τ Q:=λh1 h2=>ak.norm _ h2 h1;have lX:=b6;refine W.sq ?_;refine W.rg ?_;refine e5 ?_;by_cases h0:n%10=0
 ·refine e5 ?_;refine W.nil (W.lL I (ek (λz=>c2P cc h hn b6) ?_));exact dp
 refine e5 ?_;refine W.nil (W.lM I (W.sq (W.rg ?_)));refine e5 ?_;by_cases h1:n%10=1
 ·refine e5 ?_;refine W.nil (W.lL I (ek (λz=>c2A cc h b6) ?_));exact dp
 refine e5 ?_;refine W.nil (W.lM I (W.sq (W.rg ?_)));refine e5 ?_;by_cases h2:n%10=2
 ·refine e5 ?_;refine W.nil (W.lL I (ek (λz=>c2D cc h b6) ?_));exact dp
 refine e5 ?_;refine W.nil (W.lM I (W.sq (W.rg ?_)));refine e5 ?_;by_cases h3:n%10=3
 ·refine e5 ?_;refine W.nil (W.lL I (ek (λz=>c2G cc h b6) ?_));exact dp
 refine e5 ?_;refine W.nil (W.lM I (W.sq (W.sq (W.rg ?_))));refine e5 ?_;by_cases aO:n%10=4
 ·refine e5 ?_;refine W.nil (W.lL I (W.EA (W.lL I (ek (λz=>a2F cc h oN gj Ga b6) ?_))));exact dp
 refine e5 ?_;refine W.nil (W.lM I (W.rg ?_));refine e5 ?_;by_cases bI:n%10=5
 ·refine e5 ?_;refine W.nil (W.lL I (ek (λz=>a2F cc h oN gj Ga b6) ?_));exact dp
 refine e5 ?_;refine W.nil (W.lM I (W.sq (W.sq (W.rg ?_))));refine e5 ?_;by_cases cx:n%10=6
 ·refine e5 ?_;refine W.nil (W.lL I (W.EA (W.lL I (ek (λz=>a2A cc h b6) ?_))));exact dp
 refine e5 ?_;refine W.nil (W.lM I (W.rg ?_));refine e5 ?_;by_cases dI:n%10=7
 ·refine e5 ?_;refine W.nil (W.lL I (ek (λz=>a2A cc h b6) ?_));exact dp
 refine e5 ?_;refine W.nil (W.lM I (W.sq (W.rg ?_)));refine e5 ?_;by_cases fu:n%10=8
 ·refine e5 ?_;refine W.nil (W.lL I (ek (λz=>c2E cc h b6) ?_));exact dp
 refine e5 ?_;refine W.nil (W.lM I (W.sq (W.rg ?_)));refine e5 ?_;refine W.nil (W.lL I (ek (λz=>c2F cc h b6) ?_));exact dp
end
section
variable {J τ:ae}{q at_:Nat}{cK:AV}{bP:Nat->Prop}{L:List ba}{ad:List (List Nat)}{az:List Nat}{b:bT}{K:Nat->List AV->AV->Prop}
def c2X(cc:kX b K){code:List Nat}(au:∀τ,iO τ none cK (code.map fa))(hl:code.length<2^62)(hb:∀x∈code,x<256)(fS:at_<=30)(h:ky J q cK at_ bP L ad az τ)(hR:Rd L ad az)(a7:L≠[])(ca:L.length+ad.length<=36){n:Nat}(hn:n<256){can:AV}{an:List Nat}(oN:fg τ can an)(mw:∀o,can.at? =some o->q+5<o/\¬bP o)(gj:∀e∈an,∃k∈ad,e∈k)(Sf:0<an.length)(Ga:an.length<2^20){z:Nat->AV}{Q:dZ}(b6:∀F aB,sat (ia q) F->Out J q cK (pA code at_) (L.length+ad.length+2) aB->Q .normal F aB):
  bL (b.aM K) none [] Yw.ntmps (hN (a2N++[1,1,1]) nm) (bB ((7,can)::(6,ah n)::ia q) z) τ Q:=by
 obtain⟨tC,k2,KR,mN,vz⟩:=oN.aD (by rw[uV];exact Sf);have mq:(an.map ah).length=an.length:=uV _;have H:Has τ []:=Has.nil;have n7:=oN.kR;have Sg:n/10%an.length<an.length:=FL _ Sf;have iu:pz code at_%an.length<an.length:=FL _ Sf;obtain⟨aX,⟨h4,bc⟩,cq⟩:=vz (n/10%an.length) (by rw[mq];exact Sg);obtain⟨hU,⟨kl,m4⟩,qg⟩:=vz (pz code at_%an.length) (by rw[mq];exact iu);rw[mQ] at cq qg;refine W.sq ?_;refine W.wb [(tC,k2)] [18] 18 I I ?_;refine fO ?_;refine W.bin I I I I (c2V (c:=10) bw U) ?_;refine fO ?_;refine W.sD (v:=ah an.length) I I I (λs=>xf I (by rw[oN.len,mq])) (ev I) ?_;refine W.bin I I I I (vB U) ?_;refine W.eR I I I I aX ?_;refine W.rI mN (.head _) I I I I cq (ev I) ?_;refine fO ?_;refine W.sD (v:=ah an.length) I I I (λs=>xf I (by rw[oN.len,mq])) (ev I) ?_;refine W.an (cc.q.one I) I I I (h.next cc.sf au hl hb fS) λr a9 ⟨ar,h2,c8,bb⟩=>⟨_,ar,?_⟩
 have a2O:=bb _ _ (by have:=(mw _ KR).1;omega) mN;have c2Y:fg a9 can an:=oN.aP λi o hi ho=>bb _ _ (by have:=(mw _ hi).1;omega) ho;refine W.bin I I I I (vB U) ?_;refine W.eR I I I I hU ?_;refine W.ur a2O I I I qg ?_;refine e5 ?_;refine W.mO (hK.nil.cons a2O) I ?_;refine W.EB ?_;have Gb:=gj _ (gC Sg);have Gc:=gj _ (gC iu);generalize an[n/10%an.length]'Sg=a at Gb ⊢;generalize an[pz code at_%an.length]'iu=c at Gc ⊢;refine ak.norm ((11,ah c)::(10,ah a)::(7,can)::(6,ah n)::ia q) dp λF=>?_;obtain⟨dT,d_,eg,o,Sh,hm,kI,_,ho,nz⟩:=h2.ms.lines a7;have j5:∀ {e},(∃k∈ad,e∈k)->1<=e/\e<=L.length:=λ⟨k,h1,h2⟩=>hR.inv.mem k h1 _ h2;obtain⟨x,hx⟩:∃x,L[a-1]? =some x:=⟨L[a-1]'(by have:=j5 Gb;omega),fw _⟩
 obtain⟨y,hy⟩:∃y,L[c-1]? =some y:=⟨L[c-1]'(by have:=j5 Gc;omega),fw _⟩
 obtain⟨c2Z,a2P,c3a,a2Q⟩:=nz a x (j5 Gb).1 hx;obtain⟨c3b,a2R,c3c,a2S⟩:=nz c y (j5 Gc).1 hy;have d0d:x.f.dep<=40:=by have:=hR.inv.dep x (fL hx);have:=hR.inv.ne;omega
 have Qf:y.f.dep<=40:=by have:=hR.inv.dep y (fL hy);have:=hR.inv.ne;omega
 have H:Has a9 [(q+4,[aE (q+3)]),(q+3,[dT,d_,eg])]:=(Has.nil.cons hm aF).cons h2.m aF;have d0e:=j5 Gb;have d0f:=j5 Gc;refine W.sq ?_;refine W.wb [(q+4,[aE (q+3)]),(q+3,[dT,d_,eg]),(o,Sh)] [20,21] 22 I I ?_;refine W.rI h2.m (.head _) I I I I I (ev I) ?_;refine fO ?_;refine W.rI hm (.tail _ (.head _)) I I I I I (ev kI) ?_;refine fO ?_;refine W.eR I I I I c2Z ?_;refine fO ?_;refine W.rI ho (.tail _ (.tail _ (.head _))) I I I I c3a (a2Q.eqb _ (bs _) (by show _<=b.bp+1000;omega)) ?_;refine W.rI h2.m (.head _) I I I I I (ev I) ?_;refine fO ?_;refine W.rI hm (.tail _ (.head _)) I I I I I (ev kI) ?_;refine fO ?_;refine W.eR I I I I c3b ?_;refine fO ?_;refine W.rI ho (.tail _ (.tail _ (.head _))) I I I I c3c (a2S.eqb _ (bs _) (by show _<=b.bp+1000;omega)) ?_;generalize wi:a9.next=qt;refine W.cC (c:=[.i .u8 0,.s [],.af,.af]) H wi I I I λbu er H k3=>?_;refine W.cC (c:=[.i .u8 0,.s [],.af,.af]) H er I I I λcm e_ H b1=>?_;have Ae:∀i o,a9.get i=some o->cm.get i=some o:=λi o h=>b1 _ _ (k3 _ _ h);have F9:hK cm [(q+4,[aE (q+3)]),(q+3,[dT,d_,eg]),(o,Sh)]:=((hK.nil.cons (Ae _ _ ho)).cons (Ae _ _ hm)).cons (Ae _ _ h2.m);refine W.mO F9 I ?_;refine W.st (bD:=fD x.f a2P) H 1 I I I I I I λdg iW H c9=>?_;have d0g:=ae.bt h2.m;have cY:=ae.bt ho;have lm:=ae.bt hm;have c3d:hK dg [(q+4,[aE (q+3)]),(q+3,[dT,d_,eg]),(o,Sh)]:=((hK.nil.cons (c9 _ _ (by simp;omega) (Ae _ _ ho))).cons (c9 _ _ (by simp;omega) (Ae _ _ hm))).cons (c9 _ _ (by simp;omega) (Ae _ _ h2.m));refine W.mO c3d I ?_;refine W.st (bD:=fD y.f a2R) H 0 I I I I I I λeA jf H et=>?_;have M:dN a9 eA:=⟨U,λi o h=>by have:=ae.bt h;exact et _ _ (by simp;omega) (c9 _ _ (by simp;omega) (Ae _ _ h))⟩
 have cn:=h2.hM M;refine eT ?_;refine W.EB ?_;have d0h:=cn.a;have Sa:=ae.bt h2.a;refine eT ?_;refine W.bin I I I I (vB (c:=10) bw) ?_;refine W.nil ?_;refine ak.block ?_;refine ak.norm (pC q n a c qt (qt+1) can) dp λF=>?_;have aP:∀ {f v},e1 (λi=>¬bP i) a9 f v->e1 (λi=>¬bP i) eA f v:=λh=>h.aP (λi c hi ab=>⟨hi,M.2 _ _ ab⟩) _ (bs _);exact c2W cc (ea:=qt) (eX:=qt+1) (gq:=a2P) (hr:=a2R) ⟨cn,hR,a7,ca,Gb,Gc,⟨x,hx,rfl⟩,⟨y,hy,rfl⟩,H.get _ (.tail _ (.head _)),H.get _ (.head _),aP a2Q,aP a2S,U⟩ hn (c2Y.aP λi o _=>M.2 i o) gj Ga b6
end
def Sl.new{τ:ae}{v:AV}{xs:List AV}(h:Sl τ none v xs)(a7:xs≠[]):newOf τ v=some xs:=by
 cases h with
 |nil=>exact absurd I a7
 |al o cap xs rest h ab ay=>exact(Sl.al o cap xs rest h ab ay).read
section
variable {J τ:ae}{q at_:Nat}{cK:AV}{bP:Nat->Prop}{L:List ba}{ad:List (List Nat)}{az:List Nat}{b:bT}{K:Nat->List AV->AV->Prop}
def Si{ad:List (List Nat)}:ad.flatten.length=(ad.map List.length).sum:=List.length_flatten
def a2T{ad:List (List Nat)}{j:Nat}(h:j<ad.length):(ad.take (j+1)).flatten=(ad.take j).flatten++ad[j]:=by rw[lO h,List.flatten_append];simp
def c3e(cc:kX b K){code:List Nat}(au:∀τ,iO τ none cK (code.map fa))(hl:code.length<2^62)(hb:∀x∈code,x<256)(fS:at_<=30)(h:ky J q cK at_ bP L ad az τ)(hR:Rd L ad az)(a7:L≠[])(ca:L.length+ad.length<=36){z:Nat->AV}{Q:dZ}(b6:∀F aB,sat (ia q) F->Out J q cK (pA code (pA code at_)) (L.length+ad.length+2) aB->Q .normal F aB):
  bL (b.aM K) none [] Yw.ntmps (hN a2N nm) (bB (ia q) z) τ Q:=by
 have aW:=hR.inv;have CC:=aW.sum;have hfn:=aW.ne;have H:Has τ []:=Has.nil;refine W.sq (W.rg ?_);refine e5 ?_;refine W.an trivial I I I (h.next cc.sf au hl hb fS) λr ec ⟨ar,h1,cP,bx⟩=>⟨_,ar,?_⟩
 have hn:=a2v hb at_;generalize pz code at_=n at hn ⊢;have H:Has ec []:=Has.nil;refine e5 ?_;refine W.nil (W.sq (W.rg ?_));refine e5 ?_;refine W.nil (W.sq (W.sq (W.rg ?_)));obtain⟨dT,d_,eg,du,a8,hm,Sj,e0,hj,hf,ep,l2,hg,hB,jH,ao⟩:=h1.ms.ex;have H:Has ec [(q+4,[aE (q+3)]),(q+3,[dT,d_,eg])]:=(Has.nil.cons hm aF).cons h1.m aF;have kH:=hf.vw;have Sa:=ae.bt h1.a;refine e5 ?_;refine W.nil ?_;refine ak.each a8.length (λj F aB=>(∃can,F 7=can/\fg aB can (ad.take j).flatten/\∀o,can.at? =some o->ec.next<=o)/\dN ec aB/\sat ((48,d_)::(6,ah n)::ia q) F) U ⟨⟨.af,rfl,.nil,λo h=>by cases h⟩,⟨bs _,λ_ _ h=>h⟩,rfl,rfl,rfl,rfl,rfl,rfl,trivial⟩ I I (λj F aB ax nK hi wV=>?_) (λF aB nK hi=>?_)
 ·obtain⟨⟨can,hH,oN,mw⟩,M,a2U,gU,dm,cX,cp,bU,_⟩:=nK;refine ak.norm ((50,ah j)::(49,ah a8.length)::(48,d_)::(7,can)::(6,ah n)::ia q) ⟨hi,wV,a2U,hH,gU,dm,cX,cp,bU,trivial⟩ λF=>?_;have H:Has aB []:=Has.nil;have kH:=(hf.aP (τ:=aB) λi o _=>M.2 i o).vw;have a2V:=(l2 j ax U).aP (τ:=aB) λi o _=>M.2 i o;have a2W:ad[j]'U≠[]:=aW.F7 a7 _ (gC _);have Iw:(ad.take j).flatten.length+(ad[j]'U).length<=L.length:=by
   have h1:=congrArg List.length (a2T (show j<ad.length by omega));rw[dv] at h1;have h2:((ad.take (j+1)).map List.length).sum<=(ad.map List.length).sum:=by
    conv=>rhs;rw[<-yU (j+1) ad,hQ,Kb]
    omega
   rw[<-Si] at h2;omega
  refine ak.block ?_;refine eT ?_;generalize a8[j]'ax=c3f at a2V ⊢;have lR:=a2V.new (by simpa using a2W);obtain⟨y,bf,hy⟩:∃y bf,(ad[j]'U).map ah=y::bf:=by
   cases hx:(ad[j]'U).map ah with
   |nil=>exact absurd (by simpa using hx) a2W
   |cons y bf=>exact⟨y,bf,rfl⟩
  rw[hy] at lR;refine W.ap (w:=c3f) y bf oN lR (λz a6=>by rw[<-hy] at a6;obtain⟨k,_,rfl⟩:=ti.1 a6;rfl) (by
   rw[<-hy,uV,uV];show(3*(_+_)+2000)*8<=_;omega) I I I I λc3g bu Ku rr _ er k3=>?_
  have H:Has bu []:=Has.nil;refine eT ?_;have d0i:=M.1;refine⟨rfl,rfl,⟨c3g,rfl,?_,λo ho=>by rw[rr] at ho;have:=wF ho;omega⟩,⟨U,λi o h=>k3 _ _ (λe=>by have:=mw _ e;have:=ae.bt h;omega) (M.2 _ _ h)⟩,rfl,rfl,rfl,rfl,rfl,rfl,trivial⟩;unfold fg;rw[a2T (show j<ad.length by omega),hQ,hy];exact Ku
 ·obtain⟨⟨can,hH,oN,mw⟩,M,a2U,gU,dm,cX,cp,bU,_⟩:=nK;rw[ep,B0] at oN;refine ak.norm ((7,can)::(6,ah n)::ia q) ⟨hH,gU,dm,cX,cp,bU,trivial⟩ λF=>?_;refine(c2X cc au hl hb (Lc fS) (h1.hM M) hR a7 ca hn oN (λo ho=>?_) (λe he=>?_) ?_ ?_ b6)
  ·have U4:=mw o ho;exact⟨U,λn1=>by have:=h1.ms.lt _ n1;omega⟩
  ·obtain⟨k,h1,h2⟩:=List.mem_flatten.1 he;exact⟨k,h1,h2⟩
  ·rw[Si];have:=a2w (gC (show 0<ad.length by omega));have h0:=aW.F7 a7 _ (gC (show 0<ad.length by omega));have:=pM.2 h0;omega
  ·rw[Si];omega
def c3h(code:List Nat)(at_ n:Nat):Prop:=n<=4+at_\/n<=5+at_/\(code.length<=at_\/30<=at_)
def c3i(cc:kX b K)(h:ky J q cK at_ bP L ad az τ)(hR:Rd L ad az)(a7:L≠[])(ca:L.length+ad.length<=36){z:Nat->AV}{Q:dZ}(b6:∀F aB L ad az dT d_ eg bP,ky J q cK at_ bP L ad az aB->Rd L ad az->L≠[]->L.length<=35->ad.length=1->aB.get (q+3)=some (.cells [dT,d_,eg])->F 2=dT->Q .ret F aB):
  bL (b.aM K) none [] Yw.ntmps (hN [1,1,1,1,1,1] nm) (bB (ia q) z) τ Q:=by
 refine W.sq ?_;refine ak.block (ak.loop (λk F aB=>(∃bP L ad az,ky J q cK at_ bP L ad az aB/\Rd L ad az/\L≠[]/\L.length+ad.length<=36/\ad.length=k)/\sat (ia q) F) (λk F aB nK=>?_) ad.length ⟨⟨_,_,_,_,h,hR,a7,ca,rfl⟩,rfl,rfl,rfl,rfl,trivial⟩);obtain⟨⟨bP,L,ad,az,h,hR,a7,ca,ay⟩,dm,cX,cp,bU,_⟩:=nK;refine ak.norm (ia q) ⟨dm,cX,cp,bU,trivial⟩ λF=>?_;obtain⟨dT,d_,eg,du,a8,hm,Sj,e0,hj,hf,ep,l2,hg,hB,jH,ao⟩:=h.ms.ex;have H:Has aB [(q+4,[aE (q+3)]),(q+3,[dT,d_,eg])]:=(Has.nil.cons hm aF).cons h.m aF;have kH:=hf.vw;have hfn:=hR.inv.ne;refine W.sq (W.sq (W.rg ?_));refine e5 ?_;by_cases h2:2<=ad.length
 ·refine aj ?_;refine W.an trivial I I I (a2x cc h hR a7 U h2) λr eA ⟨ar,gJ,kW,bd,fW,aX,bc,cq,ew,eJ⟩=>⟨_,ar,?_⟩
  refine aj ?_;exact⟨bd.length,U,⟨_,_,_,_,aX,bc,cq,U,rfl⟩,rfl,rfl,rfl,rfl,trivial⟩
 ·refine aj ?_;refine ak.exit ?_;show bL _ _ _ _ _ _ _ _;refine aj ?_;exact ak.ret (b6 _ _ _ _ _ _ _ _ _ h hR a7 U U hm I)
def c3j(cc:kX b K)(hh:bk (b.aM K) JK Yw){code:List Nat}(au:∀τ,iO τ none cK (code.map fa))(lD:cK.cells=[cK]/\cK.val=true)(hl:code.length<2^62)(hb:∀x∈code,x<256):
  bE (b.aM K) 0 (.f (.func JK) [] []) [cK] J (λr τ=>∃(L:List ba) (ad:List (List Nat)) (az:List Nat) (v:AV) (du:List AV) (bP:Nat->Prop),r= .ok v/\Rd L ad az/\ad.length=1/\L≠[]/\L.length<=35/\Sl τ (some 9) v du/\du.length=L.length/\(∀i (h:i<du.length) (h':i<L.length),kV (λi=>¬bP i) τ L[i] du[i])/\(∀o l c,v= .al o 0 l (some 9) c->c=none)/\(∀o,v.at? =some o->bP o)/\(∀o,bP o->J.next<=o)/\dN J τ):=by
 refine W.xF hh I I I I λz H=>?_;generalize aV:J.next=q;have fin:∀(F:Nat->AV) (aB:ae) at_ bP (L:List ba) ad az,ky J q cK at_ bP L ad az aB->Rd L ad az->L≠[]->L.length+ad.length<=36->bL (b.aM K) none [] Yw.ntmps (hN [1,1,1,1,1,1] nm) (bB (ia q) F) aB (λx b_ ai=>x= .ret/\∃(L:List ba) (ad:List (List Nat)) (az:List Nat) (v:AV) (du:List AV) (bP:Nat->Prop),en.ok (b_ 2)= .ok v/\Rd L ad az/\ad.length=1/\L≠[]/\L.length<=35/\Sl ai (some 9) v du/\du.length=L.length/\(∀i (h:i<du.length) (h':i<L.length),kV (λi=>¬bP i) ai L[i] du[i])/\(∀o l c,v= .al o 0 l (some 9) c->c=none)/\(∀o,v.at? =some o->bP o)/\(∀o,bP o->q<=o)/\dN J ai):=λF aB at_ bP L ad az h hR a7 ca=>c3i cc h hR a7 ca λd0j ke L ad az dT d_ eg bP h hR a7 hL h1 hm a5=>by
  obtain⟨uI,nT,py,du,a8,n1,Sj,e0,hj,hf,ep,l2,hg,hB,jH,ao⟩:=h.ms.ex;rw[hm] at n1;cases n1;have Sa:=ae.bt h.a;exact⟨rfl,L,ad,az,dT,du,bP,by rw[a5],hR,h1,a7,hL,Sj,e0,hj,hB.2,λo ho=>(ao.l o ho).1,λo ho=>(h.qz o ho).1,U,λi o hi=>h.old i o (by have:=ae.bt hi;omega) hi⟩
 refine W.sq (W.rg ?_);refine W.cA (c:=[cK]) H aV I I I lD.2 lD.1 λec cP H bx=>?_;refine eT ?_;refine W.bK (c:=[.af]) H cP I I I λa9 c8 H bb=>?_;refine W.bK (c:=[ah 0]) (k:=q+2) H U I I I λbu er H k3=>?_;refine W.jQ (c:=[.af,.al (q+1) 0 1 none (some 1),.al (q+2) 0 1 none (some 1)]) I I I ?_;refine W.cA (c:=[.af,.al (q+1) 0 1 none (some 1),.al (q+2) 0 1 none (some 1)]) (k:=q+3) H U I I I I I λcm e_ H b1=>?_;refine W.jj (c:=[aE (q+3)]) (k:=q+4) H U I I I I I I λdg iW H c9=>?_;refine eT ?_;refine W.jj (c:=[ah 0]) (k:=q+5) H U I I I I I I λeA jf H et=>?_;have c7:∀i o,J.get i=some o->eA.get i=some o:=λi o h=>et _ _ (c9 _ _ (b1 _ _ (k3 _ _ (bb _ _ (bx _ _ h)))));have bU:=H.get (q+1,[.af]) aF;have bV:=H.get (q+2,[ah 0]) aF;have c3k:kx eA (q+3) (λi=>i=q+1\/i=q+2\/i=q+3) [] [[]] [0]:=by
  refine⟨λi hi=>by omega,.af,.al (q+1) 0 1 none (some 1),.al (q+2) 0 1 none (some 1),[],[.af],H.get _ (.tail _ (.tail _ (.head _))),.nil,rfl,λi h=>by simp at h,.al (q+1) (some 1) [.af] [] bU (λy hy=>by rw[uT.1 hy];rfl) (.inr I),rfl,λi h h'=>?_,.one bV,⟨(λh=>by simp at h),λo l c h=>by cases h⟩,.inr (.inr rfl),⟨(λo h=>by cases h),λo h=>?_,λo h=>?_,λi h o ho=>?_,λi j h h' hG=>?_⟩⟩
  ·cases i with
   |zero=>exact .nil
   |succ i=>simp at h
  ·cases h;exact⟨.inl I,U,λe=>by have:=wF e;omega⟩
  ·cases h;exact⟨.inr (.inl I),U⟩
  ·cases i with
   |zero=>cases ho
   |succ i=>simp at h
  ·simp at h h';omega
 have h0:ky J q cK 0 (λi=>i=q+1\/i=q+2\/i=q+3) [] [[]] [0] eA:=⟨c3k,λi hi=>by omega,H.get (q,[cK]) aF,H.get _ (.tail _ (.head _)),H.get _ (.head _),λi o _ h=>c7 i o h⟩
 refine eT ?_;refine W.an trivial I I I (h0.next cc.sf au hl hb U) λr eW ⟨ar,dI,k6,gk⟩=>⟨_,ar,?_⟩
 have H:Has eW []:=Has.nil;refine W.bin I I I I (vB (c:=3) bw) ?_;have y8:pz code 0%3<3:=FL _ bw;generalize pz code 0%3=o1 at y8 ⊢;refine W.bin I I I I (sz (a:=1) (b:=o1) U) ?_;refine eT ?_;refine ak.norm ((26,ah 0)::(25,ah (1+o1))::ia q) dp λF=>?_;refine ak.each (1+o1) (λj F aB=>(∃at_ bP L f0,ky J q cK at_ bP L [f0] [0] aB/\Rd L [f0] [0]/\(∀x∈L,x.hyp=true/\x.br=0)/\L.length=j/\at_<=30)/\sat (ia q) F) U ⟨⟨_,_,_,_,dI,.nil,λx hx=>by simp at hx,rfl,Lc U⟩,rfl,rfl,rfl,rfl,trivial⟩ I I (λj F aB ax nK hi wV=>?_) (λF aB nK hi=>?_)
 ·obtain⟨⟨at_,bP,L,f0,h,hR,Sk,hlen,fS⟩,dm,cX,cp,bU,_⟩:=nK;refine ak.norm ((26,ah j)::(25,ah (1+o1))::ia q) ⟨hi,wV,dm,cX,cp,bU,trivial⟩ λF=>?_;have H:Has aB [(q+4,[aE (q+3)])]:=Has.nil.cons h.m aF;have HB:=H.b;refine ak.block ?_;refine W.wb [(q+4,[aE (q+3)])] [3,5] 6 I I ?_;refine fO ?_;refine W.an (cc.q.one I) I I I (h.next cc.sf au hl hb fS) λr a9 ⟨ar,h2,c8,bb⟩=>⟨_,ar,?_⟩
  have hn:=a2v hb at_;generalize pz code at_=n at hn ⊢;refine W.mO (hK.nil.cons h2.m) I ?_;refine W.an (cc.q.one I) I I I (K6 cc.wg cc.pB cc.at_ n U) λr fI ⟨wp,ar,aw,iP⟩=>⟨_,ar,?_⟩
  have o5:wp.cells=[wp]/\wp.val=true:=by
   cases aw with
   |mk _ w xs h1 h2 h3=>exact⟨h2.one.1,h2.one.2.1⟩
  have fu:=h2.hM iP;have Se:e1 (λi=>¬bP i) fI (fm n) (.R (fD (fm n) wp)):=aw.aP (λi c hi ab=>⟨λhm=>by have:=h2.ms.lt _ hm;omega,ab⟩) _ (bs _);have kJ:=x0 n;have aW:=hR.inv;have CC:f0.length<=L.length:=by simpa using aW.sum
  refine W.jQ (c:=[ah 0,ah 0,.b true,.i .u8 (Int.ofNat (fm n).op),.s (fm n).bO,.af,wp,.s [],.af]) I I (qs I I I (qs I I I I)) ?_;refine W.mO (hK.nil.cons fu.m) I ?_;refine W.an (cc.q.one I) I I I (FT cc.we fu.ms aF ⟨U,aF,λl hl=>by rw[uT.1 hl];omega⟩ (x:=⟨0,0,true,fm n,[],[]⟩) (.mk wp .af Se .nil) (by show(fm n).dep<=400;omega)) λr ke ⟨ar,a2M,nB,fo⟩=>⟨_,ar,?_⟩
  refine fO ?_;exact⟨rfl,rfl,⟨_,_,_,_,fu.F8 nB fo,.step hR (.wc f0 n Sk),λx hx=>by
   rcases tl.1 hx with hx|hx
   ·exact Sk x hx
   ·rw[uT.1 hx];exact⟨rfl,rfl⟩,by simp[hlen],Lc fS⟩,rfl,rfl,rfl,rfl,trivial⟩
 ·obtain⟨⟨at_,bP,L,f0,h,hR,Sk,hlen,fS⟩,dm,cX,cp,bU,_⟩:=nK;refine ak.norm (ia q) ⟨dm,cX,cp,bU,trivial⟩ λF=>?_;refine W.sq ?_;refine ak.block (ak.loop (λk F aB=>(∃at_ bP L ad az,ky J q cK at_ bP L ad az aB/\Rd L ad az/\L≠[]/\at_<=30/\c3h code at_ (L.length+ad.length)/\30-at_<=k)/\sat (ia q) F) (λk F aB nK=>?_) (30-at_) ⟨⟨_,_,_,_,_,h,hR,λe=>by subst e;simp at hlen;omega,fS,.inl (by simp;omega),bs _⟩,rfl,rfl,rfl,rfl,trivial⟩);obtain⟨⟨at_,bP,L,ad,az,h,hR,a7,fS,ca,ay⟩,dm,cX,cp,bU,_⟩:=nK;refine ak.norm (ia q) ⟨dm,cX,cp,bU,trivial⟩ λF=>?_;have H:Has aB [(q+5,[ah at_]),(q,[cK])]:=(Has.nil.cons h.c aF).cons h.a aF;have Bd:=au aB;have KS:(code.map fa).length=code.length:=uV _;refine W.sq (W.sq (W.rg ?_));refine e5 ?_;rw[KS];by_cases hU:at_<code.length
  ·by_cases m4:at_<30
   ·refine e5 ?_;refine W.nil (W.lL I (W.EA ?_));refine ak.block ?_;refine ak.norm (ia q) dp λF=>?_;have d0k:L.length+ad.length<=4+at_:=by rcases ca with h|h<;>omega
    refine c3e cc au hl hb fS h hR a7 U λF ke b2 ⟨gJ,kW,bd,fW,h',DY,Gd,d0l⟩=>?_;have aL:pA code at_=at_+1:=by unfold pA;rw[if_pos ⟨hU,m4⟩]
    rw[aL] at h';refine⟨k-1,U,⟨_,_,_,_,_,h',DY,Gd,Lc U,?_,?_⟩,b2⟩
    ·unfold pA;by_cases qg:at_+1<code.length/\at_+1<30
     ·rw[if_pos qg];exact .inl U
     ·rw[if_neg qg];exact .inr U
    ·unfold pA;split<;>omega
   ·refine e5 ?_;refine W.nil (W.lM I ?_);refine ak.exit ?_;show bL _ _ _ _ (hN [1,1,1,1,1,1] nm) _ _ _;exact ak.norm (ia q) dp λF=>fin F aB _ _ _ _ _ h hR a7 (by rcases ca with h|h<;>omega)
  ·refine e5 ?_;refine W.nil (W.lM I ?_);refine ak.exit ?_;show bL _ _ _ _ (hN [1,1,1,1,1,1] nm) _ _ _;exact ak.norm (ia q) dp λF=>fin F aB _ _ _ _ _ h hR a7 (by rcases ca with h|h<;>omega)
end
section
variable {b:bT}{K:Nat->List AV->AV->Prop}
abbrev pre(L:List ba)(m:Nat):List bg:=(L.take m).map ba.bA
def Z5{W:Nat->Prop}{τ:ae}{v:AV}{du:List AV}{L:List ba}(ao:Sl τ (some 9) v du)(a7:L≠[])(hl:du.length=L.length)(hj:∀i (h:i<du.length) (h':i<L.length),kV W τ L[i] du[i])(hd:∀x∈L,x.f.dep<=200):bM τ (b.bp+1000) v=some (cG (L.map ba.bA)):=by
 have hm:mapO (bM τ (b.bp+999)) du=some ((L.map ba.bA).map bg.A):=zP (by rw[uV,uV,hl]) λi h1 h2=>by
  rw[mQ,mQ];exact(hj i h1 U).snap (by have:=hd _ (gC (show i<L.length by omega));omega)
 rw[ao.zX (λe=>absurd (Rv.1 (by rw[<-hl,e];rfl)) a7) hm];cases L with
 |nil=>exact absurd I a7
 |cons x l=>rfl
end
end
section
variable [Tok][TokOk]
open Go.RowKit Go.Lyc.T
def wj{A C:List bg}:∀ {i:Nat},i<=A.length->stF (A++C) i=stF A i
 |0,_=>rfl
 |i+1,h=>by
  rw[Fh (show i<A.length by omega),Fh (L:=A++C) (by rw[dv];omega),wj U,cM U]
structure Lh(L:List ba)(ad:List (List Nat))(az:List Nat):Prop where
 st:stF (L.map ba.bA) L.length=az.tail
 mem:∀d (h:d<ad.length),∀c∈ad[d],stF (L.map ba.bA) c=az.tail.take d
 fst:∀k first,1<=k->az[k]? =some first->stF (L.map ba.bA) first=az.tail.take k
 hyp:∀x∈L,x.hyp=true->x.op=0->x.br=0
def c3l{L:List ba}{x:ba}:stF ((L++[x]).map ba.bA) (L++[x]).length=zK (stF (L.map ba.bA) L.length) L.length x.bA:=by
 rw[hQ,dv,show L.length+[x].length=L.length+1 from rfl,Fh aF,wj aF];simp
def qy.b{L:List ba}{ad bd:List (List Nat)}{az fW:List Nat}{x:ba}(aW:x1 L ad az)(ca:Lh L ad az)(h:qy L ad az x bd fW):Lh (L++[x]) bd fW:=by
 have Kp:=h.inv aW;have hlen:=aW.len;have hold:∀c,c<=L.length->stF ((L++[x]).map ba.bA) c=stF (L.map ba.bA) c:=λc ab=>by rw[hQ,wj (by simpa using ab)]
 have cR:stF ((L++[x]).map ba.bA) (L.length+1)=az.tail.take (x.br-x.op)++List.replicate x.op (L.length+1):=by
  have:=c3l (L:=L) (x:=x);rw[dv,show L.length+[x].length=L.length+1 from rfl] at this;rw[this,ca.st];rfl
 have Li:(L++[x]).length=L.length+1:=by simp
 have hall:(x.hyp=true->x.op=0->x.br=0)->∀y∈L++[x],y.hyp=true->y.op=0->y.br=0:=λh1 y hy=>by
  rcases tl.1 hy with h|h
  ·exact ca.hyp y h
  ·rw[uT.1 h];exact h1
 have CF:∀f∈ad,∀c∈f,c<=L.length:=λf hf c ab=>(aW.mem f hf c ab).2;have Sm:∀k first,1<=k->az[k]? =some first->first<=L.length:=λk first h1 h2=>by
  obtain⟨aX,n,bc⟩:=aW.fst k first h1 h2
  have:=(jK.1 bc).1;omega
 cases h with
 |wc f n aw=>
  have e:stF ((L++[Go.Lyc.wc n]).map ba.bA) (L.length+1)=[]:=by rw[cR];rfl
  refine⟨by rw[Li,e];rfl,λd hd c ab=>?_,λk first h1 h2=>?_,hall λ_ _=>rfl⟩
  ·have oi:d=0:=by simpa using hd
   subst oi;simp only[C4] at ab;rcases tl.1 ab with ab|ab
   ·rw[hold c (CF f aF c ab)];exact ca.mem 0 aF c ab
   ·rw[uT.1 ab,e];rfl
  ·rw[q1 (by simp;omega)] at h2;cases h2
 |CA _ _ n a7 bI=>
  have Gd:az≠[]:=λe=>by rw[e] at hlen;have:=aW.ne;simp at hlen;omega
  have ht:(az++[L.length+1]).tail=az.tail++[L.length+1]:=Rw Gd;have hn:=aW.ne;have e:stF ((L++[(⟨ad.length,1,true,fm n,[],[]⟩:ba)]).map ba.bA) (L.length+1)=az.tail++[L.length+1]:=by
   rw[cR];show az.tail.take (ad.length-1)++[L.length+1]=_;rw[Rx (by rw[qv];omega)]
  have Ge:az.tail.length=ad.length-1:=by rw[qv,hlen]
  refine⟨by rw[Li,e,ht],λd hd c ab=>?_,λk first h1 h2=>?_,hall λ_ h=>by cases h⟩
  ·rw[ht];by_cases jO:d<ad.length
   ·rw[cM jO] at ab;rw[hold c (CF _ (gC jO) c ab),ca.mem d jO c ab,rn U]
   ·have a5:d=ad.length:=by simp at hd;omega
    subst a5;rw[xE I] at ab;rw[uT.1 ab,e,Rx (by simp;omega)]
  ·rw[ht];by_cases ay:k<az.length
   ·rw[E7 ay] at h2;rw[hold first (Sm k first h1 h2),ca.fst k first h1 h2,rn U]
   ·rw[a0s U] at h2;have kL:k-az.length=0:=by
     rcases z4 (k-az.length) with h|h
     ·exact h
     ·rw[q1 (by simp;omega)] at h2;cases h2
    rw[kL] at h2;cases h2;rw[e,Rx (by simp;omega)]
 |ps F f _ a7 ab=>
  simp only[dv,CZ,lg] at hlen;have Ge:az.tail.length=F.length:=by rw[qv];omega
  rename_i g gy l;have e:stF ((L++[(⟨F.length,0,false,g,gy,l.map λn=>(n,n)⟩:ba)]).map ba.bA) (L.length+1)=az.tail:=by
   rw[cR];show az.tail.take (F.length-0)++[]=_;rw[iL,Rx U]
  refine⟨by rw[Li,e],λd hd c ab=>?_,λk first h1 h2=>by rw[hold first (Sm k first h1 h2)];exact ca.fst k first h1 h2,hall λh=>by cases h⟩;by_cases jO:d<F.length
  ·rw[cM jO] at ab;have:=ca.mem d (by simp;omega) c (by rw[cM jO];exact ab);rw[hold c (CF _ (NK _ (gC jO)) c ab),this]
  ·have a5:d=F.length:=by simp at hd;omega
   subst a5;rw[xE I] at ab;rcases tl.1 ab with ab|ab
   ·have:=ca.mem F.length aF c (by rw[xE I];exact ab);rw[hold c (CF _ aF c ab),this]
   ·rw[uT.1 ab,e,Rx U]
 |shut F kL f _ first hx hy=>
  simp only[dv,CZ,lg] at hlen;rename_i de ey;have ep:fW.length=F.length+1:=by omega
  have Gd:fW≠[]:=λe=>by rw[e] at ep;simp at ep
  have ht:(fW++[first]).tail=fW.tail++[first]:=Rw Gd;have Ge:fW.tail.length=F.length:=by rw[qv];omega
  have e:stF ((L++[({nS de.f ey.f first L.length with br:=F.length}:ba)]).map ba.bA) (L.length+1)=fW.tail:=by
   rw[cR,ht];have dP:({nS de.f ey.f first L.length with br:=F.length}:ba).op=0/\({nS de.f ey.f first L.length with br:=F.length}:ba).br=F.length:=by
    rw[CB];cases decide (ey.f= .cO)<;>exact⟨rfl,rfl⟩
   rw[dP.1,dP.2];show(fW.tail++[first]).take (F.length-0)++[]=_;rw[iL,OR,rn U,Rx U]
  have iq:∀d,d<=F.length->(fW++[first]).tail.take d=fW.tail.take d:=λd hd=>by rw[ht,rn U]
  refine⟨by rw[Li,e],λd hd c ab=>?_,λk CD h1 h2=>?_,hall λh=>by
   rw[CB] at h;cases hd:decide (ey.f= .cO)<;>rw[hd] at h<;>cases h⟩
  ·by_cases jO:d<F.length
   ·rw[cM jO] at ab;have:=ca.mem d (by simp;omega) c (by rw[cM jO];exact ab);rw[hold c (CF _ (NK _ (gC jO)) c ab),this,iq d U]
   ·have a5:d=F.length:=by simp at hd;omega
    subst a5;rw[xE I] at ab;rcases tl.1 ab with ab|ab
    ·have:=ca.mem F.length aF c (by simp;exact ab);rw[hold c (CF _ aF c ab),this,iq _ (bs _)]
    ·rw[uT.1 ab,e,Rx U]
  ·have ay:=(jK.1 h2).1;have h3:(fW++[first])[k]? =some CD:=by rw[E7 ay];exact h2
   rw[hold CD (Sm k CD h1 h3),ca.fst k CD h1 h3,iq k U]
def Rd.b{L:List ba}{ad:List (List Nat)}{az:List Nat}(h:Rd L ad az):Lh L ad az:=by
 induction h with
 |nil=>
  refine⟨rfl,λd hd c ab=>?_,λk first h1 h2=>?_,λx hx=>by simp at hx⟩
  ·have e:d=0:=by simpa using hd
   subst e;simp at ab
  ·rw[q1 (by simp;omega)] at h2;cases h2
 |step hR h aH=>exact h.b hR.inv aH
def Rd.fU{L:List ba}{ad:List (List Nat)}{az:List Nat}(h:Rd L ad az):∀i (hi:i<L.length),∃ej pD xh kz,Rd (L.take i) ej pD/\qy (L.take i) ej pD L[i] xh kz:=by
 induction h with
 |nil=>intro i hi;simp at hi
 | @step L ad az x bd fW hR h aH=>
  intro i hi;by_cases h1:i<L.length
  ·obtain⟨a,c,d,e,h2,h3⟩:=aH i h1;rw[rn U,cM h1];exact⟨a,c,d,e,h2,h3⟩
  ·have e:i=L.length:=by rw[dv] at hi;simp only[CZ,lg] at hi;omega
   subst e;rw[List.take_left,xE I];exact⟨_,_,_,_,hR,h⟩
def oM.ne{L:List ba}{C:Nat->Prop}{g:PF}{gy l:List Nat}(h:oM L C g gy l):gy≠[]/\(∀c∈l,C c)/\l.length<=2:=by
 cases h with
 |and h1 h2=>exact⟨by simp[F4],by simp;exact⟨h1,h2⟩,aF⟩
 |or n h1=>exact⟨by simp[F5],by simp;exact h1,aF⟩
 |g4 q h1=>exact⟨by simp[Go.Lyc.g4],by simp;exact h1,aF⟩
 |imp h1 h2=>exact⟨by simp[xY],by simp;exact⟨h1,h2⟩,aF⟩
 |not h1 h2=>exact⟨by simp[xZ],by simp;exact⟨h1,h2⟩,aF⟩
 |again h1=>exact⟨by simp[a2q],by simp;exact h1,aF⟩
 |z9 n h1=>exact⟨by simp[F6],by simp;exact h1,aF⟩
def Lj{L:List ba}{C:List bg}(a7:L≠[]){y:ba}(hy:L[L.length-1]? =some y):qq (L.map ba.bA++C) (L.length+1)=(y.hyp,y.br):=by
 have aw:=pM.2 a7;unfold qq;rw[if_pos U,show L.length+1-2=L.length-1 by omega,E7 (by simp;omega),fG,hy];rfl
def qy.shape{L:List ba}{ad bd:List (List Nat)}{az fW:List Nat}{x:ba}(aW:x1 L ad az)(h:qy L ad az x bd fW)(C:List bg):rz x.bA (qq (L.map ba.bA++C) (L.length+1)) (L.length+1)=true/\x.br<=4/\x.op<=x.br/\x.br-x.op<=ad.length-1/\x.cs.length<=2/\∀ac∈x.cs,1<=ac.1/\ac.1<=ac.2/\ac.2<L.length+1:=by
 have hle:=aW.le;have uL:L≠[]->∃y:ba,L[L.length-1]? =some y/\y.br=ad.length-1:=λa7=>by
  have aw:=pM.2 a7;exact⟨L[L.length-1]'U,fw _,(aW.last a7).2 _ (fw _)⟩
 cases h with
 |wc f n aw=>
  refine⟨?_,by show 0<=4;omega,bs _,rU _,rU _,λac h=>by cases h⟩;by_cases a7:L=[]
  ·subst a7;rfl
  ·obtain⟨y,hy,_⟩:=uL a7;have a2X:=aw y (fL hy);rw[Lj a7 hy,a2X.1,a2X.2];rfl
 |CA _ _ n a7 bI=>
  obtain⟨y,hy,hd⟩:=uL a7;have h0:=aW.ne;refine⟨?_,by show ad.length<=4;omega,by show 1<=ad.length;omega,bs _,rU _,λac h=>by cases h⟩;rw[Lj a7 hy,hd];show(decide (ad.length<=40/\1<=ad.length)&&(decide (ad.length-1<=ad.length-1)&&true))=true;rw[decide_eq_true U,decide_eq_true U];rfl
 |ps F f _ a7 ab=>
  rename_i g gy l;obtain⟨y,hy,hd⟩:=uL a7;obtain⟨hU,m4,qg⟩:=ab.ne;simp only[dv,CZ,lg] at hle hd;have gS:∀ac∈l.map (λn=>(n,n)),1<=ac.1/\ac.1<=ac.2/\ac.2<L.length+1:=λac eH=>by
   obtain⟨c,iD,rfl⟩:=ti.1 eH;obtain⟨k,h1,h2⟩:=m4 c iD;have:=aW.mem k h1 c h2;exact⟨this.1,bs _,by show c<_;omega⟩
  refine⟨?_,by show F.length<=4;omega,rU _,by show F.length-0<=_;simp,by show(l.map _).length<=2;rw[uV];exact qg,gS⟩;rw[Lj a7 hy,hd];show(decide (F.length<=40/\0<=F.length)&&(decide (F.length-0<=F.length+(0+1)-1)&&((l.map λn=>(n,n)).all (xI (L.length+1))&& !gy.isEmpty)))=true;rw[decide_eq_true U,decide_eq_true U,(nY.2 λac eH=>decide_eq_true (gS ac eH):(l.map λn=>(n,n)).all (xI (L.length+1))=true)];cases gy with
  |nil=>exact absurd I hU
  |cons _ _=>rfl
 |shut F e f _ first hx hy=>
  rename_i de ey;have a7:L≠[]:=λe=>by subst e;simp at hx
  have aw:=pM.2 a7;have hd:=(aW.last a7).2 _ hy;have hlen:=aW.len;simp only[dv,CZ,lg] at hle hd hlen;obtain⟨f1,n,f2⟩:=aW.fst fW.length first U aF
  have jB:=(jK.1 hx).1;have gS:1<=first/\first<=L.length/\L.length<L.length+1:=⟨f1,U,U⟩
  rw[Lj a7 hy,hd,CB];have Lg:∀(g:PF) (gy:List Nat),gy≠[]->rz (ba.bA ⟨F.length,0,false,g,gy,[(first,L.length)]⟩) (ey.hyp,F.length+2-1) (L.length+1)=true:=λg gy DC=>by
   show(decide (F.length<=40/\0<=F.length)&&(decide (F.length-0<=F.length+2-1)&&((decide (1<=first/\first<=L.length/\L.length<L.length+1)&&true)&& !gy.isEmpty)))=true;rw[decide_eq_true U,decide_eq_true U,decide_eq_true gS];cases gy with
   |nil=>exact absurd I DC
   |cons _ _=>rfl
  have kI:(F++[e,f]).length-1=F.length+1:=by simp
  have eH:∀ac∈[(first,L.length)],1<=ac.1/\ac.1<=ac.2/\ac.2<L.length+1:=λac h=>by rw[uT.1 h];exact gS
  rw[kI];cases decide (ey.f= .cO)
  ·exact⟨Lg _ _ (by simp[px]),by show F.length<=4;omega,rU _,by show F.length-0<=_;omega,by show 1<=2;omega,eH⟩
  ·exact⟨Lg _ _ (by simp[wa]),by show F.length<=4;omega,rU _,by show F.length-0<=_;omega,by show 1<=2;omega,eH⟩
def Rd.line{L:List ba}{ad:List (List Nat)}{az:List Nat}(h:Rd L ad az){k:Nat}{x:ba}(h1:1<=k)(hx:L[k-1]? =some x):∃ej pD xh kz,Rd (L.take (k-1)) ej pD/\qy (L.take (k-1)) ej pD x xh kz/\Rd (L.take (k-1)++[x]) xh kz/\(L.take (k-1)).length=k-1/\L=L.take (k-1)++[x]++L.drop k:=by
 obtain⟨h2,h3⟩:=jK.1 hx;obtain⟨a,c,d,e,bU,bV⟩:=h.fU (k-1) h2;rw[h3] at bV;refine⟨a,c,d,e,bU,bV,.step bU bV,by rw[fe];omega,?_⟩;conv=>lhs;rw[<-yU k L]
 congr 1
 have:k=k-1+1:=by omega
 rw[this,lO h2,h3,Cr]
def Rd.shape{L:List ba}{ad:List (List Nat)}{az:List Nat}(h:Rd L ad az){k:Nat}{x:ba}(h1:1<=k)(hx:L[k-1]? =some x):nN (L.map ba.bA) k=true/\x.br<=4/\x.op<=x.br/\x.br-x.op<=(stF (L.map ba.bA) (k-1)).length/\x.cs.length<=2/\∀ac∈x.cs,1<=ac.1/\ac.1<=ac.2/\ac.2<k:=by
 obtain⟨ej,pD,xh,kz,bU,bV,cp,hl,hL⟩:=h.line h1 hx;have ay:(L.take (k-1)).length+1=k:=by omega
 have aW:=bU.inv;obtain⟨s1,s2,eI,bh,ih,ij⟩:=bV.shape aW ([x.bA]++(L.drop k).map ba.bA);rw[ay] at s1 ij;have hm:L.map ba.bA=(L.take (k-1)).map ba.bA++([x.bA]++(L.drop k).map ba.bA):=by
  conv=>lhs;rw[hL]
  simp only[hQ,uW,B2,iE]
 refine⟨?_,s2,eI,?_,ih,ij⟩
 ·unfold nN;rw[fG,hx,hm];exact s1
 ·rw[hm,wj (by rw[uV];omega)];have:=bU.b.st;rw[hl] at this;rw[this,qv,aW.len];exact bh
def Rd.kU{L:List ba}{ad:List (List Nat)}{az:List Nat}(h:Rd L ad az)(hL:L.length<=40):zL (L.map ba.bA) where
 lt:=by rw[uV];omega
 num x hx:=by
  obtain⟨y,hy,rfl⟩:=ti.1 hx;obtain⟨i,hi,rfl⟩:=tj hy;obtain⟨_,a,c,_⟩:=h.shape (k:=i+1) U (fw hi);exact⟨by show(L[i]).br<_;omega,c⟩
 go i hi:=by
  rw[uV] at hi;obtain⟨_,_,_,a,_⟩:=h.shape (k:=i+1) U (fw hi);rw[mQ];exact a
def Af{T:List bg}{j:Nat}(h1:1<=j)(h2:j<=T.length):(cS T).getD (j-1) []=stF T j:=by
 unfold cS;rw[yT,fG,VP U];show stF T (j-1+1)=_;rw[show j-1+1=j by omega]
def Rd.kv{L:List ba}{ad:List (List Nat)}{az:List Nat}(h:Rd L ad az)(hL:L.length<=40):oD (L.map ba.bA) (cS (L.map ba.bA)) where
 len:=by unfold cS;rw[uV,b7]
 lt:=by rw[uV];omega
 br x hx:=by have:=(h.kU hL).num x hx;omega
 blt x hx:=by
  obtain⟨i,hi,rfl⟩:=ti.1 hx;rw[P8] at hi;rw[(h.kU hL).len i hi,fw hi];show(L.map ba.bA)[i].br<_;have:=(h.kU hL).num _ (gC hi);omega
def mA:Fm:=.mk 15 [63,65] none none
def eC:Fm:=.mk 15 [63,66] none none
def Sn:Fm:=.mk 15 [63,67] none none
def ir(k:Nat)(a c:Fm):Fm:=.mk (4+k) [] none (some [a,c])
def rJ(a:Fm):Fm:=.mk 3 [] none (some [a])
def nn:Fm:=.mk 2 [] none none
def hO(f:Fm):fh:=⟨[],f,[],false⟩
def s3(h f:Fm):fh:=⟨[h],f,[],false⟩
def So:dj:=⟨F4,[hO mA,hO eC],ir 0 mA eC⟩
def Gf(q:Bool):dj:=⟨g4 q,[hO (ir 0 mA eC)],cond q eC mA⟩
def Sp:dj:=⟨F5,[hO mA],ir 1 mA eC⟩
def a2Y:dj:=⟨[111,114,73,50],[hO eC],ir 1 mA eC⟩
def a2Z:dj:=⟨[111,114,69],[hO (ir 1 mA eC),s3 mA Sn,s3 eC Sn],Sn⟩
def Sq:dj:=⟨px,[s3 mA eC],ir 2 mA eC⟩
def Sr:dj:=⟨xY,[hO (ir 2 mA eC),hO mA],eC⟩
def Ss:dj:=⟨wa,[s3 mA nn],rJ mA⟩
def St:dj:=⟨xZ,[hO mA,hO (rJ mA)],nn⟩
def Su:dj:=⟨F6,[hO nn],mA⟩
def jr:List dj:=[So,Gf false,Gf true,Sp,a2Y,a2Z,Sq,Sr,Ss,St,Su]
inductive qB:dj->PF->List (PF×List PF)->Prop
 |and (f g):qB So (.bin 0 f g) [(f,[]),(g,[])]
 |g4 (q f g):qB (Gf q) (cond q g f) [(.bin 0 f g,[])]
 |or (f g):qB Sp (.bin 1 f g) [(f,[])]
 |a3a (f g):qB Sq (.bin 2 f g) [(g,[f])]
 |xY (f g):qB Sr g [(.bin 2 f g,[]),(f,[])]
 |a3b (f):qB Ss (.neg f) [(.cO,[f])]
 |xZ (f):qB St .cO [(f,[]),(.neg f,[])]
 |z9 (f):qB Su f [(.cO,[])]
def PF.low(a:PF):Prop:=a.dep<=38/\a.b0<=380
structure rK(g:ef)(p:PF×List PF):Prop where
 fH:g.fH=p.1.aG
 hyps:g.hyps=p.2.map PF.aG
 rest:∀F∈g.rest,∃a:PF,F=a.aG/\a.low
 low:p.1.low/\∀a∈p.2,a.low
 len:g.rest.length<=40
inductive s4:List ef->List (PF×List PF)->Prop
 |nil:s4 [] []
 |cons {g gs p aC}:rK g p->s4 gs aC->s4 (g::gs) (p::aC)
structure Lk(K:Nat->List AV->AV->Prop)(ag:List dj)(cn:AV):Prop where
 pre:∃rest,ag=jr++rest
 ap:∀r F aC gs,qB r F aC->F.low->s4 gs aC->∃cZ gL dR eB az,K vO [r.A,F.aG.A true,iG gs] (.a0 [.R [cZ,gL],.R [fa dR,ah eB,ah az],ah 0])
 cC:∀f:PF,f.low->K vQ [f.aG.A true,f.aG.A true] (.b true)
 fN:∀f:PF,f.low->K na [cn,f.aG.A true] (.b true)
def Gg{L:List ba}{k:Nat}{x:ba}(hx:L[k-1]? =some x):fV (L.map ba.bA) k=x.f.aG:=by
 unfold fV;rw[yT,fG,fG,hx];rfl
def a3c{L:List ba}{k:Nat}{x:ba}(hx:L[k-1]? =some x):kr (L.map ba.bA) k=x.br:=by
 unfold kr;rw[yT,fG,fG,hx];rfl
def Rd.low{L:List ba}{ad:List (List Nat)}{az:List Nat}(h:Rd L ad az)(hL:L.length<=36){x:ba}(hx:x∈L):x.f.low:=by
 have:=h.inv.dep x hx;have:=h.inv.b0 x hx;exact⟨U,U⟩
def Rd.a3d{L:List ba}{ad:List (List Nat)}{az:List Nat}(h:Rd L ad az)(hL:L.length<=36){l:List Nat}(hl:∀n∈l,1<=n/\n<=L.length):∀F∈l.map (fV (L.map ba.bA)),∃a:PF,F=a.aG/\a.low:=λF b2=>by
 obtain⟨n,hn,rfl⟩:=ti.1 b2;have hn:=hl n hn;have hx:L[n-1]? =some L[n-1]:=fw U;exact⟨_,Gg hx,h.low hL (gC _)⟩
def Rd.pE{L:List ba}{i:Nat}:(∀n∈(ndsL (L.map ba.bA) (L.map ba.bA).length).getD i [],1<=n/\n<=L.length)/\((ndsL (L.map ba.bA) (L.map ba.bA).length).getD i []).length<=L.length+1:=by
 rw[yT];cases h:(ndsL (L.map ba.bA) (L.map ba.bA).length)[i]? with
 |none=>exact⟨λn hn=>by simp at hn,aF⟩
 |some l=>
  have hm:=fL h;have h1:=zM hm;rw[uV] at h1;exact⟨λn hn=>⟨FF l hm n hn,h1.2 n hn⟩,h1.1⟩
def c3m{L kA:List ba}{C:List bg}{ej:List (List Nat)}{pD:List Nat}{k c:Nat}(j8:L.map ba.bA=kA.map ba.bA++C)(ay:kA.length+1=k)(mu:k<=L.length)(ca:Lh kA ej pD)(aW:x1 kA ej pD)(ab:∃f∈ej,c∈f)(cR:stF (L.map ba.bA) k=pD.tail):po (cS (L.map ba.bA)) k c c=true:=by
 obtain⟨f,hf,h7⟩:=ab;have w2:=aW.mem f hf c h7;obtain⟨d,hd,rfl⟩:=tj hf;have h1:(cS (L.map ba.bA)).getD (c-1) []=pD.tail.take d:=by
  rw[Af w2.1 (by rw[uV];omega),j8,wj (by rw[uV];exact w2.2)];exact ca.mem d hd c h7
 have h2:(cS (L.map ba.bA)).getD (k-1) []=pD.tail:=by rw[Af U (by rw[uV];omega),cR]
 unfold po;rw[h1,h2,decide_eq_true I,decide_eq_true (by rw[fe];omega),decide_eq_true]
 ·rfl
 ·rw[fe,List.take_eq_take_min]
def c3n{L:List ba}{ad:List (List Nat)}{az:List Nat}(h:Rd L ad az)(hL:L.length<=36){k c:Nat}{p:fh}{f:PF}(aw:p.cA=false)(au:po (cS (L.map ba.bA)) k c c=true)(hf:∃x,L[c-1]? =some x/\x.f=f):il (L.map ba.bA) (cS (L.map ba.bA)) k p (c,c)=true/\rK (kf (L.map ba.bA) (cS (L.map ba.bA)) (ndsL (L.map ba.bA) (L.map ba.bA).length) k p (c,c)) (f,[]):=by
 obtain⟨x,hx,rfl⟩:=hf;unfold il kf;rw[aw];simp only[cond_false,au,cond_true];exact⟨trivial,Gg hx,rfl,h.a3d hL Rd.pE.1,⟨h.low hL (fL hx),λa ha=>by simp at ha⟩,by
  show(List.map _ _).length<=40;rw[uV];have:=(Rd.pE (L:=L) (i:=c-1)).2;omega⟩
def a3e{bO:List Nat}{rest:List dj}:∀ {l:List dj} {i:Nat},ixN bO l=some i->ixN bO (l++rest)=some i
 |[],i,h=>by cases h
 |r::l,i,h=>by
  rw[ixN] at h;show ixN bO (r::(l++rest))=some i;rw[ixN];split at h
  ·rename_i e;rw[if_pos e];exact h
  ·rename_i e;rw[if_neg e];cases hx:ixN bO l with
   |none=>rw[hx] at h;cases h
   |some m=>rw[hx] at h;rw[a3e hx];exact h
def x4{K:Nat->List AV->AV->Prop}{ag:List dj}{cn:AV}(c0:Lk K ag cn){T:List bg}{B N:List (List Nat)}{k:Nat}{x:ba}(hh:x.hyp=false)(i:Nat){r:dj}(aq:jr[i]? =some r)(hn:x.c2≠oK)(kT:ixN x.c2 jr=some i)(ab:citeB T B k r.cU x.cs=true){aC:List (PF×List PF)}(ha:qB r x.f aC)(s5:x.f.low)(hg:s4 (gotsL T B N k r.cU x.cs) aC):oL K T B N ag k x.bA true 0 0 0 0:=by
 obtain⟨rest,rfl⟩:=c0.pre;obtain⟨h1,h2⟩:=jK.1 aq;have e:(jr++rest)[i]'(by rw[dv];omega)=r:=by rw[cM h1,h2]
 obtain⟨cZ,gL,dR,eB,az,hA⟩:=c0.ap r x.f aC _ ha s5 hg;have cQ:KH K T B N k x.bA ((jr++rest)[i]'(by rw[dv];omega)) (if 0=0 then 0 else 6) (if 0=0 then 0 else dR) (if 0=0 then 0 else eB) (if 0=0 then 0 else az):=by
  rw[e];exact .ap ab cZ gL dR eB az 0 hA
 exact .step I hh hn i _ (a3e kT) cQ
section
variable {K:Nat->List AV->AV->Prop}{ag:List dj}{cn:AV}
def Rd.bad(c0:Lk K ag cn){L:List ba}{ad:List (List Nat)}{az:List Nat}(h:Rd L ad az)(hL:L.length<=36){k:Nat}{x:ba}(h1:1<=k)(hx:L[k-1]? =some x):oL K (L.map ba.bA) (cS (L.map ba.bA)) (ndsL (L.map ba.bA) (L.map ba.bA).length) ag k x.bA true 0 0 0 0:=by
 obtain⟨ej,pD,xh,kz,bU,bV,cp,hl,FZ⟩:=h.line h1 hx;have mu:k<=L.length:=by have:=(jK.1 hx).1;omega
 have jB:x.f.low:=h.low hL (fL hx);have e8:∀i y,(L.take (k-1))[i]? =some y->L[i]? =some y:=λi y hy=>by
  have:=(jK.1 hy).1;rw[fe] at this;rwa[tk U] at hy
 generalize L.take (k-1)=kA at bU bV cp hl FZ e8;have ay:kA.length+1=k:=by omega
 have j8:L.map ba.bA=kA.map ba.bA++([x.bA]++(L.drop k).map ba.bA):=by
  conv=>lhs;rw[FZ]
  simp only[hQ,uW,B2,iE]
 have aW:=bU.inv;have ca:=bU.b;have cR:stF (L.map ba.bA) k=kz.tail:=by
  have h3:=cp.b.st;rw[dv,show kA.length+[x].length=k from ay] at h3;rw[<-h3,j8,← iE,show kA.map ba.bA++[x.bA]=(kA++[x]).map ba.bA by simp];exact wj (by rw[uV,dv];exact Nat.le_of_eq ay.symm)
 cases bV with
 |wc f n aw=>exact .hyp I I
 |CA _ _ n a7 bI=>exact .hyp I I
 |ps F f _ a7 ab=>
  have hg:∀ {c:Nat} {p:fh} {a:PF},(∃b_∈F++[f],c∈b_)->p.cA=false->nU kA c a->il (L.map ba.bA) (cS (L.map ba.bA)) k p (c,c)=true/\rK (kf (L.map ba.bA) (cS (L.map ba.bA)) (ndsL (L.map ba.bA) (L.map ba.bA).length) k p (c,c)) (a,[]):=λab aw ⟨y,hy,hf⟩=>c3n h hL aw (c3m j8 ay mu ca aW ab cR) ⟨y,e8 _ _ hy,hf⟩;cases ab with
  |and aX bc f1 f2 ao=>
   obtain⟨eb,t1⟩:=hg (p:=hO mA) aX I f1;obtain⟨iS,t2⟩:=hg (p:=hO eC) bc I f2;exact x4 c0 (x:=⟨F.length,0,false,_,F4,_⟩) I 0 I (by show F4≠oK;decide) I (by show(il _ _ _ (hO mA) _&&(il _ _ _ (hO eC) _&&true))=true;rw[eb,iS];rfl) (.and _ _) jB (.cons t1 (.cons t2 .nil))
  |or n aX f1 ao=>
   obtain⟨eb,t1⟩:=hg (p:=hO mA) aX I f1;exact x4 c0 (x:=⟨F.length,0,false,_,F5,_⟩) I 3 I (by show F5≠oK;decide) I (by show(il _ _ _ (hO mA) _&&true)=true;rw[eb];rfl) (.or _ _) jB (.cons t1 .nil)
  |g4 q aX f1=>
   obtain⟨eb,t1⟩:=hg (p:=hO (ir 0 mA eC)) aX I f1;exact x4 c0 (x:=⟨F.length,0,false,_,g4 q,_⟩) I (cond q 2 1) (r:=Gf q) (by cases q<;>rfl) (by show g4 q≠oK;cases q<;>decide) (by cases q<;>rfl) (by show(il _ _ _ (hO (ir 0 mA eC)) _&&true)=true;rw[eb];rfl) (.g4 q _ _) jB (.cons t1 .nil)
  |imp aX bc f1 f2=>
   obtain⟨eb,t1⟩:=hg (p:=hO (ir 2 mA eC)) aX I f1;obtain⟨iS,t2⟩:=hg (p:=hO mA) bc I f2;exact x4 c0 (x:=⟨F.length,0,false,_,xY,_⟩) I 7 I (by show xY≠oK;decide) I (by show(il _ _ _ (hO (ir 2 mA eC)) _&&(il _ _ _ (hO mA) _&&true))=true;rw[eb,iS];rfl) (.xY _ _) jB (.cons t1 (.cons t2 .nil))
  |not aX bc f1 f2=>
   obtain⟨eb,t1⟩:=hg (p:=hO mA) aX I f1;obtain⟨iS,t2⟩:=hg (p:=hO (rJ mA)) bc I f2;exact x4 c0 (x:=⟨F.length,0,false,_,xZ,_⟩) I 9 I (by show xZ≠oK;decide) I (by show(il _ _ _ (hO mA) _&&(il _ _ _ (hO (rJ mA)) _&&true))=true;rw[eb,iS];rfl) (.xZ _) jB (.cons t1 (.cons t2 .nil))
  |again aX f1=>
   obtain⟨eb,t1⟩:=hg (p:=oJ) aX I f1;obtain⟨y,hy,hf⟩:=f1;have Sv:=c0.cC _ jB;rename_i c;have e:fV (L.map ba.bA) c=y.f.aG:=Gg (e8 _ _ hy);refine .again I I I (cI:=cond true 0 6) (dR:=cond true 0 2) (eB:=cond true 0 1) (.ap (c,c) I ?_ true ?_)
   ·show(il _ _ _ oJ _&&true)=true;rw[eb];rfl
   ·show K vQ [(fV (L.map ba.bA) c).A true,_] _;rw[e,hf];exact Sv
  |z9 n aX f1=>
   obtain⟨eb,t1⟩:=hg (p:=hO nn) aX I f1;exact x4 c0 (x:=⟨F.length,0,false,_,F6,_⟩) I 10 I (by show F6≠oK;decide) I (by show(il _ _ _ (hO nn) _&&true)=true;rw[eb];rfl) (.z9 _) jB (.cons t1 .nil)
 |shut F e f _ first eo CG=>
  rename_i de ey;have hlen:=aW.len;simp only[dv,CZ,lg] at hlen;obtain⟨lq,n,nW⟩:=aW.fst kz.length first U aF
  rw[eo] at nW;cases nW;have ep:=(jK.1 eo).1;have Gh:kz≠[]:=λe=>by rw[e] at hlen;simp at hlen
  have ht:(kz++[first]).tail=kz.tail++[first]:=Rw Gh;have Ge:kz.tail.length=F.length:=by rw[qv];omega
  have c3o:kA≠[]:=λe=>by rw[e] at CG;simp at CG
  have KX:=(aW.last c3o).2 _ CG;simp only[dv,CZ,lg] at KX;have x5:(L.map ba.bA).length=L.length:=uV _;have eF:(cS (L.map ba.bA)).getD (first-1) []=kz.tail++[first]:=by
   rw[Af lq U,j8,wj (by rw[uV];omega),ca.fst kz.length first U aF,ht,Rx (by simp;omega)]
  have dE:(cS (L.map ba.bA)).getD (kA.length-1) []=kz.tail++[first]:=by
   rw[Af U U,j8,wj (by rw[uV];exact bs _),ca.st,ht]
  have dW:(cS (L.map ba.bA)).getD (k-1) []=kz.tail:=by rw[Af U U,cR]
  have d1:kr (L.map ba.bA) k=F.length:=by
   rw[a3c hx,CB];cases decide (ey.f= .cO)<;>rfl
  have d2:kr (L.map ba.bA) kA.length=F.length+1:=by rw[a3c (e8 _ _ CG),KX];omega
  have s1:nM (cS (L.map ba.bA)) first (F.length+1) first=true:=by
   unfold nM;rw[eF];exact decide_eq_true (by rw[Cr,← Ge];simp)
  have s2:nM (cS (L.map ba.bA)) kA.length (F.length+1) first=true:=by
   unfold nM;rw[dE];exact decide_eq_true (by rw[Cr,← Ge];simp)
  have eI:nM (cS (L.map ba.bA)) (kA.length+1) (F.length+1) first=false:=by
   unfold nM;rw[ay,dW];exact decide_eq_false (by rw[Cr,q1 U];simp)
  have a3f:hJ (L.map ba.bA) (cS (L.map ba.bA)) k first kA.length=true:=by
   unfold hJ;rw[d1,d2,s1,s2,eI,eF,dW,rn U,Rx U,decide_eq_true I,decide_eq_true I];rfl
  have a3g:iY (L.map ba.bA) first (F.length+1)=[first]:=by
   unfold iY;obtain⟨m,hm⟩:∃m,(L.map ba.bA).length+1-first=m+1:=⟨L.length-first,U⟩
   rw[hm,zG,fG,e8 _ _ eo];refine(if_pos ⟨rfl,by show kz.length=_;omega,U⟩).trans ?_
   congr 1
   cases m with
   |zero=>rfl
   |succ m=>
    rw[zG,fG];cases a6:L[first+1-1]? with
    |none=>rfl
    |some z=>
     refine if_neg ?_;rintro⟨dM,m9,c1⟩;have dM:z.hyp=true:=dM;have m9:z.br=F.length+1:=m9;have c1:¬(first<first+1/\0<z.op):=c1;have:=h.b.hyp z (fL a6) dM U;omega
  have uJ:(fm n).low:=h.low hL (fL (e8 _ _ eo));have FW:=h.low hL (fL (e8 _ _ CG));have AZ:∀p:fh,p.cA=true->il (L.map ba.bA) (cS (L.map ba.bA)) k p (first,kA.length)=true/\rK (kf (L.map ba.bA) (cS (L.map ba.bA)) (ndsL (L.map ba.bA) (L.map ba.bA).length) k p (first,kA.length)) (ey.f,[fm n]):=λp aw=>by
   unfold il kf;rw[aw];simp only[cond_true,a3f,d1,a3g];refine⟨trivial,Gg (e8 _ _ CG),?_,h.a3d hL (λn hn=>Rd.pE.1 n (NN.1 hn).1),⟨FW,λa ha=>?_⟩,?_⟩
   ·show[fV (L.map ba.bA) first]=[(fm n).aG];rw[Gg (e8 _ _ eo)]
   ·rw[uT.1 ha];exact uJ
   ·show(List.map _ _).length<=40;rw[uV];have h2:=(Rd.pE (L:=L) (i:=kA.length-1)).2;have h3:(nc (L.map ba.bA) (ndsL (L.map ba.bA) (L.map ba.bA).length) k first kA.length).length<=_:=E6 _ _;omega
  clear a3f s1 s2 eI eF dE dW d1 d2 a3g;rw[CB] at hx jB ⊢;cases hd:decide (ey.f= .cO) with
  |true=>
   rw[hd] at jB;obtain⟨eb,t1⟩:=AZ (s3 mA nn) I;rw[of_decide_eq_true hd] at t1;exact x4 c0 (x:=⟨F.length,0,false,.neg (fm n),wa,[(first,kA.length)]⟩) I 8 I (by show wa≠oK;decide) I (by show(il _ _ _ (s3 mA nn) _&&true)=true;rw[eb];rfl) (.a3b _) jB (.cons t1 .nil)
  |false=>
   rw[hd] at jB;obtain⟨eb,t1⟩:=AZ (s3 mA eC) I;exact x4 c0 (x:=⟨F.length,0,false,.bin 2 (fm n) ey.f,px,[(first,kA.length)]⟩) I 6 I (by show px≠oK;decide) I (by show(il _ _ _ (s3 mA eC) _&&true)=true;rw[eb];rfl) (.a3a _ _) jB (.cons t1 .nil)
end
def asm_one{T:List bg}(hh:∀x∈T,x.hyp=true->x.op=0->x.br=0){a d:Nat}(ha:1<=a)(k5:a<=T.length)(hd:1<=d):iY T a d=match T[a-1]? with
  |some x=>if x.hyp=true/\x.br=d then[a] else[]
  |none=>[]:=by
 unfold iY;obtain⟨m,hm⟩:∃m,T.length+1-a=m+1:=⟨T.length-a,U⟩
 rw[hm,zG];cases hx:T[a-1]? with
 |none=>rfl
 |some x=>
  show(if x.hyp=true/\x.br=d/\¬(a<a/\0<x.op) then a::asmF T a d m (a+1) else[])=if x.hyp=true/\x.br=d then[a] else[]
  by_cases h:x.hyp=true/\x.br=d
  ·rw[if_pos h,if_pos ⟨h.1,h.2,U⟩]
   congr 1
   cases m with
   |zero=>rfl
   |succ m=>
    rw[zG];cases a6:T[a+1-1]? with
    |none=>rfl
    |some z=>
     refine if_neg ?_;rintro⟨dM,m9,c1⟩;have:=hh z (fL a6) dM U;omega
  ·rw[if_neg h,if_neg λh'=>h ⟨h'.1,h'.2.1⟩]
def a3i{T:List bg}{i m:Nat}(hi:i<m):∀ {n:Nat},(ndsL T (m+n))[i]? =(ndsL T m)[i]?
 |0=>rfl
 |n+1=>by
  rw[show m+(n+1)=(m+n)+1 by omega,ndsL,E7 (by rw[Kv];omega)];exact a3i hi
def Rd.wk{L:List ba}{ad:List (List Nat)}{az:List Nat}(h:Rd L ad az){k:Nat}{x:bg}(h1:1<=k)(hx:(L.map ba.bA)[k-1]? =some x):oG k x.cs:=by
 rw[fG] at hx;cases hy:L[k-1]? with
 |none=>rw[hy] at hx;cases hx
 |some y=>
  rw[hy] at hx;cases hx;obtain⟨_,_,_,_,a,c⟩:=h.shape h1 hy;exact⟨by show y.cs.length<_;omega,c⟩
def Ag{α:Type}{J:ae}{n:Nat}{aa:Option Nat}{f:α->AV}{l:List α}(h:∀x∈l,bM J n (f x)=some (f x)):bM J (n+1) (slA true aa (l.map f))=some (slA true aa (l.map f)):=by
 cases l with
 |nil=>rfl
 |cons x l=>
  have hm:mapO (bM J n) ((x::l).map f)=some ((x::l).map f):=zP I λi h1 h2=>by
   rw[mQ];exact h _ (gC _)
  show bM J (n+1) (.a_ true aa ((x::l).map f))=some (.a_ true aa ((x::l).map f));rw[snapshot_succ];simp only[hm]
def Gi{J:ae}{n:Nat}{F:Fm}(h:2*F.dep+2<=n):mapO (bM J n) (bN F)=some (bN F):=by
 have h1:=Fm.snap J true _ F (n+1) (bs _) U;rw[jk] at h1;obtain⟨e2,aX,bc⟩:=zl h1;cases bc;exact aX
def Ll{J:ae}{n:Nat}{x:bg}(h:2*x.f.dep+12<=n):bM J n x.A=some x.A:=by
 obtain⟨n,rfl⟩:∃m,n=m+5:=⟨n-5,U⟩
 have h1:mapO (bM J (n+4)) (bN x.f)=some (bN x.f):=Gi U;have h2:bM J (n+4) (hI true x.cs)=some (hI true x.cs):=Ag λc _=>rfl;refine ox (l:=[ah x.br,ah x.op,.b x.hyp]++(bN x.f++[.s x.c2,hI true x.cs])) ?_;refine xQ (l:=[ah x.br,ah x.op,.b x.hyp]) (r:=[ah x.br,ah x.op,.b x.hyp]) I (xQ h1 ?_);rw[mapO_cons,mapO_cons,h2];rfl
def c3q{J:ae}{n:Nat}{T:List bg}(a7:T≠[])(h:∀x∈T,2*x.f.dep+13<=n):bM J n (cG T)=some (cG T):=by
 cases n with
 |zero=>
  cases T with
  |nil=>exact absurd I a7
  |cons x l=>have:=h x aF;omega
 |succ n=>
  have:=Ag (J:=J) (n:=n) (aa:=some 9) (f:=bg.A) (l:=T) λx hx=>Ll (by have:=h x hx;omega);cases T with
  |nil=>exact absurd I a7
  |cons x l=>exact this
end
section
variable [Tok][TokOk]
open Go.RowKit Go.Lyc.T
attribute [local irreducible] cg bL dC eu bE
abbrev qC(L:Nat):List AV:=[.b false,ah L,ah 40]
abbrev Sx(j:Nat)(J τ:ae):Prop:=J.next<=τ.next/\∀i o,i≠j->J.get i=some o->τ.get i=some o
section
variable {b:bT}{K:Nat->List AV->AV->Prop}
def a3n(hh:bk (b.aM K) JG ZG){j d L:Nat}(hd:d<=40)(hL:L<2^20){J:ae}(ax:J.get j=some (.cells (qC (L+1)))):
  bE (b.aM K) 0 (.f (.func JG) [] []) [aE j,ah d] J (λr τ=>r= .ok (.b true)/\τ.get j=some (.cells (qC L))/\Sx j J τ):=by
 refine W.code hh.e hh.p hh.f I I I I λz=>?_;have H:Has J [(j,qC (L+1))]:=Has.nil.cons ax aF;refine aj ?_;refine W.st (bD:=qC L) H 0 I I I I I I λτ cP H bx=>?_;refine aj ?_;exact ak.ret ⟨rfl,rfl,H.get _ (.head _),U,bx⟩
def a3o(hh:bk (b.aM K) JH b7F){j d:Nat}{J:ae}:
  bE (b.aM K) 0 (.f (.func JH) [] []) [aE j,.af,ah d] J (λr τ=>r= .ok (.b true)/\τ=J):=by
 refine W.xF hh I I I I λz H=>?_;refine aj ?_;refine ak.each 0 (λj F τ=>τ=J) bw I I I (λj F τ ax=>by omega) λF τ aW _=>?_;subst aW;refine ak.norm [] trivial λF=>?_;refine aj ?_;exact ak.ret ⟨rfl,rfl,rfl⟩
def PF.row(a:PF):dV (some 5) (E_.drop (a.op*5))=some (.R [.b true,.b true,fa (qn a.op),ah (Kc a.op),ah a.subs.length]):=by
 cases a with
 |bin k a c=>
  obtain⟨k,ay⟩:=k;have:k=0\/k=1\/k=2:=by omega
  rcases this with rfl|rfl|rfl<;>rfl
 |_=>rfl
structure Lm(b:bT)(K:Nat->List AV->AV->Prop):Prop where
 fn:∀g aQ r b5,K g aQ r->K g aQ b5->r=b5
 node:bk (b.aM K) JG ZG
 a3p:bk (b.aM K) JH b7F
 form:bk (b.aM K) JF Zu
 yL:b.ext lb=0/\b.pure lb=true
 FO:∀a:PF,K lb [fa (qn a.op),.s a.bO] (.b true)
 rows:b.mm J8=some (.R E_)
def Sy(h:Lm b K){j:Nat}:∀(n:Nat) (a:PF),a.dep<=n->∀d L,d+a.dep<=41->a.b0<=L->L<2^20->∀J:ae,J.get j=some (.cells (qC L))→
  bE (b.aM K) 0 (.f (.func JF) [] []) [aE j,.R (fc a),ah d] J (λr τ=>r= .ok (.b true)/\τ.get j=some (.cells (qC (L-a.b0)))/\Sx j J τ)
 |0,a,hn=>by cases a<;>simp[PF.dep] at hn
 |n+1,a,hn=>λd L hd cz hL J ax=>by
  have dP:=a.pw;have vY:1<=a.dep:=by cases a<;>simp[PF.dep]
  have a1X:=a.a1W;obtain⟨L,rfl⟩:∃m,L=m+1:=⟨L-1,U⟩
  refine W.code h.form.e h.form.p h.form.f I I I I λz=>?_;have H:Has J [(j,qC (L+1))]:=Has.nil.cons ax aF;have Sz:=ae.bt ax;refine aj ?_;generalize aV:J.next=q at Sz;refine W.cA (c:=fc a) H aV I I I I I λec cP H bx=>?_;refine aj ?_;refine W.an trivial I I I (a3n h.node U U (bx _ _ ax)) λr a9 ⟨ar,gK,c8,bb⟩=>⟨_,ar,?_⟩
  have wi:=bb q _ U (H.get _ (.head _));have H:Has a9 [(q,fc a)]:=Has.nil.cons wi aF;refine aj ?_;refine W.val (v:=ah a.op) (ai:=a9) I I (a0w I U) ?_;refine aj ?_;refine W.val (v:=.dh true (.R [.b true,.b true,fa (qn a.op),ah (Kc a.op),ah a.subs.length])) (ai:=a9) I I (XO (j:=a.op) (cs:=E_) (o:=true) (by show(match b.mm J8 with|some v=>some (AV.dh true v)|none=>none)=_;rw[h.rows]) I U a.row) ?_;refine aj ?_;refine W.cC (c:=[.b false,.b false,fa 0,ah 0,ah 0]) H I I I I λbu er H k3=>?_;refine W.st (bD:=[.b true,.b true,fa (qn a.op),ah (Kc a.op),ah a.subs.length]) H 0 I I I I I I λcm e_ H b1=>?_;have Bv:=b1 _ _ (by have:=ae.bt gK;omega) (k3 _ _ gK);refine aj ?_;refine W.e3 h.fn h.yL (h.FO a) I I I I ?_;refine aj ?_;refine W.an trivial I I I (a3o h.a3p) λr dg ⟨ar,hk⟩=>⟨_,ar,?_⟩
  subst hk;refine aj ?_;have QK:(a.subs.map λx=>AV.R (bN x.aG)).length=a.subs.length:=uV _;refine ak.norm [(79,ah 0),(78,ah a.subs.length),(77,jo a),(0,aE j),(2,ah d)] dp λF=>?_;have hlen:=a.uF;refine ak.each a.subs.length (λi F τ=>τ.get j=some (.cells (qC (L-((a.subs.take i).map PF.b0).sum)))/\Sx j dg τ/\sat [(77,jo a),(0,aE j),(2,ah d)] F) U ⟨Bv,⟨bs _,λ_ _ _ h=>h⟩,rfl,rfl,rfl,trivial⟩ I I (λi F τ hi aW s6 Gk=>?_) (λF τ aW s6=>?_)
  ·obtain⟨uO,⟨SA,i_⟩,Ln,c5,bV,_⟩:=aW;refine ak.norm [(79,ah i),(78,ah a.subs.length),(77,jo a),(0,aE j),(2,ah d)] ⟨s6,Gk,Ln,c5,bV,trivial⟩ λF=>?_;have H:Has τ []:=Has.nil;have pZ:=PF.lk (gC hi);have iq:((a.subs.take (i+1)).map PF.b0).sum=((a.subs.take i).map PF.b0).sum+(a.subs[i]).b0:=by
    rw[lO hi,hQ,Kb];simp
   have hle:((a.subs.take (i+1)).map PF.b0).sum<=(a.subs.map PF.b0).sum:=by
    conv=>rhs;rw[<-yU (i+1) a.subs,hQ,Kb]
    omega
   refine aj ?_;generalize a.subs[i]=x at pZ iq;refine W.cC (c:=[.i .u8 0,.s [],.af,.af]) H I I I I λeA jf H et=>?_;refine W.st (bD:=bN x.aG) H 0 I I I I I I λeW k6 H gk=>?_;have SB:=gk _ _ (by have:=ae.bt uO;omega) (et _ _ uO);refine aj ?_;have hx:bN x.aG=fc x:=PF.ES x;have hf:=Sy h n x U (d+1) (L-((a.subs.take i).map PF.b0).sum) U U U eW SB;rw[<-hx] at hf;refine W.an trivial I I I hf λr fI ⟨ar,z8,vq,pt⟩=>⟨_,ar,?_⟩
   refine aj ?_;refine⟨rfl,rfl,?_,⟨U,λc o ab h=>pt _ _ ab (gk _ _ (by have:=ae.bt h;have:=ae.bt (i_ _ _ ab h);omega) (et _ _ (i_ _ _ ab h)))⟩,rfl,rfl,rfl,trivial⟩;rw[z8,iq,Nat.sub_sub]
  ·obtain⟨uO,⟨SA,i_⟩,Ln,c5,bV,_⟩:=aW;refine ak.norm [] trivial λF=>?_;rw[B0] at uO;have H:Has τ []:=Has.nil;refine aj ?_;refine ak.ret ⟨rfl,rfl,?_,U,λc o ab ho=>i_ _ _ ab (b1 _ _ (by have:=ae.bt ho;omega) (k3 _ _ (bb _ _ ab (bx _ _ ho))))⟩;rw[uO,show L+1-a.b0=L-(a.subs.map PF.b0).sum by omega]
def c3v(h:Lm b K)(a:PF)(ha:a.low)(body:bF)(hb:b7p.body=some body):ak (b.aM K) b7p.ntmps body (fv [.R (fc a)]) ⟨.nil,0⟩ (jU 2 (.b true)):=by
 cases hb;refine W.jD λz H=>?_;have h1:=ha.1;have h2:=ha.2;refine aj ?_;refine W.cA (c:=fc a) H I I I I I I λτ cP H bx=>?_;refine aj ?_;refine W.cC (c:=[.b false,ah 0,ah 0]) H cP I I I λa9 c8 H bb=>?_;refine aj ?_;refine W.st (bD:=qC 400) H 0 I I I I I I λbu er H k3=>?_;refine aj ?_;refine W.an trivial I I I (Sy h _ a (bs _) 1 400 U U bw bu (H.get _ (.head _))) λr cm ⟨ar,_⟩=>⟨_,ar,?_⟩
 refine aj ?_;exact ak.ret ⟨rfl,rfl⟩
end
end
section
variable [Tok][TokOk]
open Go.RowKit Go.Lyc.T
section
variable {b:bT}{K:Nat->List AV->AV->Prop}(hf:∀g aQ r b5,K g aQ r->K g aQ b5->r=b5)
include hf in
theorem c3w(hh:bk (b.aM K) xo rX)(p9:∀a c:fE,K ik [dz a,dz c] (.i .i64 (qu a c)))(qW:b.ext ik=0/\b.pure ik=true){l:List fE}{v:AV}(hl:l.length<=1000000)(J:ae)(hA:Acc J (some 2) v (l.map dz)):
  bE (b.aM K) 0 (.f (.func xo) [] []) [v,ah 0,ah l.length,.f (.func ik) [] []] J (λr ai=>r= .ok (.a0 [])/\ai.next=J.next/\(∃cu:List fE,cu.Perm l/\Acc ai (some 2) v (cu.map dz))/\∀i o,v.at? ≠some i->J.get i=some o->ai.get i=some o):=by
 refine bE.pe hh.e hh.p hh.f I I I ?_;refine ak.seq (ak.region ?_);refine aK.go I I I I ?_;refine aK.bin (a:=ah 0) (b:=ah 1) I I I I (sz U) ?_;refine aK.go I I I I ?_;refine aK.nil (ak.block ?_);refine ak.loop (λm f τ=>∃(i:Nat) (cu:List fE),i+m=l.length+1/\1<=i/\cu.Perm l/\Acc τ (some 2) v (cu.map dz)/\τ.next=J.next/\(∀i o,v.at? ≠some i->J.get i=some o->τ.get i=some o)∧
  sat [(0,v),(1,ah 0),(2,ah l.length),(3,.f (.func ik) [] []),(8,ah i)] f) ?_ l.length ⟨1,l,U,U,.refl _,hA,rfl,λi o _ h=>h,rfl,rfl,rfl,rfl,rfl,trivial⟩
 intro m g τ ⟨i,cu,hi,QY,aw,kO,hn,hold,hL⟩;refine ak.norm _ hL λg=>?_;clear hL;refine ak.seq (ak.seq (ak.region ?_));refine aK.go I I I I ?_;refine aK.go I I I I ?_;refine aK.bin (a:=ah i) (b:=ah l.length) (v:=.b (decide (i<l.length))) I I I I (ow I) ?_;refine aK.nil ?_;refine ak.jg I (λht=>?_) (λep=>?_)
 ·have hlt:i<l.length:=of_decide_eq_true ht;have e0:=aw.length_eq;refine ak.skip (ak.seq ?_);refine ak.block (ak.seq (ak.region ?_));refine aK.go I I I I ?_;refine aK.go I I I I ?_;refine aK.nil (ak.block ?_);refine ak.loop (λm f τ=>m<=i/\∃cu:List fE,cu.Perm l/\Acc τ (some 2) v (cu.map dz)/\τ.next=J.next/\(∀i o,v.at? ≠some i->J.get i=some o->τ.get i=some o)∧
   sat [(0,v),(1,ah 0),(2,ah l.length),(3,.f (.func ik) [] []),(8,ah i),(9,ah m)] f) ?_ i ⟨bs _,cu,aw,kO,hn,hold,rfl,rfl,rfl,rfl,rfl,rfl,trivial⟩
  clear kO hold hn aw e0;intro j g τ ⟨Ny,cu,aw,kO,hn,hold,hL⟩;refine ak.norm _ hL λg=>?_;clear hL;have e0:=aw.length_eq;have fin:∀ {f:Nat->AV},sat [(0,v),(1,ah 0),(2,ah l.length),(3,.f (.func ik) [] []),(8,ah i)] f->bL (b.aM K) none [] 53 (.region [⟨(some 15),.bJ (.t 8),none,[]⟩,⟨(some 16),.bin .add (.t 15) (.c (.i .i64 1)),none,[]⟩,⟨(some 8),.bJ (.t 16),none,[]⟩]) f τ (λx b_ ai=>match x with
   | .normal=>∃aT,aT<m/\∃(i:Nat) (cu:List fE),i+aT=l.length+1/\1<=i/\cu.Perm l/\Acc ai (some 2) v (cu.map dz)/\ai.next=J.next/\(∀i o,v.at? ≠some i->J.get i=some o->ai.get i=some o)/\sat [(0,v),(1,ah 0),(2,ah l.length),(3,.f (.func ik) [] []),(8,ah i)] b_
   |_=>False):=by
   intro f ao;refine ak.norm _ ao λg=>?_;refine ak.region ?_;refine aK.go I I I I ?_;refine aK.bin (a:=ah i) (b:=ah 1) I I I I (sz U) ?_;refine aK.go I I I I ?_;exact aK.nil ⟨m-1,U,i+1,cu,U,U,aw,kO,hn,hold,rfl,rfl,rfl,rfl,rfl,trivial⟩
  obtain⟨o,au,ho,h7⟩:=kO.inv (by rw[uV];omega);rw[uV] at au;subst au;refine ak.seq (ak.seq (ak.draw I I ?_));refine eN.go I I I I ?_;refine eN.go I I I I ?_;refine eN.cmp (a:=j) (b:=0) I I I I I ?_;by_cases a3q:0<j
  ·rw[show decide (0<j)=true from decide_eq_true a3q];obtain⟨j,rfl⟩:∃q,j=q+1:=⟨j-1,U⟩
   have Ah:j+1<cu.length:=by omega
   have aL:dV (some 2) (((cu.map dz).flatMap AV.cells).drop (0+(j+1)*shN (some 2)))=some (dz cu[j+1]):=by
    rw[QR (by rw[uV];omega) h7,mQ]
   have a5:dV (some 2) (((cu.map dz).flatMap AV.cells).drop (0+j*shN (some 2)))=some (dz (cu[j]'U)):=by
    rw[QR (by rw[uV];omega) h7,mQ]
   refine eN.go I I I I ?_;refine eN.go I I I I ?_;refine eN.go I I I I ?_;refine eN.go I I I I ?_;refine eN.idx (j:=j+1) I I I I (m7 Ah) ?_;refine eN.aA (v:=dz cu[j+1]) ho I I I aL ?_;refine eN.go I I I I ?_;refine eN.go I I I I ?_;refine eN.bin (a:=ah (j+1)) (b:=ah 1) I I I I (sA U U) ?_;refine eN.idx (j:=j) I I I I (m7 U) ?_;refine eN.aA (v:=dz (cu[j]'U)) ho I I I a5 ?_;refine eN.known hf qW.1 qW.2 (p9 cu[j+1] (cu[j]'U)) I I I (nF I I) ?_;refine eN.bin (v:=.b (decide (qu cu[j+1] (cu[j]'U)<0))) I I I I I ?_;refine eN.go I I I I ?_;refine eN.nil ?_;refine ak.jg I (λ_=>?_) (λ_=>?_)
   ·refine ak.skip (ak.seq (ak.block (ak.b5H 0 I (IY.fin (gs:=[]) .nil I ?_))));refine aK.go I I I I ?_;refine aK.go I I I I ?_;refine aK.go I I I I ?_;refine aK.go I I I I ?_;refine aK.bin (a:=ah (j+1)) (b:=ah 1) I I I I (sA U U) ?_;refine aK.go I I I I ?_;refine aK.go I I I I ?_;refine aK.bin (a:=ah (j+1)) (b:=ah 1) I I I I (sA U U) ?_;refine aK.idx (j:=j) I I I I (m7 U) ?_;refine aK.aA (v:=dz (cu[j]'U)) ho I I I a5 ?_;refine aK.go I I I I ?_;refine aK.go I I I I ?_;refine aK.idx (j:=j+1) I I I I (m7 Ah) ?_;refine aK.aA (v:=dz cu[j+1]) ho I I I aL ?_;refine aK.idx (j:=j+1) I I I I (m7 Ah) ?_;refine aK.a1A (j:=j+1) (y:=dz (cu[j]'U)) (v:=.al o 0 cu.length (some 2) none) kO I (by rw[uV];omega) I I I I λec cP c3x bx=>?_;refine aK.idx (j:=j) I I I I (m7 U) ?_;refine aK.a1A (j:=j) (y:=dz cu[j+1]) c3x I (by rw[ib,uV];omega) I I I I λa9 c8 c3y bb=>?_;refine aK.nil ⟨rfl,?_⟩;refine ak.region ?_;refine aK.go I I I I ?_;refine aK.bin (a:=ah (j+1)) (b:=ah 1) I I I I (sA U U) ?_;refine aK.go I I I I ?_;refine aK.nil ⟨j,U,U,(cu.set (j+1) (cu[j]'U)).set j cu[j+1],(swap_perm Ah).trans aw,?_,U,λi bX h k8=>bb i bX (λe=>h (by rw[e];rfl)) (bx i bX (λe=>h (by rw[e];rfl)) (hold i bX h k8)),rfl,rfl,rfl,rfl,rfl,rfl,trivial⟩;rw[List.map_set,List.map_set];exact c3y
   ·refine ak.exit ?_;exact(fin dp).mono λx f J h=>by cases x<;>first|exact h|exact h.elim
  ·rw[show decide (0<j)=false from decide_eq_false a3q];refine b5J ?_;refine ak.jg I (λh=>by cases h) (λ_=>?_);refine ak.exit ?_;exact(fin dp).mono λx f J h=>by cases x<;>first|exact h|exact h.elim
 ·have m0:¬i<l.length:=of_decide_eq_false ep;refine ak.exit ?_;exact⟨.inr I,rfl,hn,⟨cu,aw,kO⟩,hold⟩
end
section
variable {b:bT}{K:Nat->List AV->AV->Prop}
set_option maxRecDepth 100000 in
def c3z(hh:bk (b.aM K) xp Z8)(m:Nat)(hm:m<256)(J:ae):bE (b.aM K) 0 (.f (.func xp) [] []) [.i .u64 (Int.ofNat m)] J (λr ai=>(∃q,r= .ok (.i .i64 q))/\ai=J):=by
 refine bE.code hh.e hh.p hh.f I I I I ?_;refine ak.seq (ak.region ?_);refine ka ?_;refine ak.seq (ak.seq (ak.region ?_));refine aK.go I I I I ?_;refine aK.bin (a:=.i .u64 (Int.ofNat m)) (b:=.i .u64 (Int.ofNat 4294967296)) (v:=.b false) I I I I (ow (by show some (AV.b (decide (4294967296<=m)))=_;rw[decide_eq_false U])) ?_;refine aK.nil (ak.jg I (λh=>by cases h) λ_=>ak.skip ?_);refine ak.seq (ak.seq (ak.region ?_));refine aK.go I I I I ?_;refine aK.bin (a:=.i .u64 (Int.ofNat m)) (b:=.i .u64 (Int.ofNat 65536)) (v:=.b false) I I I I (ow (by show some (AV.b (decide (65536<=m)))=_;rw[decide_eq_false U])) ?_;refine aK.nil (ak.jg I (λh=>by cases h) λ_=>ak.skip ?_);refine ak.seq (ak.seq (ak.region ?_));refine aK.go I I I I ?_;refine aK.bin (a:=.i .u64 (Int.ofNat m)) (b:=.i .u64 (Int.ofNat 256)) (v:=.b false) I I I I (ow (by show some (AV.b (decide (256<=m)))=_;rw[decide_eq_false U])) ?_;refine aK.nil (ak.jg I (λh=>by cases h) λ_=>ak.skip ?_);refine ak.seq (ak.region ?_);refine aK.go I I I I ?_;refine aK.go I I I I ?_;have fu:wrapN .u8 (Int.ofNat m)=Int.ofNat m:=c0f hm;refine aK.val I I (QZ (m:=Int.ofNat m) I _) ?_;rw[fu];refine aK.val I I (b5p (j:=m) I I (IP (yR hm bw))) ?_;refine aK.val I I (QZ I _) ?_;refine aK.bin I I I I I ?_;refine aK.go I I I I ?_;exact aK.nil (ak.ret ⟨rfl,⟨_,rfl⟩,rfl⟩)
def c3A(hh:bk (b.aM K) zz uN)(cx:bk (b.aM K) xp Z8)(m:Nat)(hm:m<256)(J:ae):bE (b.aM K) 0 (.f (.func zz) [] []) [.i .u64 (Int.ofNat m)] J (λr ai=>(∃q,r= .ok (.i .i64 q))/\ai=J):=by
 refine bE.code hh.e hh.p hh.f I I I I ?_;refine ak.seq (ak.region ?_);refine ka ?_;refine ak.seq (ak.jg I (λh=>by cases h) λ_=>ak.skip ?_);refine ak.seq (ak.region ?_);refine aK.go I I I I ?_;refine aK.jh I I I (c3z cx m hm J) λr cT ⟨⟨q,aL⟩,a5⟩=>⟨_,aL,?_⟩
 refine aK.go I I I I ?_;exact aK.nil (ak.ret ⟨rfl,⟨_,rfl⟩,a5⟩)
variable (hf:∀g aQ r b5,K g aQ r->K g aQ b5->r=b5)
include hf in
theorem c3B(hh:bk (b.aM K) zx b8w)(hi:bk (b.aM K) xo rX)(p9:∀a c:fE,K ik [dz a,dz c] (.i .i64 (qu a c)))(qW:b.ext ik=0/\b.pure ik=true){l:List fE}{v:AV}(hl:l.length<=12)(q:Int)(J:ae)(hA:Acc J (some 2) v (l.map dz)):
  bE (b.aM K) 0 (.f (.func zx) [] []) [v,ah 0,ah l.length,.i .i64 q,.f (.func ik) [] []] J (λr ai=>r= .ok (.a0 [])/\ai.next=J.next/\(∃cu:List fE,cu.Perm l/\Acc ai (some 2) v (cu.map dz))/\∀i o,v.at? ≠some i->J.get i=some o->ai.get i=some o):=by
 refine bE.pe hh.e hh.p hh.f I I I ?_;refine ak.seq (ak.region ?_);refine aK.go I I I I ?_;refine aK.nil (ak.seq (ak.region ?_));refine aK.go I I I I ?_;refine aK.nil (ak.block ?_);refine ak.loop (λm f τ=>τ=J/\sat [(0,v),(1,ah 0),(2,ah l.length),(4,.f (.func ik) [] [])] f) ?_ 0 dp;rintro m g τ ⟨rfl,hL⟩;refine ak.norm _ hL λg=>?_;clear hL;refine ak.block (ak.seq (ak.region ?_));refine aK.go I I I I ?_;refine aK.go I I I I ?_;refine aK.bin (a:=ah l.length) (b:=ah 0) I I I I (sA U U) ?_;refine aK.go I I I I ?_;refine aK.nil (ak.seq (ak.seq (ak.region ?_)));refine aK.go I I I I ?_;refine aK.bin (a:=ah (l.length-0)) (b:=ah 12) (v:=.b true) I I I I (ow (by show some (AV.b (decide (l.length-0<=12)))=_;rw[decide_eq_true U])) ?_;refine aK.nil (ak.jg I (λ_=>?_) (λh=>by cases h));refine ak.seq (ak.region ?_);refine aK.go I I I I ?_;refine aK.go I I I I ?_;refine aK.go I I I I ?_;refine aK.go I I I I ?_;refine aK.jh I I I (c3w hf hi p9 qW U τ hA) λr cT ⟨aL,h1,h2,h3⟩=>⟨_,aL,?_⟩
 exact aK.nil (ak.ret ⟨.inl I,rfl,h1,h2,h3⟩)
include hf in
theorem c3C(hh:bk (b.aM K) BR xt)(nz:bk (b.aM K) zz uN)(cx:bk (b.aM K) xp Z8)(aw:bk (b.aM K) zx b8w)(hi:bk (b.aM K) xo rX)(p9:∀a c:fE,K ik [dz a,dz c] (.i .i64 (qu a c)))(qW:b.ext ik=0/\b.pure ik=true){l:List fE}{v:AV}(hl:l.length<=12)(J:ae)(hA:Acc J (some 2) v (l.map dz)):
  bE (b.aM K) 0 (.f (.func BR) [] []) [v,.f (.func ik) [] []] J (λr ai=>r= .ok (.a0 [])/\ai.next=J.next/\(∃cu:List fE,cu.Perm l/\Acc ai (some 2) v (cu.map dz))/\∀i o,v.at? ≠some i->J.get i=some o->ai.get i=some o):=by
 refine bE.pe hh.e hh.p hh.f I I I ?_;refine ak.seq (ak.region ?_);refine aK.go I I I I ?_;refine aK.len (m:=l.length) I I I (by have:=hA.len (τ:=J);rwa[uV] at this) ?_;refine aK.go I I I I ?_;refine aK.nil (ak.region ?_);refine aK.go I I I I ?_;refine aK.go I I I I ?_;refine aK.go I I I I ?_;refine aK.val I I (QZ (m:=Int.ofNat l.length) I _) ?_;have hw:wrapN .u64 (Int.ofNat l.length)=Int.ofNat l.length:=by
  have:(l.length:Int)<18446744073709551616:=by omega
  simp[wrapN,IntKind.wrap,IntKind.bits,IntKind.signed];omega
 rw[hw];refine aK.jh I I I (c3A nz cx l.length U J) λr cT ⟨⟨q,aL⟩,a5⟩=>⟨_,aL,?_⟩
 subst a5;refine aK.go I I I I ?_;refine aK.jh I I I (c3B hf aw hi p9 qW hl q cT hA) λr hX ⟨aL,h1,h2,h3⟩=>⟨_,aL,?_⟩
 exact aK.nil ⟨.inr I,rfl,h1,h2,h3⟩
include hf in
theorem c3D(hh:bk (b.aM K) EK zv)(ab:bk (b.aM K) BP xn)(ha:bk (b.aM K) zw b8v)(gF:bk (b.aM K) pj qG)(ao:bk (b.aM K) BR xt)(nz:bk (b.aM K) zz uN)(cx:bk (b.aM K) xp Z8)(aw:bk (b.aM K) zx b8w)(hi:bk (b.aM K) xo rX)(p9:∀a c:fE,K ik [dz a,dz c] (.i .i64 (qu a c)))(qW:b.ext ik=0/\b.pure ik=true)
  {dK cA:Nat} {bC:List fE} (FA:bC.length<=12) (J:ae) (hm:J.get dK=some (.map (setE dz 0 bC) bC.length)) (gO:J.get cA=some (.cells [.m (some dK)])):
  bE (b.aM K) 0 (.f (.func EK) [] []) [.f (.func pj) [] [.p (some (cA,0))],.f (.func ik) [] []] J (λr ai=>∃(v:AV) (c:List fE),r= .ok v/\c.Perm bC/\Acc ai (some 2) v (c.map dz)/\(∀a,v.at? =some a->J.next<=a)/\xO J ai):=by
 refine bE.code hh.e hh.p hh.f I I I I ?_;refine ak.seq (ak.region ?_);refine aK.go I I I I ?_;refine aK.nil (ak.seq (ak.region ?_));refine aK.go I I I I ?_;refine aK.jh I I I (c0v ab ha gF U J hm gO) λr cT ⟨v,c,aL,h1,h2,h3,aO⟩=>⟨_,aL,?_⟩
 have gj:=h1.length_eq;refine aK.go I I I I ?_;refine aK.nil (ak.seq (ak.region ?_));refine aK.go I I I I ?_;refine aK.go I I I I ?_;refine aK.jh I I I (c3C hf ao nz cx aw hi p9 qW (l:=c) U cT h2) λr hX ⟨a5,er,⟨cu,qS,kO⟩,k3⟩=>⟨_,a5,?_⟩
 refine aK.nil (ak.seq (ak.region ?_));refine aK.go I I I I ?_;refine aK.go I I I I ?_;have hn:=aO.1;exact aK.nil (ak.ret ⟨rfl,_,cu,rfl,qS.trans h1,kO,h3,U,λi o ho=>k3 i o (λe=>by have:=h3 i e;have:=ae.bt ho;omega) (aO.2 i o ho)⟩)
include hf in
theorem c3E(hh:bk (b.aM K) EJ EI)(ay:bk (b.aM K) EL zy)(QN:bk (b.aM K) EK zv)(ab:bk (b.aM K) BP xn)(ha:bk (b.aM K) zw b8v)(gF:bk (b.aM K) pj qG)(ao:bk (b.aM K) BR xt)(nz:bk (b.aM K) zz uN)(cx:bk (b.aM K) xp Z8)(aw:bk (b.aM K) zx b8w)(hi:bk (b.aM K) xo rX)(p9:∀a c:fE,K ik [dz a,dz c] (.i .i64 (qu a c)))(qW:b.ext ik=0/\b.pure ik=true)
  {dK:Nat} {bC:List fE} (FA:bC.length<=12) (J:ae) (hm:J.get dK=some (.map (setE dz 0 bC) bC.length)):
  bE (b.aM K) 0 (.f (.func EJ) [] []) [.m (some dK)] J (λr ai=>∃(v:AV) (c:List fE),r= .ok v/\c.Perm bC/\Acc ai (some 2) v (c.map dz)/\(∀a,v.at? =some a->J.next<=a)/\xO J ai):=by
 refine bE.code hh.e hh.p hh.f I I I I ?_;refine ak.seq (ak.region ?_);refine aK.go I I I I ?_;refine aK.nil (ak.seq (ak.region ?_));refine aK.go I I I I ?_;generalize a6:J.next=z;refine aK.jh I I I (c0r ay dK J z a6) λr cT ⟨aL,c8,h2,bb⟩=>⟨_,aL,?_⟩
 refine aK.jh I I I (c3D hf QN ab ha gF ao nz cx aw hi p9 qW FA cT (bb _ _ hm) h2) λr hX ⟨v,c,aL,h1,h3,aO,bI⟩=>⟨_,aL,?_⟩
 refine aK.go I I I I ?_;have:=bI.1;exact aK.nil (ak.ret ⟨rfl,_,c,rfl,h1,h3,λa e=>by have:=aO a e;omega,U,λi o ho=>bI.2 i o (bb i o ho)⟩)
end
structure SC(b:bT)(K:Nat->List AV->AV->Prop):Prop where
 sorted:bk (b.aM K) EJ EI
 keys:bk (b.aM K) EL zy
 c3F:bk (b.aM K) EK zv
 c3G:bk (b.aM K) BP xn
 app:bk (b.aM K) zw b8v
 c3H:bk (b.aM K) pj qG
 CI:bk (b.aM K) BR xt
 len:bk (b.aM K) zz uN
 c3I:bk (b.aM K) xp Z8
 SD:bk (b.aM K) zx b8w
 ins:bk (b.aM K) xo rX
 cmp:∀a c:fE,K ik [dz a,dz c] (.i .i64 (qu a c))
 rL:b.ext ik=0/\b.pure ik=true
def SC.go{b:bT}{K:Nat->List AV->AV->Prop}(hf:∀g aQ r b5,K g aQ r->K g aQ b5->r=b5)(ao:SC b K):Q0 b K 12:=⟨bw,λhn J hm=>c3E hf ao.sorted ao.keys ao.c3F ao.c3G ao.app ao.c3H ao.CI ao.len ao.c3I ao.SD ao.ins ao.cmp ao.rL hn J hm⟩
end
section
variable [Tok][TokOk]
open Go.RowKit Go.Lyc.T
attribute [local irreducible] cg bL dC eu bE
def PF.parts(a:PF):∀x∈a.aG.parts,∃c:PF,x=c.aG:=by
 induction a with
 | fU q=>intro x hx;rw[Fm.parts_eq] at hx;exact⟨.fU q,by simpa [PF.aG,Fm.sub,Fm.e4,Fm.sB] using hx⟩
 |cO=>intro x hx;rw[Fm.parts_eq] at hx;exact⟨.cO,by simpa [PF.aG,Fm.sub,Fm.e4,Fm.sB] using hx⟩
 |neg a aH=>
  intro x hx;rw[Fm.parts_eq] at hx;rcases dB.1 hx with rfl|hx
  ·exact⟨_,rfl⟩
  ·refine aH x ?_;simpa [PF.aG,Fm.sub,Fm.e4,Fm.sB] using hx
 |bin k a c aH r2=>
  intro x hx;rw[Fm.parts_eq] at hx;rcases dB.1 hx with rfl|hx
  ·exact⟨_,rfl⟩
  ·have hx:x∈a.aG.parts\/x∈c.aG.parts:=by simpa [PF.aG,Fm.sub,Fm.e4,Fm.sB] using hx
   rcases hx with hx|hx
   ·exact aH x hx
   ·exact r2 x hx
def PF.jC(a:PF):a.aG.jC:=by
 induction a with
 | fU q=>exact .mk aF aF aF aF
 |cO=>exact .mk aF aF aF aF
 |neg a aH=>exact .mk aF aF aF (λx hx=>by rw[show x=a.aG by simpa using hx];exact aH)
 |bin k a c aH r2=>exact .mk aF aF aF (λx hx=>by
   have hx:x=a.aG\/x=c.aG:=by simpa using hx
   rcases hx with rfl|rfl
   ·exact aH
   ·exact r2)
def wm:List (List fE):=[[],[([80],0)],[([81],0)],[([80],0),([81],0)],[([81],0),([80],0)]]
def PF.v3(a:PF){bC:List fE}(h:bC∈wm):Lyc.v3 a.aG bC∈wm:=by
 unfold Lyc.v3;cases a with
 | fU q=>
  simp only[wm,dB,NQ,or_false] at h;rcases h with rfl|rfl|rfl|rfl|rfl<;>cases q<;>decide
 |cO=>exact h
 |neg a=>exact h
 |bin k a c=>
  rw[if_neg (show ¬(PF.bin k a c).aG.op=1 by show ¬ 4+k.val=1;omega)];exact h
def a3r:∀ {l:List Fm} {bC:List fE},(∀x∈l,∃c:PF,x=c.aG)->bC∈wm->zW l bC∈wm
 |[],_,_,h=>h
 |x::l,bC,hl,h=>by
  obtain⟨c,rfl⟩:=hl x aF;exact a3r (l:=l) (λy hy=>hl y (C1 _ hy)) (c.v3 h)
def PF.c3J(a:PF):FD a.aG∈wm:=a3r a.parts bw
def PF.ops(a:PF):tU (rq a.aG) 254=0:=by
 refine a1B.2 (a1D bw λf hf=>?_);obtain⟨c,rfl⟩:=a.parts f hf;have:=c.pw;unfold mL;rw[PF.KP,if_pos U];have:c.op=1\/c.op=2\/c.op=3\/c.op=4\/c.op=5\/c.op=6:=by omega
 rcases this with h|h|h|h|h|h<;>rw[h]<;>decide
def PF.c3K(a:PF):a.aG.fl=none:=by cases a<;>rfl
section
variable {b:bT}{K:Nat->List AV->AV->Prop}(hf:∀g aQ r b5,K g aQ r->K g aQ b5->r=b5)
structure SE(b:bT)(K:Nat->List AV->AV->Prop):Prop where
 CI:Q0 b K 12
 c3L:bk (b.aM K) Ju EM
 a3s:bk (b.aM K) xm rS
 bW:bk (b.aM K) vJ uB
 w:bk (b.aM K) BN Zx
 xK:bk (b.aM K) Jt CQ
 fn:bk (b.aM K) Pm GM
def c3M(hh:bk (b.aM K) Ju EM){g_:AV}{J:ae}:bE (b.aM K) 0 (.f (.func Ju) [] []) [.af,g_] J (λr τ=>r= .ok (.b true)/\τ=J):=by
 refine W.xF hh I I I I λz H=>?_;refine aj ?_;refine ak.each 0 (λj F τ=>τ=J) bw I I I (λj F τ ax=>by omega) λF τ aW _=>?_;subst aW;refine ak.norm [] trivial λF=>?_;refine aj ?_;exact ak.ret ⟨rfl,rfl,rfl⟩
def c3N(h:SE b K)(a:PF)(J:ae):
  bE (b.aM K) 0 (.f (.func Pm) [] []) [a.aG.A true] J (λr ai=>∃v,r= .ok v/\Acc ai (some 2) v []/\xO J ai):=by
 generalize ay:J.next=k;refine bE.O4 (d:=k+4) h.fn.e h.fn.p h.fn.f I I I I ?_;refine dQ.l6 (ak.region (aK.box (v:=a.aG.A true) (c:=a.aG.cells true) k ay I I I I I λb8 iC h1 bx=>?_));refine ka ?_;refine⟨rfl,dQ.l6 (ak.region (aK.mkMap (k+1) iC I λcT h6 h2 bb=>?_))⟩;refine aK.var (v:=.m (some (k+1))) (c:=[.m (some (k+1))]) (k+2) h6 I I I I I I λhX n9 h3 k3=>?_;replace h1:=k3 _ _ (bb _ _ h1);replace h2:=k3 _ _ h2;refine aK.nil ⟨rfl,dQ.Bz (dQ.l6 (ak.region ?_))⟩;refine aK.aA h1 I I I (Fm.aA true a.aG) ?_;refine aK.jh I I I (P_ h.w true a.aG hX (k+3) n9) λr KG ⟨aL,tL,aO,b1⟩=>⟨_,aL,?_⟩
 replace h2:=b1 _ _ h2;replace h3:=b1 _ _ h3;have c7:∀i o,J.get i=some o->KG.get i=some o:=λi o ho=>b1 i o (k3 i o (bb i o (bx i o ho)));refine aK.nil ⟨rfl,dQ.block ?_⟩;refine dQ.walk h.a3s h.bW true (λi=>i=k+1\/i=k+2) (λl τ=>(∀x∈l,∃c:PF,x=c.aG)/\τ.get (k+1)=some (.map [] 0)/\τ.get (k+2)=some (.cells [.m (some (k+1))])) (k+4) tL I I a.jC aO (λi hi=>by omega) (λl τ aB ⟨aX,bc,cq⟩ ay=>⟨aX,ay _ _ (.inl I) bc,ay _ _ (.inr I) cq⟩) ⟨a.parts,h2,h3⟩ ?_ ?_
 ·intro G rest τ cW zF ⟨aX,bc,cq⟩;obtain⟨c,rfl⟩:=aX G aF;refine ak.region ?_;refine aK.var (v:=c.aG.A true) (c:=c.aG.cells true) τ.next I I I I (Fm.conf true c.aG) I (Fm.len true c.aG) λec tL aO b1=>?_;refine aK.nil ⟨rfl,.of U b1,λa9 Be c9=>?_⟩;replace aO:=c9 _ _ U aO;replace bc:=c9 _ _ U (b1 _ _ bc);replace cq:=c9 _ _ U (b1 _ _ cq);refine ak.block (ak.region ?_);refine ka ?_;refine aK.aA aO I I I (Fm.XW true c.aG) ?_;refine aK.go I I I I ?_;rw[c.c3K];refine aK.jh I I I (c3M h.c3L) λr bu ⟨aL,a5⟩=>⟨_,aL,?_⟩
  subst a5;exact aK.nil ⟨rfl,⟨λx hx=>aX x (C1 _ hx),bc,cq⟩,.refl⟩
 ·intro τ ⟨_,bc,cq⟩ zF hd hold;refine⟨rfl,rfl,?_⟩;refine ak.seq (ak.region ?_);refine aK.aA (v:=.m (some (k+1))) cq I I I I ?_;refine aK.jh I I I (h.CI.2 (bC:=[]) (rU _) τ bc) λr a9 ⟨v,c,aL,eF,dE,dW,fK⟩=>⟨_,aL,?_⟩
  cases eF.eq_nil;refine aK.go I I I I ?_;have hn:=fK.1;have gW:=jS (bX:=AO.dead) (fK.2 _ _ hd);refine aK.nil (ak.ret ⟨rfl,fK.2 _ _ hd,v,rfl,dE.aP λi o hi ho=>gW.2 i o (by have:=dW i hi;omega) ho,by show J.next<=a9.next;omega,λi o ho=>?_⟩);have:=ae.bt ho;exact gW.2 i o U (fK.2 i o (hold i o U (c7 i o ho)))
include hf in
theorem c3O(h:SE b K)(a:PF)(kind:Nat)(ay:¬kind=2)(body:bF)(hb:b7w.body=some body):ak (b.aM K) b7w.ntmps body (fv [fa kind,.R (fc a)]) ⟨.nil,0⟩ (jU 4 (.b true)):=by
 cases hb;refine W.jD λz H=>?_;refine aj ?_;refine W.cA (c:=fc a) H I I I I I I λτ cP H bx=>?_;refine aj ?_;have aV:=a.c3J;have ed:=c0w hf h.CI h.xK h.a3s h.bW h.w a.aG a.jC (by simp only[wm,dB,NQ,or_false] at aV;rcases aV with h|h|h|h|h<;>rw[h]<;>decide) τ;have b2:=λτ=>c3N h a τ;simp only[nk] at ed b2;refine W.an trivial I I I ed λr a9 ⟨v,c,aL,eF,dE,dW,fK⟩=>⟨_,aL,?_⟩
 have H:=H.aP fK.2;have iu:∀s∈c,s.2=0:=λs ao=>by
  have ao:=eF.mem_iff.1 ao;simp only[wm,dB,NQ,or_false] at aV;rcases aV with h|h|h|h|h<;>rw[h] at ao<;>simp at ao<;>(try rcases ao with rfl|rfl)<;>simp_all
 have gj:c.length<=2:=by
  rw[eF.length_eq];simp only[wm,dB,NQ,or_false] at aV;rcases aV with h|h|h|h|h<;>rw[h]<;>decide
 have hlen:∀τ,lenA τ 1 v=some c.length:=λτ=>by have:=dE.len (τ:=τ);rwa[uV] at this
 refine W.val (v:=ah c.length) (ai:=a9) I I (xf I (hlen _)) ?_;refine aj ?_;refine ak.each c.length (λi F τ=>a9.next<=τ.next/\(∀i o,a9.get i=some o->τ.get i=some o)/\sat [(5,ah 0),(14,v),(3,aE 0)] F) U ⟨bs _,(λ_ _ h=>h),rfl,rfl,rfl,trivial⟩ I I (λi F τ hi aW s6 Gk=>?_) (λF τ aW s6=>?_)
 ·obtain⟨SA,i_,dm,me,cp,_⟩:=aW;refine ak.norm [(16,ah i),(15,ah c.length),(5,ah 0),(14,v),(3,aE 0)] ⟨s6,Gk,dm,me,cp,trivial⟩ λF=>?_;have H:Has τ []:=Has.nil;obtain⟨o,ry,ho,h7⟩:=dE.inv (by rw[uV];omega);rw[uV] at ry;subst ry;have aL:dV (some 2) (((c.map dz).flatMap AV.cells).drop (0+i*shN (some 2)))=some (dz c[i]):=by
   rw[QR (by rw[uV];omega) h7,mQ]
  refine aj ?_;refine W.val (v:=.p (some (o,0+i*shN (some 2)))) (ai:=τ) I I (IK _ _ i _ I I (m7 hi)) ?_;refine W.val (v:=dz c[i]) (ai:=τ) I I (ou _ _ I (vx (i_ _ _ ho) aL)) ?_;refine W.cC (c:=[.s [],ah 0]) H I I I I λbu er H k3=>?_;refine W.st (bD:=[.s c[i].1,ah c[i].2]) H 0 I I I I I I λcm e_ H b1=>?_;have h0:=iu _ (gC hi);rw[h0] at H;refine aj ?_;exact⟨rfl,rfl,U,λi o ho=>b1 _ _ (by have:=ae.bt ho;omega) (k3 _ _ (i_ _ _ ho)),rfl,rfl,rfl,trivial⟩
 ·obtain⟨SA,i_,dm,me,cp,_⟩:=aW;refine ak.norm [(3,aE 0)] ⟨cp,trivial⟩ λF=>?_;have H:=H.aP i_;refine aj ?_;refine W.an trivial I I I (b2 τ) λr dg ⟨v,aL,dE,fK⟩=>⟨_,aL,?_⟩
  have hlen:∀τ,lenA τ 1 v=some 0:=λτ=>dE.len (τ:=τ);refine W.val (v:=ah 0) (ai:=dg) I I (xf I (hlen _)) ?_;have H:=H.aP fK.2;refine aj ?_;refine ak.each 0 (λj F τ=>True) bw trivial I I (λj F τ ax=>by omega) λF τ aW _=>?_;refine ak.norm [] trivial λF=>?_;have H:Has τ []:=Has.nil;refine aj ?_;exact ak.ret ⟨rfl,rfl⟩
def Lo(a:PF)(h:a.aG.dep<=200)(τ:ae):bM τ (b.bp+1000) (.R (fc a))=some (.R (fc a)):=by
 have:=uG a h (b:=b) τ;rwa[PF.ES,nk] at this
include hf in
theorem c3P(a:PF)(hd:a.aG.dep<=200)(l:iF)(ho:l.ops=254)(hR:K kb [.R (fc a)] (.b true))(Ct:b.ext kb=0/\b.pure kb=true)(ch:K rl [.R (fc a)] (.i .u32 (Int.ofNat (rq a.aG))))(SF:b.ext rl=0/\b.pure rl=true)
  (hA:K BU [fa l.kind,.R (fc a)] (.b true)) (c3Q:b.ext BU=0/\b.pure BU=true) (body:bF) (hb:Zl.body=some body):ak (b.aM K) Zl.ntmps body (fv [l.A true,.R (fc a)]) ⟨.nil,0⟩ (jU 4 (.b true)):=by
 cases hb;refine W.jD λz H=>?_;refine aj ?_;refine W.cA (c:=l.cells true) H I I I I I I λτ cP H bx=>?_;refine aj ?_;refine W.cA (c:=fc a) H cP I I I I I λa9 c8 H bb=>?_;refine aj ?_;refine W.e3 hf Ct hR I I I (k_ (Lo a hd _)) ?_;refine aj ?_;refine W.e3 hf SF ch I I I (k_ (Lo a hd _)) ?_;refine W.bin (v:=.i .u32 (Int.ofNat 0)) I I I I ((a1E (Qa (E5 _)) (by rw[ho];decide)).trans (by rw[ho];show some (AV.i .u32 (Int.ofNat (tU (rq a.aG) 254)))=_;rw[a.ops])) ?_;refine aj ?_;refine W.e3 hf c3Q hA I I I (nF I (Lo a hd _)) ?_;refine aj ?_;exact ak.ret ⟨rfl,rfl⟩
include hf in
theorem c3R(a:PF)(hd:a.aG.dep<=200)(l:iF)(ni:∀J,bM J (b.bp+1000) (l.A true)=some (l.A true))(hL:K lr [l.A true] (.b true))(v5:b.ext lr=0/\b.pure lr=true)(h1:K sI [l.A true,.R (fc a)] (.b true))(aL:b.ext sI=0/\b.pure sI=true)
  (body:bF) (hb:b7f.body=some body):ak (b.aM K) b7f.ntmps body (fv [l.A true,.R (fc a)]) ⟨.nil,0⟩ (jU 4 (.b true)):=by
 cases hb;refine W.jD λz H=>?_;refine aj ?_;refine W.cA (c:=l.cells true) H I I I I I I λτ cP H bx=>?_;refine aj ?_;refine W.cA (c:=fc a) H cP I I I I I λa9 c8 H bb=>?_;refine aj ?_;refine W.e3 hf v5 hL I I I (k_ (ni _)) ?_;refine aj ?_;refine W.e3 hf aL h1 I I I (nF (ni _) (Lo a hd _)) ?_;refine aj ?_;exact ak.ret ⟨rfl,rfl⟩
end
end
section
variable [Tok][TokOk]
open Go.RowKit Go.Lyc.T
def Lp{a b:AV}(h:[a]=[b]):a=b:=by injection h
def kh{a b c d:AV}(h:[a,b]=[c,d]):a=c/\b=d:=by injection h with h1 h2;injection h2 with h2;exact⟨h1,h2⟩
def a3t{a b:List Nat}(h:AV.s a= .s b):a=b:=by injection h
def x6{k:IntKind}{a b:Int}(h:AV.i k a= .i k b):a=b:=by injection h
def a3u{a b:fE}(h:dz a=dz b):a=b:=by
 obtain⟨aX,bc⟩:=a;obtain⟨eF,dE⟩:=b;injection h with h
 injection h with h1 h2
 injection h2 with h2 _
 injection h2 with _ h2
 exact Prod.ext (a3t h1) (oT h2)
abbrev HB(b:bT)(g:Nat)(c:aN):Prop:=b.funcs.get g=some c/\b.ext g=0/\b.pure g=false
abbrev ll(b:bT)(g:Nat)(c:aN):Prop:=b.funcs.get g=some c/\b.ext g=0/\b.pure g=true
def HB.h{b:bT}{K:Nat->List AV->AV->Prop}{g:Nat}{c:aN}(h:HB b g c):bk (b.aM K) g c:=⟨h.1,h.2.1,h.2.2⟩
def hs(x:Bool):fk 1000 (.b x)=true/\AV.eqb 1000 (.b x) (.b x)=true:=⟨rfl,Snp.eqb 1000 _ (Snp.b 999 _)⟩
def nG(k:IntKind)(x:Int):fk 1000 (.i k x)=true/\AV.eqb 1000 (.i k x) (.i k x)=true:=⟨rfl,Snp.eqb 1000 _ (Snp.i 999 _ _)⟩
def x7(bA cI dR eB az e:Nat):AV:=.a0 [.R [ah bA,fa cI,fa dR,ah eB,ah az],ah e]
def c3S(T:List bg)(r:AV):Prop:=∃bA cI dR eB az e,r=x7 bA cI dR eB az e/\(e=0\/e=180)/\∀gP x,T=gP++[x]->(x.c2=oK->(stF gP (x.cs.headD (0,0)).2=[]->e=0)/\(stF gP (x.cs.headD (0,0)).2≠[]->e=180/\bA=gP.length+1/\cI=5/\dR=0/\eB=0/\az=0))/\(x.c2≠oK->hJ T (cS T) (gP.length+1) (x.cs.headD (0,0)).1 (x.cs.headD (0,0)).2=false->e=180)
def PF.js(a:PF):a.aG.dep=a.dep:=by
 induction a with
 | fU q=>rfl
 |cO=>rfl
 |neg a aH=>
  rw[Fm.qf];show max 0 (Fm.gH [a.aG])+1=a.dep+1;rw[Fm.gH,aH,Fm.gH];omega
 |bin k a c aH r2=>
  rw[Fm.qf];show max 0 (Fm.gH [a.aG,c.aG])+1=max a.dep c.dep+1;rw[Fm.gH,aH,Fm.gH,r2,Fm.gH];omega
def PF.c3T:∀ {a c:PF},a.aG=c.aG->a=c:=λ{a c} h=>by
 induction a generalizing c with
 | fU q=>cases c with
  | fU nD=>cases q<;>cases nD<;>first|rfl|(injection h with _ h;cases h)
  |bin k _ _=>injection h with h;exact absurd h U
  |_=>cases h
 |cO=>cases c with
  |cO=>rfl
  |bin k _ _=>injection h with h;exact absurd h U
  |_=>cases h
 |neg a aH=>cases c with
  |neg c=>injection h with _ _ _ h;injection h with h;injection h with h;rw[aH h]
  |bin k _ _=>injection h with h;exact absurd h U
  |_=>cases h
 |bin k a bc aH r2=>cases c with
  |bin dF c m4=>
   injection h with h0 _ _ h
   injection h with h
   injection h with h1 h
   injection h with h2
   rw[aH h1,r2 h2,Fin.ext (show k.val=dF.val by omega)]
  | fU q=>injection h with h;exact absurd h U
  |cO=>injection h with h;exact absurd h U
  |neg c=>injection h with h;exact absurd h U
def PF.kP{a c:PF}(h:a.aG.A true=c.aG.A true):a=c:=PF.c3T (Fm.kP h)
def map_inj{α β:Type}{f:α->β}(hf:∀x y,f x=f y->x=y):∀ {l m:List α},l.map f=m.map f->l=m
 |[],[],_=>rfl
 |[],_::_,h=>by cases h
 |_::_,[],h=>by cases h
 |x::l,y::m,h=>by
  injection h with h1 h2
  rw[hf x y h1,map_inj hf h2]
def a3v{a c:PF}(h:jo a=jo c):a.subs=c.subs:=by
 have h:=XR h;refine map_inj (f:=λx:PF=>AV.R (bN x.aG)) (λx y y7=>PF.kP ?_) h;rw[jk,jk];exact y7
def c3U{l m:List (Nat×Nat)}(h:hI true l=hI true m):l=m:=by
 refine map_inj (f:=λc:Nat×Nat=>AV.R [ah c.1,ah c.2]) (λx y y7=>?_) (XR h);injection y7 with h
 injection h with h1 h
 injection h with h2 _
 exact Prod.ext (oT (x6 h1)) (oT (x6 h2))
def bg.kP{x y:bg}(h:x.A=y.A):x=y:=by
 obtain⟨aX,bc,cq,ew,eJ,kt⟩:=x;obtain⟨eF,dE,dW,fK,nZ,c3V⟩:=y;injection h with h
 injection h with h1 h
 injection h with h2 h
 injection h with h3 h
 injection h with f1 h
 injection h with f2 h
 injection h with f3 h
 injection h with f4 h
 injection h with bI h
 injection h with cx _
 have iB:ew=fK:=Fm.kP (o:=true) (by rw[jk,jk];show AV.R [_,_,_,_]=AV.R [_,_,_,_];rw[f1,f2,f3,f4]);have aL:aX=eF:=oT (x6 h1);have a5:bc=dE:=oT (x6 h2);have cy:cq=dW:=by injection h3
 have hk:eJ=nZ:=a3t bI;have mC:kt=c3V:=c3U cx;rw[aL,a5,cy,iB,hk,mC]
def c3W{T kB:List bg}(h:cG T=cG kB):T=kB:=by
 injection h with _ _ h
 exact map_inj (λx y=>bg.kP) h
def SG(r:AV):Prop:=∃cZ,r= .a0 [.R [cZ,.af],ah 0,ah 0]/\(∀J,freeze J 0 998 cZ=some cZ)/\(∀n,AV.eqb (n+500) cZ cZ=true)/\∀n,fk (n+500) cZ=true
def Lq:List Nat:=[kb,na,lr,xB,vN,xr,BU,sI,lb]
structure ln(cn cb:AV)(g:Nat)(aQ:List AV)(r:AV):Prop where
 s7:g∈Lq->r= .b true
 zR:g=oB->r=ah 0
 size:g=ua->∀a:PF,aQ=[a.aG.A true]->r=ah a.b0
 c3X:g=zD->∀a c:PF,aQ=[jo a,jo c]->r= .b (decide (a.subs=c.subs))
 a3w:g=ub->∀a c:PF,aQ=[a.aG.A true,c.aG.A true]->r= .b (decide (a=c))
 c3Y:g=xC->∀a c:PF,aQ=[a.aG.A true,c.aG.A true,.af]->r= .b (decide (a=c))
 a3x:g=ui->∀a c:PF,aQ=[a.aG.A true,c.aG.A true,.af]->r= .b (decide (a=c))
 Q8:g=vQ->∀a c:PF,aQ=[a.aG.A true,c.aG.A true]->r= .b (decide (a=c))
 c3Z:g=xq->∀a:PF,∀p,aQ=[p,a.aG.A true,.af]->r= .a0 [a.aG.A false,.b true]
 x8:g=ma->∀a:PF,aQ=[a.aG.A true]->r=a.aG.A false
 kU:g=uf->∀T k,aQ=[cG T,ah k]->r= .b (nN T k)
 pE:g=uc->∀T,aQ=[cG T]->r= .a0 [b9P (ndsL T T.length),ah 0]
 d0m:g=jT->∀T,aQ=[cn,cG T]->c3S T r
 ops:g=rl->∀a:PF,aQ=[a.aG.A true]->r= .i .u32 (Int.ofNat (rq a.aG))
 CI:g=ik->∀x y:fE,aQ=[dz x,dz y]->r= .i .i64 (qu x y)
 log:g=vK->r=cb
 FN:g=qi->SG r
 app:g=vO->∃cZ gL dR eB az,r= .a0 [.R [cZ,gL],.R [fa dR,ah eB,ah az],ah 0]
section
variable (P:Program)(b:bT)(cn cb:AV)
def cV(g:Nat)(aQ:List AV)(r:AV):Prop:=∀bz,SpecEntry P (b.env []) bz g aQ r
def c3(g:Nat)(aQ:List AV)(r:AV):Prop:=∃h:∃r,cV P b g aQ r/\ln cn cb g aQ r,r=Classical.choose h
end
section
variable {P:Program}{b:bT}{cn cb:AV}
def c3.fn:∀g aQ r b5,c3 P b cn cb g aQ r->c3 P b cn cb g aQ b5->r=b5:=λg aQ r b5 ⟨h,e⟩ ⟨h',c4⟩=>by rw[e,c4]
def c3.ok:tV P b (c3 P b cn cb):=λg aQ r ⟨h,e⟩=>by subst e;exact(Bw h).1
def c3.get{g:Nat}{aQ:List AV}{r:AV}(h:cV P b g aQ r)(aW:ln cn cb g aQ r):∃r,c3 P b cn cb g aQ r/\ln cn cb g aQ r:=⟨_,⟨⟨r,h,aW⟩,rfl⟩,(Bw (⟨r,h,aW⟩:∃r,cV P b g aQ r/\ln cn cb g aQ r)).2⟩
def c3.jJ{g:Nat}{aQ:List AV}{r:AV}(h:cV P b g aQ r)(aW:ln cn cb g aQ r)(hu:∀b5,ln cn cb g aQ b5->b5=r):c3 P b cn cb g aQ r:=by
 obtain⟨b5,h1,h2⟩:=c3.get h aW;rw[<-hu b5 h2];exact h1
def a3y(a:PF):ln cn cb ua [a.aG.A true] (ah a.b0):=by
 constructor<;>(intro h;first|exact absurd h bw|skip)
 intro c h;rw[PF.kP (Lp h)]
def c4a(a c:PF):ln cn cb zD [jo a,jo c] (.b (decide (a.subs=c.subs))):=by
 constructor<;>(intro h;first|exact absurd h bw|skip)
 intro cH bD h;rw[a3v (kh h).1,a3v (kh h).2]
def a3z(a c:PF):ln cn cb ub [a.aG.A true,c.aG.A true] (.b (decide (a=c))):=by
 constructor<;>(intro h;first|exact absurd h bw|skip)
 intro cH bD h;rw[PF.kP (kh h).1,PF.kP (kh h).2]
def c4b(a c:PF):ln cn cb xC [a.aG.A true,c.aG.A true,.af] (.b (decide (a=c))):=by
 constructor<;>(intro h;first|exact absurd h bw|skip)
 intro cH bD h;injection h with h1 h
 rw[PF.kP h1,PF.kP (kh h).1]
def a3A(a c:PF):ln cn cb ui [a.aG.A true,c.aG.A true,.af] (.b (decide (a=c))):=by
 constructor<;>(intro h;first|exact absurd h bw|skip)
 intro cH bD h;injection h with h1 h
 rw[PF.kP h1,PF.kP (kh h).1]
def c4c(a c:PF):ln cn cb vQ [a.aG.A true,c.aG.A true] (.b (decide (a=c))):=by
 constructor<;>(intro h;first|exact absurd h bw|skip)
 intro cH bD h;rw[PF.kP (kh h).1,PF.kP (kh h).2]
def c4d(p:AV)(a:PF):ln cn cb xq [p,a.aG.A true,.af] (.a0 [a.aG.A false,.b true]):=by
 constructor<;>(intro h;first|exact absurd h bw|skip)
 intro cH eQ h;injection h with h1 h
 rw[PF.kP (kh h).1]
def Z6(a:PF):ln cn cb ma [a.aG.A true] (a.aG.A false):=by
 constructor<;>(intro h;first|exact absurd h bw|skip)
 intro c h;rw[PF.kP (Lp h)]
def c4e(a:PF):ln cn cb rl [a.aG.A true] (.i .u32 (Int.ofNat (rq a.aG))):=by
 constructor<;>(intro h;first|exact absurd h bw|skip)
 intro c h;rw[PF.kP (Lp h)]
def c4f(x y:fE):ln cn cb ik [dz x,dz y] (.i .i64 (qu x y)):=by
 constructor<;>(intro h;first|exact absurd h bw|skip)
 intro a c h;rw[a3u (kh h).1,a3u (kh h).2]
def s8{g:Nat}{aQ:List AV}(hg:g∈Lq):ln cn cb g aQ (.b true):=by
 simp only[Lq,dB,NQ,or_false] at hg;rcases hg with rfl|rfl|rfl|rfl|rfl|rfl|rfl|rfl|rfl<;>constructor<;>(intro h;first|exact absurd h bw|rfl)
def c4g{aQ:List AV}:ln cn cb oB aQ (ah 0):=by
 constructor<;>(intro h;first|exact absurd h bw|rfl)
def c4h(T:List bg)(k:Nat):ln cn cb uf [cG T,ah k] (.b (nN T k)):=by
 constructor<;>(intro h;first|exact absurd h bw|skip)
 intro m3 dF h;rw[c3W (kh h).1,oT (x6 (kh h).2)]
def c4i{aQ:List AV}:ln cn cb vK aQ cb:=by
 constructor<;>(intro h;first|exact absurd h bw|rfl)
def c4j{aQ:List AV}{r:AV}(aq:SG r):ln cn cb qi aQ r:=by
 constructor<;>(intro h;first|exact absurd h bw|exact aq)
def c4k{aQ:List AV}{r:AV}(aq:∃cZ gL dR eB az,r= .a0 [.R [cZ,gL],.R [fa dR,ah eB,ah az],ah 0]):ln cn cb vO aQ r:=by
 constructor<;>(intro h;first|exact absurd h bw|exact aq)
end
structure nV(T:List bg):Prop where
 kU:zL T
 kv:oD T (cS T)
 wk:∀k x,1<=k->T[k-1]? =some x->oG k x.cs
 aa:∀k,1<=k->k<=T.length->nN T k=true
 dep:∀x∈T,x.f.dep<=40
 le:T.length<=36
 ne:T≠[]
def Rd.Ai{L:List ba}{ad:List (List Nat)}{az:List Nat}(h:Rd L ad az)(hL:L.length<=36)(a7:L≠[]):nV (L.map ba.bA) where
 kU:=h.kU U
 kv:=h.kv U
 wk k x h1 hx:=h.wk h1 hx
 aa k h1 h2:=by
  rw[uV] at h2;exact(h.shape h1 (fw (show k-1<L.length by omega))).1
 dep x hx:=by
  obtain⟨y,hy,rfl⟩:=ti.1 hx;show y.f.aG.dep<=40;rw[PF.js];have:=(h.low hL hy).1;omega
 le:=by rw[uV];exact hL
 ne:=by simpa using a7
end
section
open Go Go.RowKit Go.ChangeShapes Go.WideShapes
section
variable {H:Type}{enc:TypeId×Value->H}{P:Program}{w:World}{B:Nat}
structure d0n(P:Program)(Lr Gl Ls Gm Gn Gp Lt:TypeId):Prop where
 b:P.underlying Lr=some .bool
 s:P.underlying Gl=some .string
 u:P.underlying Ls=some (.int .u8)
 lE:P.underlying Gn=some (.slice Gm)
 a8:P.underlying Lt=some (.slice Gp)
 d0o:P.cellsOf Lr=1
 cs:P.cellsOf Gl=1
 d0p:P.cellsOf Ls=1
 d0q:P.cellsOf Gn=1
 d0r:P.cellsOf Lt=1
 EC:P.cellsOf Gm=3
 fD:P.cellsOf Gp=4
 gL:0<P.bytesOf Gm
 cZ:0<P.bytesOf Gp
 t:∃a b c:Field,P.underlying Gm=some (.struct #[a,b,c])/\(a.type=Lr/\a.offset=0)/\(b.type=Gl/\b.offset=1)/\(c.type=Gn/\c.offset=2)
 f:∃a b c d:Field,P.underlying Gp=some (.struct #[a,b,c,d])/\(a.type=Ls/\a.offset=0)/\(b.type=Gl/\b.offset=1)/\(c.type=Gn/\c.offset=2)/\(d.type=Lt/\d.offset=3)
variable {Lr Gl Ls Gm Gn Gp Lt:TypeId}
end
end
section
open Go Go.RowKit
section
variable [Tok][TokOk]
def elemF(f:AV->AV)(x:AV):AV:=match x with| .R c=>.R (c.map f)|x=>f x
def sb(n:Nat):AV->AV:=Nat.rec (motive:=λ_=>AV->AV) (λv=>v) (λ_ aH v=>match v with
 | .y i=>Tok.De i
 | .gu o i=>Tok.pO o i
 | .R l=>.R (l.map aH)
 | .a_ o aa xs=>.a_ o aa (xs.map (elemF aH))
 |v=>v) n
end
abbrev tokOf(F:Fm):Tok:=⟨λi=>cond (Nat.beq i 0) (fa F.op) (.s F.name),λo i=>cond (Nat.beq i 0) (gG o F.fl) (gp o F.e4)⟩
section
variable [Tok]
def Seen(w:World)(o bX:Bool)(O kk:Nat->Prop)(B eL:Nat):Prop:=∀aD,aD<w.heap.size->¬O aD->(o=false->B<=aD)->¬kk aD/\(bX=false->eL<=aD)
def a3B{α:Type}{w:World}{o bX:Bool}{O kk:Nat->Prop}{B eL k:Nat}(cQ:Seen w o bX O kk B eL)(f g:α->List AV)(l:List α)(hf:∀x∈l,(f x).length=k)(hg:∀x∈l,(g x).length=k)(ab:∀x∈l,∀y∈g x,conf none y=true)
  (aH:∀x∈l,∀i (h:i<(f x).length) (h':i<(g x).length) u,ag w (λ_=>none) O B ((f x)[i]) u->ag w (λ_=>none) kk eL ((g x)[i]) u) {u:Value} (h:ag w (λ_=>none) O B (.a_ o (some k) (l.map λx=>.R (f x))) u):ag w (λ_=>none) kk eL (.a_ bX (some k) (l.map λx=>.R (g x))) u:=by
 generalize dG:l.map (λx=>AV.R (f x))=xs at h;cases h with
 |lW=>
  obtain rfl:=FM.1 dG;exact .lW
 |a_ bf ch ao yM aq hl z7 fy=>
  rename_i aD off gl sp;have hlen:xs.length=(l.map λx=>AV.R (g x)).length:=by rw[<-dG,uV,uV]
  rw[hlen];have a7:(l.map λx=>AV.R (g x))≠[]->xs≠[]:=λh e=>h (by rw[<-dG,FM] at e;rw[e];rfl);have hx:∀i (h:i<xs.length) (h':i<l.length),xs[i]= .R (f l[i]):=λi h h'=>by subst dG;simp
  have hy:∀i (h:i<(l.map λx=>AV.R (g x)).length) (h':i<l.length),(l.map λx=>AV.R (g x))[i]= .R (g l[i]):=λi h h'=>by simp
  have e0:(l.map λx=>AV.R (g x)).length=l.length:=uV ..;refine .a_ bf (λh=>?_) (λi hi=>?_) (λi hi j ax=>?_) (λi hi j ax=>?_) U (λv au x hx=>?_) (λh=>fy (a7 h))
  ·obtain⟨h1,h2,h3⟩:=ch (a7 h);obtain⟨aO,bI⟩:=cQ aD h2 h1 h3;exact⟨aO,h2,bI⟩
  ·rw[hy i hi U];show conf (some k) (.R _)=true;simp[conf,hg _ (gC (show i<l.length by omega))]
  ·have dq:i<l.length:=by omega
   have aL:((l.map λx=>AV.R (g x))[i]).cells=g l[i]:=by rw[hy i hi dq];rfl
   have fA:j<(g l[i]).length:=by rw[aL] at ax;exact ax
   have a5:(xs[i]'U).cells=f l[i]:=by rw[hx i U dq];rfl
   exact yM i U j (by rw[a5,hf _ (gC dq),← hg _ (gC dq)];exact fA)
  ·have dq:i<l.length:=by omega
   have aL:((l.map λx=>AV.R (g x))[i]).cells=g l[i]:=by rw[hy i hi dq];rfl
   have fA:j<(g l[i]).length:=by rw[aL] at ax;exact ax
   have a5:(xs[i]'U).cells=f l[i]:=by rw[hx i U dq];rfl
   have gK:j<(f l[i]).length:=by rw[hf _ (gC dq),← hg _ (gC dq)];exact fA
   have:=aq i U j (by rw[a5];exact gK);simp only[a5] at this;simp only[aL];exact aH _ (gC dq) j gK fA _ this
  ·obtain⟨y,hy,rfl⟩:=ti.1 au;exact ab y hy x hx
def Lu{w:World}{o bX:Bool}{O kk:Nat->Prop}{B eL:Nat}(cQ:Seen w o bX O kk B eL):∀(d:Nat) (a:Option (List Tm)),Tm.gH (a.getD [])<d->∀u,ag w (λ_=>none) O B (gG o a) u->ag w (λ_=>none) kk eL (gG bX a) u
 |0,a,h,_,_=>by omega
 |d+1,none,_,u,h=>by
  have h:ag w (λ_=>none) O B .af u:=h;cases h;exact .af
 |d+1,some l,hd,u,h=>by
  refine a3B (k:=3) cQ (λt:Tm=>t.cells o) (λt:Tm=>t.cells bX) l (λt _=>by rw[Tm.j_];rfl) (λt _=>by rw[Tm.j_];rfl) (λt _ y hy=>?_) (λt ht i h1 h2 u hu=>?_) h
  ·rw[Tm.j_] at hy;simp only[dB,NQ,or_false] at hy;rcases hy with rfl|rfl|rfl
   ·rfl
   ·rfl
   ·cases t.fl<;>rfl
  ·have SH:Tm.gH (t.fl.getD [])<d:=by
    have h3:Tm.gH l<d+1:=hd;have aO:=Tm.xg ht;have bI:t.dep=Tm.gH (t.fl.getD [])+1:=Tm.qf t;omega
   simp only[Tm.j_] at hu h1 h2 ⊢
   match i,h1 with
   |0,_=>cases hu;exact .b _
   |1,_=>cases hu;exact .s _ (by assumption)
   |2,_=>exact Lu cQ d t.fl SH u hu
def Gq{w:World}{o bX:Bool}{O kk:Nat->Prop}{B eL:Nat}(cQ:Seen w o bX O kk B eL):∀(d:Nat) (a:Option (List Fm)),Fm.gH (a.getD [])<d->∀u,ag w (λ_=>none) O B (gp o a) u->ag w (λ_=>none) kk eL (gp bX a) u
 |0,a,h,_,_=>by omega
 |d+1,none,_,u,h=>by
  have h:ag w (λ_=>none) O B .af u:=h;cases h;exact .af
 |d+1,some l,hd,u,h=>by
  refine a3B (k:=4) cQ (λt:Fm=>t.cells o) (λt:Fm=>t.cells bX) l (λt _=>by rw[Fm.j_];rfl) (λt _=>by rw[Fm.j_];rfl) (λt _ y hy=>?_) (λt ht i h1 h2 u hu=>?_) h
  ·rw[Fm.j_] at hy;simp only[dB,NQ,or_false] at hy;rcases hy with rfl|rfl|rfl|rfl
   ·rfl
   ·rfl
   ·cases t.fl<;>rfl
   ·cases t.e4<;>rfl
  ·have SH:Fm.gH (t.e4.getD [])<d:=by
    have h3:Fm.gH l<d+1:=hd;have aO:=Fm.xg ht;have bI:t.dep=max (Tm.gH (t.fl.getD [])) (Fm.gH (t.e4.getD []))+1:=Fm.qf t;omega
   simp only[Fm.j_] at hu h1 h2 ⊢
   match i,h1 with
   |0,_=>cases hu;exact .i _ _
   |1,_=>cases hu;exact .s _ (by assumption)
   |2,_=>exact Lu cQ _ t.fl (lV _) u hu
   |3,_=>exact Gq cQ d t.e4 SH u hu
end
theorem tokOf_ok(F:Fm): @TokOk (tokOf F):=by
 letI:Tok:=tokOf F
 refine⟨λ{w O B eL i old u} h=>?_,λ{w O B i u} h=>?_⟩
 ·have cQ:Seen w old true O (λ_=>False) B eL:=λaD _ _ _=>⟨λh=>h,λh=>by cases h⟩
  by_cases hi:i=0
  ·subst hi;exact Lu cQ _ F.fl (lV _) u h
  ·have e:∀o,Tok.pO o i=gp o F.e4:=λo=>by
    show cond (Nat.beq i 0) (gG o F.fl) (gp o F.e4)=_;cases i with
    |zero=>exact absurd I hi
    |succ i=>rfl
   rw[e] at h ⊢;exact Gq cQ _ F.e4 (lV _) u h
 ·have cQ:Seen w false false O (λb=>b<B) B B:=λaD _ _ h=>⟨λh2=>by have:=h I;omega,h⟩
  by_cases hi:i=0
  ·subst hi;exact Lu cQ _ F.fl (lV _) u h
  ·have e:∀o,Tok.pO o i=gp o F.e4:=λo=>by
    show cond (Nat.beq i 0) (gG o F.fl) (gp o F.e4)=_;cases i with
    |zero=>exact absurd I hi
    |succ i=>rfl
   rw[e] at h ⊢;exact Gq cQ _ F.e4 (lV _) u h
inductive b4(T:Tok):AV->AV->Prop
 |i (k:IntKind) (n:Int):b4 T (.i k n) (.i k n)
 |s (l:List Nat):b4 T (.s l) (.s l)
 |b (x:Bool):b4 T (.b x) (.b x)
 |nil:b4 T .af .af
 |y (i:Nat) (h:(∃k n,T.De i= .i k n)\/∃l,T.De i= .s l):b4 T (.y i) (T.De i)
 |gu (o:Bool) (i:Nat) (v:AV) (h:T.pO o i= .af\/∃aa l,T.pO o i= .a_ o aa l) (au:b4 T (T.pO o i) v):b4 T (.gu o i) v
 |R (l m:List AV) (hl:l.length=m.length) (h:∀i (h:i<l.length) (h':i<m.length),b4 T l[i] m[i]):b4 T (.R l) (.R m)
 |a0 (l m:List AV) (hl:l.length=m.length) (h:∀i (h:i<l.length) (h':i<m.length),b4 T l[i] m[i]):b4 T (.a0 l) (.a0 m)
 |a_ (o:Bool) (aa:Option Nat) (c d:List (List AV)) (hl:c.length=d.length) (e0:∀i (h:i<c.length) (h':i<d.length),(c[i]).length=(d[i]).length) (h:∀i (h:i<c.length) (h':i<d.length) j (ax:j<(c[i]).length) (fA:j<(d[i]).length),b4 T (c[i])[j] (d[i])[j]):b4 T (.a_ o aa (c.map AV.R)) (.a_ o aa (d.map AV.R))
def b4.conf{T:Tok}{v bR:AV}(h:b4 T v bR):conf none v=conf none bR:=by
 induction h with
 |y i h=>rcases h with⟨k,n,e⟩|⟨l,e⟩<;>rw[e]<;>rfl
 |gu o i v h au aH=>rw[<-aH];rcases h with e|⟨aa,l,e⟩<;>rw[e]<;>rfl
 |_=>rfl
def b4.ag{T gP:Tok}{w:World}{O:Nat->Prop}{B:Nat}{v bR:AV}(h:b4 T v bR):∀u,@Go.Lyc.ag T w (λ_=>none) O B v u↔ @Go.Lyc.ag gP w (λ_=>none) O B bR u:=by
 induction h with
 |i k n=>exact λu=>⟨λh=>by cases h;exact .i _ _,λh=>by cases h;exact @Go.Lyc.ag.i T w _ O B _ _⟩
 |s l=>exact λu=>⟨λh=>by cases h;exact .s _ (by assumption),λh=>by cases h;exact @Go.Lyc.ag.s T w _ O B _ (by assumption)⟩
 |b x=>exact λu=>⟨λh=>by cases h;exact .b _,λh=>by cases h;exact @Go.Lyc.ag.b T w _ O B _⟩
 |nil=>exact λu=>⟨λh=>by cases h;exact .af,λh=>by cases h;exact @Go.Lyc.ag.af T w _ O B⟩
 |y i h=>
  intro u;constructor
  ·intro hR;cases hR with
   |y hl=>
    rcases h with⟨k,n,e⟩|⟨l,e⟩
    ·rw[e] at hl ⊢;cases hl;exact .i _ _
    ·rw[e] at hl ⊢;cases hl with
     |s l h=>exact .s l h
  ·intro hR;refine @Go.Lyc.ag.y T w _ O B i u ?_;rcases h with⟨k,n,e⟩|⟨l,e⟩
   ·rw[e] at hR ⊢;cases hR;exact .i _ _
   ·rw[e] at hR ⊢;cases hR with
    |s l h=>exact .s l h
 |gu o i v h au aH=>
  intro u;constructor
  ·intro hR;cases hR with
   |gu hu h=>exact(aH u).1 h
  ·intro hR;have h2:=(aH u).2 hR;obtain⟨a,l,c,e⟩:∃a l c,u= .slice a l c:=by
    rcases h with e|⟨aa,l,e⟩
    ·rw[e] at h2;cases h2;exact⟨_,_,_,rfl⟩
    ·rw[e] at h2;cases h2<;>exact⟨_,_,_,rfl⟩
   exact @Go.Lyc.ag.gu T w _ O B i o u a l c e h2
 |R l m hl h aH=>
  intro u;constructor
  ·intro hR;cases hR with
   |R ao aq hf=>
    refine .R U (λi h1 h2=>(aH i U h1 _).1 (aq i U h2)) λx hx=>?_;obtain⟨i,hi,rfl⟩:=tj hx;rw[<-(h i U hi).conf];exact hf _ (gC _)
  ·intro hR;cases hR with
   |R ao aq hf=>
    refine @Go.Lyc.ag.R T w _ O B l _ U (λi h1 h2=>(aH i h1 U _).2 (aq i U h2)) λx hx=>?_;obtain⟨i,hi,rfl⟩:=tj hx;rw[(h i hi U).conf];exact hf _ (gC _)
 |a0 l m hl h aH=>
  intro u;constructor
  ·intro hR;cases hR with
   |a0 ao aq=>exact .a0 U λi h1 h2=>(aH i U h1 _).1 (aq i U h2)
  ·intro hR;cases hR with
   |a0 ao aq=>exact @Go.Lyc.ag.a0 T w _ O B l _ U λi h1 h2=>(aH i h1 U _).2 (aq i U h2)
 |a_ o aa c d hl e0 h aH=>
  have key:∀(SJ pc:Tok) (c d:List (List AV)),c.length=d.length->(∀i (h:i<c.length) (h':i<d.length),(c[i]).length=(d[i]).length)->(∀i (h:i<c.length) (h':i<d.length) j (ax:j<(c[i]).length) (fA:j<(d[i]).length),Go.Lyc.conf none (c[i])[j]=Go.Lyc.conf none (d[i])[j]/\∀u,@Go.Lyc.ag SJ w (λ_=>none) O B (c[i])[j] u→ @Go.Lyc.ag pc w (λ_=>none) O B (d[i])[j] u)->∀u,@Go.Lyc.ag SJ w (λ_=>none) O B (.a_ o aa (c.map AV.R)) u→ @Go.Lyc.ag pc w (λ_=>none) O B (.a_ o aa (d.map AV.R)) u:=by
   intro SJ pc c d hl e0 hh u hR;generalize hx:c.map AV.R=xs at hR;cases hR with
   |lW=>
    obtain rfl:=FM.1 hx;obtain rfl:d=[]:=Rv.1 (by simpa using hl.symm);exact .lW
   |a_ bf ch ao ab aq hL hf fy=>
    have jB:xs.length=c.length:=by rw[<-hx,uV]
    have hg:∀i (h:i<xs.length) (h':i<c.length),xs[i]= .R c[i]:=λi h h'=>by subst hx;simp
    have Bc:(d.map AV.R).length=xs.length:=by rw[uV];omega
    have z2:∀i (h:i<(d.map AV.R).length) (h':i<d.length),(d.map AV.R)[i]= .R d[i]:=λi h h'=>by simp
    have a7:d.map AV.R≠[]->xs≠[]:=λh e=>h (Rv.1 (by rw[Bc,e];rfl));rw[<-Bc];refine .a_ bf (λh=>ch (a7 h)) (λi h=>?_) (λi h j ax=>?_) (λi h j ax=>?_) U (λv au x eo=>?_) (λh=>fy (a7 h))
    ·have h1:=ao i U;rw[hg i U U] at h1;rw[z2 i h U];cases aa with
     |none=>cases h1
     |some k=>
      have h1:Nat.beq (c[i]'U).length k=true:=h1;show Nat.beq (d[i]'U).length k=true;rw[<-e0 i U U];exact h1
    ·have aL:((d.map AV.R)[i]).cells.length=(d[i]'U).length:=by rw[z2 i h U];rfl
     have a5:(xs[i]'U).cells.length=(c[i]'U).length:=by rw[hg i U U];rfl
     exact ab i U j (by rw[a5,e0 i U U,← aL];exact ax)
    ·have aL:((d.map AV.R)[i]).cells=d[i]'U:=by rw[z2 i h U];rfl
     have a5:(xs[i]'U).cells=c[i]'U:=by rw[hg i U U];rfl
     have Ah:j<(d[i]'U).length:=by rw[<-aL];exact ax
     have gK:j<(c[i]'U).length:=by rw[e0 i U U];exact Ah
     have h3:=aq i U j (by rw[a5];exact gK);simp only[a5] at h3;simp only[aL];exact(hh i U U j gK Ah).2 _ h3
    ·obtain⟨i,hi,rfl⟩:=tj au;have aL:((d.map AV.R)[i]).cells=d[i]'(by rw[uV] at hi;exact hi):=by rw[z2 i hi (by rw[uV] at hi;exact hi)];rfl
     rw[uV] at hi;rw[aL] at eo;obtain⟨j,ax,rfl⟩:=tj eo;have a5:(xs[i]'U).cells=c[i]'U:=by rw[hg i U U];rfl
     have gK:j<(c[i]'U).length:=by rw[e0 i U U];exact ax
     rw[<-(hh i U U j gK ax).1];exact hf _ (gC (show i<xs.length by omega)) _ (by rw[a5];exact gC _)
  intro u;constructor
  ·exact key T gP c d hl e0 (λi h1 h2 j ax fA=>⟨(h i h1 h2 j ax fA).conf,λu=>(aH i h1 h2 j ax fA u).1⟩) u
  ·exact key gP T d c hl.symm (λi h1 h2=>(e0 i h2 h1).symm) (λi h1 h2 j ax fA=>⟨(h i h2 h1 j fA ax).conf.symm,λu=>(aH i h2 h1 j fA ax u).2⟩) u
def a3G:AV->Bool
 | .i _ _=>true
 | .s _=>true
 | .b _=>true
 | .af=>true
 |_=>false
def b4.leaf{T:Tok}{v:AV}(h:a3G v=true):b4 T v v:=by
 cases v with
 |i k n=>exact .i k n
 |s l=>exact .s l
 |b x=>exact .b x
 |af=>exact .nil
 |_=>cases h
def Gu(env:Env):Prop:=∀g v,env.mm g=some v->∃l,v= .R l/\∀x∈l,a3G x=true
def Globs.oo{gP T:Tok}{env:Env}(hl:Gu env){w:World}{B:Nat}(h: @Globs gP env w B): @Globs T env w B:=λg v hg eL=>by
 have hR:=h g v hg eL;obtain⟨l,rfl,hl⟩:=hl g v hg;cases hR with
 |dh bf ch hb ca ab aq hf=>exact .dh bf ch hb ca ab (λj ax=>((b4.leaf (T:=gP) (hl _ (gC ax))).ag (gP:=T) _).1 (aq j ax)) hf
def b4.entry{T gP:Tok}{P:Program}{env:Env}(cW:Gu env){bz g:Nat}{aQ mP:List AV}{r b5:AV}(hl:aQ.length=mP.length)(h:∀i (h:i<aQ.length) (h':i<mP.length),b4 T aQ[i] mP[i])(aq:b4 T r b5): @SpecEntry T P env bz g aQ r↔ @SpecEntry gP P env bz g mP b5:=by
 constructor
 ·intro my;exact⟨my.1,λk rd w us ca Em hR=>(my.2 k rd w us ca (Em.oo cW) ⟨by rw[hR.1,hl],λi h1 h2=>((h i h1 U).ag _).2 (hR.2 i U h2)⟩).mono λe bW ⟨u,aL,a5,cy⟩=>⟨u,aL,(aq.ag _).1 a5,cy⟩⟩
 ·intro my;exact⟨my.1,λk rd w us ca Em hR=>(my.2 k rd w us ca (Em.oo cW) ⟨by rw[hR.1,hl],λi h1 h2=>((h i U h1).ag _).1 (hR.2 i U h2)⟩).mono λe bW ⟨u,aL,a5,cy⟩=>⟨u,aL,(aq.ag _).2 a5,cy⟩⟩
end
section
variable [Tok][TokOk]
open Go.RowKit Go.Lyc.T
structure mg(b:bT):Prop where
 Kj:HB b BY b7d
 c4l:HB b E0 YV
 c4m:HB b E2 Zt
 c4n:HB b E1 Zd
 c4o:HB b J1 YU
 B6:HB b JU b6V
 assumptions:HB b JV b7c
 beside:HB b JW Y9
 B7:HB b JT b7a
 c4p:HB b JX GK
 Gv:HB b ue YJ
 c4q:HB b EY YT
 c4r:HB b BX Y8
 c4s:HB b JY b7n
 c4t:HB b xv b7x
 c4u:HB b xw CO
 c4v:HB b JR b7o
 c4w:HB b PK b7h
 c4x:HB b PL Y0
 c4y:HB b xx y2
 c4z:HB b J2 b7g
 c4A:HB b J4 b7r
 c4B:HB b E3 b7z
 c4C:HB b xy b7s
 c4D:HB b xz Zm
 c4E:HB b oC b7A
 c4F:HB b xA b7t
 c4G:HB b PX Zz
 c4H:HB b J6 b7K
 c4I:HB b vP b7L
 c4J:HB b uh ZN
 c4K:HB b BZ b7M
 c4L:HB b Pu Jq
 a3H:HB b Pv ZV
 c4M:HB b a0q CP
 Made:HB b JK Yw
 a3I:HB b vL b6U
 a3J:HB b zB YE
 line:HB b BW YF
 a3K:HB b zC YC
 a3L:HB b EV YI
 a3M:HB b EW YD
 join:HB b vM YH
 atom:HB b BV YO
 d0s:HB b b8L YR
 Lv:ll b ua YG
 a3N:ll b zD YN
 Lw:ll b ub Yz
 a3O:ll b xC b8a
 SK:ll b ui b7q
 a3P:ll b vQ b7i
 a3Q:ll b xq b7Z
 Gw:ll b uf Y7
 Lx:ll b oB YS
 a3R:ll b uc YQ
 Ly:ll b jT b6W
 SL:ll b vO b7j
 r7:∀g∈[kb,na,lr,xB,vN,xr,vK,qi],b.ext g=0/\b.pure g=true
def mg.s9{b:bT}(h:mg b){g:Nat}(hg:sC [kb,na,lr,xB,vN,xr,vK,qi] g=true):b.ext g=0/\b.pure g=true:=h.r7 g (BB hg)
def PF.c4N{a x:PF}(h:x∈a.subs):x.b0<a.b0:=by
 cases a with
 | fU _=>simp[PF.subs] at h
 |cO=>simp[PF.subs] at h
 |neg a=>rw[uT.1 h];exact lV _
 |bin k a b=>
  show x.b0<a.b0+b.b0+1;rcases dB.1 h with rfl|h
  ·omega
  ·rw[uT.1 h];omega
def a3S:∀(n:Nat) (v:AV),fk n v=true->fk (n+1) v=true
 |0,_,h=>by cases h
 |n+1,v,h=>by
  have aH:=a3S n;have g6:∀ {l:List AV},cD (fk n) l=true->cD (fk (n+1)) l=true:=λ{l} h=>ig λx hx=>aH x (lJ h x hx);rw[mG] at h ⊢;cases v with
  |dh o v=>
   have h:(!o&&cD (fk n) v.cells)=true:=h;show(!o&&cD (fk (n+1)) v.cells)=true;rw[C2] at h ⊢;exact⟨h.1,g6 h.2⟩
  |a_ o aa xs=>
   have h:((!o||xs.isEmpty)&&cD (λx=>cD (fk n) x.cells) xs)=true:=h;show((!o||xs.isEmpty)&&cD (λx=>cD (fk (n+1)) x.cells) xs)=true;rw[C2] at h ⊢;exact⟨h.1,ig λx hx=>g6 (lJ h.2 x hx)⟩
  |it t v=>exact aH v h
  |R l=>exact g6 h
  |a0 l=>exact g6 h
  |f g x y=>
   have h:(cD (fk n) x&&cD (fk n) y)=true:=h;show(cD (fk (n+1)) x&&cD (fk (n+1)) y)=true;rw[C2] at h ⊢;exact⟨g6 h.1,g6 h.2⟩
  |_=>exact h
def Lz:∀(d:Nat) (a:PF) {n:Nat},a.dep<=d->2*d+2<=n->fk n (.R (jG a.aG))=true
 |0,a,_,hd,_=>by cases a<;>simp[PF.dep] at hd
 |d+1,a,n,hd,hn=>by
  obtain⟨n,rfl⟩:∃m,n=m+2:=⟨n-2,U⟩
  rw[PF.RD,mG];have ao:∀x∈a.subs,fk n (.R (jG x.aG))=true:=λx hx=>Lz d x (by have:=PF.lk hx;omega) U;have aO:fk (n+1) (slA false (some 4) (a.subs.map λx=>.R (jG x.aG)))=true:=by
   cases c4O:a.subs with
   |nil=>rfl
   |cons x l=>
    rw[c4O] at ao;show fk (n+1) (.a_ false (some 4) ((x::l).map λx=>.R (jG x.aG)))=true;rw[mG];show((!false||_)&&cD (λx=>cD (fk n) x.cells) ((x::l).map λx=>AV.R (jG x.aG)))=true;rw[E4,uk,oq];refine ig λv au=>?_;obtain⟨y,hy,rfl⟩:=ti.1 au;have:=ao y hy;obtain⟨n,rfl⟩:∃m,n=m+1:=⟨n-1,U⟩
    rw[mG] at this;have this:cD (fk n) (jG y.aG)=true:=this;exact ig λz a6=>a3S _ _ (lJ this z a6)
  refine ig λy hy=>?_;simp only[dB,NQ,or_false] at hy;rcases hy with rfl|rfl|rfl|rfl
  ·rfl
  ·rfl
  ·rfl
  ·exact aO
section
variable {P:Program}{b:bT}(hb:jR P b)(fb:mg b){cn cb:AV}
structure x9(P:Program)(b:bT)(cn cb:AV):Prop where
 st:cV P b vN [.af,.af] (.b true)
 right:∀a:PF,a.low->cV P b kb [a.aG.A true] (.b true)
 fN:∀a:PF,a.low->cV P b na [cn,a.aG.A true] (.b true)
 Gx:cV P b lr [cn] (.b true)
 pX:∀r∈jr,cV P b xB [r.A] (.b true)
 log:cV P b vK [] cb
 LC:cV P b xr [] (.b true)
include hb fb
theorem a3T:∀(n:Nat) (a:PF),a.dep<=n->a.dep<=190->a.b0<2^62->cV P b ua [a.aG.A true] (ah a.b0)
 |0,a,hd,_,_=>by cases a<;>simp[PF.dep] at hd
 |n+1,a,hd,jO,ao=>λbz=>by
  rw[nk];exact lI hb (c3.ok (cn:=.af) (cb:=.af)) _ fb.Lv.1 I I I I (nG _ _).1 (nG _ _).2 (c1M c3.fn a (λx hx=>by rw[PF.js];have:=PF.lk hx;omega) ao fb.Lv.2 (λx hx=>c3.jJ (a3T n x (by have:=PF.lk hx;omega) (by have:=PF.lk hx;omega) (by have:=PF.c4N hx;omega)) (a3y x) λr h=>h.size I x I) _ I) bz
theorem a3U(cR:cV P b vN [.af,.af] (.b true)):∀(n:Nat) (a c:PF),a.dep<=n->a.dep<=190->c.dep<=190->cV P b ub [a.aG.A true,c.aG.A true] (.b (decide (a=c)))
 |0,a,_,hd,_,_=>by cases a<;>simp[PF.dep] at hd
 |n+1,a,c,hd,jO,w5=>by
  have ng:∀ {x:PF},x∈a.subs->x.aG.dep<=200/\x.dep<=n/\x.dep<=190:=λ{x} hx=>by rw[PF.js];have:=PF.lk hx;omega
  have r8:∀ {x:PF},x∈c.subs->x.aG.dep<=200/\x.dep<=190:=λ{x} hx=>by rw[PF.js];have:=PF.lk hx;omega
  have lR:∀(x:PF),x.dep<=190->∀τ,bM τ (b.bp+1000) (jo x)=some (jo x):=λx hx τ=>Ag (n:=b.bp+999) λy hy=>by
   have h1:=Fm.snap τ true _ y.aG (b.bp+999) (bs _) (by rw[PF.js];have:=PF.lk hy;omega);rwa[jk] at h1
  have h1:cV P b zD [jo a,jo c] (.b (decide (a.subs=c.subs))):=λbz=>lI hb (c3.ok (cn:=.af) (cb:=.af)) _ fb.a3N.1 I I I I (hs _).1 (hs _).2 (c1H c3.fn a.subs c.subs ⟨a.uF,c.uF⟩ (λx hx=>(ng hx).1) (λx hx=>(r8 hx).1) fb.Lw.2 (λx hx y hy=>c3.jJ (a3U cR n x y (ng hx).2.1 (ng hx).2.2 (r8 hy).2) (a3z x y) λr h=>h.a3w I x y I) _ I) bz;intro bz;rw[nk,nk];exact lI hb (c3.ok (cn:=.af) (cb:=.af)) _ fb.Lw.1 I I I I (hs _).1 (hs _).2 (c1I c3.fn a c (fb.s9 I) (c3.jJ cR (s8 bw) λr h=>h.s7 bw) fb.a3N.2 (c3.jJ h1 (c4a a c) λr h=>h.c3X I a c I) (lR a jO) (lR c w5) _ I) bz
theorem a3V:∀(n:Nat) (a c:PF),a.dep<=n->a.dep<=190->c.dep<=190->cV P b xC [a.aG.A true,c.aG.A true,.af] (.b (decide (a=c)))
 |0,a,_,hd,_,_=>by cases a<;>simp[PF.dep] at hd
 |n+1,a,c,hd,jO,w5=>λbz=>by
  have ng:∀ {x:PF},x∈a.subs->x.aG.dep<=200/\x.dep<=n/\x.dep<=190:=λ{x} hx=>by rw[PF.js];have:=PF.lk hx;omega
  have r8:∀ {x:PF},x∈c.subs->x.aG.dep<=200/\x.dep<=190:=λ{x} hx=>by rw[PF.js];have:=PF.lk hx;omega
  rw[nk,nk];exact lI hb (c3.ok (cn:=.af) (cb:=.af)) _ fb.a3O.1 I I I I (hs _).1 (hs _).2 (c1E c3.fn a c (by rw[PF.js,PF.js];omega) fb.a3H.h fb.a3O.2 (λx hx y hy=>c3.jJ (a3V n x y (ng hx).2.1 (ng hx).2.2 (r8 hy).2) (c4b x y) λr h=>h.c3Y I x y I) (λx hx=>(ng hx).1) (λx hx=>(r8 hx).1) _ I) bz
theorem a3W:∀(n:Nat) (a c:PF),a.dep<=n->a.dep<=190->c.dep<=190->cV P b ui [a.aG.A true,c.aG.A true,.af] (.b (decide (a=c)))
 |0,a,_,hd,_,_=>by cases a<;>simp[PF.dep] at hd
 |n+1,a,c,hd,jO,w5=>λbz=>by
  have ng:∀ {x:PF},x∈a.subs->x.aG.dep<=200/\x.dep<=n/\x.dep<=190:=λ{x} hx=>by rw[PF.js];have:=PF.lk hx;omega
  have r8:∀ {x:PF},x∈c.subs->x.aG.dep<=200/\x.dep<=190:=λ{x} hx=>by rw[PF.js];have:=PF.lk hx;omega
  rw[nk,nk];exact lI hb (c3.ok (cn:=.af) (cb:=.af)) _ fb.SK.1 I I I I (hs _).1 (hs _).2 (c1F c3.fn a c (by rw[PF.js,PF.js];omega) fb.c4M.h fb.SK.2 (λx hx y hy=>c3.jJ (a3W n x y (ng hx).2.1 (ng hx).2.2 (r8 hy).2) (a3A x y) λr h=>h.a3x I x y I) (λx hx=>(ng hx).1) (λx hx=>(r8 hx).1) _ I) bz
theorem c4P(aq:∀a:PF,a.low->cV P b kb [a.aG.A true] (.b true))(a c:PF)(ha:a.low)(ab:c.low):cV P b vQ [a.aG.A true,c.aG.A true] (.b (decide (a=c))):=λbz=>by
 have h1:=ha.1;have h2:=ab.1;have c4Q:=aq a ha;have c4R:=aq c ab;rw[nk,nk];exact lI hb (c3.ok (cn:=.af) (cb:=.af)) _ fb.a3P.1 I I I I (hs _).1 (hs _).2 (c1G c3.fn a c (by rw[PF.js];omega) (by rw[PF.js];omega) (fb.s9 I) (c3.jJ c4Q (s8 bw) λr h=>h.s7 bw) (c3.jJ c4R (s8 bw) λr h=>h.s7 bw) fb.SK.2 (c3.jJ (a3W hb fb _ a c (bs _) U U) (a3A a c) λr h=>h.a3x I a c I) _ I) bz
theorem a3X(S F:Fm)(kq:∀τ,bM τ (b.bp+1000) (uH S F)=some (uH S F)):∀(n:Nat) (a:PF),a.dep<=n->a.dep<=190->cV P b xq [uH S F,a.aG.A true,.af] (.a0 [a.aG.A false,.b true])
 |0,a,hd,_=>by cases a<;>simp[PF.dep] at hd
 |n+1,a,hd,jO=>λbz=>by
  have ng:∀ {x:PF},x∈a.subs->x.aG.dep<=200/\x.dep<=n/\x.dep<=190:=λ{x} hx=>by rw[PF.js];have:=PF.lk hx;omega
  rw[nk];refine vV hb (c3.ok (cn:=.af) (cb:=.af)) (ad:=1000) _ fb.a3Q.1 I I I ?_ ?_ (c1N c3.fn S F kq a fb.a3H.h (λx hx=>(ng hx).1) fb.a3Q.2 (λx hx=>c3.jJ (a3X S F kq n x (ng hx).2.1 (ng hx).2.2) (c4d _ x) λr h=>h.c3Z I x _ I) _ I) bz
  ·rw[sW,mG];refine ig λy hy=>?_;simp only[dB,NQ,or_false] at hy;rcases hy with rfl|rfl
   ·exact Lz _ a (n:=999) (bs _) U
   ·rfl
  ·rw[sW];refine(ov λy hy=>?_:fY (AV.eqb 999) [AV.R (jG a.aG),.b true] [AV.R (jG a.aG),.b true]=true);simp only[dB,NQ,or_false] at hy;rcases hy with rfl|rfl
   ·exact(e1.tree (W:=λ_=>True) (J:=⟨.nil,0⟩) _ (bs a.dep)).eqb _ (bs _) (n:=999) U
   ·rfl
end
end
end Go.Lyc
end
