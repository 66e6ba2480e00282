/-
  What functions of the program compute: walks, part 2. No conditions: definitions and laws.
-/
import Derived.Test.YthdbakjhebkohaaGreatDoorW1
import Derived.SizedLaws
set_option linter.all false
noncomputable section
namespace Go.Lyc
def EF:=@List.sum_append
def y1:=@List.take_append_of_le_length
def vu:=@Nat.mod_lt
def a0j:=@Nat.eq_zero_or_pos
def PY:=@List.eq_nil_or_concat
def PZ:=@List.concat_eq_append
def EG:=@List.length_eq_zero_iff
def P0:=@List.tail_append_of_ne_nil
def sr:=@List.take_of_length_le
def Bx:=@List.length_tail
def By:=@Nat.add_sub_cancel
def P1:=@Nat.le_of_eq
def P2:=@List.getElem_singleton
def P3:=@List.map_eq_nil_iff
set_option maxHeartbeats 0
variable [Tok][TokOk]
open Go.RowKit Go.Lyc.T
inductive PF where
 |gd (q:Bool)
 |cQ
 |neg (a:PF)
 |bin (k:Fin 3) (a b:PF)
 deriving DecidableEq
namespace PF
def op:PF->Nat
 | .gd _=>1
 | .cQ=>2
 | .neg _=>3
 | .bin k _ _=>4+k.val
def b7:PF->List Nat
 | .gd q=>[cond q 81 80]
 |_=>[]
def subs:PF->List PF
 | .neg a=>[a]
 | .bin _ a b=>[a,b]
 |_=>[]
def aO:PF->Fm
 | .gd q=>.mk 1 [cond q 81 80] none none
 | .cQ=>.mk 2 [] none none
 | .neg a=>.mk 3 [] none (some [a.aO])
 | .bin k a b=>.mk (4+k.val) [] none (some [a.aO,b.aO])
def dep:PF->Nat
 | .gd _=>1
 | .cQ=>1
 | .neg a=>a.dep+1
 | .bin _ a b=>max a.dep b.dep+1
theorem ext{a b:PF}:a=b↔a.op=b.op/\a.b7=b.b7/\a.subs=b.subs:=by
 constructor
 ·rintro rfl;exact⟨rfl,rfl,rfl⟩
 ·intro⟨h1,h2,h3⟩;cases a with
  | gd q=>cases b with
   | gd nd=>cases q<;>cases nd<;>first|rfl|cases h2
   |bin k _ _=>exact absurd h1 (by show ¬ 1=4+k.val;omega)
   |_=>cases h1
  |cQ=>cases b with
   |cQ=>rfl
   |bin k _ _=>exact absurd h1 (by show ¬ 2=4+k.val;omega)
   |_=>cases h1
  |neg a=>cases b with
   |neg b=>cases h3;rfl
   |bin k _ _=>exact absurd h1 (by show ¬ 3=4+k.val;omega)
   |_=>cases h1
  |bin k a cL=>cases b with
   |bin eR b fK=>
    cases h3;have:k=eR:=Fin.ext (by have h1:4+k.val=4+eR.val:=h1;omega);rw[this]
   | gd _=>exact absurd h1 (by show ¬ 4+k.val=1;omega)
   |cQ=>exact absurd h1 (by show ¬ 4+k.val=2;omega)
   |neg _=>exact absurd h1 (by show ¬ 4+k.val=3;omega)
theorem pR(a:PF):1<=a.op/\a.op<=6:=by
 cases a with
 |bin k _ _=>exact⟨by show 1<=4+k.val;omega,by show 4+k.val<=6;omega⟩
 |_=>exact⟨by simp[op],by simp[op]⟩
theorem a0k(a:PF):a.aO.op=a.op:=by cases a<;>rfl
theorem b9L(a:PF):a.aO.name=a.b7:=by cases a<;>rfl
theorem b9M(a:PF):a.aO.gV=none:=by cases a<;>rfl
theorem tP(a:PF):a.subs.length<=2:=by cases a<;>simp[subs]
theorem kV{a x:PF}(h:x∈a.subs):x.dep<a.dep:=by
 cases a with
 | gd _=>simp[subs] at h
 |cQ=>simp[subs] at h
 |neg a=>rw[cu.1 h];exact lB _
 |bin k a b=>
  show x.dep<max a.dep b.dep+1;rcases dF.1 h with rfl|h
  ·omega
  ·rw[cu.1 h];omega
theorem Jx(a:PF):bA a.aO=[.i .u8 (Int.ofNat a.op),.s a.b7,.af,slA true (some 4) (a.subs.map λx=>.ah (bA x.aO))]:=by
 cases a with
 | gd q=>rfl
 |cQ=>rfl
 |neg a=>show[_,_,_,iH true (some [a.aO])]=_;show[_,_,_,AV.a_ true (some 4) [a.aO.A true]]=_;rw[jY];rfl
 |bin k a b=>show[_,_,_,AV.a_ true (some 4) [a.aO.A true,b.aO.A true]]=_;rw[jY,jY];rfl
end PF
abbrev e8(a:PF):List AV:=[.i .u8 (Int.ofNat a.op),.s a.b7,.af,slA true (some 4) (a.subs.map λx=>.ah (bA x.aO))]
theorem mY(a:PF):a.aO.A true= .ah (e8 a):=by rw[jY,PF.Jx]
end Go.Lyc
end
noncomputable section
namespace Go.Lyc
set_option maxHeartbeats 0
variable [Tok][TokOk]
open Go.RowKit Go.Lyc.T
attribute [local irreducible] ch bR dC ev bH
theorem Jy(l m:List Nat):binop .neq (.s l) (.s m)=some (.b (!decide (l=m))):=by
 show some (AV.b (!eqL l m))=_;cases he:eqL l m with
 |true=>rw[decide_eq_true ((ox l m).1 he)]
 |false=>rw[decide_eq_false λh=>by rw[(ox l m).2 h] at he;cases he]
abbrev jb(a:PF):AV:=slA true (some 4) (a.subs.map λx=>.ah (bA x.aO))
theorem tQ(a:PF)(h:a.aO.dep<=200){b:b5}(τ:ae):bT τ (b.bt+1000) (.ah (bA a.aO))=some (a.aO.A true):=by
 have:=Fm.snap τ true _ a.aO (b.bt+1000) (br _) U;rw[jY] at this ⊢;exact this
section
variable {b:b5}{K:Nat->List AV->AV->Prop}(hfn:∀g aY r cc,K g aY r->K g aY cc->r=cc)
theorem Bz{n:Nat}{c:aP}(hh:bq (b.aV K) n c)(ab:c=Ip\/c=Ot)(a:PF){J:ae}:
  bH (b.aV K) 0 (.f (.func n) [] []) [.ah (e8 a)] J (λr τ=>r= .ok (.b false)/\ee J τ):=by
 have ho:=a.pR;have H:Has J []:=Has.nil;rcases ab with rfl|rfl
 ·refine W.code hh.e hh.p hh.f I I I I λz=>?_;refine aj ?_;refine W.cM (c:=e8 a) H I I I I I I λτ hn H bG=>?_;refine aj ?_;exact ak.ret ⟨rfl,rfl,U,bG⟩
 ·refine W.code hh.e hh.p hh.f I I I I λz=>?_;refine aj ?_;refine W.cM (c:=e8 a) H I I I I I I λτ hn H bG=>?_;refine aj ?_;exact ak.ret ⟨rfl,rfl,U,bG⟩
include hfn
theorem b9N(a c:PF)(ha:a.aO.dep<=200/\c.aO.dep<=200)(aX:bq (b.aV K) NT Ip)(e:b.ext r8=0/\b.pure r8=true)(cU:∀x∈a.subs,∀y∈c.subs,K r8 [x.aO.A true,y.aO.A true,.af] (.b (decide (x=y))))(hd:∀x∈a.subs,x.aO.dep<=200)(w3:∀x∈c.subs,x.aO.dep<=200)(body:bO)(hb:On.body=some body):
  ak (b.aV K) On.ntmps body (gO [.ah (e8 a),.ah (e8 c),.af]) ⟨.nil,0⟩ (lT 6 (.b (decide (a=c)))):=by
 cases hb;refine W.args λz=>?_;have H:Has (⟨.nil,0⟩:ae) []:=Has.nil;have a0l:=a.pR;have Jz:=c.pR;have P4:=a.tP;have kL:=c.tP;refine aj ?_;refine W.cM (c:=e8 a) H I I I I I I λτ c_ H bG=>?_;refine aj ?_;refine W.cM (c:=e8 c) H c_ I I I I I λbl ei H bw=>?_;by_cases h1:a.op=c.op
 ·by_cases h2:a.subs.length=c.subs.length
  ·by_cases h3:a.b7=c.b7
   ·have dW:(a=c)↔a.subs=c.subs:=by rw[PF.ext];simp[h1,h3]
    refine aj ?_;refine W.bin (v:=.b false) I I I I ((Jy _ _).trans (by rw[decide_eq_true h3];rfl)) ?_;refine aj ?_;show bR _ _ _ _ _ _ _ _;refine ak.each 0 (λj f aM=>ee bl aM/\sat [(2,.af),(3,aT 0),(4,aT 1)] f) U ⟨⟨br _,λ_ _ h=>h⟩,rfl,rfl,(by show aT _=aT _;rfl),trivial⟩ I I (λj g aM aC a0 hi hm=>by omega) (λg aM a0 hi=>?_);obtain⟨M,bQ,cm,c7,_⟩:=a0;refine ak.norm [(2,.af),(3,aT 0),(4,aT 1)] ⟨bQ,cm,c7,trivial⟩ λg=>?_;have H:Has aM [(1,e8 c),(0,e8 a)]:=H.aS M.2;refine aj ?_;refine W.aq trivial I I I (Bz aX (.inl I) a) λr bZ ⟨ar,e2⟩=>⟨_,ar,?_⟩
    have H:=H.aS e2.2;refine aj ?_;show bR _ _ _ _ _ _ _ _;refine ak.each a.subs.length (λj f aM=>(∀i (h:i<a.subs.length) (h':i<c.subs.length),i<j->a.subs[i]=c.subs[i])/\ee bZ aM/\sat [(2,.af),(4,aT 1),(78,jb a)] f) U ⟨λi _ _ h=>by omega,⟨br _,λ_ _ h=>h⟩,rfl,rfl,rfl,trivial⟩ I I (λj g aM aC a0 hi hm=>?_) (λg aM a0 hi=>?_)
    ·obtain⟨hall,M,bQ,c7,P5,_⟩:=a0;refine ak.norm [(2,.af),(4,aT 1),(78,jb a),(80,ai j),(79,ai a.subs.length)] ⟨bQ,c7,P5,hi,hm,trivial⟩ λg=>?_;have H:=H.aS M.2;refine aj ?_;refine W.cB H I I I I λcG fF H b9=>?_;refine aj ?_;refine W.st (bX:=bA (a.subs[j]).aO) H 0 I I I I I I λdq iU H c9=>?_;refine aj ?_;refine W.ga hfn e (cU _ (bJ aC) _ (bJ (show j<c.subs.length by omega))) I I I (DC (tQ _ (hd _ (bJ aC)) _) (tQ _ (w3 _ (bJ _)) _) I) ?_;by_cases hG:a.subs[j]=c.subs[j]'U
     ·rw[decide_eq_true hG];refine aj ?_;refine⟨rfl,rfl,λi h h' hlt=>?_,⟨by have:=M.1;omega,λi o h=>c9 _ _ (by have:=ae.bE (M.2 _ _ h);omega) (b9 _ _ (M.2 _ _ h))⟩,rfl,rfl,rfl,trivial⟩;by_cases g5:i<j
      ·exact hall i h h' g5
      ·obtain rfl:i=j:=by omega
       exact hG
     ·rw[decide_eq_false hG,decide_eq_false (show ¬a=c from λh=>hG (by subst h;rfl))];refine aj ?_;refine ak.ret ?_;exact⟨rfl,rfl⟩
    ·obtain⟨hall,_⟩:=a0;refine ak.norm [] trivial λg=>?_;rw[decide_eq_true (dW.2 (xu h2 λi h h'=>hall i h h' h))];refine aj ?_;refine ak.ret ?_;exact⟨rfl,rfl⟩
   ·rw[decide_eq_false (show ¬a=c from λh=>h3 (PF.ext.1 h).2.1)];refine aj ?_;refine W.bin (v:=.b true) I I I I ((Jy _ _).trans (by rw[decide_eq_false h3];rfl)) ?_;refine aj ?_;refine W.aq trivial I I I (Bz aX (.inl I) a) λr bZ ⟨ar,e2⟩=>⟨_,ar,?_⟩
    refine aj ?_;refine ak.ret ?_;exact⟨rfl,rfl⟩
  ·rw[decide_eq_false (show ¬a=c from λh=>h2 (by rw[h]))];refine aj ?_;refine ak.ret ?_;exact⟨rfl,rfl⟩
 ·rw[decide_eq_false (show ¬a=c from λh=>h1 (by rw[h]))];refine aj ?_;refine ak.ret ?_;exact⟨rfl,rfl⟩
theorem b9O(a c:PF)(ha:a.aO.dep<=200/\c.aO.dep<=200)(aX:bq (b.aV K) YZ Ot)(e:b.ext tB=0/\b.pure tB=true)(cU:∀x∈a.subs,∀y∈c.subs,K tB [x.aO.A true,y.aO.A true,.af] (.b (decide (x=y))))(hd:∀x∈a.subs,x.aO.dep<=200)(w3:∀x∈c.subs,x.aO.dep<=200)(body:bO)(hb:Oq.body=some body):
  ak (b.aV K) Oq.ntmps body (gO [.ah (e8 a),.ah (e8 c),.af]) ⟨.nil,0⟩ (lT 6 (.b (decide (a=c)))):=by
 cases hb;refine W.args λz=>?_;have H:Has (⟨.nil,0⟩:ae) []:=Has.nil;have a0l:=a.pR;have Jz:=c.pR;have P4:=a.tP;have kL:=c.tP;refine aj ?_;refine W.cM (c:=e8 a) H I I I I I I λτ c_ H bG=>?_;refine aj ?_;refine W.cM (c:=e8 c) H c_ I I I I I λbl ei H bw=>?_;by_cases h1:a.op=c.op
 ·by_cases h2:a.subs.length=c.subs.length
  ·by_cases h3:a.b7=c.b7
   ·have dW:(a=c)↔a.subs=c.subs:=by rw[PF.ext];simp[h1,h3]
    refine aj ?_;refine W.aq trivial I I I (Bz aX (.inr I) a) λr bl ⟨ar,M2⟩=>⟨_,ar,?_⟩
    have H:Has bl [(1,e8 c),(0,e8 a)]:=H.aS M2.2;refine aj ?_;refine W.bin (v:=.b false) I I I I ((Jy _ _).trans (by rw[decide_eq_true h3];rfl)) ?_;refine aj ?_;show bR _ _ _ _ _ _ _ _;refine ak.each 0 (λj f aM=>ee bl aM/\sat [(2,.af),(3,aT 0),(4,aT 1)] f) U ⟨⟨br _,λ_ _ h=>h⟩,rfl,rfl,(by show aT _=aT _;rfl),trivial⟩ I I (λj g aM aC a0 hi hm=>by omega) (λg aM a0 hi=>?_);obtain⟨M,bQ,cm,c7,_⟩:=a0;refine ak.norm [(2,.af),(3,aT 0),(4,aT 1)] ⟨bQ,cm,c7,trivial⟩ λg=>?_;have H:Has aM [(1,e8 c),(0,e8 a)]:=H.aS M.2;refine aj ?_;refine W.aq trivial I I I (Bz aX (.inr I) a) λr bZ ⟨ar,e2⟩=>⟨_,ar,?_⟩
    have H:=H.aS e2.2;refine aj ?_;show bR _ _ _ _ _ _ _ _;refine ak.each a.subs.length (λj f aM=>(∀i (h:i<a.subs.length) (h':i<c.subs.length),i<j->a.subs[i]=c.subs[i])/\ee bZ aM/\sat [(2,.af),(4,aT 1),(78,jb a)] f) U ⟨λi _ _ h=>by omega,⟨br _,λ_ _ h=>h⟩,rfl,rfl,rfl,trivial⟩ I I (λj g aM aC a0 hi hm=>?_) (λg aM a0 hi=>?_)
    ·obtain⟨hall,M,bQ,c7,P5,_⟩:=a0;refine ak.norm [(2,.af),(4,aT 1),(78,jb a),(80,ai j),(79,ai a.subs.length)] ⟨bQ,c7,P5,hi,hm,trivial⟩ λg=>?_;have H:=H.aS M.2;refine aj ?_;refine W.cB H I I I I λcG fF H b9=>?_;refine aj ?_;refine W.st (bX:=bA (a.subs[j]).aO) H 0 I I I I I I λdq iU H c9=>?_;refine aj ?_;refine W.ga hfn e (cU _ (bJ aC) _ (bJ (show j<c.subs.length by omega))) I I I (DC (tQ _ (hd _ (bJ aC)) _) (tQ _ (w3 _ (bJ _)) _) I) ?_;by_cases hG:a.subs[j]=c.subs[j]'U
     ·rw[decide_eq_true hG];refine aj ?_;refine⟨rfl,rfl,λi h h' hlt=>?_,⟨by have:=M.1;omega,λi o h=>c9 _ _ (by have:=ae.bE (M.2 _ _ h);omega) (b9 _ _ (M.2 _ _ h))⟩,rfl,rfl,rfl,trivial⟩;by_cases g5:i<j
      ·exact hall i h h' g5
      ·obtain rfl:i=j:=by omega
       exact hG
     ·rw[decide_eq_false hG,decide_eq_false (show ¬a=c from λh=>hG (by subst h;rfl))];refine aj ?_;refine ak.ret ?_;exact⟨rfl,rfl⟩
    ·obtain⟨hall,_⟩:=a0;refine ak.norm [] trivial λg=>?_;rw[decide_eq_true (dW.2 (xu h2 λi h h'=>hall i h h' h))];refine aj ?_;refine ak.ret ?_;exact⟨rfl,rfl⟩
   ·rw[decide_eq_false (show ¬a=c from λh=>h3 (PF.ext.1 h).2.1)];refine aj ?_;refine W.aq trivial I I I (Bz aX (.inr I) a) λr bl ⟨ar,M2⟩=>⟨_,ar,?_⟩
    have H:Has bl [(1,e8 c),(0,e8 a)]:=H.aS M2.2;refine aj ?_;refine W.bin (v:=.b true) I I I I ((Jy _ _).trans (by rw[decide_eq_false h3];rfl)) ?_;refine aj ?_;refine ak.ret ?_;exact⟨rfl,rfl⟩
  ·rw[decide_eq_false (show ¬a=c from λh=>h2 (by rw[h]))];refine aj ?_;refine ak.ret ?_;exact⟨rfl,rfl⟩
 ·rw[decide_eq_false (show ¬a=c from λh=>h1 (by rw[h]))];refine aj ?_;refine ak.ret ?_;exact⟨rfl,rfl⟩
theorem b9P(a c:PF)(hd:a.aO.dep<=200)(w3:c.aO.dep<=200)(JA:b.ext ki=0/\b.pure ki=true)(hR:K ki [a.aO.A true] (.b true))(C7:K ki [c.aO.A true] (.b true))(e:b.ext tB=0/\b.pure tB=true)(cU:K tB [a.aO.A true,c.aO.A true,.af] (.b (decide (a=c))))(body:bO)(hb:Oo.body=some body):
  ak (b.aV K) Oo.ntmps body (gO [.ah (e8 a),.ah (e8 c)]) ⟨.nil,0⟩ (lT 4 (.b (decide (a=c)))):=by
 cases hb;refine W.args λz=>?_;have H:Has (⟨.nil,0⟩:ae) []:=Has.nil;have an:∀a:PF,a.aO.dep<=200->∀τ,bT τ (b.bt+1000) (.ah (e8 a))=some (a.aO.A true):=λa h τ=>by have:=tQ a h (b:=b) τ;rwa[PF.Jx] at this
 refine aj ?_;refine W.cM (c:=e8 a) H I I I I I I λτ c_ H bG=>?_;refine aj ?_;refine W.cM (c:=e8 c) H c_ I I I I I λbl ei H bw=>?_;refine aj ?_;refine W.ga hfn JA hR I I I (qH (an a hd _)) ?_;refine aj ?_;refine W.ga hfn JA C7 I I I (qH (an c w3 _)) ?_;refine aj ?_;refine W.ga hfn e cU I I I (DC (an a hd _) (an c w3 _) I) ?_;refine aj ?_;refine ak.ret ?_;exact⟨rfl,rfl⟩
theorem b9Q(l m:List PF)(hl:l.length<=2/\m.length<=2)(hd:∀x∈l,x.aO.dep<=200)(w3:∀x∈m,x.aO.dep<=200)(e:b.ext tw=0/\b.pure tw=true)(cU:∀x∈l,∀y∈m,K tw [x.aO.A true,y.aO.A true] (.b (decide (x=y))))(body:bO)(hb:NZ.body=some body):
  ak (b.aV K) NZ.ntmps body (gO [slA true (some 4) (l.map λx=>.ah (bA x.aO)),slA true (some 4) (m.map λx=>.ah (bA x.aO))]) ⟨.nil,0⟩ (lT 4 (.b (decide (l=m)))):=by
 cases hb;refine W.args λz=>?_;have H:Has (⟨.nil,0⟩:ae) []:=Has.nil;by_cases JB:l.length=m.length
 ·refine aj ?_;refine ak.block ?_;refine ak.loop (λn f τ=>∃j,j+n=l.length/\(∀i (h:i<l.length) (h':i<m.length),i<j->l[i]=m[i])/\sat [(0,slA true (some 4) (l.map λx=>.ah (bA x.aO))),(1,slA true (some 4) (m.map λx=>.ah (bA x.aO))),(5,ai j)] f) ?_ l.length ⟨0,U,λ_ _ _ h=>by omega,rfl,rfl,rfl,trivial⟩;rintro n f τ ⟨j,vZ,hall,an⟩;refine ak.norm _ an λz=>?_;clear an;have H:Has τ []:=Has.nil;by_cases hn:j<l.length
  ·obtain⟨n,rfl⟩:∃k,n=k+1:=⟨n-1,U⟩
   refine aj ?_;refine W.ga hfn e (cU _ (bJ hn) _ (bJ (show j<m.length by omega))) I I I (pJ (tQ _ (hd _ (bJ hn)) _) (tQ _ (w3 _ (bJ _)) _)) ?_;by_cases hG:l[j]=m[j]'U
   ·rw[decide_eq_true hG];refine aj ?_;refine⟨n,U,j+1,U,λi h h' hlt=>?_,rfl,rfl,rfl,trivial⟩;by_cases g5:i<j
    ·exact hall i h h' g5
    ·obtain rfl:i=j:=by omega
     exact hG
   ·rw[decide_eq_false hG,decide_eq_false (show ¬l=m from λh=>hG (by subst h;rfl))];refine aj ?_;refine ak.ret ?_;exact⟨rfl,rfl⟩
  ·obtain rfl:n=0:=by omega
   refine aj ?_;refine ak.exit ?_;show bR _ _ _ _ _ _ _ _;refine ak.norm [] trivial λg=>?_;rw[decide_eq_true (xu JB λi h h'=>hall i h h' U)];refine aj ?_;refine ak.ret ?_;exact⟨rfl,rfl⟩
 ·rw[decide_eq_false (show ¬l=m from λh=>JB (by rw[h]))];refine aj ?_;refine ak.ret ?_;exact⟨rfl,rfl⟩
theorem b9R(a c:PF)(b9S:b.ext vb=0/\b.pure vb=true)(iV:K vb [.af,.af] (.b true))(e:b.ext yG=0/\b.pure yG=true)(cU:K yG [jb a,jb c] (.b (decide (a.subs=c.subs))))(kG:∀τ,bT τ (b.bt+1000) (jb a)=some (jb a))(b9T:∀τ,bT τ (b.bt+1000) (jb c)=some (jb c))(body:bO)(hb:NY.body=some body):
  ak (b.aV K) NY.ntmps body (gO [.ah (e8 a),.ah (e8 c)]) ⟨.nil,0⟩ (lT 4 (.b (decide (a=c)))):=by
 cases hb;refine W.args λz=>?_;have H:Has (⟨.nil,0⟩:ae) []:=Has.nil;have a0l:=a.pR;have Jz:=c.pR;refine aj ?_;refine W.cM (c:=e8 a) H I I I I I I λτ c_ H bG=>?_;refine aj ?_;refine W.cM (c:=e8 c) H c_ I I I I I λbl ei H bw=>?_;by_cases h1:a.op=c.op
 ·by_cases h3:a.b7=c.b7
  ·have dW:(a=c)↔a.subs=c.subs:=by rw[PF.ext];simp[h1,h3]
   refine aj ?_;refine W.bin (v:=.b true) I I I I ((w1 _ _).trans (by rw[decide_eq_true h3])) ?_;refine aj ?_;refine W.ga hfn b9S iV I I I (pJ I I) ?_;refine aj ?_;refine W.ga hfn e cU I I I (pJ (kG _) (b9T _)) ?_;rw[show decide (a=c)=decide (a.subs=c.subs) from by rw[decide_eq_decide];exact dW];refine aj ?_;refine ak.ret ?_;exact⟨rfl,rfl⟩
  ·rw[decide_eq_false (show ¬a=c from λh=>h3 (by rw[h]))];refine aj ?_;refine W.bin (v:=.b false) I I I I ((w1 _ _).trans (by rw[decide_eq_false h3])) ?_;refine aj ?_;refine ak.ret ?_;exact⟨rfl,rfl⟩
 ·rw[decide_eq_false (show ¬a=c from λh=>h1 (by rw[h]))];refine aj ?_;refine ak.ret ?_;exact⟨rfl,rfl⟩
end
def PF.bS:PF->Nat
 | .neg a=>a.bS+1
 | .bin _ a b=>a.bS+b.bS+1
 |_=>1
theorem PF.a0m(a:PF):a.bS=1+(a.subs.map PF.bS).sum:=by
 cases a with
 |neg a=>show a.bS+1=1+(a.bS+0);omega
 |bin k a b=>show a.bS+b.bS+1=1+(a.bS+(b.bS+0));omega
 |_=>rfl
abbrev jr(F:Fm):List AV:=[.i .u8 (Int.ofNat F.op),.s F.name,jG false F.gV,iH false F.gy]
theorem w4(F:Fm):F.A false= .ah (jr F):=by unfold Fm.A;rw[Fm.jV]
theorem PF.P6(a:PF):jr a.aO=[.i .u8 (Int.ofNat a.op),.s a.b7,.af,slA false (some 4) (a.subs.map λx=>.ah (jr x.aO))]:=by
 cases a with
 | gd q=>rfl
 |cQ=>rfl
 |neg a=>show[_,_,_,AV.a_ false (some 4) [a.aO.A false]]=_;rw[w4];rfl
 |bin k a b=>show[_,_,_,AV.a_ false (some 4) [a.aO.A false,b.aO.A false]]=_;rw[w4,w4];rfl
abbrev pS(S F:Fm):AV:=.ah (bA S++(bA F++[.af]))
theorem b9U(J:ae)(n:Nat)(F:Fm):freeze J 0 (n+2) (.ah (jr F))=some (.ah (jr F)):=by
 rw[freeze_succ];show(match mapO (freeze J 0 (n+1)) (jr F) with|none=>none|some l=>some (AV.ah l))=_;have h1:freeze J 0 (n+1) (jG false F.gV)=some (jG false F.gV):=by cases F.gV<;>rfl
 have h2:freeze J 0 (n+1) (iH false F.gy)=some (iH false F.gy):=by cases F.gy<;>rfl
 rw[mapO_cons,mapO_cons,mapO_cons,mapO_cons,h1,h2];rfl
section
variable {b:b5}{K:Nat->List AV->AV->Prop}(hfn:∀g aY r cc,K g aY r->K g aY cc->r=cc)
include hfn
theorem b9V(a:PF)(hd:∀x∈a.subs,x.aO.dep<=200)(cv:a.bS<2^62)(e:b.ext tv=0/\b.pure tv=true)(cU:∀x∈a.subs,K tv [x.aO.A true] (ai x.bS))(body:bO)(hb:NX.body=some body):
  ak (b.aV K) NX.ntmps body (gO [.ah (e8 a)]) ⟨.nil,0⟩ (lT 2 (ai a.bS)):=by
 cases hb;refine W.args λz=>?_;have H:Has (⟨.nil,0⟩:ae) []:=Has.nil;have P4:=a.tP;have a0n:=a.a0m;have hle:∀j,((a.subs.take j).map PF.bS).sum<=(a.subs.map PF.bS).sum:=λj=>by
  conv=>rhs;rw[<-xX j a.subs,g_,EF]
  exact FV _ _
 refine aj ?_;refine W.cM (c:=e8 a) H I I I I I I λτ c_ H bG=>?_;refine aj ?_;show bR _ _ _ _ _ _ _ _;refine ak.each a.subs.length (λj f aM=>ee τ aM/\sat [(1,aT 0),(3,ai (1+((a.subs.take j).map PF.bS).sum)),(7,jb a)] f) U ⟨⟨br _,λ_ _ h=>h⟩,rfl,rfl,rfl,trivial⟩ I I (λj g aM aC a0 hi hm=>?_) (λg aM a0 hi=>?_)
 ·obtain⟨M,bL,cm,gU,_⟩:=a0;refine ak.norm [(1,aT 0),(3,ai (1+((a.subs.take j).map PF.bS).sum)),(7,jb a),(9,ai j),(8,ai a.subs.length)] ⟨bL,cm,gU,hi,hm,trivial⟩ λg=>?_;have H:=H.aS M.2;have h1:=hle (j+1);have cn:((a.subs.take (j+1)).map PF.bS).sum=((a.subs.take j).map PF.bS).sum+(a.subs[j]).bS:=by rw[mf aC,g_,EF];simp
  refine aj ?_;refine W.cB H I I I I λcG fF H b9=>?_;refine aj ?_;refine W.st (bX:=bA (a.subs[j]).aO) H 0 I I I I I I λdq iU H c9=>?_;refine aj ?_;refine W.ga hfn e (cU _ (bJ aC)) I I I (qH (tQ _ (hd _ (bJ aC)) _)) ?_;refine aj ?_;refine⟨rfl,rfl,⟨by have:=M.1;omega,λi o h=>c9 _ _ (by have:=ae.bE (M.2 _ _ h);omega) (b9 _ _ (M.2 _ _ h))⟩,rfl,?_,rfl,trivial⟩;show ai _=ai _;rw[cn,vG]
 ·obtain⟨M,bL,cm,_⟩:=a0;refine ak.norm [(3,ai (1+((a.subs.take a.subs.length).map PF.bS).sum))] ⟨cm,trivial⟩ λg=>?_;rw[mO,← a0n];refine aj ?_;refine ak.ret ?_;exact⟨rfl,rfl⟩
theorem b9W(S F:Fm)(jH:∀τ,bT τ (b.bt+1000) (pS S F)=some (pS S F))(a:PF)(aX:bq (b.aV K) NT Ip)(hd:∀x∈a.subs,x.aO.dep<=200)(e:b.ext r6=0/\b.pure r6=true)(cU:∀x∈a.subs,K r6 [pS S F,x.aO.A true,.af] (.a9 [x.aO.A false,.b true]))(body:bO)(hb:Io.body=some body):
  ak (b.aV K) Io.ntmps body (gO [pS S F,.ah (e8 a),.af]) ⟨.nil,0⟩ (Jg Io.results (.a9 [a.aO.A false,.b true])):=by
 cases hb;refine W.args λz=>?_;have H:Has (⟨.nil,0⟩:ae) []:=Has.nil;have P4:=a.tP;refine aj ?_;refine W.cM (c:=bA S++(bA F++[.af])) H I I I I I I λτ c_ H bG=>?_;refine aj ?_;refine W.cM (c:=e8 a) H c_ I I I I I λbl ei H bw=>?_;refine aj ?_;refine W.cB (c:=[.i .u8 0,.s [],.af,.af]) H ei I I I λbZ fc H bg=>?_;refine aj ?_;refine W.lk (c:=[.i .u8 (Int.ofNat a.op),.s a.b7,.af,.af]) H fc I I I I I I λcG fF H b9=>?_;refine aj ?_;show bR _ _ _ _ _ _ _ _;refine ak.each 0 (λj f aM=>ee cG aM/\sat [(2,.af),(3,aT 0),(4,aT 1),(6,aT 2),(8,aT 3)] f) U ⟨⟨br _,λ_ _ h=>h⟩,rfl,rfl,rfl,rfl,rfl,trivial⟩ I I (λj g aM aC a0 hi hm=>by omega) (λg aM a0 hi=>?_);obtain⟨M,bQ,cm,c7,ib,hs,_⟩:=a0;refine ak.norm [(2,.af),(3,aT 0),(4,aT 1),(6,aT 2),(8,aT 3)] ⟨bQ,cm,c7,ib,hs,trivial⟩ λg=>?_;have H:=H.aS M.2;have df:=M.1;refine aj ?_;refine W.aq trivial I I I (Bz aX (.inl I) a) λr dq ⟨ar,kH⟩=>⟨_,ar,?_⟩
 have wV:=H.aS kH.2;have Jj:=kH.1;have H:Has dq [(3,[.i .u8 (Int.ofNat a.op),.s a.b7,.af,.af]),(2,[.i .u8 0,.s [],.af,.af]),(1,e8 a),(0,bA S++(bA F++[.af]))]:=wV;clear wV;refine aj ?_;show bR _ _ _ _ _ _ _ _;refine ak.each a.subs.length (λj f aM=>(∃w,aM.get 3=some (.cells [.i .u8 (Int.ofNat a.op),.s a.b7,.af,w])/\Sl aM (some 4) w ((a.subs.take j).map λx=>.ah (jr x.aO))/\(a.subs.take j=[]->w= .af)/\∀o,w.at? =some o->dq.next<=o)/\(∀i o,i≠3->dq.get i=some o->aM.get i=some o)/\dq.next<=aM.next/\sat [(2,.af),(3,aT 0),(6,aT 2),(8,aT 3),(59,jb a)] f) U ⟨⟨.af,H.get _ (.head _),.nil,λ_=>rfl,λ_ h=>by cases h⟩,λ_ _ _ h=>h,br _,rfl,rfl,rfl,rfl,rfl,trivial⟩ I I (λj g aM aC a0 hi hm=>?_) (λg aM a0 hi=>?_)
 ·obtain⟨⟨w,hg,hw,lh,wU⟩,dk,hn,bQ,cm,ib,hs,PN,_⟩:=a0;refine ak.norm [(2,.af),(3,aT 0),(6,aT 2),(8,aT 3),(59,jb a),(61,ai j),(60,ai a.subs.length)] ⟨bQ,cm,ib,hs,PN,hi,hm,trivial⟩ λg=>?_;have H:Has aM [(3,[.i .u8 (Int.ofNat a.op),.s a.b7,.af,w]),(0,bA S++(bA F++[.af]))]:=(Has.nil.cons (dk _ _ U (H.get _ (.tail _ (.tail _ (.tail _ (.head _)))))) aG).cons hg aG;refine aj ?_;refine W.cB H I I I I λeA jC H eu=>?_;refine aj ?_;refine W.st (bX:=bA (a.subs[j]).aO) H 0 I I I I I I λe6 l_ H gX=>?_;refine aj ?_;have hx:=cU _ (bJ aC);rw[w4] at hx;refine W.ga hfn e hx I I I (DC (jH _) (tQ _ (hd _ (bJ aC)) _) I) ?_;refine aj ?_;refine W.cB H I I I I λfI tb H nu=>?_;refine aj ?_;refine W.st (bX:=jr (a.subs[j]).aO) H 0 I I I I I I λj1 qC H kf=>?_;have c6:∀i o,aM.get i=some o->j1.get i=some o:=λi o h=>kf _ _ (by have:=ae.bE h;omega) (nu _ _ (gX _ _ (by have:=ae.bE h;omega) (eu _ _ h)));have b9X:=hw.aS (τ:=j1) λi o _=>c6 i o;refine aj ?_;refine W.pu (c:=jr (a.subs[j]).aO) (.ah (jr (a.subs[j]).aO)) b9X I I I I I I I I I (by rw[b0,gI];omega) λbM g7 y3 EH _ q1 cE=>?_;have H:Has g7 [(3,[.i .u8 (Int.ofNat a.op),.s a.b7,.af,w])]:=Has.nil.cons (cE _ _ (λe=>by have:=wU _ e;omega) (c6 _ _ hg)) aG;refine aj ?_;refine W.st (bX:=[.i .u8 (Int.ofNat a.op),.s a.b7,.af,bM]) H 0 I I I I y3.ln (by rw[y3.mg];rfl) λja po H iJ=>?_;refine aj ?_;refine⟨rfl,rfl,⟨bM,H.get _ (.head _),?_,λh=>?_,λo ho=>by rw[EH] at ho;cases ho;omega⟩,λi o hi ho=>iJ _ _ hi (cE _ _ (λe=>by have:=wU _ e;have:=ae.bE ho;omega) (c6 _ _ (dk _ _ hi ho))),U,rfl,rfl,rfl,rfl,rfl,trivial⟩
  ·rw[mf aC,g_];exact y3.aS λi o hi=>iJ _ _ (λe=>by rw[EH] at hi;cases hi;omega)
  ·have:=congrArg List.length h;rw[gI,g6] at this;omega
 ·obtain⟨⟨w,hg,hw,lh,wU⟩,dk,hn,bQ,cm,ib,hs,_⟩:=a0;refine ak.norm [(6,aT 2),(8,aT 3)] ⟨ib,hs,trivial⟩ λg=>?_;have H:Has aM [(3,[.i .u8 (Int.ofNat a.op),.s a.b7,.af,w]),(2,[.i .u8 0,.s [],.af,.af])]:=(Has.nil.cons (dk _ _ U (H.get _ (.tail _ (.head _)))) aG).cons hg aG;rw[mO] at hw lh;refine aj ?_;refine W.st (bX:=[.i .u8 (Int.ofNat a.op),.s a.b7,.af,w]) H 1 I I I I I I λe6 l_ H gX=>?_;refine aj ?_;refine ak.ret ?_;refine⟨rfl,_,kk (gW I (H.get _ (.tail _ (.head _))) I) (lp I),?_⟩;have O5:=hw.aS (τ:=e6) λi o hi=>gX _ _ (by have:=wU i hi;omega);have h1:freeze e6 0 998 w=some (slA false (some 4) (a.subs.map λx=>.ah (jr x.aO))):=by
   rw[O5.freeze (n:=997) (ba:=a.subs.map λx=>.ah (jr x.aO)) (by
    have:=Bk (f:=freeze e6 0 997) (g:=λx=>x) (l:=a.subs.map λx=>.ah (jr x.aO)) (λy hy=>by obtain⟨x,_,rfl⟩:=dx.1 hy;exact b9U e6 995 x.aO);rwa[D8] at this)]
   unfold Eh;cases an:a.subs with
   |nil=>rw[an] at lh;rw[lh I];rfl
   |cons x l=>
    rw[an] at hw;generalize hx:(x::l).map (λx:PF=>AV.ah (jr x.aO))=xs at hw;cases hw with
    |nil=>simp at hx
    |ao o cap xs rest hg ab ay=>subst hx;rfl
  have h2:freeze e6 0 999 (.ah [.i .u8 (Int.ofNat a.op),.s a.b7,.af,w])=some (a.aO.A false):=by
   rw[freeze_succ];show(match mapO (freeze e6 0 998) [.i .u8 (Int.ofNat a.op),.s a.b7,.af,w] with|none=>none|some l=>some (AV.ah l))=_;rw[mapO_cons,mapO_cons,mapO_cons,mapO_cons,h1,w4,PF.P6];rfl
  rw[freeze_succ];show(match mapO (freeze e6 0 999) [.ah [.i .u8 (Int.ofNat a.op),.s a.b7,.af,w],.b true] with|none=>none|some l=>some (AV.a9 l))=_;rw[mapO_cons,h2];rfl
end
inductive j3(W:Nat->Prop)(J:ae)(aa:Option Nat):AV->List AV->Prop
 |nil:j3 W J aa .af []
 |ao (o:Nat) (cap:Option Nat) (xs rest:List AV) (hW:W o) (h:J.get o=some (.cells (xs.flatMap AV.cells++rest))) (ab:∀y∈xs,conf aa y=true) (ay:cap=none\/cap=some xs.length) (a5:xs≠[]):j3 W J aa (.ao o 0 xs.length aa cap) xs
 |a_ (xs:List AV) (ab:∀y∈xs,conf aa y=true) (a5:xs≠[]):j3 W J aa (.a_ false aa xs) xs
theorem j3.aS{W W':Nat->Prop}{J τ:ae}{aa:Option Nat}{v:AV}{xs:List AV}(h:j3 W J aa v xs)(k:∀i c,W i->J.get i=some (.cells c)->W' i/\τ.get i=some (.cells c)):j3 W' τ aa v xs:=by
 cases h with
 |nil=>exact .nil
 |ao o cap xs rest hW h ab ay a5=>exact .ao o cap xs rest (k _ _ hW h).1 (k _ _ hW h).2 ab ay a5
 |a_ xs ab a5=>exact .a_ xs ab a5
theorem j3.one{W:Nat->Prop}{J:ae}{aa:Option Nat}{v:AV}{xs:List AV}(h:j3 W J aa v xs):v.cells=[v]/\v.val=true/\conf none v=true:=by
 cases h<;>exact⟨rfl,rfl,rfl⟩
theorem j3.snap{W:Nat->Prop}{J:ae}{aa:Option Nat}{v:AV}{xs ba:List AV}{n:Nat}(h:j3 W J aa v xs)(hm:mapO (bT J n) xs=some ba):bT J (n+1) v=some (slA true aa ba):=by
 cases h with
 |nil=>exact Sl.Ew .nil (λ_=>rfl) hm
 |ao o cap xs rest hW h ab ay a5=>exact Sl.Ew (.ao o cap xs rest h ab ay) (λe=>absurd e a5) hm
 |a_ xs ab a5=>
  rw[snapshot_succ];simp only[hm];cases ba with
  |nil=>have:=(ov hm).1;cases xs with|nil=>exact absurd I a5|cons _ _=>simp at this
  |cons z r=>rfl
inductive eU(W:Nat->Prop)(J:ae):PF->AV->Prop
 |mk (a:PF) (w:AV) (xs:List AV) (hl:xs.length=a.subs.length) (hw:j3 W J (some 4) w xs) (hx:∀i (h:i<xs.length) (h':i<a.subs.length),eU W J a.subs[i] xs[i]):eU W J a (.ah [.i .u8 (Int.ofNat a.op),.s a.b7,.af,w])
theorem eU.aS{W W':Nat->Prop}{J τ:ae}(k:∀i c,W i->J.get i=some (.cells c)->W' i/\τ.get i=some (.cells c)):∀(d:Nat) {a:PF} {v:AV},a.dep<=d->eU W J a v->eU W' τ a v
 |0,a,v,hd,_=>by cases a<;>simp[PF.dep] at hd
 |d+1,a,v,hd,h=>by
  cases h with
  |mk _ w xs hl hw hx=>exact .mk a w xs hl (hw.aS k) λi h h'=>eU.aS k d (by have:=PF.kV (bJ h');omega) (hx i h h')
theorem eU.snap{W:Nat->Prop}{J:ae}:∀(d:Nat) {a:PF} {v:AV} {n:Nat},a.dep<=d->2*d+1<=n->eU W J a v->bT J n v=some (a.aO.A true)
 |0,a,v,n,hd,_,_=>by cases a<;>simp[PF.dep] at hd
 |d+1,a,v,n,hd,hn,h=>by
  obtain⟨n,rfl⟩:∃m,n=m+2:=⟨n-2,U⟩
  cases h with
  |mk _ w xs hl hw hx=>
   rw[mY];refine pL ?_;have hm:mapO (bT J n) xs=some (a.subs.map λx=>.ah (bA x.aO)):=Bl (by rw[b0,hl]) λi h1 h2=>by
    rw[b0] at h2;have:=eU.snap d (n:=n) (by have:=PF.kV (bJ h2);omega) U (hx i h1 h2);rw[e_,this,jY]
   have:=hw.snap hm;rw[mapO_cons,mapO_cons,mapO_cons,mapO_cons,this];rfl
theorem eU.tree{W:Nat->Prop}{J:ae}:∀(d:Nat) {a:PF},a.dep<=d->eU W J a (.ah (jr a.aO))
 |0,a,hd=>by cases a<;>simp[PF.dep] at hd
 |d+1,a,hd=>by
  rw[PF.P6];refine .mk a _ (a.subs.map λx=>.ah (jr x.aO)) (b0 _) ?_ λi h h'=>?_
  ·cases an:a.subs with
   |nil=>exact .nil
   |cons x l=>exact .a_ (aa:=some 4) ((x::l).map λx=>.ah (jr x.aO)) (λy hy=>by obtain⟨z,_,rfl⟩:=dx.1 (show y∈(x::l).map (λx:PF=>AV.ah (jr x.aO)) from hy);rfl) aG
  ·rw[e_];exact eU.tree d (by have:=PF.kV (bJ h');omega)
structure aD where
 bs:Nat
 op:Nat
 hyp:Bool
 f:PF
 fV:List Nat
 cs:List (Nat×Nat)
def aD.aA(x:aD):bu:=⟨x.bs,x.op,x.hyp,x.f.aO,x.fV,x.cs⟩
inductive j4(W:Nat->Prop)(J:ae)(x:aD):AV->Prop
 |mk (w ft:AV) (hf:eU W J x.f (.ah [.i .u8 (Int.ofNat x.f.op),.s x.f.b7,.af,w])) (ab:j3 W J (some 2) ft (x.cs.map λc=>.ah [ai c.1,ai c.2])):j4 W J x (.ah [ai x.bs,ai x.op,.b x.hyp,.i .u8 (Int.ofNat x.f.op),.s x.f.b7,.af,w,.s x.fV,ft])
theorem j4.aS{W W':Nat->Prop}{J τ:ae}{x:aD}{v:AV}(h:j4 W J x v)(k:∀i c,W i->J.get i=some (.cells c)->W' i/\τ.get i=some (.cells c)):j4 W' τ x v:=by
 cases h with
 |mk w ft hf ab=>exact .mk w ft (hf.aS k _ (br _)) (ab.aS k)
theorem j4.snap{W:Nat->Prop}{J:ae}{x:aD}{v:AV}(h:j4 W J x v){n:Nat}(hn:2*x.f.dep+10<=n):bT J n v=some x.aA.A:=by
 obtain⟨n,rfl⟩:∃m,n=m+3:=⟨n-3,U⟩
 cases h with
 |mk w ft hf ab=>
  have h1:=hf.snap x.f.dep (n:=n+3) (br _) U;rw[jY] at h1;obtain⟨fa,a2,bm⟩:=Hw h1;injection bm with bm
  subst bm;rw[mapO_cons,mapO_cons,mapO_cons,mapO_cons] at a2;have zN:mapO (bT J (n+1)) (x.cs.map λc=>.ah [ai c.1,ai c.2])=some (x.cs.map λc=>.ah [ai c.1,ai c.2]):=by
   have:=Bk (f:=bT J (n+1)) (g:=λx=>x) (l:=x.cs.map λc=>AV.ah [ai c.1,ai c.2]) (λy hy=>by obtain⟨c,_,rfl⟩:=dx.1 hy;cases n with|zero=>omega|succ m=>rfl);rwa[D8] at this
  have h2:=ab.snap zN;have h3:bT J (n+2) w=some (iH true x.f.aO.gy):=by
   cases hw:bT J (n+2) w with
   |none=>rw[hw] at a2;cases a2
   |some u=>
    rw[hw] at a2;have a2:some [AV.i .u8 (Int.ofNat x.f.op),.s x.f.b7,.af,u]=some (bA x.f.aO):=a2;injection a2 with a2
    injection a2 with _ a2
    injection a2 with _ a2
    injection a2 with _ a2
    injection a2 with a2 _
    rw[a2]
  refine pL ?_;have aR:x.f.aO.op=x.f.op:=PF.a0k _;have a6:x.f.aO.name=x.f.b7:=PF.b9L _;have c0:x.f.aO.gV=none:=PF.b9M _;rw[mapO_cons,mapO_cons,mapO_cons,mapO_cons,mapO_cons,mapO_cons,mapO_cons,mapO_cons,mapO_cons,h2,h3];show some [_,_,_,AV.i .u8 (Int.ofNat x.f.op),.s x.f.b7,.af,iH true x.f.aO.gy,_,_]=some [_,_,_,AV.i .u8 (Int.ofNat x.f.aO.op),.s x.f.aO.name,jG true x.f.aO.gV,iH true x.f.aO.gy,_,_];rw[aR,a6,c0];rfl
theorem w5{n:Nat}{l:List AV}(h:∀x∈l,AV.eqb n x x=true):AV.eqb (n+1) (.ah l) (.ah l)=true:=pH h
theorem EI{n:Nat}{o:Bool}{aa:Option Nat}{l:List AV}(h:∀x∈l,AV.eqb n x x=true):AV.eqb (n+1) (.a_ o aa l) (.a_ o aa l)=true:=by
 show((o==o)&&decide (aa=aa)&&fY (AV.eqb n) l l)=true;rw[pH h];simp
theorem j3.eqb{W:Nat->Prop}{J:ae}{aa:Option Nat}{v:AV}{xs:List AV}{n:Nat}(h:j3 W J aa v xs)(he:∀x∈xs,AV.eqb n x x=true):AV.eqb (n+1) v v=true:=by
 cases h with
 |nil=>exact e1 I
 |ao o cap xs rest hW h ab ay a5=>exact e1 I
 |a_ xs ab a5=>exact EI he
theorem eU.eqb{W:Nat->Prop}{J:ae}:∀(d:Nat) {a:PF} {v:AV} {n:Nat},a.dep<=d->2*d+1<=n->eU W J a v->AV.eqb n v v=true
 |0,a,v,n,hd,_,_=>by cases a<;>simp[PF.dep] at hd
 |d+1,a,v,n,hd,hn,h=>by
  obtain⟨n,rfl⟩:∃m,n=m+2:=⟨n-2,U⟩
  cases h with
  |mk _ w xs hl hw hx=>
   refine w5 λy hy=>?_;simp only[dF,gT,or_false] at hy;rcases hy with rfl|rfl|rfl|rfl
   ·exact e1 I
   ·exact e1 I
   ·exact e1 I
   ·refine hw.eqb λy hy=>?_;obtain⟨i,hi,rfl⟩:=jw hy;exact eU.eqb d (by have:=PF.kV (bJ (show i<a.subs.length by omega));omega) U (hx i hi U)
theorem j4.eqb{W:Nat->Prop}{J:ae}{x:aD}{v:AV}(h:j4 W J x v){n:Nat}(hn:2*x.f.dep+10<=n):AV.eqb n v v=true:=by
 obtain⟨n,rfl⟩:∃m,n=m+3:=⟨n-3,U⟩
 cases h with
 |mk w ft hf ab=>
  have hw:AV.eqb (n+2) w w=true:=by
   cases hf with
   |mk _ w xs hl hw hx=>
    refine hw.eqb λy hy=>?_;obtain⟨i,hi,rfl⟩:=jw hy;exact(hx i hi U).eqb _ (br _) (by have:=PF.kV (bJ (show i<x.f.subs.length by omega));omega)
  have y4:AV.eqb (n+2) ft ft=true:=ab.eqb λy hy=>by
   obtain⟨c,_,rfl⟩:=dx.1 hy;cases n with
   |zero=>omega
   |succ m=>exact HU I
  refine w5 λy hy=>?_;simp only[dF,gT,or_false] at hy;rcases hy with rfl|rfl|rfl|rfl|rfl|rfl|rfl|rfl|rfl
  ·exact e1 I
  ·exact e1 I
  ·exact e1 I
  ·exact e1 I
  ·exact e1 I
  ·exact e1 I
  ·exact hw
  ·exact e1 I
  ·exact y4
section
variable {b:b5}{K:Nat->List AV->AV->Prop}
theorem q_(hh:bq (b.aV K) va D1){op:Nat}{w:AV}(hw:w.cells=[w])(av:w.val=true){J:ae}:
  bH (b.aV K) 0 (.f (.func va) [] []) [.i .u8 (Int.ofNat op),w] J (λr τ=>r= .ok (.ah [.i .u8 (Int.ofNat op),.s [],.af,w])/\ee J τ):=by
 refine W.oa hh.e hh.p hh.f I I I λz=>?_;have H:Has J []:=Has.nil;refine aj ?_;refine W.cB (c:=[.i .u8 0,.s [],.af,.af]) H I I I I λτ c_ H bG=>?_;refine aj ?_;refine W.jD (c:=[.i .u8 (Int.ofNat op),.s [],.af,w]) I I (pP I I I (pP I (by rw[hw,av];rfl) (by rw[hw];rfl) I)) ?_;refine W.st (bX:=[.i .u8 (Int.ofNat op),.s [],.af,w]) H 0 I I I I I I λbl ei H bw=>?_;refine aj ?_;exact ak.ret ⟨rfl,_,vl (gW I (H.get _ (.head _)) I),rfl,U,λi o h=>bw _ _ (by have:=ae.bE h;omega) (bG _ _ h)⟩
theorem a0o(hh:bq (b.aV K) AX Is){b7:List Nat}{J:ae}:
  bH (b.aV K) 0 (.f (.func AX) [] []) [.s b7] J (λr τ=>r= .ok (.ah [.i .u8 1,.s b7,.af,.af])/\ee J τ):=by
 refine W.oa hh.e hh.p hh.f I I I λz=>?_;have H:Has J []:=Has.nil;refine aj ?_;refine W.cB (c:=[.i .u8 0,.s [],.af,.af]) H I I I I λτ c_ H bG=>?_;refine aj ?_;refine W.st H 0 I I I I I I λbl ei H bw=>?_;refine aj ?_;exact ak.ret ⟨rfl,_,vl (gW I (H.get _ (.head _)) I),rfl,U,λi o h=>bw _ _ (by have:=ae.bE h;omega) (bG _ _ h)⟩
theorem P7(hh:bq (b.aV K) AY It){d op:Nat}{b7 gF:List Nat}{w:AV}{l:List Nat}{v:AV}(hw:w.cells=[w])(PV:w.val=true){J:ae}(av:fp J v l)(hl:l.length<2^20):
  bH (b.aV K) 0 (.f (.func AY) [] []) [ai d,.ah [.i .u8 (Int.ofNat op),.s b7,.af,w],.s gF,v] J (λr τ=>∃ft,r= .ok (.ah [ai d,ai 0,.b false,.i .u8 (Int.ofNat op),.s b7,.af,w,.s gF,ft])/\j3 (λi=>J.next<=i) τ (some 2) ft (l.map λn=>.ah [ai n,ai n])/\ee J τ):=by
 refine W.oa hh.e hh.p hh.f I I I λz=>?_;have H:Has J []:=Has.nil;have sc:=av.kE;refine aj ?_;generalize aX:J.next=q;refine W.cM (c:=[.i .u8 (Int.ofNat op),.s b7,.af,w]) H aX I I I I I λτ c_ H bG=>?_;refine aj ?_;refine W.cB H c_ I I I λbl ei H bw=>?_;refine aj ?_;refine W.lk (c:=[ai d,ai 0,.b false,.i .u8 (Int.ofNat op),.s b7,.af,w,.s gF,.af]) H ei I I I I I I λbZ fc H bg=>?_;have c6:∀i o,J.get i=some o->bZ.get i=some o:=λi o h=>bg _ _ (bw _ _ (bG _ _ h));have qT:=av.aS (τ:=bZ) λi o _=>c6 i o;have sc:=qT.kE;refine aj ?_;show bR _ _ _ _ _ _ _ _;refine ak.each l.length (λj f aM=>(∃ft,aM.get (q+2)=some (.cells [ai d,ai 0,.b false,.i .u8 (Int.ofNat op),.s b7,.af,w,.s gF,ft])/\Sl aM (some 2) ft ((l.take j).map λn=>.ah [ai n,ai n])/\(l.take j=[]->ft= .af)/\∀o,ft.at? =some o->bZ.next<=o)/\(∀i o,i≠q+2->bZ.get i=some o->aM.get i=some o)/\bZ.next<=aM.next/\sat [(8,aT (q+1)),(9,aT (q+2)),(16,v)] f) U ⟨⟨.af,H.get _ (.head _),.nil,λ_=>rfl,λ_ h=>by cases h⟩,λ_ _ _ h=>h,br _,rfl,rfl,rfl,trivial⟩ I I (λj g aM aC a0 hi hm=>?_) (λg aM a0 hi=>?_)
 ·obtain⟨⟨ft,hg,ab,pj,oA⟩,dk,hn,hs,kU,sl,_⟩:=a0;refine ak.norm [(8,aT (q+1)),(9,aT (q+2)),(16,v),(18,ai j),(17,ai l.length)] ⟨hs,kU,sl,hi,hm,trivial⟩ λg=>?_;have H:Has aM [(q+2,[ai d,ai 0,.b false,.i .u8 (Int.ofNat op),.s b7,.af,w,.s gF,ft])]:=Has.nil.cons hg aG;have sc:=(qT.aS (τ:=aM) λi o hi=>dk i o (by have:=av.lt hi;omega)).kE;refine aj ?_;refine W.pu (c:=[ai l[j],ai l[j]]) (.ah [ai l[j],ai l[j]]) ab I I I I I I I I I (by rw[b0,gI];omega) λbM g7 y3 EH _ q1 cE=>?_;have H:Has g7 [(q+2,[ai d,ai 0,.b false,.i .u8 (Int.ofNat op),.s b7,.af,w,.s gF,ft])]:=Has.nil.cons (cE _ _ (λe=>by have:=oA _ e;omega) hg) aG;refine aj ?_;refine W.st (bX:=[ai d,ai 0,.b false,.i .u8 (Int.ofNat op),.s b7,.af,w,.s gF,bM]) H 0 I I I I y3.ln (by rw[y3.mg];rfl) λja po H iJ=>?_;refine aj ?_;refine⟨rfl,rfl,⟨bM,H.get _ (.head _),?_,λh=>?_,λo ho=>by rw[EH] at ho;cases ho;omega⟩,λi o hi ho=>iJ _ _ hi (cE _ _ (λe=>by have:=oA _ e;have:=ae.bE ho;omega) (dk _ _ hi ho)),U,rfl,rfl,rfl,trivial⟩
  ·rw[mf aC,g_];exact y3.aS λi o hi=>iJ _ _ (λe=>by rw[EH] at hi;cases hi;omega)
  ·have:=congrArg List.length h;rw[gI,g6] at this;omega
 ·obtain⟨⟨ft,hg,ab,pj,oA⟩,dk,hn,hs,kU,_⟩:=a0;refine ak.norm [(8,aT (q+1)),(9,aT (q+2))] ⟨hs,kU,trivial⟩ λg=>?_;rw[mO] at ab pj;have iF:=dk _ _ (show q+1≠q+2 by omega) (H.get _ (.tail _ (.head _)));have H:Has aM [(q+1,[ai 0,ai 0,.b false,.i .u8 0,.s [],.af,.af,.s [],.af]),(q+2,[ai d,ai 0,.b false,.i .u8 (Int.ofNat op),.s b7,.af,w,.s gF,ft])]:=(Has.nil.cons hg aG).cons iF aG;refine aj ?_;refine W.st (bX:=[ai d,ai 0,.b false,.i .u8 (Int.ofNat op),.s b7,.af,w,.s gF,ft]) H 0 I I I I I I λe6 l_ H gX=>?_;refine aj ?_;refine ak.ret ⟨rfl,_,vl (gW I (H.get _ (.head _)) I),ft,rfl,?_,U,λi o h=>gX _ _ (by have:=ae.bE h;omega) (dk _ _ (by have:=ae.bE h;omega) (c6 _ _ h))⟩;have JC:=ab.aS (τ:=e6) λi o hi=>gX _ _ (by have:=oA i hi;omega);cases l with
  |nil=>rw[pj I];exact .nil
  |cons x l=>
   generalize hx:(x::l).map (λn=>AV.ah [ai n,ai n])=xs at JC;cases JC with
   |nil=>simp at hx
   |ao o cap xs rest P8 JC ay=>exact .ao o cap xs rest (by have:=oA o I;omega) P8 JC ay (λe=>by subst e;simp at hx)
end
structure a0p(m:Nat)(dO dT dY:AV)(a8:List AV)(bN:Nat->Prop):Prop where
 l:∀o,dO.at? =some o->bN o/\o≠m/\dT.at? ≠some o/\dY.at? ≠some o
 f:∀o,dT.at? =some o->bN o/\o≠m/\dY.at? ≠some o
 g:∀o,dY.at? =some o->bN o/\o≠m
 s:∀i (h:i<a8.length) o,(a8[i]).at? =some o->bN o/\o≠m/\dO.at? ≠some o/\dT.at? ≠some o/\dY.at? ≠some o
 cO:∀i j (h:i<a8.length) (h':j<a8.length),i≠j->∀o,(a8[i]).at? =some o->(a8[j]).at? ≠some o
structure kl(τ:ae)(m:Nat)(bN:Nat->Prop)(L:List aD)(ad:List (List Nat))(ax:List Nat):Prop where
 lt:∀i,bN i->i<τ.next
 ex:∃dO dT dY cN a8,τ.get m=some (.cells [dO,dT,dY])/\Sl τ (some 9) dO cN/\cN.length=L.length/\(∀i (h:i<cN.length) (h':i<L.length),j4 (λi=>¬bN i) τ L[i] cN[i])/\Sl τ none dT a8/\a8.length=ad.length/\(∀i (h:i<a8.length) (h':i<ad.length),fp τ a8[i] ad[i])/\fp τ dY ax/\((1<ad.length->(∀o l c,dT= .ao o 0 l none c->c=none)/\∀o l c,dY= .ao o 0 l none c->c=none)/\∀o l c,dO= .ao o 0 l (some 9) c->c=none)/\bN m/\a0p m dO dT dY a8 bN
theorem kl.aS{J τ:ae}{m:Nat}{bN:Nat->Prop}{L:List aD}{ad:List (List Nat)}{ax:List Nat}(h:kl J m bN L ad ax)(M:ee J τ):kl τ m bN L ad ax:=by
 obtain⟨dO,dT,dY,cN,a8,hm,hl,fh,gr,hf,ef,lK,hg,hk,js,an⟩:=h.ex;exact⟨λi hi=>by have:=h.lt i hi;have:=M.1;omega,dO,dT,dY,cN,a8,M.2 _ _ hm,hl.aS λi o _=>M.2 i o,fh,λi a b=>(gr i a b).aS λi c hi ab=>⟨hi,M.2 _ _ ab⟩,hf.aS λi o _=>M.2 i o,ef,λi a b=>(lK i a b).aS λi o _=>M.2 i o,hg.aS λi o _=>M.2 i o,hk,js,an⟩
theorem P9:∀ {a8:List AV},(∀x∈a8,conf none x=true)->a8.flatMap AV.cells=a8
 |[],_=>rfl
 |x::l,h=>by rw[lC,Hs (h x aG),P9 λy hy=>h y (iM _ hy)];rfl
theorem b9Y{a8 rest:List AV}{k:Nat}{w:AV}(ay:k<a8.length)(hw:w.cells=[w]):storeCells (a8++rest) (k*shN none) w.cells=some (a8.set k w++rest):=by
 have e:k*shN none=k:=Hk k;rw[e,hw];unfold storeCells;rw[if_pos (j7 (by show k+1<=_;rw[c4];omega))];show some ((a8++rest).take k++([w]++(a8++rest).drop (k+1)))=_;rw[Ox,if_pos ay,y1 U,List.drop_append_of_le_length U];simp
theorem b9Z{J:ae}{v w:AV}{a8:List AV}{k:Nat}(h:Sl J none v a8)(ay:k<a8.length)(hw:conf none w=true):∃o rest,v.at? =some o/\J.get o=some (.cells (a8++rest))/\∀τ:ae,τ.get o=some (.cells (a8.set k w++rest))->Sl τ none v (a8.set k w):=by
 cases h with
 |nil=>simp at ay
 |ao o cap xs rest hg ab hk=>
  refine⟨o,rest,rfl,by rw[hg,P9 ab],λτ h=>?_⟩;have h_:∀y∈a8.set k w,conf none y=true:=λy hy=>by
   rcases Y1 hy with h|rfl
   ·exact ab y h
   ·exact hw
  have:=Sl.ao (aa:=none) o cap (a8.set k w) rest (by rw[h,P9 h_]) h_ (by rw[mo];exact hk);rwa[mo] at this
section
variable {b:b5}{K:Nat->List AV->AV->Prop}
theorem EJ(hh:bq (b.aV K) yF DY){m:Nat}{bN:Nat->Prop}{L:List aD}{ad:List (List Nat)}{ax:List Nat}{J:ae}(cW:kl J m bN L ad ax)(bC:0<ad.length)(hL:L.length<2^20/\ad.length<2^20/\∀l∈ad,l.length<2^20){x:aD}{a0q:AV}(hx:j4 (λi=>¬bN i) J x a0q)(c7M:x.f.dep<=400):
  bH (b.aV K) 0 (.f (.func yF) [] []) [aT m,a0q] J (λr τ=>r= .ok (ai (L.length+1))/\∃gA,kl τ m gA (L++[{x with bs:=ad.length-1}]) (ad.set (ad.length-1) (ad.getD (ad.length-1) []++[L.length+1])) ax/\sd bN gA J τ):=by
 refine W.code hh.e hh.p hh.f I I I I λz=>?_;obtain⟨dO,dT,dY,cN,a8,hm,hl,fh,gr,hf,ef,lK,hg,hk,js,an⟩:=cW.ex;cases hx with
 |mk w ft a0r yi=>
  have H:Has J [(m,[dO,dT,dY])]:=Has.nil.cons hm aG;have lm:=ae.bE hm;have kv:=hf.vw;refine aj ?_;generalize aX:J.next=q;refine W.cM (c:=[ai x.bs,ai x.op,.b x.hyp,.i .u8 (Int.ofNat x.f.op),.s x.f.b7,.af,w,.s x.fV,ft]) H aX I I I I I λτ c_ H bG=>?_;have kv:=(hf.aS (τ:=τ) λi o _=>bG i o).vw;refine aj ?_;refine W.st (bX:=[ai (a8.length-1),ai x.op,.b x.hyp,.i .u8 (Int.ofNat x.f.op),.s x.f.b7,.af,w,.s x.fV,ft]) H 0 I I I I I I λbl ei H bw=>?_;have c6:∀i o,J.get i=some o->bl.get i=some o:=λi o h=>bw _ _ (by have:=ae.bE h;omega) (bG _ _ h);have n2:=hl.aS (τ:=bl) λi o _=>c6 i o;have w6:j4 (λi=>¬bN i) bl {x with bs:=a8.length-1} (.ah [ai (a8.length-1),ai x.op,.b x.hyp,.i .u8 (Int.ofNat x.f.op),.s x.f.b7,.af,w,.s x.fV,ft]):=.mk w ft (a0r.aS (λi c h h'=>⟨h,c6 _ _ h'⟩) _ (br _)) (yi.aS λi c h h'=>⟨h,c6 _ _ h'⟩);have kz:=w6.eqb (n:=(b.aV K).bt) (by show 2*x.f.dep+10<=b.bt+1000;omega);refine aj ?_;refine W.lQ H I I I (.tail _ (.head _)) I (e1 hl.lf) ?_;refine W.lQ (v:=.ah [ai (a8.length-1),ai x.op,.b x.hyp,.i .u8 (Int.ofNat x.f.op),.s x.f.b7,.af,w,.s x.fV,ft]) H I I I (.head _) I kz ?_;refine W.bI (c:=[ai (a8.length-1),ai x.op,.b x.hyp,.i .u8 (Int.ofNat x.f.op),.s x.f.b7,.af,w,.s x.fV,ft]) H I I I I λbZ fc H bg=>?_;have h_:=H.get _ (.head _);have ss:=H.get _ (.tail _ (.tail _ (.head _)));refine aj ?_;refine W.ap (w:=.ao bl.next 0 1 (some 9) (some 1)) (.ah [ai (a8.length-1),ai x.op,.b x.hyp,.i .u8 (Int.ofNat x.f.op),.s x.f.b7,.af,w,.s x.fV,ft]) [] (n2.aS λi o _=>bg i o) (by show readList bZ (.ao bl.next 0 1 (some 9) (some 1))=_;show(match bZ.get bl.next with|some (.cells c)=>elems (some 9) 1 (c.drop 0)|_=>none)=_;rw[h_];rfl) (λz bb=>by rw[cu.1 bb];rfl) (by show(3*(cN.length+1)+2000)*136<=_;omega) I I I I λtR cG Em n9 c0a fF b9=>?_;have H:Has cG [(m,[dO,dT,dY])]:=Has.nil.cons (b9 _ _ (λe=>(an.l _ e).2.1 I) ss) aG;refine aj ?_;refine W.st (bX:=[tR,dT,dY]) H 0 I I I I Em.ln (by rw[Em.mg];rfl) λdq iU H c9=>?_;have P_:∀i o,i≠m->dO.at? ≠some i->J.get i=some o->dq.get i=some o:=λi o h1 h2 h=>c9 _ _ h1 (b9 _ _ h2 (bg _ _ (c6 _ _ h)));have Qa:=hf.aS (τ:=dq) λi o hi=>P_ i o (an.f _ hi).2.1 λe=>(an.l _ e).2.2.1 hi;have kv:=Qa.vw;have Qb:Sl dq (some 9) tR (cN++[.ah [ai (a8.length-1),ai x.op,.b x.hyp,.i .u8 (Int.ofNat x.f.op),.s x.f.b7,.af,w,.s x.fV,ft]]):=Em.aS λi o hi=>c9 _ _ (λe=>by rw[n9] at hi;cases hi;omega);have c0b:=H.get _ (.head _);refine aj ?_;clear kv;obtain⟨o,iS,rE,fE,q4,gx,qJ,jq⟩:=Qa.gd (j:=a8.length-1) U;have a0s:=(lK (a8.length-1) U U).aS (τ:=dq) λi bU hi=>by
   obtain⟨a2,bm,cx,ep,eW⟩:=an.s _ _ _ hi;exact P_ i bU bm cx
  have a0t:∀s:ae,lenA s 1 tR=some (cN.length+1):=λs=>by rw[Qb.len,c4];rfl
  have IU:=(an.f _ fE).2.1;refine W.lQ H I I I (.head _) I (e1 hf.lf) ?_;refine aj ?_;refine W.lQ H I I I (.head _) I (e1 hf.lf) ?_;refine aj ?_;rw[r_ q4];refine W.A7 gx I I I jq (e1 a0s.lf) ?_;refine aj ?_;refine W.lQ H I I I (.head _) I (e1 Qb.lf) ?_;refine W.rZ (v:=ai (cN.length+1)) I I I (λs=>wo I (a0t s)) (e1 I) ?_;refine W.bI (c:=[ai (cN.length+1)]) H I I I I λeA jC H eu=>?_;have h_:=H.get _ (.head _);have ss:=H.get _ (.tail _ (.head _));refine W.now [(18,m,[tR,dT,dY]),(18,o,iS),(18,m,[tR,dT,dY]),(18,m,[tR,dT,dY])] [(20,m,[tR,dT,dY])] I I ⟨ss,eu _ _ gx,ss,ss,trivial⟩ ?_;refine W.ap (w:=.ao dq.next 0 1 none (some 1)) (ai (cN.length+1)) [] (a0s.aS λi o _=>eu i o) (by show readList eA (.ao dq.next 0 1 none (some 1))=_;show(match eA.get dq.next with|some (.cells c)=>elems none 1 (c.drop 0)|_=>none)=_;rw[h_];rfl) (λz bb=>by rw[cu.1 bb];rfl) (by rw[b0];have:=hL.2.2 _ (bJ (show a8.length-1<ad.length by omega));show(3*(_+1)+2000)*8<=_;omega) I I I I λQc e6 JD JE _ l_ gX=>?_;have JF:∀i bU,(a8[a8.length-1]'U).at? ≠some i->dq.get i=some bU->e6.get i=some bU:=λi bU h1 h2=>gX i bU h1 (eu _ _ h2);have EK:=an.s (a8.length-1) U;have c0c:=Qa.aS (τ:=e6) λi bU hi=>JF i bU λe=>(EK _ e).2.2.2.1 hi;obtain⟨hE,rest,nM,zS,gP⟩:=b9Z (w:=Qc) c0c (show a8.length-1<a8.length by omega) JD.ln;obtain rfl:o=hE:=by rw[fE] at nM;exact il nM
  have H:Has e6 [(o,a8++rest),(m,[tR,dT,dY])]:=(Has.nil.cons (JF _ _ (λe=>(EK _ e).2.1 I) c0b) aG).cons zS (by simp;omega);refine aj ?_;rw[r_ q4];refine aj ?_;refine W.st (bX:=a8.set (a8.length-1) Qc++rest) H 0 I I I I JD.ln (b9Y U JD.mg) λfI tb H nu=>?_;refine aj ?_;refine W.len I I I (a0t _) ?_;refine aj ?_;have Qd:=(an.f _ fE).1;have Qe:∀i bU,i≠o->(a8[a8.length-1]'U).at? ≠some i->i≠m->dO.at? ≠some i->J.get i=some bU->fI.get i=some bU:=λi bU h1 h2 h3 aQ h=>nu _ _ h1 (JF _ _ h2 (P_ i bU h3 aQ h));have a0u:∀i bU,¬bN i->J.get i=some bU->fI.get i=some bU:=λi bU hi h=>Qe i bU (λe=>hi (e▸Qd)) (λe=>hi (EK _ e).1) (λe=>hi (e▸js)) (λe=>hi (an.l _ e).1) h;have a0v:q<bZ.next/\q<eA.next/\bZ.next<eA.next/\eA.next<fI.next:=by omega
  have su:∀i,bN i->i<q:=λi hi=>by have:=cW.lt i hi;omega
  refine ak.ret ⟨rfl,by rw[fh];rfl,λi=>bN i\/i=bZ.next\/i=eA.next,?_,?_⟩
  ·have sV:∀i c,¬bN i->J.get i=some (.cells c)->¬(bN i\/i=bZ.next\/i=eA.next)/\fI.get i=some (.cells c):=λi c hi hg=>⟨λh=>by
     have:=ae.bE hg;rcases h with h|h|h
     ·exact hi h
     ·omega
     ·omega,a0u _ _ hi hg⟩
   refine⟨λi hi=>?_,tR,dT,dY,cN++[.ah [ai (a8.length-1),ai x.op,.b x.hyp,.i .u8 (Int.ofNat x.f.op),.s x.f.b7,.af,w,.s x.fV,ft]],a8.set (a8.length-1) Qc,H.get _ (.tail _ (.head _)),?_,?_,?_,gP fI (H.get _ (.head _)),?_,?_,?_,?_,.inl js,?_⟩
   ·rcases hi with h|h|h
    ·have:=su i h;omega
    ·omega
    ·omega
   ·exact Qb.aS λi bU hi h=>nu _ _ (λe=>by rw[n9] at hi;cases hi;have:=su _ Qd;omega) (JF _ _ (λe=>by rw[n9] at hi;cases hi;have:=su _ (EK _ e).1;omega) h)
   ·rw[c4,c4,fh];rfl
   ·intro i h h';by_cases vS:i<cN.length
    ·rw[g9 vS,g9 U];exact(gr i vS U).aS sV
    ·have e:i=cN.length:=by rw[c4] at h;simp only[gp,g6] at h;omega
     subst e;rw[oS I,oS fh];rw[ef];exact .mk w ft (a0r.aS sV _ (br _)) (yi.aS sV)
   ·rw[mo,mo,ef]
   ·intro i h h';rw[mo] at h h';rw[ui,ui];by_cases vv:a8.length-1=i
    ·rw[if_pos vv,if_pos U,sm U];unfold fp;rw[g_];have:=JD.aS (τ:=fI) λi bU hi=>nu _ _ (λe=>by rw[JE] at hi;cases hi;have:=su _ Qd;omega);rw[fh] at this;simp only[ef] at this;exact this
    ·rw[if_neg vv,if_neg U];exact(lK i h h').aS λc bU ab=>by
      obtain⟨a2,bm,cx,ep,eW⟩:=an.s i h c ab;exact Qe c bU (λe=>ep (e▸fE)) (an.cO _ _ h U (λe=>vv e.symm) c ab) bm cx
   ·exact hg.aS λc bU ab=>Qe c bU (λe=>(an.f _ fE).2.2 (e▸ab)) (λe=>(EK _ e).2.2.2.2 ab) (an.g _ ab).2 (λe=>(an.l _ e).2.2.2 ab)
   ·rw[mo];exact⟨hk.1,c0a⟩
   ·refine⟨λc ab=>?_,λc ab=>?_,λc ab=>?_,λi h c ab=>?_,λi j h h' g5 c ab h_=>?_⟩
    ·rw[n9] at ab;cases ab;exact⟨.inr (.inl I),U,λe=>by have:=su _ (an.f _ e).1;omega,λe=>by have:=su _ (an.g _ e).1;omega⟩
    ·exact⟨.inl (an.f _ ab).1,(an.f _ ab).2⟩
    ·exact⟨.inl (an.g _ ab).1,(an.g _ ab).2⟩
    ·rw[mo] at h;rw[ui] at ab;by_cases vv:a8.length-1=i
     ·rw[if_pos vv,JE] at ab;cases ab;exact⟨.inr (.inr I),U,λe=>by rw[n9] at e;have:=il e;omega,λe=>by have:=su _ (an.f _ e).1;omega,λe=>by have:=su _ (an.g _ e).1;omega⟩
     ·rw[if_neg vv] at ab;obtain⟨a2,bm,cx,ep,eW⟩:=an.s i h c ab;exact⟨.inl a2,bm,λe=>by rw[n9] at e;have:=il e;have:=su _ a2;omega,ep,eW⟩
    ·rw[mo] at h h';rw[ui] at ab h_;by_cases vv:a8.length-1=i
     ·rw[if_pos vv,JE] at ab;rw[if_neg (λe=>g5 U)] at h_;have:=su _ (an.s _ h' _ h_).1;have:=il ab;omega
     ·rw[if_neg vv] at ab;by_cases HH:a8.length-1=j
      ·rw[if_pos HH,JE] at h_;have:=su _ (an.s _ h _ ab).1;have:=il h_;omega
      ·rw[if_neg HH] at h_;exact an.cO i j h h' g5 c ab h_
  ·refine⟨U,λc bU ab h=>a0u c bU ab h,λc ab=>?_⟩;rcases ab with h|h|h
   ·exact .inl h
   ·right;omega
   ·right;omega
end
def ly:List Nat:=[105,109,112,73]
def w7:List Nat:=[110,111,116,73]
def nx(a c:PF)(first last:Nat):aD:=if c= .cQ then⟨0,0,false,.neg a,w7,[(first,last)]⟩ else⟨0,0,false,.bin 2 a c,ly,[(first,last)]⟩
theorem W.pv{cf:lj}{env:Env}{aN:Option Nat}{D:List (Nat ⊕ (AV×List AV))}{n:Nat}{F:List (Nat×AV)}{z:Nat->AV}{J:ae}{Q:ec}{d:Nat}{aa:Option Nat}{x hi:aI}{g:Option (Nat×Bool)}{ops:List a3}{v:AV}{xs:List AV}{k:Nat}(h:Sl J aa v xs)(hn:∀o l c,v= .ao o 0 l aa c->c=none)(ay:k<=xs.length)(hd:Nat.blt d n=true)(hw:wtL g n F=true)(h1:db env n F z x=some v)(h2:db env n F z hi=some (ai k))
  (ab:∀w,Sl J aa w (xs.take k)->w.at? =v.at? →(∀o l c,w= .ao o 0 l aa c->c=none)->ch cf env aN D n ops (bx ((d,w)::F) z) J Q):ch cf env aN D n (⟨some d,.m5 aa x none (some hi) none,g,[]⟩::ops) (bx F z) J Q:=by
 obtain⟨w,aR,a6,c0,h7⟩:=Sl.cut (ar:=db env n F z) (hi:=hi) (k:=k) h hn ay h2;refine W.val (v:=w) (ag:=J) hd hw ?_ (ab w a6 c0 h7);show(match db env n F z x with|some x=>(match sliceA (db env n F z) aa x none (some hi) none with|some v=>some (bV.val v J)|none=>none)|none=>none)=_;rw[h1];show(match sliceA (db env n F z) aa v none (some hi) none with|some v=>some (bV.val v J)|none=>none)=_;rw[aR]
section
variable {b:b5}{K:Nat->List AV->AV->Prop}
theorem c0d(hh:bq (b.aV K) DZ NV)(aC:bq (b.aV K) va D1)(ha:bq (b.aV K) yF DY){m:Nat}{bN:Nat->Prop}{L:List aD}{ad:List (List Nat)}{ax:List Nat}{J:ae}(cW:kl J m bN L ad ax)(bC:2<=ad.length)(hL:L.length<2^20/\ad.length<2^20/\∀l∈ad,l.length<2^20)(lK:ax.length=ad.length){first:Nat}(Ah:ax[ad.length-1]? =some first)(GZ:1<=first/\first<=L.length){x y:aD}(hx:L[first-1]? =some x)(hy:L[L.length-1]? =some y)(JG:y.bs=ad.length-1)(hd:x.f.dep<=300/\y.f.dep<=300):
  bH (b.aV K) 0 (.f (.func DZ) [] []) [aT m] J (λr τ=>r= .ok (.a9 [])/\∃gA,kl τ m gA (L++[{nx x.f y.f first L.length with bs:=ad.length-2}]) ((ad.take (ad.length-1)).set (ad.length-2) (ad.getD (ad.length-2) []++[L.length+1])) (ax.take (ad.length-1))/\sd bN gA J τ):=by
 refine W.pM hh.e hh.p hh.f I I I λz=>?_;obtain⟨dO,dT,dY,cN,a8,hm,hl,fh,gr,hf,ef,gM,hg,hk,js,an⟩:=cW.ex;have H:Has J [(m,[dO,dT,dY])]:=Has.nil.cons hm aG;have kv:=hf.vw;have mB:=hl.vw;have rM:=hg.kE;obtain⟨JH,c0e⟩:=fC.1 Ah;obtain⟨iv,w6⟩:=fC.1 hx;obtain⟨q8,hy2⟩:=fC.1 hy;have aR:ax[a8.length-1]'U=first:=by simp only[ef];exact c0e
 obtain⟨Qf,mT,c7N,c7O,a0w,JI,Qg,c0f⟩:=hl.gd (j:=cN.length-1) U;obtain⟨c0g,c0h,rx,c7P,c0i,a0x,a0y,c0j⟩:=hl.gd (j:=first-1) U;have EL:=gr (cN.length-1) U U;have EM:=gr (first-1) U U;rw[show L[cN.length-1]'U=y from by simp only[fh];exact hy2] at EL;rw[w6] at EM;generalize cN[cN.length-1]'U=g4 at EL Qg c0f;generalize cN[first-1]'U=zV at EM a0y c0j;cases EL with
 |mk wy c7Q a0z c7R=>
  cases EM with
  |mk qG c7S a0A tq=>
   refine aj ?_;rw[aR,r_ a0w];refine aj ?_;refine W.oU (v:=ai y.bs) JI I I I (by rw[sG,Qg];rfl) ?_;have c7T:y.bs=a8.length-1:=by omega
   refine aj ?_;refine W.lQ H I I I (.head _) I (e1 hl.lf) ?_;refine aj ?_;rw[r_ c0i];refine aj ?_;refine W.A7 (v:=.ah [.i .u8 (Int.ofNat x.f.op),.s x.f.b7,.af,qG]) a0x I I I (by rw[<-nD,a0y];rfl) (a0A.eqb _ (br _) (by show 2*x.f.dep+1<=b.bt+1000;omega)) ?_;refine aj ?_;refine W.lQ H I I I (.head _) I (e1 hl.lf) ?_;refine aj ?_;rw[r_ a0w];refine aj ?_;refine W.A7 (v:=.ah [.i .u8 (Int.ofNat y.f.op),.s y.f.b7,.af,wy]) JI I I I (by rw[<-nD,Qg];rfl) (a0z.eqb _ (br _) (by show 2*y.f.dep+1<=b.bt+1000;omega)) ?_;generalize aX:J.next=q;refine W.cB (c:=[.i .u8 0,.s [],.af,.af]) H aX I I I λτ c_ H bG=>?_;refine W.cB (c:=[.i .u8 0,.s [],.af,.af]) H c_ I I I λbl ei H bw=>?_;have c6:∀i o,J.get i=some o->bl.get i=some o:=λi o h=>bw _ _ (bG _ _ h);have ss:=c6 _ _ hm;refine W.now [(20,Qf,mT),(20,m,[dO,dT,dY]),(20,c0g,c0h),(20,m,[dO,dT,dY])] [(21,Qf,mT),(21,m,[dO,dT,dY])] I I ⟨c6 _ _ JI,ss,c6 _ _ a0x,ss,trivial⟩ ?_;refine W.st (bX:=[.i .u8 (Int.ofNat x.f.op),.s x.f.b7,.af,qG]) H 1 I I I I I I λbZ fc H bg=>?_;have lm:=ae.bE hm;have Qh:∀i o,J.get i=some o->bZ.get i=some o:=λi o h=>bg _ _ (by have:=ae.bE h;omega) (c6 _ _ h);refine W.now [(21,Qf,mT),(21,m,[dO,dT,dY])] [] I I ⟨Qh _ _ JI,Qh _ _ hm,trivial⟩ ?_;refine W.st (bX:=[.i .u8 (Int.ofNat y.f.op),.s y.f.b7,.af,wy]) H 0 I I I I I I λcG fF H b9=>?_;have Qi:∀i o,J.get i=some o->cG.get i=some o:=λi o h=>b9 _ _ (by have:=ae.bE h;omega) (Qh _ _ h);refine aj ?_;obtain⟨k7,uy⟩:=hk.1 U;refine W.pv (hf.aS (τ:=cG) λi o _=>Qi i o) k7 (k:=a8.length-1) U I I I I λny Qj w8 kK=>?_;refine aj ?_;refine W.pv (hg.aS (τ:=cG) λi o _=>Qi i o) uy (k:=a8.length-1) (by rw[b0];omega) I I I I λoX tS n8 mh=>?_;refine aj ?_;refine W.st (bX:=[dO,ny,dY]) H 2 I I I I Qj.ln (by rw[Qj.mg];rfl) λdq iU H c9=>?_;refine aj ?_;refine W.st (bX:=[dO,ny,oX]) H 2 I I I I tS.ln (by rw[tS.mg];rfl) λeA jC H eu=>?_;have BA:∀i o,i≠m->J.get i=some o->eA.get i=some o:=λi o hi h=>eu _ _ hi (c9 _ _ hi (Qi _ _ h));have a0B:∀i o,i≠m->cG.get i=some o->eA.get i=some o:=λi o hi h=>eu _ _ hi (c9 _ _ hi h);have JJ:kl eA m bN L (ad.take (ad.length-1)) (ax.take (ad.length-1)):=by
    have xL:∀i (h:i<(a8.take (a8.length-1)).length),(a8.take (a8.length-1))[i]=a8[i]'(by rw[gI] at h;omega):=λi h=>ud;refine⟨λi hi=>by have:=cW.lt i hi;omega,dO,ny,oX,cN,a8.take (a8.length-1),H.get _ (.tail _ (.tail _ (.head _))),hl.aS λi o hi=>BA i o (an.l _ hi).2.1,fh,λi h h'=>(gr i h h').aS λc _ ab hg=>⟨ab,BA _ _ (λe=>ab (e▸js)) hg⟩,Qj.aS λi o hi=>a0B i o (an.f _ (w8▸hi)).2.1,by rw[gI,gI];omega,λi h h'=>?_,?_,⟨λ_=>⟨kK,mh⟩,hk.2⟩,js,?_⟩
    ·rw[xL i h,ud];exact(gM i _ _).aS λc o ab=>BA c o (an.s i _ c ab).2.1
    ·have:=tS.aS (τ:=eA) λi o hi=>a0B i o (an.g _ (n8▸hi)).2;rw[<-FQ,ef] at this;exact this
    ·refine⟨λo ho=>?_,λo ho=>?_,λo ho=>?_,λi h o ho=>?_,λi j h h' g5 o ho kP=>?_⟩
     ·rw[w8,n8];exact an.l o ho
     ·rw[w8] at ho;rw[n8];exact an.f o ho
     ·rw[n8] at ho;exact an.g o ho
     ·rw[xL i h] at ho;rw[w8,n8];exact an.s i _ o ho
     ·rw[xL i h] at ho;rw[xL j h'] at kP;exact an.cO i j _ _ g5 o ho kP
   refine aj ?_;have a0C:eU (λi=>¬bN i) eA x.f (.ah [.i .u8 (Int.ofNat x.f.op),.s x.f.b7,.af,qG]):=a0A.aS (λi c hi h=>⟨hi,BA _ _ (λe=>hi (e▸js)) h⟩) _ (br _);have c0k:eU (λi=>¬bN i) eA y.f (.ah [.i .u8 (Int.ofNat y.f.op),.s y.f.b7,.af,wy]):=a0z.aS (λi c hi h=>⟨hi,BA _ _ (λe=>hi (e▸js)) h⟩) _ (br _);have c0l:eA.next=q+2:=by omega
   have BB:∀i,bN i->i<q:=λi hi=>by have:=cW.lt i hi;omega
   refine W.bI (c:=[.i .u8 (Int.ofNat x.f.op),.s x.f.b7,.af,qG]++[.i .u8 (Int.ofNat y.f.op),.s y.f.b7,.af,wy]) H c0l I I I λe6 l_ H gX=>?_;have P8:=H.get _ (.head _);refine aj ?_;refine W.aq trivial I I I (q_ (op:=6) aC I I) λr fI ⟨ar,i_⟩=>⟨_,ar,?_⟩
   have H:=H.aS i_.2;have Jk:=i_.1;refine aj ?_;refine W.bI (c:=[ai first,ai cN.length]) H I I I I λj1 qC H kf=>?_;refine aj ?_;have c0m:=H.get _ (.head _);refine W.lk (c:=[ai 0,ai 0,.b false,.i .u8 6,.s [],.af,.ao (q+2) 0 2 (some 4) (some 2),.s ly,.ao fI.next 0 1 (some 2) (some 1)]) H I I I I I I I λg7 q1 H cE=>?_;have EN:∀i o,eA.get i=some o->g7.get i=some o:=λi o h=>cE _ _ (kf _ _ (i_.2 _ _ (gX _ _ h)));have gL:j3 (λi=>¬bN i) g7 (some 2) (.ao fI.next 0 1 (some 2) (some 1)) ([(first,L.length)].map λc=>.ah [ai c.1,ai c.2]):=.ao fI.next (some 1) [.ah [ai first,ai L.length]] [] (λh=>by have:=BB _ h;omega) (by rw[<-fh];exact H.get _ (.tail _ (.head _))) (λy hy=>by rw[cu.1 hy];rfl) (.inr I) aG;have c0n:=a0C.aS (τ:=g7) (λi c hi h=>⟨hi,EN _ _ h⟩) _ (br _);have c0o:=c0k.aS (τ:=g7) (λi c hi h=>⟨hi,EN _ _ h⟩) _ (br _);have c0p:=JJ.aS (τ:=g7) ⟨U,EN⟩;have pq:(ad.take (ad.length-1)).length=ad.length-1:=by rw[gI];omega
   have EO:L.length<2^20/\(ad.take (ad.length-1)).length<2^20/\∀l∈ad.take (ad.length-1),l.length<2^20:=⟨hL.1,U,λl hl=>hL.2.2 l (pa hl)⟩
   have fin:∀ {e6 fI:ae} {gA:Nat->Prop} {Qk:aD},ee eA e6->kl fI m gA (L++[{Qk with bs:=(ad.take (ad.length-1)).length-1}]) ((ad.take (ad.length-1)).set ((ad.take (ad.length-1)).length-1) ((ad.take (ad.length-1)).getD ((ad.take (ad.length-1)).length-1) []++[L.length+1])) (ax.take (ad.length-1))->sd bN gA e6 fI->kl fI m gA (L++[{Qk with bs:=ad.length-2}]) ((ad.take (ad.length-1)).set (ad.length-2) (ad.getD (ad.length-2) []++[L.length+1])) (ax.take (ad.length-1))/\sd bN gA J fI:=λ{e6 fI gA Qk} M h cn=>by
    rw[pq] at h;have e:(ad.take (ad.length-1)).getD (ad.length-1-1) []=ad.getD (ad.length-2) []:=by
     rw[sm (by rw[pq];omega),sm U,ud];rfl
    rw[e] at h;refine⟨h,by have:=cn.next;have:=M.1;omega,λc o ab ho=>cn.aS _ _ ab (M.2 _ _ (BA _ _ (λe=>ab (e▸js)) ho)),λc ab=>?_⟩;rcases cn.own c ab with h|h
    ·exact .inl h
    ·right;have:=M.1;omega
   by_cases y5:y.f= .cQ
   ·have eb:y.f.op=2:=by rw[y5];rfl
    refine aj ?_;refine W.bI (c:=[.i .u8 (Int.ofNat x.f.op),.s x.f.b7,.af,qG]) H I I I I λja po H iJ=>?_;have c0q:=H.get _ (.head _);refine aj ?_;refine W.aq trivial I I I (q_ (op:=3) aC I I) λr lq ⟨ar,JK⟩=>⟨_,ar,?_⟩
    have H:=H.aS JK.2;have aU:=JK.1;refine aj ?_;refine W.st (bX:=[ai 0,ai 0,.b false,.i .u8 3,.s [],.af,.ao g7.next 0 1 (some 4) (some 1),.s ly,.ao fI.next 0 1 (some 2) (some 1)]) H 1 I I I I I I λsh dQ H cD=>?_;refine aj ?_;refine W.st (bX:=[ai 0,ai 0,.b false,.i .u8 3,.s [],.af,.ao g7.next 0 1 (some 4) (some 1),.s w7,.ao fI.next 0 1 (some 2) (some 1)]) H 1 I I I I I I λsi ne H Bp=>?_;have a0D:∀i o,i≠j1.next->g7.get i=some o->si.get i=some o:=λi o hi h=>Bp _ _ hi (cD _ _ hi (JK.2 _ _ (iJ _ _ h)));have Ql:∀i o,eA.get i=some o->si.get i=some o:=λi o h=>a0D _ _ (by have:=ae.bE h;omega) (EN _ _ h);have c0r:=JJ.aS (τ:=si) ⟨U,Ql⟩;have c0s:j3 (λi=>¬bN i) si (some 2) (.ao fI.next 0 1 (some 2) (some 1)) ([(first,L.length)].map λc=>.ah [ai c.1,ai c.2]):=.ao fI.next (some 1) [.ah [ai first,ai L.length]] [] (λh=>by have:=BB _ h;omega) (a0D _ _ U (by rw[<-fh];exact cE _ _ c0m)) (λy hy=>by rw[cu.1 hy];rfl) (.inr I) aG;have c0t:=a0C.aS (τ:=si) (λi c hi h=>⟨hi,Ql _ _ h⟩) _ (br _);have EP:j4 (λi=>¬bN i) si (nx x.f y.f first L.length) (.ah [ai 0,ai 0,.b false,.i .u8 3,.s [],.af,.ao g7.next 0 1 (some 4) (some 1),.s w7,.ao fI.next 0 1 (some 2) (some 1)]):=by
     unfold nx;rw[if_pos y5];refine .mk (.ao g7.next 0 1 (some 4) (some 1)) _ (.mk (.neg x.f) _ [.ah [.i .u8 (Int.ofNat x.f.op),.s x.f.b7,.af,qG]] I (.ao g7.next (some 1) [.ah [.i .u8 (Int.ofNat x.f.op),.s x.f.b7,.af,qG]] [] (λh=>by have:=BB _ h;omega) (Bp _ _ U (cD _ _ U (JK.2 _ _ c0q))) (λy hy=>by rw[cu.1 hy];rfl) (.inr I) aG) λi h h'=>?_) c0s
     match i,h,h' with
     |0,_,_=>exact c0t
    refine aj ?_;refine W.aq trivial I I I (EJ ha c0r U EO EP (by unfold nx;rw[if_pos y5];show x.f.dep+1<=400;omega)) λr Ep ⟨ar,gA,h1,h2⟩=>⟨_,ar,?_⟩
    refine aj ?_;exact⟨.inr I,rfl,gA,fin ⟨U,Ql⟩ h1 h2⟩
   ·have eb:y.f.op≠2:=λh=>y5 (by cases Qm:y.f with
     |cQ=>rfl
     | gd _=>rw[Qm] at h;cases h
     |neg _=>rw[Qm] at h;cases h
     |bin k _ _=>rw[Qm] at h;have h:4+k.val=2:=h;omega)
    have EP:j4 (λi=>¬bN i) g7 (nx x.f y.f first L.length) (.ah [ai 0,ai 0,.b false,.i .u8 6,.s [],.af,.ao (q+2) 0 2 (some 4) (some 2),.s ly,.ao fI.next 0 1 (some 2) (some 1)]):=by
     unfold nx;rw[if_neg y5];refine .mk (.ao (q+2) 0 2 (some 4) (some 2)) _ (.mk (.bin 2 x.f y.f) _ [.ah [.i .u8 (Int.ofNat x.f.op),.s x.f.b7,.af,qG],.ah [.i .u8 (Int.ofNat y.f.op),.s y.f.b7,.af,wy]] I (.ao (q+2) (some 2) [.ah [.i .u8 (Int.ofNat x.f.op),.s x.f.b7,.af,qG],.ah [.i .u8 (Int.ofNat y.f.op),.s y.f.b7,.af,wy]] [] (λh=>by have:=BB _ h;omega) (cE _ _ (kf _ _ (i_.2 _ _ P8))) (λy hy=>by rcases dF.1 hy with rfl|hy;rfl;rw[cu.1 hy];rfl) (.inr I) aG) λi h h'=>?_) gL
     match i,h,h' with
     |0,_,_=>exact c0n
     |1,_,_=>exact c0o
    refine aj ?_;refine W.aq trivial I I I (EJ ha c0p U EO EP (by unfold nx;rw[if_neg y5];show max x.f.dep y.f.dep+1<=400;omega)) λr ja ⟨ar,gA,h1,h2⟩=>⟨_,ar,?_⟩
    refine aj ?_;exact⟨.inr I,rfl,gA,fin ⟨U,EN⟩ h1 h2⟩
end
def oY(code:List Nat)(at_:Nat):Nat:=if at_<30 then code.getD at_ 0 else 0
def oZ(code:List Nat)(at_:Nat):Nat:=if at_<code.length/\at_<30 then at_+1 else at_
section
variable {b:b5}{K:Nat->List AV->AV->Prop}
theorem c0u(hh:bq (b.aV K) u_ Ir){a c at_:Nat}{code:List Nat}{cI:AV}{J:ae}(av:∀τ,hU τ none cI (code.map uB))(hl:code.length<2^62)(hb:∀x∈code,x<256)(fE:at_<=30)(ha:J.get a=some (.cells [ai at_]))(ab:J.get c=some (.cells [cI]))(dW:a≠c):
  bH (b.aV K) 0 (.f (.func u_) [] [aT a,aT c]) [] J (λr τ=>r= .ok (ai (oY code at_))/\τ.get a=some (.cells [ai (oZ code at_)])/\τ.next=J.next/\∀i o,i≠a->J.get i=some o->τ.get i=some o):=by
 refine W.code hh.e hh.p hh.f I I I I λz=>?_;have H:Has J [(a,[ai at_]),(c,[cI])]:=(Has.nil.cons ab aG).cons ha (by simp;omega);have z8:=av J;have fh:(code.map uB).length=code.length:=b0 _;refine aj ?_;rw[fh];by_cases h1:at_<code.length
 ·by_cases h2:at_<30
  ·refine aj ?_;refine W.st (bX:=[ai (at_+1)]) H 0 I I I I I I λbl ei H bw=>?_;have z8:=av bl;have hx:=hb _ (bJ h1);refine aj ?_;have e:(code.map uB)[at_+1-1]'(by rw[fh];omega)=uB (code[at_]):=by rw[e_];rfl
   rw[e];refine W.val (v:=ai code[at_]) (ag:=bl) I I ?_ ?_
   ·show some (bV.val (.i .i64 (wrapN .i64 (Int.ofNat code[at_]))) bl)=_;rw[Au U]
   refine aj ?_;refine ak.ret ⟨rfl,?_,?_,ei,bw⟩
   ·unfold oY;rw[if_pos h2,sm h1];rfl
   ·unfold oZ;rw[if_pos ⟨h1,h2⟩];exact H.get _ (.head _)
  ·refine aj ?_;refine ak.ret ⟨rfl,?_,?_,rfl,λ_ _ _ h=>h⟩
   ·unfold oY;rw[if_neg h2];rfl
   ·unfold oZ;rw[if_neg λh=>h2 h.2];exact ha
 ·refine aj ?_;refine ak.ret ⟨rfl,?_,?_,rfl,λ_ _ _ h=>h⟩
  ·unfold oY;have:code.getD at_ 0=0:=by rw[fO,s6 U];rfl
   rw[this,ite_self];rfl
  ·unfold oZ;rw[if_neg λh=>h1 h.1];exact ha
theorem c0v(hh:bq (b.aV K) yE NU)(hl:bq (b.aV K) AY It)(ha:bq (b.aV K) yF DY){m JL:Nat}{bN:Nat->Prop}{L:List aD}{ad:List (List Nat)}{ax:List Nat}{J:ae}(cW:kl J m bN L ad ax)(c0w:J.get JL=some (.cells [aT m]))(c7U:¬bN JL)(bC:0<ad.length)(hL:L.length<2^20/\ad.length<2^20/\∀l∈ad,l.length<2^20){f:PF}{w:AV}(hf:eU (λi=>¬bN i) J f (.ah [.i .u8 (Int.ofNat f.op),.s f.b7,.af,w]))(hd:f.dep<=400){gF:List Nat}{l:List Nat}{v:AV}(av:fp J v l)(fh:l.length<2^20):
  bH (b.aV K) 0 (.f (.func yE) [] [aT JL]) [.ah [.i .u8 (Int.ofNat f.op),.s f.b7,.af,w],.s gF,v] J (λr τ=>r= .ok (.a9 [])/\∃gA,kl τ m gA (L++[⟨ad.length-1,0,false,f,gF,l.map λn=>(n,n)⟩]) (ad.set (ad.length-1) (ad.getD (ad.length-1) []++[L.length+1])) ax/\sd bN gA J τ):=by
 refine W.pM hh.e hh.p hh.f I I I λz=>?_;have H:Has J [(JL,[aT m])]:=Has.nil.cons c0w aG;have BB:=cW.lt;have hw:w.cells=[w]/\w.val=true:=by
  cases hf with
  |mk _ w xs h1 h2 h3=>exact⟨h2.one.1,h2.one.2.1⟩
 refine aj ?_;generalize aX:J.next=q;refine W.cM (c:=[.i .u8 (Int.ofNat f.op),.s f.b7,.af,w]) H aX I I I I I λτ c_ H bG=>?_;refine aj ?_;refine W.aq trivial I I I (P7 (d:=0) (op:=f.op) hl hw.1 hw.2 (av.aS λi o _=>bG i o) fh) λr bl ⟨ft,ar,y4,M2⟩=>⟨_,ar,?_⟩
 have H:=H.aS M2.2;have qF:=M2.1;refine aj ?_;refine W.lk (c:=[ai 0,ai 0,.b false,.i .u8 (Int.ofNat f.op),.s f.b7,.af,w,.s gF,ft]) H I I I I I I I λbZ fc H bg=>?_;have c6:∀i o,J.get i=some o->bZ.get i=some o:=λi o h=>bg _ _ (M2.2 _ _ (bG _ _ h));have tD:=cW.aS (τ:=bZ) ⟨U,c6⟩;have EP:j4 (λi=>¬bN i) bZ ⟨0,0,false,f,gF,l.map λn=>(n,n)⟩ (.ah [ai 0,ai 0,.b false,.i .u8 (Int.ofNat f.op),.s f.b7,.af,w,.s gF,ft]):=.mk w ft (hf.aS (λi c hi h=>⟨hi,c6 _ _ h⟩) _ (br _)) (by
  have:=y4.aS (τ:=bZ) (W':=λi=>¬bN i) λi c hi h=>⟨λhm=>by have:=BB _ hm;omega,bg _ _ h⟩
  rw[mm];exact this)
 refine aj ?_;refine W.aq trivial I I I (EJ ha tD bC hL EP hd) λr cG ⟨ar,gA,h1,h2⟩=>⟨_,ar,?_⟩
 refine aj ?_;exact⟨.inr I,rfl,gA,h1,by have:=h2.next;omega,λc o ab ho=>h2.aS _ _ ab (c6 _ _ ho),λc ab=>(h2.own c ab).imp id λh=>⟨U,h.2⟩⟩
end
end Go.Lyc
end
noncomputable section
namespace Go.Lyc
set_option maxHeartbeats 0
variable [Tok][TokOk]
open Go.RowKit Go.Lyc.T
def pT(fB:List (Nat×List AV))(bz:List Nat):lP:=bz.flatMap λk=>fB.map λp=>(k,p.1,p.2)
theorem Qn{fB:List (Nat×List AV)}{bz:List Nat}{k:Nat}{p:Nat×List AV}(h1:k∈bz)(h2:p∈fB):(k,p.1,p.2)∈pT fB bz:=zu.2 ⟨k,h1,dx.2 ⟨p,h2,rfl⟩⟩
theorem ev.ER{env:Env}{D:List (Nat ⊕ (AV×List AV))}{n N:Nat}{cV n5:lP}{ops:List a3}{f:Nat->AV}{J:ae}{Q:ec}(an:∀p∈cV,p∈n5)(h:ev env D n N n5 ops f J Q):ev env D n N cV ops f J Q:=λad bC=>by
 obtain⟨fy,bc,b6,ag,bQ,cm,bL⟩:=h ad bC;refine⟨fy,bc,b6,ag,bQ,cm,λF b4=>?_⟩;obtain⟨fe,wn,a2,cx,ep,eW⟩:=bL F b4;exact⟨fe,wn,a2,cx,λp au=>ep p (an p au),eW⟩
structure gf(J:ae)(fB:List (Nat×List AV)):Prop where
 get:∀p∈fB,J.get p.1=some (.cells p.2)
theorem gf.nil{J:ae}:gf J []:=⟨λ_ h=>absurd h aG⟩
theorem gf.cons{J:ae}{fB:List (Nat×List AV)}{k:Nat}{c:List AV}(h:gf J fB)(ay:J.get k=some (.cells c)):gf J ((k,c)::fB):=⟨λp au=>by
 rcases dF.1 au with rfl|au
 ·exact ay
 ·exact h.get p au⟩
theorem gf.aS{J τ:ae}{fB:List (Nat×List AV)}(h:gf J fB)(k:∀i o,J.get i=some o->τ.get i=some o):gf τ fB:=⟨λp au=>k _ _ (h.get p au)⟩
theorem Has.b{J:ae}{fB:List (Nat×List AV)}(h:Has J fB):gf J fB:=⟨h.get⟩
def Ptr(fB:List (Nat×List AV))(aa:Option Nat)(p v:AV):Prop:=(∃o,p= .dG o v/\conf aa v=true)\/∃id off c,p= .p (some (id,off))/\(id,c)∈fB/\dU aa (c.drop off)=some v
namespace W
section
variable {env:Env}{aN:Option Nat}{D:List (Nat ⊕ (AV×List AV))}{n N:Nat}{F:List (Nat×AV)}{z:Nat->AV}{J:ae}{Q:ec}{fB:List (Nat×List AV)}{bz:List Nat}
theorem sv(fB:List (Nat×List AV))(bz:List Nat)(N:Nat){ops:List a3}(ed:Nat.beq ops.length N=true)(an:swapT ops=true)(h:ch (.dz N (pT fB bz)) env aN D n ops (bx F z) J Q):bR env aN D n (.draw ops) (bx F z) J Q:=by
 obtain rfl:=fX ed;exact ak.Ns an (ev.ER (n5:=pT fB bz) (λp au=>by simp at au) h)
theorem Qo(HB:gf J fB){d:Nat}{aa:Option Nat}{x:aI}{g:Option (Nat×Bool)}{wn:List Nat}{ops:List a3}{id off:Nat}{c:List AV}{v:AV}(hm:(id,c)∈fB)(lh:cP (wv bz) wn=true)(hd:Nat.blt d n=true)(hw:wtL g n F=true)(h1:db env n F z x=some (.p (some (id,off))))(h2:dU aa (c.drop off)=some v)(av:AV.eqb env.bt v v=true)
  (h:ch (.dz N (pT fB bz)) env aN D n ops (bx ((d,v)::F) z) J Q):ch (.dz N (pT fB bz)) env aN D n (⟨some d,.load aa x,g,wn⟩::ops) (bx F z) J Q:=
 A7 (HB.get _ hm) hd hw h1 h2 av (ev.ER (cV:=wn.map (λq=>(q,id,c))++pT fB bz) (λp au=>by
  rcases eP.1 au with au|au
  ·obtain⟨q,aX,rfl⟩:=dx.1 au;exact Qn (p:=(id,c)) (Az (lg lh q aX)) hm
  ·exact au) h)
theorem o0{d:Nat}{aa:Option Nat}{x:aI}{g:Option (Nat×Bool)}{wn:List Nat}{ops:List a3}{id off:Nat}{c:List AV}{v:AV}(an:J.get id=some (.cells c))(hm:(id,c)∈fB)(lh:cP (wv bz) wn=true)(hd:Nat.blt d n=true)(hw:wtL g n F=true)(h1:db env n F z x=some (.p (some (id,off))))(h2:dU aa (c.drop off)=some v)(av:AV.eqb env.bt v v=true)
  (h:ch (.dz N (pT fB bz)) env aN D n ops (bx ((d,v)::F) z) J Q):ch (.dz N (pT fB bz)) env aN D n (⟨some d,.load aa x,g,wn⟩::ops) (bx F z) J Q:=
 A7 an hd hw h1 h2 av (ev.ER (cV:=wn.map (λq=>(q,id,c))++pT fB bz) (λp au=>by
  rcases eP.1 au with au|au
  ·obtain⟨q,aX,rfl⟩:=dx.1 au;exact Qn (p:=(id,c)) (Az (lg lh q aX)) hm
  ·exact au) h)
theorem c0x{Qp:List (Nat×List AV)}(HB:gf J Qp)(eZ:∀x∈Qp,x∈fB){d:Nat}{aa:Option Nat}{x:aI}{g:Option (Nat×Bool)}{wn:List Nat}{ops:List a3}{p v:AV}(au:Ptr Qp aa p v)(lh:cP (wv bz) wn=true)(jU:cP (λq=>Nat.ble N (q+ops.length)&&Nat.ble q N) wn=true)(hd:Nat.blt d n=true)(hw:wtL g n F=true)(h1:db env n F z x=some p)(av:AV.eqb env.bt v v=true)
  (h:ch (.dz N (pT fB bz)) env aN D n ops (bx ((d,v)::F) z) J Q):ch (.dz N (pT fB bz)) env aN D n (⟨some d,.load aa x,g,wn⟩::ops) (bx F z) J Q:=by
 rcases au with⟨o,rfl,ab⟩|⟨id,off,c,rfl,h3,aQ⟩
 ·exact rZ jU hd hw (λs=>n4 _ _ h1 (by show(if conf aa v then some v else none)=_;rw[if_pos ab])) av h
 ·exact o0 (HB.get _ h3) (eZ _ h3) lh hd hw h1 aQ av h
theorem Qq(cV:lP)(N:Nat){ops:List a3}(ed:Nat.beq ops.length N=true)(an:swapT ops=true)(h:ch (.dz N cV) env aN D n ops (bx F z) J Q):bR env aN D n (.draw ops) (bx F z) J Q:=by
 obtain rfl:=fX ed;exact ak.Ns an (ev.ER (n5:=cV) (λp au=>by simp at au) h)
theorem qI{cV:lP}{d:Nat}{aa:Option Nat}{x:aI}{g:Option (Nat×Bool)}{wn:List Nat}{ops:List a3}{id off:Nat}{c:List AV}{v:AV}(an:J.get id=some (.cells c))(hm:∀q∈wn,(q,id,c)∈cV)(hd:Nat.blt d n=true)(hw:wtL g n F=true)(h1:db env n F z x=some (.p (some (id,off))))(h2:dU aa (c.drop off)=some v)(av:AV.eqb env.bt v v=true)
  (h:ch (.dz N cV) env aN D n ops (bx ((d,v)::F) z) J Q):ch (.dz N cV) env aN D n (⟨some d,.load aa x,g,wn⟩::ops) (bx F z) J Q:=
 A7 an hd hw h1 h2 av (ev.ER (cV:=wn.map (λq=>(q,id,c))++cV) (λp au=>by
  rcases eP.1 au with au|au
  ·obtain⟨q,aX,rfl⟩:=dx.1 au;exact hm q aX
  ·exact au) h)
theorem JM{cV n5:lP}(k:Nat){ops:List a3}(ay:Nat.beq (k+ops.length) N=true)(hh:∀p∈cV,(p.1=k/\J.get p.2.1=some (.cells p.2.2))\/p∈n5)(h:ch (.dz N n5) env aN D n ops (bx F z) J Q):ch (.dz N cV) env aN D n ops (bx F z) J Q:=λad bC=>by
 obtain⟨fy,bc,b6,ag,bQ,cm,bL⟩:=h ad bC;refine⟨fy,bc,b6,ag,bQ,cm,λF b4=>?_⟩;obtain⟨fe,wn,⟨t,a2,bm⟩,cx,ep,eW⟩:=bL F b4;refine⟨fe,wn,⟨t,a2,bm⟩,cx,λp au=>?_,eW⟩;rcases hh p au with⟨e,h⟩|h
 ·exact⟨0,J,by rw[e,fX ay];rfl,by rw[a2];rfl,h⟩
 ·exact ep p h
theorem Qr(HB:gf J fB){cf:lj}{d:Nat}{aa:Option Nat}{x:aI}{g:Option (Nat×Bool)}{ops:List a3}{p v:AV}(au:Ptr fB aa p v)(hd:Nat.blt d n=true)(hw:wtL g n F=true)(h1:db env n F z x=some p)(h:ch cf env aN D n ops (bx ((d,v)::F) z) J Q):ch cf env aN D n (⟨some d,.load aa x,g,[]⟩::ops) (bx F z) J Q:=by
 rcases au with⟨o,rfl,ab⟩|⟨id,off,c,rfl,h3,aQ⟩
 ·exact Hp hd hw h1 ab h
 ·exact oU (HB.get _ h3) hd hw h1 aQ h
theorem km{k:Nat}{ops:List a3}(HB:gf J fB)(ay:Nat.beq (k+ops.length) N=true)(h:ch (.dz N (pT fB bz)) env aN D n ops (bx F z) J Q):ch (.dz N (pT fB (k::bz))) env aN D n ops (bx F z) J Q:=λad bC=>by
 obtain⟨fy,bc,b6,ag,bQ,cm,bL⟩:=h ad bC;refine⟨fy,bc,b6,ag,bQ,cm,λF b4=>?_⟩;obtain⟨fe,wn,⟨t,a2,bm⟩,cx,ep,eW⟩:=bL F b4;refine⟨fe,wn,⟨t,a2,bm⟩,cx,λp au=>?_,eW⟩;obtain⟨eR,Gg,au⟩:=zu.1 au;obtain⟨q,aX,rfl⟩:=dx.1 au;rcases dF.1 Gg with rfl|Gg
 ·exact⟨0,J,fX ay,by rw[a2];rfl,HB.get _ aX⟩
 ·exact ep _ (Qn Gg aX)
end
end W
theorem e9{P R:Prop}(k:R)(h:Hid R->P:=by
 intro k
 repeat (first
  |refine W.go I I I I ?_
  |refine W.off I I ?_
  |(refine W.HP ?_;first|refine W.lt I I I I ?_|refine W.lt I I I I0 ?_|(refine W.az (c:=?_) (v:=?_) H I I I ?_ ?_ ?_;rotate_left 2;(repeat (first|exact .head _|refine .tail _ ?_));exact rfl)|refine W.le I I I (lo.az (by assumption) (by omega)) ?_|refine W.le I I I (hU.az (by assumption) (by omega)) ?_)
  |(refine W.HQ ?_;first|refine W.DJ I I I I (by simp only[W.cmpP,gp,g6];first|done|omega|exact id|exact λh=>h trivial) ?_|refine W.eT I I I I I (by simp only[W.cmpP,gp,g6];first|done|omega|exact id|exact λh=>h trivial) ?_|refine W.bin I I I I (I1 (by omega)) ?_|refine W.bin I I I I (I2 (by omega) (by omega)) ?_|refine W.bin I I I I (pI (by omega)) ?_|refine W.bin I I I I (rV (by omega) (by omega)) ?_)
  |(refine W.HR ?_;first|refine W.eG I I I I (IY (by omega)) ?_|refine W.eG I I I I (Av (by omega)) ?_|refine W.eG I I I I (lo.eG (by assumption) (by omega)) ?_|refine W.eG I I I I (hU.eG (by assumption) (by omega)) ?_)
  |(refine W.HS ?_;first|refine W.len I I I IZ ?_|refine W.len I I I Hr ?_|refine W.len I I I (lo.len (by assumption) _) ?_|refine W.len I I I (hU.len (by assumption) _) ?_|refine W.len I I I I ?_)
  |(refine W.Nu ?_;first|(refine W.Qo (c:=?_) (v:=?_) HB ?_ I I I I ?_ ?_ ?_;rotate_left 2;(repeat (first|exact .head _|refine .tail _ ?_));exact rfl;first|exact e1 rfl|exact HU I))
  |refine W.AE ?_)
 exact k.out):P:=h ⟨k⟩
theorem j5{P R:Prop}(k:R)(h:Hid R->P:=by
 intro k
 repeat (first
  |refine W.go I I I I ?_
  |refine W.off I I ?_
  |(refine W.HP ?_;first|refine W.lt I I I I ?_|refine W.lt I I I I0 ?_|(refine W.az (c:=?_) (v:=?_) H I I I ?_ ?_ ?_;rotate_left 2;(repeat (first|exact .head _|refine .tail _ ?_));exact rfl)|refine W.le I I I (lo.az (by assumption) (by omega)) ?_|refine W.le I I I (hU.az (by assumption) (by omega)) ?_)
  |(refine W.HQ ?_;first|refine W.DJ I I I I (by simp only[W.cmpP,gp,g6];first|done|omega|exact id|exact λh=>h trivial) ?_|refine W.eT I I I I I (by simp only[W.cmpP,gp,g6];first|done|omega|exact id|exact λh=>h trivial) ?_|refine W.bin I I I I (I1 (by omega)) ?_|refine W.bin I I I I (I2 (by omega) (by omega)) ?_|refine W.bin I I I I (pI (by omega)) ?_|refine W.bin I I I I (rV (by omega) (by omega)) ?_)
  |(refine W.HR ?_;first|refine W.eG I I I I (IY (by omega)) ?_|refine W.eG I I I I (Av (by omega)) ?_|refine W.eG I I I I (lo.eG (by assumption) (by omega)) ?_|refine W.eG I I I I (hU.eG (by assumption) (by omega)) ?_)
  |(refine W.HS ?_;first|refine W.len I I I IZ ?_|refine W.len I I I Hr ?_|refine W.len I I I (lo.len (by assumption) _) ?_|refine W.len I I I (hU.len (by assumption) _) ?_|refine W.len I I I I ?_)
  |refine W.sq ?_|refine W.rg ?_|refine W.DI ?_|refine ak.block (a:=.seq _ _) ?_|refine ak.block (a:=.region _) ?_|refine ak.block (a:=.draw _) ?_|refine ak.block (a:=.cond _ _ _) ?_
  |refine W.nil ?_
  |refine W.mL I ?_|refine W.mM I ?_)
 exact k.out):P:=h ⟨k⟩
end Go.Lyc
end
noncomputable section
namespace Go.Lyc
set_option maxHeartbeats 0
variable [Tok][TokOk]
open Go.RowKit Go.Lyc.T
attribute [local irreducible] ch bR dC ev bH
def pU:PF:=.gd false
def sw:PF:=.gd true
def JN:List PF:=[pU,sw,.bin 2 pU sw,.bin 1 pU sw,.neg pU,.bin 0 pU sw,.cQ,.bin 2 sw pU]
def ff(n:Nat):PF:=JN.getD (n%8) .cQ
abbrev j6:List AV:=[.i .u8 1,.s [80],.af,.af]
abbrev lz:List AV:=[.i .u8 1,.s [81],.af,.af]
section
variable {b:b5}{K:Nat->List AV->AV->Prop}
theorem JO(hh:bq (b.aV K) D0 NW)(aC:bq (b.aV K) va D1)(ha:bq (b.aV K) AX Is)(n:Nat)(hn:n<2^62){J:ae}:
  bH (b.aV K) 0 (.f (.func D0) [] []) [ai n] J (λr τ=>∃w,r= .ok (.ah [.i .u8 (Int.ofNat (ff n).op),.s (ff n).b7,.af,w])/\eU (λi=>J.next<=i) τ (ff n) (.ah [.i .u8 (Int.ofNat (ff n).op),.s (ff n).b7,.af,w])/\ee J τ):=by
 have q7:AB (b.aV K) va:=(show uZ (b.aV K) [va] from λg hg=>by rw[cu.1 hg];exact⟨aC.e,.inr ⟨aC.p,_,_,aC.f,rfl,rfl⟩⟩).one I;refine W.oa hh.e hh.p hh.f I I I λz=>?_;have H:Has J []:=Has.nil;refine aj ?_;generalize aX:J.next=q;refine W.cB (c:=[.i .u8 0,.s [],.af,.af]) H aX I I I λτ c_ H bG=>?_;refine aj ?_;refine W.aq trivial I I I (a0o ha) λr bl ⟨ar,M2⟩=>⟨_,ar,?_⟩
 have H:=H.aS M2.2;have qF:=M2.1;refine aj ?_;refine W.aq trivial I I I (a0o ha) λr bZ ⟨ar,e2⟩=>⟨_,ar,?_⟩
 have H:=H.aS e2.2;have td:=e2.1;generalize a0v:bZ.next=ml at *;refine W.cB (c:=[.i .u8 0,.s [],.af,.af]) H a0v I I I λcG fF H b9=>?_;refine aj ?_;refine W.cB (c:=[.i .u8 0,.s [],.af,.af]) H fF I I I λdq iU H c9=>?_;refine W.st (bX:=j6) H 1 I I I I I I λeA jC H eu=>?_;refine W.st (bX:=lz) H 0 I I I I I I λe6 l_ H gX=>?_;have c0y:∀i o,J.get i=some o->e6.get i=some o:=λi o h=>gX _ _ (by have:=ae.bE h;omega) (eu _ _ (by have:=ae.bE h;omega) (c9 _ _ (b9 _ _ (e2.2 _ _ (M2.2 _ _ (bG _ _ h))))));refine W.nil ?_;refine W.sq ?_;have hp:e6.next=ml+2:=by omega
 have c0z:=H.get (ml,j6) aG;have c0A:=H.get (ml+1,lz) aG;have HB:gf e6 [(ml,j6),(ml+1,lz)]:=(gf.nil.cons c0A).cons c0z;refine W.sv [(ml,j6),(ml+1,lz)] [18,19,20,21,22,23,27] 28 I I ?_;refine e9 ?_;refine W.bI (c:=j6++lz) H I I I I λfI tb H nu=>?_;have HB:=HB.aS nu;refine e9 ?_;refine W.bI (c:=j6++lz) H I I I I λj1 qC H kf=>?_;have HB:=HB.aS kf;refine e9 ?_;refine W.bI (c:=j6) H I I I I λg7 q1 H cE=>?_;have HB:=HB.aS cE;refine e9 ?_;refine W.bI (c:=j6++lz) H I I I I λja po H iJ=>?_;have HB:=HB.aS iJ;refine e9 ?_;refine W.bI (c:=lz++j6) H I I I I λlq s0 H nN=>?_;have HB:=HB.aS nN;refine e9 ?_;refine W.bin I I I I (uY (c:=8) ca) ?_;refine W.km HB I ?_;refine W.aq q7 I I I (q_ (op:=6) aC I I) λr sh ⟨ar,lj⟩=>⟨_,ar,?_⟩
 have H:=H.aS lj.2;have HB:=HB.aS lj.2;have cf:=lj.1;refine W.km HB I ?_;refine W.aq q7 I I I (q_ (op:=5) aC I I) λr si ⟨ar,JP⟩=>⟨_,ar,?_⟩
 have H:=H.aS JP.2;have HB:=HB.aS JP.2;have c7V:=JP.1;refine W.km HB I ?_;refine W.aq q7 I I I (q_ (op:=3) aC I I) λr Ep ⟨ar,JQ⟩=>⟨_,ar,?_⟩
 have H:=H.aS JQ.2;have HB:=HB.aS JQ.2;have c7W:=JQ.1;refine W.km HB I ?_;refine W.aq q7 I I I (q_ (op:=4) aC I I) λr Pc ⟨ar,JR⟩=>⟨_,ar,?_⟩
 have H:=H.aS JR.2;have HB:=HB.aS JR.2;have c7X:=JR.1;refine W.km HB I ?_;refine W.aq q7 I I I (q_ (op:=2) aC I I) λr c7Y ⟨ar,JS⟩=>⟨_,ar,?_⟩
 have H:=H.aS JS.2;have HB:=HB.aS JS.2;have c7Z:=JS.1;refine W.km HB I ?_;refine W.aq q7 I I I (q_ (op:=6) aC I I) λr a0E ⟨ar,JT⟩=>⟨_,ar,?_⟩
 have H:=H.aS JT.2;have HB:=HB.aS JT.2;have gu:=JT.1
 let xs:List AV:=[.ah j6,.ah lz,.ah [.i .u8 6,.s [],.af,.ao e6.next 0 2 (some 4) (some 2)],.ah [.i .u8 5,.s [],.af,.ao fI.next 0 2 (some 4) (some 2)],.ah [.i .u8 3,.s [],.af,.ao j1.next 0 1 (some 4) (some 1)],.ah [.i .u8 4,.s [],.af,.ao g7.next 0 2 (some 4) (some 2)],.ah [.i .u8 2,.s [],.af,.af],.ah [.i .u8 6,.s [],.af,.ao ja.next 0 2 (some 4) (some 2)]]
 refine W.bI (c:=xs.flatMap AV.cells) H I I I I λBC c8a H a0F=>?_;have HB:=HB.aS a0F;have dH:Sl BC (some 4) (.ao a0E.next 0 8 (some 4) (some 8)) xs:=.ao a0E.next (some 8) xs [] (by rw[iG];exact H.get _ (.head _)) (λy hy=>by
  simp only[xs,dF,gT,or_false] at hy;rcases hy with rfl|rfl|rfl|rfl|rfl|rfl|rfl|rfl<;>rfl) (.inr I)
 have BD:n%8<8:=vu _ ca;obtain⟨o,iS,rE,fE,q4,gx,qJ,jq⟩:=dH.gd (j:=n%8) (by show n%8<8;exact BD);refine W.eG I I I I q4 ?_;refine W.oU gx I I I jq ?_;refine W.km HB I ?_;have hR:∃w,xs[n%8]'(by show n%8<8;exact BD)= .ah [.i .u8 (Int.ofNat (ff n).op),.s (ff n).b7,.af,w]/\∀jc:ae,(∀i o,q<i->BC.get i=some o->jc.get i=some o)->eU (λi=>q<=i) jc (ff n) (.ah [.i .u8 (Int.ofNat (ff n).op),.s (ff n).b7,.af,w]):=by
  have gU:=H.get (e6.next,j6++lz) aG;have hs:=H.get (fI.next,j6++lz) aG;have kU:=H.get (j1.next,j6) aG;have c0B:=H.get (g7.next,j6++lz) aG;have c0C:=H.get (ja.next,lz++j6) aG;have BE:∀jc:ae,eU (λi=>q<=i) jc pU (.ah j6):=λjc=>.mk pU .af [] I .nil λi h=>by simp at h
  have ES:∀jc:ae,eU (λi=>q<=i) jc sw (.ah lz):=λjc=>.mk sw .af [] I .nil λi h=>by simp at h
  have two:∀(a c:PF) (BF BG:List AV),(∀y,y=AV.ah BF\/y=AV.ah BG->conf (some 4) y=true)->∀(k:Fin 3) (id:Nat),q<id->BC.get id=some (.cells (BF++BG))->(∀jc,eU (λi=>q<=i) jc a (.ah BF))->(∀jc,eU (λi=>q<=i) jc c (.ah BG))->∀jc:ae,(∀i o,q<i->BC.get i=some o->jc.get i=some o)->eU (λi=>q<=i) jc (.bin k a c) (.ah [.i .u8 (Int.ofNat (PF.bin k a c).op),.s (PF.bin k a c).b7,.af,.ao id 0 2 (some 4) (some 2)]):=λa c BF BG ab k id h1 h2 h3 aQ jc ay=>
   .mk (.bin k a c) _ [.ah BF,.ah BG] I (.ao id (some 2) [.ah BF,.ah BG] [] (show q<=id by omega) (ay _ _ h1 (by rw[h2];simp[AV.cells])) (λy hy=>ab y (by simpa using hy)) (.inr I) aG) λi h h'=>by
    match i,h with
    |0,_=>exact h3 jc
    |1,_=>exact aQ jc
  have Qs:∀y,y=AV.ah j6\/y=AV.ah lz->conf (some 4) y=true:=λy hy=>by rcases hy with rfl|rfl<;>rfl
  have c0D:∀y,y=AV.ah lz\/y=AV.ah j6->conf (some 4) y=true:=λy hy=>by rcases hy with rfl|rfl<;>rfl
  unfold ff;generalize n%8=j at BD
  match j,BD with
  |0,_=>exact⟨_,rfl,λjc _=>BE jc⟩
  |1,_=>exact⟨_,rfl,λjc _=>ES jc⟩
  |2,_=>exact⟨_,rfl,two pU sw j6 lz Qs 2 _ U gU BE ES⟩
  |3,_=>exact⟨_,rfl,two pU sw j6 lz Qs 1 _ U hs BE ES⟩
  |4,_=>exact⟨_,rfl,λjc ay=>.mk (.neg pU) _ [.ah j6] I (.ao _ (some 1) [.ah j6] [] (show q<=j1.next by omega) (ay _ _ U kU) (λy hy=>by rw[cu.1 hy];rfl) (.inr I) aG) λi h h'=>by
    match i,h with
    |0,_=>exact BE jc⟩
  |5,_=>exact⟨_,rfl,two pU sw j6 lz Qs 0 _ U c0B BE ES⟩
  |6,_=>exact⟨_,rfl,λjc _=>.mk .cQ .af [] I .nil λi h=>by simp at h⟩
  |7,_=>exact⟨_,rfl,two sw pU lz j6 c0D 2 _ U c0C ES BE⟩
 obtain⟨w,hw,b4⟩:=hR;rw[hw];have c0E:=H.get (q,[.i .u8 0,.s [],.af,.af]) aG;have c0F:Has BC [(q,[.i .u8 0,.s [],.af,.af])]:=Has.nil.cons c0E aG;have ET:=b4 BC λ_ _ _ h=>h;have mF:w.cells=[w]/\w.val=true:=by
  cases ET with
  |mk _ w xs h1 h2 h3=>exact⟨h2.one.1,h2.one.2.1⟩
 refine W.st (bX:=[.i .u8 (Int.ofNat (ff n).op),.s (ff n).b7,.af,w]) c0F 0 I I I I I I λjc c8b H c6=>?_;refine aj ?_;refine ak.ret ⟨rfl,_,vl (gW I (H.get _ (.head _)) (v:=.ah [.i .u8 (Int.ofNat (ff n).op),.s (ff n).b7,.af,w]) ?_),w,rfl,b4 jc λi o hi h=>c6 _ _ U h,U,λi o h=>?_⟩
 ·rfl
 ·have hi:=ae.bE h;exact c6 _ _ U (a0F _ _ (JT.2 _ _ (JS.2 _ _ (JR.2 _ _ (JQ.2 _ _ (JP.2 _ _ (lj.2 _ _ (nN _ _ (iJ _ _ (cE _ _ (kf _ _ (nu _ _ (c0y _ _ h)))))))))))))
end
end Go.Lyc
end
noncomputable section
namespace Go.Lyc
set_option maxHeartbeats 0
variable [Tok][TokOk]
open Go.RowKit Go.Lyc.T
def EU:List Nat:=[97,110,100,73]
def EV:List Nat:=[111,114,73,49]
def jt(q:Bool):List Nat:=[97,110,100,69,cond q 50 49]
def w9:List Nat:=[105,109,112,69]
def w_:List Nat:=[110,111,116,69]
def a0G:List Nat:=[97,103,97,105,110]
def EW:List Nat:=[102,97,108,115,101,69]
def nz(L:List aD)(a:Nat)(f:PF):Prop:=∃x,L[a-1]? =some x/\x.f=f
inductive pV(L:List aD)(C:Nat->Prop):PF->List Nat->List Nat->Prop
 |and {a c f g}:C a->C c->nz L a f->nz L c g->f.bS+g.bS<40->pV L C (.bin 0 f g) EU [a,c]
 |or {a f} (n):C a->nz L a f->f.bS<40->pV L C (.bin 1 f (ff n)) EV [a]
 |jt {a f g} (q:Bool):C a->nz L a (.bin 0 f g)->pV L C (cond q g f) (jt q) [a]
 |imp {a c f g}:C a->C c->nz L a (.bin 2 f g)->nz L c f->pV L C g w9 [a,c]
 |not {a c f}:C a->C c->nz L a f->nz L c (.neg f)->pV L C .cQ w_ [a,c]
 |again {a f}:C a->nz L a f->pV L C f a0G [a]
 |y6 {a} (n):C a->nz L a .cQ->pV L C (ff n) EW [a]
def vx(n:Nat):aD:=⟨0,0,true,ff n,[],[]⟩
inductive pW(L:List aD):List (List Nat)->List Nat->aD->List (List Nat)->List Nat->Prop
 |vx (f:List Nat) (n:Nat):(∀x∈L,x.hyp=true/\x.bs=0)->pW L [f] [0] (vx n) [f++[L.length+1]] [0]
 |tT (ad:List (List Nat)) (ax:List Nat) (n:Nat):L≠[]->ad.length<5->pW L ad ax ⟨ad.length,1,true,ff n,[],[]⟩ (ad++[[L.length+1]]) (ax++[L.length+1])
 |lv (F:List (List Nat)) (f:List Nat) (ax:List Nat) {g:PF} {gF l:List Nat}:L≠[]->pV L (λc=>∃k∈F++[f],c∈k) g gF l->pW L (F++[f]) ax ⟨F.length,0,false,g,gF,l.map λn=>(n,n)⟩ (F++[f++[L.length+1]]) ax
 |shut (F:List (List Nat)) (e f:List Nat) (ax:List Nat) (first:Nat) {x y:aD}:L[first-1]? =some x->L[L.length-1]? =some y->pW L (F++[e,f]) (ax++[first]) {nx x.f y.f first L.length with bs:=F.length} (F++[e++[L.length+1]]) ax
inductive Rd:List aD->List (List Nat)->List Nat->Prop
 |nil:Rd [] [[]] [0]
 |step {L ad ax x bc dX}:Rd L ad ax->pW L ad ax x bc dX->Rd (L++[x]) bc dX
theorem c0G(n:Nat):ff n∈JN:=by
 unfold ff;have h:n%8<JN.length:=vu _ ca;rw[fO,cK h];exact bJ h
theorem xa(n:Nat):(ff n).dep<=2/\(ff n).bS<=3:=by
 have h:∀f∈JN,f.dep<=2/\f.bS<=3:=by decide
 exact h _ (c0G n)
structure xb(L:List aD)(ad:List (List Nat))(ax:List Nat):Prop where
 len:ax.length=ad.length
 ne:0<ad.length
 le:ad.length<=5
 mem:∀f∈ad,∀c∈f,1<=c/\c<=L.length
 sum:(ad.map List.length).sum<=L.length
 last:L≠[]->(∃F f,ad=F++[f]/\L.length∈f)/\∀y,L[L.length-1]? =some y->y.bs=ad.length-1
 EX:L≠[]->∀f∈ad,f≠[]
 dep:∀x∈L,x.f.dep<=2+L.length
 bS:∀x∈L,x.f.bS<=44+4*L.length
 fst:∀k first,1<=k->ax[k]? =some first->1<=first/\∃n,L[first-1]? =some ⟨k,1,true,ff n,[],[]⟩
theorem a0H{α:Type}{L:List α}{x y:α}{i:Nat}(h:L[i]? =some y):(L++[x])[i]? =some y:=by
 obtain⟨h1,h2⟩:=fC.1 h;rw[kD h1];exact h
theorem a0I{α:Type}{L:List α}{x:α}:(L++[x])[L.length+1-1]? =some x:=by simp
theorem nz.mem{L:List aD}{a:Nat}{f:PF}(h:nz L a f):∃x∈L,x.f=f:=by
 obtain⟨x,h1,h2⟩:=h;exact⟨x,hH h1,h2⟩
theorem pV.le{L:List aD}{C:Nat->Prop}{g:PF}{gF l:List Nat}(h:pV L C g gF l)(hd:∀x∈L,x.f.dep<=2+L.length)(an:∀x∈L,x.f.bS<=44+4*L.length):g.dep<=3+L.length/\g.bS<=44+4*L.length:=by
 have b4:∀ {a f},nz L a f->f.dep<=2+L.length/\f.bS<=44+4*L.length:=λh=>by
  obtain⟨x,h1,rfl⟩:=h.mem;exact⟨hd x h1,an x h1⟩
 cases h with
 |and _ _ h1 h2 h3=>
  have:=b4 h1;have:=b4 h2;exact⟨by show max _ _+1<=_;omega,by show _+_+1<=_;omega⟩
 |or n _ h1 h3=>
  have:=b4 h1;have:=xa n;exact⟨by show max _ _+1<=_;omega,by show _+_+1<=_;omega⟩
 |jt q _ h1=>
  have h:=b4 h1;have h2:max _ _+1<=_:=h.1;have h3:_+_+1<=_:=h.2;cases q
  ·exact⟨by show PF.dep _<=_;simp only[cond_false];omega,by simp only[cond_false];omega⟩
  ·exact⟨by simp only[cond_true];omega,by simp only[cond_true];omega⟩
 |imp _ _ h1 _=>
  have h:=b4 h1;have h2:max _ _+1<=_:=h.1;have h3:_+_+1<=_:=h.2;exact⟨U,U⟩
 |not=>exact⟨by show 1<=_;omega,by show 1<=_;omega⟩
 |again _ h1=>have:=b4 h1;exact⟨U,U⟩
 |y6 n _ _=>have:=xa n;exact⟨U,U⟩
theorem BH(a c:PF)(first last k:Nat):({nx a c first last with bs:=k}:aD)=cond (decide (c= .cQ)) ⟨k,0,false,.neg a,w7,[(first,last)]⟩ ⟨k,0,false,.bin 2 a c,ly,[(first,last)]⟩:=by
 unfold nx;by_cases h:c= .cQ
 ·rw[if_pos h,decide_eq_true h];rfl
 ·rw[if_neg h,decide_eq_false h];rfl
theorem pW.inv{L:List aD}{ad bc:List (List Nat)}{ax dX:List Nat}{x:aD}(a0:xb L ad ax)(h:pW L ad ax x bc dX):xb (L++[x]) bc dX:=by
 have hlen:(L++[x]).length=L.length+1:=by simp
 have JU:∀k first,1<=k->ax[k]? =some first->1<=first/\∃n,(L++[x])[first-1]? =some ⟨k,1,true,ff n,[],[]⟩:=λk first h1 h2=>by
  obtain⟨a2,n,bm⟩:=a0.fst k first h1 h2
  exact⟨a2,n,a0H bm⟩
 have hall:∀(P:aD->Prop),(∀y∈L,P y)->P x->∀y∈L++[x],P y:=λP h1 h2 y hy=>by
  rcases eP.1 hy with h|h
  ·exact h1 y h
  ·rw[cu.1 h];exact h2
 have hd:x.f.dep<=3+L.length->∀y∈L++[x],y.f.dep<=2+(L++[x]).length:=λh=>hall _ (λy hy=>by have:=a0.dep y hy;omega) U;have an:x.f.bS<=48+4*L.length->∀y∈L++[x],y.f.bS<=44+4*(L++[x]).length:=λh=>hall _ (λy hy=>by have:=a0.bS y hy;omega) U;have tU:∀(F:List (List Nat)) (f:List Nat),x.bs=F.length->L++[x]≠[]->(∃c0H b6,F++[f++[L.length+1]]=c0H++[b6]/\(L++[x]).length∈b6)/\∀y,(L++[x])[(L++[x]).length-1]? =some y->y.bs=(F++[f++[L.length+1]]).length-1:=λF f hx _=>⟨⟨F,_,rfl,by rw[hlen];simp⟩,λy hy=>by
  rw[hlen,a0I] at hy;cases hy;rw[hx];simp⟩
 have jx:∀(G:List (List Nat)) (f:List Nat),(∀k∈G,k∈ad)->(f=[]\/f∈ad)->∀k∈G++[f++[L.length+1]],∀c∈k,1<=c/\c<=(L++[x]).length:=λG f h1 h2 k ay c ab=>by
  rcases eP.1 ay with ay|ay
  ·have:=a0.mem k (h1 k ay) c ab;omega
  ·rw[cu.1 ay] at ab;rcases eP.1 ab with ab|ab
   ·rcases h2 with rfl|h2
    ·simp at ab
    ·have:=a0.mem f h2 c ab;omega
   ·rw[cu.1 ab];omega
 have BI:=a0.sum;cases h with
 |vx f n h=>
  have au:=xa n;exact⟨rfl,aG,aG,jx [] f (λk ay=>by simp at ay) (.inr aG),by simp at BI ⊢;omega,tU [] f I,λ_=>by simp,hd (by show(ff n).dep<=_;omega),an (by show(ff n).bS<=_;omega),JU⟩
 |tT _ _ n a5 bF=>
  have au:=xa n;refine⟨by simp[a0.len],aG,by simp;omega,jx ad [] (λ_ h=>h) (.inl I),by simp at BI ⊢;omega,tU ad [] I,λ_ k ay=>by
   rcases eP.1 ay with ay|ay
   ·exact a0.EX a5 k ay
   ·rw[cu.1 ay];simp,hd (by show(ff n).dep<=_;omega),an (by show(ff n).bS<=_;omega),λk first h1 h2=>?_⟩
  by_cases ay:k<ax.length
  ·rw[kD ay] at h2;exact JU k first h1 h2
  ·rw[A5 U] at h2;have e:k-ax.length=0:=by
    rcases a0j (k-ax.length) with h|h
    ·exact h
    ·rw[s6 (by simp;omega)] at h2;cases h2
   rw[e] at h2;cases h2;have a6:k=ad.length:=by have:=a0.len;omega
   exact⟨U,n,by rw[a0I,a6]⟩
 |lv F f _ a5 ab=>
  obtain⟨h1,h2⟩:=ab.le a0.dep a0.bS;exact⟨by have:=a0.len;simpa using this,aG,by have:=a0.le;simpa using this,jx F f (λk ay=>by simp[ay]) (.inr aG),by simp at BI ⊢;omega,tU F f I,λ_ k ay=>by
   rcases eP.1 ay with ay|ay
   ·exact a0.EX a5 k (by simp[ay])
   ·rw[cu.1 ay];simp,hd h1,an (by show PF.bS _<=_;exact o_ h2 U),JU⟩
 |shut F e f ax first hx hy=>
  rename_i eX ej;have hl:=a0.len;simp only[c4,gp,g6] at hl;obtain⟨f1,n,f2⟩:=a0.fst dX.length first U aG
  rw[hx] at f2;cases f2;have au:=xa n;have c8c:=a0.dep _ (hH hy);have hy2:=a0.bS _ (hH hy);have a0J:({nx (ff n) ej.f first L.length with bs:=F.length}:aD).f.dep<=3+L.length/\({nx (ff n) ej.f first L.length with bs:=F.length}:aD).f.bS<=48+4*L.length:=by
   rw[BH];cases decide (ej.f= .cQ)
   ·exact⟨by show max _ _+1<=_;omega,by show _+_+1<=_;omega⟩
   ·exact⟨by show _+1<=_;omega,by show _+1<=_;omega⟩
  refine⟨by simp;omega,aG,by have:=a0.le;simp at this ⊢;omega,jx F e (λk ay=>by simp[ay]) (.inr aG),by simp at BI ⊢;omega,tU F e I,λ_ k ay=>by
   rcases eP.1 ay with ay|ay
   ·exact a0.EX (λe=>by subst e;simp at hx) k (by simp[ay])
   ·rw[cu.1 ay];simp,hd a0J.1,an a0J.2,λk BJ h1 h2=>JU k BJ h1 ?_⟩
  exact a0H h2
theorem Rd.inv{L:List aD}{ad:List (List Nat)}{ax:List Nat}(h:Rd L ad ax):xb L ad ax:=by
 induction h with
 |nil=>exact⟨rfl,aG,aG,λf hf c ab=>by simp at hf;subst hf;simp at ab,aG,λh=>absurd I h,λh=>absurd I h,λx hx=>by simp at hx,λx hx=>by simp at hx,λk first h1 h2=>by
   rw[s6 (by simp;omega)] at h2;cases h2⟩
 |step _ h aH=>exact h.inv aH
end Go.Lyc
end
noncomputable section
namespace Go.Lyc
set_option maxHeartbeats 0
variable [Tok][TokOk]
open Go.RowKit Go.Lyc.T
attribute [local irreducible] ch bR dC ev bH
theorem j3.y7{W W':Nat->Prop}{J τ:ae}(k:∀i c,W i->2<=c.length->J.get i=some (.cells c)->W' i/\τ.get i=some (.cells c)){n:Nat}{v:AV}{xs:List AV}(h:j3 W J (some n) v xs)(hn:2<=n):j3 W' τ (some n) v xs:=by
 cases h with
 |nil=>exact .nil
 |a_ xs ab a5=>exact .a_ xs ab a5
 |ao o cap xs rest hW h ab ay a5=>
  have h2:2<=(xs.flatMap AV.cells++rest).length:=by
   cases xs with
   |nil=>exact absurd I a5
   |cons y ba=>
    have:=ab y aG;cases y with
    |ah l=>
     have:l.length=n:=fX this;rw[lC,c4,c4];show 2<=l.length+_+_;omega
    |_=>cases this
  exact .ao o cap xs rest (k _ _ hW h2 h).1 (k _ _ hW h2 h).2 ab ay a5
theorem eU.y7{W W':Nat->Prop}{J τ:ae}(k:∀i c,W i->2<=c.length->J.get i=some (.cells c)->W' i/\τ.get i=some (.cells c)):∀(d:Nat) {a:PF} {v:AV},a.dep<=d->eU W J a v->eU W' τ a v
 |0,a,v,hd,_=>by cases a<;>simp[PF.dep] at hd
 |d+1,a,v,hd,h=>by
  cases h with
  |mk _ w xs hl hw hx=>
   refine .mk a w xs hl ?_ λi h h'=>eU.y7 k d (by have:=PF.kV (bJ h');omega) (hx i h h');exact j3.y7 k hw ca
theorem j4.y7{W W':Nat->Prop}{J τ:ae}{x:aD}{v:AV}(h:j4 W J x v)(k:∀i c,W i->2<=c.length->J.get i=some (.cells c)->W' i/\τ.get i=some (.cells c)):j4 W' τ x v:=by
 cases h with
 |mk w ft hf ab=>exact .mk w ft (hf.y7 k _ (br _)) (j3.y7 k ab ca)
theorem kl.c0I{J τ:ae}{m a:Nat}{y:AV}{bN:Nat->Prop}{L:List aD}{ad:List (List Nat)}{ax:List Nat}(h:kl J m bN L ad ax)(ha:J.get a=some (.cells [y]))(c0J:¬bN a)(hn:τ.next=J.next)(k:∀i o,i≠a->J.get i=some o->τ.get i=some o):kl τ m bN L ad ax:=by
 obtain⟨dO,dT,dY,cN,a8,hm,hl,fh,gr,hf,ef,lK,hg,hk,js,an⟩:=h.ex;have xc:∀i o,bN i->J.get i=some o->τ.get i=some o:=λi o hi=>k i o λe=>c0J (e▸hi);exact⟨λi hi=>by have:=h.lt i hi;omega,dO,dT,dY,cN,a8,xc _ _ js hm,hl.aS λi o hi=>xc i o (an.l _ hi).1,fh,λi a b=>(gr i a b).y7 λi c hi h2 ab=>⟨hi,k _ _ (λe=>by subst e;rw[ha] at ab;cases ab;simp at h2) ab⟩,hf.aS λi o hi=>xc i o (an.f _ hi).1,ef,λi a b=>(lK i a b).aS λj o aC=>xc j o (an.s i a _ aC).1,hg.aS λi o hi=>xc i o (an.g _ hi).1,hk,js,an⟩
structure kn(J:ae)(q:Nat)(cI:AV)(at_:Nat)(bN:Nat->Prop)(L:List aD)(ad:List (List Nat))(ax:List Nat)(τ:ae):Prop where
 ms:kl τ (q+3) bN L ad ax
 pX:∀i,bN i->q<=i/\i≠q/\i≠q+4/\i≠q+5
 c:τ.get q=some (.cells [cI])
 m:τ.get (q+4)=some (.cells [aT (q+3)])
 a:τ.get (q+5)=some (.cells [ai at_])
 old:∀i o,i<q->J.get i=some o->τ.get i=some o
section
variable {J τ aM:ae}{q at_:Nat}{cI:AV}{bN gA:Nat->Prop}{L tV:List aD}{ad bc:List (List Nat)}{ax dX:List Nat}
theorem kn.kW(h:kn J q cI at_ bN L ad ax τ)(M:ee τ aM):kn J q cI at_ bN L ad ax aM:=⟨h.ms.aS M,h.pX,M.2 _ _ h.c,M.2 _ _ h.m,M.2 _ _ h.a,λi o hi ho=>M.2 _ _ (h.old i o hi ho)⟩
theorem kn.EY(h:kn J q cI at_ bN L ad ax τ)(h2:kl aM (q+3) gA tV bc dX)(S:sd bN gA τ aM):kn J q cI at_ gA tV bc dX aM where
 ms:=h2
 pX i hi:=by
  rcases S.own i hi with h'|h'
  ·exact h.pX i h'
  ·have:=ae.bE h.a;omega
 c:=S.aS _ _ (λh'=>(h.pX _ h').2.1 I) h.c
 m:=S.aS _ _ (λh'=>(h.pX _ h').2.2.1 I) h.m
 a:=S.aS _ _ (λh'=>(h.pX _ h').2.2.2 I) h.a
 old i o hi ho:=S.aS _ _ (λh'=>by have:=(h.pX _ h').1;omega) (h.old i o hi ho)
variable {b:b5}{K:Nat->List AV->AV->Prop}
theorem kn.next(hh:bq (b.aV K) u_ Ir){code:List Nat}(av:∀τ,hU τ none cI (code.map uB))(hl:code.length<2^62)(hb:∀x∈code,x<256)(fE:at_<=30)(h:kn J q cI at_ bN L ad ax τ):
  bH (b.aV K) 0 (.f (.func u_) [] [aT (q+5),aT q]) [] τ (λr aM=>r= .ok (ai (oY code at_))/\kn J q cI (oZ code at_) bN L ad ax aM/\aM.next=τ.next/\∀i o,i≠q+5->τ.get i=some o->aM.get i=some o):=
 (c0u hh av hl hb fE h.a h.c U).mono λr aM ⟨e,bL,bQ,cm⟩=>⟨e,⟨h.ms.c0I h.a (λh'=>(h.pX _ h').2.2.2 I) bQ cm,h.pX,cm _ _ U h.c,cm _ _ U h.m,bL,λi o hi ho=>cm _ _ U (h.old i o hi ho)⟩,bQ,cm⟩
end
theorem a0K{code:List Nat}(hb:∀x∈code,x<256)(n:Nat):oY code n<256:=by
 unfold oY;split
 ·rw[fO];cases h:code[n]? with
  |none=>decide
  |some x=>exact hb x (hH h)
 ·decide
theorem JV{code:List Nat}{n:Nat}(h:n<=30):oZ code n<=30:=by unfold oZ;split<;>omega
theorem Sl.aF{J:ae}{aa:Option Nat}{v:AV}{xs:List AV}(h:Sl J aa v xs)(a5:0<xs.length):∃o c,v.at? =some o/\J.get o=some (.cells c)/\∀j (aC:j<xs.length),idxSlA aa v j=some (.p (some (o,j*shN aa)))/\(∃r,c.drop (j*shN aa)=(xs[j]).cells++r)/\dU aa (c.drop (j*shN aa))=some xs[j]:=by
 obtain⟨o,c,r,h1,h2,h3,aQ,bF⟩:=h.gd a5;refine⟨o,c,h1,h3,λj aC=>?_⟩;obtain⟨bU,bX,cc,bL,bQ,cm,c7,dB⟩:=h.gd aC;rw[h1] at bL;cases bL;rw[h3] at cm;cases cm;exact⟨bQ,⟨cc,c7⟩,dB⟩
structure kX(b:b5)(K:Nat->List AV->AV->Prop):Prop where
 s8:bq (b.aV K) u_ Ir
 ci:bq (b.aV K) yE NU
 li:bq (b.aV K) AY It
 xd:bq (b.aV K) yF DY
 aa:bq (b.aV K) DZ NV
 xe:bq (b.aV K) D0 NW
 pY:bq (b.aV K) va D1
 at_:bq (b.aV K) AX Is
 fn:∀g aY r cc,K g aY r->K g aY cc->r=cc
 es:b.ext tv=0/\b.pure tv=true
 Qt:b.ext tw=0/\b.pure tw=true
 size:∀a:PF,a.dep<=100->a.bS<2^20->K tv [a.aO.A true] (ai a.bS)
 same:∀a c:PF,a.dep<=100->c.dep<=100->K tw [a.aO.A true,c.aO.A true] (.b (decide (a=c)))
theorem kX.q{b:b5}{K:Nat->List AV->AV->Prop}(h:kX b K):uZ (b.aV K) [u_,yE,AY,yF,D0,va,AX]:=λg hg=>by
 simp only[dF,gT,or_false] at hg;rcases hg with rfl|rfl|rfl|rfl|rfl|rfl|rfl
 ·exact⟨h.s8.e,.inr ⟨h.s8.p,_,_,h.s8.f,rfl,rfl⟩⟩
 ·exact⟨h.ci.e,.inr ⟨h.ci.p,_,_,h.ci.f,rfl,rfl⟩⟩
 ·exact⟨h.li.e,.inr ⟨h.li.p,_,_,h.li.f,rfl,rfl⟩⟩
 ·exact⟨h.xd.e,.inr ⟨h.xd.p,_,_,h.xd.f,rfl,rfl⟩⟩
 ·exact⟨h.xe.e,.inr ⟨h.xe.p,_,_,h.xe.f,rfl,rfl⟩⟩
 ·exact⟨h.pY.e,.inr ⟨h.pY.p,_,_,h.pY.f,rfl,rfl⟩⟩
 ·exact⟨h.at_.e,.inr ⟨h.at_.p,_,_,h.at_.f,rfl,rfl⟩⟩
def ij:List Nat->bO->bO
 |[],c=>c
 |i::l,.seq a c=>cond (Nat.beq i 0) (ij l a) (ij l c)
 |i::l,.cond _ a c=>cond (Nat.beq i 0) (ij l a) (ij l c)
 |_::l,.block _ a=>ij l a
 |_::l,.loop a=>ij l a
 |_,c=>c
def mZ:bO:=match kS.body with|some c=>c|none=>.skip
abbrev hO(q:Nat):List (Nat×AV):=[(5,.f (.func u_) [] [aT (q+5),aT q]),(4,aT (q+5)),(3,aT (q+4)),(1,aT q)]
def Out(J:ae)(q:Nat)(cI:AV)(at_ B:Nat)(τ:ae):Prop:=∃bN L ad ax,kn J q cI at_ bN L ad ax τ/\Rd L ad ax/\L≠[]/\L.length+ad.length<=B
section
variable {J τ:ae}{q at_:Nat}{cI:AV}{bN:Nat->Prop}{L:List aD}{ad:List (List Nat)}{ax:List Nat}{b:b5}{K:Nat->List AV->AV->Prop}
theorem a0L{l:List (List Nat)}{x:List Nat}(h:x∈l):x.length<=(l.map List.length).sum:=by
 induction l with
 |nil=>simp at h
 |cons y l aH=>
  rw[pb,List.sum_cons];rcases dF.1 h with rfl|h
  ·omega
  ·have:=aH h;omega
theorem xb.small(h:xb L ad ax)(b3:L.length+ad.length<=40):L.length<2^20/\ad.length<2^20/\∀l∈ad,l.length<2^20:=⟨U,U,λl hl=>by have:=a0L hl;have:=h.sum;omega⟩
theorem y8(b_:kX b K)(h:kn J q cI at_ bN L ad ax τ)(hR:Rd L ad ax)(a5:L≠[])(b3:L.length+ad.length<=40){f:PF}{w:AV}(b4:eU (λi=>¬bN i) τ f (.ah [.i .u8 (Int.ofNat f.op),.s f.b7,.af,w])){gF l:List Nat}{v:AV}(oW:pV L (λc=>∃k∈ad,c∈k) f gF l)(av:fp τ v l)(fh:l.length<2^20):
  bH (b.aV K) 0 (.f (.func yE) [] [aT (q+4)]) [.ah [.i .u8 (Int.ofNat f.op),.s f.b7,.af,w],.s gF,v] τ (λr aM=>r= .ok (.a9 [])/\Out J q cI at_ (L.length+ad.length+1) aM):=by
 have a0:=hR.inv;have hle:=oW.le a0.dep a0.bS;obtain⟨F,k,rfl⟩:∃F k,ad=F++[k]:=by
  rcases PY ad with h|⟨F,k,h⟩
  ·have:=a0.ne;rw[h] at this;simp at this
  ·exact⟨F,k,by rw[h,PZ]⟩
 refine(c0v b_.ci b_.li b_.xd h.ms h.m (λh'=>(h.pX _ h').2.2.1 I) a0.ne (a0.small b3) b4 U av fh).mono λr aM ⟨e,gA,h1,h2⟩=>⟨e,gA,_,_,_,h.EY h1 h2,?_,aG,?_⟩
 ·have hl:(F++[k]).length-1=F.length:=by simp
  have hg:(F++[k]).getD F.length []=k:=by rw[fO];simp
  have an:(F++[k]).set F.length (k++[L.length+1])=F++[k++[L.length+1]]:=by simp
  rw[hl,hg,an];exact .step hR (.lv F k ax a5 oW)
 ·simp only[c4,gp,g6,mo];omega
theorem a0M(b_:kX b K)(h:kn J q cI at_ bN L ad ax τ)(hR:Rd L ad ax)(a5:L≠[])(b3:L.length+ad.length<=40)(h2:2<=ad.length):
  bH (b.aV K) 0 (.f (.func DZ) [] []) [aT (q+3)] τ (λr aM=>r= .ok (.a9 [])/\∃gA tV bc dX,kn J q cI at_ gA tV bc dX aM/\Rd tV bc dX/\tV≠[]/\tV.length+bc.length=L.length+ad.length/\bc.length+1=ad.length):=by
 have a0:=hR.inv;have hlen:=a0.len;obtain⟨⟨fy,Cz,h9,_⟩,tU⟩:=a0.last a5;have BK:0<L.length:=oj.2 a5;obtain⟨y,hy⟩:∃y,L[L.length-1]? =some y:=⟨L[L.length-1]'U,cK _⟩
 obtain⟨first,hf⟩:∃first,ax[ad.length-1]? =some first:=⟨ax[ad.length-1]'U,cK _⟩
 obtain⟨f1,n,hx⟩:=a0.fst _ _ U hf;have iv:=(fC.1 hx).1;have au:=xa n;have JG:=a0.dep y (hH hy);refine(c0d b_.aa b_.pY b_.xd h.ms h2 (a0.small b3) hlen hf ⟨f1,U⟩ hx hy (tU y hy) ⟨by show(ff n).dep<=300;omega,U⟩).mono λr aM ⟨e,gA,bL,bQ⟩=>⟨e,gA,_,_,_,h.EY bL bQ,?_,aG,?_,?_⟩
 ·obtain⟨F,dS,k,rfl⟩:∃F e k,ad=F++[e,k]:=by
   subst h9;rcases PY fy with h|⟨F,k,h⟩
   ·rw[h] at h2;simp at h2
   ·exact⟨F,k,Cz,by rw[h,PZ,jA];rfl⟩
  obtain⟨G,fst,rfl⟩:∃G x,ax=G++[x]:=by
   rcases PY ax with h|⟨F,k,h⟩
   ·rw[h] at hlen;simp at hlen
   ·exact⟨F,k,by rw[h,PZ]⟩
  simp only[c4,gp,g6] at hlen;have a0N:G.length=F.length+1:=by omega
  have el:(F++[dS,k]).length=F.length+2:=by simp
  rw[el,show F.length+2-1=F.length+1 from rfl,show F.length+2-2=F.length from rfl];rw[el,show F.length+2-1=F.length+1 from rfl,← a0N] at hf;have CK:fst=first:=by simpa using hf
  rw[el,show F.length+2-1=F.length+1 from rfl] at hx;subst CK;have aR:(F++[dS,k]).take (F.length+1)=F++[dS]:=by rw[show F++[dS,k]=(F++[dS])++[k] by simp,show F.length+1=(F++[dS]).length by simp,List.take_left]
  have a6:(F++[dS,k]).getD F.length []=dS:=by rw[fO];simp
  have c0:(G++[fst]).take (F.length+1)=G:=by rw[<-a0N];simp
  have h7:(F++[dS]).set F.length (dS++[L.length+1])=F++[dS++[L.length+1]]:=by simp
  rw[aR,a6,c0,h7];exact .step hR (.shut F dS k G fst hx hy)
 ·simp only[c4,gp,g6,mo,gI];omega
 ·simp only[mo,gI];omega
end
abbrev eT(f:PF)(w:AV):List AV:=[.i .u8 (Int.ofNat f.op),.s f.b7,.af,w]
structure ju(J:ae)(q:Nat)(cI:AV)(at_:Nat)(bN:Nat->Prop)(L:List aD)(ad:List (List Nat))(ax:List Nat)(τ:ae)(a c:Nat)(f g:PF)(dZ eH:Nat)(gg g8:AV):Prop where
 gu:kn J q cI at_ bN L ad ax τ
 rd:Rd L ad ax
 ne:L≠[]
 B:L.length+ad.length<=36
 ha:∃k∈ad,a∈k
 ab:∃k∈ad,c∈k
 aB:nz L a f
 bA:nz L c g
 kI:τ.get dZ=some (.cells (eT f gg))
 ra:τ.get eH=some (.cells (eT g g8))
 f12:eU (λi=>¬bN i) τ f (.ah (eT f gg))
 f13:eU (λi=>¬bN i) τ g (.ah (eT g g8))
 k:q+5<dZ/\q+5<eH/\dZ≠eH
theorem eU.yo{W:Nat->Prop}{J:ae}{f:PF}{l:List AV}(h:eU W J f (.ah l)):conf (some 4) (.ah l)=true:=by cases h;rfl
theorem eU.two{W:Nat->Prop}{τ:ae}{f g:PF}{l m:List AV}{id:Nat}(k:Fin 3)(hW:W id)(hg:τ.get id=some (.cells (l++m)))(hf:eU W τ f (.ah l))(tS:eU W τ g (.ah m)):eU W τ (.bin k f g) (.ah (eT (.bin k f g) (.ao id 0 2 (some 4) (some 2)))):=
 .mk (.bin k f g) _ [.ah l,.ah m] I (.ao id (some 2) [.ah l,.ah m] [] hW (by rw[hg];show _=some (AO.cells (l++(m++[])++[]));rw[iG,iG]) (λy hy=>by
  simp only[dF,gT,or_false] at hy;rcases hy with rfl|rfl
  ·exact hf.yo
  ·exact tS.yo) (.inr I) aG) λi h h'=>by
  match i,h with
  |0,_=>exact hf
  |1,_=>exact tS
theorem fp.one{τ:ae}{id a:Nat}(h:τ.get id=some (.cells [ai a])):fp τ (.ao id 0 1 none (some 1)) [a]:=.ao id (some 1) [ai a] [] h (λy hy=>by rw[cu.1 hy];rfl) (.inr I)
theorem fp.two{τ:ae}{id a c:Nat}(h:τ.get id=some (.cells [ai a,ai c])):fp τ (.ao id 0 2 none (some 2)) [a,c]:=.ao id (some 2) [ai a,ai c] [] h (λy hy=>by
 simp only[dF,gT,or_false] at hy;rcases hy with rfl|rfl<;>rfl) (.inr I)
abbrev o1(q n a c dZ eH:Nat)(can:AV):List (Nat×AV):=[(94,ai (n%10)),(14,.f (.func yE) [] [aT (q+4)]),(13,aT eH),(12,aT dZ),(11,ai c),(10,ai a),(7,can),(6,ai n),(5,.f (.func u_) [] [aT (q+5),aT q]),(4,aT (q+5)),(3,aT (q+4)),(1,aT q)]
abbrev tW:List Nat:=[1,1,1,1,1,0,0,0,1,0,1,1,1,1,1,1,1,0]
section
variable {J τ:ae}{q at_:Nat}{cI:AV}{bN:Nat->Prop}{L:List aD}{ad:List (List Nat)}{ax:List Nat}{b:b5}{K:Nat->List AV->AV->Prop}{a c dZ eH:Nat}{f g:PF}{gg g8:AV}
theorem ju.kW{aM:ae}(h:ju J q cI at_ bN L ad ax τ a c f g dZ eH gg g8)(M:ee τ aM):ju J q cI at_ bN L ad ax aM a c f g dZ eH gg g8:=
 {h with gu:=h.gu.kW M,kI:=M.2 _ _ h.kI,ra:=M.2 _ _ h.ra,f12:=h.f12.aS (λi c hi ab=>⟨hi,M.2 _ _ ab⟩) _ (br _),f13:=h.f13.aS (λi c hi ab=>⟨hi,M.2 _ _ ab⟩) _ (br _)}
theorem ju.dep(h:ju J q cI at_ bN L ad ax τ a c f g dZ eH gg g8):f.dep<=40/\g.dep<=40/\f.bS<2^10/\g.bS<2^10:=by
 obtain⟨x,h1,rfl⟩:=h.aB.mem;obtain⟨y,h2,rfl⟩:=h.bA.mem;have b3:=h.B;have:=h.rd.inv.ne;have:=h.rd.inv.dep x h1;have:=h.rd.inv.bS x h1;have:=h.rd.inv.dep y h2;have:=h.rd.inv.bS y h2;omega
theorem ju.snap(h:ju J q cI at_ bN L ad ax τ a c f g dZ eH gg g8):mapO (bT τ (b.bt+1000)) [.ah (eT f gg)]=some [f.aO.A true]/\mapO (bT τ (b.bt+1000)) [.ah (eT g g8)]=some [g.aO.A true]:=by
 have:=h.dep;rw[mapO_cons,mapO_cons,h.f12.snap _ (br _) U,h.f13.snap _ (br _) U];exact⟨rfl,rfl⟩
theorem Out.le{B eE:Nat}(h:Out J q cI at_ B τ)(hb:B<=eE):Out J q cI at_ eE τ:=by
 obtain⟨bN,L,ad,ax,h1,h2,h3,aQ⟩:=h;exact⟨bN,L,ad,ax,h1,h2,h3,U⟩
theorem ju.out(h:ju J q cI at_ bN L ad ax τ a c f g dZ eH gg g8):Out J q cI at_ (L.length+ad.length) τ:=⟨_,_,_,_,h.gu,h.rd,h.ne,br _⟩
theorem c0K(b_:kX b K)(h:ju J q cI at_ bN L ad ax τ a c f g dZ eH gg g8){n:Nat}{can:AV}{z:Nat->AV}{Q:ec}(b8:∀F aM,sat (hO q) F->Out J q cI at_ (L.length+ad.length+2) aM->Q .normal F aM):
  bR (b.aV K) none [] kS.ntmps (ij (tW++[1,1,1,0]) mZ) (bx (o1 q n a c dZ eH can) z) τ Q:=by
 have hd:=h.dep;have kG:=h.snap (b:=b);have H:Has τ [(dZ,eT f gg),(eH,eT g g8)]:=(Has.nil.cons h.ra aG).cons h.kI (by simpa using h.k.2.2.symm);have HB:gf τ [(eH,eT g g8)]:=gf.nil.cons h.ra;refine W.sq ?_;refine W.sv [(eH,eT g g8)] [3] 6 I I ?_;refine e9 ?_;refine W.Qo HB (.head _) I I I I I (h.f13.eqb _ (br _) (by show _<=b.bt+1000;omega)) ?_;refine W.ga b_.fn b_.es (b_.size f U U) I I I kG.1 ?_;refine W.km HB I ?_;refine W.ga b_.fn b_.es (b_.size g U U) I I I kG.2 ?_;refine e9 ?_;by_cases zH:f.bS+g.bS<40
 ·refine e9 ?_;refine aj ?_;refine W.bI (c:=eT f gg++eT g g8) H I I I I λbl ei H bw=>?_;have h2:=h.kW (aM:=bl) ⟨U,bw⟩;refine W.aq trivial I I I (q_ (op:=4) b_.pY I I) λr bZ ⟨ar,e2⟩=>⟨_,ar,?_⟩
  have h3:=h2.kW e2;have H:=H.aS e2.2;refine aj ?_;refine W.bI (c:=[ai a,ai c]) H I I I I λcG fF H b9=>?_;have aQ:=h3.kW (aM:=cG) ⟨U,b9⟩;refine aj ?_;refine W.aq trivial I I I (y8 b_ aQ.gu aQ.rd aQ.ne (by have:=h.B;omega) (eU.two 0 (λhm=>by have:=h.gu.ms.lt _ hm;omega) (H.get _ (.tail _ (.head _))) aQ.f12 aQ.f13) (.and h.ha h.ab h.aB h.bA zH) (.two (H.get _ (.head _))) aG) λr dq ⟨ar,bF⟩=>⟨_,ar,?_⟩
  refine aj ?_;exact b8 _ _ ⟨rfl,rfl,rfl,rfl,trivial⟩ (bF.le U)
 ·refine e9 ?_;refine aj ?_;exact b8 _ _ ⟨rfl,rfl,rfl,rfl,trivial⟩ (h.out.le U)
end
theorem j3.ptr{W:Nat->Prop}{J:ae}{aa:Option Nat}{v:AV}{xs:List AV}(h:j3 W J aa v xs):∃fB,gf J fB/\∀j (aC:j<xs.length),∃p,idxSlA aa v j=some p/\Ptr fB aa p xs[j]:=by
 cases h with
 |nil=>exact⟨[],.nil,λj aC=>by simp at aC⟩
 |a_ xs ab a5=>exact⟨[],.nil,λj aC=>⟨.dG false xs[j],by
   cases xs with
   |nil=>simp at aC
   |cons x l=>exact DD (o:=false) (l:=x::l) aC,.inl ⟨false,rfl,ab _ (bJ aC)⟩⟩⟩
 |ao o cap xs rest hW h ab ay a5=>
  have an:Sl J aa (.ao o 0 xs.length aa cap) xs:=.ao o cap xs rest h ab ay;refine⟨[(o,xs.flatMap AV.cells++rest)],gf.nil.cons h,λj aC=>?_⟩;obtain⟨bU,c,r,h1,h2,h3,aQ,bF⟩:=an.gd aC;cases h1;rw[h] at h3;cases h3;exact⟨_,h2,.inr ⟨o,_,_,rfl,.head _,bF⟩⟩
theorem PF.a0O{f:PF}{k:Nat}(h:f.op=4+k)(ay:k<3):∃a c,f= .bin ⟨k,ay⟩ a c:=by
 cases f with
 |bin eR a c=>exact⟨a,c,by congr 1;exact Fin.ext (by have:4+eR.val=4+k:=h;show eR.val=k;omega)⟩
 | gd q=>have:1=4+k:=h;omega
 |cQ=>have:2=4+k:=h;omega
 |neg a=>have:3=4+k:=h;omega
theorem PF.c0L{f:PF}(h:f.op=3):∃a,f= .neg a:=by
 cases f with
 |bin eR a c=>have:4+eR.val=3:=h;omega
 | gd q=>cases h
 |cQ=>cases h
 |neg a=>exact⟨a,rfl⟩
theorem PF.c0M{f:PF}(h:f.op=2):f= .cQ:=by
 cases f with
 |bin eR a c=>have:4+eR.val=2:=h;omega
 | gd q=>cases h
 |cQ=>rfl
 |neg a=>cases h
section
variable {J τ:ae}{q at_:Nat}{cI:AV}{bN:Nat->Prop}{L:List aD}{ad:List (List Nat)}{ax:List Nat}{b:b5}{K:Nat->List AV->AV->Prop}{a c dZ eH:Nat}{f g:PF}{gg g8:AV}
theorem ju.num(h:ju J q cI at_ bN L ad ax τ a c f g dZ eH gg g8):1<=a/\a<=36/\1<=c/\c<=36:=by
 obtain⟨k,h1,h2⟩:=h.ha;obtain⟨eR,h3,aQ⟩:=h.ab;have bF:=h.rd.inv.mem k h1 a h2;have cw:=h.rd.inv.mem eR h3 c aQ;have:=h.B;omega
theorem ju.fresh{aM:ae}{i0:Nat}{x:PF}{v:AV}(h:ju J q cI at_ bN L ad ax τ a c f g dZ eH gg g8)(h0:τ.next<=i0)(hx:eU (λi=>i0<=i) aM x v):eU (λi=>¬bN i) aM x v:=hx.aS (λi c hi ab=>⟨λhm=>by have:=h.gu.ms.lt _ hm;omega,ab⟩) _ (br _)
theorem c0N(b_:kX b K)(h:ju J q cI at_ bN L ad ax τ a c f g dZ eH gg g8){n:Nat}{can:AV}{z:Nat->AV}{Q:ec}(b8:∀F aM,sat (hO q) F->Out J q cI at_ (L.length+ad.length+2) aM->Q .normal F aM):
  bR (b.aV K) none [] kS.ntmps (ij (tW++[1,1,1,1,1,0]) mZ) (bx (o1 q n a c dZ eH can) z) τ Q:=by
 have hd:=h.dep;have hn:=h.num;have kG:=h.snap (b:=b);have H:Has τ [(dZ,eT f gg)]:=Has.nil.cons h.kI aG;have HB:gf τ [(dZ,eT f gg)]:=gf.nil.cons h.kI;refine aj ?_;refine W.ga b_.fn b_.es (b_.size f U U) I I I kG.1 ?_;by_cases zH:f.bS<40
 ·refine eO ?_;refine W.nil ?_;refine W.mL I ?_;refine W.sv [(dZ,eT f gg)] [5,7] 9 I I ?_;refine e9 ?_;refine W.Qo HB (.head _) I I I I I (h.f12.eqb _ (br _) (by show _<=b.bt+1000;omega)) ?_;refine e9 ?_;refine W.bI (c:=[ai a]) H I I I I λbl ei H bw=>?_;have h2:=h.kW (aM:=bl) ⟨U,bw⟩;refine W.km (HB.aS bw) I ?_;refine W.aq (b_.q.one I) I I I (JO b_.xe b_.pY b_.at_ c U) λr bZ ⟨wp,ar,au,e2⟩=>⟨_,ar,?_⟩
  have h3:=h2.kW e2;have H:=H.aS e2.2;have td:=e2.1;have au:=h2.fresh (br _) au;refine e9 ?_;refine W.bI (c:=eT f gg++eT (ff c) wp) H I I I I λcG fF H b9=>?_;have aQ:=h3.kW (aM:=cG) ⟨U,b9⟩;have EZ:=(HB.aS bw).aS λi o h=>b9 _ _ (e2.2 _ _ h);refine W.km EZ I ?_;refine W.aq (b_.q.one I) I I I (q_ (op:=5) b_.pY I I) λr dq ⟨ar,kH⟩=>⟨_,ar,?_⟩
  have bF:=aQ.kW kH;have H:=H.aS kH.2;have Jj:=kH.1;refine W.aq (b_.q.one I) I I I (y8 b_ bF.gu bF.rd bF.ne (by have:=h.B;omega) (eU.two 1 (λhm=>by have:=h.gu.ms.lt _ hm;omega) (H.get _ (.head _)) bF.f12 (au.aS (λi c hi ab=>⟨hi,kH.2 _ _ (b9 _ _ ab)⟩) _ (br _))) (.or c h.ha h.aB zH) (.one (H.get _ (.tail _ (.head _)))) aG) λr eA ⟨ar,cw⟩=>⟨_,ar,?_⟩
  refine aj ?_;exact b8 _ _ ⟨rfl,rfl,rfl,rfl,trivial⟩ (cw.le U)
 ·refine aj ?_;exact b8 _ _ ⟨rfl,rfl,rfl,rfl,trivial⟩ (h.out.le U)
theorem c0O(b_:kX b K)(h:ju J q cI at_ bN L ad ax τ a c f g dZ eH gg g8){n:Nat}{can:AV}{z:Nat->AV}{Q:ec}(b8:∀F aM,sat (hO q) F->Out J q cI at_ (L.length+ad.length+2) aM->Q .normal F aM):
  bR (b.aV K) none [] kS.ntmps (ij (tW++[1,1,1,1,1,1,1,1,1,1,1,1,1,0]) mZ) (bx (o1 q n a c dZ eH can) z) τ Q:=by
 have H:Has τ [(dZ,eT f gg)]:=Has.nil.cons h.kI aG;refine aj ?_;refine W.bI (c:=[ai a]) H I I I I λbl ei H bw=>?_;have h2:=h.kW (aM:=bl) ⟨U,bw⟩;refine W.aq trivial I I I (y8 b_ h2.gu h2.rd h2.ne (by have:=h.B;omega) h2.f12 (.again h.ha h.aB) (.one (H.get _ (.head _))) aG) λr eA ⟨ar,cw⟩=>⟨_,ar,?_⟩
 refine aj ?_;exact b8 _ _ ⟨rfl,rfl,rfl,rfl,trivial⟩ (cw.le U)
theorem c0P(b_:kX b K)(h:ju J q cI at_ bN L ad ax τ a c f g dZ eH gg g8){n:Nat}{can:AV}{z:Nat->AV}{Q:ec}(b8:∀F aM,sat (hO q) F->Out J q cI at_ (L.length+ad.length+2) aM->Q .normal F aM):
  bR (b.aV K) none [] kS.ntmps (ij (tW++[1,1,1,1,1,1,1,1,1,1,1,1,1,1,1,0]) mZ) (bx (o1 q n a c dZ eH can) z) τ Q:=by
 have hn:=h.num;have H:Has τ [(dZ,eT f gg)]:=Has.nil.cons h.kI aG;have qn:=f.pR;by_cases h2:f.op=2
 ·obtain rfl:=PF.c0M h2;refine aj ?_;refine W.aq trivial I I I (JO b_.xe b_.pY b_.at_ c U) λr bZ ⟨wp,ar,au,e2⟩=>⟨_,ar,?_⟩
  have h3:=h.kW e2;have H:=H.aS e2.2;have au:=h.fresh (br _) au;refine aj ?_;refine W.bI (c:=[ai a]) H I I I I λcG fF H b9=>?_;have aQ:=h3.kW (aM:=cG) ⟨U,b9⟩;refine W.aq trivial I I I (y8 b_ aQ.gu aQ.rd aQ.ne (by have:=h.B;omega) (au.aS (λi c hi ab=>⟨hi,b9 _ _ ab⟩) _ (br _)) (.y6 c h.ha h.aB) (.one (H.get _ (.head _))) aG) λr eA ⟨ar,cw⟩=>⟨_,ar,?_⟩
  refine aj ?_;exact b8 _ _ ⟨rfl,rfl,rfl,rfl,trivial⟩ (cw.le U)
 ·refine aj ?_;exact b8 _ _ ⟨rfl,rfl,rfl,rfl,trivial⟩ (h.out.le U)
theorem a0P(b_:kX b K)(h:ju J q cI at_ bN L ad ax τ a c f g dZ eH gg g8){n:Nat}{can:AV}{z:Nat->AV}{Q:ec}(b8:∀F aM,sat (hO q) F->Out J q cI at_ (L.length+ad.length+2) aM->Q .normal F aM):
  bR (b.aV K) none [] kS.ntmps (ij (tW++[1,1,1,1,1,1,1,1,1,1,1,0]) mZ) (bx (o1 q n a c dZ eH can) z) τ Q:=by
 obtain⟨dO,dT,dY,cN,a8,hm,hl,fh,gr,hf,ef,gM,hg,hk,js,an⟩:=h.gu.ms.ex;have H:Has τ [(q+4,[aT (q+3)]),(q+3,[dO,dT,dY])]:=(Has.nil.cons hm aG).cons h.gu.m aG;have kv:=hf.vw;have b3:=h.B;by_cases h2:2<=ad.length
 ·refine aj ?_;refine W.aq trivial I I I (a0M b_ h.gu h.rd h.ne U h2) λr eA ⟨ar,gA,tV,bc,dX,a2,bm,cx,ep,eW⟩=>⟨_,ar,?_⟩
  refine aj ?_;exact b8 _ _ ⟨rfl,rfl,rfl,rfl,trivial⟩ ⟨_,_,_,_,a2,bm,cx,U⟩
 ·refine aj ?_;exact b8 _ _ ⟨rfl,rfl,rfl,rfl,trivial⟩ (h.out.le U)
end
section
variable {J τ:ae}{q at_:Nat}{cI:AV}{bN:Nat->Prop}{L:List aD}{ad:List (List Nat)}{ax:List Nat}{b:b5}{K:Nat->List AV->AV->Prop}{a c dZ eH:Nat}{f g:PF}{gg g8:AV}
theorem eU.parts{W:Nat->Prop}{f:PF}{w:AV}(h:eU W τ f (.ah (eT f w))):conf none w=true/\(∀n,2*f.dep+2<=n->AV.eqb n w w=true)/\∃(fB:List (Nat×List AV)) (xs:List AV),gf τ fB/\xs.length=f.subs.length/\∀j (aC:j<f.subs.length) (hx:j<xs.length),∃p BL,idxSlA (some 4) w j=some p/\Ptr fB (some 4) p xs[j]/\xs[j]= .ah (eT f.subs[j] BL)/\eU W τ f.subs[j] (.ah (eT f.subs[j] BL)):=by
 cases h with
 |mk _ w xs hl hw hx=>
  obtain⟨fB,b3,au⟩:=hw.ptr;refine⟨hw.one.2.2,λn hn=>?_,fB,xs,b3,hl,λj aC fw=>?_⟩
  ·obtain⟨n,rfl⟩:∃m,n=m+1:=⟨n-1,U⟩
   refine hw.eqb λy hy=>?_;obtain⟨i,hi,rfl⟩:=jw hy;exact(hx i hi U).eqb _ (br _) (by have:=PF.kV (bJ (show i<f.subs.length by omega));omega)
  ·obtain⟨p,h1,h2⟩:=au j fw;have h3:=hx j fw aC;generalize a0Q:xs[j]=zV at h2 h3;cases h3 with
   |mk _ BL ba a2 bm cx=>exact⟨p,BL,h1,h2,rfl,.mk _ BL ba a2 bm cx⟩
theorem c0Q(b_:kX b K)(h:ju J q cI at_ bN L ad ax τ a c f g dZ eH gg g8){n:Nat}{can:AV}{z:Nat->AV}{Q:ec}(b8:∀F aM,sat (hO q) F->Out J q cI at_ (L.length+ad.length+2) aM->Q .normal F aM):
  bR (b.aV K) none [] kS.ntmps (ij (tW++[1,1,1,1,1,1,1,0]) mZ) (bx (o1 q n a c dZ eH can) z) τ Q:=by
 have hd:=h.dep;have hn:=h.num;have qn:=f.pR;have H:Has τ [(dZ,eT f gg)]:=Has.nil.cons h.kI aG;by_cases aQ:f.op=4
 ·obtain⟨f1,f2,rfl⟩:=PF.a0O (k:=0) aQ ca;obtain⟨a0R,Qu,JW,xs,y9,iv,dH⟩:=h.f12.parts;obtain⟨vy,BM⟩:∃vy:Bool,c%2=cond vy 1 0:=by
   rcases SG c with e|e
   ·exact⟨false,e⟩
   ·exact⟨true,e⟩
  have aC:c%2<2:=vu _ ca;obtain⟨p,BL,q4,a0S,kz,ET⟩:=dH (c%2) aC (by rw[iv];exact aC);have eZ:(PF.bin ⟨0,ca⟩ f1 f2).subs[c%2]'aC=cond vy f2 f1:=by
   show[f1,f2][c%2]'aC=_;simp only[BM];cases vy<;>rfl
  rw[eZ] at ET kz;rw[kz] at a0S;have c8d:(cond vy f2 f1).dep<=40:=by
   have:max f1.dep f2.dep+1<=40:=hd.1;cases vy
   ·show f1.dep<=40;omega
   ·show f2.dep<=40;omega
  refine j5 ?_;refine W.sv ((τ.next,[.s (jt false),.s (jt true)])::(dZ,eT (PF.bin ⟨0,ca⟩ f1 f2) gg)::JW) [14] 15 I I ?_;refine eO ?_;refine W.o0 h.kI (.tail _ (.head _)) I I I I I (Qu _ (by show _<=b.bt+1000;omega)) ?_;refine eO ?_;refine W.bin I I I I (uY (c:=2) ca) ?_;refine W.eG I I I I q4 ?_;refine W.c0x y9 (λx hx=>.tail _ (.tail _ hx)) a0S I I I I I (ET.eqb _ (br _) (by show _<=b.bt+1000;omega)) ?_;refine W.bI (c:=[.s (jt false),.s (jt true)]) H I I I I λbl ei H bw=>?_;have h2:=h.kW (aM:=bl) ⟨U,bw⟩;have OG:Sl bl none (.ao τ.next 0 2 none (some 2)) [.s (jt false),.s (jt true)]:=.ao τ.next (some 2) [.s (jt false),.s (jt true)] [] (H.get _ (.head _)) (λy hy=>by
   simp only[dF,gT,or_false] at hy;rcases hy with rfl|rfl<;>rfl) (.inr I)
  obtain⟨o,iS,rE,fE,c0R,gx,qJ,jq⟩:=OG.gd (j:=c%2) aC;cases fE;have nK:=gx.symm.trans (H.get _ (.head _));cases nK;have OI:[AV.s (jt false),.s (jt true)][c%2]'aC= .s (jt vy):=by
   simp only[BM];cases vy<;>rfl
  rw[OI] at jq;refine eO ?_;refine W.bin I I I I (uY (c:=2) ca) ?_;refine W.eG I I I I c0R ?_;refine W.o0 (H.get _ (.head _)) (.head _) I I I I jq (e1 I) ?_;refine eO ?_;refine W.bI (c:=[ai a]) H I I I I λcG fF H b9=>?_;have aQ:=h2.kW (aM:=cG) ⟨U,b9⟩;have EZ:gf cG ((τ.next,[.s (jt false),.s (jt true)])::(dZ,eT (PF.bin ⟨0,ca⟩ f1 f2) gg)::JW):=((y9.aS λi o h=>b9 _ _ (bw _ _ h)).cons (H.get _ (.tail _ (.tail _ (.head _))))).cons (H.get _ (.tail _ (.head _)));refine W.km EZ I ?_;refine W.aq (b_.q.one I) I I I (y8 b_ aQ.gu aQ.rd aQ.ne (by have:=h.B;omega) (ET.aS (λi c hi ab=>⟨hi,b9 _ _ (bw _ _ ab)⟩) _ (br _)) (.jt vy h.ha h.aB) (.one (H.get _ (.head _))) aG) λr eA ⟨ar,cw⟩=>⟨_,ar,?_⟩
  refine aj ?_;exact b8 _ _ ⟨rfl,rfl,rfl,rfl,trivial⟩ (cw.le U)
 ·refine aj ?_;exact b8 _ _ ⟨rfl,rfl,rfl,rfl,trivial⟩ (h.out.le U)
end
theorem ak.c0S{env:Env}{aN:Option Nat}{D:List (Nat ⊕ (AV×List AV))}{n i m c d b fK:Nat}{body:bO}{f:Nat->AV}{J:ae}{Q:ec}(N:Nat)(eM:Nat->(Nat->AV)->ae->Prop)
  (ed:N<2^62) (h0:eM 0 f J) (uN:f i=ai 0) (DH:f m=ai N)
  (hb:∀j g τ,j<N->eM j g τ->g i=ai j->g m=ai N->bR env aN D n (.block fK body) (dd g c (.b true)) τ (λx b6 aM=>match x with
   | .normal=>b6 i=ai j/\b6 m=ai N/\eM (j+1) (dd (dd b6 d (ai (j+1))) i (ai (j+1))) aM
   | .exit e=>cond (Nat.beq e b) (Q .normal b6 aM) (Q (.exit e) b6 aM)
   |x=>Q x b6 aM))
  (hx:∀g τ,eM N g τ->g i=ai N->Q .normal (dd g c (.b false)) τ)
  (ab:Nat.blt c n=true:=by rfl) (hd:Nat.blt d n=true:=by rfl) (hi:Nat.blt i n=true:=by rfl) (hm:Nat.blt m n=true:=by rfl) (Nr:Nat.beq m d=false:=by rfl) (vT:Nat.beq m i=false:=by rfl):
  bR env aN D n (.block b (.loop (.seq (.region [⟨some c,.bin .lss (.t i) (.t m),none,[]⟩]) (.seq (.cond (.t c) .skip (.exit b)) (.seq (.block fK body) (.region [⟨some d,.bin .add (.t i) (.c (.i .i64 1)),none,[]⟩,⟨some i,.bh (.t d),none,[]⟩])))))) f J Q:=by
 refine ak.block (ak.loop (λk g τ=>∃j,j+k=N/\eM j g τ/\g i=ai j/\g m=ai N) ?_ N ⟨0,U,h0,uN,DH⟩);rintro k g τ ⟨j,HH,a0,yp,kN⟩;have qL:dv env n g (.t i)=some (ai j):=by show cond (Nat.blt i n) (some (g i)) none=_;rw[hi,yp];rfl
 have em:dv env n g (.t m)=some (ai N):=by show cond (Nat.blt m n) (some (g m)) none=_;rw[hm,kN];rfl
 refine ak.seq (ak.region ?_);refine aJ.cmp (a:=j) (b:=N) ab I qL em I ?_;refine aJ.nil (ak.seq (ak.iW (t:=decide (j<N)) (by show cond (Nat.blt c n) (some (dd g c (.b (decide (j<N))) c)) none=_;rw[ab,AA];rfl) (λh=>?_) λh=>?_))
 ·have aC:j<N:=of_decide_eq_true h;rw[h];refine ak.skip (ak.seq ((hb j g τ aC a0 yp kN).mono λx b6 aM h'=>?_));cases x with
  |normal=>
   obtain⟨h1,h2,h3⟩:=h';refine ak.region ?_;have aR:dv env n b6 (.t i)=some (ai j):=by show cond (Nat.blt i n) (some (b6 i)) none=_;rw[hi,h1];rfl
   refine aJ.bin hd I aR I (pI (a:=j) (b:=1) U) ?_;refine aJ.go I hi I (v:=ai (j+1)) (ag:=aM) ?_ ?_
   ·show(match cond (Nat.blt d n) (some (dd b6 d (ai (j+1)) d)) none with|some v=>some (bV.val v aM)|none=>none)=_;rw[hd,AA];rfl
   ·refine aJ.nil ?_;refine⟨k-1,U,j+1,U,h3,AA,?_⟩;rw[HF vT,HF Nr,h2]
  |exit e=>exact h'
  |ret=>exact h'
  |panic v=>exact h'
 ·have aC:j=N:=by have:=of_decide_eq_false h;omega
  subst aC;rw[h];refine ak.exit ?_;show cond (Nat.beq b b) (Q .normal (dd g c (.b false)) τ) (Q (.exit b) (dd g c (.b false)) τ);rw[gH];exact hx g τ a0 yp
theorem kl.lines{τ:ae}{m:Nat}{bN:Nat->Prop}{L:List aD}{ad:List (List Nat)}{ax:List Nat}(h:kl τ m bN L ad ax)(a5:L≠[]):∃(dO dT dY:AV) (o:Nat) (c:List AV),τ.get m=some (.cells [dO,dT,dY])/\dO.lf=true/\dT.lf=true/\τ.get o=some (.cells c)∧
  ∀e x,1<=e->L[e-1]? =some x->idxSlA (some 9) dO (e-1)=some (.p (some (o,(e-1)*9)))/\∃w,dU (some 4) (c.drop ((e-1)*9+3))=some (.ah (eT x.f w))/\eU (λi=>¬bN i) τ x.f (.ah (eT x.f w)):=by
 obtain⟨dO,dT,dY,cN,a8,hm,hl,fh,gr,hf,ef,gM,hg,hk,js,an⟩:=h.ex;obtain⟨o,c,h1,h2,h3⟩:=hl.aF (by rw[fh];exact oj.2 a5);refine⟨dO,dT,dY,o,c,hm,hl.lf,hf.lf,h2,λe x he hx=>?_⟩;obtain⟨iv,w6⟩:=fC.1 hx;obtain⟨a2,⟨r,bm⟩,cx⟩:=h3 (e-1) U;have gr:=gr (e-1) U U;rw[w6] at gr;refine⟨a2,?_⟩;generalize cN[e-1]'U=zV at gr bm;cases gr with
 |mk w ft JH tq=>
  refine⟨w,?_,JH⟩;rw[<-nD,show(e-1)*9=(e-1)*shN (some 9) from rfl,bm];rfl
section
variable {J τ:ae}{q at_:Nat}{cI:AV}{bN:Nat->Prop}{L:List aD}{ad:List (List Nat)}{ax:List Nat}{b:b5}{K:Nat->List AV->AV->Prop}{a c dZ eH:Nat}{f g:PF}{gg g8:AV}
theorem JX{W:Nat->Prop}{f:PF}{w:AV}(h:eU W τ f (.ah (eT f w)))(hd:f.dep<=40){l:List AV}{r:List AV}(hl:mapO (bT τ (b.bt+1000)) l=some r):mapO (bT τ (b.bt+1000)) (.ah (eT f w)::l)=some (f.aO.A true::r):=by
 rw[mapO_cons,h.snap _ (br _) U,hl]
abbrev a0T:List Nat:=tW++[1,1,1,1,1,1,1,1,1,0,1,0,0,1,1,0,0,1]
abbrev y_(q n a c dZ eH:Nat)(can:AV)(j N:Nat):List (Nat×AV):=(190,ai j)::(189,ai N)::(188,can)::o1 q n a c dZ eH can
theorem ju.has(h:ju J q cI at_ bN L ad ax τ a c f g dZ eH gg g8){dO dT dY:AV}(hm:τ.get (q+3)=some (.cells [dO,dT,dY])):Has τ [(q+4,[aT (q+3)]),(q+3,[dO,dT,dY]),(dZ,eT f gg),(eH,eT g g8)]:=by
 have ay:=h.k;exact(((Has.nil.cons h.ra aG).cons h.kI (by simp;omega)).cons hm (by simp;omega)).cons h.gu.m (by simp;omega)
theorem c0T(b_:kX b K)(h:ju J q cI at_ bN L ad ax τ a c f g dZ eH gg g8){n:Nat}{can:AV}{z:Nat->AV}{Q:ec}{e j N:Nat}(he:∃k∈ad,e∈k)(ed:∀F,sat ((16,ai e)::y_ q n a c dZ eH can j N) F->Q .normal F τ)(jI:∀F aM,sat (hO q) F->Out J q cI at_ (L.length+ad.length+2) aM->Q (.exit 7) F aM):
  bR (b.aV K) none [] kS.ntmps (ij (a0T++[0]) mZ) (bx ((16,ai e)::y_ q n a c dZ eH can j N) z) τ Q:=by
 have hd:=h.dep;have b3:=h.B;have qn:=f.pR;obtain⟨dO,dT,dY,o,iS,hm,kx,_,ho,jz⟩:=h.gu.ms.lines h.ne;have H:=h.has hm;have Qv:1<=e/\e<=L.length:=by
  obtain⟨k,h1,h2⟩:=he;exact h.rd.inv.mem k h1 e h2
 obtain⟨x,hx⟩:∃x,L[e-1]? =some x:=⟨L[e-1]'U,cK _⟩
 obtain⟨Qw,c0U,Qx,E0⟩:=jz e x Qv.1 hx;have Qy:x.f.dep<=40:=by have:=h.rd.inv.dep x (hH hx);have:=h.rd.inv.ne;omega
 refine W.sq ?_;refine W.Qq [] 19 I I ?_;by_cases cw:f.op=6
 ·obtain⟨f1,f2,rfl⟩:=PF.a0O (k:=2) cw ca;obtain⟨a0R,Qu,JW,xs,y9,iv,dH⟩:=h.f12.parts;obtain⟨p0,fo,Qz,E1,QA,QB⟩:=dH 0 (by show 0<2;omega) (by rw[iv];show 0<2;omega);rw[QA] at E1;have kO:f1.dep<=40/\f2.dep<=40:=by
   have:max f1.dep f2.dep+1<=40:=hd.1;omega
  refine e9 ?_;refine W.eG I I I I Qz ?_;refine W.Qr y9 E1 I I I ?_;refine e9 ?_;refine W.eG I I I I Qw ?_;refine e9 ?_;refine W.oU ho I I I Qx ?_;refine W.ga b_.fn b_.Qt (b_.same f1 x.f U U) I I I (JX QB kO.1 (JX E0 Qy I)) ?_;refine e9 ?_;by_cases an:f1=x.f
  ·rw[decide_eq_true an];refine aj ?_;obtain⟨p1,bW,c0V,a0U,c0W,c0X⟩:=dH 1 (by show 1<2;omega) (by rw[iv];show 1<2;omega);rw[c0W] at a0U;refine W.eG I I I I c0V ?_;refine W.Qr y9 a0U I I I ?_;refine aj ?_;refine W.bI (c:=[ai a,ai e]) H I I I I λcG fF H b9=>?_;have aQ:=h.kW (aM:=cG) ⟨U,b9⟩;refine W.aq trivial I I I (y8 b_ aQ.gu aQ.rd aQ.ne U (c0X.aS (λi c hi ab=>⟨hi,b9 _ _ ab⟩) _ (br _)) (.imp h.ha he h.aB ⟨x,hx,an.symm⟩) (.two (H.get _ (.head _))) aG) λr eA ⟨ar,cw⟩=>⟨_,ar,?_⟩
   refine aj ?_;refine ak.exit ?_;exact jI _ _ ⟨rfl,rfl,rfl,rfl,trivial⟩ (cw.le U)
  ·rw[decide_eq_false an];refine aj ?_;exact ed _ ⟨rfl,rfl,rfl,rfl,rfl,rfl,rfl,rfl,rfl,rfl,rfl,rfl,rfl,rfl,rfl,rfl,trivial⟩
 ·refine e9 ?_;refine aj ?_;exact ed _ ⟨rfl,rfl,rfl,rfl,rfl,rfl,rfl,rfl,rfl,rfl,rfl,rfl,rfl,rfl,rfl,rfl,trivial⟩
theorem c0Y(b_:kX b K)(h:ju J q cI at_ bN L ad ax τ a c f g dZ eH gg g8){n:Nat}{can:AV}{z:Nat->AV}{Q:ec}{e j N:Nat}(he:∃k∈ad,e∈k)(ed:∀F,sat ((16,ai e)::y_ q n a c dZ eH can j N) F->Q .normal F τ)(jI:∀F aM,sat (hO q) F->Out J q cI at_ (L.length+ad.length+2) aM->Q (.exit 7) F aM):
  bR (b.aV K) none [] kS.ntmps (ij (a0T++[1]) mZ) (bx ((16,ai e)::y_ q n a c dZ eH can j N) z) τ Q:=by
 have hd:=h.dep;have b3:=h.B;have qn:=g.pR;obtain⟨dO,dT,dY,o,iS,hm,kx,_,ho,jz⟩:=h.gu.ms.lines h.ne;have H:=h.has hm;have Qv:1<=e/\e<=L.length:=by
  obtain⟨k,h1,h2⟩:=he;exact h.rd.inv.mem k h1 e h2
 obtain⟨x,hx⟩:∃x,L[e-1]? =some x:=⟨L[e-1]'U,cK _⟩
 obtain⟨Qw,c0U,Qx,E0⟩:=jz e x Qv.1 hx;have Qy:x.f.dep<=40:=by have:=h.rd.inv.dep x (hH hx);have:=h.rd.inv.ne;omega
 refine W.sq ?_;refine W.Qq [] 19 I I ?_;by_cases cw:g.op=3
 ·obtain⟨bL,rfl⟩:=PF.c0L cw;obtain⟨a0R,Qu,JW,xs,y9,iv,dH⟩:=h.f13.parts;obtain⟨p0,fo,Qz,E1,QA,QB⟩:=dH 0 (by show 0<1;omega) (by rw[iv];show 0<1;omega);rw[QA] at E1;have kO:bL.dep<=40:=by
   have:bL.dep+1<=40:=hd.2.1;omega
  refine e9 ?_;refine W.eG I I I I Qz ?_;refine W.Qr y9 E1 I I I ?_;refine e9 ?_;refine W.eG I I I I Qw ?_;refine e9 ?_;refine W.oU ho I I I Qx ?_;refine W.ga b_.fn b_.Qt (b_.same bL x.f U U) I I I (JX QB kO (JX E0 Qy I)) ?_;refine e9 ?_;by_cases an:bL=x.f
  ·rw[decide_eq_true an];refine aj ?_;refine W.aq trivial I I I (q_ (op:=2) b_.pY I I) λr bZ ⟨ar,e2⟩=>⟨_,ar,?_⟩
   have h3:=h.kW e2;have H:=H.aS e2.2;refine aj ?_;refine W.bI (c:=[ai e,ai c]) H I I I I λcG fF H b9=>?_;have aQ:=h3.kW (aM:=cG) ⟨U,b9⟩;refine W.aq trivial I I I (y8 (f:=.cQ) b_ aQ.gu aQ.rd aQ.ne U (.mk .cQ .af [] I .nil λi h=>by simp at h) (.not he h.ab ⟨x,hx,an.symm⟩ h.bA) (.two (H.get _ (.head _))) aG) λr eA ⟨ar,cw⟩=>⟨_,ar,?_⟩
   refine aj ?_;refine ak.exit ?_;exact jI _ _ ⟨rfl,rfl,rfl,rfl,trivial⟩ (cw.le U)
  ·rw[decide_eq_false an];refine aj ?_;exact ed _ ⟨rfl,rfl,rfl,rfl,rfl,rfl,rfl,rfl,rfl,rfl,rfl,rfl,rfl,rfl,rfl,rfl,trivial⟩
 ·refine e9 ?_;refine aj ?_;exact ed _ ⟨rfl,rfl,rfl,rfl,rfl,rfl,rfl,rfl,rfl,rfl,rfl,rfl,rfl,rfl,rfl,rfl,trivial⟩
theorem a0V(b_:kX b K)(h:ju J q cI at_ bN L ad ax τ a c f g dZ eH gg g8){n:Nat}{can:AV}{z:Nat->AV}{Q:ec}{aq:List Nat}(ob:fp τ can aq)(gq:∀e∈aq,∃k∈ad,e∈k)(E2:aq.length<2^20)(b8:∀F aM,sat (hO q) F->Out J q cI at_ (L.length+ad.length+2) aM->Q .normal F aM):
  bR (b.aV K) none [] kS.ntmps (ij (tW++[1,1,1,1,1,1,1,1,1,0]) mZ) (bx (o1 q n a c dZ eH can) z) τ Q:=by
 have pj:=ob.kE;refine W.sq ?_;refine W.rg ?_;have H:Has τ []:=Has.nil;refine eO ?_;refine W.nil ?_;refine ak.c0S aq.length (λj F aM=>aM=τ/\sat ((188,can)::o1 q n a c dZ eH can) F) U ⟨rfl,rfl,rfl,rfl,rfl,rfl,rfl,rfl,rfl,rfl,rfl,rfl,rfl,rfl,trivial⟩ I I (λj F aM aC a0 hi qx=>?_) (λF aM a0 hi=>?_)
 ·obtain⟨e,a0W,a0X,lW,ra,kI,vh,lr,gU,ib,dB,c7,cm,bL,_⟩:=a0;subst e;refine ak.norm (y_ q n a c dZ eH can j aq.length) ⟨hi,qx,a0W,a0X,lW,ra,kI,vh,lr,gU,ib,dB,c7,cm,bL,trivial⟩ λF=>?_;have H:Has aM []:=Has.nil;have QC:=gq _ (bJ aC);refine ak.block ?_;refine W.sq ?_;refine W.rg ?_;refine eO ?_;generalize aq[j]=e at QC ⊢;refine W.nil ?_;refine ak.norm ((16,ai e)::y_ q n a c dZ eH can j aq.length) ⟨rfl,rfl,rfl,rfl,rfl,rfl,rfl,rfl,rfl,rfl,rfl,rfl,rfl,rfl,rfl,rfl,trivial⟩ λF=>?_;refine W.sq ?_;refine c0T b_ h QC (λF b4=>?_) λF eA b4 cw=>?_
  ·refine ak.norm ((16,ai e)::y_ q n a c dZ eH can j aq.length) b4 λF=>?_;refine c0Y b_ h QC (λF b4=>?_) λF eA b4 cw=>?_
   ·obtain⟨_,a2,bm,cx,b4⟩:=b4;exact⟨a2,bm,rfl,cx,b4⟩
   ·exact b8 _ _ b4 cw
  ·exact b8 _ _ b4 cw
 ·obtain⟨e,a0W,a0X,lW,ra,kI,vh,lr,gU,ib,dB,c7,cm,bL,_⟩:=a0;subst e;exact b8 _ _ ⟨dB,c7,cm,bL,trivial⟩ (h.out.le U)
end
section
variable {J τ:ae}{q at_:Nat}{cI:AV}{bN:Nat->Prop}{L:List aD}{ad:List (List Nat)}{ax:List Nat}{b:b5}{K:Nat->List AV->AV->Prop}{a c dZ eH:Nat}{f g:PF}{gg g8:AV}
theorem kl.open_{m:Nat}{dO dT dY ny oX:AV}{cN a8:List AV}{dJ hE:Nat}{aM:ae}(hlt:∀i,bN i->i<τ.next)(hl:Sl τ (some 9) dO cN)(fh:cN.length=L.length)(gr:∀i (h:i<cN.length) (h':i<L.length),j4 (λi=>¬bN i) τ L[i] cN[i])(ef:a8.length=ad.length)(lK:∀i (h:i<a8.length) (h':i<ad.length),fp τ a8[i] ad[i])(js:bN m)(kL:∀o l c,dO= .ao o 0 l (some 9) c->c=none)(an:a0p m dO dT dY a8 bN)(k:∀i o,i≠m->dT.at? ≠some i->dY.at? ≠some i->τ.get i=some o->aM.get i=some o)
  (nF:aM.get m=some (.cells [dO,ny,oX])) (hf:Sl aM none ny (a8++[.af])) (hg:fp aM oX (ax++[L.length+1])) (w8:ny.at? =some dJ) (n8:oX.at? =some hE) (ho:τ.next<=dJ/\τ.next<=hE/\dJ≠hE/\dJ<aM.next/\hE<aM.next) (kK:∀o l c,ny= .ao o 0 l none c->c=none) (mh:∀o l c,oX= .ao o 0 l none c->c=none):
  ∃gA,kl aM m gA L (ad++[[]]) (ax++[L.length+1])/\sd bN gA τ aM:=by
 have xc:∀i o,¬bN i->τ.get i=some o->aM.get i=some o:=λi o hi h=>k i o (λe=>hi (e▸js)) (λe=>hi (an.f _ e).1) (λe=>hi (an.g _ e).1) h;refine⟨λi=>bN i\/i=dJ\/i=hE,⟨λi hi=>?_,dO,ny,oX,cN,a8++[.af],nF,?_,fh,λi h h'=>?_,hf,by simp[ef],λi h h'=>?_,hg,⟨λ_=>⟨kK,mh⟩,kL⟩,.inl js,?_⟩,U,λc o ab h=>xc c o ab h,λc ab=>?_⟩
 ·rcases hi with h|h|h
  ·have:=hlt i h;omega
  ·omega
  ·omega
 ·exact hl.aS λi o hi=>k i o (an.l _ hi).2.1 (an.l _ hi).2.2.1 (an.l _ hi).2.2.2
 ·exact(gr i h h').aS λi c hi ab=>⟨λh=>by
   have:=ae.bE ab;rcases h with h|h|h
   ·exact hi h
   ·omega
   ·omega,xc _ _ hi ab⟩
 ·by_cases hi:i<a8.length
  ·rw[g9 hi,g9 U];exact(lK i hi U).aS λj o aC=>k j o (an.s i hi _ aC).2.1 (an.s i hi _ aC).2.2.2.1 (an.s i hi _ aC).2.2.2.2
  ·have e:i=a8.length:=by rw[c4] at h;simp only[gp,g6] at h;omega
   subst e;rw[oS I,oS ef];exact .nil
 ·refine⟨λo h=>?_,λo h=>?_,λo h=>?_,λi h o kP=>?_,λi j h h' g5 o h1 h2=>?_⟩
  ·obtain⟨h1,h2,h3,aQ⟩:=an.l o h;have:=hlt o h1;exact⟨.inl h1,h2,λe=>by rw[w8] at e;have:=il e;omega,λe=>by rw[n8] at e;have:=il e;omega⟩
  ·rw[w8] at h;cases h;exact⟨.inr (.inl I),λe=>by have:=hlt _ js;omega,λe=>by rw[n8] at e;have:=il e;omega⟩
  ·rw[n8] at h;cases h;exact⟨.inr (.inr I),λe=>by have:=hlt _ js;omega⟩
  ·by_cases hi:i<a8.length
   ·rw[g9 hi] at kP;obtain⟨h1,h2,h3,aQ,bF⟩:=an.s i hi o kP;have:=hlt o h1;exact⟨.inl h1,h2,h3,λe=>by rw[w8] at e;have:=il e;omega,λe=>by rw[n8] at e;have:=il e;omega⟩
   ·have e:i=a8.length:=by rw[c4] at h;simp only[gp,g6] at h;omega
    subst e;rw[oS I] at kP;cases kP
  ·by_cases hi:i<a8.length
   ·by_cases aC:j<a8.length
    ·rw[g9 hi] at h1;rw[g9 aC] at h2;exact an.cO i j hi aC g5 o h1 h2
    ·have e:j=a8.length:=by rw[c4] at h';simp only[gp,g6] at h';omega
     subst e;rw[oS I] at h2;cases h2
   ·have e:i=a8.length:=by rw[c4] at h;simp only[gp,g6] at h;omega
    subst e;rw[oS I] at h1;cases h1
 ·rcases ab with h|h|h
  ·exact .inl h
  ·right;omega
  ·right;omega
theorem c0Z(b_:kX b K)(h:ju J q cI at_ bN L ad ax τ a c f g dZ eH gg g8){n:Nat}(hn:n<256){can:AV}{z:Nat->AV}{Q:ec}(b8:∀F aM,sat (hO q) F->Out J q cI at_ (L.length+ad.length+2) aM->Q .normal F aM):
  bR (b.aV K) none [] kS.ntmps (ij (tW++[1,0]) mZ) (bx (o1 q n a c dZ eH can) z) τ Q:=by
 have b3:=h.B;have OG:=h.num;have a0:=h.rd.inv;have BK:0<L.length:=oj.2 h.ne;obtain⟨dO,dT,dY,cN,a8,hm,hl,fh,gr,hf,ef,lK,hg,hk,js,an⟩:=h.gu.ms.ex;have H:Has τ [(q+4,[aT (q+3)]),(q+3,[dO,dT,dY])]:=(Has.nil.cons hm aG).cons h.gu.m aG;have kv:=hf.vw;by_cases bF:ad.length<5
 ·refine j5 ?_;refine W.Qq [(18,q+4,[aT (q+3)]),(19,q+4,[aT (q+3)]),(22,q+4,[aT (q+3)]),(25,q+4,[aT (q+3)]),(18,q+3,[dO,dT,dY]),(19,q+3,[dO,dT,dY])] 26 I I ?_;refine W.qI h.gu.m aG I I I I (e1 I) ?_;refine W.qI h.gu.m aG I I I I (e1 I) ?_;refine W.qI h.gu.m aG I I I I (e1 I) ?_;refine e9 ?_;refine W.qI hm aG I I I I (e1 hf.lf) ?_;refine W.bI (c:=[.af]) H I I I I λbl ei H bw=>?_;have ss:=bw _ _ hm;have a0Y:=bw _ _ h.gu.m;refine W.qI a0Y aG I I I I (e1 I) ?_;refine e9 ?_;refine W.qI ss aG I I I I (e1 hg.lf) ?_;refine W.qI a0Y aG I I I I (e1 I) ?_;refine e9 ?_;refine W.qI ss aG I I I I (e1 hl.lf) ?_;refine W.rZ (v:=ai cN.length) I I I (λs=>wo I hl.len) (e1 I) ?_;refine e9 ?_;refine W.bI (c:=[ai (cN.length+1)]) H I I I I λbZ fc H bg=>?_;have c6:∀i o,τ.get i=some o->bZ.get i=some o:=λi o h=>bg _ _ (bw _ _ h);have bQ:=H.get _ (.tail _ (.head _));have cm:=H.get _ (.head _);have QD:=ae.bE h.gu.m;refine W.JM (n5:=[(19,q+4,[aT (q+3)]),(22,q+4,[aT (q+3)]),(25,q+4,[aT (q+3)]),(19,q+3,[dO,dT,dY])]) 18 I (λp au=>by
   simp only[dF,gT,or_false] at au;rcases au with rfl|rfl|rfl|rfl|rfl|rfl
   ·exact .inl ⟨rfl,c6 _ _ h.gu.m⟩
   ·exact .inr aG
   ·exact .inr aG
   ·exact .inr aG
   ·exact .inl ⟨rfl,c6 _ _ hm⟩
   ·exact .inr aG) ?_
  refine W.ap (w:=.ao τ.next 0 1 none (some 1)) .af [] (hf.aS λi o _=>c6 i o) (by show(match bZ.get τ.next with|some (.cells c)=>elems none 1 (c.drop 0)|_=>none)=_;rw[bQ];rfl) (λz bb=>by rw[cu.1 bb];rfl) (by show(3*(a8.length+1)+2000)*24<=_;omega) I I I I λny cG QE n9 OU fF b9=>?_;have QF:∀i,dT.at? =some i->i≠q+3/\i≠q+4/\i<τ.next:=λi e=>by
   have h1:=an.f _ e;exact⟨h1.2.1,(h.gu.pX _ h1.1).2.2.1,h.gu.ms.lt _ h1.1⟩
  have wY:∀i o,dT.at? ≠some i->τ.get i=some o->cG.get i=some o:=λi o hi h=>b9 _ _ hi (c6 _ _ h);have Bd:=wY _ _ (λe=>(QF _ e).2.1 I) h.gu.m;have G0:=wY _ _ (λe=>(QF _ e).1 I) hm;refine W.JM (n5:=[(22,q+4,[aT (q+3)]),(25,q+4,[aT (q+3)])]) 19 I (λp au=>by
   simp only[dF,gT,or_false] at au;rcases au with rfl|rfl|rfl|rfl
   ·exact .inl ⟨rfl,Bd⟩
   ·exact .inr aG
   ·exact .inr aG
   ·exact .inl ⟨rfl,G0⟩) ?_
  have c1a:=b9 _ _ (λe=>by have:=(QF _ e).2.2;omega) cm;refine W.ap (w:=.ao bl.next 0 1 none (some 1)) (ai (cN.length+1)) [] (hg.aS λi o hi h=>wY i o (λe=>(an.f _ e).2.2 hi) h) (by show(match cG.get bl.next with|some (.cells c)=>elems none 1 (c.drop 0)|_=>none)=_;rw[c1a];rfl) (λz bb=>by rw[cu.1 bb];rfl) (by rw[b0,a0.len];show(3*(ad.length+1)+2000)*8<=_;omega) I I I I λoX dq yV tJ OZ iU c9=>?_;have QG:∀i,dY.at? =some i->i≠q+3/\i≠q+4/\i<τ.next:=λi e=>by
   have h1:=an.g _ e;exact⟨h1.2,(h.gu.pX _ h1.1).2.2.1,h.gu.ms.lt _ h1.1⟩
  have PA:=c9 _ _ (λe=>(QG _ e).2.1 I) Bd;have c1b:=c9 _ _ (λe=>(QG _ e).1 I) G0;have H:Has dq [(q+3,[dO,dT,dY])]:=Has.nil.cons c1b aG;refine e9 ?_;refine W.JM (n5:=[(25,q+4,[aT (q+3)])]) 22 I (λp au=>by
   simp only[dF,gT,or_false] at au;rcases au with rfl|rfl
   ·exact .inl ⟨rfl,PA⟩
   ·exact .inr aG) ?_
  refine W.st (bX:=[dO,ny,dY]) H 0 I I I I QE.ln (by rw[QE.mg];rfl) λeA jC H eu=>?_;refine e9 ?_;have a0Z:=eu _ _ aG PA;refine W.JM (n5:=[]) 25 I (λp au=>by
   rw[cu.1 au];exact .inl ⟨rfl,a0Z⟩) ?_
  refine W.st (bX:=[dO,ny,oX]) H 0 I I I I yV.ln (by rw[yV.mg];rfl) λe6 l_ H gX=>?_;have c1c:=gX _ _ aG a0Z;have eg:ny.at? =some bZ.next:=n9;have nM:oX.at? =some cG.next:=tJ;have QH:∀i o,i≠q+3->dq.get i=some o->e6.get i=some o:=λi o hi h=>gX _ _ hi (eu _ _ hi h);have c8e:=h.gu.ms.lt _ js;obtain⟨gA,JJ,c1d⟩:=kl.open_ (aM:=e6) (ny:=ny) (oX:=oX) (dJ:=bZ.next) (hE:=cG.next) h.gu.ms.lt hl fh gr ef lK js hk.2 an (λi o h1 h2 h3 h=>QH _ _ h1 (c9 _ _ h3 (wY _ _ h2 h))) (H.get _ (.head _)) (QE.aS λi o hi h=>QH _ _ (λe=>by rw[eg] at hi;have:=il hi;omega) (c9 _ _ (λe=>by rw[eg] at hi;have:=il hi;have:=(QG _ e).2.2;omega) h)) (by
   have:=yV.aS (τ:=e6) λi o hi h=>QH _ _ (λe=>by rw[nM] at hi;have:=il hi;omega) h;unfold fp;rw[g_,← fh];exact this) eg nM U OU OZ
  have a1a:=h.gu.EY JJ c1d;have H:Has e6 [(q+4,[aT (q+3)])]:=Has.nil.cons c1c aG;have HB:gf e6 [(q+4,[aT (q+3)])]:=H.b;refine j5 ?_;refine W.AE ?_;refine W.sv [(q+4,[aT (q+3)])] [6] 7 I I ?_;refine e9 ?_;refine W.aq (b_.q.one I) I I I (JO b_.xe b_.pY b_.at_ (c+n) U) λr fI ⟨wp,ar,au,i_⟩=>⟨_,ar,?_⟩
  have mF:wp.cells=[wp]/\wp.val=true:=by
   cases au with
   |mk _ w xs h1 h2 h3=>exact⟨h2.one.1,h2.one.2.1⟩
  have a1b:=a1a.kW i_;have QI:eU (λi=>¬gA i) fI (ff (c+n)) (.ah (eT (ff (c+n)) wp)):=au.aS (λi c hi ab=>⟨λhm=>by have:=a1a.ms.lt _ hm;omega,ab⟩) _ (br _);have kM:=xa (c+n);refine W.jD (c:=[ai 0,ai 1,.b true,.i .u8 (Int.ofNat (ff (c+n)).op),.s (ff (c+n)).b7,.af,wp,.s [],.af]) I I (pP I I I (pP I I I (pP I I I I))) ?_;refine W.km (HB.aS i_.2) I ?_;refine W.aq (b_.q.one I) I I I (EJ b_.xd a1b.ms aG ⟨U,by simp;omega,λl hl=>by
   rcases eP.1 hl with hl|hl
   ·exact(a0.small U).2.2 l hl
   ·rw[cu.1 hl];simp⟩ (x:=⟨0,1,true,ff (c+n),[],[]⟩) (.mk wp .af QI .nil) (by show(ff (c+n)).dep<=400;omega)) λr j1 ⟨ar,a1c,oB,ez⟩=>⟨_,ar,?_⟩
  refine aj ?_;have JY:(ad++[[]]).length-1=ad.length:=by simp
  have za:(ad++[[]]).getD ad.length []=[]:=by rw[fO];simp
  have gM:(ad++[([]:List Nat)]).set ad.length ([]++[L.length+1])=ad++[[L.length+1]]:=by simp
  rw[JY,za,gM] at oB;refine b8 _ _ ⟨rfl,rfl,rfl,rfl,trivial⟩ ⟨a1c,_,_,_,a1b.EY oB ez,.step h.rd (.tT ad ax (c+n) h.ne bF),aG,by simp;omega⟩
 ·refine aj ?_;exact b8 _ _ ⟨rfl,rfl,rfl,rfl,trivial⟩ (h.out.le U)
end
abbrev a1d:List Nat:=[1,1,1,1,1,0,0,0,1,0]
theorem c1e{a c:Nat}(ab:c≠0)(ha:a<2^63):binop .quo (ai a) (ai c)=some (ai (a/c)):=by
 show(if Int.ofNat c=0 then none else some (AV.i .i64 (IntKind.wrap .i64 ((Int.ofNat a).tdiv (Int.ofNat c)))))=_;rw[if_neg (by simpa using ab)];have e:(Int.ofNat a).tdiv (Int.ofNat c)=((a/c:Nat):Int):=rfl;rw[e,b3b (sL (K8 _ _) ha)];rfl
section
variable {J τ:ae}{q at_:Nat}{cI:AV}{bN:Nat->Prop}{L:List aD}{ad:List (List Nat)}{ax:List Nat}{b:b5}{K:Nat->List AV->AV->Prop}{a c dZ eH:Nat}{f g:PF}{gg g8:AV}
theorem c1f(b_:kX b K)(h:ju J q cI at_ bN L ad ax τ a c f g dZ eH gg g8){n:Nat}(hn:n<256){can:AV}{z:Nat->AV}{Q:ec}{aq:List Nat}(ob:fp τ can aq)(gq:∀e∈aq,∃k∈ad,e∈k)(E2:aq.length<2^20)(b8:∀F aM,sat (hO q) F->Out J q cI at_ (L.length+ad.length+2) aM->Q .normal F aM):
  bR (b.aV K) none [] kS.ntmps (ij tW mZ) (bx (o1 q n a c dZ eH can) z) τ Q:=by
 have H:Has τ []:=Has.nil;have hm:n%10<10:=vu _ ca;have ed:∀ {aL:bO} {F:List (Nat×AV)},(∀z,bR (b.aV K) none [] kS.ntmps aL (bx (o1 q n a c dZ eH can) z) τ Q)->sat (o1 q n a c dZ eH can) (bx F z)->bR (b.aV K) none [] kS.ntmps aL (bx F z) τ Q:=λh1 h2=>ak.norm _ h2 h1;have lE:=b8;refine W.sq ?_;refine W.rg ?_;refine eO ?_;by_cases h0:n%10=0
 ·refine eO ?_;refine W.nil (W.mL I (ed (λz=>c0Z b_ h hn b8) ?_));exact⟨rfl,rfl,rfl,rfl,rfl,rfl,rfl,rfl,rfl,rfl,rfl,rfl,trivial⟩
 refine eO ?_;refine W.nil (W.mM I (W.sq (W.rg ?_)));refine eO ?_;by_cases h1:n%10=1
 ·refine eO ?_;refine W.nil (W.mL I (ed (λz=>c0K b_ h b8) ?_));exact⟨rfl,rfl,rfl,rfl,rfl,rfl,rfl,rfl,rfl,rfl,rfl,rfl,trivial⟩
 refine eO ?_;refine W.nil (W.mM I (W.sq (W.rg ?_)));refine eO ?_;by_cases h2:n%10=2
 ·refine eO ?_;refine W.nil (W.mL I (ed (λz=>c0N b_ h b8) ?_));exact⟨rfl,rfl,rfl,rfl,rfl,rfl,rfl,rfl,rfl,rfl,rfl,rfl,trivial⟩
 refine eO ?_;refine W.nil (W.mM I (W.sq (W.rg ?_)));refine eO ?_;by_cases h3:n%10=3
 ·refine eO ?_;refine W.nil (W.mL I (ed (λz=>c0Q b_ h b8) ?_));exact⟨rfl,rfl,rfl,rfl,rfl,rfl,rfl,rfl,rfl,rfl,rfl,rfl,trivial⟩
 refine eO ?_;refine W.nil (W.mM I (W.sq (W.sq (W.rg ?_))));refine eO ?_;by_cases aQ:n%10=4
 ·refine eO ?_;refine W.nil (W.mL I (W.DI (W.mL I (ed (λz=>a0V b_ h ob gq E2 b8) ?_))));exact⟨rfl,rfl,rfl,rfl,rfl,rfl,rfl,rfl,rfl,rfl,rfl,rfl,trivial⟩
 refine eO ?_;refine W.nil (W.mM I (W.rg ?_));refine eO ?_;by_cases bF:n%10=5
 ·refine eO ?_;refine W.nil (W.mL I (ed (λz=>a0V b_ h ob gq E2 b8) ?_));exact⟨rfl,rfl,rfl,rfl,rfl,rfl,rfl,rfl,rfl,rfl,rfl,rfl,trivial⟩
 refine eO ?_;refine W.nil (W.mM I (W.sq (W.sq (W.rg ?_))));refine eO ?_;by_cases cw:n%10=6
 ·refine eO ?_;refine W.nil (W.mL I (W.DI (W.mL I (ed (λz=>a0P b_ h b8) ?_))));exact⟨rfl,rfl,rfl,rfl,rfl,rfl,rfl,rfl,rfl,rfl,rfl,rfl,trivial⟩
 refine eO ?_;refine W.nil (W.mM I (W.rg ?_));refine eO ?_;by_cases eL:n%10=7
 ·refine eO ?_;refine W.nil (W.mL I (ed (λz=>a0P b_ h b8) ?_));exact⟨rfl,rfl,rfl,rfl,rfl,rfl,rfl,rfl,rfl,rfl,rfl,rfl,trivial⟩
 refine eO ?_;refine W.nil (W.mM I (W.sq (W.rg ?_)));refine eO ?_;by_cases iF:n%10=8
 ·refine eO ?_;refine W.nil (W.mL I (ed (λz=>c0O b_ h b8) ?_));exact⟨rfl,rfl,rfl,rfl,rfl,rfl,rfl,rfl,rfl,rfl,rfl,rfl,trivial⟩
 refine eO ?_;refine W.nil (W.mM I (W.sq (W.rg ?_)));refine eO ?_;refine W.nil (W.mL I (ed (λz=>c0P b_ h b8) ?_));exact⟨rfl,rfl,rfl,rfl,rfl,rfl,rfl,rfl,rfl,rfl,rfl,rfl,trivial⟩
end
section
variable {J τ:ae}{q at_:Nat}{cI:AV}{bN:Nat->Prop}{L:List aD}{ad:List (List Nat)}{ax:List Nat}{b:b5}{K:Nat->List AV->AV->Prop}
theorem c1g(b_:kX b K){code:List Nat}(av:∀τ,hU τ none cI (code.map uB))(hl:code.length<2^62)(hb:∀x∈code,x<256)(fE:at_<=30)(h:kn J q cI at_ bN L ad ax τ)(hR:Rd L ad ax)(a5:L≠[])(b3:L.length+ad.length<=36){n:Nat}(hn:n<256){can:AV}{aq:List Nat}(ob:fp τ can aq)(oA:∀o,can.at? =some o->q+5<o/\¬bN o)(gq:∀e∈aq,∃k∈ad,e∈k)(QJ:0<aq.length)(E2:aq.length<2^20){z:Nat->AV}{Q:ec}(b8:∀F aM,sat (hO q) F->Out J q cI (oZ code at_) (L.length+ad.length+2) aM->Q .normal F aM):
  bR (b.aV K) none [] kS.ntmps (ij (a1d++[1,1,1]) mZ) (bx ((7,can)::(6,ai n)::hO q) z) τ Q:=by
 obtain⟨sZ,iS,Jz,mh,tq⟩:=ob.aF (by rw[b0];exact QJ);have kL:(aq.map ai).length=aq.length:=b0 _;have H:Has τ []:=Has.nil;have pj:=ob.kE;have QK:n/10%aq.length<aq.length:=vu _ QJ;have fm:oY code at_%aq.length<aq.length:=vu _ QJ;obtain⟨a2,⟨iq,bm⟩,cx⟩:=tq (n/10%aq.length) (by rw[kL];exact QK);obtain⟨gC,⟨l4,lN⟩,qK⟩:=tq (oY code at_%aq.length) (by rw[kL];exact fm);rw[e_] at cx qK;refine W.sq ?_;refine W.sv [(sZ,iS)] [18] 18 I I ?_;refine e9 ?_;refine W.bin I I I I (c1e (c:=10) ca U) ?_;refine e9 ?_;refine W.rZ (v:=ai aq.length) I I I (λs=>wo I (by rw[ob.len,kL])) (e1 I) ?_;refine W.bin I I I I (uY U) ?_;refine W.eG I I I I a2 ?_;refine W.o0 mh (.head _) I I I I cx (e1 I) ?_;refine e9 ?_;refine W.rZ (v:=ai aq.length) I I I (λs=>wo I (by rw[ob.len,kL])) (e1 I) ?_;refine W.aq (b_.q.one I) I I I (h.next b_.s8 av hl hb fE) λr bl ⟨ar,h2,ei,bw⟩=>⟨_,ar,?_⟩
 have a1e:=bw _ _ (by have:=(oA _ Jz).1;omega) mh;have c1h:fp bl can aq:=ob.aS λi o hi ho=>bw _ _ (by have:=(oA _ hi).1;omega) ho;refine W.bin I I I I (uY U) ?_;refine W.eG I I I I gC ?_;refine W.oU a1e I I I qK ?_;refine eO ?_;refine W.km (gf.nil.cons a1e) I ?_;refine W.AE ?_;have E3:=gq _ (bJ QK);have E4:=gq _ (bJ fm);generalize aq[n/10%aq.length]'QK=a at E3 ⊢;generalize aq[oY code at_%aq.length]'fm=c at E4 ⊢;refine ak.norm ((11,ai c)::(10,ai a)::(7,can)::(6,ai n)::hO q) ⟨rfl,rfl,rfl,rfl,rfl,rfl,rfl,rfl,trivial⟩ λF=>?_;obtain⟨dO,dT,dY,o,QL,hm,kx,_,ho,jz⟩:=h2.ms.lines a5;have jR:∀ {e},(∃k∈ad,e∈k)->1<=e/\e<=L.length:=λ⟨k,h1,h2⟩=>hR.inv.mem k h1 _ h2;obtain⟨x,hx⟩:∃x,L[a-1]? =some x:=⟨L[a-1]'(by have:=jR E3;omega),cK _⟩
 obtain⟨y,hy⟩:∃y,L[c-1]? =some y:=⟨L[c-1]'(by have:=jR E4;omega),cK _⟩
 obtain⟨JZ,a1f,c1i,a1g⟩:=jz a x (jR E3).1 hx;obtain⟨QM,a1h,c1j,a1i⟩:=jz c y (jR E4).1 hy;have c8f:x.f.dep<=40:=by have:=hR.inv.dep x (hH hx);have:=hR.inv.ne;omega
 have OF:y.f.dep<=40:=by have:=hR.inv.dep y (hH hy);have:=hR.inv.ne;omega
 have H:Has bl [(q+4,[aT (q+3)]),(q+3,[dO,dT,dY])]:=(Has.nil.cons hm aG).cons h2.m aG;have c8g:=jR E3;have c8h:=jR E4;refine W.sq ?_;refine W.sv [(q+4,[aT (q+3)]),(q+3,[dO,dT,dY]),(o,QL)] [20,21] 22 I I ?_;refine W.o0 h2.m (.head _) I I I I I (e1 I) ?_;refine e9 ?_;refine W.o0 hm (.tail _ (.head _)) I I I I I (e1 kx) ?_;refine e9 ?_;refine W.eG I I I I JZ ?_;refine e9 ?_;refine W.o0 ho (.tail _ (.tail _ (.head _))) I I I I c1i (a1g.eqb _ (br _) (by show _<=b.bt+1000;omega)) ?_;refine W.o0 h2.m (.head _) I I I I I (e1 I) ?_;refine e9 ?_;refine W.o0 hm (.tail _ (.head _)) I I I I I (e1 kx) ?_;refine e9 ?_;refine W.eG I I I I QM ?_;refine e9 ?_;refine W.o0 ho (.tail _ (.tail _ (.head _))) I I I I c1j (a1i.eqb _ (br _) (by show _<=b.bt+1000;omega)) ?_;generalize BM:bl.next=nt;refine W.cB (c:=[.i .u8 0,.s [],.af,.af]) H BM I I I λbZ fc H bg=>?_;refine W.cB (c:=[.i .u8 0,.s [],.af,.af]) H fc I I I λcG fF H b9=>?_;have zb:∀i o,bl.get i=some o->cG.get i=some o:=λi o h=>b9 _ _ (bg _ _ h);have EZ:gf cG [(q+4,[aT (q+3)]),(q+3,[dO,dT,dY]),(o,QL)]:=((gf.nil.cons (zb _ _ ho)).cons (zb _ _ hm)).cons (zb _ _ h2.m);refine W.km EZ I ?_;refine W.st (bX:=eT x.f a1f) H 1 I I I I I I λdq iU H c9=>?_;have c8i:=ae.bE h2.m;have c5:=ae.bE ho;have lm:=ae.bE hm;have c1k:gf dq [(q+4,[aT (q+3)]),(q+3,[dO,dT,dY]),(o,QL)]:=((gf.nil.cons (c9 _ _ (by simp;omega) (zb _ _ ho))).cons (c9 _ _ (by simp;omega) (zb _ _ hm))).cons (c9 _ _ (by simp;omega) (zb _ _ h2.m));refine W.km c1k I ?_;refine W.st (bX:=eT y.f a1h) H 0 I I I I I I λeA jC H eu=>?_;have M:ee bl eA:=⟨U,λi o h=>by have:=ae.bE h;exact eu _ _ (by simp;omega) (c9 _ _ (by simp;omega) (zb _ _ h))⟩
 have cF:=h2.kW M;refine j5 ?_;refine W.AE ?_;have c8j:=cF.a;have QD:=ae.bE h2.a;refine j5 ?_;refine W.bin I I I I (uY (c:=10) ca) ?_;refine W.nil ?_;refine ak.block ?_;refine ak.norm (o1 q n a c nt (nt+1) can) ⟨rfl,rfl,rfl,rfl,rfl,rfl,rfl,rfl,rfl,rfl,rfl,rfl,trivial⟩ λF=>?_;have aS:∀ {f v},eU (λi=>¬bN i) bl f v->eU (λi=>¬bN i) eA f v:=λh=>h.aS (λi c hi ab=>⟨hi,M.2 _ _ ab⟩) _ (br _);exact c1f b_ (dZ:=nt) (eH:=nt+1) (gg:=a1f) (g8:=a1h) ⟨cF,hR,a5,b3,E3,E4,⟨x,hx,rfl⟩,⟨y,hy,rfl⟩,H.get _ (.tail _ (.head _)),H.get _ (.head _),aS a1g,aS a1i,U⟩ hn (c1h.aS λi o _=>M.2 i o) gq E2 b8
end
theorem Sl.new{τ:ae}{v:AV}{xs:List AV}(h:Sl τ none v xs)(a5:xs≠[]):newOf τ v=some xs:=by
 cases h with
 |nil=>exact absurd I a5
 |ao o cap xs rest h ab ay=>exact(Sl.ao o cap xs rest h ab ay).read
section
variable {J τ:ae}{q at_:Nat}{cI:AV}{bN:Nat->Prop}{L:List aD}{ad:List (List Nat)}{ax:List Nat}{b:b5}{K:Nat->List AV->AV->Prop}
theorem QN{ad:List (List Nat)}:ad.flatten.length=(ad.map List.length).sum:=List.length_flatten
theorem a1j{ad:List (List Nat)}{j:Nat}(h:j<ad.length):(ad.take (j+1)).flatten=(ad.take j).flatten++ad[j]:=by rw[mf h,List.flatten_append];simp
theorem c1l(b_:kX b K){code:List Nat}(av:∀τ,hU τ none cI (code.map uB))(hl:code.length<2^62)(hb:∀x∈code,x<256)(fE:at_<=30)(h:kn J q cI at_ bN L ad ax τ)(hR:Rd L ad ax)(a5:L≠[])(b3:L.length+ad.length<=36){z:Nat->AV}{Q:ec}(b8:∀F aM,sat (hO q) F->Out J q cI (oZ code (oZ code at_)) (L.length+ad.length+2) aM->Q .normal F aM):
  bR (b.aV K) none [] kS.ntmps (ij a1d mZ) (bx (hO q) z) τ Q:=by
 have a0:=hR.inv;have BI:=a0.sum;have hfn:=a0.ne;have H:Has τ []:=Has.nil;refine W.sq (W.rg ?_);refine eO ?_;refine W.aq trivial I I I (h.next b_.s8 av hl hb fE) λr eN ⟨ar,h1,c_,bG⟩=>⟨_,ar,?_⟩
 have hn:=a0K hb at_;generalize oY code at_=n at hn ⊢;have H:Has eN []:=Has.nil;refine eO ?_;refine W.nil (W.sq (W.rg ?_));refine eO ?_;refine W.nil (W.sq (W.sq (W.rg ?_)));obtain⟨dO,dT,dY,cN,a8,hm,QO,fh,gr,hf,ef,lK,hg,hk,js,an⟩:=h1.ms.ex;have H:Has eN [(q+4,[aT (q+3)]),(q+3,[dO,dT,dY])]:=(Has.nil.cons hm aG).cons h1.m aG;have kv:=hf.vw;have QD:=ae.bE h1.a;refine eO ?_;refine W.nil ?_;refine ak.each a8.length (λj F aM=>(∃can,F 7=can/\fp aM can (ad.take j).flatten/\∀o,can.at? =some o->eN.next<=o)/\ee eN aM/\sat ((48,dT)::(6,ai n)::hO q) F) U ⟨⟨.af,rfl,.nil,λo h=>by cases h⟩,⟨br _,λ_ _ h=>h⟩,rfl,rfl,rfl,rfl,rfl,rfl,trivial⟩ I I (λj F aM aC nn hi qx=>?_) (λF aM nn hi=>?_)
 ·obtain⟨⟨can,gU,ob,oA⟩,M,BN,ib,dB,c7,cm,bL,_⟩:=nn;refine ak.norm ((50,ai j)::(49,ai a8.length)::(48,dT)::(7,can)::(6,ai n)::hO q) ⟨hi,qx,BN,gU,ib,dB,c7,cm,bL,trivial⟩ λF=>?_;have H:Has aM []:=Has.nil;have kv:=(hf.aS (τ:=aM) λi o _=>M.2 i o).vw;have a1k:=(lK j aC U).aS (τ:=aM) λi o _=>M.2 i o;have a1l:ad[j]'U≠[]:=a0.EX a5 _ (bJ _);have G9:(ad.take j).flatten.length+(ad[j]'U).length<=L.length:=by
   have h1:=congrArg List.length (a1j (show j<ad.length by omega));rw[c4] at h1;have h2:((ad.take (j+1)).map List.length).sum<=(ad.map List.length).sum:=by
    conv=>rhs;rw[<-xX (j+1) ad,g_,EF]
    omega
   rw[<-QN] at h2;omega
  refine ak.block ?_;refine j5 ?_;generalize a8[j]'aC=c1m at a1k ⊢;have kG:=a1k.new (by simpa using a1l);obtain⟨y,ba,hy⟩:∃y ba,(ad[j]'U).map ai=y::ba:=by
   cases hx:(ad[j]'U).map ai with
   |nil=>exact absurd (by simpa using hx) a1l
   |cons y ba=>exact⟨y,ba,rfl⟩
  rw[hy] at kG;refine W.ap (w:=c1m) y ba ob kG (λz bb=>by rw[<-hy] at bb;obtain⟨k,_,rfl⟩:=dx.1 bb;rfl) (by
   rw[<-hy,b0,b0];show(3*(_+_)+2000)*8<=_;omega) I I I I λc1n bZ Jf qU _ fc bg=>?_
  have H:Has bZ []:=Has.nil;refine j5 ?_;have c8k:=M.1;refine⟨rfl,rfl,⟨c1n,rfl,?_,λo ho=>by rw[qU] at ho;have:=il ho;omega⟩,⟨U,λi o h=>bg _ _ (λe=>by have:=oA _ e;have:=ae.bE h;omega) (M.2 _ _ h)⟩,rfl,rfl,rfl,rfl,rfl,rfl,trivial⟩;unfold fp;rw[a1j (show j<ad.length by omega),g_,hy];exact Jf
 ·obtain⟨⟨can,gU,ob,oA⟩,M,BN,ib,dB,c7,cm,bL,_⟩:=nn;rw[ef,mO] at ob;refine ak.norm ((7,can)::(6,ai n)::hO q) ⟨gU,ib,dB,c7,cm,bL,trivial⟩ λF=>?_;refine(c1g b_ av hl hb (JV fE) (h1.kW M) hR a5 b3 hn ob (λo ho=>?_) (λe he=>?_) ?_ ?_ b8)
  ·have TF:=oA o ho;exact⟨U,λnF=>by have:=h1.ms.lt _ nF;omega⟩
  ·obtain⟨k,h1,h2⟩:=List.mem_flatten.1 he;exact⟨k,h1,h2⟩
  ·rw[QN];have:=a0L (bJ (show 0<ad.length by omega));have h0:=a0.EX a5 _ (bJ (show 0<ad.length by omega));have:=oj.2 h0;omega
  ·rw[QN];omega
def c1o(code:List Nat)(at_ n:Nat):Prop:=n<=4+at_\/n<=5+at_/\(code.length<=at_\/30<=at_)
theorem c1p(b_:kX b K)(h:kn J q cI at_ bN L ad ax τ)(hR:Rd L ad ax)(a5:L≠[])(b3:L.length+ad.length<=36){z:Nat->AV}{Q:ec}(b8:∀F aM L ad ax dO dT dY bN,kn J q cI at_ bN L ad ax aM->Rd L ad ax->L≠[]->L.length<=35->ad.length=1->aM.get (q+3)=some (.cells [dO,dT,dY])->F 2=dO->Q .ret F aM):
  bR (b.aV K) none [] kS.ntmps (ij [1,1,1,1,1,1] mZ) (bx (hO q) z) τ Q:=by
 refine W.sq ?_;refine ak.block (ak.loop (λk F aM=>(∃bN L ad ax,kn J q cI at_ bN L ad ax aM/\Rd L ad ax/\L≠[]/\L.length+ad.length<=36/\ad.length=k)/\sat (hO q) F) (λk F aM nn=>?_) ad.length ⟨⟨_,_,_,_,h,hR,a5,b3,rfl⟩,rfl,rfl,rfl,rfl,trivial⟩);obtain⟨⟨bN,L,ad,ax,h,hR,a5,b3,ay⟩,dB,c7,cm,bL,_⟩:=nn;refine ak.norm (hO q) ⟨dB,c7,cm,bL,trivial⟩ λF=>?_;obtain⟨dO,dT,dY,cN,a8,hm,QO,fh,gr,hf,ef,lK,hg,hk,js,an⟩:=h.ms.ex;have H:Has aM [(q+4,[aT (q+3)]),(q+3,[dO,dT,dY])]:=(Has.nil.cons hm aG).cons h.m aG;have kv:=hf.vw;have hfn:=hR.inv.ne;refine W.sq (W.sq (W.rg ?_));refine eO ?_;by_cases h2:2<=ad.length
 ·refine aj ?_;refine W.aq trivial I I I (a0M b_ h hR a5 U h2) λr eA ⟨ar,gA,tV,bc,dX,a2,bm,cx,ep,eW⟩=>⟨_,ar,?_⟩
  refine aj ?_;exact⟨bc.length,U,⟨_,_,_,_,a2,bm,cx,U,rfl⟩,rfl,rfl,rfl,rfl,trivial⟩
 ·refine aj ?_;refine ak.exit ?_;show bR _ _ _ _ _ _ _ _;refine aj ?_;exact ak.ret (b8 _ _ _ _ _ _ _ _ _ h hR a5 U U hm I)
theorem c1q(b_:kX b K)(hh:bq (b.aV K) Iq kS){code:List Nat}(av:∀τ,hU τ none cI (code.map uB))(k7:cI.cells=[cI]/\cI.val=true)(hl:code.length<2^62)(hb:∀x∈code,x<256):
  bH (b.aV K) 0 (.f (.func Iq) [] []) [cI] J (λr τ=>∃(L:List aD) (ad:List (List Nat)) (ax:List Nat) (v:AV) (cN:List AV) (bN:Nat->Prop),r= .ok v/\Rd L ad ax/\ad.length=1/\L≠[]/\L.length<=35/\Sl τ (some 9) v cN/\cN.length=L.length/\(∀i (h:i<cN.length) (h':i<L.length),j4 (λi=>¬bN i) τ L[i] cN[i])/\(∀o l c,v= .ao o 0 l (some 9) c->c=none)/\(∀o,v.at? =some o->bN o)/\(∀o,bN o->J.next<=o)/\ee J τ):=by
 refine W.code hh.e hh.p hh.f I I I I λz=>?_;have H:Has J []:=Has.nil;generalize aX:J.next=q;have fin:∀(F:Nat->AV) (aM:ae) at_ bN (L:List aD) ad ax,kn J q cI at_ bN L ad ax aM->Rd L ad ax->L≠[]->L.length+ad.length<=36->bR (b.aV K) none [] kS.ntmps (ij [1,1,1,1,1,1] mZ) (bx (hO q) F) aM (λx b6 ag=>x= .ret/\∃(L:List aD) (ad:List (List Nat)) (ax:List Nat) (v:AV) (cN:List AV) (bN:Nat->Prop),et.ok (b6 2)= .ok v/\Rd L ad ax/\ad.length=1/\L≠[]/\L.length<=35/\Sl ag (some 9) v cN/\cN.length=L.length/\(∀i (h:i<cN.length) (h':i<L.length),j4 (λi=>¬bN i) ag L[i] cN[i])/\(∀o l c,v= .ao o 0 l (some 9) c->c=none)/\(∀o,v.at? =some o->bN o)/\(∀o,bN o->q<=o)/\ee J ag):=λF aM at_ bN L ad ax h hR a5 b3=>c1p b_ h hR a5 b3 λc8l j1 L ad ax dO dT dY bN h hR a5 hL h1 hm a6=>by
  obtain⟨tR,ny,oX,cN,a8,nF,QO,fh,gr,hf,ef,lK,hg,hk,js,an⟩:=h.ms.ex;rw[hm] at nF;cases nF;have QD:=ae.bE h.a;exact⟨rfl,L,ad,ax,dO,cN,bN,by rw[a6],hR,h1,a5,hL,QO,fh,gr,hk.2,λo ho=>(an.l o ho).1,λo ho=>(h.pX o ho).1,U,λi o hi=>h.old i o (by have:=ae.bE hi;omega) hi⟩
 refine W.sq (W.rg ?_);refine W.cM (c:=[cI]) H aX I I I k7.2 k7.1 λeN c_ H bG=>?_;refine j5 ?_;refine W.bI (c:=[.af]) H c_ I I I λbl ei H bw=>?_;refine W.bI (c:=[ai 0]) (k:=q+2) H U I I I λbZ fc H bg=>?_;refine W.jD (c:=[.af,.ao (q+1) 0 1 none (some 1),.ao (q+2) 0 1 none (some 1)]) I I I ?_;refine W.cM (c:=[.af,.ao (q+1) 0 1 none (some 1),.ao (q+2) 0 1 none (some 1)]) (k:=q+3) H U I I I I I λcG fF H b9=>?_;refine W.lk (c:=[aT (q+3)]) (k:=q+4) H U I I I I I I λdq iU H c9=>?_;refine j5 ?_;refine W.lk (c:=[ai 0]) (k:=q+5) H U I I I I I I λeA jC H eu=>?_;have c6:∀i o,J.get i=some o->eA.get i=some o:=λi o h=>eu _ _ (c9 _ _ (b9 _ _ (bg _ _ (bw _ _ (bG _ _ h)))));have bL:=H.get (q+1,[.af]) aG;have bQ:=H.get (q+2,[ai 0]) aG;have c1r:kl eA (q+3) (λi=>i=q+1\/i=q+2\/i=q+3) [] [[]] [0]:=by
  refine⟨λi hi=>by omega,.af,.ao (q+1) 0 1 none (some 1),.ao (q+2) 0 1 none (some 1),[],[.af],H.get _ (.tail _ (.tail _ (.head _))),.nil,rfl,λi h=>by simp at h,.ao (q+1) (some 1) [.af] [] bL (λy hy=>by rw[cu.1 hy];rfl) (.inr I),rfl,λi h h'=>?_,.one bQ,⟨(λh=>by simp at h),λo l c h=>by cases h⟩,.inr (.inr rfl),⟨(λo h=>by cases h),λo h=>?_,λo h=>?_,λi h o ho=>?_,λi j h h' g5=>?_⟩⟩
  ·cases i with
   |zero=>exact .nil
   |succ i=>simp at h
  ·cases h;exact⟨.inl I,U,λe=>by have:=il e;omega⟩
  ·cases h;exact⟨.inr (.inl I),U⟩
  ·cases i with
   |zero=>cases ho
   |succ i=>simp at h
  ·simp at h h';omega
 have h0:kn J q cI 0 (λi=>i=q+1\/i=q+2\/i=q+3) [] [[]] [0] eA:=⟨c1r,λi hi=>by omega,H.get (q,[cI]) aG,H.get _ (.tail _ (.head _)),H.get _ (.head _),λi o _ h=>c6 i o h⟩
 refine j5 ?_;refine W.aq trivial I I I (h0.next b_.s8 av hl hb U) λr e6 ⟨ar,eL,l_,gX⟩=>⟨_,ar,?_⟩
 have H:Has e6 []:=Has.nil;refine W.bin I I I I (uY (c:=3) ca) ?_;have ya:oY code 0%3<3:=vu _ ca;generalize oY code 0%3=ow at ya ⊢;refine W.bin I I I I (pI (a:=1) (b:=ow) U) ?_;refine j5 ?_;refine ak.norm ((26,ai 0)::(25,ai (1+ow))::hO q) ⟨rfl,rfl,rfl,rfl,rfl,rfl,trivial⟩ λF=>?_;refine ak.each (1+ow) (λj F aM=>(∃at_ bN L f0,kn J q cI at_ bN L [f0] [0] aM/\Rd L [f0] [0]/\(∀x∈L,x.hyp=true/\x.bs=0)/\L.length=j/\at_<=30)/\sat (hO q) F) U ⟨⟨_,_,_,_,eL,.nil,λx hx=>by simp at hx,rfl,JV U⟩,rfl,rfl,rfl,rfl,trivial⟩ I I (λj F aM aC nn hi qx=>?_) (λF aM nn hi=>?_)
 ·obtain⟨⟨at_,bN,L,f0,h,hR,QP,hlen,fE⟩,dB,c7,cm,bL,_⟩:=nn;refine ak.norm ((26,ai j)::(25,ai (1+ow))::hO q) ⟨hi,qx,dB,c7,cm,bL,trivial⟩ λF=>?_;have H:Has aM [(q+4,[aT (q+3)])]:=Has.nil.cons h.m aG;have HB:=H.b;refine ak.block ?_;refine W.sv [(q+4,[aT (q+3)])] [3,5] 6 I I ?_;refine e9 ?_;refine W.aq (b_.q.one I) I I I (h.next b_.s8 av hl hb fE) λr bl ⟨ar,h2,ei,bw⟩=>⟨_,ar,?_⟩
  have hn:=a0K hb at_;generalize oY code at_=n at hn ⊢;refine W.km (gf.nil.cons h2.m) I ?_;refine W.aq (b_.q.one I) I I I (JO b_.xe b_.pY b_.at_ n U) λr fI ⟨wp,ar,au,i_⟩=>⟨_,ar,?_⟩
  have mF:wp.cells=[wp]/\wp.val=true:=by
   cases au with
   |mk _ w xs h1 h2 h3=>exact⟨h2.one.1,h2.one.2.1⟩
  have iF:=h2.kW i_;have QI:eU (λi=>¬bN i) fI (ff n) (.ah (eT (ff n) wp)):=au.aS (λi c hi ab=>⟨λhm=>by have:=h2.ms.lt _ hm;omega,ab⟩) _ (br _);have kM:=xa n;have a0:=hR.inv;have BI:f0.length<=L.length:=by simpa using a0.sum
  refine W.jD (c:=[ai 0,ai 0,.b true,.i .u8 (Int.ofNat (ff n).op),.s (ff n).b7,.af,wp,.s [],.af]) I I (pP I I I (pP I I I I)) ?_;refine W.km (gf.nil.cons iF.m) I ?_;refine W.aq (b_.q.one I) I I I (EJ b_.xd iF.ms aG ⟨U,aG,λl hl=>by rw[cu.1 hl];omega⟩ (x:=⟨0,0,true,ff n,[],[]⟩) (.mk wp .af QI .nil) (by show(ff n).dep<=400;omega)) λr j1 ⟨ar,a1c,oB,ez⟩=>⟨_,ar,?_⟩
  refine e9 ?_;exact⟨rfl,rfl,⟨_,_,_,_,iF.EY oB ez,.step hR (.vx f0 n QP),λx hx=>by
   rcases eP.1 hx with hx|hx
   ·exact QP x hx
   ·rw[cu.1 hx];exact⟨rfl,rfl⟩,by simp[hlen],JV fE⟩,rfl,rfl,rfl,rfl,trivial⟩
 ·obtain⟨⟨at_,bN,L,f0,h,hR,QP,hlen,fE⟩,dB,c7,cm,bL,_⟩:=nn;refine ak.norm (hO q) ⟨dB,c7,cm,bL,trivial⟩ λF=>?_;refine W.sq ?_;refine ak.block (ak.loop (λk F aM=>(∃at_ bN L ad ax,kn J q cI at_ bN L ad ax aM/\Rd L ad ax/\L≠[]/\at_<=30/\c1o code at_ (L.length+ad.length)/\30-at_<=k)/\sat (hO q) F) (λk F aM nn=>?_) (30-at_) ⟨⟨_,_,_,_,_,h,hR,λe=>by subst e;simp at hlen;omega,fE,.inl (by simp;omega),br _⟩,rfl,rfl,rfl,rfl,trivial⟩);obtain⟨⟨at_,bN,L,ad,ax,h,hR,a5,fE,b3,ay⟩,dB,c7,cm,bL,_⟩:=nn;refine ak.norm (hO q) ⟨dB,c7,cm,bL,trivial⟩ λF=>?_;have H:Has aM [(q+5,[ai at_]),(q,[cI])]:=(Has.nil.cons h.c aG).cons h.a aG;have z8:=av aM;have JB:(code.map uB).length=code.length:=b0 _;refine W.sq (W.sq (W.rg ?_));refine eO ?_;rw[JB];by_cases gC:at_<code.length
  ·by_cases lN:at_<30
   ·refine eO ?_;refine W.nil (W.mL I (W.DI ?_));refine ak.block ?_;refine ak.norm (hO q) ⟨rfl,rfl,rfl,rfl,trivial⟩ λF=>?_;have c8m:L.length+ad.length<=4+at_:=by rcases b3 with h|h<;>omega
    refine c1l b_ av hl hb fE h hR a5 U λF j1 b4 ⟨gA,tV,bc,dX,h',C7,E5,c8n⟩=>?_;have aR:oZ code at_=at_+1:=by unfold oZ;rw[if_pos ⟨gC,lN⟩]
    rw[aR] at h';refine⟨k-1,U,⟨_,_,_,_,_,h',C7,E5,JV U,?_,?_⟩,b4⟩
    ·unfold oZ;by_cases qK:at_+1<code.length/\at_+1<30
     ·rw[if_pos qK];exact .inl U
     ·rw[if_neg qK];exact .inr U
    ·unfold oZ;split<;>omega
   ·refine eO ?_;refine W.nil (W.mM I ?_);refine ak.exit ?_;show bR _ _ _ _ (ij [1,1,1,1,1,1] mZ) _ _ _;exact ak.norm (hO q) ⟨rfl,rfl,rfl,rfl,trivial⟩ λF=>fin F aM _ _ _ _ _ h hR a5 (by rcases b3 with h|h<;>omega)
  ·refine eO ?_;refine W.nil (W.mM I ?_);refine ak.exit ?_;show bR _ _ _ _ (ij [1,1,1,1,1,1] mZ) _ _ _;exact ak.norm (hO q) ⟨rfl,rfl,rfl,rfl,trivial⟩ λF=>fin F aM _ _ _ _ _ h hR a5 (by rcases b3 with h|h<;>omega)
end
section
variable {b:b5}{K:Nat->List AV->AV->Prop}
abbrev pre(L:List aD)(m:Nat):List bu:=(L.take m).map aD.aA
theorem QQ{W:Nat->Prop}{τ:ae}{v:AV}{cN:List AV}{L:List aD}(an:Sl τ (some 9) v cN)(a5:L≠[])(hl:cN.length=L.length)(gr:∀i (h:i<cN.length) (h':i<L.length),j4 W τ L[i] cN[i])(hd:∀x∈L,x.f.dep<=200):bT τ (b.bt+1000) v=some (cC (L.map aD.aA)):=by
 have hm:mapO (bT τ (b.bt+999)) cN=some ((L.map aD.aA).map bu.A):=Bl (by rw[b0,b0,hl]) λi h1 h2=>by
  rw[e_,e_];exact(gr i h1 U).snap (by have:=hd _ (bJ (show i<L.length by omega));omega)
 rw[an.Ew (λe=>absurd (EG.1 (by rw[<-hl,e];rfl)) a5) hm];cases L with
 |nil=>exact absurd I a5
 |cons x l=>rfl
end
end Go.Lyc
end
noncomputable section
namespace Go.Lyc
set_option maxHeartbeats 0
variable [Tok][TokOk]
open Go.RowKit Go.Lyc.T
theorem sx{A C:List bu}:∀ {i:Nat},i<=A.length->stF (A++C) i=stF A i
 |0,_=>rfl
 |i+1,h=>by
  rw[vi (show i<A.length by omega),vi (L:=A++C) (by rw[c4];omega),sx U,g9 U]
structure J0(L:List aD)(ad:List (List Nat))(ax:List Nat):Prop where
 st:stF (L.map aD.aA) L.length=ax.tail
 mem:∀d (h:d<ad.length),∀c∈ad[d],stF (L.map aD.aA) c=ax.tail.take d
 fst:∀k first,1<=k->ax[k]? =some first->stF (L.map aD.aA) first=ax.tail.take k
 hyp:∀x∈L,x.hyp=true->x.op=0->x.bs=0
theorem c1s{L:List aD}{x:aD}:stF ((L++[x]).map aD.aA) (L++[x]).length=tG (stF (L.map aD.aA) L.length) L.length x.aA:=by
 rw[g_,c4,show L.length+[x].length=L.length+1 from rfl,vi aG,sx aG];simp
theorem pW.b{L:List aD}{ad bc:List (List Nat)}{ax dX:List Nat}{x:aD}(a0:xb L ad ax)(b3:J0 L ad ax)(h:pW L ad ax x bc dX):J0 (L++[x]) bc dX:=by
 have I8:=h.inv a0;have hlen:=a0.len;have hold:∀c,c<=L.length->stF ((L++[x]).map aD.aA) c=stF (L.map aD.aA) c:=λc ab=>by rw[g_,sx (by simpa using ab)]
 have cn:stF ((L++[x]).map aD.aA) (L.length+1)=ax.tail.take (x.bs-x.op)++List.replicate x.op (L.length+1):=by
  have:=c1s (L:=L) (x:=x);rw[c4,show L.length+[x].length=L.length+1 from rfl] at this;rw[this,b3.st];rfl
 have J1:(L++[x]).length=L.length+1:=by simp
 have hall:(x.hyp=true->x.op=0->x.bs=0)->∀y∈L++[x],y.hyp=true->y.op=0->y.bs=0:=λh1 y hy=>by
  rcases eP.1 hy with h|h
  ·exact b3.hyp y h
  ·rw[cu.1 h];exact h1
 have BO:∀f∈ad,∀c∈f,c<=L.length:=λf hf c ab=>(a0.mem f hf c ab).2;have QR:∀k first,1<=k->ax[k]? =some first->first<=L.length:=λk first h1 h2=>by
  obtain⟨a2,n,bm⟩:=a0.fst k first h1 h2
  have:=(fC.1 bm).1;omega
 cases h with
 |vx f n au=>
  have e:stF ((L++[Go.Lyc.vx n]).map aD.aA) (L.length+1)=[]:=by rw[cn];rfl
  refine⟨by rw[J1,e];rfl,λd hd c ab=>?_,λk first h1 h2=>?_,hall λ_ _=>rfl⟩
  ·have k_:d=0:=by simpa using hd
   subst k_;simp only[Ce] at ab;rcases eP.1 ab with ab|ab
   ·rw[hold c (BO f aG c ab)];exact b3.mem 0 aG c ab
   ·rw[cu.1 ab,e];rfl
  ·rw[s6 (by simp;omega)] at h2;cases h2
 |tT _ _ n a5 bF=>
  have E5:ax≠[]:=λe=>by rw[e] at hlen;have:=a0.ne;simp at hlen;omega
  have ht:(ax++[L.length+1]).tail=ax.tail++[L.length+1]:=P0 E5;have hn:=a0.ne;have e:stF ((L++[(⟨ad.length,1,true,ff n,[],[]⟩:aD)]).map aD.aA) (L.length+1)=ax.tail++[L.length+1]:=by
   rw[cn];show ax.tail.take (ad.length-1)++[L.length+1]=_;rw[sr (by rw[Bx];omega)]
  have E6:ax.tail.length=ad.length-1:=by rw[Bx,hlen]
  refine⟨by rw[J1,e,ht],λd hd c ab=>?_,λk first h1 h2=>?_,hall λ_ h=>by cases h⟩
  ·rw[ht];by_cases jk:d<ad.length
   ·rw[g9 jk] at ab;rw[hold c (BO _ (bJ jk) c ab),b3.mem d jk c ab,y1 U]
   ·have a6:d=ad.length:=by simp at hd;omega
    subst a6;rw[oS I] at ab;rw[cu.1 ab,e,sr (by simp;omega)]
  ·rw[ht];by_cases ay:k<ax.length
   ·rw[kD ay] at h2;rw[hold first (QR k first h1 h2),b3.fst k first h1 h2,y1 U]
   ·rw[A5 U] at h2;have h9:k-ax.length=0:=by
     rcases a0j (k-ax.length) with h|h
     ·exact h
     ·rw[s6 (by simp;omega)] at h2;cases h2
    rw[h9] at h2;cases h2;rw[e,sr (by simp;omega)]
 |lv F f _ a5 ab=>
  simp only[c4,gp,g6] at hlen;have E6:ax.tail.length=F.length:=by rw[Bx];omega
  rename_i g gF l;have e:stF ((L++[(⟨F.length,0,false,g,gF,l.map λn=>(n,n)⟩:aD)]).map aD.aA) (L.length+1)=ax.tail:=by
   rw[cn];show ax.tail.take (F.length-0)++[]=_;rw[iG,sr U]
  refine⟨by rw[J1,e],λd hd c ab=>?_,λk first h1 h2=>by rw[hold first (QR k first h1 h2)];exact b3.fst k first h1 h2,hall λh=>by cases h⟩;by_cases jk:d<F.length
  ·rw[g9 jk] at ab;have:=b3.mem d (by simp;omega) c (by rw[g9 jk];exact ab);rw[hold c (BO _ (L8 _ (bJ jk)) c ab),this]
  ·have a6:d=F.length:=by simp at hd;omega
   subst a6;rw[oS I] at ab;rcases eP.1 ab with ab|ab
   ·have:=b3.mem F.length aG c (by rw[oS I];exact ab);rw[hold c (BO _ aG c ab),this]
   ·rw[cu.1 ab,e,sr U]
 |shut F h9 f _ first hx hy=>
  simp only[c4,gp,g6] at hlen;rename_i eX ej;have ef:dX.length=F.length+1:=by omega
  have E5:dX≠[]:=λe=>by rw[e] at ef;simp at ef
  have ht:(dX++[first]).tail=dX.tail++[first]:=P0 E5;have E6:dX.tail.length=F.length:=by rw[Bx];omega
  have e:stF ((L++[({nx eX.f ej.f first L.length with bs:=F.length}:aD)]).map aD.aA) (L.length+1)=dX.tail:=by
   rw[cn,ht];have eb:({nx eX.f ej.f first L.length with bs:=F.length}:aD).op=0/\({nx eX.f ej.f first L.length with bs:=F.length}:aD).bs=F.length:=by
    rw[BH];cases decide (ej.f= .cQ)<;>exact⟨rfl,rfl⟩
   rw[eb.1,eb.2];show(dX.tail++[first]).take (F.length-0)++[]=_;rw[iG,Nc,y1 U,sr U]
  have jq:∀d,d<=F.length->(dX++[first]).tail.take d=dX.tail.take d:=λd hd=>by rw[ht,y1 U]
  refine⟨by rw[J1,e],λd hd c ab=>?_,λk BJ h1 h2=>?_,hall λh=>by
   rw[BH] at h;cases hd:decide (ej.f= .cQ)<;>rw[hd] at h<;>cases h⟩
  ·by_cases jk:d<F.length
   ·rw[g9 jk] at ab;have:=b3.mem d (by simp;omega) c (by rw[g9 jk];exact ab);rw[hold c (BO _ (L8 _ (bJ jk)) c ab),this,jq d U]
   ·have a6:d=F.length:=by simp at hd;omega
    subst a6;rw[oS I] at ab;rcases eP.1 ab with ab|ab
    ·have:=b3.mem F.length aG c (by simp;exact ab);rw[hold c (BO _ aG c ab),this,jq _ (br _)]
    ·rw[cu.1 ab,e,sr U]
  ·have ay:=(fC.1 h2).1;have h3:(dX++[first])[k]? =some BJ:=by rw[kD ay];exact h2
   rw[hold BJ (QR k BJ h1 h3),b3.fst k BJ h1 h3,jq k U]
theorem Rd.b{L:List aD}{ad:List (List Nat)}{ax:List Nat}(h:Rd L ad ax):J0 L ad ax:=by
 induction h with
 |nil=>
  refine⟨rfl,λd hd c ab=>?_,λk first h1 h2=>?_,λx hx=>by simp at hx⟩
  ·have e:d=0:=by simpa using hd
   subst e;simp at ab
  ·rw[s6 (by simp;omega)] at h2;cases h2
 |step hR h aH=>exact h.b hR.inv aH
theorem Rd.gd{L:List aD}{ad:List (List Nat)}{ax:List Nat}(h:Rd L ad ax):∀i (hi:i<L.length),∃eh pZ wu iL,Rd (L.take i) eh pZ/\pW (L.take i) eh pZ L[i] wu iL:=by
 induction h with
 |nil=>intro i hi;simp at hi
 | @step L ad ax x bc dX hR h aH=>
  intro i hi;by_cases h1:i<L.length
  ·obtain⟨a,c,d,e,h2,h3⟩:=aH i h1;rw[y1 U,g9 h1];exact⟨a,c,d,e,h2,h3⟩
  ·have e:i=L.length:=by rw[c4] at hi;simp only[gp,g6] at hi;omega
   subst e;rw[List.take_left,oS I];exact⟨_,_,_,_,hR,h⟩
theorem pV.ne{L:List aD}{C:Nat->Prop}{g:PF}{gF l:List Nat}(h:pV L C g gF l):gF≠[]/\(∀c∈l,C c)/\l.length<=2:=by
 cases h with
 |and h1 h2=>exact⟨by simp[EU],by simp;exact⟨h1,h2⟩,aG⟩
 |or n h1=>exact⟨by simp[EV],by simp;exact h1,aG⟩
 |jt q h1=>exact⟨by simp[Go.Lyc.jt],by simp;exact h1,aG⟩
 |imp h1 h2=>exact⟨by simp[w9],by simp;exact⟨h1,h2⟩,aG⟩
 |not h1 h2=>exact⟨by simp[w_],by simp;exact⟨h1,h2⟩,aG⟩
 |again h1=>exact⟨by simp[a0G],by simp;exact h1,aG⟩
 |y6 n h1=>exact⟨by simp[EW],by simp;exact h1,aG⟩
theorem J2{L:List aD}{C:List bu}(a5:L≠[]){y:aD}(hy:L[L.length-1]? =some y):vj (L.map aD.aA++C) (L.length+1)=(y.hyp,y.bs):=by
 have au:=oj.2 a5;unfold vj;rw[if_pos U,show L.length+1-2=L.length-1 by omega,kD (by simp;omega),kA,hy];rfl
theorem pW.shape{L:List aD}{ad bc:List (List Nat)}{ax dX:List Nat}{x:aD}(a0:xb L ad ax)(h:pW L ad ax x bc dX)(C:List bu):Bf x.aA (vj (L.map aD.aA++C) (L.length+1)) (L.length+1)=true/\x.bs<=4/\x.op<=x.bs/\x.bs-x.op<=ad.length-1/\x.cs.length<=2/\∀ac∈x.cs,1<=ac.1/\ac.1<=ac.2/\ac.2<L.length+1:=by
 have hle:=a0.le;have tU:L≠[]->∃y:aD,L[L.length-1]? =some y/\y.bs=ad.length-1:=λa5=>by
  have au:=oj.2 a5;exact⟨L[L.length-1]'U,cK _,(a0.last a5).2 _ (cK _)⟩
 cases h with
 |vx f n au=>
  refine⟨?_,by show 0<=4;omega,br _,k0 _,k0 _,λac h=>by cases h⟩;by_cases a5:L=[]
  ·subst a5;rfl
  ·obtain⟨y,hy,_⟩:=tU a5;have a1m:=au y (hH hy);rw[J2 a5 hy,a1m.1,a1m.2];rfl
 |tT _ _ n a5 bF=>
  obtain⟨y,hy,hd⟩:=tU a5;have h0:=a0.ne;refine⟨?_,by show ad.length<=4;omega,by show 1<=ad.length;omega,br _,k0 _,λac h=>by cases h⟩;rw[J2 a5 hy,hd];show(decide (ad.length<=40/\1<=ad.length)&&(decide (ad.length-1<=ad.length-1)&&true))=true;rw[decide_eq_true U,decide_eq_true U];rfl
 |lv F f _ a5 ab=>
  rename_i g gF l;obtain⟨y,hy,hd⟩:=tU a5;obtain⟨gC,lN,qK⟩:=ab.ne;simp only[c4,gp,g6] at hle hd;have gL:∀ac∈l.map (λn=>(n,n)),1<=ac.1/\ac.1<=ac.2/\ac.2<L.length+1:=λac dW=>by
   obtain⟨c,h_,rfl⟩:=dx.1 dW;obtain⟨k,h1,h2⟩:=lN c h_;have:=a0.mem k h1 c h2;exact⟨this.1,br _,by show c<_;omega⟩
  refine⟨?_,by show F.length<=4;omega,k0 _,by show F.length-0<=_;simp,by show(l.map _).length<=2;rw[b0];exact qK,gL⟩;rw[J2 a5 hy,hd];show(decide (F.length<=40/\0<=F.length)&&(decide (F.length-0<=F.length+(0+1)-1)&&((l.map λn=>(n,n)).all (vk (L.length+1))&& !gF.isEmpty)))=true;rw[decide_eq_true U,decide_eq_true U,(m4.2 λac dW=>decide_eq_true (gL ac dW):(l.map λn=>(n,n)).all (vk (L.length+1))=true)];cases gF with
  |nil=>exact absurd I gC
  |cons _ _=>rfl
 |shut F e f _ first hx hy=>
  rename_i eX ej;have a5:L≠[]:=λe=>by subst e;simp at hx
  have au:=oj.2 a5;have hd:=(a0.last a5).2 _ hy;have hlen:=a0.len;simp only[c4,gp,g6] at hle hd hlen;obtain⟨f1,n,f2⟩:=a0.fst dX.length first U aG
  have iv:=(fC.1 hx).1;have gL:1<=first/\first<=L.length/\L.length<L.length+1:=⟨f1,U,U⟩
  rw[J2 a5 hy,hd,BH];have JY:∀(g:PF) (gF:List Nat),gF≠[]->Bf (aD.aA ⟨F.length,0,false,g,gF,[(first,L.length)]⟩) (ej.hyp,F.length+2-1) (L.length+1)=true:=λg gF CL=>by
   show(decide (F.length<=40/\0<=F.length)&&(decide (F.length-0<=F.length+2-1)&&((decide (1<=first/\first<=L.length/\L.length<L.length+1)&&true)&& !gF.isEmpty)))=true;rw[decide_eq_true U,decide_eq_true U,decide_eq_true gL];cases gF with
   |nil=>exact absurd I CL
   |cons _ _=>rfl
  have kx:(F++[e,f]).length-1=F.length+1:=by simp
  have dW:∀ac∈[(first,L.length)],1<=ac.1/\ac.1<=ac.2/\ac.2<L.length+1:=λac h=>by rw[cu.1 h];exact gL
  rw[kx];cases decide (ej.f= .cQ)
  ·exact⟨JY _ _ (by simp[ly]),by show F.length<=4;omega,k0 _,by show F.length-0<=_;omega,by show 1<=2;omega,dW⟩
  ·exact⟨JY _ _ (by simp[w7]),by show F.length<=4;omega,k0 _,by show F.length-0<=_;omega,by show 1<=2;omega,dW⟩
theorem Rd.line{L:List aD}{ad:List (List Nat)}{ax:List Nat}(h:Rd L ad ax){k:Nat}{x:aD}(h1:1<=k)(hx:L[k-1]? =some x):∃eh pZ wu iL,Rd (L.take (k-1)) eh pZ/\pW (L.take (k-1)) eh pZ x wu iL/\Rd (L.take (k-1)++[x]) wu iL/\(L.take (k-1)).length=k-1/\L=L.take (k-1)++[x]++L.drop k:=by
 obtain⟨h2,h3⟩:=fC.1 hx;obtain⟨a,c,d,e,bL,bQ⟩:=h.gd (k-1) h2;rw[h3] at bQ;refine⟨a,c,d,e,bL,bQ,.step bL bQ,by rw[gI];omega,?_⟩;conv=>lhs;rw[<-xX k L]
 congr 1
 have:k=k-1+1:=by omega
 rw[this,mf h2,h3,By]
theorem Rd.shape{L:List aD}{ad:List (List Nat)}{ax:List Nat}(h:Rd L ad ax){k:Nat}{x:aD}(h1:1<=k)(hx:L[k-1]? =some x):se (L.map aD.aA) k=true/\x.bs<=4/\x.op<=x.bs/\x.bs-x.op<=(stF (L.map aD.aA) (k-1)).length/\x.cs.length<=2/\∀ac∈x.cs,1<=ac.1/\ac.1<=ac.2/\ac.2<k:=by
 obtain⟨eh,pZ,wu,iL,bL,bQ,cm,hl,hL⟩:=h.line h1 hx;have ay:(L.take (k-1)).length+1=k:=by omega
 have a0:=bL.inv;obtain⟨s1,s2,ey,bd,ie,hS⟩:=bQ.shape a0 ([x.aA]++(L.drop k).map aD.aA);rw[ay] at s1 hS;have hm:L.map aD.aA=(L.take (k-1)).map aD.aA++([x.aA]++(L.drop k).map aD.aA):=by
  conv=>lhs;rw[hL]
  simp only[g_,pb,A3,jA]
 refine⟨?_,s2,ey,?_,ie,hS⟩
 ·unfold se;rw[kA,hx,hm];exact s1
 ·rw[hm,sx (by rw[b0];omega)];have:=bL.b.st;rw[hl] at this;rw[this,Bx,a0.len];exact bd
theorem Rd.ix{L:List aD}{ad:List (List Nat)}{ax:List Nat}(h:Rd L ad ax)(hL:L.length<=40):wT (L.map aD.aA) where
 lt:=by rw[b0];omega
 num x hx:=by
  obtain⟨y,hy,rfl⟩:=dx.1 hx;obtain⟨i,hi,rfl⟩:=jw hy;obtain⟨_,a,c,_⟩:=h.shape (k:=i+1) U (cK hi);exact⟨by show(L[i]).bs<_;omega,c⟩
 go i hi:=by
  rw[b0] at hi;obtain⟨_,_,_,a,_⟩:=h.shape (k:=i+1) U (cK hi);rw[e_];exact a
theorem rb{T:List bu}{j:Nat}(h1:1<=j)(h2:j<=T.length):(c3 T).getD (j-1) []=stF T j:=by
 unfold c3;rw[fO,kA,Mf U];show stF T (j-1+1)=_;rw[show j-1+1=j by omega]
theorem Rd.mV{L:List aD}{ad:List (List Nat)}{ax:List Nat}(h:Rd L ad ax)(hL:L.length<=40):tF (L.map aD.aA) (c3 (L.map aD.aA)) where
 len:=by unfold c3;rw[b0,lZ]
 lt:=by rw[b0];omega
 bs x hx:=by have:=(h.ix hL).num x hx;omega
 blt x hx:=by
  obtain⟨i,hi,rfl⟩:=dx.1 hx;rw[IT] at hi;rw[(h.ix hL).len i hi,cK hi];show(L.map aD.aA)[i].bs<_;have:=(h.ix hL).num _ (bJ hi);omega
def mA:Fm:=.mk 15 [63,65] none none
def c1:Fm:=.mk 15 [63,66] none none
def QS:Fm:=.mk 15 [63,67] none none
def gm(k:Nat)(a c:Fm):Fm:=.mk (4+k) [] none (some [a,c])
def re(a:Fm):Fm:=.mk 3 [] none (some [a])
def m0:Fm:=.mk 2 [] none none
def hv(f:Fm):e7:=⟨[],f,[],false⟩
def nA(h f:Fm):e7:=⟨[h],f,[],false⟩
def QT:dj:=⟨EU,[hv mA,hv c1],gm 0 mA c1⟩
def E7(q:Bool):dj:=⟨jt q,[hv (gm 0 mA c1)],cond q c1 mA⟩
def QU:dj:=⟨EV,[hv mA],gm 1 mA c1⟩
def a1n:dj:=⟨[111,114,73,50],[hv c1],gm 1 mA c1⟩
def a1o:dj:=⟨[111,114,69],[hv (gm 1 mA c1),nA mA QS,nA c1 QS],QS⟩
def rf:dj:=⟨ly,[nA mA c1],gm 2 mA c1⟩
def QV:dj:=⟨w9,[hv (gm 2 mA c1),hv mA],c1⟩
def QW:dj:=⟨w7,[nA mA m0],re mA⟩
def QX:dj:=⟨w_,[hv mA,hv (re mA)],m0⟩
def QY:dj:=⟨EW,[hv m0],mA⟩
def iz:List dj:=[QT,E7 false,E7 true,QU,a1n,a1o,rf,QV,QW,QX,QY]
inductive o2:dj->PF->List (PF×List PF)->Prop
 |and (f g):o2 QT (.bin 0 f g) [(f,[]),(g,[])]
 |jt (q f g):o2 (E7 q) (cond q g f) [(.bin 0 f g,[])]
 |or (f g):o2 QU (.bin 1 f g) [(f,[])]
 |QZ (f g):o2 rf (.bin 2 f g) [(g,[f])]
 |w9 (f g):o2 QV g [(.bin 2 f g,[]),(f,[])]
 |a1p (f):o2 QW (.neg f) [(.cQ,[f])]
 |w_ (f):o2 QX .cQ [(f,[]),(.neg f,[])]
 |y6 (f):o2 QY f [(.cQ,[])]
def PF.low(a:PF):Prop:=a.dep<=38/\a.bS<=380
structure oc(g:dN)(p:PF×List PF):Prop where
 fz:g.fz=p.1.aO
 hyps:g.hyps=p.2.map PF.aO
 rest:∀F∈g.rest,∃a:PF,F=a.aO/\a.low
 low:p.1.low/\∀a∈p.2,a.low
 len:g.rest.length<=40
inductive sy:List dN->List (PF×List PF)->Prop
 |nil:sy [] []
 |cons {g gs p aE}:oc g p->sy gs aE->sy (g::gs) (p::aE)
structure Q0(K:Nat->List AV->AV->Prop)(R:List dj)(cF:AV):Prop where
 pre:∃rest,R=iz++rest
 ap:∀r F aE gs,o2 r F aE->F.low->sy gs aE->∃ck eS cy cz ax,K oR [r.A,F.aO.A true,gZ gs] (.a9 [.ah [ck,eS],.ah [.i .u8 (Int.ofNat cy),ai cz,ai ax],ai 0])
 cB:∀f:PF,f.low->K tA [f.aO.A true,f.aO.A true] (.b true)
 fW:∀f:PF,f.low->K oQ [cF,f.aO.A true] (.b true)
theorem zc{L:List aD}{k:Nat}{x:aD}(hx:L[k-1]? =some x):fj (L.map aD.aA) k=x.f.aO:=by
 unfold fj;rw[fO,kA,kA,hx];rfl
theorem Q1{L:List aD}{k:Nat}{x:aD}(hx:L[k-1]? =some x):ig (L.map aD.aA) k=x.bs:=by
 unfold ig;rw[fO,kA,kA,hx];rfl
theorem Rd.low{L:List aD}{ad:List (List Nat)}{ax:List Nat}(h:Rd L ad ax)(hL:L.length<=36){x:aD}(hx:x∈L):x.f.low:=by
 have:=h.inv.dep x hx;have:=h.inv.bS x hx;exact⟨U,U⟩
theorem Rd.a1q{L:List aD}{ad:List (List Nat)}{ax:List Nat}(h:Rd L ad ax)(hL:L.length<=36){l:List Nat}(hl:∀n∈l,1<=n/\n<=L.length):∀F∈l.map (fj (L.map aD.aA)),∃a:PF,F=a.aO/\a.low:=λF b4=>by
 obtain⟨n,hn,rfl⟩:=dx.1 b4;have hn:=hl n hn;have hx:L[n-1]? =some L[n-1]:=cK U;exact⟨_,zc hx,h.low hL (bJ _)⟩
theorem Rd.BP{L:List aD}{i:Nat}:(∀n∈(ndsL (L.map aD.aA) (L.map aD.aA).length).getD i [],1<=n/\n<=L.length)/\((ndsL (L.map aD.aA) (L.map aD.aA).length).getD i []).length<=L.length+1:=by
 rw[fO];cases h:(ndsL (L.map aD.aA) (L.map aD.aA).length)[i]? with
 |none=>exact⟨λn hn=>by simp at hn,aG⟩
 |some l=>
  have hm:=hH h;have h1:=yP hm;rw[b0] at h1;exact⟨λn hn=>⟨Ey l hm n hn,h1.2 n hn⟩,h1.1⟩
theorem c1t{L ko:List aD}{C:List bu}{eh:List (List Nat)}{pZ:List Nat}{k c:Nat}(iV:L.map aD.aA=ko.map aD.aA++C)(ay:ko.length+1=k)(sW:k<=L.length)(b3:J0 ko eh pZ)(a0:xb ko eh pZ)(ab:∃f∈eh,c∈f)(cn:stF (L.map aD.aA) k=pZ.tail):ns (c3 (L.map aD.aA)) k c c=true:=by
 obtain⟨f,hf,iu⟩:=ab;have l9:=a0.mem f hf c iu;obtain⟨d,hd,rfl⟩:=jw hf;have h1:(c3 (L.map aD.aA)).getD (c-1) []=pZ.tail.take d:=by
  rw[rb l9.1 (by rw[b0];omega),iV,sx (by rw[b0];exact l9.2)];exact b3.mem d hd c iu
 have h2:(c3 (L.map aD.aA)).getD (k-1) []=pZ.tail:=by rw[rb U (by rw[b0];omega),cn]
 unfold ns;rw[h1,h2,decide_eq_true I,decide_eq_true (by rw[gI];omega),decide_eq_true]
 ·rfl
 ·rw[gI,List.take_eq_take_min]
theorem c1u{L:List aD}{ad:List (List Nat)}{ax:List Nat}(h:Rd L ad ax)(hL:L.length<=36){k c:Nat}{p:e7}{f:PF}(au:p.cM=false)(av:ns (c3 (L.map aD.aA)) k c c=true)(hf:∃x,L[c-1]? =some x/\x.f=f):gY (L.map aD.aA) (c3 (L.map aD.aA)) k p (c,c)=true/\oc (iK (L.map aD.aA) (c3 (L.map aD.aA)) (ndsL (L.map aD.aA) (L.map aD.aA).length) k p (c,c)) (f,[]):=by
 obtain⟨x,hx,rfl⟩:=hf;unfold gY iK;rw[au];simp only[cond_false,av,cond_true];exact⟨trivial,zc hx,rfl,h.a1q hL Rd.BP.1,⟨h.low hL (hH hx),λa ha=>by simp at ha⟩,by
  show(List.map _ _).length<=40;rw[b0];have:=(Rd.BP (L:=L) (i:=c-1)).2;omega⟩
theorem Q2{b7:List Nat}{rest:List dj}:∀ {l:List dj} {i:Nat},ixN b7 l=some i->ixN b7 (l++rest)=some i
 |[],i,h=>by cases h
 |r::l,i,h=>by
  rw[ixN] at h;show ixN b7 (r::(l++rest))=some i;rw[ixN];split at h
  ·rename_i e;rw[if_pos e];exact h
  ·rename_i e;rw[if_neg e];cases hx:ixN b7 l with
   |none=>rw[hx] at h;cases h
   |some m=>rw[hx] at h;rw[Q2 hx];exact h
theorem xf{K:Nat->List AV->AV->Prop}{R:List dj}{cF:AV}(cU:Q0 K R cF){T:List bu}{B N:List (List Nat)}{k:Nat}{x:aD}(hh:x.hyp=false)(i:Nat){r:dj}(al:iz[i]? =some r)(hn:x.fV≠jJ)(q4:ixN x.fV iz=some i)(ab:citeB T B k r.cS x.cs=true){aE:List (PF×List PF)}(ha:o2 r x.f aE)(kp:x.f.low)(hg:sy (gotsL T B N k r.cS x.cs) aE):j2 K T B N R k x.aA true 0 0 0 0:=by
 obtain⟨rest,rfl⟩:=cU.pre;obtain⟨h1,h2⟩:=fC.1 al;have e:(iz++rest)[i]'(by rw[c4];omega)=r:=by rw[g9 h1,h2]
 obtain⟨ck,eS,cy,cz,ax,hA⟩:=cU.ap r x.f aE _ ha kp hg;have cW:Ju K T B N k x.aA ((iz++rest)[i]'(by rw[c4];omega)) (if 0=0 then 0 else 6) (if 0=0 then 0 else cy) (if 0=0 then 0 else cz) (if 0=0 then 0 else ax):=by
  rw[e];exact .ap ab ck eS cy cz ax 0 hA
 exact .step I hh hn i _ (Q2 q4) cW
section
variable {K:Nat->List AV->AV->Prop}{R:List dj}{cF:AV}
theorem Rd.bad(cU:Q0 K R cF){L:List aD}{ad:List (List Nat)}{ax:List Nat}(h:Rd L ad ax)(hL:L.length<=36){k:Nat}{x:aD}(h1:1<=k)(hx:L[k-1]? =some x):j2 K (L.map aD.aA) (c3 (L.map aD.aA)) (ndsL (L.map aD.aA) (L.map aD.aA).length) R k x.aA true 0 0 0 0:=by
 obtain⟨eh,pZ,wu,iL,bL,bQ,cm,hl,EO⟩:=h.line h1 hx;have sW:k<=L.length:=by have:=(fC.1 hx).1;omega
 have iv:x.f.low:=h.low hL (hH hx);have eZ:∀i y,(L.take (k-1))[i]? =some y->L[i]? =some y:=λi y hy=>by
  have:=(fC.1 hy).1;rw[gI] at this;rwa[p_ U] at hy
 generalize L.take (k-1)=ko at bL bQ cm hl EO eZ;have ay:ko.length+1=k:=by omega
 have iV:L.map aD.aA=ko.map aD.aA++([x.aA]++(L.drop k).map aD.aA):=by
  conv=>lhs;rw[EO]
  simp only[g_,pb,A3,jA]
 have a0:=bL.inv;have b3:=bL.b;have cn:stF (L.map aD.aA) k=iL.tail:=by
  have h3:=cm.b.st;rw[c4,show ko.length+[x].length=k from ay] at h3;rw[<-h3,iV,← jA,show ko.map aD.aA++[x.aA]=(ko++[x]).map aD.aA by simp];exact sx (by rw[b0,c4];exact P1 ay.symm)
 cases bQ with
 |vx f n au=>exact .hyp I I
 |tT _ _ n a5 bF=>exact .hyp I I
 |lv F f _ a5 ab=>
  have hg:∀ {c:Nat} {p:e7} {a:PF},(∃b6∈F++[f],c∈b6)->p.cM=false->nz ko c a->gY (L.map aD.aA) (c3 (L.map aD.aA)) k p (c,c)=true/\oc (iK (L.map aD.aA) (c3 (L.map aD.aA)) (ndsL (L.map aD.aA) (L.map aD.aA).length) k p (c,c)) (a,[]):=λab au ⟨y,hy,hf⟩=>c1u h hL au (c1t iV ay sW b3 a0 ab cn) ⟨y,eZ _ _ hy,hf⟩;cases ab with
  |and a2 bm f1 f2 an=>
   obtain⟨dJ,t1⟩:=hg (p:=hv mA) a2 I f1;obtain⟨hE,t2⟩:=hg (p:=hv c1) bm I f2;exact xf cU (x:=⟨F.length,0,false,_,EU,_⟩) I 0 I (by show EU≠jJ;decide) I (by show(gY _ _ _ (hv mA) _&&(gY _ _ _ (hv c1) _&&true))=true;rw[dJ,hE];rfl) (.and _ _) iv (.cons t1 (.cons t2 .nil))
  |or n a2 f1 an=>
   obtain⟨dJ,t1⟩:=hg (p:=hv mA) a2 I f1;exact xf cU (x:=⟨F.length,0,false,_,EV,_⟩) I 3 I (by show EV≠jJ;decide) I (by show(gY _ _ _ (hv mA) _&&true)=true;rw[dJ];rfl) (.or _ _) iv (.cons t1 .nil)
  |jt q a2 f1=>
   obtain⟨dJ,t1⟩:=hg (p:=hv (gm 0 mA c1)) a2 I f1;exact xf cU (x:=⟨F.length,0,false,_,jt q,_⟩) I (cond q 2 1) (r:=E7 q) (by cases q<;>rfl) (by show jt q≠jJ;cases q<;>decide) (by cases q<;>rfl) (by show(gY _ _ _ (hv (gm 0 mA c1)) _&&true)=true;rw[dJ];rfl) (.jt q _ _) iv (.cons t1 .nil)
  |imp a2 bm f1 f2=>
   obtain⟨dJ,t1⟩:=hg (p:=hv (gm 2 mA c1)) a2 I f1;obtain⟨hE,t2⟩:=hg (p:=hv mA) bm I f2;exact xf cU (x:=⟨F.length,0,false,_,w9,_⟩) I 7 I (by show w9≠jJ;decide) I (by show(gY _ _ _ (hv (gm 2 mA c1)) _&&(gY _ _ _ (hv mA) _&&true))=true;rw[dJ,hE];rfl) (.w9 _ _) iv (.cons t1 (.cons t2 .nil))
  |not a2 bm f1 f2=>
   obtain⟨dJ,t1⟩:=hg (p:=hv mA) a2 I f1;obtain⟨hE,t2⟩:=hg (p:=hv (re mA)) bm I f2;exact xf cU (x:=⟨F.length,0,false,_,w_,_⟩) I 9 I (by show w_≠jJ;decide) I (by show(gY _ _ _ (hv mA) _&&(gY _ _ _ (hv (re mA)) _&&true))=true;rw[dJ,hE];rfl) (.w_ _) iv (.cons t1 (.cons t2 .nil))
  |again a2 f1=>
   obtain⟨dJ,t1⟩:=hg (p:=mX) a2 I f1;obtain⟨y,hy,hf⟩:=f1;have Q3:=cU.cB _ iv;rename_i c;have e:fj (L.map aD.aA) c=y.f.aO:=zc (eZ _ _ hy);refine .again I I I (cD:=cond true 0 6) (cy:=cond true 0 2) (cz:=cond true 0 1) (.ap (c,c) I ?_ true ?_)
   ·show(gY _ _ _ mX _&&true)=true;rw[dJ];rfl
   ·show K tA [(fj (L.map aD.aA) c).A true,_] _;rw[e,hf];exact Q3
  |y6 n a2 f1=>
   obtain⟨dJ,t1⟩:=hg (p:=hv m0) a2 I f1;exact xf cU (x:=⟨F.length,0,false,_,EW,_⟩) I 10 I (by show EW≠jJ;decide) I (by show(gY _ _ _ (hv m0) _&&true)=true;rw[dJ];rfl) (.y6 _) iv (.cons t1 .nil)
 |shut F e f _ first eY BQ=>
  rename_i eX ej;have hlen:=a0.len;simp only[c4,gp,g6] at hlen;obtain⟨p1,n,p2⟩:=a0.fst iL.length first U aG
  rw[eY] at p2;cases p2;have ef:=(fC.1 eY).1;have c1v:iL≠[]:=λe=>by rw[e] at hlen;simp at hlen
  have ht:(iL++[first]).tail=iL.tail++[first]:=P0 c1v;have E6:iL.tail.length=F.length:=by rw[Bx];omega
  have c1w:ko≠[]:=λe=>by rw[e] at BQ;simp at BQ
  have JG:=(a0.last c1w).2 _ BQ;simp only[c4,gp,g6] at JG;have xg:(L.map aD.aA).length=L.length:=b0 _;have er:(c3 (L.map aD.aA)).getD (first-1) []=iL.tail++[first]:=by
   rw[rb p1 U,iV,sx (by rw[b0];omega),b3.fst iL.length first U aG,ht,sr (by simp;omega)]
  have dy:(c3 (L.map aD.aA)).getD (ko.length-1) []=iL.tail++[first]:=by
   rw[rb U U,iV,sx (by rw[b0];exact br _),b3.st,ht]
  have dV:(c3 (L.map aD.aA)).getD (k-1) []=iL.tail:=by rw[rb U U,cn]
  have d1:ig (L.map aD.aA) k=F.length:=by
   rw[Q1 hx,BH];cases decide (ej.f= .cQ)<;>rfl
  have d2:ig (L.map aD.aA) ko.length=F.length+1:=by rw[Q1 (eZ _ _ BQ),JG];omega
  have s1:mS (c3 (L.map aD.aA)) first (F.length+1) first=true:=by
   unfold mS;rw[er];exact decide_eq_true (by rw[By,← E6];simp)
  have s2:mS (c3 (L.map aD.aA)) ko.length (F.length+1) first=true:=by
   unfold mS;rw[dy];exact decide_eq_true (by rw[By,← E6];simp)
  have ey:mS (c3 (L.map aD.aA)) (ko.length+1) (F.length+1) first=false:=by
   unfold mS;rw[ay,dV];exact decide_eq_false (by rw[By,s6 U];simp)
  have a1r:ih (L.map aD.aA) (c3 (L.map aD.aA)) k first ko.length=true:=by
   unfold ih;rw[d1,d2,s1,s2,ey,er,dV,y1 U,sr U,decide_eq_true I,decide_eq_true I];rfl
  have J3:iZ (L.map aD.aA) first (F.length+1)=[first]:=by
   unfold iZ;obtain⟨m,hm⟩:∃m,(L.map aD.aA).length+1-first=m+1:=⟨L.length-first,U⟩
   rw[hm,yL,kA,eZ _ _ eY];refine(if_pos ⟨rfl,by show iL.length=_;omega,U⟩).trans ?_
   congr 1
   cases m with
   |zero=>rfl
   |succ m=>
    rw[yL,kA];cases bb:L[first+1-1]? with
    |none=>rfl
    |some z=>
     refine if_neg ?_;rintro⟨dE,lR,cR⟩;have dE:z.hyp=true:=dE;have lR:z.bs=F.length+1:=lR;have cR:¬(first<first+1/\0<z.op):=cR;have:=h.b.hyp z (hH bb) dE U;omega
  have EM:(ff n).low:=h.low hL (hH (eZ _ _ eY));have EL:=h.low hL (hH (eZ _ _ BQ));have zT:∀p:e7,p.cM=true->gY (L.map aD.aA) (c3 (L.map aD.aA)) k p (first,ko.length)=true/\oc (iK (L.map aD.aA) (c3 (L.map aD.aA)) (ndsL (L.map aD.aA) (L.map aD.aA).length) k p (first,ko.length)) (ej.f,[ff n]):=λp au=>by
   unfold gY iK;rw[au];simp only[cond_true,a1r,d1,J3];refine⟨trivial,zc (eZ _ _ BQ),?_,h.a1q hL (λn hn=>Rd.BP.1 n (nP.1 hn).1),⟨EL,λa ha=>?_⟩,?_⟩
   ·show[fj (L.map aD.aA) first]=[(ff n).aO];rw[zc (eZ _ _ eY)]
   ·rw[cu.1 ha];exact EM
   ·show(List.map _ _).length<=40;rw[b0];have h2:=(Rd.BP (L:=L) (i:=ko.length-1)).2;have h3:(lU (L.map aD.aA) (ndsL (L.map aD.aA) (L.map aD.aA).length) k first ko.length).length<=_:=yJ _ _;omega
  clear a1r s1 s2 ey er dy dV d1 d2 J3;rw[BH] at hx iv ⊢;cases hd:decide (ej.f= .cQ) with
  |true=>
   rw[hd] at iv;obtain⟨dJ,t1⟩:=zT (nA mA m0) I;rw[of_decide_eq_true hd] at t1;exact xf cU (x:=⟨F.length,0,false,.neg (ff n),w7,[(first,ko.length)]⟩) I 8 I (by show w7≠jJ;decide) I (by show(gY _ _ _ (nA mA m0) _&&true)=true;rw[dJ];rfl) (.a1p _) iv (.cons t1 .nil)
  |false=>
   rw[hd] at iv;obtain⟨dJ,t1⟩:=zT (nA mA c1) I;exact xf cU (x:=⟨F.length,0,false,.bin 2 (ff n) ej.f,ly,[(first,ko.length)]⟩) I 6 I (by show ly≠jJ;decide) I (by show(gY _ _ _ (nA mA c1) _&&true)=true;rw[dJ];rfl) (.QZ _ _) iv (.cons t1 .nil)
end
theorem any_congr{α:Type}{l:List α}{p q:α->Bool}(h:∀x∈l,p x=q x):l.any p=l.any q:=by
 induction l with
 |nil=>rfl
 |cons x l aH=>rw[Oz,Oz,h x aG,aH λy hy=>h y (by simp[hy])]
theorem E8{T:List bu}(hh:∀x∈T,x.hyp=true->x.op=0->x.bs=0){a d:Nat}(ha:1<=a)(kc:a<=T.length)(hd:1<=d):iZ T a d=match T[a-1]? with
  |some x=>if x.hyp=true/\x.bs=d then[a] else[]
  |none=>[]:=by
 unfold iZ;obtain⟨m,hm⟩:∃m,T.length+1-a=m+1:=⟨T.length-a,U⟩
 rw[hm,yL];cases hx:T[a-1]? with
 |none=>rfl
 |some x=>
  show(if x.hyp=true/\x.bs=d/\¬(a<a/\0<x.op) then a::asmF T a d m (a+1) else[])=if x.hyp=true/\x.bs=d then[a] else[]
  by_cases h:x.hyp=true/\x.bs=d
  ·rw[if_pos h,if_pos ⟨h.1,h.2,U⟩]
   congr 1
   cases m with
   |zero=>rfl
   |succ m=>
    rw[yL];cases bb:T[a+1-1]? with
    |none=>rfl
    |some z=>
     refine if_neg ?_;rintro⟨dE,lR,cR⟩;have:=hh z (hH bb) dE U;omega
  ·rw[if_neg h,if_neg λh'=>h ⟨h'.1,h'.2.1⟩]
theorem p3{A C:List bu}{j:Nat}(h1:1<=j)(h2:j<=A.length):(c3 (A++C)).getD (j-1) []=(c3 A).getD (j-1) []:=by
 rw[rb h1 h2,rb h1 (by rw[c4];omega),sx h2]
theorem zd{A C:List bu}{j:Nat}(h1:1<=j)(h2:j<=A.length):ig (A++C) j=ig A j:=by
 unfold ig;rw[g_,fO,fO,kD (by rw[b0];omega)]
theorem c1x{A C:List bu}(hh:∀x∈A++C,x.hyp=true->x.op=0->x.bs=0){N:List (List Nat)}{k:Nat}(h1:1<=k)(ay:k<=A.length)(ab:∀x,A[k-1]? =some x->sa k x.cs):needL (A++C) (c3 (A++C)) N k=needL A (c3 A) N k:=by
 unfold needL;rw[kD U,cK U];show cond _ _ _=cond _ _ _;have k8:=(ab _ (cK U)).2;generalize A[k-1]=x at k8
 congr 1
 apply List.filter_congr;intro n _;unfold n_;refine any_congr λac dW=>?_;obtain⟨gC,lN,qK⟩:=k8 ac dW;have e:qV (A++C) (c3 (A++C)) N k ac=qV A (c3 A) N k ac:=by
  have aR:ih (A++C) (c3 (A++C)) k ac.1 ac.2=ih A (c3 A) k ac.1 ac.2:=by
   unfold ih mS;rw[zd h1 ay,zd U U,p3 (j:=ac.1) gC U,p3 (j:=k) h1 ay,p3 (j:=ac.2) U U,p3 (j:=ac.2+1) U U]
  have a6:lU (A++C) N k ac.1 ac.2=lU A N k ac.1 ac.2:=by
   unfold lU;rw[zd h1 ay,E8 hh gC (by rw[c4];omega) U,E8 (λx hx=>hh x (by simp[hx])) gC U U,kD U]
  unfold qV;rw[aR,a6]
 rw[e]
theorem a1s{A C:List bu}(hh:∀x∈A++C,x.hyp=true->x.op=0->x.bs=0)(ab:∀k x,1<=k->A[k-1]? =some x->sa k x.cs):∀ {j:Nat},j<=A.length->ndsL (A++C) j=ndsL A j
 |0,_=>rfl
 |j+1,h=>by rw[ndsL,ndsL,a1s hh ab U,c1x hh U h λx hx=>ab _ x U hx]
theorem a1t{T:List bu}{i m:Nat}(hi:i<m):∀ {n:Nat},(ndsL T (m+n))[i]? =(ndsL T m)[i]?
 |0=>rfl
 |n+1=>by
  rw[show m+(n+1)=(m+n)+1 by omega,ndsL,kD (by rw[Jh];omega)];exact a1t hi
theorem Rd.tX{L:List aD}{ad:List (List Nat)}{ax:List Nat}(h:Rd L ad ax){k:Nat}{x:bu}(h1:1<=k)(hx:(L.map aD.aA)[k-1]? =some x):sa k x.cs:=by
 rw[kA] at hx;cases hy:L[k-1]? with
 |none=>rw[hy] at hx;cases hx
 |some y=>
  rw[hy] at hx;cases hx;obtain⟨_,_,_,_,a,c⟩:=h.shape h1 hy;exact⟨by show y.cs.length<_;omega,c⟩
theorem BR{α:Type}{J:ae}{n:Nat}{aa:Option Nat}{f:α->AV}{l:List α}(h:∀x∈l,bT J n (f x)=some (f x)):bT J (n+1) (slA true aa (l.map f))=some (slA true aa (l.map f)):=by
 cases l with
 |nil=>rfl
 |cons x l=>
  have hm:mapO (bT J n) ((x::l).map f)=some ((x::l).map f):=Bl I λi h1 h2=>by
   rw[e_];exact h _ (bJ _)
  show bT J (n+1) (.a_ true aa ((x::l).map f))=some (.a_ true aa ((x::l).map f));rw[snapshot_succ];simp only[hm]
theorem BS{J:ae}{n:Nat}{F:Fm}(h:2*F.dep+2<=n):mapO (bT J n) (bA F)=some (bA F):=by
 have h1:=Fm.snap J true _ F (n+1) (br _) U;rw[jY] at h1;obtain⟨fa,a2,bm⟩:=Hw h1;cases bm;exact a2
theorem c1y{J:ae}{n:Nat}{x:bu}(h:2*x.f.dep+12<=n):bT J n x.A=some x.A:=by
 obtain⟨n,rfl⟩:∃m,n=m+5:=⟨n-5,U⟩
 have h1:mapO (bT J (n+4)) (bA x.f)=some (bA x.f):=BS U;have h2:bT J (n+4) (np true x.cs)=some (np true x.cs):=BR λc _=>rfl;refine pL (l:=[ai x.bs,ai x.op,.b x.hyp]++(bA x.f++[.s x.fV,np true x.cs])) ?_;refine tK (l:=[ai x.bs,ai x.op,.b x.hyp]) (r:=[ai x.bs,ai x.op,.b x.hyp]) I (tK h1 ?_);rw[mapO_cons,mapO_cons,h2];rfl
theorem c1z{J:ae}{n:Nat}{T:List bu}(a5:T≠[])(h:∀x∈T,2*x.f.dep+13<=n):bT J n (cC T)=some (cC T):=by
 cases n with
 |zero=>
  cases T with
  |nil=>exact absurd I a5
  |cons x l=>have:=h x aG;omega
 |succ n=>
  have:=BR (J:=J) (n:=n) (aa:=some 9) (f:=bu.A) (l:=T) λx hx=>c1y (by have:=h x hx;omega);cases T with
  |nil=>exact absurd I a5
  |cons x l=>exact this
section
variable {A C:List bu}
theorem E9{n:Nat}(h1:1<=n)(h2:n<=A.length):fj (A++C) n=fj A n:=by
 rw[Be h1 h2,Be h1 (by rw[c4];omega),g9 U]
theorem a1u{k a c:Nat}(ay:k<=A.length)(ha:1<=a)(dW:a<=c)(k8:c<k):ih (A++C) (c3 (A++C)) k a c=ih A (c3 A) k a c:=by
 unfold ih mS;rw[zd U ay,zd U U,p3 (j:=a) ha U,p3 (j:=k) U ay,p3 (j:=c) U U,p3 (j:=c+1) U U]
theorem a1v{k a c:Nat}(ay:k<=A.length)(ab:1<=c)(k8:c<k):ns (c3 (A++C)) k a c=ns (c3 A) k a c:=by
 unfold ns;rw[p3 (j:=c) ab U,p3 (j:=k) U ay]
theorem c1A{k:Nat}{p:e7}{ac:Nat×Nat}(ay:k<=A.length)(dW:1<=ac.1/\ac.1<=ac.2/\ac.2<k):gY (A++C) (c3 (A++C)) k p ac=gY A (c3 A) k p ac:=by
 unfold gY;rw[a1u ay dW.1 dW.2.1 dW.2.2,a1v ay U dW.2.2]
theorem E_{k:Nat}(ay:k<=A.length):∀ {aE:List e7} {cs:List (Nat×Nat)},(∀ac∈cs,1<=ac.1/\ac.1<=ac.2/\ac.2<k)->citeB (A++C) (c3 (A++C)) k aE cs=citeB A (c3 A) k aE cs
 |[],[],_=>rfl
 |[],_::_,_=>rfl
 |_::_,[],_=>rfl
 |p::aE,c::cs,h=>by
  show(gY _ _ _ _ _&&citeB _ _ _ _ _)=(gY _ _ _ _ _&&citeB _ _ _ _ _);rw[c1A ay (h c aG),E_ ay λac dW=>h ac (by simp[dW])]
variable (hh:∀x∈A++C,x.hyp=true->x.op=0->x.bs=0)(ab:∀k x,1<=k->A[k-1]? =some x->sa k x.cs)
include hh
theorem c1B{a d:Nat}(ha:1<=a)(kc:a<=A.length)(hd:1<=d):iZ (A++C) a d=iZ A a d/\∀n∈iZ A a d,n=a:=by
 rw[E8 hh ha (by rw[c4];omega) hd,E8 (λx hx=>hh x (by simp[hx])) ha kc hd,kD U];refine⟨rfl,λn hn=>?_⟩;split at hn
 ·split at hn
  ·exact cu.1 hn
  ·cases hn
 ·cases hn
include ab
theorem Q4{i:Nat}(hi:i<A.length):(ndsL (A++C) (A++C).length).getD i []=(ndsL A A.length).getD i []:=by
 rw[fO,fO,c4,a1t hi,a1s hh ab (br _)]
omit hh ab in
theorem Q5{i:Nat}:∀n∈(ndsL A A.length).getD i [],1<=n/\n<=A.length:=λn hn=>by
 rw[fO] at hn;cases h:(ndsL A A.length)[i]? with
 |none=>rw[h] at hn;cases hn
 |some l=>
  rw[h] at hn;have hm:=hH h;exact⟨Ey l hm n hn,(yP hm).2 n hn⟩
theorem c1C{k:Nat}{p:e7}{ac:Nat×Nat}(ay:k<=A.length)(dW:1<=ac.1/\ac.1<=ac.2/\ac.2<k):iK (A++C) (c3 (A++C)) (ndsL (A++C) (A++C).length) k p ac=iK A (c3 A) (ndsL A A.length) k p ac:=by
 obtain⟨a2,bm,cx⟩:=dW;obtain⟨aR,a6⟩:=c1B hh a2 U (show 1<=ig A k+1 by omega);have c0:(ndsL (A++C) (A++C).length).getD (ac.2-1) []=(ndsL A A.length).getD (ac.2-1) []:=Q4 hh ab U;have h7:∀l:List Nat,(∀n∈l,1<=n/\n<=A.length)->l.map (fj (A++C))=l.map (fj A):=λl hl=>uc λn hn=>E9 (hl n hn).1 (hl n hn).2;unfold iK;rw[a1u ay a2 bm cx,a1v ay U cx,E9 U U];unfold lU;rw[c0,zd U ay,aR,h7 _ λn hn=>by rw[a6 n hn];omega,h7 _ λn hn=>Q5 n (nP.1 hn).1,h7 _ Q5]
theorem a1w{k:Nat}(ay:k<=A.length):∀ {aE:List e7} {cs:List (Nat×Nat)},(∀ac∈cs,1<=ac.1/\ac.1<=ac.2/\ac.2<k)->gotsL (A++C) (c3 (A++C)) (ndsL (A++C) (A++C).length) k aE cs=gotsL A (c3 A) (ndsL A A.length) k aE cs
 |[],_,_=>rfl
 |_::_,[],_=>rfl
 |p::aE,c::cs,h=>by
  show iK _ _ _ _ _ _::gotsL _ _ _ _ _ _=iK _ _ _ _ _ _::gotsL _ _ _ _ _ _;rw[c1C hh ab ay (h c aG),a1w ay λac dW=>h ac (by simp[dW])]
theorem j2.app{K:Nat->List AV->AV->Prop}{R:List dj}{k:Nat}{x:bu}{fW:Bool}{cD cy cz ax:Nat}(ay:k<=A.length)(hx:∀ac∈x.cs,1<=ac.1/\ac.1<=ac.2/\ac.2<k)(h:j2 K A (c3 A) (ndsL A A.length) R k x fW cD cy cz ax):j2 K (A++C) (c3 (A++C)) (ndsL (A++C) (A++C).length) R k x fW cD cy cz ax:=by
 cases h with
 |form h=>exact .form h
 |hyp h h2=>exact .hyp h h2
 |fV h h2 h3 aQ=>exact .fV h h2 h3 aQ
 |again h h2 h3 de=>
  refine .again h h2 h3 ?_;cases de with
  |lv aQ=>exact .lv (by rw[E_ ay hx];exact aQ)
  |ap ac h0 aQ cB bF=>
   have dW:=hx ac (by rw[h0];simp);exact .ap ac h0 (by rw[E_ ay hx];exact aQ) cB (by rw[E9 U U];exact bF)
 |step h h2 h3 i hi aQ cW=>
  refine .step h h2 h3 i hi aQ ?_;cases cW with
  |lv bF=>exact .lv (by rw[E_ ay hx];exact bF)
  |ap bF ck eS cy cz ax e cw=>exact .ap (by rw[E_ ay hx];exact bF) ck eS cy cz ax e (by rw[a1w hh ab ay hx];exact cw)
end
end Go.Lyc
end
noncomputable section
namespace Go.Lyc
set_option maxHeartbeats 0
variable [Tok][TokOk]
open Go.RowKit Go.Lyc.T
attribute [local irreducible] ch bR dC ev bH
abbrev vz(L:Nat):List AV:=[.b false,ai L,ai 40]
abbrev Q6(j:Nat)(J τ:ae):Prop:=J.next<=τ.next/\∀i o,i≠j->J.get i=some o->τ.get i=some o
section
variable {b:b5}{K:Nat->List AV->AV->Prop}
theorem c1D(hh:bq (b.aV K) Il NN){j d L:Nat}(hd:d<=40)(hL:L<2^20){J:ae}(aC:J.get j=some (.cells (vz (L+1)))):
  bH (b.aV K) 0 (.f (.func Il) [] []) [aT j,ai d] J (λr τ=>r= .ok (.b true)/\τ.get j=some (.cells (vz L))/\Q6 j J τ):=by
 refine W.code hh.e hh.p hh.f I I I I λz=>?_;have H:Has J [(j,vz (L+1))]:=Has.nil.cons aC aG;refine aj ?_;refine W.st (bX:=vz L) H 0 I I I I I I λτ c_ H bG=>?_;refine aj ?_;exact ak.ret ⟨rfl,rfl,H.get _ (.head _),U,bG⟩
theorem c1E(hh:bq (b.aV K) Im NO){j d:Nat}{J:ae}:
  bH (b.aV K) 0 (.f (.func Im) [] []) [aT j,.af,ai d] J (λr τ=>r= .ok (.b true)/\τ=J):=by
 refine W.code hh.e hh.p hh.f I I I I λz=>?_;have H:Has J []:=Has.nil;refine aj ?_;refine ak.each 0 (λj F τ=>τ=J) ca I I I (λj F τ aC=>by omega) λF τ a0 _=>?_;subst a0;refine ak.norm [] trivial λF=>?_;refine aj ?_;exact ak.ret ⟨rfl,rfl,rfl⟩
theorem PF.row(a:PF):dU (some 5) (IX.drop (a.op*5))=some (.ah [.b true,.b true,uB (tE a.op),ai (IW a.op),ai a.subs.length]):=by
 cases a with
 |bin k a c=>
  obtain⟨k,ay⟩:=k;have:k=0\/k=1\/k=2:=by omega
  rcases this with rfl|rfl|rfl<;>rfl
 |_=>rfl
structure a1x(b:b5)(K:Nat->List AV->AV->Prop):Prop where
 fn:∀g aY r cc,K g aY r->K g aY cc->r=cc
 node:bq (b.aV K) Il NN
 c1F:bq (b.aV K) Im NO
 form:bq (b.aV K) NM YN
 Gp:b.ext nj=0/\b.pure nj=true
 PW:∀a:PF,K nj [uB (tE a.op),.s a.b7] (.b true)
 rows:b.mr Ou=some (.ah IX)
theorem a1y(h:a1x b K){j:Nat}:∀(n:Nat) (a:PF),a.dep<=n->∀d L,d+a.dep<=41->a.bS<=L->L<2^20->∀J:ae,J.get j=some (.cells (vz L))→
  bH (b.aV K) 0 (.f (.func NM) [] []) [aT j,.ah (e8 a),ai d] J (λr τ=>r= .ok (.b true)/\τ.get j=some (.cells (vz (L-a.bS)))/\Q6 j J τ)
 |0,a,hn=>by cases a<;>simp[PF.dep] at hn
 |n+1,a,hn=>λd L hd cv hL J aC=>by
  have eb:=a.pR;have qZ:1<=a.dep:=by cases a<;>simp[PF.dep]
  have a0n:=a.a0m;obtain⟨L,rfl⟩:∃m,L=m+1:=⟨L-1,U⟩
  refine W.code h.form.e h.form.p h.form.f I I I I λz=>?_;have H:Has J [(j,vz (L+1))]:=Has.nil.cons aC aG;have c1G:=ae.bE aC;refine aj ?_;generalize aX:J.next=q at c1G;refine W.cM (c:=e8 a) H aX I I I I I λeN c_ H bG=>?_;refine aj ?_;refine W.aq trivial I I I (c1D h.node U U (bG _ _ aC)) λr bl ⟨ar,hG,ei,bw⟩=>⟨_,ar,?_⟩
  have BM:=bw q _ U (H.get _ (.head _));have H:Has bl [(q,e8 a)]:=Has.nil.cons BM aG;refine aj ?_;refine W.val (v:=ai a.op) (ag:=bl) I I (b6X I U) ?_;refine aj ?_;refine W.val (v:=.dG true (.ah [.b true,.b true,uB (tE a.op),ai (IW a.op),ai a.subs.length])) (ag:=bl) I I (b3j (j:=a.op) (cs:=IX) (o:=true) (by show(match b.mr Ou with|some v=>some (AV.dG true v)|none=>none)=_;rw[h.rows]) I U a.row) ?_;refine aj ?_;refine W.cB (c:=[.b false,.b false,uB 0,ai 0,ai 0]) H I I I I λbZ fc H bg=>?_;refine W.st (bX:=[.b true,.b true,uB (tE a.op),ai (IW a.op),ai a.subs.length]) H 0 I I I I I I λcG fF H b9=>?_;have Hg:=b9 _ _ (by have:=ae.bE hG;omega) (bg _ _ hG);refine aj ?_;refine W.ga h.fn h.Gp (h.PW a) I I I I ?_;refine aj ?_;refine W.aq trivial I I I (c1E h.c1F) λr dq ⟨ar,pC⟩=>⟨_,ar,?_⟩
  subst pC;refine aj ?_;have O9:(a.subs.map λx=>AV.ah (bA x.aO)).length=a.subs.length:=b0 _;refine ak.norm [(79,ai 0),(78,ai a.subs.length),(77,jb a),(0,aT j),(2,ai d)] ⟨rfl,rfl,rfl,rfl,rfl,trivial⟩ λF=>?_;have hlen:=a.tP;refine ak.each a.subs.length (λi F τ=>τ.get j=some (.cells (vz (L-((a.subs.take i).map PF.bS).sum)))/\Q6 j dq τ/\sat [(77,jb a),(0,aT j),(2,ai d)] F) U ⟨Hg,⟨br _,λ_ _ _ h=>h⟩,rfl,rfl,rfl,trivial⟩ I I (λi F τ hi a0 Fa Q7=>?_) (λF τ a0 Fa=>?_)
  ·obtain⟨Fb,⟨Q8,iO⟩,a1z,cZ,bQ,_⟩:=a0;refine ak.norm [(79,ai i),(78,ai a.subs.length),(77,jb a),(0,aT j),(2,ai d)] ⟨Fa,Q7,a1z,cZ,bQ,trivial⟩ λF=>?_;have H:Has τ []:=Has.nil;have pt:=PF.kV (bJ hi);have jq:((a.subs.take (i+1)).map PF.bS).sum=((a.subs.take i).map PF.bS).sum+(a.subs[i]).bS:=by
    rw[mf hi,g_,EF];simp
   have hle:((a.subs.take (i+1)).map PF.bS).sum<=(a.subs.map PF.bS).sum:=by
    conv=>rhs;rw[<-xX (i+1) a.subs,g_,EF]
    omega
   refine aj ?_;generalize a.subs[i]=x at pt jq;refine W.cB (c:=[.i .u8 0,.s [],.af,.af]) H I I I I λeA jC H eu=>?_;refine W.st (bX:=bA x.aO) H 0 I I I I I I λe6 l_ H gX=>?_;have c1H:=gX _ _ (by have:=ae.bE Fb;omega) (eu _ _ Fb);refine aj ?_;have hx:bA x.aO=e8 x:=PF.Jx x;have hf:=a1y h n x U (d+1) (L-((a.subs.take i).map PF.bS).sum) U U U e6 c1H;rw[<-hx] at hf;refine W.aq trivial I I I hf λr fI ⟨ar,BD,tb,nu⟩=>⟨_,ar,?_⟩
   refine aj ?_;refine⟨rfl,rfl,?_,⟨U,λc o ab h=>nu _ _ ab (gX _ _ (by have:=ae.bE h;have:=ae.bE (iO _ _ ab h);omega) (eu _ _ (iO _ _ ab h)))⟩,rfl,rfl,rfl,trivial⟩;rw[BD,jq,Nat.sub_sub]
  ·obtain⟨Fb,⟨Q8,iO⟩,a1z,cZ,bQ,_⟩:=a0;refine ak.norm [] trivial λF=>?_;rw[mO] at Fb;have H:Has τ []:=Has.nil;refine aj ?_;refine ak.ret ⟨rfl,rfl,?_,U,λc o ab ho=>iO _ _ ab (b9 _ _ (by have:=ae.bE ho;omega) (bg _ _ (bw _ _ ab (bG _ _ ho))))⟩;rw[Fb,show L+1-a.bS=L-(a.subs.map PF.bS).sum by omega]
theorem c1I(h:a1x b K)(a:PF)(ha:a.low)(body:bO)(hb:NL.body=some body):ak (b.aV K) NL.ntmps body (gO [.ah (e8 a)]) ⟨.nil,0⟩ (lT 2 (.b true)):=by
 cases hb;refine W.args λz=>?_;have H:Has (⟨.nil,0⟩:ae) []:=Has.nil;have h1:=ha.1;have h2:=ha.2;refine aj ?_;refine W.cM (c:=e8 a) H I I I I I I λτ c_ H bG=>?_;refine aj ?_;refine W.cB (c:=[.b false,ai 0,ai 0]) H c_ I I I λbl ei H bw=>?_;refine aj ?_;refine W.st (bX:=vz 400) H 0 I I I I I I λbZ fc H bg=>?_;refine aj ?_;refine W.aq trivial I I I (a1y h _ a (br _) 1 400 U U ca bZ (H.get _ (.head _))) λr cG ⟨ar,_⟩=>⟨_,ar,?_⟩
 refine aj ?_;exact ak.ret ⟨rfl,rfl⟩
end
end Go.Lyc
end
noncomputable section
namespace Go.Lyc
set_option maxHeartbeats 0
variable [Tok][TokOk]
open Go.RowKit Go.Lyc.T
section
variable {b:b5}{K:Nat->List AV->AV->Prop}(hf:∀g aY r cc,K g aY r->K g aY cc->r=cc)
include hf in
theorem c1J(hh:bq (b.aV K) wE yB)(nW:∀a c:fA,K hT [dr a,dr c] (.i .i64 (pQ a c)))(qq:b.ext hT=0/\b.pure hT=true){l:List fA}{v:AV}(hl:l.length<=1000000)(J:ae)(hA:Acc J (some 2) v (l.map dr)):
  bH (b.aV K) 0 (.f (.func wE) [] []) [v,ai 0,ai l.length,.f (.func hT) [] []] J (λr ag=>r= .ok (.a9 [])/\ag.next=J.next/\(∃ct:List fA,ct.Perm l/\Acc ag (some 2) v (ct.map dr))/\∀i o,v.at? ≠some i->J.get i=some o->ag.get i=some o):=by
 refine bH.pM hh.e hh.p hh.f I I I ?_;refine ak.seq (ak.region ?_);refine aJ.go I I I I ?_;refine aJ.bin (a:=ai 0) (b:=ai 1) I I I I (pI U) ?_;refine aJ.go I I I I ?_;refine aJ.nil (ak.block ?_);refine ak.loop (λm f τ=>∃(i:Nat) (ct:List fA),i+m=l.length+1/\1<=i/\ct.Perm l/\Acc τ (some 2) v (ct.map dr)/\τ.next=J.next/\(∀i o,v.at? ≠some i->J.get i=some o->τ.get i=some o)∧
  sat [(0,v),(1,ai 0),(2,ai l.length),(3,.f (.func hT) [] []),(8,ai i)] f) ?_ l.length ⟨1,l,U,U,.refl _,hA,rfl,λi o _ h=>h,rfl,rfl,rfl,rfl,rfl,trivial⟩
 intro m g τ ⟨i,ct,hi,Jt,au,kC,hn,hold,hL⟩;refine ak.norm _ hL λg=>?_;clear hL;refine ak.seq (ak.seq (ak.region ?_));refine aJ.go I I I I ?_;refine aJ.go I I I I ?_;refine aJ.bin (a:=ai i) (b:=ai l.length) (v:=.b (decide (i<l.length))) I I I I (oK I) ?_;refine aJ.nil ?_;refine ak.iW I (λht=>?_) (λef=>?_)
 ·have hlt:i<l.length:=of_decide_eq_true ht;have fh:=au.length_eq;refine ak.skip (ak.seq ?_);refine ak.block (ak.seq (ak.region ?_));refine aJ.go I I I I ?_;refine aJ.go I I I I ?_;refine aJ.nil (ak.block ?_);refine ak.loop (λm f τ=>m<=i/\∃ct:List fA,ct.Perm l/\Acc τ (some 2) v (ct.map dr)/\τ.next=J.next/\(∀i o,v.at? ≠some i->J.get i=some o->τ.get i=some o)∧
   sat [(0,v),(1,ai 0),(2,ai l.length),(3,.f (.func hT) [] []),(8,ai i),(9,ai m)] f) ?_ i ⟨br _,ct,au,kC,hn,hold,rfl,rfl,rfl,rfl,rfl,rfl,trivial⟩
  clear kC hold hn au fh;intro j g τ ⟨LX,ct,au,kC,hn,hold,hL⟩;refine ak.norm _ hL λg=>?_;clear hL;have fh:=au.length_eq;have fin:∀ {f:Nat->AV},sat [(0,v),(1,ai 0),(2,ai l.length),(3,.f (.func hT) [] []),(8,ai i)] f->bR (b.aV K) none [] 53 (.region [⟨(some 15),.bh (.t 8),none,[]⟩,⟨(some 16),.bin .add (.t 15) (.c (.i .i64 1)),none,[]⟩,⟨(some 8),.bh (.t 16),none,[]⟩]) f τ (λx b6 ag=>match x with
   | .normal=>∃aW,aW<m/\∃(i:Nat) (ct:List fA),i+aW=l.length+1/\1<=i/\ct.Perm l/\Acc ag (some 2) v (ct.map dr)/\ag.next=J.next/\(∀i o,v.at? ≠some i->J.get i=some o->ag.get i=some o)/\sat [(0,v),(1,ai 0),(2,ai l.length),(3,.f (.func hT) [] []),(8,ai i)] b6
   |_=>False):=by
   intro f an;refine ak.norm _ an λg=>?_;refine ak.region ?_;refine aJ.go I I I I ?_;refine aJ.bin (a:=ai i) (b:=ai 1) I I I I (pI U) ?_;refine aJ.go I I I I ?_;exact aJ.nil ⟨m-1,U,i+1,ct,U,U,au,kC,hn,hold,rfl,rfl,rfl,rfl,rfl,trivial⟩
  obtain⟨o,av,ho,iu⟩:=kC.inv (by rw[b0];omega);rw[b0] at av;subst av;refine ak.seq (ak.seq (ak.draw I I ?_));refine eF.go I I I I ?_;refine eF.go I I I I ?_;refine eF.cmp (a:=j) (b:=0) I I I I I ?_;by_cases a1A:0<j
  ·rw[show decide (0<j)=true from decide_eq_true a1A];obtain⟨j,rfl⟩:∃q,j=q+1:=⟨j-1,U⟩
   have ze:j+1<ct.length:=by omega
   have aR:dU (some 2) (((ct.map dr).flatMap AV.cells).drop (0+(j+1)*shN (some 2)))=some (dr ct[j+1]):=by
    rw[Pf (by rw[b0];omega) iu,e_]
   have a6:dU (some 2) (((ct.map dr).flatMap AV.cells).drop (0+j*shN (some 2)))=some (dr (ct[j]'U)):=by
    rw[Pf (by rw[b0];omega) iu,e_]
   refine eF.go I I I I ?_;refine eF.go I I I I ?_;refine eF.go I I I I ?_;refine eF.go I I I I ?_;refine eF.idx (j:=j+1) I I I I (tp ze) ?_;refine eF.az (v:=dr ct[j+1]) ho I I I aR ?_;refine eF.go I I I I ?_;refine eF.go I I I I ?_;refine eF.bin (a:=ai (j+1)) (b:=ai 1) I I I I (rV U U) ?_;refine eF.idx (j:=j) I I I I (tp U) ?_;refine eF.az (v:=dr (ct[j]'U)) ho I I I a6 ?_;refine eF.known hf qq.1 qq.2 (nW ct[j+1] (ct[j]'U)) I I I (pJ I I) ?_;refine eF.bin (v:=.b (decide (pQ ct[j+1] (ct[j]'U)<0))) I I I I I ?_;refine eF.go I I I I ?_;refine eF.nil ?_;refine ak.iW I (λ_=>?_) (λ_=>?_)
   ·refine ak.skip (ak.seq (ak.block (ak.b3C 0 I (HC.fin (gs:=[]) .nil I ?_))));refine aJ.go I I I I ?_;refine aJ.go I I I I ?_;refine aJ.go I I I I ?_;refine aJ.go I I I I ?_;refine aJ.bin (a:=ai (j+1)) (b:=ai 1) I I I I (rV U U) ?_;refine aJ.go I I I I ?_;refine aJ.go I I I I ?_;refine aJ.bin (a:=ai (j+1)) (b:=ai 1) I I I I (rV U U) ?_;refine aJ.idx (j:=j) I I I I (tp U) ?_;refine aJ.az (v:=dr (ct[j]'U)) ho I I I a6 ?_;refine aJ.go I I I I ?_;refine aJ.go I I I I ?_;refine aJ.idx (j:=j+1) I I I I (tp ze) ?_;refine aJ.az (v:=dr ct[j+1]) ho I I I aR ?_;refine aJ.idx (j:=j+1) I I I I (tp ze) ?_;refine aJ.Z1 (j:=j+1) (y:=dr (ct[j]'U)) (v:=.ao o 0 ct.length (some 2) none) kC I (by rw[b0];omega) I I I I λeN c_ c1K bG=>?_;refine aJ.idx (j:=j) I I I I (tp U) ?_;refine aJ.Z1 (j:=j) (y:=dr ct[j+1]) c1K I (by rw[mo,b0];omega) I I I I λbl ei c1L bw=>?_;refine aJ.nil ⟨rfl,?_⟩;refine ak.region ?_;refine aJ.go I I I I ?_;refine aJ.bin (a:=ai (j+1)) (b:=ai 1) I I I I (rV U U) ?_;refine aJ.go I I I I ?_;refine aJ.nil ⟨j,U,U,(ct.set (j+1) (ct[j]'U)).set j ct[j+1],(swap_perm ze).trans au,?_,U,λi bU h kP=>bw i bU (λe=>h (by rw[e];rfl)) (bG i bU (λe=>h (by rw[e];rfl)) (hold i bU h kP)),rfl,rfl,rfl,rfl,rfl,rfl,trivial⟩;rw[List.map_set,List.map_set];exact c1L
   ·refine ak.exit ?_;exact(fin ⟨rfl,rfl,rfl,rfl,rfl,trivial⟩).mono λx f J h=>by cases x<;>first|exact h|exact h.elim
  ·rw[show decide (0<j)=false from decide_eq_false a1A];refine b3E ?_;refine ak.iW I (λh=>by cases h) (λ_=>?_);refine ak.exit ?_;exact(fin ⟨rfl,rfl,rfl,rfl,rfl,trivial⟩).mono λx f J h=>by cases x<;>first|exact h|exact h.elim
 ·have mE:¬i<l.length:=of_decide_eq_false ef;refine ak.exit ?_;exact⟨.inr I,rfl,hn,⟨ct,au,kC⟩,hold⟩
end
section
variable {b:b5}{K:Nat->List AV->AV->Prop}
set_option maxRecDepth 100000 in
theorem c1M(hh:bq (b.aV K) wF yD)(m:Nat)(hm:m<256)(J:ae):bH (b.aV K) 0 (.f (.func wF) [] []) [.i .u64 (Int.ofNat m)] J (λr ag=>(∃q,r= .ok (.i .i64 q))/\ag=J):=by
 refine bH.code hh.e hh.p hh.f I I I I ?_;refine ak.seq (ak.region ?_);refine jX ?_;refine ak.seq (ak.seq (ak.region ?_));refine aJ.go I I I I ?_;refine aJ.bin (a:=.i .u64 (Int.ofNat m)) (b:=.i .u64 (Int.ofNat 4294967296)) (v:=.b false) I I I I (oK (by show some (AV.b (decide (4294967296<=m)))=_;rw[decide_eq_false U])) ?_;refine aJ.nil (ak.iW I (λh=>by cases h) λ_=>ak.skip ?_);refine ak.seq (ak.seq (ak.region ?_));refine aJ.go I I I I ?_;refine aJ.bin (a:=.i .u64 (Int.ofNat m)) (b:=.i .u64 (Int.ofNat 65536)) (v:=.b false) I I I I (oK (by show some (AV.b (decide (65536<=m)))=_;rw[decide_eq_false U])) ?_;refine aJ.nil (ak.iW I (λh=>by cases h) λ_=>ak.skip ?_);refine ak.seq (ak.seq (ak.region ?_));refine aJ.go I I I I ?_;refine aJ.bin (a:=.i .u64 (Int.ofNat m)) (b:=.i .u64 (Int.ofNat 256)) (v:=.b false) I I I I (oK (by show some (AV.b (decide (256<=m)))=_;rw[decide_eq_false U])) ?_;refine aJ.nil (ak.iW I (λh=>by cases h) λ_=>ak.skip ?_);refine ak.seq (ak.region ?_);refine aJ.go I I I I ?_;refine aJ.go I I I I ?_;have iF:wrapN .u8 (Int.ofNat m)=Int.ofNat m:=b8n hm;refine aJ.val I I (Pn (m:=Int.ofNat m) I _) ?_;rw[iF];refine aJ.val I I (b3i (j:=m) I I (Hq (vX hm ca))) ?_;refine aJ.val I I (Pn I _) ?_;refine aJ.bin I I I I I ?_;refine aJ.go I I I I ?_;exact aJ.nil (ak.ret ⟨rfl,⟨_,rfl⟩,rfl⟩)
theorem c1N(hh:bq (b.aV K) yC AT)(cw:bq (b.aV K) wF yD)(m:Nat)(hm:m<256)(J:ae):bH (b.aV K) 0 (.f (.func yC) [] []) [.i .u64 (Int.ofNat m)] J (λr ag=>(∃q,r= .ok (.i .i64 q))/\ag=J):=by
 refine bH.code hh.e hh.p hh.f I I I I ?_;refine ak.seq (ak.region ?_);refine jX ?_;refine ak.seq (ak.iW I (λh=>by cases h) λ_=>ak.skip ?_);refine ak.seq (ak.region ?_);refine aJ.go I I I I ?_;refine aJ.iX I I I (c1M cw m hm J) λr cT ⟨⟨q,aR⟩,a6⟩=>⟨_,aR,?_⟩
 refine aJ.go I I I I ?_;exact aJ.nil (ak.ret ⟨rfl,⟨_,rfl⟩,a6⟩)
variable (hf:∀g aY r cc,K g aY r->K g aY cc->r=cc)
include hf in
theorem c1O(hh:bq (b.aV K) yA AS)(hi:bq (b.aV K) wE yB)(nW:∀a c:fA,K hT [dr a,dr c] (.i .i64 (pQ a c)))(qq:b.ext hT=0/\b.pure hT=true){l:List fA}{v:AV}(hl:l.length<=12)(q:Int)(J:ae)(hA:Acc J (some 2) v (l.map dr)):
  bH (b.aV K) 0 (.f (.func yA) [] []) [v,ai 0,ai l.length,.i .i64 q,.f (.func hT) [] []] J (λr ag=>r= .ok (.a9 [])/\ag.next=J.next/\(∃ct:List fA,ct.Perm l/\Acc ag (some 2) v (ct.map dr))/\∀i o,v.at? ≠some i->J.get i=some o->ag.get i=some o):=by
 refine bH.pM hh.e hh.p hh.f I I I ?_;refine ak.seq (ak.region ?_);refine aJ.go I I I I ?_;refine aJ.nil (ak.seq (ak.region ?_));refine aJ.go I I I I ?_;refine aJ.nil (ak.block ?_);refine ak.loop (λm f τ=>τ=J/\sat [(0,v),(1,ai 0),(2,ai l.length),(4,.f (.func hT) [] [])] f) ?_ 0 ⟨rfl,rfl,rfl,rfl,rfl,trivial⟩;rintro m g τ ⟨rfl,hL⟩;refine ak.norm _ hL λg=>?_;clear hL;refine ak.block (ak.seq (ak.region ?_));refine aJ.go I I I I ?_;refine aJ.go I I I I ?_;refine aJ.bin (a:=ai l.length) (b:=ai 0) I I I I (rV U U) ?_;refine aJ.go I I I I ?_;refine aJ.nil (ak.seq (ak.seq (ak.region ?_)));refine aJ.go I I I I ?_;refine aJ.bin (a:=ai (l.length-0)) (b:=ai 12) (v:=.b true) I I I I (oK (by show some (AV.b (decide (l.length-0<=12)))=_;rw[decide_eq_true U])) ?_;refine aJ.nil (ak.iW I (λ_=>?_) (λh=>by cases h));refine ak.seq (ak.region ?_);refine aJ.go I I I I ?_;refine aJ.go I I I I ?_;refine aJ.go I I I I ?_;refine aJ.go I I I I ?_;refine aJ.iX I I I (c1J hf hi nW qq U τ hA) λr cT ⟨aR,h1,h2,h3⟩=>⟨_,aR,?_⟩
 exact aJ.nil (ak.ret ⟨.inl I,rfl,h1,h2,h3⟩)
include hf in
theorem c1P(hh:bq (b.aV K) AR DV)(jz:bq (b.aV K) yC AT)(cw:bq (b.aV K) wF yD)(au:bq (b.aV K) yA AS)(hi:bq (b.aV K) wE yB)(nW:∀a c:fA,K hT [dr a,dr c] (.i .i64 (pQ a c)))(qq:b.ext hT=0/\b.pure hT=true){l:List fA}{v:AV}(hl:l.length<=12)(J:ae)(hA:Acc J (some 2) v (l.map dr)):
  bH (b.aV K) 0 (.f (.func AR) [] []) [v,.f (.func hT) [] []] J (λr ag=>r= .ok (.a9 [])/\ag.next=J.next/\(∃ct:List fA,ct.Perm l/\Acc ag (some 2) v (ct.map dr))/\∀i o,v.at? ≠some i->J.get i=some o->ag.get i=some o):=by
 refine bH.pM hh.e hh.p hh.f I I I ?_;refine ak.seq (ak.region ?_);refine aJ.go I I I I ?_;refine aJ.len (m:=l.length) I I I (by have:=hA.len (τ:=J);rwa[b0] at this) ?_;refine aJ.go I I I I ?_;refine aJ.nil (ak.region ?_);refine aJ.go I I I I ?_;refine aJ.go I I I I ?_;refine aJ.go I I I I ?_;refine aJ.val I I (Pn (m:=Int.ofNat l.length) I _) ?_;have hw:wrapN .u64 (Int.ofNat l.length)=Int.ofNat l.length:=by
  have:(l.length:Int)<18446744073709551616:=by omega
  simp[wrapN,IntKind.wrap,IntKind.bits,IntKind.signed];omega
 rw[hw];refine aJ.iX I I I (c1N jz cw l.length U J) λr cT ⟨⟨q,aR⟩,a6⟩=>⟨_,aR,?_⟩
 subst a6;refine aJ.go I I I I ?_;refine aJ.iX I I I (c1O hf au hi nW qq hl q cT hA) λr hC ⟨aR,h1,h2,h3⟩=>⟨_,aR,?_⟩
 exact aJ.nil ⟨.inr I,rfl,h1,h2,h3⟩
include hf in
theorem c1Q(hh:bq (b.aV K) DS Ic)(ab:bq (b.aV K) AP DU)(ha:bq (b.aV K) yz AQ)(gJ:bq (b.aV K) oP wD)(an:bq (b.aV K) AR DV)(jz:bq (b.aV K) yC AT)(cw:bq (b.aV K) wF yD)(au:bq (b.aV K) yA AS)(hi:bq (b.aV K) wE yB)(nW:∀a c:fA,K hT [dr a,dr c] (.i .i64 (pQ a c)))(qq:b.ext hT=0/\b.pure hT=true)
  {dw cM:Nat} {bz:List fA} (Es:bz.length<=12) (J:ae) (hm:J.get dw=some (.map (setE dr 0 bz) bz.length)) (gl:J.get cM=some (.cells [.m (some dw)])):
  bH (b.aV K) 0 (.f (.func DS) [] []) [.f (.func oP) [] [.p (some (cM,0))],.f (.func hT) [] []] J (λr ag=>∃(v:AV) (c:List fA),r= .ok v/\c.Perm bz/\Acc ag (some 2) v (c.map dr)/\(∀a,v.at? =some a->J.next<=a)/\wZ J ag):=by
 refine bH.code hh.e hh.p hh.f I I I I ?_;refine ak.seq (ak.region ?_);refine aJ.go I I I I ?_;refine aJ.nil (ak.seq (ak.region ?_));refine aJ.go I I I I ?_;refine aJ.iX I I I (b8E ab ha gJ U J hm gl) λr cT ⟨v,c,aR,h1,h2,h3,aQ⟩=>⟨_,aR,?_⟩
 have gq:=h1.length_eq;refine aJ.go I I I I ?_;refine aJ.nil (ak.seq (ak.region ?_));refine aJ.go I I I I ?_;refine aJ.go I I I I ?_;refine aJ.iX I I I (c1P hf an jz cw au hi nW qq (l:=c) U cT h2) λr hC ⟨a6,fc,⟨ct,ql,kC⟩,bg⟩=>⟨_,a6,?_⟩
 refine aJ.nil (ak.seq (ak.region ?_));refine aJ.go I I I I ?_;refine aJ.go I I I I ?_;have hn:=aQ.1;exact aJ.nil (ak.ret ⟨rfl,_,ct,rfl,ql.trans h1,kC,h3,U,λi o ho=>bg i o (λe=>by have:=h3 i e;have:=ae.bE ho;omega) (aQ.2 i o ho)⟩)
include hf in
theorem c1R(hh:bq (b.aV K) DR NI)(ay:bq (b.aV K) DT Ie)(Pb:bq (b.aV K) DS Ic)(ab:bq (b.aV K) AP DU)(ha:bq (b.aV K) yz AQ)(gJ:bq (b.aV K) oP wD)(an:bq (b.aV K) AR DV)(jz:bq (b.aV K) yC AT)(cw:bq (b.aV K) wF yD)(au:bq (b.aV K) yA AS)(hi:bq (b.aV K) wE yB)(nW:∀a c:fA,K hT [dr a,dr c] (.i .i64 (pQ a c)))(qq:b.ext hT=0/\b.pure hT=true)
  {dw:Nat} {bz:List fA} (Es:bz.length<=12) (J:ae) (hm:J.get dw=some (.map (setE dr 0 bz) bz.length)):
  bH (b.aV K) 0 (.f (.func DR) [] []) [.m (some dw)] J (λr ag=>∃(v:AV) (c:List fA),r= .ok v/\c.Perm bz/\Acc ag (some 2) v (c.map dr)/\(∀a,v.at? =some a->J.next<=a)/\wZ J ag):=by
 refine bH.code hh.e hh.p hh.f I I I I ?_;refine ak.seq (ak.region ?_);refine aJ.go I I I I ?_;refine aJ.nil (ak.seq (ak.region ?_));refine aJ.go I I I I ?_;generalize bb:J.next=z;refine aJ.iX I I I (b8A ay dw J z bb) λr cT ⟨aR,ei,h2,bw⟩=>⟨_,aR,?_⟩
 refine aJ.iX I I I (c1Q hf Pb ab ha gJ an jz cw au hi nW qq Es cT (bw _ _ hm) h2) λr hC ⟨v,c,aR,h1,h3,aQ,bF⟩=>⟨_,aR,?_⟩
 refine aJ.go I I I I ?_;have:=bF.1;exact aJ.nil (ak.ret ⟨rfl,_,c,rfl,h1,h3,λa e=>by have:=aQ a e;omega,U,λi o ho=>bF.2 i o (bw i o ho)⟩)
end
structure Q9(b:b5)(K:Nat->List AV->AV->Prop):Prop where
 sorted:bq (b.aV K) DR NI
 keys:bq (b.aV K) DT Ie
 c1S:bq (b.aV K) DS Ic
 c1T:bq (b.aV K) AP DU
 app:bq (b.aV K) yz AQ
 c1U:bq (b.aV K) oP wD
 BT:bq (b.aV K) AR DV
 len:bq (b.aV K) yC AT
 c1V:bq (b.aV K) wF yD
 Q_:bq (b.aV K) yA AS
 ins:bq (b.aV K) wE yB
 cmp:∀a c:fA,K hT [dr a,dr c] (.i .i64 (pQ a c))
 Fc:b.ext hT=0/\b.pure hT=true
theorem Q9.go{b:b5}{K:Nat->List AV->AV->Prop}(hf:∀g aY r cc,K g aY r->K g aY cc->r=cc)(an:Q9 b K):Po b K 12:=⟨ca,λhn J hm=>c1R hf an.sorted an.keys an.c1S an.c1T an.app an.c1U an.BT an.len an.c1V an.Q_ an.ins an.cmp an.Fc hn J hm⟩
end Go.Lyc
end
noncomputable section
namespace Go.Lyc
set_option maxHeartbeats 0
variable [Tok][TokOk]
open Go.RowKit Go.Lyc.T
attribute [local irreducible] ch bR dC ev bH
theorem PF.parts(a:PF):∀x∈a.aO.parts,∃c:PF,x=c.aO:=by
 induction a with
 | gd q=>intro x hx;rw[Fm.parts_eq] at hx;exact⟨.gd q,by simpa [PF.aO,Fm.sub,Fm.gy,Fm.tr] using hx⟩
 |cQ=>intro x hx;rw[Fm.parts_eq] at hx;exact⟨.cQ,by simpa [PF.aO,Fm.sub,Fm.gy,Fm.tr] using hx⟩
 |neg a aH=>
  intro x hx;rw[Fm.parts_eq] at hx;rcases dF.1 hx with rfl|hx
  ·exact⟨_,rfl⟩
  ·refine aH x ?_;simpa [PF.aO,Fm.sub,Fm.gy,Fm.tr] using hx
 |bin k a c aH ru=>
  intro x hx;rw[Fm.parts_eq] at hx;rcases dF.1 hx with rfl|hx
  ·exact⟨_,rfl⟩
  ·have hx:x∈a.aO.parts\/x∈c.aO.parts:=by simpa [PF.aO,Fm.sub,Fm.gy,Fm.tr] using hx
   rcases hx with hx|hx
   ·exact aH x hx
   ·exact ru x hx
theorem PF.jW(a:PF):a.aO.jW:=by
 induction a with
 | gd q=>exact .mk aG aG aG aG
 |cQ=>exact .mk aG aG aG aG
 |neg a aH=>exact .mk aG aG aG (λx hx=>by rw[show x=a.aO by simpa using hx];exact aH)
 |bin k a c aH ru=>exact .mk aG aG aG (λx hx=>by
   have hx:x=a.aO\/x=c.aO:=by simpa using hx
   rcases hx with rfl|rfl
   ·exact aH
   ·exact ru)
def vA:List (List fA):=[[],[([80],0)],[([81],0)],[([80],0),([81],0)],[([81],0),([80],0)]]
theorem PF.vp(a:PF){bz:List fA}(h:bz∈vA):Lyc.vp a.aO bz∈vA:=by
 unfold Lyc.vp;cases a with
 | gd q=>
  simp only[vA,dF,gT,or_false] at h;rcases h with rfl|rfl|rfl|rfl|rfl<;>cases q<;>decide
 |cQ=>exact h
 |neg a=>exact h
 |bin k a c=>
  rw[if_neg (show ¬(PF.bin k a c).aO.op=1 by show ¬ 4+k.val=1;omega)];exact h
theorem a1B:∀ {l:List Fm} {bz:List fA},(∀x∈l,∃c:PF,x=c.aO)->bz∈vA->yU l bz∈vA
 |[],_,_,h=>h
 |x::l,bz,hl,h=>by
  obtain⟨c,rfl⟩:=hl x aG;exact a1B (l:=l) (λy hy=>hl y (iM _ hy)) (c.vp h)
theorem PF.c1W(a:PF):Ev a.aO∈vA:=a1B a.parts ca
theorem PF.ops(a:PF):ym (wR a.aO) 254=0:=by
 refine b8H.2 (Z2 ca λf hf=>?_);obtain⟨c,rfl⟩:=a.parts f hf;have:=c.pR;unfold qR;rw[PF.a0k,if_pos U];have:c.op=1\/c.op=2\/c.op=3\/c.op=4\/c.op=5\/c.op=6:=by omega
 rcases this with h|h|h|h|h|h<;>rw[h]<;>decide
theorem PF.c1X(a:PF):a.aO.gV=none:=by cases a<;>rfl
section
variable {b:b5}{K:Nat->List AV->AV->Prop}(hf:∀g aY r cc,K g aY r->K g aY cc->r=cc)
structure Ra(b:b5)(K:Nat->List AV->AV->Prop):Prop where
 BT:Po b K 12
 c1Y:bq (b.aV K) Ib NH
 a1C:bq (b.aV K) wC yx
 bW:bq (b.aV K) u7 AN
 w:bq (b.aV K) AM DQ
 Bi:bq (b.aV K) Ia NF
 fn:bq (b.aV K) NG YL
theorem c1Z(hh:bq (b.aV K) Ib NH){g4:AV}{J:ae}:bH (b.aV K) 0 (.f (.func Ib) [] []) [.af,g4] J (λr τ=>r= .ok (.b true)/\τ=J):=by
 refine W.code hh.e hh.p hh.f I I I I λz=>?_;have H:Has J []:=Has.nil;refine aj ?_;refine ak.each 0 (λj F τ=>τ=J) ca I I I (λj F τ aC=>by omega) λF τ a0 _=>?_;subst a0;refine ak.norm [] trivial λF=>?_;refine aj ?_;exact ak.ret ⟨rfl,rfl,rfl⟩
theorem c2a(h:Ra b K)(a:PF)(J:ae):
  bH (b.aV K) 0 (.f (.func NG) [] []) [a.aO.A true] J (λr ag=>∃v,r= .ok v/\Acc ag (some 2) v []/\wZ J ag):=by
 generalize ay:J.next=k;refine bH.No (d:=k+4) h.fn.e h.fn.p h.fn.f I I I I ?_;refine dK.lO (ak.region (aJ.box (v:=a.aO.A true) (c:=a.aO.cells true) k ay I I I I I λb2 iD h1 bG=>?_));refine jX ?_;refine⟨rfl,dK.lO (ak.region (aJ.mkMap (k+1) iD I λcT h8 h2 bw=>?_))⟩;refine aJ.var (v:=.m (some (k+1))) (c:=[.m (some (k+1))]) (k+2) h8 I I I I I I λhC pk h3 bg=>?_;replace h1:=bg _ _ (bw _ _ h1);replace h2:=bg _ _ h2;refine aJ.nil ⟨rfl,dK.Ax (dK.lO (ak.region ?_))⟩;refine aJ.az h1 I I I (Fm.az true a.aO) ?_;refine aJ.iX I I I (OB h.w true a.aO hC (k+3) pk) λr Js ⟨aR,ta,aQ,b9⟩=>⟨_,aR,?_⟩
 replace h2:=b9 _ _ h2;replace h3:=b9 _ _ h3;have c6:∀i o,J.get i=some o->Js.get i=some o:=λi o ho=>b9 i o (bg i o (bw i o (bG i o ho)));refine aJ.nil ⟨rfl,dK.block ?_⟩;refine dK.walk h.a1C h.bW true (λi=>i=k+1\/i=k+2) (λl τ=>(∀x∈l,∃c:PF,x=c.aO)/\τ.get (k+1)=some (.map [] 0)/\τ.get (k+2)=some (.cells [.m (some (k+1))])) (k+4) ta I I a.jW aQ (λi hi=>by omega) (λl τ aM ⟨a2,bm,cx⟩ ay=>⟨a2,ay _ _ (.inl I) bm,ay _ _ (.inr I) cx⟩) ⟨a.parts,h2,h3⟩ ?_ ?_
 ·intro G rest τ de yK ⟨a2,bm,cx⟩;obtain⟨c,rfl⟩:=a2 G aG;refine ak.region ?_;refine aJ.var (v:=c.aO.A true) (c:=c.aO.cells true) τ.next I I I I (Fm.conf true c.aO) I (Fm.len true c.aO) λeN ta aQ b9=>?_;refine aJ.nil ⟨rfl,.of U b9,λbl GD c9=>?_⟩;replace aQ:=c9 _ _ U aQ;replace bm:=c9 _ _ U (b9 _ _ bm);replace cx:=c9 _ _ U (b9 _ _ cx);refine ak.block (ak.region ?_);refine jX ?_;refine aJ.az aQ I I I (Fm.Wv true c.aO) ?_;refine aJ.go I I I I ?_;rw[c.c1X];refine aJ.iX I I I (c1Z h.c1Y) λr bZ ⟨aR,a6⟩=>⟨_,aR,?_⟩
  subst a6;exact aJ.nil ⟨rfl,⟨λx hx=>a2 x (iM _ hx),bm,cx⟩,.refl⟩
 ·intro τ ⟨_,bm,cx⟩ yK hd hold;refine⟨rfl,rfl,?_⟩;refine ak.seq (ak.region ?_);refine aJ.az (v:=.m (some (k+1))) cx I I I I ?_;refine aJ.iX I I I (h.BT.2 (bz:=[]) (k0 _) τ bm) λr bl ⟨v,c,aR,er,dy,dV,fl⟩=>⟨_,aR,?_⟩
  cases er.eq_nil;refine aJ.go I I I I ?_;have hn:=fl.1;have gP:=jF (bU:=AO.dead) (fl.2 _ _ hd);refine aJ.nil (ak.ret ⟨rfl,fl.2 _ _ hd,v,rfl,dy.aS λi o hi ho=>gP.2 i o (by have:=dV i hi;omega) ho,by show J.next<=bl.next;omega,λi o ho=>?_⟩);have:=ae.bE ho;exact gP.2 i o U (fl.2 i o (hold i o U (c6 i o ho)))
include hf in
theorem c2b(h:Ra b K)(a:PF)(kind:Nat)(ay:¬kind=2)(body:bO)(hb:NQ.body=some body):ak (b.aV K) NQ.ntmps body (gO [uB kind,.ah (e8 a)]) ⟨.nil,0⟩ (lT 4 (.b true)):=by
 cases hb;refine W.args λz=>?_;have H:Has (⟨.nil,0⟩:ae) []:=Has.nil;refine aj ?_;refine W.cM (c:=e8 a) H I I I I I I λτ c_ H bG=>?_;refine aj ?_;have aX:=a.c1W;have fg:=b8F hf h.BT h.Bi h.a1C h.bW h.w a.aO a.jW (by simp only[vA,dF,gT,or_false] at aX;rcases aX with h|h|h|h|h<;>rw[h]<;>decide) τ;have b4:=λτ=>c2a h a τ;simp only[mY] at fg b4;refine W.aq trivial I I I fg λr bl ⟨v,c,aR,er,dy,dV,fl⟩=>⟨_,aR,?_⟩
 have H:=H.aS fl.2;have fm:∀s∈c,s.2=0:=λs an=>by
  have an:=er.mem_iff.1 an;simp only[vA,dF,gT,or_false] at aX;rcases aX with h|h|h|h|h<;>rw[h] at an<;>simp at an<;>(try rcases an with rfl|rfl)<;>simp_all
 have gq:c.length<=2:=by
  rw[er.length_eq];simp only[vA,dF,gT,or_false] at aX;rcases aX with h|h|h|h|h<;>rw[h]<;>decide
 have hlen:∀τ,lenA τ 1 v=some c.length:=λτ=>by have:=dy.len (τ:=τ);rwa[b0] at this
 refine W.val (v:=ai c.length) (ag:=bl) I I (wo I (hlen _)) ?_;refine aj ?_;refine ak.each c.length (λi F τ=>bl.next<=τ.next/\(∀i o,bl.get i=some o->τ.get i=some o)/\sat [(5,ai 0),(14,v),(3,aT 0)] F) U ⟨br _,(λ_ _ h=>h),rfl,rfl,rfl,trivial⟩ I I (λi F τ hi a0 Fa Q7=>?_) (λF τ a0 Fa=>?_)
 ·obtain⟨Q8,iO,dB,lW,cm,_⟩:=a0;refine ak.norm [(16,ai i),(15,ai c.length),(5,ai 0),(14,v),(3,aT 0)] ⟨Fa,Q7,dB,lW,cm,trivial⟩ λF=>?_;have H:Has τ []:=Has.nil;obtain⟨o,qX,ho,iu⟩:=dy.inv (by rw[b0];omega);rw[b0] at qX;subst qX;have aR:dU (some 2) (((c.map dr).flatMap AV.cells).drop (0+i*shN (some 2)))=some (dr c[i]):=by
   rw[Pf (by rw[b0];omega) iu,e_]
  refine aj ?_;refine W.val (v:=.p (some (o,0+i*shN (some 2)))) (ag:=τ) I I (Hm _ _ i _ I I (tp hi)) ?_;refine W.val (v:=dr c[i]) (ag:=τ) I I (n4 _ _ I (uV (iO _ _ ho) aR)) ?_;refine W.cB (c:=[.s [],ai 0]) H I I I I λbZ fc H bg=>?_;refine W.st (bX:=[.s c[i].1,ai c[i].2]) H 0 I I I I I I λcG fF H b9=>?_;have h0:=fm _ (bJ hi);rw[h0] at H;refine aj ?_;exact⟨rfl,rfl,U,λi o ho=>b9 _ _ (by have:=ae.bE ho;omega) (bg _ _ (iO _ _ ho)),rfl,rfl,rfl,trivial⟩
 ·obtain⟨Q8,iO,dB,lW,cm,_⟩:=a0;refine ak.norm [(3,aT 0)] ⟨cm,trivial⟩ λF=>?_;have H:=H.aS iO;refine aj ?_;refine W.aq trivial I I I (b4 τ) λr dq ⟨v,aR,dy,fl⟩=>⟨_,aR,?_⟩
  have hlen:∀τ,lenA τ 1 v=some 0:=λτ=>dy.len (τ:=τ);refine W.val (v:=ai 0) (ag:=dq) I I (wo I (hlen _)) ?_;have H:=H.aS fl.2;refine aj ?_;refine ak.each 0 (λj F τ=>True) ca trivial I I (λj F τ aC=>by omega) λF τ a0 _=>?_;refine ak.norm [] trivial λF=>?_;have H:Has τ []:=Has.nil;refine aj ?_;exact ak.ret ⟨rfl,rfl⟩
theorem J4(a:PF)(h:a.aO.dep<=200)(τ:ae):bT τ (b.bt+1000) (.ah (e8 a))=some (.ah (e8 a)):=by
 have:=tQ a h (b:=b) τ;rwa[PF.Jx,mY] at this
include hf in
theorem c2c(a:PF)(hd:a.aO.dep<=200)(l:lu)(ho:l.ops=254)(hR:K ki [.ah (e8 a)] (.b true))(JA:b.ext ki=0/\b.pure ki=true)(cp:K yy [.ah (e8 a)] (.i .u32 (Int.ofNat (wR a.aO))))(c2d:b.ext yy=0/\b.pure yy=true)
  (hA:K AW [uB l.kind,.ah (e8 a)] (.b true)) (c2e:b.ext AW=0/\b.pure AW=true) (body:bO) (hb:NP.body=some body):ak (b.aV K) NP.ntmps body (gO [l.A true,.ah (e8 a)]) ⟨.nil,0⟩ (lT 4 (.b true)):=by
 cases hb;refine W.args λz=>?_;have H:Has (⟨.nil,0⟩:ae) []:=Has.nil;refine aj ?_;refine W.cM (c:=l.cells true) H I I I I I I λτ c_ H bG=>?_;refine aj ?_;refine W.cM (c:=e8 a) H c_ I I I I I λbl ei H bw=>?_;refine aj ?_;refine W.ga hf JA hR I I I (qH (J4 a hd _)) ?_;refine aj ?_;refine W.ga hf c2d cp I I I (qH (J4 a hd _)) ?_;refine W.bin (v:=.i .u32 (Int.ofNat 0)) I I I I ((b8J (Y4 (Ow _)) (by rw[ho];decide)).trans (by rw[ho];show some (AV.i .u32 (Int.ofNat (ym (wR a.aO) 254)))=_;rw[a.ops])) ?_;refine aj ?_;refine W.ga hf c2e hA I I I (pJ I (J4 a hd _)) ?_;refine aj ?_;exact ak.ret ⟨rfl,rfl⟩
include hf in
theorem c2f(a:PF)(hd:a.aO.dep<=200)(l:lu)(tL:∀J,bT J (b.bt+1000) (l.A true)=some (l.A true))(hL:K n6 [l.A true] (.b true))(Py:b.ext n6=0/\b.pure n6=true)(h1:K AU [l.A true,.ah (e8 a)] (.b true))(aR:b.ext AU=0/\b.pure AU=true)
  (body:bO) (hb:NR.body=some body):ak (b.aV K) NR.ntmps body (gO [l.A true,.ah (e8 a)]) ⟨.nil,0⟩ (lT 4 (.b true)):=by
 cases hb;refine W.args λz=>?_;have H:Has (⟨.nil,0⟩:ae) []:=Has.nil;refine aj ?_;refine W.cM (c:=l.cells true) H I I I I I I λτ c_ H bG=>?_;refine aj ?_;refine W.cM (c:=e8 a) H c_ I I I I I λbl ei H bw=>?_;refine aj ?_;refine W.ga hf Py hL I I I (qH (tL _)) ?_;refine aj ?_;refine W.ga hf aR h1 I I I (pJ (tL _) (J4 a hd _)) ?_;refine aj ?_;exact ak.ret ⟨rfl,rfl⟩
end
end Go.Lyc
end
noncomputable section
namespace Go.Lyc
set_option maxHeartbeats 0
variable [Tok][TokOk]
open Go.RowKit Go.Lyc.T
theorem Rb{a b:AV}(h:[a]=[b]):a=b:=by injection h
theorem o3{a b c d:AV}(h:[a,b]=[c,d]):a=c/\b=d:=by injection h with h1 h2;injection h2 with h2;exact⟨h1,h2⟩
theorem a1D{a b:List Nat}(h:AV.s a= .s b):a=b:=by injection h
theorem Fe{k:IntKind}{a b:Int}(h:AV.i k a= .i k b):a=b:=by injection h
theorem a1E{a b:fA}(h:dr a=dr b):a=b:=by
 obtain⟨a2,bm⟩:=a;obtain⟨er,dy⟩:=b;injection h with h
 injection h with h1 h2
 injection h2 with h2 _
 injection h2 with _ h2
 exact Prod.ext (a1D h1) (sK h2)
abbrev HB(b:b5)(g:Nat)(c:aP):Prop:=b.funcs.get g=some c/\b.ext g=0/\b.pure g=false
abbrev lX(b:b5)(g:Nat)(c:aP):Prop:=b.funcs.get g=some c/\b.ext g=0/\b.pure g=true
theorem HB.h{b:b5}{K:Nat->List AV->AV->Prop}{g:Nat}{c:aP}(h:HB b g c):bq (b.aV K) g c:=⟨h.1,h.2.1,h.2.2⟩
theorem jK(x:Bool):fQ 1000 (.b x)=true/\AV.eqb 1000 (.b x) (.b x)=true:=⟨rfl,Snp.eqb 1000 _ (Snp.b 999 _)⟩
theorem qL(k:IntKind)(x:Int):fQ 1000 (.i k x)=true/\AV.eqb 1000 (.i k x) (.i k x)=true:=⟨rfl,Snp.eqb 1000 _ (Snp.i 999 _ _)⟩
def tY(aA cD cy cz ax e:Nat):AV:=.a9 [.ah [ai aA,.i .u8 (Int.ofNat cD),.i .u8 (Int.ofNat cy),ai cz,ai ax],ai e]
def BU(T:List bu)(r:AV):Prop:=∃aA cD cy cz ax e,r=tY aA cD cy cz ax e/\(e=0\/e=180)/\∀fk x,T=fk++[x]->(x.fV=jJ->(stF fk (x.cs.headD (0,0)).2=[]->e=0)/\(stF fk (x.cs.headD (0,0)).2≠[]->e=180/\aA=fk.length+1/\cD=5/\cy=0/\cz=0/\ax=0))/\(x.fV≠jJ->ih T (c3 T) (fk.length+1) (x.cs.headD (0,0)).1 (x.cs.headD (0,0)).2=false->e=180)
theorem PF.jd(a:PF):a.aO.dep=a.dep:=by
 induction a with
 | gd q=>rfl
 |cQ=>rfl
 |neg a aH=>
  rw[Fm.rW];show max 0 (Fm.hK [a.aO])+1=a.dep+1;rw[Fm.hK,aH,Fm.hK];omega
 |bin k a c aH ru=>
  rw[Fm.rW];show max 0 (Fm.hK [a.aO,c.aO])+1=max a.dep c.dep+1;rw[Fm.hK,aH,Fm.hK,ru,Fm.hK];omega
theorem PF.c2g:∀ {a c:PF},a.aO=c.aO->a=c:=λ{a c} h=>by
 induction a generalizing c with
 | gd q=>cases c with
  | gd nd=>cases q<;>cases nd<;>first|rfl|(injection h with _ h;cases h)
  |bin k _ _=>injection h with h;exact absurd h U
  |_=>cases h
 |cQ=>cases c with
  |cQ=>rfl
  |bin k _ _=>injection h with h;exact absurd h U
  |_=>cases h
 |neg a aH=>cases c with
  |neg c=>injection h with _ _ _ h;injection h with h;injection h with h;rw[aH h]
  |bin k _ _=>injection h with h;exact absurd h U
  |_=>cases h
 |bin k a bm aH ru=>cases c with
  |bin eR c lN=>
   injection h with h0 _ _ h
   injection h with h
   injection h with h1 h
   injection h with h2
   rw[aH h1,ru h2,Fin.ext (show k.val=eR.val by omega)]
  | gd q=>injection h with h;exact absurd h U
  |cQ=>injection h with h;exact absurd h U
  |neg c=>injection h with h;exact absurd h U
theorem PF.mK{a c:PF}(h:a.aO.A true=c.aO.A true):a=c:=PF.c2g (Fm.mK h)
theorem map_inj{α β:Type}{f:α->β}(hf:∀x y,f x=f y->x=y):∀ {l m:List α},l.map f=m.map f->l=m
 |[],[],_=>rfl
 |[],_::_,h=>by cases h
 |_::_,[],h=>by cases h
 |x::l,y::m,h=>by
  injection h with h1 h2
  rw[hf x y h1,map_inj hf h2]
theorem a1F{a c:PF}(h:jb a=jb c):a.subs=c.subs:=by
 have h:=Wq h;refine map_inj (f:=λx:PF=>AV.ah (bA x.aO)) (λx y x_=>PF.mK ?_) h;rw[jY,jY];exact x_
theorem c2h{l m:List (Nat×Nat)}(h:np true l=np true m):l=m:=by
 refine map_inj (f:=λc:Nat×Nat=>AV.ah [ai c.1,ai c.2]) (λx y x_=>?_) (Wq h);injection x_ with h
 injection h with h1 h
 injection h with h2 _
 exact Prod.ext (sK (Fe h1)) (sK (Fe h2))
theorem bu.mK{x y:bu}(h:x.A=y.A):x=y:=by
 obtain⟨a2,bm,cx,ep,eW,mi⟩:=x;obtain⟨er,dy,dV,fl,l0,c2i⟩:=y;injection h with h
 injection h with h1 h
 injection h with h2 h
 injection h with h3 h
 injection h with f1 h
 injection h with f2 h
 injection h with f3 h
 injection h with f4 h
 injection h with bF h
 injection h with cw _
 have h7:ep=fl:=Fm.mK (o:=true) (by rw[jY,jY];show AV.ah [_,_,_,_]=AV.ah [_,_,_,_];rw[f1,f2,f3,f4]);have aR:a2=er:=sK (Fe h1);have a6:bm=dy:=sK (Fe h2);have c0:cx=dV:=by injection h3
 have pC:eW=l0:=a1D bF;have th:mi=c2i:=c2h cw;rw[aR,a6,c0,h7,pC,th]
theorem Rc{T a1G:List bu}(h:cC T=cC a1G):T=a1G:=by
 injection h with _ _ h
 exact map_inj (λx y=>bu.mK) h
def Re(r:AV):Prop:=∃ck,r= .a9 [.ah [ck,.af],ai 0,ai 0]/\(∀J,freeze J 0 998 ck=some ck)/\(∀n,AV.eqb (n+500) ck ck=true)/\∀n,fQ (n+500) ck=true
def J5:List Nat:=[ki,oQ,n6,wO,vb,wH,AW,AU,nj]
structure kq(cF cA:AV)(g:Nat)(aY:List AV)(r:AV):Prop where
 tZ:g∈J5->r= .b true
 Bm:g=tx->r=ai 0
 size:g=tv->∀a:PF,aY=[a.aO.A true]->r=ai a.bS
 c2j:g=yG->∀a c:PF,aY=[jb a,jb c]->r= .b (decide (a.subs=c.subs))
 a1H:g=tw->∀a c:PF,aY=[a.aO.A true,c.aO.A true]->r= .b (decide (a=c))
 c2k:g=r8->∀a c:PF,aY=[a.aO.A true,c.aO.A true,.af]->r= .b (decide (a=c))
 a1I:g=tB->∀a c:PF,aY=[a.aO.A true,c.aO.A true,.af]->r= .b (decide (a=c))
 Px:g=tA->∀a c:PF,aY=[a.aO.A true,c.aO.A true]->r= .b (decide (a=c))
 c2l:g=r6->∀a:PF,∀p,aY=[p,a.aO.A true,.af]->r= .a9 [a.aO.A false,.b true]
 c8o:g=wG->∀a:PF,aY=[a.aO.A true]->r=a.aO.A false
 ix:g=yI->∀T k,aY=[cC T,ai k]->r= .b (se T k)
 BP:g=YQ->∀T,aY=[cC T]->r= .a9 [b7Y (ndsL T T.length),ai 0]
 c2m:g=me->∀T,aY=[cF,cC T]->BU T r
 c2n:g=yH->∀T,aY=[cC T]->r= .a9 [jn T,ai 0]
 ops:g=yy->∀a:PF,aY=[a.aO.A true]->r= .i .u32 (Int.ofNat (wR a.aO))
 BT:g=hT->∀x y:fA,aY=[dr x,dr y]->r= .i .i64 (pQ x y)
 log:g=u9->r=cA
 Bw:g=nk->Re r
 app:g=oR->∃ck eS cy cz ax,r= .a9 [.ah [ck,eS],.ah [.i .u8 (Int.ofNat cy),ai cz,ai ax],ai 0]
section
variable (P:Program)(b:b5)(cF cA:AV)
def dn(g:Nat)(aY:List AV)(r:AV):Prop:=∀b1,SpecEntry P (b.env []) b1 g aY r
def cY(g:Nat)(aY:List AV)(r:AV):Prop:=∃h:∃r,dn P b g aY r/\kq cF cA g aY r,r=Classical.choose h
end
section
variable {P:Program}{b:b5}{cF cA:AV}
theorem cY.fn:∀g aY r cc,cY P b cF cA g aY r->cY P b cF cA g aY cc->r=cc:=λg aY r cc ⟨h,e⟩ ⟨h',dS⟩=>by rw[e,dS]
theorem cY.ok:tm P b (cY P b cF cA):=λg aY r ⟨h,e⟩=>by subst e;exact(Ar h).1
theorem cY.get{g:Nat}{aY:List AV}{r:AV}(h:dn P b g aY r)(a0:kq cF cA g aY r):∃r,cY P b cF cA g aY r/\kq cF cA g aY r:=⟨_,⟨⟨r,h,a0⟩,rfl⟩,(Ar (⟨r,h,a0⟩:∃r,dn P b g aY r/\kq cF cA g aY r)).2⟩
theorem cY.jv{g:Nat}{aY:List AV}{r:AV}(h:dn P b g aY r)(a0:kq cF cA g aY r)(hu:∀cc,kq cF cA g aY cc->cc=r):cY P b cF cA g aY r:=by
 obtain⟨cc,h1,h2⟩:=cY.get h a0;rw[<-hu cc h2];exact h1
theorem a1J(a:PF):kq cF cA tv [a.aO.A true] (ai a.bS):=by
 constructor<;>(intro h;first|exact absurd h ca|skip)
 intro c h;rw[PF.mK (Rb h)]
theorem c2o(a c:PF):kq cF cA yG [jb a,jb c] (.b (decide (a.subs=c.subs))):=by
 constructor<;>(intro h;first|exact absurd h ca|skip)
 intro cL bX h;rw[a1F (o3 h).1,a1F (o3 h).2]
theorem a1K(a c:PF):kq cF cA tw [a.aO.A true,c.aO.A true] (.b (decide (a=c))):=by
 constructor<;>(intro h;first|exact absurd h ca|skip)
 intro cL bX h;rw[PF.mK (o3 h).1,PF.mK (o3 h).2]
theorem c2p(a c:PF):kq cF cA r8 [a.aO.A true,c.aO.A true,.af] (.b (decide (a=c))):=by
 constructor<;>(intro h;first|exact absurd h ca|skip)
 intro cL bX h;injection h with h1 h
 rw[PF.mK h1,PF.mK (o3 h).1]
theorem a1L(a c:PF):kq cF cA tB [a.aO.A true,c.aO.A true,.af] (.b (decide (a=c))):=by
 constructor<;>(intro h;first|exact absurd h ca|skip)
 intro cL bX h;injection h with h1 h
 rw[PF.mK h1,PF.mK (o3 h).1]
theorem c2q(a c:PF):kq cF cA tA [a.aO.A true,c.aO.A true] (.b (decide (a=c))):=by
 constructor<;>(intro h;first|exact absurd h ca|skip)
 intro cL bX h;rw[PF.mK (o3 h).1,PF.mK (o3 h).2]
theorem c2r(p:AV)(a:PF):kq cF cA r6 [p,a.aO.A true,.af] (.a9 [a.aO.A false,.b true]):=by
 constructor<;>(intro h;first|exact absurd h ca|skip)
 intro cL eJ h;injection h with h1 h
 rw[PF.mK (o3 h).1]
theorem c2s(a:PF):kq cF cA yy [a.aO.A true] (.i .u32 (Int.ofNat (wR a.aO))):=by
 constructor<;>(intro h;first|exact absurd h ca|skip)
 intro c h;rw[PF.mK (Rb h)]
theorem c2t(x y:fA):kq cF cA hT [dr x,dr y] (.i .i64 (pQ x y)):=by
 constructor<;>(intro h;first|exact absurd h ca|skip)
 intro a c h;rw[a1E (o3 h).1,a1E (o3 h).2]
theorem t_{g:Nat}{aY:List AV}(hg:g∈J5):kq cF cA g aY (.b true):=by
 simp only[J5,dF,gT,or_false] at hg;rcases hg with rfl|rfl|rfl|rfl|rfl|rfl|rfl|rfl|rfl<;>constructor<;>(intro h;first|exact absurd h ca|rfl)
theorem c2u{aY:List AV}:kq cF cA tx aY (ai 0):=by
 constructor<;>(intro h;first|exact absurd h ca|rfl)
theorem c2v(T:List bu)(k:Nat):kq cF cA yI [cC T,ai k] (.b (se T k)):=by
 constructor<;>(intro h;first|exact absurd h ca|skip)
 intro lM eR h;rw[Rc (o3 h).1,sK (Fe (o3 h).2)]
theorem c2w{T:List bu}{r:AV}(al:BU T r):kq cF cA me [cF,cC T] r:=by
 constructor<;>(intro h;first|exact absurd h ca|skip)
 intro lM h;rw[<-Rc (o3 h).2];exact al
theorem c2x(T:List bu):kq cF cA yH [cC T] (.a9 [jn T,ai 0]):=by
 constructor<;>(intro h;first|exact absurd h ca|skip)
 intro lM h;rw[Rc (Rb h)]
theorem c2y{aY:List AV}:kq cF cA u9 aY cA:=by
 constructor<;>(intro h;first|exact absurd h ca|rfl)
theorem c2z{aY:List AV}{r:AV}(al:Re r):kq cF cA nk aY r:=by
 constructor<;>(intro h;first|exact absurd h ca|exact al)
theorem c2A{aY:List AV}{r:AV}(al:∃ck eS cy cz ax,r= .a9 [.ah [ck,eS],.ah [.i .u8 (Int.ofNat cy),ai cz,ai ax],ai 0]):kq cF cA oR aY r:=by
 constructor<;>(intro h;first|exact absurd h ca|exact al)
end
structure m1(T:List bu):Prop where
 ix:wT T
 mV:tF T (c3 T)
 tX:∀k x,1<=k->T[k-1]? =some x->sa k x.cs
 aa:∀k,1<=k->k<=T.length->se T k=true
 dep:∀x∈T,x.f.dep<=40
 le:T.length<=36
 ne:T≠[]
theorem Rd.a1M{L:List aD}{ad:List (List Nat)}{ax:List Nat}(h:Rd L ad ax)(hL:L.length<=36)(a5:L≠[]):m1 (L.map aD.aA) where
 ix:=h.ix U
 mV:=h.mV U
 tX k x h1 hx:=h.tX h1 hx
 aa k h1 h2:=by
  rw[b0] at h2;exact(h.shape h1 (cK (show k-1<L.length by omega))).1
 dep x hx:=by
  obtain⟨y,hy,rfl⟩:=dx.1 hx;show y.f.aO.dep<=40;rw[PF.jd];have:=(h.low hL hy).1;omega
 le:=by rw[b0];exact hL
 ne:=by simpa using a5
structure o4(T:List bu)(x:bu):Prop where
 bs:x.bs=0
 op:x.op=0
 hyp:x.hyp=false
 fV:x.fV≠[]
 dep:x.f.dep<=40
 aq:x.cs.length<2^20
 cs:∀ac∈x.cs,1<=ac.1/\ac.1<=ac.2/\ac.2<=T.length
theorem Rf{T:List bu}{x:bu}:(T++[x])[T.length+1-1]? =some x:=by simp
theorem o4.ix{T:List bu}(g:m1 T){x:bu}(hx:o4 T x)(hl:T.length<=35):wT (T++[x]):=by
 refine⟨by rw[c4];show T.length+1<_;omega,λy hy=>?_,λi hi=>?_⟩
 ·rcases eP.1 hy with hy|hy
  ·exact g.ix.num y hy
  ·rw[cu.1 hy,hx.bs,hx.op];exact⟨ca,br _⟩
 ·by_cases h:i<T.length
  ·rw[g9 h,sx U];exact g.ix.go i h
  ·rw[ri U];simp only[P2];rw[hx.bs];omega
theorem m1.more{T:List bu}(g:m1 T){x:bu}(hx:o4 T x)(hl:T.length<=35):m1 (T++[x]) where
 ix:=hx.ix g hl
 mV:=by
  refine⟨by unfold c3;rw[b0,lZ],by rw[c4];show T.length+1<_;omega,λy hy=>?_,λl ry=>?_⟩
  ·rcases eP.1 hy with hy|hy
   ·exact g.mV.bs y hy
   ·rw[cu.1 hy,hx.bs];decide
  ·have an:=hx.ix g hl;obtain⟨i,hi,rfl⟩:=dx.1 ry;rw[IT] at hi;rw[an.len i hi,cK hi];show(T++[x])[i].bs<_;have:=an.num _ (bJ hi);omega
 tX k y h1 hy:=by
  by_cases h:k-1<T.length
  ·rw[kD h] at hy;exact g.tX k y h1 hy
  ·have ay:=(fC.1 hy).1;rw[c4] at ay;have ay:k-1<T.length+1:=ay;obtain rfl:k=T.length+1:=by omega
   rw[Rf] at hy;cases hy;exact⟨hx.aq,λac dW=>by have:=hx.cs ac dW;omega⟩
 aa k h1 h2:=by
  rw[c4] at h2;have h2:k<=T.length+1:=h2;unfold se;by_cases h:k-1<T.length
  ·have:=g.aa k h1 U;unfold se at this;rw[kD h];have e:vj (T++[x]) k=vj T k:=by
    unfold vj;rw[kD U]
   rw[e];exact this
  ·obtain rfl:k=T.length+1:=by omega
   rw[Rf];show Bf x _ _=true;unfold Bf;rw[hx.bs,hx.op,hx.hyp];have e:x.cs.all (vk (T.length+1))=true:=m4.2 λac dW=>decide_eq_true (by have:=hx.cs ac dW;omega);rw[cond_false,e,decide_eq_true (show 0<=40/\0<=0 by omega),decide_eq_true (k0 _)];cases al:x.fV with
   |nil=>exact absurd al hx.fV
   |cons _ _=>rfl
 dep y hy:=by
  rcases eP.1 hy with hy|hy
  ·exact g.dep y hy
  ·rw[cu.1 hy];exact hx.dep
 le:=by rw[c4];show T.length+1<=36;omega
 ne:=by simp
theorem c2B{T:List bu}{x:bu}(hx:o4 T x):stF (T++[x]) (T.length+1)=[]:=by
 rw[vi aG];simp only[oS];unfold tG;rw[hx.bs,hx.op];simp
theorem Rg{T:List bu}{x:bu}(hx:o4 T x):ig (T++[x]) (T.length+1)=0:=by
 unfold ig;rw[g_,fO,show T.length+1-1=(T.map bu.bs).length by simp];simp[hx.bs]
theorem c2C{T:List bu}{x:bu}(hx:o4 T x){c:Nat}(h1:1<=c)(h2:c<=T.length):ns (c3 (T++[x])) (T.length+1) c c=decide (stF T c=[]):=by
 unfold ns;rw[rb (j:=T.length+1) U aG,c2B hx,rb (T:=T++[x]) (j:=c) h1 (by simp;omega),sx h2,decide_eq_true I];cases stF T c with
 |nil=>rfl
 |cons y l=>simp
theorem c2D{K:Nat->List AV->AV->Prop}{R:List dj}{T:List bu}{c:Nat}(h1:1<=c)(h2:c<=T.length){x:bu}(hx:o4 T x)(al:x.fV=jJ)(ab:x.cs=[(c,c)])(hf:x.f=fj T c)(kc:K tA [(fj T c).A true,(fj T c).A true] (.b true)):
  j2 K (T++[x]) (c3 (T++[x])) (ndsL (T++[x]) (T++[x]).length) R (T.length+1) x true (cond (decide (stF T c=[])) 0 5) 0 0 0:=by
 have l9:citeB (T++[x]) (c3 (T++[x])) (T.length+1) [mX] x.cs=decide (stF T c=[]):=by
  rw[ab];show(gY _ _ _ _ _&&true)=_;unfold gY;rw[show mX.cM=false from rfl,cond_false,c2C hx h1 h2,As]
 refine .again I hx.hyp al ?_;cases hd:decide (stF T c=[]) with
 |false=>rw[hd] at l9;exact .lv l9
 |true=>
  rw[hd] at l9;exact .ap (c,c) ab l9 true (by rw[hf,E9 h1 h2];exact kc)
end Go.Lyc
end
noncomputable section
namespace Go.Lyc
set_option maxHeartbeats 0
open Go Go.RowKit Go.ChangeShapes Go.WideShapes
section
variable {H:Type}{enc:TypeId×Value->H}{P:Program}{w:World}{B:Nat}
structure c8p(P:Program)(J6 Ff J7 Fg Fh Fi J8:TypeId):Prop where
 b:P.underlying J6=some .bool
 s:P.underlying Ff=some .string
 u:P.underlying J7=some (.int .u8)
 k9:P.underlying Fh=some (.slice Fg)
 a8:P.underlying J8=some (.slice Fi)
 c8q:P.cellsOf J6=1
 cs:P.cellsOf Ff=1
 c8r:P.cellsOf J7=1
 c8s:P.cellsOf Fh=1
 c8t:P.cellsOf J8=1
 DJ:P.cellsOf Fg=3
 eT:P.cellsOf Fi=4
 eS:0<P.bytesOf Fg
 ck:0<P.bytesOf Fi
 t:∃a b c:Field,P.underlying Fg=some (.struct #[a,b,c])/\(a.type=J6/\a.offset=0)/\(b.type=Ff/\b.offset=1)/\(c.type=Fh/\c.offset=2)
 f:∃a b c d:Field,P.underlying Fi=some (.struct #[a,b,c,d])/\(a.type=J7/\a.offset=0)/\(b.type=Ff/\b.offset=1)/\(c.type=Fh/\c.offset=2)/\(d.type=J8/\d.offset=3)
variable {J6 Ff J7 Fg Fh Fi J8:TypeId}
end
end Go.Lyc
end
noncomputable section
namespace Go.Lyc
set_option maxHeartbeats 0
open Go Go.RowKit
section
variable [Tok][TokOk]
def elemF(f:AV->AV)(x:AV):AV:=match x with| .ah c=>.ah (c.map f)|x=>f x
def sb(n:Nat):AV->AV:=Nat.rec (motive:=λ_=>AV->AV) (λv=>v) (λ_ aH v=>match v with
 | .y i=>Tok.Cp i
 | .gi o i=>Tok.pd o i
 | .ah l=>.ah (l.map aH)
 | .a_ o aa xs=>.a_ o aa (xs.map (elemF aH))
 |v=>v) n
end
abbrev tokOf(F:Fm):Tok:=⟨λi=>cond (Nat.beq i 0) (.i .u8 (Int.ofNat F.op)) (.s F.name),λo i=>cond (Nat.beq i 0) (jG o F.gV) (iH o F.gy)⟩
section
variable [Tok]
def Seen(w:World)(o bU:Bool)(O ka:Nat->Prop)(B eE:Nat):Prop:=∀aF,aF<w.heap.size->¬O aF->(o=false->B<=aF)->¬ka aF/\(bU=false->eE<=aF)
theorem a1N{α:Type}{w:World}{o bU:Bool}{O ka:Nat->Prop}{B eE k:Nat}(cW:Seen w o bU O ka B eE)(f g:α->List AV)(l:List α)(hf:∀x∈l,(f x).length=k)(hg:∀x∈l,(g x).length=k)(ab:∀x∈l,∀y∈g x,conf none y=true)
  (aH:∀x∈l,∀i (h:i<(f x).length) (h':i<(g x).length) u,R w (λ_=>none) O B ((f x)[i]) u->R w (λ_=>none) ka eE ((g x)[i]) u) {u:Value} (h:R w (λ_=>none) O B (.a_ o (some k) (l.map λx=>.ah (f x))) u):R w (λ_=>none) ka eE (.a_ bU (some k) (l.map λx=>.ah (g x))) u:=by
 generalize dH:l.map (λx=>AV.ah (f x))=xs at h;cases h with
 |lD=>
  obtain rfl:=P3.1 dH;exact .lD
 |a_ ba cp an xR al hl y5 fu=>
  rename_i aF off fZ sp;have hlen:xs.length=(l.map λx=>AV.ah (g x)).length:=by rw[<-dH,b0,b0]
  rw[hlen];have a5:(l.map λx=>AV.ah (g x))≠[]->xs≠[]:=λh e=>h (by rw[<-dH,P3] at e;rw[e];rfl);have hx:∀i (h:i<xs.length) (h':i<l.length),xs[i]= .ah (f l[i]):=λi h h'=>by subst dH;simp
  have hy:∀i (h:i<(l.map λx=>AV.ah (g x)).length) (h':i<l.length),(l.map λx=>AV.ah (g x))[i]= .ah (g l[i]):=λi h h'=>by simp
  have fh:(l.map λx=>AV.ah (g x)).length=l.length:=b0 ..;refine .a_ ba (λh=>?_) (λi hi=>?_) (λi hi j aC=>?_) (λi hi j aC=>?_) U (λv av x hx=>?_) (λh=>fu (a5 h))
  ·obtain⟨h1,h2,h3⟩:=cp (a5 h);obtain⟨aQ,bF⟩:=cW aF h2 h1 h3;exact⟨aQ,h2,bF⟩
  ·rw[hy i hi U];show conf (some k) (.ah _)=true;simp[conf,hg _ (bJ (show i<l.length by omega))]
  ·have dc:i<l.length:=by omega
   have aR:((l.map λx=>AV.ah (g x))[i]).cells=g l[i]:=by rw[hy i hi dc];rfl
   have fw:j<(g l[i]).length:=by rw[aR] at aC;exact aC
   have a6:(xs[i]'U).cells=f l[i]:=by rw[hx i U dc];rfl
   exact xR i U j (by rw[a6,hf _ (bJ dc),← hg _ (bJ dc)];exact fw)
  ·have dc:i<l.length:=by omega
   have aR:((l.map λx=>AV.ah (g x))[i]).cells=g l[i]:=by rw[hy i hi dc];rfl
   have fw:j<(g l[i]).length:=by rw[aR] at aC;exact aC
   have a6:(xs[i]'U).cells=f l[i]:=by rw[hx i U dc];rfl
   have hG:j<(f l[i]).length:=by rw[hf _ (bJ dc),← hg _ (bJ dc)];exact fw
   have:=al i U j (by rw[a6];exact hG);simp only[a6] at this;simp only[aR];exact aH _ (bJ dc) j hG fw _ this
  ·obtain⟨y,hy,rfl⟩:=dx.1 av;exact ab y hy x hx
theorem J9{w:World}{o bU:Bool}{O ka:Nat->Prop}{B eE:Nat}(cW:Seen w o bU O ka B eE):∀(d:Nat) (a:Option (List Tm)),Tm.hK (a.getD [])<d->∀u,R w (λ_=>none) O B (jG o a) u->R w (λ_=>none) ka eE (jG bU a) u
 |0,a,h,_,_=>by omega
 |d+1,none,_,u,h=>by
  have h:R w (λ_=>none) O B .af u:=h;cases h;exact .af
 |d+1,some l,hd,u,h=>by
  refine a1N (k:=3) cW (λt:Tm=>t.cells o) (λt:Tm=>t.cells bU) l (λt _=>by rw[Tm.jV];rfl) (λt _=>by rw[Tm.jV];rfl) (λt _ y hy=>?_) (λt ht i h1 h2 u hu=>?_) h
  ·rw[Tm.jV] at hy;simp only[dF,gT,or_false] at hy;rcases hy with rfl|rfl|rfl
   ·rfl
   ·rfl
   ·cases t.gV<;>rfl
  ·have Rh:Tm.hK (t.gV.getD [])<d:=by
    have h3:Tm.hK l<d+1:=hd;have aQ:=Tm.wq ht;have bF:t.dep=Tm.hK (t.gV.getD [])+1:=Tm.rW t;omega
   simp only[Tm.jV] at hu h1 h2 ⊢
   match i,h1 with
   |0,_=>cases hu;exact .b _
   |1,_=>cases hu;exact .s _ (by assumption)
   |2,_=>exact J9 cW d t.gV Rh u hu
theorem Fj{w:World}{o bU:Bool}{O ka:Nat->Prop}{B eE:Nat}(cW:Seen w o bU O ka B eE):∀(d:Nat) (a:Option (List Fm)),Fm.hK (a.getD [])<d->∀u,R w (λ_=>none) O B (iH o a) u->R w (λ_=>none) ka eE (iH bU a) u
 |0,a,h,_,_=>by omega
 |d+1,none,_,u,h=>by
  have h:R w (λ_=>none) O B .af u:=h;cases h;exact .af
 |d+1,some l,hd,u,h=>by
  refine a1N (k:=4) cW (λt:Fm=>t.cells o) (λt:Fm=>t.cells bU) l (λt _=>by rw[Fm.jV];rfl) (λt _=>by rw[Fm.jV];rfl) (λt _ y hy=>?_) (λt ht i h1 h2 u hu=>?_) h
  ·rw[Fm.jV] at hy;simp only[dF,gT,or_false] at hy;rcases hy with rfl|rfl|rfl|rfl
   ·rfl
   ·rfl
   ·cases t.gV<;>rfl
   ·cases t.gy<;>rfl
  ·have Rh:Fm.hK (t.gy.getD [])<d:=by
    have h3:Fm.hK l<d+1:=hd;have aQ:=Fm.wq ht;have bF:t.dep=max (Tm.hK (t.gV.getD [])) (Fm.hK (t.gy.getD []))+1:=Fm.rW t;omega
   simp only[Fm.jV] at hu h1 h2 ⊢
   match i,h1 with
   |0,_=>cases hu;exact .i _ _
   |1,_=>cases hu;exact .s _ (by assumption)
   |2,_=>exact J9 cW _ t.gV (lB _) u hu
   |3,_=>exact Fj cW d t.gy Rh u hu
end
theorem tokOf_ok(F:Fm): @TokOk (tokOf F):=by
 letI:Tok:=tokOf F
 refine⟨λ{w O B eE i old u} h=>?_,λ{w O B i u} h=>?_⟩
 ·have cW:Seen w old true O (λ_=>False) B eE:=λaF _ _ _=>⟨λh=>h,λh=>by cases h⟩
  by_cases hi:i=0
  ·subst hi;exact J9 cW _ F.gV (lB _) u h
  ·have e:∀o,Tok.pd o i=iH o F.gy:=λo=>by
    show cond (Nat.beq i 0) (jG o F.gV) (iH o F.gy)=_;cases i with
    |zero=>exact absurd I hi
    |succ i=>rfl
   rw[e] at h ⊢;exact Fj cW _ F.gy (lB _) u h
 ·have cW:Seen w false false O (λb=>b<B) B B:=λaF _ _ h=>⟨λh2=>by have:=h I;omega,h⟩
  by_cases hi:i=0
  ·subst hi;exact J9 cW _ F.gV (lB _) u h
  ·have e:∀o,Tok.pd o i=iH o F.gy:=λo=>by
    show cond (Nat.beq i 0) (jG o F.gV) (iH o F.gy)=_;cases i with
    |zero=>exact absurd I hi
    |succ i=>rfl
   rw[e] at h ⊢;exact Fj cW _ F.gy (lB _) u h
inductive bD(T:Tok):AV->AV->Prop
 |i (k:IntKind) (n:Int):bD T (.i k n) (.i k n)
 |s (l:List Nat):bD T (.s l) (.s l)
 |b (x:Bool):bD T (.b x) (.b x)
 |nil:bD T .af .af
 |y (i:Nat) (h:(∃k n,T.Cp i= .i k n)\/∃l,T.Cp i= .s l):bD T (.y i) (T.Cp i)
 |gi (o:Bool) (i:Nat) (v:AV) (h:T.pd o i= .af\/∃aa l,T.pd o i= .a_ o aa l) (av:bD T (T.pd o i) v):bD T (.gi o i) v
 |ah (l m:List AV) (hl:l.length=m.length) (h:∀i (h:i<l.length) (h':i<m.length),bD T l[i] m[i]):bD T (.ah l) (.ah m)
 |a9 (l m:List AV) (hl:l.length=m.length) (h:∀i (h:i<l.length) (h':i<m.length),bD T l[i] m[i]):bD T (.a9 l) (.a9 m)
 |a_ (o:Bool) (aa:Option Nat) (c d:List (List AV)) (hl:c.length=d.length) (fh:∀i (h:i<c.length) (h':i<d.length),(c[i]).length=(d[i]).length) (h:∀i (h:i<c.length) (h':i<d.length) j (aC:j<(c[i]).length) (fw:j<(d[i]).length),bD T (c[i])[j] (d[i])[j]):bD T (.a_ o aa (c.map AV.ah)) (.a_ o aa (d.map AV.ah))
theorem bD.conf{T:Tok}{v bM:AV}(h:bD T v bM):conf none v=conf none bM:=by
 induction h with
 |y i h=>rcases h with⟨k,n,e⟩|⟨l,e⟩<;>rw[e]<;>rfl
 |gi o i v h av aH=>rw[<-aH];rcases h with e|⟨aa,l,e⟩<;>rw[e]<;>rfl
 |_=>rfl
theorem bD.R{T fk:Tok}{w:World}{O:Nat->Prop}{B:Nat}{v bM:AV}(h:bD T v bM):∀u,@Go.Lyc.R T w (λ_=>none) O B v u↔ @Go.Lyc.R fk w (λ_=>none) O B bM u:=by
 induction h with
 |i k n=>exact λu=>⟨λh=>by cases h;exact .i _ _,λh=>by cases h;exact @Go.Lyc.R.i T w _ O B _ _⟩
 |s l=>exact λu=>⟨λh=>by cases h;exact .s _ (by assumption),λh=>by cases h;exact @Go.Lyc.R.s T w _ O B _ (by assumption)⟩
 |b x=>exact λu=>⟨λh=>by cases h;exact .b _,λh=>by cases h;exact @Go.Lyc.R.b T w _ O B _⟩
 |nil=>exact λu=>⟨λh=>by cases h;exact .af,λh=>by cases h;exact @Go.Lyc.R.af T w _ O B⟩
 |y i h=>
  intro u;constructor
  ·intro hR;cases hR with
   |y hl=>
    rcases h with⟨k,n,e⟩|⟨l,e⟩
    ·rw[e] at hl ⊢;cases hl;exact .i _ _
    ·rw[e] at hl ⊢;cases hl with
     |s l h=>exact .s l h
  ·intro hR;refine @Go.Lyc.R.y T w _ O B i u ?_;rcases h with⟨k,n,e⟩|⟨l,e⟩
   ·rw[e] at hR ⊢;cases hR;exact .i _ _
   ·rw[e] at hR ⊢;cases hR with
    |s l h=>exact .s l h
 |gi o i v h av aH=>
  intro u;constructor
  ·intro hR;cases hR with
   |gi hu h=>exact(aH u).1 h
  ·intro hR;have h2:=(aH u).2 hR;obtain⟨a,l,c,e⟩:∃a l c,u= .slice a l c:=by
    rcases h with e|⟨aa,l,e⟩
    ·rw[e] at h2;cases h2;exact⟨_,_,_,rfl⟩
    ·rw[e] at h2;cases h2<;>exact⟨_,_,_,rfl⟩
   exact @Go.Lyc.R.gi T w _ O B i o u a l c e h2
 |ah l m hl h aH=>
  intro u;constructor
  ·intro hR;cases hR with
   |ah an al hf=>
    refine .ah U (λi h1 h2=>(aH i U h1 _).1 (al i U h2)) λx hx=>?_;obtain⟨i,hi,rfl⟩:=jw hx;rw[<-(h i U hi).conf];exact hf _ (bJ _)
  ·intro hR;cases hR with
   |ah an al hf=>
    refine @Go.Lyc.R.ah T w _ O B l _ U (λi h1 h2=>(aH i h1 U _).2 (al i U h2)) λx hx=>?_;obtain⟨i,hi,rfl⟩:=jw hx;rw[(h i hi U).conf];exact hf _ (bJ _)
 |a9 l m hl h aH=>
  intro u;constructor
  ·intro hR;cases hR with
   |a9 an al=>exact .a9 U λi h1 h2=>(aH i U h1 _).1 (al i U h2)
  ·intro hR;cases hR with
   |a9 an al=>exact @Go.Lyc.R.a9 T w _ O B l _ U λi h1 h2=>(aH i h1 U _).2 (al i U h2)
 |a_ o aa c d hl fh h aH=>
  have key:∀(Ri oI:Tok) (c d:List (List AV)),c.length=d.length->(∀i (h:i<c.length) (h':i<d.length),(c[i]).length=(d[i]).length)->(∀i (h:i<c.length) (h':i<d.length) j (aC:j<(c[i]).length) (fw:j<(d[i]).length),Go.Lyc.conf none (c[i])[j]=Go.Lyc.conf none (d[i])[j]/\∀u,@Go.Lyc.R Ri w (λ_=>none) O B (c[i])[j] u→ @Go.Lyc.R oI w (λ_=>none) O B (d[i])[j] u)->∀u,@Go.Lyc.R Ri w (λ_=>none) O B (.a_ o aa (c.map AV.ah)) u→ @Go.Lyc.R oI w (λ_=>none) O B (.a_ o aa (d.map AV.ah)) u:=by
   intro Ri oI c d hl fh hh u hR;generalize hx:c.map AV.ah=xs at hR;cases hR with
   |lD=>
    obtain rfl:=P3.1 hx;obtain rfl:d=[]:=EG.1 (by simpa using hl.symm);exact .lD
   |a_ ba cp an ab al hL hf fu=>
    have iv:xs.length=c.length:=by rw[<-hx,b0]
    have hg:∀i (h:i<xs.length) (h':i<c.length),xs[i]= .ah c[i]:=λi h h'=>by subst hx;simp
    have C5:(d.map AV.ah).length=xs.length:=by rw[b0];omega
    have vt:∀i (h:i<(d.map AV.ah).length) (h':i<d.length),(d.map AV.ah)[i]= .ah d[i]:=λi h h'=>by simp
    have a5:d.map AV.ah≠[]->xs≠[]:=λh e=>h (EG.1 (by rw[C5,e];rfl));rw[<-C5];refine .a_ ba (λh=>cp (a5 h)) (λi h=>?_) (λi h j aC=>?_) (λi h j aC=>?_) U (λv av x eY=>?_) (λh=>fu (a5 h))
    ·have h1:=an i U;rw[hg i U U] at h1;rw[vt i h U];cases aa with
     |none=>cases h1
     |some k=>
      have h1:Nat.beq (c[i]'U).length k=true:=h1;show Nat.beq (d[i]'U).length k=true;rw[<-fh i U U];exact h1
    ·have aR:((d.map AV.ah)[i]).cells.length=(d[i]'U).length:=by rw[vt i h U];rfl
     have a6:(xs[i]'U).cells.length=(c[i]'U).length:=by rw[hg i U U];rfl
     exact ab i U j (by rw[a6,fh i U U,← aR];exact aC)
    ·have aR:((d.map AV.ah)[i]).cells=d[i]'U:=by rw[vt i h U];rfl
     have a6:(xs[i]'U).cells=c[i]'U:=by rw[hg i U U];rfl
     have ze:j<(d[i]'U).length:=by rw[<-aR];exact aC
     have hG:j<(c[i]'U).length:=by rw[fh i U U];exact ze
     have h3:=al i U j (by rw[a6];exact hG);simp only[a6] at h3;simp only[aR];exact(hh i U U j hG ze).2 _ h3
    ·obtain⟨i,hi,rfl⟩:=jw av;have aR:((d.map AV.ah)[i]).cells=d[i]'(by rw[b0] at hi;exact hi):=by rw[vt i hi (by rw[b0] at hi;exact hi)];rfl
     rw[b0] at hi;rw[aR] at eY;obtain⟨j,aC,rfl⟩:=jw eY;have a6:(xs[i]'U).cells=c[i]'U:=by rw[hg i U U];rfl
     have hG:j<(c[i]'U).length:=by rw[fh i U U];exact aC
     rw[<-(hh i U U j hG aC).1];exact hf _ (bJ (show i<xs.length by omega)) _ (by rw[a6];exact bJ _)
  intro u;constructor
  ·exact key T fk c d hl fh (λi h1 h2 j aC fw=>⟨(h i h1 h2 j aC fw).conf,λu=>(aH i h1 h2 j aC fw u).1⟩) u
  ·exact key fk T d c hl.symm (λi h1 h2=>(fh i h2 h1).symm) (λi h1 h2 j aC fw=>⟨(h i h2 h1 j fw aC).conf.symm,λu=>(aH i h2 h1 j fw aC u).2⟩) u
def a1O:AV->Bool
 | .i _ _=>true
 | .s _=>true
 | .b _=>true
 | .af=>true
 |_=>false
theorem bD.leaf{T:Tok}{v:AV}(h:a1O v=true):bD T v v:=by
 cases v with
 |i k n=>exact .i k n
 |s l=>exact .s l
 |b x=>exact .b x
 |af=>exact .nil
 |_=>cases h
def Fk(env:Env):Prop:=∀g v,env.mr g=some v->∃l,v= .ah l/\∀x∈l,a1O x=true
theorem Globs.n1{fk T:Tok}{env:Env}(hl:Fk env){w:World}{B:Nat}(h: @Globs fk env w B): @Globs T env w B:=λg v hg eE=>by
 have hR:=h g v hg eE;obtain⟨l,rfl,hl⟩:=hl g v hg;cases hR with
 |dG ba cp hb b3 ab al hf=>exact .dG ba cp hb b3 ab (λj aC=>((bD.leaf (T:=fk) (hl _ (bJ aC))).R (fk:=T) _).1 (al j aC)) hf
theorem bD.entry{T fk:Tok}{P:Program}{env:Env}(de:Fk env){b1 g:Nat}{aY kY:List AV}{r cc:AV}(hl:aY.length=kY.length)(h:∀i (h:i<aY.length) (h':i<kY.length),bD T aY[i] kY[i])(al:bD T r cc): @SpecEntry T P env b1 g aY r↔ @SpecEntry fk P env b1 g kY cc:=by
 constructor
 ·intro gE;exact⟨gE.1,λk rd w us b3 Dv hR=>(gE.2 k rd w us b3 (Dv.n1 de) ⟨by rw[hR.1,hl],λi h1 h2=>((h i h1 U).R _).2 (hR.2 i U h2)⟩).mono λe bW ⟨u,aR,a6,c0⟩=>⟨u,aR,(al.R _).1 a6,c0⟩⟩
 ·intro gE;exact⟨gE.1,λk rd w us b3 Dv hR=>(gE.2 k rd w us b3 (Dv.n1 de) ⟨by rw[hR.1,hl],λi h1 h2=>((h i U h1).R _).1 (hR.2 i U h2)⟩).mono λe bW ⟨u,aR,a6,c0⟩=>⟨u,aR,(al.R _).2 a6,c0⟩⟩
end Go.Lyc
end
