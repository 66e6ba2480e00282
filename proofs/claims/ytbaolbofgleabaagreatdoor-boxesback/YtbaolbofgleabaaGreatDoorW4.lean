/-
  What functions of the program compute: walks, part 4. No conditions: definitions and laws.
-/
import Derived.Test.YtbaolbofgleabaaGreatDoorW3
set_option linter.all false
noncomputable section
namespace Go.Lyc
variable {b:bJ}{K:Nat->List AV->AV->Prop}
set_option maxHeartbeats 0
set_option maxRecDepth 100000
section
open Go Go.RowKit Go.Lyc.T
def rowM(r:Nat):List (Fm×vH):=match r with
 |0=>[(mA,.a),(ec,.b),(iA 0 mA ec,.bin 0)]
 |1=>[(iA 0 mA ec,.bin 0),(mA,.a)]
 |2=>[(iA 0 mA ec,.bin 0),(ec,.b)]
 |3=>[(mA,.a),(iA 1 mA ec,.bin 1)]
 |4=>[(ec,.b),(mA,.a),(iA 2 mA ec,.bin 2)]
 |5=>[(iA 2 mA ec,.bin 2),(mA,.a),(ec,.b)]
 |6=>[(m_,.cC),(mA,.a),(qJ mA,.neg)]
 |7=>[(mA,.a),(qJ mA,.neg),(m_,.cC)]
 |9=>[(ec,.b),(iA 2 mA ec,.bin 2)]
 |10=>[(m_,.cC),(qJ mA,.neg)]
 |_=>[(m_,.cC),(mA,.a)]
def oi(r:Nat):List (Fm×vH):=if r<6\/r=9 then[(mA,.a),(ec,.b)] else[(mA,.a)]
abbrev a5W:=Nat×List AV×AV
def Wv(r s1 s2:Nat):List a5W:=
 (rowM r).map (λp=>(mZ,[.aj (p.2.ig s1 s2 true)],.b true))++((rowM r).map (λp=>(MB,[p.1.A true],.b true))++((oi r).map (λp=>(yd,[.aj (br p.1++(p.2.ig s1 s2 true++[.nilsl])),.aj (p.2.ig s1 s2 true),.nilsl],.bg [.aj (p.2.ig s1 s2 false),.b true]))++
 ((oi r).map (λp=>(yn,[.aj (p.2.ig s1 s2 true),.aj (p.2.ig s1 s2 true),.nilsl],.b true))++(oi r).map (λp=>(lJ,[.aj (p.2.ig s1 s2 true)],.aj (p.2.ig s1 s2 false))))))
def a5X(r s1 s2:Nat):List AV:=[.aV true (some 8) ((rowM r).map λp=>.aj (br p.1++p.2.ig s1 s2 true)),.aj [.nilsl,.nilsl]]
def a5Y(r s1 s2:Nat):AV:=.bg [.aj [.aV false (some 5) ((oi r).map λp=>.aj (.s p.1.name::p.2.ig s1 s2 false)),.nilsl],ag 0,ag 0]
def a5Z(b:bJ)(r:Nat):Bool:=cN (λs1=>cN (λs2=>runsTo b (Wv r s1 s2) 100000 (rn,a5X r s1 s2,a5Y r s1 s2)) [0,1,2]) [0,1,2]
def a6a(s:Nat):List a5W:=(List.range s).map λj=>(lJ,[.aj (xq 0 j true)],.aj (xq 0 j false))
def a6b(b:bJ):Bool:=cN (λs=>runsTo b (a6a s) 100000 (lJ,[.aj (rT 0 s true)],.aj (rT 0 s false))) [0,1,2]
structure GivM(P:Program)(b:bJ)(db b8:AV):Prop where
 hb:∀T:Tok,@TokOk T→ @lb T P b
 fb:oh b
 gm:∀T:Tok,@TokOk T→ @y9 T P b db b8
 leaf:I7 (b.env [])
 MQ:∀T:Tok,@TokOk T->∀r<11,∀p∈rowM r,@er T P b MB [p.1.A true] (.b true)
 HJ:∀r<11,a5Z b r=true
 YY:a6b b=true
section
variable {P:Program}{b:bJ}{db b8:AV}(G:GivM P b db b8)
def three{s:Nat}(h:s<3):s∈[0,1,2]:=by
 have:s=0\/s=1\/s=2:=by omega
 simpa using this
def er.ig{T ic:Tok}(hl:I7 (b.env [])){g:Nat}{aO pb:List AV}{r bR:AV}(h1:aO.length=pb.length)(h:∀i (h:i<aO.length) (h':i<pb.length),b7 T aO[i] pb[i])(ak:b7 T r bR): @er T P b g aO r↔ @er ic P b g pb bR:=⟨λh' b2=>(b7.entry hl h1 h ak).1 (h' b2),λh' b2=>(b7.entry hl h1 h ak).2 (h' b2)⟩
def b7.one{T:Tok}{x y:AV}(h:b7 T x y):∀i (h:i<[x].length) (h':i<[y].length),b7 T [x][i] [y][i]:=λi h1 h2=>by
 match i,h1 with
 |0,_=>exact h
include G in
theorem Ww:∀(d:Nat) (a:PF),a.dep<=d->∀ic:Tok,@er ic P b lJ [a.aI.A true] (a.aI.A false)
 |0,a,hd=>by cases a<;>simp[PF.dep] at hd
 |d+1,a,hd=>λic=>by
  have fM:=a.OV;have ht:=OW (f:=a) (g:=a) true (k:=0) b_;have hf:=OW (f:=a) (g:=a) false (k:=0) b_;refine(er.ig (T:=ie a a) G.leaf (aO:=[.aj (rT 0 a.subs.length true)]) (r:=.aj (rT 0 a.subs.length false)) (pb:=[a.aI.A true]) (bR:=a.aI.A false) I (b7.one ht) hf).1 ?_
  letI:Tok:=ie a a
  haveI:TokOk:=rU a a
  have ix:z8 P b (a6a a.subs.length):=λe he b2=>by
   obtain⟨j,aA,rfl⟩:=cT.1 he;rw[Ay] at aA;have h1:=Wu (f:=a) (g:=a) true (k:=0) (j:=j) b_ U aA;have h2:=Wu (f:=a) (g:=a) false (k:=0) (j:=j) b_ U aA;exact(er.ig (T:=ie a a) (ic:=ie a a) G.leaf (aO:=[.aj (xq 0 j true)]) (r:=.aj (xq 0 j false)) (pb:=[(a.subs[j]).aI.A true]) (bR:=(a.subs[j]).aI.A false) I (b7.one h1) h2).2 (Ww d a.subs[j] (by have:=PF.Wt (bC aA);omega) (ie a a)) b2
  have cd:=nv G.YY a.subs.length (three U);exact λb2=>ix.entry (G.hb _ (rU a a)) cd b2
end
def b7.mk{T:Tok}{l m:List AV}(hl:l.length=m.length)(h:∀i (h:i<l.length) (h':i<m.length),b7 T l[i] m[i]):b7 T (.aj l) (.aj m):=.aj _ _ hl h
def b7.app{T:Tok}{l m bD aP:List AV}(h:b7 T (.aj l) (.aj m))(h':b7 T (.aj bD) (.aj aP)):b7 T (.aj (l++bD)) (.aj (m++aP)):=by
 obtain⟨aQ,aZ⟩:=h.cells;obtain⟨dU,fr⟩:=h'.cells;refine .mk (by rw[c5,c5];omega) λi h1 h2=>?_;by_cases hi:i<l.length
 ·rw[iC hi,iC U];exact aZ i hi U
 ·rw[c5] at h1 h2;rw[BU U,BU U];have:=fr (i-l.length) U U;simp only[<-aQ];exact this
def b7.cons{T:Tok}{x y:AV}{l m:List AV}(hx:b7 T x y)(h:b7 T (.aj l) (.aj m)):b7 T (.aj (x::l)) (.aj (y::m)):=b7.app (l:=[x]) (m:=[y]) (.mk I (b7.one hx)) h
def b7.two{T:Tok}{x y dL dV:AV}(hx:b7 T x y)(cX:b7 T dL dV):∀i (h:i<[x,dL].length) (h':i<[y,dV].length),b7 T [x,dL][i] [y,dV][i]:=λi h1 h2=>by
 match i,h1 with
 |0,_=>exact hx
 |1,_=>exact cX
def b7.three{T:Tok}{x y dL dV Wx Wy:AV}(hx:b7 T x y)(cX:b7 T dL dV)(c7m:b7 T Wx Wy):∀i (h:i<[x,dL,Wx].length) (h':i<[y,dV,Wy].length),b7 T [x,dL,Wx][i] [y,dV,Wy][i]:=λi h1 h2=>by
 match i,h1 with
 |0,_=>exact hx
 |1,_=>exact cX
 |2,_=>exact c7m
def Wz(F:Fm):F.A true= .aj (br F):=by unfold Fm.A;rw[Fm.kj]
def b7.OX{T:Tok}(op:Nat)(n:List Nat):b7 T (.aj (br (.mk op n none none))) (.aj (br (.mk op n none none))):=b7.four (.i _ _) (.s _) .nil .nil
def b7.a6c{T:Tok}(op:Nat)(n:List Nat)(l:List Fm)(aY:l≠[])(h:∀x∈l,b7 T (.aj (br x)) (.aj (br x))):b7 T (.aj (br (.mk op n none (some l)))) (.aj (br (.mk op n none (some l)))):=by
 refine b7.four (.i _ _) (.s _) .nil ?_;show b7 T (.aV true (some 4) (l.map (Fm.A true))) (.aV true (some 4) (l.map (Fm.A true)));have e:l.map (Fm.A true)=(l.map br).map AV.aj:=by rw[kq];exact pd λx _=>Wz x
 rw[e];have:=b7.ao (T:=T) (o:=true) (ab:=some 4) (c:=l.map br) (d:=l.map br) I λi h1 h2=>by
  rw[bB] at h1;rw[ez];exact h _ (bC h1)
 cases l with
 |nil=>exact absurd I aY
 |cons x l=>exact this
def b7.SL{T:Tok}{r:Nat}(ak:r<11):∀p∈rowM r,b7 T (.aj (br p.1)) (.aj (br p.1)):=by
 have hA:b7 T (.aj (br mA)) (.aj (br mA)):=b7.OX _ _;have b0:b7 T (.aj (br ec)) (.aj (br ec)):=b7.OX _ _;have bL:b7 T (.aj (br m_)) (.aj (br m_)):=b7.OX _ _;have Bz:∀k,b7 T (.aj (br (iA k mA ec))) (.aj (br (iA k mA ec))):=λk=>b7.a6c _ _ [mA,ec] ay λx hx=>by
  have hx:x=mA\/x=ec:=by simpa using hx
  rcases hx with rfl|rfl
  ·exact hA
  ·exact b0
 have dP:b7 T (.aj (br (qJ mA))) (.aj (br (qJ mA))):=b7.a6c _ _ [mA] ay λx hx=>by rw[show x=mA by simpa using hx];exact hA
 have:r=0\/r=1\/r=2\/r=3\/r=4\/r=5\/r=6\/r=7\/r=8\/r=9\/r=10:=by omega
 rcases this with rfl|rfl|rfl|rfl|rfl|rfl|rfl|rfl|rfl|rfl|rfl<;>intro p an<;>simp only[rowM,c2,hj,or_false] at an
 ·rcases an with rfl|rfl|rfl<;>first|exact hA|exact b0|exact Bz _
 ·rcases an with rfl|rfl<;>first|exact hA|exact b0|exact Bz _
 ·rcases an with rfl|rfl<;>first|exact hA|exact b0|exact Bz _
 ·rcases an with rfl|rfl<;>first|exact hA|exact b0|exact Bz _
 ·rcases an with rfl|rfl|rfl<;>first|exact hA|exact b0|exact Bz _
 ·rcases an with rfl|rfl|rfl<;>first|exact hA|exact b0|exact Bz _
 ·rcases an with rfl|rfl|rfl<;>first|exact hA|exact bL|exact dP
 ·rcases an with rfl|rfl|rfl<;>first|exact hA|exact bL|exact dP
 ·rcases an with rfl|rfl<;>first|exact hA|exact bL|exact dP
 ·rcases an with rfl|rfl<;>first|exact hA|exact b0|exact Bz _
 ·rcases an with rfl|rfl<;>first|exact hA|exact bL|exact dP
def WA{r:Nat}:∀p∈oi r,(p=(mA,.a)\/p=(ec,.b)):=λp an=>by
 unfold oi at an;split at an
 ·simpa using an
 ·exact .inl (by simpa using an)
def WB:∀(d:Nat) (a:PF) {n:Nat},a.dep<=d->2*d+2<=n->∀x∈a.aI.cells false,AV.eqb n x x=true
 |0,a,_,hd,_=>by cases a<;>simp[PF.dep] at hd
 |d+1,a,n,hd,hn=>λx hx=>by
  obtain⟨n,rfl⟩:∃m,n=m+2:=⟨n-2,U⟩
  rw[PF.By] at hx;simp only[c2,hj,or_false] at hx
  letI:Tok:=ie .cC .cC
  haveI:TokOk:=rU .cC .cC
  rcases hx with rfl|rfl|rfl|rfl
  ·exact eo I
  ·exact eo I
  ·exact eo I
  ·cases al:a.subs with
   |nil=>rfl
   |cons y l=>
    refine DN λz a_=>?_;have a_:z∈(y::l).map λx=>x.aI.A false:=a_;obtain⟨c,aa,rfl⟩:=cT.1 a_;exact tN λv aq=>WB d c (by have:=PF.Wt (a:=a) (x:=c) (by rw[al];exact aa);omega) U v aq
section
variable {P:Program}{b:bJ}{db b8:AV}(G:GivM P b db b8)
include G in
theorem c7n{r:Nat}(ak:r<11){f g:PF}(hf:f.low)(hg:g.low)(rJ:∀p∈rowM r,(p.2.fS f g).low)(ic:Tok):∃res,@er ic P b rn [.aV true (some 8) ((rowM r).map λp=>n9 (p.1,(p.2.fS f g).aI)),.aj [.nilsl,.nilsl]] res/\Wg res:=by
 have jd:=f.OV;have nW:=g.OV;have fv:∀o (t:vH),b7 (ie f g) (.aj (t.ig f.subs.length g.subs.length o)) ((t.fS f g).aI.A o):=λo t=>vH.c7l f g o t;refine⟨.bg [.aj [.aV false (some 5) ((oi r).map λp=>.aj (.s p.1.name::(p.2.fS f g).aI.cells false)),.nilsl],ag 0,ag 0],(er.ig (T:=ie f g) G.leaf (aO:=a5X r f.subs.length g.subs.length) (r:=a5Y r f.subs.length g.subs.length) (pb:=[.aV true (some 8) ((rowM r).map λp=>n9 (p.1,(p.2.fS f g).aI)),.aj [.nilsl,.nilsl]]) I ?_ ?_).1 ?_,_,rfl,λJ=>rfl,λn=>?_,λn=>?_⟩
 ·refine b7.two ?_ (.mk I (b7.two .nil .nil));have aM:((rowM r).map λp=>AV.aj (br p.1++p.2.ig f.subs.length g.subs.length true))=((rowM r).map λp=>br p.1++p.2.ig f.subs.length g.subs.length true).map AV.aj:=by rw[kq];rfl
  have aU:((rowM r).map λp=>n9 (p.1,(p.2.fS f g).aI))=((rowM r).map λp=>br p.1++br (p.2.fS f g).aI).map AV.aj:=by rw[kq];rfl
  rw[aM,aU];have hall:∀i (h:i<(rowM r).length),b7 (ie f g) (.aj (br (rowM r)[i].1++(rowM r)[i].2.ig f.subs.length g.subs.length true)) (.aj (br (rowM r)[i].1++br ((rowM r)[i].2.fS f g).aI)):=λi h=>(b7.SL ak _ (bC h)).app (by have:=fv true (rowM r)[i].2;rwa[Wz] at this);refine .aV _ _ _ _ (by rw[bB,bB]) (λi h1 h2=>?_) λi h1 h2 j aA fB=>?_
  ·rw[bB] at h1;rw[ez,ez];exact(hall i h1).cells.1
  ·rw[bB] at h1;have:=(hall i h1).cells.2 j (by rwa[ez] at aA) (by rwa[ez] at fB);simpa only[ez] using this
 ·refine .bg _ _ I (b7.three (.mk I (b7.two ?_ .nil)) (.i _ _) (.i _ _));have aM:((oi r).map λp=>AV.aj (.s p.1.name::p.2.ig f.subs.length g.subs.length false))=((oi r).map λp=>.s p.1.name::p.2.ig f.subs.length g.subs.length false).map AV.aj:=by rw[kq];rfl
  have aU:((oi r).map λp=>AV.aj (.s p.1.name::(p.2.fS f g).aI.cells false))=((oi r).map λp=>.s p.1.name::(p.2.fS f g).aI.cells false).map AV.aj:=by rw[kq];rfl
  rw[aM,aU];have hall:∀i (h:i<(oi r).length),b7 (ie f g) (.aj (.s (oi r)[i].1.name::(oi r)[i].2.ig f.subs.length g.subs.length false)) (.aj (.s (oi r)[i].1.name::((oi r)[i].2.fS f g).aI.cells false)):=λi h=>b7.cons (.s _) (fv false _);refine .aV _ _ _ _ (by rw[bB,bB]) (λi h1 h2=>?_) λi h1 h2 j aA fB=>?_
  ·rw[bB] at h1;rw[ez,ez];exact(hall i h1).cells.1
  ·rw[bB] at h1;have:=(hall i h1).cells.2 j (by rwa[ez] at aA) (by rwa[ez] at fB);simpa only[ez] using this
 ·letI:Tok:=ie f g
  haveI:TokOk:=rU f g
  have cd:=nv (nv (G.HJ r ak) f.subs.length (three U)) g.subs.length (three U);have ix:z8 P b (Wv r f.subs.length g.subs.length):=λe he b2=>by
   unfold Wv at he;have hX:∀p∈oi r,(p.2.fS f g).low/\(p.1=mA\/p.1=ec):=λp an=>by
    rcases WA p an with rfl|rfl
    ·exact⟨hf,.inl I⟩
    ·exact⟨hg,.inr I⟩
   rcases eX.1 he with he|he
   ·obtain⟨p,an,rfl⟩:=cT.1 he;exact(er.ig (T:=ie f g) (ic:=ie f g) G.leaf (aO:=[.aj (p.2.ig f.subs.length g.subs.length true)]) (pb:=[(p.2.fS f g).aI.A true]) I (b7.one (fv true _)) (.b true)).2 ((G.gm _ (rU f g)).right _ (rJ p an)) b2
   rcases eX.1 he with he|he
   ·obtain⟨p,an,rfl⟩:=cT.1 he;exact G.MQ _ (rU f g) r ak p an b2
   rcases eX.1 he with he|he
   ·obtain⟨p,an,rfl⟩:=cT.1 he;obtain⟨h1,h2⟩:=hX p an;have hd:=h1.1;have lg:∀τ,bt τ (b.bh+1000) (vo p.1 (p.2.fS f g).aI)=some (vo p.1 (p.2.fS f g).aI):=λτ=>by
     refine oJ (k:=b.bh+999) (rA ?_ (rA (Ix (by rw[PF.kb];omega)) I));rcases h2 with e|e<;>rw[e]<;>rfl
    have ct:b7 (ie f g) (.aj (br p.1)) (.aj (br p.1)):=by rcases h2 with e|e<;>rw[e]<;>exact b7.OX _ _
    have de:=a5T (G.hb _ (rU f g)) G.fb p.1 (p.2.fS f g).aI lg _ (p.2.fS f g) (a8 _) U;have ht:=fv true p.2;refine(er.ig (T:=ie f g) (ic:=ie f g) G.leaf (aO:=[.aj (br p.1++(p.2.ig f.subs.length g.subs.length true++[.nilsl])),.aj (p.2.ig f.subs.length g.subs.length true),.nilsl]) (r:=.bg [.aj (p.2.ig f.subs.length g.subs.length false),.b true]) (pb:=[vo p.1 (p.2.fS f g).aI,(p.2.fS f g).aI.A true,.nilsl]) (bR:=.bg [(p.2.fS f g).aI.A false,.b true]) I (b7.three (ct.app (b7.app (by rwa[Wz] at ht) (.mk I (b7.one .nil)))) ht .nil) (.bg _ _ I (b7.two (fv false _) (.b _)))).2 de b2
   rcases eX.1 he with he|he
   ·obtain⟨p,an,rfl⟩:=cT.1 he;obtain⟨h1,h2⟩:=hX p an;have hd:=h1.1;have de:=a5R (G.hb _ (rU f g)) G.fb _ (p.2.fS f g) (p.2.fS f g) (a8 _) U U;rw[decide_eq_true I] at de;exact(er.ig (T:=ie f g) (ic:=ie f g) G.leaf (aO:=[.aj (p.2.ig f.subs.length g.subs.length true),.aj (p.2.ig f.subs.length g.subs.length true),.nilsl]) (pb:=[(p.2.fS f g).aI.A true,(p.2.fS f g).aI.A true,.nilsl]) I (b7.three (fv true _) (fv true _) .nil) (.b true)).2 de b2
   ·obtain⟨p,an,rfl⟩:=cT.1 he;exact(er.ig (T:=ie f g) (ic:=ie f g) G.leaf (aO:=[.aj (p.2.ig f.subs.length g.subs.length true)]) (r:=.aj (p.2.ig f.subs.length g.subs.length false)) (pb:=[(p.2.fS f g).aI.A true]) (bR:=(p.2.fS f g).aI.A false) I (b7.one (fv true _)) (fv false _)).2 (Ww G _ _ (a8 _) (ie f g)) b2
  exact λb2=>ix.entry (G.hb _ (rU f g)) cd b2
 ·letI:Tok:=ie .cC .cC
  haveI:TokOk:=rU .cC .cC
  refine DN (n:=n+499) λz a_=>?_;obtain⟨p,an,rfl⟩:=cT.1 a_;have hd:(p.2.fS f g).dep<=38:=by
   rcases WA p an with rfl|rfl
   ·exact hf.1
   ·exact hg.1
  refine tN (n:=n+498) λv aq=>?_;rcases c2.1 aq with rfl|aq
  ·exact eo I
  ·exact WB _ _ (a8 _) U v aq
 ·letI:Tok:=ie .cC .cC
  haveI:TokOk:=rU .cC .cC
  rw[show n+500=n+499+1 from rfl,nu];refine jI λz a_=>?_;obtain⟨p,an,rfl⟩:=cT.1 a_;have hd:(p.2.fS f g).dep<=38:=by
   rcases WA p an with rfl|rfl
   ·exact hf.1
   ·exact hg.1
  refine jI λv aq=>?_;rcases c2.1 aq with rfl|aq
  ·rfl
  ·have h:=OU _ (p.2.fS f g) (n:=n+500) (a8 _) U;rw[<-yI,nu] at h;exact nv h v aq
end
end
section
variable [Tok][TokOk]
open Go.RowKit Go.Lyc.T
section
variable {P:Program}{b:bJ}{db b8:AV}(G:GivM P b db b8)
structure p3(g:dC)(p:PF×List PF):Prop where
 eE:g.eE=p.1.aI
 hl:g.hyps.length=p.2.length
 hyps:∀i (h:i<g.hyps.length) (h':i<p.2.length),g.hyps[i]=none\/g.hyps[i]=some p.2[i].aI
 rest:∀F∈g.rest,∃a:PF,F=a.aI/\a.low
 low:p.1.low/\∀a∈p.2,a.low
 len:g.rest.length<=41
inductive pc:List dC->List (PF×List PF)->Prop
 |nil:pc [] []
 |cons {g gs p aE}:p3 g p->pc gs aE->pc (g::gs) (p::aE)
def p3.nil{c:Fm}{h:List (Option Fm)}{r:List Fm}{p:PF}(hx:p3 ⟨c,h,r⟩ (p,[])):h=[]:=w0.1 hx.hl
def p3.one{c:Fm}{h:List (Option Fm)}{r:List Fm}{p f:PF}(hx:p3 ⟨c,h,r⟩ (p,[f])):h=[none]\/h=[some f.aI]:=by
 match h,hx with
 |[y],hx=>
  have:=hx.hyps 0 (by show 0<1;omega) (by show 0<1;omega);rcases this with e|e
  ·exact .inl (by simpa using e)
  ·exact .inr (by simpa using e)
 |[],hx=>have:=hx.hl;simp at this
 |_::_::_,hx=>have:=hx.hl;simp at this
abbrev a6d(gs:List dC):Prop:=∀x∈gs,x.hyps.length<=1/\x.eE.dep<=38/\(∀h∈x.hyps,h=none\/∃a:PF,h=some a.aI/\a.low)/\(∃a:PF,x.eE=a.aI/\a.low)/\(∀h∈x.rest,∃a:PF,h=a.aI/\a.low)
structure I8(r:bw)(F:PF)(gs:List dC)(k:Nat)(f g:PF):Prop where
 Ka:k<11
 Dz:(o6 r F.aI gs).map n9=(rowM k).map λp=>n9 (p.1,(p.2.fS f g).aI)
 ne:(o6 r F.aI gs)≠[]
 low:f.low/\g.low/\∀p∈rowM k,(p.2.fS f g).low
 g9:r∈rulesP
 aE:∀p∈r.cg,p.closed=false
 c:HU r gs
 hy:a6d gs
def y_:PF.low .cC:=⟨b_,b_⟩
def pc.one{gs:List dC}{p:PF×List PF}(h:pc gs [p]):∃g,gs=[g]/\p3 g p:=by
 cases h with
 |cons h1 h2=>cases h2;exact⟨_,rfl,h1⟩
def pc.two{gs:List dC}{p q:PF×List PF}(h:pc gs [p,q]):∃g uS,gs=[g,uS]/\p3 g p/\p3 uS q:=by
 cases h with
 |cons h1 h2=>cases h2 with
  |cons h2 h3=>cases h3;exact⟨_,_,rfl,h1,h2⟩
def p3.hy{g:dC}{p:PF×List PF}(h:p3 g p)(hl:p.2.length<=1):g.hyps.length<=1/\g.eE.dep<=38/\(∀h∈g.hyps,h=none\/∃a:PF,h=some a.aI/\a.low)/\(∃a:PF,g.eE=a.aI/\a.low)/\(∀h∈g.rest,∃a:PF,h=a.aI/\a.low):=
 ⟨by rw[h.hl];exact hl,by rw[h.eE,PF.kb];exact h.low.1.1,λx hx=>by
  obtain⟨i,hi,rfl⟩:=iP hx;have h2:i<p.2.length:=by rw[<-h.hl];exact hi
  exact(h.hyps i hi h2).imp id λe=>⟨_,e,h.low.2 _ (bC h2)⟩,⟨p.1,h.eE,h.low.1⟩,h.rest⟩
def a6e{r:bw}{F:Fm}{gs:List dC}:o6 r F gs≠[]:=by simp[o6]
def I8.one{r:bw}{F:PF}{x:dC}{p:PF×List PF}{k:Nat}{f g:PF}{pm:fz}(hx:p3 x p)(an:p.2.length<=1)(ak:r.cg=[pm])(hX:pm.hyps.length=p.2.length)(eD:pm.closed=false)(sS:r∈rulesP)(aB:k<11)(HX:(o6 r F.aI [x]).map n9=(rowM k).map λp=>n9 (p.1,(p.2.fS f g).aI))(rJ:f.low/\g.low/\∀p∈rowM k,(p.2.fS f g).low):I8 r F [x] k f g:=by
 have hh:=hx.hy an;refine⟨aB,HX,a6e,rJ,sS,λq aS=>?_,⟨by rw[ak];rfl,zd (show _<=2 from by simp) b_,λi h h'=>?_,λz a_=>?_⟩,λz a_=>?_⟩
 ·rw[ak] at aS;rw[cA.1 aS];exact eD
 ·simp only[ak] at h' ⊢
  match i,h with
  |0,_=>show x.hyps.length=pm.hyps.length;rw[hX,hx.hl]
 ·rw[cA.1 a_];exact⟨U,by have:=hx.len;omega⟩
 ·rw[cA.1 a_];exact hh
def I8.two{r:bw}{F:PF}{x y:dC}{p q:PF×List PF}{k:Nat}{f g:PF}{pm I9:fz}(hx:p3 x p)(hy:p3 y q)(an:p.2=[])(aS:q.2=[])(ak:r.cg=[pm,I9])(hX:pm.hyps=[]/\I9.hyps=[])(eD:pm.closed=false/\I9.closed=false)(sS:r∈rulesP)(aB:k<11)(HX:(o6 r F.aI [x,y]).map n9=(rowM k).map λp=>n9 (p.1,(p.2.fS f g).aI))(rJ:f.low/\g.low/\∀p∈rowM k,(p.2.fS f g).low):I8 r F [x,y] k f g:=by
 have hh:=hx.hy (by rw[an];decide);have EZ:=hy.hy (by rw[aS];decide);have aM:x.hyps=[]:=w0.1 (by rw[hx.hl,an];rfl);have aU:y.hyps=[]:=w0.1 (by rw[hy.hl,aS];rfl);refine⟨aB,HX,a6e,rJ,sS,λq aS=>?_,⟨by rw[ak];rfl,zd (show _<=2 from by simp) b_,λi h h'=>?_,λz a_=>?_⟩,λz a_=>?_⟩
 ·rw[ak] at aS;have aS:q=pm\/q=I9:=by simpa using aS
  rcases aS with rfl|rfl
  ·exact eD.1
  ·exact eD.2
 ·simp only[ak] at h' ⊢
  match i,h with
  |0,_=>show x.hyps.length=pm.hyps.length;rw[hX.1,aM];rfl
  |1,_=>show y.hyps.length=I9.hyps.length;rw[hX.2,aU];rfl
 ·have a_:z=x\/z=y:=by simpa using a_
  rcases a_ with rfl|rfl
  ·exact⟨U,by have:=hx.len;omega⟩
  ·exact⟨U,by have:=hy.len;omega⟩
 ·have a_:z=x\/z=y:=by simpa using a_
  rcases a_ with rfl|rfl
  ·exact hh
  ·exact EZ
def od.row{r:bw}{F:PF}{aE:List (PF×List PF)}{gs:List dC}(h:od r F aE)(bL:F.low)(hg:pc gs aE):∃k f g,I8 r F gs k f g:=by
 cases h with
 |and f g=>
  obtain⟨x,y,rfl,hx,hy⟩:=hg.two;obtain⟨dU,h1,ik⟩:=x;obtain⟨fr,h2,kJ⟩:=y;obtain rfl:=hx.eE;obtain rfl:=hy.eE;obtain rfl:=hx.nil;obtain rfl:=hy.nil;refine⟨0,f,g,.two hx hy I I I ⟨rfl,rfl⟩ ⟨rfl,rfl⟩ (by simp[rulesP]) b_ I ⟨hx.low.1,hy.low.1,λp an=>?_⟩⟩;have an:p=(mA,.a)\/p=(ec,.b)\/p=(iA 0 mA ec,.bin 0):=by simpa [rowM] using an
  rcases an with rfl|rfl|rfl
  ·exact hx.low.1
  ·exact hy.low.1
  ·exact bL
 |jP q f g=>
  obtain⟨x,rfl,hx⟩:=hg.one;obtain⟨dU,h1,ik⟩:=x;obtain rfl:=hx.eE;obtain rfl:=hx.nil;have hb:(PF.bin 0 f g).low:=hx.low.1;have jd:max f.dep g.dep+1<=38:=hb.1;have nW:f.b1+g.b1+1<=380:=hb.2;have hf:f.low:=⟨U,U⟩
  have vq:g.low:=⟨U,U⟩
  cases q with
  |false=>
   refine⟨1,f,g,.one hx ay I I I (by simp[rulesP]) b_ I ⟨hf,vq,λp an=>?_⟩⟩;have an:p=(iA 0 mA ec,.bin 0)\/p=(mA,.a):=by simpa [rowM] using an
   rcases an with rfl|rfl
   ·exact hb
   ·exact hf
  |true=>
   refine⟨2,f,g,.one hx ay I I I (by simp[rulesP]) b_ I ⟨hf,vq,λp an=>?_⟩⟩;have an:p=(iA 0 mA ec,.bin 0)\/p=(ec,.b):=by simpa [rowM] using an
   rcases an with rfl|rfl
   ·exact hb
   ·exact vq
 |or f g=>
  obtain⟨x,rfl,hx⟩:=hg.one;obtain⟨dU,h1,ik⟩:=x;obtain rfl:=hx.eE;obtain rfl:=hx.nil;have jd:max f.dep g.dep+1<=38:=bL.1;have nW:f.b1+g.b1+1<=380:=bL.2;refine⟨3,f,g,.one hx ay I I I (by simp[rulesP]) b_ I ⟨hx.low.1,⟨U,U⟩,λp an=>?_⟩⟩;have an:p=(mA,.a)\/p=(iA 1 mA ec,.bin 1):=by simpa [rowM] using an
  rcases an with rfl|rfl
  ·exact hx.low.1
  ·exact bL
 |U6 f g=>
  obtain⟨x,rfl,hx⟩:=hg.one;obtain⟨dU,h1,ik⟩:=x;obtain rfl:=hx.eE;have hf:f.low:=hx.low.2 f ay;rcases hx.one with rfl|rfl
  ·refine⟨9,f,g,.one hx ay I I I (by simp[rulesP]) b_ I ⟨hf,hx.low.1,λp an=>?_⟩⟩;have an:p=(ec,.b)\/p=(iA 2 mA ec,.bin 2):=by simpa [rowM] using an
   rcases an with rfl|rfl
   ·exact hx.low.1
   ·exact bL
  ·refine⟨4,f,g,.one hx ay I I I (by simp[rulesP]) b_ I ⟨hf,hx.low.1,λp an=>?_⟩⟩;have an:p=(ec,.b)\/p=(mA,.a)\/p=(iA 2 mA ec,.bin 2):=by simpa [rowM] using an
   rcases an with rfl|rfl|rfl
   ·exact hx.low.1
   ·exact hf
   ·exact bL
 |w6 f g=>
  obtain⟨x,y,rfl,hx,hy⟩:=hg.two;obtain⟨dU,h1,ik⟩:=x;obtain⟨fr,h2,kJ⟩:=y;obtain rfl:=hx.eE;obtain rfl:=hy.eE;obtain rfl:=hx.nil;obtain rfl:=hy.nil;refine⟨5,f,F,.two hx hy I I I ⟨rfl,rfl⟩ ⟨rfl,rfl⟩ (by simp[rulesP]) b_ I ⟨hy.low.1,bL,λp an=>?_⟩⟩;have an:p=(iA 2 mA ec,.bin 2)\/p=(mA,.a)\/p=(ec,.b):=by simpa [rowM] using an
  rcases an with rfl|rfl|rfl
  ·exact hx.low.1
  ·exact hy.low.1
  ·exact bL
 |U7 f=>
  obtain⟨x,rfl,hx⟩:=hg.one;obtain⟨dU,h1,ik⟩:=x;obtain rfl:=hx.eE;have hf:f.low:=hx.low.2 f ay;rcases hx.one with rfl|rfl
  ·refine⟨10,f,.cC,.one hx ay I I I (by simp[rulesP]) b_ I ⟨hf,y_,λp an=>?_⟩⟩;have an:p=(m_,.cC)\/p=(qJ mA,.neg):=by simpa [rowM] using an
   rcases an with rfl|rfl
   ·exact y_
   ·exact bL
  ·refine⟨6,f,.cC,.one hx ay I I I (by simp[rulesP]) b_ I ⟨hf,y_,λp an=>?_⟩⟩;have an:p=(m_,.cC)\/p=(mA,.a)\/p=(qJ mA,.neg):=by simpa [rowM] using an
   rcases an with rfl|rfl|rfl
   ·exact y_
   ·exact hf
   ·exact bL
 |w7 f=>
  obtain⟨x,y,rfl,hx,hy⟩:=hg.two;obtain⟨dU,h1,ik⟩:=x;obtain⟨fr,h2,kJ⟩:=y;obtain rfl:=hx.eE;obtain rfl:=hy.eE;obtain rfl:=hx.nil;obtain rfl:=hy.nil;refine⟨7,f,.cC,.two hx hy I I I ⟨rfl,rfl⟩ ⟨rfl,rfl⟩ (by simp[rulesP]) b_ I ⟨hx.low.1,y_,λp an=>?_⟩⟩;have an:p=(mA,.a)\/p=(qJ mA,.neg)\/p=(m_,.cC):=by simpa [rowM] using an
  rcases an with rfl|rfl|rfl
  ·exact hx.low.1
  ·exact hy.low.1
  ·exact y_
 |w8=>
  obtain⟨x,rfl,hx⟩:=hg.one;obtain⟨dU,h1,ik⟩:=x;obtain rfl:=hx.eE;obtain rfl:=hx.nil;refine⟨8,F,.cC,.one hx ay I I I (by simp[rulesP]) b_ I ⟨bL,y_,λp an=>?_⟩⟩;have an:p=(m_,.cC)\/p=(mA,.a):=by simpa [rowM] using an
  rcases an with rfl|rfl
  ·exact y_
  ·exact bL
end
def c7o{J:ad}{n:Nat}{F:Fm}(h:2*F.dep+3<=n):bt J n (.aj (br F))=some (.aj (br F)):=by
 obtain⟨n,rfl⟩:∃m,n=m+1:=⟨n-1,U⟩
 exact oJ (Ix U)
def a6f{J:ad}{n:Nat}{g:dC}(h1:g.eE.dep<=200)(h2:∀x∈g.hyps,(x.getD j9).dep<=200)(h3:∀F∈g.rest,F.dep<=200)(hn:900<=n):bt J n g.A=some g.A:=by
 obtain⟨n,rfl⟩:∃m,n=m+3:=⟨n-3,U⟩
 have aQ:mapO (bt J (n+2)) (br g.eE)=some (br g.eE):=Ix U;have aZ:bt J (n+2) (slA true (some 5) (g.hyps.map pV))=some (slA true (some 5) (g.hyps.map pV)):=D2 λF bL=>by
  have:=h2 F bL;refine oJ (k:=n) ?_;rw[mapO_cons,Ix U];cases n with
  |zero=>omega
  |succ n=>rfl
 have bX:bt J (n+2) (slA true (some 4) (g.rest.map λF=>.aj (br F)))=some (slA true (some 4) (g.rest.map λF=>.aj (br F))):=D2 λF bL=>c7o (by have:=h3 F bL;omega);refine oJ (rA aQ ?_);rw[mapO_cons,mapO_cons,aZ,bX];rfl
def c7p{b:bJ}:∀r∈rulesP,(∀J,bt J (b.bh+1000) r.A=some r.A)/\(∀J,bt J (b.bh+1000) (slA true (some 7) (r.cg.map fz.A))=some (slA true (some 7) (r.cg.map fz.A)))/\(∀p∈r.cg,∀J,bt J (b.bh+1000) p.A=some p.A)/\r.eE.dep<=10/\(∀p∈r.cg,p.f.dep<=10/\∀h∈p.hyps,h.dep<=10):=by
 intro r ak;simp only[rulesP,c2,hj,or_false] at ak;rcases ak with rfl|rfl|rfl|rfl|rfl|rfl|rfl|rfl|rfl|rfl|rfl<;>refine⟨λJ=>rfl,λJ=>rfl,?_,b_,?_⟩<;>intro p an
 all_goals (
  simp only[NY,D0,NZ,a3K,a3L,N0,N1,N2,N3,N4,c2,hj,or_false] at an
  first
   |(rcases an with rfl|rfl|rfl<;>first|exact λJ=>rfl|exact⟨b_,b_⟩)
   |(rcases an with rfl|rfl<;>first|exact λJ=>rfl|exact⟨b_,b_⟩)
   |(rcases an with rfl<;>first|exact λJ=>rfl|exact⟨b_,b_⟩))
def oh.iU{b:bJ}{K:Nat->List AV->AV->Prop}(fb:oh b):Np b K:=⟨fb.c6U.h,fb.c6V.h,fb.c6W.h,fb.c6X.h,fb.c6Y.h,fb.c6Z.h⟩
def oh.ap{b:bJ}{K:Nat->List AV->AV->Prop}(fb:oh b):a2B b K:=⟨fb.c6O.h,fb.c6P.h,fb.c6Q.h,fb.c6R.h,fb.c6S.h,fb.c6T.h,fb.iU,fb.xp I,fb.xp I,fb.xp I⟩
def c7q{r:bw}{F:Fm}{gs:List dC}{n:Nat}(h0:1<=n)(aa:r.eE.dep<=n)(bL:F.dep<=n)(an:∀p∈r.cg,p.f.dep<=n/\∀h∈p.hyps,h.dep<=n)(hg:∀g∈gs,g.eE.dep<=n/\∀h∈g.hyps,(h.getD j9).dep<=n):∀p∈o6 r F gs,p.1.dep<=n/\p.2.dep<=n:=by
 have d0:j9.dep<=n:=by
  have:j9.dep=1:=by decide
  omega
 have a6g:∀i,(r.cg.getD i j7).f.dep<=n/\∀h∈(r.cg.getD i j7).hyps,h.dep<=n:=λi=>by
  rw[fD];cases h:r.cg[i]? with
  |none=>exact⟨d0,λh hh=>by simp[j7] at hh⟩
  |some p=>exact an p (eY h)
 have a6h:∀i,(gs.getD i o4).eE.dep<=n/\∀h∈(gs.getD i o4).hyps,(h.getD j9).dep<=n:=λi=>by
  rw[fD];cases h:gs[i]? with
  |none=>exact⟨d0,λh hh=>by simp[o4] at hh⟩
  |some p=>exact hg p (eY h)
 have hl:∀ {l:List Fm} {i:Nat},(∀h∈l,h.dep<=n)->(l.getD i j9).dep<=n:=λ{l i} h=>by
  rw[fD];cases hx:l[i]? with
  |none=>exact d0
  |some p=>exact h p (eY hx)
 have h2:∀j,∀p∈pr2U r gs j,p.1.dep<=n/\p.2.dep<=n:=λj=>by
  induction j with
  |zero=>intro p an;simp[pr2U] at an
  |succ j aC=>
   intro p an;rw[pr2U] at an;rcases eX.1 an with an|an
   ·exact aC p an
   ·obtain⟨t,_,ht⟩:=QE.1 an;cases hx:(gs.getD j o4).hyps.getD t none with
    |none=>rw[hx] at ht;cases ht
    |some f=>
     rw[hx] at ht;cases ht;refine⟨hl (a6g j).2,?_⟩;rw[fD] at hx;cases hy:(gs.getD j o4).hyps[t]? with
     |none=>rw[hy] at hx;cases hx
     |some y=>
      rw[hy] at hx;have:=(a6h j).2 y (eY hy);rw[show y=some f from hx] at this;exact this
 intro p an;unfold o6 at an;rcases eX.1 an with an|an
 ·rcases eX.1 an with an|an
  ·obtain⟨i,_,rfl⟩:=cT.1 an;exact⟨(a6g i).1,(a6h i).1⟩
  ·exact h2 _ p an
 ·rw[cA.1 an];exact⟨aa,bL⟩
section
variable {P:Program}{b:bJ}{db b8:AV}(G:GivM P b db b8)
include G in
theorem c7r{K:Nat->List AV->AV->Prop}(hb:lb P b)(gm:y9 P b db b8)(hfn:∀g aO r bR,K g aO r->K g aO bR->r=bR)(sm:uX P b K)(hle:∀g aO r,cU P b db b8 g aO r->K g aO r){r:bw}{F:PF}{gs:List dC}(bL:F.low)(sS:r∈rulesP)(lg:∀p∈r.cg,p.closed=false)(aa:HU r gs)(hy:a6d gs)
  {cB:AV} {at_ e:Nat} (cl:K rn [slA true (some 8) ((o6 r F.aI gs).map n9),.aj [.nilsl,.nilsl]] (.bg [.aj [cB,.nilsl],ag at_,ag e])) (gi:e≠0->at_<(A2 r gs).length) (hfz:∀J,freeze J 0 998 cB=some cB) (heq:∀n,AV.eqb (n+500) cB cB=true) (bE:∀n,fs (n+500) cB=true):
  ∃cB fE ei ej au,er P b oO [r.A,F.aI.A true,hB gs] (.bg [.aj [cB,fE],.aj [.i .u8 (Int.ofNat ei),ag ej,ag au],ag (if e=0 then 0 else 80)]):=by
 obtain⟨s1,s2,yT,h6,NX⟩:=c7p (b:=b) r sS;have za:∀x∈gs,x.eE.dep<=200/\(∀h∈x.hyps,(h.getD j9).dep<=200)/\∀h∈x.rest,h.dep<=200:=λx hx=>by
  obtain⟨aQ,aZ,bX,cS,ed⟩:=hy x hx;refine⟨U,λh hh=>?_,λh hh=>?_⟩
  ·rcases bX h hh with rfl|⟨c,rfl,aa⟩
   ·decide
   ·show c.aI.dep<=200;rw[PF.kb];have:=aa.1;omega
  ·obtain⟨c,rfl,aa⟩:=ed h hh;rw[PF.kb];have:=aa.1;omega
 have a4G:=bL.1;have A4:AV.eqb (b.bh+1000) (.aj [cB,.nilsl]) (.aj [cB,.nilsl])=true:=tN (n:=b.bh+999) λx hx=>by
  have hx:x=cB\/x= .nilsl:=by simpa using hx
  rcases hx with rfl|rfl
  ·exact heq (b.bh+499)
  ·exact eo I
 have c7s:∀ {x:dC},x∈gs->x.hyps.length<2^10:=λ{x} hx=>by have:=(hy x hx).1;omega
 have lG:gs.length<2^10:=by
  rw[aa.len];have:∀r∈rulesP,r.cg.length<2^10:=by decide
  exact this r sS
 have hw:=λbody jt=>c1n hfn (K:=K) G.fb.ap aa lG (λx hx=>c7s hx) (at_:=at_) (e:=e) ⟨s2,yT,λJ=>D2 (n:=b.bh+999) λx hx=>a6f (za x hx).1 (za x hx).2.1 (za x hx).2.2 U,λx hx J=>a6f (za x hx).1 (za x hx).2.1 (za x hx).2.2 U⟩ s1 (c7q b_ U (by rw[PF.kb];omega) (λp an=>⟨by have:=(NX p an).1;omega,λh hh=>by have:=(NX p an).2 h hh;omega⟩) λx hx=>⟨(za x hx).1,(za x hx).2.1⟩) gi cl A4 hfz lg (hle _ _ _ (cU.jQ (gm.hZ r sS) (vF b_) λr h=>h.vE b_)) (λh hh=>by
  have key:∀a:PF,a.low->a.aI.dep<=200/\K mZ [a.aI.A true] (.b true):=λa ha=>⟨by rw[PF.kb];have:=ha.1;omega,hle _ _ _ (cU.jQ (gm.right a ha) (vF b_) λr h=>h.vE b_)⟩
  rcases c2.1 hh with rfl|hh
  ·exact key F bL
  ·obtain⟨x,hx,hh⟩:=uo.1 hh;obtain⟨aQ,aZ,bX,⟨c,cS,wT⟩,ed⟩:=hy x hx;rcases c2.1 hh with rfl|hh
   ·rw[cS];exact key c wT
   ·rcases eX.1 hh with hh|hh
    ·obtain⟨y,w_,w4⟩:=QE.1 hh;rcases bX y w_ with rfl|⟨c,rfl,aa⟩
     ·cases w4
     ·have e:c.aI=h:=by simpa using w4
      rw[<-e];exact key c aa
    ·obtain⟨c,rfl,aa⟩:=ed h hh;exact key c aa) body jt
 by_cases he:e=0
 ·rw[if_pos he] at hw;refine⟨cB,.nilsl,0,0,0,λb2=>?_⟩;rw[j4,if_pos he];refine TP hb sm (ae:=1000) _ G.fb.OT.1 I I I ?_ ?_ (hw _ I) b2
  ·rw[nu];refine jI λy hy=>?_;have hy:y= .aj [cB,.nilsl]\/y=sK 0 0 0\/y=ag 0:=by simpa using hy
   rcases hy with rfl|rfl|rfl
   ·rw[show(999:Nat)=998+1 from rfl,nu];refine jI λz a_=>?_;have a_:z=cB\/z= .nilsl:=by simpa using a_
    rcases a_ with rfl|rfl
    ·exact bE 498
    ·rfl
   ·rfl
   ·rfl
  ·refine(pK λy hy=>?_:gu (AV.eqb 999) [.aj [cB,.nilsl],sK 0 0 0,ag 0] [.aj [cB,.nilsl],sK 0 0 0,ag 0]=true);have hy:y= .aj [cB,.nilsl]\/y=sK 0 0 0\/y=ag 0:=by simpa using hy
   rcases hy with rfl|rfl|rfl
   ·refine tN (n:=998) λx hx=>?_;have hx:x=cB\/x= .nilsl:=by simpa using hx
    rcases hx with rfl|rfl
    ·exact heq 498
    ·rfl
   ·rfl
   ·rfl
 ·rw[if_neg he] at hw;generalize(A2 r gs).getD at_ (0,0)=eh at hw;refine⟨.nilsl,.nilsl,2,eh.1,eh.2,λb2=>?_⟩;rw[j4,if_neg he];refine TP hb sm (ae:=1000) _ G.fb.OT.1 I I I I ?_ (hw _ I) b2;refine(pK λy hy=>?_:gu (AV.eqb 999) [.aj [.nilsl,.nilsl],AW eh,ag 80] [.aj [.nilsl,.nilsl],AW eh,ag 80]=true);have hy:y= .aj [.nilsl,.nilsl]\/y=AW eh\/y=ag 80:=by simpa using hy
  rcases hy with rfl|rfl|rfl
  ·rfl
  ·exact tN (n:=998) λx hx=>by
    have hx:x= .i .u8 2\/x=ag eh.1\/x=ag eh.2:=(c2.1 hx).imp id λh=>(c2.1 h).imp id cA.1;rcases hx with rfl|rfl|rfl<;>exact eo I
  ·rfl
include G in
theorem a6i(ic:Tok)(WC: @TokOk ic){r:bw}{F:PF}{aE:List (PF×List PF)}{gs:List dC}(ha:od r F aE)(bL:F.low)(hg:pc gs aE):∃cB fE ei ej au,@er ic P b oO [r.A,F.aI.A true,hB gs] (.bg [.aj [cB,fE],.aj [uB ei,ag ej,ag au],ag 0]):=by
 letI:Tok:=ic
 haveI:TokOk:=WC
 obtain⟨k,f,g,hR⟩:=ha.row bL hg;obtain⟨res,hm,N_⟩:=c7n G hR.Ka hR.low.1 hR.low.2.1 hR.low.2.2 ic;have aM:slA true (some 8) ((o6 r F.aI gs).map n9)= .aV true (some 8) ((rowM k).map λp=>n9 (p.1,(p.2.fS f g).aI)):=by
  rw[<-hR.Dz];have:=hR.ne;cases hx:o6 r F.aI gs with
  |nil=>exact absurd hx this
  |cons x l=>rfl
 rw[<-aM] at hm;obtain⟨bR,de,aL⟩:=cU.get (db:=db) (b8:=b8) hm (c6t N_);obtain⟨cB,aU,hfz,heq,bE⟩:=aL.HJ I;rw[aU] at de;exact c7r (K:=cU P b db b8) G (G.hb ic WC) (G.gm ic WC) cU.fn cU.ok (λ_ _ _ h=>h) bL hR.g9 hR.aE hR.c hR.hy de (λh=>absurd I h) hfz heq bE
end
section
def oh.hf(fb:oh b):n5 b K:=⟨fb.SN.h,fb.c6z.h,fb.c6A.h,fb.c6B.h,fb.c6C.h,fb.G6.h,fb.assumptions.h,fb.beside.h,fb.G7.h,fb.c6D.h⟩
def oh.ho(fb:oh b):HO b K:=⟨fb.c6E.h,fb.c6F.h,fb.c6G.h,fb.Wr.2⟩
def oh.an(fb:oh b):fl b K:=⟨fb.c6H.h,fb.c6I.h,fb.c6J.h,fb.a5H.h,fb.c6K.h⟩
def oh.jt(fb:oh b):TF b K:=⟨fb.c6L.h,fb.c6M.h,fb.c6N.h,fb.xp I,fb.OR.2,fb.OT.2⟩
end
def c7t(N:List (List Nat)){n:Nat}:fs (n+3) (o0 N)=true/\AV.eqb (n+3) (o0 N) (o0 N)=true:=by
 have h1:∀l:List Nat,fs (n+2) (slA false none (l.map ag))=true/\AV.eqb (n+2) (slA false none (l.map ag)) (slA false none (l.map ag))=true:=λl=>by
  cases l with
  |nil=>exact⟨rfl,rfl⟩
  |cons x l=>
   refine⟨?_,DN (n:=n+1) λy hy=>?_⟩
   ·show fs (n+2) (.aV false none ((x::l).map ag))=true;rw[show n+2=n+1+1 from rfl,nu];refine jI λy hy=>?_;obtain⟨k,_,rfl⟩:=cT.1 hy;rfl
   ·obtain⟨k,_,rfl⟩:=cT.1 (show y∈(x::l).map ag from hy);exact eo I
 unfold o0;cases N with
 |nil=>exact⟨rfl,rfl⟩
 |cons x N=>
  refine⟨?_,DN (n:=n+2) λy hy=>?_⟩
  ·show fs (n+3) (.aV false none ((x::N).map λl=>slA false none (l.map ag)))=true;rw[show n+3=n+2+1 from rfl,nu];show(true&&cN (λx=>cN (fs (n+2)) x.cells) ((x::N).map λl=>slA false none (l.map ag)))=true;rw[pI];refine jI λy hy=>?_;obtain⟨l,_,rfl⟩:=cT.1 hy;have:(slA false none (l.map ag)).cells=[slA false none (l.map ag)]:=by cases l<;>rfl
   rw[this];exact jI λz a_=>by rw[cA.1 a_];exact(h1 l).1
  ·obtain⟨l,_,rfl⟩:=cT.1 (show y∈(x::N).map λl=>slA false none (l.map ag) from hy);exact(h1 l).2
def kV.u(g:kV):dC:=⟨g.eE,g.hyps.map some,g.rest⟩
def c7u(gs:List kV):Nk gs=hB (gs.map kV.u):=by
 have e:∀g:kV,g.A=g.u.A:=λg=>by
  show AV.aj (br g.eE++[slA true (some 5) (g.hyps.map DE),_])=AV.aj (br g.eE++[slA true (some 5) ((g.hyps.map some).map pV),_]);rw[kq];rfl
 unfold Nk hB;rw[kq]
 congr 1
 exact pd λg _=>e g
def D1.u{g:kV}{p:PF×List PF}(h:D1 g p):p3 g.u p:=by
 obtain⟨c,hy,r⟩:=g;obtain⟨p1,kL⟩:=p;have e:hy=kL.map PF.aI:=h.hyps;subst e;exact⟨h.eE,(by show((kL.map PF.aI).map some).length=kL.length;simp),λi h1 h2=>.inr (by
  have h3:i<((kL.map PF.aI).map some).length:=h1;show((kL.map PF.aI).map some)[i]'h3=some (kL[i]'h2).aI;simp),h.rest,h.low,by have:=h.len;show r.length<=41;exact YQ this⟩
def Bm.u{gs:List kV}{aE:List (PF×List PF)}(h:Bm gs aE):pc (gs.map kV.u) aE:=by
 induction h with
 |nil=>exact .nil
 |cons h _ aC=>exact .cons h.u aC
structure Eo(b:bJ)(l:hz)(R:List bw):Prop where
 rs:l.rs=R.map bw.A
 pre:∃rest,R=rulesP++rest
 len:R.length<2^20
 aE:∀r∈R,r.cg.length<2^20/\∀J,bt J (b.bh+1000) r.A=some r.A
 jy:∀J,bt J (b.bh+1000) (l.A true)=some (l.A true)
section
variable {P:Program}{b:bJ}{l:hz}{R:List bw}{b8:AV}(G:GivM P b (l.A true) b8)(hl:Eo b l R)
abbrev sU(P:Program)(b:bJ)(l:hz)(b8:AV):Nat->List AV->AV->Prop:=cU P b (l.A true) b8
include G
theorem Rd.c7v{L:List aN}{ae:List (List Nat)}{au:List Nat}(h:Rd L ae au)(hL:L.length<=36):∀x∈L.map aN.a4,x.f.dep<=38:=λx hx=>by
 obtain⟨y,hy,rfl⟩:=cT.1 hx;show y.f.aI.dep<=38;rw[PF.kb];exact(h.low hL hy).1
theorem Rd.jy{L:List aN}{ae:List (List Nat)}{au:List Nat}(h:Rd L ae au)(hL:L.length<=36)(aY:L≠[]):∀J,bt J (b.bh+1000) (ck (L.map aN.a4))=some (ck (L.map aN.a4)):=λJ=>a3Q (by simpa using aY) λx hx=>by have:=Rd.c7v G h hL x hx;omega
theorem c7w(hb:lb P b){L:List aN}{ae:List (List Nat)}{au:List Nat}(h:Rd L ae au)(hL:L.length<=36){k:Nat}(h1:1<=k)(h2:k<=L.length):er P b yf [ck (L.map aN.a4),ag k] (.b (tH (L.map aN.a4) k)):=λb2=>
 n0 hb (cU.ok (db:=.nilsl) (b8:=.nilsl)) _ G.fb.OS.1 I I I I (ka _).1 (ka _).2 (a1K (L.map aN.a4) (by rw[bB];omega) (λx hx=>by
  have h3:=(h.kU U).num x hx;obtain⟨i,hi,rfl⟩:=iP hx;have aH:=(h.vu (k:=i+1) U (cp hi)).1;exact⟨U,U,aH⟩) k h1 (by rw[bB];exact h2) _ I) b2
theorem c7x(hb:lb P b){L:List aN}{ae:List (List Nat)}{au:List Nat}(h:Rd L ae au)(hL:L.length<=36)(aY:L≠[]):er P b tC [ck (L.map aN.a4)] (ag 0):=λb2=>
 n0 hb (cU.ok (db:=.nilsl) (b8:=.nilsl)) _ G.fb.Wr.1 I I I I (qv _ _).1 (qv _ _).2 (a1P cU.fn ((L.map aN.a4).map a7.A) (Rd.jy G h hL aY) (by rw[bB,bB];omega) (λk=>tH (L.map aN.a4) k) G.fb.OS.2 0 (jD _) (λk h1 h2 _=>by
  rw[bB,bB] at h2;exact cU.jQ (c7w G hb h hL h1 h2) (a5y _ _) λr ak=>ak.kU I _ _ I) (λk h1 h2 _=>by
  rw[bB,bB] at h2;exact(h.shape h1 (cp (show k-1<L.length by omega))).1) (λh=>absurd I h) _ I) b2
theorem Rd.Le(hb:lb P b){L:List aN}{ae:List (List Nat)}{au:List Nat}(h:Rd L ae au)(hL:L.length<=36)(aY:L≠[]):DD b (sU P b l b8) (L.map aN.a4) where
 kU:=h.kU U
 ne:=by rw[bB];exact ph.2 aY
 le:=by rw[bB];omega
 jy:=Rd.jy G h hL aY
 AN:=cU.jQ (c7x G hb h hL aY) a5x λr ak=>ak.AN I
 o1:=h.o1 U
 e0 k x hx h1:=h.vu h1 hx
theorem c7y(hb:lb P b){L:List aN}{ae:List (List Nat)}{au:List Nat}(h:Rd L ae au)(hL:L.length<=36)(aY:L≠[]):er P b Ar [ck (L.map aN.a4)] (.bg [o0 (ndsL (L.map aN.a4) (L.map aN.a4).length),ag 0]):=λb2=>by
 have hw:=b9S (K:=sU P b l b8) cU.fn G.fb.hf G.fb.ho (Rd.Le G hb h hL aY) _ I;have hf:=c7t (ndsL (L.map aN.a4) (L.map aN.a4).length) (n:=996);refine Hi hb cU.ok (ae:=1000) _ G.fb.a5M.1 I I I ?_ ?_ hw b2
 ·rw[show(1000:Nat)=999+1 from rfl,nu];refine jI λy hy=>?_;have hy:y=o0 (ndsL (L.map aN.a4) (L.map aN.a4).length)\/y=ag 0:=by simpa using hy
  rcases hy with rfl|rfl
  ·exact hf.1
  ·rfl
 ·refine(pK λy hy=>?_:gu (AV.eqb 999) [o0 (ndsL (L.map aN.a4) (L.map aN.a4).length),ag 0] [o0 (ndsL (L.map aN.a4) (L.map aN.a4).length),ag 0]=true);have hy:y=o0 (ndsL (L.map aN.a4) (L.map aN.a4).length)\/y=ag 0:=by simpa using hy
  rcases hy with rfl|rfl
  ·exact hf.2
  ·rfl
theorem c7z{r:bw}{F:PF}{aE:List (PF×List PF)}{gs:List dC}(ha:od r F aE)(bL:F.low)(hg:pc gs aE):∃cB fE ei ej au,sU P b l b8 oO [r.A,F.aI.A true,hB gs] (.bg [.aj [cB,fE],.aj [uB ei,ag ej,ag au],ag 0]):=by
 obtain⟨cB,fE,ei,ej,au,lY⟩:=a6i G _ inferInstance ha bL hg;obtain⟨bR,de,aL⟩:=cU.get (db:=l.A true) (b8:=b8) lY (a5z ⟨_,_,_,_,_,rfl⟩);obtain⟨cB,fE,ei,ej,au,rfl⟩:=aL.app I;exact⟨cB,fE,ei,ej,au,de⟩
include hl
theorem WD(hb:lb P b)(gm:y9 P b (l.A true) b8):U8 (sU P b l b8) R (l.A true) where
 pre:=hl.pre
 ap r F aE gs ha bL hg:=by
  obtain⟨cB,fE,ei,ej,au,lY⟩:=a6i G _ inferInstance ha bL hg.u;rw[<-c7u] at lY;obtain⟨bR,de,aL⟩:=cU.get (db:=l.A true) (b8:=b8) lY (a5z ⟨_,_,_,_,_,rfl⟩);obtain⟨cB,fE,ei,ej,au,rfl⟩:=aL.app I;exact⟨cB,fE,ei,ej,au,de⟩
 b6 f hf:=by
  have:=cU.jQ (db:=l.A true) (b8:=b8) (c7i hb G.fb gm.right f f hf hf) (c6n f f) λr h=>h.wW I f f I;rwa[decide_eq_true I] at this
 iz f hf:=cU.jQ (gm.iz f hf) (vF b_) λr h=>h.vE b_
end
def pc.of:∀ {gs:List dC} {aE:List (PF×List PF)},gs.length=aE.length->(∀i (h:i<gs.length) (h':i<aE.length),p3 gs[i] aE[i])->pc gs aE
 |[],[],_,_=>.nil
 |[],_::_,h,_=>by simp at h
 |_::_,[],h,_=>by simp at h
 |g::gs,p::aE,h,an=>.cons (an 0 ay ay) (pc.of (by simpa using h) λi h1 h2=>an (i+1) (by simpa using h1) (by simpa using h2))
section
variable {L:List aN}{ae:List (List Nat)}{au:List Nat}(h:Rd L ae au)(hL:L.length<=36){R rest:List bw}(hR:R=rulesP++rest)
include h hL hR
theorem Rd.a6j{k i:Nat}{c:Nat×Nat}(h1:1<=c.2)(h2:c.2<=L.length):(∀F∈(nI (L.map aN.a4) R k i c).rest,∃a:PF,F=a.aI/\a.low)/\(nI (L.map aN.a4) R k i c).rest.length<=41:=by
 have G:=h.gtr hL hR;have rL:(L.map aN.a4).length=L.length:=bB _;constructor
 ·intro F bL;obtain⟨n,hn,rfl⟩:=cT.1 bL;have hn:=(mj.1 hn).1;rw[vB G h1 U] at hn;obtain⟨y,hy,_⟩:=h.a5E hL hR h1 h2 hn;exact⟨_,Bx hy,h.low hL (eY hy)⟩
 ·show(List.map _ _).length<=41;rw[bB];have h3:=sz (λn=>!decide (n∈gZ (L.map aN.a4) R k i)) (fg (L.map aN.a4) R c.2);have aH:(fg (L.map aN.a4) R c.2).length<=(L.map aN.a4).length+1:=by
   unfold fg;have:=sz (λn=>decide (n∈labS (L.map aN.a4) R c.2)) (List.range ((L.map aN.a4).length+1));rwa[nc] at this
  omega
theorem Rd.ap{K:Nat->List AV->AV->Prop}(de:∀ {r:bw} {F:PF} {aE:List (PF×List PF)} {gs:List dC},od r F aE->F.low->pc gs aE->∃cB fE ei ej au,K oO [r.A,F.aI.A true,hB gs] (.bg [.aj [cB,fE],.aj [uB ei,ag ej,ag au],ag 0])){k:Nat}{x:a7}(h1:1<=k)(hx:(L.map aN.a4)[k-1]? =some x)(hh:x.hyp=false)(ak:x.bH≠ep):
  ∃cB fE ei ej au,K oO [(ib R x.bH).A,.aj (fm true x.f),hB (y6 (L.map aN.a4) R k x.cs)] (.bg [.aj [cB,fE],.aj [uB ei,ag ej,ag au],ag 0]):=by
 obtain⟨y,hy,rfl⟩:=IZ hx;have hh:y.hyp=false:=hh;have ak:y.bH≠ep:=ak;have e9:=h.vu h1 hx;have rJ:=h.low hL (eY hy);have aB:=(fH.1 hy).1;show ∃cB fE ei ej au,K oO [(ib R y.bH).A,.aj (fm true y.f.aI),hB (y6 (L.map aN.a4) R k y.cs)] _;rw[<-sO];cases h.kind h1 hy with
 |hyp h0=>rw[h0] at hh;cases hh
 |again c _ h0=>exact absurd h0 ak
 |step r l a6 h0 gQ hm hn aa aY an ha hl hf aq=>
  rw[gQ,hR,IY hm,← hR];refine de ha rJ (pc.of (by simp[aa,hl]) λi aQ aZ=>?_);have hi:i<l.length:=by simpa [aa] using aQ
  have ot:i<a6.length:=by omega
  have re:i<y.cs.length:=by rw[aa,bB];exact hi
  have aM:(y6 (L.map aN.a4) R k y.cs)[i]'aQ=nI (L.map aN.a4) R k i (l[i],l[i]):=by
   simp only[y6,ez,pg];rw[jA re];simp only[aa,ez]
  have aU:(a6.map λf=>((f,[]):PF×List PF))[i]'aZ=(a6[i],[]):=by simp
  rw[aM,aU];obtain⟨z,a_,tb⟩:=hf i hi ot;have ve:=e9.2 (l[i],l[i]) (by show _∈y.cs;rw[aa];exact cT.2 ⟨_,bC hi,rfl⟩);simp only[] at ve;obtain⟨ik,kJ⟩:=h.a6j hL hR (k:=k) (i:=i) (c:=(l[i],l[i])) ve.1 (by show l[i]<=_;omega);have eH:=h.a5B hL hR hy hm gQ an.2 i;refine⟨by show lnfT _ l[i]=_;rw[Bx a_,tb],?_,λt t1 t2=>by simp at t2,ik,⟨by rw[<-tb];exact h.low hL (eY a_),ay⟩,kJ⟩;show(List.map _ (gZ _ R k i)).length=0;rw[eH];rfl
 |box r first last f g h0 gQ hm hn aa an ha w_ w4 hb al=>
  obtain⟨p,an,I1⟩:=an;obtain⟨w,hw,b4,ir,wu⟩:=w_;obtain⟨z,a_,tb⟩:=w4;have ve:=e9.2 (first,last) (by show _∈y.cs;rw[aa];simp);simp only[] at ve;have eH:=h.Wl hL hR hy hm gQ an I1 aa ⟨w,hw,b4,ir⟩;obtain⟨ik,kJ⟩:=h.a6j hL hR (k:=k) (i:=0) (c:=(first,last)) (by show 1<=last;omega) (by show last<=_;omega);rw[gQ,hR,IY hm,← hR,aa];refine de ha rJ (.cons ⟨by show lnfT _ last=_;rw[Bx a_,tb],?_,λt t1 t2=>?_,ik,⟨by rw[<-tb];exact h.low hL (eY a_),λa ha=>?_⟩,kJ⟩ .nil)
  ·show(List.map _ (gZ _ R k 0)).length=1;rw[eH];rfl
  ·have e:(nI (L.map aN.a4) R k 0 ([(first,last)].getD 0 (0,0))).hyps=[if first∈labS (L.map aN.a4) R last then some (lnfT (L.map aN.a4) first) else none]:=by
    show List.map _ (gZ _ R k 0)=_;rw[eH];rfl
   have t0:t=0:=by simpa using t2
   subst t0;simp only[e];show(if _ then _ else _)=none\/(if _ then _ else _)=some f.aI;split
   ·refine .inr ?_;rw[Bx hw,wu]
   ·exact .inl I
  ·rw[cA.1 ha,← wu];exact h.low hL (eY hw)
end
def OY{a c:Nat}(h:ag a=ag c):a=c:=sY (En h)
def c7A{l m:List Nat}(h:slA true none (l.map ag)=slA true none (m.map ag)):l=m:=map_inj (λ_ _=>OY) (FU h)
def c7B{F Bd:Fm}(h:fm true F=fm true Bd):F=Bd:=Fm.mU (o:=true) (by rw[sO,sO,h])
section
variable {T h7:List a7}{R:List bw}(G:hN T R)(vI:hN h7 R)
include G vI in
theorem WE:∀s k fh,k+fh<=s->1<=k->k<=T.length->1<=fh->fh<=h7.length->tA T R true k=tA h7 R true fh->∀c∈labS T R k,c∈labS h7 R fh/\lnfT T c=lnfT h7 c:=λs=>by
 induction s with
 |zero=>intro k fh h h1;omega
 |succ s aC=>
  intro k fh al h1 h2 vY sk he c aa;obtain⟨j,aA,hnd,aM,aU,_,_⟩:=Ot (R:=R) G k h1 h2;obtain⟨qP,fB,I_,vJ,sV,_,_⟩:=Ot (R:=R) vI fh vY sk;rw[aU] at aa;rw[sV];rw[aM,vJ] at he;obtain⟨x,hx,m,t1,hl,ma,lC,mw⟩:=rP (R:=R) G (k:=j) true hnd;obtain⟨dL,cX,aP,c7C,uw,a6k,d2h,c7D⟩:=rP (R:=R) vI (k:=qP) true I_;rw[t1,c7C] at he;injection he with he
  injection he with ik he
  injection he with f1 he
  injection he with f2 he
  injection he with f3 he
  injection he with f4 he
  injection he with jY he
  injection he with s1 he
  injection he with bl _
  have tY:x.bH=dL.bH:=We ik;have bL:x.f=dL.f:=c7B (by rw[show fm true x.f=[_,_,_,_] from rfl,f1,f2,f3,f4]);have ud:x.hyp=dL.hyp:=by
   cases a:x.hyp<;>cases b:dL.hyp
   ·rfl
   ·have:=ma.2 (tY.trans (a6k.1 b));rw[a] at this;cases this
   ·have:=a6k.2 (tY.symm.trans (ma.1 a));rw[b] at this;cases this
   ·rfl
  have sR:=OY jY;cases a:x.hyp with
  |true=>
   rw[a] at ud;rw[a,← ud,if_pos I,if_pos I] at sR;rw[Ef hx a,cA] at aa;rw[Ef cX ud.symm,aa,sR];refine⟨ay,?_⟩;subst sR;unfold lnfT;rw[hx,cX];exact bL
  |false=>
   rw[a] at ud;have fj:(x.cs.map λc=>tA T R true c.2)=dL.cs.map λc=>tA h7 R true c.2:=FU s1;have eD:x.cs.length=dL.cs.length:=by have:=congrArg List.length fj;simpa using this
   rw[mw a,c7D ud.symm] at bl;have eH:∀i,i<x.cs.length->gZ T R j i=gZ h7 R qP i:=λi hi=>by
    have:=FU bl;have h3:=congrArg (λl=>l[i]?) this;simp only[iR] at h3;rw[E1 hi,E1 U] at h3;exact c7A (kr h3)
   obtain⟨i,hi,re,je⟩:=(y3 G hnd.1 hx a (hnd.2.2 x hx a) c).1 aa;have dh:i<dL.cs.length:=by omega
   rw[jA hi] at re;obtain⟨dU,fr⟩:=Eg G hnd hx (bC hi);obtain⟨Rs,Rt⟩:=Eg vI I_ cX (bC dh);have heq:tA T R true (x.cs[i]).2=tA h7 R true (dL.cs[i]).2:=by
    have h3:=congrArg (λl=>l[i]?) fj;simp only[iR,cp hi,cp dh] at h3;exact kr h3
   obtain⟨d1,d2⟩:=aC (x.cs[i]).2 (dL.cs[i]).2 U dU (by have:=hnd.2.1;omega) Rs (by have:=I_.2.1;omega) heq c re;exact⟨(y3 vI I_.1 cX ud.symm (I_.2.2 dL cX ud.symm) c).2 ⟨i,dh,by rw[jA dh];exact d1,by rw[<-eH i hi];exact je⟩,d2⟩
include G vI in
theorem c7E{k fh:Nat}(h1:1<=k)(h2:k<=T.length)(vY:1<=fh)(sk:fh<=h7.length)(he:tA T R true k=tA h7 R true fh):xm T R k=xm h7 R fh:=by
 have e:fg T R k=fg h7 R fh:=Ov Ow Ow λc=>by
  rw[vB G h1 h2,vB vI vY sk];exact⟨λh=>(WE G vI _ k fh (a8 _) h1 h2 vY sk he c h).1,λh=>(WE vI G _ fh k (a8 _) vY sk h1 h2 he.symm c h).1⟩
 have aU:(fg T R k).map (qM T)=(fg h7 R fh).map (qM h7):=by
  rw[<-e];refine pd λc aa=>?_;rw[vB G h1 h2] at aa;show AV.aj (ag c::fm false (lnfT T c))=AV.aj (ag c::fm false (lnfT h7 c));rw[(WE G vI _ k fh (a8 _) h1 h2 vY sk he c aa).2]
 unfold xm;rw[aU]
end
def bb.ext{env:Env}{floor k g:Nat}{args:List AV}{v:AV}{J:ad}{Q:ee->ad->Prop}(he:env.ext g=k+1)(hx:extRow (k+1) args=some v)(h:Q (.ok v) J):bb env floor (.f (.func g) [] []) args J Q:=by
 refine dz.one (x:=(.ok v,J)) (λF=>?_) h;show callF env (exec env F) floor g ([]++args++[]) J=_;unfold callF;rw[he,xI,hI];show(match extRow (k+1) args with|some v=>some [(ee.ok v,J)]|none=>none)=_;rw[hx]
section
def c7F(hh:a3 (b.aF K) Gy Gs)(ex:b.ext Mn=2)(x y:List Nat)(J:ad):bb (b.aF K) 0 (.f (.func Gy) [] []) [.s x,.s y] J (λr ai=>r= .ok (.i .i64 (wU x y))/\ai=J):=by
 refine bb.code hh.e hh.p hh.f (by cbv) I I I ?_;refine ah.seq (ah.region ?_);refine az.go I I I I ?_;refine az.nil (ah.seq (ah.region ?_));refine az.go I I I I ?_;refine az.go I I I I ?_;refine az.iy (R:=λr ai=>r= .ok (.i .i64 (wU x y))/\ai=J) I I I (bb.ext (k:=1) ex I ⟨rfl,rfl⟩) λr cr ⟨aM,aU⟩=>⟨_,aM,?_⟩
 refine az.go I I I I ?_;exact az.nil (ah.ret ⟨rfl,rfl,aU⟩)
def c7G(hh:a3 (b.aF K) Ml Md)(h2:a3 (b.aF K) Gy Gs)(ex:b.ext Mn=2)(x y:List Nat)(J:ad):bb (b.aF K) 0 (.f (.func Ml) [] []) [.s x,.s y] J (λr ai=>r= .ok (.i .i64 (wU x y))/\ai=J):=by
 refine bb.code hh.e hh.p hh.f (by cbv) I I I ?_;refine ah.seq (ah.region ?_);refine az.go I I I I ?_;refine az.nil (ah.seq (ah.region ?_));refine az.go I I I I ?_;refine az.go I I I I ?_;refine az.iy I I I (c7F h2 ex x y J) λr cr ⟨aM,aU⟩=>⟨_,aM,?_⟩
 refine az.go I I I I ?_;exact az.nil (ah.ret ⟨rfl,rfl,aU⟩)
def WG(hh:a3 (b.aF K) Ap Aj)(x:Nat)(J:ad):bb (b.aF K) 0 (.f (.func Ap) [] []) [ag x] J (λr ai=>r= .ok (.b false)/\ai=J):=by
 refine bb.code hh.e hh.p hh.f (by cbv) I I I ?_;refine ah.seq (ah.region ?_);refine az.go I I I I ?_;refine az.nil (ah.seq (ah.region ?_));refine az.go I I I I ?_;refine az.go I I I I ?_;refine az.bin (a:=ag x) (b:=ag x) (v:=.b false) I I I I (n1 (by show some (AV.b (!decide (x=x)))=_;rw[decide_eq_true I];rfl)) ?_;refine az.go I I I I ?_;exact az.nil (ah.ret ⟨rfl,rfl,rfl⟩)
def c7H(hh:a3 (b.aF K) Mm Mh)(h2:a3 (b.aF K) Ap Aj)(x y:Nat)(J:ad):bb (b.aF K) 0 (.f (.func Mm) [] []) [ag x,ag y] J (λr ai=>r= .ok (.i .i64 (HD x y))/\ai=J):=by
 refine bb.code hh.e hh.p hh.f (by cbv) I I I ?_;refine ah.seq (ah.region ?_);refine az.go I I I I ?_;refine az.nil (ah.seq (ah.region ?_));refine az.go I I I I ?_;refine az.iy I I I (WG h2 x J) λr cr ⟨aM,aU⟩=>⟨_,aM,?_⟩
 subst aU;refine az.go I I I I ?_;refine az.nil (ah.seq (ah.region ?_));refine az.go I I I I ?_;refine az.iy I I I (WG h2 y cr) λr hS ⟨aM,aU⟩=>⟨_,aM,?_⟩
 subst aU;refine az.go I I I I ?_;refine az.nil (ah.seq (ah.seq (ah.region ?_)));refine az.go I I I I ?_;refine az.nil (ah.hJ I (λh=>by cases h) λ_=>ah.skip ?_);refine ah.seq (ah.seq (ah.region ?_));refine az.go I I I I ?_;refine az.nil (ah.hJ I (λh=>by cases h) λ_=>ah.skip ?_);refine ah.seq (ah.seq (ah.region ?_));refine az.go I I I I ?_;refine az.go I I I I ?_;refine az.bin (a:=ag x) (b:=ag y) (v:=.b (decide (x<y))) I I I I (n1 I) ?_;refine az.nil (ah.hJ I (λh=>?_) λh=>ah.skip ?_)
 ·refine ah.seq (ah.region ?_);refine az.go I I I I ?_;refine az.nil (ah.ret ⟨rfl,?_,rfl⟩);unfold HD;rw[if_pos (of_decide_eq_true h)];rfl
 have h1:=of_decide_eq_false h;refine ah.seq (ah.seq (ah.region ?_));refine az.go I I I I ?_;refine az.go I I I I ?_;refine az.bin (a:=ag x) (b:=ag y) (v:=.b (decide (y<x))) I I I I (n1 I) ?_;refine az.nil (ah.hJ I (λh=>?_) λh=>ah.skip ?_)
 ·refine ah.seq (ah.region ?_);refine az.go I I I I ?_;refine az.nil (ah.ret ⟨rfl,?_,rfl⟩);unfold HD;rw[if_neg h1,if_pos (of_decide_eq_true h)];rfl
 have h2:=of_decide_eq_false h;refine ah.seq (ah.region ?_);refine az.go I I I I ?_;refine az.nil (ah.ret ⟨rfl,?_,rfl⟩);unfold HD;rw[if_neg h1,if_neg h2];rfl
def c7I(h1:a3 (b.aF K) Ml Md)(h2:a3 (b.aF K) Gy Gs)(ex:b.ext Mn=2)(h3:a3 (b.aF K) Mm Mh)(aH:a3 (b.aF K) Ap Aj)(x y:fQ)(body:b5)(hb:Sp.body=some body):
  ah (b.aF K) 19 body (gy [dB x,dB y]) ⟨.nil,0⟩ (oU 4 (.i .i64 (rz x y))):=by
 cbv at hb
 cases hb;refine ah.seq (ah.region (az.box (v:=dB x) (c:=[.s x.1,ag x.2]) 0 I I I I I I λbP cy bx mx=>?_));refine az.box (v:=dB y) (c:=[.s y.1,ag y.2]) 1 cy I I I I I λJ c6 bz l8=>?_;replace bx:=l8 _ _ bx;refine az.go I I I I ?_;refine az.nil (ah.seq (ah.seq (ah.region ?_)));refine az.go I I I I ?_;refine az.cK (v:=.s x.1) bx I I I I ?_;refine az.go I I I I ?_;refine az.cK (v:=.s y.1) bz I I I I ?_;refine az.iy I I I (c7G h1 h2 ex x.1 y.1 J) λr cr ⟨aM,aU⟩=>⟨_,aM,?_⟩
 subst aU;refine az.go I I I I ?_;refine az.nil (ah.seq (ah.region ?_));refine az.go I I I I ?_;refine az.bin (a:=.i .i64 (wU x.1 y.1)) (b:=.i .i64 0) (v:=.b (!decide (wU x.1 y.1=0))) I I I I I ?_;refine az.nil (ah.hJ I (λh=>?_) λh=>ah.skip ?_)
 ·have aY:¬wU x.1 y.1=0:=λe=>by rw[decide_eq_true e] at h;cases h
  refine ah.seq (ah.region ?_);refine az.go I I I I ?_;refine az.go I I I I ?_;refine az.nil (ah.ret ⟨rfl,?_⟩);unfold rz;rw[if_neg aY];rfl
 ·have he:wU x.1 y.1=0:=QF λe=>by rw[decide_eq_false e] at h;cases h
  refine ah.seq (ah.region ?_);refine az.go I I I I ?_;refine az.cK (v:=ag x.2) bx I I I I ?_;refine az.go I I I I ?_;refine az.cK (v:=ag y.2) bz I I I I ?_;refine az.iy I I I (c7H h3 aH x.2 y.2 cr) λr hS ⟨aM,aU⟩=>⟨_,aM,?_⟩
  refine az.go I I I I ?_;refine az.nil (ah.ret ⟨rfl,?_⟩);unfold rz;rw[if_pos he];rfl
end
def p4(X K:Nat->List AV->AV->Prop)(g:Nat)(aO:List AV)(r:AV):Prop:=X g aO r\/(¬ ∃r,X g aO r)/\K g aO r
def p4.fn{X K:Nat->List AV->AV->Prop}(cw:∀g aO r bR,X g aO r->X g aO bR->r=bR)(de:∀g aO r bR,K g aO r->K g aO bR->r=bR):∀g aO r bR,p4 X K g aO r->p4 X K g aO bR->r=bR:=λg aO r bR h h'=>by
 rcases h with h|⟨n,h⟩
 ·rcases h' with h'|⟨pL,_⟩
  ·exact cw _ _ _ _ h h'
  ·exact absurd ⟨r,h⟩ pL
 ·rcases h' with h'|⟨_,h'⟩
  ·exact absurd ⟨bR,h'⟩ n
  ·exact de _ _ _ _ h h'
def p4.ok{P:Program}{b:bJ}{X K:Nat->List AV->AV->Prop}(cw:∀g aO r,X g aO r->er P b g aO r)(de:uX P b K):uX P b (p4 X K):=λg aO r h b2=>by
 rcases h with h|⟨_,h⟩
 ·exact cw _ _ _ h b2
 ·exact de _ _ _ h b2
def p4.up{X K:Nat->List AV->AV->Prop}{g:Nat}{aO:List AV}{r:AV}(h:K g aO r)(hn:∀aO r,¬X g aO r):p4 X K g aO r:=.inr ⟨λ⟨r,h⟩=>hn aO r h,h⟩
section
def c7J(hn:a3 (b.aF K) Ap Aj)(x y:Nat)(body:b5)(hb:L9.body=some body):ah (b.aF K) L9.ntmps body (gy [ag x,ag y]) ⟨.nil,0⟩ (oU 4 (.b (decide (x<y)))):=by
 cbv at hb
 cases hb;refine W.m1 λz H=>?_;refine af ?_;refine W.bS I I I (WG hn x _) λr τ ⟨e,aU⟩=>⟨_,e,?_⟩
 subst aU;refine af ?_;refine W.bin I I I I (n1 (v:=.b (decide (x<y))) I) ?_;refine af ?_;exact ah.ret ⟨rfl,rfl⟩
end
def jR(n:Nat)(v:AV):Prop:=fs n v=true/\AV.eqb n v v=true
def jR.ag{n:Nat}(k:Nat):jR (n+1) (ag k):=⟨rfl,eo I⟩
def jR.s{n:Nat}(k:List Nat):jR (n+1) (.s k):=⟨rfl,eo I⟩
def jR.nil{n:Nat}:jR (n+1) .nilsl:=⟨rfl,rfl⟩
def jR.aj{n:Nat}{l:List AV}(h:∀x∈l,jR n x):jR (n+1) (.aj l):=⟨by rw[nu];exact jI λx hx=>(h x hx).1,tN λx hx=>(h x hx).2⟩
def jR.bg{n:Nat}{l:List AV}(h:∀x∈l,jR n x):jR (n+1) (.bg l):=⟨by rw[nu];exact jI λx hx=>(h x hx).1,pK λx hx=>(h x hx).2⟩
def jR.c7K{n:Nat}{l:List AV}(h:jR (n+1) (.aj l)):∀x∈l,fs n x=true:=λx hx=>by
 have:=h.1;rw[nu] at this;exact nv this x hx
def jR.ao{n:Nat}{ab:Option Nat}{l:List AV}(h:∀x∈l,(∀y∈x.cells,fs n y=true)/\AV.eqb n x x=true):jR (n+1) (slA false ab l):=by
 cases l with
 |nil=>exact .nil
 |cons x l=>
  refine⟨?_,DN λy hy=>(h y hy).2⟩;show fs (n+1) (.aV false ab (x::l))=true;rw[nu];show(true&&cN (λx=>cN (fs n) x.cells) (x::l))=true;rw[pI];exact jI λy hy=>jI λz a_=>(h y hy).1 z a_
def jR.Q9{n:Nat}{ab:Option Nat}{l:List AV}(h:∀x∈l,x.cells=[x]/\jR n x):jR (n+1) (slA false ab l):=.ao λx hx=>⟨λy hy=>by rw[(h x hx).1,cA] at hy;rw[hy];exact(h x hx).2.1,(h x hx).2.2⟩
def jR.fS{n:Nat}{a:PF}(h:a.dep<=40)(hn:90<=n):∀x∈fm false a.aI,jR n x:=λx hx=>by
 have h1:fs (n+1) (.aj (h_ a.aI))=true:=OU _ a (a8 _) U;have h2:=WB _ a (n:=n) (a8 _) U x (by rw[Fm.kj];exact hx);rw[nu] at h1;exact⟨nv (l:=h_ a.aI) h1 x hx,h2⟩
section
variable {T:List a7}{R:List bw}(G:hN T R)(bL:∀x∈T,∃a:PF,x.f=a.aI/\a.dep<=40)
include G bL
theorem c7L:∀k,1<=k->k<=T.length->∀n,2*k+100<=n->jR n (tA T R false k):=λk=>by
 induction k using Nat.strongRecOn with
 |ind k aC=>
  intro h1 h2 n hn;have hx:T[k-1]? =some T[k-1]:=cp U;obtain⟨a,ha,WH⟩:=bL _ (eY hx);obtain⟨n,rfl⟩:∃m,n=m+3:=⟨n-3,U⟩
  have cells:∀aW dT s m,jR (n+2) s->jR (n+2) m->jR (n+3) (.aj (ff false aW (T[k-1]).f dT s m)):=λaW dT s m al hm=>.aj λy hy=>by
   rcases c2.1 hy with rfl|hy
   ·exact .s _
   rcases eX.1 hy with hy|hy
   ·rw[ha] at hy;exact .fS WH U y hy
   simp only[c2,hj,or_false] at hy;rcases hy with rfl|rfl|rfl
   ·exact .ag _
   ·exact al
   ·exact hm
  cases h:(T[k-1]).hyp with
  |true=>
   rw[yW false hx h];exact cells _ _ _ _ .nil .nil
  |false=>
   by_cases ak:(T[k-1]).bH=ep
   ·obtain⟨c,l,_,e,aQ,aZ,bX⟩:=G.last h1 hx h;rw[xe G false h1 hx h ak,e];exact aC _ bX U U _ U
   ·have aa:=(G.cs k _ h1 hx h).2.2;rw[yX G false h1 hx h ak];refine cells _ _ _ _ (.ao (n:=n+1) λy hy=>?_) (.Q9 (n:=n+1) λy hy=>?_)
    ·obtain⟨c,je,rfl⟩:=cT.1 hy;obtain⟨dU,fr,gK⟩:=aa c je;obtain⟨aW,F,dT,s,m,e⟩:=xf G false c.2 U U;have h3:=aC c.2 gK U U (n+1) U;have aH:=aC c.2 gK U U (n+2) U;rw[e] at h3 aH ⊢;exact⟨λy hy=>aH.c7K y hy,h3.2⟩
    ·obtain⟨i,_,rfl⟩:=cT.1 hy;refine⟨by cases gZ T R k i<;>rfl,.Q9 (n:=n) λz a_=>?_⟩;obtain⟨c,_,rfl⟩:=cT.1 a_;obtain⟨n,rfl⟩:∃m,n=m+1:=⟨n-1,U⟩
     exact⟨rfl,.ag _⟩
theorem c7M{k:Nat}(h1:1<=k)(h2:k<=T.length):jR 1000 (xm T R k):=.bg (n:=999) λy hy=>by
 have hy:y=slA false (some 5) ((fg T R k).map (qM T))\/y= .aj y8\/y=ag 0:=by simpa using hy
 rcases hy with rfl|rfl|rfl
 ·refine .ao (n:=998) λy hy=>?_;obtain⟨c,aa,rfl⟩:=cT.1 hy;rw[vB G h1 h2] at aa;obtain⟨_,x,hx,_⟩:=Eh G k h1 h2 c aa;obtain⟨a,ha,WH⟩:=bL _ (eY hx);have e:lnfT T c=a.aI:=by unfold lnfT;rw[hx];exact ha
  have h3:∀n,90<=n->∀y∈ag c::fm false (lnfT T c),jR n y:=λn hn y hy=>by
   rcases c2.1 hy with rfl|hy
   ·obtain⟨n,rfl⟩:∃m,n=m+1:=⟨n-1,U⟩
    exact .ag _
   ·rw[e] at hy;exact .fS WH hn y hy
  exact⟨λz a_=>(h3 998 U z a_).1,tN (n:=997) λz a_=>(h3 997 U z a_).2⟩
 ·exact .aj (n:=998) λz a_=>by
   simp only[c2,hj,or_false] at a_;rcases a_ with rfl|rfl|rfl|rfl|rfl<;>exact⟨rfl,eo I⟩
 ·exact .ag _
end
structure uf(T:List a7):Prop where
 kU:yv T
 o1:u5 T (ea T)
 vu:∀k x,1<=k->T[k-1]? =some x->wP k x.cs
 ab:∀k,1<=k->k<=T.length->tH T k=true
 dep:∀x∈T,x.f.dep<=40
 le:T.length<=36
 ne:T≠[]
def Rd.c7N{L:List aN}{ae:List (List Nat)}{au:List Nat}(h:Rd L ae au)(hL:L.length<=36)(aY:L≠[]):uf (L.map aN.a4) where
 kU:=h.kU U
 o1:=h.o1 U
 vu k x h1 hx:=h.vu h1 hx
 ab k h1 h2:=by
  rw[bB] at h2;exact(h.shape h1 (cp (show k-1<L.length by omega))).1
 dep x hx:=by
  obtain⟨y,hy,rfl⟩:=cT.1 hx;show y.f.aI.dep<=40;rw[PF.kb];have:=(h.low hL hy).1;omega
 le:=by rw[bB];exact hL
 ne:=by simpa using aY
section
variable {P:Program}{b:bJ}{l:hz}{R:List bw}{b8:AV}(G:GivM P b (l.A true) b8)(hl:Eo b l R)
include G
theorem uf.jy{T:List a7}(g:uf T):∀J,bt J (b.bh+1000) (ck T)=some (ck T):=λJ=>a3Q g.ne λx hx=>by have:=g.dep x hx;omega
theorem uf.c7O(hb:lb P b){T:List a7}(g:uf T){k:Nat}(h1:1<=k)(h2:k<=T.length):er P b yf [ck T,ag k] (.b (tH T k)):=λb2=>
 n0 hb (cU.ok (db:=.nilsl) (b8:=.nilsl)) _ G.fb.OS.1 I I I I (ka _).1 (ka _).2 (a1K T (by have:=g.le;omega) (λx hx=>by
  have h3:=g.kU.num x hx;obtain⟨i,hi,rfl⟩:=iP hx;have aH:=(g.vu (i+1) _ U (cp hi)).1;exact⟨U,U,aH⟩) k h1 h2 _ I) b2
theorem uf.c7P(hb:lb P b){T:List a7}(g:uf T):er P b tC [ck T] (ag 0):=λb2=>
 n0 hb (cU.ok (db:=.nilsl) (b8:=.nilsl)) _ G.fb.Wr.1 I I I I (qv _ _).1 (qv _ _).2 (a1P cU.fn (T.map a7.A) (g.jy G) (by rw[bB];have:=g.le;omega) (λk=>tH T k) G.fb.OS.2 0 (jD _) (λk h1 h2 _=>by
  rw[bB] at h2;exact cU.jQ (g.c7O G hb h1 h2) (a5y _ _) λr ak=>ak.kU I _ _ I) (λk h1 h2 _=>by
  rw[bB] at h2;exact g.ab k h1 h2) (λh=>absurd I h) _ I) b2
theorem uf.Le(hb:lb P b){T:List a7}(g:uf T):DD b (sU P b l b8) T where
 kU:=g.kU
 ne:=ph.2 g.ne
 le:=by have:=g.le;omega
 jy:=g.jy G
 AN:=cU.jQ (g.c7P G hb) a5x λr ak=>ak.AN I
 o1:=g.o1
 e0 k x hx h1:=g.vu k x h1 hx
include hl
theorem uf.c7Q(hb:lb P b)(gm:y9 P b (l.A true) b8){T:List a7}(g:uf T){r c_ ei ej au:Nat}(sJ:TI (sU P b l b8) l R T r c_ ei ej au):∃a4 nD nE nF fc e,er P b u1 [l.A true,ck T] (D_ a4 nD nE nF fc e)/\(if r=0 then(if jM T T.length=0 then(a4=0/\nD=0/\nE=0/\nF=0/\fc=0/\e=0) else(a4=T.length/\nD=7/\nE=0/\nF=0/\fc=0/\e=180)) else(a4=r/\nD=c_/\nE=ei/\nF=ej/\fc=au/\e=180)):=by
 have hd:∀x∈T,x.f.dep<=200:=λx hx=>by have:=g.dep x hx;omega
 have c7R:sU P b l b8 mo [l.A true] (.b true):=cU.jQ gm.D3 (vF b_) λr h=>h.vE b_;have n_:=g.Le (b8:=b8) G hb;have key:∀a4 nD nE nF fc e,(if r=0 then(if jM T T.length=0 then(a4=0/\nD=0/\nE=0/\nF=0/\fc=0/\e=0) else(a4=T.length/\nD=7/\nE=0/\nF=0/\fc=0/\e=180)) else(a4=r/\nD=c_/\nE=ei/\nF=ej/\fc=au/\e=180))->er P b u1 [l.A true,ck T] (D_ a4 nD nE nF fc e):=λa4 nD nE nF fc e c0 b2=>by
  have hw:=c0z (K:=sU P b l b8) cU.fn G.fb.hf G.fb.ho G.fb.an G.fb.jt n_ hd hl.rs hl.len hl.aE hl.jy (G.fb.xp I) c7R sJ c0 _ I;refine Hi hb cU.ok (ae:=1000) _ G.fb.a5N.1 I I I I ?_ hw b2;refine(pK λy hy=>?_:gu (AV.eqb 999) [.aj [ag a4,uB nD,uB nE,ag nF,ag fc],ag e] [.aj [ag a4,uB nD,uB nE,ag nF,ag fc],ag e]=true);have hy:y= .aj [ag a4,uB nD,uB nE,ag nF,ag fc]\/y=ag e:=by simpa using hy
  rcases hy with rfl|rfl
  ·refine tN (n:=998) λz a_=>?_;simp only[c2,hj,or_false] at a_;rcases a_ with rfl|rfl|rfl|rfl|rfl<;>exact eo I
  ·exact eo I
 by_cases h0:r=0
 ·by_cases ml:jM T T.length=0
  ·exact⟨0,0,0,0,0,0,key _ _ _ _ _ _ (by rw[if_pos h0,if_pos ml];exact⟨rfl,rfl,rfl,rfl,rfl,rfl⟩),by rw[if_pos h0,if_pos ml];exact⟨rfl,rfl,rfl,rfl,rfl,rfl⟩⟩
  ·exact⟨_,7,0,0,0,180,key _ _ _ _ _ _ (by rw[if_pos h0,if_neg ml];exact⟨rfl,rfl,rfl,rfl,rfl,rfl⟩),by rw[if_pos h0,if_neg ml];exact⟨rfl,rfl,rfl,rfl,rfl,rfl⟩⟩
 ·exact⟨_,_,_,_,_,180,key _ _ _ _ _ _ (by rw[if_neg h0];exact⟨rfl,rfl,rfl,rfl,rfl,rfl⟩),by rw[if_neg h0];exact⟨rfl,rfl,rfl,rfl,rfl,rfl⟩⟩
end
structure WI(b:bJ):Prop where
 a6l:lP b As F6
 c7S:HB b MC Lx
 c7T:HB b MD Ly
 c7U:HB b GI C1
 WJ:lP b qz Gb
 a6m:lP b At F7
 a6n:lP b m0 L9
 isNaN:HB b Ap Aj
 steps:HB b ME LG
 a6o:HB b GL LN
 a6p:HB b GM Gi
 G8:HB b GO Gd
 marks:HB b GS Gm
 add:HB b GZ LO
 labels:HB b GP Ge
 shaped:HB b MH LY
 opens:HB b MI Lz
 Em:HB b SD R5
 walk:HB b MF LH
 bad:HB b SC Sa
 dg:HB b Dk Se
 cD:HB b Dl Sf
 dn:HB b Dm Sg
 e4:HB b Dn Sh
 k4:HB b Dp Si
 vx:HB b Dq Sj
 got:HB b MG LZ
 keys:HB b MJ LJ
 IM:HB b qA x9
 sorted:HB b G0 LI
 V1:HB b G1 Gj
 app:HB b Di C3
 sort:HB b G2 Gk
 len:HB b tB tz
 IN:HB b sx sw
 Br:HB b Dj C4
 ins:HB b Au Ah
 copy:b.ext lJ=0/\b.pure lJ=true
structure lp(L:List aN):Prop where
 ex:∃ae au,Rd L ae au/\ae.length=1
 le:L.length<=36
 ne:L≠[]
abbrev aV(L:List aN):List a7:=L.map aN.a4
def Ja(l:hz)(R:List bw)(lc:List AV)(aW:List Nat)(g:Nat)(aO:List AV)(r:AV):Prop:=
 (g=m0/\∃a c,aO=[ag a,ag c]/\r= .b (decide (a<c)))∨
 (g=qz/\r= .b true/\∃L,lp L/\nG (aV L)=true/\aO=[tA (aV L) R true (aV L).length])∨
 (g=sy/\r= .bg [.aj lc,ag 0]/\aO=[.s aW])\/(g=tD/\r= .b true/\aO=[])∨
 (g=u1/\r=D_ 0 0 0 0 0 0/\∃L,lp L/\aO=[l.A true,ck (aV L)])
def Jb(l:hz)(R:List bw)(g:Nat)(aO:List AV)(r:AV):Prop:=
 (g=As/\∃L,lp L/\aO=[l.A true,ck (aV L)]/\r=cond (nG (aV L)) (.bg [tA (aV L) R false (aV L).length,ag 0]) (.bg [.aj rO,ag 5]))∨
 (g=At/\∃L,lp L/\nG (aV L)=true/\aO=[l.A true,tA (aV L) R true (aV L).length]/\r=xm (aV L) R (aV L).length)
def Ja.fn{l:hz}{R:List bw}{lc:List AV}{aW:List Nat}:∀g aO r bR,Ja l R lc aW g aO r->Ja l R lc aW g aO bR->r=bR:=λg aO r bR h h'=>by
 rcases h with⟨e,a,c,aM,aU⟩|⟨e,aU,_⟩|⟨e,aU,_⟩|⟨e,aU,_⟩|⟨e,aU,_⟩<;>rcases h' with⟨d_,cF,bc,vJ,sV⟩|⟨d_,sV,_⟩|⟨d_,sV,_⟩|⟨d_,sV,_⟩|⟨d_,sV,_⟩<;>first
  |(rw[aU,sV];done)
  |(exact absurd (e.symm.trans d_) b_)
  |(
    rw[aM] at vJ;obtain⟨f1,f2⟩:=pa vJ;rw[aU,sV,OY f1,OY f2])
section
variable {P:Program}{b:bJ}{l:hz}{R rest:List bw}{b8:AV}{lc:List AV}{aW:List Nat}(G:GivM P b (l.A true) b8)(hl:Eo b l R)(hR:R=rulesP++rest)(eh:WI b)
def lp.gtr{L:List aN}(h:lp L)(hR:R=rulesP++rest):hN (aV L) R:=by
 obtain⟨ae,au,h1,_⟩:=h.ex;exact h1.gtr h.le hR
def lp.fS{L:List aN}(h:lp L):∀x∈aV L,∃a:PF,x.f=a.aI/\a.dep<=40:=λx hx=>by
 obtain⟨ae,au,h1,_⟩:=h.ex;obtain⟨y,hy,rfl⟩:=cT.1 hx;exact⟨y.f,rfl,by have:=(h1.low h.le hy).1;omega⟩
def lp.pos{L:List aN}(h:lp L):1<=(aV L).length:=by rw[bB];exact ph.2 h.ne
include hR in
theorem Jb.fn:∀g aO r bR,Jb l R g aO r->Jb l R g aO bR->r=bR:=λg aO r bR h h'=>by
 rcases h with⟨e,L,m,aM,aU⟩|⟨e,L,m,_,aM,aU⟩<;>rcases h' with⟨d_,mQ,aP,vJ,sV⟩|⟨d_,mQ,aP,_,vJ,sV⟩
 ·rw[aM] at vJ;have:=Wf (pa vJ).2;rw[aU,sV,this]
 ·exact absurd (e.symm.trans d_) b_
 ·exact absurd (e.symm.trans d_) b_
 ·rw[aM] at vJ;rw[aU,sV];exact c7E (m.gtr hR) (aP.gtr hR) m.pos (a8 _) aP.pos (a8 _) (pa vJ).2
include G eh in
theorem c7V(hb:lb P b)(a c:Nat):er P b m0 [ag a,ag c] (.b (decide (a<c))):=λb2=>n0 hb (cU.ok (db:=.nilsl) (b8:=.nilsl)) _ eh.a6n.1 I I I I (ka _).1 (ka _).2 (c7J eh.isNaN.h a c _ I) b2
def WK{T:List a7}(h:nG T=true):msr T 1 iZ T.length<=300/\msr T 0 fo T.length<=40:=by
 unfold nG at h;rw[dD,decide_eq_true_iff,decide_eq_true_iff] at h;exact h
include G eh hR in
theorem c7W(hb:lb P b){L:List aN}(m:lp L)(hm:nG (aV L)=true):er P b qz [tA (aV L) R true (aV L).length] (.b true):=λb2=>
 TP hb (cU.ok (db:=.nilsl) (b8:=.nilsl)) (ae:=1000) _ eh.WJ.1 I I I I (ka _).2 (c3X cU.fn ⟨eh.steps.h,eh.a6o.h,eh.a6p.h⟩ (m.gtr hR) m.pos (a8 _) (WK hm).1 (WK hm).2 _ I) b2
include G hl in
theorem c7X(hb:lb P b)(gm:y9 P b (l.A true) b8){L:List aN}(m:lp L):er P b u1 [l.A true,ck (aV L)] (D_ 0 0 0 0 0 0):=by
 obtain⟨ae,au,h,hf⟩:=m.ex;have Jc:=WD G hl hb gm;have sJ:TI (sU P b l b8) l R (aV L) 0 0 0 0 0:=⟨jD _,λk x h1 _ hx=>by
  obtain⟨y,hy,rfl⟩:=IZ hx;exact⟨true,Jc.iz _ (h.low m.le (eY hy)),h.bad Jc m.le h1 hy⟩,λh=>absurd I h⟩
 obtain⟨a4,c_,ei,ej,fc,e,de,c0⟩:=(h.c7N m.le m.ne).c7Q G hl hb gm sJ;have hd:jM (aV L) (aV L).length=0:=by
  have an:=m.pos;have hX:=ph.2 m.ne;have hx:L[L.length-1]? =some (L[L.length-1]'U):=cp _;have:=(h.inv.last m.ne).2 _ hx;rw[bB,yU hx,this,hf]
 rw[if_pos I,if_pos hd] at c0;obtain⟨rfl,rfl,rfl,rfl,rfl,rfl⟩:=c0;exact de
end
abbrev fO(P:Program)(b:bJ)(l:hz)(R:List bw)(b8:AV)(lc:List AV)(aW:List Nat):Nat->List AV->AV->Prop:=p4 (Ja l R lc aW) (sU P b l b8)
abbrev kP(P:Program)(b:bJ)(l:hz)(R:List bw)(b8:AV)(lc:List AV)(aW:List Nat):Nat->List AV->AV->Prop:=p4 (Jb l R) (fO P b l R b8 lc aW)
structure Gbk(P:Program)(b:bJ)(l:hz)(R rest:List bw)(b8:AV)(lc:List AV)(aW:List Nat):Prop where
 G:GivM P b (l.A true) b8
 hl:Eo b l R
 hR:R=rulesP++rest
 eh:WI b
 hb:lb P b
 gm:y9 P b (l.A true) b8
 OZ:er P b sy [.s aW] (.bg [.aj lc,ag 0])
 c7Y:er P b tD [] (.b true)
 OF:∀r∈R,∀J,bt J (b.bh+999) r.A=some r.A
 names:∀i j (h:i<R.length) (h':j<R.length),i<j->R[i].aW≠R[j].aW
section
variable {P:Program}{b:bJ}{l:hz}{R rest:List bw}{b8:AV}{lc:List AV}{aW:List Nat}(g:Gbk P b l R rest b8 lc aW)
def fO.fn:∀g aO r bR,fO P b l R b8 lc aW g aO r->fO P b l R b8 lc aW g aO bR->r=bR:=p4.fn Ja.fn cU.fn
include g
theorem fO.ok:uX P b (fO P b l R b8 lc aW):=p4.ok (λn aO r h=>by
 rcases h with⟨rfl,a,c,rfl,rfl⟩|⟨rfl,rfl,L,m,hm,rfl⟩|⟨rfl,rfl,rfl⟩|⟨rfl,rfl,rfl⟩|⟨rfl,rfl,L,m,rfl⟩
 ·exact c7V g.G g.eh g.hb a c
 ·exact c7W g.G g.hR g.eh g.hb m hm
 ·exact g.OZ
 ·exact g.c7Y
 ·exact c7X g.G g.hl g.hb g.gm m) cU.ok
omit g in
theorem fO.up{n:Nat}{aO:List AV}{r:AV}(h:sU P b l b8 n aO r)(hn:x5 [m0,qz,sy,tD,u1] n=false):fO P b l R b8 lc aW n aO r:=p4.up h λaO r h'=>by
 rcases h' with⟨rfl,_⟩|⟨rfl,_⟩|⟨rfl,_⟩|⟨rfl,_⟩|⟨rfl,_⟩<;>exact absurd hn b_
theorem c7Z(a:PF):sU P b l b8 lJ [a.aI.A true] (a.aI.A false):=cU.jQ (Ww g.G _ a (a8 _) _) (c6p a) λr h=>h.c6k I a I
theorem c8a{L:List aN}(m:lp L):Ej b (fO P b l R b8 lc aW) (aV L) R l:=by
 obtain⟨ae,au,h,hf⟩:=m.ex;have Jc:=WD g.G g.hl g.hb g.gm;have rJ:∀x∈aV L,∃a:PF,x.f=a.aI/\a.low:=λx hx=>by
  obtain⟨y,hy,rfl⟩:=cT.1 hx;exact⟨y.f,rfl,h.low m.le hy⟩
 exact {
  G:=m.gtr g.hR
  A:=h.a5A m.le
  iz:=λx hx=>by
   obtain⟨a,e,ha⟩:=rJ x hx;rw[<-sO,e];exact fO.up (Jc.iz a ha) I
  wW:=λx hx=>by
   obtain⟨a,e,ha⟩:=rJ x hx;rw[<-sO,e];exact fO.up (Jc.b6 a ha) I
  ap:=λk x h1 hx hh ak=>h.ap m.le g.hR (λ{r F aE gs} ha bL hg=>by
   obtain⟨cB,fE,ei,ej,au,de⟩:=c7z (P:=P) (b:=b) (l:=l) (b8:=b8) g.G ha bL hg;exact⟨cB,fE,ei,ej,au,fO.up de I⟩) h1 hx hh ak
  ls:=g.hl.jy
  rs:=λr ak=>(g.hl.aE r ak).2
  OF:=g.OF
  tr:=λk h1 h2=>h.hlen m.le g.hR h1 (by rw[bB] at h2;exact h2)}
theorem c8b:a5f b (fO P b l R b8 lc aW) where
 mY:=⟨fO.fn,g.eh.bad.h,g.eh.dg.h,g.eh.cD.h,g.eh.dn.h,g.eh.e4.h,g.eh.k4.h,g.eh.vx.h,g.eh.got.h,g.eh.shaped.h,g.G.fb.xp I,g.G.fb.OR.2,g.G.fb.OT.2,
  ⟨g.eh.keys.h,g.eh.IM.h,g.eh.sorted.h,g.eh.V1.h,g.eh.app.h,g.eh.sort.h,g.eh.len.h,g.eh.IN.h,g.eh.Br.h,g.eh.ins.h,g.eh.a6n.2,λa c=>.inl (.inl ⟨rfl,a,c,rfl,rfl⟩)⟩,
  ⟨g.eh.add.h,g.eh.marks.h,g.G.fb.hf⟩⟩
 st:=⟨g.eh.steps.h,g.eh.a6o.h,g.eh.a6p.h⟩
 Em:=g.eh.Em.h
 walk:=g.eh.walk.h
 V9:=g.eh.G8.h
 a5g:=g.eh.labels.h
 opens:=g.eh.opens.h
 wZ:=g.eh.WJ.2
 xh:=g.eh.copy
 Ba:=g.G.fb.xp I
theorem a6q{L:List aN}(m:lp L):∀x∈aV L,fO P b l R b8 lc aW lJ [.aj (br x.f)] (.aj (h_ x.f)):=λx hx=>by
 obtain⟨a,e,_⟩:=m.fS x hx;have:=fO.up (R:=R) (lc:=lc) (aW:=aW) (c7Z g a) I;rw[e];rw[j4] at this;have aU:a.aI.A false= .aj (h_ a.aI):=sO false a.aI;rwa[aU] at this
theorem c8c{L:List aN}(m:lp L)(hm:nG (aV L)=true):er P b At [l.A true,tA (aV L) R true (aV L).length] (xm (aV L) R (aV L).length):=λb2=>by
 have ak:=c7M (m.gtr g.hR) m.fS m.pos (a8 _);exact Hi g.hb (fO.ok g) (ae:=1000) _ g.eh.a6m.1 I I I ak.1 ak.2 (c5M (c8b g) (c8a g m) m.pos (a8 _) (WK hm).2 (.inl (.inr (.inl ⟨rfl,rfl,L,m,hm,rfl⟩))) (fO.up (cU.jQ g.gm.D3 (vF b_) λr h=>h.vE b_) I) g.hl.rs g.hl.len g.names (a6q g m) _ I) b2
theorem c8d{L:List aN}(m:lp L):er P b As [l.A true,ck (aV L)] (cond (nG (aV L)) (.bg [tA (aV L) R false (aV L).length,ag 0]) (.bg [.aj rO,ag 5])):=λb2=>by
 obtain⟨ae,au,h,hf⟩:=m.ex;have ak:jR 1000 (cond (nG (aV L)) (.bg [tA (aV L) R false (aV L).length,ag 0]) (.bg [.aj rO,ag 5])):=by
  cases nG (aV L) with
  |true=>
   exact .bg (n:=999) λy hy=>by
    have hy:y=tA (aV L) R false (aV L).length\/y=ag 0:=by simpa using hy
    rcases hy with rfl|rfl
    ·exact c7L (m.gtr g.hR) m.fS _ m.pos (a8 _) _ (by have:=m.le;rw[bB];omega)
    ·exact .ag _
  |false=>
   exact .bg (n:=999) λy hy=>by
    have hy:y= .aj rO\/y=ag 5:=by simpa using hy
    rcases hy with rfl|rfl
    ·exact .aj (n:=998) λz a_=>by
      simp only[c2,hj,or_false] at a_;rcases a_ with rfl|rfl|rfl|rfl|rfl|rfl|rfl|rfl<;>exact⟨rfl,eo I⟩
    ·exact .ag _
 exact Hi g.hb (fO.ok g) (ae:=1000) _ g.eh.a6l.1 I I I ak.1 ak.2 (c3x fO.fn g.eh.c7S.h g.eh.c7T.h g.eh.c7U.h g.G.fb.a5H.h g.eh.copy g.G.fb.a5N.2 g.eh.WJ.2 (m.gtr g.hR) (m.gtr g.hR).go m.pos g.hl.len g.names (a6q g m) g.hl.rs g.hl.jy (Rd.jy g.G h m.le m.ne) (a4:=0) (c_:=0) (ei:=0) (ej:=0) (au:=0) (.inl (.inr (.inr (.inr (.inr ⟨rfl,rfl,L,m,rfl⟩))))) (λhm=>.inl (.inr (.inl ⟨rfl,rfl,L,m,hm,rfl⟩))) _ I) b2
theorem kP.fn:∀n aO r bR,kP P b l R b8 lc aW n aO r->kP P b l R b8 lc aW n aO bR->r=bR:=p4.fn (Jb.fn g.hR) fO.fn
theorem kP.ok:uX P b (kP P b l R b8 lc aW):=p4.ok (λn aO r h=>by
 rcases h with⟨rfl,L,m,rfl,rfl⟩|⟨rfl,L,m,hm,rfl,rfl⟩
 ·exact c8d g m
 ·exact c8c g m hm) (fO.ok g)
omit g in
theorem kP.up{n:Nat}{aO:List AV}{r:AV}(h:fO P b l R b8 lc aW n aO r)(hn:x5 [As,At] n=false):kP P b l R b8 lc aW n aO r:=p4.up h λaO r h'=>by
 rcases h' with⟨rfl,_⟩|⟨rfl,_⟩<;>exact absurd hn b_
end
def c8e{T:List a7}{B N:List (List Nat)}{k:Nat}:(needL T B N k).Pairwise (· < ·):=by
 unfold needL;split
 ·rename_i x _;cases x.hyp with
  |true=>rw[cond_true];simp
  |false=>rw[cond_false];exact a4j.filter _
 ·simp
section
variable {L:List aN}(m:lp L){R rest:List bw}(hR:R=rulesP++rest)
include m hR
theorem lp.yM:fg (aV L) R (aV L).length=vG (aV L) (aV L).length:=by
 obtain⟨ae,au,h,hf⟩:=m.ex;have an:=m.pos;have rL:(aV L).length=L.length:=bB _;refine Ov Ow ?_ λc=>?_
 ·unfold vG;rw[I0 an (a8 _)];exact c8e
 ·rw[vB (m.gtr hR) an (a8 _),rL];exact h.c6x m.le hR L.length U (a8 _) c
theorem lp.c8f{c:Nat}(aa:c∈fg (aV L) R (aV L).length):∃y,L[c-1]? =some y/\y.bK=0/\y.f.low/\1<=c/\c<=L.length/\lnfT (aV L) c=y.f.aI:=by
 obtain⟨ae,au,h,hf⟩:=m.ex;have an:=m.pos;have rL:(aV L).length=L.length:=bB _;rw[vB (m.gtr hR) an (a8 _),rL] at aa;obtain⟨y,hy,_,dU,fr⟩:=h.a5E m.le hR U (a8 _) aa;refine⟨y,hy,?_,h.low m.le (eY hy),dU,fr,Bx hy⟩;have hx:L[L.length-1]? =some (L[L.length-1]'U):=cp _;have hd:=(h.inv.last m.ne).2 _ hx;have ct:=(h.kU (by have:=m.le;omega:L.length<=40)).len (L.length-1) (by rw[bB];omega);rw[show L.length-1+1=L.length by omega,iR,hx] at ct;have ct:(stF (L.map aN.a4) L.length).length=(L[L.length-1]'U).bK:=ct;rcases h.a5D m.le hR L.length U (a8 _) c aa with⟨_,h0⟩|h0
 ·rwa[yU hy] at h0
 ·have lZ:0<(stF (L.map aN.a4) L.length).length:=a4l h0;rw[ct,hd,hf] at lZ;exact absurd lZ b_
end
structure Ep(τ:ad)(v:AV)(L:List aN):Prop where
 ex:∃dK W,Sl τ (some 9) v dK/\dK.length=L.length/\∀i (h:i<dK.length) (h':i<L.length),lM W τ L[i] dK[i]
def Ep.aD{τ ax:ad}{v:AV}{L:List aN}(h:Ep τ v L)(k:∀i o,τ.get i=some o->ax.get i=some o):Ep ax v L:=by
 obtain⟨dK,W,a,c,d⟩:=h.ex;exact⟨dK,W,a.aD λi o _=>k i o,c,λi h1 h2=>(d i h1 h2).aD λi c hi aa=>⟨hi,k _ _ aa⟩⟩
def Ep.gb{τ:ad}{v:AV}{L:List aN}(h:Ep τ v L)(aY:L≠[]):∃o dd,τ.get o=some (.cells dd)/\∀j x,L[j]? =some x->idxSlA (some 9) v j=some (.p (some (o,j*9)))/\dE none (dd.drop (j*9+0))=some (ag x.bK)/\∃w,dE (some 4) (dd.drop (j*9+3))=some w/\∀n,2*x.f.dep+2<=n->bt τ n w=some (x.f.aI.A true):=by
 obtain⟨dK,W,al,hl,gJ⟩:=h.ex;obtain⟨o,c,h1,h2,h3⟩:=al.aG (by rw[hl];exact ph.2 aY);refine⟨o,c,h2,λj x hx=>?_⟩;obtain⟨aA,Bc⟩:=fH.1 hx;obtain⟨aQ,⟨r,aZ⟩,bX⟩:=h3 j (by rw[hl];exact aA);have gJ:=gJ j (by rw[hl];exact aA) aA;rw[Bc] at gJ;refine⟨aQ,?_⟩;generalize dK[j]'(by rw[hl];exact aA)=Ck at gJ aZ;have aZ:c.drop (j*9)=Ck.cells++r:=aZ;cases gJ with
 |mk w gf Ny oI=>
  refine⟨?_,_,?_,λn hn=>e1.snap x.f.dep (a8 _) U Ny⟩
  ·rw[uh,aZ];rfl
  ·rw[<-pj,aZ];rfl
end
section
variable [Tok][TokOk]
open Go.RowKit Go.Lyc.T
attribute [local irreducible] bM bo da dy bb
section
def c8g(hh:a3 (b.aF K) GH F5){J:ad}(j:Bool):bb (b.aF K) 0 (.f (.func GH) [] []) [.b j] J (λr τ=>r= .ok (ag (cond j 1 0))/\cM J τ):=by
 refine W.sA hh I I I λz H=>?_;cases j with
 |true=>
  refine af ?_;exact ah.ret ⟨rfl,rfl,a8 _,λ_ _ h=>h⟩
 |false=>
  refine af ?_;exact ah.ret ⟨rfl,rfl,a8 _,λ_ _ h=>h⟩
abbrev nmJ(j:Bool):List Nat:=cond j [74] [75,49]
structure a6r(b:bJ)(K:Nat->List AV->AV->Prop)(l:hz)(R rest:List bw)(lc:List AV)(aW:List Nat):Prop where
 hR:R=rulesP++rest
 cb:m9 b K
 made:a3 (b.aF K) Mq lI
 Ex:a3 (b.aF K) GH F5
 q4:b.ext sy=0/\b.pure sy=true
 xJ:b.ext As=0/\b.pure As=true
 Ol:b.ext At=0/\b.pure At=true
 a6s:b.ext Ar=0/\b.pure Ar=true
 a6t:b.ext pO=0/\b.pure pO=true
 BB:b.ext tD=0/\b.pure tD=true
 OZ:K sy [.s aW] (.bg [.aj lc,ag 0])
 WL:K tD [] (.b true)
 AX:lc.length=5
 jy:∀J,bt J (b.bh+1000) (.aj lc)=some (l.A true)
 a6u:∀L,lp L->K As [l.A true,ck (aV L)] (cond (nG (aV L)) (.bg [tA (aV L) R false (aV L).length,ag 0]) (.bg [.aj rO,ag 5]))
 Wh:∀L,lp L->nG (aV L)=true->K At [l.A true,tA (aV L) R true (aV L).length] (xm (aV L) R (aV L).length)
 xd:∀L,lp L->K Ar [ck (aV L)] (.bg [o0 (ndsL (aV L) (aV L).length),ag 0])
 wW:∀f:PF,f.low->K pO [f.aI.A true,f.aI.A true] (.b true)
def c8h{l:hz}{R rest:List bw}{lc:List AV}{j:Bool}(h:a6r b K l R rest lc (nmJ j)){cI:AV}{code:List Nat}(aq:∀τ,Vw τ none cI (code.map uB))(mg:cI.cells=[cI]/\cI.val=true)(hl:code.length<2^62)(hb:∀x∈code,x<256)(body:b5)(jt:gK.body=some body):
  ah (b.aF K) gK.ntmps body (gy [cI,.b j]) ⟨.nil,0⟩ (oU 4 (.b true)):=by
 cbv at jt
 cases jt;have bT:=h.AX;have rr:=h.OZ;have fM:=h.jy;obtain⟨nS,aQ,aZ,bX,cS,rfl⟩:∃nS aQ aZ bX cS,lc=[nS,aQ,aZ,bX,cS]:=by
  match lc,bT with
  |[nS,aQ,aZ,bX,cS],_=>exact⟨_,_,_,_,_,rfl⟩
 refine W.m1 λz H=>?_;refine af ?_;refine W.bV (k:=0) (c:=[.s [75,49],.s [74]]) H I I I I λcx cy H bl=>?_;refine af ?_;refine W.bS I I I (c8g h.Ex j) λr a5 ⟨e,M2⟩=>⟨_,e,?_⟩
 have H:=H.aD M2.2;have ji:=M2.1;refine W.eg I I I I (jl (j:=cond j 1 0) (by cases j<;>decide)) ?_;refine W.sD (v:=.s (nmJ j)) (H.qx) I I I (by cases j<;>rfl) ?_;refine W.et h.cb.fn h.q4 rr I I I I ?_;refine af ?_;refine W.b6 (c:=[.s [],.i .u32 0,.i .u8 0,.i .u8 0,.nilsl]) H I I I I λbu dx H k3=>?_;refine af ?_;refine W.st (bc:=[nS,aQ,aZ,bX,cS]) H 0 I I I I I I λb3 eC H bI=>?_;refine af ?_;refine W.bS I I I (c2Z h.cb h.made aq mg hl hb) λr cW ⟨L,ae,au,v,dK,bU,ar,O0,z0,aY,hL,al,eZ,gJ,il,d2i,D8,gC⟩=>⟨_,ar,?_⟩
 have m:lp L:=⟨⟨ae,au,O0,z0⟩,U,aY⟩
 have a3j:0<L.length:=ph.2 aY;have c8i:∀x∈L,x.f.dep<=200:=λx hx=>by have:=O0.inv.dep x hx;omega
 have jo:∀ax,(∀i o,cW.get i=some o->ax.get i=some o)->bt ax (b.bh+1000) v=some (ck (aV L)):=λax k=>c3a (b:=b) (W:=λi=>¬bU i) (al.aD λi o _=>k i o) aY eZ (λi h1 h2=>(gJ i h1 h2).aD λi c hi aa=>⟨hi,k _ _ aa⟩) c8i;have c8j:Ep cW v L:=⟨dK,_,al,eZ,gJ⟩
 have H:=H.aD gC.2;have G:=m.gtr h.hR;have an:=m.pos;have rL:(aV L).length=L.length:=bB _;have c8k:=h.a6u L m;have c8l:=h.Wh L m;have hnd:=h.xd L m;have hlen:∀J,lenA J 1 v=some L.length:=λJ=>by rw[al.len,eZ]
 refine af ?_;refine W.et h.cb.fn h.xJ c8k I I I (mT (fM _) (jo _ λ_ _ h=>h)) ?_;cases Vx:nG (aV L) with
 |false=>
  rw[cond_false];refine af ?_;refine W.b6 (c:=rO) H I I I I λdr h5 H dI=>?_;refine af ?_;refine W.st (bc:=rO) H 0 I I I I I I λeT j0 H fZ=>?_;refine af ?_;refine W.et h.cb.fn h.BB h.WL I I I I ?_;refine af ?_;exact ah.ret ⟨rfl,rfl⟩
 |true=>
  rw[cond_true];obtain⟨Bq,dT,s,xg,hO⟩:=OC (R:=R) G (O0.a5A m.le) false (aV L).length an (a8 _);have q7:∀J,bt J (b.bh+1000) (.aj (ff false Bq (lnfT (aV L) (aV L).length) dT s xg))=some (tA (aV L) R true (aV L).length):=λJ=>by
   have:=Iy G (J:=J) false (aV L).length an (a8 _) (b.bh+1000) (by have:=G.lt;omega);rwa[hO] at this
  rw[hO];refine af ?_;refine W.b6 (c:=rO) H I I I I λdr h5 H dI=>?_;refine af ?_;refine W.st (bc:=ff false Bq (lnfT (aV L) (aV L).length) dT s xg) H 0 I I I I I I λeT j0 H fZ=>?_;have tI:∀i o,cW.get i=some o->eT.get i=some o:=λi o ho=>fZ _ _ (by have:=ad.a9 ho;omega) (dI _ _ ho);refine af ?_;refine W.et h.cb.fn h.Ol (c8l Vx) I I I (mT (fM _) (q7 _)) ?_;refine af ?_;refine W.b6 (c:=y8) H I I I I λeV oD H j8=>?_;refine af ?_;refine W.st (bc:=y8) H 0 I I I I I I λhv oE H hH=>?_;have A5:∀i o,cW.get i=some o->hv.get i=some o:=λi o ho=>hH _ _ (by have:=ad.a9 ho;omega) (j8 _ _ (tI _ _ ho));refine af ?_;refine W.et h.cb.fn h.a6s hnd I I I (mS (jo _ A5)) ?_;refine af ?_;have tc:(ndsL (aV L) (aV L).length).length=L.length:=by rw[yy,rL]
  have xV:∀hh:L.length-1<(ndsL (aV L) (aV L).length).length,(ndsL (aV L) (aV L).length)[L.length-1]'hh=fg (aV L) R (aV L).length:=λhh=>by
   rw[m.yM h.hR];show _=(ndsL (aV L) (aV L).length).getD ((aV L).length-1) [];rw[show(aV L).length-1=L.length-1 by rw[rL]];exact(jA hh).symm
  have dS:=λc aa=>m.c8f (R:=R) (rest:=rest) h.hR (c:=c) aa;have a6v:=c8j.aD A5;obtain⟨o,dd,ho,k8⟩:=a6v.gb aY;have gS:L[L.length-1]? =some (L[L.length-1]'U):=cp _;have kt:lnfT (aV L) (aV L).length=(L[L.length-1]'U).f.aI:=by
   have:=Bx (L:=L) (k:=L.length) gS;rw[rL];exact this
  have WM:(L[L.length-1]'U).f.low:=O0.low m.le (bC _);obtain⟨mq,_,a3V,O1,sr⟩:=k8 _ _ gS;generalize L[L.length-1]'U=WN at kt WM sr;unfold o0;refine W.len I I I (hlen _) ?_;refine af ?_;refine W.len I I I (hlen _) ?_;refine af ?_;rw[xV];refine af ?_;refine W.len I I I (hlen _) ?_;refine af ?_;refine W.eg I I I I mq ?_;refine af ?_;refine W.sD ho I I I O1 ?_;have DG:∀(F:Fm) (J:ad),F.dep<=40->bt J (b.bh+1000) (.aj (fm false F))=some (F.A true):=λF J hd=>by
   have:=Fm.snap J false _ F (b.bh+1000) (a8 _) U;rwa[sO] at this
  have Oc:WN.f.dep<=38:=WM.1;refine W.et h.cb.fn h.a6t (h.wW WN.f WM) I I I (mT (x:=WN.f.aI.A true) (by rw[kt];exact DG _ _ (by rw[PF.kb];omega)) (sr _ U)) ?_;refine af ?_;have c8m:=λ(ax:ad) (k:∀i o,hv.get i=some o->ax.get i=some o)=>a6v.aD k;clear k8 mq O1 sr ho;generalize ow:fg (aV L) R (aV L).length=ol at *;have d2j:ol.length<=41:=by
   have h1:=sz (λc=>decide (c∈labS (aV L) R (aV L).length)) (List.range ((aV L).length+1));rw[nc] at h1;rw[<-ow];unfold fg;omega
  show bo _ _ _ _ _ _ _ _;refine ah.each ol.length (λi f τ=>sat [(7,v),(15,slA false none (ol.map ag)),(93,slA false (some 5) (ol.map (qM (aV L))))] f/\∀i o,hv.get i=some o->τ.get i=some o) U ⟨dm,λ_ _ h=>h⟩ I I (λi g τ hi aL fF fi=>?_) (λg τ aL fF=>?_)
  ·obtain⟨⟨fN,o5,c8n,_⟩,bA⟩:=aL;refine ah.norm [(7,v),(15,slA false none (ol.map ag)),(93,slA false (some 5) (ol.map (qM (aV L)))),(95,ag i),(94,ag ol.length)] ⟨fN,o5,c8n,fF,fi,trivial⟩ λg=>?_;have H:Has τ []:=Has.nil;obtain⟨y,hy,w3,TW,dU,fr,c8o⟩:=dS _ (bC hi);refine af ?_;generalize H2:ol[i]=c at *;refine W.b6 (c:=[ag 0,.i .u8 0,.s [],.nilsl,.nilsl]) H I I I I λfu mr H ca=>?_;refine af ?_;refine W.st (bc:=ag c::fm false (lnfT (aV L) c)) H 0 I I I I I I λfG ly H fP=>?_;have yZ:∀i o,hv.get i=some o->fG.get i=some o:=λi o ho=>fP _ _ (by have:=ad.a9 (bA _ _ ho);omega) (ca _ _ (bA _ _ ho));obtain⟨o,dd,ho,k8⟩:=(c8m fG yZ).gb aY;obtain⟨mq,m4,w,O1,sr⟩:=k8 _ _ hy;refine af ?_;refine W.eg I I I I mq ?_;refine af ?_;refine W.sD ho I I I O1 ?_;have d2k:y.f.dep<=38:=TW.1;refine W.et h.cb.fn h.cb.NQ (h.cb.same y.f y.f U U) I I I (mT (x:=y.f.aI.A true) (by rw[c8o];exact DG _ _ (by rw[PF.kb];omega)) (sr _ U)) ?_;rw[decide_eq_true I];refine af ?_;refine W.eg I I I I mq ?_;refine af ?_;refine W.sD ho I I I m4 ?_;rw[w3];refine af ?_;exact⟨rfl,rfl,dm,yZ⟩
  ·refine ah.norm [] trivial λg=>?_;have H:Has τ []:=Has.nil;refine af ?_;refine W.et h.cb.fn h.BB h.WL I I I I ?_;refine af ?_;exact ah.ret ⟨rfl,rfl⟩
end
end
section
variable [Tok][TokOk]
open Go.RowKit Go.Lyc.T
section
variable {P:Program}{b:bJ}{l:hz}{R rest:List bw}{b8:AV}{lc:List AV}{j:Bool}(g:Gbk P b l R rest b8 lc (nmJ j))
include g
theorem c8p:m9 b (kP P b l R b8 lc (nmJ j)) where
 wg:=g.G.fb.c7b.h
 ci:=g.G.fb.c7c.h
 li:=g.G.fb.line.h
 Il:=g.G.fb.c7d.h
 ab:=g.G.fb.c7e.h
 Im:=g.G.fb.c7f.h
 xa:=g.G.fb.join.h
 at_:=g.G.fb.atom.h
 fn:=kP.fn g
 es:=g.G.fb.Wo.2
 NQ:=g.G.fb.Wp.2
 size a h1 h2:=kP.up (fO.up (cU.jQ (a5P g.hb g.G.fb _ a (a8 _) U U) (a5u a) λr h=>h.size I a I) I) I
 same a c h1 h2:=kP.up (fO.up (cU.jQ (a5Q g.hb g.G.fb g.gm.st _ a c (a8 _) U U) (a5v a c) λr h=>h.a5s I a c I) I) I
theorem c8q(hw:HB b GH F5)(q4:b.ext sy=0/\b.pure sy=true)(BB:b.ext tD=0/\b.pure tD=true)(AX:lc.length=5)(jy:∀J,bt J (b.bh+1000) (.aj lc)=some (l.A true)):a6r b (kP P b l R b8 lc (nmJ j)) l R rest lc (nmJ j) where
 hR:=g.hR
 cb:=c8p g
 made:=g.G.fb.Made.h
 Ex:=hw.h
 q4:=q4
 xJ:=g.eh.a6l.2
 Ol:=g.eh.a6m.2
 a6s:=g.G.fb.a5M.2
 a6t:=g.G.fb.OR.2
 BB:=BB
 OZ:=kP.up (.inl (.inr (.inr (.inl ⟨rfl,rfl,rfl⟩)))) I
 WL:=kP.up (.inl (.inr (.inr (.inr (.inl ⟨rfl,rfl,rfl⟩))))) I
 AX:=AX
 jy:=jy
 a6u L m:=.inl (.inl ⟨rfl,L,m,rfl,rfl⟩)
 Wh L m hm:=.inl (.inr ⟨rfl,L,m,hm,rfl,rfl⟩)
 xd L m:=by
  obtain⟨ae,au,h,hf⟩:=m.ex;exact kP.up (fO.up (cU.jQ (c7y (b8:=b8) g.G g.hb h m.le m.ne) (c6s _) λr ak=>ak.xd I _ I) I) I
 wW f hf:=kP.up (fO.up ((WD g.G g.hl g.hb g.gm).b6 f hf) I) I
theorem boxesBack_E(hw:HB b GH F5)(q4:b.ext sy=0/\b.pure sy=true)(BB:b.ext tD=0/\b.pure tD=true)(AX:lc.length=5)(jy:∀J,bt J (b.bh+1000) (.aj lc)=some (l.A true))(hf:b.funcs.get a1m=some gK){cI:AV}{code:List Nat}(aq:∀τ,Vw τ none cI (code.map uB))(mg:cI.cells=[cI]/\cI.val=true)(hlen:code.length<2^62)(ve:∀x∈code,x<256):er P b a1m [cI,.b j] (.b true):=λb2=>
 n0 g.hb (kP.ok g) _ hf I I I I (ka _).1 (ka _).2 (c8h (c8q g hw q4 BB AX jy) aq mg hlen ve _ I) b2
end
structure a6w(b:bJ):Prop where
 visit:HB b yb x_
 walk:HB b C9 C5
 a6x:HB b wG Ai
 c8r:HB b Mo LP
 c8s:HB b Mp LQ
 c8t:HB b Sr R9
 sorted:HB b Gv Me
 c8u:HB b Gx Gu
 c8v:HB b qy wF
 c8w:HB b Gw Gt
 Collect:HB b C_ C6
 c8x:HB b An Ak
 c8y:HB b Da C7
 c8z:HB b tB tz
 c8A:HB b sx sw
 Br:HB b Ao Al
 c8B:HB b yc ya
 c8C:HB b Mj L_
 Functions:HB b Sq Sn
 c8D:HB b Mk Mf
 c8E:HB b Ml Md
 c8F:HB b Gy Gs
 c8G:HB b Mm Mh
 c8H:HB b Ap Aj
 a6y:lP b mZ LB
 a6z:lP b Am Sd
 a6A:lP b iX Sp
 a6B:lP b Dc L4
 a6C:lP b Db LR
 c8I:lP b pN LL
 named:b.ext oN=0/\b.pure oN=true
 c8J:b.ext mo=0/\b.pure mo=true
 c8K:b.ext Mn=2
 rows:b.nM SE=some (.aj MO)
section
variable {P:Program}{b:bJ}(hb:lb P b)(cR:a6w b)(hn:∀a:PF,er P b oN [uB (u4 a.op),.s a.aW] (.b true))
include hb cR
theorem c8L(x y:fQ):er P b iX [dB x,dB y] (.i .i64 (rz x y)):=λb2=>
 n0 hb (cU.ok (db:=.nilsl) (b8:=.nilsl)) _ cR.a6A.1 I I I I (qv _ _).1 (qv _ _).2 (c7I cR.c8E.h cR.c8F.h cR.c8K cR.c8G.h cR.c8H.h x y _ I) b2
theorem c8M(a:PF):er P b Am [a.aI.A true] (.i .u32 (Int.ofNat (ys a.aI))):=λb2=>
 b5b hb (cU.ok (db:=.nilsl) (b8:=.nilsl)) _ cR.a6z.1 I I I I (qv _ _).1 (qv _ _).2 (b9e cR.visit.h cR.a6x.h cR.walk.h _ a.kN _ I) b2
theorem U9:Wd b (cU P b .nilsl .nilsl):=⟨VI.go cU.fn ⟨cR.sorted.h,cR.c8u.h,cR.c8w.h,cR.Collect.h,cR.c8x.h,cR.c8v.h,cR.c8y.h,cR.c8z.h,cR.c8A.h,cR.Br.h,cR.c8B.h,λx y=>cU.jQ (c8L hb cR x y) (c6r x y) λr h=>h.Eb I x y I,cR.a6A.2⟩,cR.c8D.h,cR.visit.h,cR.a6x.h,cR.walk.h,cR.c8C.h,cR.Functions.h⟩
theorem c8N(a:PF){k:Nat}(aB:¬k=2):er P b Dc [uB k,a.aI.A true] (.b true):=λb2=>by
 rw[oa];exact n0 hb (cU.ok (db:=.nilsl) (b8:=.nilsl)) _ cR.a6B.1 I I I I (ka _).1 (ka _).2 (c6a cU.fn (U9 hb cR) a k aB _ I) b2
include hn
theorem WO(a:PF)(ha:a.low):er P b mZ [a.aI.A true] (.b true):=λb2=>by
 rw[oa];exact n0 hb (cU.ok (db:=.nilsl) (b8:=.nilsl)) _ cR.a6y.1 I I I I (ka _).1 (ka _).2 (c5U ⟨cU.fn,cR.c8r.h,cR.c8s.h,cR.c8t.h,cR.named,λa=>cU.jQ (hn a) (vF b_) λr h=>h.vE b_,cR.rows⟩ a ha _ I) b2
theorem a6D(l:hz)(ho:l.ops=254)(aB:¬l.kind=2)(nC:∀J,bt J (b.bh+1000) (l.A true)=some (l.A true))(Bt:er P b mo [l.A true] (.b true))(a:PF)(ha:a.low):er P b pN [l.A true,a.aI.A true] (.b true):=by
 have hd:a.aI.dep<=200:=by rw[PF.kb];have:=ha.1;omega
 have ht:∀ {g:Nat} {aO:List AV},g∈OM->er P b g aO (.b true)->cU P b .nilsl .nilsl g aO (.b true):=λ{g aO} hg h=>cU.jQ h (vF hg) λr h=>h.vE hg;have h1:er P b Db [l.A true,a.aI.A true] (.b true):=λb2=>by
  have hR:=ht b_ (WO hb cR hn a ha);have hA:=ht b_ (c8N hb cR a aB);have cv:cU P b .nilsl .nilsl _ _ _:=cU.jQ (c8M hb cR a) (c6q a) λr h=>h.ops I a I;rw[oa] at hR hA cv ⊢;exact n0 hb (cU.ok (db:=.nilsl) (b8:=.nilsl)) _ cR.a6C.1 I I I I (ka _).1 (ka _).2 (c6b cU.fn a hd l ho hR cR.a6y.2 cv cR.a6z.2 hA cR.a6B.2 _ I) b2
 intro b2;have h1:=ht b_ h1;rw[oa] at h1 ⊢;exact n0 hb (cU.ok (db:=.nilsl) (b8:=.nilsl)) _ cR.c8I.1 I I I I (ka _).1 (ka _).2 (c6e cU.fn a hd l nC (ht b_ Bt) cR.c8J h1 cR.a6C.2 _ I) b2
end
def c8O{P:Program}{b:bJ}(h1:er P b oN [uB 1,.s [80]] (.b true))(h2:er P b oN [uB 1,.s [81]] (.b true))(h3:er P b oN [uB 0,.s []] (.b true))(a:PF):er P b oN [uB (u4 a.op),.s a.aW] (.b true):=by
 cases a with
 | gb q=>cases q;exact h1;exact h2
 |cC=>exact h3
 |neg a=>exact h3
 |bin k a c=>
  have:u4 (4+k.val)=0:=by
   obtain⟨k,aB⟩:=k;have:k=0\/k=1\/k=2:=by omega
   rcases this with rfl|rfl|rfl<;>rfl
  show er P b oN [uB (u4 (4+k.val)),.s []] (.b true);rw[this];exact h3
end
end Go.Lyc
end
