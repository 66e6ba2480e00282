/-
  What functions of the program compute: walks, part 2. No conditions: definitions and laws.
-/
import Derived.Test.YtbaolbofgleabaaGreatDoorW1
set_option linter.all false
noncomputable section
namespace Go.Lyc
def HY:=@List.sum_append
def yG:=@List.take_append_of_le_length
def A6:=@Nat.mod_lt
def a2F:=@Nat.eq_zero_or_pos
def T4:=@List.eq_nil_or_concat
def T5:=@List.concat_eq_append
def w0:=@List.length_eq_zero_iff
def HZ:=@List.tail_append_of_ne_nil
def sM:=@List.take_of_length_le
def A7:=@List.length_tail
def A8:=@Nat.add_sub_cancel
def T6:=@Nat.le_of_eq
def a2G:=@Nat.add_right_comm
def Nr:=@List.length_singleton
def T7:=@List.set_set
def T8:=@List.foldl_append
def a2H:=@List.getElem_set_self
set_option maxHeartbeats 0
set_option maxRecDepth 100000
variable [Tok][TokOk]
open Go.RowKit Go.Lyc.T
section
attribute [local irreducible] bM bo da dy bb
section
variable {b:bJ}{K:Nat->List AV->AV->Prop}(hfn:∀g aO r bR,K g aO r->K g aO bR->r=bR)
include hfn
theorem c1n(hh:a2B b K){r:bw}{F:Fm}{gs:List dC}(aa:HU r gs)(ki:gs.length<2^10)(HV:∀g∈gs,g.hyps.length<2^10){cB:AV}{at_ e:Nat}(ct:T0 b r gs)(wj:∀J,bt J (b.bh+1000) r.A=some r.A)
  (jo:∀p∈o6 r F gs,p.1.dep<=200/\p.2.dep<=200) (gi:e≠0->at_<(A2 r gs).length) (cl:K rn [slA true (some 8) ((o6 r F gs).map n9),.aj [.nilsl,.nilsl]] (.bg [.aj [cB,.nilsl],ag at_,ag e]))
  (A4:AV.eqb (b.aF K).bh (.aj [cB,.nilsl]) (.aj [cB,.nilsl])=true) (c1o:∀J,freeze J 0 998 cB=some cB) (bE:∀p∈r.cg,p.closed=false) (hR:K ym [r.A] (.b true)) (c1p:∀f∈vk F gs,f.dep<=200/\K mZ [f.A true] (.b true)) (body:b5) (hb:Gh.body=some body):
  cQ (b.aF K) [] [.inl 7] Gh.ntmps body (gy [r.A,.aj (br F),hB gs]) ⟨.nil,0⟩ (TO 7 Gh.results (if e=0 then .bg [.aj [cB,.nilsl],sK 0 0 0,ag 0] else .bg [.aj [.nilsl,.nilsl],AW ((A2 r gs).getD at_ (0,0)),ag 80])):=by
 cbv at hb
 cases hb;refine cQ.args λz=>?_;have H:Has (⟨.nil,0⟩:ad) []:=Has.nil;have lG:=aa.len;refine cQ.j1 ?_;refine af ?_;refine W.bN (c:=r.A.cells) H I I I I I I λτ cy H bl=>?_;refine af ?_;refine W.bN (c:=br F) H cy I I I I I λa5 c6 H bj=>?_;refine af ?_;refine W.b6 (c:=[.nilsl,.nilsl]) H c6 I I I λbu dx H k3=>?_;refine af ?_;refine W.b6 (c:=[.i .u8 0,ag 0,ag 0]) H dx I I I λb3 eC H bI=>?_;refine af ?_;refine W.b6 (c:=[ag 0]) H eC I I I λcW gw H cP=>?_;refine af ?_;refine⟨rfl,?_⟩;refine cQ.j1 ?_;refine af ?_;refine W.et hfn hh.hZ hR I I I (mS (wj _)) ?_;refine af ?_;refine⟨rfl,?_⟩;refine cQ.wC ?_;refine cQ.j1 ?_;refine af ?_;refine W.bS I I I (c0V hh.dX gw) λv dr ⟨ar,c9,gR,h5,Hp⟩=>⟨_,ar,?_⟩
 have H:=H.aD Hp.2;refine af ?_;refine⟨rfl,?_⟩;refine cQ.block ?_;refine cQ.iter (k:=7) (vk F gs).length (λi W τ=>∀c,¬W c) (λi _ _ args=>∃f,(vk F gs)[i]? =some f/\args=[.aj (br f)]) (λ_=>False) h5 I hh.a2C.e I (λi W τ args ⟨f,_,e⟩=>by rw[e];rfl) (λi W τ ax h _ _=>h) (λ_ h=>h) (λ_ h=>h.elim) (c0W hh.a2C c9 gR _ ⟨id,id⟩ U λg hg=>by have:=aa.hl g hg;omega) ?_ ?_
 ·rintro i V τ args hi ⟨f,hf,rfl⟩ aL tc S9 uK bA;obtain⟨hd,de⟩:=c1p f (eY hf);refine ah.norm [(22,.aj (br f))] ⟨rfl,trivial⟩ λg=>?_;have H:Has τ []:=Has.nil;refine af ?_;refine W.kk (c:=br f) H I I I I I I I λfu mr H ca=>?_;refine af ?_;refine⟨rfl,⟨U,ca⟩,λfG ly fP aL=>?_⟩;have H:Has fG [(τ.next,br f)]:=Has.nil.cons (fP _ _ U (H.qx)) ay;refine af ?_;refine W.et hfn hh.c0P de I I I (mS ?_) ?_
  ·have:=Fm.snap fG true _ f (b.bh+1000) (a8 _) U;rw[j4] at this ⊢;exact this
  refine af ?_;exact⟨rfl,V,aL,a8 _,λ_ _ _ h=>h,λc aa=>.inl aa⟩
 ·intro V τ aL eH jj bA kO;refine⟨rfl,rfl,?_⟩;have vb:=H.aD λi o h=>bA i o id h;have H:Has τ [(4,[ag 0]),(3,[.i .u8 0,ag 0,ag 0]),(2,[.nilsl,.nilsl]),(1,br F),(0,r.A.cells)]:=vb;clear vb;have ny:(hB gs).cells=[hB gs]:=by cases gs<;>rfl
  have ri:(hB gs).val=true:=by cases gs<;>rfl
  refine ah.norm [(2,hB gs),(3,aw 0),(4,aw 1),(6,aw 2),(7,aw 3),(8,aw 4)] dm λg=>?_;refine af ?_;refine W.gx I I (ry I I I (ry I I I (ry I (by rw[ny,ri];rfl) (by rw[ny];rfl) I))) ?_;generalize aS:τ.next=q at *;refine W.bN (c:=my r F gs .nilsl .nilsl) H aS I I I I I λfu mr H ca=>?_;refine af ?_;refine W.bV (c:=[.f (.func yj) [aw q] [],.f (.func yk) [aw q] [],.f (.func yl) [aw q] []]) H I I I I λfG ly H fP=>?_;have hw:Sl fG none (.ao fu.next 0 3 none (some 3)) [.f (.func yj) [aw q] [],.f (.func yk) [aw q] [],.f (.func yl) [aw q] []]:=.ao fu.next (some 3) [.f (.func yj) [aw q] [],.f (.func yk) [aw q] [],.f (.func yl) [aw q] []] [] (H.qx) (λy hy=>by
   rcases c2.1 hy with rfl|hy
   ·rfl
   ·rcases c2.1 hy with rfl|hy
    ·rfl
    ·rw[cA.1 hy];rfl) (.inr I)
  have a2I:=fP _ _ (ca _ _ eH);refine af ?_;show bo _ _ _ _ _ _ _ _;refine ah.each 3 (λj f τ=>(∃A9,τ.get q=some (.cells (my r F gs A9 .nilsl))/\(j<=1->A9= .nilsl)/\(2<=j->e=0/\A9=cB))/\(∀i o,i≠q->fG.get i=some o->τ.get i=some o)/\fG.next<=τ.next/\sat [(6,aw 2),(7,aw 3),(8,aw 4),(10,aw q),(39,.ao fu.next 0 3 none (some 3))] f) U ⟨⟨.nilsl,H.x7,λ_=>rfl,λh=>by omega⟩,λ_ _ _ h=>h,a8 _,dm⟩ I I (λj g ax aA aL hi hm=>?_) (λg ax aL hi=>?_)
  ·obtain⟨⟨A9,lg,jX,lx⟩,o7,m5,gR,fN,ga,nB,c1q,_⟩:=aL;refine ah.norm [(6,aw 2),(7,aw 3),(8,aw 4),(10,aw q),(39,.ao fu.next 0 3 none (some 3)),(41,ag j),(40,ag 3)] ⟨gR,fN,ga,nB,c1q,hi,hm,trivial⟩ λg=>?_;have T3:=(hw.aD (τ:=ax) λi o hi=>o7 i o (by cases hi;omega)).vw;have H:Has ax [(4,[ag 0]),(3,[.i .u8 0,ag 0,ag 0]),(2,[.nilsl,.nilsl])]:=((Has.nil.cons (o7 _ _ U (H.Lq)) ay).cons (o7 _ _ U (H.CX)) ay).cons (o7 _ _ U (H.Ag)) ay;have h3:[AV.f (.func yj) [aw q] [],.f (.func yk) [aw q] [],.f (.func yl) [aw q] []].length=3:=rfl;have eI:=o7 _ _ U a2I;refine af ?_;rcases(show j=0\/j=1\/j=2 by omega) with rfl|rfl|rfl
   ·obtain rfl:=jX U;refine W.bS I I I (c1c hh.c0M lg aa) λv a5 ⟨ar,M⟩=>⟨_,ar,?_⟩
    have H:=H.aD M.2;have ji:=M.1;refine af ?_;refine W.b6 H I I I I λbu dx H k3=>?_;refine W.st H 0 I I I I I I λb3 eC H bI=>?_;refine af ?_;exact⟨rfl,rfl,⟨.nilsl,bI _ _ (by have:=ad.a9 lg;omega) (k3 _ _ (M.2 _ _ lg)),λ_=>rfl,λh=>by omega⟩,λi o hi ho=>bI _ _ (by have:=ad.a9 (o7 _ _ hi ho);omega) (k3 _ _ (M.2 _ _ (o7 _ _ hi ho))),U,dm⟩
   ·obtain rfl:=jX U;refine W.bS I I I (c1e hfn hh.HJ hh.c0N hh.c0O lg aa ki HV jo I gi cl) λv a5 ⟨ar,ji,bj⟩=>?_;have H:Has a5 [(4,[ag 0]),(3,[.i .u8 0,ag 0,ag 0]),(2,[.nilsl,.nilsl])]:=((Has.nil.cons (bj _ _ U (H.Ag)) ay).cons (bj _ _ U (H.x7)) ay).cons (bj _ _ U (H.qx)) ay;have c1r:=bj _ _ U eI;by_cases he:e=0
    ·rw[if_pos he] at ar;refine⟨_,ar.1,?_⟩;have a2J:=ar.2;refine af ?_;refine W.b6 H I I I I λbu dx H k3=>?_;refine W.st H 0 I I I I I I λb3 eC H bI=>?_;refine af ?_;exact⟨rfl,rfl,⟨cB,bI _ _ (by have:=ad.a9 a2J;omega) (k3 _ _ a2J),λh=>by omega,λ_=>⟨he,rfl⟩⟩,λi o hi ho=>bI _ _ (by have:=ad.a9 (o7 _ _ hi ho);omega) (k3 _ _ (bj _ _ hi (o7 _ _ hi ho))),U,dm⟩
    ·rw[if_neg he] at ar;rw[if_neg he];refine⟨_,ar.1,?_⟩;generalize(A2 r gs).getD at_ (0,0)=eh;refine af ?_;refine W.b6 H I I I I λbu dx H k3=>?_;refine W.st H 0 I I I I I I λb3 eC H bI=>?_;refine af ?_;refine W.st H 3 I I I I I I λcW gw H cP=>?_;refine af ?_;refine W.st H 2 I I I I I I λdr h5 H dI=>?_;refine af ?_;refine W.st H 1 I I I I I I λeT j0 H fZ=>?_;refine af ?_;have H0:=fZ _ _ U (dI _ _ U (cP _ _ U (bI _ _ U (k3 _ _ c1r))));have cq:=(hK (bF:=.dead) H0).2;refine ah.ret ?_;exact⟨rfl,H0,_,S6 (gl I (cq _ _ U (H.CX)) I) (gl I (cq _ _ U (H.Ag)) I) (gl I (cq _ _ U (H.x7)) I),a2A I⟩
   ·obtain⟨rfl,rfl⟩:=lx U;refine W.bS I I I (c1m hh.TQ hh.iU lg ct A4 (by have:=aa.lt;omega) lG bE) λv a5 ⟨ar,M⟩=>⟨_,ar,?_⟩
    have H:=H.aD M.2;have ji:=M.1;refine af ?_;refine W.b6 H I I I I λbu dx H k3=>?_;refine W.st H 0 I I I I I I λb3 eC H bI=>?_;refine af ?_;exact⟨rfl,rfl,⟨A9,bI _ _ (by have:=ad.a9 lg;omega) (k3 _ _ (M.2 _ _ lg)),λh=>by omega,λ_=>⟨rfl,rfl⟩⟩,λi o hi ho=>bI _ _ (by have:=ad.a9 (o7 _ _ hi ho);omega) (k3 _ _ (M.2 _ _ (o7 _ _ hi ho))),U,dm⟩
  ·obtain⟨⟨A9,lg,jX,lx⟩,o7,m5,gR,fN,ga,nB,_⟩:=aL;obtain⟨rfl,rfl⟩:=lx U;show bo _ _ _ _ _ _ _ _;refine ah.norm [(6,aw 2),(7,aw 3),(8,aw 4),(10,aw q)] ⟨gR,fN,ga,nB,trivial⟩ λg=>?_;have H:Has ax [(4,[ag 0]),(3,[.i .u8 0,ag 0,ag 0]),(2,[.nilsl,.nilsl]),(q,my r F gs A9 .nilsl)]:=(((Has.nil.cons lg ay).cons (o7 _ _ U (H.Lq)) (by simp;omega)).cons (o7 _ _ U (H.CX)) (by simp;omega)).cons (o7 _ _ U (H.Ag)) (by simp;omega);have eI:=o7 _ _ U a2I;refine af ?_;refine W.st H 2 I I I I I I λcW gw H cP=>?_;refine af ?_;refine W.st H 1 I I I I I I λdr h5 H dI=>?_;refine af ?_;refine W.st H 0 I I I I I I λeT j0 H fZ=>?_;refine af ?_;have H0:=fZ _ _ U (dI _ _ U (cP _ _ U eI));have cq:=(hK (bF:=.dead) H0).2;refine ah.ret ?_;rw[if_pos I];exact⟨rfl,H0,_,S6 (gl I (cq _ _ U (H.Ag)) I) (gl I (cq _ _ U (H.x7)) I) (gl I (cq _ _ U (H.qx)) I),a2A (c1o _)⟩
end
end
inductive PF where
 |gb (q:Bool)
 |cC
 |neg (a:PF)
 |bin (k:Fin 3) (a b:PF)
 deriving DecidableEq
namespace PF
def op:PF->Nat
 | .gb _=>1
 | .cC=>2
 | .neg _=>3
 | .bin k _ _=>4+k.val
def aW:PF->List Nat
 | .gb q=>[cond q 81 80]
 |_=>[]
def subs:PF->List PF
 | .neg a=>[a]
 | .bin _ a b=>[a,b]
 |_=>[]
def aI:PF->Fm
 | .gb q=>.mk 1 [cond q 81 80] none none
 | .cC=>.mk 2 [] none none
 | .neg a=>.mk 3 [] none (some [a.aI])
 | .bin k a b=>.mk (4+k.val) [] none (some [a.aI,b.aI])
def dep:PF->Nat
 | .gb _=>1
 | .cC=>1
 | .neg a=>a.dep+1
 | .bin _ a b=>max a.dep b.dep+1
def ext{a b:PF}:a=b↔a.op=b.op/\a.aW=b.aW/\a.subs=b.subs:=by
 constructor
 ·rintro rfl;exact⟨rfl,rfl,rfl⟩
 ·intro⟨h1,h2,h3⟩;cases a with
  | gb q=>cases b with
   | gb oG=>cases q<;>cases oG<;>first|rfl|cases h2
   |bin k _ _=>exact absurd h1 (by show ¬ 1=4+k.val;omega)
   |_=>cases h1
  |cC=>cases b with
   |cC=>rfl
   |bin k _ _=>exact absurd h1 (by show ¬ 2=4+k.val;omega)
   |_=>cases h1
  |neg a=>cases b with
   |neg b=>cases h3;rfl
   |bin k _ _=>exact absurd h1 (by show ¬ 3=4+k.val;omega)
   |_=>cases h1
  |bin k a cF=>cases b with
   |bin fh b fq=>
    cases h3;have:k=fh:=Fin.ext (by have h1:4+k.val=4+fh.val:=h1;omega);rw[this]
   | gb _=>exact absurd h1 (by show ¬ 4+k.val=1;omega)
   |cC=>exact absurd h1 (by show ¬ 4+k.val=2;omega)
   |neg _=>exact absurd h1 (by show ¬ 4+k.val=3;omega)
def rC(a:PF):1<=a.op/\a.op<=6:=by
 cases a with
 |bin k _ _=>exact⟨by show 1<=4+k.val;omega,by show 4+k.val<=6;omega⟩
 |_=>exact⟨by simp[op],by simp[op]⟩
def a2K(a:PF):a.aI.op=a.op:=by cases a<;>rfl
def c1s(a:PF):a.aI.name=a.aW:=by cases a<;>rfl
def c1t(a:PF):a.aI.gW=none:=by cases a<;>rfl
theorem vm(a:PF):a.subs.length<=2:=by cases a<;>simp[subs]
theorem l9{a x:PF}(h:x∈a.subs):x.dep<a.dep:=by
 cases a with
 | gb _=>simp[subs] at h
 |cC=>simp[subs] at h
 |neg a=>rw[cA.1 h];exact mD _
 |bin k a b=>
  show x.dep<max a.dep b.dep+1;rcases c2.1 h with rfl|h
  ·omega
  ·rw[cA.1 h];omega
def Ns(a:PF):br a.aI=[uB a.op,.s a.aW,.nilsl,slA true (some 4) (a.subs.map λx=>.aj (br x.aI))]:=by
 cases a with
 | gb q=>rfl
 |cC=>rfl
 |neg a=>show[_,_,_,iW true (some [a.aI])]=_;show[_,_,_,AV.aV true (some 4) [a.aI.A true]]=_;rw[j4];rfl
 |bin k a b=>show[_,_,_,AV.aV true (some 4) [a.aI.A true,b.aI.A true]]=_;rw[j4,j4];rfl
end PF
abbrev fe(a:PF):List AV:=[uB a.op,.s a.aW,.nilsl,slA true (some 4) (a.subs.map λx=>.aj (br x.aI))]
def oa(a:PF):a.aI.A true= .aj (fe a):=by rw[j4,PF.Ns]
section
attribute [local irreducible] bM bo da dy bb
def Nt(l m:List Nat):binop .neq (.s l) (.s m)=some (.b (!decide (l=m))):=by
 show some (AV.b (!eqL l m))=_;cases he:eqL l m with
 |true=>rw[decide_eq_true ((qe l m).1 he)]
 |false=>rw[decide_eq_false λh=>by rw[(qe l m).2 h] at he;cases he]
abbrev j_(a:PF):AV:=slA true (some 4) (a.subs.map λx=>.aj (br x.aI))
def vn(a:PF)(h:a.aI.dep<=200){b:bJ}(τ:ad):bt τ (b.bh+1000) (.aj (br a.aI))=some (a.aI.A true):=by
 have:=Fm.snap τ true _ a.aI (b.bh+1000) (a8 _) U;rw[j4] at this ⊢;exact this
section
variable {b:bJ}{K:Nat->List AV->AV->Prop}(hfn:∀g aO r bR,K g aO r->K g aO bR->r=bR)
def DM{n:Nat}{c:gr}(hh:a3 (b.aF K) n c)(aa:c=Gr\/c=LK)(a:PF){J:ad}:
  bb (b.aF K) 0 (.f (.func n) [] []) [.aj (fe a)] J (λr τ=>r= .ok (.b false)/\cM J τ):=by
 have ho:=a.rC;have H:Has J []:=Has.nil;rcases aa with rfl|rfl
 ·refine W.code hh.e hh.p hh.f (by cbv) I I I λz=>?_;refine af ?_;refine W.bN (c:=fe a) H I I I I I I λτ hn H bl=>?_;refine af ?_;exact ah.ret ⟨rfl,rfl,U,bl⟩
 ·refine W.code hh.e hh.p hh.f (by cbv) I I I λz=>?_;refine af ?_;refine W.bN (c:=fe a) H I I I I I I λτ hn H bl=>?_;refine af ?_;exact ah.ret ⟨rfl,rfl,U,bl⟩
include hfn
theorem c1u(a c:PF)(ha:a.aI.dep<=200/\c.aI.dep<=200)(aS:a3 (b.aF K) Ss Gr)(e:b.ext yn=0/\b.pure yn=true)(de:∀x∈a.subs,∀y∈c.subs,K yn [x.aI.A true,y.aI.A true,.nilsl] (.b (decide (x=y))))(hd:∀x∈a.subs,x.aI.dep<=200)(yH:∀x∈c.subs,x.aI.dep<=200)(body:b5)(hb:Mg.body=some body):
  ah (b.aF K) Mg.ntmps body (gy [.aj (fe a),.aj (fe c),.nilsl]) ⟨.nil,0⟩ (oU 6 (.b (decide (a=c)))):=by
 cbv at hb
 cases hb;refine W.m1 λz H=>?_;have a2L:=a.rC;have H2:=c.rC;have H3:=a.vm;have lU:=c.vm;refine af ?_;refine W.bN (c:=fe a) H I I I I I I λτ cy H bl=>?_;refine af ?_;refine W.bN (c:=fe c) H cy I I I I I λa5 c6 H bj=>?_;by_cases h1:a.op=c.op
 ·by_cases h2:a.subs.length=c.subs.length
  ·by_cases h3:a.aW=c.aW
   ·have fU:(a=c)↔a.subs=c.subs:=by rw[PF.ext];simp[h1,h3]
    refine af ?_;refine W.bin (v:=.b false) I I I I ((Nt _ _).trans (by rw[decide_eq_true h3];rfl)) ?_;refine af ?_;show bo _ _ _ _ _ _ _ _;refine ah.each 0 (λj f ax=>cM a5 ax/\sat [(2,.nilsl),(3,aw 0),(4,aw 1)] f) U ⟨⟨a8 _,λ_ _ h=>h⟩,rfl,rfl,(by show aw _=aw _;rfl),trivial⟩ I I (λj g ax aA aL hi hm=>by omega) (λg ax aL hi=>?_);obtain⟨M,bz,bY,cf,_⟩:=aL;refine ah.norm [(2,.nilsl),(3,aw 0),(4,aw 1)] ⟨bz,bY,cf,trivial⟩ λg=>?_;have H:Has ax [(1,fe c),(0,fe a)]:=H.aD M.2;refine af ?_;refine W.bS I I I (DM aS (.inl I) a) λr bu ⟨ar,ey⟩=>⟨_,ar,?_⟩
    have H:=H.aD ey.2;refine af ?_;show bo _ _ _ _ _ _ _ _;refine ah.each a.subs.length (λj f ax=>(∀i (h:i<a.subs.length) (h':i<c.subs.length),i<j->a.subs[i]=c.subs[i])/\cM bu ax/\sat [(2,.nilsl),(4,aw 1),(78,j_ a)] f) U ⟨λi _ _ h=>by omega,⟨a8 _,λ_ _ h=>h⟩,dm⟩ I I (λj g ax aA aL hi hm=>?_) (λg ax aL hi=>?_)
    ·obtain⟨hall,M,bz,cf,A_,_⟩:=aL;refine ah.norm [(2,.nilsl),(4,aw 1),(78,j_ a),(80,ag j),(79,ag a.subs.length)] ⟨bz,cf,A_,hi,hm,trivial⟩ λg=>?_;have H:=H.aD M.2;refine af ?_;refine W.b6 H I I I I λb3 eC H bI=>?_;refine af ?_;refine W.st (bc:=br (a.subs[j]).aI) H 0 I I I I I I λcW gw H cP=>?_;refine af ?_;refine W.et hfn e (de _ (bC aA) _ (bC (show j<c.subs.length by omega))) I I I (CN (vn _ (hd _ (bC aA)) _) (vn _ (yH _ (bC _)) _) I) ?_;by_cases iI:a.subs[j]=c.subs[j]'U
     ·rw[decide_eq_true iI];refine af ?_;refine⟨rfl,rfl,λi h h' hlt=>?_,⟨by have:=M.1;omega,λi o h=>cP _ _ (by have:=ad.a9 (M.2 _ _ h);omega) (bI _ _ (M.2 _ _ h))⟩,dm⟩;by_cases iK:i<j
      ·exact hall i h h' iK
      ·obtain rfl:i=j:=by omega
       exact iI
     ·rw[decide_eq_false iI,decide_eq_false (show ¬a=c from λh=>iI (by subst h;rfl))];refine af ?_;refine ah.ret ?_;exact⟨rfl,rfl⟩
    ·obtain⟨hall,_⟩:=aL;refine ah.norm [] trivial λg=>?_;rw[decide_eq_true (fU.2 (xr h2 λi h h'=>hall i h h' h))];refine af ?_;refine ah.ret ?_;exact⟨rfl,rfl⟩
   ·rw[decide_eq_false (show ¬a=c from λh=>h3 (PF.ext.1 h).2.1)];refine af ?_;refine W.bin (v:=.b true) I I I I ((Nt _ _).trans (by rw[decide_eq_false h3];rfl)) ?_;refine af ?_;refine W.bS I I I (DM aS (.inl I) a) λr bu ⟨ar,ey⟩=>⟨_,ar,?_⟩
    refine af ?_;refine ah.ret ?_;exact⟨rfl,rfl⟩
  ·rw[decide_eq_false (show ¬a=c from λh=>h2 (by rw[h]))];refine af ?_;refine ah.ret ?_;exact⟨rfl,rfl⟩
 ·rw[decide_eq_false (show ¬a=c from λh=>h1 (by rw[h]))];refine af ?_;refine ah.ret ?_;exact⟨rfl,rfl⟩
theorem c1v(a c:PF)(ha:a.aI.dep<=200/\c.aI.dep<=200)(aS:a3 (b.aF K) a1l LK)(e:b.ext u3=0/\b.pure u3=true)(de:∀x∈a.subs,∀y∈c.subs,K u3 [x.aI.A true,y.aI.A true,.nilsl] (.b (decide (x=y))))(hd:∀x∈a.subs,x.aI.dep<=200)(yH:∀x∈c.subs,x.aI.dep<=200)(body:b5)(hb:LC.body=some body):
  ah (b.aF K) LC.ntmps body (gy [.aj (fe a),.aj (fe c),.nilsl]) ⟨.nil,0⟩ (oU 6 (.b (decide (a=c)))):=by
 cbv at hb
 cases hb;refine W.m1 λz H=>?_;have a2L:=a.rC;have H2:=c.rC;have H3:=a.vm;have lU:=c.vm;refine af ?_;refine W.bN (c:=fe a) H I I I I I I λτ cy H bl=>?_;refine af ?_;refine W.bN (c:=fe c) H cy I I I I I λa5 c6 H bj=>?_;by_cases h1:a.op=c.op
 ·by_cases h2:a.subs.length=c.subs.length
  ·by_cases h3:a.aW=c.aW
   ·have fU:(a=c)↔a.subs=c.subs:=by rw[PF.ext];simp[h1,h3]
    refine af ?_;refine W.bS I I I (DM aS (.inr I) a) λr a5 ⟨ar,M2⟩=>⟨_,ar,?_⟩
    have H:Has a5 [(1,fe c),(0,fe a)]:=H.aD M2.2;refine af ?_;refine W.bin (v:=.b false) I I I I ((Nt _ _).trans (by rw[decide_eq_true h3];rfl)) ?_;refine af ?_;show bo _ _ _ _ _ _ _ _;refine ah.each 0 (λj f ax=>cM a5 ax/\sat [(2,.nilsl),(3,aw 0),(4,aw 1)] f) U ⟨⟨a8 _,λ_ _ h=>h⟩,rfl,rfl,(by show aw _=aw _;rfl),trivial⟩ I I (λj g ax aA aL hi hm=>by omega) (λg ax aL hi=>?_);obtain⟨M,bz,bY,cf,_⟩:=aL;refine ah.norm [(2,.nilsl),(3,aw 0),(4,aw 1)] ⟨bz,bY,cf,trivial⟩ λg=>?_;have H:Has ax [(1,fe c),(0,fe a)]:=H.aD M.2;refine af ?_;refine W.bS I I I (DM aS (.inr I) a) λr bu ⟨ar,ey⟩=>⟨_,ar,?_⟩
    have H:=H.aD ey.2;refine af ?_;show bo _ _ _ _ _ _ _ _;refine ah.each a.subs.length (λj f ax=>(∀i (h:i<a.subs.length) (h':i<c.subs.length),i<j->a.subs[i]=c.subs[i])/\cM bu ax/\sat [(2,.nilsl),(4,aw 1),(78,j_ a)] f) U ⟨λi _ _ h=>by omega,⟨a8 _,λ_ _ h=>h⟩,dm⟩ I I (λj g ax aA aL hi hm=>?_) (λg ax aL hi=>?_)
    ·obtain⟨hall,M,bz,cf,A_,_⟩:=aL;refine ah.norm [(2,.nilsl),(4,aw 1),(78,j_ a),(80,ag j),(79,ag a.subs.length)] ⟨bz,cf,A_,hi,hm,trivial⟩ λg=>?_;have H:=H.aD M.2;refine af ?_;refine W.b6 H I I I I λb3 eC H bI=>?_;refine af ?_;refine W.st (bc:=br (a.subs[j]).aI) H 0 I I I I I I λcW gw H cP=>?_;refine af ?_;refine W.et hfn e (de _ (bC aA) _ (bC (show j<c.subs.length by omega))) I I I (CN (vn _ (hd _ (bC aA)) _) (vn _ (yH _ (bC _)) _) I) ?_;by_cases iI:a.subs[j]=c.subs[j]'U
     ·rw[decide_eq_true iI];refine af ?_;refine⟨rfl,rfl,λi h h' hlt=>?_,⟨by have:=M.1;omega,λi o h=>cP _ _ (by have:=ad.a9 (M.2 _ _ h);omega) (bI _ _ (M.2 _ _ h))⟩,dm⟩;by_cases iK:i<j
      ·exact hall i h h' iK
      ·obtain rfl:i=j:=by omega
       exact iI
     ·rw[decide_eq_false iI,decide_eq_false (show ¬a=c from λh=>iI (by subst h;rfl))];refine af ?_;refine ah.ret ?_;exact⟨rfl,rfl⟩
    ·obtain⟨hall,_⟩:=aL;refine ah.norm [] trivial λg=>?_;rw[decide_eq_true (fU.2 (xr h2 λi h h'=>hall i h h' h))];refine af ?_;refine ah.ret ?_;exact⟨rfl,rfl⟩
   ·rw[decide_eq_false (show ¬a=c from λh=>h3 (PF.ext.1 h).2.1)];refine af ?_;refine W.bS I I I (DM aS (.inr I) a) λr a5 ⟨ar,M2⟩=>⟨_,ar,?_⟩
    have H:Has a5 [(1,fe c),(0,fe a)]:=H.aD M2.2;refine af ?_;refine W.bin (v:=.b true) I I I I ((Nt _ _).trans (by rw[decide_eq_false h3];rfl)) ?_;refine af ?_;refine ah.ret ?_;exact⟨rfl,rfl⟩
  ·rw[decide_eq_false (show ¬a=c from λh=>h2 (by rw[h]))];refine af ?_;refine ah.ret ?_;exact⟨rfl,rfl⟩
 ·rw[decide_eq_false (show ¬a=c from λh=>h1 (by rw[h]))];refine af ?_;refine ah.ret ?_;exact⟨rfl,rfl⟩
theorem c1w(a c:PF)(hd:a.aI.dep<=200)(yH:c.aI.dep<=200)(Ba:b.ext mZ=0/\b.pure mZ=true)(hR:K mZ [a.aI.A true] (.b true))(Fj:K mZ [c.aI.A true] (.b true))(e:b.ext u3=0/\b.pure u3=true)(de:K u3 [a.aI.A true,c.aI.A true,.nilsl] (.b (decide (a=c))))(body:b5)(hb:Lr.body=some body):
  ah (b.aF K) Lr.ntmps body (gy [.aj (fe a),.aj (fe c)]) ⟨.nil,0⟩ (oU 4 (.b (decide (a=c)))):=by
 cbv at hb
 cases hb;refine W.m1 λz H=>?_;have al:∀a:PF,a.aI.dep<=200->∀τ,bt τ (b.bh+1000) (.aj (fe a))=some (a.aI.A true):=λa h τ=>by have:=vn a h (b:=b) τ;rwa[PF.Ns] at this
 refine af ?_;refine W.bN (c:=fe a) H I I I I I I λτ cy H bl=>?_;refine af ?_;refine W.bN (c:=fe c) H cy I I I I I λa5 c6 H bj=>?_;refine af ?_;refine W.et hfn Ba hR I I I (mS (al a hd _)) ?_;refine af ?_;refine W.et hfn Ba Fj I I I (mS (al c yH _)) ?_;refine af ?_;refine W.et hfn e de I I I (CN (al a hd _) (al c yH _) I) ?_;refine af ?_;refine ah.ret ?_;exact⟨rfl,rfl⟩
theorem c1x(l m:List PF)(hl:l.length<=2/\m.length<=2)(hd:∀x∈l,x.aI.dep<=200)(yH:∀x∈m,x.aI.dep<=200)(e:b.ext u0=0/\b.pure u0=true)(de:∀x∈l,∀y∈m,K u0 [x.aI.A true,y.aI.A true] (.b (decide (x=y))))(body:b5)(hb:LD.body=some body):
  ah (b.aF K) LD.ntmps body (gy [slA true (some 4) (l.map λx=>.aj (br x.aI)),slA true (some 4) (m.map λx=>.aj (br x.aI))]) ⟨.nil,0⟩ (oU 4 (.b (decide (l=m)))):=by
 cbv at hb
 cases hb;refine W.m1 λz H=>?_;by_cases FI:l.length=m.length
 ·refine af ?_;refine ah.block ?_;refine ah.loop (λn f τ=>∃j,j+n=l.length/\(∀i (h:i<l.length) (h':i<m.length),i<j->l[i]=m[i])/\sat [(0,slA true (some 4) (l.map λx=>.aj (br x.aI))),(1,slA true (some 4) (m.map λx=>.aj (br x.aI))),(5,ag j)] f) ?_ l.length ⟨0,U,λ_ _ _ h=>by omega,dm⟩;rintro n f τ ⟨j,xK,hall,al⟩;refine ah.norm _ al λz=>?_;clear al;have H:Has τ []:=Has.nil;by_cases hn:j<l.length
  ·obtain⟨n,rfl⟩:∃k,n=k+1:=⟨n-1,U⟩
   refine af ?_;refine W.et hfn e (de _ (bC hn) _ (bC (show j<m.length by omega))) I I I (mT (vn _ (hd _ (bC hn)) _) (vn _ (yH _ (bC _)) _)) ?_;by_cases iI:l[j]=m[j]'U
   ·rw[decide_eq_true iI];refine af ?_;refine⟨n,U,j+1,U,λi h h' hlt=>?_,dm⟩;by_cases iK:i<j
    ·exact hall i h h' iK
    ·obtain rfl:i=j:=by omega
     exact iI
   ·rw[decide_eq_false iI,decide_eq_false (show ¬l=m from λh=>iI (by subst h;rfl))];refine af ?_;refine ah.ret ?_;exact⟨rfl,rfl⟩
  ·obtain rfl:n=0:=by omega
   refine af ?_;refine ah.exit ?_;show bo _ _ _ _ _ _ _ _;refine ah.norm [] trivial λg=>?_;rw[decide_eq_true (xr FI λi h h'=>hall i h h' U)];refine af ?_;refine ah.ret ?_;exact⟨rfl,rfl⟩
 ·rw[decide_eq_false (show ¬l=m from λh=>FI (by rw[h]))];refine af ?_;refine ah.ret ?_;exact⟨rfl,rfl⟩
theorem c1y(a c:PF)(c1z:b.ext wH=0/\b.pure wH=true)(ix:K wH [.nilsl,.nilsl] (.b true))(e:b.ext Aq=0/\b.pure Aq=true)(de:K Aq [j_ a,j_ c] (.b (decide (a.subs=c.subs))))(jo:∀τ,bt τ (b.bh+1000) (j_ a)=some (j_ a))(c1A:∀τ,bt τ (b.bh+1000) (j_ c)=some (j_ c))(body:b5)(hb:Ls.body=some body):
  ah (b.aF K) Ls.ntmps body (gy [.aj (fe a),.aj (fe c)]) ⟨.nil,0⟩ (oU 4 (.b (decide (a=c)))):=by
 cbv at hb
 cases hb;refine W.m1 λz H=>?_;have a2L:=a.rC;have H2:=c.rC;refine af ?_;refine W.bN (c:=fe a) H I I I I I I λτ cy H bl=>?_;refine af ?_;refine W.bN (c:=fe c) H cy I I I I I λa5 c6 H bj=>?_;by_cases h1:a.op=c.op
 ·by_cases h3:a.aW=c.aW
  ·have fU:(a=c)↔a.subs=c.subs:=by rw[PF.ext];simp[h1,h3]
   refine af ?_;refine W.bin (v:=.b true) I I I I ((yD _ _).trans (by rw[decide_eq_true h3])) ?_;refine af ?_;refine W.et hfn c1z ix I I I (mT I I) ?_;refine af ?_;refine W.et hfn e de I I I (mT (jo _) (c1A _)) ?_;rw[show decide (a=c)=decide (a.subs=c.subs) from by rw[decide_eq_decide];exact fU];refine af ?_;refine ah.ret ?_;exact⟨rfl,rfl⟩
  ·rw[decide_eq_false (show ¬a=c from λh=>h3 (by rw[h]))];refine af ?_;refine W.bin (v:=.b false) I I I I ((yD _ _).trans (by rw[decide_eq_false h3])) ?_;refine af ?_;refine ah.ret ?_;exact⟨rfl,rfl⟩
 ·rw[decide_eq_false (show ¬a=c from λh=>h1 (by rw[h]))];refine af ?_;refine ah.ret ?_;exact⟨rfl,rfl⟩
end
def PF.b1:PF->Nat
 | .neg a=>a.b1+1
 | .bin _ a b=>a.b1+b.b1+1
 |_=>1
def PF.a2M(a:PF):a.b1=1+(a.subs.map PF.b1).sum:=by
 cases a with
 |neg a=>show a.b1+1=1+(a.b1+0);omega
 |bin k a b=>show a.b1+b.b1+1=1+(a.b1+(b.b1+0));omega
 |_=>rfl
abbrev h_(F:Fm):List AV:=[uB F.op,.s F.name,jJ false F.gW,iW false F.gz]
def yI(F:Fm):F.A false= .aj (h_ F):=by unfold Fm.A;rw[Fm.kj]
def PF.T9(a:PF):h_ a.aI=[uB a.op,.s a.aW,.nilsl,slA false (some 4) (a.subs.map λx=>.aj (h_ x.aI))]:=by
 cases a with
 | gb q=>rfl
 |cC=>rfl
 |neg a=>show[_,_,_,AV.aV false (some 4) [a.aI.A false]]=_;rw[yI];rfl
 |bin k a b=>show[_,_,_,AV.aV false (some 4) [a.aI.A false,b.aI.A false]]=_;rw[yI,yI];rfl
abbrev vo(S F:Fm):AV:=.aj (br S++(br F++[.nilsl]))
def c1B(J:ad)(n:Nat)(F:Fm):freeze J 0 (n+2) (.aj (h_ F))=some (.aj (h_ F)):=by
 rw[freeze_succ];show(match mapO (freeze J 0 (n+1)) (h_ F) with|none=>none|some l=>some (AV.aj l))=_;have h1:freeze J 0 (n+1) (jJ false F.gW)=some (jJ false F.gW):=by cases F.gW<;>rfl
 have h2:freeze J 0 (n+1) (iW false F.gz)=some (iW false F.gz):=by cases F.gz<;>rfl
 rw[mapO_cons,mapO_cons,mapO_cons,mapO_cons,h1,h2];rfl
section
variable {b:bJ}{K:Nat->List AV->AV->Prop}(hfn:∀g aO r bR,K g aO r->K g aO bR->r=bR)
include hfn
theorem c1C(a:PF)(hd:∀x∈a.subs,x.aI.dep<=200)(cz:a.b1<2^62)(e:b.ext uZ=0/\b.pure uZ=true)(de:∀x∈a.subs,K uZ [x.aI.A true] (ag x.b1))(body:b5)(hb:Lv.body=some body):
  ah (b.aF K) Lv.ntmps body (gy [.aj (fe a)]) ⟨.nil,0⟩ (oU 2 (ag a.b1)):=by
 cbv at hb
 cases hb;refine W.m1 λz H=>?_;have H3:=a.vm;have a2N:=a.a2M;have hle:∀j,((a.subs.take j).map PF.b1).sum<=(a.subs.map PF.b1).sum:=λj=>by
  conv=>rhs;rw[<-wa j a.subs,gO,HY]
  exact PC _ _
 refine af ?_;refine W.bN (c:=fe a) H I I I I I I λτ cy H bl=>?_;refine af ?_;show bo _ _ _ _ _ _ _ _;refine ah.each a.subs.length (λj f ax=>cM τ ax/\sat [(1,aw 0),(3,ag (1+((a.subs.take j).map PF.b1).sum)),(7,j_ a)] f) U ⟨⟨a8 _,λ_ _ h=>h⟩,dm⟩ I I (λj g ax aA aL hi hm=>?_) (λg ax aL hi=>?_)
 ·obtain⟨M,bx,bY,fN,_⟩:=aL;refine ah.norm [(1,aw 0),(3,ag (1+((a.subs.take j).map PF.b1).sum)),(7,j_ a),(9,ag j),(8,ag a.subs.length)] ⟨bx,bY,fN,hi,hm,trivial⟩ λg=>?_;have H:=H.aD M.2;have h1:=hle (j+1);have cq:((a.subs.take (j+1)).map PF.b1).sum=((a.subs.take j).map PF.b1).sum+(a.subs[j]).b1:=by rw[jL aA,gO,HY];simp
  refine af ?_;refine W.b6 H I I I I λb3 eC H bI=>?_;refine af ?_;refine W.st (bc:=br (a.subs[j]).aI) H 0 I I I I I I λcW gw H cP=>?_;refine af ?_;refine W.et hfn e (de _ (bC aA)) I I I (mS (vn _ (hd _ (bC aA)) _)) ?_;refine af ?_;refine⟨rfl,rfl,⟨by have:=M.1;omega,λi o h=>cP _ _ (by have:=ad.a9 (M.2 _ _ h);omega) (bI _ _ (M.2 _ _ h))⟩,rfl,?_,dm⟩;show ag _=ag _;rw[cq,qO]
 ·obtain⟨M,bx,bY,_⟩:=aL;refine ah.norm [(3,ag (1+((a.subs.take a.subs.length).map PF.b1).sum))] ⟨bY,trivial⟩ λg=>?_;rw[jw,← a2N];refine af ?_;refine ah.ret ?_;exact⟨rfl,rfl⟩
theorem c1D(S F:Fm)(lg:∀τ,bt τ (b.bh+1000) (vo S F)=some (vo S F))(a:PF)(aS:a3 (b.aF K) Ss Gr)(hd:∀x∈a.subs,x.aI.dep<=200)(e:b.ext yd=0/\b.pure yd=true)(de:∀x∈a.subs,K yd [vo S F,x.aI.A true,.nilsl] (.bg [x.aI.A false,.b true]))(body:b5)(hb:Gq.body=some body):
  ah (b.aF K) Gq.ntmps body (gy [vo S F,.aj (fe a),.nilsl]) ⟨.nil,0⟩ (Dx Gq.results (.bg [a.aI.A false,.b true])):=by
 cbv at hb
 cases hb;refine W.m1 λz H=>?_;have H3:=a.vm;refine af ?_;refine W.bN (c:=br S++(br F++[.nilsl])) H I I I I I I λτ cy H bl=>?_;refine af ?_;refine W.bN (c:=fe a) H cy I I I I I λa5 c6 H bj=>?_;refine af ?_;refine W.b6 (c:=[.i .u8 0,.s [],.nilsl,.nilsl]) H c6 I I I λbu dx H k3=>?_;refine af ?_;refine W.kk (c:=[uB a.op,.s a.aW,.nilsl,.nilsl]) H dx I I I I I I λb3 eC H bI=>?_;refine af ?_;show bo _ _ _ _ _ _ _ _;refine ah.each 0 (λj f ax=>cM b3 ax/\sat [(2,.nilsl),(3,aw 0),(4,aw 1),(6,aw 2),(8,aw 3)] f) U ⟨⟨a8 _,λ_ _ h=>h⟩,dm⟩ I I (λj g ax aA aL hi hm=>by omega) (λg ax aL hi=>?_);obtain⟨M,bz,bY,cf,gR,ga,_⟩:=aL;refine ah.norm [(2,.nilsl),(3,aw 0),(4,aw 1),(6,aw 2),(8,aw 3)] ⟨bz,bY,cf,gR,ga,trivial⟩ λg=>?_;have H:=H.aD M.2;have cV:=M.1;refine af ?_;refine W.bS I I I (DM aS (.inl I) a) λr cW ⟨ar,gC⟩=>⟨_,ar,?_⟩
 have vb:=H.aD gC.2;have AP:=gC.1;have H:Has cW [(3,[uB a.op,.s a.aW,.nilsl,.nilsl]),(2,[.i .u8 0,.s [],.nilsl,.nilsl]),(1,fe a),(0,br S++(br F++[.nilsl]))]:=vb;clear vb;refine af ?_;show bo _ _ _ _ _ _ _ _;refine ah.each a.subs.length (λj f ax=>(∃w,ax.get 3=some (.cells [uB a.op,.s a.aW,.nilsl,w])/\Sl ax (some 4) w ((a.subs.take j).map λx=>.aj (h_ x.aI))/\(a.subs.take j=[]->w= .nilsl)/\∀o,w.at? =some o->cW.next<=o)/\(∀i o,i≠3->cW.get i=some o->ax.get i=some o)/\cW.next<=ax.next/\sat [(2,.nilsl),(3,aw 0),(6,aw 2),(8,aw 3),(59,j_ a)] f) U ⟨⟨.nilsl,H.qx,.nil,λ_=>rfl,λ_ h=>by cases h⟩,λ_ _ _ h=>h,a8 _,dm⟩ I I (λj g ax aA aL hi hm=>?_) (λg ax aL hi=>?_)
 ·obtain⟨⟨w,hg,hw,lH,pS⟩,bA,hn,bz,bY,gR,ga,TY,_⟩:=aL;refine ah.norm [(2,.nilsl),(3,aw 0),(6,aw 2),(8,aw 3),(59,j_ a),(61,ag j),(60,ag a.subs.length)] ⟨bz,bY,gR,ga,TY,hi,hm,trivial⟩ λg=>?_;have H:Has ax [(3,[uB a.op,.s a.aW,.nilsl,w]),(0,br S++(br F++[.nilsl]))]:=(Has.nil.cons (bA _ _ U (H.CX)) ay).cons hg ay;refine af ?_;refine W.b6 H I I I I λdr h5 H dI=>?_;refine af ?_;refine W.st (bc:=br (a.subs[j]).aI) H 0 I I I I I I λeT j0 H fZ=>?_;refine af ?_;have hx:=de _ (bC aA);rw[yI] at hx;refine W.et hfn e hx I I I (CN (lg _) (vn _ (hd _ (bC aA)) _) I) ?_;refine af ?_;refine W.b6 H I I I I λeV oD H j8=>?_;refine af ?_;refine W.st (bc:=h_ (a.subs[j]).aI) H 0 I I I I I I λhv oE H hH=>?_;have cG:∀i o,ax.get i=some o->hv.get i=some o:=λi o h=>hH _ _ (by have:=ad.a9 h;omega) (j8 _ _ (fZ _ _ (by have:=ad.a9 h;omega) (dI _ _ h)));have T_:=hw.aD (τ:=hv) λi o _=>cG i o;refine af ?_;refine W.pu (c:=h_ (a.subs[j]).aI) (.aj (h_ (a.subs[j]).aI)) T_ I I I I I I I I I (by rw[bB,g6];omega) λbn fu Bb H4 _ mr ca=>?_;have H:Has fu [(3,[uB a.op,.s a.aW,.nilsl,w])]:=Has.nil.cons (ca _ _ (λe=>by have:=pS _ e;omega) (cG _ _ hg)) ay;refine af ?_;refine W.st (bc:=[uB a.op,.s a.aW,.nilsl,bn]) H 0 I I I I Bb.jm (by rw[Bb.j3];rfl) λfG ly H fP=>?_;refine af ?_;refine⟨rfl,rfl,⟨bn,H.qx,?_,λh=>?_,λo ho=>by rw[H4] at ho;cases ho;omega⟩,λi o hi ho=>fP _ _ hi (ca _ _ (λe=>by have:=pS _ e;have:=ad.a9 ho;omega) (cG _ _ (bA _ _ hi ho))),U,dm⟩
  ·rw[jL aA,gO];exact Bb.aD λi o hi=>fP _ _ (λe=>by rw[H4] at hi;cases hi;omega)
  ·have:=congrArg List.length h;rw[g6,hr] at this;omega
 ·obtain⟨⟨w,hg,hw,lH,pS⟩,bA,hn,bz,bY,gR,ga,_⟩:=aL;refine ah.norm [(6,aw 2),(8,aw 3)] ⟨gR,ga,trivial⟩ λg=>?_;have H:Has ax [(3,[uB a.op,.s a.aW,.nilsl,w]),(2,[.i .u8 0,.s [],.nilsl,.nilsl])]:=(Has.nil.cons (bA _ _ U (H.x7)) ay).cons hg ay;rw[jw] at hw lH;refine af ?_;refine W.st (bc:=[uB a.op,.s a.aW,.nilsl,w]) H 1 I I I I I I λeT j0 H fZ=>?_;refine af ?_;refine ah.ret ?_;refine⟨rfl,_,jN (gl I (H.x7) I) (jn I),?_⟩;have Te:=hw.aD (τ:=eT) λi o hi=>fZ _ _ (by have:=pS i hi;omega);have h1:freeze eT 0 998 w=some (slA false (some 4) (a.subs.map λx=>.aj (h_ x.aI))):=by
   rw[Te.freeze (n:=997) (ba:=a.subs.map λx=>.aj (h_ x.aI)) (by
    have:=vd (f:=freeze eT 0 997) (g:=λx=>x) (l:=a.subs.map λx=>.aj (h_ x.aI)) (λy hy=>by obtain⟨x,_,rfl⟩:=cT.1 hy;exact c1B eT 995 x.aI);rwa[wJ] at this)]
   unfold DB;cases al:a.subs with
   |nil=>rw[al] at lH;rw[lH I];rfl
   |cons x l=>
    rw[al] at hw;generalize hx:(x::l).map (λx:PF=>AV.aj (h_ x.aI))=xs at hw;cases hw with
    |nil=>simp at hx
    |ao o cap xs rest hg aa aB=>subst hx;rfl
  have h2:freeze eT 0 999 (.aj [uB a.op,.s a.aW,.nilsl,w])=some (a.aI.A false):=by
   rw[freeze_succ];show(match mapO (freeze eT 0 998) [uB a.op,.s a.aW,.nilsl,w] with|none=>none|some l=>some (AV.aj l))=_;rw[mapO_cons,mapO_cons,mapO_cons,mapO_cons,h1,yI,PF.T9];rfl
  rw[freeze_succ];show(match mapO (freeze eT 0 999) [.aj [uB a.op,.s a.aW,.nilsl,w],.b true] with|none=>none|some l=>some (AV.bg l))=_;rw[mapO_cons,h2];rfl
end
inductive kX(W:Nat->Prop)(J:ad)(ab:Option Nat):AV->List AV->Prop
 |nil:kX W J ab .nilsl []
 |ao (o:Nat) (cap:Option Nat) (xs rest:List AV) (hW:W o) (h:J.get o=some (.cells (xs.flatMap AV.cells++rest))) (aa:∀y∈xs,conf ab y=true) (aB:cap=none\/cap=some xs.length) (aY:xs≠[]):kX W J ab (.ao o 0 xs.length ab cap) xs
 |aV (xs:List AV) (aa:∀y∈xs,conf ab y=true) (aY:xs≠[]):kX W J ab (.aV false ab xs) xs
def kX.aD{W W':Nat->Prop}{J τ:ad}{ab:Option Nat}{v:AV}{xs:List AV}(h:kX W J ab v xs)(k:∀i c,W i->J.get i=some (.cells c)->W' i/\τ.get i=some (.cells c)):kX W' τ ab v xs:=by
 cases h with
 |nil=>exact .nil
 |ao o cap xs rest hW h aa aB aY=>exact .ao o cap xs rest (k _ _ hW h).1 (k _ _ hW h).2 aa aB aY
 |aV xs aa aY=>exact .aV xs aa aY
def kX.one{W:Nat->Prop}{J:ad}{ab:Option Nat}{v:AV}{xs:List AV}(h:kX W J ab v xs):v.cells=[v]/\v.val=true/\conf none v=true:=by
 cases h<;>exact⟨rfl,rfl,rfl⟩
def kX.snap{W:Nat->Prop}{J:ad}{ab:Option Nat}{v:AV}{xs ba:List AV}{n:Nat}(h:kX W J ab v xs)(hm:mapO (bt J n) xs=some ba):bt J (n+1) v=some (slA true ab ba):=by
 cases h with
 |nil=>exact Sl.tK .nil (λ_=>rfl) hm
 |ao o cap xs rest hW h aa aB aY=>exact Sl.tK (.ao o cap xs rest h aa aB) (λe=>absurd e aY) hm
 |aV xs aa aY=>
  rw[snapshot_succ];simp only[hm];cases ba with
  |nil=>have:=(qc hm).1;cases xs with|nil=>exact absurd I aY|cons _ _=>simp at this
  |cons z r=>rfl
inductive e1(W:Nat->Prop)(J:ad):PF->AV->Prop
 |mk (a:PF) (w:AV) (xs:List AV) (hl:xs.length=a.subs.length) (hw:kX W J (some 4) w xs) (hx:∀i (h:i<xs.length) (h':i<a.subs.length),e1 W J a.subs[i] xs[i]):e1 W J a (.aj [uB a.op,.s a.aW,.nilsl,w])
def e1.aD{W W':Nat->Prop}{J τ:ad}(k:∀i c,W i->J.get i=some (.cells c)->W' i/\τ.get i=some (.cells c)):∀(d:Nat) {a:PF} {v:AV},a.dep<=d->e1 W J a v->e1 W' τ a v
 |0,a,v,hd,_=>by cases a<;>simp[PF.dep] at hd
 |d+1,a,v,hd,h=>by
  cases h with
  |mk _ w xs hl hw hx=>exact .mk a w xs hl (hw.aD k) λi h h'=>e1.aD k d (by have:=PF.l9 (bC h');omega) (hx i h h')
def e1.snap{W:Nat->Prop}{J:ad}:∀(d:Nat) {a:PF} {v:AV} {n:Nat},a.dep<=d->2*d+1<=n->e1 W J a v->bt J n v=some (a.aI.A true)
 |0,a,v,n,hd,_,_=>by cases a<;>simp[PF.dep] at hd
 |d+1,a,v,n,hd,hn,h=>by
  obtain⟨n,rfl⟩:∃m,n=m+2:=⟨n-2,U⟩
  cases h with
  |mk _ w xs hl hw hx=>
   rw[oa];refine oJ ?_;have hm:mapO (bt J n) xs=some (a.subs.map λx=>.aj (br x.aI)):=sG (by rw[bB,hl]) λi h1 h2=>by
    rw[bB] at h2;have:=e1.snap d (n:=n) (by have:=PF.l9 (bC h2);omega) U (hx i h1 h2);rw[ez,this,j4]
   have:=hw.snap hm;rw[mapO_cons,mapO_cons,mapO_cons,mapO_cons,this];rfl
def e1.tree{W:Nat->Prop}{J:ad}:∀(d:Nat) {a:PF},a.dep<=d->e1 W J a (.aj (h_ a.aI))
 |0,a,hd=>by cases a<;>simp[PF.dep] at hd
 |d+1,a,hd=>by
  rw[PF.T9];refine .mk a _ (a.subs.map λx=>.aj (h_ x.aI)) (bB _) ?_ λi h h'=>?_
  ·cases al:a.subs with
   |nil=>exact .nil
   |cons x l=>exact .aV (ab:=some 4) ((x::l).map λx=>.aj (h_ x.aI)) (λy hy=>by obtain⟨z,_,rfl⟩:=cT.1 (show y∈(x::l).map (λx:PF=>AV.aj (h_ x.aI)) from hy);rfl) ay
  ·rw[ez];exact e1.tree d (by have:=PF.l9 (bC h');omega)
structure aN where
 bK:Nat
 op:Nat
 hyp:Bool
 f:PF
 bH:List Nat
 cs:List (Nat×Nat)
def aN.a4(x:aN):a7:=⟨x.bK,x.op,x.hyp,x.f.aI,x.bH,x.cs⟩
inductive lM(W:Nat->Prop)(J:ad)(x:aN):AV->Prop
 |mk (w gf:AV) (hf:e1 W J x.f (.aj [uB x.f.op,.s x.f.aW,.nilsl,w])) (aa:kX W J (some 2) gf (x.cs.map λc=>.aj [ag c.1,ag c.2])):lM W J x (.aj [ag x.bK,ag x.op,.b x.hyp,uB x.f.op,.s x.f.aW,.nilsl,w,.s x.bH,gf])
def lM.aD{W W':Nat->Prop}{J τ:ad}{x:aN}{v:AV}(h:lM W J x v)(k:∀i c,W i->J.get i=some (.cells c)->W' i/\τ.get i=some (.cells c)):lM W' τ x v:=by
 cases h with
 |mk w gf hf aa=>exact .mk w gf (hf.aD k _ (a8 _)) (aa.aD k)
def lM.snap{W:Nat->Prop}{J:ad}{x:aN}{v:AV}(h:lM W J x v){n:Nat}(hn:2*x.f.dep+10<=n):bt J n v=some x.a4.A:=by
 obtain⟨n,rfl⟩:∃m,n=m+3:=⟨n-3,U⟩
 cases h with
 |mk w gf hf aa=>
  have h1:=hf.snap x.f.dep (n:=n+3) (a8 _) U;rw[j4] at h1;obtain⟨e5,aQ,aZ⟩:=CQ h1;injection aZ with aZ
  subst aZ;rw[mapO_cons,mapO_cons,mapO_cons,mapO_cons] at aQ;have je:mapO (bt J (n+1)) (x.cs.map λc=>.aj [ag c.1,ag c.2])=some (x.cs.map λc=>.aj [ag c.1,ag c.2]):=by
   have:=vd (f:=bt J (n+1)) (g:=λx=>x) (l:=x.cs.map λc=>AV.aj [ag c.1,ag c.2]) (λy hy=>by obtain⟨c,_,rfl⟩:=cT.1 hy;cases n with|zero=>omega|succ m=>rfl);rwa[wJ] at this
  have h2:=aa.snap je;have h3:bt J (n+2) w=some (iW true x.f.aI.gz):=by
   cases hw:bt J (n+2) w with
   |none=>rw[hw] at aQ;cases aQ
   |some u=>
    rw[hw] at aQ;have aQ:some [AV.i .u8 (Int.ofNat x.f.op),.s x.f.aW,.nilsl,u]=some (br x.f.aI):=aQ;injection aQ with aQ
    injection aQ with _ aQ
    injection aQ with _ aQ
    injection aQ with _ aQ
    injection aQ with aQ _
    rw[aQ]
  refine oJ ?_;have aM:x.f.aI.op=x.f.op:=PF.a2K _;have aU:x.f.aI.name=x.f.aW:=PF.c1s _;have c3:x.f.aI.gW=none:=PF.c1t _;rw[mapO_cons,mapO_cons,mapO_cons,mapO_cons,mapO_cons,mapO_cons,mapO_cons,mapO_cons,mapO_cons,h2,h3];show some [_,_,_,AV.i .u8 (Int.ofNat x.f.op),.s x.f.aW,.nilsl,iW true x.f.aI.gz,_,_]=some [_,_,_,AV.i .u8 (Int.ofNat x.f.aI.op),.s x.f.aI.name,jJ true x.f.aI.gW,iW true x.f.aI.gz,_,_];rw[aM,aU,c3];rfl
def tN{n:Nat}{l:List AV}(h:∀x∈l,AV.eqb n x x=true):AV.eqb (n+1) (.aj l) (.aj l)=true:=pK h
def DN{n:Nat}{o:Bool}{ab:Option Nat}{l:List AV}(h:∀x∈l,AV.eqb n x x=true):AV.eqb (n+1) (.aV o ab l) (.aV o ab l)=true:=by
 show((o==o)&&decide (ab=ab)&&gu (AV.eqb n) l l)=true;rw[pK h];simp
def kX.eqb{W:Nat->Prop}{J:ad}{ab:Option Nat}{v:AV}{xs:List AV}{n:Nat}(h:kX W J ab v xs)(he:∀x∈xs,AV.eqb n x x=true):AV.eqb (n+1) v v=true:=by
 cases h with
 |nil=>exact eo I
 |ao o cap xs rest hW h aa aB aY=>exact eo I
 |aV xs aa aY=>exact DN he
def e1.eqb{W:Nat->Prop}{J:ad}:∀(d:Nat) {a:PF} {v:AV} {n:Nat},a.dep<=d->2*d+1<=n->e1 W J a v->AV.eqb n v v=true
 |0,a,v,n,hd,_,_=>by cases a<;>simp[PF.dep] at hd
 |d+1,a,v,n,hd,hn,h=>by
  obtain⟨n,rfl⟩:∃m,n=m+2:=⟨n-2,U⟩
  cases h with
  |mk _ w xs hl hw hx=>
   refine tN λy hy=>?_;simp only[c2,hj,or_false] at hy;rcases hy with rfl|rfl|rfl|rfl
   ·exact eo I
   ·exact eo I
   ·exact eo I
   ·refine hw.eqb λy hy=>?_;obtain⟨i,hi,rfl⟩:=iP hy;exact e1.eqb d (by have:=PF.l9 (bC (show i<a.subs.length by omega));omega) U (hx i hi U)
def lM.eqb{W:Nat->Prop}{J:ad}{x:aN}{v:AV}(h:lM W J x v){n:Nat}(hn:2*x.f.dep+10<=n):AV.eqb n v v=true:=by
 obtain⟨n,rfl⟩:∃m,n=m+3:=⟨n-3,U⟩
 cases h with
 |mk w gf hf aa=>
  have hw:AV.eqb (n+2) w w=true:=by
   cases hf with
   |mk _ w xs hl hw hx=>
    refine hw.eqb λy hy=>?_;obtain⟨i,hi,rfl⟩:=iP hy;exact(hx i hi U).eqb _ (a8 _) (by have:=PF.l9 (bC (show i<x.f.subs.length by omega));omega)
  have Ua:AV.eqb (n+2) gf gf=true:=aa.eqb λy hy=>by
   obtain⟨c,_,rfl⟩:=cT.1 hy;cases n with
   |zero=>omega
   |succ m=>exact Lp I
  refine tN λy hy=>?_;simp only[c2,hj,or_false] at hy;rcases hy with rfl|rfl|rfl|rfl|rfl|rfl|rfl|rfl|rfl
  ·exact eo I
  ·exact eo I
  ·exact eo I
  ·exact eo I
  ·exact eo I
  ·exact eo I
  ·exact hw
  ·exact eo I
  ·exact Ua
section
variable {b:bJ}{K:Nat->List AV->AV->Prop}
def tO(hh:a3 (b.aF K) Df CZ){op:Nat}{w:AV}(hw:w.cells=[w])(aq:w.val=true){J:ad}:
  bb (b.aF K) 0 (.f (.func Df) [] []) [uB op,w] J (λr τ=>r= .ok (.aj [uB op,.s [],.nilsl,w])/\cM J τ):=by
 refine W.m3 hh.e hh.p hh.f (by cbv) I I λz=>?_;have H:Has J []:=Has.nil;refine af ?_;refine W.b6 (c:=[.i .u8 0,.s [],.nilsl,.nilsl]) H I I I I λτ cy H bl=>?_;refine af ?_;refine W.gx (c:=[uB op,.s [],.nilsl,w]) I I (ry I I I (ry I (by rw[hw,aq];rfl) (by rw[hw];rfl) I)) ?_;refine W.st (bc:=[uB op,.s [],.nilsl,w]) H 0 I I I I I I λa5 c6 H bj=>?_;refine af ?_;exact ah.ret ⟨rfl,_,qC (gl I (H.qx) I),rfl,U,λi o h=>bj _ _ (by have:=ad.a9 h;omega) (bl _ _ h)⟩
def a2O(hh:a3 (b.aF K) GA Gc){aW:List Nat}{J:ad}:
  bb (b.aF K) 0 (.f (.func GA) [] []) [.s aW] J (λr τ=>r= .ok (.aj [.i .u8 1,.s aW,.nilsl,.nilsl])/\cM J τ):=by
 refine W.m3 hh.e hh.p hh.f (by cbv) I I λz=>?_;have H:Has J []:=Has.nil;refine af ?_;refine W.b6 (c:=[.i .u8 0,.s [],.nilsl,.nilsl]) H I I I I λτ cy H bl=>?_;refine af ?_;refine W.st H 0 I I I I I I λa5 c6 H bj=>?_;refine af ?_;exact ah.ret ⟨rfl,_,qC (gl I (H.qx) I),rfl,U,λi o h=>bj _ _ (by have:=ad.a9 h;omega) (bl _ _ h)⟩
def c1E(hh:a3 (b.aF K) GB F_){d op:Nat}{aW fR:List Nat}{w:AV}{l:List Nat}{v:AV}(hw:w.cells=[w])(T3:w.val=true){J:ad}(aq:eL J v l)(hl:l.length<2^20):
  bb (b.aF K) 0 (.f (.func GB) [] []) [ag d,.aj [uB op,.s aW,.nilsl,w],.s fR,v] J (λr τ=>∃gf,r= .ok (.aj [ag d,ag 0,.b false,uB op,.s aW,.nilsl,w,.s fR,gf])/\kX (λi=>J.next<=i) τ (some 2) gf (l.map λn=>.aj [ag n,ag n])/\cM J τ):=by
 refine W.m3 hh.e hh.p hh.f (by cbv) I I λz=>?_;have H:Has J []:=Has.nil;have oY:=aq.kQ;refine af ?_;generalize aS:J.next=q;refine W.bN (c:=[uB op,.s aW,.nilsl,w]) H aS I I I I I λτ cy H bl=>?_;refine af ?_;refine W.b6 H cy I I I λa5 c6 H bj=>?_;refine af ?_;refine W.kk (c:=[ag d,ag 0,.b false,uB op,.s aW,.nilsl,w,.s fR,.nilsl]) H c6 I I I I I I λbu dx H k3=>?_;have cG:∀i o,J.get i=some o->bu.get i=some o:=λi o h=>k3 _ _ (bj _ _ (bl _ _ h));have oV:=aq.aD (τ:=bu) λi o _=>cG i o;have oY:=oV.kQ;refine af ?_;show bo _ _ _ _ _ _ _ _;refine ah.each l.length (λj f ax=>(∃gf,ax.get (q+2)=some (.cells [ag d,ag 0,.b false,uB op,.s aW,.nilsl,w,.s fR,gf])/\Sl ax (some 2) gf ((l.take j).map λn=>.aj [ag n,ag n])/\(l.take j=[]->gf= .nilsl)/\∀o,gf.at? =some o->bu.next<=o)/\(∀i o,i≠q+2->bu.get i=some o->ax.get i=some o)/\bu.next<=ax.next/\sat [(8,aw (q+1)),(9,aw (q+2)),(16,v)] f) U ⟨⟨.nilsl,H.qx,.nil,λ_=>rfl,λ_ h=>by cases h⟩,λ_ _ _ h=>h,a8 _,dm⟩ I I (λj g ax aA aL hi hm=>?_) (λg ax aL hi=>?_)
 ·obtain⟨⟨gf,hg,aa,qh,qj⟩,bA,hn,ga,tJ,wY,_⟩:=aL;refine ah.norm [(8,aw (q+1)),(9,aw (q+2)),(16,v),(18,ag j),(17,ag l.length)] ⟨ga,tJ,wY,hi,hm,trivial⟩ λg=>?_;have H:Has ax [(q+2,[ag d,ag 0,.b false,uB op,.s aW,.nilsl,w,.s fR,gf])]:=Has.nil.cons hg ay;have oY:=(oV.aD (τ:=ax) λi o hi=>bA i o (by have:=aq.lt hi;omega)).kQ;refine af ?_;refine W.pu (c:=[ag l[j],ag l[j]]) (.aj [ag l[j],ag l[j]]) aa I I I I I I I I I (by rw[bB,g6];omega) λbn fu Bb H4 _ mr ca=>?_;have H:Has fu [(q+2,[ag d,ag 0,.b false,uB op,.s aW,.nilsl,w,.s fR,gf])]:=Has.nil.cons (ca _ _ (λe=>by have:=qj _ e;omega) hg) ay;refine af ?_;refine W.st (bc:=[ag d,ag 0,.b false,uB op,.s aW,.nilsl,w,.s fR,bn]) H 0 I I I I Bb.jm (by rw[Bb.j3];rfl) λfG ly H fP=>?_;refine af ?_;refine⟨rfl,rfl,⟨bn,H.qx,?_,λh=>?_,λo ho=>by rw[H4] at ho;cases ho;omega⟩,λi o hi ho=>fP _ _ hi (ca _ _ (λe=>by have:=qj _ e;have:=ad.a9 ho;omega) (bA _ _ hi ho)),U,dm⟩
  ·rw[jL aA,gO];exact Bb.aD λi o hi=>fP _ _ (λe=>by rw[H4] at hi;cases hi;omega)
  ·have:=congrArg List.length h;rw[g6,hr] at this;omega
 ·obtain⟨⟨gf,hg,aa,qh,qj⟩,bA,hn,ga,tJ,_⟩:=aL;refine ah.norm [(8,aw (q+1)),(9,aw (q+2))] ⟨ga,tJ,trivial⟩ λg=>?_;rw[jw] at aa qh;have jH:=bA _ _ (show q+1≠q+2 by omega) (H.x7);have H:Has ax [(q+1,[ag 0,ag 0,.b false,.i .u8 0,.s [],.nilsl,.nilsl,.s [],.nilsl]),(q+2,[ag d,ag 0,.b false,uB op,.s aW,.nilsl,w,.s fR,gf])]:=(Has.nil.cons hg ay).cons jH ay;refine af ?_;refine W.st (bc:=[ag d,ag 0,.b false,uB op,.s aW,.nilsl,w,.s fR,gf]) H 0 I I I I I I λeT j0 H fZ=>?_;refine af ?_;refine ah.ret ⟨rfl,_,qC (gl I (H.qx) I),gf,rfl,?_,U,λi o h=>fZ _ _ (by have:=ad.a9 h;omega) (bA _ _ (by have:=ad.a9 h;omega) (cG _ _ h))⟩;have Nu:=aa.aD (τ:=eT) λi o hi=>fZ _ _ (by have:=qj i hi;omega);cases l with
  |nil=>rw[qh I];exact .nil
  |cons x l=>
   generalize hx:(x::l).map (λn=>AV.aj [ag n,ag n])=xs at Nu;cases Nu with
   |nil=>simp at hx
   |ao o cap xs rest Ub Nu aB=>exact .ao o cap xs rest (by have:=qj o I;omega) Ub Nu aB (λe=>by subst e;simp at hx)
end
structure a2P(m:Nat)(dY eb ek:AV)(a6:List AV)(bU:Nat->Prop):Prop where
 l:∀o,dY.at? =some o->bU o/\o≠m/\eb.at? ≠some o/\ek.at? ≠some o
 f:∀o,eb.at? =some o->bU o/\o≠m/\ek.at? ≠some o
 g:∀o,ek.at? =some o->bU o/\o≠m
 s:∀i (h:i<a6.length) o,(a6[i]).at? =some o->bU o/\o≠m/\dY.at? ≠some o/\eb.at? ≠some o/\ek.at? ≠some o
 ch:∀i j (h:i<a6.length) (h':j<a6.length),i≠j->∀o,(a6[i]).at? =some o->(a6[j]).at? ≠some o
structure ll(τ:ad)(m:Nat)(bU:Nat->Prop)(L:List aN)(ae:List (List Nat))(au:List Nat):Prop where
 lt:∀i,bU i->i<τ.next
 ex:∃dY eb ek dK a6,τ.get m=some (.cells [dY,eb,ek])/\Sl τ (some 9) dY dK/\dK.length=L.length/\(∀i (h:i<dK.length) (h':i<L.length),lM (λi=>¬bU i) τ L[i] dK[i])/\Sl τ none eb a6/\a6.length=ae.length/\(∀i (h:i<a6.length) (h':i<ae.length),eL τ a6[i] ae[i])/\eL τ ek au/\((1<ae.length->(∀o l c,eb= .ao o 0 l none c->c=none)/\∀o l c,ek= .ao o 0 l none c->c=none)/\∀o l c,dY= .ao o 0 l (some 9) c->c=none)/\bU m/\a2P m dY eb ek a6 bU
def ll.aD{J τ:ad}{m:Nat}{bU:Nat->Prop}{L:List aN}{ae:List (List Nat)}{au:List Nat}(h:ll J m bU L ae au)(M:cM J τ):ll τ m bU L ae au:=by
 obtain⟨dY,eb,ek,dK,a6,hm,hl,eZ,gJ,hf,du,mO,hg,il,kn,al⟩:=h.ex;exact⟨λi hi=>by have:=h.lt i hi;have:=M.1;omega,dY,eb,ek,dK,a6,M.2 _ _ hm,hl.aD λi o _=>M.2 i o,eZ,λi a b=>(gJ i a b).aD λi c hi aa=>⟨hi,M.2 _ _ aa⟩,hf.aD λi o _=>M.2 i o,du,λi a b=>(mO i a b).aD λi o _=>M.2 i o,hg.aD λi o _=>M.2 i o,il,kn,al⟩
def Uc:∀ {a6:List AV},(∀x∈a6,conf none x=true)->a6.flatMap AV.cells=a6
 |[],_=>rfl
 |x::l,h=>by rw[lR,FV (h x ay),Uc λy hy=>h y (g1 _ hy)];rfl
def c1F{a6 rest:List AV}{k:Nat}{w:AV}(aB:k<a6.length)(hw:w.cells=[w]):storeCells (a6++rest) (k*shN none) w.cells=some (a6.set k w++rest):=by
 have e:k*shN none=k:=KZ k;rw[e,hw];unfold storeCells;rw[if_pos (kE (by show k+1<=_;rw[c5];omega))];show some ((a6++rest).take k++([w]++(a6++rest).drop (k+1)))=_;rw[ML,if_pos aB,yG U,List.drop_append_of_le_length U];simp
def c1G{J:ad}{v w:AV}{a6:List AV}{k:Nat}(h:Sl J none v a6)(aB:k<a6.length)(hw:conf none w=true):∃o rest,v.at? =some o/\J.get o=some (.cells (a6++rest))/\∀τ:ad,τ.get o=some (.cells (a6.set k w++rest))->Sl τ none v (a6.set k w):=by
 cases h with
 |nil=>simp at aB
 |ao o cap xs rest hg aa il=>
  refine⟨o,rest,rfl,by rw[hg,Uc aa],λτ h=>?_⟩;have h4:∀y∈a6.set k w,conf none y=true:=λy hy=>by
   rcases a1p hy with h|rfl
   ·exact aa y h
   ·exact hw
  have:=Sl.ao (ab:=none) o cap (a6.set k w) rest (by rw[h,Uc h4]) h4 (by rw[lr];exact il);rwa[lr] at this
section
variable {b:bJ}{K:Nat->List AV->AV->Prop}
def H5(hh:a3 (b.aF K) De CY){m:Nat}{bU:Nat->Prop}{L:List aN}{ae:List (List Nat)}{au:List Nat}{J:ad}(ct:ll J m bU L ae au)(bE:0<ae.length)(hL:L.length<2^20/\ae.length<2^20/\∀l∈ae,l.length<2^20){x:aN}{a2Q:AV}(hx:lM (λi=>¬bU i) J x a2Q)(Ud:x.f.dep<=400):
  bb (b.aF K) 0 (.f (.func De) [] []) [aw m,a2Q] J (λr τ=>r= .ok (ag (L.length+1))/\∃g5,ll τ m g5 (L++[{x with bK:=ae.length-1}]) (ae.set (ae.length-1) (ae.getD (ae.length-1) []++[L.length+1])) au/\oZ bU g5 J τ):=by
 refine W.code hh.e hh.p hh.f (by cbv) I I I λz=>?_;obtain⟨dY,eb,ek,dK,a6,hm,hl,eZ,gJ,hf,du,mO,hg,il,kn,al⟩:=ct.ex;cases hx with
 |mk w gf a2R KR=>
  have H:Has J [(m,[dY,eb,ek])]:=Has.nil.cons hm ay;have lm:=ad.a9 hm;have hU:=hf.vw;refine af ?_;generalize aS:J.next=q;refine W.bN (c:=[ag x.bK,ag x.op,.b x.hyp,uB x.f.op,.s x.f.aW,.nilsl,w,.s x.bH,gf]) H aS I I I I I λτ cy H bl=>?_;have hU:=(hf.aD (τ:=τ) λi o _=>bl i o).vw;refine af ?_;refine W.st (bc:=[ag (a6.length-1),ag x.op,.b x.hyp,uB x.f.op,.s x.f.aW,.nilsl,w,.s x.bH,gf]) H 0 I I I I I I λa5 c6 H bj=>?_;have cG:∀i o,J.get i=some o->a5.get i=some o:=λi o h=>bj _ _ (by have:=ad.a9 h;omega) (bl _ _ h);have nW:=hl.aD (τ:=a5) λi o _=>cG i o;have Bc:lM (λi=>¬bU i) a5 {x with bK:=a6.length-1} (.aj [ag (a6.length-1),ag x.op,.b x.hyp,uB x.f.op,.s x.f.aW,.nilsl,w,.s x.bH,gf]):=.mk w gf (a2R.aD (λi c h h'=>⟨h,cG _ _ h'⟩) _ (a8 _)) (KR.aD λi c h h'=>⟨h,cG _ _ h'⟩);have oy:=Bc.eqb (n:=(b.aF K).bh) (by show 2*x.f.dep+10<=b.bh+1000;omega);refine af ?_;refine W.jK H I I I (.tail _ (.head _)) I (eo hl.lf) ?_;refine W.jK (v:=.aj [ag (a6.length-1),ag x.op,.b x.hyp,uB x.f.op,.s x.f.aW,.nilsl,w,.s x.bH,gf]) H I I I (.head _) I oy ?_;refine W.bV (c:=[ag (a6.length-1),ag x.op,.b x.hyp,uB x.f.op,.s x.f.aW,.nilsl,w,.s x.bH,gf]) H I I I I λbu dx H k3=>?_;have h4:=H.qx;have tP:=H.Ag;refine af ?_;refine W.ap (w:=.ao a5.next 0 1 (some 9) (some 1)) (.aj [ag (a6.length-1),ag x.op,.b x.hyp,uB x.f.op,.s x.f.aW,.nilsl,w,.s x.bH,gf]) [] (nW.aD λi o _=>k3 i o) (by show readList bu (.ao a5.next 0 1 (some 9) (some 1))=_;show(match bu.get a5.next with|some (.cells c)=>elems (some 9) 1 (c.drop 0)|_=>none)=_;rw[h4];rfl) (λz a_=>by rw[cA.1 a_];rfl) (by show(3*(dK.length+1)+2000)*136<=_;omega) I I I I λvp b3 Hr pQ c1H eC bI=>?_;have H:Has b3 [(m,[dY,eb,ek])]:=Has.nil.cons (bI _ _ (λe=>(al.l _ e).2.1 I) tP) ay;refine af ?_;refine W.st (bc:=[vp,eb,ek]) H 0 I I I I Hr.jm (by rw[Hr.j3];rfl) λcW gw H cP=>?_;have H6:∀i o,i≠m->dY.at? ≠some i->J.get i=some o->cW.get i=some o:=λi o h1 h2 h=>cP _ _ h1 (bI _ _ h2 (k3 _ _ (cG _ _ h)));have Ue:=hf.aD (τ:=cW) λi o hi=>H6 i o (al.f _ hi).2.1 λe=>(al.l _ e).2.2.1 hi;have hU:=Ue.vw;have Uf:Sl cW (some 9) vp (dK++[.aj [ag (a6.length-1),ag x.op,.b x.hyp,uB x.f.op,.s x.f.aW,.nilsl,w,.s x.bH,gf]]):=Hr.aD λi o hi=>cP _ _ (λe=>by rw[pQ] at hi;cases hi;omega);have c1I:=H.qx;refine af ?_;clear hU;obtain⟨o,dd,hZ,gi,mq,lX,oK,fv⟩:=Ue.gb (j:=a6.length-1) U;have a2S:=(mO (a6.length-1) U U).aD (τ:=cW) λi bF hi=>by
   obtain⟨aQ,aZ,bX,cS,ed⟩:=al.s _ _ _ hi;exact H6 i bF aZ bX
  have a2T:∀s:ad,lenA s 1 vp=some (dK.length+1):=λs=>by rw[Uf.len,c5];rfl
  have MM:=(al.f _ gi).2.1;refine W.jK H I I I (.head _) I (eo hf.lf) ?_;refine af ?_;refine W.jK H I I I (.head _) I (eo hf.lf) ?_;refine af ?_;rw[tE mq];refine W.AA lX I I I fv (eo a2S.lf) ?_;refine af ?_;refine W.jK H I I I (.head _) I (eo Uf.lf) ?_;refine W.pM (v:=ag (dK.length+1)) I I I (λs=>x3 I (a2T s)) (eo I) ?_;refine W.bV (c:=[ag (dK.length+1)]) H I I I I λdr h5 H dI=>?_;have h4:=H.qx;have tP:=H.x7;refine W.now [(18,m,.cells [vp,eb,ek]),(18,o,.cells dd),(18,m,.cells [vp,eb,ek]),(18,m,.cells [vp,eb,ek])] [(20,m,.cells [vp,eb,ek])] I I ⟨tP,dI _ _ lX,tP,tP,trivial⟩ ?_;refine W.ap (w:=.ao cW.next 0 1 none (some 1)) (ag (dK.length+1)) [] (a2S.aD λi o _=>dI i o) (by show readList dr (.ao cW.next 0 1 none (some 1))=_;show(match dr.get cW.next with|some (.cells c)=>elems none 1 (c.drop 0)|_=>none)=_;rw[h4];rfl) (λz a_=>by rw[cA.1 a_];rfl) (by rw[bB];have:=hL.2.2 _ (bC (show a6.length-1<ae.length by omega));show(3*(_+1)+2000)*8<=_;omega) I I I I λUg eT Nv Nw _ j0 fZ=>?_;have Nx:∀i bF,(a6[a6.length-1]'U).at? ≠some i->cW.get i=some bF->eT.get i=some bF:=λi bF h1 h2=>fZ i bF h1 (dI _ _ h2);have H7:=al.s (a6.length-1) U;have c1J:=Ue.aD (τ:=eT) λi bF hi=>Nx i bF λe=>(H7 _ e).2.2.2.1 hi;obtain⟨jE,rest,px,uD,eK⟩:=c1G (w:=Ug) c1J (show a6.length-1<a6.length by omega) Nv.jm;obtain rfl:o=jE:=by rw[gi] at px;exact kr px
  have H:Has eT [(o,a6++rest),(m,[vp,eb,ek])]:=(Has.nil.cons (Nx _ _ (λe=>(H7 _ e).2.1 I) c1I) ay).cons uD (by simp;omega);refine af ?_;rw[tE mq];refine af ?_;refine W.st (bc:=a6.set (a6.length-1) Ug++rest) H 0 I I I I Nv.jm (c1F U Nv.j3) λeV oD H j8=>?_;refine af ?_;refine W.len I I I (a2T _) ?_;refine af ?_;have tQ:=(al.f _ gi).1;have Uh:∀i bF,i≠o->(a6[a6.length-1]'U).at? ≠some i->i≠m->dY.at? ≠some i->J.get i=some bF->eV.get i=some bF:=λi bF h1 h2 h3 aH h=>j8 _ _ h1 (Nx _ _ h2 (H6 i bF h3 aH h));have a2U:∀i bF,¬bU i->J.get i=some bF->eV.get i=some bF:=λi bF hi h=>Uh i bF (λe=>hi (e▸tQ)) (λe=>hi (H7 _ e).1) (λe=>hi (e▸kn)) (λe=>hi (al.l _ e).1) h;have a2V:q<bu.next/\q<dr.next/\bu.next<dr.next/\dr.next<eV.next:=by omega
  have tR:∀i,bU i->i<q:=λi hi=>by have:=ct.lt i hi;omega
  refine ah.ret ⟨rfl,by rw[eZ];rfl,λi=>bU i\/i=bu.next\/i=dr.next,?_,?_⟩
  ·have gG:∀i c,¬bU i->J.get i=some (.cells c)->¬(bU i\/i=bu.next\/i=dr.next)/\eV.get i=some (.cells c):=λi c hi hg=>⟨λh=>by
     have:=ad.a9 hg;rcases h with h|h|h
     ·exact hi h
     ·omega
     ·omega,a2U _ _ hi hg⟩
   refine⟨λi hi=>?_,vp,eb,ek,dK++[.aj [ag (a6.length-1),ag x.op,.b x.hyp,uB x.f.op,.s x.f.aW,.nilsl,w,.s x.bH,gf]],a6.set (a6.length-1) Ug,H.x7,?_,?_,?_,eK eV (H.qx),?_,?_,?_,?_,.inl kn,?_⟩
   ·rcases hi with h|h|h
    ·have:=tR i h;omega
    ·omega
    ·omega
   ·exact Uf.aD λi bF hi h=>j8 _ _ (λe=>by rw[pQ] at hi;cases hi;have:=tR _ tQ;omega) (Nx _ _ (λe=>by rw[pQ] at hi;cases hi;have:=tR _ (H7 _ e).1;omega) h)
   ·rw[c5,c5,eZ];rfl
   ·intro i h h';by_cases J7:i<dK.length
    ·rw[iC J7,iC U];exact(gJ i J7 U).aD gG
    ·have e:i=dK.length:=by rw[c5] at h;simp only[fw,hr] at h;omega
     subst e;rw[oP I,oP eZ];rw[du];exact .mk w gf (a2R.aD gG _ (a8 _)) (KR.aD gG)
   ·rw[lr,lr,du]
   ·intro i h h';rw[lr] at h h';rw[s0,s0];by_cases w1:a6.length-1=i
    ·rw[if_pos w1,if_pos U,jA U];unfold eL;rw[gO];have:=Nv.aD (τ:=eV) λi bF hi=>j8 _ _ (λe=>by rw[Nw] at hi;cases hi;have:=tR _ tQ;omega);rw[eZ] at this;simp only[du] at this;exact this
    ·rw[if_neg w1,if_neg U];exact(mO i h h').aD λc bF aa=>by
      obtain⟨aQ,aZ,bX,cS,ed⟩:=al.s i h c aa;exact Uh c bF (λe=>cS (e▸gi)) (al.ch _ _ h U (λe=>w1 e.symm) c aa) aZ bX
   ·exact hg.aD λc bF aa=>Uh c bF (λe=>(al.f _ gi).2.2 (e▸aa)) (λe=>(H7 _ e).2.2.2.2 aa) (al.g _ aa).2 (λe=>(al.l _ e).2.2.2 aa)
   ·rw[lr];exact⟨il.1,c1H⟩
   ·refine⟨λc aa=>?_,λc aa=>?_,λc aa=>?_,λi h c aa=>?_,λi j h h' iK c aa h4=>?_⟩
    ·rw[pQ] at aa;cases aa;exact⟨.inr (.inl I),U,λe=>by have:=tR _ (al.f _ e).1;omega,λe=>by have:=tR _ (al.g _ e).1;omega⟩
    ·exact⟨.inl (al.f _ aa).1,(al.f _ aa).2⟩
    ·exact⟨.inl (al.g _ aa).1,(al.g _ aa).2⟩
    ·rw[lr] at h;rw[s0] at aa;by_cases w1:a6.length-1=i
     ·rw[if_pos w1,Nw] at aa;cases aa;exact⟨.inr (.inr I),U,λe=>by rw[pQ] at e;have:=kr e;omega,λe=>by have:=tR _ (al.f _ e).1;omega,λe=>by have:=tR _ (al.g _ e).1;omega⟩
     ·rw[if_neg w1] at aa;obtain⟨aQ,aZ,bX,cS,ed⟩:=al.s i h c aa;exact⟨.inl aQ,aZ,λe=>by rw[pQ] at e;have:=kr e;have:=tR _ aQ;omega,cS,ed⟩
    ·rw[lr] at h h';rw[s0] at aa h4;by_cases w1:a6.length-1=i
     ·rw[if_pos w1,Nw] at aa;rw[if_neg (λe=>iK U)] at h4;have:=tR _ (al.s _ h' _ h4).1;have:=kr aa;omega
     ·rw[if_neg w1] at aa;by_cases Lg:a6.length-1=j
      ·rw[if_pos Lg,Nw] at h4;have:=tR _ (al.s _ h _ aa).1;have:=kr h4;omega
      ·rw[if_neg Lg] at h4;exact al.ch i j h h' iK c aa h4
  ·refine⟨U,λc bF aa h=>a2U c bF aa h,λc aa=>?_⟩;rcases aa with h|h|h
   ·exact .inl h
   ·right;omega
   ·right;omega
end
def w2:List Nat:=[105,109,112,73]
def yJ:List Nat:=[110,111,116,73]
def pW(a c:PF)(first last:Nat):aN:=if c= .cC then⟨0,0,false,.neg a,yJ,[(first,last)]⟩ else⟨0,0,false,.bin 2 a c,w2,[(first,last)]⟩
def W.q8{cb:jv}{env:Env}{aK:Option Nat}{D:List (Nat ⊕ (AV×List AV))}{n:Nat}{F:List (Nat×AV)}{z:Nat->AV}{J:ad}{Q:dO}{d:Nat}{ab:Option Nat}{x hi:aJ}{g:Option (Nat×Bool)}{ops:List a2}{v:AV}{xs:List AV}{k:Nat}(h:Sl J ab v xs)(hn:∀o l c,v= .ao o 0 l ab c->c=none)(aB:k<=xs.length)(hd:Nat.blt d n=true)(hw:wtL g n F=true)(h1:cL env n F z x=some v)(h2:cL env n F z hi=some (ag k))
  (aa:∀w,Sl J ab w (xs.take k)->w.at? =v.at? →(∀o l c,w= .ao o 0 l ab c->c=none)->bM cb env aK D n ops (bs ((d,w)::F) z) J Q):bM cb env aK D n (⟨some d,.xu ab x none (some hi) none,g,[]⟩::ops) (bs F z) J Q:=by
 obtain⟨w,aM,aU,c3,fK⟩:=Sl.cut (ar:=cL env n F z) (hi:=hi) (k:=k) h hn aB h2;refine W.val (v:=w) (ai:=J) hd hw ?_ (aa w aU c3 fK);show(match cL env n F z x with|some x=>(match sliceA (cL env n F z) ab x none (some hi) none with|some v=>some (bO.val v J)|none=>none)|none=>none)=_;rw[h1];show(match sliceA (cL env n F z) ab v none (some hi) none with|some v=>some (bO.val v J)|none=>none)=_;rw[aM]
section
variable {b:bJ}{K:Nat->List AV->AV->Prop}
def c1K(hh:a3 (b.aF K) Gz Lw)(aA:a3 (b.aF K) Df CZ)(ha:a3 (b.aF K) De CY){m:Nat}{bU:Nat->Prop}{L:List aN}{ae:List (List Nat)}{au:List Nat}{J:ad}(ct:ll J m bU L ae au)(bE:2<=ae.length)(hL:L.length<2^20/\ae.length<2^20/\∀l∈ae,l.length<2^20)(mO:au.length=ae.length){first:Nat}(z0:au[ae.length-1]? =some first)(KE:1<=first/\first<=L.length){x y:aN}(hx:L[first-1]? =some x)(hy:L[L.length-1]? =some y)(w3:y.bK=ae.length-1)(hd:x.f.dep<=300/\y.f.dep<=300):
  bb (b.aF K) 0 (.f (.func Gz) [] []) [aw m] J (λr τ=>r= .ok (.bg [])/\∃g5,ll τ m g5 (L++[{pW x.f y.f first L.length with bK:=ae.length-2}]) ((ae.take (ae.length-1)).set (ae.length-2) (ae.getD (ae.length-2) []++[L.length+1])) (au.take (ae.length-1))/\oZ bU g5 J τ):=by
 refine W.mV hh.e hh.p hh.f (by cbv) I I λz=>?_;obtain⟨dY,eb,ek,dK,a6,hm,hl,eZ,gJ,hf,du,hk,hg,il,kn,al⟩:=ct.ex;have H:Has J [(m,[dY,eb,ek])]:=Has.nil.cons hm ay;have hU:=hf.vw;have nP:=hl.vw;have ri:=hg.kQ;obtain⟨Ny,c1L⟩:=fH.1 z0;obtain⟨gS,Bc⟩:=fH.1 hx;obtain⟨TW,w4⟩:=fH.1 hy;have aM:au[a6.length-1]'U=first:=by simp only[du];exact c1L
 obtain⟨Ui,bS,d1m,d1n,a2W,Nz,Uj,c1M⟩:=hl.gb (j:=dK.length-1) U;obtain⟨c1N,c1O,rx,d1o,c1P,NA,a2X,c1Q⟩:=hl.gb (j:=first-1) U;have H8:=gJ (dK.length-1) U U;have H9:=gJ (first-1) U U;rw[show L[dK.length-1]'U=y from by simp only[eZ];exact w4] at H8;rw[Bc] at H9;generalize dK[dK.length-1]'U=g2 at H8 Uj c1M;generalize dK[first-1]'U=Ck at H9 a2X c1Q;cases H8 with
 |mk wz d1p NB d1q=>
  cases H9 with
  |mk so d1r a2Y oI=>
   refine af ?_;rw[aM,tE a2W];refine af ?_;refine W.sD (v:=ag y.bK) Nz I I I (by rw[uh,Uj];rfl) ?_;have d1s:y.bK=a6.length-1:=by omega
   refine af ?_;refine W.jK H I I I (.head _) I (eo hl.lf) ?_;refine af ?_;rw[tE c1P];refine af ?_;refine W.AA (v:=.aj [uB x.f.op,.s x.f.aW,.nilsl,so]) NA I I I (by rw[<-pj,a2X];rfl) (a2Y.eqb _ (a8 _) (by show 2*x.f.dep+1<=b.bh+1000;omega)) ?_;refine af ?_;refine W.jK H I I I (.head _) I (eo hl.lf) ?_;refine af ?_;rw[tE a2W];refine af ?_;refine W.AA (v:=.aj [uB y.f.op,.s y.f.aW,.nilsl,wz]) Nz I I I (by rw[<-pj,Uj];rfl) (NB.eqb _ (a8 _) (by show 2*y.f.dep+1<=b.bh+1000;omega)) ?_;generalize aS:J.next=q;refine W.b6 (c:=[.i .u8 0,.s [],.nilsl,.nilsl]) H aS I I I λτ cy H bl=>?_;refine W.b6 (c:=[.i .u8 0,.s [],.nilsl,.nilsl]) H cy I I I λa5 c6 H bj=>?_;have cG:∀i o,J.get i=some o->a5.get i=some o:=λi o h=>bj _ _ (bl _ _ h);have tP:=cG _ _ hm;refine W.now [(20,Ui,.cells bS),(20,m,.cells [dY,eb,ek]),(20,c1N,.cells c1O),(20,m,.cells [dY,eb,ek])] [(21,Ui,.cells bS),(21,m,.cells [dY,eb,ek])] I I ⟨cG _ _ Nz,tP,cG _ _ NA,tP,trivial⟩ ?_;refine W.st (bc:=[uB x.f.op,.s x.f.aW,.nilsl,so]) H 1 I I I I I I λbu dx H k3=>?_;have lm:=ad.a9 hm;have Uk:∀i o,J.get i=some o->bu.get i=some o:=λi o h=>k3 _ _ (by have:=ad.a9 h;omega) (cG _ _ h);refine W.now [(21,Ui,.cells bS),(21,m,.cells [dY,eb,ek])] [] I I ⟨Uk _ _ Nz,Uk _ _ hm,trivial⟩ ?_;refine W.st (bc:=[uB y.f.op,.s y.f.aW,.nilsl,wz]) H 0 I I I I I I λb3 eC H bI=>?_;have Ul:∀i o,J.get i=some o->b3.get i=some o:=λi o h=>bI _ _ (by have:=ad.a9 h;omega) (Uk _ _ h);refine af ?_;obtain⟨mg,s9⟩:=il.1 U;refine W.q8 (hf.aD (τ:=b3) λi o _=>Ul i o) mg (k:=a6.length-1) U I I I I λo8 Um m8 lT=>?_;refine af ?_;refine W.q8 (hg.aD (τ:=b3) λi o _=>Ul i o) s9 (k:=a6.length-1) (by rw[bB];omega) I I I I λqF vq rq ny=>?_;refine af ?_;refine W.st (bc:=[dY,o8,ek]) H 2 I I I I Um.jm (by rw[Um.j3];rfl) λcW gw H cP=>?_;refine af ?_;refine W.st (bc:=[dY,o8,qF]) H 2 I I I I vq.jm (by rw[vq.j3];rfl) λdr h5 H dI=>?_;have DO:∀i o,i≠m->J.get i=some o->dr.get i=some o:=λi o hi h=>dI _ _ hi (cP _ _ hi (Ul _ _ h));have a2Z:∀i o,i≠m->b3.get i=some o->dr.get i=some o:=λi o hi h=>dI _ _ hi (cP _ _ hi h);have NC:ll dr m bU L (ae.take (ae.length-1)) (au.take (ae.length-1)):=by
    have zz:∀i (h:i<(a6.take (a6.length-1)).length),(a6.take (a6.length-1))[i]=a6[i]'(by rw[g6] at h;omega):=λi h=>sW;refine⟨λi hi=>by have:=ct.lt i hi;omega,dY,o8,qF,dK,a6.take (a6.length-1),H.Ag,hl.aD λi o hi=>DO i o (al.l _ hi).2.1,eZ,λi h h'=>(gJ i h h').aD λc _ aa hg=>⟨aa,DO _ _ (λe=>aa (e▸kn)) hg⟩,Um.aD λi o hi=>a2Z i o (al.f _ (m8▸hi)).2.1,by rw[g6,g6];omega,λi h h'=>?_,?_,⟨λ_=>⟨lT,ny⟩,il.2⟩,kn,?_⟩
    ·rw[zz i h,sW];exact(hk i _ _).aD λc o aa=>DO c o (al.s i _ c aa).2.1
    ·have:=vq.aD (τ:=dr) λi o hi=>a2Z i o (al.g _ (rq▸hi)).2;rw[<-JA,du] at this;exact this
    ·refine⟨λo ho=>?_,λo ho=>?_,λo ho=>?_,λi h o ho=>?_,λi j h h' iK o ho la=>?_⟩
     ·rw[m8,rq];exact al.l o ho
     ·rw[m8] at ho;rw[rq];exact al.f o ho
     ·rw[rq] at ho;exact al.g o ho
     ·rw[zz i h] at ho;rw[m8,rq];exact al.s i _ o ho
     ·rw[zz i h] at ho;rw[zz j h'] at la;exact al.ch i j _ _ iK o ho la
   refine af ?_;have a3a:e1 (λi=>¬bU i) dr x.f (.aj [uB x.f.op,.s x.f.aW,.nilsl,so]):=a2Y.aD (λi c hi h=>⟨hi,DO _ _ (λe=>hi (e▸kn)) h⟩) _ (a8 _);have c1R:e1 (λi=>¬bU i) dr y.f (.aj [uB y.f.op,.s y.f.aW,.nilsl,wz]):=NB.aD (λi c hi h=>⟨hi,DO _ _ (λe=>hi (e▸kn)) h⟩) _ (a8 _);have c1S:dr.next=q+2:=by omega
   have DP:∀i,bU i->i<q:=λi hi=>by have:=ct.lt i hi;omega
   refine W.bV (c:=[uB x.f.op,.s x.f.aW,.nilsl,so]++[uB y.f.op,.s y.f.aW,.nilsl,wz]) H c1S I I I λeT j0 H fZ=>?_;have Ub:=H.qx;refine af ?_;refine W.bS I I I (tO (op:=6) aA I I) λr eV ⟨ar,j5⟩=>⟨_,ar,?_⟩
   have H:=H.aD j5.2;have M6:=j5.1;refine af ?_;refine W.bV (c:=[ag first,ag dK.length]) H I I I I λhv oE H hH=>?_;refine af ?_;have c1T:=H.qx;refine W.kk (c:=[ag 0,ag 0,.b false,.i .u8 6,.s [],.nilsl,.ao (q+2) 0 2 (some 4) (some 2),.s w2,.ao eV.next 0 1 (some 2) (some 1)]) H I I I I I I I λfu mr H ca=>?_;have H_:∀i o,dr.get i=some o->fu.get i=some o:=λi o h=>ca _ _ (hH _ _ (j5.2 _ _ (fZ _ _ h)));have fj:kX (λi=>¬bU i) fu (some 2) (.ao eV.next 0 1 (some 2) (some 1)) ([(first,L.length)].map λc=>.aj [ag c.1,ag c.2]):=.ao eV.next (some 1) [.aj [ag first,ag L.length]] [] (λh=>by have:=DP _ h;omega) (by rw[<-eZ];exact H.x7) (λy hy=>by rw[cA.1 hy];rfl) (.inr I) ay;have c1U:=a3a.aD (τ:=fu) (λi c hi h=>⟨hi,H_ _ _ h⟩) _ (a8 _);have c1V:=c1R.aD (τ:=fu) (λi c hi h=>⟨hi,H_ _ _ h⟩) _ (a8 _);have c1W:=NC.aD (τ:=fu) ⟨U,H_⟩;have q1:(ae.take (ae.length-1)).length=ae.length-1:=by rw[g6];omega
   have yK:L.length<2^20/\(ae.take (ae.length-1)).length<2^20/\∀l∈ae.take (ae.length-1),l.length<2^20:=⟨hL.1,U,λl hl=>hL.2.2 l (pe hl)⟩
   have fin:∀ {eT eV:ad} {g5:Nat->Prop} {Un:aN},cM dr eT->ll eV m g5 (L++[{Un with bK:=(ae.take (ae.length-1)).length-1}]) ((ae.take (ae.length-1)).set ((ae.take (ae.length-1)).length-1) ((ae.take (ae.length-1)).getD ((ae.take (ae.length-1)).length-1) []++[L.length+1])) (au.take (ae.length-1))->oZ bU g5 eT eV->ll eV m g5 (L++[{Un with bK:=ae.length-2}]) ((ae.take (ae.length-1)).set (ae.length-2) (ae.getD (ae.length-2) []++[L.length+1])) (au.take (ae.length-1))/\oZ bU g5 J eV:=λ{eT eV g5 Un} M h cq=>by
    rw[q1] at h;have e:(ae.take (ae.length-1)).getD (ae.length-1-1) []=ae.getD (ae.length-2) []:=by
     rw[jA (by rw[q1];omega),jA U,sW];rfl
    rw[e] at h;refine⟨h,by have:=cq.next;have:=M.1;omega,λc o aa ho=>cq.aD _ _ aa (M.2 _ _ (DO _ _ (λe=>aa (e▸kn)) ho)),λc aa=>?_⟩;rcases cq.own c aa with h|h
    ·exact .inl h
    ·right;have:=M.1;omega
   by_cases tS:y.f= .cC
   ·have dS:y.f.op=2:=by rw[tS];rfl
    refine af ?_;refine W.bV (c:=[uB x.f.op,.s x.f.aW,.nilsl,so]) H I I I I λfG ly H fP=>?_;have c1X:=H.qx;refine af ?_;refine W.bS I I I (tO (op:=3) aA I I) λr gD ⟨ar,tT⟩=>⟨_,ar,?_⟩
    have H:=H.aD tT.2;have oM:=tT.1;refine af ?_;refine W.st (bc:=[ag 0,ag 0,.b false,.i .u8 3,.s [],.nilsl,.ao fu.next 0 1 (some 4) (some 1),.s w2,.ao eV.next 0 1 (some 2) (some 1)]) H 1 I I I I I I λh9 dc H c_=>?_;refine af ?_;refine W.st (bc:=[ag 0,ag 0,.b false,.i .u8 3,.s [],.nilsl,.ao fu.next 0 1 (some 4) (some 1),.s yJ,.ao eV.next 0 1 (some 2) (some 1)]) H 1 I I I I I I λg8 ne H j6=>?_;have a3b:∀i o,i≠hv.next->fu.get i=some o->g8.get i=some o:=λi o hi h=>j6 _ _ hi (c_ _ _ hi (tT.2 _ _ (fP _ _ h)));have Uo:∀i o,dr.get i=some o->g8.get i=some o:=λi o h=>a3b _ _ (by have:=ad.a9 h;omega) (H_ _ _ h);have c1Y:=NC.aD (τ:=g8) ⟨U,Uo⟩;have c1Z:kX (λi=>¬bU i) g8 (some 2) (.ao eV.next 0 1 (some 2) (some 1)) ([(first,L.length)].map λc=>.aj [ag c.1,ag c.2]):=.ao eV.next (some 1) [.aj [ag first,ag L.length]] [] (λh=>by have:=DP _ h;omega) (a3b _ _ U (by rw[<-eZ];exact ca _ _ c1T)) (λy hy=>by rw[cA.1 hy];rfl) (.inr I) ay;have c2a:=a3a.aD (τ:=g8) (λi c hi h=>⟨hi,Uo _ _ h⟩) _ (a8 _);have Ia:lM (λi=>¬bU i) g8 (pW x.f y.f first L.length) (.aj [ag 0,ag 0,.b false,.i .u8 3,.s [],.nilsl,.ao fu.next 0 1 (some 4) (some 1),.s yJ,.ao eV.next 0 1 (some 2) (some 1)]):=by
     unfold pW;rw[if_pos tS];refine .mk (.ao fu.next 0 1 (some 4) (some 1)) _ (.mk (.neg x.f) _ [.aj [uB x.f.op,.s x.f.aW,.nilsl,so]] I (.ao fu.next (some 1) [.aj [uB x.f.op,.s x.f.aW,.nilsl,so]] [] (λh=>by have:=DP _ h;omega) (j6 _ _ U (c_ _ _ U (tT.2 _ _ c1X))) (λy hy=>by rw[cA.1 hy];rfl) (.inr I) ay) λi h h'=>?_) c1Z
     match i,h,h' with
     |0,_,_=>exact c2a
    refine af ?_;refine W.bS I I I (H5 ha c1Y U yK Ia (by unfold pW;rw[if_pos tS];show x.f.dep+1<=400;omega)) λr n7 ⟨ar,g5,h1,h2⟩=>⟨_,ar,?_⟩
    refine af ?_;exact⟨.inr I,rfl,g5,fin ⟨U,Uo⟩ h1 h2⟩
   ·have dS:y.f.op≠2:=λh=>tS (by cases Up:y.f with
     |cC=>rfl
     | gb _=>rw[Up] at h;cases h
     |neg _=>rw[Up] at h;cases h
     |bin k _ _=>rw[Up] at h;have h:4+k.val=2:=h;omega)
    have Ia:lM (λi=>¬bU i) fu (pW x.f y.f first L.length) (.aj [ag 0,ag 0,.b false,.i .u8 6,.s [],.nilsl,.ao (q+2) 0 2 (some 4) (some 2),.s w2,.ao eV.next 0 1 (some 2) (some 1)]):=by
     unfold pW;rw[if_neg tS];refine .mk (.ao (q+2) 0 2 (some 4) (some 2)) _ (.mk (.bin 2 x.f y.f) _ [.aj [uB x.f.op,.s x.f.aW,.nilsl,so],.aj [uB y.f.op,.s y.f.aW,.nilsl,wz]] I (.ao (q+2) (some 2) [.aj [uB x.f.op,.s x.f.aW,.nilsl,so],.aj [uB y.f.op,.s y.f.aW,.nilsl,wz]] [] (λh=>by have:=DP _ h;omega) (ca _ _ (hH _ _ (j5.2 _ _ Ub))) (λy hy=>by rcases c2.1 hy with rfl|hy;rfl;rw[cA.1 hy];rfl) (.inr I) ay) λi h h'=>?_) fj
     match i,h,h' with
     |0,_,_=>exact c1U
     |1,_,_=>exact c1V
    refine af ?_;refine W.bS I I I (H5 ha c1W U yK Ia (by unfold pW;rw[if_neg tS];show max x.f.dep y.f.dep+1<=400;omega)) λr fG ⟨ar,g5,h1,h2⟩=>⟨_,ar,?_⟩
    refine af ?_;exact⟨.inr I,rfl,g5,fin ⟨U,H_⟩ h1 h2⟩
end
def qG(code:List Nat)(at_:Nat):Nat:=if at_<30 then code.getD at_ 0 else 0
def qH(code:List Nat)(at_:Nat):Nat:=if at_<code.length/\at_<30 then at_+1 else at_
section
variable {b:bJ}{K:Nat->List AV->AV->Prop}
def c2b(hh:a3 (b.aF K) ye F9){a c at_:Nat}{code:List Nat}{cI:AV}{J:ad}(aq:∀τ,Vw τ none cI (code.map uB))(hl:code.length<2^62)(hb:∀x∈code,x<256)(gi:at_<=30)(ha:J.get a=some (.cells [ag at_]))(aa:J.get c=some (.cells [cI]))(fU:a≠c):
  bb (b.aF K) 0 (.f (.func ye) [] [aw a,aw c]) [] J (λr τ=>r= .ok (ag (qG code at_))/\τ.get a=some (.cells [ag (qH code at_)])/\τ.next=J.next/\∀i o,i≠a->J.get i=some o->τ.get i=some o):=by
 refine W.code hh.e hh.p hh.f (by cbv) I I I λz=>?_;have H:Has J [(a,[ag at_]),(c,[cI])]:=(Has.nil.cons aa ay).cons ha (by simp;omega);have sl:=aq J;have eZ:(code.map uB).length=code.length:=bB _;refine af ?_;rw[eZ];by_cases h1:at_<code.length
 ·by_cases h2:at_<30
  ·refine af ?_;refine W.st (bc:=[ag (at_+1)]) H 0 I I I I I I λa5 c6 H bj=>?_;have sl:=aq a5;have hx:=hb _ (bC h1);refine af ?_;have e:(code.map uB)[at_+1-1]'(by rw[eZ];omega)=uB (code[at_]):=by rw[ez];rfl
   rw[e];refine W.val (v:=ag code[at_]) (ai:=a5) I I ?_ ?_
   ·show some (bO.val (.i .i64 (wrapN .i64 (Int.ofNat code[at_]))) a5)=_;rw[K6 U]
   refine af ?_;refine ah.ret ⟨rfl,?_,?_,c6,bj⟩
   ·unfold qG;rw[if_pos h2,jA h1];rfl
   ·unfold qH;rw[if_pos ⟨h1,h2⟩];exact H.qx
  ·refine af ?_;refine ah.ret ⟨rfl,?_,?_,rfl,λ_ _ _ h=>h⟩
   ·unfold qG;rw[if_neg h2];rfl
   ·unfold qH;rw[if_neg λh=>h2 h.2];exact ha
 ·refine af ?_;refine ah.ret ⟨rfl,?_,?_,rfl,λ_ _ _ h=>h⟩
  ·unfold qG;have:code.getD at_ 0=0:=by rw[fD,te U];rfl
   rw[this,ite_self];rfl
  ·unfold qH;rw[if_neg λh=>h1 h.1];exact ha
def c2c(hh:a3 (b.aF K) Dd Lu)(hl:a3 (b.aF K) GB F_)(ha:a3 (b.aF K) De CY){m ND:Nat}{bU:Nat->Prop}{L:List aN}{ae:List (List Nat)}{au:List Nat}{J:ad}(ct:ll J m bU L ae au)(c2d:J.get ND=some (.cells [aw m]))(d1t:¬bU ND)(bE:0<ae.length)(hL:L.length<2^20/\ae.length<2^20/\∀l∈ae,l.length<2^20){f:PF}{w:AV}(hf:e1 (λi=>¬bU i) J f (.aj [uB f.op,.s f.aW,.nilsl,w]))(hd:f.dep<=400){fR:List Nat}{l:List Nat}{v:AV}(aq:eL J v l)(eZ:l.length<2^20):
  bb (b.aF K) 0 (.f (.func Dd) [] [aw ND]) [.aj [uB f.op,.s f.aW,.nilsl,w],.s fR,v] J (λr τ=>r= .ok (.bg [])/\∃g5,ll τ m g5 (L++[⟨ae.length-1,0,false,f,fR,l.map λn=>(n,n)⟩]) (ae.set (ae.length-1) (ae.getD (ae.length-1) []++[L.length+1])) au/\oZ bU g5 J τ):=by
 refine W.mV hh.e hh.p hh.f (by cbv) I I λz=>?_;have H:Has J [(ND,[aw m])]:=Has.nil.cons c2d ay;have DP:=ct.lt;have hw:w.cells=[w]/\w.val=true:=by
  cases hf with
  |mk _ w xs h1 h2 h3=>exact⟨h2.one.1,h2.one.2.1⟩
 refine af ?_;generalize aS:J.next=q;refine W.bN (c:=[uB f.op,.s f.aW,.nilsl,w]) H aS I I I I I λτ cy H bl=>?_;refine af ?_;refine W.bS I I I (c1E (d:=0) (op:=f.op) hl hw.1 hw.2 (aq.aD λi o _=>bl i o) eZ) λr a5 ⟨gf,ar,Ua,M2⟩=>⟨_,ar,?_⟩
 have H:=H.aD M2.2;have ji:=M2.1;refine af ?_;refine W.kk (c:=[ag 0,ag 0,.b false,uB f.op,.s f.aW,.nilsl,w,.s fR,gf]) H I I I I I I I λbu dx H k3=>?_;have cG:∀i o,J.get i=some o->bu.get i=some o:=λi o h=>k3 _ _ (M2.2 _ _ (bl _ _ h));have sB:=ct.aD (τ:=bu) ⟨U,cG⟩;have Ia:lM (λi=>¬bU i) bu ⟨0,0,false,f,fR,l.map λn=>(n,n)⟩ (.aj [ag 0,ag 0,.b false,uB f.op,.s f.aW,.nilsl,w,.s fR,gf]):=.mk w gf (hf.aD (λi c hi h=>⟨hi,cG _ _ h⟩) _ (a8 _)) (by
  have:=Ua.aD (τ:=bu) (W':=λi=>¬bU i) λi c hi h=>⟨λhm=>by have:=DP _ hm;omega,k3 _ _ h⟩
  rw[kq];exact this)
 refine af ?_;refine W.bS I I I (H5 ha sB bE hL Ia hd) λr b3 ⟨ar,g5,h1,h2⟩=>⟨_,ar,?_⟩
 refine af ?_;exact⟨.inr I,rfl,g5,h1,by have:=h2.next;omega,λc o aa ho=>h2.aD _ _ aa (cG _ _ ho),λc aa=>(h2.own c aa).imp id λh=>⟨U,h.2⟩⟩
end
end
def rD(fW:List (Nat×List AV))(aR:List Nat):kB:=aR.flatMap λk=>fW.map λp=>(k,p.1,.cells p.2)
def Uq{fW:List (Nat×List AV)}{aR:List Nat}{k:Nat}{p:Nat×List AV}(h1:k∈aR)(h2:p∈fW):(k,p.1,.cells p.2)∈rD fW aR:=uo.2 ⟨k,h1,cT.2 ⟨p,h2,rfl⟩⟩
def dy.DQ{env:Env}{D:List (Nat ⊕ (AV×List AV))}{n N:Nat}{cu mW:kB}{ops:List a2}{f:Nat->AV}{J:ad}{Q:dO}(al:∀p∈cu,p∈mW)(h:dy env D n N mW ops f J Q):dy env D n N cu ops f J Q:=λae bE=>by
 obtain⟨e7,outs,cm,bz,bx⟩:=h ae bE;refine⟨e7,outs,cm,bz,λF bL=>?_⟩;obtain⟨L,e,bX,cS⟩:=bx F bL;exact⟨L,e,bX,λx hx=>⟨(cS x hx).x6,λp an=>(cS x hx).cu p (al p an),(cS x hx).wx⟩⟩
structure iY(J:ad)(fW:List (Nat×List AV)):Prop where
 get:∀p∈fW,J.get p.1=some (.cells p.2)
def iY.nil{J:ad}:iY J []:=⟨λ_ h=>absurd h ay⟩
def iY.cons{J:ad}{fW:List (Nat×List AV)}{k:Nat}{c:List AV}(h:iY J fW)(aB:J.get k=some (.cells c)):iY J ((k,c)::fW):=⟨λp an=>by
 rcases c2.1 an with rfl|an
 ·exact aB
 ·exact h.get p an⟩
def iY.aD{J τ:ad}{fW:List (Nat×List AV)}(h:iY J fW)(k:∀i o,J.get i=some o->τ.get i=some o):iY τ fW:=⟨λp an=>k _ _ (h.get p an)⟩
def Has.b{J:ad}{fW:List (Nat×List AV)}(h:Has J fW):iY J fW:=⟨h.get⟩
def Ptr(fW:List (Nat×List AV))(ab:Option Nat)(p v:AV):Prop:=(∃o,p= .df o v/\conf ab v=true)\/∃id off c,p= .p (some (id,off))/\(id,c)∈fW/\dE ab (c.drop off)=some v
namespace W
section
variable {env:Env}{aK:Option Nat}{D:List (Nat ⊕ (AV×List AV))}{n N:Nat}{F:List (Nat×AV)}{z:Nat->AV}{J:ad}{Q:dO}{fW:List (Nat×List AV)}{aR:List Nat}
def yL(fW:List (Nat×List AV))(aR:List Nat)(N:Nat){ops:List a2}(dP:Nat.beq ops.length N=true)(al:swapT ops=true)(h:bM (.dp N (rD fW aR)) env aK D n ops (bs F z) J Q):bo env aK D n (.draw ops) (bs F z) J Q:=by
 obtain rfl:=gE dP;exact ah.R0 al (dy.DQ (mW:=rD fW aR) (λp an=>by simp at an) h)
def Ur(HB:iY J fW){d:Nat}{ab:Option Nat}{x:aJ}{g:Option (Nat×Bool)}{wn:List Nat}{ops:List a2}{id off:Nat}{c:List AV}{v:AV}(hm:(id,c)∈fW)(lH:cN (x5 aR) wn=true)(hd:Nat.blt d n=true)(hw:wtL g n F=true)(h1:cL env n F z x=some (.p (some (id,off))))(h2:dE ab (c.drop off)=some v)(aq:AV.eqb env.bh v v=true)
  (h:bM (.dp N (rD fW aR)) env aK D n ops (bs ((d,v)::F) z) J Q):bM (.dp N (rD fW aR)) env aK D n (⟨some d,.load ab x,g,wn⟩::ops) (bs F z) J Q:=
 AA (HB.get _ hm) hd hw h1 h2 aq (dy.DQ (cu:=wn.map (λq=>(q,id,AO.cells c))++rD fW aR) (λp an=>by
  rcases eX.1 an with an|an
  ·obtain⟨q,aS,rfl⟩:=cT.1 an;exact Uq (p:=(id,c)) (Ld (nv lH q aS)) hm
  ·exact an) h)
def vr{d:Nat}{ab:Option Nat}{x:aJ}{g:Option (Nat×Bool)}{wn:List Nat}{ops:List a2}{id off:Nat}{c:List AV}{v:AV}(al:J.get id=some (.cells c))(hm:(id,c)∈fW)(lH:cN (x5 aR) wn=true)(hd:Nat.blt d n=true)(hw:wtL g n F=true)(h1:cL env n F z x=some (.p (some (id,off))))(h2:dE ab (c.drop off)=some v)(aq:AV.eqb env.bh v v=true)
  (h:bM (.dp N (rD fW aR)) env aK D n ops (bs ((d,v)::F) z) J Q):bM (.dp N (rD fW aR)) env aK D n (⟨some d,.load ab x,g,wn⟩::ops) (bs F z) J Q:=
 AA al hd hw h1 h2 aq (dy.DQ (cu:=wn.map (λq=>(q,id,AO.cells c))++rD fW aR) (λp an=>by
  rcases eX.1 an with an|an
  ·obtain⟨q,aS,rfl⟩:=cT.1 an;exact Uq (p:=(id,c)) (Ld (nv lH q aS)) hm
  ·exact an) h)
def c2e{Us:List (Nat×List AV)}(HB:iY J Us)(dM:∀x∈Us,x∈fW){d:Nat}{ab:Option Nat}{x:aJ}{g:Option (Nat×Bool)}{wn:List Nat}{ops:List a2}{p v:AV}(an:Ptr Us ab p v)(lH:cN (x5 aR) wn=true)(kA:cN (λq=>Nat.ble N (q+ops.length)&&Nat.ble q N) wn=true)(hd:Nat.blt d n=true)(hw:wtL g n F=true)(h1:cL env n F z x=some p)(aq:AV.eqb env.bh v v=true)
  (h:bM (.dp N (rD fW aR)) env aK D n ops (bs ((d,v)::F) z) J Q):bM (.dp N (rD fW aR)) env aK D n (⟨some d,.load ab x,g,wn⟩::ops) (bs F z) J Q:=by
 rcases an with⟨o,rfl,aa⟩|⟨id,off,c,rfl,h3,aH⟩
 ·exact pM kA hd hw (λs=>nZ _ _ h1 (by show(if conf ab v then some v else none)=_;rw[if_pos aa])) aq h
 ·exact vr (HB.get _ h3) (dM _ h3) lH hd hw h1 aH aq h
def Ut(cu:kB)(N:Nat){ops:List a2}(dP:Nat.beq ops.length N=true)(al:swapT ops=true)(h:bM (.dp N cu) env aK D n ops (bs F z) J Q):bo env aK D n (.draw ops) (bs F z) J Q:=by
 obtain rfl:=gE dP;exact ah.R0 al (dy.DQ (mW:=cu) (λp an=>by simp at an) h)
def su{cu:kB}{d:Nat}{ab:Option Nat}{x:aJ}{g:Option (Nat×Bool)}{wn:List Nat}{ops:List a2}{id off:Nat}{c:List AV}{v:AV}(al:J.get id=some (.cells c))(hm:∀q∈wn,(q,id,.cells c)∈cu)(hd:Nat.blt d n=true)(hw:wtL g n F=true)(h1:cL env n F z x=some (.p (some (id,off))))(h2:dE ab (c.drop off)=some v)(aq:AV.eqb env.bh v v=true)
  (h:bM (.dp N cu) env aK D n ops (bs ((d,v)::F) z) J Q):bM (.dp N cu) env aK D n (⟨some d,.load ab x,g,wn⟩::ops) (bs F z) J Q:=
 AA al hd hw h1 h2 aq (dy.DQ (cu:=wn.map (λq=>(q,id,AO.cells c))++cu) (λp an=>by
  rcases eX.1 an with an|an
  ·obtain⟨q,aS,rfl⟩:=cT.1 an;exact hm q aS
  ·exact an) h)
def NF{cu mW:kB}(k:Nat){ops:List a2}(aB:Nat.beq (k+ops.length) N=true)(hh:∀p∈cu,(p.1=k/\J.get p.2.1=some p.2.2)\/p∈mW)(h:bM (.dp N mW) env aK D n ops (bs F z) J Q):bM (.dp N cu) env aK D n ops (bs F z) J Q:=λae bE=>by
 obtain⟨e7,outs,cm,bz,bx⟩:=h ae bE;refine⟨e7,outs,cm,bz,λF bL=>?_⟩;obtain⟨L,e,bX,cS⟩:=bx F bL;refine⟨L,e,bX,λx hx=>⟨(cS x hx).x6,λp an=>?_,(cS x hx).wx⟩⟩;obtain⟨t,aQ,_⟩:=(cS x hx).x6;rcases hh p an with⟨e,h⟩|h
 ·exact⟨0,J,by rw[e,gE aB];rfl,by rw[aQ];rfl,h⟩
 ·exact(cS x hx).cu p h
def Uu(HB:iY J fW){cb:jv}{d:Nat}{ab:Option Nat}{x:aJ}{g:Option (Nat×Bool)}{ops:List a2}{p v:AV}(an:Ptr fW ab p v)(hd:Nat.blt d n=true)(hw:wtL g n F=true)(h1:cL env n F z x=some p)(h:bM cb env aK D n ops (bs ((d,v)::F) z) J Q):bM cb env aK D n (⟨some d,.load ab x,g,[]⟩::ops) (bs F z) J Q:=by
 rcases an with⟨o,rfl,aa⟩|⟨id,off,c,rfl,h3,aH⟩
 ·exact K7 hd hw h1 aa h
 ·exact sD (HB.get _ h3) hd hw h1 aH h
def ob{k:Nat}{ops:List a2}(HB:iY J fW)(aB:Nat.beq (k+ops.length) N=true)(h:bM (.dp N (rD fW aR)) env aK D n ops (bs F z) J Q):bM (.dp N (rD fW (k::aR))) env aK D n ops (bs F z) J Q:=λae bE=>by
 obtain⟨e7,outs,cm,bz,bx⟩:=h ae bE;refine⟨e7,outs,cm,bz,λF bL=>?_⟩;obtain⟨L,e,bX,cS⟩:=bx F bL;refine⟨L,e,bX,λx hx=>⟨(cS x hx).x6,λp an=>?_,(cS x hx).wx⟩⟩;obtain⟨t,aQ,_⟩:=(cS x hx).x6;obtain⟨fh,JY,an⟩:=uo.1 an;obtain⟨q,aS,rfl⟩:=cT.1 an;rcases c2.1 JY with rfl|JY
 ·exact⟨0,J,gE aB,by rw[aQ];rfl,HB.get _ aS⟩
 ·exact(cS x hx).cu _ (Uq JY aS)
end
end W
def gM{P R:Prop}(k:R)(h:Hid R->P:=by
 intro k
 repeat (first
  |refine W.go I I I I ?_
  |refine W.off I I ?_
  |(refine W.Lk ?_;first|refine W.lt I I I I ?_|refine W.lt I I I m2 ?_|(refine W.cK (c:=?_) (v:=?_) H I I I ?_ ?_ ?_;rotate_left 2;(repeat (first|exact .head _|refine .tail _ ?_));exact rfl)|refine W.le I I I (lj.cK (by assumption) (by omega)) ?_|refine W.le I I I (Vw.cK (by assumption) (by omega)) ?_)
  |(refine W.Ll ?_;first|refine W.F4 I I I I (by simp only[W.cmpP,fw,hr];first|done|omega|exact id|exact λh=>h trivial) ?_|refine W.gA I I I I I (by simp only[W.cmpP,fw,hr];first|done|omega|exact id|exact λh=>h trivial) ?_|refine W.bin I I I I (MR (by omega)) ?_|refine W.bin I I I I (MS (by omega) (by omega)) ?_|refine W.bin I I I I (rm (by omega)) ?_|refine W.bin I I I I (oH (by omega) (by omega)) ?_)
  |(refine W.Lm ?_;first|refine W.eg I I I I (Dt (by omega)) ?_|refine W.eg I I I I (CO (by omega)) ?_|refine W.eg I I I I (lj.eg (by assumption) (by omega)) ?_|refine W.eg I I I I (Vw.eg (by assumption) (by omega)) ?_)
  |(refine W.Ln ?_;first|refine W.len I I I MP ?_|refine W.len I I I K9 ?_|refine W.len I I I (lj.len (by assumption) _) ?_|refine W.len I I I (Vw.len (by assumption) _) ?_|refine W.len I I I I ?_)
  |(refine W.R4 ?_;first|(refine W.Ur (c:=?_) (v:=?_) HB ?_ I I I I ?_ ?_ ?_;rotate_left 2;(repeat (first|exact .head _|refine .tail _ ?_));exact rfl;first|exact eo rfl|exact Lp I))
  |refine W.CV ?_)
 exact k.out):P:=h ⟨k⟩
def tU{P R:Prop}(k:R)(h:Hid R->P:=by
 intro k
 repeat (first
  |refine W.go I I I I ?_
  |refine W.off I I ?_
  |(refine W.Lk ?_;first|refine W.lt I I I I ?_|refine W.lt I I I m2 ?_|(refine W.cK (c:=?_) (v:=?_) H I I I ?_ ?_ ?_;rotate_left 2;(repeat (first|exact .head _|refine .tail _ ?_));exact rfl)|refine W.le I I I (lj.cK (by assumption) (by omega)) ?_|refine W.le I I I (Vw.cK (by assumption) (by omega)) ?_)
  |(refine W.Ll ?_;first|refine W.F4 I I I I (by simp only[W.cmpP,fw,hr];first|done|omega|exact id|exact λh=>h trivial) ?_|refine W.gA I I I I I (by simp only[W.cmpP,fw,hr];first|done|omega|exact id|exact λh=>h trivial) ?_|refine W.bin I I I I (MR (by omega)) ?_|refine W.bin I I I I (MS (by omega) (by omega)) ?_|refine W.bin I I I I (rm (by omega)) ?_|refine W.bin I I I I (oH (by omega) (by omega)) ?_)
  |(refine W.Lm ?_;first|refine W.eg I I I I (Dt (by omega)) ?_|refine W.eg I I I I (CO (by omega)) ?_|refine W.eg I I I I (lj.eg (by assumption) (by omega)) ?_|refine W.eg I I I I (Vw.eg (by assumption) (by omega)) ?_)
  |(refine W.Ln ?_;first|refine W.len I I I MP ?_|refine W.len I I I K9 ?_|refine W.len I I I (lj.len (by assumption) _) ?_|refine W.len I I I (Vw.len (by assumption) _) ?_|refine W.len I I I I ?_)
  |refine W.sq ?_|refine W.rg ?_|refine W.F3 ?_|refine ah.block (a:=.seq _ _) ?_|refine ah.block (a:=.region _) ?_|refine ah.block (a:=.draw _) ?_|refine ah.block (a:=.cond _ _ _) ?_
  |refine W.nil ?_
  |refine W.mX I ?_|refine W.oL I ?_)
 exact k.out):P:=h ⟨k⟩
section
attribute [local irreducible] bM bo da dy bb
def rE:PF:=.gb false
def tV:PF:=.gb true
def NG:List PF:=[rE,tV,.bin 2 rE tV,.bin 1 rE tV,.neg rE,.bin 0 rE tV,.cC,.bin 2 tV rE]
def e2(n:Nat):PF:=NG.getD (n%8) .cC
abbrev kY:List AV:=[.i .u8 1,.s [80],.nilsl,.nilsl]
abbrev mz:List AV:=[.i .u8 1,.s [81],.nilsl,.nilsl]
section
variable {b:bJ}{K:Nat->List AV->AV->Prop}
def NH(hh:a3 (b.aF K) Mr Lt)(aA:a3 (b.aF K) Df CZ)(ha:a3 (b.aF K) GA Gc)(n:Nat)(hn:n<2^62){J:ad}:
  bb (b.aF K) 0 (.f (.func Mr) [] []) [ag n] J (λr τ=>∃w,r= .ok (.aj [.i .u8 (Int.ofNat (e2 n).op),.s (e2 n).aW,.nilsl,w])/\e1 (λi=>J.next<=i) τ (e2 n) (.aj [.i .u8 (Int.ofNat (e2 n).op),.s (e2 n).aW,.nilsl,w])/\cM J τ):=by
 refine W.m3 hh.e hh.p hh.f (by cbv) I I λz=>?_;have H:Has J []:=Has.nil;refine af ?_;generalize aS:J.next=q;refine W.b6 (c:=[.i .u8 0,.s [],.nilsl,.nilsl]) H aS I I I λτ cy H bl=>?_;refine af ?_;refine W.bS I I I (a2O ha) λr a5 ⟨ar,M2⟩=>⟨_,ar,?_⟩
 have H:=H.aD M2.2;have ji:=M2.1;refine af ?_;refine W.bS I I I (a2O ha) λr bu ⟨ar,ey⟩=>⟨_,ar,?_⟩
 have H:=H.aD ey.2;have rf:=ey.1;generalize a2V:bu.next=o3 at *;refine W.b6 (c:=[.i .u8 0,.s [],.nilsl,.nilsl]) H a2V I I I λb3 eC H bI=>?_;refine af ?_;refine W.b6 (c:=[.i .u8 0,.s [],.nilsl,.nilsl]) H eC I I I λcW gw H cP=>?_;refine W.st (bc:=kY) H 1 I I I I I I λdr h5 H dI=>?_;refine W.st (bc:=mz) H 0 I I I I I I λeT j0 H fZ=>?_;have c2f:∀i o,J.get i=some o->eT.get i=some o:=λi o h=>fZ _ _ (by have:=ad.a9 h;omega) (dI _ _ (by have:=ad.a9 h;omega) (cP _ _ (bI _ _ (ey.2 _ _ (M2.2 _ _ (bl _ _ h))))));refine W.nil ?_;refine W.sq ?_;have iS:eT.next=o3+2:=by omega
 have c2g:=H.get (o3,kY) ay;have c2h:=H.get (o3+1,mz) ay;have HB:iY eT [(o3,kY),(o3+1,mz)]:=(iY.nil.cons c2h).cons c2g;refine W.yL [(o3,kY),(o3+1,mz)] [18,19,20,21,22,23,27] 28 I I ?_;refine gM ?_;refine W.bV (c:=kY++mz) H I I I I λeV oD H j8=>?_;have HB:=HB.aD j8;refine gM ?_;refine W.bV (c:=kY++mz) H I I I I λhv oE H hH=>?_;have HB:=HB.aD hH;refine gM ?_;refine W.bV (c:=kY) H I I I I λfu mr H ca=>?_;have HB:=HB.aD ca;refine gM ?_;refine W.bV (c:=kY++mz) H I I I I λfG ly H fP=>?_;have HB:=HB.aD fP;refine gM ?_;refine W.bV (c:=mz++kY) H I I I I λgD pv H jg=>?_;have HB:=HB.aD jg;refine gM ?_;refine W.bin I I I I (Af (c:=8) b_) ?_;refine W.ob HB I ?_;refine W.bS I I I (tO (op:=6) aA I I) λr h9 ⟨ar,jv⟩=>⟨_,ar,?_⟩
 have H:=H.aD jv.2;have HB:=HB.aD jv.2;have cb:=jv.1;refine W.ob HB I ?_;refine W.bS I I I (tO (op:=5) aA I I) λr g8 ⟨ar,vs⟩=>⟨_,ar,?_⟩
 have H:=H.aD vs.2;have HB:=HB.aD vs.2;have c2i:=vs.1;refine W.ob HB I ?_;refine W.bS I I I (tO (op:=3) aA I I) λr n7 ⟨ar,NI⟩=>⟨_,ar,?_⟩
 have H:=H.aD NI.2;have HB:=HB.aD NI.2;have Ib:=NI.1;refine W.ob HB I ?_;refine W.bS I I I (tO (op:=4) aA I I) λr AQ ⟨ar,NJ⟩=>⟨_,ar,?_⟩
 have H:=H.aD NJ.2;have HB:=HB.aD NJ.2;have d1u:=NJ.1;refine W.ob HB I ?_;refine W.bS I I I (tO (op:=2) aA I I) λr NK ⟨ar,NL⟩=>⟨_,ar,?_⟩
 have H:=H.aD NL.2;have HB:=HB.aD NL.2;have d1v:=NL.1;refine W.ob HB I ?_;refine W.bS I I I (tO (op:=6) aA I I) λr NM ⟨ar,NN⟩=>⟨_,ar,?_⟩
 have H:=H.aD NN.2;have HB:=HB.aD NN.2;have gL:=NN.1
 let xs:List AV:=[.aj kY,.aj mz,.aj [.i .u8 6,.s [],.nilsl,.ao eT.next 0 2 (some 4) (some 2)],.aj [.i .u8 5,.s [],.nilsl,.ao eV.next 0 2 (some 4) (some 2)],.aj [.i .u8 3,.s [],.nilsl,.ao hv.next 0 1 (some 4) (some 1)],.aj [.i .u8 4,.s [],.nilsl,.ao fu.next 0 2 (some 4) (some 2)],.aj [.i .u8 2,.s [],.nilsl,.nilsl],.aj [.i .u8 6,.s [],.nilsl,.ao fG.next 0 2 (some 4) (some 2)]]
 refine W.bV (c:=xs.flatMap AV.cells) H I I I I λw5 c2j H DR=>?_;have HB:=HB.aD DR;have dG:Sl w5 (some 4) (.ao NM.next 0 8 (some 4) (some 8)) xs:=.ao NM.next (some 8) xs [] (by rw[hI];exact H.qx) (λy hy=>by
  simp only[xs,c2,hj,or_false] at hy;rcases hy with rfl|rfl|rfl|rfl|rfl|rfl|rfl|rfl<;>rfl) (.inr I)
 have DS:n%8<8:=A6 _ b_;obtain⟨o,dd,hZ,gi,mq,lX,oK,fv⟩:=dG.gb (j:=n%8) (by show n%8<8;exact DS);refine W.eg I I I I mq ?_;refine W.sD lX I I I fv ?_;refine W.ob HB I ?_;have hR:∃w,xs[n%8]'(by show n%8<8;exact DS)= .aj [.i .u8 (Int.ofNat (e2 n).op),.s (e2 n).aW,.nilsl,w]/\∀jO:ad,(∀i o,q<i->w5.get i=some o->jO.get i=some o)->e1 (λi=>q<=i) jO (e2 n) (.aj [.i .u8 (Int.ofNat (e2 n).op),.s (e2 n).aW,.nilsl,w]):=by
  have fN:=H.get (eT.next,kY++mz) ay;have ga:=H.get (eV.next,kY++mz) ay;have tJ:=H.get (hv.next,kY) ay;have c2k:=H.get (fu.next,kY++mz) ay;have Uv:=H.get (fG.next,mz++kY) ay;have DT:∀jO:ad,e1 (λi=>q<=i) jO rE (.aj kY):=λjO=>.mk rE .nilsl [] I .nil λi h=>by simp at h
  have Ic:∀jO:ad,e1 (λi=>q<=i) jO tV (.aj mz):=λjO=>.mk tV .nilsl [] I .nil λi h=>by simp at h
  have two:∀(a c:PF) (DU DV:List AV),(∀y,y=AV.aj DU\/y=AV.aj DV->conf (some 4) y=true)->∀(k:Fin 3) (id:Nat),q<id->w5.get id=some (.cells (DU++DV))->(∀jO,e1 (λi=>q<=i) jO a (.aj DU))->(∀jO,e1 (λi=>q<=i) jO c (.aj DV))->∀jO:ad,(∀i o,q<i->w5.get i=some o->jO.get i=some o)->e1 (λi=>q<=i) jO (.bin k a c) (.aj [.i .u8 (Int.ofNat (PF.bin k a c).op),.s (PF.bin k a c).aW,.nilsl,.ao id 0 2 (some 4) (some 2)]):=λa c DU DV aa k id h1 h2 h3 aH jO aB=>
   .mk (.bin k a c) _ [.aj DU,.aj DV] I (.ao id (some 2) [.aj DU,.aj DV] [] (show q<=id by omega) (aB _ _ h1 (by rw[h2];simp[AV.cells])) (λy hy=>aa y (by simpa using hy)) (.inr I) ay) λi h h'=>by
    match i,h with
    |0,_=>exact h3 jO
    |1,_=>exact aH jO
  have Uw:∀y,y=AV.aj kY\/y=AV.aj mz->conf (some 4) y=true:=λy hy=>by rcases hy with rfl|rfl<;>rfl
  have c2l:∀y,y=AV.aj mz\/y=AV.aj kY->conf (some 4) y=true:=λy hy=>by rcases hy with rfl|rfl<;>rfl
  unfold e2;generalize n%8=j at DS
  match j,DS with
  |0,_=>exact⟨_,rfl,λjO _=>DT jO⟩
  |1,_=>exact⟨_,rfl,λjO _=>Ic jO⟩
  |2,_=>exact⟨_,rfl,two rE tV kY mz Uw 2 _ U fN DT Ic⟩
  |3,_=>exact⟨_,rfl,two rE tV kY mz Uw 1 _ U ga DT Ic⟩
  |4,_=>exact⟨_,rfl,λjO aB=>.mk (.neg rE) _ [.aj kY] I (.ao _ (some 1) [.aj kY] [] (show q<=hv.next by omega) (aB _ _ U tJ) (λy hy=>by rw[cA.1 hy];rfl) (.inr I) ay) λi h h'=>by
    match i,h with
    |0,_=>exact DT jO⟩
  |5,_=>exact⟨_,rfl,two rE tV kY mz Uw 0 _ U c2k DT Ic⟩
  |6,_=>exact⟨_,rfl,λjO _=>.mk .cC .nilsl [] I .nil λi h=>by simp at h⟩
  |7,_=>exact⟨_,rfl,two tV rE mz kY c2l 2 _ U Uv Ic DT⟩
 obtain⟨w,hw,bL⟩:=hR;rw[hw];have c2m:=H.get (q,[.i .u8 0,.s [],.nilsl,.nilsl]) ay;have c2n:Has w5 [(q,[.i .u8 0,.s [],.nilsl,.nilsl])]:=Has.nil.cons c2m ay;have Ie:=bL w5 λ_ _ _ h=>h;have lB:w.cells=[w]/\w.val=true:=by
  cases Ie with
  |mk _ w xs h1 h2 h3=>exact⟨h2.one.1,h2.one.2.1⟩
 refine W.st (bc:=[.i .u8 (Int.ofNat (e2 n).op),.s (e2 n).aW,.nilsl,w]) c2n 0 I I I I I I λjO c2o H cG=>?_;refine af ?_;refine ah.ret ⟨rfl,_,qC (gl I (H.qx) (v:=.aj [.i .u8 (Int.ofNat (e2 n).op),.s (e2 n).aW,.nilsl,w]) ?_),w,rfl,bL jO λi o hi h=>cG _ _ U h,U,λi o h=>?_⟩
 ·rfl
 ·have hi:=ad.a9 h;exact cG _ _ U (DR _ _ (NN.2 _ _ (NL.2 _ _ (NJ.2 _ _ (NI.2 _ _ (vs.2 _ _ (jv.2 _ _ (jg _ _ (fP _ _ (ca _ _ (hH _ _ (j8 _ _ (c2f _ _ h)))))))))))))
end
end
def Ig:List Nat:=[97,110,100,73]
def Ih:List Nat:=[111,114,73,49]
def jP(q:Bool):List Nat:=[97,110,100,69,cond q 50 49]
def w6:List Nat:=[105,109,112,69]
def w7:List Nat:=[110,111,116,69]
def a3c:List Nat:=[97,103,97,105,110]
def Ii:List Nat:=[102,97,108,115,101,69]
def ko(L:List aN)(a:Nat)(f:PF):Prop:=∃x,L[a-1]? =some x/\x.f=f
inductive rF(L:List aN)(C:Nat->Prop):PF->List Nat->List Nat->Prop
 |and {a c f g}:C a->C c->ko L a f->ko L c g->f.b1+g.b1<40->rF L C (.bin 0 f g) Ig [a,c]
 |or {a f} (n):C a->ko L a f->f.b1<40->rF L C (.bin 1 f (e2 n)) Ih [a]
 |jP {a f g} (q:Bool):C a->ko L a (.bin 0 f g)->rF L C (cond q g f) (jP q) [a]
 |imp {a c f g}:C a->C c->ko L a (.bin 2 f g)->ko L c f->rF L C g w6 [a,c]
 |not {a c f}:C a->C c->ko L a f->ko L c (.neg f)->rF L C .cC w7 [a,c]
 |again {a f}:C a->ko L a f->rF L C f a3c [a]
 |w8 {a} (n):C a->ko L a .cC->rF L C (e2 n) Ii [a]
def w9(n:Nat):aN:=⟨0,0,true,e2 n,[],[]⟩
inductive rG(L:List aN):List (List Nat)->List Nat->aN->List (List Nat)->List Nat->Prop
 |w9 (f:List Nat) (n:Nat):(∀x∈L,x.hyp=true/\x.bK=0)->L.length<3->rG L [f] [0] (w9 n) [f++[L.length+1]] [0]
 |yM (ae:List (List Nat)) (au:List Nat) (n:Nat):L≠[]->ae.length<5->rG L ae au ⟨ae.length,1,true,e2 n,[],[]⟩ (ae++[[L.length+1]]) (au++[L.length+1])
 |vf (F:List (List Nat)) (f:List Nat) (au:List Nat) {g:PF} {fR l:List Nat}:L≠[]->rF L (λc=>∃k∈F++[f],c∈k) g fR l->rG L (F++[f]) au ⟨F.length,0,false,g,fR,l.map λn=>(n,n)⟩ (F++[f++[L.length+1]]) au
 |shut (F:List (List Nat)) (e f:List Nat) (au:List Nat) (first:Nat) {x y:aN}:L[first-1]? =some x->L[L.length-1]? =some y->rG L (F++[e,f]) (au++[first]) {pW x.f y.f first L.length with bK:=F.length} (F++[e++[L.length+1]]) au
inductive Rd:List aN->List (List Nat)->List Nat->Prop
 |nil:Rd [] [[]] [0]
 |step {L ae au x bZ fc}:Rd L ae au->rG L ae au x bZ fc->Rd (L++[x]) bZ fc
def c2p(n:Nat):e2 n∈NG:=by
 unfold e2;have h:n%8<NG.length:=A6 _ b_;rw[fD,cp h];exact bC h
def yN(n:Nat):(e2 n).dep<=2/\(e2 n).b1<=3:=by
 have h:∀f∈NG,f.dep<=2/\f.b1<=3:=by decide
 exact h _ (c2p n)
structure yO(L:List aN)(ae:List (List Nat))(au:List Nat):Prop where
 len:au.length=ae.length
 ne:0<ae.length
 le:ae.length<=5
 mem:∀f∈ae,∀c∈f,1<=c/\c<=L.length
 sum:(ae.map List.length).sum<=L.length
 last:L≠[]->(∃F f,ae=F++[f]/\L.length∈f)/\∀y,L[L.length-1]? =some y->y.bK=ae.length-1
 Ij:L≠[]->∀f∈ae,f≠[]
 dep:∀x∈L,x.f.dep<=2+L.length
 b1:∀x∈L,x.f.b1<=44+4*L.length
 fst:∀k first,1<=k->au[k]? =some first->1<=first/\∃n,L[first-1]? =some ⟨k,1,true,e2 n,[],[]⟩
def a3d{α:Type}{L:List α}{x y:α}{i:Nat}(h:L[i]? =some y):(L++[x])[i]? =some y:=by
 obtain⟨h1,h2⟩:=fH.1 h;rw[yq h1];exact h
def a3e{α:Type}{L:List α}{x:α}:(L++[x])[L.length+1-1]? =some x:=by simp
def ko.mem{L:List aN}{a:Nat}{f:PF}(h:ko L a f):∃x∈L,x.f=f:=by
 obtain⟨x,h1,h2⟩:=h;exact⟨x,eY h1,h2⟩
def rF.le{L:List aN}{C:Nat->Prop}{g:PF}{fR l:List Nat}(h:rF L C g fR l)(hd:∀x∈L,x.f.dep<=2+L.length)(al:∀x∈L,x.f.b1<=44+4*L.length):g.dep<=3+L.length/\g.b1<=44+4*L.length:=by
 have bL:∀ {a f},ko L a f->f.dep<=2+L.length/\f.b1<=44+4*L.length:=λh=>by
  obtain⟨x,h1,rfl⟩:=h.mem;exact⟨hd x h1,al x h1⟩
 cases h with
 |and _ _ h1 h2 h3=>
  have:=bL h1;have:=bL h2;exact⟨by show max _ _+1<=_;omega,by show _+_+1<=_;omega⟩
 |or n _ h1 h3=>
  have:=bL h1;have:=yN n;exact⟨by show max _ _+1<=_;omega,by show _+_+1<=_;omega⟩
 |jP q _ h1=>
  have h:=bL h1;have h2:max _ _+1<=_:=h.1;have h3:_+_+1<=_:=h.2;cases q
  ·exact⟨by show PF.dep _<=_;simp only[cond_false];omega,by simp only[cond_false];omega⟩
  ·exact⟨by simp only[cond_true];omega,by simp only[cond_true];omega⟩
 |imp _ _ h1 _=>
  have h:=bL h1;have h2:max _ _+1<=_:=h.1;have h3:_+_+1<=_:=h.2;exact⟨U,U⟩
 |not=>exact⟨by show 1<=_;omega,by show 1<=_;omega⟩
 |again _ h1=>have:=bL h1;exact⟨U,U⟩
 |w8 n _ _=>have:=yN n;exact⟨U,U⟩
def yP(a c:PF)(first last k:Nat):({pW a c first last with bK:=k}:aN)=cond (decide (c= .cC)) ⟨k,0,false,.neg a,yJ,[(first,last)]⟩ ⟨k,0,false,.bin 2 a c,w2,[(first,last)]⟩:=by
 unfold pW;by_cases h:c= .cC
 ·rw[if_pos h,decide_eq_true h];rfl
 ·rw[if_neg h,decide_eq_false h];rfl
def rG.inv{L:List aN}{ae bZ:List (List Nat)}{au fc:List Nat}{x:aN}(aL:yO L ae au)(h:rG L ae au x bZ fc):yO (L++[x]) bZ fc:=by
 have hlen:(L++[x]).length=L.length+1:=by simp
 have NO:∀k first,1<=k->au[k]? =some first->1<=first/\∃n,(L++[x])[first-1]? =some ⟨k,1,true,e2 n,[],[]⟩:=λk first h1 h2=>by
  obtain⟨aQ,n,aZ⟩:=aL.fst k first h1 h2
  exact⟨aQ,n,a3d aZ⟩
 have hall:∀(P:aN->Prop),(∀y∈L,P y)->P x->∀y∈L++[x],P y:=λP h1 h2 y hy=>by
  rcases eX.1 hy with h|h
  ·exact h1 y h
  ·rw[cA.1 h];exact h2
 have hd:x.f.dep<=3+L.length->∀y∈L++[x],y.f.dep<=2+(L++[x]).length:=λh=>hall _ (λy hy=>by have:=aL.dep y hy;omega) U;have al:x.f.b1<=48+4*L.length->∀y∈L++[x],y.f.b1<=44+4*(L++[x]).length:=λh=>hall _ (λy hy=>by have:=aL.b1 y hy;omega) U;have sN:∀(F:List (List Nat)) (f:List Nat),x.bK=F.length->L++[x]≠[]->(∃Bd b9,F++[f++[L.length+1]]=Bd++[b9]/\(L++[x]).length∈b9)/\∀y,(L++[x])[(L++[x]).length-1]? =some y->y.bK=(F++[f++[L.length+1]]).length-1:=λF f hx _=>⟨⟨F,_,rfl,by rw[hlen];simp⟩,λy hy=>by
  rw[hlen,a3e] at hy;cases hy;rw[hx];simp⟩
 have nj:∀(G:List (List Nat)) (f:List Nat),(∀k∈G,k∈ae)->(f=[]\/f∈ae)->∀k∈G++[f++[L.length+1]],∀c∈k,1<=c/\c<=(L++[x]).length:=λG f h1 h2 k aB c aa=>by
  rcases eX.1 aB with aB|aB
  ·have:=aL.mem k (h1 k aB) c aa;omega
  ·rw[cA.1 aB] at aa;rcases eX.1 aa with aa|aa
   ·rcases h2 with rfl|h2
    ·simp at aa
    ·have:=aL.mem f h2 c aa;omega
   ·rw[cA.1 aa];omega
 have DW:=aL.sum;cases h with
 |w9 f n h=>
  have an:=yN n;exact⟨rfl,ay,ay,nj [] f (λk aB=>by simp at aB) (.inr ay),by simp at DW ⊢;omega,sN [] f I,λ_=>by simp,hd (by show(e2 n).dep<=_;omega),al (by show(e2 n).b1<=_;omega),NO⟩
 |yM _ _ n aY bT=>
  have an:=yN n;refine⟨by simp[aL.len],ay,by simp;omega,nj ae [] (λ_ h=>h) (.inl I),by simp at DW ⊢;omega,sN ae [] I,λ_ k aB=>by
   rcases eX.1 aB with aB|aB
   ·exact aL.Ij aY k aB
   ·rw[cA.1 aB];simp,hd (by show(e2 n).dep<=_;omega),al (by show(e2 n).b1<=_;omega),λk first h1 h2=>?_⟩
  by_cases aB:k<au.length
  ·rw[yq aB] at h2;exact NO k first h1 h2
  ·rw[Ds U] at h2;have e:k-au.length=0:=by
    rcases a2F (k-au.length) with h|h
    ·exact h
    ·rw[te (by simp;omega)] at h2;cases h2
   rw[e] at h2;cases h2;have aU:k=ae.length:=by have:=aL.len;omega
   exact⟨U,n,by rw[a3e,aU]⟩
 |vf F f _ aY aa=>
  obtain⟨h1,h2⟩:=aa.le aL.dep aL.b1;exact⟨by have:=aL.len;simpa using this,ay,by have:=aL.le;simpa using this,nj F f (λk aB=>by simp[aB]) (.inr ay),by simp at DW ⊢;omega,sN F f I,λ_ k aB=>by
   rcases eX.1 aB with aB|aB
   ·exact aL.Ij aY k (by simp[aB])
   ·rw[cA.1 aB];simp,hd h1,al (by show PF.b1 _<=_;exact p5 h2 U),NO⟩
 |shut F e f au first hx hy=>
  rename_i dL dV;have hl:=aL.len;simp only[c5,fw,hr] at hl;obtain⟨f1,n,f2⟩:=aL.fst fc.length first U ay
  rw[hx] at f2;cases f2;have an:=yN n;have w_:=aL.dep _ (eY hy);have w4:=aL.b1 _ (eY hy);have a3f:({pW (e2 n) dV.f first L.length with bK:=F.length}:aN).f.dep<=3+L.length/\({pW (e2 n) dV.f first L.length with bK:=F.length}:aN).f.b1<=48+4*L.length:=by
   rw[yP];cases decide (dV.f= .cC)
   ·exact⟨by show max _ _+1<=_;omega,by show _+_+1<=_;omega⟩
   ·exact⟨by show _+1<=_;omega,by show _+1<=_;omega⟩
  refine⟨by simp;omega,ay,by have:=aL.le;simp at this ⊢;omega,nj F e (λk aB=>by simp[aB]) (.inr ay),by simp at DW ⊢;omega,sN F e I,λ_ k aB=>by
   rcases eX.1 aB with aB|aB
   ·exact aL.Ij (λe=>by subst e;simp at hx) k (by simp[aB])
   ·rw[cA.1 aB];simp,hd a3f.1,al a3f.2,λk DX h1 h2=>NO k DX h1 ?_⟩
  exact a3d h2
def Rd.inv{L:List aN}{ae:List (List Nat)}{au:List Nat}(h:Rd L ae au):yO L ae au:=by
 induction h with
 |nil=>exact⟨rfl,ay,ay,λf hf c aa=>by simp at hf;subst hf;simp at aa,ay,λh=>absurd I h,λh=>absurd I h,λx hx=>by simp at hx,λx hx=>by simp at hx,λk first h1 h2=>by
   rw[te (by simp;omega)] at h2;cases h2⟩
 |step _ h aC=>exact h.inv aC
section
attribute [local irreducible] bM bo da dy bb
def kX.Be{W W':Nat->Prop}{J τ:ad}(k:∀i c,W i->2<=c.length->J.get i=some (.cells c)->W' i/\τ.get i=some (.cells c)){n:Nat}{v:AV}{xs:List AV}(h:kX W J (some n) v xs)(hn:2<=n):kX W' τ (some n) v xs:=by
 cases h with
 |nil=>exact .nil
 |aV xs aa aY=>exact .aV xs aa aY
 |ao o cap xs rest hW h aa aB aY=>
  have h2:2<=(xs.flatMap AV.cells++rest).length:=by
   cases xs with
   |nil=>exact absurd I aY
   |cons y ba=>
    have:=aa y ay;cases y with
    |aj l=>
     have:l.length=n:=gE this;rw[lR,c5,c5];show 2<=l.length+_+_;omega
    |_=>cases this
  exact .ao o cap xs rest (k _ _ hW h2 h).1 (k _ _ hW h2 h).2 aa aB aY
def e1.Be{W W':Nat->Prop}{J τ:ad}(k:∀i c,W i->2<=c.length->J.get i=some (.cells c)->W' i/\τ.get i=some (.cells c)):∀(d:Nat) {a:PF} {v:AV},a.dep<=d->e1 W J a v->e1 W' τ a v
 |0,a,v,hd,_=>by cases a<;>simp[PF.dep] at hd
 |d+1,a,v,hd,h=>by
  cases h with
  |mk _ w xs hl hw hx=>
   refine .mk a w xs hl ?_ λi h h'=>e1.Be k d (by have:=PF.l9 (bC h');omega) (hx i h h');exact kX.Be k hw b_
def lM.Be{W W':Nat->Prop}{J τ:ad}{x:aN}{v:AV}(h:lM W J x v)(k:∀i c,W i->2<=c.length->J.get i=some (.cells c)->W' i/\τ.get i=some (.cells c)):lM W' τ x v:=by
 cases h with
 |mk w gf hf aa=>exact .mk w gf (hf.Be k _ (a8 _)) (kX.Be k aa b_)
def ll.c2q{J τ:ad}{m a:Nat}{y:AV}{bU:Nat->Prop}{L:List aN}{ae:List (List Nat)}{au:List Nat}(h:ll J m bU L ae au)(ha:J.get a=some (.cells [y]))(c2r:¬bU a)(hn:τ.next=J.next)(k:∀i o,i≠a->J.get i=some o->τ.get i=some o):ll τ m bU L ae au:=by
 obtain⟨dY,eb,ek,dK,a6,hm,hl,eZ,gJ,hf,du,mO,hg,il,kn,al⟩:=h.ex;have yQ:∀i o,bU i->J.get i=some o->τ.get i=some o:=λi o hi=>k i o λe=>c2r (e▸hi);exact⟨λi hi=>by have:=h.lt i hi;omega,dY,eb,ek,dK,a6,yQ _ _ kn hm,hl.aD λi o hi=>yQ i o (al.l _ hi).1,eZ,λi a b=>(gJ i a b).Be λi c hi h2 aa=>⟨hi,k _ _ (λe=>by subst e;rw[ha] at aa;cases aa;simp at h2) aa⟩,hf.aD λi o hi=>yQ i o (al.f _ hi).1,du,λi a b=>(mO i a b).aD λj o aA=>yQ j o (al.s i a _ aA).1,hg.aD λi o hi=>yQ i o (al.g _ hi).1,il,kn,al⟩
structure ln(J:ad)(q:Nat)(cI:AV)(at_:Nat)(bU:Nat->Prop)(L:List aN)(ae:List (List Nat))(au:List Nat)(τ:ad):Prop where
 ms:ll τ (q+3) bU L ae au
 mu:∀i,bU i->q<=i/\i≠q/\i≠q+4/\i≠q+5
 c:τ.get q=some (.cells [cI])
 m:τ.get (q+4)=some (.cells [aw (q+3)])
 a:τ.get (q+5)=some (.cells [ag at_])
 old:∀i o,i<q->J.get i=some o->τ.get i=some o
section
variable {J τ ax:ad}{q at_:Nat}{cI:AV}{bU g5:Nat->Prop}{L mQ:List aN}{ae bZ:List (List Nat)}{au fc:List Nat}
def ln.l_(h:ln J q cI at_ bU L ae au τ)(M:cM τ ax):ln J q cI at_ bU L ae au ax:=⟨h.ms.aD M,h.mu,M.2 _ _ h.c,M.2 _ _ h.m,M.2 _ _ h.a,λi o hi ho=>M.2 _ _ (h.old i o hi ho)⟩
def ln.Ik(h:ln J q cI at_ bU L ae au τ)(h2:ll ax (q+3) g5 mQ bZ fc)(S:oZ bU g5 τ ax):ln J q cI at_ g5 mQ bZ fc ax where
 ms:=h2
 mu i hi:=by
  rcases S.own i hi with h'|h'
  ·exact h.mu i h'
  ·have:=ad.a9 h.a;omega
 c:=S.aD _ _ (λh'=>(h.mu _ h').2.1 I) h.c
 m:=S.aD _ _ (λh'=>(h.mu _ h').2.2.1 I) h.m
 a:=S.aD _ _ (λh'=>(h.mu _ h').2.2.2 I) h.a
 old i o hi ho:=S.aD _ _ (λh'=>by have:=(h.mu _ h').1;omega) (h.old i o hi ho)
variable {b:bJ}{K:Nat->List AV->AV->Prop}
def ln.next(hh:a3 (b.aF K) ye F9){code:List Nat}(aq:∀τ,Vw τ none cI (code.map uB))(hl:code.length<2^62)(hb:∀x∈code,x<256)(gi:at_<=30)(h:ln J q cI at_ bU L ae au τ):
  bb (b.aF K) 0 (.f (.func ye) [] [aw (q+5),aw q]) [] τ (λr ax=>r= .ok (ag (qG code at_))/\ln J q cI (qH code at_) bU L ae au ax/\ax.next=τ.next/\∀i o,i≠q+5->τ.get i=some o->ax.get i=some o):=
 (c2b hh aq hl hb gi h.a h.c U).mono λr ax ⟨e,bx,bz,bY⟩=>⟨e,⟨h.ms.c2q h.a (λh'=>(h.mu _ h').2.2.2 I) bz bY,h.mu,bY _ _ U h.c,bY _ _ U h.m,bx,λi o hi ho=>bY _ _ U (h.old i o hi ho)⟩,bz,bY⟩
end
def a3g{code:List Nat}(hb:∀x∈code,x<256)(n:Nat):qG code n<256:=by
 unfold qG;split
 ·rw[fD];cases h:code[n]? with
  |none=>decide
  |some x=>exact hb x (eY h)
 ·decide
def NP{code:List Nat}{n:Nat}(h:n<=30):qH code n<=30:=by unfold qH;split<;>omega
def Sl.aG{J:ad}{ab:Option Nat}{v:AV}{xs:List AV}(h:Sl J ab v xs)(aY:0<xs.length):∃o c,v.at? =some o/\J.get o=some (.cells c)/\∀j (aA:j<xs.length),idxSlA ab v j=some (.p (some (o,j*shN ab)))/\(∃r,c.drop (j*shN ab)=(xs[j]).cells++r)/\dE ab (c.drop (j*shN ab))=some xs[j]:=by
 obtain⟨o,c,r,h1,h2,h3,aH,bT⟩:=h.gb aY;refine⟨o,c,h1,h3,λj aA=>?_⟩;obtain⟨bF,bc,bR,bx,bz,bY,cf,c9⟩:=h.gb aA;rw[h1] at bx;cases bx;rw[h3] at bY;cases bY;exact⟨bz,⟨bR,cf⟩,c9⟩
structure m9(b:bJ)(K:Nat->List AV->AV->Prop):Prop where
 wg:a3 (b.aF K) ye F9
 ci:a3 (b.aF K) Dd Lu
 li:a3 (b.aF K) GB F_
 Il:a3 (b.aF K) De CY
 ab:a3 (b.aF K) Gz Lw
 Im:a3 (b.aF K) Mr Lt
 xa:a3 (b.aF K) Df CZ
 at_:a3 (b.aF K) GA Gc
 fn:∀g aO r bR,K g aO r->K g aO bR->r=bR
 es:b.ext uZ=0/\b.pure uZ=true
 NQ:b.ext u0=0/\b.pure u0=true
 size:∀a:PF,a.dep<=100->a.b1<2^20->K uZ [a.aI.A true] (ag a.b1)
 same:∀a c:PF,a.dep<=100->c.dep<=100->K u0 [a.aI.A true,c.aI.A true] (.b (decide (a=c)))
def lo:List Nat->b5->b5
 |[],c=>c
 |i::l,.seq a c=>cond (Nat.beq i 0) (lo l a) (lo l c)
 |i::l,.cond _ a c=>cond (Nat.beq i 0) (lo l a) (lo l c)
 |_::l,.block _ a=>lo l a
 |_::l,.loop a=>lo l a
 |_,c=>c
def b5z:{B:b5 // lI.body=some B}:=⟨_,by cbv⟩
def oc:b5:=b5z.1
abbrev iO(q:Nat):List (Nat×AV):=[(5,.f (.func ye) [] [aw (q+5),aw q]),(4,aw (q+5)),(3,aw (q+4)),(1,aw q)]
def Out(J:ad)(q:Nat)(cI:AV)(at_ B:Nat)(τ:ad):Prop:=∃bU L ae au,ln J q cI at_ bU L ae au τ/\Rd L ae au/\L≠[]/\L.length+ae.length<=B
section
variable {J τ:ad}{q at_:Nat}{cI:AV}{bU:Nat->Prop}{L:List aN}{ae:List (List Nat)}{au:List Nat}{b:bJ}{K:Nat->List AV->AV->Prop}
def a3h{l:List (List Nat)}{x:List Nat}(h:x∈l):x.length<=(l.map List.length).sum:=by
 induction l with
 |nil=>simp at h
 |cons y l aC=>
  rw[pf,List.sum_cons];rcases c2.1 h with rfl|h
  ·omega
  ·have:=aC h;omega
def yO.small(h:yO L ae au)(b0:L.length+ae.length<=40):L.length<2^20/\ae.length<2^20/\∀l∈ae,l.length<2^20:=⟨U,U,λl hl=>by have:=a3h hl;have:=h.sum;omega⟩
def Bf(cl:m9 b K)(h:ln J q cI at_ bU L ae au τ)(hR:Rd L ae au)(aY:L≠[])(b0:L.length+ae.length<=40){f:PF}{w:AV}(bL:e1 (λi=>¬bU i) τ f (.aj [uB f.op,.s f.aW,.nilsl,w])){fR l:List Nat}{v:AV}(sJ:rF L (λc=>∃k∈ae,c∈k) f fR l)(aq:eL τ v l)(eZ:l.length<2^20):
  bb (b.aF K) 0 (.f (.func Dd) [] [aw (q+4)]) [.aj [uB f.op,.s f.aW,.nilsl,w],.s fR,v] τ (λr ax=>r= .ok (.bg [])/\Out J q cI at_ (L.length+ae.length+1) ax):=by
 have aL:=hR.inv;have hle:=sJ.le aL.dep aL.b1;obtain⟨F,k,rfl⟩:∃F k,ae=F++[k]:=by
  rcases T4 ae with h|⟨F,k,h⟩
  ·have:=aL.ne;rw[h] at this;simp at this
  ·exact⟨F,k,by rw[h,T5]⟩
 refine(c2c cl.ci cl.li cl.Il h.ms h.m (λh'=>(h.mu _ h').2.2.1 I) aL.ne (aL.small b0) bL U aq eZ).mono λr ax ⟨e,g5,h1,h2⟩=>⟨e,g5,_,_,_,h.Ik h1 h2,?_,ay,?_⟩
 ·have hl:(F++[k]).length-1=F.length:=by simp
  have hg:(F++[k]).getD F.length []=k:=by rw[fD];simp
  have al:(F++[k]).set F.length (k++[L.length+1])=F++[k++[L.length+1]]:=by simp
  rw[hl,hg,al];exact .step hR (.vf F k au aY sJ)
 ·simp only[c5,fw,hr,lr];omega
def a3i(cl:m9 b K)(h:ln J q cI at_ bU L ae au τ)(hR:Rd L ae au)(aY:L≠[])(b0:L.length+ae.length<=40)(h2:2<=ae.length):
  bb (b.aF K) 0 (.f (.func Gz) [] []) [aw (q+3)] τ (λr ax=>r= .ok (.bg [])/\∃g5 mQ bZ fc,ln J q cI at_ g5 mQ bZ fc ax/\Rd mQ bZ fc/\mQ≠[]/\mQ.length+bZ.length=L.length+ae.length/\bZ.length+1=ae.length):=by
 have aL:=hR.inv;have hlen:=aL.len;obtain⟨⟨e7,cO,kv,_⟩,sN⟩:=aL.last aY;have a3j:0<L.length:=ph.2 aY;obtain⟨y,hy⟩:∃y,L[L.length-1]? =some y:=⟨L[L.length-1]'U,cp _⟩
 obtain⟨first,hf⟩:∃first,au[ae.length-1]? =some first:=⟨au[ae.length-1]'U,cp _⟩
 obtain⟨f1,n,hx⟩:=aL.fst _ _ U hf;have gS:=(fH.1 hx).1;have an:=yN n;have w3:=aL.dep y (eY hy);refine(c1K cl.ab cl.xa cl.Il h.ms h2 (aL.small b0) hlen hf ⟨f1,U⟩ hx hy (sN y hy) ⟨by show(e2 n).dep<=300;omega,U⟩).mono λr ax ⟨e,g5,bx,bz⟩=>⟨e,g5,_,_,_,h.Ik bx bz,?_,ay,?_,?_⟩
 ·obtain⟨F,d_,k,rfl⟩:∃F e k,ae=F++[e,k]:=by
   subst kv;rcases T4 e7 with h|⟨F,k,h⟩
   ·rw[h] at h2;simp at h2
   ·exact⟨F,k,cO,by rw[h,T5,iJ];rfl⟩
  obtain⟨G,fst,rfl⟩:∃G x,au=G++[x]:=by
   rcases T4 au with h|⟨F,k,h⟩
   ·rw[h] at hlen;simp at hlen
   ·exact⟨F,k,by rw[h,T5]⟩
  simp only[c5,fw,hr] at hlen;have a3k:G.length=F.length+1:=by omega
  have el:(F++[d_,k]).length=F.length+2:=by simp
  rw[el,show F.length+2-1=F.length+1 from rfl,show F.length+2-2=F.length from rfl];rw[el,show F.length+2-1=F.length+1 from rfl,← a3k] at hf;have uF:fst=first:=by simpa using hf
  rw[el,show F.length+2-1=F.length+1 from rfl] at hx;subst uF;have aM:(F++[d_,k]).take (F.length+1)=F++[d_]:=by rw[show F++[d_,k]=(F++[d_])++[k] by simp,show F.length+1=(F++[d_]).length by simp,List.take_left]
  have aU:(F++[d_,k]).getD F.length []=d_:=by rw[fD];simp
  have c3:(G++[fst]).take (F.length+1)=G:=by rw[<-a3k];simp
  have fK:(F++[d_]).set F.length (d_++[L.length+1])=F++[d_++[L.length+1]]:=by simp
  rw[aM,aU,c3,fK];exact .step hR (.shut F d_ k G fst hx hy)
 ·simp only[c5,fw,hr,lr,g6];omega
 ·simp only[lr,g6];omega
end
abbrev gA(f:PF)(w:AV):List AV:=[uB f.op,.s f.aW,.nilsl,w]
structure kp(J:ad)(q:Nat)(cI:AV)(at_:Nat)(bU:Nat->Prop)(L:List aN)(ae:List (List Nat))(au:List Nat)(τ:ad)(a c:Nat)(f g:PF)(eu eU:Nat)(gN ia:AV):Prop where
 gL:ln J q cI at_ bU L ae au τ
 rd:Rd L ae au
 ne:L≠[]
 B:L.length+ae.length<=36
 ha:∃k∈ae,a∈k
 aa:∃k∈ae,c∈k
 cR:ko L a f
 br:ko L c g
 rH:τ.get eu=some (.cells (gA f gN))
 yR:τ.get eU=some (.cells (gA g ia))
 f12:e1 (λi=>¬bU i) τ f (.aj (gA f gN))
 f13:e1 (λi=>¬bU i) τ g (.aj (gA g ia))
 k:q+5<eu/\q+5<eU/\eu≠eU
def e1.CS{W:Nat->Prop}{J:ad}{f:PF}{l:List AV}(h:e1 W J f (.aj l)):conf (some 4) (.aj l)=true:=by cases h;rfl
def e1.two{W:Nat->Prop}{τ:ad}{f g:PF}{l m:List AV}{id:Nat}(k:Fin 3)(hW:W id)(hg:τ.get id=some (.cells (l++m)))(hf:e1 W τ f (.aj l))(vq:e1 W τ g (.aj m)):e1 W τ (.bin k f g) (.aj (gA (.bin k f g) (.ao id 0 2 (some 4) (some 2)))):=
 .mk (.bin k f g) _ [.aj l,.aj m] I (.ao id (some 2) [.aj l,.aj m] [] hW (by rw[hg];show _=some (AO.cells (l++(m++[])++[]));rw[hI,hI]) (λy hy=>by
  simp only[c2,hj,or_false] at hy;rcases hy with rfl|rfl
  ·exact hf.CS
  ·exact vq.CS) (.inr I) ay) λi h h'=>by
  match i,h with
  |0,_=>exact hf
  |1,_=>exact vq
def eL.one{τ:ad}{id a:Nat}(h:τ.get id=some (.cells [ag a])):eL τ (.ao id 0 1 none (some 1)) [a]:=.ao id (some 1) [ag a] [] h (λy hy=>by rw[cA.1 hy];rfl) (.inr I)
def eL.two{τ:ad}{id a c:Nat}(h:τ.get id=some (.cells [ag a,ag c])):eL τ (.ao id 0 2 none (some 2)) [a,c]:=.ao id (some 2) [ag a,ag c] [] h (λy hy=>by
 simp only[c2,hj,or_false] at hy;rcases hy with rfl|rfl<;>rfl) (.inr I)
abbrev qI(q n a c eu eU:Nat)(can:AV):List (Nat×AV):=[(94,ag (n%10)),(14,.f (.func Dd) [] [aw (q+4)]),(13,aw eU),(12,aw eu),(11,ag c),(10,ag a),(7,can),(6,ag n),(5,.f (.func ye) [] [aw (q+5),aw q]),(4,aw (q+5)),(3,aw (q+4)),(1,aw q)]
abbrev vt:List Nat:=[1,1,1,1,1,0,0,0,1,0,1,1,1,1,1,1,1,0]
section
variable {J τ:ad}{q at_:Nat}{cI:AV}{bU:Nat->Prop}{L:List aN}{ae:List (List Nat)}{au:List Nat}{b:bJ}{K:Nat->List AV->AV->Prop}{a c eu eU:Nat}{f g:PF}{gN ia:AV}
def kp.l_{ax:ad}(h:kp J q cI at_ bU L ae au τ a c f g eu eU gN ia)(M:cM τ ax):kp J q cI at_ bU L ae au ax a c f g eu eU gN ia:=
 {h with gL:=h.gL.l_ M,rH:=M.2 _ _ h.rH,yR:=M.2 _ _ h.yR,f12:=h.f12.aD (λi c hi aa=>⟨hi,M.2 _ _ aa⟩) _ (a8 _),f13:=h.f13.aD (λi c hi aa=>⟨hi,M.2 _ _ aa⟩) _ (a8 _)}
def kp.dep(h:kp J q cI at_ bU L ae au τ a c f g eu eU gN ia):f.dep<=40/\g.dep<=40/\f.b1<2^10/\g.b1<2^10:=by
 obtain⟨x,h1,rfl⟩:=h.cR.mem;obtain⟨y,h2,rfl⟩:=h.br.mem;have b0:=h.B;have:=h.rd.inv.ne;have:=h.rd.inv.dep x h1;have:=h.rd.inv.b1 x h1;have:=h.rd.inv.dep y h2;have:=h.rd.inv.b1 y h2;omega
def kp.snap(h:kp J q cI at_ bU L ae au τ a c f g eu eU gN ia):mapO (bt τ (b.bh+1000)) [.aj (gA f gN)]=some [f.aI.A true]/\mapO (bt τ (b.bh+1000)) [.aj (gA g ia)]=some [g.aI.A true]:=by
 have:=h.dep;rw[mapO_cons,mapO_cons,h.f12.snap _ (a8 _) U,h.f13.snap _ (a8 _) U];exact⟨rfl,rfl⟩
def Out.le{B eG:Nat}(h:Out J q cI at_ B τ)(hb:B<=eG):Out J q cI at_ eG τ:=by
 obtain⟨bU,L,ae,au,h1,h2,h3,aH⟩:=h;exact⟨bU,L,ae,au,h1,h2,h3,U⟩
def kp.out(h:kp J q cI at_ bU L ae au τ a c f g eu eU gN ia):Out J q cI at_ (L.length+ae.length) τ:=⟨_,_,_,_,h.gL,h.rd,h.ne,a8 _⟩
def c2s(cl:m9 b K)(h:kp J q cI at_ bU L ae au τ a c f g eu eU gN ia){n:Nat}{can:AV}{z:Nat->AV}{Q:dO}(cc:∀F ax,sat (iO q) F->Out J q cI at_ (L.length+ae.length+2) ax->Q .normal F ax):
  bo (b.aF K) none [] lI.ntmps (lo (vt++[1,1,1,0]) oc) (bs (qI q n a c eu eU can) z) τ Q:=by
 have hd:=h.dep;have jo:=h.snap (b:=b);have H:Has τ [(eu,gA f gN),(eU,gA g ia)]:=(Has.nil.cons h.yR ay).cons h.rH (by simpa using h.k.2.2.symm);have HB:iY τ [(eU,gA g ia)]:=iY.nil.cons h.yR;refine W.sq ?_;refine W.yL [(eU,gA g ia)] [3] 6 I I ?_;refine gM ?_;refine W.Ur HB (.head _) I I I I I (h.f13.eqb _ (a8 _) (by show _<=b.bh+1000;omega)) ?_;refine W.et cl.fn cl.es (cl.size f U U) I I I jo.1 ?_;refine W.ob HB I ?_;refine W.et cl.fn cl.es (cl.size g U U) I I I jo.2 ?_;refine gM ?_;by_cases B8:f.b1+g.b1<40
 ·refine gM ?_;refine af ?_;refine W.bV (c:=gA f gN++gA g ia) H I I I I λa5 c6 H bj=>?_;have h2:=h.l_ (ax:=a5) ⟨U,bj⟩;refine W.bS I I I (tO (op:=4) cl.xa I I) λr bu ⟨ar,ey⟩=>⟨_,ar,?_⟩
  have h3:=h2.l_ ey;have H:=H.aD ey.2;refine af ?_;refine W.bV (c:=[ag a,ag c]) H I I I I λb3 eC H bI=>?_;have aH:=h3.l_ (ax:=b3) ⟨U,bI⟩;refine af ?_;refine W.bS I I I (Bf cl aH.gL aH.rd aH.ne (by have:=h.B;omega) (e1.two 0 (λhm=>by have:=h.gL.ms.lt _ hm;omega) (H.x7) aH.f12 aH.f13) (.and h.ha h.aa h.cR h.br B8) (.two (H.qx)) ay) λr cW ⟨ar,bT⟩=>⟨_,ar,?_⟩
  refine af ?_;exact cc _ _ dm (bT.le U)
 ·refine gM ?_;refine af ?_;exact cc _ _ dm (h.out.le U)
end
def kX.ptr{W:Nat->Prop}{J:ad}{ab:Option Nat}{v:AV}{xs:List AV}(h:kX W J ab v xs):∃fW,iY J fW/\∀j (aA:j<xs.length),∃p,idxSlA ab v j=some p/\Ptr fW ab p xs[j]:=by
 cases h with
 |nil=>exact⟨[],.nil,λj aA=>by simp at aA⟩
 |aV xs aa aY=>exact⟨[],.nil,λj aA=>⟨.df false xs[j],by
   cases xs with
   |nil=>simp at aA
   |cons x l=>exact FT (o:=false) (l:=x::l) aA,.inl ⟨false,rfl,aa _ (bC aA)⟩⟩⟩
 |ao o cap xs rest hW h aa aB aY=>
  have al:Sl J ab (.ao o 0 xs.length ab cap) xs:=.ao o cap xs rest h aa aB;refine⟨[(o,xs.flatMap AV.cells++rest)],iY.nil.cons h,λj aA=>?_⟩;obtain⟨bF,c,r,h1,h2,h3,aH,bT⟩:=al.gb aA;cases h1;rw[h] at h3;cases h3;exact⟨_,h2,.inr ⟨o,_,_,rfl,.head _,bT⟩⟩
def PF.a3l{f:PF}{k:Nat}(h:f.op=4+k)(aB:k<3):∃a c,f= .bin ⟨k,aB⟩ a c:=by
 cases f with
 |bin fh a c=>exact⟨a,c,by congr 1;exact Fin.ext (by have:4+fh.val=4+k:=h;show fh.val=k;omega)⟩
 | gb q=>have:1=4+k:=h;omega
 |cC=>have:2=4+k:=h;omega
 |neg a=>have:3=4+k:=h;omega
def PF.c2t{f:PF}(h:f.op=3):∃a,f= .neg a:=by
 cases f with
 |bin fh a c=>have:4+fh.val=3:=h;omega
 | gb q=>cases h
 |cC=>cases h
 |neg a=>exact⟨a,rfl⟩
def PF.c2u{f:PF}(h:f.op=2):f= .cC:=by
 cases f with
 |bin fh a c=>have:4+fh.val=2:=h;omega
 | gb q=>cases h
 |cC=>rfl
 |neg a=>cases h
section
variable {J τ:ad}{q at_:Nat}{cI:AV}{bU:Nat->Prop}{L:List aN}{ae:List (List Nat)}{au:List Nat}{b:bJ}{K:Nat->List AV->AV->Prop}{a c eu eU:Nat}{f g:PF}{gN ia:AV}
def kp.num(h:kp J q cI at_ bU L ae au τ a c f g eu eU gN ia):1<=a/\a<=36/\1<=c/\c<=36:=by
 obtain⟨k,h1,h2⟩:=h.ha;obtain⟨fh,h3,aH⟩:=h.aa;have bT:=h.rd.inv.mem k h1 a h2;have cE:=h.rd.inv.mem fh h3 c aH;have:=h.B;omega
def kp.fresh{ax:ad}{i0:Nat}{x:PF}{v:AV}(h:kp J q cI at_ bU L ae au τ a c f g eu eU gN ia)(h0:τ.next<=i0)(hx:e1 (λi=>i0<=i) ax x v):e1 (λi=>¬bU i) ax x v:=hx.aD (λi c hi aa=>⟨λhm=>by have:=h.gL.ms.lt _ hm;omega,aa⟩) _ (a8 _)
def c2v(cl:m9 b K)(h:kp J q cI at_ bU L ae au τ a c f g eu eU gN ia){n:Nat}{can:AV}{z:Nat->AV}{Q:dO}(cc:∀F ax,sat (iO q) F->Out J q cI at_ (L.length+ae.length+2) ax->Q .normal F ax):
  bo (b.aF K) none [] lI.ntmps (lo (vt++[1,1,1,1,1,0]) oc) (bs (qI q n a c eu eU can) z) τ Q:=by
 have hd:=h.dep;have hn:=h.num;have jo:=h.snap (b:=b);have H:Has τ [(eu,gA f gN)]:=Has.nil.cons h.rH ay;have HB:iY τ [(eu,gA f gN)]:=iY.nil.cons h.rH;refine af ?_;refine W.et cl.fn cl.es (cl.size f U U) I I I jo.1 ?_;by_cases B8:f.b1<40
 ·refine fV ?_;refine W.nil ?_;refine W.mX I ?_;refine W.yL [(eu,gA f gN)] [5,7] 9 I I ?_;refine gM ?_;refine W.Ur HB (.head _) I I I I I (h.f12.eqb _ (a8 _) (by show _<=b.bh+1000;omega)) ?_;refine gM ?_;refine W.bV (c:=[ag a]) H I I I I λa5 c6 H bj=>?_;have h2:=h.l_ (ax:=a5) ⟨U,bj⟩;refine W.ob (HB.aD bj) I ?_;refine W.bS I I I (NH cl.Im cl.xa cl.at_ c U) λr bu ⟨wp,ar,an,ey⟩=>⟨_,ar,?_⟩
  have h3:=h2.l_ ey;have H:=H.aD ey.2;have rf:=ey.1;have an:=h2.fresh (a8 _) an;refine gM ?_;refine W.bV (c:=gA f gN++gA (e2 c) wp) H I I I I λb3 eC H bI=>?_;have aH:=h3.l_ (ax:=b3) ⟨U,bI⟩;have Io:=(HB.aD bj).aD λi o h=>bI _ _ (ey.2 _ _ h);refine W.ob Io I ?_;refine W.bS I I I (tO (op:=5) cl.xa I I) λr cW ⟨ar,gC⟩=>⟨_,ar,?_⟩
  have bT:=aH.l_ gC;have H:=H.aD gC.2;have AP:=gC.1;refine W.bS I I I (Bf cl bT.gL bT.rd bT.ne (by have:=h.B;omega) (e1.two 1 (λhm=>by have:=h.gL.ms.lt _ hm;omega) (H.qx) bT.f12 (an.aD (λi c hi aa=>⟨hi,gC.2 _ _ (bI _ _ aa)⟩) _ (a8 _))) (.or c h.ha h.cR B8) (.one (H.x7)) ay) λr dr ⟨ar,cE⟩=>⟨_,ar,?_⟩
  refine af ?_;exact cc _ _ dm (cE.le U)
 ·refine af ?_;exact cc _ _ dm (h.out.le U)
def c2w(cl:m9 b K)(h:kp J q cI at_ bU L ae au τ a c f g eu eU gN ia){n:Nat}{can:AV}{z:Nat->AV}{Q:dO}(cc:∀F ax,sat (iO q) F->Out J q cI at_ (L.length+ae.length+2) ax->Q .normal F ax):
  bo (b.aF K) none [] lI.ntmps (lo (vt++[1,1,1,1,1,1,1,1,1,1,1,1,1,0]) oc) (bs (qI q n a c eu eU can) z) τ Q:=by
 have H:Has τ [(eu,gA f gN)]:=Has.nil.cons h.rH ay;refine af ?_;refine W.bV (c:=[ag a]) H I I I I λa5 c6 H bj=>?_;have h2:=h.l_ (ax:=a5) ⟨U,bj⟩;refine W.bS I I I (Bf cl h2.gL h2.rd h2.ne (by have:=h.B;omega) h2.f12 (.again h.ha h.cR) (.one (H.qx)) ay) λr dr ⟨ar,cE⟩=>⟨_,ar,?_⟩
 refine af ?_;exact cc _ _ dm (cE.le U)
def c2x(cl:m9 b K)(h:kp J q cI at_ bU L ae au τ a c f g eu eU gN ia){n:Nat}{can:AV}{z:Nat->AV}{Q:dO}(cc:∀F ax,sat (iO q) F->Out J q cI at_ (L.length+ae.length+2) ax->Q .normal F ax):
  bo (b.aF K) none [] lI.ntmps (lo (vt++[1,1,1,1,1,1,1,1,1,1,1,1,1,1,1,0]) oc) (bs (qI q n a c eu eU can) z) τ Q:=by
 have hn:=h.num;have H:Has τ [(eu,gA f gN)]:=Has.nil.cons h.rH ay;have ow:=f.rC;by_cases h2:f.op=2
 ·obtain rfl:=PF.c2u h2;refine af ?_;refine W.bS I I I (NH cl.Im cl.xa cl.at_ c U) λr bu ⟨wp,ar,an,ey⟩=>⟨_,ar,?_⟩
  have h3:=h.l_ ey;have H:=H.aD ey.2;have an:=h.fresh (a8 _) an;refine af ?_;refine W.bV (c:=[ag a]) H I I I I λb3 eC H bI=>?_;have aH:=h3.l_ (ax:=b3) ⟨U,bI⟩;refine W.bS I I I (Bf cl aH.gL aH.rd aH.ne (by have:=h.B;omega) (an.aD (λi c hi aa=>⟨hi,bI _ _ aa⟩) _ (a8 _)) (.w8 c h.ha h.cR) (.one (H.qx)) ay) λr dr ⟨ar,cE⟩=>⟨_,ar,?_⟩
  refine af ?_;exact cc _ _ dm (cE.le U)
 ·refine af ?_;exact cc _ _ dm (h.out.le U)
def a3m(cl:m9 b K)(h:kp J q cI at_ bU L ae au τ a c f g eu eU gN ia){n:Nat}{can:AV}{z:Nat->AV}{Q:dO}(cc:∀F ax,sat (iO q) F->Out J q cI at_ (L.length+ae.length+2) ax->Q .normal F ax):
  bo (b.aF K) none [] lI.ntmps (lo (vt++[1,1,1,1,1,1,1,1,1,1,1,0]) oc) (bs (qI q n a c eu eU can) z) τ Q:=by
 obtain⟨dY,eb,ek,dK,a6,hm,hl,eZ,gJ,hf,du,hk,hg,il,kn,al⟩:=h.gL.ms.ex;have H:Has τ [(q+4,[aw (q+3)]),(q+3,[dY,eb,ek])]:=(Has.nil.cons hm ay).cons h.gL.m ay;have hU:=hf.vw;have b0:=h.B;by_cases h2:2<=ae.length
 ·refine af ?_;refine W.bS I I I (a3i cl h.gL h.rd h.ne U h2) λr dr ⟨ar,g5,mQ,bZ,fc,aQ,aZ,bX,cS,ed⟩=>⟨_,ar,?_⟩
  refine af ?_;exact cc _ _ dm ⟨_,_,_,_,aQ,aZ,bX,U⟩
 ·refine af ?_;exact cc _ _ dm (h.out.le U)
end
section
variable {J τ:ad}{q at_:Nat}{cI:AV}{bU:Nat->Prop}{L:List aN}{ae:List (List Nat)}{au:List Nat}{b:bJ}{K:Nat->List AV->AV->Prop}{a c eu eU:Nat}{f g:PF}{gN ia:AV}
def e1.parts{W:Nat->Prop}{f:PF}{w:AV}(h:e1 W τ f (.aj (gA f w))):conf none w=true/\(∀n,2*f.dep+2<=n->AV.eqb n w w=true)/\∃(fW:List (Nat×List AV)) (xs:List AV),iY τ fW/\xs.length=f.subs.length/\∀j (aA:j<f.subs.length) (hx:j<xs.length),∃p DY,idxSlA (some 4) w j=some p/\Ptr fW (some 4) p xs[j]/\xs[j]= .aj (gA f.subs[j] DY)/\e1 W τ f.subs[j] (.aj (gA f.subs[j] DY)):=by
 cases h with
 |mk _ w xs hl hw hx=>
  obtain⟨fW,b0,an⟩:=hw.ptr;refine⟨hw.one.2.2,λn hn=>?_,fW,xs,b0,hl,λj aA fB=>?_⟩
  ·obtain⟨n,rfl⟩:∃m,n=m+1:=⟨n-1,U⟩
   refine hw.eqb λy hy=>?_;obtain⟨i,hi,rfl⟩:=iP hy;exact(hx i hi U).eqb _ (a8 _) (by have:=PF.l9 (bC (show i<f.subs.length by omega));omega)
  ·obtain⟨p,h1,h2⟩:=an j fB;have h3:=hx j fB aA;generalize d1w:xs[j]=Ck at h2 h3;cases h3 with
   |mk _ DY ba aQ aZ bX=>exact⟨p,DY,h1,h2,rfl,.mk _ DY ba aQ aZ bX⟩
def c2y(cl:m9 b K)(h:kp J q cI at_ bU L ae au τ a c f g eu eU gN ia){n:Nat}{can:AV}{z:Nat->AV}{Q:dO}(cc:∀F ax,sat (iO q) F->Out J q cI at_ (L.length+ae.length+2) ax->Q .normal F ax):
  bo (b.aF K) none [] lI.ntmps (lo (vt++[1,1,1,1,1,1,1,0]) oc) (bs (qI q n a c eu eU can) z) τ Q:=by
 have hd:=h.dep;have hn:=h.num;have ow:=f.rC;have H:Has τ [(eu,gA f gN)]:=Has.nil.cons h.rH ay;by_cases aH:f.op=4
 ·obtain⟨f1,f2,rfl⟩:=PF.a3l (k:=0) aH b_;obtain⟨a3n,Ux,NR,xs,Bg,gS,dG⟩:=h.f12.parts;obtain⟨xb,yS⟩:∃xb:Bool,c%2=cond xb 1 0:=by
   rcases Xc c with e|e
   ·exact⟨false,e⟩
   ·exact⟨true,e⟩
  have aA:c%2<2:=A6 _ b_;obtain⟨p,DY,mq,a3o,oy,Ie⟩:=dG (c%2) aA (by rw[gS];exact aA);have dM:(PF.bin ⟨0,b_⟩ f1 f2).subs[c%2]'aA=cond xb f2 f1:=by
   show[f1,f2][c%2]'aA=_;simp only[yS];cases xb<;>rfl
  rw[dM] at Ie oy;rw[oy] at a3o;have d1x:(cond xb f2 f1).dep<=40:=by
   have:max f1.dep f2.dep+1<=40:=hd.1;cases xb
   ·show f1.dep<=40;omega
   ·show f2.dep<=40;omega
  refine tU ?_;refine W.yL ((τ.next,[.s (jP false),.s (jP true)])::(eu,gA (PF.bin ⟨0,b_⟩ f1 f2) gN)::NR) [14] 15 I I ?_;refine fV ?_;refine W.vr h.rH (.tail _ (.head _)) I I I I I (Ux _ (by show _<=b.bh+1000;omega)) ?_;refine fV ?_;refine W.bin I I I I (Af (c:=2) b_) ?_;refine W.eg I I I I mq ?_;refine W.c2e Bg (λx hx=>.tail _ (.tail _ hx)) a3o I I I I I (Ie.eqb _ (a8 _) (by show _<=b.bh+1000;omega)) ?_;refine W.bV (c:=[.s (jP false),.s (jP true)]) H I I I I λa5 c6 H bj=>?_;have h2:=h.l_ (ax:=a5) ⟨U,bj⟩;have rr:Sl a5 none (.ao τ.next 0 2 none (some 2)) [.s (jP false),.s (jP true)]:=.ao τ.next (some 2) [.s (jP false),.s (jP true)] [] (H.qx) (λy hy=>by
   simp only[c2,hj,or_false] at hy;rcases hy with rfl|rfl<;>rfl) (.inr I)
  obtain⟨o,dd,hZ,gi,c2z,lX,oK,fv⟩:=rr.gb (j:=c%2) aA;cases gi;have mh:=lX.symm.trans (H.qx);cases mh;have AH:[AV.s (jP false),.s (jP true)][c%2]'aA= .s (jP xb):=by
   simp only[yS];cases xb<;>rfl
  rw[AH] at fv;refine fV ?_;refine W.bin I I I I (Af (c:=2) b_) ?_;refine W.eg I I I I c2z ?_;refine W.vr (H.qx) (.head _) I I I I fv (eo I) ?_;refine fV ?_;refine W.bV (c:=[ag a]) H I I I I λb3 eC H bI=>?_;have aH:=h2.l_ (ax:=b3) ⟨U,bI⟩;have Io:iY b3 ((τ.next,[.s (jP false),.s (jP true)])::(eu,gA (PF.bin ⟨0,b_⟩ f1 f2) gN)::NR):=((Bg.aD λi o h=>bI _ _ (bj _ _ h)).cons (H.Ag)).cons (H.x7);refine W.ob Io I ?_;refine W.bS I I I (Bf cl aH.gL aH.rd aH.ne (by have:=h.B;omega) (Ie.aD (λi c hi aa=>⟨hi,bI _ _ (bj _ _ aa)⟩) _ (a8 _)) (.jP xb h.ha h.cR) (.one (H.qx)) ay) λr dr ⟨ar,cE⟩=>⟨_,ar,?_⟩
  refine af ?_;exact cc _ _ dm (cE.le U)
 ·refine af ?_;exact cc _ _ dm (h.out.le U)
end
def ah.c2A{env:Env}{aK:Option Nat}{D:List (Nat ⊕ (AV×List AV))}{n i m c d b fq:Nat}{body:b5}{f:Nat->AV}{J:ad}{Q:dO}(N:Nat)(dq:Nat->(Nat->AV)->ad->Prop)
  (dP:N<2^62) (h0:dq 0 f J) (wo:f i=ag 0) (RY:f m=ag N)
  (hb:∀j g τ,j<N->dq j g τ->g i=ag j->g m=ag N->bo env aK D n (.block fq body) (di g c (.b true)) τ (λx b9 ax=>match x with
   | .normal=>b9 i=ag j/\b9 m=ag N/\dq (j+1) (di (di b9 d (ag (j+1))) i (ag (j+1))) ax
   | .exit e=>cond (Nat.beq e b) (Q .normal b9 ax) (Q (.exit e) b9 ax)
   |x=>Q x b9 ax))
  (hx:∀g τ,dq N g τ->g i=ag N->Q .normal (di g c (.b false)) τ)
  (aa:Nat.blt c n=true:=by rfl) (hd:Nat.blt d n=true:=by rfl) (hi:Nat.blt i n=true:=by rfl) (hm:Nat.blt m n=true:=by rfl) (RZ:Nat.beq m d=false:=by rfl) (uG:Nat.beq m i=false:=by rfl):
  bo env aK D n (.block b (.loop (.seq (.region [⟨some c,.bin .lss (.t i) (.t m),none,[]⟩]) (.seq (.cond (.t c) .skip (.exit b)) (.seq (.block fq body) (.region [⟨some d,.bin .add (.t i) (.c (.i .i64 1)),none,[]⟩,⟨some i,.mb (.t d),none,[]⟩])))))) f J Q:=by
 refine ah.block (ah.loop (λk g τ=>∃j,j+k=N/\dq j g τ/\g i=ag j/\g m=ag N) ?_ N ⟨0,U,h0,wo,RY⟩);rintro k g τ ⟨j,Lg,aL,fF,fi⟩;have qv:dJ env n g (.t i)=some (ag j):=by show cond (Nat.blt i n) (some (g i)) none=_;rw[hi,fF];rfl
 have em:dJ env n g (.t m)=some (ag N):=by show cond (Nat.blt m n) (some (g m)) none=_;rw[hm,fi];rfl
 refine ah.seq (ah.region ?_);refine az.cmp (a:=j) (b:=N) aa I qv em I ?_;refine az.nil (ah.seq (ah.hJ (t:=decide (j<N)) (by show cond (Nat.blt c n) (some (di g c (.b (decide (j<N))) c)) none=_;rw[aa,CT];rfl) (λh=>?_) λh=>?_))
 ·have aA:j<N:=of_decide_eq_true h;rw[h];refine ah.skip (ah.seq ((hb j g τ aA aL fF fi).mono λx b9 ax h'=>?_));cases x with
  |normal=>
   obtain⟨h1,h2,h3⟩:=h';refine ah.region ?_;have aM:dJ env n b9 (.t i)=some (ag j):=by show cond (Nat.blt i n) (some (b9 i)) none=_;rw[hi,h1];rfl
   refine az.bin hd I aM I (rm (a:=j) (b:=1) U) ?_;refine az.go I hi I (v:=ag (j+1)) (ai:=ax) ?_ ?_
   ·show(match cond (Nat.blt d n) (some (di b9 d (ag (j+1)) d)) none with|some v=>some (bO.val v ax)|none=>none)=_;rw[hd,CT];rfl
   ·refine az.nil ?_;refine⟨k-1,U,j+1,U,h3,CT,?_⟩;rw[Lf uG,Lf RZ,h2]
  |exit e=>exact h'
  |ret=>exact h'
  |panic v=>exact h'
 ·have aA:j=N:=by have:=of_decide_eq_false h;omega
  subst aA;rw[h];refine ah.exit ?_;show cond (Nat.beq b b) (Q .normal (di g c (.b false)) τ) (Q (.exit b) (di g c (.b false)) τ);rw[g0];exact hx g τ aL fF
def ll.lines{τ:ad}{m:Nat}{bU:Nat->Prop}{L:List aN}{ae:List (List Nat)}{au:List Nat}(h:ll τ m bU L ae au)(aY:L≠[]):∃(dY eb ek:AV) (o:Nat) (c:List AV),τ.get m=some (.cells [dY,eb,ek])/\dY.lf=true/\eb.lf=true/\τ.get o=some (.cells c)∧
  ∀e x,1<=e->L[e-1]? =some x->idxSlA (some 9) dY (e-1)=some (.p (some (o,(e-1)*9)))/\∃w,dE (some 4) (c.drop ((e-1)*9+3))=some (.aj (gA x.f w))/\e1 (λi=>¬bU i) τ x.f (.aj (gA x.f w)):=by
 obtain⟨dY,eb,ek,dK,a6,hm,hl,eZ,gJ,hf,du,hk,hg,il,kn,al⟩:=h.ex;obtain⟨o,c,h1,h2,h3⟩:=hl.aG (by rw[eZ];exact ph.2 aY);refine⟨dY,eb,ek,o,c,hm,hl.lf,hf.lf,h2,λe x he hx=>?_⟩;obtain⟨gS,Bc⟩:=fH.1 hx;obtain⟨aQ,⟨r,aZ⟩,bX⟩:=h3 (e-1) U;have gJ:=gJ (e-1) U U;rw[Bc] at gJ;refine⟨aQ,?_⟩;generalize dK[e-1]'U=Ck at gJ aZ;cases gJ with
 |mk w gf Ny oI=>
  refine⟨w,?_,Ny⟩;rw[<-pj,show(e-1)*9=(e-1)*shN (some 9) from rfl,aZ];rfl
section
variable {J τ:ad}{q at_:Nat}{cI:AV}{bU:Nat->Prop}{L:List aN}{ae:List (List Nat)}{au:List Nat}{b:bJ}{K:Nat->List AV->AV->Prop}{a c eu eU:Nat}{f g:PF}{gN ia:AV}
def NS{W:Nat->Prop}{f:PF}{w:AV}(h:e1 W τ f (.aj (gA f w)))(hd:f.dep<=40){l:List AV}{r:List AV}(hl:mapO (bt τ (b.bh+1000)) l=some r):mapO (bt τ (b.bh+1000)) (.aj (gA f w)::l)=some (f.aI.A true::r):=by
 rw[mapO_cons,h.snap _ (a8 _) U,hl]
abbrev a3p:List Nat:=vt++[1,1,1,1,1,1,1,1,1,0,1,0,0,1,1,0,0,1]
abbrev Bh(q n a c eu eU:Nat)(can:AV)(j N:Nat):List (Nat×AV):=(190,ag j)::(189,ag N)::(188,can)::qI q n a c eu eU can
def kp.has(h:kp J q cI at_ bU L ae au τ a c f g eu eU gN ia){dY eb ek:AV}(hm:τ.get (q+3)=some (.cells [dY,eb,ek])):Has τ [(q+4,[aw (q+3)]),(q+3,[dY,eb,ek]),(eu,gA f gN),(eU,gA g ia)]:=by
 have aB:=h.k;exact(((Has.nil.cons h.yR ay).cons h.rH (by simp;omega)).cons hm (by simp;omega)).cons h.gL.m (by simp;omega)
def c2B(cl:m9 b K)(h:kp J q cI at_ bU L ae au τ a c f g eu eU gN ia){n:Nat}{can:AV}{z:Nat->AV}{Q:dO}{e j N:Nat}(he:∃k∈ae,e∈k)(dP:∀F,sat ((16,ag e)::Bh q n a c eu eU can j N) F->Q .normal F τ)(cw:∀F ax,sat (iO q) F->Out J q cI at_ (L.length+ae.length+2) ax->Q (.exit 7) F ax):
  bo (b.aF K) none [] lI.ntmps (lo (a3p++[0]) oc) (bs ((16,ag e)::Bh q n a c eu eU can j N) z) τ Q:=by
 have hd:=h.dep;have b0:=h.B;have ow:=f.rC;obtain⟨dY,eb,ek,o,dd,hm,kt,_,ho,k8⟩:=h.gL.ms.lines h.ne;have H:=h.has hm;have Uy:1<=e/\e<=L.length:=by
  obtain⟨k,h1,h2⟩:=he;exact h.rd.inv.mem k h1 e h2
 obtain⟨x,hx⟩:∃x,L[e-1]? =some x:=⟨L[e-1]'U,cp _⟩
 obtain⟨Uz,c2C,UK,UL⟩:=k8 e x Uy.1 hx;have UM:x.f.dep<=40:=by have:=h.rd.inv.dep x (eY hx);have:=h.rd.inv.ne;omega
 refine W.sq ?_;refine W.Ut [] 19 I I ?_;by_cases cE:f.op=6
 ·obtain⟨f1,f2,rfl⟩:=PF.a3l (k:=2) cE b_;obtain⟨a3n,Ux,NR,xs,Bg,gS,dG⟩:=h.f12.parts;obtain⟨p0,fa,UN,Ip,UO,UP⟩:=dG 0 (by show 0<2;omega) (by rw[gS];show 0<2;omega);rw[UO] at Ip;have l1:f1.dep<=40/\f2.dep<=40:=by
   have:max f1.dep f2.dep+1<=40:=hd.1;omega
  refine gM ?_;refine W.eg I I I I UN ?_;refine W.Uu Bg Ip I I I ?_;refine gM ?_;refine W.eg I I I I Uz ?_;refine gM ?_;refine W.sD ho I I I UK ?_;refine W.et cl.fn cl.NQ (cl.same f1 x.f U U) I I I (NS UP l1.1 (NS UL UM I)) ?_;refine gM ?_;by_cases al:f1=x.f
  ·rw[decide_eq_true al];refine af ?_;obtain⟨p1,b4,c2D,a3q,c2E,c2F⟩:=dG 1 (by show 1<2;omega) (by rw[gS];show 1<2;omega);rw[c2E] at a3q;refine W.eg I I I I c2D ?_;refine W.Uu Bg a3q I I I ?_;refine af ?_;refine W.bV (c:=[ag a,ag e]) H I I I I λb3 eC H bI=>?_;have aH:=h.l_ (ax:=b3) ⟨U,bI⟩;refine W.bS I I I (Bf cl aH.gL aH.rd aH.ne U (c2F.aD (λi c hi aa=>⟨hi,bI _ _ aa⟩) _ (a8 _)) (.imp h.ha he h.cR ⟨x,hx,al.symm⟩) (.two (H.qx)) ay) λr dr ⟨ar,cE⟩=>⟨_,ar,?_⟩
   refine af ?_;refine ah.exit ?_;exact cw _ _ dm (cE.le U)
  ·rw[decide_eq_false al];refine af ?_;exact dP _ dm
 ·refine gM ?_;refine af ?_;exact dP _ dm
def c2G(cl:m9 b K)(h:kp J q cI at_ bU L ae au τ a c f g eu eU gN ia){n:Nat}{can:AV}{z:Nat->AV}{Q:dO}{e j N:Nat}(he:∃k∈ae,e∈k)(dP:∀F,sat ((16,ag e)::Bh q n a c eu eU can j N) F->Q .normal F τ)(cw:∀F ax,sat (iO q) F->Out J q cI at_ (L.length+ae.length+2) ax->Q (.exit 7) F ax):
  bo (b.aF K) none [] lI.ntmps (lo (a3p++[1]) oc) (bs ((16,ag e)::Bh q n a c eu eU can j N) z) τ Q:=by
 have hd:=h.dep;have b0:=h.B;have ow:=g.rC;obtain⟨dY,eb,ek,o,dd,hm,kt,_,ho,k8⟩:=h.gL.ms.lines h.ne;have H:=h.has hm;have Uy:1<=e/\e<=L.length:=by
  obtain⟨k,h1,h2⟩:=he;exact h.rd.inv.mem k h1 e h2
 obtain⟨x,hx⟩:∃x,L[e-1]? =some x:=⟨L[e-1]'U,cp _⟩
 obtain⟨Uz,c2C,UK,UL⟩:=k8 e x Uy.1 hx;have UM:x.f.dep<=40:=by have:=h.rd.inv.dep x (eY hx);have:=h.rd.inv.ne;omega
 refine W.sq ?_;refine W.Ut [] 19 I I ?_;by_cases cE:g.op=3
 ·obtain⟨bx,rfl⟩:=PF.c2t cE;obtain⟨a3n,Ux,NR,xs,Bg,gS,dG⟩:=h.f13.parts;obtain⟨p0,fa,UN,Ip,UO,UP⟩:=dG 0 (by show 0<1;omega) (by rw[gS];show 0<1;omega);rw[UO] at Ip;have l1:bx.dep<=40:=by
   have:bx.dep+1<=40:=hd.2.1;omega
  refine gM ?_;refine W.eg I I I I UN ?_;refine W.Uu Bg Ip I I I ?_;refine gM ?_;refine W.eg I I I I Uz ?_;refine gM ?_;refine W.sD ho I I I UK ?_;refine W.et cl.fn cl.NQ (cl.same bx x.f U U) I I I (NS UP l1 (NS UL UM I)) ?_;refine gM ?_;by_cases al:bx=x.f
  ·rw[decide_eq_true al];refine af ?_;refine W.bS I I I (tO (op:=2) cl.xa I I) λr bu ⟨ar,ey⟩=>⟨_,ar,?_⟩
   have h3:=h.l_ ey;have H:=H.aD ey.2;refine af ?_;refine W.bV (c:=[ag e,ag c]) H I I I I λb3 eC H bI=>?_;have aH:=h3.l_ (ax:=b3) ⟨U,bI⟩;refine W.bS I I I (Bf (f:=.cC) cl aH.gL aH.rd aH.ne U (.mk .cC .nilsl [] I .nil λi h=>by simp at h) (.not he h.aa ⟨x,hx,al.symm⟩ h.br) (.two (H.qx)) ay) λr dr ⟨ar,cE⟩=>⟨_,ar,?_⟩
   refine af ?_;refine ah.exit ?_;exact cw _ _ dm (cE.le U)
  ·rw[decide_eq_false al];refine af ?_;exact dP _ dm
 ·refine gM ?_;refine af ?_;exact dP _ dm
def a3r(cl:m9 b K)(h:kp J q cI at_ bU L ae au τ a c f g eu eU gN ia){n:Nat}{can:AV}{z:Nat->AV}{Q:dO}{bm:List Nat}(pX:eL τ can bm)(eD:∀e∈bm,∃k∈ae,e∈k)(Iq:bm.length<2^20)(cc:∀F ax,sat (iO q) F->Out J q cI at_ (L.length+ae.length+2) ax->Q .normal F ax):
  bo (b.aF K) none [] lI.ntmps (lo (vt++[1,1,1,1,1,1,1,1,1,0]) oc) (bs (qI q n a c eu eU can) z) τ Q:=by
 have qh:=pX.kQ;refine W.sq ?_;refine W.rg ?_;have H:Has τ []:=Has.nil;refine fV ?_;refine W.nil ?_;refine ah.c2A bm.length (λj F ax=>ax=τ/\sat ((188,can)::qI q n a c eu eU can) F) U dm I I (λj F ax aA aL hi oz=>?_) (λF ax aL hi=>?_)
 ·obtain⟨e,a3s,a3t,m7,yR,rH,u9,nB,fN,gR,c9,cf,bY,bx,_⟩:=aL;subst e;refine ah.norm (Bh q n a c eu eU can j bm.length) ⟨hi,oz,a3s,a3t,m7,yR,rH,u9,nB,fN,gR,c9,cf,bY,bx,trivial⟩ λF=>?_;have H:Has ax []:=Has.nil;have UQ:=eD _ (bC aA);refine ah.block ?_;refine W.sq ?_;refine W.rg ?_;refine fV ?_;generalize bm[j]=e at UQ ⊢;refine W.nil ?_;refine ah.norm ((16,ag e)::Bh q n a c eu eU can j bm.length) dm λF=>?_;refine W.sq ?_;refine c2B cl h UQ (λF bL=>?_) λF dr bL cE=>?_
  ·refine ah.norm ((16,ag e)::Bh q n a c eu eU can j bm.length) bL λF=>?_;refine c2G cl h UQ (λF bL=>?_) λF dr bL cE=>?_
   ·obtain⟨_,aQ,aZ,bX,bL⟩:=bL;exact⟨aQ,aZ,rfl,bX,bL⟩
   ·exact cc _ _ bL cE
  ·exact cc _ _ bL cE
 ·obtain⟨e,a3s,a3t,m7,yR,rH,u9,nB,fN,gR,c9,cf,bY,bx,_⟩:=aL;subst e;exact cc _ _ ⟨c9,cf,bY,bx,trivial⟩ (h.out.le U)
end
section
variable {J τ:ad}{q at_:Nat}{cI:AV}{bU:Nat->Prop}{L:List aN}{ae:List (List Nat)}{au:List Nat}{b:bJ}{K:Nat->List AV->AV->Prop}{a c eu eU:Nat}{f g:PF}{gN ia:AV}
def ll.open_{m:Nat}{dY eb ek o8 qF:AV}{dK a6:List AV}{ef jE:Nat}{ax:ad}(hlt:∀i,bU i->i<τ.next)(hl:Sl τ (some 9) dY dK)(eZ:dK.length=L.length)(gJ:∀i (h:i<dK.length) (h':i<L.length),lM (λi=>¬bU i) τ L[i] dK[i])(du:a6.length=ae.length)(mO:∀i (h:i<a6.length) (h':i<ae.length),eL τ a6[i] ae[i])(kn:bU m)(lU:∀o l c,dY= .ao o 0 l (some 9) c->c=none)(al:a2P m dY eb ek a6 bU)(k:∀i o,i≠m->eb.at? ≠some i->ek.at? ≠some i->τ.get i=some o->ax.get i=some o)
  (nh:ax.get m=some (.cells [dY,o8,qF])) (hf:Sl ax none o8 (a6++[.nilsl])) (hg:eL ax qF (au++[L.length+1])) (m8:o8.at? =some ef) (rq:qF.at? =some jE) (ho:τ.next<=ef/\τ.next<=jE/\ef≠jE/\ef<ax.next/\jE<ax.next) (lT:∀o l c,o8= .ao o 0 l none c->c=none) (ny:∀o l c,qF= .ao o 0 l none c->c=none):
  ∃g5,ll ax m g5 L (ae++[[]]) (au++[L.length+1])/\oZ bU g5 τ ax:=by
 have yQ:∀i o,¬bU i->τ.get i=some o->ax.get i=some o:=λi o hi h=>k i o (λe=>hi (e▸kn)) (λe=>hi (al.f _ e).1) (λe=>hi (al.g _ e).1) h;refine⟨λi=>bU i\/i=ef\/i=jE,⟨λi hi=>?_,dY,o8,qF,dK,a6++[.nilsl],nh,?_,eZ,λi h h'=>?_,hf,by simp[du],λi h h'=>?_,hg,⟨λ_=>⟨lT,ny⟩,lU⟩,.inl kn,?_⟩,U,λc o aa h=>yQ c o aa h,λc aa=>?_⟩
 ·rcases hi with h|h|h
  ·have:=hlt i h;omega
  ·omega
  ·omega
 ·exact hl.aD λi o hi=>k i o (al.l _ hi).2.1 (al.l _ hi).2.2.1 (al.l _ hi).2.2.2
 ·exact(gJ i h h').aD λi c hi aa=>⟨λh=>by
   have:=ad.a9 aa;rcases h with h|h|h
   ·exact hi h
   ·omega
   ·omega,yQ _ _ hi aa⟩
 ·by_cases hi:i<a6.length
  ·rw[iC hi,iC U];exact(mO i hi U).aD λj o aA=>k j o (al.s i hi _ aA).2.1 (al.s i hi _ aA).2.2.2.1 (al.s i hi _ aA).2.2.2.2
  ·have e:i=a6.length:=by rw[c5] at h;simp only[fw,hr] at h;omega
   subst e;rw[oP I,oP du];exact .nil
 ·refine⟨λo h=>?_,λo h=>?_,λo h=>?_,λi h o la=>?_,λi j h h' iK o h1 h2=>?_⟩
  ·obtain⟨h1,h2,h3,aH⟩:=al.l o h;have:=hlt o h1;exact⟨.inl h1,h2,λe=>by rw[m8] at e;have:=kr e;omega,λe=>by rw[rq] at e;have:=kr e;omega⟩
  ·rw[m8] at h;cases h;exact⟨.inr (.inl I),λe=>by have:=hlt _ kn;omega,λe=>by rw[rq] at e;have:=kr e;omega⟩
  ·rw[rq] at h;cases h;exact⟨.inr (.inr I),λe=>by have:=hlt _ kn;omega⟩
  ·by_cases hi:i<a6.length
   ·rw[iC hi] at la;obtain⟨h1,h2,h3,aH,bT⟩:=al.s i hi o la;have:=hlt o h1;exact⟨.inl h1,h2,h3,λe=>by rw[m8] at e;have:=kr e;omega,λe=>by rw[rq] at e;have:=kr e;omega⟩
   ·have e:i=a6.length:=by rw[c5] at h;simp only[fw,hr] at h;omega
    subst e;rw[oP I] at la;cases la
  ·by_cases hi:i<a6.length
   ·by_cases aA:j<a6.length
    ·rw[iC hi] at h1;rw[iC aA] at h2;exact al.ch i j hi aA iK o h1 h2
    ·have e:j=a6.length:=by rw[c5] at h';simp only[fw,hr] at h';omega
     subst e;rw[oP I] at h2;cases h2
   ·have e:i=a6.length:=by rw[c5] at h;simp only[fw,hr] at h;omega
    subst e;rw[oP I] at h1;cases h1
 ·rcases aa with h|h|h
  ·exact .inl h
  ·right;omega
  ·right;omega
def c2H(cl:m9 b K)(h:kp J q cI at_ bU L ae au τ a c f g eu eU gN ia){n:Nat}(hn:n<256){can:AV}{z:Nat->AV}{Q:dO}(cc:∀F ax,sat (iO q) F->Out J q cI at_ (L.length+ae.length+2) ax->Q .normal F ax):
  bo (b.aF K) none [] lI.ntmps (lo (vt++[1,0]) oc) (bs (qI q n a c eu eU can) z) τ Q:=by
 have b0:=h.B;have rr:=h.num;have aL:=h.rd.inv;have a3j:0<L.length:=ph.2 h.ne;obtain⟨dY,eb,ek,dK,a6,hm,hl,eZ,gJ,hf,du,mO,hg,il,kn,al⟩:=h.gL.ms.ex;have H:Has τ [(q+4,[aw (q+3)]),(q+3,[dY,eb,ek])]:=(Has.nil.cons hm ay).cons h.gL.m ay;have hU:=hf.vw;by_cases bT:ae.length<5
 ·refine tU ?_;refine W.Ut [(18,q+4,.cells [aw (q+3)]),(19,q+4,.cells [aw (q+3)]),(22,q+4,.cells [aw (q+3)]),(25,q+4,.cells [aw (q+3)]),(18,q+3,.cells [dY,eb,ek]),(19,q+3,.cells [dY,eb,ek])] 26 I I ?_;refine W.su h.gL.m ay I I I I (eo I) ?_;refine W.su h.gL.m ay I I I I (eo I) ?_;refine W.su h.gL.m ay I I I I (eo I) ?_;refine gM ?_;refine W.su hm ay I I I I (eo hf.lf) ?_;refine W.bV (c:=[.nilsl]) H I I I I λa5 c6 H bj=>?_;have tP:=bj _ _ hm;have a3u:=bj _ _ h.gL.m;refine W.su a3u ay I I I I (eo I) ?_;refine gM ?_;refine W.su tP ay I I I I (eo hg.lf) ?_;refine W.su a3u ay I I I I (eo I) ?_;refine gM ?_;refine W.su tP ay I I I I (eo hl.lf) ?_;refine W.pM (v:=ag dK.length) I I I (λs=>x3 I hl.len) (eo I) ?_;refine gM ?_;refine W.bV (c:=[ag (dK.length+1)]) H I I I I λbu dx H k3=>?_;have cG:∀i o,τ.get i=some o->bu.get i=some o:=λi o h=>k3 _ _ (bj _ _ h);have bz:=H.x7;have bY:=H.qx;have UR:=ad.a9 h.gL.m;refine W.NF (mW:=[(19,q+4,.cells [aw (q+3)]),(22,q+4,.cells [aw (q+3)]),(25,q+4,.cells [aw (q+3)]),(19,q+3,.cells [dY,eb,ek])]) 18 I (λp an=>by
   simp only[c2,hj,or_false] at an;rcases an with rfl|rfl|rfl|rfl|rfl|rfl
   ·exact .inl ⟨rfl,cG _ _ h.gL.m⟩
   ·exact .inr ay
   ·exact .inr ay
   ·exact .inr ay
   ·exact .inl ⟨rfl,cG _ _ hm⟩
   ·exact .inr ay) ?_
  refine W.ap (w:=.ao τ.next 0 1 none (some 1)) .nilsl [] (hf.aD λi o _=>cG i o) (by show(match bu.get τ.next with|some (.cells c)=>elems none 1 (c.drop 0)|_=>none)=_;rw[bz];rfl) (λz a_=>by rw[cA.1 a_];rfl) (by show(3*(a6.length+1)+2000)*24<=_;omega) I I I I λo8 b3 US pQ M0 eC bI=>?_;have UT:∀i,eb.at? =some i->i≠q+3/\i≠q+4/\i<τ.next:=λi e=>by
   have h1:=al.f _ e;exact⟨h1.2.1,(h.gL.mu _ h1.1).2.2.1,h.gL.ms.lt _ h1.1⟩
  have mv:∀i o,eb.at? ≠some i->τ.get i=some o->b3.get i=some o:=λi o hi h=>bI _ _ hi (cG _ _ h);have wQ:=mv _ _ (λe=>(UT _ e).2.1 I) h.gL.m;have wv:=mv _ _ (λe=>(UT _ e).1 I) hm;refine W.NF (mW:=[(22,q+4,.cells [aw (q+3)]),(25,q+4,.cells [aw (q+3)])]) 19 I (λp an=>by
   simp only[c2,hj,or_false] at an;rcases an with rfl|rfl|rfl|rfl
   ·exact .inl ⟨rfl,wQ⟩
   ·exact .inr ay
   ·exact .inr ay
   ·exact .inl ⟨rfl,wv⟩) ?_
  have c2I:=bI _ _ (λe=>by have:=(UT _ e).2.2;omega) bY;refine W.ap (w:=.ao a5.next 0 1 none (some 1)) (ag (dK.length+1)) [] (hg.aD λi o hi h=>mv i o (λe=>(al.f _ e).2.2 hi) h) (by show(match b3.get a5.next with|some (.cells c)=>elems none 1 (c.drop 0)|_=>none)=_;rw[c2I];rfl) (λz a_=>by rw[cA.1 a_];rfl) (by rw[bB,aL.len];show(3*(ae.length+1)+2000)*8<=_;omega) I I I I λqF cW yE sF Tb gw cP=>?_;have UU:∀i,ek.at? =some i->i≠q+3/\i≠q+4/\i<τ.next:=λi e=>by
   have h1:=al.g _ e;exact⟨h1.2,(h.gL.mu _ h1.1).2.2.1,h.gL.ms.lt _ h1.1⟩
  have HP:=cP _ _ (λe=>(UU _ e).2.1 I) wQ;have Bi:=cP _ _ (λe=>(UU _ e).1 I) wv;have H:Has cW [(q+3,[dY,eb,ek])]:=Has.nil.cons Bi ay;refine gM ?_;refine W.NF (mW:=[(25,q+4,.cells [aw (q+3)])]) 22 I (λp an=>by
   simp only[c2,hj,or_false] at an;rcases an with rfl|rfl
   ·exact .inl ⟨rfl,HP⟩
   ·exact .inr ay) ?_
  refine W.st (bc:=[dY,o8,ek]) H 0 I I I I US.jm (by rw[US.j3];rfl) λdr h5 H dI=>?_;refine gM ?_;have Ir:=dI _ _ ay HP;refine W.NF (mW:=[]) 25 I (λp an=>by
   rw[cA.1 an];exact .inl ⟨rfl,Ir⟩) ?_
  refine W.st (bc:=[dY,o8,qF]) H 0 I I I I yE.jm (by rw[yE.j3];rfl) λeT j0 H fZ=>?_;have c2J:=fZ _ _ ay Ir;have eB:o8.at? =some bu.next:=pQ;have px:qF.at? =some b3.next:=sF;have UW:∀i o,i≠q+3->cW.get i=some o->eT.get i=some o:=λi o hi h=>fZ _ _ hi (dI _ _ hi h);have d1y:=h.gL.ms.lt _ kn;obtain⟨g5,NC,c2K⟩:=ll.open_ (ax:=eT) (o8:=o8) (qF:=qF) (ef:=bu.next) (jE:=b3.next) h.gL.ms.lt hl eZ gJ du mO kn il.2 al (λi o h1 h2 h3 h=>UW _ _ h1 (cP _ _ h3 (mv _ _ h2 h))) (H.qx) (US.aD λi o hi h=>UW _ _ (λe=>by rw[eB] at hi;have:=kr hi;omega) (cP _ _ (λe=>by rw[eB] at hi;have:=kr hi;have:=(UU _ e).2.2;omega) h)) (by
   have:=yE.aD (τ:=eT) λi o hi h=>UW _ _ (λe=>by rw[px] at hi;have:=kr hi;omega) h;unfold eL;rw[gO,← eZ];exact this) eB px U M0 Tb
  have a3v:=h.gL.Ik NC c2K;have H:Has eT [(q+4,[aw (q+3)])]:=Has.nil.cons c2J ay;have HB:iY eT [(q+4,[aw (q+3)])]:=H.b;refine tU ?_;refine W.CV ?_;refine W.yL [(q+4,[aw (q+3)])] [6] 7 I I ?_;refine gM ?_;refine W.bS I I I (NH cl.Im cl.xa cl.at_ (c+n) U) λr eV ⟨wp,ar,an,j5⟩=>⟨_,ar,?_⟩
  have lB:wp.cells=[wp]/\wp.val=true:=by
   cases an with
   |mk _ w xs h1 h2 h3=>exact⟨h2.one.1,h2.one.2.1⟩
  have a3w:=a3v.l_ j5;have UX:e1 (λi=>¬g5 i) eV (e2 (c+n)) (.aj (gA (e2 (c+n)) wp)):=an.aD (λi c hi aa=>⟨λhm=>by have:=a3v.ms.lt _ hm;omega,aa⟩) _ (a8 _);have hX:=yN (c+n);refine W.gx (c:=[ag 0,ag 1,.b true,.i .u8 (Int.ofNat (e2 (c+n)).op),.s (e2 (c+n)).aW,.nilsl,wp,.s [],.nilsl]) I I (ry I I I (ry I I I (ry I I I I))) ?_;refine W.ob (HB.aD j5.2) I ?_;refine W.bS I I I (H5 cl.Il a3w.ms ay ⟨U,by simp;omega,λl hl=>by
   rcases eX.1 hl with hl|hl
   ·exact(aL.small U).2.2 l hl
   ·rw[cA.1 hl];simp⟩ (x:=⟨0,1,true,e2 (c+n),[],[]⟩) (.mk wp .nilsl UX .nil) (by show(e2 (c+n)).dep<=400;omega)) λr hv ⟨ar,a3x,lZ,x8⟩=>⟨_,ar,?_⟩
  refine af ?_;have NT:(ae++[[]]).length-1=ae.length:=by simp
  have Bj:(ae++[[]]).getD ae.length []=[]:=by rw[fD];simp
  have hk:(ae++[([]:List Nat)]).set ae.length ([]++[L.length+1])=ae++[[L.length+1]]:=by simp
  rw[NT,Bj,hk] at lZ;refine cc _ _ dm ⟨a3x,_,_,_,a3w.Ik lZ x8,.step h.rd (.yM ae au (c+n) h.ne bT),ay,by simp;omega⟩
 ·refine af ?_;exact cc _ _ dm (h.out.le U)
end
abbrev a3y:List Nat:=[1,1,1,1,1,0,0,0,1,0]
def c2L{a c:Nat}(aa:c≠0)(ha:a<2^63):binop .quo (ag a) (ag c)=some (ag (a/c)):=by
 show(if Int.ofNat c=0 then none else some (AV.i .i64 (IntKind.wrap .i64 ((Int.ofNat a).tdiv (Int.ofNat c)))))=_;rw[if_neg (by simpa using aa)];have e:(Int.ofNat a).tdiv (Int.ofNat c)=((a/c:Nat):Int):=rfl;rw[e,b4H (zd (Py _ _) ha)];rfl
section
variable {J τ:ad}{q at_:Nat}{cI:AV}{bU:Nat->Prop}{L:List aN}{ae:List (List Nat)}{au:List Nat}{b:bJ}{K:Nat->List AV->AV->Prop}{a c eu eU:Nat}{f g:PF}{gN ia:AV}
def c2M(cl:m9 b K)(h:kp J q cI at_ bU L ae au τ a c f g eu eU gN ia){n:Nat}(hn:n<256){can:AV}{z:Nat->AV}{Q:dO}{bm:List Nat}(pX:eL τ can bm)(eD:∀e∈bm,∃k∈ae,e∈k)(Iq:bm.length<2^20)(cc:∀F ax,sat (iO q) F->Out J q cI at_ (L.length+ae.length+2) ax->Q .normal F ax):
  bo (b.aF K) none [] lI.ntmps (lo vt oc) (bs (qI q n a c eu eU can) z) τ Q:=by
 have H:Has τ []:=Has.nil;have hm:n%10<10:=A6 _ b_;have dP:∀ {iU:b5} {F:List (Nat×AV)},(∀z,bo (b.aF K) none [] lI.ntmps iU (bs (qI q n a c eu eU can) z) τ Q)->sat (qI q n a c eu eU can) (bs F z)->bo (b.aF K) none [] lI.ntmps iU (bs F z) τ Q:=λh1 h2=>ah.norm _ h2 h1;have mI:=cc;refine W.sq ?_;refine W.rg ?_;refine fV ?_;by_cases h0:n%10=0
 ·refine fV ?_;refine W.nil (W.mX I (dP (λz=>c2H cl h hn cc) ?_));exact dm
 refine fV ?_;refine W.nil (W.oL I (W.sq (W.rg ?_)));refine fV ?_;by_cases h1:n%10=1
 ·refine fV ?_;refine W.nil (W.mX I (dP (λz=>c2s cl h cc) ?_));exact dm
 refine fV ?_;refine W.nil (W.oL I (W.sq (W.rg ?_)));refine fV ?_;by_cases h2:n%10=2
 ·refine fV ?_;refine W.nil (W.mX I (dP (λz=>c2v cl h cc) ?_));exact dm
 refine fV ?_;refine W.nil (W.oL I (W.sq (W.rg ?_)));refine fV ?_;by_cases h3:n%10=3
 ·refine fV ?_;refine W.nil (W.mX I (dP (λz=>c2y cl h cc) ?_));exact dm
 refine fV ?_;refine W.nil (W.oL I (W.sq (W.sq (W.rg ?_))));refine fV ?_;by_cases aH:n%10=4
 ·refine fV ?_;refine W.nil (W.mX I (W.F3 (W.mX I (dP (λz=>a3r cl h pX eD Iq cc) ?_))));exact dm
 refine fV ?_;refine W.nil (W.oL I (W.rg ?_));refine fV ?_;by_cases bT:n%10=5
 ·refine fV ?_;refine W.nil (W.mX I (dP (λz=>a3r cl h pX eD Iq cc) ?_));exact dm
 refine fV ?_;refine W.nil (W.oL I (W.sq (W.sq (W.rg ?_))));refine fV ?_;by_cases cE:n%10=6
 ·refine fV ?_;refine W.nil (W.mX I (W.F3 (W.mX I (dP (λz=>a3m cl h cc) ?_))));exact dm
 refine fV ?_;refine W.nil (W.oL I (W.rg ?_));refine fV ?_;by_cases eI:n%10=7
 ·refine fV ?_;refine W.nil (W.mX I (dP (λz=>a3m cl h cc) ?_));exact dm
 refine fV ?_;refine W.nil (W.oL I (W.sq (W.rg ?_)));refine fV ?_;by_cases jH:n%10=8
 ·refine fV ?_;refine W.nil (W.mX I (dP (λz=>c2w cl h cc) ?_));exact dm
 refine fV ?_;refine W.nil (W.oL I (W.sq (W.rg ?_)));refine fV ?_;refine W.nil (W.mX I (dP (λz=>c2x cl h cc) ?_));exact dm
end
section
variable {J τ:ad}{q at_:Nat}{cI:AV}{bU:Nat->Prop}{L:List aN}{ae:List (List Nat)}{au:List Nat}{b:bJ}{K:Nat->List AV->AV->Prop}
def c2N(cl:m9 b K){code:List Nat}(aq:∀τ,Vw τ none cI (code.map uB))(hl:code.length<2^62)(hb:∀x∈code,x<256)(gi:at_<=30)(h:ln J q cI at_ bU L ae au τ)(hR:Rd L ae au)(aY:L≠[])(b0:L.length+ae.length<=36){n:Nat}(hn:n<256){can:AV}{bm:List Nat}(pX:eL τ can bm)(qj:∀o,can.at? =some o->q+5<o/\¬bU o)(eD:∀e∈bm,∃k∈ae,e∈k)(UY:0<bm.length)(Iq:bm.length<2^20){z:Nat->AV}{Q:dO}(cc:∀F ax,sat (iO q) F->Out J q cI (qH code at_) (L.length+ae.length+2) ax->Q .normal F ax):
  bo (b.aF K) none [] lI.ntmps (lo (a3y++[1,1,1]) oc) (bs ((7,can)::(6,ag n)::iO q) z) τ Q:=by
 obtain⟨uA,dd,H2,ny,oI⟩:=pX.aG (by rw[bB];exact UY);have lU:(bm.map ag).length=bm.length:=bB _;have H:Has τ []:=Has.nil;have qh:=pX.kQ;have UZ:n/10%bm.length<bm.length:=A6 _ UY;have e6:qG code at_%bm.length<bm.length:=A6 _ UY;obtain⟨aQ,⟨ik,aZ⟩,bX⟩:=oI (n/10%bm.length) (by rw[lU];exact UZ);obtain⟨dU,⟨kJ,fr⟩,gK⟩:=oI (qG code at_%bm.length) (by rw[lU];exact e6);rw[ez] at bX gK;refine W.sq ?_;refine W.yL [(uA,dd)] [18] 18 I I ?_;refine gM ?_;refine W.bin I I I I (c2L (c:=10) b_ U) ?_;refine gM ?_;refine W.pM (v:=ag bm.length) I I I (λs=>x3 I (by rw[pX.len,lU])) (eo I) ?_;refine W.bin I I I I (Af U) ?_;refine W.eg I I I I aQ ?_;refine W.vr ny (.head _) I I I I bX (eo I) ?_;refine gM ?_;refine W.pM (v:=ag bm.length) I I I (λs=>x3 I (by rw[pX.len,lU])) (eo I) ?_;refine W.bS I I I (h.next cl.wg aq hl hb gi) λr a5 ⟨ar,h2,c6,bj⟩=>⟨_,ar,?_⟩
 have a3z:=bj _ _ (by have:=(qj _ H2).1;omega) ny;have c2O:eL a5 can bm:=pX.aD λi o hi ho=>bj _ _ (by have:=(qj _ hi).1;omega) ho;refine W.bin I I I I (Af U) ?_;refine W.eg I I I I dU ?_;refine W.sD a3z I I I gK ?_;refine fV ?_;refine W.ob (iY.nil.cons a3z) I ?_;refine W.CV ?_;have Is:=eD _ (bC UZ);have It:=eD _ (bC e6);generalize bm[n/10%bm.length]'UZ=a at Is ⊢;generalize bm[qG code at_%bm.length]'e6=c at It ⊢;refine ah.norm ((11,ag c)::(10,ag a)::(7,can)::(6,ag n)::iO q) dm λF=>?_;obtain⟨dY,eb,ek,o,U0,hm,kt,_,ho,k8⟩:=h2.ms.lines aY;have gI:∀ {e},(∃k∈ae,e∈k)->1<=e/\e<=L.length:=λ⟨k,h1,h2⟩=>hR.inv.mem k h1 _ h2;obtain⟨x,hx⟩:∃x,L[a-1]? =some x:=⟨L[a-1]'(by have:=gI Is;omega),cp _⟩
 obtain⟨y,hy⟩:∃y,L[c-1]? =some y:=⟨L[c-1]'(by have:=gI It;omega),cp _⟩
 obtain⟨c2P,a3A,c2Q,a3B⟩:=k8 a x (gI Is).1 hx;obtain⟨c2R,a3C,c2S,a3D⟩:=k8 c y (gI It).1 hy;have d1z:x.f.dep<=40:=by have:=hR.inv.dep x (eY hx);have:=hR.inv.ne;omega
 have SR:y.f.dep<=40:=by have:=hR.inv.dep y (eY hy);have:=hR.inv.ne;omega
 have H:Has a5 [(q+4,[aw (q+3)]),(q+3,[dY,eb,ek])]:=(Has.nil.cons hm ay).cons h2.m ay;have d1A:=gI Is;have d1B:=gI It;refine W.sq ?_;refine W.yL [(q+4,[aw (q+3)]),(q+3,[dY,eb,ek]),(o,U0)] [20,21] 22 I I ?_;refine W.vr h2.m (.head _) I I I I I (eo I) ?_;refine gM ?_;refine W.vr hm (.tail _ (.head _)) I I I I I (eo kt) ?_;refine gM ?_;refine W.eg I I I I c2P ?_;refine gM ?_;refine W.vr ho (.tail _ (.tail _ (.head _))) I I I I c2Q (a3B.eqb _ (a8 _) (by show _<=b.bh+1000;omega)) ?_;refine W.vr h2.m (.head _) I I I I I (eo I) ?_;refine gM ?_;refine W.vr hm (.tail _ (.head _)) I I I I I (eo kt) ?_;refine gM ?_;refine W.eg I I I I c2R ?_;refine gM ?_;refine W.vr ho (.tail _ (.tail _ (.head _))) I I I I c2S (a3D.eqb _ (a8 _) (by show _<=b.bh+1000;omega)) ?_;generalize yS:a5.next=l8;refine W.b6 (c:=[.i .u8 0,.s [],.nilsl,.nilsl]) H yS I I I λbu dx H k3=>?_;refine W.b6 (c:=[.i .u8 0,.s [],.nilsl,.nilsl]) H dx I I I λb3 eC H bI=>?_;have Bk:∀i o,a5.get i=some o->b3.get i=some o:=λi o h=>bI _ _ (k3 _ _ h);have Io:iY b3 [(q+4,[aw (q+3)]),(q+3,[dY,eb,ek]),(o,U0)]:=((iY.nil.cons (Bk _ _ ho)).cons (Bk _ _ hm)).cons (Bk _ _ h2.m);refine W.ob Io I ?_;refine W.st (bc:=gA x.f a3A) H 1 I I I I I I λcW gw H cP=>?_;have d1C:=ad.a9 h2.m;have c1:=ad.a9 ho;have lm:=ad.a9 hm;have c2T:iY cW [(q+4,[aw (q+3)]),(q+3,[dY,eb,ek]),(o,U0)]:=((iY.nil.cons (cP _ _ (by simp;omega) (Bk _ _ ho))).cons (cP _ _ (by simp;omega) (Bk _ _ hm))).cons (cP _ _ (by simp;omega) (Bk _ _ h2.m));refine W.ob c2T I ?_;refine W.st (bc:=gA y.f a3C) H 0 I I I I I I λdr h5 H dI=>?_;have M:cM a5 dr:=⟨U,λi o h=>by have:=ad.a9 h;exact dI _ _ (by simp;omega) (cP _ _ (by simp;omega) (Bk _ _ h))⟩
 have db:=h2.l_ M;refine tU ?_;refine W.CV ?_;have d1D:=db.a;have UR:=ad.a9 h2.a;refine tU ?_;refine W.bin I I I I (Af (c:=10) b_) ?_;refine W.nil ?_;refine ah.block ?_;refine ah.norm (qI q n a c l8 (l8+1) can) dm λF=>?_;have aD:∀ {f v},e1 (λi=>¬bU i) a5 f v->e1 (λi=>¬bU i) dr f v:=λh=>h.aD (λi c hi aa=>⟨hi,M.2 _ _ aa⟩) _ (a8 _);exact c2M cl (eu:=l8) (eU:=l8+1) (gN:=a3A) (ia:=a3C) ⟨db,hR,aY,b0,Is,It,⟨x,hx,rfl⟩,⟨y,hy,rfl⟩,H.x7,H.qx,aD a3B,aD a3D,U⟩ hn (c2O.aD λi o _=>M.2 i o) eD Iq cc
end
def Sl.new{τ:ad}{v:AV}{xs:List AV}(h:Sl τ none v xs)(aY:xs≠[]):newOf τ v=some xs:=by
 cases h with
 |nil=>exact absurd I aY
 |ao o cap xs rest h aa aB=>exact(Sl.ao o cap xs rest h aa aB).read
section
variable {J τ:ad}{q at_:Nat}{cI:AV}{bU:Nat->Prop}{L:List aN}{ae:List (List Nat)}{au:List Nat}{b:bJ}{K:Nat->List AV->AV->Prop}
def U1{ae:List (List Nat)}:ae.flatten.length=(ae.map List.length).sum:=List.length_flatten
def a3E{ae:List (List Nat)}{j:Nat}(h:j<ae.length):(ae.take (j+1)).flatten=(ae.take j).flatten++ae[j]:=by rw[jL h,List.flatten_append];simp
def c2U(cl:m9 b K){code:List Nat}(aq:∀τ,Vw τ none cI (code.map uB))(hl:code.length<2^62)(hb:∀x∈code,x<256)(gi:at_<=30)(h:ln J q cI at_ bU L ae au τ)(hR:Rd L ae au)(aY:L≠[])(b0:L.length+ae.length<=36){z:Nat->AV}{Q:dO}(cc:∀F ax,sat (iO q) F->Out J q cI (qH code (qH code at_)) (L.length+ae.length+2) ax->Q .normal F ax):
  bo (b.aF K) none [] lI.ntmps (lo a3y oc) (bs (iO q) z) τ Q:=by
 have aL:=hR.inv;have DW:=aL.sum;have hfn:=aL.ne;have H:Has τ []:=Has.nil;refine W.sq (W.rg ?_);refine fV ?_;refine W.bS I I I (h.next cl.wg aq hl hb gi) λr cx ⟨ar,h1,cy,bl⟩=>⟨_,ar,?_⟩
 have hn:=a3g hb at_;generalize qG code at_=n at hn ⊢;have H:Has cx []:=Has.nil;refine fV ?_;refine W.nil (W.sq (W.rg ?_));refine fV ?_;refine W.nil (W.sq (W.sq (W.rg ?_)));obtain⟨dY,eb,ek,dK,a6,hm,U2,eZ,gJ,hf,du,mO,hg,il,kn,al⟩:=h1.ms.ex;have H:Has cx [(q+4,[aw (q+3)]),(q+3,[dY,eb,ek])]:=(Has.nil.cons hm ay).cons h1.m ay;have hU:=hf.vw;have UR:=ad.a9 h1.a;refine fV ?_;refine W.nil ?_;refine ah.each a6.length (λj F ax=>(∃can,F 7=can/\eL ax can (ae.take j).flatten/\∀o,can.at? =some o->cx.next<=o)/\cM cx ax/\sat ((48,eb)::(6,ag n)::iO q) F) U ⟨⟨.nilsl,rfl,.nil,λo h=>by cases h⟩,⟨a8 _,λ_ _ h=>h⟩,dm⟩ I I (λj F ax aA oQ hi oz=>?_) (λF ax oQ hi=>?_)
 ·obtain⟨⟨can,fN,pX,qj⟩,M,a3F,gR,c9,cf,bY,bx,_⟩:=oQ;refine ah.norm ((50,ag j)::(49,ag a6.length)::(48,eb)::(7,can)::(6,ag n)::iO q) ⟨hi,oz,a3F,fN,gR,c9,cf,bY,bx,trivial⟩ λF=>?_;have H:Has ax []:=Has.nil;have hU:=(hf.aD (τ:=ax) λi o _=>M.2 i o).vw;have a3G:=(mO j aA U).aD (τ:=ax) λi o _=>M.2 i o;have a3H:ae[j]'U≠[]:=aL.Ij aY _ (bC _);have KO:(ae.take j).flatten.length+(ae[j]'U).length<=L.length:=by
   have h1:=congrArg List.length (a3E (show j<ae.length by omega));rw[c5] at h1;have h2:((ae.take (j+1)).map List.length).sum<=(ae.map List.length).sum:=by
    conv=>rhs;rw[<-wa (j+1) ae,gO,HY]
    omega
   rw[<-U1] at h2;omega
  refine ah.block ?_;refine tU ?_;generalize a6[j]'aA=c2V at a3G ⊢;have jo:=a3G.new (by simpa using a3H);obtain⟨y,ba,hy⟩:∃y ba,(ae[j]'U).map ag=y::ba:=by
   cases hx:(ae[j]'U).map ag with
   |nil=>exact absurd (by simpa using hx) a3H
   |cons y ba=>exact⟨y,ba,rfl⟩
  rw[hy] at jo;refine W.ap (w:=c2V) y ba pX jo (λz a_=>by rw[<-hy] at a_;obtain⟨k,_,rfl⟩:=cT.1 a_;rfl) (by
   rw[<-hy,bB,bB];show(3*(_+_)+2000)*8<=_;omega) I I I I λc2W bu M4 kS _ dx k3=>?_
  have H:Has bu []:=Has.nil;refine tU ?_;have d1E:=M.1;refine⟨rfl,rfl,⟨c2W,rfl,?_,λo ho=>by rw[kS] at ho;have:=kr ho;omega⟩,⟨U,λi o h=>k3 _ _ (λe=>by have:=qj _ e;have:=ad.a9 h;omega) (M.2 _ _ h)⟩,dm⟩;unfold eL;rw[a3E (show j<ae.length by omega),gO,hy];exact M4
 ·obtain⟨⟨can,fN,pX,qj⟩,M,a3F,gR,c9,cf,bY,bx,_⟩:=oQ;rw[du,jw] at pX;refine ah.norm ((7,can)::(6,ag n)::iO q) ⟨fN,gR,c9,cf,bY,bx,trivial⟩ λF=>?_;refine(c2N cl aq hl hb (NP gi) (h1.l_ M) hR aY b0 hn pX (λo ho=>?_) (λe he=>?_) ?_ ?_ cc)
  ·have vY:=qj o ho;exact⟨U,λnh=>by have:=h1.ms.lt _ nh;omega⟩
  ·obtain⟨k,h1,h2⟩:=List.mem_flatten.1 he;exact⟨k,h1,h2⟩
  ·rw[U1];have:=a3h (bC (show 0<ae.length by omega));have h0:=aL.Ij aY _ (bC (show 0<ae.length by omega));have:=ph.2 h0;omega
  ·rw[U1];omega
def c2X(code:List Nat)(at_ n:Nat):Prop:=n<=4+at_\/n<=5+at_/\(code.length<=at_\/30<=at_)
def c2Y(cl:m9 b K)(h:ln J q cI at_ bU L ae au τ)(hR:Rd L ae au)(aY:L≠[])(b0:L.length+ae.length<=36){z:Nat->AV}{Q:dO}(cc:∀F ax L ae au dY eb ek bU,ln J q cI at_ bU L ae au ax->Rd L ae au->L≠[]->L.length<=35->ae.length=1->ax.get (q+3)=some (.cells [dY,eb,ek])->F 2=dY->Q .ret F ax):
  bo (b.aF K) none [] lI.ntmps (lo [1,1,1,1,1,1] oc) (bs (iO q) z) τ Q:=by
 refine W.sq ?_;refine ah.block (ah.loop (λk F ax=>(∃bU L ae au,ln J q cI at_ bU L ae au ax/\Rd L ae au/\L≠[]/\L.length+ae.length<=36/\ae.length=k)/\sat (iO q) F) (λk F ax oQ=>?_) ae.length ⟨⟨_,_,_,_,h,hR,aY,b0,rfl⟩,dm⟩);obtain⟨⟨bU,L,ae,au,h,hR,aY,b0,aB⟩,c9,cf,bY,bx,_⟩:=oQ;refine ah.norm (iO q) ⟨c9,cf,bY,bx,trivial⟩ λF=>?_;obtain⟨dY,eb,ek,dK,a6,hm,U2,eZ,gJ,hf,du,mO,hg,il,kn,al⟩:=h.ms.ex;have H:Has ax [(q+4,[aw (q+3)]),(q+3,[dY,eb,ek])]:=(Has.nil.cons hm ay).cons h.m ay;have hU:=hf.vw;have hfn:=hR.inv.ne;refine W.sq (W.sq (W.rg ?_));refine fV ?_;by_cases h2:2<=ae.length
 ·refine af ?_;refine W.bS I I I (a3i cl h hR aY U h2) λr dr ⟨ar,g5,mQ,bZ,fc,aQ,aZ,bX,cS,ed⟩=>⟨_,ar,?_⟩
  refine af ?_;exact⟨bZ.length,U,⟨_,_,_,_,aQ,aZ,bX,U,rfl⟩,dm⟩
 ·refine af ?_;refine ah.exit ?_;show bo _ _ _ _ _ _ _ _;refine af ?_;exact ah.ret (cc _ _ _ _ _ _ _ _ _ h hR aY U U hm I)
def c2Z(cl:m9 b K)(hh:a3 (b.aF K) Mq lI){code:List Nat}(aq:∀τ,Vw τ none cI (code.map uB))(mg:cI.cells=[cI]/\cI.val=true)(hl:code.length<2^62)(hb:∀x∈code,x<256):
  bb (b.aF K) 0 (.f (.func Mq) [] []) [cI] J (λr τ=>∃(L:List aN) (ae:List (List Nat)) (au:List Nat) (v:AV) (dK:List AV) (bU:Nat->Prop),r= .ok v/\Rd L ae au/\ae.length=1/\L≠[]/\L.length<=35/\Sl τ (some 9) v dK/\dK.length=L.length/\(∀i (h:i<dK.length) (h':i<L.length),lM (λi=>¬bU i) τ L[i] dK[i])/\(∀o l c,v= .ao o 0 l (some 9) c->c=none)/\(∀o,v.at? =some o->bU o)/\(∀o,bU o->J.next<=o)/\cM J τ):=by
 refine W.sA hh I I I λz H=>?_;generalize aS:J.next=q;have fin:∀(F:Nat->AV) (ax:ad) at_ bU (L:List aN) ae au,ln J q cI at_ bU L ae au ax->Rd L ae au->L≠[]->L.length+ae.length<=36->bo (b.aF K) none [] lI.ntmps (lo [1,1,1,1,1,1] oc) (bs (iO q) F) ax (λx b9 ai=>x= .ret/\∃(L:List aN) (ae:List (List Nat)) (au:List Nat) (v:AV) (dK:List AV) (bU:Nat->Prop),ee.ok (b9 2)= .ok v/\Rd L ae au/\ae.length=1/\L≠[]/\L.length<=35/\Sl ai (some 9) v dK/\dK.length=L.length/\(∀i (h:i<dK.length) (h':i<L.length),lM (λi=>¬bU i) ai L[i] dK[i])/\(∀o l c,v= .ao o 0 l (some 9) c->c=none)/\(∀o,v.at? =some o->bU o)/\(∀o,bU o->q<=o)/\cM J ai):=λF ax at_ bU L ae au h hR aY b0=>c2Y cl h hR aY b0 λd1F hv L ae au dY eb ek bU h hR aY hL h1 hm aU=>by
  obtain⟨vp,o8,qF,dK,a6,nh,U2,eZ,gJ,hf,du,mO,hg,il,kn,al⟩:=h.ms.ex;rw[hm] at nh;cases nh;have UR:=ad.a9 h.a;exact⟨rfl,L,ae,au,dY,dK,bU,by rw[aU],hR,h1,aY,hL,U2,eZ,gJ,il.2,λo ho=>(al.l o ho).1,λo ho=>(h.mu o ho).1,U,λi o hi=>h.old i o (by have:=ad.a9 hi;omega) hi⟩
 refine W.sq (W.rg ?_);refine W.bN (c:=[cI]) H aS I I I mg.2 mg.1 λcx cy H bl=>?_;refine tU ?_;refine W.bV (c:=[.nilsl]) H cy I I I λa5 c6 H bj=>?_;refine W.bV (c:=[ag 0]) (k:=q+2) H U I I I λbu dx H k3=>?_;refine W.gx (c:=[.nilsl,.ao (q+1) 0 1 none (some 1),.ao (q+2) 0 1 none (some 1)]) I I I ?_;refine W.bN (c:=[.nilsl,.ao (q+1) 0 1 none (some 1),.ao (q+2) 0 1 none (some 1)]) (k:=q+3) H U I I I I I λb3 eC H bI=>?_;refine W.kk (c:=[aw (q+3)]) (k:=q+4) H U I I I I I I λcW gw H cP=>?_;refine tU ?_;refine W.kk (c:=[ag 0]) (k:=q+5) H U I I I I I I λdr h5 H dI=>?_;have cG:∀i o,J.get i=some o->dr.get i=some o:=λi o h=>dI _ _ (cP _ _ (bI _ _ (k3 _ _ (bj _ _ (bl _ _ h)))));have bx:=H.get (q+1,[.nilsl]) ay;have bz:=H.get (q+2,[ag 0]) ay;have rl:ll dr (q+3) (λi=>i=q+1\/i=q+2\/i=q+3) [] [[]] [0]:=by
  refine⟨λi hi=>by omega,.nilsl,.ao (q+1) 0 1 none (some 1),.ao (q+2) 0 1 none (some 1),[],[.nilsl],H.Ag,.nil,rfl,λi h=>by simp at h,.ao (q+1) (some 1) [.nilsl] [] bx (λy hy=>by rw[cA.1 hy];rfl) (.inr I),rfl,λi h h'=>?_,.one bz,⟨(λh=>by simp at h),λo l c h=>by cases h⟩,.inr (.inr rfl),⟨(λo h=>by cases h),λo h=>?_,λo h=>?_,λi h o ho=>?_,λi j h h' iK=>?_⟩⟩
  ·cases i with
   |zero=>exact .nil
   |succ i=>simp at h
  ·cases h;exact⟨.inl I,U,λe=>by have:=kr e;omega⟩
  ·cases h;exact⟨.inr (.inl I),U⟩
  ·cases i with
   |zero=>cases ho
   |succ i=>simp at h
  ·simp at h h';omega
 have h0:ln J q cI 0 (λi=>i=q+1\/i=q+2\/i=q+3) [] [[]] [0] dr:=⟨rl,λi hi=>by omega,H.get (q,[cI]) ay,H.x7,H.qx,λi o _ h=>cG i o h⟩
 refine tU ?_;refine W.bS I I I (h0.next cl.wg aq hl hb U) λr eT ⟨ar,eI,j0,fZ⟩=>⟨_,ar,?_⟩
 have H:Has eT []:=Has.nil;refine W.bin I I I I (Af (c:=3) b_) ?_;have zW:qG code 0%3<3:=A6 _ b_;generalize qG code 0%3=qd at zW ⊢;refine W.bin I I I I (rm (a:=1) (b:=qd) U) ?_;refine tU ?_;refine ah.norm ((26,ag 0)::(25,ag (1+qd))::iO q) dm λF=>?_;refine ah.each (1+qd) (λj F ax=>(∃at_ bU L f0,ln J q cI at_ bU L [f0] [0] ax/\Rd L [f0] [0]/\(∀x∈L,x.hyp=true/\x.bK=0)/\L.length=j/\at_<=30)/\sat (iO q) F) U ⟨⟨_,_,_,_,eI,.nil,λx hx=>by simp at hx,rfl,NP U⟩,dm⟩ I I (λj F ax aA oQ hi oz=>?_) (λF ax oQ hi=>?_)
 ·obtain⟨⟨at_,bU,L,f0,h,hR,U3,hlen,gi⟩,c9,cf,bY,bx,_⟩:=oQ;refine ah.norm ((26,ag j)::(25,ag (1+qd))::iO q) ⟨hi,oz,c9,cf,bY,bx,trivial⟩ λF=>?_;have H:Has ax [(q+4,[aw (q+3)])]:=Has.nil.cons h.m ay;have HB:=H.b;refine ah.block ?_;refine W.yL [(q+4,[aw (q+3)])] [3,5] 6 I I ?_;refine gM ?_;refine W.bS I I I (h.next cl.wg aq hl hb gi) λr a5 ⟨ar,h2,c6,bj⟩=>⟨_,ar,?_⟩
  have hn:=a3g hb at_;generalize qG code at_=n at hn ⊢;refine W.ob (iY.nil.cons h2.m) I ?_;refine W.bS I I I (NH cl.Im cl.xa cl.at_ n U) λr eV ⟨wp,ar,an,j5⟩=>⟨_,ar,?_⟩
  have lB:wp.cells=[wp]/\wp.val=true:=by
   cases an with
   |mk _ w xs h1 h2 h3=>exact⟨h2.one.1,h2.one.2.1⟩
  have jH:=h2.l_ j5;have UX:e1 (λi=>¬bU i) eV (e2 n) (.aj (gA (e2 n) wp)):=an.aD (λi c hi aa=>⟨λhm=>by have:=h2.ms.lt _ hm;omega,aa⟩) _ (a8 _);have hX:=yN n;have aL:=hR.inv;have DW:f0.length<=L.length:=by simpa using aL.sum
  refine W.gx (c:=[ag 0,ag 0,.b true,.i .u8 (Int.ofNat (e2 n).op),.s (e2 n).aW,.nilsl,wp,.s [],.nilsl]) I I (ry I I I (ry I I I I)) ?_;refine W.ob (iY.nil.cons jH.m) I ?_;refine W.bS I I I (H5 cl.Il jH.ms ay ⟨U,ay,λl hl=>by rw[cA.1 hl];omega⟩ (x:=⟨0,0,true,e2 n,[],[]⟩) (.mk wp .nilsl UX .nil) (by show(e2 n).dep<=400;omega)) λr hv ⟨ar,a3x,lZ,x8⟩=>⟨_,ar,?_⟩
  refine gM ?_;exact⟨rfl,rfl,⟨_,_,_,_,jH.Ik lZ x8,.step hR (.w9 f0 n U3 U),λx hx=>by
   rcases eX.1 hx with hx|hx
   ·exact U3 x hx
   ·rw[cA.1 hx];exact⟨rfl,rfl⟩,by simp[hlen],NP gi⟩,dm⟩
 ·obtain⟨⟨at_,bU,L,f0,h,hR,U3,hlen,gi⟩,c9,cf,bY,bx,_⟩:=oQ;refine ah.norm (iO q) ⟨c9,cf,bY,bx,trivial⟩ λF=>?_;refine W.sq ?_;refine ah.block (ah.loop (λk F ax=>(∃at_ bU L ae au,ln J q cI at_ bU L ae au ax/\Rd L ae au/\L≠[]/\at_<=30/\c2X code at_ (L.length+ae.length)/\30-at_<=k)/\sat (iO q) F) (λk F ax oQ=>?_) (30-at_) ⟨⟨_,_,_,_,_,h,hR,λe=>by subst e;simp at hlen;omega,gi,.inl (by simp;omega),a8 _⟩,dm⟩);obtain⟨⟨at_,bU,L,ae,au,h,hR,aY,gi,b0,aB⟩,c9,cf,bY,bx,_⟩:=oQ;refine ah.norm (iO q) ⟨c9,cf,bY,bx,trivial⟩ λF=>?_;have H:Has ax [(q+5,[ag at_]),(q,[cI])]:=(Has.nil.cons h.c ay).cons h.a ay;have sl:=aq ax;have FI:(code.map uB).length=code.length:=bB _;refine W.sq (W.sq (W.rg ?_));refine fV ?_;rw[FI];by_cases dU:at_<code.length
  ·by_cases fr:at_<30
   ·refine fV ?_;refine W.nil (W.mX I (W.F3 ?_));refine ah.block ?_;refine ah.norm (iO q) dm λF=>?_;have d1G:L.length+ae.length<=4+at_:=by rcases b0 with h|h<;>omega
    refine c2U cl aq hl hb gi h hR aY U λF hv bL ⟨g5,mQ,bZ,fc,h',Fj,Bl,d1H⟩=>?_;have aM:qH code at_=at_+1:=by unfold qH;rw[if_pos ⟨dU,fr⟩]
    rw[aM] at h';refine⟨k-1,U,⟨_,_,_,_,_,h',Fj,Bl,NP U,?_,?_⟩,bL⟩
    ·unfold qH;by_cases gK:at_+1<code.length/\at_+1<30
     ·rw[if_pos gK];exact .inl U
     ·rw[if_neg gK];exact .inr U
    ·unfold qH;split<;>omega
   ·refine fV ?_;refine W.nil (W.oL I ?_);refine ah.exit ?_;show bo _ _ _ _ (lo [1,1,1,1,1,1] oc) _ _ _;exact ah.norm (iO q) dm λF=>fin F ax _ _ _ _ _ h hR aY (by rcases b0 with h|h<;>omega)
  ·refine fV ?_;refine W.nil (W.oL I ?_);refine ah.exit ?_;show bo _ _ _ _ (lo [1,1,1,1,1,1] oc) _ _ _;exact ah.norm (iO q) dm λF=>fin F ax _ _ _ _ _ h hR aY (by rcases b0 with h|h<;>omega)
end
section
variable {b:bJ}{K:Nat->List AV->AV->Prop}
abbrev pre(L:List aN)(m:Nat):List a7:=(L.take m).map aN.a4
def c3a{W:Nat->Prop}{τ:ad}{v:AV}{dK:List AV}{L:List aN}(al:Sl τ (some 9) v dK)(aY:L≠[])(hl:dK.length=L.length)(gJ:∀i (h:i<dK.length) (h':i<L.length),lM W τ L[i] dK[i])(hd:∀x∈L,x.f.dep<=200):bt τ (b.bh+1000) v=some (ck (L.map aN.a4)):=by
 have hm:mapO (bt τ (b.bh+999)) dK=some ((L.map aN.a4).map a7.A):=sG (by rw[bB,bB,hl]) λi h1 h2=>by
  rw[ez,ez];exact(gJ i h1 U).snap (by have:=hd _ (bC (show i<L.length by omega));omega)
 rw[al.tK (λe=>absurd (w0.1 (by rw[<-hl,e];rfl)) aY) hm];cases L with
 |nil=>exact absurd I aY
 |cons x l=>rfl
end
end
def tW{A C:List a7}:∀ {i:Nat},i<=A.length->stF (A++C) i=stF A i
 |0,_=>rfl
 |i+1,h=>by
  rw[He (show i<A.length by omega),He (L:=A++C) (by rw[c5];omega),tW U,iC U]
structure NU(L:List aN)(ae:List (List Nat))(au:List Nat):Prop where
 st:stF (L.map aN.a4) L.length=au.tail
 mem:∀d (h:d<ae.length),∀c∈ae[d],stF (L.map aN.a4) c=au.tail.take d
 fst:∀k first,1<=k->au[k]? =some first->stF (L.map aN.a4) first=au.tail.take k
 hyp:∀x∈L,x.hyp=true->x.op=0->x.bK=0
def c3b{L:List aN}{x:aN}:stF ((L++[x]).map aN.a4) (L++[x]).length=Hd (stF (L.map aN.a4) L.length) L.length x.a4:=by
 rw[gO,c5,show L.length+[x].length=L.length+1 from rfl,He ay,tW ay];simp
def rG.b{L:List aN}{ae bZ:List (List Nat)}{au fc:List Nat}{x:aN}(aL:yO L ae au)(b0:NU L ae au)(h:rG L ae au x bZ fc):NU (L++[x]) bZ fc:=by
 have MT:=h.inv aL;have hlen:=aL.len;have hold:∀c,c<=L.length->stF ((L++[x]).map aN.a4) c=stF (L.map aN.a4) c:=λc aa=>by rw[gO,tW (by simpa using aa)]
 have cq:stF ((L++[x]).map aN.a4) (L.length+1)=au.tail.take (x.bK-x.op)++List.replicate x.op (L.length+1):=by
  have:=c3b (L:=L) (x:=x);rw[c5,show L.length+[x].length=L.length+1 from rfl] at this;rw[this,b0.st];rfl
 have NV:(L++[x]).length=L.length+1:=by simp
 have hall:(x.hyp=true->x.op=0->x.bK=0)->∀y∈L++[x],y.hyp=true->y.op=0->y.bK=0:=λh1 y hy=>by
  rcases eX.1 hy with h|h
  ·exact b0.hyp y h
  ·rw[cA.1 h];exact h1
 have DZ:∀f∈ae,∀c∈f,c<=L.length:=λf hf c aa=>(aL.mem f hf c aa).2;have U4:∀k first,1<=k->au[k]? =some first->first<=L.length:=λk first h1 h2=>by
  obtain⟨aQ,n,aZ⟩:=aL.fst k first h1 h2
  have:=(fH.1 aZ).1;omega
 cases h with
 |w9 f n an=>
  have e:stF ((L++[Go.Lyc.w9 n]).map aN.a4) (L.length+1)=[]:=by rw[cq];rfl
  refine⟨by rw[NV,e];rfl,λd hd c aa=>?_,λk first h1 h2=>?_,hall λ_ _=>rfl⟩
  ·have ml:d=0:=by simpa using hd
   subst ml;simp only[Ev] at aa;rcases eX.1 aa with aa|aa
   ·rw[hold c (DZ f ay c aa)];exact b0.mem 0 ay c aa
   ·rw[cA.1 aa,e];rfl
  ·rw[te (by simp;omega)] at h2;cases h2
 |yM _ _ n aY bT=>
  have Bl:au≠[]:=λe=>by rw[e] at hlen;have:=aL.ne;simp at hlen;omega
  have ht:(au++[L.length+1]).tail=au.tail++[L.length+1]:=HZ Bl;have hn:=aL.ne;have e:stF ((L++[(⟨ae.length,1,true,e2 n,[],[]⟩:aN)]).map aN.a4) (L.length+1)=au.tail++[L.length+1]:=by
   rw[cq];show au.tail.take (ae.length-1)++[L.length+1]=_;rw[sM (by rw[A7];omega)]
  have xc:au.tail.length=ae.length-1:=by rw[A7,hlen]
  refine⟨by rw[NV,e,ht],λd hd c aa=>?_,λk first h1 h2=>?_,hall λ_ h=>by cases h⟩
  ·rw[ht];by_cases iT:d<ae.length
   ·rw[iC iT] at aa;rw[hold c (DZ _ (bC iT) c aa),b0.mem d iT c aa,yG U]
   ·have aU:d=ae.length:=by simp at hd;omega
    subst aU;rw[oP I] at aa;rw[cA.1 aa,e,sM (by simp;omega)]
  ·rw[ht];by_cases aB:k<au.length
   ·rw[yq aB] at h2;rw[hold first (U4 k first h1 h2),b0.fst k first h1 h2,yG U]
   ·rw[Ds U] at h2;have kv:k-au.length=0:=by
     rcases a2F (k-au.length) with h|h
     ·exact h
     ·rw[te (by simp;omega)] at h2;cases h2
    rw[kv] at h2;cases h2;rw[e,sM (by simp;omega)]
 |vf F f _ aY aa=>
  simp only[c5,fw,hr] at hlen;have xc:au.tail.length=F.length:=by rw[A7];omega
  rename_i g fR l;have e:stF ((L++[(⟨F.length,0,false,g,fR,l.map λn=>(n,n)⟩:aN)]).map aN.a4) (L.length+1)=au.tail:=by
   rw[cq];show au.tail.take (F.length-0)++[]=_;rw[hI,sM U]
  refine⟨by rw[NV,e],λd hd c aa=>?_,λk first h1 h2=>by rw[hold first (U4 k first h1 h2)];exact b0.fst k first h1 h2,hall λh=>by cases h⟩;by_cases iT:d<F.length
  ·rw[iC iT] at aa;have:=b0.mem d (by simp;omega) c (by rw[iC iT];exact aa);rw[hold c (DZ _ (zI _ (bC iT)) c aa),this]
  ·have aU:d=F.length:=by simp at hd;omega
   subst aU;rw[oP I] at aa;rcases eX.1 aa with aa|aa
   ·have:=b0.mem F.length ay c (by rw[oP I];exact aa);rw[hold c (DZ _ ay c aa),this]
   ·rw[cA.1 aa,e,sM U]
 |shut F kv f _ first hx hy=>
  simp only[c5,fw,hr] at hlen;rename_i dL dV;have du:fc.length=F.length+1:=by omega
  have Bl:fc≠[]:=λe=>by rw[e] at du;simp at du
  have ht:(fc++[first]).tail=fc.tail++[first]:=HZ Bl;have xc:fc.tail.length=F.length:=by rw[A7];omega
  have e:stF ((L++[({pW dL.f dV.f first L.length with bK:=F.length}:aN)]).map aN.a4) (L.length+1)=fc.tail:=by
   rw[cq,ht];have dS:({pW dL.f dV.f first L.length with bK:=F.length}:aN).op=0/\({pW dL.f dV.f first L.length with bK:=F.length}:aN).bK=F.length:=by
    rw[yP];cases decide (dV.f= .cC)<;>exact⟨rfl,rfl⟩
   rw[dS.1,dS.2];show(fc.tail++[first]).take (F.length-0)++[]=_;rw[hI,RI,yG U,sM U]
  have fv:∀d,d<=F.length->(fc++[first]).tail.take d=fc.tail.take d:=λd hd=>by rw[ht,yG U]
  refine⟨by rw[NV,e],λd hd c aa=>?_,λk DX h1 h2=>?_,hall λh=>by
   rw[yP] at h;cases hd:decide (dV.f= .cC)<;>rw[hd] at h<;>cases h⟩
  ·by_cases iT:d<F.length
   ·rw[iC iT] at aa;have:=b0.mem d (by simp;omega) c (by rw[iC iT];exact aa);rw[hold c (DZ _ (zI _ (bC iT)) c aa),this,fv d U]
   ·have aU:d=F.length:=by simp at hd;omega
    subst aU;rw[oP I] at aa;rcases eX.1 aa with aa|aa
    ·have:=b0.mem F.length ay c (by simp;exact aa);rw[hold c (DZ _ ay c aa),this,fv _ (a8 _)]
    ·rw[cA.1 aa,e,sM U]
  ·have aB:=(fH.1 h2).1;have h3:(fc++[first])[k]? =some DX:=by rw[yq aB];exact h2
   rw[hold DX (U4 k DX h1 h3),b0.fst k DX h1 h3,fv k U]
def Rd.b{L:List aN}{ae:List (List Nat)}{au:List Nat}(h:Rd L ae au):NU L ae au:=by
 induction h with
 |nil=>
  refine⟨rfl,λd hd c aa=>?_,λk first h1 h2=>?_,λx hx=>by simp at hx⟩
  ·have e:d=0:=by simpa using hd
   subst e;simp at aa
  ·rw[te (by simp;omega)] at h2;cases h2
 |step hR h aC=>exact h.b hR.inv aC
def Rd.gb{L:List aN}{ae:List (List Nat)}{au:List Nat}(h:Rd L ae au):∀i (hi:i<L.length),∃ev pY wD jB,Rd (L.take i) ev pY/\rG (L.take i) ev pY L[i] wD jB:=by
 induction h with
 |nil=>intro i hi;simp at hi
 | @step L ae au x bZ fc hR h aC=>
  intro i hi;by_cases h1:i<L.length
  ·obtain⟨a,c,d,e,h2,h3⟩:=aC i h1;rw[yG U,iC h1];exact⟨a,c,d,e,h2,h3⟩
  ·have e:i=L.length:=by rw[c5] at hi;simp only[fw,hr] at hi;omega
   subst e;rw[List.take_left,oP I];exact⟨_,_,_,_,hR,h⟩
def rF.ne{L:List aN}{C:Nat->Prop}{g:PF}{fR l:List Nat}(h:rF L C g fR l):fR≠[]/\(∀c∈l,C c)/\l.length<=2:=by
 cases h with
 |and h1 h2=>exact⟨by simp[Ig],by simp;exact⟨h1,h2⟩,ay⟩
 |or n h1=>exact⟨by simp[Ih],by simp;exact h1,ay⟩
 |jP q h1=>exact⟨by simp[Go.Lyc.jP],by simp;exact h1,ay⟩
 |imp h1 h2=>exact⟨by simp[w6],by simp;exact⟨h1,h2⟩,ay⟩
 |not h1 h2=>exact⟨by simp[w7],by simp;exact⟨h1,h2⟩,ay⟩
 |again h1=>exact⟨by simp[a3c],by simp;exact h1,ay⟩
 |w8 n h1=>exact⟨by simp[Ii],by simp;exact h1,ay⟩
def NW{L:List aN}{C:List a7}(aY:L≠[]){y:aN}(hy:L[L.length-1]? =some y):M3 (L.map aN.a4++C) (L.length+1)=(y.hyp,y.bK):=by
 have an:=ph.2 aY;unfold M3;rw[if_pos U,show L.length+1-2=L.length-1 by omega,yq (by simp;omega),iR,hy];rfl
def rG.shape{L:List aN}{ae bZ:List (List Nat)}{au fc:List Nat}{x:aN}(aL:yO L ae au)(h:rG L ae au x bZ fc)(C:List a7):Hh x.a4 (M3 (L.map aN.a4++C) (L.length+1)) (L.length+1)=true/\x.bK<=4/\x.op<=x.bK/\x.bK-x.op<=ae.length-1/\x.cs.length<=2/\∀ac∈x.cs,1<=ac.1/\ac.1<=ac.2/\ac.2<L.length+1:=by
 have hle:=aL.le;have sN:L≠[]->∃y:aN,L[L.length-1]? =some y/\y.bK=ae.length-1:=λaY=>by
  have an:=ph.2 aY;exact⟨L[L.length-1]'U,cp _,(aL.last aY).2 _ (cp _)⟩
 cases h with
 |w9 f n an=>
  refine⟨?_,by show 0<=4;omega,a8 _,jD _,jD _,λac h=>by cases h⟩;by_cases aY:L=[]
  ·subst aY;rfl
  ·obtain⟨y,hy,_⟩:=sN aY;have a3I:=an y (eY hy);rw[NW aY hy,a3I.1,a3I.2];rfl
 |yM _ _ n aY bT=>
  obtain⟨y,hy,hd⟩:=sN aY;have h0:=aL.ne;refine⟨?_,by show ae.length<=4;omega,by show 1<=ae.length;omega,a8 _,jD _,λac h=>by cases h⟩;rw[NW aY hy,hd];show(decide (ae.length<=40/\1<=ae.length)&&(decide (ae.length-1<=ae.length-1)&&true))=true;rw[decide_eq_true U,decide_eq_true U];rfl
 |vf F f _ aY aa=>
  rename_i g fR l;obtain⟨y,hy,hd⟩:=sN aY;obtain⟨dU,fr,gK⟩:=aa.ne;simp only[c5,fw,hr] at hle hd;have fj:∀ac∈l.map (λn=>(n,n)),1<=ac.1/\ac.1<=ac.2/\ac.2<L.length+1:=λac fU=>by
   obtain⟨c,h4,rfl⟩:=cT.1 fU;obtain⟨k,h1,h2⟩:=fr c h4;have:=aL.mem k h1 c h2;exact⟨this.1,a8 _,by show c<_;omega⟩
  refine⟨?_,by show F.length<=4;omega,jD _,by show F.length-0<=_;simp,by show(l.map _).length<=2;rw[bB];exact gK,fj⟩;rw[NW aY hy,hd];show(decide (F.length<=40/\0<=F.length)&&(decide (F.length-0<=F.length+(0+1)-1)&&((l.map λn=>(n,n)).all (yw (L.length+1))&& !fR.isEmpty)))=true;rw[decide_eq_true U,decide_eq_true U,(pk.2 λac fU=>decide_eq_true (fj ac fU):(l.map λn=>(n,n)).all (yw (L.length+1))=true)];cases fR with
  |nil=>exact absurd I dU
  |cons _ _=>rfl
 |shut F e f _ first hx hy=>
  rename_i dL dV;have aY:L≠[]:=λe=>by subst e;simp at hx
  have an:=ph.2 aY;have hd:=(aL.last aY).2 _ hy;have hlen:=aL.len;simp only[c5,fw,hr] at hle hd hlen;obtain⟨f1,n,f2⟩:=aL.fst fc.length first U ay
  have gS:=(fH.1 hx).1;have fj:1<=first/\first<=L.length/\L.length<L.length+1:=⟨f1,U,U⟩
  rw[NW aY hy,hd,yP];have NT:∀(g:PF) (fR:List Nat),fR≠[]->Hh (aN.a4 ⟨F.length,0,false,g,fR,[(first,L.length)]⟩) (dV.hyp,F.length+2-1) (L.length+1)=true:=λg fR zG=>by
   show(decide (F.length<=40/\0<=F.length)&&(decide (F.length-0<=F.length+2-1)&&((decide (1<=first/\first<=L.length/\L.length<L.length+1)&&true)&& !fR.isEmpty)))=true;rw[decide_eq_true U,decide_eq_true U,decide_eq_true fj];cases fR with
   |nil=>exact absurd I zG
   |cons _ _=>rfl
  have kt:(F++[e,f]).length-1=F.length+1:=by simp
  have fU:∀ac∈[(first,L.length)],1<=ac.1/\ac.1<=ac.2/\ac.2<L.length+1:=λac h=>by rw[cA.1 h];exact fj
  rw[kt];cases decide (dV.f= .cC)
  ·exact⟨NT _ _ (by simp[w2]),by show F.length<=4;omega,jD _,by show F.length-0<=_;omega,by show 1<=2;omega,fU⟩
  ·exact⟨NT _ _ (by simp[yJ]),by show F.length<=4;omega,jD _,by show F.length-0<=_;omega,by show 1<=2;omega,fU⟩
def Rd.line{L:List aN}{ae:List (List Nat)}{au:List Nat}(h:Rd L ae au){k:Nat}{x:aN}(h1:1<=k)(hx:L[k-1]? =some x):∃ev pY wD jB,Rd (L.take (k-1)) ev pY/\rG (L.take (k-1)) ev pY x wD jB/\Rd (L.take (k-1)++[x]) wD jB/\(L.take (k-1)).length=k-1/\L=L.take (k-1)++[x]++L.drop k:=by
 obtain⟨h2,h3⟩:=fH.1 hx;obtain⟨a,c,d,e,bx,bz⟩:=h.gb (k-1) h2;rw[h3] at bz;refine⟨a,c,d,e,bx,bz,.step bx bz,by rw[g6];omega,?_⟩;conv=>lhs;rw[<-wa k L]
 congr 1
 have:k=k-1+1:=by omega
 rw[this,jL h2,h3,A8]
def Rd.shape{L:List aN}{ae:List (List Nat)}{au:List Nat}(h:Rd L ae au){k:Nat}{x:aN}(h1:1<=k)(hx:L[k-1]? =some x):tH (L.map aN.a4) k=true/\x.bK<=4/\x.op<=x.bK/\x.bK-x.op<=(stF (L.map aN.a4) (k-1)).length/\x.cs.length<=2/\∀ac∈x.cs,1<=ac.1/\ac.1<=ac.2/\ac.2<k:=by
 obtain⟨ev,pY,wD,jB,bx,bz,bY,hl,hL⟩:=h.line h1 hx;have aB:(L.take (k-1)).length+1=k:=by omega
 have aL:=bx.inv;obtain⟨s1,s2,yT,h6,NX,a3J⟩:=bz.shape aL ([x.a4]++(L.drop k).map aN.a4);rw[aB] at s1 a3J;have hm:L.map aN.a4=(L.take (k-1)).map aN.a4++([x.a4]++(L.drop k).map aN.a4):=by
  conv=>lhs;rw[hL]
  simp only[gO,pf,yp,iJ]
 refine⟨?_,s2,yT,?_,NX,a3J⟩
 ·unfold tH;rw[iR,hx,hm];exact s1
 ·rw[hm,tW (by rw[bB];omega)];have:=bx.b.st;rw[hl] at this;rw[this,A7,aL.len];exact h6
def Rd.kU{L:List aN}{ae:List (List Nat)}{au:List Nat}(h:Rd L ae au)(hL:L.length<=40):yv (L.map aN.a4) where
 lt:=by rw[bB];omega
 num x hx:=by
  obtain⟨y,hy,rfl⟩:=cT.1 hx;obtain⟨i,hi,rfl⟩:=iP hy;obtain⟨_,a,c,_⟩:=h.shape (k:=i+1) U (cp hi);exact⟨by show(L[i]).bK<_;omega,c⟩
 go i hi:=by
  rw[bB] at hi;obtain⟨_,_,_,a,_⟩:=h.shape (k:=i+1) U (cp hi);rw[ez];exact a
def rI{T:List a7}{j:Nat}(h1:1<=j)(h2:j<=T.length):(ea T).getD (j-1) []=stF T j:=by
 unfold ea;rw[fD,iR,E1 U];show stF T (j-1+1)=_;rw[show j-1+1=j by omega]
def Rd.o1{L:List aN}{ae:List (List Nat)}{au:List Nat}(h:Rd L ae au)(hL:L.length<=40):u5 (L.map aN.a4) (ea (L.map aN.a4)) where
 len:=by unfold ea;rw[bB,nc]
 lt:=by rw[bB];omega
 bK x hx:=by have:=(h.kU hL).num x hx;omega
 blt x hx:=by
  obtain⟨i,hi,rfl⟩:=cT.1 hx;rw[Ay] at hi;rw[(h.kU hL).len i hi,cp hi];show(L.map aN.a4)[i].bK<_;have:=(h.kU hL).num _ (bC hi);omega
def mA:Fm:=.mk 15 [63,65] none none
def ec:Fm:=.mk 15 [63,66] none none
def U5:Fm:=.mk 15 [63,67] none none
def iA(k:Nat)(a c:Fm):Fm:=.mk (4+k) [] none (some [a,c])
def qJ(a:Fm):Fm:=.mk 3 [] none (some [a])
def m_:Fm:=.mk 2 [] none none
def iB(f:Fm):fz:=⟨[],f,[],false⟩
def tX(h f:Fm):fz:=⟨[h],f,[],false⟩
def NY:bw:=⟨Ig,[iB mA,iB ec],iA 0 mA ec⟩
def D0(q:Bool):bw:=⟨jP q,[iB (iA 0 mA ec)],cond q ec mA⟩
def NZ:bw:=⟨Ih,[iB mA],iA 1 mA ec⟩
def a3K:bw:=⟨[111,114,73,50],[iB ec],iA 1 mA ec⟩
def a3L:bw:=⟨[111,114,69],[iB (iA 1 mA ec),tX mA U5,tX ec U5],U5⟩
def N0:bw:=⟨w2,[tX mA ec],iA 2 mA ec⟩
def N1:bw:=⟨w6,[iB (iA 2 mA ec),iB mA],ec⟩
def N2:bw:=⟨yJ,[tX mA m_],qJ mA⟩
def N3:bw:=⟨w7,[iB mA,iB (qJ mA)],m_⟩
def N4:bw:=⟨Ii,[iB m_],mA⟩
def rulesP:List bw:=[NY,D0 false,D0 true,NZ,a3K,a3L,N0,N1,N2,N3,N4]
inductive od:bw->PF->List (PF×List PF)->Prop
 |and (f g):od NY (.bin 0 f g) [(f,[]),(g,[])]
 |jP (q f g):od (D0 q) (cond q g f) [(.bin 0 f g,[])]
 |or (f g):od NZ (.bin 1 f g) [(f,[])]
 |U6 (f g):od N0 (.bin 2 f g) [(g,[f])]
 |w6 (f g):od N1 g [(.bin 2 f g,[]),(f,[])]
 |U7 (f):od N2 (.neg f) [(.cC,[f])]
 |w7 (f):od N3 .cC [(f,[]),(.neg f,[])]
 |w8 (f):od N4 f [(.cC,[])]
def PF.low(a:PF):Prop:=a.dep<=38/\a.b1<=380
structure D1(g:kV)(p:PF×List PF):Prop where
 eE:g.eE=p.1.aI
 hyps:g.hyps=p.2.map PF.aI
 rest:∀F∈g.rest,∃a:PF,F=a.aI/\a.low
 low:p.1.low/\∀a∈p.2,a.low
 len:g.rest.length<=40
inductive Bm:List kV->List (PF×List PF)->Prop
 |nil:Bm [] []
 |cons {g gs p aE}:D1 g p->Bm gs aE->Bm (g::gs) (p::aE)
structure U8(K:Nat->List AV->AV->Prop)(R:List bw)(db:AV):Prop where
 pre:∃rest,R=rulesP++rest
 ap:∀r F aE gs,od r F aE->F.low->Bm gs aE->∃cB fE ei ej au,K oO [r.A,F.aI.A true,Nk gs] (.bg [.aj [cB,fE],.aj [uB ei,ag ej,ag au],ag 0])
 b6:∀f:PF,f.low->K pO [f.aI.A true,f.aI.A true] (.b true)
 iz:∀f:PF,f.low->K pN [db,f.aI.A true] (.b true)
def Iu{L:List aN}{k:Nat}{x:aN}(hx:L[k-1]? =some x):gU (L.map aN.a4) k=x.f.aI:=by
 unfold gU;rw[fD,iR,iR,hx];rfl
def yU{L:List aN}{k:Nat}{x:aN}(hx:L[k-1]? =some x):jM (L.map aN.a4) k=x.bK:=by
 unfold jM;rw[fD,iR,iR,hx];rfl
def Rd.low{L:List aN}{ae:List (List Nat)}{au:List Nat}(h:Rd L ae au)(hL:L.length<=36){x:aN}(hx:x∈L):x.f.low:=by
 have:=h.inv.dep x hx;have:=h.inv.b1 x hx;exact⟨U,U⟩
def Rd.a3M{L:List aN}{ae:List (List Nat)}{au:List Nat}(h:Rd L ae au)(hL:L.length<=36){l:List Nat}(hl:∀n∈l,1<=n/\n<=L.length):∀F∈l.map (gU (L.map aN.a4)),∃a:PF,F=a.aI/\a.low:=λF bL=>by
 obtain⟨n,hn,rfl⟩:=cT.1 bL;have hn:=hl n hn;have hx:L[n-1]? =some L[n-1]:=cp U;exact⟨_,Iu hx,h.low hL (bC _)⟩
def Rd.xd{L:List aN}{i:Nat}:(∀n∈(ndsL (L.map aN.a4) (L.map aN.a4).length).getD i [],1<=n/\n<=L.length)/\((ndsL (L.map aN.a4) (L.map aN.a4).length).getD i []).length<=L.length+1:=by
 rw[fD];cases h:(ndsL (L.map aN.a4) (L.map aN.a4).length)[i]? with
 |none=>exact⟨λn hn=>by simp at hn,ay⟩
 |some l=>
  have hm:=eY h;have h1:=Dy hm;rw[bB] at h1;exact⟨λn hn=>⟨Nn l hm n hn,h1.2 n hn⟩,h1.1⟩
def a3N{L gY:List aN}{C:List a7}{ev:List (List Nat)}{pY:List Nat}{k c:Nat}(ix:L.map aN.a4=gY.map aN.a4++C)(aB:gY.length+1=k)(r7:k<=L.length)(b0:NU gY ev pY)(aL:yO gY ev pY)(aa:∃f∈ev,c∈f)(cq:stF (L.map aN.a4) k=pY.tail):kW (ea (L.map aN.a4)) k c c=true:=by
 obtain⟨f,hf,g4⟩:=aa;have re:=aL.mem f hf c g4;obtain⟨d,hd,rfl⟩:=iP hf;have h1:(ea (L.map aN.a4)).getD (c-1) []=pY.tail.take d:=by
  rw[rI re.1 (by rw[bB];omega),ix,tW (by rw[bB];exact re.2)];exact b0.mem d hd c g4
 have h2:(ea (L.map aN.a4)).getD (k-1) []=pY.tail:=by rw[rI U (by rw[bB];omega),cq]
 unfold kW;rw[h1,h2,decide_eq_true I,decide_eq_true (by rw[g6];omega),decide_eq_true]
 ·rfl
 ·rw[g6,List.take_eq_take_min]
def c3c{L:List aN}{ae:List (List Nat)}{au:List Nat}(h:Rd L ae au)(hL:L.length<=36){k c:Nat}{p:fz}{f:PF}(an:p.bN=false)(aq:kW (ea (L.map aN.a4)) k c c=true)(hf:∃x,L[c-1]? =some x/\x.f=f):km (L.map aN.a4) (ea (L.map aN.a4)) k p (c,c)=true/\D1 (m6 (L.map aN.a4) (ea (L.map aN.a4)) (ndsL (L.map aN.a4) (L.map aN.a4).length) k p (c,c)) (f,[]):=by
 obtain⟨x,hx,rfl⟩:=hf;unfold km m6;rw[an];simp only[cond_false,aq,cond_true];exact⟨trivial,Iu hx,rfl,h.a3M hL Rd.xd.1,⟨h.low hL (eY hx),λa ha=>by simp at ha⟩,by
  show(List.map _ _).length<=40;rw[bB];have:=(Rd.xd (L:=L) (i:=c-1)).2;omega⟩
def a3O{aW:List Nat}{rest:List bw}:∀ {l:List bw} {i:Nat},ixN aW l=some i->ixN aW (l++rest)=some i
 |[],i,h=>by cases h
 |r::l,i,h=>by
  rw[ixN] at h;show ixN aW (r::(l++rest))=some i;rw[ixN];split at h
  ·rename_i e;rw[if_pos e];exact h
  ·rename_i e;rw[if_neg e];cases hx:ixN aW l with
   |none=>rw[hx] at h;cases h
   |some m=>rw[hx] at h;rw[a3O hx];exact h
def yV{K:Nat->List AV->AV->Prop}{R:List bw}{db:AV}(de:U8 K R db){T:List a7}{B N:List (List Nat)}{k:Nat}{x:aN}(hh:x.hyp=false)(i:Nat){r:bw}(ak:rulesP[i]? =some r)(hn:x.bH≠ep)(mq:ixN x.bH rulesP=some i)(aa:citeB T B k r.cg x.cs=true){aE:List (PF×List PF)}(ha:od r x.f aE)(rJ:x.f.low)(hg:Bm (gotsL T B N k r.cg x.cs) aE):vg K T B N R k x.a4 true 0 0 0 0:=by
 obtain⟨rest,rfl⟩:=de.pre;obtain⟨h1,h2⟩:=fH.1 ak;have e:(rulesP++rest)[i]'(by rw[c5];omega)=r:=by rw[iC h1,h2]
 obtain⟨cB,fE,ei,ej,au,hA⟩:=de.ap r x.f aE _ ha rJ hg;have ct:Nl K T B N k x.a4 ((rulesP++rest)[i]'(by rw[c5];omega)) (if 0=0 then 0 else 6) (if 0=0 then 0 else ei) (if 0=0 then 0 else ej) (if 0=0 then 0 else au):=by
  rw[e];exact .ap aa cB fE ei ej au 0 hA
 exact .step I hh hn i _ (a3O mq) ct
section
variable {K:Nat->List AV->AV->Prop}{R:List bw}{db:AV}
def Rd.bad(de:U8 K R db){L:List aN}{ae:List (List Nat)}{au:List Nat}(h:Rd L ae au)(hL:L.length<=36){k:Nat}{x:aN}(h1:1<=k)(hx:L[k-1]? =some x):vg K (L.map aN.a4) (ea (L.map aN.a4)) (ndsL (L.map aN.a4) (L.map aN.a4).length) R k x.a4 true 0 0 0 0:=by
 obtain⟨ev,pY,wD,jB,bx,bz,bY,hl,yK⟩:=h.line h1 hx;have r7:k<=L.length:=by have:=(fH.1 hx).1;omega
 have gS:x.f.low:=h.low hL (eY hx);have dM:∀i y,(L.take (k-1))[i]? =some y->L[i]? =some y:=λi y hy=>by
  have:=(fH.1 hy).1;rw[g6] at this;rwa[vK U] at hy
 generalize L.take (k-1)=gY at bx bz bY hl yK dM;have aB:gY.length+1=k:=by omega
 have ix:L.map aN.a4=gY.map aN.a4++([x.a4]++(L.drop k).map aN.a4):=by
  conv=>lhs;rw[yK]
  simp only[gO,pf,yp,iJ]
 have aL:=bx.inv;have b0:=bx.b;have cq:stF (L.map aN.a4) k=jB.tail:=by
  have h3:=bY.b.st;rw[c5,show gY.length+[x].length=k from aB] at h3;rw[<-h3,ix,← iJ,show gY.map aN.a4++[x.a4]=(gY++[x]).map aN.a4 by simp];exact tW (by rw[bB,c5];exact T6 aB.symm)
 cases bz with
 |w9 f n an=>exact .hyp I I
 |yM _ _ n aY bT=>exact .hyp I I
 |vf F f _ aY aa=>
  have hg:∀ {c:Nat} {p:fz} {a:PF},(∃b9∈F++[f],c∈b9)->p.bN=false->ko gY c a->km (L.map aN.a4) (ea (L.map aN.a4)) k p (c,c)=true/\D1 (m6 (L.map aN.a4) (ea (L.map aN.a4)) (ndsL (L.map aN.a4) (L.map aN.a4).length) k p (c,c)) (a,[]):=λaa an ⟨y,hy,hf⟩=>c3c h hL an (a3N ix aB r7 b0 aL aa cq) ⟨y,dM _ _ hy,hf⟩;cases aa with
  |and aQ aZ f1 f2 al=>
   obtain⟨ef,t1⟩:=hg (p:=iB mA) aQ I f1;obtain⟨jE,t2⟩:=hg (p:=iB ec) aZ I f2;exact yV de (x:=⟨F.length,0,false,_,Ig,_⟩) I 0 I (by show Ig≠ep;decide) I (by show(km _ _ _ (iB mA) _&&(km _ _ _ (iB ec) _&&true))=true;rw[ef,jE];rfl) (.and _ _) gS (.cons t1 (.cons t2 .nil))
  |or n aQ f1 al=>
   obtain⟨ef,t1⟩:=hg (p:=iB mA) aQ I f1;exact yV de (x:=⟨F.length,0,false,_,Ih,_⟩) I 3 I (by show Ih≠ep;decide) I (by show(km _ _ _ (iB mA) _&&true)=true;rw[ef];rfl) (.or _ _) gS (.cons t1 .nil)
  |jP q aQ f1=>
   obtain⟨ef,t1⟩:=hg (p:=iB (iA 0 mA ec)) aQ I f1;exact yV de (x:=⟨F.length,0,false,_,jP q,_⟩) I (cond q 2 1) (r:=D0 q) (by cases q<;>rfl) (by show jP q≠ep;cases q<;>decide) (by cases q<;>rfl) (by show(km _ _ _ (iB (iA 0 mA ec)) _&&true)=true;rw[ef];rfl) (.jP q _ _) gS (.cons t1 .nil)
  |imp aQ aZ f1 f2=>
   obtain⟨ef,t1⟩:=hg (p:=iB (iA 2 mA ec)) aQ I f1;obtain⟨jE,t2⟩:=hg (p:=iB mA) aZ I f2;exact yV de (x:=⟨F.length,0,false,_,w6,_⟩) I 7 I (by show w6≠ep;decide) I (by show(km _ _ _ (iB (iA 2 mA ec)) _&&(km _ _ _ (iB mA) _&&true))=true;rw[ef,jE];rfl) (.w6 _ _) gS (.cons t1 (.cons t2 .nil))
  |not aQ aZ f1 f2=>
   obtain⟨ef,t1⟩:=hg (p:=iB mA) aQ I f1;obtain⟨jE,t2⟩:=hg (p:=iB (qJ mA)) aZ I f2;exact yV de (x:=⟨F.length,0,false,_,w7,_⟩) I 9 I (by show w7≠ep;decide) I (by show(km _ _ _ (iB mA) _&&(km _ _ _ (iB (qJ mA)) _&&true))=true;rw[ef,jE];rfl) (.w7 _) gS (.cons t1 (.cons t2 .nil))
  |again aQ f1=>
   obtain⟨ef,t1⟩:=hg (p:=j7) aQ I f1;obtain⟨y,hy,hf⟩:=f1;have U9:=de.b6 _ gS;rename_i c;have e:gU (L.map aN.a4) c=y.f.aI:=Iu (dM _ _ hy);refine .again I I I (c_:=cond true 0 6) (ei:=cond true 0 2) (ej:=cond true 0 1) (.ap (c,c) I ?_ true ?_)
   ·show(km _ _ _ j7 _&&true)=true;rw[ef];rfl
   ·show K pO [(gU (L.map aN.a4) c).A true,_] _;rw[e,hf];exact U9
  |w8 n aQ f1=>
   obtain⟨ef,t1⟩:=hg (p:=iB m_) aQ I f1;exact yV de (x:=⟨F.length,0,false,_,Ii,_⟩) I 10 I (by show Ii≠ep;decide) I (by show(km _ _ _ (iB m_) _&&true)=true;rw[ef];rfl) (.w8 _) gS (.cons t1 .nil)
 |shut F e f _ first cX pZ=>
  rename_i dL dV;have hlen:=aL.len;simp only[c5,fw,hr] at hlen;obtain⟨p1,n,kL⟩:=aL.fst jB.length first U ay
  rw[cX] at kL;cases kL;have du:=(fH.1 cX).1;have U_:jB≠[]:=λe=>by rw[e] at hlen;simp at hlen
  have ht:(jB++[first]).tail=jB.tail++[first]:=HZ U_;have xc:jB.tail.length=F.length:=by rw[A7];omega
  have Va:gY≠[]:=λe=>by rw[e] at pZ;simp at pZ
  have w3:=(aL.last Va).2 _ pZ;simp only[c5,fw,hr] at w3;have rL:(L.map aN.a4).length=L.length:=bB _;have dg:(ea (L.map aN.a4)).getD (first-1) []=jB.tail++[first]:=by
   rw[rI p1 U,ix,tW (by rw[bB];omega),b0.fst jB.length first U ay,ht,sM (by simp;omega)]
  have cD:(ea (L.map aN.a4)).getD (gY.length-1) []=jB.tail++[first]:=by
   rw[rI U U,ix,tW (by rw[bB];exact a8 _),b0.st,ht]
  have dn:(ea (L.map aN.a4)).getD (k-1) []=jB.tail:=by rw[rI U U,cq]
  have d1:jM (L.map aN.a4) k=F.length:=by
   rw[yU hx,yP];cases decide (dV.f= .cC)<;>rfl
  have d2:jM (L.map aN.a4) gY.length=F.length+1:=by rw[yU (dM _ _ pZ),w3];omega
  have s1:l7 (ea (L.map aN.a4)) first (F.length+1) first=true:=by
   unfold l7;rw[dg];exact decide_eq_true (by rw[A8,← xc];simp)
  have s2:l7 (ea (L.map aN.a4)) gY.length (F.length+1) first=true:=by
   unfold l7;rw[cD];exact decide_eq_true (by rw[A8,← xc];simp)
  have yT:l7 (ea (L.map aN.a4)) (gY.length+1) (F.length+1) first=false:=by
   unfold l7;rw[aB,dn];exact decide_eq_false (by rw[A8,te U];simp)
  have Iv:lK (L.map aN.a4) (ea (L.map aN.a4)) k first gY.length=true:=by
   unfold lK;rw[d1,d2,s1,s2,yT,dg,dn,yG U,sM U,decide_eq_true I,decide_eq_true I];rfl
  have N5:kR (L.map aN.a4) first (F.length+1)=[first]:=by
   unfold kR;obtain⟨m,hm⟩:∃m,(L.map aN.a4).length+1-first=m+1:=⟨L.length-first,U⟩
   rw[hm,AD,iR,dM _ _ cX];refine(if_pos ⟨rfl,by show jB.length=_;omega,U⟩).trans ?_
   congr 1
   cases m with
   |zero=>rfl
   |succ m=>
    rw[AD,iR];cases a_:L[first+1-1]? with
    |none=>rfl
    |some z=>
     refine if_neg ?_;rintro⟨Iw,Vb,Vc⟩;have Iw:z.hyp=true:=Iw;have Vb:z.bK=F.length+1:=Vb;have Vc:¬(first<first+1/\0<z.op):=Vc;have:=h.b.hyp z (eY a_) Iw U;omega
  have H9:(e2 n).low:=h.low hL (eY (dM _ _ cX));have H8:=h.low hL (eY (dM _ _ pZ));have Ch:∀p:fz,p.bN=true->km (L.map aN.a4) (ea (L.map aN.a4)) k p (first,gY.length)=true/\D1 (m6 (L.map aN.a4) (ea (L.map aN.a4)) (ndsL (L.map aN.a4) (L.map aN.a4).length) k p (first,gY.length)) (dV.f,[e2 n]):=λp an=>by
   unfold km m6;rw[an];simp only[cond_true,Iv,d1,N5];refine⟨trivial,Iu (dM _ _ pZ),?_,h.a3M hL (λn hn=>Rd.xd.1 n (mj.1 hn).1),⟨H8,λa ha=>?_⟩,?_⟩
   ·show[gU (L.map aN.a4) first]=[(e2 n).aI];rw[Iu (dM _ _ cX)]
   ·rw[cA.1 ha];exact H9
   ·show(List.map _ _).length<=40;rw[bB];have h2:=(Rd.xd (L:=L) (i:=gY.length-1)).2;have h3:(pP (L.map aN.a4) (ndsL (L.map aN.a4) (L.map aN.a4).length) k first gY.length).length<=_:=sz _ _;omega
  clear Iv s1 s2 yT dg cD dn d1 d2 N5;rw[yP] at hx gS ⊢;cases hd:decide (dV.f= .cC) with
  |true=>
   rw[hd] at gS;obtain⟨ef,t1⟩:=Ch (tX mA m_) I;rw[of_decide_eq_true hd] at t1;exact yV de (x:=⟨F.length,0,false,.neg (e2 n),yJ,[(first,gY.length)]⟩) I 8 I (by show yJ≠ep;decide) I (by show(km _ _ _ (tX mA m_) _&&true)=true;rw[ef];rfl) (.U7 _) gS (.cons t1 .nil)
  |false=>
   rw[hd] at gS;obtain⟨ef,t1⟩:=Ch (tX mA ec) I;exact yV de (x:=⟨F.length,0,false,.bin 2 (e2 n) dV.f,w2,[(first,gY.length)]⟩) I 6 I (by show w2≠ep;decide) I (by show(km _ _ _ (tX mA ec) _&&true)=true;rw[ef];rfl) (.U6 _ _) gS (.cons t1 .nil)
end
def any_congr{α:Type}{l:List α}{p q:α->Bool}(h:∀x∈l,p x=q x):l.any p=l.any q:=by
 induction l with
 |nil=>rfl
 |cons x l aC=>rw[SI,SI,h x ay,aC λy hy=>h y (by simp[hy])]
def asm_one{T:List a7}(hh:∀x∈T,x.hyp=true->x.op=0->x.bK=0){a d:Nat}(ha:1<=a)(mM:a<=T.length)(hd:1<=d):kR T a d=match T[a-1]? with
  |some x=>if x.hyp=true/\x.bK=d then[a] else[]
  |none=>[]:=by
 unfold kR;obtain⟨m,hm⟩:∃m,T.length+1-a=m+1:=⟨T.length-a,U⟩
 rw[hm,AD];cases hx:T[a-1]? with
 |none=>rfl
 |some x=>
  show(if x.hyp=true/\x.bK=d/\¬(a<a/\0<x.op) then a::asmF T a d m (a+1) else[])=if x.hyp=true/\x.bK=d then[a] else[]
  by_cases h:x.hyp=true/\x.bK=d
  ·rw[if_pos h,if_pos ⟨h.1,h.2,U⟩]
   congr 1
   cases m with
   |zero=>rfl
   |succ m=>
    rw[AD];cases a_:T[a+1-1]? with
    |none=>rfl
    |some z=>
     refine if_neg ?_;rintro⟨Iw,Vb,Vc⟩;have:=hh z (eY a_) Iw U;omega
  ·rw[if_neg h,if_neg λh'=>h ⟨h'.1,h'.2.1⟩]
def a3P{T:List a7}{i m:Nat}(hi:i<m):∀ {n:Nat},(ndsL T (m+n))[i]? =(ndsL T m)[i]?
 |0=>rfl
 |n+1=>by
  rw[show m+(n+1)=(m+n)+1 by omega,ndsL,yq (by rw[yy];omega)];exact a3P hi
def Rd.vu{L:List aN}{ae:List (List Nat)}{au:List Nat}(h:Rd L ae au){k:Nat}{x:a7}(h1:1<=k)(hx:(L.map aN.a4)[k-1]? =some x):wP k x.cs:=by
 rw[iR] at hx;cases hy:L[k-1]? with
 |none=>rw[hy] at hx;cases hx
 |some y=>
  rw[hy] at hx;cases hx;obtain⟨_,_,_,_,a,c⟩:=h.shape h1 hy;exact⟨by show y.cs.length<_;omega,c⟩
def D2{α:Type}{J:ad}{n:Nat}{ab:Option Nat}{f:α->AV}{l:List α}(h:∀x∈l,bt J n (f x)=some (f x)):bt J (n+1) (slA true ab (l.map f))=some (slA true ab (l.map f)):=by
 cases l with
 |nil=>rfl
 |cons x l=>
  have hm:mapO (bt J n) ((x::l).map f)=some ((x::l).map f):=sG I λi h1 h2=>by
   rw[ez];exact h _ (bC _)
  show bt J (n+1) (.aV true ab ((x::l).map f))=some (.aV true ab ((x::l).map f));rw[snapshot_succ];simp only[hm]
def Ix{J:ad}{n:Nat}{F:Fm}(h:2*F.dep+2<=n):mapO (bt J n) (br F)=some (br F):=by
 have h1:=Fm.snap J true _ F (n+1) (a8 _) U;rw[j4] at h1;obtain⟨e5,aQ,aZ⟩:=CQ h1;cases aZ;exact aQ
def c3d{J:ad}{n:Nat}{x:a7}(h:2*x.f.dep+12<=n):bt J n x.A=some x.A:=by
 obtain⟨n,rfl⟩:∃m,n=m+5:=⟨n-5,U⟩
 have h1:mapO (bt J (n+4)) (br x.f)=some (br x.f):=Ix U;have h2:bt J (n+4) (l6 true x.cs)=some (l6 true x.cs):=D2 λc _=>rfl;refine oJ (l:=[ag x.bK,ag x.op,.b x.hyp]++(br x.f++[.s x.bH,l6 true x.cs])) ?_;refine rA (l:=[ag x.bK,ag x.op,.b x.hyp]) (r:=[ag x.bK,ag x.op,.b x.hyp]) I (rA h1 ?_);rw[mapO_cons,mapO_cons,h2];rfl
def a3Q{J:ad}{n:Nat}{T:List a7}(aY:T≠[])(h:∀x∈T,2*x.f.dep+13<=n):bt J n (ck T)=some (ck T):=by
 cases n with
 |zero=>
  cases T with
  |nil=>exact absurd I aY
  |cons x l=>have:=h x ay;omega
 |succ n=>
  have:=D2 (J:=J) (n:=n) (ab:=some 9) (f:=a7.A) (l:=T) λx hx=>c3d (by have:=h x hx;omega);cases T with
  |nil=>exact absurd I aY
  |cons x l=>exact this
abbrev fm(o:Bool)(F:Fm):List AV:=[uB F.op,.s F.name,jJ o F.gW,iW o F.gz]
def sO(o:Bool)(F:Fm):F.A o= .aj (fm o F):=by unfold Fm.A;rw[Fm.kj]
abbrev ff(o:Bool)(aW:List Nat)(F:Fm)(dT:Nat)(subs marks:AV):List AV:=.s aW::(fm o F++[ag dT,subs,marks])
def c3e:bw:=⟨[],[],j9⟩
def ib(R:List bw)(aW:List Nat):bw:=(R.find? λr=>decide (r.aW=aW)).getD c3e
def as1(T:List a7)(a d:Nat):List Nat:=match T[a-1]? with
 |some x=>if x.hyp=true/\x.bK=d then[a] else[]
 |none=>[]
def gZ(T:List a7)(R:List bw)(k i:Nat):List Nat:=match T[k-1]? with
 |some x=>cond ((ib R x.bH).cg.getD i j7).bN (as1 T (x.cs.getD i (0,0)).1 (x.bK+1)) []
 |none=>[]
def Vd(T:List a7)(a d:Nat):(as1 T a d).length<=1/\∀n∈as1 T a d,n=a/\a-1<T.length:=by
 unfold as1;cases h:T[a-1]? with
 |none=>exact⟨ay,ay⟩
 |some x=>
  have:=(fH.1 h).1;simp only[];split
  ·exact⟨ay,λn hn=>⟨by simpa using hn,this⟩⟩
  ·exact⟨ay,ay⟩
def jC(x:a7):Nat:=(x.cs.headD (0,0)).2
def rM(o:Bool)(T:List a7)(R:List bw)(k n:Nat):AV:=slA o none ((List.range n).map λi=>slA o none ((gZ T R k i).map ag))
def tA(T:List a7)(R:List bw)(o:Bool)(k:Nat):AV:=
 match T[k-1]? with
 |none=>.fx
 |some x=>if x.hyp=true then .aj (ff o [] x.f k .nilsl .nilsl)
  else if x.bH=ep then(if _h:jC x<k then tA T R o (jC x) else .fx)
  else .aj (ff o x.bH x.f 0 (slA o (some 8) (x.cs.map λc=>if _h:c.2<k then tA T R o c.2 else .fx)) (rM o T R k x.cs.length))
termination_by k
structure hN(T:List a7)(R:List bw):Prop where
 lt:T.length<=40
 cs:∀k x,1<=k->T[k-1]? =some x->x.hyp=false->x.cs≠[]/\x.cs.length<=4/\∀c∈x.cs,1<=c.1/\c.1<=c.2/\c.2<k
 fd:∀x∈T,x.f.dep<=40
 fR:∀x∈T,x.hyp=false->x.bH≠ep->ib R x.bH∈R/\(ib R x.bH).aW=x.bH/\(ib R x.bH).cg.length=x.cs.length/\x.bH≠[]/\x.bH≠[63]
 op:∀x∈T,x.hyp=true->x.op=0->x.bK=0
 hy:∀x∈T,x.hyp=true->x.cs=[]/\x.bH=[]
 bK:∀x∈T,x.bK<=40
section
variable {T:List a7}{R:List bw}(G:hN T R){k:Nat}{x:a7}
def yW(o:Bool)(hx:T[k-1]? =some x)(h:x.hyp=true):tA T R o k= .aj (ff o [] x.f k .nilsl .nilsl):=by
 rw[tA,hx];simp only[h,if_true]
include G
theorem hN.last(h1:1<=k)(hx:T[k-1]? =some x)(h:x.hyp=false):∃c l,x.cs=c::l/\jC x=c.2/\1<=c.1/\c.1<=c.2/\c.2<k:=by
 obtain⟨a,_,c⟩:=G.cs k x h1 hx h;cases aa:x.cs with
 |nil=>exact absurd aa a
 |cons y l=>exact⟨y,l,rfl,by unfold jC;rw[aa];rfl,c y (by rw[aa];exact k1)⟩
theorem xe(o:Bool)(h1:1<=k)(hx:T[k-1]? =some x)(h:x.hyp=false)(ak:x.bH=ep):tA T R o k=tA T R o (jC x):=by
 obtain⟨c,l,_,e,_,_,h3⟩:=G.last h1 hx h;rw[tA,hx];simp only[h,ak,if_true];rw[if_neg ay,dif_pos U]
theorem yX(o:Bool)(h1:1<=k)(hx:T[k-1]? =some x)(h:x.hyp=false)(ak:x.bH≠ep):tA T R o k= .aj (ff o x.bH x.f 0 (slA o (some 8) (x.cs.map λc=>tA T R o c.2)) (rM o T R k x.cs.length)):=by
 have aa:=(G.cs k x h1 hx h).2.2;rw[tA,hx];simp only[h];rw[if_neg ay,if_neg ak];rw[show(x.cs.map λc=>if _h:c.2<k then tA T R o c.2 else .fx)=x.cs.map λc=>tA T R o c.2 from pd λc je=>dif_pos (aa c je).2.2]
theorem xf(o:Bool):∀k,1<=k->k<=T.length->∃aW F dT s m,tA T R o k= .aj (ff o aW F dT s m):=λk=>by
 induction k using Nat.strongRecOn with
 |ind k aC=>
  intro h1 h2;have hx:T[k-1]? =some T[k-1]:=cp U;cases h:(T[k-1]).hyp with
  |true=>exact⟨_,_,_,_,_,yW o hx h⟩
  |false=>
   by_cases ak:(T[k-1]).bH=ep
   ·obtain⟨c,l,_,e,aQ,aZ,bX⟩:=G.last h1 hx h;rw[xe G o h1 hx h ak,e];exact aC _ bX U U
   ·exact⟨_,_,_,_,_,yX G o h1 hx h ak⟩
omit G
theorem N6{α:Type}{J:ad}{n:Nat}{o:Bool}{ab:Option Nat}{f g:α->AV}{l:List α}(h:∀x∈l,bt J n (f x)=some (g x)):bt J (n+1) (slA o ab (l.map f))=some (slA true ab (l.map g)):=by
 cases l with
 |nil=>rfl
 |cons x l=>
  have hm:mapO (bt J n) ((x::l).map f)=some ((x::l).map g):=sG ay λi h1 h2=>by
   rw[ez,ez];exact h _ (bC _)
  show bt J (n+1) (.aV o ab ((x::l).map f))=some (.aV true ab ((x::l).map g));rw[snapshot_succ];simp only[hm]
theorem c3f{J:ad}{n:Nat}{o:Bool}{F:Fm}(h:2*F.dep+2<=n):mapO (bt J n) (fm o F)=some (fm true F):=by
 have h1:=Fm.snap J o _ F (n+1) (a8 _) U;rw[sO,sO] at h1;obtain⟨e5,aQ,aZ⟩:=CQ h1;cases aZ;exact aQ
theorem N7{J:ad}{n:Nat}{o:Bool}{F:Fm}{aW:List Nat}{dT:Nat}{s iV m aP:AV}(h:2*F.dep+2<=n)(al:bt J n s=some iV)(hm:bt J n m=some aP):bt J (n+1) (.aj (ff o aW F dT s m))=some (.aj (ff true aW F dT iV aP)):=by
 obtain⟨n,rfl⟩:∃k,n=k+1:=⟨n-1,U⟩
 refine oJ (rA (l:=[.s aW]) (r:=[.s aW]) I (rA (c3f h) ?_));rw[mapO_cons,mapO_cons,mapO_cons,al,hm];rfl
theorem c3g{J:ad}{n:Nat}{o:Bool}{j:Nat}:bt J (n+3) (rM o T R k j)=some (rM true T R k j):=N6 λi _=>N6 λy _=>rfl
include G
theorem Iy{J:ad}(o:Bool):∀k,1<=k->k<=T.length->∀n,3*k+90<=n->bt J n (tA T R o k)=some (tA T R true k):=λk=>by
 induction k using Nat.strongRecOn with
 |ind k aC=>
  intro h1 h2 n hn;have hx:T[k-1]? =some T[k-1]:=cp U;have hd:=G.fd _ (bC (show k-1<T.length by omega));obtain⟨n,rfl⟩:∃m,n=m+4:=⟨n-4,U⟩
  cases h:(T[k-1]).hyp with
  |true=>
   rw[yW o hx h,yW true hx h];exact N7 U I I
  |false=>
   by_cases ak:(T[k-1]).bH=ep
   ·obtain⟨c,l,_,e,aQ,aZ,bX⟩:=G.last h1 hx h;rw[xe G o h1 hx h ak,xe G true h1 hx h ak,e];exact aC _ bX U U _ U
   ·have aa:=(G.cs k _ h1 hx h).2.2;rw[yX G o h1 hx h ak,yX G true h1 hx h ak];refine N7 U (N6 λc je=>?_) c3g;obtain⟨dU,fr,gK⟩:=aa c je;exact aC _ gK U U _ U
end
structure o9(W:Nat->Prop)(J:ad)(v:AV)(l:List Nat):Prop where
 ao:eL J v l
 iq:l=[]->v= .nilsl
 wn:∀o,v.at? =some o->W o
inductive o_(T:List a7)(R:List bw)(W:Nat->Prop)(J:ad):Nat->AV->Prop
 |hyp {k:Nat} {x:a7} (hx:T[k-1]? =some x) (h:x.hyp=true):o_ T R W J k (.aj (ff false [] x.f k .nilsl .nilsl))
 |again {k:Nat} {x:a7} {v:AV} (hx:T[k-1]? =some x) (h:x.hyp=false) (ak:x.bH=ep) (ht:o_ T R W J (jC x) v):o_ T R W J k v
 |node {k:Nat} {x:a7} (w m:AV) (xs ms:List AV) (hx:T[k-1]? =some x) (h:x.hyp=false) (ak:x.bH≠ep) (hw:Sl J (some 8) w xs) (hl:xs.length=x.cs.length) (hm:Sl J none m ms) (kZ:ms.length=x.cs.length) (hW:∀o,w.at? =some o\/m.at? =some o->W o)
  (ht:∀i (h:i<xs.length) (h':i<x.cs.length),o_ T R W J (x.cs[i]).2 xs[i]) (ql:∀i (h:i<ms.length),o9 W J ms[i] (gZ T R k i)):o_ T R W J k (.aj (ff false x.bH x.f 0 w m))
section
variable {T:List a7}{R:List bw}{k:Nat}{J τ:ad}{v:AV}{W W':Nat->Prop}
def o9.aD{l:List Nat}(h:o9 W J v l)(bA:∀i o,W i->J.get i=some o->τ.get i=some o)(hW:∀i,W i->W' i):o9 W' τ v l:=⟨h.ao.aD λi o hi=>bA i o (h.wn i hi),h.iq,λo ho=>hW _ (h.wn o ho)⟩
def o_.aD(h:o_ T R W J k v)(bA:∀i o,W i->J.get i=some o->τ.get i=some o)(hW:∀i,W i->W' i):o_ T R W' τ k v:=by
 induction h with
 |hyp hx h=>exact .hyp hx h
 |again hx h ak _ aC=>exact .again hx h ak aC
 |node w m xs ms hx h ak hw hl hm kZ Ve _ ql aC=>exact .node w m xs ms hx h ak (hw.aD λi o hi=>bA i o (Ve i (.inl hi))) hl (hm.aD λi o hi=>bA i o (Ve i (.inr hi))) kZ (λo ho=>hW _ (Ve o ho)) aC λi hi=>(ql i hi).aD bA hW
def o_.aj(h:o_ T R W J k v):∃aW F dT s m,v= .aj (ff false aW F dT s m):=by
 induction h with
 |hyp hx h=>exact⟨_,_,_,_,_,rfl⟩
 |again hx h ak _ aC=>exact aC
 |node w m=>exact⟨_,_,_,_,_,rfl⟩
def o9.snap{l:List Nat}(h:o9 W J v l)(n:Nat):bt J (n+2) v=some (slA true none (l.map ag)):=Sl.tK h.ao (λe=>h.iq (by simpa using e)) (by
 have:=vd (f:=bt J (n+1)) (g:=λx=>x) (l:=l.map ag) (λx hx=>by obtain⟨m,_,rfl⟩:=cT.1 hx;rfl);rwa[wJ] at this)
def N8{ab:Option Nat}{xs ba:List AV}(h:Sl J ab v xs)(hn:xs=[]->v= .nilsl)(hl:ba.length=xs.length):DB v ab ba=slA false ab ba:=by
 cases h with
 |nil=>
  cases ba with
  |nil=>rfl
  |cons y l=>simp at hl
 |ao o cap xs rest hg aa aB=>
  cases ba with
  |nil=>
   cases xs with
   |nil=>cases hn rfl
   |cons x l=>simp at hl
  |cons y l=>rfl
def o9.DC{l:List Nat}(h:o9 W J v l)(n:Nat):freeze J 0 (n+2) v=some (slA false none (l.map ag)):=by
 rw[Sl.DC h.ao,N8 h.ao (λe=>h.iq (by simpa using e)) I]
def c3h{ms:List AV}{j n:Nat}{m:AV}(hm:Sl J none m ms)(kZ:ms.length=j)(aA:j≠0)(ql:∀i (h:i<ms.length),o9 W J ms[i] (gZ T R k i)):bt J (n+3) m=some (rM true T R k j):=Sl.tK hm (λe=>by subst e;exact absurd kZ.symm aA) (sG (by simp[kZ]) λi h1 h2=>by
 rw[(ql i h1).snap n,ez,pg])
def c3i{ms:List AV}{j n:Nat}{m:AV}(hm:Sl J none m ms)(kZ:ms.length=j)(aA:j≠0)(ql:∀i (h:i<ms.length),o9 W J ms[i] (gZ T R k i)):freeze J 0 (n+3) m=some (rM false T R k j):=by
 rw[hm.freeze (ba:=(List.range j).map λi=>slA false none ((gZ T R k i).map ag)) (sG (by simp[kZ]) λi h1 h2=>by rw[(ql i h1).DC n,ez,pg])];exact congrArg some (N8 hm (λe=>by subst e;exact absurd kZ.symm aA) (by simp[kZ]))
def a3R(n:Nat)(F:Fm):mapO (freeze J 0 (n+1)) (fm false F)=some (fm false F):=by
 have h1:freeze J 0 (n+1) (jJ false F.gW)=some (jJ false F.gW):=by cases F.gW<;>rfl
 have h2:freeze J 0 (n+1) (iW false F.gz)=some (iW false F.gz):=by cases F.gz<;>rfl
 rw[mapO_cons,mapO_cons,mapO_cons,mapO_cons,h1,h2];rfl
def a3S{n:Nat}{F:Fm}{aW:List Nat}{dT:Nat}{s iV m aP:AV}(al:freeze J 0 (n+1) s=some iV)(hm:freeze J 0 (n+1) m=some aP):freeze J 0 (n+2) (.aj (ff false aW F dT s m))=some (.aj (ff false aW F dT iV aP)):=by
 have e:mapO (freeze J 0 (n+1)) (ff false aW F dT s m)=some (ff false aW F dT iV aP):=rA (l:=[.s aW]) (r:=[.s aW]) I (rA (a3R n F) (by rw[mapO_cons,mapO_cons,mapO_cons,al,hm];rfl));rw[freeze_succ];show(match mapO (freeze J 0 (n+1)) (ff false aW F dT s m) with|none=>none|some l=>some (AV.aj l))=_;rw[e]
def o_.snap(G:hN T R)(h:o_ T R W J k v):1<=k->∀n,3*k+90<=n->bt J n v=some (tA T R true k):=by
 induction h with
 | @hyp k x hx h=>
  intro h1 n hn;obtain⟨n,rfl⟩:∃m,n=m+4:=⟨n-4,U⟩
  rw[yW true hx h];have:=G.fd x (eY hx);exact N7 U I I
 | @again k x v hx h ak _ aC=>
  intro h1 n hn;obtain⟨c,l,_,e,aQ,aZ,bX⟩:=G.last h1 hx h;rw[xe G true h1 hx h ak];exact aC U n U
 | @node k x w m xs ms hx h ak hw hl hm kZ _ _ ql aC=>
  intro h1 n hn;obtain⟨n,rfl⟩:∃m,n=m+4:=⟨n-4,U⟩
  obtain⟨aY,_,aa⟩:=G.cs k x h1 hx h;have aY:x.cs.length≠0:=λe=>aY (w0.1 e);have:=G.fd x (eY hx);rw[yX G true h1 hx h ak];refine N7 U (Sl.tK hw (λe=>by subst e;exact absurd hl.symm aY) (sG (by rw[bB,hl]) λi aQ aZ=>?_)) (c3h hm kZ aY ql);rw[bB] at aZ;obtain⟨dU,fr,gK⟩:=aa _ (bC aZ);rw[aC i aQ aZ U _ U,ez]
def o_.DC(G:hN T R)(h:o_ T R W J k v):1<=k->∀n,3*k+90<=n->freeze J 0 n v=some (tA T R false k):=by
 induction h with
 | @hyp k x hx h=>
  intro h1 n hn;obtain⟨n,rfl⟩:∃m,n=m+4:=⟨n-4,U⟩
  rw[yW false hx h];exact a3S I I
 | @again k x v hx h ak _ aC=>
  intro h1 n hn;obtain⟨c,l,_,e,aQ,aZ,bX⟩:=G.last h1 hx h;rw[xe G false h1 hx h ak];exact aC U n U
 | @node k x w m xs ms hx h ak hw hl hm kZ _ _ ql aC=>
  intro h1 n hn;obtain⟨n,rfl⟩:∃m,n=m+4:=⟨n-4,U⟩
  obtain⟨aY,_,aa⟩:=G.cs k x h1 hx h;have aY:x.cs.length≠0:=λe=>aY (w0.1 e);rw[yX G false h1 hx h ak];refine a3S ?_ (c3i hm kZ aY ql);rw[hw.freeze (ba:=x.cs.map λc=>tA T R false c.2) (sG (by rw[bB,hl]) λi aQ aZ=>?_)]
  ·exact congrArg some (N8 hw (λe=>by subst e;exact absurd hl.symm aY) (by rw[bB,hl]))
  ·rw[bB] at aZ;obtain⟨dU,fr,gK⟩:=aa _ (bC aZ);rw[aC i aQ aZ U _ U,ez]
end
def p2:Nat->List bw->List (AV×AV×Nat)
 |_,[]=>[]
 |i,r::l=>(.s r.aW,r.A,i)::p2 (i+1) l
def N9(a b:List Nat):keyEq (.inl 1) (.s a) (.s b)=some (decide (a=b)):=by
 show some (eqL a b)=_;rw[Hv]
def Vf(aW:List Nat):∀(l:List bw) (i:Nat),mc (.inl 1) (.s aW) (p2 i l)=some ((l.find? λr=>decide (r.aW=aW)).map bw.A)
 |[],_=>rfl
 |r::l,i=>by
  show(match keyEq (.inl 1) (.s aW) (.s r.aW) with|none=>none|some true=>some (some r.A)|some false=>mc (.inl 1) (.s aW) (p2 (i+1) l))=_;rw[N9,List.find?_cons];by_cases h:r.aW=aW
  ·rw[decide_eq_true h.symm,decide_eq_true h];rfl
  ·rw[decide_eq_false (oj h),decide_eq_false h];exact Vf aW l (i+1)
def Vg(aW:List Nat)(v:AV):∀(l:List bw) (i:Nat),(∀r∈l,r.aW≠aW)->mF (.inl 1) (.s aW) v (p2 i l)=some none
 |[],_,_=>rfl
 |r::l,i,h=>by
  show(match keyEq (.inl 1) (.s aW) (.s r.aW) with
   |none=>none
   |some true=>some (some ((AV.s aW,v,i)::p2 (i+1) l))
   |some false=>match mF (.inl 1) (.s aW) v (p2 (i+1) l) with|none=>none|some none=>some none|some (some es)=>some (some ((AV.s r.aW,r.A,i)::es)))=_
  rw[N9,decide_eq_false (oj (h r k1))];simp only[Vg aW v l (i+1) λr ak=>h r (g1 _ ak)]
def Vh:∀(l:List bw) (i:Nat) (r:bw),p2 i (l++[r])=p2 i l++[(.s r.aW,r.A,i+l.length)]
 |[],i,r=>rfl
 |x::l,i,r=>by
  show _::p2 (i+1) (l++[r])=_::(p2 (i+1) l++_);rw[Vh l (i+1) r,fw,a2G,qO]
namespace W
section
variable {cb:jv}{env:Env}{aK:Option Nat}{D:List (Nat ⊕ (AV×List AV))}{n:Nat}{F:List (Nat×AV)}{z:Nat->AV}{J:ad}{Q:dO}{g:Option (Nat×Bool)}{ops:List a2}
def a3T{ar:aJ->Option AV}{ab:kc}{x y:aJ}{bf bm:Nat}{key hs:AV}{two:Bool}{es:List (AV×AV×Nat)}{r:Option AV}(hm:J.get bf=some (.map es bm))(h1:ar x=some (.m (some bf)))(h2:ar y=some key)(aB:keySelf ab key=true)(hf:mc ab key es=some r):opx 0 ar J (.lookup ab x y hs two)=some (.val (v2 two (r.getD hs) r.isSome) J):=by
 show(match ar x,ar y with|some x,some k=>(match cond (keySelf ab k) (match x with
  | .m none=>some (v2 two hs false)
  | .m (some id)=>match J.get id with
   |some (.map es _)=>match mc ab k es with|some (some v)=>some (v2 two v true)|some none=>some (v2 two hs false)|none=>none
   |_=>none
  |_=>none) none with|some v=>some (bO.val v J)|none=>none)|_,_=>none)=_
 rw[h1,h2];show(match cond (keySelf ab key) (match J.get bf with|some (.map es _)=>(match mc ab key es with|some (some v)=>some (v2 two v true)|some none=>some (v2 two hs false)|none=>none)|_=>none) none with|some v=>some (bO.val v J)|none=>none)=_;rw[aB,cond_true,hm];show(match(match mc ab key es with|some (some v)=>some (v2 two v true)|some none=>some (v2 two hs false)|none=>none) with|some v=>some (bO.val v J)|none=>none)=_;rw[hf];cases r<;>rfl
def n2{d:Nat}{ab:kc}{x y:aJ}{bf bm:Nat}{key hs:AV}{two:Bool}{es:List (AV×AV×Nat)}{r:Option AV}(hm:J.get bf=some (.map es bm))(hd:Nat.blt d n=true)(hw:wtL g n F=true)(h1:cL env n F z x=some (.m (some bf)))(h2:cL env n F z y=some key)(aB:keySelf ab key=true)(hf:mc ab key es=some r)
  (h:bM cb env aK D n ops (bs ((d,v2 two (r.getD hs) r.isSome)::F) z) J Q):bM cb env aK D n (⟨some d,.lookup ab x y hs two,g,[]⟩::ops) (bs F z) J Q:=val hd hw (a3T hm h1 h2 aB hf) h
end
end W
section
attribute [local irreducible] bM bo da dy bb
section
variable {b:bJ}{K:Nat->List AV->AV->Prop}
def c3j(hh:a3 (b.aF K) GI C1){T:List a7}{R:List bw}(G:hN T R){J:ad}{r:Nat}{g9:AV}(ak:J.get r=some (.cells [g9,ck T]))(a c d:Nat)(ha:1<=a)(fU:a<=c)(aa:c<=T.length)(hd:1<=d)(iT:d<2^10):
  bb (b.aF K) 0 (.f (.func GI) [] []) [aw r,.aj [ag a,ag c],ag d] J (λv τ=>∃w,v= .ok w/\o9 (λi=>J.next<=i/\i<τ.next) τ w (as1 T a d)/\cM J τ):=by
 refine W.code hh.e hh.p hh.f (by cbv) I I I λz=>?_;have H:Has J [(r,[g9,ck T])]:=Has.nil.cons ak ay;have hlt:=G.lt;refine af ?_;generalize aS:J.next=q;refine W.bN (c:=[ag a,ag c]) H aS I I I I I λτ cy H bl=>?_;refine af ?_;have Yr:=bl _ _ ak;have CH:=H.qx;have D3:=ad.a9 ak;refine ah.block ?_;refine ah.loop (λm f ax=>∃j w,j+m=1/\o9 (λi=>q<=i/\i<ax.next) ax w (if j=0 then[] else[a])/\(∀o,w.at? =some o->q<o)/\(j=1->as1 T a d=[a])/\cM τ ax/\sat [(0,aw r),(2,ag d),(4,aw q),(7,w),(8,ag (a+j))] f) ?_ 1 ⟨0,.nilsl,rfl,⟨.nil,λ_=>rfl,λ_ h=>by cases h⟩,(λ_ h=>by cases h),(λh=>by cases h),⟨a8 _,λ_ _ h=>h⟩,dm⟩;rintro m f ax ⟨j,w,aA,hw,Iz,ho,M,al⟩;refine ah.norm _ al λg=>?_;clear al;have H:Has ax [(q,[ag a,ag c]),(r,[g9,ck T])]:=H.aD M.2;have xg:=M.1;have fin:∀ {F:List (Nat×AV)} {g:Nat->AV} {a5:ad},sat [(7,w)] (bs F g)->cM ax a5->as1 T a d=(if j=0 then[] else[a])->bo (b.aF K) none [] C1.ntmps (.seq (.region [⟨some 50,.mb (.t 7),none,[]⟩,⟨some 6,.mb (.t 50),none,[]⟩]) .ret) (bs F g) a5 (λx b9 ai=>x= .ret/\∃w,ee.ok (b9 6)= .ok w/\o9 (λi=>q<=i/\i<ai.next) ai w (as1 T a d)/\cM J ai):=λal M2 e=>by
  refine ah.norm _ al λg=>?_;have H:=H.aD M2.2;have:=M2.1;refine af ?_;refine ah.ret ⟨rfl,w,rfl,?_,U,λi o h=>M2.2 _ _ (M.2 _ _ (bl _ _ h))⟩;rw[e];exact hw.aD (λi o _=>M2.2 i o) λi hi=>⟨hi.1,U⟩
 by_cases hn:a+j<=c
 ·refine af ?_;have hx:T[a+j-1]? =some T[a+j-1]:=cp U;have dS:=G.op _ (bC (show a+j-1<T.length by omega));have m4:=G.bK _ (bC (show a+j-1<T.length by omega));have has:j=0->as1 T a d=if(T[a+j-1]).hyp=true/\(T[a+j-1]).bK=d then[a] else[]:=λe=>by
   subst e;unfold as1;rw[show T[a-1]? =some T[a+0-1] from hx]
  generalize T[a+j-1]=x at dS has m4;obtain⟨wN,qn,AF,SS,AG,ru⟩:=x;refine W.kk H I I I I I I I λa5 c6 H bj=>?_;have M2:cM ax a5:=⟨U,bj⟩
  simp only[] at dS has m4;have out:¬(AF=true/\wN=d)->as1 T a d=(if j=0 then[] else[a]):=λh=>by
   by_cases rN:j=0
   ·rw[has rN,if_neg h,if_pos rN]
   ·rw[ho U,if_neg rN]
  cases AF with
  |false=>
   refine af ?_;refine ah.exit ?_;exact fin ⟨rfl,trivial⟩ M2 (out λh=>by cases h.1)
  |true=>
   by_cases Ud:wN=d
   ·by_cases rN:j=0
    ·subst rN;refine af ?_;refine W.pu (ag (a+0)) (hw.ao.aD λi o _=>bj i o) I I I I I I I I I ay λbn bu aq kS _ dx k3=>?_;refine af ?_;have lL:∀i o,ax.get i=some o->bu.get i=some o:=λi o h=>k3 i o (λe=>by have:=hw.iq I;subst this;cases e) (bj _ _ h);refine⟨0,U,1,bn,rfl,⟨by unfold eL;simpa using aq,(λe=>by cases e),λo ho=>?_⟩,λo ho=>?_,λ_=>?_,⟨U,λi o h=>lL i o (M.2 _ _ h)⟩,dm⟩
     ·rw[kS] at ho;cases ho;omega
     ·rw[kS] at ho;cases ho;omega
     ·rw[has I,if_pos ⟨rfl,Ud⟩]
    ·obtain rfl:j=1:=by omega
     have:0<qn:=by have:=dS I;omega
     refine af ?_;refine ah.exit ?_;exact fin ⟨rfl,trivial⟩ M2 (by rw[ho I];rfl)
   ·refine af ?_;refine ah.exit ?_;exact fin ⟨rfl,trivial⟩ M2 (out λh=>Ud h.2)
 ·refine af ?_;refine ah.exit ?_;have oe:j=1:=by omega
  exact fin ⟨rfl,trivial⟩ ⟨a8 _,λ_ _ h=>h⟩ (by rw[ho oe,if_neg U])
def yY(a c:List Nat):binop .eql (.s a) (.s c)=some (.b (decide (a=c))):=by
 show some (AV.b (eqL a c))=_;rw[Hv]
def Vi{R:List bw}{aW:List Nat}(h:ib R aW∈R)(hn:(ib R aW).aW=aW):(R.find? λr=>decide (r.aW=aW))=some (ib R aW):=by
 unfold ib at h hn ⊢;cases hf:R.find? λr=>decide (r.aW=aW) with
 |none=>
  rw[hf] at h hn;exact absurd (decide_eq_true hn) (List.find?_eq_none.1 hf _ h)
 |some r=>rfl
def c3k(hfn:∀g aO r bR,K g aO r->K g aO bR->r=bR)(hh:a3 (b.aF K) MD Ly)(hA:a3 (b.aF K) GI C1)(b0:a3 (b.aF K) Dh C0)(xh:b.ext lJ=0/\b.pure lJ=true){T:List a7}{R:List bw}(G:hN T R)(nX:∀x∈T,K lJ [.aj (br x.f)] (.aj (h_ x.f))):
  ∀k,1<=k->k<=T.length->∀ {J:ad} {r bf oM:Nat},J.get r=some (.cells [.m (some bf),ck T])->J.get bf=some (.map (p2 0 R) oM)→
   bb (b.aF K) 0 (.f (.func MD) [] []) [aw r,ag k] J (λv τ=>∃w,v= .ok w/\o_ T R (λi=>J.next<=i/\i<τ.next) τ k w/\cM J τ):=λk=>by
 induction k using Nat.strongRecOn with
 |ind k aC=>
 intro oX c3l J r bf oM ak sP;refine W.m3 hh.e hh.p hh.f (by cbv) I I λz=>?_;have H:Has J [(r,[.m (some bf),ck T])]:=Has.nil.cons ak ay;have hlt:=G.lt;have D3:=ad.a9 ak;have lm:=ad.a9 sP;refine af ?_;generalize aS:J.next=q at *;refine W.b6 (c:=[.s [],.i .u8 0,.s [],.nilsl,.nilsl,ag 0,.nilsl,.nilsl]) H aS I I I λτ cy H bl=>?_;refine af ?_;have hx:T[k-1]? =some T[k-1]:=cp U;have kC:T[k-1]∈T:=bC _;have oI:=nX _ kC;have zv:=G.fd _ kC;have sN:=λh=>G.last oX hx h;have fj:=λh=>G.cs k _ oX hx h;have zG:=λh h'=>G.fR _ kC h h';have m4:=G.bK _ kC;have eH:∀i,gZ T R k i=cond ((ib R (T[k-1]).bH).cg.getD i j7).bN (as1 T ((T[k-1]).cs.getD i (0,0)).1 ((T[k-1]).bK+1)) []:=λi=>by unfold gZ;rw[hx]
 generalize T[k-1]=x at *;refine W.kk (c:=x.A.cells) H cy I I I I I I λa5 c6 H bj=>?_;have IA:∀i o,J.get i=some o->a5.get i=some o:=λi o h=>bj _ _ (bl _ _ h);have Vj:∀J,bt J (b.bh+1000) (.aj (br x.f))=some (.aj (br x.f)):=λJ=>by
  have:=Fm.snap J true _ x.f (b.bh+1000) (a8 _) U;rwa[j4] at this
 cases hyp:x.hyp with
 |true=>
  refine af ?_;refine W.mX (by rw[<-hyp];rfl) ?_;refine af ?_;refine W.et hfn xh oI I I I (mS (Vj _)) ?_;refine af ?_;refine W.st (bc:=ff false [] x.f k .nilsl .nilsl) H 1 I I I I I I λbu dx H k3=>?_;refine af ?_;exact ah.ret ⟨rfl,_,qC (gl I (H.x7) I),_,rfl,.hyp hx hyp,U,λi o h=>k3 _ _ (by have:=ad.a9 h;omega) (IA _ _ h)⟩
 |false=>
  refine af ?_;refine W.oL (by rw[<-hyp];rfl) ?_;refine af ?_;refine W.bin I I I I (yY _ _) ?_;by_cases tY:x.bH=ep
  ·rw[decide_eq_true tY];obtain⟨c,l,aM,aU,dU,fr,gK⟩:=sN hyp;refine af ?_;rw[aM];refine af ?_;refine W.bS I I I (aC c.2 gK U U (IA _ _ ak) (IA _ _ sP)) λv bu ⟨w,e,ix,ey⟩=>⟨_,e,?_⟩
   have H:=H.aD ey.2;have rf:=ey.1;obtain⟨aW,F,dT,s,m,rfl⟩:=ix.aj;refine W.st (bc:=ff false aW F dT s m) H 1 I I I I I I λb3 eC H bI=>?_;refine af ?_;refine ah.ret ⟨rfl,_,qC (gl I (H.x7) I),_,rfl,.again hx hyp tY ?_,U,λi o h=>bI _ _ (by have:=ad.a9 h;omega) (ey.2 _ _ (IA _ _ h))⟩;rw[aU];exact ix.aD (λi o hi ho=>bI _ _ U ho) λi hi=>by omega
  ·rw[decide_eq_false tY];obtain⟨aY,eD,mh⟩:=fj hyp;obtain⟨D4,sQ,c3m,_,_⟩:=zG hyp tY;refine af ?_;refine W.jK H I I I (.head _) I (Snp.eqb _ _ Vj) ?_;refine af ?_;refine W.b6 (c:=[.s [],.i .u8 0,.s [],.nilsl,.nilsl,ag 0,.nilsl,.nilsl]) H c6 I I I λbu dx H k3=>?_;refine af ?_;refine W.et hfn xh oI I I I (mS (Vj _)) ?_;refine af ?_;refine W.st (bc:=ff false x.bH x.f 0 .nilsl .nilsl) H 0 I I I I I I λb3 eC H bI=>?_;refine af ?_;show bo _ _ _ _ _ _ _ _;have mB:∀i o,J.get i=some o->b3.get i=some o:=λi o h=>bI _ _ (by have:=ad.a9 h;omega) (k3 _ _ (IA _ _ h));have h0:=H.qx;have bT:=H.x7;have aH:=H.Ag;refine ah.each x.cs.length (λj f ax=>∃(X:Nat->Prop) (w m:AV) (xs ms:List AV),ax.get (q+2)=some (.cells (ff false x.bH x.f 0 w m))/\Sl ax (some 8) w xs/\xs.length=j/\Sl ax none m ms/\ms.length=j/\(∀o,w.at? =some o->q+2<o/\¬X o/\m.at? ≠some o)/\(∀o,m.at? =some o->q+2<o/\¬X o)/\(∀o,X o->q+2<o/\o<ax.next)/\(∀i (h:i<xs.length) (h':i<x.cs.length),o_ T R X ax (x.cs[i]).2 xs[i])/\(∀i (h:i<ms.length),o9 X ax ms[i] (gZ T R k i))/\q+3<=ax.next/\(∀i o,i<q+2->b3.get i=some o->ax.get i=some o)/\sat [(0,aw r),(4,aw q),(5,aw (q+1)),(6,aw (q+2)),(42,l6 true x.cs)] f) U ⟨λ_=>False,.nilsl,.nilsl,[],[],h0,.nil,rfl,.nil,rfl,(λ_ h=>by cases h),(λ_ h=>by cases h),(λ_ h=>h.elim),(λ_ h=>by cases h),(λ_ h=>by cases h),U,λ_ _ _ h=>h,dm⟩ I I (λj g ax aA aL hi hm=>?_) (λg ax aL hi=>?_)
   ·obtain⟨X,w,m,xs,ms,an,hw,gS,oz,kZ,pS,tQ,cw,ix,Vk,jj,jz,cm,cf,c9,gR,a3U,_⟩:=aL;refine ah.norm [(0,aw r),(4,aw q),(5,aw (q+1)),(6,aw (q+2)),(42,l6 true x.cs),(44,ag j),(43,ag x.cs.length)] ⟨cm,cf,c9,gR,a3U,hi,hm,trivial⟩ λg=>?_;have H:Has ax [(q+2,ff false x.bH x.f 0 w m),(q+1,x.A.cells),(r,[.m (some bf),ck T])]:=((Has.nil.cons (jz _ _ U (mB _ _ ak)) ay).cons (jz _ _ U bT) (by simp;omega)).cons an (by simp;omega);have N_:=jz _ _ U (mB _ _ sP);obtain⟨dU,fr,gK⟩:=mh _ (bC aA);have D5:=eH j;rw[show x.cs.getD j (0,0)=x.cs[j] from jA aA,show(ib R x.bH).cg.getD j j7=(ib R x.bH).cg[j]'U from jA U] at D5;refine af ?_;generalize e6:x.cs[j]=dd at *;obtain⟨a,c⟩:=dd;simp only[] at dU fr gK D5;refine W.b6 H I I I I λfu mr H ca=>?_;refine af ?_;refine W.st (bc:=[ag a,ag c]) H 0 I I I I I I λfG ly H fP=>?_;have yZ:∀i o,ax.get i=some o->fG.get i=some o:=λi o h=>fP _ _ (by have:=ad.a9 h;omega) (ca _ _ h);generalize Vl:ax.next=rB at *;refine af ?_;refine W.n2 (r:=some (ib R x.bH).A) (yZ _ _ N_) I I I I I (by rw[Vf,Vi D4 sQ];rfl) ?_;refine af ?_;refine W.bS I I I (a2f b0 ((ib R x.bH).cg[j]'U)) λv gD ⟨e,tT⟩=>⟨_,e,?_⟩
    have H:=H.aD tT.2;have oM:=tT.1;have Bn:=H.CX;refine W.CV ?_;refine W.u6 (α:=AV) (λv=>[(0,aw r),(4,aw q),(5,aw (q+1)),(6,aw (q+2)),(7,ag j),(8,aw rB),(9,v),(42,l6 true x.cs),(43,ag x.cs.length),(44,ag j)]) (λv τ=>o9 (λi=>rB<i/\i<τ.next) τ v (gZ T R k j)/\cM gD τ) ?_ ?_
    ·rw[D5];generalize(ib R x.bH).cg[j]'U=pm;cases fY:pm.bN with
     |true=>
      refine W.mX (by rw[<-fY];rfl) ?_;refine af ?_;refine W.bS I I I (c3j hA G Bn a c (x.bK+1) dU fr U U U) λv h9 ⟨a3V,e,T_,jv⟩=>⟨_,e,?_⟩
      refine af ?_;exact⟨rfl,a3V,⟨T_.aD (λ_ _ _ h=>h) λi hi=>by omega,jv⟩,dm⟩
     |false=>
      refine W.oL (by rw[<-fY];rfl) ?_;refine af ?_;exact⟨rfl,.nilsl,⟨⟨.nil,λ_=>rfl,λ_ h=>by cases h⟩,a8 _,λ_ _ h=>h⟩,dm⟩
    ·intro D6 g h9 ⟨IB,jv⟩;have H:=H.aD jv.2;have cb:=jv.1;have Bo:∀i o,ax.get i=some o->h9.get i=some o:=λi o h=>jv.2 _ _ (tT.2 _ _ (yZ _ _ h));refine af ?_;refine W.jK H I I I (.tail _ (.head _)) I (eo hw.lf) ?_;refine af ?_;refine W.bS I I I (aC c gK U U (jv.2 _ _ Bn) (Bo _ _ N_)) λv g8 ⟨wt,e,a3W,vs⟩=>⟨_,e,?_⟩
     have H:=H.aD vs.2;have c2i:=vs.1;obtain⟨aW,F,dT,iV,aP,rfl⟩:=a3W.aj;refine af ?_;refine W.bV (c:=ff false aW F dT iV aP) H I I I I λn7 hD H mv=>?_;have g4:=H.qx;have D7:∀i o,ax.get i=some o->n7.get i=some o:=λi o h=>mv _ _ (vs.2 _ _ (Bo _ _ h));refine af ?_;refine W.ap (w:=.ao g8.next 0 1 (some 8) (some 1)) (.aj (ff false aW F dT iV aP)) [] (hw.aD λi o _=>D7 i o) (by show(match n7.get g8.next with|some (.cells c)=>elems (some 8) 1 (c.drop 0)|_=>none)=_;rw[g4];rfl) (λz a_=>by rw[cA.1 a_];rfl) (by show(3*(xs.length+1)+2000)*144<=_;omega) I I I I λir AQ kA nz _ Nb pU=>?_;have Iz:∀o,w.at? =some o->q+2<o/\o<ax.next:=λo ho=>⟨(pS o ho).1,hw.lt ho⟩
     have D8:∀o,m.at? =some o->q+2<o/\o<ax.next:=λo ho=>⟨(tQ o ho).1,oz.lt ho⟩
     have H:Has AQ [(q+2,ff false x.bH x.f 0 w m)]:=Has.nil.cons (pU _ _ (λe=>by have:=Iz _ e;omega) (D7 _ _ an)) ay;refine af ?_;refine W.st (bc:=ff false x.bH x.f 0 ir m) H 0 I I I I kA.jm (by rw[kA.j3];rfl) λNK c3n H qW=>?_;refine af ?_;have d1I:o9 (λi=>rB<i/\i<h9.next) NK D6 (gZ T R k j):=IB.aD (λi o hi ho=>qW _ _ U (pU _ _ (λe=>by have:=Iz _ e;omega) (mv _ _ (vs.2 _ _ ho)))) λ_ h=>h;have c3o:Sl NK none m ms:=oz.aD λi o hi ho=>qW _ _ (by have:=D8 _ hi;omega) (pU _ _ (λe=>(pS i e).2.2 hi) (D7 _ _ ho));refine W.pu D6 c3o I I I (S7 I IB.ao.j3 IB.ao.G5) I IB.ao.jm I I I U λji NM mw kS _ fx Vm=>?_;have H:Has NM [(q+2,ff false x.bH x.f 0 ir m)]:=Has.nil.cons (Vm _ _ (λe=>by have:=D8 _ e;omega) (H.qx)) ay;refine af ?_;refine W.st (bc:=ff false x.bH x.f 0 ir ji) H 0 I I I I mw.jm (by rw[mw.j3];rfl) λw5 c2j H DR=>?_;refine af ?_;have IC:∀i o,i≠q+2->w.at? ≠some i->m.at? ≠some i->n7.get i=some o->w5.get i=some o:=λi o h1 h2 h3 h=>DR _ _ h1 (Vm _ _ h3 (qW _ _ h1 (pU _ _ h2 h)));have a3X:∀i,X i->i≠q+2/\w.at? ≠some i/\m.at? ≠some i:=λi hi=>⟨by have:=cw i hi;omega,λe=>(pS i e).2.1 hi,λe=>(tQ i e).2 hi⟩
     have a3Y:∀i,ax.next<=i->i≠q+2/\w.at? ≠some i/\m.at? ≠some i:=λi hi=>⟨U,λe=>by have:=Iz _ e;omega,λe=>by have:=D8 _ e;omega⟩
     refine⟨rfl,rfl,λi=>X i\/rB<i/\i<g8.next,ir,ji,xs++[.aj (ff false aW F dT iV aP)],ms++[D6],H.qx,kA.aD λi o hi ho=>?_,by rw[c5,gS];rfl,mw.aD λi o hi ho=>DR _ _ (by rw[kS] at hi;cases hi;omega) ho,by rw[c5,kZ];rfl,λo ho=>?_,λo ho=>?_,λo ho=>?_,λi h h'=>?_,λi h=>?_,U,λi o hi ho=>IC _ _ U (λe=>by have:=Iz _ e;omega) (λe=>by have:=D8 _ e;omega) (D7 _ _ (jz _ _ hi ho)),dm⟩
     ·rw[nz] at hi;cases hi;exact DR _ _ U (Vm _ _ (λe=>by have:=D8 _ e;omega) (qW _ _ U ho))
     ·rw[nz] at ho;cases ho;exact⟨U,λh=>by rcases h with h|h;(have:=cw _ h;omega);omega,λe=>by rw[kS] at e;have:=kr e;omega⟩
     ·rw[kS] at ho;cases ho;exact⟨U,λh=>by rcases h with h|h;(have:=cw _ h;omega);omega⟩
     ·rcases ho with h|h
      ·have:=cw _ h;omega
      ·omega
     ·rw[c5,Nr] at h;by_cases ot:i<xs.length
      ·rw[iC ot];exact(ix i ot h').aD (λo c ho hg=>by obtain⟨aQ,aZ,bX⟩:=a3X o ho;exact IC _ _ aQ aZ bX (D7 _ _ hg)) λo ho=>.inl ho
      ·obtain rfl:i=xs.length:=by omega
       rw[oP I];have c3p:=a3W.aD (τ:=w5) (W':=λi=>X i\/rB<i/\i<g8.next) (λo c ho hg=>by obtain⟨aQ,aZ,bX⟩:=a3Y o U;exact IC _ _ aQ aZ bX (mv _ _ hg)) λo ho=>.inr U;rw[show x.cs[xs.length]'h'=(a,c) from by simp only[gS];exact e6];exact c3p
     ·rw[c5,Nr] at h;by_cases ot:i<ms.length
      ·rw[iC ot];exact(Vk i ot).aD (λo c ho hg=>by obtain⟨aQ,aZ,bX⟩:=a3X o ho;exact IC _ _ aQ aZ bX (D7 _ _ hg)) λo ho=>.inl ho
      ·obtain rfl:i=ms.length:=by omega
       rw[oP I];rw[kZ];exact IB.aD (λo c ho hg=>by obtain⟨aQ,aZ,bX⟩:=a3Y o U;exact IC _ _ aQ aZ bX (mv _ _ (vs.2 _ _ hg))) λo ho=>.inr ⟨ho.1,U⟩
   ·obtain⟨X,w,m,xs,ms,an,hw,gS,oz,kZ,pS,tQ,cw,ix,Vk,jj,jz,cm,cf,c9,gR,a3U,_⟩:=aL;show bo _ _ _ _ _ _ _ _;refine ah.norm [(4,aw q),(6,aw (q+2))] ⟨cf,gR,trivial⟩ λg=>?_;have H:Has ax [(q,[.s [],.i .u8 0,.s [],.nilsl,.nilsl,ag 0,.nilsl,.nilsl]),(q+2,ff false x.bH x.f 0 w m)]:=(Has.nil.cons an ay).cons (jz _ _ U aH) ay;refine af ?_;refine W.st (bc:=ff false x.bH x.f 0 w m) H 0 I I I I I I λjO c2o H cG=>?_;refine af ?_;refine ah.ret ⟨rfl,_,qC (gl I (H.qx) I),_,rfl,.node w m xs ms hx hyp tY (hw.aD λi o hi ho=>cG _ _ (by have:=(pS i hi).1;omega) ho) gS (oz.aD λi o hi ho=>cG _ _ (by have:=(tQ i hi).1;omega) ho) kZ (λo ho=>?_) (λi h h'=>(ix i h h').aD (λo c ho hg=>cG _ _ (by have:=cw o ho;omega) hg) λo ho=>by have:=cw o ho;omega) λi h=>(Vk i h).aD (λo c ho hg=>cG _ _ (by have:=cw o ho;omega) hg) λo ho=>by have:=cw o ho;omega,U,λi o h=>cG _ _ (by have:=ad.a9 h;omega) (jz _ _ (by have:=ad.a9 h;omega) (mB _ _ h))⟩;rcases ho with ho|ho
    ·have:=(pS o ho).1;have:=hw.lt ho;omega
    ·have:=(tQ o ho).1;have:=oz.lt ho;omega
end
def msr(T:List a7)(f0:Nat)(dX:Nat->Nat->Nat)(k:Nat):Nat:=
 match T[k-1]? with
 |none=>0
 |some x=>if x.bH=ep then(if _h:jC x<k then msr T f0 dX (jC x) else 0) else x.cs.foldl (λa c=>dX a (if _h:c.2<k then msr T f0 dX c.2 else 0)) f0
termination_by k
def a3Z{α β:Type}{f g:α->β->α}:∀ {l:List β} {a:α},(∀a,∀x∈l,f a x=g a x)->l.foldl f a=l.foldl g a
 |[],_,_=>rfl
 |x::l,a,h=>by rw[BV,BV,h a x k1,a3Z λa y hy=>h a y (g1 _ hy)]
structure ID(T:List a7):Prop where
 lt:T.length<2^20
 cs:∀k x,1<=k->T[k-1]? =some x->(x.bH=ep->x.cs≠[])/\x.cs.length<2^20/\∀c∈x.cs,1<=c.1/\c.1<=c.2/\c.2<k
section
variable {T:List a7}(G:ID T){k f0:Nat}{dX:Nat->Nat->Nat}{x:a7}
include G
theorem ID.last(h1:1<=k)(hx:T[k-1]? =some x)(ak:x.bH=ep):∃c l,x.cs=c::l/\jC x=c.2/\1<=c.1/\c.1<=c.2/\c.2<k:=by
 obtain⟨a,_,c⟩:=G.cs k x h1 hx;cases aa:x.cs with
 |nil=>exact absurd aa (a ak)
 |cons y l=>exact⟨y,l,rfl,by unfold jC;rw[aa];rfl,c y (by rw[aa];exact k1)⟩
theorem Oa(h1:1<=k)(hx:T[k-1]? =some x)(ak:x.bH=ep):msr T f0 dX k=msr T f0 dX (jC x):=by
 obtain⟨c,l,_,e,_,_,h3⟩:=G.last h1 hx ak;rw[msr,hx];simp only[ak,if_true];rw[dif_pos U]
theorem IE(h1:1<=k)(hx:T[k-1]? =some x)(ak:x.bH≠ep):msr T f0 dX k=x.cs.foldl (λa c=>dX a (msr T f0 dX c.2)) f0:=by
 have aa:=(G.cs k x h1 hx).2.2;rw[msr,hx];simp only[];rw[if_neg ak];exact a3Z λa c je=>by rw[dif_pos (aa c je).2.2]
theorem a4a(g:Nat->Nat)(h0:∀k,f0<=g k)(hm:∀i j,i<=j->g i<=g j)(al:∀i k a,i<k->a<=g k->dX a (g i)<=g k)(tQ:∀a v w,v<=w->dX a v<=dX a w):∀k,1<=k->k<=T.length->msr T f0 dX k<=g k:=λk=>by
 induction k using Nat.strongRecOn with
 |ind k aC=>
  intro h1 h2;have hx:T[k-1]? =some T[k-1]:=cp U;by_cases ak:(T[k-1]).bH=ep
  ·obtain⟨c,l,_,e,aQ,aZ,bX⟩:=G.last h1 hx ak;rw[Oa G h1 hx ak,e];exact p5 (aC _ bX U U) (hm _ _ U)
  ·have aa:=(G.cs k _ h1 hx).2.2;rw[IE G h1 hx ak];generalize(T[k-1]).cs=l at aa;have:∀a,a<=g k->l.foldl (λa c=>dX a (msr T f0 dX c.2)) a<=g k:=by
    induction l with
    |nil=>exact λa h=>h
    |cons y l g_=>
     intro a h;obtain⟨dU,fr,gK⟩:=aa y k1;exact g_ (λc h=>aa c (g1 _ h)) _ (p5 (tQ _ _ _ (aC y.2 gK U U)) (al _ _ _ gK h))
   exact this _ (h0 k)
end
abbrev iZ(a v:Nat):Nat:=min (a+v) 301
abbrev fo(a v:Nat):Nat:=max a (v+1)
def arr(T:List a7)(f0:Nat)(dX:Nat->Nat->Nat)(i:Nat):List Nat:=(List.range (T.length+1)).map λj=>if 1<=j/\j<=i then msr T f0 dX j else 0
def vv{T:List a7}{f0:Nat}{dX:Nat->Nat->Nat}{i:Nat}:(arr T f0 dX i).length=T.length+1:=by unfold arr;simp
def Ob{T:List a7}{f0:Nat}{dX:Nat->Nat->Nat}{i v:Nat}(h:v=msr T f0 dX (i+1)):(arr T f0 dX i).set (i+1) v=arr T f0 dX (i+1):=by
 subst h;apply xr
 ·rw[lr,vv,vv]
 ·intro j h1 h2;simp only[arr,s0,ez,pg];by_cases h3:i+1=j
  ·subst h3;rw[if_pos I,if_pos U]
  ·rw[if_neg h3];by_cases aH:1<=j/\j<=i
   ·rw[if_pos aH,if_pos U]
   ·rw[if_neg aH,if_neg U]
def Vn{T:List a7}{f0:Nat}{dX:Nat->Nat->Nat}{i j v:Nat}(h1:1<=j)(h2:j<=i)(h3:j<((arr T f0 dX i).set (i+1) v).length):((arr T f0 dX i).set (i+1) v)[j]=msr T f0 dX j:=by
 simp only[arr,s0,ez,pg];rw[if_neg U,if_pos ⟨h1,h2⟩]
def Vo{T:List a7}{f0:Nat}{dX:Nat->Nat->Nat}{i j:Nat}(h1:1<=j)(h2:j<=i)(h3:j<(arr T f0 dX i).length):(arr T f0 dX i)[j]=msr T f0 dX j:=by
 simp only[arr,ez,pg];rw[if_pos ⟨h1,h2⟩]
def c3q{T:List a7}{f0:Nat}{dX:Nat->Nat->Nat}{i:Nat}(h:i<T.length):(arr T f0 dX i).set (i+1) 0=arr T f0 dX i:=by
 have h2:i+1<(arr T f0 dX i).length:=by rw[vv];omega
 have e:(arr T f0 dX i)[i+1]=0:=by
  simp only[arr,ez,pg];rw[if_neg U]
 conv=>lhs;rw[<-e]
 exact List.set_getElem_self h2
def IF{l:List Nat}{n v:Nat}(h:n<l.length):storeCells (l.map ag) (0+n*shN none) (ag v).cells=some ((l.set n v).map ag):=by
 have e:0+n*shN none=n:=by show 0+n*1=n;omega
 rw[e];unfold storeCells;rw[if_pos (kE (by show n+1<=_;rw[bB];omega))];show some ((l.map ag).take n++([ag v]++(l.map ag).drop (n+1)))=_;rw[ML,if_pos h];simp
def y0{l:List Nat}{n:Nat}(h:n<l.length):dE none ((l.map ag).drop (0+n*shN none))=some (ag l[n]):=by
 have e:0+n*shN none=n:=by show 0+n*1=n;omega
 rw[e,← Pz,Av h];rfl
def W.c3r{cb:jv}{env:Env}{aK:Option Nat}{D:List (Nat ⊕ (AV×List AV))}{n:Nat}{F:List (Nat×AV)}{z:Nat->AV}{J:ad}{Q:dO}{d:Nat}{x y:aJ}{g:Option (Nat×Bool)}{ops:List a2}{a c:Nat}(hd:Nat.blt d n=true)(hw:wtL g n F=true)(h1:cL env n F z x=some (ag a))(h2:cL env n F z y=some (ag c))(h:bM cb env aK D n ops (bs ((d,ag (min a c))::F) z) J Q):bM cb env aK D n (⟨some d,.BZ false x y,g,[]⟩::ops) (bs F z) J Q:=by
 refine W.val (v:=ag (min a c)) (ai:=J) hd hw ?_ h;show(match cL env n F z x,cL env n F z y with|some (.i k a),some (.i l b)=>if k=l then some (bO.val (.i k (if b<a then b else a)) J) else none|_,_=>none)=_;rw[h1,h2];show(if IntKind.i64=IntKind.i64 then some (bO.val (.i .i64 (if(c:Int)<(a:Int) then(c:Int) else(a:Int))) J) else none)=_;rw[if_pos I];have:(if(c:Int)<(a:Int) then(c:Int) else(a:Int))=((min a c:Nat):Int):=by split<;>omega
 rw[this];rfl
def W.c3s{cb:jv}{env:Env}{aK:Option Nat}{D:List (Nat ⊕ (AV×List AV))}{n:Nat}{F:List (Nat×AV)}{z:Nat->AV}{J:ad}{Q:dO}{d:Nat}{x y:aJ}{g:Option (Nat×Bool)}{ops:List a2}{a c:Nat}(hd:Nat.blt d n=true)(hw:wtL g n F=true)(h1:cL env n F z x=some (ag a))(h2:cL env n F z y=some (ag c))(h:bM cb env aK D n ops (bs ((d,ag (max a c))::F) z) J Q):bM cb env aK D n (⟨some d,.BZ true x y,g,[]⟩::ops) (bs F z) J Q:=by
 refine W.val (v:=ag (max a c)) (ai:=J) hd hw ?_ h;show(match cL env n F z x,cL env n F z y with|some (.i k a),some (.i l b)=>if k=l then some (bO.val (.i k (if b > a then b else a)) J) else none|_,_=>none)=_;rw[h1,h2];show(if IntKind.i64=IntKind.i64 then some (bO.val (.i .i64 (if(c:Int) > (a:Int) then(c:Int) else(a:Int))) J) else none)=_;rw[if_pos I];have:(if(c:Int) > (a:Int) then(c:Int) else(a:Int))=((max a c:Nat):Int):=by split<;>omega
 rw[this];rfl
def nG(T:List a7):Bool:=decide (msr T 1 iZ T.length<=300)&&decide (msr T 0 fo T.length<=40)
section
variable {b:bJ}{K:Nat->List AV->AV->Prop}
def c3t(hh:a3 (b.aF K) MC Lx){T:List a7}(G:ID T)(aY:1<=T.length){J:ad}{r:Nat}{g9:AV}(ak:J.get r=some (.cells [g9,ck T])):
  bb (b.aF K) 0 (.f (.func MC) [] []) [aw r] J (λv τ=>v= .ok (.b (nG T))/\cM J τ):=by
 refine W.code hh.e hh.p hh.f (by cbv) I I I λz=>?_;have H:Has J [(r,[g9,ck T])]:=Has.nil.cons ak ay;have hlt:=G.lt;have D3:=ad.a9 ak;have sle:∀k,1<=k->k<=T.length->msr T 1 iZ k<=301:=a4a G (λ_=>301) U U (λi k a _ h=>by show min _ _<=_;omega) (λa v w h=>by show min _ _<=min _ _;omega);have a4b:∀k,1<=k->k<=T.length->msr T 0 fo k<=k:=a4a G (λk=>k) U U (λi k a h h2=>by show max _ _<=_;omega) (λa v w h=>by show max _ _<=max _ _;omega);refine af ?_;generalize aS:J.next=q at *;refine W.mk H aS U U I I I I λτ cy H bl=>?_;refine af ?_;refine W.mk H cy U U I I I I λa5 c6 H bj=>?_;refine af ?_;have nS:∀f0 dX,List.replicate (T.length+1) (ag 0)=(arr T f0 dX 0).map ag:=λf0 dX=>by
  unfold arr;rw[kq];refine(List.eq_replicate_iff.2 ⟨ay,λx hx=>?_⟩).symm;obtain⟨j,_,rfl⟩:=cT.1 hx;show ag (if 1<=j/\j<=0 then _ else 0)=_;rw[if_neg U]
 show bo _ _ _ _ _ _ _ _;refine ah.each T.length (λi f ax=>ax.get q=some (.cells ((arr T 1 iZ i).map ag))/\ax.get (q+1)=some (.cells ((arr T 0 fo i).map ag))/\q+2<=ax.next/\(∀i o,i<q->J.get i=some o->ax.get i=some o)/\sat [(0,aw r),(3,.ao q 0 (T.length+1) none (some (T.length+1))),(4,.ao (q+1) 0 (T.length+1) none (some (T.length+1))),(27,ck T)] f) U ⟨by rw[<-nS];exact H.x7,by rw[<-nS];exact H.qx,U,λi o hi ho=>bj _ _ (bl _ _ ho),dm⟩ I I (λi g ax hi aL fF fi=>?_) (λg ax aL hi=>?_)
 ·obtain⟨al,hd,jj,jz,cm,bY,cf,y1,_⟩:=aL;refine ah.norm [(0,aw r),(3,.ao q 0 (T.length+1) none (some (T.length+1))),(4,.ao (q+1) 0 (T.length+1) none (some (T.length+1))),(27,ck T),(29,ag i),(28,ag T.length)] ⟨cm,bY,cf,y1,fF,fi,trivial⟩ λg=>?_;have H:Has ax [(q+1,(arr T 0 fo i).map ag),(q,(arr T 1 iZ i).map ag)]:=(Has.nil.cons al ay).cons hd ay;have hx:T[i+1-1]? =some T[i]:=cp hi;have fj:=G.cs (i+1) _ U hx;have H3:=λh=>G.last U hx h;have a4c:=λf0 dX=>Oa G (f0:=f0) (dX:=dX) U hx;have sQ:=λf0 dX=>IE G (f0:=f0) (dX:=dX) U hx;refine af ?_;generalize T[i]=x at *;refine W.b6 (c:=[ag 0,ag 0,.b false,.i .u8 0,.s [],.nilsl,.nilsl,.s [],.nilsl]) H I I I I λfu mr H ca=>?_;refine af ?_;refine W.st (bc:=x.A.cells) H 0 I I I I I I λfG ly H fP=>?_;have yZ:∀i o,ax.get i=some o->fG.get i=some o:=λi o h=>fP _ _ (by have:=ad.a9 h;omega) (ca _ _ h);generalize Ir:ax.next=vx at *;refine af ?_;refine W.eg I I I I (jl U) ?_;refine W.st (bc:=((arr T 1 iZ i).set (i+1) 1).map ag) H 2 I I I I I (IF (by rw[vv];omega)) λgD pv H jg=>?_;refine af ?_;refine W.bin I I I I (yY _ _) ?_;have nC:∀v,((arr T 1 iZ i).set (i+1) v).length=T.length+1:=λv=>by rw[lr,vv]
  have Oc:∀v,((arr T 0 fo i).set (i+1) v).length=T.length+1:=λv=>by rw[lr,vv]
  by_cases kx:x.bH=ep
  ·rw[decide_eq_true kx];obtain⟨c,l,aM,aU,dU,fr,gK⟩:=H3 kx;refine af ?_;rw[aM];refine af ?_;refine W.eg I I I I (jl U) ?_;refine W.cK H I I I (.tail _ (.tail _ (.head _))) (y0 (by rw[nC];omega)) ?_;rw[Vn U U];refine af ?_;refine W.eg I I I I (jl U) ?_;refine W.cK H I I I (.tail _ (.head _)) (y0 (by rw[vv];omega)) ?_;rw[Vo U U];refine W.eg I I I I (jl U) ?_;refine W.st (bc:=(((arr T 1 iZ i).set (i+1) 1).set (i+1) (msr T 1 iZ c.2)).map ag) H 2 I I I I I (IF (by rw[nC];omega)) λh9 dc H c_=>?_;refine W.eg I I I I (jl U) ?_;refine W.st (bc:=((arr T 0 fo i).set (i+1) (msr T 0 fo c.2)).map ag) H 1 I I I I I (IF (by rw[vv];omega)) λg8 ne H j6=>?_;refine af ?_;refine ah.exit ?_;have oC:=H.Ag;have iT:=H.x7;rw[T7,Ob (by rw[a4c 1 iZ kx,aU])] at oC;rw[Ob (by rw[a4c 0 fo kx,aU])] at iT;refine af ?_;exact⟨rfl,rfl,oC,iT,U,λi o hi ho=>j6 _ _ U (c_ _ _ U (jg _ _ U (yZ _ _ (jz _ _ hi ho)))),dm⟩
  ·rw[decide_eq_false kx];refine af ?_;show bo _ _ _ _ _ _ _ _;have SX:=H.Ag;have yS:=H.x7;have lU:=fj.2.1;refine ah.each x.cs.length (λj f a5=>a5.get q=some (.cells (((arr T 1 iZ i).set (i+1) ((x.cs.take j).foldl (λa c=>iZ a (msr T 1 iZ c.2)) 1)).map ag))/\a5.get (q+1)=some (.cells (((arr T 0 fo i).set (i+1) ((x.cs.take j).foldl (λa c=>fo a (msr T 0 fo c.2)) 0)).map ag))/\q+2<=a5.next/\(∀i o,i<q->ax.get i=some o->a5.get i=some o)/\sat [(0,aw r),(3,.ao q 0 (T.length+1) none (some (T.length+1))),(4,.ao (q+1) 0 (T.length+1) none (some (T.length+1))),(5,ag i),(27,ck T),(28,ag T.length),(29,ag i),(63,l6 true x.cs)] f) U ⟨SX,by rw[show List.foldl (λa c=>fo a (msr T 0 fo c.2)) 0 (x.cs.take 0)=0 from rfl,c3q hi];exact yS,U,λi o hi ho=>jg _ _ U (yZ _ _ ho),dm⟩ I I (λj g a5 aA aL a4d fi=>?_) (λg a5 aL a4d=>?_)
   ·obtain⟨al,hd,D9,Vp,cm,bY,cf,c9,y1,Vq,Vr,c3u,_⟩:=aL;refine ah.norm [(0,aw r),(3,.ao q 0 (T.length+1) none (some (T.length+1))),(4,.ao (q+1) 0 (T.length+1) none (some (T.length+1))),(5,ag i),(27,ck T),(28,ag T.length),(29,ag i),(63,l6 true x.cs),(65,ag j),(64,ag x.cs.length)] ⟨cm,bY,cf,c9,y1,Vq,Vr,c3u,a4d,fi,trivial⟩ λg=>?_;have c3v:x.cs.take (j+1)=x.cs.take j++[x.cs[j]]:=jL aA;obtain⟨dU,fr,gK⟩:=fj.2.2 _ (bC aA);rw[c3v,T8,T8];have db:(x.cs.take j).foldl (λa c=>iZ a (msr T 1 iZ c.2)) 1<=301:=by
     generalize x.cs.take j=l;have:∀l:List (Nat×Nat),∀a,a<=301->l.foldl (λa c=>iZ a (msr T 1 iZ c.2)) a<=301:=λl=>by
      induction l with
      |nil=>exact λa h=>h
      |cons y l aC=>exact λa h=>aC _ (by show min _ _<=_;omega)
     exact this l 1 U
    have qK:(x.cs.take j).foldl (λa c=>fo a (msr T 0 fo c.2)) 0<=2^20:=by
     have eD:∀c∈x.cs.take j,1<=c.2/\c.2<=T.length:=λc aa=>by have:=fj.2.2 c (pe aa);omega
     generalize x.cs.take j=l at eD;have:∀l:List (Nat×Nat),(∀c∈l,1<=c.2/\c.2<=T.length)->∀a,a<=2^20->l.foldl (λa c=>fo a (msr T 0 fo c.2)) a<=2^20:=λl=>by
      induction l with
      |nil=>exact λ_ a h=>h
      |cons y l aC=>exact λaa a h=>aC (λc h=>aa c (g1 _ h)) _ (by have h1:=aa y k1;have:=a4b y.2 h1.1 h1.2;show max _ _<=_;omega)
     exact this l eD 0 U
    generalize(x.cs.take j).foldl (λa c=>iZ a (msr T 1 iZ c.2)) 1=Vs at *;generalize(x.cs.take j).foldl (λa c=>fo a (msr T 0 fo c.2)) 0=Vt at *;have H:Has a5 [(q+1,((arr T 0 fo i).set (i+1) Vt).map ag),(q,((arr T 1 iZ i).set (i+1) Vs).map ag)]:=(Has.nil.cons al ay).cons hd ay;refine af ?_;generalize x.cs[j]=dd at *;obtain⟨a,c⟩:=dd;simp only[] at dU fr gK;have jY:=sle c U U;have mR:=a4b c U U;refine W.kk (c:=[ag a,ag c]) H I I I I I I I λbu dx H k3=>?_;refine af ?_;refine W.eg I I I I (jl U) ?_;refine W.cK H I I I (.tail _ (.tail _ (.head _))) (y0 (by rw[nC];omega)) ?_;rw[a2H];refine af ?_;refine W.eg I I I I (jl U) ?_;refine W.cK H I I I (.tail _ (.tail _ (.head _))) (y0 (by rw[nC];omega)) ?_;rw[Vn U U];refine af ?_;refine W.c3r (c:=301) I I I I ?_;refine W.eg I I I I (jl U) ?_;refine W.st (bc:=(((arr T 1 iZ i).set (i+1) Vs).set (i+1) (min (Vs+msr T 1 iZ c) 301)).map ag) H 2 I I I I I (IF (by rw[nC];omega)) λb3 eC H bI=>?_;refine af ?_;refine W.eg I I I I (jl U) ?_;refine W.cK H I I I (.tail _ (.head _)) (y0 (by rw[Oc];omega)) ?_;rw[a2H];refine af ?_;refine W.eg I I I I (jl U) ?_;refine W.cK H I I I (.tail _ (.head _)) (y0 (by rw[Oc];omega)) ?_;rw[Vn U U];refine af ?_;refine W.c3s I I I I ?_;refine W.eg I I I I (jl U) ?_;refine W.st (bc:=(((arr T 0 fo i).set (i+1) Vt).set (i+1) (max Vt (msr T 0 fo c+1))).map ag) H 1 I I I I I (IF (by rw[Oc];omega)) λcW gw H cP=>?_;refine af ?_;refine⟨rfl,rfl,?_,?_,U,λi o hi ho=>cP _ _ U (bI _ _ U (k3 _ _ (Vp _ _ hi ho))),dm⟩
    ·have:=H.Ag;rwa[T7] at this
    ·have:=H.x7;rwa[T7] at this
   ·obtain⟨al,hd,D9,Vp,cm,bY,cf,c9,y1,Vq,Vr,_⟩:=aL;rw[jw,Ob (by rw[sQ 1 iZ kx])] at al;rw[jw,Ob (by rw[sQ 0 fo kx])] at hd;exact⟨Vr,Vq,al,hd,D9,λi o hi ho=>Vp _ _ hi (jz _ _ hi ho),cm,bY,cf,y1,trivial⟩
 ·obtain⟨al,hd,jj,jz,cm,bY,cf,_⟩:=aL;show bo _ _ _ _ _ _ _ _;refine ah.norm [(0,aw r),(3,.ao q 0 (T.length+1) none (some (T.length+1))),(4,.ao (q+1) 0 (T.length+1) none (some (T.length+1)))] ⟨cm,bY,cf,trivial⟩ λg=>?_;have H:Has ax [(r,[g9,ck T]),(q+1,(arr T 0 fo T.length).map ag),(q,(arr T 1 iZ T.length).map ag)]:=((Has.nil.cons al ay).cons hd ay).cons (jz _ _ D3 ak) (by simp;omega);refine af ?_;refine W.eg I I I I (jl U) ?_;refine W.cK H I I I (.tail _ (.tail _ (.head _))) (y0 (by rw[vv];omega)) ?_;rw[Vo aY (a8 _)];unfold nG;by_cases h1:msr T 1 iZ T.length<=300
  ·rw[decide_eq_true h1,pI];refine af ?_;refine W.eg I I I I (jl U) ?_;refine W.cK H I I I (.tail _ (.head _)) (y0 (by rw[vv];omega)) ?_;rw[Vo aY (a8 _)];refine W.R3 I I I I I ?_;refine af ?_;exact ah.ret ⟨rfl,rfl,U,λi o h=>jz _ _ (by have:=ad.a9 h;omega) h⟩
  ·rw[decide_eq_false h1];refine af ?_;exact ah.ret ⟨rfl,rfl,U,λi o h=>jz _ _ (by have:=ad.a9 h;omega) h⟩
end
end
def D_(a4 c_ ei ej au e:Nat):AV:=.bg [.aj [ag a4,uB c_,uB ei,ag ej,ag au],ag e]
def c3w(T:List a7)(r:AV):Prop:=∃a4 c_ ei ej au e,r=D_ a4 c_ ei ej au e/\(e=0\/e=180)/\∀ic x,T=ic++[x]->(x.bH=ep->(stF ic (x.cs.headD (0,0)).2=[]->e=0)/\(stF ic (x.cs.headD (0,0)).2≠[]->e=180/\a4=ic.length+1/\c_=5/\ei=0/\ej=0/\au=0))/\(x.bH≠ep->lK T (ea T) (ic.length+1) (x.cs.headD (0,0)).1 (x.cs.headD (0,0)).2=false->e=180)
section
attribute [local irreducible] bM bo da dy bb
def Vu(es:List (AV×AV×Nat))(bm:Nat)(key v:AV):Option (List (AV×AV×Nat))->AO
 |some dQ=>.map dQ bm
 |none=>.map (es++[(key,v,bm)]) (bm+1)
namespace W
section
variable {cb:jv}{env:Env}{aK:Option Nat}{D:List (Nat ⊕ (AV×List AV))}{n:Nat}{F:List (Nat×AV)}{z:Nat->AV}{J:ad}{Q:dO}{g:Option (Nat×Bool)}{ops:List a2}
def mu{ab:kc}{x y u:aJ}{bf bm:Nat}{key v:AV}{t:Bool}{es:List (AV×AV×Nat)}{r:Option (List (AV×AV×Nat))}(hm:J.get bf=some (.map es bm))(hw:wtL g n F=true)(h1:cL env n F z x=some (.m (some bf)))(h2:cL env n F z y=some key)(h3:cL env n F z u=some v)(aB:keyEq ab key key=some t)(hu:mF ab key v es=some r)
  (h:∀τ:ad,τ.next=J.next->τ.get bf=some (Vu es bm key v r)->(∀i o,i≠bf->J.get i=some o->τ.get i=some o)->bM cb env aK D n ops (bs F z) τ Q):bM cb env aK D n (⟨none,.xv ab x y u,g,[]⟩::ops) (bs F z) J Q:=by
 have al:=λbF=>hK (bF:=bF) hm;refine uR (v:=dF) (ai:=J.set bf (Vu es bm key v r)) hw ?_ (h _ I (al _).1 (al _).2);show(match cL env n F z x,cL env n F z y,cL env n F z u with
  |some (.m (some id)),some k,some v=>
   if Nat.blt id 0 then none else
   match J.get id with
   |some (.map es bm)=>match keyEq ab k k with
    |none=>none
    |some _=>match mF ab k v es with
    |some (some es)=>some (bO.val dF (J.set id (.map es bm)))
    |some none=>some (bO.val dF (J.set id (.map (es++[(k,v,bm)]) (bm+1))))
    |none=>none
   |_=>none
  |_,_,_=>none)=_
 rw[h1,h2,h3];show(if Nat.blt bf 0 then none else
   match J.get bf with
   |some (.map es bm)=>(match keyEq ab key key with
    |none=>none
    |some _=>match mF ab key v es with
    |some (some es)=>some (bO.val dF (J.set bf (.map es bm)))
    |some none=>some (bO.val dF (J.set bf (.map (es++[(key,v,bm)]) (bm+1))))
    |none=>none)
   |_=>none)=_
 rw[if_neg (by simp[Nat.blt,Nat.ble]),hm];simp only[aB,hu];cases r<;>rfl
def xg{L:List (Nat×List AV)}(H:Has J L){d k:Nat}(hn:J.next=k)(hd:Nat.blt d n=true)(hw:wtL g n F=true)
  (h:∀τ:ad,τ.next=k+1->Has τ L->τ.get k=some (.map [] 0)->(∀i o,J.get i=some o->τ.get i=some o)->bM cb env aK D n ops (bs ((d,.m (some k))::F) z) τ Q):bM cb env aK D n (⟨some d,.mkMap,g,[]⟩::ops) (bs F z) J Q:=by
 subst hn;have bA:∀i o,J.get i=some o->(J.push (.map [] 0)).get i=some o:=λi o ho=>by rw[ad.fX trivial _ (ad.a9 ho)];exact ho
 exact val (v:=.m (some J.next)) (ai:=J.push (.map [] 0)) hd hw I (h _ I (H.aD bA) (ad.js _) bA)
end
end W
abbrev rO:List AV:=[.s [],.i .u8 0,.s [],.nilsl,.nilsl,ag 0,.nilsl,.nilsl]
section
variable {b:bJ}{K:Nat->List AV->AV->Prop}(hfn:∀g aO r bR,K g aO r->K g aO bR->r=bR)
include hfn
theorem c3x(cl:a3 (b.aF K) MC Lx)(ix:a3 (b.aF K) MD Ly)(hA:a3 (b.aF K) GI C1)(b0:a3 (b.aF K) Dh C0)(xh:b.ext lJ=0/\b.pure lJ=true)(c3y:b.ext u1=0/\b.pure u1=true)(wZ:b.ext qz=0/\b.pure qz=true)
  {T:List a7} {R:List bw} (G:hN T R) (c3z:ID T) (aY:1<=T.length) (vi:R.length<2^20) (IG:∀i j (h:i<R.length) (h':j<R.length),i<j->R[i].aW≠R[j].aW) (nX:∀x∈T,K lJ [.aj (br x.f)] (.aj (h_ x.f))) {l:hz} (hR:l.rs=R.map bw.A) (nC:∀J,bt J (b.bh+1000) (l.A true)=some (l.A true)) (jo:∀J,bt J (b.bh+1000) (ck T)=some (ck T))
  {a4 c_ ei ej au:Nat} (sJ:K u1 [l.A true,ck T] (D_ a4 c_ ei ej au 0)) (c3A:nG T=true->K qz [tA T R true T.length] (.b true)) (body:b5) (tk:F6.body=some body):
  ah (b.aF K) F6.ntmps body (gy [l.A true,ck T]) ⟨.nil,0⟩ (Dx F6.results (cond (nG T) (.bg [tA T R false T.length,ag 0]) (.bg [.aj rO,ag 5]))):=by
 cbv at tk
 cases tk;refine W.m1 λz H=>?_;have hlt:=G.lt;refine af ?_;refine W.bN (c:=l.cells true) H I I I I I I λτ cy H bl=>?_;refine af ?_;refine W.b6 (c:=rO) H cy I I I λa5 c6 H bj=>?_;refine af ?_;refine W.et hfn c3y sJ I I I (mT (nC _) (jo _)) ?_;refine af ?_;refine W.kk (c:=[ag a4,uB c_,uB ei,ag ej,ag au]) H c6 I I I I I I λbu dx H k3=>?_;refine af ?_;refine W.xg H dx I I λb3 eC H hm bI=>?_;refine af ?_;refine W.bN (c:=[.m (some 3),ck T]) H eC I I I I I λcW gw H cP=>?_;have Bi:=cP _ _ hm;have Vv:(R.map bw.A).length=R.length:=bB _;refine af ?_;rw[show(cond true l.rs l.TA)=R.map bw.A from hR];have aq:∀J:ad,Vw J (some 6) (.aV true (some 6) (R.map bw.A)) (R.map bw.A):=λJ=>tl_vw λy hy=>by obtain⟨r,_,rfl⟩:=cT.1 hy;rfl
 rw[Vv];show bo _ _ _ _ _ _ _ _;refine ah.each R.length (λi f ax=>ax.get 3=some (.map (p2 0 (R.take i)) i)/\ax.get 4=some (.cells [.m (some 3),ck T])/\ax.get 1=some (.cells rO)/\5<=ax.next/\sat [(1,ck T),(4,aw 1),(8,aw 4),(27,.aV true (some 6) (R.map bw.A))] f) U ⟨Bi,H.qx,H.Ag,T6 gw.symm,dm⟩ I I (λi g ax hi aL fF fi=>?_) (λg ax aL fF=>?_)
 ·obtain⟨h3,aH,h1,jj,bx,cf,ga,y1,_⟩:=aL;refine ah.norm [(1,ck T),(4,aw 1),(8,aw 4),(27,.aV true (some 6) (R.map bw.A)),(29,ag i),(28,ag R.length)] ⟨bx,cf,ga,y1,fF,fi,trivial⟩ λg=>?_;have H:Has ax [(4,[.m (some 3),ck T])]:=Has.nil.cons aH ay;have sl:=aq ax;have aM:R.take (i+1)=R.take i++[R[i]]:=jL hi;have aU:(R.take i).length=i:=by rw[g6];omega
  have m5:∀r∈R.take i,r.aW≠(R[i]).aW:=λr ak=>by
   obtain⟨j,aA,rfl⟩:=iP ak;rw[sW];exact IG j i U hi U
  refine af ?_;rw[ez];generalize R[i]=hZ at *;refine W.kk (c:=hZ.A.cells) H I I I I I I I λfu mr H ca=>?_;refine af ?_;refine W.mu (key:=.s hZ.aW) (v:=hZ.A) (ca _ _ h3) I I I I (N9 _ _) (Vg hZ.aW _ _ 0 m5) λfG ly hb fP=>?_;refine af ?_;refine⟨rfl,rfl,?_,fP _ _ U (ca _ _ aH),fP _ _ U (ca _ _ h1),U,dm⟩;rw[aM,Vh,aU,nq];exact hb
 ·obtain⟨h3,aH,h1,jj,bx,cf,ga,y1,_⟩:=aL;rw[jw] at h3;show bo _ _ _ _ _ _ _ _;refine ah.norm [(1,ck T),(4,aw 1),(8,aw 4)] ⟨bx,cf,ga,trivial⟩ λg=>?_;have H:Has ax [(1,rO),(4,[.m (some 3),ck T])]:=(Has.nil.cons aH ay).cons h1 ay;refine af ?_;refine W.bS I I I (c3t cl c3z aY aH) λv fu ⟨e,Od⟩=>⟨_,e,?_⟩
  have H:=H.aD Od.2;have d1J:=Od.1;cases Vx:nG T with
  |false=>
   refine af ?_;refine W.st (bc:=rO) H 0 I I I I I I λfG ly H fP=>?_;refine af ?_;exact ah.ret ⟨rfl,_,jN (gl I (H.qx) I) (jn I),rfl⟩
  |true=>
   refine af ?_;refine W.bS I I I (c3k hfn ix hA b0 xh G nX T.length aY (a8 _) (Od.2 _ _ aH) (Od.2 _ _ h3)) λv fG ⟨w,e,a4e,a4f⟩=>⟨_,e,?_⟩
   have H:=H.aD a4f.2;have d1K:=a4f.1;obtain⟨aW,F,dT,s,m,rfl⟩:=a4e.aj;refine W.kk (c:=ff false aW F dT s m) H I I I I I I I λgD pv H jg=>?_;have a4g:=a4e.aD (τ:=gD) (λi o _=>jg i o) λ_ h=>h;refine af ?_;refine W.et hfn wZ (c3A Vx) I I I (mS (a4g.snap G aY _ U)) ?_;refine af ?_;refine W.st (bc:=ff false aW F dT s m) H 1 I I I I I I λh9 dc H c_=>?_;refine af ?_;refine ah.ret ⟨rfl,_,jN (gl I (H.x7) I) (jn I),?_⟩;have c3B:=a4g.aD (τ:=h9) (λi o hi=>c_ i o U) λ_ h=>h;rw[freeze_succ];show(match mapO (freeze h9 0 999) [.aj (ff false aW F dT s m),ag 0] with|none=>none|some l=>some (AV.bg l))=_;rw[mapO_cons,c3B.DC G aY 999 U];rfl
end
end
end Go.Lyc
end
