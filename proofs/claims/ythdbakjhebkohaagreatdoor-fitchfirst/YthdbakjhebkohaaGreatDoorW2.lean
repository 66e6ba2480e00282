/-
  What functions of the program compute: walks, part 2. No conditions: definitions and laws.
-/
import Derived.Test.YthdbakjhebkohaaGreatDoorW1
set_option linter.all false
noncomputable section
namespace Go.Lyc
set_option maxHeartbeats 0
variable [Tok][TokOk]
open Go.RowKit Go.Lyc.T
section
def VD(d:Nat)(rs:List (Nat×Option (Option Nat)))(r:AV):dS:=λx f af=>x= .ret/\af.get d=some .dN/\∃v,ra (af.set d .dead) f rs=some v/\freeze (af.set d .dead) 0 1000 v=some r
theorem b3F{P:Program}{b:b8}{K:Nat->List AV->AV->Prop}(hb:kH P b)(cM:Ak P b K){g:Nat}{fn:aI}{body:bF}{aW:List AV}{d:Nat}(r:AV)(hf:b.funcs.get g=some fn)(hF:fn.body=some body)
  (hn:(Nat.beq aW.length fn.jg&&Nat.ble aW.length fn.ntmps)=true) (hd:cr (λr=>Nat.blt r.1 fn.ntmps) fn.results=true) {ab:Nat} (ak:fe ab r=true) (hj:AV.eqb 1000 r r=true)
  (h:dk (b.aM K) [] [.inl d] fn.ntmps body (fR aW) ⟨.nil,0⟩ (VD d fn.results r)) (b6:Nat):SpecEntry P (b.env []) b6 g aW r:=by
 have hle:aW.length<=fn.ntmps:=by
  simp only[Bool.and_eq_true] at hn;exact Nat.le_of_ble_eq_true hn.2
 refine DK (env:=b.aM K) (m:=1000) (Nat.le_add_left _ _) ⟨λg b1 hg=>k5.vs hb.funcs g b1 hg⟩ (λb6 g aW r ao=>cM g aW r (DM ao) b6) hb.ext hb.xD hf hF hn ak ((h _ (sd hle)).mono λx ab af ⟨f,h1,h2,h3,v,aQ,bJ⟩=>?_) hj b6;subst h2;exact⟨.ok v,_,UQ h1 h3 hd aQ,_,rfl,bJ⟩
theorem dk.args{env:Env}{D kF:List (Nat ⊕ (AV×List AV))}{n:Nat}{c:bF}{s_:List AV}{J:ad}{Q:dS}(h:∀z,dk env D kF n c (bs (W.pO 0 s_) z) J Q):dk env D kF n c (fR s_) J Q:=by
 have jo:bs (W.pO 0 s_) (fR s_)=fR s_:=Ah (W.Ed _ 0 λj a e=>by show s_.getD (0+j) dB=a;rw[Nat.zero_add,List.getD_eq_getElem?_getD,e];rfl);have:=h (fR s_);rwa[jo] at this
theorem VE{J:ad}{cU:AV}{a b c d:Nat}(h:freeze J 0 998 cU=some cU):freeze J 0 1000 (.a6 [.ag [cU,.ae],o6 a b c,ah d])=some (.a6 [.ag [cU,.ae],o6 a b c,ah d]):=by
 have h1:freeze J 0 999 (.ag [cU,.ae])=some (.ag [cU,.ae]):=by
  rw[freeze_succ];show(match mapO (freeze J 0 998) [cU,.ae] with|none=>none|some l=>some (AV.ag l))=_;rw[mapO_cons,h];rfl
 rw[freeze_succ];show(match mapO (freeze J 0 999) [.ag [cU,.ae],o6 a b c,ah d] with|none=>none|some l=>some (AV.a6 l))=_;rw[mapO_cons,h1];rfl
attribute [local irreducible] b9 bO dj dY bu
structure VF(b:b8)(K:Nat->List AV->AV->Prop):Prop where
 mY:bk (b.aM K) E2 Kw
 VG:bk (b.aM K) AR Kx
 b3G:bk (b.aM K) tN Ky
 Bx:bk (b.aM K) tO Kz
 b3H:bk (b.aM K) mn E3
 L7:bk (b.aM K) tP KA
 aG:yy b K
 b3I:b.ext oP=0/\b.pure oP=true
 oj:b.ext tQ=0/\b.pure tQ=true
 b3J:b.ext kp=0/\b.pure kp=true
section
variable {b:b8}{K:Nat->List AV->AV->Prop}(hfn:∀g aW r cw,K g aW r->K g aW cw->r=cw)
include hfn
theorem b3K(hh:VF b K){r:dn}{F:Fm}{gs:List dF}(aa:FT r gs)(DA:gs.length<2^10)(Bt:∀g∈gs,g.hyps.length<2^10){cU:AV}{at_ e:Nat}(cP:L1 b r gs)(r1:∀J,bG J (b.bn+1000) r.A=some r.A)
  (ju:∀p∈my r F gs,p.1.dep<=200/\p.2.dep<=200) (fz:e≠0->at_<(Bs r gs).length) (b3:K oP [slA true (some 8) ((my r F gs).map lO),.ag [.ae,.ae]] (.a6 [.ag [cU,.ae],ah at_,ah e]))
  (we:AV.eqb (b.aM K).bn (.ag [cU,.ae]) (.ag [cU,.ae])=true) (b3L:∀J,freeze J 0 998 cU=some cU) (bq:∀p∈r.cB,p.closed=false) (hR:K tQ [r.A] (.b true)) (b3M:∀f∈rj F gs,f.dep<=200/\K kp [f.A true] (.b true)) (body:bF) (hb:E1.body=some body):
  dk (b.aM K) [] [.inl 7] E1.ntmps body (fR [r.A,.ag (bD F),g9 gs]) ⟨.nil,0⟩ (VD 7 E1.results (if e=0 then .a6 [.ag [cU,.ae],o6 0 0 0,ah 0] else .a6 [.ag [.ae,.ae],FU ((Bs r gs).getD at_ (0,0)),ah 80])):=by
 cases hb;refine dk.args λz=>?_;have H:Has (⟨.nil,0⟩:ad) []:=Has.nil;have j5:=aa.len;refine dk.km ?_;refine ai ?_;refine W.cy (c:=r.A.cells) H I I I I I I λτ c1 H bB=>?_;refine ai ?_;refine W.cy (c:=bD F) H c1 I I I I I λbh ea H bp=>?_;refine ai ?_;refine W.cC (c:=[.ae,.ae]) H ea I I I λbU eT H bc=>?_;refine ai ?_;refine W.cC (c:=[.i .u8 0,ah 0,ah 0]) H eT I I I λcq fl H b5=>?_;refine ai ?_;refine W.cC (c:=[ah 0]) H fl I I I λdD ir H cW=>?_;refine ai ?_;refine⟨rfl,?_⟩;refine dk.km ?_;refine ai ?_;refine W.fu hfn hh.oj hR I I I (nJ (r1 _)) ?_;refine ai ?_;refine⟨rfl,?_⟩;refine dk.xH ?_;refine dk.km ?_;refine ai ?_;refine W.an trivial I I I (b2Y hh.mY ir) λv eb ⟨aq,c_,gZ,iE,Bc⟩=>⟨_,aq,?_⟩
 have H:=H.aO Bc.2;refine ai ?_;refine⟨rfl,?_⟩;refine dk.block ?_;refine dk.iter (k:=7) (rj F gs).length (λi W τ=>∀c,¬W c) (λi _ _ args=>∃f,(rj F gs)[i]? =some f/\args=[.ag (bD f)]) (λ_=>False) iE I hh.VG.e I (λi W τ args ⟨f,_,e⟩=>by rw[e];rfl) (λi W τ aH h _ _=>h) (λ_ h=>h) (λ_ h=>h.elim) (b2Z hh.VG c_ gZ _ ⟨id,id⟩ (by omega) λg hg=>by have:=aa.hl g hg;omega) ?_ ?_
 ·rintro i V τ args hi ⟨f,hf,rfl⟩ aV s4 b1N xc c7;obtain⟨hd,cM⟩:=b3M f (List.mem_of_getElem? hf);refine aj.norm [(22,.ag (bD f))] ⟨rfl,trivial⟩ λg=>?_;have H:Has τ []:=Has.nil;refine ai ?_;refine W.ko (c:=bD f) H I I I I I I I λgg o2 H ck=>?_;refine ai ?_;refine⟨rfl,⟨by omega,ck⟩,λhP nr hQ aV=>?_⟩;have H:Has hP [(τ.next,bD f)]:=Has.nil.cons (hQ _ _ (by omega) (H.get _ (.head _))) (by simp);refine ai ?_;refine W.fu hfn hh.b3J cM I I I (nJ ?_) ?_
  ·have:=Fm.snap hP true _ f (b.bn+1000) (Nat.le_refl _) (by omega);rw[iW] at this ⊢;exact this
  refine ai ?_;exact⟨rfl,V,aV,Nat.le_refl _,λ_ _ _ h=>h,λc aa=>.inl aa⟩
 ·intro V τ aV lM nG c7 lI;refine⟨rfl,rfl,?_⟩;have tY:=H.aO λi o h=>c7 i o id h;have H:Has τ [(4,[ah 0]),(3,[.i .u8 0,ah 0,ah 0]),(2,[.ae,.ae]),(1,bD F),(0,r.A.cells)]:=tY;clear tY;have kN:(g9 gs).cells=[g9 gs]:=by cases gs<;>rfl
  have mS:(g9 gs).val=true:=by cases gs<;>rfl
  refine aj.norm [(2,g9 gs),(3,aK 0),(4,aK 1),(6,aK 2),(7,aK 3),(8,aK 4)] ⟨rfl,rfl,rfl,rfl,rfl,rfl,trivial⟩ λg=>?_;refine ai ?_;refine W.iu I I (nQ I I I (nQ I I I (nQ I (by rw[kN,mS];rfl) (by rw[kN];rfl) I))) ?_;generalize aS:τ.next=q at *;refine W.cy (c:=j_ r F gs .ae .ae) H aS I I I I I λgg o2 H ck=>?_;refine ai ?_;refine W.bI (c:=[.f (.func tN) [aK q] [],.f (.func tO) [aK q] [],.f (.func tP) [aK q] []]) H I I I I λhP nr H hQ=>?_;have hw:Sl hP none (.al gg.next 0 3 none (some 3)) [.f (.func tN) [aK q] [],.f (.func tO) [aK q] [],.f (.func tP) [aK q] []]:=.al gg.next (some 3) [.f (.func tN) [aK q] [],.f (.func tO) [aK q] [],.f (.func tP) [aK q] []] [] (H.get _ (.head _)) (λy hy=>by
   rcases List.mem_cons.1 hy with rfl|hy
   ·rfl
   ·rcases List.mem_cons.1 hy with rfl|hy
    ·rfl
    ·rw[List.mem_singleton.1 hy];rfl) (.inr I)
  have VH:=hQ _ _ (ck _ _ lM);refine ai ?_;show bO _ _ _ _ _ _ _ _;refine aj.each 3 (λj f τ=>(∃wg,τ.get q=some (.cells (j_ r F gs wg .ae))/\(j<=1->wg= .ae)/\(2<=j->e=0/\wg=cU))/\(∀i o,i≠q->hP.get i=some o->τ.get i=some o)/\hP.next<=τ.next/\sat [(6,aK 2),(7,aK 3),(8,aK 4),(10,aK q),(39,.al gg.next 0 3 none (some 3))] f) (by omega) ⟨⟨.ae,H.get _ (.tail _ (.head _)),λ_=>rfl,λh=>by omega⟩,λ_ _ _ h=>h,Nat.le_refl _,rfl,rfl,rfl,rfl,rfl,trivial⟩ I I (λj g aH aA aV hi hm=>?_) (λg aH aV hi=>?_)
  ·obtain⟨⟨wg,jI,jB,j0⟩,lP,pZ,gZ,g5,fI,rf,b3N,_⟩:=aV;refine aj.norm [(6,aK 2),(7,aK 3),(8,aK 4),(10,aK q),(39,.al gg.next 0 3 none (some 3)),(41,ah j),(40,ah 3)] ⟨gZ,g5,fI,rf,b3N,hi,hm,trivial⟩ λg=>?_;have L6:=(hw.aO (τ:=aH) λi o hi=>lP i o (by cases hi;omega)).vw;have H:Has aH [(4,[ah 0]),(3,[.i .u8 0,ah 0,ah 0]),(2,[.ae,.ae])]:=((Has.nil.cons (lP _ _ (by omega) (H.get _ (.tail _ (.tail _ (.tail _ (.tail _ (.head _))))))) (by simp)).cons (lP _ _ (by omega) (H.get _ (.tail _ (.tail _ (.tail _ (.head _)))))) (by simp)).cons (lP _ _ (by omega) (H.get _ (.tail _ (.tail _ (.head _))))) (by simp);have h3:[AV.f (.func tN) [aK q] [],.f (.func tO) [aK q] [],.f (.func tP) [aK q] []].length=3:=rfl;have ej:=lP _ _ (by omega) VH;refine ai ?_;rcases(show j=0\/j=1\/j=2 by omega) with rfl|rfl|rfl
   ·obtain rfl:=jB (by omega);refine W.lh I I I (b3h hh.b3G jI aa) λv bh ⟨aq,M⟩=>⟨_,aq,?_⟩
    have H:=H.aO M.2;have oB:=M.1;refine ai ?_;refine W.cC H I I I I λbU eT H bc=>?_;refine W.st H 0 I I I I I I λcq fl H b5=>?_;refine ai ?_;exact⟨rfl,rfl,⟨.ae,b5 _ _ (by have:=ad.bt jI;omega) (bc _ _ (M.2 _ _ jI)),λ_=>rfl,λh=>by omega⟩,λi o hi ho=>b5 _ _ (by have:=ad.bt (lP _ _ hi ho);omega) (bc _ _ (M.2 _ _ (lP _ _ hi ho))),by omega,rfl,rfl,rfl,rfl,rfl,trivial⟩
   ·obtain rfl:=jB (by omega);refine W.lh I I I (b3m hfn hh.Bx hh.b3H hh.b3I jI aa DA Bt ju I fz b3) λv bh ⟨aq,oB,bp⟩=>?_;have H:Has bh [(4,[ah 0]),(3,[.i .u8 0,ah 0,ah 0]),(2,[.ae,.ae])]:=((Has.nil.cons (bp _ _ (by omega) (H.get _ (.tail _ (.tail _ (.head _))))) (by simp)).cons (bp _ _ (by omega) (H.get _ (.tail _ (.head _)))) (by simp)).cons (bp _ _ (by omega) (H.get _ (.head _))) (by simp);have b3O:=bp _ _ (by omega) ej;by_cases he:e=0
    ·rw[if_pos he] at aq;refine⟨_,aq.1,?_⟩;have VI:=aq.2;refine ai ?_;refine W.cC H I I I I λbU eT H bc=>?_;refine W.st H 0 I I I I I I λcq fl H b5=>?_;refine ai ?_;exact⟨rfl,rfl,⟨cU,b5 _ _ (by have:=ad.bt VI;omega) (bc _ _ VI),λh=>by omega,λ_=>⟨he,rfl⟩⟩,λi o hi ho=>b5 _ _ (by have:=ad.bt (lP _ _ hi ho);omega) (bc _ _ (bp _ _ hi (lP _ _ hi ho))),by omega,rfl,rfl,rfl,rfl,rfl,trivial⟩
    ·rw[if_neg he] at aq;rw[if_neg he];refine⟨_,aq.1,?_⟩;generalize(Bs r gs).getD at_ (0,0)=JU;refine ai ?_;refine W.cC H I I I I λbU eT H bc=>?_;refine W.st H 0 I I I I I I λcq fl H b5=>?_;refine ai ?_;refine W.st H 3 I I I I I I λdD ir H cW=>?_;refine ai ?_;refine W.st H 2 I I I I I I λeb iE H dQ=>?_;refine ai ?_;refine W.st H 1 I I I I I I λeM kj H fK=>?_;refine ai ?_;have By:=fK _ _ (by omega) (dQ _ _ (by omega) (cW _ _ (by omega) (b5 _ _ (by omega) (bc _ _ b3O))));have cA:=(iw (bH:=.dead) By).2;refine aj.ret ?_;exact⟨rfl,By,_,UR (fX I (cA _ _ (by omega) (H.get _ (.tail _ (.tail _ (.tail _ (.head _)))))) I) (fX I (cA _ _ (by omega) (H.get _ (.tail _ (.tail _ (.head _))))) I) (fX I (cA _ _ (by omega) (H.get _ (.tail _ (.head _)))) I),VE I⟩
   ·obtain⟨rfl,rfl⟩:=j0 (by omega);refine W.lh I I I (b3E hh.L7 hh.aG jI cP we (by have:=aa.lt;omega) j5 bq) λv bh ⟨aq,M⟩=>⟨_,aq,?_⟩
    have H:=H.aO M.2;have oB:=M.1;refine ai ?_;refine W.cC H I I I I λbU eT H bc=>?_;refine W.st H 0 I I I I I I λcq fl H b5=>?_;refine ai ?_;exact⟨rfl,rfl,⟨wg,b5 _ _ (by have:=ad.bt jI;omega) (bc _ _ (M.2 _ _ jI)),λh=>by omega,λ_=>⟨rfl,rfl⟩⟩,λi o hi ho=>b5 _ _ (by have:=ad.bt (lP _ _ hi ho);omega) (bc _ _ (M.2 _ _ (lP _ _ hi ho))),by omega,rfl,rfl,rfl,rfl,rfl,trivial⟩
  ·obtain⟨⟨wg,jI,jB,j0⟩,lP,pZ,gZ,g5,fI,rf,_⟩:=aV;obtain⟨rfl,rfl⟩:=j0 (by omega);show bO _ _ _ _ _ _ _ _;refine aj.norm [(6,aK 2),(7,aK 3),(8,aK 4),(10,aK q)] ⟨gZ,g5,fI,rf,trivial⟩ λg=>?_;have H:Has aH [(4,[ah 0]),(3,[.i .u8 0,ah 0,ah 0]),(2,[.ae,.ae]),(q,j_ r F gs wg .ae)]:=(((Has.nil.cons jI (by simp)).cons (lP _ _ (by omega) (H.get _ (.tail _ (.tail _ (.tail _ (.tail _ (.head _))))))) (by simp;omega)).cons (lP _ _ (by omega) (H.get _ (.tail _ (.tail _ (.tail _ (.head _)))))) (by simp;omega)).cons (lP _ _ (by omega) (H.get _ (.tail _ (.tail _ (.head _))))) (by simp;omega);have ej:=lP _ _ (by omega) VH;refine ai ?_;refine W.st H 2 I I I I I I λdD ir H cW=>?_;refine ai ?_;refine W.st H 1 I I I I I I λeb iE H dQ=>?_;refine ai ?_;refine W.st H 0 I I I I I I λeM kj H fK=>?_;refine ai ?_;have By:=fK _ _ (by omega) (dQ _ _ (by omega) (cW _ _ (by omega) ej));have cA:=(iw (bH:=.dead) By).2;refine aj.ret ?_;rw[if_pos I];exact⟨rfl,By,_,UR (fX I (cA _ _ (by omega) (H.get _ (.tail _ (.tail _ (.head _))))) I) (fX I (cA _ _ (by omega) (H.get _ (.tail _ (.head _)))) I) (fX I (cA _ _ (by omega) (H.get _ (.head _))) I),VE (b3L _)⟩
end
end
inductive PF where
 |ff (q:Bool)
 |ct
 |neg (a:PF)
 |bin (k:Fin 3) (a b:PF)
 deriving DecidableEq
namespace PF
def op:PF->Nat
 | .ff _=>1
 | .ct=>2
 | .neg _=>3
 | .bin k _ _=>4+k.val
def bZ:PF->List Nat
 | .ff q=>[cond q 81 80]
 |_=>[]
def subs:PF->List PF
 | .neg a=>[a]
 | .bin _ a b=>[a,b]
 |_=>[]
def aT:PF->Fm
 | .ff q=>.mk 1 [cond q 81 80] none none
 | .ct=>.mk 2 [] none none
 | .neg a=>.mk 3 [] none (some [a.aT])
 | .bin k a b=>.mk (4+k.val) [] none (some [a.aT,b.aT])
def dep:PF->Nat
 | .ff _=>1
 | .ct=>1
 | .neg a=>a.dep+1
 | .bin _ a b=>max a.dep b.dep+1
theorem ext{a b:PF}:a=b↔a.op=b.op/\a.bZ=b.bZ/\a.subs=b.subs:=by
 constructor
 ·rintro rfl;exact⟨rfl,rfl,rfl⟩
 ·intro⟨h1,h2,h3⟩;cases a with
  | ff q=>cases b with
   | ff lC=>cases q<;>cases lC<;>first|rfl|cases h2
   |bin k _ _=>exact absurd h1 (by show ¬ 1=4+k.val;omega)
   |_=>cases h1
  |ct=>cases b with
   |ct=>rfl
   |bin k _ _=>exact absurd h1 (by show ¬ 2=4+k.val;omega)
   |_=>cases h1
  |neg a=>cases b with
   |neg b=>cases h3;rfl
   |bin k _ _=>exact absurd h1 (by show ¬ 3=4+k.val;omega)
   |_=>cases h1
  |bin k a cn=>cases b with
   |bin gv b e5=>
    cases h3;have:k=gv:=Fin.ext (by have h1:4+k.val=4+gv.val:=h1;omega);rw[this]
   | ff _=>exact absurd h1 (by show ¬ 4+k.val=1;omega)
   |ct=>exact absurd h1 (by show ¬ 4+k.val=2;omega)
   |neg _=>exact absurd h1 (by show ¬ 4+k.val=3;omega)
theorem nT(a:PF):1<=a.op/\a.op<=6:=by
 cases a with
 |bin k _ _=>exact⟨by show 1<=4+k.val;omega,by show 4+k.val<=6;omega⟩
 |_=>exact⟨by simp[op],by simp[op]⟩
theorem VJ(a:PF):a.aT.op=a.op:=by cases a<;>rfl
theorem b3P(a:PF):a.aT.name=a.bZ:=by cases a<;>rfl
theorem b3Q(a:PF):a.aT.fW=none:=by cases a<;>rfl
theorem rn(a:PF):a.subs.length<=2:=by cases a<;>simp[subs]
theorem jQ{a x:PF}(h:x∈a.subs):x.dep<a.dep:=by
 cases a with
 | ff _=>simp[subs] at h
 |ct=>simp[subs] at h
 |neg a=>rw[List.mem_singleton.1 h];exact Nat.lt_succ_self _
 |bin k a b=>
  show x.dep<max a.dep b.dep+1;rcases List.mem_cons.1 h with rfl|h
  ·omega
  ·rw[List.mem_singleton.1 h];omega
theorem FW(a:PF):bD a.aT=[.i .u8 (Int.ofNat a.op),.s a.bZ,.ae,slA true (some 4) (a.subs.map λx=>.ag (bD x.aT))]:=by
 cases a with
 | ff q=>rfl
 |ct=>rfl
 |neg a=>show[_,_,_,hr true (some [a.aT])]=_;show[_,_,_,AV.a7 true (some 4) [a.aT.A true]]=_;rw[iW];rfl
 |bin k a b=>show[_,_,_,AV.a7 true (some 4) [a.aT.A true,b.aT.A true]]=_;rw[iW,iW];rfl
end PF
abbrev eA(a:PF):List AV:=[.i .u8 (Int.ofNat a.op),.s a.bZ,.ae,slA true (some 4) (a.subs.map λx=>.ag (bD x.aT))]
theorem ll(a:PF):a.aT.A true= .ag (eA a):=by rw[iW,PF.FW]
end Go.Lyc
end
noncomputable section
namespace Go.Lyc
set_option maxHeartbeats 0
variable [Tok][TokOk]
open Go.RowKit Go.Lyc.T
attribute [local irreducible] b9 bO dj dY bu
theorem FX(l m:List Nat):binop .neq (.s l) (.s m)=some (.b (!decide (l=m))):=by
 show some (AV.b (!eqL l m))=_;cases he:eqL l m with
 |true=>rw[decide_eq_true ((mI l m).1 he)]
 |false=>rw[decide_eq_false λh=>by rw[(mI l m).2 h] at he;cases he]
abbrev hT(a:PF):AV:=slA true (some 4) (a.subs.map λx=>.ag (bD x.aT))
theorem rp(a:PF)(h:a.aT.dep<=200){b:b8}(τ:ad):bG τ (b.bn+1000) (.ag (bD a.aT))=some (a.aT.A true):=by
 have:=Fm.snap τ true _ a.aT (b.bn+1000) (Nat.le_refl _) (by omega);rw[iW] at this ⊢;exact this
section
variable {b:b8}{K:Nat->List AV->AV->Prop}(hfn:∀g aW r cw,K g aW r->K g aW cw->r=cw)
theorem yz{n:Nat}{c:aI}(hh:bk (b.aM K) n c)(aa:c=EG\/c=KI)(a:PF){J:ad}:
  bu (b.aM K) 0 (.f (.func n) [] []) [.ag (eA a)] J (λr τ=>r= .ok (.b false)/\dC J τ):=by
 have ho:=a.nT;have H:Has J []:=Has.nil;rcases aa with rfl|rfl
 ·refine W.code hh.e hh.p hh.f I I I I λz=>?_;refine ai ?_;refine W.cy (c:=eA a) H I I I I I I λτ hn H bB=>?_;refine ai ?_;exact aj.ret ⟨rfl,rfl,by omega,bB⟩
 ·refine W.code hh.e hh.p hh.f I I I I λz=>?_;refine ai ?_;refine W.cy (c:=eA a) H I I I I I I λτ hn H bB=>?_;refine ai ?_;exact aj.ret ⟨rfl,rfl,by omega,bB⟩
include hfn
theorem b3R(a c:PF)(ha:a.aT.dep<=200/\c.aT.dep<=200)(aS:bk (b.aM K) J9 EG)(e:b.ext tR=0/\b.pure tR=true)(cM:∀x∈a.subs,∀y∈c.subs,K tR [x.aT.A true,y.aT.A true,.ae] (.b (decide (x=y))))(hd:∀x∈a.subs,x.aT.dep<=200)(uf:∀x∈c.subs,x.aT.dep<=200)(body:bF)(hb:KF.body=some body):
  aj (b.aM K) KF.ntmps body (fR [.ag (eA a),.ag (eA c),.ae]) ⟨.nil,0⟩ (m4 6 (.b (decide (a=c)))):=by
 cases hb;refine W.args λz=>?_;have H:Has (⟨.nil,0⟩:ad) []:=Has.nil;have VK:=a.nT;have FY:=c.nT;have L8:=a.rn;have kz:=c.rn;refine ai ?_;refine W.cy (c:=eA a) H I I I I I I λτ c1 H bB=>?_;refine ai ?_;refine W.cy (c:=eA c) H c1 I I I I I λbh ea H bp=>?_;by_cases h1:a.op=c.op
 ·by_cases h2:a.subs.length=c.subs.length
  ·by_cases h3:a.bZ=c.bZ
   ·have fP:(a=c)↔a.subs=c.subs:=by rw[PF.ext];simp[h1,h3]
    refine ai ?_;refine W.bin (v:=.b false) I I I I ((FX _ _).trans (by rw[decide_eq_true h3];rfl)) ?_;refine ai ?_;show bO _ _ _ _ _ _ _ _;refine aj.each 0 (λj f aH=>dC bh aH/\sat [(2,.ae),(3,aK 0),(4,aK 1)] f) (by omega) ⟨⟨Nat.le_refl _,λ_ _ h=>h⟩,rfl,rfl,(by show aK _=aK _;rfl),trivial⟩ I I (λj g aH aA aV hi hm=>by omega) (λg aH aV hi=>?_);obtain⟨M,bQ,cc,cI,_⟩:=aV;refine aj.norm [(2,.ae),(3,aK 0),(4,aK 1)] ⟨bQ,cc,cI,trivial⟩ λg=>?_;have H:Has aH [(1,eA c),(0,eA a)]:=H.aO M.2;refine ai ?_;refine W.an trivial I I I (yz aS (.inl I) a) λr bU ⟨aq,et⟩=>⟨_,aq,?_⟩
    have H:=H.aO et.2;refine ai ?_;show bO _ _ _ _ _ _ _ _;refine aj.each a.subs.length (λj f aH=>(∀i (h:i<a.subs.length) (h':i<c.subs.length),i<j->a.subs[i]=c.subs[i])/\dC bU aH/\sat [(2,.ae),(4,aK 1),(78,hT a)] f) (by omega) ⟨λi _ _ h=>by omega,⟨Nat.le_refl _,λ_ _ h=>h⟩,rfl,rfl,rfl,trivial⟩ I I (λj g aH aA aV hi hm=>?_) (λg aH aV hi=>?_)
    ·obtain⟨hall,M,bQ,cI,L9,_⟩:=aV;refine aj.norm [(2,.ae),(4,aK 1),(78,hT a),(80,ah j),(79,ah a.subs.length)] ⟨bQ,cI,L9,hi,hm,trivial⟩ λg=>?_;have H:=H.aO M.2;refine ai ?_;refine W.cC H I I I I λcq fl H b5=>?_;refine ai ?_;refine W.st (bM:=bD (a.subs[j]).aT) H 0 I I I I I I λdD ir H cW=>?_;refine ai ?_;refine W.fu hfn e (cM _ (List.getElem_mem aA) _ (List.getElem_mem (show j<c.subs.length by omega))) I I I (Am (rp _ (hd _ (List.getElem_mem aA)) _) (rp _ (uf _ (List.getElem_mem _)) _) I) ?_;by_cases gB:a.subs[j]=c.subs[j]'(by omega)
     ·rw[decide_eq_true gB];refine ai ?_;refine⟨rfl,rfl,λi h h' hlt=>?_,⟨by have:=M.1;omega,λi o h=>cW _ _ (by have:=ad.bt (M.2 _ _ h);omega) (b5 _ _ (M.2 _ _ h))⟩,rfl,rfl,rfl,trivial⟩;by_cases gp:i<j
      ·exact hall i h h' gp
      ·obtain rfl:i=j:=by omega
       exact gB
     ·rw[decide_eq_false gB,decide_eq_false (show ¬a=c from λh=>gB (by subst h;rfl))];refine ai ?_;refine aj.ret ?_;exact⟨rfl,rfl⟩
    ·obtain⟨hall,_⟩:=aV;refine aj.norm [] trivial λg=>?_;rw[decide_eq_true (fP.2 (List.ext_getElem h2 λi h h'=>hall i h h' h))];refine ai ?_;refine aj.ret ?_;exact⟨rfl,rfl⟩
   ·rw[decide_eq_false (show ¬a=c from λh=>h3 (PF.ext.1 h).2.1)];refine ai ?_;refine W.bin (v:=.b true) I I I I ((FX _ _).trans (by rw[decide_eq_false h3];rfl)) ?_;refine ai ?_;refine W.an trivial I I I (yz aS (.inl I) a) λr bU ⟨aq,et⟩=>⟨_,aq,?_⟩
    refine ai ?_;refine aj.ret ?_;exact⟨rfl,rfl⟩
  ·rw[decide_eq_false (show ¬a=c from λh=>h2 (by rw[h]))];refine ai ?_;refine aj.ret ?_;exact⟨rfl,rfl⟩
 ·rw[decide_eq_false (show ¬a=c from λh=>h1 (by rw[h]))];refine ai ?_;refine aj.ret ?_;exact⟨rfl,rfl⟩
theorem b3S(a c:PF)(ha:a.aT.dep<=200/\c.aT.dep<=200)(aS:bk (b.aM K) Ur KI)(e:b.ext q6=0/\b.pure q6=true)(cM:∀x∈a.subs,∀y∈c.subs,K q6 [x.aT.A true,y.aT.A true,.ae] (.b (decide (x=y))))(hd:∀x∈a.subs,x.aT.dep<=200)(uf:∀x∈c.subs,x.aT.dep<=200)(body:bF)(hb:KH.body=some body):
  aj (b.aM K) KH.ntmps body (fR [.ag (eA a),.ag (eA c),.ae]) ⟨.nil,0⟩ (m4 6 (.b (decide (a=c)))):=by
 cases hb;refine W.args λz=>?_;have H:Has (⟨.nil,0⟩:ad) []:=Has.nil;have VK:=a.nT;have FY:=c.nT;have L8:=a.rn;have kz:=c.rn;refine ai ?_;refine W.cy (c:=eA a) H I I I I I I λτ c1 H bB=>?_;refine ai ?_;refine W.cy (c:=eA c) H c1 I I I I I λbh ea H bp=>?_;by_cases h1:a.op=c.op
 ·by_cases h2:a.subs.length=c.subs.length
  ·by_cases h3:a.bZ=c.bZ
   ·have fP:(a=c)↔a.subs=c.subs:=by rw[PF.ext];simp[h1,h3]
    refine ai ?_;refine W.an trivial I I I (yz aS (.inr I) a) λr bh ⟨aq,M2⟩=>⟨_,aq,?_⟩
    have H:Has bh [(1,eA c),(0,eA a)]:=H.aO M2.2;refine ai ?_;refine W.bin (v:=.b false) I I I I ((FX _ _).trans (by rw[decide_eq_true h3];rfl)) ?_;refine ai ?_;show bO _ _ _ _ _ _ _ _;refine aj.each 0 (λj f aH=>dC bh aH/\sat [(2,.ae),(3,aK 0),(4,aK 1)] f) (by omega) ⟨⟨Nat.le_refl _,λ_ _ h=>h⟩,rfl,rfl,(by show aK _=aK _;rfl),trivial⟩ I I (λj g aH aA aV hi hm=>by omega) (λg aH aV hi=>?_);obtain⟨M,bQ,cc,cI,_⟩:=aV;refine aj.norm [(2,.ae),(3,aK 0),(4,aK 1)] ⟨bQ,cc,cI,trivial⟩ λg=>?_;have H:Has aH [(1,eA c),(0,eA a)]:=H.aO M.2;refine ai ?_;refine W.an trivial I I I (yz aS (.inr I) a) λr bU ⟨aq,et⟩=>⟨_,aq,?_⟩
    have H:=H.aO et.2;refine ai ?_;show bO _ _ _ _ _ _ _ _;refine aj.each a.subs.length (λj f aH=>(∀i (h:i<a.subs.length) (h':i<c.subs.length),i<j->a.subs[i]=c.subs[i])/\dC bU aH/\sat [(2,.ae),(4,aK 1),(78,hT a)] f) (by omega) ⟨λi _ _ h=>by omega,⟨Nat.le_refl _,λ_ _ h=>h⟩,rfl,rfl,rfl,trivial⟩ I I (λj g aH aA aV hi hm=>?_) (λg aH aV hi=>?_)
    ·obtain⟨hall,M,bQ,cI,L9,_⟩:=aV;refine aj.norm [(2,.ae),(4,aK 1),(78,hT a),(80,ah j),(79,ah a.subs.length)] ⟨bQ,cI,L9,hi,hm,trivial⟩ λg=>?_;have H:=H.aO M.2;refine ai ?_;refine W.cC H I I I I λcq fl H b5=>?_;refine ai ?_;refine W.st (bM:=bD (a.subs[j]).aT) H 0 I I I I I I λdD ir H cW=>?_;refine ai ?_;refine W.fu hfn e (cM _ (List.getElem_mem aA) _ (List.getElem_mem (show j<c.subs.length by omega))) I I I (Am (rp _ (hd _ (List.getElem_mem aA)) _) (rp _ (uf _ (List.getElem_mem _)) _) I) ?_;by_cases gB:a.subs[j]=c.subs[j]'(by omega)
     ·rw[decide_eq_true gB];refine ai ?_;refine⟨rfl,rfl,λi h h' hlt=>?_,⟨by have:=M.1;omega,λi o h=>cW _ _ (by have:=ad.bt (M.2 _ _ h);omega) (b5 _ _ (M.2 _ _ h))⟩,rfl,rfl,rfl,trivial⟩;by_cases gp:i<j
      ·exact hall i h h' gp
      ·obtain rfl:i=j:=by omega
       exact gB
     ·rw[decide_eq_false gB,decide_eq_false (show ¬a=c from λh=>gB (by subst h;rfl))];refine ai ?_;refine aj.ret ?_;exact⟨rfl,rfl⟩
    ·obtain⟨hall,_⟩:=aV;refine aj.norm [] trivial λg=>?_;rw[decide_eq_true (fP.2 (List.ext_getElem h2 λi h h'=>hall i h h' h))];refine ai ?_;refine aj.ret ?_;exact⟨rfl,rfl⟩
   ·rw[decide_eq_false (show ¬a=c from λh=>h3 (PF.ext.1 h).2.1)];refine ai ?_;refine W.an trivial I I I (yz aS (.inr I) a) λr bh ⟨aq,M2⟩=>⟨_,aq,?_⟩
    have H:Has bh [(1,eA c),(0,eA a)]:=H.aO M2.2;refine ai ?_;refine W.bin (v:=.b true) I I I I ((FX _ _).trans (by rw[decide_eq_false h3];rfl)) ?_;refine ai ?_;refine aj.ret ?_;exact⟨rfl,rfl⟩
  ·rw[decide_eq_false (show ¬a=c from λh=>h2 (by rw[h]))];refine ai ?_;refine aj.ret ?_;exact⟨rfl,rfl⟩
 ·rw[decide_eq_false (show ¬a=c from λh=>h1 (by rw[h]))];refine ai ?_;refine aj.ret ?_;exact⟨rfl,rfl⟩
theorem b3T(a c:PF)(hd:a.aT.dep<=200)(uf:c.aT.dep<=200)(FZ:b.ext kp=0/\b.pure kp=true)(hR:K kp [a.aT.A true] (.b true))(zQ:K kp [c.aT.A true] (.b true))(e:b.ext q6=0/\b.pure q6=true)(cM:K q6 [a.aT.A true,c.aT.A true,.ae] (.b (decide (a=c))))(body:bF)(hb:KG.body=some body):
  aj (b.aM K) KG.ntmps body (fR [.ag (eA a),.ag (eA c)]) ⟨.nil,0⟩ (m4 4 (.b (decide (a=c)))):=by
 cases hb;refine W.args λz=>?_;have H:Has (⟨.nil,0⟩:ad) []:=Has.nil;have ao:∀a:PF,a.aT.dep<=200->∀τ,bG τ (b.bn+1000) (.ag (eA a))=some (a.aT.A true):=λa h τ=>by have:=rp a h (b:=b) τ;rwa[PF.FW] at this
 refine ai ?_;refine W.cy (c:=eA a) H I I I I I I λτ c1 H bB=>?_;refine ai ?_;refine W.cy (c:=eA c) H c1 I I I I I λbh ea H bp=>?_;refine ai ?_;refine W.fu hfn FZ hR I I I (nJ (ao a hd _)) ?_;refine ai ?_;refine W.fu hfn FZ zQ I I I (nJ (ao c uf _)) ?_;refine ai ?_;refine W.fu hfn e cM I I I (Am (ao a hd _) (ao c uf _) I) ?_;refine ai ?_;refine aj.ret ?_;exact⟨rfl,rfl⟩
theorem b3U(l m:List PF)(hl:l.length<=2/\m.length<=2)(hd:∀x∈l,x.aT.dep<=200)(uf:∀x∈m,x.aT.dep<=200)(e:b.ext q3=0/\b.pure q3=true)(cM:∀x∈l,∀y∈m,K q3 [x.aT.A true,y.aT.A true] (.b (decide (x=y))))(body:bF)(hb:Kg.body=some body):
  aj (b.aM K) Kg.ntmps body (fR [slA true (some 4) (l.map λx=>.ag (bD x.aT)),slA true (some 4) (m.map λx=>.ag (bD x.aT))]) ⟨.nil,0⟩ (m4 4 (.b (decide (l=m)))):=by
 cases hb;refine W.args λz=>?_;have H:Has (⟨.nil,0⟩:ad) []:=Has.nil;by_cases F0:l.length=m.length
 ·refine ai ?_;refine aj.block ?_;refine aj.loop (λn f τ=>∃j,j+n=l.length/\(∀i (h:i<l.length) (h':i<m.length),i<j->l[i]=m[i])/\sat [(0,slA true (some 4) (l.map λx=>.ag (bD x.aT))),(1,slA true (some 4) (m.map λx=>.ag (bD x.aT))),(5,ah j)] f) ?_ l.length ⟨0,by omega,λ_ _ _ h=>by omega,rfl,rfl,rfl,trivial⟩;rintro n f τ ⟨j,ta,hall,ao⟩;refine aj.norm _ ao λz=>?_;clear ao;have H:Has τ []:=Has.nil;by_cases hn:j<l.length
  ·obtain⟨n,rfl⟩:∃k,n=k+1:=⟨n-1,by omega⟩
   refine ai ?_;refine W.fu hfn e (cM _ (List.getElem_mem hn) _ (List.getElem_mem (show j<m.length by omega))) I I I (oF (rp _ (hd _ (List.getElem_mem hn)) _) (rp _ (uf _ (List.getElem_mem _)) _)) ?_;by_cases gB:l[j]=m[j]'(by omega)
   ·rw[decide_eq_true gB];refine ai ?_;refine⟨n,by omega,j+1,by omega,λi h h' hlt=>?_,rfl,rfl,rfl,trivial⟩;by_cases gp:i<j
    ·exact hall i h h' gp
    ·obtain rfl:i=j:=by omega
     exact gB
   ·rw[decide_eq_false gB,decide_eq_false (show ¬l=m from λh=>gB (by subst h;rfl))];refine ai ?_;refine aj.ret ?_;exact⟨rfl,rfl⟩
  ·obtain rfl:n=0:=by omega
   refine ai ?_;refine aj.exit ?_;show bO _ _ _ _ _ _ _ _;refine aj.norm [] trivial λg=>?_;rw[decide_eq_true (List.ext_getElem F0 λi h h'=>hall i h h' (by omega))];refine ai ?_;refine aj.ret ?_;exact⟨rfl,rfl⟩
 ·rw[decide_eq_false (show ¬l=m from λh=>F0 (by rw[h]))];refine ai ?_;refine aj.ret ?_;exact⟨rfl,rfl⟩
theorem b3V(a c:PF)(b3W:b.ext sr=0/\b.pure sr=true)(jr:K sr [.ae,.ae] (.b true))(e:b.ext vR=0/\b.pure vR=true)(cM:K vR [hT a,hT c] (.b (decide (a.subs=c.subs))))(ju:∀τ,bG τ (b.bn+1000) (hT a)=some (hT a))(b3X:∀τ,bG τ (b.bn+1000) (hT c)=some (hT c))(body:bF)(hb:Kf.body=some body):
  aj (b.aM K) Kf.ntmps body (fR [.ag (eA a),.ag (eA c)]) ⟨.nil,0⟩ (m4 4 (.b (decide (a=c)))):=by
 cases hb;refine W.args λz=>?_;have H:Has (⟨.nil,0⟩:ad) []:=Has.nil;have VK:=a.nT;have FY:=c.nT;refine ai ?_;refine W.cy (c:=eA a) H I I I I I I λτ c1 H bB=>?_;refine ai ?_;refine W.cy (c:=eA c) H c1 I I I I I λbh ea H bp=>?_;by_cases h1:a.op=c.op
 ·by_cases h3:a.bZ=c.bZ
  ·have fP:(a=c)↔a.subs=c.subs:=by rw[PF.ext];simp[h1,h3]
   refine ai ?_;refine W.bin (v:=.b true) I I I I ((uc _ _).trans (by rw[decide_eq_true h3])) ?_;refine ai ?_;refine W.fu hfn b3W jr I I I (oF I I) ?_;refine ai ?_;refine W.fu hfn e cM I I I (oF (ju _) (b3X _)) ?_;rw[show decide (a=c)=decide (a.subs=c.subs) from by rw[decide_eq_decide];exact fP];refine ai ?_;refine aj.ret ?_;exact⟨rfl,rfl⟩
  ·rw[decide_eq_false (show ¬a=c from λh=>h3 (by rw[h]))];refine ai ?_;refine W.bin (v:=.b false) I I I I ((uc _ _).trans (by rw[decide_eq_false h3])) ?_;refine ai ?_;refine aj.ret ?_;exact⟨rfl,rfl⟩
 ·rw[decide_eq_false (show ¬a=c from λh=>h1 (by rw[h]))];refine ai ?_;refine aj.ret ?_;exact⟨rfl,rfl⟩
end
def PF.bK:PF->Nat
 | .neg a=>a.bK+1
 | .bin _ a b=>a.bK+b.bK+1
 |_=>1
theorem PF.VL(a:PF):a.bK=1+(a.subs.map PF.bK).sum:=by
 cases a with
 |neg a=>show a.bK+1=1+(a.bK+0);omega
 |bin k a b=>show a.bK+b.bK+1=1+(a.bK+(b.bK+0));omega
 |_=>rfl
abbrev ib(F:Fm):List AV:=[.i .u8 (Int.ofNat F.op),.s F.name,ix false F.fW,hr false F.fF]
theorem ug(F:Fm):F.A false= .ag (ib F):=by unfold Fm.A;rw[Fm.iI]
theorem PF.L_(a:PF):ib a.aT=[.i .u8 (Int.ofNat a.op),.s a.bZ,.ae,slA false (some 4) (a.subs.map λx=>.ag (ib x.aT))]:=by
 cases a with
 | ff q=>rfl
 |ct=>rfl
 |neg a=>show[_,_,_,AV.a7 false (some 4) [a.aT.A false]]=_;rw[ug];rfl
 |bin k a b=>show[_,_,_,AV.a7 false (some 4) [a.aT.A false,b.aT.A false]]=_;rw[ug,ug];rfl
abbrev rq(S F:Fm):AV:=.ag (bD S++(bD F++[.ae]))
theorem b3Y(J:ad)(n:Nat)(F:Fm):freeze J 0 (n+2) (.ag (ib F))=some (.ag (ib F)):=by
 rw[freeze_succ];show(match mapO (freeze J 0 (n+1)) (ib F) with|none=>none|some l=>some (AV.ag l))=_;have h1:freeze J 0 (n+1) (ix false F.fW)=some (ix false F.fW):=by cases F.fW<;>rfl
 have h2:freeze J 0 (n+1) (hr false F.fF)=some (hr false F.fF):=by cases F.fF<;>rfl
 rw[mapO_cons,mapO_cons,mapO_cons,mapO_cons,h1,h2];rfl
section
variable {b:b8}{K:Nat->List AV->AV->Prop}(hfn:∀g aW r cw,K g aW r->K g aW cw->r=cw)
include hfn
theorem b3Z(a:PF)(hd:∀x∈a.subs,x.aT.dep<=200)(cj:a.bK<2^62)(e:b.ext q2=0/\b.pure q2=true)(cM:∀x∈a.subs,K q2 [x.aT.A true] (ah x.bK))(body:bF)(hb:Kd.body=some body):
  aj (b.aM K) Kd.ntmps body (fR [.ag (eA a)]) ⟨.nil,0⟩ (m4 2 (ah a.bK)):=by
 cases hb;refine W.args λz=>?_;have H:Has (⟨.nil,0⟩:ad) []:=Has.nil;have L8:=a.rn;have VM:=a.VL;have hle:∀j,((a.subs.take j).map PF.bK).sum<=(a.subs.map PF.bK).sum:=λj=>by
  conv=>rhs;rw[<-List.take_append_drop j a.subs,List.map_append,List.sum_append]
  exact Nat.le_add_right _ _
 refine ai ?_;refine W.cy (c:=eA a) H I I I I I I λτ c1 H bB=>?_;refine ai ?_;show bO _ _ _ _ _ _ _ _;refine aj.each a.subs.length (λj f aH=>dC τ aH/\sat [(1,aK 0),(3,ah (1+((a.subs.take j).map PF.bK).sum)),(7,hT a)] f) (by omega) ⟨⟨Nat.le_refl _,λ_ _ h=>h⟩,rfl,rfl,rfl,trivial⟩ I I (λj g aH aA aV hi hm=>?_) (λg aH aV hi=>?_)
 ·obtain⟨M,bN,cc,g5,_⟩:=aV;refine aj.norm [(1,aK 0),(3,ah (1+((a.subs.take j).map PF.bK).sum)),(7,hT a),(9,ah j),(8,ah a.subs.length)] ⟨bN,cc,g5,hi,hm,trivial⟩ λg=>?_;have H:=H.aO M.2;have h1:=hle (j+1);have cA:((a.subs.take (j+1)).map PF.bK).sum=((a.subs.take j).map PF.bK).sum+(a.subs[j]).bK:=by rw[List.take_succ_eq_append_getElem aA,List.map_append,List.sum_append];simp
  refine ai ?_;refine W.cC H I I I I λcq fl H b5=>?_;refine ai ?_;refine W.st (bM:=bD (a.subs[j]).aT) H 0 I I I I I I λdD ir H cW=>?_;refine ai ?_;refine W.fu hfn e (cM _ (List.getElem_mem aA)) I I I (nJ (rp _ (hd _ (List.getElem_mem aA)) _)) ?_;refine ai ?_;refine⟨rfl,rfl,⟨by have:=M.1;omega,λi o h=>cW _ _ (by have:=ad.bt (M.2 _ _ h);omega) (b5 _ _ (M.2 _ _ h))⟩,rfl,?_,rfl,trivial⟩;show ah _=ah _;rw[cA,Nat.add_assoc]
 ·obtain⟨M,bN,cc,_⟩:=aV;refine aj.norm [(3,ah (1+((a.subs.take a.subs.length).map PF.bK).sum))] ⟨cc,trivial⟩ λg=>?_;rw[List.take_length,← VM];refine ai ?_;refine aj.ret ?_;exact⟨rfl,rfl⟩
theorem b4a(S F:Fm)(jI:∀τ,bG τ (b.bn+1000) (rq S F)=some (rq S F))(a:PF)(aS:bk (b.aM K) J9 EG)(hd:∀x∈a.subs,x.aT.dep<=200)(e:b.ext tH=0/\b.pure tH=true)(cM:∀x∈a.subs,K tH [rq S F,x.aT.A true,.ae] (.a6 [x.aT.A false,.b true]))(body:bF)(hb:EF.body=some body):
  aj (b.aM K) EF.ntmps body (fR [rq S F,.ag (eA a),.ae]) ⟨.nil,0⟩ (FB EF.results (.a6 [a.aT.A false,.b true])):=by
 cases hb;refine W.args λz=>?_;have H:Has (⟨.nil,0⟩:ad) []:=Has.nil;have L8:=a.rn;refine ai ?_;refine W.cy (c:=bD S++(bD F++[.ae])) H I I I I I I λτ c1 H bB=>?_;refine ai ?_;refine W.cy (c:=eA a) H c1 I I I I I λbh ea H bp=>?_;refine ai ?_;refine W.cC (c:=[.i .u8 0,.s [],.ae,.ae]) H ea I I I λbU eT H bc=>?_;refine ai ?_;refine W.ko (c:=[.i .u8 (Int.ofNat a.op),.s a.bZ,.ae,.ae]) H eT I I I I I I λcq fl H b5=>?_;refine ai ?_;show bO _ _ _ _ _ _ _ _;refine aj.each 0 (λj f aH=>dC cq aH/\sat [(2,.ae),(3,aK 0),(4,aK 1),(6,aK 2),(8,aK 3)] f) (by omega) ⟨⟨Nat.le_refl _,λ_ _ h=>h⟩,rfl,rfl,rfl,rfl,rfl,trivial⟩ I I (λj g aH aA aV hi hm=>by omega) (λg aH aV hi=>?_);obtain⟨M,bQ,cc,cI,gZ,fI,_⟩:=aV;refine aj.norm [(2,.ae),(3,aK 0),(4,aK 1),(6,aK 2),(8,aK 3)] ⟨bQ,cc,cI,gZ,fI,trivial⟩ λg=>?_;have H:=H.aO M.2;have cS:=M.1;refine ai ?_;refine W.an trivial I I I (yz aS (.inl I) a) λr dD ⟨aq,jv⟩=>⟨_,aq,?_⟩
 have tY:=H.aO jv.2;have FF:=jv.1;have H:Has dD [(3,[.i .u8 (Int.ofNat a.op),.s a.bZ,.ae,.ae]),(2,[.i .u8 0,.s [],.ae,.ae]),(1,eA a),(0,bD S++(bD F++[.ae]))]:=tY;clear tY;refine ai ?_;show bO _ _ _ _ _ _ _ _;refine aj.each a.subs.length (λj f aH=>(∃w,aH.get 3=some (.cells [.i .u8 (Int.ofNat a.op),.s a.bZ,.ae,w])/\Sl aH (some 4) w ((a.subs.take j).map λx=>.ag (ib x.aT))/\(a.subs.take j=[]->w= .ae)/\∀o,w.at? =some o->dD.next<=o)/\(∀i o,i≠3->dD.get i=some o->aH.get i=some o)/\dD.next<=aH.next/\sat [(2,.ae),(3,aK 0),(6,aK 2),(8,aK 3),(59,hT a)] f) (by omega) ⟨⟨.ae,H.get _ (.head _),.nil,λ_=>rfl,λ_ h=>by cases h⟩,λ_ _ _ h=>h,Nat.le_refl _,rfl,rfl,rfl,rfl,rfl,trivial⟩ I I (λj g aH aA aV hi hm=>?_) (λg aH aV hi=>?_)
 ·obtain⟨⟨w,hg,hw,j6,tX⟩,c7,hn,bQ,cc,gZ,fI,LZ,_⟩:=aV;refine aj.norm [(2,.ae),(3,aK 0),(6,aK 2),(8,aK 3),(59,hT a),(61,ah j),(60,ah a.subs.length)] ⟨bQ,cc,gZ,fI,LZ,hi,hm,trivial⟩ λg=>?_;have H:Has aH [(3,[.i .u8 (Int.ofNat a.op),.s a.bZ,.ae,w]),(0,bD S++(bD F++[.ae]))]:=(Has.nil.cons (c7 _ _ (by omega) (H.get _ (.tail _ (.tail _ (.tail _ (.head _)))))) (by simp)).cons hg (by simp);refine ai ?_;refine W.cC H I I I I λeb iE H dQ=>?_;refine ai ?_;refine W.st (bM:=bD (a.subs[j]).aT) H 0 I I I I I I λeM kj H fK=>?_;refine ai ?_;have hx:=cM _ (List.getElem_mem aA);rw[ug] at hx;refine W.fu hfn e hx I I I (Am (jI _) (rp _ (hd _ (List.getElem_mem aA)) _) I) ?_;refine ai ?_;refine W.cC H I I I I λe9 ti H nS=>?_;refine ai ?_;refine W.st (bM:=ib (a.subs[j]).aT) H 0 I I I I I I λi_ qK H jG=>?_;have cL:∀i o,aH.get i=some o->i_.get i=some o:=λi o h=>jG _ _ (by have:=ad.bt h;omega) (nS _ _ (fK _ _ (by have:=ad.bt h;omega) (dQ _ _ h)));have b4b:=hw.aO (τ:=i_) λi o _=>cL i o;refine ai ?_;refine W.pu (c:=ib (a.subs[j]).aT) (.ag (ib (a.subs[j]).aT)) b4b I I I I I I I I I (by rw[List.length_map,List.length_take];omega) λbA gg wh Bz _ o2 ck=>?_;have H:Has gg [(3,[.i .u8 (Int.ofNat a.op),.s a.bZ,.ae,w])]:=Has.nil.cons (ck _ _ (λe=>by have:=tX _ e;omega) (cL _ _ hg)) (by simp);refine ai ?_;refine W.st (bM:=[.i .u8 (Int.ofNat a.op),.s a.bZ,.ae,bA]) H 0 I I I I wh.j7 (by rw[wh.kL];rfl) λhP nr H hQ=>?_;refine ai ?_;refine⟨rfl,rfl,⟨bA,H.get _ (.head _),?_,λh=>?_,λo ho=>by rw[Bz] at ho;cases ho;omega⟩,λi o hi ho=>hQ _ _ hi (ck _ _ (λe=>by have:=tX _ e;have:=ad.bt ho;omega) (cL _ _ (c7 _ _ hi ho))),by omega,rfl,rfl,rfl,rfl,rfl,trivial⟩
  ·rw[List.take_succ_eq_append_getElem aA,List.map_append];exact wh.aO λi o hi=>hQ _ _ (λe=>by rw[Bz] at hi;cases hi;omega)
  ·have:=congrArg List.length h;rw[List.length_take,List.length_nil] at this;omega
 ·obtain⟨⟨w,hg,hw,j6,tX⟩,c7,hn,bQ,cc,gZ,fI,_⟩:=aV;refine aj.norm [(6,aK 2),(8,aK 3)] ⟨gZ,fI,trivial⟩ λg=>?_;have H:Has aH [(3,[.i .u8 (Int.ofNat a.op),.s a.bZ,.ae,w]),(2,[.i .u8 0,.s [],.ae,.ae])]:=(Has.nil.cons (c7 _ _ (by omega) (H.get _ (.tail _ (.head _)))) (by simp)).cons hg (by simp);rw[List.take_length] at hw j6;refine ai ?_;refine W.st (bM:=[.i .u8 (Int.ofNat a.op),.s a.bZ,.ae,w]) H 1 I I I I I I λeM kj H fK=>?_;refine ai ?_;refine aj.ret ?_;refine⟨rfl,_,iZ (fX I (H.get _ (.tail _ (.head _))) I) (j8 I),?_⟩;have Le:=hw.aO (τ:=eM) λi o hi=>fK _ _ (by have:=tX i hi;omega);have h1:freeze eM 0 998 w=some (slA false (some 4) (a.subs.map λx=>.ag (ib x.aT))):=by
   rw[Le.freeze (n:=997) (a8:=a.subs.map λx=>.ag (ib x.aT)) (by
    have:=ym (f:=freeze eM 0 997) (g:=λx=>x) (l:=a.subs.map λx=>.ag (ib x.aT)) (λy hy=>by obtain⟨x,_,rfl⟩:=List.mem_map.1 hy;exact b3Y eM 995 x.aT);rwa[List.map_id'] at this)]
   unfold A7;cases ao:a.subs with
   |nil=>rw[ao] at j6;rw[j6 I];rfl
   |cons x l=>
    rw[ao] at hw;generalize hx:(x::l).map (λx:PF=>AV.ag (ib x.aT))=xs at hw;cases hw with
    |nil=>simp at hx
    |al o cap xs rest hg aa az=>subst hx;rfl
  have h2:freeze eM 0 999 (.ag [.i .u8 (Int.ofNat a.op),.s a.bZ,.ae,w])=some (a.aT.A false):=by
   rw[freeze_succ];show(match mapO (freeze eM 0 998) [.i .u8 (Int.ofNat a.op),.s a.bZ,.ae,w] with|none=>none|some l=>some (AV.ag l))=_;rw[mapO_cons,mapO_cons,mapO_cons,mapO_cons,h1,ug,PF.L_];rfl
  rw[freeze_succ];show(match mapO (freeze eM 0 999) [.ag [.i .u8 (Int.ofNat a.op),.s a.bZ,.ae,w],.b true] with|none=>none|some l=>some (AV.a6 l))=_;rw[mapO_cons,h2];rfl
end
inductive iO(W:Nat->Prop)(J:ad)(U:Option Nat):AV->List AV->Prop
 |nil:iO W J U .ae []
 |al (o:Nat) (cap:Option Nat) (xs rest:List AV) (hW:W o) (h:J.get o=some (.cells (xs.flatMap AV.cells++rest))) (aa:∀y∈xs,conf U y=true) (az:cap=none\/cap=some xs.length) (a5:xs≠[]):iO W J U (.al o 0 xs.length U cap) xs
 |a7 (xs:List AV) (aa:∀y∈xs,conf U y=true) (a5:xs≠[]):iO W J U (.a7 false U xs) xs
theorem iO.aO{W W':Nat->Prop}{J τ:ad}{U:Option Nat}{v:AV}{xs:List AV}(h:iO W J U v xs)(k:∀i c,W i->J.get i=some (.cells c)->W' i/\τ.get i=some (.cells c)):iO W' τ U v xs:=by
 cases h with
 |nil=>exact .nil
 |al o cap xs rest hW h aa az a5=>exact .al o cap xs rest (k _ _ hW h).1 (k _ _ hW h).2 aa az a5
 |a7 xs aa a5=>exact .a7 xs aa a5
theorem iO.one{W:Nat->Prop}{J:ad}{U:Option Nat}{v:AV}{xs:List AV}(h:iO W J U v xs):v.cells=[v]/\v.val=true/\conf none v=true:=by
 cases h<;>exact⟨rfl,rfl,rfl⟩
theorem iO.snap{W:Nat->Prop}{J:ad}{U:Option Nat}{v:AV}{xs a8:List AV}{n:Nat}(h:iO W J U v xs)(hm:mapO (bG J n) xs=some a8):bG J (n+1) v=some (slA true U a8):=by
 cases h with
 |nil=>exact Sl.Bp .nil (λ_=>rfl) hm
 |al o cap xs rest hW h aa az a5=>exact Sl.Bp (.al o cap xs rest h aa az) (λe=>absurd e a5) hm
 |a7 xs aa a5=>
  rw[snapshot_succ];simp only[hm];cases a8 with
  |nil=>have:=(mG hm).1;cases xs with|nil=>exact absurd I a5|cons _ _=>simp at this
  |cons z r=>rfl
inductive eu(W:Nat->Prop)(J:ad):PF->AV->Prop
 |mk (a:PF) (w:AV) (xs:List AV) (hl:xs.length=a.subs.length) (hw:iO W J (some 4) w xs) (hx:∀i (h:i<xs.length) (h':i<a.subs.length),eu W J a.subs[i] xs[i]):eu W J a (.ag [.i .u8 (Int.ofNat a.op),.s a.bZ,.ae,w])
theorem eu.aO{W W':Nat->Prop}{J τ:ad}(k:∀i c,W i->J.get i=some (.cells c)->W' i/\τ.get i=some (.cells c)):∀(d:Nat) {a:PF} {v:AV},a.dep<=d->eu W J a v->eu W' τ a v
 |0,a,v,hd,_=>by cases a<;>simp[PF.dep] at hd
 |d+1,a,v,hd,h=>by
  cases h with
  |mk _ w xs hl hw hx=>exact .mk a w xs hl (hw.aO k) λi h h'=>eu.aO k d (by have:=PF.jQ (List.getElem_mem h');omega) (hx i h h')
theorem eu.snap{W:Nat->Prop}{J:ad}:∀(d:Nat) {a:PF} {v:AV} {n:Nat},a.dep<=d->2*d+1<=n->eu W J a v->bG J n v=some (a.aT.A true)
 |0,a,v,n,hd,_,_=>by cases a<;>simp[PF.dep] at hd
 |d+1,a,v,n,hd,hn,h=>by
  obtain⟨n,rfl⟩:∃m,n=m+2:=⟨n-2,by omega⟩
  cases h with
  |mk _ w xs hl hw hx=>
   rw[ll];refine oG ?_;have hm:mapO (bG J n) xs=some (a.subs.map λx=>.ag (bD x.aT)):=yn (by rw[List.length_map,hl]) λi h1 h2=>by
    rw[List.length_map] at h2;have:=eu.snap d (n:=n) (by have:=PF.jQ (List.getElem_mem h2);omega) (by omega) (hx i h1 h2);rw[List.getElem_map,this,iW]
   have:=hw.snap hm;rw[mapO_cons,mapO_cons,mapO_cons,mapO_cons,this];rfl
theorem eu.tree{W:Nat->Prop}{J:ad}:∀(d:Nat) {a:PF},a.dep<=d->eu W J a (.ag (ib a.aT))
 |0,a,hd=>by cases a<;>simp[PF.dep] at hd
 |d+1,a,hd=>by
  rw[PF.L_];refine .mk a _ (a.subs.map λx=>.ag (ib x.aT)) (List.length_map _) ?_ λi h h'=>?_
  ·cases ao:a.subs with
   |nil=>exact .nil
   |cons x l=>exact .a7 (U:=some 4) ((x::l).map λx=>.ag (ib x.aT)) (λy hy=>by obtain⟨z,_,rfl⟩:=List.mem_map.1 (show y∈(x::l).map (λx:PF=>AV.ag (ib x.aT)) from hy);rfl) (by simp)
  ·rw[List.getElem_map];exact eu.tree d (by have:=PF.jQ (List.getElem_mem h');omega)
structure a1 where
 bY:Nat
 op:Nat
 hyp:Bool
 f:PF
 gQ:List Nat
 cs:List (Nat×Nat)
def a1.br(x:a1):bX:=⟨x.bY,x.op,x.hyp,x.f.aT,x.gQ,x.cs⟩
inductive jR(W:Nat->Prop)(J:ad)(x:a1):AV->Prop
 |mk (w e3:AV) (hf:eu W J x.f (.ag [.i .u8 (Int.ofNat x.f.op),.s x.f.bZ,.ae,w])) (aa:iO W J (some 2) e3 (x.cs.map λc=>.ag [ah c.1,ah c.2])):jR W J x (.ag [ah x.bY,ah x.op,.b x.hyp,.i .u8 (Int.ofNat x.f.op),.s x.f.bZ,.ae,w,.s x.gQ,e3])
theorem jR.aO{W W':Nat->Prop}{J τ:ad}{x:a1}{v:AV}(h:jR W J x v)(k:∀i c,W i->J.get i=some (.cells c)->W' i/\τ.get i=some (.cells c)):jR W' τ x v:=by
 cases h with
 |mk w e3 hf aa=>exact .mk w e3 (hf.aO k _ (Nat.le_refl _)) (aa.aO k)
theorem jR.snap{W:Nat->Prop}{J:ad}{x:a1}{v:AV}(h:jR W J x v){n:Nat}(hn:2*x.f.dep+10<=n):bG J n v=some x.br.A:=by
 obtain⟨n,rfl⟩:∃m,n=m+3:=⟨n-3,by omega⟩
 cases h with
 |mk w e3 hf aa=>
  have h1:=hf.snap x.f.dep (n:=n+3) (Nat.le_refl _) (by omega);rw[iW] at h1;obtain⟨eB,a3,bm⟩:=DV h1;injection bm with bm
  subst bm;rw[mapO_cons,mapO_cons,mapO_cons,mapO_cons] at a3;have w1:mapO (bG J (n+1)) (x.cs.map λc=>.ag [ah c.1,ah c.2])=some (x.cs.map λc=>.ag [ah c.1,ah c.2]):=by
   have:=ym (f:=bG J (n+1)) (g:=λx=>x) (l:=x.cs.map λc=>AV.ag [ah c.1,ah c.2]) (λy hy=>by obtain⟨c,_,rfl⟩:=List.mem_map.1 hy;cases n with|zero=>omega|succ m=>rfl);rwa[List.map_id'] at this
  have h2:=aa.snap w1;have h3:bG J (n+2) w=some (hr true x.f.aT.fF):=by
   cases hw:bG J (n+2) w with
   |none=>rw[hw] at a3;cases a3
   |some u=>
    rw[hw] at a3;have a3:some [AV.i .u8 (Int.ofNat x.f.op),.s x.f.bZ,.ae,u]=some (bD x.f.aT):=a3;injection a3 with a3
    injection a3 with _ a3
    injection a3 with _ a3
    injection a3 with _ a3
    injection a3 with a3 _
    rw[a3]
  refine oG ?_;have aN:x.f.aT.op=x.f.op:=PF.VJ _;have a4:x.f.aT.name=x.f.bZ:=PF.b3P _;have cQ:x.f.aT.fW=none:=PF.b3Q _;rw[mapO_cons,mapO_cons,mapO_cons,mapO_cons,mapO_cons,mapO_cons,mapO_cons,mapO_cons,mapO_cons,h2,h3];show some [_,_,_,AV.i .u8 (Int.ofNat x.f.op),.s x.f.bZ,.ae,hr true x.f.aT.fF,_,_]=some [_,_,_,AV.i .u8 (Int.ofNat x.f.aT.op),.s x.f.aT.name,ix true x.f.aT.fW,hr true x.f.aT.fF,_,_];rw[aN,a4,cQ];rfl
theorem wi{n:Nat}{l:List AV}(h:∀x∈l,AV.eqb n x x=true):AV.eqb (n+1) (.ag l) (.ag l)=true:=oD h
theorem BA{n:Nat}{o:Bool}{U:Option Nat}{l:List AV}(h:∀x∈l,AV.eqb n x x=true):AV.eqb (n+1) (.a7 o U l) (.a7 o U l)=true:=by
 show((o==o)&&decide (U=U)&&ft (AV.eqb n) l l)=true;rw[oD h];simp
theorem iO.eqb{W:Nat->Prop}{J:ad}{U:Option Nat}{v:AV}{xs:List AV}{n:Nat}(h:iO W J U v xs)(he:∀x∈xs,AV.eqb n x x=true):AV.eqb (n+1) v v=true:=by
 cases h with
 |nil=>exact cX I
 |al o cap xs rest hW h aa az a5=>exact cX I
 |a7 xs aa a5=>exact BA he
theorem eu.eqb{W:Nat->Prop}{J:ad}:∀(d:Nat) {a:PF} {v:AV} {n:Nat},a.dep<=d->2*d+1<=n->eu W J a v->AV.eqb n v v=true
 |0,a,v,n,hd,_,_=>by cases a<;>simp[PF.dep] at hd
 |d+1,a,v,n,hd,hn,h=>by
  obtain⟨n,rfl⟩:∃m,n=m+2:=⟨n-2,by omega⟩
  cases h with
  |mk _ w xs hl hw hx=>
   refine wi λy hy=>?_;simp only[List.mem_cons,List.not_mem_nil,or_false] at hy;rcases hy with rfl|rfl|rfl|rfl
   ·exact cX I
   ·exact cX I
   ·exact cX I
   ·refine hw.eqb λy hy=>?_;obtain⟨i,hi,rfl⟩:=List.getElem_of_mem hy;exact eu.eqb d (by have:=PF.jQ (List.getElem_mem (show i<a.subs.length by omega));omega) (by omega) (hx i hi (by omega))
theorem jR.eqb{W:Nat->Prop}{J:ad}{x:a1}{v:AV}(h:jR W J x v){n:Nat}(hn:2*x.f.dep+10<=n):AV.eqb n v v=true:=by
 obtain⟨n,rfl⟩:∃m,n=m+3:=⟨n-3,by omega⟩
 cases h with
 |mk w e3 hf aa=>
  have hw:AV.eqb (n+2) w w=true:=by
   cases hf with
   |mk _ w xs hl hw hx=>
    refine hw.eqb λy hy=>?_;obtain⟨i,hi,rfl⟩:=List.getElem_of_mem hy;exact(hx i hi (by omega)).eqb _ (Nat.le_refl _) (by have:=PF.jQ (List.getElem_mem (show i<x.f.subs.length by omega));omega)
  have Ma:AV.eqb (n+2) e3 e3=true:=aa.eqb λy hy=>by
   obtain⟨c,_,rfl⟩:=List.mem_map.1 hy;cases n with
   |zero=>omega
   |succ m=>exact hN I
  refine wi λy hy=>?_;simp only[List.mem_cons,List.not_mem_nil,or_false] at hy;rcases hy with rfl|rfl|rfl|rfl|rfl|rfl|rfl|rfl|rfl
  ·exact cX I
  ·exact cX I
  ·exact cX I
  ·exact cX I
  ·exact cX I
  ·exact cX I
  ·exact hw
  ·exact cX I
  ·exact Ma
section
variable {b:b8}{K:Nat->List AV->AV->Prop}
theorem p_(hh:bk (b.aM K) so AL){op:Nat}{w:AV}(hw:w.cells=[w])(au:w.val=true){J:ad}:
  bu (b.aM K) 0 (.f (.func so) [] []) [.i .u8 (Int.ofNat op),w] J (λr τ=>r= .ok (.ag [.i .u8 (Int.ofNat op),.s [],.ae,w])/\dC J τ):=by
 refine W.mv hh.e hh.p hh.f I I I λz=>?_;have H:Has J []:=Has.nil;refine ai ?_;refine W.cC (c:=[.i .u8 0,.s [],.ae,.ae]) H I I I I λτ c1 H bB=>?_;refine ai ?_;refine W.iu (c:=[.i .u8 (Int.ofNat op),.s [],.ae,w]) I I (nQ I I I (nQ I (by rw[hw,au];rfl) (by rw[hw];rfl) I)) ?_;refine W.st (bM:=[.i .u8 (Int.ofNat op),.s [],.ae,w]) H 0 I I I I I I λbh ea H bp=>?_;refine ai ?_;exact aj.ret ⟨rfl,_,sA (fX I (H.get _ (.head _)) I),rfl,by omega,λi o h=>bp _ _ (by have:=ad.bt h;omega) (bB _ _ h)⟩
theorem VN(hh:bk (b.aM K) x4 EJ){bZ:List Nat}{J:ad}:
  bu (b.aM K) 0 (.f (.func x4) [] []) [.s bZ] J (λr τ=>r= .ok (.ag [.i .u8 1,.s bZ,.ae,.ae])/\dC J τ):=by
 refine W.mv hh.e hh.p hh.f I I I λz=>?_;have H:Has J []:=Has.nil;refine ai ?_;refine W.cC (c:=[.i .u8 0,.s [],.ae,.ae]) H I I I I λτ c1 H bB=>?_;refine ai ?_;refine W.st H 0 I I I I I I λbh ea H bp=>?_;refine ai ?_;exact aj.ret ⟨rfl,_,sA (fX I (H.get _ (.head _)) I),rfl,by omega,λi o h=>bp _ _ (by have:=ad.bt h;omega) (bB _ _ h)⟩
theorem b4c(hh:bk (b.aM K) x5 EK){d op:Nat}{bZ fL:List Nat}{w:AV}{l:List Nat}{v:AV}(hw:w.cells=[w])(L6:w.val=true){J:ad}(au:eF J v l)(hl:l.length<2^20):
  bu (b.aM K) 0 (.f (.func x5) [] []) [ah d,.ag [.i .u8 (Int.ofNat op),.s bZ,.ae,w],.s fL,v] J (λr τ=>∃e3,r= .ok (.ag [ah d,ah 0,.b false,.i .u8 (Int.ofNat op),.s bZ,.ae,w,.s fL,e3])/\iO (λi=>J.next<=i) τ (some 2) e3 (l.map λn=>.ag [ah n,ah n])/\dC J τ):=by
 refine W.mv hh.e hh.p hh.f I I I λz=>?_;have H:Has J []:=Has.nil;have pT:=au.jN;refine ai ?_;generalize aS:J.next=q;refine W.cy (c:=[.i .u8 (Int.ofNat op),.s bZ,.ae,w]) H aS I I I I I λτ c1 H bB=>?_;refine ai ?_;refine W.cC H c1 I I I λbh ea H bp=>?_;refine ai ?_;refine W.ko (c:=[ah d,ah 0,.b false,.i .u8 (Int.ofNat op),.s bZ,.ae,w,.s fL,.ae]) H ea I I I I I I λbU eT H bc=>?_;have cL:∀i o,J.get i=some o->bU.get i=some o:=λi o h=>bc _ _ (bp _ _ (bB _ _ h));have oT:=au.aO (τ:=bU) λi o _=>cL i o;have pT:=oT.jN;refine ai ?_;show bO _ _ _ _ _ _ _ _;refine aj.each l.length (λj f aH=>(∃e3,aH.get (q+2)=some (.cells [ah d,ah 0,.b false,.i .u8 (Int.ofNat op),.s bZ,.ae,w,.s fL,e3])/\Sl aH (some 2) e3 ((l.take j).map λn=>.ag [ah n,ah n])/\(l.take j=[]->e3= .ae)/\∀o,e3.at? =some o->bU.next<=o)/\(∀i o,i≠q+2->bU.get i=some o->aH.get i=some o)/\bU.next<=aH.next/\sat [(8,aK (q+1)),(9,aK (q+2)),(16,v)] f) (by omega) ⟨⟨.ae,H.get _ (.head _),.nil,λ_=>rfl,λ_ h=>by cases h⟩,λ_ _ _ h=>h,Nat.le_refl _,rfl,rfl,rfl,trivial⟩ I I (λj g aH aA aV hi hm=>?_) (λg aH aV hi=>?_)
 ·obtain⟨⟨e3,hg,aa,po,mM⟩,c7,hn,fI,m6,sH,_⟩:=aV;refine aj.norm [(8,aK (q+1)),(9,aK (q+2)),(16,v),(18,ah j),(17,ah l.length)] ⟨fI,m6,sH,hi,hm,trivial⟩ λg=>?_;have H:Has aH [(q+2,[ah d,ah 0,.b false,.i .u8 (Int.ofNat op),.s bZ,.ae,w,.s fL,e3])]:=Has.nil.cons hg (by simp);have pT:=(oT.aO (τ:=aH) λi o hi=>c7 i o (by have:=au.lt hi;omega)).jN;refine ai ?_;refine W.pu (c:=[ah l[j],ah l[j]]) (.ag [ah l[j],ah l[j]]) aa I I I I I I I I I (by rw[List.length_map,List.length_take];omega) λbA gg wh Bz _ o2 ck=>?_;have H:Has gg [(q+2,[ah d,ah 0,.b false,.i .u8 (Int.ofNat op),.s bZ,.ae,w,.s fL,e3])]:=Has.nil.cons (ck _ _ (λe=>by have:=mM _ e;omega) hg) (by simp);refine ai ?_;refine W.st (bM:=[ah d,ah 0,.b false,.i .u8 (Int.ofNat op),.s bZ,.ae,w,.s fL,bA]) H 0 I I I I wh.j7 (by rw[wh.kL];rfl) λhP nr H hQ=>?_;refine ai ?_;refine⟨rfl,rfl,⟨bA,H.get _ (.head _),?_,λh=>?_,λo ho=>by rw[Bz] at ho;cases ho;omega⟩,λi o hi ho=>hQ _ _ hi (ck _ _ (λe=>by have:=mM _ e;have:=ad.bt ho;omega) (c7 _ _ hi ho)),by omega,rfl,rfl,rfl,trivial⟩
  ·rw[List.take_succ_eq_append_getElem aA,List.map_append];exact wh.aO λi o hi=>hQ _ _ (λe=>by rw[Bz] at hi;cases hi;omega)
  ·have:=congrArg List.length h;rw[List.length_take,List.length_nil] at this;omega
 ·obtain⟨⟨e3,hg,aa,po,mM⟩,c7,hn,fI,m6,_⟩:=aV;refine aj.norm [(8,aK (q+1)),(9,aK (q+2))] ⟨fI,m6,trivial⟩ λg=>?_;rw[List.take_length] at aa po;have iH:=c7 _ _ (show q+1≠q+2 by omega) (H.get _ (.tail _ (.head _)));have H:Has aH [(q+1,[ah 0,ah 0,.b false,.i .u8 0,.s [],.ae,.ae,.s [],.ae]),(q+2,[ah d,ah 0,.b false,.i .u8 (Int.ofNat op),.s bZ,.ae,w,.s fL,e3])]:=(Has.nil.cons hg (by simp)).cons iH (by simp);refine ai ?_;refine W.st (bM:=[ah d,ah 0,.b false,.i .u8 (Int.ofNat op),.s bZ,.ae,w,.s fL,e3]) H 0 I I I I I I λeM kj H fK=>?_;refine ai ?_;refine aj.ret ⟨rfl,_,sA (fX I (H.get _ (.head _)) I),e3,rfl,?_,by omega,λi o h=>fK _ _ (by have:=ad.bt h;omega) (c7 _ _ (by have:=ad.bt h;omega) (cL _ _ h))⟩;have F1:=aa.aO (τ:=eM) λi o hi=>fK _ _ (by have:=mM i hi;omega);cases l with
  |nil=>rw[po I];exact .nil
  |cons x l=>
   generalize hx:(x::l).map (λn=>AV.ag [ah n,ah n])=xs at F1;cases F1 with
   |nil=>simp at hx
   |al o cap xs rest Mb F1 az=>exact .al o cap xs rest (by have:=mM o I;omega) Mb F1 az (λe=>by subst e;simp at hx)
end
structure VO(m:Nat)(dt dx dz:AV)(a2:List AV)(bE:Nat->Prop):Prop where
 l:∀o,dt.at? =some o->bE o/\o≠m/\dx.at? ≠some o/\dz.at? ≠some o
 f:∀o,dx.at? =some o->bE o/\o≠m/\dz.at? ≠some o
 g:∀o,dz.at? =some o->bE o/\o≠m
 s:∀i (h:i<a2.length) o,(a2[i]).at? =some o->bE o/\o≠m/\dt.at? ≠some o/\dx.at? ≠some o/\dz.at? ≠some o
 cp:∀i j (h:i<a2.length) (h':j<a2.length),i≠j->∀o,(a2[i]).at? =some o->(a2[j]).at? ≠some o
structure ja(τ:ad)(m:Nat)(bE:Nat->Prop)(L:List a1)(ab:List (List Nat))(ax:List Nat):Prop where
 lt:∀i,bE i->i<τ.next
 ex:∃dt dx dz dG a2,τ.get m=some (.cells [dt,dx,dz])/\Sl τ (some 9) dt dG/\dG.length=L.length/\(∀i (h:i<dG.length) (h':i<L.length),jR (λi=>¬bE i) τ L[i] dG[i])/\Sl τ none dx a2/\a2.length=ab.length/\(∀i (h:i<a2.length) (h':i<ab.length),eF τ a2[i] ab[i])/\eF τ dz ax/\((1<ab.length->(∀o l c,dx= .al o 0 l none c->c=none)/\∀o l c,dz= .al o 0 l none c->c=none)/\∀o l c,dt= .al o 0 l (some 9) c->c=none)/\bE m/\VO m dt dx dz a2 bE
theorem ja.aO{J τ:ad}{m:Nat}{bE:Nat->Prop}{L:List a1}{ab:List (List Nat)}{ax:List Nat}(h:ja J m bE L ab ax)(M:dC J τ):ja τ m bE L ab ax:=by
 obtain⟨dt,dx,dz,dG,a2,hm,hl,ez,fE,hf,dE,ki,hg,fV,ic,ao⟩:=h.ex;exact⟨λi hi=>by have:=h.lt i hi;have:=M.1;omega,dt,dx,dz,dG,a2,M.2 _ _ hm,hl.aO λi o _=>M.2 i o,ez,λi a b=>(fE i a b).aO λi c hi aa=>⟨hi,M.2 _ _ aa⟩,hf.aO λi o _=>M.2 i o,dE,λi a b=>(ki i a b).aO λi o _=>M.2 i o,hg.aO λi o _=>M.2 i o,fV,ic,ao⟩
theorem Mc:∀ {a2:List AV},(∀x∈a2,conf none x=true)->a2.flatMap AV.cells=a2
 |[],_=>rfl
 |x::l,h=>by rw[List.flatMap_cons,DR (h x (by simp)),Mc λy hy=>h y (List.mem_cons_of_mem _ hy)];rfl
theorem b4d{a2 rest:List AV}{k:Nat}{w:AV}(az:k<a2.length)(hw:w.cells=[w]):storeCells (a2++rest) (k*shN none) w.cells=some (a2.set k w++rest):=by
 have e:k*shN none=k:=Nat.mul_one k;rw[e,hw];unfold storeCells;rw[if_pos (Nat.ble_eq_true_of_le (by show k+1<=_;rw[List.length_append];omega))];show some ((a2++rest).take k++([w]++(a2++rest).drop (k+1)))=_;rw[List.set_eq_take_append_cons_drop,if_pos az,List.take_append_of_le_length (by omega),List.drop_append_of_le_length (by omega)];simp
theorem b4e{J:ad}{v w:AV}{a2:List AV}{k:Nat}(h:Sl J none v a2)(az:k<a2.length)(hw:conf none w=true):∃o rest,v.at? =some o/\J.get o=some (.cells (a2++rest))/\∀τ:ad,τ.get o=some (.cells (a2.set k w++rest))->Sl τ none v (a2.set k w):=by
 cases h with
 |nil=>simp at az
 |al o cap xs rest hg aa fV=>
  refine⟨o,rest,rfl,by rw[hg,Mc aa],λτ h=>?_⟩;have gY:∀y∈a2.set k w,conf none y=true:=λy hy=>by
   rcases List.mem_or_eq_of_mem_set hy with h|rfl
   ·exact aa y h
   ·exact hw
  have:=Sl.al (U:=none) o cap (a2.set k w) rest (by rw[h,Mc gY]) gY (by rw[List.length_set];exact fV);rwa[List.length_set] at this
section
variable {b:b8}{K:Nat->List AV->AV->Prop}
theorem BB(hh:bk (b.aM K) vQ AI){m:Nat}{bE:Nat->Prop}{L:List a1}{ab:List (List Nat)}{ax:List Nat}{J:ad}(cP:ja J m bE L ab ax)(bq:0<ab.length)(hL:L.length<2^20/\ab.length<2^20/\∀l∈ab,l.length<2^20){x:a1}{VP:AV}(hx:jR (λi=>¬bE i) J x VP)(c1l:x.f.dep<=400):
  bu (b.aM K) 0 (.f (.func vQ) [] []) [aK m,VP] J (λr τ=>r= .ok (ah (L.length+1))/\∃fG,ja τ m fG (L++[{x with bY:=ab.length-1}]) (ab.set (ab.length-1) (ab.getD (ab.length-1) []++[L.length+1])) ax/\pU bE fG J τ):=by
 refine W.code hh.e hh.p hh.f I I I I λz=>?_;obtain⟨dt,dx,dz,dG,a2,hm,hl,ez,fE,hf,dE,ki,hg,fV,ic,ao⟩:=cP.ex;cases hx with
 |mk w e3 VQ DE=>
  have H:Has J [(m,[dt,dx,dz])]:=Has.nil.cons hm (by simp);have lm:=ad.bt hm;have jk:=hf.vw;refine ai ?_;generalize aS:J.next=q;refine W.cy (c:=[ah x.bY,ah x.op,.b x.hyp,.i .u8 (Int.ofNat x.f.op),.s x.f.bZ,.ae,w,.s x.gQ,e3]) H aS I I I I I λτ c1 H bB=>?_;have jk:=(hf.aO (τ:=τ) λi o _=>bB i o).vw;refine ai ?_;refine W.st (bM:=[ah (a2.length-1),ah x.op,.b x.hyp,.i .u8 (Int.ofNat x.f.op),.s x.f.bZ,.ae,w,.s x.gQ,e3]) H 0 I I I I I I λbh ea H bp=>?_;have cL:∀i o,J.get i=some o->bh.get i=some o:=λi o h=>bp _ _ (by have:=ad.bt h;omega) (bB _ _ h);have mU:=hl.aO (τ:=bh) λi o _=>cL i o;have BC:jR (λi=>¬bE i) bh {x with bY:=a2.length-1} (.ag [ah (a2.length-1),ah x.op,.b x.hyp,.i .u8 (Int.ofNat x.f.op),.s x.f.bZ,.ae,w,.s x.gQ,e3]):=.mk w e3 (VQ.aO (λi c h h'=>⟨h,cL _ _ h'⟩) _ (Nat.le_refl _)) (DE.aO λi c h h'=>⟨h,cL _ _ h'⟩);have lz:=BC.eqb (n:=(b.aM K).bn) (by show 2*x.f.dep+10<=b.bn+1000;omega);refine ai ?_;refine W.fJ H I I I (.tail _ (.head _)) I (cX hl.lf) ?_;refine W.fJ (v:=.ag [ah (a2.length-1),ah x.op,.b x.hyp,.i .u8 (Int.ofNat x.f.op),.s x.f.bZ,.ae,w,.s x.gQ,e3]) H I I I (.head _) I lz ?_;refine W.bI (c:=[ah (a2.length-1),ah x.op,.b x.hyp,.i .u8 (Int.ofNat x.f.op),.s x.f.bZ,.ae,w,.s x.gQ,e3]) H I I I I λbU eT H bc=>?_;have gY:=H.get _ (.head _);have qa:=H.get _ (.tail _ (.tail _ (.head _)));refine ai ?_;refine W.ap (w:=.al bh.next 0 1 (some 9) (some 1)) (.ag [ah (a2.length-1),ah x.op,.b x.hyp,.i .u8 (Int.ofNat x.f.op),.s x.f.bZ,.ae,w,.s x.gQ,e3]) [] (mU.aO λi o _=>bc i o) (by show readList bU (.al bh.next 0 1 (some 9) (some 1))=_;show(match bU.get bh.next with|some (.cells c)=>elems (some 9) 1 (c.drop 0)|_=>none)=_;rw[gY];rfl) (λz bg=>by rw[List.mem_singleton.1 bg];rfl) (by show(3*(dG.length+1)+2000)*136<=_;omega) I I I I λrr cq Be mr b4f fl b5=>?_;have H:Has cq [(m,[dt,dx,dz])]:=Has.nil.cons (b5 _ _ (λe=>(ao.l _ e).2.1 I) qa) (by simp);refine ai ?_;refine W.st (bM:=[rr,dx,dz]) H 0 I I I I Be.j7 (by rw[Be.kL];rfl) λdD ir H cW=>?_;have Md:∀i o,i≠m->dt.at? ≠some i->J.get i=some o->dD.get i=some o:=λi o h1 h2 h=>cW _ _ h1 (b5 _ _ h2 (bc _ _ (cL _ _ h)));have Me:=hf.aO (τ:=dD) λi o hi=>Md i o (ao.f _ hi).2.1 λe=>(ao.l _ e).2.2.1 hi;have jk:=Me.vw;have Mf:Sl dD (some 9) rr (dG++[.ag [ah (a2.length-1),ah x.op,.b x.hyp,.i .u8 (Int.ofNat x.f.op),.s x.f.bZ,.ae,w,.s x.gQ,e3]]):=Be.aO λi o hi=>cW _ _ (λe=>by rw[mr] at hi;cases hi;omega);have b4g:=H.get _ (.head _);refine ai ?_;clear jk;obtain⟨o,l5,oj,fz,mx,il,k7,hS⟩:=Me.ff (j:=a2.length-1) (by omega);have VR:=(ki (a2.length-1) (by omega) (by omega)).aO (τ:=dD) λi bH hi=>by
   obtain⟨a3,bm,cv,dU,en⟩:=ao.s _ _ _ hi;exact Md i bH bm cv
  have VS:∀s:ad,lenA s 1 rr=some (dG.length+1):=λs=>by rw[Mf.len,List.length_append];rfl
  have E6:=(ao.f _ fz).2.1;refine W.fJ H I I I (.head _) I (cX hf.lf) ?_;refine ai ?_;refine W.fJ H I I I (.head _) I (cX hf.lf) ?_;refine ai ?_;rw[pS mx];refine W.ya il I I I hS (cX VR.lf) ?_;refine ai ?_;refine W.fJ H I I I (.head _) I (cX Mf.lf) ?_;refine W.pN (v:=ah (dG.length+1)) I I I (λs=>ts I (VS s)) (cX I) ?_;refine W.bI (c:=[ah (dG.length+1)]) H I I I I λeb iE H dQ=>?_;have gY:=H.get _ (.head _);have qa:=H.get _ (.tail _ (.head _));refine W.now [(18,m,[rr,dx,dz]),(18,o,l5),(18,m,[rr,dx,dz]),(18,m,[rr,dx,dz])] [(20,m,[rr,dx,dz])] I I ⟨qa,dQ _ _ il,qa,qa,trivial⟩ ?_;refine W.ap (w:=.al dD.next 0 1 none (some 1)) (ah (dG.length+1)) [] (VR.aO λi o _=>dQ i o) (by show readList eb (.al dD.next 0 1 none (some 1))=_;show(match eb.get dD.next with|some (.cells c)=>elems none 1 (c.drop 0)|_=>none)=_;rw[gY];rfl) (λz bg=>by rw[List.mem_singleton.1 bg];rfl) (by rw[List.length_map];have:=hL.2.2 _ (List.getElem_mem (show a2.length-1<ab.length by omega));show(3*(_+1)+2000)*8<=_;omega) I I I I λMg eM F2 F3 _ kj fK=>?_;have F4:∀i bH,(a2[a2.length-1]'(by omega)).at? ≠some i->dD.get i=some bH->eM.get i=some bH:=λi bH h1 h2=>fK i bH h1 (dQ _ _ h2);have BD:=ao.s (a2.length-1) (by omega);have b4h:=Me.aO (τ:=eM) λi bH hi=>F4 i bH λe=>(BD _ e).2.2.2.1 hi;obtain⟨hc,rest,l4,w6,fS⟩:=b4e (w:=Mg) b4h (show a2.length-1<a2.length by omega) F2.j7;obtain rfl:o=hc:=by rw[fz] at l4;exact Option.some.inj l4
  have H:Has eM [(o,a2++rest),(m,[rr,dx,dz])]:=(Has.nil.cons (F4 _ _ (λe=>(BD _ e).2.1 I) b4g) (by simp)).cons w6 (by simp;omega);refine ai ?_;rw[pS mx];refine ai ?_;refine W.st (bM:=a2.set (a2.length-1) Mg++rest) H 0 I I I I F2.j7 (b4d (by omega) F2.kL) λe9 ti H nS=>?_;refine ai ?_;refine W.len I I I (VS _) ?_;refine ai ?_;have Mh:=(ao.f _ fz).1;have Mi:∀i bH,i≠o->(a2[a2.length-1]'(by omega)).at? ≠some i->i≠m->dt.at? ≠some i->J.get i=some bH->e9.get i=some bH:=λi bH h1 h2 h3 aQ h=>nS _ _ h1 (F4 _ _ h2 (Md i bH h3 aQ h));have VT:∀i bH,¬bE i->J.get i=some bH->e9.get i=some bH:=λi bH hi h=>Mi i bH (λe=>hi (e▸Mh)) (λe=>hi (BD _ e).1) (λe=>hi (e▸ic)) (λe=>hi (ao.l _ e).1) h;have VU:q<bU.next/\q<eb.next/\bU.next<eb.next/\eb.next<e9.next:=by omega
  have qb:∀i,bE i->i<q:=λi hi=>by have:=cP.lt i hi;omega
  refine aj.ret ⟨rfl,by rw[ez];rfl,λi=>bE i\/i=bU.next\/i=eb.next,?_,?_⟩
  ·have qw:∀i c,¬bE i->J.get i=some (.cells c)->¬(bE i\/i=bU.next\/i=eb.next)/\e9.get i=some (.cells c):=λi c hi hg=>⟨λh=>by
     have:=ad.bt hg;rcases h with h|h|h
     ·exact hi h
     ·omega
     ·omega,VT _ _ hi hg⟩
   refine⟨λi hi=>?_,rr,dx,dz,dG++[.ag [ah (a2.length-1),ah x.op,.b x.hyp,.i .u8 (Int.ofNat x.f.op),.s x.f.bZ,.ae,w,.s x.gQ,e3]],a2.set (a2.length-1) Mg,H.get _ (.tail _ (.head _)),?_,?_,?_,fS e9 (H.get _ (.head _)),?_,?_,?_,?_,.inl ic,?_⟩
   ·rcases hi with h|h|h
    ·have:=qb i h;omega
    ·omega
    ·omega
   ·exact Mf.aO λi bH hi h=>nS _ _ (λe=>by rw[mr] at hi;cases hi;have:=qb _ Mh;omega) (F4 _ _ (λe=>by rw[mr] at hi;cases hi;have:=qb _ (BD _ e).1;omega) h)
   ·rw[List.length_append,List.length_append,ez];rfl
   ·intro i h h';by_cases CV:i<dG.length
    ·rw[List.getElem_append_left CV,List.getElem_append_left (by omega)];exact(fE i CV (by omega)).aO qw
    ·have e:i=dG.length:=by rw[List.length_append] at h;simp only[List.length_cons,List.length_nil] at h;omega
     subst e;rw[List.getElem_concat_length I,List.getElem_concat_length ez];rw[dE];exact .mk w e3 (VQ.aO qw _ (Nat.le_refl _)) (DE.aO qw)
   ·rw[List.length_set,List.length_set,dE]
   ·intro i h h';rw[List.length_set] at h h';rw[List.getElem_set,List.getElem_set];by_cases sK:a2.length-1=i
    ·rw[if_pos sK,if_pos (by omega),p8 (by omega)];unfold eF;rw[List.map_append];have:=F2.aO (τ:=e9) λi bH hi=>nS _ _ (λe=>by rw[F3] at hi;cases hi;have:=qb _ Mh;omega);rw[ez] at this;simp only[dE] at this;exact this
    ·rw[if_neg sK,if_neg (by omega)];exact(ki i h h').aO λc bH aa=>by
      obtain⟨a3,bm,cv,dU,en⟩:=ao.s i h c aa;exact Mi c bH (λe=>dU (e▸fz)) (ao.cp _ _ h (by omega) (λe=>sK e.symm) c aa) bm cv
   ·exact hg.aO λc bH aa=>Mi c bH (λe=>(ao.f _ fz).2.2 (e▸aa)) (λe=>(BD _ e).2.2.2.2 aa) (ao.g _ aa).2 (λe=>(ao.l _ e).2.2.2 aa)
   ·rw[List.length_set];exact⟨fV.1,b4f⟩
   ·refine⟨λc aa=>?_,λc aa=>?_,λc aa=>?_,λi h c aa=>?_,λi j h h' gp c aa gY=>?_⟩
    ·rw[mr] at aa;cases aa;exact⟨.inr (.inl I),by omega,λe=>by have:=qb _ (ao.f _ e).1;omega,λe=>by have:=qb _ (ao.g _ e).1;omega⟩
    ·exact⟨.inl (ao.f _ aa).1,(ao.f _ aa).2⟩
    ·exact⟨.inl (ao.g _ aa).1,(ao.g _ aa).2⟩
    ·rw[List.length_set] at h;rw[List.getElem_set] at aa;by_cases sK:a2.length-1=i
     ·rw[if_pos sK,F3] at aa;cases aa;exact⟨.inr (.inr I),by omega,λe=>by rw[mr] at e;have:=Option.some.inj e;omega,λe=>by have:=qb _ (ao.f _ e).1;omega,λe=>by have:=qb _ (ao.g _ e).1;omega⟩
     ·rw[if_neg sK] at aa;obtain⟨a3,bm,cv,dU,en⟩:=ao.s i h c aa;exact⟨.inl a3,bm,λe=>by rw[mr] at e;have:=Option.some.inj e;have:=qb _ a3;omega,dU,en⟩
    ·rw[List.length_set] at h h';rw[List.getElem_set] at aa gY;by_cases sK:a2.length-1=i
     ·rw[if_pos sK,F3] at aa;rw[if_neg (λe=>gp (by omega))] at gY;have:=qb _ (ao.s _ h' _ gY).1;have:=Option.some.inj aa;omega
     ·rw[if_neg sK] at aa;by_cases D4:a2.length-1=j
      ·rw[if_pos D4,F3] at gY;have:=qb _ (ao.s _ h _ aa).1;have:=Option.some.inj gY;omega
      ·rw[if_neg D4] at gY;exact ao.cp i j h h' gp c aa gY
  ·refine⟨by omega,λc bH aa h=>VT c bH aa h,λc aa=>?_⟩;rcases aa with h|h|h
   ·exact .inl h
   ·right;omega
   ·right;omega
end
def sL:List Nat:=[105,109,112,73]
def uh:List Nat:=[110,111,116,73]
def mz(a c:PF)(first last:Nat):a1:=if c= .ct then⟨0,0,false,.neg a,uh,[(first,last)]⟩ else⟨0,0,false,.bin 2 a c,sL,[(first,last)]⟩
theorem W.l9{cg:kJ}{env:Env}{aJ:Option Nat}{D:List (Nat ⊕ (AV×List AV))}{n:Nat}{F:List (Nat×AV)}{z:Nat->AV}{J:ad}{Q:dS}{d:Nat}{U:Option Nat}{x hi:aF}{g:Option (Nat×Bool)}{ops:List aY}{v:AV}{xs:List AV}{k:Nat}(h:Sl J U v xs)(hn:∀o l c,v= .al o 0 l U c->c=none)(az:k<=xs.length)(hd:Nat.blt d n=true)(hw:wtL g n F=true)(h1:c8 env n F z x=some v)(h2:c8 env n F z hi=some (ah k))
  (aa:∀w,Sl J U w (xs.take k)->w.at? =v.at? →(∀o l c,w= .al o 0 l U c->c=none)->b9 cg env aJ D n ops (bs ((d,w)::F) z) J Q):b9 cg env aJ D n (⟨some d,.ks U x none (some hi) none,g,[]⟩::ops) (bs F z) J Q:=by
 obtain⟨w,aN,a4,cQ,h6⟩:=Sl.cut (aq:=c8 env n F z) (hi:=hi) (k:=k) h hn az h2;refine W.val (v:=w) (af:=J) hd hw ?_ (aa w a4 cQ h6);show(match c8 env n F z x with|some x=>(match sliceA (c8 env n F z) U x none (some hi) none with|some v=>some (bL.val v J)|none=>none)|none=>none)=_;rw[h1];show(match sliceA (c8 env n F z) U v none (some hi) none with|some v=>some (bL.val v J)|none=>none)=_;rw[aN]
section
variable {b:b8}{K:Nat->List AV->AV->Prop}
theorem b4i(hh:bk (b.aM K) AJ Kb)(aA:bk (b.aM K) so AL)(ha:bk (b.aM K) vQ AI){m:Nat}{bE:Nat->Prop}{L:List a1}{ab:List (List Nat)}{ax:List Nat}{J:ad}(cP:ja J m bE L ab ax)(bq:2<=ab.length)(hL:L.length<2^20/\ab.length<2^20/\∀l∈ab,l.length<2^20)(ki:ax.length=ab.length){first:Nat}(xu:ax[ab.length-1]? =some first)(Dp:1<=first/\first<=L.length){x y:a1}(hx:L[first-1]? =some x)(hy:L[L.length-1]? =some y)(F5:y.bY=ab.length-1)(hd:x.f.dep<=300/\y.f.dep<=300):
  bu (b.aM K) 0 (.f (.func AJ) [] []) [aK m] J (λr τ=>r= .ok (.a6 [])/\∃fG,ja τ m fG (L++[{mz x.f y.f first L.length with bY:=ab.length-2}]) ((ab.take (ab.length-1)).set (ab.length-2) (ab.getD (ab.length-2) []++[L.length+1])) (ax.take (ab.length-1))/\pU bE fG J τ):=by
 refine W.nL hh.e hh.p hh.f I I I λz=>?_;obtain⟨dt,dx,dz,dG,a2,hm,hl,ez,fE,hf,dE,fO,hg,fV,ic,ao⟩:=cP.ex;have H:Has J [(m,[dt,dx,dz])]:=Has.nil.cons hm (by simp);have jk:=hf.vw;have nk:=hl.vw;have mS:=hg.jN;obtain⟨VV,b4j⟩:=List.getElem?_eq_some_iff.1 xu;obtain⟨h_,BC⟩:=List.getElem?_eq_some_iff.1 hx;obtain⟨b3p,VW⟩:=List.getElem?_eq_some_iff.1 hy;have aN:ax[a2.length-1]'(by omega)=first:=by simp only[dE];exact b4j
 obtain⟨Mj,lh,c1m,c1n,VX,F6,Mk,b4k⟩:=hl.ff (j:=dG.length-1) (by omega);obtain⟨b4l,b4m,rx,c1o,b4n,VY,VZ,b4o⟩:=hl.ff (j:=first-1) (by omega);have BE:=fE (dG.length-1) (by omega) (by omega);have BF:=fE (first-1) (by omega) (by omega);rw[show L[dG.length-1]'(by omega)=y from by simp only[ez];exact VW] at BE;rw[BC] at BF;generalize dG[dG.length-1]'(by omega)=gd at BE Mk b4k;generalize dG[first-1]'(by omega)=w_ at BF VZ b4o;cases BE with
 |mk wy c1p V0 c1q=>
  cases BF with
  |mk oC c1r V1 se=>
   refine ai ?_;rw[aN,pS VX];refine ai ?_;refine W.q_ (v:=ah y.bY) F6 I I I (by rw[Nat.add_zero,Mk];rfl) ?_;have c1s:y.bY=a2.length-1:=by omega
   refine ai ?_;refine W.fJ H I I I (.head _) I (cX hl.lf) ?_;refine ai ?_;rw[pS b4n];refine ai ?_;refine W.ya (v:=.ag [.i .u8 (Int.ofNat x.f.op),.s x.f.bZ,.ae,oC]) VY I I I (by rw[<-List.drop_drop,VZ];rfl) (V1.eqb _ (Nat.le_refl _) (by show 2*x.f.dep+1<=b.bn+1000;omega)) ?_;refine ai ?_;refine W.fJ H I I I (.head _) I (cX hl.lf) ?_;refine ai ?_;rw[pS VX];refine ai ?_;refine W.ya (v:=.ag [.i .u8 (Int.ofNat y.f.op),.s y.f.bZ,.ae,wy]) F6 I I I (by rw[<-List.drop_drop,Mk];rfl) (V0.eqb _ (Nat.le_refl _) (by show 2*y.f.dep+1<=b.bn+1000;omega)) ?_;generalize aS:J.next=q;refine W.cC (c:=[.i .u8 0,.s [],.ae,.ae]) H aS I I I λτ c1 H bB=>?_;refine W.cC (c:=[.i .u8 0,.s [],.ae,.ae]) H c1 I I I λbh ea H bp=>?_;have cL:∀i o,J.get i=some o->bh.get i=some o:=λi o h=>bp _ _ (bB _ _ h);have qa:=cL _ _ hm;refine W.now [(20,Mj,lh),(20,m,[dt,dx,dz]),(20,b4l,b4m),(20,m,[dt,dx,dz])] [(21,Mj,lh),(21,m,[dt,dx,dz])] I I ⟨cL _ _ F6,qa,cL _ _ VY,qa,trivial⟩ ?_;refine W.st (bM:=[.i .u8 (Int.ofNat x.f.op),.s x.f.bZ,.ae,oC]) H 1 I I I I I I λbU eT H bc=>?_;have lm:=ad.bt hm;have Ml:∀i o,J.get i=some o->bU.get i=some o:=λi o h=>bc _ _ (by have:=ad.bt h;omega) (cL _ _ h);refine W.now [(21,Mj,lh),(21,m,[dt,dx,dz])] [] I I ⟨Ml _ _ F6,Ml _ _ hm,trivial⟩ ?_;refine W.st (bM:=[.i .u8 (Int.ofNat y.f.op),.s y.f.bZ,.ae,wy]) H 0 I I I I I I λcq fl H b5=>?_;have Mm:∀i o,J.get i=some o->cq.get i=some o:=λi o h=>b5 _ _ (by have:=ad.bt h;omega) (Ml _ _ h);refine ai ?_;obtain⟨j1,rP⟩:=fV.1 (by omega);refine W.l9 (hf.aO (τ:=cq) λi o _=>Mm i o) j1 (k:=a2.length-1) (by omega) I I I I λlQ Mn ui jA=>?_;refine ai ?_;refine W.l9 (hg.aO (τ:=cq) λi o _=>Mm i o) rP (k:=a2.length-1) (by rw[List.length_map];omega) I I I I λm8 ru nP kN=>?_;refine ai ?_;refine W.st (bM:=[dt,lQ,dz]) H 2 I I I I Mn.j7 (by rw[Mn.kL];rfl) λdD ir H cW=>?_;refine ai ?_;refine W.st (bM:=[dt,lQ,m8]) H 2 I I I I ru.j7 (by rw[ru.kL];rfl) λeb iE H dQ=>?_;have yA:∀i o,i≠m->J.get i=some o->eb.get i=some o:=λi o hi h=>dQ _ _ hi (cW _ _ hi (Mm _ _ h));have V2:∀i o,i≠m->cq.get i=some o->eb.get i=some o:=λi o hi h=>dQ _ _ hi (cW _ _ hi h);have F7:ja eb m bE L (ab.take (ab.length-1)) (ax.take (ab.length-1)):=by
    have uX:∀i (h:i<(a2.take (a2.length-1)).length),(a2.take (a2.length-1))[i]=a2[i]'(by rw[List.length_take] at h;omega):=λi h=>List.getElem_take;refine⟨λi hi=>by have:=cP.lt i hi;omega,dt,lQ,m8,dG,a2.take (a2.length-1),H.get _ (.tail _ (.tail _ (.head _))),hl.aO λi o hi=>yA i o (ao.l _ hi).2.1,ez,λi h h'=>(fE i h h').aO λc _ aa hg=>⟨aa,yA _ _ (λe=>aa (e▸ic)) hg⟩,Mn.aO λi o hi=>V2 i o (ao.f _ (ui▸hi)).2.1,by rw[List.length_take,List.length_take];omega,λi h h'=>?_,?_,⟨λ_=>⟨jA,kN⟩,fV.2⟩,ic,?_⟩
    ·rw[uX i h,List.getElem_take];exact(fO i _ _).aO λc o aa=>yA c o (ao.s i _ c aa).2.1
    ·have:=ru.aO (τ:=eb) λi o hi=>V2 i o (ao.g _ (nP▸hi)).2;rw[<-List.map_take,dE] at this;exact this
    ·refine⟨λo ho=>?_,λo ho=>?_,λo ho=>?_,λi h o ho=>?_,λi j h h' gp o ho jF=>?_⟩
     ·rw[ui,nP];exact ao.l o ho
     ·rw[ui] at ho;rw[nP];exact ao.f o ho
     ·rw[nP] at ho;exact ao.g o ho
     ·rw[uX i h] at ho;rw[ui,nP];exact ao.s i _ o ho
     ·rw[uX i h] at ho;rw[uX j h'] at jF;exact ao.cp i j _ _ gp o ho jF
   refine ai ?_;have V3:eu (λi=>¬bE i) eb x.f (.ag [.i .u8 (Int.ofNat x.f.op),.s x.f.bZ,.ae,oC]):=V1.aO (λi c hi h=>⟨hi,yA _ _ (λe=>hi (e▸ic)) h⟩) _ (Nat.le_refl _);have b4p:eu (λi=>¬bE i) eb y.f (.ag [.i .u8 (Int.ofNat y.f.op),.s y.f.bZ,.ae,wy]):=V0.aO (λi c hi h=>⟨hi,yA _ _ (λe=>hi (e▸ic)) h⟩) _ (Nat.le_refl _);have b4q:eb.next=q+2:=by omega
   have yB:∀i,bE i->i<q:=λi hi=>by have:=cP.lt i hi;omega
   refine W.bI (c:=[.i .u8 (Int.ofNat x.f.op),.s x.f.bZ,.ae,oC]++[.i .u8 (Int.ofNat y.f.op),.s y.f.bZ,.ae,wy]) H b4q I I I λeM kj H fK=>?_;have Mb:=H.get _ (.head _);refine ai ?_;refine W.an trivial I I I (p_ (op:=6) aA I I) λr e9 ⟨aq,hO⟩=>⟨_,aq,?_⟩
   have H:=H.aO hO.2;have FG:=hO.1;refine ai ?_;refine W.bI (c:=[ah first,ah dG.length]) H I I I I λi_ qK H jG=>?_;refine ai ?_;have b4r:=H.get _ (.head _);refine W.ko (c:=[ah 0,ah 0,.b false,.i .u8 6,.s [],.ae,.al (q+2) 0 2 (some 4) (some 2),.s sL,.al e9.next 0 1 (some 2) (some 1)]) H I I I I I I I λgg o2 H ck=>?_;have BG:∀i o,eb.get i=some o->gg.get i=some o:=λi o h=>ck _ _ (jG _ _ (hO.2 _ _ (fK _ _ h)));have fN:iO (λi=>¬bE i) gg (some 2) (.al e9.next 0 1 (some 2) (some 1)) ([(first,L.length)].map λc=>.ag [ah c.1,ah c.2]):=.al e9.next (some 1) [.ag [ah first,ah L.length]] [] (λh=>by have:=yB _ h;omega) (by rw[<-ez];exact H.get _ (.tail _ (.head _))) (λy hy=>by rw[List.mem_singleton.1 hy];rfl) (.inr I) (by simp);have b4s:=V3.aO (τ:=gg) (λi c hi h=>⟨hi,BG _ _ h⟩) _ (Nat.le_refl _);have b4t:=b4p.aO (τ:=gg) (λi c hi h=>⟨hi,BG _ _ h⟩) _ (Nat.le_refl _);have b4u:=F7.aO (τ:=gg) ⟨by omega,BG⟩;have ns:(ab.take (ab.length-1)).length=ab.length-1:=by rw[List.length_take];omega
   have BH:L.length<2^20/\(ab.take (ab.length-1)).length<2^20/\∀l∈ab.take (ab.length-1),l.length<2^20:=⟨hL.1,by omega,λl hl=>hL.2.2 l (List.mem_of_mem_take hl)⟩
   have fin:∀ {eM e9:ad} {fG:Nat->Prop} {Mo:a1},dC eb eM->ja e9 m fG (L++[{Mo with bY:=(ab.take (ab.length-1)).length-1}]) ((ab.take (ab.length-1)).set ((ab.take (ab.length-1)).length-1) ((ab.take (ab.length-1)).getD ((ab.take (ab.length-1)).length-1) []++[L.length+1])) (ax.take (ab.length-1))->pU bE fG eM e9->ja e9 m fG (L++[{Mo with bY:=ab.length-2}]) ((ab.take (ab.length-1)).set (ab.length-2) (ab.getD (ab.length-2) []++[L.length+1])) (ax.take (ab.length-1))/\pU bE fG J e9:=λ{eM e9 fG Mo} M h cA=>by
    rw[ns] at h;have e:(ab.take (ab.length-1)).getD (ab.length-1-1) []=ab.getD (ab.length-2) []:=by
     rw[p8 (by rw[ns];omega),p8 (by omega),List.getElem_take];rfl
    rw[e] at h;refine⟨h,by have:=cA.next;have:=M.1;omega,λc o aa ho=>cA.aO _ _ aa (M.2 _ _ (yA _ _ (λe=>aa (e▸ic)) ho)),λc aa=>?_⟩;rcases cA.own c aa with h|h
    ·exact .inl h
    ·right;have:=M.1;omega
   by_cases wj:y.f= .ct
   ·have dK:y.f.op=2:=by rw[wj];rfl
    refine ai ?_;refine W.bI (c:=[.i .u8 (Int.ofNat x.f.op),.s x.f.bZ,.ae,oC]) H I I I I λhP nr H hQ=>?_;have b4v:=H.get _ (.head _);refine ai ?_;refine W.an trivial I I I (p_ (op:=3) aA I I) λr j9 ⟨aq,F8⟩=>⟨_,aq,?_⟩
    have H:=H.aO F8.2;have aL:=F8.1;refine ai ?_;refine W.st (bM:=[ah 0,ah 0,.b false,.i .u8 3,.s [],.ae,.al gg.next 0 1 (some 4) (some 1),.s sL,.al e9.next 0 1 (some 2) (some 1)]) H 1 I I I I I I λp2 du H eI=>?_;refine ai ?_;refine W.st (bM:=[ah 0,ah 0,.b false,.i .u8 3,.s [],.ae,.al gg.next 0 1 (some 4) (some 1),.s uh,.al e9.next 0 1 (some 2) (some 1)]) H 1 I I I I I I λp3 ne H yp=>?_;have V4:∀i o,i≠i_.next->gg.get i=some o->p3.get i=some o:=λi o hi h=>yp _ _ hi (eI _ _ hi (F8.2 _ _ (hQ _ _ h)));have Mp:∀i o,eb.get i=some o->p3.get i=some o:=λi o h=>V4 _ _ (by have:=ad.bt h;omega) (BG _ _ h);have b4w:=F7.aO (τ:=p3) ⟨by omega,Mp⟩;have b4x:iO (λi=>¬bE i) p3 (some 2) (.al e9.next 0 1 (some 2) (some 1)) ([(first,L.length)].map λc=>.ag [ah c.1,ah c.2]):=.al e9.next (some 1) [.ag [ah first,ah L.length]] [] (λh=>by have:=yB _ h;omega) (V4 _ _ (by omega) (by rw[<-ez];exact ck _ _ b4r)) (λy hy=>by rw[List.mem_singleton.1 hy];rfl) (.inr I) (by simp);have b4y:=V3.aO (τ:=p3) (λi c hi h=>⟨hi,Mp _ _ h⟩) _ (Nat.le_refl _);have BI:jR (λi=>¬bE i) p3 (mz x.f y.f first L.length) (.ag [ah 0,ah 0,.b false,.i .u8 3,.s [],.ae,.al gg.next 0 1 (some 4) (some 1),.s uh,.al e9.next 0 1 (some 2) (some 1)]):=by
     unfold mz;rw[if_pos wj];refine .mk (.al gg.next 0 1 (some 4) (some 1)) _ (.mk (.neg x.f) _ [.ag [.i .u8 (Int.ofNat x.f.op),.s x.f.bZ,.ae,oC]] I (.al gg.next (some 1) [.ag [.i .u8 (Int.ofNat x.f.op),.s x.f.bZ,.ae,oC]] [] (λh=>by have:=yB _ h;omega) (yp _ _ (by omega) (eI _ _ (by omega) (F8.2 _ _ b4v))) (λy hy=>by rw[List.mem_singleton.1 hy];rfl) (.inr I) (by simp)) λi h h'=>?_) b4x
     match i,h,h' with
     |0,_,_=>exact b4y
    refine ai ?_;refine W.an trivial I I I (BB ha b4w (by omega) BH BI (by unfold mz;rw[if_pos wj];show x.f.dep+1<=400;omega)) λr Bi ⟨aq,fG,h1,h2⟩=>⟨_,aq,?_⟩
    refine ai ?_;exact⟨.inr I,rfl,fG,fin ⟨by omega,Mp⟩ h1 h2⟩
   ·have dK:y.f.op≠2:=λh=>wj (by cases Mq:y.f with
     |ct=>rfl
     | ff _=>rw[Mq] at h;cases h
     |neg _=>rw[Mq] at h;cases h
     |bin k _ _=>rw[Mq] at h;have h:4+k.val=2:=h;omega)
    have BI:jR (λi=>¬bE i) gg (mz x.f y.f first L.length) (.ag [ah 0,ah 0,.b false,.i .u8 6,.s [],.ae,.al (q+2) 0 2 (some 4) (some 2),.s sL,.al e9.next 0 1 (some 2) (some 1)]):=by
     unfold mz;rw[if_neg wj];refine .mk (.al (q+2) 0 2 (some 4) (some 2)) _ (.mk (.bin 2 x.f y.f) _ [.ag [.i .u8 (Int.ofNat x.f.op),.s x.f.bZ,.ae,oC],.ag [.i .u8 (Int.ofNat y.f.op),.s y.f.bZ,.ae,wy]] I (.al (q+2) (some 2) [.ag [.i .u8 (Int.ofNat x.f.op),.s x.f.bZ,.ae,oC],.ag [.i .u8 (Int.ofNat y.f.op),.s y.f.bZ,.ae,wy]] [] (λh=>by have:=yB _ h;omega) (ck _ _ (jG _ _ (hO.2 _ _ Mb))) (λy hy=>by rcases List.mem_cons.1 hy with rfl|hy;rfl;rw[List.mem_singleton.1 hy];rfl) (.inr I) (by simp)) λi h h'=>?_) fN
     match i,h,h' with
     |0,_,_=>exact b4s
     |1,_,_=>exact b4t
    refine ai ?_;refine W.an trivial I I I (BB ha b4u (by omega) BH BI (by unfold mz;rw[if_neg wj];show max x.f.dep y.f.dep+1<=400;omega)) λr hP ⟨aq,fG,h1,h2⟩=>⟨_,aq,?_⟩
    refine ai ?_;exact⟨.inr I,rfl,fG,fin ⟨by omega,BG⟩ h1 h2⟩
end
def m9(code:List Nat)(at_:Nat):Nat:=if at_<30 then code.getD at_ 0 else 0
def m_(code:List Nat)(at_:Nat):Nat:=if at_<code.length/\at_<30 then at_+1 else at_
section
variable {b:b8}{K:Nat->List AV->AV->Prop}
theorem b4z(hh:bk (b.aM K) sn EI){a c at_:Nat}{code:List Nat}{cm:AV}{J:ad}(au:∀τ,g8 τ none cm (code.map uB))(hl:code.length<2^62)(hb:∀x∈code,x<256)(fz:at_<=30)(ha:J.get a=some (.cells [ah at_]))(aa:J.get c=some (.cells [cm]))(fP:a≠c):
  bu (b.aM K) 0 (.f (.func sn) [] [aK a,aK c]) [] J (λr τ=>r= .ok (ah (m9 code at_))/\τ.get a=some (.cells [ah (m_ code at_)])/\τ.next=J.next/\∀i o,i≠a->J.get i=some o->τ.get i=some o):=by
 refine W.code hh.e hh.p hh.f I I I I λz=>?_;have H:Has J [(a,[ah at_]),(c,[cm])]:=(Has.nil.cons aa (by simp)).cons ha (by simp;omega);have xk:=au J;have ez:(code.map uB).length=code.length:=List.length_map _;refine ai ?_;rw[ez];by_cases h1:at_<code.length
 ·by_cases h2:at_<30
  ·refine ai ?_;refine W.st (bM:=[ah (at_+1)]) H 0 I I I I I I λbh ea H bp=>?_;have xk:=au bh;have hx:=hb _ (List.getElem_mem h1);refine ai ?_;have e:(code.map uB)[at_+1-1]'(by rw[ez];omega)=uB (code[at_]):=by rw[List.getElem_map];rfl
   rw[e];refine W.val (v:=ah code[at_]) (af:=bh) I I ?_ ?_
   ·show some (bL.val (.i .i64 (wrapN .i64 (Int.ofNat code[at_]))) bh)=_;rw[Al (by omega)]
   refine ai ?_;refine aj.ret ⟨rfl,?_,?_,ea,bp⟩
   ·unfold m9;rw[if_pos h2,p8 h1];rfl
   ·unfold m_;rw[if_pos ⟨h1,h2⟩];exact H.get _ (.head _)
  ·refine ai ?_;refine aj.ret ⟨rfl,?_,?_,rfl,λ_ _ _ h=>h⟩
   ·unfold m9;rw[if_neg h2];rfl
   ·unfold m_;rw[if_neg λh=>h2 h.2];exact ha
 ·refine ai ?_;refine aj.ret ⟨rfl,?_,?_,rfl,λ_ _ _ h=>h⟩
  ·unfold m9;have:code.getD at_ 0=0:=by rw[List.getD_eq_getElem?_getD,List.getElem?_eq_none (by omega)];rfl
   rw[this,ite_self];rfl
  ·unfold m_;rw[if_neg λh=>h1 h.1];exact ha
theorem b4A(hh:bk (b.aM K) vP Ka)(hl:bk (b.aM K) x5 EK)(ha:bk (b.aM K) vQ AI){m F9:Nat}{bE:Nat->Prop}{L:List a1}{ab:List (List Nat)}{ax:List Nat}{J:ad}(cP:ja J m bE L ab ax)(b4B:J.get F9=some (.cells [aK m]))(c1t:¬bE F9)(bq:0<ab.length)(hL:L.length<2^20/\ab.length<2^20/\∀l∈ab,l.length<2^20){f:PF}{w:AV}(hf:eu (λi=>¬bE i) J f (.ag [.i .u8 (Int.ofNat f.op),.s f.bZ,.ae,w]))(hd:f.dep<=400){fL:List Nat}{l:List Nat}{v:AV}(au:eF J v l)(ez:l.length<2^20):
  bu (b.aM K) 0 (.f (.func vP) [] [aK F9]) [.ag [.i .u8 (Int.ofNat f.op),.s f.bZ,.ae,w],.s fL,v] J (λr τ=>r= .ok (.a6 [])/\∃fG,ja τ m fG (L++[⟨ab.length-1,0,false,f,fL,l.map λn=>(n,n)⟩]) (ab.set (ab.length-1) (ab.getD (ab.length-1) []++[L.length+1])) ax/\pU bE fG J τ):=by
 refine W.nL hh.e hh.p hh.f I I I λz=>?_;have H:Has J [(F9,[aK m])]:=Has.nil.cons b4B (by simp);have yB:=cP.lt;have hw:w.cells=[w]/\w.val=true:=by
  cases hf with
  |mk _ w xs h1 h2 h3=>exact⟨h2.one.1,h2.one.2.1⟩
 refine ai ?_;generalize aS:J.next=q;refine W.cy (c:=[.i .u8 (Int.ofNat f.op),.s f.bZ,.ae,w]) H aS I I I I I λτ c1 H bB=>?_;refine ai ?_;refine W.an trivial I I I (b4c (d:=0) (op:=f.op) hl hw.1 hw.2 (au.aO λi o _=>bB i o) ez) λr bh ⟨e3,aq,Ma,M2⟩=>⟨_,aq,?_⟩
 have H:=H.aO M2.2;have oB:=M2.1;refine ai ?_;refine W.ko (c:=[ah 0,ah 0,.b false,.i .u8 (Int.ofNat f.op),.s f.bZ,.ae,w,.s fL,e3]) H I I I I I I I λbU eT H bc=>?_;have cL:∀i o,J.get i=some o->bU.get i=some o:=λi o h=>bc _ _ (M2.2 _ _ (bB _ _ h));have q8:=cP.aO (τ:=bU) ⟨by omega,cL⟩;have BI:jR (λi=>¬bE i) bU ⟨0,0,false,f,fL,l.map λn=>(n,n)⟩ (.ag [ah 0,ah 0,.b false,.i .u8 (Int.ofNat f.op),.s f.bZ,.ae,w,.s fL,e3]):=.mk w e3 (hf.aO (λi c hi h=>⟨hi,cL _ _ h⟩) _ (Nat.le_refl _)) (by
  have:=Ma.aO (τ:=bU) (W':=λi=>¬bE i) λi c hi h=>⟨λhm=>by have:=yB _ hm;omega,bc _ _ h⟩
  rw[List.map_map];exact this)
 refine ai ?_;refine W.an trivial I I I (BB ha q8 bq hL BI hd) λr cq ⟨aq,fG,h1,h2⟩=>⟨_,aq,?_⟩
 refine ai ?_;exact⟨.inr I,rfl,fG,h1,by have:=h2.next;omega,λc o aa ho=>h2.aO _ _ aa (cL _ _ ho),λc aa=>(h2.own c aa).imp id λh=>⟨by omega,h.2⟩⟩
end
end Go.Lyc
end
noncomputable section
namespace Go.Lyc
set_option maxHeartbeats 0
variable [Tok][TokOk]
open Go.RowKit Go.Lyc.T
def nU(e0:List (Nat×List AV))(bo:List Nat):kn:=bo.flatMap λk=>e0.map λp=>(k,p.1,p.2)
theorem Mr{e0:List (Nat×List AV)}{bo:List Nat}{k:Nat}{p:Nat×List AV}(h1:k∈bo)(h2:p∈e0):(k,p.1,p.2)∈nU e0 bo:=List.mem_flatMap.2 ⟨k,h1,List.mem_map.2 ⟨p,h2,rfl⟩⟩
theorem dY.BJ{env:Env}{D:List (Nat ⊕ (AV×List AV))}{n N:Nat}{cz mj:kn}{ops:List aY}{f:Nat->AV}{J:ad}{Q:dS}(ao:∀p∈cz,p∈mj)(h:dY env D n N mj ops f J Q):dY env D n N cz ops f J Q:=λab bq=>by
 obtain⟨eU,a9,bW,af,bQ,cc,bN⟩:=h ab bq;refine⟨eU,a9,bW,af,bQ,cc,λF b_=>?_⟩;obtain⟨eC,wn,a3,cv,dU,en⟩:=bN F b_;exact⟨eC,wn,a3,cv,λp ar=>dU p (ao p ar),en⟩
structure gq(J:ad)(e0:List (Nat×List AV)):Prop where
 get:∀p∈e0,J.get p.1=some (.cells p.2)
theorem gq.nil{J:ad}:gq J []:=⟨λ_ h=>absurd h (by simp)⟩
theorem gq.cons{J:ad}{e0:List (Nat×List AV)}{k:Nat}{c:List AV}(h:gq J e0)(az:J.get k=some (.cells c)):gq J ((k,c)::e0):=⟨λp ar=>by
 rcases List.mem_cons.1 ar with rfl|ar
 ·exact az
 ·exact h.get p ar⟩
theorem gq.aO{J τ:ad}{e0:List (Nat×List AV)}(h:gq J e0)(k:∀i o,J.get i=some o->τ.get i=some o):gq τ e0:=⟨λp ar=>k _ _ (h.get p ar)⟩
theorem Has.b{J:ad}{e0:List (Nat×List AV)}(h:Has J e0):gq J e0:=⟨h.get⟩
def Ptr(e0:List (Nat×List AV))(U:Option Nat)(p v:AV):Prop:=(∃o,p= .df o v/\conf U v=true)\/∃id off c,p= .p (some (id,off))/\(id,c)∈e0/\dI U (c.drop off)=some v
namespace W
section
variable {env:Env}{aJ:Option Nat}{D:List (Nat ⊕ (AV×List AV))}{n N:Nat}{F:List (Nat×AV)}{z:Nat->AV}{J:ad}{Q:dS}{e0:List (Nat×List AV)}{bo:List Nat}
theorem sM(e0:List (Nat×List AV))(bo:List Nat)(N:Nat){ops:List aY}(de:Nat.beq ops.length N=true)(ao:swapT ops=true)(h:b9 (.dc N (nU e0 bo)) env aJ D n ops (bs F z) J Q):bO env aJ D n (.draw ops) (bs F z) J Q:=by
 obtain rfl:=Nat.eq_of_beq_eq_true de;exact aj.JI ao (dY.BJ (mj:=nU e0 bo) (λp ar=>by simp at ar) h)
theorem uj(HB:gq J e0){d:Nat}{U:Option Nat}{x:aF}{g:Option (Nat×Bool)}{wn:List Nat}{ops:List aY}{id off:Nat}{c:List AV}{v:AV}(hm:(id,c)∈e0)(j6:cr (tw bo) wn=true)(hd:Nat.blt d n=true)(hw:wtL g n F=true)(h1:c8 env n F z x=some (.p (some (id,off))))(h2:dI U (c.drop off)=some v)(au:AV.eqb env.bn v v=true)
  (h:b9 (.dc N (nU e0 bo)) env aJ D n ops (bs ((d,v)::F) z) J Q):b9 (.dc N (nU e0 bo)) env aJ D n (⟨some d,.load U x,g,wn⟩::ops) (bs F z) J Q:=
 ya (HB.get _ hm) hd hw h1 h2 au (dY.BJ (cz:=wn.map (λq=>(q,id,c))++nU e0 bo) (λp ar=>by
  rcases List.mem_append.1 ar with ar|ar
  ·obtain⟨q,aS,rfl⟩:=List.mem_map.1 ar;exact Mr (p:=(id,c)) (xJ (kI j6 q aS)) hm
  ·exact ar) h)
theorem qc{d:Nat}{U:Option Nat}{x:aF}{g:Option (Nat×Bool)}{wn:List Nat}{ops:List aY}{id off:Nat}{c:List AV}{v:AV}(ao:J.get id=some (.cells c))(hm:(id,c)∈e0)(j6:cr (tw bo) wn=true)(hd:Nat.blt d n=true)(hw:wtL g n F=true)(h1:c8 env n F z x=some (.p (some (id,off))))(h2:dI U (c.drop off)=some v)(au:AV.eqb env.bn v v=true)
  (h:b9 (.dc N (nU e0 bo)) env aJ D n ops (bs ((d,v)::F) z) J Q):b9 (.dc N (nU e0 bo)) env aJ D n (⟨some d,.load U x,g,wn⟩::ops) (bs F z) J Q:=
 ya ao hd hw h1 h2 au (dY.BJ (cz:=wn.map (λq=>(q,id,c))++nU e0 bo) (λp ar=>by
  rcases List.mem_append.1 ar with ar|ar
  ·obtain⟨q,aS,rfl⟩:=List.mem_map.1 ar;exact Mr (p:=(id,c)) (xJ (kI j6 q aS)) hm
  ·exact ar) h)
theorem b4C{Ms:List (Nat×List AV)}(HB:gq J Ms)(ep:∀x∈Ms,x∈e0){d:Nat}{U:Option Nat}{x:aF}{g:Option (Nat×Bool)}{wn:List Nat}{ops:List aY}{p v:AV}(ar:Ptr Ms U p v)(j6:cr (tw bo) wn=true)(jE:cr (λq=>Nat.ble N (q+ops.length)&&Nat.ble q N) wn=true)(hd:Nat.blt d n=true)(hw:wtL g n F=true)(h1:c8 env n F z x=some p)(au:AV.eqb env.bn v v=true)
  (h:b9 (.dc N (nU e0 bo)) env aJ D n ops (bs ((d,v)::F) z) J Q):b9 (.dc N (nU e0 bo)) env aJ D n (⟨some d,.load U x,g,wn⟩::ops) (bs F z) J Q:=by
 rcases ar with⟨o,rfl,aa⟩|⟨id,off,c,rfl,h3,aQ⟩
 ·exact pN jE hd hw (λs=>mi _ _ h1 (by show(if conf U v then some v else none)=_;rw[if_pos aa])) au h
 ·exact qc (HB.get _ h3) (ep _ h3) j6 hd hw h1 aQ au h
theorem F_(cz:kn)(N:Nat){ops:List aY}(de:Nat.beq ops.length N=true)(ao:swapT ops=true)(h:b9 (.dc N cz) env aJ D n ops (bs F z) J Q):bO env aJ D n (.draw ops) (bs F z) J Q:=by
 obtain rfl:=Nat.eq_of_beq_eq_true de;exact aj.JI ao (dY.BJ (mj:=cz) (λp ar=>by simp at ar) h)
theorem oH{cz:kn}{d:Nat}{U:Option Nat}{x:aF}{g:Option (Nat×Bool)}{wn:List Nat}{ops:List aY}{id off:Nat}{c:List AV}{v:AV}(ao:J.get id=some (.cells c))(hm:∀q∈wn,(q,id,c)∈cz)(hd:Nat.blt d n=true)(hw:wtL g n F=true)(h1:c8 env n F z x=some (.p (some (id,off))))(h2:dI U (c.drop off)=some v)(au:AV.eqb env.bn v v=true)
  (h:b9 (.dc N cz) env aJ D n ops (bs ((d,v)::F) z) J Q):b9 (.dc N cz) env aJ D n (⟨some d,.load U x,g,wn⟩::ops) (bs F z) J Q:=
 ya ao hd hw h1 h2 au (dY.BJ (cz:=wn.map (λq=>(q,id,c))++cz) (λp ar=>by
  rcases List.mem_append.1 ar with ar|ar
  ·obtain⟨q,aS,rfl⟩:=List.mem_map.1 ar;exact hm q aS
  ·exact ar) h)
theorem Ga{cz mj:kn}(k:Nat){ops:List aY}(az:Nat.beq (k+ops.length) N=true)(hh:∀p∈cz,(p.1=k/\J.get p.2.1=some (.cells p.2.2))\/p∈mj)(h:b9 (.dc N mj) env aJ D n ops (bs F z) J Q):b9 (.dc N cz) env aJ D n ops (bs F z) J Q:=λab bq=>by
 obtain⟨eU,a9,bW,af,bQ,cc,bN⟩:=h ab bq;refine⟨eU,a9,bW,af,bQ,cc,λF b_=>?_⟩;obtain⟨eC,wn,⟨t,a3,bm⟩,cv,dU,en⟩:=bN F b_;refine⟨eC,wn,⟨t,a3,bm⟩,cv,λp ar=>?_,en⟩;rcases hh p ar with⟨e,h⟩|h
 ·exact⟨0,J,by rw[e,Nat.eq_of_beq_eq_true az];rfl,by rw[a3];rfl,h⟩
 ·exact dU p h
theorem Mt(HB:gq J e0){cg:kJ}{d:Nat}{U:Option Nat}{x:aF}{g:Option (Nat×Bool)}{ops:List aY}{p v:AV}(ar:Ptr e0 U p v)(hd:Nat.blt d n=true)(hw:wtL g n F=true)(h1:c8 env n F z x=some p)(h:b9 cg env aJ D n ops (bs ((d,v)::F) z) J Q):b9 cg env aJ D n (⟨some d,.load U x,g,[]⟩::ops) (bs F z) J Q:=by
 rcases ar with⟨o,rfl,aa⟩|⟨id,off,c,rfl,h3,aQ⟩
 ·exact DO hd hw h1 aa h
 ·exact q_ (HB.get _ h3) hd hw h1 aQ h
theorem kP{k:Nat}{ops:List aY}(HB:gq J e0)(az:Nat.beq (k+ops.length) N=true)(h:b9 (.dc N (nU e0 bo)) env aJ D n ops (bs F z) J Q):b9 (.dc N (nU e0 (k::bo))) env aJ D n ops (bs F z) J Q:=λab bq=>by
 obtain⟨eU,a9,bW,af,bQ,cc,bN⟩:=h ab bq;refine⟨eU,a9,bW,af,bQ,cc,λF b_=>?_⟩;obtain⟨eC,wn,⟨t,a3,bm⟩,cv,dU,en⟩:=bN F b_;refine⟨eC,wn,⟨t,a3,bm⟩,cv,λp ar=>?_,en⟩;obtain⟨gv,CN,ar⟩:=List.mem_flatMap.1 ar;obtain⟨q,aS,rfl⟩:=List.mem_map.1 ar;rcases List.mem_cons.1 CN with rfl|CN
 ·exact⟨0,J,Nat.eq_of_beq_eq_true az,by rw[a3];rfl,HB.get _ aS⟩
 ·exact dU _ (Mr CN aS)
end
end W
theorem e4{P R:Prop}(k:R)(h:Hid R->P:=by
 intro k
 repeat (first
  |refine W.go I I I I ?_
  |refine W.off I I ?_
  |(refine W.D_ ?_;first|refine W.lt I I I I ?_|refine W.lt I I I Ff ?_|refine W.aw H I I I (.head _) I ?_|refine W.aw H I I I (.tail _ (.head _)) I ?_|refine W.aw H I I I (.tail _ (.tail _ (.head _))) I ?_|refine W.aw H I I I (.tail _ (.tail _ (.tail _ (.head _)))) I ?_|refine W.aw H I I I (.tail _ (.tail _ (.tail _ (.tail _ (.head _))))) I ?_|refine W.aw H I I I (.tail _ (.tail _ (.tail _ (.tail _ (.tail _ (.head _)))))) I ?_|refine W.aw H I I I (.tail _ (.tail _ (.tail _ (.tail _ (.tail _ (.tail _ (.head _))))))) I ?_|refine W.aw H I I I (.tail _ (.tail _ (.tail _ (.tail _ (.tail _ (.tail _ (.tail _ (.head _)))))))) I ?_|refine W.aw H I I I (.tail _ (.tail _ (.tail _ (.tail _ (.tail _ (.tail _ (.tail _ (.tail _ (.head _))))))))) I ?_|refine W.aw H I I I (.tail _ (.tail _ (.tail _ (.tail _ (.tail _ (.tail _ (.tail _ (.tail _ (.tail _ (.head _)))))))))) I ?_|refine W.le I I I (jt.aw (by assumption) (by omega)) ?_|refine W.le I I I (g8.aw (by assumption) (by omega)) ?_)
  |(refine W.Ea ?_;first|refine W.As I I I I (by simp only[W.cmpP,List.length_cons,List.length_nil];first|done|omega|exact id|exact λh=>h trivial) ?_|refine W.fm I I I I I (by simp only[W.cmpP,List.length_cons,List.length_nil];first|done|omega|exact id|exact λh=>h trivial) ?_|refine W.bin I I I I (Fg (by omega)) ?_|refine W.bin I I I I (Fh (by omega) (by omega)) ?_|refine W.bin I I I I (oE (by omega)) ?_|refine W.bin I I I I (pK (by omega) (by omega)) ?_)
  |(refine W.Eb ?_;first|refine W.eV I I I I (Fb (by omega)) ?_|refine W.eV I I I I (xF (by omega)) ?_|refine W.eV I I I I (jt.eV (by assumption) (by omega)) ?_|refine W.eV I I I I (g8.eV (by assumption) (by omega)) ?_)
  |(refine W.Ec ?_;first|refine W.len I I I Fc ?_|refine W.len I I I DQ ?_|refine W.len I I I (jt.len (by assumption) _) ?_|refine W.len I I I (g8.len (by assumption) _) ?_|refine W.len I I I I ?_)
  |(refine W.JK ?_;first|refine W.uj HB (.head _) I I I I I (by first|exact cX rfl|exact hN I) ?_|refine W.uj HB (.tail _ (.head _)) I I I I I (by first|exact cX rfl|exact hN I) ?_|refine W.uj HB (.tail _ (.tail _ (.head _))) I I I I I (by first|exact cX rfl|exact hN I) ?_|refine W.uj HB (.tail _ (.tail _ (.tail _ (.head _)))) I I I I I (by first|exact cX rfl|exact hN I) ?_|refine W.uj HB (.tail _ (.tail _ (.tail _ (.tail _ (.head _))))) I I I I I (by first|exact cX rfl|exact hN I) ?_|refine W.uj HB (.tail _ (.tail _ (.tail _ (.tail _ (.tail _ (.head _)))))) I I I I I (by first|exact cX rfl|exact hN I) ?_)
  |refine W.vC ?_)
 exact k.out):P:=h ⟨k⟩
theorem jw{P R:Prop}(k:R)(h:Hid R->P:=by
 intro k
 repeat (first
  |refine W.go I I I I ?_
  |refine W.off I I ?_
  |(refine W.D_ ?_;first|refine W.lt I I I I ?_|refine W.lt I I I Ff ?_|refine W.aw H I I I (.head _) I ?_|refine W.aw H I I I (.tail _ (.head _)) I ?_|refine W.aw H I I I (.tail _ (.tail _ (.head _))) I ?_|refine W.aw H I I I (.tail _ (.tail _ (.tail _ (.head _)))) I ?_|refine W.aw H I I I (.tail _ (.tail _ (.tail _ (.tail _ (.head _))))) I ?_|refine W.aw H I I I (.tail _ (.tail _ (.tail _ (.tail _ (.tail _ (.head _)))))) I ?_|refine W.aw H I I I (.tail _ (.tail _ (.tail _ (.tail _ (.tail _ (.tail _ (.head _))))))) I ?_|refine W.aw H I I I (.tail _ (.tail _ (.tail _ (.tail _ (.tail _ (.tail _ (.tail _ (.head _)))))))) I ?_|refine W.aw H I I I (.tail _ (.tail _ (.tail _ (.tail _ (.tail _ (.tail _ (.tail _ (.tail _ (.head _))))))))) I ?_|refine W.aw H I I I (.tail _ (.tail _ (.tail _ (.tail _ (.tail _ (.tail _ (.tail _ (.tail _ (.tail _ (.head _)))))))))) I ?_|refine W.le I I I (jt.aw (by assumption) (by omega)) ?_|refine W.le I I I (g8.aw (by assumption) (by omega)) ?_)
  |(refine W.Ea ?_;first|refine W.As I I I I (by simp only[W.cmpP,List.length_cons,List.length_nil];first|done|omega|exact id|exact λh=>h trivial) ?_|refine W.fm I I I I I (by simp only[W.cmpP,List.length_cons,List.length_nil];first|done|omega|exact id|exact λh=>h trivial) ?_|refine W.bin I I I I (Fg (by omega)) ?_|refine W.bin I I I I (Fh (by omega) (by omega)) ?_|refine W.bin I I I I (oE (by omega)) ?_|refine W.bin I I I I (pK (by omega) (by omega)) ?_)
  |(refine W.Eb ?_;first|refine W.eV I I I I (Fb (by omega)) ?_|refine W.eV I I I I (xF (by omega)) ?_|refine W.eV I I I I (jt.eV (by assumption) (by omega)) ?_|refine W.eV I I I I (g8.eV (by assumption) (by omega)) ?_)
  |(refine W.Ec ?_;first|refine W.len I I I Fc ?_|refine W.len I I I DQ ?_|refine W.len I I I (jt.len (by assumption) _) ?_|refine W.len I I I (g8.len (by assumption) _) ?_|refine W.len I I I I ?_)
  |refine W.sq ?_|refine W.rg ?_|refine W.Ar ?_|refine aj.block (a:=.seq _ _) ?_|refine aj.block (a:=.region _) ?_|refine aj.block (a:=.draw _) ?_|refine aj.block (a:=.cond _ _ _) ?_
  |refine W.nil ?_
  |refine W.k8 I ?_|refine W.m0 I ?_)
 exact k.out):P:=h ⟨k⟩
end Go.Lyc
end
noncomputable section
namespace Go.Lyc
set_option maxHeartbeats 0
variable [Tok][TokOk]
open Go.RowKit Go.Lyc.T
attribute [local irreducible] b9 bO dj dY bu
def nV:PF:=.ff false
def qd:PF:=.ff true
def Gb:List PF:=[nV,qd,.bin 2 nV qd,.bin 1 nV qd,.neg nV,.bin 0 nV qd,.ct,.bin 2 qd nV]
def eD(n:Nat):PF:=Gb.getD (n%8) .ct
abbrev iP:List AV:=[.i .u8 1,.s [80],.ae,.ae]
abbrev ka:List AV:=[.i .u8 1,.s [81],.ae,.ae]
section
variable {b:b8}{K:Nat->List AV->AV->Prop}
theorem Gc(hh:bk (b.aM K) AK Kc)(aA:bk (b.aM K) so AL)(ha:bk (b.aM K) x4 EJ)(n:Nat)(hn:n<2^62){J:ad}:
  bu (b.aM K) 0 (.f (.func AK) [] []) [ah n] J (λr τ=>∃w,r= .ok (.ag [.i .u8 (Int.ofNat (eD n).op),.s (eD n).bZ,.ae,w])/\eu (λi=>J.next<=i) τ (eD n) (.ag [.i .u8 (Int.ofNat (eD n).op),.s (eD n).bZ,.ae,w])/\dC J τ):=by
 have m7:vA (b.aM K) so:=(show qX (b.aM K) [so] from λg hg=>by rw[List.mem_singleton.1 hg];exact⟨aA.e,.inr ⟨aA.p,_,_,aA.f,rfl,rfl⟩⟩).one I;refine W.mv hh.e hh.p hh.f I I I λz=>?_;have H:Has J []:=Has.nil;refine ai ?_;generalize aS:J.next=q;refine W.cC (c:=[.i .u8 0,.s [],.ae,.ae]) H aS I I I λτ c1 H bB=>?_;refine ai ?_;refine W.an trivial I I I (VN ha) λr bh ⟨aq,M2⟩=>⟨_,aq,?_⟩
 have H:=H.aO M2.2;have oB:=M2.1;refine ai ?_;refine W.an trivial I I I (VN ha) λr bU ⟨aq,et⟩=>⟨_,aq,?_⟩
 have H:=H.aO et.2;have qM:=et.1;generalize VU:bU.next=p4 at *;refine W.cC (c:=[.i .u8 0,.s [],.ae,.ae]) H VU I I I λcq fl H b5=>?_;refine ai ?_;refine W.cC (c:=[.i .u8 0,.s [],.ae,.ae]) H fl I I I λdD ir H cW=>?_;refine W.st (bM:=iP) H 1 I I I I I I λeb iE H dQ=>?_;refine W.st (bM:=ka) H 0 I I I I I I λeM kj H fK=>?_;have b4D:∀i o,J.get i=some o->eM.get i=some o:=λi o h=>fK _ _ (by have:=ad.bt h;omega) (dQ _ _ (by have:=ad.bt h;omega) (cW _ _ (b5 _ _ (et.2 _ _ (M2.2 _ _ (bB _ _ h))))));refine W.nil ?_;refine W.sq ?_;have g3:eM.next=p4+2:=by omega
 have b4E:=H.get (p4,iP) (by simp);have b4F:=H.get (p4+1,ka) (by simp);have HB:gq eM [(p4,iP),(p4+1,ka)]:=(gq.nil.cons b4F).cons b4E;refine W.sM [(p4,iP),(p4+1,ka)] [18,19,20,21,22,23,27] 28 I I ?_;refine e4 ?_;refine W.bI (c:=iP++ka) H I I I I λe9 ti H nS=>?_;have HB:=HB.aO nS;refine e4 ?_;refine W.bI (c:=iP++ka) H I I I I λi_ qK H jG=>?_;have HB:=HB.aO jG;refine e4 ?_;refine W.bI (c:=iP) H I I I I λgg o2 H ck=>?_;have HB:=HB.aO ck;refine e4 ?_;refine W.bI (c:=iP++ka) H I I I I λhP nr H hQ=>?_;have HB:=HB.aO hQ;refine e4 ?_;refine W.bI (c:=ka++iP) H I I I I λj9 qB H l6=>?_;have HB:=HB.aO l6;refine e4 ?_;refine W.bin I I I I (tv (c:=8) (by decide)) ?_;refine W.kP HB I ?_;refine W.an m7 I I I (p_ (op:=6) aA I I) λr p2 ⟨aq,kJ⟩=>⟨_,aq,?_⟩
 have H:=H.aO kJ.2;have HB:=HB.aO kJ.2;have cg:=kJ.1;refine W.kP HB I ?_;refine W.an m7 I I I (p_ (op:=5) aA I I) λr p3 ⟨aq,Gd⟩=>⟨_,aq,?_⟩
 have H:=H.aO Gd.2;have HB:=HB.aO Gd.2;have c1u:=Gd.1;refine W.kP HB I ?_;refine W.an m7 I I I (p_ (op:=3) aA I I) λr Bi ⟨aq,Ge⟩=>⟨_,aq,?_⟩
 have H:=H.aO Ge.2;have HB:=HB.aO Ge.2;have c1v:=Ge.1;refine W.kP HB I ?_;refine W.an m7 I I I (p_ (op:=4) aA I I) λr Lm ⟨aq,Gf⟩=>⟨_,aq,?_⟩
 have H:=H.aO Gf.2;have HB:=HB.aO Gf.2;have c1w:=Gf.1;refine W.kP HB I ?_;refine W.an m7 I I I (p_ (op:=2) aA I I) λr c1x ⟨aq,Gg⟩=>⟨_,aq,?_⟩
 have H:=H.aO Gg.2;have HB:=HB.aO Gg.2;have c1y:=Gg.1;refine W.kP HB I ?_;refine W.an m7 I I I (p_ (op:=6) aA I I) λr V5 ⟨aq,Gh⟩=>⟨_,aq,?_⟩
 have H:=H.aO Gh.2;have HB:=HB.aO Gh.2;have fB:=Gh.1
 let xs:List AV:=[.ag iP,.ag ka,.ag [.i .u8 6,.s [],.ae,.al eM.next 0 2 (some 4) (some 2)],.ag [.i .u8 5,.s [],.ae,.al e9.next 0 2 (some 4) (some 2)],.ag [.i .u8 3,.s [],.ae,.al i_.next 0 1 (some 4) (some 1)],.ag [.i .u8 4,.s [],.ae,.al gg.next 0 2 (some 4) (some 2)],.ag [.i .u8 2,.s [],.ae,.ae],.ag [.i .u8 6,.s [],.ae,.al hP.next 0 2 (some 4) (some 2)]]
 refine W.bI (c:=xs.flatMap AV.cells) H I I I I λyC c1z H V6=>?_;have HB:=HB.aO V6;have dg:Sl yC (some 4) (.al V5.next 0 8 (some 4) (some 8)) xs:=.al V5.next (some 8) xs [] (by rw[List.append_nil];exact H.get _ (.head _)) (λy hy=>by
  simp only[xs,List.mem_cons,List.not_mem_nil,or_false] at hy;rcases hy with rfl|rfl|rfl|rfl|rfl|rfl|rfl|rfl<;>rfl) (.inr I)
 have yD:n%8<8:=Nat.mod_lt _ (by decide);obtain⟨o,l5,oj,fz,mx,il,k7,hS⟩:=dg.ff (j:=n%8) (by show n%8<8;exact yD);refine W.eV I I I I mx ?_;refine W.q_ il I I I hS ?_;refine W.kP HB I ?_;have hR:∃w,xs[n%8]'(by show n%8<8;exact yD)= .ag [.i .u8 (Int.ofNat (eD n).op),.s (eD n).bZ,.ae,w]/\∀hU:ad,(∀i o,q<i->yC.get i=some o->hU.get i=some o)->eu (λi=>q<=i) hU (eD n) (.ag [.i .u8 (Int.ofNat (eD n).op),.s (eD n).bZ,.ae,w]):=by
  have g5:=H.get (eM.next,iP++ka) (by simp);have fI:=H.get (e9.next,iP++ka) (by simp);have m6:=H.get (i_.next,iP) (by simp);have b4G:=H.get (gg.next,iP++ka) (by simp);have b4H:=H.get (hP.next,ka++iP) (by simp);have yE:∀hU:ad,eu (λi=>q<=i) hU nV (.ag iP):=λhU=>.mk nV .ae [] I .nil λi h=>by simp at h
  have BK:∀hU:ad,eu (λi=>q<=i) hU qd (.ag ka):=λhU=>.mk qd .ae [] I .nil λi h=>by simp at h
  have two:∀(a c:PF) (yF yG:List AV),(∀y,y=AV.ag yF\/y=AV.ag yG->conf (some 4) y=true)->∀(k:Fin 3) (id:Nat),q<id->yC.get id=some (.cells (yF++yG))->(∀hU,eu (λi=>q<=i) hU a (.ag yF))->(∀hU,eu (λi=>q<=i) hU c (.ag yG))->∀hU:ad,(∀i o,q<i->yC.get i=some o->hU.get i=some o)->eu (λi=>q<=i) hU (.bin k a c) (.ag [.i .u8 (Int.ofNat (PF.bin k a c).op),.s (PF.bin k a c).bZ,.ae,.al id 0 2 (some 4) (some 2)]):=λa c yF yG aa k id h1 h2 h3 aQ hU az=>
   .mk (.bin k a c) _ [.ag yF,.ag yG] I (.al id (some 2) [.ag yF,.ag yG] [] (show q<=id by omega) (az _ _ h1 (by rw[h2];simp[AV.cells])) (λy hy=>aa y (by simpa using hy)) (.inr I) (by simp)) λi h h'=>by
    match i,h with
    |0,_=>exact h3 hU
    |1,_=>exact aQ hU
  have Mu:∀y,y=AV.ag iP\/y=AV.ag ka->conf (some 4) y=true:=λy hy=>by rcases hy with rfl|rfl<;>rfl
  have b4I:∀y,y=AV.ag ka\/y=AV.ag iP->conf (some 4) y=true:=λy hy=>by rcases hy with rfl|rfl<;>rfl
  unfold eD;generalize n%8=j at yD
  match j,yD with
  |0,_=>exact⟨_,rfl,λhU _=>yE hU⟩
  |1,_=>exact⟨_,rfl,λhU _=>BK hU⟩
  |2,_=>exact⟨_,rfl,two nV qd iP ka Mu 2 _ (by omega) g5 yE BK⟩
  |3,_=>exact⟨_,rfl,two nV qd iP ka Mu 1 _ (by omega) fI yE BK⟩
  |4,_=>exact⟨_,rfl,λhU az=>.mk (.neg nV) _ [.ag iP] I (.al _ (some 1) [.ag iP] [] (show q<=i_.next by omega) (az _ _ (by omega) m6) (λy hy=>by rw[List.mem_singleton.1 hy];rfl) (.inr I) (by simp)) λi h h'=>by
    match i,h with
    |0,_=>exact yE hU⟩
  |5,_=>exact⟨_,rfl,two nV qd iP ka Mu 0 _ (by omega) b4G yE BK⟩
  |6,_=>exact⟨_,rfl,λhU _=>.mk .ct .ae [] I .nil λi h=>by simp at h⟩
  |7,_=>exact⟨_,rfl,two qd nV ka iP b4I 2 _ (by omega) b4H BK yE⟩
 obtain⟨w,hw,b_⟩:=hR;rw[hw];have b4J:=H.get (q,[.i .u8 0,.s [],.ae,.ae]) (by simp);have b4K:Has yC [(q,[.i .u8 0,.s [],.ae,.ae])]:=Has.nil.cons b4J (by simp);have BL:=b_ yC λ_ _ _ h=>h;have mN:w.cells=[w]/\w.val=true:=by
  cases BL with
  |mk _ w xs h1 h2 h3=>exact⟨h2.one.1,h2.one.2.1⟩
 refine W.st (bM:=[.i .u8 (Int.ofNat (eD n).op),.s (eD n).bZ,.ae,w]) b4K 0 I I I I I I λhU c1A H cL=>?_;refine ai ?_;refine aj.ret ⟨rfl,_,sA (fX I (H.get _ (.head _)) (v:=.ag [.i .u8 (Int.ofNat (eD n).op),.s (eD n).bZ,.ae,w]) ?_),w,rfl,b_ hU λi o hi h=>cL _ _ (by omega) h,by omega,λi o h=>?_⟩
 ·rfl
 ·have hi:=ad.bt h;exact cL _ _ (by omega) (V6 _ _ (Gh.2 _ _ (Gg.2 _ _ (Gf.2 _ _ (Ge.2 _ _ (Gd.2 _ _ (kJ.2 _ _ (l6 _ _ (hQ _ _ (ck _ _ (jG _ _ (nS _ _ (b4D _ _ h)))))))))))))
end
end Go.Lyc
end
noncomputable section
namespace Go.Lyc
set_option maxHeartbeats 0
variable [Tok][TokOk]
open Go.RowKit Go.Lyc.T
def BM:List Nat:=[97,110,100,73]
def BN:List Nat:=[111,114,73,49]
def ie(q:Bool):List Nat:=[97,110,100,69,cond q 50 49]
def uk:List Nat:=[105,109,112,69]
def um:List Nat:=[110,111,116,69]
def V7:List Nat:=[97,103,97,105,110]
def BO:List Nat:=[102,97,108,115,101,69]
def lR(L:List a1)(a:Nat)(f:PF):Prop:=∃x,L[a-1]? =some x/\x.f=f
inductive nW(L:List a1)(C:Nat->Prop):PF->List Nat->List Nat->Prop
 |and {a c f g}:C a->C c->lR L a f->lR L c g->f.bK+g.bK<40->nW L C (.bin 0 f g) BM [a,c]
 |or {a f} (n):C a->lR L a f->f.bK<40->nW L C (.bin 1 f (eD n)) BN [a]
 |ie {a f g} (q:Bool):C a->lR L a (.bin 0 f g)->nW L C (cond q g f) (ie q) [a]
 |imp {a c f g}:C a->C c->lR L a (.bin 2 f g)->lR L c f->nW L C g uk [a,c]
 |not {a c f}:C a->C c->lR L a f->lR L c (.neg f)->nW L C .ct um [a,c]
 |again {a f}:C a->lR L a f->nW L C f V7 [a]
 |wk {a} (n):C a->lR L a .ct->nW L C (eD n) BO [a]
def uo(n:Nat):a1:=⟨0,0,true,eD n,[],[]⟩
inductive nX(L:List a1):List (List Nat)->List Nat->a1->List (List Nat)->List Nat->Prop
 |uo (f:List Nat) (n:Nat):(∀x∈L,x.hyp=true/\x.bY=0)->nX L [f] [0] (uo n) [f++[L.length+1]] [0]
 |BP (ab:List (List Nat)) (ax:List Nat) (n:Nat):L≠[]->ab.length<5->nX L ab ax ⟨ab.length,1,true,eD n,[],[]⟩ (ab++[[L.length+1]]) (ax++[L.length+1])
 |sG (F:List (List Nat)) (f:List Nat) (ax:List Nat) {g:PF} {fL l:List Nat}:L≠[]->nW L (λc=>∃k∈F++[f],c∈k) g fL l->nX L (F++[f]) ax ⟨F.length,0,false,g,fL,l.map λn=>(n,n)⟩ (F++[f++[L.length+1]]) ax
 |shut (F:List (List Nat)) (e f:List Nat) (ax:List Nat) (first:Nat) {x y:a1}:L[first-1]? =some x->L[L.length-1]? =some y->nX L (F++[e,f]) (ax++[first]) {mz x.f y.f first L.length with bY:=F.length} (F++[e++[L.length+1]]) ax
inductive Rd:List a1->List (List Nat)->List Nat->Prop
 |nil:Rd [] [[]] [0]
 |step {L ab ax x a9 fC}:Rd L ab ax->nX L ab ax x a9 fC->Rd (L++[x]) a9 fC
theorem b4L(n:Nat):eD n∈Gb:=by
 unfold eD;have h:n%8<Gb.length:=Nat.mod_lt _ (by decide);rw[List.getD_eq_getElem?_getD,List.getElem?_eq_getElem h];exact List.getElem_mem h
theorem uq(n:Nat):(eD n).dep<=2/\(eD n).bK<=3:=by
 have h:∀f∈Gb,f.dep<=2/\f.bK<=3:=by decide
 exact h _ (b4L n)
structure ur(L:List a1)(ab:List (List Nat))(ax:List Nat):Prop where
 len:ax.length=ab.length
 ne:0<ab.length
 le:ab.length<=5
 mem:∀f∈ab,∀c∈f,1<=c/\c<=L.length
 sum:(ab.map List.length).sum<=L.length
 last:L≠[]->(∃F f,ab=F++[f]/\L.length∈f)/\∀y,L[L.length-1]? =some y->y.bY=ab.length-1
 BQ:L≠[]->∀f∈ab,f≠[]
 dep:∀x∈L,x.f.dep<=2+L.length
 bK:∀x∈L,x.f.bK<=44+4*L.length
 fst:∀k first,1<=k->ax[k]? =some first->1<=first/\∃n,L[first-1]? =some ⟨k,1,true,eD n,[],[]⟩
theorem V8{α:Type}{L:List α}{x y:α}{i:Nat}(h:L[i]? =some y):(L++[x])[i]? =some y:=by
 obtain⟨h1,h2⟩:=List.getElem?_eq_some_iff.1 h;rw[List.getElem?_append_left h1];exact h
theorem V9{α:Type}{L:List α}{x:α}:(L++[x])[L.length+1-1]? =some x:=by simp
theorem lR.mem{L:List a1}{a:Nat}{f:PF}(h:lR L a f):∃x∈L,x.f=f:=by
 obtain⟨x,h1,h2⟩:=h;exact⟨x,List.mem_of_getElem? h1,h2⟩
theorem nW.le{L:List a1}{C:Nat->Prop}{g:PF}{fL l:List Nat}(h:nW L C g fL l)(hd:∀x∈L,x.f.dep<=2+L.length)(ao:∀x∈L,x.f.bK<=44+4*L.length):g.dep<=3+L.length/\g.bK<=44+4*L.length:=by
 have b_:∀ {a f},lR L a f->f.dep<=2+L.length/\f.bK<=44+4*L.length:=λh=>by
  obtain⟨x,h1,rfl⟩:=h.mem;exact⟨hd x h1,ao x h1⟩
 cases h with
 |and _ _ h1 h2 h3=>
  have:=b_ h1;have:=b_ h2;exact⟨by show max _ _+1<=_;omega,by show _+_+1<=_;omega⟩
 |or n _ h1 h3=>
  have:=b_ h1;have:=uq n;exact⟨by show max _ _+1<=_;omega,by show _+_+1<=_;omega⟩
 |ie q _ h1=>
  have h:=b_ h1;have h2:max _ _+1<=_:=h.1;have h3:_+_+1<=_:=h.2;cases q
  ·exact⟨by show PF.dep _<=_;simp only[cond_false];omega,by simp only[cond_false];omega⟩
  ·exact⟨by simp only[cond_true];omega,by simp only[cond_true];omega⟩
 |imp _ _ h1 _=>
  have h:=b_ h1;have h2:max _ _+1<=_:=h.1;have h3:_+_+1<=_:=h.2;exact⟨by omega,by omega⟩
 |not=>exact⟨by show 1<=_;omega,by show 1<=_;omega⟩
 |again _ h1=>have:=b_ h1;exact⟨by omega,by omega⟩
 |wk n _ _=>have:=uq n;exact⟨by omega,by omega⟩
theorem yH(a c:PF)(first last k:Nat):({mz a c first last with bY:=k}:a1)=cond (decide (c= .ct)) ⟨k,0,false,.neg a,uh,[(first,last)]⟩ ⟨k,0,false,.bin 2 a c,sL,[(first,last)]⟩:=by
 unfold mz;by_cases h:c= .ct
 ·rw[if_pos h,decide_eq_true h];rfl
 ·rw[if_neg h,decide_eq_false h];rfl
theorem nX.inv{L:List a1}{ab a9:List (List Nat)}{ax fC:List Nat}{x:a1}(aV:ur L ab ax)(h:nX L ab ax x a9 fC):ur (L++[x]) a9 fC:=by
 have hlen:(L++[x]).length=L.length+1:=by simp
 have Gi:∀k first,1<=k->ax[k]? =some first->1<=first/\∃n,(L++[x])[first-1]? =some ⟨k,1,true,eD n,[],[]⟩:=λk first h1 h2=>by
  obtain⟨a3,n,bm⟩:=aV.fst k first h1 h2
  exact⟨a3,n,V8 bm⟩
 have hall:∀(P:a1->Prop),(∀y∈L,P y)->P x->∀y∈L++[x],P y:=λP h1 h2 y hy=>by
  rcases List.mem_append.1 hy with h|h
  ·exact h1 y h
  ·rw[List.mem_singleton.1 h];exact h2
 have hd:x.f.dep<=3+L.length->∀y∈L++[x],y.f.dep<=2+(L++[x]).length:=λh=>hall _ (λy hy=>by have:=aV.dep y hy;omega) (by omega);have ao:x.f.bK<=48+4*L.length->∀y∈L++[x],y.f.bK<=44+4*(L++[x]).length:=λh=>hall _ (λy hy=>by have:=aV.bK y hy;omega) (by omega);have rv:∀(F:List (List Nat)) (f:List Nat),x.bY=F.length->L++[x]≠[]->(∃b4M bW,F++[f++[L.length+1]]=b4M++[bW]/\(L++[x]).length∈bW)/\∀y,(L++[x])[(L++[x]).length-1]? =some y->y.bY=(F++[f++[L.length+1]]).length-1:=λF f hx _=>⟨⟨F,_,rfl,by rw[hlen];simp⟩,λy hy=>by
  rw[hlen,V9] at hy;cases hy;rw[hx];simp⟩
 have kv:∀(G:List (List Nat)) (f:List Nat),(∀k∈G,k∈ab)->(f=[]\/f∈ab)->∀k∈G++[f++[L.length+1]],∀c∈k,1<=c/\c<=(L++[x]).length:=λG f h1 h2 k az c aa=>by
  rcases List.mem_append.1 az with az|az
  ·have:=aV.mem k (h1 k az) c aa;omega
  ·rw[List.mem_singleton.1 az] at aa;rcases List.mem_append.1 aa with aa|aa
   ·rcases h2 with rfl|h2
    ·simp at aa
    ·have:=aV.mem f h2 c aa;omega
   ·rw[List.mem_singleton.1 aa];omega
 have yI:=aV.sum;cases h with
 |uo f n h=>
  have ar:=uq n;exact⟨rfl,by simp,by simp,kv [] f (λk az=>by simp at az) (.inr (by simp)),by simp at yI ⊢;omega,rv [] f I,λ_=>by simp,hd (by show(eD n).dep<=_;omega),ao (by show(eD n).bK<=_;omega),Gi⟩
 |BP _ _ n a5 bJ=>
  have ar:=uq n;refine⟨by simp[aV.len],by simp,by simp;omega,kv ab [] (λ_ h=>h) (.inl I),by simp at yI ⊢;omega,rv ab [] I,λ_ k az=>by
   rcases List.mem_append.1 az with az|az
   ·exact aV.BQ a5 k az
   ·rw[List.mem_singleton.1 az];simp,hd (by show(eD n).dep<=_;omega),ao (by show(eD n).bK<=_;omega),λk first h1 h2=>?_⟩
  by_cases az:k<ax.length
  ·rw[List.getElem?_append_left az] at h2;exact Gi k first h1 h2
  ·rw[List.getElem?_append_right (by omega)] at h2;have e:k-ax.length=0:=by
    rcases Nat.eq_zero_or_pos (k-ax.length) with h|h
    ·exact h
    ·rw[List.getElem?_eq_none (by simp;omega)] at h2;cases h2
   rw[e] at h2;cases h2;have a4:k=ab.length:=by have:=aV.len;omega
   exact⟨by omega,n,by rw[V9,a4]⟩
 |sG F f _ a5 aa=>
  obtain⟨h1,h2⟩:=aa.le aV.dep aV.bK;exact⟨by have:=aV.len;simpa using this,by simp,by have:=aV.le;simpa using this,kv F f (λk az=>by simp[az]) (.inr (by simp)),by simp at yI ⊢;omega,rv F f I,λ_ k az=>by
   rcases List.mem_append.1 az with az|az
   ·exact aV.BQ a5 k (by simp[az])
   ·rw[List.mem_singleton.1 az];simp,hd h1,ao (by show PF.bK _<=_;exact Nat.le_trans h2 (by omega)),Gi⟩
 |shut F e f ax first hx hy=>
  rename_i eo dJ;have hl:=aV.len;simp only[List.length_append,List.length_cons,List.length_nil] at hl;obtain⟨f1,n,f2⟩:=aV.fst fC.length first (by omega) (by simp)
  rw[hx] at f2;cases f2;have ar:=uq n;have c1B:=aV.dep _ (List.mem_of_getElem? hy);have VW:=aV.bK _ (List.mem_of_getElem? hy);have V_:({mz (eD n) dJ.f first L.length with bY:=F.length}:a1).f.dep<=3+L.length/\({mz (eD n) dJ.f first L.length with bY:=F.length}:a1).f.bK<=48+4*L.length:=by
   rw[yH];cases decide (dJ.f= .ct)
   ·exact⟨by show max _ _+1<=_;omega,by show _+_+1<=_;omega⟩
   ·exact⟨by show _+1<=_;omega,by show _+1<=_;omega⟩
  refine⟨by simp;omega,by simp,by have:=aV.le;simp at this ⊢;omega,kv F e (λk az=>by simp[az]) (.inr (by simp)),by simp at yI ⊢;omega,rv F e I,λ_ k az=>by
   rcases List.mem_append.1 az with az|az
   ·exact aV.BQ (λe=>by subst e;simp at hx) k (by simp[az])
   ·rw[List.mem_singleton.1 az];simp,hd V_.1,ao V_.2,λk yJ h1 h2=>Gi k yJ h1 ?_⟩
  exact V8 h2
theorem Rd.inv{L:List a1}{ab:List (List Nat)}{ax:List Nat}(h:Rd L ab ax):ur L ab ax:=by
 induction h with
 |nil=>exact⟨rfl,by simp,by simp,λf hf c aa=>by simp at hf;subst hf;simp at aa,by simp,λh=>absurd I h,λh=>absurd I h,λx hx=>by simp at hx,λx hx=>by simp at hx,λk first h1 h2=>by
   rw[List.getElem?_eq_none (by simp;omega)] at h2;cases h2⟩
 |step _ h aD=>exact h.inv aD
end Go.Lyc
end
noncomputable section
namespace Go.Lyc
set_option maxHeartbeats 0
variable [Tok][TokOk]
open Go.RowKit Go.Lyc.T
attribute [local irreducible] b9 bO dj dY bu
theorem iO.wm{W W':Nat->Prop}{J τ:ad}(k:∀i c,W i->2<=c.length->J.get i=some (.cells c)->W' i/\τ.get i=some (.cells c)){n:Nat}{v:AV}{xs:List AV}(h:iO W J (some n) v xs)(hn:2<=n):iO W' τ (some n) v xs:=by
 cases h with
 |nil=>exact .nil
 |a7 xs aa a5=>exact .a7 xs aa a5
 |al o cap xs rest hW h aa az a5=>
  have h2:2<=(xs.flatMap AV.cells++rest).length:=by
   cases xs with
   |nil=>exact absurd I a5
   |cons y a8=>
    have:=aa y (by simp);cases y with
    |ag l=>
     have:l.length=n:=Nat.eq_of_beq_eq_true this;rw[List.flatMap_cons,List.length_append,List.length_append];show 2<=l.length+_+_;omega
    |_=>cases this
  exact .al o cap xs rest (k _ _ hW h2 h).1 (k _ _ hW h2 h).2 aa az a5
theorem eu.wm{W W':Nat->Prop}{J τ:ad}(k:∀i c,W i->2<=c.length->J.get i=some (.cells c)->W' i/\τ.get i=some (.cells c)):∀(d:Nat) {a:PF} {v:AV},a.dep<=d->eu W J a v->eu W' τ a v
 |0,a,v,hd,_=>by cases a<;>simp[PF.dep] at hd
 |d+1,a,v,hd,h=>by
  cases h with
  |mk _ w xs hl hw hx=>
   refine .mk a w xs hl ?_ λi h h'=>eu.wm k d (by have:=PF.jQ (List.getElem_mem h');omega) (hx i h h');exact iO.wm k hw (by decide)
theorem jR.wm{W W':Nat->Prop}{J τ:ad}{x:a1}{v:AV}(h:jR W J x v)(k:∀i c,W i->2<=c.length->J.get i=some (.cells c)->W' i/\τ.get i=some (.cells c)):jR W' τ x v:=by
 cases h with
 |mk w e3 hf aa=>exact .mk w e3 (hf.wm k _ (Nat.le_refl _)) (iO.wm k aa (by decide))
theorem ja.b4N{J τ:ad}{m a:Nat}{y:AV}{bE:Nat->Prop}{L:List a1}{ab:List (List Nat)}{ax:List Nat}(h:ja J m bE L ab ax)(ha:J.get a=some (.cells [y]))(b4O:¬bE a)(hn:τ.next=J.next)(k:∀i o,i≠a->J.get i=some o->τ.get i=some o):ja τ m bE L ab ax:=by
 obtain⟨dt,dx,dz,dG,a2,hm,hl,ez,fE,hf,dE,ki,hg,fV,ic,ao⟩:=h.ex;have uu:∀i o,bE i->J.get i=some o->τ.get i=some o:=λi o hi=>k i o λe=>b4O (e▸hi);exact⟨λi hi=>by have:=h.lt i hi;omega,dt,dx,dz,dG,a2,uu _ _ ic hm,hl.aO λi o hi=>uu i o (ao.l _ hi).1,ez,λi a b=>(fE i a b).wm λi c hi h2 aa=>⟨hi,k _ _ (λe=>by subst e;rw[ha] at aa;cases aa;simp at h2) aa⟩,hf.aO λi o hi=>uu i o (ao.f _ hi).1,dE,λi a b=>(ki i a b).aO λj o aA=>uu j o (ao.s i a _ aA).1,hg.aO λi o hi=>uu i o (ao.g _ hi).1,fV,ic,ao⟩
structure jb(J:ad)(q:Nat)(cm:AV)(at_:Nat)(bE:Nat->Prop)(L:List a1)(ab:List (List Nat))(ax:List Nat)(τ:ad):Prop where
 ms:ja τ (q+3) bE L ab ax
 nY:∀i,bE i->q<=i/\i≠q/\i≠q+4/\i≠q+5
 c:τ.get q=some (.cells [cm])
 m:τ.get (q+4)=some (.cells [aK (q+3)])
 a:τ.get (q+5)=some (.cells [ah at_])
 old:∀i o,i<q->J.get i=some o->τ.get i=some o
section
variable {J τ aH:ad}{q at_:Nat}{cm:AV}{bE fG:Nat->Prop}{L ry:List a1}{ab a9:List (List Nat)}{ax fC:List Nat}
theorem jb.jS(h:jb J q cm at_ bE L ab ax τ)(M:dC τ aH):jb J q cm at_ bE L ab ax aH:=⟨h.ms.aO M,h.nY,M.2 _ _ h.c,M.2 _ _ h.m,M.2 _ _ h.a,λi o hi ho=>M.2 _ _ (h.old i o hi ho)⟩
theorem jb.BR(h:jb J q cm at_ bE L ab ax τ)(h2:ja aH (q+3) fG ry a9 fC)(S:pU bE fG τ aH):jb J q cm at_ fG ry a9 fC aH where
 ms:=h2
 nY i hi:=by
  rcases S.own i hi with h'|h'
  ·exact h.nY i h'
  ·have:=ad.bt h.a;omega
 c:=S.aO _ _ (λh'=>(h.nY _ h').2.1 I) h.c
 m:=S.aO _ _ (λh'=>(h.nY _ h').2.2.1 I) h.m
 a:=S.aO _ _ (λh'=>(h.nY _ h').2.2.2 I) h.a
 old i o hi ho:=S.aO _ _ (λh'=>by have:=(h.nY _ h').1;omega) (h.old i o hi ho)
variable {b:b8}{K:Nat->List AV->AV->Prop}
theorem jb.next(hh:bk (b.aM K) sn EI){code:List Nat}(au:∀τ,g8 τ none cm (code.map uB))(hl:code.length<2^62)(hb:∀x∈code,x<256)(fz:at_<=30)(h:jb J q cm at_ bE L ab ax τ):
  bu (b.aM K) 0 (.f (.func sn) [] [aK (q+5),aK q]) [] τ (λr aH=>r= .ok (ah (m9 code at_))/\jb J q cm (m_ code at_) bE L ab ax aH/\aH.next=τ.next/\∀i o,i≠q+5->τ.get i=some o->aH.get i=some o):=
 (b4z hh au hl hb fz h.a h.c (by omega)).mono λr aH ⟨e,bN,bQ,cc⟩=>⟨e,⟨h.ms.b4N h.a (λh'=>(h.nY _ h').2.2.2 I) bQ cc,h.nY,cc _ _ (by omega) h.c,cc _ _ (by omega) h.m,bN,λi o hi ho=>cc _ _ (by omega) (h.old i o hi ho)⟩,bQ,cc⟩
end
theorem Wa{code:List Nat}(hb:∀x∈code,x<256)(n:Nat):m9 code n<256:=by
 unfold m9;split
 ·rw[List.getD_eq_getElem?_getD];cases h:code[n]? with
  |none=>decide
  |some x=>exact hb x (List.mem_of_getElem? h)
 ·decide
theorem Gj{code:List Nat}{n:Nat}(h:n<=30):m_ code n<=30:=by unfold m_;split<;>omega
theorem Sl.aB{J:ad}{U:Option Nat}{v:AV}{xs:List AV}(h:Sl J U v xs)(a5:0<xs.length):∃o c,v.at? =some o/\J.get o=some (.cells c)/\∀j (aA:j<xs.length),idxSlA U v j=some (.p (some (o,j*shN U)))/\(∃r,c.drop (j*shN U)=(xs[j]).cells++r)/\dI U (c.drop (j*shN U))=some xs[j]:=by
 obtain⟨o,c,r,h1,h2,h3,aQ,bJ⟩:=h.ff a5;refine⟨o,c,h1,h3,λj aA=>?_⟩;obtain⟨bH,bM,cw,bN,bQ,cc,cI,c_⟩:=h.ff aA;rw[h1] at bN;cases bN;rw[h3] at cc;cases cc;exact⟨bQ,⟨cw,cI⟩,c_⟩
structure jT(b:b8)(K:Nat->List AV->AV->Prop):Prop where
 qG:bk (b.aM K) sn EI
 ci:bk (b.aM K) vP Ka
 li:bk (b.aM K) x5 EK
 uv:bk (b.aM K) vQ AI
 U:bk (b.aM K) AJ Kb
 uw:bk (b.aM K) AK Kc
 o8:bk (b.aM K) so AL
 at_:bk (b.aM K) x4 EJ
 fn:∀g aW r cw,K g aW r->K g aW cw->r=cw
 es:b.ext q2=0/\b.pure q2=true
 Mv:b.ext q3=0/\b.pure q3=true
 size:∀a:PF,a.dep<=100->a.bK<2^20->K q2 [a.aT.A true] (ah a.bK)
 same:∀a c:PF,a.dep<=100->c.dep<=100->K q3 [a.aT.A true,c.aT.A true] (.b (decide (a=c)))
theorem jT.q{b:b8}{K:Nat->List AV->AV->Prop}(h:jT b K):qX (b.aM K) [sn,vP,x5,vQ,AK,so,x4]:=λg hg=>by
 simp only[List.mem_cons,List.not_mem_nil,or_false] at hg;rcases hg with rfl|rfl|rfl|rfl|rfl|rfl|rfl
 ·exact⟨h.qG.e,.inr ⟨h.qG.p,_,_,h.qG.f,rfl,rfl⟩⟩
 ·exact⟨h.ci.e,.inr ⟨h.ci.p,_,_,h.ci.f,rfl,rfl⟩⟩
 ·exact⟨h.li.e,.inr ⟨h.li.p,_,_,h.li.f,rfl,rfl⟩⟩
 ·exact⟨h.uv.e,.inr ⟨h.uv.p,_,_,h.uv.f,rfl,rfl⟩⟩
 ·exact⟨h.uw.e,.inr ⟨h.uw.p,_,_,h.uw.f,rfl,rfl⟩⟩
 ·exact⟨h.o8.e,.inr ⟨h.o8.p,_,_,h.o8.f,rfl,rfl⟩⟩
 ·exact⟨h.at_.e,.inr ⟨h.at_.p,_,_,h.at_.f,rfl,rfl⟩⟩
def jc:List Nat->bF->bF
 |[],c=>c
 |i::l,.seq a c=>cond (Nat.beq i 0) (jc l a) (jc l c)
 |i::l,.cond _ a c=>cond (Nat.beq i 0) (jc l a) (jc l c)
 |_::l,.block _ a=>jc l a
 |_::l,.loop a=>jc l a
 |_,c=>c
def ln:bF:=match jL.body with|some c=>c|none=>.skip
abbrev gJ(q:Nat):List (Nat×AV):=[(5,.f (.func sn) [] [aK (q+5),aK q]),(4,aK (q+5)),(3,aK (q+4)),(1,aK q)]
def Out(J:ad)(q:Nat)(cm:AV)(at_ B:Nat)(τ:ad):Prop:=∃bE L ab ax,jb J q cm at_ bE L ab ax τ/\Rd L ab ax/\L≠[]/\L.length+ab.length<=B
section
variable {J τ:ad}{q at_:Nat}{cm:AV}{bE:Nat->Prop}{L:List a1}{ab:List (List Nat)}{ax:List Nat}{b:b8}{K:Nat->List AV->AV->Prop}
theorem Wb{l:List (List Nat)}{x:List Nat}(h:x∈l):x.length<=(l.map List.length).sum:=by
 induction l with
 |nil=>simp at h
 |cons y l aD=>
  rw[List.map_cons,List.sum_cons];rcases List.mem_cons.1 h with rfl|h
  ·omega
  ·have:=aD h;omega
theorem ur.small(h:ur L ab ax)(bV:L.length+ab.length<=40):L.length<2^20/\ab.length<2^20/\∀l∈ab,l.length<2^20:=⟨by omega,by omega,λl hl=>by have:=Wb hl;have:=h.sum;omega⟩
theorem wo(b3:jT b K)(h:jb J q cm at_ bE L ab ax τ)(hR:Rd L ab ax)(a5:L≠[])(bV:L.length+ab.length<=40){f:PF}{w:AV}(b_:eu (λi=>¬bE i) τ f (.ag [.i .u8 (Int.ofNat f.op),.s f.bZ,.ae,w])){fL l:List Nat}{v:AV}(p5:nW L (λc=>∃k∈ab,c∈k) f fL l)(au:eF τ v l)(ez:l.length<2^20):
  bu (b.aM K) 0 (.f (.func vP) [] [aK (q+4)]) [.ag [.i .u8 (Int.ofNat f.op),.s f.bZ,.ae,w],.s fL,v] τ (λr aH=>r= .ok (.a6 [])/\Out J q cm at_ (L.length+ab.length+1) aH):=by
 have aV:=hR.inv;have hle:=p5.le aV.dep aV.bK;obtain⟨F,k,rfl⟩:∃F k,ab=F++[k]:=by
  rcases List.eq_nil_or_concat ab with h|⟨F,k,h⟩
  ·have:=aV.ne;rw[h] at this;simp at this
  ·exact⟨F,k,by rw[h,List.concat_eq_append]⟩
 refine(b4A b3.ci b3.li b3.uv h.ms h.m (λh'=>(h.nY _ h').2.2.1 I) aV.ne (aV.small bV) b_ (by omega) au ez).mono λr aH ⟨e,fG,h1,h2⟩=>⟨e,fG,_,_,_,h.BR h1 h2,?_,by simp,?_⟩
 ·have hl:(F++[k]).length-1=F.length:=by simp
  have hg:(F++[k]).getD F.length []=k:=by rw[List.getD_eq_getElem?_getD];simp
  have ao:(F++[k]).set F.length (k++[L.length+1])=F++[k++[L.length+1]]:=by simp
  rw[hl,hg,ao];exact .step hR (.sG F k ax a5 p5)
 ·simp only[List.length_append,List.length_cons,List.length_nil,List.length_set];omega
theorem Wc(b3:jT b K)(h:jb J q cm at_ bE L ab ax τ)(hR:Rd L ab ax)(a5:L≠[])(bV:L.length+ab.length<=40)(h2:2<=ab.length):
  bu (b.aM K) 0 (.f (.func AJ) [] []) [aK (q+3)] τ (λr aH=>r= .ok (.a6 [])/\∃fG ry a9 fC,jb J q cm at_ fG ry a9 fC aH/\Rd ry a9 fC/\ry≠[]/\ry.length+a9.length=L.length+ab.length/\a9.length+1=ab.length):=by
 have aV:=hR.inv;have hlen:=aV.len;obtain⟨⟨eU,zl,jo,_⟩,rv⟩:=aV.last a5;have Mw:0<L.length:=List.length_pos_iff.2 a5;obtain⟨y,hy⟩:∃y,L[L.length-1]? =some y:=⟨L[L.length-1]'(by omega),List.getElem?_eq_getElem _⟩
 obtain⟨first,hf⟩:∃first,ax[ab.length-1]? =some first:=⟨ax[ab.length-1]'(by omega),List.getElem?_eq_getElem _⟩
 obtain⟨f1,n,hx⟩:=aV.fst _ _ (by omega) hf;have h_:=(List.getElem?_eq_some_iff.1 hx).1;have ar:=uq n;have F5:=aV.dep y (List.mem_of_getElem? hy);refine(b4i b3.U b3.o8 b3.uv h.ms h2 (aV.small bV) hlen hf ⟨f1,by omega⟩ hx hy (rv y hy) ⟨by show(eD n).dep<=300;omega,by omega⟩).mono λr aH ⟨e,fG,bN,bQ⟩=>⟨e,fG,_,_,_,h.BR bN bQ,?_,by simp,?_,?_⟩
 ·obtain⟨F,eg,k,rfl⟩:∃F e k,ab=F++[e,k]:=by
   subst jo;rcases List.eq_nil_or_concat eU with h|⟨F,k,h⟩
   ·rw[h] at h2;simp at h2
   ·exact⟨F,k,zl,by rw[h,List.concat_eq_append,List.append_assoc];rfl⟩
  obtain⟨G,fst,rfl⟩:∃G x,ax=G++[x]:=by
   rcases List.eq_nil_or_concat ax with h|⟨F,k,h⟩
   ·rw[h] at hlen;simp at hlen
   ·exact⟨F,k,by rw[h,List.concat_eq_append]⟩
  simp only[List.length_append,List.length_cons,List.length_nil] at hlen;have Wd:G.length=F.length+1:=by omega
  have el:(F++[eg,k]).length=F.length+2:=by simp
  rw[el,show F.length+2-1=F.length+1 from rfl,show F.length+2-2=F.length from rfl];rw[el,show F.length+2-1=F.length+1 from rfl,← Wd] at hf;have zw:fst=first:=by simpa using hf
  rw[el,show F.length+2-1=F.length+1 from rfl] at hx;subst zw;have aN:(F++[eg,k]).take (F.length+1)=F++[eg]:=by rw[show F++[eg,k]=(F++[eg])++[k] by simp,show F.length+1=(F++[eg]).length by simp,List.take_left]
  have a4:(F++[eg,k]).getD F.length []=eg:=by rw[List.getD_eq_getElem?_getD];simp
  have cQ:(G++[fst]).take (F.length+1)=G:=by rw[<-Wd];simp
  have h6:(F++[eg]).set F.length (eg++[L.length+1])=F++[eg++[L.length+1]]:=by simp
  rw[aN,a4,cQ,h6];exact .step hR (.shut F eg k G fst hx hy)
 ·simp only[List.length_append,List.length_cons,List.length_nil,List.length_set,List.length_take];omega
 ·simp only[List.length_set,List.length_take];omega
end
abbrev fm(f:PF)(w:AV):List AV:=[.i .u8 (Int.ofNat f.op),.s f.bZ,.ae,w]
structure ig(J:ad)(q:Nat)(cm:AV)(at_:Nat)(bE:Nat->Prop)(L:List a1)(ab:List (List Nat))(ax:List Nat)(τ:ad)(a c:Nat)(f g:PF)(dH ef:Nat)(fr gh:AV):Prop where
 fB:jb J q cm at_ bE L ab ax τ
 rd:Rd L ab ax
 ne:L≠[]
 B:L.length+ab.length<=36
 ha:∃k∈ab,a∈k
 aa:∃k∈ab,c∈k
 ay:lR L a f
 bD:lR L c g
 nZ:τ.get dH=some (.cells (fm f fr))
 ux:τ.get ef=some (.cells (fm g gh))
 f12:eu (λi=>¬bE i) τ f (.ag (fm f fr))
 f13:eu (λi=>¬bE i) τ g (.ag (fm g gh))
 k:q+5<dH/\q+5<ef/\dH≠ef
theorem eu.D1{W:Nat->Prop}{J:ad}{f:PF}{l:List AV}(h:eu W J f (.ag l)):conf (some 4) (.ag l)=true:=by cases h;rfl
theorem eu.two{W:Nat->Prop}{τ:ad}{f g:PF}{l m:List AV}{id:Nat}(k:Fin 3)(hW:W id)(hg:τ.get id=some (.cells (l++m)))(hf:eu W τ f (.ag l))(ru:eu W τ g (.ag m)):eu W τ (.bin k f g) (.ag (fm (.bin k f g) (.al id 0 2 (some 4) (some 2)))):=
 .mk (.bin k f g) _ [.ag l,.ag m] I (.al id (some 2) [.ag l,.ag m] [] hW (by rw[hg];show _=some (AO.cells (l++(m++[])++[]));rw[List.append_nil,List.append_nil]) (λy hy=>by
  simp only[List.mem_cons,List.not_mem_nil,or_false] at hy;rcases hy with rfl|rfl
  ·exact hf.D1
  ·exact ru.D1) (.inr I) (by simp)) λi h h'=>by
  match i,h with
  |0,_=>exact hf
  |1,_=>exact ru
theorem eF.one{τ:ad}{id a:Nat}(h:τ.get id=some (.cells [ah a])):eF τ (.al id 0 1 none (some 1)) [a]:=.al id (some 1) [ah a] [] h (λy hy=>by rw[List.mem_singleton.1 hy];rfl) (.inr I)
theorem eF.two{τ:ad}{id a c:Nat}(h:τ.get id=some (.cells [ah a,ah c])):eF τ (.al id 0 2 none (some 2)) [a,c]:=.al id (some 2) [ah a,ah c] [] h (λy hy=>by
 simp only[List.mem_cons,List.not_mem_nil,or_false] at hy;rcases hy with rfl|rfl<;>rfl) (.inr I)
abbrev na(q n a c dH ef:Nat)(can:AV):List (Nat×AV):=[(94,ah (n%10)),(14,.f (.func vP) [] [aK (q+4)]),(13,aK ef),(12,aK dH),(11,ah c),(10,ah a),(7,can),(6,ah n),(5,.f (.func sn) [] [aK (q+5),aK q]),(4,aK (q+5)),(3,aK (q+4)),(1,aK q)]
abbrev rz:List Nat:=[1,1,1,1,1,0,0,0,1,0,1,1,1,1,1,1,1,0]
section
variable {J τ:ad}{q at_:Nat}{cm:AV}{bE:Nat->Prop}{L:List a1}{ab:List (List Nat)}{ax:List Nat}{b:b8}{K:Nat->List AV->AV->Prop}{a c dH ef:Nat}{f g:PF}{fr gh:AV}
theorem ig.jS{aH:ad}(h:ig J q cm at_ bE L ab ax τ a c f g dH ef fr gh)(M:dC τ aH):ig J q cm at_ bE L ab ax aH a c f g dH ef fr gh:=
 {h with fB:=h.fB.jS M,nZ:=M.2 _ _ h.nZ,ux:=M.2 _ _ h.ux,f12:=h.f12.aO (λi c hi aa=>⟨hi,M.2 _ _ aa⟩) _ (Nat.le_refl _),f13:=h.f13.aO (λi c hi aa=>⟨hi,M.2 _ _ aa⟩) _ (Nat.le_refl _)}
theorem ig.dep(h:ig J q cm at_ bE L ab ax τ a c f g dH ef fr gh):f.dep<=40/\g.dep<=40/\f.bK<2^10/\g.bK<2^10:=by
 obtain⟨x,h1,rfl⟩:=h.ay.mem;obtain⟨y,h2,rfl⟩:=h.bD.mem;have bV:=h.B;have:=h.rd.inv.ne;have:=h.rd.inv.dep x h1;have:=h.rd.inv.bK x h1;have:=h.rd.inv.dep y h2;have:=h.rd.inv.bK y h2;omega
theorem ig.snap(h:ig J q cm at_ bE L ab ax τ a c f g dH ef fr gh):mapO (bG τ (b.bn+1000)) [.ag (fm f fr)]=some [f.aT.A true]/\mapO (bG τ (b.bn+1000)) [.ag (fm g gh)]=some [g.aT.A true]:=by
 have:=h.dep;rw[mapO_cons,mapO_cons,h.f12.snap _ (Nat.le_refl _) (by omega),h.f13.snap _ (Nat.le_refl _) (by omega)];exact⟨rfl,rfl⟩
theorem Out.le{B dW:Nat}(h:Out J q cm at_ B τ)(hb:B<=dW):Out J q cm at_ dW τ:=by
 obtain⟨bE,L,ab,ax,h1,h2,h3,aQ⟩:=h;exact⟨bE,L,ab,ax,h1,h2,h3,by omega⟩
theorem ig.out(h:ig J q cm at_ bE L ab ax τ a c f g dH ef fr gh):Out J q cm at_ (L.length+ab.length) τ:=⟨_,_,_,_,h.fB,h.rd,h.ne,Nat.le_refl _⟩
theorem b4P(b3:jT b K)(h:ig J q cm at_ bE L ab ax τ a c f g dH ef fr gh){n:Nat}{can:AV}{z:Nat->AV}{Q:dS}(b0:∀F aH,sat (gJ q) F->Out J q cm at_ (L.length+ab.length+2) aH->Q .normal F aH):
  bO (b.aM K) none [] jL.ntmps (jc (rz++[1,1,1,0]) ln) (bs (na q n a c dH ef can) z) τ Q:=by
 have hd:=h.dep;have ju:=h.snap (b:=b);have H:Has τ [(dH,fm f fr),(ef,fm g gh)]:=(Has.nil.cons h.ux (by simp)).cons h.nZ (by simpa using h.k.2.2.symm);have HB:gq τ [(ef,fm g gh)]:=gq.nil.cons h.ux;refine W.sq ?_;refine W.sM [(ef,fm g gh)] [3] 6 I I ?_;refine e4 ?_;refine W.uj HB (.head _) I I I I I (h.f13.eqb _ (Nat.le_refl _) (by show _<=b.bn+1000;omega)) ?_;refine W.fu b3.fn b3.es (b3.size f (by omega) (by omega)) I I I ju.1 ?_;refine W.kP HB I ?_;refine W.fu b3.fn b3.es (b3.size g (by omega) (by omega)) I I I ju.2 ?_;refine e4 ?_;by_cases wV:f.bK+g.bK<40
 ·refine e4 ?_;refine ai ?_;refine W.bI (c:=fm f fr++fm g gh) H I I I I λbh ea H bp=>?_;have h2:=h.jS (aH:=bh) ⟨by omega,bp⟩;refine W.an trivial I I I (p_ (op:=4) b3.o8 I I) λr bU ⟨aq,et⟩=>⟨_,aq,?_⟩
  have h3:=h2.jS et;have H:=H.aO et.2;refine ai ?_;refine W.bI (c:=[ah a,ah c]) H I I I I λcq fl H b5=>?_;have aQ:=h3.jS (aH:=cq) ⟨by omega,b5⟩;refine ai ?_;refine W.an trivial I I I (wo b3 aQ.fB aQ.rd aQ.ne (by have:=h.B;omega) (eu.two 0 (λhm=>by have:=h.fB.ms.lt _ hm;omega) (H.get _ (.tail _ (.head _))) aQ.f12 aQ.f13) (.and h.ha h.aa h.ay h.bD wV) (.two (H.get _ (.head _))) (by simp)) λr dD ⟨aq,bJ⟩=>⟨_,aq,?_⟩
  refine ai ?_;exact b0 _ _ ⟨rfl,rfl,rfl,rfl,trivial⟩ (bJ.le (by omega))
 ·refine e4 ?_;refine ai ?_;exact b0 _ _ ⟨rfl,rfl,rfl,rfl,trivial⟩ (h.out.le (by omega))
end
theorem iO.ptr{W:Nat->Prop}{J:ad}{U:Option Nat}{v:AV}{xs:List AV}(h:iO W J U v xs):∃e0,gq J e0/\∀j (aA:j<xs.length),∃p,idxSlA U v j=some p/\Ptr e0 U p xs[j]:=by
 cases h with
 |nil=>exact⟨[],.nil,λj aA=>by simp at aA⟩
 |a7 xs aa a5=>exact⟨[],.nil,λj aA=>⟨.df false xs[j],by
   cases xs with
   |nil=>simp at aA
   |cons x l=>exact An (o:=false) (l:=x::l) aA,.inl ⟨false,rfl,aa _ (List.getElem_mem aA)⟩⟩⟩
 |al o cap xs rest hW h aa az a5=>
  have ao:Sl J U (.al o 0 xs.length U cap) xs:=.al o cap xs rest h aa az;refine⟨[(o,xs.flatMap AV.cells++rest)],gq.nil.cons h,λj aA=>?_⟩;obtain⟨bH,c,r,h1,h2,h3,aQ,bJ⟩:=ao.ff aA;cases h1;rw[h] at h3;cases h3;exact⟨_,h2,.inr ⟨o,_,_,rfl,.head _,bJ⟩⟩
theorem PF.We{f:PF}{k:Nat}(h:f.op=4+k)(az:k<3):∃a c,f= .bin ⟨k,az⟩ a c:=by
 cases f with
 |bin gv a c=>exact⟨a,c,by congr 1;exact Fin.ext (by have:4+gv.val=4+k:=h;show gv.val=k;omega)⟩
 | ff q=>have:1=4+k:=h;omega
 |ct=>have:2=4+k:=h;omega
 |neg a=>have:3=4+k:=h;omega
theorem PF.b4Q{f:PF}(h:f.op=3):∃a,f= .neg a:=by
 cases f with
 |bin gv a c=>have:4+gv.val=3:=h;omega
 | ff q=>cases h
 |ct=>cases h
 |neg a=>exact⟨a,rfl⟩
theorem PF.b4R{f:PF}(h:f.op=2):f= .ct:=by
 cases f with
 |bin gv a c=>have:4+gv.val=2:=h;omega
 | ff q=>cases h
 |ct=>rfl
 |neg a=>cases h
section
variable {J τ:ad}{q at_:Nat}{cm:AV}{bE:Nat->Prop}{L:List a1}{ab:List (List Nat)}{ax:List Nat}{b:b8}{K:Nat->List AV->AV->Prop}{a c dH ef:Nat}{f g:PF}{fr gh:AV}
theorem ig.num(h:ig J q cm at_ bE L ab ax τ a c f g dH ef fr gh):1<=a/\a<=36/\1<=c/\c<=36:=by
 obtain⟨k,h1,h2⟩:=h.ha;obtain⟨gv,h3,aQ⟩:=h.aa;have bJ:=h.rd.inv.mem k h1 a h2;have cu:=h.rd.inv.mem gv h3 c aQ;have:=h.B;omega
theorem ig.fresh{aH:ad}{i0:Nat}{x:PF}{v:AV}(h:ig J q cm at_ bE L ab ax τ a c f g dH ef fr gh)(h0:τ.next<=i0)(hx:eu (λi=>i0<=i) aH x v):eu (λi=>¬bE i) aH x v:=hx.aO (λi c hi aa=>⟨λhm=>by have:=h.fB.ms.lt _ hm;omega,aa⟩) _ (Nat.le_refl _)
theorem b4S(b3:jT b K)(h:ig J q cm at_ bE L ab ax τ a c f g dH ef fr gh){n:Nat}{can:AV}{z:Nat->AV}{Q:dS}(b0:∀F aH,sat (gJ q) F->Out J q cm at_ (L.length+ab.length+2) aH->Q .normal F aH):
  bO (b.aM K) none [] jL.ntmps (jc (rz++[1,1,1,1,1,0]) ln) (bs (na q n a c dH ef can) z) τ Q:=by
 have hd:=h.dep;have hn:=h.num;have ju:=h.snap (b:=b);have H:Has τ [(dH,fm f fr)]:=Has.nil.cons h.nZ (by simp);have HB:gq τ [(dH,fm f fr)]:=gq.nil.cons h.nZ;refine ai ?_;refine W.fu b3.fn b3.es (b3.size f (by omega) (by omega)) I I I ju.1 ?_;by_cases wV:f.bK<40
 ·refine eY ?_;refine W.nil ?_;refine W.k8 I ?_;refine W.sM [(dH,fm f fr)] [5,7] 9 I I ?_;refine e4 ?_;refine W.uj HB (.head _) I I I I I (h.f12.eqb _ (Nat.le_refl _) (by show _<=b.bn+1000;omega)) ?_;refine e4 ?_;refine W.bI (c:=[ah a]) H I I I I λbh ea H bp=>?_;have h2:=h.jS (aH:=bh) ⟨by omega,bp⟩;refine W.kP (HB.aO bp) I ?_;refine W.an (b3.q.one I) I I I (Gc b3.uw b3.o8 b3.at_ c (by omega)) λr bU ⟨wp,aq,ar,et⟩=>⟨_,aq,?_⟩
  have h3:=h2.jS et;have H:=H.aO et.2;have qM:=et.1;have ar:=h2.fresh (Nat.le_refl _) ar;refine e4 ?_;refine W.bI (c:=fm f fr++fm (eD c) wp) H I I I I λcq fl H b5=>?_;have aQ:=h3.jS (aH:=cq) ⟨by omega,b5⟩;have BS:=(HB.aO bp).aO λi o h=>b5 _ _ (et.2 _ _ h);refine W.kP BS I ?_;refine W.an (b3.q.one I) I I I (p_ (op:=5) b3.o8 I I) λr dD ⟨aq,jv⟩=>⟨_,aq,?_⟩
  have bJ:=aQ.jS jv;have H:=H.aO jv.2;have FF:=jv.1;refine W.an (b3.q.one I) I I I (wo b3 bJ.fB bJ.rd bJ.ne (by have:=h.B;omega) (eu.two 1 (λhm=>by have:=h.fB.ms.lt _ hm;omega) (H.get _ (.head _)) bJ.f12 (ar.aO (λi c hi aa=>⟨hi,jv.2 _ _ (b5 _ _ aa)⟩) _ (Nat.le_refl _))) (.or c h.ha h.ay wV) (.one (H.get _ (.tail _ (.head _)))) (by simp)) λr eb ⟨aq,cu⟩=>⟨_,aq,?_⟩
  refine ai ?_;exact b0 _ _ ⟨rfl,rfl,rfl,rfl,trivial⟩ (cu.le (by omega))
 ·refine ai ?_;exact b0 _ _ ⟨rfl,rfl,rfl,rfl,trivial⟩ (h.out.le (by omega))
theorem b4T(b3:jT b K)(h:ig J q cm at_ bE L ab ax τ a c f g dH ef fr gh){n:Nat}{can:AV}{z:Nat->AV}{Q:dS}(b0:∀F aH,sat (gJ q) F->Out J q cm at_ (L.length+ab.length+2) aH->Q .normal F aH):
  bO (b.aM K) none [] jL.ntmps (jc (rz++[1,1,1,1,1,1,1,1,1,1,1,1,1,0]) ln) (bs (na q n a c dH ef can) z) τ Q:=by
 have H:Has τ [(dH,fm f fr)]:=Has.nil.cons h.nZ (by simp);refine ai ?_;refine W.bI (c:=[ah a]) H I I I I λbh ea H bp=>?_;have h2:=h.jS (aH:=bh) ⟨by omega,bp⟩;refine W.an trivial I I I (wo b3 h2.fB h2.rd h2.ne (by have:=h.B;omega) h2.f12 (.again h.ha h.ay) (.one (H.get _ (.head _))) (by simp)) λr eb ⟨aq,cu⟩=>⟨_,aq,?_⟩
 refine ai ?_;exact b0 _ _ ⟨rfl,rfl,rfl,rfl,trivial⟩ (cu.le (by omega))
theorem b4U(b3:jT b K)(h:ig J q cm at_ bE L ab ax τ a c f g dH ef fr gh){n:Nat}{can:AV}{z:Nat->AV}{Q:dS}(b0:∀F aH,sat (gJ q) F->Out J q cm at_ (L.length+ab.length+2) aH->Q .normal F aH):
  bO (b.aM K) none [] jL.ntmps (jc (rz++[1,1,1,1,1,1,1,1,1,1,1,1,1,1,1,0]) ln) (bs (na q n a c dH ef can) z) τ Q:=by
 have hn:=h.num;have H:Has τ [(dH,fm f fr)]:=Has.nil.cons h.nZ (by simp);have oc:=f.nT;by_cases h2:f.op=2
 ·obtain rfl:=PF.b4R h2;refine ai ?_;refine W.an trivial I I I (Gc b3.uw b3.o8 b3.at_ c (by omega)) λr bU ⟨wp,aq,ar,et⟩=>⟨_,aq,?_⟩
  have h3:=h.jS et;have H:=H.aO et.2;have ar:=h.fresh (Nat.le_refl _) ar;refine ai ?_;refine W.bI (c:=[ah a]) H I I I I λcq fl H b5=>?_;have aQ:=h3.jS (aH:=cq) ⟨by omega,b5⟩;refine W.an trivial I I I (wo b3 aQ.fB aQ.rd aQ.ne (by have:=h.B;omega) (ar.aO (λi c hi aa=>⟨hi,b5 _ _ aa⟩) _ (Nat.le_refl _)) (.wk c h.ha h.ay) (.one (H.get _ (.head _))) (by simp)) λr eb ⟨aq,cu⟩=>⟨_,aq,?_⟩
  refine ai ?_;exact b0 _ _ ⟨rfl,rfl,rfl,rfl,trivial⟩ (cu.le (by omega))
 ·refine ai ?_;exact b0 _ _ ⟨rfl,rfl,rfl,rfl,trivial⟩ (h.out.le (by omega))
theorem Wf(b3:jT b K)(h:ig J q cm at_ bE L ab ax τ a c f g dH ef fr gh){n:Nat}{can:AV}{z:Nat->AV}{Q:dS}(b0:∀F aH,sat (gJ q) F->Out J q cm at_ (L.length+ab.length+2) aH->Q .normal F aH):
  bO (b.aM K) none [] jL.ntmps (jc (rz++[1,1,1,1,1,1,1,1,1,1,1,0]) ln) (bs (na q n a c dH ef can) z) τ Q:=by
 obtain⟨dt,dx,dz,dG,a2,hm,hl,ez,fE,hf,dE,fO,hg,fV,ic,ao⟩:=h.fB.ms.ex;have H:Has τ [(q+4,[aK (q+3)]),(q+3,[dt,dx,dz])]:=(Has.nil.cons hm (by simp)).cons h.fB.m (by simp);have jk:=hf.vw;have bV:=h.B;by_cases h2:2<=ab.length
 ·refine ai ?_;refine W.an trivial I I I (Wc b3 h.fB h.rd h.ne (by omega) h2) λr eb ⟨aq,fG,ry,a9,fC,a3,bm,cv,dU,en⟩=>⟨_,aq,?_⟩
  refine ai ?_;exact b0 _ _ ⟨rfl,rfl,rfl,rfl,trivial⟩ ⟨_,_,_,_,a3,bm,cv,by omega⟩
 ·refine ai ?_;exact b0 _ _ ⟨rfl,rfl,rfl,rfl,trivial⟩ (h.out.le (by omega))
end
section
variable {J τ:ad}{q at_:Nat}{cm:AV}{bE:Nat->Prop}{L:List a1}{ab:List (List Nat)}{ax:List Nat}{b:b8}{K:Nat->List AV->AV->Prop}{a c dH ef:Nat}{f g:PF}{fr gh:AV}
theorem eu.parts{W:Nat->Prop}{f:PF}{w:AV}(h:eu W τ f (.ag (fm f w))):conf none w=true/\(∀n,2*f.dep+2<=n->AV.eqb n w w=true)/\∃(e0:List (Nat×List AV)) (xs:List AV),gq τ e0/\xs.length=f.subs.length/\∀j (aA:j<f.subs.length) (hx:j<xs.length),∃p yK,idxSlA (some 4) w j=some p/\Ptr e0 (some 4) p xs[j]/\xs[j]= .ag (fm f.subs[j] yK)/\eu W τ f.subs[j] (.ag (fm f.subs[j] yK)):=by
 cases h with
 |mk _ w xs hl hw hx=>
  obtain⟨e0,bV,ar⟩:=hw.ptr;refine⟨hw.one.2.2,λn hn=>?_,e0,xs,bV,hl,λj aA eR=>?_⟩
  ·obtain⟨n,rfl⟩:∃m,n=m+1:=⟨n-1,by omega⟩
   refine hw.eqb λy hy=>?_;obtain⟨i,hi,rfl⟩:=List.getElem_of_mem hy;exact(hx i hi (by omega)).eqb _ (Nat.le_refl _) (by have:=PF.jQ (List.getElem_mem (show i<f.subs.length by omega));omega)
  ·obtain⟨p,h1,h2⟩:=ar j eR;have h3:=hx j eR aA;generalize c1C:xs[j]=w_ at h2 h3;cases h3 with
   |mk _ yK a8 a3 bm cv=>exact⟨p,yK,h1,h2,rfl,.mk _ yK a8 a3 bm cv⟩
theorem b4V(b3:jT b K)(h:ig J q cm at_ bE L ab ax τ a c f g dH ef fr gh){n:Nat}{can:AV}{z:Nat->AV}{Q:dS}(b0:∀F aH,sat (gJ q) F->Out J q cm at_ (L.length+ab.length+2) aH->Q .normal F aH):
  bO (b.aM K) none [] jL.ntmps (jc (rz++[1,1,1,1,1,1,1,0]) ln) (bs (na q n a c dH ef can) z) τ Q:=by
 have hd:=h.dep;have hn:=h.num;have oc:=f.nT;have H:Has τ [(dH,fm f fr)]:=Has.nil.cons h.nZ (by simp);by_cases aQ:f.op=4
 ·obtain⟨f1,f2,rfl⟩:=PF.We (k:=0) aQ (by decide);obtain⟨Wg,Mx,Gk,xs,wq,h_,dg⟩:=h.f12.parts;obtain⟨sN,yL⟩:∃sN:Bool,c%2=cond sN 1 0:=by
   rcases Nat.mod_two_eq_zero_or_one c with e|e
   ·exact⟨false,e⟩
   ·exact⟨true,e⟩
  have aA:c%2<2:=Nat.mod_lt _ (by decide);obtain⟨p,yK,mx,Wh,lz,BL⟩:=dg (c%2) aA (by rw[h_];exact aA);have ep:(PF.bin ⟨0,by decide⟩ f1 f2).subs[c%2]'aA=cond sN f2 f1:=by
   show[f1,f2][c%2]'aA=_;simp only[yL];cases sN<;>rfl
  rw[ep] at BL lz;rw[lz] at Wh;have c1D:(cond sN f2 f1).dep<=40:=by
   have:max f1.dep f2.dep+1<=40:=hd.1;cases sN
   ·show f1.dep<=40;omega
   ·show f2.dep<=40;omega
  refine jw ?_;refine W.sM ((τ.next,[.s (ie false),.s (ie true)])::(dH,fm (PF.bin ⟨0,by decide⟩ f1 f2) fr)::Gk) [14] 15 I I ?_;refine eY ?_;refine W.qc h.nZ (.tail _ (.head _)) I I I I I (Mx _ (by show _<=b.bn+1000;omega)) ?_;refine eY ?_;refine W.bin I I I I (tv (c:=2) (by decide)) ?_;refine W.eV I I I I mx ?_;refine W.b4C wq (λx hx=>.tail _ (.tail _ hx)) Wh I I I I I (BL.eqb _ (Nat.le_refl _) (by show _<=b.bn+1000;omega)) ?_;refine W.bI (c:=[.s (ie false),.s (ie true)]) H I I I I λbh ea H bp=>?_;have h2:=h.jS (aH:=bh) ⟨by omega,bp⟩;have KR:Sl bh none (.al τ.next 0 2 none (some 2)) [.s (ie false),.s (ie true)]:=.al τ.next (some 2) [.s (ie false),.s (ie true)] [] (H.get _ (.head _)) (λy hy=>by
   simp only[List.mem_cons,List.not_mem_nil,or_false] at hy;rcases hy with rfl|rfl<;>rfl) (.inr I)
  obtain⟨o,l5,oj,fz,b4W,il,k7,hS⟩:=KR.ff (j:=c%2) aA;cases fz;have l2:=il.symm.trans (H.get _ (.head _));cases l2;have KT:[AV.s (ie false),.s (ie true)][c%2]'aA= .s (ie sN):=by
   simp only[yL];cases sN<;>rfl
  rw[KT] at hS;refine eY ?_;refine W.bin I I I I (tv (c:=2) (by decide)) ?_;refine W.eV I I I I b4W ?_;refine W.qc (H.get _ (.head _)) (.head _) I I I I hS (cX I) ?_;refine eY ?_;refine W.bI (c:=[ah a]) H I I I I λcq fl H b5=>?_;have aQ:=h2.jS (aH:=cq) ⟨by omega,b5⟩;have BS:gq cq ((τ.next,[.s (ie false),.s (ie true)])::(dH,fm (PF.bin ⟨0,by decide⟩ f1 f2) fr)::Gk):=((wq.aO λi o h=>b5 _ _ (bp _ _ h)).cons (H.get _ (.tail _ (.tail _ (.head _))))).cons (H.get _ (.tail _ (.head _)));refine W.kP BS I ?_;refine W.an (b3.q.one I) I I I (wo b3 aQ.fB aQ.rd aQ.ne (by have:=h.B;omega) (BL.aO (λi c hi aa=>⟨hi,b5 _ _ (bp _ _ aa)⟩) _ (Nat.le_refl _)) (.ie sN h.ha h.ay) (.one (H.get _ (.head _))) (by simp)) λr eb ⟨aq,cu⟩=>⟨_,aq,?_⟩
  refine ai ?_;exact b0 _ _ ⟨rfl,rfl,rfl,rfl,trivial⟩ (cu.le (by omega))
 ·refine ai ?_;exact b0 _ _ ⟨rfl,rfl,rfl,rfl,trivial⟩ (h.out.le (by omega))
end
theorem aj.b4X{env:Env}{aJ:Option Nat}{D:List (Nat ⊕ (AV×List AV))}{n i m c d b e5:Nat}{body:bF}{f:Nat->AV}{J:ad}{Q:dS}(N:Nat)(ed:Nat->(Nat->AV)->ad->Prop)
  (de:N<2^62) (h0:ed 0 f J) (r3:f i=ah 0) (D3:f m=ah N)
  (hb:∀j g τ,j<N->ed j g τ->g i=ah j->g m=ah N->bO env aJ D n (.block e5 body) (cR g c (.b true)) τ (λx bW aH=>match x with
   | .normal=>bW i=ah j/\bW m=ah N/\ed (j+1) (cR (cR bW d (ah (j+1))) i (ah (j+1))) aH
   | .exit e=>cond (Nat.beq e b) (Q .normal bW aH) (Q (.exit e) bW aH)
   |x=>Q x bW aH))
  (hx:∀g τ,ed N g τ->g i=ah N->Q .normal (cR g c (.b false)) τ)
  (aa:Nat.blt c n=true:=by rfl) (hd:Nat.blt d n=true:=by rfl) (hi:Nat.blt i n=true:=by rfl) (hm:Nat.blt m n=true:=by rfl) (JH:Nat.beq m d=false:=by rfl) (s8:Nat.beq m i=false:=by rfl):
  bO env aJ D n (.block b (.loop (.seq (.region [⟨some c,.bin .lss (.t i) (.t m),none,[]⟩]) (.seq (.cond (.t c) .skip (.exit b)) (.seq (.block e5 body) (.region [⟨some d,.bin .add (.t i) (.c (.i .i64 1)),none,[]⟩,⟨some i,.bx (.t d),none,[]⟩])))))) f J Q:=by
 refine aj.block (aj.loop (λk g τ=>∃j,j+k=N/\ed j g τ/\g i=ah j/\g m=ah N) ?_ N ⟨0,by omega,h0,r3,D3⟩);rintro k g τ ⟨j,D4,aV,vz,jC⟩;have oI:da env n g (.t i)=some (ah j):=by show cond (Nat.blt i n) (some (g i)) none=_;rw[hi,vz];rfl
 have em:da env n g (.t m)=some (ah N):=by show cond (Nat.blt m n) (some (g m)) none=_;rw[hm,jC];rfl
 refine aj.seq (aj.region ?_);refine aE.cmp (a:=j) (b:=N) aa I oI em I ?_;refine aE.nil (aj.seq (aj.hJ (t:=decide (j<N)) (by show cond (Nat.blt c n) (some (cR g c (.b (decide (j<N))) c)) none=_;rw[aa,xK];rfl) (λh=>?_) λh=>?_))
 ·have aA:j<N:=of_decide_eq_true h;rw[h];refine aj.skip (aj.seq ((hb j g τ aA aV vz jC).mono λx bW aH h'=>?_));cases x with
  |normal=>
   obtain⟨h1,h2,h3⟩:=h';refine aj.region ?_;have aN:da env n bW (.t i)=some (ah j):=by show cond (Nat.blt i n) (some (bW i)) none=_;rw[hi,h1];rfl
   refine aE.bin hd I aN I (oE (a:=j) (b:=1) (by omega)) ?_;refine aE.go I hi I (v:=ah (j+1)) (af:=aH) ?_ ?_
   ·show(match cond (Nat.blt d n) (some (cR bW d (ah (j+1)) d)) none with|some v=>some (bL.val v aH)|none=>none)=_;rw[hd,xK];rfl
   ·refine aE.nil ?_;refine⟨k-1,by omega,j+1,by omega,h3,xK,?_⟩;rw[D2 s8,D2 JH,h2]
  |exit e=>exact h'
  |ret=>exact h'
  |panic v=>exact h'
 ·have aA:j=N:=by have:=of_decide_eq_false h;omega
  subst aA;rw[h];refine aj.exit ?_;show cond (Nat.beq b b) (Q .normal (cR g c (.b false)) τ) (Q (.exit b) (cR g c (.b false)) τ);rw[Nat.beq_refl];exact hx g τ aV vz
theorem ja.lines{τ:ad}{m:Nat}{bE:Nat->Prop}{L:List a1}{ab:List (List Nat)}{ax:List Nat}(h:ja τ m bE L ab ax)(a5:L≠[]):∃(dt dx dz:AV) (o:Nat) (c:List AV),τ.get m=some (.cells [dt,dx,dz])/\dt.lf=true/\dx.lf=true/\τ.get o=some (.cells c)∧
  ∀e x,1<=e->L[e-1]? =some x->idxSlA (some 9) dt (e-1)=some (.p (some (o,(e-1)*9)))/\∃w,dI (some 4) (c.drop ((e-1)*9+3))=some (.ag (fm x.f w))/\eu (λi=>¬bE i) τ x.f (.ag (fm x.f w)):=by
 obtain⟨dt,dx,dz,dG,a2,hm,hl,ez,fE,hf,dE,fO,hg,fV,ic,ao⟩:=h.ex;obtain⟨o,c,h1,h2,h3⟩:=hl.aB (by rw[ez];exact List.length_pos_iff.2 a5);refine⟨dt,dx,dz,o,c,hm,hl.lf,hf.lf,h2,λe x he hx=>?_⟩;obtain⟨h_,BC⟩:=List.getElem?_eq_some_iff.1 hx;obtain⟨a3,⟨r,bm⟩,cv⟩:=h3 (e-1) (by omega);have fE:=fE (e-1) (by omega) (by omega);rw[BC] at fE;refine⟨a3,?_⟩;generalize dG[e-1]'(by omega)=w_ at fE bm;cases fE with
 |mk w e3 VV se=>
  refine⟨w,?_,VV⟩;rw[<-List.drop_drop,show(e-1)*9=(e-1)*shN (some 9) from rfl,bm];rfl
section
variable {J τ:ad}{q at_:Nat}{cm:AV}{bE:Nat->Prop}{L:List a1}{ab:List (List Nat)}{ax:List Nat}{b:b8}{K:Nat->List AV->AV->Prop}{a c dH ef:Nat}{f g:PF}{fr gh:AV}
theorem Gl{W:Nat->Prop}{f:PF}{w:AV}(h:eu W τ f (.ag (fm f w)))(hd:f.dep<=40){l:List AV}{r:List AV}(hl:mapO (bG τ (b.bn+1000)) l=some r):mapO (bG τ (b.bn+1000)) (.ag (fm f w)::l)=some (f.aT.A true::r):=by
 rw[mapO_cons,h.snap _ (Nat.le_refl _) (by omega),hl]
abbrev Wi:List Nat:=rz++[1,1,1,1,1,1,1,1,1,0,1,0,0,1,1,0,0,1]
abbrev wu(q n a c dH ef:Nat)(can:AV)(j N:Nat):List (Nat×AV):=(190,ah j)::(189,ah N)::(188,can)::na q n a c dH ef can
theorem ig.has(h:ig J q cm at_ bE L ab ax τ a c f g dH ef fr gh){dt dx dz:AV}(hm:τ.get (q+3)=some (.cells [dt,dx,dz])):Has τ [(q+4,[aK (q+3)]),(q+3,[dt,dx,dz]),(dH,fm f fr),(ef,fm g gh)]:=by
 have az:=h.k;exact(((Has.nil.cons h.ux (by simp)).cons h.nZ (by simp;omega)).cons hm (by simp;omega)).cons h.fB.m (by simp;omega)
theorem b4Y(b3:jT b K)(h:ig J q cm at_ bE L ab ax τ a c f g dH ef fr gh){n:Nat}{can:AV}{z:Nat->AV}{Q:dS}{e j N:Nat}(he:∃k∈ab,e∈k)(de:∀F,sat ((16,ah e)::wu q n a c dH ef can j N) F->Q .normal F τ)(mq:∀F aH,sat (gJ q) F->Out J q cm at_ (L.length+ab.length+2) aH->Q (.exit 7) F aH):
  bO (b.aM K) none [] jL.ntmps (jc (Wi++[0]) ln) (bs ((16,ah e)::wu q n a c dH ef can j N) z) τ Q:=by
 have hd:=h.dep;have bV:=h.B;have oc:=f.nT;obtain⟨dt,dx,dz,o,l5,hm,jl,_,ho,mL⟩:=h.fB.ms.lines h.ne;have H:=h.has hm;have My:1<=e/\e<=L.length:=by
  obtain⟨k,h1,h2⟩:=he;exact h.rd.inv.mem k h1 e h2
 obtain⟨x,hx⟩:∃x,L[e-1]? =some x:=⟨L[e-1]'(by omega),List.getElem?_eq_getElem _⟩
 obtain⟨Mz,b4Z,MA,MB⟩:=mL e x My.1 hx;have MC:x.f.dep<=40:=by have:=h.rd.inv.dep x (List.mem_of_getElem? hx);have:=h.rd.inv.ne;omega
 refine W.sq ?_;refine W.F_ [] 19 I I ?_;by_cases cu:f.op=6
 ·obtain⟨f1,f2,rfl⟩:=PF.We (k:=2) cu (by decide);obtain⟨Wg,Mx,Gk,xs,wq,h_,dg⟩:=h.f12.parts;obtain⟨p0,eK,MD,BT,ME,MF⟩:=dg 0 (by show 0<2;omega) (by rw[h_];show 0<2;omega);rw[ME] at BT;have jD:f1.dep<=40/\f2.dep<=40:=by
   have:max f1.dep f2.dep+1<=40:=hd.1;omega
  refine e4 ?_;refine W.eV I I I I MD ?_;refine W.Mt wq BT I I I ?_;refine e4 ?_;refine W.eV I I I I Mz ?_;refine e4 ?_;refine W.q_ ho I I I MA ?_;refine W.fu b3.fn b3.Mv (b3.same f1 x.f (by omega) (by omega)) I I I (Gl MF jD.1 (Gl MB MC I)) ?_;refine e4 ?_;by_cases ao:f1=x.f
  ·rw[decide_eq_true ao];refine ai ?_;obtain⟨p1,bR,b5a,Wj,b5b,b5c⟩:=dg 1 (by show 1<2;omega) (by rw[h_];show 1<2;omega);rw[b5b] at Wj;refine W.eV I I I I b5a ?_;refine W.Mt wq Wj I I I ?_;refine ai ?_;refine W.bI (c:=[ah a,ah e]) H I I I I λcq fl H b5=>?_;have aQ:=h.jS (aH:=cq) ⟨by omega,b5⟩;refine W.an trivial I I I (wo b3 aQ.fB aQ.rd aQ.ne (by omega) (b5c.aO (λi c hi aa=>⟨hi,b5 _ _ aa⟩) _ (Nat.le_refl _)) (.imp h.ha he h.ay ⟨x,hx,ao.symm⟩) (.two (H.get _ (.head _))) (by simp)) λr eb ⟨aq,cu⟩=>⟨_,aq,?_⟩
   refine ai ?_;refine aj.exit ?_;exact mq _ _ ⟨rfl,rfl,rfl,rfl,trivial⟩ (cu.le (by omega))
  ·rw[decide_eq_false ao];refine ai ?_;exact de _ ⟨rfl,rfl,rfl,rfl,rfl,rfl,rfl,rfl,rfl,rfl,rfl,rfl,rfl,rfl,rfl,rfl,trivial⟩
 ·refine e4 ?_;refine ai ?_;exact de _ ⟨rfl,rfl,rfl,rfl,rfl,rfl,rfl,rfl,rfl,rfl,rfl,rfl,rfl,rfl,rfl,rfl,trivial⟩
theorem b5d(b3:jT b K)(h:ig J q cm at_ bE L ab ax τ a c f g dH ef fr gh){n:Nat}{can:AV}{z:Nat->AV}{Q:dS}{e j N:Nat}(he:∃k∈ab,e∈k)(de:∀F,sat ((16,ah e)::wu q n a c dH ef can j N) F->Q .normal F τ)(mq:∀F aH,sat (gJ q) F->Out J q cm at_ (L.length+ab.length+2) aH->Q (.exit 7) F aH):
  bO (b.aM K) none [] jL.ntmps (jc (Wi++[1]) ln) (bs ((16,ah e)::wu q n a c dH ef can j N) z) τ Q:=by
 have hd:=h.dep;have bV:=h.B;have oc:=g.nT;obtain⟨dt,dx,dz,o,l5,hm,jl,_,ho,mL⟩:=h.fB.ms.lines h.ne;have H:=h.has hm;have My:1<=e/\e<=L.length:=by
  obtain⟨k,h1,h2⟩:=he;exact h.rd.inv.mem k h1 e h2
 obtain⟨x,hx⟩:∃x,L[e-1]? =some x:=⟨L[e-1]'(by omega),List.getElem?_eq_getElem _⟩
 obtain⟨Mz,b4Z,MA,MB⟩:=mL e x My.1 hx;have MC:x.f.dep<=40:=by have:=h.rd.inv.dep x (List.mem_of_getElem? hx);have:=h.rd.inv.ne;omega
 refine W.sq ?_;refine W.F_ [] 19 I I ?_;by_cases cu:g.op=3
 ·obtain⟨bN,rfl⟩:=PF.b4Q cu;obtain⟨Wg,Mx,Gk,xs,wq,h_,dg⟩:=h.f13.parts;obtain⟨p0,eK,MD,BT,ME,MF⟩:=dg 0 (by show 0<1;omega) (by rw[h_];show 0<1;omega);rw[ME] at BT;have jD:bN.dep<=40:=by
   have:bN.dep+1<=40:=hd.2.1;omega
  refine e4 ?_;refine W.eV I I I I MD ?_;refine W.Mt wq BT I I I ?_;refine e4 ?_;refine W.eV I I I I Mz ?_;refine e4 ?_;refine W.q_ ho I I I MA ?_;refine W.fu b3.fn b3.Mv (b3.same bN x.f (by omega) (by omega)) I I I (Gl MF jD (Gl MB MC I)) ?_;refine e4 ?_;by_cases ao:bN=x.f
  ·rw[decide_eq_true ao];refine ai ?_;refine W.an trivial I I I (p_ (op:=2) b3.o8 I I) λr bU ⟨aq,et⟩=>⟨_,aq,?_⟩
   have h3:=h.jS et;have H:=H.aO et.2;refine ai ?_;refine W.bI (c:=[ah e,ah c]) H I I I I λcq fl H b5=>?_;have aQ:=h3.jS (aH:=cq) ⟨by omega,b5⟩;refine W.an trivial I I I (wo (f:=.ct) b3 aQ.fB aQ.rd aQ.ne (by omega) (.mk .ct .ae [] I .nil λi h=>by simp at h) (.not he h.aa ⟨x,hx,ao.symm⟩ h.bD) (.two (H.get _ (.head _))) (by simp)) λr eb ⟨aq,cu⟩=>⟨_,aq,?_⟩
   refine ai ?_;refine aj.exit ?_;exact mq _ _ ⟨rfl,rfl,rfl,rfl,trivial⟩ (cu.le (by omega))
  ·rw[decide_eq_false ao];refine ai ?_;exact de _ ⟨rfl,rfl,rfl,rfl,rfl,rfl,rfl,rfl,rfl,rfl,rfl,rfl,rfl,rfl,rfl,rfl,trivial⟩
 ·refine e4 ?_;refine ai ?_;exact de _ ⟨rfl,rfl,rfl,rfl,rfl,rfl,rfl,rfl,rfl,rfl,rfl,rfl,rfl,rfl,rfl,rfl,trivial⟩
theorem Wl(b3:jT b K)(h:ig J q cm at_ bE L ab ax τ a c f g dH ef fr gh){n:Nat}{can:AV}{z:Nat->AV}{Q:dS}{an:List Nat}(mB:eF τ can an)(fH:∀e∈an,∃k∈ab,e∈k)(BU:an.length<2^20)(b0:∀F aH,sat (gJ q) F->Out J q cm at_ (L.length+ab.length+2) aH->Q .normal F aH):
  bO (b.aM K) none [] jL.ntmps (jc (rz++[1,1,1,1,1,1,1,1,1,0]) ln) (bs (na q n a c dH ef can) z) τ Q:=by
 have po:=mB.jN;refine W.sq ?_;refine W.rg ?_;have H:Has τ []:=Has.nil;refine eY ?_;refine W.nil ?_;refine aj.b4X an.length (λj F aH=>aH=τ/\sat ((188,can)::na q n a c dH ef can) F) (by omega) ⟨rfl,rfl,rfl,rfl,rfl,rfl,rfl,rfl,rfl,rfl,rfl,rfl,rfl,rfl,trivial⟩ I I (λj F aH aA aV hi pt=>?_) (λF aH aV hi=>?_)
 ·obtain⟨e,Wm,Wn,kr,ux,nZ,sz,rf,g5,gZ,c_,cI,cc,bN,_⟩:=aV;subst e;refine aj.norm (wu q n a c dH ef can j an.length) ⟨hi,pt,Wm,Wn,kr,ux,nZ,sz,rf,g5,gZ,c_,cI,cc,bN,trivial⟩ λF=>?_;have H:Has aH []:=Has.nil;have MG:=fH _ (List.getElem_mem aA);refine aj.block ?_;refine W.sq ?_;refine W.rg ?_;refine eY ?_;generalize an[j]=e at MG ⊢;refine W.nil ?_;refine aj.norm ((16,ah e)::wu q n a c dH ef can j an.length) ⟨rfl,rfl,rfl,rfl,rfl,rfl,rfl,rfl,rfl,rfl,rfl,rfl,rfl,rfl,rfl,rfl,trivial⟩ λF=>?_;refine W.sq ?_;refine b4Y b3 h MG (λF b_=>?_) λF eb b_ cu=>?_
  ·refine aj.norm ((16,ah e)::wu q n a c dH ef can j an.length) b_ λF=>?_;refine b5d b3 h MG (λF b_=>?_) λF eb b_ cu=>?_
   ·obtain⟨_,a3,bm,cv,b_⟩:=b_;exact⟨a3,bm,rfl,cv,b_⟩
   ·exact b0 _ _ b_ cu
  ·exact b0 _ _ b_ cu
 ·obtain⟨e,Wm,Wn,kr,ux,nZ,sz,rf,g5,gZ,c_,cI,cc,bN,_⟩:=aV;subst e;exact b0 _ _ ⟨c_,cI,cc,bN,trivial⟩ (h.out.le (by omega))
end
section
variable {J τ:ad}{q at_:Nat}{cm:AV}{bE:Nat->Prop}{L:List a1}{ab:List (List Nat)}{ax:List Nat}{b:b8}{K:Nat->List AV->AV->Prop}{a c dH ef:Nat}{f g:PF}{fr gh:AV}
theorem ja.open_{m:Nat}{dt dx dz lQ m8:AV}{dG a2:List AV}{dy hc:Nat}{aH:ad}(hlt:∀i,bE i->i<τ.next)(hl:Sl τ (some 9) dt dG)(ez:dG.length=L.length)(fE:∀i (h:i<dG.length) (h':i<L.length),jR (λi=>¬bE i) τ L[i] dG[i])(dE:a2.length=ab.length)(ki:∀i (h:i<a2.length) (h':i<ab.length),eF τ a2[i] ab[i])(ic:bE m)(kz:∀o l c,dt= .al o 0 l (some 9) c->c=none)(ao:VO m dt dx dz a2 bE)(k:∀i o,i≠m->dx.at? ≠some i->dz.at? ≠some i->τ.get i=some o->aH.get i=some o)
  (lX:aH.get m=some (.cells [dt,lQ,m8])) (hf:Sl aH none lQ (a2++[.ae])) (hg:eF aH m8 (ax++[L.length+1])) (ui:lQ.at? =some dy) (nP:m8.at? =some hc) (ho:τ.next<=dy/\τ.next<=hc/\dy≠hc/\dy<aH.next/\hc<aH.next) (jA:∀o l c,lQ= .al o 0 l none c->c=none) (kN:∀o l c,m8= .al o 0 l none c->c=none):
  ∃fG,ja aH m fG L (ab++[[]]) (ax++[L.length+1])/\pU bE fG τ aH:=by
 have uu:∀i o,¬bE i->τ.get i=some o->aH.get i=some o:=λi o hi h=>k i o (λe=>hi (e▸ic)) (λe=>hi (ao.f _ e).1) (λe=>hi (ao.g _ e).1) h;refine⟨λi=>bE i\/i=dy\/i=hc,⟨λi hi=>?_,dt,lQ,m8,dG,a2++[.ae],lX,?_,ez,λi h h'=>?_,hf,by simp[dE],λi h h'=>?_,hg,⟨λ_=>⟨jA,kN⟩,kz⟩,.inl ic,?_⟩,by omega,λc o aa h=>uu c o aa h,λc aa=>?_⟩
 ·rcases hi with h|h|h
  ·have:=hlt i h;omega
  ·omega
  ·omega
 ·exact hl.aO λi o hi=>k i o (ao.l _ hi).2.1 (ao.l _ hi).2.2.1 (ao.l _ hi).2.2.2
 ·exact(fE i h h').aO λi c hi aa=>⟨λh=>by
   have:=ad.bt aa;rcases h with h|h|h
   ·exact hi h
   ·omega
   ·omega,uu _ _ hi aa⟩
 ·by_cases hi:i<a2.length
  ·rw[List.getElem_append_left hi,List.getElem_append_left (by omega)];exact(ki i hi (by omega)).aO λj o aA=>k j o (ao.s i hi _ aA).2.1 (ao.s i hi _ aA).2.2.2.1 (ao.s i hi _ aA).2.2.2.2
  ·have e:i=a2.length:=by rw[List.length_append] at h;simp only[List.length_cons,List.length_nil] at h;omega
   subst e;rw[List.getElem_concat_length I,List.getElem_concat_length dE];exact .nil
 ·refine⟨λo h=>?_,λo h=>?_,λo h=>?_,λi h o jF=>?_,λi j h h' gp o h1 h2=>?_⟩
  ·obtain⟨h1,h2,h3,aQ⟩:=ao.l o h;have:=hlt o h1;exact⟨.inl h1,h2,λe=>by rw[ui] at e;have:=Option.some.inj e;omega,λe=>by rw[nP] at e;have:=Option.some.inj e;omega⟩
  ·rw[ui] at h;cases h;exact⟨.inr (.inl I),λe=>by have:=hlt _ ic;omega,λe=>by rw[nP] at e;have:=Option.some.inj e;omega⟩
  ·rw[nP] at h;cases h;exact⟨.inr (.inr I),λe=>by have:=hlt _ ic;omega⟩
  ·by_cases hi:i<a2.length
   ·rw[List.getElem_append_left hi] at jF;obtain⟨h1,h2,h3,aQ,bJ⟩:=ao.s i hi o jF;have:=hlt o h1;exact⟨.inl h1,h2,h3,λe=>by rw[ui] at e;have:=Option.some.inj e;omega,λe=>by rw[nP] at e;have:=Option.some.inj e;omega⟩
   ·have e:i=a2.length:=by rw[List.length_append] at h;simp only[List.length_cons,List.length_nil] at h;omega
    subst e;rw[List.getElem_concat_length I] at jF;cases jF
  ·by_cases hi:i<a2.length
   ·by_cases aA:j<a2.length
    ·rw[List.getElem_append_left hi] at h1;rw[List.getElem_append_left aA] at h2;exact ao.cp i j hi aA gp o h1 h2
    ·have e:j=a2.length:=by rw[List.length_append] at h';simp only[List.length_cons,List.length_nil] at h';omega
     subst e;rw[List.getElem_concat_length I] at h2;cases h2
   ·have e:i=a2.length:=by rw[List.length_append] at h;simp only[List.length_cons,List.length_nil] at h;omega
    subst e;rw[List.getElem_concat_length I] at h1;cases h1
 ·rcases aa with h|h|h
  ·exact .inl h
  ·right;omega
  ·right;omega
theorem b5e(b3:jT b K)(h:ig J q cm at_ bE L ab ax τ a c f g dH ef fr gh){n:Nat}(hn:n<256){can:AV}{z:Nat->AV}{Q:dS}(b0:∀F aH,sat (gJ q) F->Out J q cm at_ (L.length+ab.length+2) aH->Q .normal F aH):
  bO (b.aM K) none [] jL.ntmps (jc (rz++[1,0]) ln) (bs (na q n a c dH ef can) z) τ Q:=by
 have bV:=h.B;have KR:=h.num;have aV:=h.rd.inv;have Mw:0<L.length:=List.length_pos_iff.2 h.ne;obtain⟨dt,dx,dz,dG,a2,hm,hl,ez,fE,hf,dE,ki,hg,fV,ic,ao⟩:=h.fB.ms.ex;have H:Has τ [(q+4,[aK (q+3)]),(q+3,[dt,dx,dz])]:=(Has.nil.cons hm (by simp)).cons h.fB.m (by simp);have jk:=hf.vw;by_cases bJ:ab.length<5
 ·refine jw ?_;refine W.F_ [(18,q+4,[aK (q+3)]),(19,q+4,[aK (q+3)]),(22,q+4,[aK (q+3)]),(25,q+4,[aK (q+3)]),(18,q+3,[dt,dx,dz]),(19,q+3,[dt,dx,dz])] 26 I I ?_;refine W.oH h.fB.m (by simp) I I I I (cX I) ?_;refine W.oH h.fB.m (by simp) I I I I (cX I) ?_;refine W.oH h.fB.m (by simp) I I I I (cX I) ?_;refine e4 ?_;refine W.oH hm (by simp) I I I I (cX hf.lf) ?_;refine W.bI (c:=[.ae]) H I I I I λbh ea H bp=>?_;have qa:=bp _ _ hm;have Wo:=bp _ _ h.fB.m;refine W.oH Wo (by simp) I I I I (cX I) ?_;refine e4 ?_;refine W.oH qa (by simp) I I I I (cX hg.lf) ?_;refine W.oH Wo (by simp) I I I I (cX I) ?_;refine e4 ?_;refine W.oH qa (by simp) I I I I (cX hl.lf) ?_;refine W.pN (v:=ah dG.length) I I I (λs=>ts I hl.len) (cX I) ?_;refine e4 ?_;refine W.bI (c:=[ah (dG.length+1)]) H I I I I λbU eT H bc=>?_;have cL:∀i o,τ.get i=some o->bU.get i=some o:=λi o h=>bc _ _ (bp _ _ h);have bQ:=H.get _ (.tail _ (.head _));have cc:=H.get _ (.head _);have MH:=ad.bt h.fB.m;refine W.Ga (mj:=[(19,q+4,[aK (q+3)]),(22,q+4,[aK (q+3)]),(25,q+4,[aK (q+3)]),(19,q+3,[dt,dx,dz])]) 18 I (λp ar=>by
   simp only[List.mem_cons,List.not_mem_nil,or_false] at ar;rcases ar with rfl|rfl|rfl|rfl|rfl|rfl
   ·exact .inl ⟨rfl,cL _ _ h.fB.m⟩
   ·exact .inr (by simp)
   ·exact .inr (by simp)
   ·exact .inr (by simp)
   ·exact .inl ⟨rfl,cL _ _ hm⟩
   ·exact .inr (by simp)) ?_
  refine W.ap (w:=.al τ.next 0 1 none (some 1)) .ae [] (hf.aO λi o _=>cL i o) (by show(match bU.get τ.next with|some (.cells c)=>elems none 1 (c.drop 0)|_=>none)=_;rw[bQ];rfl) (λz bg=>by rw[List.mem_singleton.1 bg];rfl) (by show(3*(a2.length+1)+2000)*24<=_;omega) I I I I λlQ cq MI mr K5 fl b5=>?_;have MJ:∀i,dx.at? =some i->i≠q+3/\i≠q+4/\i<τ.next:=λi e=>by
   have h1:=ao.f _ e;exact⟨h1.2.1,(h.fB.nY _ h1.1).2.2.1,h.fB.ms.lt _ h1.1⟩
  have t_:∀i o,dx.at? ≠some i->τ.get i=some o->cq.get i=some o:=λi o hi h=>b5 _ _ hi (cL _ _ h);have yi:=t_ _ _ (λe=>(MJ _ e).2.1 I) h.fB.m;have Dq:=t_ _ _ (λe=>(MJ _ e).1 I) hm;refine W.Ga (mj:=[(22,q+4,[aK (q+3)]),(25,q+4,[aK (q+3)])]) 19 I (λp ar=>by
   simp only[List.mem_cons,List.not_mem_nil,or_false] at ar;rcases ar with rfl|rfl|rfl|rfl
   ·exact .inl ⟨rfl,yi⟩
   ·exact .inr (by simp)
   ·exact .inr (by simp)
   ·exact .inl ⟨rfl,Dq⟩) ?_
  have b5f:=b5 _ _ (λe=>by have:=(MJ _ e).2.2;omega) cc;refine W.ap (w:=.al bh.next 0 1 none (some 1)) (ah (dG.length+1)) [] (hg.aO λi o hi h=>t_ i o (λe=>(ao.f _ e).2.2 hi) h) (by show(match cq.get bh.next with|some (.cells c)=>elems none 1 (c.drop 0)|_=>none)=_;rw[b5f];rfl) (λz bg=>by rw[List.mem_singleton.1 bg];rfl) (by rw[List.length_map,aV.len];show(3*(ab.length+1)+2000)*8<=_;omega) I I I I λm8 dD wa re K9 ir cW=>?_;have MK:∀i,dz.at? =some i->i≠q+3/\i≠q+4/\i<τ.next:=λi e=>by
   have h1:=ao.g _ e;exact⟨h1.2,(h.fB.nY _ h1.1).2.2.1,h.fB.ms.lt _ h1.1⟩
  have LM:=cW _ _ (λe=>(MK _ e).2.1 I) yi;have b5g:=cW _ _ (λe=>(MK _ e).1 I) Dq;have H:Has dD [(q+3,[dt,dx,dz])]:=Has.nil.cons b5g (by simp);refine e4 ?_;refine W.Ga (mj:=[(25,q+4,[aK (q+3)])]) 22 I (λp ar=>by
   simp only[List.mem_cons,List.not_mem_nil,or_false] at ar;rcases ar with rfl|rfl
   ·exact .inl ⟨rfl,LM⟩
   ·exact .inr (by simp)) ?_
  refine W.st (bM:=[dt,lQ,dz]) H 0 I I I I MI.j7 (by rw[MI.kL];rfl) λeb iE H dQ=>?_;refine e4 ?_;have Wp:=dQ _ _ (by simp) LM;refine W.Ga (mj:=[]) 25 I (λp ar=>by
   rw[List.mem_singleton.1 ar];exact .inl ⟨rfl,Wp⟩) ?_
  refine W.st (bM:=[dt,lQ,m8]) H 0 I I I I wa.j7 (by rw[wa.kL];rfl) λeM kj H fK=>?_;have b5h:=fK _ _ (by simp) Wp;have dP:lQ.at? =some bU.next:=mr;have l4:m8.at? =some cq.next:=re;have ML:∀i o,i≠q+3->dD.get i=some o->eM.get i=some o:=λi o hi h=>fK _ _ hi (dQ _ _ hi h);have c1E:=h.fB.ms.lt _ ic;obtain⟨fG,F7,b5i⟩:=ja.open_ (aH:=eM) (lQ:=lQ) (m8:=m8) (dy:=bU.next) (hc:=cq.next) h.fB.ms.lt hl ez fE dE ki ic fV.2 ao (λi o h1 h2 h3 h=>ML _ _ h1 (cW _ _ h3 (t_ _ _ h2 h))) (H.get _ (.head _)) (MI.aO λi o hi h=>ML _ _ (λe=>by rw[dP] at hi;have:=Option.some.inj hi;omega) (cW _ _ (λe=>by rw[dP] at hi;have:=Option.some.inj hi;have:=(MK _ e).2.2;omega) h)) (by
   have:=wa.aO (τ:=eM) λi o hi h=>ML _ _ (λe=>by rw[l4] at hi;have:=Option.some.inj hi;omega) h;unfold eF;rw[List.map_append,← ez];exact this) dP l4 (by omega) K5 K9
  have Wq:=h.fB.BR F7 b5i;have H:Has eM [(q+4,[aK (q+3)])]:=Has.nil.cons b5h (by simp);have HB:gq eM [(q+4,[aK (q+3)])]:=H.b;refine jw ?_;refine W.vC ?_;refine W.sM [(q+4,[aK (q+3)])] [6] 7 I I ?_;refine e4 ?_;refine W.an (b3.q.one I) I I I (Gc b3.uw b3.o8 b3.at_ (c+n) (by omega)) λr e9 ⟨wp,aq,ar,hO⟩=>⟨_,aq,?_⟩
  have mN:wp.cells=[wp]/\wp.val=true:=by
   cases ar with
   |mk _ w xs h1 h2 h3=>exact⟨h2.one.1,h2.one.2.1⟩
  have Wr:=Wq.jS hO;have MM:eu (λi=>¬fG i) e9 (eD (c+n)) (.ag (fm (eD (c+n)) wp)):=ar.aO (λi c hi aa=>⟨λhm=>by have:=Wq.ms.lt _ hm;omega,aa⟩) _ (Nat.le_refl _);have hH:=uq (c+n);refine W.iu (c:=[ah 0,ah 1,.b true,.i .u8 (Int.ofNat (eD (c+n)).op),.s (eD (c+n)).bZ,.ae,wp,.s [],.ae]) I I (nQ I I I (nQ I I I (nQ I I I I))) ?_;refine W.kP (HB.aO hO.2) I ?_;refine W.an (b3.q.one I) I I I (BB b3.uv Wr.ms (by simp) ⟨by omega,by simp;omega,λl hl=>by
   rcases List.mem_append.1 hl with hl|hl
   ·exact(aV.small (by omega)).2.2 l hl
   ·rw[List.mem_singleton.1 hl];simp⟩ (x:=⟨0,1,true,eD (c+n),[],[]⟩) (.mk wp .ae MM .nil) (by show(eD (c+n)).dep<=400;omega)) λr i_ ⟨aq,Ws,mO,e7⟩=>⟨_,aq,?_⟩
  refine ai ?_;have Gm:(ab++[[]]).length-1=ab.length:=by simp
  have b5j:(ab++[[]]).getD ab.length []=[]:=by rw[List.getD_eq_getElem?_getD];simp
  have fO:(ab++[([]:List Nat)]).set ab.length ([]++[L.length+1])=ab++[[L.length+1]]:=by simp
  rw[Gm,b5j,fO] at mO;refine b0 _ _ ⟨rfl,rfl,rfl,rfl,trivial⟩ ⟨Ws,_,_,_,Wr.BR mO e7,.step h.rd (.BP ab ax (c+n) h.ne bJ),by simp,by simp;omega⟩
 ·refine ai ?_;exact b0 _ _ ⟨rfl,rfl,rfl,rfl,trivial⟩ (h.out.le (by omega))
end
abbrev Wt:List Nat:=[1,1,1,1,1,0,0,0,1,0]
theorem b5k{a c:Nat}(aa:c≠0)(ha:a<2^63):binop .quo (ah a) (ah c)=some (ah (a/c)):=by
 show(if Int.ofNat c=0 then none else some (AV.i .i64 (IntKind.wrap .i64 ((Int.ofNat a).tdiv (Int.ofNat c)))))=_;rw[if_neg (by simpa using aa)];have e:(Int.ofNat a).tdiv (Int.ofNat c)=((a/c:Nat):Int):=rfl;rw[e,a7h (Nat.lt_of_le_of_lt (Nat.div_le_self _ _) ha)];rfl
section
variable {J τ:ad}{q at_:Nat}{cm:AV}{bE:Nat->Prop}{L:List a1}{ab:List (List Nat)}{ax:List Nat}{b:b8}{K:Nat->List AV->AV->Prop}{a c dH ef:Nat}{f g:PF}{fr gh:AV}
theorem b5l(b3:jT b K)(h:ig J q cm at_ bE L ab ax τ a c f g dH ef fr gh){n:Nat}(hn:n<256){can:AV}{z:Nat->AV}{Q:dS}{an:List Nat}(mB:eF τ can an)(fH:∀e∈an,∃k∈ab,e∈k)(BU:an.length<2^20)(b0:∀F aH,sat (gJ q) F->Out J q cm at_ (L.length+ab.length+2) aH->Q .normal F aH):
  bO (b.aM K) none [] jL.ntmps (jc rz ln) (bs (na q n a c dH ef can) z) τ Q:=by
 have H:Has τ []:=Has.nil;have hm:n%10<10:=Nat.mod_lt _ (by decide);have de:∀ {aG:bF} {F:List (Nat×AV)},(∀z,bO (b.aM K) none [] jL.ntmps aG (bs (na q n a c dH ef can) z) τ Q)->sat (na q n a c dH ef can) (bs F z)->bO (b.aM K) none [] jL.ntmps aG (bs F z) τ Q:=λh1 h2=>aj.norm _ h2 h1;have kc:=b0;refine W.sq ?_;refine W.rg ?_;refine eY ?_;by_cases h0:n%10=0
 ·refine eY ?_;refine W.nil (W.k8 I (de (λz=>b5e b3 h hn b0) ?_));exact⟨rfl,rfl,rfl,rfl,rfl,rfl,rfl,rfl,rfl,rfl,rfl,rfl,trivial⟩
 refine eY ?_;refine W.nil (W.m0 I (W.sq (W.rg ?_)));refine eY ?_;by_cases h1:n%10=1
 ·refine eY ?_;refine W.nil (W.k8 I (de (λz=>b4P b3 h b0) ?_));exact⟨rfl,rfl,rfl,rfl,rfl,rfl,rfl,rfl,rfl,rfl,rfl,rfl,trivial⟩
 refine eY ?_;refine W.nil (W.m0 I (W.sq (W.rg ?_)));refine eY ?_;by_cases h2:n%10=2
 ·refine eY ?_;refine W.nil (W.k8 I (de (λz=>b4S b3 h b0) ?_));exact⟨rfl,rfl,rfl,rfl,rfl,rfl,rfl,rfl,rfl,rfl,rfl,rfl,trivial⟩
 refine eY ?_;refine W.nil (W.m0 I (W.sq (W.rg ?_)));refine eY ?_;by_cases h3:n%10=3
 ·refine eY ?_;refine W.nil (W.k8 I (de (λz=>b4V b3 h b0) ?_));exact⟨rfl,rfl,rfl,rfl,rfl,rfl,rfl,rfl,rfl,rfl,rfl,rfl,trivial⟩
 refine eY ?_;refine W.nil (W.m0 I (W.sq (W.sq (W.rg ?_))));refine eY ?_;by_cases aQ:n%10=4
 ·refine eY ?_;refine W.nil (W.k8 I (W.Ar (W.k8 I (de (λz=>Wl b3 h mB fH BU b0) ?_))));exact⟨rfl,rfl,rfl,rfl,rfl,rfl,rfl,rfl,rfl,rfl,rfl,rfl,trivial⟩
 refine eY ?_;refine W.nil (W.m0 I (W.rg ?_));refine eY ?_;by_cases bJ:n%10=5
 ·refine eY ?_;refine W.nil (W.k8 I (de (λz=>Wl b3 h mB fH BU b0) ?_));exact⟨rfl,rfl,rfl,rfl,rfl,rfl,rfl,rfl,rfl,rfl,rfl,rfl,trivial⟩
 refine eY ?_;refine W.nil (W.m0 I (W.sq (W.sq (W.rg ?_))));refine eY ?_;by_cases cu:n%10=6
 ·refine eY ?_;refine W.nil (W.k8 I (W.Ar (W.k8 I (de (λz=>Wf b3 h b0) ?_))));exact⟨rfl,rfl,rfl,rfl,rfl,rfl,rfl,rfl,rfl,rfl,rfl,rfl,trivial⟩
 refine eY ?_;refine W.nil (W.m0 I (W.rg ?_));refine eY ?_;by_cases ej:n%10=7
 ·refine eY ?_;refine W.nil (W.k8 I (de (λz=>Wf b3 h b0) ?_));exact⟨rfl,rfl,rfl,rfl,rfl,rfl,rfl,rfl,rfl,rfl,rfl,rfl,trivial⟩
 refine eY ?_;refine W.nil (W.m0 I (W.sq (W.rg ?_)));refine eY ?_;by_cases iH:n%10=8
 ·refine eY ?_;refine W.nil (W.k8 I (de (λz=>b4T b3 h b0) ?_));exact⟨rfl,rfl,rfl,rfl,rfl,rfl,rfl,rfl,rfl,rfl,rfl,rfl,trivial⟩
 refine eY ?_;refine W.nil (W.m0 I (W.sq (W.rg ?_)));refine eY ?_;refine W.nil (W.k8 I (de (λz=>b4U b3 h b0) ?_));exact⟨rfl,rfl,rfl,rfl,rfl,rfl,rfl,rfl,rfl,rfl,rfl,rfl,trivial⟩
end
section
variable {J τ:ad}{q at_:Nat}{cm:AV}{bE:Nat->Prop}{L:List a1}{ab:List (List Nat)}{ax:List Nat}{b:b8}{K:Nat->List AV->AV->Prop}
theorem b5m(b3:jT b K){code:List Nat}(au:∀τ,g8 τ none cm (code.map uB))(hl:code.length<2^62)(hb:∀x∈code,x<256)(fz:at_<=30)(h:jb J q cm at_ bE L ab ax τ)(hR:Rd L ab ax)(a5:L≠[])(bV:L.length+ab.length<=36){n:Nat}(hn:n<256){can:AV}{an:List Nat}(mB:eF τ can an)(mM:∀o,can.at? =some o->q+5<o/\¬bE o)(fH:∀e∈an,∃k∈ab,e∈k)(MN:0<an.length)(BU:an.length<2^20){z:Nat->AV}{Q:dS}(b0:∀F aH,sat (gJ q) F->Out J q cm (m_ code at_) (L.length+ab.length+2) aH->Q .normal F aH):
  bO (b.aM K) none [] jL.ntmps (jc (Wt++[1,1,1]) ln) (bs ((7,can)::(6,ah n)::gJ q) z) τ Q:=by
 obtain⟨qA,l5,FY,kN,se⟩:=mB.aB (by rw[List.length_map];exact MN);have kz:(an.map ah).length=an.length:=List.length_map _;have H:Has τ []:=Has.nil;have po:=mB.jN;have MO:n/10%an.length<an.length:=Nat.mod_lt _ MN;have eJ:m9 code at_%an.length<an.length:=Nat.mod_lt _ MN;obtain⟨a3,⟨hE,bm⟩,cv⟩:=se (n/10%an.length) (by rw[kz];exact MO);obtain⟨gx,⟨ky,k4⟩,nM⟩:=se (m9 code at_%an.length) (by rw[kz];exact eJ);rw[List.getElem_map] at cv nM;refine W.sq ?_;refine W.sM [(qA,l5)] [18] 18 I I ?_;refine e4 ?_;refine W.bin I I I I (b5k (c:=10) (by decide) (by omega)) ?_;refine e4 ?_;refine W.pN (v:=ah an.length) I I I (λs=>ts I (by rw[mB.len,kz])) (cX I) ?_;refine W.bin I I I I (tv (by omega)) ?_;refine W.eV I I I I a3 ?_;refine W.qc kN (.head _) I I I I cv (cX I) ?_;refine e4 ?_;refine W.pN (v:=ah an.length) I I I (λs=>ts I (by rw[mB.len,kz])) (cX I) ?_;refine W.an (b3.q.one I) I I I (h.next b3.qG au hl hb fz) λr bh ⟨aq,h2,ea,bp⟩=>⟨_,aq,?_⟩
 have Wu:=bp _ _ (by have:=(mM _ FY).1;omega) kN;have b5n:eF bh can an:=mB.aO λi o hi ho=>bp _ _ (by have:=(mM _ hi).1;omega) ho;refine W.bin I I I I (tv (by omega)) ?_;refine W.eV I I I I gx ?_;refine W.q_ Wu I I I nM ?_;refine eY ?_;refine W.kP (gq.nil.cons Wu) I ?_;refine W.vC ?_;have BV:=fH _ (List.getElem_mem MO);have BW:=fH _ (List.getElem_mem eJ);generalize an[n/10%an.length]'MO=a at BV ⊢;generalize an[m9 code at_%an.length]'eJ=c at BW ⊢;refine aj.norm ((11,ah c)::(10,ah a)::(7,can)::(6,ah n)::gJ q) ⟨rfl,rfl,rfl,rfl,rfl,rfl,rfl,rfl,trivial⟩ λF=>?_;obtain⟨dt,dx,dz,o,MP,hm,jl,_,ho,mL⟩:=h2.ms.lines a5;have iD:∀ {e},(∃k∈ab,e∈k)->1<=e/\e<=L.length:=λ⟨k,h1,h2⟩=>hR.inv.mem k h1 _ h2;obtain⟨x,hx⟩:∃x,L[a-1]? =some x:=⟨L[a-1]'(by have:=iD BV;omega),List.getElem?_eq_getElem _⟩
 obtain⟨y,hy⟩:∃y,L[c-1]? =some y:=⟨L[c-1]'(by have:=iD BW;omega),List.getElem?_eq_getElem _⟩
 obtain⟨b5o,Wv,b5p,Ww⟩:=mL a x (iD BV).1 hx;obtain⟨b5q,Wx,b5r,Wy⟩:=mL c y (iD BW).1 hy;have c1F:x.f.dep<=40:=by have:=hR.inv.dep x (List.mem_of_getElem? hx);have:=hR.inv.ne;omega
 have KQ:y.f.dep<=40:=by have:=hR.inv.dep y (List.mem_of_getElem? hy);have:=hR.inv.ne;omega
 have H:Has bh [(q+4,[aK (q+3)]),(q+3,[dt,dx,dz])]:=(Has.nil.cons hm (by simp)).cons h2.m (by simp);have c1G:=iD BV;have c1H:=iD BW;refine W.sq ?_;refine W.sM [(q+4,[aK (q+3)]),(q+3,[dt,dx,dz]),(o,MP)] [20,21] 22 I I ?_;refine W.qc h2.m (.head _) I I I I I (cX I) ?_;refine e4 ?_;refine W.qc hm (.tail _ (.head _)) I I I I I (cX jl) ?_;refine e4 ?_;refine W.eV I I I I b5o ?_;refine e4 ?_;refine W.qc ho (.tail _ (.tail _ (.head _))) I I I I b5p (Ww.eqb _ (Nat.le_refl _) (by show _<=b.bn+1000;omega)) ?_;refine W.qc h2.m (.head _) I I I I I (cX I) ?_;refine e4 ?_;refine W.qc hm (.tail _ (.head _)) I I I I I (cX jl) ?_;refine e4 ?_;refine W.eV I I I I b5q ?_;refine e4 ?_;refine W.qc ho (.tail _ (.tail _ (.head _))) I I I I b5r (Wy.eqb _ (Nat.le_refl _) (by show _<=b.bn+1000;omega)) ?_;generalize yL:bh.next=sD;refine W.cC (c:=[.i .u8 0,.s [],.ae,.ae]) H yL I I I λbU eT H bc=>?_;refine W.cC (c:=[.i .u8 0,.s [],.ae,.ae]) H eT I I I λcq fl H b5=>?_;have wv:∀i o,bh.get i=some o->cq.get i=some o:=λi o h=>b5 _ _ (bc _ _ h);have BS:gq cq [(q+4,[aK (q+3)]),(q+3,[dt,dx,dz]),(o,MP)]:=((gq.nil.cons (wv _ _ ho)).cons (wv _ _ hm)).cons (wv _ _ h2.m);refine W.kP BS I ?_;refine W.st (bM:=fm x.f Wv) H 1 I I I I I I λdD ir H cW=>?_;have c1I:=ad.bt h2.m;have cF:=ad.bt ho;have lm:=ad.bt hm;have b5s:gq dD [(q+4,[aK (q+3)]),(q+3,[dt,dx,dz]),(o,MP)]:=((gq.nil.cons (cW _ _ (by simp;omega) (wv _ _ ho))).cons (cW _ _ (by simp;omega) (wv _ _ hm))).cons (cW _ _ (by simp;omega) (wv _ _ h2.m));refine W.kP b5s I ?_;refine W.st (bM:=fm y.f Wx) H 0 I I I I I I λeb iE H dQ=>?_;have M:dC bh eb:=⟨by omega,λi o h=>by have:=ad.bt h;exact dQ _ _ (by simp;omega) (cW _ _ (by simp;omega) (wv _ _ h))⟩
 have cG:=h2.jS M;refine jw ?_;refine W.vC ?_;have c1J:=cG.a;have MH:=ad.bt h2.a;refine jw ?_;refine W.bin I I I I (tv (c:=10) (by decide)) ?_;refine W.nil ?_;refine aj.block ?_;refine aj.norm (na q n a c sD (sD+1) can) ⟨rfl,rfl,rfl,rfl,rfl,rfl,rfl,rfl,rfl,rfl,rfl,rfl,trivial⟩ λF=>?_;have aO:∀ {f v},eu (λi=>¬bE i) bh f v->eu (λi=>¬bE i) eb f v:=λh=>h.aO (λi c hi aa=>⟨hi,M.2 _ _ aa⟩) _ (Nat.le_refl _);exact b5l b3 (dH:=sD) (ef:=sD+1) (fr:=Wv) (gh:=Wx) ⟨cG,hR,a5,bV,BV,BW,⟨x,hx,rfl⟩,⟨y,hy,rfl⟩,H.get _ (.tail _ (.head _)),H.get _ (.head _),aO Ww,aO Wy,by omega⟩ hn (b5n.aO λi o _=>M.2 i o) fH BU b0
end
theorem Sl.new{τ:ad}{v:AV}{xs:List AV}(h:Sl τ none v xs)(a5:xs≠[]):newOf τ v=some xs:=by
 cases h with
 |nil=>exact absurd I a5
 |al o cap xs rest h aa az=>exact(Sl.al o cap xs rest h aa az).read
section
variable {J τ:ad}{q at_:Nat}{cm:AV}{bE:Nat->Prop}{L:List a1}{ab:List (List Nat)}{ax:List Nat}{b:b8}{K:Nat->List AV->AV->Prop}
theorem MQ{ab:List (List Nat)}:ab.flatten.length=(ab.map List.length).sum:=List.length_flatten
theorem Wz{ab:List (List Nat)}{j:Nat}(h:j<ab.length):(ab.take (j+1)).flatten=(ab.take j).flatten++ab[j]:=by rw[List.take_succ_eq_append_getElem h,List.flatten_append];simp
theorem b5t(b3:jT b K){code:List Nat}(au:∀τ,g8 τ none cm (code.map uB))(hl:code.length<2^62)(hb:∀x∈code,x<256)(fz:at_<=30)(h:jb J q cm at_ bE L ab ax τ)(hR:Rd L ab ax)(a5:L≠[])(bV:L.length+ab.length<=36){z:Nat->AV}{Q:dS}(b0:∀F aH,sat (gJ q) F->Out J q cm (m_ code (m_ code at_)) (L.length+ab.length+2) aH->Q .normal F aH):
  bO (b.aM K) none [] jL.ntmps (jc Wt ln) (bs (gJ q) z) τ Q:=by
 have aV:=hR.inv;have yI:=aV.sum;have hfn:=aV.ne;have H:Has τ []:=Has.nil;refine W.sq (W.rg ?_);refine eY ?_;refine W.an trivial I I I (h.next b3.qG au hl hb fz) λr ek ⟨aq,h1,c1,bB⟩=>⟨_,aq,?_⟩
 have hn:=Wa hb at_;generalize m9 code at_=n at hn ⊢;have H:Has ek []:=Has.nil;refine eY ?_;refine W.nil (W.sq (W.rg ?_));refine eY ?_;refine W.nil (W.sq (W.sq (W.rg ?_)));obtain⟨dt,dx,dz,dG,a2,hm,MR,ez,fE,hf,dE,ki,hg,fV,ic,ao⟩:=h1.ms.ex;have H:Has ek [(q+4,[aK (q+3)]),(q+3,[dt,dx,dz])]:=(Has.nil.cons hm (by simp)).cons h1.m (by simp);have jk:=hf.vw;have MH:=ad.bt h1.a;refine eY ?_;refine W.nil ?_;refine aj.each a2.length (λj F aH=>(∃can,F 7=can/\eF aH can (ab.take j).flatten/\∀o,can.at? =some o->ek.next<=o)/\dC ek aH/\sat ((48,dx)::(6,ah n)::gJ q) F) (by omega) ⟨⟨.ae,rfl,.nil,λo h=>by cases h⟩,⟨Nat.le_refl _,λ_ _ h=>h⟩,rfl,rfl,rfl,rfl,rfl,rfl,trivial⟩ I I (λj F aH aA lJ hi pt=>?_) (λF aH lJ hi=>?_)
 ·obtain⟨⟨can,g5,mB,mM⟩,M,WA,gZ,c_,cI,cc,bN,_⟩:=lJ;refine aj.norm ((50,ah j)::(49,ah a2.length)::(48,dx)::(7,can)::(6,ah n)::gJ q) ⟨hi,pt,WA,g5,gZ,c_,cI,cc,bN,trivial⟩ λF=>?_;have H:Has aH []:=Has.nil;have jk:=(hf.aO (τ:=aH) λi o _=>M.2 i o).vw;have WB:=(ki j aA (by omega)).aO (τ:=aH) λi o _=>M.2 i o;have WC:ab[j]'(by omega)≠[]:=aV.BQ a5 _ (List.getElem_mem _);have Dz:(ab.take j).flatten.length+(ab[j]'(by omega)).length<=L.length:=by
   have h1:=congrArg List.length (Wz (show j<ab.length by omega));rw[List.length_append] at h1;have h2:((ab.take (j+1)).map List.length).sum<=(ab.map List.length).sum:=by
    conv=>rhs;rw[<-List.take_append_drop (j+1) ab,List.map_append,List.sum_append]
    omega
   rw[<-MQ] at h2;omega
  refine aj.block ?_;refine jw ?_;generalize a2[j]'aA=b5u at WB ⊢;have ju:=WB.new (by simpa using WC);obtain⟨y,a8,hy⟩:∃y a8,(ab[j]'(by omega)).map ah=y::a8:=by
   cases hx:(ab[j]'(by omega)).map ah with
   |nil=>exact absurd (by simpa using hx) WC
   |cons y a8=>exact⟨y,a8,rfl⟩
  rw[hy] at ju;refine W.ap (w:=b5u) y a8 mB ju (λz bg=>by rw[<-hy] at bg;obtain⟨k,_,rfl⟩:=List.mem_map.1 bg;rfl) (by
   rw[<-hy,List.length_map,List.length_map];show(3*(_+_)+2000)*8<=_;omega) I I I I λb5v bU FA oU _ eT bc=>?_
  have H:Has bU []:=Has.nil;refine jw ?_;have c1K:=M.1;refine⟨rfl,rfl,⟨b5v,rfl,?_,λo ho=>by rw[oU] at ho;have:=Option.some.inj ho;omega⟩,⟨by omega,λi o h=>bc _ _ (λe=>by have:=mM _ e;have:=ad.bt h;omega) (M.2 _ _ h)⟩,rfl,rfl,rfl,rfl,rfl,rfl,trivial⟩;unfold eF;rw[Wz (show j<ab.length by omega),List.map_append,hy];exact FA
 ·obtain⟨⟨can,g5,mB,mM⟩,M,WA,gZ,c_,cI,cc,bN,_⟩:=lJ;rw[dE,List.take_length] at mB;refine aj.norm ((7,can)::(6,ah n)::gJ q) ⟨g5,gZ,c_,cI,cc,bN,trivial⟩ λF=>?_;refine(b5m b3 au hl hb (Gj fz) (h1.jS M) hR a5 bV hn mB (λo ho=>?_) (λe he=>?_) ?_ ?_ b0)
  ·have Pf:=mM o ho;exact⟨by omega,λlX=>by have:=h1.ms.lt _ lX;omega⟩
  ·obtain⟨k,h1,h2⟩:=List.mem_flatten.1 he;exact⟨k,h1,h2⟩
  ·rw[MQ];have:=Wb (List.getElem_mem (show 0<ab.length by omega));have h0:=aV.BQ a5 _ (List.getElem_mem (show 0<ab.length by omega));have:=List.length_pos_iff.2 h0;omega
  ·rw[MQ];omega
def b5w(code:List Nat)(at_ n:Nat):Prop:=n<=4+at_\/n<=5+at_/\(code.length<=at_\/30<=at_)
theorem b5x(b3:jT b K)(h:jb J q cm at_ bE L ab ax τ)(hR:Rd L ab ax)(a5:L≠[])(bV:L.length+ab.length<=36){z:Nat->AV}{Q:dS}(b0:∀F aH L ab ax dt dx dz bE,jb J q cm at_ bE L ab ax aH->Rd L ab ax->L≠[]->L.length<=35->ab.length=1->aH.get (q+3)=some (.cells [dt,dx,dz])->F 2=dt->Q .ret F aH):
  bO (b.aM K) none [] jL.ntmps (jc [1,1,1,1,1,1] ln) (bs (gJ q) z) τ Q:=by
 refine W.sq ?_;refine aj.block (aj.loop (λk F aH=>(∃bE L ab ax,jb J q cm at_ bE L ab ax aH/\Rd L ab ax/\L≠[]/\L.length+ab.length<=36/\ab.length=k)/\sat (gJ q) F) (λk F aH lJ=>?_) ab.length ⟨⟨_,_,_,_,h,hR,a5,bV,rfl⟩,rfl,rfl,rfl,rfl,trivial⟩);obtain⟨⟨bE,L,ab,ax,h,hR,a5,bV,az⟩,c_,cI,cc,bN,_⟩:=lJ;refine aj.norm (gJ q) ⟨c_,cI,cc,bN,trivial⟩ λF=>?_;obtain⟨dt,dx,dz,dG,a2,hm,MR,ez,fE,hf,dE,ki,hg,fV,ic,ao⟩:=h.ms.ex;have H:Has aH [(q+4,[aK (q+3)]),(q+3,[dt,dx,dz])]:=(Has.nil.cons hm (by simp)).cons h.m (by simp);have jk:=hf.vw;have hfn:=hR.inv.ne;refine W.sq (W.sq (W.rg ?_));refine eY ?_;by_cases h2:2<=ab.length
 ·refine ai ?_;refine W.an trivial I I I (Wc b3 h hR a5 (by omega) h2) λr eb ⟨aq,fG,ry,a9,fC,a3,bm,cv,dU,en⟩=>⟨_,aq,?_⟩
  refine ai ?_;exact⟨a9.length,by omega,⟨_,_,_,_,a3,bm,cv,by omega,rfl⟩,rfl,rfl,rfl,rfl,trivial⟩
 ·refine ai ?_;refine aj.exit ?_;show bO _ _ _ _ _ _ _ _;refine ai ?_;exact aj.ret (b0 _ _ _ _ _ _ _ _ _ h hR a5 (by omega) (by omega) hm I)
theorem b5y(b3:jT b K)(hh:bk (b.aM K) EH jL){code:List Nat}(au:∀τ,g8 τ none cm (code.map uB))(j1:cm.cells=[cm]/\cm.val=true)(hl:code.length<2^62)(hb:∀x∈code,x<256):
  bu (b.aM K) 0 (.f (.func EH) [] []) [cm] J (λr τ=>∃(L:List a1) (ab:List (List Nat)) (ax:List Nat) (v:AV) (dG:List AV) (bE:Nat->Prop),r= .ok v/\Rd L ab ax/\ab.length=1/\L≠[]/\L.length<=35/\Sl τ (some 9) v dG/\dG.length=L.length/\(∀i (h:i<dG.length) (h':i<L.length),jR (λi=>¬bE i) τ L[i] dG[i])/\(∀o l c,v= .al o 0 l (some 9) c->c=none)/\(∀o,v.at? =some o->bE o)/\(∀o,bE o->J.next<=o)/\dC J τ):=by
 refine W.code hh.e hh.p hh.f I I I I λz=>?_;have H:Has J []:=Has.nil;generalize aS:J.next=q;have fin:∀(F:Nat->AV) (aH:ad) at_ bE (L:List a1) ab ax,jb J q cm at_ bE L ab ax aH->Rd L ab ax->L≠[]->L.length+ab.length<=36->bO (b.aM K) none [] jL.ntmps (jc [1,1,1,1,1,1] ln) (bs (gJ q) F) aH (λx bW af=>x= .ret/\∃(L:List a1) (ab:List (List Nat)) (ax:List Nat) (v:AV) (dG:List AV) (bE:Nat->Prop),dR.ok (bW 2)= .ok v/\Rd L ab ax/\ab.length=1/\L≠[]/\L.length<=35/\Sl af (some 9) v dG/\dG.length=L.length/\(∀i (h:i<dG.length) (h':i<L.length),jR (λi=>¬bE i) af L[i] dG[i])/\(∀o l c,v= .al o 0 l (some 9) c->c=none)/\(∀o,v.at? =some o->bE o)/\(∀o,bE o->q<=o)/\dC J af):=λF aH at_ bE L ab ax h hR a5 bV=>b5x b3 h hR a5 bV λc1L i_ L ab ax dt dx dz bE h hR a5 hL h1 hm a4=>by
  obtain⟨rr,lQ,m8,dG,a2,lX,MR,ez,fE,hf,dE,ki,hg,fV,ic,ao⟩:=h.ms.ex;rw[hm] at lX;cases lX;have MH:=ad.bt h.a;exact⟨rfl,L,ab,ax,dt,dG,bE,by rw[a4],hR,h1,a5,hL,MR,ez,fE,fV.2,λo ho=>(ao.l o ho).1,λo ho=>(h.nY o ho).1,by omega,λi o hi=>h.old i o (by have:=ad.bt hi;omega) hi⟩
 refine W.sq (W.rg ?_);refine W.cy (c:=[cm]) H aS I I I j1.2 j1.1 λek c1 H bB=>?_;refine jw ?_;refine W.bI (c:=[.ae]) H c1 I I I λbh ea H bp=>?_;refine W.bI (c:=[ah 0]) (k:=q+2) H (by omega) I I I λbU eT H bc=>?_;refine W.iu (c:=[.ae,.al (q+1) 0 1 none (some 1),.al (q+2) 0 1 none (some 1)]) I I I ?_;refine W.cy (c:=[.ae,.al (q+1) 0 1 none (some 1),.al (q+2) 0 1 none (some 1)]) (k:=q+3) H (by omega) I I I I I λcq fl H b5=>?_;refine W.ko (c:=[aK (q+3)]) (k:=q+4) H (by omega) I I I I I I λdD ir H cW=>?_;refine jw ?_;refine W.ko (c:=[ah 0]) (k:=q+5) H (by omega) I I I I I I λeb iE H dQ=>?_;have cL:∀i o,J.get i=some o->eb.get i=some o:=λi o h=>dQ _ _ (cW _ _ (b5 _ _ (bc _ _ (bp _ _ (bB _ _ h)))));have bN:=H.get (q+1,[.ae]) (by simp);have bQ:=H.get (q+2,[ah 0]) (by simp);have b5z:ja eb (q+3) (λi=>i=q+1\/i=q+2\/i=q+3) [] [[]] [0]:=by
  refine⟨λi hi=>by omega,.ae,.al (q+1) 0 1 none (some 1),.al (q+2) 0 1 none (some 1),[],[.ae],H.get _ (.tail _ (.tail _ (.head _))),.nil,rfl,λi h=>by simp at h,.al (q+1) (some 1) [.ae] [] bN (λy hy=>by rw[List.mem_singleton.1 hy];rfl) (.inr I),rfl,λi h h'=>?_,.one bQ,⟨(λh=>by simp at h),λo l c h=>by cases h⟩,.inr (.inr rfl),⟨(λo h=>by cases h),λo h=>?_,λo h=>?_,λi h o ho=>?_,λi j h h' gp=>?_⟩⟩
  ·cases i with
   |zero=>exact .nil
   |succ i=>simp at h
  ·cases h;exact⟨.inl I,by omega,λe=>by have:=Option.some.inj e;omega⟩
  ·cases h;exact⟨.inr (.inl I),by omega⟩
  ·cases i with
   |zero=>cases ho
   |succ i=>simp at h
  ·simp at h h';omega
 have h0:jb J q cm 0 (λi=>i=q+1\/i=q+2\/i=q+3) [] [[]] [0] eb:=⟨b5z,λi hi=>by omega,H.get (q,[cm]) (by simp),H.get _ (.tail _ (.head _)),H.get _ (.head _),λi o _ h=>cL i o h⟩
 refine jw ?_;refine W.an trivial I I I (h0.next b3.qG au hl hb (by omega)) λr eM ⟨aq,ej,kj,fK⟩=>⟨_,aq,?_⟩
 have H:Has eM []:=Has.nil;refine W.bin I I I I (tv (c:=3) (by decide)) ?_;have vi:m9 code 0%3<3:=Nat.mod_lt _ (by decide);generalize m9 code 0%3=mH at vi ⊢;refine W.bin I I I I (oE (a:=1) (b:=mH) (by omega)) ?_;refine jw ?_;refine aj.norm ((26,ah 0)::(25,ah (1+mH))::gJ q) ⟨rfl,rfl,rfl,rfl,rfl,rfl,trivial⟩ λF=>?_;refine aj.each (1+mH) (λj F aH=>(∃at_ bE L f0,jb J q cm at_ bE L [f0] [0] aH/\Rd L [f0] [0]/\(∀x∈L,x.hyp=true/\x.bY=0)/\L.length=j/\at_<=30)/\sat (gJ q) F) (by omega) ⟨⟨_,_,_,_,ej,.nil,λx hx=>by simp at hx,rfl,Gj (by omega)⟩,rfl,rfl,rfl,rfl,trivial⟩ I I (λj F aH aA lJ hi pt=>?_) (λF aH lJ hi=>?_)
 ·obtain⟨⟨at_,bE,L,f0,h,hR,MS,hlen,fz⟩,c_,cI,cc,bN,_⟩:=lJ;refine aj.norm ((26,ah j)::(25,ah (1+mH))::gJ q) ⟨hi,pt,c_,cI,cc,bN,trivial⟩ λF=>?_;have H:Has aH [(q+4,[aK (q+3)])]:=Has.nil.cons h.m (by simp);have HB:=H.b;refine aj.block ?_;refine W.sM [(q+4,[aK (q+3)])] [3,5] 6 I I ?_;refine e4 ?_;refine W.an (b3.q.one I) I I I (h.next b3.qG au hl hb fz) λr bh ⟨aq,h2,ea,bp⟩=>⟨_,aq,?_⟩
  have hn:=Wa hb at_;generalize m9 code at_=n at hn ⊢;refine W.kP (gq.nil.cons h2.m) I ?_;refine W.an (b3.q.one I) I I I (Gc b3.uw b3.o8 b3.at_ n (by omega)) λr e9 ⟨wp,aq,ar,hO⟩=>⟨_,aq,?_⟩
  have mN:wp.cells=[wp]/\wp.val=true:=by
   cases ar with
   |mk _ w xs h1 h2 h3=>exact⟨h2.one.1,h2.one.2.1⟩
  have iH:=h2.jS hO;have MM:eu (λi=>¬bE i) e9 (eD n) (.ag (fm (eD n) wp)):=ar.aO (λi c hi aa=>⟨λhm=>by have:=h2.ms.lt _ hm;omega,aa⟩) _ (Nat.le_refl _);have hH:=uq n;have aV:=hR.inv;have yI:f0.length<=L.length:=by simpa using aV.sum
  refine W.iu (c:=[ah 0,ah 0,.b true,.i .u8 (Int.ofNat (eD n).op),.s (eD n).bZ,.ae,wp,.s [],.ae]) I I (nQ I I I (nQ I I I I)) ?_;refine W.kP (gq.nil.cons iH.m) I ?_;refine W.an (b3.q.one I) I I I (BB b3.uv iH.ms (by simp) ⟨by omega,by simp,λl hl=>by rw[List.mem_singleton.1 hl];omega⟩ (x:=⟨0,0,true,eD n,[],[]⟩) (.mk wp .ae MM .nil) (by show(eD n).dep<=400;omega)) λr i_ ⟨aq,Ws,mO,e7⟩=>⟨_,aq,?_⟩
  refine e4 ?_;exact⟨rfl,rfl,⟨_,_,_,_,iH.BR mO e7,.step hR (.uo f0 n MS),λx hx=>by
   rcases List.mem_append.1 hx with hx|hx
   ·exact MS x hx
   ·rw[List.mem_singleton.1 hx];exact⟨rfl,rfl⟩,by simp[hlen],Gj fz⟩,rfl,rfl,rfl,rfl,trivial⟩
 ·obtain⟨⟨at_,bE,L,f0,h,hR,MS,hlen,fz⟩,c_,cI,cc,bN,_⟩:=lJ;refine aj.norm (gJ q) ⟨c_,cI,cc,bN,trivial⟩ λF=>?_;refine W.sq ?_;refine aj.block (aj.loop (λk F aH=>(∃at_ bE L ab ax,jb J q cm at_ bE L ab ax aH/\Rd L ab ax/\L≠[]/\at_<=30/\b5w code at_ (L.length+ab.length)/\30-at_<=k)/\sat (gJ q) F) (λk F aH lJ=>?_) (30-at_) ⟨⟨_,_,_,_,_,h,hR,λe=>by subst e;simp at hlen;omega,fz,.inl (by simp;omega),Nat.le_refl _⟩,rfl,rfl,rfl,rfl,trivial⟩);obtain⟨⟨at_,bE,L,ab,ax,h,hR,a5,fz,bV,az⟩,c_,cI,cc,bN,_⟩:=lJ;refine aj.norm (gJ q) ⟨c_,cI,cc,bN,trivial⟩ λF=>?_;have H:Has aH [(q+5,[ah at_]),(q,[cm])]:=(Has.nil.cons h.c (by simp)).cons h.a (by simp);have xk:=au aH;have F0:(code.map uB).length=code.length:=List.length_map _;refine W.sq (W.sq (W.rg ?_));refine eY ?_;rw[F0];by_cases gx:at_<code.length
  ·by_cases k4:at_<30
   ·refine eY ?_;refine W.nil (W.k8 I (W.Ar ?_));refine aj.block ?_;refine aj.norm (gJ q) ⟨rfl,rfl,rfl,rfl,trivial⟩ λF=>?_;have c1M:L.length+ab.length<=4+at_:=by rcases bV with h|h<;>omega
    refine b5t b3 au hl hb fz h hR a5 (by omega) λF i_ b_ ⟨fG,ry,a9,fC,h',zQ,BX,c1N⟩=>?_;have aN:m_ code at_=at_+1:=by unfold m_;rw[if_pos ⟨gx,k4⟩]
    rw[aN] at h';refine⟨k-1,by omega,⟨_,_,_,_,_,h',zQ,BX,Gj (by omega),?_,?_⟩,b_⟩
    ·unfold m_;by_cases nM:at_+1<code.length/\at_+1<30
     ·rw[if_pos nM];exact .inl (by omega)
     ·rw[if_neg nM];exact .inr (by omega)
    ·unfold m_;split<;>omega
   ·refine eY ?_;refine W.nil (W.m0 I ?_);refine aj.exit ?_;show bO _ _ _ _ (jc [1,1,1,1,1,1] ln) _ _ _;exact aj.norm (gJ q) ⟨rfl,rfl,rfl,rfl,trivial⟩ λF=>fin F aH _ _ _ _ _ h hR a5 (by rcases bV with h|h<;>omega)
  ·refine eY ?_;refine W.nil (W.m0 I ?_);refine aj.exit ?_;show bO _ _ _ _ (jc [1,1,1,1,1,1] ln) _ _ _;exact aj.norm (gJ q) ⟨rfl,rfl,rfl,rfl,trivial⟩ λF=>fin F aH _ _ _ _ _ h hR a5 (by rcases bV with h|h<;>omega)
end
section
variable {b:b8}{K:Nat->List AV->AV->Prop}
theorem b5A(hh:bk (b.aM K) x6 Ke){J:ad}{v w:AV}{l:List Nat}(h1:jt J v l)(h2:jt J w l)(hl:l.length<2^62):
  bu (b.aM K) 0 (.f (.func x6) [] []) [v,w] J (λr τ=>r= .ok (.b true)/\τ=J):=by
 refine W.code hh.e hh.p hh.f I I I I λz=>?_;have H:Has J []:=Has.nil;refine ai ?_;refine aj.block (aj.loop (λk F τ=>τ=J/\∃j,j+k=l.length/\sat [(5,ah j),(0,v),(1,w)] F) (λk F τ aV=>?_) l.length ⟨rfl,0,by omega,rfl,rfl,rfl,trivial⟩);obtain⟨rfl,j,aA,ao⟩:=aV;refine aj.norm _ ao λF=>?_;clear ao;by_cases Gn:j<l.length
 ·refine ai ?_;exact⟨k-1,by omega,rfl,j+1,by omega,rfl,rfl,rfl,trivial⟩
 ·refine ai ?_;refine aj.exit ?_;show bO _ _ _ _ _ _ _ _;refine ai ?_;exact aj.ret ⟨rfl,rfl,rfl⟩
structure WD(b:b8)(K:Nat->List AV->AV->Prop)(lc jx:List AV)(cG:AV):Prop where
 cg:jT b K
 made:bk (b.aM K) EH jL
 BY:bk (b.aM K) x6 Ke
 WE:b.ext sm=0/\b.pure sm=true
 log:K sm [] (.a6 [.ag lc,.ag jx])
 rm:lc.length=5/\jx.length=5
 jO:∀J,bG J (b.bn+1000) (.ag lc)=some cG
 eq:AV.eqb (b.bn+1000) (.ag lc) (.ag lc)=true
 MT:b.ext tI=0/\b.pure tI=true
 BZ:K tI [] (.b true)
 s7:b.ext vS=0/\b.pure vS=true
 Gp:b.ext vT=0/\b.pure vT=true
abbrev pre(L:List a1)(m:Nat):List bX:=(L.take m).map a1.br
theorem Gq{W:Nat->Prop}{τ:ad}{v:AV}{dG:List AV}{L:List a1}(ao:Sl τ (some 9) v dG)(a5:L≠[])(hl:dG.length=L.length)(fE:∀i (h:i<dG.length) (h':i<L.length),jR W τ L[i] dG[i])(hd:∀x∈L,x.f.dep<=200):bG τ (b.bn+1000) v=some (cD (L.map a1.br)):=by
 have hm:mapO (bG τ (b.bn+999)) dG=some ((L.map a1.br).map bX.A):=yn (by rw[List.length_map,List.length_map,hl]) λi h1 h2=>by
  rw[List.getElem_map,List.getElem_map];exact(fE i h1 (by omega)).snap (by have:=hd _ (List.getElem_mem (show i<L.length by omega));omega)
 rw[ao.Bp (λe=>absurd (List.length_eq_zero_iff.1 (by rw[<-hl,e];rfl)) a5) hm];cases L with
 |nil=>exact absurd I a5
 |cons x l=>rfl
theorem b5B{lc jx:List AV}{cG cm:AV}(h:WD b K lc jx cG){code:List Nat}(au:∀τ,g8 τ none cm (code.map uB))(j1:cm.cells=[cm]/\cm.val=true)(hl:code.length<2^62)(hb:∀x∈code,x<256){n:Nat}(hn:n<256)
  (de:∀L ab ax,Rd L ab ax->L.length<=35->∀m,1<=m->m<=L.length->K vS [cD (pre L m)] (.a6 [jP (ndsL (pre L m) m),ah 0])/\∀i,i<m->(ndsL (pre L m) m)[i]? =(ndsL (pre L L.length) L.length)[i]?)
  (p5:∀L ab ax,Rd L ab ax->L.length<=35->∀m (h:m-1<L.length),1<=m->K vT [cG,cD (pre L m)] (if(L[m-1]).bY=0 then .a6 [.ag [ah 0,.i .u8 0,.i .u8 0,ah 0,ah 0],ah 0] else .a6 [.ag [ah m,.i .u8 7,.i .u8 0,ah 0,ah 0],ah 180])) (body:bF) (hF:J_.body=some body):
  aj (b.aM K) J_.ntmps body (fR [cm,uB n]) ⟨.nil,0⟩ (m4 4 (.b true)):=by
 cases hF;refine W.args λz=>?_;have H:Has (⟨.nil,0⟩:ad) []:=Has.nil;refine ai ?_;refine W.fu h.cg.fn h.WE h.log I I I I ?_;have kz:conf (some 5) (.ag lc)=true:=by show Nat.beq lc.length 5=true;rw[h.rm.1];rfl
 have Bh:conf (some 5) (.ag jx)=true:=by show Nat.beq jx.length 5=true;rw[h.rm.2];rfl
 refine ai ?_;refine W.cC (k:=0) H I I I I λek c1 H bB=>?_;refine W.cC (k:=1) H c1 I I I λbh ea H bp=>?_;refine W.st (bM:=lc) H 1 I I I I kz (by exact storeAll h.rm.1) λbU eT H bc=>?_;refine W.st (bM:=jx) H 0 I I I I Bh (by exact storeAll h.rm.2) λcq fl H b5=>?_;refine ai ?_;refine W.an trivial I I I (b5y h.cg h.made au j1 hl hb) λr dD ⟨L,ab,ax,v,dG,bE,aq,hR,xu,a5,hL,ao,ez,fE,fV,c1O,c1P,jv⟩=>⟨_,aq,?_⟩
 have Mw:0<L.length:=List.length_pos_iff.2 a5;have Gr:∀x∈L,x.f.dep<=200:=λx hx=>by have:=hR.inv.dep x hx;omega
 have ju:=Gq (b:=b) ao a5 ez fE Gr;have H:=H.aO jv.2;have b5C:=ao.vw;refine ai ?_;refine W.val (v:=ah n) (af:=dD) I I (by
  show some (bL.val (.i .i64 (wrapN .i64 (Int.ofNat n))) dD)=_;rw[Al (by omega)]) ?_
 refine ai ?_;rw[ez];refine W.bin I I I I (tv (c:=L.length) (by omega)) ?_;have D3:n%L.length<L.length:=Nat.mod_lt _ Mw;refine W.bin I I I I (oE (a:=1) (b:=n%L.length) (by omega)) ?_;generalize pt:1+n%L.length=m;have hm:1<=m/\m<=L.length:=by omega
 refine ai ?_;refine W.fu h.cg.fn h.s7 (de L ab ax hR hL L.length (by omega) (Nat.le_refl _)).1 I I I (nJ (by rw[ju];unfold pre;rw[List.take_length])) ?_;refine ai ?_;refine W.l9 ao fV (k:=m) (by omega) I I I I λw hw _ _=>?_;have Gs:bG dD (b.bn+1000) w=some (cD (pre L m)):=Gq (L:=L.take m) hw (λe=>by have:=congrArg List.length e;simp only[List.length_take,List.length_nil] at this;omega) (by rw[List.length_take,List.length_take,ez]) (λi h1 h2=>by
  rw[List.getElem_take,List.getElem_take];rw[List.length_take] at h1 h2;exact fE i (by omega) (by omega)) λx hx=>Gr x (List.mem_of_mem_take hx)
 refine W.fu h.cg.fn h.s7 (de L ab ax hR hL m hm.1 hm.2).1 I I I (nJ Gs) ?_;refine ai ?_;rw[sB];refine ai ?_;refine aj.norm [(54,ah 0),(53,ah (ndsL (pre L m) m).length),(15,z 15),(11,jP (ndsL (pre L m) m)),(9,jP (ndsL (pre L L.length) L.length)),(8,ah m),(7,v),(5,aK 0)] ⟨rfl,rfl,rfl,rfl,rfl,rfl,rfl,rfl,trivial⟩ λF=>?_;rw[sB];have m7:vA (b.aM K) x6:=(show qX (b.aM K) [x6] from λg hg=>by rw[List.mem_singleton.1 hg];exact⟨h.BY.e,.inr ⟨h.BY.p,_,_,h.BY.f,rfl,rfl⟩⟩).one I;refine aj.each m (λj F aH=>aH=dD/\sat [(11,jP (ndsL (pre L m) m)),(9,jP (ndsL (pre L L.length) L.length)),(8,ah m),(7,v),(5,aK 0)] F) (by omega) ⟨rfl,rfl,rfl,rfl,rfl,rfl,trivial⟩ I I (λj F aH aA aV hi pt=>?_) (λF aH aV hi=>?_)
 ·obtain⟨rfl,sz,m6,fI,g5,c_,_⟩:=aV;refine aj.norm [(54,ah j),(53,ah m),(11,jP (ndsL (pre L m) m)),(9,jP (ndsL (pre L L.length) L.length)),(8,ah m),(7,v),(5,aK 0)] ⟨hi,pt,sz,m6,fI,g5,c_,trivial⟩ λF=>?_;have WG:=(de L ab ax hR hL m hm.1 hm.2).2 j aA;have Gn:j<(ndsL (pre L m) m).length:=by rw[sB];exact aA
  have b5D:j<(ndsL (pre L L.length) L.length).length:=by rw[sB];omega
  rw[List.getElem?_eq_getElem Gn,List.getElem?_eq_getElem b5D] at WG;have b5E:=Option.some.inj WG;have hlen:((ndsL (pre L m) m)[j]'Gn).length<2^62:=by have:=(v3 (List.getElem_mem Gn)).1;omega
  have eO:∀(l:List Nat),jt aH (slA false none (l.map ah)) l:=λl=>(yc (J:=aH) λy hy=>by obtain⟨k,_,rfl⟩:=List.mem_map.1 hy;rfl).jN;refine aj.block ?_;refine jw ?_;refine W.F_ [] 10 I I ?_;refine e4 ?_;refine W.an m7 I I I (b5A h.BY (eO _) (b5E▸eO _) hlen) λr eb ⟨aq,oz⟩=>⟨_,aq,?_⟩
  subst oz;refine ai ?_;exact⟨rfl,rfl,rfl,rfl,rfl,rfl,rfl,rfl,trivial⟩
 ·obtain⟨rfl,sz,m6,fI,g5,c_,_⟩:=aV;refine aj.norm [(8,ah m),(7,v),(5,aK 0)] ⟨fI,g5,c_,trivial⟩ λF=>?_;have pI:=H.get (0,lc) (by simp);have HB:gq aH [(0,lc)]:=gq.nil.cons pI;have r6:m-1<L.length:=by omega
  have cM:=p5 L ab ax hR hL m r6 hm.1;have WH:=fE (m-1) (by omega) r6;obtain⟨o,l5,oj,fz,mx,il,k7,hS⟩:=ao.ff (j:=m-1) (by omega);clear b5C;refine W.sq ?_;refine W.sM [(0,lc)] [5] 11 I I ?_;refine W.qc pI (.head _) I I I I (v:=.ag lc) (by show(if(lc.take 5).length=5 then some (AV.ag (lc.take 5)) else none)=_;rw[List.take_of_length_le (Nat.le_of_eq h.rm.1),if_pos h.rm.1]) h.eq ?_;refine e4 ?_;refine W.l9 ao fV (k:=m) (by omega) I I I I λw hw _ _=>?_;have Gs:bG aH (b.bn+1000) w=some (cD (pre L m)):=Gq (L:=L.take m) hw (λe=>by have:=congrArg List.length e;simp only[List.length_take,List.length_nil] at this;omega) (by rw[List.length_take,List.length_take,ez]) (λi h1 h2=>by
   rw[List.getElem_take,List.getElem_take];rw[List.length_take] at h1 h2;exact fE i (by omega) (by omega)) λx hx=>Gr x (List.mem_of_mem_take hx)
  refine W.cC H I I I I λeb iE H dQ=>?_;refine W.kP (HB.aO dQ) I ?_;have b5F:bG eb (b.bn+1000) w=some (cD (pre L m)):=by
   rw[<-Gs];exact(Gq (L:=L.take m) (hw.aO λi o _=>dQ i o) (λe=>by have:=congrArg List.length e;simp only[List.length_take,List.length_nil] at this;omega) (by rw[List.length_take,List.length_take,ez]) (λi h1 h2=>by
    rw[List.getElem_take,List.getElem_take];rw[List.length_take] at h1 h2;exact(fE i (by omega) (by omega)).aO λi c hi aa=>⟨hi,dQ _ _ aa⟩) λx hx=>Gr x (List.mem_of_mem_take hx)).trans Gs.symm
  refine W.fu h.cg.fn h.Gp cM I I I (oF (h.jO _) b5F) ?_;have cF:=ad.bt il;generalize dG[m-1]'(by omega)=w_ at WH k7;obtain⟨c1Q,c1R,gC⟩:∃w e3,w_= .ag [ah (L[m-1]).bY,ah (L[m-1]).op,.b (L[m-1]).hyp,.i .u8 (Int.ofNat (L[m-1]).f.op),.s (L[m-1]).f.bZ,.ae,w,.s (L[m-1]).gQ,e3]:=by
   cases WH with
   |mk w e3 _ _=>exact⟨w,e3,rfl⟩
  subst gC;generalize(L[m-1]).bY=bY at k7 ⊢;by_cases o0:bY=0
  ·rw[if_pos o0];refine e4 ?_;refine W.st H 0 I I I I I I λeM kj H fK=>?_;refine jw ?_;refine W.vC ?_;refine jw ?_;refine W.eV I I I I mx ?_;refine jw ?_;refine W.q_ (v:=ah bY) (fK _ _ (by simp;omega) (dQ _ _ il)) I I I (by rw[Nat.add_zero,k7];rfl) ?_;refine jw ?_;refine W.fu h.cg.fn h.MT h.BZ I I I I ?_;refine jw ?_;exact aj.ret ⟨rfl,rfl⟩
  ·rw[if_neg o0];refine e4 ?_;refine W.st H 0 I I I I I I λeM kj H fK=>?_;refine jw ?_;refine W.vC ?_;refine jw ?_;refine W.eV I I I I mx ?_;refine jw ?_;refine W.q_ (v:=ah bY) (fK _ _ (by simp;omega) (dQ _ _ il)) I I I (by rw[Nat.add_zero,k7];rfl) ?_;refine jw ?_;rw[show decide (Int.ofNat m=Int.ofNat m)=true from decide_eq_true I];refine W.fu h.cg.fn h.MT h.BZ I I I I ?_;refine jw ?_;exact aj.ret ⟨rfl,rfl⟩
end
end Go.Lyc
end
noncomputable section
namespace Go.Lyc
set_option maxHeartbeats 0
variable [Tok][TokOk]
open Go.RowKit Go.Lyc.T
theorem sO{A C:List bX}:∀ {i:Nat},i<=A.length->stF (A++C) i=stF A i
 |0,_=>rfl
 |i+1,h=>by
  rw[A2 (show i<A.length by omega),A2 (L:=A++C) (by rw[List.length_append];omega),sO (by omega),List.getElem_append_left (by omega)]
structure Gt(L:List a1)(ab:List (List Nat))(ax:List Nat):Prop where
 st:stF (L.map a1.br) L.length=ax.tail
 mem:∀d (h:d<ab.length),∀c∈ab[d],stF (L.map a1.br) c=ax.tail.take d
 fst:∀k first,1<=k->ax[k]? =some first->stF (L.map a1.br) first=ax.tail.take k
 hyp:∀x∈L,x.hyp=true->x.op=0->x.bY=0
theorem b5G{L:List a1}{x:a1}:stF ((L++[x]).map a1.br) (L++[x]).length=A1 (stF (L.map a1.br) L.length) L.length x.br:=by
 rw[List.map_append,List.length_append,show L.length+[x].length=L.length+1 from rfl,A2 (by simp),sO (by simp)];simp
theorem nX.b{L:List a1}{ab a9:List (List Nat)}{ax fC:List Nat}{x:a1}(aV:ur L ab ax)(bV:Gt L ab ax)(h:nX L ab ax x a9 fC):Gt (L++[x]) a9 fC:=by
 have Fp:=h.inv aV;have hlen:=aV.len;have hold:∀c,c<=L.length->stF ((L++[x]).map a1.br) c=stF (L.map a1.br) c:=λc aa=>by rw[List.map_append,sO (by simpa using aa)]
 have cA:stF ((L++[x]).map a1.br) (L.length+1)=ax.tail.take (x.bY-x.op)++List.replicate x.op (L.length+1):=by
  have:=b5G (L:=L) (x:=x);rw[List.length_append,show L.length+[x].length=L.length+1 from rfl] at this;rw[this,bV.st];rfl
 have Gu:(L++[x]).length=L.length+1:=by simp
 have hall:(x.hyp=true->x.op=0->x.bY=0)->∀y∈L++[x],y.hyp=true->y.op=0->y.bY=0:=λh1 y hy=>by
  rcases List.mem_append.1 hy with h|h
  ·exact bV.hyp y h
  ·rw[List.mem_singleton.1 h];exact h1
 have yM:∀f∈ab,∀c∈f,c<=L.length:=λf hf c aa=>(aV.mem f hf c aa).2;have MU:∀k first,1<=k->ax[k]? =some first->first<=L.length:=λk first h1 h2=>by
  obtain⟨a3,n,bm⟩:=aV.fst k first h1 h2
  have:=(List.getElem?_eq_some_iff.1 bm).1;omega
 cases h with
 |uo f n ar=>
  have e:stF ((L++[Go.Lyc.uo n]).map a1.br) (L.length+1)=[]:=by rw[cA];rfl
  refine⟨by rw[Gu,e];rfl,λd hd c aa=>?_,λk first h1 h2=>?_,hall λ_ _=>rfl⟩
  ·have mc:d=0:=by simpa using hd
   subst mc;simp only[List.getElem_cons_zero] at aa;rcases List.mem_append.1 aa with aa|aa
   ·rw[hold c (yM f (by simp) c aa)];exact bV.mem 0 (by simp) c aa
   ·rw[List.mem_singleton.1 aa,e];rfl
  ·rw[List.getElem?_eq_none (by simp;omega)] at h2;cases h2
 |BP _ _ n a5 bJ=>
  have BX:ax≠[]:=λe=>by rw[e] at hlen;have:=aV.ne;simp at hlen;omega
  have ht:(ax++[L.length+1]).tail=ax.tail++[L.length+1]:=List.tail_append_of_ne_nil BX;have hn:=aV.ne;have e:stF ((L++[(⟨ab.length,1,true,eD n,[],[]⟩:a1)]).map a1.br) (L.length+1)=ax.tail++[L.length+1]:=by
   rw[cA];show ax.tail.take (ab.length-1)++[L.length+1]=_;rw[List.take_of_length_le (by rw[List.length_tail];omega)]
  have B0:ax.tail.length=ab.length-1:=by rw[List.length_tail,hlen]
  refine⟨by rw[Gu,e,ht],λd hd c aa=>?_,λk first h1 h2=>?_,hall λ_ h=>by cases h⟩
  ·rw[ht];by_cases im:d<ab.length
   ·rw[List.getElem_append_left im] at aa;rw[hold c (yM _ (List.getElem_mem im) c aa),bV.mem d im c aa,List.take_append_of_le_length (by omega)]
   ·have a4:d=ab.length:=by simp at hd;omega
    subst a4;rw[List.getElem_concat_length I] at aa;rw[List.mem_singleton.1 aa,e,List.take_of_length_le (by simp;omega)]
  ·rw[ht];by_cases az:k<ax.length
   ·rw[List.getElem?_append_left az] at h2;rw[hold first (MU k first h1 h2),bV.fst k first h1 h2,List.take_append_of_le_length (by omega)]
   ·rw[List.getElem?_append_right (by omega)] at h2;have jo:k-ax.length=0:=by
     rcases Nat.eq_zero_or_pos (k-ax.length) with h|h
     ·exact h
     ·rw[List.getElem?_eq_none (by simp;omega)] at h2;cases h2
    rw[jo] at h2;cases h2;rw[e,List.take_of_length_le (by simp;omega)]
 |sG F f _ a5 aa=>
  simp only[List.length_append,List.length_cons,List.length_nil] at hlen;have B0:ax.tail.length=F.length:=by rw[List.length_tail];omega
  rename_i g fL l;have e:stF ((L++[(⟨F.length,0,false,g,fL,l.map λn=>(n,n)⟩:a1)]).map a1.br) (L.length+1)=ax.tail:=by
   rw[cA];show ax.tail.take (F.length-0)++[]=_;rw[List.append_nil,List.take_of_length_le (by omega)]
  refine⟨by rw[Gu,e],λd hd c aa=>?_,λk first h1 h2=>by rw[hold first (MU k first h1 h2)];exact bV.fst k first h1 h2,hall λh=>by cases h⟩;by_cases im:d<F.length
  ·rw[List.getElem_append_left im] at aa;have:=bV.mem d (by simp;omega) c (by rw[List.getElem_append_left im];exact aa);rw[hold c (yM _ (List.mem_append_left _ (List.getElem_mem im)) c aa),this]
  ·have a4:d=F.length:=by simp at hd;omega
   subst a4;rw[List.getElem_concat_length I] at aa;rcases List.mem_append.1 aa with aa|aa
   ·have:=bV.mem F.length (by simp) c (by rw[List.getElem_concat_length I];exact aa);rw[hold c (yM _ (by simp) c aa),this]
   ·rw[List.mem_singleton.1 aa,e,List.take_of_length_le (by omega)]
 |shut F jo f _ first hx hy=>
  simp only[List.length_append,List.length_cons,List.length_nil] at hlen;rename_i eo dJ;have dE:fC.length=F.length+1:=by omega
  have BX:fC≠[]:=λe=>by rw[e] at dE;simp at dE
  have ht:(fC++[first]).tail=fC.tail++[first]:=List.tail_append_of_ne_nil BX;have B0:fC.tail.length=F.length:=by rw[List.length_tail];omega
  have e:stF ((L++[({mz eo.f dJ.f first L.length with bY:=F.length}:a1)]).map a1.br) (L.length+1)=fC.tail:=by
   rw[cA,ht];have dK:({mz eo.f dJ.f first L.length with bY:=F.length}:a1).op=0/\({mz eo.f dJ.f first L.length with bY:=F.length}:a1).bY=F.length:=by
    rw[yH];cases decide (dJ.f= .ct)<;>exact⟨rfl,rfl⟩
   rw[dK.1,dK.2];show(fC.tail++[first]).take (F.length-0)++[]=_;rw[List.append_nil,Nat.sub_zero,List.take_append_of_le_length (by omega),List.take_of_length_le (by omega)]
  have hS:∀d,d<=F.length->(fC++[first]).tail.take d=fC.tail.take d:=λd hd=>by rw[ht,List.take_append_of_le_length (by omega)]
  refine⟨by rw[Gu,e],λd hd c aa=>?_,λk yJ h1 h2=>?_,hall λh=>by
   rw[yH] at h;cases hd:decide (dJ.f= .ct)<;>rw[hd] at h<;>cases h⟩
  ·by_cases im:d<F.length
   ·rw[List.getElem_append_left im] at aa;have:=bV.mem d (by simp;omega) c (by rw[List.getElem_append_left im];exact aa);rw[hold c (yM _ (List.mem_append_left _ (List.getElem_mem im)) c aa),this,hS d (by omega)]
   ·have a4:d=F.length:=by simp at hd;omega
    subst a4;rw[List.getElem_concat_length I] at aa;rcases List.mem_append.1 aa with aa|aa
    ·have:=bV.mem F.length (by simp) c (by simp;exact aa);rw[hold c (yM _ (by simp) c aa),this,hS _ (Nat.le_refl _)]
    ·rw[List.mem_singleton.1 aa,e,List.take_of_length_le (by omega)]
  ·have az:=(List.getElem?_eq_some_iff.1 h2).1;have h3:(fC++[first])[k]? =some yJ:=by rw[List.getElem?_append_left az];exact h2
   rw[hold yJ (MU k yJ h1 h3),bV.fst k yJ h1 h3,hS k (by omega)]
theorem Rd.b{L:List a1}{ab:List (List Nat)}{ax:List Nat}(h:Rd L ab ax):Gt L ab ax:=by
 induction h with
 |nil=>
  refine⟨rfl,λd hd c aa=>?_,λk first h1 h2=>?_,λx hx=>by simp at hx⟩
  ·have e:d=0:=by simpa using hd
   subst e;simp at aa
  ·rw[List.getElem?_eq_none (by simp;omega)] at h2;cases h2
 |step hR h aD=>exact h.b hR.inv aD
theorem Rd.ff{L:List a1}{ab:List (List Nat)}{ax:List Nat}(h:Rd L ab ax):∀i (hi:i<L.length),∃dw lS tu lo,Rd (L.take i) dw lS/\nX (L.take i) dw lS L[i] tu lo:=by
 induction h with
 |nil=>intro i hi;simp at hi
 | @step L ab ax x a9 fC hR h aD=>
  intro i hi;by_cases h1:i<L.length
  ·obtain⟨a,c,d,e,h2,h3⟩:=aD i h1;rw[List.take_append_of_le_length (by omega),List.getElem_append_left h1];exact⟨a,c,d,e,h2,h3⟩
  ·have e:i=L.length:=by rw[List.length_append] at hi;simp only[List.length_cons,List.length_nil] at hi;omega
   subst e;rw[List.take_left,List.getElem_concat_length I];exact⟨_,_,_,_,hR,h⟩
theorem Rd.pre{L:List a1}{ab:List (List Nat)}{ax:List Nat}(h:Rd L ab ax){m:Nat}(hm:m<=L.length):∃ab ax,Rd (L.take m) ab ax:=by
 by_cases h1:m<L.length
 ·obtain⟨a,c,_,_,h2,_⟩:=h.ff m h1;exact⟨a,c,h2⟩
 ·rw[List.take_of_length_le (by omega)];exact⟨ab,ax,h⟩
theorem nW.ne{L:List a1}{C:Nat->Prop}{g:PF}{fL l:List Nat}(h:nW L C g fL l):fL≠[]/\(∀c∈l,C c)/\l.length<=2:=by
 cases h with
 |and h1 h2=>exact⟨by simp[BM],by simp;exact⟨h1,h2⟩,by simp⟩
 |or n h1=>exact⟨by simp[BN],by simp;exact h1,by simp⟩
 |ie q h1=>exact⟨by simp[Go.Lyc.ie],by simp;exact h1,by simp⟩
 |imp h1 h2=>exact⟨by simp[uk],by simp;exact⟨h1,h2⟩,by simp⟩
 |not h1 h2=>exact⟨by simp[um],by simp;exact⟨h1,h2⟩,by simp⟩
 |again h1=>exact⟨by simp[V7],by simp;exact h1,by simp⟩
 |wk n h1=>exact⟨by simp[BO],by simp;exact h1,by simp⟩
theorem Gv{L:List a1}{C:List bX}(a5:L≠[]){y:a1}(hy:L[L.length-1]? =some y):yk (L.map a1.br++C) (L.length+1)=(y.hyp,y.bY):=by
 have ar:=List.length_pos_iff.2 a5;unfold yk;rw[if_pos (by omega),show L.length+1-2=L.length-1 by omega,List.getElem?_append_left (by simp;omega),List.getElem?_map,hy];rfl
theorem nX.shape{L:List a1}{ab a9:List (List Nat)}{ax fC:List Nat}{x:a1}(aV:ur L ab ax)(h:nX L ab ax x a9 fC)(C:List bX):Fz x.br (yk (L.map a1.br++C) (L.length+1)) (L.length+1)=true/\x.bY<=4/\x.op<=x.bY/\x.bY-x.op<=ab.length-1/\x.cs.length<=2/\∀ac∈x.cs,1<=ac.1/\ac.1<=ac.2/\ac.2<L.length+1:=by
 have hle:=aV.le;have rv:L≠[]->∃y:a1,L[L.length-1]? =some y/\y.bY=ab.length-1:=λa5=>by
  have ar:=List.length_pos_iff.2 a5;exact⟨L[L.length-1]'(by omega),List.getElem?_eq_getElem _,(aV.last a5).2 _ (List.getElem?_eq_getElem _)⟩
 cases h with
 |uo f n ar=>
  refine⟨?_,by show 0<=4;omega,Nat.le_refl _,Nat.zero_le _,Nat.zero_le _,λac h=>by cases h⟩;by_cases a5:L=[]
  ·subst a5;rfl
  ·obtain⟨y,hy,_⟩:=rv a5;have WI:=ar y (List.mem_of_getElem? hy);rw[Gv a5 hy,WI.1,WI.2];rfl
 |BP _ _ n a5 bJ=>
  obtain⟨y,hy,hd⟩:=rv a5;have h0:=aV.ne;refine⟨?_,by show ab.length<=4;omega,by show 1<=ab.length;omega,Nat.le_refl _,Nat.zero_le _,λac h=>by cases h⟩;rw[Gv a5 hy,hd];show(decide (ab.length<=40/\1<=ab.length)&&(decide (ab.length-1<=ab.length-1)&&true))=true;rw[decide_eq_true (by omega),decide_eq_true (by omega)];rfl
 |sG F f _ a5 aa=>
  rename_i g fL l;obtain⟨y,hy,hd⟩:=rv a5;obtain⟨gx,k4,nM⟩:=aa.ne;simp only[List.length_append,List.length_cons,List.length_nil] at hle hd;have fN:∀ac∈l.map (λn=>(n,n)),1<=ac.1/\ac.1<=ac.2/\ac.2<L.length+1:=λac fP=>by
   obtain⟨c,gY,rfl⟩:=List.mem_map.1 fP;obtain⟨k,h1,h2⟩:=k4 c gY;have:=aV.mem k h1 c h2;exact⟨this.1,Nat.le_refl _,by show c<_;omega⟩
  refine⟨?_,by show F.length<=4;omega,Nat.zero_le _,by show F.length-0<=_;simp,by show(l.map _).length<=2;rw[List.length_map];exact nM,fN⟩;rw[Gv a5 hy,hd];show(decide (F.length<=40/\0<=F.length)&&(decide (F.length-0<=F.length+(0+1)-1)&&((l.map λn=>(n,n)).all (tV (L.length+1))&& !fL.isEmpty)))=true;rw[decide_eq_true (by omega),decide_eq_true (by omega),(List.all_eq_true.2 λac fP=>decide_eq_true (fN ac fP):(l.map λn=>(n,n)).all (tV (L.length+1))=true)];cases fL with
  |nil=>exact absurd I gx
  |cons _ _=>rfl
 |shut F e f _ first hx hy=>
  rename_i eo dJ;have a5:L≠[]:=λe=>by subst e;simp at hx
  have ar:=List.length_pos_iff.2 a5;have hd:=(aV.last a5).2 _ hy;have hlen:=aV.len;simp only[List.length_append,List.length_cons,List.length_nil] at hle hd hlen;obtain⟨f1,n,f2⟩:=aV.fst fC.length first (by omega) (by simp)
  have h_:=(List.getElem?_eq_some_iff.1 hx).1;have fN:1<=first/\first<=L.length/\L.length<L.length+1:=⟨f1,by omega,by omega⟩
  rw[Gv a5 hy,hd,yH];have Gm:∀(g:PF) (fL:List Nat),fL≠[]->Fz (a1.br ⟨F.length,0,false,g,fL,[(first,L.length)]⟩) (dJ.hyp,F.length+2-1) (L.length+1)=true:=λg fL zx=>by
   show(decide (F.length<=40/\0<=F.length)&&(decide (F.length-0<=F.length+2-1)&&((decide (1<=first/\first<=L.length/\L.length<L.length+1)&&true)&& !fL.isEmpty)))=true;rw[decide_eq_true (by omega),decide_eq_true (by omega),decide_eq_true fN];cases fL with
   |nil=>exact absurd I zx
   |cons _ _=>rfl
  have jl:(F++[e,f]).length-1=F.length+1:=by simp
  have fP:∀ac∈[(first,L.length)],1<=ac.1/\ac.1<=ac.2/\ac.2<L.length+1:=λac h=>by rw[List.mem_singleton.1 h];exact fN
  rw[jl];cases decide (dJ.f= .ct)
  ·exact⟨Gm _ _ (by simp[sL]),by show F.length<=4;omega,Nat.zero_le _,by show F.length-0<=_;omega,by show 1<=2;omega,fP⟩
  ·exact⟨Gm _ _ (by simp[uh]),by show F.length<=4;omega,Nat.zero_le _,by show F.length-0<=_;omega,by show 1<=2;omega,fP⟩
theorem Rd.line{L:List a1}{ab:List (List Nat)}{ax:List Nat}(h:Rd L ab ax){k:Nat}{x:a1}(h1:1<=k)(hx:L[k-1]? =some x):∃dw lS tu lo,Rd (L.take (k-1)) dw lS/\nX (L.take (k-1)) dw lS x tu lo/\Rd (L.take (k-1)++[x]) tu lo/\(L.take (k-1)).length=k-1/\L=L.take (k-1)++[x]++L.drop k:=by
 obtain⟨h2,h3⟩:=List.getElem?_eq_some_iff.1 hx;obtain⟨a,c,d,e,bN,bQ⟩:=h.ff (k-1) h2;rw[h3] at bQ;refine⟨a,c,d,e,bN,bQ,.step bN bQ,by rw[List.length_take];omega,?_⟩;conv=>lhs;rw[<-List.take_append_drop k L]
 congr 1
 have:k=k-1+1:=by omega
 rw[this,List.take_succ_eq_append_getElem h2,h3,Nat.add_sub_cancel]
theorem Rd.shape{L:List a1}{ab:List (List Nat)}{ax:List Nat}(h:Rd L ab ax){k:Nat}{x:a1}(h1:1<=k)(hx:L[k-1]? =some x):tW (L.map a1.br) k=true/\x.bY<=4/\x.op<=x.bY/\x.bY-x.op<=(stF (L.map a1.br) (k-1)).length/\x.cs.length<=2/\∀ac∈x.cs,1<=ac.1/\ac.1<=ac.2/\ac.2<k:=by
 obtain⟨dw,lS,tu,lo,bN,bQ,cc,hl,hL⟩:=h.line h1 hx;have az:(L.take (k-1)).length+1=k:=by omega
 have aV:=bN.inv;obtain⟨s1,s2,dT,ba,g0,gO⟩:=bQ.shape aV ([x.br]++(L.drop k).map a1.br);rw[az] at s1 gO;have hm:L.map a1.br=(L.take (k-1)).map a1.br++([x.br]++(L.drop k).map a1.br):=by
  conv=>lhs;rw[hL]
  simp only[List.map_append,List.map_cons,List.map_nil,List.append_assoc]
 refine⟨?_,s2,dT,?_,g0,gO⟩
 ·unfold tW;rw[List.getElem?_map,hx,hm];exact s1
 ·rw[hm,sO (by rw[List.length_map];omega)];have:=bN.b.st;rw[hl] at this;rw[this,List.length_tail,aV.len];exact ba
theorem Rd.oY{L:List a1}{ab:List (List Nat)}{ax:List Nat}(h:Rd L ab ax)(hL:L.length<=40):yj (L.map a1.br) where
 lt:=by rw[List.length_map];omega
 num x hx:=by
  obtain⟨y,hy,rfl⟩:=List.mem_map.1 hx;obtain⟨i,hi,rfl⟩:=List.getElem_of_mem hy;obtain⟨_,a,c,_⟩:=h.shape (k:=i+1) (by omega) (List.getElem?_eq_getElem hi);exact⟨by show(L[i]).bY<_;omega,c⟩
 go i hi:=by
  rw[List.length_map] at hi;obtain⟨_,_,_,a,_⟩:=h.shape (k:=i+1) (by omega) (List.getElem?_eq_getElem hi);rw[List.getElem_map];exact a
theorem wx{T:List bX}{j:Nat}(h1:1<=j)(h2:j<=T.length):(e8 T).getD (j-1) []=stF T j:=by
 unfold e8;rw[List.getD_eq_getElem?_getD,List.getElem?_map,List.getElem?_range (by omega)];show stF T (j-1+1)=_;rw[show j-1+1=j by omega]
theorem Rd.pW{L:List a1}{ab:List (List Nat)}{ax:List Nat}(h:Rd L ab ax)(hL:L.length<=40):sx (L.map a1.br) (e8 (L.map a1.br)) where
 len:=by unfold e8;rw[List.length_map,List.length_range]
 lt:=by rw[List.length_map];omega
 bY x hx:=by have:=(h.oY hL).num x hx;omega
 blt x hx:=by
  obtain⟨i,hi,rfl⟩:=List.mem_map.1 hx;rw[List.mem_range] at hi;rw[(h.oY hL).len i hi,List.getElem?_eq_getElem hi];show(L.map a1.br)[i].bY<_;have:=(h.oY hL).num _ (List.getElem_mem hi);omega
def mA:Fm:=.mk 15 [63,65] none none
def dM:Fm:=.mk 15 [63,66] none none
def MV:Fm:=.mk 15 [63,67] none none
def gS(k:Nat)(a c:Fm):Fm:=.mk (4+k) [] none (some [a,c])
def o9(a:Fm):Fm:=.mk 3 [] none (some [a])
def lp:Fm:=.mk 2 [] none none
def gr(f:Fm):eN:=⟨[],f,[],false⟩
def qe(h f:Fm):eN:=⟨[h],f,[],false⟩
def MW:dn:=⟨BM,[gr mA,gr dM],gS 0 mA dM⟩
def B1(q:Bool):dn:=⟨ie q,[gr (gS 0 mA dM)],cond q dM mA⟩
def MX:dn:=⟨BN,[gr mA],gS 1 mA dM⟩
def WJ:dn:=⟨[111,114,73,50],[gr dM],gS 1 mA dM⟩
def WK:dn:=⟨[111,114,69],[gr (gS 1 mA dM),qe mA MV,qe dM MV],MV⟩
def MY:dn:=⟨sL,[qe mA dM],gS 2 mA dM⟩
def MZ:dn:=⟨uk,[gr (gS 2 mA dM),gr mA],dM⟩
def M0:dn:=⟨uh,[qe mA lp],o9 mA⟩
def M1:dn:=⟨um,[gr mA,gr (o9 mA)],lp⟩
def M3:dn:=⟨BO,[gr lp],mA⟩
def ih:List dn:=[MW,B1 false,B1 true,MX,WJ,WK,MY,MZ,M0,M1,M3]
inductive n0:dn->PF->List (PF×List PF)->Prop
 |and (f g):n0 MW (.bin 0 f g) [(f,[]),(g,[])]
 |ie (q f g):n0 (B1 q) (cond q g f) [(.bin 0 f g,[])]
 |or (f g):n0 MX (.bin 1 f g) [(f,[])]
 |WL (f g):n0 MY (.bin 2 f g) [(g,[f])]
 |uk (f g):n0 MZ g [(.bin 2 f g,[]),(f,[])]
 |WM (f):n0 M0 (.neg f) [(.ct,[f])]
 |um (f):n0 M1 .ct [(f,[]),(.neg f,[])]
 |wk (f):n0 M3 f [(.ct,[])]
def PF.low(a:PF):Prop:=a.dep<=38/\a.bK<=190
structure o_(g:dF)(p:PF×List PF):Prop where
 eZ:g.eZ=p.1.aT
 hyps:g.hyps=p.2.map PF.aT
 rest:∀F∈g.rest,∃a:PF,F=a.aT/\a.low
 low:p.1.low/\∀a∈p.2,a.low
 len:g.rest.length<=40
inductive qf:List dF->List (PF×List PF)->Prop
 |nil:qf [] []
 |cons {g gs p aC}:o_ g p->qf gs aC->qf (g::gs) (p::aC)
structure M4(K:Nat->List AV->AV->Prop)(R:List dn)(cG:AV):Prop where
 pre:∃rest,R=ih++rest
 ap:∀r F aC gs,n0 r F aC->F.low->qf gs aC->∃cU gM gH gI ax,K tM [r.A,F.aT.A true,g9 gs] (.a6 [.ag [cU,gM],.ag [.i .u8 (Int.ofNat gH),ah gI,ah ax],ah 0])
 cC:∀f:PF,f.low->K su [f.aT.A true,f.aT.A true] (.b true)
 g_:∀f:PF,f.low->K oO [cG,f.aT.A true] (.b true)
theorem B2{L:List a1}{k:Nat}{x:a1}(hx:L[k-1]? =some x):fw (L.map a1.br) k=x.f.aT:=by
 unfold fw;rw[List.getD_eq_getElem?_getD,List.getElem?_map,List.getElem?_map,hx];rfl
theorem M5{L:List a1}{k:Nat}{x:a1}(hx:L[k-1]? =some x):iL (L.map a1.br) k=x.bY:=by
 unfold iL;rw[List.getD_eq_getElem?_getD,List.getElem?_map,List.getElem?_map,hx];rfl
theorem Rd.low{L:List a1}{ab:List (List Nat)}{ax:List Nat}(h:Rd L ab ax)(hL:L.length<=36){x:a1}(hx:x∈L):x.f.low:=by
 have:=h.inv.dep x hx;have:=h.inv.bK x hx;exact⟨by omega,by omega⟩
theorem Rd.WN{L:List a1}{ab:List (List Nat)}{ax:List Nat}(h:Rd L ab ax)(hL:L.length<=36){l:List Nat}(hl:∀n∈l,1<=n/\n<=L.length):∀F∈l.map (fw (L.map a1.br)),∃a:PF,F=a.aT/\a.low:=λF b_=>by
 obtain⟨n,hn,rfl⟩:=List.mem_map.1 b_;have hn:=hl n hn;have hx:L[n-1]? =some L[n-1]:=List.getElem?_eq_getElem (by omega);exact⟨_,B2 hx,h.low hL (List.getElem_mem _)⟩
theorem Rd.yN{L:List a1}{i:Nat}:(∀n∈(ndsL (L.map a1.br) (L.map a1.br).length).getD i [],1<=n/\n<=L.length)/\((ndsL (L.map a1.br) (L.map a1.br).length).getD i []).length<=L.length+1:=by
 rw[List.getD_eq_getElem?_getD];cases h:(ndsL (L.map a1.br) (L.map a1.br).length)[i]? with
 |none=>exact⟨λn hn=>by simp at hn,by simp⟩
 |some l=>
  have hm:=List.mem_of_getElem? h;have h1:=v3 hm;rw[List.length_map] at h1;exact⟨λn hn=>⟨FR l hm n hn,h1.2 n hn⟩,h1.1⟩
theorem b5H{L jd:List a1}{C:List bX}{dw:List (List Nat)}{lS:List Nat}{k c:Nat}(jr:L.map a1.br=jd.map a1.br++C)(az:jd.length+1=k)(qx:k<=L.length)(bV:Gt jd dw lS)(aV:ur jd dw lS)(aa:∃f∈dw,c∈f)(cA:stF (L.map a1.br) k=lS.tail):pY (e8 (L.map a1.br)) k c c=true:=by
 obtain⟨f,hf,g4⟩:=aa;have th:=aV.mem f hf c g4;obtain⟨d,hd,rfl⟩:=List.getElem_of_mem hf;have h1:(e8 (L.map a1.br)).getD (c-1) []=lS.tail.take d:=by
  rw[wx th.1 (by rw[List.length_map];omega),jr,sO (by rw[List.length_map];exact th.2)];exact bV.mem d hd c g4
 have h2:(e8 (L.map a1.br)).getD (k-1) []=lS.tail:=by rw[wx (by omega) (by rw[List.length_map];omega),cA]
 unfold pY;rw[h1,h2,decide_eq_true I,decide_eq_true (by rw[List.length_take];omega),decide_eq_true]
 ·rfl
 ·rw[List.length_take,List.take_eq_take_min]
theorem b5I{L:List a1}{ab:List (List Nat)}{ax:List Nat}(h:Rd L ab ax)(hL:L.length<=36){k c:Nat}{p:eN}{f:PF}(ar:p.cy=false)(au:pY (e8 (L.map a1.br)) k c c=true)(hf:∃x,L[c-1]? =some x/\x.f=f):ia (L.map a1.br) (e8 (L.map a1.br)) k p (c,c)=true/\o_ (kq (L.map a1.br) (e8 (L.map a1.br)) (ndsL (L.map a1.br) (L.map a1.br).length) k p (c,c)) (f,[]):=by
 obtain⟨x,hx,rfl⟩:=hf;unfold ia kq;rw[ar];simp only[cond_false,au,cond_true];exact⟨trivial,B2 hx,rfl,h.WN hL Rd.yN.1,⟨h.low hL (List.mem_of_getElem? hx),λa ha=>by simp at ha⟩,by
  show(List.map _ _).length<=40;rw[List.length_map];have:=(Rd.yN (L:=L) (i:=c-1)).2;omega⟩
theorem WO{bZ:List Nat}{rest:List dn}:∀ {l:List dn} {i:Nat},ixN bZ l=some i->ixN bZ (l++rest)=some i
 |[],i,h=>by cases h
 |r::l,i,h=>by
  rw[ixN] at h;show ixN bZ (r::(l++rest))=some i;rw[ixN];split at h
  ·rename_i e;rw[if_pos e];exact h
  ·rename_i e;rw[if_neg e];cases hx:ixN bZ l with
   |none=>rw[hx] at h;cases h
   |some m=>rw[hx] at h;rw[WO hx];exact h
theorem uy{K:Nat->List AV->AV->Prop}{R:List dn}{cG:AV}(cM:M4 K R cG){T:List bX}{B N:List (List Nat)}{k:Nat}{x:a1}(hh:x.hyp=false)(i:Nat){r:dn}(ak:ih[i]? =some r)(hn:x.gQ≠o5)(mx:ixN x.gQ ih=some i)(aa:citeB T B k r.cB x.cs=true){aC:List (PF×List PF)}(ha:n0 r x.f aC)(wz:x.f.low)(hg:qf (gotsL T B N k r.cB x.cs) aC):rh K T B N R k x.br true 0 0 0 0:=by
 obtain⟨rest,rfl⟩:=cM.pre;obtain⟨h1,h2⟩:=List.getElem?_eq_some_iff.1 ak;have e:(ih++rest)[i]'(by rw[List.length_append];omega)=r:=by rw[List.getElem_append_left h1,h2]
 obtain⟨cU,gM,gH,gI,ax,hA⟩:=cM.ap r x.f aC _ ha wz hg;have cP:FP K T B N k x.br ((ih++rest)[i]'(by rw[List.length_append];omega)) (if 0=0 then 0 else 6) (if 0=0 then 0 else gH) (if 0=0 then 0 else gI) (if 0=0 then 0 else ax):=by
  rw[e];exact .ap aa cU gM gH gI ax 0 hA
 exact .step I hh hn i _ (WO mx) cP
section
variable {K:Nat->List AV->AV->Prop}{R:List dn}{cG:AV}
theorem Rd.bad(cM:M4 K R cG){L:List a1}{ab:List (List Nat)}{ax:List Nat}(h:Rd L ab ax)(hL:L.length<=36){k:Nat}{x:a1}(h1:1<=k)(hx:L[k-1]? =some x):rh K (L.map a1.br) (e8 (L.map a1.br)) (ndsL (L.map a1.br) (L.map a1.br).length) R k x.br true 0 0 0 0:=by
 obtain⟨dw,lS,tu,lo,bN,bQ,cc,hl,BH⟩:=h.line h1 hx;have qx:k<=L.length:=by have:=(List.getElem?_eq_some_iff.1 hx).1;omega
 have h_:x.f.low:=h.low hL (List.mem_of_getElem? hx);have ep:∀i y,(L.take (k-1))[i]? =some y->L[i]? =some y:=λi y hy=>by
  have:=(List.getElem?_eq_some_iff.1 hy).1;rw[List.length_take] at this;rwa[List.getElem?_take_of_lt (by omega)] at hy
 generalize L.take (k-1)=jd at bN bQ cc hl BH ep;have az:jd.length+1=k:=by omega
 have jr:L.map a1.br=jd.map a1.br++([x.br]++(L.drop k).map a1.br):=by
  conv=>lhs;rw[BH]
  simp only[List.map_append,List.map_cons,List.map_nil,List.append_assoc]
 have aV:=bN.inv;have bV:=bN.b;have cA:stF (L.map a1.br) k=lo.tail:=by
  have h3:=cc.b.st;rw[List.length_append,show jd.length+[x].length=k from az] at h3;rw[<-h3,jr,← List.append_assoc,show jd.map a1.br++[x.br]=(jd++[x]).map a1.br by simp];exact sO (by rw[List.length_map,List.length_append];exact Nat.le_of_eq az.symm)
 cases bQ with
 |uo f n ar=>exact .hyp I I
 |BP _ _ n a5 bJ=>exact .hyp I I
 |sG F f _ a5 aa=>
  have hg:∀ {c:Nat} {p:eN} {a:PF},(∃bW∈F++[f],c∈bW)->p.cy=false->lR jd c a->ia (L.map a1.br) (e8 (L.map a1.br)) k p (c,c)=true/\o_ (kq (L.map a1.br) (e8 (L.map a1.br)) (ndsL (L.map a1.br) (L.map a1.br).length) k p (c,c)) (a,[]):=λaa ar ⟨y,hy,hf⟩=>b5I h hL ar (b5H jr az qx bV aV aa cA) ⟨y,ep _ _ hy,hf⟩;cases aa with
  |and a3 bm f1 f2 ao=>
   obtain⟨dy,t1⟩:=hg (p:=gr mA) a3 I f1;obtain⟨hc,t2⟩:=hg (p:=gr dM) bm I f2;exact uy cM (x:=⟨F.length,0,false,_,BM,_⟩) I 0 I (by show BM≠o5;decide) I (by show(ia _ _ _ (gr mA) _&&(ia _ _ _ (gr dM) _&&true))=true;rw[dy,hc];rfl) (.and _ _) h_ (.cons t1 (.cons t2 .nil))
  |or n a3 f1 ao=>
   obtain⟨dy,t1⟩:=hg (p:=gr mA) a3 I f1;exact uy cM (x:=⟨F.length,0,false,_,BN,_⟩) I 3 I (by show BN≠o5;decide) I (by show(ia _ _ _ (gr mA) _&&true)=true;rw[dy];rfl) (.or _ _) h_ (.cons t1 .nil)
  |ie q a3 f1=>
   obtain⟨dy,t1⟩:=hg (p:=gr (gS 0 mA dM)) a3 I f1;exact uy cM (x:=⟨F.length,0,false,_,ie q,_⟩) I (cond q 2 1) (r:=B1 q) (by cases q<;>rfl) (by show ie q≠o5;cases q<;>decide) (by cases q<;>rfl) (by show(ia _ _ _ (gr (gS 0 mA dM)) _&&true)=true;rw[dy];rfl) (.ie q _ _) h_ (.cons t1 .nil)
  |imp a3 bm f1 f2=>
   obtain⟨dy,t1⟩:=hg (p:=gr (gS 2 mA dM)) a3 I f1;obtain⟨hc,t2⟩:=hg (p:=gr mA) bm I f2;exact uy cM (x:=⟨F.length,0,false,_,uk,_⟩) I 7 I (by show uk≠o5;decide) I (by show(ia _ _ _ (gr (gS 2 mA dM)) _&&(ia _ _ _ (gr mA) _&&true))=true;rw[dy,hc];rfl) (.uk _ _) h_ (.cons t1 (.cons t2 .nil))
  |not a3 bm f1 f2=>
   obtain⟨dy,t1⟩:=hg (p:=gr mA) a3 I f1;obtain⟨hc,t2⟩:=hg (p:=gr (o9 mA)) bm I f2;exact uy cM (x:=⟨F.length,0,false,_,um,_⟩) I 9 I (by show um≠o5;decide) I (by show(ia _ _ _ (gr mA) _&&(ia _ _ _ (gr (o9 mA)) _&&true))=true;rw[dy,hc];rfl) (.um _) h_ (.cons t1 (.cons t2 .nil))
  |again a3 f1=>
   obtain⟨dy,t1⟩:=hg (p:=mw) a3 I f1;obtain⟨y,hy,hf⟩:=f1;have M6:=cM.cC _ h_;rename_i c;have e:fw (L.map a1.br) c=y.f.aT:=B2 (ep _ _ hy);refine .again I I I (eI:=cond true 0 6) (gH:=cond true 0 2) (gI:=cond true 0 1) (.ap (c,c) I ?_ true ?_)
   ·show(ia _ _ _ mw _&&true)=true;rw[dy];rfl
   ·show K su [(fw (L.map a1.br) c).A true,_] _;rw[e,hf];exact M6
  |wk n a3 f1=>
   obtain⟨dy,t1⟩:=hg (p:=gr lp) a3 I f1;exact uy cM (x:=⟨F.length,0,false,_,BO,_⟩) I 10 I (by show BO≠o5;decide) I (by show(ia _ _ _ (gr lp) _&&true)=true;rw[dy];rfl) (.wk _) h_ (.cons t1 .nil)
 |shut F e f _ first eE yO=>
  rename_i eo dJ;have hlen:=aV.len;simp only[List.length_append,List.length_cons,List.length_nil] at hlen;obtain⟨p1,n,rU⟩:=aV.fst lo.length first (by omega) (by simp)
  rw[eE] at rU;cases rU;have dE:=(List.getElem?_eq_some_iff.1 eE).1;have b5J:lo≠[]:=λe=>by rw[e] at hlen;simp at hlen
  have ht:(lo++[first]).tail=lo.tail++[first]:=List.tail_append_of_ne_nil b5J;have B0:lo.tail.length=F.length:=by rw[List.length_tail];omega
  have b5K:jd≠[]:=λe=>by rw[e] at yO;simp at yO
  have F5:=(aV.last b5K).2 _ yO;simp only[List.length_append,List.length_cons,List.length_nil] at F5;have c1S:(L.map a1.br).length=L.length:=List.length_map _;have ec:(e8 (L.map a1.br)).getD (first-1) []=lo.tail++[first]:=by
   rw[wx p1 (by omega),jr,sO (by rw[List.length_map];omega),bV.fst lo.length first (by omega) (by simp),ht,List.take_of_length_le (by simp;omega)]
  have dp:(e8 (L.map a1.br)).getD (jd.length-1) []=lo.tail++[first]:=by
   rw[wx (by omega) (by omega),jr,sO (by rw[List.length_map];exact Nat.le_refl _),bV.st,ht]
  have dO:(e8 (L.map a1.br)).getD (k-1) []=lo.tail:=by rw[wx (by omega) (by omega),cA]
  have d1:iL (L.map a1.br) k=F.length:=by
   rw[M5 hx,yH];cases decide (dJ.f= .ct)<;>rfl
  have d2:iL (L.map a1.br) jd.length=F.length+1:=by rw[M5 (ep _ _ yO),F5];omega
  have s1:mo (e8 (L.map a1.br)) first (F.length+1) first=true:=by
   unfold mo;rw[ec];exact decide_eq_true (by rw[Nat.add_sub_cancel,← B0];simp)
  have s2:mo (e8 (L.map a1.br)) jd.length (F.length+1) first=true:=by
   unfold mo;rw[dp];exact decide_eq_true (by rw[Nat.add_sub_cancel,← B0];simp)
  have dT:mo (e8 (L.map a1.br)) (jd.length+1) (F.length+1) first=false:=by
   unfold mo;rw[az,dO];exact decide_eq_false (by rw[Nat.add_sub_cancel,List.getElem?_eq_none (by omega)];simp)
  have WQ:kM (L.map a1.br) (e8 (L.map a1.br)) k first jd.length=true:=by
   unfold kM;rw[d1,d2,s1,s2,dT,ec,dO,List.take_append_of_le_length (by omega),List.take_of_length_le (by omega),decide_eq_true I,decide_eq_true I];rfl
  have WR:iX (L.map a1.br) first (F.length+1)=[first]:=by
   unfold iX;obtain⟨m,hm⟩:∃m,(L.map a1.br).length+1-first=m+1:=⟨L.length-first,by omega⟩
   rw[hm,vW,List.getElem?_map,ep _ _ eE];refine(if_pos ⟨rfl,by show lo.length=_;omega,by omega⟩).trans ?_
   congr 1
   cases m with
   |zero=>rfl
   |succ m=>
    rw[vW,List.getElem?_map];cases bg:L[first+1-1]? with
    |none=>rfl
    |some z=>
     refine if_neg ?_;rintro⟨B3,cJ,ml⟩;have B3:z.hyp=true:=B3;have cJ:z.bY=F.length+1:=cJ;have ml:¬(first<first+1/\0<z.op):=ml;have:=h.b.hyp z (List.mem_of_getElem? bg) B3 (by omega);omega
  have BF:(eD n).low:=h.low hL (List.mem_of_getElem? (ep _ _ eE));have BE:=h.low hL (List.mem_of_getElem? (ep _ _ yO));have w7:∀p:eN,p.cy=true->ia (L.map a1.br) (e8 (L.map a1.br)) k p (first,jd.length)=true/\o_ (kq (L.map a1.br) (e8 (L.map a1.br)) (ndsL (L.map a1.br) (L.map a1.br).length) k p (first,jd.length)) (dJ.f,[eD n]):=λp ar=>by
   unfold ia kq;rw[ar];simp only[cond_true,WQ,d1,WR];refine⟨trivial,B2 (ep _ _ yO),?_,h.WN hL (λn hn=>Rd.yN.1 n (List.mem_filter.1 hn).1),⟨BE,λa ha=>?_⟩,?_⟩
   ·show[fw (L.map a1.br) first]=[(eD n).aT];rw[B2 (ep _ _ eE)]
   ·rw[List.mem_singleton.1 ha];exact BF
   ·show(List.map _ _).length<=40;rw[List.length_map];have h2:=(Rd.yN (L:=L) (i:=jd.length-1)).2;have h3:(lL (L.map a1.br) (ndsL (L.map a1.br) (L.map a1.br).length) k first jd.length).length<=_:=List.length_filter_le _ _;omega
  clear WQ s1 s2 dT ec dp dO d1 d2 WR;rw[yH] at hx h_ ⊢;cases hd:decide (dJ.f= .ct) with
  |true=>
   rw[hd] at h_;obtain⟨dy,t1⟩:=w7 (qe mA lp) I;rw[of_decide_eq_true hd] at t1;exact uy cM (x:=⟨F.length,0,false,.neg (eD n),uh,[(first,jd.length)]⟩) I 8 I (by show uh≠o5;decide) I (by show(ia _ _ _ (qe mA lp) _&&true)=true;rw[dy];rfl) (.WM _) h_ (.cons t1 .nil)
  |false=>
   rw[hd] at h_;obtain⟨dy,t1⟩:=w7 (qe mA dM) I;exact uy cM (x:=⟨F.length,0,false,.bin 2 (eD n) dJ.f,sL,[(first,jd.length)]⟩) I 6 I (by show sL≠o5;decide) I (by show(ia _ _ _ (qe mA dM) _&&true)=true;rw[dy];rfl) (.WL _ _) h_ (.cons t1 .nil)
end
theorem any_congr{α:Type}{l:List α}{p q:α->Bool}(h:∀x∈l,p x=q x):l.any p=l.any q:=by
 induction l with
 |nil=>rfl
 |cons x l aD=>rw[List.any_cons,List.any_cons,h x (by simp),aD λy hy=>h y (by simp[hy])]
theorem WS{T:List bX}(hh:∀x∈T,x.hyp=true->x.op=0->x.bY=0){a d:Nat}(ha:1<=a)(kg:a<=T.length)(hd:1<=d):iX T a d=match T[a-1]? with
  |some x=>if x.hyp=true/\x.bY=d then[a] else[]
  |none=>[]:=by
 unfold iX;obtain⟨m,hm⟩:∃m,T.length+1-a=m+1:=⟨T.length-a,by omega⟩
 rw[hm,vW];cases hx:T[a-1]? with
 |none=>rfl
 |some x=>
  show(if x.hyp=true/\x.bY=d/\¬(a<a/\0<x.op) then a::asmF T a d m (a+1) else[])=if x.hyp=true/\x.bY=d then[a] else[]
  by_cases h:x.hyp=true/\x.bY=d
  ·rw[if_pos h,if_pos ⟨h.1,h.2,by omega⟩]
   congr 1
   cases m with
   |zero=>rfl
   |succ m=>
    rw[vW];cases bg:T[a+1-1]? with
    |none=>rfl
    |some z=>
     refine if_neg ?_;rintro⟨B3,cJ,ml⟩;have:=hh z (List.mem_of_getElem? bg) B3 (by omega);omega
  ·rw[if_neg h,if_neg λh'=>h ⟨h'.1,h'.2.1⟩]
theorem Gw{A C:List bX}{j:Nat}(h1:1<=j)(h2:j<=A.length):(e8 (A++C)).getD (j-1) []=(e8 A).getD (j-1) []:=by
 rw[wx h1 h2,wx h1 (by rw[List.length_append];omega),sO h2]
theorem M7{A C:List bX}{j:Nat}(h1:1<=j)(h2:j<=A.length):iL (A++C) j=iL A j:=by
 unfold iL;rw[List.map_append,List.getD_eq_getElem?_getD,List.getD_eq_getElem?_getD,List.getElem?_append_left (by rw[List.length_map];omega)]
theorem b5L{A C:List bX}(hh:∀x∈A++C,x.hyp=true->x.op=0->x.bY=0){N:List (List Nat)}{k:Nat}(h1:1<=k)(az:k<=A.length)(aa:∀x,A[k-1]? =some x->tU k x.cs):needL (A++C) (e8 (A++C)) N k=needL A (e8 A) N k:=by
 unfold needL;rw[List.getElem?_append_left (by omega),List.getElem?_eq_getElem (by omega)];show cond _ _ _=cond _ _ _;have kB:=(aa _ (List.getElem?_eq_getElem (by omega))).2;generalize A[k-1]=x at kB
 congr 1
 apply List.filter_congr;intro n _;unfold mu;refine any_congr λac fP=>?_;obtain⟨gx,k4,nM⟩:=kB ac fP;have e:oV (A++C) (e8 (A++C)) N k ac=oV A (e8 A) N k ac:=by
  have aN:kM (A++C) (e8 (A++C)) k ac.1 ac.2=kM A (e8 A) k ac.1 ac.2:=by
   unfold kM mo;rw[M7 h1 az,M7 (by omega) (by omega),Gw (j:=ac.1) gx (by omega),Gw (j:=k) h1 az,Gw (j:=ac.2) (by omega) (by omega),Gw (j:=ac.2+1) (by omega) (by omega)]
  have a4:lL (A++C) N k ac.1 ac.2=lL A N k ac.1 ac.2:=by
   unfold lL;rw[M7 h1 az,WS hh gx (by rw[List.length_append];omega) (by omega),WS (λx hx=>hh x (by simp[hx])) gx (by omega) (by omega),List.getElem?_append_left (by omega)]
  unfold oV;rw[aN,a4]
 rw[e]
theorem WT{A C:List bX}(hh:∀x∈A++C,x.hyp=true->x.op=0->x.bY=0)(aa:∀k x,1<=k->A[k-1]? =some x->tU k x.cs):∀ {j:Nat},j<=A.length->ndsL (A++C) j=ndsL A j
 |0,_=>rfl
 |j+1,h=>by rw[ndsL,ndsL,WT hh aa (by omega),b5L hh (by omega) h λx hx=>aa _ x (by omega) hx]
theorem WU{T:List bX}{i m:Nat}(hi:i<m):∀ {n:Nat},(ndsL T (m+n))[i]? =(ndsL T m)[i]?
 |0=>rfl
 |n+1=>by
  rw[show m+(n+1)=(m+n)+1 by omega,ndsL,List.getElem?_append_left (by rw[sB];omega)];exact WU hi
theorem Rd.M8{L:List a1}{ab:List (List Nat)}{ax:List Nat}(h:Rd L ab ax){k:Nat}{x:bX}(h1:1<=k)(hx:(L.map a1.br)[k-1]? =some x):tU k x.cs:=by
 rw[List.getElem?_map] at hx;cases hy:L[k-1]? with
 |none=>rw[hy] at hx;cases hx
 |some y=>
  rw[hy] at hx;cases hx;obtain⟨_,_,_,_,a,c⟩:=h.shape h1 hy;exact⟨by show y.cs.length<_;omega,c⟩
theorem b5M{L:List a1}{ab:List (List Nat)}{ax:List Nat}(h:Rd L ab ax){m:Nat}(hm:m<=L.length){i:Nat}(hi:i<m):(ndsL (pre L m) m)[i]? =(ndsL (pre L L.length) L.length)[i]? :=by
 have jr:L.map a1.br=pre L m++(L.drop m).map a1.br:=by
  unfold Lyc.pre;rw[<-List.map_append,List.take_append_drop]
 have hH:(pre L m).length=m:=by unfold Lyc.pre;rw[List.length_map,List.length_take];omega
 obtain⟨dw,lS,h1⟩:=h.pre hm;have aN:ndsL (L.map a1.br) m=ndsL (pre L m) m:=by
  rw[jr];refine WT (λx hx=>?_) (λk x az hx=>h1.M8 az hx) (Nat.le_of_eq hH.symm);rw[<-jr] at hx;obtain⟨y,hy,rfl⟩:=List.mem_map.1 hx;exact h.b.hyp y hy
 have a4:pre L L.length=L.map a1.br:=by unfold Lyc.pre;rw[List.take_length]
 rw[a4,← aN];have:=WU (T:=L.map a1.br) hi (n:=L.length-m);rw[show m+(L.length-m)=L.length by omega] at this;exact this.symm
theorem yP{α:Type}{J:ad}{n:Nat}{U:Option Nat}{f:α->AV}{l:List α}(h:∀x∈l,bG J n (f x)=some (f x)):bG J (n+1) (slA true U (l.map f))=some (slA true U (l.map f)):=by
 cases l with
 |nil=>rfl
 |cons x l=>
  have hm:mapO (bG J n) ((x::l).map f)=some ((x::l).map f):=yn I λi h1 h2=>by
   rw[List.getElem_map];exact h _ (List.getElem_mem _)
  show bG J (n+1) (.a7 true U ((x::l).map f))=some (.a7 true U ((x::l).map f));rw[snapshot_succ];simp only[hm]
theorem B4{J:ad}{n:Nat}{F:Fm}(h:2*F.dep+2<=n):mapO (bG J n) (bD F)=some (bD F):=by
 have h1:=Fm.snap J true _ F (n+1) (Nat.le_refl _) (by omega);rw[iW] at h1;obtain⟨eB,a3,bm⟩:=DV h1;cases bm;exact a3
theorem b5N{J:ad}{n:Nat}{x:bX}(h:2*x.f.dep+12<=n):bG J n x.A=some x.A:=by
 obtain⟨n,rfl⟩:∃m,n=m+5:=⟨n-5,by omega⟩
 have h1:mapO (bG J (n+4)) (bD x.f)=some (bD x.f):=B4 (by omega);have h2:bG J (n+4) (lK true x.cs)=some (lK true x.cs):=yP λc _=>rfl;refine oG (l:=[ah x.bY,ah x.op,.b x.hyp]++(bD x.f++[.s x.gQ,lK true x.cs])) ?_;refine ud (l:=[ah x.bY,ah x.op,.b x.hyp]) (r:=[ah x.bY,ah x.op,.b x.hyp]) I (ud h1 ?_);rw[mapO_cons,mapO_cons,h2];rfl
theorem b5O{J:ad}{n:Nat}{T:List bX}(a5:T≠[])(h:∀x∈T,2*x.f.dep+13<=n):bG J n (cD T)=some (cD T):=by
 cases n with
 |zero=>
  cases T with
  |nil=>exact absurd I a5
  |cons x l=>have:=h x (by simp);omega
 |succ n=>
  have:=yP (J:=J) (n:=n) (U:=some 9) (f:=bX.A) (l:=T) λx hx=>b5N (by have:=h x hx;omega);cases T with
  |nil=>exact absurd I a5
  |cons x l=>exact this
end Go.Lyc
end
noncomputable section
namespace Go.Lyc
set_option maxHeartbeats 0
variable [Tok][TokOk]
open Go.RowKit Go.Lyc.T
attribute [local irreducible] b9 bO dj dY bu
abbrev sP(L:Nat):List AV:=[.b false,ah L,ah 40]
abbrev M9(j:Nat)(J τ:ad):Prop:=J.next<=τ.next/\∀i o,i≠j->J.get i=some o->τ.get i=some o
section
variable {b:b8}{K:Nat->List AV->AV->Prop}
theorem b5P(hh:bk (b.aM K) ED J3){j d L:Nat}(hd:d<=40)(hL:L<2^20){J:ad}(aA:J.get j=some (.cells (sP (L+1)))):
  bu (b.aM K) 0 (.f (.func ED) [] []) [aK j,ah d] J (λr τ=>r= .ok (.b true)/\τ.get j=some (.cells (sP L))/\M9 j J τ):=by
 refine W.code hh.e hh.p hh.f I I I I λz=>?_;have H:Has J [(j,sP (L+1))]:=Has.nil.cons aA (by simp);refine ai ?_;refine W.st (bM:=sP L) H 0 I I I I I I λτ c1 H bB=>?_;refine ai ?_;exact aj.ret ⟨rfl,rfl,H.get _ (.head _),by omega,bB⟩
theorem b5Q(hh:bk (b.aM K) EE J4){j d:Nat}{J:ad}:
  bu (b.aM K) 0 (.f (.func EE) [] []) [aK j,.ae,ah d] J (λr τ=>r= .ok (.b true)/\τ=J):=by
 refine W.code hh.e hh.p hh.f I I I I λz=>?_;have H:Has J []:=Has.nil;refine ai ?_;refine aj.each 0 (λj F τ=>τ=J) (by decide) I I I (λj F τ aA=>by omega) λF τ aV _=>?_;subst aV;refine aj.norm [] trivial λF=>?_;refine ai ?_;exact aj.ret ⟨rfl,rfl,rfl⟩
theorem PF.row(a:PF):dI (some 5) (E8.drop (a.op*5))=some (.ag [.b true,.b true,uB (q9 a.op),ah (E7 a.op),ah a.subs.length]):=by
 cases a with
 |bin k a c=>
  obtain⟨k,az⟩:=k;have:k=0\/k=1\/k=2:=by omega
  rcases this with rfl|rfl|rfl<;>rfl
 |_=>rfl
structure WV(b:b8)(K:Nat->List AV->AV->Prop):Prop where
 fn:∀g aW r cw,K g aW r->K g aW cw->r=cw
 node:bk (b.aM K) ED J3
 b5R:bk (b.aM K) EE J4
 form:bk (b.aM K) J2 Ug
 s7:b.ext lH=0/\b.pure lH=true
 L7:∀a:PF,K lH [uB (q9 a.op),.s a.bZ] (.b true)
 rows:b.kS KJ=some (.ag E8)
theorem WW(h:WV b K){j:Nat}:∀(n:Nat) (a:PF),a.dep<=n->∀d L,d+a.dep<=41->a.bK<=L->L<2^20->∀J:ad,J.get j=some (.cells (sP L))→
  bu (b.aM K) 0 (.f (.func J2) [] []) [aK j,.ag (eA a),ah d] J (λr τ=>r= .ok (.b true)/\τ.get j=some (.cells (sP (L-a.bK)))/\M9 j J τ)
 |0,a,hn=>by cases a<;>simp[PF.dep] at hn
 |n+1,a,hn=>λd L hd cj hL J aA=>by
  have dK:=a.nT;have o0:1<=a.dep:=by cases a<;>simp[PF.dep]
  have VM:=a.VL;obtain⟨L,rfl⟩:∃m,L=m+1:=⟨L-1,by omega⟩
  refine W.code h.form.e h.form.p h.form.f I I I I λz=>?_;have H:Has J [(j,sP (L+1))]:=Has.nil.cons aA (by simp);have b5S:=ad.bt aA;refine ai ?_;generalize aS:J.next=q at b5S;refine W.cy (c:=eA a) H aS I I I I I λek c1 H bB=>?_;refine ai ?_;refine W.an trivial I I I (b5P h.node (by omega) (by omega) (bB _ _ aA)) λr bh ⟨aq,gB,ea,bp⟩=>⟨_,aq,?_⟩
  have yL:=bp q _ (by omega) (H.get _ (.head _));have H:Has bh [(q,eA a)]:=Has.nil.cons yL (by simp);refine ai ?_;refine W.val (v:=ah a.op) (af:=bh) I I (b0W I (by omega)) ?_;refine ai ?_;refine W.val (v:=.df true (.ag [.b true,.b true,uB (q9 a.op),ah (E7 a.op),ah a.subs.length])) (af:=bh) I I (a7p (j:=a.op) (cs:=E8) (o:=true) (by show(match b.kS KJ with|some v=>some (AV.df true v)|none=>none)=_;rw[h.rows]) I (by omega) a.row) ?_;refine ai ?_;refine W.cC (c:=[.b false,.b false,uB 0,ah 0,ah 0]) H I I I I λbU eT H bc=>?_;refine W.st (bM:=[.b true,.b true,uB (q9 a.op),ah (E7 a.op),ah a.subs.length]) H 0 I I I I I I λcq fl H b5=>?_;have DI:=b5 _ _ (by have:=ad.bt gB;omega) (bc _ _ gB);refine ai ?_;refine W.fu h.fn h.s7 (h.L7 a) I I I I ?_;refine ai ?_;refine W.an trivial I I I (b5Q h.b5R) λr dD ⟨aq,nE⟩=>⟨_,aq,?_⟩
  subst nE;refine ai ?_;have Li:(a.subs.map λx=>AV.ag (bD x.aT)).length=a.subs.length:=List.length_map _;refine aj.norm [(79,ah 0),(78,ah a.subs.length),(77,hT a),(0,aK j),(2,ah d)] ⟨rfl,rfl,rfl,rfl,rfl,trivial⟩ λF=>?_;have hlen:=a.rn;refine aj.each a.subs.length (λi F τ=>τ.get j=some (.cells (sP (L-((a.subs.take i).map PF.bK).sum)))/\M9 j dD τ/\sat [(77,hT a),(0,aK j),(2,ah d)] F) (by omega) ⟨DI,⟨Nat.le_refl _,λ_ _ _ h=>h⟩,rfl,rfl,rfl,trivial⟩ I I (λi F τ hi aV B5 M_=>?_) (λF τ aV B5=>?_)
  ·obtain⟨B6,⟨Na,hB⟩,WX,c6,bQ,_⟩:=aV;refine aj.norm [(79,ah i),(78,ah a.subs.length),(77,hT a),(0,aK j),(2,ah d)] ⟨B5,M_,WX,c6,bQ,trivial⟩ λF=>?_;have H:Has τ []:=Has.nil;have nu:=PF.jQ (List.getElem_mem hi);have hS:((a.subs.take (i+1)).map PF.bK).sum=((a.subs.take i).map PF.bK).sum+(a.subs[i]).bK:=by
    rw[List.take_succ_eq_append_getElem hi,List.map_append,List.sum_append];simp
   have hle:((a.subs.take (i+1)).map PF.bK).sum<=(a.subs.map PF.bK).sum:=by
    conv=>rhs;rw[<-List.take_append_drop (i+1) a.subs,List.map_append,List.sum_append]
    omega
   refine ai ?_;generalize a.subs[i]=x at nu hS;refine W.cC (c:=[.i .u8 0,.s [],.ae,.ae]) H I I I I λeb iE H dQ=>?_;refine W.st (bM:=bD x.aT) H 0 I I I I I I λeM kj H fK=>?_;have b5T:=fK _ _ (by have:=ad.bt B6;omega) (dQ _ _ B6);refine ai ?_;have hx:bD x.aT=eA x:=PF.FW x;have hf:=WW h n x (by omega) (d+1) (L-((a.subs.take i).map PF.bK).sum) (by omega) (by omega) (by omega) eM b5T;rw[<-hx] at hf;refine W.an trivial I I I hf λr e9 ⟨aq,yD,ti,nS⟩=>⟨_,aq,?_⟩
   refine ai ?_;refine⟨rfl,rfl,?_,⟨by omega,λc o aa h=>nS _ _ aa (fK _ _ (by have:=ad.bt h;have:=ad.bt (hB _ _ aa h);omega) (dQ _ _ (hB _ _ aa h)))⟩,rfl,rfl,rfl,trivial⟩;rw[yD,hS,Nat.sub_sub]
  ·obtain⟨B6,⟨Na,hB⟩,WX,c6,bQ,_⟩:=aV;refine aj.norm [] trivial λF=>?_;rw[List.take_length] at B6;have H:Has τ []:=Has.nil;refine ai ?_;refine aj.ret ⟨rfl,rfl,?_,by omega,λc o aa ho=>hB _ _ aa (b5 _ _ (by have:=ad.bt ho;omega) (bc _ _ (bp _ _ aa (bB _ _ ho))))⟩;rw[B6,show L+1-a.bK=L-(a.subs.map PF.bK).sum by omega]
theorem b5U(h:WV b K)(a:PF)(ha:a.low)(body:bF)(hb:J1.body=some body):aj (b.aM K) J1.ntmps body (fR [.ag (eA a)]) ⟨.nil,0⟩ (m4 2 (.b true)):=by
 cases hb;refine W.args λz=>?_;have H:Has (⟨.nil,0⟩:ad) []:=Has.nil;have h1:=ha.1;have h2:=ha.2;refine ai ?_;refine W.cy (c:=eA a) H I I I I I I λτ c1 H bB=>?_;refine ai ?_;refine W.cC (c:=[.b false,ah 0,ah 0]) H c1 I I I λbh ea H bp=>?_;refine ai ?_;refine W.st (bM:=sP 400) H 0 I I I I I I λbU eT H bc=>?_;refine ai ?_;refine W.an trivial I I I (WW h _ a (Nat.le_refl _) 1 400 (by omega) (by omega) (by decide) bU (H.get _ (.head _))) λr cq ⟨aq,_⟩=>⟨_,aq,?_⟩
 refine ai ?_;exact aj.ret ⟨rfl,rfl⟩
end
end Go.Lyc
end
noncomputable section
namespace Go.Lyc
set_option maxHeartbeats 0
variable [Tok][TokOk]
open Go.RowKit Go.Lyc.T
section
variable {b:b8}{K:Nat->List AV->AV->Prop}(hf:∀g aW r cw,K g aW r->K g aW cw->r=cw)
include hf in
theorem b5V(hh:bk (b.aM K) tF vM)(nB:∀a c:eW,K gP [c5 a,c5 c] (.i .i64 (nR a c)))(og:b.ext gP=0/\b.pure gP=true){l:List eW}{v:AV}(hl:l.length<=1000000)(J:ad)(hA:Acc J (some 2) v (l.map c5)):
  bu (b.aM K) 0 (.f (.func tF) [] []) [v,ah 0,ah l.length,.f (.func gP) [] []] J (λr af=>r= .ok (.a6 [])/\af.next=J.next/\(∃cf:List eW,cf.Perm l/\Acc af (some 2) v (cf.map c5))/\∀i o,v.at? ≠some i->J.get i=some o->af.get i=some o):=by
 refine bu.nL hh.e hh.p hh.f I I I ?_;refine aj.seq (aj.region ?_);refine aE.go I I I I ?_;refine aE.bin (a:=ah 0) (b:=ah 1) I I I I (oE (by omega)) ?_;refine aE.go I I I I ?_;refine aE.nil (aj.block ?_);refine aj.loop (λm f τ=>∃(i:Nat) (cf:List eW),i+m=l.length+1/\1<=i/\cf.Perm l/\Acc τ (some 2) v (cf.map c5)/\τ.next=J.next/\(∀i o,v.at? ≠some i->J.get i=some o->τ.get i=some o)∧
  sat [(0,v),(1,ah 0),(2,ah l.length),(3,.f (.func gP) [] []),(8,ah i)] f) ?_ l.length ⟨1,l,by omega,by omega,.refl _,hA,rfl,λi o _ h=>h,rfl,rfl,rfl,rfl,rfl,trivial⟩
 intro m g τ ⟨i,cf,hi,Lw,ar,js,hn,hold,hL⟩;refine aj.norm _ hL λg=>?_;clear hL;refine aj.seq (aj.seq (aj.region ?_));refine aE.go I I I I ?_;refine aE.go I I I I ?_;refine aE.bin (a:=ah i) (b:=ah l.length) (v:=.b (decide (i<l.length))) I I I I (mX I) ?_;refine aE.nil ?_;refine aj.hJ I (λht=>?_) (λdE=>?_)
 ·have hlt:i<l.length:=of_decide_eq_true ht;have ez:=ar.length_eq;refine aj.skip (aj.seq ?_);refine aj.block (aj.seq (aj.region ?_));refine aE.go I I I I ?_;refine aE.go I I I I ?_;refine aE.nil (aj.block ?_);refine aj.loop (λm f τ=>m<=i/\∃cf:List eW,cf.Perm l/\Acc τ (some 2) v (cf.map c5)/\τ.next=J.next/\(∀i o,v.at? ≠some i->J.get i=some o->τ.get i=some o)∧
   sat [(0,v),(1,ah 0),(2,ah l.length),(3,.f (.func gP) [] []),(8,ah i),(9,ah m)] f) ?_ i ⟨Nat.le_refl _,cf,ar,js,hn,hold,rfl,rfl,rfl,rfl,rfl,rfl,trivial⟩
  clear js hold hn ar ez;intro j g τ ⟨Il,cf,ar,js,hn,hold,hL⟩;refine aj.norm _ hL λg=>?_;clear hL;have ez:=ar.length_eq;have fin:∀ {f:Nat->AV},sat [(0,v),(1,ah 0),(2,ah l.length),(3,.f (.func gP) [] []),(8,ah i)] f->bO (b.aM K) none [] 53 (.region [⟨(some 15),.bx (.t 8),none,[]⟩,⟨(some 16),.bin .add (.t 15) (.c (.i .i64 1)),none,[]⟩,⟨(some 8),.bx (.t 16),none,[]⟩]) f τ (λx bW af=>match x with
   | .normal=>∃aP,aP<m/\∃(i:Nat) (cf:List eW),i+aP=l.length+1/\1<=i/\cf.Perm l/\Acc af (some 2) v (cf.map c5)/\af.next=J.next/\(∀i o,v.at? ≠some i->J.get i=some o->af.get i=some o)/\sat [(0,v),(1,ah 0),(2,ah l.length),(3,.f (.func gP) [] []),(8,ah i)] bW
   |_=>False):=by
   intro f ao;refine aj.norm _ ao λg=>?_;refine aj.region ?_;refine aE.go I I I I ?_;refine aE.bin (a:=ah i) (b:=ah 1) I I I I (oE (by omega)) ?_;refine aE.go I I I I ?_;exact aE.nil ⟨m-1,by omega,i+1,cf,by omega,by omega,ar,js,hn,hold,rfl,rfl,rfl,rfl,rfl,trivial⟩
  obtain⟨o,au,ho,g4⟩:=js.inv (by rw[List.length_map];omega);rw[List.length_map] at au;subst au;refine aj.seq (aj.seq (aj.draw I I ?_));refine dX.go I I I I ?_;refine dX.go I I I I ?_;refine dX.cmp (a:=j) (b:=0) I I I I I ?_;by_cases WY:0<j
  ·rw[show decide (0<j)=true from decide_eq_true WY];obtain⟨j,rfl⟩:∃q,j=q+1:=⟨j-1,by omega⟩
   have wA:j+1<cf.length:=by omega
   have aN:dI (some 2) (((cf.map c5).flatMap AV.cells).drop (0+(j+1)*shN (some 2)))=some (c5 cf[j+1]):=by
    rw[Lp (by rw[List.length_map];omega) g4,List.getElem_map]
   have a4:dI (some 2) (((cf.map c5).flatMap AV.cells).drop (0+j*shN (some 2)))=some (c5 (cf[j]'(by omega))):=by
    rw[Lp (by rw[List.length_map];omega) g4,List.getElem_map]
   refine dX.go I I I I ?_;refine dX.go I I I I ?_;refine dX.go I I I I ?_;refine dX.go I I I I ?_;refine dX.idx (j:=j+1) I I I I (qV wA) ?_;refine dX.aw (v:=c5 cf[j+1]) ho I I I aN ?_;refine dX.go I I I I ?_;refine dX.go I I I I ?_;refine dX.bin (a:=ah (j+1)) (b:=ah 1) I I I I (pK (by omega) (by omega)) ?_;refine dX.idx (j:=j) I I I I (qV (by omega)) ?_;refine dX.aw (v:=c5 (cf[j]'(by omega))) ho I I I a4 ?_;refine dX.known hf og.1 og.2 (nB cf[j+1] (cf[j]'(by omega))) I I I (oF I I) ?_;refine dX.bin (v:=.b (decide (nR cf[j+1] (cf[j]'(by omega))<0))) I I I I I ?_;refine dX.go I I I I ?_;refine dX.nil ?_;refine aj.hJ I (λ_=>?_) (λ_=>?_)
   ·refine aj.skip (aj.seq (aj.block (aj.a7J 0 I (D0.fin (gs:=[]) .nil I ?_))));refine aE.go I I I I ?_;refine aE.go I I I I ?_;refine aE.go I I I I ?_;refine aE.go I I I I ?_;refine aE.bin (a:=ah (j+1)) (b:=ah 1) I I I I (pK (by omega) (by omega)) ?_;refine aE.go I I I I ?_;refine aE.go I I I I ?_;refine aE.bin (a:=ah (j+1)) (b:=ah 1) I I I I (pK (by omega) (by omega)) ?_;refine aE.idx (j:=j) I I I I (qV (by omega)) ?_;refine aE.aw (v:=c5 (cf[j]'(by omega))) ho I I I a4 ?_;refine aE.go I I I I ?_;refine aE.go I I I I ?_;refine aE.idx (j:=j+1) I I I I (qV wA) ?_;refine aE.aw (v:=c5 cf[j+1]) ho I I I aN ?_;refine aE.idx (j:=j+1) I I I I (qV wA) ?_;refine aE.Vr (j:=j+1) (y:=c5 (cf[j]'(by omega))) (v:=.al o 0 cf.length (some 2) none) js I (by rw[List.length_map];omega) I I I I λek c1 b5W bB=>?_;refine aE.idx (j:=j) I I I I (qV (by omega)) ?_;refine aE.Vr (j:=j) (y:=c5 cf[j+1]) b5W I (by rw[List.length_set,List.length_map];omega) I I I I λbh ea b5X bp=>?_;refine aE.nil ⟨rfl,?_⟩;refine aj.region ?_;refine aE.go I I I I ?_;refine aE.bin (a:=ah (j+1)) (b:=ah 1) I I I I (pK (by omega) (by omega)) ?_;refine aE.go I I I I ?_;refine aE.nil ⟨j,by omega,by omega,(cf.set (j+1) (cf[j]'(by omega))).set j cf[j+1],(swap_perm wA).trans ar,?_,by omega,λi bH h jF=>bp i bH (λe=>h (by rw[e];rfl)) (bB i bH (λe=>h (by rw[e];rfl)) (hold i bH h jF)),rfl,rfl,rfl,rfl,rfl,rfl,trivial⟩;rw[List.map_set,List.map_set];exact b5X
   ·refine aj.exit ?_;exact(fin ⟨rfl,rfl,rfl,rfl,rfl,trivial⟩).mono λx f J h=>by cases x<;>first|exact h|exact h.elim
  ·rw[show decide (0<j)=false from decide_eq_false WY];refine a7E ?_;refine aj.hJ I (λh=>by cases h) (λ_=>?_);refine aj.exit ?_;exact(fin ⟨rfl,rfl,rfl,rfl,rfl,trivial⟩).mono λx f J h=>by cases x<;>first|exact h|exact h.elim
 ·have k1:¬i<l.length:=of_decide_eq_false dE;refine aj.exit ?_;exact⟨.inr I,rfl,hn,⟨cf,ar,js⟩,hold⟩
end
section
variable {b:b8}{K:Nat->List AV->AV->Prop}
set_option maxRecDepth 100000 in
theorem b5Y(hh:bk (b.aM K) tG vO)(m:Nat)(hm:m<256)(J:ad):bu (b.aM K) 0 (.f (.func tG) [] []) [.i .u64 (Int.ofNat m)] J (λr af=>(∃q,r= .ok (.i .i64 q))/\af=J):=by
 refine bu.code hh.e hh.p hh.f I I I I ?_;refine aj.seq (aj.region ?_);refine iK ?_;refine aj.seq (aj.seq (aj.region ?_));refine aE.go I I I I ?_;refine aE.bin (a:=.i .u64 (Int.ofNat m)) (b:=.i .u64 (Int.ofNat 4294967296)) (v:=.b false) I I I I (mX (by show some (AV.b (decide (4294967296<=m)))=_;rw[decide_eq_false (by omega)])) ?_;refine aE.nil (aj.hJ I (λh=>by cases h) λ_=>aj.skip ?_);refine aj.seq (aj.seq (aj.region ?_));refine aE.go I I I I ?_;refine aE.bin (a:=.i .u64 (Int.ofNat m)) (b:=.i .u64 (Int.ofNat 65536)) (v:=.b false) I I I I (mX (by show some (AV.b (decide (65536<=m)))=_;rw[decide_eq_false (by omega)])) ?_;refine aE.nil (aj.hJ I (λh=>by cases h) λ_=>aj.skip ?_);refine aj.seq (aj.seq (aj.region ?_));refine aE.go I I I I ?_;refine aE.bin (a:=.i .u64 (Int.ofNat m)) (b:=.i .u64 (Int.ofNat 256)) (v:=.b false) I I I I (mX (by show some (AV.b (decide (256<=m)))=_;rw[decide_eq_false (by omega)])) ?_;refine aE.nil (aj.hJ I (λh=>by cases h) λ_=>aj.skip ?_);refine aj.seq (aj.region ?_);refine aE.go I I I I ?_;refine aE.go I I I I ?_;have iH:wrapN .u8 (Int.ofNat m)=Int.ofNat m:=b2n hm;refine aE.val I I (Ly (m:=Int.ofNat m) I _) ?_;rw[iH];refine aE.val I I (a7o (j:=m) I I (DP (Nat.lt_of_lt_of_le hm (by decide)))) ?_;refine aE.val I I (Ly I _) ?_;refine aE.bin I I I I I ?_;refine aE.go I I I I ?_;exact aE.nil (aj.ret ⟨rfl,⟨_,rfl⟩,rfl⟩)
theorem b5Z(hh:bk (b.aM K) vN x1)(cu:bk (b.aM K) tG vO)(m:Nat)(hm:m<256)(J:ad):bu (b.aM K) 0 (.f (.func vN) [] []) [.i .u64 (Int.ofNat m)] J (λr af=>(∃q,r= .ok (.i .i64 q))/\af=J):=by
 refine bu.code hh.e hh.p hh.f I I I I ?_;refine aj.seq (aj.region ?_);refine iK ?_;refine aj.seq (aj.hJ I (λh=>by cases h) λ_=>aj.skip ?_);refine aj.seq (aj.region ?_);refine aE.go I I I I ?_;refine aE.hK I I I (b5Y cu m hm J) λr cx ⟨⟨q,aN⟩,a4⟩=>⟨_,aN,?_⟩
 refine aE.go I I I I ?_;exact aE.nil (aj.ret ⟨rfl,⟨_,rfl⟩,a4⟩)
variable (hf:∀g aW r cw,K g aW r->K g aW cw->r=cw)
include hf in
theorem b6a(hh:bk (b.aM K) vL x0)(hi:bk (b.aM K) tF vM)(nB:∀a c:eW,K gP [c5 a,c5 c] (.i .i64 (nR a c)))(og:b.ext gP=0/\b.pure gP=true){l:List eW}{v:AV}(hl:l.length<=12)(q:Int)(J:ad)(hA:Acc J (some 2) v (l.map c5)):
  bu (b.aM K) 0 (.f (.func vL) [] []) [v,ah 0,ah l.length,.i .i64 q,.f (.func gP) [] []] J (λr af=>r= .ok (.a6 [])/\af.next=J.next/\(∃cf:List eW,cf.Perm l/\Acc af (some 2) v (cf.map c5))/\∀i o,v.at? ≠some i->J.get i=some o->af.get i=some o):=by
 refine bu.nL hh.e hh.p hh.f I I I ?_;refine aj.seq (aj.region ?_);refine aE.go I I I I ?_;refine aE.nil (aj.seq (aj.region ?_));refine aE.go I I I I ?_;refine aE.nil (aj.block ?_);refine aj.loop (λm f τ=>τ=J/\sat [(0,v),(1,ah 0),(2,ah l.length),(4,.f (.func gP) [] [])] f) ?_ 0 ⟨rfl,rfl,rfl,rfl,rfl,trivial⟩;rintro m g τ ⟨rfl,hL⟩;refine aj.norm _ hL λg=>?_;clear hL;refine aj.block (aj.seq (aj.region ?_));refine aE.go I I I I ?_;refine aE.go I I I I ?_;refine aE.bin (a:=ah l.length) (b:=ah 0) I I I I (pK (by omega) (by omega)) ?_;refine aE.go I I I I ?_;refine aE.nil (aj.seq (aj.seq (aj.region ?_)));refine aE.go I I I I ?_;refine aE.bin (a:=ah (l.length-0)) (b:=ah 12) (v:=.b true) I I I I (mX (by show some (AV.b (decide (l.length-0<=12)))=_;rw[decide_eq_true (by omega)])) ?_;refine aE.nil (aj.hJ I (λ_=>?_) (λh=>by cases h));refine aj.seq (aj.region ?_);refine aE.go I I I I ?_;refine aE.go I I I I ?_;refine aE.go I I I I ?_;refine aE.go I I I I ?_;refine aE.hK I I I (b5V hf hi nB og (by omega) τ hA) λr cx ⟨aN,h1,h2,h3⟩=>⟨_,aN,?_⟩
 exact aE.nil (aj.ret ⟨.inl I,rfl,h1,h2,h3⟩)
include hf in
theorem b6b(hh:bk (b.aM K) xZ AE)(mL:bk (b.aM K) vN x1)(cu:bk (b.aM K) tG vO)(ar:bk (b.aM K) vL x0)(hi:bk (b.aM K) tF vM)(nB:∀a c:eW,K gP [c5 a,c5 c] (.i .i64 (nR a c)))(og:b.ext gP=0/\b.pure gP=true){l:List eW}{v:AV}(hl:l.length<=12)(J:ad)(hA:Acc J (some 2) v (l.map c5)):
  bu (b.aM K) 0 (.f (.func xZ) [] []) [v,.f (.func gP) [] []] J (λr af=>r= .ok (.a6 [])/\af.next=J.next/\(∃cf:List eW,cf.Perm l/\Acc af (some 2) v (cf.map c5))/\∀i o,v.at? ≠some i->J.get i=some o->af.get i=some o):=by
 refine bu.nL hh.e hh.p hh.f I I I ?_;refine aj.seq (aj.region ?_);refine aE.go I I I I ?_;refine aE.len (m:=l.length) I I I (by have:=hA.len (τ:=J);rwa[List.length_map] at this) ?_;refine aE.go I I I I ?_;refine aE.nil (aj.region ?_);refine aE.go I I I I ?_;refine aE.go I I I I ?_;refine aE.go I I I I ?_;refine aE.val I I (Ly (m:=Int.ofNat l.length) I _) ?_;have hw:wrapN .u64 (Int.ofNat l.length)=Int.ofNat l.length:=by
  have:(l.length:Int)<18446744073709551616:=by omega
  simp[wrapN,IntKind.wrap,IntKind.bits,IntKind.signed];omega
 rw[hw];refine aE.hK I I I (b5Z mL cu l.length (by omega) J) λr cx ⟨⟨q,aN⟩,a4⟩=>⟨_,aN,?_⟩
 subst a4;refine aE.go I I I I ?_;refine aE.hK I I I (b6a hf ar hi nB og hl q cx hA) λr gy ⟨aN,h1,h2,h3⟩=>⟨_,aN,?_⟩
 exact aE.nil ⟨.inr I,rfl,h1,h2,h3⟩
include hf in
theorem b6c(hh:bk (b.aM K) AA Ew)(aa:bk (b.aM K) xX AD)(ha:bk (b.aM K) vK xY)(fM:bk (b.aM K) m2 tE)(ao:bk (b.aM K) xZ AE)(mL:bk (b.aM K) vN x1)(cu:bk (b.aM K) tG vO)(ar:bk (b.aM K) vL x0)(hi:bk (b.aM K) tF vM)(nB:∀a c:eW,K gP [c5 a,c5 c] (.i .i64 (nR a c)))(og:b.ext gP=0/\b.pure gP=true)
  {db cy:Nat} {bo:List eW} (Bl:bo.length<=12) (J:ad) (hm:J.get db=some (.map (setE c5 0 bo) bo.length)) (gG:J.get cy=some (.cells [.m (some db)])):
  bu (b.aM K) 0 (.f (.func AA) [] []) [.f (.func m2) [] [.p (some (cy,0))],.f (.func gP) [] []] J (λr af=>∃(v:AV) (c:List eW),r= .ok v/\c.Perm bo/\Acc af (some 2) v (c.map c5)/\(∀a,v.at? =some a->J.next<=a)/\ua J af):=by
 refine bu.code hh.e hh.p hh.f I I I I ?_;refine aj.seq (aj.region ?_);refine aE.go I I I I ?_;refine aE.nil (aj.seq (aj.region ?_));refine aE.go I I I I ?_;refine aE.hK I I I (b2E aa ha fM (by omega) J hm gG) λr cx ⟨v,c,aN,h1,h2,h3,aQ⟩=>⟨_,aN,?_⟩
 have fH:=h1.length_eq;refine aE.go I I I I ?_;refine aE.nil (aj.seq (aj.region ?_));refine aE.go I I I I ?_;refine aE.go I I I I ?_;refine aE.hK I I I (b6b hf ao mL cu ar hi nB og (l:=c) (by omega) cx h2) λr gy ⟨a4,eT,⟨cf,oa,js⟩,bc⟩=>⟨_,a4,?_⟩
 refine aE.nil (aj.seq (aj.region ?_));refine aE.go I I I I ?_;refine aE.go I I I I ?_;have hn:=aQ.1;exact aE.nil (aj.ret ⟨rfl,_,cf,rfl,oa.trans h1,js,h3,by omega,λi o ho=>bc i o (λe=>by have:=h3 i e;have:=ad.bt ho;omega) (aQ.2 i o ho)⟩)
include hf in
theorem b6d(hh:bk (b.aM K) Az JY)(az:bk (b.aM K) AB Ex)(Ll:bk (b.aM K) AA Ew)(aa:bk (b.aM K) xX AD)(ha:bk (b.aM K) vK xY)(fM:bk (b.aM K) m2 tE)(ao:bk (b.aM K) xZ AE)(mL:bk (b.aM K) vN x1)(cu:bk (b.aM K) tG vO)(ar:bk (b.aM K) vL x0)(hi:bk (b.aM K) tF vM)(nB:∀a c:eW,K gP [c5 a,c5 c] (.i .i64 (nR a c)))(og:b.ext gP=0/\b.pure gP=true)
  {db:Nat} {bo:List eW} (Bl:bo.length<=12) (J:ad) (hm:J.get db=some (.map (setE c5 0 bo) bo.length)):
  bu (b.aM K) 0 (.f (.func Az) [] []) [.m (some db)] J (λr af=>∃(v:AV) (c:List eW),r= .ok v/\c.Perm bo/\Acc af (some 2) v (c.map c5)/\(∀a,v.at? =some a->J.next<=a)/\ua J af):=by
 refine bu.code hh.e hh.p hh.f I I I I ?_;refine aj.seq (aj.region ?_);refine aE.go I I I I ?_;refine aE.nil (aj.seq (aj.region ?_));refine aE.go I I I I ?_;generalize bg:J.next=z;refine aE.hK I I I (b2A az db J z bg) λr cx ⟨aN,ea,h2,bp⟩=>⟨_,aN,?_⟩
 refine aE.hK I I I (b6c hf Ll aa ha fM ao mL cu ar hi nB og Bl cx (bp _ _ hm) h2) λr gy ⟨v,c,aN,h1,h3,aQ,bJ⟩=>⟨_,aN,?_⟩
 refine aE.go I I I I ?_;have:=bJ.1;exact aE.nil (aj.ret ⟨rfl,_,c,rfl,h1,h3,λa e=>by have:=aQ a e;omega,by omega,λi o ho=>bJ.2 i o (bp i o ho)⟩)
end
structure Nb(b:b8)(K:Nat->List AV->AV->Prop):Prop where
 sorted:bk (b.aM K) Az JY
 keys:bk (b.aM K) AB Ex
 b6e:bk (b.aM K) AA Ew
 b6f:bk (b.aM K) xX AD
 app:bk (b.aM K) vK xY
 b6g:bk (b.aM K) m2 tE
 yQ:bk (b.aM K) xZ AE
 len:bk (b.aM K) vN x1
 b6h:bk (b.aM K) tG vO
 Nc:bk (b.aM K) vL x0
 ins:bk (b.aM K) tF vM
 cmp:∀a c:eW,K gP [c5 a,c5 c] (.i .i64 (nR a c))
 Gp:b.ext gP=0/\b.pure gP=true
theorem Nb.go{b:b8}{K:Nat->List AV->AV->Prop}(hf:∀g aW r cw,K g aW r->K g aW cw->r=cw)(ao:Nb b K):Lz b K 12:=⟨by decide,λhn J hm=>b6d hf ao.sorted ao.keys ao.b6e ao.b6f ao.app ao.b6g ao.yQ ao.len ao.b6h ao.Nc ao.ins ao.cmp ao.Gp hn J hm⟩
end Go.Lyc
end
noncomputable section
namespace Go.Lyc
set_option maxHeartbeats 0
variable [Tok][TokOk]
open Go.RowKit Go.Lyc.T
attribute [local irreducible] b9 bO dj dY bu
theorem PF.parts(a:PF):∀x∈a.aT.parts,∃c:PF,x=c.aT:=by
 induction a with
 | ff q=>intro x hx;rw[Fm.parts_eq] at hx;exact⟨.ff q,by simpa [PF.aT,Fm.sub,Fm.fF,Fm.qW] using hx⟩
 |ct=>intro x hx;rw[Fm.parts_eq] at hx;exact⟨.ct,by simpa [PF.aT,Fm.sub,Fm.fF,Fm.qW] using hx⟩
 |neg a aD=>
  intro x hx;rw[Fm.parts_eq] at hx;rcases List.mem_cons.1 hx with rfl|hx
  ·exact⟨_,rfl⟩
  ·refine aD x ?_;simpa [PF.aT,Fm.sub,Fm.fF,Fm.qW] using hx
 |bin k a c aD pg=>
  intro x hx;rw[Fm.parts_eq] at hx;rcases List.mem_cons.1 hx with rfl|hx
  ·exact⟨_,rfl⟩
  ·have hx:x∈a.aT.parts\/x∈c.aT.parts:=by simpa [PF.aT,Fm.sub,Fm.fF,Fm.qW] using hx
   rcases hx with hx|hx
   ·exact aD x hx
   ·exact pg x hx
theorem PF.iJ(a:PF):a.aT.iJ:=by
 induction a with
 | ff q=>exact .mk (by simp) (by simp) (by simp) (by simp)
 |ct=>exact .mk (by simp) (by simp) (by simp) (by simp)
 |neg a aD=>exact .mk (by simp) (by simp) (by simp) (λx hx=>by rw[show x=a.aT by simpa using hx];exact aD)
 |bin k a c aD pg=>exact .mk (by simp) (by simp) (by simp) (λx hx=>by
   have hx:x=a.aT\/x=c.aT:=by simpa using hx
   rcases hx with rfl|rfl
   ·exact aD
   ·exact pg)
def sQ:List (List eW):=[[],[([80],0)],[([81],0)],[([80],0),([81],0)],[([81],0),([80],0)]]
theorem PF.sF(a:PF){bo:List eW}(h:bo∈sQ):Lyc.sF a.aT bo∈sQ:=by
 unfold Lyc.sF;cases a with
 | ff q=>
  simp only[sQ,List.mem_cons,List.not_mem_nil,or_false] at h;rcases h with rfl|rfl|rfl|rfl|rfl<;>cases q<;>decide
 |ct=>exact h
 |neg a=>exact h
 |bin k a c=>
  rw[if_neg (show ¬(PF.bin k a c).aT.op=1 by show ¬ 4+k.val=1;omega)];exact h
theorem WZ:∀ {l:List Fm} {bo:List eW},(∀x∈l,∃c:PF,x=c.aT)->bo∈sQ->v_ l bo∈sQ
 |[],_,_,h=>h
 |x::l,bo,hl,h=>by
  obtain⟨c,rfl⟩:=hl x (by simp);exact WZ (l:=l) (λy hy=>hl y (List.mem_cons_of_mem _ hy)) (c.sF h)
theorem PF.b6i(a:PF):Bo a.aT∈sQ:=WZ a.parts (by decide)
theorem PF.ops(a:PF):vx (tT a.aT) 254=0:=by
 refine b2H.2 (Vs (by decide) λf hf=>?_);obtain⟨c,rfl⟩:=a.parts f hf;have:=c.nT;unfold oR;rw[PF.VJ,if_pos (by omega)];have:c.op=1\/c.op=2\/c.op=3\/c.op=4\/c.op=5\/c.op=6:=by omega
 rcases this with h|h|h|h|h|h<;>rw[h]<;>decide
theorem PF.b6j(a:PF):a.aT.fW=none:=by cases a<;>rfl
section
variable {b:b8}{K:Nat->List AV->AV->Prop}(hf:∀g aW r cw,K g aW r->K g aW cw->r=cw)
structure Nd(b:b8)(K:Nat->List AV->AV->Prop):Prop where
 yQ:Lz b K 12
 b6k:bk (b.aM K) Ev JX
 W0:bk (b.aM K) tD vI
 bR:bk (b.aM K) sl xW
 w:bk (b.aM K) xV Ay
 yl:bk (b.aM K) Eu JV
 fn:bk (b.aM K) JW Ue
theorem b6l(hh:bk (b.aM K) Ev JX){gd:AV}{J:ad}:bu (b.aM K) 0 (.f (.func Ev) [] []) [.ae,gd] J (λr τ=>r= .ok (.b true)/\τ=J):=by
 refine W.code hh.e hh.p hh.f I I I I λz=>?_;have H:Has J []:=Has.nil;refine ai ?_;refine aj.each 0 (λj F τ=>τ=J) (by decide) I I I (λj F τ aA=>by omega) λF τ aV _=>?_;subst aV;refine aj.norm [] trivial λF=>?_;refine ai ?_;exact aj.ret ⟨rfl,rfl,rfl⟩
theorem b6m(h:Nd b K)(a:PF)(J:ad):
  bu (b.aM K) 0 (.f (.func JW) [] []) [a.aT.A true] J (λr af=>∃v,r= .ok v/\Acc af (some 2) v []/\ua J af):=by
 generalize az:J.next=k;refine bu.JE (d:=k+4) h.fn.e h.fn.p h.fn.f I I I I ?_;refine dk.km (aj.region (aE.box (v:=a.aT.A true) (c:=a.aT.cells true) k az I I I I I λbP hp h1 bB=>?_));refine iK ?_;refine⟨rfl,dk.km (aj.region (aE.mkMap (k+1) hp I λcx gX h2 bp=>?_))⟩;refine aE.var (v:=.m (some (k+1))) (c:=[.m (some (k+1))]) (k+2) gX I I I I I I λgy np h3 bc=>?_;replace h1:=bc _ _ (bp _ _ h1);replace h2:=bc _ _ h2;refine aE.nil ⟨rfl,dk.xH (dk.km (aj.region ?_))⟩;refine aE.aw h1 I I I (Fm.aw true a.aT) ?_;refine aE.hK I I I (KL h.w true a.aT gy (k+3) np) λr FO ⟨aN,qJ,aQ,b5⟩=>⟨_,aN,?_⟩
 replace h2:=b5 _ _ h2;replace h3:=b5 _ _ h3;have cL:∀i o,J.get i=some o->FO.get i=some o:=λi o ho=>b5 i o (bc i o (bp i o (bB i o ho)));refine aE.nil ⟨rfl,dk.block ?_⟩;refine dk.walk h.W0 h.bR true (λi=>i=k+1\/i=k+2) (λl τ=>(∀x∈l,∃c:PF,x=c.aT)/\τ.get (k+1)=some (.map [] 0)/\τ.get (k+2)=some (.cells [.m (some (k+1))])) (k+4) qJ I I a.iJ aQ (λi hi=>by omega) (λl τ aH ⟨a3,bm,cv⟩ az=>⟨a3,az _ _ (.inl I) bm,az _ _ (.inr I) cv⟩) ⟨a.parts,h2,h3⟩ ?_ ?_
 ·intro G rest τ cZ vV ⟨a3,bm,cv⟩;obtain⟨c,rfl⟩:=a3 G (by simp);refine aj.region ?_;refine aE.var (v:=c.aT.A true) (c:=c.aT.cells true) τ.next I I I I (Fm.conf true c.aT) I (Fm.len true c.aT) λek qJ aQ b5=>?_;refine aE.nil ⟨rfl,.of (by omega) b5,λbh C9 cW=>?_⟩;replace aQ:=cW _ _ (by omega) aQ;replace bm:=cW _ _ (by omega) (b5 _ _ bm);replace cv:=cW _ _ (by omega) (b5 _ _ cv);refine aj.block (aj.region ?_);refine iK ?_;refine aE.aw aQ I I I (Fm.R1 true c.aT) ?_;refine aE.go I I I I ?_;rw[c.b6j];refine aE.hK I I I (b6l h.b6k) λr bU ⟨aN,a4⟩=>⟨_,aN,?_⟩
  subst a4;exact aE.nil ⟨rfl,⟨λx hx=>a3 x (List.mem_cons_of_mem _ hx),bm,cv⟩,.refl⟩
 ·intro τ ⟨_,bm,cv⟩ vV hd hold;refine⟨rfl,rfl,?_⟩;refine aj.seq (aj.region ?_);refine aE.aw (v:=.m (some (k+1))) cv I I I I ?_;refine aE.hK I I I (h.yQ.2 (bo:=[]) (Nat.zero_le _) τ bm) λr bh ⟨v,c,aN,ec,dp,dO,e1⟩=>⟨_,aN,?_⟩
  cases ec.eq_nil;refine aE.go I I I I ?_;have hn:=e1.1;have fS:=iw (bH:=AO.dead) (e1.2 _ _ hd);refine aE.nil (aj.ret ⟨rfl,e1.2 _ _ hd,v,rfl,dp.aO λi o hi ho=>fS.2 i o (by have:=dO i hi;omega) ho,by show J.next<=bh.next;omega,λi o ho=>?_⟩);have:=ad.bt ho;exact fS.2 i o (by omega) (e1.2 i o (hold i o (by omega) (cL i o ho)))
include hf in
theorem b6n(h:Nd b K)(a:PF)(kind:Nat)(az:¬kind=2)(body:bF)(hb:J6.body=some body):aj (b.aM K) J6.ntmps body (fR [uB kind,.ag (eA a)]) ⟨.nil,0⟩ (m4 4 (.b true)):=by
 cases hb;refine W.args λz=>?_;have H:Has (⟨.nil,0⟩:ad) []:=Has.nil;refine ai ?_;refine W.cy (c:=eA a) H I I I I I I λτ c1 H bB=>?_;refine ai ?_;have aS:=a.b6i;have eG:=b2F hf h.yQ h.yl h.W0 h.bR h.w a.aT a.iJ (by simp only[sQ,List.mem_cons,List.not_mem_nil,or_false] at aS;rcases aS with h|h|h|h|h<;>rw[h]<;>decide) τ;have b_:=λτ=>b6m h a τ;simp only[ll] at eG b_;refine W.an trivial I I I eG λr bh ⟨v,c,aN,ec,dp,dO,e1⟩=>⟨_,aN,?_⟩
 have H:=H.aO e1.2;have eJ:∀s∈c,s.2=0:=λs ao=>by
  have ao:=ec.mem_iff.1 ao;simp only[sQ,List.mem_cons,List.not_mem_nil,or_false] at aS;rcases aS with h|h|h|h|h<;>rw[h] at ao<;>simp at ao<;>(try rcases ao with rfl|rfl)<;>simp_all
 have fH:c.length<=2:=by
  rw[ec.length_eq];simp only[sQ,List.mem_cons,List.not_mem_nil,or_false] at aS;rcases aS with h|h|h|h|h<;>rw[h]<;>decide
 have hlen:∀τ,lenA τ 1 v=some c.length:=λτ=>by have:=dp.len (τ:=τ);rwa[List.length_map] at this
 refine W.val (v:=ah c.length) (af:=bh) I I (ts I (hlen _)) ?_;refine ai ?_;refine aj.each c.length (λi F τ=>bh.next<=τ.next/\(∀i o,bh.get i=some o->τ.get i=some o)/\sat [(5,ah 0),(14,v),(3,aK 0)] F) (by omega) ⟨Nat.le_refl _,(λ_ _ h=>h),rfl,rfl,rfl,trivial⟩ I I (λi F τ hi aV B5 M_=>?_) (λF τ aV B5=>?_)
 ·obtain⟨Na,hB,c_,kr,cc,_⟩:=aV;refine aj.norm [(16,ah i),(15,ah c.length),(5,ah 0),(14,v),(3,aK 0)] ⟨B5,M_,c_,kr,cc,trivial⟩ λF=>?_;have H:Has τ []:=Has.nil;obtain⟨o,oX,ho,g4⟩:=dp.inv (by rw[List.length_map];omega);rw[List.length_map] at oX;subst oX;have aN:dI (some 2) (((c.map c5).flatMap AV.cells).drop (0+i*shN (some 2)))=some (c5 c[i]):=by
   rw[Lp (by rw[List.length_map];omega) g4,List.getElem_map]
  refine ai ?_;refine W.val (v:=.p (some (o,0+i*shN (some 2)))) (af:=τ) I I (DL _ _ i _ I I (qV hi)) ?_;refine W.val (v:=c5 c[i]) (af:=τ) I I (mi _ _ I (sc (hB _ _ ho) aN)) ?_;refine W.cC (c:=[.s [],ah 0]) H I I I I λbU eT H bc=>?_;refine W.st (bM:=[.s c[i].1,ah c[i].2]) H 0 I I I I I I λcq fl H b5=>?_;have h0:=eJ _ (List.getElem_mem hi);rw[h0] at H;refine ai ?_;exact⟨rfl,rfl,by omega,λi o ho=>b5 _ _ (by have:=ad.bt ho;omega) (bc _ _ (hB _ _ ho)),rfl,rfl,rfl,trivial⟩
 ·obtain⟨Na,hB,c_,kr,cc,_⟩:=aV;refine aj.norm [(3,aK 0)] ⟨cc,trivial⟩ λF=>?_;have H:=H.aO hB;refine ai ?_;refine W.an trivial I I I (b_ τ) λr dD ⟨v,aN,dp,e1⟩=>⟨_,aN,?_⟩
  have hlen:∀τ,lenA τ 1 v=some 0:=λτ=>dp.len (τ:=τ);refine W.val (v:=ah 0) (af:=dD) I I (ts I (hlen _)) ?_;have H:=H.aO e1.2;refine ai ?_;refine aj.each 0 (λj F τ=>True) (by decide) trivial I I (λj F τ aA=>by omega) λF τ aV _=>?_;refine aj.norm [] trivial λF=>?_;have H:Has τ []:=Has.nil;refine ai ?_;exact aj.ret ⟨rfl,rfl⟩
theorem Gx(a:PF)(h:a.aT.dep<=200)(τ:ad):bG τ (b.bn+1000) (.ag (eA a))=some (.ag (eA a)):=by
 have:=rp a h (b:=b) τ;rwa[PF.FW,ll] at this
include hf in
theorem b6o(a:PF)(hd:a.aT.dep<=200)(l:lN)(ho:l.ops=254)(hR:K kp [.ag (eA a)] (.b true))(FZ:b.ext kp=0/\b.pure kp=true)(cb:K vJ [.ag (eA a)] (.i .u32 (Int.ofNat (tT a.aT))))(b6p:b.ext vJ=0/\b.pure vJ=true)
  (hA:K x3 [uB l.kind,.ag (eA a)] (.b true)) (b6q:b.ext x3=0/\b.pure x3=true) (body:bF) (hb:J5.body=some body):aj (b.aM K) J5.ntmps body (fR [l.A true,.ag (eA a)]) ⟨.nil,0⟩ (m4 4 (.b true)):=by
 cases hb;refine W.args λz=>?_;have H:Has (⟨.nil,0⟩:ad) []:=Has.nil;refine ai ?_;refine W.cy (c:=l.cells true) H I I I I I I λτ c1 H bB=>?_;refine ai ?_;refine W.cy (c:=eA a) H c1 I I I I I λbh ea H bp=>?_;refine ai ?_;refine W.fu hf FZ hR I I I (nJ (Gx a hd _)) ?_;refine ai ?_;refine W.fu hf b6p cb I I I (nJ (Gx a hd _)) ?_;refine W.bin (v:=.i .u32 (Int.ofNat 0)) I I I I ((b2J (Uu (Nat.two_pow_pos _)) (by rw[ho];decide)).trans (by rw[ho];show some (AV.i .u32 (Int.ofNat (vx (tT a.aT) 254)))=_;rw[a.ops])) ?_;refine ai ?_;refine W.fu hf b6q hA I I I (oF I (Gx a hd _)) ?_;refine ai ?_;exact aj.ret ⟨rfl,rfl⟩
include hf in
theorem b6r(a:PF)(hd:a.aT.dep<=200)(l:lN)(ri:∀J,bG J (b.bn+1000) (l.A true)=some (l.A true))(hL:K mm [l.A true] (.b true))(LK:b.ext mm=0/\b.pure mm=true)(h1:K x2 [l.A true,.ag (eA a)] (.b true))(aN:b.ext x2=0/\b.pure x2=true)
  (body:bF) (hb:J7.body=some body):aj (b.aM K) J7.ntmps body (fR [l.A true,.ag (eA a)]) ⟨.nil,0⟩ (m4 4 (.b true)):=by
 cases hb;refine W.args λz=>?_;have H:Has (⟨.nil,0⟩:ad) []:=Has.nil;refine ai ?_;refine W.cy (c:=l.cells true) H I I I I I I λτ c1 H bB=>?_;refine ai ?_;refine W.cy (c:=eA a) H c1 I I I I I λbh ea H bp=>?_;refine ai ?_;refine W.fu hf LK hL I I I (nJ (ri _)) ?_;refine ai ?_;refine W.fu hf aN h1 I I I (oF (ri _) (Gx a hd _)) ?_;refine ai ?_;exact aj.ret ⟨rfl,rfl⟩
end
end Go.Lyc
end
noncomputable section
namespace Go.Lyc
set_option maxHeartbeats 0
variable [Tok][TokOk]
open Go.RowKit Go.Lyc.T
theorem Nf{a b:AV}(h:[a]=[b]):a=b:=by injection h
theorem nb{a b c d:AV}(h:[a,b]=[c,d]):a=c/\b=d:=by injection h with h1 h2;injection h2 with h2;exact⟨h1,h2⟩
theorem W1{a b:List Nat}(h:AV.s a= .s b):a=b:=by injection h
theorem B7{k:IntKind}{a b:Int}(h:AV.i k a= .i k b):a=b:=by injection h
theorem W2{a b:eW}(h:c5 a=c5 b):a=b:=by
 obtain⟨a3,bm⟩:=a;obtain⟨ec,dp⟩:=b;injection h with h
 injection h with h1 h2
 injection h2 with h2 _
 injection h2 with _ h2
 exact Prod.ext (W1 h1) (Int.ofNat.inj h2)
abbrev HB(b:b8)(g:Nat)(c:aI):Prop:=b.funcs.get g=some c/\b.ext g=0/\b.pure g=false
abbrev kQ(b:b8)(g:Nat)(c:aI):Prop:=b.funcs.get g=some c/\b.ext g=0/\b.pure g=true
theorem HB.h{b:b8}{K:Nat->List AV->AV->Prop}{g:Nat}{c:aI}(h:HB b g c):bk (b.aM K) g c:=⟨h.1,h.2.1,h.2.2⟩
theorem jy(x:Bool):fe 1000 (.b x)=true/\AV.eqb 1000 (.b x) (.b x)=true:=⟨rfl,Snp.eqb 1000 _ (Snp.b 999 _)⟩
theorem oI(k:IntKind)(x:Int):fe 1000 (.i k x)=true/\AV.eqb 1000 (.i k x) (.i k x)=true:=⟨rfl,Snp.eqb 1000 _ (Snp.i 999 _ _)⟩
end Go.Lyc
end
noncomputable section
namespace Go.Lyc
set_option maxHeartbeats 0
open Go Go.RowKit
section
variable [Tok][TokOk]
def elemF(f:AV->AV)(x:AV):AV:=match x with| .ag c=>.ag (c.map f)|x=>f x
def sb(n:Nat):AV->AV:=Nat.rec (motive:=λ_=>AV->AV) (λv=>v) (λ_ aD v=>match v with
 | .y i=>Tok.y_ i
 | .fs o i=>Tok.nh o i
 | .ag l=>.ag (l.map aD)
 | .a7 o U xs=>.a7 o U (xs.map (elemF aD))
 |v=>v) n
end
abbrev tokOf(F:Fm):Tok:=⟨λi=>cond (Nat.beq i 0) (.i .u8 (Int.ofNat F.op)) (.s F.name),λo i=>cond (Nat.beq i 0) (ix o F.fW) (hr o F.fF)⟩
section
variable [Tok]
def Seen(w:World)(o bH:Bool)(O iT:Nat->Prop)(B dW:Nat):Prop:=∀aB,aB<w.heap.size->¬O aB->(o=false->B<=aB)->¬iT aB/\(bH=false->dW<=aB)
theorem W3{α:Type}{w:World}{o bH:Bool}{O iT:Nat->Prop}{B dW k:Nat}(cP:Seen w o bH O iT B dW)(f g:α->List AV)(l:List α)(hf:∀x∈l,(f x).length=k)(hg:∀x∈l,(g x).length=k)(aa:∀x∈l,∀y∈g x,conf none y=true)
  (aD:∀x∈l,∀i (h:i<(f x).length) (h':i<(g x).length) u,R w (λ_=>none) O B ((f x)[i]) u->R w (λ_=>none) iT dW ((g x)[i]) u) {u:Value} (h:R w (λ_=>none) O B (.a7 o (some k) (l.map λx=>.ag (f x))) u):R w (λ_=>none) iT dW (.a7 bH (some k) (l.map λx=>.ag (g x))) u:=by
 generalize dg:l.map (λx=>AV.ag (f x))=xs at h;cases h with
 |kb=>
  obtain rfl:=List.map_eq_nil_iff.1 dg;exact .kb
 |a7 a8 cb ao u2 ak hl wj eP=>
  rename_i aB off fo sp;have hlen:xs.length=(l.map λx=>AV.ag (g x)).length:=by rw[<-dg,List.length_map,List.length_map]
  rw[hlen];have a5:(l.map λx=>AV.ag (g x))≠[]->xs≠[]:=λh e=>h (by rw[<-dg,List.map_eq_nil_iff] at e;rw[e];rfl);have hx:∀i (h:i<xs.length) (h':i<l.length),xs[i]= .ag (f l[i]):=λi h h'=>by subst dg;simp
  have hy:∀i (h:i<(l.map λx=>AV.ag (g x)).length) (h':i<l.length),(l.map λx=>AV.ag (g x))[i]= .ag (g l[i]):=λi h h'=>by simp
  have ez:(l.map λx=>AV.ag (g x)).length=l.length:=List.length_map ..;refine .a7 a8 (λh=>?_) (λi hi=>?_) (λi hi j aA=>?_) (λi hi j aA=>?_) (by omega) (λv au x hx=>?_) (λh=>eP (a5 h))
  ·obtain⟨h1,h2,h3⟩:=cb (a5 h);obtain⟨aQ,bJ⟩:=cP aB h2 h1 h3;exact⟨aQ,h2,bJ⟩
  ·rw[hy i hi (by omega)];show conf (some k) (.ag _)=true;simp[conf,hg _ (List.getElem_mem (show i<l.length by omega))]
  ·have cY:i<l.length:=by omega
   have aN:((l.map λx=>AV.ag (g x))[i]).cells=g l[i]:=by rw[hy i hi cY];rfl
   have eR:j<(g l[i]).length:=by rw[aN] at aA;exact aA
   have a4:(xs[i]'(by omega)).cells=f l[i]:=by rw[hx i (by omega) cY];rfl
   exact u2 i (by omega) j (by rw[a4,hf _ (List.getElem_mem cY),← hg _ (List.getElem_mem cY)];exact eR)
  ·have cY:i<l.length:=by omega
   have aN:((l.map λx=>AV.ag (g x))[i]).cells=g l[i]:=by rw[hy i hi cY];rfl
   have eR:j<(g l[i]).length:=by rw[aN] at aA;exact aA
   have a4:(xs[i]'(by omega)).cells=f l[i]:=by rw[hx i (by omega) cY];rfl
   have gB:j<(f l[i]).length:=by rw[hf _ (List.getElem_mem cY),← hg _ (List.getElem_mem cY)];exact eR
   have:=ak i (by omega) j (by rw[a4];exact gB);simp only[a4] at this;simp only[aN];exact aD _ (List.getElem_mem cY) j gB eR _ this
  ·obtain⟨y,hy,rfl⟩:=List.mem_map.1 au;exact aa y hy x hx
theorem Gy{w:World}{o bH:Bool}{O iT:Nat->Prop}{B dW:Nat}(cP:Seen w o bH O iT B dW):∀(d:Nat) (a:Option (List Tm)),Tm.gF (a.getD [])<d->∀u,R w (λ_=>none) O B (ix o a) u->R w (λ_=>none) iT dW (ix bH a) u
 |0,a,h,_,_=>by omega
 |d+1,none,_,u,h=>by
  have h:R w (λ_=>none) O B .ae u:=h;cases h;exact .ae
 |d+1,some l,hd,u,h=>by
  refine W3 (k:=3) cP (λt:Tm=>t.cells o) (λt:Tm=>t.cells bH) l (λt _=>by rw[Tm.iI];rfl) (λt _=>by rw[Tm.iI];rfl) (λt _ y hy=>?_) (λt ht i h1 h2 u hu=>?_) h
  ·rw[Tm.iI] at hy;simp only[List.mem_cons,List.not_mem_nil,or_false] at hy;rcases hy with rfl|rfl|rfl
   ·rfl
   ·rfl
   ·cases t.fW<;>rfl
  ·have Ng:Tm.gF (t.fW.getD [])<d:=by
    have h3:Tm.gF l<d+1:=hd;have aQ:=Tm.tt ht;have bJ:t.dep=Tm.gF (t.fW.getD [])+1:=Tm.pL t;omega
   simp only[Tm.iI] at hu h1 h2 ⊢
   match i,h1 with
   |0,_=>cases hu;exact .b _
   |1,_=>cases hu;exact .s _ (by assumption)
   |2,_=>exact Gy cP d t.fW Ng u hu
theorem B8{w:World}{o bH:Bool}{O iT:Nat->Prop}{B dW:Nat}(cP:Seen w o bH O iT B dW):∀(d:Nat) (a:Option (List Fm)),Fm.gF (a.getD [])<d->∀u,R w (λ_=>none) O B (hr o a) u->R w (λ_=>none) iT dW (hr bH a) u
 |0,a,h,_,_=>by omega
 |d+1,none,_,u,h=>by
  have h:R w (λ_=>none) O B .ae u:=h;cases h;exact .ae
 |d+1,some l,hd,u,h=>by
  refine W3 (k:=4) cP (λt:Fm=>t.cells o) (λt:Fm=>t.cells bH) l (λt _=>by rw[Fm.iI];rfl) (λt _=>by rw[Fm.iI];rfl) (λt _ y hy=>?_) (λt ht i h1 h2 u hu=>?_) h
  ·rw[Fm.iI] at hy;simp only[List.mem_cons,List.not_mem_nil,or_false] at hy;rcases hy with rfl|rfl|rfl|rfl
   ·rfl
   ·rfl
   ·cases t.fW<;>rfl
   ·cases t.fF<;>rfl
  ·have Ng:Fm.gF (t.fF.getD [])<d:=by
    have h3:Fm.gF l<d+1:=hd;have aQ:=Fm.tt ht;have bJ:t.dep=max (Tm.gF (t.fW.getD [])) (Fm.gF (t.fF.getD []))+1:=Fm.pL t;omega
   simp only[Fm.iI] at hu h1 h2 ⊢
   match i,h1 with
   |0,_=>cases hu;exact .i _ _
   |1,_=>cases hu;exact .s _ (by assumption)
   |2,_=>exact Gy cP _ t.fW (Nat.lt_succ_self _) u hu
   |3,_=>exact B8 cP d t.fF Ng u hu
end
theorem tokOf_ok(F:Fm): @TokOk (tokOf F):=by
 letI:Tok:=tokOf F
 refine⟨λ{w O B dW i old u} h=>?_,λ{w O B i u} h=>?_⟩
 ·have cP:Seen w old true O (λ_=>False) B dW:=λaB _ _ _=>⟨λh=>h,λh=>by cases h⟩
  by_cases hi:i=0
  ·subst hi;exact Gy cP _ F.fW (Nat.lt_succ_self _) u h
  ·have e:∀o,Tok.nh o i=hr o F.fF:=λo=>by
    show cond (Nat.beq i 0) (ix o F.fW) (hr o F.fF)=_;cases i with
    |zero=>exact absurd I hi
    |succ i=>rfl
   rw[e] at h ⊢;exact B8 cP _ F.fF (Nat.lt_succ_self _) u h
 ·have cP:Seen w false false O (λb=>b<B) B B:=λaB _ _ h=>⟨λh2=>by have:=h I;omega,h⟩
  by_cases hi:i=0
  ·subst hi;exact Gy cP _ F.fW (Nat.lt_succ_self _) u h
  ·have e:∀o,Tok.nh o i=hr o F.fF:=λo=>by
    show cond (Nat.beq i 0) (ix o F.fW) (hr o F.fF)=_;cases i with
    |zero=>exact absurd I hi
    |succ i=>rfl
   rw[e] at h ⊢;exact B8 cP _ F.fF (Nat.lt_succ_self _) u h
end Go.Lyc
end
