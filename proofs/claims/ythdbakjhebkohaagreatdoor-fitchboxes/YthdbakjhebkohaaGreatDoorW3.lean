/-
  What functions of the program compute: walks, part 3. No conditions: definitions and laws.
-/
import Derived.Test.YthdbakjhebkohaaGreatDoorW2
set_option linter.all false
noncomputable section
namespace Go.Lyc
def a1P:=@Bool.and_eq_true_iff
def Rj:=@List.append_inj'
def Rk:=@List.cons.inj
def J_:=@List.mem_map_of_mem
set_option maxHeartbeats 0
variable [Tok][TokOk]
open Go.RowKit Go.Lyc.T
structure kZ(b:b5):Prop where
 I4:HB b A0 N4
 c2E:HB b D3 Oa
 c2F:HB b D5 Oc
 c2G:HB b D4 Ob
 c2H:HB b IH YX
 A_:HB b IB YS
 assumptions:HB b IC N5
 beside:HB b ID YT
 Ba:HB b IA YR
 c2I:HB b IE YU
 c2J:HB b Iw N0
 c2K:HB b D2 Ix
 c2L:HB b AZ Iy
 c2M:HB b IF N6
 c2N:HB b wI N7
 c2O:HB b wJ N8
 c2P:HB b Iz N3
 c2Q:HB b N9 YV
 c2R:HB b N_ YW
 c2S:HB b wK IG
 c2T:HB b II Od
 c2U:HB b IK Oe
 c2V:HB b D6 Of
 c2W:HB b wL Og
 c2X:HB b wM Oh
 c2Y:HB b n7 IL
 c2Z:HB b wN Oi
 c3a:HB b Oj YY
 c3b:HB b IM Ok
 c3c:HB b vc Ol
 c3d:HB b tz IN
 c3e:HB b A1 Om
 c3f:HB b NS YO
 a1Q:HB b NT Ip
 c3g:HB b YZ Ot
 Made:HB b Iq kS
 c3h:HB b u_ Ir
 c3i:HB b yE NU
 line:HB b AY It
 c3j:HB b yF DY
 c3k:HB b DZ NV
 c3l:HB b D0 NW
 join:HB b va D1
 atom:HB b AX Is
 c8u:HB b b6M b6N
 Rl:lX b tv NX
 a1R:lX b yG NZ
 Rm:lX b tw NY
 a1S:lX b r8 On
 Rn:lX b tB Oq
 a1T:lX b tA Oo
 a1U:lX b r6 Io
 a1V:lX b yI N2
 a1W:lX b tx N1
 c8v:lX b YQ b6O
 a1X:lX b me Iv
 a1Y:lX b yH Iu
 Ro:lX b oR IJ
 rA:∀g∈[ki,oQ,n6,wO,vb,wH,u9,nk],b.ext g=0/\b.pure g=true
theorem kZ.vB{b:b5}(h:kZ b){g:Nat}(hg:wv [ki,oQ,n6,wO,vb,wH,u9,nk] g=true):b.ext g=0/\b.pure g=true:=h.rA g (Az hg)
theorem PF.c3m{a x:PF}(h:x∈a.subs):x.bS<a.bS:=by
 cases a with
 | gd _=>simp[PF.subs] at h
 |cQ=>simp[PF.subs] at h
 |neg a=>rw[cu.1 h];exact lB _
 |bin k a b=>
  show x.bS<a.bS+b.bS+1;rcases dF.1 h with rfl|h
  ·omega
  ·rw[cu.1 h];omega
theorem a1Z:∀(n:Nat) (v:AV),fQ n v=true->fQ (n+1) v=true
 |0,_,h=>by cases h
 |n+1,v,h=>by
  have aH:=a1Z n;have g0:∀ {l:List AV},cP (fQ n) l=true->cP (fQ (n+1)) l=true:=λ{l} h=>jE λx hx=>aH x (lg h x hx);rw[pE] at h ⊢;cases v with
  |dG o v=>
   have h:(!o&&cP (fQ n) v.cells)=true:=h;show(!o&&cP (fQ (n+1)) v.cells)=true;rw[du] at h ⊢;exact⟨h.1,g0 h.2⟩
  |a_ o aa xs=>
   have h:((!o||xs.isEmpty)&&cP (λx=>cP (fQ n) x.cells) xs)=true:=h;show((!o||xs.isEmpty)&&cP (λx=>cP (fQ (n+1)) x.cells) xs)=true;rw[du] at h ⊢;exact⟨h.1,jE λx hx=>g0 (lg h.2 x hx)⟩
  |it t v=>exact aH v h
  |ah l=>exact g0 h
  |a9 l=>exact g0 h
  |f g x y=>
   have h:(cP (fQ n) x&&cP (fQ n) y)=true:=h;show(cP (fQ (n+1)) x&&cP (fQ (n+1)) y)=true;rw[du] at h ⊢;exact⟨g0 h.1,g0 h.2⟩
  |_=>exact h
theorem Rp:∀(d:Nat) (a:PF) {n:Nat},a.dep<=d->2*d+2<=n->fQ n (.ah (jr a.aO))=true
 |0,a,_,hd,_=>by cases a<;>simp[PF.dep] at hd
 |d+1,a,n,hd,hn=>by
  obtain⟨n,rfl⟩:∃m,n=m+2:=⟨n-2,U⟩
  rw[PF.P6,pE];have an:∀x∈a.subs,fQ n (.ah (jr x.aO))=true:=λx hx=>Rp d x (by have:=PF.kV hx;omega) U;have aQ:fQ (n+1) (slA false (some 4) (a.subs.map λx=>.ah (jr x.aO)))=true:=by
   cases c3n:a.subs with
   |nil=>rfl
   |cons x l=>
    rw[c3n] at an;show fQ (n+1) (.a_ false (some 4) ((x::l).map λx=>.ah (jr x.aO)))=true;rw[pE];show((!false||_)&&cP (λx=>cP (fQ n) x.cells) ((x::l).map λx=>AV.ah (jr x.aO)))=true;rw[Bool.not_false,Bool.true_or,pG];refine jE λv av=>?_;obtain⟨y,hy,rfl⟩:=dx.1 av;have:=an y hy;obtain⟨n,rfl⟩:∃m,n=m+1:=⟨n-1,U⟩
    rw[pE] at this;have this:cP (fQ n) (jr y.aO)=true:=this;exact jE λz bb=>a1Z _ _ (lg this z bb)
  refine jE λy hy=>?_;simp only[dF,gT,or_false] at hy;rcases hy with rfl|rfl|rfl|rfl
  ·rfl
  ·rfl
  ·rfl
  ·exact aQ
section
variable {P:Program}{b:b5}(hb:kg P b)(fb:kZ b){cF cA:AV}
structure rh(P:Program)(b:b5)(cF cA:AV):Prop where
 st:dn P b vb [.af,.af] (.b true)
 right:∀a:PF,a.low->dn P b ki [a.aO.A true] (.b true)
 fW:∀a:PF,a.low->dn P b oQ [cF,a.aO.A true] (.b true)
 c3o:dn P b n6 [cF] (.b true)
 rE:∀r∈iz,dn P b wO [r.A] (.b true)
 log:dn P b u9 [] cA
 BV:dn P b wH [] (.b true)
include hb fb
theorem a2a:∀(n:Nat) (a:PF),a.dep<=n->a.dep<=190->a.bS<2^62->dn P b tv [a.aO.A true] (ai a.bS)
 |0,a,hd,_,_=>by cases a<;>simp[PF.dep] at hd
 |n+1,a,hd,jk,an=>λb1=>by
  rw[mY];exact oJ hb (cY.ok (cF:=.af) (cA:=.af)) _ fb.Rl.1 I I I I (qL _ _).1 (qL _ _).2 (b9V cY.fn a (λx hx=>by rw[PF.jd];have:=PF.kV hx;omega) an fb.Rl.2 (λx hx=>cY.jv (a2a n x (by have:=PF.kV hx;omega) (by have:=PF.kV hx;omega) (by have:=PF.c3m hx;omega)) (a1J x) λr h=>h.size I x I) _ I) b1
theorem a2b(cn:dn P b vb [.af,.af] (.b true)):∀(n:Nat) (a c:PF),a.dep<=n->a.dep<=190->c.dep<=190->dn P b tw [a.aO.A true,c.aO.A true] (.b (decide (a=c)))
 |0,a,_,hd,_,_=>by cases a<;>simp[PF.dep] at hd
 |n+1,a,c,hd,jk,wb=>by
  have mW:∀ {x:PF},x∈a.subs->x.aO.dep<=200/\x.dep<=n/\x.dep<=190:=λ{x} hx=>by rw[PF.jd];have:=PF.kV hx;omega
  have rB:∀ {x:PF},x∈c.subs->x.aO.dep<=200/\x.dep<=190:=λ{x} hx=>by rw[PF.jd];have:=PF.kV hx;omega
  have kG:∀(x:PF),x.dep<=190->∀τ,bT τ (b.bt+1000) (jb x)=some (jb x):=λx hx τ=>BR (n:=b.bt+999) λy hy=>by
   have h1:=Fm.snap τ true _ y.aO (b.bt+999) (br _) (by rw[PF.jd];have:=PF.kV hy;omega);rwa[jY] at h1
  have h1:dn P b yG [jb a,jb c] (.b (decide (a.subs=c.subs))):=λb1=>oJ hb (cY.ok (cF:=.af) (cA:=.af)) _ fb.a1R.1 I I I I (jK _).1 (jK _).2 (b9Q cY.fn a.subs c.subs ⟨a.tP,c.tP⟩ (λx hx=>(mW hx).1) (λx hx=>(rB hx).1) fb.Rm.2 (λx hx y hy=>cY.jv (a2b cn n x y (mW hx).2.1 (mW hx).2.2 (rB hy).2) (a1K x y) λr h=>h.a1H I x y I) _ I) b1;intro b1;rw[mY,mY];exact oJ hb (cY.ok (cF:=.af) (cA:=.af)) _ fb.Rm.1 I I I I (jK _).1 (jK _).2 (b9R cY.fn a c (fb.vB I) (cY.jv cn (t_ ca) λr h=>h.tZ ca) fb.a1R.2 (cY.jv h1 (c2o a c) λr h=>h.c2j I a c I) (kG a jk) (kG c wb) _ I) b1
theorem Rq:∀(n:Nat) (a c:PF),a.dep<=n->a.dep<=190->c.dep<=190->dn P b r8 [a.aO.A true,c.aO.A true,.af] (.b (decide (a=c)))
 |0,a,_,hd,_,_=>by cases a<;>simp[PF.dep] at hd
 |n+1,a,c,hd,jk,wb=>λb1=>by
  have mW:∀ {x:PF},x∈a.subs->x.aO.dep<=200/\x.dep<=n/\x.dep<=190:=λ{x} hx=>by rw[PF.jd];have:=PF.kV hx;omega
  have rB:∀ {x:PF},x∈c.subs->x.aO.dep<=200/\x.dep<=190:=λ{x} hx=>by rw[PF.jd];have:=PF.kV hx;omega
  rw[mY,mY];exact oJ hb (cY.ok (cF:=.af) (cA:=.af)) _ fb.a1S.1 I I I I (jK _).1 (jK _).2 (b9N cY.fn a c (by rw[PF.jd,PF.jd];omega) fb.a1Q.h fb.a1S.2 (λx hx y hy=>cY.jv (Rq n x y (mW hx).2.1 (mW hx).2.2 (rB hy).2) (c2p x y) λr h=>h.c2k I x y I) (λx hx=>(mW hx).1) (λx hx=>(rB hx).1) _ I) b1
theorem a2c:∀(n:Nat) (a c:PF),a.dep<=n->a.dep<=190->c.dep<=190->dn P b tB [a.aO.A true,c.aO.A true,.af] (.b (decide (a=c)))
 |0,a,_,hd,_,_=>by cases a<;>simp[PF.dep] at hd
 |n+1,a,c,hd,jk,wb=>λb1=>by
  have mW:∀ {x:PF},x∈a.subs->x.aO.dep<=200/\x.dep<=n/\x.dep<=190:=λ{x} hx=>by rw[PF.jd];have:=PF.kV hx;omega
  have rB:∀ {x:PF},x∈c.subs->x.aO.dep<=200/\x.dep<=190:=λ{x} hx=>by rw[PF.jd];have:=PF.kV hx;omega
  rw[mY,mY];exact oJ hb (cY.ok (cF:=.af) (cA:=.af)) _ fb.Rn.1 I I I I (jK _).1 (jK _).2 (b9O cY.fn a c (by rw[PF.jd,PF.jd];omega) fb.c3g.h fb.Rn.2 (λx hx y hy=>cY.jv (a2c n x y (mW hx).2.1 (mW hx).2.2 (rB hy).2) (a1L x y) λr h=>h.a1I I x y I) (λx hx=>(mW hx).1) (λx hx=>(rB hx).1) _ I) b1
theorem c3p(al:∀a:PF,a.low->dn P b ki [a.aO.A true] (.b true))(a c:PF)(ha:a.low)(ab:c.low):dn P b tA [a.aO.A true,c.aO.A true] (.b (decide (a=c))):=λb1=>by
 have h1:=ha.1;have h2:=ab.1;have c3q:=al a ha;have c3r:=al c ab;rw[mY,mY];exact oJ hb (cY.ok (cF:=.af) (cA:=.af)) _ fb.a1T.1 I I I I (jK _).1 (jK _).2 (b9P cY.fn a c (by rw[PF.jd];omega) (by rw[PF.jd];omega) (fb.vB I) (cY.jv c3q (t_ ca) λr h=>h.tZ ca) (cY.jv c3r (t_ ca) λr h=>h.tZ ca) fb.Rn.2 (cY.jv (a2c hb fb _ a c (br _) U U) (a1L a c) λr h=>h.a1I I a c I) _ I) b1
theorem Rr(S F:Fm)(jH:∀τ,bT τ (b.bt+1000) (pS S F)=some (pS S F)):∀(n:Nat) (a:PF),a.dep<=n->a.dep<=190->dn P b r6 [pS S F,a.aO.A true,.af] (.a9 [a.aO.A false,.b true])
 |0,a,hd,_=>by cases a<;>simp[PF.dep] at hd
 |n+1,a,hd,jk=>λb1=>by
  have mW:∀ {x:PF},x∈a.subs->x.aO.dep<=200/\x.dep<=n/\x.dep<=190:=λ{x} hx=>by rw[PF.jd];have:=PF.kV hx;omega
  rw[mY];refine OV hb (cY.ok (cF:=.af) (cA:=.af)) (ad:=1000) _ fb.a1U.1 I I I ?_ ?_ (b9W cY.fn S F jH a fb.a1Q.h (λx hx=>(mW hx).1) fb.a1U.2 (λx hx=>cY.jv (Rr S F jH n x (mW hx).2.1 (mW hx).2.2) (c2r _ x) λr h=>h.c2l I x _ I) _ I) b1
  ·rw[w4,pE];refine jE λy hy=>?_;simp only[dF,gT,or_false] at hy;rcases hy with rfl|rfl
   ·exact Rp _ a (n:=999) (br _) U
   ·rfl
  ·rw[w4];refine(pH λy hy=>?_:fY (AV.eqb 999) [AV.ah (jr a.aO),.b true] [AV.ah (jr a.aO),.b true]=true);simp only[dF,gT,or_false] at hy;rcases hy with rfl|rfl
   ·exact(eU.tree (W:=λ_=>True) (J:=⟨.nil,0⟩) _ (br a.dep)).eqb _ (br _) (n:=999) U
   ·rfl
end
end Go.Lyc
end
noncomputable section
namespace Go.Lyc
set_option maxHeartbeats 0
open Go Go.RowKit Go.Lyc.T
section
variable [Tok]
def vC(k j:Nat)(o:Bool):List AV:=[.y (10*k+2+2*j),.y (10*k+3+2*j),.af,.gi o (10*k+j)]
def gG(k s:Nat)(o:Bool):List AV:=[.y (10*k),.y (10*k+1),.af,slA o (some 4) ((List.range s).map λj=>.ah (vC k j o))]
end
def a2d(x:PF)(r:Nat):AV:=cond (Nat.beq r 0) (.i .u8 (Int.ofNat x.op)) (.s x.b7)
def Rs(f g:PF)(i:Nat):PF:=cond (Nat.beq (i/10) 0) f g
abbrev eC(f g:PF):Tok:=⟨λi=>cond (Nat.blt (i%10) 2) (a2d (Rs f g i) (i%10)) (a2d ((Rs f g i).subs.getD ((i%10-2)/2) .cQ) ((i%10-2)%2)),λo i=>iH o ((Rs f g i).subs.getD (i%10) .cQ).aO.gy⟩
theorem lY(f g:PF): @TokOk (eC f g):=by
 letI:Tok:=eC f g
 refine⟨λ{w O B eE i old u} h=>?_,λ{w O B i u} h=>?_⟩
 ·exact Fj (λaF _ _ _=>⟨λh=>h,λh=>by cases h⟩) _ _ (lB _) u h
 ·exact Fj (λaF _ _ h=>⟨λh2=>by have:=h I;omega,h⟩) _ _ (lB _) u h
theorem PF.Rt{a x:PF}(h:x∈a.subs):x.dep<a.dep:=@PF.kV (eC .cQ .cQ) (lY _ _) _ _ h
theorem PF.BW(a:PF):a.subs.length<=2:=@PF.tP (eC .cQ .cQ) (lY _ _) a
theorem PF.xh(o:Bool)(a:PF):a.aO.cells o=[.i .u8 (Int.ofNat a.op),.s a.b7,.af,slA o (some 4) (a.subs.map λx=>x.aO.A o)]:=by
 rw[Fm.jV];cases a<;>rfl
theorem a2e(o:Bool)(a:PF):iH o a.aO.gy=slA o (some 4) (a.subs.map λx=>x.aO.A o):=by cases a<;>rfl
theorem bD.cells{T:Tok}{l m:List AV}(h:bD T (.ah l) (.ah m)):l.length=m.length/\∀i (h:i<l.length) (h':i<m.length),bD T l[i] m[i]:=by
 cases h with
 |ah _ _ hl h=>exact⟨hl,h⟩
theorem bD.ao{T:Tok}{o:Bool}{aa:Option Nat}{c d:List (List AV)}(hl:c.length=d.length)(h:∀i (h:i<c.length) (h':i<d.length),bD T (.ah c[i]) (.ah d[i])):bD T (slA o aa (c.map AV.ah)) (slA o aa (d.map AV.ah)):=by
 cases c with
 |nil=>
  obtain rfl:d=[]:=EG.1 hl.symm;exact .nil
 |cons x c=>
  cases d with
  |nil=>simp at hl
  |cons y d=>exact .a_ o aa (x::c) (y::d) hl (λi h1 h2=>(h i h1 h2).cells.1) λi h1 h2 j aC fw=>(h i h1 h2).cells.2 j aC fw
theorem bD.four{T:Tok}{a2 bm cx ep er dy dV fl:AV}(h1:bD T a2 er)(h2:bD T bm dy)(h3:bD T cx dV)(aQ:bD T ep fl):bD T (.ah [a2,bm,cx,ep]) (.ah [er,dy,dV,fl]):=.ah _ _ I λi h h'=>by
 match i,h with
 |0,_=>exact h1
 |1,_=>exact h2
 |2,_=>exact h3
 |3,_=>exact aQ
theorem bD.gn{T:Tok}(o:Bool):∀(d:Nat) (a:PF),a.dep<=d->bD T (a.aO.A o) (a.aO.A o)
 |0,a,hd=>by cases a<;>simp[PF.dep] at hd
 |d+1,a,hd=>by
  unfold Fm.A;rw[PF.xh];refine bD.four (.i _ _) (.s _) .nil ?_;have e:(a.subs.map λx=>x.aO.A o)=(a.subs.map λx=>x.aO.cells o).map AV.ah:=by rw[mm];rfl
  rw[e];refine bD.ao I λi h h'=>?_;rw[b0] at h;rw[e_];exact bD.gn o d a.subs[i] (by have:=PF.Rt (bJ h);omega)
section
variable {f g:PF}
def od(f g:PF)(k:Nat):PF:=cond (Nat.beq k 0) f g
theorem Ru(o:Bool){k j:Nat}(ay:k<2)(aC:j<2)(hx:j<(od f g k).subs.length):bD (eC f g) (.ah (vC k j o)) (((od f g k).subs[j]).aO.A o):=by
 have hg:(od f g k).subs.getD j .cQ=(od f g k).subs[j]:=by rw[fO,cK hx];rfl
 rw[<-hg];unfold Fm.A;rw[PF.xh,← a2e];have key:∀x:PF,(eC f g).pd o (10*k+j)=iH o x.aO.gy->bD (eC f g) (.gi o (10*k+j)) (iH o x.aO.gy):=λx e=>by
  refine .gi o _ _ ?_ ?_
  ·rw[e];cases x.aO.gy with
   |none=>exact .inl I
   |some l=>exact .inr ⟨_,_,rfl⟩
  ·rw[e];have:=bD.gn (T:=eC f g) o _ x (br _);unfold Fm.A at this;rw[PF.xh,← a2e] at this;exact this.cells.2 3 aG aG
 have bw:k=0\/k=1:=by omega
 have rQ:j=0\/j=1:=by omega
 rcases bw with rfl|rfl<;>rcases rQ with rfl|rfl
 all_goals exact bD.four (.y _ (.inl ⟨_,_,rfl⟩)) (.y _ (.inr ⟨_,rfl⟩)) .nil (key _ I)
theorem xi(o:Bool){k:Nat}(ay:k<2):bD (eC f g) (.ah (gG k (od f g k).subs.length o)) ((od f g k).aO.A o):=by
 have hl:=(od f g k).BW;have aQ:bD (eC f g) (slA o (some 4) ((List.range (od f g k).subs.length).map λj=>.ah (vC k j o))) (slA o (some 4) ((od f g k).subs.map λx=>x.aO.A o)):=by
  have aR:((List.range (od f g k).subs.length).map λj=>AV.ah (vC k j o))=((List.range (od f g k).subs.length).map λj=>vC k j o).map AV.ah:=by rw[mm];rfl
  have a6:((od f g k).subs.map λx=>x.aO.A o)=((od f g k).subs.map λx=>x.aO.cells o).map AV.ah:=by rw[mm];rfl
  rw[aR,a6];refine bD.ao aG λi h h'=>?_;rw[b0,lZ] at h;rw[e_,e_,qc];exact Ru o ay U h
 unfold Fm.A;rw[PF.xh];have bw:k=0\/k=1:=by omega
 rcases bw with rfl|rfl
 all_goals exact bD.four (.y _ (.inl ⟨_,_,rfl⟩)) (.y _ (.inr ⟨_,rfl⟩)) .nil aQ
end
inductive ua where
 |a
 |b
 |bin (k:Fin 3)
 |neg
 |cQ
def ua.gn(f g:PF):ua->PF
 | .a=>f
 | .b=>g
 | .bin k=>.bin k f g
 | .neg=>.neg f
 | .cQ=>.cQ
def ua.gv(s1 s2:Nat)(o:Bool):ua->List AV
 | .a=>gG 0 s1 o
 | .b=>gG 1 s2 o
 | .bin k=>[.i .u8 (Int.ofNat (4+k.val)),.s [],.af,.a_ o (some 4) [.ah (gG 0 s1 o),.ah (gG 1 s2 o)]]
 | .neg=>[.i .u8 3,.s [],.af,.a_ o (some 4) [.ah (gG 0 s1 o)]]
 | .cQ=>[.i .u8 2,.s [],.af,.af]
theorem ua.c3s(f g:PF)(o:Bool)(t:ua):bD (eC f g) (.ah (t.gv f.subs.length g.subs.length o)) ((t.gn f g).aO.A o):=by
 have h0:=xi (f:=f) (g:=g) o (k:=0) ca;have h1:=xi (f:=f) (g:=g) o (k:=1) ca;cases t with
 |a=>exact h0
 |b=>exact h1
 |bin k=>
  show bD _ _ (AV.ah ((PF.bin k f g).aO.cells o));rw[PF.xh];refine bD.four (.i _ _) (.s _) .nil ?_;exact bD.ao (o:=o) (aa:=some 4) (c:=[gG 0 f.subs.length o,gG 1 g.subs.length o]) (d:=[f.aO.cells o,g.aO.cells o]) I λi h h'=>by
   match i,h with
   |0,_=>exact h0
   |1,_=>exact h1
 |neg=>
  show bD _ _ (AV.ah ((PF.neg f).aO.cells o));rw[PF.xh];refine bD.four (.i _ _) (.s _) .nil ?_;exact bD.ao (o:=o) (aa:=some 4) (c:=[gG 0 f.subs.length o]) (d:=[f.aO.cells o]) I λi h h'=>by
   match i,h with
   |0,_=>exact h0
 |cQ=>exact bD.four (.i _ _) (.s _) .nil .nil
abbrev T.zf:Nat:=101
def rowM(r:Nat):List (Fm×ua):=match r with
 |0=>[(mA,.a),(c1,.b),(gm 0 mA c1,.bin 0)]
 |1=>[(gm 0 mA c1,.bin 0),(mA,.a)]
 |2=>[(gm 0 mA c1,.bin 0),(c1,.b)]
 |3=>[(mA,.a),(gm 1 mA c1,.bin 1)]
 |4=>[(c1,.b),(mA,.a),(gm 2 mA c1,.bin 2)]
 |5=>[(gm 2 mA c1,.bin 2),(mA,.a),(c1,.b)]
 |6=>[(m0,.cQ),(mA,.a),(re mA,.neg)]
 |7=>[(mA,.a),(re mA,.neg),(m0,.cQ)]
 |_=>[(m0,.cQ),(mA,.a)]
def m2(r:Nat):List (Fm×ua):=if r<6 then[(mA,.a),(c1,.b)] else[(mA,.a)]
abbrev Rv:=Nat×List AV×AV
def Rw(r s1 s2:Nat):List Rv:=
 (rowM r).map (λp=>(ki,[.ah (p.2.gv s1 s2 true)],.b true))++((rowM r).map (λp=>(zf,[p.1.A true],.b true))++((m2 r).map (λp=>(r6,[.ah (bA p.1++(p.2.gv s1 s2 true++[.af])),.ah (p.2.gv s1 s2 true),.af],.a9 [.ah (p.2.gv s1 s2 false),.b true]))++
 ((m2 r).map (λp=>(r8,[.ah (p.2.gv s1 s2 true),.ah (p.2.gv s1 s2 true),.af],.b true))++(m2 r).map (λp=>(wG,[.ah (p.2.gv s1 s2 true)],.ah (p.2.gv s1 s2 false))))))
def a2f(r s1 s2:Nat):List AV:=[.a_ true (some 8) ((rowM r).map λp=>.ah (bA p.1++p.2.gv s1 s2 true)),.ah [.af,.af]]
def a2g(r s1 s2:Nat):AV:=.a9 [.ah [.a_ false (some 5) ((m2 r).map λp=>.ah (.s p.1.name::p.2.gv s1 s2 false)),.af],ai 0,ai 0]
def a2h(b:b5)(r:Nat):Bool:=cP (λs1=>cP (λs2=>runsTo b (Rw r s1 s2) 100000 (nk,a2f r s1 s2,a2g r s1 s2)) [0,1,2]) [0,1,2]
def a2i(s:Nat):List Rv:=(List.range s).map λj=>(wG,[.ah (vC 0 j true)],.ah (vC 0 j false))
def a2j(b:b5):Bool:=cP (λs=>runsTo b (a2i s) 100000 (wG,[.ah (gG 0 s true)],.ah (gG 0 s false))) [0,1,2]
structure GivM(P:Program)(b:b5)(cF cA:AV):Prop where
 hb:∀T:Tok,@TokOk T→ @kg T P b
 fb:kZ b
 eB:∀T:Tok,@TokOk T→ @rh T P b cF cA
 leaf:Fk (b.env [])
 vf:∀T:Tok,@TokOk T->∀r<9,∀p∈rowM r,@dn T P b zf [p.1.A true] (.b true)
 Bw:∀r<9,a2h b r=true
 CT:a2j b=true
section
variable {P:Program}{b:b5}{cF cA:AV}(G:GivM P b cF cA)
theorem three{s:Nat}(h:s<3):s∈[0,1,2]:=by
 have:s=0\/s=1\/s=2:=by omega
 simpa using this
theorem dn.gv{T fk:Tok}(hl:Fk (b.env [])){g:Nat}{aY kY:List AV}{r cc:AV}(h1:aY.length=kY.length)(h:∀i (h:i<aY.length) (h':i<kY.length),bD T aY[i] kY[i])(al:bD T r cc): @dn T P b g aY r↔ @dn fk P b g kY cc:=⟨λh' b1=>(bD.entry hl h1 h al).1 (h' b1),λh' b1=>(bD.entry hl h1 h al).2 (h' b1)⟩
theorem bD.one{T:Tok}{x y:AV}(h:bD T x y):∀i (h:i<[x].length) (h':i<[y].length),bD T [x][i] [y][i]:=λi h1 h2=>by
 match i,h1 with
 |0,_=>exact h
include G in
theorem Rx:∀(d:Nat) (a:PF),a.dep<=d->∀fk:Tok,@dn fk P b wG [a.aO.A true] (a.aO.A false)
 |0,a,hd=>by cases a<;>simp[PF.dep] at hd
 |d+1,a,hd=>λfk=>by
  have gK:=a.BW;have ht:=xi (f:=a) (g:=a) true (k:=0) ca;have hf:=xi (f:=a) (g:=a) false (k:=0) ca;refine(dn.gv (T:=eC a a) G.leaf (aY:=[.ah (gG 0 a.subs.length true)]) (r:=.ah (gG 0 a.subs.length false)) (kY:=[a.aO.A true]) (cc:=a.aO.A false) I (bD.one ht) hf).1 ?_
  letI:Tok:=eC a a
  haveI:TokOk:=lY a a
  have iV:wk P b (a2i a.subs.length):=λe he b1=>by
   obtain⟨j,aC,rfl⟩:=dx.1 he;rw[IT] at aC;have h1:=Ru (f:=a) (g:=a) true (k:=0) (j:=j) ca U aC;have h2:=Ru (f:=a) (g:=a) false (k:=0) (j:=j) ca U aC;exact(dn.gv (T:=eC a a) (fk:=eC a a) G.leaf (aY:=[.ah (vC 0 j true)]) (r:=.ah (vC 0 j false)) (kY:=[(a.subs[j]).aO.A true]) (cc:=(a.subs[j]).aO.A false) I (bD.one h1) h2).2 (Rx d a.subs[j] (by have:=PF.Rt (bJ aC);omega) (eC a a)) b1
  have cb:=lg G.CT a.subs.length (three U);exact λb1=>iV.entry (G.hb _ (lY a a)) cb b1
end
theorem bD.mk{T:Tok}{l m:List AV}(hl:l.length=m.length)(h:∀i (h:i<l.length) (h':i<m.length),bD T l[i] m[i]):bD T (.ah l) (.ah m):=.ah _ _ hl h
theorem bD.app{T:Tok}{l m ct aW:List AV}(h:bD T (.ah l) (.ah m))(h':bD T (.ah ct) (.ah aW)):bD T (.ah (l++ct)) (.ah (m++aW)):=by
 obtain⟨a2,bm⟩:=h.cells;obtain⟨gC,lN⟩:=h'.cells;refine .mk (by rw[c4,c4];omega) λi h1 h2=>?_;by_cases hi:i<l.length
 ·rw[g9 hi,g9 U];exact bm i hi U
 ·rw[c4] at h1 h2;rw[ri U,ri U];have:=lN (i-l.length) U U;simp only[<-a2];exact this
theorem bD.cons{T:Tok}{x y:AV}{l m:List AV}(hx:bD T x y)(h:bD T (.ah l) (.ah m)):bD T (.ah (x::l)) (.ah (y::m)):=bD.app (l:=[x]) (m:=[y]) (.mk I (bD.one hx)) h
theorem bD.two{T:Tok}{x y eX ej:AV}(hx:bD T x y)(eY:bD T eX ej):∀i (h:i<[x,eX].length) (h':i<[y,ej].length),bD T [x,eX][i] [y,ej][i]:=λi h1 h2=>by
 match i,h1 with
 |0,_=>exact hx
 |1,_=>exact eY
theorem bD.three{T:Tok}{x y eX ej Ry Rz:AV}(hx:bD T x y)(eY:bD T eX ej)(c3t:bD T Ry Rz):∀i (h:i<[x,eX,Ry].length) (h':i<[y,ej,Rz].length),bD T [x,eX,Ry][i] [y,ej,Rz][i]:=λi h1 h2=>by
 match i,h1 with
 |0,_=>exact hx
 |1,_=>exact eY
 |2,_=>exact c3t
theorem zg(F:Fm):F.A true= .ah (bA F):=by unfold Fm.A;rw[Fm.jV]
theorem bD.Fl{T:Tok}(op:Nat)(n:List Nat):bD T (.ah (bA (.mk op n none none))) (.ah (bA (.mk op n none none))):=bD.four (.i _ _) (.s _) .nil .nil
theorem bD.a2k{T:Tok}(op:Nat)(n:List Nat)(l:List Fm)(a5:l≠[])(h:∀x∈l,bD T (.ah (bA x)) (.ah (bA x))):bD T (.ah (bA (.mk op n none (some l)))) (.ah (bA (.mk op n none (some l)))):=by
 refine bD.four (.i _ _) (.s _) .nil ?_;show bD T (.a_ true (some 4) (l.map (Fm.A true))) (.a_ true (some 4) (l.map (Fm.A true)));have e:l.map (Fm.A true)=(l.map bA).map AV.ah:=by rw[mm];exact uc λx _=>zg x
 rw[e];have:=bD.ao (T:=T) (o:=true) (aa:=some 4) (c:=l.map bA) (d:=l.map bA) I λi h1 h2=>by
  rw[b0] at h1;rw[e_];exact h _ (bJ h1)
 cases l with
 |nil=>exact absurd I a5
 |cons x l=>exact this
theorem bD.IV{T:Tok}{r:Nat}(al:r<9):∀p∈rowM r,bD T (.ah (bA p.1)) (.ah (bA p.1)):=by
 have hA:bD T (.ah (bA mA)) (.ah (bA mA)):=bD.Fl _ _;have b3:bD T (.ah (bA c1)) (.ah (bA c1)):=bD.Fl _ _;have b4:bD T (.ah (bA m0)) (.ah (bA m0)):=bD.Fl _ _;have BX:∀k,bD T (.ah (bA (gm k mA c1))) (.ah (bA (gm k mA c1))):=λk=>bD.a2k _ _ [mA,c1] aG λx hx=>by
  have hx:x=mA\/x=c1:=by simpa using hx
  rcases hx with rfl|rfl
  ·exact hA
  ·exact b3
 have ed:bD T (.ah (bA (re mA))) (.ah (bA (re mA))):=bD.a2k _ _ [mA] aG λx hx=>by rw[show x=mA by simpa using hx];exact hA
 have:r=0\/r=1\/r=2\/r=3\/r=4\/r=5\/r=6\/r=7\/r=8:=by omega
 rcases this with rfl|rfl|rfl|rfl|rfl|rfl|rfl|rfl|rfl<;>intro p au<;>simp only[rowM,dF,gT,or_false] at au
 ·rcases au with rfl|rfl|rfl<;>first|exact hA|exact b3|exact BX _
 ·rcases au with rfl|rfl<;>first|exact hA|exact b3|exact BX _
 ·rcases au with rfl|rfl<;>first|exact hA|exact b3|exact BX _
 ·rcases au with rfl|rfl<;>first|exact hA|exact b3|exact BX _
 ·rcases au with rfl|rfl|rfl<;>first|exact hA|exact b3|exact BX _
 ·rcases au with rfl|rfl|rfl<;>first|exact hA|exact b3|exact BX _
 ·rcases au with rfl|rfl|rfl<;>first|exact hA|exact b4|exact ed
 ·rcases au with rfl|rfl|rfl<;>first|exact hA|exact b4|exact ed
 ·rcases au with rfl|rfl<;>first|exact hA|exact b4|exact ed
theorem RA{r:Nat}:∀p∈m2 r,(p=(mA,.a)\/p=(c1,.b)):=λp au=>by
 unfold m2 at au;split at au
 ·simpa using au
 ·exact .inl (by simpa using au)
theorem a2l:∀(d:Nat) (a:PF) {n:Nat},a.dep<=d->2*d+2<=n->∀x∈a.aO.cells false,AV.eqb n x x=true
 |0,a,_,hd,_=>by cases a<;>simp[PF.dep] at hd
 |d+1,a,n,hd,hn=>λx hx=>by
  obtain⟨n,rfl⟩:∃m,n=m+2:=⟨n-2,U⟩
  rw[PF.xh] at hx;simp only[dF,gT,or_false] at hx
  letI:Tok:=eC .cQ .cQ
  haveI:TokOk:=lY .cQ .cQ
  rcases hx with rfl|rfl|rfl|rfl
  ·exact e1 I
  ·exact e1 I
  ·exact e1 I
  ·cases an:a.subs with
   |nil=>rfl
   |cons y l=>
    refine EI λz bb=>?_;have bb:z∈(y::l).map λx=>x.aO.A false:=bb;obtain⟨c,ab,rfl⟩:=dx.1 bb;exact w5 λv av=>a2l d c (by have:=PF.Rt (a:=a) (x:=c) (by rw[an];exact ab);omega) U v av
section
variable {P:Program}{b:b5}{cF cA:AV}(G:GivM P b cF cA)
include G in
theorem c3u{r:Nat}(al:r<9){f g:PF}(hf:f.low)(hg:g.low)(kp:∀p∈rowM r,(p.2.gn f g).low)(fk:Tok):∃res,@dn fk P b nk [.a_ true (some 8) ((rowM r).map λp=>jo (p.1,(p.2.gn f g).aO)),.ah [.af,.af]] res/\Re res:=by
 have ji:=f.BW;have n2:=g.BW;have jq:∀o (t:ua),bD (eC f g) (.ah (t.gv f.subs.length g.subs.length o)) ((t.gn f g).aO.A o):=λo t=>ua.c3s f g o t;refine⟨.a9 [.ah [.a_ false (some 5) ((m2 r).map λp=>.ah (.s p.1.name::(p.2.gn f g).aO.cells false)),.af],ai 0,ai 0],(dn.gv (T:=eC f g) G.leaf (aY:=a2f r f.subs.length g.subs.length) (r:=a2g r f.subs.length g.subs.length) (kY:=[.a_ true (some 8) ((rowM r).map λp=>jo (p.1,(p.2.gn f g).aO)),.ah [.af,.af]]) I ?_ ?_).1 ?_,_,rfl,λJ=>rfl,λn=>?_,λn=>?_⟩
 ·refine bD.two ?_ (.mk I (bD.two .nil .nil));have aR:((rowM r).map λp=>AV.ah (bA p.1++p.2.gv f.subs.length g.subs.length true))=((rowM r).map λp=>bA p.1++p.2.gv f.subs.length g.subs.length true).map AV.ah:=by rw[mm];rfl
  have a6:((rowM r).map λp=>jo (p.1,(p.2.gn f g).aO))=((rowM r).map λp=>bA p.1++bA (p.2.gn f g).aO).map AV.ah:=by rw[mm];rfl
  rw[aR,a6];have hall:∀i (h:i<(rowM r).length),bD (eC f g) (.ah (bA (rowM r)[i].1++(rowM r)[i].2.gv f.subs.length g.subs.length true)) (.ah (bA (rowM r)[i].1++bA ((rowM r)[i].2.gn f g).aO)):=λi h=>(bD.IV al _ (bJ h)).app (by have:=jq true (rowM r)[i].2;rwa[zg] at this);refine .a_ _ _ _ _ (by rw[b0,b0]) (λi h1 h2=>?_) λi h1 h2 j aC fw=>?_
  ·rw[b0] at h1;rw[e_,e_];exact(hall i h1).cells.1
  ·rw[b0] at h1;have:=(hall i h1).cells.2 j (by rwa[e_] at aC) (by rwa[e_] at fw);simpa only[e_] using this
 ·refine .a9 _ _ I (bD.three (.mk I (bD.two ?_ .nil)) (.i _ _) (.i _ _));have aR:((m2 r).map λp=>AV.ah (.s p.1.name::p.2.gv f.subs.length g.subs.length false))=((m2 r).map λp=>.s p.1.name::p.2.gv f.subs.length g.subs.length false).map AV.ah:=by rw[mm];rfl
  have a6:((m2 r).map λp=>AV.ah (.s p.1.name::(p.2.gn f g).aO.cells false))=((m2 r).map λp=>.s p.1.name::(p.2.gn f g).aO.cells false).map AV.ah:=by rw[mm];rfl
  rw[aR,a6];have hall:∀i (h:i<(m2 r).length),bD (eC f g) (.ah (.s (m2 r)[i].1.name::(m2 r)[i].2.gv f.subs.length g.subs.length false)) (.ah (.s (m2 r)[i].1.name::((m2 r)[i].2.gn f g).aO.cells false)):=λi h=>bD.cons (.s _) (jq false _);refine .a_ _ _ _ _ (by rw[b0,b0]) (λi h1 h2=>?_) λi h1 h2 j aC fw=>?_
  ·rw[b0] at h1;rw[e_,e_];exact(hall i h1).cells.1
  ·rw[b0] at h1;have:=(hall i h1).cells.2 j (by rwa[e_] at aC) (by rwa[e_] at fw);simpa only[e_] using this
 ·letI:Tok:=eC f g
  haveI:TokOk:=lY f g
  have cb:=lg (lg (G.Bw r al) f.subs.length (three U)) g.subs.length (three U);have iV:wk P b (Rw r f.subs.length g.subs.length):=λe he b1=>by
   unfold Rw at he;have kM:∀p∈m2 r,(p.2.gn f g).low/\(p.1=mA\/p.1=c1):=λp au=>by
    rcases RA p au with rfl|rfl
    ·exact⟨hf,.inl I⟩
    ·exact⟨hg,.inr I⟩
   rcases eP.1 he with he|he
   ·obtain⟨p,au,rfl⟩:=dx.1 he;exact(dn.gv (T:=eC f g) (fk:=eC f g) G.leaf (aY:=[.ah (p.2.gv f.subs.length g.subs.length true)]) (kY:=[(p.2.gn f g).aO.A true]) I (bD.one (jq true _)) (.b true)).2 ((G.eB _ (lY f g)).right _ (kp p au)) b1
   rcases eP.1 he with he|he
   ·obtain⟨p,au,rfl⟩:=dx.1 he;exact G.vf _ (lY f g) r al p au b1
   rcases eP.1 he with he|he
   ·obtain⟨p,au,rfl⟩:=dx.1 he;obtain⟨h1,h2⟩:=kM p au;have hd:=h1.1;have jH:∀τ,bT τ (b.bt+1000) (pS p.1 (p.2.gn f g).aO)=some (pS p.1 (p.2.gn f g).aO):=λτ=>by
     refine pL (k:=b.bt+999) (tK ?_ (tK (BS (by rw[PF.jd];omega)) I));rcases h2 with e|e<;>rw[e]<;>rfl
    have cW:bD (eC f g) (.ah (bA p.1)) (.ah (bA p.1)):=by rcases h2 with e|e<;>rw[e]<;>exact bD.Fl _ _
    have cU:=Rr (G.hb _ (lY f g)) G.fb p.1 (p.2.gn f g).aO jH _ (p.2.gn f g) (br _) U;have ht:=jq true p.2;refine(dn.gv (T:=eC f g) (fk:=eC f g) G.leaf (aY:=[.ah (bA p.1++(p.2.gv f.subs.length g.subs.length true++[.af])),.ah (p.2.gv f.subs.length g.subs.length true),.af]) (r:=.a9 [.ah (p.2.gv f.subs.length g.subs.length false),.b true]) (kY:=[pS p.1 (p.2.gn f g).aO,(p.2.gn f g).aO.A true,.af]) (cc:=.a9 [(p.2.gn f g).aO.A false,.b true]) I (bD.three (cW.app (bD.app (by rwa[zg] at ht) (.mk I (bD.one .nil)))) ht .nil) (.a9 _ _ I (bD.two (jq false _) (.b _)))).2 cU b1
   rcases eP.1 he with he|he
   ·obtain⟨p,au,rfl⟩:=dx.1 he;obtain⟨h1,h2⟩:=kM p au;have hd:=h1.1;have cU:=Rq (G.hb _ (lY f g)) G.fb _ (p.2.gn f g) (p.2.gn f g) (br _) U U;rw[decide_eq_true I] at cU;exact(dn.gv (T:=eC f g) (fk:=eC f g) G.leaf (aY:=[.ah (p.2.gv f.subs.length g.subs.length true),.ah (p.2.gv f.subs.length g.subs.length true),.af]) (kY:=[(p.2.gn f g).aO.A true,(p.2.gn f g).aO.A true,.af]) I (bD.three (jq true _) (jq true _) .nil) (.b true)).2 cU b1
   ·obtain⟨p,au,rfl⟩:=dx.1 he;exact(dn.gv (T:=eC f g) (fk:=eC f g) G.leaf (aY:=[.ah (p.2.gv f.subs.length g.subs.length true)]) (r:=.ah (p.2.gv f.subs.length g.subs.length false)) (kY:=[(p.2.gn f g).aO.A true]) (cc:=(p.2.gn f g).aO.A false) I (bD.one (jq true _)) (jq false _)).2 (Rx G _ _ (br _) (eC f g)) b1
  exact λb1=>iV.entry (G.hb _ (lY f g)) cb b1
 ·letI:Tok:=eC .cQ .cQ
  haveI:TokOk:=lY .cQ .cQ
  refine EI (n:=n+499) λz bb=>?_;obtain⟨p,au,rfl⟩:=dx.1 bb;have hd:(p.2.gn f g).dep<=38:=by
   rcases RA p au with rfl|rfl
   ·exact hf.1
   ·exact hg.1
  refine w5 (n:=n+498) λv av=>?_;rcases dF.1 av with rfl|av
  ·exact e1 I
  ·exact a2l _ _ (br _) U v av
 ·letI:Tok:=eC .cQ .cQ
  haveI:TokOk:=lY .cQ .cQ
  rw[show n+500=n+499+1 from rfl,pE];refine jE λz bb=>?_;obtain⟨p,au,rfl⟩:=dx.1 bb;have hd:(p.2.gn f g).dep<=38:=by
   rcases RA p au with rfl|rfl
   ·exact hf.1
   ·exact hg.1
  refine jE λv av=>?_;rcases dF.1 av with rfl|av
  ·rfl
  ·have h:=Rp _ (p.2.gn f g) (n:=n+500) (br _) U;rw[<-w4,pE] at h;exact lg h v av
end
end Go.Lyc
end
noncomputable section
namespace Go.Lyc
set_option maxHeartbeats 0
variable [Tok][TokOk]
open Go.RowKit Go.Lyc.T
section
variable {P:Program}{b:b5}{cF cA:AV}(G:GivM P b cF cA)
abbrev a2m(gs:List dN):Prop:=∀x∈gs,x.hyps.length<=1/\x.fz.dep<=38/\(∀h∈x.hyps,∃a:PF,h=a.aO/\a.low)/\(∃a:PF,x.fz=a.aO/\a.low)/\(∀h∈x.rest,∃a:PF,h=a.aO/\a.low)
structure Fo(r:dj)(F:PF)(gs:List dN)(k:Nat)(f g:PF):Prop where
 Gs:k<9
 Bi:(nv r F.aO gs).map jo=(rowM k).map λp=>jo (p.1,(p.2.gn f g).aO)
 ne:(nv r F.aO gs)≠[]
 low:f.low/\g.low/\∀p∈rowM k,(p.2.gn f g).low
 c3v:r∈iz
 aE:∀p∈r.cS,p.closed=false
 c:Ez r gs
 hy:a2m gs
theorem BY:PF.low .cQ:=⟨ca,ca⟩
theorem sy.one{gs:List dN}{p:PF×List PF}(h:sy gs [p]):∃g,gs=[g]/\oc g p:=by
 cases h with
 |cons h1 h2=>cases h2;exact⟨_,rfl,h1⟩
theorem sy.two{gs:List dN}{p q:PF×List PF}(h:sy gs [p,q]):∃g ti,gs=[g,ti]/\oc g p/\oc ti q:=by
 cases h with
 |cons h1 h2=>cases h2 with
  |cons h2 h3=>cases h3;exact⟨_,_,rfl,h1,h2⟩
theorem oc.hy{g:dN}{p:PF×List PF}(h:oc g p)(hl:p.2.length<=1):g.hyps.length<=1/\g.fz.dep<=38/\(∀h∈g.hyps,∃a:PF,h=a.aO/\a.low)/\(∃a:PF,g.fz=a.aO/\a.low)/\(∀h∈g.rest,∃a:PF,h=a.aO/\a.low):=
 ⟨by rw[h.hyps,b0];exact hl,by rw[h.fz,PF.jd];exact h.low.1.1,λx hx=>by rw[h.hyps] at hx;obtain⟨a,ha,rfl⟩:=dx.1 hx;exact⟨a,rfl,h.low.2 a ha⟩,⟨p.1,h.fz,h.low.1⟩,h.rest⟩
theorem a2n{r:dj}{F:Fm}{gs:List dN}:nv r F gs≠[]:=by simp[nv]
theorem Fo.one{r:dj}{F:PF}{x:dN}{p:PF×List PF}{k:Nat}{f g:PF}{pm:e7}(hx:oc x p)(au:p.2.length<=1)(al:r.cS=[pm])(kM:pm.hyps.length=p.2.length)(gq:pm.closed=false)(zh:r∈iz)(ay:k<9)(ED:(nv r F.aO [x]).map jo=(rowM k).map λp=>jo (p.1,(p.2.gn f g).aO))(kp:f.low/\g.low/\∀p∈rowM k,(p.2.gn f g).low):Fo r F [x] k f g:=by
 have hh:=hx.hy au;refine⟨ay,ED,a2n,kp,zh,λq aX=>?_,⟨by rw[al];rfl,sL (show _<=2 from by simp) ca,λi h h'=>?_,λz bb=>?_⟩,λz bb=>?_⟩
 ·rw[al] at aX;rw[cu.1 aX];exact gq
 ·simp only[al] at h' ⊢
  match i,h with
  |0,_=>show x.hyps.length=pm.hyps.length;rw[kM,hx.hyps,b0]
 ·rw[cu.1 bb];exact⟨U,by have:=hx.len;omega⟩
 ·rw[cu.1 bb];exact hh
theorem Fo.two{r:dj}{F:PF}{x y:dN}{p q:PF×List PF}{k:Nat}{f g:PF}{pm Fp:e7}(hx:oc x p)(hy:oc y q)(au:p.2=[])(aX:q.2=[])(al:r.cS=[pm,Fp])(kM:pm.hyps=[]/\Fp.hyps=[])(gq:pm.closed=false/\Fp.closed=false)(zh:r∈iz)(ay:k<9)(ED:(nv r F.aO [x,y]).map jo=(rowM k).map λp=>jo (p.1,(p.2.gn f g).aO))(kp:f.low/\g.low/\∀p∈rowM k,(p.2.gn f g).low):Fo r F [x,y] k f g:=by
 have hh:=hx.hy (by rw[au];decide);have CM:=hy.hy (by rw[aX];decide);have aR:x.hyps=[]:=by rw[hx.hyps,au];rfl
 have a6:y.hyps=[]:=by rw[hy.hyps,aX];rfl
 refine⟨ay,ED,a2n,kp,zh,λq aX=>?_,⟨by rw[al];rfl,sL (show _<=2 from by simp) ca,λi h h'=>?_,λz bb=>?_⟩,λz bb=>?_⟩
 ·rw[al] at aX;have aX:q=pm\/q=Fp:=by simpa using aX
  rcases aX with rfl|rfl
  ·exact gq.1
  ·exact gq.2
 ·simp only[al] at h' ⊢
  match i,h with
  |0,_=>show x.hyps.length=pm.hyps.length;rw[kM.1,aR]
  |1,_=>show y.hyps.length=Fp.hyps.length;rw[kM.2,a6]
 ·have bb:z=x\/z=y:=by simpa using bb
  rcases bb with rfl|rfl
  ·exact⟨U,by have:=hx.len;omega⟩
  ·exact⟨U,by have:=hy.len;omega⟩
 ·have bb:z=x\/z=y:=by simpa using bb
  rcases bb with rfl|rfl
  ·exact hh
  ·exact CM
theorem o2.row{r:dj}{F:PF}{aE:List (PF×List PF)}{gs:List dN}(h:o2 r F aE)(b4:F.low)(hg:sy gs aE):∃k f g,Fo r F gs k f g:=by
 cases h with
 |and f g=>
  obtain⟨x,y,rfl,hx,hy⟩:=hg.two;obtain⟨gC,h1,iq⟩:=x;obtain⟨lN,h2,l4⟩:=y;obtain rfl:=hx.fz;obtain rfl:=hy.fz;obtain rfl:=hx.hyps;obtain rfl:=hy.hyps;refine⟨0,f,g,.two hx hy I I I ⟨rfl,rfl⟩ ⟨rfl,rfl⟩ (by simp[iz]) ca I ⟨hx.low.1,hy.low.1,λp au=>?_⟩⟩;have au:p=(mA,.a)\/p=(c1,.b)\/p=(gm 0 mA c1,.bin 0):=by simpa [rowM] using au
  rcases au with rfl|rfl|rfl
  ·exact hx.low.1
  ·exact hy.low.1
  ·exact b4
 |jt q f g=>
  obtain⟨x,rfl,hx⟩:=hg.one;obtain⟨gC,h1,iq⟩:=x;obtain rfl:=hx.fz;obtain rfl:=hx.hyps;have hb:(PF.bin 0 f g).low:=hx.low.1;have ji:max f.dep g.dep+1<=38:=hb.1;have n2:f.bS+g.bS+1<=380:=hb.2;have hf:f.low:=⟨U,U⟩
  have tS:g.low:=⟨U,U⟩
  cases q with
  |false=>
   refine⟨1,f,g,.one hx aG I I I (by simp[iz]) ca I ⟨hf,tS,λp au=>?_⟩⟩;have au:p=(gm 0 mA c1,.bin 0)\/p=(mA,.a):=by simpa [rowM] using au
   rcases au with rfl|rfl
   ·exact hb
   ·exact hf
  |true=>
   refine⟨2,f,g,.one hx aG I I I (by simp[iz]) ca I ⟨hf,tS,λp au=>?_⟩⟩;have au:p=(gm 0 mA c1,.bin 0)\/p=(c1,.b):=by simpa [rowM] using au
   rcases au with rfl|rfl
   ·exact hb
   ·exact tS
 |or f g=>
  obtain⟨x,rfl,hx⟩:=hg.one;obtain⟨gC,h1,iq⟩:=x;obtain rfl:=hx.fz;obtain rfl:=hx.hyps;have ji:max f.dep g.dep+1<=38:=b4.1;have n2:f.bS+g.bS+1<=380:=b4.2;refine⟨3,f,g,.one hx aG I I I (by simp[iz]) ca I ⟨hx.low.1,⟨U,U⟩,λp au=>?_⟩⟩;have au:p=(mA,.a)\/p=(gm 1 mA c1,.bin 1):=by simpa [rowM] using au
  rcases au with rfl|rfl
  ·exact hx.low.1
  ·exact b4
 |QZ f g=>
  obtain⟨x,rfl,hx⟩:=hg.one;obtain⟨gC,h1,iq⟩:=x;obtain rfl:=hx.fz;obtain rfl:=hx.hyps;have hf:f.low:=hx.low.2 f aG;refine⟨4,f,g,.one hx aG I I I (by simp[iz]) ca I ⟨hf,hx.low.1,λp au=>?_⟩⟩;have au:p=(c1,.b)\/p=(mA,.a)\/p=(gm 2 mA c1,.bin 2):=by simpa [rowM] using au
  rcases au with rfl|rfl|rfl
  ·exact hx.low.1
  ·exact hf
  ·exact b4
 |w9 f g=>
  obtain⟨x,y,rfl,hx,hy⟩:=hg.two;obtain⟨gC,h1,iq⟩:=x;obtain⟨lN,h2,l4⟩:=y;obtain rfl:=hx.fz;obtain rfl:=hy.fz;obtain rfl:=hx.hyps;obtain rfl:=hy.hyps;refine⟨5,f,F,.two hx hy I I I ⟨rfl,rfl⟩ ⟨rfl,rfl⟩ (by simp[iz]) ca I ⟨hy.low.1,b4,λp au=>?_⟩⟩;have au:p=(gm 2 mA c1,.bin 2)\/p=(mA,.a)\/p=(c1,.b):=by simpa [rowM] using au
  rcases au with rfl|rfl|rfl
  ·exact hx.low.1
  ·exact hy.low.1
  ·exact b4
 |a1p f=>
  obtain⟨x,rfl,hx⟩:=hg.one;obtain⟨gC,h1,iq⟩:=x;obtain rfl:=hx.fz;obtain rfl:=hx.hyps;have hf:f.low:=hx.low.2 f aG;refine⟨6,f,.cQ,.one hx aG I I I (by simp[iz]) ca I ⟨hf,BY,λp au=>?_⟩⟩;have au:p=(m0,.cQ)\/p=(mA,.a)\/p=(re mA,.neg):=by simpa [rowM] using au
  rcases au with rfl|rfl|rfl
  ·exact BY
  ·exact hf
  ·exact b4
 |w_ f=>
  obtain⟨x,y,rfl,hx,hy⟩:=hg.two;obtain⟨gC,h1,iq⟩:=x;obtain⟨lN,h2,l4⟩:=y;obtain rfl:=hx.fz;obtain rfl:=hy.fz;obtain rfl:=hx.hyps;obtain rfl:=hy.hyps;refine⟨7,f,.cQ,.two hx hy I I I ⟨rfl,rfl⟩ ⟨rfl,rfl⟩ (by simp[iz]) ca I ⟨hx.low.1,BY,λp au=>?_⟩⟩;have au:p=(mA,.a)\/p=(re mA,.neg)\/p=(m0,.cQ):=by simpa [rowM] using au
  rcases au with rfl|rfl|rfl
  ·exact hx.low.1
  ·exact hy.low.1
  ·exact BY
 |y6=>
  obtain⟨x,rfl,hx⟩:=hg.one;obtain⟨gC,h1,iq⟩:=x;obtain rfl:=hx.fz;obtain rfl:=hx.hyps;refine⟨8,F,.cQ,.one hx aG I I I (by simp[iz]) ca I ⟨b4,BY,λp au=>?_⟩⟩;have au:p=(m0,.cQ)\/p=(mA,.a):=by simpa [rowM] using au
  rcases au with rfl|rfl
  ·exact BY
  ·exact b4
end
theorem c3w{J:ae}{n:Nat}{F:Fm}(h:2*F.dep+3<=n):bT J n (.ah (bA F))=some (.ah (bA F)):=by
 obtain⟨n,rfl⟩:∃m,n=m+1:=⟨n-1,U⟩
 exact pL (BS U)
theorem a2o{J:ae}{n:Nat}{g:dN}(h1:g.fz.dep<=200)(h2:∀F∈g.hyps,F.dep<=200)(h3:∀F∈g.rest,F.dep<=200)(hn:900<=n):bT J n g.A=some g.A:=by
 obtain⟨n,rfl⟩:∃m,n=m+3:=⟨n-3,U⟩
 have a2:mapO (bT J (n+2)) (bA g.fz)=some (bA g.fz):=BS U;have bm:bT J (n+2) (slA true (some 5) (g.hyps.map sf))=some (slA true (some 5) (g.hyps.map sf)):=BR λF b4=>by
  have:=h2 F b4;refine pL (k:=n) ?_;rw[mapO_cons,BS U];cases n with
  |zero=>omega
  |succ n=>rfl
 have cx:bT J (n+2) (slA true (some 4) (g.rest.map λF=>.ah (bA F)))=some (slA true (some 4) (g.rest.map λF=>.ah (bA F))):=BR λF b4=>c3w (by have:=h3 F b4;omega);refine pL (tK a2 ?_);rw[mapO_cons,mapO_cons,bm,cx];rfl
theorem c3x{b:b5}:∀r∈iz,(∀J,bT J (b.bt+1000) r.A=some r.A)/\(∀J,bT J (b.bt+1000) (slA true (some 7) (r.cS.map e7.A))=some (slA true (some 7) (r.cS.map e7.A)))/\(∀p∈r.cS,∀J,bT J (b.bt+1000) p.A=some p.A)/\r.fz.dep<=10/\(∀p∈r.cS,p.f.dep<=10/\∀h∈p.hyps,h.dep<=10):=by
 intro r al;simp only[iz,dF,gT,or_false] at al;rcases al with rfl|rfl|rfl|rfl|rfl|rfl|rfl|rfl|rfl|rfl|rfl<;>refine⟨λJ=>rfl,λJ=>rfl,?_,ca,?_⟩<;>intro p au
 all_goals (
  simp only[QT,E7,QU,a1n,a1o,rf,QV,QW,QX,QY,dF,gT,or_false] at au
  first
   |(rcases au with rfl|rfl|rfl<;>first|exact λJ=>rfl|exact⟨ca,ca⟩)
   |(rcases au with rfl|rfl<;>first|exact λJ=>rfl|exact⟨ca,ca⟩)
   |(rcases au with rfl<;>first|exact λJ=>rfl|exact⟨ca,ca⟩))
theorem kZ.aL{b:b5}{K:Nat->List AV->AV->Prop}(fb:kZ b):Bv b K:=⟨fb.c3a.h,fb.c3b.h,fb.c3c.h,fb.c3d.h,fb.c3e.h,fb.c3f.h⟩
theorem kZ.ap{b:b5}{K:Nat->List AV->AV->Prop}(fb:kZ b):a0f b K:=⟨fb.c2U.h,fb.c2V.h,fb.c2W.h,fb.c2X.h,fb.c2Y.h,fb.c2Z.h,fb.aL,fb.vB I,fb.vB I,fb.vB I⟩
theorem c3y{r:dj}{F:Fm}{gs:List dN}{n:Nat}(h0:1<=n)(ab:r.fz.dep<=n)(b4:F.dep<=n)(au:∀p∈r.cS,p.f.dep<=n/\∀h∈p.hyps,h.dep<=n)(hg:∀g∈gs,g.fz.dep<=n/\∀h∈g.hyps,h.dep<=n):∀p∈nv r F gs,p.1.dep<=n/\p.2.dep<=n:=by
 have d0:EA.dep<=n:=by
  have:EA.dep=1:=by decide
  omega
 have a2p:∀i,(r.cS.getD i mX).f.dep<=n/\∀h∈(r.cS.getD i mX).hyps,h.dep<=n:=λi=>by
  rw[fO];cases h:r.cS[i]? with
  |none=>exact⟨d0,λh hh=>by simp[mX] at hh⟩
  |some p=>exact au p (hH h)
 have a2q:∀i,(gs.getD i j0).fz.dep<=n/\∀h∈(gs.getD i j0).hyps,h.dep<=n:=λi=>by
  rw[fO];cases h:gs[i]? with
  |none=>exact⟨d0,λh hh=>by simp[j0] at hh⟩
  |some p=>exact hg p (hH h)
 have hl:∀ {l:List Fm} {i:Nat},(∀h∈l,h.dep<=n)->(l.getD i EA).dep<=n:=λ{l i} h=>by
  rw[fO];cases hx:l[i]? with
  |none=>exact d0
  |some p=>exact h p (hH hx)
 have h2:∀j,∀p∈pr2 r gs j,p.1.dep<=n/\p.2.dep<=n:=λj=>by
  induction j with
  |zero=>intro p au;simp[pr2] at au
  |succ j aH=>
   intro p au;rw[pr2] at au;rcases eP.1 au with au|au
   ·exact aH p au
   ·obtain⟨t,_,rfl⟩:=dx.1 au;exact⟨hl (a2p j).2,hl (a2q j).2⟩
 intro p au;unfold nv at au;rcases eP.1 au with au|au
 ·rcases eP.1 au with au|au
  ·obtain⟨i,_,rfl⟩:=dx.1 au;exact⟨(a2p i).1,(a2q i).1⟩
  ·exact h2 _ p au
 ·rw[cu.1 au];exact⟨ab,b4⟩
section
variable {P:Program}{b:b5}{cF cA:AV}(G:GivM P b cF cA)
include G in
theorem a2r{K:Nat->List AV->AV->Prop}(hb:kg P b)(eB:rh P b cF cA)(hfn:∀g aY r cc,K g aY r->K g aY cc->r=cc)(nY:tm P b K)(hle:∀g aY r,cY P b cF cA g aY r->K g aY r){r:dj}{F:PF}{gs:List dN}(b4:F.low)(zh:r∈iz)(jH:∀p∈r.cS,p.closed=false)(ab:Ez r gs)(hy:a2m gs)
  {ck:AV} {at_ e:Nat} (b_:K nk [slA true (some 8) ((nv r F.aO gs).map jo),.ah [.af,.af]] (.a9 [.ah [ck,.af],ai at_,ai e])) (fE:e≠0->at_<(yY r gs).length) (hfz:∀J,freeze J 0 998 ck=some ck) (heq:∀n,AV.eqb (n+500) ck ck=true) (bC:∀n,fQ (n+500) ck=true):
  ∃ck eS cy cz ax,dn P b oR [r.A,F.aO.A true,gZ gs] (.a9 [.ah [ck,eS],.ah [.i .u8 (Int.ofNat cy),ai cz,ai ax],ai (if e=0 then 0 else 80)]):=by
 obtain⟨s1,s2,ey,bd,ie⟩:=c3x (b:=b) r zh;have xj:∀x∈gs,x.fz.dep<=200/\(∀h∈x.hyps,h.dep<=200)/\∀h∈x.rest,h.dep<=200:=λx hx=>by
  obtain⟨a2,bm,cx,ep,eW⟩:=hy x hx;refine⟨U,λh hh=>?_,λh hh=>?_⟩
  ·obtain⟨c,rfl,ab⟩:=cx h hh;rw[PF.jd];have:=ab.1;omega
  ·obtain⟨c,rfl,ab⟩:=eW h hh;rw[PF.jd];have:=ab.1;omega
 have c8w:=b4.1;have y0:AV.eqb (b.bt+1000) (.ah [ck,.af]) (.ah [ck,.af])=true:=w5 (n:=b.bt+999) λx hx=>by
  have hx:x=ck\/x= .af:=by simpa using hx
  rcases hx with rfl|rfl
  ·exact heq (b.bt+499)
  ·exact e1 I
 have q7:∀ {x:dN},x∈gs->x.hyps.length<2^10:=λ{x} hx=>by have:=(hy x hx).1;omega
 have ld:gs.length<2^10:=by
  rw[ab.len];have:∀r∈iz,r.cS.length<2^10:=by decide
  exact this r zh
 have hw:=λbody iB=>b9H hfn (K:=K) G.fb.ap ab ld (λx hx=>q7 hx) (at_:=at_) (e:=e) ⟨s2,ey,λJ=>BR (n:=b.bt+999) λx hx=>a2o (xj x hx).1 (xj x hx).2.1 (xj x hx).2.2 U,λx hx J=>a2o (xj x hx).1 (xj x hx).2.1 (xj x hx).2.2 U⟩ s1 (c3y ca U (by rw[PF.jd];omega) (λp au=>⟨by have:=(ie p au).1;omega,λh hh=>by have:=(ie p au).2 h hh;omega⟩) λx hx=>⟨(xj x hx).1,(xj x hx).2.1⟩) fE b_ y0 hfz jH (hle _ _ _ (cY.jv (eB.rE r zh) (t_ ca) λr h=>h.tZ ca)) (λh hh=>by
  have key:∀a:PF,a.low->a.aO.dep<=200/\K ki [a.aO.A true] (.b true):=λa ha=>⟨by rw[PF.jd];have:=ha.1;omega,hle _ _ _ (cY.jv (eB.right a ha) (t_ ca) λr h=>h.tZ ca)⟩
  rcases dF.1 hh with rfl|hh
  ·exact key F b4
  ·obtain⟨x,hx,hh⟩:=zu.1 hh;obtain⟨a2,bm,cx,⟨c,ep,Et⟩,eW⟩:=hy x hx;rcases dF.1 hh with rfl|hh
   ·rw[ep];exact key c Et
   ·rcases eP.1 hh with hh|hh
    ·obtain⟨c,rfl,ab⟩:=cx h hh;exact key c ab
    ·obtain⟨c,rfl,ab⟩:=eW h hh;exact key c ab) body iB
 by_cases he:e=0
 ·rw[if_pos he] at hw;refine⟨ck,.af,0,0,0,λb1=>?_⟩;rw[jY,if_pos he];refine a0d hb nY (ad:=1000) _ G.fb.Ro.1 I I I ?_ ?_ (hw _ I) b1
  ·rw[pE];refine jE λy hy=>?_;have hy:y= .ah [ck,.af]\/y=q5 0 0 0\/y=ai 0:=by simpa using hy
   rcases hy with rfl|rfl|rfl
   ·rw[show(999:Nat)=998+1 from rfl,pE];refine jE λz bb=>?_;have bb:z=ck\/z= .af:=by simpa using bb
    rcases bb with rfl|rfl
    ·exact bC 498
    ·rfl
   ·rfl
   ·rfl
  ·refine(pH λy hy=>?_:fY (AV.eqb 999) [.ah [ck,.af],q5 0 0 0,ai 0] [.ah [ck,.af],q5 0 0 0,ai 0]=true);have hy:y= .ah [ck,.af]\/y=q5 0 0 0\/y=ai 0:=by simpa using hy
   rcases hy with rfl|rfl|rfl
   ·refine w5 (n:=998) λx hx=>?_;have hx:x=ck\/x= .af:=by simpa using hx
    rcases hx with rfl|rfl
    ·exact heq 498
    ·rfl
   ·rfl
   ·rfl
 ·rw[if_neg he] at hw;generalize(yY r gs).getD at_ (0,0)=r5 at hw;refine⟨.af,.af,2,r5.1,r5.2,λb1=>?_⟩;rw[jY,if_neg he];refine a0d hb nY (ad:=1000) _ G.fb.Ro.1 I I I I ?_ (hw _ I) b1;refine(pH λy hy=>?_:fY (AV.eqb 999) [.ah [.af,.af],yX r5,ai 80] [.ah [.af,.af],yX r5,ai 80]=true);have hy:y= .ah [.af,.af]\/y=yX r5\/y=ai 80:=by simpa using hy
  rcases hy with rfl|rfl|rfl
  ·rfl
  ·exact w5 (n:=998) λx hx=>by
    have hx:x= .i .u8 2\/x=ai r5.1\/x=ai r5.2:=by simpa using hx
    rcases hx with rfl|rfl|rfl<;>exact e1 I
  ·rfl
include G in
theorem a2s(fk:Tok)(zi: @TokOk fk){r:dj}{F:PF}{aE:List (PF×List PF)}{gs:List dN}(ha:o2 r F aE)(b4:F.low)(hg:sy gs aE):∃ck eS cy cz ax,@dn fk P b oR [r.A,F.aO.A true,gZ gs] (.a9 [.ah [ck,eS],.ah [.i .u8 (Int.ofNat cy),ai cz,ai ax],ai 0]):=by
 letI:Tok:=fk
 haveI:TokOk:=zi
 obtain⟨k,f,g,hR⟩:=ha.row b4 hg;obtain⟨res,hm,c3z⟩:=c3u G hR.Gs hR.low.1 hR.low.2.1 hR.low.2.2 fk;have aR:slA true (some 8) ((nv r F.aO gs).map jo)= .a_ true (some 8) ((rowM k).map λp=>jo (p.1,(p.2.gn f g).aO)):=by
  rw[<-hR.Bi];have:=hR.ne;cases hx:nv r F.aO gs with
  |nil=>exact absurd hx this
  |cons x l=>rfl
 rw[<-aR] at hm;obtain⟨cc,cU,a0⟩:=cY.get (cF:=cF) (cA:=cA) hm (c2z c3z);obtain⟨ck,a6,hfz,heq,bC⟩:=a0.Bw I;rw[a6] at cU;exact a2r (K:=cY P b cF cA) G (G.hb fk zi) (G.eB fk zi) cY.fn cY.ok (λ_ _ _ h=>h) b4 hR.c3v hR.aE hR.c hR.hy cU (λh=>absurd I h) hfz heq bC
end
section
variable {b:b5}{K:Nat->List AV->AV->Prop}
theorem kZ.hf(fb:kZ b):mR b K:=⟨fb.I4.h,fb.c2E.h,fb.c2F.h,fb.c2G.h,fb.c2H.h,fb.A_.h,fb.assumptions.h,fb.beside.h,fb.Ba.h,fb.c2I.h⟩
theorem kZ.ho(fb:kZ b):O2 b K:=⟨fb.c2J.h,fb.c2K.h,fb.c2L.h,fb.a1W.2⟩
theorem kZ.au(fb:kZ b):En b K:=⟨fb.c2M.h,fb.c2N.h,fb.c2O.h,fb.c2P.h,fb.c2Q.h⟩
theorem kZ.iB(fb:kZ b):Pu b K:=⟨fb.c2R.h,fb.c2S.h,fb.c2T.h,fb.vB I,fb.a1T.2,fb.Ro.2⟩
end
structure zj(b:b5)(l:lu)(R:List dj):Prop where
 rs:l.rs=R.map dj.A
 pre:∃rest,R=iz++rest
 len:R.length<2^20
 aE:∀r∈R,r.cS.length<2^20/\∀J,bT J (b.bt+1000) r.A=some r.A
 kF:∀J,bT J (b.bt+1000) (l.A true)=some (l.A true)
section
variable {P:Program}{b:b5}{l:lu}{R:List dj}{cA:AV}(G:GivM P b (l.A true) cA)(hl:zj b l R)
abbrev p4(P:Program)(b:b5)(l:lu)(cA:AV):Nat->List AV->AV->Prop:=cY P b (l.A true) cA
include G
include hl
theorem a2t(hb:kg P b)(eB:rh P b (l.A true) cA):Q0 (p4 P b l cA) R (l.A true) where
 pre:=hl.pre
 ap r F aE gs ha b4 hg:=by
  obtain⟨ck,eS,cy,cz,ax,gE⟩:=a2s G _ inferInstance ha b4 hg;obtain⟨cc,cU,a0⟩:=cY.get (cF:=l.A true) (cA:=cA) gE (c2A ⟨_,_,_,_,_,rfl⟩);obtain⟨ck,eS,cy,cz,ax,rfl⟩:=a0.app I;exact⟨ck,eS,cy,cz,ax,cU⟩
 cB f hf:=by
  have:=cY.jv (cF:=l.A true) (cA:=cA) (c3p hb G.fb eB.right f f hf hf) (c2q f f) λr h=>h.Px I f f I;rwa[decide_eq_true I] at this
 fW f hf:=cY.jv (eB.fW f hf) (t_ ca) λr h=>h.tZ ca
end
section
variable {P:Program}{b:b5}{l:lu}{R:List dj}{lc hY:List AV}(G:GivM P b (l.A true) (.a9 [.ah lc,.ah hY]))(hl:zj b l R)
theorem kZ.cf(fb:kZ b)(hb:kg P b)(eB:rh P b (l.A true) (.a9 [.ah lc,.ah hY])):kX b (p4 P b l (.a9 [.ah lc,.ah hY])) where
 s8:=fb.c3h.h
 ci:=fb.c3i.h
 li:=fb.line.h
 xd:=fb.c3j.h
 aa:=fb.c3k.h
 xe:=fb.c3l.h
 pY:=fb.join.h
 at_:=fb.atom.h
 fn:=cY.fn
 es:=fb.Rl.2
 Qt:=fb.Rm.2
 size a h1 h2:=cY.jv (a2a hb fb _ a (br _) U U) (a1J a) λr h=>h.size I a I
 same a c h1 h2:=cY.jv (a2b hb fb eB.st _ a c (br _) U U) (a1K a c) λr h=>h.a1H I a c I
structure RC(b:b5)(l:lu)(lc hY:List AV):Prop where
 q9:lc.length=5/\hY.length=5
 kF:∀J,bT J (b.bt+1000) (.ah lc)=some (l.A true)
 eq:AV.eqb (b.bt+1000) (.ah lc) (.ah lc)=true
end
section
variable {P:Program}{b:b5}{l:lu}{R:List dj}{cA:AV}(G:GivM P b (l.A true) cA)(hl:zj b l R)
include G
theorem m1.kF{T:List bu}(g:m1 T):∀J,bT J (b.bt+1000) (cC T)=some (cC T):=λJ=>c1z g.ne λx hx=>by have:=g.dep x hx;omega
theorem m1.c3A(hb:kg P b){T:List bu}(g:m1 T){k:Nat}(h1:1<=k)(h2:k<=T.length):dn P b yI [cC T,ai k] (.b (se T k)):=λb1=>
 oJ hb (cY.ok (cF:=.af) (cA:=.af)) _ G.fb.a1V.1 I I I I (jK _).1 (jK _).2 (b7C T (by have:=g.le;omega) (λx hx=>by
  have h3:=g.ix.num x hx;obtain⟨i,hi,rfl⟩:=jw hx;have aQ:=(g.tX (i+1) _ U (cK hi)).1;exact⟨U,U,aQ⟩) k h1 h2 _ I) b1
theorem m1.c3B(hb:kg P b){T:List bu}(g:m1 T):dn P b tx [cC T] (ai 0):=λb1=>
 oJ hb (cY.ok (cF:=.af) (cA:=.af)) _ G.fb.a1W.1 I I I I (qL _ _).1 (qL _ _).2 (b7H cY.fn (T.map bu.A) (g.kF G) (by rw[b0];have:=g.le;omega) (λk=>se T k) G.fb.a1V.2 0 (k0 _) (λk h1 h2 _=>by
  rw[b0] at h2;exact cY.jv (g.c3A G hb h1 h2) (c2v _ _) λr al=>al.ix I _ _ I) (λk h1 h2 _=>by
  rw[b0] at h2;exact g.aa k h1 h2) (λh=>absurd I h) _ I) b1
theorem m1.Hz(hb:kg P b){T:List bu}(g:m1 T):wW b (p4 P b l cA) T where
 ix:=g.ix
 ne:=oj.2 g.ne
 le:=by have:=g.le;omega
 kF:=g.kF G
 Bm:=cY.jv (g.c3B G hb) c2u λr al=>al.Bm I
 mV:=g.mV
 Bn k x hx h1:=g.tX k x h1 hx
theorem c3C(T:List bu){n:Nat}:fQ (n+3) (jn T)=true/\AV.eqb (n+3) (jn T) (jn T)=true:=by
 have h1:∀i,fQ (n+2) (lV T i)=true/\AV.eqb (n+2) (lV T i) (lV T i)=true/\(lV T i).cells=[lV T i]:=λi=>by
  unfold lV;cases nq T (i+1) with
  |false=>exact⟨rfl,rfl,rfl⟩
  |true=>
   refine⟨?_,EI (n:=n+1) λy hy=>?_,rfl⟩
   ·show fQ (n+2) (.a_ false none ((stF T (i+1)).map ai))=true;rw[show n+2=n+1+1 from rfl,pE];refine a1P.2 ⟨rfl,jE λy hy=>?_⟩;obtain⟨k,_,rfl⟩:=dx.1 hy;rfl
   ·obtain⟨k,_,rfl⟩:=dx.1 hy;exact e1 I
 unfold jn;refine⟨?_,EI (n:=n+2) λy hy=>?_⟩
 ·rw[show n+3=n+2+1 from rfl,pE];refine a1P.2 ⟨rfl,jE λy hy=>?_⟩;obtain⟨i,_,rfl⟩:=dx.1 hy;rw[(h1 i).2.2];exact jE λz bb=>by rw[cu.1 bb];exact(h1 i).1
 ·obtain⟨i,_,rfl⟩:=dx.1 hy;exact(h1 i).2.1
theorem m1.c3D(hb:kg P b){T:List bu}(g:m1 T):dn P b yH [cC T] (.a9 [jn T,ai 0]):=λb1=>by
 have hw:=b8a (K:=p4 P b l cA) cY.fn G.fb.hf G.fb.ho (g.Hz G hb) _ I;have hf:=c3C G T (n:=996);refine OV hb cY.ok (ad:=1000) _ G.fb.a1Y.1 I I I ?_ ?_ hw b1
 ·rw[show(1000:Nat)=999+1 from rfl,pE];refine jE λy hy=>?_;have hy:y=jn T\/y=ai 0:=by simpa using hy
  rcases hy with rfl|rfl
  ·exact hf.1
  ·rfl
 ·refine(pH λy hy=>?_:fY (AV.eqb 999) [jn T,ai 0] [jn T,ai 0]=true);have hy:y=jn T\/y=ai 0:=by simpa using hy
  rcases hy with rfl|rfl
  ·exact hf.2
  ·rfl
include hl
end
end Go.Lyc
end
noncomputable section
namespace Go.Lyc
set_option maxHeartbeats 0
open Go Go.RowKit Go.Lyc.T
def o5(K:Nat->List AV->AV->Prop)(cZ:Nat)(ke:List AV)(p5:AV)(g:Nat)(aY:List AV)(r:AV):Prop:=K g aY r\/(g=cZ/\aY=ke/\r=p5/\∀cc,¬K cZ ke cc)
theorem o5.fn{K:Nat->List AV->AV->Prop}(h:∀g aY r cc,K g aY r->K g aY cc->r=cc){cZ:Nat}{ke:List AV}{p5:AV}:∀g aY r cc,o5 K cZ ke p5 g aY r->o5 K cZ ke p5 g aY cc->r=cc:=λg aY r cc h1 h2=>by
 rcases h1 with h1|⟨aR,a6,c0,h1⟩<;>rcases h2 with h2|⟨f1,f2,f3,h2⟩
 ·exact h g aY r cc h1 h2
 ·subst f1 f2;exact absurd h1 (h2 _)
 ·subst aR a6;exact absurd h2 (h1 _)
 ·rw[c0,f3]
theorem o5.ok[Tok][TokOk]{P:Program}{b:b5}{K:Nat->List AV->AV->Prop}(h:tm P b K){cZ:Nat}{ke:List AV}{p5:AV}(h0:dn P b cZ ke p5):tm P b (o5 K cZ ke p5):=λg aY r h1=>by
 rcases h1 with h1|⟨rfl,rfl,rfl,_⟩
 ·exact h g aY r h1
 ·exact h0
theorem o5.ex{K:Nat->List AV->AV->Prop}{cZ:Nat}{ke:List AV}{p5:AV}:∃r,o5 K cZ ke p5 cZ ke r/\(r=p5\/K cZ ke r):=by
 by_cases h:∃r,K cZ ke r
 ·obtain⟨r,h⟩:=h;exact⟨r,.inl h,.inr h⟩
 ·exact⟨p5,.inr ⟨rfl,rfl,rfl,λcc h'=>h ⟨cc,h'⟩⟩,.inl I⟩
def Ka(s1 s2:Nat)(o:Bool):List AV:=[.i .u8 6,.s [],.af,.a_ o (some 4) [.ah (gG 1 s2 o),.ah (gG 0 s1 o)]]
def RD(s1 s2:Nat):List Rv:=
 [(ki,[.ah (gG 0 s1 true)],.b true),(ki,[.ah (gG 1 s2 true)],.b true),(ki,[.ah (Ka s1 s2 true)],.b true),
  (zf,[mA.A true],.b true),(zf,[c1.A true],.b true),(zf,[(gm 2 mA c1).A true],.b true),
  (r6,[.ah (bA mA++(gG 0 s1 true++[.af])),.ah (gG 0 s1 true),.af],.a9 [.ah (gG 0 s1 false),.b true]),
  (r6,[.ah (bA c1++(gG 1 s2 true++[.af])),.ah (gG 1 s2 true),.af],.a9 [.ah (gG 1 s2 false),.b true]),
  (r6,[.ah (bA mA++(gG 1 s2 true++[.af])),.ah (gG 1 s2 true),.af],.a9 [.ah (gG 1 s2 false),.b true]),
  (r8,[.ah (gG 0 s1 true),.ah (gG 1 s2 true),.af],.b false),(r8,[.ah (gG 1 s2 true),.ah (gG 0 s1 true),.af],.b false),
  (wG,[.ah (gG 0 s1 true)],.ah (gG 0 s1 false)),(wG,[.ah (gG 1 s2 true)],.ah (gG 1 s2 false))]
def a2u(s1 s2:Nat):List AV:=[.a_ true (some 8) [.ah (bA c1++gG 1 s2 true),.ah (bA mA++gG 0 s1 true),.ah (bA (gm 2 mA c1)++Ka s1 s2 true)],.ah [.af,.af]]
def Kb:AV:=.a9 [.ah [.af,.af],ai 2,ai 70]
def BZ(b:b5):Bool:=cP (λs1=>cP (λs2=>runsTo b (RD s1 s2) 100000 (nk,a2u s1 s2,Kb)) [0,1,2]) [0,1,2]
section
variable {P:Program}{b:b5}{cF cA:AV}(G:GivM P b cF cA)
theorem c3E(f g:PF):bD (eC f g) (.ah (Ka f.subs.length g.subs.length true)) ((PF.bin 2 g f).aO.A true):=by
 have h0:=xi (f:=f) (g:=g) true (k:=0) ca;have h1:=xi (f:=f) (g:=g) true (k:=1) ca;show bD _ _ (AV.ah ((PF.bin 2 g f).aO.cells true));rw[PF.xh];refine bD.four (.i _ _) (.s _) .nil ?_;exact bD.ao (o:=true) (aa:=some 4) (c:=[gG 1 g.subs.length true,gG 0 f.subs.length true]) (d:=[g.aO.cells true,f.aO.cells true]) I λi h h'=>by
  match i,h with
  |0,_=>exact h1
  |1,_=>exact h0
include G in
theorem c3F(jI:BZ b=true){f g:PF}(hf:f.low)(hg:g.low)(b4:(PF.bin 2 g f).low)(a5:f≠g)(fk:Tok): @dn fk P b nk [.a_ true (some 8) [jo (c1,g.aO),jo (mA,f.aO),jo (gm 2 mA c1,(PF.bin 2 g f).aO)],.ah [.af,.af]] Kb:=by
 have ji:=f.BW;have n2:=g.BW;have h0:=λo=>xi (f:=f) (g:=g) o (k:=0) ca;have h1:=λo=>xi (f:=f) (g:=g) o (k:=1) ca;have h2:=c3E f g;refine(dn.gv (T:=eC f g) G.leaf (aY:=a2u f.subs.length g.subs.length) (r:=Kb) (kY:=[.a_ true (some 8) [jo (c1,g.aO),jo (mA,f.aO),jo (gm 2 mA c1,(PF.bin 2 g f).aO)],.ah [.af,.af]]) I ?_ ?_).1 ?_
 ·refine bD.two ?_ (.mk I (bD.two .nil .nil));have q:=bD.IV (T:=eC f g) (r:=4) ca;have a2:=(q (c1,.b) (by simp[rowM])).app (by have:=h1 true;rwa[show od f g 1=g from rfl,zg] at this);have bm:=(q (mA,.a) (by simp[rowM])).app (by have:=h0 true;rwa[show od f g 0=f from rfl,zg] at this);have cx:=(q (gm 2 mA c1,.bin 2) (by simp[rowM])).app (by have:=h2;rwa[zg] at this);exact bD.ao (o:=true) (aa:=some 8) (c:=[bA c1++gG 1 g.subs.length true,bA mA++gG 0 f.subs.length true,bA (gm 2 mA c1)++Ka f.subs.length g.subs.length true]) (d:=[bA c1++bA g.aO,bA mA++bA f.aO,bA (gm 2 mA c1)++bA (PF.bin 2 g f).aO]) I λi h h'=>by
   match i,h with
   |0,_=>exact a2
   |1,_=>exact bm
   |2,_=>exact cx
 ·exact .a9 _ _ I (bD.three (.mk I (bD.two .nil .nil)) (.i _ _) (.i _ _))
 ·letI:Tok:=eC f g
  haveI:TokOk:=lY f g
  have cb:=lg (lg jI f.subs.length (three U)) g.subs.length (three U);have iV:wk P b (RD f.subs.length g.subs.length):=λe he b1=>by
   have hd:=hf.1;have jk:=hg.1;have eB:=G.eB _ (lY f g);have rt:∀ {x:AV} {a:PF},a.low->bD (eC f g) x (a.aO.A true)→ @dn (eC f g) P b ki [x] (.b true):=λ{x a} ha hx=>(dn.gv (T:=eC f g) (fk:=eC f g) G.leaf (aY:=[x]) (kY:=[a.aO.A true]) I (bD.one hx) (.b true)).2 (eB.right a ha);have a2v:∀ {S:Fm} {x y:List AV} {a:PF},a.dep<=38->(S=mA\/S=c1)->bD (eC f g) (.ah x) (a.aO.A true)->bD (eC f g) (.ah y) (a.aO.A false)→ @dn (eC f g) P b r6 [.ah (bA S++(x++[.af])),.ah x,.af] (.a9 [.ah y,.b true]):=λ{S x y a} ha h2 hx hy=>by
    have jH:∀τ,bT τ (b.bt+1000) (pS S a.aO)=some (pS S a.aO):=λτ=>by
     refine pL (k:=b.bt+999) (tK ?_ (tK (BS (by rw[PF.jd];omega)) I));rcases h2 with e|e<;>rw[e]<;>rfl
    have cW:bD (eC f g) (.ah (bA S)) (.ah (bA S)):=by rcases h2 with e|e<;>rw[e]<;>exact bD.Fl _ _
    have cU:=Rr (G.hb _ (lY f g)) G.fb S a.aO jH _ a (br _) U;have eY:=hx;rw[zg] at eY;exact(dn.gv (T:=eC f g) (fk:=eC f g) G.leaf (aY:=[.ah (bA S++(x++[.af])),.ah x,.af]) (r:=.a9 [.ah y,.b true]) (kY:=[pS S a.aO,a.aO.A true,.af]) (cc:=.a9 [a.aO.A false,.b true]) I (bD.three (cW.app (bD.app eY (.mk I (bD.one .nil)))) hx .nil) (.a9 _ _ I (bD.two hy (.b _)))).2 cU
   have cB:∀ {x y:AV} {a c:PF},a.dep<=38->c.dep<=38->a≠c->bD (eC f g) x (a.aO.A true)->bD (eC f g) y (c.aO.A true)→ @dn (eC f g) P b r8 [x,y,.af] (.b false):=λ{x y a c} ha ab hn hx hy=>by
    have cU:=Rq (G.hb _ (lY f g)) G.fb _ a c (br _) U U;rw[decide_eq_false hn] at cU;exact(dn.gv (T:=eC f g) (fk:=eC f g) G.leaf (aY:=[x,y,.af]) (kY:=[a.aO.A true,c.aO.A true,.af]) I (bD.three hx hy .nil) (.b false)).2 cU
   have CT:∀ {x y:AV} {a:PF},bD (eC f g) x (a.aO.A true)->bD (eC f g) y (a.aO.A false)→ @dn (eC f g) P b wG [x] y:=λ{x y a} hx hy=>(dn.gv (T:=eC f g) (fk:=eC f g) G.leaf (aY:=[x]) (r:=y) (kY:=[a.aO.A true]) (cc:=a.aO.A false) I (bD.one hx) hy).2 (Rx G _ _ (br _) (eC f g));have vf:=G.vf _ (lY f g) 4 ca;simp only[RD,dF,gT,or_false] at he;rcases he with rfl|rfl|rfl|rfl|rfl|rfl|rfl|rfl|rfl|rfl|rfl|rfl|rfl
   ·exact rt hf (h0 true) b1
   ·exact rt hg (h1 true) b1
   ·exact rt b4 h2 b1
   ·exact vf (mA,.a) (by simp[rowM]) b1
   ·exact vf (c1,.b) (by simp[rowM]) b1
   ·exact vf (gm 2 mA c1,.bin 2) (by simp[rowM]) b1
   ·exact a2v (a:=f) U (.inl I) (h0 true) (h0 false) b1
   ·exact a2v (a:=g) U (.inr I) (h1 true) (h1 false) b1
   ·exact a2v (a:=g) U (.inl I) (h1 true) (h1 false) b1
   ·exact cB (a:=f) (c:=g) U U a5 (h0 true) (h1 true) b1
   ·exact cB (a:=g) (c:=f) U U a5.symm (h1 true) (h0 true) b1
   ·exact CT (h0 true) (h0 false) b1
   ·exact CT (h1 true) (h1 false) b1
  exact λb1=>iV.entry (G.hb _ (lY f g)) cb b1
include G in
theorem c3G(fk:Tok)(zi: @TokOk fk)(jI:BZ b=true){f g:PF}{x:dN}(hx:oc x (g,[f]))(b4:(PF.bin 2 g f).low)(a5:f≠g):∃ck eS cy cz ax e,@dn fk P b oR [rf.A,(PF.bin 2 g f).aO.A true,gZ [x]] (.a9 [.ah [ck,eS],.ah [.i .u8 (Int.ofNat cy),ai cz,ai ax],ai e]):=by
 letI:Tok:=fk
 haveI:TokOk:=zi
 obtain⟨gC,h1,iq⟩:=x;obtain rfl:=hx.fz;obtain rfl:=hx.hyps;have hf:f.low:=hx.low.2 f aG;have hg:g.low:=hx.low.1;have hm:=c3F G jI hf hg b4 a5 fk;obtain⟨r,cU,al⟩:=o5.ex (K:=cY P b cF cA) (cZ:=nk) (ke:=[.a_ true (some 8) [jo (c1,g.aO),jo (mA,f.aO),jo (gm 2 mA c1,(PF.bin 2 g f).aO)],.ah [.af,.af]]) (p5:=Kb);have PX:∃ck at_ e,r= .a9 [.ah [ck,.af],ai at_,ai e]/\(e≠0->at_<3)/\(∀J,freeze J 0 998 ck=some ck)/\(∀n,AV.eqb (n+500) ck ck=true)/\∀n,fQ (n+500) ck=true:=by
  rcases al with rfl|al
  ·exact⟨.af,2,70,rfl,λ_=>by decide,λJ=>rfl,λn=>e1 I,λn=>rfl⟩
  ·obtain⟨h,e⟩:=al;have a0:=(Ar h).2;rw[<-e] at a0;obtain⟨ck,a6,h1,h2,h3⟩:=a0.Bw I;exact⟨ck,0,0,a6,λh=>absurd I h,h1,h2,h3⟩
 obtain⟨ck,at_,e,rfl,fE,vn,nt,ml⟩:=PX;have hh:=hx.hy aG;obtain⟨so,eS,cy,cz,ax,gE⟩:=a2r G (G.hb fk zi) (G.eB fk zi) (o5.fn cY.fn) (o5.ok cY.ok hm) (λ_ _ _ h=>.inl h) (r:=rf) (F:=PF.bin 2 g f) (gs:=[⟨g.aO,[f].map PF.aO,iq⟩]) b4 (by simp[iz]) (λp au=>by rw[cu.1 au];rfl) ⟨rfl,sL (show _<=1 from br _) ca,λi h h'=>by
  match i,h with
  |0,_=>rfl,λz bb=>by rw[cu.1 bb];exact⟨sL (show _<=1 from br _) ca,sL hx.len ca⟩⟩ (λz bb=>by rw[cu.1 bb];exact hh) cU (λh=>fE h) vn nt ml
 exact⟨so,eS,cy,cz,ax,_,gE⟩
end
end Go.Lyc
end
noncomputable section
namespace Go.Lyc
set_option maxHeartbeats 0
variable [Tok][TokOk]
open Go.RowKit Go.Lyc.T
theorem Rd.tT{L:List aD}{ad:List (List Nat)}{ax:List Nat}(h:Rd L ad ax):∀x∈L,x.op=0\/x.op=1/\x.hyp=true:=by
 induction h with
 |nil=>intro x hx;simp at hx
 |step hR h aH=>
  intro y hy;rcases eP.1 hy with hy|hy
  ·exact aH y hy
  ·rw[cu.1 hy];cases h with
   |vx=>exact .inl I
   |tT=>exact .inr ⟨rfl,rfl⟩
   |lv=>exact .inl I
   |shut=>
    left;unfold nx;split<;>rfl
theorem RE{T:List bu}:∀ {i:Nat},∀n∈stF T i,1<=n/\n<=i
 |0,n,h=>by simp[stF] at h
 |i+1,n,h=>by
  rw[stF] at h;split at h
  ·unfold tG at h;rcases eP.1 h with h|h
   ·have:=RE (i:=i) n (pa h);omega
   ·have:=List.eq_of_mem_replicate h;omega
  ·simp at h
theorem Rd.first{L:List aD}{ad:List (List Nat)}{ax:List Nat}(h:Rd L ad ax)(hL:L.length<=36){a:Nat}(h1:1<=a)(h2:a-1<L.length)(an:(stF (L.map aD.aA) a)[0]? =some a):L[a-1].op=1/\L[a-1].bs=1/\L[a-1].hyp=true:=by
 have xk:=h.ix U;obtain⟨i,rfl⟩:∃i,a=i+1:=⟨a-1,U⟩
 have hi:i<(L.map aD.aA).length:=by rw[b0];omega
 rw[vi hi] at an;have hg:=xk.go i hi;have hn:=(xk.num _ (bJ hi)).2;have hx:(L.map aD.aA)[i]=(L[i]'U).aA:=e_ _;simp only[By];have ho:=h.tT _ (bJ (show i<L.length by omega));have cn:=RE (T:=L.map aD.aA) (i:=i);rw[hx] at an;have hg:(L[i]'U).bs-(L[i]'U).op<=(stF (L.map aD.aA) i).length:=by rw[hx] at hg;exact hg
 have hn:(L[i]'U).op<=(L[i]'U).bs:=by rw[hx] at hn;exact hn
 clear hx;obtain⟨x,kz⟩:∃x,L[i]'U=x:=⟨_,rfl⟩
 rw[kz] at an hg hn ho ⊢;generalize stF (L.map aD.aA) i=s at an hg cn;unfold tG at an;have an:(s.take (x.bs-x.op)++List.replicate x.op (i+1))[0]? =some (i+1):=an;by_cases bb:x.bs-x.op=0
 ·rw[bb,List.take_zero,vW] at an;rcases ho with ho|ho
  ·rw[ho] at an;simp at an
  ·exact⟨ho.1,U,ho.2⟩
 ·rw[kD (by rw[gI];omega),p_ U] at an;have:=cn _ (hH an);omega
theorem a2w{T:List bu}{x:bu}(hx:o4 T x){a c:Nat}(h1:1<=a)(h2:a<=c)(h3:c<=T.length)(hb:ih (T++[x]) (c3 (T++[x])) (T.length+1) a c=true):(stF T a)[0]? =some a/\ig T c=1/\(stF T c)[0]? =some a/\(c<T.length->(stF T (c+1))[0]? ≠some a):=by
 unfold ih mS at hb;rw[Rg hx,p3 h1 U,p3 (j:=c) U h3,rb h1 U,rb (j:=c) U h3,zd U h3] at hb;simp only[du,decide_eq_true_eq,uh,decide_eq_false_iff_not,qw,Cf] at hb;obtain⟨er,_,dV,fl,l0⟩:=hb;refine⟨er,dV,fl,λab=>?_⟩;rw[p3 (j:=c+1) U U,rb (j:=c+1) U U] at l0;exact l0
section
variable {K:Nat->List AV->AV->Prop}{R:List dj}{cF:AV}
theorem c3H{L:List aD}{ad:List (List Nat)}{ax:List Nat}(h:Rd L ad ax)(hL:L.length<=35){x:bu}(hx:o4 (L.map aD.aA) x){a c:Nat}(h1:1<=a)(h2:a<=c)(h3:c-1<L.length)(hb:ih (L.map aD.aA++[x]) (c3 (L.map aD.aA++[x])) ((L.map aD.aA).length+1) a c=true):oc (iK (L.map aD.aA++[x]) (c3 (L.map aD.aA++[x])) (ndsL (L.map aD.aA++[x]) (L.map aD.aA++[x]).length) ((L.map aD.aA).length+1) (nA mA c1) (a,c)) ((L[c-1]).f,[(L[a-1]'U).f]):=by
 have hlen:(L.map aD.aA).length=L.length:=b0 _;obtain⟨s1,_,_,_⟩:=a2w hx h1 h2 U hb;obtain⟨dJ,hE,U2⟩:=h.first U h1 U s1;have hh:∀y∈L.map aD.aA++[x],y.hyp=true->y.op=0->y.bs=0:=λy hy=>by
  rcases eP.1 hy with hy|hy
  ·obtain⟨z,bb,rfl⟩:=dx.1 hy;exact h.b.hyp z bb
  ·rw[cu.1 hy,hx.hyp];intro h;cases h
 have n8:(L.map aD.aA++[x])[a-1]? =some (L[a-1]'U).aA:=by rw[kD U,kA,cK U];rfl
 have J3:iZ (L.map aD.aA++[x]) a 1=[a]:=by
  rw[E8 hh h1 (by rw[c4];omega) ca,n8];exact if_pos ⟨U2,hE⟩
 have hf:∀n,1<=n->(h:n-1<L.length)->fj (L.map aD.aA++[x]) n=(L[n-1]).f.aO:=λn h1 h=>by
  rw[E9 h1 U];exact zc (cK h)
 have kp:∀n,(h:n-1<L.length)->(L[n-1]).f.low:=λn hn=>h.low U (bJ hn);have a2x:∀k y,1<=k->(L.map aD.aA)[k-1]? =some y->sa k y.cs:=λk y ay hy=>h.tX ay hy;have O4:∀n∈lU (L.map aD.aA++[x]) (ndsL (L.map aD.aA++[x]) (L.map aD.aA++[x]).length) ((L.map aD.aA).length+1) a c,1<=n/\n-1<L.length:=λn hn=>by
  have hn:=(nP.1 hn).1;rw[Q4 hh a2x U] at hn;have:=Q5 n hn;omega
 unfold iK;rw[show(nA mA c1).cM=true from rfl,cond_true,hb,cond_true,Rg hx,J3];refine⟨hf c U h3,?_,λF b4=>?_,⟨kp c h3,λy hy=>by rw[cu.1 hy];exact kp a U⟩,?_⟩
 ·show[fj _ a]=[_];rw[hf a h1 U]
 ·obtain⟨n,hn,rfl⟩:=dx.1 b4;obtain⟨c_,ei⟩:=O4 n hn;exact⟨_,hf n c_ ei,kp n ei⟩
 ·show(List.map _ _).length<=40;rw[b0];have aQ:(lU (L.map aD.aA++[x]) (ndsL (L.map aD.aA++[x]) (L.map aD.aA++[x]).length) ((L.map aD.aA).length+1) a c).length<=_:=yJ _ _;rw[Q4 hh a2x U] at aQ;have:=(Rd.BP (L:=L) (i:=c-1)).2;exact o_ aQ U
end
section
variable {P:Program}{b:b5}{l:lu}{R:List dj}{cA:AV}(G:GivM P b (l.A true) cA)(hl:zj b l R)
theorem j2.mono{K Fq:Nat->List AV->AV->Prop}(hle:∀g aY r,K g aY r->Fq g aY r){T:List bu}{B N:List (List Nat)}{k:Nat}{x:bu}{fW:Bool}{cD cy cz ax:Nat}(h:j2 K T B N R k x fW cD cy cz ax):j2 Fq T B N R k x fW cD cy cz ax:=by
 cases h with
 |form h=>exact .form h
 |hyp h h2=>exact .hyp h h2
 |fV h h2 h3 aQ=>exact .fV h h2 h3 aQ
 |again h h2 h3 de=>
  refine .again h h2 h3 ?_;cases de with
  |lv aQ=>exact .lv aQ
  |ap ac h0 aQ cB bF=>exact .ap ac h0 aQ cB (hle _ _ _ bF)
 |step h h2 h3 i hi aQ cW=>
  refine .step h h2 h3 i hi aQ ?_;cases cW with
  |lv bF=>exact .lv bF
  |ap bF ck eS cy cz ax e cw=>exact .ap bF ck eS cy cz ax e (hle _ _ _ cw)
theorem wW.mono{K Fq:Nat->List AV->AV->Prop}(hle:∀g aY r,K g aY r->Fq g aY r){T:List bu}(g:wW b K T):wW b Fq T:=⟨g.ix,g.ne,g.le,g.kF,hle _ _ _ g.Bm,g.mV,g.Bn⟩
include G hl
theorem m1.a2y(hb:kg P b)(eB:rh P b (l.A true) cA){K:Nat->List AV->AV->Prop}(hfn:∀g aY r cc,K g aY r->K g aY cc->r=cc)(nY:tm P b K)(hle:∀g aY r,p4 P b l cA g aY r->K g aY r){T:List bu}(g:m1 T){r cD cy cz ax:Nat}(oW:Z7 K l R T r cD cy cz ax):∃aA iy hM hN dX e,dn P b me [l.A true,cC T] (tY aA iy hM hN dX e)/\(if r=0 then(if ig T T.length=0 then(aA=0/\iy=0/\hM=0/\hN=0/\dX=0/\e=0) else(aA=T.length/\iy=7/\hM=0/\hN=0/\dX=0/\e=180)) else(aA=r/\iy=cD/\hM=cy/\hN=cz/\dX=ax/\e=180)):=by
 have hd:∀x∈T,x.f.dep<=200:=λx hx=>by have:=g.dep x hx;omega
 have c3I:K n6 [l.A true] (.b true):=hle _ _ _ (cY.jv eB.c3o (t_ ca) λr h=>h.tZ ca);have vt:=(g.Hz (cA:=cA) G hb).mono hle;have key:∀aA iy hM hN dX e,(if r=0 then(if ig T T.length=0 then(aA=0/\iy=0/\hM=0/\hN=0/\dX=0/\e=0) else(aA=T.length/\iy=7/\hM=0/\hN=0/\dX=0/\e=180)) else(aA=r/\iy=cD/\hM=cy/\hN=cz/\dX=ax/\e=180))->dn P b me [l.A true,cC T] (tY aA iy hM hN dX e):=λaA iy hM hN dX e dh b1=>by
  have hw:=b8U (K:=K) hfn G.fb.hf G.fb.ho G.fb.au G.fb.iB vt hd hl.rs hl.len hl.aE hl.kF (G.fb.vB I) c3I oW dh _ I;refine OV hb nY (ad:=1000) _ G.fb.a1X.1 I I I I ?_ hw b1;refine(pH λy hy=>?_:fY (AV.eqb 999) [.ah [ai aA,.i .u8 (Int.ofNat iy),.i .u8 (Int.ofNat hM),ai hN,ai dX],ai e] [.ah [ai aA,.i .u8 (Int.ofNat iy),.i .u8 (Int.ofNat hM),ai hN,ai dX],ai e]=true);have hy:y= .ah [ai aA,.i .u8 (Int.ofNat iy),.i .u8 (Int.ofNat hM),ai hN,ai dX]\/y=ai e:=by simpa using hy
  rcases hy with rfl|rfl
  ·refine w5 (n:=998) λz bb=>?_;simp only[dF,gT,or_false] at bb;rcases bb with rfl|rfl|rfl|rfl|rfl<;>exact e1 I
  ·exact e1 I
 by_cases h0:r=0
 ·by_cases k_:ig T T.length=0
  ·exact⟨0,0,0,0,0,0,key _ _ _ _ _ _ (by rw[if_pos h0,if_pos k_];exact⟨rfl,rfl,rfl,rfl,rfl,rfl⟩),by rw[if_pos h0,if_pos k_];exact⟨rfl,rfl,rfl,rfl,rfl,rfl⟩⟩
  ·exact⟨_,7,0,0,0,180,key _ _ _ _ _ _ (by rw[if_pos h0,if_neg k_];exact⟨rfl,rfl,rfl,rfl,rfl,rfl⟩),by rw[if_pos h0,if_neg k_];exact⟨rfl,rfl,rfl,rfl,rfl,rfl⟩⟩
 ·exact⟨_,_,_,_,_,180,key _ _ _ _ _ _ (by rw[if_neg h0];exact⟨rfl,rfl,rfl,rfl,rfl,rfl⟩),by rw[if_neg h0];exact⟨rfl,rfl,rfl,rfl,rfl,rfl⟩⟩
theorem RF(hb:kg P b)(eB:rh P b (l.A true) cA){K:Nat->List AV->AV->Prop}(hfn:∀g aY r cc,K g aY r->K g aY cc->r=cc)(nY:tm P b K)(hle:∀g aY r,p4 P b l cA g aY r->K g aY r){L:List aD}{ad:List (List Nat)}{ax:List Nat}(h:Rd L ad ax)(hL:L.length<=35)(a5:L≠[]){x:aD}(hx:o4 (L.map aD.aA) x.aA)(iv:x.f.low){cD cy cz dX:Nat}(c3J:cD<256)(vq:j2 K (L.map aD.aA++[x.aA]) (c3 (L.map aD.aA++[x.aA])) (ndsL (L.map aD.aA++[x.aA]) (L.map aD.aA++[x.aA]).length) R ((L.map aD.aA).length+1) x.aA true cD cy cz dX)(h0:cD=0->cy=0/\cz=0/\dX=0):
  ∃aA iy hM hN B0 e,dn P b me [l.A true,cC (L.map aD.aA++[x.aA])] (tY aA iy hM hN B0 e)/\(cD=0->e=0)/\(cD≠0->aA=L.length+1/\iy=cD/\hM=cy/\hN=cz/\B0=dX/\e=180):=by
 have cU:=a2t G hl hb eB;have hlen:(L.map aD.aA).length=L.length:=b0 _;have bL:=(h.a1M U a5).more hx U;have hh:∀y∈L.map aD.aA++[x.aA],y.hyp=true->y.op=0->y.bs=0:=λy hy=>by
  rcases eP.1 hy with hy|hy
  ·obtain⟨z,bb,rfl⟩:=dx.1 hy;exact h.b.hyp z bb
  ·rw[cu.1 hy,hx.hyp];intro h;cases h
 have hold:∀k y,1<=k->k<=L.length->(L.map aD.aA++[x.aA])[k-1]? =some y->∃fW,K oQ [l.A true,y.f.A true] (.b fW)/\j2 K (L.map aD.aA++[x.aA]) (c3 (L.map aD.aA++[x.aA])) (ndsL (L.map aD.aA++[x.aA]) (L.map aD.aA++[x.aA]).length) R k y fW 0 0 0 0:=λk y h1 h2 hy=>by
  rw[kD U,kA] at hy;cases bb:L[k-1]? with
  |none=>rw[bb] at hy;cases hy
  |some z=>
   rw[bb] at hy;cases hy;refine⟨true,hle _ _ _ (cU.fW _ (h.low U (hH bb))),j2.mono hle ?_⟩;refine j2.app hh (λk y ay hy=>h.tX ay hy) U ?_ (h.bad cU U h1 bb);intro ac dW;have:=(h.tX h1 (x:=z.aA) (by rw[kA,bb];rfl)).2 ac dW;omega
 have jx:∀y,(L.map aD.aA++[x.aA])[(L.map aD.aA).length+1-1]? =some y->∃fW,K oQ [l.A true,y.f.A true] (.b fW)/\j2 K (L.map aD.aA++[x.aA]) (c3 (L.map aD.aA++[x.aA])) (ndsL (L.map aD.aA++[x.aA]) (L.map aD.aA++[x.aA]).length) R ((L.map aD.aA).length+1) y fW cD cy cz dX:=λy hy=>by
  rw[Rf] at hy;cases hy;exact⟨true,hle _ _ _ (cU.fW _ iv),vq⟩
 have qZ:ig (L.map aD.aA++[x.aA]) (L.map aD.aA++[x.aA]).length=0:=by rw[c4];exact Rg hx
 by_cases ay:cD=0
 ·subst ay;obtain⟨rfl,rfl,rfl⟩:=h0 I;obtain⟨aA,iy,hM,hN,B0,e,gE,al⟩:=bL.a2y G hl hb eB hfn nY hle (r:=0) (cD:=0) (cy:=0) (cz:=0) (ax:=0) ⟨k0 _,λk y h1 _ hy=>by
   by_cases h2:k<=L.length
   ·exact hold k y h1 h2 hy
   ·have h3:=(fC.1 hy).1;rw[c4] at h3;have h3:k-1<(L.map aD.aA).length+1:=h3;obtain rfl:k=(L.map aD.aA).length+1:=by omega
    exact jx y hy,λh=>absurd I h⟩
  rw[if_pos I,if_pos qZ] at al;exact⟨aA,iy,hM,hN,B0,e,gE,λ_=>al.2.2.2.2.2,λh=>absurd I h⟩
 ·obtain⟨aA,iy,hM,hN,B0,e,gE,al⟩:=bL.a2y G hl hb eB hfn nY hle (r:=(L.map aD.aA).length+1) (cD:=cD) (cy:=cy) (cz:=cz) (ax:=dX) ⟨by rw[c4];exact br _,λk y h1 h2 hy=>hold k y h1 U hy,λ_=>⟨ay,c3J,jx⟩⟩;rw[if_neg U] at al;exact⟨aA,iy,hM,hN,B0,e,gE,λh=>absurd h ay,λ_=>by rw[<-hlen];exact al⟩
end
def m8(f:PF)(c:Nat):aD:=⟨0,0,false,f,jJ,[(c,c)]⟩
def gh(f g:PF)(a c:Nat):aD:=⟨0,0,false,.bin 2 f g,ly,[(a,c)]⟩
section
variable {P:Program}{b:b5}{l:lu}{R:List dj}{cA:AV}(G:GivM P b (l.A true) cA)(hl:zj b l R)
include G hl
theorem c3K(hb:kg P b)(eB:rh P b (l.A true) cA){L:List aD}{ad:List (List Nat)}{ax:List Nat}(h:Rd L ad ax)(hL:L.length<=35){c:Nat}(h1:1<=c)(h2:c-1<L.length):
  ∃r,dn P b me [l.A true,cC (L.map aD.aA++[(m8 (L[c-1]).f c).aA])] r/\BU (L.map aD.aA++[(m8 (L[c-1]).f c).aA]) r:=by
 have hlen:(L.map aD.aA).length=L.length:=b0 _;have kp:=h.low U (bJ h2);have hd:=kp.1;have hx:o4 (L.map aD.aA) (m8 (L[c-1]).f c).aA:=⟨rfl,rfl,rfl,(by decide:jJ≠[]),by
  show(L[c-1]).f.aO.dep<=40;rw[PF.jd];omega,(by decide:(1:Nat)<2^20),λac dW=>by
  rw[cu.1 dW];exact⟨h1,br _,by show c<=_;omega⟩⟩
 have hf:fj (L.map aD.aA) c=(L[c-1]).f.aO:=zc (cK h2);have vq:=c2D (K:=p4 P b l cA) (R:=R) h1 U hx I I hf.symm (by rw[hf];exact(a2t G hl hb eB).cB _ kp);obtain⟨aA,iy,hM,hN,dX,e,gE,h9,aR⟩:=RF G hl hb eB cY.fn cY.ok (λ_ _ _ h=>h) h hL (λe=>by rw[e] at h2;simp at h2) hx kp (by cases decide (stF (L.map aD.aA) c=[])<;>decide) vq λ_=>⟨rfl,rfl,rfl⟩
 refine⟨_,gE,aA,iy,hM,hN,dX,e,rfl,?_,λfk x iV=>?_⟩
 ·cases hd:decide (stF (L.map aD.aA) c=[]) with
  |true=>rw[hd] at h9;exact .inl (h9 I)
  |false=>rw[hd] at aR;exact .inr (aR ca).2.2.2.2.2
 ·obtain⟨Fs,p6⟩:=Rj iV I;subst Fs;have p6:=Rk p6;obtain⟨p6,_⟩:=p6;subst p6;refine⟨λ_=>⟨λan=>?_,λan=>?_⟩,λhn=>absurd I hn⟩
  ·have an:stF (L.map aD.aA) c=[]:=an;rw[decide_eq_true an] at h9;exact h9 I
  ·have an:stF (L.map aD.aA) c≠[]:=an;rw[decide_eq_false an] at aR;obtain⟨vn,nt,ml,mj,tO,Ft⟩:=aR ca;exact⟨Ft,by rw[hlen];exact vn,nt,ml,mj,tO⟩
theorem c3L(jI:BZ b=true)(hb:kg P b)(eB:rh P b (l.A true) cA){f g F:PF}{x:dN}(hx:oc x (g,[f]))(b4:F.low)(E0:F= .bin 2 f g\/F= .bin 2 g f):∃ck eS cy cz ax e,dn P b oR [rf.A,F.aO.A true,gZ [x]] (.a9 [.ah [ck,eS],.ah [.i .u8 (Int.ofNat cy),ai cz,ai ax],ai e]):=by
 have key:F= .bin 2 f g->∃ck eS cy cz ax e,dn P b oR [rf.A,F.aO.A true,gZ [x]] (.a9 [.ah [ck,eS],.ah [.i .u8 (Int.ofNat cy),ai cz,ai ax],ai e]):=λe=>by
  subst e;obtain⟨ck,eS,cy,cz,ax,gE⟩:=a2s G _ inferInstance (o2.QZ f g) b4 (.cons hx .nil);exact⟨ck,eS,cy,cz,ax,0,gE⟩
 rcases E0 with e|e
 ·exact key e
 ·by_cases za:f=g
  ·exact key (by rw[e,za])
  ·subst e;exact c3G G _ inferInstance jI hx b4 za
theorem c3M(jI:BZ b=true)(hb:kg P b)(eB:rh P b (l.A true) cA){L:List aD}{ad:List (List Nat)}{ax:List Nat}(h:Rd L ad ax)(hL:L.length<=35){a c:Nat}(h1:1<=a)(dW:a<=c)(h2:c-1<L.length){f g:PF}(za:(f=(L[a-1]'U).f/\g=(L[c-1]).f)\/(f=(L[c-1]).f/\g=(L[a-1]'U).f)):
  ∃r,dn P b me [l.A true,cC (L.map aD.aA++[(gh f g a c).aA])] r/\BU (L.map aD.aA++[(gh f g a c).aA]) r:=by
 have hlen:(L.map aD.aA).length=L.length:=b0 _;have a5:L≠[]:=λe=>by rw[e] at h2;simp at h2
 have i1:=h.inv.dep _ (bJ h2);have i2:=h.inv.bS _ (bJ h2);have i3:=h.inv.dep _ (bJ (show a-1<L.length by omega));have i4:=h.inv.bS _ (bJ (show a-1<L.length by omega));have kp:(PF.bin 2 f g).low:=by
  show max f.dep g.dep+1<=38/\f.bS+g.bS+1<=380;rcases za with⟨aR,a6⟩|⟨aR,a6⟩<;>rw[aR,a6]<;>exact⟨U,U⟩
 have hx:o4 (L.map aD.aA) (gh f g a c).aA:=⟨rfl,rfl,rfl,(by decide:ly≠[]),by
  show(PF.bin 2 f g).aO.dep<=40;rw[PF.jd];have:=kp.1;omega,(by decide:(1:Nat)<2^20),λac RG=>by
  rw[cu.1 RG];exact⟨h1,dW,by show c<=_;omega⟩⟩
 obtain⟨rest,hR⟩:=hl.pre;have hi:6<R.length:=by rw[hR,c4];exact vX ca (FV _ _)
 have cw:R[6]=rf:=by
  have:R[6]? =some rf:=by rw[hR,kD ca];rfl
  exact il ((cK hi).symm.trans this)
 have aQ:ixN (gh f g a c).aA.fV R=some 6:=by rw[hR];exact Q2 (show ixN ly iz=some 6 by decide)
 have l9:citeB (L.map aD.aA++[(gh f g a c).aA]) (c3 (L.map aD.aA++[(gh f g a c).aA])) ((L.map aD.aA).length+1) rf.cS (gh f g a c).aA.cs=ih (L.map aD.aA++[(gh f g a c).aA]) (c3 (L.map aD.aA++[(gh f g a c).aA])) ((L.map aD.aA).length+1) a c:=by
  show(gY _ _ _ _ _&&true)=_;unfold gY;rw[show(nA mA c1).cM=true from rfl,cond_true,As]
 cases gl:ih (L.map aD.aA++[(gh f g a c).aA]) (c3 (L.map aD.aA++[(gh f g a c).aA])) ((L.map aD.aA).length+1) a c with
 |false=>
  rw[gl] at l9;have vq:j2 (p4 P b l cA) (L.map aD.aA++[(gh f g a c).aA]) (c3 (L.map aD.aA++[(gh f g a c).aA])) (ndsL (L.map aD.aA++[(gh f g a c).aA]) (L.map aD.aA++[(gh f g a c).aA]).length) R ((L.map aD.aA).length+1) (gh f g a c).aA true 5 0 0 0:=.step I I (by decide:ly≠jJ) 6 hi aQ (by rw[cw];exact .lv l9);obtain⟨aA,iy,hM,hN,dX,e,gE,h9,aR⟩:=RF G hl hb eB cY.fn cY.ok (λ_ _ _ h=>h) h hL a5 hx kp ca vq λ_=>⟨rfl,rfl,rfl⟩
  obtain⟨vn,nt,ml,mj,tO,Ft⟩:=aR ca;refine⟨_,gE,aA,iy,hM,hN,dX,e,rfl,.inr Ft,λfk x iV=>?_⟩;obtain⟨Fs,p6⟩:=Rj iV I;obtain⟨p6,_⟩:=Rk p6;subst Fs p6;exact⟨λhn=>absurd hn (by decide:ly≠jJ),λ_ _=>Ft⟩
 |true=>
  rw[gl] at l9;have hg:=c3H h hL hx h1 dW h2 gl;obtain⟨ck,eS,cy,cz,iL,e,hA⟩:=c3L G hl jI hb eB hg kp (by
   rcases za with⟨aR,a6⟩|⟨aR,a6⟩
   ·left;rw[aR,a6]
   ·right;rw[aR,a6])
  obtain⟨r,cU,al⟩:=o5.ex (K:=p4 P b l cA) (cZ:=oR) (ke:=[rf.A,(PF.bin 2 f g).aO.A true,gZ [iK (L.map aD.aA++[(gh f g a c).aA]) (c3 (L.map aD.aA++[(gh f g a c).aA])) (ndsL (L.map aD.aA++[(gh f g a c).aA]) (L.map aD.aA++[(gh f g a c).aA]).length) ((L.map aD.aA).length+1) (nA mA c1) (a,c)]]) (p5:=.a9 [.ah [ck,eS],.ah [.i .u8 (Int.ofNat cy),ai cz,ai iL],ai e]);have c3N:∃ck eS cy cz ax e,r= .a9 [.ah [ck,eS],.ah [.i .u8 (Int.ofNat cy),ai cz,ai ax],ai e]:=by
   rcases al with rfl|al
   ·exact⟨_,_,_,_,_,_,rfl⟩
   ·obtain⟨h,e⟩:=al;have a0:=(Ar h).2;rw[<-e] at a0;obtain⟨ck,eS,cy,cz,ax,a6⟩:=a0.app I;exact⟨ck,eS,cy,cz,ax,0,a6⟩
  obtain⟨so,c3O,hM,hN,dX,dS,rfl⟩:=c3N;have vq:j2 (o5 (p4 P b l cA) oR [rf.A,(PF.bin 2 f g).aO.A true,gZ [iK (L.map aD.aA++[(gh f g a c).aA]) (c3 (L.map aD.aA++[(gh f g a c).aA])) (ndsL (L.map aD.aA++[(gh f g a c).aA]) (L.map aD.aA++[(gh f g a c).aA]).length) ((L.map aD.aA).length+1) (nA mA c1) (a,c)]] (.a9 [.ah [ck,eS],.ah [.i .u8 (Int.ofNat cy),ai cz,ai iL],ai e])) (L.map aD.aA++[(gh f g a c).aA]) (c3 (L.map aD.aA++[(gh f g a c).aA])) (ndsL (L.map aD.aA++[(gh f g a c).aA]) (L.map aD.aA++[(gh f g a c).aA]).length) R ((L.map aD.aA).length+1) (gh f g a c).aA true (if dS=0 then 0 else 6) (if dS=0 then 0 else hM) (if dS=0 then 0 else hN) (if dS=0 then 0 else dX):=
   .step I I (by decide:ly≠jJ) 6 hi aQ (by rw[cw];exact .ap l9 so c3O hM hN dX dS cU)
  obtain⟨aA,c3P,c3Q,c3R,c3S,a6,gE,h9,aR⟩:=RF G hl hb eB (o5.fn cY.fn) (o5.ok cY.ok hA) (λ_ _ _ h=>.inl h) h hL a5 hx kp (by split<;>decide) vq (λbb=>by
   by_cases he:dS=0
   ·rw[if_pos he,if_pos he,if_pos he];exact⟨rfl,rfl,rfl⟩
   ·rw[if_neg he] at bb;cases bb)
  refine⟨_,gE,aA,c3P,c3Q,c3R,c3S,a6,rfl,?_,λfk x iV=>?_⟩
  ·by_cases he:dS=0
   ·exact .inl (h9 (if_pos he))
   ·exact .inr (aR (by rw[if_neg he];decide)).2.2.2.2.2
  ·obtain⟨Fs,p6⟩:=Rj iV I;obtain⟨p6,_⟩:=Rk p6;subst Fs p6;refine⟨λhn=>absurd hn (by decide:ly≠jJ),λ_ hf=>?_⟩;have hf:ih (L.map aD.aA++[(gh f g a c).aA]) (c3 (L.map aD.aA++[(gh f g a c).aA])) ((L.map aD.aA).length+1) a c=false:=hf;rw[gl] at hf;cases hf
end
theorem Rd.a2z{L:List aD}{ad:List (List Nat)}{ax:List Nat}(h:Rd L ad ax)(hL:L.length<=36):∀ {i:Nat},i<=L.length->∀ {k n:Nat},(stF (L.map aD.aA) i)[k]? =some n->(1<=n/\n<=i/\∀x,L[n-1]? =some x->x.op=1/\x.bs=k+1)/\∀p,1<=k->(stF (L.map aD.aA) i)[k-1]? =some p->p<n
 |0,_,k,n,an=>by simp[stF] at an
 |i+1,Jt,k,n,an=>by
  have hi:i<(L.map aD.aA).length:=by rw[b0];omega
  have aH:=λ{k n}=>Rd.a2z h hL (i:=i) U (k:=k) (n:=n);have xk:=h.ix U;rw[vi hi] at an ⊢;have hg:=xk.go i hi;have hn:=(xk.num _ (bJ hi)).2;have hx:(L.map aD.aA)[i]=(L[i]'U).aA:=e_ _;rw[hx] at an ⊢;have hg:(L[i]'U).bs-(L[i]'U).op<=(stF (L.map aD.aA) i).length:=by rw[hx] at hg;exact hg
  have hn:(L[i]'U).op<=(L[i]'U).bs:=by rw[hx] at hn;exact hn
  have ho:=h.tT _ (bJ (show i<L.length by omega));have cn:=RE (T:=L.map aD.aA) (i:=i);have vJ:L[i]? =some (L[i]'U):=cK U;clear hx;obtain⟨x,kz⟩:∃x,L[i]'U=x:=⟨_,rfl⟩
  rw[kz] at an hg hn ho vJ ⊢;generalize stF (L.map aD.aA) i=s at an hg cn aH ⊢;unfold tG at an ⊢;have an:(s.take (x.bs-x.op)++List.replicate x.op (i+1))[k]? =some n:=an;show(1<=n/\n<=i+1/\∀x,L[n-1]? =some x->x.op=1/\x.bs=k+1)/\∀p,1<=k->(s.take (x.bs-x.op)++List.replicate x.op (i+1))[k-1]? =some p->p<n;by_cases bb:k<x.bs-x.op
  ·rw[kD (by rw[gI];omega),p_ bb] at an;obtain⟨⟨h1,h2,h3⟩,aQ⟩:=aH an;refine⟨⟨h1,U,h3⟩,λp ay au=>aQ p ay ?_⟩;rw[kD (by rw[gI];omega),p_ U] at au;exact au
  ·have hlt:(s.take (x.bs-x.op)).length=x.bs-x.op:=by rw[gI];omega
   rw[A5 U,hlt] at an;have c3T:=fC.1 an;obtain⟨nW,lJ⟩:=c3T;rw[IS] at nW;rw[List.getElem_replicate] at lJ;subst lJ;have eg:x.op=1:=by rcases ho with ho|ho<;>omega
   refine⟨⟨U,br _,λy hy=>?_⟩,λp ay au=>?_⟩
   ·rw[By,vJ] at hy;cases hy;exact⟨eg,U⟩
   ·rw[kD U,p_ U] at au;have:=cn _ (hH au);omega
theorem Rd.Kc{L:List aD}{ad:List (List Nat)}{ax:List Nat}(h:Rd L ad ax)(hL:L.length<=36){i:Nat}(hi:i<L.length):(stF (L.map aD.aA) (i+1)).length=(L[i]).bs/\((L[i]).op≠0->1<=(L[i]).bs/\(stF (L.map aD.aA) (i+1))[(L[i]).bs-1]? =some (i+1)):=by
 have dc:i<(L.map aD.aA).length:=by rw[b0];omega
 have xk:=h.ix U;rw[vi dc];have hg:=xk.go i dc;have hn:=(xk.num _ (bJ dc)).2;have hx:(L.map aD.aA)[i]=(L[i]).aA:=e_ _;rw[hx] at hg hn ⊢;have ho:=h.tT _ (bJ hi);clear hx;have hg:(L[i]).bs-(L[i]).op<=(stF (L.map aD.aA) i).length:=hg;have hn:(L[i]).op<=(L[i]).bs:=hn;obtain⟨x,kz⟩:∃x,L[i]=x:=⟨_,rfl⟩
 rw[kz] at hg hn ho ⊢;generalize stF (L.map aD.aA) i=s at hg ⊢;unfold tG;show(s.take (x.bs-x.op)++List.replicate x.op (i+1)).length=x.bs/\(x.op≠0->1<=x.bs/\(s.take (x.bs-x.op)++List.replicate x.op (i+1))[x.bs-1]? =some (i+1));have hlt:(s.take (x.bs-x.op)).length=x.bs-x.op:=by rw[gI];omega
 refine⟨by rw[c4,hlt,IS];omega,λh0=>⟨U,?_⟩⟩;rw[A5 U,hlt,List.getElem?_replicate];exact if_pos U
def Kd(L:List aD)(a c:Nat)(x y:aD):Bool:=x.op==1&&(x.bs==1&&(y.bs==1&&((stF (L.map aD.aA) c)[0]? ==some a&&(c==L.length||(stF (L.map aD.aA) (c+1))[0]? != some a))))
theorem c3U{L:List aD}{ad:List (List Nat)}{ax:List Nat}(h:Rd L ad ax)(hL:L.length<=35){z:bu}(bb:o4 (L.map aD.aA) z){a c:Nat}(h1:1<=a)(h2:a<=c)(h3:c-1<L.length)(hb:ih (L.map aD.aA++[z]) (c3 (L.map aD.aA++[z])) ((L.map aD.aA).length+1) a c=true):Kd L a c (L[a-1]'U) (L[c-1])=true:=by
 have hlen:(L.map aD.aA).length=L.length:=b0 _;obtain⟨er,dy,dV,fl⟩:=a2w bb h1 h2 U hb;obtain⟨dJ,hE,_⟩:=h.first U h1 U er;have aR:ig (L.map aD.aA) c=(L[c-1]).bs:=Q1 (cK h3);unfold Kd;rw[dJ,hE,← aR,dy,dV];simp only[BEq.rfl,pG,qa,bne_iff_ne,beq_iff_eq];by_cases ab:c=L.length
 ·exact .inl ab
 ·exact .inr (fl U)
end Go.Lyc
end
noncomputable section
namespace Go.Lyc
set_option maxHeartbeats 0
variable [Tok][TokOk]
open Go.RowKit Go.Lyc.T
attribute [local irreducible] ch bR dC ev bH
structure o6(W:Nat->Prop)(τ:ae)(v:AV)(cN:List AV)(L:List aD):Prop where
 ao:Sl τ (some 9) v cN
 len:cN.length=L.length
 li:∀i (h:i<cN.length) (h':i<L.length),j4 W τ L[i] cN[i]
 at_:∀o,v.at? =some o->¬W o
theorem o6.aS{W:Nat->Prop}{τ aM:ae}{v:AV}{cN:List AV}{L:List aD}(h:o6 W τ v cN L)(k:∀i o,τ.get i=some o->aM.get i=some o):o6 W aM v cN L:=
 ⟨h.ao.aS λi o _=>k i o,h.len,λi a b=>(h.li i a b).aS λi c hi ab=>⟨hi,k _ _ ab⟩,h.at_⟩
theorem o6.ex{W:Nat->Prop}{τ:ae}{v:AV}{cN:List AV}{L:List aD}(h:o6 W τ v cN L)(a5:L≠[]):∃o iS,v.at? =some o/\τ.get o=some (.cells iS)/\∀j x,L[j]? =some x->idxSlA (some 9) v j=some (.p (some (o,j*9)))/\dU none (iS.drop (j*9+0))=some (ai x.bs)/\dU none (iS.drop (j*9+1))=some (ai x.op)/\∃w,dU (some 4) (iS.drop (j*9+3))=some (.ah (eT x.f w))/\eU W τ x.f (.ah (eT x.f w)):=by
 obtain⟨o,c,h1,h2,h3⟩:=h.ao.aF (by rw[h.len];exact oj.2 a5);refine⟨o,c,h1,h2,λj x hx=>?_⟩;obtain⟨aC,w6⟩:=fC.1 hx;obtain⟨a2,⟨r,bm⟩,cx⟩:=h3 j (by rw[h.len];exact aC);have gr:=h.li j (by rw[h.len];exact aC) aC;rw[w6] at gr;refine⟨a2,?_⟩;generalize cN[j]'(by rw[h.len];exact aC)=zV at gr bm;have bm:c.drop (j*9)=zV.cells++r:=bm;cases gr with
 |mk w ft JH tq=>
  refine⟨?_,?_,w,?_,JH⟩
  ·rw[sG,bm];rfl
  ·rw[<-nD,bm];rfl
  ·rw[<-nD,bm];rfl
theorem Ke(T:List bu)(i:Nat){J:ae}:lo J (lV T i) (stF T (i+1)):=by
 unfold lV;cases h:nq T (i+1) with
 |false=>rw[Zh h];exact Sl.kE (l:=[]) .nil
 |true=>
  have:hU J none (.a_ false none ((stF T (i+1)).map ai)) ((stF T (i+1)).map ai):=tl_vw λy hy=>by obtain⟨c,_,rfl⟩:=dx.1 hy;rfl
  exact this.kE
theorem Kf(T:List bu){J:ae}:hU J none (jn T) ((List.range T.length).map (lV T)):=tl_vw λy hy=>by
 obtain⟨c,_,rfl⟩:=dx.1 hy;unfold lV;cases nq T (c+1)<;>rfl
def zk:bO:=match r7.body with|some c=>c|none=>.skip
section
variable {Y:Nat->Prop}{τ:ae}{b:b5}{K:Nat->List AV->AV->Prop}{v:AV}{cN:List AV}{L:List aD}{ad:List (List Nat)}{ax:List Nat}{n m:Nat}
abbrev vD(T:List bu)(v:AV)(n m:Nat):List (Nat×AV):=[(10,jn T),(9,v),(7,aT 0),(2,uB m),(1,uB n)]
abbrev RH(T:List bu)(v:AV)(n m j N:Nat):List (Nat×AV):=(54,lV T j)::(13,lV T j)::(12,ai j)::(49,ai j)::(48,ai N)::(47,jn T)::vD T v n m
theorem c3V(hV:o6 Y τ v cN L)(a5:L≠[])(h:Rd L ad ax)(hL:L.length<=35){z:Nat->AV}{Q:ec}(b8:∀F,sat (vD (L.map aD.aA) v n m) F->Q .normal F τ):
  bR (b.aV K) none [] r7.ntmps (ij [1,1,1,1,1,0] zk) (bx (vD (L.map aD.aA) v n m) z) τ Q:=by
 obtain⟨o,iS,fE,gx,jz⟩:=hV.ex a5;have H:Has τ []:=Has.nil;have xg:(L.map aD.aA).length=L.length:=b0 _;have x5:=Kf (L.map aD.aA) (J:=τ);have pr:((List.range (L.map aD.aA).length).map (lV (L.map aD.aA))).length=L.length:=by rw[b0,lZ,xg]
 refine W.sq ?_;refine aj ?_;rw[pr];refine ak.each L.length (λj F aM=>aM=τ/\sat ((47,jn (L.map aD.aA))::vD (L.map aD.aA) v n m) F) U ⟨rfl,rfl,rfl,rfl,rfl,rfl,rfl,trivial⟩ I I (λj F aM aC a0 hi qx=>?_) (λF aM a0 hi=>?_)
 ·obtain⟨rfl,q0,lr,kU,gU,bQ,bL,_⟩:=a0;refine ak.norm ((49,ai j)::(48,ai L.length)::(47,jn (L.map aD.aA))::vD (L.map aD.aA) v n m) ⟨hi,qx,q0,lr,kU,gU,bQ,bL,trivial⟩ λF=>?_;have m9:=Ke (L.map aD.aA) j (J:=aM);have c8x:j<(L.map aD.aA).length:=by omega
  have gK:=h.Kc U aC;have cn:=λ{k n}=>h.a2z U (i:=j+1) U (k:=k) (n:=n);have a0Q:L[j]? =some L[j]:=cK aC;obtain⟨c3W,_,c3X,_⟩:=jz j _ a0Q;generalize cW:stF (L.map aD.aA) (j+1)=S at m9 gK cn;have c8y:S.length<2^20:=by
   have:=((h.ix U).num _ (J_ (bJ aC))).1;rw[gK.1];have:(L[j]).aA.bs=(L[j]).bs:=rfl;omega
  refine aj ?_;rw[e_,qc];refine W.len I I I (m9.len _) ?_;refine aj ?_;show bR _ _ _ _ _ _ _ _;refine ak.each S.length (λr F τ=>τ=aM/\sat (RH (L.map aD.aA) v n m j L.length) F) U ⟨rfl,rfl,rfl,rfl,rfl,rfl,rfl,rfl,rfl,rfl,rfl,rfl,trivial⟩ I I (λr F τ al a0 hi qx=>?_) (λF τ a0 hi=>?_)
  ·obtain⟨rfl,RI,ra,kI,RJ,BN,q0,lr,kU,gU,bQ,bL,_⟩:=a0;refine ak.norm ((56,ai r)::(55,ai S.length)::RH (L.map aD.aA) v n m j L.length) ⟨hi,qx,RI,ra,kI,RJ,BN,q0,lr,kU,gU,bQ,bL,trivial⟩ λF=>?_;obtain⟨⟨p1,p2,c3Y⟩,c3Z⟩:=cn (cK al);have Fu:L[S[r]-1]? =some (L[S[r]-1]'U):=cK U;obtain⟨a2A,c4a,c4b,_⟩:=jz _ _ Fu;obtain⟨c8z,c8A⟩:=c3Y _ Fu;refine aj ?_;refine W.eG I I I I a2A ?_;refine aj ?_;refine W.oU gx I I I c4b ?_;refine aj ?_;refine W.eG I I I I a2A ?_;refine aj ?_;refine W.oU gx I I I c4a ?_;by_cases oC:r=0
   ·refine aj ?_;exact⟨rfl,rfl,rfl,rfl,rfl,rfl,rfl,rfl,rfl,rfl,rfl,rfl,rfl,rfl,trivial⟩
   ·have c8B:=c3Z (S[r-1]'U) U (cK U);refine aj ?_;exact⟨rfl,rfl,rfl,rfl,rfl,rfl,rfl,rfl,rfl,rfl,rfl,rfl,rfl,rfl,trivial⟩
  ·obtain⟨rfl,RI,ra,kI,RJ,BN,q0,lr,kU,gU,bQ,bL,_⟩:=a0;refine ak.norm (RH (L.map aD.aA) v n m j L.length) ⟨RI,ra,kI,RJ,BN,q0,lr,kU,gU,bQ,bL,trivial⟩ λF=>?_;refine aj ?_;refine W.eG I I I I c3W ?_;refine aj ?_;refine W.oU gx I I I c3X ?_;by_cases eb:(L[j]).op=0
   ·refine aj ?_;exact⟨rfl,rfl,rfl,rfl,rfl,rfl,rfl,rfl,rfl,trivial⟩
   ·obtain⟨vn,nt⟩:=gK.2 eb;have ml:=gK.1;have mj:=fC.1 nt;obtain⟨mj,tO⟩:=mj;have Ft:S[S.length-1]'U=j+1:=by simp only[ml];exact tO
    refine aj ?_;exact⟨rfl,rfl,rfl,rfl,rfl,rfl,rfl,rfl,rfl,trivial⟩
 ·obtain⟨rfl,q0,lr,kU,gU,bQ,bL,_⟩:=a0;exact b8 _ ⟨lr,kU,gU,bQ,bL,trivial⟩
end
def zl(L:List aD)(a c:Nat):Prop:=∃x y,L[a-1]? =some x/\L[c-1]? =some y/\x.op=1/\x.bs=1/\y.bs=1/\(stF (L.map aD.aA) c)[0]? =some a/\(c=L.length\/(stF (L.map aD.aA) (c+1))[0]? ≠some a)
structure B1(b:b5)(K:Nat->List AV->AV->Prop)(lc hY:List AV)(cF:AV):Prop where
 cf:kX b K
 made:bq (b.aV K) Iq kS
 a2B:b.ext u9=0/\b.pure u9=true
 log:K u9 [] (.a9 [.ah lc,.ah hY])
 q9:lc.length=5/\hY.length=5
 kF:∀J,bT J (b.bt+1000) (.ah lc)=some cF
 eq:AV.eqb (b.bt+1000) (.ah lc) (.ah lc)=true
 Kg:b.ext wH=0/\b.pure wH=true
 BV:K wH [] (.b true)
 jK:b.ext yH=0/\b.pure yH=true
 Fc:b.ext me=0/\b.pure me=true
section
variable {Y:Nat->Prop}{τ:ae}{b:b5}{K:Nat->List AV->AV->Prop}{v:AV}{cN:List AV}{L:List aD}{ad:List (List Nat)}{ax:List Nat}{n m:Nat}{lc hY:List AV}{cF:AV}
theorem c4c(hl:B1 b K lc hY cF){e:Nat}{t:Bool}(he:e=0\/e=180)(ht:e=0->t=true){z:Nat->AV}:
  bR (b.aV K) none [] r7.ntmps (ij [1,1,1,1,1,1,1,1,1,1,1,1,1,1,1,1] zk) (bx [(26,.b t),(23,ai e)] z) τ (lT 6 (.b true)):=by
 have H:Has τ []:=Has.nil;refine W.sq ?_;refine aj ?_;rcases he with rfl|rfl
 ·obtain rfl:=ht I;refine aj ?_;refine W.ga hl.cf.fn hl.Kg hl.BV I I I I ?_;refine aj ?_;exact ak.ret ⟨rfl,rfl⟩
 ·refine aj ?_;cases t with
  |true=>
   refine aj ?_;refine W.ga hl.cf.fn hl.Kg hl.BV I I I I ?_;refine aj ?_;exact ak.ret ⟨rfl,rfl⟩
  |false=>
   refine aj ?_;refine W.ga hl.cf.fn hl.Kg hl.BV I I I I ?_;refine aj ?_;exact ak.ret ⟨rfl,rfl⟩
theorem W.ou{cf:lj}{env:Env}{aN:Option Nat}{D:List (Nat ⊕ (AV×List AV))}{n:Nat}{F:List (Nat×AV)}{z:Nat->AV}{J:ae}{Q:ec}{d:Nat}{x y:aI}{g:Option (Nat×Bool)}{ops:List a3}{a c:Nat}(hd:Nat.blt d n=true)(hw:wtL g n F=true)(h1:db env n F z x=some (ai a))(h2:db env n F z y=some (ai c))(h:ch cf env aN D n ops (bx ((d,ai (min a c))::F) z) J Q):ch cf env aN D n (⟨some d,.rm false x y,g,[]⟩::ops) (bx F z) J Q:=by
 refine W.val (v:=ai (min a c)) (ag:=J) hd hw ?_ h;show(match db env n F z x,db env n F z y with|some (.i k a),some (.i l b)=>if k=l then some (bV.val (.i k (if b<a then b else a)) J) else none|_,_=>none)=_;rw[h1,h2];show(if IntKind.i64=IntKind.i64 then some (bV.val (.i .i64 (if(c:Int)<(a:Int) then(c:Int) else(a:Int))) J) else none)=_;rw[if_pos I];have:(if(c:Int)<(a:Int) then(c:Int) else(a:Int))=((min a c:Nat):Int):=by split<;>omega
 rw[this];rfl
theorem W.fG{cf:lj}{env:Env}{aN:Option Nat}{D:List (Nat ⊕ (AV×List AV))}{n:Nat}{F:List (Nat×AV)}{z:Nat->AV}{J:ae}{Q:ec}{d:Nat}{x y:aI}{g:Option (Nat×Bool)}{ops:List a3}{a c:Nat}(hd:Nat.blt d n=true)(hw:wtL g n F=true)(h1:db env n F z x=some (ai a))(h2:db env n F z y=some (ai c))(h:ch cf env aN D n ops (bx ((d,ai (max a c))::F) z) J Q):ch cf env aN D n (⟨some d,.rm true x y,g,[]⟩::ops) (bx F z) J Q:=by
 refine W.val (v:=ai (max a c)) (ag:=J) hd hw ?_ h;show(match db env n F z x,db env n F z y with|some (.i k a),some (.i l b)=>if k=l then some (bV.val (.i k (if b > a then b else a)) J) else none|_,_=>none)=_;rw[h1,h2];show(if IntKind.i64=IntKind.i64 then some (bV.val (.i .i64 (if(c:Int) > (a:Int) then(c:Int) else(a:Int))) J) else none)=_;rw[if_pos I];have:(if(c:Int) > (a:Int) then(c:Int) else(a:Int))=((max a c:Nat):Int):=by split<;>omega
 rw[this];rfl
theorem c4d(hV:o6 Y τ v cN L)(a5:L≠[])(h:Rd L ad ax)(hL:L.length<=35){e a c:Nat}(ha:1<=a/\a<=L.length)(ab:1<=c/\c<=L.length)(hi:e=0->zl L a c){z:Nat->AV}{Q:ec}(key:∀ {t:Bool} {F:Nat->AV},F 26= .b t->F 23=ai e->(e=0->t=true)->Q .normal F τ):
  bR (b.aV K) none [] r7.ntmps (ij [1,1,1,1,1,1,1,1,1,1,1,1,1,1,1,0] zk) (bx [(25,ai c),(24,ai a),(23,ai e),(10,jn (L.map aD.aA)),(9,v)] z) τ Q:=by
 have H:Has τ []:=Has.nil;obtain⟨o,iS,fE,gx,jz⟩:=hV.ex a5;have xg:(L.map aD.aA).length=L.length:=b0 _;have x5:=Kf (L.map aD.aA) (J:=τ);have pr:((List.range (L.map aD.aA).length).map (lV (L.map aD.aA))).length=L.length:=by rw[b0,lZ,xg]
 have oe:=hV.len;have a2C:L[a-1]? =some (L[a-1]'U):=cK U;have yi:L[c-1]? =some (L[c-1]'U):=cK U;obtain⟨JZ,a2D,c4e,_⟩:=jz _ _ a2C;obtain⟨QM,a2E,_,_⟩:=jz _ _ yi;have cn:=(h.Kc U (show c-1<L.length by omega)).1;have m9:=Ke (L.map aD.aA) (c-1) (J:=τ);rw[show c-1+1=c by omega] at cn m9;have kL:(stF (L.map aD.aA) c).length<2^20:=by
  have:=((h.ix U).num _ (J_ (bJ (show c-1<L.length by omega)))).1;rw[cn];have:(L[c-1]'U).aA.bs=(L[c-1]'U).bs:=rfl;omega
 have hi:e=0->(L[a-1]'U).op=1/\(L[a-1]'U).bs=1/\(L[c-1]'U).bs=1/\(stF (L.map aD.aA) c)[0]? =some a/\(c=L.length\/(stF (L.map aD.aA) (c+1))[0]? ≠some a):=λh0=>by
  obtain⟨x,y,h1,h2,h3⟩:=hi h0;cases a2C.symm.trans h1;cases yi.symm.trans h2;exact h3
 refine aj ?_;refine W.eG I I I I JZ ?_;refine aj ?_;refine W.oU gx I I I c4e ?_;generalize(L[a-1]'U).op=oD at hi;generalize(L[a-1]'U).bs=wS at hi a2D;generalize(L[c-1]'U).bs=c4f at hi a2E cn;by_cases h1:oD=1
 ·refine aj ?_;refine W.eG I I I I JZ ?_;refine aj ?_;refine W.oU gx I I I a2D ?_;by_cases h2:wS=1
  ·refine aj ?_;refine W.eG I I I I QM ?_;refine aj ?_;refine W.oU gx I I I a2E ?_;by_cases h3:c4f=1
   ·refine aj ?_;rw[e_,qc];refine W.eG (j:=0) I I I I (m9.eG U) ?_;refine W.le I I I (m9.az U) ?_;by_cases aQ:(stF (L.map aD.aA) c)[0]'U=a
    ·have c8C:=hV.ao.vw;refine aj ?_;by_cases bF:c=L.length
     ·refine aj ?_;exact key I I λ_=>rfl
     ·refine aj ?_;rw[e_,qc];have Kh:=Ke (L.map aD.aA) c (J:=τ);have nS:=(h.Kc U (show c<L.length by omega)).1;have c4g:(stF (L.map aD.aA) (c+1)).length<2^20:=by
       have:=((h.ix U).num _ (J_ (bJ (show c<L.length by omega)))).1;rw[nS];have:(L[c]'U).aA.bs=(L[c]'U).bs:=rfl;omega
      generalize stF (L.map aD.aA) (c+1)=a2F at Kh c4g hi;clear nS;refine W.len I I I (Kh.len _) ?_;by_cases cw:a2F.length=0
      ·refine aj ?_;exact key I I λ_=>rfl
      ·refine aj ?_;rw[e_,qc];refine W.eG (j:=0) I I I I (Kh.eG U) ?_;refine W.le I I I (Kh.az U) ?_;by_cases eL:a2F[0]'U=a
       ·refine aj ?_;exact key I I λh0=>by
         rcases(hi h0).2.2.2.2 with iF|iF
         ·exact absurd iF bF
         ·exact absurd (by rw[cK U,eL]) iF
       ·refine aj ?_;exact key I I λ_=>rfl
    ·refine aj ?_;exact key I I λh0=>absurd ((hi h0).2.2.2.1) (by rw[cK U];exact λh=>aQ (il h))
   ·refine aj ?_;exact key I I λh0=>absurd (hi h0).2.2.1 h3
  ·refine aj ?_;exact key I I λh0=>absurd (hi h0).2.1 h2
 ·refine aj ?_;exact key I I λh0=>absurd (hi h0).1 h1
theorem c4h(hl:B1 b K lc hY cF)(hV:o6 Y τ v cN L)(a5:L≠[])(h:Rd L ad ax)(hL:L.length<=35){e p q:Nat}(he:e=0\/e=180)(au:1<=p/\p<=L.length)(aX:1<=q/\q<=L.length)(hi:e=0->zl L (min p q) (max p q)){z:Nat->AV}:
  bR (b.aV K) none [] r7.ntmps (ij [1,1,1,1,1,1,1,1,1,1,1,1,1,1] zk) (bx [(23,ai e),(20,ai p),(16,ai q),(10,jn (L.map aD.aA)),(9,v)] z) τ (lT 6 (.b true)):=by
 have H:Has τ []:=Has.nil;refine W.sq (W.rg ?_);refine eO ?_;refine W.ou I I I I ?_;refine eO ?_;refine W.fG I I I I ?_;refine eO ?_;refine W.nil (ak.seq ?_);exact ak.norm [(25,ai (max p q)),(24,ai (min p q)),(23,ai e),(10,jn (L.map aD.aA)),(9,v)] ⟨rfl,rfl,rfl,rfl,rfl,trivial⟩ λF=>c4d hV a5 h hL U U hi λh1 h2 h3=>ak.norm [_,_] ⟨h1,h2,trivial⟩ λF=>c4c hl he h3
end
theorem Sl.a2G{τ:ae}{aa:Option Nat}{v:AV}{xs:List AV}(h:Sl τ aa v xs):newOf τ v=some xs:=by
 cases h with
 |nil=>rfl
 |ao o cap xs rest h ab ay=>exact(Sl.ao (aa:=aa) o cap xs rest h ab ay).read
abbrev p7(k eR:Nat):List AV:=[ai 0,ai 0,.b false,.i .u8 6,.s [],.af,.ao k 0 2 (some 4) (some 2),.s ly,.ao eR 0 1 (some 2) (some 1)]
section
variable {Y:Nat->Prop}{τ:ae}{b:b5}{K:Nat->List AV->AV->Prop}{v:AV}{cN:List AV}{L:List aD}{ad:List (List Nat)}{ax:List Nat}{n m:Nat}{lc hY:List AV}{cF:AV}
theorem c4i(hl:B1 b K lc hY cF)(hV:o6 Y τ v cN L)(h0:τ.get 0=some (.cells lc))(a5:L≠[])(h:Rd L ad ax)(hL:L.length<=35)(hm:m<256){q:Nat}(aX:1<=q/\q<=L.length)
  (oW:∀p q x y,1<=p->1<=q->L[p-1]? =some x->L[q-1]? =some y->∃r,K me [cF,cC (L.map aD.aA++[(gh x.f y.f (min p q) (max p q)).aA])] r/\∃aA cD cy cz ax e,r=tY aA cD cy cz ax e/\(e=0\/e=180)/\(e=0->zl L (min p q) (max p q))) {z:Nat->AV}:
  bR (b.aV K) none [] r7.ntmps (ij [1,1,1,1,1,1,1,1,1,1] zk) (bx [(16,ai q),(10,jn (L.map aD.aA)),(9,v),(7,aT 0),(2,uB m)] z) τ (lT 6 (.b true)):=by
 have BK:0<L.length:=oj.2 a5;have oe:=hV.len;have H:Has τ []:=Has.nil;obtain⟨o,iS,fE,gx,jz⟩:=hV.ex a5;refine W.sq ?_;refine aj ?_;refine W.val (v:=ai m) (ag:=τ) I I (by
  show some (bV.val (.i .i64 (wrapN .i64 (Int.ofNat m))) τ)=_;rw[Au U]) ?_
 refine aj ?_;refine W.len I I I hV.ao.len ?_;rw[oe];refine W.bin I I I I (uY (c:=L.length) U) ?_;have DH:m%L.length<L.length:=vu _ BK;refine W.bin I I I I (pI (a:=1) (b:=m%L.length) U) ?_;generalize c8D:1+m%L.length=p;have au:1<=p/\p<=L.length:=by omega
 refine j5 ?_;have Fu:L[p-1]? =some (L[p-1]'U):=cK U;have Fv:L[q-1]? =some (L[q-1]'U):=cK U;obtain⟨c4j,_,_,wp,c4k,a2H⟩:=jz _ _ Fu;obtain⟨RK,_,_,Fw,Ki,zm⟩:=jz _ _ Fv;have HB:gf τ [(o,iS)]:=gf.nil.cons gx;refine W.sv [(o,iS)] [14] 17 I I ?_;refine e9 ?_;refine W.eG I I I I c4j ?_;refine e9 ?_;have qZ:(L[p-1]'U).f.dep<=40:=by have:=(h.low U (bJ (show p-1<L.length by omega))).1;omega
 have c4l:(L[q-1]'U).f.dep<=40:=by have:=(h.low U (bJ (show q-1<L.length by omega))).1;omega
 refine W.o0 gx (.head _) I I I I c4k ?_ ?_
 ·exact a2H.eqb _ (br _) (by show _<=b.bt+1000;omega)
 refine e9 ?_;refine W.eG I I I I RK ?_;refine e9 ?_;refine W.o0 gx (.head _) I I I I Ki ?_ ?_
 ·exact zm.eqb _ (br _) (by show _<=b.bt+1000;omega)
 generalize mI:τ.next=k;refine W.bI (c:=eT (L[p-1]'U).f wp++eT (L[q-1]'U).f Fw) (k:=k) H mI I I I λeN c_ H bG=>?_;refine W.cB (c:=[ai 0,ai 0,.b false,.i .u8 0,.s [],.af,.af,.s [],.af]) H c_ I I I λbl ei H bw=>?_;refine W.km (HB.aS λi o ho=>bw _ _ (bG _ _ ho)) I ?_;refine W.aq (hl.cf.q.one I) I I I (q_ hl.cf.pY I I) λr bZ ⟨ar,fc,bg⟩=>⟨_,ar,?_⟩
 have H:=H.aS bg;refine W.aq (hl.cf.q.one I) I I I (P7 hl.cf.li I I (l:=[]) .nil ca) λr cG ⟨ft,ar,y4,fF,b9⟩=>⟨_,ar,?_⟩
 have H:=H.aS b9;have pj:ft= .af:=by
  cases y4 with
  |nil=>rfl
  |ao _ _ _ _ _ _ _ _ a5=>exact absurd I a5
  |a_ _ _ a5=>exact absurd I a5
 subst pj;refine W.st (bX:=[ai 0,ai 0,.b false,.i .u8 6,.s [],.af,.ao k 0 2 (some 4) (some 2),.s ly,.af]) H 0 I I I I I I λdq iU H c9=>?_;have c6:∀i o,i<k->τ.get i=some o->dq.get i=some o:=λi o hi ho=>c9 _ _ U (b9 _ _ (bg _ _ (bw _ _ (bG _ _ ho))));refine W.AE ?_;refine j5 ?_;refine W.ou I I I I ?_;refine j5 ?_;refine W.fG I I I I ?_;generalize Kj:dq.next=eR;refine j5 ?_;refine W.bI (c:=[ai (min p q),ai (max p q)]) H Kj I I I λeA jC H eu=>?_;refine j5 ?_;refine W.st (bX:=p7 k eR) H 1 I I I I I I λe6 l_ H gX=>?_;have yR:∀i o,i<k->τ.get i=some o->e6.get i=some o:=λi o hi ho=>gX _ _ U (eu _ _ (c6 i o hi ho));refine j5 ?_;have a2I:=yR _ _ (by have:=ae.bE h0;omega) h0;have a2J:=H.get (k+1,p7 k eR) aG;have HB:gf e6 [(0,lc),(k+1,p7 k eR)]:=(gf.nil.cons a2J).cons a2I;refine W.sv [(0,lc),(k+1,p7 k eR)] [6,7,8] 14 I I ?_;refine W.o0 a2I (.head _) I I I I (v:=.ah lc) (by show(if(lc.take 5).length=5 then some (AV.ah (lc.take 5)) else none)=_;rw[sr (P1 hl.q9.1),if_pos hl.q9.1]) hl.eq ?_;generalize RL:e6.next=p8;refine W.bI (c:=[]) H RL I I I λfI tb H nu=>?_;have c4m:=HB;have HB:=HB.aS nu;refine e9 ?_;refine W.bI (c:=p7 k eR) H tb I I I λj1 qC H kf=>?_;refine W.cB (c:=[ai 0,.i .u8 0,.i .u8 0,ai 0,ai 0]) H qC I I I λRM MF H c4n=>?_;have Kk:∀i o,e6.get i=some o->RM.get i=some o:=λi o ho=>c4n _ _ (kf _ _ (nu _ _ ho));have c4o:=c4m.aS Kk;refine W.km c4o I ?_;have a2K:Sl RM (some 9) v cN:=hV.ao.aS λi o hi ho=>Kk _ _ (yR _ _ (by have:=ae.bE ho;omega) ho);have n0:∀i o,τ.get i=some o->i<k:=λi o ho=>by have:=ae.bE ho;omega
 have c8E:k+3<=p8:=by
  have:e6.next=p8:=RL;have:=fc;have:=fF;omega
 obtain⟨y,ba,q8⟩:∃y ba,cN=y::ba:=by
  cases mB:cN with
  |nil=>rw[mB] at oe;simp at oe;omega
  |cons y ba=>exact⟨y,ba,rfl⟩
 have RN:=H.get (p8,[]) aG;refine W.ap (xs:=[]) y ba (Sl.ao p8 (some 0) [] [] RN aG (.inr I)) (by rw[a2K.a2G,q8]) (by rw[<-q8];exact a2K.conf) (by rw[<-q8,oe];show(3*(0+L.length)+2000)*136<=_;omega) I I I I λv1 B2 a2 bm cx UX a2L=>?_;rw[<-q8] at a2;have a2:Sl B2 (some 9) v1 cN:=a2;have H:=H.erase 2 I λi o hi ho=>a2L i o (λe=>hi (il e).symm) ho;have a2M:∀i o,i≠p8->RM.get i=some o->B2.get i=some o:=λi o hi ho=>a2L i o (λe=>hi (il e).symm) ho;have vh:∀i o,i<k->τ.get i=some o->B2.get i=some o:=λi o hi ho=>a2M _ _ U (Kk _ _ (yR i o hi ho));have c4p:gf B2 [(0,lc),(k+1,p7 k eR)]:=(gf.nil.cons (a2M _ _ U (Kk _ _ a2J))).cons (vh _ _ (n0 _ _ h0) h0);refine W.km c4p I ?_;have kb:=H.get (p8+1,p7 k eR) aG;refine W.ap (xs:=cN) (w:=.ao (p8+1) 0 1 (some 9) (some 1)) (.ah (p7 k eR)) [] a2 ?_ (λz bb=>by rw[cu.1 bb];rfl) (by rw[oe];show(3*(L.length+1)+2000)*136<=_;omega) I I I I λv2 zn gC lN qK c8F dZ=>?_
 ·show(match B2.get (p8+1) with|some (.cells c)=>elems (some 9) 1 (c.drop 0)|_=>none)=_;rw[kb];rfl
 have a2N:∀i o,i<p8+3->B2.get i=some o->zn.get i=some o:=λi o hi ho=>dZ i o (λe=>by rw[bm] at e;have:=il e;omega) ho;have iJ:k+2<=eR/\eR+1<=p8:=by
  have:=fc;have:=fF;have:=Kj;have:=RL;omega
 have H:Has zn [(p8+1+1,[ai 0,.i .u8 0,.i .u8 0,ai 0,ai 0]),(p8+1,p7 k eR),(eR,[ai (min p q),ai (max p q)]),(k+1,p7 k eR),(k,eT (L[p-1]'U).f wp++eT (L[q-1]'U).f Fw)]:=⟨λr al=>a2N _ _ (by
  simp only[dF,gT,or_false] at al;rcases al with rfl|rfl|rfl|rfl|rfl<;>(show _<p8+3)<;>simp only[]<;>omega) (H.get r al),H.u0⟩
 have kI:∀i o,i<k->τ.get i=some o->zn.get i=some o:=λi o hi ho=>a2N _ _ U (vh i o hi ho);refine W.km (fB:=[(0,lc),(k+1,p7 k eR)]) ((gf.nil.cons (H.get (k+1,p7 k eR) aG)).cons (kI _ _ (n0 _ _ h0) h0)) I ?_;obtain⟨r,cU,aA,cD,cy,cz,iL,e,rfl,he,xG⟩:=oW p q _ _ au.1 aX.1 Fu Fv;have c4q:o6 Y zn v cN L:=hV.aS λi o ho=>kI i o (n0 _ _ ho) ho;have jx:j4 (λ_=>True) zn (gh (L[p-1]'U).f (L[q-1]'U).f (min p q) (max p q)) (.ah (p7 k eR)):=by
  refine .mk _ _ (.mk (.bin 2 (L[p-1]'U).f (L[q-1]'U).f) (.ao k 0 2 (some 4) (some 2)) [.ah (eT (L[p-1]'U).f wp),.ah (eT (L[q-1]'U).f Fw)] I ?_ ?_) ?_
  ·exact .ao k (some 2) [.ah (eT (L[p-1]'U).f wp),.ah (eT (L[q-1]'U).f Fw)] [] trivial (by have:=H.get (k,eT (L[p-1]'U).f wp++eT (L[q-1]'U).f Fw) aG;exact this) (λy hy=>by
    simp only[dF,gT,or_false] at hy;rcases hy with rfl|rfl<;>rfl) (.inr I) aG
  ·have a2O:∀i c,Y i->τ.get i=some (.cells c)->True/\zn.get i=some (.cells c):=λi c _ ab=>⟨trivial,kI _ _ (n0 _ _ ab) ab⟩
   intro i h1 h2
   match i,h1,h2 with
   |0,_,_=>exact a2H.aS a2O _ (br _)
   |1,_,_=>exact zm.aS a2O _ (br _)
   |i+2,h1,_=>simp at h1;omega
  ·exact .ao eR (some 1) [.ah [ai (min p q),ai (max p q)]] [] trivial (by have:=H.get (eR,[ai (min p q),ai (max p q)]) aG;exact this) (λy hy=>by rw[cu.1 hy];rfl) (.inr I) aG
 have RO:bT zn (b.bt+1000) v2=some (cC (L.map aD.aA++[(gh (L[p-1]'U).f (L[q-1]'U).f (min p q) (max p q)).aA])):=by
  have:=QQ (b:=b) (W:=λ_=>True) (L:=L++[gh (L[p-1]'U).f (L[q-1]'U).f (min p q) (max p q)]) gC aG (by rw[c4,c4,oe];rfl) (λi h1 h2=>by
   by_cases hi:i<L.length
   ·rw[g9 hi,g9 U];exact(c4q.li i U hi).aS λi c _ ab=>⟨trivial,ab⟩
   ·have:i=L.length:=by rw[c4] at h2;simp at h2;omega
    subst this;rw[ri U,ri U];simp only[P2];exact jx) (λx hx=>by
   rcases eP.1 hx with hx|hx
   ·have:=(h.low U hx).1;omega
   ·rw[cu.1 hx];show max _ _+1<=200;omega)
  rw[g_] at this;exact this
 refine W.ga hl.cf.fn hl.Fc cU I I I (pJ (hl.kF _) RO) ?_;refine e9 ?_;refine W.st (bX:=[ai aA,.i .u8 (Int.ofNat cD),.i .u8 (Int.ofNat cy),ai cz,ai iL]) H 0 I I I I I I λc8G c8H H eH=>?_;refine e9 ?_;refine ak.norm [(23,ai e),(20,ai p),(16,ai q),(10,jn (L.map aD.aA)),(9,v)] ⟨rfl,rfl,rfl,rfl,rfl,trivial⟩ λF=>?_;exact c4h hl (hV.aS λi o ho=>eH _ _ (by have:=n0 _ _ ho;omega) (kI i o (n0 _ _ ho) ho)) a5 h hL he au aX xG
end
section
variable {Y:Nat->Prop}{τ:ae}{b:b5}{K:Nat->List AV->AV->Prop}{v:AV}{cN:List AV}{L:List aD}{ad:List (List Nat)}{ax:List Nat}{n m:Nat}{lc hY:List AV}{cF:AV}
theorem c4r(hl:B1 b K lc hY cF)(hV:o6 Y τ v cN L)(h0:τ.get 0=some (.cells lc))(a5:L≠[])(h:Rd L ad ax)(hL:L.length<=35)(hn:n<256)(hm:m<256)
  (hA:∀q x,1<=q->L[q-1]? =some x->∃r,K me [cF,cC (L.map aD.aA++[(m8 x.f q).aA])] r/\∃aA cD cy cz ax e,r=tY aA cD cy cz ax e/\(stF (L.map aD.aA) q=[]->e=0)/\(stF (L.map aD.aA) q≠[]->e=180/\aA=L.length+1/\cD=5/\cy=0/\cz=0/\ax=0))
  (oW:∀p q x y,1<=p->1<=q->L[p-1]? =some x->L[q-1]? =some y->∃r,K me [cF,cC (L.map aD.aA++[(gh x.f y.f (min p q) (max p q)).aA])] r/\∃aA cD cy cz ax e,r=tY aA cD cy cz ax e/\(e=0\/e=180)/\(e=0->zl L (min p q) (max p q))) {z:Nat->AV}:
  bR (b.aV K) none [] r7.ntmps (ij [1,1,1,1,1,1] zk) (bx (vD (L.map aD.aA) v n m) z) τ (lT 6 (.b true)):=by
 have BK:0<L.length:=oj.2 a5;have oe:=hV.len;have H:Has τ []:=Has.nil;obtain⟨o,iS,fE,gx,jz⟩:=hV.ex a5;refine W.sq ?_;refine j5 ?_;refine W.val (v:=ai n) (ag:=τ) I I (by
  show some (bV.val (.i .i64 (wrapN .i64 (Int.ofNat n))) τ)=_;rw[Au U]) ?_
 refine j5 ?_;refine W.len I I I hV.ao.len ?_;rw[oe];refine W.bin I I I I (uY (c:=L.length) U) ?_;have DH:n%L.length<L.length:=vu _ BK;refine W.bin I I I I (pI (a:=1) (b:=n%L.length) U) ?_;generalize c8I:1+n%L.length=q;have aX:1<=q/\q<=L.length:=by omega
 refine j5 ?_;have Fv:L[q-1]? =some (L[q-1]'U):=cK U;obtain⟨RK,_,_,bW,Ki,zm⟩:=jz _ _ Fv;have kp:=h.low U (bJ (show q-1<L.length by omega));obtain⟨r,cU,aA,cD,cy,cz,iL,e,rfl,a2P,gD⟩:=hA q _ aX.1 Fv;generalize hx:L[q-1]'U=x at Ki zm kp cU;have c4l:x.f.dep<=40:=by have:=kp.1;omega
 have mF:bW.cells=[bW]/\bW.val=true/\conf none bW=true:=by
  cases zm with
  |mk _ _ xs hl hw hx=>exact hw.one
 have HB:gf τ [(o,iS)]:=gf.nil.cons gx;refine W.sv [(o,iS)] [10,11] 15 I I ?_;generalize mI:τ.next=k;have n0:∀i o,τ.get i=some o->i<k:=λi o ho=>by have:=ae.bE ho;omega
 refine W.bI (c:=[]) H mI I I I λeN c_ H bG=>?_;refine e9 ?_;refine W.eG I I I I RK ?_;refine e9 ?_;refine W.o0 (bG _ _ gx) (.head _) I I I I Ki ?_ ?_
 ·exact zm.eqb _ (br _) (by show _<=b.bt+1000;omega)
 refine e9 ?_;refine W.bI (c:=[ai q]) H c_ I I I λbl ei H bw=>?_;have RP:∀i o,τ.get i=some o->bl.get i=some o:=λi o ho=>bw _ _ (bG _ _ ho);refine W.km (HB.aS RP) I ?_;have lJ:Sl bl (some 9) v cN:=hV.ao.aS λi o _ ho=>RP _ _ ho;obtain⟨y,ba,q8⟩:∃y ba,cN=y::ba:=by
  cases mB:cN with
  |nil=>rw[mB] at oe;simp at oe;omega
  |cons y ba=>exact⟨y,ba,rfl⟩
 have RN:=H.get (k,[]) aG;refine W.ap (xs:=[]) y ba (Sl.ao k (some 0) [] [] RN aG (.inr I)) (by rw[lJ.a2G,q8]) (by rw[<-q8];exact lJ.conf) (by rw[<-q8,oe];show(3*(0+L.length)+2000)*136<=_;omega) I I I I λv1 bZ a2 bm cx fc bg=>?_;rw[<-q8] at a2;have a2:Sl bZ (some 9) v1 cN:=a2;have a2Q:∀i o,i≠k->bl.get i=some o->bZ.get i=some o:=λi o hi ho=>bg i o (λe=>hi (il e).symm) ho;have H:Has bZ [(k+1,[ai q])]:=Has.nil.cons (a2Q _ _ U (H.get (k+1,[ai q]) aG)) aG;have cm:∀i o,i<k->τ.get i=some o->bZ.get i=some o:=λi o hi ho=>a2Q _ _ U (RP i o ho);refine W.km (gf.nil.cons (cm _ _ (n0 _ _ gx) gx)) I ?_;have Z9:o6 Y bZ v cN L:=hV.aS λi o ho=>cm i o (n0 _ _ ho) ho;refine W.aq (hl.cf.q.one I) I I I (P7 hl.cf.li (l:=[q]) mF.1 mF.2.1 (.ao (k+1) (some 1) [ai q] [] (by have:=H.get (k+1,[ai q]) aG;exact this) (λy hy=>by rw[cu.1 hy];rfl) (.inr I)) (by show 1<_;decide)) λr cG ⟨ft,ar,y4,fF,b9⟩=>⟨_,ar,?_⟩
 have ep:Sl cG (some 9) v1 cN:=a2.aS λi o _ ho=>b9 _ _ ho;refine W.pu (c:=[ai 0,ai 0,.b false,.i .u8 (Int.ofNat x.f.op),.s x.f.b7,.af,bW,.s jJ,ft]) (.ah [ai 0,ai 0,.b false,.i .u8 (Int.ofNat x.f.op),.s x.f.b7,.af,bW,.s jJ,ft]) ep I I I I I I I I I (by rw[oe];omega) λv2 dq gC lN qK iU c9=>?_;have dB:∀i o,i<k+2->bZ.get i=some o->dq.get i=some o:=λi o hi ho=>c9 _ _ (λe=>by rw[bm] at e;have:=il e;omega) (b9 _ _ ho);have RQ:∀i o,i<k->τ.get i=some o->dq.get i=some o:=λi o hi ho=>dB _ _ U (cm i o hi ho);have a2R:o6 Y dq v cN L:=hV.aS λi o ho=>RQ i o (n0 _ _ ho) ho;have jx:j4 (λ_=>True) dq (m8 x.f q) (.ah [ai 0,ai 0,.b false,.i .u8 (Int.ofNat x.f.op),.s x.f.b7,.af,bW,.s jJ,ft]):=by
  refine .mk _ _ (zm.aS (λi c _ ab=>⟨trivial,RQ _ _ (n0 _ _ ab) ab⟩) _ (br _)) (y4.aS λi c hi ab=>⟨trivial,c9 _ _ (λe=>by rw[bm] at e;have:=il e;omega) ab⟩)
 have RO:bT dq (b.bt+1000) v2=some (cC (L.map aD.aA++[(m8 x.f q).aA])):=by
  have:=QQ (b:=b) (W:=λ_=>True) (L:=L++[m8 x.f q]) gC aG (by rw[c4,c4,oe];rfl) (λi h1 h2=>by
   by_cases hi:i<L.length
   ·rw[g9 hi,g9 U];exact(a2R.li i U hi).aS λi c _ ab=>⟨trivial,ab⟩
   ·have:i=L.length:=by rw[c4] at h2;simp at h2;omega
    subst this;rw[ri U,ri U];simp only[P2];exact jx) (λy hy=>by
   rcases eP.1 hy with hy|hy
   ·have:=(h.low U hy).1;omega
   ·rw[cu.1 hy];show x.f.dep<=200;omega)
  rw[g_] at this;exact this
 refine e9 ?_;have a2S:=RQ _ _ (n0 _ _ h0) h0;have H:Has dq [(0,lc)]:=Has.nil.cons a2S aG;refine j5 ?_;refine W.az H I I I (.head _) (v:=.ah lc) (by show(if(lc.take 5).length=5 then some (AV.ah (lc.take 5)) else none)=_;rw[sr (P1 hl.q9.1),if_pos hl.q9.1]) ?_;refine j5 ?_;refine W.ga hl.cf.fn hl.Fc cU I I I (pJ (hl.kF _) RO) ?_;refine j5 ?_;generalize Kj:dq.next=eR;refine W.lk (c:=[ai aA,.i .u8 (Int.ofNat cD),.i .u8 (Int.ofNat cy),ai cz,ai iL]) H Kj I I I I I I λeA jC H eu=>?_;have xg:(L.map aD.aA).length=L.length:=b0 _;have x5:=Kf (L.map aD.aA) (J:=eA);have pr:((List.range (L.map aD.aA).length).map (lV (L.map aD.aA))).length=L.length:=by rw[b0,lZ,xg]
 have m9:=Ke (L.map aD.aA) (q-1) (J:=eA);have cn:=(h.Kc U (show q-1<L.length by omega)).1;rw[show q-1+1=q by omega] at cn m9;have kL:(stF (L.map aD.aA) q).length<2^20:=by
  have:=((h.ix U).num _ (J_ (bJ (show q-1<L.length by omega)))).1;rw[cn];have:(L[q-1]'U).aA.bs=(L[q-1]'U).bs:=rfl;omega
 clear cn;generalize stF (L.map aD.aA) q=S at m9 kL a2P gD;refine j5 ?_;rw[e_,qc];refine W.len I I I (m9.len _) ?_;have key:∀ {F:Nat->AV},sat ((16,ai q)::vD (L.map aD.aA) v n m) F->bR (b.aV K) none [] r7.ntmps (ij [1,1,1,1,1,1,1,1,1,1] zk) F eA (lT 6 (.b true)):=λ{F} b4=>by
  obtain⟨sl,lr,kU,gU,bQ,bL,_⟩:=b4;refine ak.norm [(16,ai q),(10,jn (L.map aD.aA)),(9,v),(7,aT 0),(2,uB m)] ⟨sl,lr,kU,gU,bQ,trivial⟩ λF=>?_;exact c4i hl (a2R.aS λi o ho=>eu _ _ ho) (eu _ _ a2S) a5 h hL hm aX oW
 by_cases cW:S.length=0
 ·obtain rfl:=a2P (EG.1 cW);refine eO ?_;rw[e_,qc];refine W.len I I I (m9.len _) ?_;refine eO ?_;refine W.nil (W.mM I ?_);refine ak.skip ?_;exact key ⟨rfl,rfl,rfl,rfl,rfl,rfl,trivial⟩
 ·obtain⟨rfl,rfl,rfl,rfl,rfl,rfl⟩:=gD (λe=>cW (by rw[e];rfl));refine eO ?_;rw[e_,qc];refine W.len I I I (m9.len _) ?_;refine eO ?_;refine W.len I I I hV.ao.len ?_;rw[oe];refine eO ?_;rw[show decide (Int.ofNat (L.length+1)=Int.ofNat (L.length+1))=true from decide_eq_true I];refine eO ?_;refine W.nil (W.mM I ?_);refine ak.skip ?_;exact key ⟨rfl,rfl,rfl,rfl,rfl,rfl,trivial⟩
end
section
variable {b:b5}{K:Nat->List AV->AV->Prop}{lc hY:List AV}{cF cI:AV}
theorem c4s(hl:B1 b K lc hY cF){code:List Nat}(av:∀τ,hU τ none cI (code.map uB))(k7:cI.cells=[cI]/\cI.val=true)(gq:code.length<2^62)(yT:∀x∈code,x<256){n m:Nat}(hn:n<256)(hm:m<256)
  (b3:∀L ad ax,Rd L ad ax->L.length<=35->L≠[]->K yH [cC (L.map aD.aA)] (.a9 [jn (L.map aD.aA),ai 0]))
  (hA:∀L ad ax,Rd L ad ax->L.length<=35->∀q x,1<=q->L[q-1]? =some x->∃r,K me [cF,cC (L.map aD.aA++[(m8 x.f q).aA])] r/\∃aA cD cy cz ax e,r=tY aA cD cy cz ax e/\(stF (L.map aD.aA) q=[]->e=0)/\(stF (L.map aD.aA) q≠[]->e=180/\aA=L.length+1/\cD=5/\cy=0/\cz=0/\ax=0))
  (oW:∀L ad ax,Rd L ad ax->L.length<=35->∀p q x y,1<=p->1<=q->L[p-1]? =some x->L[q-1]? =some y->∃r,K me [cF,cC (L.map aD.aA++[(gh x.f y.f (min p q) (max p q)).aA])] r/\∃aA cD cy cz ax e,r=tY aA cD cy cz ax e/\(e=0\/e=180)/\(e=0->zl L (min p q) (max p q))) (body:bO) (iB:r7.body=some body):
  ak (b.aV K) r7.ntmps body (gO [cI,uB n,uB m]) ⟨.nil,0⟩ (lT 6 (.b true)):=by
 cases iB;refine W.args λz=>?_;have H:Has (⟨.nil,0⟩:ae) []:=Has.nil;refine aj ?_;refine W.ga hl.cf.fn hl.a2B hl.log I I I I ?_;have kL:conf (some 5) (.ah lc)=true:=by show Nat.beq lc.length 5=true;rw[hl.q9.1];rfl
 have Eo:conf (some 5) (.ah hY)=true:=by show Nat.beq hY.length 5=true;rw[hl.q9.2];rfl
 refine aj ?_;refine W.cB (k:=0) H I I I I λeN c_ H bG=>?_;refine W.cB (k:=1) H c_ I I I λbl ei H bw=>?_;refine W.st (bX:=lc) H 1 I I I I kL (by exact storeAll hl.q9.1) λbZ fc H bg=>?_;refine W.st (bX:=hY) H 0 I I I I Eo (by exact storeAll hl.q9.2) λcG fF H b9=>?_;refine aj ?_;refine W.aq trivial I I I (c1q hl.cf hl.made av k7 gq yT) λr dq ⟨L,ad,ax,v,cN,bN,ar,hR,Ah,a5,hL,an,fh,gr,hk,c4t,c8J,kH⟩=>⟨_,ar,?_⟩
 have BK:0<L.length:=oj.2 a5;have hV:o6 (λi=>¬bN i) dq v cN L:=⟨an,fh,gr,λo ho b_=>b_ (c4t o ho)⟩
 have c4u:∀x∈L,x.f.dep<=200:=λx hx=>by have:=(hR.low U hx).1;omega
 have kG:=QQ (b:=b) an a5 fh gr c4u;have H:=H.aS kH.2;have h0:=H.get (0,lc) aG;refine aj ?_;refine W.ga hl.cf.fn hl.jK (b3 L ad ax hR hL a5) I I I (qH kG) ?_;refine aj ?_;have xg:(L.map aD.aA).length=L.length:=b0 _;have x5:=Kf (L.map aD.aA) (J:=dq);have pr:((List.range (L.map aD.aA).length).map (lV (L.map aD.aA))).length=L.length:=by rw[b0,lZ,xg]
 rw[pr];refine W.len I I I hV.ao.len ?_;rw[fh];refine eO ?_;refine W.nil (W.mM I ?_);refine ak.skip (ak.seq ?_);refine ak.norm (vD (L.map aD.aA) v n m) ⟨rfl,rfl,rfl,rfl,rfl,trivial⟩ λF=>?_;refine c3V hV a5 hR hL λF b4=>?_;exact ak.norm (vD (L.map aD.aA) v n m) b4 λF=>c4r hl hV h0 a5 hR hL hn hm (hA L ad ax hR hL) (oW L ad ax hR hL)
end
end Go.Lyc
end
noncomputable section
namespace Go.Lyc
set_option maxHeartbeats 0
variable [Tok][TokOk]
open Go.RowKit Go.Lyc.T
section
variable {P:Program}{b:b5}{l:lu}{R:List dj}{lc hY:List AV}(G:GivM P b (l.A true) (.a9 [.ah lc,.ah hY]))(hl:zj b l R)
theorem kZ.c4v(fb:kZ b)(hb:kg P b)(eB:rh P b (l.A true) (.a9 [.ah lc,.ah hY]))(ab:RC b l lc hY):B1 b (p4 P b l (.a9 [.ah lc,.ah hY])) lc hY (l.A true) where
 cf:=fb.cf hb eB
 made:=fb.Made.h
 a2B:=fb.vB I
 log:=cY.jv eB.log c2y λr h=>h.log I
 q9:=ab.q9
 kF:=ab.kF
 eq:=ab.eq
 Kg:=fb.vB I
 BV:=cY.jv eB.BV (t_ ca) λr h=>h.tZ ca
 jK:=fb.a1Y.2
 Fc:=fb.a1X.2
theorem c4w{L:List aD}{a c:Nat}{x y:aD}(hx:L[a-1]? =some x)(hy:L[c-1]? =some y)(h:Kd L a c x y=true):zl L a c:=by
 unfold Kd at h;simp only[du,qa,beq_iff_eq,bne_iff_ne] at h;exact⟨x,y,hx,hy,h.1,h.2.1,h.2.2.1,h.2.2.2.1,h.2.2.2.2⟩
include G hl
theorem a2T{T:List bu}{r:AV}(h:dn P b me [l.A true,cC T] r)(al:BU T r):∃r,p4 P b l (.a9 [.ah lc,.ah hY]) me [l.A true,cC T] r/\BU T r:=by
 obtain⟨cc,cU,a0⟩:=cY.get (cF:=l.A true) (cA:=.a9 [.ah lc,.ah hY]) h (c2w al);exact⟨cc,cU,a0.c2m I T I⟩
theorem fitchBoxes_E(jI:BZ b=true)(hb:kg P b)(eB:rh P b (l.A true) (.a9 [.ah lc,.ah hY]))(ab:RC b l lc hY)(hf:b.funcs.get YP=some r7){cI:AV}{code:List Nat}(av:∀τ,hU τ none cI (code.map uB))(k7:cI.cells=[cI]/\cI.val=true)(hlen:code.length<2^62)(yT:∀x∈code,x<256){n m:Nat}(hn:n<256)(hm:m<256):dn P b YP [cI,uB n,uB m] (.b true):=λb1=>
 oJ hb cY.ok _ hf I I I I (jK _).1 (jK _).2 (c4s (G.fb.c4v hb eB ab) av k7 hlen yT hn hm
  (λL ad ax h hL a5=>cY.jv ((h.a1M U a5).c3D G hb) (c2x _) λr al=>al.c2n I _ I)
  (λL ad ax h hL q x h1 hx=>by
   obtain⟨h2,h3⟩:=fC.1 hx;obtain⟨r,gE,al⟩:=c3K G hl hb eB h hL h1 h2;rw[h3] at gE al;obtain⟨r,cU,aA,cD,cy,cz,iL,e,aR,a6,c0⟩:=a2T G hl gE al;have:=(c0 _ _ I).1 I;refine⟨r,cU,aA,cD,cy,cz,iL,e,aR,this.1,λan=>?_⟩;have:=this.2 an;rw[b0] at this;exact this)
  (λL ad ax h hL p q x y h1 h2 hx hy=>by
   obtain⟨iv,w6⟩:=fC.1 hx;obtain⟨q8,hy2⟩:=fC.1 hy;have key:∀(a c:Nat) (u w:aD),1<=a->a<=c->L[a-1]? =some u->L[c-1]? =some w->(x.f=u.f/\y.f=w.f\/x.f=w.f/\y.f=u.f)->∃r,p4 P b l (.a9 [.ah lc,.ah hY]) me [l.A true,cC (L.map aD.aA++[(gh x.f y.f a c).aA])] r/\∃aA cD cy cz ax e,r=tY aA cD cy cz ax e/\(e=0\/e=180)/\(e=0->zl L a c):=by
    intro a c u w ha dW hu hw hf;obtain⟨xQ,z7⟩:=fC.1 hu;obtain⟨a2U,jU⟩:=fC.1 hw;obtain⟨r,gE,al⟩:=c3M G hl jI hb eB h hL ha dW a2U (f:=x.f) (g:=y.f) (by rw[z7,jU];exact hf);obtain⟨r,cU,aA,cD,cy,cz,iL,e,aR,a6,c0⟩:=a2T G hl gE al;refine⟨r,cU,aA,cD,cy,cz,iL,e,aR,a6,λh0=>?_⟩;have aQ:=(c0 _ _ I).2 (by decide:ly≠jJ);cases gl:ih (L.map aD.aA++[(gh x.f y.f a c).aA]) (c3 (L.map aD.aA++[(gh x.f y.f a c).aA])) ((L.map aD.aA).length+1) a c with
    |false=>exact absurd (aQ gl) U
    |true=>
     have b3:o4 (L.map aD.aA) (gh x.f y.f a c).aA:=⟨rfl,rfl,rfl,(by decide:ly≠[]),by
      have i1:=h.inv.dep _ (hH hx);have i2:=h.inv.dep _ (hH hy);show(PF.bin 2 x.f y.f).aO.dep<=40;rw[PF.jd];show max x.f.dep y.f.dep+1<=40;omega,(by decide:(1:Nat)<2^20),λac RG=>by
      rw[cu.1 RG];exact⟨ha,dW,by rw[b0];show c<=_;omega⟩⟩
     have:=c3U h hL b3 ha dW a2U gl;rw[z7,jU] at this;exact c4w hu hw this
   by_cases hp:p<=q
   ·rw[Nat.min_eq_left hp,Nat.max_eq_right hp];exact key p q x y h1 hp hx hy (.inl ⟨rfl,rfl⟩)
   ·rw[Nat.min_eq_right U,Nat.max_eq_left U];exact key q p y x h2 U hy hx (.inr ⟨rfl,rfl⟩)) _ I) b1
end
theorem bH.ext{env:Env}{floor k g:Nat}{args:List AV}{v:AV}{J:ae}{Q:et->ae->Prop}(he:env.ext g=k+1)(hx:extRow (k+1) args=some v)(h:Q (.ok v) J):bH env floor (.f (.func g) [] []) args J Q:=by
 refine dp.one (x:=(.ok v,J)) (λF=>?_) h;show callF env (exec env F) floor g ([]++args++[]) J=_;unfold callF;rw[he,vW,iG];show(match extRow (k+1) args with|some v=>some [(et.ok v,J)]|none=>none)=_;rw[hx]
section
variable {b:b5}{K:Nat->List AV->AV->Prop}
theorem c4x(hh:bq (b.aV K) DX Ij)(ex:b.ext Ik=2)(x y:List Nat)(J:ae):bH (b.aV K) 0 (.f (.func DX) [] []) [.s x,.s y] J (λr ag=>r= .ok (.i .i64 (vo x y))/\ag=J):=by
 refine bH.code hh.e hh.p hh.f I I I I ?_;refine ak.seq (ak.region ?_);refine aJ.go I I I I ?_;refine aJ.nil (ak.seq (ak.region ?_));refine aJ.go I I I I ?_;refine aJ.go I I I I ?_;refine aJ.iX (R:=λr ag=>r= .ok (.i .i64 (vo x y))/\ag=J) I I I (bH.ext (k:=1) ex I ⟨rfl,rfl⟩) λr cT ⟨aR,a6⟩=>⟨_,aR,?_⟩
 refine aJ.go I I I I ?_;exact aJ.nil (ak.ret ⟨rfl,rfl,a6⟩)
theorem c4y(hh:bq (b.aV K) Ig NJ)(h2:bq (b.aV K) DX Ij)(ex:b.ext Ik=2)(x y:List Nat)(J:ae):bH (b.aV K) 0 (.f (.func Ig) [] []) [.s x,.s y] J (λr ag=>r= .ok (.i .i64 (vo x y))/\ag=J):=by
 refine bH.code hh.e hh.p hh.f I I I I ?_;refine ak.seq (ak.region ?_);refine aJ.go I I I I ?_;refine aJ.nil (ak.seq (ak.region ?_));refine aJ.go I I I I ?_;refine aJ.go I I I I ?_;refine aJ.iX I I I (c4x h2 ex x y J) λr cT ⟨aR,a6⟩=>⟨_,aR,?_⟩
 refine aJ.go I I I I ?_;exact aJ.nil (ak.ret ⟨rfl,rfl,a6⟩)
theorem a2V(hh:bq (b.aV K) DW Ii)(x:Nat)(J:ae):bH (b.aV K) 0 (.f (.func DW) [] []) [ai x] J (λr ag=>r= .ok (.b false)/\ag=J):=by
 refine bH.code hh.e hh.p hh.f I I I I ?_;refine ak.seq (ak.region ?_);refine aJ.go I I I I ?_;refine aJ.nil (ak.seq (ak.region ?_));refine aJ.go I I I I ?_;refine aJ.go I I I I ?_;refine aJ.bin (a:=ai x) (b:=ai x) (v:=.b false) I I I I (oK (by show some (AV.b (!decide (x=x)))=_;rw[decide_eq_true I];rfl)) ?_;refine aJ.go I I I I ?_;exact aJ.nil (ak.ret ⟨rfl,rfl,rfl⟩)
theorem c4z(hh:bq (b.aV K) Ih NK)(h2:bq (b.aV K) DW Ii)(x y:Nat)(J:ae):bH (b.aV K) 0 (.f (.func Ih) [] []) [ai x,ai y] J (λr ag=>r= .ok (.i .i64 (Eu x y))/\ag=J):=by
 refine bH.code hh.e hh.p hh.f I I I I ?_;refine ak.seq (ak.region ?_);refine aJ.go I I I I ?_;refine aJ.nil (ak.seq (ak.region ?_));refine aJ.go I I I I ?_;refine aJ.iX I I I (a2V h2 x J) λr cT ⟨aR,a6⟩=>⟨_,aR,?_⟩
 subst a6;refine aJ.go I I I I ?_;refine aJ.nil (ak.seq (ak.region ?_));refine aJ.go I I I I ?_;refine aJ.iX I I I (a2V h2 y cT) λr hC ⟨aR,a6⟩=>⟨_,aR,?_⟩
 subst a6;refine aJ.go I I I I ?_;refine aJ.nil (ak.seq (ak.seq (ak.region ?_)));refine aJ.go I I I I ?_;refine aJ.nil (ak.iW I (λh=>by cases h) λ_=>ak.skip ?_);refine ak.seq (ak.seq (ak.region ?_));refine aJ.go I I I I ?_;refine aJ.nil (ak.iW I (λh=>by cases h) λ_=>ak.skip ?_);refine ak.seq (ak.seq (ak.region ?_));refine aJ.go I I I I ?_;refine aJ.go I I I I ?_;refine aJ.bin (a:=ai x) (b:=ai y) (v:=.b (decide (x<y))) I I I I (oK I) ?_;refine aJ.nil (ak.iW I (λh=>?_) λh=>ak.skip ?_)
 ·refine ak.seq (ak.region ?_);refine aJ.go I I I I ?_;refine aJ.nil (ak.ret ⟨rfl,?_,rfl⟩);unfold Eu;rw[if_pos (of_decide_eq_true h)];rfl
 have h1:=of_decide_eq_false h;refine ak.seq (ak.seq (ak.region ?_));refine aJ.go I I I I ?_;refine aJ.go I I I I ?_;refine aJ.bin (a:=ai x) (b:=ai y) (v:=.b (decide (y<x))) I I I I (oK I) ?_;refine aJ.nil (ak.iW I (λh=>?_) λh=>ak.skip ?_)
 ·refine ak.seq (ak.region ?_);refine aJ.go I I I I ?_;refine aJ.nil (ak.ret ⟨rfl,?_,rfl⟩);unfold Eu;rw[if_neg h1,if_pos (of_decide_eq_true h)];rfl
 have h2:=of_decide_eq_false h;refine ak.seq (ak.region ?_);refine aJ.go I I I I ?_;refine aJ.nil (ak.ret ⟨rfl,?_,rfl⟩);unfold Eu;rw[if_neg h1,if_neg h2];rfl
theorem c4A(h1:bq (b.aV K) Ig NJ)(h2:bq (b.aV K) DX Ij)(ex:b.ext Ik=2)(h3:bq (b.aV K) Ih NK)(aQ:bq (b.aV K) DW Ii)(x y:fA)(body:bO)(hb:YM.body=some body):
  ak (b.aV K) 19 body (gO [dr x,dr y]) ⟨.nil,0⟩ (lT 4 (.i .i64 (pQ x y))):=by
 cases hb;refine ak.seq (ak.region (aJ.box (v:=dr x) (c:=[.s x.1,ai x.2]) 0 I I I I I I λb2 c_ bL vn=>?_));refine aJ.box (v:=dr y) (c:=[.s y.1,ai y.2]) 1 c_ I I I I I λJ ei bQ nt=>?_;replace bL:=nt _ _ bL;refine aJ.go I I I I ?_;refine aJ.nil (ak.seq (ak.seq (ak.region ?_)));refine aJ.go I I I I ?_;refine aJ.az (v:=.s x.1) bL I I I I ?_;refine aJ.go I I I I ?_;refine aJ.az (v:=.s y.1) bQ I I I I ?_;refine aJ.iX I I I (c4y h1 h2 ex x.1 y.1 J) λr cT ⟨aR,a6⟩=>⟨_,aR,?_⟩
 subst a6;refine aJ.go I I I I ?_;refine aJ.nil (ak.seq (ak.region ?_));refine aJ.go I I I I ?_;refine aJ.bin (a:=.i .i64 (vo x.1 y.1)) (b:=.i .i64 0) (v:=.b (!decide (vo x.1 y.1=0))) I I I I I ?_;refine aJ.nil (ak.iW I (λh=>?_) λh=>ak.skip ?_)
 ·have a5:¬vo x.1 y.1=0:=λe=>by rw[decide_eq_true e] at h;cases h
  refine ak.seq (ak.region ?_);refine aJ.go I I I I ?_;refine aJ.go I I I I ?_;refine aJ.nil (ak.ret ⟨rfl,?_⟩);unfold pQ;rw[if_neg a5];rfl
 ·have he:vo x.1 y.1=0:=Me λe=>by rw[decide_eq_false e] at h;cases h
  refine ak.seq (ak.region ?_);refine aJ.go I I I I ?_;refine aJ.az (v:=ai x.2) bL I I I I ?_;refine aJ.go I I I I ?_;refine aJ.az (v:=ai y.2) bQ I I I I ?_;refine aJ.iX I I I (c4z h3 aQ x.2 y.2 cT) λr hC ⟨aR,a6⟩=>⟨_,aR,?_⟩
  refine aJ.go I I I I ?_;refine aJ.nil (ak.ret ⟨rfl,?_⟩);unfold pQ;rw[if_pos he];rfl
end
structure a2W(b:b5):Prop where
 visit:HB b wC yx
 walk:HB b AM DQ
 a2X:HB b u7 AN
 c4B:HB b Il NN
 c4C:HB b Im NO
 c4D:HB b NM YN
 sorted:HB b DR NI
 c4E:HB b DT Ie
 c4F:HB b oP wD
 c4G:HB b DS Ic
 Collect:HB b AP DU
 c4H:HB b yz AQ
 c4I:HB b AR DV
 c4J:HB b yC AT
 c4K:HB b wF yD
 Q_:HB b yA AS
 c4L:HB b wE yB
 c4M:HB b Ia NF
 Functions:HB b NG YL
 c4N:HB b Ib NH
 c4O:HB b Ig NJ
 c4P:HB b DX Ij
 c4Q:HB b Ih NK
 c4R:HB b DW Ii
 a2Y:lX b ki NL
 a2Z:lX b yy YK
 a3a:lX b hT YM
 a3b:lX b AW NQ
 a3c:lX b AU NP
 c4S:lX b oQ NR
 named:b.ext nj=0/\b.pure nj=true
 c4T:b.ext n6=0/\b.pure n6=true
 c4U:b.ext Ik=2
 rows:b.mr Ou=some (.ah IX)
section
variable {P:Program}{b:b5}(hb:kg P b)(aB:a2W b)(hn:∀a:PF,dn P b nj [uB (tE a.op),.s a.b7] (.b true))
include hb aB
theorem c4V(x y:fA):dn P b hT [dr x,dr y] (.i .i64 (pQ x y)):=λb1=>
 oJ hb (cY.ok (cF:=.af) (cA:=.af)) _ aB.a3a.1 I I I I (qL _ _).1 (qL _ _).2 (c4A aB.c4O.h aB.c4P.h aB.c4U aB.c4Q.h aB.c4R.h x y _ I) b1
theorem c4W(a:PF):dn P b yy [a.aO.A true] (.i .u32 (Int.ofNat (wR a.aO))):=λb1=>
 b3w hb (cY.ok (cF:=.af) (cA:=.af)) _ aB.a2Z.1 I I I I (qL _ _).1 (qL _ _).2 (b6T aB.visit.h aB.a2X.h aB.walk.h _ a.jW _ I) b1
theorem Q3:Ra b (cY P b .af .af):=⟨Q9.go cY.fn ⟨aB.sorted.h,aB.c4E.h,aB.c4G.h,aB.Collect.h,aB.c4H.h,aB.c4F.h,aB.c4I.h,aB.c4J.h,aB.c4K.h,aB.Q_.h,aB.c4L.h,λx y=>cY.jv (c4V hb aB x y) (c2t x y) λr h=>h.BT I x y I,aB.a3a.2⟩,aB.c4N.h,aB.visit.h,aB.a2X.h,aB.walk.h,aB.c4M.h,aB.Functions.h⟩
theorem c4X(a:PF){k:Nat}(ay:¬k=2):dn P b AW [uB k,a.aO.A true] (.b true):=λb1=>by
 rw[mY];exact oJ hb (cY.ok (cF:=.af) (cA:=.af)) _ aB.a3b.1 I I I I (jK _).1 (jK _).2 (c2b cY.fn (Q3 hb aB) a k ay _ I) b1
include hn
theorem a3d(a:PF)(ha:a.low):dn P b ki [a.aO.A true] (.b true):=λb1=>by
 rw[mY];exact oJ hb (cY.ok (cF:=.af) (cA:=.af)) _ aB.a2Y.1 I I I I (jK _).1 (jK _).2 (c1I ⟨cY.fn,aB.c4B.h,aB.c4C.h,aB.c4D.h,aB.named,λa=>cY.jv (hn a) (t_ ca) λr h=>h.tZ ca,aB.rows⟩ a ha _ I) b1
theorem c4Y(l:lu)(ho:l.ops=254)(ay:¬l.kind=2)(tL:∀J,bT J (b.bt+1000) (l.A true)=some (l.A true))(c4Z:dn P b n6 [l.A true] (.b true))(a:PF)(ha:a.low):dn P b oQ [l.A true,a.aO.A true] (.b true):=by
 have hd:a.aO.dep<=200:=by rw[PF.jd];have:=ha.1;omega
 have ht:∀ {g:Nat} {aY:List AV},g∈J5->dn P b g aY (.b true)->cY P b .af .af g aY (.b true):=λ{g aY} hg h=>cY.jv h (t_ hg) λr h=>h.tZ hg;have h1:dn P b AU [l.A true,a.aO.A true] (.b true):=λb1=>by
  have hR:=ht ca (a3d hb aB hn a ha);have hA:=ht ca (c4X hb aB a ay);have cp:cY P b .af .af _ _ _:=cY.jv (c4W hb aB a) (c2s a) λr h=>h.ops I a I;rw[mY] at hR hA cp ⊢;exact oJ hb (cY.ok (cF:=.af) (cA:=.af)) _ aB.a3c.1 I I I I (jK _).1 (jK _).2 (c2c cY.fn a hd l ho hR aB.a2Y.2 cp aB.a2Z.2 hA aB.a3b.2 _ I) b1
 intro b1;have h1:=ht ca h1;rw[mY] at h1 ⊢;exact oJ hb (cY.ok (cF:=.af) (cA:=.af)) _ aB.c4S.1 I I I I (jK _).1 (jK _).2 (c2f cY.fn a hd l tL (ht ca c4Z) aB.c4T h1 aB.a3c.2 _ I) b1
end
theorem c5a{P:Program}{b:b5}(h1:dn P b nj [uB 1,.s [80]] (.b true))(h2:dn P b nj [uB 1,.s [81]] (.b true))(h3:dn P b nj [uB 0,.s []] (.b true))(a:PF):dn P b nj [uB (tE a.op),.s a.b7] (.b true):=by
 cases a with
 | gd q=>cases q;exact h1;exact h2
 |cQ=>exact h3
 |neg a=>exact h3
 |bin k a c=>
  have:tE (4+k.val)=0:=by
   obtain⟨k,ay⟩:=k;have:k=0\/k=1\/k=2:=by omega
   rcases this with rfl|rfl|rfl<;>rfl
  show dn P b nj [uB (tE (4+k.val)),.s []] (.b true);rw[this];exact h3
end Go.Lyc
end
