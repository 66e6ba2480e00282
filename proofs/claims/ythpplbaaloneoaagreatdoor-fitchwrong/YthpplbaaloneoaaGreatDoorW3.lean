/-
  What functions of the program compute: walks, part 3. No conditions: definitions and laws.
-/
import Derived.Test.YthpplbaaloneoaaGreatDoorW2
set_option linter.all false
noncomputable section
namespace Go.Lyc
def Gr:=@List.length_eq_zero_iff
def a3C:=@Bool.and_eq_true_iff
def SI:=@List.eq_of_mem_replicate
def a3D:=@List.foldl_append
def a3E:=@List.map_replicate
def Gs:=@List.getElem?_set
def a3F:=@List.getElem?_eq_none_iff
def Gt:=@List.mem_iff_getElem?
set_option maxHeartbeats 0
section
open Go Go.RowKit
inductive b4(T:Tok):AV->AV->Prop
 |i (k:IntKind) (n:Int):b4 T (.i k n) (.i k n)
 |s (l:List Nat):b4 T (.s l) (.s l)
 |b (x:Bool):b4 T (.b x) (.b x)
 |nil:b4 T .af .af
 |y (i:Nat) (h:(∃k n,T.De i= .i k n)\/∃l,T.De i= .s l):b4 T (.y i) (T.De i)
 |gu (o:Bool) (i:Nat) (v:AV) (h:T.pO o i= .af\/∃aa l,T.pO o i= .a_ o aa l) (au:b4 T (T.pO o i) v):b4 T (.gu o i) v
 |ag (l m:List AV) (hl:l.length=m.length) (h:∀i (h:i<l.length) (h':i<m.length),b4 T l[i] m[i]):b4 T (.ag l) (.ag m)
 |a0 (l m:List AV) (hl:l.length=m.length) (h:∀i (h:i<l.length) (h':i<m.length),b4 T l[i] m[i]):b4 T (.a0 l) (.a0 m)
 |a_ (o:Bool) (aa:Option Nat) (c d:List (List AV)) (hl:c.length=d.length) (e0:∀i (h:i<c.length) (h':i<d.length),(c[i]).length=(d[i]).length) (h:∀i (h:i<c.length) (h':i<d.length) j (ax:j<(c[i]).length) (fA:j<(d[i]).length),b4 T (c[i])[j] (d[i])[j]):b4 T (.a_ o aa (c.map AV.ag)) (.a_ o aa (d.map AV.ag))
def b4.conf{T:Tok}{v bR:AV}(h:b4 T v bR):conf none v=conf none bR:=by
 induction h with
 |y i h=>rcases h with⟨k,n,e⟩|⟨l,e⟩<;>rw[e]<;>rfl
 |gu o i v h au aH=>rw[<-aH];rcases h with e|⟨aa,l,e⟩<;>rw[e]<;>rfl
 |_=>rfl
def b4.R{T gP:Tok}{w:World}{O:Nat->Prop}{B:Nat}{v bR:AV}(h:b4 T v bR):∀u,@Go.Lyc.R T w (λ_=>none) O B v u↔ @Go.Lyc.R gP w (λ_=>none) O B bR u:=by
 induction h with
 |i k n=>exact λu=>⟨λh=>by cases h;exact .i _ _,λh=>by cases h;exact @Go.Lyc.R.i T w _ O B _ _⟩
 |s l=>exact λu=>⟨λh=>by cases h;exact .s _ (by assumption),λh=>by cases h;exact @Go.Lyc.R.s T w _ O B _ (by assumption)⟩
 |b x=>exact λu=>⟨λh=>by cases h;exact .b _,λh=>by cases h;exact @Go.Lyc.R.b T w _ O B _⟩
 |nil=>exact λu=>⟨λh=>by cases h;exact .af,λh=>by cases h;exact @Go.Lyc.R.af T w _ O B⟩
 |y i h=>
  intro u;constructor
  ·intro hR;cases hR with
   |y hl=>
    rcases h with⟨k,n,e⟩|⟨l,e⟩
    ·rw[e] at hl ⊢;cases hl;exact .i _ _
    ·rw[e] at hl ⊢;cases hl with
     |s l h=>exact .s l h
  ·intro hR;refine @Go.Lyc.R.y T w _ O B i u ?_;rcases h with⟨k,n,e⟩|⟨l,e⟩
   ·rw[e] at hR ⊢;cases hR;exact .i _ _
   ·rw[e] at hR ⊢;cases hR with
    |s l h=>exact .s l h
 |gu o i v h au aH=>
  intro u;constructor
  ·intro hR;cases hR with
   |gu hu h=>exact(aH u).1 h
  ·intro hR;have h2:=(aH u).2 hR;obtain⟨a,l,c,e⟩:∃a l c,u= .slice a l c:=by
    rcases h with e|⟨aa,l,e⟩
    ·rw[e] at h2;cases h2;exact⟨_,_,_,rfl⟩
    ·rw[e] at h2;cases h2<;>exact⟨_,_,_,rfl⟩
   exact @Go.Lyc.R.gu T w _ O B i o u a l c e h2
 |ag l m hl h aH=>
  intro u;constructor
  ·intro hR;cases hR with
   |ag ao aq hf=>
    refine .ag U (λi h1 h2=>(aH i U h1 _).1 (aq i U h2)) λx hx=>?_;obtain⟨i,hi,rfl⟩:=jK hx;rw[<-(h i U hi).conf];exact hf _ (b9 _)
  ·intro hR;cases hR with
   |ag ao aq hf=>
    refine @Go.Lyc.R.ag T w _ O B l _ U (λi h1 h2=>(aH i h1 U _).2 (aq i U h2)) λx hx=>?_;obtain⟨i,hi,rfl⟩:=jK hx;rw[(h i hi U).conf];exact hf _ (b9 _)
 |a0 l m hl h aH=>
  intro u;constructor
  ·intro hR;cases hR with
   |a0 ao aq=>exact .a0 U λi h1 h2=>(aH i U h1 _).1 (aq i U h2)
  ·intro hR;cases hR with
   |a0 ao aq=>exact @Go.Lyc.R.a0 T w _ O B l _ U λi h1 h2=>(aH i h1 U _).2 (aq i U h2)
 |a_ o aa c d hl e0 h aH=>
  have key:∀(SJ pc:Tok) (c d:List (List AV)),c.length=d.length->(∀i (h:i<c.length) (h':i<d.length),(c[i]).length=(d[i]).length)->(∀i (h:i<c.length) (h':i<d.length) j (ax:j<(c[i]).length) (fA:j<(d[i]).length),Go.Lyc.conf none (c[i])[j]=Go.Lyc.conf none (d[i])[j]/\∀u,@Go.Lyc.R SJ w (λ_=>none) O B (c[i])[j] u→ @Go.Lyc.R pc w (λ_=>none) O B (d[i])[j] u)->∀u,@Go.Lyc.R SJ w (λ_=>none) O B (.a_ o aa (c.map AV.ag)) u→ @Go.Lyc.R pc w (λ_=>none) O B (.a_ o aa (d.map AV.ag)) u:=by
   intro SJ pc c d hl e0 hh u hR;generalize hx:c.map AV.ag=xs at hR;cases hR with
   |lW=>
    obtain rfl:=Rz.1 hx;obtain rfl:d=[]:=Gr.1 (by simpa using hl.symm);exact .lW
   |a_ bf ch ao ab aq hL hf fy=>
    have jB:xs.length=c.length:=by rw[<-hx,b7]
    have hg:∀i (h:i<xs.length) (h':i<c.length),xs[i]= .ag c[i]:=λi h h'=>by subst hx;simp
    have Bc:(d.map AV.ag).length=xs.length:=by rw[b7];omega
    have z2:∀i (h:i<(d.map AV.ag).length) (h':i<d.length),(d.map AV.ag)[i]= .ag d[i]:=λi h h'=>by simp
    have a7:d.map AV.ag≠[]->xs≠[]:=λh e=>h (Gr.1 (by rw[Bc,e];rfl));rw[<-Bc];refine .a_ bf (λh=>ch (a7 h)) (λi h=>?_) (λi h j ax=>?_) (λi h j ax=>?_) U (λv au x eo=>?_) (λh=>fy (a7 h))
    ·have h1:=ao i U;rw[hg i U U] at h1;rw[z2 i h U];cases aa with
     |none=>cases h1
     |some k=>
      have h1:Nat.beq (c[i]'U).length k=true:=h1;show Nat.beq (d[i]'U).length k=true;rw[<-e0 i U U];exact h1
    ·have aL:((d.map AV.ag)[i]).cells.length=(d[i]'U).length:=by rw[z2 i h U];rfl
     have a5:(xs[i]'U).cells.length=(c[i]'U).length:=by rw[hg i U U];rfl
     exact ab i U j (by rw[a5,e0 i U U,← aL];exact ax)
    ·have aL:((d.map AV.ag)[i]).cells=d[i]'U:=by rw[z2 i h U];rfl
     have a5:(xs[i]'U).cells=c[i]'U:=by rw[hg i U U];rfl
     have Ah:j<(d[i]'U).length:=by rw[<-aL];exact ax
     have gK:j<(c[i]'U).length:=by rw[e0 i U U];exact Ah
     have h3:=aq i U j (by rw[a5];exact gK);simp only[a5] at h3;simp only[aL];exact(hh i U U j gK Ah).2 _ h3
    ·obtain⟨i,hi,rfl⟩:=jK au;have aL:((d.map AV.ag)[i]).cells=d[i]'(by rw[b7] at hi;exact hi):=by rw[z2 i hi (by rw[b7] at hi;exact hi)];rfl
     rw[b7] at hi;rw[aL] at eo;obtain⟨j,ax,rfl⟩:=jK eo;have a5:(xs[i]'U).cells=c[i]'U:=by rw[hg i U U];rfl
     have gK:j<(c[i]'U).length:=by rw[e0 i U U];exact ax
     rw[<-(hh i U U j gK ax).1];exact hf _ (b9 (show i<xs.length by omega)) _ (by rw[a5];exact b9 _)
  intro u;constructor
  ·exact key T gP c d hl e0 (λi h1 h2 j ax fA=>⟨(h i h1 h2 j ax fA).conf,λu=>(aH i h1 h2 j ax fA u).1⟩) u
  ·exact key gP T d c hl.symm (λi h1 h2=>(e0 i h2 h1).symm) (λi h1 h2 j ax fA=>⟨(h i h2 h1 j fA ax).conf.symm,λu=>(aH i h2 h1 j fA ax u).2⟩) u
def a3G:AV->Bool
 | .i _ _=>true
 | .s _=>true
 | .b _=>true
 | .af=>true
 |_=>false
def b4.leaf{T:Tok}{v:AV}(h:a3G v=true):b4 T v v:=by
 cases v with
 |i k n=>exact .i k n
 |s l=>exact .s l
 |b x=>exact .b x
 |af=>exact .nil
 |_=>cases h
def Gu(env:Env):Prop:=∀g v,env.mm g=some v->∃l,v= .ag l/\∀x∈l,a3G x=true
def Globs.oo{gP T:Tok}{env:Env}(hl:Gu env){w:World}{B:Nat}(h: @Globs gP env w B): @Globs T env w B:=λg v hg eL=>by
 have hR:=h g v hg eL;obtain⟨l,rfl,hl⟩:=hl g v hg;cases hR with
 |dh bf ch hb ca ab aq hf=>exact .dh bf ch hb ca ab (λj ax=>((b4.leaf (T:=gP) (hl _ (b9 ax))).R (gP:=T) _).1 (aq j ax)) hf
def b4.entry{T gP:Tok}{P:Program}{env:Env}(cW:Gu env){bz g:Nat}{aQ mP:List AV}{r b5:AV}(hl:aQ.length=mP.length)(h:∀i (h:i<aQ.length) (h':i<mP.length),b4 T aQ[i] mP[i])(aq:b4 T r b5): @SpecEntry T P env bz g aQ r↔ @SpecEntry gP P env bz g mP b5:=by
 constructor
 ·intro my;exact⟨my.1,λk rd w us ca Em hR=>(my.2 k rd w us ca (Em.oo cW) ⟨by rw[hR.1,hl],λi h1 h2=>((h i h1 U).R _).2 (hR.2 i U h2)⟩).mono λe bW ⟨u,aL,a5,cy⟩=>⟨u,aL,(aq.R _).1 a5,cy⟩⟩
 ·intro my;exact⟨my.1,λk rd w us ca Em hR=>(my.2 k rd w us ca (Em.oo cW) ⟨by rw[hR.1,hl],λi h1 h2=>((h i U h1).R _).1 (hR.2 i U h2)⟩).mono λe bW ⟨u,aL,a5,cy⟩=>⟨u,aL,(aq.R _).2 a5,cy⟩⟩
end
section
variable [Tok][TokOk]
open Go.RowKit Go.Lyc.T
structure mg(b:bT):Prop where
 Kj:HB b BY Y7
 c4l:HB b E0 Y8
 c4m:HB b E2 ZF
 c4n:HB b E1 Zp
 c4o:HB b J1 YW
 B6:HB b JU YQ
 assumptions:HB b JV Y6
 beside:HB b JW Zc
 B7:HB b JT YX
 c4p:HB b JX Zs
 Gv:HB b ue YM
 c4q:HB b EY YV
 c4r:HB b BX Zb
 c4s:HB b JY Ze
 c4t:HB b xv Zr
 c4u:HB b xw Zt
 c4v:HB b JR Zf
 c4w:HB b PK Y2
 c4x:HB b PL YO
 c4y:HB b xx Y1
 c4z:HB b J2 Y0
 c4A:HB b J4 Zi
 c4B:HB b E3 Zv
 c4C:HB b xy Zj
 c4D:HB b xz Zk
 c4E:HB b oC Zw
 c4F:HB b xA Zl
 c4G:HB b PX Zx
 c4H:HB b J6 ZI
 c4I:HB b vP ZJ
 c4J:HB b uh ZL
 c4K:HB b BZ ZK
 c4L:HB b Pu ZV
 a3H:HB b Pv ZU
 c4M:HB b a0q Zu
 Made:HB b JK Yw
 a3I:HB b vL YC
 a3J:HB b zB YF
 line:HB b BW YG
 a3K:HB b zC YD
 a3L:HB b EV YJ
 a3M:HB b EW YE
 join:HB b vM Yx
 atom:HB b BV YK
 d0s:HB b b8L YL
 Lv:ll b ua YH
 a3N:ll b zD YT
 Lw:ll b ub YI
 a3O:ll b xC ZT
 SK:ll b ui Zh
 a3P:ll b vQ Y3
 a3Q:ll b xq ZS
 Gw:ll b uf YY
 Lx:ll b oB YN
 a3R:ll b uc YB
 Ly:ll b jT Yy
 SL:ll b vO Y4
 r7:∀g∈[kb,na,n_LRight,xB,vN,xr,vK,qi],b.ext g=0/\b.pure g=true
def mg.s9{b:bT}(h:mg b){g:Nat}(hg:sC [kb,na,n_LRight,xB,vN,xr,vK,qi] g=true):b.ext g=0/\b.pure g=true:=h.r7 g (BB hg)
def PF.c4N{a x:PF}(h:x∈a.subs):x.b0<a.b0:=by
 cases a with
 | fU _=>simp[PF.subs] at h
 |cO=>simp[PF.subs] at h
 |neg a=>rw[cB.1 h];exact lV _
 |bin k a b=>
  show x.b0<a.b0+b.b0+1;rcases dB.1 h with rfl|h
  ·omega
  ·rw[cB.1 h];omega
def a3S:∀(n:Nat) (v:AV),fk n v=true->fk (n+1) v=true
 |0,_,h=>by cases h
 |n+1,v,h=>by
  have aH:=a3S n;have g6:∀ {l:List AV},cD (fk n) l=true->cD (fk (n+1)) l=true:=λ{l} h=>ig λx hx=>aH x (lJ h x hx);rw[mG] at h ⊢;cases v with
  |dh o v=>
   have h:(!o&&cD (fk n) v.cells)=true:=h;show(!o&&cD (fk (n+1)) v.cells)=true;rw[dA] at h ⊢;exact⟨h.1,g6 h.2⟩
  |a_ o aa xs=>
   have h:((!o||xs.isEmpty)&&cD (λx=>cD (fk n) x.cells) xs)=true:=h;show((!o||xs.isEmpty)&&cD (λx=>cD (fk (n+1)) x.cells) xs)=true;rw[dA] at h ⊢;exact⟨h.1,ig λx hx=>g6 (lJ h.2 x hx)⟩
  |it t v=>exact aH v h
  |ag l=>exact g6 h
  |a0 l=>exact g6 h
  |f g x y=>
   have h:(cD (fk n) x&&cD (fk n) y)=true:=h;show(cD (fk (n+1)) x&&cD (fk (n+1)) y)=true;rw[dA] at h ⊢;exact⟨g6 h.1,g6 h.2⟩
  |_=>exact h
def Lz:∀(d:Nat) (a:PF) {n:Nat},a.dep<=d->2*d+2<=n->fk n (.ag (jG a.aG))=true
 |0,a,_,hd,_=>by cases a<;>simp[PF.dep] at hd
 |d+1,a,n,hd,hn=>by
  obtain⟨n,rfl⟩:∃m,n=m+2:=⟨n-2,U⟩
  rw[PF.RD,mG];have ao:∀x∈a.subs,fk n (.ag (jG x.aG))=true:=λx hx=>Lz d x (by have:=PF.lk hx;omega) U;have aO:fk (n+1) (slA false (some 4) (a.subs.map λx=>.ag (jG x.aG)))=true:=by
   cases c4O:a.subs with
   |nil=>rfl
   |cons x l=>
    rw[c4O] at ao;show fk (n+1) (.a_ false (some 4) ((x::l).map λx=>.ag (jG x.aG)))=true;rw[mG];show((!false||_)&&cD (λx=>cD (fk n) x.cells) ((x::l).map λx=>AV.ag (jG x.aG)))=true;rw[II,Ka,oq];refine ig λv au=>?_;obtain⟨y,hy,rfl⟩:=dD.1 au;have:=ao y hy;obtain⟨n,rfl⟩:∃m,n=m+1:=⟨n-1,U⟩
    rw[mG] at this;have this:cD (fk n) (jG y.aG)=true:=this;exact ig λz a6=>a3S _ _ (lJ this z a6)
  refine ig λy hy=>?_;simp only[dB,gR,or_false] at hy;rcases hy with rfl|rfl|rfl|rfl
  ·rfl
  ·rfl
  ·rfl
  ·exact aO
section
variable {P:Program}{b:bT}(hb:jR P b)(fb:mg b){cn cb:AV}
structure x9(P:Program)(b:bT)(cn cb:AV):Prop where
 st:cV P b vN [.af,.af] (.b true)
 right:∀a:PF,a.low->cV P b kb [a.aG.A true] (.b true)
 fN:∀a:PF,a.low->cV P b na [cn,a.aG.A true] (.b true)
 Gx:cV P b n_LRight [cn] (.b true)
 pX:∀r∈jr,cV P b xB [r.A] (.b true)
 log:cV P b vK [] cb
 LC:cV P b xr [] (.b true)
include hb fb
theorem a3T:∀(n:Nat) (a:PF),a.dep<=n->a.dep<=190->a.b0<2^62->cV P b ua [a.aG.A true] (ah a.b0)
 |0,a,hd,_,_=>by cases a<;>simp[PF.dep] at hd
 |n+1,a,hd,jO,ao=>λbz=>by
  rw[nk];exact lI hb (c3.ok (cn:=.af) (cb:=.af)) _ fb.Lv.1 I I I I (nG _ _).1 (nG _ _).2 (c1M c3.fn a (λx hx=>by rw[PF.js];have:=PF.lk hx;omega) ao fb.Lv.2 (λx hx=>c3.jJ (a3T n x (by have:=PF.lk hx;omega) (by have:=PF.lk hx;omega) (by have:=PF.c4N hx;omega)) (a3y x) λr h=>h.size I x I) _ I) bz
theorem a3U(cR:cV P b vN [.af,.af] (.b true)):∀(n:Nat) (a c:PF),a.dep<=n->a.dep<=190->c.dep<=190->cV P b ub [a.aG.A true,c.aG.A true] (.b (decide (a=c)))
 |0,a,_,hd,_,_=>by cases a<;>simp[PF.dep] at hd
 |n+1,a,c,hd,jO,w5=>by
  have ng:∀ {x:PF},x∈a.subs->x.aG.dep<=200/\x.dep<=n/\x.dep<=190:=λ{x} hx=>by rw[PF.js];have:=PF.lk hx;omega
  have r8:∀ {x:PF},x∈c.subs->x.aG.dep<=200/\x.dep<=190:=λ{x} hx=>by rw[PF.js];have:=PF.lk hx;omega
  have lR:∀(x:PF),x.dep<=190->∀τ,bM τ (b.bp+1000) (jo x)=some (jo x):=λx hx τ=>Ag (n:=b.bp+999) λy hy=>by
   have h1:=Fm.snap τ true _ y.aG (b.bp+999) (bs _) (by rw[PF.js];have:=PF.lk hy;omega);rwa[jk] at h1
  have h1:cV P b zD [jo a,jo c] (.b (decide (a.subs=c.subs))):=λbz=>lI hb (c3.ok (cn:=.af) (cb:=.af)) _ fb.a3N.1 I I I I (hs _).1 (hs _).2 (c1H c3.fn a.subs c.subs ⟨a.uF,c.uF⟩ (λx hx=>(ng hx).1) (λx hx=>(r8 hx).1) fb.Lw.2 (λx hx y hy=>c3.jJ (a3U cR n x y (ng hx).2.1 (ng hx).2.2 (r8 hy).2) (a3z x y) λr h=>h.a3w I x y I) _ I) bz;intro bz;rw[nk,nk];exact lI hb (c3.ok (cn:=.af) (cb:=.af)) _ fb.Lw.1 I I I I (hs _).1 (hs _).2 (c1I c3.fn a c (fb.s9 I) (c3.jJ cR (s8 bw) λr h=>h.s7 bw) fb.a3N.2 (c3.jJ h1 (c4a a c) λr h=>h.c3X I a c I) (lR a jO) (lR c w5) _ I) bz
theorem a3V:∀(n:Nat) (a c:PF),a.dep<=n->a.dep<=190->c.dep<=190->cV P b xC [a.aG.A true,c.aG.A true,.af] (.b (decide (a=c)))
 |0,a,_,hd,_,_=>by cases a<;>simp[PF.dep] at hd
 |n+1,a,c,hd,jO,w5=>λbz=>by
  have ng:∀ {x:PF},x∈a.subs->x.aG.dep<=200/\x.dep<=n/\x.dep<=190:=λ{x} hx=>by rw[PF.js];have:=PF.lk hx;omega
  have r8:∀ {x:PF},x∈c.subs->x.aG.dep<=200/\x.dep<=190:=λ{x} hx=>by rw[PF.js];have:=PF.lk hx;omega
  rw[nk,nk];exact lI hb (c3.ok (cn:=.af) (cb:=.af)) _ fb.a3O.1 I I I I (hs _).1 (hs _).2 (c1E c3.fn a c (by rw[PF.js,PF.js];omega) fb.a3H.h fb.a3O.2 (λx hx y hy=>c3.jJ (a3V n x y (ng hx).2.1 (ng hx).2.2 (r8 hy).2) (c4b x y) λr h=>h.c3Y I x y I) (λx hx=>(ng hx).1) (λx hx=>(r8 hx).1) _ I) bz
theorem a3W:∀(n:Nat) (a c:PF),a.dep<=n->a.dep<=190->c.dep<=190->cV P b ui [a.aG.A true,c.aG.A true,.af] (.b (decide (a=c)))
 |0,a,_,hd,_,_=>by cases a<;>simp[PF.dep] at hd
 |n+1,a,c,hd,jO,w5=>λbz=>by
  have ng:∀ {x:PF},x∈a.subs->x.aG.dep<=200/\x.dep<=n/\x.dep<=190:=λ{x} hx=>by rw[PF.js];have:=PF.lk hx;omega
  have r8:∀ {x:PF},x∈c.subs->x.aG.dep<=200/\x.dep<=190:=λ{x} hx=>by rw[PF.js];have:=PF.lk hx;omega
  rw[nk,nk];exact lI hb (c3.ok (cn:=.af) (cb:=.af)) _ fb.SK.1 I I I I (hs _).1 (hs _).2 (c1F c3.fn a c (by rw[PF.js,PF.js];omega) fb.c4M.h fb.SK.2 (λx hx y hy=>c3.jJ (a3W n x y (ng hx).2.1 (ng hx).2.2 (r8 hy).2) (a3A x y) λr h=>h.a3x I x y I) (λx hx=>(ng hx).1) (λx hx=>(r8 hx).1) _ I) bz
theorem c4P(aq:∀a:PF,a.low->cV P b kb [a.aG.A true] (.b true))(a c:PF)(ha:a.low)(ab:c.low):cV P b vQ [a.aG.A true,c.aG.A true] (.b (decide (a=c))):=λbz=>by
 have h1:=ha.1;have h2:=ab.1;have c4Q:=aq a ha;have c4R:=aq c ab;rw[nk,nk];exact lI hb (c3.ok (cn:=.af) (cb:=.af)) _ fb.a3P.1 I I I I (hs _).1 (hs _).2 (c1G c3.fn a c (by rw[PF.js];omega) (by rw[PF.js];omega) (fb.s9 I) (c3.jJ c4Q (s8 bw) λr h=>h.s7 bw) (c3.jJ c4R (s8 bw) λr h=>h.s7 bw) fb.SK.2 (c3.jJ (a3W hb fb _ a c (bs _) U U) (a3A a c) λr h=>h.a3x I a c I) _ I) bz
theorem a3X(S F:Fm)(kq:∀τ,bM τ (b.bp+1000) (uH S F)=some (uH S F)):∀(n:Nat) (a:PF),a.dep<=n->a.dep<=190->cV P b xq [uH S F,a.aG.A true,.af] (.a0 [a.aG.A false,.b true])
 |0,a,hd,_=>by cases a<;>simp[PF.dep] at hd
 |n+1,a,hd,jO=>λbz=>by
  have ng:∀ {x:PF},x∈a.subs->x.aG.dep<=200/\x.dep<=n/\x.dep<=190:=λ{x} hx=>by rw[PF.js];have:=PF.lk hx;omega
  rw[nk];refine vV hb (c3.ok (cn:=.af) (cb:=.af)) (ad:=1000) _ fb.a3Q.1 I I I ?_ ?_ (c1N c3.fn S F kq a fb.a3H.h (λx hx=>(ng hx).1) fb.a3Q.2 (λx hx=>c3.jJ (a3X S F kq n x (ng hx).2.1 (ng hx).2.2) (c4d _ x) λr h=>h.c3Z I x _ I) _ I) bz
  ·rw[sW,mG];refine ig λy hy=>?_;simp only[dB,gR,or_false] at hy;rcases hy with rfl|rfl
   ·exact Lz _ a (n:=999) (bs _) U
   ·rfl
  ·rw[sW];refine(ov λy hy=>?_:fY (AV.eqb 999) [AV.ag (jG a.aG),.b true] [AV.ag (jG a.aG),.b true]=true);simp only[dB,gR,or_false] at hy;rcases hy with rfl|rfl
   ·exact(e1.tree (W:=λ_=>True) (J:=⟨.nil,0⟩) _ (bs a.dep)).eqb _ (bs _) (n:=999) U
   ·rfl
end
end
section
open Go Go.RowKit Go.Lyc.T
section
variable [Tok]
def wo(k j:Nat)(o:Bool):List AV:=[.y (10*k+2+2*j),.y (10*k+3+2*j),.af,.gu o (10*k+j)]
def lo(k s:Nat)(o:Bool):List AV:=[.y (10*k),.y (10*k+1),.af,slA o (some 4) ((List.range s).map λj=>.ag (wo k j o))]
end
def a3Y(x:PF)(r:Nat):AV:=cond (Nat.beq r 0) (uB x.op) (.s x.bO)
def SM(f g:PF)(i:Nat):PF:=cond (Nat.beq (i/10) 0) f g
abbrev gz(f g:PF):Tok:=⟨λi=>cond (Nat.blt (i%10) 2) (a3Y (SM f g i) (i%10)) (a3Y ((SM f g i).subs.getD ((i%10-2)/2) .cO) ((i%10-2)%2)),λo i=>gp o ((SM f g i).subs.getD (i%10) .cO).aG.e4⟩
theorem oO(f g:PF): @TokOk (gz f g):=by
 letI:Tok:=gz f g
 refine⟨λ{w O B eL i old u} h=>?_,λ{w O B i u} h=>?_⟩
 ·exact Gq (λaD _ _ _=>⟨λh=>h,λh=>by cases h⟩) _ _ (lV _) u h
 ·exact Gq (λaD _ _ h=>⟨λh2=>by have:=h I;omega,h⟩) _ _ (lV _) u h
def PF.SN{a x:PF}(h:x∈a.subs):x.dep<a.dep:=@PF.lk (gz .cO .cO) (oO _ _) _ _ h
def PF.Gy(a:PF):a.subs.length<=2:=@PF.uF (gz .cO .cO) (oO _ _) a
def PF.Aj(o:Bool)(a:PF):a.aG.cells o=[uB a.op,.s a.bO,.af,slA o (some 4) (a.subs.map λx=>x.aG.A o)]:=by
 rw[Fm.j_];cases a<;>rfl
def a3Z(o:Bool)(a:PF):gp o a.aG.e4=slA o (some 4) (a.subs.map λx=>x.aG.A o):=by cases a<;>rfl
def b4.cells{T:Tok}{l m:List AV}(h:b4 T (.ag l) (.ag m)):l.length=m.length/\∀i (h:i<l.length) (h':i<m.length),b4 T l[i] m[i]:=by
 cases h with
 |ag _ _ hl h=>exact⟨hl,h⟩
def b4.al{T:Tok}{o:Bool}{aa:Option Nat}{c d:List (List AV)}(hl:c.length=d.length)(h:∀i (h:i<c.length) (h':i<d.length),b4 T (.ag c[i]) (.ag d[i])):b4 T (slA o aa (c.map AV.ag)) (slA o aa (d.map AV.ag)):=by
 cases c with
 |nil=>
  obtain rfl:d=[]:=Gr.1 hl.symm;exact .nil
 |cons x c=>
  cases d with
  |nil=>simp at hl
  |cons y d=>exact .a_ o aa (x::c) (y::d) hl (λi h1 h2=>(h i h1 h2).cells.1) λi h1 h2 j ax fA=>(h i h1 h2).cells.2 j ax fA
def b4.four{T:Tok}{aX bc cq ew eF dE dW fK:AV}(h1:b4 T aX eF)(h2:b4 T bc dE)(h3:b4 T cq dW)(aO:b4 T ew fK):b4 T (.ag [aX,bc,cq,ew]) (.ag [eF,dE,dW,fK]):=.ag _ _ I λi h h'=>by
 match i,h with
 |0,_=>exact h1
 |1,_=>exact h2
 |2,_=>exact h3
 |3,_=>exact aO
def b4.gA{T:Tok}(o:Bool):∀(d:Nat) (a:PF),a.dep<=d->b4 T (a.aG.A o) (a.aG.A o)
 |0,a,hd=>by cases a<;>simp[PF.dep] at hd
 |d+1,a,hd=>by
  unfold Fm.A;rw[PF.Aj];refine b4.four (.i _ _) (.s _) .nil ?_;have e:(a.subs.map λx=>x.aG.A o)=(a.subs.map λx=>x.aG.cells o).map AV.ag:=by rw[mj];rfl
  rw[e];refine b4.al I λi h h'=>?_;rw[b7] at h;rw[fX];exact b4.gA o d a.subs[i] (by have:=PF.SN (b9 h);omega)
section
variable {f g:PF}
def qD(f g:PF)(k:Nat):PF:=cond (Nat.beq k 0) f g
def SO(o:Bool){k j:Nat}(ay:k<2)(ax:j<2)(hx:j<(qD f g k).subs.length):b4 (gz f g) (.ag (wo k j o)) (((qD f g k).subs[j]).aG.A o):=by
 have hg:(qD f g k).subs.getD j .cO=(qD f g k).subs[j]:=by rw[fG,cM hx];rfl
 rw[<-hg];unfold Fm.A;rw[PF.Aj,← a3Z];have key:∀x:PF,(gz f g).pO o (10*k+j)=gp o x.aG.e4->b4 (gz f g) (.gu o (10*k+j)) (gp o x.aG.e4):=λx e=>by
  refine .gu o _ _ ?_ ?_
  ·rw[e];cases x.aG.e4 with
   |none=>exact .inl I
   |some l=>exact .inr ⟨_,_,rfl⟩
  ·rw[e];have:=b4.gA (T:=gz f g) o _ x (bs _);unfold Fm.A at this;rw[PF.Aj,← a3Z] at this;exact this.cells.2 3 aF aF
 have bb:k=0\/k=1:=by omega
 have ss:j=0\/j=1:=by omega
 rcases bb with rfl|rfl<;>rcases ss with rfl|rfl
 all_goals exact b4.four (.y _ (.inl ⟨_,_,rfl⟩)) (.y _ (.inr ⟨_,rfl⟩)) .nil (key _ I)
def Ak(o:Bool){k:Nat}(ay:k<2):b4 (gz f g) (.ag (lo k (qD f g k).subs.length o)) ((qD f g k).aG.A o):=by
 have hl:=(qD f g k).Gy;have aO:b4 (gz f g) (slA o (some 4) ((List.range (qD f g k).subs.length).map λj=>.ag (wo k j o))) (slA o (some 4) ((qD f g k).subs.map λx=>x.aG.A o)):=by
  have aL:((List.range (qD f g k).subs.length).map λj=>AV.ag (wo k j o))=((List.range (qD f g k).subs.length).map λj=>wo k j o).map AV.ag:=by rw[mj];rfl
  have a5:((qD f g k).subs.map λx=>x.aG.A o)=((qD f g k).subs.map λx=>x.aG.cells o).map AV.ag:=by rw[mj];rfl
  rw[aL,a5];refine b4.al aF λi h h'=>?_;rw[b7,pL] at h;rw[fX,fX,yn];exact SO o ay U h
 unfold Fm.A;rw[PF.Aj];have bb:k=0\/k=1:=by omega
 rcases bb with rfl|rfl
 all_goals exact b4.four (.y _ (.inl ⟨_,_,rfl⟩)) (.y _ (.inr ⟨_,rfl⟩)) .nil aO
end
inductive uP where
 |a
 |b
 |bin (k:Fin 3)
 |neg
 |cO
def uP.gA(f g:PF):uP->PF
 | .a=>f
 | .b=>g
 | .bin k=>.bin k f g
 | .neg=>.neg f
 | .cO=>.cO
def uP.gX(s1 s2:Nat)(o:Bool):uP->List AV
 | .a=>lo 0 s1 o
 | .b=>lo 1 s2 o
 | .bin k=>[.i .u8 (Int.ofNat (4+k.val)),.s [],.af,.a_ o (some 4) [.ag (lo 0 s1 o),.ag (lo 1 s2 o)]]
 | .neg=>[.i .u8 3,.s [],.af,.a_ o (some 4) [.ag (lo 0 s1 o)]]
 | .cO=>[.i .u8 2,.s [],.af,.af]
def uP.c4S(f g:PF)(o:Bool)(t:uP):b4 (gz f g) (.ag (t.gX f.subs.length g.subs.length o)) ((t.gA f g).aG.A o):=by
 have h0:=Ak (f:=f) (g:=g) o (k:=0) bw;have h1:=Ak (f:=f) (g:=g) o (k:=1) bw;cases t with
 |a=>exact h0
 |b=>exact h1
 |bin k=>
  show b4 _ _ (AV.ag ((PF.bin k f g).aG.cells o));rw[PF.Aj];refine b4.four (.i _ _) (.s _) .nil ?_;exact b4.al (o:=o) (aa:=some 4) (c:=[lo 0 f.subs.length o,lo 1 g.subs.length o]) (d:=[f.aG.cells o,g.aG.cells o]) I λi h h'=>by
   match i,h with
   |0,_=>exact h0
   |1,_=>exact h1
 |neg=>
  show b4 _ _ (AV.ag ((PF.neg f).aG.cells o));rw[PF.Aj];refine b4.four (.i _ _) (.s _) .nil ?_;exact b4.al (o:=o) (aa:=some 4) (c:=[lo 0 f.subs.length o]) (d:=[f.aG.cells o]) I λi h h'=>by
   match i,h with
   |0,_=>exact h0
 |cO=>exact b4.four (.i _ _) (.s _) .nil .nil
abbrev T.LD:Nat:=69
def rowM(r:Nat):List (Fm×uP):=match r with
 |0=>[(mA,.a),(eC,.b),(ir 0 mA eC,.bin 0)]
 |1=>[(ir 0 mA eC,.bin 0),(mA,.a)]
 |2=>[(ir 0 mA eC,.bin 0),(eC,.b)]
 |3=>[(mA,.a),(ir 1 mA eC,.bin 1)]
 |4=>[(eC,.b),(mA,.a),(ir 2 mA eC,.bin 2)]
 |5=>[(ir 2 mA eC,.bin 2),(mA,.a),(eC,.b)]
 |6=>[(nn,.cO),(mA,.a),(rJ mA,.neg)]
 |7=>[(mA,.a),(rJ mA,.neg),(nn,.cO)]
 |_=>[(nn,.cO),(mA,.a)]
def np(r:Nat):List (Fm×uP):=if r<6 then[(mA,.a),(eC,.b)] else[(mA,.a)]
abbrev a4a:=Nat×List AV×AV
def SP(r s1 s2:Nat):List a4a:=
 (rowM r).map (λp=>(kb,[.ag (p.2.gX s1 s2 true)],.b true))++((rowM r).map (λp=>(LD,[p.1.A true],.b true))++((np r).map (λp=>(xq,[.ag (bN p.1++(p.2.gX s1 s2 true++[.af])),.ag (p.2.gX s1 s2 true),.af],.a0 [.ag (p.2.gX s1 s2 false),.b true]))++
 ((np r).map (λp=>(xC,[.ag (p.2.gX s1 s2 true),.ag (p.2.gX s1 s2 true),.af],.b true))++(np r).map (λp=>(ma,[.ag (p.2.gX s1 s2 true)],.ag (p.2.gX s1 s2 false))))))
def a4b(r s1 s2:Nat):List AV:=[.a_ true (some 8) ((rowM r).map λp=>.ag (bN p.1++p.2.gX s1 s2 true)),.ag [.af,.af]]
def a4c(r s1 s2:Nat):AV:=.a0 [.ag [.a_ false (some 5) ((np r).map λp=>.ag (.s p.1.name::p.2.gX s1 s2 false)),.af],ah 0,ah 0]
def a4d(b:bT)(r:Nat):Bool:=cD (λs1=>cD (λs2=>runsTo b (SP r s1 s2) 100000 (qi,a4b r s1 s2,a4c r s1 s2)) [0,1,2]) [0,1,2]
def a4e(s:Nat):List a4a:=(List.range s).map λj=>(ma,[.ag (wo 0 j true)],.ag (wo 0 j false))
def a4f(b:bT):Bool:=cD (λs=>runsTo b (a4e s) 100000 (ma,[.ag (lo 0 s true)],.ag (lo 0 s false))) [0,1,2]
structure GivM(P:Program)(b:bT)(cn cb:AV):Prop where
 hb:∀T:Tok,@TokOk T→ @jR T P b
 fb:mg b
 fr:∀T:Tok,@TokOk T→ @x9 T P b cn cb
 leaf:Gu (b.env [])
 Ke:∀T:Tok,@TokOk T->∀r<9,∀p∈rowM r,@cV T P b LD [p.1.A true] (.b true)
 FN:∀r<9,a4d b r=true
 HZ:a4f b=true
section
variable {P:Program}{b:bT}{cn cb:AV}(G:GivM P b cn cb)
def three{s:Nat}(h:s<3):s∈[0,1,2]:=by
 have:s=0\/s=1\/s=2:=by omega
 simpa using this
def cV.gX{T gP:Tok}(hl:Gu (b.env [])){g:Nat}{aQ mP:List AV}{r b5:AV}(h1:aQ.length=mP.length)(h:∀i (h:i<aQ.length) (h':i<mP.length),b4 T aQ[i] mP[i])(aq:b4 T r b5): @cV T P b g aQ r↔ @cV gP P b g mP b5:=⟨λh' bz=>(b4.entry hl h1 h aq).1 (h' bz),λh' bz=>(b4.entry hl h1 h aq).2 (h' bz)⟩
def b4.one{T:Tok}{x y:AV}(h:b4 T x y):∀i (h:i<[x].length) (h':i<[y].length),b4 T [x][i] [y][i]:=λi h1 h2=>by
 match i,h1 with
 |0,_=>exact h
include G in
theorem LF:∀(d:Nat) (a:PF),a.dep<=d->∀gP:Tok,@cV gP P b ma [a.aG.A true] (a.aG.A false)
 |0,a,hd=>by cases a<;>simp[PF.dep] at hd
 |d+1,a,hd=>λgP=>by
  have hc:=a.Gy;have ht:=Ak (f:=a) (g:=a) true (k:=0) bw;have hf:=Ak (f:=a) (g:=a) false (k:=0) bw;refine(cV.gX (T:=gz a a) G.leaf (aQ:=[.ag (lo 0 a.subs.length true)]) (r:=.ag (lo 0 a.subs.length false)) (mP:=[a.aG.A true]) (b5:=a.aG.A false) I (b4.one ht) hf).1 ?_
  letI:Tok:=gz a a
  haveI:TokOk:=oO a a
  have j8:TabOk P b (a4e a.subs.length):=λe he bz=>by
   obtain⟨j,ax,rfl⟩:=dD.1 he;rw[P8] at ax;have h1:=SO (f:=a) (g:=a) true (k:=0) (j:=j) bw U ax;have h2:=SO (f:=a) (g:=a) false (k:=0) (j:=j) bw U ax;exact(cV.gX (T:=gz a a) (gP:=gz a a) G.leaf (aQ:=[.ag (wo 0 j true)]) (r:=.ag (wo 0 j false)) (mP:=[(a.subs[j]).aG.A true]) (b5:=(a.subs[j]).aG.A false) I (b4.one h1) h2).2 (LF d a.subs[j] (by have:=PF.SN (b9 ax);omega) (gz a a)) bz
  have cf:=lJ G.HZ a.subs.length (three U);exact λbz=>j8.entry (G.hb _ (oO a a)) cf bz
end
def b4.mk{T:Tok}{l m:List AV}(hl:l.length=m.length)(h:∀i (h:i<l.length) (h':i<m.length),b4 T l[i] m[i]):b4 T (.ag l) (.ag m):=.ag _ _ hl h
def b4.app{T:Tok}{l m cu aT:List AV}(h:b4 T (.ag l) (.ag m))(h':b4 T (.ag cu) (.ag aT)):b4 T (.ag (l++cu)) (.ag (m++aT)):=by
 obtain⟨aX,bc⟩:=h.cells;obtain⟨hU,m4⟩:=h'.cells;refine .mk (by rw[dv,dv];omega) λi h1 h2=>?_;by_cases hi:i<l.length
 ·rw[iw hi,iw U];exact bc i hi U
 ·rw[dv] at h1 h2;rw[wE U,wE U];have:=m4 (i-l.length) U U;simp only[<-aX];exact this
def b4.cons{T:Tok}{x y:AV}{l m:List AV}(hx:b4 T x y)(h:b4 T (.ag l) (.ag m)):b4 T (.ag (x::l)) (.ag (y::m)):=b4.app (l:=[x]) (m:=[y]) (.mk I (b4.one hx)) h
def b4.two{T:Tok}{x y de ey:AV}(hx:b4 T x y)(eo:b4 T de ey):∀i (h:i<[x,de].length) (h':i<[y,ey].length),b4 T [x,de][i] [y,ey][i]:=λi h1 h2=>by
 match i,h1 with
 |0,_=>exact hx
 |1,_=>exact eo
def b4.three{T:Tok}{x y de ey SQ SR:AV}(hx:b4 T x y)(eo:b4 T de ey)(c4T:b4 T SQ SR):∀i (h:i<[x,de,SQ].length) (h':i<[y,ey,SR].length),b4 T [x,de,SQ][i] [y,ey,SR][i]:=λi h1 h2=>by
 match i,h1 with
 |0,_=>exact hx
 |1,_=>exact eo
 |2,_=>exact c4T
def SS(F:Fm):F.A true= .ag (bN F):=by unfold Fm.A;rw[Fm.j_]
def b4.LG{T:Tok}(op:Nat)(n:List Nat):b4 T (.ag (bN (.mk op n none none))) (.ag (bN (.mk op n none none))):=b4.four (.i _ _) (.s _) .nil .nil
def b4.a4g{T:Tok}(op:Nat)(n:List Nat)(l:List Fm)(a7:l≠[])(h:∀x∈l,b4 T (.ag (bN x)) (.ag (bN x))):b4 T (.ag (bN (.mk op n none (some l)))) (.ag (bN (.mk op n none (some l)))):=by
 refine b4.four (.i _ _) (.s _) .nil ?_;show b4 T (.a_ true (some 4) (l.map (Fm.A true))) (.a_ true (some 4) (l.map (Fm.A true)));have e:l.map (Fm.A true)=(l.map bN).map AV.ag:=by rw[mj];exact ti λx _=>SS x
 rw[e];have:=b4.al (T:=T) (o:=true) (aa:=some 4) (c:=l.map bN) (d:=l.map bN) I λi h1 h2=>by
  rw[b7] at h1;rw[fX];exact h _ (b9 h1)
 cases l with
 |nil=>exact absurd I a7
 |cons x l=>exact this
def b4.Qb{T:Tok}{r:Nat}(aq:r<9):∀p∈rowM r,b4 T (.ag (bN p.1)) (.ag (bN p.1)):=by
 have hA:b4 T (.ag (bN mA)) (.ag (bN mA)):=b4.LG _ _;have ca:b4 T (.ag (bN eC)) (.ag (bN eC)):=b4.LG _ _;have b2:b4 T (.ag (bN nn)) (.ag (bN nn)):=b4.LG _ _;have CJ:∀k,b4 T (.ag (bN (ir k mA eC))) (.ag (bN (ir k mA eC))):=λk=>b4.a4g _ _ [mA,eC] aF λx hx=>by
  have hx:x=mA\/x=eC:=by simpa using hx
  rcases hx with rfl|rfl
  ·exact hA
  ·exact ca
 have ek:b4 T (.ag (bN (rJ mA))) (.ag (bN (rJ mA))):=b4.a4g _ _ [mA] aF λx hx=>by rw[show x=mA by simpa using hx];exact hA
 have:r=0\/r=1\/r=2\/r=3\/r=4\/r=5\/r=6\/r=7\/r=8:=by omega
 rcases this with rfl|rfl|rfl|rfl|rfl|rfl|rfl|rfl|rfl<;>intro p aw<;>simp only[rowM,dB,gR,or_false] at aw
 ·rcases aw with rfl|rfl|rfl<;>first|exact hA|exact ca|exact CJ _
 ·rcases aw with rfl|rfl<;>first|exact hA|exact ca|exact CJ _
 ·rcases aw with rfl|rfl<;>first|exact hA|exact ca|exact CJ _
 ·rcases aw with rfl|rfl<;>first|exact hA|exact ca|exact CJ _
 ·rcases aw with rfl|rfl|rfl<;>first|exact hA|exact ca|exact CJ _
 ·rcases aw with rfl|rfl|rfl<;>first|exact hA|exact ca|exact CJ _
 ·rcases aw with rfl|rfl|rfl<;>first|exact hA|exact b2|exact ek
 ·rcases aw with rfl|rfl|rfl<;>first|exact hA|exact b2|exact ek
 ·rcases aw with rfl|rfl<;>first|exact hA|exact b2|exact ek
def SU{r:Nat}:∀p∈np r,(p=(mA,.a)\/p=(eC,.b)):=λp aw=>by
 unfold np at aw;split at aw
 ·simpa using aw
 ·exact .inl (by simpa using aw)
def SV:∀(d:Nat) (a:PF) {n:Nat},a.dep<=d->2*d+2<=n->∀x∈a.aG.cells false,AV.eqb n x x=true
 |0,a,_,hd,_=>by cases a<;>simp[PF.dep] at hd
 |d+1,a,n,hd,hn=>λx hx=>by
  obtain⟨n,rfl⟩:∃m,n=m+2:=⟨n-2,U⟩
  rw[PF.Aj] at hx;simp only[dB,gR,or_false] at hx
  letI:Tok:=gz .cO .cO
  haveI:TokOk:=oO .cO .cO
  rcases hx with rfl|rfl|rfl|rfl
  ·exact ev I
  ·exact ev I
  ·exact ev I
  ·cases ao:a.subs with
   |nil=>rfl
   |cons y l=>
    refine xW λz a6=>?_;have a6:z∈(y::l).map λx=>x.aG.A false:=a6;obtain⟨c,ab,rfl⟩:=dD.1 a6;exact sX λv au=>SV d c (by have:=PF.SN (a:=a) (x:=c) (by rw[ao];exact ab);omega) U v au
section
variable {P:Program}{b:bT}{cn cb:AV}(G:GivM P b cn cb)
include G in
theorem c4U{r:Nat}(aq:r<9){f g:PF}(hf:f.low)(hg:g.low)(s5:∀p∈rowM r,(p.2.gA f g).low)(gP:Tok):∃res,@cV gP P b qi [.a_ true (some 8) ((rowM r).map λp=>nj (p.1,(p.2.gA f g).aG)),.ag [.af,.af]] res/\SG res:=by
 have jM:=f.Gy;have pb:=g.Gy;have iq:∀o (t:uP),b4 (gz f g) (.ag (t.gX f.subs.length g.subs.length o)) ((t.gA f g).aG.A o):=λo t=>uP.c4S f g o t;refine⟨.a0 [.ag [.a_ false (some 5) ((np r).map λp=>.ag (.s p.1.name::(p.2.gA f g).aG.cells false)),.af],ah 0,ah 0],(cV.gX (T:=gz f g) G.leaf (aQ:=a4b r f.subs.length g.subs.length) (r:=a4c r f.subs.length g.subs.length) (mP:=[.a_ true (some 8) ((rowM r).map λp=>nj (p.1,(p.2.gA f g).aG)),.ag [.af,.af]]) I ?_ ?_).1 ?_,_,rfl,λJ=>rfl,λn=>?_,λn=>?_⟩
 ·refine b4.two ?_ (.mk I (b4.two .nil .nil));have aL:((rowM r).map λp=>AV.ag (bN p.1++p.2.gX f.subs.length g.subs.length true))=((rowM r).map λp=>bN p.1++p.2.gX f.subs.length g.subs.length true).map AV.ag:=by rw[mj];rfl
  have a5:((rowM r).map λp=>nj (p.1,(p.2.gA f g).aG))=((rowM r).map λp=>bN p.1++bN (p.2.gA f g).aG).map AV.ag:=by rw[mj];rfl
  rw[aL,a5];have hall:∀i (h:i<(rowM r).length),b4 (gz f g) (.ag (bN (rowM r)[i].1++(rowM r)[i].2.gX f.subs.length g.subs.length true)) (.ag (bN (rowM r)[i].1++bN ((rowM r)[i].2.gA f g).aG)):=λi h=>(b4.Qb aq _ (b9 h)).app (by have:=iq true (rowM r)[i].2;rwa[SS] at this);refine .a_ _ _ _ _ (by rw[b7,b7]) (λi h1 h2=>?_) λi h1 h2 j ax fA=>?_
  ·rw[b7] at h1;rw[fX,fX];exact(hall i h1).cells.1
  ·rw[b7] at h1;have:=(hall i h1).cells.2 j (by rwa[fX] at ax) (by rwa[fX] at fA);simpa only[fX] using this
 ·refine .a0 _ _ I (b4.three (.mk I (b4.two ?_ .nil)) (.i _ _) (.i _ _));have aL:((np r).map λp=>AV.ag (.s p.1.name::p.2.gX f.subs.length g.subs.length false))=((np r).map λp=>.s p.1.name::p.2.gX f.subs.length g.subs.length false).map AV.ag:=by rw[mj];rfl
  have a5:((np r).map λp=>AV.ag (.s p.1.name::(p.2.gA f g).aG.cells false))=((np r).map λp=>.s p.1.name::(p.2.gA f g).aG.cells false).map AV.ag:=by rw[mj];rfl
  rw[aL,a5];have hall:∀i (h:i<(np r).length),b4 (gz f g) (.ag (.s (np r)[i].1.name::(np r)[i].2.gX f.subs.length g.subs.length false)) (.ag (.s (np r)[i].1.name::((np r)[i].2.gA f g).aG.cells false)):=λi h=>b4.cons (.s _) (iq false _);refine .a_ _ _ _ _ (by rw[b7,b7]) (λi h1 h2=>?_) λi h1 h2 j ax fA=>?_
  ·rw[b7] at h1;rw[fX,fX];exact(hall i h1).cells.1
  ·rw[b7] at h1;have:=(hall i h1).cells.2 j (by rwa[fX] at ax) (by rwa[fX] at fA);simpa only[fX] using this
 ·letI:Tok:=gz f g
  haveI:TokOk:=oO f g
  have cf:=lJ (lJ (G.FN r aq) f.subs.length (three U)) g.subs.length (three U);have j8:TabOk P b (SP r f.subs.length g.subs.length):=λe he bz=>by
   unfold SP at he;have kJ:∀p∈np r,(p.2.gA f g).low/\(p.1=mA\/p.1=eC):=λp aw=>by
    rcases SU p aw with rfl|rfl
    ·exact⟨hf,.inl I⟩
    ·exact⟨hg,.inr I⟩
   rcases fi.1 he with he|he
   ·obtain⟨p,aw,rfl⟩:=dD.1 he;exact(cV.gX (T:=gz f g) (gP:=gz f g) G.leaf (aQ:=[.ag (p.2.gX f.subs.length g.subs.length true)]) (mP:=[(p.2.gA f g).aG.A true]) I (b4.one (iq true _)) (.b true)).2 ((G.fr _ (oO f g)).right _ (s5 p aw)) bz
   rcases fi.1 he with he|he
   ·obtain⟨p,aw,rfl⟩:=dD.1 he;exact G.Ke _ (oO f g) r aq p aw bz
   rcases fi.1 he with he|he
   ·obtain⟨p,aw,rfl⟩:=dD.1 he;obtain⟨h1,h2⟩:=kJ p aw;have hd:=h1.1;have kq:∀τ,bM τ (b.bp+1000) (uH p.1 (p.2.gA f g).aG)=some (uH p.1 (p.2.gA f g).aG):=λτ=>by
     refine ox (k:=b.bp+999) (xQ ?_ (xQ (Gi (by rw[PF.js];omega)) I));rcases h2 with e|e<;>rw[e]<;>rfl
    have cQ:b4 (gz f g) (.ag (bN p.1)) (.ag (bN p.1)):=by rcases h2 with e|e<;>rw[e]<;>exact b4.LG _ _
    have c0:=a3X (G.hb _ (oO f g)) G.fb p.1 (p.2.gA f g).aG kq _ (p.2.gA f g) (bs _) U;have ht:=iq true p.2;refine(cV.gX (T:=gz f g) (gP:=gz f g) G.leaf (aQ:=[.ag (bN p.1++(p.2.gX f.subs.length g.subs.length true++[.af])),.ag (p.2.gX f.subs.length g.subs.length true),.af]) (r:=.a0 [.ag (p.2.gX f.subs.length g.subs.length false),.b true]) (mP:=[uH p.1 (p.2.gA f g).aG,(p.2.gA f g).aG.A true,.af]) (b5:=.a0 [(p.2.gA f g).aG.A false,.b true]) I (b4.three (cQ.app (b4.app (by rwa[SS] at ht) (.mk I (b4.one .nil)))) ht .nil) (.a0 _ _ I (b4.two (iq false _) (.b _)))).2 c0 bz
   rcases fi.1 he with he|he
   ·obtain⟨p,aw,rfl⟩:=dD.1 he;obtain⟨h1,h2⟩:=kJ p aw;have hd:=h1.1;have c0:=a3V (G.hb _ (oO f g)) G.fb _ (p.2.gA f g) (p.2.gA f g) (bs _) U U;rw[decide_eq_true I] at c0;exact(cV.gX (T:=gz f g) (gP:=gz f g) G.leaf (aQ:=[.ag (p.2.gX f.subs.length g.subs.length true),.ag (p.2.gX f.subs.length g.subs.length true),.af]) (mP:=[(p.2.gA f g).aG.A true,(p.2.gA f g).aG.A true,.af]) I (b4.three (iq true _) (iq true _) .nil) (.b true)).2 c0 bz
   ·obtain⟨p,aw,rfl⟩:=dD.1 he;exact(cV.gX (T:=gz f g) (gP:=gz f g) G.leaf (aQ:=[.ag (p.2.gX f.subs.length g.subs.length true)]) (r:=.ag (p.2.gX f.subs.length g.subs.length false)) (mP:=[(p.2.gA f g).aG.A true]) (b5:=(p.2.gA f g).aG.A false) I (b4.one (iq true _)) (iq false _)).2 (LF G _ _ (bs _) (gz f g)) bz
  exact λbz=>j8.entry (G.hb _ (oO f g)) cf bz
 ·letI:Tok:=gz .cO .cO
  haveI:TokOk:=oO .cO .cO
  refine xW (n:=n+499) λz a6=>?_;obtain⟨p,aw,rfl⟩:=dD.1 a6;have hd:(p.2.gA f g).dep<=38:=by
   rcases SU p aw with rfl|rfl
   ·exact hf.1
   ·exact hg.1
  refine sX (n:=n+498) λv au=>?_;rcases dB.1 au with rfl|au
  ·exact ev I
  ·exact SV _ _ (bs _) U v au
 ·letI:Tok:=gz .cO .cO
  haveI:TokOk:=oO .cO .cO
  rw[show n+500=n+499+1 from rfl,mG];refine ig λz a6=>?_;obtain⟨p,aw,rfl⟩:=dD.1 a6;have hd:(p.2.gA f g).dep<=38:=by
   rcases SU p aw with rfl|rfl
   ·exact hf.1
   ·exact hg.1
  refine ig λv au=>?_;rcases dB.1 au with rfl|au
  ·rfl
  ·have h:=Lz _ (p.2.gA f g) (n:=n+500) (bs _) U;rw[<-sW,mG] at h;exact lJ h v au
end
end
section
variable [Tok][TokOk]
open Go.RowKit Go.Lyc.T
section
variable {P:Program}{b:bT}{cn cb:AV}(G:GivM P b cn cb)
abbrev a4h(gs:List ef):Prop:=∀x∈gs,x.hyps.length<=1/\x.fH.dep<=38/\(∀h∈x.hyps,∃a:PF,h=a.aG/\a.low)/\(∃a:PF,x.fH=a.aG/\a.low)/\(∀h∈x.rest,∃a:PF,h=a.aG/\a.low)
structure Gz(r:dj)(F:PF)(gs:List ef)(k:Nat)(f g:PF):Prop where
 HT:k<9
 xK:(nQ r F.aG gs).map nj=(rowM k).map λp=>nj (p.1,(p.2.gA f g).aG)
 ne:(nQ r F.aG gs)≠[]
 low:f.low/\g.low/\∀p∈rowM k,(p.2.gA f g).low
 c4V:r∈jr
 aC:∀p∈r.cU,p.closed=false
 c:FG r gs
 hy:a4h gs
def CK:PF.low .cO:=⟨bw,bw⟩
def s4.one{gs:List ef}{p:PF×List PF}(h:s4 gs [p]):∃g,gs=[g]/\rK g p:=by
 cases h with
 |cons h1 h2=>cases h2;exact⟨_,rfl,h1⟩
def s4.two{gs:List ef}{p q:PF×List PF}(h:s4 gs [p,q]):∃g tQ,gs=[g,tQ]/\rK g p/\rK tQ q:=by
 cases h with
 |cons h1 h2=>cases h2 with
  |cons h2 h3=>cases h3;exact⟨_,_,rfl,h1,h2⟩
def rK.hy{g:ef}{p:PF×List PF}(h:rK g p)(hl:p.2.length<=1):g.hyps.length<=1/\g.fH.dep<=38/\(∀h∈g.hyps,∃a:PF,h=a.aG/\a.low)/\(∃a:PF,g.fH=a.aG/\a.low)/\(∀h∈g.rest,∃a:PF,h=a.aG/\a.low):=
 ⟨by rw[h.hyps,b7];exact hl,by rw[h.fH,PF.js];exact h.low.1.1,λx hx=>by rw[h.hyps] at hx;obtain⟨a,ha,rfl⟩:=dD.1 hx;exact⟨a,rfl,h.low.2 a ha⟩,⟨p.1,h.fH,h.low.1⟩,h.rest⟩
def a4i{r:dj}{F:Fm}{gs:List ef}:nQ r F gs≠[]:=by simp[nQ]
def Gz.one{r:dj}{F:PF}{x:ef}{p:PF×List PF}{k:Nat}{f g:PF}{pm:fh}(hx:rK x p)(aw:p.2.length<=1)(aq:r.cU=[pm])(kJ:pm.hyps.length=p.2.length)(gj:pm.closed=false)(Al:r∈jr)(ay:k<9)(FK:(nQ r F.aG [x]).map nj=(rowM k).map λp=>nj (p.1,(p.2.gA f g).aG))(s5:f.low/\g.low/\∀p∈rowM k,(p.2.gA f g).low):Gz r F [x] k f g:=by
 have hh:=hx.hy aw;refine⟨ay,FK,a4i,s5,Al,λq aV=>?_,⟨by rw[aq];rfl,yl (show _<=2 from by simp) bw,λi h h'=>?_,λz a6=>?_⟩,λz a6=>?_⟩
 ·rw[aq] at aV;rw[cB.1 aV];exact gj
 ·simp only[aq] at h' ⊢
  match i,h with
  |0,_=>show x.hyps.length=pm.hyps.length;rw[kJ,hx.hyps,b7]
 ·rw[cB.1 a6];exact⟨U,by have:=hx.len;omega⟩
 ·rw[cB.1 a6];exact hh
def Gz.two{r:dj}{F:PF}{x y:ef}{p q:PF×List PF}{k:Nat}{f g:PF}{pm GA:fh}(hx:rK x p)(hy:rK y q)(aw:p.2=[])(aV:q.2=[])(aq:r.cU=[pm,GA])(kJ:pm.hyps=[]/\GA.hyps=[])(gj:pm.closed=false/\GA.closed=false)(Al:r∈jr)(ay:k<9)(FK:(nQ r F.aG [x,y]).map nj=(rowM k).map λp=>nj (p.1,(p.2.gA f g).aG))(s5:f.low/\g.low/\∀p∈rowM k,(p.2.gA f g).low):Gz r F [x,y] k f g:=by
 have hh:=hx.hy (by rw[aw];decide);have DD:=hy.hy (by rw[aV];decide);have aL:x.hyps=[]:=by rw[hx.hyps,aw];rfl
 have a5:y.hyps=[]:=by rw[hy.hyps,aV];rfl
 refine⟨ay,FK,a4i,s5,Al,λq aV=>?_,⟨by rw[aq];rfl,yl (show _<=2 from by simp) bw,λi h h'=>?_,λz a6=>?_⟩,λz a6=>?_⟩
 ·rw[aq] at aV;have aV:q=pm\/q=GA:=by simpa using aV
  rcases aV with rfl|rfl
  ·exact gj.1
  ·exact gj.2
 ·simp only[aq] at h' ⊢
  match i,h with
  |0,_=>show x.hyps.length=pm.hyps.length;rw[kJ.1,aL]
  |1,_=>show y.hyps.length=GA.hyps.length;rw[kJ.2,a5]
 ·have a6:z=x\/z=y:=by simpa using a6
  rcases a6 with rfl|rfl
  ·exact⟨U,by have:=hx.len;omega⟩
  ·exact⟨U,by have:=hy.len;omega⟩
 ·have a6:z=x\/z=y:=by simpa using a6
  rcases a6 with rfl|rfl
  ·exact hh
  ·exact DD
def qB.row{r:dj}{F:PF}{aC:List (PF×List PF)}{gs:List ef}(h:qB r F aC)(b2:F.low)(hg:s4 gs aC):∃k f g,Gz r F gs k f g:=by
 cases h with
 |and f g=>
  obtain⟨x,y,rfl,hx,hy⟩:=hg.two;obtain⟨hU,h1,h4⟩:=x;obtain⟨m4,h2,kl⟩:=y;obtain rfl:=hx.fH;obtain rfl:=hy.fH;obtain rfl:=hx.hyps;obtain rfl:=hy.hyps;refine⟨0,f,g,.two hx hy I I I ⟨rfl,rfl⟩ ⟨rfl,rfl⟩ (by simp[jr]) bw I ⟨hx.low.1,hy.low.1,λp aw=>?_⟩⟩;have aw:p=(mA,.a)\/p=(eC,.b)\/p=(ir 0 mA eC,.bin 0):=by simpa [rowM] using aw
  rcases aw with rfl|rfl|rfl
  ·exact hx.low.1
  ·exact hy.low.1
  ·exact b2
 |g4 q f g=>
  obtain⟨x,rfl,hx⟩:=hg.one;obtain⟨hU,h1,h4⟩:=x;obtain rfl:=hx.fH;obtain rfl:=hx.hyps;have hb:(PF.bin 0 f g).low:=hx.low.1;have jM:max f.dep g.dep+1<=38:=hb.1;have pb:f.b0+g.b0+1<=380:=hb.2;have hf:f.low:=⟨U,U⟩
  have uK:g.low:=⟨U,U⟩
  cases q with
  |false=>
   refine⟨1,f,g,.one hx aF I I I (by simp[jr]) bw I ⟨hf,uK,λp aw=>?_⟩⟩;have aw:p=(ir 0 mA eC,.bin 0)\/p=(mA,.a):=by simpa [rowM] using aw
   rcases aw with rfl|rfl
   ·exact hb
   ·exact hf
  |true=>
   refine⟨2,f,g,.one hx aF I I I (by simp[jr]) bw I ⟨hf,uK,λp aw=>?_⟩⟩;have aw:p=(ir 0 mA eC,.bin 0)\/p=(eC,.b):=by simpa [rowM] using aw
   rcases aw with rfl|rfl
   ·exact hb
   ·exact uK
 |or f g=>
  obtain⟨x,rfl,hx⟩:=hg.one;obtain⟨hU,h1,h4⟩:=x;obtain rfl:=hx.fH;obtain rfl:=hx.hyps;have jM:max f.dep g.dep+1<=38:=b2.1;have pb:f.b0+g.b0+1<=380:=b2.2;refine⟨3,f,g,.one hx aF I I I (by simp[jr]) bw I ⟨hx.low.1,⟨U,U⟩,λp aw=>?_⟩⟩;have aw:p=(mA,.a)\/p=(ir 1 mA eC,.bin 1):=by simpa [rowM] using aw
  rcases aw with rfl|rfl
  ·exact hx.low.1
  ·exact b2
 |a3a f g=>
  obtain⟨x,rfl,hx⟩:=hg.one;obtain⟨hU,h1,h4⟩:=x;obtain rfl:=hx.fH;obtain rfl:=hx.hyps;have hf:f.low:=hx.low.2 f aF;refine⟨4,f,g,.one hx aF I I I (by simp[jr]) bw I ⟨hf,hx.low.1,λp aw=>?_⟩⟩;have aw:p=(eC,.b)\/p=(mA,.a)\/p=(ir 2 mA eC,.bin 2):=by simpa [rowM] using aw
  rcases aw with rfl|rfl|rfl
  ·exact hx.low.1
  ·exact hf
  ·exact b2
 |xY f g=>
  obtain⟨x,y,rfl,hx,hy⟩:=hg.two;obtain⟨hU,h1,h4⟩:=x;obtain⟨m4,h2,kl⟩:=y;obtain rfl:=hx.fH;obtain rfl:=hy.fH;obtain rfl:=hx.hyps;obtain rfl:=hy.hyps;refine⟨5,f,F,.two hx hy I I I ⟨rfl,rfl⟩ ⟨rfl,rfl⟩ (by simp[jr]) bw I ⟨hy.low.1,b2,λp aw=>?_⟩⟩;have aw:p=(ir 2 mA eC,.bin 2)\/p=(mA,.a)\/p=(eC,.b):=by simpa [rowM] using aw
  rcases aw with rfl|rfl|rfl
  ·exact hx.low.1
  ·exact hy.low.1
  ·exact b2
 |a3b f=>
  obtain⟨x,rfl,hx⟩:=hg.one;obtain⟨hU,h1,h4⟩:=x;obtain rfl:=hx.fH;obtain rfl:=hx.hyps;have hf:f.low:=hx.low.2 f aF;refine⟨6,f,.cO,.one hx aF I I I (by simp[jr]) bw I ⟨hf,CK,λp aw=>?_⟩⟩;have aw:p=(nn,.cO)\/p=(mA,.a)\/p=(rJ mA,.neg):=by simpa [rowM] using aw
  rcases aw with rfl|rfl|rfl
  ·exact CK
  ·exact hf
  ·exact b2
 |xZ f=>
  obtain⟨x,y,rfl,hx,hy⟩:=hg.two;obtain⟨hU,h1,h4⟩:=x;obtain⟨m4,h2,kl⟩:=y;obtain rfl:=hx.fH;obtain rfl:=hy.fH;obtain rfl:=hx.hyps;obtain rfl:=hy.hyps;refine⟨7,f,.cO,.two hx hy I I I ⟨rfl,rfl⟩ ⟨rfl,rfl⟩ (by simp[jr]) bw I ⟨hx.low.1,CK,λp aw=>?_⟩⟩;have aw:p=(mA,.a)\/p=(rJ mA,.neg)\/p=(nn,.cO):=by simpa [rowM] using aw
  rcases aw with rfl|rfl|rfl
  ·exact hx.low.1
  ·exact hy.low.1
  ·exact CK
 |z9=>
  obtain⟨x,rfl,hx⟩:=hg.one;obtain⟨hU,h1,h4⟩:=x;obtain rfl:=hx.fH;obtain rfl:=hx.hyps;refine⟨8,F,.cO,.one hx aF I I I (by simp[jr]) bw I ⟨b2,CK,λp aw=>?_⟩⟩;have aw:p=(nn,.cO)\/p=(mA,.a):=by simpa [rowM] using aw
  rcases aw with rfl|rfl
  ·exact CK
  ·exact b2
end
def c4W{J:ae}{n:Nat}{F:Fm}(h:2*F.dep+3<=n):bM J n (.ag (bN F))=some (.ag (bN F)):=by
 obtain⟨n,rfl⟩:∃m,n=m+1:=⟨n-1,U⟩
 exact ox (Gi U)
def a4j{J:ae}{n:Nat}{g:ef}(h1:g.fH.dep<=200)(h2:∀F∈g.hyps,F.dep<=200)(h3:∀F∈g.rest,F.dep<=200)(hn:900<=n):bM J n g.A=some g.A:=by
 obtain⟨n,rfl⟩:∃m,n=m+3:=⟨n-3,U⟩
 have aX:mapO (bM J (n+2)) (bN g.fH)=some (bN g.fH):=Gi U;have bc:bM J (n+2) (slA true (some 5) (g.hyps.map sM))=some (slA true (some 5) (g.hyps.map sM)):=Ag λF b2=>by
  have:=h2 F b2;refine ox (k:=n) ?_;rw[mapO_cons,Gi U];cases n with
  |zero=>omega
  |succ n=>rfl
 have cq:bM J (n+2) (slA true (some 4) (g.rest.map λF=>.ag (bN F)))=some (slA true (some 4) (g.rest.map λF=>.ag (bN F))):=Ag λF b2=>c4W (by have:=h3 F b2;omega);refine ox (xQ aX ?_);rw[mapO_cons,mapO_cons,bc,cq];rfl
def c4X{b:bT}:∀r∈jr,(∀J,bM J (b.bp+1000) r.A=some r.A)/\(∀J,bM J (b.bp+1000) (slA true (some 7) (r.cU.map fh.A))=some (slA true (some 7) (r.cU.map fh.A)))/\(∀p∈r.cU,∀J,bM J (b.bp+1000) p.A=some p.A)/\r.fH.dep<=10/\(∀p∈r.cU,p.f.dep<=10/\∀h∈p.hyps,h.dep<=10):=by
 intro r aq;simp only[jr,dB,gR,or_false] at aq;rcases aq with rfl|rfl|rfl|rfl|rfl|rfl|rfl|rfl|rfl|rfl|rfl<;>refine⟨λJ=>rfl,λJ=>rfl,?_,bw,?_⟩<;>intro p aw
 all_goals (
  simp only[So,Gf,Sp,a2Y,a2Z,Sq,Sr,Ss,St,Su,dB,gR,or_false] at aw
  first
   |(rcases aw with rfl|rfl|rfl<;>first|exact λJ=>rfl|exact⟨bw,bw⟩)
   |(rcases aw with rfl|rfl<;>first|exact λJ=>rfl|exact⟨bw,bw⟩)
   |(rcases aw with rfl<;>first|exact λJ=>rfl|exact⟨bw,bw⟩))
def mg.aI{b:bT}{K:Nat->List AV->AV->Prop}(fb:mg b):Cq b K:=⟨fb.c4G.h,fb.c4H.h,fb.c4I.h,fb.c4J.h,fb.c4K.h,fb.c4L.h⟩
def mg.ap{b:bT}{K:Nat->List AV->AV->Prop}(fb:mg b):a1R b K:=⟨fb.c4A.h,fb.c4B.h,fb.c4C.h,fb.c4D.h,fb.c4E.h,fb.c4F.h,fb.aI,fb.s9 I,fb.s9 I,fb.s9 I⟩
def c4Y{r:dj}{F:Fm}{gs:List ef}{n:Nat}(h0:1<=n)(ab:r.fH.dep<=n)(b2:F.dep<=n)(aw:∀p∈r.cU,p.f.dep<=n/\∀h∈p.hyps,h.dep<=n)(hg:∀g∈gs,g.fH.dep<=n/\∀h∈g.hyps,h.dep<=n):∀p∈nQ r F gs,p.1.dep<=n/\p.2.dep<=n:=by
 have d0:FH.dep<=n:=by
  have:FH.dep=1:=by decide
  omega
 have a4k:∀i,(r.cU.getD i oJ).f.dep<=n/\∀h∈(r.cU.getD i oJ).hyps,h.dep<=n:=λi=>by
  rw[fG];cases h:r.cU[i]? with
  |none=>exact⟨d0,λh hh=>by simp[oJ] at hh⟩
  |some p=>exact aw p (fL h)
 have a4l:∀i,(gs.getD i kd).fH.dep<=n/\∀h∈(gs.getD i kd).hyps,h.dep<=n:=λi=>by
  rw[fG];cases h:gs[i]? with
  |none=>exact⟨d0,λh hh=>by simp[kd] at hh⟩
  |some p=>exact hg p (fL h)
 have hl:∀ {l:List Fm} {i:Nat},(∀h∈l,h.dep<=n)->(l.getD i FH).dep<=n:=λ{l i} h=>by
  rw[fG];cases hx:l[i]? with
  |none=>exact d0
  |some p=>exact h p (fL hx)
 have h2:∀j,∀p∈pr2 r gs j,p.1.dep<=n/\p.2.dep<=n:=λj=>by
  induction j with
  |zero=>intro p aw;simp[pr2] at aw
  |succ j aH=>
   intro p aw;rw[pr2] at aw;rcases fi.1 aw with aw|aw
   ·exact aH p aw
   ·obtain⟨t,_,rfl⟩:=dD.1 aw;exact⟨hl (a4k j).2,hl (a4l j).2⟩
 intro p aw;unfold nQ at aw;rcases fi.1 aw with aw|aw
 ·rcases fi.1 aw with aw|aw
  ·obtain⟨i,_,rfl⟩:=dD.1 aw;exact⟨(a4k i).1,(a4l i).1⟩
  ·exact h2 _ p aw
 ·rw[cB.1 aw];exact⟨ab,b2⟩
section
variable {P:Program}{b:bT}{cn cb:AV}(G:GivM P b cn cb)
include G in
theorem c4Z{K:Nat->List AV->AV->Prop}(hb:jR P b)(fr:x9 P b cn cb)(hfn:∀g aQ r b5,K g aQ r->K g aQ b5->r=b5)(om:tV P b K)(hle:∀g aQ r,c3 P b cn cb g aQ r->K g aQ r){r:dj}{F:PF}{gs:List ef}(b2:F.low)(Al:r∈jr)(kq:∀p∈r.cU,p.closed=false)(ab:FG r gs)(hy:a4h gs)
  {cZ:AV} {at_ e:Nat} (cc:K qi [slA true (some 8) ((nQ r F.aG gs).map nj),.ag [.af,.af]] (.a0 [.ag [cZ,.af],ah at_,ah e])) (fS:e≠0->at_<(z1 r gs).length) (hfz:∀J,freeze J 0 998 cZ=some cZ) (heq:∀n,AV.eqb (n+500) cZ cZ=true) (bH:∀n,fk (n+500) cZ=true):
  ∃cZ gL dR eB az,cV P b vO [r.A,F.aG.A true,iG gs] (.a0 [.ag [cZ,gL],.ag [.i .u8 (Int.ofNat dR),ah eB,ah az],ah (if e=0 then 0 else 80)]):=by
 obtain⟨s1,s2,eI,bh,ih⟩:=c4X (b:=b) r Al;have x_:∀x∈gs,x.fH.dep<=200/\(∀h∈x.hyps,h.dep<=200)/\∀h∈x.rest,h.dep<=200:=λx hx=>by
  obtain⟨aX,bc,cq,ew,eJ⟩:=hy x hx;refine⟨U,λh hh=>?_,λh hh=>?_⟩
  ·obtain⟨c,rfl,ab⟩:=cq h hh;rw[PF.js];have:=ab.1;omega
  ·obtain⟨c,rfl,ab⟩:=eJ h hh;rw[PF.js];have:=ab.1;omega
 have d0t:=b2.1;have uD:AV.eqb (b.bp+1000) (.ag [cZ,.af]) (.ag [cZ,.af])=true:=sX (n:=b.bp+999) λx hx=>by
  have hx:x=cZ\/x= .af:=by simpa using hx
  rcases hx with rfl|rfl
  ·exact heq (b.bp+499)
  ·exact ev I
 have pv:∀ {x:ef},x∈gs->x.hyps.length<2^10:=λ{x} hx=>by have:=(hy x hx).1;omega
 have lH:gs.length<2^10:=by
  rw[ab.len];have:∀r∈jr,r.cU.length<2^10:=by decide
  exact this r Al
 have hw:=λbody iU=>c1y hfn (K:=K) G.fb.ap ab lH (λx hx=>pv hx) (at_:=at_) (e:=e) ⟨s2,eI,λJ=>Ag (n:=b.bp+999) λx hx=>a4j (x_ x hx).1 (x_ x hx).2.1 (x_ x hx).2.2 U,λx hx J=>a4j (x_ x hx).1 (x_ x hx).2.1 (x_ x hx).2.2 U⟩ s1 (c4Y bw U (by rw[PF.js];omega) (λp aw=>⟨by have:=(ih p aw).1;omega,λh hh=>by have:=(ih p aw).2 h hh;omega⟩) λx hx=>⟨(x_ x hx).1,(x_ x hx).2.1⟩) fS cc uD hfz kq (hle _ _ _ (c3.jJ (fr.pX r Al) (s8 bw) λr h=>h.s7 bw)) (λh hh=>by
  have key:∀a:PF,a.low->a.aG.dep<=200/\K kb [a.aG.A true] (.b true):=λa ha=>⟨by rw[PF.js];have:=ha.1;omega,hle _ _ _ (c3.jJ (fr.right a ha) (s8 bw) λr h=>h.s7 bw)⟩
  rcases dB.1 hh with rfl|hh
  ·exact key F b2
  ·obtain⟨x,hx,hh⟩:=Ay.1 hh;obtain⟨aX,bc,cq,⟨c,ew,FB⟩,eJ⟩:=hy x hx;rcases dB.1 hh with rfl|hh
   ·rw[ew];exact key c FB
   ·rcases fi.1 hh with hh|hh
    ·obtain⟨c,rfl,ab⟩:=cq h hh;exact key c ab
    ·obtain⟨c,rfl,ab⟩:=eJ h hh;exact key c ab) body iU
 by_cases he:e=0
 ·rw[if_pos he] at hw;refine⟨cZ,.af,0,0,0,λbz=>?_⟩;rw[jk,if_pos he];refine a1P hb om (ad:=1000) _ G.fb.SL.1 I I I ?_ ?_ (hw _ I) bz
  ·rw[mG];refine ig λy hy=>?_;have hy:y= .ag [cZ,.af]\/y=rF 0 0 0\/y=ah 0:=by simpa using hy
   rcases hy with rfl|rfl|rfl
   ·rw[show(999:Nat)=998+1 from rfl,mG];refine ig λz a6=>?_;have a6:z=cZ\/z= .af:=by simpa using a6
    rcases a6 with rfl|rfl
    ·exact bH 498
    ·rfl
   ·rfl
   ·rfl
  ·refine(ov λy hy=>?_:fY (AV.eqb 999) [.ag [cZ,.af],rF 0 0 0,ah 0] [.ag [cZ,.af],rF 0 0 0,ah 0]=true);have hy:y= .ag [cZ,.af]\/y=rF 0 0 0\/y=ah 0:=by simpa using hy
   rcases hy with rfl|rfl|rfl
   ·refine sX (n:=998) λx hx=>?_;have hx:x=cZ\/x= .af:=by simpa using hx
    rcases hx with rfl|rfl
    ·exact heq 498
    ·rfl
   ·rfl
   ·rfl
 ·rw[if_neg he] at hw;generalize(z1 r gs).getD at_ (0,0)=sH at hw;refine⟨.af,.af,2,sH.1,sH.2,λbz=>?_⟩;rw[jk,if_neg he];refine a1P hb om (ad:=1000) _ G.fb.SL.1 I I I I ?_ (hw _ I) bz;refine(ov λy hy=>?_:fY (AV.eqb 999) [.ag [.af,.af],z0 sH,ah 80] [.ag [.af,.af],z0 sH,ah 80]=true);have hy:y= .ag [.af,.af]\/y=z0 sH\/y=ah 80:=by simpa using hy
  rcases hy with rfl|rfl|rfl
  ·rfl
  ·exact sX (n:=998) λx hx=>by
    have hx:x= .i .u8 2\/x=ah sH.1\/x=ah sH.2:=(dB.1 hx).imp id λh=>(dB.1 h).imp id cB.1;rcases hx with rfl|rfl|rfl<;>exact ev I
  ·rfl
include G in
theorem c5a(gP:Tok)(SW: @TokOk gP){r:dj}{F:PF}{aC:List (PF×List PF)}{gs:List ef}(ha:qB r F aC)(b2:F.low)(hg:s4 gs aC):∃cZ gL dR eB az,@cV gP P b vO [r.A,F.aG.A true,iG gs] (.a0 [.ag [cZ,gL],.ag [uB dR,ah eB,ah az],ah 0]):=by
 letI:Tok:=gP
 haveI:TokOk:=SW
 obtain⟨k,f,g,hR⟩:=ha.row b2 hg;obtain⟨res,hm,a4m⟩:=c4U G hR.HT hR.low.1 hR.low.2.1 hR.low.2.2 gP;have aL:slA true (some 8) ((nQ r F.aG gs).map nj)= .a_ true (some 8) ((rowM k).map λp=>nj (p.1,(p.2.gA f g).aG)):=by
  rw[<-hR.xK];have:=hR.ne;cases hx:nQ r F.aG gs with
  |nil=>exact absurd hx this
  |cons x l=>rfl
 rw[<-aL] at hm;obtain⟨b5,c0,aW⟩:=c3.get (cn:=cn) (cb:=cb) hm (c4j a4m);obtain⟨cZ,a5,hfz,heq,bH⟩:=aW.FN I;rw[a5] at c0;exact c4Z (K:=c3 P b cn cb) G (G.hb gP SW) (G.fr gP SW) c3.fn c3.ok (λ_ _ _ h=>h) b2 hR.c4V hR.aC hR.c hR.hy c0 (λh=>absurd I h) hfz heq bH
end
section
variable {b:bT}{K:Nat->List AV->AV->Prop}
def mg.hf(fb:mg b):lQ b K:=⟨fb.Kj.h,fb.c4l.h,fb.c4m.h,fb.c4n.h,fb.c4o.h,fb.B6.h,fb.assumptions.h,fb.beside.h,fb.B7.h,fb.c4p.h⟩
def mg.ho(fb:mg b):Kw b K:=⟨fb.Gv.h,fb.c4q.h,fb.c4r.h,fb.Lx.2⟩
def mg.aw(fb:mg b):Fw b K:=⟨fb.c4s.h,fb.c4t.h,fb.c4u.h,fb.c4v.h,fb.c4w.h⟩
def mg.iU(fb:mg b):Q5 b K:=⟨fb.c4x.h,fb.c4y.h,fb.c4z.h,fb.s9 I,fb.a3P.2,fb.SL.2⟩
end
structure CL(b:bT)(l:iF)(R:List dj):Prop where
 rs:l.rs=R.map dj.A
 pre:∃rest,R=jr++rest
 len:R.length<2^20
 aC:∀r∈R,r.cU.length<2^20/\∀J,bM J (b.bp+1000) r.A=some r.A
 g3:∀J,bM J (b.bp+1000) (l.A true)=some (l.A true)
section
variable {P:Program}{b:bT}{l:iF}{R:List dj}{cb:AV}(G:GivM P b (l.A true) cb)(hl:CL b l R)
abbrev CM(P:Program)(b:bT)(l:iF)(cb:AV):Nat->List AV->AV->Prop:=c3 P b (l.A true) cb
include G
include hl
theorem c5b(hb:jR P b)(fr:x9 P b (l.A true) cb):Lk (CM P b l cb) R (l.A true) where
 pre:=hl.pre
 ap r F aC gs ha b2 hg:=by
  obtain⟨cZ,gL,dR,eB,az,my⟩:=c5a G _ inferInstance ha b2 hg;obtain⟨b5,c0,aW⟩:=c3.get (cn:=l.A true) (cb:=cb) my (c4k ⟨_,_,_,_,_,rfl⟩);obtain⟨cZ,gL,dR,eB,az,rfl⟩:=aW.app I;exact⟨cZ,gL,dR,eB,az,c0⟩
 cC f hf:=by
  have:=c3.jJ (cn:=l.A true) (cb:=cb) (c4P hb G.fb fr.right f f hf hf) (c4c f f) λr h=>h.Q8 I f f I;rwa[decide_eq_true I] at this
 fN f hf:=c3.jJ (fr.fN f hf) (s8 bw) λr h=>h.s7 bw
end
section
variable {P:Program}{b:bT}{l:iF}{R:List dj}{lc gY:List AV}(G:GivM P b (l.A true) (.a0 [.ag lc,.ag gY]))(hl:CL b l R)
def mg.ck(fb:mg b)(hb:jR P b)(fr:x9 P b (l.A true) (.a0 [.ag lc,.ag gY])):kX b (CM P b l (.a0 [.ag lc,.ag gY])) where
 sf:=fb.a3I.h
 ci:=fb.a3J.h
 li:=fb.line.h
 we:=fb.a3K.h
 aa:=fb.a3L.h
 wg:=fb.a3M.h
 pB:=fb.join.h
 at_:=fb.atom.h
 fn:=c3.fn
 es:=fb.Lv.2
 Ld:=fb.Lw.2
 size a h1 h2:=c3.jJ (a3T hb fb _ a (bs _) U U) (a3y a) λr h=>h.size I a I
 same a c h1 h2:=c3.jJ (a3U hb fb fr.st _ a c (bs _) U U) (a3z a c) λr h=>h.a3w I a c I
structure SX(b:bT)(l:iF)(lc gY:List AV):Prop where
 sU:lc.length=5/\gY.length=5
 g3:∀J,bM J (b.bp+1000) (.ag lc)=some (l.A true)
 eq:AV.eqb (b.bp+1000) (.ag lc) (.ag lc)=true
end
section
variable {P:Program}{b:bT}{l:iF}{R:List dj}{cb:AV}(G:GivM P b (l.A true) cb)(hl:CL b l R)
include G
theorem nV.g3{T:List bg}(g:nV T):∀J,bM J (b.bp+1000) (cG T)=some (cG T):=λJ=>c3q g.ne λx hx=>by have:=g.dep x hx;omega
theorem nV.c5c(hb:jR P b){T:List bg}(g:nV T){k:Nat}(h1:1<=k)(h2:k<=T.length):cV P b uf [cG T,ah k] (.b (nN T k)):=λbz=>
 lI hb (c3.ok (cn:=.af) (cb:=.af)) _ G.fb.Gw.1 I I I I (hs _).1 (hs _).2 (b9x T (by have:=g.le;omega) (λx hx=>by
  have h3:=g.kU.num x hx;obtain⟨i,hi,rfl⟩:=jK hx;have aO:=(g.wk (i+1) _ U (cM hi)).1;exact⟨U,U,aO⟩) k h1 h2 _ I) bz
theorem nV.c5d(hb:jR P b){T:List bg}(g:nV T):cV P b oB [cG T] (ah 0):=λbz=>
 lI hb (c3.ok (cn:=.af) (cb:=.af)) _ G.fb.Lx.1 I I I I (nG _ _).1 (nG _ _).2 (a0T c3.fn (T.map bg.A) (g.g3 G) (by rw[b7];have:=g.le;omega) (λk=>nN T k) G.fb.Gw.2 0 (ml _) (λk h1 h2 _=>by
  rw[b7] at h2;exact c3.jJ (g.c5c G hb h1 h2) (c4h _ _) λr aq=>aq.kU I _ _ I) (λk h1 h2 _=>by
  rw[b7] at h2;exact g.aa k h1 h2) (λh=>absurd I h) _ I) bz
theorem nV.zm(hb:jR P b){T:List bg}(g:nV T):zQ b (CM P b l cb) T where
 kU:=g.kU
 ne:=pM.2 g.ne
 le:=by have:=g.le;omega
 g3:=g.g3 G
 zR:=c3.jJ (g.c5d G hb) c4g λr aq=>aq.zR I
 kv:=g.kv
 uy k x hx h1:=g.wk k x h1 hx
theorem c5e(T:List bg){n:Nat}:fk (n+3) (rA T)=true/\AV.eqb (n+3) (rA T) (rA T)=true:=by
 have h1:∀i,fk (n+2) (vX T i)=true/\AV.eqb (n+2) (vX T i) (vX T i)=true/\(vX T i).cells=[vX T i]:=λi=>by
  unfold vX;cases pn T (i+1) with
  |false=>exact⟨rfl,rfl,rfl⟩
  |true=>
   refine⟨?_,xW (n:=n+1) λy hy=>?_,rfl⟩
   ·show fk (n+2) (.a_ false none ((stF T (i+1)).map ah))=true;rw[show n+2=n+1+1 from rfl,mG];refine a3C.2 ⟨rfl,ig λy hy=>?_⟩;obtain⟨k,_,rfl⟩:=dD.1 hy;rfl
   ·obtain⟨k,_,rfl⟩:=dD.1 hy;exact ev I
 unfold rA;refine⟨?_,xW (n:=n+2) λy hy=>?_⟩
 ·rw[show n+3=n+2+1 from rfl,mG];refine a3C.2 ⟨rfl,ig λy hy=>?_⟩;obtain⟨i,_,rfl⟩:=dD.1 hy;rw[(h1 i).2.2];exact ig λz a6=>by rw[cB.1 a6];exact(h1 i).1
 ·obtain⟨i,_,rfl⟩:=dD.1 hy;exact(h1 i).2.1
theorem nV.c5f(hb:jR P b)(ca:ll b qj YA){T:List bg}(g:nV T):cV P b qj [cG T] (.a0 [rA T,ah 0]):=λbz=>by
 have hw:=b9R (K:=CM P b l cb) c3.fn G.fb.hf G.fb.ho (g.zm G hb) _ I;have hf:=c5e G T (n:=996);refine vV hb c3.ok (ad:=1000) _ ca.1 I I I ?_ ?_ hw bz
 ·rw[show(1000:Nat)=999+1 from rfl,mG];refine ig λy hy=>?_;have hy:y=rA T\/y=ah 0:=by simpa using hy
  rcases hy with rfl|rfl
  ·exact hf.1
  ·rfl
 ·refine(ov λy hy=>?_:fY (AV.eqb 999) [rA T,ah 0] [rA T,ah 0]=true);have hy:y=rA T\/y=ah 0:=by simpa using hy
  rcases hy with rfl|rfl
  ·exact hf.2
  ·rfl
include hl
end
def a4n{T:List bg}:∀ {i:Nat},∀n∈stF T i,1<=n/\n<=i
 |0,n,h=>by simp[stF] at h
 |i+1,n,h=>by
  rw[stF] at h;split at h
  ·unfold zK at h;rcases fi.1 h with h|h
   ·have:=a4n (i:=i) n (pK h);omega
   ·have:=SI h;omega
  ·simp at h
end
section
variable [Tok][TokOk]
open Go.RowKit Go.Lyc.T
attribute [local irreducible] cg bL dC eu bE
def mh(S:List Bool)(n:Nat):List Bool:=S.set (n-1) true
def GB{S:List Bool}{n:Nat}:(mh S n).length=S.length:=ib
def rM:∀ {l:List Nat} {S:List Bool},(l.foldl mh S).length=S.length
 |[],_=>rfl
 |n::l,S=>by rw[Ha,rM,GB]
def nq(T:List bg)(k:Nat)(S:List Bool)(ac:Nat×Nat):List Bool:=cond (hJ T (cS T) k ac.1 ac.2) ((iY T ac.1 (kr T k+1)).foldl mh (mh (mh S ac.2) ac.1)) (mh S ac.2)
def c5g{T:List bg}{k:Nat}{S:List Bool}{ac:Nat×Nat}:(nq T k S ac).length=S.length:=by
 unfold nq;cases hJ T (cS T) k ac.1 ac.2 with
 |true=>rw[cond_true,rM,GB,GB]
 |false=>rw[cond_false,GB]
def SY{T:List bg}{k:Nat}:∀ {l:List (Nat×Nat)} {S:List Bool},(l.foldl (nq T k) S).length=S.length
 |[],_=>rfl
 |n::l,S=>by rw[Ha,SY,c5g]
def linW(T:List bg)(k:Nat)(S:List Bool):List Bool:=match T[k-1]? with
 |some x=>cond (S.getD (k-1) false) (x.cs.foldl (nq T k) ((stF T k).foldl mh S)) S
 |none=>S
def c5h{T:List bg}{k:Nat}{S:List Bool}:(linW T k S).length=S.length:=by
 unfold linW;split
 ·cases S.getD (k-1) false with
  |true=>rw[cond_true,SY,rM]
  |false=>rfl
 ·rfl
def wanD(T:List bg):Nat->List Bool
 |0=>mh (List.replicate T.length false) T.length
 |j+1=>linW T (T.length-j) (wanD T j)
def LH{T:List bg}:∀ {j:Nat},(wanD T j).length=T.length
 |0=>by rw[wanD,GB,qk]
 |j+1=>by rw[wanD,c5h,LH]
def s_(T:List bg):List Bool:=wanD T T.length
section
variable {b:bT}{K:Nat->List AV->AV->Prop}
def c5i(hh:bk (b.aM K) mb Y5){c q:Nat}{J:ae}{v:AV}{l:List Nat}{S:List Bool}(ab:J.get c=some (.cells [.al q 0 S.length none (some S.length)]))(aV:J.get q=some (.cells (S.map AV.b)))(qb:c≠q)(au:fg J v l)(Fg:∀i,v.at? =some i->i≠q)(hl:∀n∈l,1<=n/\n<=S.length)(e0:l.length<2^20)(cQ:S.length<2^20):
  bE (b.aM K) 0 (.f (.func mb) [] [aE c]) [v] J (λr τ=>r= .ok (.a0 [])/\τ.get q=some (.cells ((l.foldl mh S).map AV.b))/\(∀i o,i≠q->J.get i=some o->τ.get i=some o)/\τ.next=J.next):=by
 refine W.b8N hh I I I λz H=>?_;have qp:=au.kR;refine aj ?_;refine ak.each l.length (λj f τ=>τ.get q=some (.cells (((l.take j).foldl mh S).map AV.b))/\(∀i o,i≠q->J.get i=some o->τ.get i=some o)/\τ.next=J.next/\sat [(5,v),(1,aE c)] f) U ⟨aV,λ_ _ _ h=>h,rfl,rfl,rfl,trivial⟩ I I (λj g τ ax aW hi hm=>?_) (λg τ aW hi=>?_)
 ·obtain⟨h1,h2,h3,dm,bU,_⟩:=aW;refine ak.norm [(7,ah j),(6,ah l.length),(5,v),(1,aE c)] ⟨hi,hm,dm,bU,trivial⟩ λg=>?_;have H:Has τ [(c,[.al q 0 S.length none (some S.length)]),(q,((l.take j).foldl mh S).map AV.b)]:=(Has.nil.cons h1 aF).cons (h2 _ _ qb ab) (by simp;exact λe=>qb e.symm);have qp:=(au.aP (τ:=τ) λi o hi=>h2 i o (Fg i hi)).kR;obtain⟨p1,p2⟩:=hl _ (b9 ax);refine aj ?_;refine W.eR I I I I (m7 U) ?_;refine W.st H 1 I I I I I (a0C (by rw[rM];omega)) λdg iW H c9=>?_;refine aj ?_;refine⟨rfl,rfl,?_,λi o hi ho=>c9 _ _ hi (h2 i o hi ho),U,rfl,rfl,trivial⟩;rw[H.get _ (.tail _ (.head _)),lg ax,a3D];rfl
 ·obtain⟨h1,h2,h3,_⟩:=aW;rw[lO] at h1;exact⟨.inr I,rfl,h1,h2,h3⟩
end
structure oP(J:ae)(c q:Nat)(S:List Bool)(τ:ae):Prop where
 v:τ.get c=some (.cells [.al q 0 S.length none (some S.length)])
 s:τ.get q=some (.cells (S.map AV.b))
 k:∀i o,J.get i=some o->τ.get i=some o
 n:c<τ.next
section
variable {b:bT}{K:Nat->List AV->AV->Prop}{J τ aB:ae}{c q:Nat}{S:List Bool}
def oP.hM(h:oP J c q S τ)(M:dN τ aB):oP J c q S aB:=⟨M.2 _ _ h.v,M.2 _ _ h.s,λi o ho=>M.2 _ _ (h.k i o ho),by have:=M.1;have:=h.n;omega⟩
def oP.to(h:oP J c q S τ)(qb:c≠q)(rP:J.next<=q){l:List Nat}(h1:aB.get q=some (.cells ((l.foldl mh S).map AV.b)))(h2:∀i o,i≠q->τ.get i=some o->aB.get i=some o)(h3:aB.next=τ.next):oP J c q (l.foldl mh S) aB:=
 ⟨by rw[rM];exact h2 _ _ qb h.v,h1,λi o ho=>h2 _ _ (λe=>by have:=ae.bt ho;omega) (h.k i o ho),by rw[h3];exact h.n⟩
def GC(hh:bk (b.aM K) mb Y5)(h:oP J c q S τ)(qb:c≠q)(rP:J.next<=q){v:AV}{l:List Nat}(au:fg τ v l)(Fg:∀i,v.at? =some i->i≠q)(hl:∀n∈l,1<=n/\n<=S.length)(e0:l.length<2^20)(cQ:S.length<2^20):
  bE (b.aM K) 0 (.f (.func mb) [] [aE c]) [v] τ (λr aB=>r= .ok (.a0 [])/\oP J c q (l.foldl mh S) aB/\(∀i o,i≠q->τ.get i=some o->aB.get i=some o)/\aB.next=τ.next):=
 (c5i hh h.v h.s qb au Fg hl e0 cQ).mono λr aB ⟨e,h1,h2,h3⟩=>⟨e,h.to qb rP h1 h2 h3,h2,h3⟩
structure LI(b:bT)(K:Nat->List AV->AV->Prop):Prop where
 f:lQ b K
 w:bk (b.aM K) PM YP
 bW:bk (b.aM K) mb Y5
def a4o:bF:=match YP.body with|some c=>c|none=>.skip
def c5j(hw:LI b K){p k:Nat}{T:List bg}{N:List (List Nat)}(ed:kS J p T (cS T) N)(c6:oD T (cS T))(dP:∀x∈T,x.op<2^20)(a4p:q<c)(rP:J.next<=q)(h:oP J c q S τ)(cQ:S.length=T.length)(h1:1<=k)(ay:k<=T.length){x:bg}(hx:T[k-1]? =some x)(ab:oG k x.cs){z:Nat->AV}{Q:dZ}
  (b6:∀F aB,sat [(5,ah k),(4,.f (.func mb) [] [aE c]),(3,aE c),(0,aE p)] F->oP J c q (x.cs.foldl (nq T k) S) aB->Q .normal F aB):
  bL (b.aM K) none [] YP.ntmps (hN [1,1,1,1,0,1,0,0,1,0,0,1,1] a4o) (bB [(5,ah k),(4,.f (.func mb) [] [aE c]),(3,aE c),(0,aE p)] z) τ Q:=by
 obtain⟨cE,eO,bK,eZ,nh,qt,pr,nP,xT,a4q,a4r⟩:=ed.ex;have H:Has τ [(p,[cG T,cE,eO])]:=Has.nil.cons (h.k _ _ nh) aF;have mz:T[k-1]'U=x:=(fw.1 hx).2;have gj:=ab.1;have x5:=c6.lt;have qb:c≠q:=by omega
 have r9:=c6.br _ (b9 (show k-1<T.length by omega));have aL:=B8 (L:=T) (k:=k) U ay;refine W.sq ?_;refine aj ?_;rw[mz];refine aj ?_;refine ak.each x.cs.length (λj F aB=>oP J c q ((x.cs.take j).foldl (nq T k) S) aB/\sat [(56,hI true x.cs),(5,ah k),(4,.f (.func mb) [] [aE c]),(3,aE c),(0,aE p)] F) U ⟨h,rfl,rfl,rfl,rfl,rfl,trivial⟩ I I (λj F aB ax aW hi hm=>?_) (λF aB aW hi=>?_)
 ·obtain⟨h,a4s,dm,cX,cp,c5,_⟩:=aW;refine ak.norm [(58,ah j),(57,ah x.cs.length),(56,hI true x.cs),(5,ah k),(4,.f (.func mb) [] [aE c]),(3,aE c),(0,aE p)] ⟨hi,hm,a4s,dm,cX,cp,c5,trivial⟩ λF=>?_;have H:Has aB [(p,[cG T,cE,eO])]:=Has.nil.cons (h.k _ _ nh) aF;obtain⟨ha,eH,h5⟩:=ab.2 _ (b9 ax);have yC:(x.cs.take (j+1)).foldl (nq T k) S=nq T k ((x.cs.take j).foldl (nq T k) S) x.cs[j]:=by rw[lg ax,a3D];rfl
  have Am:((x.cs.take j).foldl (nq T k) S).length=T.length:=by rw[SY,cQ]
  refine aj ?_;generalize Fe:x.cs[j]=ac at ha eH h5 yC;obtain⟨a,d⟩:=ac;simp only[] at ha eH h5;generalize(x.cs.take j).foldl (nq T k) S=d0u at h yC Am;generalize mF:aB.next=m;have h0:=h;refine W.jj (c:=[ah a,ah d]) H mF I I I I I I λa9 c8 H bb=>?_;have h:=h.hM (aB:=a9) ⟨U,bb⟩;refine aj ?_;refine W.bK (c:=[ah d]) H c8 I I I λbu er H k3=>?_;have h:=h.hM (aB:=bu) ⟨U,k3⟩;have D6:q<m:=by have:=h0.n;omega
  refine W.an trivial I I I (GC hw.bW h qb rP (v:=.al (m+1) 0 1 none (some 1)) (l:=[d]) (.al (m+1) (some 1) [ah d] [] (H.get _ (.head _)) (λy hy=>by rw[cB.1 hy];rfl) (.inr I)) (λi hi=>by cases hi;omega) (λn hn=>by rw[cB.1 hn,Am];omega) (by show 1<_;decide) (by rw[Am];exact c6.lt)) λr cm ⟨e,h,b1,e_⟩=>⟨_,e,?_⟩
  have H:Has cm [(m,[ah a,ah d]),(p,[cG T,cE,eO])]:=((Has.nil.cons (h.k _ _ nh) aF).cons (b1 _ _ U (H.get _ (.tail _ (.head _)))) (by simp;have:=ae.bt nh;omega))
  refine aj ?_;refine W.an trivial I I I (Km hw.f (ed.aP h.k) c6 k a d ha eH h5 ay) λr dg ⟨e,jl⟩=>⟨_,e,?_⟩
  have h:=h.hM jl;have H:=H.aP jl.2;refine W.nil ?_;cases gO:hJ T (cS T) k a d with
  |false=>
   refine W.lM I ?_;refine ak.skip ?_;refine⟨rfl,rfl,?_,rfl,rfl,rfl,rfl,rfl,trivial⟩;rw[yC];unfold nq;rw[gO];exact h
  |true=>
   refine W.lL I ?_;refine aj ?_;generalize c5k:dg.next=zS;refine W.bK (c:=[ah a]) H c5k I I I λeA jf H et=>?_;have h:=h.hM (aB:=eA) ⟨U,et⟩;refine W.an trivial I I I (GC hw.bW h qb rP (v:=.al zS 0 1 none (some 1)) (l:=[a]) (.al zS (some 1) [ah a] [] (H.get _ (.head _)) (λy hy=>by rw[cB.1 hy];rfl) (.inr I)) (λi hi=>by cases hi;have:=jl.1;omega) (λn hn=>by rw[cB.1 hn,rM,Am];omega) (by show 1<_;decide) (by rw[rM,Am];exact x5)) λr eW ⟨e,h,gk,k6⟩=>⟨_,e,?_⟩
   have H:Has eW [(m,[ah a,ah d]),(p,[cG T,cE,eO])]:=((Has.nil.cons (h.k _ _ nh) aF).cons (gk _ _ U (H.get _ (.tail _ (.head _)))) (by simp;have:=ae.bt nh;omega))
   refine aj ?_;refine W.an (hw.f.q.one I) I I I (Qg hw.f (ed.aP h.k) x5 dP a (T[k-1].br+1) ha U) λr fI ⟨v,e,au,iP⟩=>⟨_,e,?_⟩
   have h:=h.hM iP;have pv:zo (b.aM K) mb:=(show tW (b.aM K) [mb] from λg hg=>by rw[cB.1 hg];exact⟨hw.bW.e,.inr ⟨hw.bW.p,_,_,hw.bW.f,rfl,rfl⟩⟩).one I;refine W.an pv I I I (GC hw.bW h qb rP au.al (λi hi=>by have:=au.cY i hi;have:=h0.n;have:=jl.1;omega) (λn hn=>by have:=QE (L:=T) hn;rw[rM,rM,Am];omega) (by have:=Ko T a (T[k-1].br+1) (T.length+1-a) a;unfold iY;omega) (by rw[rM,rM,Am];exact x5)) λr ke ⟨e,h,kN,sk⟩=>⟨_,e,?_⟩
   refine aj ?_;refine⟨rfl,rfl,?_,rfl,rfl,rfl,rfl,rfl,trivial⟩;rw[yC];unfold nq;rw[gO,cond_true,aL];exact h
 ·obtain⟨h,a4s,dm,cX,cp,c5,_⟩:=aW;rw[lO] at h;exact b6 _ _ ⟨dm,cX,cp,c5,trivial⟩ h
def c5l(hw:LI b K){p k:Nat}{T:List bg}{N:List (List Nat)}(ed:kS J p T (cS T) N)(c6:oD T (cS T))(dP:∀x∈T,x.op<2^20)(a4p:q<c)(rP:J.next<=q)(h:oP J c q S τ)(cQ:S.length=T.length)(h1:1<=k)(ay:k<=T.length)(ab:∀x,T[k-1]? =some x->oG k x.cs){z:Nat->AV}{Q:dZ}
  (b6:∀F aB,sat [(5,ah k),(4,.f (.func mb) [] [aE c]),(3,aE c),(0,aE p)] F->oP J c q (linW T k S) aB->Q .normal F aB):
  bL (b.aM K) none [] YP.ntmps (hN [1,1,1,1,0,1,0,0,1,0] a4o) (bB [(5,ah k),(4,.f (.func mb) [] [aE c]),(3,aE c),(0,aE p)] z) τ Q:=by
 obtain⟨cE,eO,bK,eZ,nh,qt,pr,nP,xT,a4q,a4r⟩:=ed.ex;have H:Has τ [(c,[.al q 0 S.length none (some S.length)]),(q,S.map AV.b),(p,[cG T,cE,eO])]:=((Has.nil.cons (h.k _ _ nh) aF).cons h.s (by simp;have:=ae.bt nh;omega)).cons h.v (by simp;have:=ae.bt nh;omega);have hx:T[k-1]? =some (T[k-1]'U):=cM U;have ab:=ab _ hx;have x5:=c6.lt;have Bc:=c6.len;have SZ:linW T k S=cond (S[k-1]'U) ((T[k-1]'U).cs.foldl (nq T k) ((stF T k).foldl mh S)) S:=by
  unfold linW;rw[hx,fG,cM U];rfl
 have HD:=(qt.aP (τ:=τ) λi o _ ho=>h.k i o ho).vw;refine ak.block ?_;refine W.sq ?_;refine aj ?_;refine W.eR I I I I (m7 U) ?_;refine W.aA H I I I (.tail _ (.head _)) (Qj U) ?_;generalize hg:S[k-1]'U=t at SZ;cases t with
 |false=>
  refine aj ?_;refine ak.exit ?_;refine b6 _ _ dp ?_;rw[SZ];exact h
 |true=>
  have uD:fg J (bK[k-1]'U) (stF T k):=by
   have aO:=nP (k-1) U U;have e:(cS T)[k-1]'U=stF T (k-1+1):=(fX (λi=>stF T (i+1))).trans (by rw[yn]);rw[e,show k-1+1=k by omega] at aO;exact aO
  have vg:(stF T k).length<2^20:=by
   have aO:=c6.blt _ (b9 (show k-1<(cS T).length by omega));have e:(cS T)[k-1]'U=stF T (k-1+1):=(fX (λi=>stF T (i+1))).trans (by rw[yn]);rw[e,show k-1+1=k by omega] at aO;exact aO
  refine aj ?_;refine W.an trivial I I I (GC hw.bW h U rP (uD.aP λi o _ ho=>h.k i o ho) (λi hi=>by have:=uD.lt hi;omega) (λn hn=>by have:=a4n n hn;omega) vg U) λr a9 ⟨e,h,bb,c8⟩=>⟨_,e,?_⟩
  refine W.nil (ak.norm [(5,ah k),(4,.f (.func mb) [] [aE c]),(3,aE c),(0,aE p)] dp λF=>?_);refine c5j hw ed c6 dP a4p rP h (by rw[rM];exact cQ) h1 ay hx ab λF bu b2 h3=>?_;refine b6 _ _ b2 ?_;rw[SZ];exact h3
def c5m(hw:LI b K){p:Nat}{T:List bg}{N:List (List Nat)}(ed:kS J p T (cS T) N)(c6:oD T (cS T))(dP:∀x∈T,x.op<2^20)(a7:1<=T.length)(ab:∀k x,1<=k->T[k-1]? =some x->oG k x.cs):
  bE (b.aM K) 0 (.f (.func PM) [] []) [aE p] J (λr τ=>∃q,r= .ok (.al q 0 T.length none (some T.length))/\τ.get q=some (.cells ((s_ T).map AV.b))/\J.next<=q/\dN J τ):=by
 refine W.code hw.w.e hw.w.p hw.w.f I I I I λz=>?_;obtain⟨cE,eO,bK,eZ,nh,qt,pr,nP,xT,a4q,a4r⟩:=ed.ex;have H:Has J [(p,[cG T,cE,eO])]:=Has.nil.cons nh aF;have x5:=c6.lt;refine aj ?_;generalize mF:J.next=q;refine W.mk H mF U U I I I I λec cP H bx=>?_;refine W.jj (c:=[.al q 0 T.length none (some T.length)]) H cP I I I I I I λa9 c8 H bb=>?_;refine aj ?_;refine W.bK (c:=[ah T.length]) H c8 I I I λbu er H k3=>?_;have h:oP J (q+1) q (List.replicate T.length false) bu:=⟨by rw[qk];exact H.get _ (.tail _ (.head _)),by rw[a3E];exact H.get _ (.tail _ (.tail _ (.head _))),λi o ho=>k3 _ _ (bb _ _ (bx _ _ ho)),U⟩
 have rP:J.next<=q:=by omega
 refine W.an trivial I I I (GC hw.bW h U rP (v:=.al (q+1+1) 0 1 none (some 1)) (l:=[T.length]) (.al (q+1+1) (some 1) [ah T.length] [] (H.get _ (.head _)) (λy hy=>by rw[cB.1 hy];rfl) (.inr I)) (λi hi=>by cases hi;omega) (λn hn=>by rw[cB.1 hn,qk];omega) (by show 1<_;decide) (by rw[qk];exact x5)) λr cm ⟨e,h,b1,e_⟩=>⟨_,e,?_⟩
 have H:Has cm [(p,[cG T,cE,eO])]:=Has.nil.cons (h.k _ _ nh) aF;refine aj ?_;refine ak.block (ak.loop (λm F τ=>∃j,j+m=T.length/\oP J (q+1) q (wanD T j) τ/\sat [(5,ah m),(4,.f (.func mb) [] [aE (q+1)]),(3,aE (q+1)),(0,aE p)] F) (λm F τ aW=>?_) T.length ⟨0,U,h,rfl,rfl,rfl,rfl,trivial⟩);obtain⟨j,d0v,h,ao⟩:=aW;refine ak.norm [(5,ah m),(4,.f (.func mb) [] [aE (q+1)]),(3,aE (q+1)),(0,aE p)] ao λF=>?_;by_cases hm:m=0
 ·subst hm;refine aj ?_;refine ak.exit ?_;show bL _ _ _ _ _ _ _ _;have H:Has τ [(q+1,[.al q 0 (wanD T j).length none (some (wanD T j).length)])]:=Has.nil.cons h.v aF;refine aj ?_;obtain rfl:j=T.length:=by omega
  refine ak.ret ⟨rfl,q,?_,h.s,bs _,by have:=h.n;omega,h.k⟩;show en.ok (.al q 0 (wanD T T.length).length none (some (wanD T T.length).length))=_;rw[LH]
 ·refine W.sq (W.sq (W.rg ?_));refine e5 ?_;refine W.nil (W.lL I (ak.skip ?_));refine ak.seq ?_;refine ak.norm [(5,ah m),(4,.f (.func mb) [] [aE (q+1)]),(3,aE (q+1)),(0,aE p)] dp λF=>?_;refine c5l hw ed c6 dP U rP h LH U U (λx hx=>ab m x U hx) λF dg b2 bI=>?_;refine ak.norm [(5,ah m),(4,.f (.func mb) [] [aE (q+1)]),(3,aE (q+1)),(0,aE p)] b2 λF=>?_;have H:Has dg []:=Has.nil;refine aj ?_;refine⟨m-1,U,j+1,U,?_,rfl,rfl,rfl,rfl,trivial⟩;rw[wanD,show T.length-j=m by omega];exact bI
end
def pF(T:List bg)(k:Nat)(num:List Nat)(cs:List (Nat×Nat)):List (Nat×Nat):=cs.map λac=>(num.getD (cond (hJ T (cS T) k ac.1 ac.2) ac.1 ac.2) 0,num.getD ac.2 0)
def cutS(T:List bg):Nat->List Nat×List bg
 |0=>(List.replicate (T.length+1) 0,[])
 |i+1=>match T[i]? with
  |some x=>cond ((s_ T).getD i false) ((cutS T i).1.set (i+1) ((cutS T i).2.length+1),(cutS T i).2++[{x with cs:=pF T (i+1) (cutS T i).1 x.cs}]) (cutS T i)
  |none=>cutS T i
def ya(T:List bg):List bg:=(cutS T T.length).2
def S0{T:List bg}:∀ {i:Nat},(cutS T i).1.length=T.length+1/\(cutS T i).2.length<=i
 |0=>⟨qk,bs _⟩
 |i+1=>by
  have aH:=S0 (T:=T) (i:=i);unfold cutS;split
  ·cases(s_ T).getD i false with
   |true=>rw[cond_true];exact⟨by rw[ib];exact aH.1,by rw[dv];show _+1<=_;omega⟩
   |false=>exact⟨aH.1,by rw[cond_false];omega⟩
  ·exact⟨aH.1,U⟩
abbrev bg.F(x:bg):AV:=.ag [ah x.br,ah x.op,.b x.hyp,uB x.f.op,.s x.f.name,gG false x.f.fl,gp false x.f.e4,.s x.c2,hI false x.cs]
abbrev wq(L:List bg):AV:=.a_ false (some 9) (L.map bg.F)
abbrev qE(c:Nat×Nat):AV:=.ag [ah c.1,ah c.2]
inductive An(W:Nat->Prop)(J:ae)(x:bg):AV->Prop
 |mk (cv:AV) (ab:h_ W J (some 2) cv (x.cs.map qE)):An W J x (.ag [ah x.br,ah x.op,.b x.hyp,uB x.f.op,.s x.f.name,gG false x.f.fl,gp false x.f.e4,.s x.c2,cv])
def An.aP{W W':Nat->Prop}{J τ:ae}{x:bg}{v:AV}(h:An W J x v)(k:∀i c,W i->J.get i=some (.cells c)->W' i/\τ.get i=some (.cells c)):An W' τ x v:=by
 cases h with
 |mk cv ab=>exact .mk cv (ab.aP k)
def a4t{J:ae}{n:Nat}:∀(l:List (Nat×Nat)),mapO (freeze J 0 (n+2)) (l.map qE)=some (l.map qE)
 |[]=>rfl
 |c::l=>by rw[oS,mapO_cons,a4t l];rfl
def h_.Fo{W:Nat->Prop}{J:ae}{v:AV}{l:List (Nat×Nat)}{n:Nat}(h:h_ W J (some 2) v (l.map qE)):freeze J 0 (n+3) v=some (hI false l):=by
 have hm:=a4t (J:=J) (n:=n) l;unfold hI;generalize l.map qE=xs at h hm;cases h with
 |nil=>rfl
 |al o cap xs rest hW hg ab ay a7=>
  rw[(Sl.al (aa:=some 2) o cap xs rest hg ab ay).freeze hm];cases xs with
  |nil=>exact absurd I a7
  |cons x l=>rfl
 |a_ xs ab a7=>
  cases xs with
  |nil=>exact absurd I a7
  |cons x l=>rfl
def An.Fo{W:Nat->Prop}{J:ae}{x:bg}{v:AV}(h:An W J x v){n:Nat}:freeze J 0 (n+5) v=some x.F:=by
 cases h with
 |mk cv ab=>
  rw[freeze_succ];show(match mapO (freeze J 0 (n+4)) _ with|none=>none|some l=>some (AV.ag l))=_;have h1:freeze J 0 (n+4) (gG false x.f.fl)=some (gG false x.f.fl):=by cases x.f.fl<;>rfl
  have h2:freeze J 0 (n+4) (gp false x.f.e4)=some (gp false x.f.e4):=by cases x.f.e4<;>rfl
  rw[mapO_cons,mapO_cons,mapO_cons,mapO_cons,mapO_cons,mapO_cons,mapO_cons,mapO_cons,mapO_cons,h1,h2,ab.Fo (n:=n+1)];rfl
structure yb(J:ae)(q u:Nat)(T:List bg)(w:AV)(i:Nat)(τ:ae):Prop where
 ay:∀i o,J.get i=some o->τ.get i=some o
 aV:τ.get q=some (.cells ((s_ T).map AV.b))
 hu:τ.get u=some (.cells ((cutS T i).1.map ah))
 km:∃km,Sl τ (some 9) w km/\km.length=(cutS T i).2.length/\∀j (h:j<km.length) (h':j<(cutS T i).2.length),An (λi=>i≠u/\w.at? ≠some i) τ (cutS T i).2[j] km[j]
 cY:∀o,w.at? =some o->u<o
 hn:u<τ.next
def yb.hM{J:ae}{q u:Nat}{T:List bg}{w:AV}{i:Nat}{τ aB:ae}(h:yb J q u T w i τ)(M:dN τ aB):yb J q u T w i aB:=by
 obtain⟨km,h1,h2,h3⟩:=h.km;exact⟨λi o ho=>M.2 _ _ (h.ay i o ho),M.2 _ _ h.aV,M.2 _ _ h.hu,⟨km,h1.aP λi o _=>M.2 i o,h2,λj a b=>(h3 j a b).aP λi c hi ab=>⟨hi,M.2 _ _ ab⟩⟩,h.cY,by have:=M.1;have:=h.hn;omega⟩
def a4u{l:List Nat}{n:Nat}(h:n<l.length):dV none ((l.map ah).drop (0+n*shN none))=some (ah (l.getD n 0)):=by
 have e:0+n*shN none=n:=by show 0+n*1=n;omega
 rw[e,← G_,E4 h,fG,cM h];rfl
def c5n{l:List Nat}{n m:Nat}(h:n<l.length):storeCells (l.map ah) (0+n*shN none) (ah m).cells=some ((l.set n m).map ah):=by
 have e:0+n*shN none=n:=by show 0+n*1=n;omega
 rw[e];unfold storeCells;rw[if_pos (iR (by show n+1<=_;rw[b7];omega))];show some ((l.map ah).take n++([ah m]++(l.map ah).drop (n+1)))=_;rw[E6,if_pos h];simp
def a4v:bF:=match Yz.body with|some c=>c|none=>.skip
abbrev uQ(p q u i:Nat)(T:List bg)(w:AV):List (Nat×AV):=[(31,ah i),(30,ah T.length),(29,cG T),(8,w),(7,.al u 0 (T.length+1) none (some (T.length+1))),(6,.al q 0 T.length none (some T.length)),(4,aE p),(0,cG T)]
section
variable {b:bT}{K:Nat->List AV->AV->Prop}{J τ:ae}{p q u i:Nat}{T:List bg}{w:AV}
def c5o(hf:lQ b K){N:List (List Nat)}(ed:kS J p T (cS T) N)(c6:oD T (cS T))(h:yb J q u T w i τ){x:bg}(hi:i<T.length)(ab:oG (i+1) x.cs){m:Nat}{lc:List AV}(hm:u<m)(d0w:w.at? ≠some m)(a4w:q≠m)(hl:τ.get m=some (.cells lc))(c5p:dV none (lc.drop 8)=some (hI true x.cs)){z:Nat->AV}{Q:dZ}
  (b6:∀F aB cv,sat ((11,cv)::(10,aE m)::(9,ah i)::uQ p q u i T w) F->dN τ aB->h_ (λo=>m<o) aB (some 2) cv ((pF T (i+1) (cutS T i).1 x.cs).map qE)->Q .normal F aB):
  bL (b.aM K) none [] Yz.ntmps (hN [1,1,1,1,1,1,0,1,0,0,1,1,0,0,1,1,1,0] a4v) (bB ((11,.af)::(10,aE m)::(9,ah i)::uQ p q u i T w) z) τ Q:=by
 have H:Has τ [(m,lc)]:=Has.nil.cons hl aF;have gj:=ab.1;have tE:=(S0 (T:=T) (i:=i)).1;have x5:=c6.lt;have hu:=h.hn;refine W.sq ?_;refine aj ?_;refine W.aA H I I I (.head _) c5p ?_;refine aj ?_;show bL _ _ _ _ _ _ _ _;generalize Fb:(cutS T i).1=num at tE b6;refine ak.each x.cs.length (λj F aB=>∃cv,dN τ aB/\Sl aB (some 2) cv ((pF T (i+1) num (x.cs.take j)).map qE)/\(x.cs.take j=[]->cv= .af)/\(∀o,cv.at? =some o->τ.next<=o)/\sat ((42,hI true x.cs)::(11,cv)::(10,aE m)::(9,ah i)::uQ p q u i T w) F) U ⟨.af,⟨bs _,λ_ _ h=>h⟩,.nil,(λ_=>rfl),(λ_ h=>by cases h),rfl,rfl,rfl,rfl,rfl,rfl,rfl,rfl,rfl,rfl,rfl,rfl,trivial⟩ rfl rfl (λj F aB ax aW r5 zV=>?_) (λF aB aW r5=>?_)
 ·obtain⟨cv,M,mf,n7,mw,ao⟩:=aW;have h0:=h;have h:=h.hM M;have hl:=M.2 _ _ hl;refine ak.norm ((44,ah j)::(43,ah x.cs.length)::(42,hI true x.cs)::(11,cv)::(10,aE m)::(9,ah i)::uQ p q u i T w) ⟨r5,zV,ao⟩ λF=>?_;have H:Has aB [(m,lc)]:=Has.nil.cons hl aF;obtain⟨ha,eH,h5⟩:=ab.2 _ (b9 ax);have iq:pF T (i+1) num (x.cs.take (j+1))=pF T (i+1) num (x.cs.take j)++pF T (i+1) num [x.cs[j]]:=by unfold pF;rw[lg ax,hQ]
  have c5q:x.cs.take (j+1)≠[]:=λe=>by have:=congrArg List.length e;simp only[g5,gN] at this;omega
  refine aj ?_;generalize x.cs[j]=ac at ha eH h5 iq;obtain⟨a,d⟩:=ac;simp only[] at ha eH h5;generalize iC:aB.next=k;refine W.jj (c:=[ah a,ah d]) H iC I I I I I I λa9 c8 H bb=>?_;have h:=h.hM (aB:=a9) ⟨U,bb⟩;refine aj ?_;refine W.an trivial I I I (Km hf (ed.aP h.ay) c6 (i+1) a d ha eH h5 U) λr bu ⟨e,ee⟩=>⟨_,e,?_⟩
  have h:=h.hM ee;have H:=H.aP ee.2;have mf:=mf.aP (τ:=bu) λi o _ ho=>ee.2 _ _ (bb _ _ ho);refine W.nil ?_;refine W.Fc (α:=Unit) (λ_=>(14,ah (cond (hJ T (cS T) (i+1) a d) a d))::(13,aE k)::(44,ah j)::(43,ah x.cs.length)::(42,hI true x.cs)::(11,cv)::(10,aE m)::(9,ah i)::uQ p q u i T w) (λ_ τ=>bu=τ) ?_ ?_
  ·cases hJ T (cS T) (i+1) a d with
   |true=>
    refine aj ?_;exact⟨rfl,(),rfl,rfl,rfl,rfl,rfl,rfl,rfl,rfl,rfl,rfl,rfl,rfl,rfl,rfl,rfl,rfl,rfl,trivial⟩
   |false=>
    refine aj ?_;exact⟨rfl,(),rfl,rfl,rfl,rfl,rfl,rfl,rfl,rfl,rfl,rfl,rfl,rfl,rfl,rfl,rfl,rfl,rfl,trivial⟩
  rintro _ F _ rfl;have w6:cond (hJ T (cS T) (i+1) a d) a d<num.length:=by cases hJ T (cS T) (i+1) a d<;>simp only[cond_true,cond_false]<;>omega
  have ko:d<num.length:=by omega
  have CN:=h.hu;rw[Fb] at CN;have ay:=H.get _ (.head _);have HB:hK bu [(u,num.map ah),(k,[ah a,ah d])]:=(hK.nil.cons ay).cons CN;refine W.wb [(u,num.map ah),(k,[ah a,ah d])] [12] 14 I I ?_;refine fO ?_;refine W.eR I I I I (m7 U) ?_;refine W.rI CN (.head _) I I I I (a4u w6) (ev I) ?_;refine fO ?_;refine W.eR I I I I (m7 U) ?_;refine W.rI CN (.head _) I I I I (a4u ko) (ev I) ?_;refine fO ?_;generalize n9:bu.next=k3;have KZ:k<k3:=by have:=ae.bt ay;omega
  refine W.bK (c:=[ah (num.getD (cond (hJ T (cS T) (i+1) a d) a d) 0),ah (num.getD d 0)]) H n9 I I I λcm e_ H b1=>?_;refine W.mO (HB.aP b1) I ?_;have hb:=H.get _ (.head _);have hlen:((pF T (i+1) num (x.cs.take j)).map qE).length=j:=by unfold pF;rw[b7,b7,g5];omega
  refine W.ap (w:=.al k3 0 1 (some 2) (some 1)) (qE (num.getD (cond (hJ T (cS T) (i+1) a d) a d) 0,num.getD d 0)) [] (mf.aP λi o _ ho=>b1 i o ho) ?_ (λz a6=>by rw[cB.1 a6];rfl) (by rw[hlen];show(3*(j+1)+2000)*16<=_;omega) I I I I λbR dg aX bc cq iW c9=>?_
  ·show(match cm.get k3 with|some (.cells c)=>elems (some 2) 1 (c.drop 0)|_=>none)=_;rw[hb];rfl
  refine fO ?_;have c5r:∀i o,cv.at? ≠some i->bu.get i=some o->dg.get i=some o:=λi o hi ho=>c9 _ _ hi (b1 _ _ ho);refine⟨rfl,rfl,bR,⟨by have:=ee.1;have:=M.1;omega,λi o ho=>c5r _ _ (λe=>by have:=mw _ e;have:=ae.bt ho;omega) (ee.2 _ _ (bb _ _ (M.2 _ _ ho)))⟩,?_,λe=>absurd e c5q,λo ho=>by rw[bc] at ho;cases ho;have:=ee.1;have:=M.1;omega,rfl,rfl,rfl,rfl,rfl,rfl,rfl,rfl,rfl,rfl,rfl,rfl,trivial⟩;rw[iq,hQ];exact aX
 ·obtain⟨cv,M,mf,n7,mw,_,ao⟩:=aW;rw[lO] at mf n7;refine b6 _ _ cv ao M ?_;have d0x:=ae.bt hl;cases hx:x.cs with
  |nil=>rw[n7 hx];exact .nil
  |cons y l=>
   rw[hx] at mf;generalize dG:(pF T (i+1) num (y::l)).map qE=xs at mf;cases mf with
   |nil=>simp[pF] at dG
   |al o cap xs rest hg ab ay=>exact .al o cap xs rest (by have:=mw o I;omega) hg ab ay (λe=>by subst e;simp[pF] at dG)
end
section
variable {b:bT}{K:Nat->List AV->AV->Prop}{J τ:ae}{p q u i:Nat}{T:List bg}{w:AV}(hfn:∀g aQ r b5,K g aQ r->K g aQ b5->r=b5)
include hfn
theorem c5s(hf:lQ b K)(rL:b.ext ma=0/\b.pure ma=true)(m5:∀x∈T,K ma [x.f.A true] (x.f.A false))(lp:∀x∈T,x.f.dep<=200){N:List (List Nat)}(ed:kS J p T (cS T) N)(c6:oD T (cS T))(d0y:q<u)(d0z:J.next<=u)(bI:T.length<=500)(h:yb J q u T w i τ)(hi:i<T.length)(ab:∀x,T[i]? =some x->oG (i+1) x.cs){z:Nat->AV}{Q:dZ}
  (b6:∀F aB av,sat (uQ p q u i T av) F->yb J q u T av (i+1) aB->Q .normal F aB):
  bL (b.aM K) none [] Yz.ntmps (hN [1,1,1,1,1,1,0,1,0,0,1,1,0] a4v) (bB (uQ p q u i T w) z) τ Q:=by
 have hx:T[i]? =some T[i]:=cM hi;have xR:T[i]∈T:=b9 hi;have ab:=ab _ hx;have m5:=m5 _ xR;have lp:=lp _ xR;have d0A:(s_ T).length=T.length:=LH;have LJ:cutS T (i+1)=cond ((s_ T)[i]'U) ((cutS T i).1.set (i+1) ((cutS T i).2.length+1),(cutS T i).2++[{T[i] with cs:=pF T (i+1) (cutS T i).1 T[i].cs}]) (cutS T i):=by
  rw[cutS,hx,fG,cM U];rfl
 have H:Has τ [(q,(s_ T).map AV.b)]:=Has.nil.cons h.aV aF;refine ak.block ?_;refine W.sq ?_;refine aj ?_;generalize T[i]=x at hx xR ab m5 lp LJ;have h0:=h;generalize mF:τ.next=m;have hu:=h.hn;refine W.cC (c:=[ah 0,ah 0,.b false,.i .u8 0,.s [],.af,.af,.s [],.af]) H mF I I I λec cP H bx=>?_;refine aj ?_;refine W.st (bD:=[ah x.br,ah x.op,.b x.hyp,uB x.f.op,.s x.f.name,gG true x.f.fl,gp true x.f.e4,.s x.c2,hI true x.cs]) H 0 I I I I I I λa9 c8 H bb=>?_;have ea:∀i o,τ.get i=some o->a9.get i=some o:=λi o ho=>bb _ _ (by have:=ae.bt ho;omega) (bx _ _ ho);have h:=h.hM (aB:=a9) ⟨U,ea⟩;refine aj ?_;refine W.eR I I I I (m7 hi) ?_;refine W.aA H I I I (.tail _ (.head _)) (Qj U) ?_;generalize hg:(s_ T)[i]'U=t at LJ;cases t with
 |false=>
  refine aj ?_;refine ak.exit ?_;refine b6 _ _ w dp ?_;have e:cutS T (i+1)=cutS T i:=LJ;obtain⟨km,aX,bc,cq⟩:=h.km;exact⟨h.ay,h.aV,by rw[e];exact h.hu,⟨km,aX,by rw[e];exact bc,λj eF dE=>by
   have dW:=dE;rw[e] at dW;have:=cq j eF dW;simp only[e];exact this⟩,h.cY,h.hn⟩
 |true=>
  refine e5 ?_;refine W.nil (W.lM I (ak.skip ?_));refine W.sq (W.rg ?_);refine e5 ?_;refine W.nil (ak.seq ?_);refine ak.norm ((11,.af)::(10,aE m)::(9,ah i)::uQ p q u i T w) dp λF=>?_;have a4x:w.at? ≠some m:=λe=>by
   obtain⟨km,aX,_⟩:=h0.km;have:=aX.lt e;omega
  have D6:q≠m:=by omega
  refine c5o hf ed c6 h hi ab U a4x D6 (H.get _ (.head _)) I λF bu cv b2 ee mf=>?_;have hl:=ee.2 _ _ (H.get _ (.head _));refine ak.norm ((11,cv)::(10,aE m)::(9,ah i)::uQ p q u i T w) b2 λF=>?_;clear H;have H:Has bu [(m,[ah x.br,ah x.op,.b x.hyp,uB x.f.op,.s x.f.name,gG true x.f.fl,gp true x.f.e4,.s x.c2,hI true x.cs])]:=Has.nil.cons hl aF;obtain⟨sl,sy,pk⟩:=mf.one;rw[sW] at m5;refine W.sq ?_;refine aj ?_;refine W.e3 hfn rL m5 I I I (k_ (by show bM bu (b.bp+1000) (.ag (bN x.f))=_;rw[<-jk];exact Fm.snap bu true _ _ _ (bs _) U)) ?_;refine aj ?_;refine W.st (bD:=[ah x.br,ah x.op,.b x.hyp,uB x.f.op,.s x.f.name,gG false x.f.fl,gp false x.f.e4,.s x.c2,hI true x.cs]) H 0 I I I I I I λcm e_ H b1=>?_;refine aj ?_;refine W.st (bD:=[ah x.br,ah x.op,.b x.hyp,uB x.f.op,.s x.f.name,gG false x.f.fl,gp false x.f.e4,.s x.c2,cv]) H 0 I I I I pk (by rw[sl];rfl) λdg iW H c9=>?_;refine aj ?_;obtain⟨km,ao,mu,wu⟩:=h0.km;have t3:∀i o,τ.get i=some o->bu.get i=some o:=λi o ho=>ee.2 _ _ (ea _ _ ho);have Vg:=ao;have ao:=ao.aP λi o _ ho=>t3 i o ho;have h:=h.hM ee;have nw:=h.cY;have gj:=(S0 (T:=T) (i:=i))
  have d0B:=h.hn;have dm:∀i o,i≠m->bu.get i=some o->dg.get i=some o:=λi o hi ho=>c9 _ _ hi (b1 _ _ hi ho);have c5t:∀o,w.at? =some o->o≠m:=λo e a5=>a4x (a5▸e);refine W.pu (c:=[ah x.br,ah x.op,.b x.hyp,uB x.f.op,.s x.f.name,gG false x.f.fl,gp false x.f.e4,.s x.c2,cv]) (.ag [ah x.br,ah x.op,.b x.hyp,uB x.f.op,.s x.f.name,gG false x.f.fl,gp false x.f.e4,.s x.c2,cv]) (ao.aP λi o hi ho=>dm i o (c5t i hi) ho) I I I I I I I I I (by rw[mu];omega) λav eA aX bc cq jf et=>?_;have gU:∀i o,i≠m->w.at? ≠some i->bu.get i=some o->eA.get i=some o:=λi o h1 h2 ho=>et _ _ h2 (dm i o h1 ho);have c5u:w.at? ≠some u:=λe=>by have:=nw u e;omega
  have c5v:=gU u _ U c5u h.hu;have H:Has eA [(u,(cutS T i).1.map ah)]:=Has.nil.cons c5v aF;have hlen:(km++[AV.ag [ah x.br,ah x.op,.b x.hyp,uB x.f.op,.s x.f.name,gG false x.f.fl,gp false x.f.e4,.s x.c2,cv]]).length=(cutS T i).2.length+1:=by rw[dv,mu];rfl
  refine aj ?_;refine W.len I I I aX.len ?_;rw[hlen];refine aj ?_;refine W.eR I I I I (m7 U) ?_;refine W.st H 0 I I I I I (c5n U) λeW k6 H gk=>?_;refine aj ?_;have e:cutS T (i+1)=((cutS T i).1.set (i+1) ((cutS T i).2.length+1),(cutS T i).2++[{x with cs:=pF T (i+1) (cutS T i).1 x.cs}]):=LJ;have a4m:τ.next<=m:=by omega
  have y9:m<bu.next:=ae.bt hl;have hH:∀i o,i≠m->i≠u->w.at? ≠some i->bu.get i=some o->eW.get i=some o:=λi o h1 h2 h3 ho=>gk _ _ h2 (gU i o h1 h3 ho);have LK:∀o,av.at? =some o->bu.next<=o:=λo ho=>by rw[bc] at ho;cases ho;omega
  refine b6 _ _ av dp ⟨λi o ho=>?_,?_,?_,⟨_,aX.aP λi o hi ho=>gk _ _ (λe=>by have:=LK i hi;omega) ho,by rw[hlen,e,dv];rfl,λj eF dE=>?_⟩,λo ho=>by have:=LK o ho;omega,U⟩
  ·have h1:=ae.bt (h0.ay _ _ ho);have h2:=ae.bt ho;exact hH _ _ U U (λe=>by have:=nw i e;omega) (h.ay _ _ ho)
  ·exact hH _ _ D6 U (λe=>by have:=nw q e;omega) h.aV
  ·rw[e];exact H.get _ (.head _)
  ·have dW:=dE;rw[e] at dW;simp only[e];by_cases ax:j<km.length
   ·rw[iw ax,iw U];exact(wu j ax U).aP λi c hi ab=>by
     have h1:=ae.bt ab;exact⟨⟨hi.1,λe=>by have:=LK i e;omega⟩,hH _ _ U hi.1 hi.2 (t3 _ _ ab)⟩
   ·have gK:j=km.length:=by rw[hlen] at eF;omega
    subst gK;rw[wE U,wE U];simp only[List.getElem_singleton];refine .mk cv (mf.aP λi c hi ab=>?_);have h1:=ae.bt ab;exact⟨⟨U,λe=>by have:=LK i e;omega⟩,hH _ _ U U (λe=>by have:=Vg.lt e;omega) ab⟩
theorem c5w(hw:LI b K)(ho:Kw b K){T:List bg}(cW:zQ b K T)(rL:b.ext ma=0/\b.pure ma=true)(m5:∀x∈T,K ma [x.f.A true] (x.f.A false))(lp:∀x∈T,x.f.dep<=200)(a7:ya T≠[])(body:bF)(hb:Yz.body=some body):ak (b.aM K) Yz.ntmps body (fv [cG T]) ⟨.nil,0⟩ (uv Yz.results (.a0 [wq (ya T),ah 0])):=by
 cases hb;refine W.jD λz H=>?_;have bI:=cW.le;refine aj ?_;refine W.an trivial I I I (Qw hfn hw.f ho.op ho.aQ ho.QC cW.kU cW.ne cW.le cW.g3 ho.gx cW.zR cW.kv cW.uy) λr τ ⟨p,e,ch,_,M⟩=>⟨_,e,?_⟩
 refine aj ?_;refine W.an trivial I I I (c5m hw ch.xK cW.kv (λx hx=>by have:=cW.kU.num x hx;omega) cW.ne (λk x h1 hx=>cW.uy k x hx h1)) λr a9 ⟨q,e,aV,wi,M2⟩=>⟨_,e,?_⟩
 have H:=H.aP λi o ho=>M2.2 _ _ (M.2 i o ho);refine aj ?_;generalize hu:a9.next=u;refine W.mk H hu U U I I I I λbu er H k3=>?_;refine aj ?_;show bL _ _ _ _ _ _ _ _;have RN:=ae.bt aV;have h0:yb a9 q u T .af 0 bu:=⟨k3,k3 _ _ aV,by show _=some (AO.cells ((List.replicate (T.length+1) 0).map ah));rw[a3E];exact H.get _ (.head _),⟨[],.nil,rfl,λj h=>by simp at h⟩,λo h=>(by cases h),U⟩
 refine ak.each T.length (λi F aB=>∃w,yb a9 q u T w i aB/\sat [(29,cG T),(8,w),(7,.al u 0 (T.length+1) none (some (T.length+1))),(6,.al q 0 T.length none (some T.length)),(4,aE p),(0,cG T)] F) U ⟨.af,h0,rfl,rfl,rfl,rfl,rfl,rfl,trivial⟩ I I (λi F aB hi aW r5 hm=>?_) (λF aB aW r5=>?_)
 ·obtain⟨w,h,a4y,gM,hH,gU,cX,c5,_⟩:=aW;refine ak.norm (uQ p q u i T w) ⟨r5,hm,a4y,gM,hH,gU,cX,c5,trivial⟩ λF=>?_;refine c5s hfn hw.f rL m5 lp (ch.xK.aP M2.2) cW.kv U U bI h hi (λx hx=>cW.uy (i+1) x hx U) λF cm av b2 aO=>?_;obtain⟨c5x,c5y,b2⟩:=b2;exact⟨c5x,c5y,av,aO,b2⟩
 ·obtain⟨w,h,a4y,gM,hH,gU,cX,c5,_⟩:=aW;refine ak.norm [(8,w)] ⟨gM,trivial⟩ λF=>?_;have H:Has aB []:=Has.nil;obtain⟨km,ao,mu,wu⟩:=h.km;refine aj ?_;refine ak.ret ⟨rfl,_,rfl,?_⟩;have mu:km.length=(ya T).length:=mu;have Gh:km≠[]:=λe=>a7 (Gr.1 (by rw[<-mu,e];rfl));have hfz:=ao.freeze (n:=998) (bf:=(ya T).map bg.F) (zP (by rw[b7,mu]) λi h1 h2=>by
   rw[b7] at h2;rw[fX];exact(wu i h1 h2).Fo (n:=993))
  rw[freeze_succ];show(match mapO (Go.Lyc.freeze aB 0 999) [w,ah 0] with|none=>none|some l=>some (AV.a0 l))=_;rw[mapO_cons,hfz];unfold Ch;cases ao with
  |nil=>exact absurd I Gh
  |al o cap xs rest hg ab ay=>rfl
end
inductive yc(b:bT)(K:Nat->List AV->AV->Prop)(V:AV):Nat->Nat->Prop
 |many (n:Nat):(∀τ:ae,lenA τ 1 V=some n)->(n=0\/500<n)->n<2^20->yc b K V 5 0
 |shape (n r:Nat):(∀τ:ae,lenA τ 1 V=some n)->0<n->n<=500->r≠0->r<=500->(∀τ:ae,bM τ (b.bp+1000) V=some V)->(b.ext oB=0/\b.pure oB=true)->K oB [V] (ah r)->yc b K V 2 r
section
variable {b:bT}{K:Nat->List AV->AV->Prop}(hfn:∀g aQ r b5,K g aQ r->K g aQ b5->r=b5){V:AV}{e r:Nat}
include hfn
theorem LL(hh:bk (b.aM K) ue YM)(hV:yc b K V e r){J:ae}:bE (b.aM K) 0 (.f (.func ue) [] []) [V] J (λr τ=>r= .ok (.a0 [.p none,ah e])/\τ=J):=by
 refine W.nO hh.e hh.p hh.f I I I λz=>?_;have H:Has J []:=Has.nil;cases hV with
 |many n hl hn h6=>
  refine aj ?_;refine W.len I I I (hl _) ?_;by_cases h0:n=0
  ·refine aj ?_;exact ak.ret ⟨rfl,_,rfl,rfl,rfl⟩
  ·refine aj ?_;refine W.len I I I (hl _) ?_;refine aj ?_;exact ak.ret ⟨rfl,_,rfl,rfl,rfl⟩
 |shape n r hl h1 h2 h3 aO ao he c0=>
  refine aj ?_;refine W.len I I I (hl _) ?_;refine aj ?_;refine W.len I I I (hl _) ?_;refine aj ?_;refine W.e3 hfn he c0 I I I (k_ (ao _)) ?_;refine aj ?_;exact ak.ret ⟨rfl,_,rfl,rfl,rfl⟩
def wv(e r:Nat):AV:=.a0 [.ag [ah r,.i .u8 (if e=5 then 1 else 2),.i .u8 0,ah 0,ah 0],ah 180]
theorem c5z(ho:bk (b.aM K) ue YM)(hV:yc b K V e r){l:iF}(ni:∀J,bM J (b.bp+1000) (l.A true)=some (l.A true))(v5:b.ext n_LRight=0/\b.pure n_LRight=true)(hL:K n_LRight [l.A true] (.b true))(body:bF)(hb:Yy.body=some body):
  ak (b.aM K) Yy.ntmps body (fv [l.A true,V]) ⟨.nil,0⟩ (uv Yy.results (wv e r)):=by
 cases hb;refine W.jD λz H=>?_;refine aj ?_;refine W.cA (c:=l.cells true) H I I I I I I λτ cP H bx=>?_;refine aj ?_;refine W.cC (c:=[ah 0,.i .u8 0,.i .u8 0,ah 0,ah 0]) H cP I I I λa9 c8 H bb=>?_;refine aj ?_;refine W.e3 hfn v5 hL I I I (k_ (ni _)) ?_;refine aj ?_;refine W.an trivial I I I (LL hfn ho hV) λv bu ⟨ar,cy⟩=>⟨_,ar,?_⟩
 subst cy;cases hV with
 |many n hl hn h6=>
  refine aj ?_;refine W.st (bD:=[ah 0,.i .u8 1,.i .u8 0,ah 0,ah 0]) H 0 I I I I I I λcm e_ H b1=>?_;refine aj ?_;refine ak.ret ?_;exact⟨rfl,_,jF (gI I (H.get _ (.head _)) I) (ku I),rfl⟩
 |shape n r hl h1 h2 h3 aO ao he c0=>
  refine aj ?_;refine W.e3 hfn he c0 I I I (k_ (ao _)) ?_;refine aj ?_;refine W.st (bD:=[ah r,.i .u8 2,.i .u8 0,ah 0,ah 0]) H 0 I I I I I I λcm e_ H b1=>?_;refine aj ?_;refine ak.ret ?_;exact⟨rfl,_,jF (gI I (H.get _ (.head _)) I) (ku I),rfl⟩
abbrev lg0:List AV:=[.s [],.i .u32 0,.i .u8 0,.i .u8 0,.af]
theorem c5A(V:AV)(v5:b.ext n_LRight=0/\b.pure n_LRight=true)(hL:K n_LRight [.ag lg0] (.b false))(body:bF)(hb:Yy.body=some body):
  ak (b.aM K) Yy.ntmps body (fv [.ag lg0,V]) ⟨.nil,0⟩ (uv Yy.results (.a0 [.ag [ah 0,.i .u8 0,.i .u8 0,ah 0,ah 0],ah 2])):=by
 cases hb;refine W.jD λz H=>?_;refine aj ?_;refine W.cA (c:=lg0) H I I I I I I λτ cP H bx=>?_;refine aj ?_;refine W.cC (c:=[ah 0,.i .u8 0,.i .u8 0,ah 0,ah 0]) H cP I I I λa9 c8 H bb=>?_;refine aj ?_;refine W.e3 hfn v5 hL I I I I ?_;refine aj ?_;refine W.st (bD:=[ah 0,.i .u8 0,.i .u8 0,ah 0,ah 0]) H 0 I I I I I I λcm e_ H b1=>?_;refine aj ?_;refine ak.ret ?_;exact⟨rfl,_,jF (gI I (H.get _ (.head _)) I) (ku I),rfl⟩
theorem c5B(ho:bk (b.aM K) ue YM)(hV:yc b K V e r)(body:bF)(hb:Yz.body=some body):ak (b.aM K) Yz.ntmps body (fv [V]) ⟨.nil,0⟩ (uv Yz.results (.a0 [.af,ah e])):=by
 cases hb;refine W.jD λz H=>?_;have he:e=5\/e=2:=by cases hV<;>omega
 refine aj ?_;refine W.an trivial I I I (LL hfn ho hV) λv bu ⟨ar,cy⟩=>⟨_,ar,?_⟩
 subst cy;refine aj ?_;exact ak.ret ⟨rfl,_,rfl,rfl⟩
theorem c5C(ho:bk (b.aM K) ue YM)(hV:yc b K V e r)(body:bF)(hb:YA.body=some body):ak (b.aM K) YA.ntmps body (fv [V]) ⟨.nil,0⟩ (uv YA.results (.a0 [.af,ah e])):=by
 cases hb;refine W.jD λz H=>?_;have he:e=5\/e=2:=by cases hV<;>omega
 refine aj ?_;refine W.an trivial I I I (LL hfn ho hV) λv bu ⟨ar,cy⟩=>⟨_,ar,?_⟩
 subst cy;refine aj ?_;exact ak.ret ⟨rfl,_,rfl,rfl⟩
theorem c5D(ho:bk (b.aM K) ue YM)(hV:yc b K V e r)(body:bF)(hb:YB.body=some body):ak (b.aM K) YB.ntmps body (fv [V]) ⟨.nil,0⟩ (uv YB.results (.a0 [.af,ah e])):=by
 cases hb;refine W.jD λz H=>?_;have he:e=5\/e=2:=by cases hV<;>omega
 refine aj ?_;refine W.an trivial I I I (LL hfn ho hV) λv bu ⟨ar,cy⟩=>⟨_,ar,?_⟩
 subst cy;refine aj ?_;exact ak.ret ⟨rfl,_,rfl,rfl⟩
end
structure LM(W:Nat->Prop)(τ:ae)(v:AV)(du:List AV)(L:List ba):Prop where
 al:Sl τ (some 9) v du
 len:du.length=L.length
 li:∀i (h:i<du.length) (h':i<L.length),kV W τ L[i] du[i]
 at_:∀o,v.at? =some o->¬W o
abbrev pG:List AV:=[ah 0,ah 0,.b false,.i .u8 0,.s [],.af,.af,.s [],.af]
def rQ:AV:=.a_ true (some 9) (List.replicate 501 (.ag pG))
def a4z(c:List AV):∀n,f_ n c=(List.replicate n (AV.ag c)).flatMap AV.cells
 |0=>rfl
 |n+1=>by
  show c++f_ n c=_;rw[DG,jY,a4z c n];rfl
def W.c5E{ck:l9}{env:Env}{aR:Option Nat}{D:List (Nat ⊕ (AV×List AV))}{n:Nat}{F:List (Nat×AV)}{z:Nat->AV}{J:ae}{Q:dZ}{d k m:Nat}{x y:aJ}{g:Option (Nat×Bool)}{ops:List a4}(hn:J.next=k)(hm:136*m<=281474976710656)(hd:Nat.blt d n=true)(hw:wtL g n F=true)(h1:dn env n F z x=some (ah m))(h2:dn env n F z y=some (ah m))
  (h:∀τ:ae,τ.next=k+1->Sl τ (some 9) (.al k 0 m (some 9) (some m)) (List.replicate m (.ag pG))->(∀i o,J.get i=some o->τ.get i=some o)->cg ck env aR D n ops (bB ((d,.al k 0 m (some 9) (some m))::F) z) τ Q):cg ck env aR D n (⟨some d,.mkSlice (some 9) 136 pG x y,g,[]⟩::ops) (bB F z) J Q:=by
 subst hn;have dr:∀i o,J.get i=some o->(J.push (.cells (f_ m pG))).get i=some o:=λi o ho=>by rw[ae.gD trivial _ (ae.bt ho)];exact ho
 refine W.val (v:=.al J.next 0 m (some 9) (some m)) (ai:=J.push (.cells (f_ m pG))) hd hw ?_ (h (J.push (.cells (f_ m pG))) I ?_ dr)
 ·show(match dn env n F z x,dn env n F z y with
   |some (.i _ (.ofNat n)),some (.i _ (.ofNat m))=>
    cond (Nat.beq pG.length (shN (some 9))&&(Nat.ble n m&&(Nat.ble (136*m) 281474976710656&&Nat.ble m 281474976710656)))
     (some (bZ.val (.al J.next 0 n (some 9) (some m)) (J.push (.cells (f_ m pG))))) none
   |some .af,some (.i _ (.ofNat m))=>
    cond (Nat.beq pG.length (Nat.succ (shN (some 9)))&&(Nat.blt 0 m&&Nat.ble ((3*m+2000)*136) 281474976710656))
     (some (bZ.val (.al J.next 0 m (some 9) none) (J.push (.cells (f_ m pG.tail))))) none
   |_,_=>none)=_
  rw[h1,h2];show cond (Nat.ble m m&&(Nat.ble (136*m) 281474976710656&&Nat.ble m 281474976710656)) (some (bZ.val (.al J.next 0 m (some 9) (some m)) (J.push (.cells (f_ m pG))))) none=_;rw[iR (bs m),iR hm,iR (show m<=281474976710656 by omega)];rfl
 ·have:=Sl.al (J:=J.push (.cells (f_ m pG))) (aa:=some 9) J.next (some m) (List.replicate m (.ag pG)) [] (by rw[ae.jL,a4z,iL]) (λy hy=>by rw[SI hy];rfl) (.inr (by rw[qk]));rwa[qk] at this
def CO:bF:=match qg.body with|some c=>c|none=>.skip
structure Ao(b:bT)(K:Nat->List AV->AV->Prop)(lc gY:List AV)(cn:AV):Prop where
 ck:kX b K
 made:bk (b.aM K) JK Yw
 c5F:b.ext vK=0/\b.pure vK=true
 log:K vK [] (.a0 [.ag lc,.ag gY])
 sU:lc.length=5/\gY.length=5
 g3:∀J,bM J (b.bp+1000) (.ag lc)=some cn
 a4A:b.ext xr=0/\b.pure xr=true
 LC:K xr [] (.b true)
 hs:b.ext qj=0/\b.pure qj=true
 rL:b.ext jT=0/\b.pure jT=true
 c5G:b.ext rm=0/\b.pure rm=true
 yL:b.ext uc=0/\b.pure uc=true
 many:K jT [cn,rQ] (wv 5 0)
 none_:K jT [cn,.af] (wv 5 0)
 pE:K uc [rQ] (.a0 [.af,ah 5])
structure CP(K:Nat->List AV->AV->Prop)(cn V:AV)(i cI e:Nat):Prop where
 uy:∃dR eB az,K jT [cn,V] (x7 (i+1) cI dR eB az 180)
 cut:∃v,K rm [V] (.a0 [v,ah e])
 cA:∃v,K qj [V] (.a0 [v,ah e])
 no:K jT [.ag lg0,V] (.a0 [.ag [ah 0,.i .u8 0,.i .u8 0,ah 0,ah 0],ah 2])
section
variable {τ:ae}{b:bT}{K:Nat->List AV->AV->Prop}{v V:AV}{i cI e:Nat}{lc gY:List AV}{cn:AV}
def c5H(hl:Ao b K lc gY cn)(h0:τ.get 0=some (.cells lc))(ao:∀aB,(∀i o,τ.get i=some o->aB.get i=some o)->bM aB (b.bp+1000) v=some V)(l3:K jT [.ag lg0,V] (.a0 [.ag [ah 0,.i .u8 0,.i .u8 0,ah 0,ah 0],ah 2])){z:Nat->AV}:
  bL (b.aM K) none [] qg.ntmps (hN [1,1,1,1,1,1,1,1,1,1,1,1] CO) (bB [(9,v),(7,aE 0)] z) τ (jU 6 (.b true)):=by
 have H:Has τ [(0,lc)]:=Has.nil.cons h0 aF;have LN:dV (some 5) (lc.drop 0)=some (.ag lc):=by show(if(lc.take 5).length=5 then some (AV.ag (lc.take 5)) else none)=_;rw[qv (KO hl.sU.1),if_pos hl.sU.1]
 refine W.sq ?_;refine eT ?_;generalize oH:τ.next=k;refine W.c5E (m:=501) oH bw I I I I λec cP hm bx=>?_;have H:=H.aP bx;have CQ:∀aB,(∀i o,ec.get i=some o->aB.get i=some o)->bM aB (b.bp+1000) (.al k 0 501 (some 9) (some 501))=some rQ:=λaB dF=>by
  have nB:=hm.aP (τ:=aB) λi o _ ho=>dF i o ho;have a4B:=zO (f:=bM aB (b.bp+999)) (g:=λx=>x) (l:=List.replicate 501 (.ag pG)) λy hy=>by rw[SI hy];rfl
  rw[xE] at a4B;rw[nB.zX (λe=>absurd (congrArg List.length e) (by rw[qk];decide)) a4B];unfold rQ;rw[show(501:Nat)=500+1 from rfl,DG];rfl
 refine eT ?_;refine W.aA H I I I (.head _) LN ?_;refine eT ?_;refine W.e3 hl.ck.fn hl.rL hl.many I I I (nF (hl.g3 _) (CQ _ λ_ _ h=>h)) ?_;refine eT ?_;refine W.jj (c:=[ah 0,.i .u8 1,.i .u8 0,ah 0,ah 0]) H cP I I I I I I λa9 c8 H bb=>?_;refine eT ?_;refine W.aA H I I I (.tail _ (.head _)) LN ?_;refine eT ?_;refine W.e3 hl.ck.fn hl.rL hl.none_ I I I (nF (hl.g3 _) I) ?_;refine eT ?_;refine W.jj (c:=[ah 0,.i .u8 1,.i .u8 0,ah 0,ah 0]) H c8 I I I I I I λbu er H k3=>?_;refine eT ?_;refine W.e3 hl.ck.fn hl.yL hl.pE I I I (k_ (CQ _ λi o ho=>k3 _ _ (bb _ _ ho))) ?_;refine eT ?_;refine W.e3 hl.ck.fn hl.rL l3 I I I (nF I (ao _ λi o ho=>k3 _ _ (bb _ _ (bx _ _ ho)))) ?_;refine eT ?_;refine W.jj (c:=[ah 0,.i .u8 0,.i .u8 0,ah 0,ah 0]) H er I I I I I I λcm e_ H b1=>?_;refine eT ?_;refine W.e3 hl.ck.fn hl.a4A hl.LC I I I I ?_;refine eT ?_;exact ak.ret ⟨rfl,rfl⟩
def c5I(hl:Ao b K lc gY cn)(h0:τ.get 0=some (.cells lc))(ao:∀aB,(∀i o,τ.get i=some o->aB.get i=some o)->bM aB (b.bp+1000) v=some V)(ay:CP K cn V i cI e)(hi:i<2^20)(wu:cI=2/\e=2\/(cI=3\/cI=4)/\e=0){z:Nat->AV}:
  bL (b.aM K) none [] qg.ntmps (hN [1,1,1,1,1,1,1,1] CO) (bB [(12,uB cI),(10,ah i),(9,v),(7,aE 0)] z) τ (jU 6 (.b true)):=by
 have H:Has τ [(0,lc)]:=Has.nil.cons h0 aF;obtain⟨⟨dR,eB,az,h5⟩,⟨cv,CN⟩,⟨bv,gO⟩,l3⟩:=ay;have LN:dV (some 5) (lc.drop 0)=some (.ag lc):=by show(if(lc.take 5).length=5 then some (AV.ag (lc.take 5)) else none)=_;rw[qv (KO hl.sU.1),if_pos hl.sU.1]
 refine W.sq ?_;refine eT ?_;refine W.aA H I I I (.head _) LN ?_;refine eT ?_;refine W.e3 hl.ck.fn hl.rL h5 I I I (nF (hl.g3 _) (ao _ λ_ _ h=>h)) ?_;refine eT ?_;generalize oH:τ.next=k;refine W.jj (c:=[ah (i+1),uB cI,uB dR,ah eB,ah az]) H oH I I I I I I λec cP H bx=>?_;refine eT ?_;refine W.e3 hl.ck.fn hl.c5G CN I I I (k_ (ao _ bx)) ?_;refine eT ?_;refine W.e3 hl.ck.fn hl.hs gO I I I (k_ (ao _ bx)) ?_;refine eT ?_;have d0C:e<2^20/\cI<256:=by omega
 have key:∀ {F:Nat->AV},sat [(9,v),(7,aE 0)] F->bL (b.aM K) none [] qg.ntmps (hN [1,1,1,1,1,1,1,1,1,1,1,1] CO) F ec (jU 6 (.b true)):=λ{F} b2=>ak.norm _ b2 λF=>c5H hl (bx _ _ h0) (λaB dF=>ao aB λi o ho=>dF _ _ (bx _ _ ho)) l3;rcases wu with⟨rfl,rfl⟩|⟨rfl|rfl,rfl⟩
 ·refine e5 ?_;refine W.nil (W.lM I (ak.skip (key dp)))
 ·refine e5 ?_;refine W.nil (W.lM I (ak.skip (key dp)))
 ·refine e5 ?_;refine W.nil (W.lM I (ak.skip (key dp)))
end
def a4C{y:AV}(h:conf (some 9) y=true):y.cells.length=9:=by
 cases y with
 |ag l=>exact gb h
 |_=>cases h
def a4D{c:List AV}(ab:c.length=9):∀ {xs rest:List AV} {j:Nat},(∀y∈xs,conf (some 9) y=true)->j<xs.length->(xs.flatMap AV.cells++rest).take (j*9)++(c++(xs.flatMap AV.cells++rest).drop (j*9+9))=(xs.set j (.ag c)).flatMap AV.cells++rest/\j*9+9<=(xs.flatMap AV.cells++rest).length
 |[],_,_,_,h=>by simp at h
 |x::xs,rest,0,h,_=>by
  have hx:=a4C (h x aF);rw[jY,iE,show 0*9+9=x.cells.length by omega,List.drop_left];refine⟨?_,by rw[dv];omega⟩;show[]++(c++(xs.flatMap AV.cells++rest))=(AV.ag c::xs).flatMap AV.cells++rest;rw[jY,iE];rfl
 |x::xs,rest,j+1,h,ax=>by
  have hx:=a4C (h x aF);obtain⟨a,b⟩:=a4D ab (xs:=xs) (rest:=rest) (j:=j) (λy hy=>h y (iQ _ hy)) (by simpa using ax);rw[jY,iE,show(j+1)*9=x.cells.length+j*9 by omega,show x.cells.length+j*9+9=x.cells.length+(j*9+9) by omega,a0s,List.drop_length_add_append];refine⟨?_,by rw[dv];omega⟩;rw[iE,a];show x.cells++_=(x::xs.set j (.ag c)).flatMap AV.cells++rest;rw[jY,iE]
def Sl.put{τ:ae}{v:AV}{xs:List AV}(h:Sl τ (some 9) v xs){j:Nat}(ax:j<xs.length){c:List AV}(ab:c.length=9):∃o k2 S1,v.at? =some o/\idxSlA (some 9) v j=some (.p (some (o,j*9)))/\τ.get o=some (.cells k2)/\storeCells k2 (j*9) c=some S1/\∀aB:ae,aB.get o=some (.cells S1)->Sl aB (some 9) v (xs.set j (.ag c)):=by
 cases h with
 |nil=>simp at ax
 |al o cap xs rest hg h7 ay=>
  obtain⟨aL,a5⟩:=a4D ab (rest:=rest) h7 ax;refine⟨o,_,(xs.set j (.ag c)).flatMap AV.cells++rest,rfl,by rw[m7 ax,q2];rfl,hg,?_,λaB h'=>?_⟩
  ·unfold storeCells;rw[if_pos (iR (by rw[ab];exact a5)),ab,← aL]
  ·have:=Sl.al (J:=aB) (aa:=some 9) o cap (xs.set j (.ag c)) rest h' (λy hy=>by
    rcases E7 hy with hy|rfl
    ·exact h7 y hy
    ·show Nat.beq c.length 9=true;rw[ab];rfl) (by rw[ib];exact ay)
   rwa[ib] at this
def yd{f:AV->Option AV}:∀ {l r:List AV} {j:Nat} {x y:AV},mapO f l=some r->f x=some y->mapO f (l.set j x)=some (r.set j y)
 |[],r,j,x,y,h,_=>by rw[Hr] at h;cases h;rfl
 |a::l,r,j,x,y,h,hx=>by
  rw[mapO_cons] at h;cases ha:f a with
  |none=>rw[ha] at h;cases h
  |some cH=>
   rw[ha] at h;cases hl:mapO f l with
   |none=>rw[hl] at h;cases h
   |some b5=>
    rw[hl] at h;cases h;cases j with
    |zero=>show mapO f (x::l)=_;rw[mapO_cons,hx,hl];rfl
    |succ j=>
     show mapO f (a::l.set j x)=_;rw[mapO_cons,ha,yd hl hx];rfl
section
variable {Y:Nat->Prop}{τ:ae}{b:bT}{K:Nat->List AV->AV->Prop}{v:AV}{du:List AV}{L:List ba}{i cI e m:Nat}{lc gY:List AV}{cn X:AV}{c:List AV}
abbrev iu(L:List ba)(i:Nat)(X:AV):AV:=.a_ true (some 9) ((L.map λx=>x.bA.A).set i X)
def c5J(hl:Ao b K lc gY cn)(hV:LM Y τ v du L)(a7:L≠[])(lp:∀x∈L,x.f.dep<=40)(h0:τ.get 0=some (.cells lc))(k9:v.at? ≠some 0)(mi:v.at? ≠some m)(hm:τ.get m=some (.cells c))(ab:c.length=9)(jV:∀aB:ae,(∀j o,v.at? ≠some j->τ.get j=some o->aB.get j=some o)->bM aB (b.bp+999) (.ag c)=some X)(hi:i<L.length)(hL:L.length<=35)(ay:CP K cn (iu L i X) i cI e)(wu:cI=2/\e=2\/(cI=3\/cI=4)/\e=0){z:Nat->AV}:
  bL (b.aM K) none [] qg.ntmps (hN [1,1,1,1,1,1,1] CO) (bB [(12,uB cI),(11,aE m),(10,ah i),(9,v),(7,aE 0)] z) τ (jU 6 (.b true)):=by
 have e0:=hV.len;obtain⟨o,k2,S1,ho,kT,hg,cR,ly⟩:=hV.al.put (j:=i) U ab;have xG:o≠m:=λe=>mi (e▸ho);have c5K:o≠0:=λe=>k9 (e▸ho);have H:Has τ [(m,c),(o,k2)]:=(Has.nil.cons hg aF).cons hm (by simp;exact xG);refine W.sq ?_;refine eT ?_;refine W.aA H I I I (.head _) (v:=.ag c) (by show(if(c.take 9).length=9 then some (AV.ag (c.take 9)) else none)=_;rw[qv (KO ab),if_pos ab]) ?_;refine eT ?_;refine W.eR I I I I kT ?_;refine eT ?_;refine W.st H 1 I I I I (by show Nat.beq c.length 9=true;rw[ab];rfl) (by exact cR) λa9 c8 H bb=>?_;refine W.nil ?_;have a4E:∀j cw,v.at? ≠some j->τ.get j=some cw->a9.get j=some cw:=λj cw ax=>bb _ _ (λe=>ax (e▸ho));have oh:=ly a9 (H.get _ (.tail _ (.head _)));refine ak.norm [(12,uB cI),(10,ah i),(9,v),(7,aE 0)] dp λF=>?_;refine c5I hl (bb _ _ (λe=>c5K e.symm) h0) (λaB dF=>?_) ay U wu;have c5L:=oh.aP (τ:=aB) λj cw _ h=>dF j cw h;have w3:mapO (bM aB (b.bp+999)) du=some (L.map λx=>x.bA.A):=zP (by rw[b7,e0]) λj h1 h2=>by
  rw[b7] at h2;rw[fX];exact((hV.li j h1 h2).aP (W':=λ_=>True) λa d0D ha r4=>⟨trivial,dF _ _ (a4E _ _ (λe=>hV.at_ a e ha) r4)⟩).snap (by have:=lp _ (b9 h2);omega)
 have zV:=yd (j:=i) w3 (jV aB λj cw ax h=>dF _ _ (a4E _ _ ax h));have Gh:du.set i (.ag c)≠[]:=λe=>by have:=congrArg List.length e;rw[ib,gN] at this;omega
 rw[c5L.zX (λe=>absurd e Gh) zV];unfold iu;cases a6:(L.map λx=>x.bA.A).set i X with
 |nil=>have:=congrArg List.length a6;rw[ib,b7,gN] at this;omega
 |cons a l=>rfl
end
def nW:List Nat:=[110,111,110,101]
def jW(x:ba)(i:Nat):Nat->ba
 |1=>{x with br:=41,op:=1}
 |2=>{x with br:=0,op:=1}
 |3=>{x with hyp:=true,c2:=px}
 |4=>{x with hyp:=false,c2:=[]}
 |5=>{x with hyp:=false,c2:=g4 false,cs:=[(i+1,i+1)]}
 |6=>{x with hyp:=false,c2:=g4 false,cs:=[(0,i)]}
 |_=>{x with hyp:=false,c2:=nW}
def gr(F:Fm):Fm:=.mk 10 [] none (some [F])
def e6(x:ba)(i w:Nat):AV:=
 if w=0 then .ag [.i .i64 (-1),ah x.op,.b x.hyp,uB x.f.aG.op,.s x.f.aG.name,gG true x.f.aG.fl,gp true x.f.aG.e4,.s x.c2,hI true x.cs]
 else if w=7 then({x.bA with f:=gr x.f.aG}:bg).A else(jW x i w).bA.A
def rR(w:Nat):Nat:=if w=7 then 3 else if w=8 then 4 else 2
def qF(w:Nat):Nat:=if w<7 then 2 else 0
section
variable {Y:Nat->Prop}{τ:ae}{b:bT}{K:Nat->List AV->AV->Prop}{v:AV}{du:List AV}{L:List ba}{i m:Nat}{lc gY:List AV}{cn:AV}
def wx(hl:Ao b K lc gY cn)(hV:LM Y τ v du L)(a7:L≠[])(lp:∀x∈L,x.f.dep<=39)(h0:τ.get 0=some (.cells lc))(k9:v.at? ≠some 0)(mi:v.at? ≠some m)(rS:¬Y m)(oy:m≠0)(hL:L.length<=35)(hi:i<L.length){a9:ae}{c:List AV}{X:AV}{cI e:Nat}(bb:∀j o,j≠m->τ.get j=some o->a9.get j=some o)(zV:a9.get m=some (.cells c))(ab:c.length=9)
  (jV:∀aB:ae,(∀j o,v.at? ≠some j->a9.get j=some o->aB.get j=some o)->bM aB (b.bp+999) (.ag c)=some X) (ay:CP K cn (iu L i X) i cI e) (wu:cI=2/\e=2\/(cI=3\/cI=4)/\e=0) {F:Nat->AV} (b2:sat [(12,uB cI),(11,aE m),(10,ah i),(9,v),(7,aE 0)] F):
  bL (b.aM K) none [] qg.ntmps (hN [1,1,1,1,1,1,1] CO) F a9 (jU 6 (.b true)):=
 ak.norm _ b2 λ_=>c5J hl ⟨hV.al.aP λj o ax ho=>bb j o (λe=>mi (e▸ax)) ho,hV.len,λa h1 h2=>(hV.li a h1 h2).aP λj c ax ab=>⟨ax,bb _ _ (λe=>rS (e▸ax)) ab⟩,hV.at_⟩ a7 (λx hx=>by have:=lp x hx;omega) (bb _ _ (λe=>oy e.symm) h0) k9 mi zV ab jV hi hL ay wu
def c5M(hl:Ao b K lc gY cn)(hV:LM Y τ v du L)(a7:L≠[])(lp:∀x∈L,x.f.dep<=39)(h0:τ.get 0=some (.cells lc))(k9:v.at? ≠some 0)(mi:v.at? ≠some m)(rS:¬Y m)(oy:m≠0){x:ba}(hx:L[i]? =some x){w cv:AV}(hm:τ.get m=some (.cells [ah x.br,ah x.op,.b x.hyp,uB x.f.op,.s x.f.bO,.af,w,.s x.c2,cv]))(hf:e1 Y τ x.f (.ag (fD x.f w)))(mf:h_ Y τ (some 2) cv (x.cs.map λc=>.ag [ah c.1,ah c.2]))(hL:L.length<=35){eM:Nat}(d0E:eM<256)
  (mY:∃h:i<du.length,du[i]= .ag [ah x.br,ah x.op,.b x.hyp,uB x.f.op,.s x.f.bO,.af,w,.s x.c2,cv]) (ay:(eM%9=8->x.hyp=false)->CP K cn (iu L i (e6 x i (eM%9))) i (rR (eM%9)) (qF (eM%9))) {z:Nat->AV}:
  bL (b.aM K) none [] qg.ntmps (hN [1,1,1,1,1,1] CO) (bB [(12,.i .u8 2),(11,aE m),(10,ah i),(9,v),(7,aE 0),(2,uB eM)] z) τ (jU 6 (.b true)):=by
 have hi:i<L.length:=(fw.1 hx).1;have d0F:=lp x (fL hx);have d0G:∀x∈L,x.f.dep<=40:=λx hx=>by have:=lp x hx;omega
 have H:Has τ [(m,[ah x.br,ah x.op,.b x.hyp,uB x.f.op,.s x.f.bO,.af,w,.s x.c2,cv])]:=Has.nil.cons hm aF;have pT:=x.f.pw;refine W.sq ?_;refine W.sq (W.rg ?_);refine e5 ?_;refine W.bin I I I I (vB (c:=9) bw) ?_;refine W.nil ?_;have RE:eM%9<9:=uE _ bw;generalize eM%9=wz at ay RE;have hw:wz=0\/wz=1\/wz=2\/wz=3\/wz=4\/wz=5\/wz=6\/wz=7\/wz=8:=by omega
 -- a line as d0H d0I d0J it
 have Ap:∀ {a9 aB:ae},(∀j o,j≠m->τ.get j=some o->a9.get j=some o)->(∀j o,v.at? ≠some j->a9.get j=some o->aB.get j=some o)->∀j c,Y j->τ.get j=some (.cells c)->True/\aB.get j=some (.cells c):=λh1 h2 j c ax ab=>⟨trivial,h2 _ _ (λe=>hV.at_ j e ax) (h1 _ _ (λe=>rS (e▸ax)) ab)⟩
 have g3:∀ {a9 aB:ae} (y:ba) (GD:AV),y.f=x.f->(∀j o,j≠m->τ.get j=some o->a9.get j=some o)->(∀j o,v.at? ≠some j->a9.get j=some o->aB.get j=some o)->h_ (λ_=>True) aB (some 2) GD (y.cs.map λc=>.ag [ah c.1,ah c.2])->bM aB (b.bp+999) (.ag [ah y.br,ah y.op,.b y.hyp,uB x.f.op,.s x.f.bO,.af,w,.s y.c2,GD])=some y.bA.A:=λ{a9 aB} y GD hy h1 h2 h3=>by
  have:kV (λ_=>True) aB y (.ag [ah y.br,ah y.op,.b y.hyp,uB y.f.op,.s y.f.bO,.af,w,.s y.c2,GD]):=.mk w GD (by rw[hy];exact hf.aP (Ap h1 h2) _ (bs _)) h3;rw[<-hy];exact this.snap (by rw[hy];omega)
 have Aq:∀ {a9 aB:ae},(∀j o,j≠m->τ.get j=some o->a9.get j=some o)->(∀j o,v.at? ≠some j->a9.get j=some o->aB.get j=some o)->h_ (λ_=>True) aB (some 2) cv (x.cs.map λc=>.ag [ah c.1,ah c.2]):=λh1 h2=>mf.aP (Ap h1 h2);have S2:m<τ.next->v.at? ≠some τ.next:=λ_ e=>by have:=hV.al.lt e;omega
 refine ak.block ?_;rcases hw with rfl|rfl|rfl|rfl|rfl|rfl|rfl|rfl|rfl
 ·refine eT ?_;refine W.st (bD:=[.i .i64 (-1),ah x.op,.b x.hyp,uB x.f.op,.s x.f.bO,.af,w,.s x.c2,cv]) H 0 I I I I I I λa9 c8 H bb=>?_;refine W.nil ?_;refine wx hl hV a7 lp h0 k9 mi rS oy hL hi (cI:=2) bb (H.get _ (.head _)) I (λaB dF=>?_) (ay λe=>by cases e) bw dp;have h1:=g3 x cv I bb dF (Aq bb dF);obtain⟨e2,aX,bc⟩:=zl h1;injection bc with bc
  subst bc;exact ox (yd (j:=0) (x:=.i .i64 (-1)) aX I)
 ·refine eT ?_;refine W.st (bD:=[ah 41,ah x.op,.b x.hyp,uB x.f.op,.s x.f.bO,.af,w,.s x.c2,cv]) H 0 I I I I I I λa9 c8 H bb=>?_;refine eT ?_;refine W.st (bD:=[ah 41,ah 1,.b x.hyp,uB x.f.op,.s x.f.bO,.af,w,.s x.c2,cv]) H 0 I I I I I I λbu er H k3=>?_;refine W.nil ?_;have iv:∀j o,j≠m->τ.get j=some o->bu.get j=some o:=λj o ax ho=>k3 _ _ ax (bb _ _ ax ho);exact wx hl hV a7 lp h0 k9 mi rS oy hL hi (cI:=2) iv (H.get _ (.head _)) I (λaB dF=>g3 (jW x i 1) cv I iv dF (Aq iv dF)) (ay λe=>by cases e) bw dp
 ·refine eT ?_;refine W.st (bD:=[ah x.br,ah 1,.b x.hyp,uB x.f.op,.s x.f.bO,.af,w,.s x.c2,cv]) H 0 I I I I I I λa9 c8 H bb=>?_;refine eT ?_;refine W.st (bD:=[ah 0,ah 1,.b x.hyp,uB x.f.op,.s x.f.bO,.af,w,.s x.c2,cv]) H 0 I I I I I I λbu er H k3=>?_;refine W.nil ?_;have iv:∀j o,j≠m->τ.get j=some o->bu.get j=some o:=λj o ax ho=>k3 _ _ ax (bb _ _ ax ho);exact wx hl hV a7 lp h0 k9 mi rS oy hL hi (cI:=2) iv (H.get _ (.head _)) I (λaB dF=>g3 (jW x i 2) cv I iv dF (Aq iv dF)) (ay λe=>by cases e) bw dp
 ·refine eT ?_;refine W.st (bD:=[ah x.br,ah x.op,.b true,uB x.f.op,.s x.f.bO,.af,w,.s x.c2,cv]) H 0 I I I I I I λa9 c8 H bb=>?_;refine eT ?_;refine W.st (bD:=[ah x.br,ah x.op,.b true,uB x.f.op,.s x.f.bO,.af,w,.s px,cv]) H 0 I I I I I I λbu er H k3=>?_;refine W.nil ?_;have iv:∀j o,j≠m->τ.get j=some o->bu.get j=some o:=λj o ax ho=>k3 _ _ ax (bb _ _ ax ho);exact wx hl hV a7 lp h0 k9 mi rS oy hL hi (cI:=2) iv (H.get _ (.head _)) I (λaB dF=>g3 (jW x i 3) cv I iv dF (Aq iv dF)) (ay λe=>by cases e) bw dp
 ·refine eT ?_;refine W.st (bD:=[ah x.br,ah x.op,.b false,uB x.f.op,.s x.f.bO,.af,w,.s x.c2,cv]) H 0 I I I I I I λa9 c8 H bb=>?_;refine eT ?_;refine W.st (bD:=[ah x.br,ah x.op,.b false,uB x.f.op,.s x.f.bO,.af,w,.s [],cv]) H 0 I I I I I I λbu er H k3=>?_;refine W.nil ?_;have iv:∀j o,j≠m->τ.get j=some o->bu.get j=some o:=λj o ax ho=>k3 _ _ ax (bb _ _ ax ho);exact wx hl hV a7 lp h0 k9 mi rS oy hL hi (cI:=2) iv (H.get _ (.head _)) I (λaB dF=>g3 (jW x i 4) cv I iv dF (Aq iv dF)) (ay λe=>by cases e) bw dp
 ·refine eT ?_;generalize oH:τ.next=k;have md:m<k:=by have:=ae.bt hm;omega
  refine W.bK (c:=[ah (i+1),ah (i+1)]) H oH I I I λec cP H bx=>?_;refine eT ?_;refine W.st (bD:=[ah x.br,ah x.op,.b false,uB x.f.op,.s x.f.bO,.af,w,.s x.c2,cv]) H 1 I I I I I I λa9 c8 H bb=>?_;refine eT ?_;refine W.st (bD:=[ah x.br,ah x.op,.b false,uB x.f.op,.s x.f.bO,.af,w,.s (g4 false),cv]) H 1 I I I I I I λbu er H k3=>?_;refine eT ?_;refine W.st (bD:=[ah x.br,ah x.op,.b false,uB x.f.op,.s x.f.bO,.af,w,.s (g4 false),.al k 0 1 (some 2) (some 1)]) H 1 I I I I I I λcm e_ H b1=>?_;refine W.nil ?_;have iv:∀j o,j≠m->τ.get j=some o->cm.get j=some o:=λj o ax ho=>b1 _ _ ax (k3 _ _ ax (bb _ _ ax (bx _ _ ho)));have xH:=H.get _ (.head _);exact wx hl hV a7 lp h0 k9 mi rS oy hL hi (cI:=2) iv (H.get _ (.tail _ (.head _))) I (λaB dF=>g3 (jW x i 5) (.al k 0 1 (some 2) (some 1)) I iv dF (.al k (some 1) [.ag [ah (i+1),ah (i+1)]] [] trivial (dF _ _ (oH▸S2 U) xH) (λy hy=>by rw[cB.1 hy];rfl) (.inr I) aF)) (ay λe=>by cases e) bw dp
 ·refine eT ?_;generalize oH:τ.next=k;have md:m<k:=by have:=ae.bt hm;omega
  refine W.bK (c:=[ah 0,ah i]) H oH I I I λec cP H bx=>?_;refine eT ?_;refine W.st (bD:=[ah x.br,ah x.op,.b false,uB x.f.op,.s x.f.bO,.af,w,.s x.c2,cv]) H 1 I I I I I I λa9 c8 H bb=>?_;refine eT ?_;refine W.st (bD:=[ah x.br,ah x.op,.b false,uB x.f.op,.s x.f.bO,.af,w,.s (g4 false),cv]) H 1 I I I I I I λbu er H k3=>?_;refine eT ?_;refine W.st (bD:=[ah x.br,ah x.op,.b false,uB x.f.op,.s x.f.bO,.af,w,.s (g4 false),.al k 0 1 (some 2) (some 1)]) H 1 I I I I I I λcm e_ H b1=>?_;refine W.nil ?_;have iv:∀j o,j≠m->τ.get j=some o->cm.get j=some o:=λj o ax ho=>b1 _ _ ax (k3 _ _ ax (bb _ _ ax (bx _ _ ho)));have xH:=H.get _ (.head _);exact wx hl hV a7 lp h0 k9 mi rS oy hL hi (cI:=2) iv (H.get _ (.tail _ (.head _))) I (λaB dF=>g3 (jW x i 6) (.al k 0 1 (some 2) (some 1)) I iv dF (.al k (some 1) [.ag [ah 0,ah i]] [] trivial (dF _ _ (oH▸S2 U) xH) (λy hy=>by rw[cB.1 hy];rfl) (.inr I) aF)) (ay λe=>by cases e) bw dp
 ·refine eT ?_;generalize oH:τ.next=k;have md:m<k:=by have:=ae.bt hm;omega
  refine W.bK (c:=fD x.f w) H oH I I I λec cP H bx=>?_;refine W.an trivial I I I (rH hl.ck.pB I I) λr a9 ⟨ar,c8,bb⟩=>⟨_,ar,?_⟩
  have H:=H.aP bb;refine eT ?_;refine W.st (bD:=[ah x.br,ah x.op,.b x.hyp,.i .u8 10,.s [],.af,.al k 0 1 (some 4) (some 1),.s x.c2,cv]) H 1 I I I I I I λbu er H k3=>?_;refine e5 ?_;refine W.nil ?_;have iv:∀j o,j≠m->τ.get j=some o->bu.get j=some o:=λj o ax ho=>k3 _ _ ax (bb _ _ (bx _ _ ho));have HH:=H.get _ (.head _);refine wx hl hV a7 lp h0 k9 mi rS oy hL hi (cI:=3) iv (H.get _ (.tail _ (.head _))) I (λaB dF=>?_) (ay λe=>by cases e) bw dp;have h1:=g3 x cv I iv dF (Aq iv dF);obtain⟨e2,aX,bc⟩:=zl h1;injection bc with bc
  subst bc;have hc:bM aB (b.bp+998) (.al k 0 1 (some 4) (some 1))=some (.a_ true (some 4) [x.f.aG.A true]):=by
   have aO:Sl aB (some 4) (.al k 0 1 (some 4) (some 1)) [.ag (fD x.f w)]:=.al k (some 1) [.ag (fD x.f w)] [] (dF _ _ (oH▸S2 U) HH) (λy hy=>by rw[cB.1 hy];rfl) (.inr I);exact aO.zX (λe=>by cases e) (by rw[mapO_cons,(hf.aP (Ap iv dF) _ (bs _)).snap _ (bs _) (show _<=b.bp+997 by omega)];rfl)
  exact ox (yd (j:=6) (yd (j:=5) (x:=.af) (yd (j:=4) (x:=.s []) (yd (j:=3) (x:=.i .u8 10) aX I) I) I) hc)
 ·obtain⟨tG,mY⟩:=mY;obtain⟨o,k2,pX,fS,kT,jx,mH,_⟩:=hV.al.fU (j:=i) tG;rw[mY] at mH;have xG:o≠m:=λe=>mi (e▸fS);refine eT ?_;refine W.st (bD:=[ah x.br,ah x.op,.b false,uB x.f.op,.s x.f.bO,.af,w,.s x.c2,cv]) H 0 I I I I I I λa9 c8 H bb=>?_;refine eT ?_;refine W.st (bD:=[ah x.br,ah x.op,.b false,uB x.f.op,.s x.f.bO,.af,w,.s nW,cv]) H 0 I I I I I I λbu er H k3=>?_;have iv:∀j o,j≠m->τ.get j=some o->bu.get j=some o:=λj o ax ho=>k3 _ _ ax (bb _ _ ax ho);refine eT ?_;refine W.eR I I I I kT ?_;refine eT ?_;refine W.ur (v:=.b x.hyp) (iv _ _ xG jx) I I I (by rw[<-oV,mH];rfl) ?_;refine W.nil ?_;cases c5N:x.hyp with
  |true=>
   refine W.lL I ?_;refine eT ?_;refine W.e3 hl.ck.fn hl.a4A hl.LC I I I I ?_;refine eT ?_;exact ak.ret ⟨rfl,rfl⟩
  |false=>
   refine W.lM I ?_;refine ak.skip ?_;exact wx hl hV a7 lp h0 k9 mi rS oy hL hi (cI:=4) iv (H.get _ (.head _)) I (λaB dF=>g3 (jW x i 8) cv I iv dF (Aq iv dF)) (ay λ_=>c5N) bw dp
end
end
section
variable [Tok][TokOk]
open Go.RowKit Go.Lyc.T
def bE.ext{env:Env}{floor k g:Nat}{args:List AV}{v:AV}{J:ae}{Q:en->ae->Prop}(he:env.ext g=k+1)(hx:extRow (k+1) args=some v)(h:Q (.ok v) J):bE env floor (.f (.func g) [] []) args J Q:=by
 refine dx.one (x:=(.ok v,J)) (λF=>?_) h;show callF env (exec env F) floor g ([]++args++[]) J=_;unfold callF;rw[he,yQ,iL];show(match extRow (k+1) args with|some v=>some [(en.ok v,J)]|none=>none)=_;rw[hx]
section
variable {b:bT}{K:Nat->List AV->AV->Prop}
def c5O(hh:bk (b.aM K) EP Z7)(ex:b.ext JD=2)(x y:List Nat)(J:ae):bE (b.aM K) 0 (.f (.func EP) [] []) [.s x,.s y] J (λr ai=>r= .ok (.i .i64 (vZ x y))/\ai=J):=by
 refine bE.code hh.e hh.p hh.f I I I I ?_;refine ak.seq (ak.region ?_);refine aK.go I I I I ?_;refine aK.nil (ak.seq (ak.region ?_));refine aK.go I I I I ?_;refine aK.go I I I I ?_;refine aK.jh (R:=λr ai=>r= .ok (.i .i64 (vZ x y))/\ai=J) I I I (bE.ext (k:=1) ex I ⟨rfl,rfl⟩) λr cT ⟨aL,a5⟩=>⟨_,aL,?_⟩
 refine aK.go I I I I ?_;exact aK.nil (ak.ret ⟨rfl,rfl,a5⟩)
def c5P(hh:bk (b.aM K) Jx Z1)(h2:bk (b.aM K) EP Z7)(ex:b.ext JD=2)(x y:List Nat)(J:ae):bE (b.aM K) 0 (.f (.func Jx) [] []) [.s x,.s y] J (λr ai=>r= .ok (.i .i64 (vZ x y))/\ai=J):=by
 refine bE.code hh.e hh.p hh.f I I I I ?_;refine ak.seq (ak.region ?_);refine aK.go I I I I ?_;refine aK.nil (ak.seq (ak.region ?_));refine aK.go I I I I ?_;refine aK.go I I I I ?_;refine aK.jh I I I (c5O h2 ex x y J) λr cT ⟨aL,a5⟩=>⟨_,aL,?_⟩
 refine aK.go I I I I ?_;exact aK.nil (ak.ret ⟨rfl,rfl,a5⟩)
def a4F(hh:bk (b.aM K) EO Z8)(x:Nat)(J:ae):bE (b.aM K) 0 (.f (.func EO) [] []) [ah x] J (λr ai=>r= .ok (.b false)/\ai=J):=by
 refine bE.code hh.e hh.p hh.f I I I I ?_;refine ak.seq (ak.region ?_);refine aK.go I I I I ?_;refine aK.nil (ak.seq (ak.region ?_));refine aK.go I I I I ?_;refine aK.go I I I I ?_;refine aK.bin (a:=ah x) (b:=ah x) (v:=.b false) I I I I (ow (by show some (AV.b (!decide (x=x)))=_;rw[decide_eq_true I];rfl)) ?_;refine aK.go I I I I ?_;exact aK.nil (ak.ret ⟨rfl,rfl,rfl⟩)
def c5Q(hh:bk (b.aM K) Jy Z2)(h2:bk (b.aM K) EO Z8)(x y:Nat)(J:ae):bE (b.aM K) 0 (.f (.func Jy) [] []) [ah x,ah y] J (λr ai=>r= .ok (.i .i64 (FC x y))/\ai=J):=by
 refine bE.code hh.e hh.p hh.f I I I I ?_;refine ak.seq (ak.region ?_);refine aK.go I I I I ?_;refine aK.nil (ak.seq (ak.region ?_));refine aK.go I I I I ?_;refine aK.jh I I I (a4F h2 x J) λr cT ⟨aL,a5⟩=>⟨_,aL,?_⟩
 subst a5;refine aK.go I I I I ?_;refine aK.nil (ak.seq (ak.region ?_));refine aK.go I I I I ?_;refine aK.jh I I I (a4F h2 y cT) λr hX ⟨aL,a5⟩=>⟨_,aL,?_⟩
 subst a5;refine aK.go I I I I ?_;refine aK.nil (ak.seq (ak.seq (ak.region ?_)));refine aK.go I I I I ?_;refine aK.nil (ak.jg I (λh=>by cases h) λ_=>ak.skip ?_);refine ak.seq (ak.seq (ak.region ?_));refine aK.go I I I I ?_;refine aK.nil (ak.jg I (λh=>by cases h) λ_=>ak.skip ?_);refine ak.seq (ak.seq (ak.region ?_));refine aK.go I I I I ?_;refine aK.go I I I I ?_;refine aK.bin (a:=ah x) (b:=ah y) (v:=.b (decide (x<y))) I I I I (ow I) ?_;refine aK.nil (ak.jg I (λh=>?_) λh=>ak.skip ?_)
 ·refine ak.seq (ak.region ?_);refine aK.go I I I I ?_;refine aK.nil (ak.ret ⟨rfl,?_,rfl⟩);unfold FC;rw[if_pos (of_decide_eq_true h)];rfl
 have h1:=of_decide_eq_false h;refine ak.seq (ak.seq (ak.region ?_));refine aK.go I I I I ?_;refine aK.go I I I I ?_;refine aK.bin (a:=ah x) (b:=ah y) (v:=.b (decide (y<x))) I I I I (ow I) ?_;refine aK.nil (ak.jg I (λh=>?_) λh=>ak.skip ?_)
 ·refine ak.seq (ak.region ?_);refine aK.go I I I I ?_;refine aK.nil (ak.ret ⟨rfl,?_,rfl⟩);unfold FC;rw[if_neg h1,if_pos (of_decide_eq_true h)];rfl
 have h2:=of_decide_eq_false h;refine ak.seq (ak.region ?_);refine aK.go I I I I ?_;refine aK.nil (ak.ret ⟨rfl,?_,rfl⟩);unfold FC;rw[if_neg h1,if_neg h2];rfl
def c5R(h1:bk (b.aM K) Jx Z1)(h2:bk (b.aM K) EP Z7)(ex:b.ext JD=2)(h3:bk (b.aM K) Jy Z2)(aO:bk (b.aM K) EO Z8)(x y:fE)(body:bF)(hb:Z0.body=some body):
  ak (b.aM K) 19 body (fv [dz x,dz y]) ⟨.nil,0⟩ (jU 4 (.i .i64 (qu x y))):=by
 cases hb;refine ak.seq (ak.region (aK.box (v:=dz x) (c:=[.s x.1,ah x.2]) 0 I I I I I I λb8 cP bU nh=>?_));refine aK.box (v:=dz y) (c:=[.s y.1,ah y.2]) 1 cP I I I I I λJ c8 bV qt=>?_;replace bU:=qt _ _ bU;refine aK.go I I I I ?_;refine aK.nil (ak.seq (ak.seq (ak.region ?_)));refine aK.go I I I I ?_;refine aK.aA (v:=.s x.1) bU I I I I ?_;refine aK.go I I I I ?_;refine aK.aA (v:=.s y.1) bV I I I I ?_;refine aK.jh I I I (c5P h1 h2 ex x.1 y.1 J) λr cT ⟨aL,a5⟩=>⟨_,aL,?_⟩
 subst a5;refine aK.go I I I I ?_;refine aK.nil (ak.seq (ak.region ?_));refine aK.go I I I I ?_;refine aK.bin (a:=.i .i64 (vZ x.1 y.1)) (b:=.i .i64 0) (v:=.b (!decide (vZ x.1 y.1=0))) I I I I I ?_;refine aK.nil (ak.jg I (λh=>?_) λh=>ak.skip ?_)
 ·have a7:¬vZ x.1 y.1=0:=λe=>by rw[decide_eq_true e] at h;cases h
  refine ak.seq (ak.region ?_);refine aK.go I I I I ?_;refine aK.go I I I I ?_;refine aK.nil (ak.ret ⟨rfl,?_⟩);unfold qu;rw[if_neg a7];rfl
 ·have he:vZ x.1 y.1=0:=NR λe=>by rw[decide_eq_false e] at h;cases h
  refine ak.seq (ak.region ?_);refine aK.go I I I I ?_;refine aK.aA (v:=ah x.2) bU I I I I ?_;refine aK.go I I I I ?_;refine aK.aA (v:=ah y.2) bV I I I I ?_;refine aK.jh I I I (c5Q h3 aO x.2 y.2 cT) λr hX ⟨aL,a5⟩=>⟨_,aL,?_⟩
  refine aK.go I I I I ?_;refine aK.nil (ak.ret ⟨rfl,?_⟩);unfold qu;rw[if_pos he];rfl
end
structure LO(b:bT):Prop where
 visit:HB b xm ZE
 walk:HB b BN Zo
 S3:HB b vJ ZD
 a4G:HB b JG Zy
 a4H:HB b JH ZA
 a4I:HB b JF Zm
 sorted:HB b EJ ZQ
 c5S:HB b EL ZZ
 c5T:HB b pj Z6
 c5U:HB b EK ZY
 Collect:HB b BP Z4
 c5V:HB b zw Z9
 c5W:HB b BR Z5
 c5X:HB b zz ZX
 c5Y:HB b xp Z3
 SD:HB b zx Z_
 c5Z:HB b xo a0a
 c6a:HB b Jt ZG
 Functions:HB b Pm ZH
 c6b:HB b Ju ZR
 c6c:HB b Jx Z1
 c6d:HB b EP Z7
 c6e:HB b Jy Z2
 c6f:HB b EO Z8
 LP:ll b kb Zg
 LQ:ll b rl Za
 a4J:ll b ik Z0
 a4K:ll b BU Zq
 LR:ll b sI Zd
 a4L:ll b na YZ
 named:b.ext lb=0/\b.pure lb=true
 a4M:b.ext n_LRight=0/\b.pure n_LRight=true
 c6g:b.ext JD=2
 rows:b.mm J8=some (.ag E_)
section
variable {P:Program}{b:bT}(hb:jR P b)(fa:LO b)(hn:∀a:PF,cV P b lb [uB (qn a.op),.s a.bO] (.b true))
include hb fa
theorem c6h(x y:fE):cV P b ik [dz x,dz y] (.i .i64 (qu x y)):=λbz=>
 lI hb (c3.ok (cn:=.af) (cb:=.af)) _ fa.a4J.1 I I I I (nG _ _).1 (nG _ _).2 (c5R fa.c6c.h fa.c6d.h fa.c6g fa.c6e.h fa.c6f.h x y _ I) bz
theorem c6i(a:PF):cV P b rl [a.aG.A true] (.i .u32 (Int.ofNat (rq a.aG))):=λbz=>
 XZ hb (c3.ok (cn:=.af) (cb:=.af)) _ fa.LQ.1 I I I I (nG _ _).1 (nG _ _).2 (a0v fa.visit.h fa.S3.h fa.walk.h _ a.jC _ I) bz
theorem Sv:SE b (c3 P b .af .af):=⟨SC.go c3.fn ⟨fa.sorted.h,fa.c5S.h,fa.c5U.h,fa.Collect.h,fa.c5V.h,fa.c5T.h,fa.c5W.h,fa.c5X.h,fa.c5Y.h,fa.SD.h,fa.c5Z.h,λx y=>c3.jJ (c6h hb fa x y) (c4f x y) λr h=>h.CI I x y I,fa.a4J.2⟩,fa.c6b.h,fa.visit.h,fa.S3.h,fa.walk.h,fa.c6a.h,fa.Functions.h⟩
theorem c6j(a:PF){k:Nat}(ay:¬k=2):cV P b BU [uB k,a.aG.A true] (.b true):=λbz=>by
 rw[nk];exact lI hb (c3.ok (cn:=.af) (cb:=.af)) _ fa.a4K.1 I I I I (hs _).1 (hs _).2 (c3O c3.fn (Sv hb fa) a k ay _ I) bz
include hn
theorem a4N(a:PF)(ha:a.low):cV P b kb [a.aG.A true] (.b true):=λbz=>by
 rw[nk];exact lI hb (c3.ok (cn:=.af) (cb:=.af)) _ fa.LP.1 I I I I (hs _).1 (hs _).2 (c3v ⟨c3.fn,fa.a4G.h,fa.a4H.h,fa.a4I.h,fa.named,λa=>c3.jJ (hn a) (s8 bw) λr h=>h.s7 bw,fa.rows⟩ a ha _ I) bz
theorem c6k(l:iF)(ho:l.ops=254)(ay:¬l.kind=2)(ni:∀J,bM J (b.bp+1000) (l.A true)=some (l.A true))(S4:cV P b n_LRight [l.A true] (.b true))(a:PF)(ha:a.low):cV P b na [l.A true,a.aG.A true] (.b true):=by
 have hd:a.aG.dep<=200:=by rw[PF.js];have:=ha.1;omega
 have ht:∀ {g:Nat} {aQ:List AV},g∈Lq->cV P b g aQ (.b true)->c3 P b .af .af g aQ (.b true):=λ{g aQ} hg h=>c3.jJ h (s8 hg) λr h=>h.s7 hg;have h1:cV P b sI [l.A true,a.aG.A true] (.b true):=λbz=>by
  have hR:=ht bw (a4N hb fa hn a ha);have hA:=ht bw (c6j hb fa a ay);have ch:c3 P b .af .af _ _ _:=c3.jJ (c6i hb fa a) (c4e a) λr h=>h.ops I a I;rw[nk] at hR hA ch ⊢;exact lI hb (c3.ok (cn:=.af) (cb:=.af)) _ fa.LR.1 I I I I (hs _).1 (hs _).2 (c3P c3.fn a hd l ho hR fa.LP.2 ch fa.LQ.2 hA fa.a4K.2 _ I) bz
 intro bz;have h1:=ht bw h1;rw[nk] at h1 ⊢;exact lI hb (c3.ok (cn:=.af) (cb:=.af)) _ fa.a4L.1 I I I I (hs _).1 (hs _).2 (c3R c3.fn a hd l ni (ht bw S4) fa.a4M h1 fa.LR.2 _ I) bz
end
def c6l{P:Program}{b:bT}(h1:cV P b lb [uB 1,.s [80]] (.b true))(h2:cV P b lb [uB 1,.s [81]] (.b true))(h3:cV P b lb [uB 0,.s []] (.b true))(a:PF):cV P b lb [uB (qn a.op),.s a.bO] (.b true):=by
 cases a with
 | fU q=>cases q;exact h1;exact h2
 |cO=>exact h3
 |neg a=>exact h3
 |bin k a c=>
  have:qn (4+k.val)=0:=by
   obtain⟨k,ay⟩:=k;have:k=0\/k=1\/k=2:=by omega
   rcases this with rfl|rfl|rfl<;>rfl
  show cV P b lb [uB (qn (4+k.val)),.s []] (.b true);rw[this];exact h3
end
section
variable [Tok][TokOk]
open Go.RowKit Go.Lyc.T
attribute [local irreducible] cg bL dC eu bE
abbrev hp(F:Fm):List AV:=[.i .u8 10,.s [],.af,.a_ true (some 4) [.ag (bN F)]]
def S5{F:Fm}:(gr F).A true= .ag (hp F):=by
 rw[jk];show AV.ag [.i .u8 10,.s [],.af,.a_ true (some 4) [F.A true]]=_;rw[jk]
def c6m{a:PF}:(gr a.aG).dep=a.aG.dep+1:=by
 rw[gr,Fm.qf];show max 0 (Fm.gH [a.aG])+1=_;rw[Fm.gH,Fm.gH];omega
section
variable {b:bT}{K:Nat->List AV->AV->Prop}
def c6n(h:Lm b K)(hn:K lb [uB 0,.s []] (.b true))(a:PF)(ha:a.low){j:Nat}{J:ae}(ax:J.get j=some (.cells (qC 400))):
  bE (b.aM K) 0 (.f (.func JF) [] []) [aE j,.ag (hp a.aG),ah 1] J (λr τ=>r= .ok (.b true)):=by
 have h1:=ha.1;have h2:=ha.2;refine W.code h.form.e h.form.p h.form.f I I I I λz=>?_;have H:Has J [(j,qC (399+1))]:=Has.nil.cons ax aF;have Sz:=ae.bt ax;refine aj ?_;generalize aV:J.next=q at Sz;refine W.cA (c:=hp a.aG) H aV I I I I I λec cP H bx=>?_;refine aj ?_;refine W.an trivial I I I (a3n h.node (L:=399) bw bw (bx _ _ ax)) λr a9 ⟨ar,gK,c8,bb⟩=>⟨_,ar,?_⟩
 have wi:=bb q _ U (H.get _ (.head _));have H:Has a9 [(q,hp a.aG)]:=Has.nil.cons wi aF;refine aj ?_;refine W.val (v:=ah 10) (ai:=a9) I I (a0w I bw) ?_;refine aj ?_;refine W.val (v:=.dh true (.ag [.b true,.b true,uB 0,ah 0,ah 1])) (ai:=a9) I I (XO (j:=10) (cs:=E_) (o:=true) (by show(match b.mm J8 with|some v=>some (AV.dh true v)|none=>none)=_;rw[h.rows]) I bw I) ?_;refine aj ?_;refine W.cC (c:=[.b false,.b false,uB 0,ah 0,ah 0]) H I I I I λbu er H k3=>?_;refine W.st (bD:=[.b true,.b true,uB 0,ah 0,ah 1]) H 0 I I I I I I λcm e_ H b1=>?_;have Bv:=b1 _ _ (by have:=ae.bt gK;omega) (k3 _ _ gK);refine aj ?_;refine W.e3 h.fn h.yL hn I I I I ?_;refine aj ?_;refine W.an trivial I I I (a3o h.a3p) λr dg ⟨ar,hk⟩=>⟨_,ar,?_⟩
 subst hk;refine aj ?_;refine ak.norm [(79,ah 0),(78,ah 1),(77,.a_ true (some 4) [.ag (bN a.aG)]),(0,aE j),(2,ah 1)] dp λF=>?_;refine ak.each 1 (λi F τ=>(i=0->τ.get j=some (.cells (qC 399)))/\sat [(77,.a_ true (some 4) [.ag (bN a.aG)]),(0,aE j),(2,ah 1)] F) bw ⟨λ_=>Bv,rfl,rfl,rfl,trivial⟩ I I (λi F τ hi aW s6 Gk=>?_) (λF τ aW s6=>?_)
 ·obtain⟨uO,Ln,c5,bV,_⟩:=aW;obtain rfl:i=0:=by omega
  have uO:=uO I;refine ak.norm [(79,ah 0),(78,ah 1),(77,.a_ true (some 4) [.ag (bN a.aG)]),(0,aE j),(2,ah 1)] ⟨s6,Gk,Ln,c5,bV,trivial⟩ λF=>?_;have H:Has τ []:=Has.nil;refine aj ?_;refine W.cC (c:=[.i .u8 0,.s [],.af,.af]) H I I I I λeA jf H et=>?_;refine W.st (bD:=bN a.aG) H 0 I I I I I I λeW k6 H gk=>?_;have SB:=gk _ _ (by have:=ae.bt uO;omega) (et _ _ uO);refine aj ?_;have hx:bN a.aG=fc a:=PF.FQ a;have hf:=Sy h _ a (bs _) 2 399 U U bw eW SB;rw[<-hx] at hf;refine W.an trivial I I I hf λr fI ⟨ar,z8,vq,pt⟩=>⟨_,ar,?_⟩
  refine aj ?_;exact⟨rfl,rfl,λe=>absurd e bw,rfl,rfl,rfl,trivial⟩
 ·refine ak.norm [] trivial λF=>?_;have H:Has τ []:=Has.nil;refine aj ?_;exact ak.ret ⟨rfl,rfl⟩
def c6o(h:Lm b K)(hn:K lb [uB 0,.s []] (.b true))(a:PF)(ha:a.low)(body:bF)(hb:Zg.body=some body):ak (b.aM K) Zg.ntmps body (fv [.ag (hp a.aG)]) ⟨.nil,0⟩ (jU 2 (.b true)):=by
 cases hb;refine W.jD λz H=>?_;refine aj ?_;refine W.cA (c:=hp a.aG) H I I I I I I λτ cP H bx=>?_;refine aj ?_;refine W.cC (c:=[.b false,ah 0,ah 0]) H cP I I I λa9 c8 H bb=>?_;refine aj ?_;refine W.st (bD:=qC 400) H 0 I I I I I I λbu er H k3=>?_;refine aj ?_;refine W.an trivial I I I (c6n h hn a ha (H.get _ (.head _))) λr cm ar=>⟨_,ar,?_⟩
 refine aj ?_;exact ak.ret ⟨rfl,rfl⟩
def S6(a:PF)(ha:a.low)(J:ae):bM J (b.bp+1000) (.ag (hp a.aG))=some (.ag (hp a.aG)):=by
 rw[<-S5];exact Fm.snap J true _ _ _ (bs _) (by rw[c6m,PF.js];have:=ha.1;omega)
def c6p(a:PF):(gr a.aG).jC:=.mk (by simp[gr,Fm.sub,Fm.e4]) (by simp[gr,Fm.args,Fm.fl]) (by simp[gr,Fm.args,Fm.fl]) (λx hx=>by rw[show x=a.aG by simpa [gr,Fm.sub,Fm.e4] using hx];exact a.jC)
variable (hf:∀g aQ r b5,K g aQ r->K g aQ b5->r=b5)
include hf in
theorem c6q(a:PF)(ha:a.low)(l:iF)(ho:l.ops=254)(hR:K kb [.ag (hp a.aG)] (.b true))(Ct:b.ext kb=0/\b.pure kb=true){o:Nat}(hlt:o<2^32)(xd:tU o 254≠0)(ch:K rl [.ag (hp a.aG)] (.i .u32 (Int.ofNat o)))(SF:b.ext rl=0/\b.pure rl=true)
  (body:bF) (hb:Zd.body=some body):ak (b.aM K) Zd.ntmps body (fv [l.A true,.ag (hp a.aG)]) ⟨.nil,0⟩ (jU 4 (.b false)):=by
 cases hb;refine W.jD λz H=>?_;refine aj ?_;refine W.cA (c:=l.cells true) H I I I I I I λτ cP H bx=>?_;refine aj ?_;refine W.cA (c:=hp a.aG) H cP I I I I I λa9 c8 H bb=>?_;refine aj ?_;refine W.e3 hf Ct hR I I I (k_ (S6 a ha _)) ?_;refine aj ?_;refine W.e3 hf SF ch I I I (k_ (S6 a ha _)) ?_;refine W.bin (v:=.i .u32 (Int.ofNat (tU o 254))) I I I I ((a1E hlt (by rw[ho];decide)).trans (by rw[ho])) ?_;refine W.bin (v:=.b false) I I I I ((ow I).trans (by rw[decide_eq_false xd])) ?_;refine W.go I I I I ?_;refine W.go I I I I ?_;refine W.off I I ?_;refine W.off I I ?_;refine W.off I I ?_;refine W.now (_::_) _ I I ⟨H.get _ (.tail _ (.head _)),trivial⟩ ?_;refine aj ?_;exact ak.ret ⟨rfl,rfl⟩
include hf in
theorem c6r(a:PF)(ha:a.low)(l:iF)(ni:∀J,bM J (b.bp+1000) (l.A true)=some (l.A true))(hL:K n_LRight [l.A true] (.b true))(v5:b.ext n_LRight=0/\b.pure n_LRight=true)(h1:K sI [l.A true,.ag (hp a.aG)] (.b false))(aL:b.ext sI=0/\b.pure sI=true)
  (body:bF) (hb:YZ.body=some body):ak (b.aM K) YZ.ntmps body (fv [l.A true,.ag (hp a.aG)]) ⟨.nil,0⟩ (jU 4 (.b false)):=by
 cases hb;refine W.jD λz H=>?_;refine aj ?_;refine W.cA (c:=l.cells true) H I I I I I I λτ cP H bx=>?_;refine aj ?_;refine W.cA (c:=hp a.aG) H cP I I I I I λa9 c8 H bb=>?_;refine aj ?_;refine W.e3 hf v5 hL I I I (k_ (ni _)) ?_;refine aj ?_;refine W.e3 hf aL h1 I I I (nF (ni _) (S6 a ha _)) ?_;refine aj ?_;exact ak.ret ⟨rfl,rfl⟩
end
section
variable {b:bT}{K:Nat->List AV->AV->Prop}{lc gY:List AV}{cn cK:AV}
def c6s(hl:Ao b K lc gY cn){code:List Nat}(au:∀τ,iO τ none cK (code.map uB))(lD:cK.cells=[cK]/\cK.val=true)(gj:code.length<2^62)(zU:∀x∈code,x<256){n m:Nat}(hn:n<256)(hm:m<256)
  (c0:∀L ad az,Rd L ad az->L.length<=35->∀i x,L[i]? =some x->∀w<9,(w=8->x.hyp=false)->CP K cn (iu L i (e6 x i w)) i (rR w) (qF w)) (body:bF) (iU:qg.body=some body):
  ak (b.aM K) qg.ntmps body (fv [cK,uB n,uB m]) ⟨.nil,0⟩ (jU 6 (.b true)):=by
 cases iU;refine W.jD λz H=>?_;refine aj ?_;refine W.e3 hl.ck.fn hl.c5F hl.log I I I I ?_;have mq:conf (some 5) (.ag lc)=true:=by show Nat.beq lc.length 5=true;rw[hl.sU.1];rfl
 have Fx:conf (some 5) (.ag gY)=true:=by show Nat.beq gY.length 5=true;rw[hl.sU.2];rfl
 refine aj ?_;refine W.cC (k:=0) H I I I I λec cP H bx=>?_;refine W.cC (k:=1) H cP I I I λa9 c8 H bb=>?_;refine W.st (bD:=lc) H 1 I I I I mq (by exact storeAll hl.sU.1) λbu er H k3=>?_;refine W.st (bD:=gY) H 0 I I I I Fx (by exact storeAll hl.sU.2) λcm e_ H b1=>?_;refine aj ?_;refine W.an trivial I I I (c3j hl.ck hl.made au lD gj zU) λr dg ⟨L,ad,az,v,du,bP,ar,hR,w6,a7,hL,ao,e0,hj,hB,mi,a4w,jl⟩=>⟨_,ar,?_⟩
 have R0:0<L.length:=pM.2 a7;have hV:LM (λi=>¬bP i) dg v du L:=⟨ao,e0,hj,λo ho cc=>cc (mi o ho)⟩
 have H:=H.aP jl.2;have h0:=H.get (0,lc) aF;refine aj ?_;refine W.val (v:=ah n) (ai:=dg) I I (by
  show some (bZ.val (.i .i64 (wrapN .i64 (Int.ofNat n))) dg)=_;rw[Eu U]) ?_
 refine aj ?_;refine W.len I I I ao.len ?_;rw[e0];refine W.bin I I I I (vB (c:=L.length) U) ?_;have hi:n%L.length<L.length:=uE _ R0;generalize n%L.length=i at hi;have tG:i<du.length:=by omega
 obtain⟨o,k2,pX,fS,kT,jx,mH,iq⟩:=ao.fU (j:=i) tG;have hx:L[i]? =some L[i]:=cM hi;have uJ:=hj i tG hi;obtain⟨w,cv,hC,hf,mf⟩:∃w cv,du[i]= .ag [ah L[i].br,ah L[i].op,.b L[i].hyp,.i .u8 (Int.ofNat L[i].f.op),.s L[i].f.bO,.af,w,.s L[i].c2,cv]/\e1 (λi=>¬bP i) dg L[i].f (.ag (fD L[i].f w))/\h_ (λi=>¬bP i) dg (some 2) cv (L[i].cs.map λc=>.ag [ah c.1,ah c.2]):=by
  generalize du[i]=DE at uJ;cases uJ with
  |mk w cv h1 h2=>exact⟨w,cv,rfl,h1,h2⟩
 refine aj ?_;refine W.eR I I I I kT ?_;refine aj ?_;refine W.ur jx I I I (by exact iq) ?_;rw[hC];refine aj ?_;generalize Be:dg.next=q;have d0K:o<q:=by have:=ae.bt jx;omega
 have d0L:0<q:=by have:=ae.bt h0;omega
 refine W.cC (k:=q) H Be I I I λeA jf H et=>?_;refine W.st (bD:=[ah L[i].br,ah L[i].op,.b L[i].hyp,.i .u8 (Int.ofNat L[i].f.op),.s L[i].f.bO,.af,w,.s L[i].c2,cv]) H 0 I I I I I I λeW k6 H gk=>?_;refine W.nil ?_;refine W.sq (W.rg ?_);refine W.val (v:=.i .u8 2) (ai:=eW) I I I ?_;refine W.nil ?_;have Ad:∀j cw,dg.get j=some cw->eW.get j=some cw:=λj cw ax=>gk _ _ (by have:=ae.bt ax;omega) (et _ _ ax);have Ap:∀j c,¬bP j->dg.get j=some (.cells c)->(¬bP j/\j<q)/\eW.get j=some (.cells c):=λj c ax ab=>⟨⟨ax,by have:=ae.bt ab;omega⟩,Ad _ _ ab⟩
 refine ak.norm [(12,.i .u8 2),(11,aE q),(10,ah i),(9,v),(7,aE 0),(2,uB m)] dp λF=>?_;refine c5M (Y:=λj=>¬bP j/\j<q) (x:=L[i]) hl ⟨ao.aP λj cw _ ho=>Ad _ _ ho,e0,λa h1 h2=>(hj a h1 h2).aP Ap,λo ho cc=>cc.1 (mi o ho)⟩ a7 (λx hx=>by have:=(hR.low U hx).1;omega) (Ad _ _ h0) (λe=>by have:=a4w _ (mi _ e);omega) (λe=>by rw[fS] at e;injection e;omega) (λh=>absurd h.2 U) U hx (H.get _ (.head _)) (hf.aP Ap _ (bs _)) (mf.aP Ap) hL hm ⟨tG,hC⟩ (c0 L ad az hR hL i _ hx _ (uE _ bw))
end
end
section
variable [Tok][TokOk]
open Go.RowKit Go.Lyc.T
section
variable {L kW:List ba}{ad bd:List (List Nat)}{az fW:List Nat}{i gE w av:Nat}{x de y:ba}
def oM.hF{C:Nat->Prop}{f:PF}{gy l:List Nat}(h:oM L C f gy l):gy≠nW:=by
 cases h with
 |g4 q=>cases q<;>decide
 |_=>decide
def Rd.hF(h:Rd L ad az):∀x∈L,x.c2≠nW:=by
 induction h with
 |nil=>intro x hx;simp at hx
 |step hR h aH=>
  intro y hy;rcases fi.1 hy with hy|hy
  ·exact aH y hy
  ·rw[cB.1 hy];cases h with
   |wc=>exact(by decide:([]:List Nat)≠nW)
   |CA=>exact(by decide:([]:List Nat)≠nW)
   |ps _ _ _ _ ab=>exact ab.hF
   |shut=>
    unfold nS;split
    ·exact(by decide:wa≠nW)
    ·exact(by decide:px≠nW)
structure S7(x:ba)(k:Nat):Prop where
 br:x.br<=4
 op:x.op<=x.br
 hyp:x.hyp=true->x.c2=[]
 c6t:x.hyp=false->x.c2≠[]
 hF:x.c2≠nW
 cs:∀ac∈x.cs,1<=ac.1/\ac.1<=ac.2/\ac.2<k
 an:x.cs.length<=2
def Rd.GF(h:Rd L ad az)(hx:L[i]? =some x):S7 x (i+1):=by
 obtain⟨aX,bc,cq,_,eJ,kt⟩:=h.shape (k:=i+1) U hx;unfold nN at aX;rw[jd,show i+1-1=i from rfl,hx] at aX;have aX:rz x.bA (qq (L.map ba.bA) (i+1)) (i+1)=true:=aX;unfold rz at aX;rw[dA,dA] at aX;have aX:cond x.hyp (x.c2.isEmpty&&_) (_&& !x.c2.isEmpty)=true:=aX.2.2;refine⟨bc,cq,λhh=>?_,λhh=>?_,h.hF x (fL hx),kt,eJ⟩
 ·rw[hh,cond_true,dA] at aX;exact List.isEmpty_iff.1 aX.1
 ·rw[hh,cond_false,dA] at aX;intro e;rw[e] at aX;exact absurd aX.2 bw
def GG(hw:w<9):w=0\/w=1\/w=2\/w=3\/w=4\/w=5\/w=6\/w=7\/w=8:=by omega
def qG{x y:ba}(h:x.bA.A=y.bA.A):x.br=y.br/\x.op=y.op/\x.hyp=y.hyp/\x.f.aG=y.f.aG/\x.c2=y.c2/\x.cs=y.cs:=by
 have h:=bg.kP h;injection h with h1 h2 h3 aO bI cx
 exact⟨h1,h2,h3,aO,bI,cx⟩
def S8{l:List AV}{y:bg}(h:AV.ag (.i .i64 (-1)::l)=y.A):False:=by
 injection h with h
 injection h with h _
 have h:(-1:Int)=((y.br:Nat):Int):=x6 h;omega
def a4O{x y:ba}(h:({x.bA with f:=gr x.f.aG}:bg).A=y.bA.A):False:=by
 have h:=bg.kP h;injection h with _ _ _ aO
 have aO:gr x.f.aG=y.f.aG:=aO;have:(gr x.f.aG).op=y.f.aG.op:=by rw[aO]
 rw[PF.KP] at this;have xd:(10:Nat)=y.f.op:=this;have hl:y.f.op<=6:=by
  cases y.f with
  |bin k a c=>show 4+k.val<=6;omega
  |_=>exact gC I
 omega
def c6u(hy:S7 y (i+1))(hw:w<9)(h:e6 x i w=y.bA.A):False:=by
 obtain⟨h1,h2,h3,aO,bI,cx,dI⟩:=hy;rcases GG hw with rfl|rfl|rfl|rfl|rfl|rfl|rfl|rfl|rfl
 ·exact S8 h
 ·obtain⟨aL,_⟩:=qG (x:=jW x i 1) h;have aL:41=y.br:=aL;omega
 ·obtain⟨aL,a5,_⟩:=qG (x:=jW x i 2) h;have aL:0=y.br:=aL;have a5:1=y.op:=a5;omega
 ·obtain⟨_,_,cy,_,hk,_⟩:=qG (x:=jW x i 3) h;have cy:true=y.hyp:=cy;have hk:px=y.c2:=hk;have:=h3 cy.symm;rw[this] at hk;exact absurd hk bw
 ·obtain⟨_,_,cy,_,hk,_⟩:=qG (x:=jW x i 4) h;have cy:false=y.hyp:=cy;have hk:[]=y.c2:=hk;exact aO cy.symm hk.symm
 ·obtain⟨_,_,_,_,_,mC⟩:=qG (x:=jW x i 5) h;have mC:[(i+1,i+1)]=y.cs:=mC;have:=cx (i+1,i+1) (by rw[<-mC];simp);simp only[] at this;omega
 ·obtain⟨_,_,_,_,_,mC⟩:=qG (x:=jW x i 6) h;have mC:[(0,i)]=y.cs:=mC;have:=cx (0,i) (by rw[<-mC];simp);simp only[] at this;omega
 ·exact a4O h
 ·obtain⟨_,_,_,_,hk,_⟩:=qG (x:=jW x i 8) h;exact bI hk.symm
def a4P(hw:w<9)(dI:w≠7)(h:e6 x i w=e6 de gE 7):False:=by
 have key:∀j,j≠0->j≠7->e6 x i j=e6 de gE 7->False:=λj c6v c6w h=>by
  refine a4O (x:=de) (y:=jW x i j) ?_;have e:e6 x i j=(jW x i j).bA.A:=by unfold e6;rw[if_neg c6v,if_neg c6w]
  have:e6 de gE 7=({de.bA with f:=gr de.f.aG}:bg).A:=rfl;rw[<-this,← e,h]
 by_cases h0:w=0
 ·subst h0;exact S8 (y:=({de.bA with f:=gr de.f.aG}:bg)) h
 ·exact key w h0 dI h
def a4Q(eo:S7 de (gE+1))(hw:w<7)(h:e6 x i w=e6 de gE 8):False:=by
 have fu:e6 de gE 8=(jW de gE 8).bA.A:=rfl;rw[fu] at h;obtain⟨h1,h2,h3,aO,bI,cx,dI⟩:=eo;rcases GG (show w<9 by omega) with rfl|rfl|rfl|rfl|rfl|rfl|rfl|rfl|rfl
 ·exact S8 h
 ·obtain⟨aL,_⟩:=qG (x:=jW x i 1) h;have aL:41=de.br:=aL;omega
 ·obtain⟨aL,a5,_⟩:=qG (x:=jW x i 2) h;have aL:0=de.br:=aL;have a5:1=de.op:=a5;omega
 ·obtain⟨_,_,_,_,hk,_⟩:=qG (x:=jW x i 3) h;exact absurd (show px=nW from hk) bw
 ·obtain⟨_,_,_,_,hk,_⟩:=qG (x:=jW x i 4) h;exact absurd (show[]=nW from hk) bw
 ·obtain⟨_,_,_,_,hk,_⟩:=qG (x:=jW x i 5) h;exact absurd (show g4 false=nW from hk) bw
 ·obtain⟨_,_,_,_,hk,_⟩:=qG (x:=jW x i 6) h;exact absurd (show g4 false=nW from hk) bw
 ·omega
 ·omega
def a4R(h:Rd L ad az)(h':Rd kW bd fW)(hx:L[i]? =some x)(eo:kW[gE]? =some de)(hw:w<9)(kQ:av<9)(e:iu L i (e6 x i w)=iu kW gE (e6 de gE av)):i=gE/\rR w=rR av/\qF w=qF av:=by
 injection e with _ _ e
 have hl:L.length=kW.length:=by
  have:=congrArg List.length e;rwa[ib,ib,b7,b7] at this
 obtain⟨hi,_⟩:=fw.1 hx;obtain⟨dq,_⟩:=fw.1 eo;have at_:∀ {L:List ba} {i j:Nat} {X:AV} (ax:j<L.length),((L.map λx=>x.bA.A).set i X)[j]? =some (if i=j then X else(L[j]).bA.A):=λ{L i j X} ax=>by
  rw[Gs,jd,cM ax,b7];split
  ·rw[if_pos U]
  ·rfl
 have aL:=congrArg (λl=>l[i]?) e;have aL:((L.map λx=>x.bA.A).set i (e6 x i w))[i]? =((kW.map λx=>x.bA.A).set gE (e6 de gE av))[i]? :=aL;rw[at_ hi,at_ (show i<kW.length by omega),if_pos I] at aL;have aL:=kD aL;by_cases s6:i=gE
 ·subst s6;rw[if_pos I] at aL;have uJ:=h.GF hx;have c6x:=h'.GF eo;refine⟨rfl,?_⟩;by_cases dI:w=7
  ·subst dI;by_cases xU:av=7
   ·subst xU;exact⟨rfl,rfl⟩
   ·exact(a4P kQ xU aL.symm).elim
  ·by_cases xU:av=7
   ·subst xU;exact(a4P hw dI aL).elim
   ·by_cases fu:w=8
    ·subst fu;by_cases GH:av=8
     ·subst GH;exact⟨rfl,rfl⟩
     ·exact(a4Q uJ U aL.symm).elim
    ·by_cases GH:av=8
     ·subst GH;exact(a4Q c6x U aL).elim
     ·have bb:∀w,w≠7->w≠8->w<9->rR w=2/\qF w=2:=λw a c d=>⟨by unfold rR;rw[if_neg a,if_neg c],by unfold qF;rw[if_pos U]⟩
      rw[(bb w dI fu hw).1,(bb w dI fu hw).2,(bb av xU GH kQ).1,(bb av xU GH kQ).2];exact⟨rfl,rfl⟩
 ·rw[if_neg (λe=>s6 e.symm)] at aL;exact(c6u (h'.GF (cM U)) hw aL).elim
end
structure nr(T kB:List bg):Prop where
 len:kB.length=T.length
 at_:∀(j:Nat) (y z:bg),T[j]? =some y->kB[j]? =some z->z.br=y.br/\z.op=y.op/\z.hyp=y.hyp/\z.cs=y.cs/\z.c2.isEmpty=y.c2.isEmpty/\z.f.dep<=40
section
variable {T kB:List bg}
def nr.get(h:nr T kB){j:Nat}{z:bg}(a6:kB[j]? =some z):∃y,T[j]? =some y/\z.br=y.br/\z.op=y.op/\z.hyp=y.hyp/\z.cs=y.cs/\z.c2.isEmpty=y.c2.isEmpty/\z.f.dep<=40:=by
 obtain⟨ax,_⟩:=fw.1 a6;have hy:T[j]? =some (T[j]'(by rw[<-h.len];exact ax)):=cM _;exact⟨_,hy,h.at_ _ _ _ hy a6⟩
def nr.st(h:nr T kB):∀i,stF kB i=stF T i
 |0=>rfl
 |i+1=>by
  unfold stF;rw[h.st i];by_cases hi:i<T.length
  ·rw[cM hi,cM (show i<kB.length by rw[h.len];exact hi)];obtain⟨h1,h2,_⟩:=h.at_ _ _ _ (cM hi) (cM (show i<kB.length by rw[h.len];exact hi));unfold zK;simp only[h1,h2]
  ·have:=h.len;rw[q1 (show kB.length<=i by omega),q1 (show T.length<=i by omega)]
def nr.box(h:nr T kB):cS kB=cS T:=by
 unfold cS;rw[h.len];exact ti λi _=>h.st (i+1)
def nr.c6y(h:nr T kB)(k:Nat):qq kB k=qq T k:=by
 unfold qq;split
 ·cases a6:kB[k-2]? with
  |none=>
   have:T[k-2]? =none:=by
    rw[a3F] at a6 ⊢;rw[<-h.len];exact a6
   rw[this]
  |some z=>
   obtain⟨y,hy,h1,_,h3,_⟩:=h.get a6;rw[hy];simp only[h1,h3]
 ·rfl
def nr.nN(h:nr T kB)(k:Nat):nN kB k=nN T k:=by
 unfold Lyc.nN;rw[h.c6y];cases a6:kB[k-1]? with
 |none=>
  have:T[k-1]? =none:=by
   rw[a3F] at a6 ⊢;rw[<-h.len];exact a6
  rw[this]
 |some z=>
  obtain⟨y,hy,h1,h2,h3,aO,bI,_⟩:=h.get a6;rw[hy];unfold rz;simp only[h1,h2,h3,aO,bI]
def nr.Ai(h:nr T kB)(g:nV T):nV kB where
 kU:=⟨by rw[h.len];exact g.kU.lt,λz a6=>by
  obtain⟨j,ax⟩:=Gt.1 a6;obtain⟨y,hy,h1,h2,_⟩:=h.get ax;rw[h1,h2];exact g.kU.num y (fL hy),λi hi=>by
  obtain⟨y,hy,h1,h2,_⟩:=h.get (cM hi);obtain⟨ax,rfl⟩:=fw.1 hy;rw[h1,h2,h.st];exact g.kU.go i ax⟩
 kv:=⟨by rw[h.box,h.len];exact g.kv.len,by rw[h.len];exact g.kv.lt,λz a6=>by
  obtain⟨j,ax⟩:=Gt.1 a6;obtain⟨y,hy,h1,_⟩:=h.get ax;rw[h1];exact g.kv.br y (fL hy),by rw[h.box];exact g.kv.blt⟩
 wk k z h1 a6:=by
  obtain⟨y,hy,_,_,_,aO,_⟩:=h.get a6;rw[aO];exact g.wk k y h1 hy
 aa k h1 h2:=by
  rw[h.nN];exact g.aa k h1 (by rw[<-h.len];exact h2)
 dep z a6:=by
  obtain⟨j,ax⟩:=Gt.1 a6;obtain⟨y,hy,_,_,_,_,_,cx⟩:=h.get ax;exact cx
 le:=by rw[h.len];exact g.le
 ne:=λe=>g.ne (Gr.1 (by rw[<-h.len,e];rfl))
end
section
variable {L:List ba}{ad:List (List Nat)}{az:List Nat}{i w:Nat}{x:ba}
def hP(x:ba)(i w:Nat):bg:=if w=7 then {x.bA with f:=gr x.f.aG} else(jW x i w).bA
abbrev kC(L:List ba)(i:Nat)(y:bg):List bg:=(L.map ba.bA).set i y
def c6z(h0:w≠0):iu L i (e6 x i w)=cG (kC L i (hP x i w)):=by
 have e:e6 x i w=(hP x i w).A:=by
  unfold e6 hP;rw[if_neg h0];split<;>rfl
 show AV.a_ true (some 9) _=AV.a_ true (some 9) ((kC L i (hP x i w)).map bg.A);rw[e,kC,Ry,mj];rfl
def c6A{a:PF}:(gr a.aG).dep=a.aG.dep+1:=by
 rw[gr,Fm.qf];show max 0 (Fm.gH [a.aG])+1=_;rw[Fm.gH,Fm.gH];omega
def S9{y:bg}{j:Nat}(hi:i<L.length):(kC L i y)[j]? =if i=j then some y else(L.map ba.bA)[j]? :=by
 rw[kC,Gs,b7];by_cases h:i=j
 ·rw[if_pos h,if_pos h,if_pos U]
 ·rw[if_neg h,if_neg h]
def a4S(g:nV (L.map ba.bA))(hx:L[i]? =some x){y:bg}(hy:y.br=x.br/\y.op=x.op/\y.hyp=x.hyp/\y.cs=x.cs/\y.c2.isEmpty=x.c2.isEmpty/\y.f.dep<=40):nr (L.map ba.bA) (kC L i y) where
 len:=ib
 at_ j a z ha a6:=by
  have hi:=(fw.1 hx).1;rw[S9 hi] at a6;by_cases h:i=j
  ·subst h;rw[if_pos I] at a6;cases a6;rw[jd,hx] at ha;cases ha;exact hy
  ·rw[if_neg h,ha] at a6;cases a6;exact⟨rfl,rfl,rfl,rfl,rfl,g.dep _ (fL ha)⟩
def c6B{y:bg}(hi:i<L.length):kC L i y=(L.take i).map ba.bA++(y::(L.drop (i+1)).map ba.bA):=by
 rw[kC,E6,if_pos (by rw[b7];exact hi),C3,G_]
def a4T{y:bg}{p:Bool×Nat}{k:Nat}(h:¬(y.br<=40/\y.op<=y.br)):rz y p k=false:=by
 unfold rz;rw[decide_eq_false h];rfl
def c6C{p:Bool×Nat}(h0:w≠0)(hw:w<7):rz (hP x i w) p (i+1)=false:=by
 rcases GG (show w<9 by omega) with rfl|rfl|rfl|rfl|rfl|rfl|rfl|rfl|rfl
 ·omega
 ·exact a4T (show ¬(41<=40/\1<=41) by omega)
 ·exact a4T (show ¬(0<=40/\1<=0) by omega)
 ·show(_&&(_&&false))=false;rw[uk,uk]
 ·show(_&&(_&&(_&&false)))=false;rw[uk,uk,uk]
 ·show(_&&(_&&((decide (1<=i+1/\i+1<=i+1/\i+1<i+1)&&true)&&true)))=false;rw[decide_eq_false (show ¬(1<=i+1/\i+1<=i+1/\i+1<i+1) by omega),uj,uj,uk,uk]
 ·show(_&&(_&&((decide (1<=0/\0<=i/\i<i+1)&&true)&&true)))=false;rw[decide_eq_false (show ¬(1<=0/\0<=i/\i<i+1) by omega),uj,uj,uk,uk]
 ·omega
 ·omega
def a4U(h:Rd L ad az)(hL:L.length<=35)(hx:L[i]? =some x):(hP x i 7).f.dep<=40:=by
 show(gr x.f.aG).dep<=40;rw[c6A,PF.js];have:=(h.low U (fL hx)).1;omega
def a4V(h:Rd L ad az)(hL:L.length<=35)(hx:L[i]? =some x):nr (L.map ba.bA) (kC L i (hP x i 7)):=
 a4S (h.Ai U (λe=>by rw[e] at hx;cases hx)) hx ⟨rfl,rfl,rfl,rfl,rfl,a4U h hL hx⟩
def a4W(h:Rd L ad az)(hL:L.length<=35)(hx:L[i]? =some x)(fu:x.hyp=false):nr (L.map ba.bA) (kC L i (hP x i 8)):=
 a4S (h.Ai U (λe=>by rw[e] at hx;cases hx)) hx ⟨rfl,rfl,fu.symm,rfl,by
  have:=(h.GF hx).c6t fu;show nW.isEmpty=x.c2.isEmpty;cases aq:x.c2 with
  |nil=>exact absurd aq this
  |cons _ _=>rfl,by
  show x.f.aG.dep<=40;rw[PF.js];have:=(h.low U (fL hx)).1;omega⟩
end
end
section
variable [Tok][TokOk]
open Go.RowKit Go.Lyc.T
attribute [local irreducible] cg bL dC eu bE
def a4X{xs:List AV}{j:Nat}{y:AV}(h:xs[j]? =some y):idxSlA (some 9) (.a_ true (some 9) xs) j=some (.dh true y):=by
 obtain⟨ax,e⟩:=fw.1 h;have:=zj (o:=true) (aa:=some 9) (f:=λx:AV=>x) ax;rw[xE] at this;rw[<-e];cases xs with
 |nil=>simp at ax
 |cons x l=>exact this
section
variable {b:bT}{K:Nat->List AV->AV->Prop}
def c6D{V:AV}{aX bc cq ew eJ kt a4Y a4Z:AV}(k:Nat)(h1:1<=k)(ay:k<2^20)(kT:idxSlA (some 9) V (k-1)=some (.dh true (.ag [.i .i64 (-1),aX,bc,cq,ew,eJ,kt,a4Y,a4Z])))(body:bF)(hb:YY.body=some body):ak (b.aM K) YY.ntmps body (fv [V,ah k]) ⟨.nil,0⟩ (jU 4 (.b false)):=by
 cases hb;refine W.jD λz H=>?_;refine aj ?_;refine W.eR I I I I kT ?_;refine aj ?_;refine W.jj (c:=[.i .i64 (-1),aX,bc,cq,ew,eJ,kt,a4Y,a4Z]) H I I I I I I I λτ cP H bx=>?_;refine aj ?_;refine W.bin (v:=.b true) I I I I I ?_;refine aj ?_;exact ak.ret ⟨rfl,rfl⟩
end
section
variable {P:Program}{b:bT}{l:iF}{R:List dj}{cb:AV}(G:GivM P b (l.A true) cb)
variable {L:List ba}{ad:List (List Nat)}{az:List Nat}{i w:Nat}{x:ba}
def a5a{X:AV}(hi:i<L.length){j:Nat}:((L.map λx=>x.bA.A).set i X)[j]? =if i=j then some X else(L[j]?).map λx=>x.bA.A:=by
 rw[Gs,jd,b7];by_cases h:i=j
 ·rw[if_pos h,if_pos h,if_pos U]
 ·rw[if_neg h,if_neg h]
def a5b(h:Rd L ad az)(hL:L.length<=35)(hx:L[i]? =some x)(hw:w<9)(J:ae):bM J (b.bp+1000) (iu L i (e6 x i w))=some (iu L i (e6 x i w)):=by
 have hd:∀y∈L,y.bA.f.dep<=38:=λy hy=>by
  show y.f.aG.dep<=38;rw[PF.js];exact(h.low U hy).1
 have xR:=fL hx;have jV:bM J (b.bp+999) (e6 x i w)=some (e6 x i w):=by
  by_cases h0:w=0
  ·subst h0;have h1:=Ll (J:=J) (n:=b.bp+999) (x:=x.bA) (by have:=hd x xR;omega);obtain⟨e2,aX,bc⟩:=zl h1;injection bc with bc
   subst bc;exact ox (yd (j:=0) (x:=.i .i64 (-1)) (y:=.i .i64 (-1)) aX I)
  ·have e:e6 x i w=(hP x i w).A:=by
    unfold e6 hP;rw[if_neg h0];split<;>rfl
   rw[e];refine Ll ?_;by_cases dI:w=7
   ·subst dI;have:=a4U h hL hx;omega
   ·have:(hP x i w).f=x.bA.f:=by
     unfold hP;rw[if_neg dI];rcases GG hw with rfl|rfl|rfl|rfl|rfl|rfl|rfl|rfl|rfl<;>first|rfl|omega
    rw[this];have:=hd x xR;omega
 have ao:=Ag (J:=J) (n:=b.bp+999) (aa:=some 9) (f:=λx:AV=>x) (l:=(L.map λx=>x.bA.A).set i (e6 x i w)) λy hy=>by
  rcases E7 hy with hy|rfl
  ·obtain⟨z,a6,rfl⟩:=dD.1 hy;exact Ll (by have:=hd z a6;omega)
  ·exact jV
 rw[xE] at ao;have a7:(L.map λx=>x.bA.A).set i (e6 x i w)≠[]:=λe=>by
  have:=congrArg List.length e;rw[ib,b7] at this;have h2:=(fw.1 hx).1;rw[this] at h2;exact absurd h2 (MD _)
 show bM J (b.bp+1000) (.a_ true (some 9) _)=some (.a_ true (some 9) _);generalize(L.map λx=>x.bA.A).set i (e6 x i w)=xs at ao a7;cases xs with
 |nil=>exact absurd I a7
 |cons a l=>exact ao
include G
theorem c6E(hb:jR P b)(h:Rd L ad az)(hL:L.length<=35)(hx:L[i]? =some x)(hw:w<7){k:Nat}(h1:1<=k)(ay:k<=i+1):cV P b uf [iu L i (e6 x i w),ah k] (.b (decide (k<=i))):=λbz=>by
 have hi:=(fw.1 hx).1;have hold:∀j,j<i->∃y,L[j]? =some y/\idxSlA (some 9) (iu L i (e6 x i w)) j=some (.dh true y.bA.A):=λj ax=>by
  have:L[j]? =some (L[j]'U):=cM U;exact⟨_,this,a4X (by rw[a5a hi,if_neg U,this];rfl)⟩
 have c6F:∀y,L[k-2]? =some y->1<k->qq (L.map ba.bA) k=(y.hyp,y.br):=λy hy ay=>by
  unfold qq;rw[if_pos ay,jd,hy];rfl
 have CQ:∀y,y∈L->y.bA.br<2^10/\y.bA.op<2^10/\y.bA.cs.length<2^20:=λy hy=>by
  obtain⟨j,ax⟩:=Gt.1 hy;have hl:=h.GF ax;have:=hl.br;have:=hl.op;have:=hl.an;exact⟨by show y.br<_;omega,by show y.op<_;omega,by show y.cs.length<_;omega⟩
 have l4:(qq (L.map ba.bA) k).2<2^10:=by
  unfold qq;split
  ·cases a6:(L.map ba.bA)[k-2]? with
   |none=>decide
   |some z=>
    have:=fL a6;obtain⟨y,hy,rfl⟩:=dD.1 this;exact(CQ y hy).1
  ·decide
 have go:∀z:bg,idxSlA (some 9) (iu L i (e6 x i w)) (k-1)=some (.dh true z.A)->(z.br<2^10/\z.op<2^10/\z.cs.length<2^20)->rz z (qq (L.map ba.bA) k) k=decide (k<=i)->SpecEntry P (b.env []) bz uf [iu L i (e6 x i w),ah k] (.b (decide (k<=i))):=λz a6 k0 he=>by
  rw[<-he];exact lI hb (c3.ok (cn:=.af) (cb:=.af)) _ G.fb.Gw.1 I I I I (hs _).1 (hs _).2 (a0L k h1 U a6 k0 l4 (λe=>by subst e;rfl) (λgF=>by
   obtain⟨y,hy,hy2⟩:=hold (k-2) U;exact⟨y.bA,hy2,c6F y hy gF⟩) _ I) bz
 by_cases LS:k<=i
 ·obtain⟨y,hy,hy2⟩:=hold (k-1) U;refine go y.bA hy2 (CQ y (fL hy)) ?_;rw[decide_eq_true LS];have:=(h.shape h1 hy).1;unfold nN at this;rw[jd,hy] at this;exact this
 ·obtain rfl:k=i+1:=by omega
  have jV:idxSlA (some 9) (iu L i (e6 x i w)) (i+1-1)=some (.dh true (e6 x i w)):=a4X (by rw[a5a hi,if_pos U]);by_cases h0:w=0
  ·subst h0;rw[decide_eq_false LS];exact lI hb (c3.ok (cn:=.af) (cb:=.af)) _ G.fb.Gw.1 I I I I (hs _).1 (hs _).2 (c6D (i+1) h1 U jV _ I) bz
  ·have e:e6 x i w=(hP x i w).A:=by
    unfold e6 hP;rw[if_neg h0];split<;>rfl
   refine go (hP x i w) (by rw[<-e];exact jV) ?_ ?_
   ·have:=CQ x (fL hx);unfold hP;rw[if_neg U];rcases GG (show w<9 by omega) with rfl|rfl|rfl|rfl|rfl|rfl|rfl|rfl|rfl
    ·omega
    ·exact⟨by show 41<2^10;decide,by show 1<2^10;decide,this.2.2⟩
    ·exact⟨by show 0<2^10;decide,by show 1<2^10;decide,this.2.2⟩
    ·exact this
    ·exact this
    ·exact⟨this.1,this.2.1,by show 1<2^20;decide⟩
    ·exact⟨this.1,this.2.1,by show 1<2^20;decide⟩
    ·omega
    ·omega
   ·rw[c6C h0 hw,decide_eq_false LS]
def GI(V:AV)(c5:Nat)(i:Nat)(g:Nat)(aQ:List AV)(r:AV):Prop:=g=c5/\∃k,1<=k/\k<=i+1/\aQ=[V,ah k]/\r= .b (decide (k<=i))
omit G in
theorem GI.fn{V:AV}{c5 i:Nat}:∀g aQ r b5,GI V c5 i g aQ r->GI V c5 i g aQ b5->r=b5:=λg aQ r b5 ⟨_,k,_,_,e,lj⟩ ⟨_,dF,_,_,c4,ta⟩=>by
 rw[e] at c4;have:=qJ (x6 (kh c4).2);rw[lj,ta,this]
theorem c6G(hb:jR P b)(h:Rd L ad az)(hL:L.length<=35)(hx:L[i]? =some x)(hw:w<7):cV P b oB [iu L i (e6 x i w)] (ah (i+1)):=λbz=>by
 have hi:=(fw.1 hx).1;have hl:((L.map λx=>x.bA.A).set i (e6 x i w)).length=L.length:=by rw[ib,b7]
 exact lI hb (K:=GI (iu L i (e6 x i w)) uf i) (λg aQ r ⟨hg,k,h1,h2,e,lj⟩=>by subst hg e lj;exact c6E G hb h hL hx hw h1 h2) _ G.fb.Lx.1 I I I I (nG _ _).1 (nG _ _).2 (a0T GI.fn _ (a5b h hL hx U) (by rw[hl];omega) (λk=>decide (k<=i)) G.fb.Gw.2 (i+1) (by rw[hl];omega) (λk h1 h2 h3=>⟨rfl,k,h1,U,rfl,rfl⟩) (λk h1 h2 h3=>decide_eq_true U) (λ_=>decide_eq_false U) _ I) bz
end
def nL(bU:Nat)(aX:List AV)(h4:AV)(bV:Nat)(bc:List AV)(kl:AV)(g:Nat)(aQ:List AV)(r:AV):Prop:=(g=bU/\aQ=aX/\r=h4)\/(g=bV/\aQ=bc/\r=kl)
def nL.fn{bU:Nat}{aX:List AV}{h4:AV}{bV:Nat}{bc:List AV}{kl:AV}(h:bU≠bV):∀g aQ r b5,nL bU aX h4 bV bc kl g aQ r->nL bU aX h4 bV bc kl g aQ b5->r=b5:=λg aQ r b5 h1 h2=>by
 rcases h1 with⟨aL,_,a5⟩|⟨aL,_,a5⟩<;>rcases h2 with⟨f1,_,f2⟩|⟨f1,_,f2⟩
 ·rw[a5,f2]
 ·exact absurd (aL.symm.trans f1) h
 ·exact absurd (f1.symm.trans aL) h
 ·rw[a5,f2]
def S_{a d e f:Nat}{k dR:Int}{n:Nat}:AV.eqb (n+3) (.a0 [.ag [ah a,.i .u8 k,.i .u8 dR,ah d,ah e],ah f]) (.a0 [.ag [ah a,.i .u8 k,.i .u8 dR,ah d,ah e],ah f])=true:=by
 refine(ov λy hy=>?_:fY (AV.eqb (n+2)) [.ag [ah a,.i .u8 k,.i .u8 dR,ah d,ah e],ah f] [.ag [ah a,.i .u8 k,.i .u8 dR,ah d,ah e],ah f]=true);have hy:y= .ag [ah a,.i .u8 k,.i .u8 dR,ah d,ah e]\/y=ah f:=by simpa using hy
 rcases hy with rfl|rfl
 ·refine sX (n:=n+1) λz a6=>?_;simp only[dB,gR,or_false] at a6;rcases a6 with rfl|rfl|rfl|rfl|rfl<;>exact ev I
 ·exact ev I
def Ta{e:Nat}{n:Nat}:AV.eqb (n+2) (.a0 [.af,ah e]) (.a0 [.af,ah e])=true:=by
 refine(ov λy hy=>?_:fY (AV.eqb (n+1)) [.af,ah e] [.af,ah e]=true);have hy:y= .af\/y=ah e:=by simpa using hy
 rcases hy with rfl|rfl<;>exact ev I
structure c6H(b:bT):Prop where
 Tb:ll b rm Yz
 wanted:HB b PM YP
 c6I:HB b mb Y5
structure FY(b:bT):Prop extends c6H b where
 Tc:ll b qj YA
section
variable {P:Program}{b:bT}{l:iF}{R:List dj}{cb:AV}(G:GivM P b (l.A true) cb)(hl:CL b l R)(fx:FY b)
variable {L:List ba}{ad:List (List Nat)}{az:List Nat}{i w:Nat}{x:ba}
include G hl fx
theorem Td(hb:jR P b){K:Nat->List AV->AV->Prop}(hfn:∀g aQ r b5,K g aQ r->K g aQ b5->r=b5)(om:tV P b K){V:AV}{e r:Nat}(hV:yc b K V e r)(hL:K n_LRight [l.A true] (.b true)):
  cV P b jT [l.A true,V] (wv e r)/\cV P b rm [V] (.a0 [.af,ah e])/\cV P b qj [V] (.a0 [.af,ah e])/\cV P b uc [V] (.a0 [.af,ah e]):=by
 refine⟨λbz=>?_,λbz=>?_,λbz=>?_,λbz=>?_⟩
 ·exact vV hb om (ad:=1000) _ G.fb.Ly.1 I I I I S_ (c5z hfn G.fb.Gv.h hV hl.g3 (G.fb.s9 I) hL _ I) bz
 ·exact vV hb om (ad:=1000) _ fx.Tb.1 I I I I Ta (c5B hfn G.fb.Gv.h hV _ I) bz
 ·exact vV hb om (ad:=1000) _ fx.Tc.1 I I I I Ta (c5C hfn G.fb.Gv.h hV _ I) bz
 ·exact vV hb om (ad:=1000) _ G.fb.a3R.1 I I I I Ta (c5D hfn G.fb.Gv.h hV _ I) bz
theorem c6J(hb:jR P b)(fr:x9 P b (l.A true) cb)(h:Rd L ad az)(hL:L.length<=35)(hx:L[i]? =some x)(hw:w<7):
  cV P b jT [l.A true,iu L i (e6 x i w)] (wv 2 (i+1))/\cV P b rm [iu L i (e6 x i w)] (.a0 [.af,ah 2])/\cV P b qj [iu L i (e6 x i w)] (.a0 [.af,ah 2]):=by
 have hi:=(fw.1 hx).1;have nz:((L.map λx=>x.bA.A).set i (e6 x i w)).length=L.length:=by rw[ib,b7]
 obtain⟨h1,h2,h3,_⟩:=Td G hl fx hb (K:=nL oB [iu L i (e6 x i w)] (ah (i+1)) n_LRight [l.A true] (.b true)) (nL.fn bw) (λg aQ r ay=>by
  rcases ay with⟨rfl,rfl,rfl⟩|⟨rfl,rfl,rfl⟩
  ·exact λbz=>c6G G hb h hL hx hw bz
  ·exact λbz=>fr.Gx bz) (V:=iu L i (e6 x i w)) (e:=2) (r:=i+1) (.shape L.length (i+1) (λτ=>by show some _=_;rw[nz]) U U U U (λτ=>a5b h hL hx U τ) G.fb.Lx.2 (.inl ⟨rfl,rfl,rfl⟩)) (.inr ⟨rfl,rfl,rfl⟩)
 exact⟨h1,h2,h3⟩
def jE(cn:AV)(t:Bool)(g:Nat)(aQ:List AV)(r:AV):Prop:=g=n_LRight/\aQ=[cn]/\r= .b t
omit G hl fx in
theorem jE.fn{cn:AV}{t:Bool}:∀g aQ r b5,jE cn t g aQ r->jE cn t g aQ b5->r=b5:=λg aQ r b5 ⟨_,_,e⟩ ⟨_,_,c4⟩=>by rw[e,c4]
omit G hl fx in
theorem jE.ok{cn:AV}{t:Bool}(h:cV P b n_LRight [cn] (.b t)):tV P b (jE cn t):=λg aQ r ⟨aL,a5,cy⟩=>by subst aL a5 cy;exact λbz=>h bz
theorem c6K(hb:jR P b)(fr:x9 P b (l.A true) cb):cV P b jT [l.A true,rQ] (wv 5 0)/\cV P b uc [rQ] (.a0 [.af,ah 5])/\cV P b jT [l.A true,.af] (wv 5 0):=by
 obtain⟨h1,_,_,aO⟩:=Td G hl fx hb jE.fn (jE.ok fr.Gx) (V:=rQ) (e:=5) (r:=0) (.many 501 (λτ=>by show some (List.replicate 501 _).length=_;rw[qk]) (.inr bw) bw) ⟨rfl,rfl,rfl⟩;obtain⟨h2,_⟩:=Td G hl fx hb jE.fn (jE.ok fr.Gx) (V:=.af) (e:=5) (r:=0) (.many 0 (λτ=>rfl) (.inl I) bw) ⟨rfl,rfl,rfl⟩;exact⟨h1,aO,h2⟩
omit hl fx in
theorem c6L(hb:jR P b)(h0:cV P b n_LRight [.ag lg0] (.b false))(V:AV):cV P b jT [.ag lg0,V] (.a0 [.ag [ah 0,.i .u8 0,.i .u8 0,ah 0,ah 0],ah 2]):=λbz=>
 vV hb (jE.ok h0) (ad:=1000) _ G.fb.Ly.1 I I I I S_ (c5A jE.fn V (G.fb.s9 I) ⟨rfl,rfl,rfl⟩ _ I) bz
end
end
section
open Go Go.RowKit Go.Lyc.T
def a5c[Tok][TokOk]:∀ {l:List Fm} {m:Nat},oI m (uq l m)
 |[],m=>Nat.and_self m
 |f::l,m=>by
  have h:oI m (m ||| mL f):=by
   show m &&& (m ||| mL f)=m;apply Nat.eq_of_testBit_eq;intro i;simp only[Nat.testBit_and,NN];cases m.testBit i<;>simp
  exact a1C h (a5c (l:=l) (m:=m ||| mL f))
def c6M[Tok][TokOk]{F:Fm}:tU (rq (gr F)) 254≠0:=λh=>by
 have h:=a1B.1 h;unfold rq at h;rw[Fm.parts_eq] at h;have h2:oI (0 ||| mL (gr F)) (uq (gr F::Fm.sB (gr F).sub) 0):=a5c (m:=0 ||| mL (gr F));rw[show 0 ||| mL (gr F)=1024 from(by decide:0 ||| (if 10<32 then 2^10 else 0)=1024)] at h2;have h3:oI 1024 254:=a1C h2 h;exact absurd h3 bw
section
variable [Tok][TokOk]{P:Program}{b:bT}(hb:jR P b)(fa:LO b)(hn:∀a:PF,cV P b lb [uB (qn a.op),.s a.bO] (.b true))
include hb fa hn
theorem c6N(l:iF)(ho:l.ops=254)(ni:∀J,bM J (b.bp+1000) (l.A true)=some (l.A true))(S4:cV P b n_LRight [l.A true] (.b true))(a:PF)(ha:a.low):cV P b na [l.A true,(gr a.aG).A true] (.b false):=λbz=>by
 have h0:∀a:PF,c3 P b .af .af lb [uB (qn a.op),.s a.bO] (.b true):=λa=>c3.jJ (hn a) (s8 bw) λr h=>h.s7 bw;have hR:cV P b kb [.ag (hp a.aG)] (.b true):=λbz=>
  lI hb c3.ok _ fa.LP.1 I I I I (hs _).1 (hs _).2 (c6o ⟨c3.fn,fa.a4G.h,fa.a4H.h,fa.a4I.h,fa.named,h0,fa.rows⟩ (h0 .cO) a ha _ I) bz
 have ch:cV P b rl [.ag (hp a.aG)] (.i .u32 (Int.ofNat (rq (gr a.aG)))):=λbz=>by
  rw[<-S5];exact XZ hb (c3.ok (cn:=.af) (cb:=.af)) _ fa.LQ.1 I I I I (nG _ _).1 (nG _ _).2 (a0v fa.visit.h fa.S3.h fa.walk.h _ (c6p a) _ I) bz
 have h1:cV P b sI [l.A true,.ag (hp a.aG)] (.b false):=λbz=>
  lI hb (K:=nL kb [.ag (hp a.aG)] (.b true) rl [.ag (hp a.aG)] (.i .u32 (Int.ofNat (rq (gr a.aG))))) (λg aQ r h=>by
   rcases h with⟨rfl,rfl,rfl⟩|⟨rfl,rfl,rfl⟩
   ·exact λbz=>hR bz
   ·exact λbz=>ch bz) _ fa.LR.1 I I I I (hs _).1 (hs _).2 (c6q (nL.fn bw) a ha l ho (.inl ⟨rfl,rfl,rfl⟩) fa.LP.2 (Qa (J_ _)) c6M (.inr ⟨rfl,rfl,rfl⟩) fa.LQ.2 _ I) bz
 rw[S5];exact lI hb (K:=nL n_LRight [l.A true] (.b true) sI [l.A true,.ag (hp a.aG)] (.b false)) (λg aQ r h=>by
   rcases h with⟨rfl,rfl,rfl⟩|⟨rfl,rfl,rfl⟩
   ·exact λbz=>S4 bz
   ·exact λbz=>h1 bz) _ fa.a4L.1 I I I I (hs _).1 (hs _).2 (c6r (nL.fn bw) a ha l ni (.inl ⟨rfl,rfl,rfl⟩) fa.a4M (.inr ⟨rfl,rfl,rfl⟩) fa.LR.2 _ I) bz
end
def GK(s:Nat)(o:Bool):List AV:=[.i .u8 10,.s [],.af,.a_ o (some 4) [.ag (lo 0 s o)]]
def Te(b:bT):Bool:=cD (λs=>runsTo b [(ma,[.ag (lo 0 s true)],.ag (lo 0 s false))] 100000 (ma,[.ag (GK s true)],.ag (GK s false))) [0,1,2]
section
variable {P:Program}{b:bT}{cn cb:AV}(G:GivM P b cn cb)
def a5d(a:PF)(o:Bool):b4 (gz a a) (.ag (GK a.subs.length o)) ((gr a.aG).A o):=by
 have h0:=Ak (f:=a) (g:=a) o (k:=0) bw;have e:(gr a.aG).A o= .ag [.i .u8 10,.s [],.af,.a_ o (some 4) [.ag (a.aG.cells o)]]:=by
  show AV.ag ((gr a.aG).cells o)=_;rfl
 rw[e];refine b4.four (.i _ _) (.s _) .nil ?_;exact b4.al (o:=o) (aa:=some 4) (c:=[lo 0 a.subs.length o]) (d:=[a.aG.cells o]) I λi h h'=>by
  match i,h with
  |0,_=>exact h0
include G in
theorem c6O(jV:Te b=true)(a:PF)(gP:Tok): @cV gP P b ma [(gr a.aG).A true] ((gr a.aG).A false):=by
 have hc:=a.Gy;have ht:=Ak (f:=a) (g:=a) true (k:=0) bw;have hf:=Ak (f:=a) (g:=a) false (k:=0) bw;refine(cV.gX (T:=gz a a) G.leaf (aQ:=[.ag (GK a.subs.length true)]) (r:=.ag (GK a.subs.length false)) (mP:=[(gr a.aG).A true]) (b5:=(gr a.aG).A false) I (b4.one (a5d a true)) (a5d a false)).1 ?_
 letI:Tok:=gz a a
 haveI:TokOk:=oO a a
 have j8:TabOk P b [(ma,[.ag (lo 0 a.subs.length true)],.ag (lo 0 a.subs.length false))]:=λe he bz=>by
  rw[cB.1 he];exact(cV.gX (T:=gz a a) (gP:=gz a a) G.leaf (aQ:=[.ag (lo 0 a.subs.length true)]) (r:=.ag (lo 0 a.subs.length false)) (mP:=[a.aG.A true]) (b5:=a.aG.A false) I (b4.one ht) hf).2 (LF G _ a (bs _) (gz a a)) bz
 have cf:=lJ jV a.subs.length (three U);exact λbz=>j8.entry (G.hb _ (oO a a)) cf bz
end
end
section
variable [Tok][TokOk]
open Go.RowKit Go.Lyc.T
section
variable {T:List bg}{S:List Bool}{i:Nat}
def LU{n:Nat}(h:S[i]? =some true):(mh S n)[i]? =some true:=by
 obtain⟨hi,_⟩:=fw.1 h;unfold mh;rw[Gs];split
 ·rw[if_pos U]
 ·exact h
def Tf:∀ {l:List Nat} {S:List Bool},S[i]? =some true->(l.foldl mh S)[i]? =some true
 |[],_,h=>h
 |_::l,_,h=>Tf (l:=l) (LU h)
def c6P{k:Nat}{ac:Nat×Nat}(h:S[i]? =some true):(nq T k S ac)[i]? =some true:=by
 unfold nq;cases hJ T (cS T) k ac.1 ac.2 with
 |true=>exact Tf (LU (LU h))
 |false=>exact LU h
def a5e{k:Nat}:∀ {l:List (Nat×Nat)} {S:List Bool},S[i]? =some true->(l.foldl (nq T k) S)[i]? =some true
 |[],_,h=>h
 |_::l,_,h=>a5e (l:=l) (c6P h)
def c6Q{k:Nat}(h:S[i]? =some true):(linW T k S)[i]? =some true:=by
 unfold linW;split
 ·cases S.getD (k-1) false with
  |true=>exact a5e (Tf h)
  |false=>exact h
 ·exact h
def a5f(a7:T≠[]):∀j,(wanD T j)[T.length-1]? =some true
 |0=>by
  have:=pM.2 a7;unfold wanD mh;rw[Gs,if_pos I,qk,if_pos U]
 |j+1=>c6Q (a5f a7 j)
def c6R(a7:T≠[]):ya T≠[]:=by
 have aw:=pM.2 a7;obtain⟨n,hn⟩:∃n,T.length=n+1:=⟨T.length-1,U⟩
 unfold ya;have hw:=a5f a7 T.length;rw[hn,FM] at hw;have hw:(s_ T)[n]? =some true:=by unfold s_;rw[hn];exact hw
 rw[hn];unfold cutS;rw[cM (show n<T.length by omega)];simp only[];rw[fG,hw];simp
def LV:∀ {i:Nat} {x:bg},x∈(cutS T i).2->∃y∈T,x.f=y.f
 |0,x,h=>by simp[cutS] at h
 |i+1,x,h=>by
  unfold cutS at h;cases hy:T[i]? with
  |none=>rw[hy] at h;exact LV (i:=i) h
  |some y=>
   rw[hy] at h;simp only[] at h;cases hw:(s_ T).getD i false with
   |false=>rw[hw] at h;exact LV (i:=i) h
   |true=>
    rw[hw,cond_true] at h;rcases fi.1 h with h|h
    ·exact LV (i:=i) h
    ·rw[cB.1 h];exact⟨y,fL hy,rfl⟩
end
def GL(F:Fm):Prop:=∀n,100<=n->∀v∈F.cells false,fk n v=true/\AV.eqb n v v=true
def Tg{a:PF}(ha:a.dep<=40){n:Nat}(hn:90<=n):∀v∈a.aG.cells false,fk n v=true/\AV.eqb n v v=true:=λv au=>by
 refine⟨?_,SV _ a (bs _) U v au⟩;have h:=Lz _ a (n:=n+1) (bs _) U;rw[<-sW,mG] at h;exact lJ h v au
def c6S{a:PF}(ha:a.dep<=40):GL a.aG:=λn hn=>Tg ha U
def c6T{a:PF}(ha:a.dep<=40):GL (gr a.aG):=λn hn v au=>by
 have au:v∈[AV.i .u8 10,.s [],.af,.a_ false (some 4) [.ag (a.aG.cells false)]]:=au;obtain⟨n,rfl⟩:∃m,n=m+2:=⟨n-2,U⟩
 simp only[dB,gR,or_false] at au;rcases au with rfl|rfl|rfl|rfl
 ·exact⟨rfl,ev I⟩
 ·exact⟨rfl,ev I⟩
 ·exact⟨rfl,ev I⟩
 ·refine⟨?_,xW λy hy=>?_⟩
  ·rw[mG];show((!false||_)&&cD (λx=>cD (fk (n+1)) x.cells) [AV.ag (a.aG.cells false)])=true;rw[II,Ka,oq];refine ig λy hy=>?_;rw[cB.1 hy];exact ig λz a6=>(Tg ha U z a6).1
  ·rw[cB.1 hy];exact sX λz a6=>(Tg ha U z a6).2
def c6U(l:List (Nat×Nat)){n:Nat}:fk (n+3) (hI false l)=true/\AV.eqb (n+3) (hI false l) (hI false l)=true:=by
 cases l with
 |nil=>exact⟨rfl,rfl⟩
 |cons c l=>
  refine⟨?_,xW (n:=n+2) λy hy=>?_⟩
  ·show fk (n+3) (.a_ false (some 2) ((c::l).map qE))=true;rw[show n+3=n+2+1 from rfl,mG];show(true&&cD (λx=>cD (fk (n+2)) x.cells) ((c::l).map qE))=true;rw[oq];refine ig λy hy=>?_;obtain⟨d,_,rfl⟩:=dD.1 hy;rfl
  ·obtain⟨d,_,rfl⟩:=dD.1 (show y∈(c::l).map qE from hy);refine sX (n:=n+1) λz a6=>?_;simp only[dB,gR,or_false] at a6;rcases a6 with rfl|rfl<;>exact ev I
def a5g{x:bg}(h:GL x.f){n:Nat}(hn:100<=n):∀v∈x.F.cells,fk n v=true/\AV.eqb n v v=true:=λv au=>by
 obtain⟨n,rfl⟩:∃m,n=m+3:=⟨n-3,U⟩
 have hf:=h (n+3) U;have au:v∈[ah x.br,ah x.op,.b x.hyp]++(x.f.cells false++[.s x.c2,hI false x.cs]):=by
  have e:x.f.cells false=[uB x.f.op,.s x.f.name,gG false x.f.fl,gp false x.f.e4]:=by
   have:=sW (F:=x.f);injection this
  rw[e];exact au
 rcases fi.1 au with au|au
 ·simp only[dB,gR,or_false] at au;rcases au with rfl|rfl|rfl<;>exact⟨rfl,ev I⟩
 ·rcases fi.1 au with au|au
  ·exact hf v au
  ·simp only[dB,gR,or_false] at au;rcases au with rfl|rfl
   ·exact⟨rfl,ev I⟩
   ·exact c6U _
def c6V{T:List bg}(h:∀x∈T,GL x.f):fk 1000 (.a0 [wq T,ah 0])=true/\AV.eqb 1000 (.a0 [wq T,ah 0]) (.a0 [wq T,ah 0])=true:=by
 constructor
 ·rw[show(1000:Nat)=999+1 from rfl,mG];refine ig λy hy=>?_;have hy:y=wq T\/y=ah 0:=by simpa using hy
  rcases hy with rfl|rfl
  ·rw[show(999:Nat)=998+1 from rfl,mG];show((!false||_)&&cD (λx=>cD (fk 998) x.cells) (T.map bg.F))=true;rw[II,Ka,oq];refine ig λy hy=>?_;obtain⟨x,hx,rfl⟩:=dD.1 hy;exact ig λz a6=>(a5g (h x hx) bw z a6).1
  ·rfl
 ·refine(ov λy hy=>?_:fY (AV.eqb 999) [wq T,ah 0] [wq T,ah 0]=true);have hy:y=wq T\/y=ah 0:=by simpa using hy
  rcases hy with rfl|rfl
  ·refine xW (n:=998) λy hy=>?_;obtain⟨x,hx,rfl⟩:=dD.1 hy;exact sX (n:=997) λz a6=>(a5g (h x hx) bw z a6).2
  ·exact ev I
section
variable (P:Program)(b:bT)(l:iF)(cb:AV)
inductive lq(g:Nat)(aQ:List AV)(r:AV):Prop
 |old:g≠na->g≠ma->CM P b l cb g aQ r->lq g aQ r
 |fN (f:PF):f.low->g=na->aQ=[l.A true,f.aG.A true]->r= .b true->lq g aQ r
 |Ar (f:PF):f.low->g=na->aQ=[l.A true,(gr f.aG).A true]->r= .b false->lq g aQ r
 |x8 (F:Fm) (f:PF):f.low->(F=f.aG\/F=gr f.aG)->g=ma->aQ=[F.A true]->r=F.A false->lq g aQ r
end
section
variable {P:Program}{b:bT}{l:iF}{R:List dj}{cb:AV}
def a5h{f:Fm}{a:PF}(h:gr f=a.aG):False:=by
 have:(gr f).op=a.aG.op:=by rw[h]
 rw[PF.KP] at this;have xd:(10:Nat)=a.op:=this;have hl:a.op<=6:=by
  cases a with
  |bin k a c=>show 4+k.val<=6;omega
  |_=>exact gC I
 omega
def lq.fn:∀g aQ r b5,lq P b l cb g aQ r->lq P b l cb g aQ b5->r=b5:=λg aQ r b5 h h'=>by
 cases h with
 |old aX bc h=>cases h' with
  |old _ _ h'=>exact c3.fn _ _ _ _ h h'
  |fN f hf e=>exact absurd e aX
  |Ar f hf e=>exact absurd e aX
  |x8 F f hf b2 e=>exact absurd e bc
 |fN f hf e tb lj=>cases h' with
  |old aX bc h'=>exact absurd e aX
  |fN f hf c4 uR ta=>rw[lj,ta]
  |Ar b_ hf c4 uR ta=>
   rw[tb] at uR;exact(a5h (Fm.kP (kh uR).2).symm).elim
  |x8 F f hf b2 c4=>rw[e] at c4;exact absurd c4 bw
 |Ar f hf e tb lj=>cases h' with
  |old aX bc h'=>exact absurd e aX
  |Ar f hf c4 uR ta=>rw[lj,ta]
  |fN b_ hf c4 uR ta=>
   rw[tb] at uR;exact(a5h (Fm.kP (kh uR).2)).elim
  |x8 F f hf b2 c4=>rw[e] at c4;exact absurd c4 bw
 |x8 F f hf b2 e tb lj=>cases h' with
  |old aX bc h'=>exact absurd e bc
  |fN f hf c4=>rw[e] at c4;exact absurd c4 bw
  |Ar f hf c4=>rw[e] at c4;exact absurd c4 bw
  |x8 a2t b_ K0 KI c4 uR ta=>
   rw[tb] at uR;rw[lj,ta,Fm.kP (Lp uR)]
end
structure GivX(P:Program)(b:bT)(l:iF)(R:List dj)(cb:AV):Prop where
 G:GivM P b (l.A true) cb
 hl:CL b l R
 fx:FY b
 fa:LO b
 FO:∀a:PF,cV P b lb [uB (qn a.op),.s a.bO] (.b true)
 ops:l.ops=254
 HZ:Te b=true
 no:ixN nW R=none
 fr:x9 P b (l.A true) cb
 rL:b.ext ma=0/\b.pure ma=true
 c6W:cV P b n_LRight [.ag lg0] (.b false)
 hb:jR P b
section
variable {P:Program}{b:bT}{l:iF}{R:List dj}{cb:AV}(X:GivX P b l R cb)
variable {L:List ba}{ad:List (List Nat)}{az:List Nat}{i w:Nat}{x:ba}
include X
theorem lq.ok:tV P b (lq P b l cb):=λg aQ r h=>by
 cases h with
 |old _ _ h=>exact c3.ok g aQ r h
 |fN f hf e tb lj=>subst e tb lj;exact λbz=>X.fr.fN f hf bz
 |Ar f hf e tb lj=>subst e tb lj;exact λbz=>c6N X.hb X.fa X.FO l X.ops X.hl.g3 X.fr.Gx f hf bz
 |x8 F f hf b2 e tb lj=>
  subst e tb lj;rcases b2 with rfl|rfl
  ·exact λbz=>LF X.G _ f (bs _) _ bz
  ·exact λbz=>c6O X.G X.HZ f _ bz
theorem c6X:Lk (lq P b l cb) R (l.A true):=by
 have h:=c5b X.G X.hl X.hb X.fr;exact⟨h.pre,λr F aC gs h1 h2 h3=>by
  obtain⟨cZ,gL,dR,eB,az,ay⟩:=h.ap r F aC gs h1 h2 h3;exact⟨cZ,gL,dR,eB,az,.old bw bw ay⟩,λf hf=>.old bw bw (h.cC f hf),λf hf=>.fN f hf I I I⟩
theorem lq.zm{T:List bg}(g:nV T):zQ b (lq P b l cb) T:=by
 have h:=g.zm (cb:=cb) X.G X.hb;exact⟨h.kU,h.ne,h.le,h.g3,.old bw bw h.zR,h.kv,h.uy⟩
theorem a5i(h:Rd L ad az)(hL:L.length<=35)(hx:L[i]? =some x)(cQ:nr (L.map ba.bA) (kC L i (hP x i w))){cI:Nat}(h0:cI≠0)(ay:cI<256)(Q_:∃fN,lq P b l cb na [l.A true,(hP x i w).f.A true] (.b fN)/\oL (lq P b l cb) (kC L i (hP x i w)) (cS (kC L i (hP x i w))) (ndsL (kC L i (hP x i w)) (kC L i (hP x i w)).length) R (i+1) (hP x i w) fN cI 0 0 0):
  cV P b jT [l.A true,cG (kC L i (hP x i w))] (x7 (i+1) cI 0 0 0 180):=λbz=>by
 have hi:=(fw.1 hx).1;have a7:L≠[]:=λe=>by rw[e] at hx;cases hx
 have g:=cQ.Ai (h.Ai U a7);have hlen:(kC L i (hP x i w)).length=L.length:=by rw[kC,ib,b7]
 have c6Y:lq P b l cb n_LRight [l.A true] (.b true):=.old bw bw (c3.jJ X.fr.Gx (s8 bw) λr h=>h.s7 bw);obtain⟨ej,pD,aw⟩:=h.pre (m:=i) U;have kJ:(L.take i).length=i:=by rw[g5];omega
 have a5j:=c6B (y:=hP x i w) hi;refine vV X.hb (lq.ok X) (ad:=1000) _ X.G.fb.Ly.1 I I I I S_ (c0J lq.fn X.G.fb.hf X.G.fb.ho X.G.fb.aw X.G.fb.iU (lq.zm X g) (λy hy=>by have:=g.dep y hy;omega) X.hl.rs X.hl.len X.hl.aC X.hl.g3 (X.G.fb.s9 I) c6Y (r:=i+1) (cI:=cI) (dR:=0) (eB:=0) (az:=0) ⟨by rw[hlen];omega,λk y h1 h2 hy=>?_,λ_=>⟨h0,ay,λy hy=>?_⟩⟩ (by rw[if_neg U];exact⟨rfl,rfl,rfl,rfl,rfl,rfl⟩) _ I) bz
 ·have LS:k<=i:=by omega
  rw[S9 hi,if_neg U,jd] at hy;cases a6:L[k-1]? with
  |none=>rw[a6] at hy;cases hy
  |some z=>
   rw[a6] at hy;cases hy;refine⟨true,.fN z.f (h.low U (fL a6)) I I I,?_⟩;rw[a5j];have k0:(L.take i)[k-1]? =some z:=by rw[uV U];exact a6
   refine oL.app (λy hy hh ho=>?_) (λk y ay hy=>aw.wk ay hy) (by rw[b7];omega) (λac eH=>?_) (aw.bad (c6X X) U h1 k0)
   ·rw[<-a5j] at hy;obtain⟨j,ax⟩:=Gt.1 hy;obtain⟨u,hu,aL,a5,cy,_⟩:=cQ.get ax;obtain⟨p,l4,rfl⟩:=dD.1 (fL hu);rw[aL];exact h.b.hyp p l4 (by rw[cy] at hh;exact hh) (by rw[a5] at ho;exact ho)
   ·exact(h.wk h1 (x:=z.bA) (by rw[jd,a6];rfl)).2 ac eH
 ·rw[show i+1-1=i from rfl,S9 hi,if_pos I] at hy;cases hy;exact Q_
theorem c6Z(h:Rd L ad az)(hL:L.length<=35)(hx:L[i]? =some x):cV P b jT [l.A true,cG (kC L i (hP x i 7))] (x7 (i+1) 3 0 0 0 180):=
 a5i X h hL hx (a4V h hL hx) bw bw ⟨false,.Ar x.f (h.low U (fL hx)) I I I,.form I⟩
theorem c7a(h:Rd L ad az)(hL:L.length<=35)(hx:L[i]? =some x)(fu:x.hyp=false):cV P b jT [l.A true,cG (kC L i (hP x i 8))] (x7 (i+1) 4 0 0 0 180):=
 a5i X h hL hx (a4W h hL hx fu) bw bw ⟨true,.fN x.f (h.low U (fL hx)) I I I,.c2 I I (by decide:nW≠oK) X.no⟩
theorem c7b{T:List bg}(g:nV T)(j8:∀x∈T,∃f:PF,f.low/\(x.f=f.aG\/x.f=gr f.aG)):cV P b rm [cG T] (.a0 [wq (ya T),ah 0]):=λbz=>by
 have b2:∀x∈ya T,GL x.f:=λx hx=>by
  obtain⟨y,hy,e⟩:=LV hx;obtain⟨f,hf,w7⟩:=j8 y hy;have:=hf.1;rw[e];rcases w7 with e|e<;>rw[e]
  ·exact c6S U
  ·exact c6T U
 have aq:=c6V b2;exact vV X.hb (lq.ok X) (ad:=1000) _ X.fx.Tb.1 I I I aq.1 aq.2 (c5w lq.fn ⟨X.G.fb.hf,X.fx.wanted.h,X.fx.c6I.h⟩ X.G.fb.ho (lq.zm X g) X.rL (λx hx=>by
  obtain⟨f,hf,w7⟩:=j8 x hx;exact .x8 x.f f hf w7 I I I) (λx hx=>by have:=g.dep x hx;omega) (c6R g.ne) _ I) bz
end
end
section
variable [Tok][TokOk]
open Go.RowKit Go.Lyc.T
attribute [local irreducible] cg bL dC eu bE
def Th:List Nat:=[jT,rm,qj,uc]
structure wA(cn:AV)(g:Nat)(aQ:List AV)(r:AV):Prop where
 wr:∀L ad az,Rd L ad az->L.length<=35->∀i x,L[i]? =some x->∀w<9,(w=8->x.hyp=false)->(g=jT->aQ=[cn,iu L i (e6 x i w)]->∃dR eB az,r=x7 (i+1) (rR w) dR eB az 180)/\((g=rm\/g=qj)->aQ=[iu L i (e6 x i w)]->∃v,r= .a0 [v,ah (qF w)])
 many:g=jT->(aQ=[cn,rQ]\/aQ=[cn,.af])->r=wv 5 0
 pE:g=uc->aQ=[rQ]->r= .a0 [.af,ah 5]
 no:g=jT->∀V,aQ=[.ag lg0,V]->r= .a0 [.ag [ah 0,.i .u8 0,.i .u8 0,ah 0,ah 0],ah 2]
inductive lr(P:Program)(b:bT)(l:iF)(cb:AV)(g:Nat)(aQ:List AV)(r:AV):Prop
 |old:sC Th g=false->CM P b l cb g aQ r->lr P b l cb g aQ r
 |new:sC Th g=true->(h:∃r,cV P b g aQ r/\wA (l.A true) g aQ r)->r=Classical.choose h->lr P b l cb g aQ r
section
variable {P:Program}{b:bT}{l:iF}{cb:AV}{g:Nat}{aQ:List AV}{r:AV}
def lr.fn:∀g aQ r b5,lr P b l cb g aQ r->lr P b l cb g aQ b5->r=b5:=λg aQ r b5 h h'=>by
 cases h with
 |old e h=>cases h' with
  |old _ h'=>exact c3.fn _ _ _ _ h h'
  |new c4=>rw[e] at c4;cases c4
 |new e h lj=>cases h' with
  |old c4=>rw[e] at c4;cases c4
  |new _ h' ta=>rw[lj,ta]
def lr.ok:tV P b (lr P b l cb):=λg aQ r h=>by
 cases h with
 |old _ h=>exact c3.ok g aQ r h
 |new _ h lj=>subst lj;exact(Bw h).1
def lr.get(hg:sC Th g=true)(h:cV P b g aQ r)(aW:wA (l.A true) g aQ r):∃r,lr P b l cb g aQ r/\wA (l.A true) g aQ r:=⟨_,.new hg ⟨r,h,aW⟩ I,(Bw (⟨r,h,aW⟩:∃r,cV P b g aQ r/\wA (l.A true) g aQ r)).2⟩
end
def a5k{L:List ba}{i:Nat}{X:AV}(hL:L.length<=35):iu L i X≠rQ:=λh=>by
 injection h with _ _ h
 have:=congrArg List.length h;rw[ib,b7,qk] at this;omega
section
variable {P:Program}{b:bT}{l:iF}{R:List dj}{lc gY:List AV}(X:GivX P b l R (.a0 [.ag lc,.ag gY]))
variable {L:List ba}{ad:List (List Nat)}{az:List Nat}{i w:Nat}{x:ba}
include X
theorem LW:l.A true≠ .ag lg0:=λh=>by
 injection h with h
 injection h with _ h
 injection h with h _
 have:=qJ (x6 h);rw[X.ops] at this;cases this
theorem c7c(h:Rd L ad az)(hL:L.length<=35)(hx:L[i]? =some x)(hw:w<9){dR eB kz:Nat}:wA (l.A true) jT [l.A true,iu L i (e6 x i w)] (x7 (i+1) (rR w) dR eB kz 180) where
 wr kW bd fW h' GM gE de eo av kQ fu:=⟨λ_ e=>by
  obtain⟨aL,a5,_⟩:=a4R h h' hx eo hw kQ (kh e).2;exact⟨dR,eB,kz,by rw[aL,a5]⟩,λe=>by rcases e with e|e<;>exact absurd e bw⟩
 many _ e:=by
  rcases e with e|e
  ·exact absurd (kh e).2 (a5k hL)
  ·have:=(kh e).2;cases this
 pE e:=absurd e bw
 no _ V e:=absurd (kh e).1 (LW X)
theorem a5l{g:Nat}(hg:g=rm\/g=qj)(h:Rd L ad az)(hx:L[i]? =some x)(hw:w<9){v:AV}:wA (l.A true) g [iu L i (e6 x i w)] (.a0 [v,ah (qF w)]) where
 wr kW bd fW h' GM gE de eo av kQ fu:=⟨λe=>by rcases hg with rfl|rfl<;>exact absurd e bw,λ_ e=>by
  obtain⟨_,_,cy⟩:=a4R h h' hx eo hw kQ (Lp e);exact⟨v,by rw[cy]⟩⟩
 many e:=by rcases hg with rfl|rfl<;>exact absurd e bw
 pE e:=by rcases hg with rfl|rfl<;>exact absurd e bw
 no e:=by rcases hg with rfl|rfl<;>exact absurd e bw
theorem a5m{V:AV}(hV:V=rQ\/V= .af):wA (l.A true) jT [l.A true,V] (wv 5 0) where
 wr kW bd fW h' GM gE de eo av kQ fu:=by
  refine⟨λ_ e=>?_,λe=>by rcases e with e|e<;>exact absurd e bw⟩;have e:=(kh e).2;rcases hV with rfl|rfl
  ·exact absurd e.symm (a5k GM)
  ·cases e
 many _ _:=rfl
 pE e:=absurd e bw
 no _ V e:=absurd (kh e).1 (LW X)
theorem c7d:wA (l.A true) uc [rQ] (.a0 [.af,ah 5]) where
 wr kW bd fW h' GM gE de eo av kQ fu:=⟨λe=>absurd e bw,λe=>by rcases e with e|e<;>exact absurd e bw⟩
 many e:=absurd e bw
 pE _ _:=rfl
 no e:=absurd e bw
theorem c7e(V:AV):wA (l.A true) jT [.ag lg0,V] (.a0 [.ag [ah 0,.i .u8 0,.i .u8 0,ah 0,ah 0],ah 2]) where
 wr kW bd fW h' GM gE de eo av kQ fu:=⟨λ_ e=>absurd (kh e).1.symm (LW X),λe=>by rcases e with e|e<;>exact absurd e bw⟩
 many _ e:=by rcases e with e|e<;>exact absurd (kh e).1.symm (LW X)
 pE e:=absurd e bw
 no _ _ _:=rfl
theorem c7f:kX b (lr P b l (.a0 [.ag lc,.ag gY])) where
 sf:=X.G.fb.a3I.h
 ci:=X.G.fb.a3J.h
 li:=X.G.fb.line.h
 we:=X.G.fb.a3K.h
 aa:=X.G.fb.a3L.h
 wg:=X.G.fb.a3M.h
 pB:=X.G.fb.join.h
 at_:=X.G.fb.atom.h
 fn:=lr.fn
 es:=X.G.fb.Lv.2
 Ld:=X.G.fb.Lw.2
 size a h1 h2:=.old I ((X.G.fb.ck X.hb X.fr).size a h1 h2)
 same a c h1 h2:=.old I ((X.G.fb.ck X.hb X.fr).same a c h1 h2)
theorem c7g(ab:SX b l lc gY):Ao b (lr P b l (.a0 [.ag lc,.ag gY])) lc gY (l.A true):=by
 obtain⟨db,o_,q9⟩:=c6K X.G X.hl X.fx X.hb X.fr;refine⟨c7f X,X.G.fb.Made.h,X.G.fb.s9 I,.old I (c3.jJ X.fr.log c4i λr h=>h.log I),ab.sU,ab.g3,X.G.fb.s9 I,.old I (c3.jJ X.fr.LC (s8 bw) λr h=>h.s7 bw),X.fx.Tc.2,X.G.fb.Ly.2,X.fx.Tb.2,X.G.fb.a3R.2,?_,?_,?_⟩
 ·obtain⟨r,c0,aW⟩:=lr.get (cb:=.a0 [.ag lc,.ag gY]) I db (a5m X (.inl I));rw[<-aW.many I (.inl I)];exact c0
 ·obtain⟨r,c0,aW⟩:=lr.get (cb:=.a0 [.ag lc,.ag gY]) I q9 (a5m X (.inr I));rw[<-aW.many I (.inr I)];exact c0
 ·obtain⟨r,c0,aW⟩:=lr.get (cb:=.a0 [.ag lc,.ag gY]) I o_ (c7d X);rw[<-aW.pE I I];exact c0
theorem c7h(h:Rd L ad az)(hL:L.length<=35)(hx:L[i]? =some x)(hw:w<9)(fu:w=8->x.hyp=false):CP (lr P b l (.a0 [.ag lc,.ag gY])) (l.A true) (iu L i (e6 x i w)) i (rR w) (qF w):=by
 have a7:L≠[]:=λe=>by rw[e] at hx;cases hx
 have s5:∀y∈L,y.f.low:=λy hy=>h.low U hy;have h5:∃dR eB az,cV P b jT [l.A true,iu L i (e6 x i w)] (x7 (i+1) (rR w) dR eB az 180)/\(∃v,cV P b rm [iu L i (e6 x i w)] (.a0 [v,ah (qF w)]))/\∃v,cV P b qj [iu L i (e6 x i w)] (.a0 [v,ah (qF w)]):=by
  by_cases dI:w<7
  ·obtain⟨aX,bc,cq⟩:=c6J X.G X.hl X.fx X.hb X.fr h hL hx dI;have aL:rR w=2:=by unfold rR;rw[if_neg U,if_neg U]
   have a5:qF w=2:=by unfold qF;rw[if_pos dI]
   rw[aL,a5];exact⟨0,0,0,aX,⟨_,bc⟩,⟨_,cq⟩⟩
  ·have key:∀cQ:nr (L.map ba.bA) (kC L i (hP x i w)),(∃f:PF,f.low/\((hP x i w).f=f.aG\/(hP x i w).f=gr f.aG))->(∃v,cV P b rm [cG (kC L i (hP x i w))] (.a0 [v,ah 0]))/\∃v,cV P b qj [cG (kC L i (hP x i w))] (.a0 [v,ah 0]):=λcQ hf=>by
    have g:=cQ.Ai (h.Ai U a7);refine⟨⟨_,c7b X g λy hy=>?_⟩,⟨_,g.c5f X.G X.hb X.fx.Tc⟩⟩;rcases E7 hy with hy|rfl
    ·obtain⟨z,a6,rfl⟩:=dD.1 hy;exact⟨z.f,s5 z a6,.inl I⟩
    ·exact hf
   rw[c6z U];rcases(show w=7\/w=8 by omega) with rfl|rfl
   ·exact⟨0,0,0,c6Z X h hL hx,key (a4V h hL hx) ⟨x.f,s5 x (fL hx),.inr I⟩⟩
   ·exact⟨0,0,0,c7a X h hL hx (fu I),key (a4W h hL hx (fu I)) ⟨x.f,s5 x (fL hx),.inl I⟩⟩
 obtain⟨dR,eB,kz,aX,⟨v2,bc⟩,⟨wB,cq⟩⟩:=h5;refine⟨?_,?_,?_,?_⟩
 ·obtain⟨r,c0,aW⟩:=lr.get (cb:=.a0 [.ag lc,.ag gY]) I aX (c7c X h hL hx hw);obtain⟨dR,eB,kz,rfl⟩:=(aW.wr L ad az h hL i x hx w hw fu).1 I I;exact⟨dR,eB,kz,c0⟩
 ·obtain⟨r,c0,aW⟩:=lr.get (cb:=.a0 [.ag lc,.ag gY]) I bc (a5l X (.inl I) h hx hw);obtain⟨v,rfl⟩:=(aW.wr L ad az h hL i x hx w hw fu).2 (.inl I) I;exact⟨v,c0⟩
 ·obtain⟨r,c0,aW⟩:=lr.get (cb:=.a0 [.ag lc,.ag gY]) I cq (a5l X (.inr I) h hx hw);obtain⟨v,rfl⟩:=(aW.wr L ad az h hL i x hx w hw fu).2 (.inr I) I;exact⟨v,c0⟩
 ·obtain⟨r,c0,aW⟩:=lr.get (cb:=.a0 [.ag lc,.ag gY]) I (c6L X.G X.hb X.c6W _) (c7e X _);rw[<-aW.no I _ I];exact c0
theorem fitchWrong_E(ab:SX b l lc gY)(hf:b.funcs.get a0h=some qg){cK:AV}{code:List Nat}(au:∀τ,iO τ none cK (code.map uB))(lD:cK.cells=[cK]/\cK.val=true)(hlen:code.length<2^62)(zU:∀x∈code,x<256){n m:Nat}(hn:n<256)(hm:m<256):cV P b a0h [cK,uB n,uB m] (.b true):=λbz=>
 lI X.hb lr.ok _ hf I I I I (hs _).1 (hs _).2 (c6s (c7g X ab) au lD hlen zU hn hm (λL ad az h hL i x hx w hw fu=>c7h X h hL hx hw fu) _ I) bz
end
end
end Go.Lyc
end
