/-
  What functions of the program compute: walks, part 3. No conditions: definitions and laws.
-/
import Derived.Test.YtmioclbmbindhaaGreatDoorW2
import Derived.SizedLaws
set_option linter.all false
noncomputable section
namespace Go.Lyc
def MU:=@List.zipWith_cons_cons
def UO:=@List.zipWith_map_left
def UP:=@List.zipWith_map_right
def MV:=@List.map_inj_right
def zz:=@Iff.rfl
def UQ:=@List.length_filter_le
def NI:=@Go.DataW.weights_mem_each
set_option maxHeartbeats 0
set_option maxRecDepth 100000
section
variable [Tok][TokOk]
open Go.RowKit Go.Lyc.T
mutual
def rnX(f:Int→Nat):Prf→Prf
 | .mk r F l none m=>.mk r F (f l) none (cM ((m.getD []).map fun x=>cM ((x.getD []).map fun n=>(f n:Int))))
 | .mk r F l (some s) m=>.mk r F (f l) (cM (rnXs f s)) (cM ((m.getD []).map fun x=>cM ((x.getD []).map fun n=>(f n:Int))))
def rnXs(f:Int→Nat):List Prf→List Prf
 |[]=>[]
 |p::s=>rnX f p::rnXs f s
end
theorem X4(f:Int→Nat):∀s,rnXs f s=s.map (rnX f)
 |[]=>by rw[rnXs];rfl
 |p::s=>by rw[rnXs,X4 f s];rfl
theorem Ba(f:Int→Nat)(p:Prf):rnX f p= .mk p.rule p.form (f p.aY) (cM (p.sub.map (rnX f))) (cM (p.aG.map fun x=>cM ((x.getD []).map fun n=>(f n:Int)))):=by
 obtain⟨r,F,l,s,m⟩:=p;cases s with
 |none=>rw[rnX];rfl
 |some s=>rw[rnX,X4];rfl
theorem X5(f:Int→Nat):∀(d:Nat) (p:Prf),p.dep≤d→(rnP (fun n=>(f n:Int)) p.nz).nz=(rnX f p).nz
 |0,p,h=>by have:=Prf.gJ p;omega
 |d+1,p,h=>by
  refine JA ?_ ?_ ?_ ?_ ?_
  ·rw[Wi,Prf.tI,Ba];rfl
  ·rw[I9,Prf.wQ,Ba];exact Fm.sb _ _ (o _)
  ·rw[Wj,Prf.tJ,Ba];rfl
  ·rw[AT,Prf.mF,Ba,eK,eK];show _=((cM (p.sub.map (rnX f))).getD []).map Prf.nz;rw[js,eK];exact gl fun q hq=>X5 f d q (by have:=Prf.jE hq;omega)
  ·rw[N1,wH,Prf.sc,Ba,eK,eK];show _=((cM (p.aG.map fun x=>cM ((x.getD []).map fun n=>(f n:Int)))).getD []).map fun x=>x.getD [];rw[js,eK];refine gl fun x _=>?_;show((jX x).map fun y=>y.map fun n=>(f n:Int)).getD []=(cM ((x.getD []).map fun n=>(f n:Int))).getD [];rw[js,o7,p5]
theorem ON{α β ua:Type}{f g:α→β→ua}:∀ {l:List α} {m:List β},(∀j (h:j<l.length) (h':j<m.length),f l[j] m[j]=g l[j] m[j])→List.zipWith f l m=List.zipWith g l m
 |[],_,_=>by simp
 |_::_,[],_=>by simp
 |a::l,b::m,h=>by
  rw[MU,MU,show f a b=g a b from h 0 (by simp) (by simp),ON fun j h1 h2=>h (j+1) (by simpa using h1) (by simpa using h2)]
theorem JC{α β ua b4a:Type}{f:α→β→ua}{g:ua→b4a}(l:List α)(m:List β):(List.zipWith f l m).map g=List.zipWith (fun a b=>g (f a b)) l m:=List.map_zipWith ..
theorem X6{l:List Int}{n:Int}:n∈nzs l↔n∈l∧n≠0:=by
 unfold nzs;rw[rr];simp
theorem b4b(m:Int)(l:List (Option (List Int))):(((uP m l).getD []).map fun x=>x.getD [])=l.map fun x=>(x.getD []).map (gk m):=by
 unfold uP;rw[js,eK];exact gl fun x _=>js _
theorem X7{ck:Prf}{m:Int}:∀(d:Nat) (p:Prf) (ins Bb:List Int),p.dep≤d→(∀x∈p.pre,f_ x=true)→(∀n,n≠0→(n∈ins↔n∈Bb))→(∀n,n≠0→n∉ins→fS n p=true→fS n ck=true)→(raP m p.nz ins).nz=(shP (jr ck) m p Bb).nz
 |0,p,_,_,h,_,_,_=>by have:=Prf.gJ p;omega
 |d+1,p,ins,Bb,h,aj,hi,ab=>by
  have hall:dh p=true:=hP.2 aj;have hf:=u4 hall;have q0:p∈p.pre:=by rw[Prf.gB];exact .head _
  have k9:=(hf p q0).1;have yX:p.nz.aG.length=p.nz.sub.length:=by rw[Prf.sc,Prf.mF,aJ,aJ];exact k9
  have cL:=Vx (jr ck) m p Bb k9;refine JA ?_ ?_ ?_ ?_ ?_
  ·rw[Ob yX,Prf.tI,cL];rfl
  ·rw[Ez yX,Prf.wQ,cL];exact Fm.sb _ _ (o _)
  ·rw[Jo yX,Prf.tI,Prf.tJ,cL];show l8 p.rule ins p.aY m=shl p.rule (jr ck) Bb p.aY m;unfold l8 shl;cases al:eqL p.rule [] with
   |false=>rfl
   |true=>
    have hl1:p.aY≠0:=by
     have:=aj p q0;unfold f_ at this;rw[al,J5,cond_true] at this;have b4c:eqL p.rule [63]=false:=by
      have:p.rule=[]:=(pk _ _).1 al;rw[this];rfl
     rw[b4c,cond_false] at this;simp only[cx,decide_eq_true_eq] at this;omega
    rw[jU,jU];by_cases hx:p.aY∈ins
    ·rw[decide_eq_true hx,decide_eq_true ((hi _ hl1).1 hx),J5]
    ·have b4d:fS p.aY ck=true:=ab _ hl1 hx (by rw[yt,al];simp);rw[decide_eq_false hx,decide_eq_false (fun h=>hx ((hi _ hl1).2 h)),decide_eq_true ((I4 _).2 b4d)];rfl
  ·rw[EA yX,cL];show _=((cM (List.zipWith (fun x q=>shP (jr ck) m q (Bb++x.getD [])) p.aG p.sub)).getD []).map Prf.nz;rw[js,JC,JC,Prf.sc,Prf.mF,UO,UP];refine ON fun j h1 h2=>?_;have cP:=aS h2;refine X7 d _ _ _ (by have:=Prf.jE cP;omega) (fun x hx=>aj x (by rw[Prf.gB];exact e9 _ (gP.2 ⟨_,cP,hx⟩))) (fun n hn=>?_) (fun n hn BX gH=>?_)
   ·rw[dE,dE,X6,p5,hi n hn];simp[hn]
   ·rw[dE,X6,p5] at BX;refine ab n hn (fun h=>BX (.inl h)) ?_;rw[yt,mL];right;refine(AI n _ _).2 ⟨j,h2,fun h=>BX (.inr ⟨?_,hn⟩),gH⟩;rw[fU,a9 h1] at h;exact h
  ·rw[Jp yX,wH,Prf.sc,cL,eK,eK];show _=((uP m p.aG).getD []).map fun x=>x.getD [];rw[b4b];refine gl fun x _=>?_;show((jX x).map fun y=>y.map (gk m)).getD []=_;rw[o7,p5]
theorem X8{n:Int}{R Q:Prf}(X9:R.nz=Q.nz):∀(d:Nat) (p:Prf),p.dep≤d→(∀x∈p.pre,x.aG.length=x.sub.length)→(ga n R p.nz).nz=(ga n Q p).nz
 |0,p,h,_=>by have:=Prf.gJ p;omega
 |d+1,p,h,aj=>by
  have q0:p∈p.pre:=by rw[Prf.gB];exact .head _
  have k9:=aj p q0;have yX:p.nz.aG.length=p.nz.sub.length:=by rw[Prf.sc,Prf.mF,aJ,aJ];exact k9
  rw[Js n R p.nz yX,Js n Q p k9,Prf.tI,Prf.tJ];cases ah:eqL p.rule []&&decide (p.aY=n) with
  |true=>exact X9
  |false=>
   have e8:∀(S:Prf) (p:Prf),(Prf.mk p.rule p.form p.aY (p.bm.bind fun _=>cM (List.zipWith (hj n S) p.aG p.sub)) p.cv).sub=List.zipWith (hj n S) p.aG p.sub:=fun S p=>by
    show(p.bm.bind fun _=>cM (List.zipWith (hj n S) p.aG p.sub)).getD []=_;cases ib:p.bm with
    |none=>
     have:p.sub=[]:=by unfold Prf.sub;rw[ib];rfl
     rw[this,BA];rfl
    |some s=>exact js _
   refine JA ?_ ?_ ?_ ?_ ?_
   ·exact rfl
   ·show p.nz.form.nz=p.form.nz;rw[Prf.wQ];exact Fm.sb _ _ (o _)
   ·exact rfl
   ·have aM:=e8 R p.nz;have e2:=e8 Q p;rw[Prf.tI,Prf.tJ] at aM;rw[cond_false,cond_false,aM,e2,JC,JC,Prf.sc,Prf.mF,UO,UP];refine ON fun j h1 h2=>?_;have cP:=aS h2;show(hj n R (jX p.aG[j]) p.sub[j].nz).nz=(hj n Q p.aG[j] p.sub[j]).nz;unfold hj;rw[p5];cases decide (n∈p.aG[j].getD []) with
    |true=>exact EP _
    |false=>exact X8 X9 d _ (by have:=Prf.jE cP;omega) fun x hx=>aj x (by rw[Prf.gB];exact e9 _ (gP.2 ⟨_,cP,hx⟩))
   ·exact JB p
theorem b4e{u v:Prf}(h:u.nz=v.nz):bN u=bN v:=by rw[←A9 u,h,A9]
theorem X_{u v:Prf}(h:u.nz=v.nz):dH u=dH v:=by rw[←nK u,h,nK]
theorem OO(p:Prf):kO p > 999↔∃x∈bN p,999<x:=by
 rw[Eb];constructor
 ·intro h;rcases Oz (bN p) 0 with e|e
  ·omega
  ·exact⟨_,e,h⟩
 ·rintro⟨x,hx,h⟩;have:=(NH 0 (bN p)).2 x hx;omega
abbrev kh:List Nat→Prop:=fun _=>True
def Prf.sz:Nat→Prf→Prop
 |0,_=>False
 |d+1,p=>Fm.sz kh d p.form∧p.sub.length<2^20∧p.aG.length<2^20∧(∀l∈p.aG,(l.getD []).length<2^20)∧∀q∈p.sub,Prf.sz d q
theorem Prf.pP{d:Nat}:∀ {l:List Prf},(∀u∈l,u.dep≤d)→Prf.g_ l≤d
 |[],_=>by rw[Prf.g_];exact hv _
 |t::l,h=>by rw[Prf.g_];have:=h t (by simp);have:=Prf.pP fun u hu=>h u (e9 _ hu);omega
theorem Prf.eY:∀ {d:Nat} {p:Prf},Prf.sz d p→p.dep≤d
 |0,_,h=>h.elim
 |d+1,p,⟨h1,_,_,_,ba⟩=>by
  rw[Prf.gJ];have:=Fm.eY h1;have:=Prf.pP fun u hu=>Prf.eY (ba u hu);omega
theorem Tm.q1{V:List Nat→Prop}:∀ {d:Nat} {t:Tm},Tm.sz V d t→Tm.nc d t
 |0,_,h=>h.elim
 |d+1,t,⟨h1,_,h2⟩=>⟨h1,fun u hu=>Tm.q1 (h2 u hu)⟩
theorem Fm.q1{V:List Nat→Prop}:∀ {d:Nat} {t:Fm},Fm.sz V d t→Fm.nc d t
 |0,_,h=>h.elim
 |d+1,t,⟨h1,h2,h3,aE⟩=>⟨h1,h2,fun u hu=>Tm.q1 (h3 u hu),fun u hu=>Fm.q1 (aE u hu)⟩
theorem Tm.p6{V:List Nat→Prop}:∀(d dT:Nat) {t:Tm},d≤dT→Tm.sz V d t→Tm.sz V dT t
 |0,_,_,_,h=>h.elim
 |d+1,0,_,au,_=>by omega
 |d+1,dT+1,_,au,⟨h1,h2,h3⟩=>⟨h1,h2,fun u hu=>Tm.p6 d dT (by omega) (h3 u hu)⟩
theorem Fm.p6{V:List Nat→Prop}:∀(d dT:Nat) {t:Fm},d≤dT→Fm.sz V d t→Fm.sz V dT t
 |0,_,_,_,h=>h.elim
 |d+1,0,_,au,_=>by omega
 |d+1,dT+1,_,au,⟨h1,h2,h3,aE⟩=>⟨h1,h2,fun u hu=>Tm.p6 d dT (by omega) (h3 u hu),fun u hu=>Fm.p6 d dT (by omega) (aE u hu)⟩
theorem Prf.q1{e:Nat}:∀ {d:Nat} {p:Prf},d≤e+1→Prf.sz d p→nH e d p
 |0,_,_,h=>h.elim
 |d+1,p,he,⟨h1,h2,h3,aE,ba⟩=>⟨Fm.q1 (Fm.p6 d e (by omega) h1),h2,h3,fun l ar=>by have:=aE l ar;omega,fun q hq=>Prf.q1 (by omega) (ba q hq)⟩
theorem Prf.JD:∀ {d:Nat} {p:Prf},Prf.sz d p→∀x∈p.pre,∀l∈x.aG,(l.getD []).length<2^20
 |0,_,h=>h.elim
 |d+1,p,⟨h1,h2,h3,aE,ba⟩=>fun x hx=>by
  rw[Prf.gB] at hx;rcases cH.1 hx with rfl|hx
  ·exact aE
  ·obtain⟨q,hq,hx⟩:=gP.1 hx;exact Prf.JD (ba q hq) x hx
theorem sd{d n:Nat}{t:Prf}(h:t.dep≤d)(hn:2*d+4≤n)(U:af):bh U n (.ag (prC true t))=some (.ag (prC true t)):=Prf.snap U true d t n h hn
theorem Bc{d n:Nat}{a:Option (List Tm)}(h:∀t∈a.getD [],t.dep≤d)(hn:2*d+2≤n)(U:af):bh U n (cN true a)=some (cN true a):=by
 obtain⟨n,rfl⟩:∃m,n=m+1:=⟨n-1,by omega⟩
 exact rO (k:=n) fun x hx=>Tm.snap U true d x n (h x hx) (by omega)
theorem OP{d n:Nat}{a:Option (List Fm)}(h:∀t∈a.getD [],t.dep≤d)(hn:2*d+2≤n)(U:af):bh U n (dz true a)=some (dz true a):=by
 obtain⟨n,rfl⟩:∃m,n=m+1:=⟨n-1,by omega⟩
 exact rO (k:=n) fun x hx=>Fm.snap U true d x n (h x hx) (by omega)
theorem ES{d n:Nat}{a:Option (List Prf)}(h:∀t∈a.getD [],t.dep≤d)(hn:2*d+5≤n)(U:af):bh U n (cU true a)=some (cU true a):=by
 obtain⟨n,rfl⟩:∃m,n=m+1:=⟨n-1,by omega⟩
 exact rO (k:=n) fun x hx=>by rw[o3];exact Prf.snap U true d x n (h x hx) (by omega)
theorem Ya{a c:Option (List Prf)}(Yb:∀p∈a.getD [],∀q,prC true p=prC true q→p=q)(h:cU true a=cU true c):a=c:=by
 cases a with
 |none=>cases c with
  |none=>rfl
  |some c=>cases h
 |some a=>cases c with
  |none=>cases h
  |some c=>
   have hD:AV.a7 true (some 8) (a.map (Prf.A true))= .a7 true (some 8) (c.map (Prf.A true)):=h;injection hD with _ _ hD
   congr 1
   have hi:∀p∈a,∀q,prC true p=prC true q→p=q:=Yb;clear Yb h
   induction a generalizing c with
   |nil=>cases c with
    |nil=>rfl
    |cons _ _=>cases hD
   |cons p a aA=>cases c with
    |nil=>cases hD
    |cons q c=>
     rw[jK,jK] at hD;injection hD with h1 h2
     rw[o3,o3] at h1;injection h1 with h1
     rw[hi p (by simp) q h1,aA c h2 fun p hp=>hi p (e9 _ hp)]
theorem Yc{α:Type}{f:α→α→Bool}:∀ {l:List α},gb f l l=true→∀x∈l,f x x=true
 |[],_,_,h=>by cases h
 |x::l,h,y,aw=>by
  have h:cond (f x x) (gb f l l) false=true:=h;cases hf:f x x with
  |false=>rw[hf] at h;cases h
  |true=>
   rw[hf,cond_true] at h;rcases cH.1 aw with rfl|aw
   ·exact hf
   ·exact Yc h y aw
theorem Bd{a c:Option (List Int)}(h:b5 true a=b5 true c):a=c:=by
 cases a with
 |none=>cases c with
  |none=>rfl
  |some c=>cases h
 |some a=>cases c with
  |none=>cases h
  |some c=>
   have h:AV.a7 true none (a.map zI)= .a7 true none (c.map zI):=h;injection h with _ _ h
   rw[(MV (f:=zI) fun x y h=>by injection h).1 h]
theorem Yd{a c:kb}(h:cO true a=cO true c):a=c:=by
 cases a with
 |none=>cases c with
  |none=>rfl
  |some c=>cases h
 |some a=>cases c with
  |none=>cases h
  |some c=>
   have h:AV.a7 true none (a.map (b5 true))= .a7 true none (c.map (b5 true)):=h;injection h with _ _ h
   rw[(MV (f:=b5 true) fun x y h=>Bd h).1 h]
theorem OQ:∀(d:Nat) (p q:Prf),p.dep≤d→prC true p=prC true q→p=q
 |0,p,_,h,_=>by have:=Prf.gJ p;omega
 |d+1,p,q,au,h=>by
  simp only[pw,and_true] at h;obtain⟨h1,h2,h3,aE,ba,cr,de,fi⟩:=h;have aM:p.rule=q.rule:=by injection h1
  have e2:p.form=q.form:=M4 (by show AV.ag [_,_,_,_]= .ag [_,_,_,_];rw[h2,h3,aE,ba]);have dn:p.aY=q.aY:=by injection cr
  have fe:p.bm=q.bm:=Ya (fun x hx y=>OQ d x y (by have:=Prf.jE (p:=p) hx;omega)) de;have kq:p.cv=q.cv:=Yd fi;obtain⟨r,F,l,s,m⟩:=p;obtain⟨bs,c3W,cF,jB,aH⟩:=q;simp only[Prf.rule,Prf.form,Prf.aY,Prf.bm,Prf.cv] at aM e2 dn fe kq;subst aM e2 dn fe kq;rfl
theorem ou{p q:Prf}(h:(AV.ag (prC true p))= .ag (prC true q)):p=q:=by injection h with h;exact OQ p.dep p q (o _) h
theorem b4f{a c:Option (List Prf)}(h:cU true a=cU true c):a=c:=Ya (fun p _ q h=>OQ p.dep p q (o _) h) h
theorem ET{n:Nat}(l:Option (List Int)):fx (n+2) (b5 false l):=by
 cases l with
 |none=>exact .nil
 |some l=>exact .a7 (n:=n+1) fun x hx=>by obtain⟨z,_,rfl⟩:=bQ.1 hx;exact⟨fun y aw=>by rw[d_.1 (show y∈[zI z] from aw)];rfl,od rfl⟩
theorem OR{n:Nat}(m:kb):fx (n+3) (cO false m):=by
 cases m with
 |none=>exact .nil
 |some m=>
  refine .a7 (n:=n+2) fun x hx=>?_;obtain⟨l,_,rfl⟩:=bQ.1 hx;refine⟨fun y aw=>?_,(ET l).2⟩;rw[(iI false l).1,d_] at aw;rw[aw];exact(ET l).1
theorem Be:∀(d:Nat) (p:Prf),p.dep≤d→∀n,2*d+4≤n→fx n (.ag (prC false p))
 |0,p,h,_,_=>by have:=Prf.gJ p;omega
 |d+1,p,h,n,hn=>by
  obtain⟨k,rfl⟩:∃k,n=k+5:=⟨n-5,by omega⟩
  have hf:=p.tl;have e3:=(wz p.form.dep p.form (o _) (k+5) (by omega)).wv;have b4g:∀x∈tj p.form,AV.eqb (k+4) x x=true:=fun x hx=>by
   have:=(wz p.form.dep p.form (o _) (k+5) (by omega)).2;have h2:gb (AV.eqb (k+4)) (tj p.form) (tj p.form)=true:=this;exact Yc h2 x hx
  refine .ag (n:=k+4) fun y aw=>?_;simp only[cH,nP,or_false] at aw;have Ye:∀y∈tj p.form,fx (k+4) y:=fun y aw=>⟨e3 y aw,b4g y aw⟩
  rcases aw with rfl|rfl|rfl|rfl|rfl|rfl|rfl|rfl
  ·exact .leaf rfl rfl
  ·exact .leaf rfl rfl
  ·exact .leaf rfl rfl
  ·exact Ye _ (by simp[tj])
  ·exact Ye _ (by simp[tj])
  ·exact .leaf rfl rfl
  ·cases ab:p.bm with
   |none=>exact .nil
   |some l=>
    have hu:∀u∈l,u.dep≤d:=fun u hu=>by
     have:u∈p.sub:=by show u∈p.bm.getD [];rw[ab];exact hu
     have:=Prf.jE this;omega
    refine .a7 (n:=k+3) fun x hx=>?_;obtain⟨u,mi,rfl⟩:=bQ.1 hx;rw[o3];exact⟨(Be d u (hu u mi) (k+4) (by omega)).wv,(Be d u (hu u mi) (k+3) (by omega)).2⟩
  ·exact OR _
theorem Tm.u_(t:Tm):t.nz.args=t.args.map Tm.nz:=by rw[Tm.hd];exact js _
theorem Fm.u_(t:Fm):t.nz.args=t.args.map Tm.nz:=by rw[Fm.hd];exact js _
theorem Fm.JE(t:Fm):t.nz.sub=t.sub.map Fm.nz:=by rw[Fm.hd];exact js _
theorem Tm.va:∀(d:Nat) (t:Tm),t.dep≤d→t.nz.dep≤d
 |0,t,h=>by rw[Tm.gJ] at h;omega
 |d+1,t,h=>by
  rw[Tm.gJ,Tm.u_];have:=Tm.pP (d:=d) (l:=t.args.map Tm.nz) fun u hu=>by
   obtain⟨v,av,rfl⟩:=bQ.1 hu;exact Tm.va d v (by have:=Tm.pI av;omega)
  omega
theorem Fm.va:∀(d:Nat) (t:Fm),t.dep≤d→t.nz.dep≤d
 |0,t,h=>by rw[Fm.gJ] at h;omega
 |d+1,t,h=>by
  rw[Fm.gJ,Fm.u_,Fm.JE];have:=Tm.pP (d:=d) (l:=t.args.map Tm.nz) fun u hu=>by
   obtain⟨v,av,rfl⟩:=bQ.1 hu;exact Tm.va d v (by have:=Fm.pI av;omega)
  have:=Fm.pP (d:=d) (l:=t.sub.map Fm.nz) fun u hu=>by
   obtain⟨v,av,rfl⟩:=bQ.1 hu;exact Fm.va d v (by have:=Fm.jE av;omega)
  omega
theorem b4h{a c:Option (List Fm)}(h:dz true a=dz true c):a=c:=by
 cases a with
 |none=>cases c with
  |none=>rfl
  |some c=>cases h
 |some a=>cases c with
  |none=>cases h
  |some c=>
   have h:AV.a7 true (some 4) (a.map (Fm.A true))= .a7 true (some 4) (c.map (Fm.A true)):=h;injection h with _ _ h
   rw[(MV (f:=Fm.A true) fun x y h=>Fm.Uj (J:=true) h).1 h]
theorem b4i(a:kb):slA false none ((a.getD []).map fun t=>b5 false (jX t))=cO false (qR a):=by
 unfold cO qR;rw[uM,eK];rfl
theorem Yf(a:Option (List Prf)):slA false (some 8) ((a.getD []).map fun t=>.ag (prC false t.nz))=cU false (cM ((a.getD []).map Prf.nz)):=by
 unfold cU;rw[uM,eK]
 congr 1
 exact gl fun q _=>(o3 false q.nz).symm
theorem OS:∀(d:Nat) (p:Prf),p.dep≤d→p.nz.dep≤d
 |0,p,h=>by have:=Prf.gJ p;omega
 |d+1,p,h=>by
  have hf:=p.tl;rw[Prf.gJ,Prf.wQ,Prf.mF];have h1:=Fm.va d p.form (by omega);have h2:=Prf.pP (d:=d) (l:=p.sub.map Prf.nz) fun u hu=>by
   obtain⟨q,hq,rfl⟩:=bQ.1 hu;exact OS d q (by have:=Prf.jE hq;omega)
  omega
def b4j:eE:=⟨we,Tm,fun t=>[.ag (dK true t)],fun t=>.ag (dK false t.nz),fun x y h=>by rw[a9k (l1 h)]⟩
def b4k:eE:=⟨s9,Option (List Tm),fun a=>[cN true a],fun a=>slA false (some 3) ((a.getD []).map fun t=>.ag (dK false t.nz)),fun x y h=>by rw[G6 (l1 h)]⟩
def b4l:eE:=⟨rU,Fm,fun t=>[.ag (dG t)],fun t=>.ag (jW t.nz),fun x y h=>by rw[M4 (l1 h)]⟩
def b4m:eE:=⟨ya,Option (List Fm),fun a=>[dz true a],fun a=>slA false (some 4) ((a.getD []).map fun t=>.ag (jW t.nz)),fun x y h=>by rw[b4h (l1 h)]⟩
def b4n:eE:=⟨x_,Option (List Int),fun a=>[b5 true a],fun a=>b5 false (jX a),fun x y h=>by rw[Bd (l1 h)]⟩
def b4o:eE:=⟨x9,kb,fun a=>[cO true a],fun a=>cO false (qR a),fun x y h=>by rw[Yd (l1 h)]⟩
def b4p:eE:=⟨m2,Prf,fun p=>[.ag (prC true p)],fun p=>.ag (prC false p.nz),fun x y h=>by rw[ou (l1 h)]⟩
def b4q:eE:=⟨x8,Option (List Prf),fun a=>[cU true a],fun a=>cU false (cM ((a.getD []).map Prf.nz)),fun x y h=>by rw[b4f (l1 h)]⟩
def Yg:List eE:=[b4j,b4k,b4l,b4m,b4n,b4o,b4p,b4q]
theorem b4r:Yg.map eE.g=[we,s9,rU,ya,x_,x9,m2,x8]:=rfl
abbrev kU(P:Program)(b:dW):=eX P b Yg
structure vb(b:dW):Prop where
 t:gA b we HO
 ts:gA b s9 HB
 f:gA b rU Hi
 fs:gA b ya HC
 i:gA b x_ HD
 m:gA b x9 Hk
 p:gA b m2 jF
 ps:gA b x8 Hj
theorem OT(n:Nat){ad:Option Nat}{l:List AV}(h:∀x∈l,(∀y∈x.cells,ks n y=true)∧AV.eqb n x x=true):fx (n+1) (slA false ad l):=fx.ak h
section
variable {P:Program}{b:dW}(hb:oX P b)(aU:vb b)
theorem kU.fn:∀g aR r bs,kU P b g aR r→kU P b g aR bs→r=bs:=eX.fn (by rw[b4r];decide)
include hb aU
theorem Yh{d:Nat}(au:d≤400)(aA:∀t:Tm,Tm.sz kh d t→kU P b we [.ag (dK true t)] (.ag (dK false t.nz)))(a:Option (List Tm))(ar:(a.getD []).length<2^20)(aj:∀t∈a.getD [],Tm.sz kh d t):kU P b s9 [cN true a] (slA false (some 3) ((a.getD []).map fun t=>.ag (dK false t.nz))):=by
 have al:∀n,2*d+2≤n→fx (n+1) (slA false (some 3) ((a.getD []).map fun t=>.ag (dK false t.nz))):=fun n hn=>OT n fun x hx=>by
  obtain⟨t,ht,rfl⟩:=bQ.1 hx;have kB:=Tm.va d t (Tm.eY (aj t ht));exact⟨(wy d _ kB (n+1) (by omega)).wv,(wy d _ kB n (by omega)).2⟩
 exact eP 1 rfl a rfl rfl rfl (gQ hb eX.ok _ aU.ts.1 rfl rfl rfl (al (2*d+2) (o _)).1 (al 999 (by omega)).2
  (a9p kU.fn a ar (fun t ht U=>M5 (Tm.eY (aj t ht)) (by omega) U) aU.t.2 (fun t ht=>aA t (aj t ht)) _ rfl))
theorem Yi:∀(d:Nat) (t:Tm),d≤400→Tm.sz kh d t→kU P b we [.ag (dK true t)] (.ag (dK false t.nz))
 |0,_,_,h=>h.elim
 |d+1,t,au,h=>by
  have kB:=Tm.va (d+1) t (Tm.eY h);have aj:∀u∈t.args,u.dep≤d:=fun u hu=>Tm.eY (h.2.2 u hu);exact eP 0 rfl t rfl rfl rfl (gQ hb eX.ok _ aU.t.1 rfl rfl rfl (wy (d+1) _ kB (2*d+3) (by omega)).1 (wy (d+1) _ kB 1000 (by omega)).2
   (a9q kU.fn t (fun U=>Bc aj (by omega) U) aU.ts.2 (Yh hb aU (d:=d) (by omega) (fun t ht=>Yi d t (by omega) ht) t.c3 h.1 h.2.2) _ rfl))
theorem b4s{d:Nat}(au:d≤400)(aA:∀t:Fm,Fm.sz kh d t→kU P b rU [.ag (dG t)] (.ag (jW t.nz)))(a:Option (List Fm))(ar:(a.getD []).length<2^20)(aj:∀t∈a.getD [],Fm.sz kh d t):kU P b ya [dz true a] (slA false (some 4) ((a.getD []).map fun t=>.ag (jW t.nz))):=by
 have al:∀n,2*d+2≤n→fx (n+1) (slA false (some 4) ((a.getD []).map fun t=>.ag (jW t.nz))):=fun n hn=>OT n fun x hx=>by
  obtain⟨t,ht,rfl⟩:=bQ.1 hx;have kB:=Fm.va d t (Fm.eY (aj t ht));exact⟨(wz d _ kB (n+1) (by omega)).wv,(wz d _ kB n (by omega)).2⟩
 exact eP 3 rfl a rfl rfl rfl (gQ hb eX.ok _ aU.fs.1 rfl rfl rfl (al (2*d+2) (o _)).1 (al 999 (by omega)).2
  (a9r kU.fn a ar (fun t ht U=>tk (Fm.eY (aj t ht)) (by omega) U) aU.f.2 (fun t ht=>aA t (aj t ht)) _ rfl))
theorem Yj:∀(d:Nat) (t:Fm),d≤400→Fm.sz kh d t→kU P b rU [.ag (dG t)] (.ag (jW t.nz))
 |0,_,_,h=>h.elim
 |d+1,t,au,h=>by
  have kB:=Fm.va (d+1) t (Fm.eY h);have aj:∀u∈t.args,u.dep≤d:=fun u hu=>Tm.eY (h.2.2.1 u hu);have eN:∀u∈t.sub,u.dep≤d:=fun u hu=>Fm.eY (h.2.2.2 u hu);exact eP 2 rfl t rfl rfl rfl (gQ hb eX.ok _ aU.f.1 rfl rfl rfl (wz (d+1) _ kB (2*d+3) (by omega)).1 (wz (d+1) _ kB 1000 (by omega)).2
   (a9s kU.fn t (fun U=>Bc aj (by omega) U) (fun U=>OP eN (by omega) U) aU.ts.2 (Yh hb aU (d:=d) (by omega) (fun t ht=>Yi hb aU d t (by omega) ht) t.c3 h.1 h.2.2.1) aU.fs.2 (b4s hb aU (d:=d) (by omega) (fun t ht=>Yj d t (by omega) ht) t.bm h.2.1 h.2.2.2) _ rfl))
theorem b4t(a:Option (List Int))(ar:(a.getD []).length<2^20):kU P b x_ [b5 true a] (b5 false (jX a)):=
 eP 4 rfl a rfl rfl rfl (gQ hb eX.ok _ aU.i.1 rfl rfl rfl (ET (n:=998) _).1 (ET (n:=998) _).2 (a9Z (K:=kU P b) a (by omega) _ rfl))
theorem b4u(a:kb)(ar:(a.getD []).length<2^20)(hl2:∀l∈a.getD [],(l.getD []).length<2^20):kU P b x9 [cO true a] (cO false (qR a)):=
 eP 5 rfl a rfl rfl rfl (gQ hb eX.ok _ aU.m.1 rfl rfl rfl (OR (n:=997) _).1 (OR (n:=997) _).2 (by
  have:=a9z (b:=b) kU.fn a ar (fun t _ U=>rX (k:=b.aV+998) true t) aU.i.2 (fun t ht=>b4t hb aU t (hl2 t ht)) _ rfl;rwa[b4i] at this))
theorem b4v{d:Nat}(au:d≤400)(aA:∀t:Prf,Prf.sz d t→kU P b m2 [.ag (prC true t)] (.ag (prC false t.nz)))(a:Option (List Prf))(ar:(a.getD []).length<2^20)(aj:∀t∈a.getD [],Prf.sz d t):kU P b x8 [cU true a] (cU false (cM ((a.getD []).map Prf.nz))):=by
 have al:∀n,2*d+5≤n→fx (n+1) (slA false (some 8) ((a.getD []).map fun t=>.ag (prC false t.nz))):=fun n hn=>OT n fun x hx=>by
  obtain⟨t,ht,rfl⟩:=bQ.1 hx;have kB:=OS d t (Prf.eY (aj t ht));exact⟨(Be d _ kB (n+1) (by omega)).wv,(Be d _ kB n (by omega)).2⟩
 rw[←Yf];exact eP 7 rfl a rfl rfl (Yf a).symm (gQ hb eX.ok _ aU.ps.1 rfl rfl rfl (al (2*d+5) (o _)).1 (al 999 (by omega)).2
  (a9y kU.fn a ar (fun t ht U=>sd (Prf.eY (aj t ht)) (by omega) U) aU.p.2 (fun t ht=>aA t (aj t ht)) _ rfl))
theorem Yk:∀(d:Nat) (p:Prf),d≤400→Prf.sz d p→kU P b m2 [.ag (prC true p)] (.ag (prC false p.nz))
 |0,_,_,h=>h.elim
 |d+1,p,au,h=>by
  have kB:=OS (d+1) p (Prf.eY h);obtain⟨h1,h2,h3,aE,ba⟩:=h;have aj:∀u∈p.sub,u.dep≤d:=fun u hu=>Prf.eY (ba u hu);exact eP 6 rfl p rfl rfl rfl (gQ hb eX.ok _ aU.p.1 rfl rfl rfl (Be (d+1) _ kB (2*d+6) (by omega)).1 (Be (d+1) _ kB 1000 (by omega)).2
   (a9H kU.fn p (fun U=>tk (Fm.eY h1) (by omega) U) (fun U=>ES aj (by omega) U) aU.f.2 (Yj hb aU d p.form (by omega) h1) aU.ps.2 (by
    have:=b4v hb aU (d:=d) (by omega) (fun t ht=>Yk d t (by omega) ht) p.bm h2 ba;rw[Prf.hd];exact this) aU.m.2 (by
    have:=b4u hb aU p.cv h3 aE;rw[Prf.hd];exact this) _ rfl))
end
theorem Tm.jc:∀(d:Nat) (t:Tm),Tm.sz kh d t.nz↔Tm.sz kh d t
 |0,t=>⟨fun h=>h.elim,fun h=>h.elim⟩
 |d+1,t=>by
  have e:t.nz.args=t.args.map Tm.nz:=Tm.u_ t;unfold Tm.sz;rw[e,aJ];exact and_congr zz (and_congr ⟨fun _ _=>trivial,fun _ _=>trivial⟩ ⟨fun h u hu=>(Tm.jc d u).1 (h _ (sl hu)),fun h u hu=>by obtain⟨w,hw,rfl⟩:=bQ.1 hu;exact(Tm.jc d w).2 (h w hw)⟩)
theorem Fm.jc:∀(d:Nat) (t:Fm),Fm.sz kh d t.nz↔Fm.sz kh d t
 |0,t=>⟨fun h=>h.elim,fun h=>h.elim⟩
 |d+1,t=>by
  unfold Fm.sz;rw[Fm.u_ t,Fm.JE t,aJ,aJ];exact and_congr zz (and_congr zz (and_congr ⟨fun h u hu=>(Tm.jc d u).1 (h _ (sl hu)),fun h u hu=>by obtain⟨w,hw,rfl⟩:=bQ.1 hu;exact(Tm.jc d w).2 (h w hw)⟩ ⟨fun h u hu=>(Fm.jc d u).1 (h _ (sl hu)),fun h u hu=>by obtain⟨w,hw,rfl⟩:=bQ.1 hu;exact(Fm.jc d w).2 (h w hw)⟩))
theorem Prf.jc:∀(d:Nat) (t:Prf),Prf.sz d t.nz↔Prf.sz d t
 |0,t=>⟨fun h=>h.elim,fun h=>h.elim⟩
 |d+1,t=>by
  unfold Prf.sz;rw[Prf.wQ,Prf.mF,Prf.sc,aJ,aJ];exact and_congr (Fm.jc d _) (and_congr zz (and_congr zz (and_congr ⟨fun h u hu=>by have:=h _ (sl hu);rwa[p5] at this,fun h u hu=>by obtain⟨w,hw,rfl⟩:=bQ.1 hu;rw[p5];exact h w hw⟩ ⟨fun h u hu=>(Prf.jc d u).1 (h _ (sl hu)),fun h u hu=>by obtain⟨w,hw,rfl⟩:=bQ.1 hu;exact(Prf.jc d w).2 (h w hw)⟩)))
def b4w:eE:=⟨wg,Tm×Tm,fun x=>[.ag (dK true x.1),.ag (dK true x.2)],fun _=>.b true,fun _ _ _=>rfl⟩
def b4x:eE:=⟨s7,Option (List Tm)×Option (List Tm),fun x=>[cN true x.1,cN true x.2],fun _=>.b true,fun _ _ _=>rfl⟩
def b4y:eE:=⟨rS,Fm×Fm,fun x=>[.ag (dG x.1),.ag (dG x.2)],fun _=>.b true,fun _ _ _=>rfl⟩
def b4z:eE:=⟨x6,Option (List Fm)×Option (List Fm),fun x=>[dz true x.1,dz true x.2],fun _=>.b true,fun _ _ _=>rfl⟩
def b4A:eE:=⟨x5,Option (List Int)×Option (List Int),fun x=>[b5 true x.1,b5 true x.2],fun _=>.b true,fun _ _ _=>rfl⟩
def b4B:eE:=⟨yc,kb×kb,fun x=>[cO true x.1,cO true x.2],fun _=>.b true,fun _ _ _=>rfl⟩
def b4C:eE:=⟨ka,Prf×Prf,fun x=>[.ag (prC true x.1),.ag (prC true x.2)],fun _=>.b true,fun _ _ _=>rfl⟩
def b4D:eE:=⟨yb,Option (List Prf)×Option (List Prf),fun x=>[cU true x.1,cU true x.2],fun _=>.b true,fun _ _ _=>rfl⟩
def Yl:List eE:=[b4w,b4x,b4y,b4z,b4A,b4B,b4C,b4D]
theorem b4E:Yl.map eE.g=[wg,s7,rS,x6,x5,yc,ka,yb]:=rfl
abbrev kC(P:Program)(b:dW):=eX P b Yl
structure vc(b:dW):Prop where
 t:gA b wg HQ
 ts:gA b s7 HK
 f:gA b rS Hv
 fs:gA b x6 HL
 i:gA b x5 Hh
 m:gA b yc Hx
 p:gA b ka Hf
 ps:gA b yb Hw
theorem wR{α β:Type}{f:α→β}{l m:List α}(h:l.map f=m.map f):l.length=m.length∧∀i (h1:i<l.length) (h2:i<m.length),f l[i]=f m[i]:=by
 have e:l.length=m.length:=by have:=congrArg List.length h;rwa[aJ,aJ] at this
 refine⟨e,fun i h1 h2=>?_⟩;have:=congrArg (fun x:List β=>x[i]?) h;simp only[kV,a9 h1,a9 h2,wj,a6] at this;exact this
section
variable {P:Program}{b:dW}(hb:oX P b)(aU:vc b)
theorem kC.fn:∀g aR r bs,kC P b g aR r→kC P b g aR bs→r=bs:=eX.fn (by rw[b4E];decide)
include hb aU
theorem Ym{d:Nat}(au:d≤400)(aA:∀t u:Tm,Tm.sz kh d t→Tm.sz kh d u→t.nz=u.nz→kC P b wg [.ag (dK true t),.ag (dK true u)] (.b true))(a c:Option (List Tm))(ar:(a.getD []).length<2^20)(aj:∀t∈a.getD [],Tm.sz kh d t)(eN:∀t∈c.getD [],Tm.sz kh d t)(h:(a.getD []).map Tm.nz=(c.getD []).map Tm.nz):kC P b s7 [cN true a,cN true c] (.b true):=
 eP 1 rfl (a,c) rfl rfl rfl (gQ hb eX.ok _ aU.ts.1 rfl rfl rfl (ai:=1) rfl rfl
  (a9u kC.fn a c ar (wR h).1 (fun t ht U=>M5 (Tm.eY (aj t ht)) (by omega) U) (fun t ht U=>M5 (Tm.eY (eN t ht)) (by omega) U) aU.t.2 (fun i h1 h2=>aA _ _ (aj _ (aS h1)) (eN _ (aS h2)) ((wR h).2 i h1 h2)) _ rfl))
theorem Yn:∀(d:Nat) (t u:Tm),d≤400→Tm.sz kh d t→Tm.sz kh d u→t.nz=u.nz→kC P b wg [.ag (dK true t),.ag (dK true u)] (.b true)
 |0,_,_,_,h,_,_=>h.elim
 |d+1,t,u,au,h,g,e=>by
  have aM:t.var=u.var∧t.name=u.name:=by rw[Tm.hd t,Tm.hd u] at e;injection e with aM e2;exact⟨aM,e2⟩
  have e2:t.args.map Tm.nz=u.args.map Tm.nz:=by rw[←Tm.u_,e,Tm.u_]
  have aj:∀w∈t.args,w.dep≤d:=fun w hw=>Tm.eY (h.2.2 w hw);have gs:∀w∈u.args,w.dep≤d:=fun w hw=>Tm.eY (g.2.2 w hw);exact eP 0 rfl (t,u) rfl rfl rfl (gQ hb eX.ok _ aU.t.1 rfl rfl rfl (ai:=1) rfl rfl
   (a9t kC.fn t u aM.1 aM.2 (fun U=>Bc aj (by omega) U) (fun U=>Bc gs (by omega) U) aU.ts.2 (Ym hb aU (d:=d) (by omega) (fun t u ht hu=>Yn d t u (by omega) ht hu) t.c3 u.c3 h.1 h.2.2 g.2.2 e2) _ rfl))
theorem b4F{d:Nat}(au:d≤400)(aA:∀t u:Fm,Fm.sz kh d t→Fm.sz kh d u→t.nz=u.nz→kC P b rS [.ag (dG t),.ag (dG u)] (.b true))(a c:Option (List Fm))(ar:(a.getD []).length<2^20)(aj:∀t∈a.getD [],Fm.sz kh d t)(eN:∀t∈c.getD [],Fm.sz kh d t)(h:(a.getD []).map Fm.nz=(c.getD []).map Fm.nz):kC P b x6 [dz true a,dz true c] (.b true):=
 eP 3 rfl (a,c) rfl rfl rfl (gQ hb eX.ok _ aU.fs.1 rfl rfl rfl (ai:=1) rfl rfl
  (a9v kC.fn a c ar (wR h).1 (fun t ht U=>tk (Fm.eY (aj t ht)) (by omega) U) (fun t ht U=>tk (Fm.eY (eN t ht)) (by omega) U) aU.f.2 (fun i h1 h2=>aA _ _ (aj _ (aS h1)) (eN _ (aS h2)) ((wR h).2 i h1 h2)) _ rfl))
theorem Yo:∀(d:Nat) (t u:Fm),d≤400→Fm.sz kh d t→Fm.sz kh d u→t.nz=u.nz→kC P b rS [.ag (dG t),.ag (dG u)] (.b true)
 |0,_,_,_,h,_,_=>h.elim
 |d+1,t,u,au,h,g,e=>by
  have aM:t.op=u.op∧t.name=u.name:=by rw[Fm.hd t,Fm.hd u] at e;injection e with aM e2;exact⟨aM,e2⟩
  have e2:t.args.map Tm.nz=u.args.map Tm.nz:=by rw[←Fm.u_,e,Fm.u_]
  have dn:t.sub.map Fm.nz=u.sub.map Fm.nz:=by rw[←Fm.JE,e,Fm.JE]
  have aj:∀w∈t.args,w.dep≤d:=fun w hw=>Tm.eY (h.2.2.1 w hw);have gs:∀w∈u.args,w.dep≤d:=fun w hw=>Tm.eY (g.2.2.1 w hw);have eN:∀w∈t.sub,w.dep≤d:=fun w hw=>Fm.eY (h.2.2.2 w hw);have b4G:∀w∈u.sub,w.dep≤d:=fun w hw=>Fm.eY (g.2.2.2 w hw);exact eP 2 rfl (t,u) rfl rfl rfl (gQ hb eX.ok _ aU.f.1 rfl rfl rfl (ai:=1) rfl rfl
   (a9w kC.fn t u aM.1 aM.2 (fun U=>Bc aj (by omega) U) (fun U=>Bc gs (by omega) U) (fun U=>OP eN (by omega) U) (fun U=>OP b4G (by omega) U) aU.ts.2 (Ym hb aU (d:=d) (by omega) (fun t u ht hu=>Yn hb aU d t u (by omega) ht hu) t.c3 u.c3 h.1 h.2.2.1 g.2.2.1 e2) aU.fs.2 (b4F hb aU (d:=d) (by omega) (fun t u ht hu=>Yo d t u (by omega) ht hu) t.bm u.bm h.2.1 h.2.2.2 g.2.2.2 dn) _ rfl))
theorem b4H(a c:Option (List Int))(ar:(a.getD []).length<2^20)(h:a.getD []=c.getD []):kC P b x5 [b5 true a,b5 true c] (.b true):=
 eP 4 rfl (a,c) rfl rfl rfl (gQ hb eX.ok _ aU.i.1 rfl rfl rfl (ai:=1) rfl rfl (a9D (K:=kC P b) a c ar h _ rfl))
theorem b4I(a c:kb)(ar:(a.getD []).length<2^20)(hl2:∀l∈a.getD [],(l.getD []).length<2^20)(h:((a.getD []).map fun x=>x.getD [])=(c.getD []).map fun x=>x.getD []):kC P b yc [cO true a,cO true c] (.b true):=
 eP 5 rfl (a,c) rfl rfl rfl (gQ hb eX.ok _ aU.m.1 rfl rfl rfl (ai:=1) rfl rfl (a9E kC.fn a c ar (wR h).1 (fun t _ U=>rX (k:=b.aV+998) true t) (fun t _ U=>rX (k:=b.aV+998) true t) aU.i.2 (fun i h1 h2=>b4H hb aU _ _ (hl2 _ (aS h1)) ((wR h).2 i h1 h2)) _ rfl))
theorem b4J{d:Nat}(au:d≤400)(aA:∀t u:Prf,Prf.sz d t→Prf.sz d u→t.nz=u.nz→kC P b ka [.ag (prC true t),.ag (prC true u)] (.b true))(a c:Option (List Prf))(ar:(a.getD []).length<2^20)(aj:∀t∈a.getD [],Prf.sz d t)(eN:∀t∈c.getD [],Prf.sz d t)(h:(a.getD []).map Prf.nz=(c.getD []).map Prf.nz):kC P b yb [cU true a,cU true c] (.b true):=
 eP 7 rfl (a,c) rfl rfl rfl (gQ hb eX.ok _ aU.ps.1 rfl rfl rfl (ai:=1) rfl rfl
  (a9F kC.fn a c ar (wR h).1 (fun t ht U=>sd (Prf.eY (aj t ht)) (by omega) U) (fun t ht U=>sd (Prf.eY (eN t ht)) (by omega) U) aU.p.2 (fun i h1 h2=>aA _ _ (aj _ (aS h1)) (eN _ (aS h2)) ((wR h).2 i h1 h2)) _ rfl))
theorem Yp:∀(d:Nat) (t u:Prf),d≤400→Prf.sz d t→Prf.sz d u→t.nz=u.nz→kC P b ka [.ag (prC true t),.ag (prC true u)] (.b true)
 |0,_,_,_,h,_,_=>h.elim
 |d+1,t,u,au,h,g,e=>by
  obtain⟨aM,e2,dn,fe,kq⟩:=b3V e;obtain⟨h1,h2,h3,aE,ba⟩:=h;obtain⟨bM,b4,dy,e0,ft⟩:=g;have aj:∀w∈t.sub,w.dep≤d:=fun w hw=>Prf.eY (ba w hw);have gs:∀w∈u.sub,w.dep≤d:=fun w hw=>Prf.eY (ft w hw);exact eP 6 rfl (t,u) rfl rfl rfl (gQ hb eX.ok _ aU.p.1 rfl rfl rfl (ai:=1) rfl rfl
   (a9G kC.fn t u aM dn (fun U=>tk (Fm.eY h1) (by omega) U) (fun U=>tk (Fm.eY bM) (by omega) U) (fun U=>ES aj (by omega) U) (fun U=>ES gs (by omega) U) aU.f.2 (Yo hb aU d t.form u.form (by omega) h1 bM e2)
    aU.ps.2 (b4J hb aU (d:=d) (by omega) (fun t u ht hu=>Yp d t u (by omega) ht hu) t.bm u.bm h2 ba ft fe) aU.m.2 (b4I hb aU t.cv u.cv h3 aE kq) _ rfl))
theorem b4K{d:Nat}(au:d≤400){u v:Prf}(h:Prf.sz d u)(e:u.nz=v.nz):kC P b ka [.ag (prC true u),.ag (prC true v)] (.b true):=
 Yp hb aU d u v au h ((Prf.jc d v).1 (by rw[←e];exact(Prf.jc d u).2 h)) e
end
end
section
variable [Tok][TokOk]
open Go.RowKit Go.Lyc.T
attribute [local irreducible] bL bl e6 eB b9
def lI(U:af)(P:Nat→Prop)(m:Nat)(x y:AV):Prop:=∀k,m≤k→∀a5:af,(∀i J,P i→U.get i=some J→a5.get i=some J)→bh a5 k x=some y
theorem lI.aF{I U:af}{P gY:Nat→Prop}{m aH:Nat}{x y:AV}(h:lI I P m x y)(hm:m≤aH)(k:∀i J,P i→I.get i=some J→U.get i=some J∧gY i):lI U gY aH x y:=fun n hn a5 aD=>h n (by omega) a5 fun i J hp ab=>aD i J (k i J hp ab).2 (k i J hp ab).1
theorem lI.now{I:af}{P:Nat→Prop}{m n:Nat}{x y:AV}(h:lI I P m x y)(hm:m≤n):bh I n x=some y:=h n hm I fun _ _ _ ab=>ab
theorem gj.rd{I:af}{ad:Option Nat}{v:AV}{xs:List AV}(h:gj I ad v xs):fu I ad v xs:=by
 cases xs with
 |nil=>rw[h.2 rfl];exact .nil
 |cons x xs=>exact .ak v x xs h.1
theorem gj.yY{I:af}{ad:Option Nat}{v:AV}{xs aO:List AV}{m:Nat}(h:gj I ad v xs)(hm:mapO (bh I m) xs=some aO):bh I (m+1) v=some (slA true ad aO):=h.rd.snap hm
theorem m8.snap{B:Nat}{U:af}{w:AV}{L:List (List AV)}{n:Nat}(h:m8 B U w L)(hx:∀l∈L,∀x∈l,∀U:af,bh U (n+1) x=some x):bh U (n+3) w=some (slA true none (L.map fun l=>slA true none l)):=by
 obtain⟨us,h1,h2,h3,ba,aE⟩:=h.ex;refine gj.yY ⟨h2,fun e=>h3 (l0.1 (by rw[←h1,e];rfl))⟩ (Ay (by rw[aJ,h1]) fun i a c=>?_);rw[fQ];have hi:i<L.length:=by rw[←h1];exact a
 exact(aE i a hi).1.yY (z8 fun x hm=>hx _ (aS hi) x hm U)
theorem OU{U:af}{k:Nat}{r:List Nat}{F:Fm}{n:Int}{s m jB aH:AV}(e3:2*F.dep+2≤k)(aj:bh U k s=some jB)(hm:bh U k m=some aH):bh U (k+1) (.ag (eQ r F (zI n) s m))=some (.ag (eQ r F (zI n) jB aH)):=by
 refine uF ?_;obtain⟨aM,e2⟩:=M8 (I:=U) (k:=k) true F e3;obtain⟨k,rfl⟩:∃j,k=j+1:=⟨k-1,by omega⟩
 rw[mapO_cons,mapO_cons,mapO_cons,mapO_cons,mapO_cons,mapO_cons,mapO_cons,mapO_cons,aM,e2,aj,hm];rfl
theorem Yq(r:List Nat)(F:Fm)(n:Int)(S:List Prf)(M:List (List Int)):prC true (.mk r F n (cM S) (cM (M.map cM)))=eQ r F (zI n) (slA true (some 8) (S.map fun q=>.ag (prC true q))) (slA true none (M.map fun l=>slA true none (l.map zI))):=by
 have pE:cU true (cM S)=slA true (some 8) (S.map fun q=>.ag (prC true q)):=by
  unfold cU;rw[uM]
  congr 1
  exact gl fun q _=>o3 true _
 have ux:cO true (cM (M.map cM))=slA true none (M.map fun l=>slA true none (l.map zI)):=by
  unfold cO;rw[uM,eK]
  congr 1
  refine gl fun x _=>?_;show b5 true (cM x)=_;rw[←DT]
 show[_,_,_,_,_,_,cU true (cM S),cO true (cM (M.map cM))]=_;rw[pE,ux];rfl
section
variable {b:dW}{K:Nat→List AV→AV→Prop}
theorem Yr(hfn:∀g aR r bs,K g aR r→K g aR bs→r=bs)(hh:cY (b.a4 K) H9 MC)(e:b.ext rW=0∧b.pure rW=true){l:List Int}(ar:l.length<2^40)(cl:∀n:Int,K rW [slA true none (l.map zI),zI n] (ay (fj l n))):∀(d:Nat) (p:Prf),d≤400→Prf.sz d p→∀(tK:AV) (I:af),pU I tK l→
  b9 (b.a4 K) 0 (.f (.func H9) [] []) [.ag (prC true p),tK] I (fun r U=>∃c,r= .ok (.ag c)∧c.length=8∧b2 I U∧lI U (fun i=>I.next≤i∧i<U.next) (2*d+4) (.ag c) (.ag (prC true (rnX (fj l) p))))
 |0,_,_,h,_,_,_=>h.elim
 |d+1,p,au,bV,tK,I,hC=>by
  have aA:=Yr hfn hh e ar cl d;have u6:=bV;obtain⟨s1,s2,iq,ee,mE⟩:=bV;have es:(p.bm.getD []).length=p.sub.length:=rfl;have em:(p.cv.getD []).length=p.aG.length:=rfl;have Ys:∀U:af,(∀i J,I.get i=some J→U.get i=some J)→pU U tK l:=fun U k=>⟨hC.1.aF fun i J _ ab=>k i J ab,hC.2⟩
  have Ix:∀U:af,(∀i J,I.get i=some J→U.get i=some J)→bh U (b.aV+1000) tK=some (slA true none (l.map zI)):=fun U k=>(Ys U k).snap (m:=b.aV+998);refine W.qQ hh.e hh.p hh.f rfl rfl rfl fun z=>?_;have H:Has I []:=Has.nil;generalize hl:I.next=s;refine ae ?_;refine W.en (c:=prC true p) H hl rfl rfl rfl (dQ true p).1 (dQ true p).2.1 fun fZ cG H bE=>?_;refine ae ?_;refine W.bN (c:=dm) H cG rfl rfl rfl fun b1 n2 H br=>?_;refine ae ?_;refine W.lZ (c:=prC true p) (v:=.ag (dG p.form)) H rfl rfl rfl (.tail _ (.head _)) rfl (pV (I:=b1) _ _ _ (tk (n:=b.aV+1000) (Fm.eY s1) (by omega) b1)) ?_;refine ae ?_;refine W.bN (c:=dm) H n2 rfl rfl rfl fun bd eh H bb=>?_;refine ae ?_;have A8:∀i J,I.get i=some J→bd.get i=some J:=fun i J ab=>bb _ _ (br _ _ (bE _ _ ab));refine W.cg hfn e (cl p.aY) rfl rfl rfl (g9 (Ix _ A8) rfl) ?_;refine ae ?_;refine W.st (aQ:=eQ p.rule p.form (ay (fj l p.aY)) .aB .aB) H 0 rfl rfl rfl rfl (b0a rfl rfl).2 rfl fun bG gU H cm=>?_;refine ae ?_;have Np:bG.get s=some (.cells (prC true p)):=H.get _ (.tail _ (.tail _ (.head _)));have xJ:bG.get (s+1)=some (.cells dm):=H.get _ (.tail _ (.head _));have nq:bG.get (s+2)=some (.cells (eQ p.rule p.form (ay (fj l p.aY)) .aB .aB)):=H.get _ (.head _);have mR:s+3≤bG.next:=by omega
  have gu:b2 I bG:=⟨by omega,fun i J ab=>cm _ _ (by have:=af.bW ab;omega) (A8 _ _ ab)⟩
  generalize vv:ay (fj l p.aY)=nl at *;clear H bE br bb cm cG n2 eh gU A8;show bl _ _ _ _ _ _ _ _;refine GoF.block (GoF.loop (fun q F U=>∃j w,j+q=p.aG.length∧m8 (s+3) U w ((p.aG.take j).map fun m=>(m.getD []).map fun n=>ay (fj l n))∧s+3≤U.next∧b2 I U∧U.get s=some (.cells (prC true p))∧U.get (s+1)=some (.cells dm)∧U.get (s+2)=some (.cells (eQ p.rule p.form nl .aB w))∧sat [(1,tK),(2,bo s),(4,bo (s+1)),(5,bo (s+2)),(6,ay j)] F) (fun q F U aZ=>?_) p.aG.length ⟨0,.aB,by omega,.nil,mR,gu,Np,xJ,nq,rfl,rfl,rfl,rfl,rfl,trivial⟩)
  ·obtain⟨j,w,az,hw,hn,lJ,hp,al,ab,aX⟩:=aZ;refine GoF.norm _ aX fun F=>?_;clear aX;have H:Has U [(s,prC true p),(s+1,dm),(s+2,eQ p.rule p.form nl .aB w)]:=((Has.nil.cons ab (by simp)).cons al (by simp)).cons hp (by simp);by_cases bS:j<p.aG.length
   ·have yr:j<(p.cv.getD []).length:=bS;have cV:=fG bS;have hm:=aS bS;have gX:∀J,idxSlA none (cO J p.cv) j=some (.cZ J (b5 J p.aG[j])):=fun J=>pR yr;generalize p.aG[j]=m at cV hm gX;have k9:=ee m hm;refine ae ?_;refine W.len rfl rfl rfl kc ?_;refine ae ?_;refine GoF.block (GoF.loop (fun q' F a5=>∃i u,i+q'=(m.getD []).length∧gj a5 none u (((m.getD []).take i).map fun n=>ay (fj l n))∧(∀J,u.bn =some J→U.next≤J)∧b2 U a5∧sat [(1,tK),(2,bo s),(4,bo (s+1)),(5,bo (s+2)),(6,ay j),(7,u),(8,ay i)] F) (fun q' F a5 aZ=>?_) (m.getD []).length ⟨0,.aB,by omega,.nil,(fun J ab=>by cases ab),b2.refl,rfl,rfl,rfl,rfl,rfl,rfl,rfl,trivial⟩);obtain⟨i,u,hi,hu,vd,M,aX⟩:=aZ;refine GoF.norm _ aX fun F=>?_;clear aX;have H:=H.aF M.2;by_cases j6:i<(m.getD []).length
    ·have m7:∀J,idxSlA none (b5 J m) i=some (.cZ J (zI (m.getD [])[i])):=fun J=>qS j6;have lB:=fG j6;generalize(m.getD [])[i]=x at m7 lB;refine ae ?_;refine W.cw rfl rfl rfl rfl (gX _) ?_;refine ae ?_
     try (refine W.iG (ad:=none) rfl rfl rfl (iI _ _).2 ?_;refine ae ?_)
     refine W.len rfl rfl rfl ly ?_;refine ae ?_;refine W.cw rfl rfl rfl rfl (gX _) ?_;refine ae ?_
     try (refine W.iG (ad:=none) rfl rfl rfl (iI _ _).2 ?_;refine ae ?_)
     refine W.cw rfl rfl rfl rfl (m7 _) ?_;refine ae ?_;refine W.cg hfn e (cl x) rfl rfl rfl (g9 (Ix _ fun i J ab=>M.2 _ _ (lJ.2 _ _ ab)) rfl) ?_;refine ae ?_;refine W.pu (ay (fj l x)) hu.1 rfl rfl rfl rfl rfl rfl rfl rfl rfl (by rw[aJ,eL];omega) fun v2 bd hR k_ oM n2 br=>?_;refine ae ?_;have lz:=M.1;refine⟨q'-1,by omega,i+1,v2,by omega,⟨by rw[lB,gK];exact hR,fun e=>by rw[lB,gK] at e;simp at e⟩,fun J ab=>by rw[k_] at ab;cases ab;omega,⟨by omega,fun a J ab=>br _ _ (fun iu=>by have:=vd a iu;have:=af.bW ab;omega) (M.2 _ _ ab)⟩,rfl,rfl,rfl,rfl,rfl,rfl,rfl,trivial⟩
    ·refine ae ?_;refine W.cw rfl rfl rfl rfl (gX _) ?_;refine ae ?_
     try (refine W.iG (ad:=none) rfl rfl rfl (iI _ _).2 ?_;refine ae ?_)
     refine W.len rfl rfl rfl ly ?_;refine ae ?_;refine GoF.exit ?_;show bl _ _ _ _ _ _ _ _;refine ae ?_;rw[j7 (by omega)] at hu;have lz:=M.1;obtain⟨us,kJ,oY,NU,b4L,Ej⟩:=(hw.aF fun i J _=>M.2 i J).ex;have yZ:u.cells=[u]∧u.val=true∧conf none u=true:=⟨hu.1.cells0,hu.1.Ik,hu.1.mx⟩
     refine W.pu u oY rfl rfl rfl (Is rfl ⟨yZ.1,yZ.2.1⟩) rfl yZ.2.2 rfl rfl rfl (by rw[kJ,aJ,eL];omega) fun bK bd jC k_ oM n2 br=>?_;have bx:∀J,u.bn =some J→s+3≤J∧w.bn ≠some J:=fun J ab=>⟨by have:=vd J ab;omega,fun e=>by have:=vd J ab;have:=hw.lt e;omega⟩
     have hY:=m8.push (x:=(m.getD []).map fun n=>ay (fj l n)) kJ Ej hu bx jC k_ (by omega) (by omega) br;have ew:∀c J,c<s+3→a5.get c=some J→bd.get c=some J:=fun c J ah ab=>br _ _ (fun e=>by have:=hw.at_ e;omega) ab;have H:Has bd [(s,prC true p),(s+1,dm),(s+2,eQ p.rule p.form nl .aB w)]:=((Has.nil.cons (ew _ _ (by omega) (H.get _ (.tail _ (.tail _ (.head _))))) (by simp)).cons (ew _ _ (by omega) (H.get _ (.tail _ (.head _)))) (by simp)).cons (ew _ _ (by omega) (H.get _ (.head _))) (by simp);refine ae ?_;refine W.st (aQ:=eQ p.rule p.form nl .aB bK) H 2 rfl rfl rfl rfl jC.mx (by rw[jC.cells0];rfl) fun cA gU H cm=>?_;refine ae ?_;refine⟨q-1,by omega,j+1,bK,by omega,?_,by omega,⟨by have:=lJ.1;omega,fun i J ab=>by have:=af.bW ab;exact cm _ _ (by omega) (ew _ _ (by omega) (M.2 _ _ (lJ.2 _ _ ab)))⟩,H.get _ (.head _),H.get _ (.tail _ (.head _)),H.get _ (.tail _ (.tail _ (.head _))),rfl,rfl,rfl,rfl,rfl,trivial⟩;rw[cV,gK];exact hY.aF fun a J ha ab=>cm _ _ (by omega) ab
   ·refine ae ?_;refine W.len rfl rfl rfl kc ?_;refine ae ?_;refine GoF.exit ?_;show bl _ _ _ _ _ _ _ _;rw[j7 (by omega)] at hw;refine GoF.norm [(1,tK),(2,bo s),(4,bo (s+1)),(5,bo (s+2))] ⟨rfl,rfl,rfl,rfl,trivial⟩ fun g=>?_;refine ae ?_;refine GoF.block (GoF.loop (fun q F a5=>∃j v xs,j+q=p.sub.length∧gj a5 (some 8) v xs∧xs.length=j∧(∀i (h:i<xs.length) (h':i<p.sub.length),∃aK hi,U.next≤aK∧hi≤a5.next∧(∀J,v.bn =some J→J<aK∨hi≤J)∧lI a5 (fun i=>aK≤i∧i<hi) (2*d+4) xs[i] (.ag (prC true (rnX (fj l) p.sub[i]))))∧(∀J,v.bn =some J→U.next≤J)∧(∀i J,i≠s+2→U.get i=some J→a5.get i=some J)∧U.next≤a5.next∧a5.get (s+2)=some (.cells (eQ p.rule p.form nl v w))∧sat [(1,tK),(2,bo s),(4,bo (s+1)),(5,bo (s+2)),(9,ay j)] F) (fun q F a5 aZ=>?_) p.sub.length ⟨0,.aB,[],by omega,.nil,rfl,(fun i h=>by simp at h),(fun J ab=>by cases ab),fun i J _ h=>h,o _,ab,rfl,rfl,rfl,rfl,rfl,trivial⟩);obtain⟨j,v,xs,az,av,j8,dj,i_,ca,g3,oV,aX⟩:=aZ;refine GoF.norm _ aX fun F=>?_;clear aX H;have mQ:=ca _ _ (by omega) hp;have mh:=ca _ _ (by omega) al;have Yt:∀i J,I.get i=some J→a5.get i=some J:=fun i J ab=>by have:=af.bW ab;exact ca _ _ (by omega) (lJ.2 _ _ ab)
    have H:Has a5 [(s,prC true p),(s+1,dm),(s+2,eQ p.rule p.form nl v w)]:=((Has.nil.cons oV (by simp)).cons mh (by simp)).cons mQ (by simp);by_cases bS:j<p.sub.length
    ·have hm:=aS bS;have c3X:∀i (h:i<j+1) (h':i<p.sub.length),i=j∨i<j:=fun i h h'=>by omega
     refine ae ?_;refine W.len rfl rfl rfl gR ?_;refine ae ?_;refine W.lZ (c:=eQ p.rule p.form nl v w) (v:=v) H rfl rfl rfl (.tail _ (.tail _ (.head _))) rfl (od av.1.lf) ?_;refine ae ?_;refine W.cw rfl rfl rfl rfl (nC bS) ?_;refine ae ?_;have cj:(p.bm.getD [])[j]=p.sub[j]:=rfl;rw[cj];generalize mG:p.sub[j]=x at hm
     try (refine W.iG (ad:=some 8) rfl rfl rfl rfl ?_;refine ae ?_)
     refine W.dX rfl rfl rfl (aA x (by omega) (mE _ hm) tK a5 (Ys _ Yt)) fun r b1 ⟨c,dA,se,lz,EU⟩=>⟨_,dA,?_⟩
     have H:=H.aF lz.2;obtain⟨bw,cQ,eA,ek,hT,jI,jF,kv,rfl⟩:=u9 se;generalize rl:b1.next=bE;refine ae ?_;refine W.fJ (c:=[bw,cQ,eA,ek,hT,jI,jF,kv]) H rl rfl rfl rfl fun bd n2 H br=>?_;refine W.now [(10,s+2,.cells (eQ p.rule p.form nl v w))] [] rfl rfl ⟨H.get (s+2,_) (.tail _ (.tail _ (.tail _ (.head _)))),trivial⟩ ?_;have hR:=av.1.aF (U:=bd) fun i J _ ab=>br i J (lz.2 _ _ ab);refine W.ap (.ag [bw,cQ,eA,ek,hT,jI,jF,kv]) [] hR (by show(match bd.get bE with|some (.cells c)=>elems (some 8) 1 (c.drop 0)|_=>none)=_;rw[H.get _ (.head _)];rfl) (fun z bg=>by rw[d_.1 bg];rfl) (by rw[j8];show(3*(_+1)+2000)*_≤_;omega) rfl rfl rfl rfl fun a2 bG tv ha _ eh bb=>?_;have EE:=lz.1;have ew:∀c J,c<s+3→a5.get c=some J→bG.get c=some J:=fun c J ah ab=>bb _ _ (fun e=>by have:=i_ c e;omega) (br _ _ (lz.2 _ _ ab));have H:Has bG [(s,prC true p),(s+1,dm),(s+2,eQ p.rule p.form nl v w)]:=((Has.nil.cons (ew _ _ (by omega) oV) (by simp)).cons (ew _ _ (by omega) mh) (by simp)).cons (ew _ _ (by omega) mQ) (by simp);refine ae ?_;refine W.st (aQ:=eQ p.rule p.form nl a2 w) H 2 rfl rfl rfl rfl tv.mx (by rw[tv.cells0];rfl) fun cA gU H cm=>?_;refine ae ?_;have OV:∀i J,i≠s+2→v.bn ≠some i→b1.get i=some J→cA.get i=some J:=fun i J h1 h2 ab=>cm _ _ h1 (bb _ _ h2 (br _ _ ab));have AH:∀J,v.bn =some J→J<a5.next:=fun J ab=>av.1.lt ab;refine⟨q-1,by omega,j+1,a2,xs++[.ag [bw,cQ,eA,ek,hT,jI,jF,kv]],by omega,⟨tv.aF fun i J hi ab=>cm _ _ (by rw[ha] at hi;cases hi;omega) ab,fun e=>by simp at e⟩,by simp[j8],fun i h h'=>?_,fun J ab=>by rw[ha] at ab;cases ab;omega,fun i J hi ab=>OV _ _ hi (fun e=>by have:=i_ i e;have:=af.bW ab;omega) (lz.2 _ _ (ca i J hi ab)),by omega,H.get _ (.tail _ (.tail _ (.head _))),rfl,rfl,rfl,rfl,rfl,trivial⟩;by_cases fw:i<xs.length
     ·obtain⟨aK,hi,aP,a0,bF,bU⟩:=dj i fw h';rw[jn fw];exact⟨aK,hi,aP,by omega,fun J ab=>by rw[ha] at ab;cases ab;omega,bU.aF (o _) fun t J ht ab=>⟨OV _ _ (by omega) (fun e=>by have:=bF _ e;omega) (lz.2 _ _ ab),ht⟩⟩
     ·have e:i=xs.length:=by rw[cR] at h;simp at h;omega
      subst e;refine⟨a5.next,b1.next,g3,by omega,fun J ab=>by rw[ha] at ab;cases ab;omega,?_⟩;rw[jG (o _)];simp only[kj,mJ];have ex:p.sub[xs.length]=x:=by rw[←mG];congr 1
      rw[ex];exact EU.aF (o _) fun t J ht ab=>⟨OV _ _ (by omega) (fun e=>by have:=AH _ e;omega) ab,ht⟩
    ·refine ae ?_;refine W.len rfl rfl rfl gR ?_;refine ae ?_;refine GoF.exit ?_;show bl _ _ _ _ _ _ _ _;refine ae ?_;refine W.st (aQ:=eQ p.rule p.form nl v w) H 1 rfl rfl rfl rfl rfl rfl fun cA gU H cm=>?_;refine ae ?_;refine GoF.ret ⟨rfl,_,cT (fR rfl (H.get _ (.tail _ (.head _))) rfl),eQ p.rule p.form nl v w,rfl,rfl,⟨by have:=lJ.1;omega,fun i J ab=>by have:=af.bW ab;exact cm _ _ (by omega) (Yt _ _ ab)⟩,?_⟩;have OW:m8 (s+3) cA w _:=hw.aF fun i J hi ab=>cm _ _ (by omega) (ca i J (by omega) ab);have y0:gj cA (some 8) v _:=av.aF fun i J hi ab=>cm _ _ (by have:=i_ i hi;omega) ab;intro k aD dk dN;obtain⟨k,rfl⟩:∃m,k=m+6:=⟨k-6,by omega⟩
     have EV:∀i J,cA.get i=some J→i<cA.next:=fun i J ab=>af.bW ab;have A3:m8 (s+3) dk w _:=OW.aF fun i J hi ab=>dN _ _ (by have:=EV _ _ ab;omega) ab;have EW:gj dk (some 8) v _:=y0.aF fun i J hi ab=>dN _ _ (by have:=i_ i hi;have:=EV _ _ ab;omega) ab;have f1:=A3.snap (n:=k+2) fun y aw x hx U=>by
      obtain⟨m,_,rfl⟩:=bQ.1 aw;obtain⟨n,_,rfl⟩:=bQ.1 hx;rfl
     have f2:=EW.yY (m:=k+4) (aO:=p.sub.map fun q=>.ag (prC true (rnX (fj l) q))) (Ay (by rw[aJ];omega) fun i a c=>by
      rw[fQ];rw[aJ] at c;obtain⟨aK,hi,aP,a0,bF,bU⟩:=dj i a c;exact bU _ (by omega) dk fun t J ht ab=>dN _ _ (by omega) (cm _ _ (by omega) ab))
     rw[Ba,← vv];have aM:cM (p.aG.map fun x=>cM ((x.getD []).map fun n=>(fj l n:Int)))=cM ((p.aG.map fun x=>(x.getD []).map fun n=>(fj l n:Int)).map cM):=by rw[eK];rfl
     rw[aM,Yq,eK,eK];rw[eK] at f1;have hf:=p.tl;have kB:=Prf.eY u6;have b4M:∀(L:List Int),(L.map fun n=>(fj l n:Int)).map zI=L.map fun n=>ay (fj l n):=fun L=>by rw[eK];rfl
     exact OU (n:=(fj l p.aY:Int)) (by omega) f2 (by rw[f1];congr 2;refine gl fun x _=>?_;show slA true none _=slA true none (((x.getD []).map fun n=>(fj l n:Int)).map zI);rw[b4M])
end
def tL(m:Nat)(I U:af)(r:dM)(m6:Nat)(v:Prf):Prop:=∃c,r= .ok (.bJ [.ag c,ay m6])∧c.length=8∧b2 I U∧lI U (fun i=>I.next≤i∧i<U.next) m (.ag c) (.ag (prC true v))
theorem b4N{U:af}{P:Nat→Prop}{m:Nat}(hm:3≤m):lI U P m (.ag dm) (.ag (prC true kA)):=fun k aD a5 _=>by
 obtain⟨k,rfl⟩:∃j,k=j+3:=⟨k-3,by omega⟩
 rfl
theorem tL.zero{m m6:Nat}{I U:af}(hm:3≤m)(h:b2 I U):tL m I U (.ok (.bJ [.ag dm,ay m6])) m6 kA:=⟨dm,rfl,rfl,h,b4N hm⟩
def sf(p:Prf):Nat×Prf:=cond (dH p) (cond (dh p&&decide ((iK p []).length≤999)) (0,rnX (fj (iK p [])) p) (2,kA)) (5,kA)
section
variable {b:dW}{K:Nat→List AV→AV→Prop}
theorem b4O(hfn:∀g aR r bs,K g aR r→K g aR bs→r=bs)(hh:cY (b.a4 K) Am x0)(hn:cY (b.a4 K) H9 MC)(cj:b.ext rW=0∧b.pure rW=true)(JF:∀(l:List Int) (n:Int),l.length<2^40→K rW [slA true none (l.map zI),zI n] (ay (fj l n))){d:Nat}(p:Prf)(au:d≤400)(bV:Prf.sz d p)(c4:∀x∈p.pre,qT b x)(aj:∀U:af,bh U (b.aV+1000) (.ag (prC true p))=some (.ag (prC true p)))(dJ:(bN p).length<2^40)
  (aM:b.ext qN=0∧b.pure qN=true) (y1:K qN [.ag (prC true p)] (.b (dH p))) (hm:cY (b.a4 K) DC Hq) (e:b.ext hU=0∧b.pure hU=true) (cl:∀(l:List Int) (n:Int),l.length<2^40→K hU [slA true none (l.map zI),zI n] (.b (decide (n∈l))))
  (e2:b.ext o1=0∧b.pure o1=true) (jo:dH p=true→K o1 [.ag (prC true p)] (.b (dh p))) (I:af):
  b9 (b.a4 K) 0 (.f (.func Am) [] []) [.ag (prC true p)] I (fun r U=>tL (2*d+4) I U r (sf p).1 (sf p).2):=by
 refine W.qQ hh.e hh.p hh.f rfl rfl rfl fun z=>?_;have H:Has I []:=Has.nil;generalize hl:I.next=s;refine ae ?_;refine W.en (c:=prC true p) H hl rfl rfl rfl (dQ true p).1 (dQ true p).2.1 fun fZ cG H bE=>?_;refine ae ?_;refine W.bN (c:=dm) H cG rfl rfl rfl fun b1 n2 H br=>?_;have lz:b2 I b1:=⟨by omega,fun i J ab=>br _ _ (bE _ _ ab)⟩
 have up:∀ {U a5:af},b2 I U→a5.next=U.next→(∀i J,i≠s+1→U.get i=some J→a5.get i=some J)→b2 I a5:=fun h hn aD=>⟨by have:=h.1;omega,fun i J ab=>aD _ _ (by have:=af.bW ab;omega) (h.2 _ _ ab)⟩
 refine ae ?_;refine W.cg hfn aM y1 rfl rfl rfl (gO (aj _)) ?_;refine ae ?_;unfold sf;cases h1:dH p with
 |false=>
  refine ae ?_;refine W.st (aQ:=dm) H 0 rfl rfl rfl rfl rfl rfl fun bd eh H bb=>?_;refine ae ?_;exact GoF.ret ⟨rfl,_,jV (fR rfl (H.get _ (.head _)) rfl) (cI rfl),.zero (by omega) (up lz eh bb)⟩
 |true=>
 refine ae ?_;refine W.dX rfl rfl rfl (Vq hfn hm e cl p.cJ p (o _) c4 (I:=b1) (v:=.aB) (l:=[]) ⟨.nil,fun _=>rfl⟩ (by simpa using dJ)) fun r bd ⟨w,dA,hw,eh,bb,_⟩=>⟨_,dA,?_⟩
 have bb:∀i J,b1.get i=some J→bd.get i=some J:=fun i J ab=>bb i J (fun e=>by cases e) ab;have M2:b2 I bd:=lz.trans ⟨eh,bb⟩;have H:=H.aF bb;have hlen:=Nd p [];have Ot:∀U,lenA U 1 w=some (iK p []).length:=fun U=>by rw[hw.1.len,aJ]
 refine ae ?_;refine W.cg hfn e2 (jo h1) rfl rfl rfl (gO (aj _)) ?_;refine ae ?_;cases h2:dh p with
 |false=>
  refine ae ?_;refine W.st (aQ:=dm) H 0 rfl rfl rfl rfl rfl rfl fun bd eh H bb=>?_;refine ae ?_;exact GoF.ret ⟨rfl,_,jV (fR rfl (H.get _ (.head _)) rfl) (cI rfl),.zero (by omega) (up M2 eh bb)⟩
 |true=>
 refine ae ?_;refine W.len rfl rfl rfl (Ot _) ?_;by_cases h3:999<(iK p []).length
 ·refine ae ?_;refine W.st (aQ:=dm) H 0 rfl rfl rfl rfl rfl rfl fun bd eh H bb=>?_;refine ae ?_;refine GoF.ret ⟨rfl,_,jV (fR rfl (H.get _ (.head _)) rfl) (cI rfl),?_⟩;rw[decide_eq_false (by omega)];exact .zero (by omega) (up M2 eh bb)
 refine ae ?_;rw[decide_eq_true (show(iK p []).length≤999 by omega)];refine W.dX rfl rfl rfl (Yr hfn hn cj (by omega) (fun n=>JF _ n (by omega)) d p au bV w bd hw) fun r bG ⟨c,dA,se,gu,hM⟩=>⟨_,dA,?_⟩
 have H:=H.aF gu.2;obtain⟨bw,cQ,eA,ek,hT,jI,jF,kv,rfl⟩:=u9 se;refine ae ?_;refine W.st (aQ:=[bw,cQ,eA,ek,hT,jI,jF,kv]) H 0 rfl rfl rfl rfl rfl rfl fun cA gU H cm=>?_;refine ae ?_;have b4P:=M2.1;have Ee:=gu.1;exact GoF.ret ⟨rfl,_,jV (fR rfl (H.get _ (.head _)) rfl) (cI rfl),_,rfl,rfl,up (M2.trans gu) gU cm,hM.aF (o _) fun i J hi ab=>⟨cm _ _ (by omega) ab,by omega,by omega⟩⟩
theorem b4Q(hh:cY (b.a4 K) Ib MI)(p:Prf)(i:Nat)(hlen:p.aG.length<2^62)(hi:i<2^62)(I:af):b9 (b.a4 K) 0 (.f (.func Ib) [] []) [.ag (prC true p),ay i] I (fun r U=>r= .ok (b5 true (p.aG.getD i none))∧b2 I U):=by
 refine W.qQ hh.e hh.p hh.f rfl rfl rfl fun z=>?_;have H:Has I []:=Has.nil;have em:(p.cv.getD []).length=p.aG.length:=rfl;generalize hl:I.next=s;refine ae ?_;refine W.en (c:=prC true p) H hl rfl rfl rfl (dQ true p).1 (dQ true p).2.1 fun fZ cG H bE=>?_;refine ae ?_;refine W.len rfl rfl rfl kc ?_;by_cases c:i<p.aG.length
 ·refine ae ?_;refine W.cw rfl rfl rfl rfl (pR (show i<(p.cv.getD []).length from c)) ?_;refine ae ?_
  try (refine W.iG (ad:=none) rfl rfl rfl (iI _ _).2 ?_;refine ae ?_)
  refine GoF.ret ⟨rfl,_,cT (cI rfl),?_,by omega,fun _ _ ab=>bE _ _ ab⟩;have e:p.aG.getD i none=(p.cv.getD [])[i]'c:=by rw[fU,a9 c];rfl
  rw[e];rfl
 ·refine ae ?_;refine GoF.ret ⟨rfl,_,cT (cI rfl),?_,by omega,fun _ _ ab=>bE _ _ ab⟩;rw[fU,q7 (by omega)];rfl
end
section
variable {b:dW}{K:Nat→List AV→AV→Prop}
theorem b4R(hfn:∀g aR r bs,K g aR r→K g aR bs→r=bs)(p:Prf)(n:Int)(c4:qT b p)(aj:∀U:af,bh U (b.aV+1000) (.ag (prC true p))=some (.ag (prC true p)))(eN:∀u∈p.sub,∀U:af,bh U (b.aV+1000) (.ag (prC true u))=some (.ag (prC true u)))
  (kR:cY (b.a4 K) Ib MI) (e:b.ext hU=0∧b.pure hU=true) (cl:∀i,i<p.sub.length→K hU [b5 true (p.aG.getD i none),zI n] (.b (decide (n∈(p.aG.getD i none).getD []))))
  (e2:b.ext pO=0∧b.pure pO=true) (jo:∀u∈p.sub,K pO [.ag (prC true u),zI n] (.b (fS n u)))
  (body:bB) (hb:wa.body=some body):GoF (b.a4 K) wa.ntmps body (eS [.ag (prC true p),zI n]) ⟨.nil,0⟩ (gi wa.results (.b (fS n p))):=by
 cases hb;refine W.args fun z=>?_;have H:Has (⟨.nil,0⟩:af) []:=Has.nil;have es:(p.bm.getD []).length=p.sub.length:=rfl;have M_:=c4.sub;have aV:∀ {U:af} {c:Bool},c=fS n p→freeze U 0 1000 (.b c)=some (.b (fS n p)):=fun h1=>by rw[←h1];rfl
 have au:=yt n p;refine ae ?_;refine W.en (c:=prC true p) H rfl rfl rfl rfl (dQ true p).1 (dQ true p).2.1 fun fZ cG H bE=>?_;have iJ:=H;refine ae ?_;refine W.bin (v:=.b (eqL p.rule [])) rfl rfl rfl rfl rfl ?_;have loop:fS n p=opL n p.aG p.sub→∀ {g:Nat→AV},bl (b.a4 K) none [] wa.ntmps (match wa.body with|some (.seq _ (.seq _ c))=>c|_=>.skip) (bC [(1,zI n),(2,bo 0)] g) fZ (gi wa.results (.b (fS n p))):=fun au {g}=>by
  have H:=iJ;show bl (b.a4 K) none [] wa.ntmps (.seq _ _) _ _ _;refine ae ?_;refine GoF.block (GoF.loop (fun k F U=>∃j,j+k=p.sub.length∧b2 fZ U∧fS n p=opL n (p.aG.drop j) (p.sub.drop j)∧sat [(1,zI n),(2,bo 0),(5,ay j)] F) (fun k F U aZ=>?_) p.sub.length ⟨0,by omega,b2.refl,au,rfl,rfl,rfl,trivial⟩);obtain⟨j,az,mH,aZ,aX⟩:=aZ;refine GoF.norm _ aX fun F=>?_;clear aX;have H:=iJ.aF mH.2;by_cases bS:j<p.sub.length
  ·have dp:=b0e n (m:=p.aG) bS;have hm:=aS bS;refine ae ?_;refine W.len rfl rfl rfl gR ?_;refine ae ?_;refine W.dX rfl rfl rfl (b4Q kR p j c4.aG (by omega) U) fun r bd ⟨dA,M2⟩=>⟨_,dA,?_⟩
   have H:=H.aF M2.2;refine ae ?_;refine W.cg hfn e (cl j bS) rfl rfl rfl (g9 (rX (k:=b.aV+998) _ _) rfl) ?_;by_cases h1:n∈(p.aG.getD j none).getD []
   ·rw[decide_eq_true h1] at dp ⊢;refine ae ?_;exact⟨k-1,by omega,j+1,by omega,mH.trans M2,by rw[aZ,dp];rfl,rfl,rfl,rfl,trivial⟩
   ·rw[decide_eq_false h1] at dp ⊢;refine ae ?_;refine W.cw rfl rfl rfl rfl (nC bS) ?_;refine ae ?_;have cj:(p.bm.getD [])[j]=p.sub[j]:=rfl;rw[cj];generalize p.sub[j]=x at hm dp;refine W.cg hfn e2 (jo _ hm) rfl rfl rfl (g9 (eN _ hm _) rfl) ?_;refine ae ?_;cases h2:fS n x with
    |true=>
     refine ae ?_;exact GoF.ret ⟨rfl,_,cT (cI rfl),aV (by rw[aZ,dp,h2];rfl)⟩
    |false=>
     refine ae ?_;exact⟨k-1,by omega,j+1,by omega,mH.trans M2,by rw[aZ,dp,h2];rfl,rfl,rfl,rfl,trivial⟩
  ·refine ae ?_;refine W.len rfl rfl rfl gR ?_;refine ae ?_;refine GoF.exit ?_;show bl _ _ _ _ _ _ _ _;refine ae ?_;exact GoF.ret ⟨rfl,_,cT (cI rfl),aV (by rw[aZ,wZ (show p.sub.length≤j by omega),opL])⟩
 cases h0:eqL p.rule [] with
 |false=>
  rw[h0,za,Fe] at au;refine o2 ?_;refine W.nil (W.uI rfl (W.v8 ?_));show bl _ _ _ _ _ _ _ _;exact GoF.norm [(1,zI n),(2,bo 0)] ⟨rfl,rfl,trivial⟩ fun g=>loop au
 |true=>
  rw[h0,jU] at au;refine ae ?_;refine W.bin rfl rfl rfl rfl tq ?_;by_cases h1:p.aY=n
  ·rw[decide_eq_true h1] at au ⊢;refine ae ?_;exact GoF.ret ⟨rfl,_,cT (cI rfl),aV (by rw[au];rfl)⟩
  ·rw[decide_eq_false h1,Fe] at au;rw[decide_eq_false h1];refine o2 ?_;refine W.nil (W.uI rfl (W.v8 ?_));show bl _ _ _ _ _ _ _ _;exact GoF.norm [(1,zI n),(2,bo 0)] ⟨rfl,rfl,trivial⟩ fun g=>loop au
end
theorem fu.b4S{I:af}{ad:Option Nat}{v:AV}{xs:List AV}(h:fu I ad v xs){i:Nat}(hi:v.bn =some i):i<I.next:=by
 cases h with
 |nil=>cases hi
 |a7 J x xs ah=>cases hi
 |ak v x xs h=>exact h.lt hi
theorem OX:∀l:List Int,(l.map zI).flatMap AV.cells=l.map zI
 |[]=>rfl
 |x::l=>by rw[jK,eG,OX l];rfl
theorem b4T{l:List Int}{r:List AV}{k:Nat}(aD:k≤l.length):elems none (l.length-k) ((l.map zI++r).drop k)=some ((l.drop k).map zI):=by
 have e:(l.map zI++r).drop k=((l.drop k).map zI).flatMap AV.cells++r:=by rw[OX,List.drop_append_of_le_length (by rw[aJ];exact aD),I2]
 have:=Dd (ad:=none) (xs:=(l.drop k).map zI) (r:=r) fun x hx=>by obtain⟨z,_,rfl⟩:=bQ.1 hx;rfl
 rw[aJ,ng] at this;rw[e];exact this
theorem fu.b4U{I:af}{v:AV}{l:List Int}(h:fu I none v (l.map zI)){k:Nat}(aD:k≤l.length):∃y2,(∀(ao:aC→Option AV) (aK:aC),ao aK=some (ay k)→sliceA ao none v (some aK) none none=some y2)∧∀U:af,(∀i J,v.bn =some i→I.get i=some J→U.get i=some J)→newOf U y2=some ((l.drop k).map zI):=by
 have hb:∀ {ao:aC→Option AV} {aK:aC},ao aK=some (ay k)→∀d,bndO ao (some aK) d=some k:=fun he d=>by show(match _ with|some v=>natOf v|none=>none)=_;rw[he];rfl
 generalize hY:l.map zI=M at h;have ar:M.length=l.length:=by rw[←hY,aJ]
 cases h with
 |nil=>
  cases l with
  |cons x l=>cases hY
  |nil=>
   obtain rfl:k=0:=by simpa using aD
   exact⟨.aB,fun ao aK h1=>by show(match bndO ao (some aK) 0,bndO ao none 0,bndO ao none 0 with|some 0,some 0,some 0=>some AV.aB|_,_,_=>none)=_;rw[hb h1];rfl,fun I _=>rfl⟩
 |a7 J x xs ah=>
  refine⟨.a7 J none (((x::xs).drop k).take ((x::xs).length-k)),fun ao aK h1=>?_,fun I _=>?_⟩
  ·have po:bndO ao none (x::xs).length=some (x::xs).length:=rfl;have gd:Nat.ble k (x::xs).length=true:=eu (by omega);have j9:Nat.ble (x::xs).length (x::xs).length=true:=eu (o _);unfold sliceA;simp only[hb h1,po,gd,j9,if_true,so]
  ·show some _=_;rw[j7 (by rw[ng];exact o _),← hY,I2]
 |ak v x xs h=>
  cases h with
  |ak J cap jm rest hg ah gw=>
  have hn:∀(U:af),(∀i b7,(AV.ak J 0 (x::xs).length none cap).bn =some i→I.get i=some b7→U.get i=some b7)→∀ev,newOf U (.ak J k ((x::xs).length-k) none ev)=some ((l.drop k).map zI):=fun U ca ev=>by
   show(match U.get J with|some (.cells c)=>elems none ((x::xs).length-k) (c.drop k)|_=>none)=_;rw[ca J _ rfl hg,← hY,OX,aJ];exact b4T aD
  generalize hr:(x::xs).length=N at hn ar gw ⊢;have gd:Nat.ble k N=true:=eu (by omega);have j9:Nat.ble N N=true:=eu (o _);have aM:0+k*shN none=k:=by show 0+k*1=k;omega
  have po:∀ao:aC→Option AV,bndO ao none N=some N:=fun ao=>rfl;rcases gw with rfl|rfl
  ·by_cases bw:k=0
   ·subst bw;refine⟨.ak J 0 N none none,fun ao aK h1=>?_,fun U ca=>by have:=hn U ca none;rwa[F1] at this⟩;unfold sliceA;simp only[hb h1,po,gd,j9,if_true,so,fy,F1]
   ·have jO:Nat.beq k 0=false:=by cases h:Nat.beq k 0 with
     |false=>rfl
     |true=>exact absurd (fm h) bw
    by_cases cQ:k<N
    ·refine⟨.ak J (0+k*shN none) (N-k) none none,fun ao aK h1=>?_,fun U ca=>by rw[aM];exact hn U ca none⟩;have CF:Nat.blt k N=true:=eu cQ;unfold sliceA;simp only[hb h1,po,gd,j9,CF,jO,xx,J3,nO,if_true,if_false]
    ·refine⟨.a7 true none [],fun ao aK h1=>?_,fun U ca=>?_⟩
     ·obtain rfl:k=N:=by omega
      have CF:Nat.blt k k=false:=by cases h:Nat.blt k k with
       |false=>rfl
       |true=>exact absurd (eV h) (by omega)
      unfold sliceA;simp only[hb h1,po,gd,j9,CF,jO,fy,xx,J3,nO,if_true,if_false]
     ·show some []=_;rw[wZ (by omega)];rfl
  ·have c3Y:0<N:=by rw[←hr];simp
   by_cases cQ:N=k
   ·subst cQ;refine⟨.ak J 0 (N-N) none (some (N-N)),fun ao aK h1=>?_,fun U ca=>?_⟩
    ·unfold sliceA;simp only[hb h1,po,gd,j9,if_true]
    ·rw[kj,wZ (by omega)];show(match U.get J with|some (.cells c)=>elems none 0 (c.drop 0)|_=>none)=_;rw[ca J _ rfl hg];rfl
   ·refine⟨.ak J (0+k*shN none) (N-k) none (some (N-k)),fun ao aK h1=>?_,fun U ca=>by rw[aM];exact hn U ca _⟩;unfold sliceA;simp only[hb h1,po,gd,j9,if_true,cQ,if_false]
section
variable {b:dW}{K:Nat→List AV→AV→Prop}
theorem rinsert_h(hfn:∀g aR r bs,K g aR r→K g aR bs→r=bs)(hh:cY (b.a4 K) Ic Dx){v0:AV}{l:List Int}{I:af}(n:Int)(rJ:fu I none v0 (l.map zI))(ar:l.length<2^40)(e:b.ext hU=0∧b.pure hU=true)(cl:K hU [hK true l,zI n] (.b (decide (n∈l)))):
  b9 (b.a4 K) 0 (.f (.func Ic) [] []) [v0,zI n] I (fun r U=>b2 I U∧∃a2,r= .ok a2∧((n∈l∧a2=v0)∨(n∉l∧gj U none a2 ((qV l n).map zI)))):=by
 refine W.qQ hh.e hh.p hh.f rfl rfl rfl fun z=>?_;have H:Has I []:=Has.nil;have xm:∀U,lenA U 1 v0=some l.length:=fun U=>by rw[rJ.len,aJ]
 have rq:∀i,v0.bn =some i→i<I.next:=fun i hi=>rJ.b4S hi;have gX:∀j (h:j<l.length) (U:af),b2 I U→∃p,idxSlA none v0 j=some p∧nS U none p=some (zI l[j]):=fun j h U M=>by
  obtain⟨p,h1,h2⟩:=(rJ.aF (U:=U) fun i c _ ab=>M.2 _ _ ab).hc (j:=j) (by rw[aJ];exact h);rw[fQ] at h2;exact⟨p,h1,h2⟩
 refine ae ?_;refine W.cg hfn e cl rfl rfl rfl (g9 (rJ.snap (m:=b.aV+999) (z8 fun x hx=>by obtain⟨z,_,rfl⟩:=bQ.1 hx;rfl)) rfl) ?_;show bL _ _ _ _ _ _ _ _ _;by_cases h0:n∈l
 ·simp only[decide_eq_true h0];refine ae ?_;exact GoF.ret ⟨rfl,_,cT (cI rfl),.refl,_,rfl,.inl ⟨h0,rfl⟩⟩
 simp only[decide_eq_false h0];refine ae ?_;have fin:∀ {j:Nat} {v:AV} {U:af} {g:Nat→AV},j≤l.length→gj U none v ((l.take j).map zI)→b2 I U→(∀J,v.bn =some J→I.next≤J)→qV l n=l.take j++n::l.drop j→bl (b.a4 K) none [] Dx.ntmps (.seq (.draw [⟨some 32,.b6 (.t 5),none,[]⟩,⟨some 33,.b6 (.t 1),none,[]⟩,⟨some 34,.buildSlice none 1 [.i .i64 0] [(0,.t 33)],none,[]⟩,⟨some 36,.b6 (.t 0),none,[]⟩,⟨some 37,.b6 (.t 5),none,[]⟩,⟨some 38,.len 1 (.t 37),none,[8]⟩,⟨some 39,.kX none (.t 36) (some (.t 38)) none none,none,[]⟩,⟨some 35,.append none 8 (.t 32) (.t 34),none,[]⟩,⟨some 40,.append none 8 (.t 35) (.t 39),none,[]⟩,⟨some 4,.b6 (.t 40),none,[]⟩]) .ret) (bC [(0,v0),(1,zI n),(5,v)] g) U (fun x dq aq=>x= .ret∧∃v,qP aq dq Dx.results=some v∧b2 I aq∧∃a2,dM.ok v= .ok a2∧((n∈l∧a2=v0)∨(n∉l∧gj aq none a2 ((qV l n).map zI)))):=fun {j v U g} az av mH i_ hi=>by
  have H:Has U []:=Has.nil;refine W.sq ?_;refine W.Hb rfl ?_;refine ae ?_;refine W.fJ (c:=[zI n]) H rfl rfl rfl rfl fun bd n2 H br=>?_;refine ae ?_;have AH:∀I:af,lenA I 1 v=some j:=fun I=>by rw[av.1.len,aJ,eL,MR az]
  refine W.Aa (v:=ay j) rfl rfl rfl (fun s=>Uh rfl (AH s)) (Snp.eqb _ _ fun I=>rfl) ?_;have hR:=av.1.aF (U:=bd) fun i J _ ab=>br i J ab;obtain⟨y2,lX,uv⟩:=rJ.b4U (k:=j) az;refine W.val (v:=y2) (aq:=bd) rfl rfl ?_ ?_
  ·show(match some v0 with|some x=>(match sliceA _ none x (some (.t 38)) none none with|some v=>some (bq.val v bd)|none=>none)|none=>none)=_;simp only[];rw[lX _ _ rfl]
  refine ae ?_;refine W.ap (zI n) [] hR (by show(match bd.get U.next with|some (.cells c)=>elems none 1 (c.drop 0)|_=>none)=_;rw[H.get _ (.head _)];rfl) (fun y aw=>by rw[d_.1 aw];rfl) (by rw[aJ,eL];show(3*(_+1)+2000)*_≤_;omega) rfl rfl rfl rfl fun a2 bG tv ha b1n eh bb=>?_;refine ae ?_;have gu:b2 I bG:=⟨by have:=mH.1;omega,fun i J ab=>bb _ _ (fun e=>by have:=i_ i e;have:=af.bW ab;omega) (br _ _ (mH.2 _ _ ab))⟩
  have uv:=uv bG fun i J _ ab=>gu.2 _ _ ab;have last:∃w cA,Sl cA none w ((qV l n).map zI)∧appendO 0 bG none 8 a2 y2=some (w,cA)∧b2 I cA:=by
   rw[hi,gK,jK];cases au:l.drop j with
   |nil=>
    refine⟨a2,bG,tv,?_,gu⟩;unfold appendO;rw[uv,au,tv.read];show cond (dw (Go.Lyc.conf none) _&&dw (Go.Lyc.conf none) []&&Nat.ble _ _) _ none=_;rw[mY tv.conf,show dw (Go.Lyc.conf none) []=true from rfl,eu (by rw[cR,aJ,eL];show(3*(_+1+0)+2000)*8≤_;omega)];rfl
   |cons y r=>
    have Jr:(l.drop j).length=r.length+1:=by rw[au];rfl
    rw[ng] at Jr;obtain⟨w,cA,aP,a0,bF,bU,c6,dL⟩:=tv.append (x:=y2) (y:=zI y) (aO:=r.map zI) (bytes:=8) (by rw[uv,au];rfl) (fun q hq=>ys (l:=y::r) q hq) (by simp only[cR,aJ,eL,fH,lx];omega);exact⟨w,cA,by rw[iw] at a0;exact a0,aP,by have:=gu.1;omega,fun i J ab=>dL _ _ (fun e=>by rw[ha] at e;cases e;have:=af.bW ab;have:=mH.1;omega) (gu.2 _ _ ab)⟩
  obtain⟨w,cA,hw,Le,iN⟩:=last;refine W.val (v:=w) (aq:=cA) rfl rfl ?_ ?_
  ·show(match some a2,some y2 with|some s,some x=>(match appendO 0 bG none 8 s x with|some (v,I)=>some (bq.val v I)|none=>none)|_,_=>none)=_;simp only[Le]
  refine ae ?_;exact GoF.ret ⟨rfl,_,cT (cI rfl),iN,_,rfl,.inr ⟨h0,hw,fun h=>by have:=congrArg List.length h;rw[aJ,Vs] at this;simp at this⟩⟩
 refine GoF.block (GoF.loop (fun k F U=>∃j v,j+k=l.length∧gj U none v ((l.take j).map zI)∧b2 I U∧(∀J,v.bn =some J→I.next≤J)∧(∀x∈l.take j,x<n)∧sat [(0,v0),(1,zI n),(5,v),(6,ay j)] F) (fun k F U aZ=>?_) l.length ⟨0,.aB,by omega,.nil,.refl,(fun J h=>by cases h),by simp,rfl,rfl,rfl,rfl,trivial⟩);obtain⟨j,v,az,av,mH,i_,hall,aX⟩:=aZ;refine GoF.norm _ aX fun F=>?_;clear aX;have H:Has U []:=Has.nil;by_cases bS:j<l.length
 ·have cV:=fG bS;have EH:=sk bS;obtain⟨c3Z,e1,EX⟩:=gX j bS U mH;generalize mG:l[j]=x at cV EH EX;refine ae ?_
  try (refine W.len rfl rfl rfl (xm _) ?_;refine ae ?_)
  refine W.cw rfl rfl rfl rfl e1 ?_;refine ae ?_;refine W.kf rfl rfl rfl EX ?_;refine ae ?_;refine W.bin rfl rfl rfl rfl Na ?_;by_cases hx:x<n
  ·rw[decide_eq_true hx];refine ae ?_;refine W.cw rfl rfl rfl rfl e1 ?_;refine ae ?_;refine W.kf rfl rfl rfl EX ?_;refine ae ?_;refine W.pu (zI x) av.1 rfl rfl rfl rfl rfl rfl rfl rfl rfl (by rw[aJ,eL];omega) fun v2 bd hR k_ oM n2 br=>?_;refine ae ?_;refine⟨k-1,by omega,j+1,v2,by omega,⟨by rw[cV,gK];exact hR,fun e=>by rw[cV,gK] at e;simp at e⟩,⟨by have:=mH.1;omega,fun i J ab=>br _ _ (fun e=>by have:=i_ i e;have:=af.bW ab;omega) (mH.2 _ _ ab)⟩,(fun J ab=>by rw[k_] at ab;cases ab;have:=mH.1;omega),fun y aw=>?_,rfl,rfl,rfl,rfl,trivial⟩;rw[cV] at aw;rcases dE.1 aw with aw|aw
   ·exact hall y aw
   ·rw[d_.1 aw];exact hx
  ·rw[decide_eq_false hx];refine ae ?_;refine GoF.exit ?_;show bl _ _ _ _ _ _ _ _;exact GoF.norm [(0,v0),(1,zI n),(5,v)] ⟨rfl,rfl,rfl,trivial⟩ fun g=>fin (by omega) av mH i_ (Vr hall fun y aw=>by rw[EH] at aw;cases aw;exact hx)
 ·refine ae ?_
  try (refine W.len rfl rfl rfl (xm _) ?_;refine ae ?_)
  refine GoF.exit ?_;show bl _ _ _ _ _ _ _ _;exact GoF.norm [(0,v0),(1,zI n),(5,v)] ⟨rfl,rfl,rfl,trivial⟩ fun g=>fin (by omega) av mH i_ (Vr hall fun y aw=>by rw[wZ (by omega)] at aw;cases aw)
end
def q2(U:af)(v:AV)(l:List Int):Prop:=v=hK false l∨gj U none v (l.map zI)
theorem b4V{U:af}(J:Bool)(l:List Int):fu U none (hK J l) (l.map zI):=by
 cases l with
 |nil=>exact .nil
 |cons x l=>exact .a7 J (zI x) (l.map zI) fun y aw=>by obtain⟨z,_,rfl⟩:=bQ.1 (show y∈(x::l).map zI from aw);rfl
theorem q2.rd{U:af}{v:AV}{l:List Int}(h:q2 U v l):fu U none v (l.map zI):=by
 rcases h with rfl|h
 ·exact b4V _ _
 ·exact h.rd
theorem q2.aF{I U:af}{v:AV}{l:List Int}(h:q2 I v l)(M:b2 I U):q2 U v l:=h.imp id fun h=>h.aF fun i J _ ab=>M.2 i J ab
theorem q2.b4W{U:af}{v:AV}{l:List Int}(h:q2 U v l):freeze U 0 1000 v=some (hK false l):=by
 rcases h with rfl|h
 ·exact b0b (n:=999) _
 ·exact h.1.ym (n:=999) h.2 fun y aw=>by obtain⟨z,_,rfl⟩:=bQ.1 aw;rfl
section
variable {b:dW}{K:Nat→List AV→AV→Prop}
theorem b4X(hfn:∀g aR r bs,K g aR r→K g aR bs→r=bs)(p:Prf)(c4:∀x∈p.pre,qT b x)(ah:p.cnt<2^30)(eN:∀u∈p.sub,∀U:af,bh U (b.aV+1000) (.ag (prC true u))=some (.ag (prC true u)))
  (aM:b.ext tg=0∧b.pure tg=true) (y1:∀u∈p.sub,K tg [.ag (prC true u)] (hK false (labP u).2)) (CA:cY (b.a4 K) Ic Dx) (e:b.ext hU=0∧b.pure hU=true) (cl:∀(l:List Int) (n:Int),l.length<2^40→K hU [hK true l,zI n] (.b (decide (n∈l))))
  (body:bB) (hb:wc.body=some body):GoF (b.a4 K) wc.ntmps body (eS [.ag (prC true p)]) ⟨.nil,0⟩ (gi wc.results (hK false (labP p).2)):=by
 cases hb;refine W.args fun z=>?_;have H:Has (⟨.nil,0⟩:af) []:=Has.nil;have es:(p.bm.getD []).length=p.sub.length:=rfl;have M_:=(c4 p p.oi).sub;have au:=Ng p;refine ae ?_;refine W.en (c:=prC true p) H rfl rfl rfl rfl (dQ true p).1 (dQ true p).2.1 fun fZ cG H bE=>?_;refine ae ?_;refine W.bin (v:=.b (eqL p.rule [])) rfl rfl rfl rfl rfl ?_;have loop:∀ {fZ:af} {v:AV} {g:Nat→AV},Has fZ [(0,prC true p)]→q2 fZ v (false,cond (eqL p.rule []) [p.aY] []).2→bl (b.a4 K) none [] wc.ntmps (match wc.body with|some (.seq _ (.seq _ (.seq _ c)))=>c|_=>.skip) (bC [(1,bo 0),(3,v)] g) fZ (gi wc.results (hK false (labP p).2)):=fun {fZ v g} iJ av=>by
  have H:=iJ;show bl (b.a4 K) none [] wc.ntmps (.seq _ _) _ _ _;refine ae ?_;generalize b4Y:(false,cond (eqL p.rule []) [p.aY] [])=c8 at au av;have c4a:c8.2.length≤1:=by rw[←b4Y];show(cond (eqL p.rule []) [p.aY] []).length≤1;cases eqL p.rule []<;>simp
  refine GoF.block (GoF.loop (fun k F U=>∃j v,j+k=p.sub.length∧b2 fZ U∧q2 U v ((p.sub.take j).foldl (fun a q=>(labP q).2.foldl lC a) c8).2∧sat [(1,bo 0),(3,v),(4,ay j)] F) (fun k F U aZ=>?_) p.sub.length ⟨0,v,by omega,.refl,av,rfl,rfl,rfl,trivial⟩);obtain⟨j,v,az,mH,av,aX⟩:=aZ;refine GoF.norm _ aX fun F=>?_;clear aX;have H:=iJ.aF mH.2;by_cases bS:j<p.sub.length
  ·have hm:=aS bS;have cV:=fG bS;have hlen:=Nh (s:=p.sub.take (j+1)) (fun q hq=>Az _ q (o _)) c8;have hle:Prf.l2 (p.sub.take (j+1))≤p.cnt:=by
    rw[p.uN];show(List.flatMap _ _).length≤(List.flatMap _ p.sub).length+1;conv=>rhs;rw[←nf (j+1) p.sub]
    rw[il,cR];omega
   have sE:=Nh (s:=p.sub.take j) (fun q hq=>Az _ q (o _)) c8;have b4Z:Prf.l2 (p.sub.take j)+(p.sub[j]).cnt≤p.cnt:=by rw[←Prf.Iv bS];exact hle
   refine ae ?_;refine W.len rfl rfl rfl gR ?_;refine ae ?_;refine W.cw rfl rfl rfl rfl (nC bS) ?_;refine ae ?_;have cj:(p.bm.getD [])[j]=p.sub[j]:=rfl;rw[cj];generalize p.sub[j]=x at hm cV b4Z;have hx:=Az _ x (o _);refine W.cg hfn aM (y1 _ hm) rfl rfl rfl (gO (eN _ hm _)) ?_;refine ae ?_;generalize hA:(p.sub.take j).foldl (fun a q=>(labP q).2.foldl lC a) c8=A at av sE;generalize hL:(labP x).2=L at hx;refine GoF.block (GoF.loop (fun cW F a5=>∃i v,i+cW=L.length∧b2 U a5∧q2 a5 v ((L.take i).foldl lC A).2∧sat [(1,bo 0),(3,v),(4,ay j),(5,hK false L),(6,ay i)] F) (fun cW F a5 aZ=>?_) L.length ⟨0,v,by omega,.refl,av,rfl,rfl,rfl,rfl,rfl,trivial⟩);obtain⟨i,v,hi,OY,av,aX⟩:=aZ;refine GoF.norm _ aX fun F=>?_;clear aX;have H:=iJ.aF (mH.trans OY).2;by_cases j6:i<L.length
   ·have lB:=fG j6;have hl2:=Vu (L.take i) A;rw[eL] at hl2;refine ae ?_;generalize L[i]=y at lB;refine W.dX rfl rfl rfl (rinsert_h hfn CA y av.rd (by omega) e (cl _ y (by omega))) fun r bd ⟨M2,a2,dA,ah⟩=>⟨_,dA,?_⟩
    refine ae ?_;refine⟨cW-1,by omega,i+1,a2,by omega,OY.trans M2,?_,rfl,rfl,rfl,rfl,rfl,trivial⟩;rw[lB,kW];generalize(L.take i).foldl lC A=b5a at ah av;show q2 bd a2 (lC b5a y).2;unfold lC;rcases ah with⟨h1,rfl⟩|⟨h1,h2⟩
    ·rw[decide_eq_true h1];exact av.aF M2
    ·rw[decide_eq_false h1];exact .inr h2
   ·refine ae ?_;refine GoF.exit ?_;show bl _ _ _ _ _ _ _ _;refine ae ?_;rw[j7 (by omega)] at av;exact⟨k-1,by omega,j+1,v,by omega,mH.trans OY,by rw[cV,kW,hA];show q2 _ _ ((labP x).2.foldl lC A).2;rw[hL];exact av,rfl,rfl,rfl,trivial⟩
  ·refine ae ?_;refine W.len rfl rfl rfl gR ?_;refine ae ?_;refine GoF.exit ?_;show bl _ _ _ _ _ _ _ _;refine ae ?_;rw[j7 (by omega)] at av;exact GoF.ret ⟨rfl,_,cT (cI rfl),by rw[au];exact av.b4W⟩
 cases h0:eqL p.rule [] with
 |false=>
  rw[h0] at loop;refine o2 ?_;refine W.nil (W.uI rfl (W.v8 ?_));show bl _ _ _ _ _ _ _ _;exact GoF.norm [(1,bo 0),(3,.aB)] ⟨rfl,rfl,trivial⟩ fun g=>loop H (.inl rfl)
 |true=>
  rw[h0] at loop;refine o2 ?_;refine W.nil (W.Dm rfl ?_);refine ae ?_;refine W.fJ (c:=[zI p.aY]) H rfl rfl rfl rfl fun bd n2 H br=>?_;refine o2 ?_;refine W.nil ?_;show bl _ _ _ _ _ _ _ _;exact GoF.norm [(1,bo 0),(3,.ak fZ.next 0 1 none (some 1))] ⟨rfl,rfl,trivial⟩ fun g=>loop (Has.nil.cons (H.get _ (.tail _ (.head _))) (by simp)) (.inr ⟨b0f.ak (H.get _ (.head _)),fun h=>by cases h⟩)
theorem b5b(hfn:∀g aR r bs,K g aR r→K g aR bs→r=bs)(p:Prf)(ah:p.cnt<2^30)(aj:∀U:af,bh U (b.aV+1000) (.ag (prC true p))=some (.ag (prC true p)))
  (aM:b.ext tg=0∧b.pure tg=true) (y1:K tg [.ag (prC true p)] (hK false (labP p).2)) (e2:b.ext pO=0∧b.pure pO=true) (jo:∀n:Int,K pO [.ag (prC true p),zI n] (.b (fS n p)))
  (body:bB) (hb:Ht.body=some body):GoF (b.a4 K) Ht.ntmps body (eS [.ag (prC true p)]) ⟨.nil,0⟩ (gi Ht.results (hK false (jr p))):=by
 cases hb;refine W.args fun z=>?_;have H:Has (⟨.nil,0⟩:af) []:=Has.nil;refine ae ?_;refine W.en (c:=prC true p) H rfl rfl rfl rfl (dQ true p).1 (dQ true p).2.1 fun fZ cG H bE=>?_;refine ae ?_;refine W.cg hfn aM y1 rfl rfl rfl (gO (aj _)) ?_;refine ae ?_;have ar:=Az _ p (o _);unfold jr;generalize labP p=L at ar;have iJ:=H;refine GoF.block (GoF.loop (fun k F U=>∃j v,j+k=L.2.length∧fZ.next≤U.next∧(∀i J,fZ.get i=some J→U.get i=some J)∧gj U none v (((L.2.take j).filter fun n=>fS n p).map zI)∧(∀J,v.bn =some J→fZ.next≤J)∧sat [(1,bo 0),(3,hK false L.2),(4,v),(5,ay j)] F) (fun k F U aZ=>?_) L.2.length ⟨0,.aB,by omega,o _,fun _ _ h=>h,.nil,(fun J h=>by cases h),rfl,rfl,rfl,rfl,trivial⟩);obtain⟨j,v,az,hn,ca,av,i_,aX⟩:=aZ;refine GoF.norm _ aX fun F=>?_;clear aX;have H:=iJ.aF ca;by_cases bS:j<L.2.length
 ·have cV:=fG bS;have c7:((L.2.take j).filter fun n=>fS n p).length≤L.2.length:=by
   have h1:=UQ (fun n=>fS n p) (L.2.take j);rw[eL] at h1;omega
  refine ae ?_;generalize aw:L.2[j]=y at cV;refine W.cg hfn e2 (jo y) rfl rfl rfl (g9 (aj _) rfl) ?_;refine ae ?_;cases h1:fS y p with
  |false=>
   refine ae ?_;exact⟨k-1,by omega,j+1,v,by omega,hn,ca,by rw[cV,L7,AJ,if_neg (by rw[h1];simp),List.filter_nil,fV];exact av,i_,rfl,rfl,rfl,rfl,trivial⟩
  |true=>
   refine ae ?_;simp only[aw];refine W.pu (zI y) av.1 rfl rfl rfl rfl rfl rfl rfl rfl rfl (by rw[aJ];omega) fun v2 bd hR k_ oM n2 br=>?_;refine ae ?_;refine⟨k-1,by omega,j+1,v2,by omega,by omega,fun i J ab=>br _ _ (fun e=>by have:=i_ i e;have:=af.bW ab;omega) (ca _ _ ab),?_,fun J ab=>by rw[k_] at ab;cases ab;omega,rfl,rfl,rfl,rfl,trivial⟩;rw[cV,L7,AJ,if_pos h1,List.filter_nil,gK];exact⟨hR,fun e=>by simp at e⟩
 ·refine ae ?_;refine GoF.exit ?_;show bl _ _ _ _ _ _ _ _;refine ae ?_;rw[j7 (by omega)] at av;exact GoF.ret ⟨rfl,_,cT (cI rfl),av.1.ym (n:=999) av.2 fun y aw=>by obtain⟨m,_,rfl⟩:=bQ.1 aw;rfl⟩
end
def wS(U:af)(v:AV)(io:Option (List Int)):Prop:=v=b5 true io∨∃l,io=some l∧Sl U none v (l.map zI)∧∃J,v.bn =some J
theorem wS.aF{I U:af}{v:AV}{io:Option (List Int)}(h:wS I v io)(M:b2 I U):wS U v io:=h.imp id fun⟨l,h1,h2,h3⟩=>⟨l,h1,h2.aF fun i J _ ab=>M.2 i J ab,h3⟩
theorem wS.snap{U:af}{v:AV}{io:Option (List Int)}{m:Nat}(h:wS U v io):bh U (m+2) v=some (b5 true io):=by
 rcases h with rfl|⟨l,rfl,h2,h3⟩
 ·exact rX (k:=m) true io
 ·exact h2.b0i (m:=m+1) h3 (xX fun y aw=>by obtain⟨n,_,rfl⟩:=bQ.1 aw;rfl)
theorem wS.new{U:af}{v:AV}{io:Option (List Int)}(h:wS U v io):newOf U v=some ((io.getD []).map zI):=by
 rcases h with rfl|⟨l,rfl,h2,h3⟩
 ·cases io<;>rfl
 ·have:=h2.read;obtain⟨J,h3⟩:=h3;cases v<;>first|exact this|cases h3
theorem lD.snap{P:Nat→Prop}{U:af}{w:AV}{L:List (List AV)}{n:Nat}(h:lD P U w L)(hx:∀l∈L,∀x∈l,∀U:af,bh U (n+1) x=some x):bh U (n+3) w=some (slA true none (L.map fun l=>slA true none l)):=by
 obtain⟨us,h1,h2,h3,ba,aE⟩:=h.ex;refine gj.yY ⟨h2,fun e=>h3 (l0.1 (by rw[←h1,e];rfl))⟩ (Ay (by rw[aJ,h1]) fun i a c=>?_);rw[fQ];have hi:i<L.length:=by rw[←h1];exact a
 exact(aE i a hi).1.yY (z8 fun x hm=>hx _ (aS hi) x hm U)
section
variable {b:dW}{K:Nat→List AV→AV→Prop}
theorem Yu(hfn:∀g aR r bs,K g aR r→K g aR bs→r=bs)(hh:cY (b.a4 K) H_ Hu)(e:b.ext hU=0∧b.pure hU=true)(cl:∀(a:Option (List Int)) (n:Int),(a.getD []).length<2^40→K hU [b5 true a,zI n] (.b (decide (n∈a.getD []))))
  (aF:List Int) (J:Bool) (pt:aF.length<2^40) {m:Int} (qK:0≤m) (n8:m<2^30):∀(d:Nat) (p:Prf),d≤400→Prf.sz d p→(∀x∈p.pre,f_ x=true)→∀(gv:AV) (io:Option (List Int)) (I:af),wS I gv io→(io.getD []).length+d*2^20≤2^30→
  b9 (b.a4 K) 0 (.f (.func H_) [] []) [.ag (prC true p),hK J aF,gv,zI m] I (fun r U=>∃c,r= .ok (.ag c)∧c.length=8∧b2 I U∧lI U (fun i=>I.next≤i∧i<U.next) (2*d+4) (.ag c) (.ag (prC true (shP aF m p (io.getD [])))))
 |0,_,_,h,_,_,_,_,_,_=>h.elim
 |d+1,p,au,bV,EY,gv,io,I,Yv,c4b=>by
  have b5c:(io.getD []).length<2^40:=by omega
  have aA:=Yu hfn hh e cl aF J pt qK n8 d;have u6:=bV;obtain⟨s1,s2,iq,ee,mE⟩:=bV;have cL:f_ p=true:=EY p p.oi;have OZ:∀U:af,bh U (b.aV+1000) (cU true p.bm)=some (cU true p.bm):=fun U=>ES (fun u hu=>Prf.eY (mE u hu)) (by omega) U;have aj:∀u∈p.sub,∀U:af,bh U (b.aV+1000) (.ag (prC true u))=some (.ag (prC true u)):=fun u hu U=>sd (Prf.eY (mE u hu)) (by omega) U;refine W.qQ hh.e hh.p hh.f rfl rfl rfl fun z=>?_;have H:Has I []:=Has.nil;generalize hl:I.next=s;have es:(p.bm.getD []).length=p.sub.length:=rfl;have em:(p.cv.getD []).length=p.aG.length:=rfl;obtain⟨k9,Og,kR⟩:=Vv cL;have b5d:hK true aF=b5 true (cM aF):=DT _ _;have zB:(cM aF).getD []=aF:=by cases aF<;>rfl
  refine ae ?_;refine W.en (c:=prC true p) H hl rfl rfl rfl (dQ true p).1 (dQ true p).2.1 fun fZ cG H bE=>?_;refine ae ?_;refine W.bN (c:=dm) H cG rfl rfl rfl fun b1 n2 H br=>?_;refine ae ?_;refine W.bN (c:=dm) H n2 rfl rfl rfl fun bd eh H bb=>?_;refine ae ?_;refine W.st (aQ:=eQ p.rule p.form (zI p.aY) .aB .aB) H 0 rfl rfl rfl rfl rfl rfl fun bG gU H cm=>?_;have mR:s+3≤bG.next:=by omega
  have gu:b2 I bG:=⟨by omega,fun i J ab=>cm _ _ (by have:=af.bW ab;omega) (bb _ _ (br _ _ (bE _ _ ab)))⟩
  refine W.nil ?_;show bl _ _ _ _ _ _ _ _;refine W.sq ?_;refine bl.mono (Q:=fun x f U=>x= .normal∧Has U [(s+2,eQ p.rule p.form (zI (shl p.rule aF (io.getD []) p.aY m)) .aB .aB),(s+1,dm),(s,prC true p)]∧s+3≤U.next∧b2 I U∧sat [(1,hK J aF),(2,gv),(3,zI m),(4,bo s),(8,bo (s+1)),(9,bo (s+2))] f) ?_ fun x f U h=>?_
  ·have same:shl p.rule aF (io.getD []) p.aY m=p.aY→Has bG [(s+2,eQ p.rule p.form (zI (shl p.rule aF (io.getD []) p.aY m)) .aB .aB),(s+1,dm),(s,prC true p)]:=fun h=>by rw[h];exact H
   refine ae ?_;refine W.bin (v:=.b (eqL p.rule [])) rfl rfl rfl rfl rfl ?_;cases h0:eqL p.rule [] with
   |false=>
    refine ae ?_;exact⟨rfl,same (by unfold shl;rw[h0];rfl),mR,gu,rfl,rfl,rfl,rfl,rfl,rfl,trivial⟩
   |true=>
   refine ae ?_;refine W.cg hfn e (cl io p.aY b5c) rfl rfl rfl (g9 ((Yv.aF gu).snap (m:=b.aV+998)) rfl) ?_;have more:shl p.rule aF (io.getD []) p.aY m=p.aY+m→∀ {g:Nat→AV},bl (b.a4 K) none [] Hu.ntmps (.region [⟨some 37,.fieldAddr 5 none (.t 4),none,[]⟩,⟨some 38,.load none (.t 37),none,[]⟩,⟨some 39,.b6 (.t 3),none,[]⟩,⟨some 40,.bin .add (.t 38) (.t 39),none,[]⟩,⟨some 41,.fieldAddr 5 none (.t 9),none,[]⟩,⟨none,.store none (.t 41) (.t 40),none,[]⟩]) (bC [(1,hK J aF),(2,gv),(3,zI m),(4,bo s),(8,bo (s+1)),(9,bo (s+2))] g) bG (fun x f U=>x= .normal∧Has U [(s+2,eQ p.rule p.form (zI (shl p.rule aF (io.getD []) p.aY m)) .aB .aB),(s+1,dm),(s,prC true p)]∧s+3≤U.next∧b2 I U∧sat [(1,hK J aF),(2,gv),(3,zI m),(4,bo s),(8,bo (s+1)),(9,bo (s+2))] f):=fun h {g}=>by
    rw[h];have H:Has bG [(s+2,eQ p.rule p.form (zI p.aY) .aB .aB),(s+1,dm),(s,prC true p)]:=H;refine ae ?_;refine W.bin rfl rfl rfl rfl (DV Og.1 qK (by omega)) ?_;refine ae ?_;refine W.st (aQ:=eQ p.rule p.form (zI (p.aY+m)) .aB .aB) H 0 rfl rfl rfl rfl rfl rfl fun cA h7 H dN=>?_;refine ae ?_;exact⟨rfl,H,by omega,⟨by omega,fun i J ab=>dN _ _ (by have:=af.bW ab;omega) (gu.2 _ _ ab)⟩,rfl,rfl,rfl,rfl,rfl,rfl,trivial⟩
   by_cases h1:p.aY∈io.getD []
   ·rw[decide_eq_true h1];refine o2 ?_;refine W.nil (W.Dm rfl ?_);exact GoF.norm [(1,hK J aF),(2,gv),(3,zI m),(4,bo s),(8,bo (s+1)),(9,bo (s+2))] ⟨rfl,rfl,rfl,rfl,rfl,rfl,trivial⟩ fun g=>more (by unfold shl;rw[h0,decide_eq_true h1];rfl)
   rw[decide_eq_false h1];refine ae ?_;have nX:=cl (cM aF) p.aY (by rw[zB];exact pt);rw[←b5d,zB] at nX;refine W.cg hfn e nX rfl rfl rfl (g9 (b0c (k:=b.aV+998) _ _) rfl) ?_;by_cases h2:p.aY∈aF
   ·rw[decide_eq_true h2];refine ae ?_;exact⟨rfl,same (by unfold shl;rw[h0,decide_eq_false h1,decide_eq_true h2];rfl),mR,gu,rfl,rfl,rfl,rfl,rfl,rfl,trivial⟩
   ·rw[decide_eq_false h2];refine o2 ?_;refine W.nil (W.Dm rfl ?_);exact GoF.norm [(1,hK J aF),(2,gv),(3,zI m),(4,bo s),(8,bo (s+1)),(9,bo (s+2))] ⟨rfl,rfl,rfl,rfl,rfl,rfl,trivial⟩ fun g=>more (by unfold shl;rw[h0,decide_eq_false h1,decide_eq_false h2];rfl)
  obtain⟨rfl,H,hn,lJ,aX⟩:=h;show bl _ _ _ _ _ _ _ _;refine GoF.norm _ aX fun g=>?_;clear aX;have q0:U.get s=some (.cells (prC true p)):=H.get _ (.tail _ (.tail _ (.head _)));have k3:U.get (s+1)=some (.cells dm):=H.get _ (.tail _ (.head _));have Bf:U.get (s+2)=some (.cells (eQ p.rule p.form (zI (shl p.rule aF (io.getD []) p.aY m)) .aB .aB)):=H.get _ (.head _);generalize tB:shl p.rule aF (io.getD []) p.aY m=oq at Bf H;refine ae ?_;clear H;refine GoF.block (GoF.loop (fun q F U=>∃j w v xs,j+q=p.sub.length∧lD (fun i=>s+3≤i∧v.bn ≠some i) U w ((p.aG.take j).map fun x=>((x.getD []).map (gk m)).map zI)∧gj U (some 8) v xs∧xs.length=j∧(∀i (h:i<xs.length) (h':i<p.sub.length),∃aK hi,s+3≤aK∧hi≤U.next∧(∀J,v.bn =some J→J<aK∨hi≤J)∧(∀J,w.bn =some J→J<aK∨hi≤J)∧lI U (fun i=>aK≤i∧i<hi) (2*d+4) xs[i] (.ag (prC true (shP aF m p.sub[i] (io.getD []++(p.aG.getD i none).getD [])))))∧b2 I U∧(∀J,v.bn =some J→s+3≤J)∧s+3≤U.next∧U.get s=some (.cells (prC true p))∧U.get (s+1)=some (.cells dm)∧U.get (s+2)=some (.cells (eQ p.rule p.form (zI oq) v w))∧sat [(1,hK J aF),(2,gv),(3,zI m),(4,bo s),(8,bo (s+1)),(9,bo (s+2)),(10,ay j)] F) (fun q F U aZ=>?_) p.sub.length ⟨0,.aB,.aB,[],by omega,.nil,.nil,rfl,(fun i h=>by simp at h),lJ,(fun J h=>by cases h),hn,q0,k3,Bf,rfl,rfl,rfl,rfl,rfl,rfl,rfl,trivial⟩);obtain⟨j,w,v,xs,az,hw,av,j8,dj,lJ,i_,hn,hp,al,ab,aX⟩:=aZ;refine GoF.norm _ aX fun F=>?_;clear aX q0 k3 Bf;have H:Has U [(s,prC true p),(s+1,dm),(s+2,eQ p.rule p.form (zI oq) v w)]:=((Has.nil.cons ab (by simp)).cons al (by simp)).cons hp (by simp);by_cases bS:j<p.sub.length
  ·have yP:j<(p.cv.getD []).length:=by omega
   have Bg:j<p.aG.length:=by omega
   have cV:=fG Bg;have ns:=aS Bg;have pY:=aS bS;have gX:∀J,idxSlA none (cO J p.cv) j=some (.cZ J (b5 J p.aG[j])):=fun J=>pR yP;have Bh:∀J,idxSlA (some 8) (cU J p.bm) j=some (.cZ J (.ag (prC J p.sub[j]))):=fun J=>nC (show j<(p.bm.getD []).length from bS);have wK:p.aG.getD j none=p.aG[j]:=by rw[fU,a9 Bg];rfl
   generalize c4c:p.aG[j]=jJ at cV ns gX wK;generalize mG:p.sub[j]=x at pY Bh;have b5e:=ee jJ ns;have b5f:=kR jJ ns;refine ae ?_;refine W.len rfl rfl rfl gR ?_;refine ae ?_;refine GoF.block (GoF.loop (fun q' F a5=>∃i u,i+q'=(jJ.getD []).length∧gj a5 none u ((((jJ.getD []).take i).map (gk m)).map zI)∧(∀J,u.bn =some J→U.next≤J)∧b2 U a5∧sat [(1,hK J aF),(2,gv),(3,zI m),(4,bo s),(8,bo (s+1)),(9,bo (s+2)),(10,ay j),(11,u),(12,ay i)] F) (fun q' F a5 aZ=>?_) (jJ.getD []).length ⟨0,.aB,by omega,.nil,(fun J ab=>by cases ab),b2.refl,rfl,rfl,rfl,rfl,rfl,rfl,rfl,rfl,rfl,trivial⟩);obtain⟨i,u,hi,hu,vd,M,aX⟩:=aZ;refine GoF.norm _ aX fun F=>?_;clear aX;have H:=H.aF M.2;by_cases j6:i<(jJ.getD []).length
   ·have m7:∀J,idxSlA none (b5 J jJ) i=some (.cZ J (zI (jJ.getD [])[i])):=fun J=>qS j6;have lB:=fG j6;have Yw:=b5f _ (aS j6);generalize(jJ.getD [])[i]=y at m7 lB Yw;have lz:=M.1;refine ae ?_;refine W.cw rfl rfl rfl rfl (gX _) ?_;refine ae ?_
    try (refine W.iG (ad:=none) rfl rfl rfl (iI _ _).2 ?_;refine ae ?_)
    refine W.len rfl rfl rfl ly ?_;refine ae ?_;refine W.cw rfl rfl rfl rfl (gX _) ?_;refine ae ?_
    try (refine W.iG (ad:=none) rfl rfl rfl (iI _ _).2 ?_;refine ae ?_)
    refine W.cw rfl rfl rfl rfl (m7 _) ?_;refine ae ?_;refine W.bin rfl rfl rfl rfl yq ?_;by_cases EZ:y=0
    ·rw[decide_eq_true EZ];refine ae ?_;refine W.pu (zI y) hu.1 rfl rfl rfl rfl rfl rfl rfl rfl rfl (by rw[aJ,aJ,eL];omega) fun v2 bd hR k_ oM n2 br=>?_;refine ae ?_;refine⟨q'-1,by omega,i+1,v2,by omega,⟨?_,fun e=>by rw[lB,gK,gK] at e;simp at e⟩,fun J ab=>by rw[k_] at ab;cases ab;omega,⟨by omega,fun a J ab=>br _ _ (fun iu=>by have:=vd a iu;have:=af.bW ab;omega) (M.2 _ _ ab)⟩,rfl,rfl,rfl,rfl,rfl,rfl,rfl,rfl,rfl,trivial⟩;rw[lB,gK,gK];show Sl bd none v2 (_++[zI (gk m y)]);rw[show gk m y=y from by unfold gk;rw[if_pos EZ,EZ]];exact hR
    ·rw[decide_eq_false EZ];refine ae ?_;refine W.bin rfl rfl rfl rfl (DV Yw.1 qK (by omega)) ?_;refine ae ?_;refine W.pu (zI (y+m)) hu.1 rfl rfl rfl rfl rfl rfl rfl rfl rfl (by rw[aJ,aJ,eL];omega) fun v2 bd hR k_ oM n2 br=>?_;refine ae ?_;refine⟨q'-1,by omega,i+1,v2,by omega,⟨?_,fun e=>by rw[lB,gK,gK] at e;simp at e⟩,fun J ab=>by rw[k_] at ab;cases ab;omega,⟨by omega,fun a J ab=>br _ _ (fun iu=>by have:=vd a iu;have:=af.bW ab;omega) (M.2 _ _ ab)⟩,rfl,rfl,rfl,rfl,rfl,rfl,rfl,rfl,rfl,trivial⟩;rw[lB,gK,gK];show Sl bd none v2 (_++[zI (gk m y)]);rw[show gk m y=y+m from by unfold gk;rw[if_neg EZ]];exact hR
   ·refine ae ?_;refine W.cw rfl rfl rfl rfl (gX _) ?_;refine ae ?_
    try (refine W.iG (ad:=none) rfl rfl rfl (iI _ _).2 ?_;refine ae ?_)
    refine W.len rfl rfl rfl ly ?_;refine ae ?_;refine GoF.exit ?_;show bl _ _ _ _ _ _ _ _;refine ae ?_;rw[j7 (by omega)] at hu;have lz:=M.1;have b5g:lD (fun i=>s+3≤i∧v.bn ≠some i) a5 w _:=hw.aF (gY:=fun i=>s+3≤i∧v.bn ≠some i) fun i J hi ab=>⟨M.2 i J ab,hi⟩
    have b5h:gj a5 (some 8) v _:=av.aF fun i J _ ab=>M.2 i J ab;obtain⟨us,kJ,oY,NU,b4L,Ej⟩:=b5g.ex;have yZ:u.cells=[u]∧u.val=true∧conf none u=true:=⟨hu.1.cells0,hu.1.Ik,hu.1.mx⟩
    refine W.pu u oY rfl rfl rfl (Is rfl ⟨yZ.1,yZ.2.1⟩) rfl yZ.2.2 rfl rfl rfl (by rw[kJ,aJ,eL];omega) fun bK bd jC k_ oM n2 br=>?_;have JG:∀J,v.bn =some J→J<U.next:=fun J ab=>av.1.lt ab;have bx:∀J,u.bn =some J→(s+3≤J∧v.bn ≠some J)∧w.bn ≠some J:=fun J ab=>⟨⟨by have:=vd J ab;omega,fun e=>by have:=vd J ab;have:=JG J e;omega⟩,fun e=>by have:=vd J ab;have:=hw.lt e;omega⟩
    have hY:=lD.push (P:=fun i=>s+3≤i∧v.bn ≠some i) (x:=((jJ.getD []).map (gk m)).map zI) kJ Ej hu bx jC k_ (by omega) ⟨by omega,fun e=>by have:=JG _ e;omega⟩ br;have ew:∀c J,c<s+3→a5.get c=some J→bd.get c=some J:=fun c J ah ab=>br _ _ (fun e=>by have:=(hw.at_ e).1;omega) ab;have hR:gj bd (some 8) v _:=b5h.aF fun i J hi ab=>br _ _ (fun e=>(hw.at_ e).2 hi) ab;have H:Has bd [(s,prC true p),(s+1,dm),(s+2,eQ p.rule p.form (zI oq) v w)]:=((Has.nil.cons (ew _ _ (by omega) (H.get _ (.tail _ (.tail _ (.head _))))) (by simp)).cons (ew _ _ (by omega) (H.get _ (.tail _ (.head _)))) (by simp)).cons (ew _ _ (by omega) (H.get _ (.head _))) (by simp);refine ae ?_;refine W.st (aQ:=eQ p.rule p.form (zI oq) v bK) H 2 rfl rfl rfl rfl jC.mx (by rw[jC.cells0];rfl) fun cA gU H cm=>?_;have Ef:lD (fun i=>s+3≤i∧v.bn ≠some i) cA bK _:=hY.aF (gY:=fun i=>s+3≤i∧v.bn ≠some i) fun i J hi ab=>⟨cm _ _ (by omega) ab,hi⟩
    have y0:gj cA (some 8) v _:=hR.aF fun i J hi ab=>cm _ _ (by have:=i_ i hi;omega) ab;refine ae ?_;refine W.lZ (c:=eQ p.rule p.form (zI oq) v bK) (v:=v) H rfl rfl rfl (.tail _ (.tail _ (.head _))) rfl (od av.1.lf) ?_;refine ae ?_;refine W.lZ (c:=prC true p) (v:=cU true p.bm) H rfl rfl rfl (.head _) rfl (pV (I:=cA) _ _ _ (OZ cA)) ?_;refine ae ?_;refine W.cw rfl rfl rfl rfl (Bh _) ?_;refine ae ?_;refine W.Aa (v:=.ag (prC true x)) rfl rfl rfl (fun s=>rL _ _ rfl (by show(if conf (some 8) (.ag (prC true x)) then some (AV.ag (prC true x)) else none)=_;rw[if_pos (dQ true x).2.2])) (pV (I:=cA) _ _ _ (aj _ pY cA)) ?_;refine ae ?_;refine W.fJ (c:=[]) H rfl rfl rfl rfl fun dk h7 H dN=>?_;refine ae ?_;refine W.lZ (c:=prC true p) (v:=cO true p.cv) H rfl rfl rfl (.tail _ (.head _)) rfl (pV (I:=dk) _ _ _ (At (k:=b.aV+997) true p.cv)) ?_;refine ae ?_;refine W.cw rfl rfl rfl rfl (gX _) ?_;refine ae ?_;refine W.Aa (v:=b5 true jJ) rfl rfl rfl (fun s=>rL _ _ rfl (by show(if conf none (b5 true jJ) then some (b5 true jJ) else none)=_;rw[if_pos (iI true jJ).2])) (pV (I:=dk) _ _ _ (rX (k:=b.aV+998) true jJ)) ?_;refine ae ?_;have pj:∀(I:af) (a:Option (List Int)),newOf I (b5 true a)=some ((a.getD []).map zI):=fun I a=>by cases a<;>rfl
    have qE:Sl dk none (.ak cA.next 0 0 none (some 0)) (([]:List Int).map zI):=.ak cA.next (some 0) [] [] (H.get _ (.head _)) (fun y aw=>by simp at aw) (.inr rfl);have mA:b2 I dk:=⟨by have:=lJ.1;omega,fun i J ab=>by have:=af.bW ab;exact dN _ _ (cm _ _ (by omega) (br _ _ (fun e=>by have:=(hw.at_ e).1;omega) (M.2 _ _ (lJ.2 _ _ ab))))⟩
    obtain⟨vQ,oh,Eg,vP,Wd,r6,Eh,b5i⟩:=Vy (l:=[]) qE (Yv.aF mA).new (by simp only[lx];omega) ⟨_,rfl⟩;have H:=(show Has dk [(s,prC true p),(s+1,dm),(s+2,eQ p.rule p.form (zI oq) v bK)] from((Has.nil.cons (H.get _ (.tail _ (.tail _ (.tail _ (.head _))))) (by simp)).cons (H.get _ (.tail _ (.tail _ (.head _)))) (by simp)).cons (H.get _ (.tail _ (.head _))) (by simp))
    have c4d:s+3≤cA.next:=by omega
    have H:=(show Has oh [(s,prC true p),(s+1,dm),(s+2,eQ p.rule p.form (zI oq) v bK)] from((Has.nil.cons (r6 _ _ (fun e=>by have:=ia e;omega) (H.get _ (.tail _ (.tail _ (.head _))))) (by simp)).cons (r6 _ _ (fun e=>by have:=ia e;omega) (H.get _ (.tail _ (.head _)))) (by simp)).cons (r6 _ _ (fun e=>by have:=ia e;omega) (H.get _ (.head _))) (by simp))
    refine W.val (v:=vQ) (aq:=oh) rfl rfl (IA rfl rfl Eg) ?_;refine ae ?_;obtain⟨O0,fD,b5j,A2,c4e,yA,EG,b5k⟩:=Vy vP (pj oh jJ) (by simp only[cR,lx];omega) b5i;have Bi:∀J,vQ.bn =some J→cA.next≤J:=fun J ab=>by
     rcases Eh J ab with h|h
     ·cases h;exact o _
     ·omega
    have c4f:∀J,O0.bn =some J→cA.next≤J:=fun J ab=>by
     rcases EG J ab with h|h
     ·exact Bi J h
     ·omega
    have H:=(show Has fD [(s,prC true p),(s+1,dm),(s+2,eQ p.rule p.form (zI oq) v bK)] from((Has.nil.cons (yA _ _ (fun e=>by have:=Bi _ e;omega) (H.get _ (.tail _ (.tail _ (.head _))))) (by simp)).cons (yA _ _ (fun e=>by have:=Bi _ e;omega) (H.get _ (.tail _ (.head _)))) (by simp)).cons (yA _ _ (fun e=>by have:=Bi _ e;omega) (H.get _ (.head _))) (by simp))
    refine W.val (v:=O0) (aq:=fD) rfl rfl (IA rfl rfl b5j) ?_;refine ae ?_;rw[yi] at A2;have jb:b2 I fD:=⟨by have:=lJ.1;omega,fun i J ab=>by have:=af.bW ab;exact yA _ _ (fun e=>by have:=Bi _ e;omega) (r6 _ _ (fun e=>by have:=ia e;omega) (mA.2 _ _ ab))⟩
    have b5l:((some (io.getD []++jJ.getD [])).getD []).length+d*2^20≤2^30:=by
     show(io.getD []++jJ.getD []).length+_≤_;rw[cR];omega
    refine W.dX rfl rfl rfl (aA x (by omega) (mE _ pY) (fun y aw=>EY y (p.pS pY aw)) O0 (some (io.getD []++jJ.getD [])) fD (.inr ⟨_,rfl,A2,b5k⟩) b5l) fun r Yx ⟨c,dA,se,JH,EU⟩=>⟨_,dA,?_⟩
    have H:=H.aF JH.2;have c4g:=JH.1;obtain⟨bw,cQ,eA,ek,hT,jI,jF,kv,rfl⟩:=u9 se;generalize b5m:Yx.next=b5n;refine ae ?_;refine W.fJ (c:=[bw,cQ,eA,ek,hT,jI,jF,kv]) H b5m rfl rfl rfl fun g0 n6 H hs=>?_;refine ae ?_;have b5o:∀i J,i<cA.next→cA.get i=some J→fD.get i=some J:=fun i J hi ab=>yA _ _ (fun e=>by have:=Bi _ e;omega) (r6 _ _ (fun e=>by cases e;omega) (dN _ _ ab));have O1:∀i J,i<cA.next→cA.get i=some J→g0.get i=some J:=fun i J hi ab=>hs _ _ (JH.2 _ _ (b5o i J hi ab));have E0:gj g0 (some 8) v _:=y0.aF fun i J hi ab=>O1 i J (by have:=JG i hi;omega) ab;have Ow:lD (fun i=>s+3≤i∧v.bn ≠some i) g0 bK _:=Ef.aF (gY:=fun i=>s+3≤i∧v.bn ≠some i) fun i J hi ab=>⟨O1 i J (af.bW ab) ab,hi⟩
    refine W.ap (.ag [bw,cQ,eA,ek,hT,jI,jF,kv]) [] E0.1 (by show(match g0.get b5n with|some (.cells c)=>elems (some 8) 1 (c.drop 0)|_=>none)=_;rw[H.get _ (.head _)];rfl) (fun z bg=>by rw[d_.1 bg];rfl) (by rw[j8];show(3*(_+1)+2000)*_≤_;omega) rfl rfl rfl rfl fun a2 fk p7 o9 _ nu gI=>?_;have y3:∀c J,c<s+3→g0.get c=some J→fk.get c=some J:=fun c J ah ab=>gI _ _ (fun e=>by have:=i_ c e;omega) ab;have H:=(show Has fk [(s,prC true p),(s+1,dm),(s+2,eQ p.rule p.form (zI oq) v bK)] from((Has.nil.cons (y3 _ _ (by omega) (H.get _ (.tail _ (.tail _ (.tail _ (.head _)))))) (by simp)).cons (y3 _ _ (by omega) (H.get _ (.tail _ (.tail _ (.head _))))) (by simp)).cons (y3 _ _ (by omega) (H.get _ (.tail _ (.head _)))) (by simp))
    refine ae ?_;refine W.st (aQ:=eQ p.rule p.form (zI oq) a2 bK) H 2 rfl rfl rfl rfl p7.mx (by rw[p7.cells0];rfl) fun j0 wM H ef=>?_;refine ae ?_;have q3:∀i J,i≠s+2→v.bn ≠some i→g0.get i=some J→j0.get i=some J:=fun i J h1 h2 ab=>ef _ _ h1 (gI _ _ h2 ab);have b5p:∀i J,i≠s+2→w.bn ≠some i→U.get i=some J→cA.get i=some J:=fun i J h1 h2 ab=>cm _ _ h1 (br _ _ h2 (M.2 _ _ ab));refine⟨q-1,by omega,j+1,bK,a2,xs++[.ag [bw,cQ,eA,ek,hT,jI,jF,kv]],by omega,?_,⟨p7.aF fun i J hi ab=>ef _ _ (by rw[o9] at hi;cases hi;omega) ab,fun e=>by simp at e⟩,by simp[j8],fun i h h'=>?_,⟨by have:=lJ.1;omega,fun i J ab=>q3 _ _ (by have:=af.bW ab;omega) (fun e=>by have:=i_ i e;have:=af.bW ab;omega) (hs _ _ (JH.2 _ _ (jb.2 _ _ ab)))⟩,fun J ab=>by rw[o9] at ab;cases ab;omega,by omega,H.get _ (.head _),H.get _ (.tail _ (.head _)),H.get _ (.tail _ (.tail _ (.head _))),rfl,rfl,rfl,rfl,rfl,rfl,rfl,trivial⟩
    ·rw[cV,gK];exact Ow.aF fun i J hi ab=>⟨q3 _ _ (by omega) hi.2 ab,hi.1,fun e=>by rw[o9] at e;cases e;have:=af.bW ab;omega⟩
    ·have Xi:∀J,w.bn =some J→J<U.next:=fun J ab=>hw.lt ab;have Yy:∀J,bK.bn =some J→a5.next≤J∧J<cA.next:=fun J ab=>by rw[k_] at ab;cases ab;omega
     by_cases fw:i<xs.length
     ·obtain⟨aK,hi,aP,a0,bF,bU,c6⟩:=dj i fw h';rw[jn fw];exact⟨aK,hi,aP,by omega,fun J ab=>by rw[o9] at ab;cases ab;omega,fun J ab=>by have:=Yy J ab;omega,c6.aF (o _) fun t J ht ab=>⟨q3 _ _ (by omega) (fun e=>by have:=bF _ e;omega) (O1 _ _ (by omega) (b5p _ _ (by omega) (fun e=>by have:=bU _ e;omega) ab)),ht⟩⟩
     ·have e:i=xs.length:=by rw[cR] at h;simp at h;omega
      subst e;refine⟨fD.next,Yx.next,by omega,by omega,fun J ab=>by rw[o9] at ab;cases ab;omega,fun J ab=>by have:=Yy J ab;omega,?_⟩;rw[jG (o _)];simp only[kj,mJ];have ex:p.sub[xs.length]=x:=by rw[←mG];congr 1
      have O2:p.aG.getD xs.length none=jJ:=by rw[j8,wK]
      rw[ex,O2];exact EU.aF (o _) fun t J ht ab=>⟨q3 _ _ (by omega) (fun e=>by have:=JG _ e;omega) (hs _ _ ab),ht⟩
  ·refine ae ?_;refine W.len rfl rfl rfl gR ?_;refine ae ?_;refine GoF.exit ?_;show bl _ _ _ _ _ _ _ _;refine ae ?_;rw[j7 (show p.aG.length≤j by omega)] at hw;refine W.st (aQ:=eQ p.rule p.form (zI oq) v w) H 1 rfl rfl rfl rfl rfl rfl fun cA gU H cm=>?_;refine ae ?_;refine GoF.ret ⟨rfl,_,cT (fR rfl (H.get _ (.tail _ (.head _))) rfl),eQ p.rule p.form (zI oq) v w,rfl,rfl,⟨by have:=lJ.1;omega,fun i J ab=>by have:=af.bW ab;exact cm _ _ (by omega) (lJ.2 _ _ ab)⟩,?_⟩;have OW:lD (fun i=>s+3≤i∧v.bn ≠some i) cA w _:=hw.aF (gY:=fun i=>s+3≤i∧v.bn ≠some i) fun i J hi ab=>⟨cm _ _ (by omega) ab,hi⟩
   have y0:gj cA (some 8) v _:=av.aF fun i J hi ab=>cm _ _ (by have:=i_ i hi;omega) ab;intro k aD dk dN;obtain⟨k,rfl⟩:∃m,k=m+6:=⟨k-6,by omega⟩
   have EV:∀i J,cA.get i=some J→i<cA.next:=fun i J ab=>af.bW ab;have A3:lD (fun i=>s+3≤i∧v.bn ≠some i) dk w _:=OW.aF (gY:=fun i=>s+3≤i∧v.bn ≠some i) fun i J hi ab=>⟨dN _ _ (by have:=EV _ _ ab;omega) ab,hi⟩
   have EW:gj dk (some 8) v _:=y0.aF fun i J hi ab=>dN _ _ (by have:=i_ i hi;have:=EV _ _ ab;omega) ab;have f1:=A3.snap (n:=k+2) fun y aw x hx U=>by
    obtain⟨aH,_,rfl⟩:=bQ.1 aw;obtain⟨n,_,rfl⟩:=bQ.1 hx;rfl
   have k0:(List.zipWith (fun x q=>shP aF m q (io.getD []++x.getD [])) p.aG p.sub).length=p.sub.length:=by rw[vl];omega
   have f2:=EW.yY (m:=k+4) (aO:=(List.zipWith (fun x q=>shP aF m q (io.getD []++x.getD [])) p.aG p.sub).map fun q=>.ag (prC true q)) (Ay (by rw[aJ,k0];omega) fun i a c=>by
    rw[aJ,k0] at c;rw[fQ,zb];obtain⟨aK,hi,aP,a0,bF,bU,c6⟩:=dj i a c;have hg:p.aG.getD i none=p.aG[i]'(by omega):=by rw[fU,a9 (by omega)];rfl
    rw[hg] at c6;exact c6 _ (by omega) dk fun t J ht ab=>dN _ _ (by omega) (cm _ _ (by omega) ab))
   rw[Vx aF m p _ k9,tB];have aM:uP m p.aG=cM ((p.aG.map fun x=>(x.getD []).map (gk m)).map cM):=by unfold uP;rw[eK];rfl
   rw[aM,Yq,eK];rw[eK] at f1;have hf:=p.tl;have kB:=Prf.eY u6;exact OU (by omega) f2 f1
end
theorem b5q{U:af}{k:Nat}{r:List Nat}{F:Fm}{n:Int}{s jB:AV}{mk:kb}(e3:2*F.dep+2≤k)(aD:3≤k)(aj:bh U k s=some jB):bh U (k+1) (.ag (eQ r F (zI n) s (cO true mk)))=some (.ag (eQ r F (zI n) jB (cO true mk))):=by
 obtain⟨k,rfl⟩:∃j,k=j+3:=⟨k-3,by omega⟩
 exact OU e3 aj (At true mk)
section
variable {b:dW}{K:Nat→List AV→AV→Prop}
theorem Yz(hfn:∀g aR r bs,K g aR r→K g aR bs→r=bs)(hh:cY (b.a4 K) Ia x1)(e:b.ext hU=0∧b.pure hU=true)(cl:∀(a:Option (List Int)) (n:Int),(a.getD []).length<2^40→K hU [b5 true a,zI n] (.b (decide (n∈a.getD []))))
  (q:Prf) (n:Int) (y4:Nat) (tD:List AV) (xP:tD.length=8):∀(d:Nat) (p:Prf),d≤400→Prf.sz d p→(∀x∈p.pre,x.aG.length=x.sub.length)→∀(ve:Nat→Prop) (I:af),(∀i,ve i→i<I.next)→lI I ve y4 (.ag tD) (.ag (prC true q))→
  b9 (b.a4 K) 0 (.f (.func Ia) [] []) [.ag (prC true p),zI n,.ag tD] I (fun r U=>∃c,r= .ok (.ag c)∧c.length=8∧b2 I U∧lI U (fun i=>ve i∨(I.next≤i∧i<U.next)) (2*d+4+y4) (.ag c) (.ag (prC true (ga n q p))))
 |0,_,_,h,_,_,_,_,_=>h.elim
 |d+1,p,au,bV,EY,ve,I,Bj,hq=>by
  have aA:=Yz hfn hh e cl q n y4 tD xP d;have u6:=bV;obtain⟨s1,s2,iq,ee,mE⟩:=bV;obtain⟨jO,cC,c0,ej,j1,iz,m9,m_,rfl⟩:=u9 xP;have OZ:∀U:af,bh U (b.aV+1000) (cU true p.bm)=some (cU true p.bm):=fun U=>ES (fun u hu=>Prf.eY (mE u hu)) (by omega) U;have aj:∀u∈p.sub,∀U:af,bh U (b.aV+1000) (.ag (prC true u))=some (.ag (prC true u)):=fun u hu U=>sd (Prf.eY (mE u hu)) (by omega) U;have es:(p.bm.getD []).length=p.sub.length:=rfl;have em:(p.cv.getD []).length=p.aG.length:=rfl;have k9:=EY p p.oi;have u2:=b0j n q p k9;refine W.qQ hh.e hh.p hh.f rfl rfl rfl fun z=>?_;have H:Has I []:=Has.nil;generalize hl:I.next=s at Bj;refine ae ?_;refine W.en (c:=prC true p) H hl rfl rfl rfl (dQ true p).1 (dQ true p).2.1 fun fZ cG H bE=>?_;refine ae ?_;refine W.en (c:=[jO,cC,c0,ej,j1,iz,m9,m_]) H cG rfl rfl rfl rfl rfl fun b1 n2 H br=>?_;refine ae ?_;refine W.bN (c:=dm) H n2 rfl rfl rfl fun bd eh H bb=>?_;have M2:b2 I bd:=⟨by omega,fun i J ab=>bb _ _ (br _ _ (bE _ _ ab))⟩
  refine ae ?_;refine W.bin (v:=.b (eqL p.rule [])) rfl rfl rfl rfl rfl ?_;have loop:(eqL p.rule []&&decide (p.aY=n))=false→∀ {g:Nat→AV},bl (b.a4 K) none [] x1.ntmps (match x1.body with|some (.seq _ (.seq _ c))=>c|_=>.skip) (bC [(1,zI n),(3,bo s),(5,bo (s+1)),(6,bo (s+2))] g) bd (fun x dq aq=>x= .ret∧∃v,qP aq dq x1.results=some v∧∃c,dM.ok v= .ok (.ag c)∧c.length=8∧b2 I aq∧lI aq (fun i=>ve i∨(s≤i∧i<aq.next)) (2*(d+1)+4+y4) (.ag c) (.ag (prC true (ga n q p)))):=fun h0 {g}=>by
   rw[h0,cond_false] at u2;show bl (b.a4 K) none [] x1.ntmps (.seq _ (.seq _ _)) _ _ _;refine ae ?_;refine W.bN (c:=dm) H eh rfl rfl rfl fun bG gU H cm=>?_;refine ae ?_;refine W.st (aQ:=prC true p) H 0 rfl rfl rfl rfl rfl rfl fun cA h7 H dN=>?_;refine ae ?_;refine W.st (aQ:=eQ p.rule p.form (zI p.aY) .aB (cO true p.cv)) H 0 rfl rfl rfl rfl rfl rfl fun dk sQ H k7=>?_;refine ae ?_;have hn:s+4≤dk.next:=by omega
   have mA:b2 I dk:=⟨by omega,fun i J ab=>k7 _ _ (by have:=af.bW ab;omega) (dN _ _ (by have:=af.bW ab;omega) (cm _ _ (M2.2 _ _ ab)))⟩
   have q0:dk.get s=some (.cells (prC true p)):=H.get _ (.tail _ (.tail _ (.tail _ (.head _))));have z3:dk.get (s+1)=some (.cells [jO,cC,c0,ej,j1,iz,m9,m_]):=H.get _ (.tail _ (.tail _ (.head _)));have k3:dk.get (s+2)=some (.cells dm):=H.get _ (.tail _ (.head _));have Bf:dk.get (s+3)=some (.cells (eQ p.rule p.form (zI p.aY) .aB (cO true p.cv))):=H.get _ (.head _);clear H;refine GoF.block (GoF.loop (fun k F U=>∃j v xs,j+k=p.sub.length∧gj U (some 8) v xs∧xs.length=j∧(∀i (h:i<xs.length) (h':i<p.sub.length),∃aK hi,s+4≤aK∧hi≤U.next∧(∀J,v.bn =some J→J<aK∨hi≤J)∧lI U (fun i=>ve i∨(aK≤i∧i<hi)) (2*d+4+y4) xs[i] (.ag (prC true (hj n q (p.aG.getD i none) p.sub[i]))))∧(∀J,v.bn =some J→s+4≤J)∧s+4≤U.next∧b2 I U∧U.get s=some (.cells (prC true p))∧U.get (s+1)=some (.cells [jO,cC,c0,ej,j1,iz,m9,m_])∧U.get (s+2)=some (.cells dm)∧U.get (s+3)=some (.cells (eQ p.rule p.form (zI p.aY) v (cO true p.cv)))∧sat [(1,zI n),(3,bo s),(5,bo (s+1)),(6,bo (s+2)),(7,bo (s+3)),(8,ay j)] F) (fun k F U aZ=>?_) p.sub.length ⟨0,.aB,[],by omega,.nil,rfl,(fun i h=>by simp at h),(fun J h=>by cases h),hn,mA,q0,z3,k3,Bf,rfl,rfl,rfl,rfl,rfl,rfl,trivial⟩);clear q0 z3 k3 Bf;obtain⟨j,v,xs,az,av,j8,dj,i_,hn,lJ,hp,YA,al,ab,aX⟩:=aZ;refine GoF.norm _ aX fun F=>?_;clear aX;have H:Has U [(s,prC true p),(s+1,[jO,cC,c0,ej,j1,iz,m9,m_]),(s+2,dm),(s+3,eQ p.rule p.form (zI p.aY) v (cO true p.cv))]:=(((Has.nil.cons ab (by simp)).cons al (by simp)).cons YA (by simp)).cons hp (by simp);by_cases bS:j<p.sub.length
   ·have yP:j<(p.cv.getD []).length:=by omega
    have Bg:j<p.aG.length:=by omega
    have ns:=aS Bg;have pY:=aS bS;have wK:p.aG.getD j none=p.aG[j]:=by rw[fU,a9 Bg];rfl
    have gX:∀J,idxSlA none (cO J p.cv) j=some (.cZ J (b5 J p.aG[j])):=fun J=>pR yP;have Bh:∀J,idxSlA (some 8) (cU J p.bm) j=some (.cZ J (.ag (prC J p.sub[j]))):=fun J=>nC (show j<(p.bm.getD []).length from bS);generalize p.aG[j]=jJ at ns gX wK;generalize mG:p.sub[j]=x at pY Bh;have b5e:=ee jJ ns;have AH:∀J,v.bn =some J→J<U.next:=fun J ab=>av.1.lt ab;refine ae ?_;refine W.len rfl rfl rfl gR ?_;refine ae ?_;refine W.cw rfl rfl rfl rfl (gX _) ?_;refine ae ?_
    try (refine W.iG (ad:=none) rfl rfl rfl (iI _ _).2 ?_;refine ae ?_)
    refine W.cg hfn e (cl jJ n (by omega)) rfl rfl rfl (g9 (rX (k:=b.aV+998) _ _) rfl) ?_;have fin:∀ {fD g0 fk j0:af} {a2:AV} {c:List AV},b2 U fD→fD.next≤g0.next→(∀i J,fD.get i=some J→g0.get i=some J)→Sl fk (some 8) a2 (xs++[.ag c])→a2.bn =some g0.next→fk.next=g0.next+1→(∀i J,v.bn ≠some i→g0.get i=some J→fk.get i=some J)→j0.next=fk.next→j0.get (s+3)=some (.cells (eQ p.rule p.form (zI p.aY) a2 (cO true p.cv)))→(∀i J,i≠s+3→fk.get i=some J→j0.get i=some J)→
      lI fD (fun i=>ve i∨(U.next≤i∧i<fD.next)) (2*d+4+y4) (.ag c) (.ag (prC true (hj n q jJ x)))→
      gj j0 (some 8) a2 (xs++[.ag c])∧(xs++[AV.ag c]).length=j+1∧(∀i (h:i<(xs++[AV.ag c]).length) (h':i<p.sub.length),∃aK hi,s+4≤aK∧hi≤j0.next∧(∀J,a2.bn =some J→J<aK∨hi≤J)∧lI j0 (fun i=>ve i∨(aK≤i∧i<hi)) (2*d+4+y4) (xs++[AV.ag c])[i] (.ag (prC true (hj n q (p.aG.getD i none) p.sub[i]))))∧(∀J,a2.bn =some J→s+4≤J)∧s+4≤j0.next∧b2 I j0∧j0.get s=some (.cells (prC true p))∧j0.get (s+1)=some (.cells [jO,cC,c0,ej,j1,iz,m9,m_])∧j0.get (s+2)=some (.cells dm)∧j0.get (s+3)=some (.cells (eQ p.rule p.form (zI p.aY) a2 (cO true p.cv))):=fun {fD g0 fk j0 a2 c} jb n6 hs p7 o9 nu gI wM dy ef ah=>by
     have NV:=jb.1;have EI:∀i J,i≠s+3→v.bn ≠some i→fD.get i=some J→j0.get i=some J:=fun i J h1 h2 ab=>ef _ _ h1 (gI _ _ h2 (hs _ _ ab));have ew:∀i J,i≠s+3→v.bn ≠some i→U.get i=some J→j0.get i=some J:=fun i J h1 h2 ab=>EI _ _ h1 h2 (jb.2 _ _ ab);have Bk:∀i,i<s+4→v.bn ≠some i:=fun i hi e=>by have:=i_ i e;omega
     refine⟨⟨p7.aF fun i J hi ab=>ef _ _ (by rw[o9] at hi;cases hi;omega) ab,fun e=>by simp at e⟩,by simp[j8],fun i h h'=>?_,fun J ab=>by rw[o9] at ab;cases ab;omega,by omega,⟨by have:=lJ.1;omega,fun i J ab=>by have:=af.bW ab;exact ew _ _ (by omega) (Bk _ (by omega)) (lJ.2 _ _ ab)⟩,ew _ _ (by omega) (Bk _ (by omega)) hp,ew _ _ (by omega) (Bk _ (by omega)) YA,ew _ _ (by omega) (Bk _ (by omega)) al,dy⟩;by_cases fw:i<xs.length
     ·obtain⟨aK,hi,aP,a0,bF,bU⟩:=dj i fw h';rw[jn fw];exact⟨aK,hi,aP,by omega,fun J ab=>by rw[o9] at ab;cases ab;omega,bU.aF (o _) fun t J ht ab=>⟨by
       rcases ht with ht|ht
       ·have:=Bj _ ht;exact ew _ _ (by omega) (Bk _ (by omega)) ab
       ·exact ew _ _ (by omega) (fun e=>by have:=bF _ e;omega) ab,ht⟩⟩
     ·have e:i=xs.length:=by rw[cR] at h;simp at h;omega
      subst e;refine⟨U.next,fD.next,hn,by omega,fun J ab=>by rw[o9] at ab;cases ab;omega,?_⟩;rw[jG (o _)];simp only[kj,mJ];have ex:p.sub[xs.length]=x:=by rw[←mG];congr 1
      have O2:p.aG.getD xs.length none=jJ:=by rw[j8,wK]
      rw[ex,O2];exact ah.aF (o _) fun t J ht ab=>⟨by
       rcases ht with ht|ht
       ·have:=Bj _ ht;exact EI _ _ (by omega) (Bk _ (by omega)) ab
       ·exact EI _ _ (by omega) (fun e=>by have:=AH _ e;omega) ab,ht⟩
    by_cases h1:n∈jJ.getD []
    ·rw[decide_eq_true h1];refine o2 ?_;refine W.nil (W.Dm rfl ?_);refine W.Hb rfl ?_;refine ae ?_;refine W.lZ (c:=eQ p.rule p.form (zI p.aY) v (cO true p.cv)) (v:=v) H rfl rfl rfl (.tail _ (.tail _ (.tail _ (.head _)))) rfl (od av.1.lf) ?_;refine ae ?_;refine W.lZ (c:=prC true p) (v:=cU true p.bm) H rfl rfl rfl (.head _) rfl (pV (I:=U) _ _ _ (OZ U)) ?_;refine ae ?_;refine W.cw rfl rfl rfl rfl (Bh _) ?_;refine ae ?_;refine W.Aa (v:=.ag (prC true x)) rfl rfl rfl (fun s=>rL _ _ rfl (by show(if conf (some 8) (.ag (prC true x)) then some (AV.ag (prC true x)) else none)=_;rw[if_pos (dQ true x).2.2])) (pV (I:=U) _ _ _ (aj _ pY U)) ?_;refine ae ?_;refine W.fJ (c:=prC true x) H rfl rfl rfl rfl fun g0 n6 H hs=>?_;refine ae ?_;have E0:gj g0 (some 8) v _:=av.aF fun i J hi ab=>hs i J ab;refine W.ap (.ag (prC true x)) [] E0.1 (by show(match g0.get U.next with|some (.cells c)=>elems (some 8) 1 (c.drop 0)|_=>none)=_;rw[H.get _ (.head _)];rfl) (fun z bg=>by rw[d_.1 bg];rfl) (by rw[j8];show(3*(_+1)+2000)*_≤_;omega) rfl rfl rfl rfl fun a2 fk p7 o9 _ nu gI=>?_;have y3:∀c J,c<s+4→g0.get c=some J→fk.get c=some J:=fun c J ah ab=>gI _ _ (fun e=>by have:=i_ c e;omega) ab;have H:=(show Has fk [(s+3,eQ p.rule p.form (zI p.aY) v (cO true p.cv))] from Has.nil.cons (y3 _ _ (by omega) (H.get _ (.tail _ (.tail _ (.tail _ (.tail _ (.head _))))))) (by simp))
     refine ae ?_;refine W.st (aQ:=eQ p.rule p.form (zI p.aY) a2 (cO true p.cv)) H 0 rfl rfl rfl rfl p7.mx (by rw[p7.cells0];rfl) fun j0 wM H ef=>?_;refine ae ?_;obtain⟨f1,f2,f3,f4,f5,f6,f7,f8,f9,f10⟩:=fin .refl (by omega) hs p7 o9 nu gI wM (H.get _ (.head _)) ef (by
      unfold hj;rw[decide_eq_true h1];exact fun k aD a5 _=>sd (Prf.eY (mE _ pY)) (by omega) a5)
     exact⟨k-1,by omega,j+1,a2,_,by omega,f1,f2,f3,f4,f5,f6,f7,f8,f9,f10,rfl,rfl,rfl,rfl,rfl,rfl,trivial⟩
    ·rw[decide_eq_false h1];refine o2 ?_;refine W.nil (W.uI rfl ?_);refine W.Hb rfl ?_;refine ae ?_;refine W.lZ (c:=eQ p.rule p.form (zI p.aY) v (cO true p.cv)) (v:=v) H rfl rfl rfl (.tail _ (.tail _ (.tail _ (.head _)))) rfl (od av.1.lf) ?_;refine ae ?_;refine W.cw rfl rfl rfl rfl (Bh _) ?_;refine ae ?_;refine W.dX rfl rfl rfl (aA x (by omega) (mE _ pY) (fun y aw=>EY y (p.pS pY aw)) ve U (fun i hi=>by have:=Bj i hi;omega) (hq.aF (o _) fun i J hi ab=>⟨lJ.2 _ _ ab,hi⟩)) fun r fD ⟨c,dA,se,jb,EU⟩=>⟨_,dA,?_⟩
     have H:=H.aF jb.2;obtain⟨bw,cQ,eA,ek,hT,jI,jF,kv,rfl⟩:=u9 se;generalize yC:fD.next=gr;refine ae ?_;refine W.fJ (c:=[bw,cQ,eA,ek,hT,jI,jF,kv]) H yC rfl rfl rfl fun g0 n6 H hs=>?_;refine ae ?_;have E0:gj g0 (some 8) v _:=av.aF fun i J hi ab=>hs i J (jb.2 _ _ ab);refine W.ap (.ag [bw,cQ,eA,ek,hT,jI,jF,kv]) [] E0.1 (by show(match g0.get gr with|some (.cells c)=>elems (some 8) 1 (c.drop 0)|_=>none)=_;rw[H.get _ (.head _)];rfl) (fun z bg=>by rw[d_.1 bg];rfl) (by rw[j8];show(3*(_+1)+2000)*_≤_;omega) rfl rfl rfl rfl fun a2 fk p7 o9 _ nu gI=>?_;have y3:∀c J,c<s+4→g0.get c=some J→fk.get c=some J:=fun c J ah ab=>gI _ _ (fun e=>by have:=i_ c e;omega) ab;have H:=(show Has fk [(s+3,eQ p.rule p.form (zI p.aY) v (cO true p.cv))] from Has.nil.cons (y3 _ _ (by omega) (H.get _ (.tail _ (.tail _ (.tail _ (.tail _ (.head _))))))) (by simp))
     refine ae ?_;refine W.st (aQ:=eQ p.rule p.form (zI p.aY) a2 (cO true p.cv)) H 0 rfl rfl rfl rfl p7.mx (by rw[p7.cells0];rfl) fun j0 wM H ef=>?_;refine ae ?_;obtain⟨f1,f2,f3,f4,f5,f6,f7,f8,f9,f10⟩:=fin jb (by omega) hs p7 o9 nu gI wM (H.get _ (.head _)) ef (by
      unfold hj;rw[decide_eq_false h1];exact EU)
     exact⟨k-1,by omega,j+1,a2,_,by omega,f1,f2,f3,f4,f5,f6,f7,f8,f9,f10,rfl,rfl,rfl,rfl,rfl,rfl,trivial⟩
   ·refine ae ?_;refine W.len rfl rfl rfl gR ?_;refine ae ?_;refine GoF.exit ?_;show bl _ _ _ _ _ _ _ _;refine ae ?_;refine W.st (aQ:=eQ p.rule p.form (zI p.aY) v (cO true p.cv)) H 2 rfl rfl rfl rfl rfl rfl fun cA gU H cm=>?_;refine ae ?_;refine GoF.ret ⟨rfl,_,cT (fR rfl (H.get _ (.tail _ (.tail _ (.head _)))) rfl),eQ p.rule p.form (zI p.aY) v (cO true p.cv),rfl,rfl,⟨by have:=lJ.1;omega,fun i J ab=>by have:=af.bW ab;exact cm _ _ (by omega) (lJ.2 _ _ ab)⟩,?_⟩;have y0:gj cA (some 8) v _:=av.aF fun i J hi ab=>cm _ _ (by have:=i_ i hi;omega) ab;intro k aD dk dN;obtain⟨k,rfl⟩:∃m,k=m+6:=⟨k-6,by omega⟩
    have EW:gj dk (some 8) v _:=y0.aF fun i J hi ab=>dN _ _ (.inr (by have:=i_ i hi;have:=af.bW ab;omega)) ab;have k0:(List.zipWith (hj n q) p.aG p.sub).length=p.sub.length:=by rw[vl];omega
    have f2:=EW.yY (m:=k+4) (aO:=(List.zipWith (hj n q) p.aG p.sub).map fun q=>.ag (prC true q)) (Ay (by rw[aJ,k0];omega) fun i a c=>by
     rw[aJ,k0] at c;rw[fQ,zb];obtain⟨aK,hi,aP,a0,bF,bU⟩:=dj i a c;have hg:p.aG.getD i none=p.aG[i]'(by omega):=by rw[fU,a9 (by omega)];rfl
     rw[hg] at bU;exact bU _ (by omega) dk fun t J ht ab=>by
      rcases ht with ht|ht
      ·have:=Bj _ ht;exact dN _ _ (.inl ht) (cm _ _ (by omega) ab)
      ·exact dN _ _ (.inr (by omega)) (cm _ _ (by omega) ab))
    have hf:=p.tl;have kB:=Prf.eY u6;have f3:=b5q (r:=p.rule) (F:=p.form) (n:=p.aY) (mk:=p.cv) (k:=k+5) (by omega) (by omega) f2;have pE:slA true (some 8) ((List.zipWith (hj n q) p.aG p.sub).map fun q=>.ag (prC true q))=cU true (match p.bm with|none=>none|some _=>cM (List.zipWith (hj n q) p.aG p.sub)):=by
     have ux:cU true (cM (List.zipWith (hj n q) p.aG p.sub))=slA true (some 8) ((List.zipWith (hj n q) p.aG p.sub).map fun q=>.ag (prC true q)):=by
      unfold cU;rw[uM]
      congr 1
      exact gl fun q _=>o3 true _
     rw[←ux];cases ib:p.bm with
     |some s=>rfl
     |none=>
      have h0:p.sub=[]:=by show p.bm.getD []=[];rw[ib];rfl
      rw[h0,BA];rfl
    rw[u2];rw[pE] at f3;exact f3
  cases h0:eqL p.rule [] with
  |false=>
   rw[h0] at loop;refine o2 ?_;refine W.nil (W.uI rfl (W.v8 ?_));show bl _ _ _ _ _ _ _ _;exact GoF.norm [(1,zI n),(3,bo s),(5,bo (s+1)),(6,bo (s+2))] ⟨rfl,rfl,rfl,rfl,trivial⟩ fun g=>loop rfl
  |true=>
   rw[h0] at loop u2;refine ae ?_;refine W.bin rfl rfl rfl rfl tq ?_;by_cases h1:p.aY=n
   ·rw[decide_eq_true h1] at u2 ⊢;refine ae ?_;refine W.st (aQ:=[jO,cC,c0,ej,j1,iz,m9,m_]) H 0 rfl rfl rfl rfl rfl rfl fun bG gU H cm=>?_;refine ae ?_;refine GoF.ret ⟨rfl,_,cT (fR rfl (H.get _ (.head _)) rfl),_,rfl,rfl,⟨by omega,fun i J ab=>by have:=af.bW ab;exact cm _ _ (by omega) (M2.2 _ _ ab)⟩,?_⟩;rw[u2];exact hq.aF (by omega) fun i J hi ab=>⟨by have:=Bj _ hi;exact cm _ _ (by omega) (M2.2 _ _ ab),.inl hi⟩
   ·rw[decide_eq_false h1] at loop ⊢;refine o2 ?_;refine W.nil (W.uI rfl (W.v8 ?_));show bl _ _ _ _ _ _ _ _;exact GoF.norm [(1,zI n),(3,bo s),(5,bo (s+1)),(6,bo (s+2))] ⟨rfl,rfl,rfl,rfl,trivial⟩ fun g=>loop rfl
end
def lK(p:Prf)(n:Int)(q:Prf):Nat×Prf:=
 cond (dH p&&dH q) (cond (dh p&&dh q) (cond (fS n p) (cond (decide (kO (ke p q) > 999)) (2,kA) (cond (dH (ga n (ke p q) p)) (0,ga n (ke p q) p) (5,kA))) (6,kA)) (2,kA)) (5,kA)
section
variable {b:dW}{K:Nat→List AV→AV→Prop}
theorem b5r(hfn:∀g aR r bs,K g aR r→K g aR bs→r=bs)(hh:cY (b.a4 K) An UE)(cL:cY (b.a4 K) H_ Hu)(b5s:cY (b.a4 K) Ia x1)(cj:b.ext hU=0∧b.pure hU=true)(JF:∀(a:Option (List Int)) (n:Int),(a.getD []).length<2^40→K hU [b5 true a,zI n] (.b (decide (n∈a.getD []))))
  {d:Nat} (p q:Prf) (n:Int) (au:d≤200) (u6:Prf.sz d p) (OC:Prf.sz d q) (aj:∀U:af,bh U (b.aV+1000) (.ag (prC true p))=some (.ag (prC true p))) (yS:∀U:af,bh U (b.aV+1000) (.ag (prC true q))=some (.ag (prC true q))) (xP:(jr q).length<2^40)
  (aM:b.ext qN=0∧b.pure qN=true) (y1:K qN [.ag (prC true p)] (.b (dH p))) (b5t:K qN [.ag (prC true q)] (.b (dH q))) (b5u:dH p=true→dH q=true→dh p=true→dh q=true→K qN [.ag (prC true (ga n (ke p q) p))] (.b (dH (ga n (ke p q) p))))
  (e2:b.ext o1=0∧b.pure o1=true) (jo:dH p=true→K o1 [.ag (prC true p)] (.b (dh p))) (b5v:dH q=true→K o1 [.ag (prC true q)] (.b (dh q)))
  (dn:b.ext pO=0∧b.pure pO=true) (DL:dH p=true→K pO [.ag (prC true p),zI n] (.b (fS n p)))
  (fe:b.ext wi=0∧b.pure wi=true) (b5w:dH p=true→K wi [.ag (prC true p)] (zI (kO p))) (b5x:dH p=true→dH q=true→dh p=true→dh q=true→K wi [.ag (prC true (ke p q))] (zI (kO (ke p q))))
  (kq:b.ext yg=0∧b.pure yg=true) (b5y:dH q=true→K yg [.ag (prC true q)] (hK false (jr q)))
  (I:af):b9 (b.a4 K) 0 (.f (.func An) [] []) [.ag (prC true p),zI n,.ag (prC true q)] I (fun r U=>tL (2*d+4+(2*d+4)) I U r (lK p n q).1 (lK p n q).2):=by
 refine W.qQ hh.e hh.p hh.f rfl rfl rfl fun z=>?_;have H:Has I []:=Has.nil;generalize hl:I.next=s;refine ae ?_;refine W.en (c:=prC true p) H hl rfl rfl rfl (dQ true p).1 (dQ true p).2.1 fun fZ cG H bE=>?_;refine ae ?_;refine W.en (c:=prC true q) H cG rfl rfl rfl (dQ true q).1 (dQ true q).2.1 fun b1 n2 H br=>?_;refine ae ?_;refine W.bN (c:=dm) H n2 rfl rfl rfl fun bd eh H bb=>?_;have M2:b2 I bd:=⟨by omega,fun i J ab=>bb _ _ (br _ _ (bE _ _ ab))⟩
 have up:∀ {U a5:af} {j:Nat},s≤j→b2 I U→a5.next=U.next→(∀i J,i≠j→U.get i=some J→a5.get i=some J)→b2 I a5:=fun az h hn aD=>⟨by have:=h.1;omega,fun i J ab=>aD _ _ (by have:=af.bW ab;omega) (h.2 _ _ ab)⟩
 refine ae ?_;unfold lK;refine W.cg hfn aM y1 rfl rfl rfl (gO (aj _)) ?_;refine ae ?_;cases h1:dH p with
 |false=>
  refine ae ?_;refine W.st (aQ:=dm) H 0 rfl rfl rfl rfl rfl rfl fun bd eh H bb=>?_;refine ae ?_;exact GoF.ret ⟨rfl,_,jV (fR rfl (H.get _ (.head _)) rfl) (cI rfl),.zero (by omega) (up (by omega) M2 eh bb)⟩
 |true=>
 refine ae ?_;refine W.cg hfn aM b5t rfl rfl rfl (gO (yS _)) ?_;refine ae ?_;cases h2:dH q with
 |false=>
  refine ae ?_;refine W.st (aQ:=dm) H 0 rfl rfl rfl rfl rfl rfl fun bd eh H bb=>?_;refine ae ?_;exact GoF.ret ⟨rfl,_,jV (fR rfl (H.get _ (.head _)) rfl) (cI rfl),.zero (by omega) (up (by omega) M2 eh bb)⟩
 |true=>
 refine ae ?_;refine W.cg hfn e2 (jo h1) rfl rfl rfl (gO (aj _)) ?_;refine ae ?_;cases h3:dh p with
 |false=>
  refine ae ?_;refine W.st (aQ:=dm) H 0 rfl rfl rfl rfl rfl rfl fun bd eh H bb=>?_;refine ae ?_;exact GoF.ret ⟨rfl,_,jV (fR rfl (H.get _ (.head _)) rfl) (cI rfl),.zero (by omega) (up (by omega) M2 eh bb)⟩
 |true=>
 refine ae ?_;refine W.cg hfn e2 (b5v h2) rfl rfl rfl (gO (yS _)) ?_;refine ae ?_;cases aE:dh q with
 |false=>
  refine ae ?_;refine W.st (aQ:=dm) H 0 rfl rfl rfl rfl rfl rfl fun bd eh H bb=>?_;refine ae ?_;exact GoF.ret ⟨rfl,_,jV (fR rfl (H.get _ (.head _)) rfl) (cI rfl),.zero (by omega) (up (by omega) M2 eh bb)⟩
 |true=>
 refine ae ?_;refine W.cg hfn dn (DL h1) rfl rfl rfl (g9 (aj _) rfl) ?_;refine ae ?_;cases ba:fS n p with
 |false=>
  refine ae ?_;refine W.st (aQ:=dm) H 0 rfl rfl rfl rfl rfl rfl fun bd eh H bb=>?_;refine ae ?_;exact GoF.ret ⟨rfl,_,jV (fR rfl (H.get _ (.head _)) rfl) (cI rfl),.zero (by omega) (up (by omega) M2 eh bb)⟩
 |true=>
 refine ae ?_;refine W.cg hfn fe (b5w h1) rfl rfl rfl (gO (aj _)) ?_;refine ae ?_;refine W.cg hfn kq (b5y h2) rfl rfl rfl (gO (yS _)) ?_;refine ae ?_;have hY:hN p q=(jr q).foldl max (kO p):=rfl;refine GoF.block (GoF.loop (fun k F U=>∃j,j+k=(jr q).length∧U=bd∧sat [(1,zI n),(3,bo s),(5,bo (s+1)),(6,bo (s+2)),(8,zI (((jr q).take j).foldl max (kO p))),(9,hK false (jr q)),(10,ay j)] F) (fun k F U aZ=>?_) (jr q).length ⟨0,by omega,rfl,rfl,rfl,rfl,rfl,rfl,rfl,rfl,trivial⟩);obtain⟨j,az,rfl,aX⟩:=aZ;refine GoF.norm _ aX fun F=>?_;clear aX;by_cases bS:j<(jr q).length
 ·have cV:=fG bS;refine ae ?_;generalize(jr q)[j]=y at cV;refine W.DU rfl rfl rfl rfl ?_;refine ae ?_;exact⟨k-1,by omega,j+1,by omega,rfl,rfl,rfl,rfl,rfl,by show zI _=zI _;rw[cV,kW];rfl,rfl,rfl,trivial⟩
 refine ae ?_;refine GoF.exit ?_;show bl _ _ _ _ _ _ _ _;rw[j7 (show(jr q).length≤j by omega),← hY];refine ae ?_;have b5z:∀x∈p.pre,f_ x=true:=fun x hx=>hP.1 h3 x hx;have b5A:∀x∈q.pre,f_ x=true:=fun x hx=>hP.1 aE x hx;refine W.dX rfl rfl rfl (Yu hfn cL cj JF (jr q) false xP (OA h3 aE).1 (by have:=(OA h3 aE).2;omega) d q (by omega) OC b5A .aB none U (.inl rfl) (by show 0+_≤_;omega)) fun r bG ⟨c,dA,se,gu,hM⟩=>⟨_,dA,?_⟩
 have H:=H.aF gu.2;obtain⟨bw,cQ,eA,ek,hT,jI,jF,kv,rfl⟩:=u9 se;refine ae ?_;change lI bG _ _ _ (.ag (prC true (ke p q))) at hM;generalize dc:ke p q=Q at *;refine W.st (aQ:=[bw,cQ,eA,ek,hT,jI,jF,kv]) H 1 rfl rfl rfl rfl rfl rfl fun cA gU H cm=>?_;refine ae ?_;have b4P:=M2.1;have Ee:=gu.1;have iN:b2 I cA:=up (j:=s+1) (by omega) (M2.trans gu) gU cm;have YB:lI cA (fun i=>U.next≤i∧i<bG.next) (2*d+4) (.ag [bw,cQ,eA,ek,hT,jI,jF,kv]) (.ag (prC true Q)):=hM.aF (o _) fun i J hi ab=>⟨cm _ _ (by omega) ab,hi⟩
 refine W.cg hfn fe (b5x h1 h2 h3 aE) rfl rfl rfl (gO (YB.now (by omega))) ?_;refine ae ?_;refine W.bin rfl rfl rfl rfl DQ ?_;by_cases cr:kO Q > 999
 ·simp only[decide_eq_true cr];refine ae ?_;refine W.st (aQ:=dm) H 0 rfl rfl rfl rfl rfl rfl fun dk h7 H dN=>?_;refine ae ?_;exact GoF.ret ⟨rfl,_,jV (fR rfl (H.get _ (.head _)) rfl) (cI rfl),.zero (by omega) (up (by omega) iN h7 dN)⟩
 simp only[decide_eq_false cr];refine ae ?_;refine W.dX rfl rfl rfl (Yz hfn b5s cj JF Q n (2*d+4) _ rfl d p (by omega) u6 (fun x hx=>(Vv (b5z x hx)).1) _ cA (fun i hi=>by omega) YB) fun r dk ⟨aQ,dA,se,mA,b5B⟩=>⟨_,dA,?_⟩
 have H:=H.aF mA.2;have b3j:=mA.1;obtain⟨c8,aP,a0,bF,bU,c6,dL,gC,rfl⟩:=u9 se;generalize b5C:dk.next=dN;refine ae ?_;refine W.bN (c:=dm) H b5C rfl rfl rfl fun oh sQ H k7=>?_;refine ae ?_;refine W.st (aQ:=[c8,aP,a0,bF,bU,c6,dL,gC]) H 0 rfl rfl rfl rfl rfl rfl fun fD vO H gr=>?_;refine ae ?_;have YC:lI fD (fun i=>(U.next≤i∧i<bG.next)∨(cA.next≤i∧i<dk.next)) (2*d+4+(2*d+4)) (.ag [c8,aP,a0,bF,bU,c6,dL,gC]) (.ag (prC true (ga n Q p))):=b5B.aF (o _) fun i J hi ab=>⟨gr _ _ (by omega) (k7 _ _ ab),hi⟩
 have jb:b2 I fD:=up (j:=dN) (by omega) (U:=oh) ⟨by have:=iN.1;omega,fun i J ab=>k7 _ _ (mA.2 _ _ (iN.2 _ _ ab))⟩ vO gr;refine W.cg hfn aM (b5u h1 h2 h3 aE) rfl rfl rfl (gO (YC.now (by omega))) ?_;refine ae ?_;cases de:dH (ga n Q p) with
 |false=>
  refine ae ?_;refine W.st (aQ:=dm) H 1 rfl rfl rfl rfl rfl rfl fun g0 n6 H hs=>?_;refine ae ?_;exact GoF.ret ⟨rfl,_,jV (fR rfl (H.get _ (.tail _ (.head _))) rfl) (cI rfl),.zero (by omega) (up (by omega) jb n6 hs)⟩
 |true=>
 refine ae ?_;refine W.st (aQ:=[c8,aP,a0,bF,bU,c6,dL,gC]) H 1 rfl rfl rfl rfl rfl rfl fun g0 n6 H hs=>?_;refine ae ?_;exact GoF.ret ⟨rfl,_,jV (fR rfl (H.get _ (.tail _ (.head _))) rfl) (cI rfl),_,rfl,rfl,up (by omega) jb n6 hs,YC.aF (o _) fun i J hi ab=>⟨hs _ _ (by omega) ab,by omega,by omega⟩⟩
end
section
variable {b:dW}{K:Nat→List AV→AV→Prop}
structure YD(b:dW)(K:Nat→List AV→AV→Prop)(e d:Nat)(p:Prf)(n:Int)(q:Prf):Prop where
 cp:K m2 [.ag (prC true p)] (.ag (prC true p.nz))
 tD:K m2 [.ag (prC true q)] (.ag (prC true q.nz))
 yp:∀U,bh U (b.aV+1000) (.ag (prC true p.nz))=some (.ag (prC true p.nz))
 E1:∀U,bh U (b.aV+1000) (.ag (prC true q.nz))=some (.ag (prC true q.nz))
 rel:∃iu u v m,(∀I,b9 (b.a4 K) 0 (.f (.func Dz) [] []) [.ag (prC true p.nz)] I (fun r U=>p4 (b.aV+1000) e d I U r iu u))∧(∀I,b9 (b.a4 K) 0 (.f (.func Am) [] []) [.ag (prC true p)] I (fun r U=>tL m I U r iu v))∧m≤b.aV+1000∧K ka [.ag (prC true u),.ag (prC true v)] (.b true)
 O3:∃iu u v m,(∀I,b9 (b.a4 K) 0 (.f (.func yd) [] []) [.ag (prC true p.nz),zI n,.ag (prC true q.nz)] I (fun r U=>p4 (b.aV+1000) e d I U r iu u))∧(∀I,b9 (b.a4 K) 0 (.f (.func An) [] []) [.ag (prC true p),zI n,.ag (prC true q)] I (fun r U=>tL m I U r iu v))∧m≤b.aV+1000∧K ka [.ag (prC true u),.ag (prC true v)] (.b true)
 sp:K ka [.ag (prC true p.nz),.ag (prC true p)] (.b true)
 sq:K ka [.ag (prC true q.nz),.ag (prC true q)] (.b true)
structure b5D(b:dW):Prop where
 cp:b.ext m2=0∧b.pure m2=true
 sp:b.ext ka=0∧b.pure ka=true
 E2:b.ext rT=0∧b.pure rT=true
theorem b5E(hfn:∀g aR r bs,K g aR r→K g aR bs→r=bs)(e3:b5D b)(db:EN b K)(q3:K rT [] (.b true)){e d:Nat}(p q:Prf)(n:Int){O4 O5:Prop}
  (yp:∀U,bh U (b.aV+1000) (.ag (prC true p))=some (.ag (prC true p))) (E1:∀U,bh U (b.aV+1000) (.ag (prC true q))=some (.ag (prC true q)))
  (b5F:∀I,b9 (b.a4 K) 0 (.f (.func Ak) [] []) [.ag (prC true p)] I (fun r U=>∃cE,r= .ok (.b cE)∧(cE=true→O4)∧b2 I U)) (b5G:∀I,b9 (b.a4 K) 0 (.f (.func Ak) [] []) [.ag (prC true q)] I (fun r U=>∃cE,r= .ok (.b cE)∧(cE=true→O5)∧b2 I U))
  (hL:O4→O5→YD b K e d p n q) (body:bB) (hb:ek.body=some body):GoF (b.a4 K) ek.ntmps body (eS [.ag (prC true p),.ag (prC true q),zI n]) ⟨.nil,0⟩ (gi ek.results (.b true)):=by
 cases hb;refine W.args fun z=>?_;have H:Has (⟨.nil,0⟩:af) []:=Has.nil;refine ae ?_;refine W.en (k:=0) (c:=prC true p) H rfl rfl rfl rfl (dQ true p).1 (dQ true p).2.1 fun b1 cG H bE=>?_;refine ae ?_;refine W.en (c:=prC true q) H cG rfl rfl rfl (dQ true q).1 (dQ true q).2.1 fun bd n2 H br=>?_;refine ae ?_;refine W.dX rfl rfl rfl (b5F bd) fun r bG ⟨cE,dA,b5H,gu⟩=>⟨_,dA,?_⟩
 have H:=H.aF gu.2;refine ae ?_;cases cE with
 |false=>
  refine ae ?_;refine W.cg hfn e3.E2 q3 rfl rfl rfl rfl ?_;refine ae ?_;exact GoF.ret ⟨rfl,_,cT (cI rfl),rfl⟩
 |true=>
 refine ae ?_;refine W.dX rfl rfl rfl (b5G bG) fun r cA ⟨cE,dA,b5I,iN⟩=>⟨_,dA,?_⟩
 have H:=H.aF iN.2;refine ae ?_;cases cE with
 |false=>
  refine ae ?_;refine W.cg hfn e3.E2 q3 rfl rfl rfl rfl ?_;refine ae ?_;exact GoF.ret ⟨rfl,_,cT (cI rfl),rfl⟩
 |true=>
 have wT:=hL (b5H rfl) (b5I rfl);refine ae ?_;have b5J:AV.eqb (b.aV+1000) (.ag (prC true p)) (.ag (prC true p))=true:=pV _ _ _ (yp ⟨.nil,0⟩);have b5K:AV.eqb (b.aV+1000) (.ag (prC true q)) (.ag (prC true q))=true:=pV _ _ _ (E1 ⟨.nil,0⟩);refine W.lZ (v:=.ag (prC true p)) H rfl rfl rfl (.tail _ (.head _)) rfl b5J ?_;refine ae ?_;refine W.lZ (v:=.ag (prC true q)) H rfl rfl rfl (.head _) rfl b5K ?_;refine ae ?_;generalize b5L:cA.next=cm;refine W.bN (c:=dm) H b5L rfl rfl rfl fun dk h7 H dN=>?_;refine ae ?_;refine W.bN (c:=dm) H h7 rfl rfl rfl fun oh sQ H k7=>?_;refine ae ?_;refine W.cg hfn e3.cp wT.cp rfl rfl rfl (gO (yp _)) ?_;refine ae ?_;refine W.cg hfn e3.cp wT.tD rfl rfl rfl (gO (E1 _)) ?_;refine ae ?_;refine W.st (aQ:=prC true p.nz) H 1 rfl rfl rfl rfl rfl rfl fun fD vO H gr=>?_;refine ae ?_;refine W.st (aQ:=prC true q.nz) H 0 rfl rfl rfl rfl rfl rfl fun g0 n6 H hs=>?_;refine ae ?_;obtain⟨iu,c4h,c4i,XI,rel,b5M,b5N,b5O⟩:=wT.rel;obtain⟨c4j,c4k,A5,c4l,O3,b5P,b5Q,b5R⟩:=wT.O3;refine W.dX rfl rfl rfl (rel g0) fun r fk ⟨yF,c8,aP,a0,bF,bU,c6,dL,gC,dA,b5S,O6,wM,Ju,q9⟩=>⟨_,dA,?_⟩
 have H:=H.aF yF.2;have c4m:=yF.1;generalize b5T:fk.next=gI;refine ae ?_;refine W.mv (c:=[c8,aP,a0,bF,bU,c6,dL,gC]) H b5T rfl rfl rfl rfl rfl rfl fun j0 c4n H ef=>?_;refine ae ?_;refine W.dX rfl rfl rfl (O3 j0) fun r lE ⟨O7,jO,cC,c0,ej,j1,iz,m9,m_,dA,b5U,O8,vy,YE,c5⟩=>⟨_,dA,?_⟩
 have H:=H.aF O7.2;have c4o:=O7.1;generalize b5V:lE.next=qW;refine ae ?_;refine W.mv (c:=[jO,cC,c0,ej,j1,iz,m9,m_]) H b5V rfl rfl rfl rfl rfl rfl fun jY nZ H kn=>?_;refine ae ?_;refine W.dX rfl rfl rfl (b5M jY) fun r b5W ⟨c4p,dA,AS,JI,b5X⟩=>⟨_,dA,?_⟩
 have H:=H.aF JI.2;have c4q:=JI.1;obtain⟨b5Y,ep,hH,CG,b5Z,b6a,b6b,b6c,rfl⟩:=u9 AS;generalize b6d:b5W.next=c4r;refine ae ?_;refine W.mv (c:=[b5Y,ep,hH,CG,b5Z,b6a,b6b,b6c]) H b6d rfl rfl rfl rfl rfl rfl fun nb eg H gG=>?_;refine ae ?_;refine W.dX rfl rfl rfl (b5P nb) fun r b6e ⟨dX,dA,tB,E3,b6f⟩=>⟨_,dA,?_⟩
 have H:=H.aF E3.2;have c4s:=E3.1;obtain⟨b6g,nQ,qH,yN,yO,qZ,b6h,b6i,rfl⟩:=u9 tB;generalize b6j:b6e.next=c4t;refine ae ?_;refine W.mv (c:=[b6g,nQ,qH,yN,yO,qZ,b6h,b6i]) H b6j rfl rfl rfl rfl rfl rfl fun sa ne H A4=>?_;have YF:∀i c,fk.get i=some (.cells c)→sa.get i=some (.cells c):=fun i c ab=>A4 _ _ (E3.2 _ _ (gG _ _ (JI.2 _ _ (kn _ _ (O7.2 _ _ (ef _ _ ab))))));have YG:∀i c,lE.get i=some (.cells c)→sa.get i=some (.cells c):=fun i c ab=>A4 _ _ (E3.2 _ _ (gG _ _ (JI.2 _ _ (kn _ _ ab))));have dO:=b5S sa fun i c _ _ ab=>YF i c ab;have n7:=b5U sa fun i c _ _ ab=>YG i c ab;refine ae ?_;refine W.cg hfn e3.sp b5O rfl rfl rfl (g9 dO (b5X _ b5N sa fun i J _ ab=>A4 _ _ (E3.2 _ _ (gG _ _ ab)))) ?_;refine ae ?_;refine W.cg hfn e3.sp b5R rfl rfl rfl (g9 n7 (b6f _ b5Q sa fun i J _ ab=>A4 _ _ ab)) ?_;refine ae ?_;have b6k:kT e sa d O6 (.ag [c8,aP,a0,bF,bU,c6,dL,gC]):=kT.aF d (fun i _ c ab=>YF i c ab) q9;refine W.dX rfl rfl rfl (OI hfn db d O6 _ sa wM b6k) fun r yU ⟨dA,YH⟩=>⟨_,dA,?_⟩
 have out:∀(i:Nat) (J:AO),(i<cm+2∨gI≤i)→sa.get i=some J→yU.get i=some J:=fun i J hi ab=>YH.2 _ _ (fun h=>by have:=Ju i h;omega) ab;have H:Has yU [(qW,[jO,cC,c0,ej,j1,iz,m9,m_]),(cm+1,prC true q.nz),(cm,prC true p.nz),(1,prC true q),(0,prC true p)]:=by
  have aE:1<cm:=by have:=iN.1;have:=gu.1;omega
  have d0:∀l:List AV,¬(qW<cm+2):=fun _=>by omega
  refine((((Has.nil.cons (out _ _ (by omega) (H.get (0,prC true p) (by simp))) (by simp)).cons (out _ _ (by omega) (H.get (1,prC true q) (by simp))) (by simp)).cons (out _ _ (by omega) (H.get (cm,prC true p.nz) (by simp))) (by simp;omega)).cons (out _ _ (by omega) (H.get (cm+1,prC true q.nz) (by simp))) (by simp;omega)).cons (out _ _ (by omega) (H.get (qW,[jO,cC,c0,ej,j1,iz,m9,m_]) (by simp))) (by simp;omega)
 refine ae ?_;have W9:∀i∈O8,i∉O6:=fun i hi h=>by have:=Ju i h;have:=YE i hi;omega
 have b6l:kT e yU d O8 (.ag [jO,cC,c0,ej,j1,iz,m9,m_]):=kT.aF d (fun i hi c ab=>YH.2 _ _ (W9 i hi) (YG i c ab)) c5;refine W.dX rfl rfl rfl (OI hfn db d O8 _ yU vy b6l) fun r YI ⟨dA,b6m⟩=>⟨_,dA,?_⟩
 have JJ:∀(i:Nat) (J:AO),i<cm+2→yU.get i=some J→YI.get i=some J:=fun i J hi ab=>b6m.2 _ _ (fun h=>by have:=YE i h;omega) ab;have H:Has YI [(cm+1,prC true q.nz),(cm,prC true p.nz),(1,prC true q),(0,prC true p)]:=by
  have aE:1<cm:=by have:=iN.1;have:=gu.1;omega
  refine(((Has.nil.cons (JJ _ _ (by omega) (H.get (0,prC true p) (by simp))) (by simp)).cons (JJ _ _ (by omega) (H.get (1,prC true q) (by simp))) (by simp)).cons (JJ _ _ (by omega) (H.get (cm,prC true p.nz) (by simp))) (by simp;omega)).cons (JJ _ _ (by omega) (H.get (cm+1,prC true q.nz) (by simp))) (by simp;omega)
 refine ae ?_;refine W.cg hfn e3.sp wT.sp rfl rfl rfl (g9 (wT.yp _) (yp _)) ?_;refine ae ?_;refine W.cg hfn e3.sp wT.sq rfl rfl rfl (g9 (wT.E1 _) (E1 _)) ?_;refine ae ?_;refine W.cg hfn e3.E2 q3 rfl rfl rfl rfl ?_;refine ae ?_;exact GoF.ret ⟨rfl,_,cT (cI rfl),rfl⟩
end
end
section
variable [Tok][TokOk]
open Go.RowKit Go.Lyc.T
theorem Bl{a c:Int}(h:zI a=zI c):a=c:=by injection h
theorem b6n{a c:Nat}(h:nD a=nD c):a=c:=by
 have:=Bl h;omega
def b6o:eE:=⟨ny,Fm×Nat,fun x=>[.ag (dG x.1),nD x.2],fun x=>.b (flatB x.2 x.1),fun x y h=>by rw[M4 (ky h).1,b6n (ky h).2]⟩
def b6p:eE:=⟨s8,Prf×Nat,fun x=>[.ag (prC true x.1),ay x.2],fun x=>.bJ [ay x.1.cnt,ay (x.2+x.1.cJ-1)],fun x y h=>by rw[ou (ky h).1,wx (ky h).2]⟩
def b6q:eE:=⟨rV,Prf,fun x=>[.ag (prC true x)],fun x=>.b (dH x),fun x y h=>by rw[ou (l1 h)]⟩
def b6r:eE:=⟨yf,Prf,fun x=>[.ag (prC true x)],fun x=>zI ((bN x).foldl max 0),fun x y h=>by rw[ou (l1 h)]⟩
def b6s:eE:=⟨tc,Prf,fun x=>[.ag (prC true x)],fun x=>.b (dh x),fun x y h=>by rw[ou (l1 h)]⟩
def b6t:eE:=⟨x7,Option (List Int)×Int,fun x=>[b5 true x.1,zI x.2],fun x=>zI (uR (x.1.getD []) x.2),fun x y h=>by rw[Bd (ky h).1,Bl (ky h).2]⟩
def b6u:eE:=⟨og,Option (List Int)×Int,fun x=>[b5 true x.1,zI x.2],fun x=>.b (decide (x.2∈x.1.getD [])),fun x y h=>by rw[Bd (ky h).1,Bl (ky h).2]⟩
def b6v:eE:=⟨te,Prf×Nat,fun x=>[.ag (prC true x.1),ay x.2],fun x=>.b (mz x.1 x.2),fun x y h=>by rw[ou (ky h).1,wx (ky h).2]⟩
def b6w:eE:=⟨tf,Prf,fun x=>[.ag (prC true x)],fun x=>ay (min x.cnt 301),fun x y h=>by rw[ou (l1 h)]⟩
def b6x:eE:=⟨qN,Prf,fun x=>[.ag (prC true x)],fun x=>.b (dH x),fun x y h=>by rw[ou (l1 h)]⟩
def b6y:eE:=⟨hU,Option (List Int)×Int,fun x=>[b5 true x.1,zI x.2],fun x=>.b (decide (x.2∈x.1.getD [])),fun x y h=>by rw[Bd (ky h).1,Bl (ky h).2]⟩
def b6z:eE:=⟨rW,Option (List Int)×Int,fun x=>[b5 true x.1,zI x.2],fun x=>ay (fj (x.1.getD []) x.2),fun x y h=>by rw[Bd (ky h).1,Bl (ky h).2]⟩
def b6A:eE:=⟨yh,Prf,fun x=>[.ag (prC true x)],fun x=>.b (f_ x),fun x y h=>by rw[ou (l1 h)]⟩
def b6B:eE:=⟨o1,Prf,fun x=>[.ag (prC true x)],fun x=>.b (dh x),fun x y h=>by rw[ou (l1 h)]⟩
def b6C:eE:=⟨pO,Prf×Int,fun x=>[.ag (prC true x.1),zI x.2],fun x=>.b (fS x.2 x.1),fun x y h=>by rw[ou (ky h).1,Bl (ky h).2]⟩
def b6D:eE:=⟨tg,Prf,fun x=>[.ag (prC true x)],fun x=>hK false (labP x).2,fun x y h=>by rw[ou (l1 h)]⟩
def b6E:eE:=⟨yg,Prf,fun x=>[.ag (prC true x)],fun x=>hK false (jr x),fun x y h=>by rw[ou (l1 h)]⟩
def b6F:eE:=⟨wi,Prf,fun x=>[.ag (prC true x)],fun x=>zI (kO x),fun x y h=>by rw[ou (l1 h)]⟩
def b6G:eE:=⟨pN,Nat×Nat,fun x=>[ay x.1,ay x.2],fun x=>.s (o8 x.1 x.2),fun x y h=>by rw[wx (ky h).1,wx (ky h).2]⟩
def b6H:eE:=⟨tb,Nat,fun x=>[ay 2,ay x],fun x=>.ag (wN x),fun x y h=>by rw[wx (ky h).2]⟩
def b6I:eE:=⟨ta,Nat,fun x=>[ay 2,ay x],fun x=>.ag (wO x),fun x y h=>by rw[wx (ky h).2]⟩
def b6J:eE:=⟨pM,Nat,fun x=>[ay 2,ay x],fun x=>ay (tH x),fun x y h=>by rw[wx (ky h).2]⟩
def b6K:eE:=⟨s_,Nat,fun x=>[ay 2,ay x],fun x=>.ag (u7 x),fun x y h=>by rw[wx (ky h).2]⟩
def b6L:eE:=⟨m2,Prf,fun x=>[.ag (prC true x)],fun x=>.ag (prC true x.nz),fun x y h=>by rw[ou (l1 h)]⟩
def b6M:eE:=⟨ka,Prf×Prf,fun x=>[.ag (prC true x.1),.ag (prC true x.2)],fun _=>.b true,fun _ _ _=>rfl⟩
def b6N:eE:=⟨rT,Unit,fun _=>[],fun _=>.b true,fun _ _ _=>rfl⟩
def YJ:List eE:=[b6o,b6p,b6q,b6r,b6s,b6t,b6u,b6v,b6w,b6x,b6y,b6z,b6A,b6B,b6C,b6D,b6E,b6F,b6G,b6H,b6I,b6J,b6K,b6L,b6M,b6N]
theorem b6O:YJ.map eE.g=[ny,s8,rV,yf,tc,x7,og,te,tf,qN,hU,rW,yh,o1,pO,tg,yg,wi,pN,tb,ta,pM,s_,m2,ka,rT]:=rfl
abbrev dd(P:Program)(b:dW):=eX P b YJ
structure vf(b:dW):Prop where
 O9:gA b ny HN
 O_:gA b s8 Hg
 Pa:gA b rV Hl
 YK:gA b yf Ho
 Pb:gA b tc Hm
 YL:gA b x7 HP
 YM:gA b og HF
 Pc:gA b te HG
 Pd:gA b tf Ag
 Pe:gA b qN Hp
 Bm:gA b hU HH
 YN:gA b rW HJ
 YO:gA b yh HI
 JK:gA b o1 Hr
 JL:gA b pO wa
 Pf:gA b tg wc
 YP:gA b yg Ht
 YQ:gA b wi Hs
 JM:gA b pN HT
 markTerm:gA b tb HR
 YR:gA b ta HS
 Pg:gA b pM Hy
 markProof:gA b s_ HM
 JN:gq b ye Af
 JO:gq b td x2
 JP:gq b uJ wb
 b6P:gq b H5 MF
 YS:gq b DC Hq
 b6Q:gq b Ib MI
 b6R:gq b Ic Dx
 b6S:gq b H9 MC
 b6T:gq b Am x0
 b6U:gq b H_ Hu
 b6V:gq b Ia x1
 b6W:gq b An UE
 b6X:gq b Ak hT
 b6Y:gq b HW Mz
 b6Z:gq b Dy Hz
 b7a:gq b Dz kv
 b7b:gq b wh MA
 b7c:gq b HU ML
 b7d:gq b x4 Ah
 b7e:gq b HV MM
 b7f:gq b x3 UJ
 YT:gq b Aj Dv
 YU:gq b DA Hn
 b7g:gq b H8 MH
 b7h:gq b H7 MG
 b7i:gq b MO UG
 b7j:gq b MP UH
 b7k:gq b yd My
 b7l:gq b H6 MB
 b7m:gq b DB HE
 b7n:gq b Al Dw
 b7o:gq b H4 UK
 b7p:gq b H3 MJ
 b7q:gq b H0 UI
 b7r:gq b H2 MK
 b7s:gq b HX UF
 b7t:gq b HY MD
 b7u:gq b HZ ME
 cp:b.ext m2=0∧b.pure m2=true
 sp:b.ext ka=0∧b.pure ka=true
 E2:b.ext rT=0∧b.pure rT=true
 lr:b.ext MQ=8
theorem Prf.Bn:∀ {d:Nat} {p:Prf},Prf.sz d p→p.cJ≤d
 |0,_,h=>h.elim
 |d+1,p,⟨h1,h2,h3,aE,ba⟩=>by
  rw[Prf.tm];have:=Prf.Av (n:=d) (l:=p.sub) fun q hq=>Prf.Bn (ba q hq);omega
theorem Prf.Ph{P:Prf→Prop}(hM:∀d p,Prf.sz (d+1) p→P p):∀ {d:Nat} {p:Prf},Prf.sz d p→∀x∈p.pre,P x
 |0,_,h=>h.elim
 |d+1,p,h=>fun x hx=>by
  rw[Prf.gB] at hx;rcases cH.1 hx with rfl|hx
  ·exact hM d _ h
  ·obtain⟨q,hq,hx⟩:=gP.1 hx;exact Prf.Ph hM (h.2.2.2.2 q hq) x hx
theorem Prf.Pj{d:Nat}{p:Prf}(h:Prf.sz d p):∀x∈p.pre,x.sub.length<2^20:=Prf.Ph (P:=fun x=>x.sub.length<2^20) (fun _ _ h=>h.2.1) h
theorem Prf.y5{b:dW}:∀ {d:Nat} {p:Prf},d≤400→Prf.sz d p→∀x∈p.pre,qT b x
 |0,_,_,h=>h.elim
 |d+1,p,au,⟨h1,h2,h3,aE,ba⟩=>fun x hx=>by
  rw[Prf.gB] at hx;rcases cH.1 hx with rfl|hx
  ·exact⟨by omega,by omega,fun l ar=>by have:=aE l ar;omega,fun U=>tk (Fm.eY h1) (by omega) U⟩
  ·obtain⟨q,hq,hx⟩:=gP.1 hx;exact Prf.y5 (by omega) (ba q hq) x hx
theorem Prf.nM{b:dW}{d:Nat}{p:Prf}(au:d≤400)(h:Prf.sz d p)(U:af):bh U (b.aV+1000) (.ag (prC true p))=some (.ag (prC true p)):=sd (Prf.eY h) (by omega) U
theorem kD{n:Nat}(x:Bool):fx (n+1) (.b x):=.leaf rfl rfl
theorem Bo{n:Nat}(x:Int):fx (n+1) (zI x):=.leaf rfl rfl
theorem JQ{n:Nat}(l:List Int):fx (n+2) (hK false l):=by rw[DT];exact ET _
theorem YV(i:Nat):fx 1000 (.ag (wN i)):=.ag (n:=999) fun x hx=>by
 simp only[cH,nP,or_false] at hx;rcases hx with rfl|rfl|rfl
 ·exact kD _
 ·exact .s _
 ·exact .nil
theorem YW(i:Nat):fx 1000 (.ag (wO i)):=.ag (n:=999) fun x hx=>by
 simp only[cH,nP,or_false] at hx;rcases hx with rfl|rfl|rfl|rfl
 ·exact .leaf rfl rfl
 ·exact .s _
 ·exact .nil
 ·exact .nil
theorem YX(i:Nat):fx 1000 (.ag (u7 i)):=.ag (n:=999) fun x hx=>by
 unfold u7 at hx;simp only[cH,nP,or_false] at hx;rcases hx with rfl|rfl|rfl|rfl|rfl|rfl|rfl|rfl<;>first|exact .nil|exact .leaf rfl rfl
theorem Prf.YY{p q:Prf}(h:q∈p.sub):q.cnt<p.cnt:=by
 rw[p.uN];have:q.cnt≤Prf.l2 p.sub:=by
  show q.pre.length≤(p.sub.flatMap Prf.pre).length;obtain⟨s,t,e⟩:=List.append_of_mem h;rw[e,il,eG,cR,cR];omega
 omega
section
variable {P:Program}{b:dW}(hb:oX P b)(aU:vf b)
theorem dd.fn:∀g aR r bs,dd P b g aR r→dd P b g aR bs→r=bs:=eX.fn (by rw[b6O];decide)
include hb aU
theorem Pk(a:Option (List Int))(x:Int)(h:(a.getD []).length<2^62):dd P b hU [b5 true a,zI x] (.b (decide (x∈a.getD []))):=
 eP 10 rfl (a,x) rfl rfl rfl (gQ hb eX.ok _ aU.Bm.1 rfl rfl rfl (ai:=1000) (kD (n:=999) _).1 (kD (n:=999) _).2 (a9T (K:=dd P b) a x h _ rfl))
theorem b7v(a:Option (List Int))(x:Int)(h:(a.getD []).length<2^61):dd P b rW [b5 true a,zI x] (ay (fj (a.getD []) x)):=
 eP 11 rfl (a,x) rfl rfl rfl (gQ hb eX.ok _ aU.YN.1 rfl rfl rfl (ai:=1000) (fx.ay (n:=999) _).1 (fx.ay (n:=999) _).2 (a9U (K:=dd P b) a x h _ rfl))
theorem b7w(a:Option (List Int))(x:Int)(h:(a.getD []).length<2^62):dd P b x7 [b5 true a,zI x] (zI (uR (a.getD []) x)):=
 eP 5 rfl (a,x) rfl rfl rfl (gQ hb eX.ok _ aU.YL.1 rfl rfl rfl (ai:=1000) (Bo (n:=999) _).1 (Bo (n:=999) _).2 (b1a (K:=dd P b) a x h _ rfl))
theorem YZ(a:Option (List Int))(x:Int)(h:(a.getD []).length<2^62):dd P b og [b5 true a,zI x] (.b (decide (x∈a.getD []))):=
 eP 6 rfl (a,x) rfl rfl rfl (gQ hb eX.ok _ aU.YM.1 rfl rfl rfl (ai:=1000) (kD (n:=999) _).1 (kD (n:=999) _).2 (b1b dd.fn a x aU.YL.2 (b7w hb aU a x h) _ rfl))
theorem Pl(l:List Int)(x:Int)(h:l.length<2^62):dd P b hU [hK true l,zI x] (.b (decide (x∈l))):=by
 have:=Pk hb aU (cM l) x (by rw[js];exact h);rwa[js,← DT] at this
theorem b7x(l:List Int)(x:Int)(h:l.length<2^61):dd P b rW [hK true l,zI x] (ay (fj l x)):=by
 have:=b7v hb aU (cM l) x (by rw[js];exact h);rwa[js,← DT] at this
theorem Pm{d:Nat}{p:Prf}(au:d≤400)(h:Prf.sz d p):dd P b rV [.ag (prC true p)] (.b (dH p)):=
 eP 2 rfl p rfl rfl rfl (Nv hb eX.ok _ aU.Pa.1 rfl rfl rfl (ai:=1000) (kD (n:=999) _).1 (kD (n:=999) _).2 (b0P (K:=dd P b) aU.JN.h aU.JO.h aU.JP.h p (Prf.Pj h) (by have:=Prf.Bn h;omega) _ rfl))
theorem b7y{d:Nat}{p:Prf}(au:d≤400)(h:Prf.sz d p):dd P b yf [.ag (prC true p)] (zI ((bN p).foldl max 0)):=
 eP 3 rfl p rfl rfl rfl (Nv hb eX.ok _ aU.YK.1 rfl rfl rfl (ai:=1000) (Bo (n:=999) _).1 (Bo (n:=999) _).2 (b0R (K:=dd P b) aU.JN.h aU.JO.h aU.JP.h p (Prf.Pj h) (by have:=Prf.Bn h;omega) (Prf.y5 au h) _ rfl))
theorem Y0{d:Nat}{p:Prf}(au:d≤400)(h:Prf.sz d p):dd P b tc [.ag (prC true p)] (.b (dh p)):=
 eP 4 rfl p rfl rfl rfl (Nv hb eX.ok _ aU.Pb.1 rfl rfl rfl (ai:=1000) (kD (n:=999) _).1 (kD (n:=999) _).2 (b0Y (K:=dd P b) aU.JN.h aU.JO.h aU.JP.h aU.b6P.h p (Prf.Pj h) (by have:=Prf.Bn h;omega) (Prf.y5 au h) _ rfl))
theorem Y1:∀(d:Nat) (p:Prf) (k:Nat),d≤400→Prf.sz d p→k<2^20→dd P b te [.ag (prC true p),ay k] (.b (mz p k))
 |0,_,_,_,h,_=>h.elim
 |d+1,p,k,au,h,aD=>eP 7 rfl (p,k) rfl rfl rfl (gQ hb eX.ok _ aU.Pc.1 rfl rfl rfl (ai:=1000) (kD (n:=999) _).1 (kD (n:=999) _).2 (a9Q dd.fn p k aD (by have:=h.2.1;omega) (fun u hu U=>Prf.nM (d:=d) (by omega) (h.2.2.2.2 u hu) U) aU.Pc.2 (fun u hu Ku=>Y1 d u (k+1) (by omega) (h.2.2.2.2 u hu) (by omega)) _ rfl))
theorem Y2:∀(d:Nat) (p:Prf),d≤400→Prf.sz d p→dd P b tf [.ag (prC true p)] (ay (min p.cnt 301))
 |0,_,_,h=>h.elim
 |d+1,p,au,h=>eP 8 rfl p rfl rfl rfl (gQ hb eX.ok _ aU.Pd.1 rfl rfl rfl (ai:=1000) (fx.ay (n:=999) _).1 (fx.ay (n:=999) _).2 (a9R dd.fn p (by have:=h.2.1;omega) (fun u hu U=>Prf.nM (d:=d) (by omega) (h.2.2.2.2 u hu) U) aU.Pd.2 (fun u hu=>Y2 d u (by omega) (h.2.2.2.2 u hu)) _ rfl))
theorem JR{d:Nat}{p:Prf}(au:d≤400)(h:Prf.sz d p):dd P b qN [.ag (prC true p)] (.b (dH p)):=
 eP 9 rfl p rfl rfl rfl (gQ hb eX.ok _ aU.Pe.1 rfl rfl rfl (ai:=1000) (kD (n:=999) _).1 (kD (n:=999) _).2 (a9S dd.fn p (Prf.nM au h) aU.Pc.2 (Y1 hb aU d p 0 au h (by omega)) aU.Pd.2 (Y2 hb aU d p au h) _ rfl))
theorem b7z{d:Nat}{p:Prf}(h:Prf.sz (d+1) p):dd P b yh [.ag (prC true p)] (.b (f_ p)):=
 eP 12 rfl p rfl rfl rfl (gQ hb eX.ok _ aU.YO.1 rfl rfl rfl (ai:=1000) (kD (n:=999) _).1 (kD (n:=999) _).2 (a9W (K:=dd P b) p (by have:=h.2.1;omega) (by have:=h.2.2.1;omega) (fun m hm=>by have:=h.2.2.2.1 m hm;omega) _ rfl))
theorem JS:∀(d:Nat) (p:Prf),d≤400→Prf.sz d p→dd P b o1 [.ag (prC true p)] (.b (dh p))
 |0,_,_,h=>h.elim
 |d+1,p,au,h=>eP 13 rfl p rfl rfl rfl (gQ hb eX.ok _ aU.JK.1 rfl rfl rfl (ai:=1000) (kD (n:=999) _).1 (kD (n:=999) _).2 (a9X dd.fn p (by have:=h.2.1;omega) (Prf.nM au h) (fun u hu U=>Prf.nM (d:=d) (by omega) (h.2.2.2.2 u hu) U) aU.YO.2 (b7z hb aU h) aU.JK.2 (fun u hu=>JS d u (by omega) (h.2.2.2.2 u hu)) _ rfl))
theorem Prf.Y3{d:Nat}{p:Prf}(h:Prf.sz (d+1) p)(i:Nat):((p.aG.getD i none).getD []).length<2^20:=by
 rw[fU];by_cases hi:i<p.aG.length
 ·rw[a9 hi];exact h.2.2.2.1 _ (aS hi)
 ·rw[q7 (by omega)];show 0<_;omega
theorem Pn(n:Int):∀(d:Nat) (p:Prf),d≤400→Prf.sz d p→dd P b pO [.ag (prC true p),zI n] (.b (fS n p))
 |0,_,_,h=>h.elim
 |d+1,p,au,h=>eP 14 rfl (p,n) rfl rfl rfl (gQ hb eX.ok _ aU.JL.1 rfl rfl rfl (ai:=1000) (kD (n:=999) _).1 (kD (n:=999) _).2 (b4R dd.fn p n (Prf.y5 au h p p.oi) (Prf.nM au h) (fun u hu U=>Prf.nM (d:=d) (by omega) (h.2.2.2.2 u hu) U) aU.b6Q.h aU.Bm.2 (fun i _=>Pk hb aU _ n (by have:=Prf.Y3 hb aU h i;omega)) aU.JL.2 (fun u hu=>Pn n d u (by omega) (h.2.2.2.2 u hu)) _ rfl))
theorem Y4:∀(d:Nat) (p:Prf),d≤400→Prf.sz d p→p.cnt<2^30→dd P b tg [.ag (prC true p)] (hK false (labP p).2)
 |0,_,_,h,_=>h.elim
 |d+1,p,au,h,ah=>eP 15 rfl p rfl rfl rfl (gQ hb eX.ok _ aU.Pf.1 rfl rfl rfl (ai:=1000) (JQ (n:=998) _).1 (JQ (n:=998) _).2 (b4X dd.fn p (Prf.y5 au h) ah (fun u hu U=>Prf.nM (d:=d) (by omega) (h.2.2.2.2 u hu) U) aU.Pf.2 (fun u hu=>Y4 d u (by omega) (h.2.2.2.2 u hu) (by have:=Prf.YY hu;omega)) aU.b6R.h aU.Bm.2 (fun l n ar=>Pl hb aU l n (by omega)) _ rfl))
theorem b7A{d:Nat}{p:Prf}(au:d≤400)(h:Prf.sz d p)(ah:p.cnt<2^30):dd P b yg [.ag (prC true p)] (hK false (jr p)):=
 eP 16 rfl p rfl rfl rfl (gQ hb eX.ok _ aU.YP.1 rfl rfl rfl (ai:=1000) (JQ (n:=998) _).1 (JQ (n:=998) _).2 (b5b dd.fn p ah (Prf.nM au h) aU.Pf.2 (Y4 hb aU d p au h ah) aU.JL.2 (fun n=>Pn hb aU n d p au h) _ rfl))
theorem Y5{d:Nat}{p:Prf}(au:d≤400)(h:Prf.sz d p)(ha:(bN p).length<2^40):dd P b wi [.ag (prC true p)] (zI (kO p)):=
 eP 17 rfl p rfl rfl rfl (gQ hb eX.ok _ aU.YQ.1 rfl rfl rfl (ai:=1000) (Bo (n:=999) _).1 (Bo (n:=999) _).2 (b0g dd.fn p (Prf.y5 au h) ha aU.YS.h aU.Bm.2 (fun l n ar=>Pl hb aU l n (by omega)) _ rfl))
theorem Po(k i:Nat):dd P b pN [ay k,ay i] (.s (o8 k i)):=
 eP 18 rfl (k,i) rfl rfl rfl (gQ hb eX.ok _ aU.JM.1 rfl rfl rfl (ai:=1000) (fx.s (n:=999) _).1 (fx.s (n:=999) _).2 (b3E (K:=dd P b) k i _ rfl))
theorem b7B(i:Nat):dd P b tb [ay 2,ay i] (.ag (wN i)):=
 eP 19 rfl i rfl rfl rfl (gQ hb eX.ok _ aU.markTerm.1 rfl rfl rfl (ai:=1000) (YV i).1 (YV i).2 (b3F dd.fn aU.JM.2 i (Po hb aU 2 i) _ rfl))
theorem b7C(i:Nat):dd P b ta [ay 2,ay i] (.ag (wO i)):=
 eP 20 rfl i rfl rfl rfl (gQ hb eX.ok _ aU.YR.1 rfl rfl rfl (ai:=1000) (YW i).1 (YW i).2 (b3G dd.fn aU.JM.2 i (Po hb aU 2 i) _ rfl))
theorem Y6(i:Nat)(h:i<2^40):dd P b pM [ay 2,ay i] (ay (tH i)):=
 eP 21 rfl i rfl rfl rfl (gQ hb eX.ok _ aU.Pg.1 rfl rfl rfl (ai:=1000) (fx.ay (n:=999) _).1 (fx.ay (n:=999) _).2 (b3I (K:=dd P b) i h _ rfl))
theorem b7D(i:Nat)(h:i<2^40):dd P b s_ [ay 2,ay i] (.ag (u7 i)):=
 eP 22 rfl i rfl rfl rfl (gQ hb eX.ok _ aU.markProof.1 rfl rfl rfl (ai:=1000) (YX i).1 (YX i).2 (b3J dd.fn aU.JM.2 aU.Pg.2 i (Po hb aU 2 i) (Y6 hb aU i h) _ rfl))
end
inductive ld:AV→AV→Prop
 |ov (v:AV):ld v v
 |ag {l cF:List AV} (ar:cF.length=l.length) (hf:∀x∈cF,conf none x=true) (al:∀i (h:i<l.length) (h':i<cF.length),ld l[i] cF[i]):ld (.ag l) (.ag cF)
 |a7 {J:Bool} {ad:Option Nat} {xs jm:List AV} (ar:jm.length=xs.length) (aj:∀i (h:i<xs.length) (h':i<jm.length),(jm[i]).cells.length=(xs[i]).cells.length∧(conf ad xs[i]=true→conf ad jm[i]=true)∧∀x∈(jm[i]).cells,conf none x=true) (al:∀i (h:i<xs.length) (h':i<jm.length) j (az:j<(xs[i]).cells.length) (ff:j<(jm[i]).cells.length),ld ((xs[i]).cells[j]) ((jm[i]).cells[j])):ld (.a7 J ad xs) (.a7 true ad jm)
theorem R.old{v a2:AV}(h':ld v a2):∀ {w:World} {m:Nat→Option Nat} {O:Nat→Prop} {B:Nat} {u:Value},R w m O B v u→R w m O B a2 u:=by
 induction h' with
 |ov v=>exact fun h=>h
 | @ag l cF ar hf al aA=>
  intro w m O B u h;cases h with
  |ag aj h0 hf0=>exact .ag (by omega) (fun i a c=>aA i (by omega) a (h0 i (by omega) c)) hf
 | @a7 J ad xs jm ar aj al aA=>
  intro w m O B u h;cases h with
  |ma=>
   have:jm=[]:=mI ar;subst this;exact .ma
  |a7 aO db hl ah k3 hl0 hf eU=>
   have bx:jm≠[]→xs≠[]:=fun h e=>h (mI (by rw[ar,e];rfl));rw[←ar];refine .a7 aO (fun h=>⟨(db (bx h)).1,(db (bx h)).2.1,fun h=>by cases h⟩) (fun i h=>?_) (fun i h j az=>?_) (fun i h j az=>?_) (by omega) (fun v av x hx=>?_) (fun h=>eU (bx h))
   ·exact(aj i (by omega) h).2.1 (hl i (by omega))
   ·exact ah i (by omega) j (by have:=(aj i (by omega) h).1;omega)
   ·exact aA i (by omega) h j (by have:=(aj i (by omega) h).1;omega) az (k3 i (by omega) j (by have:=(aj i (by omega) h).1;omega))
   ·obtain⟨i,hi,rfl⟩:=gm av;exact(aj i (by omega) hi).2.2 x hx
theorem SpecEntry.old{P:Program}{env:Env}{eO g:Nat}{aR:List AV}{r bs:AV}(h:SpecEntry P env eO g aR r)(ab:ld r bs):SpecEntry P env eO g aR bs:=
 ⟨h.1,fun k rd w us a b c=>wG (h.2 k rd w us a b c) fun e aW ⟨u,aM,bD,rest⟩=>⟨u,aM,R.old ab bD,rest⟩⟩
def q4:List AV→List AV→Prop
 |[],[]=>True
 |x::xs,y::aO=>ld x y∧q4 xs aO
 |_,_=>False
theorem q4.len:∀ {xs aO:List AV},q4 xs aO→xs.length=aO.length
 |[],[],_=>rfl
 |_::_,_::_,h=>congrArg (· +1) (q4.len h.2)
theorem q4.get:∀ {xs aO:List AV},q4 xs aO→∀j (h:j<xs.length) (h':j<aO.length),ld xs[j] aO[j]
 |_::_,_::_,h,0,_,_=>h.1
 |_::_,_::_,h,j+1,h1,h2=>q4.get h.2 j (by simpa using h1) (by simpa using h2)
theorem ld.map{α:Type}{J:Bool}{n:Nat}{f g:α→List AV}{l:List α}(h:∀x∈l,(g x).length=n∧(∀y∈g x,conf none y=true)∧q4 (f x) (g x)):ld (.a7 J (some n) (l.map fun x=>.ag (f x))) (.a7 true (some n) (l.map fun x=>.ag (g x))):=by
 refine .a7 (by rw[aJ,aJ]) (fun i h1 h2=>?_) (fun i h1 h2 j az ff=>?_)
 ·have h3:i<l.length:=by rwa[aJ] at h1
  obtain⟨aP,a0,bF⟩:=h _ (aS h3);rw[fQ,fQ];refine⟨bF.len.symm,fun _=>?_,a0⟩;show Nat.beq (g l[i]).length n=true;rw[aP];exact fy n
 ·have h3:i<l.length:=by rwa[aJ] at h1
  obtain⟨aP,a0,bF⟩:=h _ (aS h3);have aM:((l.map fun x=>AV.ag (f x))[i]'h1).cells=f l[i]:=by rw[fQ];rfl
  have e2:((l.map fun x=>AV.ag (g x))[i]'h2).cells=g l[i]:=by rw[fQ];rfl
  simp only[aM,e2];exact bF.get j (by rw[aM] at az;exact az) (by rw[e2] at ff;exact ff)
theorem Pp{J:Bool}{a:Option (List Tm)}:conf none (cN J a)=true:=by cases a<;>rfl
theorem Y7{J:Bool}{a:Option (List Fm)}:conf none (dz J a)=true:=by cases a<;>rfl
theorem Y8(J:Bool)(l:List Tm):cN J (some l)= .a7 J (some 3) (l.map fun t=>.ag (dK J t)):=by
 show AV.a7 J (some 3) (l.map (Tm.A J))=_;rw[show l.map (Tm.A J)=l.map fun t=>.ag (dK J t) from gl fun t _=>nA J t]
abbrev E4(J:Bool)(F:Fm):List AV:=[.i .u8 (Int.ofNat F.op),.s F.name,cN J F.c3,dz J F.bm]
theorem b7E(J:Bool)(F:Fm):F.A J= .ag (E4 J F):=by unfold Fm.A;rw[Fm.kM]
theorem Y9(J:Bool)(l:List Fm):dz J (some l)= .a7 J (some 4) (l.map fun t=>.ag (E4 J t)):=by
 show AV.a7 J (some 4) (l.map (Fm.A J))=_;rw[show l.map (Fm.A J)=l.map fun t=>.ag (E4 J t) from gl fun t _=>b7E J t]
theorem Pq:∀(d:Nat) (a:Option (List Tm)),(∀t∈a.getD [],t.dep≤d)→ld (cN false a) (cN true a)
 |_,none,_=>.ov _
 |0,some l,h=>by
  cases l with
  |nil=>exact .map (n:=3) (f:=dK false) (g:=dK true) (l:=[]) fun x hx=>by cases hx
  |cons t l=>have:=h t (by simp);rw[Tm.gJ] at this;omega
 |d+1,some l,h=>by
  rw[Y8,Y8];refine .map fun t ht=>⟨rfl,fun y aw=>?_,.ov _,.ov _,Pq d t.c3 fun u hu=>?_,trivial⟩
  ·simp only[cH,nP,or_false] at aw;rcases aw with rfl|rfl|rfl
   ·rfl
   ·rfl
   ·exact Pp
  ·have h1:=h t ht;have:=Tm.pI (t:=t) hu;omega
theorem Y_:∀(d:Nat) (a:Option (List Fm)),(∀t∈a.getD [],t.dep≤d)→ld (dz false a) (dz true a)
 |_,none,_=>.ov _
 |0,some l,h=>by
  cases l with
  |nil=>exact .map (n:=4) (f:=E4 false) (g:=E4 true) (l:=[]) fun x hx=>by cases hx
  |cons t l=>have:=h t (by simp);rw[Fm.gJ] at this;omega
 |d+1,some l,h=>by
  rw[Y9,Y9];refine .map fun t ht=>⟨rfl,fun y aw=>?_,.ov _,.ov _,Pq d t.c3 fun u hu=>?_,Y_ d t.bm fun u hu=>?_,trivial⟩
  ·simp only[cH,nP,or_false] at aw;rcases aw with rfl|rfl|rfl|rfl
   ·rfl
   ·rfl
   ·exact Pp
   ·exact Y7
  ·have h1:=h t ht;have:=Fm.pI (f:=t) hu;omega
  ·have h1:=h t ht;have:=Fm.jE (f:=t) hu;omega
theorem ld.vG{α:Type}{J:Bool}{f g:α→AV}{l:List α}(h:∀x∈l,(f x).cells=[f x]∧(g x).cells=[g x]∧conf none (g x)=true∧ld (f x) (g x)):ld (.a7 J none (l.map f)) (.a7 true none (l.map g)):=by
 refine .a7 (by rw[aJ,aJ]) (fun i h1 h2=>?_) (fun i h1 h2 j az ff=>?_)
 ·have h3:i<l.length:=by rwa[aJ] at h1
  obtain⟨aP,a0,bF,bU⟩:=h _ (aS h3);rw[fQ,fQ,aP,a0];exact⟨rfl,fun _=>bF,fun x hx=>by rw[d_.1 hx];exact bF⟩
 ·have h3:i<l.length:=by rwa[aJ] at h1
  obtain⟨aP,a0,bF,bU⟩:=h _ (aS h3);have aM:((l.map f)[i]'h1).cells=[f l[i]]:=by rw[fQ];exact aP
  have e2:((l.map g)[i]'h2).cells=[g l[i]]:=by rw[fQ];exact a0
  simp only[aM,e2] at az ⊢;have:j=0:=by simpa using az
  subst this;exact bU
theorem b7F(a:Option (List Int)):ld (b5 false a) (b5 true a):=by
 cases a with
 |none=>exact .ov _
 |some l=>exact .vG (f:=zI) (g:=zI) fun x _=>⟨rfl,rfl,rfl,.ov _⟩
theorem b7G(a:kb):ld (cO false a) (cO true a):=by
 cases a with
 |none=>exact .ov _
 |some l=>exact .vG (f:=b5 false) (g:=b5 true) fun x _=>⟨(M9 _ _ _).1,(M9 _ _ _).1,(iI true x).2,b7F x⟩
theorem q4.prC{p:Prf}(h:ld (cU false p.bm) (cU true p.bm)):q4 (prC false p) (prC true p):=
 ⟨.ov _,.ov _,.ov _,Pq (Tm.g_ p.form.args) _ fun u hu=>Tm.rN hu,Y_ (Fm.g_ p.form.sub) _ fun u hu=>Fm.rN hu,.ov _,h,b7G _,trivial⟩
theorem Pr(p:Prf):∀y∈prC true p,conf none y=true:=fun y aw=>by
 simp only[cH,nP,or_false] at aw;rcases aw with rfl|rfl|rfl|rfl|rfl|rfl|rfl|rfl
 ·rfl
 ·rfl
 ·rfl
 ·exact Pp
 ·exact Y7
 ·rfl
 ·cases p.bm<;>rfl
 ·cases p.cv<;>rfl
theorem Za:∀(d:Nat) (a:Option (List Prf)),(∀t∈a.getD [],t.dep≤d)→ld (cU false a) (cU true a)
 |_,none,_=>.ov _
 |0,some l,h=>by
  cases l with
  |nil=>exact .map (n:=8) (f:=Go.Lyc.prC false) (g:=Go.Lyc.prC true) (l:=[]) fun x hx=>by cases hx
  |cons t l=>have:=h t (by simp);rw[Prf.gJ] at this;omega
 |d+1,some l,h=>by
  have e:∀J,cU J (some l)= .a7 J (some 8) (l.map fun t=>.ag (Go.Lyc.prC J t)):=fun J=>by
   show AV.a7 J (some 8) (l.map (Prf.A J))=_;rw[show l.map (Prf.A J)=l.map fun t=>.ag (Go.Lyc.prC J t) from gl fun t _=>o3 J t]
  rw[e,e];refine .map fun t ht=>⟨rfl,Pr t,q4.prC (Za d t.bm fun u hu=>?_)⟩
  have h1:=h t ht;have:=Prf.jE (p:=t) hu;omega
theorem b7H(p:Prf):ld (.ag (prC false p)) (.ag (prC true p)):=by
 have h:=q4.prC (Za p.dep p.bm fun u hu=>by have:=Prf.jE (p:=p) hu;omega);exact .ag rfl (Pr p) fun i a c=>h.get i a c
def Prf.ok(p:Prf):Prop:=∀x∈p.pre,x.form.ok∧x.sub.length<2^62∧x.aG.length<2^62∧∀l∈x.aG,(l.getD []).length<2^62
theorem Prf.b7I{p q:Prf}(h:p.ok)(hq:q∈p.sub):q.ok:=fun x hx=>h x (Prf.pS hq hx)
theorem Prf.Zb:∀(d:Nat) (p:Prf),p.dep≤d→∀x∈p.pre,x.dep≤p.dep
 |0,p,h=>by have:=Prf.gJ p;omega
 |d+1,p,h=>fun x hx=>by
  rw[Prf.gB] at hx;rcases cH.1 hx with rfl|hx
  ·exact o _
  ·obtain⟨q,hq,hx⟩:=gP.1 hx;have:=Prf.jE hq;have:=Prf.Zb d q (by omega) x hx;omega
abbrev dW.hc(b:dW)(n:Nat):dW:={b with aV:=n}
theorem oX.hc{P:Program}{b:dW}(h:oX P b)(n:Nat):oX P (b.hc n):=⟨h.1,h.2,h.3⟩
theorem vf.hc{b:dW}(h:vf b)(n:Nat):vf (b.hc n):=by
 cases h;constructor<;>assumption
theorem vb.hc{b:dW}(h:vb b)(n:Nat):vb (b.hc n):=by
 cases h;constructor<;>assumption
theorem vc.hc{b:dW}(h:vc b)(n:Nat):vc (b.hc n):=by
 cases h;constructor<;>assumption
theorem Zc(x y:Nat):fx 1000 (.bJ [ay x,ay y]):=.bJ (n:=999) fun z bg=>by
 simp only[cH,nP,or_false] at bg;rcases bg with rfl|rfl<;>exact .ay _
section
variable {P:Program}{b:dW}(hb:oX P b)
include hb
theorem Zd(dG:vb b){d:Nat}{p:Prf}(au:d≤400)(h:Prf.sz d p):dd P b m2 [.ag (prC true p)] (.ag (prC true p.nz)):=
 eP 23 rfl p rfl rfl rfl fun eO=>SpecEntry.old ((Yk hb dG d p au h).1 eO) (b7H p.nz)
theorem Bp(o_:vc b){d:Nat}{u v:Prf}(au:d≤400)(h:Prf.sz d u)(e:u.nz=v.nz):dd P b ka [.ag (prC true u),.ag (prC true v)] (.b true):=
 eP 24 rfl (u,v) rfl rfl rfl (b4K hb o_ au h e).1
theorem b7J(q3:DK P b rT [] (.b true)):dd P b rT [] (.b true):=eP 25 rfl () rfl rfl rfl q3
variable (aU:vf b)
include aU
theorem Ze:∀(d:Nat) (t:Fm) (n:Nat),t.dep≤d→2*d+1≤b.aV+1000→n<2^20→t.ok→dd P b ny [.ag (dG t),nD n] (.b (flatB n t))
 |0,t,_,h,_,_,_=>by rw[Fm.gJ] at h;omega
 |d+1,t,n,h,bg,hn,ab=>
  eP 0 rfl (t,n) rfl rfl rfl (gQ hb eX.ok _ aU.O9.1 rfl rfl rfl (ai:=1000) (kD (n:=999) _).1 (kD (n:=999) _).2
   (a9J dd.fn n hn t ab.a8V ab.a8W (fun u hu=>(ab.arg u hu).len) (fun u hu U=>tk (by have:=Fm.jE hu;omega) (n:=b.aV+1000) (d:=d) (by omega) U) aU.O9.2 (fun m hm u hu=>Ze d u m (by have:=Fm.jE hu;omega) (by omega) (by omega) (ab.n7 u hu)) _ rfl))
theorem Zf:∀(d:Nat) (p:Prf) (k:Nat),p.dep≤d→2*d+4≤b.aV+1000→p.ok→p.cnt<2^20→k+p.cJ<2^20→dd P b s8 [.ag (prC true p),ay k] (.bJ [ay p.cnt,ay (k+p.cJ-1)])
 |0,p,_,h,_,_,_,_=>by have:=Prf.gJ p;omega
 |d+1,p,k,h,bg,ab,ah,ar=>
  eP 1 rfl (p,k) rfl rfl rfl (gQ hb eX.ok _ aU.O_.1 rfl rfl rfl (ai:=1000) (Zc _ _).1 (Zc _ _).2
   (a9M dd.fn p k ah ar (ab p p.oi).2.1 (fun u hu U=>sd (d:=d) (n:=b.aV+1000) (by have:=Prf.jE hu;omega) (by omega) U) aU.O_.2 (fun u hu=>by
    have:=Zf d u (k+1) (by have:=Prf.jE hu;omega) (by omega) (Prf.b7I ab hu) (by have:=Prf.YY hu;omega) (by have:=Prf.my hu;omega);rwa[show k+1+u.cJ-1=k+u.cJ by omega] at this) _ rfl))
theorem Zg(p:Prf)(ab:p.ok)(bg:2*p.dep+4≤b.aV+1000)(I:af):
  b9 (b.a4 (dd P b)) 0 (.f (.func Ak) [] []) [.ag (prC true p)] I (fun r U=>∃cE,r= .ok (.b cE)∧(cE=true→(∀x∈p.pre,tn x)∧p.cJ≤43∧p.cnt≤320∧rZ p=true)∧b2 I U):=by
 have kB:=fun x hx=>Prf.Zb p.dep p (o _) x hx;exact a9O dd.fn aU.b6X.h aU.b6Y.h aU.b6Z.h aU.O9.2 aU.O_.2 p (fun x hx=>⟨(ab x hx).2.1,(ab x hx).2.2.1,(ab x hx).2.2.2,fun U=>tk (n:=b.aV+1000) (o _) (by have:=kB x hx;have:=x.tl;omega) U⟩) (fun x hx=>by
  have:=Ze hb aU x.form.dep x.form 7 (o _) (by have:=kB x hx;have:=x.tl;omega) (by omega) (ab x hx).1;rwa[yo 6] at this) (fun U=>sd (n:=b.aV+1000) (o _) (by omega) U) (fun h1 h2=>by
  have:=Zf hb aU p.dep p 0 (o _) (by omega) ab h1 (by omega);rwa[hO] at this)
end
end
section
variable [Tok][TokOk]
open Go.RowKit Go.Lyc.T
attribute [local irreducible] bL bl e6 eB b9
theorem Prf.p6:∀(d dT:Nat) {p:Prf},d≤dT→Prf.sz d p→Prf.sz dT p
 |0,_,_,_,h=>h.elim
 |d+1,0,_,au,_=>by omega
 |d+1,dT+1,_,au,⟨h1,h2,h3,aE,ba⟩=>⟨Fm.p6 d dT (by omega) h1,h2,h3,aE,fun q hq=>Prf.p6 d dT (by omega) (ba q hq)⟩
theorem Zh:∀(n:Nat) (f:Fm),flatB n f=true→Fm.sz kh (n+1) f
 |0,f,h=>by cases h
 |n+1,f,h=>by
  rw[flatB] at h;simp only[cx,decide_eq_true_eq,hP] at h;obtain⟨⟨h1,h2⟩,h3,aE⟩:=h;exact⟨by omega,by omega,fun u hu=>⟨by have:=h3 u hu;omega,fun _=>trivial,fun w hw=>by rw[l0.1 (h3 u hu)] at hw;cases hw⟩,fun u hu=>Zh n u (aE u hu)⟩
theorem Zi:∀(n:Nat) (p:Prf),(∀x∈p.pre,tn x)→p.cJ≤n→Prf.sz (n+8) p
 |0,p,_,h=>by have:=p.m5;omega
 |n+1,p,h,ar=>by
  obtain⟨h1,h2,h3,aE⟩:=h p p.oi;exact⟨Fm.p6 8 _ (by omega) (Zh 7 _ h3),by omega,by omega,fun l ar=>by have:=aE l ar;omega,fun q hq=>Zi n q (fun x hx=>h x (Prf.pS hq hx)) (by have:=Prf.my hq;omega)⟩
theorem Zj(f:Int→Int):∀(d:Nat) (p:Prf),Prf.sz d p→Prf.sz d (rnP f p)
 |0,_,h=>h.elim
 |d+1,p,⟨h1,h2,h3,aE,ba⟩=>by
  unfold Prf.sz;rw[I9,AT,N1,wH,aJ,aJ];refine⟨h1,h2,h3,fun l ar=>?_,fun q hq=>?_⟩
  ·obtain⟨x,hx,rfl⟩:=bQ.1 ar;have:=aE x hx;cases x with
   |none=>exact this
   |some x=>show(x.map f).length<_;rw[aJ];exact this
  ·obtain⟨x,hx,rfl⟩:=bQ.1 hq;exact Zj f d x (ba x hx)
theorem Ps(m:Int):∀(d:Nat) (p:Prf) (ins:List Int),(∀x∈p.pre,x.aG.length=x.sub.length)→Prf.sz d p→Prf.sz d (raP m p ins)
 |0,_,_,_,h=>h.elim
 |d+1,p,ins,aj,⟨h1,h2,h3,aE,ba⟩=>by
  have h:=aj p p.oi;unfold Prf.sz;rw[Ez h,EA h,Jp h,wH,aJ,vl];refine⟨h1,by omega,h3,fun l ar=>?_,fun q hq=>?_⟩
  ·obtain⟨x,hx,rfl⟩:=bQ.1 ar;have:=aE x hx;cases x with
   |none=>exact this
   |some x=>show(x.map _).length<_;rw[aJ];exact this
  ·obtain⟨i,hi,rfl⟩:=gm hq;rw[zb];rw[vl] at hi;have hm:=aS (show i<p.sub.length by omega);exact Ps m d _ _ (fun x hx=>aj x (Prf.pS hm hx)) (ba _ hm)
theorem Zk(n:Int){d2:Nat}{q:Prf}(hq:Prf.sz d2 q):∀(d:Nat) (p:Prf),(∀x∈p.pre,x.aG.length=x.sub.length)→Prf.sz d p→Prf.sz (d+d2) (ga n q p)
 |0,_,_,h=>h.elim
 |d+1,p,aj,hp=>by
  have h:=aj p p.oi;rw[Js n q p h];cases eqL p.rule []&&decide (p.aY=n) with
  |true=>exact Prf.p6 _ _ (by omega) hq
  |false=>
   obtain⟨h1,h2,h3,aE,ba⟩:=hp;have es:((Prf.mk p.rule p.form p.aY (p.bm.bind fun _=>cM (List.zipWith (hj n q) p.aG p.sub)) p.cv)).sub=List.zipWith (hj n q) p.aG p.sub:=by
    show(p.bm.bind fun _=>cM (List.zipWith (hj n q) p.aG p.sub)).getD []=_;cases ib:p.bm with
    |some s=>exact js _
    |none=>
     have h0:p.sub=[]:=by show p.bm.getD []=[];rw[ib];rfl
     rw[h0,BA];rfl
   rw[cond_false,show d+1+d2=(d+d2)+1 by omega];unfold Prf.sz;rw[es,vl];refine⟨Fm.p6 d _ (by omega) h1,by omega,h3,aE,fun x hx=>?_⟩;obtain⟨i,hi,rfl⟩:=gm hx;rw[zb];rw[vl] at hi;have hm:=aS (show i<p.sub.length by omega);unfold hj;cases decide (n∈(p.aG[i]'(by omega)).getD []) with
   |true=>exact Prf.p6 _ _ (by omega) (ba _ hm)
   |false=>exact Zk n hq d _ (fun x hx=>aj x (Prf.pS hm hx)) (ba _ hm)
theorem Zl{α β ua:Type}{f:α→List β}{g:α→List ua}:∀ {l:List α},(∀x∈l,(f x).length=(g x).length)→(l.flatMap f).length=(l.flatMap g).length
 |[],_=>rfl
 |x::l,h=>by rw[eG,eG,cR,cR,h x (.head _),Zl fun y aw=>h y (.tail _ aw)]
theorem Pt{α:Type}{f:α→List Int}{W:Nat}:∀ {l:List α},(∀x∈l,(f x).length≤W)→(l.flatMap f).length≤l.length*W
 |[],_=>by simp
 |x::l,h=>by
  have h1:=h x (.head _);have h2:=Pt fun y aw=>h y (.tail _ aw);rw[eG,cR,fH,ju];omega
theorem Pu{p:Prf}(h:∀x∈p.pre,tn x):(bN p).length≤p.cnt*101:=Pt fun x hx=>by
 obtain⟨h1,h2,h3,aE⟩:=h x hx;have:=Pt (f:=fun l:Option (List Int)=>l.getD []) (W:=10) aE;show(pT x).length+1≤101;have e:(pT x).length=(x.aG.flatMap fun l=>l.getD []).length:=rfl;have:x.aG.length*10≤100:=by omega
 omega
theorem Zm{f:Option (List Int)→Prf→Prf}:∀ {l:List (Option (List Int))} {s:List Prf},l.length=s.length→(∀x,∀q∈s,(bN (f x q)).length=(bN q).length)→((List.zipWith f l s).flatMap bN).length=(s.flatMap bN).length
 |[],[],_,_=>rfl
 |x::l,q::s,ar,h=>by
  rw[MU,eG,eG,cR,cR,h x q (.head _),Zm (by simpa using ar) fun x q hq=>h x q (.tail _ hq)]
theorem Zn(m:Int):∀(d:Nat) (p:Prf) (ins:List Int),p.cJ≤d→(∀x∈p.pre,x.aG.length=x.sub.length)→(bN (raP m p ins)).length=(bN p).length
 |0,p,_,h,_=>by have:=p.m5;omega
 |d+1,p,ins,ar,aj=>by
  have h:=aj p p.oi;rw[Oe h,Nc p,cR,cR,EA h];have aM:=Zm (f:=fun x q=>raP m q (ins++nzs (x.getD []))) h fun x q hq=>Zn m d q _ (by have:=Prf.my hq;omega) fun y aw=>aj y (Prf.pS hq aw);have e2:=Zl (l:=p.aG) (f:=fun x:Option (List Int)=>(x.getD []).map (gk m)) (g:=fun x=>x.getD []) fun x _=>aJ ..;rw[aM,fH,e2];rfl
def tM(p:Prf):Prop:=(∀x∈p.pre,tn x)∧p.cJ≤43∧p.cnt≤320∧rZ p=true
theorem Zo(d:Nat):Prf.sz (d+2) kA:=⟨⟨by show 0<_;omega,by show 0<_;omega,fun u hu=>(by cases hu),fun u hu=>(by cases hu)⟩,by show 0<_;omega,by show 0<_;omega,fun l ar=>(by cases ar),fun q hq=>(by cases hq)⟩
theorem tM.sz{p:Prf}(h:tM p):Prf.sz 51 p:=Zi 43 p h.1 h.2.1
theorem Pv{p q:Prf}(hq:dh q=true):(raP (hN p q) q.nz []).nz=(ke p q).nz:=
 X7 q.dep q [] [] (o _) (fun x hx=>hP.1 hq x hx) (fun n _=>zz) fun n _ _ h=>h
section
variable {P:Program}{b:dW}(hb:oX P b)(aU:vf b)(dG:vb b)(o_:vc b)
include hb aU
theorem Zp{p:Prf}(h:tM p):OB b (dd P b) 102 51 p.nz:=by
 have bg:Prf.sz 51 p.nz:=(Prf.jc 51 p).2 h.sz;have au:=Prf.eY h.sz;have Ml:=Prf.eY bg;refine⟨Prf.q1 (by omega) bg,fun U=>e7.ai true 51 p.nz (Prf.u0 51 p au (by omega)) (by omega),Prf.nM (by omega) bg,Pm hb aU (by omega) bg,Y0 hb aU (by omega) bg,b7y hb aU (by omega) bg,fun x hx i c hi=>?_,fun x hx l ar c=>?_⟩
 ·have hm:=Prf.Ph (P:=fun x=>∀i,((x.aG.getD i none).getD []).length<2^20) (fun d p h=>Prf.Y3 hb aU h) bg x hx i;exact YZ hb aU _ c (by omega)
 ·have hm:=Prf.JD bg x hx l ar;have:=YZ hb aU (jX l) c (by rw[p5];omega);rwa[p5] at this
end
theorem tN:(5:Nat)≠0:=by decide
theorem tO:(2:Nat)≠0:=by decide
theorem tP:(6:Nat)≠0:=by decide
section
variable {P:Program}{b:dW}(hb:oX P b)(aU:vf b)(dG:vb b)(o_:vc b)
include aU in
theorem Zq:AN b (dd P b):=⟨aU.b7c.h,aU.b7d.h,aU.b7e.h,aU.b7f.h⟩
include aU in
theorem b7K:WE b (dd P b):=⟨aU.b7a.h,aU.JN.h,aU.JO.h,aU.JP.h,aU.b7b.h,Zq aU,aU.YT.h,aU.YU.h,aU.Pa.2,aU.Pb.2⟩
include aU in
theorem b7L:Xx b (dd P b):=⟨aU.b7k.h,aU.b7l.h,aU.b7m.h,aU.b7n.h,Zq aU,aU.YT.h,aU.YU.h,⟨aU.b7j.h,aU.b7g.h,aU.YM.2⟩,⟨aU.b7i.h,aU.b7h.h,aU.lr⟩,aU.Pa.2,aU.Pb.2,aU.YK.2⟩
include hb aU
theorem b7M:EN b (dd P b):=⟨aU.b7o.h,aU.b7p.h,aU.b7q.h,aU.b7r.h,aU.b7s.h,aU.b7t.h,aU.b7u.h,aU.markTerm.2,b7B hb aU,aU.YR.2,b7C hb aU,aU.markProof.2,b7D hb aU,aU.Pg.2,Y6 hb aU⟩
include dG o_
omit dG in
theorem b7N{p:Prf}(h:tM p):∃iu u v m,(∀I,b9 (b.a4 (dd P b)) 0 (.f (.func Dz) [] []) [.ag (prC true p.nz)] I (fun r U=>p4 (b.aV+1000) 102 102 I U r iu u))∧(∀I,b9 (b.a4 (dd P b)) 0 (.f (.func Am) [] []) [.ag (prC true p)] I (fun r U=>tL m I U r iu v))∧m≤b.aV+1000∧dd P b ka [.ag (prC true u),.ag (prC true v)] (.b true):=by
 have sD:=h.sz;have bg:Prf.sz 51 p.nz:=(Prf.jc 51 p).2 sD;have ln:=Prf.p6 51 102 (by omega) bg;have au:=Prf.eY sD;have Ml:=Prf.eY bg;have dJ:=Pu h.1;have c4u:=h.2.2.1;have Zr:(bN p).length<2^40:=by omega
 have ref:∀I,b9 (b.a4 (dd P b)) 0 (.f (.func Am) [] []) [.ag (prC true p)] I (fun r U=>tL (2*51+4) I U r (sf p).1 (sf p).2):=b4O dd.fn aU.b6T.h aU.b6S.h aU.YN.2 (fun l n ar=>b7x hb aU l n (by omega)) p (by omega) sD (Prf.y5 (by omega) sD) (Prf.nM (by omega) sD) Zr aU.Pe.2 (JR hb aU (by omega) sD) aU.YS.h aU.Bm.2 (fun l n ar=>Pl hb aU l n (by omega)) aU.JK.2 (fun _=>JS hb aU 51 p (by omega) sD);have prog:=b1T dd.fn (b7K (P:=P) aU) (e:=102) (d:=102) p.nz (Prf.q1 (by omega) ln) true (fun U=>e7.ai true 102 p.nz (Prf.u0 102 p (by omega) (by omega)) (by omega)) (Prf.nM (by omega) bg) (Pm hb aU (by omega) bg) (Y0 hb aU (by omega) bg) (by rw[A9];exact Zr) (by omega);have b7O:kS p.nz=fun n=>((fj (iK p []) n:Nat):Int):=by funext n;show((fj (iK p.nz []) n:Nat):Int)=_;rw[X0]
 simp only[nK,nL,X0,b7O] at prog;have JT:dd P b ka [.ag (prC true kA),.ag (prC true kA)] (.b true):=Bp hb o_ (d:=2) (by omega) (Zo 0) rfl;cases h1:dH p with
 |false=>
  have e:sf p=(5,kA):=by unfold sf;rw[h1];rfl
  rw[e] at ref;refine⟨5,kA,kA,_,fun I=>(prog I).mono fun r U ⟨M,ah⟩=>?_,ref,by omega,JT⟩;rcases ah with⟨a,rfl⟩|⟨a,_⟩|⟨a,_⟩
  ·exact p4.zero (by omega) M
  ·rw[h1] at a;cases a
  ·rw[h1] at a;cases a
 |true=>
  cases h2:(dh p&&decide ((iK p []).length≤999)) with
  |false=>
   have e:sf p=(2,kA):=by unfold sf;rw[h1,h2];rfl
   rw[e] at ref;refine⟨2,kA,kA,_,fun I=>(prog I).mono fun r U ⟨M,ah⟩=>?_,ref,by omega,JT⟩;rcases ah with⟨a,_⟩|⟨_,_,rfl⟩|⟨_,a,_⟩
   ·rw[h1] at a;cases a
   ·exact p4.zero (by omega) M
   ·rw[h2] at a;cases a
  |true=>
   have e:sf p=(0,rnX (fj (iK p [])) p):=by unfold sf;rw[h1,h2];rfl
   rw[e] at ref;have Pw:=Zj (fun n=>((fj (iK p []) n:Nat):Int)) 102 p.nz ln;refine⟨0,(rnP (fun n=>((fj (iK p []) n:Nat):Int)) p.nz).nz,_,_,fun I=>(prog I).mono fun r U ⟨M,ah⟩=>?_,ref,by omega,Bp hb o_ (d:=102) (by omega) ((Prf.jc _ _).2 Pw) (by rw[EP];exact X5 _ p.dep p (o _))⟩;rcases ah with⟨a,_⟩|⟨_,a,_⟩|⟨_,_,k,rfl,c4,h3,aE⟩
   ·rw[h1] at a;cases a
   ·rw[h2] at a;cases a
   ·exact p4.XY (by omega) M (Prf.q1 (by omega) Pw) (Prf.JD Pw) c4 h3 aE
omit dG in
theorem b7P{p q:Prf}(n:Int)(h:tM p)(g:tM q):∃iu u v m,(∀I,b9 (b.a4 (dd P b)) 0 (.f (.func yd) [] []) [.ag (prC true p.nz),zI n,.ag (prC true q.nz)] I (fun r U=>p4 (b.aV+1000) 102 102 I U r iu u))∧(∀I,b9 (b.a4 (dd P b)) 0 (.f (.func An) [] []) [.ag (prC true p),zI n,.ag (prC true q)] I (fun r U=>tL m I U r iu v))∧m≤b.aV+1000∧dd P b ka [.ag (prC true u),.ag (prC true v)] (.b true):=by
 have y6:=h.sz;have Bq:=g.sz;have Px:Prf.sz 51 q.nz:=(Prf.jc 51 q).2 Bq;have Zs:Prf.sz 51 p.nz:=(Prf.jc 51 p).2 y6;have c4v:=Pu g.1;have c4w:=Pu h.1;have oW:=h.2.2.1;have xP:=g.2.2.1;have gH:(jr q).length<2^40:=by
  have h1:(jr q).length≤(labP q).2.length:=UQ ..;have h2:=Az q.cJ q (o _);omega
 have Py:(51:Nat)+51=102:=rfl
 -- both results,when all is c4x
 have E5:dh p=true→dh q=true→Prf.sz 102 (ga n (raP (hN p q) q.nz []) p.nz):=fun h3 aE=>Zk n (Ps (hN p q) 51 q.nz [] (fun x hx=>(u4 (by rw[nL];exact aE) x hx).1) Px) 51 p.nz (fun x hx=>(u4 (by rw[nL];exact h3) x hx).1) Zs;have JU:dh p=true→dh q=true→(ga n (raP (hN p q) q.nz []) p.nz).nz=(ga n (ke p q) p).nz:=fun h3 aE=>X8 (Pv aE) p.dep p (o _) fun x hx=>(u4 h3 x hx).1;have b7Q:dh p=true→dh q=true→Prf.sz 102 (ga n (ke p q) p):=fun h3 aE=>(Prf.jc _ _).1 (by rw[←JU h3 aE];exact(Prf.jc _ _).2 (E5 h3 aE));have b7R:dh q=true→Prf.sz 51 (ke p q):=fun aE=>(Prf.jc _ _).1 (by rw[←Pv aE];exact(Prf.jc _ _).2 (Ps (hN p q) 51 q.nz [] (fun x hx=>(u4 (by rw[nL];exact aE) x hx).1) Px));have JV:dh q=true→bN (raP (hN p q) q.nz [])=bN (ke p q):=fun aE=>b4e (Pv aE);have b7S:dh q=true→(bN (ke p q)).length<2^40:=fun aE=>by
  rw[←JV aE,Zn (hN p q) q.nz.cJ q.nz [] (o _) fun x hx=>(u4 (by rw[nL];exact aE) x hx).1,A9];omega
 have ref:∀I,b9 (b.a4 (dd P b)) 0 (.f (.func An) [] []) [.ag (prC true p),zI n,.ag (prC true q)] I (fun r U=>tL (2*51+4+(2*51+4)) I U r (lK p n q).1 (lK p n q).2):=
  b5r dd.fn aU.b6W.h aU.b6U.h aU.b6V.h aU.Bm.2 (fun a n ar=>Pk hb aU a n (by omega)) p q n (by omega) y6 Bq (Prf.nM (by omega) y6) (Prf.nM (by omega) Bq) gH aU.Pe.2 (JR hb aU (by omega) y6) (JR hb aU (by omega) Bq) (fun _ _ h3 aE=>JR hb aU (by omega) (b7Q h3 aE))
   aU.JK.2 (fun _=>JS hb aU 51 p (by omega) y6) (fun _=>JS hb aU 51 q (by omega) Bq) aU.JL.2 (fun _=>Pn hb aU n 51 p (by omega) y6) aU.YQ.2 (fun _=>Y5 hb aU (by omega) y6 (by omega)) (fun _ _ _ aE=>Y5 hb aU (by omega) (b7R aE) (b7S aE)) aU.YP.2 (fun _=>b7A hb aU (by omega) Bq (by omega))
 have prog:∀I,b9 (b.a4 (dd P b)) 0 (.f (.func yd) [] []) [.ag (prC true p.nz),zI n,.ag (prC true q.nz)] I (fun r U=>b2 I U∧u5 I U 102 51 p.nz q.nz n r):=
  b3f dd.fn (b7L (P:=P) aU) (dT:=0) (Zp hb aU h) (Zp hb aU g) n ⟨Prf.Bn Zs,Prf.Bn Px⟩ (fun _ _ h3 aE _ _=>by
   rw[nL] at h3 aE;rw[yW];have hu:=E5 h3 aE;refine⟨Prf.q1 (by omega) hu,?_⟩;have:=Pm hb aU (by omega) ((Prf.jc _ _).2 hu);rwa[nK] at this) (by omega)
 have JT:dd P b ka [.ag (prC true kA),.ag (prC true kA)] (.b true):=Bp hb o_ (d:=2) (by omega) (Zo 0) rfl
 -- qg c4y result,in qg words of qg c4z
 have Zt:∀I,b9 (b.a4 (dd P b)) 0 (.f (.func yd) [] []) [.ag (prC true p.nz),zI n,.ag (prC true q.nz)] I (fun r U=>b2 I U∧((r= .ok (.bJ [.ag dm,ay (lK p n q).1])∧(lK p n q).1≠0)∨
   ((lK p n q)=(0,ga n (ke p q) p)∧dh p=true∧dh q=true∧∃k,r= .ok (.bJ [.ag (eJ k (ga n (raP (hN p q) q.nz []) p.nz)),ay 0])∧fv U 102 102 k (ga n (raP (hN p q) q.nz []) p.nz)∧I.next≤k.aK∧k.hi≤U.next))):=fun I=>(prog I).mono fun r U ⟨M,ah⟩=>⟨M,by
  have split:∀ {a c:Bool},(a&&c)=true→a=true∧c=true:=fun h=>by simpa using h
  cases ah with
  |ms h1=>
   rw[nK,nK] at h1;left;unfold lK;rw[h1];exact⟨rfl,by first|exact tN|exact tO|exact tP⟩
  |ad h1 h2=>
   rw[nK,nK] at h1;rw[nL,nL] at h2;left;unfold lK;rw[h1,h2];exact⟨rfl,by first|exact tN|exact tO|exact tP⟩
  |op h1 h2 h3=>
   rw[nK,nK] at h1;rw[nL,nL] at h2;rw[yV n p.cJ p (o _)] at h3;left;unfold lK;rw[h1,h2,h3];exact⟨rfl,by first|exact tN|exact tO|exact tP⟩
  |hi h1 h2 h3 aE=>
   rw[nK,nK] at h1;rw[nL,nL] at h2;rw[yV n p.cJ p (o _)] at h3;rw[yW,JV (split h2).2] at aE;have ba:=(OO (ke p q)).2 aE;left;unfold lK;rw[h1,h2,h3,decide_eq_true ba];exact⟨rfl,by first|exact tN|exact tO|exact tP⟩
  |XA h1 h2 h3 aE ba=>
   rw[nK,nK] at h1;rw[nL,nL] at h2;rw[yV n p.cJ p (o _)] at h3;rw[yW,JV (split h2).2] at aE;rw[yW,X_ (JU (split h2).1 (split h2).2)] at ba;have cr:¬kO (ke p q) > 999:=fun h=>by obtain⟨x,hx,EX⟩:=(OO (ke p q)).1 h;have:=aE x hx;omega
   left;unfold lK;rw[h1,h2,h3,decide_eq_false cr,ba];exact⟨rfl,by first|exact tN|exact tO|exact tP⟩
  |ok h1 h2 h3 aE ba k cr de fi=>
   rw[nK,nK] at h1;rw[nL,nL] at h2;rw[yV n p.cJ p (o _)] at h3;rw[yW,JV (split h2).2] at aE;rw[yW] at ba cr;rw[X_ (JU (split h2).1 (split h2).2)] at ba;have Pz:¬kO (ke p q) > 999:=fun h=>by obtain⟨x,hx,EX⟩:=(OO (ke p q)).1 h;have:=aE x hx;omega
   right;refine⟨by unfold lK;rw[h1,h2,h3,decide_eq_false Pz,ba];rfl,(split h2).1,(split h2).2,k,?_,cr,de,fi⟩;rw[yW]⟩
 have b7T:((lK p n q).2=kA∧(lK p n q).1≠0)∨(lK p n q=(0,ga n (ke p q) p)∧dh p=true∧dh q=true):=by
  unfold lK;cases h1:(dH p&&dH q) with
  |false=>exact .inl ⟨rfl,by first|exact tN|exact tO|exact tP⟩
  |true=>
  cases h2:(dh p&&dh q) with
  |false=>exact .inl ⟨rfl,by first|exact tN|exact tO|exact tP⟩
  |true=>
  cases h3:fS n p with
  |false=>exact .inl ⟨rfl,by first|exact tN|exact tO|exact tP⟩
  |true=>
  cases aE:decide (kO (ke p q) > 999) with
  |true=>exact .inl ⟨rfl,by first|exact tN|exact tO|exact tP⟩
  |false=>
  cases ba:dH (ga n (ke p q) p) with
  |false=>exact .inl ⟨rfl,by first|exact tN|exact tO|exact tP⟩
  |true=>exact .inr ⟨rfl,by simpa using h2⟩
 rcases b7T with⟨av,h0⟩|⟨av,h3,aE⟩
 ·refine⟨(lK p n q).1,kA,(lK p n q).2,_,fun I=>(Zt I).mono fun r U ⟨M,ah⟩=>?_,ref,by omega,by rw[av];exact JT⟩;rcases ah with⟨rfl,_⟩|⟨a,_⟩
  ·exact p4.zero (by omega) M
  ·rw[a] at h0;exact absurd rfl h0
 ·rw[av] at ref;refine⟨0,(ga n (raP (hN p q) q.nz []) p.nz).nz,_,_,fun I=>(Zt I).mono fun r U ⟨M,ah⟩=>?_,ref,by omega,Bp hb o_ (d:=102) (by omega) ((Prf.jc _ _).2 (E5 h3 aE)) (by rw[EP];exact JU h3 aE)⟩;rcases ah with⟨_,h0⟩|⟨_,_,_,k,rfl,c4,ba,cr⟩
  ·rw[av] at h0;exact absurd rfl h0
  ·exact p4.XY (by omega) M (Prf.q1 (by omega) (E5 h3 aE)) (Prf.JD (E5 h3 aE)) c4 ba cr
theorem b7U{p q:Prf}(n:Int)(h:tM p)(g:tM q):YD b (dd P b) 102 102 p n q:=
 ⟨Zd hb dG (by omega) h.sz,Zd hb dG (by omega) g.sz,Prf.nM (by omega) ((Prf.jc 51 p).2 h.sz),Prf.nM (by omega) ((Prf.jc 51 q).2 g.sz),b7N hb aU o_ h,b7P hb aU o_ n h g,Bp hb o_ (by omega) ((Prf.jc 51 p).2 h.sz) (EP p),Bp hb o_ (by omega) ((Prf.jc 51 q).2 g.sz) (EP q)⟩
end
theorem lawTR{P:Program}{b:dW}(hb:oX P b)(aU:vf b)(dG:vb b)(o_:vc b)(e3:b.funcs.get UN=some ek)(q3:DK P b rT [] (.b true)){p q:Prf}(n:Int)(hp:p.ok)(hq:q.ok):DK P b UN [.ag (prC true p),.ag (prC true q),zI n] (.b true):=by
 have vz:=hb.hc (2*(p.dep+q.dep));have y7:=aU.hc (2*(p.dep+q.dep));have h1:2*p.dep+4≤(b.hc (2*(p.dep+q.dep))).aV+1000:=by show _≤2*(p.dep+q.dep)+1000;omega
 have h2:2*q.dep+4≤(b.hc (2*(p.dep+q.dep))).aV+1000:=by show _≤2*(p.dep+q.dep)+1000;omega
 exact gQ (b:=b.hc (2*(p.dep+q.dep))) vz eX.ok _ e3 rfl rfl rfl (ai:=1000) (kD (n:=999) _).1 (kD (n:=999) _).2
  (b5E dd.fn ⟨y7.cp,y7.sp,y7.E2⟩ (b7M vz y7) (b7J vz q3) (e:=102) (d:=102) (O4:=tM p) (O5:=tM q) p q n (fun U=>sd (o _) h1 U) (fun U=>sd (o _) h2 U) (Zg vz y7 p hp h1) (Zg vz y7 q hq h2) (fun h g=>b7U vz y7 (dG.hc _) (o_.hc _) n h g) _ rfl)
end
section
open Go Go.RowKit Go.ChangeShapes Go.WideShapes
theorem PA{α:Type}{Q:Nat→α→Prop}:∀n,(∀i,i<n→∃c,Q i c)→∃l:List α,l.length=n∧∀i (h:i<l.length),Q i l[i]
 |0,_=>⟨[],rfl,fun i h=>by simp at h⟩
 |n+1,h=>by
  obtain⟨l,h1,h2⟩:=PA (Q:=Q) n fun i hi=>h i (by omega);obtain⟨c,ah⟩:=h n (by omega);refine⟨l++[c],by simp[h1],fun i hi=>?_⟩;by_cases iV:i<l.length
  ·rw[jn iV];exact h2 i iV
  ·have:i=n:=by simp at hi;omega
   subst this;rw[jG (by omega)];simpa [h1] using ah
section
variable {H:Type}{enc:TypeId×Value→H}{P:Program}{w:World}{B:Nat}
abbrev RA[Tok](w:World)(B:Nat):=bz w (fun _=>none) (fun _=>False) B
abbrev q5(w:World)(B:Nat)(l:List AV)(us:List Value):Prop:=∀[Tok] [TokOk],RA w B l us
theorem PB{P:Program}{H:Type}{e:TypeId}{d:DataW H}:∀ {l:List (DataW H)},d∈l→∀m∈d.weights P e,m∈DataW.weightsAll P e l
 |x::l,h,m,hm=>by
  rw[DataW.weightsAll];rcases cH.1 h with rfl|h
  ·exact dE.2 (.inl hm)
  ·exact dE.2 (.inr (PB h m hm))
theorem JW{α:Type}(f:α→List AV)(Q:α→Prop){t e:TypeId}{k fuel:Nat}{cs:List Value}{x:DataW H×List MemPlace}(ht:P.underlying t=some (.slice e))(ah:P.cellsOf e=k)(aD:0<k)(qo:0<P.bytesOf e)
  (aA:∀n,n+1=fuel→∀cs x,DataW.trod enc P w 0 (fun _=>true) true n e cs=some x→∃c:α,q5 w B (f c) cs∧(f c).length=k∧(∀y∈f c,conf none y=true)∧((∀n∈x.1.weights P e,n≤reachBytes)→Q c))
  (h:DataW.trod enc P w 0 (fun _=>true) true fuel t cs=some x):∃J:Option (List α),q5 w B [osl true (some k) (J.map fun l=>l.map fun c=>.ag (f c))] cs∧((∀n∈x.1.weights P t,n≤reachBytes)→(J.getD []).length<2^62∧∀c∈J.getD [],Q c):=by
 rcases Fh ht h with⟨rfl,_⟩|⟨a,len,cap,elems,rest,n,cj,rfl,mG,_,nm,FP,FT,er,_,_⟩
 ·exact⟨none,.cons .aB .nil,fun _=>⟨by simp,by simp⟩⟩
 subst ah;have each:∀i,i<len→∃c:α,∃us,w.cells? 0 (a.add (i*P.cellsOf e)) (P.cellsOf e)=some us∧q5 w B (f c) us∧(f c).length=P.cellsOf e∧(∀y∈f c,conf none y=true)∧((∀n∈x.1.weights P t,n≤reachBytes)→Q c):=fun i hi=>by
  have hg:=er i hi;rw[a9 (show i<elems.length by omega)] at hg;simp only[cB] at hg;obtain⟨us,hu,C9⟩:=hg;obtain⟨c,h1,h2,h3,aE⟩:=aA n cj.symm us _ C9;refine⟨c,us,hu,h1,h2,h3,fun hw=>aE fun m hm=>hw m ?_⟩;rw[mG];simp only[DataW.weights,ht,cH,dE];exact .inr (.inl (PB (bQ.2 ⟨_,aS (show i<elems.length by omega),rfl⟩) _ hm))
 obtain⟨l,ar,hq⟩:=PA len each;refine⟨some l,.cons ?_ .nil,fun hw=>⟨?_,fun c ah=>?_⟩⟩
 case refine_2=>
  have:=hw ((elems.length+rest.length)*P.bytesOf e) (by rw[mG];simp[DataW.weights,ht]);have h1:elems.length*1≤(elems.length+rest.length)*P.bytesOf e:=Nat.mul_le_mul (sI _ _) qo;have:reachBytes<2^62:=by decide
  show l.length<2^62;omega
 case refine_3=>
  obtain⟨i,hi,rfl⟩:=gm (show c∈l from ah);obtain⟨_,_,_,_,_,ba⟩:=hq i hi;exact ba hw
 show R w _ _ B (.a7 true (some (P.cellsOf e)) (l.map fun c=>.ag (f c))) _;obtain⟨ax,off,sp⟩:=a;have hlen:(l.map fun c=>AV.ag (f c)).length=len:=by simpa using ar
 have eU:l≠[]→sp=none∧ax<w.heap.size:=fun bx=>by
  obtain⟨TU,C_,k3,hc0,_,_⟩:=hq 0 (xA.2 bx);obtain⟨TV,xv⟩:=uC C_;have qJ:=xv 0 (by omega);rw[a9 (by omega)] at qJ;simp only[w1] at qJ;exact Mh qJ
 have E6:(l.map fun c=>AV.ag (f c))≠[]→l≠[]:=fun h e=>h (by rw[e];rfl);have iD:∀i (hi:i<(l.map fun c=>AV.ag (f c)).length),(l.map fun c=>AV.ag (f c))[i]= .ag (f (l[i]'(by simpa using hi))):=fun i hi=>by simp
 rw[←hlen];refine .a7 (fun i j=>(w.cell? ⟨ax,off+i*P.cellsOf e+j,none⟩).getD undef) (fun bx=>⟨fun h=>h,(eU (E6 bx)).2,fun h=>by cases h⟩) (fun i hi=>?_) (fun i hi j az=>?_) (fun i hi j az=>?_) (by omega) (fun v av x hx=>?_) (fun bx=>(eU (E6 bx)).1)
 ·rw[iD i hi];obtain⟨us,_,_,h2,h3,_⟩:=hq i (by simpa using hi);show conf (some (P.cellsOf e)) (.ag _)=true;simp[conf,h2]
 ·obtain⟨us,hu,al,dV,_,_⟩:=hq i (by simpa using hi);obtain⟨mO,hg⟩:=uC hu;obtain⟨rfl,_⟩:=eU fun e=>by subst e;simp at hi
  have ff:j<P.cellsOf e:=by rw[iD i hi] at az;rw[←dV];exact az
  have:=hg j ff;rw[h5,h5,a9 (by omega)] at this;show w.cell? ⟨ax,off+i*P.cellsOf e+j,none⟩=_;rw[this];rfl
 ·obtain⟨us,hu,al,dV,_,_⟩:=hq i (by simpa using hi);obtain⟨mO,hg⟩:=uC hu;obtain⟨rfl,_⟩:=eU fun e=>by subst e;simp at hi
  have ff:j<P.cellsOf e:=by rw[iD i hi] at az;rw[←dV];exact az
  have:=hg j ff;rw[h5,h5,a9 (by omega)] at this;rw[this];have h1:=al.2 j (by omega) (by omega);simp only[iD i hi];exact h1
 ·obtain⟨i,hi,rfl⟩:=gm av;obtain⟨us,_,_,_,h3,_⟩:=hq i (by simpa using hi);rw[iD i hi] at hx;exact h3 x hx
structure FTy(P:Program)(sg ow sh p8 p9 ox si:TypeId):Prop where
 b:P.underlying sg=some .bool
 s:P.underlying ow=some .string
 u:P.underlying sh=some (.int .u8)
 ts:P.underlying p9=some (.slice p8)
 fs:P.underlying si=some (.slice ox)
 cb:P.cellsOf sg=1
 cs:P.cellsOf ow=1
 cu:P.cellsOf sh=1
 cts:P.cellsOf p9=1
 cfs:P.cellsOf si=1
 ct:P.cellsOf p8=3
 cf:P.cellsOf ox=4
 bt:0<P.bytesOf p8
 bf:0<P.bytesOf ox
 t:∃a b c:Field,P.underlying p8=some (.struct #[a,b,c])∧(a.type=sg∧a.offset=0)∧(b.type=ow∧b.offset=1)∧(c.type=p9∧c.offset=2)
 f:∃a b c d:Field,P.underlying ox=some (.struct #[a,b,c,d])∧(a.type=sh∧a.offset=0)∧(b.type=ow∧b.offset=1)∧(c.type=p9∧c.offset=2)∧(d.type=si∧d.offset=3)
variable {sg ow sh p8 p9 ox si:TypeId}
theorem bz.three[Tok][TokOk]{a b c:AV}{x y z:Value}(h1:RA w B [a] [x])(h2:RA w B [b] [y])(h3:RA w B [c] [z]):RA w B [a,b,c] [x,y,z]:=.cons (h1.2 0 (by simp) (by simp)) (.cons (h2.2 0 (by simp) (by simp)) h3)
theorem b7V(T:FTy P sg ow sh p8 p9 ox si):∀(fuel:Nat) (cs:List Value) (x:DataW H×List MemPlace),DataW.trod enc P w 0 (fun _=>true) true fuel p8 cs=some x→∃t:Tm,q5 w B (t.cells true) cs∧(t.cells true).length=3∧(∀y∈t.cells true,conf none y=true)∧((∀n∈x.1.weights P p8,n≤reachBytes)→t.ok):=by
 intro fuel
 induction fuel using Nat.strongRecOn with
 |ind fuel aA=>
 intro cs x h;obtain⟨a,b,c,hu,⟨aP,a0⟩,⟨cC,c0⟩,⟨cQ,eA⟩⟩:=T.t;obtain⟨xs,n,rfl,mG,ar,j8,er⟩:=Fi hu h;have j8:xs.length=3:=j8;rw[T.ct] at ar;obtain⟨v1,v2,iO,rfl⟩:∃v1 v2 iO,cs=[v1,v2,iO]:=by
  match cs,ar with
  |[v1,v2,iO],_=>exact⟨v1,v2,iO,rfl⟩
 have gM:=er 0 a rfl;have bM:=er 1 b rfl;have b4:=er 2 c rfl;rw[aP,a0,T.cb,a9 (by omega)] at gM;rw[cC,c0,T.cs,a9 (by omega)] at bM;rw[cQ,eA,T.cts,a9 (by omega)] at b4;obtain⟨cE,aM,_⟩:=DataW.trod_bool T.b gM;obtain⟨da,e2,PC,_⟩:=Fg T.s bM;obtain⟨J,h3,jP⟩:=JW (w:=w) (B:=B) (fun t:Tm=>t.cells true) Tm.ok T.ts T.ct (by decide) T.bt (fun m hm cs x h=>aA m (by omega) cs x h) b4;injection aM with aM
 injection e2 with e2
 subst aM e2;refine⟨.mk cE (lj da) J,?_,?_,fun y aw=>?_,fun hw=>?_⟩
 ·rw[Tm.kM];refine bz.three (.cons (.b cE) .nil) (.cons ?_ .nil) h3;have:=R.s (w:=w) (m:=fun _=>none) (O:=fun _=>False) (B:=B) (lj da) (BS da);rwa[BR] at this
 ·rw[Tm.kM];rfl
 ·rw[Tm.kM] at aw;simp only[cH,nP,or_false] at aw;rcases aw with rfl|rfl|rfl
  ·rfl
  ·rfl
  ·cases J<;>rfl
 ·have mem:∀ {j:Nat} {t:TypeId} {d:DataW H},[sg,ow,p9][j]? =some t→(xs.map (·.1))[j]? =some d→∀n∈d.weights P t,n≤reachBytes:=fun ht au n hn=>hw n (by
   rw[mG];simp only[DataW.weights,hu];exact NI (by simpa [aP,cC,cQ] using ht) au n hn)
  have PD:(lj da).length<2^62:=by
   have:da.data.toList.length≤reachBytes:=mem (j:=1) rfl (by rw[kV,a9 (show 1<xs.length by omega),PC];rfl) _ (by simp[DataW.weights]);have h2:reachBytes<2^62:=by decide
   have h3:(lj da).length=da.data.toList.length:=by simp[lj]
   omega
  obtain⟨bE,br⟩:=jP (mem (j:=2) rfl (by rw[kV,a9 (show 2<xs.length by omega)];rfl));exact .mk PD bE br
theorem b7W(T:FTy P sg ow sh p8 p9 ox si):∀(fuel:Nat) (cs:List Value) (x:DataW H×List MemPlace),DataW.trod enc P w 0 (fun _=>true) true fuel ox cs=some x→∃f:Fm,q5 w B (f.cells true) cs∧(f.cells true).length=4∧(∀y∈f.cells true,conf none y=true)∧((∀n∈x.1.weights P ox,n≤reachBytes)→f.ok):=by
 intro fuel
 induction fuel using Nat.strongRecOn with
 |ind fuel aA=>
 intro cs x h;obtain⟨a,b,c,d,hu,⟨aP,a0⟩,⟨cC,c0⟩,⟨cQ,eA⟩,⟨d1,d2⟩⟩:=T.f;obtain⟨xs,n,rfl,mG,ar,j8,er⟩:=Fi hu h;have j8:xs.length=4:=j8;rw[T.cf] at ar;obtain⟨v1,v2,iO,v4,rfl⟩:∃v1 v2 iO v4,cs=[v1,v2,iO,v4]:=by
  match cs,ar with
  |[v1,v2,iO,v4],_=>exact⟨v1,v2,iO,v4,rfl⟩
 have gM:=er 0 a rfl;have bM:=er 1 b rfl;have b4:=er 2 c rfl;have dy:=er 3 d rfl;rw[aP,a0,T.cu,a9 (by omega)] at gM;rw[cC,c0,T.cs,a9 (by omega)] at bM;rw[cQ,eA,T.cts,a9 (by omega)] at b4;rw[d1,d2,T.cfs,a9 (by omega)] at dy;obtain⟨op,aM,_,z2⟩:=Ff T.u gM;obtain⟨da,e2,PC,_⟩:=Fg T.s bM;obtain⟨J,h3,jP⟩:=JW (w:=w) (B:=B) (fun t:Tm=>t.cells true) Tm.ok T.ts T.ct (by decide) T.bt (fun m _ cs x h=>b7V T m cs x h) b4;obtain⟨kZ,aE,PE⟩:=JW (w:=w) (B:=B) (fun f:Fm=>f.cells true) Fm.ok T.fs T.cf (by decide) T.bf (fun m hm cs x h=>aA m (by omega) cs x h) dy;injection aM with aM
 injection e2 with e2
 subst aM e2;obtain⟨h0,b7X⟩:=bounds_u8 z2;obtain⟨k,rfl⟩:∃k:Nat,op=Int.ofNat k:=⟨op.toNat,(Int.toNat_of_nonneg h0).symm⟩
 refine⟨.mk k (lj da) J kZ,?_,?_,fun y aw=>?_,fun hw=>?_⟩
 ·rw[Fm.kM];refine .cons (.i .u8 _) (bz.three (.cons ?_ .nil) h3 aE);have:=R.s (w:=w) (m:=fun _=>none) (O:=fun _=>False) (B:=B) (lj da) (BS da);rwa[BR] at this
 ·rw[Fm.kM];rfl
 ·rw[Fm.kM] at aw;simp only[cH,nP,or_false] at aw;rcases aw with rfl|rfl|rfl|rfl
  ·rfl
  ·rfl
  ·cases J<;>rfl
  ·cases kZ<;>rfl
 ·have mem:∀ {j:Nat} {t:TypeId} {d:DataW H},[sh,ow,p9,si][j]? =some t→(xs.map (·.1))[j]? =some d→∀n∈d.weights P t,n≤reachBytes:=fun ht au n hn=>hw n (by
   rw[mG];simp only[DataW.weights,hu];exact NI (by simpa [aP,cC,cQ,d1] using ht) au n hn)
  have PD:(lj da).length<2^62:=by
   have:da.data.toList.length≤reachBytes:=mem (j:=1) rfl (by rw[kV,a9 (show 1<xs.length by omega),PC];rfl) _ (by simp[DataW.weights]);have h2:reachBytes<2^62:=by decide
   have h3:(lj da).length=da.data.toList.length:=by simp[lj]
   omega
  obtain⟨bE,br⟩:=jP (mem (j:=2) rfl (by rw[kV,a9 (show 2<xs.length by omega)];rfl));obtain⟨bb,cm⟩:=PE (mem (j:=3) rfl (by rw[kV,a9 (show 3<xs.length by omega)];rfl));refine .mk ?_ PD bE br bb cm;have:(k:Int)≤255:=b7X;omega
end
section
variable {H:Type}{enc:TypeId×Value→H}{P:Program}{w:World}{B:Nat}
theorem Zu{α:Type}(g:α→AV)(Q:α→Prop)(mn:∀c,(g c).cells=[g c]){t e:TypeId}{fuel:Nat}{cs:List Value}{x:DataW H×List MemPlace}(ht:P.underlying t=some (.slice e))(ah:P.cellsOf e=1)(qo:0<P.bytesOf e)
  (aA:∀n,n+1=fuel→∀cs x,DataW.trod enc P w 0 (fun _=>true) true n e cs=some x→∃c:α,q5 w B [g c] cs∧conf none (g c)=true∧((∀n∈x.1.weights P e,n≤reachBytes)→Q c))
  (h:DataW.trod enc P w 0 (fun _=>true) true fuel t cs=some x):∃J:Option (List α),q5 w B [osl true none (J.map fun l=>l.map g)] cs∧((∀n∈x.1.weights P t,n≤reachBytes)→(J.getD []).length<2^62∧∀c∈J.getD [],Q c):=by
 rcases Fh ht h with⟨rfl,_⟩|⟨a,len,cap,elems,rest,n,cj,rfl,mG,_,nm,FP,FT,er,_,_⟩
 ·exact⟨none,.cons .aB .nil,fun _=>⟨by simp,by simp⟩⟩
 have each:∀i,i<len→∃c:α,∃us,w.cells? 0 (a.add (i*1)) 1=some us∧q5 w B [g c] us∧conf none (g c)=true∧((∀n∈x.1.weights P t,n≤reachBytes)→Q c):=fun i hi=>by
  have hg:=er i hi;rw[a9 (show i<elems.length by omega)] at hg;simp only[cB] at hg;obtain⟨us,hu,C9⟩:=hg;rw[ah] at hu;obtain⟨c,h1,h2,aE⟩:=aA n cj.symm us _ C9;refine⟨c,us,hu,h1,h2,fun hw=>aE fun m hm=>hw m ?_⟩;rw[mG];simp only[DataW.weights,ht,cH,dE];exact .inr (.inl (PB (bQ.2 ⟨_,aS (show i<elems.length by omega),rfl⟩) _ hm))
 obtain⟨l,ar,hq⟩:=PA len each;refine⟨some l,.cons ?_ .nil,fun hw=>⟨?_,fun c ah=>?_⟩⟩
 case refine_2=>
  have:=hw ((elems.length+rest.length)*P.bytesOf e) (by rw[mG];simp[DataW.weights,ht]);have h1:elems.length*1≤(elems.length+rest.length)*P.bytesOf e:=Nat.mul_le_mul (sI _ _) qo;have:reachBytes<2^62:=by decide
  show l.length<2^62;omega
 case refine_3=>
  obtain⟨i,hi,rfl⟩:=gm (show c∈l from ah);obtain⟨_,_,_,_,ba⟩:=hq i hi;exact ba hw
 show R w _ _ B (.a7 true none (l.map g)) _;obtain⟨ax,off,sp⟩:=a;have hlen:(l.map g).length=len:=by simpa using ar
 have eU:l≠[]→sp=none∧ax<w.heap.size:=fun bx=>by
  obtain⟨TU,C_,k3,hc0,_⟩:=hq 0 (xA.2 bx);obtain⟨TV,xv⟩:=uC C_;have qJ:=xv 0 (by omega);rw[a9 (by omega)] at qJ;simp only[w1] at qJ;exact Mh qJ
 have E6:(l.map g)≠[]→l≠[]:=fun h e=>h (by rw[e];rfl);have iD:∀i (hi:i<(l.map g).length),(l.map g)[i]=g (l[i]'(by simpa using hi)):=fun i hi=>by simp
 rw[←hlen];refine .a7 (fun i j=>(w.cell? ⟨ax,off+i*1+j,none⟩).getD undef) (fun bx=>⟨fun h=>h,(eU (E6 bx)).2,fun h=>by cases h⟩) (fun i hi=>?_) (fun i hi j az=>?_) (fun i hi j az=>?_) (by omega) (fun v av x hx=>?_) (fun bx=>(eU (E6 bx)).1)
 ·rw[iD i hi];obtain⟨us,_,_,h2,_⟩:=hq i (by simpa using hi);exact h2
 ·obtain⟨us,hu,al,dV,_⟩:=hq i (by simpa using hi);obtain⟨mO,hg⟩:=uC hu;obtain⟨rfl,_⟩:=eU fun e=>by subst e;simp at hi
  have ff:j<1:=by rw[iD i hi,mn] at az;exact az
  have:=hg j ff;rw[h5,h5,a9 (by omega)] at this;show w.cell? ⟨ax,off+i*1+j,none⟩=_;rw[this];rfl
 ·obtain⟨us,hu,al,dV,_⟩:=hq i (by simpa using hi);obtain⟨mO,hg⟩:=uC hu;obtain⟨rfl,_⟩:=eU fun e=>by subst e;simp at hi
  have ff:j<1:=by rw[iD i hi,mn] at az;exact az
  have:=hg j ff;rw[h5,h5,a9 (by omega)] at this;rw[this];have h1:=al.2 j (by simpa using ff) (by omega);have aM:((l.map g)[i]).cells=[g (l[i]'(by simpa using hi))]:=by rw[iD i hi,mn]
  simp only[aM];exact h1
 ·obtain⟨i,hi,rfl⟩:=gm av;obtain⟨us,_,_,h2,_⟩:=hq i (by simpa using hi);rw[iD i hi,mn,d_] at hx;rw[hx];exact h2
end
abbrev tok0:Tok:=⟨fun _=>.b false,fun _ _=>.b true⟩
theorem tok0_ok: @TokOk tok0:=by
 letI:Tok:=tok0
 refine⟨fun {w O B gn i old u} h=>?_,fun {w O B i u} h=>?_⟩
 ·have h:R w (fun _=>none) O B (.b true) u:=h;show R w (fun _=>none) (fun _=>False) gn (.b true) u;cases h;exact .b _
 ·have h:R w (fun _=>none) O B (.b true) u:=h;show R w (fun _=>none) (fun b=>b<B) B (.b true) u;cases h;exact .b _
theorem cells0(p:Prf):p.cells true=prC true p:=@Prf.kM tok0 tok0_ok true p
theorem mx(p:Prf):∀y∈prC true p,conf none y=true:=@Pr tok0 tok0_ok p
theorem b7Y(p:Prf):p.pre=p::p.sub.flatMap Prf.pre:=@Prf.gB tok0 tok0_ok p
theorem agg_R[Tok]{w:World}{B:Nat}{l:List AV}{v:Value}(h:RA w B l v.cells.toList)(ar:1<l.length)(hf:∀x∈l,conf none x=true):R w (fun _=>none) (fun _=>False) B (.ag l) v:=by
 have h1:=h.1;cases v with
 |agg a3=>exact .ag (show a3.toList.length=_ from h1) (fun i a b=>h.2 i a b) hf
 |_=>exact absurd (show 1=l.length from h1) (by omega)
structure PTy(P:Program)(sg ow sh p8 p9 ox si tQ wU wV wW Br:TypeId):Prop where
 f:FTy P sg ow sh p8 p9 ox si
 i:P.underlying tQ=some (.int .i64)
 ci:P.cellsOf tQ=1
 bi:0<P.bytesOf tQ
 is:P.underlying wU=some (.slice tQ)
 cis:P.cellsOf wU=1
 bis:0<P.bytesOf wU
 ms:P.underlying wV=some (.slice wU)
 cms:P.cellsOf wV=1
 ps:P.underlying Br=some (.slice wW)
 cps:P.cellsOf Br=1
 cp:P.cellsOf wW=8
 bp:0<P.bytesOf wW
 p:∃a b c d e:Field,P.underlying wW=some (.struct #[a,b,c,d,e])∧(a.type=ow∧a.offset=0)∧(b.type=ox∧b.offset=1)∧(c.type=tQ∧c.offset=5)∧(d.type=Br∧d.offset=6)∧(e.type=wV∧e.offset=7)
section
variable {H:Type}{enc:TypeId×Value→H}{P:Program}{w:World}{B:Nat}{sg ow sh p8 p9 ox si tQ wU wV wW Br:TypeId}(T:PTy P sg ow sh p8 p9 ox si tQ wU wV wW Br)
include T
theorem b7Z(fuel:Nat)(cs:List Value)(x:DataW H×List MemPlace)(h:DataW.trod enc P w 0 (fun _=>true) true fuel tQ cs=some x):∃c:Int,q5 w B [zI c] cs∧conf none (zI c)=true∧((∀n∈x.1.weights P tQ,n≤reachBytes)→True):=by
 obtain⟨i1,aM,_,_⟩:=Ff T.i h;subst aM;exact⟨i1,.cons (.i .i64 i1) .nil,rfl,fun _=>trivial⟩
theorem b8a(fuel:Nat)(cs:List Value)(x:DataW H×List MemPlace)(h:DataW.trod enc P w 0 (fun _=>true) true fuel wU cs=some x):∃l:Option (List Int),q5 w B [b5 true l] cs∧conf none (b5 true l)=true∧((∀n∈x.1.weights P wU,n≤reachBytes)→(l.getD []).length<2^62):=by
 obtain⟨J,h1,h2⟩:=Zu (w:=w) (B:=B) zI (fun _=>True) (fun _=>rfl) T.is T.ci T.bi (fun m _ cs x h=>b7Z T m cs x h) h;exact⟨J,h1,by cases J<;>rfl,fun hw=>(h2 hw).1⟩
theorem b8b(fuel:Nat)(cs:List Value)(x:DataW H×List MemPlace)(h:DataW.trod enc P w 0 (fun _=>true) true fuel wV cs=some x):∃m:kb,q5 w B [cO true m] cs∧((∀n∈x.1.weights P wV,n≤reachBytes)→(m.getD []).length<2^62∧∀l∈m.getD [],(l.getD []).length<2^62):=
 Zu (w:=w) (B:=B) (b5 true) (fun l=>(l.getD []).length<2^62) (fun l=>by cases l<;>rfl) T.ms T.cis T.bis (fun m _ cs x h=>b8a T m cs x h) h
theorem prf_R:∀(fuel:Nat) (cs:List Value) (x:DataW H×List MemPlace),DataW.trod enc P w 0 (fun _=>true) true fuel wW cs=some x→∃p:Prf,q5 w B (p.cells true) cs∧(p.cells true).length=8∧(∀y∈p.cells true,conf none y=true)∧((∀n∈x.1.weights P wW,n≤reachBytes)→p.ok):=by
 intro fuel
 induction fuel using Nat.strongRecOn with
 |ind fuel aA=>
 intro cs x h;obtain⟨a,b,c,d,e,hu,⟨aP,a0⟩,⟨cC,c0⟩,⟨cQ,eA⟩,⟨d1,d2⟩,⟨aM,e2⟩⟩:=T.p;obtain⟨xs,n,rfl,mG,ar,j8,er⟩:=Fi hu h;have j8:xs.length=5:=j8;rw[T.cp] at ar;obtain⟨v1,v2,iO,v4,p_,v6,wX,sj,rfl⟩:∃v1 v2 iO v4 p_ v6 wX sj,cs=[v1,v2,iO,v4,p_,v6,wX,sj]:=by
  match cs,ar with
  |[v1,v2,iO,v4,p_,v6,wX,sj],_=>exact⟨v1,v2,iO,v4,p_,v6,wX,sj,rfl⟩
 have ck:=er 0 a rfl;have iS:=er 1 b rfl;have iT:=er 2 c rfl;have k2:=er 3 d rfl;have py:=er 4 e rfl;rw[aP,a0,T.f.cs,a9 (by omega)] at ck;rw[cC,c0,T.f.cf,a9 (by omega)] at iS;rw[cQ,eA,T.ci,a9 (by omega)] at iT;rw[d1,d2,T.cps,a9 (by omega)] at k2;rw[aM,e2,T.cms,a9 (by omega)] at py;obtain⟨da,r0,c4A,_⟩:=Fg T.f.s ck;obtain⟨F,e3,c4B,c4C,b8c⟩:=b7W (w:=w) (B:=B) T.f n _ _ iS;obtain⟨i1,r2,_,_⟩:=Ff T.i iT;obtain⟨J,cr,jP⟩:=JW (w:=w) (B:=B) (fun p:Prf=>p.cells true) Prf.ok T.ps T.cp (by decide) T.bp (fun m hm cs x h=>aA m (by omega) cs x h) k2;obtain⟨m,de,PE⟩:=b8b (w:=w) (B:=B) T n _ _ py;injection r0 with r0
 injection r2 with r2
 subst r0 r2;refine⟨.mk (lj da) F i1 J m,?_,?_,fun y aw=>?_,fun hw=>?_⟩
 ·intro _ _;rw[Prf.kM];have aj:=R.s (w:=w) (m:=fun _=>none) (O:=fun _=>False) (B:=B) (lj da) (BS da);rw[BR] at aj;have E7:RA w B (F.cells true) [v2,iO,v4,p_]:=e3;rw[Fm.kM] at E7;have Pz:RA w B [cU true J] [wX]:=cr;have b8d:RA w B [cO true m] [sj]:=de;exact .cons aj (.cons (E7.2 0 (by simp) (by simp)) (.cons (E7.2 1 (by simp) (by simp)) (.cons (E7.2 2 (by simp) (by simp)) (.cons (E7.2 3 (by simp) (by simp)) (.cons (.i .i64 i1) (.cons (Pz.2 0 (by simp) (by simp)) b8d))))))
 ·rw[cells0];rfl
 ·rw[cells0] at aw;exact mx (Prf.mk (lj da) F i1 J m) y aw
 ·have mem:∀ {j:Nat} {t:TypeId} {d:DataW H},[ow,ox,tQ,Br,wV][j]? =some t→(xs.map (·.1))[j]? =some d→∀n∈d.weights P t,n≤reachBytes:=fun ht au n hn=>hw n (by
   rw[mG];simp only[DataW.weights,hu];exact NI (by simpa [aP,cC,cQ,d1,aM] using ht) au n hn)
  have bE:=b8c (mem (j:=1) rfl (by rw[kV,a9 (show 1<xs.length by omega)];rfl));obtain⟨br,bb⟩:=jP (mem (j:=3) rfl (by rw[kV,a9 (show 3<xs.length by omega)];rfl));obtain⟨cm,dN⟩:=PE (mem (j:=4) rfl (by rw[kV,a9 (show 4<xs.length by omega)];rfl));intro y aw;rw[b7Y] at aw;rcases cH.1 aw with rfl|aw
  ·exact⟨bE,br,cm,dN⟩
  ·obtain⟨q,hq,aw⟩:=gP.1 aw;exact bb q hq y aw
end
end
end Go.Lyc
end
