/-
  What functions of the program compute: walks, part 3. No conditions: definitions and laws.
-/
import Derived.Test.YtepnpmoabkhboaaGreatDoorW2
set_option linter.all false
noncomputable section
namespace Go.Lyc
def a2X:=@List.length_filter_le
def a2Y:=@List.filter_sublist
def a2Z:=@List.filter_append
set_option maxHeartbeats 0
set_option maxRecDepth 100000
section
variable [Tok][TokOk]
open Go.RowKit Go.Lyc.T
inductive GT(V:List Nat->Prop):Nat->Tm->Prop
 |v {k:Nat} (n:List Nat) (h:V n):GT V k (.mk true n none)
 |a {k:Nat}:GT V k (.mk false [97] none)
 |f {k:Nat} {t:Tm} (h:GT V k t):GT V (k+1) (.mk false [102] (some [t]))
inductive cm(V:List Nat->Prop):Nat->Nat->Fm->Prop
 |fb (aD:List Nat) (a:Option (List Tm)) (ak:(aD,(a.getD []).length)∈mi) (ha:∀t∈a.getD [],GT V 2 t) (aZ:a≠some []):cm V 1 1 (.mk 1 aD a none)
 |e2:cm V 1 1 (.mk 2 [] none none)
 |neg {n d:Nat} {F:Fm} (h:cm V n d F):cm V (n+1) (d+1) (.mk 3 [] none (some [F]))
 |q {n d:Nat} {F:Fm} (op:Nat) (aD:List Nat) (ho:op=8\/op=9) (hn:aD∈o8) (h:cm V n d F):cm V (n+1) (d+1) (.mk op aD none (some [F]))
 |bi {n d m e:Nat} {F G:Fm} (op:Nat) (ho:4<=op/\op<8) (h:cm V n d F) (h2:cm V m e G):cm V (n+m+1) (d+e) (.mk op [] none (some [F,G]))
section
variable {V:List Nat->Prop}
def cm.pos{n d:Nat}{F:Fm}(h:cm V n d F):1<=n/\1<=d:=by
 induction h<;>omega
def x9{aD:List Nat}(h:aD∈o8):aD=[120]\/aD=[121]\/aD=[122]:=by simpa [o8] using h
def GT.ok(hV:∀n,V n->n.length<2^62){k:Nat}{t:Tm}(h:GT V k t):t.ok:=by
 induction h with
 |v n h=>exact .mk (hV n h) aT aT
 |a=>exact .mk (by show 1<_;omega) aT aT
 |f h ar=>exact .mk (by show 1<_;omega) aT λx hx=>by rw[show x=_ from by simpa using hx];exact ar
def cm.ok(hV:∀n,V n->n.length<2^62){n d:Nat}{F:Fm}(h:cm V n d F):F.ok:=by
 induction h with
 |fb aD a ak ha aZ=>exact .mk U (by simp only[mi,eH,te,mJ,or_false] at ak;rcases ak with h|h|h|h|h<;>(rw[h.1];show 1<_;omega)) (by have:=Ar ak;omega) (λx hx=>(ha x hx).ok hV) aT aT
 |e2=>exact .mk U aT aT aT aT aT
 |neg h ar=>exact .mk U aT aT aT aT (λx hx=>by rw[show x=_ from by simpa using hx];exact ar)
 |q op aD ho hn h ar=>exact .mk U (by rcases x9 hn with h|h|h<;>(rw[h];show 1<_;omega)) aT aT aT (λx hx=>by rw[show x=_ from by simpa using hx];exact ar)
 |bi op ho h h2 ar fx=>exact .mk U aT aT aT aT (λx hx=>by
   rename_i F G;have:x=F\/x=G:=by simpa using hx
   rcases this with rfl|rfl<;>assumption)
def GT.cL{k:Nat}{t:Tm}(h:GT V k t):∀m,Tm.cL V (k+1+m) t:=by
 induction h with
 |v n h=>exact λm=>by rw[show ∀k,k+1+m=(k+m)+1 from λk=>by omega];exact⟨by show 0<_;omega,λ_=>h,λu hu=>by cases hu⟩
 |a=>exact λm=>by rw[show ∀k,k+1+m=(k+m)+1 from λk=>by omega];exact⟨by show 0<_;omega,(λh=>by cases h),λu hu=>by cases hu⟩
 |f h ar=>
  rename_i k t;intro m;rw[show k+1+1+m=(k+1+m)+1 from by omega];exact⟨by show 1<_;omega,(λh=>by cases h),λu hu=>by rw[show u=t from by simpa [Tm.args,Tm.cP] using hu];exact ar m⟩
def cm.cL{n d:Nat}{F:Fm}(h:cm V n d F):∀m,Fm.cL V (d+3+m) F:=by
 induction h with
 |fb aD a ak ha aZ=>
  intro m;rw[show 1+3+m=(3+m)+1 from by omega];exact⟨by have:=Ar ak;show(a.getD []).length<_;omega,by show 0<_;omega,λu hu=>(ha u hu).cL m,λu hu=>by cases hu⟩
 |e2=>exact λm=>by rw[show 1+3+m=(3+m)+1 from by omega];exact⟨by show 0<_;omega,by show 0<_;omega,(λu hu=>by cases hu),λu hu=>by cases hu⟩
 |neg h ar=>
  rename_i n d F;intro m;rw[show d+1+3+m=(d+3+m)+1 from by omega];exact⟨by show 0<_;omega,by show 1<_;omega,(λu hu=>by cases hu),λu hu=>by rw[show u=F from by simpa [Fm.sub,Fm.d_] using hu];exact ar m⟩
 |q op aD ho hn h ar=>
  rename_i n d F;intro m;rw[show d+1+3+m=(d+3+m)+1 from by omega];exact⟨by show 0<_;omega,by show 1<_;omega,(λu hu=>by cases hu),λu hu=>by rw[show u=F from by simpa [Fm.sub,Fm.d_] using hu];exact ar m⟩
 |bi op ho h h2 ar fx=>
  rename_i n d aK e F G;intro m;have p1:=h.pos;have p2:=h2.pos;rw[show d+e+3+m=(d+e+2+m)+1 from by omega];refine⟨by show 0<_;omega,by show 2<_;omega,(λu hu=>by cases hu),λu hu=>?_⟩;have:u=F\/u=G:=by simpa [Fm.sub,Fm.d_] using hu
  rcases this with rfl|rfl
  ·have:=ar (e-1+m);rw[show d+3+(e-1+m)=d+e+2+m from by omega] at this;exact this
  ·have:=fx (d-1+m);rw[show e+3+(d-1+m)=d+e+2+m from by omega] at this;exact this
def cm.dep{n d:Nat}{F:Fm}(h:cm V n d F):F.dep<=d+3:=Fm.jw (h.cL 0)
def GT.mono{W:List Nat->Prop}(hW:∀n,V n->W n){k:Nat}{t:Tm}(h:GT V k t):GT W k t:=by
 induction h with
 |v n h=>exact .v n (hW n h)
 |a=>exact .a
 |f h ar=>exact .f ar
def cm.mono{W:List Nat->Prop}(hW:∀n,V n->W n){n d:Nat}{F:Fm}(h:cm V n d F):cm W n d F:=by
 induction h with
 |fb aD a ak ha aZ=>exact .fb aD a ak (λt ht=>(ha t ht).mono hW) aZ
 |e2=>exact .e2
 |neg h ar=>exact .neg ar
 |q op aD ho hn h ar=>exact .q op aD ho hn ar
 |bi op ho h h2 ar fx=>exact .bi op ho ar fx
def GT.right(hV:∀n,V n->isVar n=true){k:Nat}{t:Tm}(h:GT V k t):∀depth L,depth+k<=40->k+1<=L->∃dT,termJ false 40 t depth L=some dT/\L<=dT+(k+1):=by
 induction h with
 |v n h=>
  intro depth L an hL;refine⟨L-1,?_,U⟩;rw[KY,As U U];exact(if_pos I).trans (if_pos ⟨rfl,by show(isVar n||_)=true;rw[hV n h];rfl⟩)
 |a=>
  intro depth L an hL;refine⟨L-1,?_,U⟩;rw[KY,As U U];exact(if_neg (show ¬(false=true) by decide)).trans ((if_pos ⟨by show 0<=4;omega,(by decide:isFun [97]=true)⟩).trans (by show termsJ false 40 [] (depth+1) (L-1)=_;rw[termsJ]))
 |f h ar=>
  rename_i k t;intro depth L an hL;obtain⟨dT,e,ao⟩:=ar (depth+1) (L-1) U U;refine⟨dT,?_,U⟩;rw[KY,As U U];exact(if_neg (show ¬(false=true) by decide)).trans ((if_pos ⟨by show 1<=4;omega,(by decide:isFun [102]=true)⟩).trans (by
   show termsJ false 40 [t] (depth+1) (L-1)=_;rw[termsJ,e];show termsJ false 40 [] (depth+1) dT=_;rw[termsJ]))
def a3a(hV:∀n,V n->isVar n=true):∀ {l:List Tm} (_:∀t∈l,GT V 2 t) {depth L:Nat},depth<=38->3*l.length<=L->∃dT,termsJ false 40 l depth L=some dT/\L<=dT+3*l.length
 |[],_,_,L,_,_=>⟨L,by rw[termsJ],aT⟩
 |t::l,h,depth,L,an,hL=>by
  simp only[gS] at hL;obtain⟨Mc,aF,h1⟩:=(h t (.head _)).right hV depth L U U;obtain⟨B6,aV,h2⟩:=a3a hV (l:=l) (λu hu=>h u (.tail _ hu)) (depth:=depth) (L:=Mc) an U;exact⟨B6,by rw[termsJ,aF];exact aV,by simp only[gS];omega⟩
def c0T{aD:List Nat}{k:Nat}(h:(aD,k)∈mi):pQ aD=true:=(a2l h).2
def Sz{op:Nat}{aD:List Nat}{F:Fm}{depth L dT:Nat}(h1:op<17)(h2:q0 op=true)(h3:k6 (pS op) aD=true)(aN:nv op=1)(bY:op≠16)(an:depth<=40)(hL:1<=L)(e:formJ false 40 F (depth+1) (L-1)=some dT):formJ false 40 (.mk op aD none (some [F])) depth L=some dT:=by
 rw[formJ,As an hL];show(if op<17/\(q0 op||(false&&tM op))=true/\k6 (pS op) aD=true/\0<=q1 op/\1=nv op/\(op=16->instB []=true) then(match termsJ false 40 [] (depth+1) (L-1) with|none=>none|some L=>formsJ false 40 [F] (depth+1) L) else none)=_;rw[termsJ,if_pos ⟨h1,by rw[h2];rfl,h3,kA _,aN.symm,λh=>absurd h bY⟩];show formsJ false 40 [F] (depth+1) (L-1)=_;rw[formsJ,e];show formsJ false 40 [] (depth+1) dT=_;rw[formsJ]
def cm.right(hV:∀n,V n->isVar n=true){n d:Nat}{F:Fm}(h:cm V n d F):∀depth L,depth+d<=38->7*n<=L->∃dT,formJ false 40 F depth L=some dT/\L<=dT+7*n:=by
 induction h with
 |fb aD a ak ha aZ=>
  intro depth L an hL;have h2:=Ar ak;obtain⟨dT,e,ao⟩:=a3a hV ha (depth:=depth+1) (L:=L-1) U U;refine⟨dT,?_,U⟩;rw[formJ,As U U];show(if 1<17/\(q0 1||(false&&tM 1))=true/\k6 (pS 1) aD=true/\(a.getD []).length<=q1 1/\0=nv 1/\(1=16->instB (a.getD [])=true) then termsJ false 40 (a.getD []) (depth+1) (L-1) else none)=_;rw[if_pos ⟨U,rfl,c0T ak,by show(a.getD []).length<=4;omega,rfl,λh=>by omega⟩,e]
 |e2=>
  intro depth L an hL;refine⟨L-1,?_,U⟩;rw[formJ,As U U];show(if _ then termsJ false 40 [] (depth+1) (L-1) else none)=_;rw[termsJ,if_pos];exact⟨U,rfl,rfl,by show 0<=0;omega,rfl,λh=>by omega⟩
 |neg h ar=>
  intro depth L an hL;obtain⟨dT,e,ao⟩:=ar (depth+1) (L-1) U U;exact⟨dT,Sz U I I I U U U e,U⟩
 |q op aD ho hn h ar=>
  intro depth L an hL;obtain⟨dT,e,ao⟩:=ar (depth+1) (L-1) U U;refine⟨dT,?_,U⟩;have jX:isVar aD=true:=by rcases x9 hn with h|h|h<;>(rw[h];decide)
  rcases ho with rfl|rfl<;>exact Sz U I jX I U U U e
 |bi op ho h h2 ar fx=>
  rename_i n d m cp F G;intro depth L an hL;have p1:=h.pos;have p2:=h2.pos;obtain⟨Mc,aF,iV⟩:=ar (depth+1) (L-1) U U;obtain⟨B6,aV,qJ⟩:=fx (depth+1) Mc U U;refine⟨B6,?_,U⟩;rw[formJ,As U U];show(if _ then(match termsJ false 40 [] (depth+1) (L-1) with|none=>none|some L=>formsJ false 40 [F,G] (depth+1) L) else none)=_;have al:q0 op=true/\pS op=0/\nv op=2:=by
   have:op=4\/op=5\/op=6\/op=7:=by omega
   rcases this with rfl|rfl|rfl|rfl<;>exact⟨rfl,rfl,rfl⟩
  rw[termsJ,if_pos ⟨U,by rw[al.1];rfl,by rw[al.2.1];rfl,by show 0<=_;omega,by rw[al.2.2];rfl,λh=>by omega⟩];show formsJ false 40 [F,G] (depth+1) (L-1)=_;rw[formsJ,aF];show formsJ false 40 [G] (depth+1) Mc=_;rw[formsJ,aV];show formsJ false 40 [] (depth+1) B6=_;rw[formsJ]
def cm.oZ(hV:∀n,V n->isVar n=true){n d:Nat}{F:Fm}(h:cm V n d F)(hn:n<=49)(an:d<=30):oZ F=true:=by
 unfold Go.Lyc.oZ;obtain⟨dT,e,_⟩:=h.right hV 1 400 U U;rw[e];rfl
def cm.c0U(hV:∀n,V n->isVar n=true){n d:Nat}{F:Fm}(h:cm V n d F)(hn:n<=49)(an:d<=30){op:Nat}(ho:op=3\/op=10\/op=13):Go.Lyc.oZ (.mk op [] none (some [F]))=true:=by
 unfold Go.Lyc.oZ;obtain⟨dT,e,_⟩:=h.right hV 2 399 U U;have:formJ false 40 (.mk op [] none (some [F])) 1 400=some dT:=by rcases ho with rfl|rfl|rfl<;>exact Sz U I I I U U U e
 rw[this];rfl
def GT.dm{k:Nat}{t:Tm}(h:GT V k t):t.parts.length<=k+1:=by
 induction h with
 |v n h=>rw[Tm.parts];simp
 |a=>rw[Tm.parts];simp
 |f h ar=>rw[Tm.parts,Tm.eA,Tm.eA];simp only[fp,gS];omega
def a3b:∀ {l:List Tm} (_:∀t∈l,GT V 2 t),(Tm.eA l).length<=3*l.length
 |[],_=>by rw[Tm.eA];simp
 |t::l,h=>by
  rw[Tm.eA,h5];have:=(h t (.head _)).dm;have:=a3b (l:=l) λu hu=>h u (.tail _ hu);simp only[gS];omega
def c0V(l m:List Fm):n9 (l++m)=n9 l+n9 m:=by unfold n9;rw[ie,List.sum_append]
def a3c(op:Nat)(n:List Nat)(a:Option (List Tm)):lB (.mk op n a none)=1+(Tm.eA (a.getD [])).length:=by
 unfold lB n9;rw[Fm.parts];simp[Fm.args,Fm.cP]
def SA(op:Nat)(n:List Nat)(l:List Fm):lB (.mk op n none (some l))=1+n9 (Fm.eA l):=by
 unfold lB;rw[Fm.parts];show 1+(Tm.eA []).length+n9 (Fm.eA l)=_;rw[Tm.eA];rfl
def cm.dm{n d:Nat}{F:Fm}(h:cm V n d F):1<=lB F/\lB F<=7*n:=by
 induction h with
 |fb aD a ak ha aZ=>rw[a3c];have:=Ar ak;have:=a3b ha;omega
 |e2=>rw[a3c];show 1<=1+(Tm.eA []).length/\1+(Tm.eA []).length<=_;rw[Tm.eA];simp
 |neg h ar=>rw[SA,Fm.eA,Fm.eA,fp];unfold lB at ar;omega
 |q op aD ho hn h ar=>rw[SA,Fm.eA,Fm.eA,fp];unfold lB at ar;omega
 |bi op ho h h2 ar fx=>rw[SA,Fm.eA,Fm.eA,Fm.eA,fp,c0V];unfold lB at ar fx;omega
def GT.qt(s:List Nat){k:Nat}{t:Tm}(h:GT V k t):ocT s t<=1:=by
 induction h with
 |v n h=>rw[ocT];split<;>omega
 |a=>rw[ocT];split<;>omega
 |f h ar=>rw[ocT,ocTs,ocTs,if_neg aT];omega
def a3d(s:List Nat):∀ {l:List Tm} (_:∀t∈l,GT V 2 t),ocTs s l<=l.length
 |[],_=>by rw[ocTs];simp
 |t::l,h=>by
  rw[ocTs];have:=(h t (.head _)).qt s;have:=a3d s (l:=l) λu hu=>h u (.tail _ hu);simp only[gS];omega
def cm.qt(s:List Nat){n d:Nat}{F:Fm}(h:cm V n d F):ocF s F<=7*n:=by
 induction h with
 |fb aD a ak ha aZ=>rw[ocF];have:=Ar ak;have:=a3d s ha;omega
 |e2=>rw[ocF];show ocTs s []<=_;rw[ocTs];omega
 |neg h ar=>rw[ocF,ocFs,ocFs];show ocTs s []+_<=_;rw[ocTs];omega
 |q op aD ho hn h ar=>rw[ocF,ocFs,ocFs];show ocTs s []+_<=_;rw[ocTs];omega
 |bi op ho h h2 ar fx=>rw[ocF,ocFs,ocFs,ocFs];show ocTs s []+_<=_;rw[ocTs];omega
end
def fU:List Nat:=[63,120]
def ek(n:List Nat):Prop:=n∈o8
def dA(n:List Nat):Prop:=n=fU\/n∈o8
def kQ(n:List Nat):Prop:=n=oc\/n∈o8
def ek.isVar{n:List Nat}(h:ek n):Go.Lyc.isVar n=true:=by rcases x9 h with h|h|h<;>(rw[h];decide)
def kQ.isVar{n:List Nat}(h:kQ n):Go.Lyc.isVar n=true:=by
 rcases h with h|h
 ·rw[h];decide
 ·exact ek.isVar h
def ek.len{n:List Nat}(h:ek n):n.length<2^62:=by rcases x9 h with h|h|h<;>(rw[h];show 1<_;omega)
def dA.len{n:List Nat}(h:dA n):n.length<2^62:=by
 rcases h with h|h
 ·rw[h];show 2<_;omega
 ·exact ek.len h
def kQ.len{n:List Nat}(h:kQ n):n.length<2^62:=by
 rcases h with h|h
 ·rw[h];show 2<_;omega
 ·exact ek.len h
def Md:fU∉o8:=by decide
def dA.of{n:List Nat}(h:dA n)(hn:n≠fU):ek n:=h.resolve_left hn
def c0W{α:Type}(l:List α):nz l≠some []:=by cases l<;>simp[nz]
def a3e{α:Type}{f:α->α}{a:Option (List α)}(aZ:a≠some [])(h:∀x∈a.getD [],f x=x):nz ((a.getD []).map f)=a:=by
 cases a with
 |none=>rfl
 |some l=>
  cases l with
  |nil=>exact absurd I aZ
  |cons x l=>
   have:(x::l).map f=x::l:=by
    have h:∀y∈x::l,f y=y:=h;rw[rh (g:=id) h,Nh]
   show nz ((x::l).map f)=_;rw[this];rfl
section
variable {V W:List Nat->Prop}
def cm.SB{aD:List Nat}{a:Option (List Tm)}(ak:(aD,(a.getD []).length)∈mi)(f:Tm->Tm)(hf:∀t∈a.getD [],GT W 2 (f t)):cm W 1 1 (.mk 1 aD (nz ((a.getD []).map f)) none):=
 .fb aD _ (by rw[uc,cb];exact ak) (λt ht=>by rw[uc] at ht;obtain⟨x,hx,rfl⟩:=di.1 ht;exact hf x hx) (c0W _)
def GT.fF(bd:ix)(ins:List (List Nat))(hW:∀n,V n->W n/\W (ke bd n)){k:Nat}{t:Tm}(h:GT V k t):GT W k (ivT bd ins t):=by
 induction h with
 |v n h=>
  rw[Lv];refine .v _ ?_;split
  ·exact(hW n h).1
  ·exact(hW n h).2
 |a=>rw[ivT];exact .a
 |f h ar=>rw[Lu];exact .f ar
def cm.fF(bd:ix)(hW:∀n,V n->W n/\W (ke bd n)){n d:Nat}{F:Fm}(h:cm V n d F):∀ins,cm W n d (ivF bd ins F):=by
 induction h with
 |fb aD a ak ha aZ=>exact λins=>by rw[q5];exact .SB ak _ λt ht=>(ha t ht).fF bd ins hW
 |e2=>exact λins=>by rw[q5];exact .e2
 |neg h ar=>exact λins=>by rw[q5];exact .neg (ar _)
 |q op aD ho hn h ar=>exact λins=>by rw[q5];exact .q op aD ho hn (ar _)
 |bi op ho h h2 ar fx=>exact λins=>by rw[q5];exact .bi op ho (ar _) (fx _)
def GT.SC(ins:List (List Nat)){k:Nat}{t:Tm}(h:GT V k t):ivT none ins t=t:=by
 induction h with
 |v n h=>rw[Lv,show ke none n=n from rfl,ite_self]
 |a=>rw[ivT]
 |f h ar=>
  rename_i k t;rw[Lu];show Tm.mk false [102] (some [ivT none ins t])=_;rw[ar]
def cm.SC{n d:Nat}{F:Fm}(h:cm V n d F):∀ins,ivF none ins F=F:=by
 induction h with
 |fb aD a ak ha aZ=>exact λins=>by rw[q5,a3e aZ λt ht=>(ha t ht).SC ins];rfl
 |e2=>exact λins=>by rw[q5];rfl
 |neg h ar=>exact λins=>by rw[q5];show Fm.mk 3 [] none (some [ivF none _ _])=_;rw[ar]
 |q op aD ho hn h ar=>exact λins=>by rw[q5];show Fm.mk op aD none (some [ivF none _ _])=_;rw[ar]
 |bi op ho h h2 ar fx=>exact λins=>by rw[q5];show Fm.mk op [] none (some [ivF none _ _,ivF none _ _])=_;rw[ar,fx]
def GT.pl{b0:List Nat->Bool}(hW:∀n,V n->W (m0 b0 true n)){k:Nat}{t:Tm}(h:GT V k t):GT W k (plT b0 t):=by
 induction h with
 |v n h=>rw[vV];exact .v _ (hW n h)
 |a=>rw[vV];exact .a
 |f h ar=>rw[vV];exact .f ar
def cm.pl{b0:List Nat->Bool}(hW:∀n,V n->W (m0 b0 true n)){n d:Nat}{F:Fm}(h:cm V n d F):cm W n d (plF b0 F):=by
 induction h with
 |fb aD a ak ha aZ=>rw[pW];exact .SB ak _ λt ht=>(ha t ht).pl hW
 |e2=>rw[pW];exact .e2
 |neg h ar=>rw[pW];exact .neg ar
 |q op aD ho hn h ar=>rw[pW];exact .q op aD ho hn ar
 |bi op ho h h2 ar fx=>rw[pW];exact .bi op ho ar fx
def GT.xi{b0:List Nat->Bool}(ay:∀n,V n->b0 n=false){k:Nat}{t:Tm}(h:GT V k t):plT b0 t=t:=by
 induction h with
 |v n h=>rw[vV];show Tm.mk true (m0 b0 true n) none=_;rw[m0,ay n h];rfl
 |a=>rw[vV];rfl
 |f h ar=>
  rename_i k t;rw[vV];show Tm.mk false [102] (some [plT b0 t])=_;rw[ar]
def cm.xi{b0:List Nat->Bool}(ay:∀n,V n->b0 n=false){n d:Nat}{F:Fm}(h:cm V n d F):plF b0 F=F:=by
 induction h with
 |fb aD a ak ha aZ=>rw[pW,a3e aZ λt ht=>(ha t ht).xi ay];rfl
 |e2=>rw[pW];rfl
 |neg h ar=>rw[pW];show Fm.mk 3 [] none (some [plF b0 _])=_;rw[ar]
 |q op aD ho hn h ar=>rw[pW];show Fm.mk op aD none (some [plF b0 _])=_;rw[ar]
 |bi op ho h h2 ar fx=>rw[pW];show Fm.mk op [] none (some [plF b0 _,plF b0 _])=_;rw[ar,fx]
def cm.OE{n d:Nat}{F:Fm}(h:cm V n d F):kg F=F:=h.xi λ_ _=>rfl
def GT.Me(β:List Nat->Nat){k:Nat}{t:Tm}(h:GT V k t):∀m∈fTz β t,V m:=by
 induction h with
 |v n h=>
  intro m hm;rw[fTz] at hm;split at hm
  ·rw[dx.1 hm];exact h
  ·cases hm
 |a=>intro m hm;rw[fTz,if_neg aT] at hm;cases hm
 |f h ar=>intro m hm;rw[fTz,if_neg aT,fTs,fTs,qA,fp] at hm;exact ar m hm
def cm.Me{n d:Nat}{F:Fm}(h:cm V n d F):∀β,∀m∈fO β F,V m:=by
 induction h with
 |fb aD a ak ha aZ=>
  intro β m hm;rw[fO] at hm;obtain⟨t,ht,hm⟩:=yG.1 hm;exact(ha t ht).Me β m hm
 |e2=>intro β m hm;rw[fO] at hm;cases hm
 |neg h ar=>intro β m hm;rw[fO,fOs,fOs,fp] at hm;exact ar _ m hm
 |q op aD ho hn h ar=>intro β m hm;rw[fO,fOs,fOs,fp] at hm;exact ar _ m hm
 |bi op ho h h2 ar fx=>
  intro β m hm;rw[fO,fOs,fOs,fOs,fp] at hm;rcases gN.1 hm with hm|hm
  ·exact absurd hm aT
  ·rcases gN.1 hm with hm|hm
   ·exact ar _ m hm
   ·exact fx _ m hm
end
def GT.SD{β:List Nat->Nat}(pU:β fU=0){k:Nat}{t:Tm}(h:GT dA k t):fU∉fTz β t->GT ek k t:=by
 induction h with
 |v n h=>
  intro hm;refine .v n (h.of λe=>hm ?_);subst e;rw[fTz,if_pos ⟨rfl,pU⟩];simp
 |a=>exact λ_=>.a
 |f h ar=>
  intro hm;rw[fTz,if_neg aT,fTs,fTs,qA,fp] at hm;exact .f (ar hm)
def cm.SD{n d:Nat}{F:Fm}(h:cm dA n d F):∀β,β fU=0->fU∉fO β F->cm ek n d F:=by
 induction h with
 |fb aD a ak ha aZ=>
  intro β pU hm;rw[fO] at hm;exact .fb aD a ak (λt ht=>(ha t ht).SD pU λh=>hm (yG.2 ⟨t,ht,h⟩)) aZ
 |e2=>exact λ_ _ _=>.e2
 |neg h ar=>intro β pU hm;rw[fO,fOs,fOs,fp] at hm;exact .neg (ar _ (by rw[if_neg U];exact pU) hm)
 |q op aD ho hn h ar=>
  intro β pU hm;rw[fO,fOs,fOs,fp] at hm;exact .q op aD ho hn (ar _ (by rw[if_pos ho];unfold vN;rw[if_neg (λe:fU=aD=>Md (e▸hn))];exact pU) hm)
 |bi op ho h h2 ar fx=>
  intro β pU hm;rw[fO,fOs,fOs,fOs,fp,show((none:Option (List Tm)).getD []).flatMap (fTz β)=[] from rfl,qA,gN,not_or] at hm;have hb:(if op=8\/op=9 then vN β [] else β) fU=0:=by rw[if_neg U];exact pU
  exact .bi op ho (ar _ hb hm.1) (fx _ hb hm.2)
def GT.SE{k:Nat}{t:Tm}(h:GT dA k t):ocT fU t=0->GT ek k t:=by
 induction h with
 |v n h=>
  intro hm;refine .v n (h.of λe=>?_);rw[ocT,if_pos ⟨rfl,e⟩] at hm;cases hm
 |a=>exact λ_=>.a
 |f h ar=>intro hm;rw[ocT,ocTs,ocTs,if_neg aT] at hm;exact .f (ar U)
def a3f:∀ {l:List Tm},(∀t∈l,GT dA 2 t)->ocTs fU l=0->∀t∈l,GT ek 2 t
 |[],_,_,t,ht=>by cases ht
 |x::l,h,h0,t,ht=>by
  rw[ocTs] at h0;rcases eH.1 ht with rfl|ht
  ·exact(h _ (.head _)).SE U
  ·exact a3f (λu hu=>h u (.tail _ hu)) U t ht
def cm.SE{n d:Nat}{F:Fm}(h:cm dA n d F):ocF fU F=0->cm ek n d F:=by
 induction h with
 |fb aD a ak ha aZ=>intro hm;rw[ocF] at hm;exact .fb aD a ak (a3f ha hm) aZ
 |e2=>exact λ_=>.e2
 |neg h ar=>intro hm;rw[ocF,ocFs,ocFs] at hm;exact .neg (ar U)
 |q op aD ho hn h ar=>intro hm;rw[ocF,ocFs,ocFs] at hm;exact .q op aD ho hn (ar U)
 |bi op ho h h2 ar fx=>intro hm;rw[ocF,ocFs,ocFs,ocFs] at hm;exact .bi op ho (ar U) (fx U)
def kU(F:Fm):List Nat:=(List.range 4).filter λi=>decide (nm4 i∈fO lU F)
def od(F:Fm):List (List Nat):=(kU F).map nm4
def Az(n:List Nat):Nat:=if n=fU then 0 else if n=[120] then 1 else if n=[121] then 2 else 3
def a3g{n:List Nat}(h:dA n):nm4 (Az n)=n/\Az n<4:=by
 rcases h with h|h
 ·rw[h];decide
 ·rcases x9 h with h|h|h<;>(rw[h];decide)
def c0X{F:Fm}:fU∈od F↔fU∈fO lU F:=by
 unfold od kU;rw[di];constructor
 ·rintro⟨i,hi,e⟩;rw[rJ,decide_eq_true_iff] at hi;rw[e] at hi;exact hi.2
 ·intro h;exact⟨0,rJ.2 ⟨aT,decide_eq_true h⟩,rfl⟩
def a3h(F:Fm):(kU F).length<=4:=by
 unfold kU;exact lE (a2X _ _) aT
def SF(F:Fm):kU F∈Mb:=by
 have key:∀p:Nat->Bool,(List.range 4).filter p∈Mb:=λp=>by
  have e:List.range 4=[0,1,2,3]:=rfl;rw[e];simp only[Ds,List.filter_nil];cases p 0<;>cases p 1<;>cases p 2<;>cases p 3<;>decide
 exact key _
def Mf{F:Fm}{n d:Nat}(h:cm ek n d F):kU F∈Ay:=by
 have h0:decide (nm4 0∈fO lU F)=false:=decide_eq_false λhm=>Md (h.Me lU _ hm);have key:∀p:Nat->Bool,p 0=false->(List.range 4).filter p∈Ay:=λp ay=>by
  have e:List.range 4=[0,1,2,3]:=rfl;rw[e];simp only[Ds,List.filter_nil,ay];cases p 1<;>cases p 2<;>cases p 3<;>decide
 exact key _ h0
section
variable {P:Program}{b:b8}(hb:jb P b)(br:LM b)
include hb br
theorem cm.LN{n d:Nat}{F:Fm}(h:cm dA n d F)(an:d<=300):kh P b (Gy F (od F)):=by
 have au:=h.Me lU;have ao:fO lU F=((fO lU F).map Az).map nm4:=by
  rw[kz];have:(fO lU F).map (nm4∘Az)=(fO lU F).map id:=rh λm hm=>(a3g (au m hm)).1;rw[this,Nh]
 obtain⟨p1,p2⟩:=b7U ((fO lU F).map Az);have eQ:∀i,i∈(fO lU F).map Az↔i∈kU F:=λi=>by
  unfold kU;rw[rJ,decide_eq_true_iff,di,List.mem_range];constructor
  ·rintro⟨m,hm,rfl⟩;have:=a3g (au m hm);exact⟨this.2,by rw[this.1];exact hm⟩
  ·rintro⟨aN,hm⟩;refine⟨_,hm,?_⟩
   match i,aN with
   |0,_=>rfl
   |1,_=>rfl
   |2,_=>rfl
   |3,_=>rfl
 have hnd:(kU F).Nodup:=(List.nodup_range (n:=4)).sublist (a2Y);have a3i:(mY ((fO lU F).map Az)).Perm (kU F):=(List.perm_ext_iff_of_nodup p2 hnd).2 λa=>(p1 a).trans (eQ a);refine Go.Lyc.LN hb br (h.ok λ_=>dA.len) (by have:=h.dep;omega) ao (by rw[a3i.length_eq];have:=a3h F;omega) λbn ae ak=>?_;refine List.Perm.eq_of_pairwise (le:=(· ≤ ·)) (λa c _ _ h1 h2=>Nat.le_antisymm h1 h2) ak ?_ (ae.trans a3i);exact(List.pairwise_le_range (n:=4)).sublist a2Y
end
def pT0:Tm->Tm
 | .mk true n _=>.mk true (if n=fU then oc else n) none
 |t=>t
def pT1:Tm->Tm
 | .mk false n (some [t])=>.mk false n (some [pT0 t])
 |t=>pT0 t
def v7:Tm->Tm
 | .mk false n (some [t])=>.mk false n (some [pT1 t])
 |t=>pT0 t
def SG(u:Tm):(pT0 u).dep<=u.dep:=by
 obtain⟨v,n,a⟩:=u;cases v with
 |true=>rw[pT0,Tm.e0,Tm.e0];show Tm.cv []+1<=_;rw[Tm.cv];omega
 |false=>exact b6 _
def Mg(n:List Nat)(t:Tm):(Tm.mk false n (some [t])).dep=t.dep+1:=by rw[Tm.e0];show Tm.cv [t]+1=_;rw[Tm.cv,Tm.cv];omega
def c0Y(u:Tm):(pT1 u).dep<=u.dep:=by
 unfold pT1;split
 ·rename_i n t;rw[Mg,Mg];have:=SG t;omega
 ·exact SG _
def c0Z(u:Tm):(v7 u).dep<=u.dep:=by
 unfold v7;split
 ·rename_i n t;rw[Mg,Mg];have:=c0Y t;omega
 ·exact SG _
def GT.p0{t:Tm}(h:GT dA 0 t):GT kQ 0 (pT0 t):=by
 cases h with
 |v n h=>
  rw[pT0];refine .v _ ?_;split
  ·exact .inl I
  ·exact .inr (h.of ‹_›)
 |a=>exact .a
def GT.le{V:List Nat->Prop}{k fg:Nat}{t:Tm}(h:GT V k t)(aC:k<=fg):GT V fg t:=by
 induction h generalizing fg with
 |v n h=>exact .v n h
 |a=>exact .a
 |f h ar=>
  obtain⟨c7f,rfl⟩:∃m,fg=m+1:=⟨fg-1,U⟩
  exact .f (ar U)
def GT.p1{t:Tm}(h:GT dA 1 t):GT kQ 1 (pT1 t):=by
 cases h with
 |v n h=>exact(GT.p0 (.v n h)).le U
 |a=>exact .a
 |f h=>exact .f h.p0
def GT.p2{t:Tm}(h:GT dA 2 t):GT kQ 2 (v7 t):=by
 cases h with
 |v n h=>exact(GT.p0 (.v n h)).le U
 |a=>exact .a
 |f h=>exact .f h.p1
def AA:List Tm:=[.mk true fU none,.mk true [120] none,.mk true [121] none,.mk true [122] none,.mk false [97] none]
def a3j:List Tm:=AA++AA.map λt=>.mk false [102] (some [t])
def SH:List Tm:=AA++a3j.map λt=>.mk false [102] (some [t])
def GT.dS{k:Nat}{t:Tm}(h:GT dA k t):k=0->t∈AA:=by
 intro aC;cases h with
 |v n h=>
  rcases h with h|h
  ·rw[h];simp[AA]
  ·rcases x9 h with h|h|h<;>(rw[h];simp[AA])
 |a=>simp[AA]
 |f h=>cases aC
def GT.b3{t:Tm}(h:GT dA 1 t):t∈a3j:=by
 cases h with
 |v n h=>exact wL _ ((GT.v (k:=0) n h).dS I)
 |a=>exact wL _ ((GT.a (V:=dA) (k:=0)).dS I)
 |f h=>exact yH _ (di.2 ⟨_,h.dS I,rfl⟩)
def GT.h_{t:Tm}(h:GT dA 2 t):t∈SH:=by
 cases h with
 |v n h=>exact wL _ ((GT.v (k:=0) n h).dS I)
 |a=>exact wL _ ((GT.a (V:=dA) (k:=0)).dS I)
 |f h=>exact yH _ (di.2 ⟨_,h.b3,rfl⟩)
def cm.bT{n d:Nat}{F:Fm}(h:cm dA n d F):cm kQ n d (ptF fU v7 od F):=by
 induction h with
 |fb aD a ak ha aZ=>rw[Gl _ _ _ U];exact .SB ak _ λt ht=>(ha t ht).p2
 |e2=>rw[Gl _ _ _ U];exact .e2
 |neg h ar=>rw[Gl _ _ _ U];exact .neg ar
 |q op aD ho hn h ar=>
  rename_i n d F;by_cases hm:fU∈od F
  ·rw[a1o _ _ _ _ (λae=>ae.elim (λe:aD=fU=>Md (e▸hn)) λae=>ae hm)];exact .q op aD ho hn ar
  ·rw[RP _ _ _ ho _ (.inr hm)];have h0:cm ek n d F:=h.SD lU I λh=>hm (c0X.2 h);rw[(cm.q op aD ho hn h0).OE];exact(cm.q op aD ho hn h0).mono λ_ h=>.inr h
 |bi op ho h h2 ar fx=>rw[Gl _ _ _ U];exact .bi op ho ar fx
def cm.Gw{az:Fm->Prop}{D:Nat}(hR:∀n d s,cm dA n d s->d<=D->az s){n d:Nat}{F:Fm}(h:cm dA n d F):d<=D->∀m,Fm.Gw [oc] (GT dA 2) az (d+3+m) F:=by
 induction h with
 |fb aD a ak ha aZ=>exact λan m=>by rw[show 1+3+m=(3+m)+1 from by omega];exact⟨(λh=>by rcases h with h|h<;>cases h),ha,λu hu=>by cases hu⟩
 |e2=>exact λan m=>by rw[show 1+3+m=(3+m)+1 from by omega];exact⟨(λh=>by rcases h with h|h<;>cases h),(λu hu=>by cases hu),λu hu=>by cases hu⟩
 |neg h ar=>
  rename_i n d F;intro an m;rw[show d+1+3+m=(d+3+m)+1 from by omega];exact⟨(λh=>by rcases h with h|h<;>cases h),(λu hu=>by cases hu),λu hu=>by rw[show u=F from by simpa [Fm.sub,Fm.d_] using hu];exact ar U m⟩
 |q op aD ho hn h ar=>
  rename_i n d F;intro an m;rw[show d+1+3+m=(d+3+m)+1 from by omega];refine⟨λ_=>⟨F,rfl,?_,hR _ _ _ h U⟩,(λu hu=>by cases hu),λu hu=>by rw[show u=F from by simpa [Fm.sub,Fm.d_] using hu];exact ar U m⟩;show aD∉[oc];rcases x9 hn with h|h|h<;>(rw[h];decide)
 |bi op ho h h2 ar fx=>
  rename_i n d aK e F G;intro an m;have p1:=h.pos;have p2:=h2.pos;rw[show d+e+3+m=(d+e+2+m)+1 from by omega];refine⟨(λh=>by rcases h with h|h<;>(change op=_ at h;omega)),(λu hu=>by cases hu),λu hu=>?_⟩;have:u=F\/u=G:=by simpa [Fm.sub,Fm.d_] using hu
  rcases this with rfl|rfl
  ·have:=ar U (e-1+m);rw[show d+3+(e-1+m)=d+e+2+m from by omega] at this;exact this
  ·have:=fx U (d-1+m);rw[show e+3+(d-1+m)=d+e+2+m from by omega] at this;exact this
def c1a(c:Nat):GT ek 2 (g8 c):=by
 have hb:∀q,GT ek 0 (rb q):=λq=>by
  unfold rb An
  repeat' split
  ·exact .v _ (by simp[ek,o8])
  ·exact .v _ (by simp[ek,o8])
  ·exact .v _ (by simp[ek,o8])
  ·exact .a
 have hi:∀k t,GT ek 0 t->GT ek k (itT t k):=by
  intro k t h
  induction k with
  |zero=>exact h
  |succ k ar=>exact .f ar
 unfold g8;exact(hi _ _ (hb _)).le U
def ki.dq{n d:Nat}{F:Fm}(h:ki n d F):cm ek n d F:=by
 induction h with
 |fb aD a h an ht=>
  cases h with
  |fb _ _ hn ha ak=>exact .fb aD a ak (λt h=>by obtain⟨c,rfl⟩:=ht.1 t h;exact c1a c) ht.2
 |e2=>exact .e2
 |neg h ar=>exact .neg ar
 |q op aD ho hn hx h ar=>exact .q op aD ho (by rcases hx with rfl|rfl|rfl<;>simp[o8]) ar
 |bi op ho h h2 ar fx=>exact .bi op ho ar fx
def cm.strip{V:List Nat->Prop}{n d:Nat}{F:Fm}(h:cm V n d F):∃ft dt,cm V ft dt F.strip/\ft<=n/\dt<=d:=by
 induction h with
 |fb aD a ak ha aZ=>rw[Fm.strip];exact⟨1,1,.fb aD none (a2l ak).1 aT aT,U,U⟩
 |e2=>rw[Fm.strip];exact⟨1,1,.e2,U,U⟩
 |neg h ar=>
  obtain⟨ft,dt,h',h1,h2⟩:=ar;rw[Fm.strip,if_neg U,Fm.n_,Fm.n_];exact⟨_,_,.neg h',U,U⟩
 |q op aD ho hn h ar=>
  obtain⟨ft,dt,h',h1,h2⟩:=ar;rw[Fm.strip,if_pos ho,Fm.stripH];exact⟨_,_,h',U,U⟩
 |bi op ho h h2 ar fx=>
  obtain⟨ft,dt,h',a9,bt⟩:=ar;obtain⟨dC,d2,lN,db,cK⟩:=fx;rw[Fm.strip,if_neg U,Fm.n_,Fm.n_,Fm.n_];exact⟨_,_,.bi op ho h' lN,U,U⟩
def cm.a3k{n d:Nat}{F:Fm}(h:cm ek n d F):g9 F:=by
 have hg:∀ {k t},GT ek k t->t.Aq:=by
  intro k t h
  induction h with
  |v n h=>exact⟨.mk (ek.len h) aT aT,.mk aT aT,λu hu au=>by rw[Tm.parts] at hu;rw[dx.1 hu] at au;cases au⟩
  |a=>exact⟨.mk (by show 1<_;omega) aT aT,.mk aT aT,λu hu au=>by rw[Tm.parts] at hu;rw[dx.1 hu];simp[Ap,Tm.name,Tm.args,Tm.cP]⟩
  |f h ar=>exact a1Z ar
 induction h with
 |fb aD a ak ha aZ=>exact .fb aD a (by simp only[mi,eH,te,mJ,or_false] at ak;rcases ak with h|h|h|h|h<;>(rw[h.1];show 1<_;omega)) (λt ht=>hg (ha t ht)) ak
 |e2=>exact .e2
 |neg h ar=>exact .un 3 [] _ (.inl I) aT ar
 |q op aD ho hn h ar=>exact .un op aD _ (.inr ho) (ek.len hn) ar
 |bi op ho h h2 ar fx=>exact .bi op _ _ ho ar fx
def c1b(l:List Nat):∃n d,cm ek n d (builtF l)/\n<=48/\d<=24:=by
 obtain⟨n,d,h,h1,h2⟩:=a2o l;exact⟨n,d,h.dq,h1,h2⟩
def sL(n:List Nat):Bool:=decide (n=fU)
def AB:Tm:=.mk true oc none
def AD(c:Nat):Fm:=.mk 15 [63,c] none none
structure x_(P:Program)(b:b8):Prop where
 RV:∀n,dA n->dd P b nt [.s n] (.b (sL n))
 b0:dd P b qX [.s [120]] (.s fU)
 cD:∀n,dA n->dd P b ma [.s n] (.ad [.b true,.s n,.aj])
 put:∀u∈SH,dd P b pO [.ad (bs true u),Ah fU AB] (.ad (bs false (v7 u)))
 free:kh P b (o5 AB [oc])
 SI:kh P b (oX,[.ad [.b false,.s [],.aj]],.aj,[])
structure GZ(b:b8):Prop where
 m:Gt b
 n:R1 b
 f:LM b
 g:Si b
 put:gl b sm Fq
 c1c:b.ext pO=0/\b.pure pO=true
 c1d:b.ext oX=7
 c1e:b.ext sl=7
def c1f{n:List Nat}(h:dA n):ek (m0 sL true n):=by
 unfold m0 sL;by_cases e:n=fU
 ·rw[decide_eq_true e,e];show[120]∈o8;decide
 ·rw[decide_eq_false e];exact h.of e
def c1g{n:List Nat}(h:ek n):sL n=false:=decide_eq_false λe=>Md (e▸h)
def a3l{v n:List Nat}(h:ek n):dA n/\dA (ke (some ([120],v)) n):=by
 refine⟨.inr h,?_⟩;unfold ke;simp only[];split
 ·exact .inl I
 ·exact .inr h
section
variable {P:Program}{b:b8}(hb:jb P b)(br:GZ b)(eF:x_ P b)
include hb br
theorem gC.right{F:Fm}(jF:F.ok)(an:F.dep<=400):dd P b mT [.ad (bm F)] (.b (oZ F)):=by
 have h:=a2Q hb br.g (T:=λ_ _ _=>False) (λ_ _ _ _ h=>h.elim) (λ_ _ _ h=>h.elim) (λ_ _ _ h=>h.elim) 6;have:=h _ _ _ (gB.right [F.A true] (.b (oZ F)) F ⟨jF,an⟩ (b6 6) I I);rw[mf] at this;exact this
theorem gC.Mh{n d:Nat}{F:Fm}(h:cm ek n d F)(hn:n<=49)(an:d<=30):dd P b mT [.ad (bm F)] (.b true):=by
 have:=gC.right hb br (F:=F) (h.ok λ_=>ek.len) (by have:=h.dep;omega);rw[h.oZ (λ_=>ek.isVar) hn an] at this;exact this
theorem gC.c1h{n d:Nat}{F:Fm}(h:cm kQ n d F)(hn:n<=49)(an:d<=30):dd P b mT [.ad (bm F)] (.b true):=by
 have:=gC.right hb br (F:=F) (h.ok λ_=>kQ.len) (by have:=h.dep;omega);rw[h.oZ (λ_=>kQ.isVar) hn an] at this;exact this
theorem gC.c1i{n d:Nat}{F:Fm}(h:cm ek n d F)(hn:n<=49)(an:d<=30){op:Nat}(ho:op=3\/op=10\/op=13):dd P b mT [.ad (bm (.mk op [] none (some [F])))] (.b true):=by
 have:=gC.right hb br (F:=.mk op [] none (some [F])) (.mk U aT aT aT aT (λx hx=>by rw[show x=F from by simpa using hx];exact h.ok λ_=>ek.len)) (by rw[x3];have:=h.dep;omega);rw[h.c0U (λ_=>ek.isVar) hn an ho] at this;exact this
theorem gC.copy{V:List Nat->Prop}{n d:Nat}{F:Fm}(h:cm V n d F)(an:d<=30):dd P b lu [.ad (bm F)] (.ad (cV F)):=by
 have:=(RY (b0:=sL) (S:=F) (F:=F) (bd:=none) hb br.m (d+3) F U (h.cL 0)).1;rw[h.OE] at this;exact this
theorem gC.nodes{V:List Nat->Prop}{n d:Nat}{F:Fm}(h:cm V n d F)(hn:n<=49):dd P b Cl [.ad (bm F)] (.fF 1 345):=by
 have:=h.dm;exact(b9u hb br.n (h.cL 0) U).fF U U
theorem gC.c1j{n d:Nat}{F:Fm}(h:cm dA n d F)(hn:n<=49)(an:d<=30)(h0:ocF fU F=0):dd P b tI [.ad (bm F),.s fU] (.i .i64 0):=by
 have:=(R5 (s:=fU) hb br.n (d+3) F U (h.cL 0) U).1;rw[h0] at this;exact this
theorem gC.c1k{n d:Nat}{F:Fm}(h:cm dA n d F)(hn:n<=49)(an:d<=30)(h0:ocF fU F≠0):dd P b tI [.ad (bm F),.s fU] (.fF 1 345):=by
 have:=h.qt fU;exact(R5 (s:=fU) hb br.n (d+3) F U (h.cL 0) U).1.fF U U
theorem gC.free{n d:Nat}{F:Fm}(h:cm dA n d F)(an:d<=30):kh P b (Gy F (od F)):=h.LN hb br.f U
include eF
theorem gC.plain{n d:Nat}{F:Fm}(h:cm dA n d F)(an:d<=30):dd P b sn [.ad (bm F)] (.ad (cV (plF sL F))):=
 (a1D (b0:=sL) (S:=F) (F:=F) (bd:=none) hb br.m (V:=dA) (λn h=>by rw[of_decide_eq_true h];exact⟨_,rfl⟩) eF.RV (d+3) F U (h.cL 0)).1
theorem gC.c1l{n d:Nat}{F:Fm}(h:cm ek n d F)(an:d<=30):dd P b sn [.ad (bm F)] (.ad (cV F)):=by
 have:=gC.plain hb br eF (h.mono (W:=dA) λ_ h=>.inr h) an;rw[h.xi λ_=>c1g] at this;exact this
theorem gC.Aj{n d:Nat}{F:Fm}(h:cm ek n d F)(an:d<=30)(c:Nat):dd P b pN [ju (AD c) F none,.ad (bm F),.aj] (.a6 [.ad (cV F),.b true]):=by
 have:=(R0 (b0:=sL) (S:=AD c) (F:=F) (bd:=none) hb br.m (V:=ek) (D:=d+3) (by unfold AD;rw[Fm.e0];show max (Tm.cv []) (Fm.cv [])+1<=_;rw[Tm.cv,Fm.cv];omega) h.dep U (λ_ _ h=>by cases h) (λn hn=>⟨eF.cD n (.inr hn),eF.cD n (.inr hn)⟩) (d+3) F [] U (by show 0+_<_;omega) (h.cL 0)).1;rw[h.SC] at this;exact this
theorem gC.c1m{n d:Nat}{F:Fm}(h:cm ek n d F)(an:d<=30)(v:List Nat):dd P b pN [ju (AD 65) F (some ([120],v)),.ad (bm F),.aj] (.a6 [.ad (cV (ivF (some ([120],v)) [] F)),.b true]):=
 (R0 (b0:=sL) (S:=AD 65) (F:=F) (bd:=some ([120],v)) hb br.m (V:=ek) (D:=d+3) (by unfold AD;rw[Fm.e0];show max (Tm.cv []) (Fm.cv [])+1<=_;rw[Tm.cv,Fm.cv];omega) h.dep U (λx a_ h=>by cases h;exact eF.b0) (λn hn=>⟨eF.cD n (.inr hn),eF.cD _ (a3l hn).2⟩) (d+3) F [] U (by show 0+_<_;omega) (h.cL 0)).1
theorem gC.put{n d:Nat}{F:Fm}(h:cm dA n d F)(an:d<=30):dd P b sm [.ad (bm F),.s fU,.ad [.b true,.s oc,.aj]] (.ad (cV (ptF fU v7 od F))):=by
 have ht:AB.dep<=5:=by unfold AB;rw[Tm.e0];show Tm.cv []+1<=_;rw[Tm.cv];omega
 exact(R7 (V:=dA) (name:=fU) (t:=AB) (dw:=v7) (ai:=od) (eJ:=[oc]) (Q:=GT dA 2) hb br.m br.put br.c1c br.c1d br.c1e ht (λd u hu=>lE (c0Z u) hu) eF.free (by show 1<_;omega) (λu hu=>eF.put u hu.h_) (d+3) F U (h.cL 0)
  (h.Gw (D:=30) (λn d s ak an=>⟨by unfold od;rw[cb];have:=a3h s;omega,ak.LN hb br.f U⟩) an 0)).1
end
end
section
variable [Tok][TokOk]
open Go Go.RowKit Go.Lyc.T
structure fe(v a_:AV):Prop where
 zG:conf none v=conf none a_
 r:∀(w:World) (O:Nat->Prop) (B:Nat) (u:Value),az w (λ_=>none) O B v u↔az w (λ_=>none) O B a_ u
def fe.refl(v:AV):fe v v:=⟨rfl,λ_ _ _ _=>Iff.rfl⟩
def fe.symm{v a_:AV}(h:fe v a_):fe a_ v:=⟨h.zG.symm,λw O B u=>(h.r w O B u).symm⟩
def fe.trans{v a_ v2:AV}(h:fe v a_)(h2:fe a_ v2):fe v v2:=⟨h.zG.trans h2.zG,λw O B u=>(h.r w O B u).trans (h2.r w O B u)⟩
def fe.y{i:Nat}(h:(∃k n,Tok.Ba i= .i k n)\/∃l,Tok.Ba i= .s l):fe (.y i) (Tok.Ba i):=by
 refine⟨by rcases h with⟨k,n,e⟩|⟨l,e⟩<;>rw[e]<;>rfl,λw O B u=>⟨λhR=>?_,λhR=>.y ?_⟩⟩
 ·cases hR with
  |y ao=>
   rcases h with⟨k,n,e⟩|⟨l,e⟩
   ·rw[e] at ao ⊢;cases ao;exact .i _ _
   ·rw[e] at ao ⊢;cases ao with
    |s l h=>exact .s l h
 ·rcases h with⟨k,n,e⟩|⟨l,e⟩
  ·rw[e] at hR ⊢;cases hR;exact .i _ _
  ·rw[e] at hR ⊢;cases hR with
   |s l h=>exact .s l h
def fe.eT{o:Bool}{i:Nat}(h:Tok.oB o i= .aj\/∃R l,Tok.oB o i= .aR o R l):fe (.eT o i) (Tok.oB o i):=by
 refine⟨by rcases h with e|⟨R,l,e⟩<;>rw[e]<;>rfl,λw O B u=>⟨λhR=>?_,λhR=>?_⟩⟩
 ·cases hR with
  |eT hu h=>exact h
 ·obtain⟨a,l,c,e⟩:∃a l c,u= .slice a l c:=by
   rcases h with e|⟨R,l,e⟩
   ·rw[e] at hR;cases hR;exact⟨_,_,_,rfl⟩
   ·rw[e] at hR;cases hR<;>exact⟨_,_,_,rfl⟩
  exact .eT e hR
def jy(l m:List AV):Prop:=l.length=m.length/\∀i (h:i<l.length) (h':i<m.length),fe l[i] m[i]
def jy.nil:jy [] []:=⟨rfl,λi h=>by cases h⟩
def jy.cons{x y:AV}{l m:List AV}(h:fe x y)(ao:jy l m):jy (x::l) (y::m):=⟨by rw[gS,gS,ao.1],λi h1 h2=>by
 cases i with
 |zero=>exact h
 |succ i=>exact ao.2 i (by simpa using h1) (by simpa using h2)⟩
def jy.refl(l:List AV):jy l l:=⟨rfl,λ_ _ _=>.refl _⟩
def jy.app{l m bq aK:List AV}(h:jy l m)(h':jy bq aK):jy (l++bq) (m++aK):=by
 induction l generalizing m with
 |nil=>
  obtain rfl:m=[]:=CC.1 h.1.symm;exact h'
 |cons x l ar=>
  cases m with
  |nil=>have:=h.1;simp at this
  |cons y m=>exact .cons (h.2 0 aT aT) (ar ⟨by have:=h.1;simpa using this,λi h1 h2=>h.2 (i+1) (by simpa using h1) (by simpa using h2)⟩)
def jy.symm{l m:List AV}(h:jy l m):jy m l:=⟨h.1.symm,λi h1 h2=>(h.2 i h2 h1).symm⟩
def fe.a3m{l m:List AV}(h:jy l m){w:World}{O:Nat->Prop}{B:Nat}{u:Value}(hR:az w (λ_=>none) O B (.ad l) u):az w (λ_=>none) O B (.ad m) u:=by
 cases hR with
 |ad ak al hf=>
  refine .ad (by rw[ak,h.1]) (λi h1 h2=>((h.2 i (by rw[h.1];exact h1) h1).r _ _ _ _).1 (al i (by rw[h.1];exact h1) h2)) λx hx=>?_;obtain⟨i,hi,rfl⟩:=lF hx;rw[<-(h.2 i (by rw[h.1];exact hi) hi).zG];exact hf _ (c3 _)
def fe.ad{l m:List AV}(h:jy l m):fe (.ad l) (.ad m):=⟨rfl,λ_ _ _ _=>⟨fe.a3m h,fe.a3m h.symm⟩⟩
def fe.a3n{l m:List AV}(h:jy l m){w:World}{O:Nat->Prop}{B:Nat}{u:Value}(hR:az w (λ_=>none) O B (.a6 l) u):az w (λ_=>none) O B (.a6 m) u:=by
 cases hR with
 |a6 ak al=>exact .a6 (by rw[ak,h.1]) (λi h1 h2=>((h.2 i (by rw[h.1];exact h1) h1).r _ _ _ _).1 (al i (by rw[h.1];exact h1) h2))
def fe.a6{l m:List AV}(h:jy l m):fe (.a6 l) (.a6 m):=⟨rfl,λ_ _ _ _=>⟨fe.a3n h,fe.a3n h.symm⟩⟩
def sM(c d:List (List AV)):Prop:=c.length=d.length/\∀i (h:i<c.length) (h':i<d.length),jy c[i] d[i]
def sM.nil:sM [] []:=⟨rfl,λi h=>by cases h⟩
def sM.cons{x y:List AV}{l m:List (List AV)}(h:jy x y)(ao:sM l m):sM (x::l) (y::m):=⟨by rw[gS,gS,ao.1],λi h1 h2=>by
 cases i with
 |zero=>exact h
 |succ i=>exact ao.2 i (by simpa using h1) (by simpa using h2)⟩
def sM.symm{l m:List (List AV)}(h:sM l m):sM m l:=⟨h.1.symm,λi h1 h2=>(h.2 i h2 h1).symm⟩
def fe.a3o{o:Bool}{R:Option Nat}{c d:List (List AV)}(h:sM c d){w:World}{O:Nat->Prop}{B:Nat}{u:Value}(hR:az w (λ_=>none) O B (.aR o R (c.map AV.ad)) u):az w (λ_=>none) O B (.aR o R (d.map AV.ad)) u:=by
 have ao:=h.1;have sb:∀i (h:i<c.length) (h':i<d.length),(c[i]).length=(d[i]).length:=λi h1 h2=>(h.2 i h1 h2).1;generalize hx:c.map AV.ad=xs at hR;cases hR with
 |kB=>
  obtain rfl:=PA.1 hx;obtain rfl:d=[]:=CC.1 (by simpa using ao.symm);exact .kB
 |aR a4 c9 ak ae al hL hf ei=>
  have oQ:xs.length=c.length:=by rw[<-hx,cb]
  have hg:∀i (h:i<xs.length) (h':i<c.length),xs[i]= .ad c[i]:=λi h h'=>by subst hx;simp
  have Ja:(d.map AV.ad).length=xs.length:=by rw[cb];omega
  have zB:∀i (h:i<(d.map AV.ad).length) (h':i<d.length),(d.map AV.ad)[i]= .ad d[i]:=λi h h'=>by simp
  have b_:d.map AV.ad≠[]->xs≠[]:=λh e=>h (CC.1 (by rw[Ja,e];rfl));rw[<-Ja];refine .aR a4 (λh=>c9 (b_ h)) (λi h=>?_) (λi h j aG=>?_) (λi h' j aG=>?_) U (λv au x gg=>?_) (λh=>ei (b_ h))
  ·have h1:=ak i U;rw[hg i U U] at h1;rw[zB i h U];cases R with
   |none=>cases h1
   |some k=>
    have h1:Nat.beq (c[i]'U).length k=true:=h1;show Nat.beq (d[i]'U).length k=true;rw[<-sb i U U];exact h1
  ·have aF:((d.map AV.ad)[i]).cells.length=(d[i]'U).length:=by rw[zB i h U];rfl
   have aV:(xs[i]'U).cells.length=(c[i]'U).length:=by rw[hg i U U];rfl
   exact ae i U j (by rw[aV,sb i U U,← aF];exact aG)
  ·have aF:((d.map AV.ad)[i]).cells=d[i]'U:=by rw[zB i h' U];rfl
   have aV:(xs[i]'U).cells=c[i]'U:=by rw[hg i U U];rfl
   have n7:j<(d[i]'U).length:=by rw[<-aF];exact aG
   have mI:j<(c[i]'U).length:=by rw[sb i U U];exact n7
   have h3:=al i U j (by rw[aV];exact mI);simp only[aV] at h3;simp only[aF];exact(((h.2 i U U).2 j mI n7).r _ _ _ _).1 h3
  ·obtain⟨i,hi,rfl⟩:=lF au;have aF:((d.map AV.ad)[i]).cells=d[i]'(by rw[cb] at hi;exact hi):=by rw[zB i hi (by rw[cb] at hi;exact hi)];rfl
   rw[cb] at hi;rw[aF] at gg;obtain⟨j,aG,rfl⟩:=lF gg;have aV:(xs[i]'U).cells=c[i]'U:=by rw[hg i U U];rfl
   have mI:j<(c[i]'U).length:=by rw[sb i U U];exact aG
   rw[<-((h.2 i U U).2 j mI aG).zG];exact hf _ (c3 (show i<xs.length by omega)) _ (by rw[aV];exact c3 _)
def fe.aR{o:Bool}{R:Option Nat}{c d:List (List AV)}(h:sM c d):fe (.aR o R (c.map AV.ad)) (.aR o R (d.map AV.ad)):=⟨rfl,λ_ _ _ _=>⟨fe.a3o h,fe.a3o h.symm⟩⟩
def jy.bF{l m:List AV}(h:jy l m){w:World}{O:Nat->Prop}{B:Nat}{us:List Value}(hR:bF w (λ_=>none) O B m us):bF w (λ_=>none) O B l us:=⟨by rw[hR.1,h.1],λi h1 h2=>((h.2 i h1 (by rw[<-h.1];exact h1)).r _ _ _ _).2 (hR.2 i (by rw[<-h.1];exact h1) h2)⟩
def dd.eqv{P:Program}{b:b8}{g:Nat}{aB CO:List AV}{r bS:AV}(h:dd P b g aB r)(ao:jy CO aB)(al:fe r bS):dd P b g CO bS:=λbN=>
 ⟨(h bN).1,λk rd w us eu cc hR=>((h bN).2 k rd w us eu cc (ao.symm.bF hR)).mono λe bf ⟨u,aF,aV,dp⟩=>⟨u,aF,(al.r _ _ _ _).1 aV,dp⟩⟩
def kh.eqv{P:Program}{b:b8}{g:Nat}{aB CO:List AV}{v:AV}{os:List (List AV)}(h:kh P b (g,aB,v,os))(ao:jy CO aB):kh P b (g,CO,v,os):=λbN=>
 ⟨(h bN).1,λk rd w us eu cc hR=>(h bN).2 k rd w us eu cc (ao.symm.bF hR)⟩
structure p5(p:Nat->Fm):Prop where
 op:∀k,Tok.Ba (2*k)= .i .u8 (Int.ofNat (p k).op)
 aD:∀k,Tok.Ba (2*k+1)= .s (p k).name
 aB:∀o k,Tok.oB o (2*k)=cy o (p k).cP
 vh:∀o k,Tok.oB o (2*k+1)=fa o (p k).d_
def jG(o:Bool)(F:Fm):List AV:=[a3 F.op,.s F.name,cy o F.cP,fa o F.d_]
section
variable {p:Nat->Fm}(ay:p5 p)
include ay
theorem p5.p3(k:Nat):fe (.y (2*k)) (.i .u8 (Int.ofNat (p k).op)):=by rw[<-ay.op k];exact .y (.inl ⟨_,_,ay.op k⟩)
theorem p5.j5(k:Nat):fe (.y (2*k+1)) (.s (p k).name):=by rw[<-ay.aD k];exact .y (.inr ⟨_,ay.aD k⟩)
theorem p5.t0(o:Bool)(k:Nat):fe (.eT o (2*k)) (cy o (p k).cP):=by
 rw[<-ay.aB o k];refine .eT ?_;rw[ay.aB o k];cases(p k).cP with
 |none=>exact .inl I
 |some l=>exact .inr ⟨_,_,rfl⟩
theorem p5.t1(o:Bool)(k:Nat):fe (.eT o (2*k+1)) (fa o (p k).d_):=by
 rw[<-ay.vh o k];refine .eT ?_;rw[ay.vh o k];cases(p k).d_ with
 |none=>exact .inl I
 |some l=>exact .inr ⟨_,_,rfl⟩
theorem p5.l(o:Bool)(k:Nat):jy (sH k o) (jG o (p k)):=.cons (ay.p3 k) (.cons (ay.j5 k) (.cons (ay.t0 o k) (.cons (ay.t1 o k) .nil)))
theorem p5.v(o:Bool)(k:Nat):fe (ea k o) (.ad (jG o (p k))):=.ad (ay.l o k)
theorem p5.o(o:Bool){k j:Nat}(aG:(p k).op=j):jy [a3 j,.y (2*k+1),.eT o (2*k),.eT o (2*k+1)] (jG o (p k)):=.cons (by rw[aG];exact .refl _) (.cons (ay.j5 k) (.cons (ay.t0 o k) (.cons (ay.t1 o k) .nil)))
end
def c1n(o:Bool)(l:List Fm):fa o (some l)= .aR o (some 4) ((l.map (jG o)).map AV.ad):=by
 show AV.aR o (some 4) (l.map (Fm.A o))=_;rw[kz];cases o with
 |true=>rw[show(Fm.A true)=(AV.ad∘jG true) from funext λt=>mf t]
 |false=>rw[show(Fm.A false)=(AV.ad∘jG false) from funext λt=>xX t]
def CP{o:Bool}{op:Nat}{aD:List Nat}{c:List (List AV)}{l:List Fm}(h:sM c (l.map (jG o))):fe (jx op aD o (c.map AV.ad)) (.ad (jG o (.mk op aD none (some l)))):=by
 refine .ad (.cons (.refl _) (.cons (.refl _) (.cons (.refl _) (.cons ?_ .nil))));show fe _ (fa o (some l));rw[c1n];exact .aR h
def c1o(b:b8)(gn:List eL)(x:List sK×List eL×List eL):Bool:=cB (λe=>runsTo (b.b2 x.1) (x.2.1++gn) 100000 e) x.2.2
def iM(b:b8)(gn:List eL)(l:List (List sK×List eL×List eL)):Bool:=cB (c1o b gn) l
def cod2:AV->Option Nat
 | .a6 [.ad [x,y],.i .i64 (.ofNat c)]=>cond (conf none x&&conf none y) (some c) none
 |_=>none
def cod3:AV->Option Nat
 | .a6 [x,.ad [y,z],.i .i64 (.ofNat c)]=>cond (conf none x&&(conf none y&&conf none z)) (some c) none
 |_=>none
def c1p{m:AV}{c:Nat}(h:cod2 m=some c):∃x y,m= .a6 [.ad [x,y],aw c]/\conf none x=true/\conf none y=true:=by
 unfold cod2 at h;split at h
 ·rename_i x y bn;cases ae:conf none x&&conf none y with
  |false=>rw[ae] at h;cases h
  |true=>rw[ae] at h;cases h;simp only[c7] at ae;exact⟨x,y,rfl,ae.1,ae.2⟩
 ·cases h
def c1q{m:AV}{c:Nat}(h:cod3 m=some c):∃x y z,m= .a6 [x,.ad [y,z],aw c]/\conf none x=true/\conf none y=true/\conf none z=true:=by
 unfold cod3 at h;split at h
 ·rename_i x y z bn;cases ae:conf none x&&(conf none y&&conf none z) with
  |false=>rw[ae] at h;cases h
  |true=>rw[ae] at h;cases h;simp only[c7] at ae;exact⟨x,y,z,rfl,ae.1,ae.2.1,ae.2.2⟩
 ·cases h
def c1r:AV:=.s [97,108,108,69]
def ya(c:Nat):Bool:=Nat.beq c 0||Nat.beq c 71
def AE(r:AV)(c:Nat):Bool:=Bool.not (Nat.beq c 80)||AV.eqb 10 (c0R r) c1r
def SJ(x y:Bool):Bool:=cond x y (Bool.not y)
def a3p{x y:Bool}(h:SJ x y=true):x=y:=by cases x<;>cases y<;>first|rfl|cases h
def stpB(b:b8)(gn:List eL)(r:AV)(c:x6):Bool:=
 match Dy (b.env (L_ c++gn)) 100000 sk [iL r,c.f,p4] with
 |some m=>AV.eqb 1000 m m&&(gI 1000 m&&(match cod2 m with
  |some ia=>(match Dy (b.env ((sk,[iL r,c.f,p4],m)::(L_ c++gn))) 100000 tJ [r,c.f,p4,.aj] with
   |some w=>AV.eqb 1000 w w&&(gI 1000 w&&(match cod3 w with
    |some iy=>SJ (ya ia) c.x&&SJ (AE r iy) c.x
    |none=>false))
   |none=>false)
  |none=>false))
 |none=>false
def AF(b:b8)(gn:List eL)(r:AV):Bool:=Nat.blt 1 (kk (iL r))&&cB (stpB b gn r) (uh (iL r))
def AG(P:Program)(b:b8)(r f:AV)(x:Bool):Prop:=∃m w ia iy,dd P b sk [iL r,f,p4] m/\dd P b tJ [r,f,p4,.aj] w/\cod2 m=some ia/\cod3 w=some iy/\ya ia=x/\AE r iy=x
section
variable {P:Program}{b:b8}(hb:jb P b)
include hb
theorem a3q{cT:List eL}(ht:gu P b cT){g:Nat}{aB:List AV}{v:AV}(h:Dy (b.env cT) 100000 g aB=some v)(h1:AV.eqb 1000 v v=true)(h2:gI 1000 v=true):dd P b g aB v:=λbN=>
 ht.entry hb (n:=100000) (e:=(g,aB,v)) (by
  unfold runsTo;simp only[];rw[h];simp only[h1,h2,H6]) bN
theorem gu.c1s{cT:List eL}(ht:gu P b cT){g:Nat}{aB:List AV}{v:AV}(h:dd P b g aB v):gu P b ((g,aB,v)::cT):=λe he bN=>by
 rcases eH.1 he with rfl|he
 ·exact h bN
 ·exact ht e he bN
theorem c1t{gn:List eL}{r:AV}{c:x6}(ht:gu P b (L_ c++gn))(h:stpB b gn r c=true):AG P b r c.f c.x:=by
 unfold stpB at h;split at h
 ·rename_i m hm;simp only[c7] at h;obtain⟨b3,h_,h⟩:=h;split at h
  ·rename_i ia y0;split at h
   ·rename_i w hw;simp only[c7] at h;obtain⟨bf,ja,h⟩:=h;split at h
    ·rename_i iy c1u;have l1:=a3q hb ht hm b3 h_;have kw:=a3q hb (gu.c1s hb ht l1) hw bf ja;simp only[c7] at h;exact⟨m,w,ia,iy,l1,kw,y0,c1u,a3p h.1,a3p h.2⟩
    ·cases h
   ·cases h
  ·cases h
 ·cases h
theorem CQ{gn:List eL}{l:List (List sK×List eL×List eL)}(h0:gu P b gn)(h:iM b gn l=true){x:List sK×List eL×List eL}(hx:x∈l)(ho:∀e∈x.1,kh P b e)(ht:gu P b x.2.1):∀e∈x.2.2,dd P b e.1 e.2.1 e.2.2:=λe he=>by
 have h1:=np (np h x hx) e he;have h2:gu P (b.b2 x.1) (x.2.1++gn):=λe he bN=>(ht.append h0) e he bN;exact λbN=>h2.entry (hb.b2 ho) h1 bN
end
def gu.of{P:Program}{b:b8}{cT:List eL}(h:∀e∈cT,dd P b e.1 e.2.1 e.2.2):gu P b cT:=λe he bN=>h e he bN
def sN{α:Type}{p:α->Prop}:∀e∈([]:List α),p e:=λe h=>by cases h
def g0{α:Type}{p:α->Prop}{x:α}{l:List α}(h:p x)(h':∀e∈l,p e):∀e∈x::l,p e:=λe he=>by
 rcases eH.1 he with rfl|he
 ·exact h
 ·exact h' e he
def yb{α:Type}{p:α->Prop}{l m:List α}(h:∀e∈l,p e)(h':∀e∈m,p e):∀e∈l++m,p e:=λe he=>by
 rcases gN.1 he with he|he
 ·exact h e he
 ·exact h' e he
def falF:Fm:=.mk 2 [] none none
def AH(F:Fm):Fm:=F.sub.headD falF
def SK(F:Fm):Fm:=ivF (some ([120],F.name)) [] (AH F)
def pOf(F:Fm):Nat->Fm
 |0=>AH F
 |1=>F.sub.getD 1 falF
 |2=>SK F
 |3=>plF sL (SK F)
 |4=>ptF fU v7 od (SK F)
 |_=>F
abbrev kV(P:Program)(b:b8)(e:eL):Prop:=dd P b e.1 e.2.1 e.2.2
structure Mi(b:b8)(gn:List eL):Prop where
 f0:iM b gn (x8 0)=true
 f5:iM b gn (x8 5)=true
 a:iM b gn (CM 0)=true
 c:iM b gn (CM 1)=true
 i:iM b gn (CN false)=true
 j:iM b gn (CN true)=true
 f:iM b gn Sy=true
def cm.AH{n d:Nat}{F:Fm}(h:cm ek n d F):∃ft dt,cm ek ft dt (AH F)/\ft<=n/\dt<=d:=by
 cases h with
 |fb aD a ak ha aZ=>exact⟨1,1,.e2,U,U⟩
 |e2=>exact⟨1,1,.e2,U,U⟩
 |neg h=>exact⟨_,_,h,U,U⟩
 |q op aD ho hn h=>exact⟨_,_,h,U,U⟩
 |bi op ho h h2=>have:=h2.pos;exact⟨_,_,h,U,U⟩
def cm.c1v{n d:Nat}{F:Fm}(h:cm ek n d F):∃ft dt,cm ek ft dt (pOf F 1)/\ft<=n/\dt<=d:=by
 have p:=h.pos;cases h with
 |fb aD a ak ha aZ=>exact⟨1,1,.e2,U,U⟩
 |e2=>exact⟨1,1,.e2,U,U⟩
 |neg h=>exact⟨1,1,.e2,U,U⟩
 |q op aD ho hn h=>exact⟨1,1,.e2,U,U⟩
 |bi op ho h h2=>have:=h.pos;exact⟨_,_,h2,U,U⟩
def a3r(F:Fm)(k:Nat):(m4 k (kU F)).2.2=(pZ (od F),ra (od F)):=by
 unfold od m4 Sx;have e:∀i,(Nat.rec [63,120] (λi _=>[120+i]) i:List Nat)=nm4 i:=λi=>by cases i<;>rfl
 cases kU F with
 |nil=>rfl
 |cons x l=>
  simp only[e];show(AV.aq 0 0 (x::l).length none none,[(x::l).map λi=>AV.s (nm4 i)])=(AV.aq 0 0 ((x::l).map nm4).length none none,[((x::l).map nm4).map AV.s]);rw[cb,kz];rfl
section
variable {P:Program}{b:b8}(hb:jb P b)(br:GZ b)(eF:x_ P b){gn:List eL}(h0:gu P b gn)(iU:Mi b gn){F:Fm}(ay:p5 (pOf F)){n d:Nat}(bB:cm ek n d F)(hn:n<=48)(an:d<=24)
include ay
theorem Mj{k c:Nat}(h:dd P b pN [ju (AD c) (pOf F k) none,.ad (bm (pOf F k)),.aj] (.a6 [.ad (cV (pOf F k)),.b true])):kV P b (GQ c k):=
 h.eqv (.cons (.ad (.app (.refl _) (.app (ay.l true k) (.refl _)))) (.cons (ay.v true k) (.refl _))) (.a6 (.cons (ay.v false k).symm (.refl _)))
theorem Mk{g k fg:Nat}(h:dd P b g [.ad (bm (pOf F k))] (.ad (cV (pOf F fg)))):kV P b (g,[ea k true],ea fg false):=
 h.eqv (.cons (ay.v true k) .nil) (ay.v false fg).symm
theorem CR{g k:Nat}{v:AV}(h:dd P b g [.ad (bm (pOf F k))] v):kV P b (g,[ea k true],v):=
 h.eqv (.cons (ay.v true k) .nil) (.refl _)
theorem c1w{op k:Nat}(o:Bool):fe (jx op [] o [ea k o]) (.ad (jG o (.mk op [] none (some [pOf F k])))):=CP (c:=[sH k o]) (.cons (ay.l o k) .nil)
include hb br eF
theorem SL{k ft dt:Nat}(h:cm ek ft dt (pOf F k))(fi:ft<=49)(mm:dt<=30):∀e∈x5 k k,kV P b e:=
 g0 (Mk ay (gC.copy hb br h mm)) (g0 (Mk ay (gC.c1l hb br eF h mm)) (g0 (CR ay (gC.Mh hb br h fi mm)) sN))
theorem SM{k ft dt:Nat}(h:cm ek ft dt (pOf F k))(fi:ft<=49)(mm:dt<=30):∀e∈sJ k,kV P b e:=by
 have h1:∀op,op=3\/op=10\/op=13->kV P b (mT,[jx op [] true [ea k true]],.b true):=λop ho=>(gC.c1i hb br h fi mm ho).eqv (.cons (c1w ay true) .nil) (.refl _);exact g0 (h1 3 (.inl I)) (g0 (h1 10 (.inr (.inl I))) (g0 (h1 13 (.inr (.inr I))) (g0 (CR ay (gC.nodes hb br h fi)) (SL hb br eF ay h fi mm))))
omit eF in
theorem CS{k ft dt:Nat}(h:cm dA ft dt (pOf F k))(mm:dt<=30):kh P b (m4 k (kU (pOf F k))):=by
 have h2:=(gC.free hb br h mm).eqv (CO:=[ea k true]) (.cons (ay.v true k) .nil);have e:m4 k (kU (pOf F k))=(sl,[ea k true],pZ (od (pOf F k)),ra (od (pOf F k))):=by
  rw[<-(Prod.mk.inj (a3r (pOf F k) k)).1,← (Prod.mk.inj (a3r (pOf F k) k)).2];rfl
 rw[e];exact h2
include h0
theorem c1x{k ft dt:Nat}(hf:iM b gn (x8 k)=true)(h:cm ek ft dt (pOf F k))(fi:ft<=49)(mm:dt<=30):∀e∈L9 k::L8 k,kV P b e:=
 CQ hb h0 hf (x:=([m4 k (kU (pOf F k))],sJ k,L9 k::L8 k)) (di.2 ⟨_,Mf h,rfl⟩) (g0 (CS hb br ay (h.mono λ_ h=>.inr h) mm) sN) (gu.of (SM hb br eF ay h fi mm))
theorem a3s{k ft dt:Nat}(hf:iM b gn (x8 k)=true)(h:cm ek ft dt (pOf F k))(fi:ft<=49)(mm:dt<=30):∀e∈a2V k,kV P b e:=by
 have h1:=c1x hb br eF h0 ay hf h fi mm;exact g0 (Mj ay (gC.Aj hb br eF h mm 65)) (g0 (Mj ay (gC.Aj hb br eF h mm 66)) (g0 (Mj ay (gC.Aj hb br eF h mm 67)) (g0 (h1 _ (.head _)) (yb (SL hb br eF ay h fi mm) λe he=>h1 e (.tail _ he)))))
include iU bB hn an
theorem c1y:∀e∈a2W,kV P b e:=by
 obtain⟨u4,d0,iG,lk,xg⟩:=bB.AH;obtain⟨dQ,d1,cn,a9,db⟩:=bB.c1v;have iG:cm ek u4 d0 (pOf F 0):=iG;have ht:∀e∈sJ 0++sJ 1,kV P b e:=yb (SM hb br eF ay iG U U) (SM hb br eF ay cn U U);have Ll:=CQ hb h0 iU.a (x:=([m4 0 (kU (pOf F 0))],sJ 0++sJ 1,_)) (di.2 ⟨_,Mf iG,rfl⟩) (g0 (CS hb br ay (iG.mono λ_ h=>.inr h) U) sN) (gu.of ht);have lf:=CQ hb h0 iU.c (x:=([m4 1 (kU (pOf F 1))],sJ 0++sJ 1,_)) (di.2 ⟨_,Mf cn,rfl⟩) (g0 (CS hb br ay (cn.mono λ_ h=>.inr h) U) sN) (gu.of ht);exact g0 (Mj ay (gC.Aj hb br eF cn U 66)) (yb (SL hb br eF ay cn U U) (g0 (Ll _ (.head _)) (g0 (lf _ (.head _)) sN)))
end
def AG.eqv{P:Program}{b:b8}{r f bD:AV}{x:Bool}(h:AG P b r f x)(e:fe bD f):AG P b r bD x:=by
 obtain⟨m,w,ia,iy,h1,h2,h3⟩:=h;exact⟨m,w,ia,iy,h1.eqv (.cons (.refl _) (.cons e (.refl _))) (.refl _),h2.eqv (.cons (.refl _) (.cons e (.refl _))) (.refl _),h3⟩
def j2(c:AV)(F:Fm):Bool:=if 14<kk c then true else if 9<kk c then false else if F.op=kk c then(if kk c=3 then decide (x7 c=15) else true) else false
section
variable {P:Program}{b:b8}(hb:jb P b)(br:GZ b)(eF:x_ P b){gn:List eL}(h0:gu P b gn)(iU:Mi b gn){F:Fm}(ay:p5 (pOf F)){n d:Nat}(bB:cm ek n d F)(hn:n<=48)(an:d<=24)
include hb br eF h0 iU ay bB hn an
theorem F0{dC d2:Nat}(ct:cm dA dC d2 (pOf F 2))(fk:dC<=49)(lh:d2<=30):(∀e∈x5 2 3,kV P b e)/\∀e∈GV (decide (ocF fU (pOf F 2)≠0)),kV P b e:=by
 have eN:cm ek dC d2 (pOf F 3):=ct.pl λ_=>c1f;have t2:∀e∈x5 2 3,kV P b e:=g0 (Mk ay (gC.copy hb br ct lh)) (g0 (Mk (fg:=3) ay (gC.plain hb br eF ct lh)) (g0 (CR ay (gC.Mh hb br eN fk lh)) sN));refine⟨t2,?_⟩;have ho:∀e∈m4 2 (kU (pOf F 2))::Ma,kh P b e:=g0 (CS hb br ay ct lh) (g0 eF.free (g0 eF.SI sN));have hs:kV P b (Cl,[ea 2 true],.fF 1 345):=CR ay (gC.nodes hb br ct fk);by_cases o1:ocF fU (pOf F 2)=0
 ·rw[decide_eq_false U];have c1z:=ct.SE o1;refine CQ hb h0 iU.i (x:=(m4 2 (kU (pOf F 2))::Ma,Sw false,GV false)) (di.2 ⟨_,SF _,rfl⟩) ho (gu.of ?_);exact g0 hs (g0 ((gC.c1j hb br ct fk lh o1).eqv (.cons (ay.v true 2) (.refl _)) (.refl _)) (yb t2 (g0 (CR ay (gC.Mh hb br c1z fk lh)) sN)))
 ·rw[decide_eq_true o1];have fm:cm kQ dC d2 (pOf F 4):=ct.bT;refine CQ hb h0 iU.j (x:=(m4 2 (kU (pOf F 2))::Ma,Sw true,GV true)) (di.2 ⟨_,SF _,rfl⟩) ho (gu.of ?_);exact g0 hs (g0 ((gC.c1k hb br ct fk lh o1).eqv (.cons (ay.v true 2) (.refl _)) (.refl _)) (yb t2 (g0 ((gC.put hb br eF ct lh).eqv (.cons (ay.v true 2) (.refl _)) (ay.v false 4).symm) (g0 (CR ay (gC.c1h hb br fm fk lh)) sN))))
theorem c1A{op:Nat}{v:List Nat}{G:Fm}(e:F= .mk op v none (some [G])):∀e∈GX (jx op v true [ea 0 true]) v (decide (ocF fU (pOf F 2)≠0)),kV P b e:=by
 obtain⟨u4,d0,iG,lk,xg⟩:=bB.AH;have iG:cm ek u4 d0 (pOf F 0):=iG;have ct:cm dA u4 d0 (pOf F 2):=cm.fF (V:=ek) (W:=dA) (some ([120],F.name)) (λ_ h=>a3l h) iG [];obtain⟨t2,c1B⟩:=F0 hb br eF h0 iU ay bB hn an ct U U;have hf:fe (jx op v true [ea 0 true]) (ea 5 true):=by
  refine fe.trans ?_ (ay.v true 5).symm;have:pOf F 5= .mk op v none (some [pOf F 0]):=by subst e;rfl
  rw[this];exact CP (c:=[sH 0 true]) (.cons (ay.l true 0) .nil)
 have DM:=CQ hb h0 iU.f (x:=([m4 5 (kU (pOf F 5)),m4 2 (kU (pOf F 2))],[],[GW (ea 5 true)])) (yG.2 ⟨_,Mf bB,di.2 ⟨_,SF _,rfl⟩⟩)
  (g0 (CS (k:=5) hb br ay (bB.mono λ_ h=>.inr h) U) (g0 (CS hb br ay ct U) sN)) gu.nil
 have e8:kV P b (GW (jx op v true [ea 0 true])):=dd.eqv (DM (GW (ea 5 true)) (.head _)) (.cons (.refl _) (.cons hf (.refl _))) (.refl _);have c1C:kV P b (a2U v):=by
  have:=gC.c1m hb br eF iG U v;have au:v=F.name:=by subst e;rfl
  refine this.eqv (.cons (.ad (.app (.refl _) (.app (ay.l true 0) (.refl _)))) (.cons (ay.v true 0) (.refl _))) (.a6 (.cons (fe.symm ?_) (.refl _)));have h2:=ay.v false 2;rw[au];exact h2
 exact g0 c1C (g0 e8 (yb t2 c1B))
theorem c1D{c:x6}{k:Nat}(aC:c.k=k)(Bf:k=0\/k=5)(hf:fe c.f (.ad (bm F)))(aP:∀v j1,c.q=some (v,j1)->∀e∈GX c.f v j1,kV P b e):gu P b (L_ c):=by
 obtain⟨u4,d0,iG,lk,xg⟩:=bB.AH;have iG:cm ek u4 d0 (pOf F 0):=iG;have kK:cm ek n d (pOf F 5):=bB;refine gu.of (g0 ((gC.Mh hb br bB U U).eqv (.cons hf .nil) (.refl _)) (yb ?_ (yb (c1y hb br eF h0 iU ay bB hn an) ?_)))
 ·rw[aC];rcases Bf with rfl|rfl
  ·exact a3s hb br eF h0 ay iU.f0 iG U U
  ·exact a3s hb br eF h0 ay iU.f5 kK U U
 ·cases Pl:c.q with
  |none=>exact sN
  |some x=>exact aP x.1 x.2 Pl
theorem ui{cT:List eL}(ht:gu P b cT){r:AV}(al:AF b cT r=true){c:x6}(ae:c∈uh (iL r)){k:Nat}(aC:c.k=k)(Bf:k=0\/k=5)(hf:fe c.f (.ad (bm F)))(aP:∀v j1,c.q=some (v,j1)->∀e∈GX c.f v j1,kV P b e){x:Bool}(hx:c.x=x):AG P b r (.ad (bm F)) x:=by
 unfold AF at al;simp only[c7] at al;rw[<-hx];exact(c1t hb ((c1D hb br eF h0 iU ay bB hn an aC Bf hf aP).append ht) (np al.2 c ae)).eqv hf.symm
theorem c1E{cT:List eL}(ht:gu P b cT){r:AV}(al:AF b cT r=true):AG P b r (.ad (bm F)) (j2 (iL r) F):=by
 generalize k0:iL r=hj;have ho:1<kk hj:=by
  unfold AF at al;simp only[c7] at al;rw[<-k0];exact eb al.1
 have ui:=λ{x:Bool} {c:x6} (ae:c∈uh hj) {k:Nat} (aC:c.k=k) (Bf:k=0\/k=5) (hf:fe c.f (.ad (bm F))) (aP:∀v j1,c.q=some (v,j1)->∀e∈GX c.f v j1,kV P b e) (hx:c.x=x)=>ui hb br eF h0 iU ay bB hn an ht al (c:=c) (by rw[k0];exact ae) aC Bf hf aP hx;have iF:F.op∈nine:=by
  cases bB with
  |fb=>simp[nine,Fm.op]
  |e2=>simp[nine,Fm.op]
  |neg=>simp[nine,Fm.op]
  |q op aD ho=>rcases ho with rfl|rfl<;>simp[nine,Fm.op]
  |bi op ho=>
         have:op=4\/op=5\/op=6\/op=7:=by omega
         rcases this with rfl|rfl|rfl|rfl<;>simp[nine,Fm.op]
 have eO:fe (v5 F.op 5 true) (.ad (bm F)):=.ad (ay.o true (k:=5) I);by_cases hE:14<kk hj
 ·have e:uh hj=[⟨ea 5 true,5,none,true⟩]:=by unfold uh;rw[show Nat.blt 14 (kk hj)=true from hO hE];rfl
  exact ui (x:=j2 hj F) (c:=⟨ea 5 true,5,none,true⟩) (by rw[e];exact .head _) I (.inr I) (ay.v true 5) (λ_ _ h=>by cases h) (by unfold j2;rw[if_pos hE])
 have db:Nat.blt 14 (kk hj)=false:=by
  cases h:Nat.blt 14 (kk hj) with
  |false=>rfl
  |true=>exact absurd (eb h) hE
 by_cases jn:9<kk hj
 ·have e:uh hj=nine.map λj=>⟨v5 j 5 true,0,none,false⟩:=by unfold uh;rw[db,show Nat.blt 9 (kk hj)=true from hO jn];rfl
  exact ui (c:=⟨v5 F.op 5 true,0,none,false⟩) (by rw[e];exact di.2 ⟨_,iF,rfl⟩) I (.inl I) eO (λ_ _ h=>by cases h) (by unfold j2;rw[if_neg hE,if_pos jn])
 have cK:Nat.blt 9 (kk hj)=false:=by
  cases h:Nat.blt 9 (kk hj) with
  |false=>rfl
  |true=>exact absurd (eb h) jn
 have e:uh hj=(nine.filter λj=>Bool.not (Nat.beq j (kk hj))).map (λj=>⟨v5 j 5 true,0,none,false⟩)++GY (kk hj) (x7 hj):=by unfold uh;rw[db,cK];rfl
 by_cases jo:F.op=kk hj
 ·have G0:∀ {c},c∈GY (kk hj) (x7 hj)->c∈uh hj:=λh=>by rw[e];exact yH _ h
  have Av:=bB;have G1:=jo;cases bB with
  |fb aD a=>rw[show(Fm.mk 1 aD a none).op=1 from rfl] at jo;omega
  |e2=>
   rw[show(Fm.mk 2 [] none none).op=2 from rfl] at jo;refine ui (c:=⟨a2R,0,none,true⟩) (G0 ?_) I (.inl I) (.refl _) (λ_ _ h=>by cases h) (by unfold j2;rw[if_neg hE,if_neg jn,if_pos G1,if_neg U]);rw[<-jo];exact .head _
  |neg h=>
   rename_i dQ d1 G;rw[show(Fm.mk 3 [] none (some [G])).op=3 from rfl] at jo;by_cases ak:x7 hj=15
   ·refine ui (c:=⟨jx 3 [] true [ea 0 true],0,none,true⟩) (G0 ?_) I (.inl I) (CP (c:=[sH 0 true]) (.cons (ay.l true 0) .nil)) (λ_ _ h=>by cases h) (by unfold j2;rw[if_neg hE,if_neg jn,if_pos G1,if_pos jo.symm,decide_eq_true ak]);rw[<-jo,ak];exact .head _
   ·have c1F:G.op∈nine:=by
     cases h with
     |fb=>simp[nine,Fm.op]
     |e2=>simp[nine,Fm.op]
     |neg=>simp[nine,Fm.op]
     |q op aD ho=>rcases ho with rfl|rfl<;>simp[nine,Fm.op]
     |bi op ho=>
            have:op=4\/op=5\/op=6\/op=7:=by omega
            rcases this with rfl|rfl|rfl|rfl<;>simp[nine,Fm.op]
    refine ui (c:=⟨jx 3 [] true [v5 G.op 0 true],0,none,false⟩) (G0 ?_) I (.inl I) (CP (c:=[[a3 G.op,.y (2*0+1),.eT true (2*0),.eT true (2*0+1)]]) (.cons (ay.o true (k:=0) I) .nil)) (λ_ _ h=>by cases h) (by unfold j2;rw[if_neg hE,if_neg jn,if_pos G1,if_pos jo.symm,decide_eq_false ak]);rw[<-jo];unfold GY;rw[show Nat.beq (x7 hj) 15=false from by
     cases h:Nat.beq (x7 hj) 15 with
     |false=>rfl
     |true=>exact absurd (eM h) ak]
    exact di.2 ⟨_,c1F,rfl⟩
  |q op aD aP jX h=>
   rename_i dQ d1 G;rw[show(Fm.mk op aD none (some [G])).op=op from rfl] at jo;refine ui (c:=⟨jx op aD true [ea 0 true],0,some (aD,decide (ocF fU (pOf (.mk op aD none (some [G])) 2)≠0)),true⟩) (G0 ?_) I (.inl I) (CP (c:=[sH 0 true]) (.cons (ay.l true 0) .nil)) (λv j1 h=>?_) (by unfold j2;rw[if_neg hE,if_neg jn,if_pos G1,if_neg U])
   ·rw[<-jo];have:GY op (x7 hj)=o8.flatMap λv=>[⟨jx op v true [ea 0 true],0,some (v,false),true⟩,⟨jx op v true [ea 0 true],0,some (v,true),true⟩]:=by rcases aP with rfl|rfl<;>rfl
    rw[this];refine yG.2 ⟨aD,jX,?_⟩;by_cases o1:ocF fU (pOf (.mk op aD none (some [G])) 2)=0
    ·rw[decide_eq_false U];exact .head _
    ·rw[decide_eq_true o1];exact .tail _ (.head _)
   ·cases h;exact c1A hb br eF h0 iU ay Av hn an I
  |bi op aP h h2=>
   rename_i dQ d1 b3 aF G c1G;rw[show(Fm.mk op [] none (some [G,c1G])).op=op from rfl] at jo;refine ui (c:=⟨jx op [] true [ea 0 true,ea 1 true],0,none,true⟩) (G0 ?_) I (.inl I) (CP (c:=[sH 0 true,sH 1 true]) (.cons (ay.l true 0) (.cons (ay.l true 1) .nil))) (λ_ _ h=>by cases h) (by unfold j2;rw[if_neg hE,if_neg jn,if_pos G1,if_neg U]);rw[<-jo];have:op=4\/op=5\/op=6\/op=7:=by omega
   rcases this with rfl|rfl|rfl|rfl<;>exact .head _
 ·refine ui (c:=⟨v5 F.op 5 true,0,none,false⟩) ?_ I (.inl I) eO (λ_ _ h=>by cases h) (by unfold j2;rw[if_neg hE,if_neg jn,if_neg jo]);rw[e];refine wL _ (di.2 ⟨_,rJ.2 ⟨iF,?_⟩,rfl⟩);cases h:Nat.beq F.op (kk hj) with
  |false=>rfl
  |true=>exact absurd (eM h) jo
end
end
section
variable [Tok][TokOk]
open Go.RowKit Go.Lyc.T
def uj:AV->List Nat
 | .ad (.s n::_)=>n
 |_=>[]
def iN(rs:List AV)(F:Fm):List (List Nat):=(rs.filter λr=>j2 (iL r) F).map uj
def CT(r:AV):Prop:=∃aD sF o zE v8 cs,r= .ad [.s aD,sF,.i .u8 o,.s zE,v8,cs]/\conf none sF=true/\conf none v8=true/\conf none cs=true
def a3t{R:Option Nat}{o:Bool}{l:List AV}{j:Nat}(h:j<l.length):idxSlA R (.aR o R l) j=some (.dk o l[j]):=by
 have:=E1 (o:=o) (R:=R) (l:=some l) (g:=λx=>x) h;simpa [osl] using this
def SN{rs:List AV}{F:Fm}{j:Nat}(h:j<rs.length):iN (rs.take (j+1)) F=iN (rs.take j) F++(if j2 (iL rs[j]) F=true then[uj rs[j]] else[]):=by
 unfold iN;rw[lv h,a2Z,ie]
 congr 1
 by_cases ae:j2 (iL rs[j]) F=true
 ·rw[if_pos ae,List.filter_cons_of_pos (by simpa using ae)];rfl
 ·rw[if_neg ae,List.filter_cons_of_neg (by simpa using ae)];rfl
def SO(rs:List AV)(F:Fm):(iN rs F).length<=rs.length:=by
 unfold iN;rw[cb];exact a2X _ _
section
variable {b:b8}{K:Nat->List AV->AV->Prop}(hfn:∀g aB r bS,K g aB r->K g aB bS->r=bS)
include hfn
theorem c1H{l:kj}{F:Fm}{x:Bool}(ao:∀ah:ag,bp ah (b.a2+1000) (l.A true)=some (l.A true))(ak:∀ah:ag,bp ah (b.a2+1000) (.ad (bm F))=some (.ad (bm F)))
  (At:b.ext qV=0/\b.pure qV=true) (AI:K qV [l.A true,.ad (bm F)] (.b x)) (SP:b.ext sk=0/\b.pure sk=true) (c1I:∀r∈l.rs,CT r) (pq:∀r∈l.rs,∀ah:ag,bp ah (b.a2+1000) (iL r)=some (iL r)) (hlen:l.rs.length<2^20)
  (xO:x=true->∀r∈l.rs,∃m ia,K sk [iL r,.ad (bm F),p4] m/\cod2 m=some ia/\ya ia=j2 (iL r) F) (body:bC) (hb:Kc.body=some body):
  aa (b.aQ K) Kc.ntmps body (eh [l.A true,.ad (bm F)]) ⟨.nil,0⟩ (n4 Kc.results (cond x (.a6 [slA false none ((iN l.rs F).map AV.s),aw 0]) (.a6 [.aj,aw 2]))):=by
 cases hb;refine W.n1 λz H=>?_;refine aO ?_;refine W.dK (c:=l.cells true) H I I I I I I λc2 dQ H bM=>?_;refine aO ?_;refine W.dK (c:=bm F) H dQ I I I I I λca dC H ba=>?_;refine aO ?_;refine W.gx hfn At AI I I I (lq (ao _) (ak _)) ?_;refine aO ?_;cases x with
 |false=>
  refine aO ?_;refine aa.ret ?_;exact⟨rfl,_,xR (k8 I) (k8 I),rfl⟩
 |true=>
  refine aO ?_;show ch _ _ _ _ _ _ _ _;refine aa.each l.rs.length (λj f a1=>(∃w,f 6=w/\Sl a1 none w ((iN (l.rs.take j) F).map AV.s)/\(iN (l.rs.take j) F=[]->w= .aj)/\∀o,w.dU =some o->2<=o)/\(∀i o,i<2->ca.get i=some o->a1.get i=some o)/\2<=a1.next/\sat [(2,bT 0),(3,bT 1),(16,.aR true (some 6) l.rs)] f) U ⟨⟨.aj,rfl,.nil,λ_=>rfl,λ_ h=>by cases h⟩,λ_ _ _ h=>h,U,b9⟩ I I (λj g a1 aG bz hi hm=>?_) (λg a1 bz hi=>?_)
  ·obtain⟨⟨w,AJ,hw,fJ,gb⟩,cH,hn,vj⟩:=bz;refine aa.norm [(2,bT 0),(3,bT 1),(16,.aR true (some 6) l.rs),(6,w),(18,aw j),(17,aw l.rs.length)] ⟨vj.1,vj.2.1,vj.2.2.1,AJ,hi,hm,trivial⟩ λg=>?_;obtain⟨aD,sF,o,zE,v8,cs,bJ,hE,jn,jo⟩:=c1I _ (c3 aG);have vS:=pq _ (c3 aG);obtain⟨m,ia,l1,em,uk⟩:=xO I _ (c3 aG);have lT:=SN (F:=F) aG;rw[bJ] at vS l1 uk lT;obtain⟨cI,c1J,rfl,b3,h_⟩:=c1p em;have H:Has a1 [(1,bm F)]:=Has.nil.cons (cH 1 _ U (H.fK)) aT;refine aO ?_;refine W.jq I I I I (a3t aG) ?_;refine W.gY (R:=some 6) I I I (by rw[bJ];rfl) ?_;rw[bJ];generalize aP:a1.next=q;refine aO ?_;refine W.hI (c:=[.s [],.aj,.i .u8 0,.s [],.aj,.aj]) H aP I I I λc_ fY H bj=>?_;refine aO ?_;refine W.st (bn:=[.s aD,sF,.i .u8 o,.s zE,v8,cs]) H 0 I I I I I I λgz hM H de=>?_;refine aO ?_;refine W.gx hfn SP l1 I I I (BY (vS _) (ak _) I) ?_;refine aO ?_;refine W.hI (c:=[.aj,.aj]) H hM I I I λg7 oN H e8=>?_;refine aO ?_;refine W.st (bn:=[cI,c1J]) H 0 I I I I I I λly mO H gH=>?_;have cq:∀i o,i<q->a1.get i=some o->ly.get i=some o:=λi o hi h=>gH _ _ U (e8 _ _ (de _ _ U (bj _ _ h)));by_cases nN:ya ia=true
   ·have y0:ia=0\/ia=71:=by
     unfold ya at nN;rcases(qf _ _▸nN) with h|h
     ·exact .inl (eM h)
     ·exact .inr (eM h)
    rw[nN] at uk;rw[if_pos uk.symm] at lT;have AJ:=hw.bK (ah:=ly) λi o hi ho=>cq i o (by have:=ag.cJ ho;omega) ho;rcases y0 with rfl|rfl
    all_goals
     refine aO ?_;refine W.gU (c:=[.s aD]) H mO I I I λgL pA H jZ=>?_;have pV:=AJ.bK (ah:=gL) λi o _ ho=>jZ _ _ ho;refine W.ap (.s aD) [] pV (by show(match gL.get g7.next with|some (.cells c)=>elems none 1 (c.drop 0)|_=>none)=_;rw[H.fK];rfl) (λz aZ=>by rw[dx.1 aZ];rfl) (by rw[cb];have:=SO (l.rs.take j) F;rw[gM] at this;show(3*(_+1)+2000)*16<=_;omega) I I I I λa_ mZ c1K GI _ Ej o3=>?_;refine aO ?_;refine⟨rfl,rfl,⟨a_,rfl,?_,λh=>?_,λo ho=>by rw[GI] at ho;cases ho;omega⟩,λi o hi ho=>o3 _ _ (λe=>by have:=gb _ e;omega) (jZ _ _ (cq i o U (cH i o hi ho))),U,b9⟩
     ·rw[lT,ie];exact c1K
     ·rw[lT] at h;have:=congrArg List.length h;simp at this
   ·have y0:ia≠0/\ia≠71:=⟨λh=>nN (by rw[h];rfl),λh=>nN (by rw[h];rfl)⟩
    rw[<-uk,if_neg nN,fp] at lT;have AJ:=hw.bK (ah:=ly) λi o hi ho=>cq i o (by have:=ag.cJ ho;omega) ho;refine aO ?_;refine⟨rfl,rfl,⟨w,rfl,?_,λh=>fJ (by rw[<-lT];exact h),gb⟩,λi o hi ho=>cq i o U (cH i o hi ho),U,b9⟩;rw[lT];exact AJ
  ·obtain⟨⟨w,AJ,hw,fJ,gb⟩,cH,hn,vj⟩:=bz;rw[kS] at hw fJ;refine aa.norm [(6,w)] ⟨AJ,trivial⟩ λg=>?_;refine aO ?_;refine aa.ret ?_;refine⟨rfl,_,xR (k8 I) (k8 I),?_⟩;have h1:freeze a1 0 999 w=some (slA false none ((iN l.rs F).map AV.s)):=o2 (n:=996) hw fJ λx=>rfl;rw[freeze_succ];show(match mapO (freeze a1 0 999) [w,aw 0] with|none=>none|some l=>some (AV.a6 l))=_;rw[mapO_cons,mapO_cons,h1];rfl
end
structure a3u(b:b8)(L:kj):Prop where
 len:L.mj.length=L.rs.length
 Ml:L.rs.length<2^20
 zH:∀r∈L.rs,CT r
 c1L:∀r∈L.mj,CT r
 bd:∀r∈L.rs,∀ah:ag,bp ah (b.a2+1000) (iL r)=some (iL r)
 SQ:∀j (h:j<L.mj.length) (h':j<L.rs.length),(∀ah:ag,bp ah (b.a2+1000) L.mj[j]=some L.rs[j])/\uj L.mj[j]=uj L.rs[j]
def c1M{rs:List AV}{F:Fm}{j:Nat}(h:j<rs.length)(ae:j2 (iL rs[j]) F=true):(iN rs F)[(iN (rs.take j) F).length]? =some (uj rs[j]):=by
 have e:iN rs F=iN (rs.take (j+1)) F++iN (rs.drop (j+1)) F:=by
  unfold iN;rw[<-ie,← a2Z,BR]
 rw[e,SN h,if_pos ae,jD,List.getElem?_append_right (b6 _),wN];rfl
section
variable {b:b8}{K:Nat->List AV->AV->Prop}(hfn:∀g aB r bS,K g aB r->K g aB bS->r=bS)
include hfn
theorem c1N{l:Option (List Nat)}{G2:AV}{bare x:Bool}{F G:Fm}{L:kj}(cc:G=cond bare F.strip F)(gf:∀ah:ag,bp ah (b.a2+1000) (ob l)=some (ob l))(c1O:∀ah:ag,bp ah (b.a2+1000) G2=some G2)
  (SR:b.ext vC=0/\b.pure vC=true) (SS:K vC [ob l] (.ad (cV F))) (PG:b.ext oW=0/\b.pure oW=true) (SU:K oW [.ad (bm F)] (.ad (cV F.strip))) (ua:b.ext tL=0/\b.pure tL=true) (RI:K tL [G2] (.a6 [L.A false,.b true]))
  (c1P:∀ah:ag,bp ah (b.a2+1000) (.ad (cV F))=some (.ad (bm F))) (Mm:∀ah:ag,bp ah (b.a2+1000) (.ad (cV G))=some (.ad (bm G))) (EN:∀ah:ag,bp ah (b.a2+1000) (L.A false)=some (L.A true))
  (CI:b.ext xI=0/\b.pure xI=true) (x0:K xI [L.A true,.ad (bm G)] (cond x (.a6 [slA false none ((iN L.rs G).map AV.s),aw 0]) (.a6 [.aj,aw 2]))) (At:b.ext qV=0/\b.pure qV=true) (AI:K qV [L.A true,.ad (bm G)] (.b x))
  (a3v:b.ext si=0/\b.pure si=true) (GP:K si [] (.b true)) (LV:b.ext tJ=0/\b.pure tJ=true) (hL:a3u b L)
  (hR:x=true->∀r∈L.rs,∃w iy,K tJ [r,.ad (bm G),p4,.aj] w/\cod3 w=some iy/\AE r iy=j2 (iL r) G) (body:bC) (hb:jo.body=some body):
  aa (b.aQ K) jo.ntmps body (eh [ob l,G2,.b bare]) ⟨.nil,0⟩ (n4 jo.results (.b true)):=by
 cases hb;refine W.n1 λz H=>?_;refine aO ?_;refine W.gx hfn SR SS I I I (fZ (gf _)) ?_;refine aO ?_;refine W.hI (c:=[.i .u8 0,.s [],.aj,.aj]) (k:=0) H I I I I λc2 dQ H bM=>?_;refine aO ?_;refine W.st (bn:=cV F) H 0 I I I I I I λca dC H ba=>?_;refine aO ?_;show ch _ _ _ _ _ _ _ _;refine W.b7c (α:=Unit) (λ_=>[(1,G2),(6,.b false),(7,bT 0)]) (λ_ ah=>Has ah [(0,cV G)]/\ah.next=1) ?_ ?_
 ·subst cc;cases bare with
  |true=>
   refine aO ?_;refine W.gx hfn PG SU I I I (fZ (c1P _)) ?_;refine aO ?_;refine W.st (bn:=cV F.strip) H 0 I I I I I I λc_ fY H bj=>?_;refine aO ?_;exact⟨rfl,(),⟨H,U⟩,b9⟩
  |false=>
   refine aO ?_;exact⟨rfl,(),⟨H,U⟩,b9⟩
 clear H bM ba dQ dC;intro _ z ah ⟨H,hn⟩;refine aO ?_;refine W.gx hfn ua RI I I I (fZ (c1O _)) ?_;refine aO ?_;refine W.hI (c:=[.s [],.i .u32 0,.i .u8 0,.i .u8 0,.aj]) H hn I I I λc2 dQ H bM=>?_;refine aO ?_;refine W.st (bn:=L.cells false) H 0 I I I I I I λca dC H ba=>?_;refine aO ?_;refine W.gx hfn CI x0 I I I (lq (EN _) (Mm _)) ?_;refine aO ?_;cases x with
 |false=>
  refine aO ?_;refine W.gx hfn At AI I I I (lq (EN _) (Mm _)) ?_;refine aO ?_;refine W.gx hfn a3v GP I I I I ?_;refine aO ?_;refine aa.ret ?_;exact⟨rfl,_,mW (k8 I),rfl⟩
 |true=>
  refine aO ?_;refine W.gx hfn At AI I I I (lq (EN _) (Mm _)) ?_;refine aO ?_;show ch _ _ _ _ _ _ _ _;have c7g:(iN L.rs G).length<2^20:=Dn (SO _ _) hL.Ml;refine aa.each L.mj.length (λj f a1=>f 12=aw (iN (L.rs.take j) G).length/\(∀i o,i<2->ca.get i=some o->a1.get i=some o)/\2<=a1.next/\sat [(6,.b false),(7,bT 0),(8,bT 1),(10,slA false none ((iN L.rs G).map AV.s)),(54,.aR false (some 6) L.mj)] f) (by have:=hL.len;have:=hL.Ml;omega) ⟨rfl,λ_ _ _ h=>h,U,b9⟩ I I (λj g a1 aG bz hi hm=>?_) (λg a1 bz hi=>?_)
  ·obtain⟨aC,cH,fi,t_⟩:=bz;have fj:j<L.rs.length:=by rw[<-hL.len];exact aG
   generalize ng:(iN (L.rs.take j) G).length=k at aC;have c7h:k<2^20:=by have:=SO (L.rs.take j) G;rw[gM] at this;have:=hL.Ml;omega
   refine aa.norm [(6,.b false),(7,bT 0),(8,bT 1),(10,slA false none ((iN L.rs G).map AV.s)),(54,.aR false (some 6) L.mj),(12,aw k),(56,aw j),(55,aw L.mj.length)] ⟨t_.1,t_.2.1,t_.2.2.1,t_.2.2.2.1,t_.2.2.2.2.1,aC,hi,hm,trivial⟩ λg=>?_;obtain⟨aD,sF,o,zE,v8,cs,bJ,hE,jn,jo⟩:=hL.c1L _ (c3 aG);obtain⟨vS,jX⟩:=hL.SQ j aG fj;obtain⟨c1Q,c7i,bV,c7j,c7k,e5,eK,_⟩:=hL.zH _ (c3 fj);obtain⟨w,iy,kw,c1R,uk⟩:=hR I _ (c3 fj);have lT:=SN (F:=G) fj;have hT:=c1M (F:=G) fj;rw[ng] at hT;have c1S:aD=c1Q:=by rw[bJ,eK] at jX;exact jX
   subst c1S;rw[bJ] at vS;have c1T:AE L.rs[j] iy=(Bool.not (Nat.beq iy 80)||eqL aD [97,108,108,69]):=by rw[eK];rfl
   have c1U:uj L.rs[j]=aD:=by rw[eK];rfl
   rw[c1U] at hT lT;rw[c1T] at uk;obtain⟨wx,JC,c1V,rfl,b3,h_,xe⟩:=c1q c1R;have H:Has a1 [(0,cV G)]:=Has.nil.cons (cH 0 _ U (H.n0)) aT;refine aO ?_;refine W.jq I I I I (a3t aG) ?_;refine W.gY (R:=some 6) I I I (by rw[bJ];rfl) ?_;rw[bJ];generalize aP:a1.next=q;refine aO ?_;refine W.hI (c:=[.s [],.aj,.i .u8 0,.s [],.aj,.aj]) H aP I I I λc_ fY H bj=>?_;refine aO ?_;refine W.st (bn:=[.s aD,sF,.i .u8 o,.s zE,v8,cs]) H 0 I I I I I I λgz hM H de=>?_;refine aO ?_;refine W.gx hfn LV kw I I I (by
    show mapO (bp gz (b.a2+1000)) [.ad [.s aD,sF,.i .u8 o,.s zE,v8,cs],.ad (cV G),.ad [.aj,.aj],.aj]=_;rw[dg,dg,dg,dg,vS,Mm];rfl) ?_
   refine aO ?_;refine W.hI (c:=[.aj,.aj]) H hM I I I λg7 oN H e8=>?_;refine aO ?_;refine W.st (bn:=[JC,c1V]) H 0 I I I I I I λly mO H gH=>?_;have cq:∀i o,i<q->a1.get i=some o->ly.get i=some o:=λi o hi h=>gH _ _ U (e8 _ _ (de _ _ U (bj _ _ h)));by_cases nN:j2 (iL L.rs[j]) G=true
   ·have hT:=hT nN;rw[if_pos nN] at lT;rw[nN] at uk;obtain⟨c7l,w7⟩:=lG.1 hT;by_cases SV:iy=80
    case' pos=>
     subst SV;have gW:eqL aD [97,108,108,69]=true:=uk;refine aO ?_;refine W.bin (v:=.b true) I I I I (by show some (AV.b (eqL aD [97,108,108,69]))=_;rw[gW]) ?_
    all_goals
     refine aO ?_;rw[w7];refine W.bin (v:=.b false) I I I I (by show some (AV.b (Bool.not (eqL aD aD)))=_;rw[tx];rfl) ?_;refine aO ?_;refine⟨rfl,rfl,by show aw (k+1)=_;rw[lT,h5,ng];rfl,λi o hi ho=>cq i o U (cH i o hi ho),U,b9⟩
   ·rw[if_neg nN,fp] at lT;rw[JF.2 nN] at uk;obtain⟨aF,aV⟩:=QG.1 uk;have SV:iy=80:=by
     cases h:Nat.beq iy 80 with
     |true=>exact eM h
     |false=>rw[h] at aF;cases aF
    subst SV;refine aO ?_;refine W.bin (v:=.b false) I I I I (by show some (AV.b (eqL aD [97,108,108,69]))=_;rw[aV]) ?_;refine aO ?_;refine aa.exit ?_;refine⟨rfl,rfl,by show aw k=_;rw[lT,ng],λi o hi ho=>cq i o U (cH i o hi ho),U,b9⟩
  ·obtain⟨aC,cH,fi,t_⟩:=bz;rw[hL.len,kS] at aC;refine aa.norm [(6,.b false),(10,slA false none ((iN L.rs G).map AV.s)),(12,aw (iN L.rs G).length)] ⟨t_.1,t_.2.2.2.1,aC,trivial⟩ λg=>?_;refine aO ?_;refine W.gx hfn a3v GP I I I I ?_;refine aO ?_;refine aa.ret ?_;exact⟨rfl,_,mW (k8 I),rfl⟩
end
end
section
variable [Tok][TokOk]
open Go Go.RowKit Go.Lyc.T
structure lW(P:Program)(b:b8)(k:Nat)(L:kj):Prop where
 pick:dd P b tL [.e3 .u8 8 k] (.a6 [L.A false,.b true])
 right:dd P b sh [L.A true] (.b true)
 ops:L.ops<2^32
 SQ:∀J:ag,bp J 1000 (L.A false)=some (L.A true)
 st:∀J:ag,bp J 1000 (L.A true)=some (L.A true)
 mj:a3u b L
 step:∀r∈L.rs,∃cT,gu P b cT/\AF b cT r=true
structure a3w(P:Program)(b:b8)(gn:List eL):Prop where
 hb:jb P b
 br:GZ b
 eF:x_ P b
 h0:gu P b gn
 iU:Mi b gn
 fits:gl b xI Kc
 law:gl b QB jo
 SP:b.ext sk=0/\b.pure sk=true
 SR:b.ext tJ=0/\b.pure tJ=true
 ua:b.ext tL=0/\b.pure tL=true
 G3:dd P b si [] (.b true)
structure CU(F G:Fm)(L:kj)(x:Bool)(g:Nat)(aB:List AV)(r:AV):Prop where
 built:g=vC->r= .ad (cV F)
 strip:g=oW->r= .ad (cV F.strip)
 pick:g=tL->r= .a6 [L.A false,.b true]
 allow:g=qV->r= .b x
 G3:g=si->r= .b true
 fits:g=xI->r=cond x (.a6 [slA false none ((iN L.rs G).map AV.s),aw 0]) (.a6 [.aj,aw 2])
 SW:g=sk->∀c,aB=[c,.ad (bm G),p4]->∃ia,cod2 r=some ia/\ya ia=j2 c G
 back:g=tJ->∀c,aB=[c,.ad (bm G),p4,.aj]->∃iy,cod3 r=some iy/\AE c iy=j2 (iL c) G
def g_(P:Program)(b:b8)(F G:Fm)(L:kj)(x:Bool)(g:Nat)(aB:List AV)(r:AV):Prop:=∃h:∃r,dd P b g aB r/\CU F G L x g aB r,r=Classical.choose h
section
variable {P:Program}{b:b8}{F G:Fm}{L:kj}{x:Bool}
def g_.fn:∀g aB r bS,g_ P b F G L x g aB r->g_ P b F G L x g aB bS->r=bS:=λg aB r bS ⟨h,e⟩ ⟨h',cp⟩=>by rw[e,cp]
def g_.ok:vq P b (g_ P b F G L x):=λg aB r ⟨h,e⟩=>by subst e;exact(JD h).1
def g_.get{g:Nat}{aB:List AV}{r:AV}(h:dd P b g aB r)(bz:CU F G L x g aB r):∃r,g_ P b F G L x g aB r/\CU F G L x g aB r:=⟨_,⟨⟨r,h,bz⟩,rfl⟩,(JD (⟨r,h,bz⟩:∃r,dd P b g aB r/\CU F G L x g aB r)).2⟩
def g_.CV{g:Nat}{aB:List AV}{r:AV}(h:dd P b g aB r)(bz:CU F G L x g aB r)(hu:∀bS,CU F G L x g aB bS->bS=r):g_ P b F G L x g aB r:=by
 obtain⟨bS,h1,h2⟩:=g_.get h bz;rw[<-hu bS h2];exact h1
def g_.built{aB:List AV}(h:dd P b vC aB (.ad (cV F))):g_ P b F G L x vC aB (.ad (cV F)):=.CV h (by constructor<;>(intro h;first|exact absurd h eI|rfl)) λbS h=>h.built I
def g_.strip{aB:List AV}(h:dd P b oW aB (.ad (cV F.strip))):g_ P b F G L x oW aB (.ad (cV F.strip)):=.CV h (by constructor<;>(intro h;first|exact absurd h eI|rfl)) λbS h=>h.strip I
def g_.pick{aB:List AV}(h:dd P b tL aB (.a6 [L.A false,.b true])):g_ P b F G L x tL aB (.a6 [L.A false,.b true]):=.CV h (by constructor<;>(intro h;first|exact absurd h eI|rfl)) λbS h=>h.pick I
def g_.allow{aB:List AV}(h:dd P b qV aB (.b x)):g_ P b F G L x qV aB (.b x):=.CV h (by constructor<;>(intro h;first|exact absurd h eI|rfl)) λbS h=>h.allow I
def g_.G3{aB:List AV}(h:dd P b si aB (.b true)):g_ P b F G L x si aB (.b true):=.CV h (by constructor<;>(intro h;first|exact absurd h eI|rfl)) λbS h=>h.G3 I
def g_.fits{aB:List AV}(h:dd P b xI aB (cond x (.a6 [slA false none ((iN L.rs G).map AV.s),aw 0]) (.a6 [.aj,aw 2]))):g_ P b F G L x xI aB (cond x (.a6 [slA false none ((iN L.rs G).map AV.s),aw 0]) (.a6 [.aj,aw 2])):=.CV h (by constructor<;>(intro h;first|exact absurd h eI|rfl)) λbS h=>h.fits I
def g_.SW{c m:AV}{ia:Nat}(h:dd P b sk [c,.ad (bm G),p4] m)(h1:cod2 m=some ia)(h2:ya ia=j2 c G):∃m ia,g_ P b F G L x sk [c,.ad (bm G),p4] m/\cod2 m=some ia/\ya ia=j2 c G:=by
 obtain⟨r,k,bz⟩:=g_.get (F:=F) (G:=G) (L:=L) (x:=x) h (by constructor<;>(intro h;first|exact absurd h eI|(intro bn e;rw[<-(Gq e).1];exact⟨ia,h1,h2⟩)));obtain⟨c1W,a9,bt⟩:=bz.SW I c I;exact⟨r,c1W,k,a9,bt⟩
def g_.back{c w:AV}{iy:Nat}(h:dd P b tJ [c,.ad (bm G),p4,.aj] w)(h1:cod3 w=some iy)(h2:AE c iy=j2 (iL c) G):∃w iy,g_ P b F G L x tJ [c,.ad (bm G),p4,.aj] w/\cod3 w=some iy/\AE c iy=j2 (iL c) G:=by
 obtain⟨r,k,bz⟩:=g_.get (F:=F) (G:=G) (L:=L) (x:=x) h (by constructor<;>(intro h;first|exact absurd h eI|(intro bn e;rw[<-(List.cons.inj e).1];exact⟨iy,h1,h2⟩)));obtain⟨c1X,a9,bt⟩:=bz.back I c I;exact⟨r,c1X,k,a9,bt⟩
end
def c1Y(N:List (List Nat)){n:Nat}:fN (n+2) (slA false none (N.map AV.s)):=.WZ λy aI=>by
 obtain⟨s,_,rfl⟩:=di.1 aI;exact⟨rfl,.s _⟩
def G4{b:b8}(aZ:b.a2=0){v r:AV}(h:∀J:ag,bp J 1000 v=some r)(ah:ag):bp ah (b.a2+1000) v=some r:=by
 rw[show b.a2+1000=1000 by rw[aZ]];exact h ah
section
variable {P:Program}{b:b8}{gn:List eL}(f_:a3w P b gn)
include f_
theorem yc{l:Option (List Nat)}(ae:∀c∈l.getD [],c<256)(bare:Bool){k:Nat}{L:kj}(hL:lW P b k L)(ay:p5 (pOf (cond bare (builtF (l.getD [])).strip (builtF (l.getD []))))):dd P b QB [ob l,.e3 .u8 8 k,.b bare] (.b true):=by
 have aZ:=f_.br.g.Su;obtain⟨n,d,bB,hn,an⟩:=c1b (l.getD []);generalize c1Z:builtF (l.getD [])=F at ay bB;generalize a3x:cond bare F.strip F=G at ay;obtain⟨ft,dt,cc,fi,mm⟩:∃ft dt,cm ek ft dt G/\ft<=48/\dt<=24:=by
  subst a3x;cases bare with
  |false=>exact⟨n,d,bB,hn,an⟩
  |true=>
   obtain⟨ft,dt,h,h1,h2⟩:=bB.strip;exact⟨ft,dt,h,U,U⟩
 have c7m:=bB.dep;have Ro:=cc.dep;have cq:=a2Q f_.hb f_.br.g (T:=λg aB r=>g=sh/\aB=[L.A true]/\r= .b true) (λ_ _ _ _ h h'=>h.2.2.trans h'.2.2.symm) (λ_ _ _ h=>.inr (.inl h.1)) (λg aB r ⟨aF,aV,dp⟩ bN=>by subst aF aV dp;exact hL.right bN);have SS:dd P b vC [ob l] (.ad (cV F)):=by
  have:=cq 2 _ _ _ (gB.built _ _ l ae (b6 2) I I);rw[c1Z,xX] at this;exact this
 have SU:dd P b oW [.ad (bm F)] (.ad (cV F.strip)):=by
  have:=cq F.dep _ _ _ (gB.strip _ _ F ⟨bB.a3k,U⟩ (b6 _) I I);rw[mf,xX] at this;exact this
 generalize hx:Am L.ops L.kind G=x;have AI:dd P b qV [L.A true,.ad (bm G)] (.b x):=by
  have:=cq 8 _ _ _ (gB.allowed _ _ L G ⟨cc.a3k,U,hL.ops⟩ hL.st ⟨rfl,rfl,rfl⟩ (b6 8) I I);rw[mf,hx] at this;exact this
 have cR:∀r∈L.rs,AG P b r (.ad (bm G)) (j2 (iL r) G):=λr al=>by
  obtain⟨cT,ht,h⟩:=hL.step r al;exact c1E f_.hb f_.br f_.eF f_.h0 f_.iU ay cc U U ht h
 have c2a:∀ah:ag,bp ah (b.a2+1000) (.ad (bm G))=some (.ad (bm G)):=λah=>q9 Ro U ah;have x0:dd P b xI [L.A true,.ad (bm G)] (cond x (.a6 [slA false none ((iN L.rs G).map AV.s),aw 0]) (.a6 [.aj,aw 2])):=by
  have al:fN 1000 (cond x (.a6 [slA false none ((iN L.rs G).map AV.s),aw 0]) (.a6 [.aj,aw 2])):=by
   cases x with
   |true=>
    exact .a6 (n:=999) λy aI=>by
     simp only[eH,mJ,or_false] at aI;rcases aI with rfl|rfl
     ·exact c1Y (n:=997) _
     ·exact .aw _
   |false=>
    exact .a6 (n:=999) λy aI=>by
     simp only[eH,mJ,or_false] at aI;rcases aI with rfl|rfl
     ·exact .nil
     ·exact .aw _
  exact nw f_.hb (g_.ok (F:=F) (G:=G) (L:=L) (x:=x)) _ f_.fits.1 I I I al.1 al.2 (c1H g_.fn (G4 aZ hL.st) c2a f_.br.g.St.2 (.allow AI) f_.SP hL.mj.zH hL.mj.bd hL.mj.Ml (λ_ r al=>by
   obtain⟨m,w,ia,iy,h1,_,h3,_,bY,_⟩:=cR r al;exact g_.SW h1 h3 bY) _ I)
 have gf:∀J:ag,bp J 1000 (ob l)=some (ob l):=λJ=>by
  cases l with
  |none=>rfl
  |some l=>exact Snp.aR (n:=999) (λy aI=>by obtain⟨c,_,rfl⟩:=di.1 aI;exact Snp.i 998 _ _) J
 exact nw f_.hb (g_.ok (F:=F) (G:=G) (L:=L) (x:=x)) _ f_.law.1 I I I (fN.leaf (n:=3) (v:=.b true) I I).1 (fN.leaf (n:=999) (v:=.b true) I I).2 (c1N g_.fn a3x.symm (G4 aZ gf) (λah=>by rw[show b.a2+1000=1000 by rw[aZ]];rfl)
  f_.br.g.a2M.2 (.built SS) f_.br.g.L7.2 (.strip SU) f_.ua (.pick hL.pick) (λah=>by rw[<-mf,← xX];exact Fm.snap ah false F.dep F _ (b6 _) U) (λah=>by rw[<-mf,← xX];exact Fm.snap ah false G.dep G _ (b6 _) U) (G4 aZ hL.SQ)
  f_.fits.2 (.fits x0) f_.br.g.St.2 (.allow AI) f_.br.g.c0K (.G3 f_.G3) f_.SR hL.mj (λ_ r al=>by
   obtain⟨m,w,ia,iy,_,h2,_,aN,_,cf⟩:=cR r al;exact g_.back h2 aN cf) _ I)
end
end
section
variable [Tok][TokOk]
open Go.RowKit
def nodupB(l:List Nat):Bool:=List.rec true (λx t ar=>cond (lH x t) false ar) l
def a3y:∀ {l:List Nat},nodupB l=true->l.Nodup
 |[],_=>QH
 |x::l,h=>by
  replace h:cond (lH x l) false (nodupB l)=true:=h;cases hm:lH x l with
  |true=>rw[hm] at h;cases h
  |false=>
   rw[hm,cond_false] at h;refine RE.2 ⟨λhx=>?_,a3y h⟩;have:∀ {l:List Nat},x∈l->lH x l=true:=by
    intro l
    induction l with
    |nil=>intro h;cases h
    |cons y l ar=>
     intro h;show cond (Nat.beq y x) true (lH x l)=true;rcases eH.1 h with rfl|h
     ·rw[fE];rfl
     ·rw[ar h];cases Nat.beq y x<;>rfl
   rw[this hx] at hm;cases hm
def cellsB(J:ag)(ids:List Nat)(i:Nat)(c:List AV):Bool:=
 match J.get i with
 |some (.cells m8)=>fv (AV.eqb 1000) (c.map (r_ ids)) m8&&cB (sa ids) c
 |_=>false
def SX(f:Nat->List AV->Bool)(l:List Nat):List (List AV)->Bool:=
 List.rec (λr=>match r with|[]=>true|_::_=>false) (λx _ ar r=>match r with|[]=>false|y::a4=>cond (f x y) (ar a4) false) l
def objTo(b:b8)(cT:List (Nat×List AV×AV))(n:Nat)(e:j0)(ids:List Nat):Bool:=
 match runF (b.env cT) (exec (b.env cT) n) 0 e.1 e.2.1 ⟨.nil,0⟩ with
 |some [(.ok v,J)]=>AV.eqb 1000 (Fe ids e.2.2.1) v&&(okV ids e.2.2.1&&(nodupB ids&&(Nat.beq e.2.2.2.length ids.length&&SX (cellsB J ids) ids e.2.2.2)))
 |_=>false
def a3z{p:Nat->List AV->Bool}:∀ {l:List Nat} {m:List (List AV)},SX p l m=true->∀i (h:i<l.length) (h':i<m.length),p l[i] m[i]=true
 |[],_,_,i,h,_=>by simp at h
 |_::_,[],h,_,_,h'=>by simp at h'
 |x::l,y::m,h,i,h1,h2=>by
  have h:cond (p x y) (SX p l m) false=true:=h;cases ay:p x y with
  |false=>rw[ay] at h;cases h
  |true=>
   rw[ay,cond_true] at h;cases i with
   |zero=>exact ay
   |succ i=>exact a3z h i (by simpa using h1) (by simpa using h2)
def c2b{P:Program}{b:b8}{cT:List (Nat×List AV×AV)}(hb:jb P b)(ht:gu P b cT){n:Nat}{e:j0}{ids:List Nat}(h:objTo b cT n e ids=true):kh P b e:=by
 unfold objTo at h;split at h
 ·rename_i v J b5;simp only[c7] at h;obtain⟨h1,h2,h3,aN,bY⟩:=h;have ao:=eM aN;intro bN;exact b5x (env:=b.env cT) ⟨λg bG hg=>pF.zy hb.funcs g bG hg⟩ ht.XT hb.ext hb.vo b5 (a3y h3) ao h2 (AV.qF _ _ _ h1) (λi a c=>by
   have cf:=a3z bY i c a;unfold cellsB at cf;split at cf
   ·rename_i m8 hg;rw[c7] at cf;rw[hg,BD (AV.qF 1000) _ _ cf.1];exact⟨rfl,jO cf.2⟩
   ·cases cf) bN
 ·cases h
end
section
open Go Go.RowKit Go.Lyc.T
section
abbrev tokF(p:Nat->Fm):Tok:=⟨λi=>cond (Nat.beq (i%2) 0) (.i .u8 (Int.ofNat (p (i/2)).op)) (.s (p (i/2)).name),λo i=>cond (Nat.beq (i%2) 0) (cy o (p (i/2)).cP) (fa o (p (i/2)).d_)⟩
theorem tokF_ok(p:Nat->Fm): @TokOk (tokF p):=by
 letI:Tok:=tokF p
 have key:∀ {w:World} {o bV:Bool} {O iS:Nat->Prop} {B ej:Nat} (_:Seen w o bV O iS B ej) (i:Nat) (u:Value),az w (λ_=>none) O B (Tok.oB o i) u->az w (λ_=>none) iS ej (Tok.oB bV i) u:=λ{w o bV O iS B ej} cg i u h=>by
  have e:∀o,Tok.oB o i=cond (Nat.beq (i%2) 0) (cy o (p (i/2)).cP) (fa o (p (i/2)).d_):=λo=>rfl;rw[e] at h ⊢;cases hb:Nat.beq (i%2) 0 with
  |true=>rw[hb] at h;exact Qd cg _ _ (pa _) u h
  |false=>rw[hb] at h;exact YU cg _ _ (pa _) u h
 refine⟨λ{w O B ej i old u} h=>?_,λ{w O B i u} h=>?_⟩
 ·exact key (λaA _ _ _=>⟨λh=>h,λh=>by cases h⟩) i u h
 ·exact key (λaA _ _ h=>⟨λh2=>by have:=h I;omega,h⟩) i u h
def tokF_p(p:Nat->Fm): @p5 (tokF p) p:=by
 letI:Tok:=tokF p
 have jP:∀k,(2*k)%2=0/\2*k/2=k:=λk=>by omega
 have aF:∀k,(2*k+1)%2=1/\(2*k+1)/2=k:=λk=>by omega
 refine⟨λk=>?_,λk=>?_,λo k=>?_,λo k=>?_⟩
 ·show cond (Nat.beq (2*k%2) 0) (AV.i .u8 (Int.ofNat (p (2*k/2)).op)) (.s (p (2*k/2)).name)=_;rw[(jP k).1,(jP k).2];rfl
 ·show cond (Nat.beq ((2*k+1)%2) 0) (AV.i .u8 (Int.ofNat (p ((2*k+1)/2)).op)) (.s (p ((2*k+1)/2)).name)=_;rw[(aF k).1,(aF k).2];rfl
 ·show cond (Nat.beq (2*k%2) 0) (cy o (p (2*k/2)).cP) (fa o (p (2*k/2)).d_)=_;rw[(jP k).1,(jP k).2];rfl
 ·show cond (Nat.beq ((2*k+1)%2) 0) (cy o (p ((2*k+1)/2)).cP) (fa o (p ((2*k+1)/2)).d_)=_;rw[(aF k).1,(aF k).2];rfl
def bytes_tok{T lP:Tok}{w:World}{O:Nat->Prop}{B:Nat}{u:Value}(o:Option (List Nat))(h: @az T w (λ_=>none) O B (ob o) u): @az lP w (λ_=>none) O B (ob o) u:=by
 cases o with
 |none=>
  have h: @az T w (λ_=>none) O B .aj u:=h;cases h;exact .aj
 |some l=>
  have h: @az T w (λ_=>none) O B (.aR true none (l.map λc=>a3 c)) u:=h;show @az lP w (λ_=>none) O B (.aR true none (l.map λc=>a3 c)) u;generalize hx:(l.map λc=>AV.i .u8 (Int.ofNat c))=xs at h;have hi:∀i (h:i<xs.length),∃c:Int,xs[i]= .i .u8 c:=λi h=>by subst hx;exact⟨_,ic ..⟩
  cases h with
  |kB=>exact .kB
  |aR a4 c9 ak ae al hL hf ei=>
   refine .aR a4 c9 ak ae (λi h j aG=>?_) hL hf ei;have h3:=al i h j aG;obtain⟨c,ae⟩:=hi i h;have e:(xs[i]).cells=[.i .u8 c]:=by rw[ae];rfl
   have aV:(xs[i]).cells[j]= .i .u8 c:=by
    have fj:j<[AV.i .u8 c].length:=by rw[<-e];exact aG
    have:j=0:=by simpa using fj
    subst this;rw[List.getElem_of_eq e];rfl
   rw[aV] at h3 ⊢;generalize a4 i j=y at h3 ⊢;cases h3;exact .i _ _
variable [Tok][TokOk]
def AK{b:b8}{gn:List eL}{l:List (List sK×List eL×List eL)}(n:Nat)(h1:iM b gn (l.take n)=true)(h2:iM b gn (l.drop n)=true):iM b gn l=true:=by
 unfold iM at *;rw[<-BR n l];exact iI λx hx=>(gN.1 hx).elim (λh=>np h1 x h) (λh=>np h2 x h)
def c2c{o:Option AV}{v:AV}(h:(match o with|some u=>AV.eqb 1000 u v|none=>false)=true):o=some v:=by
 cases o with
 |none=>cases h
 |some u=>exact congrArg some (AV.qF 1000 u v h)
def G5(v r:AV):Bool:=match bp ⟨.nil,0⟩ 1000 v with|some u=>AV.eqb 1000 u r|none=>false
def a3A{J ah:ag}(k:∀i o,J.get i=some o->ah.get i=some o):∀(n:Nat) (v r:AV),bp J n v=some r->bp ah n v=some r
 |0,v,r,h=>by rw[O5] at h;cases h
 |n+1,v,r,h=>by
  have ar:=a3A k n;have hm:∀ {l m:List AV},mapO (bp J n) l=some m->mapO (bp ah n) l=some m:=λh=>PR (λx y h=>ar x y h) h;rw[snapshot_succ] at h ⊢;cases v with
  |aq id off len R cap=>
   simp only[] at h ⊢;have al:∀xs,readList J (.aq id off len R cap)=some xs->readList ah (.aq id off len R cap)=some xs:=λxs h=>by
    simp only[readList] at h ⊢;cases hg:J.get id with
    |none=>rw[hg] at h;cases h
    |some o=>rw[hg] at h;rw[k _ _ hg];exact h
   cases aP:readList J (.aq id off len R cap) with
   |none=>rw[aP] at h;cases h
   |some xs=>
    rw[aP] at h;rw[al _ aP];cases ay:mapO (bp J n) xs with
    |none=>simp only[ay] at h;cases h
    |some a4=>simp only[ay] at h;simp only[hm ay];exact h
  |aR o R xs=>
   simp only[] at h ⊢;cases ay:mapO (bp J n) xs with
   |none=>rw[ay] at h;cases h
   |some a4=>rw[ay] at h;rw[hm ay];exact h
  |ad l=>
   simp only[] at h ⊢;cases ay:mapO (bp J n) l with
   |none=>rw[ay] at h;cases h
   |some a4=>rw[ay] at h;rw[hm ay];exact h
  |a6 l=>
   simp only[] at h ⊢;cases ay:mapO (bp J n) l with
   |none=>rw[ay] at h;cases h
   |some a4=>rw[ay] at h;rw[hm ay];exact h
  |it t v=>
   simp only[] at h ⊢;cases ay:bp J n v with
   |none=>rw[ay] at h;cases h
   |some a4=>rw[ay] at h;rw[ar _ _ ay];exact h
  |p a=>cases a<;>exact h
  |m r=>cases r<;>exact h
  |_=>exact h
def Mn{v r:AV}(h:G5 v r=true)(ah:ag):bp ah 1000 v=some r:=a3A (J:=⟨.nil,0⟩) (λi o h=>absurd (ag.cJ h) (Nc _)) 1000 v r (c2c h)
def ruaB:AV->Bool
 | .ad [.s _,sF,.i .u8 _,.s _,v8,cs]=>conf none sF&&(conf none v8&&conf none cs)
 |_=>false
def a3B{r:AV}(h:ruaB r=true):CT r:=by
 unfold ruaB at h;split at h
 ·simp only[c7] at h;exact⟨_,_,_,_,_,_,rfl,h.1,h.2.1,h.2.2⟩
 ·cases h
def rulB:List AV->List AV->Bool
 |[],[]=>true
 |u::us,s::bR=>ruaB u&&(ruaB s&&(G5 u s&&(G5 (iL s) (iL s)&&(eqL (uj u) (uj s)&&rulB us bR))))
 |_,_=>false
def a3C:∀ {us bR:List AV},rulB us bR=true->us.length=bR.length/\(∀r∈bR,CT r)/\(∀r∈us,CT r)/\(∀r∈bR,∀ah:ag,bp ah 1000 (iL r)=some (iL r))/\∀j (h:j<us.length) (h':j<bR.length),(∀ah:ag,bp ah 1000 us[j]=some bR[j])/\uj us[j]=uj bR[j]
 |[],[],_=>⟨rfl,(λr h=>by cases h),(λr h=>by cases h),(λr h=>by cases h),(λj h=>by cases h)⟩
 |[],_::_,h=>by cases h
 |_::_,[],h=>by cases h
 |u::us,s::bR,h=>by
  unfold rulB at h;simp only[c7] at h;obtain⟨h1,h2,h3,aN,bY,cf⟩:=h;obtain⟨a9,bt,cW,eD,e4⟩:=a3C cf;refine⟨by rw[gS,gS,a9],λr al=>?_,λr al=>?_,λr al=>?_,λj h h'=>?_⟩
  ·rcases eH.1 al with rfl|al
   ·exact a3B h2
   ·exact bt r al
  ·rcases eH.1 al with rfl|al
   ·exact a3B h1
   ·exact cW r al
  ·rcases eH.1 al with rfl|al
   ·exact Mn aN
   ·exact eD r al
  ·cases j with
   |zero=>exact⟨Mn h3,by rw[tR] at bY;exact of_decide_eq_true bY⟩
   |succ j=>exact e4 j (by simpa using h) (by simpa using h')
def lC(p a:AV):kj:=match p,a with
 | .a6 [.ad [.s aD,.i _ (.ofNat o),.i _ (.ofNat k),.i _ (.ofNat f),.aR _ _ mj],_],.ad [_,_,_,_,.aR _ _ rs]=>⟨aD,o,k,f,mj,rs⟩
 |_,_=>⟨[],0,0,0,[],[]⟩
def a3D(p a:AV):Bool:=AV.eqb 1000 (.a6 [(lC p a).A false,.b true]) p&&(AV.eqb 1000 ((lC p a).A true) a&&(G5 ((lC p a).A false) ((lC p a).A true)&&(G5 ((lC p a).A true) ((lC p a).A true)&&(rulB (lC p a).mj (lC p a).rs&&(Nat.blt (lC p a).ops 4294967296&&Nat.blt (lC p a).rs.length 1000)))))
def ff(P:Program)(b:b8)(r:AV):Prop:=∃cT,gu P b cT/\AF b cT r=true
def G6(P:Program)(b:b8):List AV->Prop
 |[]=>True
 |r::l=>ff P b r/\G6 P b l
def G6.mem{P:Program}{b:b8}:∀ {l:List AV},G6 P b l->∀r∈l,ff P b r
 |x::l,h,r,al=>by
  rcases eH.1 al with rfl|al
  ·exact h.1
  ·exact G6.mem h.2 r al
def lW.of{P:Program}{b:b8}(aZ:b.a2=0){k:Nat}{p a:AV}(h:a3D p a=true)(h1:dd P b tL [.e3 .u8 8 k] p)(h2:dd P b sh [a] (.b true)){l:List AV}(ao:(lC p a).rs=l)(ak:G6 P b l):lW P b k (lC p a):=by
 unfold a3D at h;simp only[c7] at h;obtain⟨aF,aV,dp,jA,zp,tr,rX⟩:=h;have aF:=AV.qF 1000 _ _ aF;have aV:=AV.qF 1000 _ _ aV;obtain⟨a9,bt,cW,eD,e4⟩:=a3C zp;refine⟨by rw[aF];exact h1,by rw[aV];exact h2,eb tr,Mn dp,Mn jA,⟨a9,Nat.lt_trans (eb rX) eI,bt,cW,λr al=>G4 aZ (eD r al),λj h h'=>⟨G4 aZ (e4 j h h').1,(e4 j h h').2⟩⟩,λr al=>?_⟩;rw[ao] at al;exact ak.mem r al
def dA.all{p:List Nat->Prop}(h0:p fU)(h1:p [120])(h2:p [121])(h3:p [122]){n:List Nat}(h:dA n):p n:=by
 rcases h with rfl|h
 ·exact h0
 ·rcases x9 h with rfl|rfl|rfl
  ·exact h1
  ·exact h2
  ·exact h3
def AL(P:Program)(b:b8):List eL->Prop
 |[]=>True
 |e::l=>kV P b e/\AL P b l
def AL.mem{P:Program}{b:b8}:∀ {l:List eL},AL P b l->∀e∈l,kV P b e
 |x::l,h,e,he=>by
  rcases eH.1 he with rfl|he
  ·exact h.1
  ·exact AL.mem h.2 e he
def x_.of{P:Program}{b:b8}(h:AL P b [(nt,[.s [63,120]],.b true),(nt,[.s [120]],.b false),(nt,[.s [121]],.b false),(nt,[.s [122]],.b false)])(b0:dd P b qX [.s [120]] (.s [63,120]))
  (m:AL P b [(ma,[.s [63,120]],.ad [.b true,.s [63,120],.aj]),(ma,[.s [120]],.ad [.b true,.s [120],.aj]),(ma,[.s [121]],.ad [.b true,.s [121],.aj]),(ma,[.s [122]],.ad [.b true,.s [122],.aj])])
  (put:AL P b (SH.map λu=>(pO,[.ad (bs true u),Ah fU AB],.ad (bs false (v7 u))))) (free:kh P b (o5 AB [oc])) (SI:kh P b (oX,[.ad [.b false,.s [],.aj]],.aj,[])):x_ P b:=
 ⟨λn hn=>dA.all (p:=λn=>dd P b nt [.s n] (.b (sL n))) h.1 h.2.1 h.2.2.1 h.2.2.2.1 hn,b0,λn hn=>dA.all (p:=λn=>dd P b ma [.s n] (.ad [.b true,.s n,.aj])) m.1 m.2.1 m.2.2.1 m.2.2.2.1 hn,λu hu=>put.mem _ (di.2 ⟨u,hu,rfl⟩),free,SI⟩
end
end
end Go.Lyc
end
