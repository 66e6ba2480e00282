/-
  What functions of the program compute: walks, part 2. No conditions: definitions and laws.
-/
import Derived.Test.YtmioclbmbindhaaGreatDoorW1
set_option linter.all false
noncomputable section
namespace Go.Lyc
def Tu:=@List.getElem?_append_left
def L6:=@List.getElem?_append_right
def GL:=@List.getElem?_take
def Tv:=@List.set_eq_take_append_cons_drop
def GM:=@List.getElem?_set
def GO:=@Nat.lt_or_gt_of_ne
def BA:=@List.zipWith_nil_right
def vl:=@List.length_zipWith
def zb:=@List.getElem_zipWith
def L7:=@List.filter_append
def MR:=@Nat.min_eq_left
def GP:=@Option.mem_toList
def vB:=@List.mem_flatten
def Tw:=@List.pairwise_flatten
def MS:=@List.flatten_cons
def Uo:=@List.flatten_append
def MT:=@List.all_map
set_option maxHeartbeats 0
set_option maxRecDepth 100000
variable [Tok][TokOk]
open Go.RowKit Go.Lyc.T
theorem b1s{l:List Int}{n m:Int}:m∈qV l n↔m∈l∨m=n:=by
 unfold qV;have h:m∈l↔m∈l.takeWhile (fun x=>decide (x<n))∨m∈l.dropWhile (fun x=>decide (x<n)):=by
  conv=>lhs;rw[←R6 (p:=fun x:Int=>decide (x<n)) (l:=l)]
  exact dE
 rw[dE,cH,h];constructor
 ·rintro(a|a|a)
  ·exact .inl (.inl a)
  ·exact .inr a
  ·exact .inl (.inr a)
 ·rintro((a|a)|a)
  ·exact .inl a
  ·exact .inr (.inr a)
  ·exact .inr (.inl a)
theorem b1t{a:Bool×List Int}{n m:Int}:m∈(lC a n).2↔m∈a.2∨m=n:=by
 unfold lC;by_cases h:n∈a.2
 ·rw[decide_eq_true h,cond_true];exact⟨.inl,fun h'=>h'.elim id fun e=>e▸h⟩
 ·rw[decide_eq_false h,cond_false];exact b1s
theorem b1u{m:Int}(l:List Int):∀a:Bool×List Int,m∈(l.foldl lC a).2↔m∈a.2∨m∈l:=by
 induction l with
 |nil=>intro a;simp
 |cons n l aA=>intro a;rw[nh,aA,b1t,cH,or_assoc]
theorem b1v{m:Int}(s:List Prf):∀a:Bool×List Int,m∈(s.foldl (fun a q=>(labP q).2.foldl lC a) a).2↔m∈a.2∨∃q∈s,m∈(labP q).2:=by
 induction s with
 |nil=>intro a;simp
 |cons q s aA=>
  intro a;rw[nh,aA,b1u,or_assoc];simp
theorem V4{m:Int}(p:Prf):m∈(labP p).2↔(eqL p.rule []=true∧m=p.aY)∨∃q∈p.sub,m∈(labP q).2:=by
 rw[Ng,b1v];have:m∈(false,cond (eqL p.rule []) [p.aY] []).2↔eqL p.rule []=true∧m=p.aY:=by
  show m∈cond (eqL p.rule []) [p.aY] []↔_;cases eqL p.rule []<;>simp
 rw[this]
theorem V5{m:Int}:∀(d:Nat) (p:Prf),p.cJ≤d→fS m p=true→m∈(labP p).2
 |0,p,h,_=>by have:=p.m5;omega
 |d+1,p,h,ab=>by
  rw[yt,mL,cx,decide_eq_true_eq,AI] at ab;rw[V4];rcases ab with⟨h1,h2⟩|⟨j,az,_,h2⟩
  ·exact .inl ⟨h1,h2.symm⟩
  ·have hm:=aS az;exact .inr ⟨_,hm,V5 d _ (by have:=Prf.my hm;omega) h2⟩
theorem I4{m:Int}(p:Prf):m∈jr p↔fS m p=true:=by
 unfold jr;rw[rr];exact⟨And.right,fun h=>⟨V5 p.cJ p (o _) h,h⟩⟩
section
attribute [local irreducible] bL bl e6 eB b9
def iL{α:Type}(P:Nat→Nat→α→AV→Prop):Nat→Nat→List α→List AV→Prop
 |aK,hi,[],[]=>aK≤hi
 |aK,hi,t::ts,x::xs=>∃m,aK≤m∧m≤hi∧P aK m t x∧iL P m hi ts xs
 |_,_,_,_=>False
theorem iL.le{α:Type}{P:Nat→Nat→α→AV→Prop}:∀ {ts:List α} {xs:List AV} {aK hi:Nat},iL P aK hi ts xs→aK≤hi
 |[],[],_,_,h=>h
 |_::_,_::_,_,_,⟨m,h1,h2,_,_⟩=>l_ h1 h2
theorem iL.mono{α:Type}{P gY:Nat→Nat→α→AV→Prop}{A B:Nat}(hM:∀a c t x,A≤a→c≤B→P a c t x→gY a c t x):∀ {ts:List α} {xs:List AV} {aK hi:Nat},A≤aK→hi≤B→iL P aK hi ts xs→iL gY aK hi ts xs
 |[],[],_,_,_,_,h=>h
 |_::_,_::_,aK,hi,h1,h2,⟨m,aP,a0,bF,bU⟩=>⟨m,aP,a0,hM _ _ _ _ h1 (by omega) bF,iL.mono hM (by omega) h2 bU⟩
theorem iL.len{α:Type}{P:Nat→Nat→α→AV→Prop}:∀ {ts:List α} {xs:List AV} {aK hi:Nat},iL P aK hi ts xs→ts.length=xs.length
 |[],[],_,_,_=>rfl
 |_::_,_::_,_,_,⟨_,_,_,_,h⟩=>congrArg (· +1) (iL.len h)
theorem iL.snoc{α:Type}{P:Nat→Nat→α→AV→Prop}{t:α}{x:AV}{c hi:Nat}(hm:c≤hi):∀ {ts:List α} {xs:List AV} {aK bT:Nat},iL P aK bT ts xs→bT≤c→P bT c t x→(∀a,a≤bT→P bT c t x→P a c t x)→iL P aK hi (ts++[t]) (xs++[x])
 |[],[],aK,bT,h,h2,h3,aE=>⟨c,l_ h h2,hm,aE _ h h3,hm⟩
 |_::_,_::_,aK,bT,⟨m,aP,a0,bF,bU⟩,h2,h3,aE=>⟨m,aP,by omega,bF,iL.snoc hm bU h2 h3 aE⟩
def l3{α:Type}(I:af)(P:Nat→Nat→α→AV→Prop)(ad:Option Nat)(aK hi:Nat)(ts:List α)(w:AV):Prop:=
 (ts=[]∧w= .aB∧aK≤hi)∨∃k xs,aK≤k∧ts≠[]∧w= .ak k 0 xs.length ad (some xs.length)∧I.get k=some (.cells (xs.flatMap AV.cells))∧(∀y∈xs,conf ad y=true)∧iL P (k+1) hi ts xs
theorem l3.le{α:Type}{I:af}{P:Nat→Nat→α→AV→Prop}{ad:Option Nat}{aK hi:Nat}{ts:List α}{w:AV}(h:l3 I P ad aK hi ts w):aK≤hi:=by
 rcases h with⟨_,_,h⟩|⟨k,xs,h1,_,_,_,_,h⟩
 ·exact h
 ·have:=h.le;omega
theorem l3.mono{α:Type}{I U:af}{P gY:Nat→Nat→α→AV→Prop}{ad:Option Nat}{aK hi:Nat}{ts:List α}{w:AV}(aD:∀i c,aK≤i→i<hi→I.get i=some (.cells c)→U.get i=some (.cells c))(hM:∀a c t x,aK≤a→c≤hi→P a c t x→gY a c t x)(h:l3 I P ad aK hi ts w):l3 U gY ad aK hi ts w:=by
 rcases h with h|⟨k,xs,h1,h2,h3,aE,ba,cr⟩
 ·exact .inl h
 ·have:=cr.le;exact .inr ⟨k,xs,h1,h2,h3,aD _ _ h1 (by omega) aE,ba,cr.mono (A:=k+1) (B:=hi) (fun a c t x ha ah=>hM a c t x (by omega) ah) (o _) (o _)⟩
theorem iL.wide{α:Type}{P:Nat→Nat→α→AV→Prop}(hM:∀a c cd aQ t x,cd≤a→c≤aQ→P a c t x→P cd aQ t x):∀ {ts:List α} {xs:List AV} {aK hi AK cS:Nat},AK≤aK→hi≤cS→iL P aK hi ts xs→iL P AK cS ts xs
 |[],[],_,_,_,_,h1,h2,h=>by have h:_≤_:=h;show _≤_;omega
 |_::_,_::_,aK,hi,AK,cS,h1,h2,⟨m,aP,a0,bF,bU⟩=>⟨m,by omega,by omega,hM _ _ _ _ _ _ h1 (o _) bF,iL.wide hM (o _) h2 bU⟩
theorem l3.wide{α:Type}{I:af}{P:Nat→Nat→α→AV→Prop}{ad:Option Nat}{aK hi AK cS:Nat}{ts:List α}{w:AV}(hM:∀a c cd aQ t x,cd≤a→c≤aQ→P a c t x→P cd aQ t x)(h1:AK≤aK)(h2:hi≤cS)(h:l3 I P ad aK hi ts w):l3 I P ad AK cS ts w:=by
 rcases h with⟨a,c,d⟩|⟨k,xs,aP,a0,bF,bU,c6,dL⟩
 ·exact .inl ⟨a,c,by omega⟩
 ·exact .inr ⟨k,xs,by omega,a0,bF,bU,c6,dL.wide hM (o _) h2⟩
theorem l3.one{α:Type}{I:af}{P:Nat→Nat→α→AV→Prop}{ad:Option Nat}{aK hi:Nat}{ts:List α}{w:AV}(h:l3 I P ad aK hi ts w):w.cells=[w]∧w.val=true∧conf none w=true:=by
 rcases h with⟨_,rfl,_⟩|⟨k,xs,_,_,rfl,_⟩<;>exact⟨rfl,rfl,rfl⟩
def gZ(I:af):Nat→Nat→Nat→Tm→AV→Prop
 |0,_,_,_,_=>False
 |d+1,aK,hi,t,v=>∃w,v= .ag [.b t.var,.s t.name,w]∧l3 I (gZ I d) (some 3) aK hi t.args w
def fF(I:af):Nat→Nat→Nat→Fm→AV→Prop
 |0,_,_,_,_=>False
 |d+1,aK,hi,f,v=>∃aW bK m,v= .ag [.i .u8 (Int.ofNat f.op),.s f.name,aW,bK]∧l3 I (gZ I d) (some 3) aK m f.args aW∧l3 I (fF I d) (some 4) m hi f.sub bK
theorem gZ.wide{I:af}:∀(d:Nat) (a c cd aQ:Nat) (t:Tm) (x:AV),cd≤a→c≤aQ→gZ I d a c t x→gZ I d cd aQ t x
 |0,_,_,_,_,_,_,_,_,h=>h
 |d+1,_,_,_,_,_,_,h1,h2,⟨w,e,h⟩=>⟨w,e,h.wide (gZ.wide d) h1 h2⟩
theorem fF.wide{I:af}:∀(d:Nat) (a c cd aQ:Nat) (t:Fm) (x:AV),cd≤a→c≤aQ→fF I d a c t x→fF I d cd aQ t x
 |0,_,_,_,_,_,_,_,_,h=>h
 |d+1,_,_,_,_,_,_,h1,h2,⟨w,bK,m,e,h,h'⟩=>⟨w,bK,m,e,h.wide (gZ.wide d) h1 (o _),h'.wide (fF.wide d) (o _) h2⟩
theorem gZ.aF{I U:af}:∀(d:Nat) {aK hi:Nat} {t:Tm} {v:AV},(∀i c,aK≤i→i<hi→I.get i=some (.cells c)→U.get i=some (.cells c))→gZ I d aK hi t v→gZ U d aK hi t v
 |0,_,_,_,_,_,h=>h
 |d+1,aK,hi,_,_,k,⟨w,e,h⟩=>⟨w,e,h.mono k fun a c t x ha ah=>gZ.aF d fun i J h1 h2=>k i J (by omega) (by omega)⟩
theorem fF.le{I:af}:∀(d:Nat) {aK hi:Nat} {t:Fm} {v:AV},fF I d aK hi t v→aK≤hi
 |_+1,_,_,_,_,⟨_,_,_,_,h,h'⟩=>l_ h.le h'.le
theorem fF.aF{I U:af}:∀(d:Nat) {aK hi:Nat} {t:Fm} {v:AV},(∀i c,aK≤i→i<hi→I.get i=some (.cells c)→U.get i=some (.cells c))→fF I d aK hi t v→fF U d aK hi t v
 |0,_,_,_,_,_,h=>h
 |d+1,aK,hi,_,_,k,⟨w,bK,m,e,h,h'⟩=>by
  have gd:=h.le;have j9:=h'.le;exact⟨w,bK,m,e,h.mono (fun i c h1 h2=>k i c h1 (by omega)) fun a c t x ha ah=>gZ.aF d fun i J h1 h2=>k i J (by omega) (by omega),
   h'.mono (fun i c h1 h2=>k i c (by omega) h2) fun a c t x ha ah=>fF.aF d fun i J h1 h2=>k i J (by omega) (by omega)⟩
theorem Sl.V6{I:af}{ad:Option Nat}{v:AV}{xs aO:List AV}{m:Nat}(aj:Sl I ad v xs)(hn:xs=[]→v= .aB)(hm:mapO (bh I m) xs=some aO):bh I (m+1) v=some (slA true ad aO):=by
 have al:=aj.read;cases aj with
 |nil=>rw[BP] at hm;cases hm;rfl
 |ak J cap xs rest hg ah aD=>
  rw[snapshot_succ];simp only[al,hm];cases xs with
  |nil=>cases hn rfl
  |cons y l=>
   cases aO with
   |nil=>have:=(mc hm).1;simp at this
   |cons z r=>rfl
theorem l3.snap{α:Type}{I:af}{P:Nat→Nat→α→AV→Prop}{ad:Option Nat}{aK hi n:Nat}{ts:List α}{w:AV}{g:α→AV}(hM:∀a c t x,P a c t x→bh I n x=some (g t))(h:l3 I P ad aK hi ts w):bh I (n+1) w=some (slA true ad (ts.map g)):=by
 rcases h with⟨rfl,rfl,_⟩|⟨k,xs,h1,h2,rfl,aE,ba,cr⟩
 ·rfl
 ·have hm:∀ {ts:List α} {xs:List AV} {aK hi:Nat},iL P aK hi ts xs→mapO (bh I n) xs=some (ts.map g):=by
   intro ts
   induction ts with
   |nil=>intro xs aK hi h;cases xs with|nil=>rfl|cons _ _=>exact h.elim
   |cons t ts aA=>intro xs aK hi h;cases xs with
    |nil=>exact h.elim
    |cons x xs=>
     obtain⟨m,_,_,bF,bU⟩:=h;rw[mapO_cons,hM _ _ _ _ bF,aA bU];rfl
  have aj:Sl I ad (.ak k 0 xs.length ad (some xs.length)) xs:=.ak k _ xs [] (by simpa using aE) ba (.inr rfl);exact aj.V6 (fun e=>absurd (cr.len) (by rw[e];cases ts<;>simp_all)) (hm cr)
theorem gZ.snap{I:af}:∀(d:Nat) {aK hi n:Nat} {t:Tm} {v:AV},2*d≤n→gZ I d aK hi t v→bh I n v=some (.ag (dK true t.nz))
 |0,_,_,_,_,_,_,h=>h.elim
 |d+1,aK,hi,n,t,v,hn,⟨w,e,h⟩=>by
  obtain⟨n,rfl⟩:∃m,n=m+2:=⟨n-2,by omega⟩
  have:=h.snap (n:=n) (g:=fun t=>.ag (dK true t.nz)) fun a c t x hx=>gZ.snap d (by omega) hx;subst e;refine uF ?_;rw[mapO_cons,mapO_cons,mapO_cons,this,Tm.hd];show some [_,_,_]=some [_,_,cN true (cM _)];rw[As,eK,show t.args.map (fun t=>AV.ag (dK true t.nz))=t.args.map (Tm.A true∘Tm.nz) from gl fun u _=>(nA true u.nz).symm];rfl
theorem fF.snap{I:af}:∀(d:Nat) {aK hi n:Nat} {t:Fm} {v:AV},2*d≤n→fF I d aK hi t v→bh I n v=some (.ag (dG t.nz))
 |0,_,_,_,_,_,_,h=>h.elim
 |d+1,aK,hi,n,t,v,hn,⟨w,bK,m,e,h,h'⟩=>by
  obtain⟨n,rfl⟩:∃m,n=m+2:=⟨n-2,by omega⟩
  have h1:=h.snap (n:=n) (g:=fun t=>.ag (dK true t.nz)) fun a c t x hx=>gZ.snap d (by omega) hx;have h2:=h'.snap (n:=n) (g:=fun t=>.ag (dG t.nz)) fun a c t x hx=>fF.snap d (by omega) hx;subst e;refine uF ?_;rw[mapO_cons,mapO_cons,mapO_cons,mapO_cons,h1,h2,Fm.hd];show some [_,_,_,_]=some [_,_,cN true (cM _),dz true (cM _)];rw[As,M7,eK,eK];rw[show t.args.map (fun t=>AV.ag (dK true t.nz))=t.args.map (Tm.A true∘Tm.nz) from gl fun u _=>(nA true u.nz).symm,show t.sub.map (fun t=>AV.ag (dG t.nz))=t.sub.map (Fm.A true∘Fm.nz) from gl fun u _=>(uL u.nz).symm];rfl
theorem AL{ad:Option Nat}:∀ {xs:List AV},(∀y∈xs,conf ad y=true)→(xs.flatMap AV.cells).length=xs.length*shN ad
 |[],_=>by simp
 |x::xs,h=>by
  rw[eG,cR,AL fun y aw=>h y (e9 _ aw),qn (h x (by simp)),fH,yk,qf]
theorem W.V7{b0:lv}{env:Env}{aI:Option Nat}{D:List (Nat ⊕ (AV×List AV))}{n:Nat}{F:List (Nat×AV)}{z:Nat→AV}{I:af}{Q:e5}{d:Nat}{ad:Option Nat}{bytes k N j:Nat}{s x:aC}{g:Option (Nat×Bool)}{ops:List a1}{w y:AV}{xs rest:List AV}(az:xs.length=j)(aD:I.get k=some (.cells (xs.flatMap AV.cells++rest)))(hx:newOf I w=some [y])(ah:∀z∈xs,Go.Lyc.conf ad z=true)(aw:Go.Lyc.conf ad y=true)(hr:j+1≤N)(al:shN ad≤rest.length)(hb:(3*(j+1)+2000)*bytes≤281474976710656)(au:Nat.blt d n=true)(hw:wtL g n F=true)(h1:cq env n F z s=some (.ak k 0 j ad (some N)))(h2:cq env n F z x=some w)
  (h:∀U:af,U.next=I.next→U.get k=some (.cells ((xs++[y]).flatMap AV.cells++rest.drop (shN ad)))→(∀i J,i≠k→I.get i=some J→U.get i=some J)→bL b0 env aI D n ops (bC ((d,.ak k 0 (j+1) ad (some N))::F) z) U Q):bL b0 env aI D n (⟨some d,.append ad bytes s x,g,[]⟩::ops) (bC F z) I Q:=by
 subst az;have qx:readList I (.ak k 0 xs.length ad (some N))=some xs:=by
  show(match I.get k with|some (.cells c)=>elems ad xs.length (c.drop 0)|_=>none)=_;rw[aD];exact Dd ah
 have b1w:=qn aw;have c7:=AL ah;have dp:storeCells (xs.flatMap AV.cells++rest) (0+xs.length*shN ad) ([y].flatMap AV.cells)=some ((xs++[y]).flatMap AV.cells++rest.drop (shN ad)):=by
  unfold storeCells;have aM:[y].flatMap AV.cells=y.cells:=by simp
  rw[aM,hO,if_pos (eu (by rw[cR];omega)),← c7,List.take_left,b1w,← pb,List.drop_left,il,aM,iw]
 refine W.val (v:=.ak k 0 (xs.length+1) ad (some N)) (aq:=I.set k (.cells ((xs++[y]).flatMap AV.cells++rest.drop (shN ad)))) au hw ?_ (h _ rfl (j_ aD).1 (j_ aD).2);show(match cq env n F z s,cq env n F z x with|some s,some x=>(match appendO 0 I ad bytes s x with|some (v,I)=>some (bq.val v I)|none=>none)|_,_=>none)=_;rw[h1,h2];have e:appendO 0 I ad bytes (.ak k 0 xs.length ad (some N)) w=some (.ak k 0 (xs.length+1) ad (some N),I.set k (.cells ((xs++[y]).flatMap AV.cells++rest.drop (shN ad)))):=by
  unfold appendO;rw[qx,hx];have rn:Nat.ble ((3*(xs.length+[y].length)+2000)*bytes) 281474976710656=true:=eu hb;have ba:(dw (Go.Lyc.conf ad) xs&&dw (Go.Lyc.conf ad) [y]&&Nat.ble ((3*(xs.length+[y].length)+2000)*bytes) 281474976710656)=true:=by
   rw[mY ah,mY (l:=[y]) (fun z bg=>by rw[d_.1 bg];exact aw),rn];rfl
  show cond _ _ none=_;rw[ba,cond_true];show(if ad=ad then cond (Nat.ble (xs.length+1) N) (if Nat.blt k 0 then none else match I.get k with|some (.cells bw)=>(match storeCells bw (0+xs.length*shN ad) ([y].flatMap AV.cells) with|some cQ=>some (AV.ak k 0 (xs.length+1) ad (some N),I.set k (.cells cQ))|none=>none)|_=>none) _ else none)=_;rw[if_pos rfl,eu hr,cond_true,if_neg (by simp[Nat.blt,Nat.ble]),aD];simp only[dp]
 show(match appendO 0 I ad bytes (.ak k 0 xs.length ad (some N)) w with|some (v,I)=>some (bq.val v I)|none=>none)=_;rw[e]
theorem NN{z:List AV}:∀m,(fP m z).length=m*z.length
 |0=>by rw[w1];rfl
 |m+1=>by show(z++fP m z).length=_;rw[cR,NN m,yk,qf]
theorem W.V8{b0:lv}{env:Env}{aI:Option Nat}{D:List (Nat ⊕ (AV×List AV))}{n:Nat}{F:List (Nat×AV)}{z:Nat→AV}{I:af}{Q:e5}{L:List (Nat×List AV)}(H:Has I L){d:Nat}{ad:Option Nat}{ir:List AV}{x y:aC}{g:Option (Nat×Bool)}{ops:List a1}{m k bytes:Nat}(hn:I.next=k)(bg:Nat.beq ir.length (shN ad)=true)(hb:bytes*m≤281474976710656)(hm:m≤281474976710656)(au:Nat.blt d n=true)(hw:wtL g n F=true)(h1:cq env n F z x=some (ay 0))(h2:cq env n F z y=some (ay m))
  (h:∀U:af,U.next=k+1→Has U ((k,fP m ir)::L)→(∀i J,I.get i=some J→U.get i=some J)→bL b0 env aI D n ops (bC ((d,.ak k 0 0 ad (some m))::F) z) U Q):bL b0 env aI D n (⟨some d,.mkSlice ad bytes ir x y,g,[]⟩::ops) (bC F z) I Q:=by
 subst hn;have ca:∀i J,I.get i=some J→(I.push (.cells (fP m ir))).get i=some J:=fun i J ab=>by rw[af.iB trivial _ (af.bW ab)];exact ab
 refine W.val (v:=.ak I.next 0 0 ad (some m)) (aq:=I.push (.cells (fP m ir))) au hw ?_ (h (I.push (.cells (fP m ir))) rfl (H.push rfl (af.md _) ca) ca);show(match cq env n F z x,cq env n F z y with
  |some (.i _ (.ofNat n)),some (.i _ (.ofNat m))=>
   cond (Nat.beq ir.length (shN ad)&&(Nat.ble n m&&(Nat.ble (bytes*m) 281474976710656&&Nat.ble m 281474976710656)))
    (some (bq.val (.ak I.next 0 n ad (some m)) (I.push (.cells (fP m ir))))) none
  |some .aB,some (.i _ (.ofNat m))=>
   cond (Nat.beq ir.length (Nat.succ (shN ad))&&(Nat.blt 0 m&&Nat.ble ((3*m+2000)*bytes) 281474976710656))
    (some (bq.val (.ak I.next 0 m ad none) (I.push (.cells (fP m ir.tail))))) none
  |_,_=>none)=_
 rw[h1,h2];show cond _ _ none=_;rw[bg,eu (hv m),eu hb,eu hm];rfl
inductive fu(I:af)(ad:Option Nat):AV→List AV→Prop
 |nil:fu I ad .aB []
 |a7 (J:Bool) (x:AV) (xs:List AV) (ah:∀y∈x::xs,conf ad y=true):fu I ad (.a7 J ad (x::xs)) (x::xs)
 |ak (v x:AV) (xs:List AV) (h:Sl I ad v (x::xs)):fu I ad v (x::xs)
theorem Sl.NO{I U:af}{ad:Option Nat}{v:AV}{xs:List AV}(h:Sl I ad v xs)(k:∀i c,v.bn =some i→I.get i=some (.cells c)→U.get i=some (.cells c)):Sl U ad v xs:=by
 cases h with
 |nil=>exact .nil
 |ak J cap xs rest h ah aD=>exact .ak J cap xs rest (k _ _ rfl h) ah aD
theorem fu.aF{I U:af}{ad:Option Nat}{v:AV}{xs:List AV}(h:fu I ad v xs)(k:∀i c,v.bn =some i→I.get i=some (.cells c)→U.get i=some (.cells c)):fu U ad v xs:=by
 cases h with
 |nil=>exact .nil
 |a7 J x xs ah=>exact .a7 J x xs ah
 |ak v x xs h=>exact .ak v x xs (h.NO k)
theorem fu.len{I U:af}{ad:Option Nat}{v:AV}{xs:List AV}(h:fu I ad v xs):lenA U 1 v=some xs.length:=by
 cases h with
 |nil=>rfl
 |a7 J x xs ah=>rfl
 |ak v x xs h=>exact h.len
theorem fu.one{I:af}{ad:Option Nat}{v:AV}{xs:List AV}(h:fu I ad v xs):v.cells=[v]∧v.val=true∧conf none v=true:=by
 cases h with
 |nil=>exact⟨rfl,rfl,rfl⟩
 |a7 J x xs ah=>exact⟨rfl,rfl,rfl⟩
 |ak v x xs h=>exact⟨h.cells0,h.Ik,h.mx⟩
theorem fu.conf{I:af}{ad:Option Nat}{v:AV}{xs:List AV}(h:fu I ad v xs):∀y∈xs,Go.Lyc.conf ad y=true:=by
 cases h with
 |nil=>intro y aw;simp at aw
 |a7 J x xs ah=>exact ah
 |ak v x xs h=>exact h.conf
theorem fu.hc{I:af}{ad:Option Nat}{v:AV}{xs:List AV}(h:fu I ad v xs){j:Nat}(az:j<xs.length):∃p,idxSlA ad v j=some p∧nS I ad p=some xs[j]:=by
 cases h with
 |nil=>simp at az
 |a7 J x xs ah=>
  refine⟨.cZ J (x::xs)[j],?_,?_⟩
  ·show(if ad=ad then(match nth (x::xs) j with|some v=>some (AV.cZ J v)|none=>none) else none)=_;rw[if_pos rfl,G3 az]
  ·show(if Go.Lyc.conf ad (x::xs)[j] then some (x::xs)[j] else none)=_;rw[if_pos (ah _ (aS az))]
 |ak v x xs h=>
  obtain⟨J,c,r,_,h2,h3,_,ba⟩:=h.hc az;exact⟨_,h2,jS h3 ba⟩
theorem fu.snap{I:af}{ad:Option Nat}{v:AV}{xs aO:List AV}{m:Nat}(h:fu I ad v xs)(hm:mapO (bh I m) xs=some aO):bh I (m+1) v=some (slA true ad aO):=by
 cases h with
 |nil=>rw[BP] at hm;cases hm;rfl
 |a7 J x xs ah=>
  show(match mapO (bh I m) (x::xs) with|none=>none|some xs=>some (AV.a7 true ad xs))=_;rw[hm];cases aO with
  |nil=>have:=(mc hm).1;simp at this
  |cons z r=>rfl
 |ak v x xs h=>exact h.V6 (fun e=>by cases e) hm
theorem W.kf{b0:lv}{env:Env}{aI:Option Nat}{D:List (Nat ⊕ (AV×List AV))}{n:Nat}{F:List (Nat×AV)}{z:Nat→AV}{I:af}{Q:e5}{d:Nat}{ad:Option Nat}{x:aC}{g:Option (Nat×Bool)}{ops:List a1}{p v:AV}(au:Nat.blt d n=true)(hw:wtL g n F=true)(h1:cq env n F z x=some p)(h2:nS I ad p=some v)(h:bL b0 env aI D n ops (bC ((d,v)::F) z) I Q):bL b0 env aI D n (⟨some d,.load ad x,g,[]⟩::ops) (bC F z) I Q:=W.val au hw (rL _ _ h1 h2) h
theorem Sl.V9{I:af}{ad:Option Nat}{v x:AV}{xs aO:List AV}{y:AV}{bytes:Nat}(h:Sl I ad v xs)(hx:newOf I x=some (y::aO))(ah:∀z∈y::aO,Go.Lyc.conf ad z=true)(hb:(3*(xs.length+(y::aO).length)+2000)*bytes≤281474976710656):
  ∃a2 aq,appendO 0 I ad bytes v x=some (a2,aq)∧Sl aq ad a2 (xs++y::aO)∧a2.bn =some I.next∧(∀J l c,a2= .ak J 0 l ad c→c=none)∧aq.next=I.next+1∧(∀i J,v.bn ≠some i→I.get i=some J→aq.get i=some J)∧aq.get I.next=some (.cells ((xs++y::aO).flatMap AV.cells)):=by
 have c9:∀U:af,U.next=I.next→(U.push (.cells (xs.flatMap AV.cells++(y::aO).flatMap AV.cells))).get I.next=some (.cells ((xs++y::aO).flatMap AV.cells)):=fun U DG=>by rw[←DG,af.md,il]
 have DF:=h.conf;have hall:(dw (Go.Lyc.conf ad) xs&&dw (Go.Lyc.conf ad) (y::aO)&&Nat.ble ((3*(xs.length+(y::aO).length)+2000)*bytes) 281474976710656)=true:=by
  rw[mY DF,mY ah,eu hb];rfl
 have al:=h.read;have mk:∀U:af,U.next=I.next→Sl (U.push (.cells (xs.flatMap AV.cells++(y::aO).flatMap AV.cells))) ad (.ak I.next 0 (xs.length+(y::aO).length) ad none) (xs++y::aO):=fun U DG=>by
  have:=Sl.ak (I:=U.push (.cells (xs.flatMap AV.cells++(y::aO).flatMap AV.cells))) (ad:=ad) I.next none (xs++y::aO) [] (by rw[←DG,af.md,il,fV]) (fun z bg=>by
   rcases dE.1 bg with bg|bg
   ·exact DF z bg
   ·exact ah z bg) (.inl rfl)
  rwa[cR] at this
 cases h with
 |nil=>
  refine⟨.ak I.next 0 (y::aO).length ad none,I.push (.cells ((y::aO).flatMap AV.cells)),?_,?_,rfl,fun _ _ _ h=>by cases h;rfl,rfl,(fun i J _ ab=>by rw[af.iB trivial _ (af.bW ab)];exact ab),by rw[af.md];rfl⟩
  ·unfold appendO;rw[hx];show cond _ _ none=_;rw[hall];rfl
  ·have:=mk I rfl;simpa using this
 |ak J cap xs rest h hc0 gw=>
  have au:∀i b7,i≠J→I.get i=some b7→((I.set J .dead).push (.cells (xs.flatMap AV.cells++(y::aO).flatMap AV.cells))).get i=some b7:=fun i b7 bx ab=>by
   have bZ:=af.bW ab;rw[af.iB trivial _ (show i<(I.set J .dead).next from bZ),af.jg trivial _ (af.bW h),if_neg bx];exact ab
  rcases gw with rfl|rfl
  ·refine⟨.ak I.next 0 (xs.length+(y::aO).length) ad none,(I.set J .dead).push (.cells (xs.flatMap AV.cells++(y::aO).flatMap AV.cells)),?_,mk _ rfl,rfl,fun _ _ _ h=>by cases h;rfl,rfl,(fun i b7 bx ab=>au i b7 (fun e=>bx (by rw[e];rfl)) ab),c9 _ rfl⟩;unfold appendO;rw[al,hx];show cond _ _ none=_;rw[hall,cond_true];show(if ad=ad then(if Nat.blt J 0 then none else if Nat.beq 0 0 then some (AV.ak I.next 0 (xs.length+(y::aO).length) ad none,(I.set J .dead).push (.cells (xs.flatMap AV.cells++(y::aO).flatMap AV.cells))) else none) else none)=_;rw[if_pos rfl,if_neg (by simp[Nat.blt,Nat.ble]),if_pos (by rfl)]
  ·refine⟨.ak I.next 0 (xs.length+(y::aO).length) ad none,I.push (.cells (xs.flatMap AV.cells++(y::aO).flatMap AV.cells)),?_,mk _ rfl,rfl,fun _ _ _ h=>by cases h;rfl,rfl,(fun i b7 _ ab=>by rw[af.iB trivial _ (af.bW ab)];exact ab),c9 _ rfl⟩;unfold appendO;rw[al,hx];show cond _ _ none=_;rw[hall,cond_true];show(if ad=ad then cond (Nat.ble (xs.length+(y::aO).length) xs.length) _ (some (AV.ak I.next 0 (xs.length+(y::aO).length) ad none,I.push (.cells (xs.flatMap AV.cells++(y::aO).flatMap AV.cells)))) else none)=_;rw[if_pos rfl,show Nat.ble (xs.length+(y::aO).length) xs.length=false from by rw[J4];intro h;have:=eV h;simp only[fH] at this;omega];rfl
structure h9(I:af)(ad:Option Nat)(v:AV)(xs:List AV):Prop where
 ak:Sl I ad v xs
 ex:∀J,v.bn =some J→I.get J=some (.cells (xs.flatMap AV.cells))
theorem h9.nil{I:af}{ad:Option Nat}:h9 I ad .aB []:=⟨.nil,fun _ h=>by cases h⟩
theorem h9.aF{I U:af}{ad:Option Nat}{v:AV}{xs:List AV}(h:h9 I ad v xs)(k:∀i c,v.bn =some i→I.get i=some (.cells c)→U.get i=some (.cells c)):h9 U ad v xs:=⟨h.ak.NO k,fun J ab=>k _ _ ab (h.ex J ab)⟩
theorem W.I5{b0:lv}{env:Env}{aI:Option Nat}{D:List (Nat ⊕ (AV×List AV))}{n:Nat}{F:List (Nat×AV)}{z:Nat→AV}{I:af}{Q:e5}{d:Nat}{ad:Option Nat}{bytes:Nat}{s x:aC}{g:Option (Nat×Bool)}{ops:List a1}{v w:AV}{xs:List AV}(y:AV)(aO:List AV)(hA:Sl I ad v xs)(hx:newOf I w=some (y::aO))(ah:∀z∈y::aO,Go.Lyc.conf ad z=true)(hb:(3*(xs.length+(y::aO).length)+2000)*bytes≤281474976710656)(au:Nat.blt d n=true)(hw:wtL g n F=true)(h1:cq env n F z s=some v)(h2:cq env n F z x=some w)
  (h:∀a2 U,h9 U ad a2 (xs++y::aO)→a2.bn =some I.next→(∀J l c,a2= .ak J 0 l ad c→c=none)→U.next=I.next+1→(∀i J,v.bn ≠some i→I.get i=some J→U.get i=some J)→bL b0 env aI D n ops (bC ((d,a2)::F) z) U Q):bL b0 env aI D n (⟨some d,.append ad bytes s x,g,[]⟩::ops) (bC F z) I Q:=by
 obtain⟨a2,U,e,a,b,c,dT,eb,dq⟩:=hA.V9 hx ah hb;refine W.val (v:=a2) (aq:=U) au hw ?_ (h a2 U ⟨a,fun J ab=>by rw[b] at ab;cases ab;exact dq⟩ b c dT eb);show(match cq env n F z s,cq env n F z x with|some s,some x=>(match appendO 0 I ad bytes s x with|some (v,I)=>some (bq.val v I)|none=>none)|_,_=>none)=_;rw[h1,h2];show(match appendO 0 I ad bytes v w with|some (v,I)=>some (bq.val v I)|none=>none)=_;rw[e]
theorem V_{I:af}{v x:AV}{y:Int}{r:List Int}(h:Sl I none v [])(hx:newOf I x=some ((y::r).map zI))(hlen:(y::r).length<2^41):∃w U,appendO 0 I none 8 v x=some (w,U)∧h9 U none w ((y::r).map zI)∧w.bn =some I.next∧(∀J l c,w= .ak J 0 l none c→c=none)∧I.next≤U.next∧(∀i J,v.bn ≠some i→I.get i=some J→U.get i=some J):=by
 obtain⟨w,U,aP,a0,bF,bU,c6,dL,gC⟩:=h.V9 (x:=x) (y:=zI y) (aO:=r.map zI) (bytes:=8) hx (fun q hq=>ys (l:=y::r) q hq) (by simp only[aJ,fH,lx] at *;omega);exact⟨w,U,aP,⟨a0,fun J ab=>by rw[bF] at ab;cases ab;exact gC⟩,bF,bU,by omega,dL⟩
def iM(I:af):Nat→Tm→AV→Prop
 |0,_,_=>False
 |d+1,t,v=>∃w xs,v= .ag [.b t.var,.s t.name,w]∧fu I (some 3) w xs∧xs.length=t.args.length∧∀i (h:i<xs.length) (h':i<t.args.length),iM I d t.args[i] xs[i]
def ja(I:af)(M:Nat):Nat→Fm→AV→Prop
 |0,_,_=>False
 |d+1,f,v=>∃aW bK xs aO,v= .ag [.i .u8 (Int.ofNat f.op),.s f.name,aW,bK]∧AV.eqb M bK bK=true∧fu I (some 3) aW xs∧fu I (some 4) bK aO∧xs.length=f.args.length∧aO.length=f.sub.length∧(∀i (h:i<xs.length) (h':i<f.args.length),iM I d f.args[i] xs[i])∧∀i (h:i<aO.length) (h':i<f.sub.length),ja I M d f.sub[i] aO[i]
theorem iM.aF{I U:af}(k:∀i c,I.get i=some (.cells c)→U.get i=some (.cells c)):∀(d:Nat) {t:Tm} {v:AV},iM I d t v→iM U d t v
 |0,_,_,h=>h
 |d+1,_,_,⟨w,xs,e,h,l,hx⟩=>⟨w,xs,e,h.aF (fun i c _=>k i c),l,fun i a c=>iM.aF k d (hx i a c)⟩
theorem ja.aF{I U:af}{M:Nat}(k:∀i c,I.get i=some (.cells c)→U.get i=some (.cells c)):∀(d:Nat) {t:Fm} {v:AV},ja I M d t v→ja U M d t v
 |0,_,_,h=>h
 |d+1,_,_,⟨w,bK,xs,aO,e,hq,h,h',l,cF,hx,aw⟩=>⟨w,bK,xs,aO,e,hq,h.aF (fun i c _=>k i c),h'.aF (fun i c _=>k i c),l,cF,fun i a c=>iM.aF k d (hx i a c),fun i a c=>ja.aF k d (aw i a c)⟩
theorem AM{α:Type}{f:AV→Option AV}{g:α→AV}:∀ {ts:List α} {xs:List AV},xs.length=ts.length→(∀i (h:i<xs.length) (h':i<ts.length),f xs[i]=some (g ts[i]))→mapO f xs=some (ts.map g)
 |[],[],_,_=>rfl
 |[],_::_,h,_=>by simp at h
 |_::_,[],h,_=>by simp at h
 |t::ts,x::xs,h,hx=>by
  rw[jR,show f x=some (g t) from hx 0 (by simp) (by simp),AM (ts:=ts) (xs:=xs) (by simpa using h) fun i a c=>hx (i+1) (by simpa using a) (by simpa using c)];rfl
theorem iM.snap{I:af}:∀(d:Nat) {n:Nat} {t:Tm} {v:AV},2*d≤n→iM I d t v→bh I n v=some (.ag (dK true t.nz))
 |0,_,_,_,_,h=>h.elim
 |d+1,n,t,v,hn,⟨w,xs,e,h,l,hx⟩=>by
  obtain⟨n,rfl⟩:∃m,n=m+2:=⟨n-2,by omega⟩
  have:=h.snap (AM (g:=fun t=>.ag (dK true t.nz)) l fun i a c=>iM.snap d (n:=n) (by omega) (hx i a c));subst e;refine uF ?_;rw[mapO_cons,mapO_cons,mapO_cons,this,Tm.hd];show some [_,_,_]=some [_,_,cN true (cM _)];rw[As,eK,show t.args.map (fun t=>AV.ag (dK true t.nz))=t.args.map (Tm.A true∘Tm.nz) from gl fun u _=>(nA true u.nz).symm];rfl
theorem ja.snap{I:af}{M:Nat}:∀(d:Nat) {n:Nat} {t:Fm} {v:AV},2*d≤n→ja I M d t v→bh I n v=some (.ag (dG t.nz))
 |0,_,_,_,_,h=>h.elim
 |d+1,n,t,v,hn,⟨w,bK,xs,aO,e,_,h,h',l,cF,hx,aw⟩=>by
  obtain⟨n,rfl⟩:∃m,n=m+2:=⟨n-2,by omega⟩
  have h1:=h.snap (AM (g:=fun t=>.ag (dK true t.nz)) l fun i a c=>iM.snap d (n:=n) (by omega) (hx i a c));have h2:=h'.snap (AM (g:=fun t=>.ag (dG t.nz)) cF fun i a c=>ja.snap d (n:=n) (by omega) (aw i a c));subst e;refine uF ?_;rw[mapO_cons,mapO_cons,mapO_cons,mapO_cons,h1,h2,Fm.hd];show some [_,_,_,_]=some [_,_,cN true (cM _),dz true (cM _)];rw[As,M7,eK,eK];rw[show t.args.map (fun t=>AV.ag (dK true t.nz))=t.args.map (Tm.A true∘Tm.nz) from gl fun u _=>(nA true u.nz).symm,show t.sub.map (fun t=>AV.ag (dG t.nz))=t.sub.map (Fm.A true∘Fm.nz) from gl fun u _=>(uL u.nz).symm];rfl
section
variable {b:dW}{K:Nat→List AV→AV→Prop}
theorem Wa{dT:Nat}(hh:cY (b.a4 K) HU ML){d:Nat}{ts:List Tm}{a:AV}{us:List AV}(hlen:ts.length<2^20)(I:af)(bD:fu I (some 3) a us)(ar:us.length=ts.length)(hp:∀i (h:i<us.length) (h':i<ts.length),iM I dT ts[i] us[i])(ah:∀t∈ts,∀(v:AV) (I:af),iM I dT t v→b9 (b.a4 K) 0 (.f (.func x4) [] []) [v] I (fun r U=>∃v,r= .ok v∧gZ U d I.next U.next t v∧b2 I U)):
  b9 (b.a4 K) 0 (.f (.func HU) [] []) [a,.f (.func x4) [] []] I (fun r U=>∃w,r= .ok w∧l3 U (gZ U d) (some 3) I.next U.next ts w∧b2 I U):=by
 refine W.code hh.e hh.p hh.f rfl rfl rfl rfl fun z=>?_;have H:Has I []:=Has.nil;refine ae ?_;refine W.len rfl rfl rfl (by rw[bD.len,ar]) ?_;by_cases h0:ts.length=0
 ·refine ae ?_;exact GoF.ret ⟨rfl,.aB,rfl,.inl ⟨l0.1 h0,rfl,o _⟩,o _,fun _ _ h=>h⟩
 refine ae ?_;refine W.len rfl rfl rfl (by rw[bD.len,ar]) ?_;generalize hr:ts.length=N at hlen h0;generalize hq:I.next=q;refine W.V8 H hq rfl (by omega) (by omega) rfl rfl rfl rfl fun b1 cG H bE=>?_;refine ae ?_;refine W.len rfl rfl rfl (by rw[bD.len,ar]) ?_;rw[hr];refine ae ?_;show bl _ _ _ _ _ _ _ _;refine GoF.each N (fun j f U=>∃xs,xs.length=j∧U.get q=some (.cells (xs.flatMap AV.cells++fP (N-j) [.b false,.s [],.aB]))∧(∀y∈xs,Go.Lyc.conf (some 3) y=true)∧iL (gZ U d) (q+1) U.next (ts.take j) xs∧b2 I U∧sat [(5,.ak q 0 j (some 3) (some N)),(14,a),(1,.f (.func x4) [] [])] f) (by omega) ⟨[],rfl,H.get _ (.head _),(fun _ h=>by simp at h),by show q+1≤b1.next;omega,⟨by omega,bE⟩,rfl,rfl,rfl,trivial⟩ rfl rfl (fun j g U az aZ hi hm=>?_) (fun g U aZ hi=>?_)
 ·obtain⟨xs,ar,hg,dV,c2,M,aX⟩:=aZ;refine GoF.norm ((16,ay j)::(15,ay N)::[(5,.ak q 0 j (some 3) (some N)),(14,a),(1,.f (.func x4) [] [])]) ⟨hi,hm,aX⟩ fun g=>?_;have H:Has U [(q,xs.flatMap AV.cells++fP (N-j) [.b false,.s [],.aB])]:=Has.nil.cons hg (by simp);have bS:j<ts.length:=by omega
  have ns:=aS bS;have cV:=fG bS;refine ae ?_;have oO:j<us.length:=by omega
  obtain⟨p,aM,e2⟩:=(bD.aF fun i c _ ab=>M.2 _ _ ab).hc oO;have mC:=iM.aF (fun i c ab=>M.2 _ _ ab) _ (hp j oO bS);refine W.cw rfl rfl rfl rfl aM ?_;refine ae ?_;refine W.kf rfl rfl rfl e2 ?_;generalize ts[j]=t at ns cV mC;generalize us[j]=u at mC;cases dT with
  |zero=>exact mC.elim
  |succ dT=>
  have Ed:=mC;obtain⟨kJ,b1x,rfl,r1,_⟩:=Ed;refine ae ?_;generalize aD:U.next=k;refine W.mv (c:=[.b t.var,.s t.name,kJ]) H aD rfl rfl rfl rfl rfl (by rfl) fun bd n2 H br=>?_;refine ae ?_;refine W.dX rfl rfl rfl (ah _ ns _ _ (iM.aF (fun i c ab=>br _ _ ab) _ mC)) fun r bG ⟨v,e,av,gu⟩=>⟨_,e,?_⟩
  cases d with
  |zero=>exact av.elim
  |succ d=>
  have H:=H.aF gu.2;obtain⟨aW,rfl,jy⟩:=av;have av:gZ bG (d+1) bd.next bG.next t (.ag [.b t.var,.s t.name,aW]):=⟨aW,rfl,jy⟩
  have b1y:q<k:=by have:=af.bW hg;omega
  generalize mf:bG.next=bb;have Ee:=gu.1;refine ae ?_;refine W.fJ (c:=[.b t.var,.s t.name,aW]) H mf rfl rfl (by rfl) fun cA gU H cm=>?_;refine ae ?_;refine W.V7 (xs:=xs) (y:=.ag [.b t.var,.s t.name,aW]) (N:=N) (rest:=fP (N-j) [.b false,.s [],.aB]) ar (H.get _ (.tail _ (.tail _ (.head _)))) (Io (H.get _ (.head _)) rfl) dV rfl (by omega) (by rw[NN,show N-j=(N-(j+1))+1 from by omega,yk];exact By _ _) (by omega) rfl rfl rfl rfl fun dk h7 NP dN=>?_;refine ae ?_;have oP:∀i J,i≠q→U.get i=some J→dk.get i=some J:=fun i J hi ab=>dN i J hi (cm _ _ (gu.2 _ _ (br _ _ ab)));refine⟨rfl,rfl,xs++[.ag [.b t.var,.s t.name,aW]],by rw[cR];exact congrArg (· +1) ar,?_,fun y aw=>?_,?_,⟨by have:=M.1;omega,fun i J ab=>oP _ _ (by have:=af.bW ab;omega) (M.2 _ _ ab)⟩,rfl,rfl,rfl,trivial⟩
  ·rw[NP,show N-j=(N-(j+1))+1 from by omega];rfl
  ·rcases dE.1 aw with aw|aw
   ·exact dV y aw
   ·rw[d_.1 aw];rfl
  ·rw[cV];refine iL.snoc (c:=bG.next) (by omega) (bT:=U.next) (c2.mono (A:=q+1) (B:=U.next) (fun cd c t x ha jj=>gZ.aF _ fun i J h1 h2 ab=>oP i _ (by omega) ab) (o _) (o _)) (by omega) ?_ fun cd ha hx=>gZ.wide _ _ _ _ _ _ _ ha (o _) hx;exact gZ.wide _ _ _ _ _ _ _ (by omega) (o _) (av.aF _ fun i J h1 h2 ab=>dN i _ (by omega) (cm _ _ ab))
 ·obtain⟨xs,ar,hg,dV,c2,M,ft,_⟩:=aZ;refine GoF.norm [(5,.ak q 0 N (some 3) (some N))] ⟨ft,trivial⟩ fun g=>?_;have H:Has U []:=Has.nil;refine ae ?_;refine GoF.ret ⟨rfl,.ak q 0 N (some 3) (some N),rfl,.inr ⟨q,xs,by omega,fun e=>h0 (by rw[←hr,e];rfl),by rw[ar],by rw[hg,kj];exact congrArg (fun x=>some (AO.cells x)) (fV _),dV,?_⟩,M⟩;rw[←hr,h_] at c2;exact c2
theorem b1z{dT:Nat}(hh:cY (b.a4 K) HV MM){d:Nat}{ts:List Fm}{a:AV}{us:List AV}(hlen:ts.length<2^20)(I:af)(bD:fu I (some 4) a us)(ar:us.length=ts.length)(hp:∀i (h:i<us.length) (h':i<ts.length),ja I (b.aV+1000) dT ts[i] us[i])(ah:∀t∈ts,∀(v:AV) (I:af),ja I (b.aV+1000) dT t v→b9 (b.a4 K) 0 (.f (.func x3) [] []) [v] I (fun r U=>∃v,r= .ok v∧fF U d I.next U.next t v∧b2 I U)):
  b9 (b.a4 K) 0 (.f (.func HV) [] []) [a,.f (.func x3) [] []] I (fun r U=>∃w,r= .ok w∧l3 U (fF U d) (some 4) I.next U.next ts w∧b2 I U):=by
 refine W.code hh.e hh.p hh.f rfl rfl rfl rfl fun z=>?_;have H:Has I []:=Has.nil;refine ae ?_;refine W.len rfl rfl rfl (by rw[bD.len,ar]) ?_;by_cases h0:ts.length=0
 ·refine ae ?_;exact GoF.ret ⟨rfl,.aB,rfl,.inl ⟨l0.1 h0,rfl,o _⟩,o _,fun _ _ h=>h⟩
 refine ae ?_;refine W.len rfl rfl rfl (by rw[bD.len,ar]) ?_;generalize hr:ts.length=N at hlen h0;generalize hq:I.next=q;refine W.V8 H hq rfl (by omega) (by omega) rfl rfl rfl rfl fun b1 cG H bE=>?_;refine ae ?_;refine W.len rfl rfl rfl (by rw[bD.len,ar]) ?_;rw[hr];refine ae ?_;show bl _ _ _ _ _ _ _ _;refine GoF.each N (fun j f U=>∃xs,xs.length=j∧U.get q=some (.cells (xs.flatMap AV.cells++fP (N-j) [.i .u8 0,.s [],.aB,.aB]))∧(∀y∈xs,Go.Lyc.conf (some 4) y=true)∧iL (fF U d) (q+1) U.next (ts.take j) xs∧b2 I U∧sat [(5,.ak q 0 j (some 4) (some N)),(14,a),(1,.f (.func x3) [] [])] f) (by omega) ⟨[],rfl,H.get _ (.head _),(fun _ h=>by simp at h),by show q+1≤b1.next;omega,⟨by omega,bE⟩,rfl,rfl,rfl,trivial⟩ rfl rfl (fun j g U az aZ hi hm=>?_) (fun g U aZ hi=>?_)
 ·obtain⟨xs,ar,hg,dV,c2,M,aX⟩:=aZ;refine GoF.norm ((16,ay j)::(15,ay N)::[(5,.ak q 0 j (some 4) (some N)),(14,a),(1,.f (.func x3) [] [])]) ⟨hi,hm,aX⟩ fun g=>?_;have H:Has U [(q,xs.flatMap AV.cells++fP (N-j) [.i .u8 0,.s [],.aB,.aB])]:=Has.nil.cons hg (by simp);have bS:j<ts.length:=by omega
  have ns:=aS bS;have cV:=fG bS;refine ae ?_;have oO:j<us.length:=by omega
  obtain⟨p,aM,e2⟩:=(bD.aF fun i c _ ab=>M.2 _ _ ab).hc oO;have mC:=ja.aF (fun i c ab=>M.2 _ _ ab) _ (hp j oO bS);refine W.cw rfl rfl rfl rfl aM ?_;refine ae ?_;refine W.kf rfl rfl rfl e2 ?_;generalize ts[j]=t at ns cV mC;generalize us[j]=u at mC;cases dT with
  |zero=>exact mC.elim
  |succ dT=>
  have Ed:=mC;obtain⟨kJ,oY,b1x,c3q,rfl,_,r1,r2,_⟩:=Ed;refine ae ?_;generalize aD:U.next=k;refine W.mv (c:=[.i .u8 (Int.ofNat t.op),.s t.name,kJ,oY]) H aD rfl rfl rfl rfl rfl (by rfl) fun bd n2 H br=>?_;refine ae ?_;refine W.dX rfl rfl rfl (ah _ ns _ _ (ja.aF (fun i c ab=>br _ _ ab) _ mC)) fun r bG ⟨v,e,av,gu⟩=>⟨_,e,?_⟩
  cases d with
  |zero=>exact av.elim
  |succ d=>
  have H:=H.aF gu.2;obtain⟨aW,bK,m,rfl,jy⟩:=av;have av:fF bG (d+1) bd.next bG.next t (.ag [.i .u8 (Int.ofNat t.op),.s t.name,aW,bK]):=⟨aW,bK,m,rfl,jy⟩
  have b1y:q<k:=by have:=af.bW hg;omega
  generalize mf:bG.next=bb;have Ee:=gu.1;refine ae ?_;refine W.fJ (c:=[.i .u8 (Int.ofNat t.op),.s t.name,aW,bK]) H mf rfl rfl (by rfl) fun cA gU H cm=>?_;refine ae ?_;refine W.V7 (xs:=xs) (y:=.ag [.i .u8 (Int.ofNat t.op),.s t.name,aW,bK]) (N:=N) (rest:=fP (N-j) [.i .u8 0,.s [],.aB,.aB]) ar (H.get _ (.tail _ (.tail _ (.head _)))) (Io (H.get _ (.head _)) rfl) dV rfl (by omega) (by rw[NN,show N-j=(N-(j+1))+1 from by omega,yk];exact By _ _) (by omega) rfl rfl rfl rfl fun dk h7 NP dN=>?_;refine ae ?_;have oP:∀i J,i≠q→U.get i=some J→dk.get i=some J:=fun i J hi ab=>dN i J hi (cm _ _ (gu.2 _ _ (br _ _ ab)));refine⟨rfl,rfl,xs++[.ag [.i .u8 (Int.ofNat t.op),.s t.name,aW,bK]],by rw[cR];exact congrArg (· +1) ar,?_,fun y aw=>?_,?_,⟨by have:=M.1;omega,fun i J ab=>oP _ _ (by have:=af.bW ab;omega) (M.2 _ _ ab)⟩,rfl,rfl,rfl,trivial⟩
  ·rw[NP,show N-j=(N-(j+1))+1 from by omega];rfl
  ·rcases dE.1 aw with aw|aw
   ·exact dV y aw
   ·rw[d_.1 aw];rfl
  ·rw[cV];refine iL.snoc (c:=bG.next) (by omega) (bT:=U.next) (c2.mono (A:=q+1) (B:=U.next) (fun cd c t x ha jj=>fF.aF _ fun i J h1 h2 ab=>oP i _ (by omega) ab) (o _) (o _)) (by omega) ?_ fun cd ha hx=>fF.wide _ _ _ _ _ _ _ ha (o _) hx;exact fF.wide _ _ _ _ _ _ _ (by omega) (o _) (av.aF _ fun i J h1 h2 ab=>dN i _ (by omega) (cm _ _ ab))
 ·obtain⟨xs,ar,hg,dV,c2,M,ft,_⟩:=aZ;refine GoF.norm [(5,.ak q 0 N (some 4) (some N))] ⟨ft,trivial⟩ fun g=>?_;have H:Has U []:=Has.nil;refine ae ?_;refine GoF.ret ⟨rfl,.ak q 0 N (some 4) (some N),rfl,.inr ⟨q,xs,by omega,fun e=>h0 (by rw[←hr,e];rfl),by rw[ar],by rw[hg,kj];exact congrArg (fun x=>some (AO.cells x)) (fV _),dV,?_⟩,M⟩;rw[←hr,h_] at c2;exact c2
def Tm.nc:Nat→Tm→Prop
 |0,_=>False
 |d+1,t=>t.args.length<2^20∧∀u∈t.args,Tm.nc d u
def Fm.nc:Nat→Fm→Prop
 |0,_=>False
 |d+1,f=>f.args.length<2^20∧f.sub.length<2^20∧(∀u∈f.args,Tm.nc d u)∧∀u∈f.sub,Fm.nc d u
structure AN(b:dW)(K:Nat→List AV→AV→Prop):Prop where
 lt:cY (b.a4 K) HU ML
 t:cY (b.a4 K) x4 Ah
 lf:cY (b.a4 K) HV MM
 f:cY (b.a4 K) x3 UJ
theorem Wb(hh:AN b K):∀(d:Nat) (t:Tm),Tm.nc d t→∀(v:AV) (I:af),iM I d t v→b9 (b.a4 K) 0 (.f (.func x4) [] []) [v] I (fun r U=>∃v,r= .ok v∧gZ U d I.next U.next t v∧b2 I U)
 |0,_,h,_,_,_=>h.elim
 |d+1,t,⟨h1,h2⟩,v,I,⟨w,xs,e,bD,ar,hx⟩=>by
  subst e;have aA:=Wb hh d;refine W.qQ hh.t.e hh.t.p hh.t.f rfl rfl rfl fun z=>?_;have H:Has I []:=Has.nil;generalize hq:I.next=q;refine ae ?_;refine W.en (c:=[.b t.var,.s t.name,w]) H hq rfl rfl rfl rfl rfl fun b1 cG H bE=>?_;refine ae ?_;refine W.bN (c:=[.b false,.s [],.aB]) H cG rfl rfl rfl fun bd n2 H br=>?_;refine ae ?_;refine W.dX rfl rfl rfl (Wa hh.lt h1 bd (bD.aF fun i c _ ab=>br _ _ (bE _ _ ab)) ar (fun i a c=>iM.aF (fun i c ab=>br _ _ (bE _ _ ab)) _ (hx i a c)) (fun u hu v I av=>aA u (h2 u hu) v I av)) fun r bG ⟨w,e,hw,gu⟩=>⟨_,e,?_⟩
  have H:=H.aF gu.2;have Ee:=gu.1;refine ae ?_;refine W.Vb (c:=[.b t.var,.s t.name,w]) rfl rfl (wu rfl rfl rfl (wu rfl rfl rfl (wu rfl (by rw[hw.one.1,hw.one.2.1];rfl) (by rw[hw.one.1];rfl) rfl))) ?_;refine ae ?_;refine W.st (aQ:=[.b t.var,.s t.name,w]) H 0 rfl rfl rfl rfl rfl rfl fun cA gU H cm=>?_;refine ae ?_;refine GoF.ret ⟨rfl,_,cT (fR rfl (H.get _ (.head _)) rfl),_,rfl,⟨w,rfl,?_⟩,by omega,fun i J ab=>cm _ _ (by have:=af.bW ab;omega) (gu.2 _ _ (br _ _ (bE _ _ ab)))⟩;exact(hw.mono (gY:=gZ cA d) (fun i c aP a0 ab=>cm _ _ (by omega) ab) fun a c u x ha ah=>gZ.aF d fun i J aP a0 ab=>cm _ _ (by omega) ab).wide (gZ.wide d) (by omega) (by omega)
theorem Wc(hh:AN b K):∀(d:Nat) (t:Fm),Fm.nc d t→∀(v:AV) (I:af),ja I (b.aV+1000) d t v→b9 (b.a4 K) 0 (.f (.func x3) [] []) [v] I (fun r U=>∃v,r= .ok v∧fF U d I.next U.next t v∧b2 I U)
 |0,_,h,_,_,_=>h.elim
 |d+1,t,⟨h1,h2,h3,aE⟩,v,I,⟨kJ,oY,xs,aO,e,hq2,hR1,b1A,hl1,hl2,hx,aw⟩=>by
  subst e;have aA:=Wc hh d;refine W.qQ hh.f.e hh.f.p hh.f.f rfl rfl rfl fun z=>?_;have H:Has I []:=Has.nil;generalize hq:I.next=q;refine ae ?_;refine W.en (c:=[.i .u8 (Int.ofNat t.op),.s t.name,kJ,oY]) H hq rfl rfl rfl rfl rfl fun b1 cG H bE=>?_;refine ae ?_;refine W.bN (c:=[.i .u8 0,.s [],.aB,.aB]) H cG rfl rfl rfl fun bd n2 H br=>?_;refine ae ?_;refine W.lZ H rfl rfl rfl (.tail _ (.head _)) rfl hq2 ?_;refine ae ?_;refine W.dX rfl rfl rfl (Wa hh.lt h1 bd (hR1.aF fun i c _ ab=>br _ _ (bE _ _ ab)) hl1 (fun i a c=>iM.aF (fun i c ab=>br _ _ (bE _ _ ab)) _ (hx i a c)) (fun u hu v I av=>Wb hh d u (h3 u hu) v I av)) fun r bG ⟨w,e,hw,gu⟩=>⟨_,e,?_⟩
  have H:=H.aF gu.2;have Ee:=gu.1;have ew:∀i J,I.get i=some J→bG.get i=some J:=fun i J ab=>gu.2 _ _ (br _ _ (bE _ _ ab));refine ae ?_;refine W.dX rfl rfl rfl (b1z hh.lf h2 bG (b1A.aF fun i c _ ab=>ew _ _ ab) hl2 (fun i a c=>ja.aF (fun i c ab=>ew _ _ ab) _ (aw i a c)) (fun u hu v I av=>aA u (aE u hu) v I av)) fun r cA ⟨bK,e,jC,iN⟩=>⟨_,e,?_⟩
  have H:=H.aF iN.2;have Ef:=iN.1;refine ae ?_;refine W.Vb (c:=[.i .u8 (Int.ofNat t.op),.s t.name,w,bK]) rfl rfl (wu rfl rfl rfl (wu rfl rfl rfl (wu rfl (by rw[hw.one.1,hw.one.2.1];rfl) (by rw[hw.one.1];rfl) (wu rfl (by rw[jC.one.1,jC.one.2.1];rfl) (by rw[jC.one.1];rfl) rfl)))) ?_;refine ae ?_;refine W.st (aQ:=[.i .u8 (Int.ofNat t.op),.s t.name,w,bK]) H 0 rfl rfl rfl rfl rfl rfl fun dk h7 H dN=>?_;refine ae ?_;refine GoF.ret ⟨rfl,_,cT (fR rfl (H.get _ (.head _)) rfl),_,rfl,⟨w,bK,bG.next,rfl,?_,?_⟩,by omega,fun i J ab=>dN _ _ (by have:=af.bW ab;omega) (iN.2 _ _ (ew _ _ ab))⟩
  ·exact(hw.mono (gY:=gZ dk d) (fun i c aP a0 ab=>dN _ _ (by omega) (iN.2 _ _ ab)) fun a c u x ha ah=>gZ.aF d fun i J aP a0 ab=>dN _ _ (by omega) (iN.2 _ _ ab)).wide (gZ.wide d) (by omega) (o _)
  ·exact(jC.mono (gY:=fF dk d) (fun i c aP a0 ab=>dN _ _ (by omega) ab) fun a c u x ha ah=>fF.aF d fun i J aP a0 ab=>dN _ _ (by omega) ab).wide (fF.wide d) (o _) (by omega)
end
section
variable {b:dW}{K:Nat→List AV→AV→Prop}
theorem b1B(hh:cY (b.a4 K) Aj Dv){a:AV}{l:List Int}(hlen:l.length<2^40){I:af}(bD:fu I none a (l.map zI)):
  b9 (b.a4 K) 0 (.f (.func Aj) [] []) [a] I (fun r U=>∃w,r= .ok w∧(l=[]→w= .aB)∧h9 U none w (l.map zI)∧(∀J l c,w= .ak J 0 l none c→c=none)∧(∀J,w.bn =some J→I.next≤J)∧b2 I U):=by
 refine W.code hh.e hh.p hh.f rfl rfl rfl rfl fun z=>?_;have H:Has I []:=Has.nil;cases l with
 |nil=>
  generalize hq:([]:List Int).map zI=aO at bD;cases bD with
  |nil=>
   refine ae ?_;exact GoF.ret ⟨rfl,.aB,rfl,fun _=>rfl,.nil,(fun _ _ _ h=>by cases h),(fun J h=>by cases h),b2.refl⟩
  |a7 J x xs ah=>cases hq
  |ak v x xs h=>cases hq
 |cons y l=>
 generalize hq:(y::l).map zI=aO at bD;cases bD with
 |nil=>cases hq
 |a7 J x xs ah=>
  refine ae ?_;generalize aD:I.next=k;refine W.fJ (c:=[]) H aD rfl rfl rfl fun b1 cG H bE=>?_;refine ae ?_;have hl:Sl b1 none (.ak k 0 0 none (some 0)) (([]:List Int).map zI):=.ak k (some 0) [] [] (H.get _ (.head _)) (fun y aw=>by simp at aw) (.inr rfl);obtain⟨w,bd,Eg,vP,Eh,NQ,Wd,r6⟩:=V_ (x:=.a7 J none (x::xs)) (y:=y) (r:=l) hl (by rw[hq];rfl) (by omega);refine W.val (v:=w) (aq:=bd) rfl rfl (IA rfl rfl Eg) ?_;refine ae ?_;rw[hq] at vP;refine GoF.ret ⟨rfl,w,rfl,fun h=>(by cases h),vP,NQ,fun J ab=>?_,by omega,fun i J ab=>r6 _ _ (fun e=>?_) (bE _ _ ab)⟩
  ·rw[Eh] at ab;have:=ia ab;omega
  ·have:=ia e;have:=af.bW ab;omega
 |ak v x xs h=>
  have bZ:=fun J=>h.lt (i:=J);have h':=h;generalize dj:x::xs=b1C at h';cases h' with
  |nil=>cases dj
  |ak J cap _ rest hg ah oW=>
  subst dj;refine ae ?_;generalize aD:I.next=k;refine W.fJ (c:=[]) H aD rfl rfl rfl fun b1 cG H bE=>?_;refine ae ?_;have hl:Sl b1 none (.ak k 0 0 none (some 0)) (([]:List Int).map zI):=.ak k (some 0) [] [] (H.get _ (.head _)) (fun y aw=>by simp at aw) (.inr rfl);obtain⟨w,bd,Eg,vP,Eh,NQ,Wd,r6⟩:=V_ (x:=.ak J 0 (x::xs).length none cap) (y:=y) (r:=l) hl (by rw[hq];exact(h.aF fun i J _=>bE i J).read) (by omega);refine W.val (v:=w) (aq:=bd) rfl rfl (IA rfl rfl Eg) ?_;refine ae ?_;rw[hq] at vP;refine GoF.ret ⟨rfl,w,rfl,fun h=>(by cases h),vP,NQ,fun J ab=>?_,by omega,fun i J ab=>r6 _ _ (fun e=>?_) (bE _ _ ab)⟩
  ·rw[Eh] at ab;have:=ia ab;omega
  ·have:=ia e;have:=af.bW ab;omega
end
inductive dB
 |mk (aK mD S E hi:Nat) (aW bK ey b6:AV) (eF:List AV) (kids:List dB)
def dB.aK:dB→Nat| .mk a _ _ _ _ _ _ _ _ _ _=>a
def dB.mD:dB→Nat| .mk _ a _ _ _ _ _ _ _ _ _=>a
def dB.S:dB→Nat| .mk _ _ a _ _ _ _ _ _ _ _=>a
def dB.E:dB→Nat| .mk _ _ _ a _ _ _ _ _ _ _=>a
def dB.hi:dB→Nat| .mk _ _ _ _ a _ _ _ _ _ _=>a
def dB.aW:dB→AV| .mk _ _ _ _ _ a _ _ _ _ _=>a
def dB.bK:dB→AV| .mk _ _ _ _ _ _ a _ _ _ _=>a
def dB.ey:dB→AV| .mk _ _ _ _ _ _ _ a _ _ _=>a
def dB.b6:dB→AV| .mk _ _ _ _ _ _ _ _ a _ _=>a
def dB.eF:dB→List AV| .mk _ _ _ _ _ _ _ _ _ a _=>a
def dB.kids:dB→List dB| .mk _ _ _ _ _ _ _ _ _ _ a=>a
abbrev eJ(k:dB)(p:Prf):List AV:=[.s p.rule,.i .u8 (Int.ofNat p.form.op),.s p.form.name,k.aW,k.bK,zI p.aY,k.ey,k.b6]
def iv(U:af)(B bw:Nat)(l:List AV):Prop:=∃c,U.get B=some (.cells c)∧∀t,t<8→c[bw+t]? =l[t]?
structure l4(U:af)(k:dB)(p:Prf):Prop where
 ak:h9 U none k.b6 k.eF
 nl:k.eF=[]→k.b6= .aB
 cap:∀J l c,k.b6= .ak J 0 l none c→c=none
 len:k.eF.length=p.aG.length
 own:∀J,k.b6.bn =some J→k.E≤J∧J<k.hi
 each:∀j (h:j<k.eF.length) (h':j<p.aG.length),h9 U none k.eF[j] ((p.aG[j].getD []).map zI)∧(p.aG[j].getD []=[]→k.eF[j]= .aB)∧(∀J l c,k.eF[j]= .ak J 0 l none c→c=none)∧(∀J,k.eF[j].bn =some J→k.E≤J∧J<k.hi∧k.b6.bn ≠some J)
 yB:∀i j (h:i<k.eF.length) (h':j<k.eF.length),i<j→∀J,k.eF[j].bn =some J→k.eF[i].bn ≠some J
def fv(U:af)(e:Nat):Nat→dB→Prf→Prop
 |0,_,_=>False
 |d+1,k,p=>fF U e k.aK k.mD p.form (.ag [.i .u8 (Int.ofNat p.form.op),.s p.form.name,k.aW,k.bK])∧(k.mD≤k.S∧k.S≤k.E∧k.E≤k.hi)∧
  (k.kids.length=p.sub.length∧(p.sub=[]→k.ey= .aB)∧(p.sub≠[]→k.S<k.E∧k.ey= .ak k.S 0 p.sub.length (some 8) none∧∃c,U.get k.S=some (.cells c)∧c.length=p.sub.length*8))∧
  (∀j (h:j<k.kids.length) (h':j<p.sub.length),k.mD≤k.kids[j].aK∧k.kids[j].hi≤k.S∧iv U k.S (j*8) (eJ k.kids[j] p.sub[j])∧fv U e d k.kids[j] p.sub[j])∧
  (∀i j (h:i<k.kids.length) (h':j<k.kids.length),i<j→k.kids[i].hi≤k.kids[j].aK)∧l4 U k p
def e7(I:af)(M e:Nat):Nat→Prf→List AV→Prop
 |0,_,_=>False
 |d+1,p,cs=>∃aW bK ey b6 xs eF,cs=[.s p.rule,.i .u8 (Int.ofNat p.form.op),.s p.form.name,aW,bK,zI p.aY,ey,b6]∧(ja I M e p.form (.ag [.i .u8 (Int.ofNat p.form.op),.s p.form.name,aW,bK])∧AV.eqb M (.ag [.i .u8 (Int.ofNat p.form.op),.s p.form.name,aW,bK]) (.ag [.i .u8 (Int.ofNat p.form.op),.s p.form.name,aW,bK])=true∧aW.cells=[aW]∧conf none aW=true∧aW.val=true∧bK.cells=[bK]∧conf none bK=true∧bK.val=true)∧
  (fu I (some 8) ey xs∧xs.length=p.sub.length∧∀i (h:i<xs.length) (h':i<p.sub.length),∃ea,xs[i]= .ag ea∧e7 I M e d p.sub[i] ea)∧
  fu I none b6 eF∧eF.length=p.aG.length∧∀i (h:i<eF.length) (h':i<p.aG.length),fu I none eF[i] ((p.aG[i].getD []).map zI)
theorem e7.aF{I U:af}{M e:Nat}(k:∀i c,I.get i=some (.cells c)→U.get i=some (.cells c)):∀(d:Nat) {p:Prf} {cs:List AV},e7 I M e d p cs→e7 U M e d p cs
 |0,_,_,h=>h
 |d+1,_,_,⟨aW,bK,ey,b6,xs,eF,e,⟨h1,h2⟩,⟨h3,aE,ba⟩,cr,de,fi⟩=>⟨aW,bK,ey,b6,xs,eF,e,⟨ja.aF k _ h1,h2⟩,⟨h3.aF fun i c _=>k i c,aE,fun i a c=>let⟨ea,aM,e2⟩:=ba i a c;⟨ea,aM,e7.aF k d e2⟩⟩,cr.aF (fun i c _=>k i c),de,fun i a c=>(fi i a c).aF fun i c _=>k i c⟩
def nH(e:Nat):Nat→Prf→Prop
 |0,_=>False
 |d+1,p=>Fm.nc e p.form∧p.sub.length<2^20∧p.aG.length<2^20∧(∀l∈p.aG,(l.getD []).length<2^40)∧∀q∈p.sub,nH e d q
theorem I6:∀ {xs:List AV} {rest:List AV},(∀y∈xs,∃l:List AV,y= .ag l∧l.length=8)→∀j (az:j<xs.length) (l:List AV),xs[j]= .ag l→∀t,t<8→(xs.flatMap AV.cells++rest)[j*8+t]? =l[t]?
 |[],_,_,j,az,_,_,_,_=>by simp at az
 |x::xs,rest,h,0,_,l,e,t,ht=>by
  obtain⟨cF,eb,ar⟩:=h x (by simp);have e:x= .ag l:=e;rw[eb] at e;cases e;subst eb;rw[eG,iw,w1,hO];show(l++_)[t]? =_;rw[Tu (by omega)]
 |x::xs,rest,h,j+1,az,l,e,t,ht=>by
  obtain⟨cF,eb,ar⟩:=h x (by simp);subst eb;rw[eG,iw];show(cF++_)[(j+1)*8+t]? =_;rw[L6 (by omega),show(j+1)*8+t-cF.length=j*8+t from by omega];exact I6 (fun y aw=>h y (by simp[aw])) j (by simpa using az) l (by simpa using e) t ht
theorem l4.aF{I U:af}{k:dB}{p:Prf}(h:l4 I k p)(aD:∀i c,k.aK≤i→i<k.hi→I.get i=some (.cells c)→U.get i=some (.cells c))(h2:k.aK≤k.E):l4 U k p:=
 ⟨h.ak.aF fun i c hi=>aD i c (by have:=h.own i hi;omega) (h.own i hi).2,h.nl,h.cap,h.len,h.own,fun j a c=>⟨(h.each j a c).1.aF fun i aQ hi=>aD i aQ (by have:=(h.each j a c).2.2.2 i hi;omega) ((h.each j a c).2.2.2 i hi).2.1,(h.each j a c).2⟩,h.yB⟩
theorem fv.aF{I U:af}{e:Nat}:∀(d:Nat) {k:dB} {p:Prf},(∀i c,k.aK≤i→i<k.hi→I.get i=some (.cells c)→U.get i=some (.cells c))→fv I e d k p→fv U e d k p
 |0,_,_,_,h=>h
 |d+1,k,p,aD,⟨h1,⟨h2,h3,aE⟩,⟨ba,cr,de⟩,fi,hD,ij⟩=>by
  have gd:=fF.le _ h1;refine⟨fF.aF _ (fun i c aP a0=>aD i c aP (by omega)) h1,⟨h2,h3,aE⟩,⟨ba,cr,fun hp=>?_⟩,fun j a c=>?_,hD,ij.aF aD (by omega)⟩
  ·obtain⟨aP,a0,c,bF,bU⟩:=de hp;exact⟨aP,a0,c,aD _ _ (by omega) (by omega) bF,bU⟩
  ·obtain⟨aP,a0,⟨aQ,bF,bU⟩,c6⟩:=fi j a c;have bx:p.sub≠[]:=fun e=>by rw[e] at c;simp at c
   have:=(de bx).1;exact⟨aP,a0,⟨aQ,aD _ _ (by omega) (by omega) bF,bU⟩,fv.aF d (fun i c cC c0=>aD i c (by omega) (by omega)) c6⟩
theorem fv.le{I:af}{e:Nat}:∀(d:Nat) {k:dB} {p:Prf},fv I e d k p→k.aK≤k.mD∧k.mD≤k.S∧k.S≤k.E∧k.E≤k.hi
 |_+1,_,_,⟨h1,h2,_⟩=>⟨fF.le _ h1,h2⟩
section
variable {b:dW}{K:Nat→List AV→AV→Prop}
theorem cloned_go(ah:AN b K)(We:cY (b.a4 K) Aj Dv)(hh:cY (b.a4 K) DA Hn){e:Nat}:∀(d:Nat) (p:Prf),nH e d p→∀(cs:List AV) (I:af),e7 I (b.aV+1000) e d p cs→
  b9 (b.a4 K) 0 (.f (.func DA) [] []) [.ag cs] I (fun r U=>∃k,r= .ok (.ag (eJ k p))∧fv U e d k p∧I.next≤k.aK∧k.hi≤U.next∧b2 I U)
 |0,_,h,_,_,_=>h.elim
 |d+1,p,⟨s1,s2,iq,ee,mE⟩,cs,I,⟨aW,bK,ey,b6,xs,eF,b1D,⟨e3,b1E,cQ,eA,ek,hT,jI,jF⟩,⟨c2,Ei,NR⟩,hY,NS,I7⟩=>by
  subst b1D;have aA:=cloned_go ah We hh (e:=e) d;refine W.qQ hh.e hh.p hh.f rfl rfl rfl fun z=>?_;have H:Has I []:=Has.nil;generalize hq:I.next=q;refine ae ?_;refine W.en (c:=[.s p.rule,.i .u8 (Int.ofNat p.form.op),.s p.form.name,aW,bK,zI p.aY,ey,b6]) H hq rfl rfl rfl rfl rfl fun b1 cG H bE=>?_;refine ae ?_;refine W.bN (c:=[.s [],.i .u8 0,.s [],.aB,.aB,.i .i64 0,.aB,.aB]) H cG rfl rfl rfl fun bd n2 H br=>?_;refine ae ?_;refine W.lZ (v:=.ag [.i .u8 (Int.ofNat p.form.op),.s p.form.name,aW,bK]) H rfl rfl rfl (.tail _ (.head _)) rfl b1E ?_;refine ae ?_;refine W.bN (c:=[.s [],.i .u8 0,.s [],.aB,.aB,.i .i64 0,.aB,.aB]) H n2 rfl rfl rfl fun bG eh H bb=>?_;refine ae ?_;have AP:∀i J,I.get i=some J→bG.get i=some J:=fun i J ab=>bb _ _ (br _ _ (bE _ _ ab));refine W.dX rfl rfl rfl (Wc ah e p.form s1 _ bG (ja.aF (fun i c ab=>AP _ _ ab) _ e3)) fun r cA ⟨v,eb,av,iN⟩=>⟨_,eb,?_⟩
  have H:=H.aF iN.2;have Ef:=iN.1;cases e with
  |zero=>exact av.elim
  |succ e=>
  have ub:=av;obtain⟨ep,hH,m,rfl,fc,kZ⟩:=ub;refine ae ?_;refine W.st (aQ:=[.s p.rule,.i .u8 (Int.ofNat p.form.op),.s p.form.name,ep,hH,zI p.aY,.aB,.aB]) H 0 rfl rfl rfl rfl rfl rfl fun dk h7 H dN=>?_;refine ae ?_;refine W.len rfl rfl rfl (by rw[c2.len,Ei]) ?_;refine ae ?_;have I8:dk.get q=some (.cells [.s p.rule,.i .u8 (Int.ofNat p.form.op),.s p.form.name,aW,bK,zI p.aY,ey,b6]):=H.get _ (.tail _ (.tail _ (.head _)));have NT:dk.get (q+1)=some (.cells [.s [],.i .u8 0,.s [],.aB,.aB,.i .i64 0,.aB,.aB]):=H.get _ (.tail _ (.head _));show bl _ _ _ _ _ _ _ _;have c3r:p.sub.length<2^20:=s2;refine GoF.each p.sub.length (fun j f U=>∃v aO bc,(h9 U (some 8) v aO∧aO.length=j∧(aO=[]→v= .aB)∧(∀J l c,v= .ak J 0 l (some 8) c→c=none)∧bc.length=j∧(∀J,v.bn =some J→cA.next≤J))∧
   (∀i (h:i<bc.length) (h':i<p.sub.length) (b1F:i<aO.length),aO[i]= .ag (eJ bc[i] p.sub[i])∧fv U (e+1) d bc[i] p.sub[i]∧cA.next≤bc[i].aK∧bc[i].hi≤U.next∧∀J,v.bn =some J→bc[i].hi≤J)∧(∀i eC (h:i<bc.length) (h':eC<bc.length),i<eC→bc[i].hi≤bc[eC].aK)∧
   (U.get (q+2)=some (.cells [.s p.rule,.i .u8 (Int.ofNat p.form.op),.s p.form.name,ep,hH,zI p.aY,v,.aB])∧dk.next≤U.next∧∀i J,i≠q+2→dk.get i=some J→U.get i=some J)∧sat [(17,ey),(1,bo q),(2,bo (q+1)),(3,bo (q+2))] f) (by omega)
   ⟨.aB,[],[],⟨h9.nil,rfl,fun _=>rfl,(fun _ _ _ h=>by cases h),rfl,fun _ h=>by cases h⟩,(fun i h=>by simp at h),(fun i eC h=>by simp at h),⟨H.get _ (.head _),o _,fun _ _ _ h=>h⟩,rfl,rfl,rfl,rfl,trivial⟩ rfl rfl (fun j g U az aZ hi hm=>?_) (fun g U aZ hi=>?_)
  ·obtain⟨v,aO,bc,⟨aP,a0,bF,bU,c6,dL⟩,cC,c0,⟨ej,j1,iz⟩,aX⟩:=aZ;refine GoF.norm ((19,ay j)::(18,ay p.sub.length)::[(17,ey),(1,bo q),(2,bo (q+1)),(3,bo (q+2))]) ⟨hi,hm,aX⟩ fun g=>?_;have H:Has U [(q+2,[.s p.rule,.i .u8 (Int.ofNat p.form.op),.s p.form.name,ep,hH,zI p.aY,v,.aB])]:=Has.nil.cons ej (by simp);have ca:∀i J,I.get i=some J→U.get i=some J:=fun i J ab=>by
    have:=af.bW ab;exact iz _ _ (by omega) (dN _ _ (by omega) (iN.2 _ _ (AP _ _ ab)))
   have oO:j<xs.length:=by omega
   obtain⟨pp,aM,e2⟩:=(c2.aF fun i c _ ab=>ca _ _ ab).hc oO;obtain⟨ea,dn,mC⟩:=NR j oO az;have mC:=e7.aF (fun i c ab=>ca _ _ ab) _ mC;rw[dn] at e2;cases d with
   |zero=>exact mC.elim
   |succ d=>
   have Ed:=mC;obtain⟨kJ,oY,NU,Ej,_,_,rfl,_⟩:=Ed;refine ae ?_;refine W.cw rfl rfl rfl rfl aM ?_;refine ae ?_;refine W.kf rfl rfl rfl e2 ?_;refine ae ?_;generalize aD:U.next=k;refine W.mv (c:=[.s p.sub[j].rule,.i .u8 (Int.ofNat p.sub[j].form.op),.s p.sub[j].form.name,kJ,oY,zI p.sub[j].aY,NU,Ej]) H aD rfl rfl rfl rfl rfl rfl fun oh sQ H k7=>?_;have b1G:=aP.ak.aF fun i J _ ab=>k7 i J ab;refine ae ?_;refine W.lZ H rfl rfl rfl (.tail _ (.head _)) rfl (od aP.ak.lf) ?_;refine ae ?_;refine W.dX rfl rfl rfl (aA p.sub[j] (mE _ (aS az)) _ oh (e7.aF (fun i c ab=>k7 _ _ ab) _ mC)) fun r fD ⟨gG,eb,c4,gd,j9,jb⟩=>⟨_,eb,?_⟩
   have H:=H.aF jb.2;have NV:=jb.1;have NW:=b1G.aF fun i J _ ab=>jb.2 i J ab;refine ae ?_;generalize yC:fD.next=gr;refine W.fJ (c:=eJ gG p.sub[j]) H yC rfl rfl rfl fun b1H b1I H uU=>?_;refine ae ?_;refine W.I5 (.ag (eJ gG p.sub[j])) [] (NW.aF fun i J _ ab=>uU i J ab) (Io (H.get _ (.head _)) rfl) (fun z bg=>by rw[d_.1 bg];rfl) (by rw[a0];show(3*(_+1)+2000)*_≤_;omega) rfl rfl rfl rfl fun a2 g0 r8 at8 NX n6 hs=>?_;have NY:v.bn ≠some (q+2):=fun h=>by have:=dL _ h;omega
   have mm:I.next+3≤U.next:=by omega
   have NZ:g0.get (q+2)=some (.cells [.s p.rule,.i .u8 (Int.ofNat p.form.op),.s p.form.name,ep,hH,zI p.aY,v,.aB]):=hs _ _ NY (uU _ _ (jb.2 _ _ (k7 _ _ ej)));have H:Has g0 [(q+2,[.s p.rule,.i .u8 (Int.ofNat p.form.op),.s p.form.name,ep,hH,zI p.aY,v,.aB])]:=Has.nil.cons NZ (by simp);refine ae ?_;refine W.st (aQ:=[.s p.rule,.i .u8 (Int.ofNat p.form.op),.s p.form.name,ep,hH,zI p.aY,a2,.aB]) H 0 rfl rfl rfl rfl r8.ak.mx (by rw[r8.ak.cells0];rfl) fun fk nu H gI=>?_;refine ae ?_;have vS:=c4.le;have old:∀i J,i≠q+2→v.bn ≠some i→U.get i=some J→fk.get i=some J:=fun i J h1 h2 ab=>gI _ _ h1 (hs _ _ h2 (uU _ _ (jb.2 _ _ (k7 _ _ ab))));refine⟨rfl,rfl,a2,aO++[.ag (eJ gG p.sub[j])],bc++[gG],⟨r8.aF fun i J hi ab=>gI _ _ (by rw[at8] at hi;have:=ia hi;omega) ab,by rw[cR];exact congrArg (· +1) a0,(fun h=>by simp at h),NX,by rw[cR];exact congrArg (· +1) c6,fun J ab=>by rw[at8] at ab;have:=ia ab;omega⟩,fun i h h' b1F=>?_,fun i eC h h' AQ=>?_,⟨H.get _ (.head _),by omega,fun i J hi ab=>old _ _ hi (fun h=>by have:=dL _ h;have:=af.bW ab;omega) (iz _ _ hi ab)⟩,rfl,rfl,rfl,rfl,trivial⟩
   ·by_cases hi:i<j
    ·obtain⟨cQ,eA,ek,hT,jI⟩:=cC i (by omega) h' (by omega);rw[jn (by omega)];rw[jn (by omega)];refine⟨cQ,fv.aF _ (fun x c bM b4 ab=>old _ _ (by omega) (fun h=>by have:=jI _ h;omega) ab) eA,ek,by omega,fun J ab=>by rw[at8] at ab;have:=ia ab;omega⟩
    ·have fw:i=j:=by rw[cR,c6] at h;simp at h;omega
     subst fw;rw[jG (by omega)];rw[jG (by omega)];simp only[a0,c6,kj,mJ];refine⟨trivial,fv.aF _ (fun x c bM b4 ab=>gI _ _ (by omega) (hs _ _ (fun h=>by have:=aP.ak.lt h;omega) (uU _ _ ab))) c4,by omega,by omega,fun J ab=>by rw[at8] at ab;have:=ia ab;omega⟩
   ·have cS:eC<j+1:=by rw[cR,c6] at h';simpa using h'
    rw[jn (by omega)];by_cases fw:eC<j
    ·rw[jn (by omega)];exact c0 _ _ _ _ AQ
    ·have fw:eC=j:=by omega
     subst fw;rw[jG (by omega)];simp only[c6,kj,mJ];have:=(cC i (by omega) (by omega) (by omega)).2.2.2.1;omega
  ·obtain⟨v,aO,bc,⟨aP,a0,bF,bU,c6,dL⟩,cC,c0,⟨ej,j1,iz⟩,aX⟩:=aZ;obtain⟨_,bM,b4,dy,_⟩:=aX;refine GoF.norm [(1,bo q),(2,bo (q+1)),(3,bo (q+2))] ⟨bM,b4,dy,trivial⟩ fun g=>?_;have H:Has U [(q,[.s p.rule,.i .u8 (Int.ofNat p.form.op),.s p.form.name,aW,bK,zI p.aY,ey,b6])]:=Has.nil.cons (iz _ _ (by omega) I8) (by simp);have ca:∀i J,I.get i=some J→U.get i=some J:=fun i J ab=>by
    have:=af.bW ab;exact iz _ _ (by omega) (dN _ _ (by omega) (iN.2 _ _ (AP _ _ ab)))
   refine ae ?_;refine W.len rfl rfl rfl (by rw[hY.len,NS]) ?_;refine ae ?_;show bl _ _ _ _ _ _ _ _;refine GoF.each p.aG.length (fun j f a5=>∃m nd,(h9 a5 none m nd∧nd.length=j∧(nd=[]→m= .aB)∧(∀J l c,m= .ak J 0 l none c→c=none)∧(∀J,m.bn =some J→U.next≤J))∧
    (∀i (h:i<nd.length) (h':i<p.aG.length),h9 a5 none nd[i] ((p.aG[i].getD []).map zI)∧(p.aG[i].getD []=[]→nd[i]= .aB)∧(∀J l c,nd[i]= .ak J 0 l none c→c=none)∧∀J,nd[i].bn =some J→U.next≤J∧m.bn ≠some J)∧(∀i eC (h:i<nd.length) (h':eC<nd.length),i<eC→∀J,nd[eC].bn =some J→nd[i].bn ≠some J)∧
    (a5.get (q+2)=some (.cells [.s p.rule,.i .u8 (Int.ofNat p.form.op),.s p.form.name,ep,hH,zI p.aY,v,m])∧U.next≤a5.next∧∀i J,i≠q+2→U.get i=some J→a5.get i=some J)∧sat [(32,b6),(1,bo q),(2,bo (q+1)),(3,bo (q+2))] f) (by omega)
    ⟨.aB,[],⟨h9.nil,rfl,fun _=>rfl,(fun _ _ _ h=>by cases h),fun _ h=>by cases h⟩,(fun i h=>by simp at h),(fun i eC h=>by simp at h),⟨ej,o _,fun _ _ _ h=>h⟩,rfl,rfl,rfl,rfl,trivial⟩ rfl rfl (fun j g a5 az aZ hi hm=>?_) (fun g a5 aZ hi=>?_)
   ·obtain⟨m,nd,⟨p1,p2,Gh,Wf,Ek⟩,iS,iT,⟨k2,py,qD⟩,aX⟩:=aZ;refine GoF.norm ((34,ay j)::(33,ay p.aG.length)::[(32,b6),(1,bo q),(2,bo (q+1)),(3,bo (q+2))]) ⟨hi,hm,aX⟩ fun g=>?_;have H:Has a5 [(q+2,[.s p.rule,.i .u8 (Int.ofNat p.form.op),.s p.form.name,ep,hH,zI p.aY,v,m])]:=Has.nil.cons k2 (by simp);have Wg:∀i J,I.get i=some J→a5.get i=some J:=fun i J ab=>by
     have:=af.bW ab;exact qD _ _ (by omega) (ca _ _ ab)
    have oO:j<eF.length:=by omega
    obtain⟨pp,aM,e2⟩:=(hY.aF fun i c _ ab=>Wg _ _ ab).hc oO;have AR:=(I7 j oO az).aF fun i c _ ab=>Wg _ _ ab;refine ae ?_;refine W.cw rfl rfl rfl rfl aM ?_;refine ae ?_;refine W.kf rfl rfl rfl e2 ?_;refine ae ?_;refine W.lZ H rfl rfl rfl (.head _) rfl (od p1.ak.lf) ?_;refine ae ?_;refine W.dX rfl rfl rfl (b1B We (ee _ (aS az)) AR) fun r fD ⟨lw,eb,hl0,uV,nm,AS,jb⟩=>⟨_,eb,?_⟩
    have H:=H.aF jb.2;have NV:=jb.1;have NW:=p1.ak.aF fun i J _ ab=>jb.2 i J ab;refine ae ?_;generalize yC:fD.next=gr;refine W.fJ (c:=[lw]) H yC rfl rfl ?_ fun b1H b1I H uU=>?_
    ·exact Is (w:=lw) rfl ⟨uV.ak.cells0,uV.ak.Ik⟩
    refine ae ?_;refine W.I5 lw [] (NW.aF fun i J _ ab=>uU i J ab) (Io (by rw[uV.ak.cells0];exact H.get _ (.head _)) uV.ak.mx) (fun z bg=>by rw[d_.1 bg];exact uV.ak.mx) (by rw[p2];show(3*(_+1)+2000)*_≤_;omega) rfl rfl rfl rfl fun aH g0 r8 at8 NX n6 hs=>?_;have NY:m.bn ≠some (q+2):=fun h=>by have:=Ek _ h;have:=af.bW ej;omega
    have NZ:g0.get (q+2)=some (.cells [.s p.rule,.i .u8 (Int.ofNat p.form.op),.s p.form.name,ep,hH,zI p.aY,v,m]):=hs _ _ NY (uU _ _ (jb.2 _ _ k2));have H:Has g0 [(q+2,[.s p.rule,.i .u8 (Int.ofNat p.form.op),.s p.form.name,ep,hH,zI p.aY,v,m])]:=Has.nil.cons NZ (by simp);have hq2:q+2<U.next:=af.bW ej;refine ae ?_;refine W.st (aQ:=[.s p.rule,.i .u8 (Int.ofNat p.form.op),.s p.form.name,ep,hH,zI p.aY,v,aH]) H 0 rfl rfl rfl rfl r8.ak.mx (by rw[r8.ak.cells0];rfl) fun fk nu H gI=>?_;refine ae ?_;have old:∀i J,i≠q+2→m.bn ≠some i→a5.get i=some J→fk.get i=some J:=fun i J h1 h2 ab=>gI _ _ h1 (hs _ _ h2 (uU _ _ (jb.2 _ _ ab)));have hc:∀J,aH.bn =some J→J=gr+1:=fun J ab=>by rw[at8] at ab;have:=ia ab;omega
    refine⟨rfl,rfl,aH,nd++[lw],⟨r8.aF fun i J hi ab=>gI _ _ (by have:=hc _ hi;omega) ab,by rw[cR];exact congrArg (· +1) p2,(fun h=>by simp at h),NX,fun J ab=>by have:=hc _ ab;omega⟩,fun i h h'=>?_,fun i eC h h' AQ J ab=>?_,⟨H.get _ (.head _),by omega,fun i J hi ab=>old _ _ hi (fun h=>by have:=Ek _ h;have:=af.bW ab;omega) (qD _ _ hi ab)⟩,rfl,rfl,rfl,rfl,trivial⟩
    ·by_cases hi:i<j
     ·obtain⟨cQ,eA,k1,ek⟩:=iS i (by omega) h';have bZ:=fun J (ab:(nd[i]'(by omega)).bn =some J)=>cQ.ak.lt ab;rw[jn (by omega)];refine⟨cQ.aF fun x J hx ab=>old _ _ (by have:=(ek _ hx).1;omega) (ek _ hx).2 ab,eA,k1,fun J ab=>⟨(ek _ ab).1,fun h=>by have:=bZ _ ab;have:=hc _ h;omega⟩⟩
     ·have fw:i=j:=by rw[cR,p2] at h;simp at h;omega
      subst fw;rw[jG (by omega)];simp only[p2,kj,mJ];refine⟨(uV.aF fun x J hx ab=>gI _ _ (by have:=AS _ hx;omega) (hs _ _ (fun h=>by have:=p1.ak.lt h;have:=AS _ hx;omega) (uU _ _ ab))),hl0,nm,fun J ab=>⟨by have:=AS _ ab;omega,fun h=>by have:=hc _ h;have:=uV.ak.lt ab;omega⟩⟩
    ·have cS:eC<j+1:=by rw[cR,p2] at h';simpa using h'
     rw[jn (by omega)];by_cases fw:eC<j
     ·rw[jn (by omega)] at ab;exact iT _ _ _ _ AQ _ ab
     ·have fw:eC=j:=by omega
      subst fw;rw[jG (by omega)] at ab;simp only[p2,kj,mJ] at ab;intro h2;have h3:=(iS i (by omega) (by omega)).1.ak.lt h2;have:=AS _ ab;omega
   ·obtain⟨m,nd,⟨p1,p2,Gh,Wf,Ek⟩,iS,iT,⟨k2,py,qD⟩,aX⟩:=aZ;obtain⟨_,bM,b4,dy,_⟩:=aX;refine GoF.norm [(2,bo (q+1)),(3,bo (q+2))] ⟨b4,dy,trivial⟩ fun g=>?_;have hq2:q+2<U.next:=af.bW ej;have H:Has a5 [(q+2,[.s p.rule,.i .u8 (Int.ofNat p.form.op),.s p.form.name,ep,hH,zI p.aY,v,m]),(q+1,[.s [],.i .u8 0,.s [],.aB,.aB,.i .i64 0,.aB,.aB])]:=(Has.nil.cons (qD _ _ (by omega) (iz _ _ (by omega) NT)) (by simp)).cons k2 (by simp);refine ae ?_;refine W.st (aQ:=[.s p.rule,.i .u8 (Int.ofNat p.form.op),.s p.form.name,ep,hH,zI p.aY,v,m]) H 1 rfl rfl rfl rfl rfl rfl fun fk nu H gI=>?_;refine ae ?_;have F5:∀i J,cA.next≤i→U.get i=some J→fk.get i=some J:=fun i J hi ab=>gI _ _ (by omega) (qD _ _ (by omega) ab);have fin:∀i J,I.get i=some J→fk.get i=some J:=fun i J ab=>by
     have:=af.bW ab;exact gI _ _ (by omega) (qD _ _ (by omega) (ca _ _ ab))
    have N0:fF fk (e+1) bG.next cA.next p.form (.ag [.i .u8 (Int.ofNat p.form.op),.s p.form.name,ep,hH]):=fF.aF _ (fun i c aP a0 ab=>gI _ _ (by omega) (qD _ _ (by omega) (iz _ _ (by omega) (dN _ _ (by omega) ab)))) av;refine GoF.ret ⟨rfl,_,cT (fR rfl (H.get _ (.tail _ (.head _))) rfl),.mk bG.next cA.next (match v.bn with|some J=>J|none=>cA.next) U.next fk.next ep hH v m nd bc,rfl,⟨N0,?_,⟨c6,?_,?_⟩,?_,c0,?_⟩,?_,o _,by omega,fin⟩
    ·have hle:=j1;show cA.next≤(match v.bn with|some J=>J|none=>cA.next)∧(match v.bn with|some J=>J|none=>cA.next)≤U.next∧U.next≤fk.next;refine⟨?_,?_,by omega⟩
     ·split
      ·rename_i J ab;exact dL _ ab
      ·exact o _
     ·split
      ·rename_i J ab;have:=aP.ak.lt ab;omega
      ·omega
    ·intro h;have h0:aO=[]:=l0.1 (by rw[a0,h];rfl);exact bF h0
    ·intro bx;have aw:aO≠[]:=fun h=>bx (l0.1 (by rw[←a0,h];rfl));have dV:=aP.ak.conf;have r8:=aP.ak;cases r8 with
     |nil=>exact absurd rfl aw
     |ak J cap _ rest hg _ oW=>
      obtain rfl:cap=none:=bU _ _ _ rfl;refine⟨aP.ak.lt rfl,by show AV.ak J 0 aO.length (some 8) none= .ak J 0 p.sub.length (some 8) none;rw[a0],aO.flatMap AV.cells,F5 _ _ (dL _ rfl) (aP.ex _ rfl),?_⟩;rw[AL dV,a0];rfl
    ·intro j h h';obtain⟨cQ,eA,ek,hT,jI⟩:=cC j h h' (by omega);have bx:aO≠[]:=fun e=>by rw[e] at a0;simp at a0;omega
     have r8:=aP.ak;cases r8 with
     |nil=>exact absurd rfl bx
     |ak J cap _ rest hg dV oW=>
      refine⟨ek,jI _ rfl,⟨_,F5 _ _ (dL _ rfl) hg,fun t ht=>?_⟩,fv.aF _ (fun x c (bM:bc[j].aK≤x) b4 ab=>F5 _ _ (by omega) ab) eA⟩;refine I6 (fun y aw=>?_) j (by omega) _ cQ t ht;obtain⟨i,hi,rfl⟩:=gm aw;exact⟨_,(cC i (by omega) (by omega) hi).1,rfl⟩
    ·refine⟨p1.aF fun i J hi ab=>gI _ _ (by have:=Ek _ hi;omega) ab,Gh,Wf,p2,fun J ab=>⟨Ek _ ab,show J<fk.next by have:=p1.ak.lt ab;omega⟩,fun j h h'=>?_,iT⟩;obtain⟨cQ,eA,k1,ek⟩:=iS j h h';exact⟨cQ.aF fun i J hi ab=>gI _ _ (by have:=(ek _ hi).1;omega) ab,eA,k1,fun J ab=>⟨(ek _ ab).1,show J<fk.next by have:=cQ.ak.lt ab;omega,(ek _ ab).2⟩⟩
    ·show q≤bG.next;omega
end
def tw(f:Int→Int)(m:kb):kb:=m.map fun l=>l.map fun x=>x.map fun y=>y.map f
def oo(f:Int→Int):Prf→Prf| .mk r F l s m=>.mk r F (f l) s (tw f m)
mutual
def rnP(f:Int→Int):Prf→Prf
 | .mk r F l none m=>.mk r F (f l) none (tw f m)
 | .mk r F l (some s) m=>.mk r F (f l) (some (rnL f s)) (tw f m)
def rnL(f:Int→Int):List Prf→List Prf
 |[]=>[]
 |p::s=>rnP f p::rnL f s
end
theorem Wh(f:Int→Int):∀s,rnL f s=s.map (rnP f)
 |[]=>by rw[rnL];rfl
 |p::s=>by rw[rnL,Wh f s];rfl
theorem El(f:Int→Int)(p:Prf):rnP f p= .mk p.rule p.form (f p.aY) (p.bm.map fun s=>s.map (rnP f)) (tw f p.cv):=by
 obtain⟨r,F,l,s,m⟩:=p;cases s with
 |none=>rw[rnP];rfl
 |some s=>rw[rnP,Wh];rfl
theorem Wi(f:Int→Int)(p:Prf):(rnP f p).rule=p.rule:=by rw[El];rfl
theorem I9(f:Int→Int)(p:Prf):(rnP f p).form=p.form:=by rw[El];rfl
theorem Wj(f:Int→Int)(p:Prf):(rnP f p).aY=f p.aY:=by rw[El];rfl
theorem AT(f:Int→Int)(p:Prf):(rnP f p).sub=p.sub.map (rnP f):=by
 rw[El];unfold Prf.sub Prf.bm;cases p with|mk r F l s m=>cases s<;>rfl
theorem N1(f:Int→Int)(p:Prf):(rnP f p).aG=(oo f p).aG:=by rw[El];cases p;rfl
theorem wH(f:Int→Int)(p:Prf):(oo f p).aG=p.aG.map fun x=>x.map fun y=>y.map f:=by
 cases p with|mk r F l s m=>cases m<;>rfl
theorem b1J(f:Int→Int)(k:dB)(p:Prf):eJ k (rnP f p)=eJ k (oo f p):=by
 unfold eJ;rw[Wi,I9,Wj];cases p;rfl
theorem l4.Em{U:af}{k:dB}{p q:Prf}(h:l4 U k p)(e:p.aG=q.aG):l4 U k q:=
 ⟨h.ak,h.nl,h.cap,by rw[←e];exact h.len,h.own,fun j a c=>by
  have:=h.each j a (by rw[e];exact c);simpa only[e] using this,h.yB⟩
theorem I_(p:Prf):oo id p=p:=by
 cases p with|mk r F l s m=>
 show Prf.mk r F l s (tw id m)=_;have:tw id m=m:=by
  unfold tw;cases m with
  |none=>rfl
  |some m=>
   show some _=some m
   congr 1
   have:(fun x:Option (List Int)=>x.map fun y=>y.map id)=id:=by
    funext x;cases x with
    |none=>rfl
    |some y=>show some (y.map id)=some y;rw[B_]
   rw[this];simp
 rw[this]
structure o5 where
 d:Nat
 B:Nat
 bw:Nat
 k:dB
 p:Prf
def ndN(F:dB→Prf→Nat→List o5):Nat→List dB→List Prf→List o5
 |j,k::bc,q::cy=>F k q j++ndN F (j+1) bc cy
 |_,_,_=>[]
def nI:Nat→dB→Prf→Nat→Nat→List o5
 |0,_,_,_,_=>[]
 |d+1,k,p,B,bw=>⟨d+1,B,bw,k,p⟩::ndN (fun cW q j=>nI d cW q k.S (j*8)) 0 k.kids p.sub
theorem wI{F:dB→Prf→Nat→List o5}{x:o5}:∀ {bc:List dB} {cy:List Prf} {j:Nat},x∈ndN F j bc cy↔∃i,∃(h:i<bc.length) (h':i<cy.length),x∈F bc[i] cy[i] (j+i)
 |[],cy,j=>by simp[ndN]
 |k::bc,[],j=>by simp[ndN]
 |k::bc,q::cy,j=>by
  rw[ndN,dE,wI (bc:=bc) (cy:=cy) (j:=j+1)];constructor
  ·rintro(h|⟨i,h,h',hx⟩)
   ·exact⟨0,by simp,by simp,h⟩
   ·exact⟨i+1,by simp;omega,by simp;omega,by rw[show j+(i+1)=j+1+i from by omega];exact hx⟩
  ·rintro⟨i,h,h',hx⟩;cases i with
   |zero=>exact .inl hx
   |succ i=>exact .inr ⟨i,by simpa using h,by simpa using h',by rw[show j+(i+1)=j+1+i from by omega] at hx;exact hx⟩
theorem Wl{F:dB→Prf→Nat→List o5}{R:o5→o5→Prop}:∀ {bc:List dB} {cy:List Prf} {j:Nat},(∀i (h:i<bc.length) (h':i<cy.length),(F bc[i] cy[i] (j+i)).Pairwise R)→(∀i eC (h:i<bc.length) (h':i<cy.length) (g:eC<bc.length) (vV:eC<cy.length),i<eC→∀x∈F bc[i] cy[i] (j+i),∀y∈F bc[eC] cy[eC] (j+eC),R x y)→(ndN F j bc cy).Pairwise R
 |[],cy,j,_,_=>by simp[ndN]
 |k::bc,[],j,_,_=>by simp[ndN]
 |k::bc,q::cy,j,h1,h2=>by
  rw[ndN];refine List.pairwise_append.2 ⟨h1 0 (by simp) (by simp),Wl (fun i a c=>?_) (fun i eC a c cd aQ AQ x hx y aw=>?_),fun x hx y aw=>?_⟩
  ·have:=h1 (i+1) (by simp;omega) (by simp;omega);rw[show j+(i+1)=j+1+i from by omega] at this;exact this
  ·refine h2 (i+1) (eC+1) (by simp;omega) (by simp;omega) (by simp;omega) (by simp;omega) (by omega) x ?_ y ?_
   ·rw[show j+(i+1)=j+1+i from by omega];exact hx
   ·rw[show j+(eC+1)=j+1+eC from by omega];exact aw
  ·obtain⟨i,a,c,aw⟩:=wI.1 aw;exact h2 0 (i+1) (by simp) (by simp) (by simp;omega) (by simp;omega) (by omega) x hx y (by rw[show j+(i+1)=j+1+i from by omega];exact aw)
structure tx(U:af)(e:Nat)(x:o5)(f:Int→Int):Prop where
 yD:iv U x.B x.bw (eJ x.k (oo f x.p))
 r4:fF U e x.k.aK x.k.mD x.p.form (.ag [.i .u8 (Int.ofNat x.p.form.op),.s x.p.form.name,x.k.aW,x.k.bK])
 sub:x.p.sub≠[]→∃c,U.get x.k.S=some (.cells c)∧c.length=x.p.sub.length*8
 aG:l4 U x.k (oo f x.p)
def l5:Nat→dB→Prf→Prop
 |0,_,_=>False
 |d+1,k,p=>(k.aK≤k.mD∧k.mD≤k.S∧k.S≤k.E∧k.E≤k.hi)∧(k.kids.length=p.sub.length∧(p.sub=[]→k.ey= .aB)∧(p.sub≠[]→k.S<k.E∧k.ey= .ak k.S 0 p.sub.length (some 8) none))∧
  (∀j (h:j<k.kids.length) (h':j<p.sub.length),k.mD≤k.kids[j].aK∧k.kids[j].hi≤k.S∧l5 d k.kids[j] p.sub[j])∧∀i j (h:i<k.kids.length) (h':j<k.kids.length),i<j→k.kids[i].hi≤k.kids[j].aK
theorem fv.Wm{U:af}{e:Nat}:∀(d:Nat) {k:dB} {p:Prf},fv U e d k p→l5 d k p
 |0,_,_,h=>h
 |d+1,k,p,⟨h1,h2,⟨ba,cr,de⟩,fi,hD,ij⟩=>⟨⟨fF.le _ h1,h2⟩,⟨ba,cr,fun hp=>⟨(de hp).1,(de hp).2.1⟩⟩,fun j a c=>⟨(fi j a c).1,(fi j a c).2.1,fv.Wm d (fi j a c).2.2.2⟩,hD⟩
theorem fv.flat{U:af}{e:Nat}:∀(d:Nat) {k:dB} {p:Prf} {B bw:Nat},fv U e d k p→iv U B bw (eJ k p)→∀x∈nI d k p B bw,tx U e x id
 |0,_,_,_,_,h,_=>h.elim
 |d+1,k,p,B,bw,⟨h1,h2,⟨ba,cr,de⟩,fi,hD,ij⟩,ah=>fun x hx=>by
  rcases cH.1 hx with rfl|hx
  ·exact⟨by rw[I_];exact ah,h1,fun hp=>(de hp).2.2,by rw[I_];exact ij⟩
  ·obtain⟨i,a,c,hx⟩:=wI.1 hx;rw[hO] at hx;exact fv.flat d (fi i a c).2.2.2 (fi i a c).2.2.1 x hx
theorem fv.Wn{U:af}{e:Nat}{f:Int→Int}:∀(d:Nat) {k:dB} {p:Prf} {B bw:Nat},l5 d k p→(∀x∈nI d k p B bw,tx U e x f)→fv U e d k (rnP f p)∧iv U B bw (eJ k (rnP f p))
 |0,_,_,_,_,h,_=>h.elim
 |d+1,k,p,B,bw,⟨⟨gM,bM⟩,⟨b4,dy,e0⟩,ft,n_⟩,h=>by
  have h0:=h _ (gz ..);have aD:∀j (a:j<k.kids.length) (c:j<p.sub.length),fv U e d k.kids[j] (rnP f p.sub[j])∧iv U k.S (j*8) (eJ k.kids[j] (rnP f p.sub[j])):=fun j a c=>fv.Wn d (ft j a c).2.2 fun x hx=>h x (e9 _ (wI.2 ⟨j,a,c,by rw[hO];exact hx⟩));have ar:(rnP f p).sub.length=p.sub.length:=by rw[AT,aJ]
  refine⟨⟨by rw[I9];exact h0.r4,bM,⟨by rw[ar];exact b4,fun hp=>dy (by rw[AT] at hp;exact vi.1 hp),fun hp=>?_⟩,fun j a c=>?_,n_,h0.aG.Em (by rw[N1])⟩,by rw[b1J];exact h0.yD⟩
  ·have hp:p.sub≠[]:=fun h=>hp (by rw[AT,h];rfl);rw[ar];exact⟨(e0 hp).1,(e0 hp).2,h0.sub hp⟩
  ·have aQ:j<p.sub.length:=by rw[ar] at c;exact c
   have aM:(rnP f p).sub[j]=rnP f p.sub[j]:=by simp only[AT,fQ]
   rw[aM];exact⟨(ft j a aQ).1,(ft j a aQ).2.1,(aD j a aQ).2,(aD j a aQ).1⟩
def l6(x:o5)(J:Nat):Prop:=(x.k.aK≤J∧J<x.k.mD)∨(x.k.E≤J∧J<x.k.hi)
def Sep(x y:o5):Prop:=(∀J,¬(l6 x J∧l6 y J))∧¬l6 y x.B∧¬l6 x y.B∧(x.B≠y.B∨x.bw+8≤y.bw∨y.bw+8≤x.bw)∧(x.p.sub≠[]→¬l6 y x.k.S)∧(y.p.sub≠[]→¬l6 x y.k.S)
theorem En:∀(d:Nat) {k:dB} {p:Prf} {B bw:Nat},l5 d k p→∀x∈nI d k p B bw,(k.aK≤x.k.aK∧x.k.aK≤x.k.mD∧x.k.mD≤x.k.S∧x.k.S≤x.k.E∧x.k.E≤x.k.hi∧x.k.hi≤k.hi)∧((x.B=B∧x.bw=bw)∨(k.aK≤x.B∧x.B<k.hi))∧(x.p.sub≠[]→x.k.S<x.k.E)
 |0,_,_,_,_,h=>h.elim
 |d+1,k,p,B,bw,⟨⟨gM,bM⟩,⟨b4,dy,e0⟩,ft,n_⟩=>fun x hx=>by
  rcases cH.1 hx with rfl|hx
  ·exact⟨⟨o _,gM,bM.1,bM.2.1,bM.2.2,o _⟩,.inl ⟨rfl,rfl⟩,fun h=>(e0 h).1⟩
  ·obtain⟨i,a,c,hx⟩:=wI.1 hx;have bx:p.sub≠[]:=fun e=>by rw[e] at c;simp at c
   have c2:=(e0 bx).1;obtain⟨aP,a0,bF⟩:=En d (ft i a c).2.2 x hx;obtain⟨cC,c0,_⟩:=ft i a c;exact⟨by omega,.inr (by omega),bF⟩
theorem Wo:∀(d:Nat) {k:dB} {p:Prf} {B bw:Nat},l5 d k p→(B<k.aK∨k.hi≤B)→(nI d k p B bw).Pairwise Sep∧∀x∈nI d k p B bw,¬l6 x x.B
 |0,_,_,_,_,h,_=>h.elim
 |d+1,k,p,B,bw,hw,c4=>by
  have pJ:=hw;obtain⟨⟨gM,bM⟩,⟨b4,dy,e0⟩,ft,n_⟩:=pJ;have c2:∀i (a:i<k.kids.length) (c:i<p.sub.length),k.S<k.E:=fun i a c=>(e0 fun e=>by rw[e] at c;simp at c).1;have aA:∀i (a:i<k.kids.length) (c:i<p.sub.length),(nI d k.kids[i] p.sub[i] k.S (i*8)).Pairwise Sep∧∀x∈nI d k.kids[i] p.sub[i] k.S (i*8),¬l6 x x.B:=fun i a c=>Wo d (ft i a c).2.2 (.inr (ft i a c).2.1);refine⟨R4.2 ⟨fun y aw=>?_,Wl (fun i a c=>by rw[hO];exact(aA i a c).1) fun i eC a c cd aQ AQ x hx y aw=>?_⟩,fun x hx=>?_⟩
  ·obtain⟨i,a,c,aw⟩:=wI.1 aw;rw[hO] at aw;obtain⟨aP,a0,bF⟩:=En d (ft i a c).2.2 y aw;obtain⟨cC,c0,_⟩:=ft i a c;have:=c2 i a c;unfold Sep l6;refine⟨fun J=>?_,?_,?_,?_,fun aj=>?_,fun aj=>?_⟩<;>simp only at * <;>(try have bU:=bF aj)<;>(try have c6:=(e0 aj).1)<;>omega
  ·rw[hO] at hx aw;obtain⟨aP,a0,bF⟩:=En d (ft i a c).2.2 x hx;obtain⟨cC,c0,ej⟩:=En d (ft eC cd aQ).2.2 y aw;obtain⟨cQ,eA,_⟩:=ft i a c;obtain⟨d1,d2,_⟩:=ft eC cd aQ;have:=n_ i eC a cd AQ;unfold Sep l6;refine⟨fun J=>?_,?_,?_,?_,fun aj=>?_,fun aj=>?_⟩<;>(try have bU:=bF aj)<;>(try have c6:=ej aj)<;>omega
  ·rcases cH.1 hx with rfl|hx
   ·unfold l6;simp only;omega
   ·obtain⟨i,a,c,hx⟩:=wI.1 hx;rw[hO] at hx;exact(aA i a c).2 x hx
abbrev pp(B bw:Nat):AV:=.p (some (B,bw))
def shNL(F:dB→Prf→Nat→Sh):Nat→List dB→List Prf→List Sh
 |j,k::bc,q::cy=>F k q j::shNL F (j+1) bc cy
 |_,_,_=>[]
def lG:Nat→AV→dB→Prf→Sh
 |0,ptr,k,_=>.mk ptr k.ey []
 |d+1,ptr,k,p=>.mk ptr k.ey (shNL (fun cW q j=>lG d (pp k.S (j*8)) cW q) 0 k.kids p.sub)
theorem Wp{F:dB→Prf→Nat→Sh}:∀ {bc:List dB} {cy:List Prf} {j:Nat},bc.length=cy.length→(shNL F j bc cy).length=cy.length
 |[],[],_,_=>rfl
 |[],_::_,_,h=>by simp at h
 |_::_,[],_,h=>by simp at h
 |k::bc,q::cy,j,h=>by rw[shNL,fH,Wp (by simpa using h),fH]
theorem Wq{F:dB→Prf→Nat→Sh}:∀ {bc:List dB} {cy:List Prf} {j i:Nat} (h:i<(shNL F j bc cy).length) (a:i<bc.length) (c:i<cy.length),(shNL F j bc cy)[i]=F bc[i] cy[i] (j+i)
 |k::bc,q::cy,j,0,h,a,c=>rfl
 |k::bc,q::cy,j,i+1,h,a,c=>by
  have:=Wq (F:=F) (bc:=bc) (cy:=cy) (j:=j+1) (i:=i) (by simpa [shNL] using h) (by simpa using a) (by simpa using c);rw[show j+1+i=j+(i+1) from by omega] at this;exact this
theorem Ja(d:Nat)(ptr:AV)(k:dB)(p:Prf):(lG d ptr k p).ptr=ptr:=by cases d<;>rfl
theorem N2(d:Nat)(ptr:AV)(k:dB)(p:Prf):(lG d ptr k p).sub=k.ey:=by cases d<;>rfl
abbrev Eo(x:o5):Sh:=lG x.d (pp x.B x.bw) x.k x.p
theorem Wr:∀(d:Nat) {k:dB} {p:Prf} {B bw l:Nat},l5 d k p→((lG d (pp B bw) k p).pre l).map (·.2)=(nI d k p B bw).map Eo
 |0,_,_,_,_,_,h=>h.elim
 |d+1,k,p,B,bw,l,⟨gM,⟨b4,_,_⟩,ft,n_⟩=>by
  rw[Sh.gB,jK];show lG (d+1) (pp B bw) k p::_=lG (d+1) (pp B bw) k p::(ndN (fun cW q j=>nI d cW q k.S (j*8)) 0 k.kids p.sub).map Eo
  congr 1
  show List.map (·.2) ((shNL (fun cW q j=>lG d (pp k.S (j*8)) cW q) 0 k.kids p.sub).flatMap (Sh.pre (l+1)))=_;have hw:∀j (h:j<k.kids.length) (h':j<p.sub.length),l5 d k.kids[j] p.sub[j]:=fun j a c=>(ft j a c).2.2;generalize k.kids=bc at *;generalize p.sub=cy at *;have:∀(bc:List dB) (cy:List Prf) (j:Nat),(∀i (h:i<bc.length) (h':i<cy.length),l5 d bc[i] cy[i])→List.map (·.2) ((shNL (fun cW q j=>lG d (pp k.S (j*8)) cW q) j bc cy).flatMap (Sh.pre (l+1)))=(ndN (fun cW q j=>nI d cW q k.S (j*8)) j bc cy).map Eo:=by
   intro bc
   induction bc with
   |nil=>intro cy j _;cases cy<;>rfl
   |cons cW bc aA=>
    intro cy j hw;cases cy with
    |nil=>rfl
    |cons q cy=>
     rw[shNL,ndN,eG,gK,gK,Wr d (show l5 d cW q from hw 0 (by simp) (by simp)),aA cy (j+1) fun i a c=>hw (i+1) (by simp;omega) (by simp;omega)]
  exact this bc cy 0 hw
theorem Ws:∀(d:Nat) {k:dB} {p:Prf} {B bw:Nat},l5 d k p→∀x∈nI d k p B bw,l5 x.d x.k x.p
 |0,_,_,_,_,h=>h.elim
 |d+1,k,p,B,bw,hw=>fun x hx=>by
  rcases cH.1 hx with rfl|hx
  ·exact hw
  ·obtain⟨i,a,c,hx⟩:=wI.1 hx;exact Ws d (hw.2.2.1 i a c).2.2 x hx
theorem Wt:∀(d:Nat) {k:dB} {p:Prf} {B bw:Nat},l5 d k p→(nI d k p B bw).map (·.p)=p.pre
 |0,_,_,_,_,h=>h.elim
 |d+1,k,p,B,bw,⟨gM,⟨b4,_,_⟩,ft,n_⟩=>by
  rw[Prf.gB];show p::(ndN (fun cW q j=>nI d cW q k.S (j*8)) 0 k.kids p.sub).map (·.p)=_
  congr 1
  have hw:∀j (h:j<k.kids.length) (h':j<p.sub.length),l5 d k.kids[j] p.sub[j]:=fun j a c=>(ft j a c).2.2;generalize k.kids=bc at *;generalize p.sub=cy at *;have:∀(bc:List dB) (cy:List Prf) (j:Nat),bc.length=cy.length→(∀i (h:i<bc.length) (h':i<cy.length),l5 d bc[i] cy[i])→(ndN (fun cW q j=>nI d cW q k.S (j*8)) j bc cy).map (·.p)=cy.flatMap Prf.pre:=by
   intro bc
   induction bc with
   |nil=>intro cy j ar _;cases cy with
    |nil=>rfl
    |cons _ _=>simp at ar
   |cons cW bc aA=>
    intro cy j ar hw;cases cy with
    |nil=>simp at ar
    |cons q cy=>
     rw[ndN,gK,eG,aA cy (j+1) (by simpa using ar) fun i a c=>hw (i+1) (by simp;omega) (by simp;omega)]
     congr 1
     exact Wt d (hw 0 (by simp) (by simp))
  exact this bc cy 0 b4 hw
theorem Wu:∀(d:Nat) {k:dB} {p:Prf} {ptr:AV},l5 d k p→(lG d ptr k p).ht≤d
 |0,_,_,_,h=>h.elim
 |d+1,k,p,ptr,⟨gM,⟨b4,_,_⟩,ft,n_⟩=>by
  show Sh.ht (.mk ptr k.ey (shNL (fun cW q j=>lG d (pp k.S (j*8)) cW q) 0 k.kids p.sub))≤_;rw[Sh.ht];have hw:∀j (h:j<k.kids.length) (h':j<p.sub.length),l5 d k.kids[j] p.sub[j]:=fun j a c=>(ft j a c).2.2;have:∀(bc:List dB) (cy:List Prf) (j:Nat),(∀i (h:i<bc.length) (h':i<cy.length),l5 d bc[i] cy[i])→Sh.ig (shNL (fun cW q j=>lG d (pp k.S (j*8)) cW q) j bc cy)≤d:=by
   intro bc
   induction bc with
   |nil=>intro cy j _;cases cy<;>(show Sh.ig []≤d;rw[Sh.ig];omega)
   |cons cW bc aA=>
    intro cy j hw;cases cy with
    |nil=>show Sh.ig []≤d;rw[Sh.ig];omega
    |cons q cy=>
     rw[shNL,Sh.ig];have h1:=Wu d (ptr:=pp k.S (j*8)) (hw 0 (by simp) (by simp));have h2:=aA cy (j+1) fun i a c=>hw (i+1) (by simp;omega) (by simp;omega);exact Nat.max_le.2 ⟨h1,h2⟩
  have:=this k.kids p.sub 0 hw;omega
theorem l5.b1K{d:Nat}{k:dB}{p:Prf}{ptr:AV}(h:l5 d k p)(hf:p.sub.length<2^20):D0 (lG d ptr k p):=by
 cases d with
 |zero=>exact h.elim
 |succ d=>
  obtain⟨gM,⟨b4,dy,e0⟩,ft,n_⟩:=h;have ar:(lG (d+1) ptr k p).kids.length=p.sub.length:=Wp b4;refine⟨fun I=>?_,fun i hi=>?_,by omega⟩
  ·rw[ar,N2];by_cases hp:p.sub=[]
   ·rw[dy hp,hp];rfl
   ·rw[(e0 hp).2];rfl
  ·have Jb:i<p.sub.length:=by omega
   rw[N2,(e0 fun e=>by rw[e] at Jb;simp at Jb).2];have e:(lG (d+1) ptr k p).kids[i]=lG d (pp k.S (i*8)) (k.kids[i]'(by omega)) p.sub[i]:=by
    have:=Wq (F:=fun cW q j=>lG d (pp k.S (j*8)) cW q) (bc:=k.kids) (cy:=p.sub) (j:=0) hi (by omega) Jb;rw[hO] at this;exact this
   rw[e,Ja];have h3:Nat.blt i p.sub.length=true:=eu Jb;simp only[idxSlA,h3,decide_true,so,if_true,hO];rfl
theorem iv.jZ{U:af}{B bw:Nat}{l:List AV}(h:iv U B bw l)(ar:l.length=8):pX U (pp B bw) l:=by
 obtain⟨c,h1,h2⟩:=h;refine⟨rfl,fun off ad v av _=>⟨.p (some (B,bw+off)),rfl,jS h1 ?_⟩⟩;cases ad with
 |none=>
  obtain⟨r,e⟩:=BT av;have ab:off<8:=by
   have:=congrArg List.length e;rw[ng,fH] at this;omega
  show(c.drop (bw+off)).head? =some v;have h3:l[off]? =some v:=by
   have:=congrArg List.head? e;rw[vk] at this;exact this
  rw[vk,h2 off ab,h3]
 |some n=>
  obtain⟨e,hn⟩:=BU av;rw[ng] at hn;have SC:off+n≤8∨n=0:=by omega
  have e2:(c.drop (bw+off)).take n=(l.drop off).take n:=by
   apply wk;intro i;rw[GL,GL];split
   ·rename_i hi;rw[lL,lL,tS];exact h2 (off+i) (by omega)
   ·rfl
  show(let x:=(c.drop (bw+off)).take n;if x.length=n then some (AV.ag x) else none)=some v;rw[e2];have dn:((l.drop off).take n).length=n:=by rw[eL,ng];omega
  simp only[dn,if_true,e]
theorem iv.DY{U:af}{B bw:Nat}{l:List AV}{v:AV}(h:iv U B bw l)(ar:l.length=8)(av:l[6]? =some v)(ah:conf none v=true):yu U (pp B bw) v:=by
 have hn:=h.jZ ar;refine⟨hn.nz,hn.bu 6 none v ?_ ah⟩;show(l.drop 6).head? =some v;rw[vk,av]
structure wJ(L:mB)(seen:List Int):Prop where
 len:L.length=seen.length+1
 at_:∀n,look L n=(if n=0 then some (zI 0) else if n∈seen then some (ay (fj seen n)) else none)
 nz:(0:Int)∉seen
theorem Wv{l r:List Int}{n:Int}(h:n∈l):fj (l++r) n=fj l n:=by
 unfold fj;rw[if_pos h,if_pos (k6 _ h),F3,if_pos h]
theorem b1L{l:List Int}{n:Int}(h:n∉l):fj (l++[n]) n=l.length+1:=by
 unfold fj;rw[if_pos (by simp),F3,if_neg h,J6];omega
theorem wJ.push{L:mB}{seen:List Int}(h:wJ L seen){n:Int}(h0:n≠0)(hn:n∉seen)(c:Nat):wJ (setM L n (ay L.length) c) (seen++[n]):=by
 refine⟨?_,fun m=>?_,by simp[h.nz];exact fun e=>h0 e.symm⟩
 ·rw[VT,h.at_ n,if_neg h0,if_neg hn,h.len,cR];rfl
 ·rw[IS,h.at_ m];by_cases e:m=n
  ·subst e;rw[if_pos rfl,if_neg h0,if_pos (by simp),b1L hn,h.len]
  ·rw[if_neg e];by_cases cj:m=0
   ·rw[if_pos cj,if_pos cj]
   ·rw[if_neg cj,if_neg cj];by_cases hm:m∈seen
    ·rw[if_pos hm,if_pos (k6 _ hm),Wv hm]
    ·rw[if_neg hm,if_neg (by simp[hm,e])]
theorem N3{l:List Int}{n:Int}(h:(0:Int)∉l):(0:Int)∉dC l n:=by
 unfold dC;by_cases h0:n=0
 ·rw[decide_eq_false (show ¬n≠0 from fun h=>h h0)];exact h
 ·cases decide (n≠0)&& !decide (n∈l) with
  |false=>exact h
  |true=>simp only[cond_true,dE,d_];exact fun e=>e.elim h fun e=>h0 e.symm
theorem b1M{l:List Int}{n:Int}:∃r,dC l n=l++r:=by
 unfold dC;cases decide (n≠0)&& !decide (n∈l) with
 |false=>exact⟨[],(fV _).symm⟩
 |true=>exact⟨[n],rfl⟩
theorem Ww:∀(m:List Int) {l:List Int},∃r,m.foldl dC l=l++r
 |[],l=>⟨[],(fV _).symm⟩
 |n::m,l=>by
  obtain⟨r,h⟩:=b1M (l:=l) (n:=n);obtain⟨bs,h'⟩:=Ww m (l:=dC l n);exact⟨r++bs,by rw[nh,h',h,iw]⟩
theorem N4:∀(m:List Int) {l:List Int},(0:Int)∉l→(0:Int)∉m.foldl dC l
 |[],_,h=>h
 |n::m,_,h=>N4 m (N3 h)
theorem b1N{l:List Int}{n:Int}(h:n≠0):n∈dC l n:=by
 unfold dC;by_cases hn:n∈l
 ·rw[decide_eq_true h,decide_eq_true hn];exact hn
 ·rw[decide_eq_true h,decide_eq_false hn];simp
theorem b1O{l:List Int}{n:Int}(h:(0:Int)∉l)(m:List Int):fj (m.foldl dC (dC l n)) n=fj (dC l n) n:=by
 by_cases h0:n=0
 ·subst h0;have a:=N4 m (N3 (n:=0) h);have c:=N3 (n:=0) h;unfold fj;rw[if_neg a,if_neg c]
 ·obtain⟨r,e⟩:=Ww m (l:=dC l n);rw[e];exact Wv (b1N h0)
section
variable {b:dW}{K:Nat→List AV→AV→Prop}
theorem Wx(hh:cY (b.a4 K) wh MA){I:af}{cg bT aL:Nat}{L:mB}{seen:List Int}(aD:I.get cg=some (.cells [.m (some bT)]))(hm:I.get bT=some (.map (jH L) aL))(hr:wJ L seen)(ar:seen.length<2^40)(n:Int):
  b9 (b.a4 K) 0 (.f (.func wh) [] [bo cg]) [zI n] I (fun r U=>r= .ok (ay (fj (dC seen n) n))∧(∃lu o4,U.get bT=some (.map (jH lu) o4)∧wJ lu (dC seen n))∧U.next=I.next∧∀i J,i≠bT→I.get i=some J→U.get i=some J):=by
 have bx:cg≠bT:=fun e=>by rw[e,hm] at aD;cases aD
 refine W.code hh.e hh.p hh.f rfl rfl rfl rfl fun z=>?_;have H:Has I [(cg,[.m (some bT)])]:=Has.nil.cons aD (by simp);refine ae ?_;refine W.AE hm rfl rfl rfl rfl ?_;rw[hr.at_ n];by_cases h0:n=0
 ·subst h0;refine ae ?_;refine W.AE hm rfl rfl rfl rfl ?_;rw[hr.at_ 0];refine ae ?_;have e:dC seen 0=seen:=rfl;rw[e];refine GoF.ret ⟨rfl,?_,⟨L,aL,hm,hr⟩,rfl,fun _ _ _ h=>h⟩;have:fj seen 0=0:=by unfold fj;rw[if_neg hr.nz]
  rw[this];rfl
 ·by_cases aj:n∈seen
  ·rw[if_neg h0,if_pos aj];refine ae ?_;refine W.AE hm rfl rfl rfl rfl ?_;rw[hr.at_ n,if_neg h0,if_pos aj];refine ae ?_;have e:dC seen n=seen:=by unfold dC;rw[decide_eq_true h0,decide_eq_true aj];rfl
   rw[e];exact GoF.ret ⟨rfl,rfl,⟨L,aL,hm,hr⟩,rfl,fun _ _ _ h=>h⟩
  ·rw[if_neg h0,if_neg aj];have e:dC seen n=seen++[n]:=by unfold dC;rw[decide_eq_true h0,decide_eq_false aj];rfl
   have hp:=hr.push h0 aj;rw[e];refine ae ?_;refine W.len rfl rfl rfl (by show(match I.get bT with|some (.map es _)=>some es.length|_=>none)=some L.length;rw[hm];show some (jH L).length=_;rw[aJ]) ?_;refine ae ?_;refine W.IT hm rfl rfl rfl rfl fun bG o4 eh dy bb=>?_;have mf:=bb _ _ bx aD;have H:Has bG [(cg,[.m (some bT)])]:=Has.nil.cons mf (by simp);refine ae ?_;refine W.AE dy rfl rfl rfl rfl ?_;rw[(hp aL).at_ n,if_neg h0,if_pos (by simp)];refine ae ?_;exact GoF.ret ⟨rfl,rfl,⟨_,o4,dy,hp aL⟩,eh,fun i J hi ab=>bb _ _ hi ab⟩
end
end
abbrev AU:=List (Nat ⊕ (AV×List AV))
def hZ(env:Env)(D:AU)(n:Nat)(c:bB)(f:Nat→AV)(I:af)(Q:AU→e5):Prop:=∀ai,jD D n f ai→fY env 0 none c ai I (fun x ai I=>∃gN,xW gN n (Q gN) x ai I)
section
variable {env:Env}{D gN:AU}{n:Nat}{f:Nat→AV}{I:af}{Q:AU→e5}
theorem hZ.Wy{c:bB}(h:bl env none D n c f I (Q D)):hZ env D n c f I Q:=fun ai bY=>(h ai bY).mono fun x ai I h=>⟨D,h⟩
theorem hZ.b1P{c:bB}(h:fM env D gN n c f I (Q gN)):hZ env D n c f I Q:=fun ai bY=>(h ai bY).mono fun x ai I h=>⟨gN,h⟩
theorem hZ.seq{a b:bB}(h:hZ env D n a f I (fun gN x f I=>match x with| .normal=>hZ env gN n b f I Q|x=>Q gN x f I)):hZ env D n (.seq a b) f I Q:=fun ai bY=>fY.seq ((h ai bY).mono fun x ai I ⟨gN,f,h1,h2⟩=>by
 cases x with
 |normal=>exact h2 ai h1
 |_=>exact⟨gN,f,h1,h2⟩)
theorem hZ.mZ{a b:bB}(h:bl env none D n a f I (fun x f I=>match x with| .normal=>hZ env D n b f I Q|x=>Q D x f I)):hZ env D n (.seq a b) f I Q:=hZ.seq (hZ.Wy h)
end
section
variable {env:Env}{I:af}{fn:Nat}{cz:ch}{body:bB}{first cap args:List AV}{R:dM→af→Prop}
def b1Q(rs:List (Nat×Option (Option Nat)))(R:dM→af→Prop)(gN:AU):e5:=fun x dq aq=>x= .ret∧((gN=[]∧∃v,qP aq dq rs=some v∧R (.ok v) aq)∨∃d,gN=[.inl d]∧aq.get d=some .g2∧∃v,qP (aq.set d .dead) dq rs=some v∧R (.ok v) (aq.set d .dead))
theorem W.b1R(e:env.ext fn=0)(hp:env.pure fn=false)(hf:env.funcs fn=some cz)(hb:cz.body=some body)
  (hn:(Nat.beq (first++args++cap).length cz.lP&&Nat.ble (first++args++cap).length cz.ntmps)=true) (au:dw (fun r=>Nat.blt r.1 cz.ntmps) cz.results=true)
  (h:∀z,hZ env [] cz.ntmps body (bC (W.ku 0 (first++args++cap)) z) I (b1Q cz.results R)):b9 env 0 (.f (.func fn) first cap) args I R:=by
 have hle:(first++args++cap).length≤cz.ntmps:=by
  simp only[cx] at hn;exact eV hn.2
 have cj:bC (W.ku 0 (first++args++cap)) (eS (first++args++cap))=eS (first++args++cap):=Da (W.Hd _ 0 fun j a e=>by show(first++args++cap).getD (0+j) dR=a;rw[hO,fU,e];rfl);refine b9.run e hp hf hb hn ((h (eS (first++args++cap)) _ (by rw[cj];exact z7 hle)).mono fun x c_ aq ⟨gN,dq,h1,h2,h3⟩=>?_);subst h2;rcases h3 with⟨rfl,v,aE,ba⟩|⟨d,rfl,h3,v,aE,ba⟩
 ·exact⟨.ok v,_,M0 h1 au aE,ba⟩
 ·exact⟨.ok v,_,U8 h1 h3 au aE,ba⟩
end
theorem Jc{c:List AV}{off:Nat}{v:AV}(h:off<c.length)(av:v.cells=[v]):storeCells c off v.cells=some (c.set off v):=by
 unfold storeCells;rw[av,if_pos (eu (by simp;omega)),Tv,if_pos h];rfl
theorem iv.aY{U a5:af}{B bw:Nat}{k:dB}{p:Prf}{c:List AV}{g:Int→Int}{n:Int}(h:iv U B bw (eJ k (oo id p)))(hg:U.get B=some (.cells c))(aj:a5.get B=some (.cells (c.set (bw+5) (zI n))))(hn:n=g p.aY):iv a5 B bw (eJ k (oo g p)):=by
 obtain⟨aQ,h1,h2⟩:=h;rw[hg] at h1;cases h1;refine⟨_,aj,fun t ht=>?_⟩;rw[GM];have bZ:bw+5<c.length:=by
  have:=h2 5 (by omega);have e:(eJ k (oo id p))[5]? =some (zI p.aY):=by cases p;rfl
  rw[e] at this;exact(ki.1 this).1
 by_cases kq:t=5
 ·subst kq;rw[if_pos rfl,if_pos bZ,hn];cases p;rfl
 ·rw[if_neg (by omega),h2 t ht];obtain⟨r,F,l,s,m⟩:=p
  match t,ht,kq with
  |0,_,_=>rfl
  |1,_,_=>rfl
  |2,_,_=>rfl
  |3,_,_=>rfl
  |4,_,_=>rfl
  |6,_,_=>rfl
  |7,_,_=>rfl
theorem iv.Jd{U a5:af}{B bw off:Nat}{l c:List AV}{v:AV}(h:iv U B bw l)(hg:U.get B=some (.cells c))(aj:a5.get B=some (.cells (c.set off v)))(ab:off<bw∨bw+8≤off):iv a5 B bw l:=by
 obtain⟨aQ,h1,h2⟩:=h;rw[hg] at h1;cases h1;exact⟨_,aj,fun t ht=>by rw[GM,if_neg (by omega)];exact h2 t ht⟩
theorem iv.aF{U a5:af}{B bw:Nat}{l:List AV}(h:iv U B bw l)(k:∀c,U.get B=some (.cells c)→a5.get B=some (.cells c)):iv a5 B bw l:=let⟨c,h1,h2⟩:=h;⟨c,k _ h1,h2⟩
theorem iv.Je{U:af}{B bw:Nat}{k:dB}{p:Prf}(h:iv U B bw (eJ k p)):∃c,U.get B=some (.cells c)∧bw+5<c.length∧fI none (c.drop (bw+5))=some (zI p.aY)∧fI none (c.drop (bw+7))=some k.b6∧fI none (c.drop (bw+0))=some (.s p.rule)∧fI none (c.drop (bw+6))=some k.ey:=by
 obtain⟨c,h1,h2⟩:=h;have c6:=h2 5 (by omega);have gC:=h2 7 (by omega);have c8:=h2 0 (by omega);have dL:=h2 6 (by omega);refine⟨c,h1,(ki.1 c6).1,?_,?_,?_,?_⟩<;>(show(c.drop _).head? =_;rw[vk])<;>assumption
theorem l4.AW{I U:af}{k:dB}{p:Prf}(h:l4 I k p)(aD:∀i c,k.E≤i→i<k.hi→I.get i=some (.cells c)→U.get i=some (.cells c)):l4 U k p:=
 ⟨h.ak.aF fun i c hi=>aD i c (h.own i hi).1 (h.own i hi).2,h.nl,h.cap,h.len,h.own,fun j a c=>⟨(h.each j a c).1.aF fun i aQ hi=>aD i aQ ((h.each j a c).2.2.2 i hi).1 ((h.each j a c).2.2.2 i hi).2.1,(h.each j a c).2⟩,h.yB⟩
theorem Wz{U a5:af}{B S off n:Nat}{c:List AV}{v:AV}(hg:U.get B=some (.cells c))(aj:a5.get B=some (.cells (c.set off v)))(aD:∀c,S≠B→U.get S=some (.cells c)→a5.get S=some (.cells c))(h:∃c,U.get S=some (.cells c)∧c.length=n):∃c,a5.get S=some (.cells c)∧c.length=n:=by
 obtain⟨aQ,h1,h2⟩:=h;by_cases e:S=B
 ·subst e;rw[hg] at h1;cases h1;exact⟨_,aj,by rw[uh];exact h2⟩
 ·exact⟨aQ,aD _ e h1,h2⟩
theorem tx.b1S{U a5:af}{e m:Nat}{x:o5}{f:Int→Int}(h:tx U e x f)(aD:∀J c,J<m→U.get J=some (.cells c)→a5.get J=some (.cells c))(c4:x.B<m)(hi:x.k.hi≤m)(hle:x.k.mD≤x.k.S∧x.k.S≤x.k.E∧x.k.E≤x.k.hi)(c2:x.p.sub≠[]→x.k.S<x.k.E):tx a5 e x f:=
 ⟨h.yD.aF fun c=>aD _ c c4,fF.aF _ (fun i c _ h2=>aD i c (by omega)) h.r4,fun hp=>let⟨c,h1,h2⟩:=h.sub hp;⟨c,aD _ _ (by have:=c2 hp;omega) h1,h2⟩,h.aG.AW fun i c _ h2=>aD i c (by omega)⟩
theorem tx.Jd{U a5:af}{e:Nat}{x y:o5}{f:Int→Int}{c:List AV}{v:AV}(h:tx U e y f)(c2:Sep x y∨Sep y x)(c4:U.get x.B=some (.cells c))(WA:a5.get x.B=some (.cells (c.set (x.bw+5) v)))(aD:∀J c,J≠x.B→¬l6 x J→U.get J=some (.cells c)→a5.get J=some (.cells c)):tx a5 e y f:=by
 have s1:(∀J,¬(l6 x J∧l6 y J))∧¬l6 y x.B∧¬l6 x y.B∧(x.B≠y.B∨x.bw+8≤y.bw∨y.bw+8≤x.bw)∧(y.p.sub≠[]→¬l6 x y.k.S):=by
  rcases c2 with⟨aP,a0,bF,bU,c6,dL⟩|⟨aP,a0,bF,bU,c6,dL⟩
  ·exact⟨aP,a0,bF,bU,dL⟩
  ·exact⟨fun J h=>aP J ⟨h.2,h.1⟩,bF,a0,by omega,c6⟩
 obtain⟨aP,a0,bF,bU,c6⟩:=s1;have jP:∀J c,l6 y J→U.get J=some (.cells c)→a5.get J=some (.cells c):=fun J c ab=>aD J c (fun e=>a0 (e▸ab)) fun h=>aP J ⟨h,ab⟩;refine⟨?_,fF.aF _ (fun i c h1 h2=>jP i c (.inl ⟨h1,h2⟩)) h.r4,fun hp=>Wz c4 WA (fun c bx=>aD _ c bx (c6 hp)) (h.sub hp),h.aG.AW fun i c h1 h2=>jP i c (.inr ⟨h1,h2⟩)⟩;by_cases Ep:y.B=x.B
 ·have:=h.yD;rw[Ep] at this ⊢;exact this.Jd c4 WA (by rcases bU with h|h|h;exact absurd Ep.symm h;omega;omega)
 ·exact h.yD.aF fun c=>aD _ c Ep bF
def qX(f:Int→Int)(j:Nat)(p:Prf):Prf:=.mk p.rule p.form p.aY p.bm (some ((p.aG.take j).map (fun x=>x.map fun y=>y.map f)++p.aG.drop j))
theorem AX(f:Int→Int)(j:Nat)(p:Prf):(qX f j p).aG=(p.aG.take j).map (fun x=>x.map fun y=>y.map f)++p.aG.drop j:=rfl
theorem yE{f:Int→Int}{j:Nat}{p:Prf}(az:j≤p.aG.length):(qX f j p).aG.length=p.aG.length:=by
 rw[AX,cR,aJ,eL,ng];omega
theorem Jf{f:Int→Int}{j i:Nat}{p:Prf}(az:j≤p.aG.length)(hi:i<p.aG.length)(h:i<(qX f j p).aG.length):(qX f j p).aG[i]=if i<j then p.aG[i].map (fun y=>y.map f) else p.aG[i]:=by
 have:(qX f j p).aG[i]? =some (if i<j then p.aG[i].map (fun y=>y.map f) else p.aG[i]):=by
  rw[AX];by_cases c:i<j
  ·rw[Tu (by rw[aJ,eL];omega),kV,GL,if_pos c,a9 hi,if_pos c];rfl
  ·rw[L6 (by rw[aJ,eL];omega),aJ,eL,lL,if_neg c,← a9 hi]
   congr 1;omega
 rw[a9 h] at this;exact ia this
theorem l4.step{U a5:af}{k:dB}{p:Prf}{f:Int→Int}{j:Nat}(h:l4 U k (qX f j p))(az:j<p.aG.length)(bS:j<k.eF.length)(aj:h9 a5 none k.eF[j] (((p.aG[j].getD []).map f).map zI))(aD:∀J c,k.eF[j].bn ≠some J→U.get J=some (.cells c)→a5.get J=some (.cells c)):l4 a5 k (qX f (j+1) p):=by
 have ar:=h.len;rw[yE (by omega)] at ar;refine⟨h.ak.aF fun i c hi=>aD i c fun e=>?_,h.nl,h.cap,by rw[yE (by omega)];exact ar,h.own,fun i a c=>?_,h.yB⟩
 ·exact(((h.each j bS (by rw[yE (by omega)];exact az)).2.2.2 _ e).2.2 hi)
 ·have hi:i<p.aG.length:=by omega
  have hx:=h.each i a (by rw[yE (by omega)];exact hi);simp only[Jf (f:=f) (j:=j) (p:=p) (by omega) hi] at hx;simp only[Jf (f:=f) (j:=j+1) (p:=p) (by omega) hi];by_cases e:i=j
  ·subst e;rw[if_neg (by omega)] at hx;rw[if_pos (by omega)];have aM:(p.aG[i].map fun y=>y.map f).getD []=(p.aG[i].getD []).map f:=by cases p.aG[i]<;>rfl
   rw[aM];exact⟨aj,fun h=>hx.2.1 (vi.1 h),hx.2.2⟩
  ·have:(i<j+1)↔i<j:=by omega
   simp only[this];refine⟨hx.1.aF fun J c ab=>aD J c fun e2=>?_,hx.2⟩;rcases GO e with h1|h1
   ·exact h.yB i j a bS h1 _ e2 ab
   ·exact h.yB j i bS a h1 _ ab e2
theorem iv.all{U:af}{B bw:Nat}{l:List AV}(h:iv U B bw l)(ar:l.length=8):∃c,U.get B=some (.cells c)∧fI (some 8) (c.drop bw)=some (.ag l):=by
 obtain⟨c,h1,h2⟩:=h;refine⟨c,h1,?_⟩;have e:(c.drop bw).take 8=l:=by
  apply wk;intro i;rw[GL];split
  ·rename_i hi;rw[lL];exact h2 i hi
  ·rw[q7 (by omega)]
 show(let x:=(c.drop bw).take 8;if x.length=8 then some (AV.ag x) else none)=_;rw[e];simp only[ar,if_true]
theorem Jg(l:List Int):(l.map zI).flatMap AV.cells=l.map zI:=by
 induction l with
 |nil=>rfl
 |cons n l aA=>rw[jK,eG,aA];rfl
theorem h9.gE{U:af}{v:AV}{l:List Int}(h:h9 U none v (l.map zI))(bx:l≠[])(ah:∀J l c,v= .ak J 0 l none c→c=none):∃J,v= .ak J 0 l.length none none∧U.get J=some (.cells (l.map zI)):=by
 have hx:=h.ex;have aj:=h.ak;generalize dj:l.map zI=xs at aj hx;cases aj with
 |nil=>exact absurd (vi.1 dj) bx
 |ak J cap _ rest hg dV aD=>
  subst dj;have:=hx J rfl;rw[Jg] at this;refine⟨J,?_,this⟩;have h2:=ah _ _ _ rfl;rw[h2,aJ]
theorem h9.WB{U:af}{J n:Nat}{l:List Int}(hn:n=l.length)(h:U.get J=some (.cells (l.map zI))):h9 U none (.ak J 0 n none none) (l.map zI):=by
 subst hn;have:=Sl.ak (I:=U) (ad:=none) J none (l.map zI) [] (by rw[fV,Jg];exact h) ys (.inl rfl);rw[aJ] at this;exact⟨this,fun b7 ab=>by cases ab;rw[Jg];exact h⟩
theorem Jh{J n t:Nat}(h:t<n):idxSlA none (.ak J 0 n none none) t=some (.p (some (J,t))):=by
 have h3:Nat.blt t n=true:=eu h;simp only[idxSlA,h3,decide_true,so,if_true,hO,shN,Nat.mul_one]
abbrev l7(f:Int→Int)(t:Nat)(l:List Int):List Int:=(l.take t).map f++l.drop t
theorem uW{f:Int→Int}{t:Nat}{l:List Int}:(l7 f t l).length=l.length:=by
 rw[cR,aJ,eL,ng];omega
theorem WC{f:Int→Int}{t:Nat}{l:List Int}(h:t<l.length):((l7 f t l).map zI)[t]? =some (zI l[t]):=by
 rw[kV,L6 (by rw[aJ,eL];omega),aJ,eL,lL];rw[show t+(t-min t l.length)=t from by omega,a9 h];rfl
theorem WD{f:Int→Int}{t:Nat}{l:List Int}(h:t<l.length):((l7 f t l).map zI).set t (zI (f l[t]))=(l7 f (t+1) l).map zI:=by
 rw[←List.map_set]
 congr 1
 unfold l7;have e:((l.take t).map f).length=t:=by rw[aJ,eL];omega
 rw[Qp _ _ (by omega),e,kj,sk h,Qr,fG h,gK,iw];rfl
section
attribute [local irreducible] bL bl e6 eB b9
structure WE(b:dW)(K:Nat→List AV→AV→Prop):Prop where
 h:cY (b.a4 K) Dz kv
 s:cY (b.a4 K) ye Af
 s1:cY (b.a4 K) td x2
 Dp:cY (b.a4 K) uJ wb
 yn:cY (b.a4 K) wh MA
 cp:AN b K
 ci:cY (b.a4 K) Aj Dv
 aL:cY (b.a4 K) DA Hn
 Er:b.ext rV=0∧b.pure rV=true
 z4:b.ext tc=0∧b.pure tc=true
abbrev kS(p:Prf)(n:Int):Int:=(fj (iK p []) n:Int)
theorem nH.pre{e:Nat}:∀(d:Nat) {p:Prf},nH e d p→∀x∈p.pre,x.sub.length<2^20∧x.aG.length<2^20∧∀l∈x.aG,(l.getD []).length<2^40
 |0,_,h=>h.elim
 |d+1,p,⟨h1,h2,h3,aE,ba⟩=>fun x hx=>by
  rw[Prf.gB] at hx;rcases cH.1 hx with rfl|hx
  ·exact⟨h2,h3,aE⟩
  ·obtain⟨q,hq,hx⟩:=gP.1 hx;exact nH.pre d (ba q hq) x hx
section
variable {b:dW}{K:Nat→List AV→AV→Prop}
theorem b1T(hfn:∀g aR r bs,K g aR r→K g aR bs→r=bs)(bD:WE b K){e d:Nat}(p:Prf)(hp:nH e d p)(J:Bool)(qx:∀U,e7 U (b.aV+1000) e d p (prC J p))(r3:∀U,bh U (b.aV+1000) (.ag (prC J p))=some (.ag (prC true p)))(b1U:K rV [.ag (prC true p)] (.b (dH p)))(IZ:K tc [.ag (prC true p)] (.b (dh p)))
  (hA:(bN p).length<2^40) (au:d<2^20) (I:af):b9 (b.a4 K) 0 (.f (.func Dz) [] []) [.ag (prC J p)] I (fun r U=>b2 I U∧
   ((dH p=false∧r= .ok (.bJ [.ag dm,ay 5]))∨(dH p=true∧(dh p&&decide ((iK p []).length≤999))=false∧r= .ok (.bJ [.ag dm,ay 2]))∨
    (dH p=true∧(dh p&&decide ((iK p []).length≤999))=true∧∃k,r= .ok (.bJ [.ag (eJ k (rnP (kS p) p)),ay 0])∧fv U e d k (rnP (kS p) p)∧I.next≤k.aK∧k.hi≤U.next))):=by
 refine W.b1R bD.h.e bD.h.p bD.h.f rfl rfl rfl fun z=>?_;have H:Has I []:=Has.nil;generalize hq:I.next=q;refine hZ.mZ ?_;refine ae ?_;refine W.en (c:=prC J p) H hq rfl rfl rfl (dQ J p).1 (dQ J p).2.1 fun b1 cG H bE=>?_;refine ae ?_;refine W.bN (c:=dm) H cG rfl rfl rfl fun bd n2 H br=>?_;refine ae ?_;refine hZ.mZ ?_;refine ae ?_;refine W.cg hfn bD.Er b1U rfl rfl rfl (gO (r3 _)) ?_;refine ae ?_;cases hY:dH p with
 |false=>
  refine ae ?_;refine W.st (aQ:=dm) H 0 rfl rfl rfl rfl rfl rfl fun bG eh H bb=>?_;refine ae ?_;exact GoF.ret ⟨rfl,.inl ⟨rfl,_,jV (fR rfl (H.get _ (.head _)) rfl) (cI rfl),⟨by omega,fun i J ab=>bb _ _ (by have:=af.bW ab;omega) (br _ _ (bE _ _ ab))⟩,.inl ⟨rfl,rfl⟩⟩⟩
 |true=>
 refine ae ?_;show hZ _ _ _ _ _ _ _;refine hZ.mZ ?_;refine ae ?_;refine W.cg hfn bD.z4 IZ rfl rfl rfl (gO (r3 _)) ?_;refine ae ?_;cases c2:dh p with
 |false=>
  refine ae ?_;refine W.st (aQ:=dm) H 0 rfl rfl rfl rfl rfl rfl fun bG eh H bb=>?_;refine ae ?_;exact GoF.ret ⟨rfl,.inl ⟨rfl,_,jV (fR rfl (H.get _ (.head _)) rfl) (cI rfl),⟨by omega,fun i J ab=>bb _ _ (by have:=af.bW ab;omega) (br _ _ (bE _ _ ab))⟩,.inr (.inl ⟨rfl,rfl,rfl⟩)⟩⟩
 |true=>
 refine ae ?_;show hZ _ _ _ _ _ _ _;refine hZ.mZ ?_;refine ae ?_;refine W.Im H n2 rfl rfl fun bG eh H xK bb=>?_;refine W.IT (L:=[]) xK rfl rfl rfl rfl fun cA b1V gU b1W cm=>?_;have H:Has cA [(q+1,dm),(q,prC J p)]:=(Has.nil.cons (cm _ _ (by omega) (H.get _ (.tail _ (.head _)))) (by simp)).cons (cm _ _ (by omega) (H.get _ (.head _))) (by simp);refine ae ?_;refine W.mv (c:=[.m (some (q+2))]) H (by omega:cA.next=q+3) rfl rfl rfl rfl rfl rfl fun dk h7 H dN=>?_;refine ae ?_;show hZ _ _ _ _ _ _ _;refine hZ.mZ ?_;refine ae ?_;refine W.mv (c:=[.f (.func wh) [] [bo (q+3)]]) H h7 rfl rfl rfl rfl rfl rfl fun oh sQ H k7=>?_;refine ae ?_;show hZ _ _ _ _ _ _ _;refine hZ.mZ ?_;refine ae ?_;refine W.dX rfl rfl rfl (cloned_go bD.cp bD.ci bD.aL d p hp _ oh (qx _)) fun r fD ⟨k,eb,c4,gd,j9,jb⟩=>⟨_,eb,?_⟩
 have H:=H.aF jb.2;have NV:=jb.1;generalize yC:fD.next=gr;refine ae ?_;refine W.mv (c:=eJ k p) H yC rfl rfl rfl rfl rfl rfl fun g0 n6 H hs=>?_;refine ae ?_;show hZ _ _ _ _ _ _ _;refine hZ.seq ?_;refine hZ.mZ ?_;refine ae ?_;refine W.dX rfl rfl rfl (IE bD.s ⟨rfl,rfl⟩) fun v fk ⟨ao,WG,nu,yF⟩=>⟨_,ao,?_⟩
 have H:=H.aF yF.2;rw[n6] at WG nu;rw[n6];refine ae ?_;show hZ _ _ _ _ _ _ _;have b1X:fv fk e d k p:=fv.aF _ (fun x c _ _ ab=>yF.2 _ _ (hs _ _ ab)) c4;have b1Y:iv fk gr 0 (eJ k p):=⟨_,H.get _ (.head _),fun t ht=>by rw[hO]⟩
 have hW:=c4.Wm;have WH:=Wt d (B:=gr) (bw:=0) hW;have Es:=Wo d (B:=gr) (bw:=0) hW (.inr (by omega));have iV:=En d (B:=gr) (bw:=0) hW;have WI:=Ws d (B:=gr) (bw:=0) hW;have cL:=fun l=>Wr d (B:=gr) (bw:=0) (l:=l) hW;have b1Z:=fv.flat d b1X b1Y;generalize hr:nI d k p gr 0=N at *;have dJ:N.flatMap (fun x=>kN x.p)=bN p:=by
  unfold bN;rw[←WH,w3]
 have WJ:∀y∈(lG d (pp gr 0) k p).pre 0,∃x∈N,y.2=Eo x:=fun y aw=>by
  have:=sl (f:=(·.2)) aw;rw[cL] at this;obtain⟨x,hx,e⟩:=bQ.1 this;exact⟨x,hx,e.symm⟩
 have pY:∀x∈N,x.p.sub.length<2^20∧x.p.aG.length<2^20∧∀l∈x.p.aG,(l.getD []).length<2^40:=fun x hx=>nH.pre d hp x.p (by rw[←WH];exact sl hx);have WK:gr+2≤fk.next:=by omega
 refine hZ.b1P (gN:=[.inl (gr+2)]) ?_;refine fM.II ?_;refine fM.IF (k:=gr+2) bD.s1 bD.Dp (root:=lG d (pp gr 0) k p) (en:=gr+1) (fun i W U=>W=(fun c=>(k.aK≤c∧c<k.hi)∨c=gr∨c=q+2)∧(∀j x,N[j]? =some x→tx U e x (if j<i then kS p else id))∧
   (U.get (q+3)=some (.cells [.m (some (q+2))])∧U.get (q+4)=some (.cells [.f (.func wh) [] [bo (q+3)]])∧U.get (q+1)=some (.cells dm))∧(∃L aL,U.get (q+2)=some (.map (jH L) aL)∧wJ L (((N.take i).flatMap fun x=>kN x.p).foldl dC []))∧(∀j J,I.get j=some J→U.get j=some J)) (fun i W U=>False) (fun c=>(k.aK≤c∧c<k.hi)∨c=gr∨c=q+2) (by omega) rfl rfl rfl ?_ (by have:=Wu d (ptr:=pp gr 0) hW;omega) (by rw[Ja];exact WG) ?_ ?_ (fun i W U a5 h=>h.elim) ?_ ?_ ?_ ?_ (fun i W U h=>h.elim)
 ·intro y aw;obtain⟨x,hx,n0⟩:=WJ y aw;rw[n0];exact(WI x hx).b1K (pY x hx).1
 ·rintro i W U ⟨_,aZ,_⟩ y aw;obtain⟨x,hx,n0⟩:=WJ y aw;obtain⟨j,az,N5⟩:=gm hx;have e3:=aZ j x (by rw[a9 az,N5]);rw[n0,Ja,N2];have hc1:conf none x.k.ey=true:=by
   have:=WI x hx;cases WL:x.d with
   |zero=>rw[WL] at this;exact this.elim
   |succ dT=>
    rw[WL] at this;obtain⟨_,⟨_,dy,e0⟩,_⟩:=this;by_cases aj:x.p.sub=[]
    ·rw[dy aj];rfl
    ·rw[(e0 aj).2];rfl
  exact e3.yD.DY rfl rfl hc1
 ·rintro i W U a5 ⟨c8,aP,⟨a0,bF,bU⟩,⟨L,aL,c6,dL⟩,gC⟩ _ ew _;refine⟨c8,fun j x hx=>?_,⟨ew _ _ (by omega) a0,ew _ _ (by omega) bF,ew _ _ (by omega) bU⟩,⟨L,aL,ew _ _ (by omega) c6,dL⟩,fun j J ab=>ew _ _ (by have:=af.bW ab;omega) (gC _ _ ab)⟩;have na:=qb hx;obtain⟨cC,c0,ej⟩:=iV x na;exact(aP j x hx).b1S (m:=gr+2) (fun J c ab=>ew J _ ab) (by omega) (by omega) ⟨cC.2.2.1,cC.2.2.2.1,cC.2.2.2.2.1⟩ ej
 ·refine⟨rfl,fun j x hx=>?_,⟨H.get _ (.tail _ (.tail _ (.head _))),H.get _ (.tail _ (.head _)),?_⟩,?_,?_⟩
  ·rw[if_neg (by omega)];exact b1Z x (qb hx)
  ·exact H.get _ (.tail _ (.tail _ (.tail _ (.head _))))
  ·exact⟨_,b1V,yF.2 _ _ (hs _ _ (jb.2 _ _ (k7 _ _ (dN _ _ b1W)))),rfl,fun n=>(by show(if n=0 then some (zI 0) else none)=_;rfl),by simp⟩
  ·intro j J ab;have:=af.bW ab;exact yF.2 _ _ (hs _ _ (jb.2 _ _ (k7 _ _ (dN _ _ (cm _ _ (by omega) (bb _ _ (br _ _ (bE _ _ ab))))))))
 ·intro c ah;omega
 ·intro i V U v l s aj hC aZ NB xE ca;obtain⟨x,hx,IU⟩:∃x,N[i]? =some x∧s=Eo x:=by
   have:=congrArg (fun l=>l[i]?) (cL 0);simp only[kV,aj,wj] at this;cases hx:N[i]? with
   |none=>rw[hx] at this;cases this
   |some x=>rw[hx] at this;exact⟨x,rfl,ia this⟩
  have na:=qb hx;rw[IU,Ja];refine GoF.norm [(5,bo (q+4)),(27,v),(28,pp x.B x.bw)] ⟨rfl,rfl,rfl,trivial⟩ fun g=>?_;have H:Has U []:=Has.nil;refine ae ?_;refine⟨rfl,⟨o _,fun _ _ h=>h⟩,fun lE vy qW aZ=>?_⟩;obtain⟨c8,aP,⟨a0,bF,bU⟩,⟨L,aL,c6,dL⟩,gC⟩:=aZ;have AY:=aP i x hx;rw[if_neg (by omega)] at AY;obtain⟨k1,lb,b2a,t5,t7,_,_⟩:=AY.yD.Je;have N6:(oo id x.p).aY=x.p.aY:=by cases x.p;rfl
  rw[N6] at t5;obtain⟨cC,c0,ej⟩:=iV x na;have c3s:x.B=gr∨(k.aK≤x.B∧x.B<k.hi):=c0.imp And.left id;have H:Has lE [(q+4,[.f (.func wh) [] [bo (q+3)]])]:=Has.nil.cons bF (by simp)
  -- qg labels ahead of this step,and behind
  have N7:bN p=(N.take i).flatMap (fun x=>kN x.p)++(kN x.p++(N.drop (i+1)).flatMap fun x=>kN x.p):=by
   rw[←dJ];conv=>lhs;rw[←nf i N]
   obtain⟨hi,b2b⟩:=ki.1 hx;rw[sk hi,b2b,il,eG]
  generalize b2c:(N.take i).flatMap (fun x=>kN x.p)=tz at dL N7;have name:∀(gd:List Int) (n:Int) (j9:List Int),bN p=gd++n::j9→(gd.foldl dC []).length<2^40∧(fj (dC (gd.foldl dC []) n) n:Int)=kS p n:=fun gd n j9 ar=>by
   have h1:=Ax gd [];have h2:=congrArg List.length ar;rw[cR,fH] at h2;simp only[lx] at h1;refine⟨by omega,?_⟩;show _=((fj ((bN p).foldl dC []) n:Nat):Int);rw[ar,kW,nh,b1O (N4 gd (by simp))]
  have rY:=name tz x.p.aY _ N7;refine ae ?_;refine W.kf rfl rfl rfl (jS lb t5) ?_;refine ae ?_;refine W.dX rfl rfl rfl (Wx bD.yn a0 c6 dL rY.1 x.p.aY) fun r bd ⟨dA,⟨oc,b2d,g8,uX⟩,c3t,WM⟩=>⟨_,dA,?_⟩
  rw[show ay (fj (dC (List.foldl dC [] tz) x.p.aY) x.p.aY)=zI (kS p x.p.aY) from congrArg zI rY.2];have N8:x.B≠q+2:=by omega
  have Et:=WM _ _ N8 lb;have H:Has bd [(x.B,k1)]:=Has.nil.cons Et (by simp);refine ae ?_;refine W.st (c:=k1) (aQ:=k1.set (x.bw+5) (zI (kS p x.p.aY))) H 0 rfl rfl rfl rfl rfl (Jc b2a rfl) fun bG c3u H WN=>?_;have Ji:=H.get _ (.head _);have Eu:iv bG x.B x.bw (eJ x.k (oo (kS p) x.p)):=AY.yD.aY lb Ji rfl;obtain⟨c3v,b2e,_,_,b2f,_,_⟩:=Eu.Je;have mf:∀J obj,J≠q+2→J≠x.B→lE.get J=some obj→bG.get J=some obj:=fun J obj h1 h2 ab=>WN _ _ h2 (WM _ _ h1 ab);have Ev:l4 bG x.k (qX (kS p) 0 x.p):=(AY.aG.AW fun J c h1 h2 ab=>mf _ _ (by omega) (fun e=>Es.2 x na (e▸ .inr ⟨h1,h2⟩)) ab).Em (by
   rw[AX,wH,F2,xS];have:(fun x:Option (List Int)=>x.map fun y=>y.map id)=id:=by
    funext x;cases x with
    |none=>rfl
    |some y=>show some (y.map id)=some y;rw[B_]
   rw[this,B_];rfl)
  have WO:x.k.eF.length=x.p.aG.length:=by have:=Ev.len;rwa[yE (by omega)] at this
  have rv:=pY x na;refine ae ?_;refine W.kf rfl rfl rfl (jS b2e b2f) ?_;refine ae ?_;refine W.len rfl rfl rfl (Ev.ak.ak.len (U:=bG)) ?_;refine ae ?_;rw[WO];show bl _ _ _ _ _ _ _ _;refine GoF.each x.p.aG.length (fun j f U=>l4 U x.k (qX (kS p) j x.p)∧(∃L aL,U.get (q+2)=some (.map (jH L) aL)∧wJ L ((tz++x.p.aY::(x.p.aG.take j).flatMap fun m=>m.getD []).foldl dC []))∧U.next=bG.next∧(∀J obj,J≠q+2→¬(x.k.E≤J∧J<x.k.hi)→bG.get J=some obj→U.get J=some obj)∧sat [(5,bo (q+4)),(41,x.k.b6)] f) (by omega)
   ⟨Ev,⟨oc,b2d,WN _ _ (by omega) g8,by rw[kW];exact uX⟩,rfl,fun _ _ _ _ h=>h,rfl,rfl,trivial⟩ rfl rfl (fun j g U az aZ hi hm=>?_) (fun g U aZ hi=>?_)
  ·obtain⟨tA,⟨N9,Ew,Jj,Ex⟩,sP,cg,aX⟩:=aZ;refine GoF.norm ((43,ay j)::(42,ay x.p.aG.length)::[(5,bo (q+4)),(41,x.k.b6)]) ⟨hi,hm,aX⟩ fun g=>?_;have bS:j<x.k.eF.length:=by omega
   obtain⟨fc,cQ,r1,N_,Jk,bM,_,Jl⟩:=tA.ak.ak.hc bS;have nJ:=tA.each j bS (by rw[yE (by omega)];exact az);simp only[Jf (f:=kS p) (j:=j) (p:=x.p) (by omega) az] at nJ;rw[if_neg (by omega)] at nJ;have AA:=rv.2.2 _ (aS az);have H:Has U []:=Has.nil;refine ae ?_;refine W.cw rfl rfl rfl rfl Jk ?_;refine ae ?_;refine W.kf rfl rfl rfl (jS bM Jl) ?_;refine ae ?_;refine W.len rfl rfl rfl (nJ.1.ak.len (U:=U)) ?_;refine ae ?_;rw[aJ];have b2g:(x.p.aG[j].getD []).length<2^40:=AA;have yG:∀J,x.k.eF[j].bn =some J→k.aK≤J∧J<k.hi:=fun J ab=>by have:=(nJ.2.2.2 J ab);omega
   have Jm:∃r2,bN p=(tz++x.p.aY::(x.p.aG.take j).flatMap fun m=>m.getD [])++(x.p.aG[j].getD []++r2):=by
    refine⟨(x.p.aG.drop (j+1)).flatMap (fun m=>m.getD [])++(N.drop (i+1)).flatMap fun x=>kN x.p,?_⟩;rw[N7];show tz++(x.p.aY::x.p.aG.flatMap (fun m=>m.getD [])++_)=_;have:x.p.aG.flatMap (fun m=>m.getD [])=(x.p.aG.take j).flatMap (fun m=>m.getD [])++(x.p.aG[j].getD []++(x.p.aG.drop (j+1)).flatMap (fun m=>m.getD [])):=by
     conv=>lhs;rw[←nf j x.p.aG,sk az]
     rw[il,eG]
    rw[this];simp only[iw,wF]
   obtain⟨r2,Jm⟩:=Jm;have mm:(tz++x.p.aY::(x.p.aG.take (j+1)).flatMap fun m=>m.getD [])=(tz++x.p.aY::(x.p.aG.take j).flatMap fun m=>m.getD [])++x.p.aG[j].getD []:=by
    rw[fG az,il,eG,y_,fV];simp only[iw,wF]
   have ih:=nJ.2.2.1;have tu:=fun(a5:af)=>tA.step (a5:=a5) az bS;generalize mC:(tz++x.p.aY::(x.p.aG.take j).flatMap fun m=>m.getD [])=Oa at Ex Jm mm;generalize ar:x.p.aG[j].getD []=fT at *;generalize uV:x.k.eF[j]=lw at *;show bl _ _ _ _ _ _ _ _;refine GoF.each fT.length (fun t f a5=>h9 a5 none lw ((l7 (kS p) t fT).map zI)∧(∃L aL,a5.get (q+2)=some (.map (jH L) aL)∧wJ L ((Oa++fT.take t).foldl dC []))∧a5.next=U.next∧(∀J obj,J≠q+2→lw.bn ≠some J→U.get J=some obj→a5.get J=some obj)∧sat [(5,bo (q+4)),(41,x.k.b6),(42,ay x.p.aG.length),(43,ay j),(10,lw),(47,lw)] f) (by omega)
    ⟨by show h9 U none lw ((([]:List Int).map (kS p)++fT).map zI);exact nJ.1,⟨N9,Ew,Jj,by rw[F2,fV];exact Ex⟩,rfl,fun _ _ _ _ h=>h,rfl,rfl,rfl,rfl,rfl,rfl,trivial⟩ rfl rfl (fun t g a5 ht aZ cS oJ=>?_) (fun g a5 aZ cS=>?_)
   ·obtain⟨s1,⟨c3w,c3x,b2h,b2i⟩,iq,ee,aX⟩:=aZ;refine GoF.norm ((49,ay t)::(48,ay fT.length)::[(5,bo (q+4)),(41,x.k.b6),(42,ay x.p.aG.length),(43,ay j),(10,lw),(47,lw)]) ⟨cS,oJ,aX⟩ fun g=>?_;obtain⟨yH,tB,yI⟩:=s1.gE (fun e=>by have:=congrArg List.length e;rw[uW] at this;exact absurd this (by show fT.length≠0;omega)) ih;rw[uW] at tB;have b2j:=yG yH (by rw[tB];rfl);have qC:=name (Oa++fT.take t) fT[t] (fT.drop (t+1)++r2) (by
     rw[Jm];conv=>lhs;rw[←nf t fT,sk ht]
     simp only[iw,wF])
    have e0:∀J obj,J≠q+2→(J<k.aK∨k.hi≤J)→lE.get J=some obj→J≠x.B→a5.get J=some obj:=fun J obj h1 h2 ab h3=>ee _ _ h1 (fun e=>by have:=yG _ e;omega) (cg _ _ h1 (by omega) (mf _ _ h1 h3 ab));have gc:=e0 (q+4) _ (by omega) (by omega) bF (by omega);have b2k:=e0 (q+3) _ (by omega) (by omega) a0 (by omega);have H:Has a5 [(q+4,[.f (.func wh) [] [bo (q+3)]])]:=Has.nil.cons gc (by simp);rw[tB];refine ae ?_;refine W.cw rfl rfl rfl rfl (Jh ht) ?_;refine ae ?_;refine W.kf (v:=zI fT[t]) rfl rfl rfl (jS yI (by show(List.drop t _).head? =_;rw[vk,WC ht])) ?_;refine ae ?_;refine W.dX rfl rfl rfl (Wx bD.yn b2k b2h b2i qC.1 fT[t]) fun r b2l ⟨dA,⟨b2m,b2n,b2o,b2p⟩,c3y,WQ⟩=>⟨_,dA,?_⟩
    rw[show ay (fj (dC (List.foldl dC [] (Oa++fT.take t)) fT[t]) fT[t])=zI (kS p fT[t]) from congrArg zI qC.2];have b2q:=WQ _ _ (by omega) yI;have H:Has b2l [(yH,(l7 (kS p) t fT).map zI)]:=Has.nil.cons b2q (by simp);refine ae ?_;refine W.cw rfl rfl rfl rfl (Jh ht) ?_;refine ae ?_;refine W.st (c:=(l7 (kS p) t fT).map zI) (aQ:=(l7 (kS p) (t+1) fT).map zI) H 0 rfl rfl rfl rfl rfl (by rw[Jc (by rw[aJ,uW];exact ht) rfl,WD ht]) fun c3z c3A H WR=>?_;refine ae ?_;refine⟨rfl,rfl,h9.WB (uW.symm) (H.get _ (.head _)),⟨b2m,b2n,WR _ _ (by omega) b2o,?_⟩,by omega,fun J obj h1 h2 ab=>WR _ _ (fun e=>h2 (by rw[e];rfl)) (WQ _ _ h1 (ee _ _ h1 (by rw[tB];exact h2) ab)),rfl,rfl,rfl,rfl,rfl,rfl,trivial⟩;rw[fG ht,← iw,kW];exact b2p
   ·obtain⟨s1,s2,iq,ee,aX⟩:=aZ;obtain⟨f5,f41,f42,f43,f10,f47,_⟩:=aX;rw[h_] at s2;refine⟨f43,f42,tu a5 ?_ fun J c h1 ab=>?_,by rw[mm];exact s2,by omega,fun J obj h1 h2 ab=>ee _ _ h1 (fun e=>h2 ?_) (cg _ _ h1 h2 ab),f5,f41,trivial⟩
    ·have uy:l7 (kS p) fT.length fT=fT.map (kS p):=by unfold l7;rw[h_,Bw,fV]
     rw[uy] at s1;exact s1
    ·exact ee _ _ (fun e=>by rw[e,Jj] at ab;cases ab) h1 ab
    ·have:=nJ.2.2.2 _ e;exact⟨this.1,this.2.1⟩
  ·obtain⟨tA,⟨N9,Ew,Jj,Ex⟩,sP,cg,aX⟩:=aZ;rw[h_] at Ex;refine .inl ⟨rfl,V,⟨c8,fun j y aw=>?_,⟨cg _ _ (by omega) (by omega) (mf _ _ (by omega) (by omega) a0),cg _ _ (by omega) (by omega) (mf _ _ (by omega) (by omega) bF),cg _ _ (by omega) (by omega) (mf _ _ (by omega) (by omega) bU)⟩,⟨N9,Ew,Jj,?_⟩,fun j J ab=>?_⟩,by omega,fun J obj ab Dj=>?_,fun c ah=>.inl ah⟩
   ·have Jn:U.get x.B=some (.cells (k1.set (x.bw+5) (zI (kS p x.p.aY)))):=cg _ _ N8 (fun h=>Es.2 x na (.inr h)) Ji;have WS:∀J c,J≠x.B→¬l6 x J→lE.get J=some (.cells c)→U.get J=some (.cells c):=fun J c h1 h2 ab=>by
     have WT:J≠q+2:=fun e=>by rw[e,c6] at ab;cases ab
     exact cg _ _ WT (fun h=>h2 (.inr h)) (mf _ _ WT h1 ab)
    by_cases e:j=i
    ·subst e;rw[hx] at aw;cases aw;rw[if_pos (by omega)];refine⟨Eu.aF fun c ab=>cg _ _ N8 (fun h=>Es.2 x na (.inr h)) ab,fF.aF _ (fun J c h1 h2 ab=>?_) AY.r4,fun hp=>Wz lb Jn (fun c h1 ab=>WS _ _ h1 (fun h=>?_) ab) (AY.sub hp),tA.Em ?_⟩
     ·have b2r:J≠x.B:=fun e=>Es.2 x na (e▸ .inl ⟨h1,h2⟩);exact cg _ _ (by omega) (by omega) (mf _ _ (by omega) b2r ab)
     ·have:=ej hp;rcases h with h|h<;>omega
     ·rw[AX,wH,h_,Bw,fV]
    ·have b2s:=aP j y aw;obtain⟨WU,ud⟩:=ki.1 aw;obtain⟨WV,kH⟩:=ki.1 hx;have CN:=yj.1 Es.1;have c2:Sep x y∨Sep y x:=by
      rcases GO e with h|h
      ·exact .inr (ud▸kH▸CN j i WU WV h)
      ·exact .inl (ud▸kH▸CN i j WV WU h)
     have:=b2s.Jd c2 lb Jn WS;have e2:(j<i+1)↔j<i:=by omega
     simp only[e2];exact this
   ·have dn:(N.take (i+1)).flatMap (fun x=>kN x.p)=tz++x.p.aY::x.p.aG.flatMap fun m=>m.getD []:=by
     rw[GK,hx,il,b2c];show tz++(kN x.p++[])=_;rw[fV];rfl
    rw[dn];exact Ex
   ·have:=af.bW ab;exact cg _ _ (by omega) (by omega) (mf _ _ (by omega) (by omega) (gC _ _ ab))
   ·rw[c8] at ab;have ab:¬((k.aK≤J∧J<k.hi)∨J=gr∨J=q+2):=ab;exact cg _ _ (by omega) (by omega) (mf _ _ (by omega) (by omega) Dj)
 ·rintro V U ⟨c8,aP,⟨a0,bF,bU⟩,⟨L,aL,c6,dL⟩,gC⟩ kR mm ca;have hlen:((lG d (pp gr 0) k p).pre 0).length=N.length:=by
   have:=congrArg List.length (cL 0);rwa[aJ,aJ] at this
  rw[hlen] at aP dL;rw[h_,dJ] at dL;have e3:∀x∈N,tx U e x (kS p):=fun x hx=>by
   obtain⟨j,az,N5⟩:=gm hx;have:=aP j x (by rw[a9 az,N5]);rwa[if_pos az] at this
  rw[←hr] at e3;obtain⟨b2t,b2u⟩:=fv.Wn d hW e3;have AA:=dL.len;have k9:((bN p).foldl dC []).length≤(bN p).length:=by have:=Ax (bN p) [];simpa using this
  have WW:(iK p []).length=((bN p).foldl dC []).length:=rfl;generalize hl0:((bN p).foldl dC []).length=vS at *;refine⟨.inl rfl,?_⟩;have H:Has U [(q+3,[.m (some (q+2))]),(q+1,dm)]:=(Has.nil.cons bU (by simp)).cons a0 (by simp);refine hZ.mZ ?_;refine GoF.norm [(2,bo (q+1)),(4,bo (q+3)),(6,bo gr)] ⟨rfl,rfl,rfl,trivial⟩ fun g=>?_;refine ae ?_;refine W.len rfl rfl rfl (by show(match U.get (q+2) with|some (.map es _)=>some es.length|_=>none)=some (vS+1);rw[c6];show some (jH L).length=_;rw[aJ,AA]) ?_;refine ae ?_;by_cases x0:999<vS
  ·refine ae ?_;refine W.st (aQ:=dm) H 1 rfl rfl rfl rfl rfl rfl fun jY nZ H kn=>?_;refine ae ?_;have hm:=kn _ _ (by omega) kR;have kQ:=j_ (b7:=.dead) hm;refine GoF.ret ⟨rfl,.inr ⟨_,rfl,hm,_,jV (fR rfl (kQ.2 _ _ (by omega) (H.get _ (.tail _ (.head _)))) rfl) (cI rfl),⟨?_,fun i J ab=>?_⟩,.inr (.inl ⟨rfl,by rw[WW,decide_eq_false (by omega)];rfl,rfl⟩)⟩⟩
   ·show I.next≤jY.next;omega
   ·have:=af.bW ab;exact kQ.2 _ _ (by omega) (kn _ _ (by omega) (gC _ _ ab))
  ·refine ae ?_;show hZ _ _ _ _ _ _ _;refine hZ.Wy ?_;refine ae ?_;obtain⟨k1,gc,ix⟩:=b2u.all rfl;refine W.kf rfl rfl rfl (jS gc ix) ?_;refine ae ?_;refine W.st (aQ:=eJ k (rnP (kS p) p)) H 1 rfl rfl rfl rfl rfl rfl fun jY nZ H kn=>?_;refine ae ?_;have hm:=kn _ _ (by omega) kR;have kQ:=j_ (b7:=.dead) hm;refine GoF.ret ⟨rfl,.inr ⟨_,rfl,hm,_,jV (fR rfl (kQ.2 _ _ (by omega) (H.get _ (.tail _ (.head _)))) rfl) (cI rfl),⟨?_,fun i J ab=>?_⟩,.inr (.inr ⟨rfl,by rw[WW,decide_eq_true (by omega)];rfl,k,rfl,?_,by omega,?_⟩)⟩⟩
   ·show I.next≤jY.next;omega
   ·have:=af.bW ab;exact kQ.2 _ _ (by omega) (kn _ _ (by omega) (gC _ _ ab))
   ·exact fv.aF _ (fun x c bM b4 ab=>kQ.2 _ _ (by omega) (kn _ _ (by omega) ab)) b2t
   ·show k.hi≤jY.next;omega
end
end
section
theorem b9.b2v{env:Env}{floor:Nat}{I:af}{g:Nat}{t:TypeId}{bT aL:Nat}{es:List (AV×AV×Nat)}{Q:dM→af→Prop}(he:env.ext g=8)(hm:I.get bT=some (.map es aL))(h:∀U:af,U.next=I.next+1→U.get I.next=some (.map es aL)→(∀i J,I.get i=some J→U.get i=some J)→Q (.ok (.it t (.m (some I.next)))) U):b9 env floor (.f (.func g) [] []) [.it t (.m (some bT))] I Q:=by
 refine dr.one (x:=(.ok (.it t (.m (some I.next))),I.push (.map es aL))) (fun F=>?_) (h _ rfl (af.md _) fun i J ab=>by rw[af.iB trivial _ (af.bW ab)];exact ab);show callF env (exec env F) floor g ([]++[.it t (.m (some bT))]++[]) I=_;rw[yi,fV];have aj:mapO (bh I env.aV) [.it t (.m (some bT))]=none:=by
  have:bh I env.aV (.it t (.m (some bT)))=none:=by
   cases hf:env.aV with
   |zero=>rfl
   |succ n=>
    show(match bh I n (.m (some bT)) with|none=>none|some v=>some (AV.it t v))=none;have:bh I n (.m (some bT))=none:=by cases n<;>rfl
    rw[this]
  rw[jR,this]
 unfold callF;rw[he];show(match extRow 8 [.it t (.m (some bT))] with|some v=>some [((.ok v:dM),I)]|none=>(match(match mapO (bh I env.aV) [.it t (.m (some bT))] with|some aR=>env.vo g aR|none=>none) with|some (v,os)=>some [(.ok (BH I.next v),sv I.next os I)]|none=>mclE 8 [.it t (.m (some bT))] I))=_;rw[aj];show(match I.get bT with|some (.map es clock)=>some [((.ok (.it t (.m (some I.next))):dM),I.push (.map es clock))]|_=>none)=_;rw[hm]
attribute [local irreducible] bL bl e6 eB b9
section
variable {b:dW}{K:Nat→List AV→AV→Prop}
theorem b2w(hh:cY (b.a4 K) H7 MG)(lr:b.ext MQ=8){I:af}{bT aL:Nat}{es:List (AV×AV×Nat)}(hm:I.get bT=some (.map es aL)):
  b9 (b.a4 K) 0 (.f (.func H7) [] []) [.m (some bT)] I (fun r U=>r= .ok (.m (some I.next))∧U.get I.next=some (.map es aL)∧U.next=I.next+1∧∀i J,I.get i=some J→U.get i=some J):=by
 refine W.code hh.e hh.p hh.f rfl rfl rfl rfl fun z=>?_;have H:Has I []:=Has.nil;refine ae ?_;refine W.dX (R:=fun r U=>r= .ok (.it 77 (.m (some I.next)))∧U.get I.next=some (.map es aL)∧U.next=I.next+1∧∀i J,I.get i=some J→U.get i=some J) rfl rfl rfl (b9.b2v lr hm fun U h1 h2 h3=>⟨rfl,h2,h1,h3⟩) fun r U ⟨dA,bM,cG,bE⟩=>⟨_,dA,?_⟩
 refine ae ?_;refine W.val (v:=.m (some I.next)) (aq:=U) rfl rfl rfl ?_;have H:Has U []:=Has.nil;refine ae ?_;exact GoF.ret ⟨rfl,rfl,bM,cG,bE⟩
end
end
section
attribute [local irreducible] bL bl e6 eB b9
section
def l8(r:List Nat)(ins:List Int)(l m:Int):Int:=cond (eqL r []&&decide (l∈ins)) (l+m) l
def nzs(l:List Int):List Int:=l.filter fun n=>!decide (n=0)
mutual
def raP(m:Int):Prf→List Int→Prf
 | .mk r F l none mk,ins=>.mk r F (l8 r ins l m) none (tw (gk m) mk)
 | .mk r F l (some s) mk,ins=>.mk r F (l8 r ins l m) (some (raPs m (mk.getD []) s ins)) (tw (gk m) mk)
def raPs(m:Int):List (Option (List Int))→List Prf→List Int→List Prf
 |_,[],_=>[]
 |mk,p::s,ins=>raP m p (ins++nzs ((mk.headD none).getD []))::raPs m mk.tail s ins
end
theorem WX(m:Int):∀(mk:List (Option (List Int))) (s:List Prf) (ins:List Int),mk.length=s.length→raPs m mk s ins=List.zipWith (fun x q=>raP m q (ins++nzs (x.getD []))) mk s
 |[],[],ins,_=>by rw[raPs];rfl
 |x::mk,p::s,ins,h=>by rw[raPs,K6,WX m mk s ins (by simpa using h)];rfl
theorem Ey(m:Int)(p:Prf)(ins:List Int)(h:p.aG.length=p.sub.length):raP m p ins= .mk p.rule p.form (l8 p.rule ins p.aY m) (p.bm.map fun s=>List.zipWith (fun x q=>raP m q (ins++nzs (x.getD []))) p.aG s) (tw (gk m) p.cv):=by
 obtain⟨r,F,l,s,mk⟩:=p;cases s with
 |none=>rw[raP];rfl
 |some s=>rw[raP,WX m (mk.getD []) s ins h];rfl
section
variable {m:Int}{p:Prf}{ins:List Int}(h:p.aG.length=p.sub.length)
include h
theorem Ob:(raP m p ins).rule=p.rule:=by rw[Ey m p ins h];rfl
theorem Ez:(raP m p ins).form=p.form:=by rw[Ey m p ins h];rfl
theorem Jo:(raP m p ins).aY=l8 p.rule ins p.aY m:=by rw[Ey m p ins h];rfl
theorem Jp:(raP m p ins).aG=(oo (gk m) p).aG:=by rw[Ey m p ins h];cases p;rfl
theorem EA:(raP m p ins).sub=List.zipWith (fun x q=>raP m q (ins++nzs (x.getD []))) p.aG p.sub:=by
 rw[Ey m p ins h];obtain⟨r,F,l,s,mk⟩:=p;cases s with
 |none=>
  show[]=List.zipWith _ (mk.getD []) [];rw[BA]
 |some s=>rfl
theorem Oc:(raP m p ins).sub.length=p.sub.length:=by rw[EA h,vl,h,Nat.min_self]
theorem Od{j:Nat}(az:j<p.sub.length)(hm:j<p.aG.length)(ar:j<(raP m p ins).sub.length):(raP m p ins).sub[j]=raP m p.sub[j] (ins++nzs (p.aG[j].getD [])):=by
 simp only[EA h,zb]
theorem Oe:bN (raP m p ins)=(l8 p.rule ins p.aY m::p.aG.flatMap fun x=>(x.getD []).map (gk m))++(raP m p ins).sub.flatMap bN:=by
 unfold bN;rw[Prf.gB,eG,K5]
 congr 1
 show(raP m p ins).aY::(raP m p ins).aG.flatMap _=_;rw[Jo h,Jp h,wH,w3]
 congr 1
 congr 1
 funext x;cases x<;>rfl
end
def uY(L:mB)(ins:List Int):Prop:=∀n,look L n=(if n∈ins then some (.b true) else none)
theorem uY.nil:uY [] []:=fun n=>rfl
theorem uY.push{L:mB}{ins:List Int}(h:uY L ins)(x:Int)(c:Nat):uY (setM L x (.b true) c) (ins++[x]):=fun n=>by
 rw[IS,h n];by_cases hn:n=x
 ·subst hn;rw[if_pos rfl,if_pos (by simp)]
 ·rw[if_neg hn];by_cases aj:n∈ins
  ·rw[if_pos aj,if_pos (k6 _ aj)]
  ·rw[if_neg aj,if_neg (by simp[aj,hn])]
theorem WY{l:List Int}{n:Int}:nzs (l++[n])=if n=0 then nzs l else nzs l++[n]:=by
 unfold nzs;rw[L7];by_cases h:n=0
 ·rw[if_pos h,h];simp
 ·rw[if_neg h];simp[h]
structure WZ(b:dW)(K:Nat→List AV→AV→Prop):Prop where
 h:cY (b.a4 K) MO UG
 Ms:cY (b.a4 K) H7 MG
 lr:b.ext MQ=8
section
variable {b:dW}{K:Nat→List AV→AV→Prop}
theorem W0(bD:WZ b K){e:Nat}{m:Int}(qK:0≤m)(Of:m≤999):∀(d:Nat) (p:Prf),nH e d p→(∀x∈p.pre,x.aG.length=x.sub.length∧∀n∈kN x,0≤n∧n≤999)→∀(k:dB) (B bw bT aL:Nat) (L:mB) (ins:List Int) (I:af),fv I e d k p→iv I B bw (eJ k p)→(B<k.aK∨k.hi≤B)→I.get bT=some (.map (jH L) aL)→uY L ins→(bT<k.aK∨k.hi≤bT)→k.hi≤I.next→
  b9 (b.a4 K) 0 (.f (.func MO) [] []) [pp B bw,.m (some bT),zI m] I (fun r U=>∃ok,r= .ok (.b ok)∧I.next≤U.next∧(∀J obj,(J<k.aK∨k.hi≤J)→J≠B→I.get J=some obj→U.get J=some obj)∧(∃c,I.get B=some (.cells c)∧U.get B=some (.cells (c.set (bw+5) (zI (l8 p.rule ins p.aY m)))))∧
   ((ok=true∧(∀n∈bN (raP m p ins),n≤999)∧fv U e d k (raP m p ins))∨(ok=false∧∃n∈bN (raP m p ins),999<n)))
 |0,_,h,_,_,_,_,_,_,_,_,_,_,_,_,_,_,_,_=>h.elim
 |d+1,p,⟨s1,s2,iq,ee,mE⟩,cL,k,B,bw,bT,aL,L,ins,I,W1,W2,Jq,AG,W3,b2x,me=>by
  have aA:=W0 bD (e:=e) qK Of d;have b2y:=W1;obtain⟨h1,h2,⟨ba,cr,de⟩,fi,hD,ij⟩:=b2y;have hle:=W1.le;obtain⟨o6,W4⟩:=cL p (by rw[Prf.gB];exact .head _);have Og:=W4 p.aY (.head _);obtain⟨c,lb,bZ,t5,t7,t0,t6⟩:=W2.Je;refine W.code bD.h.e bD.h.p bD.h.f rfl rfl rfl rfl fun z=>?_;have H:Has I []:=Has.nil;refine GoF.seq (W.rg ?_);refine W.val (v:=.b false) (aq:=I) rfl rfl rfl ?_;refine W.nil ?_;show bl _ _ _ _ _ _ _ _;refine GoF.seq ?_;have W5:c.set (bw+5) (zI p.aY)=c:=by
   apply wk;intro i;rw[GM];by_cases e:bw+5=i
   ·subst e;rw[if_pos rfl,if_pos bZ];have:(c.drop (bw+5)).head? =some (zI p.aY):=t5;rw[vk] at this;exact this.symm
   ·rw[if_neg e]
  refine W.M1 (α:=Unit) (fun _=>[(0,pp B bw),(1,.m (some bT)),(2,zI m)]) (fun _ U=>U.next=I.next∧U.get B=some (.cells (c.set (bw+5) (zI (l8 p.rule ins p.aY m))))∧∀J obj,J≠B→I.get J=some obj→U.get J=some obj) ?_ ?_
  ·refine ae ?_;refine W.kf rfl rfl rfl (jS lb t0) ?_;refine ae ?_;refine W.bin (v:=.b (eqL p.rule [])) rfl rfl rfl rfl rfl ?_;cases al:eqL p.rule [] with
   |false=>
    refine ae ?_;have e:l8 p.rule ins p.aY m=p.aY:=by unfold l8;rw[al];rfl
    exact⟨rfl,(),⟨rfl,by rw[e,W5];exact lb,fun _ _ _ h=>h⟩,rfl,rfl,rfl,trivial⟩
   |true=>
    refine ae ?_;refine W.kf rfl rfl rfl (jS lb t5) ?_;refine W.AE AG rfl rfl rfl rfl ?_;have xO:v2 false ((look L p.aY).getD (.b false)) (look L p.aY).isSome= .b (decide (p.aY∈ins)):=by
     rw[W3 p.aY];by_cases hx:p.aY∈ins
     ·rw[if_pos hx,decide_eq_true hx];rfl
     ·rw[if_neg hx,decide_eq_false hx];rfl
    rw[xO];cases hx:decide (p.aY∈ins) with
    |false=>
     refine ae ?_;have e:l8 p.rule ins p.aY m=p.aY:=by unfold l8;rw[al,hx];rfl
     exact⟨rfl,(),⟨rfl,by rw[e,W5];exact lb,fun _ _ _ h=>h⟩,rfl,rfl,rfl,trivial⟩
    |true=>
     refine ae ?_;refine W.kf rfl rfl rfl (jS lb t5) ?_;refine ae ?_;refine W.bin rfl rfl rfl rfl (DV Og.1 qK (by omega)) ?_;have H:Has I [(B,c)]:=Has.nil.cons lb (by simp);refine ae ?_;refine W.st (c:=c) (aQ:=c.set (bw+5) (zI (p.aY+m))) H 0 rfl rfl rfl rfl rfl (Jc bZ rfl) fun b1 cG H bE=>?_;refine ae ?_;have e:l8 p.rule ins p.aY m=p.aY+m:=by unfold l8;rw[al,hx];rfl
     exact⟨rfl,(),⟨cG,by rw[e];exact H.get _ (.head _),bE⟩,rfl,rfl,rfl,trivial⟩
  rintro _ g b1 ⟨cG,tC,bE⟩;generalize Jr:l8 p.rule ins p.aY m=AZ at tC ⊢;have r9:iv b1 B bw (eJ k (oo (fun _=>AZ) p)):=iv.aY (g:=fun _=>AZ) (by rw[I_];exact W2) lb tC rfl;obtain⟨cQ,W6,SP,t51,t71,_,t61⟩:=r9.Je;rw[tC] at W6;cases W6;have N6:(oo (fun _=>AZ) p).aY=AZ:=by cases p;rfl
  rw[N6] at t51;have H:Has b1 []:=Has.nil;refine ae ?_;refine W.kf rfl rfl rfl (jS tC t51) ?_;refine ae ?_;refine W.bin rfl rfl rfl rfl DQ ?_;by_cases x0:AZ > 999
  ·rw[decide_eq_true x0];refine ae ?_;refine GoF.ret ⟨rfl,false,rfl,by omega,fun J obj _ h ab=>bE J obj h ab,⟨c,lb,tC⟩,.inr ⟨rfl,AZ,?_,x0⟩⟩;rw[Oe o6,Jr];exact k6 _ (gz ..)
  rw[decide_eq_false x0];refine ae ?_;refine W.kf rfl rfl rfl (jS tC t61) ?_;refine ae ?_;have b2z:∀U,lenA U 1 k.ey=some p.sub.length:=fun U=>by
   by_cases hp:p.sub=[]
   ·rw[cr hp,hp];rfl
   ·rw[(de hp).2.1];rfl
  refine W.len rfl rfl rfl (b2z _) ?_;refine ae ?_;have c2:p.sub≠[]→k.S<k.E:=fun hp=>(de hp).1;have bM:∀J obj,J≠B→I.get J=some obj→b1.get J=some obj:=bE;have uZ:∀i (h:i<p.aG.length),p.aG[i].getD []=(p.aG.getD i none).getD []:=fun i h=>by rw[fU,a9 h];rfl
  have WO:k.eF.length=p.aG.length:=ij.len;have Ev:l4 b1 k (qX (gk m) 0 p):=(ij.AW fun J c h1 h2 ab=>bM _ _ (by omega) ab).Em (by rw[AX,F2,xS];rfl);have Oh:=Oe (m:=m) (ins:=ins) o6;show bl _ _ _ _ _ _ _ _;refine GoF.each p.sub.length (fun j f U=>(∀i (h:i<k.kids.length) (h':i<p.sub.length),iv U k.S (i*8) (eJ k.kids[i] (if i<j then raP m p.sub[i] (ins++nzs ((p.aG.getD i none).getD [])) else p.sub[i]))∧fv U e d k.kids[i] (if i<j then raP m p.sub[i] (ins++nzs ((p.aG.getD i none).getD [])) else p.sub[i]))∧
   l4 U k (qX (gk m) j p)∧(p.sub≠[]→∃c,U.get k.S=some (.cells c)∧c.length=p.sub.length*8)∧(∀J c,k.aK≤J→J<k.mD→b1.get J=some (.cells c)→U.get J=some (.cells c))∧
   (b1.next≤U.next∧∀J obj,(J<k.aK∨k.hi≤J)→b1.get J=some obj→U.get J=some obj)∧(∀i (h':i<p.sub.length),i<j→(∀n∈(p.aG.getD i none).getD [],gk m n≤999)∧∀n∈bN (raP m p.sub[i] (ins++nzs ((p.aG.getD i none).getD []))),n≤999)∧
   sat [(0,pp B bw),(1,.m (some bT)),(2,zI m),(40,k.ey)] f) (by omega)
   ⟨fun i a c=>by
    rw[if_neg (by omega)];have:=fi i a c;have bx:p.sub≠[]:=fun e=>by rw[e] at c;simp at c
    have:=c2 bx;exact⟨(fi i a c).2.2.1.aF fun c ab=>bM _ _ (by omega) ab,fv.aF _ (fun x c aP a0 ab=>bM _ _ (by omega) ab) (fi i a c).2.2.2⟩,Ev,fun hp=>let⟨c,aP,a0⟩:=(de hp).2.2;⟨c,bM _ _ (by have:=c2 hp;omega) aP,a0⟩,fun _ _ _ _ h=>h,⟨o _,fun _ _ _ h=>h⟩,fun i h' h=>absurd h (by omega),rfl,rfl,rfl,rfl,trivial⟩ rfl rfl (fun j g U az aZ hi hm=>?_) (fun g U aZ hi=>?_)
  ·obtain⟨aP,a0,bF,bU,⟨c6,dL⟩,gC,aX⟩:=aZ;refine GoF.norm ((42,ay j)::(41,ay p.sub.length)::[(0,pp B bw),(1,.m (some bT)),(2,zI m),(40,k.ey)]) ⟨hi,hm,aX⟩ fun g=>?_;have bx:p.sub≠[]:=fun e=>by rw[e] at az;simp at az
   have b2A:=c2 bx;have H:Has U []:=Has.nil;have pZ:j<p.aG.length:=by omega
   have bS:j<k.eF.length:=by omega
   have m0:j<k.kids.length:=by omega
   have WK:bT≠B:=fun e=>by rw[e,lb] at AG;cases AG
   refine ae ?_;refine W.dX rfl rfl rfl (b2w bD.Ms bD.lr (dL _ _ b2x (bM _ _ WK AG))) fun r bd ⟨dA,Oi,n2,br⟩=>⟨_,dA,?_⟩
   generalize sH:U.next=nG at Oi n2;have Et:=br _ _ (dL _ _ Jq tC);have tA:l4 bd k (qX (gk m) j p):=a0.AW fun J c _ _ ab=>br _ _ ab;have nJ:=tA.each j bS (by rw[yE (by omega)];exact pZ);simp only[Jf (f:=gk m) (j:=j) (p:=p) (by omega) pZ] at nJ;rw[if_neg (by omega),uZ j pZ] at nJ;have AA:=ee _ (aS pZ);rw[uZ j pZ] at AA;have tB:∀n∈(p.aG.getD j none).getD [],0≤n∧n≤999:=fun n hn=>W4 n (e9 _ (gP.2 ⟨_,aS pZ,by rw[uZ j pZ];exact hn⟩));have b2B:∀n∈(p.aG.getD j none).getD [],gk m n∈bN (raP m p ins):=fun n hn=>by
    rw[Oh];exact k6 _ (e9 _ (gP.2 ⟨_,aS pZ,by rw[uZ j pZ];exact sl hn⟩))
   obtain⟨fc,Ms,r1,N_,Jk,W7,_,Jl⟩:=tA.ak.ak.hc bS;have D2:=tA.own _ N_;have yG:∀J,k.eF[j].bn =some J→k.E≤J∧J<k.hi∧J≠fc:=fun J ab=>⟨(nJ.2.2.2 J ab).1,(nJ.2.2.2 J ab).2.1,fun e=>(nJ.2.2.2 J ab).2.2 (by rw[e];exact N_)⟩
   have ih:=nJ.2.2.1;have tu:=fun(a5:af)=>tA.step (a5:=a5) pZ bS;rw[uZ j pZ] at tu;generalize uA:(p.aG.getD j none).getD []=fT at *;generalize uV:k.eF[j]=lw at *;refine ae ?_;refine W.kf rfl rfl rfl (jS Et t71) ?_;refine ae ?_;refine W.cw rfl rfl rfl rfl Jk ?_;refine ae ?_;refine W.kf rfl rfl rfl (jS W7 Jl) ?_;refine ae ?_;refine W.len rfl rfl rfl (nJ.1.ak.len (U:=bd)) ?_;rw[aJ];refine ae ?_;have DN:B≠nG:=fun e=>by have:=af.bW lb;omega
   have W8:fc≠nG:=by omega
   show bl _ _ _ _ _ _ _ _;refine GoF.each fT.length (fun t f a5=>h9 a5 none lw ((l7 (gk m) t fT).map zI)∧(∃lu o4,a5.get nG=some (.map (jH lu) o4)∧uY lu (ins++nzs (fT.take t)))∧a5.next=bd.next∧(∀J obj,J≠nG→lw.bn ≠some J→bd.get J=some obj→a5.get J=some obj)∧(∀n∈fT.take t,gk m n≤999)∧sat [(0,pp B bw),(1,.m (some bT)),(2,zI m),(40,k.ey),(7,ay j),(8,.m (some nG)),(53,lw),(41,ay p.sub.length),(42,ay j)] f) (by omega)
    ⟨by show h9 bd none lw ((([]:List Int).map (gk m)++fT).map zI);exact nJ.1,⟨L,aL,Oi,by show uY L (ins++nzs []);rw[show nzs []=[] from rfl,fV];exact W3⟩,rfl,fun _ _ _ _ h=>h,fun n hn=>by simp at hn,rfl,rfl,rfl,rfl,rfl,rfl,rfl,rfl,rfl,trivial⟩ rfl rfl (fun t g a5 ht aZ cS oJ=>?_) (fun g a5 aZ cS=>?_)
   ·obtain⟨i1,⟨lu,o4,i2,i3⟩,i4,i5,i6,aX⟩:=aZ;refine GoF.norm ((55,ay t)::(54,ay fT.length)::[(0,pp B bw),(1,.m (some bT)),(2,zI m),(40,k.ey),(7,ay j),(8,.m (some nG)),(53,lw),(41,ay p.sub.length),(42,ay j)]) ⟨cS,oJ,aX⟩ fun g=>?_;obtain⟨yH,yJ,yI⟩:=i1.gE (fun e=>by have:=congrArg List.length e;rw[uW] at this;exact absurd this (by show fT.length≠0;omega)) ih;rw[uW] at yJ;have b2j:=yG yH (by rw[yJ];rfl);have Ni:yH≠nG:=by omega
    have hn:=tB _ (aS ht);have cV:=fG ht;have DX:=WD (f:=gk m) ht;have cP:=b2B _ (aS ht);have rq:=WC (f:=gk m) ht;generalize fT[t]=n at hn cV DX cP rq;have H:Has a5 []:=Has.nil;rw[yJ];refine ae ?_;refine W.cw rfl rfl rfl rfl (Jh ht) ?_;refine ae ?_;refine W.kf (v:=zI n) rfl rfl rfl (jS yI (by show(List.drop t _).head? =_;rw[vk,rq])) ?_;refine ae ?_;refine W.bin rfl rfl rfl rfl tq ?_;by_cases cj:n=0
    ·rw[decide_eq_true cj];refine ae ?_;refine GoF.exit ?_;refine ae ?_;have aM:(l7 (gk m) (t+1) fT).map zI=(l7 (gk m) t fT).map zI:=by
      rw[←DX];apply wk;intro i;rw[GM];by_cases e:t=i
      ·subst e;rw[if_pos rfl,if_pos (by rw[aJ,uW];exact ht),rq,cj];unfold gk;rw[if_pos rfl]
      ·rw[if_neg e]
     refine⟨rfl,rfl,by rw[aM,← yJ];exact i1,⟨lu,o4,i2,by rw[cV,WY,if_pos cj];exact i3⟩,i4,by rw[←yJ];exact i5,fun pH g3=>?_,rfl,rfl,rfl,rfl,rfl,rfl,rfl,rfl,rfl,trivial⟩;rw[cV] at g3;rcases dE.1 g3 with h|h
     ·exact i6 _ h
     ·rw[d_.1 h];unfold gk;rw[if_pos cj];omega
    rw[decide_eq_false cj];have Oj:gk m n=n+m:=by unfold gk;rw[if_neg cj]
    refine ae ?_;refine W.IT i2 rfl rfl rfl rfl fun bG Ew eh dy bb=>?_;have Ji:=bb _ _ DN (i5 _ _ DN (fun e=>by have:=yG _ e;omega) Et);have b2C:=bb _ _ W8 (i5 _ _ W8 (fun e=>(yG _ e).2.2 rfl) W7);have b2D:=bb _ _ Ni yI;have H:Has bG [(yH,(l7 (gk m) t fT).map zI)]:=Has.nil.cons b2D (by simp);refine ae ?_;refine W.kf rfl rfl rfl (jS Ji t71) ?_;refine ae ?_;refine W.cw rfl rfl rfl rfl Jk ?_;refine ae ?_;refine W.kf rfl rfl rfl (jS b2C Jl) ?_;rw[yJ];refine ae ?_;refine W.bin rfl rfl rfl rfl (DV hn.1 qK (by omega)) ?_;refine ae ?_;refine W.cw rfl rfl rfl rfl (Jh ht) ?_;refine ae ?_;refine W.st (c:=(l7 (gk m) t fT).map zI) (aQ:=(l7 (gk m) (t+1) fT).map zI) H 0 rfl rfl rfl rfl rfl (by rw[Jc (by rw[aJ,uW];exact ht) rfl,← DX,Oj]) fun cA gU H cm=>?_;refine ae ?_;refine W.bin rfl rfl rfl rfl (DV hn.1 qK (by omega)) ?_;refine W.bin rfl rfl rfl rfl DQ ?_;have fin:∀J obj,J≠nG→J≠yH→bd.get J=some obj→cA.get J=some obj:=fun J obj h1 h2 ab=>cm _ _ h2 (bb _ _ h1 (i5 _ _ h1 (by rw[yJ];exact fun e=>h2 (ia e).symm) ab));by_cases Ah:n+m > 999
    ·rw[decide_eq_true Ah];refine ae ?_;refine GoF.ret ⟨rfl,false,rfl,by omega,fun J obj h1 h2 ab=>?_,⟨c,lb,?_⟩,.inr ⟨rfl,n+m,by rw[←Oj];exact cP,Ah⟩⟩
     ·have:=af.bW ab;exact fin _ _ (by omega) (by omega) (br _ _ (dL _ _ h1 (bE _ _ h2 ab)))
     ·exact fin _ _ DN (by omega) Et
    ·rw[decide_eq_false Ah];refine ae ?_;refine⟨rfl,rfl,h9.WB (uW.symm) (H.get _ (.head _)),⟨_,Ew,cm _ _ (fun e=>Ni e.symm) dy,by rw[cV,WY,if_neg cj,← iw];exact i3.push n o4⟩,by omega,fun J obj h1 h2 ab=>fin _ _ h1 (fun e=>h2 (by rw[e];rfl)) ab,fun pH g3=>?_,rfl,rfl,rfl,rfl,rfl,rfl,rfl,rfl,rfl,trivial⟩;rw[cV] at g3;rcases dE.1 g3 with h|h
     ·exact i6 _ h
     ·rw[d_.1 h,Oj];omega
   ·obtain⟨i1,⟨lu,o4,i2,i3⟩,i4,i5,i6,aX⟩:=aZ;rw[h_] at i3 i6;obtain⟨f0,f1,f2,f40,f7,f8,f53,f41,f42,_⟩:=aX;refine GoF.norm [(0,pp B bw),(1,.m (some bT)),(2,zI m),(40,k.ey),(7,ay j),(8,.m (some nG)),(41,ay p.sub.length),(42,ay j)] ⟨f0,f1,f2,f40,f7,f8,f41,f42,trivial⟩ fun g=>?_;have uy:l7 (gk m) fT.length fT=fT.map (gk m):=by unfold l7;rw[h_,Bw,fV]
    rw[uy] at i1;have b2E:=tu a5 i1 fun J c h1 ab=>i5 _ _ (fun e=>by rw[e,Oi] at ab;cases ab) h1 ab;have eP:∀J obj,¬(k.E≤J∧J<k.hi)→U.get J=some obj→a5.get J=some obj:=fun J obj h1 ab=>i5 _ _ (by have:=af.bW ab;omega) (fun e=>by have:=yG _ e;omega) (br _ _ ab);have Jn:=eP _ _ (by omega) (dL _ _ Jq tC);have H:Has a5 []:=Has.nil;have uT:=aP j m0 az;rw[if_neg (by omega)] at uT;obtain⟨iS,iT,_,_⟩:=fi j m0 az;have gX:idxSlA (some 8) k.ey j=some (pp k.S (j*8)):=by
     rw[(de bx).2.1];have h3:Nat.blt j p.sub.length=true:=eu az;simp only[idxSlA,h3,decide_true,so,if_true,hO];rfl
    have b2F:=uT.2.le;refine ae ?_;refine W.kf rfl rfl rfl (jS Jn t61) ?_;refine ae ?_;refine W.cw rfl rfl rfl rfl gX ?_;refine ae ?_;refine W.dX rfl rfl rfl (aA p.sub[j] (mE _ (aS az)) (fun x hx=>cL x (by rw[Prf.gB];exact e9 _ (gP.2 ⟨_,aS az,hx⟩))) k.kids[j] k.S (j*8) nG o4 lu (ins++nzs fT) a5 (fv.aF _ (fun x c bM b4 ab=>eP _ _ (by omega) ab) uT.2) (uT.1.aF fun c ab=>eP _ _ (by omega) ab) (.inr iT) i2 i3 (.inr (by omega)) (by omega)) fun r dk ⟨ok,dA,h7,dN,⟨c3B,EB,Ok⟩,jw⟩=>⟨_,dA,?_⟩
    have EC:∀J obj,¬(k.E≤J∧J<k.hi)→(J<k.kids[j].aK∨k.kids[j].hi≤J)→J≠k.S→U.get J=some obj→dk.get J=some obj:=fun J obj h1 h2 h3 ab=>dN _ _ h2 h3 (eP _ _ h1 ab);rcases jw with⟨rfl,jP,b2G⟩|⟨rfl,n,hn,b2H⟩
    ·refine ae ?_;have b2I:=uT.1.aF fun c ab=>eP _ _ (by omega) ab;have Ol:=cL p.sub[j] (by rw[Prf.gB];exact e9 _ (gP.2 ⟨_,aS az,by rw[Prf.gB];exact .head _⟩));refine⟨rfl,rfl,fun i a aQ=>?_,b2E.AW fun J c h1 h2 ab=>dN _ _ (by omega) (by omega) ab,fun hp=>⟨_,Ok,?_⟩,fun J c h1 h2 ab=>EC _ _ (by omega) (by omega) (by omega) (bU _ _ h1 h2 ab),⟨by omega,fun J obj h1 ab=>EC _ _ (by omega) (by omega) (by omega) (dL _ _ h1 ab)⟩,fun i h' h=>?_,rfl,rfl,rfl,rfl,trivial⟩
     ·by_cases e:i=j
      ·subst e;rw[if_pos (by omega),uA];refine⟨?_,b2G⟩;have:=iv.aY (g:=fun _=>l8 p.sub[i].rule (ins++nzs fT) p.sub[i].aY m) (by rw[I_];exact b2I) EB Ok rfl;have e2:eJ k.kids[i] (oo (fun _=>l8 p.sub[i].rule (ins++nzs fT) p.sub[i].aY m) p.sub[i])=eJ k.kids[i] (raP m p.sub[i] (ins++nzs fT)):=by
        unfold eJ;rw[Ob Ol.1,Ez Ol.1,Jo Ol.1];cases p.sub[i];rfl
       rwa[e2] at this
      ·have e2:(i<j+1)↔i<j:=by omega
       simp only[e2];obtain⟨cC,c0⟩:=aP i a aQ;obtain⟨aW,bK,_,_⟩:=fi i a aQ;have W9:k.kids[i].hi≤k.kids[j].aK∨k.kids[j].hi≤k.kids[i].aK:=by
        rcases GO e with h|h
        ·exact .inl (hD i j a m0 h)
        ·exact .inr (hD j i m0 a h)
       exact⟨(cC.aF fun c ab=>eP _ _ (by omega) ab).Jd EB Ok (by omega),fv.aF _ (fun x c bM b4 ab=>EC _ _ (by omega) (by omega) (by omega) ab) c0⟩
     ·obtain⟨jI,b2J,b2K⟩:=bF bx;have W_:=eP _ _ (by omega) b2J;rw[EB] at W_;cases W_;rw[uh];exact b2K
     ·by_cases e:i=j
      ·subst e;rw[uA];exact⟨i6,jP⟩
      ·exact gC i h' (by omega)
    ·refine ae ?_;refine GoF.ret ⟨rfl,false,rfl,by omega,fun J obj h1 h2 ab=>EC _ _ (by omega) (by omega) (by omega) (dL _ _ h1 (bE _ _ h2 ab)),⟨c,lb,?_⟩,.inr ⟨rfl,n,?_,b2H⟩⟩
     ·exact EC _ _ (by omega) (by omega) (by omega) (dL _ _ Jq tC)
     ·rw[Oh];refine ni _ (gP.2 ⟨_,aS (by rw[Oc o6];exact az),?_⟩);rw[Od o6 az pZ,uZ j pZ,uA];exact hn
  ·obtain⟨aP,a0,bF,bU,⟨c6,dL⟩,gC,aX⟩:=aZ;refine GoF.norm [] trivial fun g=>?_;have H:Has U []:=Has.nil;refine ae ?_;refine GoF.ret ⟨rfl,true,rfl,by omega,fun J obj h1 h2 ab=>dL _ _ h1 (bE _ _ h2 ab),⟨c,lb,dL _ _ Jq tC⟩,.inl ⟨rfl,?_,?_⟩⟩
   ·rw[Oh,Jr];intro n hn;rcases dE.1 hn with h|h
    ·rcases cH.1 h with rfl|h
     ·omega
     ·obtain⟨x,hx,h⟩:=gP.1 h;obtain⟨pH,g3,rfl⟩:=bQ.1 h;obtain⟨i,cS,rfl⟩:=gm hx;exact(gC i (by omega) (by omega)).1 pH (by rw[←uZ i cS];exact g3)
    ·obtain⟨x,hx,h⟩:=gP.1 h;obtain⟨i,cS,rfl⟩:=gm hx;have kH:i<p.sub.length:=by rw[Oc o6] at cS;exact cS
     rw[Od o6 kH (by omega),uZ i (by omega)] at h;exact(gC i kH kH).2 n h
   ·have ar:=Oc (m:=m) (ins:=ins) o6;have N0:fF U e k.aK k.mD p.form (.ag [.i .u8 (Int.ofNat p.form.op),.s p.form.name,k.aW,k.bK]):=fF.aF _ (fun J c cC c0 ab=>bU _ _ cC c0 (bM _ _ (by omega) ab)) h1;refine⟨by rw[Ez o6];exact N0,h2,⟨by rw[ar];exact ba,fun hp=>cr (l0.1 (by rw[←ar,hp];rfl)),fun hp=>?_⟩,fun i a aQ=>?_,hD,a0.Em ?_⟩
    ·have mQ:p.sub≠[]:=fun e=>hp (l0.1 (by rw[ar,e];rfl));rw[ar];exact⟨(de mQ).1,(de mQ).2.1,bF mQ⟩
    ·have kH:i<p.sub.length:=by rw[ar] at aQ;exact aQ
     rw[Od o6 kH (by omega),uZ i (by omega)];obtain⟨cC,c0⟩:=aP i a kH;rw[if_pos kH] at cC c0;exact⟨(fi i a kH).1,(fi i a kH).2.1,cC,c0⟩
    ·rw[Jp o6,AX,wH,← o6,h_,Bw,fV]
end
end
end
def Tm.p3:Nat→Tm→Prop
 |0,_=>False
 |d+1,t=>t.c3≠some []∧∀u∈t.args,Tm.p3 d u
def Fm.p3:Nat→Fm→Prop
 |0,_=>False
 |d+1,f=>f.c3≠some []∧f.bm≠some []∧(∀u∈f.args,Tm.p3 d u)∧∀u∈f.sub,Fm.p3 d u
def Prf.p3(e:Nat):Nat→Prf→Prop
 |0,_=>False
 |d+1,p=>Fm.p3 e p.form∧p.bm≠some []∧p.cv≠some []∧(∀l∈p.aG,l≠some [])∧∀q∈p.sub,Prf.p3 e d q
theorem A0{α:Type}{l:List α}:cM l≠some []:=by cases l<;>(intro h;cases h)
theorem js{α:Type}(l:List α):(cM l).getD []=l:=by cases l<;>rfl
theorem Tm.u0:∀(d:Nat) (t:Tm),t.dep≤d→Tm.p3 d t.nz
 |0,t,h=>by have:=Tm.gJ t;omega
 |d+1,t,h=>by
  rw[Tm.hd];refine⟨A0,fun u hu=>?_⟩;have hu:u∈(cM (t.args.map Tm.nz)).getD []:=hu;rw[js] at hu;obtain⟨w,hw,rfl⟩:=bQ.1 hu;exact Tm.u0 d w (by have:=Tm.pI hw;omega)
theorem Fm.u0:∀(d:Nat) (t:Fm),t.dep≤d→Fm.p3 d t.nz
 |0,t,h=>by have:=Fm.gJ t;omega
 |d+1,t,h=>by
  rw[Fm.hd];refine⟨A0,A0,fun u hu=>?_,fun u hu=>?_⟩
  ·have hu:u∈(cM (t.args.map Tm.nz)).getD []:=hu;rw[js] at hu;obtain⟨w,hw,rfl⟩:=bQ.1 hu;exact Tm.u0 d w (by have:=Fm.pI hw;omega)
  ·have hu:u∈(cM (t.sub.map Fm.nz)).getD []:=hu;rw[js] at hu;obtain⟨w,hw,rfl⟩:=bQ.1 hu;exact Fm.u0 d w (by have:=Fm.jE hw;omega)
theorem Prf.u0{e:Nat}:∀(d:Nat) (p:Prf),p.dep≤d→p.dep≤e+1→Prf.p3 e d p.nz
 |0,p,h,_=>by have:=Prf.gJ p;omega
 |d+1,p,h,he=>by
  have hf:=p.tl;rw[Prf.hd];refine⟨Fm.u0 _ _ (by omega),A0,A0,fun l ar=>?_,fun q hq=>?_⟩
  ·have ar:l∈(cM ((p.cv.getD []).map jX)).getD []:=ar;rw[js] at ar;obtain⟨w,hw,rfl⟩:=bQ.1 ar;exact A0
  ·have hq:q∈(cM (p.sub.map Prf.nz)).getD []:=hq;rw[js] at hq;obtain⟨w,hw,rfl⟩:=bQ.1 hq;have:=Prf.jE hw;exact Prf.u0 d w (by omega) (by omega)
theorem fu.osl{I:af}{J:Bool}{ad:Option Nat}{l:Option (List AV)}(bx:l≠some [])(ah:∀y∈l.getD [],Go.Lyc.conf ad y=true):fu I ad (Go.Lyc.osl J ad l) (l.getD []):=by
 cases l with
 |none=>exact .nil
 |some l=>cases l with
  |nil=>exact absurd rfl bx
  |cons x l=>exact .a7 J x l ah
theorem A1{α β:Type}{f:α→β}{l:Option (List α)}(h:l≠some []):(l.map fun l=>l.map f)≠some []:=by
 cases l with
 |none=>intro h;cases h
 |some l=>cases l with
  |nil=>exact absurd rfl h
  |cons x l=>intro h;cases h
theorem o7{α β:Type}{f:α→β}{l:Option (List α)}:(l.map fun l=>l.map f).getD []=(l.getD []).map f:=by cases l<;>rfl
theorem ED(J:Bool)(F:Fm):F.A J= .ag [.i .u8 (Int.ofNat F.op),.s F.name,cN J F.c3,dz J F.bm]:=by unfold Fm.A;rw[Fm.kM]
theorem iM.ai{I:af}(J:Bool):∀(d:Nat) (t:Tm),Tm.p3 d t→iM I d t (t.A J)
 |0,_,h=>h.elim
 |d+1,t,⟨h1,h2⟩=>by
  refine⟨cN J t.c3,t.args.map (Tm.A J),?_,?_,aJ _,fun i a c=>?_⟩
  ·exact nA J t
  ·have:=fu.osl (I:=I) (J:=J) (ad:=some 3) (A1 (f:=Tm.A J) h1) (fun y aw=>by rw[o7] at aw;obtain⟨u,_,rfl⟩:=bQ.1 aw;rw[nA];rfl);rw[o7] at this;exact this
  ·rw[fQ];exact iM.ai J d _ (h2 _ (aS c))
theorem ja.ai{I:af}{M:Nat}(J:Bool):∀(d:Nat) (f:Fm),Fm.p3 d f→2*f.dep+2≤M→ja I M d f (f.A J)
 |0,_,h,_=>h.elim
 |d+1,f,⟨h1,h2,h3,aE⟩,hY=>by
  refine⟨cN J f.c3,dz J f.bm,f.args.map (Tm.A J),f.sub.map (Fm.A J),?_,?_,?_,?_,aJ _,aJ _,fun i a c=>?_,fun i a c=>?_⟩
  ·exact ED J f
  ·exact pV _ _ _ ((M8 (I:=⟨.nil,0⟩) J f hY).2)
  ·have:=fu.osl (I:=I) (J:=J) (ad:=some 3) (A1 (f:=Tm.A J) h1) (fun y aw=>by rw[o7] at aw;obtain⟨u,_,rfl⟩:=bQ.1 aw;rw[nA];rfl);rw[o7] at this;exact this
  ·have:=fu.osl (I:=I) (J:=J) (ad:=some 4) (A1 (f:=Fm.A J) h2) (fun y aw=>by rw[o7] at aw;obtain⟨u,_,rfl⟩:=bQ.1 aw;rw[ED];rfl);rw[o7] at this;exact this
  ·rw[fQ];exact iM.ai J d _ (h3 _ (aS c))
  ·rw[fQ];exact ja.ai J d _ (aE _ (aS c)) (by have:=Fm.jE (aS c);omega)
theorem iM.Xa{I:af}:∀(d:Nat) {aK hi:Nat} {t:Tm} {v:AV},gZ I d aK hi t v→iM I d t v
 |0,_,_,_,_,h=>h.elim
 |d+1,aK,hi,t,v,⟨w,e,h⟩=>by
  rcases h with⟨h1,rfl,_⟩|⟨k,xs,h1,h2,rfl,aE,ba,cr⟩
  ·exact⟨.aB,[],e,.nil,by rw[h1];rfl,fun i a=>by simp at a⟩
  ·have ar:=cr.len;have aj:Sl I (some 3) (.ak k 0 xs.length (some 3) (some xs.length)) xs:=.ak k _ xs [] (by simpa using aE) ba (.inr rfl);refine⟨_,xs,e,?_,ar.symm,fun i a c=>?_⟩
   ·cases xs with
    |nil=>exact absurd (l0.1 ar) h2
    |cons x xs=>exact .ak _ x xs aj
   ·have gen:∀ {ts:List Tm} {xs:List AV} {aK hi:Nat},iL (gZ I d) aK hi ts xs→∀i (a:i<xs.length) (c:i<ts.length),iM I d ts[i] xs[i]:=by
     intro ts
     induction ts with
     |nil=>intro xs aK hi _ i a c;simp at c
     |cons t ts aA=>intro xs aK hi h i a c;cases xs with
      |nil=>simp at a
      |cons x xs=>
       obtain⟨m,_,_,bF,bU⟩:=h;cases i with
       |zero=>exact iM.Xa d bF
       |succ i=>exact aA bU i (by simpa using a) (by simpa using c)
    exact gen cr i a c
theorem ja.Xb{I:af}{M:Nat}:∀(d:Nat) {aK hi:Nat} {t:Fm} {v:AV},1≤M→fF I d aK hi t v→ja I M d t v
 |0,_,_,_,_,_,h=>h.elim
 |d+1,aK,hi,t,v,hY,⟨w,bK,m,e,h,h'⟩=>by
  obtain⟨M,rfl⟩:∃n,M=n+1:=⟨M-1,by omega⟩
  have cQ:∃xs,fu I (some 3) w xs∧xs.length=t.args.length∧∀i (a:i<xs.length) (c:i<t.args.length),iM I d t.args[i] xs[i]:=by
   have:iM I (d+1) (.mk false [] t.c3) (.ag [.b false,.s [],w]):=iM.Xa (d+1) ⟨w,rfl,h⟩;obtain⟨an,xs,eb,r1,r2,nU⟩:=this;injection eb with eb
   have:=(Vd eb).2.2;subst this;exact⟨xs,r1,r2,nU⟩
  obtain⟨xs,r1,r2,nU⟩:=cQ;have hq:AV.eqb (M+1) bK bK=true:=by
   rcases h' with⟨_,rfl,_⟩|⟨k,aO,_,_,rfl,_⟩<;>exact od rfl
  rcases h' with⟨h1,rfl,_⟩|⟨k,aO,h1,h2,rfl,aE,ba,cr⟩
  ·exact⟨w,.aB,xs,[],e,hq,r1,.nil,r2,by rw[h1];rfl,nU,fun i a=>by simp at a⟩
  ·have ar:=cr.len;have aj:Sl I (some 4) (.ak k 0 aO.length (some 4) (some aO.length)) aO:=.ak k _ aO [] (by simpa using aE) ba (.inr rfl);refine⟨w,_,xs,aO,e,hq,r1,?_,r2,ar.symm,nU,fun i a c=>?_⟩
   ·cases aO with
    |nil=>exact absurd (l0.1 ar) h2
    |cons x aO=>exact .ak _ x aO aj
   ·have gen:∀ {ts:List Fm} {aO:List AV} {aK hi:Nat},iL (fF I d) aK hi ts aO→∀i (a:i<aO.length) (c:i<ts.length),ja I (M+1) d ts[i] aO[i]:=by
     intro ts
     induction ts with
     |nil=>intro xs aK hi _ i a c;simp at c
     |cons t ts aA=>intro xs aK hi h i a c;cases xs with
      |nil=>simp at a
      |cons x xs=>
       obtain⟨m,_,_,bF,bU⟩:=h;cases i with
       |zero=>exact ja.Xb d (By _ _) bF
       |succ i=>exact aA bU i (by simpa using a) (by simpa using c)
    exact gen cr i a c
theorem b2L{I:af}(J:Bool){l:Option (List Int)}(h:l≠some []):fu I none (b5 J l) ((l.getD []).map zI):=by
 have:=fu.osl (I:=I) (J:=J) (ad:=none) (A1 (f:=zI) h) (fun y aw=>by rw[o7] at aw;exact ys y aw);rw[o7] at this;exact this
theorem e7.ai{I:af}{M e:Nat}(J:Bool):∀(d:Nat) (p:Prf),Prf.p3 e d p→2*p.dep+2≤M→e7 I M e d p (prC J p)
 |0,_,h,_=>h.elim
 |d+1,p,⟨h1,h2,h3,aE,ba⟩,hY=>by
  have hf:=p.tl;have r3:bh ⟨.nil,0⟩ M (.ag [.i .u8 (Int.ofNat p.form.op),.s p.form.name,cN J p.form.c3,dz J p.form.bm])=some (.ag [.i .u8 (Int.ofNat p.form.op),.s p.form.name,cN true p.form.c3,dz true p.form.bm]):=by
   have:=Fm.snap ⟨.nil,0⟩ J p.form.dep p.form M (o _) (by omega);rwa[ED,ED] at this
  refine⟨cN J p.form.c3,dz J p.form.bm,cU J p.bm,cO J p.cv,p.sub.map (Prf.A J),p.aG.map (b5 J),rfl,⟨by rw[←ED];exact ja.ai J e _ h1 (by omega),pV _ _ _ r3,?_⟩,⟨?_,aJ _,fun i a c=>?_⟩,?_,aJ _,fun i a c=>?_⟩
  ·have aW:∀l:Option (List Tm),(cN J l).cells=[cN J l]∧conf none (cN J l)=true∧(cN J l).val=true:=fun l=>by cases l<;>exact⟨rfl,rfl,rfl⟩
   have bK:∀l:Option (List Fm),(dz J l).cells=[dz J l]∧conf none (dz J l)=true∧(dz J l).val=true:=fun l=>by cases l<;>exact⟨rfl,rfl,rfl⟩
   exact⟨(aW _).1,(aW _).2.1,(aW _).2.2,(bK _).1,(bK _).2.1,(bK _).2.2⟩
  ·have:=fu.osl (I:=I) (J:=J) (ad:=some 8) (A1 (f:=Prf.A J) h2) (fun y aw=>by rw[o7] at aw;obtain⟨u,_,rfl⟩:=bQ.1 aw;rw[o3];rfl);rw[o7] at this;exact this
  ·rw[fQ,o3];have:=Prf.jE (aS c);exact⟨_,rfl,e7.ai J d _ (ba _ (aS c)) (by omega)⟩
  ·have:=fu.osl (I:=I) (J:=J) (ad:=none) (A1 (f:=b5 J) h3) (fun y aw=>by rw[o7] at aw;obtain⟨u,_,rfl⟩:=bQ.1 aw;exact(iI J u).2);rw[o7] at this;exact this
  ·rw[fQ];exact b2L J (aE _ (aS c))
theorem e7.Om{I:af}{M e:Nat}(hY:2*e≤M):∀(d:Nat) {k:dB} {p:Prf},1≤M→fv I e d k p→e7 I M e d p (eJ k p)
 |0,_,_,_,h=>h.elim
 |d+1,k,p,EE,⟨h1,h2,⟨ba,cr,de⟩,fi,hD,ij⟩=>by
  have r3:=fF.snap e hY h1;have rm:=h1;cases e with
  |zero=>exact h1.elim
  |succ e=>
  obtain⟨kJ,oY,m,yK,fc,kZ⟩:=h1;injection yK with yK
  injection yK with _ yK
  injection yK with _ yK
  obtain⟨rfl,rfl⟩:=ky yK;refine⟨k.aW,k.bK,k.ey,k.b6,(List.range p.sub.length).map (fun i=>.ag (eJ (k.kids.getD i k) (p.sub.getD i p))),k.eF,rfl,⟨ja.Xb _ EE rm,pV _ _ _ r3,fc.one.1,fc.one.2.2,fc.one.2.1,kZ.one.1,kZ.one.2.2,kZ.one.2.1⟩,⟨?_,by rw[aJ,oz],fun i a c=>?_⟩,?_,ij.len,fun i a c=>?_⟩
  ·by_cases hp:p.sub=[]
   ·rw[hp,cr hp];exact .nil
   ·obtain⟨_,e2,c,gc,ah⟩:=de hp;rw[e2];have dV:∀y∈(List.range p.sub.length).map (fun i=>AV.ag (eJ (k.kids.getD i k) (p.sub.getD i p))),conf (some 8) y=true:=fun y aw=>by obtain⟨i,_,rfl⟩:=bQ.1 aw;rfl
    have jj:c=((List.range p.sub.length).map (fun i=>AV.ag (eJ (k.kids.getD i k) (p.sub.getD i p)))).flatMap AV.cells:=by
     apply wk;intro t;by_cases ht:t<p.sub.length*8
     ·have az:t/8<p.sub.length:=by omega
      have m0:t/8<k.kids.length:=by omega
      obtain⟨_,_,⟨aQ,EF,On⟩,_⟩:=fi (t/8) m0 az;rw[gc] at EF;cases EF;have lr:=On (t%8) (by omega);rw[show t/8*8+t%8=t from by omega] at lr;rw[lr];have:=I6 (xs:=(List.range p.sub.length).map (fun i=>AV.ag (eJ (k.kids.getD i k) (p.sub.getD i p)))) (rest:=[]) (fun y aw=>by obtain⟨i,_,rfl⟩:=bQ.1 aw;exact⟨_,rfl,rfl⟩) (t/8) (by rw[aJ,oz];exact az) (eJ k.kids[t/8] p.sub[t/8]) (by
       rw[fQ,Ap,fU,a9 m0,fU,a9 az];rfl) (t%8) (by omega)
      rw[show t/8*8+t%8=t from by omega,fV] at this;exact this.symm
     ·rw[q7 (by omega),q7];rw[AL dV,aJ,oz];show p.sub.length*8≤t;omega
    have aj:Sl I (some 8) (.ak k.S 0 ((List.range p.sub.length).map (fun i=>AV.ag (eJ (k.kids.getD i k) (p.sub.getD i p)))).length (some 8) none) ((List.range p.sub.length).map (fun i=>AV.ag (eJ (k.kids.getD i k) (p.sub.getD i p)))):=.ak k.S none _ [] (by rw[fV,← jj];exact gc) dV (.inl rfl);rw[aJ,oz] at aj;generalize dj:(List.range p.sub.length).map (fun i=>AV.ag (eJ (k.kids.getD i k) (p.sub.getD i p)))=xs at aj;cases xs with
    |nil=>have:=congrArg List.length dj;rw[aJ,oz] at this;exact absurd (l0.1 this) hp
    |cons x xs=>exact .ak _ x xs aj
  ·rw[fQ,Ap];have m0:i<k.kids.length:=by omega
   refine⟨_,by rw[fU,a9 m0,fU,a9 c];rfl,e7.Om hY d EE (fi i m0 c).2.2.2⟩
  ·have aj:=ij.ak.ak;have hn:=ij.nl;generalize k.eF=ls at aj hn;cases ls with
   |nil=>rw[hn rfl];exact .nil
   |cons x xs=>exact .ak _ x xs aj
  ·obtain⟨cC,c0,_⟩:=ij.each i a c;have aj:=cC.ak;generalize dj:(p.aG[i].getD []).map zI=xs at aj;cases xs with
   |nil=>rw[c0 (vi.1 dj)];exact .nil
   |cons x xs=>exact .ak _ x xs aj
theorem e7.mono{I:af}{M e:Nat}:∀(d dT:Nat) {p:Prf} {cs:List AV},d≤dT→e7 I M e d p cs→e7 I M e dT p cs
 |0,_,_,_,_,h=>h.elim
 |d+1,0,_,_,au,_=>by omega
 |d+1,dT+1,_,_,au,⟨aW,bK,ey,b6,xs,eF,e,h1,⟨h3,aE,ba⟩,cr⟩=>⟨aW,bK,ey,b6,xs,eF,e,h1,⟨h3,aE,fun i a c=>let⟨ea,aM,e2⟩:=ba i a c;⟨ea,aM,e7.mono d dT (by omega) e2⟩⟩,cr⟩
theorem e7.snap{I:af}{M e:Nat}:∀(d:Nat) {p:Prf} {cs:List AV} {n:Nat},2*e+2*d+2≤n→e7 I M e d p cs→bh I n (.ag cs)=some (.ag (prC true p.nz))
 |0,_,_,_,_,h=>h.elim
 |d+1,p,cs,n,hn,⟨aW,bK,ey,b6,xs,eF,m6,⟨h1,_⟩,⟨h3,aE,ba⟩,cr,de,fi⟩=>by
  subst m6;obtain⟨n,rfl⟩:∃m,n=m+4:=⟨n-4,by omega⟩
  have s1:=h1.snap e (n:=n+4) (by omega);have Xc:mapO (bh I (n+3)) [.i .u8 (Int.ofNat p.form.op),.s p.form.name,aW,bK]=some (dG p.form.nz):=by
   have:(match mapO (bh I (n+3)) [.i .u8 (Int.ofNat p.form.op),.s p.form.name,aW,bK] with|none=>none|some l=>some (AV.ag l))=some (.ag (dG p.form.nz)):=s1;cases hm:mapO (bh I (n+3)) [.i .u8 (Int.ofNat p.form.op),.s p.form.name,aW,bK] with
   |none=>rw[hm] at this;cases this
   |some l=>rw[hm] at this;injection this with this;injection this with this;rw[this]
  have s2:=h3.snap (AM (g:=fun q=>.ag (prC true q.nz)) (f:=bh I (n+2)) aE fun i a c=>by
   obtain⟨ea,aM,e2⟩:=ba i a c;rw[aM];exact e7.snap d (by omega) e2)
  have iq:=cr.snap (AM (ts:=p.aG) (g:=fun l=>b5 true (jX l)) (f:=bh I (n+2)) de fun i a c=>by
   have bg:=(fi i a c).snap (m:=n+1) (aO:=(p.aG[i].getD []).map zI) (z8 fun x hx=>by obtain⟨z,_,rfl⟩:=bQ.1 hx;rfl);rw[bg];unfold b5 jX;rw[uM])
  have aM:bh I (n+3) aW=some (cN true p.form.nz.c3):=(mc Xc).2 2 (by simp) (by simp);have e2:bh I (n+3) bK=some (dz true p.form.nz.bm):=(mc Xc).2 3 (by simp) (by simp);have cj:p.form.nz.op=p.form.op∧p.form.nz.name=p.form.name:=by rw[Fm.hd];exact⟨rfl,rfl⟩
  refine uF ?_;rw[Prf.hd];rw[mapO_cons,mapO_cons,mapO_cons,mapO_cons,mapO_cons,mapO_cons,mapO_cons,mapO_cons,aM,e2,s2,iq];show some [_,_,_,_,_,_,_,_]=some [_,.i .u8 (Int.ofNat p.form.nz.op),.s p.form.nz.name,cN true p.form.nz.c3,dz true p.form.nz.bm,_,cU true (cM (p.sub.map Prf.nz)),cO true (qR p.cv)];rw[cj.1,cj.2];have dn:cU true (cM (p.sub.map Prf.nz))=slA true (some 8) (p.sub.map fun q=>.ag (prC true q.nz)):=by
   unfold cU;rw[uM,eK]
   congr 1
   exact gl fun q _=>o3 true q.nz
  have fe:cO true (qR p.cv)=slA true none (p.aG.map fun l=>b5 true (jX l)):=by
   unfold cO qR;rw[uM,eK];rfl
  rw[dn,fe];rfl
section
attribute [local irreducible] bL bl e6 eB b9
section
variable {env:Env}{aI:Option Nat}{D:AU}{n:Nat}{f:Nat→AV}{I:af}{Q:e5}
theorem GoF.b2M{α:Type}{a b:bB}(L:α→List (Nat×AV))(R:α→af→Prop)(h1:bl env aI D n a f I (fun x dq aq=>(x= .normal∧∃t,R t aq∧sat (L t) dq)∨(x≠ .normal∧Q x dq aq)))(h2:∀t aq g,R t aq→bl env aI D n b (bC (L t) g) aq Q):bl env aI D n (.seq a b) f I Q:=GoF.seq (h1.mono fun x dq aq h=>by
 rcases h with⟨aM,t,e2,dn⟩|⟨aM,e2⟩
 ·subst aM;show bl env aI D n b dq aq Q;exact GoF.norm (L t) dn fun g=>h2 t aq g e2
 ·cases x<;>first|exact absurd rfl aM|exact e2)
end
def hide(U:af):List Nat→af
 |[]=>U
 |J::X=>(hide U X).set J .dead
theorem Xd(U:af):∀X,(hide U X).next=U.next
 |[]=>rfl
 |_::X=>Xd U X
theorem yL{U:af}:∀ {X:List Nat},(∀J∈X,J<U.next)→∀J c,(hide U X).get J=some (.cells c)↔J∉X∧U.get J=some (.cells c)
 |[],_,J,c=>by simp[hide]
 |a::X,h,J,c=>by
  have aA:=yL (U:=U) (X:=X) (fun J ab=>h J (e9 _ ab)) J c;have ha:a<(hide U X).next:=by rw[Xd];exact h a (gz ..)
  show((hide U X).set a .dead).get J=_↔_;rw[af.jg trivial _ ha];by_cases e:J=a
  ·subst e;simp
  ·rw[if_neg e,aA];simp[e]
theorem yM{I U:af}{X Y:List Nat}(pW:∀J∈X,J<I.next)(b2N:∀J∈Y,J<U.next)(b2O:∀J∈Y,J∈X∨I.next≤J)(k:∀J c,J∉X→I.get J=some (.cells c)→U.get J=some (.cells c)):∀J c,(hide I X).get J=some (.cells c)→(hide U Y).get J=some (.cells c):=fun J c ab=>by
 obtain⟨h1,h2⟩:=(yL pW J c).1 ab;refine(yL b2N J c).2 ⟨fun h=>?_,k J c h1 h2⟩;rcases b2O J h with h|h
 ·exact h1 h
 ·have:=af.bW h2;omega
theorem e7.parts{I:af}{M e d:Nat}{p:Prf}{c8 aP a0 aW bK l ey b6:AV}(h:e7 I M e (d+1) p [c8,aP,a0,aW,bK,l,ey,b6]):(c8= .s p.rule∧aP= .i .u8 (Int.ofNat p.form.op)∧a0= .s p.form.name∧l=zI p.aY)∧(ja I M e p.form (.ag [.i .u8 (Int.ofNat p.form.op),.s p.form.name,aW,bK])∧AV.eqb M (.ag [.i .u8 (Int.ofNat p.form.op),.s p.form.name,aW,bK]) (.ag [.i .u8 (Int.ofNat p.form.op),.s p.form.name,aW,bK])=true∧aW.cells=[aW]∧conf none aW=true∧aW.val=true∧bK.cells=[bK]∧conf none bK=true∧bK.val=true)∧
  (∃xs,fu I (some 8) ey xs∧xs.length=p.sub.length∧∀i (h:i<xs.length) (h':i<p.sub.length),∃ea,xs[i]= .ag ea∧e7 I M e d p.sub[i] ea)∧
  ∃eF,fu I none b6 eF∧eF.length=p.aG.length∧∀i (h:i<eF.length) (h':i<p.aG.length),fu I none eF[i] ((p.aG[i].getD []).map zI):=by
 obtain⟨c3C,c3D,c3E,c3F,xs,eF,eb,h1,h2,h3,aE,ba⟩:=h;simp only[pw,and_true] at eb;obtain⟨rfl,rfl,rfl,rfl,rfl,rfl,rfl,rfl⟩:=eb;exact⟨⟨rfl,rfl,rfl,rfl⟩,h1,⟨xs,h2⟩,eF,h3,aE,ba⟩
theorem e7.eight{I:af}{M e d:Nat}{p:Prf}{cs:List AV}(h:e7 I M e d p cs):∃c8 aP a0 aW bK l ey b6,cs=[c8,aP,a0,aW,bK,l,ey,b6]:=by
 cases d with
 |zero=>exact h.elim
 |succ d=>obtain⟨aW,bK,ey,b6,_,_,e,_⟩:=h;exact⟨_,_,_,_,_,_,_,_,e⟩
theorem b2P{xs:List AV}{j:Nat}{l:List AV}(hx:∀y∈xs,∃l:List AV,y= .ag l∧l.length=8)(az:j<xs.length)(ar:l.length=8):storeCells (xs.flatMap AV.cells) (j*8) l=some ((xs.set j (.ag l)).flatMap AV.cells):=by
 have Xe:∀(aO:List AV),(∀y∈aO,∃l:List AV,y= .ag l∧l.length=8)→(aO.flatMap AV.cells).length=aO.length*8:=fun aO h=>by
  rw[AL (ad:=some 8) fun y aw=>by obtain⟨l,rfl,ar⟩:=h y aw;show Nat.beq l.length 8=true;rw[ar];rfl];rfl
 have e:xs=xs.take j++xs[j]::xs.drop (j+1):=by
  conv=>lhs;rw[←nf j xs,sk az]
 obtain⟨vS,cj,h0⟩:=hx _ (aS az);have hA:=Xe (xs.take j) fun y aw=>hx y (oy aw);rw[eL,MR (by omega)] at hA;have hf:xs.flatMap AV.cells=(xs.take j).flatMap AV.cells++(vS++(xs.drop (j+1)).flatMap AV.cells):=by
  conv=>lhs;rw[e]
  rw[il,eG,cj];rfl
 unfold storeCells;rw[if_pos (eu (by rw[Xe xs hx,ar];omega)),hf];rw[List.take_left' hA,← pb,List.drop_left' hA,ar,List.drop_left' h0,Tv,if_pos az,il,eG];rfl
section
variable {b:dW}{K:Nat→List AV→AV→Prop}
theorem b2Q(hh:cY (b.a4 K) H8 MH){a:AV}{xs:List AV}(hlen:xs.length<2^20){I:af}(bD:fu I (some 8) a xs):
  b9 (b.a4 K) 0 (.f (.func H8) [] []) [a] I (fun r U=>∃w,r= .ok w∧(xs=[]→w= .aB)∧h9 U (some 8) w xs∧(∀J l c,w= .ak J 0 l (some 8) c→c=none)∧(∀J,w.bn =some J→I.next≤J)∧b2 I U):=by
 have dV:=bD.conf;refine W.code hh.e hh.p hh.f rfl rfl rfl rfl fun z=>?_;have H:Has I []:=Has.nil;cases bD with
 |nil=>
  refine ae ?_;exact GoF.ret ⟨rfl,.aB,rfl,fun _=>rfl,.nil,(fun _ _ _ h=>by cases h),(fun J h=>by cases h),b2.refl⟩
 |a7 J x xs ah=>
  refine ae ?_;generalize aD:I.next=k;refine W.fJ (c:=[]) H aD rfl rfl rfl fun b1 cG H bE=>?_;refine ae ?_;have hl:Sl b1 (some 8) (.ak k 0 0 (some 8) (some 0)) []:=.ak k (some 0) [] [] (H.get _ (.head _)) (fun y aw=>by simp at aw) (.inr rfl);refine W.I5 x xs hl rfl ah (by simp only[lx,fH] at *;omega) rfl rfl rfl rfl fun w bd A2 EG Oo n2 br=>?_;refine ae ?_;refine GoF.ret ⟨rfl,w,rfl,fun h=>(by cases h),A2,Oo,fun J ab=>?_,by omega,fun i J ab=>br _ _ (fun e=>?_) (bE _ _ ab)⟩
  ·rw[EG] at ab;have:=ia ab;omega
  ·have:=ia e;have:=af.bW ab;omega
 |ak v x xs h=>
  have h':=h;generalize dj:x::xs=b1C at h';cases h' with
  |nil=>cases dj
  |ak J cap _ rest hg ah oW=>
  subst dj;refine ae ?_;generalize aD:I.next=k;refine W.fJ (c:=[]) H aD rfl rfl rfl fun b1 cG H bE=>?_;refine ae ?_;have hl:Sl b1 (some 8) (.ak k 0 0 (some 8) (some 0)) []:=.ak k (some 0) [] [] (H.get _ (.head _)) (fun y aw=>by simp at aw) (.inr rfl);refine W.I5 (w:=.ak J 0 (x::xs).length (some 8) cap) x xs hl ((h.aF fun i J _=>bE i J).read) ah (by simp only[lx,fH] at *;omega) rfl rfl rfl rfl fun w bd A2 EG Oo n2 br=>?_;refine ae ?_;refine GoF.ret ⟨rfl,w,rfl,fun h=>(by cases h),A2,Oo,fun J ab=>?_,by omega,fun i J ab=>br _ _ (fun e=>?_) (bE _ _ ab)⟩
  ·rw[EG] at ab;have:=ia ab;omega
  ·have:=ia e;have:=af.bW ab;omega
structure Xf(b:dW)(K:Nat→List AV→AV→Prop):Prop where
 h:cY (b.a4 K) MP UH
 cp:cY (b.a4 K) H8 MH
 Oq:b.ext og=0∧b.pure og=true
theorem Js(n:Int)(q p:Prf)(h:p.aG.length=p.sub.length):ga n q p=cond (eqL p.rule []&&decide (p.aY=n)) q (.mk p.rule p.form p.aY (p.bm.bind fun _=>cM (List.zipWith (hj n q) p.aG p.sub)) p.cv):=by
 obtain⟨r,F,l,s,m⟩:=p;cases s with
 |none=>rw[ga];rfl
 |some s=>rw[ga,Nj n q (m.getD []) s h];rfl
theorem Xg(hfn:∀g aR r bs,K g aR r→K g aR bs→r=bs)(bD:Xf b K){e u1:Nat}{r:Prf}{n:Int}:∀(d:Nat) (p:Prf),nH e d p→(∀x∈p.pre,x.aG.length=x.sub.length)→(∀x∈p.pre,∀l∈x.aG,K og [b5 true (jX l),zI n] (.b (decide (n∈l.getD []))))→
  ∀(cs tD:List AV) (I:af) (X:List Nat),(∀J∈X,J<I.next)→e7 (hide I X) (b.aV+1000) e d p cs→e7 (hide I X) (b.aV+1000) e u1 r tD→
  b9 (b.a4 K) 0 (.f (.func MP) [] []) [.ag cs,zI n,.ag tD] I (fun w U=>∃ea,w= .ok (.ag ea)∧b2 I U∧e7 (hide U X) (b.aV+1000) e (d+u1) (ga n r p) ea)
 |0,_,h,_,_,_,_,_,_,_,_,_=>h.elim
 |d+1,p,⟨s1,s2,iq,ee,mE⟩,cL,cl,cs,tD,I,X,pW,hp,al=>by
  have aA:=Xg hfn bD (e:=e) (u1:=u1) (r:=r) (n:=n) d;obtain⟨c8,aP,a0,aW,bK,l,ey,b6,rfl⟩:=hp.eight;obtain⟨bw,cQ,eA,ek,hT,jI,jF,kv,rfl⟩:=al.eight;obtain⟨⟨rfl,rfl,rfl,rfl⟩,e3,⟨xs,c2,Ei,NR⟩,eF,hY,NS,I7⟩:=hp.parts;have o6:=cL p (by rw[Prf.gB];exact .head _);have b2R:=cl p (by rw[Prf.gB];exact .head _);have low:∀J c,(hide I X).get J=some (.cells c)→I.get J=some (.cells c):=fun J c ab=>((yL pW J c).1 ab).2;refine W.qQ bD.h.e bD.h.p bD.h.f rfl rfl rfl fun z=>?_;have H:Has I []:=Has.nil;generalize hq:I.next=q;refine ae ?_;refine W.en (c:=[.s p.rule,.i .u8 (Int.ofNat p.form.op),.s p.form.name,aW,bK,zI p.aY,ey,b6]) H hq rfl rfl rfl rfl rfl fun b1 cG H bE=>?_;refine ae ?_;refine W.en (c:=[bw,cQ,eA,ek,hT,jI,jF,kv]) H cG rfl rfl rfl rfl rfl fun bd n2 H br=>?_;refine ae ?_;refine W.bN (c:=dm) H n2 rfl rfl rfl fun bG eh H bb=>?_;have ew:∀J c,I.get J=some c→bG.get J=some c:=fun J c ab=>bb _ _ (br _ _ (bE _ _ ab));have u2:=Js n r p o6;have Jt:∀U:af,q≤U.next→∀J∈X,J<U.next:=fun U h J ab=>by have:=pW J ab;omega
  refine W.nil ?_;show bl _ _ _ _ _ _ _ _;refine GoF.b2M (α:=Unit) (fun _=>[(1,zI n),(3,bo q),(5,bo (q+1)),(6,bo (q+2))]) (fun _ U=>U=bG∧(eqL p.rule []&&decide (p.aY=n))=false) ?_ ?_
  ·refine ae ?_;refine W.bin (v:=.b (eqL p.rule [])) rfl rfl rfl rfl rfl ?_;cases mh:eqL p.rule [] with
   |false=>
    refine ae ?_;exact .inl ⟨rfl,(),⟨rfl,rfl⟩,rfl,rfl,rfl,rfl,trivial⟩
   |true=>
    refine ae ?_;refine W.bin rfl rfl rfl rfl tq ?_;cases ar:decide (p.aY=n) with
    |false=>
     refine ae ?_;exact .inl ⟨rfl,(),⟨rfl,rfl⟩,rfl,rfl,rfl,rfl,trivial⟩
    |true=>
     refine ae ?_;refine W.st (aQ:=[bw,cQ,eA,ek,hT,jI,jF,kv]) H 0 rfl rfl rfl rfl rfl rfl fun cA gU H cm=>?_;refine ae ?_;refine GoF.ret (.inr ⟨fun h=>(by cases h),rfl,_,cT (fR rfl (H.get _ (.head _)) rfl),_,rfl,⟨by omega,fun J c ab=>cm _ _ (by have:=af.bW ab;omega) (ew _ _ ab)⟩,?_⟩);rw[u2,mh,ar];exact e7.mono _ _ (by omega) (e7.aF (yM pW (Jt cA (by omega)) (fun J h=>.inl h) fun J c _ ab=>cm _ _ (by have:=af.bW ab;omega) (ew _ _ ab)) _ al)
  rintro _ U g ⟨rfl,Ct⟩;rw[Ct,cond_false] at u2;refine ae ?_;have b2S:=c2.aF (U:=U) fun i c _ ab=>ew _ _ (low _ _ ab);refine W.dX rfl rfl rfl (b2Q bD.cp (by omega) b2S) fun an cA ⟨w,b2T,pQ,hw,No,r7,iN⟩=>⟨_,b2T,?_⟩
  have H:=H.aF iN.2;have Ef:=iN.1;refine ae ?_;refine W.st (aQ:=[.s p.rule,.i .u8 (Int.ofNat p.form.op),.s p.form.name,aW,bK,zI p.aY,w,b6]) H 2 rfl rfl rfl rfl hw.ak.mx (by rw[hw.ak.cells0];rfl) fun dk h7 H dN=>?_;refine ae ?_;have Ot:∀U,lenA U 1 w=some p.sub.length:=fun U=>by rw[hw.ak.len,Ei]
  refine W.len rfl rfl rfl (Ot _) ?_;refine ae ?_;have I8:dk.get q=some (.cells [.s p.rule,.i .u8 (Int.ofNat p.form.op),.s p.form.name,aW,bK,zI p.aY,w,b6]):=H.get _ (.tail _ (.tail _ (.head _)));have NT:dk.get (q+1)=some (.cells [bw,cQ,eA,ek,hT,jI,jF,kv]):=H.get _ (.tail _ (.head _));have Xh:dk.get (q+2)=some (.cells dm):=H.get _ (.head _);have Ou:∀J c,I.get J=some c→dk.get J=some c:=fun J c ab=>dN _ _ (by have:=af.bW ab;omega) (iN.2 _ _ (ew _ _ ab));have A3:h9 dk (some 8) w xs:=hw.aF fun i c hi ab=>dN _ _ (by have:=r7 _ hi;omega) ab;have Xi:∀J,w.bn =some J→J<dk.next:=fun J ab=>A3.ak.lt ab;have r_:∀U:af,dk.next≤U.next→∀J∈w.bn.toList++(q+2)::X,J<U.next:=fun U h J ab=>by
   rcases dE.1 ab with ab|ab
   ·have:=Xi J (by rwa[GP] at ab);omega
   ·rcases cH.1 ab with rfl|ab
    ·have:=af.bW Xh;omega
    ·have:=pW J ab;omega
  have Xj:∀U:af,dk.next≤U.next→(∀J obj,w.bn ≠some J→dk.get J=some obj→U.get J=some obj)→∀J c,(hide I X).get J=some (.cells c)→(hide U (w.bn.toList++(q+2)::X)).get J=some (.cells c):=fun U h1 h2=>yM pW (r_ U h1) (fun J ab=>by
   rcases dE.1 ab with ab|ab
   ·rw[GP] at ab;have:=r7 J ab;exact .inr (by omega)
   ·rcases cH.1 ab with rfl|ab
    ·exact .inr (by omega)
    ·exact .inl ab) fun J c _ ab=>h2 _ _ (fun e=>by have:=r7 _ e;have:=af.bW ab;omega) (Ou _ _ ab)
  show bl _ _ _ _ _ _ _ _;refine GoF.each p.sub.length (fun j f U=>∃aO:List AV,aO.length=p.sub.length∧h9 U (some 8) w aO∧(∀i (h:i<aO.length) (h':i<p.sub.length),∃qY,aO[i]= .ag qY∧e7 (hide U (w.bn.toList++(q+2)::X)) (b.aV+1000) e (if i<j then d+u1 else d) (if i<j then hj n r (p.aG.getD i none) p.sub[i] else p.sub[i]) qY)∧
   (dk.next≤U.next∧∀J obj,w.bn ≠some J→dk.get J=some obj→U.get J=some obj)∧sat [(1,zI n),(3,bo q),(5,bo (q+1)),(6,bo (q+2)),(24,w)] f) (by omega)
   ⟨xs,Ei,A3,fun i a c=>by
    obtain⟨qY,aM,e2⟩:=NR i a c;rw[if_neg (by omega),if_neg (by omega)];exact⟨qY,aM,(e7.aF (Xj dk (o _) fun _ _ _ h=>h) _ e2)⟩,⟨o _,fun _ _ _ h=>h⟩,rfl,rfl,rfl,rfl,rfl,trivial⟩ rfl rfl (fun j g U az aZ hi hm=>?_) (fun g U aZ hi=>?_)
  ·obtain⟨aO,nQ,qH,yN,⟨yO,qZ⟩,aX⟩:=aZ;refine GoF.norm ((26,ay j)::(25,ay p.sub.length)::[(1,zI n),(3,bo q),(5,bo (q+1)),(6,bo (q+2)),(24,w)]) ⟨hi,hm,aX⟩ fun g=>?_;have Ov:j<aO.length:=by omega
   have yP:j<p.aG.length:=by omega
   have bS:j<eF.length:=by omega
   have yQ:∀J,J<q+3→w.bn ≠some J:=fun J ab e=>by have:=r7 _ e;omega
   have H:Has U [(q,[.s p.rule,.i .u8 (Int.ofNat p.form.op),.s p.form.name,aW,bK,zI p.aY,w,b6]),(q+1,[bw,cQ,eA,ek,hT,jI,jF,kv])]:=(Has.nil.cons (qZ _ _ (yQ _ (by omega)) NT) (by simp)).cons (qZ _ _ (yQ _ (by omega)) I8) (by simp);obtain⟨c3G,nB,AR⟩:=yN j Ov az;rw[if_neg (by omega),if_neg (by omega)] at AR;obtain⟨L,c3H,c3I,ku,Hc,yI,_,Xk⟩:=qH.ak.hc Ov;rw[nB] at Xk;obtain⟨jO,cC,c0,ej,j1,iz,m9,m_,rfl⟩:=AR.eight;refine ae ?_;refine W.cw rfl rfl rfl rfl Hc ?_;refine ae ?_;refine W.kf rfl rfl rfl (jS yI Xk) ?_;refine ae ?_;generalize aD:U.next=k;refine W.bN (c:=dm) H aD rfl rfl rfl fun oh sQ H k7=>?_;refine ae ?_;refine W.st (aQ:=[jO,cC,c0,ej,j1,iz,m9,m_]) H 0 rfl rfl rfl rfl rfl rfl fun fD vO H gr=>?_;have u3:∀J obj,U.get J=some obj→fD.get J=some obj:=fun J obj ab=>gr _ _ (by have:=af.bW ab;omega) (k7 _ _ ab);have Xl:∀J c,(hide I X).get J=some (.cells c)→fD.get J=some (.cells c):=fun J c ab=>u3 _ _ (qZ _ _ (yQ _ (by have:=af.bW (low _ _ ab);omega)) (Ou _ _ (low _ _ ab)));obtain⟨pm,i1,gd⟩:=(hY.aF fun i c _ ab=>Xl _ _ ab).hc bS;have Xm:=(I7 j bS yP).aF fun i c _ ab=>Xl _ _ ab;have r3:bh fD (b.aV+1000) eF[j]=some (b5 true (jX p.aG[j])):=by
    have bg:=Xm.snap (m:=b.aV+999) (aO:=(p.aG[j].getD []).map zI) (z8 fun x hx=>by obtain⟨z,_,rfl⟩:=bQ.1 hx;rfl);rw[bg];unfold b5 jX;rw[uM]
   have b2U:=b2R _ (aS yP);have wK:p.aG.getD j none=p.aG[j]:=by rw[fU,a9 yP];rfl
   have c3J:=Xm.one;refine ae ?_;refine W.cw rfl rfl rfl rfl i1 ?_;refine ae ?_;refine W.kf rfl rfl rfl gd ?_;refine ae ?_;refine W.cg hfn bD.Oq b2U rfl rfl rfl (g9 r3 rfl) ?_;refine ae ?_;have same:∀(a5:af) (b2V:List AV),U.next≤a5.next→(∀J obj,w.bn ≠some J→U.get J=some obj→a5.get J=some obj)→∀i (h:i<aO.length) (h':i<p.sub.length),i≠j→∃qY,aO[i]= .ag qY∧e7 (hide a5 (w.bn.toList++(q+2)::X)) (b.aV+1000) e (if i<j+1 then d+u1 else d) (if i<j+1 then hj n r (p.aG.getD i none) p.sub[i] else p.sub[i]) qY:=fun a5 b2V h1 h2 i h h' fw=>by
    obtain⟨qY,aM,e2⟩:=yN i h h';have dn:(i<j+1)↔i<j:=by omega
    simp only[dn];exact⟨qY,aM,e7.aF (yM (r_ U yO) (r_ a5 (by omega)) (fun J h=>.inl h) fun J c hn ab=>h2 _ _ (fun e=>hn (k6 _ (by rw[e];simp))) ab) _ e2⟩
   cases EH:decide (n∈p.aG[j].getD []) with
   |true=>
    refine ae ?_;refine⟨rfl,rfl,aO,nQ,qH.aF fun i c _ ab=>u3 _ _ ab,fun i h h'=>?_,⟨by omega,fun J obj h ab=>u3 _ _ (qZ _ _ h ab)⟩,rfl,rfl,rfl,rfl,rfl,trivial⟩;by_cases fw:i=j
    ·subst fw;rw[if_pos (by omega),if_pos (by omega),wK,show hj n r p.aG[i] p.sub[i]=p.sub[i] from by unfold hj;rw[EH];rfl];exact⟨_,nB,e7.mono _ _ (by omega)<|e7.aF (yM (r_ U yO) (r_ fD (by omega)) (fun J h=>.inl h) fun J c _ ab=>u3 _ _ ab) _ AR⟩
    ·exact same fD aO (by omega) (fun J obj _ ab=>u3 _ _ ab) i h h' fw
   |false=>
    refine ae ?_;refine W.lZ H rfl rfl rfl (.tail _ (.head _)) rfl (od hw.ak.lf) ?_;refine ae ?_;refine W.dX rfl rfl rfl (aA p.sub[j] (mE _ (aS az)) (fun x hx=>cL x (by rw[Prf.gB];exact e9 _ (gP.2 ⟨_,aS az,hx⟩))) (fun x hx=>cl x (by rw[Prf.gB];exact e9 _ (gP.2 ⟨_,aS az,hx⟩))) _ _ fD (w.bn.toList++(q+2)::X) (r_ fD (by omega))
     (e7.aF (yM (r_ U yO) (r_ fD (by omega)) (fun J h=>.inl h) fun J c _ ab=>u3 _ _ ab) _ AR)
     (e7.aF (Xj fD (by omega) fun J obj h ab=>u3 _ _ (qZ _ _ h ab)) _ al)) fun c3K g0 ⟨My,lr,wL,Xn⟩=>⟨_,lr,?_⟩
    have Ow:=wL.1;have Xo:w= .ak L 0 p.sub.length (some 8) none:=by
     have aj:=qH.ak;have Xp:=No;generalize c3L:w=ww at aj ku Xp;cases aj with
     |nil=>cases ku
     |ak J cap _ _ _ _ _=>
      cases ku;rw[Xp _ _ _ rfl,nQ]
    have b2W:=wL.2 _ _ (u3 _ _ (qH.ex L ku));have c3M:q+3≤L:=by have:=r7 L ku;omega
    have H:=H.aF wL.2;have H:=(H.a8p (lu:=[(q,[.s p.rule,.i .u8 (Int.ofNat p.form.op),.s p.form.name,aW,bK,zI p.aY,w,b6])]) (by exact .cons _ (.cons₂ _ (.cons _ .slnil)))).cons b2W (fun p hp=>by rw[d_.1 hp];show q≠L;omega);have gX:idxSlA (some 8) w j=some (pp L (j*8)):=by
     rw[Xo];have h3:Nat.blt j p.sub.length=true:=eu az;simp only[idxSlA,h3,decide_true,so,if_true,hO];rfl
    obtain⟨d0,d1,d2,d3,d4,d5,d6,d7,rfl⟩:=Xn.eight;have Xq:∀y∈aO,∃l:List AV,y= .ag l∧l.length=8:=fun y aw=>by
     obtain⟨i,hi,rfl⟩:=gm aw;obtain⟨qY,aM,e2⟩:=yN i hi (by omega);obtain⟨_,_,_,_,_,_,_,_,rfl⟩:=e2.eight;exact⟨_,aM,rfl⟩
    refine ae ?_;refine W.cw rfl rfl rfl rfl gX ?_;refine ae ?_;refine W.st (c:=aO.flatMap AV.cells) (aQ:=(aO.set j (.ag [d0,d1,d2,d3,d4,d5,d6,d7])).flatMap AV.cells) H 0 rfl rfl rfl rfl rfl (b2P Xq Ov rfl) fun fk nu H gI=>?_;refine ae ?_;have Xr:∀J obj,w.bn ≠some J→U.get J=some obj→fk.get J=some obj:=fun J obj h ab=>gI _ _ (fun e=>h (by rw[e];exact ku)) (wL.2 _ _ (u3 _ _ ab));refine⟨rfl,rfl,aO.set j (.ag [d0,d1,d2,d3,d4,d5,d6,d7]),by rw[uh];exact nQ,⟨?_,fun J ab=>?_⟩,fun i h h'=>?_,⟨by omega,fun J obj h ab=>Xr _ _ h (qZ _ _ h ab)⟩,rfl,rfl,rfl,rfl,rfl,trivial⟩
    ·have:=Sl.ak (I:=fk) (ad:=some 8) L none (aO.set j (.ag [d0,d1,d2,d3,d4,d5,d6,d7])) [] (by rw[fV];exact H.get _ (.head _)) (fun y aw=>by
      rcases List.mem_or_eq_of_mem_set aw with aw|rfl
      ·obtain⟨l,rfl,ar⟩:=Xq y aw;show Nat.beq l.length 8=true;rw[ar];rfl
      ·rfl) (.inl rfl)
     rw[uh,nQ] at this;rw[Xo];exact this
    ·rw[ku] at ab;cases ab;exact H.get _ (.head _)
    ·have h2:i<aO.length:=by rwa[uh] at h
     by_cases fw:i=j
     ·subst fw;rw[List.getElem_set_self,if_pos (by omega),if_pos (by omega),wK,show hj n r p.aG[i] p.sub[i]=ga n r p.sub[i] from by unfold hj;rw[EH];rfl];exact⟨_,rfl,e7.aF (yM (r_ g0 (by omega)) (r_ fk (by omega)) (fun J h=>.inl h) fun J c hn ab=>gI _ _ (fun e=>hn (k6 _ (by rw[e,ku];simp))) ab) _ Xn⟩
     ·rw[List.getElem_set_ne (fun e=>fw e.symm)];exact same fk aO (by omega) Xr i h2 h' fw
  ·obtain⟨aO,nQ,qH,yN,⟨yO,qZ⟩,aX⟩:=aZ;obtain⟨_,f3,_,f6,f24,_⟩:=aX;refine GoF.norm [(3,bo q),(6,bo (q+2))] ⟨f3,f6,trivial⟩ fun g=>?_;have yQ:∀J,J<q+3→w.bn ≠some J:=fun J ab e=>by have:=r7 _ e;omega
   have H:Has U [(q,[.s p.rule,.i .u8 (Int.ofNat p.form.op),.s p.form.name,aW,bK,zI p.aY,w,b6]),(q+2,dm)]:=(Has.nil.cons (qZ _ _ (yQ _ (by omega)) Xh) (by simp)).cons (qZ _ _ (yQ _ (by omega)) I8) (by simp);refine ae ?_;refine W.st (aQ:=[.s p.rule,.i .u8 (Int.ofNat p.form.op),.s p.form.name,aW,bK,zI p.aY,w,b6]) H 1 rfl rfl rfl rfl rfl rfl fun fk nu H gI=>?_;refine ae ?_;have hall:∀J c,I.get J=some c→fk.get J=some c:=fun J c ab=>by
    have:=af.bW ab;exact gI _ _ (by omega) (qZ _ _ (yQ _ (by omega)) (Ou _ _ ab))
   have Ox:=yM (U:=fk) (Y:=X) pW (Jt fk (by omega)) (fun J h=>.inl h) fun J c _ ab=>hall _ _ ab;have b2X:∀J c,(hide U (w.bn.toList++(q+2)::X)).get J=some (.cells c)→(hide fk X).get J=some (.cells c):=fun J c ab=>by
    obtain⟨h1,h2⟩:=(yL (r_ U yO) J c).1 ab;exact(yL (Jt fk (by omega)) J c).2 ⟨fun h=>h1 (ni _ (e9 _ h)),gI _ _ (fun e=>h1 (ni _ (by rw[e];exact gz ..))) h2⟩
   refine GoF.ret ⟨rfl,_,cT (fR rfl (H.get _ (.tail _ (.head _))) rfl),_,rfl,⟨by omega,hall⟩,?_⟩;rw[u2,show d+1+u1=(d+u1)+1 from by omega];have e8:(Prf.mk p.rule p.form p.aY (p.bm.bind fun _=>cM (List.zipWith (hj n r) p.aG p.sub)) p.cv).sub=List.zipWith (hj n r) p.aG p.sub:=by
    show(p.bm.bind fun _=>cM (List.zipWith (hj n r) p.aG p.sub)).getD []=_;cases ib:p.bm with
    |none=>
     have:p.sub=[]:=by unfold Prf.sub;rw[ib];rfl
     rw[this,BA];rfl
    |some s=>exact js _
   refine⟨aW,bK,w,b6,aO,eF,rfl,⟨ja.aF Ox _ e3.1,e3.2⟩,⟨?_,?_,fun i h h'=>?_⟩,hY.aF fun i c _ ab=>Ox _ _ ab,NS,fun i a c=>(I7 i a c).aF fun i c _ ab=>Ox _ _ ab⟩
   ·have ko:=qH.ak;have b2Y:∀J,w.bn =some J→J∉X:=fun J ab h=>by have:=r7 J ab;have:=pW J h;omega
    have Xs:Sl (hide fk X) (some 8) w aO:=ko.NO fun i c hi ab=>(yL (Jt fk (by omega)) i c).2 ⟨b2Y i hi,gI _ _ (by have:=r7 i hi;omega) ab⟩;generalize uo:aO=Oy at Xs;cases Oy with
    |nil=>
     have q0:p.sub=[]:=l0.1 (by rw[←nQ,uo];rfl);rw[pQ (l0.1 (by rw[Ei,q0];rfl))];exact .nil
    |cons y Oy=>exact .ak _ y Oy Xs
   ·rw[e8,vl,o6,Nat.min_self];exact nQ
   ·have kH:i<p.sub.length:=by omega
    have b2Z:i<p.aG.length:=by omega
    obtain⟨qY,aM,e2⟩:=yN i h kH;rw[if_pos kH,if_pos kH] at e2;have v7:p.aG.getD i none=p.aG[i]:=by rw[fU,a9 b2Z];rfl
    refine⟨qY,aM,?_⟩;have dn:(Prf.mk p.rule p.form p.aY (p.bm.bind fun _=>cM (List.zipWith (hj n r) p.aG p.sub)) p.cv).sub[i]=hj n r p.aG[i] p.sub[i]:=by simp only[e8,zb]
    rw[dn,← v7];exact e7.aF b2X _ e2
end
theorem Xt(k:Int):∀(l:List Int) (i:Nat),oC (.inl 0) (zI k) (setE zI i l)=some (if k∈l then some (.b true) else none)
 |[],i=>rfl
 |x::l,i=>by
  show(match keyEq (.inl 0) (zI k) (zI x) with|none=>none|some true=>some (some (AV.b true))|some false=>oC (.inl 0) (zI k) (setE zI (i+1) l))=_;rw[wD,Xt k l (i+1)];by_cases h:k=x
  ·rw[decide_eq_true h];show some (some (AV.b true))=_;rw[if_pos (by rw[h];exact gz ..)]
  ·rw[decide_eq_false h];show some (if k∈l then some (AV.b true) else none)=_;simp[h]
theorem b3a{l cF:List Int}(h:l.Perm cF):∀a:Int,l.foldl max a=cF.foldl max a:=fun a=>h.foldl_eq' (fun x _ y _ z=>by omega) a
theorem Xu{l cF:List Int}(h:∀n,n∈l↔n∈cF)(a:Int):l.foldl max a=cF.foldl max a:=by
 have key:∀ {l cF:List Int},(∀n,n∈l→n∈cF)→l.foldl max a≤cF.foldl max a:=fun {l cF} h=>by
  obtain⟨h1,h2⟩:=NH a cF;have:∀(l:List Int) (b:Int),b≤cF.foldl max a→(∀n∈l,n∈cF)→l.foldl max b≤cF.foldl max a:=by
   intro l
   induction l with
   |nil=>intro b hb _;exact hb
   |cons n l aA=>intro b hb ar;exact aA (max b n) (Int.max_le.2 ⟨hb,h2 n (ar n (by simp))⟩) fun n hn=>ar n (by simp[hn])
  exact this l a h1 h
 exact Int.le_antisymm (key fun n=>(h n).1) (key fun n=>(h n).2)
theorem Oz(l:List Int):∀a:Int,l.foldl max a=a∨l.foldl max a∈l:=by
 induction l with
 |nil=>intro a;exact .inl rfl
 |cons n l aA=>
  intro a;rcases aA (max a n) with h|h
  ·rw[nh,h];by_cases c:a≤n
   ·right;rw[Int.max_eq_right c];simp
   ·left;exact Int.max_eq_left (by omega)
  ·exact .inr (e9 _ h)
theorem u4{p:Prf}(h:dh p=true):∀x∈p.pre,x.aG.length=x.sub.length∧∀n∈kN x,0≤n∧n≤999:=fun x hx=>by
 have aj:f_ x=true:=hP.1 h x hx;unfold f_ at aj;cases al:eqL x.rule []||eqL x.rule [63] with
 |true=>
  rw[al,cond_true] at aj;simp only[cx,decide_eq_true_eq] at aj;obtain⟨h1,h2,h3⟩:=aj;have hm:x.aG=[]:=l0.1 h2;refine⟨by omega,fun n hn=>?_⟩;have hn:n∈x.aY::x.aG.flatMap fun m=>m.getD []:=hn;rw[hm] at hn;have:n=x.aY:=by simpa using hn
  subst this;cases hD:eqL x.rule [63] with
  |true=>rw[hD,cond_true] at h3;have:=of_decide_eq_true h3;omega
  |false=>
   rw[hD,cond_false] at h3;simp only[cx,decide_eq_true_eq] at h3;omega
 |false=>
  rw[al,cond_false] at aj;simp only[cx,decide_eq_true_eq,hP] at aj;obtain⟨h1,h2,h3⟩:=aj;refine⟨h2.symm,fun n hn=>?_⟩;rcases cH.1 hn with rfl|hn
  ·omega
  ·obtain⟨l,ar,hn⟩:=gP.1 hn;have:=h3 l ar;unfold qU at this;obtain⟨k,aD,rfl⟩:=gm hn;have:=hP.1 this k (Aq.2 aD);unfold kd at this;simp only[cx,decide_eq_true_eq] at this;rw[fU,a9 aD] at this;exact⟨this.1,this.2.1⟩
theorem Xv{p:Prf}(h:dh p=true):∀n∈bN p,0≤n∧n≤999:=fun n hn=>by
 obtain⟨x,hx,hn⟩:=gP.1 hn;exact(u4 h x hx).2 n hn
theorem Xw:∀(d:Nat) (p:Prf),p.cJ≤d→∀n∈(labP p).2,n∈bN p
 |0,p,h=>by have:=p.m5;omega
 |d+1,p,h=>fun n hn=>by
  have e:bN p=kN p++p.sub.flatMap bN:=by unfold bN;rw[Prf.gB,eG,K5]
  rw[e];rcases(V4 p).1 hn with⟨_,rfl⟩|⟨q,hq,hn⟩
  ·exact k6 _ (gz ..)
  ·exact ni _ (gP.2 ⟨q,hq,Xw d q (by have:=Prf.my hq;omega) n hn⟩)
theorem b3b{p:Prf}{n:Int}(h:n∈jr p):n∈bN p:=Xw p.cJ p (o _) n (rr.1 h).1
theorem OA{p q:Prf}(hp:dh p=true)(hq:dh q=true):0≤hN p q∧hN p q≤999:=by
 have h1:0≤kO p∧kO p≤999:=by
  rw[Eb];rcases Oz (bN p) 0 with h|h
  ·rw[h];omega
  ·exact Xv hp _ h
 unfold hN;rcases Oz (jr q) (kO p) with h|h
 ·rw[h];exact h1
 ·exact Xv hq _ (b3b h)
structure Xx(b:dW)(K:Nat→List AV→AV→Prop):Prop where
 h:cY (b.a4 K) yd My
 oq:cY (b.a4 K) H6 MB
 Xy:cY (b.a4 K) DB HE
 Xz:cY (b.a4 K) Al Dw
 cp:AN b K
 ci:cY (b.a4 K) Aj Dv
 aL:cY (b.a4 K) DA Hn
 pu:Xf b K
 Ju:WZ b K
 Er:b.ext rV=0∧b.pure rV=true
 z4:b.ext tc=0∧b.pure tc=true
 b3c:b.ext yf=0∧b.pure yf=true
structure OB(b:dW)(K:Nat→List AV→AV→Prop)(e d:Nat)(p:Prf):Prop where
 nc:nH e d p
 rd:∀U,e7 U (b.aV+1000) e d p (prC true p)
 uO:∀U,bh U (b.aV+1000) (.ag (prC true p))=some (.ag (prC true p))
 ms:K rV [.ag (prC true p)] (.b (dH p))
 ad:K tc [.ag (prC true p)] (.b (dh p))
 b3d:K yf [.ag (prC true p)] (zI ((bN p).foldl max 0))
 ct:∀x∈p.pre,∀i (c:Int),i<x.sub.length→K og [b5 true (x.aG.getD i none),zI c] (.b (decide (c∈wE x i)))
 b3e:∀x∈p.pre,∀l∈x.aG,∀c:Int,K og [b5 true (jX l),zI c] (.b (decide (c∈l.getD [])))
inductive u5(I U:af)(e d:Nat)(p q:Prf)(n:Int):dM→Prop
 |ms (h:(dH p&&dH q)=false):u5 I U e d p q n (.ok (.bJ [.ag dm,ay 5]))
 |ad (h:(dH p&&dH q)=true) (h2:(dh p&&dh q)=false):u5 I U e d p q n (.ok (.bJ [.ag dm,ay 2]))
 |op (h:(dH p&&dH q)=true) (h2:(dh p&&dh q)=true) (h3:fS n p=false):u5 I U e d p q n (.ok (.bJ [.ag dm,ay 6]))
 |hi (h:(dH p&&dH q)=true) (h2:(dh p&&dh q)=true) (h3:fS n p=true) (aE:∃x∈bN (raP (hN p q) q []),999<x):u5 I U e d p q n (.ok (.bJ [.ag dm,ay 2]))
 |XA (h:(dH p&&dH q)=true) (h2:(dh p&&dh q)=true) (h3:fS n p=true) (aE:∀x∈bN (raP (hN p q) q []),x≤999) (ba:dH (ga n (raP (hN p q) q []) p)=false):u5 I U e d p q n (.ok (.bJ [.ag dm,ay 5]))
 |ok (h:(dH p&&dH q)=true) (h2:(dh p&&dh q)=true) (h3:fS n p=true) (aE:∀x∈bN (raP (hN p q) q []),x≤999) (ba:dH (ga n (raP (hN p q) q []) p)=true) (k:dB) (cr:fv U e (d+d) k (ga n (raP (hN p q) q []) p)) (de:I.next≤k.aK) (fi:k.hi≤U.next):u5 I U e d p q n (.ok (.bJ [.ag (eJ k (ga n (raP (hN p q) q []) p)),ay 0]))
section
variable {b:dW}{K:Nat→List AV→AV→Prop}
theorem b3f(hfn:∀g aR r bs,K g aR r→K g aR bs→r=bs)(bD:Xx b K){e d dT:Nat}{p q:Prf}(hp:OB b K e d p)(hq:OB b K e d q)(n:Int)
  (XB:p.cJ≤d∧q.cJ≤d)
  (eM:dH p=true→dH q=true→dh p=true→dh q=true→fS n p=true→(∀x∈bN (raP (hN p q) q []),x≤999)→nH e (d+d) (ga n (raP (hN p q) q []) p)∧K rV [.ag (prC true (ga n (raP (hN p q) q []) p).nz)] (.b (dH (ga n (raP (hN p q) q []) p))))
  (hY:2*e+2*(d+d)+2≤b.aV+1000) (I:af):b9 (b.a4 K) 0 (.f (.func yd) [] []) [.ag (prC true p),zI n,.ag (prC true q)] I (fun r U=>b2 I U∧u5 I U e d p q n r):=by
 refine W.qQ bD.h.e bD.h.p bD.h.f rfl rfl rfl fun z=>?_;have H:Has I []:=Has.nil;generalize z3:I.next=ck;refine ae ?_;refine W.en (c:=prC true p) H z3 rfl rfl rfl (dQ true p).1 (dQ true p).2.1 fun b1 cG H bE=>?_;refine ae ?_;refine W.en (c:=prC true q) H cG rfl rfl rfl (dQ true q).1 (dQ true q).2.1 fun bd n2 H br=>?_;refine ae ?_;refine W.bN (c:=dm) H n2 rfl rfl rfl fun bG eh H bb=>?_;have ew:∀J c,I.get J=some c→bG.get J=some c:=fun J c ab=>bb _ _ (br _ _ (bE _ _ ab));refine ae ?_;refine W.cg hfn bD.Er hp.ms rfl rfl rfl (gO (hp.uO _)) ?_;refine ae ?_;have out:∀(c:Int),True:=fun _=>trivial;cases n8:dH p with
 |false=>
  refine ae ?_;refine W.st (aQ:=dm) H 0 rfl rfl rfl rfl rfl rfl fun cA gU H cm=>?_;refine ae ?_;exact GoF.ret ⟨rfl,_,jV (fR rfl (H.get _ (.head _)) rfl) (cI rfl),⟨by omega,fun i J ab=>cm _ _ (by have:=af.bW ab;omega) (ew _ _ ab)⟩,.ms (by rw[n8];rfl)⟩
 |true=>
 refine ae ?_;refine W.cg hfn bD.Er hq.ms rfl rfl rfl (gO (hq.uO _)) ?_;refine ae ?_;cases vN:dH q with
 |false=>
  refine ae ?_;refine W.st (aQ:=dm) H 0 rfl rfl rfl rfl rfl rfl fun cA gU H cm=>?_;refine ae ?_;exact GoF.ret ⟨rfl,_,jV (fR rfl (H.get _ (.head _)) rfl) (cI rfl),⟨by omega,fun i J ab=>cm _ _ (by have:=af.bW ab;omega) (ew _ _ ab)⟩,.ms (by rw[n8,vN];rfl)⟩
 |true=>
 have hm:(dH p&&dH q)=true:=by rw[n8,vN];rfl
 refine ae ?_;refine W.cg hfn bD.z4 hp.ad rfl rfl rfl (gO (hp.uO _)) ?_;refine ae ?_;cases qE:dh p with
 |false=>
  refine ae ?_;refine W.st (aQ:=dm) H 0 rfl rfl rfl rfl rfl rfl fun cA gU H cm=>?_;refine ae ?_;exact GoF.ret ⟨rfl,_,jV (fR rfl (H.get _ (.head _)) rfl) (cI rfl),⟨by omega,fun i J ab=>cm _ _ (by have:=af.bW ab;omega) (ew _ _ ab)⟩,.ad hm (by rw[qE];rfl)⟩
 |true=>
 refine ae ?_;refine W.cg hfn bD.z4 hq.ad rfl rfl rfl (gO (hq.uO _)) ?_;refine ae ?_;cases eN:dh q with
 |false=>
  refine ae ?_;refine W.st (aQ:=dm) H 0 rfl rfl rfl rfl rfl rfl fun cA gU H cm=>?_;refine ae ?_;exact GoF.ret ⟨rfl,_,jV (fR rfl (H.get _ (.head _)) rfl) (cI rfl),⟨by omega,fun i J ab=>cm _ _ (by have:=af.bW ab;omega) (ew _ _ ab)⟩,.ad hm (by rw[qE,eN];rfl)⟩
 |true=>
 have aj:(dh p&&dh q)=true:=by rw[qE,eN];rfl
 refine ae ?_;have b3g:bG.get ck=some (.cells (prC true p)):=H.get _ (.tail _ (.tail _ (.head _)));have b3h:bG.get (ck+1)=some (.cells (prC true q)):=H.get _ (.tail _ (.head _));have u6:=fun x hx=>(let h:=nH.pre d hp.nc x hx;(⟨h.1,by omega⟩:x.sub.length<2^20∧x.aG.length<2^62))
 have OC:=fun x hx=>(let h:=nH.pre d hq.nc x hx;(⟨h.1,by omega⟩:x.sub.length<2^20∧x.aG.length<2^62))
 refine W.dX rfl rfl rfl (VZ hfn bD.oq bD.Xy bD.Xz bD.pu.Oq d p XB.1 u6 hp.ct (I:=bG) (ptr:=bo ck) fun U M=>pX.p (M.2 _ _ b3g)) fun r cA ⟨bT,bc,dA,kR,hnd,nF,sH,iN⟩=>⟨_,dA,?_⟩
 have H:=H.aF iN.2;have Ef:=iN.1;refine ae ?_;refine W.pK kR rfl rfl rfl rfl rfl (Xt n bc 0) ?_;have xO:v2 false ((if n∈bc then some (AV.b true) else none).getD (.b false)) (if n∈bc then some (AV.b true) else none).isSome= .b (fS n p):=by
  by_cases hx:n∈bc
  ·rw[if_pos hx,(nF n).1 hx];rfl
  ·rw[if_neg hx];cases ab:fS n p with
   |true=>exact absurd ((nF n).2 ab) hx
   |false=>rfl
 rw[xO];have XC:∀J c,I.get J=some c→cA.get J=some c:=fun J c ab=>iN.2 _ _ (ew _ _ ab);cases ab:fS n p with
 |false=>
  refine ae ?_;refine W.st (aQ:=dm) H 0 rfl rfl rfl rfl rfl rfl fun dk h7 H dN=>?_;refine ae ?_;exact GoF.ret ⟨rfl,_,jV (fR rfl (H.get _ (.head _)) rfl) (cI rfl),⟨by omega,fun i J ab=>dN _ _ (by have:=af.bW ab;omega) (XC _ _ ab)⟩,.op hm aj ab⟩
 |true=>
 refine ae ?_;refine W.cg hfn bD.b3c hp.b3d rfl rfl rfl (gO (hp.uO _)) ?_;refine ae ?_;have b3i:=iN.2 _ _ b3h;refine W.dX rfl rfl rfl (VZ hfn bD.oq bD.Xy bD.Xz bD.pu.Oq d q XB.2 OC hq.ct (I:=cA) (ptr:=bo (ck+1)) fun U M=>pX.p (M.2 _ _ b3i)) fun r dk ⟨XD,tE,dA,OD,c3N,Ea,c3O,mA⟩=>⟨_,dA,?_⟩
 have H:=H.aF mA.2;have b3j:=mA.1;refine ae ?_;refine W.VW dk.next rfl OD rfl rfl fun oh sQ kr k7=>?_;have b3k:=k7 _ _ OD;refine ae ?_;generalize c3P:dk.next=cE at *;show bl _ _ _ _ _ _ _ _;have c3Q:XD<cE:=by have:=af.bW OD;omega
 refine W.M1 (α:=Unit) (fun _=>[(3,bo ck),(5,bo (ck+1)),(6,bo (ck+2)),(1,zI n),(8,zI (hN p q))]) (fun _ a5=>a5.next=cE+1∧∀i J,i≠cE→oh.get i=some J→a5.get i=some J) ?_ ?_
 ·refine GoF.block ?_;refine GoF.loop (fun m f a5=>∃seen c,m=(gh seen 0 tE).length∧(c++(gh seen 0 tE).map Prod.fst).Perm tE∧a5.get cE=some (.mapIter (some XD) tE.length seen tE.length)∧a5.next=cE+1∧(∀i J,i≠cE→oh.get i=some J→a5.get i=some J)∧sat [(3,bo ck),(5,bo (ck+1)),(6,bo (ck+2)),(1,zI n),(8,zI (c.foldl max ((bN p).foldl max 0))),(38,.p (some (cE,0)))] f) ?_ (gh [] 0 tE).length ⟨[],[],rfl,by rw[MY];exact .refl _,kr,sQ,fun _ _ _ h=>h,rfl,rfl,rfl,rfl,rfl,rfl,trivial⟩;rintro m f a5 ⟨seen,c,ns,sU,b3l,g3,ca,IX⟩;refine GoF.norm _ IX fun g=>?_;have b3m:Has a5 []:=Has.nil;have H:=b3m;have XE:=ca _ _ (by omega) b3k;refine ae ?_;refine W.vI b3l XE rfl rfl (fun xD=>?_) (fun y aw fD vO XF gr=>?_)
  ·refine ae ?_;refine GoF.exit ?_;rw[xD,List.map_nil,fV] at sU;have e:c.foldl max ((bN p).foldl max 0)=hN p q:=by
    rw[b3a sU];unfold hN;rw[Eb];exact Xu (fun n=>by rw[Ea,I4]) _
   refine⟨rfl,(),⟨g3,ca⟩,rfl,rfl,rfl,rfl,by rw[←e];rfl,trivial⟩
  ·have b3n:=gr _ _ (by omega) XE;have H:Has fD []:=Has.nil;refine ae ?_;refine W.zx aw XF b3n rfl rfl ?_;refine ae ?_;refine W.DU rfl rfl rfl rfl ?_;refine ae ?_;have tu:=Ij seen tE 0 y aw;have hlen:=tu.length_eq;rw[fH] at hlen;have IY:((c++[y.1])++(gh (seen++[y.2]) 0 tE).map Prod.fst).Perm tE:=by
    refine List.Perm.trans ?_ sU;rw[iw];exact(tu.map Prod.fst).append_left c
   refine⟨(gh (seen++[y.2]) 0 tE).length,by omega,seen++[y.2],c++[y.1],rfl,IY,XF,by omega,fun i J hi ab=>gr _ _ hi (ca _ _ hi ab),rfl,rfl,rfl,rfl,?_,rfl,trivial⟩;rw[kW];rfl
 rintro _ g fD ⟨vO,gr⟩;have Jv:∀i J,i≠cE→dk.get i=some J→fD.get i=some J:=fun i J hi ab=>gr _ _ hi (k7 _ _ ab);have EI:∀J c,I.get J=some c→fD.get J=some c:=fun J c ab=>Jv _ _ (by have:=af.bW ab;omega) (mA.2 _ _ (XC _ _ ab));have H:Has fD [(ck+2,dm),(ck+1,prC true q),(ck,prC true p)]:=((Has.nil.cons (Jv _ _ (by omega) (H.get _ (.tail _ (.tail _ (.head _))))) (by simp)).cons (Jv _ _ (by omega) (H.get _ (.tail _ (.head _)))) (by simp)).cons (Jv _ _ (by omega) (H.get _ (.head _))) (by simp);obtain⟨qK,Of⟩:=OA qE eN;have XG:=u4 eN;have b3o:=u4 qE;generalize yR:hN p q=m at *;show bl _ _ _ _ _ _ _ _;refine ae ?_;refine W.dX rfl rfl rfl (cloned_go bD.cp bD.ci bD.aL d q hq.nc (prC true q) fD (hq.rd _)) fun r g0 ⟨k,dA,XH,gd,j9,wL⟩=>⟨_,dA,?_⟩
 have H:=H.aF wL.2;have Ow:=wL.1;generalize b3p:g0.next=hs;refine ae ?_;refine W.mv (c:=eJ k q) H b3p rfl rfl rfl rfl rfl rfl fun fk nu H gI=>?_;refine ae ?_;refine W.Im H nu rfl rfl fun j0 wM H XI ef=>?_;refine ae ?_;have b3q:iv j0 hs 0 (eJ k q):=⟨_,H.get _ (.head _),fun t _=>by rw[hO]⟩
 refine W.dX rfl rfl rfl (W0 bD.Ju qK Of d q hq.nc XG k hs 0 (hs+1) 0 [] [] j0 (fv.aF _ (fun x c _ _ ab=>ef _ _ (gI _ _ ab)) XH) b3q (.inr (by omega)) XI uY.nil (.inr (by omega)) (by omega)) fun r lE ⟨ok,dA,vy,qW,⟨b3r,lb,XJ⟩,jw⟩=>⟨_,dA,?_⟩
 have Ep:b3r=eJ k q:=by have h2:=H.get _ (gz ..);rw[lb] at h2;injection h2 with h2;injection h2
 subst Ep;have b2F:=XH.le;have Jw:∀J obj,J<k.aK→j0.get J=some obj→lE.get J=some obj:=fun J obj h1 ab=>qW _ _ (.inl h1) (by omega) ab;have XK:∀J c,I.get J=some c→lE.get J=some c:=fun J c ab=>Jw _ _ (by have:=af.bW ab;omega) (ef _ _ (gI _ _ (wL.2 _ _ (EI _ _ ab))));have yS:=XG q (by rw[Prf.gB];exact .head _);have b3s:(eJ k q).set (0+5) (zI (l8 q.rule [] q.aY m))=eJ k (raP m q []):=by
  unfold eJ;rw[Ob yS.1,Ez yS.1,Jo yS.1];rfl
 rw[b3s] at XJ;generalize yT:raP m q []=R at *;have H:Has lE [(hs,eJ k R),(ck+2,dm),(ck+1,prC true q),(ck,prC true p)]:=(((Has.nil.cons (Jw _ _ (by omega) (H.get _ (.tail _ (.tail _ (.tail _ (.head _)))))) (by simp)).cons (Jw _ _ (by omega) (H.get _ (.tail _ (.tail _ (.head _))))) (by simp)).cons (Jw _ _ (by omega) (H.get _ (.tail _ (.head _)))) (by simp)).cons XJ (by simp;omega);rcases jw with⟨rfl,jP,b3t⟩|⟨rfl,x,hx,b3u⟩
 case inr=>
  refine ae ?_;refine W.st (aQ:=dm) H 1 rfl rfl rfl rfl rfl rfl fun jY nZ H kn=>?_;refine ae ?_;exact GoF.ret ⟨rfl,_,jV (fR rfl (H.get _ (.tail _ (.head _))) rfl) (cI rfl),⟨by omega,fun i J ab=>kn _ _ (by have:=af.bW ab;omega) (XK _ _ ab)⟩,.hi hm aj ab (by rw[yR,yT];exact⟨x,hx,b3u⟩)⟩
 case inl=>
 obtain⟨lo,oR⟩:=eM n8 vN qE eN ab jP;have EE:2*e≤b.aV+1000:=by omega
 refine ae ?_;refine W.dX rfl rfl rfl (Xg hfn bD.pu (e:=e) (u1:=d) (r:=R) (n:=n) d p hp.nc (fun x hx=>(b3o x hx).1) (fun x hx l ar=>hp.b3e x hx l ar n) (prC true p) (eJ k R) lE [] (by simp) (hp.rd _) (e7.Om EE d (by omega) b3t)) fun r jY ⟨ea,dA,OE,Jx⟩=>⟨_,dA,?_⟩
 have Jx:e7 jY (b.aV+1000) e (d+d) (ga n R p) ea:=Jx;have H:=H.aF OE.2;have c3R:=OE.1;obtain⟨c8,aP,a0,bF,bU,c6,dL,gC,rfl⟩:=Jx.eight;refine ae ?_;generalize b3v:jY.next=kn;refine W.mv (c:=[c8,aP,a0,bF,bU,c6,dL,gC]) H b3v rfl rfl rfl rfl rfl rfl fun nb eg H gG=>?_;have XL:=e7.aF (fun J c ab=>gG J _ ab) _ Jx;refine ae ?_;refine W.cg hfn bD.Er oR rfl rfl rfl (gO (XL.snap _ hY)) ?_;refine ae ?_;have XM:∀J c,I.get J=some c→nb.get J=some c:=fun J c ab=>gG _ _ (OE.2 _ _ (XK _ _ ab));cases XN:dH (ga n R p) with
 |false=>
  refine ae ?_;refine W.st (aQ:=dm) H 2 rfl rfl rfl rfl rfl rfl fun sa ne H A4=>?_;refine ae ?_;exact GoF.ret ⟨rfl,_,jV (fR rfl (H.get _ (.tail _ (.tail _ (.head _)))) rfl) (cI rfl),⟨by omega,fun i J ab=>A4 _ _ (by have:=af.bW ab;omega) (XM _ _ ab)⟩,.XA hm aj ab (by rw[yR,yT];exact jP) (by rw[yR,yT];exact XN)⟩
 |true=>
  refine ae ?_;refine W.dX rfl rfl rfl (cloned_go bD.cp bD.ci bD.aL (d+d) (ga n R p) lo _ nb XL) fun r sa ⟨br,dA,b3w,CF,c3S,OF⟩=>⟨_,dA,?_⟩
  have H:=H.aF OF.2;have c3T:=OF.1;refine ae ?_;refine W.st (aQ:=eJ br (ga n R p)) H 2 rfl rfl rfl rfl rfl rfl fun yU iP H eP=>?_;refine ae ?_;refine GoF.ret ⟨rfl,_,jV (fR rfl (H.get _ (.tail _ (.tail _ (.head _)))) rfl) (cI rfl),⟨by omega,fun i J ab=>eP _ _ (by have:=af.bW ab;omega) (OF.2 _ _ (XM _ _ ab))⟩,?_⟩;have:=u5.ok (I:=I) (U:=yU) (e:=e) (d:=d) hm aj ab (by rw[yR,yT];exact jP) (by rw[yR,yT];exact XN) br (by rw[yR,yT];exact fv.aF _ (fun x c h1 h2 ah=>eP _ _ (by omega) ah) b3w) (by omega) (by omega);rw[yR,yT] at this;exact this
end
end
def XO(m k:Nat)(v:AV):Prop:=k≤12∧(v=ay (m+k)∨(k=12∧v= .fo (m+12)))
theorem EJ{ao:aC→Option AV}{I:af}{x y:aC}{m k:Nat}{v:AV}(av:XO m k v)(h1:ao x=some v)(h2:ao y=some (ay (m+12))):opx 0 ao I (.lO false x y)=some (.val (ay (m+k)) I):=by
 obtain⟨aD,rfl|⟨rfl,rfl⟩⟩:=av
 ·show(match ao x,ao y with|some (.i k a),some (.i l b)=>(if k=l then some (bq.val (.i k (if false then(if b > a then b else a) else(if b<a then b else a))) I) else none)|some (.fo n),some (.i .i64 (.ofNat j))=>cond (Bool.not false&&Nat.ble j n) (some (bq.val (.i .i64 (Int.ofNat j)) I)) none|some (.i .i64 (.ofNat j)),some (.fo n)=>cond (Bool.not false&&Nat.ble j n) (some (bq.val (.i .i64 (Int.ofNat j)) I)) none|_,_=>none)=_;rw[h1,h2];show(if IntKind.i64=IntKind.i64 then some (bq.val (.i .i64 (if Int.ofNat (m+12)<Int.ofNat (m+k) then Int.ofNat (m+12) else Int.ofNat (m+k))) I) else none)=_;rw[if_pos rfl,if_neg (by simp only[tR,Ao];omega)]
 ·show(match ao x,ao y with|some (.i k a),some (.i l b)=>(if k=l then some (bq.val (.i k (if false then(if b > a then b else a) else(if b<a then b else a))) I) else none)|some (.fo n),some (.i .i64 (.ofNat j))=>cond (Bool.not false&&Nat.ble j n) (some (bq.val (.i .i64 (Int.ofNat j)) I)) none|some (.i .i64 (.ofNat j)),some (.fo n)=>cond (Bool.not false&&Nat.ble j n) (some (bq.val (.i .i64 (Int.ofNat j)) I)) none|_,_=>none)=_;rw[h1,h2];show cond (Bool.not false&&Nat.ble (m+12) (m+12)) (some (bq.val (.i .i64 (Int.ofNat (m+12))) I)) none=_;rw[eu (o _)];rfl
theorem b3x{ao:aC→Option AV}{I:af}{x:aC}{id m:Nat}{ad:Option Nat}{c:List AV}(aj:I.get id=some (.cells c))(ah:c.length=m*shN ad)(h1:ao x=some (.ak id 0 m ad none)):
  opx 0 ao I (.cap x)=some (.hy ((List.range 12).map (fun k=>(AV.i .i64 (Int.ofNat (m+k)),I.set id (.eT c (k*shN ad))))++[(AV.fo (m+12),I.set id (.eT c (12*shN ad)))])):=by
 show(match ao x with|some x=>(match capA x with|some n=>some (bq.val (.i .i64 (Int.ofNat n)) I)|none=>capO 0 I x)|none=>none)=_;rw[h1];show(cond (Nat.blt id 0) none (match I.get id with|some (.cells c)=>cond (Nat.beq c.length (0+m*shN ad)) (some (bq.hy ((List.range 12).map (fun k=>(AV.i .i64 (Int.ofNat (m+k)),I.set id (.eT c (k*shN ad))))++[(AV.fo (m+12),I.set id (.eT c (12*shN ad)))]))) none|_=>none))=_;rw[aj];show cond (Nat.blt id 0) none (cond (Nat.beq c.length (0+m*shN ad)) _ none)=_;rw[show Nat.blt id 0=false from by simp[Nat.blt,Nat.ble],cond_false,hO,ah,fy,cond_true]
theorem EK{ao:aC→Option AV}{I:af}{x hi:aC}{id m k r:Nat}{ad:Option Nat}{c:List AV}(aj:I.get id=some (.eT c r))(ah:c.length=m*shN ad)(al:r=k*shN ad)(h0:0<shN ad)(h1:ao x=some (.ak id 0 m ad none))(h2:ao hi=some (ay (m+k))):
  opx 0 ao I (.kX ad x none (some hi) none)=some (.val (.ak id 0 (m+k) ad none) I):=by
 show(match ao x with|some x=>(match sliceA ao ad x none (some hi) none with|some v=>some (bq.val v I)|none=>sliceX I ao ad x none (some hi) none)|none=>none)=_;rw[h1];show(match sliceA ao ad (.ak id 0 m ad none) none (some hi) none with|some v=>some (bq.val v I)|none=>sliceX I ao ad (.ak id 0 m ad none) none (some hi) none)=_;have hb:bndO ao (some hi) m=some (m+k):=by show(match ao hi with|some v=>natOf v|none=>none)=_;rw[h2];rfl
 have XP:bndO ao none 0=some 0:=rfl;rcases Nat.eq_zero_or_pos k with rfl|aD
 ·have e:sliceA ao ad (.ak id 0 m ad none) none (some hi) none=some (.ak id 0 m ad none):=by
   have iS:Nat.ble 0 m=true:=eu (hv m);have iT:Nat.ble m m=true:=eu (o m);simp only[sliceA,if_true,XP,hb,ti,iS,iT];simp
  rw[e];rfl
 ·have e:sliceA ao ad (.ak id 0 m ad none) none (some hi) none=none:=by
   have iS:Nat.ble 0 (m+k)=true:=eu (hv _);have iT:Nat.ble (m+k) m=false:=by
    cases h:Nat.ble (m+k) m with
    |false=>rfl
    |true=>have:=eV h;omega
   have k2:Nat.beq (m+k) m=false:=by
    cases h:Nat.beq (m+k) m with
    |false=>rfl
    |true=>have:=fm h;omega
   simp only[sliceA,if_true,XP,hb,iS,iT,k2,za,xx,if_false];simp
  rw[e];show(match(AV.ak id 0 m ad none),ao hi with
   | .ak id off len fp none,some (.i .i64 (.ofNat k))=>(match I.get id with
    |some (.eT c r)=>cond (decide (fp=ad)&&(Nat.blt 0 (shN fp)&&(Nat.ble len k&&Nat.ble (off+k*shN fp) (c.length+r)))) (some (bq.val (.ak id off k fp none) I)) none
    |_=>none)
   |_,_=>none)=_
  rw[h2];show(match I.get id with
    |some (.eT c r)=>cond (decide (ad=ad)&&(Nat.blt 0 (shN ad)&&(Nat.ble m (m+k)&&Nat.ble (0+(m+k)*shN ad) (c.length+r)))) (some (bq.val (.ak id 0 (m+k) ad none) I)) none
    |_=>none)=_
  rw[aj];show cond (decide (ad=ad)&&(Nat.blt 0 (shN ad)&&(Nat.ble m (m+k)&&Nat.ble (0+(m+k)*shN ad) (c.length+r)))) _ none=_;rw[show decide (ad=ad)=true from by simp,show Nat.blt 0 (shN ad)=true from eu h0,eu (sI m k),eu (by rw[ah,al,hO,ju];exact o _)];rfl
theorem b3y{ao:aC→Option AV}{I:af}{ad:Option Nat}{a x:aC}{id off r:Nat}{v:AV}{c:List AV}(aj:I.get id=some (.eT c r))(h1:ao a=some (.p (some (id,off))))(h2:ao x=some v)(dV:conf ad v=true)(dJ:c.length≤off∧off+v.cells.length≤c.length+r∨off+v.cells.length≤c.length):
  ∃aQ,aQ.length=c.length∧opx 0 ao I (.store ad a x)=some (.val dR (I.set id (.eT aQ r))):=by
 have key:∃aQ,aQ.length=c.length∧(cond (Nat.ble c.length off&&Nat.ble (off+v.cells.length) (c.length+r)) (some c) (storeCells c off v.cells))=some aQ:=by
  cases hq:(Nat.ble c.length off&&Nat.ble (off+v.cells.length) (c.length+r)) with
  |true=>exact⟨c,rfl,rfl⟩
  |false=>
   rcases dJ with⟨iS,iT⟩|h
   ·rw[eu iS,eu iT] at hq;cases hq
   ·refine⟨c.take off++(v.cells++c.drop (off+v.cells.length)),?_,?_⟩
    ·simp only[cR,eL,ng];omega
    ·rw[cond_false];unfold storeCells;rw[if_pos (eu h)]
 obtain⟨aQ,aM,e2⟩:=key;refine⟨aQ,aM,?_⟩;show(match ao a,ao x with
  |some (.p (some (id,off))),some v=>
   if Nat.blt id 0 then none else
   if conf ad v then
    match I.get id with
    |some (.cells c)=>match storeCells c off v.cells with
     |some c=>some (bq.val dR (I.set id (.cells c)))
     |none=>none
    |some (.eT c r)=>pf I id c r off v.cells
    |_=>none
   else none
  |_,_=>none)=_
 rw[h1,h2];show(if Nat.blt id 0 then none else if conf ad v then(match I.get id with
    |some (.cells c)=>match storeCells c off v.cells with
     |some c=>some (bq.val dR (I.set id (.cells c)))
     |none=>none
    |some (.eT c r)=>pf I id c r off v.cells
    |_=>none) else none)=_
 rw[if_neg (by simp[Nat.blt,Nat.ble]),if_pos dV,aj];show(match(cond (Nat.ble c.length off&&Nat.ble (off+v.cells.length) (c.length+r)) (some c) (storeCells c off v.cells)) with|some c=>some (bq.val dR (I.set id (.eT c r)))|none=>none)=_;rw[e2]
namespace W
section
variable {b0:lv}{env:Env}{aI:Option Nat}{D:List (Nat ⊕ (AV×List AV))}{n:Nat}{F:List (Nat×AV)}{z:Nat→AV}{I:af}{Q:e5}
theorem b3z{d:Nat}{op:AOp}{g:Option (Nat×Bool)}{ops:List a1}{l:List (AV×af)}(au:Nat.blt d n=true)(hw:wtL g n F=true)(ab:opx 0 (cq env n F z) I op=some (.hy l))(ar:l≠[])(h:∀p∈l,bL .pl env aI D n ops (bC ((d,p.1)::F) z) p.2 Q):bL .pl env aI D n (⟨some d,op,g,[]⟩::ops) (bC F z) I Q:=
 gV.hy au (rR hw) (by rw[m1];exact ab) ar h
theorem cp{d:Nat}{x:aC}{g:Option (Nat×Bool)}{ops:List a1}{id m:Nat}{ad:Option Nat}{c:List AV}(aj:I.get id=some (.cells c))(ah:c.length=m*shN ad)(au:Nat.blt d n=true)(hw:wtL g n F=true)(h1:cq env n F z x=some (.ak id 0 m ad none))
  (h:∀v k U,XO m k v→U.next=I.next→U.get id=some (.eT c (k*shN ad))→(∀i J,i≠id→I.get i=some J→U.get i=some J)→bL .pl env aI D n ops (bC ((d,v)::F) z) U Q):bL .pl env aI D n (⟨some d,.cap x,g,[]⟩::ops) (bC F z) I Q:=by
 refine b3z au hw (b3x aj ah h1) (by simp) fun p hp=>?_;rcases dE.1 hp with hp|hp
 ·obtain⟨k,aD,rfl⟩:=bQ.1 hp;exact h _ k _ ⟨by have:=Aq.1 aD;omega,.inl rfl⟩ rfl (j_ aj).1 (j_ aj).2
 ·rw[d_.1 hp];exact h _ 12 _ ⟨o _,.inr ⟨rfl,rfl⟩⟩ rfl (j_ aj).1 (j_ aj).2
theorem gD{ad:Option Nat}{a x:aC}{g:Option (Nat×Bool)}{ops:List a1}{id off r:Nat}{v:AV}{c:List AV}(aj:I.get id=some (.eT c r))(hw:wtL g n F=true)(h1:cq env n F z a=some (.p (some (id,off))))(h2:cq env n F z x=some v)(dV:conf ad v=true)(dJ:c.length≤off∧off+v.cells.length≤c.length+r∨off+v.cells.length≤c.length)
  (h:∀aQ U,aQ.length=c.length→U.next=I.next→U.get id=some (.eT aQ r)→(∀i J,i≠id→I.get i=some J→U.get i=some J)→bL b0 env aI D n ops (bC F z) U Q):bL b0 env aI D n (⟨none,.store ad a x,g,[]⟩::ops) (bC F z) I Q:=by
 obtain⟨aQ,aM,e2⟩:=b3y (ao:=cq env n F z) aj h1 h2 dV dJ;exact uw hw e2 (h aQ _ aM rfl (j_ aj).1 (j_ aj).2)
end
end W
def eR(ids:List Nat)(I U:af):Prop:=I.next≤U.next∧∀i J,i∉ids→I.get i=some J→U.get i=some J
theorem eR.refl{ids:List Nat}{I:af}:eR ids I I:=⟨o _,fun _ _ _ h=>h⟩
theorem eR.trans{ids:List Nat}{I U a5:af}(h:eR ids I U)(h':eR ids U a5):eR ids I a5:=⟨l_ h.1 h'.1,fun i J a b=>h'.2 i J a (h.2 i J a b)⟩
theorem eR.wide{ids cn:List Nat}{I U:af}(h:eR ids I U)(h1:∀i∈ids,i∈cn):eR cn I U:=⟨h.1,fun i J a b=>h.2 i J (fun c=>a (h1 i c)) b⟩
def l9(I:af)(P:List Nat→AV→Prop)(ad:Option Nat)(ids:List Nat)(w:AV):Prop:=
 (ids=[]∧w= .aB)∨∃(k:Nat) (xs:List AV) (ii:List (List Nat)) (cap:Option Nat),ids=k::ii.flatten∧w= .ak k 0 xs.length ad cap∧(cap=none∨cap=some xs.length)∧xs.length<2^20∧I.get k=some (.cells (xs.flatMap AV.cells))∧(∀y∈xs,conf ad y=true)∧ii.length=xs.length∧∀i (h:i<xs.length) (h':i<ii.length),P (ii[i]) (xs[i])
theorem l9.aF{I U:af}{P gY:List Nat→AV→Prop}{ad:Option Nat}{ids:List Nat}{w:AV}(aD:∀i∈ids,∀c,I.get i=some (.cells c)→U.get i=some (.cells c))(hM:∀cn v,(∀j∈cn,j∈ids)→P cn v→gY cn v)(h:l9 I P ad ids w):l9 U gY ad ids w:=by
 rcases h with h|⟨k,xs,ii,cap,rfl,h2,h3,zo,aE,ba,cr,de⟩
 ·exact .inl h
 ·exact .inr ⟨k,xs,ii,cap,rfl,h2,h3,zo,aD k (gz ..) _ aE,ba,cr,fun i a b=>hM _ _ (fun j az=>e9 _ (vB.2 ⟨_,aS b,az⟩)) (de i a b)⟩
def kg(I:af):Nat→List Nat→AV→Prop
 |0,_,_=>False
 |d+1,ids,v=>∃A5 s w,v= .ag [.b A5,.s s,w]∧l9 I (kg I d) (some 3) ids w
def lH(I:af):Nat→List Nat→AV→Prop
 |0,_,_=>False
 |d+1,ids,v=>∃op s aW bK i1 i2,v= .ag [.i .u8 op,.s s,aW,bK]∧ids=i1++i2∧l9 I (kg I d) (some 3) i1 aW∧l9 I (lH I d) (some 4) i2 bK
theorem kg.aF{I U:af}:∀(d:Nat) {ids:List Nat} {v:AV},(∀i∈ids,∀c,I.get i=some (.cells c)→U.get i=some (.cells c))→kg I d ids v→kg U d ids v
 |0,_,_,_,h=>h
 |d+1,_,_,k,⟨A5,s,w,e,h⟩=>⟨A5,s,w,e,h.aF k fun cn v az h=>kg.aF d (fun i hi=>k i (az i hi)) h⟩
theorem lH.aF{I U:af}:∀(d:Nat) {ids:List Nat} {v:AV},(∀i∈ids,∀c,I.get i=some (.cells c)→U.get i=some (.cells c))→lH I d ids v→lH U d ids v
 |0,_,_,_,h=>h
 |d+1,_,_,k,⟨op,s,aW,bK,i1,i2,e,e2,h,h'⟩=>by
  subst e2;exact⟨op,s,aW,bK,i1,i2,e,rfl,h.aF (fun i hi=>k i (k6 _ hi)) fun cn v az h=>kg.aF d (fun i hi=>k i (k6 _ (az i hi))) h,
   h'.aF (fun i hi=>k i (ni _ hi)) fun cn v az h=>lH.aF d (fun i hi=>k i (ni _ (az i hi))) h⟩
theorem Jy{k:Nat}{ii:List (List Nat)}(h:(k::ii.flatten).Nodup):(∀i (h:i<ii.length),k∉ii[i]∧(ii[i]).Nodup)∧∀i j (h:i<ii.length) (h':j<ii.length),i≠j→∀x∈ii[i],x∉ii[j]:=by
 obtain⟨h1,h2⟩:=Bz.1 h;obtain⟨h3,aE⟩:=Tw.1 h2;refine⟨fun i hi=>⟨fun aD=>h1 (vB.2 ⟨_,aS hi,aD⟩),h3 _ (aS hi)⟩,fun i j hi az fw x hx gp=>?_⟩;have ba:=yj.1 aE;rcases GO fw with h|h
 ·exact ba i j hi az h x hx x gp rfl
 ·exact ba j i az hi h x gp x hx rfl
theorem A6{ad:Option Nat}:∀ {xs:List AV},(∀y∈xs,conf ad y=true)→(xs.flatMap AV.cells).length=xs.length*shN ad
 |[],_=>by simp
 |x::xs,h=>by
  rw[eG,cR,A6 fun y aw=>h y (e9 _ aw),qn (h x (by simp)),fH,yk,qf]
section
attribute [local irreducible] bL bl e6 eB b9
theorem b3A(i:Nat):wrapN .u8 (Int.ofNat i)=Int.ofNat (i%256):=by
 show(Int.ofNat i)%(2^8:Int)=_;simp
theorem b3B{ao:aC→Option AV}{I:af}{x:aC}{k:IntKind}{i:Nat}(h:ao x=some (.i k (Int.ofNat i))):opx 0 ao I (.conv .u8 x)=some (.val (.i .u8 (Int.ofNat (i%256))) I):=by
 show(match ao x with|some (.i _ n)=>some (bq.val (.i .u8 (wrapN .u8 n)) I)|some (.h4 _ d j)=>none|_=>none)=_;rw[h];show some (bq.val (.i .u8 (wrapN .u8 (Int.ofNat i))) I)=_;rw[b3A]
theorem Jz{i s:Nat}(aj:s≤64):binop .shr (ay i) (.i .u64 (Int.ofNat s))=some (ay (i/2^s)):=by
 show(if Int.ofNat s<0 then none else some (AV.i .i64 ((Int.ofNat i).fdiv (2^(min (Int.ofNat s).toNat 64)))))=_;rw[if_neg (by simp)];have:(Int.ofNat s).toNat=s:=rfl;rw[this,MR aj]
 congr 2
 show(Int.ofNat i).fdiv ((2:Int)^s)=Int.ofNat (i/2^s);rw[show((2:Int)^s)=Int.ofNat (2^s) from by simp];exact(Int.ofNat_fdiv _ _).symm
theorem tF{ao:aC→Option AV}{I:af}{x y:aC}{a c:Nat}(h1:ao x=some (ay a))(h2:ao y=some (ay c))(h:a≤c):opx 0 ao I (.lO false x y)=some (.val (ay a) I):=by
 show(match ao x,ao y with|some (.i k a),some (.i l b)=>(if k=l then some (bq.val (.i k (if false then(if b > a then b else a) else(if b<a then b else a))) I) else none)|some (.fo n),some (.i .i64 (.ofNat j))=>cond (Bool.not false&&Nat.ble j n) (some (bq.val (.i .i64 (Int.ofNat j)) I)) none|some (.i .i64 (.ofNat j)),some (.fo n)=>cond (Bool.not false&&Nat.ble j n) (some (bq.val (.i .i64 (Int.ofNat j)) I)) none|_,_=>none)=_;rw[h1,h2];show(if IntKind.i64=IntKind.i64 then some (bq.val (.i .i64 (if Int.ofNat c<Int.ofNat a then Int.ofNat c else Int.ofNat a)) I) else none)=_;rw[if_pos rfl,if_neg (by simp;omega)]
theorem EL{c v:List AV}{off:Nat}(h:off+v.length≤c.length):∃aQ,storeCells c off v=some aQ∧aQ.length=c.length:=by
 refine⟨c.take off++(v++c.drop (off+v.length)),?_,?_⟩
 ·unfold storeCells;rw[if_pos (eu h)]
 ·simp only[cR,eL,ng];omega
theorem b3C{ao:aC→Option AV}{hi:aC}{k m:Nat}{ad:Option Nat}(h:ao hi=some (ay m)):sliceA ao ad (.ak k 0 m ad (some m)) none (some hi) none=some (.ak k 0 m ad (some m)):=by
 have hb:bndO ao (some hi) m=some m:=by show(match ao hi with|some v=>natOf v|none=>none)=_;rw[h];rfl
 have h0:bndO ao none 0=some 0:=rfl;have h1:Nat.ble 0 m=true:=eu (hv m);have h2:Nat.ble m m=true:=eu (o m);simp only[sliceA,if_true,h0,hb,h1,h2,w1,ti,ite_self,F1]
def o8(k i:Nat):List Nat:=[35,k%256,k/2^8%256,k/2^16%256,47,i%256,i/2^8%256,i/2^16%256]
abbrev wN(i:Nat):List AV:=[.b false,.s (o8 2 i),.aB]
abbrev wO(i:Nat):List AV:=[.i .u8 0,.s (o8 2 i),.aB,.aB]
section
variable {b:dW}{K:Nat→List AV→AV→Prop}
theorem W.A7{b0:lv}{env:Env}{aI:Option Nat}{D:List (Nat ⊕ (AV×List AV))}{n:Nat}{F:List (Nat×AV)}{z:Nat→AV}{I:af}{Q:e5}{d:Nat}{x:aC}{g:Option (Nat×Bool)}{ops:List a1}{k:IntKind}{i:Nat}(au:Nat.blt d n=true)(hw:wtL g n F=true)(h1:cq env n F z x=some (.i k (Int.ofNat i)))(h:bL b0 env aI D n ops (bC ((d,.i .u8 (Int.ofNat (i%256)))::F) z) I Q):bL b0 env aI D n (⟨some d,.conv .u8 x,g,[]⟩::ops) (bC F z) I Q:=W.val au hw (b3B h1) h
theorem b3D(i:Nat):byteOf (.i .u8 (Int.ofNat (i%256)))=some (i%256):=by
 show cond (Nat.blt (i%256) 256) _ _=_;rw[show Nat.blt (i%256) 256=true from by simp[Nat.blt,Fb];have:=Nat.mod_lt i (show 256 > 0 by decide);omega];rfl
theorem b3E(k i:Nat)(body:bB)(hb:HT.body=some body):GoF (b.a4 K) HT.ntmps body (eS [ay k,ay i]) ⟨.nil,0⟩ (gi HT.results (.s (o8 k i))):=by
 cases hb;refine W.args fun z=>?_;have H:Has (⟨.nil,0⟩:af) []:=Has.nil;refine ae ?_;refine W.A7 rfl rfl rfl ?_;refine ae ?_;refine W.bin rfl rfl rfl rfl (Jz (s:=8) (by decide)) ?_;refine W.A7 rfl rfl rfl ?_;refine ae ?_;refine W.bin rfl rfl rfl rfl (Jz (s:=16) (by decide)) ?_;refine W.A7 rfl rfl rfl ?_;refine ae ?_;refine W.A7 rfl rfl rfl ?_;refine ae ?_;refine W.bin rfl rfl rfl rfl (Jz (s:=8) (by decide)) ?_;refine W.A7 rfl rfl rfl ?_;refine ae ?_;refine W.bin rfl rfl rfl rfl (Jz (s:=16) (by decide)) ?_;refine W.A7 rfl rfl rfl ?_;refine W.fJ (c:=(o8 k i).map fun x=>.i .u8 (Int.ofNat x)) H rfl rfl rfl rfl fun U cG H bE=>?_;have hg:=H.get _ (.head _);refine W.val (v:=.s (o8 k i)) (aq:=U) rfl rfl ?_ ?_
 ·have al:readList U (.ak 0 0 8 none (some 8))=some ((o8 k i).map fun x=>AV.i .u8 (Int.ofNat x)):=by
   show(match U.get 0 with|some (.cells c)=>elems none 8 (c.drop 0)|_=>none)=_;rw[hg];rfl
  have hm:mapO byteOf ((o8 k i).map fun x=>AV.i .u8 (Int.ofNat x))=some (o8 k i):=by
   show mapO byteOf [_,_,_,_,_,_,_,_]=_;simp only[mapO_cons,BP,b3D];rfl
  show(match readList U (.ak 0 0 8 none (some 8)) with|some l=>(match mapO byteOf l with|some l=>some (bq.val (.s l) U)|none=>none)|none=>none)=_;rw[al];simp only[hm]
 refine ae ?_;exact GoF.ret ⟨rfl,_,cT (cI rfl),rfl⟩
theorem b3F(hfn:∀g aR r bs,K g aR r→K g aR bs→r=bs)(e:b.ext pN=0∧b.pure pN=true)(i:Nat)(cl:K pN [ay 2,ay i] (.s (o8 2 i)))(body:bB)(hb:HR.body=some body):GoF (b.a4 K) HR.ntmps body (eS [ay 2,ay i]) ⟨.nil,0⟩ (gi HR.results (.ag (wN i))):=by
 cases hb;refine W.args fun z=>?_;have H:Has (⟨.nil,0⟩:af) []:=Has.nil;refine ae ?_;refine W.bN (c:=[.b false,.s [],.aB]) H rfl rfl rfl rfl fun U cG H bE=>?_;refine ae ?_;refine W.cg hfn e cl rfl rfl rfl rfl ?_;refine ae ?_;refine W.st (aQ:=wN i) H 0 rfl rfl rfl rfl rfl rfl fun bd n2 H br=>?_;refine ae ?_;exact GoF.ret ⟨rfl,_,cT (fR rfl (H.get _ (.head _)) rfl),rfl⟩
theorem b3G(hfn:∀g aR r bs,K g aR r→K g aR bs→r=bs)(e:b.ext pN=0∧b.pure pN=true)(i:Nat)(cl:K pN [ay 2,ay i] (.s (o8 2 i)))(body:bB)(hb:HS.body=some body):GoF (b.a4 K) HS.ntmps body (eS [ay 2,ay i]) ⟨.nil,0⟩ (gi HS.results (.ag (wO i))):=by
 cases hb;refine W.args fun z=>?_;have H:Has (⟨.nil,0⟩:af) []:=Has.nil;refine ae ?_;refine W.bN (c:=[.i .u8 0,.s [],.aB,.aB]) H rfl rfl rfl rfl fun U cG H bE=>?_;refine ae ?_;refine W.cg hfn e cl rfl rfl rfl rfl ?_;refine ae ?_;refine W.st (aQ:=wO i) H 0 rfl rfl rfl rfl rfl rfl fun bd n2 H br=>?_;refine ae ?_;exact GoF.ret ⟨rfl,_,cT (fR rfl (H.get _ (.head _)) rfl),rfl⟩
theorem EM{ao:aC→Option AV}{I:af}{x hi:aC}{k m:Nat}{ad:Option Nat}(h1:ao x=some (.ak k 0 m ad (some m)))(h2:ao hi=some (ay m)):opx 0 ao I (.kX ad x none (some hi) none)=some (.val (.ak k 0 m ad (some m)) I):=by
 show(match ao x with|some x=>(match sliceA ao ad x none (some hi) none with|some v=>some (bq.val v I)|none=>sliceX I ao ad x none (some hi) none)|none=>none)=_;rw[h1];show(match sliceA ao ad (.ak k 0 m ad (some m)) none (some hi) none with|some v=>some (bq.val v I)|none=>sliceX I ao ad (.ak k 0 m ad (some m)) none (some hi) none)=_;rw[b3C h2]
theorem XQ(hfn:∀g aR r bs,K g aR r→K g aR bs→r=bs)(hh:cY (b.a4 K) H3 MJ)(e:b.ext tb=0∧b.pure tb=true)(hm:∀i,K tb [ay 2,ay i] (.ag (wN i))){P:af→List Nat→AV→Prop}(hM:∀I U cn v,(∀i∈cn,∀c,I.get i=some (.cells c)→U.get i=some (.cells c))→P I cn v→P U cn v)
  (ah:∀cn v I,cn.Nodup→P I cn v→b9 (b.a4 K) 0 (.f (.func H4) [] []) [v] I (fun r U=>r= .ok (.bJ [])∧eR cn I U))
  {ids:List Nat} {w:AV} {I:af} (hnd:ids.Nodup) (hw:l9 I (P I) (some 3) ids w):b9 (b.a4 K) 0 (.f (.func H3) [] []) [w] I (fun r U=>r= .ok (.bJ [])∧eR ids I U):=by
 refine W.rP hh.e hh.p hh.f rfl rfl rfl fun z=>?_;have H:Has I []:=Has.nil;rcases hw with⟨rfl,rfl⟩|⟨k,xs,ii,cap,rfl,rfl,gw,hlen,hg,dV,j6,c2⟩
 ·refine ae ?_;refine GoF.block (GoF.loop (fun k F U=>U=I∧sat [(0,.aB),(2,ay 0)] F) (fun k F U aZ=>?_) 0 ⟨rfl,rfl,rfl,trivial⟩);obtain⟨cj,aX⟩:=aZ;have cj:=cj.symm;subst cj;refine GoF.norm _ aX fun F=>?_;refine ae ?_;refine GoF.exit ?_;show bl _ _ _ _ _ _ _ _;refine ae ?_;refine W.val (v:=ay 0) (aq:=_) rfl rfl rfl ?_;refine ae ?_;refine W.val (v:=ay 0) (aq:=_) rfl rfl (tF rfl rfl (hv _)) ?_;refine ae ?_;refine GoF.block (GoF.loop (fun k F U=>U=I∧sat [(3,.aB),(4,ay 0)] F) (fun k F U aZ=>?_) 0 ⟨rfl,rfl,rfl,trivial⟩);obtain⟨cj,aX⟩:=aZ;have cj:=cj.symm;subst cj;refine GoF.norm _ aX fun F=>?_;refine ae ?_;refine GoF.exit ?_;exact⟨.inr rfl,rfl,eR.refl⟩
 ·obtain⟨tG,uX⟩:=Jy hnd;obtain⟨n,hn⟩:∃n,xs.length=n:=⟨_,rfl⟩
  rw[hn] at gw hlen ⊢;have cP:∀i (h:i<ii.length),∀x∈ii[i],x∈k::ii.flatten:=fun i h x hx=>e9 _ (vB.2 ⟨_,aS h,hx⟩);refine ae ?_;refine GoF.block (GoF.loop (fun m F U=>∃j,j+m=n∧U.get k=some (.cells (xs.flatMap AV.cells))∧(∀i (h:i<xs.length) (h':i<ii.length),j≤i→P U (ii[i]) (xs[i]))∧eR (k::ii.flatten) I U∧sat [(0,.ak k 0 n (some 3) cap),(2,ay j)] F) (fun m F U aZ=>?_) n ⟨0,by omega,hg,fun i h h' _=>c2 i h h',eR.refl,rfl,rfl,trivial⟩);obtain⟨j,az,hg,c2,fl,aX⟩:=aZ;refine GoF.norm _ aX fun F=>?_;clear aX H;have H:Has U []:=Has.nil;have av:qO U (some 3) (.ak k 0 n (some 3) cap) xs:=by
   have:=Sl.Ar (Sl.ak (I:=U) (ad:=some 3) k cap xs [] (by simpa using hg) dV (by rw[hn];exact gw));rwa[hn] at this
  by_cases h6:j<n
  ·refine ae ?_;refine W.dX rfl rfl rfl (ah _ _ _ (tG j (by omega)).2 (c2 j (by omega) (by omega) (o _))) fun r bd ⟨e2,jt⟩=>⟨_,e2,?_⟩
   refine ae ?_;refine⟨m-1,by omega,j+1,by omega,jt.2 _ _ (tG j (by omega)).1 hg,fun i h h' hi=>hM _ _ _ _ (fun x hx c ah=>jt.2 _ _ (uX i j h' (by omega) (by omega) x hx) ah) (c2 i h h' (by omega)),fl.trans (jt.wide (cP j (by omega))),rfl,rfl,trivial⟩
  ·refine ae ?_;refine GoF.exit ?_;show bl _ _ _ _ _ _ _ _;refine ae ?_;have c7:(xs.flatMap AV.cells).length=n*shN (some 3):=by rw[A6 dV,hn]
   rcases gw with rfl|rfl
   ·refine W.cp hg c7 rfl rfl rfl fun v cW b1 jy cG bM bE=>?_;refine ae ?_;rw[hn];refine W.val (v:=ay (n+cW)) (aq:=b1) rfl rfl (EJ jy rfl rfl) ?_;refine W.val (v:=.ak k 0 (n+cW) (some 3) none) (aq:=b1) rfl rfl (EK bM c7 rfl (by decide) rfl rfl) ?_;refine ae ?_;have r9:eR (k::ii.flatten) I b1:=fl.trans ⟨by omega,fun i J h1 h2=>bE _ _ (fun e=>h1 (by rw[e];exact gz ..)) h2⟩;have B0:=jy.1;refine GoF.block (GoF.loop (fun m F U=>∃j c,j+m=n+cW∧U.get k=some (.eT c (cW*shN (some 3)))∧c.length=n*3∧eR (k::ii.flatten) I U∧sat [(3,.ak k 0 (n+cW) (some 3) none),(4,ay j)] F) (fun m F U aZ=>?_) (n+cW) ⟨0,_,by omega,bM,c7,r9,rfl,rfl,trivial⟩);obtain⟨j,c,az,hg,eZ,fl,aX⟩:=aZ;refine GoF.norm _ aX fun F=>?_;clear aX H av;have H:Has U []:=Has.nil;by_cases h6:j<n+cW
    ·refine ae ?_;refine W.cg hfn e (hm j) rfl rfl rfl rfl ?_;refine ae ?_;refine W.cw rfl rfl rfl rfl (s3 h6) ?_;refine W.gD hg rfl rfl rfl rfl (by
      rw[eZ];show n*3≤0+j*3∧0+j*3+3≤n*3+cW*3∨0+j*3+3≤n*3;omega) fun aQ bd e2 n2 b4 br=>?_
     refine ae ?_;refine⟨m-1,by omega,j+1,aQ,by omega,b4,by rw[e2];exact eZ,fl.trans ⟨by omega,fun i J h1 h2=>br _ _ (fun e=>h1 (by rw[e];exact gz ..)) h2⟩,rfl,rfl,trivial⟩
    ·refine ae ?_;refine GoF.exit ?_;exact⟨.inr rfl,rfl,fl⟩
   ·refine W.val (v:=ay n) (aq:=U) rfl rfl rfl ?_;refine ae ?_;rw[hn];refine W.val (v:=ay n) (aq:=U) rfl rfl (tF (c:=n+12) rfl rfl (sI n 12)) ?_;refine W.val (v:=.ak k 0 n (some 3) (some n)) (aq:=U) rfl rfl (EM rfl rfl) ?_;refine ae ?_;refine GoF.block (GoF.loop (fun m F U=>∃j c,j+m=n∧U.get k=some (.cells c)∧c.length=n*3∧eR (k::ii.flatten) I U∧sat [(3,.ak k 0 n (some 3) (some n)),(4,ay j)] F) (fun m F U aZ=>?_) n ⟨0,_,by omega,hg,c7,fl,rfl,rfl,trivial⟩);obtain⟨j,c,az,hg,eZ,fl,aX⟩:=aZ;refine GoF.norm _ aX fun F=>?_;clear aX H av;have H:Has U [(k,c)]:=Has.nil.cons hg (by simp);by_cases h6:j<n
    ·refine ae ?_;refine W.cg hfn e (hm j) rfl rfl rfl rfl ?_;refine ae ?_;refine W.cw rfl rfl rfl rfl (s3 h6) ?_;obtain⟨aQ,s1,s2⟩:=EL (c:=c) (v:=wN j) (off:=0+j*3) (by rw[eZ];show 0+j*3+3≤n*3;omega);refine W.st (aQ:=aQ) H 0 rfl rfl rfl rfl rfl s1 fun bd n2 H br=>?_;refine ae ?_;refine⟨m-1,by omega,j+1,aQ,by omega,H.get _ (.head _),by rw[s2];exact eZ,fl.trans ⟨by omega,fun i J h1 h2=>br _ _ (fun e=>h1 (by rw[e];exact gz ..)) h2⟩,rfl,rfl,trivial⟩
    ·refine ae ?_;refine GoF.exit ?_;exact⟨.inr rfl,rfl,fl⟩
theorem b3H(hfn:∀g aR r bs,K g aR r→K g aR bs→r=bs)(hh:cY (b.a4 K) H2 MK)(e:b.ext ta=0∧b.pure ta=true)(hm:∀i,K ta [ay 2,ay i] (.ag (wO i))){P:af→List Nat→AV→Prop}(hM:∀I U cn v,(∀i∈cn,∀c,I.get i=some (.cells c)→U.get i=some (.cells c))→P I cn v→P U cn v)
  (ah:∀cn v I,cn.Nodup→P I cn v→b9 (b.a4 K) 0 (.f (.func H0) [] []) [v] I (fun r U=>r= .ok (.bJ [])∧eR cn I U))
  {ids:List Nat} {w:AV} {I:af} (hnd:ids.Nodup) (hw:l9 I (P I) (some 4) ids w):b9 (b.a4 K) 0 (.f (.func H2) [] []) [w] I (fun r U=>r= .ok (.bJ [])∧eR ids I U):=by
 refine W.rP hh.e hh.p hh.f rfl rfl rfl fun z=>?_;have H:Has I []:=Has.nil;rcases hw with⟨rfl,rfl⟩|⟨k,xs,ii,cap,rfl,rfl,gw,hlen,hg,dV,j6,c2⟩
 ·refine ae ?_;refine GoF.block (GoF.loop (fun k F U=>U=I∧sat [(0,.aB),(2,ay 0)] F) (fun k F U aZ=>?_) 0 ⟨rfl,rfl,rfl,trivial⟩);obtain⟨cj,aX⟩:=aZ;have cj:=cj.symm;subst cj;refine GoF.norm _ aX fun F=>?_;refine ae ?_;refine GoF.exit ?_;show bl _ _ _ _ _ _ _ _;refine ae ?_;refine W.val (v:=ay 0) (aq:=_) rfl rfl rfl ?_;refine ae ?_;refine W.val (v:=ay 0) (aq:=_) rfl rfl (tF rfl rfl (hv _)) ?_;refine ae ?_;refine GoF.block (GoF.loop (fun k F U=>U=I∧sat [(3,.aB),(4,ay 0)] F) (fun k F U aZ=>?_) 0 ⟨rfl,rfl,rfl,trivial⟩);obtain⟨cj,aX⟩:=aZ;have cj:=cj.symm;subst cj;refine GoF.norm _ aX fun F=>?_;refine ae ?_;refine GoF.exit ?_;exact⟨.inr rfl,rfl,eR.refl⟩
 ·obtain⟨tG,uX⟩:=Jy hnd;obtain⟨n,hn⟩:∃n,xs.length=n:=⟨_,rfl⟩
  rw[hn] at gw hlen ⊢;have cP:∀i (h:i<ii.length),∀x∈ii[i],x∈k::ii.flatten:=fun i h x hx=>e9 _ (vB.2 ⟨_,aS h,hx⟩);refine ae ?_;refine GoF.block (GoF.loop (fun m F U=>∃j,j+m=n∧U.get k=some (.cells (xs.flatMap AV.cells))∧(∀i (h:i<xs.length) (h':i<ii.length),j≤i→P U (ii[i]) (xs[i]))∧eR (k::ii.flatten) I U∧sat [(0,.ak k 0 n (some 4) cap),(2,ay j)] F) (fun m F U aZ=>?_) n ⟨0,by omega,hg,fun i h h' _=>c2 i h h',eR.refl,rfl,rfl,trivial⟩);obtain⟨j,az,hg,c2,fl,aX⟩:=aZ;refine GoF.norm _ aX fun F=>?_;clear aX H;have H:Has U []:=Has.nil;have av:qO U (some 4) (.ak k 0 n (some 4) cap) xs:=by
   have:=Sl.Ar (Sl.ak (I:=U) (ad:=some 4) k cap xs [] (by simpa using hg) dV (by rw[hn];exact gw));rwa[hn] at this
  by_cases h6:j<n
  ·refine ae ?_;refine W.dX rfl rfl rfl (ah _ _ _ (tG j (by omega)).2 (c2 j (by omega) (by omega) (o _))) fun r bd ⟨e2,jt⟩=>⟨_,e2,?_⟩
   refine ae ?_;refine⟨m-1,by omega,j+1,by omega,jt.2 _ _ (tG j (by omega)).1 hg,fun i h h' hi=>hM _ _ _ _ (fun x hx c ah=>jt.2 _ _ (uX i j h' (by omega) (by omega) x hx) ah) (c2 i h h' (by omega)),fl.trans (jt.wide (cP j (by omega))),rfl,rfl,trivial⟩
  ·refine ae ?_;refine GoF.exit ?_;show bl _ _ _ _ _ _ _ _;refine ae ?_;have c7:(xs.flatMap AV.cells).length=n*shN (some 4):=by rw[A6 dV,hn]
   rcases gw with rfl|rfl
   ·refine W.cp hg c7 rfl rfl rfl fun v cW b1 jy cG bM bE=>?_;refine ae ?_;rw[hn];refine W.val (v:=ay (n+cW)) (aq:=b1) rfl rfl (EJ jy rfl rfl) ?_;refine W.val (v:=.ak k 0 (n+cW) (some 4) none) (aq:=b1) rfl rfl (EK bM c7 rfl (by decide) rfl rfl) ?_;refine ae ?_;have r9:eR (k::ii.flatten) I b1:=fl.trans ⟨by omega,fun i J h1 h2=>bE _ _ (fun e=>h1 (by rw[e];exact gz ..)) h2⟩;have B0:=jy.1;refine GoF.block (GoF.loop (fun m F U=>∃j c,j+m=n+cW∧U.get k=some (.eT c (cW*shN (some 4)))∧c.length=n*4∧eR (k::ii.flatten) I U∧sat [(3,.ak k 0 (n+cW) (some 4) none),(4,ay j)] F) (fun m F U aZ=>?_) (n+cW) ⟨0,_,by omega,bM,c7,r9,rfl,rfl,trivial⟩);obtain⟨j,c,az,hg,eZ,fl,aX⟩:=aZ;refine GoF.norm _ aX fun F=>?_;clear aX H av;have H:Has U []:=Has.nil;by_cases h6:j<n+cW
    ·refine ae ?_;refine W.cg hfn e (hm j) rfl rfl rfl rfl ?_;refine ae ?_;refine W.cw rfl rfl rfl rfl (s3 h6) ?_;refine W.gD hg rfl rfl rfl rfl (by
      rw[eZ];show n*4≤0+j*4∧0+j*4+4≤n*4+cW*4∨0+j*4+4≤n*4;omega) fun aQ bd e2 n2 b4 br=>?_
     refine ae ?_;refine⟨m-1,by omega,j+1,aQ,by omega,b4,by rw[e2];exact eZ,fl.trans ⟨by omega,fun i J h1 h2=>br _ _ (fun e=>h1 (by rw[e];exact gz ..)) h2⟩,rfl,rfl,trivial⟩
    ·refine ae ?_;refine GoF.exit ?_;exact⟨.inr rfl,rfl,fl⟩
   ·refine W.val (v:=ay n) (aq:=U) rfl rfl rfl ?_;refine ae ?_;rw[hn];refine W.val (v:=ay n) (aq:=U) rfl rfl (tF (c:=n+12) rfl rfl (sI n 12)) ?_;refine W.val (v:=.ak k 0 n (some 4) (some n)) (aq:=U) rfl rfl (EM rfl rfl) ?_;refine ae ?_;refine GoF.block (GoF.loop (fun m F U=>∃j c,j+m=n∧U.get k=some (.cells c)∧c.length=n*4∧eR (k::ii.flatten) I U∧sat [(3,.ak k 0 n (some 4) (some n)),(4,ay j)] F) (fun m F U aZ=>?_) n ⟨0,_,by omega,hg,c7,fl,rfl,rfl,trivial⟩);obtain⟨j,c,az,hg,eZ,fl,aX⟩:=aZ;refine GoF.norm _ aX fun F=>?_;clear aX H av;have H:Has U [(k,c)]:=Has.nil.cons hg (by simp);by_cases h6:j<n
    ·refine ae ?_;refine W.cg hfn e (hm j) rfl rfl rfl rfl ?_;refine ae ?_;refine W.cw rfl rfl rfl rfl (s3 h6) ?_;obtain⟨aQ,s1,s2⟩:=EL (c:=c) (v:=wO j) (off:=0+j*4) (by rw[eZ];show 0+j*4+4≤n*4;omega);refine W.st (aQ:=aQ) H 0 rfl rfl rfl rfl rfl s1 fun bd n2 H br=>?_;refine ae ?_;refine⟨m-1,by omega,j+1,aQ,by omega,H.get _ (.head _),by rw[s2];exact eZ,fl.trans ⟨by omega,fun i J h1 h2=>br _ _ (fun e=>h1 (by rw[e];exact gz ..)) h2⟩,rfl,rfl,trivial⟩
    ·refine ae ?_;refine GoF.exit ?_;exact⟨.inr rfl,rfl,fl⟩
abbrev tH(i:Nat):Nat:=9000027+i
abbrev u7(i:Nat):List AV:=[.s (o8 2 i),.i .u8 0,.s [],.aB,.aB,ay (tH i),.aB,.aB]
theorem b3I(i:Nat)(hi:i<2^40)(body:bB)(hb:Hy.body=some body):GoF (b.a4 K) Hy.ntmps body (eS [ay 2,ay i]) ⟨.nil,0⟩ (gi Hy.results (ay (tH i))):=by
 cases hb;refine W.args fun z=>?_;have H:Has (⟨.nil,0⟩:af) []:=Has.nil;refine ae ?_
 try (refine W.bin (v:=ay 9000027) rfl rfl rfl rfl rfl ?_;refine ae ?_)
 refine GoF.ret ⟨rfl,_,cT (cI rfl),?_⟩
 first|rfl|(show some (ay _)=some (ay _);congr 2;try omega)
theorem b3J(hfn:∀g aR r bs,K g aR r→K g aR bs→r=bs)(e:b.ext pN=0∧b.pure pN=true)(e2:b.ext pM=0∧b.pure pM=true)(i:Nat)(cl:K pN [ay 2,ay i] (.s (o8 2 i)))(jo:K pM [ay 2,ay i] (ay (tH i)))(body:bB)(hb:HM.body=some body):GoF (b.a4 K) HM.ntmps body (eS [ay 2,ay i]) ⟨.nil,0⟩ (gi HM.results (.ag (u7 i))):=by
 cases hb;refine W.args fun z=>?_;have H:Has (⟨.nil,0⟩:af) []:=Has.nil;refine ae ?_;refine W.bN (c:=dm) H rfl rfl rfl rfl fun U cG H bE=>?_;refine ae ?_;refine W.cg hfn e cl rfl rfl rfl rfl ?_;refine ae ?_;refine W.cg hfn e2 jo rfl rfl rfl rfl ?_;refine ae ?_;refine W.st (aQ:=u7 i) H 0 rfl rfl rfl rfl rfl rfl fun bd n2 H br=>?_;refine ae ?_;exact GoF.ret ⟨rfl,_,cT (fR rfl (H.get _ (.head _)) rfl),rfl⟩
theorem b3K(hfn:∀g aR r bs,K g aR r→K g aR bs→r=bs)(hh:cY (b.a4 K) HY MD)(e:b.ext s_=0∧b.pure s_=true)(hm:∀i,i<2^40→K s_ [ay 2,ay i] (.ag (u7 i))){P:af→List Nat→AV→Prop}(hM:∀I U cn v,(∀i∈cn,∀c,I.get i=some (.cells c)→U.get i=some (.cells c))→P I cn v→P U cn v)
  (ah:∀cn v I,cn.Nodup→P I cn v→b9 (b.a4 K) 0 (.f (.func HX) [] []) [v] I (fun r U=>r= .ok (.bJ [])∧eR cn I U))
  {ids:List Nat} {w:AV} {I:af} (hnd:ids.Nodup) (hw:l9 I (P I) (some 8) ids w):b9 (b.a4 K) 0 (.f (.func HY) [] []) [w] I (fun r U=>r= .ok (.bJ [])∧eR ids I U):=by
 refine W.rP hh.e hh.p hh.f rfl rfl rfl fun z=>?_;have H:Has I []:=Has.nil;rcases hw with⟨rfl,rfl⟩|⟨k,xs,ii,cap,rfl,rfl,gw,hlen,hg,dV,j6,c2⟩
 ·refine ae ?_;refine GoF.block (GoF.loop (fun k F U=>U=I∧sat [(0,.aB),(2,ay 0)] F) (fun k F U aZ=>?_) 0 ⟨rfl,rfl,rfl,trivial⟩);obtain⟨cj,aX⟩:=aZ;have cj:=cj.symm;subst cj;refine GoF.norm _ aX fun F=>?_;refine ae ?_;refine GoF.exit ?_;show bl _ _ _ _ _ _ _ _;refine ae ?_;refine W.val (v:=ay 0) (aq:=_) rfl rfl rfl ?_;refine ae ?_;refine W.val (v:=ay 0) (aq:=_) rfl rfl (tF rfl rfl (hv _)) ?_;refine ae ?_;refine GoF.block (GoF.loop (fun k F U=>U=I∧sat [(3,.aB),(4,ay 0)] F) (fun k F U aZ=>?_) 0 ⟨rfl,rfl,rfl,trivial⟩);obtain⟨cj,aX⟩:=aZ;have cj:=cj.symm;subst cj;refine GoF.norm _ aX fun F=>?_;refine ae ?_;refine GoF.exit ?_;exact⟨.inr rfl,rfl,eR.refl⟩
 ·obtain⟨tG,uX⟩:=Jy hnd;obtain⟨n,hn⟩:∃n,xs.length=n:=⟨_,rfl⟩
  rw[hn] at gw hlen ⊢;have cP:∀i (h:i<ii.length),∀x∈ii[i],x∈k::ii.flatten:=fun i h x hx=>e9 _ (vB.2 ⟨_,aS h,hx⟩);refine ae ?_;refine GoF.block (GoF.loop (fun m F U=>∃j,j+m=n∧U.get k=some (.cells (xs.flatMap AV.cells))∧(∀i (h:i<xs.length) (h':i<ii.length),j≤i→P U (ii[i]) (xs[i]))∧eR (k::ii.flatten) I U∧sat [(0,.ak k 0 n (some 8) cap),(2,ay j)] F) (fun m F U aZ=>?_) n ⟨0,by omega,hg,fun i h h' _=>c2 i h h',eR.refl,rfl,rfl,trivial⟩);obtain⟨j,az,hg,c2,fl,aX⟩:=aZ;refine GoF.norm _ aX fun F=>?_;clear aX H;have H:Has U []:=Has.nil;have av:qO U (some 8) (.ak k 0 n (some 8) cap) xs:=by
   have:=Sl.Ar (Sl.ak (I:=U) (ad:=some 8) k cap xs [] (by simpa using hg) dV (by rw[hn];exact gw));rwa[hn] at this
  by_cases h6:j<n
  ·refine ae ?_;refine W.dX rfl rfl rfl (ah _ _ _ (tG j (by omega)).2 (c2 j (by omega) (by omega) (o _))) fun r bd ⟨e2,jt⟩=>⟨_,e2,?_⟩
   refine ae ?_;refine⟨m-1,by omega,j+1,by omega,jt.2 _ _ (tG j (by omega)).1 hg,fun i h h' hi=>hM _ _ _ _ (fun x hx c ah=>jt.2 _ _ (uX i j h' (by omega) (by omega) x hx) ah) (c2 i h h' (by omega)),fl.trans (jt.wide (cP j (by omega))),rfl,rfl,trivial⟩
  ·refine ae ?_;refine GoF.exit ?_;show bl _ _ _ _ _ _ _ _;refine ae ?_;have c7:(xs.flatMap AV.cells).length=n*shN (some 8):=by rw[A6 dV,hn]
   rcases gw with rfl|rfl
   ·refine W.cp hg c7 rfl rfl rfl fun v cW b1 jy cG bM bE=>?_;refine ae ?_;rw[hn];refine W.val (v:=ay (n+cW)) (aq:=b1) rfl rfl (EJ jy rfl rfl) ?_;refine W.val (v:=.ak k 0 (n+cW) (some 8) none) (aq:=b1) rfl rfl (EK bM c7 rfl (by decide) rfl rfl) ?_;refine ae ?_;have r9:eR (k::ii.flatten) I b1:=fl.trans ⟨by omega,fun i J h1 h2=>bE _ _ (fun e=>h1 (by rw[e];exact gz ..)) h2⟩;have B0:=jy.1;refine GoF.block (GoF.loop (fun m F U=>∃j c,j+m=n+cW∧U.get k=some (.eT c (cW*shN (some 8)))∧c.length=n*8∧eR (k::ii.flatten) I U∧sat [(3,.ak k 0 (n+cW) (some 8) none),(4,ay j)] F) (fun m F U aZ=>?_) (n+cW) ⟨0,_,by omega,bM,c7,r9,rfl,rfl,trivial⟩);obtain⟨j,c,az,hg,eZ,fl,aX⟩:=aZ;refine GoF.norm _ aX fun F=>?_;clear aX H av;have H:Has U []:=Has.nil;by_cases h6:j<n+cW
    ·refine ae ?_;refine W.cg hfn e (hm j (by omega)) rfl rfl rfl rfl ?_;refine ae ?_;refine W.cw rfl rfl rfl rfl (s3 h6) ?_;refine W.gD hg rfl rfl rfl rfl (by
      rw[eZ];show n*8≤0+j*8∧0+j*8+8≤n*8+cW*8∨0+j*8+8≤n*8;omega) fun aQ bd e2 n2 b4 br=>?_
     refine ae ?_;refine⟨m-1,by omega,j+1,aQ,by omega,b4,by rw[e2];exact eZ,fl.trans ⟨by omega,fun i J h1 h2=>br _ _ (fun e=>h1 (by rw[e];exact gz ..)) h2⟩,rfl,rfl,trivial⟩
    ·refine ae ?_;refine GoF.exit ?_;exact⟨.inr rfl,rfl,fl⟩
   ·refine W.val (v:=ay n) (aq:=U) rfl rfl rfl ?_;refine ae ?_;rw[hn];refine W.val (v:=ay n) (aq:=U) rfl rfl (tF (c:=n+12) rfl rfl (sI n 12)) ?_;refine W.val (v:=.ak k 0 n (some 8) (some n)) (aq:=U) rfl rfl (EM rfl rfl) ?_;refine ae ?_;refine GoF.block (GoF.loop (fun m F U=>∃j c,j+m=n∧U.get k=some (.cells c)∧c.length=n*8∧eR (k::ii.flatten) I U∧sat [(3,.ak k 0 n (some 8) (some n)),(4,ay j)] F) (fun m F U aZ=>?_) n ⟨0,_,by omega,hg,c7,fl,rfl,rfl,trivial⟩);obtain⟨j,c,az,hg,eZ,fl,aX⟩:=aZ;refine GoF.norm _ aX fun F=>?_;clear aX H av;have H:Has U [(k,c)]:=Has.nil.cons hg (by simp);by_cases h6:j<n
    ·refine ae ?_;refine W.cg hfn e (hm j (by omega)) rfl rfl rfl rfl ?_;refine ae ?_;refine W.cw rfl rfl rfl rfl (s3 h6) ?_;obtain⟨aQ,s1,s2⟩:=EL (c:=c) (v:=u7 j) (off:=0+j*8) (by rw[eZ];show 0+j*8+8≤n*8;omega);refine W.st (aQ:=aQ) H 0 rfl rfl rfl rfl rfl s1 fun bd n2 H br=>?_;refine ae ?_;refine⟨m-1,by omega,j+1,aQ,by omega,H.get _ (.head _),by rw[s2];exact eZ,fl.trans ⟨by omega,fun i J h1 h2=>br _ _ (fun e=>h1 (by rw[e];exact gz ..)) h2⟩,rfl,rfl,trivial⟩
    ·refine ae ?_;refine GoF.exit ?_;exact⟨.inr rfl,rfl,fl⟩
theorem l9.lt{I:af}{P:List Nat→AV→Prop}{ad:Option Nat}{ids:List Nat}{w:AV}(hM:∀cn v,P cn v→∀j∈cn,j<I.next)(h:l9 I P ad ids w):∀i∈ids,i<I.next:=by
 rcases h with⟨rfl,_⟩|⟨k,xs,ii,cap,rfl,h2,h3,zo,aE,ba,cr,de⟩
 ·intro i hi;cases hi
 ·intro i hi;rcases cH.1 hi with rfl|hi
  ·exact af.bW aE
  ·obtain⟨l,ar,hi⟩:=vB.1 hi;obtain⟨j,az,rfl⟩:=gm ar;exact hM _ _ (de j (by omega) az) i hi
theorem kg.lt{I:af}:∀(d:Nat) {ids:List Nat} {v:AV},kg I d ids v→∀i∈ids,i<I.next
 |0,_,_,h=>h.elim
 |d+1,_,_,⟨_,_,_,_,h⟩=>h.lt fun cn v h=>kg.lt d h
theorem lH.lt{I:af}:∀(d:Nat) {ids:List Nat} {v:AV},lH I d ids v→∀i∈ids,i<I.next
 |0,_,_,h=>h.elim
 |d+1,_,_,⟨_,_,_,_,_,_,_,e,h,h'⟩=>by
  subst e;intro i hi;rcases dE.1 hi with hi|hi
  ·exact h.lt (fun cn v h=>kg.lt d h) i hi
  ·exact h'.lt (fun cn v h=>lH.lt d h) i hi
structure EN(b:dW)(K:Nat→List AV→AV→Prop):Prop where
 t:cY (b.a4 K) H4 UK
 ts:cY (b.a4 K) H3 MJ
 f:cY (b.a4 K) H0 UI
 fs:cY (b.a4 K) H2 MK
 p:cY (b.a4 K) HX UF
 ps:cY (b.a4 K) HY MD
 is:cY (b.a4 K) HZ ME
 mt:b.ext tb=0∧b.pure tb=true
 lk:∀i,K tb [ay 2,ay i] (.ag (wN i))
 b3L:b.ext ta=0∧b.pure ta=true
 eP:∀i,K ta [ay 2,ay i] (.ag (wO i))
 mp:b.ext s_=0∧b.pure s_=true
 ca:∀i,i<2^40→K s_ [ay 2,ay i] (.ag (u7 i))
 nG:b.ext pM=0∧b.pure pM=true
 OG:∀i,i<2^40→K pM [ay 2,ay i] (ay (tH i))
theorem eR.OH{ids:List Nat}{I U:af}(h:I.next≤U.next)(k:∀i J,I.get i=some J→U.get i=some J):eR ids I U:=⟨h,fun i J _=>k i J⟩
theorem XR(hfn:∀g aR r bs,K g aR r→K g aR bs→r=bs)(hh:EN b K):∀(d:Nat) (ids:List Nat) (v:AV) (I:af),ids.Nodup→kg I d ids v→b9 (b.a4 K) 0 (.f (.func H4) [] []) [v] I (fun r U=>r= .ok (.bJ [])∧eR ids I U)
 |0,_,_,_,_,h=>h.elim
 |d+1,ids,_,I,hn,⟨A5,s,w,e,hw⟩=>by
  subst e;refine W.rP hh.t.e hh.t.p hh.t.f rfl rfl rfl fun z=>?_;have H:Has I []:=Has.nil;refine ae ?_;generalize hq:I.next=q;refine W.en (c:=[.b A5,.s s,w]) H hq rfl rfl rfl rfl rfl fun b1 cG H bE=>?_;refine ae ?_;have lU:=hw.aF (U:=b1) (gY:=kg b1 d) (fun i _ c ab=>bE _ _ ab) fun cn v _ h=>kg.aF d (fun i _ c ab=>bE _ _ ab) h;refine W.dX rfl rfl rfl (XQ hfn hh.ts hh.mt hh.lk (P:=fun I=>kg I d) (fun I U cn v k h=>kg.aF d k h) (fun cn v I az h=>XR hfn hh d cn v I az h) hn lU) fun r bd ⟨e2,jt⟩=>⟨_,e2,?_⟩
  refine ae ?_;exact⟨.inr rfl,rfl,(eR.OH (by omega) bE).trans jt⟩
theorem XS(hfn:∀g aR r bs,K g aR r→K g aR bs→r=bs)(hh:EN b K):∀(d:Nat) (ids:List Nat) (v:AV) (I:af),ids.Nodup→lH I d ids v→b9 (b.a4 K) 0 (.f (.func H0) [] []) [v] I (fun r U=>r= .ok (.bJ [])∧eR ids I U)
 |0,_,_,_,_,h=>h.elim
 |d+1,ids,_,I,hn,⟨op,s,w,bK,i1,i2,e,eb,hw,jC⟩=>by
  subst e;subst eb;obtain⟨np,qs,mR⟩:=th.1 hn;have bZ:=hw.lt fun cn v h=>kg.lt d h;refine W.rP hh.f.e hh.f.p hh.f.f rfl rfl rfl fun z=>?_;have H:Has I []:=Has.nil;refine ae ?_;generalize hq:I.next=q at bZ;refine W.en (c:=[.i .u8 op,.s s,w,bK]) H hq rfl rfl rfl rfl rfl fun b1 cG H bE=>?_;refine ae ?_;have lU:=hw.aF (U:=b1) (gY:=kg b1 d) (fun i _ c ab=>bE _ _ ab) fun cn v _ h=>kg.aF d (fun i _ c ab=>bE _ _ ab) h;refine W.dX rfl rfl rfl (XQ hfn hh.ts hh.mt hh.lk (P:=fun I=>kg I d) (fun I U cn v k h=>kg.aF d k h) (fun cn v I az h=>XR hfn hh d cn v I az h) np lU) fun r bd ⟨e2,jt⟩=>⟨_,e2,?_⟩
  have H:=Has.nil.cons (jt.2 q _ (fun h=>by have:=bZ q h;omega) (H.get _ (.head _))) (by simp);refine ae ?_;have ew:∀i∈i2,∀c,I.get i=some (.cells c)→bd.get i=some (.cells c):=fun i hi c ab=>jt.2 _ _ (fun h=>mR i h i hi rfl) (bE _ _ ab);have b3M:=jC.aF (U:=bd) (gY:=lH bd d) ew fun cn v az h=>lH.aF d (fun i hi=>ew i (az i hi)) h;refine W.dX rfl rfl rfl (b3H hfn hh.fs hh.b3L hh.eP (P:=fun I=>lH I d) (fun I U cn v k h=>lH.aF d k h) (fun cn v I az h=>XS hfn hh d cn v I az h) qs b3M) fun r bG ⟨dn,EO⟩=>⟨_,dn,?_⟩
  refine ae ?_;exact⟨.inr rfl,rfl,((eR.OH (by omega) bE).trans (jt.wide fun i hi=>k6 _ hi)).trans (EO.wide fun i hi=>ni _ hi)⟩
def ot(I:af):List Nat→AV→Prop:=l9 I (fun cn v=>cn=[]∧∃n,v=zI n) none
theorem b3N(hfn:∀g aR r bs,K g aR r→K g aR bs→r=bs)(hh:cY (b.a4 K) HZ ME)(e:b.ext pM=0∧b.pure pM=true)(hm:∀i,i<2^40→K pM [ay 2,ay i] (ay (tH i)))
  {ids:List Nat} {w:AV} {I:af} (hw:ot I ids w):b9 (b.a4 K) 0 (.f (.func HZ) [] []) [w] I (fun r U=>r= .ok (.bJ [])∧eR ids I U):=by
 refine W.rP hh.e hh.p hh.f rfl rfl rfl fun z=>?_;have H:Has I []:=Has.nil;rcases hw with⟨rfl,rfl⟩|⟨k,xs,ii,cap,rfl,rfl,gw,hlen,hg,dV,j6,c2⟩
 ·refine ae ?_;refine W.val (v:=ay 0) (aq:=_) rfl rfl rfl ?_;refine ae ?_;refine W.val (v:=ay 0) (aq:=_) rfl rfl (tF rfl rfl (hv _)) ?_;refine ae ?_;refine GoF.block (GoF.loop (fun k F U=>U=I∧sat [(2,.aB),(3,ay 0)] F) (fun k F U aZ=>?_) 0 ⟨rfl,rfl,rfl,trivial⟩);obtain⟨cj,aX⟩:=aZ;have cj:=cj.symm;subst cj;refine GoF.norm _ aX fun F=>?_;refine ae ?_;refine GoF.exit ?_;exact⟨.inr rfl,rfl,eR.refl⟩
 ·obtain⟨n,hn⟩:∃n,xs.length=n:=⟨_,rfl⟩
  rw[hn] at gw hlen ⊢;have av:qO I none (.ak k 0 n none cap) xs:=by
   have:=Sl.Ar (Sl.ak (I:=I) (ad:=none) k cap xs [] (by simpa using hg) dV (by rw[hn];exact gw));rwa[hn] at this
  have fl:eR (k::ii.flatten) I I:=eR.refl;refine ae ?_;have c7:(xs.flatMap AV.cells).length=n*shN none:=by rw[A6 dV,hn]
  rcases gw with rfl|rfl
  ·refine W.cp hg c7 rfl rfl rfl fun v cW b1 jy cG bM bE=>?_;refine ae ?_;rw[hn];refine W.val (v:=ay (n+cW)) (aq:=b1) rfl rfl (EJ jy rfl rfl) ?_;refine W.val (v:=.ak k 0 (n+cW) none none) (aq:=b1) rfl rfl (EK bM c7 rfl (by decide) rfl rfl) ?_;refine ae ?_;have r9:eR (k::ii.flatten) I b1:=fl.trans ⟨by omega,fun i J h1 h2=>bE _ _ (fun e=>h1 (by rw[e];exact gz ..)) h2⟩;have B0:=jy.1;refine GoF.block (GoF.loop (fun m F U=>∃j c,j+m=n+cW∧U.get k=some (.eT c (cW*shN none))∧c.length=n*1∧eR (k::ii.flatten) I U∧sat [(2,.ak k 0 (n+cW) none none),(3,ay j)] F) (fun m F U aZ=>?_) (n+cW) ⟨0,_,by omega,bM,c7,r9,rfl,rfl,trivial⟩);obtain⟨j,c,az,hg,eZ,fl,aX⟩:=aZ;refine GoF.norm _ aX fun F=>?_;clear aX H av;have H:Has U []:=Has.nil;by_cases h6:j<n+cW
   ·refine ae ?_;refine W.cg hfn e (hm j (by omega)) rfl rfl rfl rfl ?_;refine ae ?_;refine W.cw rfl rfl rfl rfl (s3 h6) ?_;refine W.gD hg rfl rfl rfl rfl (by
     rw[eZ];show n*1≤0+j*1∧0+j*1+1≤n*1+cW*1∨0+j*1+1≤n*1;omega) fun aQ bd e2 n2 b4 br=>?_
    refine ae ?_;refine⟨m-1,by omega,j+1,aQ,by omega,b4,by rw[e2];exact eZ,fl.trans ⟨by omega,fun i J h1 h2=>br _ _ (fun e=>h1 (by rw[e];exact gz ..)) h2⟩,rfl,rfl,trivial⟩
   ·refine ae ?_;refine GoF.exit ?_;exact⟨.inr rfl,rfl,fl⟩
  ·refine W.val (v:=ay n) (aq:=I) rfl rfl rfl ?_;refine ae ?_;rw[hn];refine W.val (v:=ay n) (aq:=I) rfl rfl (tF (c:=n+12) rfl rfl (sI n 12)) ?_;refine W.val (v:=.ak k 0 n none (some n)) (aq:=I) rfl rfl (EM rfl rfl) ?_;refine ae ?_;refine GoF.block (GoF.loop (fun m F U=>∃j c,j+m=n∧U.get k=some (.cells c)∧c.length=n*1∧eR (k::ii.flatten) I U∧sat [(2,.ak k 0 n none (some n)),(3,ay j)] F) (fun m F U aZ=>?_) n ⟨0,_,by omega,hg,c7,fl,rfl,rfl,trivial⟩);obtain⟨j,c,az,hg,eZ,fl,aX⟩:=aZ;refine GoF.norm _ aX fun F=>?_;clear aX H av;have H:Has U [(k,c)]:=Has.nil.cons hg (by simp);by_cases h6:j<n
   ·refine ae ?_;refine W.cg hfn e (hm j (by omega)) rfl rfl rfl rfl ?_;refine ae ?_;refine W.cw rfl rfl rfl rfl (s3 h6) ?_;obtain⟨aQ,s1,s2⟩:=EL (c:=c) (v:=[ay (tH j)]) (off:=0+j*1) (by rw[eZ];show 0+j*1+1≤n*1;omega);refine W.st (aQ:=aQ) H 0 rfl rfl rfl rfl rfl s1 fun bd n2 H br=>?_;refine ae ?_;refine⟨m-1,by omega,j+1,aQ,by omega,H.get _ (.head _),by rw[s2];exact eZ,fl.trans ⟨by omega,fun i J h1 h2=>br _ _ (fun e=>h1 (by rw[e];exact gz ..)) h2⟩,rfl,rfl,trivial⟩
   ·refine ae ?_;refine GoF.exit ?_;exact⟨.inr rfl,rfl,fl⟩
end
def kT(e:Nat)(I:af):Nat→List Nat→AV→Prop
 |0,_,_=>False
 |d+1,ids,v=>∃r op s aW bK l ey b6 i1 i2 i3,v= .ag [.s r,.i .u8 op,.s s,aW,bK,zI l,ey,b6]∧ids=i1++(i2++i3)∧lH I e i1 (.ag [.i .u8 op,.s s,aW,bK])∧l9 I (kT e I d) (some 8) i2 ey∧l9 I (ot I) none i3 b6
theorem ot.aF{I U:af}{ids:List Nat}{v:AV}(k:∀i∈ids,∀c,I.get i=some (.cells c)→U.get i=some (.cells c))(h:ot I ids v):ot U ids v:=l9.aF k (fun _ _ _ h=>h) h
theorem kT.aF{e:Nat}{I U:af}:∀(d:Nat) {ids:List Nat} {v:AV},(∀i∈ids,∀c,I.get i=some (.cells c)→U.get i=some (.cells c))→kT e I d ids v→kT e U d ids v
 |0,_,_,_,h=>h
 |d+1,_,_,k,⟨r,op,s,aW,bK,l,ey,b6,i1,i2,i3,aM,e2,h1,h2,h3⟩=>by
  subst e2;exact⟨r,op,s,aW,bK,l,ey,b6,i1,i2,i3,aM,rfl,lH.aF _ (fun i hi=>k i (k6 _ hi)) h1,h2.aF (fun i hi=>k i (by simp[hi])) fun cn v az h=>kT.aF d (fun i hi=>k i (by simp[az i hi])) h,h3.aF (fun i hi=>k i (by simp[hi])) fun cn v az h=>ot.aF (fun i hi=>k i (by simp[az i hi])) h⟩
theorem ot.lt{I:af}{ids:List Nat}{v:AV}(h:ot I ids v):∀i∈ids,i<I.next:=l9.lt (fun cn v h=>by rw[h.1];simp) h
theorem kT.lt{e:Nat}{I:af}:∀(d:Nat) {ids:List Nat} {v:AV},kT e I d ids v→∀i∈ids,i<I.next
 |0,_,_,h=>h.elim
 |d+1,_,_,⟨r,op,s,aW,bK,l,ey,b6,i1,i2,i3,aM,e2,h1,h2,h3⟩=>by
  subst e2;intro i hi;rcases dE.1 hi with hi|hi
  ·exact lH.lt _ h1 i hi
  ·rcases dE.1 hi with hi|hi
   ·exact h2.lt (fun cn v h=>kT.lt d h) i hi
   ·exact h3.lt (fun cn v h=>h.lt) i hi
section
variable {b:dW}{K:Nat→List AV→AV→Prop}
theorem OI(hfn:∀g aR r bs,K g aR r→K g aR bs→r=bs)(hh:EN b K){e:Nat}:∀(d:Nat) (ids:List Nat) (v:AV) (I:af),ids.Nodup→kT e I d ids v→b9 (b.a4 K) 0 (.f (.func HX) [] []) [v] I (fun r U=>r= .ok (.bJ [])∧eR ids I U)
 |0,_,_,_,_,h=>h.elim
 |d+1,ids,_,I,hn,⟨r,op,s,aW,bK,l,ey,b6,i1,i2,i3,ao,Dg,h1,h2,h3⟩=>by
  subst ao;subst Dg;obtain⟨np,b3O,Gf⟩:=th.1 hn;obtain⟨qs,mR,LC⟩:=th.1 b3O;have C8:=lH.lt e h1;have XT:=h2.lt (fun cn v h=>kT.lt d h);have XU:=h3.lt (fun cn v h=>h.lt);refine W.rP hh.p.e hh.p.p hh.p.f rfl rfl rfl fun z=>?_;have H:Has I []:=Has.nil;refine ae ?_;generalize hq:I.next=q at C8 XT XU;refine W.en (c:=[.s r,.i .u8 op,.s s,aW,bK,zI l,ey,b6]) H hq rfl rfl rfl rfl rfl fun b1 cG H bE=>?_;have bM:=H.get _ (.head _);have hf1:=lH.aF (U:=b1) e (fun i _ c ab=>bE _ _ ab) h1;refine ae ?_;refine W.dX rfl rfl rfl (XS hfn hh e _ _ b1 np hf1) fun r2 bd ⟨e2,jt⟩=>⟨_,e2,?_⟩
  have b4:=jt.2 q _ (fun h=>by have:=C8 q h;omega) bM;have H:Has bd [(q,[.s r,.i .u8 op,.s s,aW,bK,zI l,ey,b6])]:=Has.nil.cons b4 (by simp);have A8:∀i∈i2,∀c,I.get i=some (.cells c)→bd.get i=some (.cells c):=fun i hi c ab=>jt.2 _ _ (fun h=>Gf i h i (k6 _ hi) rfl) (bE _ _ ab);have eN:=h2.aF (U:=bd) (gY:=kT e bd d) A8 fun cn v az h=>kT.aF d (fun i hi=>A8 i (az i hi)) h;refine ae ?_;refine W.dX rfl rfl rfl (b3K hfn hh.ps hh.mp hh.ca (P:=fun I=>kT e I d) (fun I U cn v k h=>kT.aF d k h) (fun cn v I az h=>OI hfn hh d cn v I az h) qs eN) fun nU bG ⟨dn,EO⟩=>⟨_,dn,?_⟩
  have dy:=EO.2 q _ (fun h=>by have:=XT q h;omega) b4;have H:Has bG [(q,[.s r,.i .u8 op,.s s,aW,bK,zI l,ey,b6])]:=Has.nil.cons dy (by simp);have AP:∀i∈i3,∀c,I.get i=some (.cells c)→bG.get i=some (.cells c):=fun i hi c ab=>EO.2 _ _ (fun h=>LC i h i hi rfl) (jt.2 _ _ (fun h=>Gf i h i (ni _ hi) rfl) (bE _ _ ab));have qF:=h3.aF (U:=bG) (gY:=ot bG) AP fun cn v az h=>ot.aF (fun i hi=>AP i (az i hi)) h;have Eu:eR (i1++(i2++i3)) I bG:=((eR.OH (by omega) bE).trans (jt.wide fun i hi=>k6 _ hi)).trans (EO.wide fun i hi=>by simp[hi]);have XV:q∉i3:=fun h=>by have:=XU q h;omega
  have c3U:q<bG.next:=af.bW dy;refine ae ?_;rcases qF with⟨rfl,rfl⟩|⟨k,xs,ii,cap,rfl,rfl,gw,hlen,hg,dV,j6,c2⟩
  ·show bl _ _ _ _ _ _ _ _;refine GoF.block (GoF.loop (fun k F U=>U=bG∧sat [(1,bo q),(2,ay 0)] F) (fun k F U aZ=>?_) 0 ⟨rfl,rfl,rfl,trivial⟩);obtain⟨cj,aX⟩:=aZ;have cj:=cj.symm;subst cj;refine GoF.norm _ aX fun F=>?_;refine ae ?_;refine GoF.exit ?_;show bl _ _ _ _ _ _ _ _;refine ae ?_;refine W.val (v:=ay 0) (aq:=_) rfl rfl rfl ?_;refine ae ?_;refine W.val (v:=ay 0) (aq:=_) rfl rfl (tF rfl rfl (hv _)) ?_;refine ae ?_;show bl _ _ _ _ _ _ _ _;refine GoF.block (GoF.loop (fun k F U=>U=bG∧sat [(3,.aB),(4,ay 0)] F) (fun k F U aZ=>?_) 0 ⟨rfl,rfl,rfl,trivial⟩);obtain⟨cj,aX⟩:=aZ;have cj:=cj.symm;subst cj;refine GoF.norm _ aX fun F=>?_;refine ae ?_;refine GoF.exit ?_;exact⟨.inr rfl,rfl,Eu⟩
  ·obtain⟨tG,uX⟩:=Jy mR;obtain⟨n,rY⟩:∃n,xs.length=n:=⟨_,rfl⟩
   rw[rY] at gw hlen H dy ⊢;have cP:∀i (h:i<ii.length),∀x∈ii[i],x∈k::ii.flatten:=fun i h x hx=>e9 _ (vB.2 ⟨_,aS h,hx⟩);have wide:∀ {cn:List Nat} {U a5:af},(∀i∈cn,i∈k::ii.flatten)→eR cn U a5→eR (i1++(i2++(k::ii.flatten))) U a5:=fun h C=>C.wide fun i hi=>ni _ (ni _ (h i hi));have b3P:q≠k:=fun e=>XV (e▸gz ..);show bl _ _ _ _ _ _ _ _;refine GoF.block (GoF.loop (fun m F U=>∃j,j+m=n∧U.get k=some (.cells (xs.flatMap AV.cells))∧(∀i (h:i<xs.length) (h':i<ii.length),j≤i→ot U (ii[i]) (xs[i]))∧(U.get q=some (.cells [.s r,.i .u8 op,.s s,aW,bK,zI l,ey,.ak k 0 n none cap])∧eR (i1++(i2++(k::ii.flatten))) I U)∧sat [(1,bo q),(2,ay j)] F) (fun m F U aZ=>?_) n ⟨0,by omega,hg,fun i h h' _=>c2 i h h',⟨dy,Eu⟩,rfl,rfl,trivial⟩);obtain⟨j,az,hg,c2,⟨OJ,fl⟩,aX⟩:=aZ;refine GoF.norm _ aX fun F=>?_;clear aX H;have H:Has U [(q,[.s r,.i .u8 op,.s s,aW,bK,zI l,ey,.ak k 0 n none cap])]:=Has.nil.cons OJ (by simp);have av:qO U none (.ak k 0 n none cap) xs:=by
    have:=Sl.Ar (Sl.ak (I:=U) (ad:=none) k cap xs [] (by simpa using hg) dV (by rw[rY];exact gw));rwa[rY] at this
   by_cases h6:j<n
   ·refine ae ?_;refine W.dX rfl rfl rfl (b3N hfn hh.is hh.nG hh.OG (c2 j (by omega) (by omega) (o _))) fun r bd ⟨e2,jt⟩=>⟨_,e2,?_⟩
    refine ae ?_;refine⟨m-1,by omega,j+1,by omega,jt.2 _ _ (tG j (by omega)).1 hg,fun i h h' hi=>ot.aF (fun x hx c ah=>jt.2 _ _ (uX i j h' (by omega) (by omega) x hx) ah) (c2 i h h' (by omega)),⟨jt.2 _ _ (fun h=>XV (cP j (by omega) _ h)) OJ,fl.trans (wide (cP j (by omega)) jt)⟩,rfl,rfl,trivial⟩
   ·refine ae ?_;refine GoF.exit ?_;show bl _ _ _ _ _ _ _ _;refine ae ?_;have c7:(xs.flatMap AV.cells).length=n*shN none:=by rw[A6 dV,rY]
    rcases gw with rfl|rfl
    ·refine W.cp hg c7 rfl rfl rfl fun v cW b1 jy cG bM bE=>?_;have b3Q:=bE _ _ b3P OJ;have H:Has b1 [(q,[.s r,.i .u8 op,.s s,aW,bK,zI l,ey,.ak k 0 n none none])]:=Has.nil.cons b3Q (by simp);refine ae ?_;rw[rY];refine W.val (v:=ay (n+cW)) (aq:=b1) rfl rfl (EJ jy rfl rfl) ?_;refine W.val (v:=.ak k 0 (n+cW) none none) (aq:=b1) rfl rfl (EK bM c7 rfl (by decide) rfl rfl) ?_;refine ae ?_;have r9:eR (i1++(i2++(k::ii.flatten))) I b1:=fl.trans ⟨by omega,fun i J h1 h2=>bE _ _ (fun e=>h1 (by rw[e];simp)) h2⟩;have B0:=jy.1;show bl _ _ _ _ _ _ _ _;refine GoF.block (GoF.loop (fun m F U=>∃j c,j+m=n+cW∧U.get k=some (.eT c (cW*shN none))∧c.length=n*1∧eR (i1++(i2++(k::ii.flatten))) I U∧sat [(3,.ak k 0 (n+cW) none none),(4,ay j)] F) (fun m F U aZ=>?_) (n+cW) ⟨0,_,by omega,bM,c7,r9,rfl,rfl,trivial⟩);obtain⟨j,c,az,hg,eZ,fl,aX⟩:=aZ;refine GoF.norm _ aX fun F=>?_;clear aX H av;have H:Has U []:=Has.nil;by_cases h6:j<n+cW
     ·refine ae ?_;refine W.cg hfn hh.nG (hh.OG j (by omega)) rfl rfl rfl rfl ?_;refine ae ?_;generalize hb:U.next=qW;refine W.fJ (c:=[ay (tH j)]) H hb rfl rfl rfl fun dk h7 H dN=>?_;refine ae ?_;refine W.cw rfl rfl rfl rfl (s3 h6) ?_;refine W.gD (dN _ _ hg) rfl rfl rfl rfl (by
       rw[eZ];show n*1≤0+j*1∧0+j*1+1≤n*1+cW*1∨0+j*1+1≤n*1;omega) fun aQ bd e2 n2 b4 br=>?_
      refine ae ?_;refine⟨m-1,by omega,j+1,aQ,by omega,b4,by rw[e2];exact eZ,fl.trans ⟨by omega,fun i J h1 h2=>br _ _ (fun e=>h1 (by rw[e];simp)) (dN _ _ h2)⟩,rfl,rfl,trivial⟩
     ·refine ae ?_;refine GoF.exit ?_;exact⟨.inr rfl,rfl,fl⟩
    ·refine W.val (v:=ay n) (aq:=U) rfl rfl rfl ?_;refine ae ?_;rw[rY];refine W.val (v:=ay n) (aq:=U) rfl rfl (tF (c:=n+12) rfl rfl (sI n 12)) ?_;refine W.val (v:=.ak k 0 n none (some n)) (aq:=U) rfl rfl (EM rfl rfl) ?_;refine ae ?_;show bl _ _ _ _ _ _ _ _;refine GoF.block (GoF.loop (fun m F U=>∃j c,j+m=n∧U.get k=some (.cells c)∧c.length=n*1∧eR (i1++(i2++(k::ii.flatten))) I U∧sat [(3,.ak k 0 n none (some n)),(4,ay j)] F) (fun m F U aZ=>?_) n ⟨0,_,by omega,hg,c7,fl,rfl,rfl,trivial⟩);obtain⟨j,c,az,hg,eZ,fl,aX⟩:=aZ;refine GoF.norm _ aX fun F=>?_;clear aX H av;have H:Has U [(k,c)]:=Has.nil.cons hg (by simp);by_cases h6:j<n
     ·refine ae ?_;refine W.cg hfn hh.nG (hh.OG j (by omega)) rfl rfl rfl rfl ?_;refine ae ?_;generalize hb:U.next=qW;refine W.fJ (c:=[ay (tH j)]) H hb rfl rfl rfl fun dk h7 H dN=>?_;refine ae ?_;refine W.cw rfl rfl rfl rfl (s3 h6) ?_;obtain⟨aQ,s1,s2⟩:=EL (c:=c) (v:=[AV.ak qW 0 1 none (some 1)]) (off:=0+j*1) (by rw[eZ];show 0+j*1+1≤n*1;omega);refine W.st (aQ:=aQ) H 1 rfl rfl rfl rfl rfl s1 fun bd n2 H br=>?_;refine ae ?_;refine⟨m-1,by omega,j+1,aQ,by omega,H.get _ (.tail _ (.head _)),by rw[s2];exact eZ,fl.trans ⟨by omega,fun i J h1 h2=>br _ _ (fun e=>h1 (by rw[e];simp)) (dN _ _ h2)⟩,rfl,rfl,trivial⟩
     ·refine ae ?_;refine GoF.exit ?_;exact⟨.inr rfl,rfl,fl⟩
end
end
theorem iL.ids{α:Type}{P:Nat→Nat→α→AV→Prop}{gY:List Nat→AV→Prop}:∀ {ts:List α} {xs:List AV} {aK hi:Nat},(∀a c t x,t∈ts→P a c t x→∃cn:List Nat,cn.Nodup∧(∀i∈cn,a≤i∧i<c)∧gY cn x)→iL P aK hi ts xs→
  ∃ii:List (List Nat),ii.length=xs.length∧ii.flatten.Nodup∧(∀i∈ii.flatten,aK≤i∧i<hi)∧∀i (h:i<xs.length) (h':i<ii.length),gY ii[i] xs[i]
 |[],[],aK,hi,_,_=>⟨[],rfl,by simp,by simp,fun i h=>by simp at h⟩
 |t::ts,x::xs,aK,hi,h,⟨m,aP,a0,bF,bU⟩=>by
  obtain⟨cn,mV,mW,mX⟩:=h _ _ t x (by simp) bF;obtain⟨ii,i1,i2,i3,i4⟩:=iL.ids (fun a c t x ht=>h a c t x (by simp[ht])) bU;refine⟨cn::ii,by simp[i1],?_,fun i hi=>?_,fun i hi cS=>?_⟩
  ·rw[MS];exact th.2 ⟨mV,i2,fun a ha c ah e=>by have:=mW a ha;have:=i3 c ah;omega⟩
  ·rw[MS] at hi;rcases dE.1 hi with hi|hi
   ·have:=mW i hi;omega
   ·have:=i3 i hi;omega
  ·cases i with
   |zero=>exact mX
   |succ i=>exact i4 i (by simpa using hi) (by simpa using cS)
theorem l3.ids{α:Type}{I:af}{P:Nat→Nat→α→AV→Prop}{gY:List Nat→AV→Prop}{ad:Option Nat}{ts:List α}{w:AV}{aK hi:Nat}(hM:∀a c t x,t∈ts→P a c t x→∃cn:List Nat,cn.Nodup∧(∀i∈cn,a≤i∧i<c)∧gY cn x)(ar:ts.length<2^20)(h:l3 I P ad aK hi ts w):∃ids:List Nat,ids.Nodup∧(∀i∈ids,aK≤i∧i<hi)∧l9 I gY ad ids w:=by
 rcases h with⟨rfl,rfl,_⟩|⟨k,xs,h1,h2,rfl,aE,ba,cr⟩
 ·exact⟨[],by simp,by simp,.inl ⟨rfl,rfl⟩⟩
 ·obtain⟨ii,i1,i2,i3,i4⟩:=cr.ids hM;have hle:=cr.le;have b2g:=cr.len;refine⟨k::ii.flatten,Bz.2 ⟨fun h=>by have:=i3 k h;omega,i2⟩,fun i hi=>?_,.inr ⟨k,xs,ii,_,rfl,rfl,.inr rfl,by omega,aE,ba,i1,i4⟩⟩;rcases cH.1 hi with rfl|hi
  ·omega
  ·have:=i3 i hi;omega
theorem gZ.ids{I:af}:∀(d:Nat) {aK hi:Nat} {t:Tm} {v:AV},Tm.nc d t→gZ I d aK hi t v→∃ids:List Nat,ids.Nodup∧(∀i∈ids,aK≤i∧i<hi)∧kg I d ids v
 |0,_,_,_,_,h,_=>h.elim
 |d+1,aK,hi,t,v,⟨s1,s2⟩,⟨w,e,h⟩=>by
  obtain⟨ids,h1,h2,h3⟩:=h.ids (gY:=kg I d) (fun a c t x ht hx=>gZ.ids d (s2 t ht) hx) s1;exact⟨ids,h1,h2,t.var,t.name,w,e,h3⟩
theorem fF.ids{I:af}:∀(d:Nat) {aK hi:Nat} {t:Fm} {v:AV},Fm.nc d t→fF I d aK hi t v→∃ids:List Nat,ids.Nodup∧(∀i∈ids,aK≤i∧i<hi)∧lH I d ids v
 |0,_,_,_,_,h,_=>h.elim
 |d+1,aK,hi,t,v,⟨s1,s2,iq,ee⟩,⟨w,bK,m,e,h,h'⟩=>by
  obtain⟨i1,aP,a0,bF⟩:=h.ids (gY:=kg I d) (fun a c t x ht hx=>gZ.ids d (iq t ht) hx) s1;obtain⟨i2,cC,c0,ej⟩:=h'.ids (gY:=lH I d) (fun a c t x ht hx=>fF.ids d (ee t ht) hx) s2;have gd:=h.le;have j9:=h'.le;refine⟨i1++i2,th.2 ⟨aP,cC,fun a ha c ah e=>by have:=a0 a ha;have:=c0 c ah;omega⟩,fun i hi=>?_,Int.ofNat t.op,t.name,w,bK,i1,i2,e,rfl,bF,ej⟩;rcases dE.1 hi with hi|hi
  ·have:=a0 i hi;omega
  ·have:=c0 i hi;omega
theorem fv.b3R{I:af}{e d:Nat}{k:dB}{p:Prf}(h:fv I e (d+1) k p)(hp:p.sub≠[]):k.ey= .ak k.S 0 p.sub.length (some 8) none∧I.get k.S=some (.cells (((List.range p.sub.length).map (fun i=>AV.ag (eJ (k.kids.getD i k) (p.sub.getD i p)))).flatMap AV.cells)):=by
 obtain⟨h1,h2,⟨ba,cr,de⟩,fi,hD,ij⟩:=h;obtain⟨_,e2,c,gc,ah⟩:=de hp;refine⟨e2,?_⟩;have dV:∀y∈(List.range p.sub.length).map (fun i=>AV.ag (eJ (k.kids.getD i k) (p.sub.getD i p))),conf (some 8) y=true:=fun y aw=>by obtain⟨i,_,rfl⟩:=bQ.1 aw;rfl
 have jj:c=((List.range p.sub.length).map (fun i=>AV.ag (eJ (k.kids.getD i k) (p.sub.getD i p)))).flatMap AV.cells:=by
  apply wk;intro t;by_cases ht:t<p.sub.length*8
  ·have az:t/8<p.sub.length:=by omega
   have m0:t/8<k.kids.length:=by omega
   obtain⟨_,_,⟨aQ,EF,On⟩,_⟩:=fi (t/8) m0 az;rw[gc] at EF;cases EF;have lr:=On (t%8) (by omega);rw[show t/8*8+t%8=t from by omega] at lr;rw[lr];have:=I6 (xs:=(List.range p.sub.length).map (fun i=>AV.ag (eJ (k.kids.getD i k) (p.sub.getD i p)))) (rest:=[]) (fun y aw=>by obtain⟨i,_,rfl⟩:=bQ.1 aw;exact⟨_,rfl,rfl⟩) (t/8) (by rw[aJ,oz];exact az) (eJ k.kids[t/8] p.sub[t/8]) (by
    rw[fQ,Ap,fU,a9 m0,fU,a9 az];rfl) (t%8) (by omega)
   rw[show t/8*8+t%8=t from by omega,fV] at this;exact this.symm
  ·rw[q7 (by omega),q7];rw[AL dV,aJ,oz];show p.sub.length*8≤t;omega
 rw[gc,jj]
theorem b3S{n:Nat}{P:Nat→List Nat→Prop}{aK:Nat→Nat}{hi:Nat→Nat}(h:∀i,i<n→∃cn:List Nat,cn.Nodup∧(∀x∈cn,aK i≤x∧x<hi i)∧P i cn)(au:∀i j,i<n→j<n→i<j→hi i≤aK j):∃ii:List (List Nat),ii.length=n∧ii.flatten.Nodup∧(∀x∈ii.flatten,∃i,i<n∧aK i≤x∧x<hi i)∧∀i (h:i<ii.length),P i ii[i]:=by
 induction n with
 |zero=>exact⟨[],rfl,by simp,by simp,fun i h=>by simp at h⟩
 |succ n aA=>
  obtain⟨ii,i1,i2,i3,i4⟩:=aA (fun i hi=>h i (by omega)) fun i j a c=>au i j (by omega) (by omega);obtain⟨cn,mV,mW,mX⟩:=h n (by omega);refine⟨ii++[cn],by simp[i1],?_,fun x hx=>?_,fun i hi=>?_⟩
  ·rw[Uo];refine th.2 ⟨i2,by simpa using mV,fun a ha c ah e=>?_⟩;obtain⟨i,cC,c0,ej⟩:=i3 a ha;have:=mW c (by simpa using ah);have:=au i n (by omega) (by omega) cC;omega
  ·rw[Uo] at hx;rcases dE.1 hx with hx|hx
   ·obtain⟨i,cC,c0⟩:=i3 x hx;exact⟨i,by omega,c0⟩
   ·exact⟨n,by omega,mW x (by simpa using hx)⟩
  ·by_cases c:i<n
   ·rw[jn (by omega)];exact i4 i (by omega)
   ·have:i=n:=by simp at hi;omega
    subst this;rw[jG (by omega)];simp only[i1,kj,mJ];exact mX
theorem XW:∀n:Nat,(List.replicate n ([]:List Nat)).flatten=[]
 |0=>rfl
 |n+1=>by rw[Qq,MS,XW n];rfl
theorem h9.vW{I:af}{v:AV}{l:List Int}(h:h9 I none v (l.map zI))(h0:l=[]→v= .aB)(ah:∀J l c,v= .ak J 0 l none c→c=none)(ar:l.length<2^20):ot I v.bn.toList v:=by
 by_cases hn:l=[]
 ·rw[h0 hn];exact .inl ⟨rfl,rfl⟩
 ·obtain⟨J,rfl,g⟩:=h.gE hn ah;refine .inr ⟨J,l.map zI,List.replicate l.length [],none,by rw[XW];rfl,by rw[aJ],.inl rfl,by rw[aJ];exact ar,by rw[Jg];exact g,ys,by rw[List.length_replicate,aJ],fun i a c=>⟨by rw[List.getElem_replicate],?_⟩⟩;exact⟨l[i]'(by rwa[aJ] at a),by rw[fQ]⟩
theorem fv.ids{I:af}{e:Nat}:∀(d:Nat) {k:dB} {p:Prf},nH e d p→(∀x∈p.pre,∀l∈x.aG,(l.getD []).length<2^20)→fv I e d k p→∃ids:List Nat,ids.Nodup∧(∀i∈ids,k.aK≤i∧i<k.hi)∧kT e I d ids (.ag (eJ k p))
 |0,_,_,h,_,_=>h.elim
 |d+1,k,p,⟨s1,s2,iq,ee,mE⟩,hL,c4=>by
  have hle:=c4.le;have zp:=c4.b3R;obtain⟨h1,h2,⟨ba,cr,de⟩,fi,hD,ij⟩:=c4;obtain⟨i1,aP,a0,bF⟩:=fF.ids e s1 h1;have e8:∃i2:List Nat,i2.Nodup∧(∀i∈i2,k.mD≤i∧i<k.E)∧l9 I (kT e I d) (some 8) i2 k.ey:=by
   by_cases hp:p.sub=[]
   ·exact⟨[],by simp,by simp,.inl ⟨rfl,cr hp⟩⟩
   ·obtain⟨e2,EB⟩:=zp hp;have b2A:=(de hp).1;obtain⟨ii,cQ,eA,ek,hT⟩:=b3S (n:=p.sub.length) (P:=fun i cn=>kT e I d cn (.ag (eJ (k.kids.getD i k) (p.sub.getD i p)))) (aK:=fun i=>(k.kids.getD i k).aK) (hi:=fun i=>(k.kids.getD i k).hi) (fun i hi=>by
     have wP:i<k.kids.length:=by omega
     obtain⟨cn,mV,mW,mX⟩:=fv.ids d (mE _ (aS hi)) (fun x hx=>hL x (by rw[Prf.gB];exact e9 _ (gP.2 ⟨_,aS hi,hx⟩))) (fi i wP hi).2.2.2;have aM:k.kids.getD i k=k.kids[i]:=by rw[fU,a9 wP];rfl
     have e2:p.sub.getD i p=p.sub[i]:=by rw[fU,a9 hi];rfl
     simp only[aM,e2];exact⟨cn,mV,mW,mX⟩) (fun i j hi az fw=>by
     have wP:i<k.kids.length:=by omega
     have m0:j<k.kids.length:=by omega
     have aM:k.kids.getD i k=k.kids[i]:=by rw[fU,a9 wP];rfl
     have e2:k.kids.getD j k=k.kids[j]:=by rw[fU,a9 m0];rfl
     simp only[aM,e2];exact hD i j wP m0 fw)
    have XX:∀x∈ii.flatten,k.mD≤x∧x<k.S:=fun x hx=>by
     obtain⟨i,cC,c0,ej⟩:=ek x hx;have wP:i<k.kids.length:=by omega
     have aM:k.kids.getD i k=k.kids[i]:=by rw[fU,a9 wP];rfl
     rw[aM] at c0 ej;have:=fi i wP cC;omega
    refine⟨k.S::ii.flatten,Bz.2 ⟨fun h=>by have:=XX _ h;omega,eA⟩,fun i hi=>?_,.inr ⟨k.S,_,ii,none,rfl,?_,.inl rfl,by rw[aJ,oz];exact s2,EB,fun y aw=>by obtain⟨i,_,rfl⟩:=bQ.1 aw;rfl,by rw[aJ,oz];exact cQ,fun i hi cS=>by rw[fQ,Ap];exact hT i cS⟩⟩
    ·rcases cH.1 hi with rfl|hi
     ·omega
     ·have:=XX i hi;omega
    ·rw[aJ,oz];exact e2
  obtain⟨i2,cC,c0,ej⟩:=e8;have kR:∃i3:List Nat,i3.Nodup∧(∀i∈i3,k.E≤i∧i<k.hi)∧l9 I (ot I) none i3 k.b6:=by
   have Ma:∀j (h:j<k.eF.length),ot I k.eF[j].bn.toList k.eF[j]:=fun j h=>by
    have az:j<p.aG.length:=by have:=ij.len;omega
    obtain⟨iS,iT,k2,_⟩:=ij.each j h az;exact iS.vW iT k2 (hL p (by rw[Prf.gB];exact .head _) _ (aS az))
   have rq:∀j (h:j<k.eF.length) J,J∈k.eF[j].bn.toList→k.E≤J∧J<k.hi∧k.b6.bn ≠some J:=fun j h J ab=>(ij.each j h (by have:=ij.len;omega)).2.2.2 J (by rwa[GP] at ab);have b3T:=ij.yB;have hx:=ij.ak.ex;have ko:=ij.ak.ak;have gw:=ij.cap;have hlen:k.eF.length<2^20:=by have:=ij.len;omega
   by_cases vv:k.eF=[]
   ·exact⟨[],by simp,by simp,.inl ⟨rfl,ij.nl vv⟩⟩
   ·have D2:=ij.own;generalize Ix:k.eF=ls at *;generalize c3V:k.b6=b6 at *;cases ko with
    |nil=>exact absurd rfl vv
    |ak J cap _ rest hg dV aD=>
     have b3U:=D2 J rfl;have c7:∀x∈(ls.map fun v=>v.bn.toList).flatten,k.E≤x∧x<k.hi∧x≠J:=fun x hx=>by
      obtain⟨l,ar,j8⟩:=vB.1 hx;obtain⟨v,av,rfl⟩:=bQ.1 ar;obtain⟨j,az,rfl⟩:=gm av;have:=rq j az x j8;exact⟨this.1,this.2.1,fun e=>this.2.2 (by rw[e];rfl)⟩
     refine⟨J::(ls.map fun v=>v.bn.toList).flatten,Bz.2 ⟨fun h=>(c7 J h).2.2 rfl,?_⟩,fun i hi=>?_,.inr ⟨J,ls,_,cap,rfl,rfl,.inl (gw _ _ _ rfl),hlen,hx J rfl,dV,by rw[aJ],fun i a c=>by rw[fQ];exact Ma i a⟩⟩
     ·refine Tw.2 ⟨fun l ar=>?_,yj.2 fun i j hi az fw=>fun x hx y aw e=>?_⟩
      ·obtain⟨v,_,rfl⟩:=bQ.1 ar;cases v.bn <;>simp
      ·subst e;rw[aJ] at hi az;rw[fQ,GP] at hx aw;exact b3T i j hi az fw x aw hx
     ·rcases cH.1 hi with rfl|hi
      ·exact b3U
      ·have:=c7 i hi;exact⟨this.1,this.2.1⟩
  obtain⟨i3,cQ,eA,ek⟩:=kR;refine⟨i1++(i2++i3),th.2 ⟨aP,th.2 ⟨cC,cQ,fun a ha c ah e=>by have:=c0 a ha;have:=eA c ah;omega⟩,fun a ha c ah e=>?_⟩,fun i hi=>?_,p.rule,Int.ofNat p.form.op,p.form.name,k.aW,k.bK,p.aY,k.ey,k.b6,i1,i2,i3,rfl,rfl,bF,ej,ek⟩
  ·have:=a0 a ha;rcases dE.1 ah with ah|ah
   ·have:=c0 c ah;omega
   ·have:=eA c ah;omega
  ·rcases dE.1 hi with hi|hi
   ·have:=a0 i hi;omega
   ·rcases dE.1 hi with hi|hi
    ·have:=c0 i hi;omega
    ·have:=eA i hi;omega
section
attribute [local irreducible] bL bl e6 eB b9
def p4(M e d:Nat)(I U:af)(r:dM)(m6:Nat)(u:Prf):Prop:=b2 I U∧∃c8 aP a0 bF bU c6 dL gC,r= .ok (.bJ [.ag [c8,aP,a0,bF,bU,c6,dL,gC],ay m6])∧
 (∀a5:af,(∀i c,I.next≤i→i<U.next→U.get i=some (.cells c)→a5.get i=some (.cells c))→bh a5 M (.ag [c8,aP,a0,bF,bU,c6,dL,gC])=some (.ag (prC true u)))∧
 ∃ids:List Nat,ids.Nodup∧(∀i∈ids,I.next≤i∧i<U.next)∧kT e U d ids (.ag [c8,aP,a0,bF,bU,c6,dL,gC])
def kA:Prf:=.mk [] (.mk 0 [] none none) 0 none none
theorem p4.zero{M e d m6:Nat}{I U:af}(hY:3≤M)(h:b2 I U):p4 M (e+1) (d+1) I U (.ok (.bJ [.ag dm,ay m6])) m6 kA:=by
 obtain⟨M,rfl⟩:∃m,M=m+3:=⟨M-3,by omega⟩
 exact⟨h,_,_,_,_,_,_,_,_,rfl,fun _ _=>rfl,[],by simp,by simp,[],0,[],.aB,.aB,0,.aB,.aB,[],[],[],rfl,rfl,⟨0,[],.aB,.aB,[],[],rfl,rfl,.inl ⟨rfl,rfl⟩,.inl ⟨rfl,rfl⟩⟩,.inl ⟨rfl,rfl⟩,.inl ⟨rfl,rfl⟩⟩
theorem p4.XY{M e d m6:Nat}{I U:af}{k:dB}{p:Prf}(hY:2*e+2*d+2≤M)(h:b2 I U)(aj:nH e d p)(hL:∀x∈p.pre,∀l∈x.aG,(l.getD []).length<2^20)(c4:fv U e d k p)(h1:I.next≤k.aK)(h2:k.hi≤U.next):p4 M e d I U (.ok (.bJ [.ag (eJ k p),ay m6])) m6 p.nz:=by
 obtain⟨ids,i1,i2,i3⟩:=fv.ids d aj hL c4;refine⟨h,_,_,_,_,_,_,_,_,rfl,fun a5 aD=>?_,ids,i1,fun i hi=>by have:=i2 i hi;omega,i3⟩;exact e7.snap d hY (e7.Om (M:=M) (by omega) d (by omega) (fv.aF (U:=a5) d (fun i c aP a0 ab=>aD i c (by omega) (by omega) ab) c4))
theorem u9{l:List AV}(h:l.length=8):∃c8 aP a0 bF bU c6 dL gC,l=[c8,aP,a0,bF,bU,c6,dL,gC]:=by
 match l,h with
 |[c8,aP,a0,bF,bU,c6,dL,gC],_=>exact⟨c8,aP,a0,bF,bU,c6,dL,gC,rfl⟩
end
theorem Tm.sb:∀(d:Nat) (t:Tm),t.dep≤d→t.nz.nz=t.nz
 |0,t,h=>by have:=Tm.gJ t;omega
 |d+1,t,h=>by
  rw[Tm.hd t,Tm.hd];show Tm.mk t.var t.name (cM (((cM (t.args.map Tm.nz)).getD []).map Tm.nz))=_;rw[js,eK]
  congr 2
  exact gl fun u hu=>Tm.sb d u (by have:=Tm.pI hu;omega)
theorem Fm.sb:∀(d:Nat) (t:Fm),t.dep≤d→t.nz.nz=t.nz
 |0,t,h=>by have:=Fm.gJ t;omega
 |d+1,t,h=>by
  rw[Fm.hd t,Fm.hd];show Fm.mk t.op t.name (cM (((cM (t.args.map Tm.nz)).getD []).map Tm.nz)) (cM (((cM (t.sub.map Fm.nz)).getD []).map Fm.nz))=_;rw[js,js,eK,eK];have aM:t.args.map (Tm.nz∘Tm.nz)=t.args.map Tm.nz:=gl fun u hu=>Tm.sb u.dep u (o _);have e2:t.sub.map (Fm.nz∘Fm.nz)=t.sub.map Fm.nz:=gl fun u hu=>Fm.sb d u (by have:=Fm.jE hu;omega);rw[aM,e2]
theorem Prf.mF(p:Prf):p.nz.sub=p.sub.map Prf.nz:=by rw[Prf.hd];exact js _
theorem Prf.sc(p:Prf):p.nz.aG=p.aG.map jX:=by rw[Prf.hd];exact js _
theorem Prf.tI(p:Prf):p.nz.rule=p.rule:=by rw[Prf.hd];rfl
theorem Prf.tJ(p:Prf):p.nz.aY=p.aY:=by rw[Prf.hd];rfl
theorem Prf.wQ(p:Prf):p.nz.form=p.form.nz:=by rw[Prf.hd];rfl
theorem p5(l:Option (List Int)):(jX l).getD []=l.getD []:=js _
theorem JA{u v:Prf}(h1:u.rule=v.rule)(h2:u.form.nz=v.form.nz)(h3:u.aY=v.aY)(aE:u.sub.map Prf.nz=v.sub.map Prf.nz)(ba:(u.aG.map fun x=>x.getD [])=v.aG.map fun x=>x.getD []):u.nz=v.nz:=by
 have e:∀p:Prf,qR p.cv=cM ((p.aG.map fun x=>x.getD []).map cM):=fun p=>by
  unfold qR;rw[eK];rfl
 rw[Prf.hd u,Prf.hd v,e u,e v,h1,h2,h3,aE,ba]
theorem JB(p:Prf):(p.nz.aG.map fun x=>x.getD [])=p.aG.map fun x=>x.getD []:=by
 rw[Prf.sc,eK];exact gl fun x _=>p5 x
theorem b3V{u v:Prf}(h:u.nz=v.nz):u.rule=v.rule∧u.form.nz=v.form.nz∧u.aY=v.aY∧u.sub.map Prf.nz=v.sub.map Prf.nz∧(u.aG.map fun x=>x.getD [])=v.aG.map fun x=>x.getD []:=
 ⟨by rw[←Prf.tI u,h,Prf.tI],by rw[←Prf.wQ u,h,Prf.wQ],by rw[←Prf.tJ u,h,Prf.tJ],by rw[←Prf.mF,h,Prf.mF],by rw[←JB u,h,JB]⟩
theorem Prf.sb:∀(d:Nat) (p:Prf),p.dep≤d→p.nz.nz=p.nz
 |0,p,h=>by have:=Prf.gJ p;omega
 |d+1,p,h=>JA (Prf.tI p) (by rw[Prf.wQ];exact Fm.sb _ _ (o _)) (Prf.tJ p) (by
   rw[Prf.mF,eK];exact gl fun q hq=>Prf.sb d q (by have:=Prf.jE hq;omega)) (JB p)
theorem EP(p:Prf):p.nz.nz=p.nz:=Prf.sb p.dep p (o _)
theorem ER:∀(d:Nat) (p:Prf),p.cJ≤d→p.nz.pre=p.pre.map Prf.nz
 |0,p,h=>by have:=p.m5;omega
 |d+1,p,h=>by
  rw[Prf.gB,Prf.gB p,jK,Prf.mF,w3,K7]
  congr 1
  have:∀(s:List Prf),(∀q∈s,q.cJ≤d)→(s.flatMap fun q=>q.nz.pre)=s.flatMap fun q=>q.pre.map Prf.nz:=fun s aj=>by
   induction s with
   |nil=>rfl
   |cons q s aA=>rw[eG,eG,ER d q (aj q (.head _)),aA fun q hq=>aj q (.tail _ hq)]
  exact this _ fun q hq=>by have:=Prf.my hq;omega
theorem b3W(x:Prf):kN x.nz=kN x:=by
 show x.nz.aY::x.nz.aG.flatMap (fun m=>m.getD [])=x.aY::x.aG.flatMap fun m=>m.getD [];rw[Prf.tJ,Prf.sc,w3]
 congr 1
 congr 1
 funext m;exact p5 m
theorem A9(p:Prf):bN p.nz=bN p:=by
 unfold bN;rw[ER p.cJ p (o _),w3]
 congr 1
 funext x;exact b3W x
theorem XZ:∀(d:Nat) (p:Prf),p.cJ≤d→p.nz.cJ=p.cJ
 |0,p,h=>by have:=p.m5;omega
 |d+1,p,h=>by
  rw[Prf.tm,Prf.tm p,Prf.mF]
  congr 1
  have:∀(s:List Prf),(∀q∈s,q.cJ≤d)→Prf.hX (s.map Prf.nz)=Prf.hX s:=fun s aj=>by
   induction s with
   |nil=>rfl
   |cons q s aA=>rw[jK,Prf.hX,Prf.hX,XZ d q (aj q (.head _)),aA fun q hq=>aj q (.tail _ hq)]
  exact this _ fun q hq=>by have:=Prf.my hq;omega
theorem b3X(p:Prf):p.nz.cnt=p.cnt:=by
 show p.nz.pre.length=p.pre.length;rw[ER p.cJ p (o _),aJ]
theorem nK(p:Prf):dH p.nz=dH p:=by
 unfold dH mz;rw[XZ p.cJ p (o _),b3X,ER p.cJ p (o _),MT]
 congr 3
 funext x
 show decide (x.nz.sub.length≤4)=_;rw[Prf.mF,aJ]
theorem b3Y(x:Prf):f_ x.nz=f_ x:=by
 unfold f_;rw[Prf.tI,Prf.tJ,Prf.mF,Prf.sc,aJ,aJ,MT]
 congr 3
 congr 1
 funext m
 show qU ((jX m).getD [])=_;rw[p5]
theorem nL(p:Prf):dh p.nz=dh p:=by
 unfold dh;rw[ER p.cJ p (o _),MT]
 congr 1
 funext x;exact b3Y x
theorem yV(n:Int):∀(d:Nat) (p:Prf),p.cJ≤d→fS n p.nz=fS n p
 |0,p,h=>by have:=p.m5;omega
 |d+1,p,h=>by
  rw[yt,yt n p,Prf.tI,Prf.tJ]
  congr 1
  rw[oA,AI,AI];have hg:∀j,((p.nz.aG.getD j none).getD [])=(p.aG.getD j none).getD []:=fun j=>by
   rw[Prf.sc,fU,fU,kV];cases p.aG[j]? with
   |none=>rfl
   |some x=>exact p5 x
  constructor
  ·rintro⟨j,az,h1,h2⟩;have ff:j<p.sub.length:=by rwa[Prf.mF,aJ] at az
   refine⟨j,ff,by rw[←hg];exact h1,?_⟩;simp only[Prf.mF,fQ] at h2;rwa[yV n d _ (by have:=Prf.my (aS ff);omega)] at h2
  ·rintro⟨j,ff,h1,h2⟩;have az:j<p.nz.sub.length:=by rwa[Prf.mF,aJ]
   refine⟨j,az,by rw[hg];exact h1,?_⟩;simp only[Prf.mF,fQ];rwa[yV n d _ (by have:=Prf.my (aS ff);omega)]
theorem b3Z(p:Prf):kO p.nz=kO p:=by rw[Eb,Eb,A9]
theorem X0(p:Prf):iK p.nz []=iK p []:=by unfold iK;rw[A9]
theorem yW(p q:Prf):hN p.nz q.nz=hN p q:=by
 unfold hN;rw[b3Z];exact Xu (fun n=>by rw[I4,I4,yV n q.cJ q (o _)]) _
end Go.Lyc
end
