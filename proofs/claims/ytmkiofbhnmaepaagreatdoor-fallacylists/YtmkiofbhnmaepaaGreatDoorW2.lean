/-
  What functions of the program compute: walks, part 2. No conditions: definitions and laws.
-/
import Derived.Test.YtmkiofbhnmaepaaGreatDoorW1
import Derived.SizedLaws
set_option linter.all false
noncomputable section
namespace Go.Lyc
def zD:=@List.nodup_cons
def Nu:=@List.take_succ
def Nv:=@List.mem_range'_1
def ZM:=@List.length_singleton
def ZN:=@List.length_reverse
def ZO:=@List.filter_append
def ZP:=@List.length_filter_le
def ZQ:=@List.map_inj_right
def C7:=@Go.DataW.weights_mem_each
def HF:=@Int.toNat_of_nonneg
set_option maxHeartbeats 0
set_option maxRecDepth 100000
section
variable [Tok][TokOk]
open Go.RowKit Go.Lyc.T
section
variable {env:Env}{D d_ Lp:List (Nat ⊕ (AV×List AV))}{n:Nat}{f:Nat→AV}{o:ad}{Q:fo}
theorem fG.c7X{mw:az}{ps:List Nat}{i_ b:bc}{g:Nat}{first cap:List AV}(hf:dV env n f mw=some (.f (.func g) first cap))(he:env.ext g=0)
  (h:∀al,(∀i,al.get i=if i<n then some (f i) else none)→cy env 0 (.f (.func g) first cap) [.f (.yield (o.next+1)) [] []] ((o.push .cT).push (.loop .ready none al ps i_ b o.next))
   (fun r fJ=>∃v,r= .ok v∧((∃st,fJ.get (o.next+1)=some (.loop st none al ps i_ b o.next)∧st≠ .busy∧Q .normal f (fJ.set (o.next+1) (.loop .exhausted none al ps i_ b o.next)))∨
    (fJ.get (o.next+1)=some (.loop .done (some .ret) al ps i_ b o.next)∧Q .ret f (fJ.set (o.next+1) (.loop .exhausted (some .ret) al ps i_ b o.next)))))):
  fG env D (.inl o.next::D) n (.rangeFunc mw ps i_ b) f o Q:=fun ae bl=>by
 have h':=h ae.aW bl.get;refine cO.succ (cO.then (g:=fun x F=>rangeK (exec env F) 0 none ae (.inl o.next::ae.defers) (o.next+1) x) h' fun I aj=>?_) fun F=>?_
 ·obtain⟨r,fJ⟩:=I;obtain⟨v,h1,h2⟩:=aj;have h1:r= .ok v:=h1;subst h1;rcases h2 with⟨st,h2,h3,aN⟩|⟨h2,aN⟩
  ·have h2:fJ.get (o.next+1)=some (.loop st none ae.aW ps i_ b o.next):=h2;refine cO.one (x:=(.normal,⟨ae.aW,.inl o.next::ae.defers,ae.eZ⟩,fJ.set (o.next+1) (.loop .exhausted none ae.aW ps i_ b o.next))) (fun F=>?_) ⟨f,⟨bl.get,by show _::ae.defers=_;rw[bl.ds],bl.rc⟩,aN⟩;show(match fJ.get (o.next+1) with
    |some (.loop st h5 lG iO fT b' e5)=>(match st with
     | .busy=>none
     |_=>match h5 with
      |none=>some [(gn.normal,(⟨ae.aW,.inl o.next::ae.defers,ae.eZ⟩:Fr),fJ.set (o.next+1) (.loop .exhausted h5 lG iO fT b' e5))]
      |some c=>exec env F 0 none c ⟨ae.aW,.inl o.next::ae.defers,ae.eZ⟩ (fJ.set (o.next+1) (.loop .exhausted h5 lG iO fT b' e5)))
    |_=>none)=_
   rw[h2];cases st with
   |busy=>exact absurd rfl h3
   |_=>rfl
  ·have h2:fJ.get (o.next+1)=some (.loop .done (some .ret) ae.aW ps i_ b o.next):=h2;refine cO.succ (cO.one (x:=(.ret,⟨ae.aW,.inl o.next::ae.defers,ae.eZ⟩,fJ.set (o.next+1) (.loop .exhausted (some .ret) ae.aW ps i_ b o.next))) (fun F=>rfl) ⟨f,⟨bl.get,by show _::ae.defers=_;rw[bl.ds],bl.rc⟩,aN⟩) fun F=>?_;show(match fJ.get (o.next+1) with
    |some (.loop st h5 lG iO fT b' e5)=>(match st with
     | .busy=>none
     |_=>match h5 with
      |none=>some [(gn.normal,(⟨ae.aW,.inl o.next::ae.defers,ae.eZ⟩:Fr),fJ.set (o.next+1) (.loop .exhausted h5 lG iO fT b' e5))]
      |some c=>exec env (F+1) 0 none c ⟨ae.aW,.inl o.next::ae.defers,ae.eZ⟩ (fJ.set (o.next+1) (.loop .exhausted h5 lG iO fT b' e5)))
    |_=>none)=_
   rw[h2];show exec env (F+1) 0 none .ret _ _=_;rw[mj];rfl
 ·rw[mj];show(if Nat.blt o.next 0 then none else
   match evalA env ae.aW mw with
   |some (.f (.func g) first cap)=>
    match xQ none ae o with
    |none=>none
    |some (d,bk,ds)=>
     match env.ext g with
     |0=>gi (callF env (exec env F) 0 g (first++AV.f (.yield bk.next) [] []::cap) (bk.push (.loop .ready none ae.aW ps i_ b d))) (rangeK (exec env F) 0 none ae ds bk.next)
     |_=>none
   |_=>none)=_
  rw[if_neg (by simp[Nat.blt,Nat.ble]),bl.aw,hf];show(match env.ext g with
     |0=>gi (callF env (exec env F) 0 g (first++AV.f (.yield (o.next+1)) [] []::cap) ((o.push .cT).push (.loop .ready none ae.aW ps i_ b o.next))) (rangeK (exec env F) 0 none ae (.inl o.next::ae.defers) (o.next+1))
     |_=>none)=_
  rw[he];show gi (callF env (exec env F) 0 g (first++AV.f (.yield (o.next+1)) [] []::cap) _) _=gi (callF env (exec env F) 0 g (first++[AV.f (.yield (o.next+1)) [] []]++cap) _) _;rw[kn];rfl
end
theorem cy.c7Y{env:Env}{l n:Nat}{f:Nat→AV}{o:ad}{al:aP AV}{ps:List Nat}{i_ b:bc}{d:Nat}{args:List AV}{aq:Bool→ad→Prop}(au:o.get l=some (.loop .ready none al ps i_ b d))(eB:∀i,al.get i=if i<n then some (f i) else none)(yu:cV (fun p=>Nat.blt p n) ps=true)(hlen:Nat.beq ps.length args.length=true)
  (h:ck env (some l) [] n i_ (F9 ps args f) o (fun x f1 bk=>x= .normal∧bk.get l=some (.loop .ready none al ps i_ b d)∧
   ck env (some l) [] n b f1 (bk.set l (.loop .busy none al ps i_ b d)) (fun x _ b7=>b7.get l=some (.loop .busy none al ps i_ b d)∧(x= .normal∧aq true (b7.set l (.loop .ready none al ps i_ b d))∨x= .ret∧aq false (b7.set l (.loop .done (some .ret) al ps i_ b d)))))):
  cy env 0 (.f (.yield l) [] []) args o (fun r ah=>∃fy,r= .ok (.b fy)∧aq fy ah):=by
 have h1:=h _ (Mj (args:=args) yu eB);refine cO.congr (cO.then (g:=fun x F=>roundMid (exec env F) 0 l b x) h1 fun I aj=>?_) fun F=>?_
 ·obtain⟨x,en,bk⟩:=I;obtain⟨f1,Ck,hx,hF,h2⟩:=aj;have hx:x= .normal:=hx;subst hx;have hF:bk.get l=some (.loop .ready none al ps i_ b d):=hF;refine cO.congr (cO.then (g:=fun x _=>roundEnd l x) (h2 en Ck) fun I aj=>?_) fun F=>?_
  ·obtain⟨x,Mk,b7⟩:=I;obtain⟨f2,_,nz,b9⟩:=aj;have nz:b7.get l=some (.loop .busy none al ps i_ b d):=nz;rcases b9 with⟨hx,b9⟩|⟨hx,b9⟩
   ·have hx:x= .normal:=hx;subst hx;refine cO.one (x:=(.ok (.b true),b7.set l (.loop .ready none al ps i_ b d))) (fun _=>?_) ⟨true,rfl,b9⟩;show(endRound b7 l none).map (fun x=>[x])=_;unfold endRound;rw[nz];rfl
   ·have hx:x= .ret:=hx;subst hx;refine cO.one (x:=(.ok (.b false),b7.set l (.loop .done (some .ret) al ps i_ b d))) (fun _=>?_) ⟨false,rfl,b9⟩;show(endRound b7 l (some .ret)).map (fun x=>[x])=_;unfold endRound;rw[nz];rfl
  ·show(match bk.get l with
    |some (.loop .ready h5 lG iO fT b' e5)=>gi (exec env F 0 (some l) b en (bk.set l (.loop .busy h5 lG iO fT b' e5))) (roundEnd l)
    |_=>none)=_
   rw[hF]
 ·show(if Nat.blt l 0 then none else
   match o.get l with
   |some (.loop .ready _ al ps i_ b _)=>cond (Nat.beq ps.length args.length) (gi (exec env F 0 (some l) i_ ⟨layAll ps args al,[],false⟩ o) (roundMid (exec env F) 0 l b)) none
   |_=>none)=_
  rw[if_neg (by simp[Nat.blt,Nat.ble]),au];show cond (Nat.beq ps.length args.length) _ none=_;rw[hlen,cond_true]
abbrev pw:=List (Nat ⊕ (AV×List AV))
def cP(env:Env)(D:pw)(n:Nat)(c:bc)(f:Nat→AV)(o:ad)(Q:pw→fo):Prop:=∀ae,hc D n f ae→fh env 0 none c ae o (fun x ae o=>∃d_,rH d_ n (Q d_) x ae o)
section
variable {env:Env}{D d_:pw}{n:Nat}{f:Nat→AV}{o:ad}{Q:pw→fo}
theorem cP.zE{c:bc}(h:ck env none D n c f o (Q D)):cP env D n c f o Q:=fun ae bl=>(h ae bl).mono fun x ae o h=>⟨D,h⟩
theorem cP.Nw{c:bc}(h:fG env D d_ n c f o (Q d_)):cP env D n c f o Q:=fun ae bl=>(h ae bl).mono fun x ae o h=>⟨d_,h⟩
theorem cP.seq{a b:bc}(h:cP env D n a f o (fun d_ x f o=>match x with| .normal=>cP env d_ n b f o Q|x=>Q d_ x f o)):cP env D n (.seq a b) f o Q:=fun ae bl=>fh.seq ((h ae bl).mono fun x ae o ⟨d_,f,h1,h2⟩=>by
 cases x with
 |normal=>exact h2 ae h1
 |_=>exact⟨d_,f,h1,h2⟩)
theorem cP.hH{a b:bc}(h:ck env none D n a f o (fun x f o=>match x with| .normal=>cP env D n b f o Q|x=>Q D x f o)):cP env D n (.seq a b) f o Q:=cP.seq (cP.zE h)
theorem cP.block{a:bc}{id:Nat}(h:cP env D n a f o (fun D x f o=>match x with| .exit j=>cond (Nat.beq j id) (Q D .normal f o) (Q D (.exit j) f o)|x=>Q D x f o)):cP env D n (.block id a) f o Q:=fun ae bl=>fh.block ((h ae bl).mono fun x ae o ⟨d_,f,h1,h2⟩=>by
 cases x with
 |normal=>exact⟨d_,f,h1,h2⟩
 |exit i=>
  have h2:cond (Nat.beq i id) (Q d_ .normal f o) (Q d_ (.exit i) f o):=h2;show if i=id then ∃d_,rH d_ n (Q d_) .normal ae o else ∃d_,rH d_ n (Q d_) (.exit i) ae o
  cases hb:Nat.beq i id with
  |false=>rw[if_neg (fun h=>by rw[h,fR] at hb;cases hb)];rw[hb] at h2;exact⟨d_,f,h1,h2⟩
  |true=>rw[if_pos (eM hb)];rw[hb] at h2;exact⟨d_,f,h1,h2⟩
 |ret=>exact⟨d_,f,h1,h2⟩
 |panic v=>exact⟨d_,f,h1,h2⟩)
theorem cP.loop{a:bc}(eL:Nat→pw→(Nat→AV)→ad→Prop)(bo:∀m D f o,eL m D f o→cP env D n a f o (fun d_ x bC ah=>match x with| .normal=>∃aG,aG<m∧eL aG d_ bC ah|x=>Q d_ x bC ah))(m:Nat)(h:eL m D f o):cP env D n (.loop a) f o Q:=fun ae bl=>
 fh.loop (Q:=fun x ae o=>∃d_,rH d_ n (Q d_) x ae o) (fun m ae o=>∃D f,hc D n f ae∧eL m D f o) (fun m ae o ⟨D,f,h1,h2⟩=>(bo m D f o h2 ae h1).mono fun x bQ ah ⟨d_,bC,h3,aN⟩=>by
  cases x with
  |normal=>obtain⟨aG,bH,de⟩:=aN;exact⟨aG,bH,d_,bC,h3,de⟩
  |exit i=>exact⟨d_,bC,h3,aN⟩
  |ret=>exact⟨d_,bC,h3,aN⟩
  |panic v=>exact⟨d_,bC,h3,aN⟩) m ae o ⟨D,f,bl,h⟩
theorem cP.norm{c:bc}(L:List (Nat×AV))(h:sat L f)(h2:∀g,cP env D n c (cg L g) o Q):cP env D n c f o Q:=by
 have:=h2 f;rwa[Cc h] at this
theorem cP.args{c:bc}{tZ:List AV}(h:∀z,cP env D n c (cg (W.uE 0 tZ) z) o Q):cP env D n c (c4 tZ) o Q:=by
 have eG:cg (W.uE 0 tZ) (c4 tZ)=c4 tZ:=Cc (W.Mr _ 0 fun j a e=>by show tZ.getD (0+j) dw=a;rw[rD,p5,e];rfl);have:=h (c4 tZ);rwa[eG] at this
end
def hJ(o:ad)(D:pw):Prop:=∃ds:List Nat,D=ds.map .inl∧ds.Nodup∧∀d∈ds,o.get d=some .cT
theorem hJ.nil{o:ad}:hJ o []:=⟨[],rfl,.nil,fun d h=>by cases h⟩
theorem hJ.cons{o ai:ad}{D:pw}{k:Nat}(h:hJ o D)(ax:o.next≤k)(an:ai.get k=some .cT)(ks:∀i I,o.get i=some I→ai.get i=some I):hJ ai (.inl k::D):=by
 obtain⟨ds,rfl,h1,h2⟩:=h;refine⟨k::ds,rfl,zD.2 ⟨fun hh=>by have:=ad.ei (h2 k hh);omega,h1⟩,fun d tq=>?_⟩;rcases dP.1 tq with rfl|tq
 ·exact an
 ·exact ks _ _ (h2 d tq)
theorem hJ.ee{o ai:ad}{D:pw}(h:hJ o D)(ks:∀i,o.get i=some .cT→ai.get i=some .cT):hJ ai D:=by
 obtain⟨ds,h0,h1,h2⟩:=h;exact⟨ds,h0,h1,fun d an=>ks _ (h2 d an)⟩
def Nx(o ai:ad):Prop:=∀i I,I≠ .cT→o.get i=some I→ai.get i=some I
theorem ZR{call:AV→List AV→AV→ad→Option (Bool×ad)}:∀ {ds:List Nat} {o:ad},ds.Nodup→(∀d∈ds,o.get d=some .cT)→∃ai,leave 0 call (ds.map .inl) none o=some (none,ai)∧Nx o ai
 |[],o,_,_=>⟨o,rfl,fun _ _ _ h=>h⟩
 |d::ds,o,hn,h=>by
  rw[zD] at hn;have an:=h d iq;have hd:=kr (bE:=AO.dead) an;obtain⟨ai,h1,h2⟩:=ZR (call:=call) (o:=o.set d .dead) hn.2 fun x hx=>hd.2 x _ (fun e=>hn.1 (e▸hx)) (h x (e_ _ hx));refine⟨ai,?_,fun i I aj hg=>h2 i I aj (hd.2 i I (fun e=>aj (by rw[e,an] at hg;cases hg;rfl)) hg)⟩;show(if Nat.blt d 0 then none else match o.get d with
   |some .cT=>leave 0 call (ds.map .inl) none (o.set d .dead)
   |_=>none)=_
  rw[if_neg (by simp[Nat.blt,Nat.ble]),an];exact h1
theorem c7Z{env:Env}{fn:bV}{n:Nat}{D:pw}{f:Nat→AV}{ae:Fr}{o:ad}(h1:hc D n f ae)(eK:hJ o D)(an:cV (fun r=>Nat.blt r.1 n) fn.results=true){aq:AV→ad→Prop}(av:∀ai,Nx o ai→∃v,xi ai f fn.results=some v∧aq v ai):∃v ai,endF env 0 fn (.ret,ae,o)=some [(.ok v,ai)]∧aq v ai:=by
 obtain⟨ds,rfl,h2,h3⟩:=eK;obtain⟨ai,aE,aY⟩:=ZR (call:=callD env 0) h2 h3;obtain⟨v,cZ,lI⟩:=av ai aY;refine⟨v,ai,?_,lI⟩;show(match leave 0 (callD env 0) ae.defers none o with
  |none=>none
  |some (some v,o)=>some [(c6.err v,o)]
  |some (none,o)=>match resultsOf o ae.aW fn.results with
   |some v=>some [(.ok v,o)]
   |none=>none)=_
 rw[h1.ds,aE];show(match resultsOf ai ae.aW fn.results with|some v=>some [(c6.ok v,ai)]|none=>none)=_;rw[Y4 ai h1 an,cZ]
def Ny(rs:List (Nat×Option (Option Nat)))(r:AV)(d_:pw):fo:=fun x f ah=>x= .ret∧hJ ah d_∧∀ai,Nx ah ai→∃v,xi ai f rs=some v∧freeze ai 0 1000 v=some r
theorem ZS{P:Program}{b:cv}{K:Nat→List AV→AV→Prop}(hb:iE P b)(cX:yQ P b K){g:Nat}{fn:bV}{body:bc}{aO:List AV}(r:AV)(hf:b.funcs.get g=some fn)(j0:fn.body=some body)
  (hn:(Nat.beq aO.length fn.kz&&Nat.ble aO.length fn.ntmps)=true) (an:cV (fun r=>Nat.blt r.1 fn.ntmps) fn.results=true) {ae:Nat} (af:j8 ae r=true) (gC:AV.eqb 1000 r r=true)
  (h:cP (b.bj K) [] fn.ntmps body (c4 aO) ⟨.nil,0⟩ (Ny fn.results r)) (cM:Nat):SpecEntry P (b.env []) cM g aO r:=by
 have hle:aO.length≤fn.ntmps:=by
  simp only[bT] at hn;exact eY hn.2
 refine FZ (env:=b.bj K) (m:=1000) (FT _ _) ⟨fun g cA hg=>o_.yM hb.funcs g cA hg⟩ (fun cM g aO r hs=>cX g aO r (F0 hs) cM) hb.ext hb.rG hf j0 hn af ((h _ (wP hle)).mono fun x ae ah ⟨d_,f,h1,h2,h3,aN⟩=>?_) gC cM;subst h2;obtain⟨v,ai,aE,aY⟩:=c7Z (env:=b.bj K) h1 h3 an (aq:=fun v ai=>freeze ai 0 1000 v=some r) aN;exact⟨.ok v,ai,aE,_,rfl,aY⟩
abbrev hY(o ai:ad):Prop:=o.next≤ai.next∧∀c I,o.get c=some I→ai.get c=some I
def ZT(env:Env)(g:Nat)(cap:List AV)(L:List AV)(b_:ad):Prop:=
 ∀(y:Nat) (vb:Nat→ad→Prop) (Nz:ad→Prop) (ai:ad),hY b_ ai→(∀i c2 cL,vb i c2→hY c2 cL→vb i cL)→
  (∀i c2 v,L[i]? =some v→hY ai c2→vb i c2→cy env 0 (.f (.yield y) [] []) [v] c2 (fun r cL=>∃fy,r= .ok (.b fy)∧(fy=true∧vb (i+1) cL∧hY c2 cL∨fy=false∧Nz cL)))→vb 0 ai→
  cy env 0 (.f (.func g) [] cap) [.f (.yield y) [] []] ai (fun r eg=>r= .ok (.aK [])∧(vb L.length eg∨Nz eg))
theorem fG.NA{env:Env}{D:pw}{n:Nat}{f:Nat→AV}{o:ad}{Q:fo}{mw:az}{p:Nat}{eX kq:bc}{g:Nat}{cap:List AV}{k:Nat}(L:List AV)(ax:o.next=k)(lp:dV env n f mw=some (.f (.func g) [] cap))(he:env.ext g=0)(hp:Nat.blt p n=true)(eS:ZT env g cap L o)
  (eL:Nat→Prop) (X:ad→Prop) (h0:eL 0) (zF:∀ai bE,X ai→X (ai.set (k+1) bE))
  (CK:∀i v ai,L[i]? =some v→eL i→k+2≤ai.next→hY o ai→ai.get k=some .cT→ck env (some (k+1)) [] n eX (c7 f p v) ai (fun x f1 c2=>x= .normal∧hY ai c2∧
   ∀cL,cL.next=c2.next→(∀c I,c≠k+1→c2.get c=some I→cL.get c=some I)→ck env (some (k+1)) [] n kq f1 cL (fun x _ b8=>(∀I,cL.get (k+1)=some I→b8.get (k+1)=some I)∧(x= .normal∧eL (i+1)∧hY cL b8∨x= .ret∧X b8))))
  (CL:∀ai,eL L.length→k+2≤ai.next→hY o ai→ai.get k=some .cT→Q .normal f ai) (iB:∀ai,X ai→Q .ret f ai):fG env D (.inl k::D) n (.rangeFunc mw [p] eX kq) f o Q:=by
 subst ax;refine fG.c7X lp he fun al eB=>?_;generalize ax:o.next=k at *;have o6:((o.push .cT).push (.loop .ready none al [p] eX kq k)).get (k+1)=some (.loop .ready none al [p] eX kq k):=by
  have:=ad.jH (o:=o.push .cT) (.loop .ready none al [p] eX kq k);rwa[show(o.push .cT).next=k+1 from by show o.next+1=_;rw[ax]] at this
 have n9:∀i I,o.get i=some I→((o.push .cT).push (.loop .ready none al [p] eX kq k)).get i=some I:=fun i I aj=>by
  have:=ad.ei aj;rw[ad.fZ trivial _ (show i<(o.push .cT).next from by show i<o.next+1;omega),ad.fZ trivial _ this];exact aj
 have MP:((o.push .cT).push (.loop .ready none al [p] eX kq k)).get k=some .cT:=by
  rw[ad.fZ trivial _ (show k<(o.push .cT).next from by show k<o.next+1;omega)];have:=ad.jH (o:=o) .cT;rwa[ax] at this
 have iD:((o.push .cT).push (.loop .ready none al [p] eX kq k)).next=k+2:=by show o.next+1+1=_;rw[ax]
 generalize(o.push .cT).push (.loop .ready none al [p] eX kq k)=b7 at *;refine(eS (k+1) (fun i ai=>eL i∧ai.get (k+1)=some (.loop .ready none al [p] eX kq k)∧k+2≤ai.next∧ai.get k=some .cT∧hY o ai) (fun ai=>ai.get (k+1)=some (.loop .done (some .ret) al [p] eX kq k)∧X ai) b7 ⟨by omega,n9⟩ ?_ ?_ ⟨h0,o6,by omega,MP,by omega,n9⟩).mono ?_
 ·rintro i c2 cL ⟨a6,a2,a3,a4,a5⟩ m;exact⟨a6,m.2 _ _ a2,jk a3 m.1,m.2 _ _ a4,jk a5.1 m.1,fun c I aj=>m.2 _ _ (a5.2 c I aj)⟩
 ·rintro i c2 v av hm ⟨a6,a2,a3,a4,a5⟩;refine(cy.c7Y (aq:=fun fy cL=>fy=true∧(eL (i+1)∧cL.get (k+1)=some (.loop .ready none al [p] eX kq k)∧k+2≤cL.next∧cL.get k=some .cT∧hY o cL)∧hY c2 cL∨fy=false∧(cL.get (k+1)=some (.loop .done (some .ret) al [p] eX kq k)∧X cL)) (f:=f) (n:=n) a2 eB (by show cond (Nat.blt p n) _ _=true;rw[hp];rfl) rfl ?_).mono fun r ah h=>h;refine(CK i v c2 av a6 a3 a5 a4).mono fun x f1 cL ⟨aE,bO,h1⟩=>?_;have ZU:=bO.2 _ _ a2;have hd:=kr (bE:=.loop .busy none al [p] eX kq k) ZU;refine⟨aE,ZU,(h1 (cL.set (k+1) (.loop .busy none al [p] eX kq k)) rfl (fun c I ab aj=>hd.2 c I ab aj)).mono fun x _ b8 ⟨au,h3⟩=>?_⟩;have rR:=au _ hd.1;refine⟨rR,?_⟩;rcases h3 with⟨cZ,h3,o5⟩|⟨cZ,h3⟩
  ·have nC:=kr (bE:=.loop .ready none al [p] eX kq k) rR;have ek:=bO.1;have ju:cL.next≤b8.next:=o5.1;have re:∀c I,c≠k+1→c2.get c=some I→(b8.set (k+1) (.loop .ready none al [p] eX kq k)).get c=some I:=fun c I ab aj=>nC.2 c I ab (o5.2 _ _ (hd.2 c I ab (bO.2 _ _ aj)));have tj:hY c2 (b8.set (k+1) (.loop .ready none al [p] eX kq k)):=⟨by show c2.next≤b8.next;omega,fun c I aj=>by
    by_cases ab:c=k+1
    ·subst ab;rw[a2] at aj;cases aj;exact nC.1
    ·exact re c I ab aj⟩
   exact .inl ⟨cZ,.inl ⟨rfl,⟨h3,nC.1,jk a3 tj.1,tj.2 _ _ a4,jk a5.1 tj.1,fun c I aj=>tj.2 _ _ (a5.2 c I aj)⟩,tj⟩⟩
  ·have nC:=kr (bE:=.loop .done (some .ret) al [p] eX kq k) rR;exact .inr ⟨cZ,.inr ⟨rfl,nC.1,zF _ _ h3⟩⟩
 ·rintro r ai ⟨aE,h|h⟩
  ·obtain⟨a6,a2,a3,a4,a5⟩:=h;have hd:=kr (bE:=.loop .exhausted none al [p] eX kq k) a2;refine⟨_,aE,.inl ⟨.ready,a2,by simp,CL _ a6 a3 ⟨by show o.next≤ai.next;exact a5.1,fun c I aj=>hd.2 c I (by have:=ad.ei aj;omega) (a5.2 c I aj)⟩ (hd.2 _ _ (by omega) a4)⟩⟩
  ·exact⟨_,aE,.inr ⟨h.1,iB _ (zF _ _ h.2)⟩⟩
end
section
variable [Tok][TokOk]
open Go.RowKit Go.Lyc.T
attribute [local irreducible] cU ck dJ fP cy
section
variable {b:cv}{K:Nat→List AV→AV→Prop}
theorem c8a(ax:CN b K)(hg:b.jm He=some (.ag CM))(F:Fm)(YH:2*F.dep≤b.aT+800)(eT:F.ok)(body:bc)(hb:Gv.body=some body):
  U (b.bj K) Gv.ntmps body (c4 [.ag (aV F)]) ⟨.nil,0⟩ (eO Gv.results (.b (hj true F))):=by
 cases hb;refine W.args fun z=>?_;have H:Has (⟨.nil,0⟩:ad) []:=Has.nil;refine aa ?_;refine W.dr (k:=0) (c:=aV F) H rfl rfl rfl rfl rfl rfl fun fj sv H nZ=>?_;refine aa ?_;refine W.kG (c:=[.b true,aC 400,aC 40]) H sv rfl rfl rfl rfl rfl rfl fun c2 ek H cc=>?_;refine aa ?_;have aB:c2.get 1=some (.cells [.b true,aC 400,aC 40]):=H.get _ (.head _);have:=YG ax hg (j:=1) (cd:=true) (deep:=40) (by decide) F.dep F (bK _) YH eT 1 400 (by omega) (by omega) c2 aB;rw[oq] at this;refine W.jR rfl rfl rfl this fun r cL ⟨dY,_,_⟩=>⟨_,dY,?_⟩
 refine aa ?_;exact U.ret ⟨rfl,_,aR (aS rfl),by rw[c6H];rfl⟩
theorem NB(hh:dt (b.bj K) CC Gy)(p:eo)(o:ad):cy (b.bj K) 0 (.f (.func CC) [] []) [.ag (gl p)] o (fun r ai=>r= .ok (.f (.func ze) [] [.p (some (o.next,0))])∧ai.get o.next=some (.cells (gl p))∧hY o ai):=by
 refine W.code hh.e hh.p hh.f rfl rfl rfl rfl fun z=>?_;have H:Has o []:=Has.nil;refine aa ?_;generalize aI:o.next=q;refine W.dr (c:=gl p) H aI rfl rfl rfl rfl rfl fun ai ek H cc=>?_;refine aa ?_;exact U.ret ⟨rfl,rfl,H.get _ (.head _),by omega,cc⟩
theorem NC(hh:dt (b.bj K) ze GH)(p:eo)(lx:p.hyps.length<2^62){o:ad}{dr:Nat}(hb:o.get dr=some (.cells (gl p))):ZT (b.bj K) ze [.p (some (dr,0))] (p.fs.map fun f=>.ag (aV f)) o:=by
 intro y vb Nz ai du c8b aJ h0;have xm:(p.gF.getD []).length=p.hyps.length:=rfl;have hlen:(p.fs.map fun f=>AV.ag (aV f)).length=p.hyps.length+1:=by rw[dO];rfl
 refine W.uz hh.e hh.p hh.f rfl rfl rfl fun z=>?_;have hg:ai.get dr=some (.cells (gl p)):=du.2 _ _ hb;have H:Has ai [(dr,gl p)]:=Has.nil.cons hg (by simp);refine aa ?_;refine W.jR rfl rfl rfl (aJ 0 ai (.ag (aV p.bN)) rfl ⟨bK _,fun _ _ h=>h⟩ h0) fun r c2 ⟨fy,dY,af⟩=>⟨_,dY,?_⟩
 rcases af with⟨rfl,c8c,ZV⟩|⟨rfl,zF⟩
 rotate_left
 ·refine aa ?_;exact U.ret ⟨.inl rfl,rfl,.inr zF⟩
 have H:Has c2 [(dr,gl p)]:=H.ee ZV.2;refine aa ?_;refine W.len rfl rfl rfl gD ?_;refine aa ?_;refine U.each p.hyps.length (fun j f cL=>vb (j+1) cL∧hY ai cL∧sat [(0,.f (.yield y) [] []),(11,dk true p.gF)] f) lx ⟨c8c,ZV,rfl,rfl,trivial⟩ rfl rfl (fun j f cL aB bo hi hm=>?_) (fun f cL bo hi=>?_)
 ·obtain⟨ND,vc,hs⟩:=bo;refine U.norm [(0,.f (.yield y) [] []),(11,dk true p.gF),(13,aC j),(12,aC p.hyps.length)] ⟨hs.1,hs.2.1,hi,hm,trivial⟩ fun f=>?_;have bI:=ov (l:=p.gF) aB;have eD:(p.gF.getD [])[j]=p.hyps[j]:=rfl;rw[eD] at bI;have p4:(p.fs.map fun f=>AV.ag (aV f))[j+1]? =some (.ag (aV p.hyps[j])):=by
   rw[j3];show Option.map _ ((p.bN::p.hyps)[j+1]?)=_;rw[AJ,cS aB];rfl
  generalize p.hyps[j]=t at bI p4;have H:Has cL []:=Has.nil;refine aa ?_;refine W.dg rfl rfl rfl rfl bI ?_;refine W.eV (R:=some 4) rfl rfl rfl rfl ?_;generalize aI:cL.next=q;refine W.kG (c:=aV t) H aI rfl rfl rfl rfl rfl rfl fun b8 ju H bx=>?_;have NF:hY cL b8:=⟨by omega,bx⟩
  refine aa ?_;refine W.jR rfl rfl rfl (aJ (j+1) b8 _ p4 ⟨jk vc.1 NF.1,fun c I h=>bx _ _ (vc.2 c I h)⟩ (c8b _ _ _ ND NF)) fun r k5 ⟨fy,dY,af⟩=>⟨_,dY,?_⟩
  rcases af with⟨rfl,c8d,ZW⟩|⟨rfl,zF⟩
  rotate_left
  ·refine aa ?_;exact U.ret ⟨.inl rfl,rfl,.inr zF⟩
  refine aa ?_;exact⟨rfl,rfl,c8d,⟨jk vc.1 (jk NF.1 ZW.1),fun c I h=>ZW.2 _ _ (bx _ _ (vc.2 c I h))⟩,rfl,rfl,trivial⟩
 ·obtain⟨ND,vc,hs⟩:=bo;exact⟨.inr rfl,rfl,.inl (by rw[hlen];exact ND)⟩
theorem c8e(hh:dt (b.bj K) CD GG){P:Fm→Bool}{bB:AV}{a:Option (List Fm)}(hlen:(a.getD []).length<2^62){o:ad}(aJ:∀u∈a.getD [],∀ai,hY o ai→cy (b.bj K) 0 bB [.ag (aV u)] ai (fun r eg=>r= .ok (.b (P u))∧hY ai eg)):
  cy (b.bj K) 0 (.f (.func CD) [] []) [dk true a,bB] o (fun r ai=>∃i:Int,r= .ok (.i .i64 i)∧decide (0≤i)=(a.getD []).any P∧hY o ai):=by
 refine W.code hh.e hh.p hh.f rfl rfl rfl rfl fun z=>?_;have H:Has o []:=Has.nil;refine aa ?_;refine W.len rfl rfl rfl gD ?_;refine aa ?_;refine U.each (a.getD []).length (fun j f ai=>((a.getD []).take j).any P=false∧hY o ai∧sat [(0,dk true a),(1,bB)] f) hlen ⟨by rw[oi];rfl,⟨bK _,fun _ _ h=>h⟩,rfl,rfl,trivial⟩ rfl rfl (fun j f ai aB bo hi hm=>?_) (fun f ai bo hi=>?_)
 ·obtain⟨gb,du,hs⟩:=bo;refine U.norm [(0,dk true a),(1,bB),(8,aC j),(7,aC (a.getD []).length)] ⟨hs.1,hs.2.1,hi,hm,trivial⟩ fun f=>?_;have hu:=cB (l:=a.getD []) aB;have cF:=gx aB;have bI:=ov (l:=a) aB;generalize(a.getD [])[j]=t at hu cF bI;have H:Has ai []:=Has.nil;refine aa ?_;refine W.dg rfl rfl rfl rfl bI ?_;refine W.eV (R:=some 4) rfl rfl rfl rfl ?_;refine W.jR rfl rfl rfl (aJ t hu ai du) fun r cL ⟨dY,vc⟩=>⟨_,dY,?_⟩
  have Hp:hY o cL:=⟨jk du.1 vc.1,fun c I h=>vc.2 _ _ (du.2 c I h)⟩
  cases ku:P t with
  |true=>
   refine aa ?_;exact U.ret ⟨rfl,_,rfl,by rw[tX.2 ⟨t,hu,ku⟩];exact decide_eq_true (vC j),Hp⟩
  |false=>
   refine aa ?_;refine⟨rfl,rfl,?_,Hp,rfl,rfl,trivial⟩;rw[cF,rQ,gb,ta,ku];rfl
 ·obtain⟨gb,du,hs⟩:=bo;refine U.norm [(0,dk true a),(1,bB)] hs fun f=>?_;rw[fv (bK _)] at gb;refine aa ?_;exact U.ret ⟨rfl,-1,rfl,by rw[gb];rfl,du⟩
theorem c8f(hh:dt (b.bj K) Hc My)(hx:dt (b.bj K) CD GG){P:Fm→Bool}{bB:AV}{a:Option (List Fm)}(hlen:(a.getD []).length<2^62){o:ad}(aJ:∀u∈a.getD [],∀ai,hY o ai→cy (b.bj K) 0 bB [.ag (aV u)] ai (fun r eg=>r= .ok (.b (P u))∧hY ai eg)):
  cy (b.bj K) 0 (.f (.func Hc) [] []) [dk true a,bB] o (fun r ai=>r= .ok (.b ((a.getD []).any P))∧hY o ai):=by
 refine W.code hh.e hh.p hh.f rfl rfl rfl rfl fun z=>?_;have H:Has o []:=Has.nil;refine aa ?_;refine W.jR rfl rfl rfl (c8e hx hlen aJ) fun r ai ⟨i,dY,hi,du⟩=>⟨_,dY,?_⟩
 refine W.bin (v:=.b (decide (0≤i))) rfl rfl rfl rfl rfl ?_;refine aa ?_;exact U.ret ⟨rfl,by rw[hi];rfl,du⟩
theorem c8g(hfn:∀g aO r cj,K g aO r→K g aO cj→r=cj)(h1:dt (b.bj K) MH X3)(ab:dt (b.bj K) Hc My)(hx:dt (b.bj K) CD GG)(f:Fm)(m:List Nat)(eB:f.sub.length<2^62)(jy:f.op=16→1<f.args.length)
  (hs:∀u∈f.sub,∀ai:ad,bW ai (b.aT+1000) (.ag (aV u))=some (.ag (aV u))) (e:c5 b uP) (cX:∀u∈f.sub,K uP [.ag (aV u),.s m] (.b (hB m u)))
  (body:bc) (hb:Cu.body=some body):U (b.bj K) Cu.ntmps body (c4 [.ag (aV f),.s m]) ⟨.nil,0⟩ (eO Cu.results (.b (hB m f))):=by
 cases hb;refine W.args fun z=>?_;have H:Has (⟨.nil,0⟩:ad) []:=Has.nil;have es:(f.ea.getD []).length=f.sub.length:=rfl;have an:=Zo m f;refine aa ?_;refine W.dr (k:=0) (c:=aV f) H rfl rfl rfl rfl rfl rfl fun c2 ek H cc=>?_;refine W.dr (k:=1) (c:=[.s m]) H (by rw[ek]) rfl rfl rfl rfl rfl fun fj jO H cJ=>?_;have yes:∀ {ai:ad},hB m f=true→freeze ai 0 1000 (.b true)=some (.b (hB m f)):=fun h=>by rw[h];rfl
 refine lv ?_;refine W.nil ?_;refine U.od [(2,.p (some (0,0))),(3,.p (some (1,0)))] (E:=eO Cu.results (.b (hB m f))) (M:=(decide (f.op=16)&&eqL (u9 f) m)=false) ?_ (fun x bC ah h=>⟨by rw[h.1];simp,h⟩) fun bS F=>?_
 ·refine aa ?_;by_cases bY:f.op=16
  rotate_left
  ·refine aa ?_;exact .inl ⟨rfl,rfl,⟨rfl,rfl,trivial⟩,by rw[decide_eq_false bY];rfl⟩
  refine aa ?_;have h1:=jy bY;obtain⟨x,bI,aE⟩:∃x:Tm,idxSlA (some 3) (cR true f.cH) 1=some (.cG true (.ag (k1 x)))∧u9 f=x.name:=⟨_,C0 (l:=f.cH) h1,by unfold u9;rw[cS h1];rfl⟩
  rw[aE] at an ⊢;refine W.dg (j:=1) rfl rfl rfl rfl bI ?_;refine aa ?_;refine W.bin (v:=.b (eqL x.name m)) rfl rfl rfl rfl rfl ?_;cases dL:eqL x.name m with
  |false=>
   refine aa ?_;exact .inl ⟨rfl,rfl,⟨rfl,rfl,trivial⟩,by rw[lU]⟩
  |true=>
   refine aa ?_;exact U.ret (.inr ⟨rfl,_,aR (aS rfl),yes (by rw[an,decide_eq_true bY,dL];rfl)⟩)
 ·rw[bS,tW] at an;refine aa ?_;have uh:fj.get 1=some (.cells [.s m]):=H.get _ (.head _);refine W.jR rfl rfl rfl (c8f ab hx (P:=hB m) (a:=f.ea) eB (bB:=.f (.func MH) [] [.p (some (1,0))]) (o:=fj) fun u hu ai du=>?_) fun r ai ⟨dY,du⟩=>⟨_,dY,?_⟩
  ·refine W.code h1.e h1.p h1.f rfl rfl rfl rfl fun z=>?_;have H:Has ai [(1,[.s m])]:=Has.nil.cons (du.2 _ _ uh) (by simp);refine aa ?_;generalize aI:ai.next=q;have c8h:(1:Nat)≠q:=by have:=H.lt (.head _);omega
   refine W.dr (c:=aV u) H aI rfl rfl rfl rfl rfl fun cL jO H cJ=>?_;refine aa ?_;refine W.cx hfn e (cX u hu) rfl rfl rfl (gT (hs u hu _) rfl) ?_;refine aa ?_;exact U.ret ⟨rfl,rfl,by omega,cJ⟩
  ·refine aa ?_;exact U.ret ⟨rfl,_,aR (aS rfl),by rw[an];rfl⟩
end
theorem c8i{s:List Nat}(h:isMeta s=true):1≤s.length∧s.length≤16:=by
 unfold isMeta at h;rw[kO] at h;cases s with
 |nil=>rcases h with h|h<;>cases h
 |cons c l=>
  rcases h with h|h
  all_goals
   replace h:(decide (l.length+1≤16)&&(decide (c=63)&&_))=true:=h;rw[bT] at h;exact⟨by simp,of_decide_eq_true h.1⟩
theorem ZX{s:List Nat}:kt s=true↔s.length≤16∧∃t,s=63::t∧gE t=true:=by
 cases s with
 |nil=>constructor;intro h;cases h;rintro⟨_,t,h,_⟩;cases h
 |cons c l=>
  show(decide (l.length+1≤16)&&(decide (c=63)&&gE l))=true↔_;rw[bT,bT,decide_eq_true_iff,decide_eq_true_iff];constructor
  ·rintro⟨h1,rfl,h2⟩;exact⟨h1,l,rfl,h2⟩
  ·rintro⟨h1,t,h2,h3⟩;injection h2 with aN bH;subst aN bH;exact⟨h1,rfl,h3⟩
theorem ZY{s:List Nat}:hv s=true↔s.length≤16∧∃t,s=63::t∧isFun t=true:=by
 cases s with
 |nil=>constructor;intro h;cases h;rintro⟨_,t,h,_⟩;cases h
 |cons c l=>
  show(decide (l.length+1≤16)&&(decide (c=63)&&isFun l))=true↔_;rw[bT,bT,decide_eq_true_iff,decide_eq_true_iff];constructor
  ·rintro⟨h1,rfl,h2⟩;exact⟨h1,l,rfl,h2⟩
  ·rintro⟨h1,t,h2,h3⟩;injection h2 with aN bH;subst aN bH;exact⟨h1,rfl,h3⟩
theorem c8j{t:List Nat}(h:isFun t=true)(h':gE t=true):False:=by
 rw[Zb] at h;rw[Za] at h';rw[bT,bT] at h;rw[bT] at h';cases t with
 |nil=>cases h'.2
 |cons c l=>
  have a:=of_decide_eq_true h.2.2;have b:=of_decide_eq_true h'.2;omega
theorem c8k{t:List Nat}(h:isVar (63::t)=true):False:=by
 rw[Y_,bT] at h;have h2:kc 63 117 122=true:=h.2;unfold kc at h2;simp at h2
theorem ZZ{s:Bool}:∀(d:Nat) (t:Tm),t.dep≤d→gV s t=true→∀u∈t.parts,gV s u=true
 |0,t,h,_,_,_=>by rw[Tm.fO] at h;omega
 |d+1,t,h,ht,u,hu=>by
  rw[Tm.parts_eq] at hu;rcases dP.1 hu with rfl|hu
  ·exact ht
  ·have ha:∀x∈t.args,gV s x=true:=fun x hx=>by
    rw[Hz] at ht;cases av:t.var with
    |true=>
     rw[av,cond_true,bT] at ht;rw[Yk.1 (of_decide_eq_true ht.1)] at hx;cases hx
    |false=>
     rw[av,cond_false,bT] at ht;exact fI.1 ht.2 x hx
   have:∀l:List Tm,(∀x∈l,x∈t.args)→u∈Tm.dW l→gV s u=true:=fun l=>by
    induction l with
    |nil=>intro _ h;rw[Tm.dW] at h;cases h
    |cons y l ay=>
     intro au h;rw[Tm.dW,e4] at h;have aJ:=au y iq;rcases h with h|h
     ·exact ZZ d y (by have:=Tm.j9 aJ;omega) (ha y aJ) u h
     ·exact ay (fun x hx=>au x (e_ _ hx)) h
   exact this t.args (fun _ h=>h) hu
theorem NG{s:Bool}:∀(d:Nat) (f:Fm),f.dep≤d→ji s f=true→∀g∈f.parts,e8 s g=true∧∀t∈g.args,gV s t=true
 |0,f,h,_,_,_=>by rw[Fm.fO] at h;omega
 |d+1,f,h,hf,g,hg=>by
  rw[M_,bT,bT] at hf;rw[Fm.parts_eq] at hg;rcases dP.1 hg with rfl|hg
  ·exact⟨hf.1.1,fI.1 hf.1.2⟩
  ·have:∀l:List Fm,(∀x∈l,x∈f.sub)→g∈Fm.dW l→e8 s g=true∧∀t∈g.args,gV s t=true:=fun l=>by
    induction l with
    |nil=>intro _ h;rw[Fm.dW] at h;cases h
    |cons y l ay=>
     intro au h;rw[Fm.dW,e4] at h;have aJ:=au y iq;rcases h with h|h
     ·exact NG d y (by have:=Fm.iF aJ;omega) (fI.1 hf.2 y aJ) g h
     ·exact ay (fun x hx=>au x (e_ _ hx)) h
   exact this f.sub (fun _ h=>h) hg
theorem Z0{s:Bool}{f:Fm}(h:hj s f=true):ji s f=true:=by unfold hj at h;rw[bT] at h;exact h.1
theorem Z1{f:Fm}(h:hj true f=true):u_ f:=fun g hg jy=>by
 have:=(NG f.dep f (bK _) (Z0 h) g hg).1;have:=of_decide_eq_true this;have:=(Nb _).1 (this.2.2.2.2.2 jy);omega
theorem c8l{g:Fm}(h:e8 true g=true)(aj:g.op=15∨g.op=16):kt g.name=true:=by
 have h:=(of_decide_eq_true h).2.2.1;rcases aj with aj|aj<;>rw[aj] at h<;>exact h
theorem c8m{r:b6}{f:Fm}(h:hj true f=true){ba:List (List Nat)}(nG:∀x,x∈ba↔va r x=true):(∀x,nH [f] x→gE (x.drop 1)=true→x∈ba)↔hk r f=true:=by
 have hp:=NG f.dep f (bK _) (Z0 h);unfold hk;rw[fI];have aE:Fm.dW [f]=f.parts:=by rw[Fm.dW,Fm.dW,jv]
 constructor
 ·intro ha g hg;by_cases aj:g.op=15∨g.op=16
  ·have hm:=c8l (hp g hg).1 aj;obtain⟨_,t,ht,c8n⟩:=ZX.1 hm;have:=ha g.name ⟨g,by rw[aE];exact hg,.inl ⟨aj,by unfold isMeta;rw[hm];rfl,rfl⟩⟩ (by rw[ht];exact c8n);rw[nG] at this;rw[this,Bool.or_true]
  ·rw[decide_eq_false fun h=>aj (.inl h),decide_eq_false fun h=>aj (.inr h)];rfl
 ·rintro ha x ⟨g,hg,hx⟩ uv;rw[aE] at hg;rw[nG];rcases hx with⟨aj,_,rfl⟩|⟨u,hu,av,hm,rfl⟩
  ·have:=ha g hg;rcases aj with aj|aj<;>rw[aj] at this<;>simpa using this
  ·exfalso;have yp:gV true u=true:=by
    have mS:=(hp g hg).2;have:∀l:List Tm,(∀x∈l,x∈g.args)→u∈Tm.dW l→gV true u=true:=fun l=>by
     induction l with
     |nil=>intro _ h;rw[Tm.dW] at h;cases h
     |cons y l ay=>
      intro au h;rw[Tm.dW,e4] at h;rcases h with h|h
      ·exact ZZ _ y (bK _) (mS y (au y iq)) u h
      ·exact ay (fun x hx=>au x (e_ _ hx)) h
    exact this g.args (fun _ h=>h) hu
   rw[Hz,av,cond_true,bT,kO,gS] at yp;have c8o:∃t,u.name=63::t:=by
    unfold isMeta at hm;rw[kO] at hm;rcases hm with hm|hm
    ·obtain⟨_,t,ht,_⟩:=ZX.1 hm;exact⟨t,ht⟩
    ·obtain⟨_,t,ht,_⟩:=ZY.1 hm;exact⟨t,ht⟩
   obtain⟨t,ht⟩:=c8o;rw[ht] at uv;rcases yp.2 with h|h
   ·rw[ht] at h;exact c8k h
   ·obtain⟨_,xZ,Z2,hf⟩:=ZY.1 h;rw[ht] at Z2;injection Z2 with _ e;subst e
    exact c8j hf uv
section
variable {b:cv}{K:Nat→List AV→AV→Prop}
structure HG(b:cv)(K:Nat→List AV→AV→Prop):Prop where
 fn:∀g aO r cj,K g aO r→K g aO cj→r=cj
 HH:dt (b.bj K) MJ XW
 add:dt (b.bj K) Hb MD
 Z3:dt (b.bj K) zh GW
 Z4:c5 b rN
 mt:∀l,l.length<2^62→K rN [.s l] (.b (isMeta l))
 keys:dt (b.bj K) G8 MC
 sorted:dt (b.bj K) G7 Mx
 Z5:dt (b.bj K) CB GD
 app:dt (b.bj K) y7 Cx
 Z6:dt (b.bj K) oh w6
 uJ:b.ext y6=9
 HI:∀aO,(b.bj K).lE y6 aO=none
 stood:dt (b.bj K) MI XU
 CY:c5 b pf
 pred:∀l,l.length<2^62→K pf [.s l] (.b (gE l))
theorem c8p(hm:HG b K)(f:Fm)(hok:f.ok)(hnd:f.nd≤1000000)(o:ad):
  cy (b.bj K) 0 (.f (.func MJ) [] []) [.ag (aV f)] o (fun r ai=>∃(v:AV) (c:List (List Nat)),r= .ok v∧(∀x,x∈c↔nH [f] x)∧c.length≤1000000∧Acc ai none v (c.map fk)∧hY o ai):=by
 refine W.code hm.HH.e hm.HH.p hm.HH.f rfl rfl rfl rfl fun z=>?_;have H:Has o []:=Has.nil;refine aa ?_;generalize aI:o.next=q;refine W.dr (c:=aV f) H aI rfl rfl rfl rfl rfl fun fj sv H nZ=>?_;refine aa ?_;refine W.tj H sv rfl rfl fun c2 ek H bO cc=>?_;have cE:gy c2 (q+1) []:=bO;refine aa ?_;refine W.jR rfl rfl rfl (ZL hm.fn hm.add hm.Z3 hm.Z4 hm.mt _ f (bK _) hok c2 (q+1) [] cE) fun r cL ⟨dY,ba,hA,pv,wM⟩=>⟨_,dY,?_⟩
 have jO:=wM.1;refine aa ?_;generalize pY:cL.next=fz;refine W.jR rfl rfl rfl (c7A hm.keys (q+1) cL fz pY) fun r b8 ⟨dY,ju,g3,bx⟩=>⟨_,dY,?_⟩
 refine aa ?_;have hlen:ba.length≤1000000:=by have:=hA.len;simp at this;omega
 refine W.jR rfl rfl rfl (c7F hm.sorted hm.Z5 hm.app hm.Z6 hm.uJ hm.HI hlen b8 (bx _ _ pv) g3) fun r k5 ⟨v,c,dY,hp,c8q,av,du⟩=>⟨_,dY,?_⟩
 refine aa ?_;refine U.ret ⟨rfl,v,c,rfl,fun x=>?_,by rw[hp.length_eq];exact hlen,c8q,?_⟩
 ·rw[hp.mem_iff,hA.mem];simp
 ·have:=du.1;refine⟨by omega,fun i I aj=>du.2 _ _ (bx _ _ (wM.2 i I (by have:=ad.ei aj;omega) (cc _ _ (nZ _ _ aj))))⟩
theorem Z7(hm:HG b K)(f:Fm)(hok:f.ok)(hnd:f.nd≤1000000){o:ad}{bz:Nat}{ba:List (List Nat)}(cE:gy o bz ba):
  cy (b.bj K) 0 (.f (.func MI) [] []) [.ag (aV f),.m (some bz)] o (fun r ai=>∃fy,r= .ok (.b fy)∧(fy=true↔∀x,nH [f] x→gE (x.drop 1)=true→x∈ba)∧hY o ai):=by
 refine W.code hm.stood.e hm.stood.p hm.stood.f rfl rfl rfl rfl fun z=>?_;have H:Has o []:=Has.nil;refine aa ?_;generalize aI:o.next=q;refine W.dr (c:=aV f) H aI rfl rfl rfl rfl rfl fun fj sv H nZ=>?_;refine aa ?_;refine W.jR rfl rfl rfl (c8p hm f hok hnd fj) fun r c2 ⟨v,c,dY,ab,jK,hA,du⟩=>⟨_,dY,?_⟩
 have iW:gy c2 bz ba:=du.2 _ _ (nZ _ _ cE);have Z8:hY o c2:=⟨by have:=du.1;omega,fun i I h=>du.2 _ _ (nZ i I h)⟩
 have e9:∀x∈c,isMeta x=true:=fun x hx=>by
  obtain⟨g,_,h⟩:=(ab x).1 hx;rcases h with⟨_,h,rfl⟩|⟨u,_,_,h,rfl⟩<;>exact h
 clear H;have H:Has c2 []:=Has.nil;refine W.len rfl rfl rfl hA.len ?_;refine aa ?_;refine U.each c.length (fun j f ai=>ai=c2∧(∀x∈c.take j,gE (x.drop 1)=true→x∈ba)∧sat [(1,.m (some bz)),(8,v)] f) (by omega) ⟨rfl,by simp,rfl,rfl,trivial⟩ rfl (by rw[dO];rfl) (fun j f ai aB bo hi q9=>?_) (fun f ai bo hi=>?_)
 ·obtain⟨rfl,cQ,hs⟩:=bo;refine U.norm [(1,.m (some bz)),(8,v),(10,aC j),(9,aC c.length)] ⟨hs.1,hs.2.1,hi,q9,trivial⟩ fun f=>?_;have cF:=gx aB;have NH:=cB aB;have H:Has ai []:=Has.nil;obtain⟨I,av,aj,iT⟩:=hA.inv (by rw[dO];omega);rw[dO] at av;have aE:eA none (((c.map fk).flatMap AV.cells).drop (0+j*shN none))=some (fk c[j]):=by
   rw[c6k (by rw[dO];omega) iT,ma]
  generalize c[j]=x at cF NH aE;subst av;have lq:=c8i (e9 x NH);refine aa ?_;refine W.dg rfl rfl rfl rfl (c4P aB) ?_;refine W.YU aj rfl rfl rfl aE ?_;refine aa ?_;refine W.val rfl rfl (yR (s:=x) (l:=1) (h:=x.length) rfl rfl rfl lq.1 (bK _)) ?_;rw[fv (by rw[AN];omega)];refine W.cx hm.fn hm.CY (hm.pred _ (by rw[AN];omega)) rfl rfl rfl (dx rfl) ?_;have im:(gE (x.drop 1)=true→x∈ba)→∀y∈c.take (j+1),gE (y.drop 1)=true→y∈ba:=fun h y aJ=>by
   rw[cF] at aJ;rcases e4.1 aJ with aJ|aJ
   ·exact cQ y aJ
   ·rw[e3.1 aJ];exact h
  cases hp:gE (x.drop 1) with
  |false=>
   refine aa ?_;exact⟨rfl,rfl,rfl,im (fun h=>by rw[hp] at h;cases h),rfl,rfl,trivial⟩
  |true=>
  refine aa ?_;refine W.ZI iW rfl rfl rfl rfl ?_;by_cases je:x∈ba
  ·rw[decide_eq_true je];refine aa ?_;exact⟨rfl,rfl,rfl,im (fun _=>je),rfl,rfl,trivial⟩
  ·rw[decide_eq_false je];refine aa ?_;refine U.ret ⟨rfl,false,rfl,⟨fun h=>(by cases h),fun h=>absurd (h x ((ab x).1 NH) hp) je⟩,Z8⟩
 ·obtain⟨rfl,cQ,hs⟩:=bo;refine U.norm [(1,.m (some bz)),(8,v)] hs fun f=>?_;rw[fv (bK _)] at cQ;have H:Has ai []:=Has.nil;refine aa ?_;exact U.ret ⟨rfl,true,rfl,⟨fun _ x hx=>cQ x ((ab x).2 hx),fun _=>rfl⟩,Z8⟩
end
theorem vd{ai:ad}{id i:Nat}{I bE:AO}(h:id<ai.next)(bS:i≠id)(hg:ai.get i=some bE):(ai.set id I).get i=some bE:=by
 rw[ad.ix trivial I h,if_neg bS];exact hg
theorem hJ.one{o:ad}{k:Nat}(h:o.get k=some .cT):hJ o (.inl k::[]):=⟨[k],rfl,zD.2 ⟨by simp,.nil⟩,fun d tq=>by rw[e3.1 tq];exact h⟩
theorem c8r(p:eo):pt p=(eqL p.fresh []||p.fs.any (hB p.fresh)):=by
 unfold pt eo.fs;rw[ta,zw]
theorem c8s{α:Type}{l:List α}{i:Nat}{x:α}{P:α→Bool}(h:l[i]? =some x)(h0:(l.take i).any P=false)(hx:P x=false):(l.take (i+1)).any P=false:=by
 rw[Nu,h,rQ,h0];simp[hx]
section
variable {b:cv}{K:Nat→List AV→AV→Prop}
theorem c8t(hfn:∀g aO r cj,K g aO r→K g aO cj→r=cj)(h1:dt (b.bj K) CC Gy)(h2:dt (b.bj K) ze GH)(p:eo)(lx:p.hyps.length<2^62)
  (hs:∀u∈p.fs,∀ai:ad,bW ai (b.aT+1000) (.ag (aV u))=some (.ag (aV u))) (e:c5 b uP) (cX:∀u∈p.fs,K uP [.ag (aV u),.s p.fresh] (.b (hB p.fresh u)))
  (body:bc) (hb:Gz.body=some body):cP (b.bj K) [] Gz.ntmps body (c4 [.ag (gl p)]) ⟨.nil,0⟩ (Ny Gz.results (.b (pt p))):=by
 cases hb;refine cP.args fun z=>?_;have H:Has (⟨.nil,0⟩:ad) []:=Has.nil;have an:=c8r p;refine cP.hH ?_;refine aa ?_;refine W.dr (k:=0) (c:=gl p) H rfl rfl rfl rfl rfl rfl fun ai ek H cc=>?_;refine aa ?_;refine W.ko (c:=[.b false]) H ek rfl rfl rfl fun cL jO H cJ=>?_;refine aa ?_;refine cP.hH ?_;refine aa ?_;refine W.bin (v:=.b (eqL p.fresh [])) rfl rfl rfl rfl rfl ?_;cases gp:eqL p.fresh [] with
 |true=>
  refine aa ?_;refine W.st (bR:=[.b true]) H 0 rfl rfl rfl rfl rfl rfl fun k5 n7 H fM=>?_;refine aa ?_;refine U.ret ⟨rfl,hJ.nil,fun kf bH=>⟨_,aR (pn rfl (bH _ _ (by simp) (H.get _ (.head _))) rfl),by rw[an,gp];rfl⟩⟩
 |false=>
 rw[gp,tW] at an;refine aa ?_;refine cP.seq ?_;refine cP.hH ?_;refine aa ?_;refine W.jR rfl rfl rfl (NB h1 p cL) fun r b8 ⟨dY,g3,nI⟩=>⟨_,dY,?_⟩
 have H:=H.ee nI.2;generalize cL.next=q at g3;refine aa ?_;have a0:b8.get 0=some (.cells (gl p)):=H.get _ (.tail _ (.head _));have a6:b8.get 1=some (.cells [.b false]):=H.get _ (.head _);have ju:2≤b8.next:=by have:=nI.1;omega
 refine cP.block ?_;refine cP.Nw (d_:=.inl b8.next::[]) ?_;refine fG.NA (p.fs.map fun f=>.ag (aV f)) rfl rfl h2.e rfl (NC h2 p lx g3) (fun i=>(p.fs.take i).any (hB p.fresh)=false) (fun ai=>pt p=true∧ai.get 1=some (.cells [.b true])∧ai.get b8.next=some .cT∧b8.next+2≤ai.next) rfl ?_ ?_ ?_ ?_
 ·rintro ai bE ⟨dK,ib,mY,rW⟩;exact⟨dK,vd (by omega) (by omega) ib,vd (by omega) (by omega) mY,rW⟩
 ·intro i v ai av bo oZ du lY;rw[j3,eu] at av;obtain⟨t,ht,rfl⟩:=av;have hm:=yb ht;have sL:=du.2 _ _ a0;have dA:=du.2 _ _ a6;refine U.norm [(1,.p (some (0,0))),(2,.p (some (1,0))),(9,.ag (aV t))] ⟨rfl,rfl,rfl,trivial⟩ fun g=>?_;have H:Has ai [(1,[.b false]),(0,gl p)]:=((Has.nil.cons sL (by simp)).cons dA (by simp))
  generalize aI:ai.next=fz;refine aa ?_;refine W.kG (c:=aV t) H aI rfl rfl rfl rfl rfl rfl fun k5 n7 H fM=>?_;refine aa ?_;refine⟨rfl,⟨by omega,fM⟩,fun kf yr h_=>?_⟩;have H:Has kf [(fz,aV t),(1,[.b false]),(0,gl p)]:=((Has.nil.cons (h_ _ _ (by omega) (fM _ _ sL)) (by simp)).cons (h_ _ _ (by omega) (fM _ _ dA)) (by simp)).cons (h_ _ _ (by omega) (H.get _ (.head _))) (by simp;omega);refine aa ?_;refine W.cx hfn e (cX t hm) rfl rfl rfl (gT (hs t hm _) rfl) ?_;cases bY:hB p.fresh t with
  |false=>
   refine aa ?_;exact⟨fun _ h=>h,.inl ⟨rfl,c8s ht bo bY,bK _,fun _ _ h=>h⟩⟩
  |true=>
   refine aa ?_;refine W.st (bR:=[.b true]) H 1 rfl rfl rfl rfl rfl rfl fun px ug H o9=>?_;refine aa ?_;refine U.ret ⟨fun _ h=>o9 _ _ (by omega) h,.inr ⟨rfl,by rw[an];exact tX.2 ⟨t,hm,bY⟩,H.get _ (.tail _ (.head _)),o9 _ _ (by omega) (h_ _ _ (by omega) (fM _ _ lY)),by omega⟩⟩
 ·intro ai bo oZ du lY;rw[dO,fv (bK _)] at bo;have dA:=du.2 _ _ a6;have H:Has ai [(1,[.b false])]:=Has.nil.cons dA (by simp);refine cP.norm [(2,.p (some (1,0)))] ⟨rfl,trivial⟩ fun g=>?_;refine cP.zE ?_;refine aa ?_;refine W.st (bR:=[.b false]) H 0 rfl rfl rfl rfl rfl rfl fun px ug H o9=>?_;refine aa ?_;exact U.ret ⟨rfl,hJ.one (o9 _ _ (by omega) lY),fun kf bH=>⟨_,aR (pn rfl (bH _ _ (by simp) (H.get _ (.head _))) rfl),by rw[an,bo];rfl⟩⟩
 ·rintro ai ⟨dK,ib,mY,rW⟩;exact⟨rfl,hJ.one mY,fun kf bH=>⟨_,aR (pn rfl (bH _ _ (by simp) ib) rfl),by rw[dK];rfl⟩⟩
end
theorem Z9{s:Bool}{f:Fm}(h:hj s f=true):f.nd≤400:=by unfold hj at h;rw[bT,bT] at h;exact of_decide_eq_true h.2.1
theorem c8u{l:List Fm}{x:List Nat}:m8 l x↔l.any (kK 15 x)=true:=by
 have e:l.any (kK 15 x)=(Fm.dW l).any (fun g=>decide (g.op=15)&&eqL g.name x):=(HC _ l).symm;rw[e,tX];unfold m8;constructor
 ·rintro⟨g,h1,h2,rfl⟩;exact⟨g,h1,by rw[decide_eq_true h2,(kU _ _).2 rfl];rfl⟩
 ·rintro⟨g,h1,h2⟩;rw[bT] at h2;exact⟨g,h1,of_decide_eq_true h2.1,((kU _ _).1 h2.2).symm⟩
theorem c8v{r:b6}{ba:List (List Nat)}(h:∀x,x∈ba↔m8 (r.bN::r.bF.map eo.bN) x)(x:List Nat):x∈ba↔va r x=true:=by
 rw[h,c8u,ta,List.any_map];rfl
theorem hJ.Z_{o ai:ad}{D:pw}{k:Nat}(h:hJ o D)(ax:o.next≤k)(an:ai.get k=some .cT)(ks:∀i,o.get i=some .cT→ai.get i=some .cT):hJ ai (.inl k::D):=by
 obtain⟨ds,rfl,h1,h2⟩:=h;refine⟨k::ds,rfl,zD.2 ⟨fun hh=>by have:=ad.ei (h2 k hh);omega,h1⟩,fun d tq=>?_⟩;rcases dP.1 tq with rfl|tq
 ·exact an
 ·exact ks _ (h2 d tq)
theorem zG{ai:ad}{i j:Nat}{c:List AV}(h:ai.get i=some (.cells c))(aB:ai.get j=some .cT):j≠i:=fun e=>by rw[e,h] at aB;cases aB
theorem c8w{ai:ad}{i j:Nat}{ba:List (List Nat)}(h:gy ai i ba)(aB:ai.get j=some .cT):j≠i:=fun e=>by rw[e,h] at aB;cases aB
theorem a0a{r:b6}{p:eo}(hp:p∈r.bF)(h:k2 p=false):fp r=false:=by
 unfold fp;rw[kH.2 ⟨p,hp,by rw[h];simp⟩];simp
theorem a0b{r:b6}{p:eo}(hp:p∈r.bF)(h:nE r p=false):fp r=false:=by
 unfold fp;rw[(kH (l:=r.bF) (p:=nE r)).2 ⟨p,hp,by rw[h];simp⟩];simp
theorem HJ{p:eo}:k2 p=true↔p.hyps.length≤3∧∀f∈p.fs,hj true f=true:=by
 unfold k2 eo.fs;rw[bT,bT,decide_eq_true_iff,fI];simp
theorem NI{r:b6}{p:eo}:nE r p=true↔(∀f∈p.fs,hk r f=true)∧pt p=true:=by
 unfold nE eo.fs;rw[bT,bT,fI];simp[and_assoc]
theorem b6.zH{r:b6}{p:eo}(h:p∈r.bF){f:Fm}(hf:f∈p.fs):f∈r.fs:=e_ _ (sd.2 ⟨p,h,hf⟩)
section
variable {b:cv}{K:Nat→List AV→AV→Prop}
theorem c8x(hm:HG b K)(a0c:dt (b.bj K) Ha Mz)(h1:dt (b.bj K) CC Gy)(h2:dt (b.bj K) ze GH)(r:b6)(js:r.bF.length<2^62)(lx:∀p∈r.bF,p.hyps.length<2^62)(hok:∀f∈r.fs,f.ok)
  (hs:∀u∈r.fs,∀ai:ad,bW ai (b.aT+1000) (.ag (aV u))=some (.ag (aV u))) (dS:∀p∈r.bF,∀ai:ad,bW ai (b.aT+1000) (.ag (gl p))=some (.ag (gl p)))
  (eG:c5 b zd) (c8y:K zd [.s r.name] (.b (iI r.name))) (aE:c5 b zg) (ih:∀f∈r.fs,K zg [.ag (aV f)] (.b (hj true f))) (aY:c5 b zf) (mz:∀p∈r.bF,k2 p=true→K zf [.ag (gl p)] (.b (pt p)))
  (body:bc) (hb:Gq.body=some body):cP (b.bj K) [] Gq.ntmps body (c4 [.ag (ec r)]) ⟨.nil,0⟩ (Ny Gq.results (.b (fp r))):=by
 cases hb;refine cP.args fun z=>?_;have H:Has (⟨.nil,0⟩:ad) []:=Has.nil;have jS:(r.dN.getD []).length=r.bF.length:=rfl;have no:∀ {ai:ad},fp r=false→freeze ai 0 1000 (.b false)=some (.b (fp r)):=fun h=>by rw[h];rfl
 refine cP.hH ?_;refine aa ?_;refine W.dr (k:=0) (c:=ec r) H rfl rfl rfl rfl rfl rfl fun ai ek H cc=>?_;refine aa ?_;refine W.ko (c:=[.b false]) H ek rfl rfl rfl fun cL jO H cJ=>?_;refine aa ?_;refine cP.hH ?_;refine aa ?_;refine W.cx hm.fn eG c8y rfl rfl rfl (dx rfl) ?_;cases gp:iI r.name with
 |false=>
  refine aa ?_;refine W.st (bR:=[.b false]) H 0 rfl rfl rfl rfl rfl rfl fun k5 n7 H fM=>?_;refine aa ?_;exact U.ret ⟨rfl,hJ.nil,fun kf bH=>⟨_,aR (pn rfl (bH _ _ (by simp) (H.get _ (.head _))) rfl),no (by unfold fp;rw[gp];rfl)⟩⟩
 |true=>
 refine aa ?_;refine W.len rfl rfl rfl m6 ?_;by_cases bY:r.bF.length≤4
 rotate_left
 ·refine aa ?_;refine W.st (bR:=[.b false]) H 0 rfl rfl rfl rfl rfl rfl fun k5 n7 H fM=>?_;refine aa ?_;exact U.ret ⟨rfl,hJ.nil,fun kf bH=>⟨_,aR (pn rfl (bH _ _ (by simp) (H.get _ (.head _))) rfl),no (by unfold fp;rw[decide_eq_false bY];simp)⟩⟩
 refine aa ?_;refine W.cx hm.fn aE (ih _ r.mC) rfl rfl rfl (dx (hs _ r.mC _)) ?_;cases dL:hj true r.bN with
 |false=>
  refine aa ?_;refine W.st (bR:=[.b false]) H 0 rfl rfl rfl rfl rfl rfl fun k5 n7 H fM=>?_;refine aa ?_;exact U.ret ⟨rfl,hJ.nil,fun kf bH=>⟨_,aR (pn rfl (bH _ _ (by simp) (H.get _ (.head _))) rfl),no (by unfold fp;rw[dL];simp)⟩⟩
 |true=>
 have an:fp r=(r.bF.all k2&&(hk r r.bN&&r.bF.all (nE r))):=by unfold fp;rw[gp,dL,decide_eq_true bY];rfl
 refine aa ?_;refine cP.hH ?_;refine aa ?_;refine W.tj H jO rfl rfl fun b8 ju H o5 bx=>?_;have cE:gy b8 (0+1+1) []:=o5;refine aa ?_;refine W.ko (c:=[.m none]) H ju rfl rfl rfl fun k5 n7 H fM=>?_;refine aa ?_;refine W.st (bR:=[.m (some (0+1+1))]) H 0 rfl rfl rfl rfl rfl rfl fun kf yr H h_=>?_;have cE:gy kf (0+1+1) []:=h_ _ _ (by omega) (fM _ _ cE);refine aa ?_;refine cP.hH ?_;refine aa ?_;refine W.jR rfl rfl rfl (Ns a0c _ r.bN (bK _) (hok _ r.mC) kf _ [] cE) fun NJ px ⟨dY,C8,HK,HL,qB⟩=>⟨_,dY,?_⟩
 refine aa ?_;have a0:px.get 0=some (.cells (ec r)):=qB.2 _ _ (by omega) (H.get _ (.tail _ (.tail _ (.head _))));have a6:px.get 1=some (.cells [.b false]):=qB.2 _ _ (by omega) (H.get _ (.tail _ (.head _)));have a3:px.get 3=some (.cells [.m (some 2)]):=qB.2 _ _ (by omega) (H.get _ (.head _));have cE:gy px 2 C8:=HL;have ug:4≤px.next:=by have:=qB.1;omega
 have a0d:∀x,x∈C8↔m8 (r.bN::(r.bF.take 0).map eo.bN) x:=fun x=>by rw[HK.mem];simp
 clear H cc cJ bx fM h_ ek jO ju n7 yr o5 HK qB HL;have H:Has px [(3,[.m (some 2)]),(1,[.b false]),(0,ec r)]:=((Has.nil.cons a0 (by simp)).cons a6 (by simp)).cons a3 (by simp);refine cP.seq ?_;refine cP.hH ?_;refine aa ?_;refine W.len rfl rfl rfl m6 ?_;refine aa ?_;refine cP.block ?_;refine cP.loop (fun m D F ai=>∃j ba,j+m=r.bF.length∧ai.get 0=some (.cells (ec r))∧ai.get 1=some (.cells [.b false])∧ai.get 3=some (.cells [.m (some 2)])∧gy ai 2 ba∧(∀x,x∈ba↔m8 (r.bN::(r.bF.take j).map eo.bN) x)∧(∀p∈r.bF.take j,k2 p=true∧pt p=true)∧hJ ai D∧4≤ai.next∧sat [(1,.p (some (0,0))),(2,.p (some (1,0))),(3,.p (some (3,0))),(32,nD r.dN),(33,aC r.bF.length),(34,aC j)] F) (fun m D F ai bo=>?_) r.bF.length ⟨0,C8,by omega,a0,a6,a3,cE,a0d,by simp,hJ.nil,ug,rfl,rfl,rfl,rfl,rfl,rfl,trivial⟩;clear cE a0 a6 a3 ug a0d H;obtain⟨j,ba,aB,a0,a6,a3,cE,e9,hall,eK,hn,NK⟩:=bo;refine cP.norm _ NK fun g=>?_;have H:Has ai [(3,[.m (some 2)]),(1,[.b false]),(0,ec r)]:=((Has.nil.cons a0 (by simp)).cons a6 (by simp)).cons a3 (by simp);by_cases b2:j<r.bF.length
 ·have hZ:=cB b2;have cF:=gx b2;have bI:=u7 (l:=r.dN) b2;have eD:(r.dN.getD [])[j]=r.bF[j]:=rfl;rw[eD] at bI;generalize r.bF[j]=p at hZ cF bI;have js:=lx p hZ;have xm:(p.gF.getD []).length=p.hyps.length:=rfl;refine cP.hH ?_;refine aa ?_;refine cP.hH ?_;refine aa ?_;refine cP.seq ?_;refine cP.block ?_;refine cP.hH ?_;refine aa ?_;refine W.dg rfl rfl rfl rfl bI ?_;refine W.eV (R:=some 7) rfl rfl rfl rfl ?_;generalize aI:ai.next=q;refine W.kG (c:=gl p) H aI rfl rfl rfl rfl rfl rfl fun c2 ek H cc=>?_;have iW:=cc _ _ cE;have ve:hJ c2 D:=eK.ee fun i h=>cc _ _ h;refine aa ?_;refine cP.hH ?_;refine aa ?_;refine W.len rfl rfl rfl gD ?_;by_cases jh:p.hyps.length≤3
  rotate_left
  ·refine aa ?_;refine W.st (bR:=[.b false]) H 2 rfl rfl rfl rfl rfl rfl fun k5 n7 H fM=>?_;refine aa ?_;exact U.ret ⟨rfl,ve.ee fun i h=>fM _ _ (zG (cc _ _ a6) h) h,fun kf bH=>⟨_,aR (pn rfl (bH _ _ (by simp) (H.get _ (.tail _ (.tail _ (.head _))))) rfl),no (a0a hZ (by unfold k2;rw[decide_eq_false jh];rfl))⟩⟩
  refine aa ?_;refine cP.seq ?_;refine cP.hH ?_;refine aa ?_;refine W.jR rfl rfl rfl (NB h1 p c2) fun km b8 ⟨dY,g3,nI⟩=>⟨_,dY,?_⟩
  have H:=H.ee nI.2;have kb:=nI.2 _ _ iW;have C9:hJ b8 D:=ve.ee fun i h=>nI.2 _ _ h;have dA:b8.get 1=some (.cells [.b false]):=H.get _ (.tail _ (.tail _ (.head _)));have e0h:b8.get q=some (.cells (gl p)):=H.get _ (.head _);have ju:4≤b8.next:=by have:=nI.1;omega
  generalize c2.next=gM at g3;refine aa ?_;refine cP.block ?_;refine cP.Nw (d_:=.inl b8.next::D) ?_;refine fG.NA (p.fs.map fun f=>.ag (aV f)) rfl rfl h2.e rfl (NC h2 p js g3) (fun i=>∀f∈p.fs.take i,hj true f=true) (fun ai=>fp r=false∧ai.get 1=some (.cells [.b false])∧ai.get b8.next=some .cT∧(∀i,b8.get i=some .cT→ai.get i=some .cT)∧b8.next+2≤ai.next) (by simp) ?_ ?_ ?_ ?_
  ·rintro ai bE ⟨dK,ib,mY,rW,C_⟩;exact⟨dK,vd (by omega) (by omega) ib,vd (by omega) (by omega) mY,fun i h=>vd (by omega) (by have:=ad.ei h;omega) (rW i h),C_⟩
  ·intro i v eg av bo oZ du lY;rw[j3,eu] at av;obtain⟨t,ht,rfl⟩:=av;have pk:=yb ht;have bY:=du.2 _ _ dA;refine U.norm [(2,.p (some (1,0))),(44,.ag (aV t))] ⟨rfl,rfl,trivial⟩ fun g=>?_;have H:Has eg [(1,[.b false])]:=Has.nil.cons bY (by simp);generalize pY:eg.next=fz;refine aa ?_;refine W.kG (c:=aV t) H pY rfl rfl rfl rfl rfl rfl fun k5 n7 H fM=>?_;refine aa ?_;refine⟨rfl,⟨by omega,fM⟩,fun kf yr h_=>?_⟩;have H:Has kf [(fz,aV t),(1,[.b false])]:=(Has.nil.cons (h_ _ _ (by omega) (fM _ _ bY)) (by simp)).cons (h_ _ _ (by omega) (H.get _ (.head _))) (by simp;omega);refine aa ?_;refine W.cx hm.fn aE (ih t (b6.zH hZ pk)) rfl rfl rfl (dx (hs t (b6.zH hZ pk) _)) ?_;cases iX:hj true t with
   |true=>
    refine aa ?_;refine⟨fun _ h=>h,.inl ⟨rfl,fun f hf=>?_,bK _,fun _ _ h=>h⟩⟩;rw[Nu,ht] at hf;rcases e4.1 hf with hf|hf
    ·exact bo f hf
    ·have:f=t:=by simpa using hf
     rw[this];exact iX
   |false=>
    refine aa ?_;refine W.st (bR:=[.b false]) H 1 rfl rfl rfl rfl rfl rfl fun px ug H o9=>?_;refine aa ?_;have re:∀i,b8.get i=some .cT→px.get i=some .cT:=fun i h=>o9 _ _ (zG dA h) (h_ _ _ (by have:=ad.ei h;omega) (fM _ _ (du.2 _ _ h)));refine U.ret ⟨fun _ h=>o9 _ _ (by omega) h,.inr ⟨rfl,a0a hZ (by cases hp:k2 p with
     |false=>rfl
     |true=>rw[(HJ.1 hp).2 t pk] at iX;cases iX),H.get _ (.tail _ (.head _)),o9 _ _ (by omega) (h_ _ _ (by omega) (fM _ _ lY)),re,by omega⟩⟩
  ·intro eg bo oZ du lY;rw[dO,fv (bK _)] at bo;have mT:k2 p=true:=HJ.2 ⟨jh,bo⟩;have H:=H.ee du.2;have rV:=du.2 _ _ kb;have a0e:hJ eg (.inl b8.next::D):=C9.cons (bK _) lY du.2;refine cP.norm [(1,.p (some (0,0))),(2,.p (some (1,0))),(3,.p (some (3,0))),(5,.p (some (q,0))),(32,nD r.dN),(33,aC r.bF.length),(34,aC j)] ⟨rfl,rfl,rfl,rfl,rfl,rfl,rfl,trivial⟩ fun g=>?_;refine cP.hH ?_;refine aa ?_;refine W.cx hm.fn aY (mz p hZ mT) rfl rfl rfl (dx (dS p hZ _)) ?_;cases py:pt p with
   |false=>
    refine aa ?_;refine W.st (bR:=[.b false]) H 2 rfl rfl rfl rfl rfl rfl fun rX wD H m9=>?_;refine aa ?_;exact U.ret ⟨rfl,a0e.ee fun i h=>m9 _ _ (zG (du.2 _ _ dA) h) h,fun kf bH=>⟨_,aR (pn rfl (bH _ _ (by simp) (H.get _ (.tail _ (.tail _ (.head _))))) rfl),no (a0b hZ (by cases hp:nE r p with
     |false=>rfl
     |true=>rw[(NI.1 hp).2] at py;cases py))⟩⟩
   |true=>
   refine aa ?_;refine cP.zE ?_;refine aa ?_;refine W.jR rfl rfl rfl (Ns a0c _ p.bN (bK _) (hok _ (b6.mD hZ)) eg _ ba rV) fun NJ px ⟨dY,C8,HK,HL,qB⟩=>⟨_,dY,?_⟩
   refine aa ?_;refine cP.zE ?_;refine aa ?_;refine⟨m-1,by omega,j+1,C8,by omega,qB.2 _ _ (by omega) (H.get _ (.tail _ (.tail _ (.tail _ (.head _))))),qB.2 _ _ (by omega) (H.get _ (.tail _ (.tail _ (.head _)))),qB.2 _ _ (by omega) (H.get _ (.tail _ (.head _))),HL,fun x=>?_,fun u hu=>?_,a0e.ee fun i h=>qB.2 _ _ (c8w rV h) h,by have:=qB.1;omega,rfl,rfl,rfl,rfl,rfl,rfl,trivial⟩
   ·rw[HK.mem,e9,cF,nb,← n2,ZK];rfl
   ·rw[cF] at hu;rcases e4.1 hu with hu|hu
    ·exact hall u hu
    ·have:u=p:=by simpa using hu
     rw[this];exact⟨mT,py⟩
  ·rintro eg ⟨dK,ib,mY,rW,C_⟩;exact⟨rfl,C9.Z_ (bK _) mY rW,fun kf bH=>⟨_,aR (pn rfl (bH _ _ (by simp) ib) rfl),no dK⟩⟩
 ·rw[fv (by omega)] at e9 hall;have nG:=c8v e9;have oZ:∀ {u:Fm} {fy:Bool},hj true u=true→(fy=true↔∀x,nH [u] x→gE (x.drop 1)=true→x∈ba)→fy=hk r u:=fun h hb=>hD.2 (hb.trans (c8m h nG));refine cP.hH ?_;refine aa ?_;refine cP.hH ?_;refine aa ?_;refine U.exit ?_;refine cP.norm [(1,.p (some (0,0))),(2,.p (some (1,0))),(3,.p (some (3,0)))] ⟨rfl,rfl,rfl,trivial⟩ fun g=>?_;refine cP.hH ?_;refine aa ?_;refine W.jR rfl rfl rfl (Z7 hm r.bN (hok _ r.mC) (jk (Z9 dL) (by decide)) cE) fun r1 c2 ⟨fy,dY,su,tr⟩=>⟨_,dY,?_⟩
  have H:=H.ee tr.2;have iW:=tr.2 _ _ cE;have ve:hJ c2 D:=eK.ee fun i h=>tr.2 _ _ h;have ek:=tr.1;have ax:=oZ dL su;subst ax;cases py:hk r r.bN with
  |false=>
   refine aa ?_;refine W.st (bR:=[.b false]) H 1 rfl rfl rfl rfl rfl rfl fun rX wD H m9=>?_;refine aa ?_;exact U.ret ⟨rfl,ve.ee fun i h=>m9 _ _ (zG (tr.2 _ _ a6) h) h,fun kf bH=>⟨_,aR (pn rfl (bH _ _ (by simp) (H.get _ (.tail _ (.head _)))) rfl),no (by rw[an,py];simp)⟩⟩
  |true=>
  refine aa ?_;refine cP.seq ?_;refine cP.hH ?_;refine aa ?_;refine W.len rfl rfl rfl m6 ?_;refine aa ?_;refine cP.block ?_;refine cP.loop (fun m D F ai=>∃j,j+m=r.bF.length∧ai.get 0=some (.cells (ec r))∧ai.get 1=some (.cells [.b false])∧ai.get 3=some (.cells [.m (some 2)])∧gy ai 2 ba∧(∀p∈r.bF.take j,∀f∈p.fs,hk r f=true)∧hJ ai D∧4≤ai.next∧sat [(1,.p (some (0,0))),(2,.p (some (1,0))),(3,.p (some (3,0))),(62,nD r.dN),(63,aC r.bF.length),(64,aC j)] F) (fun m D F ai bo=>?_) r.bF.length ⟨0,by omega,tr.2 _ _ a0,tr.2 _ _ a6,tr.2 _ _ a3,iW,by simp,ve,by omega,rfl,rfl,rfl,rfl,rfl,rfl,trivial⟩;clear iW ve ek tr H a0 a6 a3 cE eK hn aB b2 su;obtain⟨j,aB,a0,a6,a3,cE,mM,eK,hn,NK⟩:=bo;refine cP.norm _ NK fun g=>?_;have H:Has ai [(3,[.m (some 2)]),(1,[.b false]),(0,ec r)]:=((Has.nil.cons a0 (by simp)).cons a6 (by simp)).cons a3 (by simp);by_cases b2:j<r.bF.length
  ·have hZ:=cB b2;have cF:=gx b2;have bI:=u7 (l:=r.dN) b2;have eD:(r.dN.getD [])[j]=r.bF[j]:=rfl;rw[eD] at bI;generalize r.bF[j]=p at hZ cF bI;have js:=lx p hZ;have xm:(p.gF.getD []).length=p.hyps.length:=rfl;obtain⟨mT,bl⟩:=hall p hZ;refine cP.hH ?_;refine aa ?_;refine cP.hH ?_;refine aa ?_;refine cP.seq ?_;refine cP.block ?_;refine cP.hH ?_;refine aa ?_;refine W.dg rfl rfl rfl rfl bI ?_;refine W.eV (R:=some 7) rfl rfl rfl rfl ?_;generalize aI:ai.next=q;refine W.kG (c:=gl p) H aI rfl rfl rfl rfl rfl rfl fun c2 ek H cc=>?_;have iW:=cc _ _ cE;have ve:hJ c2 D:=eK.ee fun i h=>cc _ _ h;refine aa ?_;refine cP.hH ?_;refine aa ?_;refine W.jR rfl rfl rfl (NB h1 p c2) fun km b8 ⟨dY,g3,nI⟩=>⟨_,dY,?_⟩
   have H:=H.ee nI.2;have kb:=nI.2 _ _ iW;have C9:hJ b8 D:=ve.ee fun i h=>nI.2 _ _ h;have dA:b8.get 1=some (.cells [.b false]):=H.get _ (.tail _ (.tail _ (.head _)));have fE:b8.get 3=some (.cells [.m (some 2)]):=H.get _ (.tail _ (.head _));have ju:4≤b8.next:=by have:=nI.1;omega
   generalize c2.next=gM at g3;refine aa ?_;refine cP.block ?_;refine cP.Nw (d_:=.inl b8.next::D) ?_;refine fG.NA (p.fs.map fun f=>.ag (aV f)) rfl rfl h2.e rfl (NC h2 p js g3) (fun i=>∀f∈p.fs.take i,hk r f=true) (fun ai=>fp r=false∧ai.get 1=some (.cells [.b false])∧ai.get b8.next=some .cT∧(∀i,b8.get i=some .cT→ai.get i=some .cT)∧b8.next+2≤ai.next) (by simp) ?_ ?_ ?_ ?_
   ·rintro ai bE ⟨dK,ib,mY,rW,C_⟩;exact⟨dK,vd (by omega) (by omega) ib,vd (by omega) (by omega) mY,fun i h=>vd (by omega) (by have:=ad.ei h;omega) (rW i h),C_⟩
   ·intro i v eg av bo c8z du lY;rw[j3,eu] at av;obtain⟨t,ht,rfl⟩:=av;have pk:=yb ht;have a0f:=(HJ.1 mT).2 t pk;have bY:=du.2 _ _ dA;have jh:=du.2 _ _ fE;have rV:=du.2 _ _ kb;refine U.norm [(2,.p (some (1,0))),(3,.p (some (3,0))),(70,.ag (aV t))] ⟨rfl,rfl,rfl,trivial⟩ fun g=>?_;have H:Has eg [(3,[.m (some 2)]),(1,[.b false])]:=(Has.nil.cons bY (by simp)).cons jh (by simp);generalize pY:eg.next=fz;refine aa ?_;refine W.kG (c:=aV t) H pY rfl rfl rfl rfl rfl rfl fun k5 n7 H fM=>?_;refine aa ?_;refine⟨rfl,⟨by omega,fM⟩,fun kf yr h_=>?_⟩;have Nt:gy kf 2 ba:=h_ _ _ (by omega) (fM _ _ rV);have H:Has kf [(fz,aV t),(3,[.m (some 2)]),(1,[.b false])]:=((Has.nil.cons (h_ _ _ (by omega) (fM _ _ bY)) (by simp)).cons (h_ _ _ (by omega) (fM _ _ jh)) (by simp)).cons (h_ _ _ (by omega) (H.get _ (.head _))) (by simp;omega);refine aa ?_;refine W.jR rfl rfl rfl (Z7 hm t (hok _ (b6.zH hZ pk)) (jk (Z9 a0f) (by decide)) Nt) fun r1 px ⟨fy,dY,su,xq⟩=>⟨_,dY,?_⟩
    have H:=H.ee xq.2;have ax:=oZ a0f su;subst ax;cases iX:hk r t with
    |true=>
     refine aa ?_;refine⟨fun _ h=>xq.2 _ _ h,.inl ⟨rfl,fun f hf=>?_,xq⟩⟩;rw[Nu,ht] at hf;rcases e4.1 hf with hf|hf
     ·exact bo f hf
     ·have:f=t:=by simpa using hf
      rw[this];exact iX
    |false=>
     refine aa ?_;refine W.st (bR:=[.b false]) H 2 rfl rfl rfl rfl rfl rfl fun rX wD H m9=>?_;refine aa ?_;have ug:=xq.1;have re:∀i,b8.get i=some .cT→rX.get i=some .cT:=fun i h=>m9 _ _ (zG dA h) (xq.2 _ _ (h_ _ _ (by have:=ad.ei h;omega) (fM _ _ (du.2 _ _ h))));refine U.ret ⟨fun _ h=>m9 _ _ (by omega) (xq.2 _ _ h),.inr ⟨rfl,a0b hZ (by cases hp:nE r p with
      |false=>rfl
      |true=>rw[(NI.1 hp).1 t pk] at iX;cases iX),H.get _ (.tail _ (.tail _ (.head _))),m9 _ _ (by omega) (xq.2 _ _ (h_ _ _ (by omega) (fM _ _ lY))),re,by omega⟩⟩
   ·intro eg bo c8z du lY;rw[dO,fv (bK _)] at bo;have H:=H.ee du.2;refine cP.zE ?_;refine U.norm [(1,.p (some (0,0))),(2,.p (some (1,0))),(3,.p (some (3,0))),(62,nD r.dN),(63,aC r.bF.length),(64,aC j)] ⟨rfl,rfl,rfl,rfl,rfl,rfl,trivial⟩ fun g=>?_;refine aa ?_;refine⟨m-1,by omega,j+1,by omega,H.get _ (.tail _ (.tail _ (.tail _ (.head _)))),H.get _ (.tail _ (.tail _ (.head _))),H.get _ (.tail _ (.head _)),du.2 _ _ kb,fun u hu=>?_,C9.cons (bK _) lY du.2,by have:=du.1;omega,rfl,rfl,rfl,rfl,rfl,rfl,trivial⟩;rw[cF] at hu;rcases e4.1 hu with hu|hu
    ·exact mM u hu
    ·have:u=p:=by simpa using hu
     rw[this];exact bo
   ·rintro eg ⟨dK,ib,mY,rW,C_⟩;exact⟨rfl,C9.Z_ (bK _) mY rW,fun kf bH=>⟨_,aR (pn rfl (bH _ _ (by simp) ib) rfl),no dK⟩⟩
  ·rw[fv (by omega)] at mM;refine cP.hH ?_;refine aa ?_;refine cP.hH ?_;refine aa ?_;refine U.exit ?_;refine cP.norm [(2,.p (some (1,0)))] ⟨rfl,trivial⟩ fun g=>?_;refine cP.zE ?_;refine aa ?_;refine W.st (bR:=[.b true]) H 1 rfl rfl rfl rfl rfl rfl fun rX wD H m9=>?_;refine aa ?_;refine U.ret ⟨rfl,eK.ee fun i h=>m9 _ _ (zG a6 h) h,fun kf bH=>⟨_,aR (pn rfl (bH _ _ (by simp) (H.get _ (.tail _ (.head _)))) rfl),?_⟩⟩;have:fp r=true:=by
    rw[an,py,gS,bT,fI,fI];exact⟨fun p hp=>(hall p hp).1,fun p hp=>NI.2 ⟨mM p hp,(hall p hp).2⟩⟩
   rw[this];rfl
end
theorem a0g{l:Lgc}(h:¬(1≤l.kind∧l.kind≤5)):ep l=false:=by unfold ep;rw[decide_eq_false h];simp
theorem a0h{k:Nat}:k3 k=0↔¬(1≤k∧k≤5):=by
 unfold k3;split
 ·constructor
  ·intro h;cases h
  ·intro h;omega
 ·split
  ·constructor
   ·intro h;cases h
   ·intro h;omega
  ·split
   ·constructor
    ·intro h;cases h
    ·intro h;omega
   ·split
    ·constructor
     ·intro h;cases h
     ·intro h;omega
    ·exact⟨fun _=>by omega,fun _=>rfl⟩
section
variable {b:cv}{K:Nat→List AV→AV→Prop}
theorem c8A(k:Nat)(ax:k<256)(body:bc)(hb:Gn.body=some body):U (b.bj K) Gn.ntmps body (c4 [b5 k]) ⟨.nil,0⟩ (eO Gn.results (cN (k3 k))):=by
 cases hb;refine W.args fun z=>?_;have H:Has (⟨.nil,0⟩:ad) []:=Has.nil;refine aa ?_;by_cases bY:k=1
 ·refine aa ?_;exact U.ret ⟨rfl,_,aR (aS rfl),by rw[bY];rfl⟩
 refine aa ?_;by_cases jh:k=3
 ·refine aa ?_;exact U.ret ⟨rfl,_,aR (aS rfl),by rw[jh];rfl⟩
 refine aa ?_;by_cases dL:k=2
 ·refine aa ?_;exact U.ret ⟨rfl,_,aR (aS rfl),by rw[dL];rfl⟩
 refine aa ?_;by_cases iX:k=4
 ·refine aa ?_;exact U.ret ⟨rfl,_,aR (aS rfl),by rw[iX];rfl⟩
 refine aa ?_;by_cases py:k=5
 ·refine aa ?_;exact U.ret ⟨rfl,_,aR (aS rfl),by rw[py];rfl⟩
 refine aa ?_;exact U.ret ⟨rfl,_,aR (aS rfl),by rw[a0h.2 (by omega)];rfl⟩
theorem c8B(hfn:∀g aO r cj,K g aO r→K g aO cj→r=cj)(r:b6)(mk:Nat)(js:r.bF.length<2^62)(lx:∀p∈r.bF,p.hyps.length<2^62)(hs:∀u∈r.fs,∀ai:ad,bW ai (b.aT+1000) (.ag (aV u))=some (.ag (aV u)))
  (e:c5 b uK) (cX:∀u∈r.fs,K uK [.ag (aV u)] (cN (gU u)))
  (body:bc) (hb:Gr.body=some body):U (b.bj K) Gr.ntmps body (c4 [.ag (ec r),cN mk]) ⟨.nil,0⟩ (eO Gr.results (.b (k4 mk r))):=by
 cases hb;refine W.args fun z=>?_;have H:Has (⟨.nil,0⟩:ad) []:=Has.nil;have jS:(r.dN.getD []).length=r.bF.length:=rfl;refine aa ?_;refine W.dr (c:=ec r) H rfl rfl rfl rfl rfl rfl fun fj ek H cc=>?_;refine aa ?_;refine W.cx hfn e (cX _ r.mC) rfl rfl rfl (dx (hs _ r.mC _)) ?_;refine aa ?_;refine W.len rfl rfl rfl m6 ?_;refine aa ?_;have NL:∀ {f:Fm},hC (gU f) mk=0↔jT mk f=true:=fun {f}=>by unfold jT;rw[decide_eq_true_iff]
 refine U.each r.bF.length (fun j F ai=>∃m,m<2^32∧(hC m mk=0↔jT mk r.bN=true∧∀p∈r.bF.take j,qA mk p=true)∧sat [(1,cN mk),(5,cN m),(14,nD r.dN)] F) js ⟨gU r.bN,pr _,by rw[NL];simp,rfl,rfl,rfl,trivial⟩ rfl rfl (fun j F ai aB bo hi hm=>?_) (fun F ai bo hi=>?_)
 ·obtain⟨m,bu,mN,c1⟩:=bo;refine U.norm [(1,cN mk),(5,cN m),(14,nD r.dN),(16,aC j),(15,aC r.bF.length)] ⟨c1.1,c1.2.1,c1.2.2.1,hi,hm,trivial⟩ fun F=>?_;have hZ:=cB aB;have cF:=gx aB;have bI:=u7 (l:=r.dN) aB;have eD:(r.dN.getD [])[j]=r.bF[j]:=rfl;rw[eD] at bI;generalize r.bF[j]=p at hZ cF bI;have EP:=lx p hZ;have xm:(p.gF.getD []).length=p.hyps.length:=rfl;have H:Has ai []:=Has.nil;refine aa ?_;refine W.dg rfl rfl rfl rfl bI ?_;refine W.eV (R:=some 7) rfl rfl rfl rfl ?_;generalize aI:ai.next=q;refine W.kG (c:=gl p) H aI rfl rfl rfl rfl rfl rfl fun c2 ek H cc=>?_;refine aa ?_;refine W.cx hfn e (cX _ (b6.mD hZ)) rfl rfl rfl (dx (hs _ (b6.mD hZ) _)) ?_;refine aa ?_;refine W.bin rfl rfl rfl rfl (u2 bu (pr p.bN)) ?_;refine aa ?_;refine W.len rfl rfl rfl gD ?_;refine aa ?_;have L2:m ||| gU p.bN<2^32:=u1 bu (pr _);have c8C:hC (m ||| gU p.bN) mk=0↔(jT mk r.bN=true∧∀p∈r.bF.take j,qA mk p=true)∧jT mk p.bN=true:=by rw[Zq,mN,NL]
  refine U.each p.hyps.length (fun i F ai=>∃m,m<2^32∧(hC m mk=0↔((jT mk r.bN=true∧∀p∈r.bF.take j,qA mk p=true)∧jT mk p.bN=true)∧∀h∈p.hyps.take i,jT mk h=true)∧sat [(1,cN mk),(5,cN m),(14,nD r.dN),(16,aC j),(15,aC r.bF.length),(26,dk true p.gF)] F) EP ⟨_,L2,by rw[c8C];simp,rfl,rfl,rfl,rfl,rfl,rfl,trivial⟩ rfl rfl (fun i F ai mf bo hi hm=>?_) (fun F ai bo hi=>?_)
  ·obtain⟨bO,bu,mN,c1⟩:=bo;refine U.norm [(1,cN mk),(5,cN bO),(14,nD r.dN),(16,aC j),(15,aC r.bF.length),(26,dk true p.gF),(28,aC i),(27,aC p.hyps.length)] ⟨c1.1,c1.2.1,c1.2.2.1,c1.2.2.2.1,c1.2.2.2.2.1,c1.2.2.2.2.2.1,hi,hm,trivial⟩ fun F=>?_;have NM:=cB mf;have ly:=gx mf;have bI:=ov (l:=p.gF) mf;have eD:(p.gF.getD [])[i]=p.hyps[i]:=rfl;rw[eD] at bI;generalize p.hyps[i]=t at NM ly bI;have H:Has ai []:=Has.nil;refine aa ?_;refine W.dg rfl rfl rfl rfl bI ?_;refine W.eV (R:=some 4) rfl rfl rfl rfl ?_;generalize aI:ai.next=q;refine W.kG (c:=aV t) H aI rfl rfl rfl rfl rfl rfl fun c2 ek H cc=>?_;refine aa ?_;refine W.cx hfn e (cX _ (b6.ow hZ NM)) rfl rfl rfl (dx (hs _ (b6.ow hZ NM) _)) ?_;refine aa ?_;refine W.bin rfl rfl rfl rfl (u2 bu (pr t)) ?_;refine aa ?_;refine⟨rfl,rfl,_,u1 bu (pr t),?_,rfl,rfl,rfl,rfl,rfl,rfl,trivial⟩;rw[Zq,mN,NL,ly];simp only[e4,e3];exact⟨fun h=>⟨h.1.1,fun x hx=>hx.elim (h.1.2 x) fun e=>e▸h.2⟩,fun h=>⟨⟨h.1,fun x hx=>h.2 x (.inl hx)⟩,h.2 t (.inr rfl)⟩⟩
  ·obtain⟨bO,bu,mN,c1⟩:=bo;refine⟨c1.2.2.2.1,c1.2.2.2.2.1,bO,bu,?_,c1.1,c1.2.1,c1.2.2.1,trivial⟩;rw[mN,cF,fv (bK _)];have hw:qA mk p=true↔jT mk p.bN=true∧∀h∈p.hyps,jT mk h=true:=by unfold qA;rw[bT,fI]
   simp only[e4,e3];exact⟨fun h=>⟨h.1.1.1,fun x hx=>hx.elim (h.1.1.2 x) fun e=>e▸hw.2 ⟨h.1.2,h.2⟩⟩,fun h=>⟨⟨⟨h.1,fun x hx=>h.2 x (.inl hx)⟩,(hw.1 (h.2 p (.inr rfl))).1⟩,(hw.1 (h.2 p (.inr rfl))).2⟩⟩
 ·obtain⟨m,bu,mN,c1⟩:=bo;refine U.norm [(1,cN mk),(5,cN m)] ⟨c1.1,c1.2.1,trivial⟩ fun F=>?_;rw[fv (bK _)] at mN;refine aa ?_;refine W.bin rfl rfl rfl rfl zz ?_;have af:k4 mk r=decide (hC m mk=0):=by
   rw[hD,decide_eq_true_iff,mN];unfold k4;rw[bT,fI]
  by_cases c:hC m mk=0
  ·refine aa ?_;exact U.ret ⟨rfl,_,aR (aS rfl),by rw[af,decide_eq_true c];rfl⟩
  ·refine aa ?_;exact U.ret ⟨rfl,_,aR (aS rfl),by rw[af,decide_eq_false c];rfl⟩
end
theorem a0i{a:Nat}:a-a%8=0↔a≤7:=by omega
theorem c8D{l:List b6}{j:Nat}{r:b6}(jN:ke (l.take (j+1))=(ke (l.take j)&&(l.take j).all fun x=>!eqL x.name r.name)){ba:List (List Nat)}(ax:∀x,x∈ba↔x∈(l.take j).map b6.name)(h:r.name∈ba):ke l=false:=by
 refine Zv (j:=j+1) ?_;rw[jN];obtain⟨y,aJ,e⟩:=fq.1 ((ax _).1 h);rw[kH.2 ⟨y,aJ,by rw[(kU _ _).2 e];simp⟩,lU]
theorem c8E{l:List b6}{j:Nat}{r:b6}(jN:ke (l.take (j+1))=(ke (l.take j)&&(l.take j).all fun x=>!eqL x.name r.name)){ba:List (List Nat)}(ax:∀x,x∈ba↔x∈(l.take j).map b6.name)(h:r.name∉ba)(h0:ke (l.take j)=true):ke (l.take (j+1))=true:=by
 rw[jN,h0,gS,fI];intro y aJ;cases e:eqL y.name r.name with
 |false=>rfl
 |true=>exact absurd ((ax _).2 (fq.2 ⟨y,aJ,(kU _ _).1 e⟩)) h
section
variable {b:cv}{K:Nat→List AV→AV→Prop}
theorem c8F(hfn:∀g aO r cj,K g aO r→K g aO cj→r=cj)(l:Lgc)(xp:l.ops<2^32)(lY:l.kind<256)(bl:l.frame<256)(tR:l.rules.length<2^62)
  (c1:∀r∈l.rules,∀ai:ad,bW ai (b.aT+1000) (.ag (ec r))=some (.ag (ec r)))
  (eG:c5 b y_) (h0:K y_ [b5 l.kind] (cN (k3 l.kind))) (aE:c5 b za) (h1:K za [.s l.name] (.b (iI l.name))) (aY:c5 b zc) (h2:∀r∈l.rules,K zc [.ag (ec r)] (.b (fp r)))
  (cZ:c5 b zb) (h3:∀r∈l.rules,∀m,K zb [.ag (ec r),cN m] (.b (k4 m r)))
  (body:bc) (hb:y1.body=some body):U (b.bj K) y1.ntmps body (c4 [.ag (lgC l)]) ⟨.nil,0⟩ (eO y1.results (.b (ep l))):=by
 cases hb;refine W.args fun z=>?_;have H:Has (⟨.nil,0⟩:ad) []:=Has.nil;have dY:(l.kd.getD []).length=l.rules.length:=rfl;have no:∀ {ai:ad},ep l=false→freeze ai 0 1000 (.b false)=some (.b (ep l)):=fun h=>by rw[h];rfl
 have yd:=a0h (k:=l.kind);have tJ:k3 l.kind<2^32:=sA (Zt l.kind) (by decide);refine aa ?_;refine W.dr (c:=lgC l) H rfl rfl rfl rfl rfl rfl fun fj ek H cc=>?_;refine aa ?_;refine W.cx hfn eG h0 rfl rfl rfl (dx rfl) ?_;refine lv ?_;refine W.nil ?_;refine U.od [(1,.p (some (0,0)))] (E:=eO y1.results (.b (ep l))) (M:=iI l.name=true∧(1≤l.kind∧l.kind≤5)∧l.ops &&& 2≠0∧hC l.ops (k3 l.kind)=0) ?_ (fun x bC ah h=>⟨by rw[h.1];simp,h⟩) fun du F=>?_
 ·refine aa ?_;refine W.cx hfn aE h1 rfl rfl rfl (dx rfl) ?_;cases gp:iI l.name with
  |false=>
   refine aa ?_;exact U.ret (.inr ⟨rfl,_,aR (aS rfl),no (by unfold ep;rw[gp];rfl)⟩)
  |true=>
  refine aa ?_;by_cases bY:k3 l.kind=0
  ·refine aa ?_;exact U.ret (.inr ⟨rfl,_,aR (aS rfl),no (a0g (yd.1 bY))⟩)
  refine aa ?_;refine W.bin rfl rfl rfl rfl (Zp (c:=2) xp (by decide)) ?_;by_cases dL:l.ops &&& 2=0
  ·refine aa ?_;exact U.ret (.inr ⟨rfl,_,aR (aS rfl),no (by unfold ep;rw[decide_eq_false (p:=l.ops &&& 2≠0) (fun h=>h dL)];simp)⟩)
  refine aa ?_;refine W.bin rfl rfl rfl rfl zz ?_;by_cases jh:hC l.ops (k3 l.kind)=0
  rotate_left
  ·refine aa ?_;exact U.ret (.inr ⟨rfl,_,aR (aS rfl),no (by unfold ep;rw[decide_eq_false jh];simp)⟩)
  refine aa ?_;exact .inl ⟨rfl,rfl,⟨rfl,trivial⟩,rfl,FQ fun h=>bY (yd.2 h),dL,jh⟩
 obtain⟨gp,bY,dL,jh⟩:=du;refine U.od [(1,.p (some (0,0)))] (E:=eO y1.results (.b (ep l))) (M:=l.frame≤7∧(l.frame=0∨l.kind=4)) ?_ (fun x bC ah h=>⟨by rw[h.1];simp,h⟩) fun du F=>?_
 ·refine aa ?_;refine W.bin rfl rfl rfl rfl (c7n bl) ?_;by_cases iX:l.frame-l.frame%8=0
  rotate_left
  ·refine aa ?_;exact U.ret (.inr ⟨rfl,_,aR (aS rfl),no (by unfold ep;rw[decide_eq_false (p:=l.frame≤7) (fun h=>iX (a0i.2 h))];simp)⟩)
  have HM:=a0i.1 iX;refine aa ?_;by_cases py:l.frame=0
  ·refine aa ?_;exact .inl ⟨rfl,rfl,⟨rfl,trivial⟩,HM,.inl py⟩
  refine aa ?_;by_cases a0j:l.kind=4
  ·refine aa ?_;exact .inl ⟨rfl,rfl,⟨rfl,trivial⟩,HM,.inr a0j⟩
  refine aa ?_;exact U.ret (.inr ⟨rfl,_,aR (aS rfl),no (by unfold ep;rw[decide_eq_false (p:=l.frame=0∨l.kind=4) (by omega)];simp)⟩)
 obtain⟨iX,py⟩:=du;refine aa ?_;refine W.len rfl rfl rfl xl ?_;by_cases a0j:64<l.rules.length
 ·refine aa ?_;exact U.ret ⟨rfl,_,aR (aS rfl),no (by unfold ep;rw[decide_eq_false (p:=l.rules.length≤64) (by omega)];simp)⟩
 have an:ep l=(l.rules.all (fun r=>fp r&&k4 (nF l.ops) r)&&ke l.rules):=by
  unfold ep;rw[gp,decide_eq_true bY,decide_eq_true dL,decide_eq_true jh,decide_eq_true (show l.rules.length≤64 by omega),decide_eq_true iX,decide_eq_true py];rfl
 refine aa ?_;refine W.bin rfl rfl rfl rfl (u2 xp (b:=32768) (by decide)) ?_;have oU:l.ops ||| 32768<2^32:=u1 xp (by decide);refine lv ?_;refine W.nil ?_;refine U.cut [(1,.p (some (0,0))),(4,cN (nF l.ops))] ?_ fun F=>?_
 ·refine aa ?_;refine W.bin rfl rfl rfl rfl (Zp (c:=768) xp (by decide)) ?_;by_cases a0k:l.ops &&& 768=0
  ·refine aa ?_;exact⟨rfl,rfl,rfl,by show cN (l.ops ||| 32768)=_;unfold nF;rw[if_pos a0k],trivial⟩
  ·refine aa ?_;refine W.bin rfl rfl rfl rfl (u2 oU (b:=65536) (by decide)) ?_;refine aa ?_;exact⟨rfl,rfl,rfl,by show cN (l.ops ||| 32768 ||| 65536)=_;unfold nF;rw[if_neg a0k],trivial⟩
 generalize nF l.ops=mk at an;refine aa ?_;refine W.tj H ek rfl rfl fun c2 jO H bO cc=>?_;have cE:gy c2 (0+1) []:=bO;refine aa ?_;refine W.len rfl rfl rfl xl ?_;refine aa ?_;refine U.each l.rules.length (fun j F ai=>(∃ba,gy ai 1 ba∧(∀x,x∈ba↔x∈(l.rules.take j).map b6.name))∧(l.rules.take j).all (fun r=>fp r&&k4 mk r)=true∧ke (l.rules.take j)=true∧sat [(4,cN mk),(5,.m (some 1)),(61,tn l.kd)] F) tR ⟨⟨[],cE,by simp⟩,by simp,by simp[ke],rfl,rfl,rfl,trivial⟩ rfl rfl (fun j F ai aB bo hi hm=>?_) (fun F ai bo hi=>?_)
 ·obtain⟨⟨ba,cE,nG⟩,cQ,hnd,b4⟩:=bo;refine U.norm [(4,cN mk),(5,.m (some 1)),(61,tn l.kd),(63,aC j),(62,aC l.rules.length)] ⟨b4.1,b4.2.1,b4.2.2.1,hi,hm,trivial⟩ fun F=>?_;have qC:=cB aB;have cF:=gx aB;have jN:=Zu aB;have bI:=HB (l:=l.kd) aB;have eD:(l.kd.getD [])[j]=l.rules[j]:=rfl;rw[eD] at bI;generalize l.rules[j]=r at qC cF bI jN;have jS:(r.dN.getD []).length=r.bF.length:=rfl;have bad:∀ {ai:ad},(fp r&&k4 mk r)=false→freeze ai 0 1000 (.b false)=some (.b (ep l)):=fun h=>no (by rw[an,kH.2 ⟨r,qC,by simp only[h];simp⟩];rfl);have H:Has ai []:=Has.nil;refine aa ?_;refine W.dg rfl rfl rfl rfl bI ?_;refine W.eV (R:=some 6) rfl rfl rfl rfl ?_;generalize aI:ai.next=q;refine W.kG (c:=ec r) H aI rfl rfl rfl rfl rfl rfl fun cL jO H cJ=>?_;have pv:=cJ _ _ cE;have c8h:q≠1:=by have:=ad.ei cE;omega
  refine aa ?_;refine W.ZI pv rfl rfl rfl rfl ?_;by_cases d0:r.name∈ba
  ·rw[decide_eq_true d0];refine aa ?_;exact U.ret ⟨rfl,_,aR (aS rfl),no (by rw[an,c8D jN nG d0,lU])⟩
  rw[decide_eq_false d0];refine aa ?_;refine W.cx hfn aY (h2 r qC) rfl rfl rfl (dx (c1 r qC _)) ?_;cases d1:fp r with
  |false=>
   refine aa ?_;exact U.ret ⟨rfl,_,aR (aS rfl),bad (by rw[d1];rfl)⟩
  |true=>
  refine aa ?_;refine W.cx hfn cZ (h3 r qC mk) rfl rfl rfl (gT (c1 r qC _) rfl) ?_;cases d2:k4 mk r with
  |false=>
   refine aa ?_;exact U.ret ⟨rfl,_,aR (aS rfl),bad (by rw[d1,d2];rfl)⟩
  |true=>
  refine aa ?_;refine W.wX pv rfl rfl rfl fun b8 ju kb bx=>?_;refine aa ?_;refine⟨rfl,rfl,⟨_,kb,fun x=>?_⟩,?_,c8E jN nG d0 hnd,rfl,rfl,rfl,trivial⟩
  ·rw[ZH,nG,cF,nb,e4];simp
  ·rw[cF,my,cQ];simp[d1,d2]
 ·obtain⟨⟨ba,cE,nG⟩,cQ,hnd,b4⟩:=bo;rw[fv (bK _)] at cQ hnd;have H:Has ai []:=Has.nil;refine U.norm [(4,cN mk)] ⟨b4.1,trivial⟩ fun F=>?_;refine aa ?_;exact U.ret ⟨rfl,_,aR (aS rfl),by rw[an,cQ,hnd];rfl⟩
end
theorem Tm.HN(t:Tm):1≤t.nd:=by rw[Tm.iZ];omega
theorem Fm.HN(t:Fm):1≤t.nd:=by rw[Fm.iZ];omega
def NN(r:b6):Bool:=r.bF.all fun p=>decide (p.hyps.length≤5)
def ox(r:b6):Bool:=decide (r.bF.length≤6)&&(NN r&&decide (Fm.nds r.fs≤600))
def rY(l:Lgc):Bool:=decide (l.rules.length≤70)&&l.rules.all ox
section
variable {b:cv}{K:Nat→List AV→AV→Prop}(hfn:∀g aO r cj,K g aO r→K g aO cj→r=cj)
include hfn
theorem c8G(t:Tm)(m:Nat)(hm:m≤600)(hs:∀u∈t.args,∀ai:ad,bW ai (b.aT+1000) (.ag (ou u))=some (.ag (ou u)))(cQ:t.args.length<2^62)(e:c5 b uO)(cX:∀u∈t.args,∀k,k≤600→K uO [.ag (ou u),aC k] (aC (min u.nd (k+1))))
  (body:bc) (hb:GF.body=some body):U (b.bj K) GF.ntmps body (c4 [.ag (ou t),aC m]) ⟨.nil,0⟩ (eO GF.results (aC (min t.nd (m+1)))):=by
 cases hb;refine W.args fun z=>?_;have H:Has (⟨.nil,0⟩:ad) []:=Has.nil;have xk:(t.cH.getD []).length=t.args.length:=rfl;have an:=t.iZ;refine aa ?_;refine W.dr (c:=ou t) H rfl rfl rfl rfl rfl rfl fun fj ek H cc=>?_;refine aa ?_;refine U.block (U.loop (fun k F ai=>∃j n,j+k=t.args.length∧ai.get 0=some (.cells (ou t))∧n=min (1+Tm.nds (t.args.take j)) (m+1)∧sat [(1,aC m),(2,.p (some (0,0))),(5,aC n),(6,aC j)] F) (fun k F ai bo=>?_) t.args.length ⟨0,1,by omega,H.get _ (.head _),by rw[oi,Tm.nds];omega,rfl,rfl,rfl,rfl,trivial⟩);obtain⟨j,n,aB,hg,hn,b4⟩:=bo;refine U.norm _ b4 fun F=>?_;clear b4 H;have H:Has ai [(0,ou t)]:=Has.nil.cons hg (by simp);have hle:=Tm.pq t.args j;refine aa ?_;refine W.len rfl rfl rfl kZ ?_;by_cases b2:j<t.args.length
 ·have hu:=cB b2;have cF:=Tm.rS b2;have bI:=C0 (l:=t.cH) b2;have eD:(t.cH.getD [])[j]=t.args[j]:=rfl;rw[eD] at bI;have CZ:=Tm.pq t.args (j+1);generalize t.args[j]=u at hu cF bI;have a0l:=u.HN;refine aa ?_;by_cases bY:n≤m
  ·refine aa ?_;refine W.dg rfl rfl rfl rfl bI ?_;refine W.eV (R:=some 3) rfl rfl rfl rfl ?_;refine aa ?_;refine W.cx hfn e (cX u hu (m-n) (by omega)) rfl rfl rfl (gT (hs u hu _) rfl) ?_;refine W.bin (a:=aC n) (b:=aC (min u.nd (m-n+1))) rfl rfl rfl rfl (mv (by omega)) ?_;refine aa ?_;exact⟨k-1,by omega,j+1,_,by omega,H.get _ (.head _),by rw[cF];omega,rfl,rfl,rfl,rfl,trivial⟩
  ·refine aa ?_;refine U.exit ?_;refine U.norm [(5,aC n)] ⟨rfl,trivial⟩ fun F=>?_;refine aa ?_;exact U.ret ⟨rfl,_,aR (aS rfl),by rw[show min t.nd (m+1)=n by omega];rfl⟩
 ·rw[fv (by omega)] at hn;refine aa ?_;refine U.exit ?_;refine U.norm [(5,aC n)] ⟨rfl,trivial⟩ fun F=>?_;refine aa ?_;exact U.ret ⟨rfl,_,aR (aS rfl),by rw[show min t.nd (m+1)=n by omega];rfl⟩
theorem c8H(f:Fm)(m:Nat)(hm:m≤600)(c1:∀u∈f.args,∀ai:ad,bW ai (b.aT+1000) (.ag (ou u))=some (.ag (ou u)))(hs:∀u∈f.sub,∀ai:ad,bW ai (b.aT+1000) (.ag (aV u))=some (.ag (aV u)))(cQ:f.args.length<2^62)(eB:f.sub.length<2^62)(eG:c5 b uO)(h0:∀u∈f.args,∀k,k≤600→K uO [.ag (ou u),aC k] (aC (min u.nd (k+1))))
  (e:c5 b rM) (cX:∀u∈f.sub,∀k,k≤600→K rM [.ag (aV u),aC k] (aC (min u.nd (k+1))))
  (body:bc) (hb:Gw.body=some body):U (b.bj K) Gw.ntmps body (c4 [.ag (aV f),aC m]) ⟨.nil,0⟩ (eO Gw.results (aC (min f.nd (m+1)))):=by
 cases hb;refine W.args fun z=>?_;have H:Has (⟨.nil,0⟩:ad) []:=Has.nil;have xk:(f.cH.getD []).length=f.args.length:=rfl;have es:(f.ea.getD []).length=f.sub.length:=rfl;have an:=f.iZ;refine aa ?_;refine W.dr (c:=aV f) H rfl rfl rfl rfl rfl rfl fun fj ek H cc=>?_;refine lv ?_;refine W.nil ?_;refine U.seq ?_;refine W.rg ?_;refine lv ?_;refine W.nil ?_;refine U.c6l (α:=Unit) (fun _=>[(1,aC m),(2,.p (some (0,0))),(5,aC (min (1+Fm.nds f.sub) (m+1)))]) (fun _ ai=>ai.get 0=some (.cells (aV f))) ?_ fun _ ai F hg=>?_
 ·refine aa ?_;refine U.block (U.loop (fun k F ai=>∃j n,j+k=f.sub.length∧ai.get 0=some (.cells (aV f))∧n=min (1+Fm.nds (f.sub.take j)) (m+1)∧sat [(1,aC m),(2,.p (some (0,0))),(5,aC n),(6,aC j)] F) (fun k F ai bo=>?_) f.sub.length ⟨0,1,by omega,H.get _ (.head _),by rw[oi,Fm.nds];omega,rfl,rfl,rfl,rfl,trivial⟩);obtain⟨j,n,aB,hg,hn,b4⟩:=bo;refine U.norm _ b4 fun F=>?_;clear b4 H;have H:Has ai [(0,aV f)]:=Has.nil.cons hg (by simp);have hle:=Fm.pq f.sub j;refine aa ?_;refine W.len rfl rfl rfl gD ?_;by_cases b2:j<f.sub.length
  ·have hu:=cB b2;have cF:=Fm.rS b2;have bI:=ov (l:=f.ea) b2;have eD:(f.ea.getD [])[j]=f.sub[j]:=rfl;rw[eD] at bI;have CZ:=Fm.pq f.sub (j+1);generalize f.sub[j]=u at hu cF bI;have a0l:=u.HN;refine aa ?_;by_cases bY:n≤m
   ·refine aa ?_;refine W.dg rfl rfl rfl rfl bI ?_;refine W.eV (R:=some 4) rfl rfl rfl rfl ?_;refine aa ?_;refine W.cx hfn e (cX u hu (m-n) (by omega)) rfl rfl rfl (gT (hs u hu _) rfl) ?_;refine W.bin (a:=aC n) (b:=aC (min u.nd (m-n+1))) rfl rfl rfl rfl (mv (by omega)) ?_;refine aa ?_;exact⟨k-1,by omega,j+1,_,by omega,H.get _ (.head _),by rw[cF];omega,rfl,rfl,rfl,rfl,trivial⟩
   ·refine aa ?_;refine U.exit ?_;exact⟨rfl,(),H.get _ (.head _),rfl,rfl,by show aC n=_;rw[show min (1+Fm.nds f.sub) (m+1)=n by omega],trivial⟩
  ·rw[fv (by omega)] at hn;refine aa ?_;refine U.exit ?_;exact⟨rfl,(),H.get _ (.head _),rfl,rfl,by show aC n=_;rw[hn],trivial⟩
 ·clear H;have H:Has ai [(0,aV f)]:=Has.nil.cons hg (by simp);refine aa ?_;refine U.block (U.loop (fun k F ai=>∃j n,j+k=f.args.length∧ai.get 0=some (.cells (aV f))∧n=min (1+Fm.nds f.sub+Tm.nds (f.args.take j)) (m+1)∧sat [(1,aC m),(2,.p (some (0,0))),(5,aC n),(7,aC j)] F) (fun k F ai bo=>?_) f.args.length ⟨0,_,by omega,hg,by rw[oi,Tm.nds];rfl,rfl,rfl,rfl,rfl,trivial⟩);obtain⟨j,n,aB,hg,hn,b4⟩:=bo;refine U.norm _ b4 fun F=>?_;clear b4 H;have H:Has ai [(0,aV f)]:=Has.nil.cons hg (by simp);have hle:=Tm.pq f.args j;refine aa ?_;refine W.len rfl rfl rfl kZ ?_;by_cases b2:j<f.args.length
  ·have hu:=cB b2;have cF:=Tm.rS b2;have bI:=C0 (l:=f.cH) b2;have eD:(f.cH.getD [])[j]=f.args[j]:=rfl;rw[eD] at bI;have CZ:=Tm.pq f.args (j+1);generalize f.args[j]=u at hu cF bI;have a0l:=u.HN;refine aa ?_;by_cases bY:n≤m
   ·refine aa ?_;refine W.dg rfl rfl rfl rfl bI ?_;refine W.eV (R:=some 3) rfl rfl rfl rfl ?_;refine aa ?_;refine W.cx hfn eG (h0 u hu (m-n) (by omega)) rfl rfl rfl (gT (c1 u hu _) rfl) ?_;refine W.bin (a:=aC n) (b:=aC (min u.nd (m-n+1))) rfl rfl rfl rfl (mv (by omega)) ?_;refine aa ?_;exact⟨k-1,by omega,j+1,_,by omega,H.get _ (.head _),by rw[cF];omega,rfl,rfl,rfl,rfl,trivial⟩
   ·refine aa ?_;refine U.exit ?_;refine U.norm [(5,aC n)] ⟨rfl,trivial⟩ fun F=>?_;refine aa ?_;exact U.ret ⟨rfl,_,aR (aS rfl),by rw[show min f.nd (m+1)=n by omega];rfl⟩
  ·rw[fv (by omega)] at hn;refine aa ?_;refine U.exit ?_;refine U.norm [(5,aC n)] ⟨rfl,trivial⟩ fun F=>?_;refine aa ?_;exact U.ret ⟨rfl,_,aR (aS rfl),by rw[show min f.nd (m+1)=n by omega];rfl⟩
theorem c8I(hh:dt (b.bj K) G9 Mv)(l:List Fm)(au:l.length<2^62)(hs:∀u∈l,∀ai:ad,bW ai (b.aT+1000) (.ag (aV u))=some (.ag (aV u)))(e:c5 b rM)(cX:∀u∈l,K rM [.ag (aV u),aC 600] (aC (min u.nd 601))){o:ad}{v:AV}(av:fA o (some 4) v (l.map fun f=>.ag (aV f))):
  cy (b.bj K) 0 (.f (.func G9) [] []) [v] o (fun r ai=>r= .ok (.b (decide (Fm.nds l≤600)))∧hY o ai):=by
 refine W.code hh.e hh.p hh.f rfl rfl rfl rfl fun z=>?_;have H:Has o []:=Has.nil;refine aa ?_;refine U.block (U.loop (fun k F ai=>∃j,j+k=l.length∧ai=o∧Fm.nds (l.take j)≤600∧sat [(0,v),(3,aC (Fm.nds (l.take j))),(4,aC j)] F) (fun k F ai bo=>?_) l.length ⟨0,by omega,rfl,by rw[oi,Fm.nds];omega,rfl,by rw[oi,Fm.nds];rfl,rfl,trivial⟩);obtain⟨j,aB,rfl,hle,b4⟩:=bo;refine U.norm _ b4 fun F=>?_;have CZ:=Fm.pq l (j+1);refine aa ?_;refine W.len rfl rfl rfl av.len ?_;rw[dO];by_cases b2:j<l.length
 ·have hu:=cB b2;have cF:=Fm.rS b2;obtain⟨I,c,r,a6,a2,a3,a4,a5⟩:=av.m5 (j:=j) (by rw[dO];exact b2);rw[ma] at a5;generalize l[j]=u at hu cF a5;refine aa ?_;refine W.dg rfl rfl rfl rfl a2 ?_;refine W.YU a3 rfl rfl rfl a5 ?_;refine aa ?_;refine W.cx hfn e (cX u hu) rfl rfl rfl (gT (hs u hu _) rfl) ?_;refine W.bin (a:=aC (Fm.nds (l.take j))) (b:=aC (min u.nd 601)) rfl rfl rfl rfl (mv (by omega)) ?_;refine aa ?_;by_cases bY:600<Fm.nds (l.take j)+min u.nd 601
  ·refine aa ?_;exact U.ret ⟨rfl,by rw[decide_eq_false (by omega)];rfl,bK _,fun _ _ h=>h⟩
  ·refine aa ?_;exact⟨k-1,by omega,j+1,by omega,rfl,by omega,rfl,by show aC (Fm.nds (l.take j)+min u.nd 601)=_;rw[show Fm.nds (l.take j)+min u.nd 601=Fm.nds (l.take (j+1)) by omega],rfl,trivial⟩
 ·rw[fv (by omega)] at hle;refine aa ?_;refine U.exit ?_;refine aa ?_;exact U.ret ⟨rfl,by rw[decide_eq_true hle];rfl,bK _,fun _ _ h=>h⟩
end
abbrev lZ(f:Fm):AV:=.ag (aV f)
theorem a0m{o:ad}{a:Option (List Fm)}:newOf o (dk true a)=some ((a.getD []).map lZ):=by
 cases a with
 |none=>rfl
 |some l=>cases l with
  |nil=>rfl
  |cons x l=>exact congrArg some (pF fun f _=>(oq f))
theorem c8J{o:ad}{R:Option Nat}{bytes:Nat}{v w:AV}{xs:List AV}(av:fA o R v xs)(hw:newOf o w=some [])(hb:(3*xs.length+2000)*bytes≤281474976710656):appendO 0 o R bytes v w=some (v,o):=by
 unfold appendO;rw[av.read,hw];have hall:(cV (conf R) xs&&cV (conf R) ([]:List AV)&&Nat.ble ((3*(xs.length+([]:List AV).length)+2000)*bytes) 281474976710656)=true:=by
  rw[bT,bT];exact⟨⟨m2 av.conf,rfl⟩,kg hb⟩
 show cond _ _ none=_;rw[hall,cond_true]
theorem c8K{r:b6}{j:Nat}(aB:j<r.bF.length):(r.bN::(r.bF.take (j+1)).flatMap eo.fs)=(r.bN::(r.bF.take j).flatMap eo.fs)++(r.bF[j].bN::r.bF[j].hyps):=by
 rw[gx aB,Yi,mb,List.flatMap_nil,jv];rfl
section
variable {b:cv}{K:Nat→List AV→AV→Prop}(hfn:∀g aO r cj,K g aO r→K g aO cj→r=cj)
include hfn
theorem c8L(hh:dt (b.bj K) G9 Mv)(r:b6)(js:r.bF.length<2^62)(lx:∀p∈r.bF,p.hyps.length<2^62)(hs:∀u∈r.fs,∀ai:ad,bW ai (b.aT+1000) (.ag (aV u))=some (.ag (aV u)))(e:c5 b rM)(cX:∀u∈r.fs,K rM [.ag (aV u),aC 600] (aC (min u.nd 601)))
  (aI:∀u∈r.fs,AV.eqb (b.aT+1000) (lZ u) (lZ u)=true) (c8M:∀p∈r.bF,AV.eqb (b.aT+1000) (dk true p.gF) (dk true p.gF)=true) (body:bc) (hb:Gl.body=some body):U (b.bj K) Gl.ntmps body (c4 [.ag (ec r)]) ⟨.nil,0⟩ (eO Gl.results (.b (ox r))):=by
 cases hb;refine W.args fun z=>?_;have H:Has (⟨.nil,0⟩:ad) []:=Has.nil;have jS:(r.dN.getD []).length=r.bF.length:=rfl;have no:∀ {ai:ad},ox r=false→freeze ai 0 1000 (.b false)=some (.b (ox r)):=fun h=>by rw[h];rfl
 refine aa ?_;refine W.dr (c:=ec r) H rfl rfl rfl rfl rfl rfl fun fj ek H cc=>?_;refine aa ?_;refine W.len rfl rfl rfl m6 ?_;by_cases bY:6<r.bF.length
 ·refine aa ?_;exact U.ret ⟨rfl,_,aR (aS rfl),no (by unfold ox;rw[decide_eq_false (by omega)];rfl)⟩
 refine aa ?_;refine W.h7 (c:=aV r.bN) H ek rfl rfl rfl fun c2 jO H cJ=>?_;have pX:fA c2 (some 4) (.al (0+1) 0 1 (some 4) (some 1)) ([r.bN].map lZ):=.al _ _ [lZ r.bN] [] (by rw[jv];exact H.get _ (.head _)) (fun y aJ=>by rw[e3.1 aJ];rfl) (.inr rfl);refine aa ?_;refine W.len rfl rfl rfl m6 ?_;refine aa ?_;refine U.each r.bF.length (fun j F ai=>∃v,fA ai (some 4) v ((r.bN::(r.bF.take j).flatMap eo.fs).map lZ)∧(r.bN::(r.bF.take j).flatMap eo.fs).length≤1+6*j∧(∀p∈r.bF.take j,p.hyps.length≤5)∧sat [(3,v),(14,nD r.dN)] F) js ⟨_,pX,by simp,by simp,rfl,rfl,trivial⟩ rfl rfl (fun j F ai aB bo hi hm=>?_) (fun F ai bo hi=>?_)
 ·obtain⟨v,av,a0n,cQ,c1⟩:=bo;refine U.norm [(3,v),(14,nD r.dN),(16,aC j),(15,aC r.bF.length)] ⟨c1.1,c1.2.1,hi,hm,trivial⟩ fun F=>?_;have hZ:=cB aB;have cF:=gx aB;have a0o:=c8K aB;have bI:=u7 (l:=r.dN) aB;have eD:(r.dN.getD [])[j]=r.bF[j]:=rfl;rw[eD] at bI;generalize r.bF[j]=p at hZ cF bI a0o;have EP:=lx p hZ;have xm:(p.gF.getD []).length=p.hyps.length:=rfl;have H:Has ai []:=Has.nil;refine aa ?_;refine W.dg rfl rfl rfl rfl bI ?_;refine W.eV (R:=some 7) rfl rfl rfl rfl ?_;generalize c8N:ai.next=q;refine W.kG (c:=gl p) H c8N rfl rfl rfl rfl rfl rfl fun c2 ek H cc=>?_;refine aa ?_;refine W.len rfl rfl rfl gD ?_;by_cases dL:5<p.hyps.length
  ·refine aa ?_;exact U.ret ⟨rfl,_,aR (aS rfl),no (by
    have:NN r=false:=kH.2 ⟨p,hZ,by rw[decide_eq_false (by omega)];simp⟩;unfold ox;rw[this];simp)⟩
  refine aa ?_;refine W.sZ H rfl rfl rfl (.head _) rfl (aI _ (b6.mD hZ)) ?_;refine aa ?_;refine W.h7 (c:=aV p.bN) H ek rfl rfl rfl fun cL jO H cJ=>?_;refine aa ?_;refine W.sZ H rfl rfl rfl (.tail _ (.head _)) rfl (c8M p hZ) ?_;refine aa ?_;have so:fA cL (some 4) v ((r.bN::(r.bF.take j).flatMap eo.fs).map lZ):=av.ee fun i I _ h=>cJ _ _ (cc _ _ h);have vV:=H.get _ (.head _);have g2:=H.get _ (.tail _ (.head _));refine W.ap (w:=.al (q+1) 0 1 (some 4) (some 1)) (lZ p.bN) [] so (by show(match cL.get (q+1) with|some (.cells c)=>elems (some 4) 1 (c.drop 0)|_=>none)=_;rw[vV];rfl) (fun z bw=>by rw[e3.1 bw];rfl) (by rw[dO];show(3*(_+1)+2000)*72≤_;omega) rfl rfl rfl rfl fun v3 b8 NO c8O e0i ju bx=>?_;have c8P:v.hU ≠some q:=fun h=>by have:=av.lt h;omega
  have H:Has b8 [(q,gl p)]:=Has.nil.cons (bx _ _ c8P g2) (by simp);refine aa ?_;have im:∀ {v:AV} {ai:ad},fA ai (some 4) v (((r.bN::(r.bF.take j).flatMap eo.fs)++p.bN::p.hyps).map lZ)→∃bJ,fA ai (some 4) bJ ((r.bN::(r.bF.take (j+1)).flatMap eo.fs).map lZ)∧(r.bN::(r.bF.take (j+1)).flatMap eo.fs).length≤1+6*(j+1)∧(∀p∈r.bF.take (j+1),p.hyps.length≤5)∧bJ=v:=fun h=>by
   rw[a0o];refine⟨_,h,by rw[k_];simp only[jD] at *;omega,fun u hu=>?_,rfl⟩;rw[cF] at hu;rcases e4.1 hu with hu|hu
   ·exact cQ u hu
   ·rw[e3.1 hu];omega
  cases hh:p.hyps with
  |nil=>
   have tQ:newOf b8 (dk true p.gF)=some []:=by rw[a0m];show some (List.map lZ p.hyps)=_;rw[hh];rfl
   refine W.val (v:=v3) (ah:=b8) rfl rfl ?_ ?_
   ·show(match appendO 0 b8 (some 4) 72 v3 (dk true p.gF) with|some (v,o)=>some (bG.val v o)|none=>none)=_;rw[c8J NO tQ (by rw[k_,dO];simp only[jD,uu] at *;omega)]
   ·refine aa ?_;obtain⟨bJ,a6,a2,a3,rfl⟩:=im (by rw[hh,nb];exact NO);exact⟨rfl,rfl,_,a6,a2,a3,rfl,rfl,trivial⟩
  |cons y aZ=>
   have tQ:newOf b8 (dk true p.gF)=some (lZ y::aZ.map lZ):=by rw[a0m];show some (List.map lZ p.hyps)=_;rw[hh];rfl
   have hlen:aZ.length+1=p.hyps.length:=by rw[hh];rfl
   refine W.ap (w:=dk true p.gF) (lZ y) (aZ.map lZ) NO tQ (fun z bw=>by
    have:z∈(y::aZ).map lZ:=bw;obtain⟨f,_,rfl⟩:=fq.1 this;rfl) (by rw[k_,dO];simp only[jD,dO,uu] at *;omega) rfl rfl rfl rfl fun v4 k5 a0p e0j e0k n7 fM=>?_
   have H:Has k5 [(q,gl p)]:=Has.nil.cons (fM _ _ (fun e=>by rw[c8O] at e;cases e;omega) (H.get _ (.head _))) (by simp);refine aa ?_;obtain⟨bJ,a6,a2,a3,rfl⟩:=im (v:=v4) (ai:=k5) (by rw[hh,nb];rw[kn] at a0p;exact a0p);exact⟨rfl,rfl,_,a6,a2,a3,rfl,rfl,trivial⟩
 ·obtain⟨v,av,a0n,cQ,c1⟩:=bo;refine U.norm [(3,v)] ⟨c1.1,trivial⟩ fun F=>?_;rw[fv (bK _)] at av a0n cQ;have H:Has ai []:=Has.nil;refine aa ?_;refine W.jR rfl rfl rfl (c8I hfn hh r.fs (by show(r.bN::r.bF.flatMap eo.fs).length<_;omega) hs e cX av) fun r1 cL ⟨dY,du⟩=>⟨_,dY,?_⟩
  refine aa ?_;exact U.ret ⟨rfl,_,aR (aS rfl),by
   have:NN r=true:=fI.2 fun p hp=>decide_eq_true (cQ p hp);unfold ox;rw[this,decide_eq_true (show r.bF.length≤6 by omega)];rfl⟩
theorem c8Q(l:Lgc)(tR:l.rules.length<2^62)(c1:∀r∈l.rules,∀ai:ad,bW ai (b.aT+1000) (.ag (ec r))=some (.ag (ec r)))(e:c5 b y8)(cX:∀r∈l.rules,K y8 [.ag (ec r)] (.b (ox r)))
  (body:bc) (hb:iX.body=some body):U (b.bj K) iX.ntmps body (c4 [.ag (lgC l)]) ⟨.nil,0⟩ (eO iX.results (.b (rY l))):=by
 cases hb;refine W.args fun z=>?_;have H:Has (⟨.nil,0⟩:ad) []:=Has.nil;have dY:(l.kd.getD []).length=l.rules.length:=rfl;have no:∀ {ai:ad},rY l=false→freeze ai 0 1000 (.b false)=some (.b (rY l)):=fun h=>by rw[h];rfl
 refine aa ?_;refine W.dr (c:=lgC l) H rfl rfl rfl rfl rfl rfl fun fj ek H cc=>?_;refine aa ?_;refine W.len rfl rfl rfl xl ?_;by_cases bY:70<l.rules.length
 ·refine aa ?_;exact U.ret ⟨rfl,_,aR (aS rfl),no (by unfold rY;rw[decide_eq_false (by omega)];rfl)⟩
 refine aa ?_;refine W.len rfl rfl rfl xl ?_;refine aa ?_;refine U.each l.rules.length (fun j F ai=>(l.rules.take j).all ox=true∧sat [(10,tn l.kd)] F) tR ⟨by simp,rfl,trivial⟩ rfl rfl (fun j F ai aB bo hi hm=>?_) (fun F ai bo hi=>?_)
 ·obtain⟨cQ,b4⟩:=bo;refine U.norm [(10,tn l.kd),(12,aC j),(11,aC l.rules.length)] ⟨b4.1,hi,hm,trivial⟩ fun F=>?_;have qC:=cB aB;have cF:=gx aB;have bI:=HB (l:=l.kd) aB;have eD:(l.kd.getD [])[j]=l.rules[j]:=rfl;rw[eD] at bI;generalize l.rules[j]=r at qC cF bI;have H:Has ai []:=Has.nil;refine aa ?_;refine W.dg rfl rfl rfl rfl bI ?_;refine W.eV (R:=some 6) rfl rfl rfl rfl ?_;generalize aI:ai.next=q;refine W.kG (c:=ec r) H aI rfl rfl rfl rfl rfl rfl fun cL jO H cJ=>?_;refine aa ?_;refine W.cx hfn e (cX r qC) rfl rfl rfl (dx (c1 r qC _)) ?_;cases d1:ox r with
  |false=>
   refine aa ?_;exact U.ret ⟨rfl,_,aR (aS rfl),no (by unfold rY;rw[kH.2 ⟨r,qC,by rw[d1];simp⟩,lU])⟩
  |true=>
  refine aa ?_;exact⟨rfl,rfl,by rw[cF,my,cQ];simp[d1],rfl,trivial⟩
 ·obtain⟨cQ,b4⟩:=bo;refine U.norm [(10,tn l.kd)] ⟨b4.1,trivial⟩ fun F=>?_;rw[fv (bK _)] at cQ;have H:Has ai []:=Has.nil;refine aa ?_;exact U.ret ⟨rfl,_,aR (aS rfl),by unfold rY;rw[cQ,decide_eq_true (show l.rules.length≤70 by omega)];rfl⟩
end
end
section
variable [Tok][TokOk]
open Go.RowKit Go.Lyc.T
structure fw where
 name:List Nat
 kinds:Nat
 frame:Nat
 dN:Option (List Fm)
 bN:Fm
def fw.bF(p:fw):List Fm:=p.dN.getD []
def fw.fs(p:fw):List Fm:=p.bF++[p.bN]
abbrev c8R(I:Bool)(f:Fm):List AV:=[.i .u8 (Int.ofNat f.op),.s f.name,cR I f.cH,dk I f.ea]
theorem c8S(I:Bool)(f:Fm):f.A I= .ag (c8R I f):=by unfold Fm.A;rw[Fm.fF]
abbrev hl(I:Bool)(p:fw):List AV:=[.s p.name,b5 p.kinds,b5 p.frame,dk I p.dN,.i .u8 (Int.ofNat p.bN.op),.s p.bN.name,cR I p.bN.cH,dk I p.bN.ea]
abbrev pz(I:Bool)(l:List fw):AV:=.aD I (some 8) (l.map fun p=>.ag (hl I p))
def pats:List fw:=[
 ⟨[99,111,110,115,101,113,117,101,110,116],62,0,(some [(.mk 6 [] none (some [(.mk 15 [63,65] none none),(.mk 15 [63,66] none none)])),(.mk 15 [63,66] none none)]),(.mk 15 [63,65] none none)⟩,
 ⟨[97,110,116,101,99,101,100,101,110,116],62,0,(some [(.mk 6 [] none (some [(.mk 15 [63,65] none none),(.mk 15 [63,66] none none)])),(.mk 3 [] none (some [(.mk 15 [63,65] none none)]))]),(.mk 3 [] none (some [(.mk 15 [63,66] none none)]))⟩,
 ⟨[99,111,110,118,101,114,115,101],62,0,(some [(.mk 6 [] none (some [(.mk 15 [63,65] none none),(.mk 15 [63,66] none none)]))]),(.mk 6 [] none (some [(.mk 15 [63,66] none none),(.mk 15 [63,65] none none)]))⟩,
 ⟨[105,110,118,101,114,115,101],62,0,(some [(.mk 6 [] none (some [(.mk 15 [63,65] none none),(.mk 15 [63,66] none none)]))]),(.mk 6 [] none (some [(.mk 3 [] none (some [(.mk 15 [63,65] none none)])),(.mk 3 [] none (some [(.mk 15 [63,66] none none)]))]))⟩,
 ⟨[100,105,115,106,117,110,99,116],62,0,(some [(.mk 5 [] none (some [(.mk 15 [63,65] none none),(.mk 15 [63,66] none none)]))]),(.mk 15 [63,65] none none)⟩,
 ⟨[111,116,104,101,114],62,0,(some [(.mk 5 [] none (some [(.mk 15 [63,65] none none),(.mk 15 [63,66] none none)]))]),(.mk 15 [63,66] none none)⟩,
 ⟨[101,120,99,108,117,115,105,118,101],62,0,(some [(.mk 5 [] none (some [(.mk 15 [63,65] none none),(.mk 15 [63,66] none none)])),(.mk 15 [63,65] none none)]),(.mk 3 [] none (some [(.mk 15 [63,66] none none)]))⟩,
 ⟨[99,111,110,106,117,110,99,116],62,0,(some [(.mk 15 [63,65] none none)]),(.mk 4 [] none (some [(.mk 15 [63,65] none none),(.mk 15 [63,66] none none)]))⟩,
 ⟨[109,111,114,103,97,110],62,0,(some [(.mk 3 [] none (some [(.mk 4 [] none (some [(.mk 15 [63,65] none none),(.mk 15 [63,66] none none)]))]))]),(.mk 4 [] none (some [(.mk 3 [] none (some [(.mk 15 [63,65] none none)])),(.mk 3 [] none (some [(.mk 15 [63,66] none none)]))]))⟩,
 ⟨[101,113,117,105,118,97,108,101,110,116],62,0,(some [(.mk 6 [] none (some [(.mk 15 [63,65] none none),(.mk 15 [63,66] none none)]))]),(.mk 7 [] none (some [(.mk 15 [63,65] none none),(.mk 15 [63,66] none none)]))⟩,
 ⟨[99,111,110,116,114,97],8,0,(some [(.mk 6 [] none (some [(.mk 3 [] none (some [(.mk 15 [63,66] none none)])),(.mk 3 [] none (some [(.mk 15 [63,65] none none)]))]))]),(.mk 6 [] none (some [(.mk 15 [63,65] none none),(.mk 15 [63,66] none none)]))⟩,
 ⟨[99,104,111,105,99,101],8,0,(some [(.mk 3 [] none (some [(.mk 4 [] none (some [(.mk 15 [63,65] none none),(.mk 15 [63,66] none none)]))]))]),(.mk 5 [] none (some [(.mk 3 [] none (some [(.mk 15 [63,65] none none)])),(.mk 3 [] none (some [(.mk 15 [63,66] none none)]))]))⟩,
 ⟨[100,111,117,98,108,101],8,0,(some [(.mk 3 [] none (some [(.mk 3 [] none (some [(.mk 15 [63,65] none none)]))]))]),(.mk 15 [63,65] none none)⟩,
 ⟨[101,120,99,108,117,100,101,100],8,0,none,(.mk 5 [] none (some [(.mk 15 [63,65] none none),(.mk 3 [] none (some [(.mk 15 [63,65] none none)]))]))⟩,
 ⟨[112,101,105,114,99,101],8,0,(some [(.mk 6 [] none (some [(.mk 6 [] none (some [(.mk 15 [63,65] none none),(.mk 15 [63,66] none none)])),(.mk 15 [63,65] none none)]))]),(.mk 15 [63,65] none none)⟩,
 ⟨[103,101,110,101,114,97,108],4,0,(some [(.mk 9 [120] none (some [(.mk 15 [63,65] none none)]))]),(.mk 8 [120] none (some [(.mk 15 [63,65] none none)]))⟩,
 ⟨[105,110,115,116,97,110,99,101],4,0,(some [(.mk 16 [63,65] (some [(.mk true [120] none),(.mk true [63,116] none)]) none)]),(.mk 8 [120] none (some [(.mk 15 [63,65] none none)]))⟩,
 ⟨[115,119,97,112],4,0,(some [(.mk 8 [120] none (some [(.mk 9 [121] none (some [(.mk 15 [63,65] none none)]))]))]),(.mk 9 [121] none (some [(.mk 8 [120] none (some [(.mk 15 [63,65] none none)]))]))⟩,
 ⟨[119,105,116,110,101,115,115],4,0,(some [(.mk 9 [120] none (some [(.mk 15 [63,65] none none)])),(.mk 9 [120] none (some [(.mk 15 [63,66] none none)]))]),(.mk 9 [120] none (some [(.mk 4 [] none (some [(.mk 15 [63,65] none none),(.mk 15 [63,66] none none)]))]))⟩,
 ⟨[115,112,108,105,116],4,0,(some [(.mk 8 [120] none (some [(.mk 5 [] none (some [(.mk 15 [63,65] none none),(.mk 15 [63,66] none none)]))]))]),(.mk 5 [] none (some [(.mk 8 [120] none (some [(.mk 15 [63,65] none none)])),(.mk 8 [120] none (some [(.mk 15 [63,66] none none)]))]))⟩,
 ⟨[105,109,112,111,114,116],4,0,(some [(.mk 8 [120] none (some [(.mk 6 [] none (some [(.mk 15 [63,65] none none),(.mk 15 [63,66] none none)]))]))]),(.mk 9 [120] none (some [(.mk 4 [] none (some [(.mk 15 [63,65] none none),(.mk 15 [63,66] none none)]))]))⟩,
 ⟨[110,101,99,101,115,115,105,116,121],16,0,(some [(.mk 15 [63,65] none none)]),(.mk 10 [] none (some [(.mk 15 [63,65] none none)]))⟩,
 ⟨[112,111,115,115,105,98,108,101],16,0,(some [(.mk 11 [] none (some [(.mk 15 [63,65] none none)]))]),(.mk 10 [] none (some [(.mk 15 [63,65] none none)]))⟩,
 ⟨[97,99,116,117,97,108],16,1,(some [(.mk 10 [] none (some [(.mk 15 [63,65] none none)]))]),(.mk 15 [63,65] none none)⟩,
 ⟨[97,103,97,105,110],16,2,(some [(.mk 10 [] none (some [(.mk 15 [63,65] none none)]))]),(.mk 10 [] none (some [(.mk 10 [] none (some [(.mk 15 [63,65] none none)]))]))⟩,
 ⟨[109,105,114,114,111,114],16,6,(some [(.mk 11 [] none (some [(.mk 15 [63,65] none none)]))]),(.mk 10 [] none (some [(.mk 11 [] none (some [(.mk 15 [63,65] none none)]))]))⟩,
 ⟨[101,105,116,104,101,114],16,0,(some [(.mk 10 [] none (some [(.mk 5 [] none (some [(.mk 15 [63,65] none none),(.mk 15 [63,66] none none)]))]))]),(.mk 5 [] none (some [(.mk 10 [] none (some [(.mk 15 [63,65] none none)])),(.mk 10 [] none (some [(.mk 15 [63,66] none none)]))]))⟩,
 ⟨[116,111,103,101,116,104,101,114],16,0,(some [(.mk 11 [] none (some [(.mk 15 [63,65] none none)])),(.mk 11 [] none (some [(.mk 15 [63,66] none none)]))]),(.mk 11 [] none (some [(.mk 4 [] none (some [(.mk 15 [63,65] none none),(.mk 15 [63,66] none none)]))]))⟩,
 ⟨[102,111,114,101,118,101,114],32,0,(some [(.mk 15 [63,65] none none)]),(.mk 13 [] none (some [(.mk 15 [63,65] none none)]))⟩,
 ⟨[115,111,111,110],32,0,(some [(.mk 12 [] none (some [(.mk 15 [63,65] none none)]))]),(.mk 13 [] none (some [(.mk 15 [63,65] none none)]))⟩,
 ⟨[98,101,103,117,110],32,0,(some [(.mk 14 [] none (some [(.mk 15 [63,65] none none),(.mk 15 [63,66] none none)]))]),(.mk 15 [63,65] none none)⟩]
def oy(l:List Fm)(m:Nat):Nat:=l.foldl (fun m f=>m ||| gU f) m
def NP(p:fw):Nat:=oy p.fs 0
def rZ(p:fw):Nat:=oy p.bF (gU p.bN)
theorem HO:∀(l:List Fm) (m:Nat),m<2^32→oy l m<2^32
 |[],_,h=>h
 |f::l,m,h=>HO l (m ||| gU f) (u1 h (pr f))
theorem a0q{l:List Fm}{j:Nat}{m:Nat}(h:j<l.length):oy (l.take (j+1)) m=oy (l.take j) m ||| gU l[j]:=by
 unfold oy;rw[gx h,MK];rfl
def zI(a c:Nat):Nat:=(BitVec.ofNat 8 a &&& ~~~ BitVec.ofNat 8 c).toNat
def oz(p:fw)(l:Lgc):Bool:=decide (p.kinds/2^l.kind &&& 1=1)&&(decide (hC (hC (NP p) 98304) l.ops=0)&&(decide (p.frame=0)|| !decide (zI p.frame l.frame=0)))
def qD(p:fw)(l:Lgc)(i:Nat):Bool:=decide (rZ p/2^i%2=1)&&decide (l.ops/2^i%2=0)
def mE(p:fw)(l:Lgc):Bool:=!((List.range' 1 14).any (qD p l))&&(!(decide (p.frame≠0)&&decide (l.frame &&& p.frame=p.frame))&&decide (p.kinds/2^l.kind%2=1))
theorem c8T:pats.all (fun p=>decide (NP p=rZ p)&&(decide (rZ p<2^17)&&(decide (rZ p%2=0)&&decide (p.frame<8))))=true:=by decide+kernel
theorem c8U:∀a c:Fin 8,(zI a.val c.val=0)↔c.val &&& a.val=a.val:=by decide+kernel
theorem c8V{a c:Nat}(Hr:a<2^17)(h0:a%2=0):hC (hC a 98304) c=0↔∀i,1≤i→i<15→a/2^i%2=1→c/2^i%2=1:=by
 rw[C2];have a0r:∀i,i<17→Nat.testBit 98304 i=(decide (i=15)||decide (i=16)):=by decide
 have kV:∀i,17≤i→a.testBit i=false:=fun i hi=>MM (sA Hr (MN (by omega) hi));constructor
 ·intro h i h1 h2 ha;rw[xo] at ha ⊢;refine h i (by omega) ?_;rw[HE,ha,a0r i (by omega),decide_eq_true (by omega:i<32),decide_eq_false (by omega:¬i=15),decide_eq_false (by omega:¬i=16)];rfl
 ·intro h i hi ha;rw[HE,bT,bT] at ha;obtain⟨_,ha,hn⟩:=ha;have c8W:i<17:=Nat.lt_of_not_le fun hh=>by rw[kV i hh] at ha;cases ha
  rw[a0r i c8W] at hn;have e0l:i≠15:=fun e=>by subst e;simp at hn
  have jy:i≠16:=fun e=>by subst e;simp at hn
  have bw:i≠0:=fun e=>by
   subst e;have:=(xo a 0).2 ha;rw[Nat.pow_zero,Nat.div_one] at this;omega
  exact(xo c i).1 (h i (by omega) (by omega) ((xo a i).2 ha))
theorem c8X{l:Lgc}(h:ep l=true):l.frame≤7:=by
 unfold ep at h;simp only[bT] at h;exact of_decide_eq_true h.2.2.2.2.2.1
theorem c8Y{p:fw}(hp:p∈pats){l:Lgc}(au:ep l=true):oz p l=mE p l:=by
 have h:=fI.1 c8T p hp;simp only[bT,decide_eq_true_iff] at h;obtain⟨h1,h2,h3,aN⟩:=h;have bH:=c8X au;have hf:=c8U ⟨p.frame,aN⟩ ⟨l.frame,by omega⟩;simp only at hf;have ax:(p.kinds/2^l.kind &&& 1=1)↔p.kinds/2^l.kind%2=1:=by rw[Nat.and_one_is_mod]
 have aj:hC (hC (NP p) 98304) l.ops=0↔(List.range' 1 14).any (qD p l)=false:=by
  rw[h1,c8V h2 h3,To];constructor
  ·intro h i hi;have hi:=Nv.1 hi;unfold qD;rw[bT,decide_eq_true_iff,decide_eq_true_iff];rintro⟨a,c⟩;have:=h i (by omega) (by omega) a;omega
  ·intro h i Nq xW ha;have:=h i (Nv.2 (by omega));unfold qD at this;rw[bT,decide_eq_true_iff,decide_eq_true_iff] at this;have h2:¬l.ops/2^i%2=0:=fun e=>this ⟨ha,e⟩;omega
 unfold oz mE;rw[hD];simp only[bT,kO,se,decide_eq_true_iff,decide_eq_false_iff_not,U2];rw[ax,aj,hf];constructor
 ·rintro⟨a,b,c⟩;refine⟨b,?_,a⟩;rcases c with c|c
  ·exact .inl fun h=>h c
  ·exact .inr c
 ·rintro⟨b,c,a⟩;refine⟨a,b,?_⟩;rcases c with c|c
  ·exact .inl (FQ fun h=>c h)
  ·exact .inr c
def ptN(l:Lgc)(ps:List fw):List (List Nat):=(ps.filter fun p=>oz p l).map fw.name
def pA(l:Lgc)(ps:List fw):List (List Nat):=(ps.filter fun p=>mE p l).map fw.name
theorem c8Z{l:Lgc}(au:ep l=true):ptN l pats=pA l pats:=by
 unfold ptN pA;rw[List.filter_congr fun p hp=>c8Y hp au]
def c9a(env:Env)(m:Nat)(s s2:ad)(w:kj):Prop:=∀q∈w.1.iL,(q=m∧∃v ai,opx 0 (evalA env w.2.1) s w.1.op=some (.val v ai)∧AV.eqb env.aT v w.2.2=true)∨(q=m+1∧∃v ai,opx 0 (evalA env w.2.1) s2 w.1.op=some (.val v ai)∧AV.eqb env.aT v w.2.2=true)
def m_(env:Env)(aH:Option Nat)(D:List (Nat ⊕ (AV×List AV)))(n m k:Nat)(ops:List aQ)(f:Nat→AV)(o:ad)(Q:(Nat→AV)→ad→Prop):Prop:=
 ∀ae,hc D n f ae→∃e2 bQ bC ah,hc D n bC bQ∧Q bC ah∧k≤m∧∀F,e2≤F→∃jx wn s s2,jx.length=ops.length∧(∀bh ws,runDraw env 0 (callV env (exec env F) 0) ops ae bh ws o=some (bQ,jx++bh,wn++ws,ah))∧
  nth (ah::jx).reverse (m-k)=some s∧nth (ah::jx).reverse (m+1-k)=some s2∧yU o s∧yU o s2∧∀w∈wn,c9a env m s s2 w
section
variable {env:Env}{aH:Option Nat}{D:List (Nat ⊕ (AV×List AV))}{n m k:Nat}{f:Nat→AV}{o:ad}{gs:List Nat}
theorem U.c9b{ops:List aQ}{Q:fo}(m:Nat)(hs:swapT ops=true)(h:m_ env aH D n m 0 ops f o (fun bC ah=>Q .normal bC ah)):ck env aH D n (.draw ops) f o Q:=fun ae bl=>by
 obtain⟨e2,bQ,bC,ah,h2,h3,_,h1⟩:=h ae bl;refine⟨e2+1,[(.normal,bQ,ah)],by simp,fun F eT=>?_,fun I aj=>?_⟩
 ·obtain⟨k,rfl⟩:∃k,F=k+1:=⟨F-1,by omega⟩
  obtain⟨jx,wn,s,s2,_,a2,a3,c9c,_,_,a5⟩:=h1 k (by omega);have a2:=a2 [] [];rw[jv,jv] at a2;refine Xc a2 ?_ (L_ hs);have:wn.all (steady env 0 (ah::jx).reverse)=true:=by
   rw[fI];intro w mr;unfold steady;refine m2 fun q aI=>?_;rcases a5 w mr q aI with⟨rfl,v,ai,dQ,fE⟩|⟨rfl,v,ai,dQ,fE⟩
   ·rw[show nth (ah::jx).reverse q=some s from a3];show(match pM w.1.op 0 (evalA env w.2.1) s with|some (.val v _)=>AV.eqb env.aT v w.2.2|_=>false)=true;rw[uc,dQ];exact fE
   ·rw[show nth (ah::jx).reverse (m+1)=some s2 from c9c];show(match pM w.1.op 0 (evalA env w.2.1) s2 with|some (.val v _)=>AV.eqb env.aT v w.2.2|_=>false)=true;rw[uc,dQ];exact fE
  exact this
 ·rw[e3.1 aj];exact⟨bC,h2,h3⟩
theorem m_.fin{ops:List aQ}{Q:(Nat→AV)→ad→Prop}(au:Nat.ble 1 ops.length=true)(hg:sX env gs)(o4:cV (wY gs) (ops.take 1)=true)(kX:cV (wY gs) (ops.drop 1)=true)
  (h:dJ env aH D n (ops.take 1) f o (fun x bC ah=>x= .normal∧yU o ah∧dJ env aH D n (ops.drop 1) bC ah (fun x bC ah=>x= .normal∧Q bC ah))):m_ env aH D n m m ops f o Q:=fun ae bl=>by
 have au:=eY au;obtain⟨e2,outs,h1,h2,h3⟩:=h ae bl;have hn:∀I∈outs,I.1= .normal:=fun I aj=>by obtain⟨bC,_,h,_⟩:=h3 I aj;exact h
 obtain⟨en,c9d,bk,e,_,_,_⟩:=wZ hg o4 (h2 e2 (bK _)) hn h1;obtain⟨f1,dA,_,dQ,fE⟩:=h3 _ (by rw[e];exact e3.2 rfl);obtain⟨nA,c9e,d1,d2,d3⟩:=fE en dA;have h6:∀I∈c9e,I.1= .normal:=fun I aj=>by obtain⟨bC,_,h,_⟩:=d3 I aj;exact h
 obtain⟨bQ,jx,ah,eQ,_,_,_⟩:=wZ hg kX (d2 nA (bK _)) h6 d1;obtain⟨bC,g1,_,g2⟩:=d3 _ (by rw[eQ];exact e3.2 rfl);refine⟨max e2 nA,bQ,bC,ah,g1,g2,bK _,fun F eT=>?_⟩;obtain⟨Mk,tt,b7,aY,dL,⟨t,jh⟩,iX⟩:=wZ hg o4 (h2 F (by omega)) hn h1;rw[e] at aY;cases aY;obtain⟨c3a,nJ,fJ,cZ,FP,⟨xZ,c9f⟩,HM⟩:=wZ hg kX (d2 F (by omega)) h6 d1;rw[eQ] at cZ;cases cZ;have hlen:tt.length=1:=by rw[dL,l9];omega
 obtain⟨y,rfl⟩:∃y,tt=[y]:=List.length_eq_one_iff.1 hlen;have aJ:y=o:=by
  have:(bk::[y]).reverse=[y,bk]:=rfl;rw[this] at jh;exact(List.cons.inj jh).1
 subst aJ;have aE:(ah::(nJ++[y])).reverse=[y]++(ah::nJ).reverse:=by rw[←n2,B3];rfl
 refine⟨nJ++[y],[],y,bk,?_,fun bh ws=>?_,?_,?_,fun _ _ h=>h,dQ,fun _ h=>absurd h (by simp)⟩
 ·rw[k_,FP,AN,ZM];omega
 ·rw[←B0 1 ops,Cf,iX];show runDraw env 0 (callV env (exec env F) 0) (ops.drop 1) en ([y]++bh) ws bk=_;rw[HM,kn];rfl
 ·rw[Ei,aE];rfl
 ·rw[show m+1-m=1 by omega,aE,c9f];rfl
theorem m_.NQ{ops:List aQ}{Q:(Nat→AV)→ad→Prop}(j:Nat)(aB:Nat.ble j ops.length=true)(hg:sX env gs)(hs:cV (wY gs) (ops.take j)=true)
  (h:dJ env aH D n (ops.take j) f o (fun x bC ah=>x= .normal∧yU o ah∧m_ env aH D n m (k+j) (ops.drop j) bC ah Q)):m_ env aH D n m k ops f o Q:=fun ae bl=>by
 have aB:=eY aB;obtain⟨e2,outs,h1,h2,h3⟩:=h ae bl;have hn:∀I∈outs,I.1= .normal:=fun I aj=>by obtain⟨bC,_,h,_⟩:=h3 I aj;exact h
 obtain⟨en,c9d,bk,e,_,_,_⟩:=wZ hg hs (h2 e2 (bK _)) hn h1;obtain⟨f1,dA,_,dQ,fE⟩:=h3 _ (by rw[e];exact e3.2 rfl);obtain⟨nA,bQ,bC,ah,d1,d2,d3,d4⟩:=fE en dA;refine⟨max e2 nA,bQ,bC,ah,d1,d2,by omega,fun F eT=>?_⟩;obtain⟨Mk,tt,b7,aY,dL,_,iX⟩:=wZ hg hs (h2 F (by omega)) hn h1;rw[e] at aY;cases aY;obtain⟨nJ,wn,s,s2,g1,g2,g3,NR,g4,Da,g5⟩:=d4 F (by omega);have aE:(ah::(nJ++tt)).reverse=tt.reverse++(ah::nJ).reverse:=by rw[←n2,B3]
 refine⟨nJ++tt,wn,s,s2,?_,fun bh ws=>?_,?_,?_,fun i I aj=>g4 i I (dQ i I aj),fun i I aj=>Da i I (dQ i I aj),g5⟩
 ·rw[k_,g1,dL,← k_,k_,AN,l9];omega
 ·rw[←B0 j ops,Cf,iX];show runDraw env 0 (callV env (exec env F) 0) (ops.drop j) en (tt++bh) ws bk=_;rw[g2,kn]
 ·have cZ:m-k=tt.reverse.length+(m-(k+j)):=by
   rw[ZN,dL,l9];omega
  rw[aE,cZ,Cm];exact g3
 ·have cZ:m+1-k=tt.reverse.length+(m+1-(k+j)):=by
   rw[ZN,dL,l9];omega
  rw[aE,cZ,Cm];exact NR
theorem m_.sZ{d:Nat}{op:AOp}{g:Option (Nat×Bool)}{wn:List Nat}{ops:List aQ}{v:AV}{Q:(Nat→AV)→ad→Prop}(mr:cV (fun q=>Nat.beq q m||Nat.beq q (m+1)) wn=true)(an:Nat.blt d n=true)(hw:gk g n f=true)(aj:∀ai,yU o ai→opx 0 (dV env n f) ai op=some (.val v ai))(av:AV.eqb env.aT v v=true)
  (h:m_ env aH D n m (k+1) ops (c7 f d v) o Q):m_ env aH D n m k (⟨some d,op,g,wn⟩::ops) f o Q:=fun ae bl=>by
 obtain⟨nA,bQ,bC,ah,d1,d2,d3,d4⟩:=h _ (bl.put v an);refine⟨nA,bQ,bC,ah,d1,d2,by omega,fun F eT=>?_⟩;obtain⟨nJ,a0s,s,s2,g1,g2,g3,NR,g4,Da,g5⟩:=d4 F eT;have eG:∀bh ws,runDraw env 0 (callV env (exec env F) 0) (⟨some d,op,g,wn⟩::ops) ae bh ws o=runDraw env 0 (callV env (exec env F) 0) ops (ae.put (some d) v) (o::bh) (match wn with|[]=>ws|_::_=>(⟨some d,op,g,wn⟩,ae.aW,v)::ws) o:=fun bh ws=>by
  rw[rI];show cond (wantedA g ae.aW) _ _=_;rw[bl.wanted,hw,cond_true,bl.aw,aj o fun _ _ h=>h];cases wn<;>rfl
 have aE:(ah::(nJ++[o])).reverse=[o]++(ah::nJ).reverse:=by rw[←n2,B3];rfl
 have aY:nth (ah::(nJ++[o])).reverse (m-k)=some s:=by
  have cZ:m-k=[o].length+(m-(k+1)):=by
   show m-k=1+(m-(k+1));omega
  rw[aE,cZ,Cm];exact g3
 have a0t:nth (ah::(nJ++[o])).reverse (m+1-k)=some s2:=by
  have cZ:m+1-k=[o].length+(m+1-(k+1)):=by
   show m+1-k=1+(m+1-(k+1));omega
  rw[aE,cZ,Cm];exact NR
 cases wn with
 |nil=>exact⟨nJ++[o],a0s,s,s2,by simp[g1],fun bh ws=>by rw[eG,g2,kn];rfl,aY,a0t,g4,Da,g5⟩
 |cons a l=>
  refine⟨nJ++[o],a0s++[(⟨some d,op,g,a::l⟩,ae.aW,v)],s,s2,by simp[g1],fun bh ws=>?_,aY,a0t,g4,Da,fun w hw=>?_⟩
  ·rw[eG];show runDraw env 0 (callV env (exec env F) 0) ops (ae.put (some d) v) (o::bh) ((⟨some d,op,g,a::l⟩,ae.aW,v)::ws) o=_;rw[g2,kn,kn];rfl
  ·rcases e4.1 hw with hw|hw
   ·exact g5 w hw
   ·rw[e3.1 hw];intro q aI;have yL:=sU mr q aI;have aw:∀s,yU o s→opx 0 (evalA env ae.aW) s op=some (.val v s):=fun s hs=>by rw[bl.aw];exact aj s hs
    rcases kO _ _ |>.mp yL with h1|h1
    ·exact .inl ⟨eM h1,v,s,aw s g4,av⟩
    ·exact .inr ⟨eM h1,v,s2,aw s2 Da,av⟩
end
end
section
variable [Tok][TokOk]
open Go.RowKit Go.Lyc.T
attribute [local irreducible] cU ck dJ fP cy
section
variable {b:cv}{K:Nat→List AV→AV→Prop}
theorem c9g(hh:dt (b.bj K) zi GA)(a:Option (List Fm))(hlen:(a.getD []).length<2^20)(ha:a≠some []){o:ad}:
  cy (b.bj K) 0 (.f (.func zi) [] []) [dk true a] o (fun r ai=>∃w,r= .ok w∧fA ai (some 4) w ((a.getD []).map fun q=>.ag (aV q))∧(∀I,w.hU =some I→o.next≤I)∧hY o ai):=by
 refine W.code hh.e hh.p hh.f rfl rfl rfl rfl fun z=>?_;have H:Has o []:=Has.nil;cases a with
 |none=>
  refine aa ?_;exact U.ret ⟨rfl,.J,rfl,.nil,(fun I h=>by cases h),⟨bK _,fun _ _ h=>h⟩⟩
 |some l=>
  cases l with
  |nil=>exact absurd rfl ha
  |cons x l=>
  have em:∀q:Fm,q.A true= .ag (aV q):=fun q=>c8S true q;rw[show dk true (some (x::l))= .aD true (some 4) (.ag (aV x)::l.map fun q=>.ag (aV q)) from by
   show AV.aD true (some 4) ((x::l).map (Fm.A true))=_;rw[k9,em,pF fun q _=>em q]]
  refine aa ?_;generalize ax:o.next=k;refine W.h7 (c:=[]) H ax rfl rfl rfl fun c2 ek H cc=>?_;refine aa ?_;have c1:fA c2 (some 4) (.al k 0 0 (some 4) (some 0)) []:=.al k (some 0) [] [] (H.get _ (.head _)) (fun y aJ=>by simp at aJ) (.inr rfl);have hF:(x::l).length<2^20:=hlen;rw[jD] at hF;refine W.ap (.ag (aV x)) (l.map fun q=>.ag (aV q)) c1 (w:=.aD true (some 4) (.ag (aV x)::l.map fun q=>.ag (aV q))) rfl (fun y aJ=>by
   rcases dP.1 aJ with rfl|aJ
   ·rfl
   ·obtain⟨q,_,rfl⟩:=fq.1 aJ;rfl) (by rw[jD,dO,uu];omega) rfl rfl rfl rfl fun bJ b8 av ha _ ju bx=>?_
  refine aa ?_;refine U.ret ⟨rfl,bJ,rfl,av,fun I aj=>by rw[ha] at aj;cases aj;omega,by omega,fun i I aj=>bx _ _ (fun e=>?_) (cc _ _ aj)⟩;have:=xG e;have:=ad.ei aj;omega
theorem aA.c9h{env:Env}{aH:Option Nat}{D:List (Nat ⊕ (AV×List AV))}{n:Nat}{f:Nat→AV}{o:ad}{Q:fo}{d:Nat}{R:Option Nat}{bytes:Nat}{s x:az}{g:Option (Nat×Bool)}{wn:List Nat}{ops:List aQ}{a b:AV}{xs aZ:List AV}{y:AV}(hA:fA o R a xs)(hx:newOf o b=some (y::aZ))(ab:∀z∈y::aZ,conf R z=true)(hb:(3*(xs.length+(y::aZ).length)+2000)*bytes≤281474976710656)
  (an:Nat.blt d n=true) (hw:gk g n f=true) (h1:dV env n f s=some a) (h2:dV env n f x=some b)
  (h:∀v ah,fA ah R v (xs++y::aZ)→v.hU =some o.next→ah.next=o.next+1→(∀i I,a.hU ≠some i→o.get i=some I→ah.get i=some I)→dJ env aH D n ops (c7 f d v) ah Q):dJ env aH D n (⟨some d,.append R bytes s x,g,wn⟩::ops) f o Q:=by
 obtain⟨bJ,ah,a6,a2,a3,_,a4,a5⟩:=hA.append hx ab hb;exact aA.val an hw (Xl h1 h2 a6) (h bJ ah a2 a3 a4 a5)
theorem c9i(hh:dt (b.bj K) Hd Mw)(ab:dt (b.bj K) zi GA)(p:fw)(hlen:(p.dN.getD []).length<2^20)(ha:p.dN≠some [])
  (fg:AV.eqb (b.aT+1000) (dk true p.dN) (dk true p.dN)=true) (kD:AV.eqb (b.aT+1000) (.ag (aV p.bN)) (.ag (aV p.bN))=true) {o:ad}:
  cy (b.bj K) 0 (.f (.func Hd) [] []) [.ag (hl true p)] o (fun r ai=>∃w,r= .ok w∧fA ai (some 4) w (p.fs.map fun q=>.ag (aV q))∧hY o ai):=by
 refine W.code hh.e hh.p hh.f rfl rfl rfl rfl fun z=>?_;have H:Has o []:=Has.nil;have HP:sX (b.bj K) [zi]:=.cons (fun F args o=>call_one ab.e ab.p ab.f rfl rfl F [] [] args o) .nil;refine aa ?_;generalize ax:o.next=k;refine W.dr (k:=k) (c:=hl true p) H ax rfl rfl rfl rfl rfl fun c2 ek H cc=>?_;refine lv ?_;refine W.nil ?_;have hb:=H.get _ (.head _);refine U.seq (U.c9b 5 rfl ?_);refine m_.NQ 1 rfl HP rfl ?_;refine aA.go rfl rfl rfl rfl ?_;refine aA.nil ⟨rfl,fun _ _ h=>h,?_⟩;refine m_.sZ (v:=dk true p.dN) rfl rfl rfl (fun ai ax=>qp _ _ rfl (sT (ax _ _ hb) rfl)) fg ?_;refine m_.NQ 1 rfl HP rfl ?_;refine aA.go rfl rfl rfl rfl ?_;refine aA.nil ⟨rfl,fun _ _ h=>h,?_⟩;refine m_.sZ (v:=.ag (aV p.bN)) rfl rfl rfl (fun ai ax=>qp _ _ rfl (sT (ax _ _ hb) rfl)) kD ?_;generalize hw:c2.next=w;refine m_.NQ 1 rfl HP rfl ?_;refine aA.c4X (c:=aV p.bN) w hw rfl rfl rfl fun bk bO g1 gM=>?_;refine aA.nil ⟨rfl,gM,?_⟩;refine m_.fin rfl HP rfl rfl ?_;refine aA.j_ rfl rfl rfl (c9g ab p.dN hlen ha) fun r b7 ⟨e0m,aY,c9j,me,M2⟩=>⟨_,aY,?_⟩
 refine aA.nil ⟨rfl,M2.2,?_⟩;have c9k:=M2.2 _ _ g1;have tQ:newOf b7 (.al w 0 1 (some 4) (some 1))=some [.ag (aV p.bN)]:=by
  show(match b7.get w with|some (.cells c)=>elems (some 4) 1 (c.drop 0)|_=>none)=_;rw[c9k];have:=Ch (R:=some 4) (xs:=[.ag (aV p.bN)]) (r:=[]) (by intro w hw;rw[e3.1 hw];rfl);rw[show([AV.ag (aV p.bN)]:List AV).flatMap AV.cells++[]=aV p.bN by simp;rfl] at this;exact this
 refine aA.c9h (y:=.ag (aV p.bN)) (aZ:=[]) c9j tQ (fun z bw=>by rw[e3.1 bw];rfl) (by rw[dO,ZM];omega) rfl rfl rfl rfl fun v fJ av e0n ju bx=>?_;refine aA.go rfl rfl rfl rfl ?_;refine aA.nil ⟨rfl,?_⟩;refine U.ret ⟨rfl,v,rfl,?_,?_,fun i I aj=>bx _ _ (fun e=>?_) (M2.2 _ _ (gM _ _ (cc _ _ aj)))⟩
 ·have:p.fs.map (fun q=>AV.ag (aV q))=(p.dN.getD []).map (fun q=>AV.ag (aV q))++[.ag (aV p.bN)]:=by
   show(p.dN.getD []++[p.bN]).map _=_;rw[nb];rfl
  rw[this];exact av
 ·have:=M2.1;omega
 ·have h1:=me _ e;have:=ad.ei aj;omega
end
theorem a0u{a:Nat}(h:a<256):IntKind.wrap .u8 (a:Int)=(a:Int):=by
 have:∀a:Fin 256,IntKind.wrap .u8 (a.val:Int)=(a.val:Int):=by decide+kernel
 exact this ⟨a,h⟩
theorem ofInt8(a:Nat)(h:a<256):(BitVec.ofInt IntKind.u8.bits (Int.ofNat a)).toNat=a:=by
 have:∀a:Fin 256,(BitVec.ofInt IntKind.u8.bits (Int.ofNat a.val)).toNat=a.val:=by decide+kernel
 exact this ⟨a,h⟩
theorem a0v{a c:Nat}(ab:c≤8):binop .shr (b5 a) (b5 c)=some (b5 (a/2^c)):=by
 show(if Int.ofNat c<0 then none else some (AV.i .u8 ((Int.ofNat a).fdiv (2^(min (Int.ofNat c).toNat IntKind.u8.bits)))))=_;rw[if_neg (by simp),show min (Int.ofNat c).toNat IntKind.u8.bits=c by show min c 8=c;omega]
 congr 2
 show(a:Int).fdiv (2^c)=((a/2^c:Nat):Int);rw[show((2:Int)^c)=((2^c:Nat):Int) by simp];rw[Yl _ (vC _)];rw[Int.natCast_ediv]
theorem a0w{a c:Nat}(ha:a<256)(ab:c<256):binop .and (b5 a) (b5 c)=some (b5 (a &&& c)):=by
 have h:(BitVec.ofInt IntKind.u8.bits (Int.ofNat a) &&& BitVec.ofInt IntKind.u8.bits (Int.ofNat c)).toNat=a &&& c:=by
  rw[BitVec.toNat_and,ofInt8 a ha,ofInt8 c ab]
 show some (AV.i .u8 (IntKind.wrap .u8 ((BitVec.ofInt IntKind.u8.bits (Int.ofNat a) &&& BitVec.ofInt IntKind.u8.bits (Int.ofNat c)).toNat:Int)))=_;rw[h,a0u (vD Nat.and_le_left ha)];rfl
theorem c9l{a c:Nat}(ab:0<c):binop .rem (b5 a) (b5 c)=some (b5 (a%c)):=by
 show(if Int.ofNat c=0 then none else some (AV.i .u8 ((Int.ofNat a).tmod (Int.ofNat c))))=_;rw[if_neg (by simp;omega)];rfl
theorem c9m{a c:Nat}:binop .andNot (b5 a) (b5 c)=some (b5 (zI a c)):=by
 show some (AV.i .u8 (IntKind.wrap .u8 ((zI a c:Nat):Int)))=_;rw[a0u (BitVec.isLt _)];rfl
section
variable {b:cv}{K:Nat→List AV→AV→Prop}(hfn:∀g aO r cj,K g aO r→K g aO cj→r=cj)
include hfn
theorem c9n(p:fw)(l:Lgc)(ax:p.kinds<256)(lY:l.kind≤8)(bl:p.frame<256)(a0x:l.frame<256)(eF:p.fs.length<2^62)
  (HQ:∀u∈p.fs,∀ai:ad,bW ai (b.aT+1000) (.ag (aV u))=some (.ag (aV u)))
  (h0:dt (b.bj K) Hd Mw) (hc0:dt (b.bj K) zi GA) (hlen:(p.dN.getD []).length<2^20) (ha:p.dN≠some []) (fg:AV.eqb (b.aT+1000) (dk true p.dN) (dk true p.dN)=true) (kD:AV.eqb (b.aT+1000) (.ag (aV p.bN)) (.ag (aV p.bN))=true) (aE:c5 b uK) (h1:∀u∈p.fs,K uK [.ag (aV u)] (cN (gU u)))
  (body:bc) (hb:Gm.body=some body):U (b.bj K) Gm.ntmps body (c4 [.ag (hl true p),.ag (lgC l)]) ⟨.nil,0⟩ (eO Gm.results (.b (oz p l))):=by
 cases hb;refine W.args fun z=>?_;have H:Has (⟨.nil,0⟩:ad) []:=Has.nil;refine aa ?_;refine W.dr (k:=0) (c:=hl true p) H rfl rfl rfl rfl rfl rfl fun c2 ek H cc=>?_;refine W.dr (k:=1) (c:=lgC l) H ek rfl rfl rfl rfl rfl fun cL jO H cJ=>?_;refine aa ?_;refine W.jR rfl rfl rfl (c9i h0 hc0 p hlen ha fg kD) fun r b8 ⟨iV,dY,oc,nI⟩=>⟨_,dY,?_⟩
 have H:=H.ee nI.2;have eB:lenA b8 1 iV=some p.fs.length:=by have:=oc.len (ai:=b8);rwa[dO] at this
 refine aa ?_;refine W.len rfl rfl rfl eB ?_;refine aa ?_;have g0:=H.get _ (.tail _ (.head _));have g1:=H.get _ (.head _);refine U.each p.fs.length (fun j F ai=>ai.get 0=some (.cells (hl true p))∧ai.get 1=some (.cells (lgC l))∧fA ai (some 4) iV (p.fs.map fun q=>.ag (aV q))∧sat [(2,.p (some (0,0))),(3,.p (some (1,0))),(5,cN (oy (p.fs.take j) 0)),(9,iV)] F) eF ⟨g0,g1,oc,rfl,rfl,rfl,rfl,trivial⟩ rfl rfl (fun j F ai aB bo hi hm=>?_) (fun F ai bo hi=>?_)
 ·obtain⟨g0,g1,oc,c1⟩:=bo;refine U.norm [(2,.p (some (0,0))),(3,.p (some (1,0))),(5,cN (oy (p.fs.take j) 0)),(9,iV),(11,aC j),(10,aC p.fs.length)] ⟨c1.1,c1.2.1,c1.2.2.1,c1.2.2.2.1,hi,hm,trivial⟩ fun F=>?_;have hu:=cB aB;have cF:=a0q (m:=0) aB;have bu:=HO (p.fs.take j) 0 (by decide);obtain⟨Cp,c1r,e0o,p4,bI,c9o,_,m3⟩:=oc.m5 (j:=j) (by rw[dO];exact aB);rw[ma] at m3;generalize p.fs[j]=u at hu cF m3;have H:Has ai [(1,lgC l),(0,hl true p)]:=(Has.nil.cons g0 (by simp)).cons g1 (by simp);refine aa ?_;refine W.dg rfl rfl rfl rfl bI ?_;refine W.val (v:=.ag (aV u)) rfl rfl (qp _ _ rfl (sT c9o m3)) ?_;generalize aI:ai.next=q;refine W.kG (c:=aV u) H aI rfl rfl rfl rfl rfl rfl fun b8 ju H bx=>?_;refine aa ?_;refine W.cx hfn aE (h1 u hu) rfl rfl rfl (dx (HQ u hu _)) ?_;refine aa ?_;refine W.bin rfl rfl rfl rfl (u2 bu (pr u)) ?_;refine aa ?_;exact⟨rfl,rfl,H.get _ (.tail _ (.tail _ (.head _))),H.get _ (.tail _ (.head _)),oc.ee (fun i I _ h=>bx _ _ h),rfl,rfl,by show cN _=_;rw[cF],rfl,trivial⟩
 ·obtain⟨g0,g1,oc,c1⟩:=bo;refine U.norm [(2,.p (some (0,0))),(3,.p (some (1,0))),(5,cN (oy (p.fs.take p.fs.length) 0))] ⟨c1.1,c1.2.1,c1.2.2.1,trivial⟩ fun F=>?_;have H:Has ai [(1,lgC l),(0,hl true p)]:=(Has.nil.cons g0 (by simp)).cons g1 (by simp);rw[fv (bK _)];have done:∀ {v:Bool},v=oz p l→freeze ai 0 1000 (.b v)=some (.b (oz p l)):=fun h=>by rw[h];rfl
  have an:oz p l=(decide (p.kinds/2^l.kind &&& 1=1)&&(decide (hC (hC (oy p.fs 0) 98304) l.ops=0)&&(decide (p.frame=0)|| !decide (zI p.frame l.frame=0)))):=rfl;refine aa ?_;refine W.bin (b:=cN 98304) rfl rfl rfl rfl zz ?_;refine aa ?_;refine W.bin rfl rfl rfl rfl (a0v lY) ?_;refine aa ?_;refine W.bin (b:=b5 1) rfl rfl rfl rfl (a0w (vD (D_ _ _) ax) (by decide)) ?_;by_cases bY:p.kinds/2^l.kind &&& 1=1
  rotate_left
  ·refine aa ?_;exact U.ret ⟨rfl,_,aR (aS rfl),done (by rw[an,decide_eq_false bY];rfl)⟩
  refine aa ?_;refine W.bin rfl rfl rfl rfl zz ?_;by_cases dL:hC (hC (oy p.fs 0) 98304) l.ops=0
  rotate_left
  ·refine aa ?_;exact U.ret ⟨rfl,_,aR (aS rfl),done (by rw[an,decide_eq_false dL];simp)⟩
  refine aa ?_;by_cases jh:p.frame=0
  ·refine aa ?_;exact U.ret ⟨rfl,_,aR (aS rfl),done (by rw[an,decide_eq_true bY,decide_eq_true dL,decide_eq_true jh];rfl)⟩
  refine aa ?_;refine W.bin rfl rfl rfl rfl c9m ?_;by_cases iX:zI p.frame l.frame=0
  ·refine aa ?_;exact U.ret ⟨rfl,_,aR (aS rfl),done (by rw[an,decide_eq_false jh,decide_eq_true iX];simp)⟩
  ·refine aa ?_;exact U.ret ⟨rfl,_,aR (aS rfl),done (by rw[an,decide_eq_true bY,decide_eq_true dL,decide_eq_false iX];simp)⟩
end
theorem fA.a0y{o:ad}{R:Option Nat}{v:AV}{xs:List AV}{n:Nat}(h:fA o R v xs)(h0:xs=[]→v= .J)(hf:∀x∈xs,Go.Lyc.freeze o 0 n x=some x):Go.Lyc.freeze o 0 (n+1) v=some (slA false R xs):=by
 have af:=h.read;have hm:=F2 hf;cases h with
 |nil=>rfl
 |al I cap xs rest h ab ax=>
  rw[freeze_succ];simp only[af,hm];cases xs with
  |nil=>have:=h0 rfl;cases this
  |cons x l=>rfl
theorem c9p{l:Lgc}{ps:List fw}{j:Nat}(aB:j<ps.length):ptN l (ps.take (j+1))=ptN l (ps.take j)++(if oz ps[j] l=true then[ps[j].name] else[]):=by
 unfold ptN;rw[gx aB,ZO,nb];by_cases h:oz ps[j] l=true
 ·rw[if_pos h];simp[h]
 ·rw[if_neg h];simp[h]
theorem c9q{l:Lgc}{ps:List fw}{j:Nat}(aB:j<ps.length):pA l (ps.take (j+1))=pA l (ps.take j)++(if mE ps[j] l=true then[ps[j].name] else[]):=by
 unfold pA;rw[gx aB,ZO,nb];by_cases h:mE ps[j] l=true
 ·rw[if_pos h];simp[h]
 ·rw[if_neg h];simp[h]
theorem a0z(l:Lgc)(ps:List fw):(ptN l ps).length≤ps.length:=by unfold ptN;rw[dO];exact ZP _ _
theorem c9r(l:Lgc)(ps:List fw):(pA l ps).length≤ps.length:=by unfold pA;rw[dO];exact ZP _ _
theorem a0A{I:Bool}{ps:List fw}{j:Nat}(h:j<ps.length):idxSlA (some 8) (pz I ps) j=some (.cG I (.ag (hl I ps[j]))):=wT (l:=some ps) (g:=fun p=>.ag (hl I p)) h
section
variable {b:cv}{K:Nat→List AV→AV→Prop}(hfn:∀g aO r cj,K g aO r→K g aO cj→r=cj)
include hfn
theorem c9s(p:fw)(l:Lgc)(ax:p.kinds<256)(lY:l.kind≤8)(bl:p.frame<256)(a0x:l.frame<256)(eF:p.bF.length<2^62)
  (HQ:∀u∈p.fs,∀ai:ad,bW ai (b.aT+1000) (.ag (aV u))=some (.ag (aV u))) (aE:c5 b rO) (h1:∀u∈p.fs,K rO [.ag (aV u)] (cN (gU u)))
  (body:bc) (hb:y3.body=some body):U (b.bj K) y3.ntmps body (c4 [.ag (hl true p),.ag (lgC l)]) ⟨.nil,0⟩ (eO y3.results (.b (mE p l))):=by
 cases hb;refine W.args fun z=>?_;have H:Has (⟨.nil,0⟩:ad) []:=Has.nil;have jS:(p.dN.getD []).length=p.bF.length:=rfl;have bM:p.bN∈p.fs:=e4.2 (.inr (by simp));have done:∀ {ai:ad} {v:Bool},v=mE p l→freeze ai 0 1000 (.b v)=some (.b (mE p l)):=fun h=>by rw[h];rfl
 refine aa ?_;refine W.dr (k:=0) (c:=hl true p) H rfl rfl rfl rfl rfl rfl fun c2 ek H cc=>?_;refine W.dr (k:=1) (c:=lgC l) H ek rfl rfl rfl rfl rfl fun fj jO H cJ=>?_;refine aa ?_;refine W.cx hfn aE (h1 _ bM) rfl rfl rfl (dx (HQ _ bM _)) ?_;refine lv ?_;refine W.nil ?_;refine U.cut [(2,.p (some (0,0))),(3,.p (some (1,0))),(5,cN (rZ p))] ?_ fun F=>?_
 ·refine aa ?_;have jj:=H;refine U.block (U.loop (fun k F ai=>∃j,j+k=p.bF.length∧ai=fj∧sat [(2,.p (some (0,0))),(3,.p (some (1,0))),(5,cN (oy (p.bF.take j) (gU p.bN))),(6,aC j)] F) (fun k F ai bo=>?_) p.bF.length ⟨0,by omega,rfl,rfl,rfl,rfl,rfl,trivial⟩);obtain⟨j,aB,rfl,b4⟩:=bo;refine U.norm _ b4 fun F=>?_;clear b4;have H:=jj;refine aa ?_;refine W.len rfl rfl rfl gD ?_;by_cases b2:j<p.bF.length
  ·have hu:=cB b2;have cF:=a0q (m:=gU p.bN) b2;have bu:=HO (p.bF.take j) _ (pr p.bN);have bI:=ov (l:=p.dN) b2;have eD:(p.dN.getD [])[j]=p.bF[j]:=rfl;rw[eD] at bI;generalize p.bF[j]=u at hu cF bI;have mu:u∈p.fs:=e4.2 (.inl hu);refine aa ?_;refine W.dg rfl rfl rfl rfl bI ?_;refine W.eV (R:=some 4) rfl rfl rfl rfl ?_;refine W.cx hfn aE (h1 u mu) rfl rfl rfl (dx (HQ u mu _)) ?_;refine W.bin rfl rfl rfl rfl (u2 bu (pr u)) ?_;refine aa ?_;exact⟨k-1,by omega,j+1,by omega,rfl,rfl,rfl,by show cN _=_;rw[cF],rfl,trivial⟩
  ·refine aa ?_;refine U.exit ?_;exact⟨rfl,rfl,rfl,rfl,by show cN _=_;rw[fv (by omega)];rfl,trivial⟩
 have an:mE p l=(!((List.range' 1 14).any (qD p l))&&(!(decide (p.frame≠0)&&decide (l.frame &&& p.frame=p.frame))&&decide (p.kinds/2^l.kind%2=1))):=rfl;have af:oy p.bF (gU p.bN)=rZ p:=rfl;have bu:rZ p<2^32:=HO _ _ (pr _);have jj:=H;refine U.od [(2,.p (some (0,0))),(3,.p (some (1,0)))] (E:=eO y3.results (.b (mE p l))) (M:=(List.range' 1 14).any (qD p l)=false) ?_ (fun x bC ah h=>⟨by rw[h.1];simp,h⟩) fun du F=>?_
 ·refine aa ?_;refine U.block (U.loop (fun k F ai=>∃j,j+k=14∧ai=fj∧(List.range' 1 j).any (qD p l)=false∧sat [(2,.p (some (0,0))),(3,.p (some (1,0))),(5,cN (rZ p)),(7,aC (1+j))] F) (fun k F ai bo=>?_) 14 ⟨0,by omega,rfl,rfl,rfl,rfl,rfl,rfl,trivial⟩);obtain⟨j,aB,rfl,gb,b4⟩:=bo;refine U.norm _ b4 fun F=>?_;clear b4;have H:=jj;by_cases b2:1+j<15
  ·refine aa ?_;refine W.bin rfl rfl rfl rfl (HD (c:=1+j) (by omega)) ?_;refine W.bin rfl rfl rfl rfl (C1 (c:=2) (by omega)) ?_;have bad:qD p l (1+j)=true→mE p l=false:=fun h=>by rw[an,tX.2 ⟨1+j,Nv.2 (by omega),h⟩];rfl
   have im:qD p l (1+j)=false→(List.range' 1 (j+1)).any (qD p l)=false:=fun h=>by
    rw[List.range'_1_concat,rQ,gb];simp[h]
   have aj:qD p l (1+j)=(decide (rZ p/2^(1+j)%2=1)&&decide (l.ops/2^(1+j)%2=0)):=rfl;by_cases bY:rZ p/2^(1+j)%2=1
   rotate_left
   ·refine aa ?_;exact⟨k-1,by omega,j+1,by omega,rfl,im (by rw[aj,decide_eq_false bY];rfl),rfl,rfl,rfl,rfl,trivial⟩
   refine aa ?_;refine W.bin rfl rfl rfl rfl (HD (c:=1+j) (by omega)) ?_;refine W.bin rfl rfl rfl rfl (C1 (c:=2) (by omega)) ?_;by_cases dL:l.ops/2^(1+j)%2=0
   ·refine aa ?_;exact U.ret (.inr ⟨rfl,_,aR (aS rfl),done (bad (by rw[aj,decide_eq_true bY,decide_eq_true dL];rfl)).symm⟩)
   ·refine aa ?_;exact⟨k-1,by omega,j+1,by omega,rfl,im (by rw[aj,decide_eq_false dL,lU]),rfl,rfl,rfl,rfl,trivial⟩
  ·have:j=14:=by omega
   subst this;refine aa ?_;refine U.exit ?_;exact .inl ⟨rfl,rfl,⟨rfl,rfl,trivial⟩,gb⟩
 rw[du,yI,gS] at an;have H:=jj;refine U.od [(2,.p (some (0,0))),(3,.p (some (1,0)))] (E:=eO y3.results (.b (mE p l))) (M:=(decide (p.frame≠0)&&decide (l.frame &&& p.frame=p.frame))=false) ?_ (fun x bC ah h=>⟨by rw[h.1];simp,h⟩) fun du F=>?_
 ·refine aa ?_;by_cases bY:p.frame=0
  ·refine aa ?_;exact .inl ⟨rfl,rfl,⟨rfl,rfl,trivial⟩,by rw[decide_eq_false (p:=p.frame≠0) (fun h=>h bY)];rfl⟩
  refine aa ?_;refine W.bin rfl rfl rfl rfl (a0w a0x bl) ?_;by_cases dL:l.frame &&& p.frame=p.frame
  ·refine aa ?_;exact U.ret (.inr ⟨rfl,_,aR (aS rfl),done (by rw[an,decide_eq_true dL,decide_eq_true (p:=p.frame≠0) bY];rfl)⟩)
  ·refine aa ?_;exact .inl ⟨rfl,rfl,⟨rfl,rfl,trivial⟩,by rw[decide_eq_false dL,lU]⟩
 rw[du,yI,gS] at an;refine aa ?_;refine W.bin rfl rfl rfl rfl (a0v lY) ?_;refine aa ?_;refine W.bin rfl rfl rfl rfl (c9l (c:=2) (by omega)) ?_;by_cases bY:p.kinds/2^l.kind%2=1
 ·refine aa ?_;exact U.ret ⟨rfl,_,aR (aS rfl),done (by rw[an,decide_eq_true bY])⟩
 ·refine aa ?_;exact U.ret ⟨rfl,_,aR (aS rfl),done (by rw[an,decide_eq_false bY])⟩
theorem c9t(l:Lgc)(ps:List fw)(au:ps.length<2^20)(eB:∀ai:ad,bW ai (b.aT+1000) (.ag (lgC l))=some (.ag (lgC l)))(dS:∀p∈ps,∀ai:ad,bW ai (b.aT+1000) (.ag (hl false p))=some (.ag (hl true p)))
  (eG:c5 b y9) (h0:K y9 [.ag (lgC l)] (.b (ep l))) (aE:c5 b xc) (h1:K xc [] (pz false ps)) (aY:c5 b zk) (h2:ep l=true→∀p∈ps,K zk [.ag (hl true p),.ag (lgC l)] (.b (oz p l)))
  (body:bc) (hb:Gi.body=some body):U (b.bj K) Gi.ntmps body (c4 [.ag (lgC l)]) ⟨.nil,0⟩ (eO Gi.results (cond (ep l) (.aK [slA false none ((ptN l ps).map AV.s),aC 0]) (.aK [.J,aC 2]))):=by
 cases hb;refine W.args fun z=>?_;have H:Has (⟨.nil,0⟩:ad) []:=Has.nil;refine aa ?_;refine W.dr (k:=0) (c:=lgC l) H rfl rfl rfl rfl rfl rfl fun c2 ek H cc=>?_;refine aa ?_;refine W.cx hfn eG h0 rfl rfl rfl (dx (eB _)) ?_;cases gp:ep l with
 |false=>
  refine aa ?_;exact U.ret ⟨rfl,_,Hx (aS rfl) (aS rfl),rfl⟩
 |true=>
 refine aa ?_;refine W.cx hfn aE h1 rfl rfl rfl rfl ?_;refine aa ?_;refine U.each ps.length (fun j F ai=>∃w,fA ai none w ((ptN l (ps.take j)).map AV.s)∧(ptN l (ps.take j)=[]→w= .J)∧(∀I,w.hU =some I→1≤I)∧ai.get 0=some (.cells (lgC l))∧sat [(1,.p (some (0,0))),(4,w),(10,pz false ps)] F) (by omega) ⟨_,.nil,fun _=>rfl,(fun _ h=>by cases h),H.get _ (.head _),rfl,rfl,rfl,trivial⟩ rfl (by rw[←dO (f:=fun p=>AV.ag (hl false p))];rfl) (fun j F ai aB bo hi hm=>?_) (fun F ai bo hi=>?_)
 ·obtain⟨w,hw,mr,zJ,g0,b4⟩:=bo;refine U.norm [(1,.p (some (0,0))),(4,w),(10,pz false ps),(12,aC j),(11,aC ps.length)] ⟨b4.1,b4.2.1,b4.2.2.1,hi,hm,trivial⟩ fun F=>?_;have hu:=cB aB;have df:=c9p (l:=l) aB;have bI:=a0A (I:=false) aB;have NS:=a0z l (ps.take j);rw[l9] at NS;generalize ps[j]=p at hu df bI;have H:Has ai [(0,lgC l)]:=Has.nil.cons g0 (by simp);refine aa ?_;refine W.dg rfl rfl rfl rfl bI ?_;refine W.eV (R:=some 8) rfl rfl rfl rfl ?_;generalize aI:ai.next=q;refine W.kG (c:=hl false p) H aI rfl rfl rfl rfl rfl rfl fun b8 ju H bx=>?_;refine aa ?_;refine W.cx hfn aY (h2 gp p hu) rfl rfl rfl (gT (dS p hu _) (eB _)) ?_;have yK:0<q:=by have:=ad.ei g0;omega
  cases bY:oz p l with
  |true=>
   rw[if_pos bY] at df;refine aa ?_;refine W.h7 (c:=[.s p.name]) H ju rfl rfl rfl fun rX wD H m9=>?_;have NT:=hw.ee (ai:=rX) fun i I _ aj=>m9 _ _ (bx _ _ aj);refine W.ap (.s p.name) [] NT (by show(match rX.get (q+1) with|some (.cells c)=>elems none 1 (c.drop 0)|_=>none)=_;rw[H.get _ (.head _)];rfl) (fun z bw=>by rw[e3.1 bw];rfl) (by rw[dO];show(3*(_+1)+2000)*16≤_;omega) rfl rfl rfl rfl fun bJ c9u NU NV _ Li NW=>?_;refine aa ?_;refine⟨rfl,rfl,bJ,?_,fun h=>?_,(fun I aj=>by rw[NV] at aj;cases aj;omega),NW _ _ (fun e=>by have:=zJ _ e;omega) (m9 _ _ (bx _ _ g0)),rfl,rfl,rfl,trivial⟩
   ·rw[df,nb];exact NU
   ·rw[df] at h;have:=congrArg List.length h;simp at this
  |false=>
   rw[if_neg (by rw[bY];simp),jv] at df;refine aa ?_;refine⟨rfl,rfl,w,?_,fun h=>mr (by rw[←df];exact h),zJ,bx _ _ g0,rfl,rfl,rfl,trivial⟩;rw[df];exact hw.ee fun i I _ aj=>bx _ _ aj
 ·obtain⟨w,hw,mr,zJ,g0,b4⟩:=bo;rw[fv (bK _)] at hw mr;refine U.norm [(4,w)] ⟨b4.2.1,trivial⟩ fun F=>?_;have H:Has ai []:=Has.nil;refine aa ?_;refine U.ret ⟨rfl,_,Hx (aS rfl) (aS rfl),?_⟩;have h1:freeze ai 0 999 w=some (slA false none ((ptN l ps).map AV.s)):=hw.a0y (n:=998) (fun h=>mr (CH.1 h)) fun x hx=>by
   obtain⟨y,_,rfl⟩:=fq.1 hx;rfl
  rw[freeze_succ];show(match mapO (freeze ai 0 999) [w,aC 0] with|none=>none|some l=>some (AV.aK l))=_;rw[mapO_cons,mapO_cons,h1];rfl
theorem c9v(l:Lgc)(ps:List fw)(au:ps.length<2^20)(eB:∀ai:ad,bW ai (b.aT+1000) (.ag (lgC l))=some (.ag (lgC l)))(dS:∀p∈ps,∀ai:ad,bW ai (b.aT+1000) (.ag (hl false p))=some (.ag (hl true p)))
  (eG:c5 b zn) (h0:K zn [.ag (lgC l)] (.b (ep l))) (aE:c5 b xd) (h1:K xd [] (pz false ps)) (aY:c5 b zm) (h2:ep l=true→∀p∈ps,K zm [.ag (hl true p),.ag (lgC l)] (.b (mE p l)))
  (body:bc) (hb:Gj.body=some body):U (b.bj K) Gj.ntmps body (c4 [.ag (lgC l)]) ⟨.nil,0⟩ (eO Gj.results (cond (ep l) (.aK [slA false none ((pA l ps).map AV.s),aC 0]) (.aK [.J,aC 2]))):=by
 cases hb;refine W.args fun z=>?_;have H:Has (⟨.nil,0⟩:ad) []:=Has.nil;refine aa ?_;refine W.dr (k:=0) (c:=lgC l) H rfl rfl rfl rfl rfl rfl fun c2 ek H cc=>?_;refine aa ?_;refine W.cx hfn eG h0 rfl rfl rfl (dx (eB _)) ?_;cases gp:ep l with
 |false=>
  refine aa ?_;exact U.ret ⟨rfl,_,Hx (aS rfl) (aS rfl),rfl⟩
 |true=>
 refine aa ?_;refine W.cx hfn aE h1 rfl rfl rfl rfl ?_;refine aa ?_;refine U.block (U.loop (fun k F ai=>∃j w,j+k=ps.length∧fA ai none w ((pA l (ps.take j)).map AV.s)∧(pA l (ps.take j)=[]→w= .J)∧(∀I,w.hU =some I→1≤I)∧ai.get 0=some (.cells (lgC l))∧sat [(1,.p (some (0,0))),(4,w),(5,pz false ps),(6,aC j)] F) (fun k F ai bo=>?_) ps.length ⟨0,_,by omega,.nil,fun _=>rfl,(fun _ h=>by cases h),H.get _ (.head _),rfl,rfl,rfl,rfl,trivial⟩);clear H;obtain⟨j,w,aB,hw,mr,zJ,g0,b4⟩:=bo;refine U.norm _ b4 fun F=>?_;have H:Has ai [(0,lgC l)]:=Has.nil.cons g0 (by simp);have js:(ps.map fun p=>AV.ag (hl false p)).length=ps.length:=dO ..;by_cases b2:j<ps.length
 ·have hu:=cB b2;have df:=c9q (l:=l) b2;have bI:=a0A (I:=false) b2;have NS:=c9r l (ps.take j);rw[l9] at NS;generalize ps[j]=p at hu df bI;refine aa ?_;refine W.dg rfl rfl rfl rfl bI ?_;refine W.eV (R:=some 8) rfl rfl rfl rfl ?_;refine aa ?_;refine W.cx hfn aY (h2 gp p hu) rfl rfl rfl (gT (dS p hu _) (eB _)) ?_;generalize aI:ai.next=q;have yK:0<q:=by have:=ad.ei g0;omega
  cases bY:mE p l with
  |true=>
   rw[if_pos bY] at df;refine aa ?_;refine W.dg rfl rfl rfl rfl bI ?_;refine aa ?_;refine W.h7 (c:=[.s p.name]) H aI rfl rfl rfl fun rX wD H m9=>?_;have NT:=hw.ee (ai:=rX) fun i I _ aj=>m9 _ _ aj;refine W.ap (.s p.name) [] NT (by show(match rX.get q with|some (.cells c)=>elems none 1 (c.drop 0)|_=>none)=_;rw[H.get _ (.head _)];rfl) (fun z bw=>by rw[e3.1 bw];rfl) (by rw[dO];show(3*(_+1)+2000)*16≤_;omega) rfl rfl rfl rfl fun bJ c9u NU NV _ Li NW=>?_;refine aa ?_;refine⟨k-1,by omega,j+1,bJ,by omega,?_,fun h=>?_,(fun I aj=>by rw[NV] at aj;cases aj;omega),NW _ _ (fun e=>by have:=zJ _ e;omega) (m9 _ _ g0),rfl,rfl,rfl,rfl,trivial⟩
   ·rw[df,nb];exact NU
   ·rw[df] at h;have:=congrArg List.length h;simp at this
  |false=>
   rw[if_neg (by rw[bY];simp),jv] at df;refine aa ?_;refine⟨k-1,by omega,j+1,w,by omega,?_,fun h=>mr (by rw[←df];exact h),zJ,g0,rfl,rfl,rfl,rfl,trivial⟩;rw[df];exact hw
 ·rw[fv (by omega)] at hw mr;refine aa ?_;refine U.exit ?_;refine U.norm [(4,w)] ⟨rfl,trivial⟩ fun F=>?_;refine aa ?_;refine U.ret ⟨rfl,_,Hx (aS rfl) (aS rfl),?_⟩;have h1:freeze ai 0 999 w=some (slA false none ((pA l ps).map AV.s)):=hw.a0y (n:=998) (fun h=>mr (CH.1 h)) fun x hx=>by
   obtain⟨y,_,rfl⟩:=fq.1 hx;rfl
  rw[freeze_succ];show(match mapO (freeze ai 0 999) [w,aC 0] with|none=>none|some l=>some (AV.aK l))=_;rw[mapO_cons,mapO_cons,h1];rfl
end
abbrev vf(I:Bool)(t:Tm):List AV:=[.b t.var,.s t.name,cR I t.cH]
theorem c9w(I:Bool)(t:Tm):t.A I= .ag (vf I t):=by unfold Tm.A;rw[Tm.fF]
theorem c9x{n:Nat}{I:Bool}{R:Option Nat}{l:List AV}(h:∀x∈l,AV.eqb n x x=true):AV.eqb (n+1) (.aD I R l) (.aD I R l)=true:=by
 show((I==I)&&decide (R=R)&&fD (AV.eqb n) l l)=true;rw[ux h];simp
def ho(n:Nat)(v:AV):Prop:=j8 n v=true∧AV.eqb n v v=true
theorem ho.leaf{n:Nat}{v:AV}(h1:j8 (n+1) v=true)(h:v.lf=true):ho (n+1) v:=⟨h1,yV h⟩
theorem ho.aC{n:Nat}(k:Nat):ho (n+1) (aC k):=⟨rfl,yV rfl⟩
theorem ho.s{n:Nat}(k:List Nat):ho (n+1) (.s k):=⟨rfl,yV rfl⟩
theorem ho.nil{n:Nat}:ho (n+1) .J:=⟨rfl,rfl⟩
theorem ho.aK{n:Nat}{l:List AV}(h:∀x∈l,ho n x):ho (n+1) (.aK l):=⟨by rw[LX];exact m2 fun x hx=>(h x hx).1,ux fun x hx=>(h x hx).2⟩
theorem ho.al{n:Nat}{R:Option Nat}{l:List AV}(h:∀x∈l,(∀y∈x.cells,j8 n y=true)∧AV.eqb n x x=true):ho (n+1) (slA false R l):=by
 cases l with
 |nil=>exact .nil
 |cons x l=>
  refine⟨?_,c9x fun y aJ=>(h y aJ).2⟩;show j8 (n+1) (.aD false R (x::l))=true;rw[LX];show(true&&cV (fun x=>cV (j8 n) x.cells) (x::l))=true;rw[gS];exact m2 fun y aJ=>m2 fun z bw=>(h y aJ).1 z bw
theorem ho.VO{n:Nat}{R:Option Nat}{l:List AV}(h:∀x∈l,x.cells=[x]∧ho n x):ho (n+1) (slA false R l):=.al fun x hx=>⟨fun y aJ=>by rw[(h x hx).1,e3] at aJ;rw[aJ];exact(h x hx).2.1,(h x hx).2.2⟩
theorem gm{a b:AV}(h:[a]=[b]):a=b:=by injection h
theorem hK{a b c d:AV}(h:[a,b]=[c,d]):a=c∧b=d:=by injection h with h1 h2;injection h2 with h2;exact⟨h1,h2⟩
abbrev h4(b:cv)(g:Nat)(c:bV):Prop:=b.funcs.get g=some c∧b.ext g=0∧b.pure g=false
abbrev ed(b:cv)(g:Nat)(c:bV):Prop:=b.funcs.get g=some c∧b.ext g=0∧b.pure g=true
theorem h4.h{b:cv}{K:Nat→List AV→AV→Prop}{g:Nat}{c:bV}(h:h4 b g c):dt (b.bj K) g c:=⟨h.1,h.2.1,h.2.2⟩
theorem zK{a c d cq bR e5:AV}(h:[a,c,d]=[cq,bR,e5]):a=cq∧c=bR∧d=e5:=by
 injection h with h1 h
 injection h with h2 h
 injection h with h3 _
 exact⟨h1,h2,h3⟩
theorem a0B{a c:Nat}(h:aC a=aC c):a=c:=by injection h with _ h;exact pH h
theorem a0C{t u:Tm}(h:(.ag (vf true t):AV)= .ag (vf true u)):t=u:=by
 obtain⟨v,n,a⟩:=t;obtain⟨bJ,qq,cq⟩:=u;injection h with h
 have h:=zK h;have h1:v=bJ:=by injection h.1
 have h2:n=qq:=by injection h.2.1
 have h3:a=cq:=yT (I:=true) h.2.2;rw[h1,h2,h3]
theorem l0{t u:Fm}(h:(.ag (aV t):AV)= .ag (aV u)):t=u:=Fm.Xm (I:=true) (by rw[oq,oq];exact h)
structure dm where
 g:Nat
 X:Type
 a:X→List AV
 r:X→AV
 inj:∀x y,a x=a y→r x=r y
theorem a0D:∀ {l:List dm},(l.map dm.g).Nodup→∀ {f bC:dm},f∈l→bC∈l→f.g=bC.g→f=bC
 |x::l,h,f,bC,hf,HR,e=>by
  rw[k9,zD] at h;rcases dP.1 hf with h1|h1
  ·rcases dP.1 HR with h2|h2
   ·rw[h1,h2]
   ·subst h1;exact absurd (fq.2 ⟨bC,h2,e.symm⟩) h.1
  ·rcases dP.1 HR with h2|h2
   ·subst h2;exact absurd (fq.2 ⟨f,h1,e⟩) h.1
   ·exact a0D h.2 h1 h2 e
abbrev fx(P:Program)(b:cv)(g:Nat)(aO:List AV)(r:AV):Prop:=∀cM,SpecEntry P (b.env []) cM g aO r
def tu(P:Program)(b:cv)(fs:List dm)(g:Nat)(aO:List AV)(r:AV):Prop:=fx P b g aO r∧∃f∈fs,f.g=g∧∃x:f.X,f.a x=aO∧f.r x=r
theorem tu.fn{P:Program}{b:cv}{fs:List dm}(hn:(fs.map dm.g).Nodup):∀g aO r cj,tu P b fs g aO r→tu P b fs g aO cj→r=cj:=fun g aO r cj h h'=>by
 obtain⟨_,f,hf,hg,x,ha,af⟩:=h;obtain⟨_,bC,HR,c9y,fu,wy,n0⟩:=h';have e:=a0D hn hf HR (hg.trans c9y.symm);subst e;rw[←af,← n0];exact f.inj x fu (ha.trans wy.symm)
theorem tu.ok{P:Program}{b:cv}{fs:List dm}:yQ P b (tu P b fs):=fun _ _ _ h cM=>h.1 cM
theorem eh{P:Program}{b:cv}{fs:List dm}(k:Nat){f:dm}(ax:fs[k]? =some f)(x:f.X){g:Nat}{aO:List AV}{r:AV}(hg:f.g=g)(ha:f.a x=aO)(af:f.r x=r)(h:fx P b g aO r):tu P b fs g aO r:=⟨h,f,yb ax,hg,x,ha,af⟩
theorem a0E{I:Bool}{a c:Option (List Fm)}(h:dk I a=dk I c):a=c:=by
 cases a with
 |none=>cases c with
  |none=>rfl
  |some c=>cases h
 |some a=>cases c with
  |none=>cases h
  |some c=>
   have h:AV.aD I (some 4) (a.map (Fm.A I))= .aD I (some 4) (c.map (Fm.A I)):=h;injection h with _ _ h
   rw[(ZQ (f:=Fm.A I) fun x y h=>Fm.Xm (I:=I) h).1 h]
theorem c9z{α:Type}{I:Bool}{R:Option Nat}{g:α→AV}(hg:∀x y,g x=g y→x=y){a c:Option (List α)}(h:osl I R (a.map fun l=>l.map g)=osl I R (c.map fun l=>l.map g)):a=c:=by
 cases a with
 |none=>cases c with
  |none=>rfl
  |some c=>cases h
 |some a=>cases c with
  |none=>cases h
  |some c=>
   have h:AV.aD I R (a.map g)= .aD I R (c.map g):=h;injection h with _ _ h
   rw[(ZQ (f:=g) fun x y h=>hg x y h).1 h]
theorem a0F(p q:eo)(h:(.ag (gl p):AV)= .ag (gl q)):p=q:=by
 obtain⟨h1,c,f,cl⟩:=p;obtain⟨tK,bR,bC,e0p⟩:=q;injection h with h
 injection h with a6 h
 injection h with a2 h
 injection h with a3 h
 injection h with a4 h
 injection h with a5 h
 injection h with kv h
 injection h with rU h
 have ab:c=bR:=l0 (by show AV.ag [_,_,_,_]=AV.ag [_,_,_,_];rw[a2,a3,a4,a5]);have hh:=a0E a6;injection kv with kv
 injection rU with rU
 simp only at *;subst ab hh kv rU;rfl
theorem Db(p q:b6)(h:(.ag (ec p):AV)= .ag (ec q)):p=q:=by
 obtain⟨n,ps,c⟩:=p;obtain⟨qq,iO,bR⟩:=q;injection h with h
 injection h with a6 h
 injection h with a2 h
 injection h with a3 h
 injection h with a4 h
 injection h with a5 h
 injection h with kv h
 have ab:c=bR:=l0 (by show AV.ag [_,_,_,_]=AV.ag [_,_,_,_];rw[a3,a4,a5,kv]);have hh:=c9z (fun x y h=>a0F x y h) a2;injection a6 with a6
 simp only at *;subst ab hh a6;rfl
theorem a0G(p q:fw)(h:(.ag (hl true p):AV)= .ag (hl true q)):p=q:=by
 obtain⟨n,k,f,ps,c⟩:=p;obtain⟨qq,gZ,bC,iO,bR⟩:=q;injection h with h
 injection h with a6 h
 injection h with a2 h
 injection h with rU h
 injection h with Zw h
 injection h with a3 h
 injection h with a4 h
 injection h with a5 h
 injection h with kv h
 have ab:c=bR:=l0 (by show AV.ag [_,_,_,_]=AV.ag [_,_,_,_];rw[a3,a4,a5,kv]);have hh:=a0E Zw;injection a6 with a6
 injection a2 with _ a2
 injection rU with _ rU
 have a2:=pH a2;have rU:=pH rU;simp only at *;subst ab hh a6 a2 rU;rfl
theorem Snp.osl{α:Type}{n:Nat}{R:Option Nat}{g:α→AV}{a:Option (List α)}(h:∀x∈a.getD [],Snp n (g x)):Snp (n+1) (osl true R (a.map fun l=>l.map g)):=by
 cases a with
 |none=>exact .J n
 |some l=>
  refine .aD fun x hx=>?_;obtain⟨y,aJ,rfl⟩:=fq.1 hx;exact h y aJ
theorem Snp.jz{d n:Nat}{t:Fm}(h:t.dep≤d)(hn:2*d+1≤n):Snp n (.ag (aV t)):=fun ai=>by rw[←oq];exact Fm.snap ai true d t n h hn
theorem Snp.rT{d n:Nat}{t:Tm}(h:t.dep≤d)(hn:2*d+1≤n):Snp n (.ag (vf true t)):=fun ai=>by rw[←c9w];exact Tm.snap ai true d t n h hn
theorem a0H{f:AV→Option AV}:∀ {l:List AV},mapO f l=some l→∀x∈l,f x=some x
 |[],_,_,h=>by cases h
 |y::l,h,x,hx=>by
  rw[jw] at h;cases h1:f y with
  |none=>rw[h1] at h;cases h
  |some z=>
   rw[h1] at h;cases h2:mapO f l with
   |none=>rw[h2] at h;cases h
   |some jG=>
    rw[h2] at h;simp only[ca,q1] at h;rcases dP.1 hx with rfl|hx
    ·rw[h1,h.1]
    ·exact a0H (by rw[h2,h.2]) x hx
theorem Snp.cells{n:Nat}{l:List AV}(h:Snp (n+1) (.ag l)):∀x∈l,Snp n x:=fun x hx o=>by
 have h1:=h o;have e:bW o (n+1) (.ag l)=(match mapO (bW o n) l with|none=>none|some l=>some (AV.ag l)):=rfl;rw[e] at h1;cases hm:mapO (bW o n) l with
 |none=>rw[hm] at h1;cases h1
 |some aZ=>
  rw[hm] at h1;simp only[ca,AV.ag.injEq] at h1;rw[h1] at hm;exact a0H hm x hx
theorem NX:∀ {n:Nat} {v r:AV} {o:ad},bW o n v=some r→bW o (n+1) v=some r
 |0,_,_,_,h=>by cases h
 |n+1,v,r,o,h=>by
  have gY:∀ {l dF:List AV},mapO (bW o n) l=some dF→mapO (bW o (n+1)) l=some dF:=L7 fun v r h=>NX h;have ay:=fun v r h=>NX (n:=n) (v:=v) (r:=r) (o:=o) h;rw[snapshot_succ] at h;rw[snapshot_succ];split at h
  ·split at h<;>try (cases h;done)
   rename_i xs dC;split at h<;>cases h;rename_i aZ mV;simp only[dC,gY mV]
  ·exact h
  ·split at h<;>cases h;rename_i aZ mV;simp only[gY mV]
  ·split at h<;>cases h;rename_i aZ mV;simp only[gY mV]
  ·split at h<;>cases h;rename_i aZ mV;simp only[gY mV]
  ·split at h<;>cases h;rename_i y aJ;simp only[ay _ _ aJ]
  all_goals first|exact h|(cases h;done)|skip
theorem Snp.up{n:Nat}{v:AV}(h:Snp n v):Snp (n+1) v:=fun o=>NX (h o)
theorem Snp.le{n m:Nat}(hn:n≤m){v:AV}(h:Snp n v):Snp m v:=by
 obtain⟨k,rfl⟩:∃k,m=n+k:=⟨m-n,by omega⟩
 induction k with
 |zero=>exact h
 |succ k ay=>exact(ay (by omega)).up
theorem Snp.pm{d:Nat}{p:eo}(h:∀f∈p.fs,f.dep≤d):Snp (2*d+3) (.ag (gl p)):=by
 have ab:=(Snp.jz (h p.bN iq) (bK (2*d+1))).cells;have e:dk true p.gF=Go.Lyc.osl true (some 4) (p.gF.map fun l=>l.map fun t=>.ag (aV t)):=by
  unfold dk;rw[show(Fm.A true)=fun t=>AV.ag (aV t) from funext fun t=>oq t]
 refine .ag fun x hx=>?_;simp only[dP,mO,or_false] at hx;rcases hx with rfl|rfl|rfl|rfl|rfl|rfl|rfl
 ·rw[e];exact .osl fun t ht=>.jz (h t (e_ _ ht)) (bK _)
 ·exact .i _ _ _
 ·exact .s _ _
 ·exact(ab (cR true p.bN.cH) (by simp)).le (by omega)
 ·exact(ab (dk true p.bN.ea) (by simp)).le (by omega)
 ·exact .s _ _
 ·exact .b _ _
theorem Snp.lz{d:Nat}{r:b6}(h:∀f∈r.fs,f.dep≤d):Snp (2*d+5) (.ag (ec r)):=by
 have ab:=(Snp.jz (h r.bN r.mC) (bK (2*d+1))).cells;refine .ag fun x hx=>?_;simp only[dP,mO,or_false] at hx;rcases hx with rfl|rfl|rfl|rfl|rfl|rfl
 ·exact .s _ _
 ·exact .osl fun p hp=>.pm fun f hf=>h f (b6.zH hp hf)
 ·exact .i _ _ _
 ·exact .s _ _
 ·exact(ab (cR true r.bN.cH) (by simp)).le (by omega)
 ·exact(ab (dk true r.bN.ea) (by simp)).le (by omega)
theorem Snp.HS{d:Nat}{l:Lgc}(h:∀r∈l.rules,∀f∈r.fs,f.dep≤d):Snp (2*d+7) (.ag (lgC l)):=by
 refine .ag fun x hx=>?_;simp only[dP,mO,or_false] at hx;rcases hx with rfl|rfl|rfl|rfl|rfl
 ·exact .s _ _
 ·exact .i _ _ _
 ·exact .i _ _ _
 ·exact .i _ _ _
 ·exact .osl fun r af=>.lz fun f hf=>h r af f hf
theorem c9A{l:List (List Nat)}{j:Nat}(h:j<l.length):idxSlA none (slA true none (l.map fk)) j=some (.cG true (fk l[j])):=by
 cases l with
 |nil=>cases h
 |cons x l=>exact wT (l:=some (x::l)) (g:=fk) h
section
variable {b:cv}{K:Nat→List AV→AV→Prop}
theorem c9B(l:List (List Nat))(au:l.length<2^62)(body:bc)(hb:Gk.body=some body):
  U (b.bj K) Gk.ntmps body (c4 [slA true none (l.map fk),slA true none (l.map fk)]) ⟨.nil,0⟩ (eO Gk.results (.b true)):=by
 cases hb;refine W.args fun z=>?_;have H:Has (⟨.nil,0⟩:ad) []:=Has.nil;have hlen:∀o:ad,lenA o 1 (slA true none (l.map fk))=some l.length:=fun o=>by rw[Xi,dO]
 generalize av:slA true none (l.map fk)=v at hlen;have bI:∀ {j:Nat} (h:j<l.length),idxSlA none v j=some (.cG true (fk l[j])):=fun h=>by rw[←av];exact c9A h
 refine aa ?_;refine W.len rfl rfl rfl (hlen _) ?_;refine aa ?_;refine W.len rfl rfl rfl (hlen _) ?_;refine aa ?_;refine U.block (U.loop (fun k F ai=>∃j,j+k=l.length∧sat [(0,v),(1,v),(5,aC j)] F) (fun k F ai bo=>?_) l.length ⟨0,by omega,rfl,rfl,rfl,trivial⟩);obtain⟨j,aB,b4⟩:=bo;refine U.norm _ b4 fun F=>?_;have H:Has ai []:=Has.nil;refine aa ?_;refine W.len rfl rfl rfl (hlen _) ?_;by_cases b2:j<l.length
 ·have h1:=bI b2;generalize l[j]=x at h1;refine aa ?_;refine W.dg rfl rfl rfl rfl h1 ?_;refine W.eV (R:=none) rfl rfl rfl rfl ?_;refine aa ?_;refine W.dg rfl rfl rfl rfl h1 ?_;refine W.eV (R:=none) rfl rfl rfl rfl ?_;refine aa ?_;refine W.bin (v:=.b false) rfl rfl rfl rfl (by show some (AV.b (!eqL x x))=_;rw[wQ];rfl) ?_;refine aa ?_;exact⟨k-1,by omega,j+1,by omega,rfl,rfl,rfl,trivial⟩
 ·refine aa ?_;refine U.exit ?_;refine aa ?_;exact U.ret ⟨rfl,_,aR (aS rfl),rfl⟩
end
end
section
variable [Tok][TokOk]
open Go.RowKit Go.Lyc.T
theorem jA{a c:List Nat}(h:(.s a:AV)= .s c):a=c:=by injection h
theorem HT{a c:Bool}(h:(.b a:AV)= .b c):a=c:=by injection h
theorem pB{a c:Nat}(h:b5 a=b5 c):a=c:=by injection h with _ h;exact pH h
theorem a0I{a c:Nat}(h:cN a=cN c):a=c:=by injection h with _ h;exact pH h
theorem cn(x:Bool):ho 1000 (.b x):=.leaf (n:=999) rfl rfl
theorem zL(x:Nat):ho 1000 (cN x):=.leaf (n:=999) rfl rfl
theorem Fm.ok.c9C{F:Fm}(h:F.ok):F.kF:=by
 have ht:∀ {t:Tm},t.ok→t.kF:=fun {t} h=>by
  induction h with
  |mk hn au h ay=>exact .mk au ay
 induction h with
 |mk aj hn cQ ha au h ay=>exact .mk cQ (fun x hx=>ht (ha x hx)) au ay
structure vg(b:cv)(D:Nat)(p:eo):Prop where
 au:p.hyps.length<2^62
 ok:∀f∈p.fs,f.ok
 dep:∀f∈p.fs,f.dep≤D
 aT:2*D+10≤b.aT+800
structure pC(b:cv)(D:Nat)(r:b6):Prop where
 nm:r.name.length<2^62
 pl:r.bF.length<2^62
 ok:∀f∈r.fs,f.ok
 dep:∀f∈r.fs,f.dep≤D
 au:∀p∈r.bF,p.hyps.length<2^62
 aT:2*D+10≤b.aT+800
structure tv(b:cv)(D:Nat)(l:Lgc):Prop where
 nm:l.name.length<2^62
 ops:l.ops<2^32
 kind:l.kind<256
 frame:l.frame<256
 NY:l.rules.length<2^62
 lz:∀r∈l.rules,pC b D r
section
variable {b:cv}{D:Nat}
theorem vg.oA{p:eo}(h:vg b D p):∀f∈p.fs,Snp (b.aT+1000) (.ag (aV f)):=fun f hf=>.jz (h.dep f hf) (by have:=h.aT;omega)
theorem vg.c9D{p:eo}(h:vg b D p):Snp (b.aT+1000) (.ag (gl p)):=(Snp.pm h.dep).le (by have:=h.aT;omega)
theorem vg.c9E{p:eo}(h:vg b D p):Snp (b.aT+1000) (dk true p.gF):=((Snp.pm h.dep).cells _ (by simp)).le (by have:=h.aT;omega)
theorem pC.xr{r:b6}(h:pC b D r):∀p∈r.bF,vg b D p:=fun p hp=>⟨h.au p hp,fun f hf=>h.ok f (b6.zH hp hf),fun f hf=>h.dep f (b6.zH hp hf),h.aT⟩
theorem pC.oA{r:b6}(h:pC b D r):∀f∈r.fs,Snp (b.aT+1000) (.ag (aV f)):=fun f hf=>.jz (h.dep f hf) (by have:=h.aT;omega)
theorem tv.oA{l:Lgc}(h:tv b D l):Snp (b.aT+1000) (.ag (lgC l)):=by
 by_cases he:l.rules=[]
 ·refine(Snp.HS (d:=0) fun r af=>by rw[he] at af;cases af).le (by omega)
 ·obtain⟨r,af⟩:=List.exists_mem_of_ne_nil _ he;exact(Snp.HS fun r af=>(h.lz r af).dep).le (by have:=(h.lz r af).aT;omega)
theorem pC.Dc{r:b6}(h:pC b D r):Snp (b.aT+1000) (.ag (ec r)):=(Snp.lz h.dep).le (by have:=h.aT;omega)
end
def Dd:Nat→Tm→Bool
 |0,_=>false
 |d+1,t=>decide (t.name.length<1000)&&(decide (t.args.length<1000)&&t.args.all (Dd d))
theorem a0J:∀ {d:Nat} {t:Tm},Dd d t=true→t.ok
 |0,_,h=>by cases h
 |d+1,.mk v n a,h=>by
  have h:(decide (n.length<1000)&&(decide ((a.getD []).length<1000)&&(a.getD []).all (Dd d)))=true:=h;simp only[bT,decide_eq_true_iff,fI] at h;exact .mk (by omega) (by omega) fun x hx=>a0J (h.2.2 x hx)
def okF:Nat→Fm→Bool
 |0,_=>false
 |d+1,f=>(decide (f.op<256)&&(decide (f.name.length<1000)&&(decide (f.args.length<1000)&&f.args.all (Dd d))))&&(decide (f.sub.length<1000)&&f.sub.all (okF d))
theorem a0K:∀ {d:Nat} {f:Fm},okF d f=true→f.ok
 |0,_,h=>by cases h
 |d+1,.mk I n a s,h=>by
  have h:((decide (I<256)&&(decide (n.length<1000)&&(decide ((a.getD []).length<1000)&&(a.getD []).all (Dd d))))&&(decide ((s.getD []).length<1000)&&(s.getD []).all (okF d)))=true:=h;simp only[bT,decide_eq_true_iff,fI] at h;exact .mk (by omega) (by omega) (by omega) (fun x hx=>a0J (h.1.2.2.2 x hx)) (by omega) fun x hx=>a0K (h.2.2 x hx)
theorem c9F:pats.all (fun p=>(decide (p.kinds<256)&&(decide (p.frame<256)&&decide (p.fs.length<1000)))&&p.fs.all fun f=>okF 10 f&&(decide (f.dep≤10)&&decide (f.nd<1000)))=true:=by decide+kernel
theorem NZ{d n:Nat}{o:ad}{I:Bool}{a:Option (List Fm)}(h:∀u∈a.getD [],u.dep≤d)(hn:2*d+1≤n):bW o (n+1) (dk I a)=some (dk true a):=by
 cases a with
 |none=>rfl
 |some l=>
  show(match mapO (bW o n) (l.map (Fm.A I)) with|none=>none|some xs=>some (AV.aD true (some 4) xs))=_;rw[F3 (l:=l) (h:=Fm.A true) fun x hx=>Fm.snap o I d x n (h x hx) hn];rfl
theorem c9G{d n:Nat}{o:ad}{I:Bool}{a:Option (List Tm)}(h:∀u∈a.getD [],u.dep≤d)(hn:2*d+1≤n):bW o (n+1) (cR I a)=some (cR true a):=by
 cases a with
 |none=>rfl
 |some l=>
  show(match mapO (bW o n) (l.map (Tm.A I)) with|none=>none|some xs=>some (AV.aD true (some 3) xs))=_;rw[F3 (l:=l) (h:=Tm.A true) fun x hx=>Tm.snap o I d x n (h x hx) hn];rfl
structure qE(p:fw):Prop where
 kinds:p.kinds<256
 frame:p.frame<256
 len:p.fs.length<2^62
 ok:∀f∈p.fs,f.ok
 dep:∀f∈p.fs,f.dep≤10
 nd:∀f∈p.fs,f.nd<2^60
theorem pat{p:fw}(hp:p∈pats):qE p:=by
 have h:=fI.1 c9F p hp;simp only[bT,decide_eq_true_iff,fI] at h;exact⟨h.1.1,h.1.2.1,by omega,fun f hf=>a0K (h.2 f hf).1,fun f hf=>(h.2 f hf).2.1,fun f hf=>by have:=(h.2 f hf).2.2;omega⟩
theorem qE.c9H{p:fw}(h:qE p)(I:Bool)(n:Nat)(ai:ad):bW ai (n+1000) (.ag (hl I p))=some (.ag (hl true p)):=by
 have ab:=h.dep p.bN (e4.2 (.inr (by simp)));have hp:∀u∈p.dN.getD [],u.dep≤10:=fun u hu=>h.dep u (e4.2 (.inl hu));have aE:=NZ (o:=ai) (n:=n+998) (I:=I) hp (by omega);have aY:=c9G (o:=ai) (n:=n+998) (I:=I) (d:=10) (a:=p.bN.cH) (fun u hu=>by have:=Fm.j9 (f:=p.bN) hu;omega) (by omega);have cZ:=NZ (o:=ai) (n:=n+998) (I:=I) (d:=10) (a:=p.bN.ea) (fun u hu=>by have:=Fm.iF (f:=p.bN) hu;omega) (by omega);show(match mapO (bW ai (n+999)) (hl I p) with|none=>none|some l=>some (AV.ag l))=_;rw[jw,jw,jw,jw,jw,jw,jw,jw,aE,aY,cZ];rfl
theorem qE.a0L{b:cv}{p:fw}(h:qE p):∀ai:ad,bW ai (b.aT+1000) (.ag (hl false p))=some (.ag (hl true p)):=h.c9H false _
theorem qE.a0M{b:cv}{p:fw}(h:qE p):∀u∈p.fs,∀ai:ad,bW ai (b.aT+1000) (.ag (aV u))=some (.ag (aV u)):=fun u hu ai=>by
 rw[←oq];exact Fm.snap ai true 10 u _ (h.dep u hu) (by omega)
theorem qE.c9I{b:cv}{p:fw}(h:qE p):AV.eqb (b.aT+1000) (dk true p.dN) (dk true p.dN)=true:=
 Snp.eqb _ _ fun ai=>by
  have e:=NZ (o:=ai) (n:=b.aT+999) (I:=true) (d:=10) (a:=p.dN) (fun u hu=>h.dep u (e4.2 (.inl hu))) (by omega);rw[show b.aT+1000=b.aT+999+1 from rfl,e]
theorem qE.c9J{b:cv}{p:fw}(h:qE p):AV.eqb (b.aT+1000) (.ag (aV p.bN)) (.ag (aV p.bN))=true:=
 Snp.eqb _ _ (h.a0M (b:=b) p.bN (e4.2 (.inr (by simp))))
theorem c9K:pats.all (fun p=>decide ((p.dN.getD []).length<8)&&(match p.dN with|some []=>false|_=>true))=true:=by decide+kernel
theorem a0N{p:fw}(hp:p∈pats):(p.dN.getD []).length<2^20∧p.dN≠some []:=by
 have h:=fI.1 c9K p hp;rw[bT] at h;refine⟨by have:=of_decide_eq_true h.1;omega,fun e=>?_⟩;have h2:=h.2;rw[e] at h2;cases h2
theorem a0O{L:Lgc}(h:ep L=true):L.kind≤8:=by
 by_cases ax:1≤L.kind∧L.kind≤5
 ·omega
 ·rw[a0g ax] at h;cases h
theorem HU(x:Bool)(N:List (List Nat)):ho 1000 (cond x (.aK [slA false none (N.map AV.s),aC 0]) (.aK [.J,aC 2])):=by
 have hs:ho 999 (slA false none (N.map AV.s)):=.VO (n:=998) fun x hx=>by
  obtain⟨y,_,rfl⟩:=fq.1 hx;exact⟨rfl,.s (n:=997) y⟩
 cases x with
 |true=>
  refine .aK (n:=999) fun x hx=>?_;simp only[dP,mO,or_false] at hx;rcases hx with rfl|rfl
  ·exact hs
  ·exact .aC (n:=998) 0
 |false=>
  refine .aK (n:=999) fun x hx=>?_;simp only[dP,mO,or_false] at hx;rcases hx with rfl|rfl
  ·exact .nil (n:=998)
  ·exact .aC (n:=998) 2
structure r2(P:Program)(b:cv):Prop where
 c9L:fx P b xc [] (pz false pats)
 c9M:fx P b xd [] (pz false pats)
 N0:∀k,1≤k→k≤5→fx P b uQ [b5 k] (cN (k3 k))
def c9N:dm:=⟨xa,Nat,fun x=>[b5 x],fun x=>.b (isSmall x),fun x y h=>by rw[pB (gm h)]⟩
def c9O:dm:=⟨qx,Nat,fun x=>[b5 x],fun x=>.b (om x),fun x y h=>by rw[pB (gm h)]⟩
def c9P:dm:=⟨qy,Nat,fun x=>[b5 x],fun x=>.b (mA x),fun x y h=>by rw[pB (gm h)]⟩
def c9Q:dm:=⟨uL,Nat,fun x=>[b5 x],fun x=>.b (td x),fun x y h=>by rw[pB (gm h)]⟩
def c9R:dm:=⟨uM,Nat,fun x=>[b5 x],fun x=>.b (te x),fun x y h=>by rw[pB (gm h)]⟩
def c9S:dm:=⟨pg,Nat,fun x=>[b5 x],fun x=>.b (m4 x),fun x y h=>by rw[pB (gm h)]⟩
def c9T:dm:=⟨mx,List Nat,fun x=>[.s x],fun x=>.b (iY x),fun x y h=>by rw[jA (gm h)]⟩
def c9U:dm:=⟨xb,List Nat×List Nat,fun x=>[.s x.1,.s x.2],fun x=>.b (prefB x.1 x.2),fun x y h=>by rw[jA (hK h).1,jA (hK h).2]⟩
def c9V:dm:=⟨rL,List Nat×List Nat,fun x=>[.s x.1,.s x.2],fun x=>.b (prefB x.1 x.2),fun x y h=>by rw[jA (hK h).1,jA (hK h).2]⟩
def c9W:dm:=⟨pf,List Nat,fun x=>[.s x],fun x=>.b (gE x),fun x y h=>by rw[jA (gm h)]⟩
def c9X:dm:=⟨og,List Nat,fun x=>[.s x],fun x=>.b (isVar x),fun x y h=>by rw[jA (gm h)]⟩
def c9Y:dm:=⟨rK,List Nat,fun x=>[.s x],fun x=>.b (isFun x),fun x y h=>by rw[jA (gm h)]⟩
def c9Z:dm:=⟨s8,List Nat,fun x=>[.s x],fun x=>.b (kt x),fun x y h=>by rw[jA (gm h)]⟩
def d0a:dm:=⟨ph,List Nat,fun x=>[.s x],fun x=>.b (hv x),fun x y h=>by rw[jA (gm h)]⟩
def d0b:dm:=⟨w8,Nat×List Nat,fun x=>[b5 x.1,.s x.2],fun x=>.b (fW x.1 x.2),fun x y h=>by rw[pB (hK h).1,jA (hK h).2]⟩
def d0c:dm:=⟨w9,Option (List Tm),fun x=>[cR true x],fun x=>.b (instB (x.getD [])),fun x y h=>by rw[yT (gm h)]⟩
def d0d:dm:=⟨uK,Fm,fun x=>[.ag (aV x)],fun x=>cN (gU x),fun x y h=>by rw[l0 (gm h)]⟩
def d0e:dm:=⟨rN,List Nat,fun x=>[.s x],fun x=>.b (isMeta x),fun x y h=>by rw[jA (gm h)]⟩
def d0f:dm:=⟨zg,Fm,fun x=>[.ag (aV x)],fun x=>.b (hj true x),fun x y h=>by rw[l0 (gm h)]⟩
def d0g:dm:=⟨uP,Fm×List Nat,fun x=>[.ag (aV x.1),.s x.2],fun x=>.b (hB x.2 x.1),fun x y h=>by rw[l0 (hK h).1,jA (hK h).2]⟩
def d0h:dm:=⟨zd,List Nat,fun x=>[.s x],fun x=>.b (iI x),fun x y h=>by rw[jA (gm h)]⟩
def d0i:dm:=⟨zf,eo,fun x=>[.ag (gl x)],fun x=>.b (pt x),fun x y h=>by rw[a0F _ _ (gm h)]⟩
def d0j:dm:=⟨zc,b6,fun x=>[.ag (ec x)],fun x=>.b (fp x),fun x y h=>by rw[Db _ _ (gm h)]⟩
def d0k:dm:=⟨y_,Nat,fun x=>[b5 x],fun x=>cN (k3 x),fun x y h=>by rw[pB (gm h)]⟩
def d0l:dm:=⟨za,List Nat,fun x=>[.s x],fun x=>.b (iI x),fun x y h=>by rw[jA (gm h)]⟩
def d0m:dm:=⟨zb,b6×Nat,fun x=>[.ag (ec x.1),cN x.2],fun x=>.b (k4 x.2 x.1),fun x y h=>by rw[Db _ _ (hK h).1,a0I (hK h).2]⟩
def d0n(L:Lgc):dm:=⟨y9,Unit,fun _=>[.ag (lgC L)],fun _=>.b (ep L),fun _ _ _=>rfl⟩
def d0o:dm:=⟨pj,Nat×Nat×Nat,fun x=>[b5 x.1,b5 x.2.1,b5 x.2.2],fun x=>.b (kc x.1 x.2.1 x.2.2),fun x y h=>by rw[pB (zK h).1,pB (zK h).2.1,pB (zK h).2.2]⟩
def d0p:dm:=⟨rP,List Nat×Bool,fun x=>[.s x.1,.b x.2],fun x=>.b (kJ x.2 x.1),fun x y h=>by rw[jA (hK h).1,HT (hK h).2]⟩
def d0q:dm:=⟨zt,List Nat,fun x=>[.s x],fun x=>.b (isVar x),fun x y h=>by rw[jA (gm h)]⟩
def d0r:dm:=⟨u0,List Nat,fun x=>[.s x],fun x=>.b (gE x),fun x y h=>by rw[jA (gm h)]⟩
def d0s:dm:=⟨uZ,List Nat,fun x=>[.s x],fun x=>.b (isFun x),fun x y h=>by rw[jA (gm h)]⟩
def d0t:dm:=⟨zu,List Nat,fun x=>[.s x],fun x=>.b (kt x),fun x y h=>by rw[jA (gm h)]⟩
def d0u:dm:=⟨zv,List Nat,fun x=>[.s x],fun x=>.b (hv x),fun x y h=>by rw[jA (gm h)]⟩
def d0v:dm:=⟨zs,Fm×Bool,fun x=>[.ag (aV x.1),.b x.2],fun x=>.b (e8 x.2 x.1),fun x y h=>by rw[l0 (hK h).1,HT (hK h).2]⟩
def d0w:dm:=⟨uU,Tm×Bool,fun x=>[.ag (vf true x.1),.b x.2],fun x=>.b (gV x.2 x.1),fun x y h=>by rw[a0C (hK h).1,HT (hK h).2]⟩
def d0x:dm:=⟨uT,Fm×Bool,fun x=>[.ag (aV x.1),.b x.2],fun x=>.b (ji x.2 x.1),fun x y h=>by rw[l0 (hK h).1,HT (hK h).2]⟩
def d0y:dm:=⟨uW,Option (List Tm),fun x=>[cR true x],fun x=>aC (Tm.nds (x.getD [])),fun x y h=>by rw[yT (gm h)]⟩
def d0z:dm:=⟨uY,Option (List Tm),fun x=>[cR true x],fun x=>aC (Tm.dM (x.getD [])),fun x y h=>by rw[yT (gm h)]⟩
def d0A:dm:=⟨uV,Fm,fun x=>[.ag (aV x)],fun x=>aC x.nd,fun x y h=>by rw[l0 (gm h)]⟩
def d0B:dm:=⟨uX,Fm,fun x=>[.ag (aV x)],fun x=>aC x.dep,fun x y h=>by rw[l0 (gm h)]⟩
def d0C:dm:=⟨zr,Fm,fun x=>[.ag (aV x)],fun x=>.b (hj true x),fun x y h=>by rw[l0 (gm h)]⟩
def d0D:dm:=⟨rO,Fm,fun x=>[.ag (aV x)],fun x=>cN (gU x),fun x y h=>by rw[l0 (gm h)]⟩
def d0E:dm:=⟨zq,List Nat,fun x=>[.s x],fun x=>.b (iI x),fun x y h=>by rw[jA (gm h)]⟩
def d0F:dm:=⟨s_,Fm×List Nat,fun x=>[.ag (aV x.1),b5 15,.s x.2],fun x=>.b (kK 15 x.2 x.1),fun x y h=>by rw[l0 (zK h).1,jA (zK h).2.2]⟩
def d0G:dm:=⟨uR,Fm×List Nat,fun x=>[.ag (aV x.1),.s x.2],fun x=>.b (hB x.2 x.1),fun x y h=>by rw[l0 (hK h).1,jA (hK h).2]⟩
def d0H:dm:=⟨uS,b6×Fm,fun x=>[.ag (ec x.1),.ag (aV x.2)],fun x=>.b (hk x.1 x.2),fun x y h=>by rw[Db _ _ (hK h).1,l0 (hK h).2]⟩
def d0I:dm:=⟨zp,b6,fun x=>[.ag (ec x)],fun x=>.b (fp x),fun x y h=>by rw[Db _ _ (gm h)]⟩
def d0J:dm:=⟨uQ,Nat,fun x=>[b5 x],fun x=>cN (k3 x),fun x y h=>by rw[pB (gm h)]⟩
def d0K:dm:=⟨zo,Fm×Nat,fun x=>[.ag (aV x.1),cN x.2],fun x=>.b (jT x.2 x.1),fun x y h=>by rw[l0 (hK h).1,a0I (hK h).2]⟩
def d0L(L:Lgc):dm:=⟨zn,Unit,fun _=>[.ag (lgC L)],fun _=>.b (ep L),fun _ _ _=>rfl⟩
def d0M:dm:=⟨uO,Tm×Nat,fun x=>[.ag (vf true x.1),aC x.2],fun x=>aC (min x.1.nd (x.2+1)),fun x y h=>by rw[a0C (hK h).1,a0B (hK h).2]⟩
def d0N:dm:=⟨rM,Fm×Nat,fun x=>[.ag (aV x.1),aC x.2],fun x=>aC (min x.1.nd (x.2+1)),fun x y h=>by rw[l0 (hK h).1,a0B (hK h).2]⟩
def d0O:dm:=⟨y8,b6,fun x=>[.ag (ec x)],fun x=>.b (ox x),fun x y h=>by rw[Db _ _ (gm h)]⟩
def d0P(L:Lgc):dm:=⟨zk,fw,fun x=>[.ag (hl true x),.ag (lgC L)],fun x=>.b (oz x L),fun x y h=>by rw[a0G _ _ ((hK h).1)]⟩
def d0Q(L:Lgc):dm:=⟨zm,fw,fun x=>[.ag (hl true x),.ag (lgC L)],fun x=>.b (mE x L),fun x y h=>by rw[a0G _ _ ((hK h).1)]⟩
def d0R:dm:=⟨xc,Unit,fun _=>[],fun _=>pz false pats,fun _ _ _=>rfl⟩
def d0S:dm:=⟨xd,Unit,fun _=>[],fun _=>pz false pats,fun _ _ _=>rfl⟩
def a0P(L:Lgc):List dm:=[c9N,c9O,c9P,c9Q,c9R,c9S,c9T,c9U,c9V,c9W,c9X,c9Y,c9Z,d0a,d0b,d0c,d0d,d0e,d0f,d0g,d0h,d0i,d0j,d0k,d0l,d0m,d0n L,d0o,d0p,d0q,d0r,d0s,d0t,d0u,d0v,d0w,d0x,d0y,d0z,d0A,d0B,d0C,d0D,d0E,d0F,d0G,d0H,d0I,d0J,d0K,d0L L,d0M,d0N,d0O,d0P L,d0Q L,d0R,d0S]
theorem d0T(L:Lgc):(a0P L).map dm.g=[xa,qx,qy,uL,uM,pg,mx,xb,rL,pf,og,rK,s8,ph,w8,w9,uK,rN,zg,uP,zd,zf,zc,y_,za,zb,y9,pj,rP,zt,u0,uZ,zu,zv,zs,uU,uT,uW,uY,uV,uX,zr,rO,zq,s_,uR,uS,zp,uQ,zo,zn,uO,rM,y8,zk,zm,xc,xd]:=rfl
abbrev bg(P:Program)(b:cv)(L:Lgc):=tu P b (a0P L)
structure xt(b:cv):Prop where
 small:ed b xa Yb
 N1:ed b qx X4
 digit:ed b qy Yc
 a0Q:ed b uL Yd
 a0R:ed b uM X9
 N2:ed b pg X5
 HV:ed b mx Ya
 a0S:ed b xb Ye
 N3:ed b rL X_
 HW:ed b pf XX
 Variable:ed b og X6
 Function:ed b rK X1
 N4:ed b s8 X7
 HX:ed b ph X8
 named:ed b w8 XY
 a0T:ed b w9 XZ
 N5:ed b uK XT
 a0U:ed b rN GO
 a0V:ed b zg Gv
 N6:ed b uP Cu
 a0W:ed b zd Gx
 a0X:ed b zf Gz
 a0Y:ed b zc Gq
 a0Z:ed b y_ Gn
 a1a:ed b za Gp
 a1b:ed b zb Gr
 a1c:ed b y9 y1
 De:ed b pj G3
 HY:ed b rP G2
 a1d:ed b zt GY
 N7:ed b u0 GX
 N8:ed b uZ G1
 a1e:ed b zu GZ
 a1f:ed b zv G0
 a1g:ed b zs GP
 N9:ed b uU GQ
 N_:ed b uT GK
 Oa:ed b uW GS
 Ob:ed b uY GV
 Oc:ed b uV GL
 Od:ed b uX GM
 a1h:ed b zr GC
 HZ:ed b rO Gu
 a1i:ed b zq GB
 Oe:ed b s_ Cw
 Of:ed b uR Ct
 Og:ed b uS Cs
 a1j:ed b zp Gs
 d0U:c5 b uQ
 a1k:ed b zo Gt
 a1l:ed b zn y2
 Oh:ed b uO GF
 Oi:ed b rM Gw
 a1m:ed b y8 Gl
 a1n:ed b zk Gm
 a1o:ed b zm y3
 d0V:c5 b xc
 d0W:c5 b xd
 d0X:ed b uN iX
 d0Y:ed b zj Gi
 d0Z:ed b zl Gj
 d1a:ed b G_ Gk
 d1b:h4 b Hd Mw
 d1c:h4 b zi GA
 visit:h4 b y4 Cv
 walk:h4 b G4 MA
 d1d:h4 b w7 GI
 d1e:h4 b G5 MB
 d1f:h4 b G6 X2
 d1g:h4 b MG X0
 d1h:h4 b MF XV
 Oj:h4 b y5 Cy
 Ol:h4 b w_ Cz
 a1p:h4 b CC Gy
 a1q:h4 b ze GH
 d1i:h4 b MH X3
 d1j:h4 b Hc My
 d1k:h4 b CD GG
 d1l:h4 b Ha Mz
 d1m:h4 b MI XU
 d1n:h4 b MJ XW
 d1o:h4 b Hb MD
 d1p:h4 b zh GW
 d1q:h4 b G8 MC
 d1r:h4 b G7 Mx
 d1s:h4 b CB GD
 d1t:h4 b y7 Cx
 d1u:h4 b oh w6
 d1v:h4 b G9 Mv
 uJ:b.ext y6=9
 HI:∀aO,b.lE y6 aO=none
 rows:b.jm He=some (.ag CM)
section
variable {P:Program}{b:cv}{L:Lgc}(hb:iE P b)(aM:xt b)
theorem bg.ok(L:Lgc):yQ P b (bg P b L):=tu.ok
theorem bg.fn:∀g aO r cj,bg P b L g aO r→bg P b L g aO cj→r=cj:=tu.fn (by rw[d0T];decide)
include hb aM
theorem d1w(c:Nat):bg P b L xa [b5 c] (.b (isSmall c)):=
 eh 0 rfl c rfl rfl rfl (mq hb (bg.ok L) _ aM.small.1 rfl rfl rfl rfl (ae:=1000) (cn _).1 (cn _).2 (c5K c _ rfl))
theorem a1r(c:Nat):bg P b L qx [b5 c] (.b (om c)):=
 eh 1 rfl c rfl rfl rfl (mq hb (bg.ok L) _ aM.N1.1 rfl rfl rfl rfl (ae:=1000) (cn _).1 (cn _).2 (c5L c _ rfl))
theorem a1s(c:Nat):bg P b L qy [b5 c] (.b (mA c)):=
 eh 2 rfl c rfl rfl rfl (mq hb (bg.ok L) _ aM.digit.1 rfl rfl rfl rfl (ae:=1000) (cn _).1 (cn _).2 (c5M c _ rfl))
theorem d1x(c:Nat):bg P b L uL [b5 c] (.b (td c)):=
 eh 3 rfl c rfl rfl rfl (mq hb (bg.ok L) _ aM.a0Q.1 rfl rfl rfl rfl (ae:=1000) (cn _).1 (cn _).2 (c5N c _ rfl))
theorem d1y(c:Nat):bg P b L uM [b5 c] (.b (te c)):=
 eh 4 rfl c rfl rfl rfl (mq hb (bg.ok L) _ aM.a0R.1 rfl rfl rfl rfl (ae:=1000) (cn _).1 (cn _).2 (c5O c _ rfl))
theorem a1t(c:Nat):bg P b L pg [b5 c] (.b (m4 c)):=
 eh 5 rfl c rfl rfl rfl (mq hb (bg.ok L) _ aM.N2.1 rfl rfl rfl rfl (ae:=1000) (cn _).1 (cn _).2 (c5P bg.fn (d1w hb aM) (a1r hb aM) (a1s hb aM) aM.small.2 aM.N1.2 aM.digit.2 c _ rfl))
theorem Om(l:List Nat):bg P b L mx [.s l] (.b (iY l)):=
 eh 6 rfl l rfl rfl rfl (mq hb (bg.ok L) _ aM.HV.1 rfl rfl rfl rfl (ae:=1000) (cn _).1 (cn _).2 (c5Q l _ rfl))
theorem d1z(x y:List Nat):bg P b L xb [.s x,.s y] (.b (prefB x y)):=
 eh 7 rfl (x,y) rfl rfl rfl (mq hb (bg.ok L) _ aM.a0S.1 rfl rfl rfl rfl (ae:=1000) (cn _).1 (cn _).2 (c5S x y _ rfl))
theorem a1u(x y:List Nat):bg P b L rL [.s x,.s y] (.b (prefB x y)):=
 eh 8 rfl (x,y) rfl rfl rfl (mq hb (bg.ok L) _ aM.N3.1 rfl rfl rfl rfl (ae:=1000) (cn _).1 (cn _).2 (c5T bg.fn (d1z hb aM) aM.a0S.2 x y _ rfl))
theorem On(l:List Nat)(h:l.length<2^62):bg P b L pf [.s l] (.b (gE l)):=
 eh 9 rfl l rfl rfl rfl (mq hb (bg.ok L) _ aM.HW.1 rfl rfl rfl rfl (ae:=1000) (cn _).1 (cn _).2 (c5U bg.fn (a1r hb aM) aM.N1.2 (a1t hb aM) aM.N2.2 (Om hb aM) aM.HV.2 aM.Ol.h aM.Oj.h l h _ rfl))
theorem Oo(l:List Nat)(h:l.length<2^62):bg P b L og [.s l] (.b (isVar l)):=
 eh 10 rfl l rfl rfl rfl (mq hb (bg.ok L) _ aM.Variable.1 rfl rfl rfl rfl (ae:=1000) (cn _).1 (cn _).2 (c5V bg.fn (d1x hb aM) aM.a0Q.2 (a1s hb aM) aM.digit.2 (Om hb aM) aM.HV.2 aM.Ol.h aM.Oj.h l h _ rfl))
theorem a1v(l:List Nat)(h:l.length<2^62):bg P b L rK [.s l] (.b (isFun l)):=
 eh 11 rfl l rfl rfl rfl (mq hb (bg.ok L) _ aM.Function.1 rfl rfl rfl rfl (ae:=1000) (cn _).1 (cn _).2 (c5W bg.fn (d1y hb aM) aM.a0R.2 (a1t hb aM) aM.N2.2 (Om hb aM) aM.HV.2 aM.Ol.h aM.Oj.h l h _ rfl))
theorem a1w(l:List Nat)(h:l.length<2^62):bg P b L s8 [.s l] (.b (kt l)):=
 eh 12 rfl l rfl rfl rfl (mq hb (bg.ok L) _ aM.N4.1 rfl rfl rfl rfl (ae:=1000) (cn _).1 (cn _).2 (c5X bg.fn (On hb aM) aM.HW.2 (fun x y _ _=>a1u hb aM x y) aM.N3.2 l h _ rfl))
theorem Oq(l:List Nat)(h:l.length<2^62):bg P b L ph [.s l] (.b (hv l)):=
 eh 13 rfl l rfl rfl rfl (mq hb (bg.ok L) _ aM.HX.1 rfl rfl rfl rfl (ae:=1000) (cn _).1 (cn _).2 (c5Y bg.fn (a1v hb aM) aM.Function.2 (fun x y _ _=>a1u hb aM x y) aM.N3.2 l h _ rfl))
theorem d1A(k:Nat)(l:List Nat)(h:l.length<2^62):bg P b L w8 [b5 k,.s l] (.b (fW k l)):=
 eh 14 rfl (k,l) rfl rfl rfl (mq hb (bg.ok L) _ aM.named.1 rfl rfl rfl rfl (ae:=1000) (cn _).1 (cn _).2 (c6g bg.fn (On hb aM) aM.HW.2 (Oo hb aM) aM.Variable.2 (a1w hb aM) aM.N4.2 k l h _ rfl))
theorem d1B(a:Option (List Tm))(h:(a.getD []).length<2^62)(h2:∀t∈a.getD [],t.name.length<2^62):bg P b L w9 [cR true a] (.b (instB (a.getD []))):=
 eh 15 rfl a rfl rfl rfl (mq hb (bg.ok L) _ aM.a0T.1 rfl rfl rfl rfl (ae:=1000) (cn _).1 (cn _).2 (c6h bg.fn (Oo hb aM) aM.Variable.2 (Oq hb aM) aM.HX.2 a h h2 _ rfl))
theorem a1x(f:Fm)(h:f.ok):bg P b L uK [.ag (aV f)] (cN (gU f)):=
 eh 16 rfl f rfl rfl rfl (c4W hb (bg.ok L) _ aM.N5.1 rfl rfl rfl rfl (ae:=1000) (zL _).1 (zL _).2 (by rw[←oq];exact c5J aM.visit.h aM.d1d.h aM.walk.h f (Fm.ok.c9C h) _ rfl))
theorem d1C(l:List Nat)(h:l.length<2^62):bg P b L rN [.s l] (.b (isMeta l)):=
 eh 17 rfl l rfl rfl rfl (fH hb (bg.ok L) _ aM.a0U.1 rfl rfl rfl (ae:=1000) (cn _).1 (cn _).2 (c7O bg.fn aM.N4.2 (a1w hb aM) aM.HX.2 (Oq hb aM) l h _ rfl))
theorem d1D:CN b (bg P b L) where
 fn:=bg.fn
 var:=Oo hb aM
 CO:=a1v hb aM
 Yx:=Oq hb aM
 named:=d1A hb aM
 inst:=fun a h h2=>d1B hb aM a h fun t ht=>(h2 t ht).1
 tf:=aM.Variable.2
 zx:=aM.Function.2
 MW:=aM.HX.2
 MX:=aM.named.2
 MY:=aM.a0T.2
 node:=aM.d1e.h
 term:=aM.d1f.h
 Hn:=aM.d1g.h
 form:=aM.d1h.h
theorem d1E:HG b (bg P b L) where
 fn:=bg.fn
 HH:=aM.d1n.h
 add:=aM.d1o.h
 Z3:=aM.d1p.h
 Z4:=aM.a0U.2
 mt:=d1C hb aM
 keys:=aM.d1q.h
 sorted:=aM.d1r.h
 Z5:=aM.d1s.h
 app:=aM.d1t.h
 Z6:=aM.d1u.h
 uJ:=aM.uJ
 HI:=aM.HI
 stood:=aM.d1m.h
 CY:=aM.HW.2
 pred:=On hb aM
theorem d1F(f:Fm)(h:f.ok)(h2:2*f.dep≤b.aT+800):bg P b L zg [.ag (aV f)] (.b (hj true f)):=
 eh 18 rfl f rfl rfl rfl (fH hb (bg.ok L) _ aM.a0V.1 rfl rfl rfl (ae:=1000) (cn _).1 (cn _).2 (c8a (d1D hb aM) aM.rows f h2 h _ rfl))
theorem a1y(m:List Nat):∀(d:Nat) (f:Fm),f.dep≤d→2*d+1≤b.aT+1000→f.ok→u_ f→bg P b L uP [.ag (aV f),.s m] (.b (hB m f))
 |0,f,h,_,_,_=>by rw[Fm.fO] at h;omega
 |d+1,f,h,an,ax,ha=>eh 19 rfl (f,m) rfl rfl rfl (fH hb (bg.ok L) _ aM.N6.1 rfl rfl rfl (ae:=1000) (cn _).1 (cn _).2 (c8g bg.fn aM.d1i.h aM.d1j.h aM.d1k.h f m ax.pb ha.self (fun u hu=>Snp.jz (d:=d) (by have:=Fm.iF hu;omega) (by omega)) aM.N6.2 (fun u hu=>a1y m d u (by have:=Fm.iF hu;omega) (by omega) (ax.ml u hu) (ha.sub hu)) _ rfl))
theorem d1G(l:List Nat)(h:l.length<2^62):bg P b L zd [.s l] (.b (iI l)):=
 eh 20 rfl l rfl rfl rfl (fH hb (bg.ok L) _ aM.a0W.1 rfl rfl rfl (ae:=1000) (cn _).1 (cn _).2 (c6x l h _ rfl))
theorem d1H(l:List Nat)(h:l.length<2^62):bg P b L za [.s l] (.b (iI l)):=
 eh 24 rfl l rfl rfl rfl (fH hb (bg.ok L) _ aM.a1a.1 rfl rfl rfl (ae:=1000) (cn _).1 (cn _).2 (Y5 l h _ rfl))
theorem d1I(l:List Nat)(h:l.length<2^62):bg P b L zq [.s l] (.b (iI l)):=
 eh 43 rfl l rfl rfl rfl (fH hb (bg.ok L) _ aM.a1i.1 rfl rfl rfl (ae:=1000) (cn _).1 (cn _).2 (c6y l h _ rfl))
theorem d1J{D:Nat}(p:eo)(h:vg b D p)(hp:k2 p=true):bg P b L zf [.ag (gl p)] (.b (pt p)):=
 eh 21 rfl p rfl rfl rfl (ZS hb (bg.ok L) _ aM.a0X.1 rfl rfl rfl (ae:=1000) (cn _).1 (cn _).2 (c8t bg.fn aM.a1p.h aM.a1q.h p h.au (fun u hu=>h.oA u hu) aM.N6.2 (fun u hu=>a1y hb aM p.fresh D u (h.dep u hu) (by have:=h.aT;omega) (h.ok u hu) (Z1 ((HJ.1 hp).2 u hu))) _ rfl))
theorem d1K{D:Nat}(r:b6)(h:pC b D r):bg P b L zc [.ag (ec r)] (.b (fp r)):=
 eh 22 rfl r rfl rfl rfl (ZS hb (bg.ok L) _ aM.a0Y.1 rfl rfl rfl (ae:=1000) (cn _).1 (cn _).2 (c8x (d1E hb aM) aM.d1l.h aM.a1p.h aM.a1q.h r h.pl (fun p hp=>(h.xr p hp).au) h.ok h.oA (fun p hp=>(h.xr p hp).c9D) aM.a0W.2 (d1G hb aM _ h.nm) aM.a0V.2 (fun f hf=>d1F hb aM f (h.ok f hf) (by have:=h.dep f hf;have:=h.aT;omega)) aM.a0X.2 (fun p hp mT=>d1J hb aM p (h.xr p hp) mT) _ rfl))
theorem d1L(k:Nat)(h:k<256):bg P b L y_ [b5 k] (cN (k3 k)):=
 eh 23 rfl k rfl rfl rfl (fH hb (bg.ok L) _ aM.a0Z.1 rfl rfl rfl (ae:=1000) (zL _).1 (zL _).2 (c8A k h _ rfl))
theorem d1M{D:Nat}(r:b6)(h:pC b D r)(m:Nat):bg P b L zb [.ag (ec r),cN m] (.b (k4 m r)):=
 eh 25 rfl (r,m) rfl rfl rfl (fH hb (bg.ok L) _ aM.a1b.1 rfl rfl rfl (ae:=1000) (cn _).1 (cn _).2 (c8B bg.fn r m h.pl (fun p hp=>(h.xr p hp).au) h.oA aM.N5.2 (fun u hu=>a1x hb aM u (h.ok u hu)) _ rfl))
theorem d1N{D:Nat}(h:tv b D L):bg P b L y9 [.ag (lgC L)] (.b (ep L)):=
 eh 26 rfl () rfl rfl rfl (fH hb (bg.ok L) _ aM.a1c.1 rfl rfl rfl (ae:=1000) (cn _).1 (cn _).2 (c8F bg.fn L h.ops h.kind h.frame h.NY (fun r af=>(h.lz r af).Dc) aM.a0Z.2 (d1L hb aM _ h.kind) aM.a1a.2 (d1H hb aM _ h.nm) aM.a0Y.2 (fun r af=>d1K hb aM r (h.lz r af)) aM.a1b.2 (fun r af m=>d1M hb aM r (h.lz r af) m) _ rfl))
theorem H0(c bs hi:Nat):bg P b L pj [b5 c,b5 bs,b5 hi] (.b (kc c bs hi)):=
 eh 27 rfl (c,bs,hi) rfl rfl rfl (fH hb (bg.ok L) _ aM.De.1 rfl rfl rfl (ae:=1000) (cn _).1 (cn _).2 (c6z c bs hi _ rfl))
theorem Ot(d:Bool)(l:List Nat)(h:l.length<2^62):bg P b L rP [.s l,.b d] (.b (kJ d l)):=
 eh 28 rfl (l,d) rfl rfl rfl (fH hb (bg.ok L) _ aM.HY.1 rfl rfl rfl (ae:=1000) (cn _).1 (cn _).2 (c6A bg.fn aM.De.2 (H0 hb aM) d l h _ rfl))
theorem d1O(l:List Nat)(h:l.length<2^62):bg P b L zt [.s l] (.b (isVar l)):=
 eh 29 rfl l rfl rfl rfl (fH hb (bg.ok L) _ aM.a1d.1 rfl rfl rfl (ae:=1000) (cn _).1 (cn _).2 (c6C bg.fn aM.De.2 (H0 hb aM) aM.HY.2 (Ot hb aM) l h _ rfl))
theorem a1z(l:List Nat)(h:l.length<2^62):bg P b L u0 [.s l] (.b (gE l)):=
 eh 30 rfl l rfl rfl rfl (fH hb (bg.ok L) _ aM.N7.1 rfl rfl rfl (ae:=1000) (cn _).1 (cn _).2 (c6D bg.fn aM.De.2 (H0 hb aM) aM.HY.2 (Ot hb aM) l h _ rfl))
theorem a1A(l:List Nat)(h:l.length<2^62):bg P b L uZ [.s l] (.b (isFun l)):=
 eh 31 rfl l rfl rfl rfl (fH hb (bg.ok L) _ aM.N8.1 rfl rfl rfl (ae:=1000) (cn _).1 (cn _).2 (c6E bg.fn aM.De.2 (H0 hb aM) aM.HY.2 (Ot hb aM) l h _ rfl))
theorem d1P(l:List Nat)(h:l.length<2^62):bg P b L zu [.s l] (.b (kt l)):=
 eh 32 rfl l rfl rfl rfl (fH hb (bg.ok L) _ aM.a1e.1 rfl rfl rfl (ae:=1000) (cn _).1 (cn _).2 (c6F bg.fn aM.N7.2 (a1z hb aM) l h _ rfl))
theorem d1Q(l:List Nat)(h:l.length<2^62):bg P b L zv [.s l] (.b (hv l)):=
 eh 33 rfl l rfl rfl rfl (fH hb (bg.ok L) _ aM.a1f.1 rfl rfl rfl (ae:=1000) (cn _).1 (cn _).2 (c6G bg.fn aM.N8.2 (a1A hb aM) l h _ rfl))
theorem a1B:Nc b (bg P b L) where
 fn:=bg.fn
 var:=d1O hb aM
 CO:=a1A hb aM
 pred:=a1z hb aM
 jz:=d1P hb aM
 rT:=d1Q hb aM
 tf:=aM.a1d.2
 zx:=aM.N8.2
 CY:=aM.N7.2
 Nd:=aM.a1e.2
 Nf:=aM.a1f.2
theorem d1R(s:Bool)(f:Fm)(h:f.ok):bg P b L zs [.ag (aV f),.b s] (.b (e8 s f)):=
 eh 34 rfl (f,s) rfl rfl rfl (fH hb (bg.ok L) _ aM.a1g.1 rfl rfl rfl (ae:=1000) (cn _).1 (cn _).2 (c6I (a1B hb aM) s f h _ rfl))
theorem a1C(s:Bool):∀(d:Nat) (t:Tm),t.dep≤d→2*d+1≤b.aT+1000→t.ok→bg P b L uU [.ag (vf true t),.b s] (.b (gV s t))
 |0,t,h,_,_=>by rw[Tm.fO] at h;omega
 |d+1,t,h,an,ax=>eh 35 rfl (t,s) rfl rfl rfl (fH hb (bg.ok L) _ aM.N9.1 rfl rfl rfl (ae:=1000) (cn _).1 (cn _).2 (c6U (a1B hb aM) s t ax (fun u hu=>Snp.rT (d:=d) (by have:=Tm.j9 hu;omega) (by omega)) aM.N9.2 (fun u hu=>a1C s d u (by have:=Tm.j9 hu;omega) (by omega) (ax.arg u hu)) _ rfl))
theorem a1D(s:Bool):∀(d:Nat) (f:Fm),f.dep≤d→2*d+1≤b.aT+1000→f.ok→bg P b L uT [.ag (aV f),.b s] (.b (ji s f))
 |0,f,h,_,_=>by rw[Fm.fO] at h;omega
 |d+1,f,h,an,ax=>eh 36 rfl (f,s) rfl rfl rfl (fH hb (bg.ok L) _ aM.N_.1 rfl rfl rfl (ae:=1000) (cn _).1 (cn _).2 (c6V bg.fn s f ax (Snp.jz (d:=d+1) h an) (fun u hu=>Snp.rT (d:=d) (by have:=Fm.j9 hu;omega) (by omega)) (fun u hu=>Snp.jz (d:=d) (by have:=Fm.iF hu;omega) (by omega)) aM.a1g.2 aM.N9.2 aM.N_.2 (d1R hb aM s f ax) (fun u hu=>a1C hb aM s d u (by have:=Fm.j9 hu;omega) (by omega) (ax.arg u hu)) (fun u hu=>a1D s d u (by have:=Fm.iF hu;omega) (by omega) (ax.ml u hu)) _ rfl))
theorem a1E:∀(d:Nat) (a:Option (List Tm)),(∀u∈a.getD [],u.dep≤d)→2*d+3≤b.aT+1000→Tm.nds (a.getD [])<2^60→bg P b L uW [cR true a] (aC (Tm.nds (a.getD [])))
 |d,a,h,an,hn=>eh 37 rfl a rfl rfl rfl (fH hb (bg.ok L) _ aM.Oa.1 rfl rfl rfl (ae:=1000) (ho.aC (n:=999) _).1 (ho.aC (n:=999) _).2 (c6Y bg.fn a hn (fun u hu=>((Snp.rT (h u hu) (bK (2*d+1))).cells (cR true u.cH) (by simp)).le (by omega)) aM.Oa.2 (fun u hu=>by
  have h1:=h u hu;have h2:=Tm.fO u;have h3:=Tm.iZ u;have aN:=Tm.tl hu;obtain⟨e5,rfl⟩:∃e5,d=e5+1:=⟨d-1,by omega⟩
  exact a1E e5 u.cH (fun v av=>by have:=Tm.j9 (t:=u) av;omega) (by omega) (by show Tm.nds u.args<_;omega)) _ rfl))
theorem a1F:∀(d:Nat) (a:Option (List Tm)),(∀u∈a.getD [],u.dep≤d)→2*d+3≤b.aT+1000→Tm.nds (a.getD [])<2^60→bg P b L uY [cR true a] (aC (Tm.dM (a.getD [])))
 |d,a,h,an,hn=>eh 38 rfl a rfl rfl rfl (fH hb (bg.ok L) _ aM.Ob.1 rfl rfl rfl (ae:=1000) (ho.aC (n:=999) _).1 (ho.aC (n:=999) _).2 (c6Z bg.fn a hn (fun u hu=>((Snp.rT (h u hu) (bK (2*d+1))).cells (cR true u.cH) (by simp)).le (by omega)) aM.Ob.2 (fun u hu=>by
  have h1:=h u hu;have h2:=Tm.fO u;have h3:=Tm.iZ u;have aN:=Tm.tl hu;obtain⟨e5,rfl⟩:∃e5,d=e5+1:=⟨d-1,by omega⟩
  exact a1F e5 u.cH (fun v av=>by have:=Tm.j9 (t:=u) av;omega) (by omega) (by show Tm.nds u.args<_;omega)) _ rfl))
theorem a1G:∀(d:Nat) (f:Fm),f.dep≤d→2*d+3≤b.aT+1000→f.nd<2^60→bg P b L uV [.ag (aV f)] (aC f.nd)
 |0,f,h,_,_=>by rw[Fm.fO] at h;omega
 |d+1,f,h,an,hn=>eh 39 rfl f rfl rfl rfl (fH hb (bg.ok L) _ aM.Oc.1 rfl rfl rfl (ae:=1000) (ho.aC (n:=999) _).1 (ho.aC (n:=999) _).2 (c7a bg.fn f hn (((Snp.jz h (bK (2*(d+1)+1))).cells (cR true f.cH) (by simp)).le (by omega)) (fun u hu=>Snp.jz (d:=d) (by have:=Fm.iF hu;omega) (by omega)) aM.Oa.2 (a1E hb aM d f.cH (fun v av=>by have:=Fm.j9 (f:=f) av;omega) (by omega) (by have:=f.iZ;show Tm.nds f.args<_;omega)) aM.Oc.2 (fun u hu=>a1G d u (by have:=Fm.iF hu;omega) (by omega) (by have:=f.iZ;have:=Fm.tl hu;omega)) _ rfl))
theorem a1H:∀(d:Nat) (f:Fm),f.dep≤d→2*d+3≤b.aT+1000→f.nd<2^60→bg P b L uX [.ag (aV f)] (aC f.dep)
 |0,f,h,_,_=>by rw[Fm.fO] at h;omega
 |d+1,f,h,an,hn=>eh 40 rfl f rfl rfl rfl (fH hb (bg.ok L) _ aM.Od.1 rfl rfl rfl (ae:=1000) (ho.aC (n:=999) _).1 (ho.aC (n:=999) _).2 (c7b bg.fn f hn (((Snp.jz h (bK (2*(d+1)+1))).cells (cR true f.cH) (by simp)).le (by omega)) (fun u hu=>Snp.jz (d:=d) (by have:=Fm.iF hu;omega) (by omega)) aM.Ob.2 (a1F hb aM d f.cH (fun v av=>by have:=Fm.j9 (f:=f) av;omega) (by omega) (by have:=f.iZ;show Tm.nds f.args<_;omega)) aM.Od.2 (fun u hu=>a1H d u (by have:=Fm.iF hu;omega) (by omega) (by have:=f.iZ;have:=Fm.tl hu;omega)) _ rfl))
theorem d1S{d:Nat}(f:Fm)(h:f.dep≤d)(an:2*d+3≤b.aT+1000)(ax:f.ok)(hn:f.nd<2^60):bg P b L zr [.ag (aV f)] (.b (hj true f)):=
 eh 41 rfl f rfl rfl rfl (fH hb (bg.ok L) _ aM.a1h.1 rfl rfl rfl (ae:=1000) (cn _).1 (cn _).2 (c7c bg.fn f hn (Snp.jz h (by omega)) aM.N_.2 (a1D hb aM true d f h (by omega) ax) aM.Oc.2 (a1G hb aM d f h an hn) aM.Od.2 (a1H hb aM d f h an hn) _ rfl))
theorem Ou:∀(d:Nat) (f:Fm),f.dep≤d→2*d+1≤b.aT+1000→f.ok→f.nd<2^60→bg P b L rO [.ag (aV f)] (cN (gU f))
 |0,f,h,_,_,_=>by rw[Fm.fO] at h;omega
 |d+1,f,h,an,ax,hn=>eh 42 rfl f rfl rfl rfl (fH hb (bg.ok L) _ aM.HZ.1 rfl rfl rfl (ae:=1000) (zL _).1 (zL _).2 (c7d bg.fn f hn ax.op (fun u hu=>Snp.jz (d:=d) (by have:=Fm.iF hu;omega) (by omega)) aM.HZ.2 (fun u hu=>Ou d u (by have:=Fm.iF hu;omega) (by omega) (ax.ml u hu) (by have:=f.iZ;have:=Fm.tl hu;omega)) _ rfl))
theorem Ov(m:List Nat):∀(d:Nat) (f:Fm),f.dep≤d→2*d+1≤b.aT+1000→f.ok→bg P b L s_ [.ag (aV f),b5 15,.s m] (.b (kK 15 m f))
 |0,f,h,_,_=>by rw[Fm.fO] at h;omega
 |d+1,f,h,an,ax=>eh 44 rfl (f,m) rfl rfl rfl (fH hb (bg.ok L) _ aM.Oe.1 rfl rfl rfl (ae:=1000) (cn _).1 (cn _).2 (c7g bg.fn f 15 m ax.pb (fun u hu=>Snp.jz (d:=d) (by have:=Fm.iF hu;omega) (by omega)) aM.Oe.2 (fun u hu=>Ov m d u (by have:=Fm.iF hu;omega) (by omega) (ax.ml u hu)) _ rfl))
theorem a1I(m:List Nat):∀(d:Nat) (f:Fm),f.dep≤d→2*d+1≤b.aT+1000→f.ok→u_ f→bg P b L uR [.ag (aV f),.s m] (.b (hB m f))
 |0,f,h,_,_,_=>by rw[Fm.fO] at h;omega
 |d+1,f,h,an,ax,ha=>eh 45 rfl (f,m) rfl rfl rfl (fH hb (bg.ok L) _ aM.Of.1 rfl rfl rfl (ae:=1000) (cn _).1 (cn _).2 (c7h bg.fn f m ax.pb ha.self (fun u hu=>Snp.jz (d:=d) (by have:=Fm.iF hu;omega) (by omega)) aM.Of.2 (fun u hu=>a1I m d u (by have:=Fm.iF hu;omega) (by omega) (ax.ml u hu) (ha.sub hu)) _ rfl))
theorem a1J{D:Nat}{r:b6}(af:pC b D r):∀(d:Nat) (f:Fm),f.dep≤d→2*d+1≤b.aT+1000→f.ok→bg P b L uS [.ag (ec r),.ag (aV f)] (.b (hk r f))
 |0,f,h,_,_=>by rw[Fm.fO] at h;omega
 |d+1,f,h,an,ax=>eh 46 rfl (r,f) rfl rfl rfl (fH hb (bg.ok L) _ aM.Og.1 rfl rfl rfl (ae:=1000) (cn _).1 (cn _).2 (c7i bg.fn r f ax.pb af.pl af.Dc (af.oA _ r.mC) (fun p hp=>af.oA _ (b6.mD hp)) (fun u hu=>Snp.jz (d:=d) (by have:=Fm.iF hu;omega) (by omega)) aM.Oe.2 (fun m=>Ov hb aM m D _ (af.dep _ r.mC) (by have:=af.aT;omega) (af.ok _ r.mC)) (fun p hp m=>Ov hb aM m D _ (af.dep _ (b6.mD hp)) (by have:=af.aT;omega) (af.ok _ (b6.mD hp))) aM.Og.2 (fun u hu=>a1J af d u (by have:=Fm.iF hu;omega) (by omega) (ax.ml u hu)) _ rfl))
theorem d1T{D:Nat}(r:b6)(h:pC b D r)(hn:∀f∈r.fs,f.nd<2^60):bg P b L zp [.ag (ec r)] (.b (fp r)):=
 eh 47 rfl r rfl rfl rfl (fH hb (bg.ok L) _ aM.a1j.1 rfl rfl rfl (ae:=1000) (cn _).1 (cn _).2 (c7j bg.fn r h.pl (fun p hp=>(h.xr p hp).au) h.Dc h.oA aM.a1i.2 (d1I hb aM _ h.nm) aM.a1h.2 (fun f hf=>d1S hb aM f (h.dep f hf) (by have:=h.aT;omega) (h.ok f hf) (hn f hf)) aM.Of.2 (fun f hf hs m=>a1I hb aM m D f (h.dep f hf) (by have:=h.aT;omega) (h.ok f hf) (Z1 hs)) aM.Og.2 (fun f hf=>a1J hb aM h D f (h.dep f hf) (by have:=h.aT;omega) (h.ok f hf)) _ rfl))
theorem d1U{d:Nat}(f:Fm)(h:f.dep≤d)(an:2*d+1≤b.aT+1000)(ax:f.ok)(hn:f.nd<2^60)(m:Nat):bg P b L zo [.ag (aV f),cN m] (.b (jT m f)):=
 eh 49 rfl (f,m) rfl rfl rfl (fH hb (bg.ok L) _ aM.a1k.1 rfl rfl rfl (ae:=1000) (cn _).1 (cn _).2 (c7p bg.fn f m (Snp.jz h an) aM.HZ.2 (Ou hb aM d f h an ax hn) _ rfl))
theorem a1K:∀(d:Nat) (t:Tm),t.dep≤d→2*d+1≤b.aT+1000→t.ok→∀k,k≤600→bg P b L uO [.ag (vf true t),aC k] (aC (min t.nd (k+1)))
 |0,t,h,_,_,_,_=>by rw[Tm.fO] at h;omega
 |d+1,t,h,an,ax,k,Ow=>eh 51 rfl (t,k) rfl rfl rfl (fH hb (bg.ok L) _ aM.Oh.1 rfl rfl rfl (ae:=1000) (ho.aC (n:=999) _).1 (ho.aC (n:=999) _).2 (c8G bg.fn t k Ow (fun u hu=>Snp.rT (d:=d) (by have:=Tm.j9 hu;omega) (by omega)) ax.len aM.Oh.2 (fun u hu gZ xY=>a1K d u (by have:=Tm.j9 hu;omega) (by omega) (ax.arg u hu) gZ xY) _ rfl))
theorem a1L:∀(d:Nat) (f:Fm),f.dep≤d→2*d+1≤b.aT+1000→f.ok→∀k,k≤600→bg P b L rM [.ag (aV f),aC k] (aC (min f.nd (k+1)))
 |0,f,h,_,_,_,_=>by rw[Fm.fO] at h;omega
 |d+1,f,h,an,ax,k,Ow=>eh 52 rfl (f,k) rfl rfl rfl (fH hb (bg.ok L) _ aM.Oi.1 rfl rfl rfl (ae:=1000) (ho.aC (n:=999) _).1 (ho.aC (n:=999) _).2 (c8H bg.fn f k Ow (fun u hu=>Snp.rT (d:=d) (by have:=Fm.j9 hu;omega) (by omega)) (fun u hu=>Snp.jz (d:=d) (by have:=Fm.iF hu;omega) (by omega)) ax.zy ax.pb aM.Oh.2 (fun u hu gZ xY=>a1K hb aM d u (by have:=Fm.j9 hu;omega) (by omega) (ax.arg u hu) gZ xY) aM.Oi.2 (fun u hu gZ xY=>a1L d u (by have:=Fm.iF hu;omega) (by omega) (ax.ml u hu) gZ xY) _ rfl))
theorem d1V{D:Nat}(r:b6)(h:pC b D r):bg P b L y8 [.ag (ec r)] (.b (ox r)):=
 eh 53 rfl r rfl rfl rfl (fH hb (bg.ok L) _ aM.a1m.1 rfl rfl rfl (ae:=1000) (cn _).1 (cn _).2 (c8L bg.fn aM.d1v.h r h.pl (fun p hp=>(h.xr p hp).au) h.oA aM.Oi.2 (fun u hu=>a1L hb aM D u (h.dep u hu) (by have:=h.aT;omega) (h.ok u hu) 600 (bK _)) (fun u hu=>Snp.eqb _ _ (h.oA u hu)) (fun p hp=>Snp.eqb _ _ (h.xr p hp).c9E) _ rfl))
theorem d1W{D:Nat}(g:r2 P b)(h:tv b D L)(hn:∀r∈L.rules,∀f∈r.fs,f.nd<2^60):bg P b L zn [.ag (lgC L)] (.b (ep L)):=
 eh 50 rfl () rfl rfl rfl (fH hb (bg.ok L) _ aM.a1l.1 rfl rfl rfl (ae:=1000) (cn _).1 (cn _).2 (c7q bg.fn L h.ops h.kind h.frame h.nm h.NY (fun r af=>(h.lz r af).pl) (fun r af=>(h.lz r af).au) (fun r af=>(h.lz r af).Dc) (fun r af=>(h.lz r af).oA) aM.d0U (fun h1 h2=>eh 48 rfl L.kind rfl rfl rfl (g.N0 _ h1 h2)) aM.a1j.2 (fun r af=>d1T hb aM r (h.lz r af) (hn r af)) aM.a1k.2 (fun r af f hf m=>d1U hb aM f ((h.lz r af).dep f hf) (by have:=(h.lz r af).aT;omega) ((h.lz r af).ok f hf) (hn r af f hf) m) _ rfl))
theorem d1X(g:r2 P b){p:fw}(hp:p∈pats)(ax:L.kind≤8)(hf:L.frame<256):bg P b L zk [.ag (hl true p),.ag (lgC L)] (.b (oz p L)):=
 eh 54 rfl p rfl rfl rfl (fH hb (bg.ok L) _ aM.a1n.1 rfl rfl rfl (ae:=1000) (cn _).1 (cn _).2 (c9n bg.fn p L (pat hp).kinds ax (pat hp).frame hf (pat hp).len (fun u hu=>(pat hp).a0M u hu) aM.d1b.h aM.d1c.h (a0N hp).1 (a0N hp).2 (pat hp).c9I (pat hp).c9J aM.N5.2 (fun u hu=>a1x hb aM u ((pat hp).ok u hu)) _ rfl))
theorem d1Y{p:fw}(hp:p∈pats)(ax:L.kind≤8)(hf:L.frame<256):bg P b L zm [.ag (hl true p),.ag (lgC L)] (.b (mE p L)):=
 eh 55 rfl p rfl rfl rfl (fH hb (bg.ok L) _ aM.a1o.1 rfl rfl rfl (ae:=1000) (cn _).1 (cn _).2 (c9s bg.fn p L (pat hp).kinds ax (pat hp).frame hf (by have:=(pat hp).len;unfold fw.fs at this;rw[k_] at this;omega) (fun u hu=>Snp.jz (d:=10) ((pat hp).dep u hu) (by omega)) aM.HZ.2 (fun u hu=>Ou hb aM 10 u ((pat hp).dep u hu) (by omega) ((pat hp).ok u hu) ((pat hp).nd u hu)) _ rfl))
theorem d1Z{D:Nat}(g:r2 P b)(h:tv b D L):fx P b zj [.ag (lgC L)] (cond (ep L) (.aK [slA false none ((ptN L pats).map AV.s),aC 0]) (.aK [.J,aC 2])):=
 fH hb (bg.ok L) _ aM.d0Y.1 rfl rfl rfl (ae:=1000) (HU _ _).1 (HU _ _).2 (c9t bg.fn L pats (by decide) h.oA (fun p hp=>(pat hp).a0L) aM.a1c.2 (d1N hb aM h) aM.d0V (eh 56 rfl () rfl rfl rfl g.c9L) aM.a1n.2 (fun af p hp=>d1X hb aM g hp (a0O af) h.frame) _ rfl)
theorem d2a{D:Nat}(g:r2 P b)(h:tv b D L)(hn:∀r∈L.rules,∀f∈r.fs,f.nd<2^60):fx P b zl [.ag (lgC L)] (cond (ep L) (.aK [slA false none ((pA L pats).map AV.s),aC 0]) (.aK [.J,aC 2])):=
 fH hb (bg.ok L) _ aM.d0Z.1 rfl rfl rfl (ae:=1000) (HU _ _).1 (HU _ _).2 (c9v bg.fn L pats (by decide) h.oA (fun p hp=>(pat hp).a0L) aM.a1l.2 (d1W hb aM g h hn) aM.d0W (eh 57 rfl () rfl rfl rfl g.c9M) aM.a1o.2 (fun af p hp=>d1Y hb aM hp (a0O af) h.frame) _ rfl)
theorem d2b{D:Nat}(h:tv b D L):fx P b uN [.ag (lgC L)] (.b (rY L)):=
 fH hb (bg.ok L) _ aM.d0X.1 rfl rfl rfl (ae:=1000) (cn _).1 (cn _).2 (c8Q bg.fn L h.NY (fun r af=>(h.lz r af).Dc) aM.a1m.2 (fun r af=>d1V hb aM r (h.lz r af)) _ rfl)
theorem d2c(L:Lgc)(N:List (List Nat))(uC:N.length<2^62):fx P b G_ [slA true none (N.map fk),slA true none (N.map fk)] (.b true):=
 fH hb (bg.ok L) _ aM.d1a.1 rfl rfl rfl (ae:=1000) (cn _).1 (cn _).2 (c9B (K:=bg P b L) N uC _ rfl)
end
end
section
open Go Go.RowKit Go.Lyc.T
section
variable [Tok][TokOk]
structure jB(v bJ:AV):Prop where
 cf:conf none v=conf none bJ
 r:∀(w:World) (O:Nat→Prop) (B:Nat) (u:Value),aq w (fun _=>none) O B v u↔aq w (fun _=>none) O B bJ u
theorem jB.refl(v:AV):jB v v:=⟨rfl,fun _ _ _ _=>CI⟩
theorem jB.symm{v bJ:AV}(h:jB v bJ):jB bJ v:=⟨h.cf.symm,fun w O B u=>(h.r w O B u).symm⟩
theorem jB.y{i:Nat}(h:(∃k n,Tok.Ew i= .i k n)∨∃l,Tok.Ew i= .s l):jB (.y i) (Tok.Ew i):=by
 refine⟨by rcases h with⟨k,n,e⟩|⟨l,e⟩<;>rw[e]<;>rfl,fun w O B u=>⟨fun b9=>?_,fun b9=>.y ?_⟩⟩
 ·cases b9 with
  |y au=>
   rcases h with⟨k,n,e⟩|⟨l,e⟩
   ·rw[e] at au ⊢;cases au;exact .i _ _
   ·rw[e] at au ⊢;cases au with
    |s l h=>exact .s l h
 ·rcases h with⟨k,n,e⟩|⟨l,e⟩
  ·rw[e] at b9 ⊢;cases b9;exact .i _ _
  ·rw[e] at b9 ⊢;cases b9 with
   |s l h=>exact .s l h
theorem jB.eN{I:Bool}{i:Nat}(h:Tok.sj I i= .J∨∃R l,Tok.sj I i= .aD I R l):jB (.eN I i) (Tok.sj I i):=by
 refine⟨by rcases h with e|⟨R,l,e⟩<;>rw[e]<;>rfl,fun w O B u=>⟨fun b9=>?_,fun b9=>?_⟩⟩
 ·cases b9 with
  |eN hu h=>exact h
 ·obtain⟨a,l,c,e⟩:∃a l c,u= .slice a l c:=by
   rcases h with e|⟨R,l,e⟩
   ·rw[e] at b9;cases b9;exact⟨_,_,_,rfl⟩
   ·rw[e] at b9;cases b9<;>exact⟨_,_,_,rfl⟩
  exact .eN e b9
def l1(l m:List AV):Prop:=l.length=m.length∧∀i (h:i<l.length) (h':i<m.length),jB l[i] m[i]
theorem l1.nil:l1 [] []:=⟨rfl,fun i h=>by cases h⟩
theorem l1.cons{x y:AV}{l m:List AV}(h:jB x y)(au:l1 l m):l1 (x::l) (y::m):=⟨by rw[jD,jD,au.1],fun i h1 h2=>by
 cases i with
 |zero=>exact h
 |succ i=>exact au.2 i (by simpa using h1) (by simpa using h2)⟩
theorem l1.symm{l m:List AV}(h:l1 l m):l1 m l:=⟨h.1.symm,fun i h1 h2=>(h.2 i h2 h1).symm⟩
theorem jB.a1M{l m:List AV}(h:l1 l m){w:World}{O:Nat→Prop}{B:Nat}{u:Value}(b9:aq w (fun _=>none) O B (.ag l) u):aq w (fun _=>none) O B (.ag m) u:=by
 cases b9 with
 |ag hs af hf=>
  refine .ag (by rw[hs,h.1]) (fun i h1 h2=>((h.2 i (by rw[h.1];exact h1) h1).r _ _ _ _).1 (af i (by rw[h.1];exact h1) h2)) fun x hx=>?_;obtain⟨i,hi,rfl⟩:=k8 hx;rw[←(h.2 i (by rw[h.1];exact hi) hi).cf];exact hf _ (cB _)
theorem jB.ag{l m:List AV}(h:l1 l m):jB (.ag l) (.ag m):=⟨rfl,fun _ _ _ _=>⟨jB.a1M h,jB.a1M h.symm⟩⟩
theorem jB.a1N{l m:List AV}(h:l1 l m){w:World}{O:Nat→Prop}{B:Nat}{u:Value}(b9:aq w (fun _=>none) O B (.aK l) u):aq w (fun _=>none) O B (.aK m) u:=by
 cases b9 with
 |aK hs af=>exact .aK (by rw[hs,h.1]) (fun i h1 h2=>((h.2 i (by rw[h.1];exact h1) h1).r _ _ _ _).1 (af i (by rw[h.1];exact h1) h2))
theorem jB.aK{l m:List AV}(h:l1 l m):jB (.aK l) (.aK m):=⟨rfl,fun _ _ _ _=>⟨jB.a1N h,jB.a1N h.symm⟩⟩
theorem l1.bm{l m:List AV}(h:l1 l m){w:World}{O:Nat→Prop}{B:Nat}{us:List Value}(b9:bm w (fun _=>none) O B m us):bm w (fun _=>none) O B l us:=⟨by rw[b9.1,h.1],fun i h1 h2=>((h.2 i h1 (by rw[←h.1];exact h1)).r _ _ _ _).2 (b9.2 i (by rw[←h.1];exact h1) h2)⟩
theorem fx.eqv{P:Program}{b:cv}{g:Nat}{aO a1O:List AV}{r cj:AV}(h:fx P b g aO r)(au:l1 a1O aO)(af:jB r cj):fx P b g a1O cj:=fun cM=>
 ⟨(h cM).1,fun k rd w us fc eS b9=>((h cM).2 k rd w us fc eS (au.symm.bm b9)).mono fun e bn ⟨u,aE,aY,cZ⟩=>⟨u,aE,(af.r _ _ _ _).1 aY,cZ⟩⟩
end
section
variable [Tok]
def Seen(w:World)(I bE:Bool)(O gr:Nat→Prop)(B dp:Nat):Prop:=∀ar,ar<w.heap.size→¬O ar→(I=false→B≤ar)→¬gr ar∧(bE=false→dp≤ar)
theorem H2{α:Type}{w:World}{I bE:Bool}{O gr:Nat→Prop}{B dp k:Nat}(cE:Seen w I bE O gr B dp)(f g:α→List AV)(l:List α)(hf:∀x∈l,(f x).length=k)(hg:∀x∈l,(g x).length=k)(ab:∀x∈l,∀y∈g x,conf none y=true)
  (ay:∀x∈l,∀i (h:i<(f x).length) (h':i<(g x).length) u,aq w (fun _=>none) O B ((f x)[i]) u→aq w (fun _=>none) gr dp ((g x)[i]) u) {u:Value} (h:aq w (fun _=>none) O B (.aD I (some k) (l.map fun x=>.ag (f x))) u):aq w (fun _=>none) gr dp (.aD bE (some k) (l.map fun x=>.ag (g x))) u:=by
 generalize dC:l.map (fun x=>AV.ag (f x))=xs at h;cases h with
 |kR=>
  obtain rfl:=CH.1 dC;exact .kR
 |aD aZ cY hs sx af au a1P dS=>
  rename_i ar off dR sp;have hlen:xs.length=(l.map fun x=>AV.ag (g x)).length:=by rw[←dC,dO,dO]
  rw[hlen];have bS:(l.map fun x=>AV.ag (g x))≠[]→xs≠[]:=fun h e=>h (by rw[←dC,CH] at e;rw[e];rfl);have hx:∀i (h:i<xs.length) (h':i<l.length),xs[i]= .ag (f l[i]):=fun i h h'=>by subst dC;simp
  have aJ:∀i (h:i<(l.map fun x=>AV.ag (g x)).length) (h':i<l.length),(l.map fun x=>AV.ag (g x))[i]= .ag (g l[i]):=fun i h h'=>by simp
  have e0q:(l.map fun x=>AV.ag (g x)).length=l.length:=dO ..;refine .aD aZ (fun h=>?_) (fun i hi=>?_) (fun i hi j aB=>?_) (fun i hi j aB=>?_) (by omega) (fun v av x hx=>?_) (fun h=>dS (bS h))
  ·obtain⟨h1,h2,h3⟩:=cY (bS h);obtain⟨aN,bH⟩:=cE ar h2 h1 h3;exact⟨aN,h2,bH⟩
  ·rw[aJ i hi (by omega)];show conf (some k) (.ag _)=true;simp[conf,hg _ (cB (show i<l.length by omega))]
  ·have dc:i<l.length:=by omega
   have aE:((l.map fun x=>AV.ag (g x))[i]).cells=g l[i]:=by rw[aJ i hi dc];rfl
   have fK:j<(g l[i]).length:=by rw[aE] at aB;exact aB
   have aY:(xs[i]'(by omega)).cells=f l[i]:=by rw[hx i (by omega) dc];rfl
   exact sx i (by omega) j (by rw[aY,hf _ (cB dc),← hg _ (cB dc)];exact fK)
  ·have dc:i<l.length:=by omega
   have aE:((l.map fun x=>AV.ag (g x))[i]).cells=g l[i]:=by rw[aJ i hi dc];rfl
   have fK:j<(g l[i]).length:=by rw[aE] at aB;exact aB
   have aY:(xs[i]'(by omega)).cells=f l[i]:=by rw[hx i (by omega) dc];rfl
   have mf:j<(f l[i]).length:=by rw[hf _ (cB dc),← hg _ (cB dc)];exact fK
   have:=af i (by omega) j (by rw[aY];exact mf);simp only[aY] at this;simp only[aE];exact ay _ (cB dc) j mf fK _ this
  ·obtain⟨y,aJ,rfl⟩:=fq.1 av;exact ab y aJ x hx
theorem Ox{w:World}{I bE:Bool}{O gr:Nat→Prop}{B dp:Nat}(cE:Seen w I bE O gr B dp):∀(d:Nat) (a:Option (List Tm)),Tm.dM (a.getD [])<d→∀u,aq w (fun _=>none) O B (cR I a) u→aq w (fun _=>none) gr dp (cR bE a) u
 |0,a,h,_,_=>by omega
 |d+1,none,_,u,h=>by
  have h:aq w (fun _=>none) O B .J u:=h;cases h;exact .J
 |d+1,some l,an,u,h=>by
  refine H2 (k:=3) cE (fun t:Tm=>t.cells I) (fun t:Tm=>t.cells bE) l (fun t _=>by rw[Tm.fF];rfl) (fun t _=>by rw[Tm.fF];rfl) (fun t _ y aJ=>?_) (fun t ht i h1 h2 u hu=>?_) h
  ·rw[Tm.fF] at aJ;simp only[dP,mO,or_false] at aJ;rcases aJ with rfl|rfl|rfl
   ·rfl
   ·rfl
   ·cases t.cH<;>rfl
  ·have Oy:Tm.dM (t.cH.getD [])<d:=by
    have h3:Tm.dM l<d+1:=an;have aN:=Tm.sW ht;have bH:t.dep=Tm.dM (t.cH.getD [])+1:=Tm.fO t;omega
   simp only[Tm.fF] at hu h1 h2 ⊢
   match i,h1 with
   |0,_=>cases hu;exact .b _
   |1,_=>cases hu;exact .s _ (by assumption)
   |2,_=>exact Ox cE d t.cH Oy u hu
theorem a1Q{w:World}{I bE:Bool}{O gr:Nat→Prop}{B dp:Nat}(cE:Seen w I bE O gr B dp):∀(d:Nat) (a:Option (List Fm)),Fm.dM (a.getD [])<d→∀u,aq w (fun _=>none) O B (dk I a) u→aq w (fun _=>none) gr dp (dk bE a) u
 |0,a,h,_,_=>by omega
 |d+1,none,_,u,h=>by
  have h:aq w (fun _=>none) O B .J u:=h;cases h;exact .J
 |d+1,some l,an,u,h=>by
  refine H2 (k:=4) cE (fun t:Fm=>t.cells I) (fun t:Fm=>t.cells bE) l (fun t _=>by rw[Fm.fF];rfl) (fun t _=>by rw[Fm.fF];rfl) (fun t _ y aJ=>?_) (fun t ht i h1 h2 u hu=>?_) h
  ·rw[Fm.fF] at aJ;simp only[dP,mO,or_false] at aJ;rcases aJ with rfl|rfl|rfl|rfl
   ·rfl
   ·rfl
   ·cases t.cH<;>rfl
   ·cases t.ea<;>rfl
  ·have Oy:Fm.dM (t.ea.getD [])<d:=by
    have h3:Fm.dM l<d+1:=an;have aN:=Fm.sW ht;have bH:t.dep=max (Tm.dM (t.cH.getD [])) (Fm.dM (t.ea.getD []))+1:=Fm.fO t;omega
   simp only[Fm.fF] at hu h1 h2 ⊢
   match i,h1 with
   |0,_=>cases hu;exact .i _ _
   |1,_=>cases hu;exact .s _ (by assumption)
   |2,_=>exact Ox cE _ t.cH (nO _) u hu
   |3,_=>exact a1Q cE d t.ea Oy u hu
end
abbrev Oz(I:Bool)(p:eo):List AV:=[dk I p.gF,.i .u8 (Int.ofNat p.bN.op),.s p.bN.name,cR I p.bN.cH,dk I p.bN.ea,.s p.fresh,.b p.closed]
def H3(I:Bool)(l:Option (List eo)):AV:=osl I (some 7) (l.map fun l=>l.map fun p=>.ag (Oz I p))
abbrev OA(I:Bool)(r:b6):List AV:=[.s r.name,H3 I r.dN,.i .u8 (Int.ofNat r.bN.op),.s r.bN.name,cR I r.bN.cH,dk I r.bN.ea]
def Df(I:Bool)(l:Option (List b6)):AV:=osl I (some 6) (l.map fun l=>l.map fun r=>.ag (OA I r))
section
variable [Tok]{w:World}{I bE:Bool}{O gr:Nat→Prop}{B dp:Nat}
theorem a1R(cE:Seen w I bE O gr B dp)(a:Option (List Tm))(u:Value)(h:aq w (fun _=>none) O B (cR I a) u):aq w (fun _=>none) gr dp (cR bE a) u:=Ox cE _ a (nO _) u h
theorem OB(cE:Seen w I bE O gr B dp)(a:Option (List Fm))(u:Value)(h:aq w (fun _=>none) O B (dk I a) u):aq w (fun _=>none) gr dp (dk bE a) u:=a1Q cE _ a (nO _) u h
theorem a1S(I:Bool)(a:Option (List Tm)):conf none (cR I a)=true:=by cases a<;>rfl
theorem OC(I:Bool)(a:Option (List Fm)):conf none (dk I a)=true:=by cases a<;>rfl
theorem d2d(I:Bool)(a:Option (List eo)):conf none (H3 I a)=true:=by cases a<;>rfl
theorem d2e(cE:Seen w I bE O gr B dp):∀(a:Option (List eo)) (u:Value),aq w (fun _=>none) O B (H3 I a) u→aq w (fun _=>none) gr dp (H3 bE a) u
 |none,u,h=>by
  have h:aq w (fun _=>none) O B .J u:=h;cases h;exact .J
 |some l,u,h=>by
  refine H2 (k:=7) cE (Oz I) (Oz bE) l (fun t _=>rfl) (fun t _=>rfl) (fun t _ y aJ=>?_) (fun t ht i h1 h2 u hu=>?_) h
  ·simp only[dP,mO,or_false] at aJ;rcases aJ with rfl|rfl|rfl|rfl|rfl|rfl|rfl
   ·exact OC _ _
   ·rfl
   ·rfl
   ·exact a1S _ _
   ·exact OC _ _
   ·rfl
   ·rfl
  ·match i,h1 with
   |0,_=>exact OB cE _ u hu
   |1,_=>cases hu;exact .i _ _
   |2,_=>cases hu;exact .s _ (by assumption)
   |3,_=>exact a1R cE _ u hu
   |4,_=>exact OB cE _ u hu
   |5,_=>cases hu;exact .s _ (by assumption)
   |6,_=>cases hu;exact .b _
theorem a1T(cE:Seen w I bE O gr B dp):∀(a:Option (List b6)) (u:Value),aq w (fun _=>none) O B (Df I a) u→aq w (fun _=>none) gr dp (Df bE a) u
 |none,u,h=>by
  have h:aq w (fun _=>none) O B .J u:=h;cases h;exact .J
 |some l,u,h=>by
  refine H2 (k:=6) cE (OA I) (OA bE) l (fun t _=>rfl) (fun t _=>rfl) (fun t _ y aJ=>?_) (fun t ht i h1 h2 u hu=>?_) h
  ·simp only[dP,mO,or_false] at aJ;rcases aJ with rfl|rfl|rfl|rfl|rfl|rfl
   ·rfl
   ·exact d2d _ _
   ·rfl
   ·rfl
   ·exact a1S _ _
   ·exact OC _ _
  ·match i,h1 with
   |0,_=>cases hu;exact .s _ (by assumption)
   |1,_=>exact d2e cE _ u hu
   |2,_=>cases hu;exact .i _ _
   |3,_=>cases hu;exact .s _ (by assumption)
   |4,_=>exact a1R cE _ u hu
   |5,_=>exact OB cE _ u hu
theorem a1U(cE:Seen w I bE O gr B dp)(l:List (List Nat))(u:Value)(h:aq w (fun _=>none) O B (slA I none (l.map AV.s)) u):aq w (fun _=>none) gr dp (slA bE none (l.map AV.s)) u:=by
 cases l with
 |nil=>
  have h:aq w (fun _=>none) O B .J u:=h;cases h;exact .J
 |cons x l=>
  have h:aq w (fun _=>none) O B (.aD I none ((x::l).map AV.s)) u:=h;show aq w (fun _=>none) gr dp (.aD bE none ((x::l).map AV.s)) u;generalize dC:(x::l).map AV.s=xs at h ⊢;cases h with
  |kR=>cases dC
  |aD aZ cY hs sx af au a1P dS=>
   refine .aD aZ (fun h=>?_) hs sx (fun i hi j aB=>?_) au a1P dS
   ·obtain⟨h1,h2,h3⟩:=cY h;obtain⟨aN,bH⟩:=cE _ h2 h1 h3;exact⟨aN,h2,bH⟩
   ·have h1:=af i hi j aB;have hm:xs[i]∈(x::l).map AV.s:=by rw[dC];exact cB hi
    obtain⟨s,_,e⟩:=fq.1 hm;have d2f:j=0:=by rw[←e] at aB;have:([AV.s s]:List AV).length=1:=rfl;have aB:j<([AV.s s]:List AV).length:=aB;omega
    subst d2f;have aY:(xs[i]).cells[0]'aB=AV.s s:=by simp only[←e];rfl
    rw[aY] at h1 ⊢;generalize aZ i 0=u at h1 ⊢;cases h1;exact .s _ (by assumption)
end
abbrev tokL(l:Lgc)(N:List (List Nat)):Tok:=⟨fun i=>match i with|0=>.s l.name|1=>.i .u32 (Int.ofNat l.ops)|2=>.i .u8 (Int.ofNat l.kind)|_=>.i .u8 (Int.ofNat l.frame),fun I i=>match i with|0=>Df I l.kd|_+1=>slA I none (N.map AV.s)⟩
theorem tokL_ok(l:Lgc)(N:List (List Nat)): @TokOk (tokL l N):=by
 letI:Tok:=tokL l N
 refine⟨fun {w O B dp i old u} h=>?_,fun {w O B i u} h=>?_⟩
 ·have cE:Seen w old true O (fun _=>False) B dp:=fun ar _ _ _=>⟨fun h=>h,fun h=>by cases h⟩
  cases i with
  |zero=>exact a1T cE l.kd u h
  |succ i=>exact a1U cE N u h
 ·have cE:Seen w false false O (fun b=>b<B) B B:=fun ar _ _ h=>⟨fun h'=>by have:=h rfl;omega,h⟩
  cases i with
  |zero=>exact a1T cE l.kd u h
  |succ i=>exact a1U cE N u h
abbrev l2:List AV:=[.y 0,.y 1,.y 2,.y 3,.eN true 0]
theorem d2g(l:Lgc)(N:List (List Nat)):letI:=tokL l N;l1 l2 (lgC l):=by
 letI:=tokL l N
 haveI:=tokL_ok l N
 refine .cons (.y (.inr ⟨_,rfl⟩)) (.cons (.y (.inl ⟨_,_,rfl⟩)) (.cons (.y (.inl ⟨_,_,rfl⟩)) (.cons (.y (.inl ⟨_,_,rfl⟩)) (.cons ?_ .nil))));have e:∀a,Df true a= .J∨∃R l,Df true a= .aD true R l:=fun a=>by
  cases a with
  |none=>exact .inl rfl
  |some l=>exact .inr ⟨_,_,rfl⟩
 exact .eN (i:=0) (e l.kd)
theorem d2h(l:Lgc)(N:List (List Nat))(I:Bool):letI:=tokL l N;jB (.eN I 1) (slA I none (N.map AV.s)):=by
 letI:=tokL l N
 haveI:=tokL_ok l N
 have e:∀a:List (List Nat),slA I none (a.map AV.s)= .J∨∃R l,slA I none (a.map AV.s)= .aD I R l:=fun a=>by
  cases a with
  |nil=>exact .inl rfl
  |cons x l=>exact .inr ⟨_,_,rfl⟩
 exact .eN (i:=1) (e N)
def zM:List (List Nat):=pats.map fw.name
def nmA:List AV:=.fY zM::zM.map AV.s
def zN(nm:AV):List AV:=[.ag l2,nm]
section
variable [Tok][TokOk]
structure OD(P:Program)(b:cv):Prop where
 many:fx P b uN [.ag l2] (.b false)→∀nm∈nmA,fx P b s9 (zN nm) (.b true)
 d2i:fx P b uN [.ag l2] (.b true)→fx P b zj [.ag l2] (.aK [.J,aC 2])→fx P b zl [.ag l2] (.aK [.J,aC 2])→∀nm∈nmA,fx P b s9 (zN nm) (.b true)
 right:fx P b uN [.ag l2] (.b true)→fx P b zj [.ag l2] (.aK [.eN false 1,aC 0])→fx P b zl [.ag l2] (.aK [.eN false 1,aC 0])→fx P b G_ [.eN true 1,.eN true 1] (.b true)→∀nm∈nmA,fx P b s9 (zN nm) (.b true)
end
theorem d2j{l:Lgc}(h:rY l=true):∀r∈l.rules,∀f∈r.fs,f.nd<2^60:=fun r af f hf=>by
 unfold rY at h;rw[bT,fI] at h;have h1:=h.2 r af;unfold ox at h1;rw[bT,bT] at h1;have h2:=of_decide_eq_true h1.2.2;have:=Fm.tl hf;omega
theorem fx.base[Tok]{P:Program}{b b':cv}{g:Nat}{aO:List AV}{r:AV}(hg:b.jm=b'.jm)(h:fx P b g aO r):fx P b' g aO r:=fun cM=>⟨(h cM).1,fun k rd w us fc eS b9=>(h cM).2 k rd w us fc (show Globs (b.env []) w cM from fun g v av=>eS g v (by show b'.jm g=some v;rw[←hg];exact av)) b9⟩
theorem d2k{P:Program}{b b':cv}(sS:b.jm=b'.jm)(l:Lgc){D:Nat}(hb:∀[Tok] [TokOk],iE P b)(aM:xt b)(g:∀[Tok] [TokOk],r2 P b)(mo:∀[Tok] [TokOk],OD P b')(h:tv b D l):
  letI:=tokL l (ptN l pats);∀nm∈nmA,fx P b' s9 [.ag (lgC l),nm] (.b true):=by
 letI:=tokL l (ptN l pats)
 haveI:=tokL_ok l (ptN l pats)
 intro nm hnm;have ht:=d2g l (ptN l pats);have zO:l1 [.ag l2] [.ag (lgC l)]:=.cons (.ag ht) .nil;have back:fx P b' s9 (zN nm) (.b true)→fx P b' s9 [.ag (lgC l),nm] (.b true):=fun ax=>ax.eqv (.cons (.symm (.ag ht)) (.cons (.refl _) .nil)) (.refl _);have f9:=(d2b hb aM h).base sS;cases hf:rY l with
 |false=>
  rw[hf] at f9;exact back (mo.many (f9.eqv zO (.refl _)) nm hnm)
 |true=>
  rw[hf] at f9;have f9:=f9.eqv zO (.refl _);have fe:=(d1Z hb aM g h).base sS;have jY:=(d2a hb aM g h (d2j hf)).base sS;cases au:ep l with
  |false=>
   rw[au] at fe jY;exact back (mo.d2i f9 (fe.eqv zO (.refl _)) (jY.eqv zO (.refl _)) nm hnm)
  |true=>
   rw[au] at fe jY;rw[←c8Z au] at jY;have x8:=fun I=>d2h l (ptN l pats) I;have dY:jB (.aK [.eN false 1,aC 0]) (.aK [slA false none ((ptN l pats).map AV.s),aC 0]):=.aK (.cons (x8 false) (.cons (.refl _) .nil));have hs:=(d2c hb aM l (ptN l pats) (vD (a0z l pats) (by decide))).base sS;exact back (mo.right f9 (fe.eqv zO dY.symm) (jY.eqv zO dY.symm) (hs.eqv (.cons (x8 true) (.cons (x8 true) .nil)) (.refl _)) nm hnm)
end
section
open Go Go.RowKit Go.ChangeShapes Go.WideShapes
theorem a1V{α:Type}{Q:Nat→α→Prop}:∀n,(∀i,i<n→∃c,Q i c)→∃l:List α,l.length=n∧∀i (h:i<l.length),Q i l[i]
 |0,_=>⟨[],rfl,fun i h=>by simp at h⟩
 |n+1,h=>by
  obtain⟨l,h1,h2⟩:=a1V (Q:=Q) n fun i hi=>h i (by omega);obtain⟨c,ab⟩:=h n (by omega);refine⟨l++[c],by simp[h1],fun i hi=>?_⟩;by_cases je:i<l.length
  ·rw[AK je];exact h2 i je
  ·have:i=n:=by simp at hi;omega
   subst this;rw[AL (by omega)];simpa [h1] using ab
section
variable {H:Type}{enc:TypeId×Value→H}{P:Program}{w:World}{B:Nat}
abbrev qF[Tok](w:World)(B:Nat):=bm w (fun _=>none) (fun _=>False) B
abbrev vh(w:World)(B:Nat)(l:List AV)(us:List Value):Prop:=∀[Tok] [TokOk],qF w B l us
theorem a1W{P:Program}{H:Type}{e:TypeId}{d:DataW H}:∀ {l:List (DataW H)},d∈l→∀m∈d.weights P e,m∈DataW.weightsAll P e l
 |x::l,h,m,hm=>by
  rw[DataW.weightsAll];rcases dP.1 h with rfl|h
  ·exact e4.2 (.inl hm)
  ·exact e4.2 (.inr (a1W h m hm))
theorem zP{α:Type}(f:α→List AV)(Q:α→Prop){t e:TypeId}{k fuel:Nat}{cs:List Value}{x:DataW H×List MemPlace}(ht:P.underlying t=some (.slice e))(ab:P.cellsOf e=k)(ax:0<k)(oS:0<P.bytesOf e)
  (ay:∀n,n+1=fuel→∀cs x,DataW.trod enc P w 0 (fun _=>true) true n e cs=some x→∃c:α,vh w B (f c) cs∧(f c).length=k∧(∀y∈f c,conf none y=true)∧((∀n∈x.1.weights P e,n≤reachBytes)→Q c))
  (h:DataW.trod enc P w 0 (fun _=>true) true fuel t cs=some x):∃I:Option (List α),vh w B [osl true (some k) (I.map fun l=>l.map fun c=>.ag (f c))] cs∧((∀n∈x.1.weights P t,n≤reachBytes)→(I.getD []).length<2^62∧∀c∈I.getD [],Q c):=by
 rcases LN ht h with⟨rfl,_⟩|⟨a,len,cap,elems,rest,n,eG,rfl,pD,_,nX,Ki,Km,dd,_,_⟩
 ·exact⟨none,.cons .J .nil,fun _=>⟨by simp,by simp⟩⟩
 subst ab;have each:∀i,i<len→∃c:α,∃us,w.cells? 0 (a.add (i*P.cellsOf e)) (P.cellsOf e)=some us∧vh w B (f c) us∧(f c).length=P.cellsOf e∧(∀y∈f c,conf none y=true)∧((∀n∈x.1.weights P t,n≤reachBytes)→Q c):=fun i hi=>by
  have hg:=dd i hi;rw[cS (show i<elems.length by omega)] at hg;simp only[c8] at hg;obtain⟨us,hu,L4⟩:=hg;obtain⟨c,h1,h2,h3,aN⟩:=ay n eG.symm us _ L4;refine⟨c,us,hu,h1,h2,h3,fun hw=>aN fun m hm=>hw m ?_⟩;rw[pD];simp only[DataW.weights,ht,dP,e4];exact .inr (.inl (a1W (fq.2 ⟨_,cB (show i<elems.length by omega),rfl⟩) _ hm))
 obtain⟨l,au,aI⟩:=a1V len each;refine⟨some l,.cons ?_ .nil,fun hw=>⟨?_,fun c ab=>?_⟩⟩
 case refine_2=>
  have:=hw ((elems.length+rest.length)*P.bytesOf e) (by rw[pD];simp[DataW.weights,ht]);have h1:elems.length*1≤(elems.length+rest.length)*P.bytesOf e:=Nat.mul_le_mul (Nat.le_add_right _ _) oS;have:reachBytes<2^62:=by decide
  show l.length<2^62;omega
 case refine_3=>
  obtain⟨i,hi,rfl⟩:=k8 (show c∈l from ab);obtain⟨_,_,_,_,_,bH⟩:=aI i hi;exact bH hw
 show aq w _ _ B (.aD true (some (P.cellsOf e)) (l.map fun c=>.ag (f c))) _;obtain⟨ar,off,sp⟩:=a;have hlen:(l.map fun c=>AV.ag (f c)).length=len:=by simpa using au
 have dS:l≠[]→sp=none∧ar<w.heap.size:=fun bS=>by
  obtain⟨c4y,L5,nu,hc0,_,_⟩:=aI 0 (AQ.2 bS);obtain⟨c4z,sx⟩:=yN L5;have uw:=sx 0 (by omega);rw[cS (by omega)] at uw;simp only[FR] at uw;exact WV uw
 have a1X:(l.map fun c=>AV.ag (f c))≠[]→l≠[]:=fun h e=>h (by rw[e];rfl);have jd:∀i (hi:i<(l.map fun c=>AV.ag (f c)).length),(l.map fun c=>AV.ag (f c))[i]= .ag (f (l[i]'(by simpa using hi))):=fun i hi=>by simp
 rw[←hlen];refine .aD (fun i j=>(w.cell? ⟨ar,off+i*P.cellsOf e+j,none⟩).getD undef) (fun bS=>⟨fun h=>h,(dS (a1X bS)).2,fun h=>by cases h⟩) (fun i hi=>?_) (fun i hi j aB=>?_) (fun i hi j aB=>?_) (by omega) (fun v av x hx=>?_) (fun bS=>(dS (a1X bS)).1)
 ·rw[jd i hi];obtain⟨us,_,_,h2,h3,_⟩:=aI i (by simpa using hi);show conf (some (P.cellsOf e)) (.ag _)=true;simp[conf,h2]
 ·obtain⟨us,hu,af,iT,_,_⟩:=aI i (by simpa using hi);obtain⟨nj,hg⟩:=yN hu;obtain⟨rfl,_⟩:=dS fun e=>by subst e;simp at hi
  have fK:j<P.cellsOf e:=by rw[jd i hi] at aB;rw[←iT];exact aB
  have:=hg j fK;rw[iz,iz,cS (by omega)] at this;show w.cell? ⟨ar,off+i*P.cellsOf e+j,none⟩=_;rw[this];rfl
 ·obtain⟨us,hu,af,iT,_,_⟩:=aI i (by simpa using hi);obtain⟨nj,hg⟩:=yN hu;obtain⟨rfl,_⟩:=dS fun e=>by subst e;simp at hi
  have fK:j<P.cellsOf e:=by rw[jd i hi] at aB;rw[←iT];exact aB
  have:=hg j fK;rw[iz,iz,cS (by omega)] at this;rw[this];have h1:=af.2 j (by omega) (by omega);simp only[jd i hi];exact h1
 ·obtain⟨i,hi,rfl⟩:=k8 av;obtain⟨us,_,_,_,h3,_⟩:=aI i (by simpa using hi);rw[jd i hi] at hx;exact h3 x hx
structure FTy(P:Program)(oB k7 na oC oD l3 oE:TypeId):Prop where
 b:P.underlying oB=some .bool
 s:P.underlying k7=some .string
 u:P.underlying na=some (.int .u8)
 ts:P.underlying oD=some (.slice oC)
 fs:P.underlying oE=some (.slice l3)
 cb:P.cellsOf oB=1
 cs:P.cellsOf k7=1
 cu:P.cellsOf na=1
 cts:P.cellsOf oD=1
 cfs:P.cellsOf oE=1
 ct:P.cellsOf oC=3
 cf:P.cellsOf l3=4
 bt:0<P.bytesOf oC
 bf:0<P.bytesOf l3
 t:∃a b c:Field,P.underlying oC=some (.struct #[a,b,c])∧(a.type=oB∧a.offset=0)∧(b.type=k7∧b.offset=1)∧(c.type=oD∧c.offset=2)
 f:∃a b c d:Field,P.underlying l3=some (.struct #[a,b,c,d])∧(a.type=na∧a.offset=0)∧(b.type=k7∧b.offset=1)∧(c.type=oD∧c.offset=2)∧(d.type=oE∧d.offset=3)
variable {oB k7 na oC oD l3 oE:TypeId}
theorem bm.three[Tok][TokOk]{a b c:AV}{x y z:Value}(h1:qF w B [a] [x])(h2:qF w B [b] [y])(h3:qF w B [c] [z]):qF w B [a,b,c] [x,y,z]:=.cons (h1.2 0 (by simp) (by simp)) (.cons (h2.2 0 (by simp) (by simp)) h3)
theorem d2l(T:FTy P oB k7 na oC oD l3 oE):∀(fuel:Nat) (cs:List Value) (x:DataW H×List MemPlace),DataW.trod enc P w 0 (fun _=>true) true fuel oC cs=some x→∃t:Tm,vh w B (t.cells true) cs∧(t.cells true).length=3∧(∀y∈t.cells true,conf none y=true)∧((∀n∈x.1.weights P oC,n≤reachBytes)→t.ok):=by
 intro fuel
 induction fuel using Nat.strongRecOn with
 |ind fuel ay=>
 intro cs x h;obtain⟨a,b,c,hu,⟨a6,a2⟩,⟨dA,dQ⟩,⟨bY,dL⟩⟩:=T.t;obtain⟨xs,n,rfl,pD,au,lq,dd⟩:=yH hu h;have lq:xs.length=3:=lq;rw[T.ct] at au;obtain⟨v1,v2,v3,rfl⟩:∃v1 v2 v3,cs=[v1,v2,v3]:=by
  match cs,au with
  |[v1,v2,v3],_=>exact⟨v1,v2,v3,rfl⟩
 have g0:=dd 0 a rfl;have g1:=dd 1 b rfl;have g2:=dd 2 c rfl;rw[a6,a2,T.cb,cS (by omega)] at g0;rw[dA,dQ,T.cs,cS (by omega)] at g1;rw[bY,dL,T.cts,cS (by omega)] at g2;obtain⟨fy,aE,_⟩:=LM T.b g0;obtain⟨bh,aY,OE,_⟩:=yG T.s g1;obtain⟨I,h3,hok⟩:=zP (w:=w) (B:=B) (fun t:Tm=>t.cells true) Tm.ok T.ts T.ct (by decide) T.bt (fun m hm cs x h=>ay m (by omega) cs x h) g2;injection aE with aE
 injection aY with aY
 subst aE aY;refine⟨.mk fy (jb bh) I,?_,?_,fun y aJ=>?_,fun hw=>?_⟩
 ·rw[Tm.fF];refine bm.three (.cons (.b fy) .nil) (.cons ?_ .nil) h3;have:=aq.s (w:=w) (m:=fun _=>none) (O:=fun _=>False) (B:=B) (jb bh) (A2 bh);rwa[A1] at this
 ·rw[Tm.fF];rfl
 ·rw[Tm.fF] at aJ;simp only[dP,mO,or_false] at aJ;rcases aJ with rfl|rfl|rfl
  ·rfl
  ·rfl
  ·cases I<;>rfl
 ·have mem:∀ {j:Nat} {t:TypeId} {d:DataW H},[oB,k7,oD][j]? =some t→(xs.map (·.1))[j]? =some d→∀n∈d.weights P t,n≤reachBytes:=fun ht an n hn=>hw n (by
   rw[pD];simp only[DataW.weights,hu];exact C7 (by simpa [a6,dA,bY] using ht) an n hn)
  have hnm:(jb bh).length<2^62:=by
   have:bh.data.toList.length≤reachBytes:=mem (j:=1) rfl (by rw[j3,cS (show 1<xs.length by omega),OE];rfl) _ (by simp[DataW.weights]);have h2:reachBytes<2^62:=by decide
   have h3:(jb bh).length=bh.data.toList.length:=by simp[jb]
   omega
  obtain⟨cc,cJ⟩:=hok (mem (j:=2) rfl (by rw[j3,cS (show 2<xs.length by omega)];rfl));exact .mk hnm cc cJ
theorem OF(T:FTy P oB k7 na oC oD l3 oE):∀(fuel:Nat) (cs:List Value) (x:DataW H×List MemPlace),DataW.trod enc P w 0 (fun _=>true) true fuel l3 cs=some x→∃f:Fm,vh w B (f.cells true) cs∧(f.cells true).length=4∧(∀y∈f.cells true,conf none y=true)∧((∀n∈x.1.weights P l3,n≤reachBytes)→f.ok):=by
 intro fuel
 induction fuel using Nat.strongRecOn with
 |ind fuel ay=>
 intro cs x h;obtain⟨a,b,c,d,hu,⟨a6,a2⟩,⟨dA,dQ⟩,⟨bY,dL⟩,⟨d1,d2⟩⟩:=T.f;obtain⟨xs,n,rfl,pD,au,lq,dd⟩:=yH hu h;have lq:xs.length=4:=lq;rw[T.cf] at au;obtain⟨v1,v2,v3,v4,rfl⟩:∃v1 v2 v3 v4,cs=[v1,v2,v3,v4]:=by
  match cs,au with
  |[v1,v2,v3,v4],_=>exact⟨v1,v2,v3,v4,rfl⟩
 have g0:=dd 0 a rfl;have g1:=dd 1 b rfl;have g2:=dd 2 c rfl;have g3:=dd 3 d rfl;rw[a6,a2,T.cu,cS (by omega)] at g0;rw[dA,dQ,T.cs,cS (by omega)] at g1;rw[bY,dL,T.cts,cS (by omega)] at g2;rw[d1,d2,T.cfs,cS (by omega)] at g3;obtain⟨op,aE,_,yJ⟩:=B1 T.u g0;obtain⟨bh,aY,OE,_⟩:=yG T.s g1;obtain⟨I,h3,hok⟩:=zP (w:=w) (B:=B) (fun t:Tm=>t.cells true) Tm.ok T.ts T.ct (by decide) T.bt (fun m _ cs x h=>d2l T m cs x h) g2;obtain⟨jY,aN,d2m⟩:=zP (w:=w) (B:=B) (fun f:Fm=>f.cells true) Fm.ok T.fs T.cf (by decide) T.bf (fun m hm cs x h=>ay m (by omega) cs x h) g3;injection aE with aE
 injection aY with aY
 subst aE aY;obtain⟨h0,d2n⟩:=bounds_u8 yJ;obtain⟨k,rfl⟩:∃k:Nat,op=Int.ofNat k:=⟨op.toNat,(HF h0).symm⟩
 refine⟨.mk k (jb bh) I jY,?_,?_,fun y aJ=>?_,fun hw=>?_⟩
 ·rw[Fm.fF];refine .cons (.i .u8 _) (bm.three (.cons ?_ .nil) h3 aN);have:=aq.s (w:=w) (m:=fun _=>none) (O:=fun _=>False) (B:=B) (jb bh) (A2 bh);rwa[A1] at this
 ·rw[Fm.fF];rfl
 ·rw[Fm.fF] at aJ;simp only[dP,mO,or_false] at aJ;rcases aJ with rfl|rfl|rfl|rfl
  ·rfl
  ·rfl
  ·cases I<;>rfl
  ·cases jY<;>rfl
 ·have mem:∀ {j:Nat} {t:TypeId} {d:DataW H},[na,k7,oD,oE][j]? =some t→(xs.map (·.1))[j]? =some d→∀n∈d.weights P t,n≤reachBytes:=fun ht an n hn=>hw n (by
   rw[pD];simp only[DataW.weights,hu];exact C7 (by simpa [a6,dA,bY,d1] using ht) an n hn)
  have hnm:(jb bh).length<2^62:=by
   have:bh.data.toList.length≤reachBytes:=mem (j:=1) rfl (by rw[j3,cS (show 1<xs.length by omega),OE];rfl) _ (by simp[DataW.weights]);have h2:reachBytes<2^62:=by decide
   have h3:(jb bh).length=bh.data.toList.length:=by simp[jb]
   omega
  obtain⟨cc,cJ⟩:=hok (mem (j:=2) rfl (by rw[j3,cS (show 2<xs.length by omega)];rfl));obtain⟨bx,fM⟩:=d2m (mem (j:=3) rfl (by rw[j3,cS (show 3<xs.length by omega)];rfl));refine .mk ?_ hnm cc cJ bx fM;have:(k:Int)≤255:=d2n;omega
end
def eo.ok(p:eo):Prop:=p.hyps.length<2^62∧∀f∈p.fs,f.ok
def b6.ok(r:b6):Prop:=r.name.length<2^62∧r.bF.length<2^62∧r.bN.ok∧∀p∈r.bF,p.ok
def Lgc.ok(l:Lgc):Prop:=l.name.length<2^62∧l.ops<2^32∧l.kind<256∧l.frame<256∧l.rules.length<2^62∧∀r∈l.rules,r.ok
abbrev tok0:Tok:=⟨fun _=>.b false,fun _ _=>.b true⟩
theorem tok0_ok: @TokOk tok0:=by
 letI:Tok:=tok0
 refine⟨fun {w O B dp i old u} h=>?_,fun {w O B i u} h=>?_⟩
 ·have h:aq w (fun _=>none) O B (.b true) u:=h;show aq w (fun _=>none) (fun _=>False) dp (.b true) u;cases h;exact .b _
 ·have h:aq w (fun _=>none) O B (.b true) u:=h;show aq w (fun _=>none) (fun b=>b<B) B (.b true) u;cases h;exact .b _
theorem a1Y(f:Fm):f.cells true=aV f:=@Fm.fF true f
theorem agg_R[Tok]{w:World}{B:Nat}{l:List AV}{v:Value}(h:qF w B l v.cells.toList)(au:1<l.length)(hf:∀x∈l,conf none x=true):aq w (fun _=>none) (fun _=>False) B (.ag l) v:=by
 have h1:=h.1;cases v with
 |agg aX=>exact .ag (show aX.toList.length=_ from h1) (fun i a b=>h.2 i a b) hf
 |_=>exact absurd (show 1=l.length from h1) (by omega)
theorem a1Z{bh:ByteArray}(h:bh.data.toList.length≤reachBytes):(jb bh).length<2^62:=by
 have h2:reachBytes<2^62:=by decide
 have h3:(jb bh).length=bh.data.toList.length:=by simp[jb]
 omega
theorem OG[Tok]{w:World}{B:Nat}(bh:ByteArray):aq w (fun _=>none) (fun _=>False) B (.s (jb bh)) (.string bh):=by
 have:=aq.s (w:=w) (m:=fun _=>none) (O:=fun _=>False) (B:=B) (jb bh) (A2 bh);rwa[A1] at this
theorem d2o{n:Int}(h:(Lit.int .u32 n).wf=true):0≤n∧n≤4294967295:=by
 simp[Lit.wf,IntKind.min,IntKind.max,IntKind.signed,IntKind.bits] at h;omega
structure LTy(P:Program)(oB k7 na oC oD l3 oE zQ vi zR vj zS zT:TypeId):Prop where
 f:FTy P oB k7 na oC oD l3 oE
 m:P.underlying zQ=some (.int .u32)
 cm:P.cellsOf zQ=1
 ps:P.underlying zR=some (.slice vi)
 cps:P.cellsOf zR=1
 cp:P.cellsOf vi=7
 bp:0<P.bytesOf vi
 rs:P.underlying zS=some (.slice vj)
 crs:P.cellsOf zS=1
 cr:P.cellsOf vj=6
 br:0<P.bytesOf vj
 cl:P.cellsOf zT=5
 p:∃a b c d:Field,P.underlying vi=some (.struct #[a,b,c,d])∧(a.type=oE∧a.offset=0)∧(b.type=l3∧b.offset=1)∧(c.type=k7∧c.offset=5)∧(d.type=oB∧d.offset=6)
 r:∃a b c:Field,P.underlying vj=some (.struct #[a,b,c])∧(a.type=k7∧a.offset=0)∧(b.type=zR∧b.offset=1)∧(c.type=l3∧c.offset=2)
 l:∃a b c d e:Field,P.underlying zT=some (.struct #[a,b,c,d,e])∧(a.type=k7∧a.offset=0)∧(b.type=zQ∧b.offset=1)∧(c.type=na∧c.offset=2)∧(d.type=na∧d.offset=3)∧(e.type=zS∧e.offset=4)
section
variable {H:Type}{enc:TypeId×Value→H}{P:Program}{w:World}{B:Nat}{oB k7 na oC oD l3 oE zQ vi zR vj zS zT:TypeId}(T:LTy P oB k7 na oC oD l3 oE zQ vi zR vj zS zT)
include T
theorem d2p(fuel:Nat)(cs:List Value)(x:DataW H×List MemPlace)(h:DataW.trod enc P w 0 (fun _=>true) true fuel vi cs=some x):∃p:eo,vh w B (gl p) cs∧(gl p).length=7∧(∀y∈gl p,conf none y=true)∧((∀n∈x.1.weights P vi,n≤reachBytes)→p.ok):=by
 obtain⟨a,b,c,d,hu,⟨a6,a2⟩,⟨dA,dQ⟩,⟨bY,dL⟩,⟨d1,d2⟩⟩:=T.p;obtain⟨xs,n,rfl,pD,au,lq,dd⟩:=yH hu h;have lq:xs.length=4:=lq;rw[T.cp] at au;obtain⟨v1,v2,v3,v4,v5,v6,qG,rfl⟩:∃v1 v2 v3 v4 v5 v6 qG,cs=[v1,v2,v3,v4,v5,v6,qG]:=by
  match cs,au with
  |[v1,v2,v3,v4,v5,v6,qG],_=>exact⟨v1,v2,v3,v4,v5,v6,qG,rfl⟩
 have cC:=dd 0 a rfl;have gM:=dd 1 b rfl;have fz:=dd 2 c rfl;have j4:=dd 3 d rfl;rw[a6,a2,T.f.cfs,cS (by omega)] at cC;rw[dA,dQ,T.f.cf,cS (by omega)] at gM;rw[bY,dL,T.f.cs,cS (by omega)] at fz;rw[d1,d2,T.f.cb,cS (by omega)] at j4;obtain⟨I,h0,d2q⟩:=zP (w:=w) (B:=B) (fun f:Fm=>f.cells true) Fm.ok T.f.fs T.f.cf (by decide) T.f.bf (fun m hm cs x h=>OF T.f m cs x h) cC;obtain⟨F,eT,d2r,xu,OH⟩:=OF (w:=w) (B:=B) T.f n _ _ gM;obtain⟨bh,jJ,e0r,_⟩:=yG T.f.s fz;obtain⟨fy,km,_⟩:=LM T.f.b j4;injection jJ with jJ
 injection km with km
 subst jJ km;refine⟨⟨I,F,jb bh,fy⟩,?_,rfl,fun y aJ=>?_,fun hw=>?_⟩
 ·intro _ _;have d2s:qF w B [dk true I] [v1]:=h0;have qH:qF w B (F.cells true) [v2,v3,v4,v5]:=eT;rw[Fm.fF] at qH;exact .cons (d2s.2 0 (by simp) (by simp)) (.cons (qH.2 0 (by simp) (by simp)) (.cons (qH.2 1 (by simp) (by simp)) (.cons (qH.2 2 (by simp) (by simp)) (.cons (qH.2 3 (by simp) (by simp)) (.cons (OG bh) (.cons (.b fy) .nil))))))
 ·rw[a1Y] at xu;simp only[dP,mO,or_false] at aJ;rcases aJ with rfl|rfl|rfl|rfl|rfl|rfl|rfl
  ·cases I<;>rfl
  ·rfl
  ·rfl
  ·exact xu _ (by simp)
  ·exact xu _ (by simp)
  ·rfl
  ·rfl
 ·have mem:∀ {j:Nat} {t:TypeId} {d:DataW H},[oE,l3,k7,oB][j]? =some t→(xs.map (·.1))[j]? =some d→∀n∈d.weights P t,n≤reachBytes:=fun ht an n hn=>hw n (by
   rw[pD];simp only[DataW.weights,hu];exact C7 (by simpa [a6,dA,bY,d1] using ht) an n hn)
  obtain⟨cc,cJ⟩:=d2q (mem (j:=0) rfl (by rw[j3,cS (show 0<xs.length by omega)];rfl));have bx:=OH (mem (j:=1) rfl (by rw[j3,cS (show 1<xs.length by omega)];rfl));refine⟨cc,fun f hf=>?_⟩;rcases dP.1 hf with rfl|hf
  ·exact bx
  ·exact cJ f hf
theorem d2t(fuel:Nat)(cs:List Value)(x:DataW H×List MemPlace)(h:DataW.trod enc P w 0 (fun _=>true) true fuel vj cs=some x):∃r:b6,vh w B (ec r) cs∧(ec r).length=6∧(∀y∈ec r,conf none y=true)∧((∀n∈x.1.weights P vj,n≤reachBytes)→r.ok):=by
 obtain⟨a,b,c,hu,⟨a6,a2⟩,⟨dA,dQ⟩,⟨bY,dL⟩⟩:=T.r;obtain⟨xs,n,rfl,pD,au,lq,dd⟩:=yH hu h;have lq:xs.length=3:=lq;rw[T.cr] at au;obtain⟨v1,v2,v3,v4,v5,v6,rfl⟩:∃v1 v2 v3 v4 v5 v6,cs=[v1,v2,v3,v4,v5,v6]:=by
  match cs,au with
  |[v1,v2,v3,v4,v5,v6],_=>exact⟨v1,v2,v3,v4,v5,v6,rfl⟩
 have cC:=dd 0 a rfl;have gM:=dd 1 b rfl;have fz:=dd 2 c rfl;rw[a6,a2,T.f.cs,cS (by omega)] at cC;rw[dA,dQ,T.cps,cS (by omega)] at gM;rw[bY,dL,T.f.cf,cS (by omega)] at fz;obtain⟨bh,r0,OI,_⟩:=yG T.f.s cC;obtain⟨I,h1,d2u⟩:=zP (w:=w) (B:=B) gl eo.ok T.ps T.cp (by decide) T.bp (fun m hm cs x h=>d2p T m cs x h) gM;obtain⟨F,eT,d2r,xu,OH⟩:=OF (w:=w) (B:=B) T.f n _ _ fz;injection r0 with r0
 subst r0;refine⟨⟨jb bh,I,F⟩,?_,rfl,fun y aJ=>?_,fun hw=>?_⟩
 ·intro _ _;have tK:qF w B [nD I] [v2]:=h1;have qH:qF w B (F.cells true) [v3,v4,v5,v6]:=eT;rw[Fm.fF] at qH;exact .cons (OG bh) (.cons (tK.2 0 (by simp) (by simp)) (.cons (qH.2 0 (by simp) (by simp)) (.cons (qH.2 1 (by simp) (by simp)) (.cons (qH.2 2 (by simp) (by simp)) (.cons (qH.2 3 (by simp) (by simp)) .nil)))))
 ·rw[a1Y] at xu;simp only[dP,mO,or_false] at aJ;rcases aJ with rfl|rfl|rfl|rfl|rfl|rfl
  ·rfl
  ·cases I<;>rfl
  ·rfl
  ·rfl
  ·exact xu _ (by simp)
  ·exact xu _ (by simp)
 ·have mem:∀ {j:Nat} {t:TypeId} {d:DataW H},[k7,zR,l3][j]? =some t→(xs.map (·.1))[j]? =some d→∀n∈d.weights P t,n≤reachBytes:=fun ht an n hn=>hw n (by
   rw[pD];simp only[DataW.weights,hu];exact C7 (by simpa [a6,dA,bY] using ht) an n hn)
  have hnm:=a1Z (bh:=bh) (mem (j:=0) rfl (by rw[j3,cS (show 0<xs.length by omega),OI];rfl) _ (by simp[DataW.weights]));obtain⟨cc,cJ⟩:=d2u (mem (j:=1) rfl (by rw[j3,cS (show 1<xs.length by omega)];rfl));have bx:=OH (mem (j:=2) rfl (by rw[j3,cS (show 2<xs.length by omega)];rfl));exact⟨hnm,cc,bx,cJ⟩
theorem logic_R(fuel:Nat)(cs:List Value)(x:DataW H×List MemPlace)(h:DataW.trod enc P w 0 (fun _=>true) true fuel zT cs=some x):∃l:Lgc,vh w B (lgC l) cs∧(lgC l).length=5∧(∀y∈lgC l,conf none y=true)∧((∀n∈x.1.weights P zT,n≤reachBytes)→l.ok):=by
 obtain⟨a,b,c,d,e,hu,⟨a6,a2⟩,⟨dA,dQ⟩,⟨bY,dL⟩,⟨d1,d2⟩,⟨aE,aY⟩⟩:=T.l;obtain⟨xs,n,rfl,pD,au,lq,dd⟩:=yH hu h;have lq:xs.length=5:=lq;rw[T.cl] at au;obtain⟨v1,v2,v3,v4,v5,rfl⟩:∃v1 v2 v3 v4 v5,cs=[v1,v2,v3,v4,v5]:=by
  match cs,au with
  |[v1,v2,v3,v4,v5],_=>exact⟨v1,v2,v3,v4,v5,rfl⟩
 have cC:=dd 0 a rfl;have gM:=dd 1 b rfl;have fz:=dd 2 c rfl;have j4:=dd 3 d rfl;have lk:=dd 4 e rfl;rw[a6,a2,T.f.cs,cS (by omega)] at cC;rw[dA,dQ,T.cm,cS (by omega)] at gM;rw[bY,dL,T.f.cu,cS (by omega)] at fz;rw[d1,d2,T.f.cu,cS (by omega)] at j4;rw[aE,aY,T.crs,cS (by omega)] at lk;obtain⟨bh,r0,OI,_⟩:=yG T.f.s cC;obtain⟨i1,r1,_,bn⟩:=B1 T.m gM;obtain⟨i2,jJ,_,lQ⟩:=B1 T.f.u fz;obtain⟨i3,km,_,sK⟩:=B1 T.f.u j4;obtain⟨I,aN,d2v⟩:=zP (w:=w) (B:=B) ec b6.ok T.rs T.cr (by decide) T.br (fun m hm cs x h=>d2t T m cs x h) lk;injection r0 with r0
 injection r1 with r1
 injection jJ with jJ
 injection km with km
 subst r0 r1 jJ km;obtain⟨o3,qi⟩:=d2o bn;obtain⟨FY,wN⟩:=bounds_u8 lQ;obtain⟨VP,d2w⟩:=bounds_u8 sK;obtain⟨cc,rfl⟩:∃k:Nat,i1=Int.ofNat k:=⟨i1.toNat,(HF o3).symm⟩
 obtain⟨cJ,rfl⟩:∃k:Nat,i2=Int.ofNat k:=⟨i2.toNat,(HF FY).symm⟩
 obtain⟨bx,rfl⟩:∃k:Nat,i3=Int.ofNat k:=⟨i3.toNat,(HF VP).symm⟩
 refine⟨⟨jb bh,cc,cJ,bx,I⟩,?_,rfl,fun y aJ=>?_,fun hw=>?_⟩
 ·intro _ _;have Mt:qF w B [tn I] [v5]:=aN;exact .cons (OG bh) (.cons (.i .u32 _) (.cons (.i .u8 _) (.cons (.i .u8 _) (.cons (Mt.2 0 (by simp) (by simp)) .nil))))
 ·simp only[dP,mO,or_false] at aJ;rcases aJ with rfl|rfl|rfl|rfl|rfl
  ·rfl
  ·rfl
  ·rfl
  ·rfl
  ·cases I<;>rfl
 ·have mem:∀ {j:Nat} {t:TypeId} {d:DataW H},[k7,zQ,na,na,zS][j]? =some t→(xs.map (·.1))[j]? =some d→∀n∈d.weights P t,n≤reachBytes:=fun ht an n hn=>hw n (by
   rw[pD];simp only[DataW.weights,hu];exact C7 (by simpa [a6,dA,bY,d1,aE] using ht) an n hn)
  have hnm:=a1Z (bh:=bh) (mem (j:=0) rfl (by rw[j3,cS (show 0<xs.length by omega),OI];rfl) _ (by simp[DataW.weights]));obtain⟨bO,jg⟩:=d2v (mem (j:=4) rfl (by rw[j3,cS (show 4<xs.length by omega)];rfl));have a6:(cc:Int)≤4294967295:=qi;have a2:(cJ:Int)≤255:=wN;have a3:(bx:Int)≤255:=d2w;exact⟨hnm,by show cc<2^32;omega,by show cJ<256;omega,by show bx<256;omega,bO,jg⟩
end
theorem d2x(l:Lgc):∃D,∀r∈l.rules,∀f∈r.fs,f.dep≤D:=by
 refine⟨((l.rules.flatMap b6.fs).map Fm.dep).sum,fun r af f hf=>?_⟩;have:f.dep∈(l.rules.flatMap b6.fs).map Fm.dep:=LO (sd.2 ⟨r,af,hf⟩);generalize(l.rules.flatMap b6.fs).map Fm.dep=xs at this
 induction xs with
 |nil=>cases this
 |cons x xs ay=>
  rw[List.sum_cons];rcases dP.1 this with h|h
  ·omega
  ·have:=ay h;omega
theorem Lgc.ok.HS{b:cv}{D:Nat}{l:Lgc}(h:l.ok)(an:∀r∈l.rules,∀f∈r.fs,f.dep≤D)(hf:2*D+10≤b.aT+800):tv b D l:=by
 obtain⟨h1,h2,h3,aN,bH,de⟩:=h;refine⟨h1,h2,h3,aN,bH,fun r af=>?_⟩;obtain⟨g1,g2,g3,g4⟩:=de r af;refine⟨g1,g2,fun f hf=>?_,an r af,fun p hp=>(g4 p hp).1,hf⟩;rcases dP.1 hf with rfl|hf
 ·exact g3
 ·obtain⟨p,hp,hf⟩:=sd.1 hf;exact(g4 p hp).2 f hf
end
section
open Go Go.RowKit Go.Lyc.T
section
variable [Tok][TokOk]
abbrev dh:=Nat×List AV×AV×List (List AV)
def xv(P:Program)(b:cv)(e:dh):Prop:=∀cM,Le P (b.env []) cM e.1 e.2.1 e.2.2.1 (e.2.2.2.map AO.cells)
def Dg(t:List dh)(g:Nat)(aO:List AV):Option (AV×List AO):=
 List.rec none (fun e _ ay=>cond (Nat.beq e.1 g) (cond (fD (AV.eqb 1000) aO e.2.1) (some (e.2.2.1,e.2.2.2.map AO.cells)) ay) ay) t
theorem a2a{g:Nat}{aO:List AV}{r:AV×List AO}:∀ {t:List dh},Dg t g aO=some r→∃e∈t,e.1=g∧e.2.1=aO∧r=(e.2.2.1,e.2.2.2.map AO.cells)
 |[],h=>by cases h
 |e::t,h=>by
  replace h:cond (Nat.beq e.1 g) (cond (fD (AV.eqb 1000) aO e.2.1) (some (e.2.2.1,e.2.2.2.map AO.cells)) (Dg t g aO)) (Dg t g aO)=some r:=h;have rest:Dg t g aO=some r→∃eQ∈e::t,eQ.1=g∧eQ.2.1=aO∧r=(eQ.2.2.1,eQ.2.2.2.map AO.cells):=fun h=>by
   obtain⟨eQ,h1,h2⟩:=a2a h;exact⟨eQ,e_ _ h1,h2⟩
  cases h1:Nat.beq e.1 g with
  |false=>rw[h1,cond_false] at h;exact rest h
  |true=>
   rw[h1,cond_true] at h;cases h2:fD (AV.eqb 1000) aO e.2.1 with
   |false=>rw[h2,cond_false] at h;exact rest h
   |true=>
    rw[h2,cond_true] at h;cases h;exact⟨e,iq ..,eM h1,(ys (AV.sJ 1000) _ _ h2).symm,rfl⟩
abbrev cv.cw(b:cv)(t:List dh):cv:={b with lE:=Dg t}
theorem iE.cw{P:Program}{b:cv}(hb:iE P b){t:List dh}(ht:∀e∈t,xv P b e):iE P (b.cw t):=⟨hb.funcs,⟨hb.ext.1,fun g aO v os h cM=>by
 obtain⟨e,h1,rfl,rfl,aN⟩:=a2a h;cases aN;exact ht e h1 cM⟩,hb.rG⟩
theorem xv.of{P:Program}{b:cv}{t:List dh}{e:dh}(h:xv P (b.cw t) e):xv P b e:=h
def nodupB(l:List Nat):Bool:=List.rec true (fun x t ay=>cond (kQ x t) false ay) l
theorem a2b:∀ {l:List Nat},nodupB l=true→l.Nodup
 |[],_=>List.nodup_nil
 |x::l,h=>by
  replace h:cond (kQ x l) false (nodupB l)=true:=h;cases hm:kQ x l with
  |true=>rw[hm] at h;cases h
  |false=>
   rw[hm,cond_false] at h;refine zD.2 ⟨fun hx=>?_,a2b h⟩;have:∀ {l:List Nat},x∈l→kQ x l=true:=by
    intro l
    induction l with
    |nil=>intro h;cases h
    |cons y l ay=>
     intro h;show cond (Nat.beq y x) true (kQ x l)=true;rcases dP.1 h with rfl|h
     ·rw[fR];rfl
     ·rw[ay h];cases Nat.beq y x<;>rfl
   rw[this hx] at hm;cases hm
def cellsB(o:ad)(ids:List Nat)(i:Nat)(c:List AV):Bool:=
 match o.get i with
 |some (.cells gp)=>fD (AV.eqb 1000) (c.map (w2 ids)) gp&&cV (s4 ids) c
 |_=>false
def OJ(f:Nat→List AV→Bool)(l:List Nat):List (List AV)→Bool:=
 List.rec (fun r=>match r with|[]=>true|_::_=>false) (fun x _ ay r=>match r with|[]=>false|y::aZ=>cond (f x y) (ay aZ) false) l
def objTo(b:cv)(ic:List (Nat×List AV×AV))(n:Nat)(e:dh)(ids:List Nat):Bool:=
 match runF (b.env ic) (exec (b.env ic) n) 0 e.1 e.2.1 ⟨.nil,0⟩ with
 |some [(.ok v,o)]=>AV.eqb 1000 (Ge ids e.2.2.1) v&&(okV ids e.2.2.1&&(nodupB ids&&(Nat.beq e.2.2.2.length ids.length&&OJ (cellsB o ids) ids e.2.2.2)))
 |_=>false
theorem a2c{p:Nat→List AV→Bool}:∀ {l:List Nat} {m:List (List AV)},OJ p l m=true→∀i (h:i<l.length) (h':i<m.length),p l[i] m[i]=true
 |[],_,_,i,h,_=>by simp at h
 |_::_,[],h,_,_,h'=>by simp at h'
 |x::l,y::m,h,i,h1,h2=>by
  have h:cond (p x y) (OJ p l m) false=true:=h;cases hp:p x y with
  |false=>rw[hp] at h;cases h
  |true=>
   rw[hp,cond_true] at h;cases i with
   |zero=>exact hp
   |succ i=>exact a2c h i (by simpa using h1) (by simpa using h2)
theorem d2y{P:Program}{b:cv}{ic:List (Nat×List AV×AV)}(hb:iE P b)(ht:sR P b ic){n:Nat}{e:dh}{ids:List Nat}(h:objTo b ic n e ids=true):xv P b e:=by
 unfold objTo at h;split at h
 ·rename_i v o bX;simp only[bT] at h;obtain⟨h1,h2,h3,aN,bH⟩:=h;have au:=eM aN;intro cM;exact c5u (env:=b.env ic) ⟨fun g cA hg=>o_.yM hb.funcs g cA hg⟩ ht.WQ hb.ext hb.rG bX (a2b h3) au h2 (AV.sJ _ _ _ h1) (fun i a c=>by
   have de:=a2c bH i c a;unfold cellsB at de;split at de
   ·rename_i gp hg;rw[bT] at de;rw[hg,ys (AV.sJ 1000) _ _ de.1];exact⟨rfl,jt de.2⟩
   ·cases de) cM
 ·cases h
abbrev cv.m5(b:cv)(n:Nat):cv:={b with aT:=n}
theorem iE.m5{P:Program}{b:cv}(h:iE P b)(n:Nat):iE P (b.m5 n):=⟨h.1,h.2,h.3⟩
theorem xt.m5{b:cv}(h:xt b)(n:Nat):xt (b.m5 n):=by
 cases h;constructor<;>assumption
theorem iE.less{P:Program}{b b':cv}(h:iE P b)(hf:b'.funcs=b.funcs)(hx:∀g,b'.ext g=0∨b'.ext g=b.ext g)(aj:∀g aO,b'.lE g aO=none):iE P b' where
 funcs:=by rw[hf];exact h.funcs
 rG:=h.rG
 ext:=by
  obtain⟨⟨a,c,e⟩,d⟩:=h.ext;have q:∀ {g:Nat},b'.ext g≠0→b'.ext g=b.ext g:=fun {g} hg=>(hx g).resolve_left hg;refine⟨⟨fun g hg args v h1=>?_,fun g hg=>c g ?_,fun g hg=>e g ?_⟩,fun g aO v os hh=>?_⟩
  ·have h2:b'.ext g=b.ext g:=q hg;refine a g (fun h0=>hg (h2.trans h0)) args v ?_;rw[←h1];show extRow (b.ext g) args=extRow (b'.ext g) args;rw[h2]
  ·have hg:b'.ext g=8:=hg;rw[←hg];exact(q (by rw[hg];decide)).symm
  ·have hg:b'.ext g=9:=hg;rw[←hg];exact(q (by rw[hg];decide)).symm
  ·have hh:b'.lE g aO=some (v,os):=hh;rw[aj] at hh;cases hh
theorem r2.of{P:Program}{b:cv}(n:Nat)(h2:fx P b xc [] (pz false pats))(h3:fx P b xd [] (pz false pats))(aN:∀k,1≤k→k≤5→fx P b uQ [b5 k] (cN (k3 k))):r2 P (b.m5 n):=
 ⟨h2.base rfl,h3.base rfl,fun k a c=>(aN k a c).base rfl⟩
end
theorem lawFL{P:Program}{b b':cv}(sS:b.jm=b'.jm)(hb:∀[Tok] [TokOk],iE P b)(aM:xt b)(g:∀[Tok] [TokOk] (n:Nat),r2 P (b.m5 n))(mo:∀[Tok] [TokOk],OD P b')(l:Lgc)(h:l.ok):
  letI:=tokL l (ptN l pats);∀nm∈nmA,fx P b' s9 [.ag (lgC l),nm] (.b true):=by
 obtain⟨D,eK⟩:=d2x l;exact d2k (b:=b.m5 (2*D+10)) sS l (by intro _ _;exact iE.m5 hb _) (by letI:=tok0;haveI:=tok0_ok;exact aM.m5 _) (by intro _ _;exact g _) mo (h.HS eK (by show 2*D+10≤2*D+10+800;omega))
theorem nm_R[Tok]{w:World}{O:Nat→Prop}{B:Nat}(s:ByteArray):∃nm∈nmA,aq w (fun _=>none) O B nm (.string s):=by
 by_cases h:∃e∈zM,s=strOf e
 ·obtain⟨e,he,rfl⟩:=h;have h1:∀e∈zM,∀c∈e,c<256:=by decide+kernel
  exact⟨.s e,e_ _ (fq.2 ⟨_,he,rfl⟩),.s e (h1 e he)⟩
 ·exact⟨.fY zM,iq,.fY fun e he hs=>h ⟨e,he,hs⟩⟩
end
end Go.Lyc
end
