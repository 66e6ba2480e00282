/-
  What functions of the program compute: walks, part 1. No conditions: definitions and laws.
-/
import Derived.Test.YtjjgmmaiienmcaaGreatDoorNames
set_option linter.all false
noncomputable section
namespace Go.Lyc
set_option maxHeartbeats 0
set_option maxRecDepth 100000
variable [Tok][TokOk]
open Go.RowKit Go.Lyc.T
structure Here(env:Env)(g:Nat)(af:AFunc):Prop where
 f:env.funcs g=some af
 e:env.ext g=0
 p:env.pure g=false
section
variable {b:Base}{K:Nat→List AV→AV→Prop}(hf:∀g ar r r',K g ar r→K g ar r'→r=r')
abbrev Done(d:Nat)(r:AV):PostF:=fun x f σ'=>x= .ret∧freeze σ' 0 1000 (f d)=some r
end
section
variable {b:Base}{K:Nat→List AV→AV→Prop}(hf:∀g ar r r',K g ar r→K g ar r'→r=r')
inductive Tm.ok:Tm→Prop
 |mk {v:Bool} {n:List Nat} {a:Option (List Tm)} (hn:n.length<2^62) (hl:(a.getD []).length<2^62) (h:∀x∈a.getD [],Tm.ok x):Tm.ok (.mk v n a)
inductive Fm.ok:Fm→Prop
 |mk {op:Nat} {n:List Nat} {a:Option (List Tm)} {s:Option (List Fm)} (ho:op<256) (hn:n.length<2^62) (hal:(a.getD []).length<2^62) (ha:∀x∈a.getD [],Tm.ok x) (hl:(s.getD []).length<2^62) (h:∀x∈s.getD [],Fm.ok x):Fm.ok (.mk op n a s)
end
inductive Sl(σ:St)(sh:Option Nat):AV→List AV→Prop
 |nil:Sl σ sh .nilsl []
 |sl (o:Nat) (cap:Option Nat) (xs rest:List AV) (h:σ.get o=some (.cells (xs.flatMap AV.cells++rest))) (hc:∀y∈xs,conf sh y=true) (hk:cap=none∨cap=some xs.length):Sl σ sh (.sl o 0 xs.length sh cap) xs
theorem Sl.keep{σ τ:St}{sh:Option Nat}{v:AV}{xs:List AV}(h:Sl σ sh v xs)(k:∀i o,v.at? =some i→σ.get i=some o→τ.get i=some o):Sl τ sh v xs:=by
 cases h with
 |nil=>exact .nil
 |sl o cap xs rest h hc hk=>exact .sl o cap xs rest (k _ _ rfl h) hc hk
theorem Sl.conf{σ:St}{sh:Option Nat}{v:AV}{xs:List AV}(h:Sl σ sh v xs):∀y∈xs,conf sh y=true:=by
 cases h with
 |nil=>intro y hy;simp at hy
 |sl o cap xs rest h hc hk=>exact hc
theorem Sl.lf{σ:St}{sh:Option Nat}{v:AV}{xs:List AV}(h:Sl σ sh v xs):v.lf=true:=by cases h<;>rfl
theorem Sl.conf0{σ:St}{sh:Option Nat}{v:AV}{xs:List AV}(h:Sl σ sh v xs):Go.Lyc.conf none v=true:=by cases h<;>rfl
theorem Sl.cells0{σ:St}{sh:Option Nat}{v:AV}{xs:List AV}(h:Sl σ sh v xs):v.cells=[v]:=by cases h<;>rfl
theorem Sl.val0{σ:St}{sh:Option Nat}{v:AV}{xs:List AV}(h:Sl σ sh v xs):v.val=true:=by cases h<;>rfl
theorem Sl.len{σ τ:St}{sh:Option Nat}{v:AV}{xs:List AV}(h:Sl σ sh v xs):lenA τ 1 v=some xs.length:=by cases h<;>rfl
theorem Sl.lt{σ:St}{sh:Option Nat}{v:AV}{xs:List AV}(h:Sl σ sh v xs){i:Nat}(hi:v.at? =some i):i<σ.next:=by
 cases h with
 |nil=>cases hi
 |sl o cap xs rest h hc hk=>cases hi;exact St.get_lt h
theorem take_at{sh:Option Nat}:∀ {xs:List AV} {rest:List AV},(∀y∈xs,Go.Lyc.conf sh y=true)→∀(j:Nat) (hj:j<xs.length),∃r,(xs.flatMap AV.cells++rest).drop (j*shN sh)=(xs[j]).cells++r∧takeSh sh ((xs[j]).cells++r)=some xs[j]
 |[],_,_,j,hj=>by simp at hj
 |x::xs,rest,h,0,_=>⟨xs.flatMap AV.cells++rest,by rw[Nat.zero_mul,List.drop_zero,List.flatMap_cons,List.append_assoc];rfl,(takeSh_app (h x (by simp))).1⟩
 |x::xs,rest,h,j+1,hj=>by
  obtain⟨r,h1,h2⟩:=take_at (rest:=rest) (fun y hy=>h y (List.mem_cons_of_mem _ hy)) j (by simpa using hj)
  refine⟨r,?_,h2⟩
  rw[List.flatMap_cons,List.append_assoc,show(j+1)*shN sh=shN sh+j*shN sh from by rw[Nat.succ_mul,Nat.add_comm],← List.drop_drop,(takeSh_app (h x (by simp))).2,h1];rfl
theorem Sl.at{σ:St}{sh:Option Nat}{v:AV}{xs:List AV}(h:Sl σ sh v xs){j:Nat}(hj:j<xs.length):∃o c r,v.at? =some o∧idxSlA sh v j=some (.p (some (o,j*shN sh)))∧σ.get o=some (.cells c)∧c.drop (j*shN sh)=(xs[j]).cells++r∧takeSh sh (c.drop (j*shN sh))=some xs[j]:=by
 cases h with
 |nil=>simp at hj
 |sl o cap xs rest h hc hk=>
  obtain⟨r,h1,h2⟩:=take_at (rest:=rest) hc j hj
  refine⟨o,_,r,rfl,?_,h,h1,by rw[h1];exact h2⟩
  have h3:Nat.blt j xs.length=true:=Nat.ble_eq_true_of_le hj
  simp only[idxSlA,h3,decide_true,Bool.and_self,if_true,Nat.zero_add]
theorem Sl.read{σ:St}{sh:Option Nat}{v:AV}{xs:List AV}(h:Sl σ sh v xs):readList σ v=some xs:=by
 cases h with
 |nil=>rfl
 |sl o cap xs rest h hc hk=>
  show(match σ.get o with|some (.cells c)=>elems sh xs.length (c.drop 0)|_=>none)=_
  rw[h]
  exact elems_flat hc
theorem flatMap_take{xs:List AV}(k:Nat):xs.flatMap AV.cells=(xs.take k).flatMap AV.cells++(xs.drop k).flatMap AV.cells:=by
 rw[←List.flatMap_append,List.take_append_drop]
theorem Sl.cut{σ:St}{sh:Option Nat}{v:AV}{xs:List AV}(h:Sl σ sh v xs)(hn:∀o l c,v= .sl o 0 l sh c→c=none){ev:AOpd→Option AV}{hi:AOpd}{k:Nat}(hk:k≤xs.length)(he:ev hi=some (nI k)):∃w,sliceA ev sh v none (some hi) none=some w∧Sl σ sh w (xs.take k)∧w.at? =v.at? ∧∀o l c,w= .sl o 0 l sh c→c=none:=by
 have hb:∀d,bndO ev (some hi) d=some k:=fun d=>by show(match ev hi with|some v=>natOf v|none=>none)=_;rw[he];rfl
 cases h with
 |nil=>
  obtain rfl:k=0:=by simpa using hk
  refine⟨.nilsl,?_,.nil,rfl,fun _ _ _ h=>by cases h⟩
  show(match bndO ev none 0,bndO ev (some hi) 0,bndO ev none 0 with|some 0,some 0,some 0=>some AV.nilsl|_,_,_=>none)=_
  rw[hb];rfl
 |sl o cap xs rest h hc hcap=>
  obtain rfl:=hn o xs.length cap rfl
  refine⟨.sl o 0 k sh none,?_,?_,rfl,fun _ _ _ h=>by cases h;rfl⟩
  ·have h1:Nat.ble 0 k=true:=Nat.ble_eq_true_of_le (Nat.zero_le k)
   have h2:(Nat.ble k xs.length&&Nat.beq 0 0)=true:=by rw[Nat.ble_eq_true_of_le hk];rfl
   have h0:bndO ev none 0=some 0:=rfl
   simp only[sliceA,if_true,h0,hb,h1,h2]
  ·have e:(xs.take k).length=k:=by rw[List.length_take];omega
   have:=Sl.sl (sh:=sh) o none (xs.take k) ((xs.drop k).flatMap AV.cells++rest) (by rw[h,flatMap_take k,List.append_assoc]) (fun y hy=>hc y (List.mem_of_mem_take hy)) (.inl rfl)
   rwa[e] at this
theorem Sl.append{σ:St}{sh:Option Nat}{v x:AV}{xs ys:List AV}{y:AV}{bytes:Nat}(h:Sl σ sh v xs)(hx:newOf σ x=some (y::ys))(hc:∀z∈y::ys,Go.Lyc.conf sh z=true)(hb:(3*(xs.length+(y::ys).length)+2000)*bytes≤281474976710656):
  ∃v' σ',appendO 0 σ sh bytes v x=some (v',σ')∧Sl σ' sh v' (xs++y::ys)∧v'.at? =some σ.next∧(∀o l c,v'= .sl o 0 l sh c→c=none)∧σ'.next=σ.next+1∧∀i o,v.at? ≠some i→σ.get i=some o→σ'.get i=some o:=by
 have hcx:=h.conf
 have hall:(allB (Go.Lyc.conf sh) xs&&allB (Go.Lyc.conf sh) (y::ys)&&Nat.ble ((3*(xs.length+(y::ys).length)+2000)*bytes) 281474976710656)=true:=by
  rw[allB_of hcx,allB_of hc,Nat.ble_eq_true_of_le hb];rfl
 have hr:=h.read
 have mk:∀τ:St,τ.next=σ.next→Sl (τ.push (.cells (xs.flatMap AV.cells++(y::ys).flatMap AV.cells))) sh (.sl σ.next 0 (xs.length+(y::ys).length) sh none) (xs++y::ys):=fun τ hτ=>by
  have:=Sl.sl (σ:=τ.push (.cells (xs.flatMap AV.cells++(y::ys).flatMap AV.cells))) (sh:=sh) σ.next none (xs++y::ys) [] (by rw[←hτ,St.get_push_new,List.flatMap_append,List.append_nil]) (fun z hz=>by
   rcases List.mem_append.1 hz with hz|hz
   ·exact hcx z hz
   ·exact hc z hz) (.inl rfl)
  rwa[List.length_append] at this
 cases h with
 |nil=>
  refine⟨.sl σ.next 0 (y::ys).length sh none,σ.push (.cells ((y::ys).flatMap AV.cells)),?_,?_,rfl,fun _ _ _ h=>by cases h;rfl,rfl,fun i o _ ho=>by rw[St.get_push_old trivial _ (St.get_lt ho)];exact ho⟩
  ·unfold appendO
   rw[hx]
   show cond _ _ none=_
   rw[hall];rfl
  ·have:=mk σ rfl
   simpa using this
 |sl o cap xs rest h hc0 hcap=>
  have hd:∀i o',i≠o→σ.get i=some o'→((σ.set o .dead).push (.cells (xs.flatMap AV.cells++(y::ys).flatMap AV.cells))).get i=some o':=fun i o' hne ho=>by
   have hlt:=St.get_lt ho
   rw[St.get_push_old trivial _ (show i<(σ.set o .dead).next from hlt),St.get_set trivial _ (St.get_lt h),if_neg hne]
   exact ho
  rcases hcap with rfl|rfl
  ·refine⟨.sl σ.next 0 (xs.length+(y::ys).length) sh none,(σ.set o .dead).push (.cells (xs.flatMap AV.cells++(y::ys).flatMap AV.cells)),?_,mk _ rfl,rfl,fun _ _ _ h=>by cases h;rfl,rfl,fun i o' hne ho=>hd i o' (fun e=>hne (by rw[e];rfl)) ho⟩
   unfold appendO
   rw[hr,hx]
   show cond _ _ none=_
   rw[hall,cond_true]
   show(if sh=sh then(if Nat.blt o 0 then none else if Nat.beq 0 0 then some (AV.sl σ.next 0 (xs.length+(y::ys).length) sh none,(σ.set o .dead).push (.cells (xs.flatMap AV.cells++(y::ys).flatMap AV.cells))) else none) else none)=_
   rw[if_pos rfl,if_neg (by simp[Nat.blt,Nat.ble]),if_pos (by rfl)]
  ·refine⟨.sl σ.next 0 (xs.length+(y::ys).length) sh none,σ.push (.cells (xs.flatMap AV.cells++(y::ys).flatMap AV.cells)),?_,mk _ rfl,rfl,fun _ _ _ h=>by cases h;rfl,rfl,fun i o' _ ho=>by rw[St.get_push_old trivial _ (St.get_lt ho)];exact ho⟩
   unfold appendO
   rw[hr,hx]
   show cond _ _ none=_
   rw[hall,cond_true]
   show(if sh=sh then cond (Nat.ble (xs.length+(y::ys).length) xs.length) _ (some (AV.sl σ.next 0 (xs.length+(y::ys).length) sh none,σ.push (.cells (xs.flatMap AV.cells++(y::ys).flatMap AV.cells)))) else none)=_
   rw[if_pos rfl,show Nat.ble (xs.length+(y::ys).length) xs.length=false from by rw[Bool.eq_false_iff];intro h;have:=Nat.le_of_ble_eq_true h;simp only[List.length_cons] at this;omega];rfl
namespace W
section
variable {md:Md}{env:Env}{wh:Option Nat}{D:List (Nat ⊕ (AV×List AV))}{n:Nat}{F:List (Nat×AV)}{z:Nat→AV}{σ:St}{Q:PostF}
theorem lxw{N:Nat}{ob:Ob}{d:Nat}{sh:Option Nat}{x:AOpd}{g:Option (Nat×Bool)}{wn:List Nat}{ops:List AOper}{id off:Nat}{c:List AV}{v:AV}(hs:σ.get id=some (.cells c))(hd:Nat.blt d n=true)(hw:wtL g n F=true)(h1:evL env n F z x=some (.p (some (id,off))))(h2:takeSh sh (c.drop off)=some v)(hv:AV.eqb env.fz v v=true)
  (h:GoM (.dr N (wn.map (fun q=>(q,id,AO.cells c))++ob)) env wh D n ops (upds ((d,v)::F) z) σ Q):GoM (.dr N ob) env wh D n (⟨some d,.load sh x,g,wn⟩::ops) (upds F z) σ Q:=GoD.ldw hs hd (wtL_t hw) (fun s hs=>by rw[evL_eq];exact op_load _ _ h1 (loadA_p hs h2)) hv h
theorem le{d:Nat}{sh:Option Nat}{x:AOpd}{g:Option (Nat×Bool)}{ops:List AOper}{a v:AV}(hd:Nat.blt d n=true)(hw:wtL g n F=true)(h1:evL env n F z x=some a)(h2:loadA σ sh a=some v)(h:GoM md env wh D n ops (upds ((d,v)::F) z) σ Q):GoM md env wh D n (⟨some d,.load sh x,g,[]⟩::ops) (upds F z) σ Q:=val hd hw (op_load _ _ h1 h2) h
theorem bs{L:List (Nat×List AV)}(H:Has σ L){d m:Nat}{sh:Option Nat}{zr:List AV}{ps:List (Nat×AOpd)}{g:Option (Nat×Bool)}{ops:List AOper}{c:List AV}{k:Nat}(hn:σ.next=k)(hd:Nat.blt d n=true)(hw:wtL g n F=true)(hl:layParts (evL env n F z) (fun i sz=>i*sz) (ps.map fun p=>(p.1,shN sh,p.2)) (repeatC m zr)=some c)
  (h:∀τ:St,τ.next=k+1→Has τ ((k,c)::L)→(∀i o,σ.get i=some o→τ.get i=some o)→GoM md env wh D n ops (upds ((d,.sl k 0 m sh (some m))::F) z) τ Q):GoM md env wh D n (⟨some d,.buildSlice sh m zr ps,g,[]⟩::ops) (upds F z) σ Q:=by
 subst hn
 have kp:∀i o,σ.get i=some o→(σ.push (.cells c)).get i=some o:=fun i o ho=>by rw[St.get_push_old trivial _ (St.get_lt ho)];exact ho
 refine val (v:=.sl σ.next 0 m sh (some m)) (σ':=σ.push (.cells c)) hd hw ?_ (h (σ.push (.cells c)) rfl (H.push rfl (St.get_push_new _) kp) kp)
 show(match layParts (evL env n F z) (fun i sz=>i*sz) (ps.map fun p=>(p.1,shN sh,p.2)) (repeatC m zr) with
  |some c=>some (OpR.val (.sl σ.next 0 m sh (some m)) (σ.push (.cells c)))
  |none=>none)=_
 rw[hl]
theorem ap{d:Nat}{sh:Option Nat}{bytes:Nat}{s x:AOpd}{g:Option (Nat×Bool)}{ops:List AOper}{v w:AV}{xs:List AV}(y:AV)(ys:List AV)(hA:Sl σ sh v xs)(hx:newOf σ w=some (y::ys))(hc:∀z∈y::ys,Go.Lyc.conf sh z=true)(hb:(3*(xs.length+(y::ys).length)+2000)*bytes≤281474976710656)(hd:Nat.blt d n=true)(hw:wtL g n F=true)(h1:evL env n F z s=some v)(h2:evL env n F z x=some w)
  (h:∀v' τ,Sl τ sh v' (xs++y::ys)→v'.at? =some σ.next→(∀o l c,v'= .sl o 0 l sh c→c=none)→τ.next=σ.next+1→(∀i o,v.at? ≠some i→σ.get i=some o→τ.get i=some o)→GoM md env wh D n ops (upds ((d,v')::F) z) τ Q):GoM md env wh D n (⟨some d,.append sh bytes s x,g,[]⟩::ops) (upds F z) σ Q:=by
 obtain⟨v',τ,e,a,b,c,d',e'⟩:=hA.append hx hc hb
 refine val (v:=v') (σ':=τ) hd hw ?_ (h v' τ a b c d' e')
 show(match evL env n F z s,evL env n F z x with|some s,some x=>(match appendO 0 σ sh bytes s x with|some (v,σ)=>some (OpR.val v σ)|none=>none)|_,_=>none)=_
 rw[h1,h2]
 show(match appendO 0 σ sh bytes v w with|some (v,σ)=>some (OpR.val v σ)|none=>none)=_
 rw[e]
theorem pu{d d0:Nat}{sh:Option Nat}{bytes:Nat}{zr:List AV}{ps:List (Nat×AOpd)}{s:AOpd}{g g2:Option (Nat×Bool)}{ops:List AOper}{v:AV}{xs c:List AV}(y:AV)(hA:Sl σ sh v xs)(hd:Nat.blt d n=true)(hd0:Nat.blt d0 n=true)(hw:wtL g n F=true)(hl:layParts (evL env n F z) (fun i sz=>i*sz) (ps.map fun p=>(p.1,shN sh,p.2)) (repeatC 1 zr)=some c)(hy:elems sh 1 c=some [y])(hcf:Go.Lyc.conf sh y=true)
  (hw2:wtL g2 n ((d0,.sl σ.next 0 1 sh (some 1))::F)=true) (h1:evL env n ((d0,.sl σ.next 0 1 sh (some 1))::F) z s=some v) (h2:Nat.beq d0 d0=true) (hb:(3*(xs.length+1)+2000)*bytes≤281474976710656)
  (h:∀v' τ,Sl τ sh v' (xs++[y])→v'.at? =some (σ.next+1)→(∀o l c,v'= .sl o 0 l sh c→c=none)→τ.next=σ.next+2→(∀i o,v.at? ≠some i→σ.get i=some o→τ.get i=some o)→GoM md env wh D n ops (upds ((d,v')::(d0,.sl σ.next 0 1 sh (some 1))::F) z) τ Q):
  GoM md env wh D n (⟨some d0,.buildSlice sh 1 zr ps,g,[]⟩::⟨some d,.append sh bytes s (.t d0),g2,[]⟩::ops) (upds F z) σ Q:=by
 refine bs Has.nil rfl hd0 hw hl fun τ1 n1 H1 k1=>?_
 have hc1:=H1.get _ (.head _)
 refine ap (w:=.sl σ.next 0 1 sh (some 1)) y [] (hA.keep fun i o _=>k1 i o) ?_ (fun z hz=>by rw[List.mem_singleton.1 hz];exact hcf) hb hd hw2 h1 ?_ fun v' τ a1 a2 a3 a4 a5=>h v' τ a1 (by rw[a2,n1]) a3 (by rw[a4,n1]) fun i o hi ho=>a5 i o hi (k1 i o ho)
 ·show readList τ1 (.sl σ.next 0 1 sh (some 1))=_
  show(match τ1.get σ.next with|some (.cells c)=>elems sh 1 (c.drop 0)|_=>none)=_
  rw[hc1]
  exact hy
 ·show cond (Nat.blt d0 n) (match cond (Nat.beq d0 d0) (some _) _ with|some v=>some v|none=>some (z d0)) none=_
  rw[hd0,h2];rfl
end
end W
structure Ln where
 dp:Nat
 op:Nat
 hyp:Bool
 f:Fm
 rule:List Nat
 cs:List (Nat×Nat)
abbrev fc(F:Fm):List AV:=[.i .u8 (Int.ofNat F.op),.s F.name,tmsA true F.oargs,fmsA true F.osub]
theorem fA(F:Fm):F.A true= .ag (fc F):=by unfold Fm.A;rw[Fm.cells_eq]
abbrev csA(o:Bool)(l:List (Nat×Nat)):AV:=.tl o (some 2) (l.map fun c=>.ag [nI c.1,nI c.2])
theorem csA_len{τ:St}{o:Bool}{l:List (Nat×Nat)}:lenA τ 1 (csA o l)=some l.length:=congrArg some (List.length_map _)
theorem csA_ix{o:Bool}{l:List (Nat×Nat)}{j:Nat}(h:j<l.length):idxSlA (some 2) (csA o l) j=some (.tp o (.ag [nI (l[j]).1,nI (l[j]).2])):=by
 have:=osl_idx (o:=o) (sh:=some 2) (l:=some l) (g:=fun c:Nat×Nat=>AV.ag [nI c.1,nI c.2]) h
 exact this
abbrev Ln.A(x:Ln):AV:=.ag [nI x.dp,nI x.op,.b x.hyp,.i .u8 (Int.ofNat x.f.op),.s x.f.name,tmsA true x.f.oargs,fmsA true x.f.osub,.s x.rule,csA true x.cs]
abbrev lnsA(L:List Ln):AV:=.tl true (some 9) (L.map Ln.A)
theorem lns_ix{L:List Ln}{j:Nat}(h:j<L.length):idxSlA (some 9) (lnsA L) j=some (.tp true (L[j]).A):=by
 have:=slA_idxM (o:=true) (sh:=some 9) (f:=Ln.A) h
 cases L with
 |nil=>simp at h
 |cons x l=>exact this
theorem lns_len{σ:St}{L:List Ln}:lenA σ 1 (lnsA L)=some L.length:=by show some (L.map Ln.A).length=_;rw[List.length_map]
@[irreducible] def elP (sh:Option Nat) (v:AV) (j:Nat):AV:=(idxSlA sh v j).getD .ni
theorem elP_of{sh:Option Nat}{v w:AV}{j:Nat}(h:idxSlA sh v j=some w):elP sh v j=w:=by unfold elP;rw[h];rfl
structure Vw(σ:St)(sh:Option Nat)(v:AV)(xs:List AV):Prop where
 len:∀τ,lenA τ 1 v=some xs.length
 ix:∀ {j},j<xs.length→idxSlA sh v j=some (elP sh v j)
 ld:∀ {j} (h:j<xs.length),loadA σ sh (elP sh v j)=some xs[j]
structure Nv(σ:St)(v:AV)(l:List Nat):Prop where
 len:∀τ,lenA τ 1 v=some l.length
 ix:∀ {j},j<l.length→idxSlA none v j=some (elP none v j)
 ld:∀ {j} (h:j<l.length),loadA σ none (elP none v j)=some (nI l[j])
theorem Sl.vw{σ:St}{sh:Option Nat}{v:AV}{xs:List AV}(h:Sl σ sh v xs):Vw σ sh v xs:=
 ⟨fun τ=>h.len,fun {j} hj=>by obtain⟨o,c,r,h0,h1,_⟩:=h.at hj;rw[elP_of h1];exact h1,fun {j} hj=>by
  obtain⟨o,c,r,h0,h1,h2,h3,h4⟩:=h.at hj
  rw[elP_of h1];exact loadA_p h2 h4⟩
theorem Vw.nv{σ:St}{v:AV}{l:List Nat}(h:Vw σ none v (l.map nI)):Nv σ v l:=
 ⟨fun τ=>by rw[h.len,List.length_map],fun hj=>h.ix (by rw[List.length_map];exact hj),fun hj=>by rw[h.ld (by rw[List.length_map];exact hj),List.getElem_map]⟩
theorem Sl.nv{σ:St}{v:AV}{l:List Nat}(h:Sl σ none v (l.map nI)):Nv σ v l:=h.vw.nv
theorem slA_vw{σ:St}{sh:Option Nat}{o:Bool}{xs:List AV}(hc:∀y∈xs,conf sh y=true):Vw σ sh (slA o sh xs) xs:=
 ⟨fun τ=>slA_len τ o sh xs,fun hj=>by rw[elP_of (slA_idx hj)];exact slA_idx hj,fun {j} hj=>by
  rw[elP_of (slA_idx hj)]
  show(if conf sh xs[j] then some xs[j] else none)=_
  rw[if_pos (hc _ (List.getElem_mem hj))]⟩
abbrev Is'(σ:St)(v:AV)(l:List Nat):Prop:=Sl σ none v (l.map nI)
theorem Sl.cutN{σ:St}{v:AV}{l:List Nat}(h:Is' σ v l){ev:AOpd→Option AV}{hi:AOpd}{k:Nat}(hk:k≤l.length)(he:ev hi=some (nI k)):∃w,sliceA ev none v none (some hi) none=some w∧Nv σ w (l.take k):=by
 by_cases hn:∀o l c,v= .sl o 0 l none c→c=none
 ·obtain⟨w,h1,h2,_⟩:=h.cut hn (k:=k) (by rw[List.length_map];exact hk) he
  exact⟨w,h1,Sl.nv (by rw[List.map_take];exact h2)⟩
 ·have h':=h
  unfold Is' at h'
  generalize hm:l.map nI=xs at h'
  cases h' with
  |nil=>exact absurd (fun _ _ _ h=>by cases h) hn
  |sl o cap xs rest hg hc hcap=>
   have hlen:xs.length=l.length:=by rw[←hm,List.length_map]
   rcases hcap with rfl|rfl
   ·exact absurd (fun _ _ _ h=>by cases h;rfl) hn
   ·refine⟨.sl o 0 k none (some xs.length),?_,?_⟩
    ·have hb:bndO ev (some hi) xs.length=some k:=by show(match ev hi with|some v=>natOf v|none=>none)=_;rw[he];rfl
     have h1:Nat.ble 0 k=true:=Nat.ble_eq_true_of_le (Nat.zero_le k)
     have h2:Nat.ble k xs.length=true:=Nat.ble_eq_true_of_le (by omega)
     have h0:bndO ev none 0=some 0:=rfl
     simp only[sliceA,if_true,h0,hb,h1,h2,Nat.zero_mul,Nat.add_zero,ite_self,Nat.sub_zero]
    ·have hk2:(l.take k).length=k:=by rw[List.length_take];omega
     have hx:∀ {j},j<k→idxSlA none (.sl o 0 k none (some xs.length)) j=some (.p (some (o,j))):=fun {j} hj=>by
      rw[idxSlA_sl hj,Nat.zero_add,show j*shN none=j from Nat.mul_one j]
     refine⟨fun τ=>by rw[hk2];rfl,fun {j} hj=>?_,fun {j} hj=>?_⟩
     ·rw[elP_of (hx (by omega))];exact hx (by omega)
     ·rw[elP_of (hx (by omega))]
      obtain⟨r,a1,a2⟩:=take_at (rest:=rest) hc j (by omega)
      rw[show j*shN none=j from Nat.mul_one j] at a1
      refine loadA_p hg ?_
      rw[a1,a2,List.getElem_take]
      subst hm
      rw[List.getElem_map]
theorem W.sc{md:Md}{env:Env}{wh:Option Nat}{D:List (Nat ⊕ (AV×List AV))}{n:Nat}{F:List (Nat×AV)}{z:Nat→AV}{σ:St}{Q:PostF}{d:Nat}{x hi:AOpd}{g:Option (Nat×Bool)}{ops:List AOper}{v:AV}{l:List Nat}{k:Nat}(h:Is' σ v l)(hk:k≤l.length)(hd:Nat.blt d n=true)(hw:wtL g n F=true)(h1:evL env n F z x=some v)(h2:evL env n F z hi=some (nI k))
  (hc:∀w,Nv σ w (l.take k)→GoM md env wh D n ops (upds ((d,w)::F) z) σ Q):GoM md env wh D n (⟨some d,.sliceSl none x none (some hi) none,g,[]⟩::ops) (upds F z) σ Q:=by
 obtain⟨w,e1,e2⟩:=h.cutN hk h2
 refine W.val (v:=w) (σ':=σ) hd hw ?_ (hc w e2)
 show(match evL env n F z x with|some x=>(match sliceA (evL env n F z) none x none (some hi) none with|some v=>some (OpR.val v σ)|none=>none)|none=>none)=_
 rw[h1]
 show(match sliceA (evL env n F z) none v none (some hi) none with|some v=>some (OpR.val v σ)|none=>none)=_
 rw[e1]
structure Pr(σ:St)(p:Nat)(L:List Ln)(B N:List (List Nat)):Prop where
 ex:∃bV nV bs ns,σ.get p=some (.cells [lnsA L,bV,nV])∧Sl σ none bV bs∧bs.length=B.length∧(∀i (h:i<bs.length) (h':i<B.length),Is' σ bs[i] B[i])∧Sl σ none nV ns∧ns.length=N.length∧∀i (h:i<ns.length) (h':i<N.length),Is' σ ns[i] N[i]
theorem Pr.keep{σ τ:St}{p:Nat}{L:List Ln}{B N:List (List Nat)}(h:Pr σ p L B N)(k:∀i o,σ.get i=some o→τ.get i=some o):Pr τ p L B N:=by
 obtain⟨bV,nV,bs,ns,h1,h2,h3,h4,h5,h6,h7⟩:=h.ex
 exact⟨bV,nV,bs,ns,k _ _ h1,h2.keep fun i o _=>k i o,h3,fun i a b=>(h4 i a b).keep fun i o _=>k i o,h5.keep fun i o _=>k i o,h6,fun i a b=>(h7 i a b).keep fun i o _=>k i o⟩
theorem slA_cf{o:Bool}{sh:Option Nat}{l:List AV}:conf none (slA o sh l)=true:=by cases l<;>rfl
theorem bin_a1{a:Nat}(h:a+1<2^63):binop .add (nI a) (.i .i64 1)=some (nI (a+1)):=bin_add (b:=1) h
theorem bin_s1{a:Nat}(h1:1≤a)(h:a<2^63):binop .sub (nI a) (.i .i64 1)=some (nI (a-1)):=bin_sub (b:=1) h1 h
theorem wk{P R:Prop}(k:R)(h:Hid R→P:=by
 intro k
 repeat (first
  |refine W.go rfl rfl rfl rfl ?_
  |refine W.off rfl rfl ?_
  |(refine W.iL ?_;first|refine W.lt rfl rfl rfl rfl ?_|refine W.lt rfl rfl rfl slA_cf ?_|(refine W.ld (c:=?_) (v:=?_) H rfl rfl rfl ?_ ?_ ?_;rotate_left 2;(repeat (first|exact .head _|refine .tail _ ?_));exact rfl)|refine W.le rfl rfl rfl (Nv.ld (by assumption) (by omega)) ?_|refine W.le rfl rfl rfl (Vw.ld (by assumption) (by omega)) ?_)
  |(refine W.iB ?_;first|refine W.ct rfl rfl rfl rfl (by simp only[W.cmpP,List.length_cons,List.length_nil];first|done|omega|exact id|exact fun h=>h trivial) ?_|refine W.cf rfl rfl rfl rfl rfl (by simp only[W.cmpP,List.length_cons,List.length_nil];first|done|omega|exact id|exact fun h=>h trivial) ?_|refine W.bin rfl rfl rfl rfl (bin_a1 (by omega)) ?_|refine W.bin rfl rfl rfl rfl (bin_s1 (by omega) (by omega)) ?_|refine W.bin rfl rfl rfl rfl (bin_add (by omega)) ?_|refine W.bin rfl rfl rfl rfl (bin_sub (by omega) (by omega)) ?_)
  |(refine W.iX ?_;first|refine W.ix rfl rfl rfl rfl (lns_ix (by omega)) ?_|refine W.ix rfl rfl rfl rfl (csA_ix (by omega)) ?_|refine W.ix rfl rfl rfl rfl (slA_idxM (by omega)) ?_|refine W.ix rfl rfl rfl rfl (Nv.ix (by assumption) (by omega)) ?_|refine W.ix rfl rfl rfl rfl (Vw.ix (by assumption) (by omega)) ?_)
  |(refine W.iN ?_;first|refine W.len rfl rfl rfl lns_len ?_|refine W.len rfl rfl rfl csA_len ?_|refine W.len rfl rfl rfl slA_lenM ?_|refine W.len rfl rfl rfl (Nv.len (by assumption) _) ?_|refine W.len rfl rfl rfl (Vw.len (by assumption) _) ?_|refine W.len rfl rfl rfl rfl ?_)
  |(refine W.iW ?_;first|(refine W.ldw (c:=?_) (v:=?_) H rfl rfl rfl ?_ ?_ ?_ ?_;rotate_left 2;(repeat (first|exact .head _|refine .tail _ ?_));exact rfl;first|exact eqb1 rfl|exact eqb2 rfl))
  |refine W.sq ?_|refine W.rg ?_|refine W.dw rfl ?_|refine W.sk ?_|refine GoF.block (a:=.seq _ _) ?_|refine GoF.block (a:=.region _) ?_|refine GoF.block (a:=.draw _) ?_|refine GoF.block (a:=.cond _ _ _) ?_
  |refine W.nil ?_|refine W.nild ?_
  |refine W.now (_::_) _ rfl rfl (by(repeat (refine HasL.c H (by repeat (first|exact List.Mem.head _|refine List.Mem.tail _ ?_)) ?_));exact trivial) ?_
  |refine W.ct1 rfl ?_|refine W.ct0 rfl ?_)
 exact k.out):P:=h ⟨k⟩
theorem wo{P R:Prop}(k:R)(h:Hid R→P:=by
 intro k
 repeat (first
  |refine W.go rfl rfl rfl rfl ?_
  |refine W.off rfl rfl ?_
  |(refine W.iL ?_;first|refine W.lt rfl rfl rfl rfl ?_|refine W.lt rfl rfl rfl slA_cf ?_|(refine W.ld (c:=?_) (v:=?_) H rfl rfl rfl ?_ ?_ ?_;rotate_left 2;(repeat (first|exact .head _|refine .tail _ ?_));exact rfl)|refine W.le rfl rfl rfl (Nv.ld (by assumption) (by omega)) ?_|refine W.le rfl rfl rfl (Vw.ld (by assumption) (by omega)) ?_)
  |(refine W.iB ?_;first|refine W.ct rfl rfl rfl rfl (by simp only[W.cmpP,List.length_cons,List.length_nil];first|done|omega|exact id|exact fun h=>h trivial) ?_|refine W.cf rfl rfl rfl rfl rfl (by simp only[W.cmpP,List.length_cons,List.length_nil];first|done|omega|exact id|exact fun h=>h trivial) ?_|refine W.bin rfl rfl rfl rfl (bin_a1 (by omega)) ?_|refine W.bin rfl rfl rfl rfl (bin_s1 (by omega) (by omega)) ?_|refine W.bin rfl rfl rfl rfl (bin_add (by omega)) ?_|refine W.bin rfl rfl rfl rfl (bin_sub (by omega) (by omega)) ?_)
  |(refine W.iX ?_;first|refine W.ix rfl rfl rfl rfl (lns_ix (by omega)) ?_|refine W.ix rfl rfl rfl rfl (csA_ix (by omega)) ?_|refine W.ix rfl rfl rfl rfl (slA_idxM (by omega)) ?_|refine W.ix rfl rfl rfl rfl (Nv.ix (by assumption) (by omega)) ?_|refine W.ix rfl rfl rfl rfl (Vw.ix (by assumption) (by omega)) ?_)
  |(refine W.iN ?_;first|refine W.len rfl rfl rfl lns_len ?_|refine W.len rfl rfl rfl csA_len ?_|refine W.len rfl rfl rfl slA_lenM ?_|refine W.len rfl rfl rfl (Nv.len (by assumption) _) ?_|refine W.len rfl rfl rfl (Vw.len (by assumption) _) ?_|refine W.len rfl rfl rfl rfl ?_)
  |(refine W.iW ?_;first|(refine W.ldw (c:=?_) (v:=?_) H rfl rfl rfl ?_ ?_ ?_ ?_;rotate_left 2;(repeat (first|exact .head _|refine .tail _ ?_));exact rfl;first|exact eqb1 rfl|exact eqb2 rfl))
  |refine W.now (_::_) _ rfl rfl (by(repeat (refine HasL.c H (by repeat (first|exact List.Mem.head _|refine List.Mem.tail _ ?_)) ?_));exact trivial) ?_)
 exact k.out):P:=h ⟨k⟩
section
attribute [local irreducible] GoM GoW GoV GoD GoesCall
section
variable {b:Base}{K:Nat→List AV→AV→Prop}
abbrev Mr(σ σ':St):Prop:=σ.next≤σ'.next∧∀i o,σ.get i=some o→σ'.get i=some o
abbrev pt(p:Nat):AV:=.p (some (p,0))
structure HF(b:Base)(K:Nat→List AV→AV→Prop):Prop where
 starts:Here (b.envK K) n_starts c_starts
 equal:Here (b.envK K) n_EqualI c_EqualI
 index:Here (b.envK K) n_IndexI c_IndexI
 cont:Here (b.envK K) n_ContainsI c_ContainsI
 clone:Here (b.envK K) n_CloneI c_CloneI
 isBox:Here (b.envK K) n_isBox c_isBox
 assm:Here (b.envK K) n_assumptions c_assumptions
 beside:Here (b.envK K) n_beside c_beside
 needed:Here (b.envK K) n_needed c_needed
 forms:Here (b.envK K) n_fforms c_fforms
def startsB(B:List (List Nat))(n d first:Nat):Bool:=decide ((B.getD (n-1) [])[d-1]? =some first)
theorem starts_go(hh:Here (b.envK K) n_starts c_starts){p:Nat}{L:List Ln}{B N:List (List Nat)}{σ:St}(hP:Pr σ p L B N)(n d first:Nat)(hn:1≤n)(hn2:n≤B.length)(hB:B.length<2^62)(hd:1≤d)(hd2:d<2^62):
  GoesCall (b.envK K) 0 (.f (.func n_starts) [] []) [pt p,nI n,nI d,nI first] σ (fun r τ=>r= .ok (.b (startsB B n d first))∧τ=σ):=by
 refine W.code hh.e hh.p hh.f rfl rfl rfl rfl fun z=>?_
 obtain⟨bV,nV,bs,ns,h1,h2,h3,h4,h5,h6,h7⟩:=hP.ex
 have H:Has σ [(p,[lnsA L,bV,nV])]:=Has.nil.cons h1 (by simp)
 have hv:=h2.vw
 have hI:=(h4 (n-1) (by omega) (by omega)).nv
 have hg:B.getD (n-1) []=B[n-1]:=by rw[List.getD_eq_getElem?_getD,List.getElem?_eq_getElem (by omega)];rfl
 unfold startsB
 rw[hg]
 generalize B[n-1]=bb at hI
 refine wk ?_
 by_cases hlt:d≤bb.length
 ·refine wk ?_
  refine W.cm rfl rfl rfl rfl rfl ?_
  refine wk ?_
  rw[show decide (bb[d-1]? =some first)=decide (bb[d-1]=first) from by rw[List.getElem?_eq_getElem (by omega)];simp]
  exact GoF.ret ⟨rfl,rfl,rfl⟩
 ·refine wk ?_
  rw[show decide (bb[d-1]? =some first)=false from by rw[List.getElem?_eq_none (by omega)];simp]
  exact GoF.ret ⟨rfl,rfl,rfl⟩
theorem EqualI_go(hh:Here (b.envK K) n_EqualI c_EqualI){σ:St}{v w:AV}{l m:List Nat}(h1:Nv σ v l)(h2:Nv σ w m)(hl:l.length<2^62):
  GoesCall (b.envK K) 0 (.f (.func n_EqualI) [] []) [v,w] σ (fun r τ=>r= .ok (.b (decide (l=m)))∧τ=σ):=by
 refine W.code hh.e hh.p hh.f rfl rfl rfl rfl fun z=>?_
 have H:Has σ []:=Has.nil
 refine wk ?_
 by_cases hlen:l.length=m.length
 ·refine wk ?_
  refine GoF.each l.length (fun j f τ=>τ=σ∧sat [(0,v),(1,w)] f∧l.take j=m.take j) hl ⟨rfl,⟨rfl,rfl,trivial⟩,rfl⟩ rfl rfl (fun j g τ hj hI hi hm=>?_) (fun g τ hI hi=>?_)
  ·obtain⟨rfl,⟨g0,g1,_⟩,ht⟩:=hI
   refine GoF.norm [(0,v),(1,w),(13,nI j),(12,nI l.length)] ⟨g0,g1,hi,hm,trivial⟩ fun g=>?_
   refine wk ?_
   by_cases he:l[j]=m[j]
   ·refine wk ?_
    exact⟨rfl,rfl,rfl,⟨rfl,rfl,trivial⟩,by rw[List.take_succ_eq_append_getElem hj,List.take_succ_eq_append_getElem (by omega),ht,he]⟩
   ·refine wk ?_
    rw[show decide (l=m)=false from decide_eq_false fun e=>he (by subst e;rfl)]
    exact GoF.ret ⟨rfl,rfl,rfl⟩
  ·obtain⟨rfl,_,ht⟩:=hI
   refine GoF.norm [] trivial fun z=>?_
   rw[show decide (l=m)=true from decide_eq_true (by rwa[List.take_length,hlen,List.take_length] at ht)]
   refine wk ?_
   exact GoF.ret ⟨rfl,rfl,rfl⟩
 ·refine wk ?_
  rw[show decide (l=m)=false from decide_eq_false fun e=>hlen (by rw[e])]
  exact GoF.ret ⟨rfl,rfl,rfl⟩
theorem ContainsI_go(hh:Here (b.envK K) n_ContainsI c_ContainsI)(hx:Here (b.envK K) n_IndexI c_IndexI){σ:St}{v:AV}{l:List Nat}(h1:Nv σ v l)(hl:l.length<2^62)(a:Nat):
  GoesCall (b.envK K) 0 (.f (.func n_ContainsI) [] []) [v,nI a] σ (fun r τ=>r= .ok (.b (decide (a∈l)))∧τ=σ):=by
 have hi:GoesCall (b.envK K) 0 (.f (.func n_IndexI) [] []) [v,nI a] σ (fun r τ=>(∃k,r= .ok (.i .i64 k)∧decide (0≤k)=decide (a∈l))∧τ=σ):=by
  refine W.code hx.e hx.p hx.f rfl rfl rfl rfl fun z=>?_
  have H:Has σ []:=Has.nil
  refine wk ?_
  refine GoF.each l.length (fun j f τ=>τ=σ∧sat [(0,v),(1,nI a)] f∧a∉l.take j) hl ⟨rfl,⟨rfl,rfl,trivial⟩,by simp⟩ rfl rfl (fun j g τ hj hI hi hm=>?_) (fun g τ hI hi=>?_)
  ·obtain⟨rfl,⟨g0,g1,_⟩,ht⟩:=hI
   refine GoF.norm [(0,v),(1,nI a),(8,nI j),(7,nI l.length)] ⟨g0,g1,hi,hm,trivial⟩ fun g=>?_
   refine wk ?_
   by_cases he:a=l[j]
   ·refine wk ?_
    refine GoF.ret ⟨rfl,⟨_,rfl,?_⟩,rfl⟩
    rw[decide_eq_true (show a∈l from he▸List.getElem_mem hj)]
    exact decide_eq_true (Int.natCast_nonneg j)
   ·refine wk ?_
    refine⟨rfl,rfl,rfl,⟨rfl,rfl,trivial⟩,fun h=>?_⟩
    rw[List.take_succ_eq_append_getElem hj] at h
    rcases List.mem_append.1 h with h|h
    ·exact ht h
    ·exact he (List.mem_singleton.1 h)
  ·obtain⟨rfl,_,ht⟩:=hI
   refine GoF.norm [] trivial fun z=>?_
   refine wk ?_
   refine GoF.ret ⟨rfl,⟨_,rfl,?_⟩,rfl⟩
   rw[List.take_length] at ht
   rw[decide_eq_false ht];rfl
 refine W.code hh.e hh.p hh.f rfl rfl rfl rfl fun z=>?_
 have H:Has σ []:=Has.nil
 refine wk ?_
 refine W.cy rfl rfl rfl hi fun r τ ⟨⟨k,e,hk⟩,e2⟩=>⟨_,e,?_⟩
 subst e2
 refine W.bin (v:=.b (decide (0≤k))) rfl rfl rfl rfl rfl ?_
 rw[hk]
 refine wk ?_
 exact GoF.ret ⟨rfl,rfl,rfl⟩
structure Dm(L:List Ln)(B:List (List Nat)):Prop where
 len:B.length=L.length
 lt:L.length<2^20
 dp:∀x∈L,x.dp<2^20
 blt:∀x∈B,x.length<2^20
def dpL(L:List Ln)(k:Nat):Nat:=(L.map Ln.dp).getD (k-1) 0
def isBoxB(L:List Ln)(B:List (List Nat))(k a c:Nat):Bool:=
 startsB B a (dpL L k+1) a&&(decide ((B.getD (a-1) []).take (dpL L k)=B.getD (k-1) [])&&(decide (dpL L c=dpL L k+1)&&(startsB B c (dpL L k+1) a&& !startsB B (c+1) (dpL L k+1) a)))
theorem dpL_eq{L:List Ln}{k:Nat}(h1:1≤k)(h2:k≤L.length):dpL L k=(L[k-1]'(by omega)).dp:=by
 unfold dpL
 rw[List.getD_eq_getElem?_getD,List.getElem?_map,List.getElem?_eq_getElem (by omega)];rfl
theorem isBox_go(hf:HF b K){p:Nat}{L:List Ln}{B N:List (List Nat)}{σ:St}(hP:Pr σ p L B N)(hD:Dm L B)(k a c:Nat)(ha:1≤a)(hac:a≤c)(hck:c<k)(hk:k≤L.length):
  GoesCall (b.envK K) 0 (.f (.func n_isBox) [] []) [pt p,nI k,.ag [nI a,nI c]] σ (fun r τ=>r= .ok (.b (isBoxB L B k a c))∧Mr σ τ):=by
 refine W.code hf.isBox.e hf.isBox.p hf.isBox.f rfl rfl rfl rfl fun z=>?_
 obtain⟨bV,nV,bs,ns,h1,h2,h3,h4,h5,h6,h7⟩:=hP.ex
 have H:Has σ [(p,[lnsA L,bV,nV])]:=Has.nil.cons h1 (by simp)
 have hl:=hD.lt
 have hd:=hD.len
 refine wk ?_
 generalize hq:σ.next=q
 refine W.bx H hq rfl rfl rfl rfl rfl fun τ hn H k1=>?_
 have hdk:=hD.dp _ (List.getElem_mem (show k-1<L.length by omega))
 have hv:=(h2.keep (τ:=τ) fun i o _=>k1 i o).vw
 have e1:=dpL_eq (L:=L) (k:=k) (by omega) hk
 have e2:=dpL_eq (L:=L) (k:=c) (by omega) (by omega)
 have hP1:=hP.keep k1
 have hst:∀(m:Nat) σ',Pr σ' p L B N→1≤m→m≤B.length→GoesCall (b.envK K) 0 (.f (.func n_starts) [] []) [pt p,nI m,nI (L[k-1].dp+1),nI a] σ' (fun r τ=>r= .ok (.b (startsB B m (L[k-1].dp+1) a))∧τ=σ'):=fun m σ' h g1 g2=>starts_go hf.starts h m _ a g1 g2 (by omega) (by omega) (by omega)
 unfold isBoxB
 rw[e1,e2]
 refine wk ?_
 refine W.cy rfl rfl rfl (hst a τ hP1 ha (by omega)) fun r τ' ⟨e,e3⟩=>⟨_,e,?_⟩
 subst e3
 cases hs:startsB B a (L[k-1].dp+1) a with
 |false=>
  refine wk ?_
  exact GoF.ret ⟨rfl,rfl,by omega,k1⟩
 |true=>
  have hga:B.getD (a-1) []=B[a-1]:=by rw[List.getD_eq_getElem?_getD,List.getElem?_eq_getElem (by omega)];rfl
  have hgk:B.getD (k-1) []=B[k-1]:=by rw[List.getD_eq_getElem?_getD,List.getElem?_eq_getElem (by omega)];rfl
  have hlen:L[k-1].dp+1≤B[a-1].length:=by
   have:=of_decide_eq_true hs
   rw[hga] at this
   have:=(List.getElem?_eq_some_iff.1 this).1
   omega
  have hI:=(h4 (a-1) (by omega) (by omega)).keep (τ:=τ') fun i o _=>k1 i o
  have hJ:=(h4 (k-1) (by omega) (by omega)).keep (τ:=τ') fun i o _=>k1 i o
  rw[hga,hgk]
  refine wk ?_
  refine W.sc hI (by omega) rfl rfl rfl rfl fun w hw=>?_
  have hJn:=hJ.nv
  refine wk ?_
  have hsub:L[k-1].dp+1-1=L[k-1].dp:=by omega
  rw[hsub] at hw
  refine W.cy rfl rfl rfl (EqualI_go hf.equal hw hJn (by rw[List.length_take];omega)) fun r τ ⟨e,e3⟩=>⟨_,e,?_⟩
  subst e3
  by_cases he:(B[a-1]).take (L[k-1].dp)=B[k-1]
  ·rw[decide_eq_true he,Bool.true_and,Bool.true_and]
   refine wk ?_
   by_cases hdc:L[c-1].dp=L[k-1].dp+1
   ·rw[decide_eq_true hdc,Bool.true_and]
    refine wk ?_
    refine W.cy rfl rfl rfl (hst c _ (hP.keep k1) (by omega) (by omega)) fun r τ ⟨e,e3⟩=>⟨_,e,?_⟩
    subst e3
    cases hs2:startsB B c (L[k-1].dp+1) a with
    |false=>
     refine wk ?_
     exact GoF.ret ⟨rfl,rfl,by omega,k1⟩
    |true=>
     refine wk ?_
     refine W.cy rfl rfl rfl (hst (c+1) _ (hP.keep k1) (by omega) (by omega)) fun r τ ⟨e,e3⟩=>⟨_,e,?_⟩
     subst e3
     refine wk ?_
     exact GoF.ret ⟨rfl,rfl,by omega,k1⟩
   ·rw[decide_eq_false hdc]
    refine wk ?_
    exact GoF.ret ⟨rfl,rfl,by omega,k1⟩
  ·rw[decide_eq_false he]
   refine wk ?_
   exact GoF.ret ⟨rfl,rfl,by omega,k1⟩
def asmF(L:List Ln)(first d:Nat):Nat→Nat→List Nat
 |0,_=>[]
 |m+1,n=>match L[n-1]? with
  |some x=>if x.hyp=true∧x.dp=d∧¬(first<n∧0<x.op) then n::asmF L first d m (n+1) else[]
  |none=>[]
def asmL(L:List Ln)(first d:Nat):List Nat:=asmF L first d (L.length+1-first) first
theorem asmF_succ(L:List Ln)(first d m n:Nat):asmF L first d (m+1) n=match L[n-1]? with
  |some x=>if x.hyp=true∧x.dp=d∧¬(first<n∧0<x.op) then n::asmF L first d m (n+1) else[]
  |none=>[]:=rfl
structure Nw(σ τ:St)(v:AV)(l:List Nat):Prop where
 sl:Is' τ v l
 lo:∀i,v.at? =some i→σ.next≤i
 nn:l=[]→v= .nilsl
theorem assm_go(hf:HF b K){p:Nat}{L:List Ln}{B N:List (List Nat)}{σ:St}(hP:Pr σ p L B N)(hL:L.length<2^20)(hop:∀x∈L,x.op<2^20)(first d:Nat)(h1:1≤first)(h2:first≤L.length):
  GoesCall (b.envK K) 0 (.f (.func n_assumptions) [] []) [pt p,nI first,nI d] σ (fun r τ=>∃v,r= .ok v∧Nw σ τ v (asmL L first d)∧Mr σ τ):=by
 refine W.code hf.assm.e hf.assm.p hf.assm.f rfl rfl rfl rfl fun z=>?_
 obtain⟨bV,nV,bs,ns,hp,_⟩:=hP.ex
 have H:Has σ [(p,[lnsA L,bV,nV])]:=Has.nil.cons hp (by simp)
 refine wk ?_
 refine GoF.block ?_
 refine GoF.loop (fun m f τ=>∃n v l,n+m=L.length+1∧first≤n∧l++asmF L first d m n=asmL L first d∧l.length+first=n∧Nw σ τ v l∧Mr σ τ∧sat [(0,pt p),(1,nI first),(2,nI d),(7,v),(8,nI n)] f) ?_ (L.length+1-first) ⟨first,.nilsl,[],by omega,by omega,rfl,by simp,⟨.nil,(fun _ h=>by cases h),fun _=>rfl⟩,⟨by omega,fun _ _ h=>h⟩,rfl,rfl,rfl,rfl,rfl,trivial⟩
 rintro m f τ ⟨n,v,l,hnm,hn1,hl,hll,hv,hM,hs⟩
 refine GoF.norm _ hs fun z=>?_
 clear hs
 have H:=H.keep hM.2
 by_cases hn:n≤L.length
 ·obtain⟨m,rfl⟩:∃k,m=k+1:=⟨m-1,by omega⟩
  have hx:L[n-1]? =some L[n-1]:=List.getElem?_eq_getElem (by omega)
  have ho:=hop _ (List.getElem_mem (show n-1<L.length by omega))
  rw[asmF_succ,hx] at hl
  simp only[] at hl
  refine wk ?_
  generalize hX:L[n-1]=x at hl ho
  refine W.vr H rfl rfl rfl rfl rfl rfl rfl fun τ2 n2 H k2=>?_
  have hv2:=hv.sl.keep (τ:=τ2) fun i o _=>k2 i o
  have M2:Mr σ τ2:=⟨by have:=hM.1;omega,fun i o ho=>k2 i o (hM.2 i o ho)⟩
  have fin:∀g:Nat→AV,asmL L first d=l→GoW (b.envK K) none [] c_assumptions.ntmps (.seq (.region [⟨some 51,.mv (.t 7),none,[]⟩,⟨some 6,.mv (.t 51),none,[]⟩]) .ret) (upds [(7,v)] g) τ2 (fun x f' σ'=>x= .ret∧∃v,Ret.ok (f' 6)= .ok v∧Nw σ σ' v (asmL L first d)∧Mr σ σ'):=fun g e=>by
   refine wk ?_
   exact GoF.ret ⟨rfl,v,rfl,by rw[e];exact⟨hv2,hv.lo,hv.nn⟩,M2⟩
  refine W.nil ?_
  refine GoF.cutR [(0,pt p),(1,nI first),(2,nI d),(7,v),(8,nI n)] (E:=fun x f σ'=>x= .exit 0∧sat [(7,v)] f∧σ'=τ2∧asmL L first d=l) (M:=l++n::asmF L first d m (n+1)=asmL L first d) ?_ ?_ ?_
  ·obtain⟨xd,xo,xh,xf,xr,xc⟩:=x
   simp only[] at hl ho
   have out:∀(F:List (Nat×AV)) (g:Nat→AV),¬(xh=true∧xd=d∧¬(first<n∧0<xo))→sat [(7,v)] (upds F g)→(Ex.exit 0=Ex.normal∧τ2=τ2∧sat [(0,pt p),(1,nI first),(2,nI d),(7,v),(8,nI n)] (upds F g)∧l++n::asmF L first d m (n+1)=asmL L first d)∨(Ex.exit 0=Ex.exit 0∧sat [(7,v)] (upds F g)∧τ2=τ2∧asmL L first d=l):=fun F g hc hs=>by
    rw[if_neg hc,List.append_nil] at hl
    exact .inr ⟨rfl,hs,rfl,hl.symm⟩
   cases xh with
   |false=>
    refine wk ?_
    refine GoF.exit ?_
    exact(out _ _ (by simp) ⟨rfl,trivial⟩)
   |true=>
    by_cases hd:xd=d
    ·by_cases hfn:first<n
     ·by_cases h0:0<xo
      ·refine wk ?_
       refine GoF.exit ?_
       exact(out _ _ (fun h=>h.2.2 ⟨hfn,h0⟩) ⟨rfl,trivial⟩)
      ·refine wk ?_
       rw[if_pos ⟨rfl,hd,fun h=>h0 h.2⟩] at hl
       exact .inl ⟨rfl,rfl,⟨rfl,rfl,rfl,rfl,rfl,trivial⟩,hl⟩
     ·refine wk ?_
      rw[if_pos ⟨rfl,hd,fun h=>hfn h.1⟩] at hl
      exact .inl ⟨rfl,rfl,⟨rfl,rfl,rfl,rfl,rfl,trivial⟩,hl⟩
    ·refine wk ?_
     refine GoF.exit ?_
     exact(out _ _ (fun h=>hd h.2.1) ⟨rfl,trivial⟩)
  ·rintro x f σ' ⟨rfl,hs,rfl,e⟩
   refine⟨by simp,?_⟩
   show GoW _ _ _ _ _ _ _ _
   exact GoF.norm _ hs fun g=>fin g e
  ·intro hM2 g
   refine wk ?_
   refine W.pu (nI n) hv2 rfl rfl rfl rfl rfl rfl rfl rfl rfl (by rw[List.length_map];omega) fun v' τ3 hv3 ha3 _ n3 k3=>?_
   refine wk ?_
   refine⟨m,by omega,n+1,v',l++[n],by omega,by omega,by rw[List.append_assoc];exact hM2,by simp;omega,⟨by unfold Is';rw[List.map_append];exact hv3,fun i hi=>?_,fun e=>absurd e (by simp)⟩,⟨?_,fun i o ho=>?_⟩,rfl,rfl,rfl,rfl,rfl,trivial⟩
   ·rw[ha3] at hi;cases hi;have:=hM.1;omega
   ·have:=hM.1;omega
   ·exact k3 i o (fun e=>by have:=hv.lo i e;have:=St.get_lt ho;omega) (M2.2 i o ho)
 ·obtain rfl:m=0:=by omega
  refine wk ?_
  refine GoF.exit ?_
  show GoW _ _ _ _ _ _ _ _
  refine GoF.norm [(7,v)] ⟨rfl,trivial⟩ fun g=>?_
  refine wk ?_
  exact GoF.ret ⟨rfl,v,rfl,⟨by rw[←hl,show asmF L first d 0 n=[] from rfl,List.append_nil];exact hv.sl,hv.lo,fun e=>hv.nn (by rw[←hl,show asmF L first d 0 n=[] from rfl,List.append_nil] at e;exact e)⟩,hM⟩
def besL(L:List Ln)(N:List (List Nat))(k a c:Nat):List Nat:=(N.getD (c-1) []).filter fun n=>!decide (n∈asmL L a (dpL L k+1))
theorem asmF_len(L:List Ln)(first d:Nat):∀m n,(asmF L first d m n).length≤m
 |0,_=>Nat.le_refl _
 |m+1,n=>by
  rw[asmF_succ]
  split
  ·split
   ·have:=asmF_len L first d m (n+1);simp only[List.length_cons];omega
   ·exact Nat.zero_le _
  ·exact Nat.zero_le _
theorem beside_go(hf:HF b K){p:Nat}{L:List Ln}{B N:List (List Nat)}{σ:St}(hP:Pr σ p L B N)(hD:Dm L B)(hop:∀x∈L,x.op<2^20)(hN:∀l∈N,l.length<2^20)(k a c:Nat)(ha:1≤a)(hac:a≤c)(hck:c<k)(hk:k≤L.length)(hc:c≤N.length):
  GoesCall (b.envK K) 0 (.f (.func n_beside) [] []) [pt p,nI k,.ag [nI a,nI c]] σ (fun r τ=>∃v,r= .ok v∧Nw σ τ v (besL L N k a c)∧Mr σ τ):=by
 refine W.code hf.beside.e hf.beside.p hf.beside.f rfl rfl rfl rfl fun z=>?_
 obtain⟨bV,nV,bs,ns,h1,h2,h3,h4,h5,h6,h7⟩:=hP.ex
 have H:Has σ [(p,[lnsA L,bV,nV])]:=Has.nil.cons h1 (by simp)
 have hl:=hD.lt
 refine wk ?_
 refine W.bx H rfl rfl rfl rfl rfl rfl fun τ hn H k1=>?_
 have hdk:=hD.dp _ (List.getElem_mem (show k-1<L.length by omega))
 have e1:=dpL_eq (L:=L) (k:=k) (by omega) hk
 unfold besL
 rw[e1]
 refine wk ?_
 refine W.cy rfl rfl rfl (assm_go hf (hP.keep k1) hl hop a (L[k-1].dp+1) ha (by omega)) fun r τ2 ⟨v,e,hv,M⟩=>⟨_,e,?_⟩
 have H:=H.keep M.2
 have k2:∀i o,σ.get i=some o→τ2.get i=some o:=fun i o h=>M.2 i o (k1 i o h)
 have hnv:=(h5.keep (τ:=τ2) fun i o _=>k2 i o).vw
 have hI:=(h7 (c-1) (by omega) (by omega)).keep (τ:=τ2) fun i o _=>k2 i o
 have hgc:N.getD (c-1) []=N[c-1]:=by rw[List.getD_eq_getElem?_getD,List.getElem?_eq_getElem (by omega)];rfl
 have hlN:=hN _ (List.getElem_mem (show c-1<N.length by omega))
 rw[hgc]
 have hnI:=hI.nv
 have hol:(asmL L a (L[k-1].dp+1)).length<2^62:=by have:=asmF_len L a (L[k-1].dp+1) (L.length+1-a) a;unfold asmL;omega
 generalize asmL L a (L[k-1].dp+1)=own at hv hol
 generalize N[c-1]=nn at hI hnI hlN
 generalize hns:ns[c-1]=nsc at hI hnI
 refine wk ?_
 rw[hns]
 refine wk ?_
 have hv0:=hv.sl
 refine GoF.each nn.length (fun j f τ'=>∃w,Nw τ2 τ' w ((nn.take j).filter fun n=>!decide (n∈own))∧Mr τ2 τ'∧sat [(7,v),(8,w),(33,nsc)] f) (by omega) ⟨.nilsl,⟨.nil,(fun _ h=>by cases h),fun _=>rfl⟩,⟨by omega,fun _ _ h=>h⟩,rfl,rfl,rfl,trivial⟩ rfl rfl (fun j g τ' hj hI' hi hm=>?_) (fun g τ' hI' hi=>?_)
 ·obtain⟨w,hw,M2,g7,g8,g33,_⟩:=hI'
  refine GoF.norm [(7,v),(8,w),(33,nsc),(35,nI j),(34,nI nn.length)] ⟨g7,g8,g33,hi,hm,trivial⟩ fun g=>?_
  have hnI:=(hI.keep (τ:=τ') fun i o _=>M2.2 i o).nv
  have hown:=(hv0.keep (τ:=τ') fun i o _=>M2.2 i o).nv
  refine wk ?_
  refine W.cy rfl rfl rfl (ContainsI_go hf.cont hf.index hown hol nn[j]) fun r τ3 ⟨e,e3⟩=>⟨_,e,?_⟩
  subst e3
  by_cases hm:nn[j]∈own
  ·rw[decide_eq_true hm]
   refine wk ?_
   exact⟨rfl,rfl,w,by rw[List.take_succ_eq_append_getElem hj,List.filter_append,List.filter_cons,decide_eq_true hm];simpa using hw,M2,rfl,rfl,rfl,trivial⟩
  ·rw[decide_eq_false hm]
   refine wk ?_
   refine W.pu (nI nn[j]) hw.sl rfl rfl rfl rfl rfl rfl rfl rfl rfl (by rw[List.length_map];have:=List.length_filter_le (fun n=>!decide (n∈own)) (nn.take j);rw[List.length_take] at this;omega) fun v' τ4 hv4 ha4 _ n4 k4=>?_
   refine wk ?_
   refine⟨rfl,rfl,v',⟨?_,fun i hi=>?_,fun e=>?_⟩,⟨?_,fun i o ho=>k4 i o (fun e=>?_) (M2.2 i o ho)⟩,rfl,rfl,rfl,trivial⟩
   ·rw[List.take_succ_eq_append_getElem hj,List.filter_append,List.filter_cons,decide_eq_false hm]
    unfold Is'
    rw[List.map_append];exact hv4
   ·rw[ha4] at hi;cases hi;have:=M2.1;omega
   ·rw[List.take_succ_eq_append_getElem hj,List.filter_append,List.filter_cons,decide_eq_false hm] at e;simp at e
   ·have:=M2.1;omega
   ·have:=hw.lo i e;have:=St.get_lt ho;omega
 ·obtain⟨w,hw,M2,g7,g8,_⟩:=hI'
  refine GoF.norm [(8,w)] ⟨g8,trivial⟩ fun g=>?_
  refine wk ?_
  have n2:=M.1
  refine GoF.ret ⟨rfl,w,rfl,⟨by rw[List.take_length] at hw;exact hw.sl,(fun i hi=>by have:=hw.lo i hi;omega),fun e=>hw.nn (by rw[List.take_length];exact e)⟩,⟨by have:=M2.1;omega,fun i o h=>M2.2 i o (k2 i o h)⟩⟩
end
section
variable {b:Base}{K:Nat→List AV→AV→Prop}
theorem W.cutM{α:Type}{env:Env}{wh:Option Nat}{D:List (Nat ⊕ (AV×List AV))}{n:Nat}{a:ACode}{f:Nat→AV}{σ:St}{Q:PostF}(L:α→List (Nat×AV))(R:α→St→Prop)(h1:GoW env wh D n a f σ (fun x f' σ'=>x= .normal∧∃p,R p σ'∧sat (L p) f'))(h2:∀p g σ',R p σ'→Q .normal (upds (L p) g) σ'):GoW env wh D n a f σ Q:=
 h1.mono fun x f' σ' ⟨e1,p,e2,e3⟩=>by
  subst e1
  rw[←upds_of e3]
  exact h2 p f' σ' e2
theorem W.mk{md:Md}{env:Env}{wh:Option Nat}{D:List (Nat ⊕ (AV×List AV))}{n:Nat}{F:List (Nat×AV)}{z:Nat→AV}{σ:St}{Q:PostF}{L:List (Nat×List AV)}(H:Has σ L){d:Nat}{zr:AV}{x y:AOpd}{g:Option (Nat×Bool)}{ops:List AOper}{m:Nat}{k bytes:Nat}(hn:σ.next=k)(hb:bytes*m≤281474976710656)(hm:m≤281474976710656)(hd:Nat.blt d n=true)(hw:wtL g n F=true)(h1:evL env n F z x=some (nI m))(h2:evL env n F z y=some (nI m))
  (h:∀τ:St,τ.next=k+1→Has τ ((k,List.replicate m zr)::L)→(∀i o,σ.get i=some o→τ.get i=some o)→GoM md env wh D n ops (upds ((d,.sl k 0 m none (some m))::F) z) τ Q):GoM md env wh D n (⟨some d,.mkSlice none bytes [zr] x y,g,[]⟩::ops) (upds F z) σ Q:=by
 subst hn
 have er:∀m,repeatC m [zr]=List.replicate m zr:=fun m=>by
  induction m with
  |zero=>rfl
  |succ m ih=>show zr::repeatC m [zr]=_;rw[ih];rfl
 have kp:∀i o,σ.get i=some o→(σ.push (.cells (List.replicate m zr))).get i=some o:=fun i o ho=>by rw[St.get_push_old trivial _ (St.get_lt ho)];exact ho
 refine W.val (v:=.sl σ.next 0 m none (some m)) (σ':=σ.push (.cells (List.replicate m zr))) hd hw ?_ (h (σ.push (.cells (List.replicate m zr))) rfl (H.push rfl (St.get_push_new _) kp) kp)
 show(match evL env n F z x,evL env n F z y with
  |some (.i _ (.ofNat n)),some (.i _ (.ofNat m))=>
   cond (Nat.beq [zr].length (shN none)&&(Nat.ble n m&&(Nat.ble (bytes*m) 281474976710656&&Nat.ble m 281474976710656)))
    (some (OpR.val (.sl σ.next 0 n none (some m)) (σ.push (.cells (repeatC m [zr]))))) none
  |some .nilsl,some (.i _ (.ofNat m))=>
   cond (Nat.beq [zr].length (Nat.succ (shN none))&&(Nat.blt 0 m&&Nat.ble ((3*m+2000)*bytes) 281474976710656))
    (some (OpR.val (.sl σ.next 0 m none none) (σ.push (.cells (repeatC m [zr].tail))))) none
  |_,_=>none)=_
 rw[h1,h2]
 show cond (Nat.ble m m&&(Nat.ble (bytes*m) 281474976710656&&Nat.ble m 281474976710656)) (some (OpR.val (.sl σ.next 0 m none (some m)) (σ.push (.cells (repeatC m [zr]))))) none=_
 rw[Nat.ble_eq_true_of_le (Nat.le_refl m),Nat.ble_eq_true_of_le hb,Nat.ble_eq_true_of_le hm,er];rfl
theorem store_bl{bl:List Bool}{n:Nat}(h:n<bl.length):storeCells (bl.map AV.b) (0+n*shN none) (AV.b true).cells=some ((bl.set n true).map AV.b):=by
 have e:0+n*shN none=n:=by show 0+n*1=n;omega
 rw[e]
 unfold storeCells
 rw[if_pos (Nat.ble_eq_true_of_le (by show n+1≤_;rw[List.length_map];omega))]
 show some ((bl.map AV.b).take n++([AV.b true]++(bl.map AV.b).drop (n+1)))=_
 rw[List.set_eq_take_append_cons_drop,if_pos h]
 simp
theorem take_bl{bl:List Bool}{n:Nat}(h:n<bl.length):takeSh none ((bl.map AV.b).drop (0+n*shN none))=some (.b bl[n]):=by
 have e:0+n*shN none=n:=by show 0+n*1=n;omega
 rw[e,← List.map_drop,List.drop_eq_getElem_cons h];rfl
def numL(L:List Ln)(B N:List (List Nat))(k:Nat)(ac:Nat×Nat):List Nat:=cond (isBoxB L B k ac.1 ac.2) (besL L N k ac.1 ac.2) (N.getD (ac.2-1) [])
def needS(L:List Ln)(B N:List (List Nat))(k:Nat)(l:List (Nat×Nat))(n:Nat):Bool:=l.any fun ac=>decide (n∈numL L B N k ac)
def needL(L:List Ln)(B N:List (List Nat))(k:Nat):List Nat:=match L[k-1]? with
 |some x=>cond x.hyp [k] ((List.range k).filter (needS L B N k x.cs))
 |none=>[]
def Cok(k:Nat)(l:List (Nat×Nat)):Prop:=l.length<2^20∧∀ac∈l,1≤ac.1∧ac.1≤ac.2∧ac.2<k
theorem range_or{k:Nat}(p:Nat→Bool)(n:Nat):((List.range k).map p).set n true=(List.range k).map fun i=>p i||decide (i=n):=by
 apply List.ext_getElem
 ·simp
 ·intro i h1 h2
  rw[List.getElem_set]
  simp only[List.getElem_map,List.getElem_range]
  by_cases h:n=i
  ·subst h;simp
  ·rw[if_neg h,decide_eq_false (fun e=>h e.symm),Bool.or_false]
theorem needed_go(hf:HF b K){p:Nat}{L:List Ln}{B N:List (List Nat)}{σ:St}(hP:Pr σ p L B N)(hD:Dm L B)(hop:∀x∈L,x.op<2^20)(hN:∀l∈N,l.length<2^20)(k:Nat)(h1k:1≤k)(hk:k≤L.length)(hNl:k≤N.length+1)(hNk:∀l∈N.take (k-1),∀n∈l,n<k)(hc:∀x,L[k-1]? =some x→Cok k x.cs):
  GoesCall (b.envK K) 0 (.f (.func n_needed) [] []) [pt p,nI k] σ (fun r τ=>∃v,r= .ok v∧Nw σ τ v (needL L B N k)∧Mr σ τ):=by
 refine W.code hf.needed.e hf.needed.p hf.needed.f rfl rfl rfl rfl fun z=>?_
 obtain⟨bV,nV,bs,ns,h1,h2,h3,h4,h5,h6,h7⟩:=hP.ex
 have H:Has σ [(p,[lnsA L,bV,nV])]:=Has.nil.cons h1 (by simp)
 have hl:=hD.lt
 have hx:L[k-1]? =some L[k-1]:=List.getElem?_eq_getElem (by omega)
 replace hc:=hc _ hx
 have hres:needL L B N k=cond (L[k-1]).hyp [k] ((List.range k).filter (needS L B N k (L[k-1]).cs)):=by unfold needL;rw[hx]
 refine wk ?_
 generalize hX:L[k-1]=x at hc hres
 cases hh:x.hyp with
 |true=>
  refine wk ?_
  refine W.bs (c:=[nI k]) H rfl rfl rfl rfl fun τ hn H k1=>?_
  refine wk ?_
  rw[hh] at hres
  refine GoF.ret ⟨rfl,_,rfl,⟨by rw[hres];exact .sl σ.next (some 1) [nI k] [] (H.get _ (.head _)) (by intro y hy;rw[List.mem_singleton.1 hy];exact(rfl:conf none (nI k)=true)) (.inr rfl),(fun i hi=>by cases hi;exact Nat.le_refl _),fun e=>absurd (hres.symm.trans e) (by simp)⟩,by omega,k1⟩
 |false=>
  refine wk ?_
  refine W.mk H rfl (by omega) (by omega) rfl rfl rfl rfl fun τ hn H k1=>?_
  generalize hq:σ.next=q at H hn
  refine wk ?_
  rw[hX]
  refine wk ?_
  have hkq:∀i o,σ.get i=some o→i≠q:=fun i o ho=>by have:=St.get_lt ho;omega
  have hqp:q≠p:=fun e=>hkq p _ h1 e.symm
  -- what is there at the rounds' beginnings
  let Kp:St→Prop:=fun τ'=>q<τ'.next∧∀i o,σ.get i=some o→τ'.get i=some o
  refine GoF.each x.cs.length (fun j f τ'=>Kp τ'∧τ'.get q=some (.cells (((List.range k).map (needS L B N k (x.cs.take j))).map AV.b))∧sat [(0,pt p),(1,nI k),(5,.sl q 0 k none (some k)),(35,csA true x.cs)] f) (by have:=hc.1;omega) ⟨⟨by omega,k1⟩,?_,rfl,rfl,rfl,rfl,trivial⟩ rfl rfl (fun j g τ' hj hI hi hm=>?_) (fun g τ' hI hi=>?_)
  ·rw[H.get _ (.head _)]
   congr 2
   apply List.ext_getElem<;>simp[needS]
  ·obtain⟨⟨hq1,hk1⟩,hb,g0,g1,g5,g35,_⟩:=hI
   refine GoF.norm [(0,pt p),(1,nI k),(5,.sl q 0 k none (some k)),(35,csA true x.cs),(37,nI j),(36,nI x.cs.length)] ⟨g0,g1,g5,g35,hi,hm,trivial⟩ fun g=>?_
   have H:Has τ' [(p,[lnsA L,bV,nV])]:=Has.nil.cons (hk1 _ _ h1) (by simp)
   obtain⟨ha,hac,hck⟩:=hc.2 _ (List.getElem_mem hj)
   refine wk ?_
   generalize hcj:x.cs[j]=ac at ha hac hck
   obtain⟨a,c⟩:=ac
   simp only[] at ha hac hck
   refine W.vr H rfl rfl rfl rfl rfl rfl rfl fun τ2 n2 H k2=>?_
   have kq2:∀i o,σ.get i=some o→τ2.get i=some o:=fun i o h=>k2 i o (hk1 i o h)
   have hnv:=(h5.keep (τ:=τ2) fun i o _=>kq2 i o).vw
   have hb2:=k2 _ _ hb
   have hI:=(h7 (c-1) (by omega) (by omega)).keep (τ:=τ2) fun i o _=>kq2 i o
   refine wk ?_
   refine W.cy rfl rfl rfl (isBox_go hf (hP.keep kq2) hD k a c ha hac hck hk) fun r τ3 ⟨e,M3⟩=>⟨_,e,?_⟩
   have H:=H.keep M3.2
   have hgc:N.getD (c-1) []=N[c-1]:=by rw[List.getD_eq_getElem?_getD,List.getElem?_eq_getElem (by omega)];rfl
   refine W.nil ?_
   refine W.cutM (α:=AV) (fun v=>[(0,pt p),(1,nI k),(5,.sl q 0 k none (some k)),(35,csA true x.cs),(37,nI j),(36,nI x.cs.length),(8,v)]) (fun v τ'=>Is' τ' v (numL L B N k (a,c))∧(∀i,v.at? =some i→i≠q)∧Mr τ2 τ') ?_ ?_
   ·unfold numL
    cases hib:isBoxB L B k a c with
    |true=>
     refine wk ?_
     refine W.cy rfl rfl rfl (beside_go hf (hP.keep fun i o h=>M3.2 i o (kq2 i o h)) hD hop hN k a c ha hac hck hk (by omega)) fun r τ4 ⟨v,e,hv,M4⟩=>⟨_,e,?_⟩
     refine wk ?_
     exact⟨rfl,v,⟨hv.sl,fun i hi e=>by have:=hv.lo i hi;have:=M3.1;omega,by have:=M3.1;have:=M4.1;omega,fun i o h=>M4.2 i o (M3.2 i o h)⟩,rfl,rfl,rfl,rfl,rfl,rfl,rfl,trivial⟩
    |false=>
     refine wk ?_
     refine⟨rfl,_,⟨?_,fun i hi e=>?_,M3⟩,rfl,rfl,rfl,rfl,rfl,rfl,rfl,trivial⟩
     ·show Is' τ3 ns[c-1] (N.getD (c-1) [])
      rw[hgc]
      exact hI.keep fun i o _=>M3.2 i o
     ·obtain⟨o,ho⟩:∃o,σ.get i=some o:=by
       have h:=h7 (c-1) (by omega) (by omega)
       unfold Is' at h
       generalize List.map nI _=xs at h
       have hi:(ns[c-1]).at? =some i:=hi
       generalize ns[c-1]=w at h hi
       cases h with
       |nil=>cases hi
       |sl o cap xs rest hg hc hk=>cases hi;exact⟨_,hg⟩
      exact hkq i o ho e
   ·intro v g τ4 ⟨hv,hvq,M4⟩
    have hnk:∀n∈numL L B N k (a,c),n<k:=fun n hn=>by
     have hmem:N[c-1]∈N.take (k-1):=List.mem_take_iff_getElem.2 ⟨c-1,by omega,rfl⟩
     have hn2:n∈N.getD (c-1) []:=by
      unfold numL at hn
      cases hib:isBoxB L B k a c with
      |true=>simp only[hib,cond_true] at hn;exact(List.mem_filter.1 hn).1
      |false=>simpa only[hib,cond_false] using hn
     rw[hgc] at hn2
     exact hNk _ hmem n hn2
    have hvl:(numL L B N k (a,c)).length<2^20:=by
     have h1:=hN _ (List.getElem_mem (show c-1<N.length by omega))
     unfold numL
     cases isBoxB L B k a c with
     |true=>rw[cond_true];unfold besL;rw[hgc];exact Nat.lt_of_le_of_lt (List.length_filter_le _ _) h1
     |false=>rw[cond_false,hgc];exact h1
    have hvn:=hv.nv
    generalize hnum:numL L B N k (a,c)=nn at hv hvl hnk hvn
    refine wk ?_
    refine GoF.each nn.length (fun i f τ'=>(∀i o,i≠q→τ4.get i=some o→τ'.get i=some o)∧τ4.next≤τ'.next∧τ'.get q=some (.cells (((List.range k).map fun m=>needS L B N k (x.cs.take j) m||decide (m∈nn.take i)).map AV.b))∧sat [(0,pt p),(1,nI k),(5,.sl q 0 k none (some k)),(35,csA true x.cs),(37,nI j),(36,nI x.cs.length),(58,v)] f) (by omega) ⟨fun _ _ _ h=>h,Nat.le_refl _,?_,rfl,rfl,rfl,rfl,rfl,rfl,rfl,trivial⟩ rfl rfl (fun i g τ' hj' hI hi' hm'=>?_) (fun g τ' hI hi'=>?_)
    ·rw[M4.2 _ _ hb2]
     simp
    ·obtain⟨hk4,hn4,hb4,g0,g1,g5,g35,g37,g36,g58,_⟩:=hI
     refine GoF.norm [(0,pt p),(1,nI k),(5,.sl q 0 k none (some k)),(35,csA true x.cs),(37,nI j),(36,nI x.cs.length),(58,v),(60,nI i),(59,nI nn.length)] ⟨g0,g1,g5,g35,g37,g36,g58,hi',hm',trivial⟩ fun g=>?_
     have H:Has τ' [(q,_)]:=Has.nil.cons hb4 (by simp)
     have hvn:=(hv.keep (τ:=τ') fun i o hi=>hk4 i o (hvq i hi)).nv
     have hlt:=hnk _ (List.getElem_mem hj')
     refine wk ?_
     refine W.ix rfl rfl rfl rfl (idxSlA_sl hlt) ?_
     refine W.st H 0 rfl rfl rfl rfl rfl (store_bl (by rw[List.length_map,List.length_range];exact hlt)) fun τ5 n5 H k5=>?_
     refine wk ?_
     refine⟨rfl,rfl,fun i o hi h=>k5 i o hi (hk4 i o hi h),by omega,?_,rfl,rfl,rfl,rfl,rfl,rfl,rfl,trivial⟩
     rw[H.get _ (.head _),range_or]
     refine congrArg (fun f=>some (AO.cells (((List.range k).map f).map AV.b))) (funext fun m=>?_)
     rw[List.take_succ_eq_append_getElem hj',Bool.or_assoc]
     refine congrArg (fun t=>needS L B N k (x.cs.take j) m||t) ?_
     rw[Bool.eq_iff_iff,Bool.or_eq_true,decide_eq_true_eq,decide_eq_true_eq,decide_eq_true_eq,List.mem_append,List.mem_singleton]
    ·obtain⟨hk4,hn4,hb4,g0,g1,g5,g35,g37,g36,g58,_⟩:=hI
     refine⟨g37,g36,⟨by have:=M4.1;omega,fun i o h=>hk4 i o (hkq i o h) (M4.2 i o (kq2 i o h))⟩,?_,g0,g1,g5,g35,trivial⟩
     rw[hb4]
     refine congrArg (fun f=>some (AO.cells (((List.range k).map f).map AV.b))) (funext fun m=>?_)
     rw[List.take_succ_eq_append_getElem hj,List.take_length]
     unfold needS
     rw[List.any_append,hcj,List.any_cons,List.any_nil,Bool.or_false,hnum]
  ·obtain⟨⟨hq1,hk1⟩,hb,g0,g1,g5,g35,_⟩:=hI
   refine GoF.norm [(0,pt p),(1,nI k),(5,.sl q 0 k none (some k))] ⟨g0,g1,g5,trivial⟩ fun g=>?_
   rw[List.take_length] at hb
   have H:Has τ' [(q,_)]:=Has.nil.cons hb (by simp)
   refine wk ?_
   refine GoF.each k (fun j f τ2=>∃w,Nw τ' τ2 w ((List.range j).filter (needS L B N k x.cs))∧Mr τ' τ2∧sat [(11,w),(69,.sl q 0 k none (some k))] f) (by omega) ⟨.nilsl,⟨.nil,(fun _ h=>by cases h),fun _=>rfl⟩,⟨Nat.le_refl _,fun _ _ h=>h⟩,rfl,rfl,trivial⟩ rfl rfl (fun j g τ2 hj hI hi hm=>?_) (fun g τ2 hI hi=>?_)
   ·obtain⟨w,hw,M2,g11,g69,_⟩:=hI
    refine GoF.norm [(11,w),(69,.sl q 0 k none (some k)),(71,nI j),(70,nI k)] ⟨g11,g69,hi,hm,trivial⟩ fun g=>?_
    have H:=H.keep M2.2
    have hbj:takeSh none ((((List.range k).map (needS L B N k x.cs)).map AV.b).drop (0+j*shN none))=some (.b (needS L B N k x.cs j)):=by rw[take_bl (by simpa using hj)];simp
    refine wk ?_
    refine W.ix rfl rfl rfl rfl (idxSlA_sl hj) ?_
    refine W.ld H rfl rfl rfl (.head _) hbj ?_
    cases hn:needS L B N k x.cs j with
    |false=>
     refine wk ?_
     exact⟨rfl,rfl,w,by rw[List.range_succ,List.filter_append,List.filter_cons,hn];simpa using hw,M2,rfl,rfl,trivial⟩
    |true=>
     refine wk ?_
     refine W.pu (nI j) hw.sl rfl rfl rfl rfl rfl rfl rfl rfl rfl (by rw[List.length_map];have:=List.length_filter_le (needS L B N k x.cs) (List.range j);rw[List.length_range] at this;omega) fun v' τ4 hv4 ha4 _ n4 k4=>?_
     refine wk ?_
     refine⟨rfl,rfl,v',⟨?_,fun i hi=>?_,fun e=>?_⟩,⟨?_,fun i o ho=>k4 i o (fun e=>?_) (M2.2 i o ho)⟩,rfl,rfl,trivial⟩
     ·rw[List.range_succ,List.filter_append,List.filter_cons,hn]
      unfold Is'
      rw[List.map_append];exact hv4
     ·rw[ha4] at hi;cases hi;have:=M2.1;omega
     ·rw[List.range_succ,List.filter_append,List.filter_cons,hn] at e;simp at e
     ·have:=M2.1;omega
     ·have:=hw.lo i e;have:=St.get_lt ho;omega
   ·obtain⟨w,hw,M2,g11,_⟩:=hI
    refine GoF.norm [(11,w)] ⟨g11,trivial⟩ fun g=>?_
    refine wk ?_
    rw[hh] at hres
    exact GoF.ret ⟨rfl,w,rfl,⟨by rw[hres];exact hw.sl,(fun i hi=>by have:=hw.lo i hi;omega),fun e=>hw.nn (hres.symm.trans e)⟩,by have:=M2.1;omega,fun i o h=>M2.2 i o (hk1 i o h)⟩
end
end
structure Stp(W W':Nat→Prop)(τ τ':St):Prop where
 next:τ.next≤τ'.next
 keep:∀c o,¬W c→τ.get c=some o→τ'.get c=some o
 own:∀c,W' c→W c∨τ.next≤c∧c<τ'.next
abbrev Ivt:=Nat→(Nat→Prop)→St→Prop
def Stab(k0:Nat)(J:Ivt):Prop:=∀i W τ τ',J i W τ→(∀c o,c<k0∨W c→τ.get c=some o→τ'.get c=some o)→τ.next≤τ'.next→J i W τ'
def Yields(env:Env)(g:Nat)(cap:List AV)(N:Nat)(A:Nat→(Nat→Prop)→St→List AV→Prop)(σ:St)(W0:Nat→Prop):Prop:=
 ∀(yv:AV) (J:Ivt) (τ:St),Stab τ.next J→(∀i W τ1 args,i<N→τ.next≤τ1.next→A i W τ1 args→J i W τ1→GoesCall env 0 yv args τ1 (fun r τ2=>r= .ok (.b true)∧∃W',J (i+1) W' τ2∧Stp W W' τ1 τ2))→
  σ.next≤τ.next→(∀c o,σ.get c=some o→τ.get c=some o)→(∀c,W0 c→c<σ.next)→J 0 W0 τ→GoesCall env 0 (.f (.func g) [] cap) [yv] τ (fun r τ'=>r= .ok (.tu [])∧∃W',J N W' τ')
theorem GoX.iter{env:Env}{D:List (Nat ⊕ (AV×List AV))}{n:Nat}{f:Nat→AV}{σ:St}{Q:PostF}{fo:AOpd}{ps:List Nat}{asn bd:ACode}{g:Nat}{cap:List AV}{k:Nat}(N:Nat)(I:Ivt)(A:Nat→(Nat→Prop)→St→List AV→Prop)(W0:Nat→Prop)(hk:σ.next=k)
  (hfo:evF env n f fo=some (.f (.func g) [] cap)) (he:env.ext g=0) (hp:allB (fun p=>Nat.blt p n) ps=true) (hlen:∀i W τ args,A i W τ args→args.length=ps.length)
  (hst:∀i W τ τ',I i W τ→(∀c o,W c→τ.get c=some o→τ'.get c=some o)→τ.next≤τ'.next→I i W τ') (h0:I 0 W0 σ) (hW0:∀c,W0 c→c<k) (hG:Yields env g cap N A σ W0)
  (hround:∀i W τ args,i<N→A i W τ args→I i W τ→(∀c,τ.get (k+1)≠some (.cells c))→(∀c,W c→c<k∨k+2≤c)→k+2≤τ.next→(∀c o,¬W0 c→σ.get c=some o→τ.get c=some o)→GoW env (some (k+1)) [] n asn (layF ps args f) τ (fun x f1 τ1=>x= .normal∧(τ.next≤τ1.next∧∀c o,τ.get c=some o→τ1.get c=some o)∧
   ∀τ2,τ2.next=τ1.next→(∀c o,c≠k+1→τ1.get c=some o→τ2.get c=some o)→I i W τ2→GoW env (some (k+1)) [] n bd f1 τ2 (fun x _ τ3=>x= .normal∧∃W',I (i+1) W' τ3∧Stp W W' τ2 τ3)))
  (hend:∀W τ,I N W τ→τ.get k=some .dblk→k+2≤τ.next→(∀c o,¬W0 c→σ.get c=some o→τ.get c=some o)→(∀c,W c→W0 c∨k+2≤c)→Q .normal f τ):GoX env D (.inl k::D) n (.rangeFunc fo ps asn bd) f σ Q:=by
 subst hk
 refine GoX.range hfo he fun sl hsl=>?_
 generalize hk:σ.next=k at *
 have hp1:((σ.push .dblk).push (.loop .ready none sl ps asn bd k)).get (k+1)=some (.loop .ready none sl ps asn bd k):=by
  have:=St.get_push_new (σ:=σ.push .dblk) (.loop .ready none sl ps asn bd k)
  rwa[show(σ.push .dblk).next=k+1 from by show σ.next+1=_;rw[hk]] at this
 have hp2:∀i o,σ.get i=some o→((σ.push .dblk).push (.loop .ready none sl ps asn bd k)).get i=some o:=fun i o ho=>by
  have:=St.get_lt ho
  rw[St.get_push_old trivial _ (show i<(σ.push .dblk).next from by show i<σ.next+1;omega),St.get_push_old trivial _ this];exact ho
 have hp3:((σ.push .dblk).push (.loop .ready none sl ps asn bd k)).get k=some .dblk:=by
  rw[St.get_push_old trivial _ (show k<(σ.push .dblk).next from by show k<σ.next+1;omega)]
  have:=St.get_push_new (σ:=σ) .dblk
  rwa[hk] at this
 have hpn:((σ.push .dblk).push (.loop .ready none sl ps asn bd k)).next=k+2:=by show σ.next+1+1=_;rw[hk]
 generalize(σ.push .dblk).push (.loop .ready none sl ps asn bd k)=σ2 at *
 refine(hG (.f (.yield (k+1)) [] []) (fun i W τ=>I i W τ∧τ.get (k+1)=some (.loop .ready none sl ps asn bd k)∧k+2≤τ.next∧τ.get k=some .dblk∧(∀c,W c→W0 c∨k+2≤c)∧∀c o,¬W0 c→σ.get c=some o→τ.get c=some o) σ2 ?_ ?_ (by omega) hp2 (fun c hc=>by rw[hk];exact hW0 c hc) ?_).mono ?_
 ·rintro i W τ τ' ⟨a1,a2,a3,a4,a5,a6⟩ kp hn
  exact⟨hst i W τ τ' a1 (fun c o hc=>kp c o (.inr hc)) hn,kp _ _ (.inl (by omega)) a2,by omega,kp _ _ (.inl (by omega)) a4,a5,fun c o hc ho=>kp c o (.inl (by have:=St.get_lt ho;omega)) (a6 c o hc ho)⟩
 ·rintro i W τ args hi hn hA ⟨a1,a2,a3,a4,a5,a6⟩
  have hWk:∀c,W c→c<k∨k+2≤c:=fun c hc=>by
   rcases a5 c hc with h|h
   ·exact .inl (hW0 c h)
   ·exact .inr h
  refine(GoesCall.round (R:=fun τ2=>∃W',(I (i+1) W' τ2∧τ2.get (k+1)=some (.loop .ready none sl ps asn bd k)∧k+2≤τ2.next∧τ2.get k=some .dblk∧(∀c,W' c→W0 c∨k+2≤c)∧∀c o,¬W0 c→σ.get c=some o→τ2.get c=some o)∧Stp W W' τ τ2) (f:=f) (n:=n) a2 hsl hp (by rw[hlen i W τ args hA];exact Nat.beq_refl _) ?_).mono fun r σ' h=>h
  refine(hround i W τ args hi hA a1 (fun c e=>by rw[a2] at e;cases e) hWk a3 a6).mono fun x f1 τ1 ⟨e1,e2,h1⟩=>?_
  have a2':=e2.2 _ _ a2
  have I1:=hst i W τ τ1 a1 (fun c o _=>e2.2 c o) e2.1
  have hset:=set_get (o':=.loop .busy none sl ps asn bd k) a2'
  have nWl:¬W (k+1):=fun h=>by rcases hWk _ h with h|h<;>omega
  have nWk:¬W k:=fun h=>by rcases hWk _ h with h|h<;>omega
  have m1:=e2.1
  refine⟨e1,a2',(h1 (τ1.set (k+1) (.loop .busy none sl ps asn bd k)) rfl (fun c o hc ho=>hset.2 c o hc ho) (hst i W _ _ I1 (fun c o hc ho=>hset.2 c o (fun e=>nWl (e▸hc)) ho) (Nat.le_refl _))).mono fun x _ τ3 ⟨e3,W',hI,hS⟩=>?_⟩
  have hl3:=hS.keep _ _ nWl hset.1
  have hset3:=set_get (o':=.loop .ready none sl ps asn bd k) hl3
  have n3:τ1.next≤τ3.next:=hS.next
  have own:∀c,W' c→W c∨τ1.next≤c:=fun c hc=>(hS.own c hc).imp id And.left
  have nW'l:¬W' (k+1):=fun h=>by rcases own _ h with h|h;exact nWl h;omega
  have kk:∀c o,¬W c→c≠k+1→τ.get c=some o→(τ3.set (k+1) (.loop .ready none sl ps asn bd k)).get c=some o:=fun c o hc hne ho=>hset3.2 c o hne (hS.keep c o hc (hset.2 c o hne (e2.2 _ _ ho)))
  refine⟨e3,hl3,W',⟨hst _ _ _ _ hI (fun c o hc ho=>hset3.2 c o (fun e=>nW'l (e▸hc)) ho) (Nat.le_refl _),hset3.1,by show k+2≤τ3.next;omega,kk k _ nWk (by omega) a4,fun c hc=>?_,fun c o hc ho=>?_⟩,by show τ.next≤τ3.next;omega,fun c o hc ho=>?_,fun c hc=>(hS.own c hc).imp id fun h=>⟨by have h1:τ1.next≤c:=h.1;omega,h.2⟩⟩
  ·rcases own c hc with h|h
   ·exact a5 c h
   ·exact .inr (by omega)
  ·have hlt:=St.get_lt ho
   by_cases hWc:W c
   ·rcases a5 c hWc with h|h
    ·exact absurd h hc
    ·omega
   ·exact kk c o hWc (by omega) (a6 c o hc ho)
  ·by_cases hl:c=k+1
   ·subst hl
    rw[a2] at ho;cases ho;exact hset3.1
   ·exact kk c o hc hl ho
 ·exact⟨hst 0 W0 σ σ2 h0 (fun c o _ ho=>hp2 c o ho) (by omega),hp1,by omega,hp3,fun c hc=>.inl hc,fun c o _ ho=>hp2 c o ho⟩
 ·rintro r τ ⟨e1,W',a1,a2,a3,a4,a5,a6⟩
  have hset:=set_get (o':=.loop .exhausted none sl ps asn bd k) a2
  have nW'l:¬W' (k+1):=fun h=>by
   rcases a5 _ h with h|h
   ·have:=hW0 _ h;omega
   ·omega
  exact⟨_,.ready,e1,a2,by simp,hend W' _ (hst _ _ _ _ a1 (fun c o hc ho=>hset.2 c o (fun e=>nW'l (e▸hc)) ho) (Nat.le_refl _)) (hset.2 _ _ (by omega) a4) a3 (fun c o hc ho=>hset.2 c o (by have:=St.get_lt ho;omega) (a6 c o hc ho)) a5⟩
section
attribute [local irreducible] GoM GoW GoV GoD GoesCall
section
variable {b:Base}{K:Nat→List AV→AV→Prop}
structure Nc(σ τ:St)(u v:AV)(l:List Nat):Prop where
 sl:Is' τ v l
 lo:∀i,v.at? =some i→σ.next≤i
 nn:v.at? =none↔u.at? =none
theorem CloneI_go(hf:HF b K){σ:St}{v:AV}{l:List Nat}(h:Is' σ v l)(hl:l.length<2^20):GoesCall (b.envK K) 0 (.f (.func n_CloneI) [] []) [v] σ (fun r τ=>∃v',r= .ok v'∧Nc σ τ v v' l∧Mr σ τ):=by
 refine W.code hf.clone.e hf.clone.p hf.clone.f rfl rfl rfl rfl fun z=>?_
 have H:Has σ []:=Has.nil
 have h':=h
 unfold Is' at h'
 generalize hm:l.map nI=xs at h'
 cases h' with
 |nil=>
  refine wk ?_
  exact GoF.ret ⟨rfl,_,rfl,⟨by unfold Is';rw[hm];exact .nil,(fun i hi=>by cases hi),Iff.rfl⟩,Nat.le_refl _,fun _ _ h=>h⟩
 |sl o cap xs rest hg hc hk=>
  have hlen:xs.length=l.length:=by rw[←hm,List.length_map]
  have hr:readList σ (.sl o 0 xs.length none cap)=some xs:=h.read.trans (by rw[hm])
  refine wk ?_
  refine W.bs (c:=[]) H rfl rfl rfl rfl fun τ hn H k1=>?_
  have hr2:readList τ (.sl o 0 xs.length none cap)=some xs:=readList_keep (fun i c h=>k1 i _ h) hr
  have h0:Sl τ none (.sl σ.next 0 0 none (some 0)) []:=.sl σ.next (some 0) [] [] (H.get _ (.head _)) (by simp) (.inr rfl)
  refine wk ?_
  cases xs with
  |nil=>
   refine W.val (v:=.sl σ.next 0 0 none (some 0)) (σ':=τ) rfl rfl ?_ ?_
   ·show(match appendO 0 τ none 8 (.sl σ.next 0 0 none (some 0)) (.sl o 0 0 none cap) with|some (v,σ)=>some (OpR.val v σ)|none=>none)=_
    have hnw:newOf τ (.sl o 0 0 none cap)=some []:=hr2
    unfold appendO
    rw[h0.read,hnw];rfl
   ·refine wk ?_
    exact GoF.ret ⟨rfl,_,rfl,⟨by unfold Is';rw[hm];exact h0,(fun i hi=>by cases hi;exact Nat.le_refl _),⟨(fun e=>by cases e),fun e=>by cases e⟩⟩,by omega,k1⟩
  |cons y ys=>
   have hnw:newOf τ (.sl o 0 (ys.length+1) none cap)=some (y::ys):=hr2
   refine W.ap y ys h0 hnw hc (by simp only[List.length_nil];omega) rfl rfl rfl rfl fun v' τ2 hv ha _ n2 k2=>?_
   refine wk ?_
   refine GoF.ret ⟨rfl,_,rfl,⟨by unfold Is';rw[hm];exact hv,fun i hi=>?_,⟨fun e=>?_,fun e=>by cases e⟩⟩,by omega,fun i o ho=>k2 i o (fun e=>?_) (k1 i o ho)⟩
   ·have hi:v'.at? =some i:=hi
    rw[ha] at hi;cases hi;omega
   ·have e:v'.at? =none:=e
    rw[e] at ha;cases ha
   ·cases e;have:=St.get_lt ho;omega
def stkF(s:List Nat)(i:Nat)(x:Ln):List Nat:=s.take (x.dp-x.op)++List.replicate x.op (i+1)
def stF(L:List Ln):Nat→List Nat
 |0=>[]
 |i+1=>match L[i]? with
  |some x=>stkF (stF L i) i x
  |none=>[]
theorem stF_succ{L:List Ln}{i:Nat}(h:i<L.length):stF L (i+1)=stkF (stF L i) i L[i]:=by
 rw[stF,List.getElem?_eq_getElem h]
def boxL(L:List Ln):List (List Nat):=(List.range L.length).map fun i=>stF L (i+1)
def hsL(L:List Ln):Nat→Bool
 |0=>false
 |i+1=>hsL L i|| !(stF L (i+1)).isEmpty
theorem hsL_nil{L:List Ln}:∀ {i:Nat},hsL L i=false→stF L i=[]
 |0,_=>rfl
 |i+1,h=>by
  rw[hsL,Bool.or_eq_false_iff] at h
  cases hs:stF L (i+1) with
  |nil=>rfl
  |cons x l=>rw[hs] at h;simp at h
structure Shp(L:List Ln):Prop where
 lt:L.length<2^10
 num:∀x∈L,x.dp<2^10∧x.op≤x.dp
 go:∀i (h:i<L.length),(L[i]).dp-(L[i]).op≤(stF L i).length
theorem Shp.len{L:List Ln}(h:Shp L):∀i,i<L.length→(stF L (i+1)).length=(L[i]?.elim 0 Ln.dp):=fun i hi=>by
 rw[stF_succ hi,List.getElem?_eq_getElem hi]
 unfold stkF
 have:=h.go i hi
 have:=(h.num _ (List.getElem_mem hi)).2
 rw[List.length_append,List.length_take,List.length_replicate]
 show _=(L[i]).dp
 omega
theorem W.ss{md:Md}{env:Env}{wh:Option Nat}{D:List (Nat ⊕ (AV×List AV))}{n:Nat}{F:List (Nat×AV)}{z:Nat→AV}{σ:St}{Q:PostF}{d:Nat}{x hi:AOpd}{g:Option (Nat×Bool)}{ops:List AOper}{v:AV}{l:List Nat}{k:Nat}(h:Is' σ v l)(hn:∀o l c,v= .sl o 0 l none c→c=none)(hk:k≤l.length)(hd:Nat.blt d n=true)(hw:wtL g n F=true)(h1:evL env n F z x=some v)(h2:evL env n F z hi=some (nI k))
  (hc:∀w,Is' σ w (l.take k)→w.at? =v.at? →(∀o l c,w= .sl o 0 l none c→c=none)→GoM md env wh D n ops (upds ((d,w)::F) z) σ Q):GoM md env wh D n (⟨some d,.sliceSl none x none (some hi) none,g,[]⟩::ops) (upds F z) σ Q:=by
 obtain⟨w,e1,e2,e3,e4⟩:=Sl.cut (ev:=evL env n F z) (hi:=hi) (k:=k) h hn (by rw[List.length_map];exact hk) h2
 refine W.val (v:=w) (σ':=σ) hd hw ?_ (hc w (by rw[←List.map_take] at e2;exact e2) e3 e4)
 show(match evL env n F z x with|some x=>(match sliceA (evL env n F z) none x none (some hi) none with|some v=>some (OpR.val v σ)|none=>none)|none=>none)=_
 rw[h1]
 show(match sliceA (evL env n F z) none v none (some hi) none with|some v=>some (OpR.val v σ)|none=>none)=_
 rw[e1]
theorem around1_go(hh:Here (b.envK K) n_around1 c_around1){L:List Ln}(hS:Shp L){σ:St}{bx:Nat}(hbx:σ.get bx=some (.cells [lnsA L]))(W0:Nat→Prop)(hW0:¬W0 bx):
  Yields (b.envK K) n_around1 [pt bx] L.length (fun i V τ args=>∃v,args=[nI (i+1),v]∧Is' τ v (stF L (i+1))∧(v.at? =none↔hsL L (i+1)=false)∧∀o,v.at? =some o→¬V o) σ W0:=by
 intro yv J τ0 hst hy hn0 hk0 hlt hJ
 refine W.code0 hh.e hh.p hh.f rfl rfl rfl fun z=>?_
 have H:Has τ0 [(bx,[lnsA L])]:=Has.nil.cons (hk0 _ _ hbx) (by simp)
 have hl:=hS.lt
 refine wk ?_
 refine GoF.each L.length (fun j f τ=>∃v V,Is' τ v (stF L j)∧(v.at? =none↔hsL L j=false)∧(∀o l c,v= .sl o 0 l none c→c=none)∧(∀o,v.at? =some o→τ0.next≤o∧¬V o)∧J j V τ∧τ0.next≤τ.next∧(∀c,V c→c<τ.next)∧sat [(0,yv),(3,v),(6,lnsA L)] f) (by omega) ⟨.nilsl,W0,.nil,⟨fun _=>rfl,fun _=>rfl⟩,(fun _ _ _ h=>by cases h),(fun _ h=>by cases h),hJ,Nat.le_refl _,fun c hc=>Nat.lt_of_lt_of_le (hlt c hc) hn0,rfl,rfl,rfl,trivial⟩ rfl rfl (fun j g τ hj hI hi hm=>?_) (fun g τ hI hi=>?_)
 ·obtain⟨v,V,hv,hni,hcn,hvo,hJ,hn1,hWl,g0,g3,g6,_⟩:=hI
  refine GoF.norm [(0,yv),(3,v),(6,lnsA L),(8,nI j),(7,nI L.length)] ⟨g0,g3,g6,hi,hm,trivial⟩ fun g=>?_
  have H:Has τ []:=Has.nil
  have hgo:=hS.go j hj
  have hnum:=hS.num _ (List.getElem_mem hj)
  have hst1:=stF_succ hj
  refine wk ?_
  generalize hX:L[j]=x at hgo hnum hst1
  refine W.al H rfl rfl rfl rfl fun τ1 n1 H k1=>?_
  have hv1:=hv.keep (τ:=τ1) fun i o _=>k1 i o
  have hJ1:=hst _ _ _ τ1 hJ (fun c o _=>k1 c o) (by omega)
  refine wk ?_
  refine W.st H 0 rfl rfl rfl rfl rfl rfl fun τ2 n2 H k2=>?_
  have hne:∀o,v.at? =some o→o<τ.next:=fun o ho=>hv.lt ho
  have hv2:=hv1.keep (τ:=τ2) fun i o hi=>k2 i o (by have:=hne i hi;omega)
  have hJ2:=hst _ _ _ τ2 hJ1 (fun c o hc=>k2 c o (by rcases hc with h|h;omega;have:=hWl c h;omega)) (by omega)
  refine wk ?_
  refine W.ss hv2 hcn (k:=x.dp-x.op) hgo rfl rfl rfl rfl fun w hw hwa hwc=>?_
  refine wk ?_
  refine GoF.each x.op (fun r f τ=>∃v,Is' τ v ((stF L j).take (x.dp-x.op)++List.replicate r (j+1))∧(v.at? =none↔hsL L j=false∧r=0)∧(∀o l c,v= .sl o 0 l none c→c=none)∧(∀o,v.at? =some o→τ0.next≤o∧¬V o)∧J j V τ∧τ0.next≤τ.next∧(∀c,V c→c<τ.next)∧sat [(0,yv),(3,v),(4,nI j),(6,lnsA L),(7,nI L.length),(8,nI j)] f) (by omega) ⟨w,by simpa using hw,by rw[hwa,hni];simp,hwc,fun o ho=>hvo o (hwa▸ho),hJ2,by omega,fun c hc=>by have:=hWl c hc;omega,rfl,rfl,rfl,rfl,rfl,rfl,trivial⟩ rfl rfl (fun r g τ hr hI hi hm=>?_) (fun g τ hI hi=>?_)
  ·obtain⟨v,hv,hni,hcn,hvo,hJ,hn1,hWl,g0,g3,g4,g6,g7,g8,_⟩:=hI
   refine GoF.norm [(0,yv),(3,v),(4,nI j),(6,lnsA L),(7,nI L.length),(8,nI j),(22,nI r),(21,nI x.op)] ⟨g0,g3,g4,g6,g7,g8,hi,hm,trivial⟩ fun g=>?_
   refine wk ?_
   refine W.pu (nI (j+1)) hv rfl rfl rfl rfl rfl rfl rfl rfl rfl (by rw[List.length_map,List.length_append,List.length_take,List.length_replicate];omega) fun v' τ4 hv4 ha4 hc4 n4 k4=>?_
   refine wk ?_
   refine⟨rfl,rfl,v',?_,⟨fun e=>(by rw[ha4] at e;cases e),fun e=>by simp at e⟩,hc4,fun o ho=>?_,hst _ _ _ τ4 hJ (fun c o hc=>k4 c o fun e=>?_) (by omega),by omega,fun c hc=>by have:=hWl c hc;omega,rfl,rfl,rfl,rfl,rfl,rfl,trivial⟩
   ·rw[List.replicate_succ',← List.append_assoc]
    unfold Is'
    rw[List.map_append];exact hv4
   ·rw[ha4] at ho;cases ho
    exact⟨by omega,fun h=>by have:=hWl _ h;omega⟩
   ·have:=hvo c e
    rcases hc with h|h
    ·omega
    ·exact this.2 h
  ·obtain⟨v,hv,hni,hcn,hvo,hJ,hn1,hWl,g0,g3,g4,g6,g7,g8,_⟩:=hI
   refine GoF.norm [(0,yv),(3,v),(4,nI j),(6,lnsA L),(7,nI L.length),(8,nI j)] ⟨g0,g3,g4,g6,g7,g8,trivial⟩ fun g=>?_
   have hv':Is' τ v (stF L (j+1)):=by rw[hst1];exact hv
   have hni':v.at? =none↔hsL L (j+1)=false:=by
    rw[hni,hsL,Bool.or_eq_false_iff,hst1]
    refine and_congr_right fun h=>?_
    rw[stkF,hsL_nil h]
    cases x.op with
    |zero=>simp
    |succ m=>simp[List.replicate_succ]
   refine wk ?_
   refine W.cy rfl rfl rfl (hy j V τ _ hj hn1 ⟨v,rfl,hv',hni',fun o ho=>(hvo o ho).2⟩ hJ) fun r τ5 ⟨e,V',hJ',hSt⟩=>⟨_,e,?_⟩
   refine wk ?_
   have n5:=hSt.next
   refine⟨rfl,rfl,v,V',hv'.keep fun i o hi=>hSt.keep i o (hvo i hi).2,hni',hcn,fun o ho=>⟨(hvo o ho).1,fun h=>?_⟩,hJ',by omega,fun c hc=>?_,rfl,rfl,rfl,trivial⟩
   ·rcases hSt.own o h with h|h
    ·exact(hvo o ho).2 h
    ·have:=hv.lt ho;omega
   ·rcases hSt.own c hc with h|h
    ·have:=hWl c h;omega
    ·exact h.2
 ·exact⟨.inr rfl,rfl,by obtain⟨v,V,_,_,_,_,h,_⟩:=hI;exact⟨V,h⟩⟩
end
end
def resV(σ:St)(f:Nat→AV)(r:Nat×Option (Option Nat)):Option AV:=
 match r.2 with
 |none=>some (f r.1)
 |some sh=>match f r.1 with
  | .p (some (id,off))=>match σ.get id with
   |some (.cells c)=>takeSh sh (c.drop off)
   |_=>none
  |_=>none
def resA(σ:St)(f:Nat→AV)(rs:List (Nat×Option (Option Nat))):Option AV:=
 match mapO (resV σ f) rs with
 |some [v]=>some v
 |some vs=>some (.tu vs)
 |none=>none
theorem resV_eq{D:List (Nat ⊕ (AV×List AV))}{n:Nat}{f:Nat→AV}{fr:Fr}(σ:St)(h:IsFr D n f fr){r:Nat×Option (Option Nat)}(hr:Nat.blt r.1 n=true):resultOf σ fr.slots r=resV σ f r:=by
 have hg:=h.get r.1
 have hn:r.1<n:=Nat.le_of_ble_eq_true hr
 rw[if_pos hn] at hg
 obtain⟨d,o⟩:=r
 unfold resultOf resV
 simp only[] at hg ⊢
 rw[hg]
 cases o with
 |none=>rfl
 |some sh=>
  cases f d with
  |p a=>cases a with
   |none=>rfl
   |some a=>rfl
  |_=>rfl
theorem resA_eq{D:List (Nat ⊕ (AV×List AV))}{n:Nat}{f:Nat→AV}{fr:Fr}(σ:St)(h:IsFr D n f fr){rs:List (Nat×Option (Option Nat))}(hr:allB (fun r=>Nat.blt r.1 n) rs=true):resultsOf σ fr.slots rs=resA σ f rs:=by
 have:mapO (resultOf σ fr.slots) rs=mapO (resV σ f) rs:=mapO_congr fun x hx=>resV_eq σ h (allB_mem hr x hx)
 show(match mapO (resultOf σ fr.slots) rs with|some [v]=>some v|some vs=>some (.tu vs)|none=>none)=match mapO (resV σ f) rs with|some [v]=>some v|some vs=>some (.tu vs)|none=>none
 rw[this]
theorem endF_all{env:Env}{fn:AFunc}{n:Nat}{f:Nat→AV}{fr:Fr}{σ:St}{v:AV}(h1:IsFr [] n f fr)(hd:allB (fun r=>Nat.blt r.1 n) fn.results=true)(hv:resA σ f fn.results=some v):endF env 0 fn (.ret,fr,σ)=some [(.ok v,σ)]:=by
 show(match leave 0 (callD env 0) fr.defers none σ with
  |none=>none
  |some (some v,σ)=>some [(Ret.err v,σ)]
  |some (none,σ)=>match resultsOf σ fr.slots fn.results with
   |some v=>some [(.ok v,σ)]
   |none=>none)=_
 rw[h1.ds]
 show(match resultsOf σ fr.slots fn.results with|some v=>some [(Ret.ok v,σ)]|none=>none)=_
 rw[resA_eq σ h1 hd,hv]
theorem endF_allX{env:Env}{fn:AFunc}{n d:Nat}{f:Nat→AV}{fr:Fr}{σ:St}{v:AV}(h1:IsFr [.inl d] n f fr)(hm:σ.get d=some .dblk)(hd:allB (fun r=>Nat.blt r.1 n) fn.results=true)(hv:resA (σ.set d .dead) f fn.results=some v):endF env 0 fn (.ret,fr,σ)=some [(.ok v,σ.set d .dead)]:=by
 show(match leave 0 (callD env 0) fr.defers none σ with
  |none=>none
  |some (some v,σ)=>some [(Ret.err v,σ)]
  |some (none,σ)=>match resultsOf σ fr.slots fn.results with
   |some v=>some [(.ok v,σ)]
   |none=>none)=_
 have hl:leave 0 (callD env 0) fr.defers none σ=some (none,σ.set d .dead):=by
  rw[h1.ds]
  show(if Nat.blt d 0 then none else match σ.get d with
   |some .dblk=>some (none,σ.set d .dead)
   |_=>none)=_
  rw[if_neg (by simp[Nat.blt,Nat.ble]),hm]
 rw[hl]
 show(match resultsOf (σ.set d .dead) fr.slots fn.results with|some v=>some [(Ret.ok v,σ.set d .dead)]|none=>none)=_
 rw[resA_eq _ h1 hd,hv]
theorem resV_b{σ:St}{f:Nat→AV}{d id off:Nat}{sh:Option Nat}{c:List AV}{v:AV}(h:f d= .p (some (id,off)))(hg:σ.get id=some (.cells c))(ht:takeSh sh (c.drop off)=some v):resV σ f (d,some sh)=some v:=by
 show(match f d with| .p (some (id,off))=>(match σ.get id with|some (.cells c)=>takeSh sh (c.drop off)|_=>none)|_=>none)=_
 rw[h]
 show(match σ.get id with|some (.cells c)=>takeSh sh (c.drop off)|_=>none)=_
 rw[hg];exact ht
theorem resV_v{σ:St}{f:Nat→AV}{d:Nat}{v:AV}(h:f d=v):resV σ f (d,none)=some v:=by rw[←h];rfl
theorem resA_1{σ:St}{f:Nat→AV}{x:Nat×Option (Option Nat)}{v:AV}(h:resV σ f x=some v):resA σ f [x]=some v:=by
 show(match mapO (resV σ f) [x] with|some [v]=>some v|some vs=>some (.tu vs)|none=>none)=_
 rw[mapO_cons,h];rfl
section
variable {env:Env}{σ:St}{fn:Nat}{af:AFunc}{body:ACode}{first cap args:List AV}{R:Ret→St→Prop}
theorem W.codeR(e:env.ext fn=0)(hp:env.pure fn=false)(hf:env.funcs fn=some af)(hb:af.body=some body)
  (hn:(Nat.beq (first++args++cap).length af.nargs&&Nat.ble (first++args++cap).length af.ntmps)=true) (hd:allB (fun r=>Nat.blt r.1 af.ntmps) af.results=true)
  (h:∀z,GoW env none [] af.ntmps body (upds (W.aL 0 (first++args++cap)) z) σ (fun x f' σ'=>x= .ret∧∃v,resA σ' f' af.results=some v∧R (.ok v) σ')):GoesCall env 0 (.f (.func fn) first cap) args σ R:=by
 have hle:(first++args++cap).length≤af.ntmps:=by
  simp only[Bool.and_eq_true] at hn
  exact Nat.le_of_ble_eq_true hn.2
 refine GoesCall.run e hp hf hb hn ((W.args h _ (isFr_start hle)).mono fun x fr' σ' ⟨f',h1,h2,v,h3,h4⟩=>?_)
 subst h2
 exact⟨.ok v,σ',endF_all h1 hd h3,h4⟩
theorem W.codeXR{d:Nat}(e:env.ext fn=0)(hp:env.pure fn=false)(hf:env.funcs fn=some af)(hb:af.body=some body)
  (hn:(Nat.beq (first++args++cap).length af.nargs&&Nat.ble (first++args++cap).length af.ntmps)=true) (hd:allB (fun r=>Nat.blt r.1 af.ntmps) af.results=true)
  (h:∀z,GoX env [] [.inl d] af.ntmps body (upds (W.aL 0 (first++args++cap)) z) σ (fun x f' σ'=>x= .ret∧σ'.get d=some .dblk∧∃v,resA (σ'.set d .dead) f' af.results=some v∧R (.ok v) (σ'.set d .dead))):GoesCall env 0 (.f (.func fn) first cap) args σ R:=by
 have hle:(first++args++cap).length≤af.ntmps:=by
  simp only[Bool.and_eq_true] at hn
  exact Nat.le_of_ble_eq_true hn.2
 have e0:upds (W.aL 0 (first++args++cap)) (argF (first++args++cap))=argF (first++args++cap):=upds_of (W.sat_aL _ 0 fun j a e=>by show(first++args++cap).getD (0+j) undefA=a;rw[Nat.zero_add,List.getD_eq_getElem?_getD,e];rfl)
 refine GoesCall.run e hp hf hb hn ((h (argF (first++args++cap)) _ (by rw[e0];exact isFr_start hle)).mono fun x fr' σ' ⟨f',h1,h2,h3,v,h4,h5⟩=>?_)
 subst h2
 exact⟨.ok v,_,endF_allX h1 h3 hd h4,h5⟩
end
def DoneR(rs:List (Nat×Option (Option Nat)))(r:AV):PostF:=fun x f σ'=>x= .ret∧∃v,resA σ' f rs=some v∧freeze σ' 0 1000 v=some r
section
attribute [local irreducible] GoM GoW GoV GoD GoesCall
section
variable {b:Base}{K:Nat→List AV→AV→Prop}(hfn:∀g ar r r',K g ar r→K g ar r'→r=r')
include hfn
theorem misshapen_go(xs:List AV)(hV:∀σ,snapshot σ (b.fz+1000) (.tl true (some 9) xs)=some (.tl true (some 9) xs))(hl:xs.length<2^20)(s:Nat→Bool)(e:b.ext n_shaped=0∧b.pure n_shaped=true)(r:Nat)(hr:r≤xs.length)(hK:∀k,1≤k→k≤xs.length→(r=0∨k≤r)→K n_shaped [.tl true (some 9) xs,nI k] (.b (s k)))
  (hs:∀k,1≤k→k≤xs.length→(r=0∨k<r)→s k=true) (hs2:r≠0→s r=false) (body:ACode) (hb:c_misshapen.body=some body):GoF (b.envK K) c_misshapen.ntmps body (argF [.tl true (some 9) xs]) ⟨.nil,0⟩ (Done 2 (nI r)):=by
 cases hb
 refine W.args fun z=>?_
 have H:Has (⟨.nil,0⟩:St) []:=Has.nil
 have hlen:∀σ:St,lenA σ 1 (.tl true (some 9) xs)=some xs.length:=fun _=>rfl
 refine wk ?_
 refine GoF.block ?_
 refine GoF.loop (fun m f τ=>∃k,k+m=xs.length+1∧1≤k∧(r=0∨k≤r)∧sat [(0,.tl true (some 9) xs),(3,nI k)] f) ?_ xs.length ⟨1,by omega,by omega,by omega,rfl,rfl,trivial⟩
 rintro m f τ ⟨k,hkm,hk1,hkr,hsat⟩
 refine GoF.norm _ hsat fun z=>?_
 clear hsat
 have H:Has τ []:=Has.nil
 by_cases hn:k≤xs.length
 ·obtain⟨m,rfl⟩:∃k,m=k+1:=⟨m-1,by omega⟩
  refine wk ?_
  refine W.kn hfn e (hK k hk1 hn hkr) rfl rfl rfl (snaps2 (hV _) rfl) ?_
  by_cases hq:k=r
  ·subst hq
   rw[hs2 (by omega)]
   refine wk ?_
   refine GoF.ret ?_
   exact⟨rfl,rfl⟩
  ·rw[hs k hk1 hn (by omega)]
   refine wk ?_
   exact⟨m,by omega,k+1,by omega,by omega,by omega,rfl,rfl,trivial⟩
 ·obtain rfl:m=0:=by omega
  refine wk ?_
  refine GoF.exit ?_
  show GoW _ _ _ _ _ _ _ _
  refine GoF.norm [] trivial fun g=>?_
  refine wk ?_
  refine GoF.ret ?_
  obtain rfl:r=0:=by omega
  exact⟨rfl,rfl⟩
end
theorem Sl.keepC{σ τ:St}{sh:Option Nat}{v:AV}{xs:List AV}(h:Sl σ sh v xs)(k:∀i c,v.at? =some i→σ.get i=some (.cells c)→τ.get i=some (.cells c)):Sl τ sh v xs:=by
 cases h with
 |nil=>exact .nil
 |sl o cap xs rest h hc hk=>exact .sl o cap xs rest (k _ _ rfl h) hc hk
def ndsL(L:List Ln):Nat→List (List Nat)
 |0=>[]
 |j+1=>ndsL L j++[needL L (boxL L) (ndsL L j) (j+1)]
theorem ndsL_len(L:List Ln):∀j,(ndsL L j).length=j
 |0=>rfl
 |j+1=>by rw[ndsL,List.length_append,ndsL_len L j];rfl
theorem needL_le{L:List Ln}{B N:List (List Nat)}{k n:Nat}(h:n∈needL L B N k):n≤k:=by
 unfold needL at h
 split at h
 ·rename_i x _
  cases hx:x.hyp with
  |true=>rw[hx,cond_true] at h;simp at h;omega
  |false=>rw[hx,cond_false] at h;have:=List.mem_range.1 (List.mem_filter.1 h).1;omega
 ·simp at h
theorem needL_len{L:List Ln}{B N:List (List Nat)}{k:Nat}:(needL L B N k).length≤k+1:=by
 unfold needL
 split
 ·rename_i x _
  cases hx:x.hyp with
  |true=>rw[cond_true];simp
  |false=>rw[cond_false];have:=List.length_filter_le (needS L B N k x.cs) (List.range k);rw[List.length_range] at this;omega
 ·simp
theorem ndsL_mem{L:List Ln}:∀ {j:Nat} {l:List Nat},l∈ndsL L j→l.length≤j+1∧∀n∈l,n≤j
 |0,l,h=>by simp[ndsL] at h
 |j+1,l,h=>by
  rw[ndsL] at h
  rcases List.mem_append.1 h with h|h
  ·obtain⟨a,b⟩:=ndsL_mem h
   exact⟨by omega,fun n hn=>by have:=b n hn;omega⟩
  ·rw[List.mem_singleton.1 h]
   exact⟨needL_len,fun n hn=>needL_le hn⟩
theorem lay1{ev:AOpd→Option AV}{o:AOpd}{w z:AV}(h:ev o=some w)(hc:w.cells=[w])(hv:w.val=true):layParts ev (fun i sz=>i*sz) (List.map (fun p=>(p.1,shN none,p.2)) [(0,o)]) (repeatC 1 [z])=some [w]:=by
 show(match ev o with|none=>none|some v=>cond (Nat.beq v.cells.length 1&&v.val) (match storeCells [z] (0*1) v.cells with|none=>none|some c=>some c) none)=_
 rw[h]
 show cond (Nat.beq w.cells.length 1&&w.val) (match storeCells [z] (0*1) w.cells with|none=>none|some c=>some c) none=_
 rw[hc,hv];rfl
structure SSb(τ:St)(p:Nat)(bV:AV)(bs:List AV)(B:List (List Nat)):Prop where
 sl:Sl τ none bV bs
 len:bs.length=B.length
 el:∀i (h:i<bs.length) (h':i<B.length),Is' τ bs[i] B[i]
 sv:∀o,bV.at? =some o→p<o
 sb:∀x∈bs,∀o,x.at? =some o→p<o∧bV.at? ≠some o
theorem SSb.nil{τ:St}{p:Nat}:SSb τ p .nilsl [] []:=⟨.nil,rfl,(fun i h=>by simp at h),(fun o h=>by cases h),(fun x h=>by simp at h)⟩
def SSo(bV:AV)(bs:List AV)(c:Nat):Prop:=bV.at? =some c∨∃x∈bs,x.at? =some c
theorem SSb.keepW{τ τ':St}{p:Nat}{bV:AV}{bs:List AV}{B:List (List Nat)}(h:SSb τ p bV bs B)(k:∀i c,SSo bV bs i→τ.get i=some (.cells c)→τ'.get i=some (.cells c)):SSb τ' p bV bs B:=
 ⟨h.sl.keepC fun i c hi=>k i c (.inl hi),h.len,fun i a b=>(h.el i a b).keepC fun j c hj=>k j c (.inr ⟨_,List.getElem_mem a,hj⟩),h.sv,h.sb⟩
theorem SSb.keep{τ τ':St}{p:Nat}{bV:AV}{bs:List AV}{B:List (List Nat)}(h:SSb τ p bV bs B)(k:∀i c,p<i→τ.get i=some (.cells c)→τ'.get i=some (.cells c)):SSb τ' p bV bs B:=h.keepW fun i c hi=>k i c (by
 rcases hi with hi|⟨x,hx,hi⟩
 ·exact h.sv i hi
 ·exact(h.sb x hx i hi).1)
theorem SSb.lt{τ:St}{p:Nat}{bV:AV}{bs:List AV}{B:List (List Nat)}(h:SSb τ p bV bs B){c:Nat}(hc:SSo bV bs c):c<τ.next:=by
 rcases hc with hi|⟨x,hx,hi⟩
 ·exact h.sl.lt hi
 ·obtain⟨i,hlt,rfl⟩:=List.getElem_of_mem hx
  exact(h.el i hlt (by rw[←h.len];exact hlt)).lt hi
theorem SSb.push{τ τ':St}{p:Nat}{bV v' w:AV}{bs:List AV}{B:List (List Nat)}{l:List Nat}(h:SSb τ p bV bs B)(hw:Is' τ w l)(hwo:∀o,w.at? =some o→p<o∧bV.at? ≠some o)(hp:p<τ.next)(hv:Sl τ' none v' (bs++[w]))(ha:v'.at? =some (τ.next+1))(k:∀i o,bV.at? ≠some i→τ.get i=some o→τ'.get i=some o):SSb τ' p v' (bs++[w]) (B++[l]):=by
 refine⟨hv,by rw[List.length_append,List.length_append,h.len];rfl,fun i a b=>?_,(fun o ho=>by rw[ha] at ho;cases ho;omega),fun x hx o ho=>?_⟩
 ·by_cases hi:i<bs.length
  ·rw[List.getElem_append_left hi,List.getElem_append_left (by rw[←h.len];exact hi)]
   exact(h.el i hi (by rw[←h.len];exact hi)).keepC fun j c hj=>k j _ ((h.sb _ (List.getElem_mem hi) j hj).2)
  ·have e:i=bs.length:=by rw[List.length_append] at a;simp only[List.length_cons,List.length_nil] at a;omega
   subst e
   have e2:(B++[l])[bs.length]'b=l:=by simp[h.len]
   have e3:(bs++[w])[bs.length]'a=w:=by simp
   rw[e2,e3]
   exact hw.keepC fun j c hj=>k j _ ((hwo j hj).2)
 ·rw[ha]
  rcases List.mem_append.1 hx with hx|hx
  ·exact⟨(h.sb x hx o ho).1,(fun e=>by cases e;have:=h.lt (.inr ⟨x,hx,ho⟩);omega)⟩
  ·rw[List.mem_singleton.1 hx] at ho
   exact⟨(hwo o ho).1,(fun e=>by cases e;have:=hw.lt ho;omega)⟩
def BZ(L:List Ln)(bs:List AV):Prop:=∀i (h:i<bs.length),(bs[i]).at? =none↔hsL L (i+1)=false
def NZ(ns:List AV)(N:List (List Nat)):Prop:=∀i (h:i<ns.length) (h':i<N.length),N[i]=[]→ns[i]= .nilsl
theorem BZ.push{L:List Ln}{bs:List AV}{w:AV}(h:BZ L bs)(hw:w.at? =none↔hsL L (bs.length+1)=false):BZ L (bs++[w]):=fun i hi=>by
 by_cases hl:i<bs.length
 ·rw[List.getElem_append_left hl];exact h i hl
 ·have e:i=bs.length:=by rw[List.length_append] at hi;simp only[List.length_cons,List.length_nil] at hi;omega
  subst e
  rw[show(bs++[w])[bs.length]'hi=w from by simp];exact hw
theorem NZ.push{ns:List AV}{N:List (List Nat)}{w:AV}{l:List Nat}(h:NZ ns N)(hl:ns.length=N.length)(hw:l=[]→w= .nilsl):NZ (ns++[w]) (N++[l]):=fun i hi hi'=>by
 by_cases hlt:i<ns.length
 ·rw[List.getElem_append_left hlt,List.getElem_append_left (by rw[←hl];exact hlt)];exact h i hlt _
 ·have e:i=ns.length:=by rw[List.length_append] at hi;simp only[List.length_cons,List.length_nil] at hi;omega
  subst e
  rw[show(ns++[w])[ns.length]'hi=w from by simp,show(N++[l])[ns.length]'hi'=l from by simp[hl]];exact hw
structure Op(τ:St)(p:Nat)(L:List Ln):Prop where
 ex:∃q bV nV bs ns,τ.get p=some (.cells [lnsA L,bV,nV])∧SSb τ q bV bs (boxL L)∧SSb τ q nV ns (ndsL L L.length)∧BZ L bs∧NZ ns (ndsL L L.length)
theorem Op.pr{τ:St}{p:Nat}{L:List Ln}(h:Op τ p L):Pr τ p L (boxL L) (ndsL L L.length):=by
 obtain⟨q,bV,nV,bs,ns,hp,hB,hN,_⟩:=h.ex
 exact⟨bV,nV,bs,ns,hp,hB.sl,hB.len,hB.el,hN.sl,hN.len,hN.el⟩
theorem Op.keep{τ τ':St}{p:Nat}{L:List Ln}(h:Op τ p L)(k:∀i c,τ.get i=some (.cells c)→τ'.get i=some (.cells c)):Op τ' p L:=by
 obtain⟨q,bV,nV,bs,ns,hp,hB,hN,h1,h2⟩:=h.ex
 exact⟨q,bV,nV,bs,ns,k _ _ hp,hB.keep fun i c _=>k i c,hN.keep fun i c _=>k i c,h1,h2⟩
section
variable {b:Base}{K:Nat→List AV→AV→Prop}
theorem around_go(hh:Here (b.envK K) n_around c_around){L:List Ln}{σ:St}:
  GoesCall (b.envK K) 0 (.f (.func n_around) [] []) [lnsA L] σ (fun r τ=>r= .ok (.f (.func n_around1) [] [pt σ.next])∧τ.get σ.next=some (.cells [lnsA L])∧τ.next=σ.next+1∧Mr σ τ):=by
 refine W.code hh.e hh.p hh.f rfl rfl rfl rfl fun z=>?_
 have H:Has σ []:=Has.nil
 refine wk ?_
 generalize hq:σ.next=q
 refine W.bx H hq rfl rfl rfl rfl rfl fun τ hn H k1=>?_
 refine wk ?_
 exact GoF.ret ⟨rfl,rfl,H.get _ (.head _),hn,by omega,k1⟩
end
section
variable {b:Base}{K:Nat→List AV→AV→Prop}(hfn:∀g ar r r',K g ar r→K g ar r'→r=r')
include hfn
theorem open_go(hf:HF b K)(hh:Here (b.envK K) n_fopen c_fopen)(ha:Here (b.envK K) n_around c_around)(ha1:Here (b.envK K) n_around1 c_around1){L:List Ln}(hS:Shp L)(hne:0<L.length)(h500:L.length≤500)(hLs:∀σ,snapshot σ (b.fz+1000) (lnsA L)=some (lnsA L))(em:b.ext n_misshapen=0∧b.pure n_misshapen=true)(hm:K n_misshapen [lnsA L] (nI 0))(hD:Dm L (boxL L))(hc:∀k x,L[k-1]? =some x→1≤k→Cok k x.cs){σ:St}:
  GoesCall (b.envK K) 0 (.f (.func n_fopen) [] []) [lnsA L] σ (fun r τ=>∃p,r= .ok (.tu [pt p,nI 0])∧Op τ p L∧σ.next≤p∧Mr σ τ):=by
 refine W.codeXR (d:=σ.next+3) hh.e hh.p hh.f rfl rfl rfl fun z=>?_
 have H:Has σ []:=Has.nil
 refine GoX.seqA ?_
 refine wk ?_
 refine⟨rfl,?_⟩
 refine GoX.seqA ?_
 refine wk ?_
 refine⟨rfl,?_⟩
 refine GoX.seqA ?_
 refine wk ?_
 refine W.kn hfn em hm rfl rfl rfl (snaps1 (hLs _)) ?_
 refine W.bin (v:=.b false) rfl rfl rfl rfl rfl ?_
 refine wk ?_
 refine⟨rfl,?_⟩
 refine GoX.seqA ?_
 refine wk ?_
 refine W.bx (c:=[lnsA L,.nilsl,.nilsl]) H rfl rfl rfl rfl rfl rfl fun τ n1 H k1=>?_
 refine wk ?_
 refine W.vr H n1 rfl rfl rfl rfl rfl rfl fun τ2 n2 H k2=>?_
 refine wk ?_
 refine⟨rfl,?_⟩
 refine GoX.seqB ?_
 refine GoX.seqA ?_
 refine wk ?_
 refine W.cy rfl rfl rfl (around_go ha) fun r τ3 ⟨e,g3,n3,M3⟩=>⟨_,e,?_⟩
 refine wk ?_
 refine⟨rfl,?_⟩
 refine GoX.block ?_
 have n3':τ3.next=σ.next+3:=by omega
 have e2:τ2.next=σ.next+2:=by omega
 rw[e2] at g3 ⊢
 clear e2 n3 e
 have H0:=H.keep M3.2
 have H:Has τ3 [(σ.next+1,[pt σ.next]),(σ.next,[lnsA L,.nilsl,.nilsl])]:=H0
 have hM:Mr σ τ3:=⟨by omega,fun i o h=>M3.2 i o (k2 i o (k1 i o h))⟩
 clear H0 M3 k2 k1 n2 n1
 generalize hq:σ.next=q at *
 have hlen:=hD.len
 have hbl:∀i,i<L.length→(boxL L).getD i []=stF L (i+1):=fun i hi=>by
  unfold boxL
  rw[List.getD_eq_getElem?_getD,List.getElem?_map,List.getElem?_range hi];rfl
 refine GoX.iter (k:=q+3) L.length (fun i W τ=>∃bV bs,SSb τ (q+4) bV bs ((List.range i).map fun i=>stF L (i+1))∧τ.get q=some (.cells [lnsA L,bV,.nilsl])∧BZ L bs∧∀c,W c↔c=q∨SSo bV bs c) (fun i V τ args=>∃v,args=[nI (i+1),v]∧Is' τ v (stF L (i+1))∧(v.at? =none↔hsL L (i+1)=false)∧∀o,v.at? =some o→¬V o) (fun c=>c=q) n3' rfl ha1.e rfl (fun i W τ args ⟨v,e,_⟩=>by rw[e];rfl) ?_ ?_ (fun c hc=>by rw[hc];omega) (around1_go ha1 hS g3 _ (by show ¬(q+2=q);omega)) ?_ ?_
 ·rintro i V τ τ' ⟨bV,bs,h1,h2,h3,h4⟩ kp hn
  exact⟨bV,bs,h1.keepW fun i c hi=>kp i _ ((h4 i).2 (.inr hi)),kp _ _ ((h4 _).2 (.inl rfl)) h2,h3,h4⟩
 ·exact⟨.nilsl,[],.nil,H.get _ (.tail _ (.head _)),(fun i h=>by simp at h),fun c=>by simp[SSo,AV.at?]⟩
 ·rintro i V τ args hi ⟨v,rfl,hv,hvn,hvo⟩ hI hnl hVk hkn kp
  refine GoF.norm [(25,v),(4,pt (q+1))] ⟨rfl,rfl,trivial⟩ fun g=>?_
  have H':Has τ []:=Has.nil
  have hbx:=kp _ _ (show ¬q+1=q by omega) (H.get _ (.head _))
  clear H H'
  have H:Has τ []:=Has.nil
  refine wk ?_
  refine⟨rfl,⟨Nat.le_refl _,fun _ _ h=>h⟩,fun τ2 hn2 k2 hI=>?_⟩
  obtain⟨bV,bs,hSS,hp,hbz,hW⟩:=hI
  have hbx:=k2 _ _ (by omega) hbx
  have hv:=hv.keepC (τ:=τ2) fun i c hi hg=>k2 i _ (fun e=>hnl c (e▸hg)) hg
  have H:Has τ2 [(q,[lnsA L,bV,.nilsl]),(q+1,[pt q])]:=(Has.nil.cons hbx (by simp)).cons hp (by simp)
  refine GoF.norm [(6,v),(4,pt (q+1))] ⟨rfl,rfl,trivial⟩ fun g=>?_
  have hsl:bs.length=i:=by rw[hSS.len];simp
  have hstl:(stF L (i+1)).length<2^20:=by
   rw[hS.len i hi,List.getElem?_eq_getElem hi]
   have:=(hS.num _ (List.getElem_mem hi)).1
   show(L[i]).dp<_
   omega
  refine wk ?_
  refine W.ldw H rfl rfl rfl (.head _) rfl (eqb1 hSS.sl.lf) ?_
  refine wk ?_
  refine W.cy rfl rfl rfl (CloneI_go hf hv hstl) fun r τ4 ⟨w,e,hw,M4⟩=>⟨_,e,?_⟩
  have H:=H.keep M4.2
  refine wk ?_
  have h4:=hSS.sl.keep (τ:=τ4) fun i o _=>M4.2 i o
  refine W.bs (c:=[w]) H rfl rfl rfl (lay1 rfl hw.sl.cells0 hw.sl.val0) fun τ' n' H k'=>?_
  have hc':=H.get _ (.head _)
  have Hq:τ'.get q=some (.cells [lnsA L,bV,.nilsl]):=H.get _ (.tail _ (.head _))
  have Hq1:τ'.get (q+1)=some (.cells [pt q]):=H.get _ (.tail _ (.tail _ (.head _)))
  refine W.now [(8,q,.cells [lnsA L,bV,.nilsl]),(8,q+1,.cells [pt q]),(8,q+1,.cells [pt q])] [(11,q+1,.cells [pt q])] rfl rfl ⟨Hq,Hq1,Hq1,trivial⟩ ?_
  refine W.ap (w:=.sl τ4.next 0 1 none (some 1)) w [] (h4.keep fun i o _=>k' i o) (by show readList τ' (.sl τ4.next 0 1 none (some 1))=_;show(match τ'.get τ4.next with|some (.cells c)=>elems none 1 (c.drop 0)|_=>none)=_;rw[hc'];rfl) (fun z hz=>by rw[List.mem_singleton.1 hz];exact hw.sl.conf0) (by show(3*(bs.length+1)+2000)*24≤_;rw[hsl];omega) rfl rfl rfl rfl fun v' τ5 hv5 ha5' hc5 n5' k5'=>?_
  have ha5:v'.at? =some (τ4.next+1):=by rw[ha5',n']
  have n5:τ5.next=τ4.next+2:=by omega
  have k5:∀i o,bV.at? ≠some i→τ4.get i=some o→τ5.get i=some o:=fun i o hi ho=>k5' i o hi (k' i o ho)
  replace H:Has τ4 [(q,[lnsA L,bV,.nilsl]),(q+1,[pt q])]:=(Has.nil.cons (M4.2 _ _ hbx) (by simp)).cons (M4.2 _ _ hp) (by simp)
  have H:Has τ5 [(q,[lnsA L,bV,.nilsl]),(q+1,[pt q])]:=(Has.nil.cons (k5 _ _ (fun e=>by have:=hSS.sv _ e;omega) (H.get _ (.tail _ (.head _)))) (by simp)).cons (k5 _ _ (fun e=>by have:=hSS.sv _ e;omega) (H.get _ (.head _))) (by simp)
  refine wk ?_
  refine W.st (c':=[lnsA L,v',.nilsl]) H 0 rfl rfl rfl rfl hv5.conf0 (by rw[hv5.cells0];rfl) fun τ6 n6 H k6=>?_
  refine wk ?_
  have hSS4:SSb τ4 (q+4) bV bs ((List.range i).map fun i=>stF L (i+1)):=hSS.keep fun i c _=>M4.2 i _
  have hSS5:=hSS4.push hw.sl (fun o ho=>⟨by have:=hw.lo o ho;omega,fun e=>by have:=hw.lo o ho;have:=hSS.lt (.inl e);omega⟩) (by have:=M4.1;omega) hv5 ha5 k5
  refine⟨rfl,fun c=>c=q∨SSo v' (bs++[w]) c,⟨v',bs++[w],?_,H.get _ (.head _),hbz.push (by rw[hw.nn,hsl];exact hvn),fun c=>Iff.rfl⟩,?_⟩
  ·rw[List.range_succ,List.map_append]
   exact hSS5.keep fun i c hi=>k6 i _ (by omega)
  ·refine⟨by have:=M4.1;omega,fun c o hc ho=>k6 _ _ (fun e=>hc ((hW c).2 (.inl e))) (k5 _ _ (fun e=>hc ((hW c).2 (.inr (.inl e)))) (M4.2 _ _ ho)),fun c hc=>?_⟩
   rcases hc with rfl|hc|⟨x,hx,hc⟩
   ·exact .inl ((hW _).2 (.inl rfl))
   ·right;rw[ha5] at hc;cases hc;have:=M4.1;omega
   ·rcases List.mem_append.1 hx with hx|hx
    ·exact .inl ((hW _).2 (.inr (.inr ⟨x,hx,hc⟩)))
    ·right
     rw[List.mem_singleton.1 hx] at hc
     have:=hw.lo c hc
     have:=hw.sl.lt hc
     omega
 ·intro W' τ ⟨bV,bs,hSS,hp,hbz,hW⟩ hmk hnx kp hWk
  have hB:((List.range L.length).map fun i=>stF L (i+1))=boxL L:=rfl
  rw[hB] at hSS
  refine⟨rfl,rfl,?_⟩
  refine GoF.norm [(0,lnsA L),(4,pt (q+1)),(3,nI 0)] ⟨rfl,rfl,rfl,trivial⟩ fun g=>?_
  have hbx:=kp _ _ (show ¬q+1=q by omega) (H.get _ (.head _))
  have hMM:Mr σ τ:=⟨by have:=hM.1;omega,fun i o ho=>kp i o (by have:=St.get_lt ho;omega) (hM.2 i o ho)⟩
  clear H kp hWk hW
  have H:Has τ [(q,[lnsA L,bV,.nilsl]),(q+1,[pt q])]:=(Has.nil.cons hbx (by simp)).cons hp (by simp)
  refine wk ?_
  show GoW _ _ _ _ _ _ _ _
  refine W.cutM (α:=AV×List AV) (fun _=>[(0,lnsA L),(4,pt (q+1)),(3,nI 0)]) (fun x τ=>SSb τ (q+4) bV bs (boxL L)∧SSb τ (q+4) x.1 x.2 (ndsL L L.length)∧(∀c,SSo bV bs c→¬SSo x.1 x.2 c)∧NZ x.2 (ndsL L L.length)∧τ.get q=some (.cells [lnsA L,bV,x.1])∧τ.get (q+1)=some (.cells [pt q])∧τ.get (q+3)=some .dblk∧Mr σ τ) ?_ ?_
  ·refine GoF.each L.length (fun j f τ=>∃nV ns,SSb τ (q+4) bV bs (boxL L)∧SSb τ (q+4) nV ns (ndsL L j)∧(∀c,SSo bV bs c→¬SSo nV ns c)∧NZ ns (ndsL L j)∧τ.get q=some (.cells [lnsA L,bV,nV])∧τ.get (q+1)=some (.cells [pt q])∧τ.get (q+3)=some .dblk∧q+5≤τ.next∧Mr σ τ∧sat [(0,lnsA L),(4,pt (q+1)),(3,nI 0)] f) (by omega) ⟨.nilsl,[],hSS,.nil,?_,(fun i h=>by simp at h),hp,hbx,hmk,hnx,hMM,rfl,rfl,rfl,trivial⟩ rfl rfl (fun j g τ hj hI hi hm=>?_) (fun g τ hI hi=>?_)
   ·intro c _ h
    rcases h with h|⟨x,hx,h⟩
    ·cases h
    ·simp at hx
   ·obtain⟨nV,ns,hB,hN,hd,hnz,hp,hbx,hmk,hnx,hM,g0,g4,g3,_⟩:=hI
    refine GoF.norm [(0,lnsA L),(4,pt (q+1)),(3,nI 0),(39,nI j),(38,nI L.length)] ⟨g0,g4,g3,hi,hm,trivial⟩ fun g=>?_
    have H:Has τ [(q,[lnsA L,bV,nV]),(q+1,[pt q])]:=(Has.nil.cons hbx (by simp)).cons hp (by simp)
    have hnl:=ndsL_len L j
    have hP:Pr τ q L (boxL L) (ndsL L j):=⟨bV,nV,bs,ns,hp,hB.sl,hB.len,hB.el,hN.sl,hN.len,hN.el⟩
    refine wk ?_
    refine W.ldw H rfl rfl rfl (.head _) rfl (eqb1 hN.sl.lf) ?_
    refine wk ?_
    refine W.cy rfl rfl rfl (needed_go hf hP hD (fun x hx=>by have:=hS.num x hx;omega) (fun l hl=>by have:=(ndsL_mem hl).1;omega) (j+1) (by omega) (by omega) (by omega) (fun l hl n hn=>by have:=(ndsL_mem (List.mem_of_mem_take hl)).2 n hn;omega) (fun x hx=>hc (j+1) x hx (by omega))) fun r τ4 ⟨w,e,hw,M4⟩=>⟨_,e,?_⟩
    have H:=H.keep M4.2
    refine wk ?_
    have h4:=hN.sl.keep (τ:=τ4) fun i o _=>M4.2 i o
    refine W.bs (c:=[w]) H rfl rfl rfl (lay1 rfl hw.sl.cells0 hw.sl.val0) fun τ' n' H k'=>?_
    have hc':=H.get _ (.head _)
    have Hq:τ'.get q=some (.cells [lnsA L,bV,nV]):=H.get _ (.tail _ (.head _))
    have Hq1:τ'.get (q+1)=some (.cells [pt q]):=H.get _ (.tail _ (.tail _ (.head _)))
    refine W.now [(10,q,.cells [lnsA L,bV,nV]),(10,q+1,.cells [pt q]),(10,q+1,.cells [pt q])] [(13,q+1,.cells [pt q])] rfl rfl ⟨Hq,Hq1,Hq1,trivial⟩ ?_
    have hsl:ns.length=j:=by rw[hN.len,hnl]
    refine W.ap (w:=.sl τ4.next 0 1 none (some 1)) w [] (h4.keep fun i o _=>k' i o) (by show readList τ' (.sl τ4.next 0 1 none (some 1))=_;show(match τ'.get τ4.next with|some (.cells c)=>elems none 1 (c.drop 0)|_=>none)=_;rw[hc'];rfl) (fun z hz=>by rw[List.mem_singleton.1 hz];exact hw.sl.conf0) (by show(3*(ns.length+1)+2000)*24≤_;rw[hsl];omega) rfl rfl rfl rfl fun v' τ5 hv5 ha5' hc5 n5' k5'=>?_
    have ha5:v'.at? =some (τ4.next+1):=by rw[ha5',n']
    have n5:τ5.next=τ4.next+2:=by omega
    have k5:∀i o,nV.at? ≠some i→τ4.get i=some o→τ5.get i=some o:=fun i o hi ho=>k5' i o hi (k' i o ho)
    have m4:=M4.1
    replace H:Has τ5 [(q,[lnsA L,bV,nV]),(q+1,[pt q])]:=(Has.nil.cons (k5 _ _ (fun e=>by have:=hN.sv _ e;omega) (M4.2 _ _ hbx)) (by simp)).cons (k5 _ _ (fun e=>by have:=hN.sv _ e;omega) (M4.2 _ _ hp)) (by simp)
    refine wk ?_
    refine W.st (c':=[lnsA L,bV,v']) H 0 rfl rfl rfl rfl hv5.conf0 (by rw[hv5.cells0];rfl) fun τ6 n6 H k6=>?_
    refine wk ?_
    have hN4:SSb τ4 (q+4) nV ns (ndsL L j):=hN.keep fun i c _=>M4.2 i _
    have hN5:=hN4.push hw.sl (fun o ho=>⟨by have:=hw.lo o ho;omega,fun e=>by have:=hw.lo o ho;have:=hN.lt (.inl e);omega⟩) (by omega) hv5 ha5 k5
    refine⟨rfl,rfl,v',ns++[w],(hB.keepW fun i c hi hg=>k6 i _ ?_ (k5 i _ (fun e=>hd i hi (.inl e)) (M4.2 i _ hg))),hN5.keep fun i c hi=>k6 i _ (by omega),?_,hnz.push hN.len hw.nn,H.get _ (.head _),H.get _ (.tail _ (.head _)),k6 _ _ (by omega) (k5 _ _ (fun e=>by have:=hN.sv _ e;omega) (M4.2 _ _ hmk)),by omega,⟨by have:=hM.1;omega,fun i o ho=>k6 _ _ (by have:=St.get_lt ho;omega) (k5 _ _ (fun e=>by have:=hN.sv _ e;have:=St.get_lt ho;omega) (M4.2 _ _ (hM.2 _ _ ho)))⟩,rfl,rfl,rfl,trivial⟩
    ·intro e
     subst e
     rcases hi with hi|⟨x,hx,hi⟩
     ·have:=hB.sv _ hi;omega
     ·have:=(hB.sb x hx _ hi).1;omega
    ·intro c hcB hcN
     have hlt:=hB.lt hcB
     rcases hcN with h|⟨x,hx,h⟩
     ·rw[ha5] at h;cases h;omega
     ·rcases List.mem_append.1 hx with hx|hx
      ·exact hd c hcB (.inr ⟨x,hx,h⟩)
      ·rw[List.mem_singleton.1 hx] at h
       have:=hw.lo c h;omega
   ·obtain⟨nV,ns,hB,hN,hd,hnz,hp,hbx,hmk,hnx,hM,g0,g4,g3,_⟩:=hI
    exact⟨rfl,(nV,ns),⟨hB,hN,hd,hnz,hp,hbx,hmk,hM⟩,g0,g4,g3,trivial⟩
  ·intro x g τ' ⟨hB,hN,hd,hnz,hp,hbx,hmk,hM⟩
   have H:Has τ' [(q,[lnsA L,bV,x.1]),(q+1,[pt q])]:=(Has.nil.cons hbx (by simp)).cons hp (by simp)
   refine wk ?_
   refine GoF.ret ⟨rfl,hmk,_,rfl,q,rfl,?_,?_,?_⟩
   ·have hP:Op τ' q L:=⟨q+4,bV,x.1,bs,x.2,hp,hB,hN,hbz,hnz⟩
    exact hP.keep fun i c hg=>(set_get hmk).2 i _ (fun e=>by subst e;rw[hmk] at hg;cases hg) hg
   ·omega
   ·exact⟨hM.1,fun i o ho=>(set_get hmk).2 i _ (fun e=>by have:=St.get_lt ho;omega) (hM.2 i o ho)⟩
end
theorem mapO_idx{α β:Type}{f:α→Option β}:∀ {l:List α} {r:List β},l.length=r.length→(∀i (h:i<l.length) (h':i<r.length),f l[i]=some r[i])→mapO f l=some r
 |[],[],_,_=>rfl
 |[],_::_,h,_=>by simp at h
 |_::_,[],h,_=>by simp at h
 |x::l,y::r,h,hi=>by
  rw[mapO_cons,show f x=some y from hi 0 (by simp) (by simp),mapO_idx (l:=l) (r:=r) (by simpa using h) fun i a b=>hi (i+1) (by simpa using a) (by simpa using b)]
def frV(v:AV)(sh:Option Nat)(ys:List AV):AV:=match v.at? with|none=>.nilsl|some _=>.tl false sh ys
theorem Sl.freeze{σ:St}{sh:Option Nat}{v:AV}{xs ys:List AV}{n:Nat}(h:Sl σ sh v xs)(hm:mapO (Go.Lyc.freeze σ 0 n) xs=some ys):Go.Lyc.freeze σ 0 (n+1) v=some (frV v sh ys):=by
 have hr:=h.read
 cases h with
 |nil=>rfl
 |sl o cap xs rest h hc hk=>
  rw[freeze_succ]
  simp only[hr,hm]
  rfl
section
variable {b:Base}{K:Nat→List AV→AV→Prop}(hfn:∀g ar r r',K g ar r→K g ar r'→r=r')
structure Gd(b:Base)(K:Nat→List AV→AV→Prop)(L:List Ln):Prop where
 shp:Shp L
 ne:0<L.length
 le:L.length≤500
 sn:∀σ,snapshot σ (b.fz+1000) (lnsA L)=some (lnsA L)
 mis:K n_misshapen [lnsA L] (nI 0)
 dm:Dm L (boxL L)
 ck:∀k x,L[k-1]? =some x→1≤k→Cok k x.cs
structure HO(b:Base)(K:Nat→List AV→AV→Prop):Prop where
 op:Here (b.envK K) n_fopen c_fopen
 ar:Here (b.envK K) n_around c_around
 ar1:Here (b.envK K) n_around1 c_around1
 mi:b.ext n_misshapen=0∧b.pure n_misshapen=true
include hfn
end
theorem layStep{ev:AOpd→Option AV}{sz:Nat→Nat→Nat}{ps:List (Nat×Nat×AOpd)}{i n:Nat}{o:AOpd}{v:AV}{z c r:List AV}(h:ev o=some v)(hl:(Nat.beq v.cells.length n&&v.val)=true)(hs:storeCells z (sz i n) v.cells=some c)(hr:layParts ev sz ps c=some r):layParts ev sz ((i,n,o)::ps) z=some r:=by
 show(match ev o with|none=>none|some v=>cond (Nat.beq v.cells.length n&&v.val) (match storeCells z (sz i n) v.cells with|none=>none|some c=>layParts ev sz ps c) none)=_
 rw[h]
 show cond (Nat.beq v.cells.length n&&v.val) (match storeCells z (sz i n) v.cells with|none=>none|some c=>layParts ev sz ps c) none=_
 rw[hl,cond_true,hs];exact hr
theorem W.bd{md:Md}{env:Env}{wh:Option Nat}{D:List (Nat ⊕ (AV×List AV))}{n:Nat}{F:List (Nat×AV)}{z:Nat→AV}{σ:St}{Q:PostF}{d:Nat}{z0 c:List AV}{ps:List (Nat×Nat×AOpd)}{g:Option (Nat×Bool)}{ops:List AOper}(hd:Nat.blt d n=true)(hw:wtL g n F=true)(hl:layParts (evL env n F z) (fun off _=>off) ps z0=some c)(h:GoM md env wh D n ops (upds ((d,.ag c)::F) z) σ Q):GoM md env wh D n (⟨some d,.build z0 ps,g,[]⟩::ops) (upds F z) σ Q:=
 W.val hd hw (by show(match layParts (evL env n F z) (fun off _=>off) ps z0 with|some c=>some (OpR.val (.ag c) σ)|none=>none)=_;rw[hl]) h
theorem asmF_mem{L:List Ln}{first d:Nat}:∀ {m n0 n:Nat},n∈asmF L first d m n0→n0≤n∧n-1<L.length
 |0,_,_,h=>by simp[asmF] at h
 |m+1,n0,n,h=>by
  rw[asmF_succ] at h
  split at h
  ·rename_i x hx
   split at h
   ·rcases List.mem_cons.1 h with rfl|h
    ·exact⟨Nat.le_refl _,(List.getElem?_eq_some_iff.1 hx).1⟩
    ·have:=asmF_mem h;omega
   ·simp at h
  ·simp at h
theorem st_le{T:List Ln}:∀ {i:Nat},∀n∈stF T i,1≤n∧n≤i
 |0,n,h=>by simp[stF] at h
 |i+1,n,h=>by
  rw[stF] at h
  split at h
  ·unfold stkF at h
   rcases List.mem_append.1 h with h|h
   ·have:=st_le (i:=i) n (List.mem_of_mem_take h);omega
   ·have:=List.eq_of_mem_replicate h;omega
  ·simp at h
def pth:List Nat→ACode→ACode
 |[],c=>c
 |i::l,.seq a c=>cond (Nat.beq i 0) (pth l a) (pth l c)
 |i::l,.cond _ a c=>cond (Nat.beq i 0) (pth l a) (pth l c)
 |_::l,.block _ a=>pth l a
 |_::l,.loop a=>pth l a
 |_,c=>c
def mk1(S:List Bool)(n:Nat):List Bool:=S.set (n-1) true
theorem mk1_len{S:List Bool}{n:Nat}:(mk1 S n).length=S.length:=List.length_set
theorem mks_len:∀ {l:List Nat} {S:List Bool},(l.foldl mk1 S).length=S.length
 |[],_=>rfl
 |n::l,S=>by rw[List.foldl_cons,mks_len,mk1_len]
def citW(T:List Ln)(k:Nat)(S:List Bool)(ac:Nat×Nat):List Bool:=cond (isBoxB T (boxL T) k ac.1 ac.2) ((asmL T ac.1 (dpL T k+1)).foldl mk1 (mk1 (mk1 S ac.2) ac.1)) (mk1 S ac.2)
theorem citW_len{T:List Ln}{k:Nat}{S:List Bool}{ac:Nat×Nat}:(citW T k S ac).length=S.length:=by
 unfold citW
 cases isBoxB T (boxL T) k ac.1 ac.2 with
 |true=>rw[cond_true,mks_len,mk1_len,mk1_len]
 |false=>rw[cond_false,mk1_len]
theorem citsW_len{T:List Ln}{k:Nat}:∀ {l:List (Nat×Nat)} {S:List Bool},(l.foldl (citW T k) S).length=S.length
 |[],_=>rfl
 |n::l,S=>by rw[List.foldl_cons,citsW_len,citW_len]
def linW(T:List Ln)(k:Nat)(S:List Bool):List Bool:=match T[k-1]? with
 |some x=>cond (S.getD (k-1) false) (x.cs.foldl (citW T k) ((stF T k).foldl mk1 S)) S
 |none=>S
theorem linW_len{T:List Ln}{k:Nat}{S:List Bool}:(linW T k S).length=S.length:=by
 unfold linW
 split
 ·cases S.getD (k-1) false with
  |true=>rw[cond_true,citsW_len,mks_len]
  |false=>rfl
 ·rfl
def wanD(T:List Ln):Nat→List Bool
 |0=>mk1 (List.replicate T.length false) T.length
 |j+1=>linW T (T.length-j) (wanD T j)
theorem wanD_len{T:List Ln}:∀ {j:Nat},(wanD T j).length=T.length
 |0=>by rw[wanD,mk1_len,List.length_replicate]
 |j+1=>by rw[wanD,linW_len,wanD_len]
def wanL(T:List Ln):List Bool:=wanD T T.length
section
variable {b:Base}{K:Nat→List AV→AV→Prop}
theorem want_go(hh:Here (b.envK K) n_wanted1 c_wanted1){c q:Nat}{σ:St}{v:AV}{l:List Nat}{S:List Bool}(hc:σ.get c=some (.cells [.sl q 0 S.length none (some S.length)]))(hq:σ.get q=some (.cells (S.map AV.b)))(hcq:c≠q)(hv:Is' σ v l)(hvq:∀i,v.at? =some i→i≠q)(hl:∀n∈l,1≤n∧n≤S.length)(hll:l.length<2^20)(hS:S.length<2^20):
  GoesCall (b.envK K) 0 (.f (.func n_wanted1) [] [pt c]) [v] σ (fun r τ=>r= .ok (.tu [])∧τ.get q=some (.cells ((l.foldl mk1 S).map AV.b))∧(∀i o,i≠q→σ.get i=some o→τ.get i=some o)∧τ.next=σ.next):=by
 refine W.code0 hh.e hh.p hh.f rfl rfl rfl fun z=>?_
 have H:Has σ []:=Has.nil
 have hvn:=hv.nv
 refine wk ?_
 refine GoF.each l.length (fun j f τ=>τ.get q=some (.cells (((l.take j).foldl mk1 S).map AV.b))∧(∀i o,i≠q→σ.get i=some o→τ.get i=some o)∧τ.next=σ.next∧sat [(5,v),(1,pt c)] f) (by omega) ⟨hq,fun _ _ _ h=>h,rfl,rfl,rfl,trivial⟩ rfl rfl (fun j g τ hj hI hi hm=>?_) (fun g τ hI hi=>?_)
 ·obtain⟨h1,h2,h3,g5,g1,_⟩:=hI
  refine GoF.norm [(7,nI j),(6,nI l.length),(5,v),(1,pt c)] ⟨hi,hm,g5,g1,trivial⟩ fun g=>?_
  have H:Has τ [(c,[.sl q 0 S.length none (some S.length)]),(q,((l.take j).foldl mk1 S).map AV.b)]:=(Has.nil.cons h1 (by simp)).cons (h2 _ _ hcq hc) (by simp;exact fun e=>hcq e.symm)
  have hvn:=(hv.keep (τ:=τ) fun i o hi=>h2 i o (hvq i hi)).nv
  obtain⟨p1,p2⟩:=hl _ (List.getElem_mem hj)
  refine wk ?_
  refine W.ix rfl rfl rfl rfl (idxSlA_sl (by omega)) ?_
  refine W.st H 1 rfl rfl rfl rfl rfl (store_bl (by rw[mks_len];omega)) fun τ5 n5 H k5=>?_
  refine wk ?_
  refine⟨rfl,rfl,?_,fun i o hi ho=>k5 _ _ hi (h2 i o hi ho),by omega,rfl,rfl,trivial⟩
  rw[H.get _ (.tail _ (.head _)),List.take_succ_eq_append_getElem hj,List.foldl_append];rfl
 ·obtain⟨h1,h2,h3,_⟩:=hI
  rw[List.take_length] at h1
  exact⟨.inr rfl,rfl,h1,h2,h3⟩
end
structure WS(σ:St)(c q:Nat)(S:List Bool)(τ:St):Prop where
 v:τ.get c=some (.cells [.sl q 0 S.length none (some S.length)])
 s:τ.get q=some (.cells (S.map AV.b))
 k:∀i o,σ.get i=some o→τ.get i=some o
 n:c<τ.next
section
variable {b:Base}{K:Nat→List AV→AV→Prop}{σ τ τ':St}{c q:Nat}{S:List Bool}
theorem WS.mr(h:WS σ c q S τ)(M:Mr τ τ'):WS σ c q S τ':=⟨M.2 _ _ h.v,M.2 _ _ h.s,fun i o ho=>M.2 _ _ (h.k i o ho),by have:=M.1;have:=h.n;omega⟩
theorem WS.to(h:WS σ c q S τ)(hcq:c≠q)(hσ:σ.next≤q){l:List Nat}(h1:τ'.get q=some (.cells ((l.foldl mk1 S).map AV.b)))(h2:∀i o,i≠q→τ.get i=some o→τ'.get i=some o)(h3:τ'.next=τ.next):WS σ c q (l.foldl mk1 S) τ':=
 ⟨by rw[mks_len];exact h2 _ _ hcq h.v,h1,fun i o ho=>h2 _ _ (fun e=>by have:=St.get_lt ho;omega) (h.k i o ho),by rw[h3];exact h.n⟩
theorem want_goW(hh:Here (b.envK K) n_wanted1 c_wanted1)(h:WS σ c q S τ)(hcq:c≠q)(hσ:σ.next≤q){v:AV}{l:List Nat}(hv:Is' τ v l)(hvq:∀i,v.at? =some i→i≠q)(hl:∀n∈l,1≤n∧n≤S.length)(hll:l.length<2^20)(hS:S.length<2^20):
  GoesCall (b.envK K) 0 (.f (.func n_wanted1) [] [pt c]) [v] τ (fun r τ'=>r= .ok (.tu [])∧WS σ c q (l.foldl mk1 S) τ'∧(∀i o,i≠q→τ.get i=some o→τ'.get i=some o)∧τ'.next=τ.next):=
 (want_go hh h.v h.s hcq hv hvq hl hll hS).mono fun r τ' ⟨e,h1,h2,h3⟩=>⟨e,h.to hcq hσ h1 h2 h3,h2,h3⟩
structure HW(b:Base)(K:Nat→List AV→AV→Prop):Prop where
 f:HF b K
 w:Here (b.envK K) n_wanted c_wanted
 w1:Here (b.envK K) n_wanted1 c_wanted1
def wanB:ACode:=match c_wanted.body with|some c=>c|none=>.skip
theorem wanted_cites(hw:HW b K){p k:Nat}{T:List Ln}{N:List (List Nat)}(hP:Pr σ p T (boxL T) N)(hD:Dm T (boxL T))(hop:∀x∈T,x.op<2^20)(hqc:q<c)(hσ:σ.next≤q)(h:WS σ c q S τ)(hS:S.length=T.length)(h1:1≤k)(hk:k≤T.length){x:Ln}(hx:T[k-1]? =some x)(hc:Cok k x.cs){z:Nat→AV}{Q:PostF}
  (hQ:∀F τ',sat [(5,nI k),(4,.f (.func n_wanted1) [] [pt c]),(3,pt c),(0,pt p)] F→WS σ c q (x.cs.foldl (citW T k) S) τ'→Q .normal F τ'):
  GoW (b.envK K) none [] c_wanted.ntmps (pth [1,1,1,1,0,1,0,0,1,0,0,1,1] wanB) (upds [(5,nI k),(4,.f (.func n_wanted1) [] [pt c]),(3,pt c),(0,pt p)] z) τ Q:=by
 obtain⟨bV,nV,bs,ns,q1,q2,q3,q4,q5,q6,q7⟩:=hP.ex
 have H:Has τ [(p,[lnsA T,bV,nV])]:=Has.nil.cons (h.k _ _ q1) (by simp)
 have hxe:T[k-1]'(by omega)=x:=(List.getElem?_eq_some_iff.1 hx).2
 have hcl:=hc.1
 have hTl:=hD.lt
 have hcq:c≠q:=by omega
 have hdk:=hD.dp _ (List.getElem_mem (show k-1<T.length by omega))
 have e1:=dpL_eq (L:=T) (k:=k) (by omega) hk
 refine W.sq ?_
 refine wk ?_
 rw[hxe]
 refine wk ?_
 refine GoF.each x.cs.length (fun j F τ'=>WS σ c q ((x.cs.take j).foldl (citW T k) S) τ'∧sat [(56,csA true x.cs),(5,nI k),(4,.f (.func n_wanted1) [] [pt c]),(3,pt c),(0,pt p)] F) (by omega) ⟨h,rfl,rfl,rfl,rfl,rfl,trivial⟩ rfl rfl (fun j F τ' hj hI hi hm=>?_) (fun F τ' hI hi=>?_)
 ·obtain⟨h,g56,g5,g4,g3,g0,_⟩:=hI
  refine GoF.norm [(58,nI j),(57,nI x.cs.length),(56,csA true x.cs),(5,nI k),(4,.f (.func n_wanted1) [] [pt c]),(3,pt c),(0,pt p)] ⟨hi,hm,g56,g5,g4,g3,g0,trivial⟩ fun F=>?_
  have H:Has τ' [(p,[lnsA T,bV,nV])]:=Has.nil.cons (h.k _ _ q1) (by simp)
  obtain⟨ha,hac,hck⟩:=hc.2 _ (List.getElem_mem hj)
  have hfd:(x.cs.take (j+1)).foldl (citW T k) S=citW T k ((x.cs.take j).foldl (citW T k) S) x.cs[j]:=by rw[List.take_succ_eq_append_getElem hj,List.foldl_append];rfl
  have hSl:((x.cs.take j).foldl (citW T k) S).length=T.length:=by rw[citsW_len,hS]
  refine wk ?_
  generalize hcj:x.cs[j]=ac at ha hac hck hfd
  obtain⟨a,d⟩:=ac
  simp only[] at ha hac hck
  generalize(x.cs.take j).foldl (citW T k) S=S0 at h hfd hSl
  generalize hnx:τ'.next=m
  have h0:=h
  refine W.vr (c:=[nI a,nI d]) H hnx rfl rfl rfl rfl rfl rfl fun τ2 n2 H k2=>?_
  have h:=h.mr (τ':=τ2) ⟨by omega,k2⟩
  refine wk ?_
  refine W.bs (c:=[nI d]) H n2 rfl rfl rfl fun τ3 n3 H k3=>?_
  have h:=h.mr (τ':=τ3) ⟨by omega,k3⟩
  have hqm:q<m:=by have:=h0.n;omega
  refine W.cy rfl rfl rfl (want_goW hw.w1 h hcq hσ (v:=.sl (m+1) 0 1 none (some 1)) (l:=[d]) (.sl (m+1) (some 1) [nI d] [] (H.get _ (.head _)) (fun y hy=>by rw[List.mem_singleton.1 hy];rfl) (.inr rfl)) (fun i hi=>by cases hi;omega) (fun n hn=>by rw[List.mem_singleton.1 hn,hSl];omega) (by show 1<_;decide) (by rw[hSl];exact hD.lt)) fun r τ4 ⟨e,h,k4,n4⟩=>⟨_,e,?_⟩
  have H:Has τ4 [(m,[nI a,nI d]),(p,[lnsA T,bV,nV])]:=((Has.nil.cons (h.k _ _ q1) (by simp)).cons (k4 _ _ (by omega) (H.get _ (.tail _ (.head _)))) (by simp;have:=St.get_lt q1;omega))
  refine wk ?_
  refine W.cy rfl rfl rfl (isBox_go hw.f (hP.keep h.k) hD k a d ha hac hck hk) fun r τ5 ⟨e,M5⟩=>⟨_,e,?_⟩
  have h:=h.mr M5
  have H:=H.keep M5.2
  refine W.nil ?_
  cases hbx:isBoxB T (boxL T) k a d with
  |false=>
   refine W.ct0 rfl ?_
   refine GoF.skip ?_
   refine⟨rfl,rfl,?_,rfl,rfl,rfl,rfl,rfl,trivial⟩
   rw[hfd]
   unfold citW
   rw[hbx]
   exact h
  |true=>
   refine W.ct1 rfl ?_
   refine wk ?_
   generalize hnx5:τ5.next=m5
   refine W.bs (c:=[nI a]) H hnx5 rfl rfl rfl fun τ6 n6 H k6=>?_
   have h:=h.mr (τ':=τ6) ⟨by omega,k6⟩
   refine W.cy rfl rfl rfl (want_goW hw.w1 h hcq hσ (v:=.sl m5 0 1 none (some 1)) (l:=[a]) (.sl m5 (some 1) [nI a] [] (H.get _ (.head _)) (fun y hy=>by rw[List.mem_singleton.1 hy];rfl) (.inr rfl)) (fun i hi=>by cases hi;have:=M5.1;omega) (fun n hn=>by rw[List.mem_singleton.1 hn,mks_len,hSl];omega) (by show 1<_;decide) (by rw[mks_len,hSl];exact hTl)) fun r τ7 ⟨e,h,k7,n7⟩=>⟨_,e,?_⟩
   have H:Has τ7 [(m,[nI a,nI d]),(p,[lnsA T,bV,nV])]:=((Has.nil.cons (h.k _ _ q1) (by simp)).cons (k7 _ _ (by omega) (H.get _ (.tail _ (.head _)))) (by simp;have:=St.get_lt q1;omega))
   refine wk ?_
   refine W.cy rfl rfl rfl (assm_go hw.f (hP.keep h.k) hTl hop a (T[k-1].dp+1) ha (by omega)) fun r τ8 ⟨v,e,hv,M8⟩=>⟨_,e,?_⟩
   have h:=h.mr M8
   refine W.cy rfl rfl rfl (want_goW hw.w1 h hcq hσ hv.sl (fun i hi=>by have:=hv.lo i hi;have:=h0.n;have:=M5.1;omega) (fun n hn=>by have:=asmF_mem (L:=T) hn;rw[mks_len,mks_len,hSl];omega) (by have:=asmF_len T a (T[k-1].dp+1) (T.length+1-a) a;unfold asmL;omega) (by rw[mks_len,mks_len,hSl];exact hTl)) fun r τ9 ⟨e,h,k9,n9⟩=>⟨_,e,?_⟩
   refine wk ?_
   refine⟨rfl,rfl,?_,rfl,rfl,rfl,rfl,rfl,trivial⟩
   rw[hfd]
   unfold citW
   rw[hbx,cond_true,e1]
   exact h
 ·obtain⟨h,g56,g5,g4,g3,g0,_⟩:=hI
  rw[List.take_length] at h
  exact hQ _ _ ⟨g5,g4,g3,g0,trivial⟩ h
theorem wanted_line(hw:HW b K){p k:Nat}{T:List Ln}{N:List (List Nat)}(hP:Pr σ p T (boxL T) N)(hD:Dm T (boxL T))(hop:∀x∈T,x.op<2^20)(hqc:q<c)(hσ:σ.next≤q)(h:WS σ c q S τ)(hS:S.length=T.length)(h1:1≤k)(hk:k≤T.length)(hc:∀x,T[k-1]? =some x→Cok k x.cs){z:Nat→AV}{Q:PostF}
  (hQ:∀F τ',sat [(5,nI k),(4,.f (.func n_wanted1) [] [pt c]),(3,pt c),(0,pt p)] F→WS σ c q (linW T k S) τ'→Q .normal F τ'):
  GoW (b.envK K) none [] c_wanted.ntmps (pth [1,1,1,1,0,1,0,0,1,0] wanB) (upds [(5,nI k),(4,.f (.func n_wanted1) [] [pt c]),(3,pt c),(0,pt p)] z) τ Q:=by
 obtain⟨bV,nV,bs,ns,q1,q2,q3,q4,q5,q6,q7⟩:=hP.ex
 have H:Has τ [(c,[.sl q 0 S.length none (some S.length)]),(q,S.map AV.b),(p,[lnsA T,bV,nV])]:=((Has.nil.cons (h.k _ _ q1) (by simp)).cons h.s (by simp;have:=St.get_lt q1;omega)).cons h.v (by simp;have:=St.get_lt q1;omega)
 have hx:T[k-1]? =some (T[k-1]'(by omega)):=List.getElem?_eq_getElem (by omega)
 have hc:=hc _ hx
 have hTl:=hD.lt
 have hdl:=hD.len
 have hlin:linW T k S=cond (S[k-1]'(by omega)) ((T[k-1]'(by omega)).cs.foldl (citW T k) ((stF T k).foldl mk1 S)) S:=by
  unfold linW
  rw[hx,List.getD_eq_getElem?_getD,List.getElem?_eq_getElem (by omega)];rfl
 have hbn:=(q2.keep (τ:=τ) fun i o _ ho=>h.k i o ho).vw
 refine GoF.block ?_
 refine W.sq ?_
 refine wk ?_
 refine W.ix rfl rfl rfl rfl (idxSlA_sl (by omega)) ?_
 refine W.ld H rfl rfl rfl (.tail _ (.head _)) (take_bl (by omega)) ?_
 generalize hg:S[k-1]'(by omega)=t at hlin
 cases t with
 |false=>
  refine wk ?_
  refine GoF.exit ?_
  refine hQ _ _ ⟨rfl,rfl,rfl,rfl,trivial⟩ ?_
  rw[hlin];exact h
 |true=>
  have hbe:Is' σ (bs[k-1]'(by omega)) (stF T k):=by
   have h4:=q4 (k-1) (by omega) (by omega)
   have e:(boxL T)[k-1]'(by omega)=stF T (k-1+1):=(List.getElem_map (fun i=>stF T (i+1))).trans (by rw[List.getElem_range])
   rw[e,show k-1+1=k by omega] at h4
   exact h4
  have hbl:(stF T k).length<2^20:=by
   have h4:=hD.blt _ (List.getElem_mem (show k-1<(boxL T).length by omega))
   have e:(boxL T)[k-1]'(by omega)=stF T (k-1+1):=(List.getElem_map (fun i=>stF T (i+1))).trans (by rw[List.getElem_range])
   rw[e,show k-1+1=k by omega] at h4
   exact h4
  refine wk ?_
  refine W.cy rfl rfl rfl (want_goW hw.w1 h (by omega) hσ (hbe.keep fun i o _ ho=>h.k i o ho) (fun i hi=>by have:=hbe.lt hi;omega) (fun n hn=>by have:=st_le n hn;omega) hbl (by omega)) fun r τ2 ⟨e,h,k2,n2⟩=>⟨_,e,?_⟩
  refine W.nil (GoF.norm [(5,nI k),(4,.f (.func n_wanted1) [] [pt c]),(3,pt c),(0,pt p)] ⟨rfl,rfl,rfl,rfl,trivial⟩ fun F=>?_)
  refine wanted_cites hw hP hD hop hqc hσ h (by rw[mks_len];exact hS) h1 hk hx hc fun F τ3 hF h3=>?_
  refine hQ _ _ hF ?_
  rw[hlin];exact h3
theorem wanted_go(hw:HW b K){p:Nat}{T:List Ln}{N:List (List Nat)}(hP:Pr σ p T (boxL T) N)(hD:Dm T (boxL T))(hop:∀x∈T,x.op<2^20)(hne:1≤T.length)(hc:∀k x,1≤k→T[k-1]? =some x→Cok k x.cs):
  GoesCall (b.envK K) 0 (.f (.func n_wanted) [] []) [pt p] σ (fun r τ=>∃q,r= .ok (.sl q 0 T.length none (some T.length))∧τ.get q=some (.cells ((wanL T).map AV.b))∧σ.next≤q∧Mr σ τ):=by
 refine W.code hw.w.e hw.w.p hw.w.f rfl rfl rfl rfl fun z=>?_
 obtain⟨bV,nV,bs,ns,q1,q2,q3,q4,q5,q6,q7⟩:=hP.ex
 have H:Has σ [(p,[lnsA T,bV,nV])]:=Has.nil.cons q1 (by simp)
 have hTl:=hD.lt
 refine wk ?_
 generalize hnx:σ.next=q
 refine W.mk H hnx (by omega) (by omega) rfl rfl rfl rfl fun τ1 n1 H k1=>?_
 refine W.vr (c:=[.sl q 0 T.length none (some T.length)]) H n1 rfl rfl rfl rfl rfl rfl fun τ2 n2 H k2=>?_
 refine wk ?_
 refine W.bs (c:=[nI T.length]) H n2 rfl rfl rfl fun τ3 n3 H k3=>?_
 have h:WS σ (q+1) q (List.replicate T.length false) τ3:=⟨by rw[List.length_replicate];exact H.get _ (.tail _ (.head _)),by rw[List.map_replicate];exact H.get _ (.tail _ (.tail _ (.head _))),fun i o ho=>k3 _ _ (k2 _ _ (k1 _ _ ho)),by omega⟩
 have hσ:σ.next≤q:=by omega
 refine W.cy rfl rfl rfl (want_goW hw.w1 h (by omega) hσ (v:=.sl (q+1+1) 0 1 none (some 1)) (l:=[T.length]) (.sl (q+1+1) (some 1) [nI T.length] [] (H.get _ (.head _)) (fun y hy=>by rw[List.mem_singleton.1 hy];rfl) (.inr rfl)) (fun i hi=>by cases hi;omega) (fun n hn=>by rw[List.mem_singleton.1 hn,List.length_replicate];omega) (by show 1<_;decide) (by rw[List.length_replicate];exact hTl)) fun r τ4 ⟨e,h,k4,n4⟩=>⟨_,e,?_⟩
 have H:Has τ4 [(p,[lnsA T,bV,nV])]:=Has.nil.cons (h.k _ _ q1) (by simp)
 refine wk ?_
 refine GoF.block (GoF.loop (fun m F τ=>∃j,j+m=T.length∧WS σ (q+1) q (wanD T j) τ∧sat [(5,nI m),(4,.f (.func n_wanted1) [] [pt (q+1)]),(3,pt (q+1)),(0,pt p)] F) (fun m F τ hI=>?_) T.length ⟨0,by omega,h,rfl,rfl,rfl,rfl,trivial⟩)
 obtain⟨j,hjm,h,hs⟩:=hI
 refine GoF.norm [(5,nI m),(4,.f (.func n_wanted1) [] [pt (q+1)]),(3,pt (q+1)),(0,pt p)] hs fun F=>?_
 by_cases hm:m=0
 ·subst hm
  refine wk ?_
  refine GoF.exit ?_
  show GoW _ _ _ _ _ _ _ _
  have H:Has τ [(q+1,[.sl q 0 (wanD T j).length none (some (wanD T j).length)])]:=Has.nil.cons h.v (by simp)
  refine wk ?_
  obtain rfl:j=T.length:=by omega
  refine GoF.ret ⟨rfl,q,?_,h.s,Nat.le_refl _,by have:=h.n;omega,h.k⟩
  show Ret.ok (.sl q 0 (wanD T T.length).length none (some (wanD T T.length).length))=_
  rw[wanD_len]
 ·refine W.sq (W.sq (W.rg ?_))
  refine wo ?_
  refine W.nil (W.ct1 rfl (GoF.skip ?_))
  refine GoF.seq ?_
  refine GoF.norm [(5,nI m),(4,.f (.func n_wanted1) [] [pt (q+1)]),(3,pt (q+1)),(0,pt p)] ⟨rfl,rfl,rfl,rfl,trivial⟩ fun F=>?_
  refine wanted_line hw hP hD hop (by omega) hσ h wanD_len (by omega) (by omega) (fun x hx=>hc m x (by omega) hx) fun F τ5 hF h5=>?_
  refine GoF.norm [(5,nI m),(4,.f (.func n_wanted1) [] [pt (q+1)]),(3,pt (q+1)),(0,pt p)] hF fun F=>?_
  have H:Has τ5 []:=Has.nil
  refine wk ?_
  refine⟨m-1,by omega,j+1,by omega,?_,rfl,rfl,rfl,rfl,trivial⟩
  rw[wanD,show T.length-j=m by omega];exact h5
end
abbrev tcA(o:Bool)(t:Tm):List AV:=[.b t.var,.s t.name,tmsA o t.oargs]
theorem tAc(o:Bool)(t:Tm):t.A o= .ag (tcA o t):=by unfold Tm.A;rw[Tm.cells_eq]
def oL{α:Type}(l:List α):Option (List α):=match l with|[]=>none|x::l=>some (x::l)
theorem oL_getD{α:Type}(l:List α):(oL l).getD []=l:=by cases l<;>rfl
theorem tms_oL(o:Bool)(l:List Tm):tmsA o (oL l)=slA o (some 3) (l.map (Tm.A o)):=by cases l<;>rfl
theorem fms_oL(o:Bool)(l:List Fm):fmsA o (oL l)=slA o (some 4) (l.map (Fm.A o)):=by cases l<;>rfl
mutual
def Tm.nz:Tm→Tm
 | .mk v n none=>.mk v n none
 | .mk v n (some l)=>.mk v n (oL (Tm.nzs l))
def Tm.nzs:List Tm→List Tm
 |[]=>[]
 |t::l=>t.nz::Tm.nzs l
end
theorem Tm.nzs_eq:∀l,Tm.nzs l=l.map Tm.nz
 |[]=>by simp[Tm.nzs]
 |t::l=>by rw[Tm.nzs,Tm.nzs_eq l];rfl
theorem Tm.nz_eq(t:Tm):t.nz= .mk t.var t.name (oL (t.args.map Tm.nz)):=by
 obtain⟨v,n,a⟩:=t
 cases a with
 |none=>rw[Tm.nz];rfl
 |some l=>rw[Tm.nz,Tm.nzs_eq];rfl
mutual
def Fm.nz:Fm→Fm
 | .mk op n a none=>.mk op n (oL ((a.getD []).map Tm.nz)) none
 | .mk op n a (some l)=>.mk op n (oL ((a.getD []).map Tm.nz)) (oL (Fm.nzs l))
def Fm.nzs:List Fm→List Fm
 |[]=>[]
 |t::l=>t.nz::Fm.nzs l
end
theorem Fm.nzs_eq:∀l,Fm.nzs l=l.map Fm.nz
 |[]=>by simp[Fm.nzs]
 |t::l=>by rw[Fm.nzs,Fm.nzs_eq l];rfl
theorem Fm.nz_eq(f:Fm):f.nz= .mk f.op f.name (oL (f.args.map Tm.nz)) (oL (f.sub.map Fm.nz)):=by
 obtain⟨o,n,a,s⟩:=f
 cases s with
 |none=>rw[Fm.nz];rfl
 |some l=>rw[Fm.nz,Fm.nzs_eq];rfl
abbrev fcN(F:Fm):List AV:=[.i .u8 (Int.ofNat F.op),.s F.name,tmsA false F.oargs,fmsA false F.osub]
theorem fAn(F:Fm):F.A false= .ag (fcN F):=by unfold Fm.A;rw[Fm.cells_eq]
theorem tc_frz{σ:St}{n:Nat}(t:Tm):freeze σ 0 (n+2) (.ag (tcA false t))=some (.ag (tcA false t)):=by
 rw[freeze_succ]
 show(match mapO (Go.Lyc.freeze σ 0 (n+1)) _ with|none=>none|some l=>some (AV.ag l))=_
 have h1:freeze σ 0 (n+1) (tmsA false t.oargs)=some (tmsA false t.oargs):=by cases t.oargs<;>rfl
 rw[mapO_cons,mapO_cons,mapO_cons,h1];rfl
theorem fc_frz{σ:St}{n:Nat}(F:Fm):freeze σ 0 (n+2) (.ag (fcN F))=some (.ag (fcN F)):=by
 rw[freeze_succ]
 show(match mapO (Go.Lyc.freeze σ 0 (n+1)) _ with|none=>none|some l=>some (AV.ag l))=_
 have h1:freeze σ 0 (n+1) (tmsA false F.oargs)=some (tmsA false F.oargs):=by cases F.oargs<;>rfl
 have h2:freeze σ 0 (n+1) (fmsA false F.osub)=some (fmsA false F.osub):=by cases F.osub<;>rfl
 rw[mapO_cons,mapO_cons,mapO_cons,mapO_cons,h1,h2];rfl
theorem mapO_self{α:Type}{f:α→Option α}:∀ {l:List α},(∀x∈l,f x=some x)→mapO f l=some l
 |[],_=>rfl
 |x::l,h=>by rw[mapO_cons,h x (by simp),mapO_self fun y hy=>h y (List.mem_cons_of_mem _ hy)]
theorem Sl.frzS{σ:St}{sh:Option Nat}{v:AV}{xs:List AV}{n:Nat}(h:Sl σ sh v xs)(h0:xs=[]→v= .nilsl)(hf:∀x∈xs,Go.Lyc.freeze σ 0 n x=some x):Go.Lyc.freeze σ 0 (n+1) v=some (slA false sh xs):=by
 rw[h.freeze (mapO_self hf)]
 unfold frV
 cases xs with
 |nil=>rw[h0 rfl];rfl
 |cons x l=>cases h with
  |sl o cap xs rest hg hc hk=>rfl
section
variable {b:Base}{K:Nat→List AV→AV→Prop}(hfn:∀g ar r r',K g ar r→K g ar r'→r=r')
include hfn
theorem CopyTerms_go(a:Option (List Tm))(hlen:(a.getD []).length<2^20)(hs:∀t∈a.getD [],∀τ:St,snapshot τ (b.fz+1000) (.ag (tcA true t))=some (.ag (tcA true t)))(e:b.ext n_CopyTerm=0∧b.pure n_CopyTerm=true)(hK:∀t∈a.getD [],K n_CopyTerm [.ag (tcA true t)] (.ag (tcA false t.nz)))
  (body:ACode) (hb:c_CopyTerms.body=some body):GoF (b.envK K) c_CopyTerms.ntmps body (argF [tmsA true a]) ⟨.nil,0⟩ (DoneR c_CopyTerms.results (slA false (some 3) ((a.getD []).map fun t=>.ag (tcA false t.nz)))):=by
 cases hb
 refine W.args fun z=>?_
 have H:Has (⟨.nil,0⟩:St) []:=Has.nil
 refine wk ?_
 refine GoF.block (GoF.loop (fun k F τ=>∃j w,j+k=(a.getD []).length∧Sl τ (some 3) w (((a.getD []).take j).map fun t=>.ag (tcA false t.nz))∧((a.getD []).take j=[]→w= .nilsl)∧sat [(0,tmsA true a),(3,w),(4,nI j)] F) (fun k F τ hI=>?_) (a.getD []).length ⟨0,.nilsl,by omega,.nil,fun _=>rfl,rfl,rfl,rfl,trivial⟩)
 obtain⟨j,w,hj,hw,hw0,hs'⟩:=hI
 refine GoF.norm _ hs' fun F=>?_
 clear hs'
 have H:Has τ []:=Has.nil
 by_cases hjl:j<(a.getD []).length
 ·refine wk ?_
  refine W.len rfl rfl rfl tmsA_len ?_
  refine wk ?_
  refine W.ix rfl rfl rfl rfl (tmsA_idx hjl) ?_
  rw[tAc]
  refine wk ?_
  have hm:=List.getElem_mem hjl
  refine W.kn hfn e (hK _ hm) rfl rfl rfl (snaps1 (hs _ hm _)) ?_
  refine wk ?_
  refine W.vr (c:=tcA false ((a.getD [])[j]).nz) H rfl rfl rfl rfl rfl rfl rfl fun τ2 n2 H k2=>?_
  refine wk ?_
  have hw2:=hw.keep (τ:=τ2) fun i o _ ho=>k2 i o ho
  refine W.pu (c:=tcA false ((a.getD [])[j]).nz) (.ag (tcA false ((a.getD [])[j]).nz)) hw2 rfl rfl rfl rfl rfl rfl rfl rfl rfl (by rw[List.length_map,List.length_take];omega) fun v' τ3 hv ha _ n3 k3=>?_
  refine wk ?_
  refine⟨k-1,by omega,j+1,v',by omega,?_,fun h=>?_,rfl,rfl,rfl,trivial⟩
  ·rw[List.take_succ_eq_append_getElem hjl,List.map_append];exact hv
  ·have:=congrArg List.length h;rw[List.length_take,List.length_nil] at this;omega
 ·refine wk ?_
  refine W.len rfl rfl rfl tmsA_len ?_
  refine wk ?_
  refine GoF.exit ?_
  show GoW _ _ _ _ _ _ _ _
  refine wk ?_
  have ej:j=(a.getD []).length:=by omega
  subst ej
  rw[List.take_length] at hw hw0
  exact GoF.ret ⟨rfl,_,resA_1 (resV_v rfl),hw.frzS (n:=999) (fun h=>hw0 (List.map_eq_nil_iff.1 h)) fun x hx=>by obtain⟨t,_,rfl⟩:=List.mem_map.1 hx;exact tc_frz (n:=997) _⟩
theorem CopyTerm_go(t:Tm)(hs:∀τ:St,snapshot τ (b.fz+1000) (tmsA true t.oargs)=some (tmsA true t.oargs))(e:b.ext n_CopyTerms=0∧b.pure n_CopyTerms=true)(hK:K n_CopyTerms [tmsA true t.oargs] (slA false (some 3) (t.args.map fun t=>.ag (tcA false t.nz))))
  (body:ACode) (hb:c_CopyTerm.body=some body):GoF (b.envK K) c_CopyTerm.ntmps body (argF [.ag (tcA true t)]) ⟨.nil,0⟩ (DoneR c_CopyTerm.results (.ag (tcA false t.nz))):=by
 cases hb
 refine W.args fun z=>?_
 have H:Has (⟨.nil,0⟩:St) []:=Has.nil
 refine wk ?_
 refine W.bx (c:=tcA true t) H rfl rfl rfl rfl rfl rfl fun τ n1 H k1=>?_
 refine wk ?_
 refine W.al (c:=[.b false,.s [],.nilsl]) H n1 rfl rfl rfl fun τ2 n2 H k2=>?_
 refine wk ?_
 refine W.kn hfn e hK rfl rfl rfl (snaps1 (hs _)) ?_
 refine wk ?_
 have e1:(.ag (tcA false t.nz):AV)= .ag [.b t.var,.s t.name,slA false (some 3) (t.args.map fun t=>.ag (tcA false t.nz))]:=by
  rw[Tm.nz_eq]
  show AV.ag [.b t.var,.s t.name,tmsA false (oL (t.args.map Tm.nz))]=_
  rw[tms_oL,List.map_map]
  exact congrArg (fun x=>AV.ag [.b t.var,.s t.name,slA false (some 3) x]) (List.map_congr_left fun u _=>tAc false u.nz)
 rw[e1]
 generalize t.args.map (fun t=>AV.ag (tcA false t.nz))=L
 have hc:(slA false (some 3) L).cells=[slA false (some 3) L]:=by cases L<;>rfl
 refine W.st (c':=[.b t.var,.s t.name,slA false (some 3) L]) H 1 rfl rfl rfl rfl slA_cf (by rw[hc];rfl) fun τ3 n3 H k3=>?_
 refine wk ?_
 refine W.st (c':=[.b t.var,.s t.name,slA false (some 3) L]) H 0 rfl rfl rfl rfl rfl rfl fun τ4 n4 H k4=>?_
 refine wk ?_
 refine GoF.ret ⟨rfl,_,resA_1 (resV_b rfl (H.get _ (.head _)) rfl),?_⟩
 rw[freeze_succ]
 show(match mapO (Go.Lyc.freeze τ4 0 999) [.b t.var,.s t.name,slA false (some 3) L] with|none=>none|some l=>some (AV.ag l))=_
 have h1:freeze τ4 0 999 (slA false (some 3) L)=some (slA false (some 3) L):=by cases L<;>rfl
 rw[mapO_cons,mapO_cons,mapO_cons,h1];rfl
theorem CopyForms_go(a:Option (List Fm))(hlen:(a.getD []).length<2^20)(hs:∀t∈a.getD [],∀τ:St,snapshot τ (b.fz+1000) (.ag (fc t))=some (.ag (fc t)))(e:b.ext n_CopyForm=0∧b.pure n_CopyForm=true)(hK:∀t∈a.getD [],K n_CopyForm [.ag (fc t)] (.ag (fcN t.nz)))
  (body:ACode) (hb:c_CopyForms.body=some body):GoF (b.envK K) c_CopyForms.ntmps body (argF [fmsA true a]) ⟨.nil,0⟩ (DoneR c_CopyForms.results (slA false (some 4) ((a.getD []).map fun t=>.ag (fcN t.nz)))):=by
 cases hb
 refine W.args fun z=>?_
 have H:Has (⟨.nil,0⟩:St) []:=Has.nil
 refine wk ?_
 refine GoF.block (GoF.loop (fun k F τ=>∃j w,j+k=(a.getD []).length∧Sl τ (some 4) w (((a.getD []).take j).map fun t=>.ag (fcN t.nz))∧((a.getD []).take j=[]→w= .nilsl)∧sat [(0,fmsA true a),(3,w),(4,nI j)] F) (fun k F τ hI=>?_) (a.getD []).length ⟨0,.nilsl,by omega,.nil,fun _=>rfl,rfl,rfl,rfl,trivial⟩)
 obtain⟨j,w,hj,hw,hw0,hs'⟩:=hI
 refine GoF.norm _ hs' fun F=>?_
 clear hs'
 have H:Has τ []:=Has.nil
 by_cases hjl:j<(a.getD []).length
 ·refine wk ?_
  refine W.len rfl rfl rfl fmsA_len ?_
  refine wk ?_
  refine W.ix rfl rfl rfl rfl (fmsA_idx hjl) ?_
  rw[fA]
  refine wk ?_
  have hm:=List.getElem_mem hjl
  refine W.kn hfn e (hK _ hm) rfl rfl rfl (snaps1 (hs _ hm _)) ?_
  refine wk ?_
  refine W.vr (c:=fcN ((a.getD [])[j]).nz) H rfl rfl rfl rfl rfl rfl rfl fun τ2 n2 H k2=>?_
  refine wk ?_
  have hw2:=hw.keep (τ:=τ2) fun i o _ ho=>k2 i o ho
  refine W.pu (c:=fcN ((a.getD [])[j]).nz) (.ag (fcN ((a.getD [])[j]).nz)) hw2 rfl rfl rfl rfl rfl rfl rfl rfl rfl (by rw[List.length_map,List.length_take];omega) fun v' τ3 hv ha _ n3 k3=>?_
  refine wk ?_
  refine⟨k-1,by omega,j+1,v',by omega,?_,fun h=>?_,rfl,rfl,rfl,trivial⟩
  ·rw[List.take_succ_eq_append_getElem hjl,List.map_append];exact hv
  ·have:=congrArg List.length h;rw[List.length_take,List.length_nil] at this;omega
 ·refine wk ?_
  refine W.len rfl rfl rfl fmsA_len ?_
  refine wk ?_
  refine GoF.exit ?_
  show GoW _ _ _ _ _ _ _ _
  refine wk ?_
  have ej:j=(a.getD []).length:=by omega
  subst ej
  rw[List.take_length] at hw hw0
  exact GoF.ret ⟨rfl,_,resA_1 (resV_v rfl),hw.frzS (n:=999) (fun h=>hw0 (List.map_eq_nil_iff.1 h)) fun x hx=>by obtain⟨t,_,rfl⟩:=List.mem_map.1 hx;exact fc_frz (n:=997) _⟩
theorem CopyForm_go(t:Fm)(hs:∀τ:St,snapshot τ (b.fz+1000) (tmsA true t.oargs)=some (tmsA true t.oargs))(hs2:∀τ:St,snapshot τ (b.fz+1000) (fmsA true t.osub)=some (fmsA true t.osub))(e:b.ext n_CopyTerms=0∧b.pure n_CopyTerms=true)(hK:K n_CopyTerms [tmsA true t.oargs] (slA false (some 3) (t.args.map fun t=>.ag (tcA false t.nz))))
  (e2:b.ext n_CopyForms=0∧b.pure n_CopyForms=true) (hK2:K n_CopyForms [fmsA true t.osub] (slA false (some 4) (t.sub.map fun t=>.ag (fcN t.nz)))) (body:ACode) (hb:c_CopyForm.body=some body):GoF (b.envK K) c_CopyForm.ntmps body (argF [.ag (fc t)]) ⟨.nil,0⟩ (DoneR c_CopyForm.results (.ag (fcN t.nz))):=by
 cases hb
 refine W.args fun z=>?_
 have H:Has (⟨.nil,0⟩:St) []:=Has.nil
 refine wk ?_
 refine W.bx (c:=fc t) H rfl rfl rfl rfl rfl rfl fun τ n1 H k1=>?_
 refine wk ?_
 refine W.al (c:=[.i .u8 0,.s [],.nilsl,.nilsl]) H n1 rfl rfl rfl fun τ2 n2 H k2=>?_
 refine wk ?_
 refine W.kn hfn e hK rfl rfl rfl (snaps1 (hs _)) ?_
 refine wk ?_
 have e1:(.ag (fcN t.nz):AV)= .ag [.i .u8 (Int.ofNat t.op),.s t.name,slA false (some 3) (t.args.map fun t=>.ag (tcA false t.nz)),slA false (some 4) (t.sub.map fun t=>.ag (fcN t.nz))]:=by
  rw[Fm.nz_eq]
  show AV.ag [.i .u8 (Int.ofNat t.op),.s t.name,tmsA false (oL (t.args.map Tm.nz)),fmsA false (oL (t.sub.map Fm.nz))]=_
  rw[tms_oL,fms_oL,List.map_map,List.map_map,show t.args.map (Tm.A false∘Tm.nz)=t.args.map fun t=>.ag (tcA false t.nz) from List.map_congr_left fun u _=>tAc false u.nz,show t.sub.map (Fm.A false∘Fm.nz)=t.sub.map fun t=>.ag (fcN t.nz) from List.map_congr_left fun u _=>fAn u.nz]
 rw[e1]
 clear e1 hK
 generalize t.args.map (fun t=>AV.ag (tcA false t.nz))=L
 have hc:(slA false (some 3) L).cells=[slA false (some 3) L]:=by cases L<;>rfl
 refine W.st (c':=[.i .u8 (Int.ofNat t.op),.s t.name,slA false (some 3) L,fmsA true t.osub]) H 1 rfl rfl rfl rfl slA_cf (by rw[hc];rfl) fun τ3 n3 H k3=>?_
 refine wk ?_
 refine W.kn hfn e2 hK2 rfl rfl rfl (snaps1 (hs2 _)) ?_
 refine wk ?_
 clear hK2
 generalize t.sub.map (fun t=>AV.ag (fcN t.nz))=M
 have hc:(slA false (some 4) M).cells=[slA false (some 4) M]:=by cases M<;>rfl
 refine W.st (c':=[.i .u8 (Int.ofNat t.op),.s t.name,slA false (some 3) L,slA false (some 4) M]) H 1 rfl rfl rfl rfl slA_cf (by rw[hc];rfl) fun τ3 n3 H k3=>?_
 refine wk ?_
 refine W.st (c':=[.i .u8 (Int.ofNat t.op),.s t.name,slA false (some 3) L,slA false (some 4) M]) H 0 rfl rfl rfl rfl rfl rfl fun τ4 n4 H k4=>?_
 refine wk ?_
 refine GoF.ret ⟨rfl,_,resA_1 (resV_b rfl (H.get _ (.head _)) rfl),?_⟩
 rw[freeze_succ]
 show(match mapO (Go.Lyc.freeze τ4 0 999) [.i .u8 (Int.ofNat t.op),.s t.name,slA false (some 3) L,slA false (some 4) M] with|none=>none|some l=>some (AV.ag l))=_
 have h1:freeze τ4 0 999 (slA false (some 3) L)=some (slA false (some 3) L):=by cases L<;>rfl
 have h2:freeze τ4 0 999 (slA false (some 4) M)=some (slA false (some 4) M):=by cases M<;>rfl
 rw[mapO_cons,mapO_cons,mapO_cons,mapO_cons,h1,h2];rfl
end
section
variable {b:Base}{K:Nat→List AV→AV→Prop}(hfn:∀g ar r r',K g ar r→K g ar r'→r=r')
include hfn
theorem SameTerm_go(t u:Tm)(h1:t.var=u.var)(h2:t.name=u.name)(hs:∀τ:St,snapshot τ (b.fz+1000) (tmsA true t.oargs)=some (tmsA true t.oargs))(hs2:∀τ:St,snapshot τ (b.fz+1000) (tmsA true u.oargs)=some (tmsA true u.oargs))(e:b.ext n_SameTerms=0∧b.pure n_SameTerms=true)(hK:K n_SameTerms [tmsA true t.oargs,tmsA true u.oargs] (.b true))
  (body:ACode) (hb:c_SameTerm.body=some body):GoF (b.envK K) c_SameTerm.ntmps body (argF [.ag (tcA true t),.ag (tcA true u)]) ⟨.nil,0⟩ (DoneR c_SameTerm.results (.b true)):=by
 cases hb
 refine W.args fun z=>?_
 have H:Has (⟨.nil,0⟩:St) []:=Has.nil
 refine wk ?_
 refine W.bx (c:=tcA true t) H rfl rfl rfl rfl rfl rfl fun τ n1 H k1=>?_
 refine wk ?_
 refine W.bx (c:=tcA true u) H n1 rfl rfl rfl rfl rfl fun τ2 n2 H k2=>?_
 refine wk ?_
 have hv:(bif false then !(t.var==u.var) else(t.var==u.var))=true:=by rw[h1];simp
 rw[hv]
 refine wk ?_
 refine W.bin (v:=.b true) rfl rfl rfl rfl (by rw[h2];show some (AV.b (eqL u.name u.name))=_;rw[eqL_refl]) ?_
 refine wk ?_
 refine W.kn hfn e hK rfl rfl rfl (snaps2 (hs _) (hs2 _)) ?_
 refine wk ?_
 exact GoF.ret ⟨rfl,_,resA_1 (resV_v rfl),rfl⟩
theorem SameTerms_go(a c:Option (List Tm))(hlen:(a.getD []).length<2^20)(hl:(a.getD []).length=(c.getD []).length)(hs:∀t∈a.getD [],∀τ:St,snapshot τ (b.fz+1000) (.ag (tcA true t))=some (.ag (tcA true t)))(hs2:∀t∈c.getD [],∀τ:St,snapshot τ (b.fz+1000) (.ag (tcA true t))=some (.ag (tcA true t)))
  (e:b.ext n_SameTerm=0∧b.pure n_SameTerm=true) (hK:∀i (h:i<(a.getD []).length) (h':i<(c.getD []).length),K n_SameTerm [.ag (tcA true (a.getD [])[i]),.ag (tcA true (c.getD [])[i])] (.b true))
  (body:ACode) (hb:c_SameTerms.body=some body):GoF (b.envK K) c_SameTerms.ntmps body (argF [tmsA true a,tmsA true c]) ⟨.nil,0⟩ (DoneR c_SameTerms.results (.b true)):=by
 cases hb
 refine W.args fun z=>?_
 have H:Has (⟨.nil,0⟩:St) []:=Has.nil
 refine wk ?_
 refine W.len rfl rfl rfl tmsA_len ?_
 refine wk ?_
 refine W.len rfl rfl rfl tmsA_len ?_
 refine wk ?_
 refine GoF.block (GoF.loop (fun k F τ=>∃j,j+k=(a.getD []).length∧sat [(0,tmsA true a),(1,tmsA true c),(5,nI j)] F) (fun k F τ hI=>?_) (a.getD []).length ⟨0,by omega,rfl,rfl,rfl,trivial⟩)
 obtain⟨j,hj,hs'⟩:=hI
 refine GoF.norm _ hs' fun F=>?_
 clear hs'
 have H:Has τ []:=Has.nil
 by_cases hjl:j<(a.getD []).length
 ·have hjc:j<(c.getD []).length:=by omega
  refine wk ?_
  refine W.len rfl rfl rfl tmsA_len ?_
  refine wk ?_
  refine W.ix rfl rfl rfl rfl (tmsA_idx hjl) ?_
  rw[tAc]
  refine wk ?_
  refine W.ix rfl rfl rfl rfl (tmsA_idx hjc) ?_
  rw[tAc]
  refine wk ?_
  refine W.kn hfn e (hK j hjl hjc) rfl rfl rfl (snaps2 (hs _ (List.getElem_mem hjl) _) (hs2 _ (List.getElem_mem hjc) _)) ?_
  refine wk ?_
  exact⟨k-1,by omega,j+1,by omega,rfl,rfl,rfl,trivial⟩
 ·refine wk ?_
  refine W.len rfl rfl rfl tmsA_len ?_
  refine wk ?_
  refine GoF.exit ?_
  show GoW _ _ _ _ _ _ _ _
  refine wk ?_
  exact GoF.ret ⟨rfl,_,resA_1 (resV_v rfl),rfl⟩
theorem SameForms_go(a c:Option (List Fm))(hlen:(a.getD []).length<2^20)(hl:(a.getD []).length=(c.getD []).length)(hs:∀t∈a.getD [],∀τ:St,snapshot τ (b.fz+1000) (.ag (fc t))=some (.ag (fc t)))(hs2:∀t∈c.getD [],∀τ:St,snapshot τ (b.fz+1000) (.ag (fc t))=some (.ag (fc t)))
  (e:b.ext n_SameForm=0∧b.pure n_SameForm=true) (hK:∀i (h:i<(a.getD []).length) (h':i<(c.getD []).length),K n_SameForm [.ag (fc (a.getD [])[i]),.ag (fc (c.getD [])[i])] (.b true))
  (body:ACode) (hb:c_SameForms.body=some body):GoF (b.envK K) c_SameForms.ntmps body (argF [fmsA true a,fmsA true c]) ⟨.nil,0⟩ (DoneR c_SameForms.results (.b true)):=by
 cases hb
 refine W.args fun z=>?_
 have H:Has (⟨.nil,0⟩:St) []:=Has.nil
 refine wk ?_
 refine W.len rfl rfl rfl fmsA_len ?_
 refine wk ?_
 refine W.len rfl rfl rfl fmsA_len ?_
 refine wk ?_
 refine GoF.block (GoF.loop (fun k F τ=>∃j,j+k=(a.getD []).length∧sat [(0,fmsA true a),(1,fmsA true c),(5,nI j)] F) (fun k F τ hI=>?_) (a.getD []).length ⟨0,by omega,rfl,rfl,rfl,trivial⟩)
 obtain⟨j,hj,hs'⟩:=hI
 refine GoF.norm _ hs' fun F=>?_
 clear hs'
 have H:Has τ []:=Has.nil
 by_cases hjl:j<(a.getD []).length
 ·have hjc:j<(c.getD []).length:=by omega
  refine wk ?_
  refine W.len rfl rfl rfl fmsA_len ?_
  refine wk ?_
  refine W.ix rfl rfl rfl rfl (fmsA_idx hjl) ?_
  rw[fA]
  refine wk ?_
  refine W.ix rfl rfl rfl rfl (fmsA_idx hjc) ?_
  rw[fA]
  refine wk ?_
  refine W.kn hfn e (hK j hjl hjc) rfl rfl rfl (snaps2 (hs _ (List.getElem_mem hjl) _) (hs2 _ (List.getElem_mem hjc) _)) ?_
  refine wk ?_
  exact⟨k-1,by omega,j+1,by omega,rfl,rfl,rfl,trivial⟩
 ·refine wk ?_
  refine W.len rfl rfl rfl fmsA_len ?_
  refine wk ?_
  refine GoF.exit ?_
  show GoW _ _ _ _ _ _ _ _
  refine wk ?_
  exact GoF.ret ⟨rfl,_,resA_1 (resV_v rfl),rfl⟩
theorem SameForm_go(t u:Fm)(h1:t.op=u.op)(h2:t.name=u.name)(hs:∀τ:St,snapshot τ (b.fz+1000) (tmsA true t.oargs)=some (tmsA true t.oargs))(hs2:∀τ:St,snapshot τ (b.fz+1000) (tmsA true u.oargs)=some (tmsA true u.oargs))(hs3:∀τ:St,snapshot τ (b.fz+1000) (fmsA true t.osub)=some (fmsA true t.osub))(hs4:∀τ:St,snapshot τ (b.fz+1000) (fmsA true u.osub)=some (fmsA true u.osub))
  (e:b.ext n_SameTerms=0∧b.pure n_SameTerms=true) (hK:K n_SameTerms [tmsA true t.oargs,tmsA true u.oargs] (.b true)) (e2:b.ext n_SameForms=0∧b.pure n_SameForms=true) (hK2:K n_SameForms [fmsA true t.osub,fmsA true u.osub] (.b true))
  (body:ACode) (hb:c_SameForm.body=some body):GoF (b.envK K) c_SameForm.ntmps body (argF [.ag (fc t),.ag (fc u)]) ⟨.nil,0⟩ (DoneR c_SameForm.results (.b true)):=by
 cases hb
 refine W.args fun z=>?_
 have H:Has (⟨.nil,0⟩:St) []:=Has.nil
 refine wk ?_
 refine W.bx (c:=fc t) H rfl rfl rfl rfl rfl rfl fun τ n1 H k1=>?_
 refine wk ?_
 refine W.bx (c:=fc u) H n1 rfl rfl rfl rfl rfl fun τ2 n2 H k2=>?_
 refine wk ?_
 refine W.bin (v:=.b true) rfl rfl rfl rfl (by rw[h2];show some (AV.b (eqL u.name u.name))=_;rw[eqL_refl]) ?_
 refine wk ?_
 refine W.kn hfn e hK rfl rfl rfl (snaps2 (hs _) (hs2 _)) ?_
 refine wk ?_
 refine W.kn hfn e2 hK2 rfl rfl rfl (snaps2 (hs3 _) (hs4 _)) ?_
 refine wk ?_
 exact GoF.ret ⟨rfl,_,resA_1 (resV_v rfl),rfl⟩
end
mutual
def Tm.cnt:Tm→Nat
 | .mk _ _ none=>1
 | .mk _ _ (some l)=>Tm.cnts l+1
def Tm.cnts:List Tm→Nat
 |[]=>0
 |t::l=>t.cnt+Tm.cnts l
end
mutual
def Fm.cnt:Fm→Nat
 | .mk _ _ a none=>Tm.cnts (a.getD [])+1
 | .mk _ _ a (some l)=>Fm.cnts l+Tm.cnts (a.getD [])+1
def Fm.cnts:List Fm→Nat
 |[]=>0
 |t::l=>t.cnt+Fm.cnts l
end
theorem Tm.cnt_eq(t:Tm):t.cnt=Tm.cnts t.args+1:=by
 obtain⟨v,n,a⟩:=t
 cases a<;>simp[Tm.cnt,Tm.args,Tm.oargs,Tm.cnts]
theorem Fm.cnt_eq(t:Fm):t.cnt=Fm.cnts t.sub+Tm.cnts t.args+1:=by
 obtain⟨o,v,a,s⟩:=t
 cases s<;>simp[Fm.cnt,Fm.args,Fm.oargs,Fm.sub,Fm.osub,Fm.cnts]
theorem Tm.cnts_app:∀(l m:List Tm),Tm.cnts (l++m)=Tm.cnts l+Tm.cnts m
 |[],m=>by simp[Tm.cnts]
 |t::l,m=>by rw[List.cons_append,Tm.cnts,Tm.cnts_app l m,Tm.cnts];omega
theorem Fm.cnts_app:∀(l m:List Fm),Fm.cnts (l++m)=Fm.cnts l+Fm.cnts m
 |[],m=>by simp[Fm.cnts]
 |t::l,m=>by rw[List.cons_append,Fm.cnts,Fm.cnts_app l m,Fm.cnts];omega
theorem Tm.cnts_take{l:List Tm}{j:Nat}(h:j<l.length):Tm.cnts (l.take (j+1))=Tm.cnts (l.take j)+(l[j]).cnt:=by
 rw[List.take_succ_eq_append_getElem h,Tm.cnts_app];simp[Tm.cnts]
theorem Fm.cnts_take{l:List Fm}{j:Nat}(h:j<l.length):Fm.cnts (l.take (j+1))=Fm.cnts (l.take j)+(l[j]).cnt:=by
 rw[List.take_succ_eq_append_getElem h,Fm.cnts_app];simp[Fm.cnts]
theorem Tm.cnts_le{l:List Tm}(j:Nat):Tm.cnts (l.take j)≤Tm.cnts l:=by
 conv=>rhs;rw[←List.take_append_drop j l,Tm.cnts_app]
 exact Nat.le_add_right _ _
theorem Fm.cnts_le{l:List Fm}(j:Nat):Fm.cnts (l.take j)≤Fm.cnts l:=by
 conv=>rhs;rw[←List.take_append_drop j l,Fm.cnts_app]
 exact Nat.le_add_right _ _
def szB:ACode:=match c_size8.body with|some c=>c|none=>.skip
section
variable {b:Base}{K:Nat→List AV→AV→Prop}(hfn:∀g ar r r',K g ar r→K g ar r'→r=r')
include hfn
theorem terms8_go(t:Tm)(hlen:t.args.length<2^62)(most:Nat)(hm:most≤600)(hs:∀u∈t.args,∀τ:St,snapshot τ (b.fz+1000) (.ag (tcA true u))=some (.ag (tcA true u)))(e:b.ext n_terms8=0∧b.pure n_terms8=true)(hK:∀u∈t.args,∀m≤600,K n_terms8 [.ag (tcA true u),nI m] (nI (min u.cnt (m+1))))
  (body:ACode) (hb:c_terms8.body=some body):GoF (b.envK K) c_terms8.ntmps body (argF [.ag (tcA true t),nI most]) ⟨.nil,0⟩ (DoneR c_terms8.results (nI (min t.cnt (most+1)))):=by
 cases hb
 refine W.args fun z=>?_
 have H:Has (⟨.nil,0⟩:St) []:=Has.nil
 refine wk ?_
 refine W.bx (c:=tcA true t) H rfl rfl rfl rfl rfl rfl fun τ0 n1 H0 k1=>?_
 refine wk ?_
 refine GoF.block (GoF.loop (fun k F τ=>∃j,j+k=t.args.length∧Mr τ0 τ∧sat [(1,nI most),(2,pt 0),(5,nI (min (Tm.cnts (t.args.take j)+1) (most+1))),(6,nI j)] F) (fun k F τ hI=>?_) t.args.length ⟨0,by omega,⟨Nat.le_refl _,fun _ _ h=>h⟩,rfl,rfl,?_,rfl,trivial⟩)
 ·obtain⟨j,hj,M,hs'⟩:=hI
  refine GoF.norm _ hs' fun F=>?_
  clear hs'
  have H:=H0.keep M.2
  have hc:=t.cnt_eq
  have ha:(t.oargs.getD []).length=t.args.length:=rfl
  have hcl:=Tm.cnts_le (l:=t.args) j
  have out:∀ {f:Nat→AV} {τ':St},f 5=nI (min t.cnt (most+1))→GoW (b.envK K) none [] c_terms8.ntmps (.seq (.region [⟨some 30,.mv (.t 5),none,[]⟩,⟨some 4,.mv (.t 30),none,[]⟩]) .ret) f τ' (DoneR c_terms8.results (nI (min t.cnt (most+1)))):=fun {f τ'} h5=>by
   refine GoF.norm [(5,nI (min t.cnt (most+1)))] ⟨h5,trivial⟩ fun g=>?_
   refine wk ?_
   exact GoF.ret ⟨rfl,_,resA_1 (resV_v rfl),rfl⟩
  by_cases hjl:j<t.args.length
  ·refine wk ?_
   refine W.len rfl rfl rfl tmsA_len ?_
   by_cases hn:Tm.cnts (t.args.take j)+1≤most
   ·have hmin:min (Tm.cnts (t.args.take j)+1) (most+1)=Tm.cnts (t.args.take j)+1:=by omega
    rw[hmin]
    refine wk ?_
    refine W.ix rfl rfl rfl rfl (tmsA_idx hjl) ?_
    rw[tAc]
    refine wk ?_
    have hmem:=List.getElem_mem hjl
    have hct:=Tm.cnts_take hjl
    refine W.kn hfn e (hK _ hmem (most-(Tm.cnts (t.args.take j)+1)) (by omega)) rfl rfl rfl (snaps2 (hs _ hmem _) rfl) ?_
    refine wk ?_
    refine⟨k-1,by omega,j+1,by omega,M,rfl,rfl,?_,rfl,trivial⟩
    show nI _=nI _
    congr 1
    omega
   ·have hmin:min (Tm.cnts (t.args.take j)+1) (most+1)=most+1:=by omega
    rw[hmin]
    refine wk ?_
    refine GoF.exit ?_
    show GoW _ _ _ _ _ _ _ _
    exact out (by show nI _=nI _;congr 1;omega)
  ·refine wk ?_
   refine W.len rfl rfl rfl tmsA_len ?_
   refine wk ?_
   refine GoF.exit ?_
   show GoW _ _ _ _ _ _ _ _
   have ej:t.args.take j=t.args:=List.take_of_length_le (by omega)
   exact out (by show nI _=nI _;rw[ej];congr 1;omega)
 ·show nI 1=nI _
  rw[List.take_zero,Tm.cnts]
  congr 1
theorem size8_go(t:Fm)(hlen:t.args.length<2^62)(hlen2:t.sub.length<2^62)(most:Nat)(hm:most≤600)(hs:∀u∈t.args,∀τ:St,snapshot τ (b.fz+1000) (.ag (tcA true u))=some (.ag (tcA true u)))(hs2:∀u∈t.sub,∀τ:St,snapshot τ (b.fz+1000) (.ag (fc u))=some (.ag (fc u)))(e:b.ext n_terms8=0∧b.pure n_terms8=true)(hK:∀u∈t.args,∀m≤600,K n_terms8 [.ag (tcA true u),nI m] (nI (min u.cnt (m+1))))
  (e2:b.ext n_size8=0∧b.pure n_size8=true) (hK2:∀u∈t.sub,∀m≤600,K n_size8 [.ag (fc u),nI m] (nI (min u.cnt (m+1)))) (body:ACode) (hb:c_size8.body=some body):GoF (b.envK K) c_size8.ntmps body (argF [.ag (fc t),nI most]) ⟨.nil,0⟩ (DoneR c_size8.results (nI (min t.cnt (most+1)))):=by
 cases hb
 refine W.args fun z=>?_
 have H:Has (⟨.nil,0⟩:St) []:=Has.nil
 refine wk ?_
 refine W.bx (c:=fc t) H rfl rfl rfl rfl rfl rfl fun τ0 n1 H0 k1=>?_
 have hc:=t.cnt_eq
 have ha:(t.oargs.getD []).length=t.args.length:=rfl
 have hb:(t.osub.getD []).length=t.sub.length:=rfl
 refine wk ?_
 have rest:∀ {f:Nat→AV} {τ:St},Mr τ0 τ→sat [(1,nI most),(2,pt 0),(5,nI (min (Fm.cnts t.sub+1) (most+1)))] f→GoW (b.envK K) none [] c_size8.ntmps (pth [1,1,1] szB) f τ (DoneR c_size8.results (nI (min t.cnt (most+1)))):=fun {f τ1} M1 hs'=>by
  refine GoF.norm _ hs' fun F=>?_
  clear hs'
  refine wk ?_
  refine GoF.block (GoF.loop (fun k F τ=>∃j,j+k=t.args.length∧Mr τ0 τ∧sat [(1,nI most),(2,pt 0),(5,nI (min (Fm.cnts t.sub+1+Tm.cnts (t.args.take j)) (most+1))),(7,nI j)] F) (fun k F τ hI=>?_) t.args.length ⟨0,by omega,M1,rfl,rfl,?_,rfl,trivial⟩)
  ·obtain⟨j,hj,M,hs'⟩:=hI
   refine GoF.norm _ hs' fun F=>?_
   clear hs'
   have H:=H0.keep M.2
   have hcl:=Tm.cnts_le (l:=t.args) j
   have out:∀ {f:Nat→AV} {τ':St},f 5=nI (min t.cnt (most+1))→GoW (b.envK K) none [] c_size8.ntmps (.seq (.region [⟨some 54,.mv (.t 5),none,[]⟩,⟨some 4,.mv (.t 54),none,[]⟩]) .ret) f τ' (DoneR c_size8.results (nI (min t.cnt (most+1)))):=fun {f τ'} h5=>by
    refine GoF.norm [(5,nI (min t.cnt (most+1)))] ⟨h5,trivial⟩ fun g=>?_
    refine wk ?_
    exact GoF.ret ⟨rfl,_,resA_1 (resV_v rfl),rfl⟩
   by_cases hjl:j<t.args.length
   ·refine wk ?_
    refine W.len rfl rfl rfl tmsA_len ?_
    by_cases hn:Fm.cnts t.sub+1+Tm.cnts (t.args.take j)≤most
    ·have hmin:min (Fm.cnts t.sub+1+Tm.cnts (t.args.take j)) (most+1)=Fm.cnts t.sub+1+Tm.cnts (t.args.take j):=by omega
     rw[hmin]
     refine wk ?_
     refine W.ix rfl rfl rfl rfl (tmsA_idx hjl) ?_
     rw[tAc]
     refine wk ?_
     have hmem:=List.getElem_mem hjl
     have hct:=Tm.cnts_take hjl
     refine W.kn hfn e (hK _ hmem (most-(Fm.cnts t.sub+1+Tm.cnts (t.args.take j))) (by omega)) rfl rfl rfl (snaps2 (hs _ hmem _) rfl) ?_
     refine wk ?_
     refine⟨k-1,by omega,j+1,by omega,M,rfl,rfl,?_,rfl,trivial⟩
     show nI _=nI _
     congr 1
     omega
    ·have hmin:min (Fm.cnts t.sub+1+Tm.cnts (t.args.take j)) (most+1)=most+1:=by omega
     rw[hmin]
     refine wk ?_
     refine GoF.exit ?_
     show GoW _ _ _ _ _ _ _ _
     exact out (by show nI _=nI _;congr 1;omega)
   ·refine wk ?_
    refine W.len rfl rfl rfl tmsA_len ?_
    refine wk ?_
    refine GoF.exit ?_
    show GoW _ _ _ _ _ _ _ _
    have ej:t.args.take j=t.args:=List.take_of_length_le (by omega)
    exact out (by show nI _=nI _;rw[ej];congr 1;omega)
  ·show nI _=nI _
   rw[List.take_zero,Tm.cnts]
 refine GoF.block (GoF.loop (fun k F τ=>∃j,j+k=t.sub.length∧Mr τ0 τ∧sat [(1,nI most),(2,pt 0),(5,nI (min (Fm.cnts (t.sub.take j)+1) (most+1))),(6,nI j)] F) (fun k F τ hI=>?_) t.sub.length ⟨0,by omega,⟨Nat.le_refl _,fun _ _ h=>h⟩,rfl,rfl,?_,rfl,trivial⟩)
 ·obtain⟨j,hj,M,hs'⟩:=hI
  refine GoF.norm _ hs' fun F=>?_
  clear hs'
  have H:=H0.keep M.2
  have hcl:=Fm.cnts_le (l:=t.sub) j
  by_cases hjl:j<t.sub.length
  ·refine wk ?_
   refine W.len rfl rfl rfl fmsA_len ?_
   by_cases hn:Fm.cnts (t.sub.take j)+1≤most
   ·have hmin:min (Fm.cnts (t.sub.take j)+1) (most+1)=Fm.cnts (t.sub.take j)+1:=by omega
    rw[hmin]
    refine wk ?_
    refine W.ix rfl rfl rfl rfl (fmsA_idx hjl) ?_
    rw[fA]
    refine wk ?_
    have hmem:=List.getElem_mem hjl
    have hct:=Fm.cnts_take hjl
    refine W.kn hfn e2 (hK2 _ hmem (most-(Fm.cnts (t.sub.take j)+1)) (by omega)) rfl rfl rfl (snaps2 (hs2 _ hmem _) rfl) ?_
    refine wk ?_
    refine⟨k-1,by omega,j+1,by omega,M,rfl,rfl,?_,rfl,trivial⟩
    show nI _=nI _
    congr 1
    omega
   ·have hmin:min (Fm.cnts (t.sub.take j)+1) (most+1)=most+1:=by omega
    rw[hmin]
    refine wk ?_
    refine GoF.exit ?_
    show GoW _ _ _ _ _ _ _ _
    exact rest M ⟨rfl,rfl,by show nI _=nI _;congr 1;omega,trivial⟩
  ·refine wk ?_
   refine W.len rfl rfl rfl fmsA_len ?_
   refine wk ?_
   refine GoF.exit ?_
   show GoW _ _ _ _ _ _ _ _
   have ej:t.sub.take j=t.sub:=List.take_of_length_le (by omega)
   exact rest M ⟨rfl,rfl,by show nI _=nI _;rw[ej],trivial⟩
 ·show nI 1=nI _
  rw[List.take_zero,Fm.cnts]
  congr 1
abbrev fmT(F:Fm):AV:=.ag (fc F)
theorem FewForms_go(L:List Fm)(hlen:L.length<2^62)(hs:∀u∈L,∀τ:St,snapshot τ (b.fz+1000) (.ag (fc u))=some (.ag (fc u)))(e:b.ext n_size8=0∧b.pure n_size8=true)(hK:∀u∈L,K n_size8 [.ag (fc u),nI 600] (nI (min u.cnt 601)))
  (body:ACode) (hb:c_FewForms.body=some body):GoF (b.envK K) c_FewForms.ntmps body (argF [slA true (some 4) (L.map fmT)]) ⟨.nil,0⟩ (DoneR c_FewForms.results (.b (decide (Fm.cnts L≤600)))):=by
 cases hb
 refine W.args fun z=>?_
 have H:Has (⟨.nil,0⟩:St) []:=Has.nil
 refine wk ?_
 refine GoF.block (GoF.loop (fun k F τ=>∃j,j+k=L.length∧Fm.cnts (L.take j)≤600∧sat [(0,slA true (some 4) (L.map fmT)),(3,nI (Fm.cnts (L.take j))),(4,nI j)] F) (fun k F τ hI=>?_) L.length ⟨0,by omega,by simp[Fm.cnts],rfl,by simp[Fm.cnts];rfl,rfl,trivial⟩)
 obtain⟨j,hj,hle,hs'⟩:=hI
 refine GoF.norm _ hs' fun F=>?_
 clear hs'
 have H:Has τ []:=Has.nil
 have hcl:=Fm.cnts_le (l:=L) (j+1)
 by_cases hjl:j<L.length
 ·have hct:=Fm.cnts_take hjl
  have hmem:=List.getElem_mem hjl
  refine wk ?_
  refine W.kn hfn e (hK _ hmem) rfl rfl rfl (snaps2 (hs _ hmem _) rfl) ?_
  refine wk ?_
  by_cases hn:Fm.cnts (L.take (j+1))≤600
  ·have e1:Fm.cnts (L.take j)+min (L[j]).cnt 601=Fm.cnts (L.take (j+1)):=by omega
   rw[e1]
   refine wk ?_
   exact⟨k-1,by omega,j+1,by omega,hn,rfl,rfl,rfl,trivial⟩
  ·refine wk ?_
   refine GoF.ret ⟨rfl,_,resA_1 (resV_v rfl),?_⟩
   rw[decide_eq_false (by omega)];rfl
 ·refine wk ?_
  refine GoF.exit ?_
  show GoW _ _ _ _ _ _ _ _
  refine wk ?_
  refine GoF.ret ⟨rfl,_,resA_1 (resV_v rfl),?_⟩
  have ej:L.take j=L:=List.take_of_length_le (by omega)
  rw[ej] at hle
  rw[decide_eq_true hle];rfl
theorem Few10_go(L:List Fm)(hs:∀τ:St,snapshot τ (b.fz+1000) (slA true (some 4) (L.map fmT))=some (slA true (some 4) (L.map fmT)))(e:b.ext n_FewForms=0∧b.pure n_FewForms=true){r:AV}(hr:r.cells=[r])(hz:freeze ⟨.nil,0⟩ 0 1000 r=some r)(hK:K n_FewForms [slA true (some 4) (L.map fmT)] r)
  (body:ACode) (hb:c_Few10.body=some body):GoF (b.envK K) c_Few10.ntmps body (argF [slA true (some 4) (L.map fmT)]) ⟨.nil,0⟩ (DoneR c_Few10.results r):=by
 cases hb
 refine W.args fun z=>?_
 have H:Has (⟨.nil,0⟩:St) []:=Has.nil
 refine wk ?_
 refine W.kn hfn e hK rfl rfl rfl (snaps1 (hs _)) ?_
 refine wk ?_
 exact GoF.ret ⟨rfl,_,resA_1 (resV_v rfl),hz⟩
end
structure LnG where
 dp:Int
 op:Int
 hyp:Bool
 f:Fm
 rule:List Nat
 ocs:Option (List (Int×Int))
abbrev LnG.cs(x:LnG):List (Int×Int):=x.ocs.getD []
abbrev cgC(c:Int×Int):AV:=.ag [.i .i64 c.1,.i .i64 c.2]
abbrev cgA(o:Bool)(l:Option (List (Int×Int))):AV:=osl o (some 2) (l.map fun l=>l.map cgC)
abbrev LnG.A(x:LnG):AV:=.ag [.i .i64 x.dp,.i .i64 x.op,.b x.hyp,.i .u8 (Int.ofNat x.f.op),.s x.f.name,tmsA true x.f.oargs,fmsA true x.f.osub,.s x.rule,cgA true x.ocs]
abbrev lgA(L:Option (List LnG)):AV:=osl true (some 9) (L.map fun L=>L.map LnG.A)
theorem cg_len{τ:St}{o:Bool}{l:Option (List (Int×Int))}:lenA τ 1 (cgA o l)=some (l.getD []).length:=osl_len
theorem lg_len{τ:St}{L:Option (List LnG)}:lenA τ 1 (lgA L)=some (L.getD []).length:=osl_len
theorem lg_idx{L:Option (List LnG)}{i:Nat}(h:i<(L.getD []).length):idxSlA (some 9) (lgA L) i=some (.tp true ((L.getD [])[i]).A):=osl_idx h
theorem Sl.snpS{σ:St}{sh:Option Nat}{v:AV}{xs:List AV}{m:Nat}(hs:Sl σ sh v xs)(hn:xs=[]→v= .nilsl)(hm:∀x∈xs,snapshot σ m x=some x):snapshot σ (m+1) v=some (slA true sh xs):=by
 have hr:=hs.read
 have hm:=mapO_self hm
 cases hs with
 |nil=>rfl
 |sl o cap xs rest hg hc hk=>
  rw[snapshot_succ]
  simp only[hr,hm]
  cases xs with
  |nil=>cases hn rfl
  |cons x l=>rfl
def few1(n:Nat)(x:LnG):Bool:=decide (x.cs.length≤6∧(40<n→x.cs.length=0))
def fewL(n:Nat):Bool:=decide (n≤502∧¬(40<n∧n≤500))
def fewG(L:List LnG):Bool:=fewL L.length&&(L.all (few1 L.length)&&decide (Fm.cnts (L.map LnG.f)≤600))
def fw18:ACode:=match c_Few18.body with|some c=>c|none=>.skip
section
variable {b:Base}{K:Nat→List AV→AV→Prop}(hfn:∀g ar r r',K g ar r→K g ar r'→r=r')
include hfn
theorem Few18_go(L:Option (List LnG))(hlen:(L.getD []).length<2^62)(hcl:∀x∈L.getD [],x.cs.length<2^62)(hs:∀x∈L.getD [],∀τ:St,snapshot τ (b.fz+999) (.ag (fc x.f))=some (.ag (fc x.f)))(e:b.ext n_Few10=0∧b.pure n_Few10=true)
  (hK:(L.getD []).length≤502→K n_Few10 [slA true (some 4) (((L.getD []).map LnG.f).map fmT)] (.b (decide (Fm.cnts ((L.getD []).map LnG.f)≤600))))
  (body:ACode) (hb:c_Few18.body=some body):GoF (b.envK K) c_Few18.ntmps body (argF [lgA L]) ⟨.nil,0⟩ (DoneR c_Few18.results (.b (fewG (L.getD [])))):=by
 cases hb
 refine W.args fun z=>?_
 have H:Has (⟨.nil,0⟩:St) []:=Has.nil
 have fz:∀ {τ:St},fewG (L.getD [])=false→freeze τ 0 1000 (.b false)=some (.b (fewG (L.getD []))):=fun h1=>by rw[h1];rfl
 have rest:fewL (L.getD []).length=true→∀ {g:Nat→AV} {τ:St},GoW (b.envK K) none [] c_Few18.ntmps (pth [1,1] fw18) (upds [(2,.b false),(0,lgA L)] g) τ (DoneR c_Few18.results (.b (fewG (L.getD [])))):=fun hfl {g τ}=>by
  clear H
  have H:Has τ []:=Has.nil
  have h502:(L.getD []).length≤502:=by unfold fewL at hfl;exact(of_decide_eq_true hfl).1
  refine wk ?_
  refine W.len rfl rfl rfl lg_len ?_
  refine wk ?_
  refine GoF.each (L.getD []).length (fun j f τ'=>∃w,Sl τ' (some 4) w ((((L.getD []).take j).map LnG.f).map fmT)∧((L.getD []).take j=[]→w= .nilsl)∧((L.getD []).take j).all (few1 (L.getD []).length)=true∧sat [(0,lgA L),(3,w),(19,lgA L)] f) hlen ⟨.nilsl,.nil,fun _=>rfl,rfl,rfl,rfl,rfl,trivial⟩ rfl rfl (fun j g τ hj hI hi hm=>?_) (fun g τ hI hi=>?_)
  ·obtain⟨w,hw,hw0,hal,hs'⟩:=hI
   refine GoF.norm ((21,nI j)::(20,nI (L.getD []).length)::[(0,lgA L),(3,w),(19,lgA L)]) ⟨hi,hm,hs'⟩ fun g=>?_
   have H:Has τ []:=Has.nil
   have hx:=hcl _ (List.getElem_mem hj)
   refine wk ?_
   refine W.ix rfl rfl rfl rfl (lg_idx hj) ?_
   refine wk ?_
   have hxm:=List.getElem_mem hj
   have htk:=List.take_succ_eq_append_getElem hj
   generalize(L.getD [])[j]=x at hx hxm htk
   refine W.vr (k:=τ.next) (c:=[.i .i64 x.dp,.i .i64 x.op,.b x.hyp,.i .u8 (Int.ofNat x.f.op),.s x.f.name,tmsA true x.f.oargs,fmsA true x.f.osub,.s x.rule,cgA true x.ocs]) H rfl rfl rfl rfl rfl rfl rfl fun τ2 n2 H k2=>?_
   refine wk ?_
   have push:few1 (L.getD []).length x=true→∀ {g:Nat→AV},GoW (b.envK K) none [] c_Few18.ntmps (.region [⟨some 40,.mv (.t 3),none,[]⟩,⟨some 41,.fieldAddr 3 (some 4) (.t 5),none,[]⟩,⟨some 42,.load (some 4) (.t 41),none,[]⟩,⟨some 43,.buildSlice (some 4) 1 [.i .u8 0,.s [],.nilsl,.nilsl] [(0,.t 42)],none,[]⟩,⟨some 44,.append (some 4) 72 (.t 40) (.t 43),none,[]⟩,⟨some 3,.mv (.t 44),none,[]⟩]) (upds [(0,lgA L),(3,w),(5,pt τ.next),(19,lgA L),(20,nI (L.getD []).length),(21,nI j)] g) τ2 (fun x' f' τ'=>match x' with
     | .normal=>f' 21=nI j∧f' 20=nI (L.getD []).length∧∃w,Sl τ' (some 4) w ((((L.getD []).take j).map LnG.f++[x.f]).map fmT)∧w≠ .nilsl∧sat [(0,lgA L),(3,w),(19,lgA L)] f'
     |_=>False):=fun h1 {g}=>by
    refine wk ?_
    have hw2:=hw.keep (τ:=τ2) fun i o _ ho=>k2 i o ho
    refine W.pu (c:=fc x.f) (.ag (fc x.f)) hw2 rfl rfl rfl rfl rfl rfl rfl rfl rfl (by rw[List.length_map,List.length_map,List.length_take];omega) fun v' τ3 hv ha _ n3 k3=>?_
    refine wk ?_
    refine⟨rfl,rfl,v',?_,fun e=>?_,rfl,rfl,rfl,trivial⟩
    ·rw[List.map_append];exact hv
    ·rw[e] at ha;cases ha
   have bad:few1 (L.getD []).length x=false→fewG (L.getD [])=false:=fun h1=>by
    unfold fewG
    rw[List.all_eq_false.2 ⟨x,hxm,by rw[h1];simp⟩,Bool.false_and,Bool.and_false]
   by_cases c6:6<x.cs.length
   ·refine W.len rfl rfl rfl cg_len ?_
    refine wk ?_
    exact GoF.ret ⟨rfl,_,resA_1 (resV_v rfl),fz (bad (decide_eq_false (by omega)))⟩
   ·refine W.len rfl rfl rfl cg_len ?_
    refine wk ?_
    refine W.len rfl rfl rfl lg_len ?_
    by_cases h40:40<(L.getD []).length
    ·refine wk ?_
     refine W.len rfl rfl rfl cg_len ?_
     by_cases c0:0<x.cs.length
     ·refine wk ?_
      exact GoF.ret ⟨rfl,_,resA_1 (resV_v rfl),fz (bad (decide_eq_false (by omega)))⟩
     ·refine wo ?_
      refine W.nil (W.ct0 rfl (W.sk ?_))
      show GoW _ _ _ _ _ _ _ _
      have h1:few1 (L.getD []).length x=true:=decide_eq_true (by omega)
      refine(GoF.norm [(0,lgA L),(3,w),(5,pt τ.next),(19,lgA L),(20,nI (L.getD []).length),(21,nI j)] ⟨rfl,rfl,rfl,rfl,rfl,rfl,trivial⟩ fun g=>push h1).mono fun x' f' τ' h=>?_
      cases x' with
      |normal=>
       obtain⟨f21,f20,w',a1,a2,f0,f3,f19,_⟩:=h
       refine⟨f21,f20,w',?_,fun e=>?_,?_,f0,f3,f19,trivial⟩
       ·rw[htk,List.map_append];exact a1
       ·rw[htk] at e;simp at e
       ·rw[htk,List.all_append,hal,List.all_cons,h1];rfl
      |_=>exact h.elim
    ·refine wo ?_
     refine W.nil (W.ct0 rfl (W.sk ?_))
     show GoW _ _ _ _ _ _ _ _
     have h1:few1 (L.getD []).length x=true:=decide_eq_true (by omega)
     refine(GoF.norm [(0,lgA L),(3,w),(5,pt τ.next),(19,lgA L),(20,nI (L.getD []).length),(21,nI j)] ⟨rfl,rfl,rfl,rfl,rfl,rfl,trivial⟩ fun g=>push h1).mono fun x' f' τ' h=>?_
     cases x' with
     |normal=>
      obtain⟨f21,f20,w',a1,a2,f0,f3,f19,_⟩:=h
      refine⟨f21,f20,w',?_,fun e=>?_,?_,f0,f3,f19,trivial⟩
      ·rw[htk,List.map_append];exact a1
      ·rw[htk] at e;simp at e
      ·rw[htk,List.all_append,hal,List.all_cons,h1];rfl
     |_=>exact h.elim
  ·obtain⟨w,hw,hw0,hal,g0,g3,_⟩:=hI
   show GoW _ _ _ _ _ _ _ _
   refine GoF.norm [(3,w)] ⟨g3,trivial⟩ fun g=>?_
   rw[List.take_length] at hw hw0 hal
   refine wk ?_
   refine W.kn hfn e (hK h502) rfl rfl rfl (snaps1 (hw.snpS (m:=b.fz+999) (fun e=>hw0 (by rw[List.map_eq_nil_iff,List.map_eq_nil_iff] at e;exact e)) fun y hy=>?_)) ?_
   ·obtain⟨F,hF,rfl⟩:=List.mem_map.1 hy
    obtain⟨x,hx,rfl⟩:=List.mem_map.1 hF
    exact hs x hx _
   ·refine wk ?_
    refine GoF.ret ⟨rfl,_,resA_1 (resV_v rfl),?_⟩
    unfold fewG
    rw[hfl,hal];rfl
 refine wk ?_
 refine W.len rfl rfl rfl lg_len ?_
 by_cases h502:502<(L.getD []).length
 ·refine wk ?_
  exact GoF.ret ⟨rfl,_,resA_1 (resV_v rfl),fz (by unfold fewG fewL;rw[decide_eq_false (by omega)];rfl)⟩
 ·refine wk ?_
  refine W.len rfl rfl rfl lg_len ?_
  by_cases h40:40<(L.getD []).length
  ·refine wk ?_
   refine W.len rfl rfl rfl lg_len ?_
   by_cases h500:(L.getD []).length≤500
   ·refine wk ?_
    exact GoF.ret ⟨rfl,_,resA_1 (resV_v rfl),fz (by unfold fewG fewL;rw[decide_eq_false (by omega)];rfl)⟩
   ·refine wo ?_
    refine W.nil (W.ct0 rfl (W.sk ?_))
    show GoW _ _ _ _ _ _ _ _
    exact GoF.norm [(2,.b false),(0,lgA L)] ⟨rfl,rfl,trivial⟩ fun g=>rest (decide_eq_true (by omega))
  ·refine wo ?_
   refine W.nil (W.ct0 rfl (W.sk ?_))
   show GoW _ _ _ _ _ _ _ _
   exact GoF.norm [(2,.b false),(0,lgA L)] ⟨rfl,rfl,trivial⟩ fun g=>rest (decide_eq_true (by omega))
end
theorem Sl.oneC{σ:St}{sh:Option Nat}{v:AV}{xs:List AV}(h:Sl σ sh v xs):v.cells=[v]∧Go.Lyc.conf none v=true:=by cases h<;>exact⟨rfl,rfl⟩
theorem W.apE{md:Md}{env:Env}{wh:Option Nat}{D:List (Nat ⊕ (AV×List AV))}{n:Nat}{F:List (Nat×AV)}{z:Nat→AV}{σ:St}{Q:PostF}{d:Nat}{sh:Option Nat}{bytes k:Nat}{s x:AOpd}{g:Option (Nat×Bool)}{ops:List AOper}{w:AV}{ys:List AV}(hk:σ.get k=some (.cells []))(hx:newOf σ w=some ys)(hc:∀z∈ys,Go.Lyc.conf sh z=true)(hb:(3*ys.length+2000)*bytes≤281474976710656)(hd:Nat.blt d n=true)(hw:wtL g n F=true)(h1:evL env n F z s=some (.sl k 0 0 sh (some 0)))(h2:evL env n F z x=some w)
  (h:∀v' τ c,Sl τ sh v' ys→v'.at? =some c→(c=k∨c=σ.next)→σ.next≤τ.next→c<τ.next→(∀i o,i≠k→σ.get i=some o→τ.get i=some o)→GoM md env wh D n ops (upds ((d,v')::F) z) τ Q):GoM md env wh D n (⟨some d,.append sh bytes s x,g,[]⟩::ops) (upds F z) σ Q:=by
 have h0:Sl σ sh (.sl k 0 0 sh (some 0)) []:=.sl k (some 0) [] [] (by simpa using hk) (by simp) (.inr rfl)
 cases ys with
 |nil=>
  refine W.val (v:=.sl k 0 0 sh (some 0)) (σ':=σ) hd hw ?_ (h _ σ k h0 rfl (.inl rfl) (Nat.le_refl _) (St.get_lt hk) fun _ _ _ h=>h)
  show(match evL env n F z s,evL env n F z x with|some s,some x=>(match appendO 0 σ sh bytes s x with|some (v,σ)=>some (OpR.val v σ)|none=>none)|_,_=>none)=_
  rw[h1,h2]
  have e:appendO 0 σ sh bytes (.sl k 0 0 sh (some 0)) w=some (.sl k 0 0 sh (some 0),σ):=by
   unfold appendO
   rw[h0.read,hx]
   have:Nat.ble ((3*(([]:List AV).length+([]:List AV).length)+2000)*bytes) 281474976710656=true:=Nat.ble_eq_true_of_le hb
   simp only[allB,this]
   rfl
  show(match appendO 0 σ sh bytes (.sl k 0 0 sh (some 0)) w with|some (v,σ)=>some (OpR.val v σ)|none=>none)=_
  rw[e]
 |cons y ys=>
  refine W.ap y ys h0 hx hc (by simpa using hb) hd hw h1 h2 fun v' τ a1 a2 _ a4 a5=>h v' τ σ.next a1 a2 (.inr rfl) (by omega) (by omega) fun i o hi ho=>a5 i o (fun e=>hi (by cases e;rfl)) ho
abbrev cpC(x:LnG)(cv:AV):List AV:=[.i .i64 x.dp,.i .i64 x.op,.b x.hyp,.i .u8 (Int.ofNat x.f.nz.op),.s x.f.nz.name,tmsA false x.f.nz.oargs,fmsA false x.f.nz.osub,.s x.rule,cv]
abbrev cpA(o:Bool)(x:LnG):AV:=.ag [.i .i64 x.dp,.i .i64 x.op,.b x.hyp,.i .u8 (Int.ofNat x.f.nz.op),.s x.f.nz.name,tmsA o x.f.nz.oargs,fmsA o x.f.nz.osub,.s x.rule,.tl o (some 2) (x.cs.map cgC)]
abbrev cpsA(o:Bool)(L:List LnG):AV:=slA o (some 9) (L.map (cpA o))
structure CpS(τ:St)(w:AV)(L:List LnG):Prop where
 ex:∃ws,Sl τ (some 9) w ws∧ws.length=L.length∧(L=[]→w= .nilsl)∧∀i (h:i<ws.length) (h':i<L.length),∃cv c,ws[i]= .ag (cpC L[i] cv)∧Sl τ (some 2) cv (L[i].cs.map cgC)∧cv.at? =some c∧w.at? ≠some c∧c<τ.next
theorem CpS.frz{τ:St}{w:AV}{L:List LnG}(h:CpS τ w L):freeze τ 0 1000 w=some (cpsA false L):=by
 obtain⟨ws,hw,hl,h0,hi⟩:=h.ex
 rw[hw.freeze (n:=999) (ys:=L.map (cpA false)) (mapO_idx (by rw[List.length_map,hl]) fun i a c=>?_)]
 ·unfold frV
  cases L with
  |nil=>rw[h0 rfl];rfl
  |cons x l=>cases hw with
   |nil=>simp at hl
   |sl o cap xs rest hg hc hk=>rfl
 ·obtain⟨cv,c0,e,hs,ha,_⟩:=hi i a (by omega)
  rw[e,List.getElem_map,freeze_succ]
  show(match mapO (freeze τ 0 998) (cpC L[i] cv) with|none=>none|some l=>some (AV.ag l))=_
  have h1:freeze τ 0 998 (tmsA false L[i].f.nz.oargs)=some (tmsA false L[i].f.nz.oargs):=by cases L[i].f.nz.oargs<;>rfl
  have h2:freeze τ 0 998 (fmsA false L[i].f.nz.osub)=some (fmsA false L[i].f.nz.osub):=by cases L[i].f.nz.osub<;>rfl
  have h3:freeze τ 0 998 cv=some (.tl false (some 2) (L[i].cs.map cgC)):=by
   rw[hs.freeze (n:=997) (mapO_self fun y hy=>by obtain⟨q,_,rfl⟩:=List.mem_map.1 hy;rfl)]
   unfold frV
   rw[ha]
  rw[mapO_cons,mapO_cons,mapO_cons,mapO_cons,mapO_cons,mapO_cons,mapO_cons,mapO_cons,mapO_cons,h1,h2,h3];rfl
section
variable {b:Base}{K:Nat→List AV→AV→Prop}(hfn:∀g ar r r',K g ar r→K g ar r'→r=r')
include hfn
theorem Copy18_go(L:Option (List LnG))(hlen:(L.getD []).length<2^20)(hcl:∀x∈L.getD [],x.cs.length<2^20)(hs:∀x∈L.getD [],∀τ:St,snapshot τ (b.fz+1000) (.ag (fc x.f))=some (.ag (fc x.f)))(e:b.ext n_CopyForm=0∧b.pure n_CopyForm=true)
  (hK:∀x∈L.getD [],K n_CopyForm [.ag (fc x.f)] (.ag (fcN x.f.nz))) (body:ACode) (hb:c_Copy18.body=some body):GoF (b.envK K) c_Copy18.ntmps body (argF [lgA L]) ⟨.nil,0⟩ (DoneR c_Copy18.results (cpsA false (L.getD []))):=by
 cases hb
 refine W.args fun z=>?_
 have H:Has (⟨.nil,0⟩:St) []:=Has.nil
 refine wk ?_
 refine W.len rfl rfl rfl lg_len ?_
 refine wk ?_
 refine GoF.each (L.getD []).length (fun j f τ=>∃w,CpS τ w ((L.getD []).take j)∧sat [(3,w),(6,lgA L)] f) (by omega) ⟨.nilsl,⟨[],.nil,by simp,fun _=>rfl,fun i h=>by simp at h⟩,rfl,rfl,trivial⟩ rfl rfl (fun j g τ hj hI hi hm=>?_) (fun g τ hI hi=>?_)
 ·obtain⟨w,hw,hs'⟩:=hI
  refine GoF.norm ((8,nI j)::(7,nI (L.getD []).length)::[(3,w),(6,lgA L)]) ⟨hi,hm,hs'⟩ fun g=>?_
  have H:Has τ []:=Has.nil
  have hx:=hcl _ (List.getElem_mem hj)
  have htk:=List.take_succ_eq_append_getElem hj
  have hsx:=hs _ (List.getElem_mem hj)
  have hKx:=hK _ (List.getElem_mem hj)
  refine wk ?_
  refine W.ix rfl rfl rfl rfl (lg_idx hj) ?_
  refine wk ?_
  generalize(L.getD [])[j]=x at hx htk hsx hKx
  generalize hq:τ.next=q
  refine W.vr (k:=q) (c:=[.i .i64 x.dp,.i .i64 x.op,.b x.hyp,.i .u8 (Int.ofNat x.f.op),.s x.f.name,tmsA true x.f.oargs,fmsA true x.f.osub,.s x.rule,cgA true x.ocs]) H hq rfl rfl rfl rfl rfl rfl fun τ2 n2 H k2=>?_
  refine wk ?_
  refine W.kn hfn e hKx rfl rfl rfl (snaps1 (hsx _)) ?_
  refine wk ?_
  refine W.st (c':=[.i .i64 x.dp,.i .i64 x.op,.b x.hyp,.i .u8 (Int.ofNat x.f.nz.op),.s x.f.nz.name,tmsA false x.f.nz.oargs,fmsA false x.f.nz.osub,.s x.rule,cgA true x.ocs]) H 0 rfl rfl rfl rfl rfl rfl fun τ3 n3 H k3=>?_
  refine wk ?_
  refine W.bs (c:=[]) H n3 rfl rfl rfl fun τ4 n4 H k4=>?_
  refine wk ?_
  refine W.apE (ys:=x.cs.map cgC) (H.get _ (.head _)) (by cases hx:x.ocs<;>simp[LnG.cs,hx]<;>rfl) (fun y hy=>by obtain⟨u,_,rfl⟩:=List.mem_map.1 hy;rfl) (by rw[List.length_map];omega) rfl rfl rfl rfl fun cv τ5 c hcv hca hcc n5 hct k5=>?_
  have H5:Has τ5 [(q,[.i .i64 x.dp,.i .i64 x.op,.b x.hyp,.i .u8 (Int.ofNat x.f.nz.op),.s x.f.nz.name,tmsA false x.f.nz.oargs,fmsA false x.f.nz.osub,.s x.rule,cgA true x.ocs])]:=Has.nil.cons (k5 _ _ (by omega) (H.get _ (.tail _ (.head _)))) (by simp)
  clear H
  have H:=H5
  refine wk ?_
  have hcv1:=hcv.oneC
  refine W.st (c':=cpC x cv) H 0 rfl rfl rfl rfl hcv1.2 (by rw[hcv1.1];rfl) fun τ6 n6 H k6=>?_
  obtain⟨ws,hws,hwl,hw0,hwi⟩:=hw.ex
  have kk:∀i o,τ.get i=some o→τ6.get i=some o:=fun i o h=>by
   have:=St.get_lt h
   exact k6 _ _ (by omega) (k5 _ _ (by omega) (k4 _ _ (k3 _ _ (by omega) (k2 _ _ h))))
  refine wk ?_
  have hw6:=hws.keep (τ:=τ6) fun i o _ ho=>kk i o ho
  refine W.pu (c:=cpC x cv) (.ag (cpC x cv)) hw6 rfl rfl rfl rfl rfl rfl rfl rfl rfl (by rw[hwl,List.length_take];omega) fun v' τ7 hv ha _ n7 k7=>?_
  refine wk ?_
  refine⟨rfl,rfl,v',⟨ws++[.ag (cpC x cv)],hv,by rw[htk];simp[hwl],fun h=>by rw[htk] at h;simp at h,fun i h h'=>?_⟩,rfl,rfl,trivial⟩
  have k67:∀i o,τ.next≤i→τ6.get i=some o→τ7.get i=some o:=fun i o hi ho=>k7 i o (fun e=>by
   have:w.at? =some i:=e
   have:=hws.lt this
   omega) ho
  rw[List.length_append,List.length_singleton] at h
  by_cases hil:i<ws.length
  ·obtain⟨cv',c',e1,e2,e3,e4,e5⟩:=hwi i hil (by omega)
   have e6:(List.take (j+1) (L.getD []))[i]=(List.take j (L.getD []))[i]'(by omega):=by simp
   have e7:=e2.keep (τ:=τ7) fun a o h1 ho=>by
    have:a=c':=by rw[e3] at h1;cases h1;rfl
    subst this
    exact k7 _ _ (fun e=>e4 e) (kk _ _ ho)
   refine⟨cv',c',by rw[List.getElem_append_left hil,e6];exact e1,by rw[e6];exact e7,e3,?_,by omega⟩
   rw[ha];intro e;cases e;omega
  ·have hie:i=ws.length:=by omega
   subst hie
   have e6:(List.take (j+1) (L.getD []))[ws.length]'h'=x:=by
    have hl:ws.length=j:=by rw[hwl,List.length_take];omega
    simp only[htk,List.getElem_append,List.length_take]
    rw[dif_neg (by omega)];simp
   have e7:=hcv.keep (τ:=τ7) fun a o h1 ho=>by
    have:a=c:=by rw[hca] at h1;cases h1;rfl
    subst this
    exact k67 _ _ (by omega) (k6 _ _ (by omega) ho)
   refine⟨cv,c,by rw[List.getElem_append_right (Nat.le_refl _),e6];simp,by rw[e6];exact e7,hca,?_,by omega⟩
   rw[ha];intro e;cases e;omega
 ·obtain⟨w,hw,g3,_⟩:=hI
  show GoW _ _ _ _ _ _ _ _
  refine GoF.norm [(3,w)] ⟨g3,trivial⟩ fun g=>?_
  rw[List.take_length] at hw
  refine wk ?_
  exact GoF.ret ⟨rfl,_,resA_1 (resV_v rfl),hw.frz⟩
end
theorem tl_vw{σ:St}{sh:Option Nat}{o:Bool}{xs:List AV}(hc:∀y∈xs,conf sh y=true):Vw σ sh (.tl o sh xs) xs:=by
 refine⟨fun τ=>rfl,fun {j} hj=>?_,fun {j} hj=>?_⟩
 ·cases xs with
  |nil=>simp at hj
  |cons x l=>exact(slA_vw (σ:=σ) (o:=o) hc).ix hj
 ·cases xs with
  |nil=>simp at hj
  |cons x l=>exact(slA_vw (σ:=σ) (o:=o) hc).ld hj
abbrev gvC(x:LnG)(cv:AV):List AV:=[.i .i64 x.dp,.i .i64 x.op,.b x.hyp,.i .u8 (Int.ofNat x.f.op),.s x.f.name,tmsA true x.f.oargs,fmsA true x.f.osub,.s x.rule,cv]
def InV(σ:St)(V:AV)(L:List LnG):Prop:=∃cvs:List AV,cvs.length=L.length∧∀τ,Mr σ τ→Vw τ (some 9) V (L.zipWith (fun x cv=>AV.ag (gvC x cv)) cvs)∧∀i (h:i<cvs.length) (h':i<L.length),Vw τ (some 2) cvs[i] (L[i].cs.map cgC)∧cvs[i].cells=[cvs[i]]∧Go.Lyc.conf none cvs[i]=true
theorem taken_eq:c_taken=c_Given:=rfl
structure GvS(τ:St)(w:AV)(L:List LnG):Prop where
 ex:∃ws,Sl τ (some 9) w ws∧ws.length=L.length∧(L=[]→w= .nilsl)∧∀i (h:i<ws.length) (h':i<L.length),∃cv,ws[i]= .ag (gvC L[i] cv)∧Sl τ (some 2) cv (L[i].cs.map cgC)∧(L[i].cs=[]→cv= .nilsl)∧∀c,cv.at? =some c→w.at? ≠some c
section
variable {b:Base}{K:Nat→List AV→AV→Prop}
theorem Given_go{fn:Nat}{af:AFunc}(haf:af=c_Given)(hh:Here (b.envK K) fn af){σ:St}{V:AV}{L:List LnG}(hV:InV σ V L)(hlen:L.length<2^20)(hcl:∀x∈L,x.cs.length<2^20):
  GoesCall (b.envK K) 0 (.f (.func fn) [] []) [V] σ (fun r τ=>∃w,r= .ok w∧GvS τ w L∧Mr σ τ∧∀c,w.at? =some c→σ.next≤c):=by
 subst haf
 refine W.code hh.e hh.p hh.f rfl rfl rfl rfl fun z=>?_
 obtain⟨cvs,hcv,hr⟩:=hV
 have H:Has σ []:=Has.nil
 refine wk ?_
 refine W.len rfl rfl rfl ((hr σ ⟨Nat.le_refl _,fun _ _ h=>h⟩).1.len _) ?_
 have hzl:(L.zipWith (fun x cv=>AV.ag (gvC x cv)) cvs).length=L.length:=by rw[List.length_zipWith];omega
 rw[hzl]
 refine wk ?_
 refine GoF.each L.length (fun j f τ=>∃w,GvS τ w (L.take j)∧Mr σ τ∧(∀c,w.at? =some c→σ.next≤c)∧sat [(3,w),(9,V)] f) (by omega) ⟨.nilsl,⟨[],.nil,by simp,fun _=>rfl,fun i h=>by simp at h⟩,⟨Nat.le_refl _,fun _ _ h=>h⟩,fun c h=>(by cases h),rfl,rfl,trivial⟩ rfl rfl (fun j g τ hj hI hi hm=>?_) (fun g τ hI hi=>?_)
 ·obtain⟨w,hw,M,hwo,hs'⟩:=hI
  refine GoF.norm ((11,nI j)::(10,nI L.length)::[(3,w),(9,V)]) ⟨hi,hm,hs'⟩ fun g=>?_
  have H:Has τ []:=Has.nil
  have hx:=hcl _ (List.getElem_mem hj)
  have htk:=List.take_succ_eq_append_getElem hj
  obtain⟨v9,hci⟩:=hr τ M
  have hjc:j<cvs.length:=by omega
  refine wk ?_
  rw[List.getElem_zipWith]
  have hcj:=hci j hjc hj
  have hrj:∀τ',Mr σ τ'→Vw τ' (some 2) cvs[j] (L[j].cs.map cgC):=fun τ' h=>((hr τ' h).2 j hjc hj).1
  generalize L[j]=x at hx htk hcj hrj
  generalize cvs[j]=cv at hcj hrj
  obtain⟨_,hcc,hcf⟩:=hcj
  generalize hq:τ.next=q
  have hcf2:cv.val=true:=by
   cases cv with
   |tu l=>simp[AV.cells] at hcc;cases hcf
   |_=>rfl
  refine W.vr (k:=q) (c:=gvC x cv) H hq rfl rfl rfl rfl rfl rfl fun τ2 n2 H k2=>?_
  refine wk ?_
  refine W.vr (k:=q+1) (c:=gvC x .nilsl) H n2 rfl rfl rfl rfl rfl rfl fun τ3 n3 H k3=>?_
  have M3:Mr σ τ3:=⟨by have:=M.1;omega,fun i o h=>k3 _ _ (k2 _ _ (M.2 i o h))⟩
  have hv3:=hrj τ3 M3
  refine wk ?_
  rw[List.length_map]
  refine GoF.each x.cs.length (fun i f τ'=>(∃yv,τ'.get (q+1)=some (.cells (gvC x yv))∧Sl τ' (some 2) yv ((x.cs.take i).map cgC)∧(x.cs.take i=[]→yv= .nilsl)∧∀c,yv.at? =some c→τ3.next≤c)∧(∀i o,i≠q+1→τ3.get i=some o→τ'.get i=some o)∧τ3.next≤τ'.next∧sat [(27,cv),(6,pt (q+1)),(11,nI j),(10,nI L.length),(3,w),(9,V)] f) (by omega) ⟨⟨.nilsl,H.get _ (.head _),.nil,fun _=>rfl,fun c h=>by cases h⟩,fun _ _ _ h=>h,Nat.le_refl _,rfl,rfl,rfl,rfl,rfl,rfl,trivial⟩ rfl rfl (fun i g τ' hi2 hI hii hmm=>?_) (fun g τ' hI hii=>?_)
  ·obtain⟨⟨yv,hy,hys,hy0,hyo⟩,kp,hn,hs'⟩:=hI
   refine GoF.norm ((29,nI i)::(28,nI x.cs.length)::[(27,cv),(6,pt (q+1)),(11,nI j),(10,nI L.length),(3,w),(9,V)]) ⟨hii,hmm,hs'⟩ fun g=>?_
   have Mx:Mr σ τ':=⟨by have:=M3.1;omega,fun i o h=>kp _ _ (by have:=St.get_lt h;have:=M.1;omega) (M3.2 i o h)⟩
   have hvx:=hrj τ' Mx
   have H:Has τ' [(q+1,gvC x yv)]:=Has.nil.cons hy (by simp)
   have hcl2:(x.cs.map cgC).length=x.cs.length:=List.length_map _
   have hti:=List.take_succ_eq_append_getElem hi2
   refine wk ?_
   rw[List.getElem_map]
   generalize x.cs[i]=c0 at hti
   refine W.vr (k:=τ'.next) (c:=[.i .i64 c0.1,.i .i64 c0.2]) H rfl rfl rfl rfl rfl rfl rfl fun τ4 n4 H k4=>?_
   refine wk ?_
   have hys4:=hys.keep (τ:=τ4) fun a o _ ho=>k4 a o ho
   refine W.pu (c:=[.i .i64 c0.1,.i .i64 c0.2]) (cgC c0) hys4 rfl rfl rfl rfl rfl rfl rfl rfl rfl (by rw[List.length_map,List.length_take];omega) fun v' τ5 hv ha _ n5 k5=>?_
   have H5:Has τ5 [(q+1,gvC x yv)]:=Has.nil.cons (k5 _ _ (fun e=>by have:=hyo _ e;omega) (k4 _ _ hy)) (by simp)
   clear H
   have H:=H5
   refine wk ?_
   refine W.st (c':=gvC x v') H 0 rfl rfl rfl rfl hv.oneC.2 (by rw[hv.oneC.1];rfl) fun τ6 n6 H k6=>?_
   refine wk ?_
   refine⟨rfl,rfl,⟨v',H.get _ (.head _),?_,fun h=>?_,fun c h=>by rw[ha] at h;cases h;omega⟩,fun a o h1 ho=>k6 _ _ h1 (k5 _ _ (fun e=>by have:=hyo _ e;have:=St.get_lt ho;omega) (k4 _ _ (kp _ _ h1 ho))),by omega,rfl,rfl,rfl,rfl,rfl,rfl,trivial⟩
   ·rw[hti,List.map_append]
    exact hv.keep fun a o h1 ho=>k6 _ _ (fun e=>by rw[ha] at h1;cases h1;omega) ho
   ·rw[hti] at h;simp at h
  ·obtain⟨⟨yv,hy,hys,hy0,hyo⟩,kp,hn,g27,g6,g11,g10,g3,g9,_⟩:=hI
   show GoW _ _ _ _ _ _ _ _
   refine GoF.norm [(6,pt (q+1)),(11,nI j),(10,nI L.length),(3,w),(9,V)] ⟨g6,g11,g10,g3,g9,trivial⟩ fun g=>?_
   rw[List.take_length] at hys hy0
   have H:Has τ' [(q+1,gvC x yv)]:=Has.nil.cons hy (by simp)
   obtain⟨ws,hws,hwl,hw0,hwi⟩:=hw.ex
   have kk:∀i o,τ.get i=some o→τ'.get i=some o:=fun i o h=>kp _ _ (by have:=St.get_lt h;omega) (k3 _ _ (k2 _ _ h))
   have hws':=hws.keep (τ:=τ') fun a o _ ho=>kk a o ho
   refine wk ?_
   refine W.pu (c:=gvC x yv) (.ag (gvC x yv)) hws' rfl rfl rfl rfl rfl rfl rfl rfl rfl (by rw[hwl,List.length_take];omega) fun v' τ7 hv ha _ n7 k7=>?_
   refine wk ?_
   have k67:∀i o,(∀c,w.at? =some c→i≠c)→τ'.get i=some o→τ7.get i=some o:=fun i o h1 ho=>k7 i o (fun e=>h1 i e rfl) ho
   have hwq:∀c,w.at? =some c→c<q:=fun c h=>by have:=hws.lt h;omega
   refine⟨rfl,rfl,v',⟨ws++[.ag (gvC x yv)],hv,by rw[htk];simp[hwl],fun h=>by rw[htk] at h;simp at h,fun i h h'=>?_⟩,⟨by have:=M.1;omega,fun i o ho=>k67 _ _ (fun c hc=>by have:=hwo c hc;have:=St.get_lt ho;omega) (kk _ _ (M.2 _ _ ho))⟩,fun c h=>by rw[ha] at h;cases h;have:=M.1;omega,rfl,rfl,trivial⟩
   rw[List.length_append,List.length_singleton] at h
   by_cases hil:i<ws.length
   ·obtain⟨cv',e1,e2,e3,e4⟩:=hwi i hil (by omega)
    have e6:(List.take (j+1) L)[i]=(List.take j L)[i]'(by omega):=by simp
    have e7:=e2.keep (τ:=τ7) fun a o h1 ho=>k67 _ _ (fun c hc e=>e4 a h1 (by rw[hc,e])) (kk _ _ ho)
    refine⟨cv',by rw[List.getElem_append_left hil,e6];exact e1,by rw[e6];exact e7,by rw[e6];exact e3,fun c hc e=>?_⟩
    rw[ha] at e;cases e
    have:=e2.lt hc;omega
   ·have hie:i=ws.length:=by omega
    subst hie
    have e6:(List.take (j+1) L)[ws.length]'h'=x:=by
     have hl:ws.length=j:=by rw[hwl,List.length_take];omega
     simp only[htk,List.getElem_append,List.length_take]
     rw[dif_neg (by omega)];simp
    have e7:=hys.keep (τ:=τ7) fun a o h1 ho=>k67 _ _ (fun c hc e=>by have:=hyo a h1;have:=hwq c hc;omega) ho
    refine⟨yv,by rw[List.getElem_append_right (Nat.le_refl _),e6];simp,by rw[e6];exact e7,by rw[e6];exact hy0,fun c hc e=>?_⟩
    rw[ha] at e;cases e
    have:=hys.lt hc;omega
 ·obtain⟨w,hw,M,hwo,g3,_⟩:=hI
  show GoW _ _ _ _ _ _ _ _
  refine GoF.norm [(3,w)] ⟨g3,trivial⟩ fun g=>?_
  rw[List.take_length] at hw
  refine wk ?_
  exact GoF.ret ⟨rfl,w,rfl,hw,M,hwo⟩
end
theorem InV.tl{σ:St}{L:Option (List LnG)}:InV σ (lgA L) (L.getD []):=by
 refine⟨(L.getD []).map fun x=>cgA true x.ocs,List.length_map _,fun τ _=>⟨?_,fun i h h'=>?_⟩⟩
 ·have e:(L.getD []).zipWith (fun x cv=>AV.ag (gvC x cv)) ((L.getD []).map fun x=>cgA true x.ocs)=(L.getD []).map LnG.A:=by
   rw[List.zipWith_map_right]
   exact List.zipWith_self ..
  rw[e]
  cases L with
  |none=>exact Sl.nil.vw
  |some l=>exact tl_vw fun y hy=>by obtain⟨x,_,rfl⟩:=List.mem_map.1 hy;rfl
 ·rw[List.getElem_map]
  cases hx:((L.getD [])[i]).ocs with
  |none=>exact⟨by show Vw τ (some 2) .nilsl (List.map cgC ((L.getD [])[i].ocs.getD []));rw[hx];exact Sl.nil.vw,rfl,rfl⟩
  |some l=>exact⟨by show Vw τ (some 2) (.tl true (some 2) (l.map cgC)) (List.map cgC ((L.getD [])[i].ocs.getD []));rw[hx];exact tl_vw fun y hy=>by obtain⟨x,_,rfl⟩:=List.mem_map.1 hy;rfl,rfl,rfl⟩
theorem GvS.inv{σ:St}{w:AV}{L:List LnG}(h:GvS σ w L):InV σ w L:=by
 obtain⟨ws,hw,hl,_,hi⟩:=h.ex
 have hex:∀i,∃cv,∀(h:i<ws.length) (h':i<L.length),ws[i]= .ag (gvC L[i] cv)∧Sl σ (some 2) cv (L[i].cs.map cgC):=fun i=>by
  by_cases hil:i<ws.length
  ·obtain⟨cv,e1,e2,_⟩:=hi i hil (by omega)
   exact⟨cv,fun _ _=>⟨e1,e2⟩⟩
  ·exact⟨.ni,fun h=>absurd h hil⟩
 refine⟨(List.range L.length).map fun i=>Classical.choose (hex i),by simp,fun τ M=>⟨?_,fun i h h'=>?_⟩⟩
 ·have e:L.zipWith (fun x cv=>AV.ag (gvC x cv)) ((List.range L.length).map fun i=>Classical.choose (hex i))=ws:=by
   refine List.ext_getElem (by simp[hl]) fun i h1 h2=>?_
   rw[List.getElem_zipWith,List.getElem_map,List.getElem_range]
   exact((Classical.choose_spec (hex i)) h2 (by omega)).1.symm
  rw[e]
  exact(hw.keep fun a o _ ho=>M.2 a o ho).vw
 ·rw[List.getElem_map,List.getElem_range]
  have h2:=((Classical.choose_spec (hex i)) (by omega) h').2
  exact⟨(h2.keep fun a o _ ho=>M.2 a o ho).vw,h2.oneC⟩
abbrev rnC(x:Ln)(cv:AV):List AV:=[nI x.dp,nI x.op,.b x.hyp,.i .u8 (Int.ofNat x.f.op),.s x.f.name,tmsA true x.f.oargs,fmsA true x.f.osub,.s x.rule,cv]
abbrev rnA(x:Ln):AV:=.ag (rnC x (slA true (some 2) (x.cs.map fun c=>.ag [nI c.1,nI c.2])))
@[irreducible] def rnsA (L:List Ln):AV:=.tl true (some 9) (L.map rnA)
theorem rns_len{τ:St}{L:List Ln}:lenA τ 1 (rnsA L)=some L.length:=by unfold rnsA;exact congrArg some (List.length_map _)
theorem rns_ix{L:List Ln}{j:Nat}(h:j<L.length):idxSlA (some 9) (rnsA L) j=some (.tp true (rnA L[j])):=by unfold rnsA;exact osl_idx (o:=true) (sh:=some 9) (l:=some L) (g:=rnA) h
def endFr(L:List Ln)(d:Nat):Nat→Nat→Nat
 |0,n=>n
 |m+1,n=>match L[n]? with
  |some x=>if d+x.op≤x.dp then endFr L d m (n+1) else n
  |none=>n
def endLr(L:List Ln)(first d:Nat):Nat:=endFr L d (L.length-first) first
section
variable {b:Base}{K:Nat→List AV→AV→Prop}
theorem End_go{L:List Ln}(hlen:L.length<2^20)(ho:∀x∈L,x.op≤x.dp∧x.dp<2^20)(first d:Nat)(hf:first≤L.length)(hd:d<2^20)(body:ACode)(hb:c_rEnd.body=some body):
  GoF (b.envK K) c_rEnd.ntmps body (argF [rnsA L,nI first,nI d]) ⟨.nil,0⟩ (DoneR c_rEnd.results (nI (endLr L first d))):=by
 cases hb
 refine W.args fun z=>?_
 have H:Has (⟨.nil,0⟩:St) []:=Has.nil
 refine wk ?_
 refine GoF.block (GoF.loop (fun k F τ=>∃n,n+k=L.length∧endFr L d k n=endLr L first d∧sat [(0,rnsA L),(2,nI d),(7,nI n)] F) (fun k F τ hI=>?_) (L.length-first) ⟨first,by omega,rfl,rfl,rfl,rfl,trivial⟩)
 obtain⟨n,hn,he,hs'⟩:=hI
 refine GoF.norm _ hs' fun F=>?_
 clear hs'
 have H:Has τ []:=Has.nil
 have out:∀ {f:Nat→AV} {τ':St},f 7=nI (endLr L first d)→GoW (b.envK K) none [] c_rEnd.ntmps (.seq (.region [⟨some 30,.mv (.t 7),none,[]⟩,⟨some 6,.mv (.t 30),none,[]⟩]) .ret) f τ' (DoneR c_rEnd.results (nI (endLr L first d))):=fun {f τ'} h5=>by
  refine GoF.norm [(7,nI (endLr L first d))] ⟨h5,trivial⟩ fun g=>?_
  refine wk ?_
  exact GoF.ret ⟨rfl,_,resA_1 (resV_v rfl),rfl⟩
 by_cases hl:n<L.length
 ·obtain⟨m,rfl⟩:∃m,k=m+1:=⟨k-1,by omega⟩
  rw[endFr,List.getElem?_eq_getElem hl] at he
  have hx:=ho _ (List.getElem_mem hl)
  refine wk ?_
  refine W.len rfl rfl rfl rns_len ?_
  refine wk ?_
  refine W.ix rfl rfl rfl rfl (rns_ix hl) ?_
  refine wk ?_
  refine W.ix rfl rfl rfl rfl (rns_ix hl) ?_
  generalize L[n]=x at he hx
  have he:(if d+x.op≤x.dp then endFr L d m (n+1) else n)=endLr L first d:=he
  by_cases hc:d+x.op≤x.dp
  ·rw[if_pos hc] at he
   refine wk ?_
   exact⟨m,by omega,n+1,by omega,he,rfl,rfl,rfl,trivial⟩
  ·rw[if_neg hc] at he
   refine wk ?_
   refine GoF.exit ?_
   show GoW _ _ _ _ _ _ _ _
   exact out (by rw[←he];rfl)
 ·refine wk ?_
  refine W.len rfl rfl rfl rns_len ?_
  refine wk ?_
  refine GoF.exit ?_
  show GoW _ _ _ _ _ _ _ _
  have hk:k=0:=by omega
  subst hk
  exact out (by rw[←he];rfl)
omit [TokOk] in
theorem endFr_le{L:List Ln}{d:Nat}:∀ {m n:Nat},n≤endFr L d m n∧endFr L d m n≤n+m
 |0,n=>by simp[endFr]
 |m+1,n=>by
  rw[endFr]
  split
  ·split
   ·have:=endFr_le (L:=L) (d:=d) (m:=m) (n:=n+1);omega
   ·omega
  ·omega
def hyF(L:List Ln)(e d:Nat):Nat→Nat→List Nat
 |0,_=>[]
 |m+1,n=>match L[n-1]? with
  |some x=>if n≤e∧x.hyp=true∧x.dp=d then n::hyF L e d m (n+1) else[]
  |none=>[]
def hypsR(L:List Ln)(first d:Nat):List Nat:=hyF L (endLr L first d) d (L.length+1-first) first
theorem Hyps_go(hfn:∀g ar r r',K g ar r→K g ar r'→r=r'){L:List Ln}(hlen:L.length<2^20)(ho:∀x∈L,x.op≤x.dp∧x.dp<2^20)(hsn:∀τ:St,snapshot τ (b.fz+1000) (rnsA L)=some (rnsA L))(first d:Nat)(h1:1≤first)(hf:first≤L.length)(hd:d<2^20)(e:b.ext n_rEnd=0∧b.pure n_rEnd=true)(hK:K n_rEnd [rnsA L,nI first,nI d] (nI (endLr L first d)))
  (body:ACode) (hb:c_rHyps.body=some body):GoF (b.envK K) c_rHyps.ntmps body (argF [rnsA L,nI first,nI d]) ⟨.nil,0⟩ (DoneR c_rHyps.results (slA false none ((hypsR L first d).map nI))):=by
 cases hb
 refine W.args fun z=>?_
 have H:Has (⟨.nil,0⟩:St) []:=Has.nil
 have hel:endLr L first d≤L.length:=by
  have:=(endFr_le (L:=L) (d:=d) (m:=L.length-first) (n:=first)).2
  unfold endLr;omega
 refine wk ?_
 refine GoF.block (GoF.loop (fun k F τ=>∃n w acc,n+k=L.length+1∧1≤n∧acc++hyF L (endLr L first d) d k n=hypsR L first d∧acc.length≤n∧Sl τ none w (acc.map nI)∧(acc=[]→w= .nilsl)∧sat [(0,rnsA L),(1,nI first),(2,nI d),(7,w),(8,nI n)] F) (fun k F τ hI=>?_) (L.length+1-first) ⟨first,.nilsl,[],by omega,h1,rfl,Nat.zero_le _,.nil,fun _=>rfl,rfl,rfl,rfl,rfl,rfl,trivial⟩)
 obtain⟨n,w,acc,hn,hn1,he,hal,hw,hw0,hs'⟩:=hI
 refine GoF.norm _ hs' fun F=>?_
 clear hs'
 have H:Has τ []:=Has.nil
 have out:∀ {f:Nat→AV},f 7=w→acc=hypsR L first d→GoW (b.envK K) none [] c_rHyps.ntmps (.seq (.region [⟨some 40,.mv (.t 7),none,[]⟩,⟨some 6,.mv (.t 40),none,[]⟩]) .ret) f τ (DoneR c_rHyps.results (slA false none ((hypsR L first d).map nI))):=fun {f} h5 ha=>by
  refine GoF.norm [(7,w)] ⟨h5,trivial⟩ fun g=>?_
  refine wk ?_
  rw[←ha]
  exact GoF.ret ⟨rfl,_,resA_1 (resV_v rfl),hw.frzS (n:=999) (fun h=>hw0 (List.map_eq_nil_iff.1 h)) fun x hx=>by obtain⟨t,_,rfl⟩:=List.mem_map.1 hx;rfl⟩
 refine wk ?_
 refine W.kn hfn e hK rfl rfl rfl (snaps3 (hsn _) rfl rfl) ?_
 by_cases hne:n≤endLr L first d
 ·obtain⟨m,rfl⟩:∃m,k=m+1:=⟨k-1,by omega⟩
  have hl:n-1<L.length:=by omega
  rw[hyF,List.getElem?_eq_getElem hl] at he
  have he:acc++(if n≤endLr L first d∧(L[n-1]).hyp=true∧(L[n-1]).dp=d then n::hyF L (endLr L first d) d m (n+1) else[])=hypsR L first d:=he
  refine wk ?_
  refine W.ix rfl rfl rfl rfl (rns_ix hl) ?_
  have hx:=ho _ (List.getElem_mem hl)
  generalize hxx:L[n-1]=x at he hx
  obtain⟨xd,xo,xh,xf,xr,xc⟩:=x
  cases xh with
  |false=>
   refine wk ?_
   refine GoF.exit ?_
   show GoW _ _ _ _ _ _ _ _
   exact out rfl (by rw[←he];simp)
  |true=>
   refine wk ?_
   refine W.ix rfl rfl rfl rfl (rns_ix hl) ?_
   rw[hxx]
   have hx2:xd<2^20:=hx.2
   by_cases hxd:xd=d
   ·subst hxd
    refine wk ?_
    refine W.pu (c:=[nI n]) (nI n) hw rfl rfl rfl rfl rfl rfl rfl rfl rfl (by rw[List.length_map];omega) fun v' τ3 hv3 ha3 _ n3 k3=>?_
    refine wk ?_
    refine⟨m,by omega,n+1,v',acc++[n],by omega,by omega,?_,?_,?_,?_,rfl,rfl,rfl,rfl,rfl,trivial⟩
    ·rw[←he,if_pos ⟨hne,rfl,rfl⟩];simp
    ·simp;omega
    ·simpa using hv3
    ·intro h;simp at h
   ·refine wk ?_
    refine GoF.exit ?_
    show GoW _ _ _ _ _ _ _ _
    exact out rfl (by rw[←he];simp[hxd])
 ·refine wk ?_
  refine GoF.exit ?_
  show GoW _ _ _ _ _ _ _ _
  refine out rfl ?_
  rw[←he]
  cases k with
  |zero=>simp[hyF]
  |succ m=>
   rw[hyF]
   split
   ·rw[if_neg (fun h=>hne h.1)];simp
   ·simp
end
def arF(L:List Ln)(a:Nat):Nat→Nat→Nat→Nat
 |0,_,f=>f
 |m+1,k,f=>match L[k-1]? with
  |some x=>arF L a m (k+1) (if x.dp-x.op<a∧a≤x.dp then k else f)
  |none=>f
abbrev arL(L:List Ln)(n a:Nat):Nat:=arF L a n 1 0
def aroundR(L:List Ln)(n:Nat):List Nat:=(List.range' 1 ((L[n-1]?.map (·.dp)).getD 0)).map (arL L n)
section
variable {b:Base}{K:Nat→List AV→AV→Prop}
theorem Around_st(hh:Here (b.envK K) n_rAround c_rAround){σ:St}{L:List Ln}(hlen:L.length<2^20)(ho:∀x∈L,x.op≤x.dp∧x.dp<2^20)(n:Nat)(h1:1≤n)(hn:n≤L.length):
  GoesCall (b.envK K) 0 (.f (.func n_rAround) [] []) [rnsA L,nI n] σ (fun r τ=>∃w,r= .ok w∧Sl τ none w ((aroundR L n).map nI)∧Mr σ τ∧(∀c,w.at? =some c→σ.next≤c)):=by
 refine W.code hh.e hh.p hh.f rfl rfl rfl rfl fun z=>?_
 have H:Has σ []:=Has.nil
 have hl:n-1<L.length:=by omega
 have hx:=ho _ (List.getElem_mem hl)
 have har:aroundR L n=(List.range' 1 (L[n-1]).dp).map (arL L n):=by rw[aroundR,List.getElem?_eq_getElem hl];rfl
 rw[har]
 refine wk ?_
 refine GoF.block (GoF.loop (fun k F τ=>∃a w acc,a+k=(L[n-1]).dp+1∧1≤a∧acc++(List.range' a k).map (arL L n)=(List.range' 1 (L[n-1]).dp).map (arL L n)∧acc.length≤a∧Sl τ none w (acc.map nI)∧Mr σ τ∧(∀c,w.at? =some c→σ.next≤c)∧sat [(0,rnsA L),(1,nI n),(5,w),(6,nI a)] F) (fun k F τ hI=>?_) (L[n-1]).dp ⟨1,.nilsl,[],by omega,by omega,rfl,Nat.zero_le _,.nil,⟨Nat.le_refl _,fun _ _ h=>h⟩,(fun _ h=>by cases h),rfl,rfl,rfl,rfl,trivial⟩)
 obtain⟨a,w,acc,ha,ha1,he,hal,hw,M,hwo,hs'⟩:=hI
 refine GoF.norm _ hs' fun F=>?_
 clear hs'
 have H:Has τ []:=Has.nil
 refine wk ?_
 refine W.ix rfl rfl rfl rfl (rns_ix hl) ?_
 by_cases hle:a≤(L[n-1]).dp
 ·obtain⟨m,rfl⟩:∃m,k=m+1:=⟨k-1,by omega⟩
  refine wk ?_
  show GoW _ _ _ _ _ _ _ _
  refine GoF.block (GoF.loop (fun k F τ=>∃j f,j+k=n+1∧1≤j∧f<j∧arF L a k j f=arL L n a∧Sl τ none w (acc.map nI)∧Mr σ τ∧sat [(0,rnsA L),(1,nI n),(5,w),(6,nI a),(7,nI f),(8,nI j)] F) (fun k F τ hI=>?_) n ⟨1,0,by omega,by omega,by omega,rfl,hw,M,rfl,rfl,rfl,rfl,rfl,rfl,trivial⟩)
  obtain⟨j,f,hj,hj1,hfj,hje,hw,M,hs'⟩:=hI
  refine GoF.norm _ hs' fun F=>?_
  clear hs'
  have H:Has τ []:=Has.nil
  by_cases hjn:j≤n
  ·obtain⟨q,rfl⟩:∃q,k=q+1:=⟨k-1,by omega⟩
   have hjl:j-1<L.length:=by omega
   rw[arF,List.getElem?_eq_getElem hjl] at hje
   have hje:arF L a q (j+1) (if(L[j-1]).dp-(L[j-1]).op<a∧a≤(L[j-1]).dp then j else f)=arL L n a:=hje
   have hy:=ho _ (List.getElem_mem hjl)
   refine wk ?_
   refine W.ix rfl rfl rfl rfl (rns_ix hjl) ?_
   refine wk ?_
   refine W.ix rfl rfl rfl rfl (rns_ix hjl) ?_
   have hix:=rns_ix hjl
   generalize L[j-1]=x at hje hy hix
   have hs:x.dp-x.op<2^20:=by omega
   by_cases hc1:x.dp-x.op<a
   ·refine wk ?_
    refine W.ix rfl rfl rfl rfl hix ?_
    by_cases hc2:a≤x.dp
    ·rw[if_pos ⟨hc1,hc2⟩] at hje
     refine wk ?_
     exact⟨q,by omega,j+1,j,by omega,by omega,by omega,hje,hw,M,rfl,rfl,rfl,rfl,rfl,rfl,trivial⟩
    ·rw[if_neg (fun h=>hc2 h.2)] at hje
     refine wk ?_
     exact⟨q,by omega,j+1,f,by omega,by omega,by omega,hje,hw,M,rfl,rfl,rfl,rfl,rfl,rfl,trivial⟩
   ·rw[if_neg (fun h=>hc1 h.1)] at hje
    refine wk ?_
    exact⟨q,by omega,j+1,f,by omega,by omega,by omega,hje,hw,M,rfl,rfl,rfl,rfl,rfl,rfl,trivial⟩
  ·refine wk ?_
   refine GoF.exit ?_
   show GoW _ _ _ _ _ _ _ _
   have:k=0:=by omega
   subst this
   have hje:f=arL L n a:=hje
   subst hje
   refine wk ?_
   refine W.pu (c:=[nI (arL L n a)]) (nI (arL L n a)) hw rfl rfl rfl rfl rfl rfl rfl rfl rfl (by rw[List.length_map];omega) fun v' τ3 hv3 ha3 _ n3 k3=>?_
   refine wk ?_
   refine⟨m,by omega,a+1,v',acc++[arL L n a],by omega,by omega,?_,?_,?_,⟨by have:=M.1;omega,fun i o ho=>k3 i o (fun e=>by have:=hwo _ e;have:=St.get_lt ho;omega) (M.2 i o ho)⟩,fun c h=>by rw[ha3] at h;cases h;have:=M.1;omega,rfl,rfl,rfl,rfl,trivial⟩
   ·rw[←he,List.range'_succ];simp
   ·simp;omega
   ·simpa using hv3
 ·refine wk ?_
  refine GoF.exit ?_
  show GoW _ _ _ _ _ _ _ _
  refine wk ?_
  have:k=0:=by omega
  subst this
  rw[←he]
  simp only[List.range'_zero,List.map_nil,List.append_nil]
  exact GoF.ret ⟨rfl,w,rfl,hw,M,hwo⟩
end
def canBoxR(L:List Ln)(c:Nat×Nat)(n:Nat):Bool:=match L[c.2-1]?,L[c.1-1]?,L[n-1]? with
 |some y,some x,some z=>!(decide (y.dp≤x.dp-x.op)||decide (x.dp<y.dp)||decide (n≤c.2)||decide (endLr L c.1 y.dp≠c.2)||decide (z.dp≠y.dp-1))&&(List.range z.dp).all fun i=>(aroundR L c.1)[i]? ==(aroundR L n)[i]?
 |_,_,_=>false
section
variable {b:Base}{K:Nat→List AV→AV→Prop}
theorem CanBox_go(hfn:∀g ar r r',K g ar r→K g ar r'→r=r'){L:List Ln}(hlen:L.length<2^20)(ho:∀x∈L,x.op≤x.dp∧x.dp<2^20)(hsn:∀τ:St,snapshot τ (b.fz+1000) (rnsA L)=some (rnsA L))(hse:∀x∈L,AV.eqb (b.fz+1000) (rnA x) (rnA x)=true)(c:Nat×Nat)(hc1:1≤c.1∧c.1≤L.length)(hc2:1≤c.2∧c.2≤L.length)(n:Nat)(h1:1≤n)(hn:n≤L.length)
  (eE:b.ext n_rEnd=0∧b.pure n_rEnd=true) (hA:Here (b.envK K) n_rAround c_rAround)
  (kE:∀first d,first≤L.length→d<2^20→K n_rEnd [rnsA L,nI first,nI d] (nI (endLr L first d)))
  (body:ACode) (hb:c_rCanBox.body=some body):
  GoF (b.envK K) c_rCanBox.ntmps body (argF [rnsA L,.ag [nI c.1,nI c.2],nI n]) ⟨.nil,0⟩ (DoneR c_rCanBox.results (.b (canBoxR L c n))):=by
 cases hb
 refine W.args fun z=>?_
 have H:Has (⟨.nil,0⟩:St) []:=Has.nil
 obtain⟨c1,c2⟩:=c
 have l1:c1-1<L.length:=by omega
 have l2:c2-1<L.length:=by omega
 have ln:n-1<L.length:=by omega
 refine wk ?_
 refine W.bx (c:=[nI c1,nI c2]) H rfl rfl rfl rfl rfl rfl fun τ n1 H k1=>?_
 refine wk ?_
 refine W.ix rfl rfl rfl rfl (rns_ix l2) ?_
 refine wk ?_
 refine W.pw (v:=nI (L[c2-1]).dp) rfl rfl rfl (fun s=>rfl) (eqb1 rfl) ?_
 refine wk ?_
 refine W.ix rfl rfl rfl rfl (rns_ix l1) ?_
 refine wk ?_
 refine W.pw (v:=rnA L[c1-1]) rfl rfl rfl (fun s=>op_load _ _ rfl rfl) (hse _ (List.getElem_mem l1)) ?_
 refine wk ?_
 refine W.al (c:=[nI 0,nI 0,.b false,.i .u8 0,.s [],.nilsl,.nilsl,.s [],.nilsl]) H n1 rfl rfl rfl fun τ2 n2 H k2=>?_
 refine wk ?_
 refine W.st (c':=rnC L[c1-1] (slA true (some 2) (L[c1-1].cs.map fun c=>.ag [nI c.1,nI c.2]))) H 0 rfl rfl rfl rfl rfl rfl fun τ3 n3 H k3=>?_
 refine wk ?_
 have hcb:canBoxR L (c1,c2) n=(!(decide (L[c2-1].dp≤L[c1-1].dp-L[c1-1].op)||decide (L[c1-1].dp<L[c2-1].dp)||decide (n≤c2)||decide (endLr L c1 L[c2-1].dp≠c2)||decide (L[n-1].dp≠L[c2-1].dp-1))&&(List.range L[n-1].dp).all fun i=>(aroundR L c1)[i]? ==(aroundR L n)[i]?):=by
  simp only[canBoxR,List.getElem?_eq_getElem l1,List.getElem?_eq_getElem l2,List.getElem?_eq_getElem ln]
 rw[hcb]
 have hx1:=ho _ (List.getElem_mem l1)
 have hx2:=ho _ (List.getElem_mem l2)
 have hx3:=ho _ (List.getElem_mem ln)
 have hiz:=rns_ix ln
 have hkE:=kE c1 (L[c2-1]).dp hc1.2 hx2.2
 have hlA:(aroundR L c1).length=(L[c1-1]).dp:=by simp[aroundR,List.getElem?_eq_getElem l1]
 have hlB:(aroundR L n).length=(L[n-1]).dp:=by simp[aroundR,List.getElem?_eq_getElem ln]
 generalize L[c2-1]=y at hx2 hkE
 generalize L[c1-1]=x at hx1 H hlA
 obtain⟨xd,xo,xh,xf,xr,xc⟩:=x
 have hx1:xo≤xd∧xd<2^20:=hx1
 show GoM _ _ _ _ _ _ _ _ fun _ _ _=>_
 by_cases a1:y.dp≤xd-xo
 ·simp only[decide_eq_true a1,Bool.true_or,Bool.not_true,Bool.false_and]
  refine wk ?_
  exact GoF.ret ⟨rfl,_,resA_1 (resV_v rfl),rfl⟩
 have a1':decide (y.dp≤xd-xo)=false:=decide_eq_false a1
 by_cases a2:xd<y.dp
 ·refine wk ?_
  simp only[decide_eq_true a2,Bool.or_true,Bool.true_or,Bool.not_true,Bool.false_and]
  exact GoF.ret ⟨rfl,_,resA_1 (resV_v rfl),rfl⟩
 by_cases a3:n≤c2
 ·refine wk ?_
  simp only[decide_eq_true a3,Bool.or_true,Bool.true_or,Bool.not_true,Bool.false_and]
  exact GoF.ret ⟨rfl,_,resA_1 (resV_v rfl),rfl⟩
 refine wk ?_
 refine W.kn hfn eE hkE rfl rfl rfl (snaps3 (hsn _) rfl rfl) ?_
 generalize endLr L c1 y.dp=e
 by_cases a4:e=c2
 case neg=>
  refine wk ?_
  simp only[decide_eq_true a4,Bool.or_true,Bool.true_or,Bool.not_true,Bool.false_and]
  exact GoF.ret ⟨rfl,_,resA_1 (resV_v rfl),rfl⟩
 subst a4
 refine wk ?_
 refine W.ix rfl rfl rfl rfl hiz ?_
 generalize L[n-1]=z' at hx3 hiz hlB
 have hy1:1≤y.dp:=by omega
 by_cases a5:z'.dp=y.dp-1
 case neg=>
  refine wk ?_
  simp only[decide_eq_true a5,Bool.or_true,Bool.true_or,Bool.not_true,Bool.false_and]
  exact GoF.ret ⟨rfl,_,resA_1 (resV_v rfl),rfl⟩
 refine wk ?_
 rw[a5]
 refine wk ?_
 refine W.cy rfl rfl rfl (Around_st hA hlen ho c1 hc1.1 hc1.2) fun r τ4 ⟨wA,e4,hwA,M4,_⟩=>⟨_,e4,?_⟩
 have H:=H.keep M4.2
 refine wk ?_
 refine W.cy rfl rfl rfl (Around_st hA hlen ho n h1 hn) fun r τ5 ⟨wB,e5,hwB,M5,_⟩=>⟨_,e5,?_⟩
 have H:=H.keep M5.2
 have hwA:=hwA.keep (τ:=τ5) fun i o _ ho=>M5.2 _ _ ho
 have hlA:(aroundR L c1).length=xd:=hlA
 have hlB:(aroundR L n).length=y.dp-1:=hlB.trans a5
 have hxy:y.dp≤xd:=by omega
 generalize aroundR L c1=A at hlA hwA
 generalize aroundR L n=B at hlB hwB
 refine wk ?_
 have hv:(!(decide (y.dp≤xd-xo)||decide (xd<y.dp)||decide (n≤e)||decide (e≠e)||decide (y.dp-1≠y.dp-1))&&(List.range (y.dp-1)).all fun i=>A[i]? ==B[i]?)=(List.range (y.dp-1)).all fun i=>A[i]? ==B[i]? :=by
  simp[a1,a2,a3]
 refine GoF.block (GoF.loop (fun k F τ=>∃i,i+k=y.dp-1∧(∀j<i,A[j]? =B[j]?)∧τ=τ5∧sat [(9,wA),(10,wB),(11,nI i)] F) (fun k F τ hI=>?_) (y.dp-1) ⟨0,by omega,fun j h=>absurd h (Nat.not_lt_zero _),rfl,rfl,rfl,rfl,trivial⟩)
 obtain⟨i,hi,he,rfl,hs'⟩:=hI
 have nA:=hwA.nv
 have nB:=hwB.nv
 refine GoF.norm _ hs' fun F=>?_
 clear hs'
 have H:Has τ []:=Has.nil
 refine wk ?_
 by_cases hiB:i<y.dp-1
 ·obtain⟨m,rfl⟩:∃m,k=m+1:=⟨k-1,by omega⟩
  have g1:i<A.length:=by omega
  have g2:i<B.length:=by omega
  have hne:(A[i]? =B[i]?)↔A[i]=B[i]:=by rw[List.getElem?_eq_getElem g1,List.getElem?_eq_getElem g2,Option.some_inj]
  refine wk ?_
  by_cases hAB:A[i]=B[i]
  ·rw[hAB]
   refine wk ?_
   refine⟨m,by omega,i+1,by omega,fun j hj=>?_,rfl,rfl,rfl,rfl,trivial⟩
   rcases Nat.lt_succ_iff_lt_or_eq.1 hj with h|h
   ·exact he j h
   ·subst h;exact hne.2 hAB
  ·have hF:(List.range (y.dp-1)).all (fun i=>A[i]? ==B[i]?)=false:=by
    rw[List.all_eq_false]
    exact⟨i,List.mem_range.2 hiB,by simpa [hne] using hAB⟩
   refine wk ?_
   refine GoF.ret ⟨rfl,.b false,resA_1 (resV_v rfl),?_⟩
   exact congrArg (fun t=>some (AV.b t)) (hv.trans hF).symm
 ·have hT:(List.range (y.dp-1)).all (fun i=>A[i]? ==B[i]?)=true:=by
   rw[List.all_eq_true]
   intro j hj
   have:=he j (by have:=List.mem_range.1 hj;omega)
   simpa using this
  refine wk ?_
  refine GoF.exit ?_
  show GoW _ _ _ _ _ _ _ _
  refine wk ?_
  refine GoF.ret ⟨rfl,.b true,resA_1 (resV_v rfl),?_⟩
  exact congrArg (fun t=>some (AV.b t)) (hv.trans hT).symm
end
def mcR(L:List Ln)(k:Nat)(c:Nat×Nat):List Nat:=c.2::cond (canBoxR L c k) (c.1::hypsR L c.1 ((L[c.2-1]?.map (·.dp)).getD 0)) []
def mkR(L:List Ln)(k:Nat):List Nat:=aroundR L k++((L[k-1]?.map (·.cs)).getD []).flatMap (mcR L k)
inductive Rch(L:List Ln):Nat→Prop
 |top:Rch L L.length
 |step {k m:Nat}:1≤k→k≤L.length→Rch L k→m∈mkR L k→Rch L m
structure MkS(L:List Ln)(S:List Bool):Prop where
 len:S.length=L.length+1
 top:S[L.length]? =some true
 rch:∀n,S[n]? =some true→Rch L n
theorem MkS.set{L:List Ln}{S:List Bool}(h:MkS L S){n:Nat}(hn:Rch L n):MkS L (S.set n true):=by
 refine⟨by rw[List.length_set];exact h.len,?_,fun m hm=>?_⟩
 ·rw[List.getElem?_set]
  split
  ·next e=>subst e;rw[if_pos (by have:=h.len;omega)]
  ·exact h.top
 ·rw[List.getElem?_set] at hm
  split at hm
  ·next e=>exact e▸hn
  ·exact h.rch m hm
theorem cf_set:∀ {S:List Bool} {n:Nat},S[n]? =some false→(S.set n true).countP (· ==false)+1=S.countP (· ==false)
 |[],n,h=>by simp at h
 |x::S,0,h=>by
  have:x=false:=by simpa using h
  subst this
  simp[List.countP_cons]
 |x::S,n+1,h=>by
  have h:S[n]? =some false:=by simpa using h
  have:=cf_set h
  rw[List.set_cons_succ,List.countP_cons,List.countP_cons]
  omega
theorem newOf_1{σ:St}{id:Nat}{sh cap:Option Nat}{y:AV}(hg:σ.get id=some (.cells y.cells))(hc:conf sh y=true):newOf σ (.sl id 0 1 sh cap)=some [y]:=by
 show readList σ (.sl id 0 1 sh cap)=_
 show(match σ.get id with|some (.cells c)=>elems sh 1 (c.drop 0)|_=>none)=_
 rw[hg]
 have:=elems_flat (sh:=sh) (xs:=[y]) (r:=[]) (by intro w hw;rw[List.mem_singleton.1 hw];exact hc)
 simpa using this
theorem hyF_len{L:List Ln}{e d:Nat}:∀ {m n:Nat},(hyF L e d m n).length≤m
 |0,n=>Nat.le_refl _
 |m+1,n=>by
  rw[hyF]
  split
  ·split
   ·have:=hyF_len (L:=L) (e:=e) (d:=d) (m:=m) (n:=n+1);simp;omega
   ·simp
  ·simp
theorem hypsR_len{L:List Ln}{f d:Nat}:(hypsR L f d).length≤L.length+1-f:=hyF_len
def Cls(L:List Ln)(S:List Bool)(n:Nat):Prop:=∀k,n<k→k≤L.length→S[k]? =some true→∀m∈mkR L k,S[m]? =some true
theorem flat_b:∀S:List Bool,(S.map AV.b).flatMap AV.cells=S.map AV.b
 |[]=>rfl
 |x::l=>congrArg (AV.b x:: ·) (flat_b l)
section
variable {b:Base}{K:Nat→List AV→AV→Prop}
theorem Needed_go(hfn:∀g ar r r',K g ar r→K g ar r'→r=r')(hA:Here (b.envK K) n_rAround c_rAround){L:List Ln}(h0:L≠[])(hlen:L.length<2^20)(ho:∀x∈L,x.op≤x.dp∧x.dp<2^20)
  (hsn:∀τ:St,snapshot τ (b.fz+1000) (rnsA L)=some (rnsA L)) (hcl:∀x∈L,x.cs.length<2^20) (hcs:∀x∈L,∀c∈x.cs,1≤c.1∧c.1≤L.length∧1≤c.2∧c.2≤L.length)
  (eC:b.ext n_rCanBox=0∧b.pure n_rCanBox=true) (eH:b.ext n_rHyps=0∧b.pure n_rHyps=true)
  (kC:∀c k,1≤c.1∧c.1≤L.length→1≤c.2∧c.2≤L.length→1≤k→k≤L.length→K n_rCanBox [rnsA L,.ag [nI c.1,nI c.2],nI k] (.b (canBoxR L c k)))
  (kH:∀first d,1≤first→first≤L.length→d<2^20→K n_rHyps [rnsA L,nI first,nI d] (slA false none ((hypsR L first d).map nI)))
  (hm:∀k,1≤k→k≤L.length→∀m∈mkR L k,m≤L.length)
  (S0:List Bool) (hS0:∀S,MkS L S→Cls L S 0→S=S0) (body:ACode) (hb:c_rNeeded.body=some body):GoF (b.envK K) c_rNeeded.ntmps body (argF [rnsA L]) ⟨.nil,0⟩ (DoneR c_rNeeded.results (slA false none (S0.map AV.b))):=by
 cases hb
 obtain⟨σ,hσ⟩:∃σ:St,σ=⟨.nil,0⟩:=⟨_,rfl⟩
 rw[←hσ]
 clear hσ
 refine W.args fun z=>?_
 have H:Has σ []:=Has.nil
 generalize hq:σ.next=q
 refine wk ?_
 refine W.len rfl rfl rfl rns_len ?_
 refine wk ?_
 refine W.mk H hq (by omega) (by omega) rfl rfl rfl rfl fun τ1 n1 H k1=>?_
 refine wk ?_
 refine W.len rfl rfl rfl rns_len ?_
 refine wk ?_
 refine W.ix rfl rfl rfl rfl (idxSlA_sl (by omega)) ?_
 have hl0:L.length<(List.replicate (L.length+1) false).length:=by rw[List.length_replicate];omega
 have H:Has τ1 [(q,(List.replicate (L.length+1) false).map AV.b)]:=by rw[List.map_replicate];exact H
 refine W.st (c':=((List.replicate (L.length+1) false).set L.length true).map AV.b) H 0 rfl rfl rfl rfl rfl (store_bl hl0) fun τ2 n2 H k2=>?_
 have hS00:MkS L ((List.replicate (L.length+1) false).set L.length true):=by
  refine⟨by simp,by rw[List.getElem?_set,if_pos rfl,if_pos hl0],fun n hn=>?_⟩
  rw[List.getElem?_set] at hn
  split at hn
  ·next e=>exact e▸ .top
  ·rw[List.getElem?_replicate] at hn
   split at hn<;>cases hn
 generalize(List.replicate (L.length+1) false).set L.length true=S at hS00 H
 have M2:Mr σ τ2:=⟨by omega,fun i o h=>k2 _ _ (by have:=St.get_lt h;omega) (k1 _ _ h)⟩
 refine wk ?_
 have hq2:τ2.get q=some (.cells (S.map AV.b)):=H.get _ (.head _)
 refine GoF.block (GoF.loop (fun k F τ=>∃S mo,MkS L S∧(mo=true→S.countP (· ==false)+1≤k)∧(mo=false→Cls L S 0)∧τ.get q=some (.cells (S.map AV.b))∧Mr σ τ∧q<τ.next∧sat [(0,rnsA L),(3,.sl q 0 (L.length+1) none (some (L.length+1))),(4,.b mo)] F) (fun k F τ hI=>?_) (S.countP (· ==false)+1) ⟨S,true,hS00,fun _=>Nat.le_refl _,(fun h=>by cases h),hq2,M2,by omega,rfl,rfl,rfl,trivial⟩)
 clear M2 hq2 H k1 k2 n1 n2 hS00
 obtain⟨S,mo,hS,hmt,hmf,hg,M,hnx,hs'⟩:=hI
 refine GoF.norm _ hs' fun F=>?_
 clear hs'
 have H:Has τ []:=Has.nil
 cases mo with
 |false=>
  refine wk ?_
  refine GoF.exit ?_
  show GoW _ _ _ _ _ _ _ _
  refine wk ?_
  have hS1:=hS0 S hS (hmf rfl)
  have hsl:Sl τ none (.sl q 0 (S.map AV.b).length none (some (S.map AV.b).length)) (S.map AV.b):=.sl q _ (S.map AV.b) [] (by rw[hg,List.append_nil];exact congrArg (fun x=>some (AO.cells x)) (flat_b S).symm) (fun y hy=>by obtain⟨t,_,rfl⟩:=List.mem_map.1 hy;rfl) (.inr rfl)
  rw[show(S.map AV.b).length=L.length+1 from by rw[List.length_map];exact hS.len] at hsl
  rw[←hS1]
  exact GoF.ret ⟨rfl,_,resA_1 (resV_v rfl),hsl.frzS (n:=999) (fun h=>by have:=congrArg List.length h;rw[List.length_map,hS.len] at this;cases this) fun x hx=>by obtain⟨t,_,rfl⟩:=List.mem_map.1 hx;rfl⟩
 |true=>
  have hmt:=hmt rfl
  refine wk ?_
  refine W.len rfl rfl rfl rns_len ?_
  refine wk ?_
  refine GoF.block (GoF.loop (fun n F τ=>∃S' mo,n≤L.length∧MkS L S'∧(mo=false→S'=S∧Cls L S n)∧(mo=true→S'.countP (· ==false)+1≤S.countP (· ==false))∧τ.get q=some (.cells (S'.map AV.b))∧Mr σ τ∧q<τ.next∧sat [(0,rnsA L),(3,.sl q 0 (L.length+1) none (some (L.length+1))),(4,.b mo),(5,nI n)] F) (fun n F τ hI=>?_) L.length ⟨S,false,Nat.le_refl _,hS,fun _=>⟨rfl,fun k h1 h2=>by omega⟩,(fun h=>by cases h),hg,M,hnx,rfl,rfl,rfl,rfl,trivial⟩)
  clear hg M hnx
  obtain⟨S',mo,hn,hS',hf1,ht1,hg,M,hnx,hs'⟩:=hI
  refine GoF.norm _ hs' fun F=>?_
  clear hs'
  have H:Has τ [(q,S'.map AV.b)]:=Has.nil.cons hg (by simp)
  cases n with
  |zero=>
   refine wk ?_
   refine GoF.exit ?_
   refine⟨k-1,by omega,S',mo,hS',fun h=>by have:=ht1 h;omega,fun h=>?_,hg,M,hnx,rfl,rfl,rfl,trivial⟩
   obtain⟨e,h⟩:=hf1 h
   exact e▸h
  |succ n=>
   have hnS:n+1<S'.length:=by have:=hS'.len;omega
   refine wk ?_
   refine W.ix rfl rfl rfl rfl (idxSlA_sl (by omega)) ?_
   refine W.ld H rfl rfl rfl (.head _) (take_bl hnS) ?_
   cases hb:S'[n+1] with
   |false=>
    refine wk ?_
    refine GoF.exit ?_
    show GoW _ _ _ _ _ _ _ _
    refine wk ?_
    refine⟨n,by omega,S',mo,by omega,hS',fun h=>?_,ht1,hg,M,hnx,rfl,rfl,rfl,rfl,trivial⟩
    obtain⟨e,h⟩:=hf1 h
    refine⟨e,fun k' h1 h2 h3=>?_⟩
    by_cases hk:k'=n+1
    ·subst hk
     rw[←e,List.getElem?_eq_getElem hnS,hb] at h3
     cases h3
    ·exact h k' (by omega) h2 h3
   |true=>
    refine wk ?_
    refine W.cy rfl rfl rfl (Around_st hA hlen ho (n+1) (by omega) hn) fun r τ3 ⟨w,e,hw,M3,hwo⟩=>⟨w,e,?_⟩
    have hg3:=M3.2 _ _ hg
    have hl:n<L.length:=by omega
    have har:(aroundR L (n+1)).length=(L[n]).dp:=by simp[aroundR,List.getElem?_eq_getElem hl]
    have hix:idxSlA (some 9) (rnsA L) (n+1-1)=some (.tp true (rnA L[n])):=rns_ix hl
    have hx:=ho _ (List.getElem_mem hl)
    have hxc:=hcl _ (List.getElem_mem hl)
    have hxs:=hcs _ (List.getElem_mem hl)
    have hmk:mkR L (n+1)=aroundR L (n+1)++(L[n]).cs.flatMap (mcR L (n+1)):=by
     show _++((L[n]?.map (·.cs)).getD []).flatMap _=_
     rw[List.getElem?_eq_getElem hl];rfl
    refine wk ?_
    refine GoF.block (GoF.loop (fun k' F τ=>∃i w ms,i+k'=(L[n]).cs.length∧ms=aroundR L (n+1)++((L[n]).cs.take i).flatMap (mcR L (n+1))∧ms.length≤1048576+i*1048578∧Sl τ none w (ms.map nI)∧τ.get q=some (.cells (S'.map AV.b))∧Mr σ τ∧q<τ.next∧(∀c,w.at? =some c→q<c)∧sat [(0,rnsA L),(3,.sl q 0 (L.length+1) none (some (L.length+1))),(4,.b mo),(5,nI (n+1)),(6,w),(7,nI i)] F) (fun k' F τ hI=>?_) (L[n]).cs.length ⟨0,w,aroundR L (n+1),by omega,by simp,by rw[har];omega,hw,hg3,⟨by have:=M.1;have:=M3.1;omega,fun i o h=>M3.2 _ _ (M.2 _ _ h)⟩,by have:=M3.1;omega,fun c h=>by have:=hwo c h;omega,rfl,rfl,rfl,rfl,rfl,rfl,trivial⟩)
    clear hg hg3 M3 hw hwo H e
    have M0:=M
    clear M hnx
    obtain⟨i,w,ms,hi,hms,hml,hw,hg,M,hnx,hwo,hs'⟩:=hI
    refine GoF.norm _ hs' fun F=>?_
    clear hs'
    have H:Has τ []:=Has.nil
    refine wk ?_
    refine W.ix rfl rfl rfl rfl hix ?_
    generalize L[n]=x at *
    by_cases hic:i<x.cs.length
    ·obtain⟨j,rfl⟩:∃j,k'=j+1:=⟨k'-1,by omega⟩
     refine wk ?_
     refine W.ix rfl rfl rfl rfl hix ?_
     refine wk ?_
     have hxi:=hxs _ (List.getElem_mem hic)
     have htk:=List.take_succ_eq_append_getElem hic
     generalize x.cs[i]=c at hxi htk
     obtain⟨c1,c2⟩:=c
     refine W.al (c:=[nI 0,nI 0]) H rfl rfl rfl rfl fun τ4 n4 H k4=>?_
     refine W.st (c':=[nI c1,nI c2]) H 0 rfl rfl rfl rfl rfl rfl fun τ5 n5 H k5=>?_
     refine wk ?_
     have k45:∀i o,τ.get i=some o→τ5.get i=some o:=fun i o h=>k5 _ _ (by have:=St.get_lt h;omega) (k4 _ _ h)
     have hw5:=hw.keep (τ:=τ5) fun i o _=>k45 i o
     refine W.pu (c:=[nI c2]) (nI c2) hw5 rfl rfl rfl rfl rfl rfl rfl rfl rfl (by rw[List.length_map];omega) fun v6 τ6 hv6 ha6 hc6 n6 k6=>?_
     have hwn:∀o,w.at? =some o→o<τ.next:=fun o ho=>hw.lt ho
     generalize hr:τ.next=r at *
     have H:Has τ6 [(r,[nI c1,nI c2])]:=Has.nil.cons (k6 _ _ (fun e=>by have:=hwn _ e;omega) (H.get _ (.head _))) (by simp)
     refine wk ?_
     refine W.kn hfn eC (kC (c1,c2) (n+1) ⟨hxi.1,hxi.2.1⟩ hxi.2.2 (by omega) hn) rfl rfl rfl (snaps3 (hsn _) rfl rfl) ?_
     cases hcb:canBoxR L (c1,c2) (n+1) with
     |false=>
      refine wk ?_
      refine⟨j,by omega,i+1,v6,ms++[c2],by omega,?_,?_,?_,k6 _ _ (fun e=>by have:=hwo _ e;omega) (k45 _ _ hg),⟨by have:=M.1;omega,fun i o ho=>k6 _ _ (fun e=>by have:=hwo _ e;have:=St.get_lt ho;omega) (k45 _ _ (M.2 _ _ ho))⟩,by omega,fun c h=>by rw[ha6] at h;cases h;omega,rfl,rfl,rfl,rfl,rfl,rfl,trivial⟩
      ·rw[htk,List.flatMap_append,← List.append_assoc,← hms]
       simp[mcR,hcb]
      ·rw[List.length_append,List.length_singleton];omega
      ·rw[List.map_append];exact hv6
     |true=>
      have hl2:c2-1<L.length:=by omega
      refine wk ?_
      refine W.bs (c:=[nI c1]) H rfl rfl rfl rfl fun τ7 n7 H k7=>?_
      have hv7:=hv6.keep (τ:=τ7) fun i o _=>k7 i o
      refine wk ?_
      refine W.ix rfl rfl rfl rfl (rns_ix hl2) ?_
      refine wk ?_
      refine W.pw (v:=nI (L[c2-1]).dp) rfl rfl rfl (fun s=>rfl) (eqb1 rfl) ?_
      refine wk ?_
      refine W.ap (nI c1) [] hv7 (newOf_1 (y:=nI c1) (H.get _ (.head _)) rfl) (fun z hz=>by rw[List.mem_singleton.1 hz];rfl) (by rw[List.length_append,List.length_map];simp only[List.length_singleton];omega) rfl rfl rfl rfl fun v8 τ8 hv8 ha8 hc8 n8 k8=>?_
      have hr7:τ7.get r=some (.cells [nI c1,nI c2]):=H.get _ (.tail _ (.head _))
      have H:Has τ8 [(r,[nI c1,nI c2])]:=Has.nil.cons (k8 _ _ (fun e=>by rw[ha6] at e;cases e;omega) hr7) (by simp)
      refine wk ?_
      refine W.kn hfn eH (kH c1 (L[c2-1]).dp (by omega) (by omega) (ho _ (List.getElem_mem hl2)).2) rfl rfl rfl (snaps3 (hsn _) rfl rfl) ?_
      have hd2:(L[c2-1]?.map (·.dp)).getD 0=(L[c2-1]).dp:=by rw[List.getElem?_eq_getElem hl2];rfl
      have hmc:mcR L (n+1) (c1,c2)=c2::c1::hypsR L c1 (L[c2-1]).dp:=by simp[mcR,hcb,hd2]
      cases hhy:hypsR L c1 (L[c2-1]).dp with
      |nil=>
       refine W.val (v:=v8) (σ':=τ8) rfl rfl ?_ ?_
       ·show(match appendO 0 τ8 none 8 v8 .nilsl with|some (v,σ)=>some (OpR.val v σ)|none=>none)=_
        have e:appendO 0 τ8 none 8 v8 .nilsl=some (v8,τ8):=by
         unfold appendO
         rw[hv8.read]
         have hc:∀l:List Nat,allB (conf none) (l.map nI)=true:=fun l=>by
          induction l with
          |nil=>rfl
          |cons a l ih=>exact ih
         have el:ms.map nI++[nI c2]++[nI c1]=(ms++[c2]++[c1]).map nI:=by simp
         have hb:Nat.ble ((3*(((ms++[c2]++[c1]).map nI).length+([]:List AV).length)+2000)*8) 281474976710656=true:=Nat.ble_eq_true_of_le (by simp;omega)
         rw[el]
         show cond (allB (conf none) ((ms++[c2]++[c1]).map nI)&&allB (conf none) []&&Nat.ble ((3*(((ms++[c2]++[c1]).map nI).length+([]:List AV).length)+2000)*8) 281474976710656) _ _=_
         rw[hb,hc]
         rfl
        rw[e]
       refine wk ?_
       refine⟨j,by omega,i+1,v8,ms++[c2,c1],by omega,?_,?_,?_,(k8 _ _ (fun e=>by rw[ha6] at e;cases e;omega) (k7 _ _ (k6 _ _ (fun e=>by have:=hwo _ e;omega) (k45 _ _ hg)))),⟨by have:=M.1;omega,fun i o ho=>(k8 _ _ (fun e=>by rw[ha6] at e;cases e;have:=St.get_lt ho;have:=M.1;omega) (k7 _ _ (k6 _ _ (fun e=>by have:=hwo _ e;have:=St.get_lt ho;omega) (k45 _ _ (M.2 _ _ ho)))))⟩,by omega,fun c h=>by rw[ha8] at h;cases h;omega,rfl,rfl,rfl,rfl,rfl,rfl,trivial⟩
       ·rw[htk,List.flatMap_append,← List.append_assoc,← hms]
        simp[hmc,hhy]
       ·simp;omega
       ·simpa using hv8
      |cons y ys=>
       refine wk ?_
       refine W.ap (nI y) (ys.map nI) hv8 rfl (fun z hz=>by obtain⟨t,_,rfl⟩:=List.mem_map.1 (show z∈(y::ys).map nI from hz);rfl) ?_ rfl rfl rfl rfl fun v9 τ9 hv9 ha9 hc9 n9 k9=>?_
       ·have:=hypsR_len (L:=L) (f:=c1) (d:=(L[c2-1]).dp);rw[hhy] at this;simp at this ⊢;omega
       refine wk ?_
       refine⟨j,by omega,i+1,v9,ms++c2::c1::y::ys,by omega,?_,?_,?_,k9 _ _ (fun e=>by rw[ha8] at e;cases e;omega) (k8 _ _ (fun e=>by rw[ha6] at e;cases e;omega) (k7 _ _ (k6 _ _ (fun e=>by have:=hwo _ e;omega) (k45 _ _ hg)))),⟨by have:=M.1;omega,fun i o ho=>k9 _ _ (fun e=>by rw[ha8] at e;cases e;have:=St.get_lt ho;have:=M.1;omega) (k8 _ _ (fun e=>by rw[ha6] at e;cases e;have:=St.get_lt ho;have:=M.1;omega) (k7 _ _ (k6 _ _ (fun e=>by have:=hwo _ e;have:=St.get_lt ho;omega) (k45 _ _ (M.2 _ _ ho)))))⟩,by omega,fun c h=>by rw[ha9] at h;cases h;omega,rfl,rfl,rfl,rfl,rfl,rfl,trivial⟩
       ·rw[htk,List.flatMap_append,← List.append_assoc,← hms]
        simp[hmc,hhy]
       ·have:=hypsR_len (L:=L) (f:=c1) (d:=(L[c2-1]).dp);rw[hhy] at this;simp at this ⊢;omega
       ·simpa using hv9
    ·refine wk ?_
     refine GoF.exit ?_
     show GoW _ _ _ _ _ _ _ _
     have hii:i=x.cs.length:=by omega
     subst hii
     rw[List.take_length,← hmk] at hms
     have hml2:ms.length<2^42:=by omega
     have hms':∀t (h:t<ms.length),ms[t]≤L.length:=fun t h=>hm (n+1) (by omega) hn _ (hms▸List.getElem_mem h)
     have hmR:∀t (h:t<ms.length),Rch L (n+1)→Rch L ms[t]:=fun t h hr=>.step (by omega) hn hr (hms▸List.getElem_mem h)
     refine wk ?_
     refine GoF.block (GoF.loop (fun k'' F τ=>∃j S'' mo',j+k''=ms.length∧MkS L S''∧(mo'=false→S''=S∧Cls L S (n+1)∧∀t (h:t<ms.length),t<j→S''[ms[t]]? =some true)∧(mo'=true→S''.countP (· ==false)+1≤S.countP (· ==false))∧S''[n+1]? =some true∧τ.get q=some (.cells (S''.map AV.b))∧Sl τ none w (ms.map nI)∧Mr σ τ∧q<τ.next∧sat [(0,rnsA L),(3,.sl q 0 (L.length+1) none (some (L.length+1))),(4,.b mo'),(5,nI (n+1)),(6,w),(9,nI j)] F) (fun k'' F τ hI=>?_) ms.length ⟨0,S',mo,by omega,hS',fun h=>⟨(hf1 h).1,(hf1 h).2,fun t _ h=>absurd h (Nat.not_lt_zero _)⟩,ht1,by rw[List.getElem?_eq_getElem hnS,hb],hg,hw,M,hnx,rfl,rfl,rfl,rfl,rfl,rfl,trivial⟩)
     clear M hnx hg hw H hf1 ht1 hS' hi M0
     obtain⟨j,S2,mo2,hj,hS2,hf2,ht2,hn2,hg,hw,M,hnx,hs'⟩:=hI
     refine GoF.norm _ hs' fun F=>?_
     clear hs'
     have H:Has τ [(q,S2.map AV.b)]:=Has.nil.cons hg (by simp)
     have hv:=hw.vw
     have hvl:(ms.map nI).length=ms.length:=List.length_map _
     by_cases hjm:j<ms.length
     ·obtain⟨p,rfl⟩:∃p,k''=p+1:=⟨k''-1,by omega⟩
      have hmj:=hms' j hjm
      have hmr:=hmR j hjm (hS2.rch _ hn2)
      have hmS:ms[j]<S2.length:=by have:=hS2.len;omega
      refine wk ?_
      rw[List.getElem_map]
      refine W.ix rfl rfl rfl rfl (idxSlA_sl (by omega)) ?_
      refine W.ld H rfl rfl rfl (.head _) (take_bl hmS) ?_
      have hnS2:n+1<S2.length:=by have:=hS2.len;omega
      cases hbb:S2[ms[j]] with
      |true=>
       have hb2:S2[ms[j]]? =some true:=by rw[List.getElem?_eq_getElem hmS,hbb]
       refine wk ?_
       refine⟨p,by omega,j+1,S2,mo2,by omega,hS2,fun h=>?_,ht2,hn2,hg,hw,M,hnx,rfl,rfl,rfl,rfl,rfl,rfl,trivial⟩
       obtain⟨e1,e2,e3⟩:=hf2 h
       refine⟨e1,e2,fun t ht h=>?_⟩
       by_cases htj:t=j
       ·subst htj;exact hb2
       ·exact e3 t ht (by omega)
      |false=>
       have hb2:S2[ms[j]]? =some false:=by rw[List.getElem?_eq_getElem hmS,hbb]
       have hcf:=cf_set hb2
       refine wk ?_
       rw[List.getElem_map]
       refine W.ix rfl rfl rfl rfl (idxSlA_sl (by omega)) ?_
       refine W.st (c':=(S2.set ms[j] true).map AV.b) H 0 rfl rfl rfl rfl rfl (store_bl hmS) fun τ7 n7 H k7=>?_
       refine wk ?_
       refine⟨p,by omega,j+1,S2.set ms[j] true,true,by omega,hS2.set hmr,(fun h=>by cases h),fun _=>?_,?_,H.get _ (.head _),hw.keep fun i o h1 ho=>k7 i o (fun e=>?_) ho,⟨by have:=M.1;omega,fun i o ho=>k7 _ _ (fun e=>by have:=St.get_lt ho;omega) (M.2 _ _ ho)⟩,by omega,rfl,rfl,rfl,rfl,rfl,rfl,trivial⟩
       ·cases mo2 with
        |true=>have:=ht2 rfl;omega
        |false=>obtain⟨e1,_,_⟩:=hf2 rfl;subst e1;omega
       ·rw[List.getElem?_set]
        split
        ·first|rfl|rw[if_pos (by omega)]
        ·exact hn2
       ·have:=hwo i h1;omega
     ·refine wk ?_
      refine GoF.exit ?_
      show GoW _ _ _ _ _ _ _ _
      refine wk ?_
      refine⟨n,by omega,S2,mo2,by omega,hS2,fun h=>?_,ht2,hg,M,hnx,rfl,rfl,rfl,rfl,trivial⟩
      obtain⟨e1,e2,e3⟩:=hf2 h
      refine⟨e1,fun k' h1 h2 h3 m hmm=>?_⟩
      by_cases hk:k'=n+1
      ·subst hk
       rw[←hms] at hmm
       obtain⟨t,ht,rfl⟩:=List.getElem_of_mem hmm
       rw[←e1]
       exact e3 t ht (by omega)
      ·exact e2 k' (by omega) h2 h3 m hmm
end
def Seqv{α:Type}(P:Nat→Nat→α→AV→Prop):Nat→Nat→List α→List AV→Prop
 |lo,hi,[],[]=>lo≤hi
 |lo,hi,t::ts,x::xs=>∃m,lo≤m∧m≤hi∧P lo m t x∧Seqv P m hi ts xs
 |_,_,_,_=>False
theorem Seqv.le{α:Type}{P:Nat→Nat→α→AV→Prop}:∀ {ts:List α} {xs:List AV} {lo hi:Nat},Seqv P lo hi ts xs→lo≤hi
 |[],[],_,_,h=>h
 |_::_,_::_,_,_,⟨m,h1,h2,_,_⟩=>Nat.le_trans h1 h2
theorem Seqv.mono{α:Type}{P P':Nat→Nat→α→AV→Prop}{A B:Nat}(hP:∀a c t x,A≤a→c≤B→P a c t x→P' a c t x):∀ {ts:List α} {xs:List AV} {lo hi:Nat},A≤lo→hi≤B→Seqv P lo hi ts xs→Seqv P' lo hi ts xs
 |[],[],_,_,_,_,h=>h
 |_::_,_::_,lo,hi,h1,h2,⟨m,a1,a2,a3,a4⟩=>⟨m,a1,a2,hP _ _ _ _ h1 (by omega) a3,Seqv.mono hP (by omega) h2 a4⟩
theorem Seqv.len{α:Type}{P:Nat→Nat→α→AV→Prop}:∀ {ts:List α} {xs:List AV} {lo hi:Nat},Seqv P lo hi ts xs→ts.length=xs.length
 |[],[],_,_,_=>rfl
 |_::_,_::_,_,_,⟨_,_,_,_,h⟩=>congrArg (· +1) (Seqv.len h)
theorem Seqv.snoc{α:Type}{P:Nat→Nat→α→AV→Prop}{t:α}{x:AV}{c hi:Nat}(hm:c≤hi):∀ {ts:List α} {xs:List AV} {lo mid:Nat},Seqv P lo mid ts xs→mid≤c→P mid c t x→(∀a,a≤mid→P mid c t x→P a c t x)→Seqv P lo hi (ts++[t]) (xs++[x])
 |[],[],lo,mid,h,h2,h3,h4=>⟨c,Nat.le_trans h h2,hm,h4 _ h h3,hm⟩
 |_::_,_::_,lo,mid,⟨m,a1,a2,a3,a4⟩,h2,h3,h4=>⟨m,a1,by omega,a3,Seqv.snoc hm a4 h2 h3 h4⟩
def SlO{α:Type}(σ:St)(P:Nat→Nat→α→AV→Prop)(sh:Option Nat)(lo hi:Nat)(ts:List α)(w:AV):Prop:=
 (ts=[]∧w= .nilsl∧lo≤hi)∨∃k xs,lo≤k∧ts≠[]∧w= .sl k 0 xs.length sh (some xs.length)∧σ.get k=some (.cells (xs.flatMap AV.cells))∧(∀y∈xs,conf sh y=true)∧Seqv P (k+1) hi ts xs
theorem SlO.le{α:Type}{σ:St}{P:Nat→Nat→α→AV→Prop}{sh:Option Nat}{lo hi:Nat}{ts:List α}{w:AV}(h:SlO σ P sh lo hi ts w):lo≤hi:=by
 rcases h with⟨_,_,h⟩|⟨k,xs,h1,_,_,_,_,h⟩
 ·exact h
 ·have:=h.le;omega
theorem SlO.mono{α:Type}{σ τ:St}{P P':Nat→Nat→α→AV→Prop}{sh:Option Nat}{lo hi:Nat}{ts:List α}{w:AV}(hk:∀i c,lo≤i→i<hi→σ.get i=some (.cells c)→τ.get i=some (.cells c))(hP:∀a c t x,lo≤a→c≤hi→P a c t x→P' a c t x)(h:SlO σ P sh lo hi ts w):SlO τ P' sh lo hi ts w:=by
 rcases h with h|⟨k,xs,h1,h2,h3,h4,h5,h6⟩
 ·exact .inl h
 ·have:=h6.le
  exact .inr ⟨k,xs,h1,h2,h3,hk _ _ h1 (by omega) h4,h5,h6.mono (A:=k+1) (B:=hi) (fun a c t x ha hc=>hP a c t x (by omega) hc) (Nat.le_refl _) (Nat.le_refl _)⟩
theorem Seqv.wide{α:Type}{P:Nat→Nat→α→AV→Prop}(hP:∀a c a' c' t x,a'≤a→c≤c'→P a c t x→P a' c' t x):∀ {ts:List α} {xs:List AV} {lo hi lo' hi':Nat},lo'≤lo→hi≤hi'→Seqv P lo hi ts xs→Seqv P lo' hi' ts xs
 |[],[],_,_,_,_,h1,h2,h=>by have h:_≤_:=h;show _≤_;omega
 |_::_,_::_,lo,hi,lo',hi',h1,h2,⟨m,a1,a2,a3,a4⟩=>⟨m,by omega,by omega,hP _ _ _ _ _ _ h1 (Nat.le_refl _) a3,Seqv.wide hP (Nat.le_refl _) h2 a4⟩
theorem SlO.wide{α:Type}{σ:St}{P:Nat→Nat→α→AV→Prop}{sh:Option Nat}{lo hi lo' hi':Nat}{ts:List α}{w:AV}(hP:∀a c a' c' t x,a'≤a→c≤c'→P a c t x→P a' c' t x)(h1:lo'≤lo)(h2:hi≤hi')(h:SlO σ P sh lo hi ts w):SlO σ P sh lo' hi' ts w:=by
 rcases h with⟨a,c,d⟩|⟨k,xs,a1,a2,a3,a4,a5,a6⟩
 ·exact .inl ⟨a,c,by omega⟩
 ·exact .inr ⟨k,xs,by omega,a2,a3,a4,a5,a6.wide hP (Nat.le_refl _) h2⟩
theorem SlO.one{α:Type}{σ:St}{P:Nat→Nat→α→AV→Prop}{sh:Option Nat}{lo hi:Nat}{ts:List α}{w:AV}(h:SlO σ P sh lo hi ts w):w.cells=[w]∧w.val=true∧conf none w=true:=by
 rcases h with⟨_,rfl,_⟩|⟨k,xs,_,_,rfl,_⟩<;>exact⟨rfl,rfl,rfl⟩
def TO(σ:St):Nat→Nat→Nat→Tm→AV→Prop
 |0,_,_,_,_=>False
 |d+1,lo,hi,t,v=>∃w,v= .ag [.b t.var,.s t.name,w]∧SlO σ (TO σ d) (some 3) lo hi t.args w
def FO(σ:St):Nat→Nat→Nat→Fm→AV→Prop
 |0,_,_,_,_=>False
 |d+1,lo,hi,f,v=>∃w1 w2 m,v= .ag [.i .u8 (Int.ofNat f.op),.s f.name,w1,w2]∧SlO σ (TO σ d) (some 3) lo m f.args w1∧SlO σ (FO σ d) (some 4) m hi f.sub w2
theorem TO.wide{σ:St}:∀(d:Nat) (a c a' c':Nat) (t:Tm) (x:AV),a'≤a→c≤c'→TO σ d a c t x→TO σ d a' c' t x
 |0,_,_,_,_,_,_,_,_,h=>h
 |d+1,_,_,_,_,_,_,h1,h2,⟨w,e,h⟩=>⟨w,e,h.wide (TO.wide d) h1 h2⟩
theorem FO.wide{σ:St}:∀(d:Nat) (a c a' c':Nat) (t:Fm) (x:AV),a'≤a→c≤c'→FO σ d a c t x→FO σ d a' c' t x
 |0,_,_,_,_,_,_,_,_,h=>h
 |d+1,_,_,_,_,_,_,h1,h2,⟨w,w2,m,e,h,h'⟩=>⟨w,w2,m,e,h.wide (TO.wide d) h1 (Nat.le_refl _),h'.wide (FO.wide d) (Nat.le_refl _) h2⟩
theorem TO.keep{σ τ:St}:∀(d:Nat) {lo hi:Nat} {t:Tm} {v:AV},(∀i c,lo≤i→i<hi→σ.get i=some (.cells c)→τ.get i=some (.cells c))→TO σ d lo hi t v→TO τ d lo hi t v
 |0,_,_,_,_,_,h=>h
 |d+1,lo,hi,_,_,k,⟨w,e,h⟩=>⟨w,e,h.mono k fun a c t x ha hc=>TO.keep d fun i o h1 h2=>k i o (by omega) (by omega)⟩
theorem FO.keep{σ τ:St}:∀(d:Nat) {lo hi:Nat} {t:Fm} {v:AV},(∀i c,lo≤i→i<hi→σ.get i=some (.cells c)→τ.get i=some (.cells c))→FO σ d lo hi t v→FO τ d lo hi t v
 |0,_,_,_,_,_,h=>h
 |d+1,lo,hi,_,_,k,⟨w,w2,m,e,h,h'⟩=>by
  have l1:=h.le
  have l2:=h'.le
  exact⟨w,w2,m,e,h.mono (fun i c h1 h2=>k i c h1 (by omega)) fun a c t x ha hc=>TO.keep d fun i o h1 h2=>k i o (by omega) (by omega),
   h'.mono (fun i c h1 h2=>k i c (by omega) h2) fun a c t x ha hc=>FO.keep d fun i o h1 h2=>k i o (by omega) (by omega)⟩
theorem Sl.snapM{σ:St}{sh:Option Nat}{v:AV}{xs ys:List AV}{m:Nat}(hs:Sl σ sh v xs)(hn:xs=[]→v= .nilsl)(hm:mapO (snapshot σ m) xs=some ys):snapshot σ (m+1) v=some (slA true sh ys):=by
 have hr:=hs.read
 cases hs with
 |nil=>rw[mapO_nil] at hm;cases hm;rfl
 |sl o cap xs rest hg hc hk=>
  rw[snapshot_succ]
  simp only[hr,hm]
  cases xs with
  |nil=>cases hn rfl
  |cons y l=>
   cases ys with
   |nil=>have:=(mapO_some hm).1;simp at this
   |cons z r=>rfl
theorem SlO.snap{α:Type}{σ:St}{P:Nat→Nat→α→AV→Prop}{sh:Option Nat}{lo hi n:Nat}{ts:List α}{w:AV}{g:α→AV}(hP:∀a c t x,P a c t x→snapshot σ n x=some (g t))(h:SlO σ P sh lo hi ts w):snapshot σ (n+1) w=some (slA true sh (ts.map g)):=by
 rcases h with⟨rfl,rfl,_⟩|⟨k,xs,h1,h2,rfl,h4,h5,h6⟩
 ·rfl
 ·have hm:∀ {ts:List α} {xs:List AV} {lo hi:Nat},Seqv P lo hi ts xs→mapO (snapshot σ n) xs=some (ts.map g):=by
   intro ts
   induction ts with
   |nil=>intro xs lo hi h;cases xs with|nil=>rfl|cons _ _=>exact h.elim
   |cons t ts ih=>intro xs lo hi h;cases xs with
    |nil=>exact h.elim
    |cons x xs=>
     obtain⟨m,_,_,a3,a4⟩:=h
     rw[mapO_cons,hP _ _ _ _ a3,ih a4];rfl
  have hs:Sl σ sh (.sl k 0 xs.length sh (some xs.length)) xs:=.sl k _ xs [] (by simpa using h4) h5 (.inr rfl)
  exact hs.snapM (fun e=>absurd (h6.len) (by rw[e];cases ts<;>simp_all)) (hm h6)
theorem TO.snap{σ:St}:∀(d:Nat) {lo hi n:Nat} {t:Tm} {v:AV},2*d≤n→TO σ d lo hi t v→snapshot σ n v=some (.ag (tcA true t.nz))
 |0,_,_,_,_,_,_,h=>h.elim
 |d+1,lo,hi,n,t,v,hn,⟨w,e,h⟩=>by
  obtain⟨n,rfl⟩:∃m,n=m+2:=⟨n-2,by omega⟩
  have:=h.snap (n:=n) (g:=fun t=>.ag (tcA true t.nz)) fun a c t x hx=>TO.snap d (by omega) hx
  subst e
  refine snap_ag ?_
  rw[mapO_cons,mapO_cons,mapO_cons,this,Tm.nz_eq]
  show some [_,_,_]=some [_,_,tmsA true (oL _)]
  rw[tms_oL,List.map_map,show t.args.map (fun t=>AV.ag (tcA true t.nz))=t.args.map (Tm.A true∘Tm.nz) from List.map_congr_left fun u _=>(tAc true u.nz).symm]
  rfl
theorem FO.snap{σ:St}:∀(d:Nat) {lo hi n:Nat} {t:Fm} {v:AV},2*d≤n→FO σ d lo hi t v→snapshot σ n v=some (.ag (fc t.nz))
 |0,_,_,_,_,_,_,h=>h.elim
 |d+1,lo,hi,n,t,v,hn,⟨w,w2,m,e,h,h'⟩=>by
  obtain⟨n,rfl⟩:∃m,n=m+2:=⟨n-2,by omega⟩
  have h1:=h.snap (n:=n) (g:=fun t=>.ag (tcA true t.nz)) fun a c t x hx=>TO.snap d (by omega) hx
  have h2:=h'.snap (n:=n) (g:=fun t=>.ag (fc t.nz)) fun a c t x hx=>FO.snap d (by omega) hx
  subst e
  refine snap_ag ?_
  rw[mapO_cons,mapO_cons,mapO_cons,mapO_cons,h1,h2,Fm.nz_eq]
  show some [_,_,_,_]=some [_,_,tmsA true (oL _),fmsA true (oL _)]
  rw[tms_oL,fms_oL,List.map_map,List.map_map]
  rw[show t.args.map (fun t=>AV.ag (tcA true t.nz))=t.args.map (Tm.A true∘Tm.nz) from List.map_congr_left fun u _=>(tAc true u.nz).symm,show t.sub.map (fun t=>AV.ag (fc t.nz))=t.sub.map (Fm.A true∘Fm.nz) from List.map_congr_left fun u _=>(fA u.nz).symm]
  rfl
theorem flat_len{sh:Option Nat}:∀ {xs:List AV},(∀y∈xs,conf sh y=true)→(xs.flatMap AV.cells).length=xs.length*shN sh
 |[],_=>by simp
 |x::xs,h=>by
  rw[List.flatMap_cons,List.length_append,flat_len fun y hy=>h y (List.mem_cons_of_mem _ hy),conf_len (h x (by simp)),List.length_cons,Nat.succ_mul,Nat.add_comm]
theorem W.apC{md:Md}{env:Env}{wh:Option Nat}{D:List (Nat ⊕ (AV×List AV))}{n:Nat}{F:List (Nat×AV)}{z:Nat→AV}{σ:St}{Q:PostF}{d:Nat}{sh:Option Nat}{bytes k N j:Nat}{s x:AOpd}{g:Option (Nat×Bool)}{ops:List AOper}{w y:AV}{xs rest:List AV}(hj:xs.length=j)(hk:σ.get k=some (.cells (xs.flatMap AV.cells++rest)))(hx:newOf σ w=some [y])(hc:∀z∈xs,Go.Lyc.conf sh z=true)(hy:Go.Lyc.conf sh y=true)(hN:j+1≤N)(hr:shN sh≤rest.length)(hb:(3*(j+1)+2000)*bytes≤281474976710656)(hd:Nat.blt d n=true)(hw:wtL g n F=true)(h1:evL env n F z s=some (.sl k 0 j sh (some N)))(h2:evL env n F z x=some w)
  (h:∀τ:St,τ.next=σ.next→τ.get k=some (.cells ((xs++[y]).flatMap AV.cells++rest.drop (shN sh)))→(∀i o,i≠k→σ.get i=some o→τ.get i=some o)→GoM md env wh D n ops (upds ((d,.sl k 0 (j+1) sh (some N))::F) z) τ Q):GoM md env wh D n (⟨some d,.append sh bytes s x,g,[]⟩::ops) (upds F z) σ Q:=by
 subst hj
 have hrd:readList σ (.sl k 0 xs.length sh (some N))=some xs:=by
  show(match σ.get k with|some (.cells c)=>elems sh xs.length (c.drop 0)|_=>none)=_
  rw[hk];exact elems_flat hc
 have hyl:=conf_len hy
 have hfl:=flat_len hc
 have hst:storeCells (xs.flatMap AV.cells++rest) (0+xs.length*shN sh) ([y].flatMap AV.cells)=some ((xs++[y]).flatMap AV.cells++rest.drop (shN sh)):=by
  unfold storeCells
  have e1:[y].flatMap AV.cells=y.cells:=by simp
  rw[e1,Nat.zero_add,if_pos (Nat.ble_eq_true_of_le (by rw[List.length_append];omega)),← hfl,List.take_left,hyl,← List.drop_drop,List.drop_left,List.flatMap_append,e1,List.append_assoc]
 refine W.val (v:=.sl k 0 (xs.length+1) sh (some N)) (σ':=σ.set k (.cells ((xs++[y]).flatMap AV.cells++rest.drop (shN sh)))) hd hw ?_ (h _ rfl (set_get hk).1 (set_get hk).2)
 show(match evL env n F z s,evL env n F z x with|some s,some x=>(match appendO 0 σ sh bytes s x with|some (v,σ)=>some (OpR.val v σ)|none=>none)|_,_=>none)=_
 rw[h1,h2]
 have e:appendO 0 σ sh bytes (.sl k 0 xs.length sh (some N)) w=some (.sl k 0 (xs.length+1) sh (some N),σ.set k (.cells ((xs++[y]).flatMap AV.cells++rest.drop (shN sh)))):=by
  unfold appendO
  rw[hrd,hx]
  have hb1:Nat.ble ((3*(xs.length+[y].length)+2000)*bytes) 281474976710656=true:=Nat.ble_eq_true_of_le hb
  have h5:(allB (Go.Lyc.conf sh) xs&&allB (Go.Lyc.conf sh) [y]&&Nat.ble ((3*(xs.length+[y].length)+2000)*bytes) 281474976710656)=true:=by
   rw[allB_of hc,allB_of (l:=[y]) (fun z hz=>by rw[List.mem_singleton.1 hz];exact hy),hb1];rfl
  show cond _ _ none=_
  rw[h5,cond_true]
  show(if sh=sh then cond (Nat.ble (xs.length+1) N) (if Nat.blt k 0 then none else match σ.get k with|some (.cells c0)=>(match storeCells c0 (0+xs.length*shN sh) ([y].flatMap AV.cells) with|some c1=>some (AV.sl k 0 (xs.length+1) sh (some N),σ.set k (.cells c1))|none=>none)|_=>none) _ else none)=_
  rw[if_pos rfl,Nat.ble_eq_true_of_le hN,cond_true,if_neg (by simp[Nat.blt,Nat.ble]),hk]
  simp only[hst]
 show(match appendO 0 σ sh bytes (.sl k 0 xs.length sh (some N)) w with|some (v,σ)=>some (OpR.val v σ)|none=>none)=_
 rw[e]
theorem repeatC_len{z:List AV}:∀m,(repeatC m z).length=m*z.length
 |0=>by rw[Nat.zero_mul];rfl
 |m+1=>by show(z++repeatC m z).length=_;rw[List.length_append,repeatC_len m,Nat.succ_mul,Nat.add_comm]
theorem W.mk0{md:Md}{env:Env}{wh:Option Nat}{D:List (Nat ⊕ (AV×List AV))}{n:Nat}{F:List (Nat×AV)}{z:Nat→AV}{σ:St}{Q:PostF}{L:List (Nat×List AV)}(H:Has σ L){d:Nat}{sh:Option Nat}{zr:List AV}{x y:AOpd}{g:Option (Nat×Bool)}{ops:List AOper}{m k bytes:Nat}(hn:σ.next=k)(hz:Nat.beq zr.length (shN sh)=true)(hb:bytes*m≤281474976710656)(hm:m≤281474976710656)(hd:Nat.blt d n=true)(hw:wtL g n F=true)(h1:evL env n F z x=some (nI 0))(h2:evL env n F z y=some (nI m))
  (h:∀τ:St,τ.next=k+1→Has τ ((k,repeatC m zr)::L)→(∀i o,σ.get i=some o→τ.get i=some o)→GoM md env wh D n ops (upds ((d,.sl k 0 0 sh (some m))::F) z) τ Q):GoM md env wh D n (⟨some d,.mkSlice sh bytes zr x y,g,[]⟩::ops) (upds F z) σ Q:=by
 subst hn
 have kp:∀i o,σ.get i=some o→(σ.push (.cells (repeatC m zr))).get i=some o:=fun i o ho=>by rw[St.get_push_old trivial _ (St.get_lt ho)];exact ho
 refine W.val (v:=.sl σ.next 0 0 sh (some m)) (σ':=σ.push (.cells (repeatC m zr))) hd hw ?_ (h (σ.push (.cells (repeatC m zr))) rfl (H.push rfl (St.get_push_new _) kp) kp)
 show(match evL env n F z x,evL env n F z y with
  |some (.i _ (.ofNat n)),some (.i _ (.ofNat m))=>
   cond (Nat.beq zr.length (shN sh)&&(Nat.ble n m&&(Nat.ble (bytes*m) 281474976710656&&Nat.ble m 281474976710656)))
    (some (OpR.val (.sl σ.next 0 n sh (some m)) (σ.push (.cells (repeatC m zr))))) none
  |some .nilsl,some (.i _ (.ofNat m))=>
   cond (Nat.beq zr.length (Nat.succ (shN sh))&&(Nat.blt 0 m&&Nat.ble ((3*m+2000)*bytes) 281474976710656))
    (some (OpR.val (.sl σ.next 0 m sh none) (σ.push (.cells (repeatC m zr.tail))))) none
  |_,_=>none)=_
 rw[h1,h2]
 show cond _ _ none=_
 rw[hz,Nat.ble_eq_true_of_le (Nat.zero_le m),Nat.ble_eq_true_of_le hb,Nat.ble_eq_true_of_le hm];rfl
section
variable {b:Base}{K:Nat→List AV→AV→Prop}
theorem copyLT_st(hh:Here (b.envK K) n_copyLT c_copyLT){d:Nat}{a:Option (List Tm)}(hlen:(a.getD []).length<2^20)(hc:∀t∈a.getD [],∀σ:St,GoesCall (b.envK K) 0 (.f (.func n_copyT) [] []) [.ag (tcA true t)] σ (fun r τ=>∃v,r= .ok v∧TO τ d σ.next τ.next t v∧Mr σ τ))(σ:St):
  GoesCall (b.envK K) 0 (.f (.func n_copyLT) [] []) [tmsA true a,.f (.func n_copyT) [] []] σ (fun r τ=>∃w,r= .ok w∧SlO τ (TO τ d) (some 3) σ.next τ.next (a.getD []) w∧Mr σ τ):=by
 refine W.code hh.e hh.p hh.f rfl rfl rfl rfl fun z=>?_
 have H:Has σ []:=Has.nil
 refine wk ?_
 refine W.len rfl rfl rfl tmsA_len ?_
 by_cases h0:(a.getD []).length=0
 ·refine wk ?_
  exact GoF.ret ⟨rfl,.nilsl,rfl,.inl ⟨List.length_eq_zero_iff.1 h0,rfl,Nat.le_refl _⟩,Nat.le_refl _,fun _ _ h=>h⟩
 refine wk ?_
 refine W.len rfl rfl rfl tmsA_len ?_
 generalize hN:(a.getD []).length=N at hlen h0
 generalize hq:σ.next=q
 refine W.mk0 H hq rfl (by omega) (by omega) rfl rfl rfl rfl fun τ1 n1 H k1=>?_
 refine wk ?_
 refine W.len rfl rfl rfl tmsA_len ?_
 rw[hN]
 refine wk ?_
 show GoW _ _ _ _ _ _ _ _
 refine GoF.each N (fun j f τ=>∃xs,xs.length=j∧τ.get q=some (.cells (xs.flatMap AV.cells++repeatC (N-j) [.b false,.s [],.nilsl]))∧(∀y∈xs,Go.Lyc.conf (some 3) y=true)∧Seqv (TO τ d) (q+1) τ.next ((a.getD []).take j) xs∧Mr σ τ∧sat [(5,.sl q 0 j (some 3) (some N)),(14,tmsA true a),(1,.f (.func n_copyT) [] [])] f) (by omega) ⟨[],rfl,H.get _ (.head _),(fun _ h=>by simp at h),by show q+1≤τ1.next;omega,⟨by omega,k1⟩,rfl,rfl,rfl,trivial⟩ rfl rfl (fun j g τ hj hI hi hm=>?_) (fun g τ hI hi=>?_)
 ·obtain⟨xs,hl,hg,hcf,hS,M,hs'⟩:=hI
  refine GoF.norm ((16,nI j)::(15,nI N)::[(5,.sl q 0 j (some 3) (some N)),(14,tmsA true a),(1,.f (.func n_copyT) [] [])]) ⟨hi,hm,hs'⟩ fun g=>?_
  have H:Has τ [(q,xs.flatMap AV.cells++repeatC (N-j) [.b false,.s [],.nilsl])]:=Has.nil.cons hg (by simp)
  have hjl:j<(a.getD []).length:=by omega
  have hmm:=List.getElem_mem hjl
  have htk:=List.take_succ_eq_append_getElem hjl
  refine wk ?_
  refine W.ix rfl rfl rfl rfl (tmsA_idx hjl) ?_
  rw[tAc]
  generalize(a.getD [])[j]=t at hmm htk
  refine wk ?_
  generalize hk:τ.next=k
  refine W.vr (c:=tcA true t) H hk rfl rfl rfl rfl rfl rfl fun τ2 n2 H k2=>?_
  refine wk ?_
  refine W.cy rfl rfl rfl (hc _ hmm _) fun r τ3 ⟨v,e,hv,M3⟩=>⟨_,e,?_⟩
  cases d with
  |zero=>exact hv.elim
  |succ d=>
  have H:=H.keep M3.2
  obtain⟨w1,rfl,hv1⟩:=hv
  have hv:TO τ3 (d+1) τ2.next τ3.next t (.ag [.b t.var,.s t.name,w1]):=⟨w1,rfl,hv1⟩
  have hq1:q<k:=by have:=St.get_lt hg;omega
  generalize hk3:τ3.next=k3
  have hM3:=M3.1
  refine wk ?_
  refine W.bs (c:=[.b t.var,.s t.name,w1]) H hk3 rfl rfl (by rfl) fun τ4 n4 H k4=>?_
  refine wk ?_
  refine W.apC (xs:=xs) (y:=.ag [.b t.var,.s t.name,w1]) (N:=N) (rest:=repeatC (N-j) [.b false,.s [],.nilsl]) hl (H.get _ (.tail _ (.tail _ (.head _)))) (newOf_1 (H.get _ (.head _)) rfl) hcf rfl (by omega) (by rw[repeatC_len,show N-j=(N-(j+1))+1 from by omega,Nat.succ_mul];exact Nat.le_add_left _ _) (by omega) rfl rfl rfl rfl fun τ5 n5 hg5 k5=>?_
  refine wk ?_
  have kq:∀i o,i≠q→τ.get i=some o→τ5.get i=some o:=fun i o hi ho=>k5 i o hi (k4 _ _ (M3.2 _ _ (k2 _ _ ho)))
  refine⟨rfl,rfl,xs++[.ag [.b t.var,.s t.name,w1]],by rw[List.length_append];exact congrArg (· +1) hl,?_,fun y hy=>?_,?_,⟨by have:=M.1;omega,fun i o ho=>kq _ _ (by have:=St.get_lt ho;omega) (M.2 _ _ ho)⟩,rfl,rfl,rfl,trivial⟩
  ·rw[hg5,show N-j=(N-(j+1))+1 from by omega];rfl
  ·rcases List.mem_append.1 hy with hy|hy
   ·exact hcf y hy
   ·rw[List.mem_singleton.1 hy];rfl
  ·rw[htk]
   refine Seqv.snoc (c:=τ3.next) (by omega) (mid:=τ.next) (hS.mono (A:=q+1) (B:=τ.next) (fun a' c t x ha hcc=>TO.keep _ fun i o h1 h2 ho=>kq i _ (by omega) ho) (Nat.le_refl _) (Nat.le_refl _)) (by omega) ?_ fun a' ha hx=>TO.wide _ _ _ _ _ _ _ ha (Nat.le_refl _) hx
   exact TO.wide _ _ _ _ _ _ _ (by omega) (Nat.le_refl _) (hv.keep _ fun i o h1 h2 ho=>k5 i _ (by omega) (k4 _ _ ho))
 ·obtain⟨xs,hl,hg,hcf,hS,M,g5,_⟩:=hI
  refine GoF.norm [(5,.sl q 0 N (some 3) (some N))] ⟨g5,trivial⟩ fun g=>?_
  have H:Has τ []:=Has.nil
  refine wk ?_
  refine GoF.ret ⟨rfl,.sl q 0 N (some 3) (some N),rfl,.inr ⟨q,xs,by omega,fun e=>h0 (by rw[←hN,e];rfl),by rw[hl],by rw[hg,Nat.sub_self];exact congrArg (fun x=>some (AO.cells x)) (List.append_nil _),hcf,?_⟩,M⟩
  rw[←hN,List.take_length] at hS
  exact hS
theorem copyLF_st(hh:Here (b.envK K) n_copyLF c_copyLF){d:Nat}{a:Option (List Fm)}(hlen:(a.getD []).length<2^20)(hc:∀t∈a.getD [],∀σ:St,GoesCall (b.envK K) 0 (.f (.func n_Copy) [] []) [.ag (fc t)] σ (fun r τ=>∃v,r= .ok v∧FO τ d σ.next τ.next t v∧Mr σ τ))(σ:St):
  GoesCall (b.envK K) 0 (.f (.func n_copyLF) [] []) [fmsA true a,.f (.func n_Copy) [] []] σ (fun r τ=>∃w,r= .ok w∧SlO τ (FO τ d) (some 4) σ.next τ.next (a.getD []) w∧Mr σ τ):=by
 refine W.code hh.e hh.p hh.f rfl rfl rfl rfl fun z=>?_
 have H:Has σ []:=Has.nil
 refine wk ?_
 refine W.len rfl rfl rfl fmsA_len ?_
 by_cases h0:(a.getD []).length=0
 ·refine wk ?_
  exact GoF.ret ⟨rfl,.nilsl,rfl,.inl ⟨List.length_eq_zero_iff.1 h0,rfl,Nat.le_refl _⟩,Nat.le_refl _,fun _ _ h=>h⟩
 refine wk ?_
 refine W.len rfl rfl rfl fmsA_len ?_
 generalize hN:(a.getD []).length=N at hlen h0
 generalize hq:σ.next=q
 refine W.mk0 H hq rfl (by omega) (by omega) rfl rfl rfl rfl fun τ1 n1 H k1=>?_
 refine wk ?_
 refine W.len rfl rfl rfl fmsA_len ?_
 rw[hN]
 refine wk ?_
 show GoW _ _ _ _ _ _ _ _
 refine GoF.each N (fun j f τ=>∃xs,xs.length=j∧τ.get q=some (.cells (xs.flatMap AV.cells++repeatC (N-j) [.i .u8 0,.s [],.nilsl,.nilsl]))∧(∀y∈xs,Go.Lyc.conf (some 4) y=true)∧Seqv (FO τ d) (q+1) τ.next ((a.getD []).take j) xs∧Mr σ τ∧sat [(5,.sl q 0 j (some 4) (some N)),(14,fmsA true a),(1,.f (.func n_Copy) [] [])] f) (by omega) ⟨[],rfl,H.get _ (.head _),(fun _ h=>by simp at h),by show q+1≤τ1.next;omega,⟨by omega,k1⟩,rfl,rfl,rfl,trivial⟩ rfl rfl (fun j g τ hj hI hi hm=>?_) (fun g τ hI hi=>?_)
 ·obtain⟨xs,hl,hg,hcf,hS,M,hs'⟩:=hI
  refine GoF.norm ((16,nI j)::(15,nI N)::[(5,.sl q 0 j (some 4) (some N)),(14,fmsA true a),(1,.f (.func n_Copy) [] [])]) ⟨hi,hm,hs'⟩ fun g=>?_
  have H:Has τ [(q,xs.flatMap AV.cells++repeatC (N-j) [.i .u8 0,.s [],.nilsl,.nilsl])]:=Has.nil.cons hg (by simp)
  have hjl:j<(a.getD []).length:=by omega
  have hmm:=List.getElem_mem hjl
  have htk:=List.take_succ_eq_append_getElem hjl
  refine wk ?_
  refine W.ix rfl rfl rfl rfl (fmsA_idx hjl) ?_
  rw[fA]
  generalize(a.getD [])[j]=t at hmm htk
  refine wk ?_
  generalize hk:τ.next=k
  refine W.vr (c:=fc t) H hk rfl rfl rfl rfl rfl rfl fun τ2 n2 H k2=>?_
  refine wk ?_
  refine W.cy rfl rfl rfl (hc _ hmm _) fun r τ3 ⟨v,e,hv,M3⟩=>⟨_,e,?_⟩
  cases d with
  |zero=>exact hv.elim
  |succ d=>
  have H:=H.keep M3.2
  obtain⟨w1,w2,m,rfl,hv1⟩:=hv
  have hv:FO τ3 (d+1) τ2.next τ3.next t (.ag [.i .u8 (Int.ofNat t.op),.s t.name,w1,w2]):=⟨w1,w2,m,rfl,hv1⟩
  have hq1:q<k:=by have:=St.get_lt hg;omega
  generalize hk3:τ3.next=k3
  have hM3:=M3.1
  refine wk ?_
  refine W.bs (c:=[.i .u8 (Int.ofNat t.op),.s t.name,w1,w2]) H hk3 rfl rfl (by rfl) fun τ4 n4 H k4=>?_
  refine wk ?_
  refine W.apC (xs:=xs) (y:=.ag [.i .u8 (Int.ofNat t.op),.s t.name,w1,w2]) (N:=N) (rest:=repeatC (N-j) [.i .u8 0,.s [],.nilsl,.nilsl]) hl (H.get _ (.tail _ (.tail _ (.head _)))) (newOf_1 (H.get _ (.head _)) rfl) hcf rfl (by omega) (by rw[repeatC_len,show N-j=(N-(j+1))+1 from by omega,Nat.succ_mul];exact Nat.le_add_left _ _) (by omega) rfl rfl rfl rfl fun τ5 n5 hg5 k5=>?_
  refine wk ?_
  have kq:∀i o,i≠q→τ.get i=some o→τ5.get i=some o:=fun i o hi ho=>k5 i o hi (k4 _ _ (M3.2 _ _ (k2 _ _ ho)))
  refine⟨rfl,rfl,xs++[.ag [.i .u8 (Int.ofNat t.op),.s t.name,w1,w2]],by rw[List.length_append];exact congrArg (· +1) hl,?_,fun y hy=>?_,?_,⟨by have:=M.1;omega,fun i o ho=>kq _ _ (by have:=St.get_lt ho;omega) (M.2 _ _ ho)⟩,rfl,rfl,rfl,trivial⟩
  ·rw[hg5,show N-j=(N-(j+1))+1 from by omega];rfl
  ·rcases List.mem_append.1 hy with hy|hy
   ·exact hcf y hy
   ·rw[List.mem_singleton.1 hy];rfl
  ·rw[htk]
   refine Seqv.snoc (c:=τ3.next) (by omega) (mid:=τ.next) (hS.mono (A:=q+1) (B:=τ.next) (fun a' c t x ha hcc=>FO.keep _ fun i o h1 h2 ho=>kq i _ (by omega) ho) (Nat.le_refl _) (Nat.le_refl _)) (by omega) ?_ fun a' ha hx=>FO.wide _ _ _ _ _ _ _ ha (Nat.le_refl _) hx
   exact FO.wide _ _ _ _ _ _ _ (by omega) (Nat.le_refl _) (hv.keep _ fun i o h1 h2 ho=>k5 i _ (by omega) (k4 _ _ ho))
 ·obtain⟨xs,hl,hg,hcf,hS,M,g5,_⟩:=hI
  refine GoF.norm [(5,.sl q 0 N (some 4) (some N))] ⟨g5,trivial⟩ fun g=>?_
  have H:Has τ []:=Has.nil
  refine wk ?_
  refine GoF.ret ⟨rfl,.sl q 0 N (some 4) (some N),rfl,.inr ⟨q,xs,by omega,fun e=>h0 (by rw[←hN,e];rfl),by rw[hl],by rw[hg,Nat.sub_self];exact congrArg (fun x=>some (AO.cells x)) (List.append_nil _),hcf,?_⟩,M⟩
  rw[←hN,List.take_length] at hS
  exact hS
def Tm.sm:Nat→Tm→Prop
 |0,_=>False
 |d+1,t=>t.args.length<2^20∧∀u∈t.args,Tm.sm d u
def Fm.sm(M:Nat):Nat→Fm→Prop
 |0,_=>False
 |d+1,f=>(f.args.length<2^20∧Snp M (fmsA true f.osub))∧f.sub.length<2^20∧(∀u∈f.args,Tm.sm d u)∧∀u∈f.sub,Fm.sm M d u
structure HCp(b:Base)(K:Nat→List AV→AV→Prop):Prop where
 lt:Here (b.envK K) n_copyLT c_copyLT
 t:Here (b.envK K) n_copyT c_copyT
 lf:Here (b.envK K) n_copyLF c_copyLF
 f:Here (b.envK K) n_Copy c_Copy
theorem copyT_st(hh:HCp b K):∀(d:Nat) (t:Tm),Tm.sm d t→∀σ:St,GoesCall (b.envK K) 0 (.f (.func n_copyT) [] []) [.ag (tcA true t)] σ (fun r τ=>∃v,r= .ok v∧TO τ d σ.next τ.next t v∧Mr σ τ)
 |0,_,h,_=>h.elim
 |d+1,t,⟨h1,h2⟩,σ=>by
  have ih:=copyT_st hh d
  refine W.codeR hh.t.e hh.t.p hh.t.f rfl rfl rfl fun z=>?_
  have H:Has σ []:=Has.nil
  generalize hq:σ.next=q
  refine wk ?_
  refine W.bx (c:=tcA true t) H hq rfl rfl rfl rfl rfl fun τ1 n1 H k1=>?_
  refine wk ?_
  refine W.al (c:=[.b false,.s [],.nilsl]) H n1 rfl rfl rfl fun τ2 n2 H k2=>?_
  refine wk ?_
  refine W.cy rfl rfl rfl (copyLT_st hh.lt (a:=t.oargs) h1 (fun u hu=>ih u (h2 u hu)) τ2) fun r τ3 ⟨w,e,hw,M3⟩=>⟨_,e,?_⟩
  have H:=H.keep M3.2
  have hM3:=M3.1
  refine wk ?_
  refine W.bd (c:=[.b t.var,.s t.name,w]) rfl rfl (layStep rfl rfl rfl (layStep rfl rfl rfl (layStep rfl (by rw[hw.one.1,hw.one.2.1];rfl) (by rw[hw.one.1];rfl) rfl))) ?_
  refine wk ?_
  refine W.st (c':=[.b t.var,.s t.name,w]) H 0 rfl rfl rfl rfl rfl rfl fun τ4 n4 H k4=>?_
  refine wk ?_
  refine GoF.ret ⟨rfl,_,resA_1 (resV_b rfl (H.get _ (.head _)) rfl),_,rfl,⟨w,rfl,?_⟩,by omega,fun i o ho=>k4 _ _ (by have:=St.get_lt ho;omega) (M3.2 _ _ (k2 _ _ (k1 _ _ ho)))⟩
  exact(hw.mono (P':=TO τ4 d) (fun i c a1 a2 ho=>k4 _ _ (by omega) ho) fun a c u x ha hc=>TO.keep d fun i o a1 a2 ho=>k4 _ _ (by omega) ho).wide (TO.wide d) (by omega) (by omega)
theorem Copy_st(hh:HCp b K):∀(d:Nat) (t:Fm),Fm.sm (b.fz+1000) d t→∀σ:St,GoesCall (b.envK K) 0 (.f (.func n_Copy) [] []) [.ag (fc t)] σ (fun r τ=>∃v,r= .ok v∧FO τ d σ.next τ.next t v∧Mr σ τ)
 |0,_,h,_=>h.elim
 |d+1,t,⟨⟨h1,hsf⟩,h2,h3,h4⟩,σ=>by
  have ih:=Copy_st hh d
  refine W.codeR hh.f.e hh.f.p hh.f.f rfl rfl rfl fun z=>?_
  have H:Has σ []:=Has.nil
  generalize hq:σ.next=q
  refine wk ?_
  refine W.bx (c:=fc t) H hq rfl rfl rfl rfl rfl fun τ1 n1 H k1=>?_
  refine wk ?_
  refine W.al (c:=[.i .u8 0,.s [],.nilsl,.nilsl]) H n1 rfl rfl rfl fun τ2 n2 H k2=>?_
  refine wk ?_
  refine W.ldw H rfl rfl rfl (.tail _ (.head _)) rfl (Snp.eqb _ _ hsf) ?_
  refine wk ?_
  refine W.cy rfl rfl rfl (copyLT_st hh.lt (a:=t.oargs) h1 (fun u hu=>copyT_st hh d u (h3 u hu)) τ2) fun r τ3 ⟨w,e,hw,M3⟩=>⟨_,e,?_⟩
  have H:=H.keep M3.2
  have hM3:=M3.1
  refine wk ?_
  refine W.cy rfl rfl rfl (copyLF_st hh.lf (a:=t.osub) h2 (fun u hu=>ih u (h4 u hu)) τ3) fun r τ4 ⟨w2,e,hw2,M4⟩=>⟨_,e,?_⟩
  have H:=H.keep M4.2
  have hM4:=M4.1
  refine wk ?_
  refine W.bd (c:=[.i .u8 (Int.ofNat t.op),.s t.name,w,w2]) rfl rfl (layStep rfl rfl rfl (layStep rfl rfl rfl (layStep rfl (by rw[hw.one.1,hw.one.2.1];rfl) (by rw[hw.one.1];rfl) (layStep rfl (by rw[hw2.one.1,hw2.one.2.1];rfl) (by rw[hw2.one.1];rfl) rfl)))) ?_
  refine wk ?_
  refine W.st (c':=[.i .u8 (Int.ofNat t.op),.s t.name,w,w2]) H 0 rfl rfl rfl rfl rfl rfl fun τ5 n5 H k5=>?_
  refine wk ?_
  refine GoF.ret ⟨rfl,_,resA_1 (resV_b rfl (H.get _ (.head _)) rfl),_,rfl,⟨w,w2,τ3.next,rfl,?_,?_⟩,by omega,fun i o ho=>k5 _ _ (by have:=St.get_lt ho;omega) (M4.2 _ _ (M3.2 _ _ (k2 _ _ (k1 _ _ ho))))⟩
  ·exact(hw.mono (P':=TO τ5 d) (fun i c a1 a2 ho=>k5 _ _ (by omega) (M4.2 _ _ ho)) fun a c u x ha hc=>TO.keep d fun i o a1 a2 ho=>k5 _ _ (by omega) (M4.2 _ _ ho)).wide (TO.wide d) (by omega) (Nat.le_refl _)
  ·exact(hw2.mono (P':=FO τ5 d) (fun i c a1 a2 ho=>k5 _ _ (by omega) ho) fun a c u x ha hc=>FO.keep d fun i o a1 a2 ho=>k5 _ _ (by omega) ho).wide (FO.wide d) (Nat.le_refl _) (by omega)
end
def Ch(lo hi:Nat)(σ τ:St):Prop:=σ.next≤τ.next∧∀i o,(i<lo∨hi≤i)→σ.get i=some o→τ.get i=some o
theorem Ch.refl{lo hi:Nat}{σ:St}:Ch lo hi σ σ:=⟨Nat.le_refl _,fun _ _ _ h=>h⟩
theorem Ch.trans{lo hi:Nat}{σ τ τ':St}(h:Ch lo hi σ τ)(h':Ch lo hi τ τ'):Ch lo hi σ τ':=⟨Nat.le_trans h.1 h'.1,fun i o a b=>h'.2 i o a (h.2 i o a b)⟩
theorem Ch.wide{lo hi lo' hi':Nat}{σ τ:St}(h:Ch lo hi σ τ)(h1:lo'≤lo)(h2:hi≤hi'):Ch lo' hi' σ τ:=⟨h.1,fun i o a b=>h.2 i o (by omega) b⟩
theorem Ch.mr{lo hi:Nat}{σ τ:St}(h:Mr σ τ):Ch lo hi σ τ:=⟨h.1,fun i o _ b=>h.2 i o b⟩
theorem wrapM8(i:Nat):wrapN .u8 (Int.ofNat i)=Int.ofNat (i%256):=by
 show(Int.ofNat i)%(2^8:Int)=_
 simp
theorem op_conv8{ev:AOpd→Option AV}{σ:St}{x:AOpd}{k:IntKind}{i:Nat}(h:ev x=some (.i k (Int.ofNat i))):opx 0 ev σ (.conv .u8 x)=some (.val (.i .u8 (Int.ofNat (i%256))) σ):=by
 show(match ev x with|some (.i _ n)=>some (OpR.val (.i .u8 (wrapN .u8 n)) σ)|some (.um _ d j)=>none|_=>none)=_
 rw[h]
 show some (OpR.val (.i .u8 (wrapN .u8 (Int.ofNat i))) σ)=_
 rw[wrapM8]
theorem bin_shrM{i s:Nat}(hs:s≤64):binop .shr (nI i) (.i .u64 (Int.ofNat s))=some (nI (i/2^s)):=by
 show(if Int.ofNat s<0 then none else some (AV.i .i64 ((Int.ofNat i).fdiv (2^(min (Int.ofNat s).toNat 64)))))=_
 rw[if_neg (by simp)]
 have:(Int.ofNat s).toNat=s:=rfl
 rw[this,Nat.min_eq_left hs]
 congr 2
 show(Int.ofNat i).fdiv ((2:Int)^s)=Int.ofNat (i/2^s)
 rw[show((2:Int)^s)=Int.ofNat (2^s) from by simp]
 exact(Int.ofNat_fdiv _ _).symm
theorem op_min{ev:AOpd→Option AV}{σ:St}{x y:AOpd}{a c:Nat}(h1:ev x=some (nI a))(h2:ev y=some (nI c))(h:a≤c):opx 0 ev σ (.minmax false x y)=some (.val (nI a) σ):=by
 show(match ev x,ev y with|some (.i k a),some (.i l b)=>(if k=l then some (OpR.val (.i k (if false then(if b > a then b else a) else(if b<a then b else a))) σ) else none)|_,_=>none)=_
 rw[h1,h2]
 show(if IntKind.i64=IntKind.i64 then some (OpR.val (.i .i64 (if Int.ofNat c<Int.ofNat a then Int.ofNat c else Int.ofNat a)) σ) else none)=_
 rw[if_pos rfl,if_neg (by simp;omega)]
theorem store_some{c v:List AV}{off:Nat}(h:off+v.length≤c.length):∃c',storeCells c off v=some c'∧c'.length=c.length:=by
 refine⟨c.take off++(v++c.drop (off+v.length)),?_,?_⟩
 ·unfold storeCells;rw[if_pos (Nat.ble_eq_true_of_le h)]
 ·simp only[List.length_append,List.length_take,List.length_drop];omega
theorem slice_all{ev:AOpd→Option AV}{hi:AOpd}{k m:Nat}{sh:Option Nat}(h:ev hi=some (nI m)):sliceA ev sh (.sl k 0 m sh (some m)) none (some hi) none=some (.sl k 0 m sh (some m)):=by
 have hb:bndO ev (some hi) m=some m:=by show(match ev hi with|some v=>natOf v|none=>none)=_;rw[h];rfl
 have h0:bndO ev none 0=some 0:=rfl
 have h1:Nat.ble 0 m=true:=Nat.ble_eq_true_of_le (Nat.zero_le m)
 have h2:Nat.ble m m=true:=Nat.ble_eq_true_of_le (Nat.le_refl m)
 simp only[sliceA,if_true,h0,hb,h1,h2,Nat.zero_mul,Nat.add_zero,ite_self,Nat.sub_zero]
def mkS(k i:Nat):List Nat:=[35,k%256,k/2^8%256,k/2^16%256,47,i%256,i/2^8%256,i/2^16%256]
abbrev mtC(i:Nat):List AV:=[.b false,.s (mkS 2 i),.nilsl]
abbrev mfC(i:Nat):List AV:=[.i .u8 0,.s (mkS 2 i),.nilsl,.nilsl]
section
variable {b:Base}{K:Nat→List AV→AV→Prop}
theorem W.cv{md:Md}{env:Env}{wh:Option Nat}{D:List (Nat ⊕ (AV×List AV))}{n:Nat}{F:List (Nat×AV)}{z:Nat→AV}{σ:St}{Q:PostF}{d:Nat}{x:AOpd}{g:Option (Nat×Bool)}{ops:List AOper}{k:IntKind}{i:Nat}(hd:Nat.blt d n=true)(hw:wtL g n F=true)(h1:evL env n F z x=some (.i k (Int.ofNat i)))(h:GoM md env wh D n ops (upds ((d,.i .u8 (Int.ofNat (i%256)))::F) z) σ Q):GoM md env wh D n (⟨some d,.conv .u8 x,g,[]⟩::ops) (upds F z) σ Q:=W.val hd hw (op_conv8 h1) h
theorem byteOf_mod(i:Nat):byteOf (.i .u8 (Int.ofNat (i%256)))=some (i%256):=by
 show cond (Nat.blt (i%256) 256) _ _=_
 rw[show Nat.blt (i%256) 256=true from by simp[Nat.blt,Nat.ble_eq];have:=Nat.mod_lt i (show 256 > 0 by decide);omega];rfl
theorem markText_go(k i:Nat)(body:ACode)(hb:c_markText.body=some body):GoF (b.envK K) c_markText.ntmps body (argF [nI k,nI i]) ⟨.nil,0⟩ (DoneR c_markText.results (.s (mkS k i))):=by
 cases hb
 refine W.args fun z=>?_
 have H:Has (⟨.nil,0⟩:St) []:=Has.nil
 refine wk ?_
 refine W.cv rfl rfl rfl ?_
 refine wk ?_
 refine W.bin rfl rfl rfl rfl (bin_shrM (s:=8) (by decide)) ?_
 refine W.cv rfl rfl rfl ?_
 refine wk ?_
 refine W.bin rfl rfl rfl rfl (bin_shrM (s:=16) (by decide)) ?_
 refine W.cv rfl rfl rfl ?_
 refine wk ?_
 refine W.cv rfl rfl rfl ?_
 refine wk ?_
 refine W.bin rfl rfl rfl rfl (bin_shrM (s:=8) (by decide)) ?_
 refine W.cv rfl rfl rfl ?_
 refine wk ?_
 refine W.bin rfl rfl rfl rfl (bin_shrM (s:=16) (by decide)) ?_
 refine W.cv rfl rfl rfl ?_
 refine W.bs (c:=(mkS k i).map fun x=>.i .u8 (Int.ofNat x)) H rfl rfl rfl rfl fun τ n1 H k1=>?_
 have hg:=H.get _ (.head _)
 refine W.val (v:=.s (mkS k i)) (σ':=τ) rfl rfl ?_ ?_
 ·have hr:readList τ (.sl 0 0 8 none (some 8))=some ((mkS k i).map fun x=>AV.i .u8 (Int.ofNat x)):=by
   show(match τ.get 0 with|some (.cells c)=>elems none 8 (c.drop 0)|_=>none)=_
   rw[hg];rfl
  have hm:mapO byteOf ((mkS k i).map fun x=>AV.i .u8 (Int.ofNat x))=some (mkS k i):=by
   show mapO byteOf [_,_,_,_,_,_,_,_]=_
   simp only[mapO_cons,mapO_nil,byteOf_mod]
   rfl
  show(match readList τ (.sl 0 0 8 none (some 8)) with|some l=>(match mapO byteOf l with|some l=>some (OpR.val (.s l) τ)|none=>none)|none=>none)=_
  rw[hr]
  simp only[hm]
 refine wk ?_
 exact GoF.ret ⟨rfl,_,resA_1 (resV_v rfl),rfl⟩
theorem markTerm_go(hfn:∀g ar r r',K g ar r→K g ar r'→r=r')(e:b.ext n_markText=0∧b.pure n_markText=true)(i:Nat)(hK:K n_markText [nI 2,nI i] (.s (mkS 2 i)))(body:ACode)(hb:c_markTerm.body=some body):GoF (b.envK K) c_markTerm.ntmps body (argF [nI 2,nI i]) ⟨.nil,0⟩ (DoneR c_markTerm.results (.ag (mtC i))):=by
 cases hb
 refine W.args fun z=>?_
 have H:Has (⟨.nil,0⟩:St) []:=Has.nil
 refine wk ?_
 refine W.al (c:=[.b false,.s [],.nilsl]) H rfl rfl rfl rfl fun τ n1 H k1=>?_
 refine wk ?_
 refine W.kn hfn e hK rfl rfl rfl rfl ?_
 refine wk ?_
 refine W.st (c':=mtC i) H 0 rfl rfl rfl rfl rfl rfl fun τ2 n2 H k2=>?_
 refine wk ?_
 exact GoF.ret ⟨rfl,_,resA_1 (resV_b rfl (H.get _ (.head _)) rfl),rfl⟩
theorem markForm_go(hfn:∀g ar r r',K g ar r→K g ar r'→r=r')(e:b.ext n_markText=0∧b.pure n_markText=true)(i:Nat)(hK:K n_markText [nI 2,nI i] (.s (mkS 2 i)))(body:ACode)(hb:c_markForm.body=some body):GoF (b.envK K) c_markForm.ntmps body (argF [nI 2,nI i]) ⟨.nil,0⟩ (DoneR c_markForm.results (.ag (mfC i))):=by
 cases hb
 refine W.args fun z=>?_
 have H:Has (⟨.nil,0⟩:St) []:=Has.nil
 refine wk ?_
 refine W.al (c:=[.i .u8 0,.s [],.nilsl,.nilsl]) H rfl rfl rfl rfl fun τ n1 H k1=>?_
 refine wk ?_
 refine W.kn hfn e hK rfl rfl rfl rfl ?_
 refine wk ?_
 refine W.st (c':=mfC i) H 0 rfl rfl rfl rfl rfl rfl fun τ2 n2 H k2=>?_
 refine wk ?_
 exact GoF.ret ⟨rfl,_,resA_1 (resV_b rfl (H.get _ (.head _)) rfl),rfl⟩
theorem OverTerms_st(hfn:∀g ar r r',K g ar r→K g ar r'→r=r')(hh:Here (b.envK K) n_OverTerms c_OverTerms)(e:b.ext n_markTerm=0∧b.pure n_markTerm=true)(hm:∀i,K n_markTerm [nI 2,nI i] (.ag (mtC i))){d:Nat}{ts:List Tm}(hc:∀t∈ts,∀(v:AV) (lo hi:Nat) (σ:St),hi≤σ.next→TO σ d lo hi t v→GoesCall (b.envK K) 0 (.f (.func n_OverTerm) [] []) [v] σ (fun r τ=>r= .ok (.tu [])∧Ch lo hi σ τ))
  {lo hi:Nat} {w:AV} {σ:St} (hhi:hi≤σ.next) (hw:SlO σ (TO σ d) (some 3) lo hi ts w) (hlen:ts.length<2^20):GoesCall (b.envK K) 0 (.f (.func n_OverTerms) [] []) [w] σ (fun r τ=>r= .ok (.tu [])∧Ch lo hi σ τ):=by
 refine W.code0 hh.e hh.p hh.f rfl rfl rfl fun z=>?_
 have H:Has σ []:=Has.nil
 rcases hw with⟨_,rfl,_⟩|⟨k,xs,hk1,hne,rfl,hg,hcf,hS⟩
 ·refine wk ?_
  refine GoF.block (GoF.loop (fun k F τ=>τ=σ∧sat [(0,.nilsl),(2,nI 0)] F) (fun k F τ hI=>?_) 0 ⟨rfl,rfl,rfl,trivial⟩)
  obtain⟨e0,hs'⟩:=hI
  have e0:=e0.symm
  subst e0
  refine GoF.norm _ hs' fun F=>?_
  refine wk ?_
  refine GoF.exit ?_
  show GoW _ _ _ _ _ _ _ _
  refine wk ?_
  refine W.val (v:=nI 0) (σ':=_) rfl rfl rfl ?_
  refine wk ?_
  refine W.val (v:=nI 0) (σ':=_) rfl rfl (op_min rfl rfl (Nat.zero_le _)) ?_
  refine wk ?_
  refine GoF.block (GoF.loop (fun k F τ=>τ=σ∧sat [(3,.nilsl),(4,nI 0)] F) (fun k F τ hI=>?_) 0 ⟨rfl,rfl,rfl,trivial⟩)
  obtain⟨e0,hs'⟩:=hI
  have e0:=e0.symm
  subst e0
  refine GoF.norm _ hs' fun F=>?_
  refine wk ?_
  refine GoF.exit ?_
  exact⟨.inr rfl,rfl,Ch.refl⟩
 ·have hxl:=hS.len
  generalize hn:xs.length=n at hxl
  refine wk ?_
  refine GoF.block (GoF.loop (fun m F τ=>∃j l,j+m=n∧k+1≤l∧τ.get k=some (.cells (xs.flatMap AV.cells))∧Seqv (TO τ d) l hi (ts.drop j) (xs.drop j)∧Ch lo hi σ τ∧sat [(0,.sl k 0 n (some 3) (some n)),(2,nI j)] F) (fun m F τ hI=>?_) n ⟨0,k+1,by omega,Nat.le_refl _,hg,hS,Ch.refl,rfl,rfl,trivial⟩)
  obtain⟨j,l,hj,hl,hg,hS,hC,hs'⟩:=hI
  refine GoF.norm _ hs' fun F=>?_
  clear hs' H
  have H:Has τ []:=Has.nil
  have hv:Vw τ (some 3) (.sl k 0 n (some 3) (some n)) xs:=by
   have:=Sl.vw (Sl.sl (σ:=τ) (sh:=some 3) k (some xs.length) xs [] (by simpa using hg) hcf (.inr rfl))
   rwa[hn] at this
  by_cases hjn:j<n
  ·refine wk ?_
   rw[List.drop_eq_getElem_cons (show j<ts.length by omega),List.drop_eq_getElem_cons (show j<xs.length by omega)] at hS
   obtain⟨c,c1,c2,c3,c4⟩:=hS
   refine W.cy rfl rfl rfl (hc _ (List.getElem_mem (by omega)) _ _ _ _ (by have:=hC.1;omega) c3) fun r τ2 ⟨e2,C2⟩=>⟨_,e2,?_⟩
   refine wk ?_
   refine⟨m-1,by omega,j+1,c,by omega,by omega,C2.2 _ _ (.inl (by omega)) hg,c4.mono (A:=c) (B:=hi) (fun a a' t x h1 h2=>TO.keep d fun i o h3 h4 ho=>C2.2 _ _ (.inr (by omega)) ho) (Nat.le_refl _) (Nat.le_refl _),hC.trans (C2.wide (by omega) c2),rfl,rfl,trivial⟩
  ·refine wk ?_
   refine GoF.exit ?_
   show GoW _ _ _ _ _ _ _ _
   refine wk ?_
   refine W.val (v:=nI n) (σ':=τ) rfl rfl rfl ?_
   refine wk ?_
   rw[hn]
   refine wk ?_
   refine W.val (v:=nI n) (σ':=τ) rfl rfl (op_min rfl rfl (Nat.le_add_right n 12)) ?_
   refine W.val (v:=.sl k 0 n (some 3) (some n)) (σ':=τ) rfl rfl ?_ ?_
   ·refine(congrArg (fun x=>match x with|some v=>some (OpR.val v τ)|none=>none) (slice_all (ev:=?_) (hi:=?_) (k:=k) (sh:=some 3) (m:=n) ?_):_=_)
    rotate_left 2
    ·exact rfl
   refine wk ?_
   have hkh:=hS.le
   refine GoF.block (GoF.loop (fun m F τ=>∃j c,j+m=n∧τ.get k=some (.cells c)∧c.length=n*3∧Ch lo hi σ τ∧sat [(3,.sl k 0 n (some 3) (some n)),(4,nI j)] F) (fun m F τ hI=>?_) n ⟨0,_,by omega,hg,by rw[flat_len hcf,hn];rfl,hC,rfl,rfl,trivial⟩)
   obtain⟨j,c,hj,hg,hcl,hC,hs'⟩:=hI
   refine GoF.norm _ hs' fun F=>?_
   clear hs' H hv
   have H:Has τ [(k,c)]:=Has.nil.cons hg (by simp)
   by_cases hjn:j<n
   ·refine wk ?_
    refine W.kn hfn e (hm j) rfl rfl rfl rfl ?_
    refine wk ?_
    refine W.ix rfl rfl rfl rfl (idxSlA_sl hjn) ?_
    obtain⟨c',s1,s2⟩:=store_some (c:=c) (v:=mtC j) (off:=0+j*3) (by rw[hcl];show 0+j*3+3≤n*3;omega)
    refine W.st (c':=c') H 0 rfl rfl rfl rfl rfl s1 fun τ2 n2 H k2=>?_
    refine wk ?_
    refine⟨m-1,by omega,j+1,c',by omega,H.get _ (.head _),by rw[s2];exact hcl,hC.trans ⟨by omega,fun i o h1 h2=>k2 _ _ (by omega) h2⟩,rfl,rfl,trivial⟩
   ·refine wk ?_
    refine GoF.exit ?_
    exact⟨.inr rfl,rfl,hC⟩
theorem OverForms_st(hfn:∀g ar r r',K g ar r→K g ar r'→r=r')(hh:Here (b.envK K) n_OverForms c_OverForms)(e:b.ext n_markForm=0∧b.pure n_markForm=true)(hm:∀i,K n_markForm [nI 2,nI i] (.ag (mfC i))){d:Nat}{ts:List Fm}(hc:∀t∈ts,∀(v:AV) (lo hi:Nat) (σ:St),hi≤σ.next→FO σ d lo hi t v→GoesCall (b.envK K) 0 (.f (.func n_OverForm) [] []) [v] σ (fun r τ=>r= .ok (.tu [])∧Ch lo hi σ τ))
  {lo hi:Nat} {w:AV} {σ:St} (hhi:hi≤σ.next) (hw:SlO σ (FO σ d) (some 4) lo hi ts w) (hlen:ts.length<2^20):GoesCall (b.envK K) 0 (.f (.func n_OverForms) [] []) [w] σ (fun r τ=>r= .ok (.tu [])∧Ch lo hi σ τ):=by
 refine W.code0 hh.e hh.p hh.f rfl rfl rfl fun z=>?_
 have H:Has σ []:=Has.nil
 rcases hw with⟨_,rfl,_⟩|⟨k,xs,hk1,hne,rfl,hg,hcf,hS⟩
 ·refine wk ?_
  refine GoF.block (GoF.loop (fun k F τ=>τ=σ∧sat [(0,.nilsl),(2,nI 0)] F) (fun k F τ hI=>?_) 0 ⟨rfl,rfl,rfl,trivial⟩)
  obtain⟨e0,hs'⟩:=hI
  have e0:=e0.symm
  subst e0
  refine GoF.norm _ hs' fun F=>?_
  refine wk ?_
  refine GoF.exit ?_
  show GoW _ _ _ _ _ _ _ _
  refine wk ?_
  refine W.val (v:=nI 0) (σ':=_) rfl rfl rfl ?_
  refine wk ?_
  refine W.val (v:=nI 0) (σ':=_) rfl rfl (op_min rfl rfl (Nat.zero_le _)) ?_
  refine wk ?_
  refine GoF.block (GoF.loop (fun k F τ=>τ=σ∧sat [(3,.nilsl),(4,nI 0)] F) (fun k F τ hI=>?_) 0 ⟨rfl,rfl,rfl,trivial⟩)
  obtain⟨e0,hs'⟩:=hI
  have e0:=e0.symm
  subst e0
  refine GoF.norm _ hs' fun F=>?_
  refine wk ?_
  refine GoF.exit ?_
  exact⟨.inr rfl,rfl,Ch.refl⟩
 ·have hxl:=hS.len
  generalize hn:xs.length=n at hxl
  refine wk ?_
  refine GoF.block (GoF.loop (fun m F τ=>∃j l,j+m=n∧k+1≤l∧τ.get k=some (.cells (xs.flatMap AV.cells))∧Seqv (FO τ d) l hi (ts.drop j) (xs.drop j)∧Ch lo hi σ τ∧sat [(0,.sl k 0 n (some 4) (some n)),(2,nI j)] F) (fun m F τ hI=>?_) n ⟨0,k+1,by omega,Nat.le_refl _,hg,hS,Ch.refl,rfl,rfl,trivial⟩)
  obtain⟨j,l,hj,hl,hg,hS,hC,hs'⟩:=hI
  refine GoF.norm _ hs' fun F=>?_
  clear hs' H
  have H:Has τ []:=Has.nil
  have hv:Vw τ (some 4) (.sl k 0 n (some 4) (some n)) xs:=by
   have:=Sl.vw (Sl.sl (σ:=τ) (sh:=some 4) k (some xs.length) xs [] (by simpa using hg) hcf (.inr rfl))
   rwa[hn] at this
  by_cases hjn:j<n
  ·refine wk ?_
   rw[List.drop_eq_getElem_cons (show j<ts.length by omega),List.drop_eq_getElem_cons (show j<xs.length by omega)] at hS
   obtain⟨c,c1,c2,c3,c4⟩:=hS
   refine W.cy rfl rfl rfl (hc _ (List.getElem_mem (by omega)) _ _ _ _ (by have:=hC.1;omega) c3) fun r τ2 ⟨e2,C2⟩=>⟨_,e2,?_⟩
   refine wk ?_
   refine⟨m-1,by omega,j+1,c,by omega,by omega,C2.2 _ _ (.inl (by omega)) hg,c4.mono (A:=c) (B:=hi) (fun a a' t x h1 h2=>FO.keep d fun i o h3 h4 ho=>C2.2 _ _ (.inr (by omega)) ho) (Nat.le_refl _) (Nat.le_refl _),hC.trans (C2.wide (by omega) c2),rfl,rfl,trivial⟩
  ·refine wk ?_
   refine GoF.exit ?_
   show GoW _ _ _ _ _ _ _ _
   refine wk ?_
   refine W.val (v:=nI n) (σ':=τ) rfl rfl rfl ?_
   refine wk ?_
   rw[hn]
   refine wk ?_
   refine W.val (v:=nI n) (σ':=τ) rfl rfl (op_min rfl rfl (Nat.le_add_right n 12)) ?_
   refine W.val (v:=.sl k 0 n (some 4) (some n)) (σ':=τ) rfl rfl ?_ ?_
   ·refine(congrArg (fun x=>match x with|some v=>some (OpR.val v τ)|none=>none) (slice_all (ev:=?_) (hi:=?_) (k:=k) (sh:=some 4) (m:=n) ?_):_=_)
    rotate_left 2
    ·exact rfl
   refine wk ?_
   have hkh:=hS.le
   refine GoF.block (GoF.loop (fun m F τ=>∃j c,j+m=n∧τ.get k=some (.cells c)∧c.length=n*4∧Ch lo hi σ τ∧sat [(3,.sl k 0 n (some 4) (some n)),(4,nI j)] F) (fun m F τ hI=>?_) n ⟨0,_,by omega,hg,by rw[flat_len hcf,hn];rfl,hC,rfl,rfl,trivial⟩)
   obtain⟨j,c,hj,hg,hcl,hC,hs'⟩:=hI
   refine GoF.norm _ hs' fun F=>?_
   clear hs' H hv
   have H:Has τ [(k,c)]:=Has.nil.cons hg (by simp)
   by_cases hjn:j<n
   ·refine wk ?_
    refine W.kn hfn e (hm j) rfl rfl rfl rfl ?_
    refine wk ?_
    refine W.ix rfl rfl rfl rfl (idxSlA_sl hjn) ?_
    obtain⟨c',s1,s2⟩:=store_some (c:=c) (v:=mfC j) (off:=0+j*4) (by rw[hcl];show 0+j*4+4≤n*4;omega)
    refine W.st (c':=c') H 0 rfl rfl rfl rfl rfl s1 fun τ2 n2 H k2=>?_
    refine wk ?_
    refine⟨m-1,by omega,j+1,c',by omega,H.get _ (.head _),by rw[s2];exact hcl,hC.trans ⟨by omega,fun i o h1 h2=>k2 _ _ (by omega) h2⟩,rfl,rfl,trivial⟩
   ·refine wk ?_
    refine GoF.exit ?_
    exact⟨.inr rfl,rfl,hC⟩
structure HOv(b:Base)(K:Nat→List AV→AV→Prop):Prop where
 t:Here (b.envK K) n_OverTerm c_OverTerm
 ts:Here (b.envK K) n_OverTerms c_OverTerms
 f:Here (b.envK K) n_OverForm c_OverForm
 fs:Here (b.envK K) n_OverForms c_OverForms
 mt:b.ext n_markTerm=0∧b.pure n_markTerm=true
 mf:b.ext n_markForm=0∧b.pure n_markForm=true
 kt:∀i,K n_markTerm [nI 2,nI i] (.ag (mtC i))
 kf:∀i,K n_markForm [nI 2,nI i] (.ag (mfC i))
theorem OverTerm_st(hfn:∀g ar r r',K g ar r→K g ar r'→r=r')(hh:HOv b K):∀(d:Nat) (t:Tm),Tm.sm d t→∀(v:AV) (lo hi:Nat) (σ:St),hi≤σ.next→TO σ d lo hi t v→GoesCall (b.envK K) 0 (.f (.func n_OverTerm) [] []) [v] σ (fun r τ=>r= .ok (.tu [])∧Ch lo hi σ τ)
 |0,_,h,_,_,_,_,_,_=>h.elim
 |d+1,t,⟨h1,h2⟩,_,lo,hi,σ,hhi,⟨w,e,hw⟩=>by
  subst e
  have ih:=OverTerm_st hfn hh d
  refine W.code0 hh.t.e hh.t.p hh.t.f rfl rfl rfl fun z=>?_
  have H:Has σ []:=Has.nil
  refine wk ?_
  generalize hq:σ.next=q
  refine W.bx (c:=[.b t.var,.s t.name,w]) H hq rfl rfl rfl rfl rfl fun τ1 n1 H k1=>?_
  refine wk ?_
  have hw1:=hw.mono (τ:=τ1) (P':=TO τ1 d) (fun i c _ _ ho=>k1 _ _ ho) fun a c u x ha hc=>TO.keep d fun i o _ _ ho=>k1 _ _ ho
  refine W.cy rfl rfl rfl (OverTerms_st hfn hh.ts hh.mt hh.kt (fun u hu=>ih u (h2 u hu)) (by omega) hw1 h1) fun r τ2 ⟨e2,C2⟩=>⟨_,e2,?_⟩
  refine wk ?_
  exact⟨.inr rfl,rfl,(Ch.mr ⟨by omega,k1⟩).trans C2⟩
theorem OverForm_st(hfn:∀g ar r r',K g ar r→K g ar r'→r=r')(hh:HOv b K){M:Nat}:∀(d:Nat) (t:Fm),Fm.sm M d t→∀(v:AV) (lo hi:Nat) (σ:St),hi≤σ.next→FO σ d lo hi t v→GoesCall (b.envK K) 0 (.f (.func n_OverForm) [] []) [v] σ (fun r τ=>r= .ok (.tu [])∧Ch lo hi σ τ)
 |0,_,h,_,_,_,_,_,_=>h.elim
 |d+1,t,⟨⟨h1,_⟩,h2,h3,h4⟩,_,lo,hi,σ,hhi,⟨w,w2,m,e,hw,hw2⟩=>by
  subst e
  have ih:=OverForm_st hfn hh (M:=M) d
  refine W.code0 hh.f.e hh.f.p hh.f.f rfl rfl rfl fun z=>?_
  have H:Has σ []:=Has.nil
  have l1:=hw.le
  have l2:=hw2.le
  refine wk ?_
  generalize hq:σ.next=q
  refine W.bx (c:=[.i .u8 (Int.ofNat t.op),.s t.name,w,w2]) H hq rfl rfl rfl rfl rfl fun τ1 n1 H k1=>?_
  refine wk ?_
  have hw1:=hw.mono (τ:=τ1) (P':=TO τ1 d) (fun i c _ _ ho=>k1 _ _ ho) fun a c u x ha hc=>TO.keep d fun i o _ _ ho=>k1 _ _ ho
  refine W.cy rfl rfl rfl (OverTerms_st hfn hh.ts hh.mt hh.kt (fun u hu=>OverTerm_st hfn hh d u (h3 u hu)) (by omega) hw1 h1) fun r τ2 ⟨e2,C2⟩=>⟨_,e2,?_⟩
  have H:=Has.nil.cons (C2.2 q _ (.inr (by omega)) (H.get _ (.head _))) (by simp)
  refine wk ?_
  have hw2':=(hw2.mono (τ:=τ1) (P':=FO τ1 d) (fun i c _ _ ho=>k1 _ _ ho) fun a c u x ha hc=>FO.keep d fun i o _ _ ho=>k1 _ _ ho).mono (τ:=τ2) (P':=FO τ2 d) (fun i c a1 _ ho=>C2.2 _ _ (.inr a1) ho) fun a c u x ha hc=>FO.keep d fun i o a1 _ ho=>C2.2 _ _ (.inr (by omega)) ho
  refine W.cy rfl rfl rfl (OverForms_st hfn hh.fs hh.mf hh.kf (fun u hu=>ih u (h4 u hu)) (by have:=C2.1;omega) hw2' h2) fun r τ3 ⟨e3,C3⟩=>⟨_,e3,?_⟩
  refine wk ?_
  exact⟨.inr rfl,rfl,((Ch.mr ⟨by omega,k1⟩).trans (C2.wide (Nat.le_refl _) l2)).trans (C3.wide l1 (Nat.le_refl _))⟩
end
def cutCs(T:List Ln)(k:Nat)(num:List Nat)(cs:List (Nat×Nat)):List (Nat×Nat):=cs.map fun ac=>(num.getD (cond (isBoxB T (boxL T) k ac.1 ac.2) ac.1 ac.2) 0,num.getD ac.2 0)
def cutS(T:List Ln):Nat→List Nat×List Ln
 |0=>(List.replicate (T.length+1) 0,[])
 |i+1=>match T[i]? with
  |some x=>cond ((wanL T).getD i false) ((cutS T i).1.set (i+1) ((cutS T i).2.length+1),(cutS T i).2++[{x with cs:=cutCs T (i+1) (cutS T i).1 x.cs}]) (cutS T i)
  |none=>cutS T i
def cutL(T:List Ln):List Ln:=(cutS T T.length).2
theorem cutS_len{T:List Ln}:∀ {i:Nat},(cutS T i).1.length=T.length+1∧(cutS T i).2.length≤i
 |0=>⟨List.length_replicate,Nat.le_refl _⟩
 |i+1=>by
  have ih:=cutS_len (T:=T) (i:=i)
  unfold cutS
  split
  ·cases(wanL T).getD i false with
   |true=>rw[cond_true];exact⟨by rw[List.length_set];exact ih.1,by rw[List.length_append];show _+1≤_;omega⟩
   |false=>exact⟨ih.1,by rw[cond_false];omega⟩
  ·exact⟨ih.1,by omega⟩
abbrev prC(c:Nat×Nat):AV:=.ag [nI c.1,nI c.2]
inductive SlS(W:Nat→Prop)(σ:St)(sh:Option Nat):AV→List AV→Prop
 |nil:SlS W σ sh .nilsl []
 |sl (o:Nat) (cap:Option Nat) (xs rest:List AV) (hW:W o) (h:σ.get o=some (.cells (xs.flatMap AV.cells++rest))) (hc:∀y∈xs,conf sh y=true) (hk:cap=none∨cap=some xs.length) (hne:xs≠[]):SlS W σ sh (.sl o 0 xs.length sh cap) xs
theorem SlS.keep{W W':Nat→Prop}{σ τ:St}{sh:Option Nat}{v:AV}{xs:List AV}(h:SlS W σ sh v xs)(k:∀i c,W i→σ.get i=some (.cells c)→W' i∧τ.get i=some (.cells c)):SlS W' τ sh v xs:=by
 cases h with
 |nil=>exact .nil
 |sl o cap xs rest hW h hc hk hne=>exact .sl o cap xs rest (k _ _ hW h).1 (k _ _ hW h).2 hc hk hne
theorem SlS.one{W:Nat→Prop}{σ:St}{sh:Option Nat}{v:AV}{xs:List AV}(h:SlS W σ sh v xs):v.cells=[v]∧v.val=true∧conf none v=true:=by
 cases h<;>exact⟨rfl,rfl,rfl⟩
def LO(σ:St)(d lo hi:Nat)(x:Ln)(v:AV):Prop:=∃m w1 w2 cv,lo≤m∧m≤hi∧v= .ag [nI x.dp,nI x.op,.b x.hyp,.i .u8 (Int.ofNat x.f.op),.s x.f.name,w1,w2,.s x.rule,cv]∧SlS (fun o=>lo≤o∧o<m) σ (some 2) cv (x.cs.map prC)∧FO σ d m hi x.f (.ag [.i .u8 (Int.ofNat x.f.op),.s x.f.name,w1,w2])
theorem LO.keep{σ τ:St}{d lo hi:Nat}{x:Ln}{v:AV}(h:LO σ d lo hi x v)(k:∀i c,lo≤i→i<hi→σ.get i=some (.cells c)→τ.get i=some (.cells c)):LO τ d lo hi x v:=by
 obtain⟨m,w1,w2,cv,h1,h2,h3,h4,h5⟩:=h
 exact⟨m,w1,w2,cv,h1,h2,h3,h4.keep fun i c hi hc=>⟨hi,k _ _ hi.1 (by omega) hc⟩,h5.keep d fun i c a1 a2 hc=>k _ _ (by omega) a2 hc⟩
theorem LO.wide{σ:St}{d:Nat}(a c a' c':Nat)(x:Ln)(v:AV)(h1:a'≤a)(h2:c≤c')(h:LO σ d a c x v):LO σ d a' c' x v:=by
 obtain⟨m,w1,w2,cv,h3,h4,h5,h6,h7⟩:=h
 exact⟨m,w1,w2,cv,by omega,by omega,h5,h6.keep fun i c hi hc=>⟨⟨by omega,hi.2⟩,hc⟩,FO.wide d _ _ _ _ _ _ (Nat.le_refl _) h2 h7⟩
structure CS(d:Nat)(σ:St)(q u:Nat)(T:List Ln)(w:AV)(i:Nat)(τ:St):Prop where
 hk:∀i o,σ.get i=some o→τ.get i=some o
 hq:τ.get q=some (.cells ((wanL T).map AV.b))
 hu:τ.get u=some (.cells ((cutS T i).1.map nI))
 kv:∃kv hi,Sl τ (some 9) w kv∧Seqv (LO τ d) (u+1) hi (cutS T i).2 kv∧hi≤τ.next∧(∀o,w.at? =some o→hi≤o)∧((cutS T i).2=[]→w= .nilsl)
 hn:u<τ.next
theorem CS.lo{d:Nat}{σ:St}{q u:Nat}{T:List Ln}{w:AV}{i:Nat}{τ:St}(h:CS d σ q u T w i τ):∀o,w.at? =some o→u<o:=fun o ho=>by
 obtain⟨kv,hi,_,h2,_,h4,_⟩:=h.kv
 have:=h2.le
 have:=h4 o ho
 omega
theorem CS.mr{d:Nat}{σ:St}{q u:Nat}{T:List Ln}{w:AV}{i:Nat}{τ τ':St}(h:CS d σ q u T w i τ)(M:Mr τ τ'):CS d σ q u T w i τ':=by
 obtain⟨kv,hi,h1,h2,h3,h4,h5⟩:=h.kv
 exact⟨fun i o ho=>M.2 _ _ (h.hk i o ho),M.2 _ _ h.hq,M.2 _ _ h.hu,⟨kv,hi,h1.keep fun i o _=>M.2 i o,h2.mono (A:=u+1) (B:=hi) (fun a c t x _ _ hx=>hx.keep fun i c _ _ hc=>M.2 _ _ hc) (Nat.le_refl _) (Nat.le_refl _),by have:=M.1;omega,h4,h5⟩,by have:=M.1;have:=h.hn;omega⟩
theorem take_num{l:List Nat}{n:Nat}(h:n<l.length):takeSh none ((l.map nI).drop (0+n*shN none))=some (nI (l.getD n 0)):=by
 have e:0+n*shN none=n:=by show 0+n*1=n;omega
 rw[e,← List.map_drop,List.drop_eq_getElem_cons h,List.getD_eq_getElem?_getD,List.getElem?_eq_getElem h];rfl
theorem store_num{l:List Nat}{n m:Nat}(h:n<l.length):storeCells (l.map nI) (0+n*shN none) (nI m).cells=some ((l.set n m).map nI):=by
 have e:0+n*shN none=n:=by show 0+n*1=n;omega
 rw[e]
 unfold storeCells
 rw[if_pos (Nat.ble_eq_true_of_le (by show n+1≤_;rw[List.length_map];omega))]
 show some ((l.map nI).take n++([nI m]++(l.map nI).drop (n+1)))=_
 rw[List.set_eq_take_append_cons_drop,if_pos h]
 simp
end
def obB(Bs:List (Nat×List AV))(ks:List Nat):Ob:=ks.flatMap fun k=>Bs.map fun p=>(k,p.1,.cells p.2)
theorem mem_obB{Bs:List (Nat×List AV)}{ks:List Nat}{k:Nat}{p:Nat×List AV}(h1:k∈ks)(h2:p∈Bs):(k,p.1,.cells p.2)∈obB Bs ks:=List.mem_flatMap.2 ⟨k,h1,List.mem_map.2 ⟨p,h2,rfl⟩⟩
theorem GoD.weak{env:Env}{D:List (Nat ⊕ (AV×List AV))}{n N:Nat}{ob ob':Ob}{ops:List AOper}{f:Nat→AV}{σ:St}{Q:PostF}(hs:∀p∈ob,p∈ob')(h:GoD env D n N ob' ops f σ Q):GoD env D n N ob ops f σ Q:=fun fr hfr=>by
 obtain⟨F0,outs,g0,g2,g1⟩:=h fr hfr
 refine⟨F0,outs,g0,g2,fun F hF=>?_⟩
 obtain⟨L,e,a3,a4⟩:=g1 F hF
 exact⟨L,e,a3,fun x hx=>⟨(a4 x hx).way,fun p hp=>(a4 x hx).ob p (hs p hp),(a4 x hx).saw⟩⟩
structure HasB(σ:St)(Bs:List (Nat×List AV)):Prop where
 get:∀p∈Bs,σ.get p.1=some (.cells p.2)
theorem HasB.nil{σ:St}:HasB σ []:=⟨fun _ h=>absurd h (by simp)⟩
theorem HasB.cons{σ:St}{Bs:List (Nat×List AV)}{k:Nat}{c:List AV}(h:HasB σ Bs)(hk:σ.get k=some (.cells c)):HasB σ ((k,c)::Bs):=⟨fun p hp=>by
 rcases List.mem_cons.1 hp with rfl|hp
 ·exact hk
 ·exact h.get p hp⟩
theorem HasB.keep{σ τ:St}{Bs:List (Nat×List AV)}(h:HasB σ Bs)(k:∀i o,σ.get i=some o→τ.get i=some o):HasB τ Bs:=⟨fun p hp=>k _ _ (h.get p hp)⟩
namespace W
section
variable {env:Env}{wh:Option Nat}{D:List (Nat ⊕ (AV×List AV))}{n N:Nat}{F:List (Nat×AV)}{z:Nat→AV}{σ:St}{Q:PostF}{Bs:List (Nat×List AV)}{ks:List Nat}
theorem dwB(Bs:List (Nat×List AV))(ks:List Nat)(N:Nat){ops:List AOper}(hN:Nat.beq ops.length N=true)(hs:swapT ops=true)(h:GoM (.dr N (obB Bs ks)) env wh D n ops (upds F z) σ Q):GoW env wh D n (.draw ops) (upds F z) σ Q:=by
 obtain rfl:=Nat.eq_of_beq_eq_true hN
 exact GoF.drawD hs (GoD.weak (ob':=obB Bs ks) (fun p hp=>by simp at hp) h)
theorem ldB(HB:HasB σ Bs){d:Nat}{sh:Option Nat}{x:AOpd}{g:Option (Nat×Bool)}{wn:List Nat}{ops:List AOper}{id off:Nat}{c:List AV}{v:AV}(hm:(id,c)∈Bs)(hwn:allB (inN ks) wn=true)(hd:Nat.blt d n=true)(hw:wtL g n F=true)(h1:evL env n F z x=some (.p (some (id,off))))(h2:takeSh sh (c.drop off)=some v)(hv:AV.eqb env.fz v v=true)
  (h:GoM (.dr N (obB Bs ks)) env wh D n ops (upds ((d,v)::F) z) σ Q):GoM (.dr N (obB Bs ks)) env wh D n (⟨some d,.load sh x,g,wn⟩::ops) (upds F z) σ Q:=
 lxw (HB.get _ hm) hd hw h1 h2 hv (GoD.weak (ob:=wn.map (fun q=>(q,id,AO.cells c))++obB Bs ks) (fun p hp=>by
  rcases List.mem_append.1 hp with hp|hp
  ·obtain⟨q,hq,rfl⟩:=List.mem_map.1 hp
   exact mem_obB (p:=(id,c)) (inN_mem (allB_mem hwn q hq)) hm
  ·exact hp) h)
theorem ldC{d:Nat}{sh:Option Nat}{x:AOpd}{g:Option (Nat×Bool)}{wn:List Nat}{ops:List AOper}{id off:Nat}{c:List AV}{v:AV}(hs:σ.get id=some (.cells c))(hm:(id,c)∈Bs)(hwn:allB (inN ks) wn=true)(hd:Nat.blt d n=true)(hw:wtL g n F=true)(h1:evL env n F z x=some (.p (some (id,off))))(h2:takeSh sh (c.drop off)=some v)(hv:AV.eqb env.fz v v=true)
  (h:GoM (.dr N (obB Bs ks)) env wh D n ops (upds ((d,v)::F) z) σ Q):GoM (.dr N (obB Bs ks)) env wh D n (⟨some d,.load sh x,g,wn⟩::ops) (upds F z) σ Q:=
 lxw hs hd hw h1 h2 hv (GoD.weak (ob:=wn.map (fun q=>(q,id,AO.cells c))++obB Bs ks) (fun p hp=>by
  rcases List.mem_append.1 hp with hp|hp
  ·obtain⟨q,hq,rfl⟩:=List.mem_map.1 hp
   exact mem_obB (p:=(id,c)) (inN_mem (allB_mem hwn q hq)) hm
  ·exact hp) h)
theorem nowB{k:Nat}{ops:List AOper}(HB:HasB σ Bs)(hk:Nat.beq (k+ops.length) N=true)(h:GoM (.dr N (obB Bs ks)) env wh D n ops (upds F z) σ Q):GoM (.dr N (obB Bs (k::ks))) env wh D n ops (upds F z) σ Q:=fun fr hfr=>by
 obtain⟨F0,outs,g0,g2,g1⟩:=h fr hfr
 refine⟨F0,outs,g0,g2,fun F hF=>?_⟩
 obtain⟨L,e,a3,a4⟩:=g1 F hF
 refine⟨L,e,a3,fun x hx=>⟨(a4 x hx).way,fun p hp=>?_,(a4 x hx).saw⟩⟩
 obtain⟨t,a1,_⟩:=(a4 x hx).way
 obtain⟨k',hk',hp⟩:=List.mem_flatMap.1 hp
 obtain⟨q,hq,rfl⟩:=List.mem_map.1 hp
 rcases List.mem_cons.1 hk' with rfl|hk'
 ·exact⟨0,σ,Nat.eq_of_beq_eq_true hk,by rw[a1];rfl,HB.get _ hq⟩
 ·exact(a4 x hx).ob _ (mem_obB hk' hq)
end
end W
theorem wq{P R:Prop}(k:R)(h:Hid R→P:=by
 intro k
 repeat (first
  |refine W.go rfl rfl rfl rfl ?_
  |refine W.off rfl rfl ?_
  |(refine W.iL ?_;first|refine W.lt rfl rfl rfl rfl ?_|refine W.lt rfl rfl rfl slA_cf ?_|(refine W.ld (c:=?_) (v:=?_) H rfl rfl rfl ?_ ?_ ?_;rotate_left 2;(repeat (first|exact .head _|refine .tail _ ?_));exact rfl)|refine W.le rfl rfl rfl (Nv.ld (by assumption) (by omega)) ?_|refine W.le rfl rfl rfl (Vw.ld (by assumption) (by omega)) ?_)
  |(refine W.iB ?_;first|refine W.ct rfl rfl rfl rfl (by simp only[W.cmpP,List.length_cons,List.length_nil];first|done|omega|exact id|exact fun h=>h trivial) ?_|refine W.cf rfl rfl rfl rfl rfl (by simp only[W.cmpP,List.length_cons,List.length_nil];first|done|omega|exact id|exact fun h=>h trivial) ?_|refine W.bin rfl rfl rfl rfl (bin_a1 (by omega)) ?_|refine W.bin rfl rfl rfl rfl (bin_s1 (by omega) (by omega)) ?_|refine W.bin rfl rfl rfl rfl (bin_add (by omega)) ?_|refine W.bin rfl rfl rfl rfl (bin_sub (by omega) (by omega)) ?_)
  |(refine W.iX ?_;first|refine W.ix rfl rfl rfl rfl (lns_ix (by omega)) ?_|refine W.ix rfl rfl rfl rfl (slA_idxM (by omega)) ?_|refine W.ix rfl rfl rfl rfl (Nv.ix (by assumption) (by omega)) ?_|refine W.ix rfl rfl rfl rfl (Vw.ix (by assumption) (by omega)) ?_)
  |(refine W.iN ?_;first|refine W.len rfl rfl rfl lns_len ?_|refine W.len rfl rfl rfl slA_lenM ?_|refine W.len rfl rfl rfl (Nv.len (by assumption) _) ?_|refine W.len rfl rfl rfl (Vw.len (by assumption) _) ?_|refine W.len rfl rfl rfl rfl ?_)
  |(refine W.iW ?_;first|(refine W.ldB (c:=?_) (v:=?_) HB ?_ rfl rfl rfl rfl ?_ ?_ ?_;rotate_left 2;(repeat (first|exact .head _|refine .tail _ ?_));exact rfl;first|exact eqb1 rfl|exact eqb2 rfl))
  |refine W.nild ?_)
 exact k.out):P:=h ⟨k⟩
section
attribute [local irreducible] GoM GoW GoV GoD GoesCall
def cutB:ACode:=match c_fCut.body with|some c=>c|none=>.skip
abbrev FC(p q u i:Nat)(T:List Ln)(w:AV):List (Nat×AV):=[(31,nI i),(30,nI T.length),(29,lnsA T),(8,w),(7,.sl u 0 (T.length+1) none (some (T.length+1))),(6,.sl q 0 T.length none (some T.length)),(4,pt p),(0,lnsA T)]
section
variable {b:Base}{K:Nat→List AV→AV→Prop}{σ τ:St}{p q u i:Nat}{T:List Ln}{w:AV}
theorem Cut_cites(hf:HF b K){N:List (List Nat)}(hP:Pr σ p T (boxL T) N)(hD:Dm T (boxL T)){d0:Nat}(h:CS d0 σ q u T w i τ){x:Ln}(hi:i<T.length)(hc:Cok (i+1) x.cs){m:Nat}{lc:List AV}(hm:u<m)(hmw:w.at? ≠some m)(hmq:q≠m)(hl:τ.get m=some (.cells lc))(hl8:takeSh none (lc.drop 8)=some (csA true x.cs)){z:Nat→AV}{Q:PostF}
  (hQ:∀F τ' cv,sat ((11,cv)::(10,pt m)::(9,nI i)::FC p q u i T w) F→Mr τ τ'→SlS (fun o=>m<o) τ' (some 2) cv ((cutCs T (i+1) (cutS T i).1 x.cs).map prC)→Q .normal F τ'):
  GoW (b.envK K) none [] c_fCut.ntmps (pth [1,1,1,1,1,1,0,1,0,0,1,1,0,0,1,1,1,0] cutB) (upds ((11,.nilsl)::(10,pt m)::(9,nI i)::FC p q u i T w) z) τ Q:=by
 have H:Has τ [(m,lc)]:=Has.nil.cons hl (by simp)
 have hcl:=hc.1
 have hnl:=(cutS_len (T:=T) (i:=i)).1
 have hTl:=hD.lt
 have hu:=h.hn
 refine W.sq ?_
 refine wk ?_
 refine W.ld H rfl rfl rfl (.head _) hl8 ?_
 refine wk ?_
 show GoW _ _ _ _ _ _ _ _
 generalize hnm:(cutS T i).1=num at hnl hQ
 refine GoF.each x.cs.length (fun j F τ'=>∃cv,Mr τ τ'∧Sl τ' (some 2) cv ((cutCs T (i+1) num (x.cs.take j)).map prC)∧(x.cs.take j=[]→cv= .nilsl)∧(∀o,cv.at? =some o→τ.next≤o)∧sat ((42,csA true x.cs)::(11,cv)::(10,pt m)::(9,nI i)::FC p q u i T w) F) (by omega) ⟨.nilsl,⟨Nat.le_refl _,fun _ _ h=>h⟩,.nil,(fun _=>rfl),(fun _ h=>by cases h),rfl,rfl,rfl,rfl,rfl,rfl,rfl,rfl,rfl,rfl,rfl,rfl,trivial⟩ rfl rfl (fun j F τ' hj hI hi2 hm2=>?_) (fun F τ' hI hi2=>?_)
 ·obtain⟨cv,M,hcv,hcn,hco,hs⟩:=hI
  have h0:=h
  have h:=h.mr M
  have hl:=M.2 _ _ hl
  refine GoF.norm ((44,nI j)::(43,nI x.cs.length)::(42,csA true x.cs)::(11,cv)::(10,pt m)::(9,nI i)::FC p q u i T w) ⟨hi2,hm2,hs⟩ fun F=>?_
  have H:Has τ' [(m,lc)]:=Has.nil.cons hl (by simp)
  obtain⟨ha,hac,hck⟩:=hc.2 _ (List.getElem_mem hj)
  have htk:cutCs T (i+1) num (x.cs.take (j+1))=cutCs T (i+1) num (x.cs.take j)++cutCs T (i+1) num [x.cs[j]]:=by unfold cutCs;rw[List.take_succ_eq_append_getElem hj,List.map_append]
  have hne1:x.cs.take (j+1)≠[]:=fun e=>by have:=congrArg List.length e;simp only[List.length_take,List.length_nil] at this;omega
  refine wk ?_
  generalize x.cs[j]=ac at ha hac hck htk
  obtain⟨a,d⟩:=ac
  simp only[] at ha hac hck
  generalize hn1:τ'.next=k
  refine W.vr (c:=[nI a,nI d]) H hn1 rfl rfl rfl rfl rfl rfl fun τ2 n2 H k2=>?_
  have h:=h.mr (τ':=τ2) ⟨by omega,k2⟩
  refine wk ?_
  refine W.cy rfl rfl rfl (isBox_go hf (hP.keep h.hk) hD (i+1) a d ha hac hck (by omega)) fun r τ3 ⟨e,M3⟩=>⟨_,e,?_⟩
  have h:=h.mr M3
  have H:=H.keep M3.2
  have hcv:=hcv.keep (τ:=τ3) fun i o _ ho=>M3.2 _ _ (k2 _ _ ho)
  refine W.nil ?_
  refine W.cutM (α:=Unit) (fun _=>(14,nI (cond (isBoxB T (boxL T) (i+1) a d) a d))::(13,pt k)::(44,nI j)::(43,nI x.cs.length)::(42,csA true x.cs)::(11,cv)::(10,pt m)::(9,nI i)::FC p q u i T w) (fun _ τ=>τ3=τ) ?_ ?_
  ·cases isBoxB T (boxL T) (i+1) a d with
   |true=>
    refine wk ?_
    exact⟨rfl,(),rfl,rfl,rfl,rfl,rfl,rfl,rfl,rfl,rfl,rfl,rfl,rfl,rfl,rfl,rfl,rfl,rfl,trivial⟩
   |false=>
    refine wk ?_
    exact⟨rfl,(),rfl,rfl,rfl,rfl,rfl,rfl,rfl,rfl,rfl,rfl,rfl,rfl,rfl,rfl,rfl,rfl,rfl,trivial⟩
  rintro _ F _ rfl
  have hf1:cond (isBoxB T (boxL T) (i+1) a d) a d<num.length:=by cases isBoxB T (boxL T) (i+1) a d<;>simp only[cond_true,cond_false]<;>omega
  have hd1:d<num.length:=by omega
  have hcu:=h.hu
  rw[hnm] at hcu
  have hk:=H.get _ (.head _)
  have HB:HasB τ3 [(u,num.map nI),(k,[nI a,nI d])]:=(HasB.nil.cons hk).cons hcu
  refine W.dwB [(u,num.map nI),(k,[nI a,nI d])] [12] 14 rfl rfl ?_
  refine wq ?_
  refine W.ix rfl rfl rfl rfl (idxSlA_sl (by omega)) ?_
  refine W.ldC hcu (.head _) rfl rfl rfl rfl (take_num hf1) (eqb1 rfl) ?_
  refine wq ?_
  refine W.ix rfl rfl rfl rfl (idxSlA_sl (by omega)) ?_
  refine W.ldC hcu (.head _) rfl rfl rfl rfl (take_num hd1) (eqb1 rfl) ?_
  refine wq ?_
  generalize hn3:τ3.next=k3
  have k33:k<k3:=by have:=St.get_lt hk;omega
  refine W.bs (c:=[nI (num.getD (cond (isBoxB T (boxL T) (i+1) a d) a d) 0),nI (num.getD d 0)]) H hn3 rfl rfl rfl fun τ4 n4 H k4=>?_
  refine W.nowB (HB.keep k4) rfl ?_
  have hb:=H.get _ (.head _)
  have hlen:((cutCs T (i+1) num (x.cs.take j)).map prC).length=j:=by unfold cutCs;rw[List.length_map,List.length_map,List.length_take];omega
  refine W.ap (w:=.sl k3 0 1 (some 2) (some 1)) (prC (num.getD (cond (isBoxB T (boxL T) (i+1) a d) a d) 0,num.getD d 0)) [] (hcv.keep fun i o _ ho=>k4 i o ho) ?_ (fun z hz=>by rw[List.mem_singleton.1 hz];rfl) (by rw[hlen];show(3*(j+1)+2000)*16≤_;omega) rfl rfl rfl rfl fun v' τ5 a1 a2 a3 n5 k5=>?_
  ·show(match τ4.get k3 with|some (.cells c)=>elems (some 2) 1 (c.drop 0)|_=>none)=_
   rw[hb];rfl
  refine wq ?_
  have M35:∀i o,cv.at? ≠some i→τ3.get i=some o→τ5.get i=some o:=fun i o hi ho=>k5 _ _ hi (k4 _ _ ho)
  refine⟨rfl,rfl,v',⟨by have:=M3.1;have:=M.1;omega,fun i o ho=>M35 _ _ (fun e=>by have:=hco _ e;have:=St.get_lt ho;omega) (M3.2 _ _ (k2 _ _ (M.2 _ _ ho)))⟩,?_,fun e=>absurd e hne1,fun o ho=>by rw[a2] at ho;cases ho;have:=M3.1;have:=M.1;omega,rfl,rfl,rfl,rfl,rfl,rfl,rfl,rfl,rfl,rfl,rfl,rfl,trivial⟩
  rw[htk,List.map_append];exact a1
 ·obtain⟨cv,M,hcv,hcn,hco,_,hs⟩:=hI
  rw[List.take_length] at hcv hcn
  refine hQ _ _ cv hs M ?_
  have hml:=St.get_lt hl
  cases hx:x.cs with
  |nil=>rw[hcn hx];exact .nil
  |cons y l=>
   rw[hx] at hcv
   generalize hxs:(cutCs T (i+1) num (y::l)).map prC=xs at hcv
   cases hcv with
   |nil=>simp[cutCs] at hxs
   |sl o cap xs rest hg hc hk=>exact .sl o cap xs rest (by have:=hco o rfl;omega) hg hc hk (fun e=>by subst e;simp[cutCs] at hxs)
end
section
variable {b:Base}{K:Nat→List AV→AV→Prop}{σ τ:St}{p q u i:Nat}{T:List Ln}{w:AV}{d:Nat}
theorem Cut_line(hf:HF b K)(hcp:HCp b K)(hsm:∀x∈T,Fm.sm (b.fz+1000) d x.f){N:List (List Nat)}(hP:Pr σ p T (boxL T) N)(hD:Dm T (boxL T))(hqu:q<u)(hσu:σ.next≤u)(h5:T.length≤500)(h:CS d σ q u T w i τ)(hi:i<T.length)(hc:∀x,T[i]? =some x→Cok (i+1) x.cs){z:Nat→AV}{Q:PostF}
  (hQ:∀F τ' w',sat (FC p q u i T w') F→CS d σ q u T w' (i+1) τ'→Q .normal F τ'):
  GoW (b.envK K) none [] c_fCut.ntmps (pth [1,1,1,1,1,1,0,1,0,0,1,1,0] cutB) (upds (FC p q u i T w) z) τ Q:=by
 have hx:T[i]? =some T[i]:=List.getElem?_eq_getElem hi
 have hxm:T[i]∈T:=List.getElem_mem hi
 have hc:=hc _ hx
 have hsm:=hsm _ hxm
 have hwl:(wanL T).length=T.length:=wanD_len
 have hcut:cutS T (i+1)=cond ((wanL T)[i]'(by omega)) ((cutS T i).1.set (i+1) ((cutS T i).2.length+1),(cutS T i).2++[{T[i] with cs:=cutCs T (i+1) (cutS T i).1 T[i].cs}]) (cutS T i):=by
  rw[cutS,hx,List.getD_eq_getElem?_getD,List.getElem?_eq_getElem (by omega)];rfl
 have H:Has τ [(q,(wanL T).map AV.b)]:=Has.nil.cons h.hq (by simp)
 refine GoF.block ?_
 refine W.sq ?_
 refine wk ?_
 generalize T[i]=x at hx hxm hc hsm hcut
 have h0:=h
 generalize hnx:τ.next=m
 have hu:=h.hn
 refine W.al (c:=[nI 0,nI 0,.b false,.i .u8 0,.s [],.nilsl,.nilsl,.s [],.nilsl]) H hnx rfl rfl rfl fun τ1 n1 H k1=>?_
 refine wk ?_
 refine W.st (c':=[nI x.dp,nI x.op,.b x.hyp,.i .u8 (Int.ofNat x.f.op),.s x.f.name,tmsA true x.f.oargs,fmsA true x.f.osub,.s x.rule,csA true x.cs]) H 0 rfl rfl rfl rfl rfl rfl fun τ2 n2 H k2=>?_
 have k12:∀i o,τ.get i=some o→τ2.get i=some o:=fun i o ho=>k2 _ _ (by have:=St.get_lt ho;omega) (k1 _ _ ho)
 have h:=h.mr (τ':=τ2) ⟨by omega,k12⟩
 refine wk ?_
 refine W.ix rfl rfl rfl rfl (idxSlA_sl hi) ?_
 refine W.ld H rfl rfl rfl (.tail _ (.head _)) (take_bl (by omega)) ?_
 generalize hg:(wanL T)[i]'(by omega)=t at hcut
 cases t with
 |false=>
  refine wk ?_
  refine GoF.exit ?_
  refine hQ _ _ w ⟨rfl,rfl,rfl,rfl,rfl,rfl,rfl,rfl,trivial⟩ ?_
  have e:cutS T (i+1)=cutS T i:=hcut
  exact⟨h.hk,h.hq,by rw[e];exact h.hu,by rw[e];exact h.kv,h.hn⟩
 |true=>
  refine wo ?_
  refine W.nil (W.ct0 rfl (GoF.skip ?_))
  refine W.sq (W.rg ?_)
  refine wo ?_
  refine W.nil (GoF.seq ?_)
  refine GoF.norm ((11,.nilsl)::(10,pt m)::(9,nI i)::FC p q u i T w) ⟨rfl,rfl,rfl,rfl,rfl,rfl,rfl,rfl,rfl,rfl,rfl,trivial⟩ fun F=>?_
  have hwm:w.at? ≠some m:=fun e=>by
   obtain⟨kv,hi,a1,_⟩:=h0.kv
   have:=a1.lt e;omega
  have hqm:q≠m:=by omega
  refine Cut_cites hf hP hD h hi hc (by omega) hwm hqm (H.get _ (.head _)) rfl fun F τ3 cv hF M3 hcv=>?_
  have hl:=M3.2 _ _ (H.get _ (.head _))
  refine GoF.norm ((11,cv)::(10,pt m)::(9,nI i)::FC p q u i T w) hF fun F=>?_
  clear H
  have H:Has τ3 [(m,[nI x.dp,nI x.op,.b x.hyp,.i .u8 (Int.ofNat x.f.op),.s x.f.name,tmsA true x.f.oargs,fmsA true x.f.osub,.s x.rule,csA true x.cs])]:=Has.nil.cons hl (by simp)
  obtain⟨hv1,hv2,hv3⟩:=hcv.one
  refine W.sq ?_
  refine wk ?_
  refine W.cy rfl rfl rfl (Copy_st hcp d x.f hsm τ3) fun r τc ⟨v,ev,hv,Mc⟩=>⟨_,ev,?_⟩
  obtain⟨w1,w2,rfl⟩:∃w1 w2,v= .ag [.i .u8 (Int.ofNat x.f.op),.s x.f.name,w1,w2]:=by
   cases d with
   |zero=>exact hv.elim
   |succ d=>obtain⟨w1,w2,_,e,_⟩:=hv;exact⟨w1,w2,e⟩
  have H:=H.keep Mc.2
  have hMc:=Mc.1
  refine wk ?_
  refine W.st (c':=[nI x.dp,nI x.op,.b x.hyp,.i .u8 (Int.ofNat x.f.op),.s x.f.name,w1,w2,.s x.rule,csA true x.cs]) H 0 rfl rfl rfl rfl rfl rfl fun τ4 n4 H k4=>?_
  refine wk ?_
  refine W.st (c':=[nI x.dp,nI x.op,.b x.hyp,.i .u8 (Int.ofNat x.f.op),.s x.f.name,w1,w2,.s x.rule,cv]) H 0 rfl rfl rfl rfl hv3 (by rw[hv1];rfl) fun τ5 n5 H k5=>?_
  refine wk ?_
  obtain⟨kv,hi0,hs,hS,hi1,hi2,hi3⟩:=h0.kv
  have t3:∀i o,τ.get i=some o→τ3.get i=some o:=fun i o ho=>M3.2 _ _ (k12 _ _ ho)
  have t3c:∀i o,τ.get i=some o→τc.get i=some o:=fun i o ho=>Mc.2 _ _ (t3 i o ho)
  have hs0:=hs
  have hs:=hs.keep fun i o _ ho=>t3c i o ho
  have hm3:m<τ3.next:=St.get_lt hl
  have h:=(h.mr M3).mr Mc
  have hlo:=h.lo
  have hlow:=h0.lo
  have hcl:=(cutS_len (T:=T) (i:=i))
  have hu3:=h.hn
  have hkl:=hS.len
  have g5:∀i o,i≠m→τc.get i=some o→τ5.get i=some o:=fun i o hi ho=>k5 _ _ hi (k4 _ _ hi ho)
  have hmw3:∀o,w.at? =some o→o≠m:=fun o e e2=>hwm (e2▸e)
  refine W.pu (c:=[nI x.dp,nI x.op,.b x.hyp,.i .u8 (Int.ofNat x.f.op),.s x.f.name,w1,w2,.s x.rule,cv]) (.ag [nI x.dp,nI x.op,.b x.hyp,.i .u8 (Int.ofNat x.f.op),.s x.f.name,w1,w2,.s x.rule,cv]) (hs.keep fun i o hi ho=>g5 i o (hmw3 i hi) ho) rfl rfl rfl rfl rfl rfl rfl rfl rfl (by omega) fun w' τ6 a1 a2 a3 n6 k6=>?_
  have g6:∀i o,i≠m→w.at? ≠some i→τc.get i=some o→τ6.get i=some o:=fun i o h1 h2 ho=>k6 _ _ h2 (g5 i o h1 ho)
  have hum:w.at? ≠some u:=fun e=>by have:=hlo u e;omega
  have hu6:=g6 u _ (by omega) hum h.hu
  have H:Has τ6 [(u,(cutS T i).1.map nI)]:=Has.nil.cons hu6 (by simp)
  have hlen:(kv++[AV.ag [nI x.dp,nI x.op,.b x.hyp,.i .u8 (Int.ofNat x.f.op),.s x.f.name,w1,w2,.s x.rule,cv]]).length=(cutS T i).2.length+1:=by rw[List.length_append,← hkl];rfl
  refine wk ?_
  refine W.len rfl rfl rfl a1.len ?_
  rw[hlen]
  refine wk ?_
  refine W.ix rfl rfl rfl rfl (idxSlA_sl (by omega)) ?_
  refine W.st H 0 rfl rfl rfl rfl rfl (store_num (by omega)) fun τ7 n7 H k7=>?_
  refine wk ?_
  have e:cutS T (i+1)=((cutS T i).1.set (i+1) ((cutS T i).2.length+1),(cutS T i).2++[{x with cs:=cutCs T (i+1) (cutS T i).1 x.cs}]):=hcut
  have hw'l:∀o,w'.at? =some o→τc.next≤o:=fun o ho=>by rw[a2] at ho;cases ho;omega
  have g7:∀i o,i≠m→i≠u→w.at? ≠some i→τc.get i=some o→τ7.get i=some o:=fun i o h1 h2 h3 ho=>k7 _ _ h2 (g6 i o h1 h3 ho)
  refine hQ _ _ w' ⟨rfl,rfl,rfl,rfl,rfl,rfl,rfl,rfl,trivial⟩ ⟨fun i o ho=>?_,?_,?_,⟨_,τc.next,a1.keep fun i o hi ho=>k7 _ _ (fun e=>by have:=hw'l i hi;omega) ho,?_,by omega,hw'l,fun e2=>absurd e2 (by rw[e];simp)⟩,by omega⟩
  ·have h1:=St.get_lt (h0.hk _ _ ho)
   have h2:=St.get_lt ho
   exact g7 _ _ (by omega) (by omega) (fun e=>by have:=hlow i e;omega) (h.hk _ _ ho)
  ·exact g7 _ _ hqm (by omega) (fun e=>by have:=hlow q e;omega) h.hq
  ·rw[e];exact H.get _ (.head _)
  ·rw[e]
   have hS':=hS.mono (A:=u+1) (B:=hi0) (P':=LO τ7 d) (fun a c t y ha hcc hy=>hy.keep fun i' c' h1 h2 hc'=>g7 _ _ (by omega) (by omega) (fun e=>by have:=hi2 i' e;omega) (t3c _ _ hc')) (Nat.le_refl _) (Nat.le_refl _)
   refine Seqv.snoc (c:=τc.next) (Nat.le_refl _) hS' (by omega) ⟨τ3.next,w1,w2,cv,by omega,hMc,rfl,hcv.keep fun i' c' hi' hc'=>?_,?_⟩ fun a ha hy=>LO.wide _ _ _ _ _ _ ha (Nat.le_refl _) hy
   ·have h1:=St.get_lt hc'
    exact⟨⟨by omega,h1⟩,g7 _ _ (by omega) (by omega) (fun e=>by have:=hs0.lt e;omega) (Mc.2 _ _ hc')⟩
   ·exact hv.keep d fun i' c' h1 h2 hc'=>g7 _ _ (by omega) (by omega) (fun e=>by have:=hs0.lt e;omega) hc'
def CutV(d:Nat)(σ τ:St)(T:List Ln)(w:AV):Prop:=∃kv lo hi,σ.next≤lo∧hi≤τ.next∧Sl τ (some 9) w kv∧Seqv (LO τ d) lo hi (cutL T) kv∧(∀o,w.at? =some o→hi≤o)∧(cutL T=[]→w= .nilsl)
theorem Cut_st(hfn:∀g ar r r',K g ar r→K g ar r'→r=r')(hw:HW b K)(ho:HO b K)(hcp:HCp b K)(hh:Here (b.envK K) n_fCut c_fCut){T:List Ln}(hG:Gd b K T)(hsm:∀x∈T,Fm.sm (b.fz+1000) d x.f)(σ:St):
  GoesCall (b.envK K) 0 (.f (.func n_fCut) [] []) [lnsA T] σ (fun r τ=>∃w,r= .ok (.tu [w,nI 0])∧CutV d σ τ T w∧Mr σ τ):=by
 refine W.codeR hh.e hh.p hh.f rfl rfl rfl fun z=>?_
 have H:Has σ []:=Has.nil
 have h5:=hG.le
 refine wk ?_
 refine W.cy rfl rfl rfl (open_go hfn hw.f ho.op ho.ar ho.ar1 hG.shp hG.ne hG.le hG.sn ho.mi hG.mis hG.dm hG.ck) fun r τ ⟨p,e,hO,_,M⟩=>⟨_,e,?_⟩
 refine wk ?_
 refine W.cy rfl rfl rfl (wanted_go hw hO.pr hG.dm (fun x hx=>by have:=hG.shp.num x hx;omega) hG.ne (fun k x h1 hx=>hG.ck k x hx h1)) fun r τ2 ⟨q,e,hq,hq2,M2⟩=>⟨_,e,?_⟩
 have H:=H.keep fun i o ho=>M2.2 _ _ (M.2 i o ho)
 refine wk ?_
 generalize hu:τ2.next=u
 refine W.mk H hu (by omega) (by omega) rfl rfl rfl rfl fun τ3 n3 H k3=>?_
 refine wk ?_
 show GoW _ _ _ _ _ _ _ _
 have hq3:=St.get_lt hq
 have h0:CS d τ2 q u T .nilsl 0 τ3:=⟨k3,k3 _ _ hq,by show _=some (AO.cells ((List.replicate (T.length+1) 0).map nI));rw[List.map_replicate];exact H.get _ (.head _),⟨[],u+1,.nil,Nat.le_refl _,by omega,fun o h=>(by cases h),fun _=>rfl⟩,by omega⟩
 refine GoF.each T.length (fun i F τ'=>∃w,CS d τ2 q u T w i τ'∧sat [(29,lnsA T),(8,w),(7,.sl u 0 (T.length+1) none (some (T.length+1))),(6,.sl q 0 T.length none (some T.length)),(4,pt p),(0,lnsA T)] F) (by omega) ⟨.nilsl,h0,rfl,rfl,rfl,rfl,rfl,rfl,trivial⟩ rfl rfl (fun i F τ' hi hI hi2 hm=>?_) (fun F τ' hI hi2=>?_)
 ·obtain⟨w,h,g29,g8,g7,g6,g4,g0,_⟩:=hI
  refine GoF.norm (FC p q u i T w) ⟨hi2,hm,g29,g8,g7,g6,g4,g0,trivial⟩ fun F=>?_
  refine Cut_line hw.f hcp hsm (hO.pr.keep M2.2) hG.dm (by omega) (by omega) h5 h hi (fun x hx=>hG.ck (i+1) x hx (by omega)) fun F τ4 w' hF h4=>?_
  obtain⟨g31,g30,hF⟩:=hF
  exact⟨g31,g30,w',h4,hF⟩
 ·obtain⟨w,h,g29,g8,g7,g6,g4,g0,_⟩:=hI
  refine GoF.norm [(8,w)] ⟨g8,trivial⟩ fun F=>?_
  have H:Has τ' []:=Has.nil
  obtain⟨kv,hi,a1,a2,a3,a4,a5⟩:=h.kv
  have:=M.1
  have:=M2.1
  refine wk ?_
  exact GoF.ret ⟨rfl,_,rfl,w,rfl,⟨kv,u+1,hi,by omega,a3,a1,a2,a4,a5⟩,by have:=h.hn;omega,fun i o ho=>h.hk _ _ (M2.2 _ _ (M.2 _ _ ho))⟩
end
end
end Go.Lyc
end
