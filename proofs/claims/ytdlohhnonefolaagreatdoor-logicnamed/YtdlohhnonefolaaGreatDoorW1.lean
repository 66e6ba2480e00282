/-
  What functions of the program compute: walks, part 1. No conditions: definitions and laws.
-/
import Derived.Test.YtdlohhnonefolaaGreatDoorNames
set_option linter.all false
noncomputable section
namespace Go.Lyc
set_option maxHeartbeats 0
set_option maxRecDepth 100000
variable [Tok][TokOk]
section
open Go.RowKit Go.Lyc.T
structure Here(env:Env)(g:Nat)(af:AFunc):Prop where
 f:env.funcs g=some af
 e:env.ext g=0
 p:env.pure g=false
inductive Sl(σ:St)(sh:Option Nat):AV→List AV→Prop
 |nil:Sl σ sh .nilsl []
 |sl (o:Nat) (cap:Option Nat) (xs rest:List AV) (h:σ.get o=some (.cells (xs.flatMap AV.cells++rest))) (hc:∀y∈xs,conf sh y=true) (hk:cap=none∨cap=some xs.length):Sl σ sh (.sl o 0 xs.length sh cap) xs
theorem Sl.len{σ τ:St}{sh:Option Nat}{v:AV}{xs:List AV}(h:Sl σ sh v xs):lenA τ 1 v=some xs.length:=by cases h<;>rfl
theorem take_at{sh:Option Nat}:∀ {xs:List AV} {rest:List AV},(∀y∈xs,Go.Lyc.conf sh y=true)→∀(j:Nat) (hj:j<xs.length),∃r,(xs.flatMap AV.cells++rest).drop (j*shN sh)=(xs[j]).cells++r∧takeSh sh ((xs[j]).cells++r)=some xs[j]
 |[],_,_,j,hj=>by simp at hj
 |x::xs,rest,h,0,_=>⟨xs.flatMap AV.cells++rest,by rw[Nat.zero_mul,List.drop_zero,List.flatMap_cons,List.append_assoc];rfl,(takeSh_app (h x (by simp))).1⟩
 |x::xs,rest,h,j+1,hj=>by
  obtain⟨r,h1,h2⟩:=take_at (rest:=rest) (fun y hy=>h y (List.mem_cons_of_mem _ hy)) j (by simpa using hj)
  refine⟨r,?_,h2⟩
  rw[List.flatMap_cons,List.append_assoc,show(j+1)*shN sh=shN sh+j*shN sh from by rw[Nat.succ_mul,Nat.add_comm],← List.drop_drop,(takeSh_app (h x (by simp))).2,h1];rfl
theorem Sl.at{σ:St}{sh:Option Nat}{v:AV}{xs:List AV}(h:Sl σ sh v xs){j:Nat}(hj:j<xs.length):∃o c r,v.at? =some o∧idxSlA sh v j=some (.p (some (o,j*shN sh)))∧σ.get o=some (.cells c)∧c.drop (j*shN sh)=(xs[j]).cells++r∧takeSh sh (c.drop (j*shN sh))=some xs[j]:=by
 cases h with
 |nil=>simp at hj
 |sl o cap xs rest h hc hk=>
  obtain⟨r,h1,h2⟩:=take_at (rest:=rest) hc j hj
  refine⟨o,_,r,rfl,?_,h,h1,by rw[h1];exact h2⟩
  have h3:Nat.blt j xs.length=true:=Nat.ble_eq_true_of_le hj
  simp only[idxSlA,h3,decide_true,Bool.and_self,if_true,Nat.zero_add]
namespace W
section
variable {md:Md}{env:Env}{wh:Option Nat}{D:List (Nat ⊕ (AV×List AV))}{n:Nat}{F:List (Nat×AV)}{z:Nat→AV}{σ:St}{Q:PostF}
theorem lx{d:Nat}{sh:Option Nat}{x:AOpd}{g:Option (Nat×Bool)}{ops:List AOper}{id off:Nat}{c:List AV}{v:AV}(hs:σ.get id=some (.cells c))(hd:Nat.blt d n=true)(hw:wtL g n F=true)(h1:evL env n F z x=some (.p (some (id,off))))(h2:takeSh sh (c.drop off)=some v)(h:GoM md env wh D n ops (upds ((d,v)::F) z) σ Q):GoM md env wh D n (⟨some d,.load sh x,g,[]⟩::ops) (upds F z) σ Q:=val hd hw (op_load _ _ h1 (loadA_p hs h2)) h
theorem le{d:Nat}{sh:Option Nat}{x:AOpd}{g:Option (Nat×Bool)}{ops:List AOper}{a v:AV}(hd:Nat.blt d n=true)(hw:wtL g n F=true)(h1:evL env n F z x=some a)(h2:loadA σ sh a=some v)(h:GoM md env wh D n ops (upds ((d,v)::F) z) σ Q):GoM md env wh D n (⟨some d,.load sh x,g,[]⟩::ops) (upds F z) σ Q:=val hd hw (op_load _ _ h1 h2) h
theorem bs{L:List (Nat×List AV)}(H:Has σ L){d m:Nat}{sh:Option Nat}{zr:List AV}{ps:List (Nat×AOpd)}{g:Option (Nat×Bool)}{ops:List AOper}{c:List AV}{k:Nat}(hn:σ.next=k)(hd:Nat.blt d n=true)(hw:wtL g n F=true)(hl:layParts (evL env n F z) (fun i sz=>i*sz) (ps.map fun p=>(p.1,shN sh,p.2)) (repeatC m zr)=some c)
  (h:∀τ:St,τ.next=k+1→Has τ ((k,c)::L)→(∀i o,σ.get i=some o→τ.get i=some o)→GoM md env wh D n ops (upds ((d,.sl k 0 m sh (some m))::F) z) τ Q):GoM md env wh D n (⟨some d,.buildSlice sh m zr ps,g,[]⟩::ops) (upds F z) σ Q:=by
 subst hn
 have kp:∀i o,σ.get i=some o→(σ.push (.cells c)).get i=some o:=fun i o ho=>by rw[St.get_push_old trivial _ (St.get_lt ho)];exact ho
 refine val (v:=.sl σ.next 0 m sh (some m)) (σ':=σ.push (.cells c)) hd hw ?_ (h (σ.push (.cells c)) rfl (H.push rfl (St.get_push_new _) kp) kp)
 show(match layParts (evL env n F z) (fun i sz=>i*sz) (ps.map fun p=>(p.1,shN sh,p.2)) (repeatC m zr) with
  |some c=>some (OpR.val (.sl σ.next 0 m sh (some m)) (σ.push (.cells c)))
  |none=>none)=_
 rw[hl]
end
end W
structure Ln where
 dp:Nat
 op:Nat
 hyp:Bool
 f:Fm
 rule:List Nat
 cs:List (Nat×Nat)
abbrev csA(o:Bool)(l:List (Nat×Nat)):AV:=.tl o (some 2) (l.map fun c=>.ag [nI c.1,nI c.2])
theorem csA_len{τ:St}{o:Bool}{l:List (Nat×Nat)}:lenA τ 1 (csA o l)=some l.length:=congrArg some (List.length_map _)
theorem csA_ix{o:Bool}{l:List (Nat×Nat)}{j:Nat}(h:j<l.length):idxSlA (some 2) (csA o l) j=some (.tp o (.ag [nI (l[j]).1,nI (l[j]).2])):=by
 have:=osl_idx (o:=o) (sh:=some 2) (l:=some l) (g:=fun c:Nat×Nat=>AV.ag [nI c.1,nI c.2]) h
 exact this
abbrev Ln.A(x:Ln):AV:=.ag [nI x.dp,nI x.op,.b x.hyp,.i .u8 (Int.ofNat x.f.op),.s x.f.name,tmsA true x.f.oargs,fmsA true x.f.osub,.s x.rule,csA true x.cs]
abbrev lnsA(L:List Ln):AV:=.tl true (some 9) (L.map Ln.A)
theorem lns_ix{L:List Ln}{j:Nat}(h:j<L.length):idxSlA (some 9) (lnsA L) j=some (.tp true (L[j]).A):=by
 have:=slA_idxM (o:=true) (sh:=some 9) (f:=Ln.A) h
 cases L with
 |nil=>simp at h
 |cons x l=>exact this
theorem lns_len{σ:St}{L:List Ln}:lenA σ 1 (lnsA L)=some L.length:=by show some (L.map Ln.A).length=_;rw[List.length_map]
@[irreducible] def elP (sh:Option Nat) (v:AV) (j:Nat):AV:=(idxSlA sh v j).getD .ni
theorem elP_of{sh:Option Nat}{v w:AV}{j:Nat}(h:idxSlA sh v j=some w):elP sh v j=w:=by unfold elP;rw[h];rfl
structure Vw(σ:St)(sh:Option Nat)(v:AV)(xs:List AV):Prop where
 len:∀τ,lenA τ 1 v=some xs.length
 ix:∀ {j},j<xs.length→idxSlA sh v j=some (elP sh v j)
 ld:∀ {j} (h:j<xs.length),loadA σ sh (elP sh v j)=some xs[j]
theorem Sl.vw{σ:St}{sh:Option Nat}{v:AV}{xs:List AV}(h:Sl σ sh v xs):Vw σ sh v xs:=
 ⟨fun τ=>h.len,fun {j} hj=>by obtain⟨o,c,r,h0,h1,_⟩:=h.at hj;rw[elP_of h1];exact h1,fun {j} hj=>by
  obtain⟨o,c,r,h0,h1,h2,h3,h4⟩:=h.at hj
  rw[elP_of h1];exact loadA_p h2 h4⟩
theorem slA_cf{o:Bool}{sh:Option Nat}{l:List AV}:conf none (slA o sh l)=true:=by cases l<;>rfl
theorem bin_a1{a:Nat}(h:a+1<2^63):binop .add (nI a) (.i .i64 1)=some (nI (a+1)):=bin_add (b:=1) h
theorem bin_s1{a:Nat}(h1:1≤a)(h:a<2^63):binop .sub (nI a) (.i .i64 1)=some (nI (a-1)):=bin_sub (b:=1) h1 h
theorem wk{P R:Prop}(k:R)(h:Hid R→P:=by
 intro k
 repeat (first
  |refine W.go rfl rfl rfl rfl ?_
  |refine W.off rfl rfl ?_
  |(refine W.iL ?_;first|refine W.lt rfl rfl rfl rfl ?_|refine W.lt rfl rfl rfl slA_cf ?_|(refine W.ld (c:=?_) (v:=?_) H rfl rfl rfl ?_ ?_ ?_;rotate_left 2;(repeat (first|exact .head _|refine .tail _ ?_));exact rfl)|refine W.le rfl rfl rfl (Nv.ld (by assumption) (by omega)) ?_|refine W.le rfl rfl rfl (Vw.ld (by assumption) (by omega)) ?_)
  |(refine W.iB ?_;first|refine W.ct rfl rfl rfl rfl (by simp only[W.cmpP,List.length_cons,List.length_nil];first|done|omega|exact id|exact fun h=>h trivial) ?_|refine W.cf rfl rfl rfl rfl rfl (by simp only[W.cmpP,List.length_cons,List.length_nil];first|done|omega|exact id|exact fun h=>h trivial) ?_|refine W.bin rfl rfl rfl rfl (bin_a1 (by omega)) ?_|refine W.bin rfl rfl rfl rfl (bin_s1 (by omega) (by omega)) ?_|refine W.bin rfl rfl rfl rfl (bin_add (by omega)) ?_|refine W.bin rfl rfl rfl rfl (bin_sub (by omega) (by omega)) ?_)
  |(refine W.iX ?_;first|refine W.ix rfl rfl rfl rfl (lns_ix (by omega)) ?_|refine W.ix rfl rfl rfl rfl (csA_ix (by omega)) ?_|refine W.ix rfl rfl rfl rfl (slA_idxM (by omega)) ?_|refine W.ix rfl rfl rfl rfl (Nv.ix (by assumption) (by omega)) ?_|refine W.ix rfl rfl rfl rfl (Vw.ix (by assumption) (by omega)) ?_)
  |(refine W.iN ?_;first|refine W.len rfl rfl rfl lns_len ?_|refine W.len rfl rfl rfl csA_len ?_|refine W.len rfl rfl rfl slA_lenM ?_|refine W.len rfl rfl rfl (Nv.len (by assumption) _) ?_|refine W.len rfl rfl rfl (Vw.len (by assumption) _) ?_|refine W.len rfl rfl rfl rfl ?_)
  |(refine W.iW ?_;first|(refine W.ldw (c:=?_) (v:=?_) H rfl rfl rfl ?_ ?_ ?_ ?_;rotate_left 2;(repeat (first|exact .head _|refine .tail _ ?_));exact rfl;first|exact eqb1 rfl|exact eqb2 rfl))
  |refine W.sq ?_|refine W.rg ?_|refine W.dw rfl ?_|refine W.sk ?_|refine GoF.block (a:=.seq _ _) ?_|refine GoF.block (a:=.region _) ?_|refine GoF.block (a:=.draw _) ?_|refine GoF.block (a:=.cond _ _ _) ?_
  |refine W.nil ?_|refine W.nild ?_
  |refine W.now (_::_) _ rfl rfl (by(repeat (refine HasL.c H (by repeat (first|exact List.Mem.head _|refine List.Mem.tail _ ?_)) ?_));exact trivial) ?_
  |refine W.ct1 rfl ?_|refine W.ct0 rfl ?_)
 exact k.out):P:=h ⟨k⟩
theorem wo{P R:Prop}(k:R)(h:Hid R→P:=by
 intro k
 repeat (first
  |refine W.go rfl rfl rfl rfl ?_
  |refine W.off rfl rfl ?_
  |(refine W.iL ?_;first|refine W.lt rfl rfl rfl rfl ?_|refine W.lt rfl rfl rfl slA_cf ?_|(refine W.ld (c:=?_) (v:=?_) H rfl rfl rfl ?_ ?_ ?_;rotate_left 2;(repeat (first|exact .head _|refine .tail _ ?_));exact rfl)|refine W.le rfl rfl rfl (Nv.ld (by assumption) (by omega)) ?_|refine W.le rfl rfl rfl (Vw.ld (by assumption) (by omega)) ?_)
  |(refine W.iB ?_;first|refine W.ct rfl rfl rfl rfl (by simp only[W.cmpP,List.length_cons,List.length_nil];first|done|omega|exact id|exact fun h=>h trivial) ?_|refine W.cf rfl rfl rfl rfl rfl (by simp only[W.cmpP,List.length_cons,List.length_nil];first|done|omega|exact id|exact fun h=>h trivial) ?_|refine W.bin rfl rfl rfl rfl (bin_a1 (by omega)) ?_|refine W.bin rfl rfl rfl rfl (bin_s1 (by omega) (by omega)) ?_|refine W.bin rfl rfl rfl rfl (bin_add (by omega)) ?_|refine W.bin rfl rfl rfl rfl (bin_sub (by omega) (by omega)) ?_)
  |(refine W.iX ?_;first|refine W.ix rfl rfl rfl rfl (lns_ix (by omega)) ?_|refine W.ix rfl rfl rfl rfl (csA_ix (by omega)) ?_|refine W.ix rfl rfl rfl rfl (slA_idxM (by omega)) ?_|refine W.ix rfl rfl rfl rfl (Nv.ix (by assumption) (by omega)) ?_|refine W.ix rfl rfl rfl rfl (Vw.ix (by assumption) (by omega)) ?_)
  |(refine W.iN ?_;first|refine W.len rfl rfl rfl lns_len ?_|refine W.len rfl rfl rfl csA_len ?_|refine W.len rfl rfl rfl slA_lenM ?_|refine W.len rfl rfl rfl (Nv.len (by assumption) _) ?_|refine W.len rfl rfl rfl (Vw.len (by assumption) _) ?_|refine W.len rfl rfl rfl rfl ?_)
  |(refine W.iW ?_;first|(refine W.ldw (c:=?_) (v:=?_) H rfl rfl rfl ?_ ?_ ?_ ?_;rotate_left 2;(repeat (first|exact .head _|refine .tail _ ?_));exact rfl;first|exact eqb1 rfl|exact eqb2 rfl))
  |refine W.now (_::_) _ rfl rfl (by(repeat (refine HasL.c H (by repeat (first|exact List.Mem.head _|refine List.Mem.tail _ ?_)) ?_));exact trivial) ?_)
 exact k.out):P:=h ⟨k⟩
def resV(σ:St)(f:Nat→AV)(r:Nat×Option (Option Nat)):Option AV:=
 match r.2 with
 |none=>some (f r.1)
 |some sh=>match f r.1 with
  | .p (some (id,off))=>match σ.get id with
   |some (.cells c)=>takeSh sh (c.drop off)
   |_=>none
  |_=>none
def resA(σ:St)(f:Nat→AV)(rs:List (Nat×Option (Option Nat))):Option AV:=
 match mapO (resV σ f) rs with
 |some [v]=>some v
 |some vs=>some (.tu vs)
 |none=>none
theorem resV_eq{D:List (Nat ⊕ (AV×List AV))}{n:Nat}{f:Nat→AV}{fr:Fr}(σ:St)(h:IsFr D n f fr){r:Nat×Option (Option Nat)}(hr:Nat.blt r.1 n=true):resultOf σ fr.slots r=resV σ f r:=by
 have hg:=h.get r.1
 have hn:r.1<n:=Nat.le_of_ble_eq_true hr
 rw[if_pos hn] at hg
 obtain⟨d,o⟩:=r
 unfold resultOf resV
 simp only[] at hg ⊢
 rw[hg]
 cases o with
 |none=>rfl
 |some sh=>
  cases f d with
  |p a=>cases a with
   |none=>rfl
   |some a=>rfl
  |_=>rfl
theorem resA_eq{D:List (Nat ⊕ (AV×List AV))}{n:Nat}{f:Nat→AV}{fr:Fr}(σ:St)(h:IsFr D n f fr){rs:List (Nat×Option (Option Nat))}(hr:allB (fun r=>Nat.blt r.1 n) rs=true):resultsOf σ fr.slots rs=resA σ f rs:=by
 have:mapO (resultOf σ fr.slots) rs=mapO (resV σ f) rs:=mapO_congr fun x hx=>resV_eq σ h (allB_mem hr x hx)
 show(match mapO (resultOf σ fr.slots) rs with|some [v]=>some v|some vs=>some (.tu vs)|none=>none)=match mapO (resV σ f) rs with|some [v]=>some v|some vs=>some (.tu vs)|none=>none
 rw[this]
theorem endF_all{env:Env}{fn:AFunc}{n:Nat}{f:Nat→AV}{fr:Fr}{σ:St}{v:AV}(h1:IsFr [] n f fr)(hd:allB (fun r=>Nat.blt r.1 n) fn.results=true)(hv:resA σ f fn.results=some v):endF env 0 fn (.ret,fr,σ)=some [(.ok v,σ)]:=by
 show(match leave 0 (callD env 0) fr.defers none σ with
  |none=>none
  |some (some v,σ)=>some [(Ret.err v,σ)]
  |some (none,σ)=>match resultsOf σ fr.slots fn.results with
   |some v=>some [(.ok v,σ)]
   |none=>none)=_
 rw[h1.ds]
 show(match resultsOf σ fr.slots fn.results with|some v=>some [(Ret.ok v,σ)]|none=>none)=_
 rw[resA_eq σ h1 hd,hv]
theorem resV_b{σ:St}{f:Nat→AV}{d id off:Nat}{sh:Option Nat}{c:List AV}{v:AV}(h:f d= .p (some (id,off)))(hg:σ.get id=some (.cells c))(ht:takeSh sh (c.drop off)=some v):resV σ f (d,some sh)=some v:=by
 show(match f d with| .p (some (id,off))=>(match σ.get id with|some (.cells c)=>takeSh sh (c.drop off)|_=>none)|_=>none)=_
 rw[h]
 show(match σ.get id with|some (.cells c)=>takeSh sh (c.drop off)|_=>none)=_
 rw[hg];exact ht
theorem resV_v{σ:St}{f:Nat→AV}{d:Nat}{v:AV}(h:f d=v):resV σ f (d,none)=some v:=by rw[←h];rfl
theorem resA_1{σ:St}{f:Nat→AV}{x:Nat×Option (Option Nat)}{v:AV}(h:resV σ f x=some v):resA σ f [x]=some v:=by
 show(match mapO (resV σ f) [x] with|some [v]=>some v|some vs=>some (.tu vs)|none=>none)=_
 rw[mapO_cons,h];rfl
def DoneR(rs:List (Nat×Option (Option Nat)))(r:AV):PostF:=fun x f σ'=>x= .ret∧∃v,resA σ' f rs=some v∧freeze σ' 0 1000 v=some r
theorem entryR{P:Program}{b:Base}{K:Nat→List AV→AV→Prop}(hb:BaseOk P b)(hK:KOk P b K){g:Nat}{fn:AFunc}{body:ACode}{ar:List AV}(r:AV)(hf:b.funcs.get g=some fn)(hbd:fn.body=some body)
  (hn:(Nat.beq ar.length fn.nargs&&Nat.ble ar.length fn.ntmps)=true) (hd:allB (fun r=>Nat.blt r.1 fn.ntmps) fn.results=true) {fr:Nat} (hr:freshA fr r=true) (hrr:AV.eqb 1000 r r=true)
  (h:GoF (b.envK K) fn.ntmps body (argF ar) ⟨.nil,0⟩ (DoneR fn.results r)) (B0:Nat):SpecEntry P (b.env []) B0 g ar r:=by
 have hle:ar.length≤fn.ntmps:=by
  simp only[Bool.and_eq_true] at hn
  exact Nat.le_of_ble_eq_true hn.2
 refine spec_of_goes (env:=b.envK K) (m:=1000) (Nat.le_add_left _ _) ⟨fun g af hg=>FT.get_all hb.funcs g af hg⟩ (fun B0 g ar r hs=>hK g ar r (specOf_mem hs) B0) hb.ext hb.orders hf hbd hn hr ((h _ (isFr_start hle)).mono fun x fr σ' ⟨f,h1,h2,v,h3,h4⟩=>?_) hrr B0
 subst h2
 exact⟨.ok v,_,endF_all h1 hd h3,_,rfl,h4⟩
def RoomV(m k:Nat)(v:AV):Prop:=k≤12∧(v=nI (m+k)∨(k=12∧v= .il (m+12)))
theorem op_minO{ev:AOpd→Option AV}{σ:St}{x y:AOpd}{m k:Nat}{v:AV}(hv:RoomV m k v)(h1:ev x=some v)(h2:ev y=some (nI (m+12))):opx 0 ev σ (.minmax false x y)=some (.val (nI (m+k)) σ):=by
 obtain⟨hk,rfl|⟨rfl,rfl⟩⟩:=hv
 ·show(match ev x,ev y with|some (.i k a),some (.i l b)=>(if k=l then some (OpR.val (.i k (if false then(if b > a then b else a) else(if b<a then b else a))) σ) else none)|some (.il n),some (.i .i64 (.ofNat j))=>cond (Bool.not false&&Nat.ble j n) (some (OpR.val (.i .i64 (Int.ofNat j)) σ)) none|_,_=>none)=_
  rw[h1,h2]
  show(if IntKind.i64=IntKind.i64 then some (OpR.val (.i .i64 (if Int.ofNat (m+12)<Int.ofNat (m+k) then Int.ofNat (m+12) else Int.ofNat (m+k))) σ) else none)=_
  rw[if_pos rfl,if_neg (by simp only[Int.ofNat_eq_natCast,Int.ofNat_lt];omega)]
 ·show(match ev x,ev y with|some (.i k a),some (.i l b)=>(if k=l then some (OpR.val (.i k (if false then(if b > a then b else a) else(if b<a then b else a))) σ) else none)|some (.il n),some (.i .i64 (.ofNat j))=>cond (Bool.not false&&Nat.ble j n) (some (OpR.val (.i .i64 (Int.ofNat j)) σ)) none|_,_=>none)=_
  rw[h1,h2]
  show cond (Bool.not false&&Nat.ble (m+12) (m+12)) (some (OpR.val (.i .i64 (Int.ofNat (m+12))) σ)) none=_
  rw[Nat.ble_eq_true_of_le (Nat.le_refl _)];rfl
theorem op_capO{ev:AOpd→Option AV}{σ:St}{x:AOpd}{id m:Nat}{sh:Option Nat}{c:List AV}(hs:σ.get id=some (.cells c))(hc:c.length=m*shN sh)(h1:ev x=some (.sl id 0 m sh none)):
  opx 0 ev σ (.cap x)=some (.nexts ((List.range 12).map (fun k=>(AV.i .i64 (Int.ofNat (m+k)),σ.set id (.cellx c (k*shN sh))))++[(AV.il (m+12),σ.set id (.cellx c (12*shN sh)))])):=by
 show(match ev x with|some x=>(match capA x with|some n=>some (OpR.val (.i .i64 (Int.ofNat n)) σ)|none=>capO 0 σ x)|none=>none)=_
 rw[h1]
 show(cond (Nat.blt id 0) none (match σ.get id with|some (.cells c)=>cond (Nat.beq c.length (0+m*shN sh)) (some (OpR.nexts ((List.range 12).map (fun k=>(AV.i .i64 (Int.ofNat (m+k)),σ.set id (.cellx c (k*shN sh))))++[(AV.il (m+12),σ.set id (.cellx c (12*shN sh)))]))) none|_=>none))=_
 rw[hs]
 show cond (Nat.blt id 0) none (cond (Nat.beq c.length (0+m*shN sh)) _ none)=_
 rw[show Nat.blt id 0=false from by simp[Nat.blt,Nat.ble],cond_false,Nat.zero_add,hc,Nat.beq_refl,cond_true]
theorem op_sliceO{ev:AOpd→Option AV}{σ:St}{x hi:AOpd}{id m k r:Nat}{sh:Option Nat}{c:List AV}(hs:σ.get id=some (.cellx c r))(hc:c.length=m*shN sh)(hr:r=k*shN sh)(h0:0<shN sh)(h1:ev x=some (.sl id 0 m sh none))(h2:ev hi=some (nI (m+k))):
  opx 0 ev σ (.sliceSl sh x none (some hi) none)=some (.val (.sl id 0 (m+k) sh none) σ):=by
 show(match ev x with|some x=>(match sliceA ev sh x none (some hi) none with|some v=>some (OpR.val v σ)|none=>sliceX σ ev sh x none (some hi) none)|none=>none)=_
 rw[h1]
 show(match sliceA ev sh (.sl id 0 m sh none) none (some hi) none with|some v=>some (OpR.val v σ)|none=>sliceX σ ev sh (.sl id 0 m sh none) none (some hi) none)=_
 have hb:bndO ev (some hi) m=some (m+k):=by show(match ev hi with|some v=>natOf v|none=>none)=_;rw[h2];rfl
 have hb0:bndO ev none 0=some 0:=rfl
 rcases Nat.eq_zero_or_pos k with rfl|hk
 ·have e:sliceA ev sh (.sl id 0 m sh none) none (some hi) none=some (.sl id 0 m sh none):=by
   have q1:Nat.ble 0 m=true:=Nat.ble_eq_true_of_le (Nat.zero_le m)
   have q2:Nat.ble m m=true:=Nat.ble_eq_true_of_le (Nat.le_refl m)
   simp only[sliceA,if_true,hb0,hb,Nat.add_zero,q1,q2]
   simp
  rw[e]
  rfl
 ·have e:sliceA ev sh (.sl id 0 m sh none) none (some hi) none=none:=by
   have q1:Nat.ble 0 (m+k)=true:=Nat.ble_eq_true_of_le (Nat.zero_le _)
   have q2:Nat.ble (m+k) m=false:=by
    cases h:Nat.ble (m+k) m with
    |false=>rfl
    |true=>have:=Nat.le_of_ble_eq_true h;omega
   have q3:Nat.beq (m+k) m=false:=by
    cases h:Nat.beq (m+k) m with
    |false=>rfl
    |true=>have:=Nat.eq_of_beq_eq_true h;omega
   simp only[sliceA,if_true,hb0,hb,q1,q2,q3,Bool.false_and,Bool.and_false,if_false]
   simp
  rw[e]
  show(match(AV.sl id 0 m sh none),ev hi with
   | .sl id off len sh' none,some (.i .i64 (.ofNat k))=>(match σ.get id with
    |some (.cellx c r)=>cond (decide (sh'=sh)&&(Nat.blt 0 (shN sh')&&(Nat.ble len k&&Nat.ble (off+k*shN sh') (c.length+r)))) (some (OpR.val (.sl id off k sh' none) σ)) none
    |_=>none)
   |_,_=>none)=_
  rw[h2]
  show(match σ.get id with
    |some (.cellx c r)=>cond (decide (sh=sh)&&(Nat.blt 0 (shN sh)&&(Nat.ble m (m+k)&&Nat.ble (0+(m+k)*shN sh) (c.length+r)))) (some (OpR.val (.sl id 0 (m+k) sh none) σ)) none
    |_=>none)=_
  rw[hs]
  show cond (decide (sh=sh)&&(Nat.blt 0 (shN sh)&&(Nat.ble m (m+k)&&Nat.ble (0+(m+k)*shN sh) (c.length+r)))) _ none=_
  rw[show decide (sh=sh)=true from by simp,show Nat.blt 0 (shN sh)=true from Nat.ble_eq_true_of_le h0,Nat.ble_eq_true_of_le (Nat.le_add_right m k),Nat.ble_eq_true_of_le (by rw[hc,hr,Nat.zero_add,Nat.add_mul];exact Nat.le_refl _)]
  rfl
theorem op_storeO{ev:AOpd→Option AV}{σ:St}{sh:Option Nat}{a x:AOpd}{id off r:Nat}{v:AV}{c:List AV}(hs:σ.get id=some (.cellx c r))(h1:ev a=some (.p (some (id,off))))(h2:ev x=some v)(hcf:conf sh v=true)(hal:c.length≤off∧off+v.cells.length≤c.length+r∨off+v.cells.length≤c.length):
  ∃c',c'.length=c.length∧opx 0 ev σ (.store sh a x)=some (.val undefA (σ.set id (.cellx c' r))):=by
 have key:∃c',c'.length=c.length∧(cond (Nat.ble c.length off&&Nat.ble (off+v.cells.length) (c.length+r)) (some c) (storeCells c off v.cells))=some c':=by
  cases hq:(Nat.ble c.length off&&Nat.ble (off+v.cells.length) (c.length+r)) with
  |true=>exact⟨c,rfl,rfl⟩
  |false=>
   rcases hal with⟨q1,q2⟩|h
   ·rw[Nat.ble_eq_true_of_le q1,Nat.ble_eq_true_of_le q2] at hq;cases hq
   ·refine⟨c.take off++(v.cells++c.drop (off+v.cells.length)),?_,?_⟩
    ·simp only[List.length_append,List.length_take,List.length_drop];omega
    ·rw[cond_false];unfold storeCells;rw[if_pos (Nat.ble_eq_true_of_le h)]
 obtain⟨c',e1,e2⟩:=key
 refine⟨c',e1,?_⟩
 show(match ev a,ev x with
  |some (.p (some (id,off))),some v=>
   if Nat.blt id 0 then none else
   if conf sh v then
    match σ.get id with
    |some (.cells c)=>match storeCells c off v.cells with
     |some c=>some (OpR.val undefA (σ.set id (.cells c)))
     |none=>none
    |some (.cellx c r)=>storeX σ id c r off v.cells
    |_=>none
   else none
  |_,_=>none)=_
 rw[h1,h2]
 show(if Nat.blt id 0 then none else if conf sh v then(match σ.get id with
    |some (.cells c)=>match storeCells c off v.cells with
     |some c=>some (OpR.val undefA (σ.set id (.cells c)))
     |none=>none
    |some (.cellx c r)=>storeX σ id c r off v.cells
    |_=>none) else none)=_
 rw[if_neg (by simp[Nat.blt,Nat.ble]),if_pos hcf,hs]
 show(match(cond (Nat.ble c.length off&&Nat.ble (off+v.cells.length) (c.length+r)) (some c) (storeCells c off v.cells)) with|some c=>some (OpR.val undefA (σ.set id (.cellx c r)))|none=>none)=_
 rw[e2]
namespace W
section
variable {md:Md}{env:Env}{wh:Option Nat}{D:List (Nat ⊕ (AV×List AV))}{n:Nat}{F:List (Nat×AV)}{z:Nat→AV}{σ:St}{Q:PostF}
theorem nx{d:Nat}{op:AOp}{g:Option (Nat×Bool)}{ops:List AOper}{l:List (AV×St)}(hd:Nat.blt d n=true)(hw:wtL g n F=true)(ho:opx 0 (evL env n F z) σ op=some (.nexts l))(hl:l≠[])(h:∀p∈l,GoM .pl env wh D n ops (upds ((d,p.1)::F) z) p.2 Q):GoM .pl env wh D n (⟨some d,op,g,[]⟩::ops) (upds F z) σ Q:=
 GoO.nexts hd (wtL_t hw) (by rw[evL_eq];exact ho) hl h
theorem cp{d:Nat}{x:AOpd}{g:Option (Nat×Bool)}{ops:List AOper}{id m:Nat}{sh:Option Nat}{c:List AV}(hs:σ.get id=some (.cells c))(hc:c.length=m*shN sh)(hd:Nat.blt d n=true)(hw:wtL g n F=true)(h1:evL env n F z x=some (.sl id 0 m sh none))
  (h:∀v k τ,RoomV m k v→τ.next=σ.next→τ.get id=some (.cellx c (k*shN sh))→(∀i o,i≠id→σ.get i=some o→τ.get i=some o)→GoM .pl env wh D n ops (upds ((d,v)::F) z) τ Q):GoM .pl env wh D n (⟨some d,.cap x,g,[]⟩::ops) (upds F z) σ Q:=by
 refine nx hd hw (op_capO hs hc h1) (by simp) fun p hp=>?_
 rcases List.mem_append.1 hp with hp|hp
 ·obtain⟨k,hk,rfl⟩:=List.mem_map.1 hp
  exact h _ k _ ⟨by have:=List.mem_range.1 hk;omega,.inl rfl⟩ rfl (set_get hs).1 (set_get hs).2
 ·rw[List.mem_singleton.1 hp]
  exact h _ 12 _ ⟨Nat.le_refl _,.inr ⟨rfl,rfl⟩⟩ rfl (set_get hs).1 (set_get hs).2
theorem sx{sh:Option Nat}{a x:AOpd}{g:Option (Nat×Bool)}{ops:List AOper}{id off r:Nat}{v:AV}{c:List AV}(hs:σ.get id=some (.cellx c r))(hw:wtL g n F=true)(h1:evL env n F z a=some (.p (some (id,off))))(h2:evL env n F z x=some v)(hcf:conf sh v=true)(hal:c.length≤off∧off+v.cells.length≤c.length+r∨off+v.cells.length≤c.length)
  (h:∀c' τ,c'.length=c.length→τ.next=σ.next→τ.get id=some (.cellx c' r)→(∀i o,i≠id→σ.get i=some o→τ.get i=some o)→GoM md env wh D n ops (upds F z) τ Q):GoM md env wh D n (⟨none,.store sh a x,g,[]⟩::ops) (upds F z) σ Q:=by
 obtain⟨c',e1,e2⟩:=op_storeO (ev:=evL env n F z) hs h1 h2 hcf hal
 exact eff hw e2 (h c' _ e1 rfl (set_get hs).1 (set_get hs).2)
end
end W
def ChI(ids:List Nat)(σ τ:St):Prop:=σ.next≤τ.next∧∀i o,i∉ids→σ.get i=some o→τ.get i=some o
theorem ChI.refl{ids:List Nat}{σ:St}:ChI ids σ σ:=⟨Nat.le_refl _,fun _ _ _ h=>h⟩
theorem ChI.trans{ids:List Nat}{σ τ τ':St}(h:ChI ids σ τ)(h':ChI ids τ τ'):ChI ids σ τ':=⟨Nat.le_trans h.1 h'.1,fun i o a b=>h'.2 i o a (h.2 i o a b)⟩
theorem ChI.wide{ids js:List Nat}{σ τ:St}(h:ChI ids σ τ)(h1:∀i∈ids,i∈js):ChI js σ τ:=⟨h.1,fun i o a b=>h.2 i o (fun c=>a (h1 i c)) b⟩
def OvS(σ:St)(P:List Nat→AV→Prop)(sh:Option Nat)(ids:List Nat)(w:AV):Prop:=
 (ids=[]∧w= .nilsl)∨∃(k:Nat) (xs:List AV) (ii:List (List Nat)) (cap:Option Nat),ids=k::ii.flatten∧w= .sl k 0 xs.length sh cap∧(cap=none∨cap=some xs.length)∧xs.length<2^20∧σ.get k=some (.cells (xs.flatMap AV.cells))∧(∀y∈xs,conf sh y=true)∧ii.length=xs.length∧∀i (h:i<xs.length) (h':i<ii.length),P (ii[i]) (xs[i])
theorem OvS.keep{σ τ:St}{P P':List Nat→AV→Prop}{sh:Option Nat}{ids:List Nat}{w:AV}(hk:∀i∈ids,∀c,σ.get i=some (.cells c)→τ.get i=some (.cells c))(hP:∀js v,(∀j∈js,j∈ids)→P js v→P' js v)(h:OvS σ P sh ids w):OvS τ P' sh ids w:=by
 rcases h with h|⟨k,xs,ii,cap,rfl,h2,h3,h3',h4,h5,h6,h7⟩
 ·exact .inl h
 ·exact .inr ⟨k,xs,ii,cap,rfl,h2,h3,h3',hk k (List.mem_cons_self ..) _ h4,h5,h6,fun i a b=>hP _ _ (fun j hj=>List.mem_cons_of_mem _ (List.mem_flatten.2 ⟨_,List.getElem_mem b,hj⟩)) (h7 i a b)⟩
def OT(σ:St):Nat→List Nat→AV→Prop
 |0,_,_=>False
 |d+1,ids,v=>∃vb s w,v= .ag [.b vb,.s s,w]∧OvS σ (OT σ d) (some 3) ids w
def OF(σ:St):Nat→List Nat→AV→Prop
 |0,_,_=>False
 |d+1,ids,v=>∃op s w1 w2 i1 i2,v= .ag [.i .u8 op,.s s,w1,w2]∧ids=i1++i2∧OvS σ (OT σ d) (some 3) i1 w1∧OvS σ (OF σ d) (some 4) i2 w2
def OP(σ:St)(d:Nat)(ids:List Nat)(v:AV):Prop:=∃w0 op s w1 w2 fr cl i0 i1,v= .ag [w0,.i .u8 op,.s s,w1,w2,.s fr,.b cl]∧ids=i0++i1∧OvS σ (OF σ d) (some 4) i0 w0∧OF σ d i1 (.ag [.i .u8 op,.s s,w1,w2])
def OR1(σ:St)(d:Nat)(ids:List Nat)(v:AV):Prop:=∃nm w0 op s w1 w2 i0 i1,v= .ag [.s nm,w0,.i .u8 op,.s s,w1,w2]∧ids=i0++i1∧OvS σ (OP σ d) (some 7) i0 w0∧OF σ d i1 (.ag [.i .u8 op,.s s,w1,w2])
theorem OT.keep{σ τ:St}:∀(d:Nat) {ids:List Nat} {v:AV},(∀i∈ids,∀c,σ.get i=some (.cells c)→τ.get i=some (.cells c))→OT σ d ids v→OT τ d ids v
 |0,_,_,_,h=>h
 |d+1,_,_,k,⟨vb,s,w,e,h⟩=>⟨vb,s,w,e,h.keep k fun js v hj h=>OT.keep d (fun i hi=>k i (hj i hi)) h⟩
theorem OF.keep{σ τ:St}:∀(d:Nat) {ids:List Nat} {v:AV},(∀i∈ids,∀c,σ.get i=some (.cells c)→τ.get i=some (.cells c))→OF σ d ids v→OF τ d ids v
 |0,_,_,_,h=>h
 |d+1,_,_,k,⟨op,s,w1,w2,i1,i2,e,e2,h,h'⟩=>by
  subst e2
  exact⟨op,s,w1,w2,i1,i2,e,rfl,h.keep (fun i hi=>k i (List.mem_append_left _ hi)) fun js v hj h=>OT.keep d (fun i hi=>k i (List.mem_append_left _ (hj i hi))) h,
   h'.keep (fun i hi=>k i (List.mem_append_right _ hi)) fun js v hj h=>OF.keep d (fun i hi=>k i (List.mem_append_right _ (hj i hi))) h⟩
theorem OP.keep{σ τ:St}{d:Nat}{ids:List Nat}{v:AV}(k:∀i∈ids,∀c,σ.get i=some (.cells c)→τ.get i=some (.cells c))(h:OP σ d ids v):OP τ d ids v:=by
 obtain⟨w0,op,s,w1,w2,fr,cl,i0,i1,e,rfl,h,h'⟩:=h
 exact⟨w0,op,s,w1,w2,fr,cl,i0,i1,e,rfl,h.keep (fun i hi=>k i (List.mem_append_left _ hi)) fun js v hj h=>OF.keep d (fun i hi=>k i (List.mem_append_left _ (hj i hi))) h,OF.keep d (fun i hi=>k i (List.mem_append_right _ hi)) h'⟩
theorem OR1.keep{σ τ:St}{d:Nat}{ids:List Nat}{v:AV}(k:∀i∈ids,∀c,σ.get i=some (.cells c)→τ.get i=some (.cells c))(h:OR1 σ d ids v):OR1 τ d ids v:=by
 obtain⟨nm,w0,op,s,w1,w2,i0,i1,e,rfl,h,h'⟩:=h
 exact⟨nm,w0,op,s,w1,w2,i0,i1,e,rfl,h.keep (fun i hi=>k i (List.mem_append_left _ hi)) fun js v hj h=>OP.keep (fun i hi=>k i (List.mem_append_left _ (hj i hi))) h,OF.keep d (fun i hi=>k i (List.mem_append_right _ hi)) h'⟩
theorem nodup_parts{k:Nat}{ii:List (List Nat)}(h:(k::ii.flatten).Nodup):(∀i (h:i<ii.length),k∉ii[i]∧(ii[i]).Nodup)∧∀i j (h:i<ii.length) (h':j<ii.length),i≠j→∀x∈ii[i],x∉ii[j]:=by
 obtain⟨h1,h2⟩:=List.nodup_cons.1 h
 obtain⟨h3,h4⟩:=List.pairwise_flatten.1 h2
 refine⟨fun i hi=>⟨fun hk=>h1 (List.mem_flatten.2 ⟨_,List.getElem_mem hi,hk⟩),h3 _ (List.getElem_mem hi)⟩,fun i j hi hj hij x hx hx'=>?_⟩
 have h5:=List.pairwise_iff_getElem.1 h4
 rcases Nat.lt_or_gt_of_ne hij with h|h
 ·exact h5 i j hi hj h x hx x hx' rfl
 ·exact h5 j i hj hi h x hx' x hx rfl
theorem flat_lenO{sh:Option Nat}:∀ {xs:List AV},(∀y∈xs,conf sh y=true)→(xs.flatMap AV.cells).length=xs.length*shN sh
 |[],_=>by simp
 |x::xs,h=>by
  rw[List.flatMap_cons,List.length_append,flat_lenO fun y hy=>h y (List.mem_cons_of_mem _ hy),conf_len (h x (by simp)),List.length_cons,Nat.succ_mul,Nat.add_comm]
end
section
open Go.RowKit Go.Lyc.T
attribute [local irreducible] GoM GoW GoV GoD GoesCall
theorem wrapM8(i:Nat):wrapN .u8 (Int.ofNat i)=Int.ofNat (i%256):=by
 show(Int.ofNat i)%(2^8:Int)=_
 simp
theorem op_conv8{ev:AOpd→Option AV}{σ:St}{x:AOpd}{k:IntKind}{i:Nat}(h:ev x=some (.i k (Int.ofNat i))):opx 0 ev σ (.conv .u8 x)=some (.val (.i .u8 (Int.ofNat (i%256))) σ):=by
 show(match ev x with|some (.i _ n)=>some (OpR.val (.i .u8 (wrapN .u8 n)) σ)|some (.um _ d j)=>none|_=>none)=_
 rw[h]
 show some (OpR.val (.i .u8 (wrapN .u8 (Int.ofNat i))) σ)=_
 rw[wrapM8]
theorem bin_shrM{i s:Nat}(hs:s≤64):binop .shr (nI i) (.i .u64 (Int.ofNat s))=some (nI (i/2^s)):=by
 show(if Int.ofNat s<0 then none else some (AV.i .i64 ((Int.ofNat i).fdiv (2^(min (Int.ofNat s).toNat 64)))))=_
 rw[if_neg (by simp)]
 have:(Int.ofNat s).toNat=s:=rfl
 rw[this,Nat.min_eq_left hs]
 congr 2
 show(Int.ofNat i).fdiv ((2:Int)^s)=Int.ofNat (i/2^s)
 rw[show((2:Int)^s)=Int.ofNat (2^s) from by simp]
 exact(Int.ofNat_fdiv _ _).symm
theorem op_min{ev:AOpd→Option AV}{σ:St}{x y:AOpd}{a c:Nat}(h1:ev x=some (nI a))(h2:ev y=some (nI c))(h:a≤c):opx 0 ev σ (.minmax false x y)=some (.val (nI a) σ):=by
 show(match ev x,ev y with|some (.i k a),some (.i l b)=>(if k=l then some (OpR.val (.i k (if false then(if b > a then b else a) else(if b<a then b else a))) σ) else none)|some (.il n),some (.i .i64 (.ofNat j))=>cond (Bool.not false&&Nat.ble j n) (some (OpR.val (.i .i64 (Int.ofNat j)) σ)) none|_,_=>none)=_
 rw[h1,h2]
 show(if IntKind.i64=IntKind.i64 then some (OpR.val (.i .i64 (if Int.ofNat c<Int.ofNat a then Int.ofNat c else Int.ofNat a)) σ) else none)=_
 rw[if_pos rfl,if_neg (by simp;omega)]
theorem store_some{c v:List AV}{off:Nat}(h:off+v.length≤c.length):∃c',storeCells c off v=some c'∧c'.length=c.length:=by
 refine⟨c.take off++(v++c.drop (off+v.length)),?_,?_⟩
 ·unfold storeCells;rw[if_pos (Nat.ble_eq_true_of_le h)]
 ·simp only[List.length_append,List.length_take,List.length_drop];omega
theorem slice_all{ev:AOpd→Option AV}{hi:AOpd}{k m:Nat}{sh:Option Nat}(h:ev hi=some (nI m)):sliceA ev sh (.sl k 0 m sh (some m)) none (some hi) none=some (.sl k 0 m sh (some m)):=by
 have hb:bndO ev (some hi) m=some m:=by show(match ev hi with|some v=>natOf v|none=>none)=_;rw[h];rfl
 have h0:bndO ev none 0=some 0:=rfl
 have h1:Nat.ble 0 m=true:=Nat.ble_eq_true_of_le (Nat.zero_le m)
 have h2:Nat.ble m m=true:=Nat.ble_eq_true_of_le (Nat.le_refl m)
 simp only[sliceA,if_true,h0,hb,h1,h2,Nat.zero_mul,Nat.add_zero,ite_self,Nat.sub_zero]
def mkS(k i:Nat):List Nat:=[35,k%256,k/2^8%256,k/2^16%256,47,i%256,i/2^8%256,i/2^16%256]
abbrev mtC(i:Nat):List AV:=[.b false,.s (mkS 2 i),.nilsl]
abbrev mfC(i:Nat):List AV:=[.i .u8 0,.s (mkS 2 i),.nilsl,.nilsl]
section
variable {b:Base}{K:Nat→List AV→AV→Prop}
theorem W.cv{md:Md}{env:Env}{wh:Option Nat}{D:List (Nat ⊕ (AV×List AV))}{n:Nat}{F:List (Nat×AV)}{z:Nat→AV}{σ:St}{Q:PostF}{d:Nat}{x:AOpd}{g:Option (Nat×Bool)}{ops:List AOper}{k:IntKind}{i:Nat}(hd:Nat.blt d n=true)(hw:wtL g n F=true)(h1:evL env n F z x=some (.i k (Int.ofNat i)))(h:GoM md env wh D n ops (upds ((d,.i .u8 (Int.ofNat (i%256)))::F) z) σ Q):GoM md env wh D n (⟨some d,.conv .u8 x,g,[]⟩::ops) (upds F z) σ Q:=W.val hd hw (op_conv8 h1) h
theorem byteOf_mod(i:Nat):byteOf (.i .u8 (Int.ofNat (i%256)))=some (i%256):=by
 show cond (Nat.blt (i%256) 256) _ _=_
 rw[show Nat.blt (i%256) 256=true from by simp[Nat.blt,Nat.ble_eq];have:=Nat.mod_lt i (show 256 > 0 by decide);omega];rfl
theorem markText_go(k i:Nat)(body:ACode)(hb:c_markText.body=some body):GoF (b.envK K) c_markText.ntmps body (argF [nI k,nI i]) ⟨.nil,0⟩ (DoneR c_markText.results (.s (mkS k i))):=by
 cases hb
 refine W.args fun z=>?_
 have H:Has (⟨.nil,0⟩:St) []:=Has.nil
 refine wk ?_
 refine W.cv rfl rfl rfl ?_
 refine wk ?_
 refine W.bin rfl rfl rfl rfl (bin_shrM (s:=8) (by decide)) ?_
 refine W.cv rfl rfl rfl ?_
 refine wk ?_
 refine W.bin rfl rfl rfl rfl (bin_shrM (s:=16) (by decide)) ?_
 refine W.cv rfl rfl rfl ?_
 refine wk ?_
 refine W.cv rfl rfl rfl ?_
 refine wk ?_
 refine W.bin rfl rfl rfl rfl (bin_shrM (s:=8) (by decide)) ?_
 refine W.cv rfl rfl rfl ?_
 refine wk ?_
 refine W.bin rfl rfl rfl rfl (bin_shrM (s:=16) (by decide)) ?_
 refine W.cv rfl rfl rfl ?_
 refine W.bs (c:=(mkS k i).map fun x=>.i .u8 (Int.ofNat x)) H rfl rfl rfl rfl fun τ n1 H k1=>?_
 have hg:=H.get _ (.head _)
 refine W.val (v:=.s (mkS k i)) (σ':=τ) rfl rfl ?_ ?_
 ·have hr:readList τ (.sl 0 0 8 none (some 8))=some ((mkS k i).map fun x=>AV.i .u8 (Int.ofNat x)):=by
   show(match τ.get 0 with|some (.cells c)=>elems none 8 (c.drop 0)|_=>none)=_
   rw[hg];rfl
  have hm:mapO byteOf ((mkS k i).map fun x=>AV.i .u8 (Int.ofNat x))=some (mkS k i):=by
   show mapO byteOf [_,_,_,_,_,_,_,_]=_
   simp only[mapO_cons,mapO_nil,byteOf_mod]
   rfl
  show(match readList τ (.sl 0 0 8 none (some 8)) with|some l=>(match mapO byteOf l with|some l=>some (OpR.val (.s l) τ)|none=>none)|none=>none)=_
  rw[hr]
  simp only[hm]
 refine wk ?_
 exact GoF.ret ⟨rfl,_,resA_1 (resV_v rfl),rfl⟩
theorem markTerm_go(hfn:∀g ar r r',K g ar r→K g ar r'→r=r')(e:b.ext n_markText=0∧b.pure n_markText=true)(i:Nat)(hK:K n_markText [nI 2,nI i] (.s (mkS 2 i)))(body:ACode)(hb:c_markTerm.body=some body):GoF (b.envK K) c_markTerm.ntmps body (argF [nI 2,nI i]) ⟨.nil,0⟩ (DoneR c_markTerm.results (.ag (mtC i))):=by
 cases hb
 refine W.args fun z=>?_
 have H:Has (⟨.nil,0⟩:St) []:=Has.nil
 refine wk ?_
 refine W.al (c:=[.b false,.s [],.nilsl]) H rfl rfl rfl rfl fun τ n1 H k1=>?_
 refine wk ?_
 refine W.kn hfn e hK rfl rfl rfl rfl ?_
 refine wk ?_
 refine W.st (c':=mtC i) H 0 rfl rfl rfl rfl rfl rfl fun τ2 n2 H k2=>?_
 refine wk ?_
 exact GoF.ret ⟨rfl,_,resA_1 (resV_b rfl (H.get _ (.head _)) rfl),rfl⟩
theorem markForm_go(hfn:∀g ar r r',K g ar r→K g ar r'→r=r')(e:b.ext n_markText=0∧b.pure n_markText=true)(i:Nat)(hK:K n_markText [nI 2,nI i] (.s (mkS 2 i)))(body:ACode)(hb:c_markForm.body=some body):GoF (b.envK K) c_markForm.ntmps body (argF [nI 2,nI i]) ⟨.nil,0⟩ (DoneR c_markForm.results (.ag (mfC i))):=by
 cases hb
 refine W.args fun z=>?_
 have H:Has (⟨.nil,0⟩:St) []:=Has.nil
 refine wk ?_
 refine W.al (c:=[.i .u8 0,.s [],.nilsl,.nilsl]) H rfl rfl rfl rfl fun τ n1 H k1=>?_
 refine wk ?_
 refine W.kn hfn e hK rfl rfl rfl rfl ?_
 refine wk ?_
 refine W.st (c':=mfC i) H 0 rfl rfl rfl rfl rfl rfl fun τ2 n2 H k2=>?_
 refine wk ?_
 exact GoF.ret ⟨rfl,_,resA_1 (resV_b rfl (H.get _ (.head _)) rfl),rfl⟩
abbrev mpC(i:Nat):List AV:=[.nilsl,.i .u8 0,.s [],.nilsl,.nilsl,.s (mkS 2 i),.b false]
abbrev mrC(i:Nat):List AV:=[.s (mkS 2 i),.nilsl,.i .u8 0,.s [],.nilsl,.nilsl]
theorem markPrem_go(hfn:∀g ar r r',K g ar r→K g ar r'→r=r')(e:b.ext n_markText=0∧b.pure n_markText=true)(i:Nat)(hK:K n_markText [nI 2,nI i] (.s (mkS 2 i)))(body:ACode)(hb:c_markPrem.body=some body):GoF (b.envK K) c_markPrem.ntmps body (argF [nI 2,nI i]) ⟨.nil,0⟩ (DoneR c_markPrem.results (.ag (mpC i))):=by
 cases hb
 refine W.args fun z=>?_
 have H:Has (⟨.nil,0⟩:St) []:=Has.nil
 refine wk ?_
 refine W.al (c:=[.nilsl,.i .u8 0,.s [],.nilsl,.nilsl,.s [],.b false]) H rfl rfl rfl rfl fun τ n1 H k1=>?_
 refine wk ?_
 refine W.kn hfn e hK rfl rfl rfl rfl ?_
 refine wk ?_
 refine W.st (c':=mpC i) H 0 rfl rfl rfl rfl rfl rfl fun τ2 n2 H k2=>?_
 refine wk ?_
 exact GoF.ret ⟨rfl,_,resA_1 (resV_b rfl (H.get _ (.head _)) rfl),rfl⟩
theorem markRule_go(hfn:∀g ar r r',K g ar r→K g ar r'→r=r')(e:b.ext n_markText=0∧b.pure n_markText=true)(i:Nat)(hK:K n_markText [nI 2,nI i] (.s (mkS 2 i)))(body:ACode)(hb:c_markRule.body=some body):GoF (b.envK K) c_markRule.ntmps body (argF [nI 2,nI i]) ⟨.nil,0⟩ (DoneR c_markRule.results (.ag (mrC i))):=by
 cases hb
 refine W.args fun z=>?_
 have H:Has (⟨.nil,0⟩:St) []:=Has.nil
 refine wk ?_
 refine W.al (c:=[.s [],.nilsl,.i .u8 0,.s [],.nilsl,.nilsl]) H rfl rfl rfl rfl fun τ n1 H k1=>?_
 refine wk ?_
 refine W.kn hfn e hK rfl rfl rfl rfl ?_
 refine wk ?_
 refine W.st (c':=mrC i) H 0 rfl rfl rfl rfl rfl rfl fun τ2 n2 H k2=>?_
 refine wk ?_
 exact GoF.ret ⟨rfl,_,resA_1 (resV_b rfl (H.get _ (.head _)) rfl),rfl⟩
end
section
variable {b:Base}{K:Nat→List AV→AV→Prop}
theorem op_sliceC{ev:AOpd→Option AV}{σ:St}{x hi:AOpd}{k m:Nat}{sh:Option Nat}(h1:ev x=some (.sl k 0 m sh (some m)))(h2:ev hi=some (nI m)):opx 0 ev σ (.sliceSl sh x none (some hi) none)=some (.val (.sl k 0 m sh (some m)) σ):=by
 show(match ev x with|some x=>(match sliceA ev sh x none (some hi) none with|some v=>some (OpR.val v σ)|none=>sliceX σ ev sh x none (some hi) none)|none=>none)=_
 rw[h1]
 show(match sliceA ev sh (.sl k 0 m sh (some m)) none (some hi) none with|some v=>some (OpR.val v σ)|none=>sliceX σ ev sh (.sl k 0 m sh (some m)) none (some hi) none)=_
 rw[slice_all h2]
theorem OverTerms_o(hfn:∀g ar r r',K g ar r→K g ar r'→r=r')(hh:Here (b.envK K) n_OverTerms c_OverTerms)(e:b.ext n_markTerm=0∧b.pure n_markTerm=true)(hm:∀i,K n_markTerm [nI 2,nI i] (.ag (mtC i))){P:St→List Nat→AV→Prop}(hP:∀σ τ js v,(∀i∈js,∀c,σ.get i=some (.cells c)→τ.get i=some (.cells c))→P σ js v→P τ js v)
  (hc:∀js v σ,js.Nodup→P σ js v→GoesCall (b.envK K) 0 (.f (.func n_OverTerm) [] []) [v] σ (fun r τ=>r= .ok (.tu [])∧ChI js σ τ))
  {ids:List Nat} {w:AV} {σ:St} (hnd:ids.Nodup) (hw:OvS σ (P σ) (some 3) ids w):GoesCall (b.envK K) 0 (.f (.func n_OverTerms) [] []) [w] σ (fun r τ=>r= .ok (.tu [])∧ChI ids σ τ):=by
 refine W.code0 hh.e hh.p hh.f rfl rfl rfl fun z=>?_
 have H:Has σ []:=Has.nil
 rcases hw with⟨rfl,rfl⟩|⟨k,xs,ii,cap,rfl,rfl,hcap,hlen,hg,hcf,hil,hS⟩
 ·refine wk ?_
  refine GoF.block (GoF.loop (fun k F τ=>τ=σ∧sat [(0,.nilsl),(2,nI 0)] F) (fun k F τ hI=>?_) 0 ⟨rfl,rfl,rfl,trivial⟩)
  obtain⟨e0,hs'⟩:=hI
  have e0:=e0.symm
  subst e0
  refine GoF.norm _ hs' fun F=>?_
  refine wk ?_
  refine GoF.exit ?_
  show GoW _ _ _ _ _ _ _ _
  refine wk ?_
  refine W.val (v:=nI 0) (σ':=_) rfl rfl rfl ?_
  refine wk ?_
  refine W.val (v:=nI 0) (σ':=_) rfl rfl (op_min rfl rfl (Nat.zero_le _)) ?_
  refine wk ?_
  refine GoF.block (GoF.loop (fun k F τ=>τ=σ∧sat [(3,.nilsl),(4,nI 0)] F) (fun k F τ hI=>?_) 0 ⟨rfl,rfl,rfl,trivial⟩)
  obtain⟨e0,hs'⟩:=hI
  have e0:=e0.symm
  subst e0
  refine GoF.norm _ hs' fun F=>?_
  refine wk ?_
  refine GoF.exit ?_
  exact⟨.inr rfl,rfl,ChI.refl⟩
 ·obtain⟨hN1,hN2⟩:=nodup_parts hnd
  obtain⟨n,hn⟩:∃n,xs.length=n:=⟨_,rfl⟩
  rw[hn] at hcap hlen ⊢
  have hmem:∀i (h:i<ii.length),∀x∈ii[i],x∈k::ii.flatten:=fun i h x hx=>List.mem_cons_of_mem _ (List.mem_flatten.2 ⟨_,List.getElem_mem h,hx⟩)
  refine wk ?_
  refine GoF.block (GoF.loop (fun m F τ=>∃j,j+m=n∧τ.get k=some (.cells (xs.flatMap AV.cells))∧(∀i (h:i<xs.length) (h':i<ii.length),j≤i→P τ (ii[i]) (xs[i]))∧ChI (k::ii.flatten) σ τ∧sat [(0,.sl k 0 n (some 3) cap),(2,nI j)] F) (fun m F τ hI=>?_) n ⟨0,by omega,hg,fun i h h' _=>hS i h h',ChI.refl,rfl,rfl,trivial⟩)
  obtain⟨j,hj,hg,hS,hC,hs'⟩:=hI
  refine GoF.norm _ hs' fun F=>?_
  clear hs' H
  have H:Has τ []:=Has.nil
  have hv:Vw τ (some 3) (.sl k 0 n (some 3) cap) xs:=by
   have:=Sl.vw (Sl.sl (σ:=τ) (sh:=some 3) k cap xs [] (by simpa using hg) hcf (by rw[hn];exact hcap))
   rwa[hn] at this
  by_cases hjn:j<n
  ·refine wk ?_
   refine W.cy rfl rfl rfl (hc _ _ _ (hN1 j (by omega)).2 (hS j (by omega) (by omega) (Nat.le_refl _))) fun r τ2 ⟨e2,C2⟩=>⟨_,e2,?_⟩
   refine wk ?_
   refine⟨m-1,by omega,j+1,by omega,C2.2 _ _ (hN1 j (by omega)).1 hg,fun i h h' hi=>hP _ _ _ _ (fun x hx c hc=>C2.2 _ _ (hN2 i j h' (by omega) (by omega) x hx) hc) (hS i h h' (by omega)),hC.trans (C2.wide (hmem j (by omega))),rfl,rfl,trivial⟩
  ·refine wk ?_
   refine GoF.exit ?_
   show GoW _ _ _ _ _ _ _ _
   refine wk ?_
   have hfl:(xs.flatMap AV.cells).length=n*shN (some 3):=by rw[flat_lenO hcf,hn]
   rcases hcap with rfl|rfl
   ·refine W.cp hg hfl rfl rfl rfl fun v k' τ1 hv1 n1 g1 k1=>?_
    refine wk ?_
    rw[hn]
    refine W.val (v:=nI (n+k')) (σ':=τ1) rfl rfl (op_minO hv1 rfl rfl) ?_
    refine W.val (v:=.sl k 0 (n+k') (some 3) none) (σ':=τ1) rfl rfl (op_sliceO g1 hfl rfl (by decide) rfl rfl) ?_
    refine wk ?_
    have hC1:ChI (k::ii.flatten) σ τ1:=hC.trans ⟨by omega,fun i o h1 h2=>k1 _ _ (fun e=>h1 (by rw[e];exact List.mem_cons_self ..)) h2⟩
    have hk':=hv1.1
    refine GoF.block (GoF.loop (fun m F τ=>∃j c,j+m=n+k'∧τ.get k=some (.cellx c (k'*shN (some 3)))∧c.length=n*3∧ChI (k::ii.flatten) σ τ∧sat [(3,.sl k 0 (n+k') (some 3) none),(4,nI j)] F) (fun m F τ hI=>?_) (n+k') ⟨0,_,by omega,g1,hfl,hC1,rfl,rfl,trivial⟩)
    obtain⟨j,c,hj,hg,hcl,hC,hs'⟩:=hI
    refine GoF.norm _ hs' fun F=>?_
    clear hs' H hv
    have H:Has τ []:=Has.nil
    by_cases hjn:j<n+k'
    ·refine wk ?_
     refine W.kn hfn e (hm j) rfl rfl rfl rfl ?_
     refine wk ?_
     refine W.ix rfl rfl rfl rfl (idxSlA_sl hjn) ?_
     refine W.sx hg rfl rfl rfl rfl (by
      rw[hcl]
      show n*3≤0+j*3∧0+j*3+3≤n*3+k'*3∨0+j*3+3≤n*3
      omega) fun c' τ2 e2 n2 g2 k2=>?_
     refine wk ?_
     refine⟨m-1,by omega,j+1,c',by omega,g2,by rw[e2];exact hcl,hC.trans ⟨by omega,fun i o h1 h2=>k2 _ _ (fun e=>h1 (by rw[e];exact List.mem_cons_self ..)) h2⟩,rfl,rfl,trivial⟩
    ·refine wk ?_
     refine GoF.exit ?_
     exact⟨.inr rfl,rfl,hC⟩
   ·refine W.val (v:=nI n) (σ':=τ) rfl rfl rfl ?_
    refine wk ?_
    rw[hn]
    refine W.val (v:=nI n) (σ':=τ) rfl rfl (op_min (c:=n+12) rfl rfl (Nat.le_add_right n 12)) ?_
    refine W.val (v:=.sl k 0 n (some 3) (some n)) (σ':=τ) rfl rfl (op_sliceC rfl rfl) ?_
    refine wk ?_
    refine GoF.block (GoF.loop (fun m F τ=>∃j c,j+m=n∧τ.get k=some (.cells c)∧c.length=n*3∧ChI (k::ii.flatten) σ τ∧sat [(3,.sl k 0 n (some 3) (some n)),(4,nI j)] F) (fun m F τ hI=>?_) n ⟨0,_,by omega,hg,hfl,hC,rfl,rfl,trivial⟩)
    obtain⟨j,c,hj,hg,hcl,hC,hs'⟩:=hI
    refine GoF.norm _ hs' fun F=>?_
    clear hs' H hv
    have H:Has τ [(k,c)]:=Has.nil.cons hg (by simp)
    by_cases hjn:j<n
    ·refine wk ?_
     refine W.kn hfn e (hm j) rfl rfl rfl rfl ?_
     refine wk ?_
     refine W.ix rfl rfl rfl rfl (idxSlA_sl hjn) ?_
     obtain⟨c',s1,s2⟩:=store_some (c:=c) (v:=mtC j) (off:=0+j*3) (by rw[hcl];show 0+j*3+3≤n*3;omega)
     refine W.st (c':=c') H 0 rfl rfl rfl rfl rfl s1 fun τ2 n2 H k2=>?_
     refine wk ?_
     refine⟨m-1,by omega,j+1,c',by omega,H.get _ (.head _),by rw[s2];exact hcl,hC.trans ⟨by omega,fun i o h1 h2=>k2 _ _ (fun e=>h1 (by rw[e];exact List.mem_cons_self ..)) h2⟩,rfl,rfl,trivial⟩
    ·refine wk ?_
     refine GoF.exit ?_
     exact⟨.inr rfl,rfl,hC⟩
end
section
variable {b:Base}{K:Nat→List AV→AV→Prop}
theorem OverForms_o(hfn:∀g ar r r',K g ar r→K g ar r'→r=r')(hh:Here (b.envK K) n_OverForms c_OverForms)(e:b.ext n_markForm=0∧b.pure n_markForm=true)(hm:∀i,K n_markForm [nI 2,nI i] (.ag (mfC i))){P:St→List Nat→AV→Prop}(hP:∀σ τ js v,(∀i∈js,∀c,σ.get i=some (.cells c)→τ.get i=some (.cells c))→P σ js v→P τ js v)
  (hc:∀js v σ,js.Nodup→P σ js v→GoesCall (b.envK K) 0 (.f (.func n_OverForm) [] []) [v] σ (fun r τ=>r= .ok (.tu [])∧ChI js σ τ))
  {ids:List Nat} {w:AV} {σ:St} (hnd:ids.Nodup) (hw:OvS σ (P σ) (some 4) ids w):GoesCall (b.envK K) 0 (.f (.func n_OverForms) [] []) [w] σ (fun r τ=>r= .ok (.tu [])∧ChI ids σ τ):=by
 refine W.code0 hh.e hh.p hh.f rfl rfl rfl fun z=>?_
 have H:Has σ []:=Has.nil
 rcases hw with⟨rfl,rfl⟩|⟨k,xs,ii,cap,rfl,rfl,hcap,hlen,hg,hcf,hil,hS⟩
 ·refine wk ?_
  refine GoF.block (GoF.loop (fun k F τ=>τ=σ∧sat [(0,.nilsl),(2,nI 0)] F) (fun k F τ hI=>?_) 0 ⟨rfl,rfl,rfl,trivial⟩)
  obtain⟨e0,hs'⟩:=hI
  have e0:=e0.symm
  subst e0
  refine GoF.norm _ hs' fun F=>?_
  refine wk ?_
  refine GoF.exit ?_
  show GoW _ _ _ _ _ _ _ _
  refine wk ?_
  refine W.val (v:=nI 0) (σ':=_) rfl rfl rfl ?_
  refine wk ?_
  refine W.val (v:=nI 0) (σ':=_) rfl rfl (op_min rfl rfl (Nat.zero_le _)) ?_
  refine wk ?_
  refine GoF.block (GoF.loop (fun k F τ=>τ=σ∧sat [(3,.nilsl),(4,nI 0)] F) (fun k F τ hI=>?_) 0 ⟨rfl,rfl,rfl,trivial⟩)
  obtain⟨e0,hs'⟩:=hI
  have e0:=e0.symm
  subst e0
  refine GoF.norm _ hs' fun F=>?_
  refine wk ?_
  refine GoF.exit ?_
  exact⟨.inr rfl,rfl,ChI.refl⟩
 ·obtain⟨hN1,hN2⟩:=nodup_parts hnd
  obtain⟨n,hn⟩:∃n,xs.length=n:=⟨_,rfl⟩
  rw[hn] at hcap hlen ⊢
  have hmem:∀i (h:i<ii.length),∀x∈ii[i],x∈k::ii.flatten:=fun i h x hx=>List.mem_cons_of_mem _ (List.mem_flatten.2 ⟨_,List.getElem_mem h,hx⟩)
  refine wk ?_
  refine GoF.block (GoF.loop (fun m F τ=>∃j,j+m=n∧τ.get k=some (.cells (xs.flatMap AV.cells))∧(∀i (h:i<xs.length) (h':i<ii.length),j≤i→P τ (ii[i]) (xs[i]))∧ChI (k::ii.flatten) σ τ∧sat [(0,.sl k 0 n (some 4) cap),(2,nI j)] F) (fun m F τ hI=>?_) n ⟨0,by omega,hg,fun i h h' _=>hS i h h',ChI.refl,rfl,rfl,trivial⟩)
  obtain⟨j,hj,hg,hS,hC,hs'⟩:=hI
  refine GoF.norm _ hs' fun F=>?_
  clear hs' H
  have H:Has τ []:=Has.nil
  have hv:Vw τ (some 4) (.sl k 0 n (some 4) cap) xs:=by
   have:=Sl.vw (Sl.sl (σ:=τ) (sh:=some 4) k cap xs [] (by simpa using hg) hcf (by rw[hn];exact hcap))
   rwa[hn] at this
  by_cases hjn:j<n
  ·refine wk ?_
   refine W.cy rfl rfl rfl (hc _ _ _ (hN1 j (by omega)).2 (hS j (by omega) (by omega) (Nat.le_refl _))) fun r τ2 ⟨e2,C2⟩=>⟨_,e2,?_⟩
   refine wk ?_
   refine⟨m-1,by omega,j+1,by omega,C2.2 _ _ (hN1 j (by omega)).1 hg,fun i h h' hi=>hP _ _ _ _ (fun x hx c hc=>C2.2 _ _ (hN2 i j h' (by omega) (by omega) x hx) hc) (hS i h h' (by omega)),hC.trans (C2.wide (hmem j (by omega))),rfl,rfl,trivial⟩
  ·refine wk ?_
   refine GoF.exit ?_
   show GoW _ _ _ _ _ _ _ _
   refine wk ?_
   have hfl:(xs.flatMap AV.cells).length=n*shN (some 4):=by rw[flat_lenO hcf,hn]
   rcases hcap with rfl|rfl
   ·refine W.cp hg hfl rfl rfl rfl fun v k' τ1 hv1 n1 g1 k1=>?_
    refine wk ?_
    rw[hn]
    refine W.val (v:=nI (n+k')) (σ':=τ1) rfl rfl (op_minO hv1 rfl rfl) ?_
    refine W.val (v:=.sl k 0 (n+k') (some 4) none) (σ':=τ1) rfl rfl (op_sliceO g1 hfl rfl (by decide) rfl rfl) ?_
    refine wk ?_
    have hC1:ChI (k::ii.flatten) σ τ1:=hC.trans ⟨by omega,fun i o h1 h2=>k1 _ _ (fun e=>h1 (by rw[e];exact List.mem_cons_self ..)) h2⟩
    have hk':=hv1.1
    refine GoF.block (GoF.loop (fun m F τ=>∃j c,j+m=n+k'∧τ.get k=some (.cellx c (k'*shN (some 4)))∧c.length=n*4∧ChI (k::ii.flatten) σ τ∧sat [(3,.sl k 0 (n+k') (some 4) none),(4,nI j)] F) (fun m F τ hI=>?_) (n+k') ⟨0,_,by omega,g1,hfl,hC1,rfl,rfl,trivial⟩)
    obtain⟨j,c,hj,hg,hcl,hC,hs'⟩:=hI
    refine GoF.norm _ hs' fun F=>?_
    clear hs' H hv
    have H:Has τ []:=Has.nil
    by_cases hjn:j<n+k'
    ·refine wk ?_
     refine W.kn hfn e (hm j) rfl rfl rfl rfl ?_
     refine wk ?_
     refine W.ix rfl rfl rfl rfl (idxSlA_sl hjn) ?_
     refine W.sx hg rfl rfl rfl rfl (by
      rw[hcl]
      show n*4≤0+j*4∧0+j*4+4≤n*4+k'*4∨0+j*4+4≤n*4
      omega) fun c' τ2 e2 n2 g2 k2=>?_
     refine wk ?_
     refine⟨m-1,by omega,j+1,c',by omega,g2,by rw[e2];exact hcl,hC.trans ⟨by omega,fun i o h1 h2=>k2 _ _ (fun e=>h1 (by rw[e];exact List.mem_cons_self ..)) h2⟩,rfl,rfl,trivial⟩
    ·refine wk ?_
     refine GoF.exit ?_
     exact⟨.inr rfl,rfl,hC⟩
   ·refine W.val (v:=nI n) (σ':=τ) rfl rfl rfl ?_
    refine wk ?_
    rw[hn]
    refine W.val (v:=nI n) (σ':=τ) rfl rfl (op_min (c:=n+12) rfl rfl (Nat.le_add_right n 12)) ?_
    refine W.val (v:=.sl k 0 n (some 4) (some n)) (σ':=τ) rfl rfl (op_sliceC rfl rfl) ?_
    refine wk ?_
    refine GoF.block (GoF.loop (fun m F τ=>∃j c,j+m=n∧τ.get k=some (.cells c)∧c.length=n*4∧ChI (k::ii.flatten) σ τ∧sat [(3,.sl k 0 n (some 4) (some n)),(4,nI j)] F) (fun m F τ hI=>?_) n ⟨0,_,by omega,hg,hfl,hC,rfl,rfl,trivial⟩)
    obtain⟨j,c,hj,hg,hcl,hC,hs'⟩:=hI
    refine GoF.norm _ hs' fun F=>?_
    clear hs' H hv
    have H:Has τ [(k,c)]:=Has.nil.cons hg (by simp)
    by_cases hjn:j<n
    ·refine wk ?_
     refine W.kn hfn e (hm j) rfl rfl rfl rfl ?_
     refine wk ?_
     refine W.ix rfl rfl rfl rfl (idxSlA_sl hjn) ?_
     obtain⟨c',s1,s2⟩:=store_some (c:=c) (v:=mfC j) (off:=0+j*4) (by rw[hcl];show 0+j*4+4≤n*4;omega)
     refine W.st (c':=c') H 0 rfl rfl rfl rfl rfl s1 fun τ2 n2 H k2=>?_
     refine wk ?_
     refine⟨m-1,by omega,j+1,c',by omega,H.get _ (.head _),by rw[s2];exact hcl,hC.trans ⟨by omega,fun i o h1 h2=>k2 _ _ (fun e=>h1 (by rw[e];exact List.mem_cons_self ..)) h2⟩,rfl,rfl,trivial⟩
    ·refine wk ?_
     refine GoF.exit ?_
     exact⟨.inr rfl,rfl,hC⟩
theorem OverPrems_o(hfn:∀g ar r r',K g ar r→K g ar r'→r=r')(hh:Here (b.envK K) n_OverPrems c_OverPrems)(e:b.ext n_markPrem=0∧b.pure n_markPrem=true)(hm:∀i,K n_markPrem [nI 2,nI i] (.ag (mpC i))){P:St→List Nat→AV→Prop}(hP:∀σ τ js v,(∀i∈js,∀c,σ.get i=some (.cells c)→τ.get i=some (.cells c))→P σ js v→P τ js v)
  (hc:∀js v σ,js.Nodup→P σ js v→GoesCall (b.envK K) 0 (.f (.func n_OverPrem) [] []) [v] σ (fun r τ=>r= .ok (.tu [])∧ChI js σ τ))
  {ids:List Nat} {w:AV} {σ:St} (hnd:ids.Nodup) (hw:OvS σ (P σ) (some 7) ids w):GoesCall (b.envK K) 0 (.f (.func n_OverPrems) [] []) [w] σ (fun r τ=>r= .ok (.tu [])∧ChI ids σ τ):=by
 refine W.code0 hh.e hh.p hh.f rfl rfl rfl fun z=>?_
 have H:Has σ []:=Has.nil
 rcases hw with⟨rfl,rfl⟩|⟨k,xs,ii,cap,rfl,rfl,hcap,hlen,hg,hcf,hil,hS⟩
 ·refine wk ?_
  refine GoF.block (GoF.loop (fun k F τ=>τ=σ∧sat [(0,.nilsl),(2,nI 0)] F) (fun k F τ hI=>?_) 0 ⟨rfl,rfl,rfl,trivial⟩)
  obtain⟨e0,hs'⟩:=hI
  have e0:=e0.symm
  subst e0
  refine GoF.norm _ hs' fun F=>?_
  refine wk ?_
  refine GoF.exit ?_
  show GoW _ _ _ _ _ _ _ _
  refine wk ?_
  refine W.val (v:=nI 0) (σ':=_) rfl rfl rfl ?_
  refine wk ?_
  refine W.val (v:=nI 0) (σ':=_) rfl rfl (op_min rfl rfl (Nat.zero_le _)) ?_
  refine wk ?_
  refine GoF.block (GoF.loop (fun k F τ=>τ=σ∧sat [(3,.nilsl),(4,nI 0)] F) (fun k F τ hI=>?_) 0 ⟨rfl,rfl,rfl,trivial⟩)
  obtain⟨e0,hs'⟩:=hI
  have e0:=e0.symm
  subst e0
  refine GoF.norm _ hs' fun F=>?_
  refine wk ?_
  refine GoF.exit ?_
  exact⟨.inr rfl,rfl,ChI.refl⟩
 ·obtain⟨hN1,hN2⟩:=nodup_parts hnd
  obtain⟨n,hn⟩:∃n,xs.length=n:=⟨_,rfl⟩
  rw[hn] at hcap hlen ⊢
  have hmem:∀i (h:i<ii.length),∀x∈ii[i],x∈k::ii.flatten:=fun i h x hx=>List.mem_cons_of_mem _ (List.mem_flatten.2 ⟨_,List.getElem_mem h,hx⟩)
  refine wk ?_
  refine GoF.block (GoF.loop (fun m F τ=>∃j,j+m=n∧τ.get k=some (.cells (xs.flatMap AV.cells))∧(∀i (h:i<xs.length) (h':i<ii.length),j≤i→P τ (ii[i]) (xs[i]))∧ChI (k::ii.flatten) σ τ∧sat [(0,.sl k 0 n (some 7) cap),(2,nI j)] F) (fun m F τ hI=>?_) n ⟨0,by omega,hg,fun i h h' _=>hS i h h',ChI.refl,rfl,rfl,trivial⟩)
  obtain⟨j,hj,hg,hS,hC,hs'⟩:=hI
  refine GoF.norm _ hs' fun F=>?_
  clear hs' H
  have H:Has τ []:=Has.nil
  have hv:Vw τ (some 7) (.sl k 0 n (some 7) cap) xs:=by
   have:=Sl.vw (Sl.sl (σ:=τ) (sh:=some 7) k cap xs [] (by simpa using hg) hcf (by rw[hn];exact hcap))
   rwa[hn] at this
  by_cases hjn:j<n
  ·refine wk ?_
   refine W.cy rfl rfl rfl (hc _ _ _ (hN1 j (by omega)).2 (hS j (by omega) (by omega) (Nat.le_refl _))) fun r τ2 ⟨e2,C2⟩=>⟨_,e2,?_⟩
   refine wk ?_
   refine⟨m-1,by omega,j+1,by omega,C2.2 _ _ (hN1 j (by omega)).1 hg,fun i h h' hi=>hP _ _ _ _ (fun x hx c hc=>C2.2 _ _ (hN2 i j h' (by omega) (by omega) x hx) hc) (hS i h h' (by omega)),hC.trans (C2.wide (hmem j (by omega))),rfl,rfl,trivial⟩
  ·refine wk ?_
   refine GoF.exit ?_
   show GoW _ _ _ _ _ _ _ _
   refine wk ?_
   have hfl:(xs.flatMap AV.cells).length=n*shN (some 7):=by rw[flat_lenO hcf,hn]
   rcases hcap with rfl|rfl
   ·refine W.cp hg hfl rfl rfl rfl fun v k' τ1 hv1 n1 g1 k1=>?_
    refine wk ?_
    rw[hn]
    refine W.val (v:=nI (n+k')) (σ':=τ1) rfl rfl (op_minO hv1 rfl rfl) ?_
    refine W.val (v:=.sl k 0 (n+k') (some 7) none) (σ':=τ1) rfl rfl (op_sliceO g1 hfl rfl (by decide) rfl rfl) ?_
    refine wk ?_
    have hC1:ChI (k::ii.flatten) σ τ1:=hC.trans ⟨by omega,fun i o h1 h2=>k1 _ _ (fun e=>h1 (by rw[e];exact List.mem_cons_self ..)) h2⟩
    have hk':=hv1.1
    refine GoF.block (GoF.loop (fun m F τ=>∃j c,j+m=n+k'∧τ.get k=some (.cellx c (k'*shN (some 7)))∧c.length=n*7∧ChI (k::ii.flatten) σ τ∧sat [(3,.sl k 0 (n+k') (some 7) none),(4,nI j)] F) (fun m F τ hI=>?_) (n+k') ⟨0,_,by omega,g1,hfl,hC1,rfl,rfl,trivial⟩)
    obtain⟨j,c,hj,hg,hcl,hC,hs'⟩:=hI
    refine GoF.norm _ hs' fun F=>?_
    clear hs' H hv
    have H:Has τ []:=Has.nil
    by_cases hjn:j<n+k'
    ·refine wk ?_
     refine W.kn hfn e (hm j) rfl rfl rfl rfl ?_
     refine wk ?_
     refine W.ix rfl rfl rfl rfl (idxSlA_sl hjn) ?_
     refine W.sx hg rfl rfl rfl rfl (by
      rw[hcl]
      show n*7≤0+j*7∧0+j*7+7≤n*7+k'*7∨0+j*7+7≤n*7
      omega) fun c' τ2 e2 n2 g2 k2=>?_
     refine wk ?_
     refine⟨m-1,by omega,j+1,c',by omega,g2,by rw[e2];exact hcl,hC.trans ⟨by omega,fun i o h1 h2=>k2 _ _ (fun e=>h1 (by rw[e];exact List.mem_cons_self ..)) h2⟩,rfl,rfl,trivial⟩
    ·refine wk ?_
     refine GoF.exit ?_
     exact⟨.inr rfl,rfl,hC⟩
   ·refine W.val (v:=nI n) (σ':=τ) rfl rfl rfl ?_
    refine wk ?_
    rw[hn]
    refine W.val (v:=nI n) (σ':=τ) rfl rfl (op_min (c:=n+12) rfl rfl (Nat.le_add_right n 12)) ?_
    refine W.val (v:=.sl k 0 n (some 7) (some n)) (σ':=τ) rfl rfl (op_sliceC rfl rfl) ?_
    refine wk ?_
    refine GoF.block (GoF.loop (fun m F τ=>∃j c,j+m=n∧τ.get k=some (.cells c)∧c.length=n*7∧ChI (k::ii.flatten) σ τ∧sat [(3,.sl k 0 n (some 7) (some n)),(4,nI j)] F) (fun m F τ hI=>?_) n ⟨0,_,by omega,hg,hfl,hC,rfl,rfl,trivial⟩)
    obtain⟨j,c,hj,hg,hcl,hC,hs'⟩:=hI
    refine GoF.norm _ hs' fun F=>?_
    clear hs' H hv
    have H:Has τ [(k,c)]:=Has.nil.cons hg (by simp)
    by_cases hjn:j<n
    ·refine wk ?_
     refine W.kn hfn e (hm j) rfl rfl rfl rfl ?_
     refine wk ?_
     refine W.ix rfl rfl rfl rfl (idxSlA_sl hjn) ?_
     obtain⟨c',s1,s2⟩:=store_some (c:=c) (v:=mpC j) (off:=0+j*7) (by rw[hcl];show 0+j*7+7≤n*7;omega)
     refine W.st (c':=c') H 0 rfl rfl rfl rfl rfl s1 fun τ2 n2 H k2=>?_
     refine wk ?_
     refine⟨m-1,by omega,j+1,c',by omega,H.get _ (.head _),by rw[s2];exact hcl,hC.trans ⟨by omega,fun i o h1 h2=>k2 _ _ (fun e=>h1 (by rw[e];exact List.mem_cons_self ..)) h2⟩,rfl,rfl,trivial⟩
    ·refine wk ?_
     refine GoF.exit ?_
     exact⟨.inr rfl,rfl,hC⟩
theorem OverRules_o(hfn:∀g ar r r',K g ar r→K g ar r'→r=r')(hh:Here (b.envK K) n_OverRules c_OverRules)(e:b.ext n_markRule=0∧b.pure n_markRule=true)(hm:∀i,K n_markRule [nI 2,nI i] (.ag (mrC i))){P:St→List Nat→AV→Prop}(hP:∀σ τ js v,(∀i∈js,∀c,σ.get i=some (.cells c)→τ.get i=some (.cells c))→P σ js v→P τ js v)
  (hc:∀js v σ,js.Nodup→P σ js v→GoesCall (b.envK K) 0 (.f (.func n_OverRule) [] []) [v] σ (fun r τ=>r= .ok (.tu [])∧ChI js σ τ))
  {ids:List Nat} {w:AV} {σ:St} (hnd:ids.Nodup) (hw:OvS σ (P σ) (some 6) ids w):GoesCall (b.envK K) 0 (.f (.func n_OverRules) [] []) [w] σ (fun r τ=>r= .ok (.tu [])∧ChI ids σ τ):=by
 refine W.code0 hh.e hh.p hh.f rfl rfl rfl fun z=>?_
 have H:Has σ []:=Has.nil
 rcases hw with⟨rfl,rfl⟩|⟨k,xs,ii,cap,rfl,rfl,hcap,hlen,hg,hcf,hil,hS⟩
 ·refine wk ?_
  refine GoF.block (GoF.loop (fun k F τ=>τ=σ∧sat [(0,.nilsl),(2,nI 0)] F) (fun k F τ hI=>?_) 0 ⟨rfl,rfl,rfl,trivial⟩)
  obtain⟨e0,hs'⟩:=hI
  have e0:=e0.symm
  subst e0
  refine GoF.norm _ hs' fun F=>?_
  refine wk ?_
  refine GoF.exit ?_
  show GoW _ _ _ _ _ _ _ _
  refine wk ?_
  refine W.val (v:=nI 0) (σ':=_) rfl rfl rfl ?_
  refine wk ?_
  refine W.val (v:=nI 0) (σ':=_) rfl rfl (op_min rfl rfl (Nat.zero_le _)) ?_
  refine wk ?_
  refine GoF.block (GoF.loop (fun k F τ=>τ=σ∧sat [(3,.nilsl),(4,nI 0)] F) (fun k F τ hI=>?_) 0 ⟨rfl,rfl,rfl,trivial⟩)
  obtain⟨e0,hs'⟩:=hI
  have e0:=e0.symm
  subst e0
  refine GoF.norm _ hs' fun F=>?_
  refine wk ?_
  refine GoF.exit ?_
  exact⟨.inr rfl,rfl,ChI.refl⟩
 ·obtain⟨hN1,hN2⟩:=nodup_parts hnd
  obtain⟨n,hn⟩:∃n,xs.length=n:=⟨_,rfl⟩
  rw[hn] at hcap hlen ⊢
  have hmem:∀i (h:i<ii.length),∀x∈ii[i],x∈k::ii.flatten:=fun i h x hx=>List.mem_cons_of_mem _ (List.mem_flatten.2 ⟨_,List.getElem_mem h,hx⟩)
  refine wk ?_
  refine GoF.block (GoF.loop (fun m F τ=>∃j,j+m=n∧τ.get k=some (.cells (xs.flatMap AV.cells))∧(∀i (h:i<xs.length) (h':i<ii.length),j≤i→P τ (ii[i]) (xs[i]))∧ChI (k::ii.flatten) σ τ∧sat [(0,.sl k 0 n (some 6) cap),(2,nI j)] F) (fun m F τ hI=>?_) n ⟨0,by omega,hg,fun i h h' _=>hS i h h',ChI.refl,rfl,rfl,trivial⟩)
  obtain⟨j,hj,hg,hS,hC,hs'⟩:=hI
  refine GoF.norm _ hs' fun F=>?_
  clear hs' H
  have H:Has τ []:=Has.nil
  have hv:Vw τ (some 6) (.sl k 0 n (some 6) cap) xs:=by
   have:=Sl.vw (Sl.sl (σ:=τ) (sh:=some 6) k cap xs [] (by simpa using hg) hcf (by rw[hn];exact hcap))
   rwa[hn] at this
  by_cases hjn:j<n
  ·refine wk ?_
   refine W.cy rfl rfl rfl (hc _ _ _ (hN1 j (by omega)).2 (hS j (by omega) (by omega) (Nat.le_refl _))) fun r τ2 ⟨e2,C2⟩=>⟨_,e2,?_⟩
   refine wk ?_
   refine⟨m-1,by omega,j+1,by omega,C2.2 _ _ (hN1 j (by omega)).1 hg,fun i h h' hi=>hP _ _ _ _ (fun x hx c hc=>C2.2 _ _ (hN2 i j h' (by omega) (by omega) x hx) hc) (hS i h h' (by omega)),hC.trans (C2.wide (hmem j (by omega))),rfl,rfl,trivial⟩
  ·refine wk ?_
   refine GoF.exit ?_
   show GoW _ _ _ _ _ _ _ _
   refine wk ?_
   have hfl:(xs.flatMap AV.cells).length=n*shN (some 6):=by rw[flat_lenO hcf,hn]
   rcases hcap with rfl|rfl
   ·refine W.cp hg hfl rfl rfl rfl fun v k' τ1 hv1 n1 g1 k1=>?_
    refine wk ?_
    rw[hn]
    refine W.val (v:=nI (n+k')) (σ':=τ1) rfl rfl (op_minO hv1 rfl rfl) ?_
    refine W.val (v:=.sl k 0 (n+k') (some 6) none) (σ':=τ1) rfl rfl (op_sliceO g1 hfl rfl (by decide) rfl rfl) ?_
    refine wk ?_
    have hC1:ChI (k::ii.flatten) σ τ1:=hC.trans ⟨by omega,fun i o h1 h2=>k1 _ _ (fun e=>h1 (by rw[e];exact List.mem_cons_self ..)) h2⟩
    have hk':=hv1.1
    refine GoF.block (GoF.loop (fun m F τ=>∃j c,j+m=n+k'∧τ.get k=some (.cellx c (k'*shN (some 6)))∧c.length=n*6∧ChI (k::ii.flatten) σ τ∧sat [(3,.sl k 0 (n+k') (some 6) none),(4,nI j)] F) (fun m F τ hI=>?_) (n+k') ⟨0,_,by omega,g1,hfl,hC1,rfl,rfl,trivial⟩)
    obtain⟨j,c,hj,hg,hcl,hC,hs'⟩:=hI
    refine GoF.norm _ hs' fun F=>?_
    clear hs' H hv
    have H:Has τ []:=Has.nil
    by_cases hjn:j<n+k'
    ·refine wk ?_
     refine W.kn hfn e (hm j) rfl rfl rfl rfl ?_
     refine wk ?_
     refine W.ix rfl rfl rfl rfl (idxSlA_sl hjn) ?_
     refine W.sx hg rfl rfl rfl rfl (by
      rw[hcl]
      show n*6≤0+j*6∧0+j*6+6≤n*6+k'*6∨0+j*6+6≤n*6
      omega) fun c' τ2 e2 n2 g2 k2=>?_
     refine wk ?_
     refine⟨m-1,by omega,j+1,c',by omega,g2,by rw[e2];exact hcl,hC.trans ⟨by omega,fun i o h1 h2=>k2 _ _ (fun e=>h1 (by rw[e];exact List.mem_cons_self ..)) h2⟩,rfl,rfl,trivial⟩
    ·refine wk ?_
     refine GoF.exit ?_
     exact⟨.inr rfl,rfl,hC⟩
   ·refine W.val (v:=nI n) (σ':=τ) rfl rfl rfl ?_
    refine wk ?_
    rw[hn]
    refine W.val (v:=nI n) (σ':=τ) rfl rfl (op_min (c:=n+12) rfl rfl (Nat.le_add_right n 12)) ?_
    refine W.val (v:=.sl k 0 n (some 6) (some n)) (σ':=τ) rfl rfl (op_sliceC rfl rfl) ?_
    refine wk ?_
    refine GoF.block (GoF.loop (fun m F τ=>∃j c,j+m=n∧τ.get k=some (.cells c)∧c.length=n*6∧ChI (k::ii.flatten) σ τ∧sat [(3,.sl k 0 n (some 6) (some n)),(4,nI j)] F) (fun m F τ hI=>?_) n ⟨0,_,by omega,hg,hfl,hC,rfl,rfl,trivial⟩)
    obtain⟨j,c,hj,hg,hcl,hC,hs'⟩:=hI
    refine GoF.norm _ hs' fun F=>?_
    clear hs' H hv
    have H:Has τ [(k,c)]:=Has.nil.cons hg (by simp)
    by_cases hjn:j<n
    ·refine wk ?_
     refine W.kn hfn e (hm j) rfl rfl rfl rfl ?_
     refine wk ?_
     refine W.ix rfl rfl rfl rfl (idxSlA_sl hjn) ?_
     obtain⟨c',s1,s2⟩:=store_some (c:=c) (v:=mrC j) (off:=0+j*6) (by rw[hcl];show 0+j*6+6≤n*6;omega)
     refine W.st (c':=c') H 0 rfl rfl rfl rfl rfl s1 fun τ2 n2 H k2=>?_
     refine wk ?_
     refine⟨m-1,by omega,j+1,c',by omega,H.get _ (.head _),by rw[s2];exact hcl,hC.trans ⟨by omega,fun i o h1 h2=>k2 _ _ (fun e=>h1 (by rw[e];exact List.mem_cons_self ..)) h2⟩,rfl,rfl,trivial⟩
    ·refine wk ?_
     refine GoF.exit ?_
     exact⟨.inr rfl,rfl,hC⟩
theorem OvS.lt{σ:St}{P:List Nat→AV→Prop}{sh:Option Nat}{ids:List Nat}{w:AV}(hP:∀js v,P js v→∀j∈js,j<σ.next)(h:OvS σ P sh ids w):∀i∈ids,i<σ.next:=by
 rcases h with⟨rfl,_⟩|⟨k,xs,ii,cap,rfl,h2,h3,h3',h4,h5,h6,h7⟩
 ·intro i hi;cases hi
 ·intro i hi
  rcases List.mem_cons.1 hi with rfl|hi
  ·exact St.get_lt h4
  ·obtain⟨l,hl,hi⟩:=List.mem_flatten.1 hi
   obtain⟨j,hj,rfl⟩:=List.getElem_of_mem hl
   exact hP _ _ (h7 j (by omega) hj) i hi
theorem OT.lt{σ:St}:∀(d:Nat) {ids:List Nat} {v:AV},OT σ d ids v→∀i∈ids,i<σ.next
 |0,_,_,h=>h.elim
 |d+1,_,_,⟨_,_,_,_,h⟩=>h.lt fun js v h=>OT.lt d h
theorem OF.lt{σ:St}:∀(d:Nat) {ids:List Nat} {v:AV},OF σ d ids v→∀i∈ids,i<σ.next
 |0,_,_,h=>h.elim
 |d+1,_,_,⟨_,_,_,_,_,_,_,e,h,h'⟩=>by
  subst e
  intro i hi
  rcases List.mem_append.1 hi with hi|hi
  ·exact h.lt (fun js v h=>OT.lt d h) i hi
  ·exact h'.lt (fun js v h=>OF.lt d h) i hi
theorem OP.lt{σ:St}{d:Nat}{ids:List Nat}{v:AV}(h:OP σ d ids v):∀i∈ids,i<σ.next:=by
 obtain⟨w0,op,s,w1,w2,fr,cl,i0,i1,e,rfl,h,h'⟩:=h
 intro i hi
 rcases List.mem_append.1 hi with hi|hi
 ·exact h.lt (fun js v h=>OF.lt d h) i hi
 ·exact OF.lt d h' i hi
structure HOo(b:Base)(K:Nat→List AV→AV→Prop):Prop where
 t:Here (b.envK K) n_OverTerm c_OverTerm
 ts:Here (b.envK K) n_OverTerms c_OverTerms
 f:Here (b.envK K) n_OverForm c_OverForm
 fs:Here (b.envK K) n_OverForms c_OverForms
 p:Here (b.envK K) n_OverPrem c_OverPrem
 ps:Here (b.envK K) n_OverPrems c_OverPrems
 r:Here (b.envK K) n_OverRule c_OverRule
 rs:Here (b.envK K) n_OverRules c_OverRules
 l:Here (b.envK K) n_OverLogic c_OverLogic
 mt:b.ext n_markTerm=0∧b.pure n_markTerm=true
 kt:∀i,K n_markTerm [nI 2,nI i] (.ag (mtC i))
 mf:b.ext n_markForm=0∧b.pure n_markForm=true
 kf:∀i,K n_markForm [nI 2,nI i] (.ag (mfC i))
 mp:b.ext n_markPrem=0∧b.pure n_markPrem=true
 kp:∀i,K n_markPrem [nI 2,nI i] (.ag (mpC i))
 mr:b.ext n_markRule=0∧b.pure n_markRule=true
 kr:∀i,K n_markRule [nI 2,nI i] (.ag (mrC i))
theorem ChI.mr{ids:List Nat}{σ τ:St}(h:σ.next≤τ.next)(k:∀i o,σ.get i=some o→τ.get i=some o):ChI ids σ τ:=⟨h,fun i o _=>k i o⟩
theorem OverTerm_o(hfn:∀g ar r r',K g ar r→K g ar r'→r=r')(hh:HOo b K):∀(d:Nat) (ids:List Nat) (v:AV) (σ:St),ids.Nodup→OT σ d ids v→GoesCall (b.envK K) 0 (.f (.func n_OverTerm) [] []) [v] σ (fun r τ=>r= .ok (.tu [])∧ChI ids σ τ)
 |0,_,_,_,_,h=>h.elim
 |d+1,ids,_,σ,hn,⟨vb,s,w,e,hw⟩=>by
  subst e
  refine W.code0 hh.t.e hh.t.p hh.t.f rfl rfl rfl fun z=>?_
  have H:Has σ []:=Has.nil
  refine wk ?_
  generalize hq:σ.next=q
  refine W.bx (c:=[.b vb,.s s,w]) H hq rfl rfl rfl rfl rfl fun τ1 n1 H k1=>?_
  refine wk ?_
  have hw1:=hw.keep (τ:=τ1) (P':=OT τ1 d) (fun i _ c ho=>k1 _ _ ho) fun js v _ h=>OT.keep d (fun i _ c ho=>k1 _ _ ho) h
  refine W.cy rfl rfl rfl (OverTerms_o hfn hh.ts hh.mt hh.kt (P:=fun σ=>OT σ d) (fun σ τ js v k h=>OT.keep d k h) (fun js v σ hj h=>OverTerm_o hfn hh d js v σ hj h) hn hw1) fun r τ2 ⟨e2,C2⟩=>⟨_,e2,?_⟩
  refine wk ?_
  exact⟨.inr rfl,rfl,(ChI.mr (by omega) k1).trans C2⟩
theorem OverForm_o(hfn:∀g ar r r',K g ar r→K g ar r'→r=r')(hh:HOo b K):∀(d:Nat) (ids:List Nat) (v:AV) (σ:St),ids.Nodup→OF σ d ids v→GoesCall (b.envK K) 0 (.f (.func n_OverForm) [] []) [v] σ (fun r τ=>r= .ok (.tu [])∧ChI ids σ τ)
 |0,_,_,_,_,h=>h.elim
 |d+1,ids,_,σ,hn,⟨op,s,w,w2,i1,i2,e,e',hw,hw2⟩=>by
  subst e;subst e'
  obtain⟨hn1,hn2,hn3⟩:=List.nodup_append.1 hn
  have hlt:=hw.lt fun js v h=>OT.lt d h
  refine W.code0 hh.f.e hh.f.p hh.f.f rfl rfl rfl fun z=>?_
  have H:Has σ []:=Has.nil
  refine wk ?_
  generalize hq:σ.next=q at hlt
  refine W.bx (c:=[.i .u8 op,.s s,w,w2]) H hq rfl rfl rfl rfl rfl fun τ1 n1 H k1=>?_
  refine wk ?_
  have hw1:=hw.keep (τ:=τ1) (P':=OT τ1 d) (fun i _ c ho=>k1 _ _ ho) fun js v _ h=>OT.keep d (fun i _ c ho=>k1 _ _ ho) h
  refine W.cy rfl rfl rfl (OverTerms_o hfn hh.ts hh.mt hh.kt (P:=fun σ=>OT σ d) (fun σ τ js v k h=>OT.keep d k h) (fun js v σ hj h=>OverTerm_o hfn hh d js v σ hj h) hn1 hw1) fun r τ2 ⟨e2,C2⟩=>⟨_,e2,?_⟩
  have H:=Has.nil.cons (C2.2 q _ (fun h=>by have:=hlt q h;omega) (H.get _ (.head _))) (by simp)
  refine wk ?_
  have kk:∀i∈i2,∀c,σ.get i=some (.cells c)→τ2.get i=some (.cells c):=fun i hi c ho=>C2.2 _ _ (fun h=>hn3 i h i hi rfl) (k1 _ _ ho)
  have hw2':=hw2.keep (τ:=τ2) (P':=OF τ2 d) kk fun js v hj h=>OF.keep d (fun i hi=>kk i (hj i hi)) h
  refine W.cy rfl rfl rfl (OverForms_o hfn hh.fs hh.mf hh.kf (P:=fun σ=>OF σ d) (fun σ τ js v k h=>OF.keep d k h) (fun js v σ hj h=>OverForm_o hfn hh d js v σ hj h) hn2 hw2') fun r τ3 ⟨e3,C3⟩=>⟨_,e3,?_⟩
  refine wk ?_
  exact⟨.inr rfl,rfl,((ChI.mr (by omega) k1).trans (C2.wide fun i hi=>List.mem_append_left _ hi)).trans (C3.wide fun i hi=>List.mem_append_right _ hi)⟩
theorem OverPrem_o(hfn:∀g ar r r',K g ar r→K g ar r'→r=r')(hh:HOo b K)(d:Nat)(ids:List Nat)(v:AV)(σ:St)(hn:ids.Nodup)(h:OP σ d ids v):GoesCall (b.envK K) 0 (.f (.func n_OverPrem) [] []) [v] σ (fun r τ=>r= .ok (.tu [])∧ChI ids σ τ):=by
 obtain⟨w0,op,s,w1,w2,fr,cl,i0,i1,rfl,rfl,hw,hf⟩:=h
 obtain⟨hn1,hn2,hn3⟩:=List.nodup_append.1 hn
 have hlt:=hw.lt fun js v h=>OF.lt d h
 refine W.code0 hh.p.e hh.p.p hh.p.f rfl rfl rfl fun z=>?_
 have H:Has σ []:=Has.nil
 refine wk ?_
 generalize hq:σ.next=q at hlt
 refine W.bx (c:=[w0,.i .u8 op,.s s,w1,w2,.s fr,.b cl]) H hq rfl rfl rfl rfl rfl fun τ1 n1 H k1=>?_
 refine wk ?_
 have hw1:=hw.keep (τ:=τ1) (P':=OF τ1 d) (fun i _ c ho=>k1 _ _ ho) fun js v _ h=>OF.keep d (fun i _ c ho=>k1 _ _ ho) h
 refine W.cy rfl rfl rfl (OverForms_o hfn hh.fs hh.mf hh.kf (P:=fun σ=>OF σ d) (fun σ τ js v k h=>OF.keep d k h) (fun js v σ hj h=>OverForm_o hfn hh d js v σ hj h) hn1 hw1) fun r τ2 ⟨e2,C2⟩=>⟨_,e2,?_⟩
 have H:=Has.nil.cons (C2.2 q _ (fun h=>by have:=hlt q h;omega) (H.get _ (.head _))) (by simp)
 refine wk ?_
 have hf':=OF.keep d (fun i hi c ho=>C2.2 _ _ (fun h=>hn3 i h i hi rfl) (k1 _ _ ho)) hf
 refine W.cy rfl rfl rfl (OverForm_o hfn hh d _ _ _ hn2 hf') fun r τ3 ⟨e3,C3⟩=>⟨_,e3,?_⟩
 refine wk ?_
 exact⟨.inr rfl,rfl,((ChI.mr (by omega) k1).trans (C2.wide fun i hi=>List.mem_append_left _ hi)).trans (C3.wide fun i hi=>List.mem_append_right _ hi)⟩
theorem OverRule_o(hfn:∀g ar r r',K g ar r→K g ar r'→r=r')(hh:HOo b K)(d:Nat)(ids:List Nat)(v:AV)(σ:St)(hn:ids.Nodup)(h:OR1 σ d ids v):GoesCall (b.envK K) 0 (.f (.func n_OverRule) [] []) [v] σ (fun r τ=>r= .ok (.tu [])∧ChI ids σ τ):=by
 obtain⟨nm,w0,op,s,w1,w2,i0,i1,rfl,rfl,hw,hf⟩:=h
 obtain⟨hn1,hn2,hn3⟩:=List.nodup_append.1 hn
 have hlt:=hw.lt fun js v h=>OP.lt h
 refine W.code0 hh.r.e hh.r.p hh.r.f rfl rfl rfl fun z=>?_
 have H:Has σ []:=Has.nil
 refine wk ?_
 generalize hq:σ.next=q at hlt
 refine W.bx (c:=[.s nm,w0,.i .u8 op,.s s,w1,w2]) H hq rfl rfl rfl rfl rfl fun τ1 n1 H k1=>?_
 refine wk ?_
 have hw1:=hw.keep (τ:=τ1) (P':=OP τ1 d) (fun i _ c ho=>k1 _ _ ho) fun js v _ h=>OP.keep (fun i _ c ho=>k1 _ _ ho) h
 refine W.cy rfl rfl rfl (OverPrems_o hfn hh.ps hh.mp hh.kp (P:=fun σ=>OP σ d) (fun σ τ js v k h=>OP.keep k h) (fun js v σ hj h=>OverPrem_o hfn hh d js v σ hj h) hn1 hw1) fun r τ2 ⟨e2,C2⟩=>⟨_,e2,?_⟩
 have H:=Has.nil.cons (C2.2 q _ (fun h=>by have:=hlt q h;omega) (H.get _ (.head _))) (by simp)
 refine wk ?_
 have hf':=OF.keep d (fun i hi c ho=>C2.2 _ _ (fun h=>hn3 i h i hi rfl) (k1 _ _ ho)) hf
 refine W.cy rfl rfl rfl (OverForm_o hfn hh d _ _ _ hn2 hf') fun r τ3 ⟨e3,C3⟩=>⟨_,e3,?_⟩
 refine wk ?_
 exact⟨.inr rfl,rfl,((ChI.mr (by omega) k1).trans (C2.wide fun i hi=>List.mem_append_left _ hi)).trans (C3.wide fun i hi=>List.mem_append_right _ hi)⟩
theorem OverLogic_o(hfn:∀g ar r r',K g ar r→K g ar r'→r=r')(hh:HOo b K)(d:Nat)(ids:List Nat)(nm:List Nat)(ko:IntKind)(op:Int)(k1 k2:Int)(w:AV)(σ:St)(hn:ids.Nodup)(hw:OvS σ (OR1 σ d) (some 6) ids w):GoesCall (b.envK K) 0 (.f (.func n_OverLogic) [] []) [.ag [.s nm,.i ko op,.i .u8 k1,.i .u8 k2,w]] σ (fun r τ=>r= .ok (.tu [])∧ChI ids σ τ):=by
 refine W.code0 hh.l.e hh.l.p hh.l.f rfl rfl rfl fun z=>?_
 have H:Has σ []:=Has.nil
 refine wk ?_
 generalize hq:σ.next=q
 refine W.bx (c:=[.s nm,.i ko op,.i .u8 k1,.i .u8 k2,w]) H hq rfl rfl rfl rfl rfl fun τ1 n1 H k1=>?_
 refine wk ?_
 have hw1:=hw.keep (τ:=τ1) (P':=OR1 τ1 d) (fun i _ c ho=>k1 _ _ ho) fun js v _ h=>OR1.keep (fun i _ c ho=>k1 _ _ ho) h
 refine W.cy rfl rfl rfl (OverRules_o hfn hh.rs hh.mr hh.kr (P:=fun σ=>OR1 σ d) (fun σ τ js v k h=>OR1.keep k h) (fun js v σ hj h=>OverRule_o hfn hh d js v σ hj h) hn hw1) fun r τ2 ⟨e2,C2⟩=>⟨_,e2,?_⟩
 refine wk ?_
 exact⟨.inr rfl,rfl,(ChI.mr (by omega) k1).trans C2⟩
end
end
section
open Go.RowKit Go.Lyc.T
theorem extRow7(args:List AV):extRow 7 args=none:=rfl
theorem GoesCall.obj{env:Env}{floor:Nat}{σ:St}{g:Nat}{args ar:List AV}{v:AV}{os:List AO}{Q:Ret→St→Prop}(he:env.ext g=7)(ha:mapO (snapshot σ env.fz) args=some ar)(hs:env.ospec g ar=some (v,os))(h:Q (.ok (shV σ.next v)) (pushL σ.next os σ)):GoesCall env floor (.f (.func g) [] []) args σ Q:=by
 refine Ev.one (x:=(.ok (shV σ.next v),pushL σ.next os σ)) (fun F=>?_) h
 show callF env (exec env F) floor g ([]++args++[]) σ=_
 rw[List.nil_append,List.append_nil]
 unfold callF
 rw[he]
 show(match extRow 7 args with|some v=>some [((.ok v:Ret),σ)]|none=>(match(match mapO (snapshot σ env.fz) args with|some ar=>env.ospec g ar|none=>none) with|some (v,os)=>some [(.ok (shV σ.next v),pushL σ.next os σ)]|none=>none))=_
 rw[extRow7,ha]
 show(match env.ospec g ar with|some (v,os)=>some [((.ok (shV σ.next v):Ret),pushL σ.next os σ)]|none=>none)=_
 rw[hs]
def relS(os:List AO):St:=pushL 0 os ⟨.nil,0⟩
theorem shA_0(v:AV):shA 0 v=v:=by cases v<;>rfl
theorem map_shA_0(c:List AV):c.map (shA 0)=c:=by
 rw[show(shA 0)=id from funext shA_0,List.map_id]
theorem relS_get{os:List AO}{i:Nat}{c:List AV}(h:(relS os).get i=some (.cells c)):os[i]? =some (.cells c):=by
 unfold relS at h
 rw[pushL_get] at h
 rw[if_neg (by show ¬i<0;omega)] at h
 obtain⟨o,h1,h2⟩:=Option.map_eq_some_iff.1 h
 cases o with
 |cells c'=>
  have h2:AO.cells (c'.map (shA 0))= .cells c:=h2
  rw[map_shA_0] at h2
  rw[←h2];exact h1
 |_=>cases h2
theorem shA_cells{N:Nat}{sh:Option Nat}{v:AV}:(shV1 N v).cells=v.cells.map (shA N):=by cases v<;>rfl
theorem shV1_conf{N:Nat}{sh:Option Nat}{v:AV}(h:conf sh v=true):conf sh (shV1 N v)=true:=by
 cases sh<;>cases v<;>first|rfl|(cases h;done)|(simpa [conf,shV1] using h)
theorem flat_sh{N:Nat}:∀(xs:List AV),(xs.map (shV1 N)).flatMap AV.cells=(xs.flatMap AV.cells).map (shA N)
 |[]=>rfl
 |x::xs=>by rw[List.map_cons,List.flatMap_cons,List.flatMap_cons,List.map_append,flat_sh xs,shA_cells (sh:=none)]
theorem OvS.push{os:List AO}{σ:St}{P P':List Nat→AV→Prop}{sh:Option Nat}{ids:List Nat}{w:AV}(hP:∀js v,P js v→P' (js.map (· +σ.next)) (shV1 σ.next v))(h:OvS (relS os) P sh ids w):OvS (pushL σ.next os σ) P' sh (ids.map (· +σ.next)) (shA σ.next w):=by
 rcases h with⟨rfl,rfl⟩|⟨k,xs,ii,cap,rfl,rfl,h3,h3',h4,h5,h6,h7⟩
 ·exact .inl ⟨rfl,rfl⟩
 ·refine .inr ⟨k+σ.next,xs.map (shV1 σ.next),ii.map (fun l=>l.map (· +σ.next)),cap,?_,?_,?_,?_,?_,?_,?_,?_⟩
  ·rw[List.map_cons,List.map_flatten]
  ·rw[List.length_map];rfl
  ·rw[List.length_map];exact h3
  ·rw[List.length_map];exact h3'
  ·rw[pushL_get,if_neg (by omega),Nat.add_sub_cancel,relS_get h4,flat_sh];rfl
  ·intro y hy
   obtain⟨x,hx,rfl⟩:=List.mem_map.1 hy
   exact shV1_conf (h5 x hx)
  ·rw[List.length_map,List.length_map];exact h6
  ·intro i a b
   rw[List.getElem_map,List.getElem_map]
   exact hP _ _ (h7 i (by rwa[List.length_map] at a) (by rwa[List.length_map] at b))
theorem OT.push{os:List AO}{σ:St}:∀(d:Nat) {ids:List Nat} {v:AV},OT (relS os) d ids v→OT (pushL σ.next os σ) d (ids.map (· +σ.next)) (shV1 σ.next v)
 |0,_,_,h=>h.elim
 |d+1,_,_,⟨vb,s,w,e,h⟩=>by
  subst e
  exact⟨vb,s,shA σ.next w,rfl,h.push fun js v h=>OT.push d h⟩
theorem OF.push{os:List AO}{σ:St}:∀(d:Nat) {ids:List Nat} {v:AV},OF (relS os) d ids v→OF (pushL σ.next os σ) d (ids.map (· +σ.next)) (shV1 σ.next v)
 |0,_,_,h=>h.elim
 |d+1,_,_,⟨op,s,w1,w2,i1,i2,e,e2,h,h'⟩=>by
  subst e;subst e2
  exact⟨op,s,shA σ.next w1,shA σ.next w2,i1.map (· +σ.next),i2.map (· +σ.next),rfl,List.map_append,h.push fun js v h=>OT.push d h,h'.push fun js v h=>OF.push d h⟩
theorem OP.push{os:List AO}{σ:St}{d:Nat}{ids:List Nat}{v:AV}(h:OP (relS os) d ids v):OP (pushL σ.next os σ) d (ids.map (· +σ.next)) (shV1 σ.next v):=by
 obtain⟨w0,op,s,w1,w2,fr,cl,i0,i1,rfl,rfl,h,h'⟩:=h
 exact⟨shA σ.next w0,op,s,shA σ.next w1,shA σ.next w2,fr,cl,_,_,rfl,List.map_append,h.push fun js v h=>OF.push d h,OF.push d h'⟩
theorem OR1.push{os:List AO}{σ:St}{d:Nat}{ids:List Nat}{v:AV}(h:OR1 (relS os) d ids v):OR1 (pushL σ.next os σ) d (ids.map (· +σ.next)) (shV1 σ.next v):=by
 obtain⟨nm,w0,op,s,w1,w2,i0,i1,rfl,rfl,h,h'⟩:=h
 exact⟨nm,shA σ.next w0,op,s,shA σ.next w1,shA σ.next w2,_,_,rfl,List.map_append,h.push fun js v h=>OP.push h,OF.push d h'⟩
theorem nodup_add{ids:List Nat}{N:Nat}(h:ids.Nodup):(ids.map (· +N)).Nodup:=by
 refine List.pairwise_map.2 (h.imp fun h e=>h ?_)
 omega
def capB(cap:Option Nat)(n:Nat):Bool:=
 match cap with
 |none=>true
 |some c=>Nat.beq c n
def idsS(os:List AO)(chk:AV→Option (List Nat))(sh:Option Nat)(w:AV):Option (List Nat):=
 match w with
 | .nilsl=>some []
 | .sl k 0 n sh' cap=>cond (decide (sh'=sh)&&(capB cap n&&Nat.blt n 1048576))
  (match nth os k with
  |some (.cells c)=>cond (allB smpA c&&Nat.beq c.length (n*shN sh)) (match elems sh n c with
   |some xs=>(match mapO chk xs with|some ii=>some (k::ii.flatten)|none=>none)
   |none=>none) none
  |_=>none) none
 |_=>none
def idsT(os:List AO)(d:Nat):AV→Option (List Nat):=
 Nat.rec (motive:=fun _=>AV→Option (List Nat)) (fun _=>none) (fun _ ih v=>match v with
  | .ag [.b _,.s _,w]=>idsS os ih (some 3) w
  |_=>none) d
def idsF(os:List AO)(d:Nat):AV→Option (List Nat):=
 Nat.rec (motive:=fun _=>AV→Option (List Nat)) (fun _=>none) (fun d ih v=>match v with
  | .ag [.i .u8 _,.s _,w1,w2]=>(match idsS os (idsT os d) (some 3) w1 with
   |some a=>(match idsS os ih (some 4) w2 with|some b=>some (a++b)|none=>none)
   |none=>none)
  |_=>none) d
def idsP(os:List AO)(d:Nat)(v:AV):Option (List Nat):=
 match v with
 | .ag [w0,.i .u8 op,.s s,w1,w2,.s _,.b _]=>(match idsS os (idsF os d) (some 4) w0 with
  |some a=>(match idsF os d (.ag [.i .u8 op,.s s,w1,w2]) with|some b=>some (a++b)|none=>none)
  |none=>none)
 |_=>none
def idsR(os:List AO)(d:Nat)(v:AV):Option (List Nat):=
 match v with
 | .ag [.s _,w0,.i .u8 op,.s s,w1,w2]=>(match idsS os (idsP os d) (some 7) w0 with
  |some a=>(match idsF os d (.ag [.i .u8 op,.s s,w1,w2]) with|some b=>some (a++b)|none=>none)
  |none=>none)
 |_=>none
theorem relS_get'{os:List AO}{i:Nat}{c:List AV}(h:os[i]? =some (.cells c)):(relS os).get i=some (.cells c):=by
 unfold relS
 rw[pushL_get,if_neg (by show ¬i<0;omega)]
 show(os[i-0]?).map (shO 0)=_
 rw[Nat.sub_zero,h]
 show some (AO.cells (c.map (shA 0)))=_
 rw[map_shA_0]
theorem idsS_ok{os:List AO}{chk:AV→Option (List Nat)}{P:List Nat→AV→Prop}{sh:Option Nat}{w:AV}{ids:List Nat}(hP:∀v js,chk v=some js→P js v)(h:idsS os chk sh w=some ids):OvS (relS os) P sh ids w:=by
 unfold idsS at h
 split at h
 ·cases h;exact .inl ⟨rfl,rfl⟩
 ·rename_i k n sh' cap
  cases h1:(decide (sh'=sh)&&(capB cap n&&Nat.blt n 1048576)) with
  |false=>rw[h1] at h;cases h
  |true=>
   rw[h1,cond_true] at h
   simp only[Bool.and_eq_true,decide_eq_true_eq] at h1
   obtain⟨rfl,hcap,hn⟩:=h1
   split at h
   ·rename_i c hk
    cases h2:(allB smpA c&&Nat.beq c.length (n*shN sh')) with
    |false=>rw[h2] at h;cases h
    |true=>
     rw[h2,cond_true] at h
     simp only[Bool.and_eq_true] at h2
     obtain⟨h2,h3⟩:=h2
     have hcn:c.length=n*shN sh':=Nat.eq_of_beq_eq_true h3
     have hcf:∀x∈c,conf none x=true:=fun x hx=>by have:=allB_all h2 x hx;cases x<;>first|rfl|cases this
     split at h
     ·rename_i xs hx
      split at h
      ·rename_i ii hii
       cases h
       obtain⟨e1,e2,e3,e4⟩:=elems_some hcf hx
       obtain⟨m1,m2⟩:=mapO_some hii
       rw[nth_eq] at hk
       refine .inr ⟨k,xs,ii,cap,rfl,by rw[e1],?_,by rw[e1];exact Nat.le_of_ble_eq_true hn,?_,e4,m1,fun i a b=>hP _ _ (m2 i a b)⟩
       ·cases cap with
        |none=>exact .inl rfl
        |some q=>exact .inr (by rw[e1];congr 1;exact Nat.eq_of_beq_eq_true hcap)
       ·rw[e2,← hcn,List.take_length]
        exact relS_get' hk
      ·cases h
     ·cases h
   ·cases h
 ·cases h
theorem idsT_ok{os:List AO}:∀(d:Nat) (v:AV) (js:List Nat),idsT os d v=some js→OT (relS os) d js v
 |0,_,_,h=>by cases h
 |d+1,v,js,h=>by
  replace h:(match(generalizing:=false) v with| .ag [.b _,.s _,w]=>idsS os (idsT os d) (some 3) w|_=>none)=some js:=h
  split at h
  ·exact⟨_,_,_,rfl,idsS_ok (idsT_ok d) h⟩
  ·cases h
theorem idsF_ok{os:List AO}:∀(d:Nat) (v:AV) (js:List Nat),idsF os d v=some js→OF (relS os) d js v
 |0,_,_,h=>by cases h
 |d+1,v,js,h=>by
  replace h:(match(generalizing:=false) v with
   | .ag [.i .u8 _,.s _,w1,w2]=>(match idsS os (idsT os d) (some 3) w1 with
    |some a=>(match idsS os (idsF os d) (some 4) w2 with|some b=>some (a++b)|none=>none)
    |none=>none)
   |_=>none)=some js:=h
  split at h
  ·split at h
   ·rename_i a ha
    split at h
    ·rename_i b hb
     cases h
     exact⟨_,_,_,_,_,_,rfl,rfl,idsS_ok (idsT_ok d) ha,idsS_ok (idsF_ok d) hb⟩
    ·cases h
   ·cases h
  ·cases h
theorem idsP_ok{os:List AO}{d:Nat}(v:AV)(js:List Nat)(h:idsP os d v=some js):OP (relS os) d js v:=by
 unfold idsP at h
 split at h
 ·split at h
  ·rename_i a ha
   split at h
   ·rename_i b hb
    cases h
    exact⟨_,_,_,_,_,_,_,_,_,rfl,rfl,idsS_ok (idsF_ok d) ha,idsF_ok d _ _ hb⟩
   ·cases h
  ·cases h
 ·cases h
theorem idsR_ok{os:List AO}{d:Nat}(v:AV)(js:List Nat)(h:idsR os d v=some js):OR1 (relS os) d js v:=by
 unfold idsR at h
 split at h
 ·split at h
  ·rename_i a ha
   split at h
   ·rename_i b hb
    cases h
    exact⟨_,_,_,_,_,_,_,_,rfl,rfl,idsS_ok (fun v js h=>idsP_ok v js h) ha,idsF_ok d _ _ hb⟩
   ·cases h
  ·cases h
 ·cases h
theorem rules_push{os:List AO}{σ:St}{d:Nat}{ids:List Nat}{w:AV}(h:idsS os (idsR os d) (some 6) w=some ids)(hn:ids.Nodup):(ids.map (· +σ.next)).Nodup∧OvS (pushL σ.next os σ) (OR1 (pushL σ.next os σ) d) (some 6) (ids.map (· +σ.next)) (shA σ.next w):=
 ⟨nodup_add hn,(idsS_ok (fun v js h=>idsR_ok v js h) h).push fun js v h=>h.push⟩
end
section
open Go.RowKit
def nodupB(l:List Nat):Bool:=List.rec true (fun x t ih=>cond (memN x t) false ih) l
theorem nodupB_ok:∀ {l:List Nat},nodupB l=true→l.Nodup
 |[],_=>List.nodup_nil
 |x::l,h=>by
  replace h:cond (memN x l) false (nodupB l)=true:=h
  cases hm:memN x l with
  |true=>rw[hm] at h;cases h
  |false=>
   rw[hm,cond_false] at h
   refine List.nodup_cons.2 ⟨fun hx=>?_,nodupB_ok h⟩
   have:∀ {l:List Nat},x∈l→memN x l=true:=by
    intro l
    induction l with
    |nil=>intro h;cases h
    |cons y l ih=>
     intro h
     show cond (Nat.beq y x) true (memN x l)=true
     rcases List.mem_cons.1 h with rfl|h
     ·rw[Nat.beq_refl];rfl
     ·rw[ih h];cases Nat.beq y x<;>rfl
   rw[this hx] at hm;cases hm
abbrev ObjE:=Nat×List AV×AV×List (List AV)
def cellsB(σ:St)(ids:List Nat)(i:Nat)(c:List AV):Bool:=
 match σ.get i with
 |some (.cells c0)=>all2 (AV.eqb 1000) (c.map (sbA ids)) c0&&allB (okA ids) c
 |_=>false
def allC(f:Nat→List AV→Bool)(l:List Nat):List (List AV)→Bool:=
 List.rec (fun r=>match r with|[]=>true|_::_=>false) (fun x _ ih r=>match r with|[]=>false|y::ys=>cond (f x y) (ih ys) false) l
def objTo(b:Base)(tab:List (Nat×List AV×AV))(n:Nat)(e:ObjE)(ids:List Nat):Bool:=
 match runF (b.env tab) (exec (b.env tab) n) 0 e.1 e.2.1 ⟨.nil,0⟩ with
 |some [(.ok v,σ)]=>AV.eqb 1000 (sbV ids e.2.2.1) v&&(okV ids e.2.2.1&&(nodupB ids&&(Nat.beq e.2.2.2.length ids.length&&allC (cellsB σ ids) ids e.2.2.2)))
 |_=>false
def ObjOk(P:Program)(b:Base)(e:ObjE):Prop:=∀B0,SpecObj P (b.env []) B0 e.1 e.2.1 e.2.2.1 (e.2.2.2.map AO.cells)
theorem allC_get{p:Nat→List AV→Bool}:∀ {l:List Nat} {m:List (List AV)},allC p l m=true→∀i (h:i<l.length) (h':i<m.length),p l[i] m[i]=true
 |[],_,_,i,h,_=>by simp at h
 |_::_,[],h,_,_,h'=>by simp at h'
 |x::l,y::m,h,i,h1,h2=>by
  have h:cond (p x y) (allC p l m) false=true:=h
  cases hp:p x y with
  |false=>rw[hp] at h;cases h
  |true=>
   rw[hp,cond_true] at h
   cases i with
   |zero=>exact hp
   |succ i=>exact allC_get h i (by simpa using h1) (by simpa using h2)
theorem objTo_ok{P:Program}{b:Base}{tab:List (Nat×List AV×AV)}(hb:BaseOk P b)(ht:TabOk P b tab){n:Nat}{e:ObjE}{ids:List Nat}(h:objTo b tab n e ids=true):ObjOk P b e:=by
 unfold objTo at h
 split at h
 ·rename_i v σ hrun
  simp only[Bool.and_eq_true] at h
  obtain⟨h1,h2,h3,h4,h5⟩:=h
  have hl:=Nat.eq_of_beq_eq_true h4
  intro B0
  exact obj_of_run2 (env:=b.env tab) ⟨fun g af hg=>FT.get_all hb.funcs g af hg⟩ ht.specAll hb.ext hb.orders hrun (nodupB_ok h3) hl h2 (AV.eqb_eq _ _ _ h1) (fun i a c=>by
   have h6:=allC_get h5 i c a
   unfold cellsB at h6
   split at h6
   ·rename_i c0 hg
    rw[Bool.and_eq_true] at h6
    rw[hg,all2_eq (AV.eqb_eq 1000) _ _ h6.1]
    exact⟨rfl,allB_all h6.2⟩
   ·cases h6) B0
 ·cases h
def tabO(t:List ObjE)(g:Nat)(ar:List AV):Option (AV×List AO):=
 List.rec none (fun e _ ih=>cond (Nat.beq e.1 g) (cond (all2 (AV.eqb 1000) ar e.2.1) (some (e.2.2.1,e.2.2.2.map AO.cells)) ih) ih) t
theorem tabO_mem{g:Nat}{ar:List AV}{r:AV×List AO}:∀ {t:List ObjE},tabO t g ar=some r→∃e∈t,e.1=g∧e.2.1=ar∧r=(e.2.2.1,e.2.2.2.map AO.cells)
 |[],h=>by cases h
 |e::t,h=>by
  replace h:cond (Nat.beq e.1 g) (cond (all2 (AV.eqb 1000) ar e.2.1) (some (e.2.2.1,e.2.2.2.map AO.cells)) (tabO t g ar)) (tabO t g ar)=some r:=h
  have rest:tabO t g ar=some r→∃e'∈e::t,e'.1=g∧e'.2.1=ar∧r=(e'.2.2.1,e'.2.2.2.map AO.cells):=fun h=>by
   obtain⟨e',h1,h2⟩:=tabO_mem h
   exact⟨e',List.mem_cons_of_mem _ h1,h2⟩
  cases h1:Nat.beq e.1 g with
  |false=>rw[h1,cond_false] at h;exact rest h
  |true=>
   rw[h1,cond_true] at h
   cases h2:all2 (AV.eqb 1000) ar e.2.1 with
   |false=>rw[h2,cond_false] at h;exact rest h
   |true=>
    rw[h2,cond_true] at h
    cases h
    exact⟨e,List.mem_cons_self ..,Nat.eq_of_beq_eq_true h1,(all2_eq (AV.eqb_eq 1000) _ _ h2).symm,rfl⟩
abbrev Base.ob(b:Base)(t:List ObjE):Base:={b with ospec:=tabO t}
theorem BaseOk.ob{P:Program}{b:Base}(hb:BaseOk P b){t:List ObjE}(ht:∀e∈t,ObjOk P b e):BaseOk P (b.ob t):=⟨hb.funcs,⟨hb.ext.1,fun g ar v os h B0=>by
 obtain⟨e,h1,rfl,rfl,h4⟩:=tabO_mem h
 cases h4
 exact ht e h1 B0⟩,hb.orders⟩
theorem ObjOk.of{P:Program}{b:Base}{t:List ObjE}{e:ObjE}(h:ObjOk P (b.ob t) e):ObjOk P b e:=h
theorem sh1_smp{N:Nat}{v:AV}(h:smpA v=true):shV1 N v=shA N v:=by cases v<;>first|rfl|cases h
theorem takeSh_sh{N:Nat}{sh:Option Nat}{c:List AV}(h:∀x∈c,smpA x=true):takeSh sh (c.map (shA N))=(takeSh sh c).map (shV1 N):=by
 cases sh with
 |none=>
  cases c with
  |nil=>rfl
  |cons x c=>show some (shA N x)=some (shV1 N x);rw[sh1_smp (h x (List.mem_cons_self ..))]
 |some m=>
  show(if((c.map (shA N)).take m).length=m then some (AV.ag ((c.map (shA N)).take m)) else none)=Option.map (shV1 N) (if(c.take m).length=m then some (AV.ag (c.take m)) else none)
  rw[←List.map_take,List.length_map]
  split
  ·rfl
  ·rfl
theorem elems_sh{N:Nat}{sh:Option Nat}:∀(n:Nat) (c:List AV),(∀x∈c,smpA x=true)→elems sh n (c.map (shA N))=(elems sh n c).map (fun l=>l.map (shV1 N))
 |0,_,_=>rfl
 |n+1,c,h=>by
  rw[elems_succ,elems_succ,takeSh_sh h,← List.map_drop,elems_sh n _ fun x hx=>h x (List.mem_of_mem_drop hx)]
  cases takeSh sh c with
  |none=>rfl
  |some v=>
   cases elems sh n (c.drop (shN sh)) with
   |none=>rfl
   |some l=>rfl
theorem elems_smp{sh:Option Nat}{n:Nat}{c:List AV}{xs:List AV}(h:∀x∈c,smpA x=true)(he:elems sh n c=some xs):∀x∈xs,smpV1 x=true:=by
 have hcf:∀x∈c,conf none x=true:=fun x hx=>by have:=h x hx;cases x<;>first|rfl|cases this
 obtain⟨e1,e2,e3,e4⟩:=elems_some hcf he
 have hall:∀x∈xs,∀y∈x.cells,smpA y=true:=fun x hx y hy=>h y (List.mem_of_mem_take (by rw[←e2];exact List.mem_flatMap.2 ⟨x,hx,hy⟩))
 intro x hx
 have h1:=hall x hx
 cases x with
 |ag l=>exact allB_of h1
 |_=>exact h1 _ (List.mem_singleton.2 rfl)
theorem snap_push{os:List AO}{σ:St}(hos:∀(i:Nat) (c:List AV),os[i]? =some (AO.cells c)→∀x∈c,smpA x=true):∀(n:Nat) (v r:AV),smpV1 v=true→snapshot (relS os) n v=some r→snapshot (pushL σ.next os σ) n (shV1 σ.next v)=some r
 |0,v,r,_,h=>by rw[snapshot_zero] at h;cases h
 |n+1,v,r,hv,h=>by
  have ih:=snap_push hos (σ:=σ) n
  have hl:∀ {l m:List AV},(∀x∈l,smpV1 x=true)→mapO (snapshot (relS os) n) l=some m→mapO (snapshot (pushL σ.next os σ) n) (l.map (shV1 σ.next))=some m:=fun {l}=>by
   induction l with
   |nil=>intro m _ h;exact h
   |cons x l ihl=>
    intro m hx h
    rw[mapO_cons] at h
    cases h1:snapshot (relS os) n x with
    |none=>rw[h1] at h;cases h
    |some y=>
     rw[h1] at h
     cases h2:mapO (snapshot (relS os) n) l with
     |none=>rw[h2] at h;cases h
     |some ys=>
      rw[h2] at h
      rw[List.map_cons,mapO_cons,ih _ _ (hx x (List.mem_cons_self ..)) h1,ihl (fun y hy=>hx y (List.mem_cons_of_mem _ hy)) h2]
      exact h
  cases v with
  |ag l=>
   rw[snapshot_succ] at h
   show snapshot _ (n+1) (.ag (l.map (shA σ.next)))=_
   rw[snapshot_succ]
   have hs:∀x∈l,smpA x=true:=allB_all hv
   have e:l.map (shA σ.next)=l.map (shV1 σ.next):=List.map_congr_left fun x hx=>(sh1_smp (hs x hx)).symm
   simp only[] at h ⊢
   cases hm:mapO (snapshot (relS os) n) l with
   |none=>rw[hm] at h;cases h
   |some ys=>
    rw[hm] at h
    rw[e,hl (fun x hx=>by have:=hs x hx;cases x<;>first|exact this|cases this) hm]
    exact h
  |sl k off len sh cap=>
   rw[snapshot_succ] at h
   show snapshot _ (n+1) (.sl (k+σ.next) off len sh cap)=_
   rw[snapshot_succ]
   simp only[] at h ⊢
   cases hr:readList (relS os) (.sl k off len sh cap) with
   |none=>rw[hr] at h;cases h
   |some xs=>
    rw[hr] at h
    have hr':=hr
    simp only[readList] at hr'
    cases hg:(relS os).get k with
    |none=>rw[hg] at hr';cases hr'
    |some o=>
     cases o with
     |cells c=>
      rw[hg] at hr'
      have hk:=relS_get hg
      have hsc:=hos k c hk
      have hrd:readList (pushL σ.next os σ) (.sl (k+σ.next) off len sh cap)=some (xs.map (shV1 σ.next)):=by
       simp only[readList]
       rw[pushL_get,if_neg (by omega),Nat.add_sub_cancel,hk]
       show elems sh len ((c.map (shA σ.next)).drop off)=_
       rw[←List.map_drop,elems_sh _ _ fun x hx=>hsc x (List.mem_of_mem_drop hx)]
       replace hr':elems sh len (c.drop off)=some xs:=hr'
       rw[hr'];rfl
      rw[hrd]
      cases hm:mapO (snapshot (relS os) n) xs with
      |none=>simp only[hm] at h;cases h
      |some ys=>
       simp only[hm] at h
       simp only[hl (elems_smp (fun x hx=>hsc x (List.mem_of_mem_drop hx)) hr') hm]
       exact h
     |_=>rw[hg] at hr';cases hr'
  |s l=>exact h
  |i k m=>exact h
  |b x=>exact h
  |nilsl=>exact h
  |_=>cases hv
end
section
open Go.RowKit Go.Lyc.T
attribute [local irreducible] GoM GoW GoV GoD GoesCall
section
variable {b:Base}{K:Nat→List AV→AV→Prop}
theorem snapKeep{σ τ:St}(k:∀i o,σ.get i=some o→τ.get i=some o):∀(n:Nat) (v r:AV),snapshot σ n v=some r→snapshot τ n v=some r
 |0,v,r,h=>by rw[snapshot_zero] at h;cases h
 |n+1,v,r,h=>by
  have ih:=snapKeep k n
  have hm:∀ {l m:List AV},mapO (snapshot σ n) l=some m→mapO (snapshot τ n) l=some m:=fun h=>mapO_mono (fun x y h=>ih x y h) h
  rw[snapshot_succ] at h ⊢
  cases v with
  |sl id off len sh cap=>
   simp only[] at h ⊢
   have hr:∀xs,readList σ (.sl id off len sh cap)=some xs→readList τ (.sl id off len sh cap)=some xs:=fun xs h=>by
    simp only[readList] at h ⊢
    cases hg:σ.get id with
    |none=>rw[hg] at h;cases h
    |some o=>rw[hg] at h;rw[k _ _ hg];exact h
   cases hq:readList σ (.sl id off len sh cap) with
   |none=>rw[hq] at h;cases h
   |some xs=>
    rw[hq] at h;rw[hr _ hq]
    cases hp:mapO (snapshot σ n) xs with
    |none=>simp only[hp] at h;cases h
    |some ys=>simp only[hp] at h;simp only[hm hp];exact h
  |tl o sh xs=>
   simp only[] at h ⊢
   cases hp:mapO (snapshot σ n) xs with
   |none=>rw[hp] at h;cases h
   |some ys=>rw[hp] at h;rw[hm hp];exact h
  |ag l=>
   simp only[] at h ⊢
   cases hp:mapO (snapshot σ n) l with
   |none=>rw[hp] at h;cases h
   |some ys=>rw[hp] at h;rw[hm hp];exact h
  |tu l=>
   simp only[] at h ⊢
   cases hp:mapO (snapshot σ n) l with
   |none=>rw[hp] at h;cases h
   |some ys=>rw[hp] at h;rw[hm hp];exact h
  |it t v=>
   simp only[] at h ⊢
   cases hp:snapshot σ n v with
   |none=>rw[hp] at h;cases h
   |some ys=>rw[hp] at h;rw[ih _ _ hp];exact h
  |p a=>cases a<;>exact h
  |m r=>cases r<;>exact h
  |_=>exact h
theorem shV_0(v:AV):shV 0 v=v:=by
 have h1:∀v,shV1 0 v=v:=fun v=>by
  by_cases hag:∃l,v= .ag l
  ·obtain⟨l,rfl⟩:=hag
   show AV.ag (l.map (shA 0))=_
   rw[map_shA_0]
  ·cases v<;>first|rfl|exact absurd ⟨_,rfl⟩ hag
 by_cases htu:∃l,v= .tu l
 ·obtain⟨l,rfl⟩:=htu
  show AV.tu (l.map (shV1 0))=_
  rw[show(shV1 0)=id from funext h1,List.map_id]
 ·have e2:shV 0 v=shV1 0 v:=by cases v<;>first|rfl|exact absurd ⟨_,rfl⟩ htu
  rw[e2,h1]
def lnL:List (List Nat):=[[75,49],[74],[75,50],[75],[84],[83,52],[83,53],[76]]
theorem lNames_st(hh:Here (b.envK K) n_lNames c_lNames)(σ:St):GoesCall (b.envK K) 0 (.f (.func n_lNames) [] []) [] σ (fun r τ=>r= .ok (.sl σ.next 0 8 none (some 8))∧τ.next=σ.next+1∧τ.get σ.next=some (.cells (lnL.map .s))∧∀i o,σ.get i=some o→τ.get i=some o):=by
 refine W.code hh.e hh.p hh.f rfl rfl rfl rfl fun z=>?_
 have H:Has σ []:=Has.nil
 refine wk ?_
 generalize hq:σ.next=q
 refine W.bs (c:=lnL.map .s) H hq rfl rfl rfl fun τ n1 H k1=>?_
 refine wk ?_
 exact GoF.ret ⟨rfl,rfl,n1,H.get _ (.head _),k1⟩
theorem LogicNamed_go(hfn:∀g ar r r',K g ar r→K g ar r'→r=r')(hh:HOo b K){a:AV}(ha:∀τ:St,snapshot τ (b.fz+1000) a=some a){nm:List Nat}{op k1 k2:Int}{w:AV}{os:List AO}{ids:List Nat}{d:Nat}{wv wS A:AV}{e:Nat}{ok:Bool}(he:(e=0∧ok=true)∨(e=6∧ok=false))
  (eN:b.ext n_LNamed=7) (hN:b.ospec n_LNamed [a]=some (.tu [.ag [.s nm,.i .u32 op,.i .u8 k1,.i .u8 k2,w],nI e],os))
  (hids:idsS os (idsR os d) (some 6) w=some ids) (hnd:ids.Nodup) (hos:∀(i:Nat) (c:List AV),os[i]? =some (AO.cells c)→∀x∈c,smpA x=true)
  (eR:b.ext n_rNamed9=0∧b.pure n_rNamed9=true) (kR:K n_rNamed9 [a] (.tu [wv,.b ok])) {wn:List Nat} {wo w1 w2:Int} {wr:AV} (hwv:wv= .ag [.s wn,.i .u32 wo,.i .u8 w1,.i .u8 w2,wr]) (hwr:wr.cells=[wr]∧conf none wr=true) (hwS:∀τ:St,snapshot τ (b.fz+1000) wv=some wS)
  (hA:snapshot (relS os) (b.fz+1000) (.ag [.s nm,.i .u32 op,.i .u8 k1,.i .u8 k2,w])=some A) (eS:b.ext n_SameLogic=0∧b.pure n_SameLogic=true) (kS:K n_SameLogic [A,wS] (.b true))
  (hNm:Here (b.envK K) n_lNames c_lNames) (eL:b.ext n_rLibrary=0∧b.pure n_rLibrary=true) {libL:List AV} (hlib:libL.length=8) (hLg:∀(j:Nat) (s:List Nat) (lv:AV),lnL[j]? =some s→libL[j]? =some lv→∃(nm:List Nat) (op x y:Int) (w A lS:AV) (os:List AO),b.ospec n_LNamed [.s s]=some (.tu [.ag [.s nm,.i .u32 op,.i .u8 x,.i .u8 y,w],nI 0],os)∧(∀(i:Nat) (c:List AV),os[i]? =some (AO.cells c)→∀x∈c,smpA x=true)∧smpA w=true∧snapshot (relS os) (b.fz+1000) (.ag [.s nm,.i .u32 op,.i .u8 x,.i .u8 y,w])=some A∧(∀τ:St,snapshot τ (b.fz+1000) lv=some lS)∧K n_SameLogic [A,lS] (.b true)∧K n_LRight [A] (.b true)) (eQ:b.ext n_LRight=0∧b.pure n_LRight=true) (hlibn:∀(j:Nat) (s:List Nat),lnL[j]? =some s→∃(o x y:Int) (wr:AV),libL[j]? =some (AV.ag [.s s,.i .u32 o,.i .u8 x,.i .u8 y,wr])) (kL:K n_rLibrary [] (.tl false (some 5) libL)) (eA:b.ext n_awake9=0∧b.pure n_awake9=true) (kA:K n_awake9 [] (.b true))
  (body:ACode) (hb:c_LogicNamed.body=some body):GoF (b.envK K) c_LogicNamed.ntmps body (argF [a]) ⟨.nil,0⟩ (DoneR c_LogicNamed.results (.b true)):=by
 cases hb
 rcases he with⟨rfl,rfl⟩|⟨rfl,rfl⟩
 all_goals
  refine W.args fun z=>?_
  have H:Has (⟨.nil,0⟩:St) []:=Has.nil
  refine wk ?_
  refine W.cy rfl rfl rfl (GoesCall.obj (Q:=fun r τ=>r= .ok (.tu [.ag [.s nm,.i .u32 op,.i .u8 k1,.i .u8 k2,w],nI _])∧τ=pushL 0 os ⟨.nil,0⟩) eN (snaps1 (ha _)) hN ⟨congrArg Ret.ok (shV_0 _),rfl⟩) fun r τ ⟨e1,e2⟩=>⟨_,e1,?_⟩
  obtain⟨hnd1,hov⟩:=rules_push (σ:=(⟨.nil,0⟩:St)) hids hnd
  have hnx:=pushL_next 0 os (⟨.nil,0⟩:St)
  change OvS (pushL 0 os ⟨.nil,0⟩) (OR1 (pushL 0 os ⟨.nil,0⟩) d) (some 6) _ (shA 0 w) at hov
  rw[←e2] at hov hnx
  rw[shA_0] at hov
  generalize hq:τ.next=q at hnx
  have H:Has τ []:=Has.nil
  subst hwv
  refine wk ?_
  refine W.al (c:=[.s [],.i .u32 0,.i .u8 0,.i .u8 0,.nilsl]) H hq rfl rfl rfl fun τ1 n1 H k1'=>?_
  refine wk ?_
  refine W.st (c':=[.s nm,.i .u32 op,.i .u8 k1,.i .u8 k2,w]) H 0 rfl rfl rfl rfl rfl rfl fun τ2 n2 H k2'=>?_
  refine wk ?_
  refine W.kn hfn eR kR rfl rfl rfl (snaps1 (ha _)) ?_
  refine wk ?_
  refine W.al (c:=[.s [],.i .u32 0,.i .u8 0,.i .u8 0,.nilsl]) (k:=q+1) H (by omega) rfl rfl rfl fun τ3 n3 H k3'=>?_
  refine wk ?_
  refine W.st (c':=[.s wn,.i .u32 wo,.i .u8 w1,.i .u8 w2,wr]) H 0 rfl rfl rfl rfl rfl rfl fun τ4 n4 H k4'=>?_
  refine wk ?_
  have kT:∀i o,τ.get i=some o→τ4.get i=some o:=fun i o h=>by
   have:=St.get_lt h
   exact k4' _ _ (by omega) (k3' _ _ (k2' _ _ (by omega) (k1' _ _ h)))
  have hA4:snapshot τ4 (b.fz+1000) (.ag [.s nm,.i .u32 op,.i .u8 k1,.i .u8 k2,w])=some A:=snapKeep kT _ _ _ (by rw[e2];exact hA)
  refine W.kn hfn eS kS rfl rfl rfl (snaps2 hA4 (hwS _)) ?_
  refine wk ?_
  have hov4:=hov.keep (τ:=τ4) (P':=OR1 τ4 d) (fun i _ c h=>kT _ _ h) fun js v _ h=>OR1.keep (fun i _ c h=>kT _ _ h) h
  refine W.cy rfl rfl rfl (OverLogic_o hfn hh d _ nm .u32 op k1 k2 w τ4 hnd1 hov4) fun r τ5 ⟨e5,C5⟩=>⟨_,e5,?_⟩
  refine wk ?_
  refine W.cy rfl rfl rfl (lNames_st hNm τ5) fun r τ6 ⟨e6,n6,g6,k6⟩=>⟨_,e6,?_⟩
  refine wk ?_
  refine W.kn hfn eL kL rfl rfl rfl rfl ?_
  refine wk ?_
  rw[hlib]
  refine wk ?_
  show GoW _ _ _ _ _ _ _ _
  generalize hp:τ5.next=p at g6
  refine GoF.block (GoF.loop (fun m F τ=>∃j c,j+m=8∧τ.get p=some (.cells c)∧c.length=8∧(∀i,j≤i→c[i]? =(lnL.map AV.s)[i]?)∧sat [(7,.sl p 0 8 none (some 8)),(8,.tl false (some 5) libL),(50,nI 8),(51,nI j)] F) (fun m F τ hI=>?_) 8 ⟨0,_,by omega,g6,rfl,fun _ _=>rfl,rfl,rfl,rfl,rfl,trivial⟩)
  obtain⟨j,c,hj,hg,hcl,hcn,hs'⟩:=hI
  refine GoF.norm _ hs' fun F=>?_
  clear hs' H
  have H:Has τ [(p,c)]:=Has.nil.cons hg (by simp)
  by_cases hjn:j<8
  ·obtain⟨sj,hsj⟩:∃s,lnL[j]? =some s:=⟨_,List.getElem?_eq_getElem (show j<lnL.length from hjn)⟩
   have hcj:c[j]? =some (.s sj):=by rw[hcn j (Nat.le_refl _),List.getElem?_map,hsj];rfl
   obtain⟨lo,lx,ly,lw,hlj⟩:=hlibn j sj hsj
   have htk:takeSh none (c.drop (0+j*shN none))=some (.s sj):=by
    show(c.drop (0+j*1)).head? =_
    rw[Nat.zero_add,Nat.mul_one,List.head?_drop];exact hcj
   refine wk ?_
   refine W.ix rfl rfl rfl rfl (idxSlA_sl hjn) ?_
   refine W.ld H rfl rfl rfl (.head _) htk ?_
   refine wk ?_
   refine W.ix (v:=.tp false (.ag [.s sj,.i .u32 lo,.i .u8 lx,.i .u8 ly,lw])) rfl rfl rfl rfl (by show(if(some 5:Option Nat)=some 5 then(match nth libL j with|some v=>some (AV.tp false v)|none=>none) else none)=_;rw[if_pos rfl,nth_eq,hlj]) ?_
   refine wk ?_
   refine W.bin (v:=.b false) rfl rfl rfl rfl (by show some (AV.b (!eqL sj sj))=_;rw[eqL_refl];rfl) ?_
   refine wk ?_
   refine W.ix rfl rfl rfl rfl (idxSlA_sl hjn) ?_
   refine W.ld H rfl rfl rfl (.head _) htk ?_
   obtain⟨nmj,opj,xj,yj,wj,Aj,lSj,osj,g1,g2,g3,g4,g5,g6',g7'⟩:=hLg j sj _ hsj hlj
   refine W.cy rfl rfl rfl (GoesCall.obj (Q:=fun r τ'=>r= .ok (shV τ.next (.tu [.ag [.s nmj,.i .u32 opj,.i .u8 xj,.i .u8 yj,wj],nI 0]))∧τ'=pushL τ.next osj τ) eN (snaps1 (x:=.s sj) rfl) g1 ⟨rfl,rfl⟩) fun r τ8 ⟨e8,h8⟩=>⟨_,e8,?_⟩
   have k8:∀i o,τ.get i=some o→τ8.get i=some o:=fun i o h=>by rw[h8,pushL_get,if_pos (St.get_lt h)];exact h
   have hA8:snapshot τ8 (b.fz+1000) (.ag [.s nmj,.i .u32 opj,.i .u8 xj,.i .u8 yj,shA τ.next wj])=some Aj:=by
    rw[h8]
    exact snap_push g2 _ (.ag [.s nmj,.i .u32 opj,.i .u8 xj,.i .u8 yj,wj]) _ (by show cond true (cond true (cond true (cond true (cond (smpA wj) true false) false) false) false) false=true;rw[g3];rfl) g4
   have H8:Has τ8 [(p,c)]:=Has.nil.cons (k8 _ _ hg) (by simp)
   generalize hq8:τ8.next=q8
   refine wk ?_
   refine W.al (c:=[.s [],.i .u32 0,.i .u8 0,.i .u8 0,.nilsl]) H8 hq8 rfl rfl rfl fun τ9 n9 H9 k9=>?_
   refine wk ?_
   refine W.st (c':=[.s nmj,.i .u32 opj,.i .u8 xj,.i .u8 yj,shA τ.next wj]) H9 0 rfl rfl rfl rfl rfl rfl fun τ10 n10 H10 k10=>?_
   have k10':∀i o,τ8.get i=some o→τ10.get i=some o:=fun i o h=>by
    have:=St.get_lt h
    exact k10 _ _ (by omega) (k9 _ _ h)
   have hA10:=snapKeep k10' _ _ _ hA8
   refine wk ?_
   refine W.ld H10 rfl rfl rfl (.head _) rfl ?_
   refine wk ?_
   refine W.ix (v:=.tp false (.ag [.s sj,.i .u32 lo,.i .u8 lx,.i .u8 ly,lw])) rfl rfl rfl rfl (by show(if(some 5:Option Nat)=some 5 then(match nth libL j with|some v=>some (AV.tp false v)|none=>none) else none)=_;rw[if_pos rfl,nth_eq,hlj]) ?_
   refine W.ldt rfl rfl rfl rfl ?_
   refine W.kn hfn eS g6' rfl rfl rfl (snaps2 hA10 (g5 _)) ?_
   refine wk ?_
   refine W.ld H10 rfl rfl rfl (.head _) rfl ?_
   refine W.kn hfn eQ g7' rfl rfl rfl (snaps1 hA10) ?_
   refine wk ?_
   refine W.ix rfl rfl rfl rfl (idxSlA_sl hjn) ?_
   have hsc:storeCells c (0+j*shN none) [.s [111,118,101,114]]=some (c.take j++([AV.s [111,118,101,114]]++c.drop (j+1))):=by
    show(if Nat.ble (0+j*1+1) c.length then some (c.take (0+j*1)++([AV.s [111,118,101,114]]++c.drop (0+j*1+1))) else none)=_
    rw[Nat.zero_add,Nat.mul_one,if_pos (Nat.ble_eq_true_of_le (by omega))]
   refine W.st (c':=c.take j++([AV.s [111,118,101,114]]++c.drop (j+1))) H10 1 rfl rfl rfl rfl rfl hsc fun τ11 n11 H11 k11=>?_
   refine wk ?_
   refine⟨m-1,by omega,j+1,_,by omega,H11.get _ (.tail _ (.head _)),by simp only[List.length_append,List.length_take,List.length_drop,List.length_cons,List.length_nil];omega,fun i hi=>?_,rfl,rfl,rfl,rfl,trivial⟩
   rw[List.getElem?_append_right (by rw[List.length_take];omega),List.getElem?_append_right (by rw[List.length_take];simp;omega),List.getElem?_drop,← hcn i (by omega)]
   congr 1
   simp only[List.length_take,List.length_cons,List.length_nil]
   omega
  ·refine wk ?_
   refine GoF.exit ?_
   show GoW _ _ _ _ _ _ _ _
   refine wk ?_
   generalize hq2:τ.next=q2
   refine W.cy rfl rfl rfl (lNames_st hNm τ) fun r τ7 ⟨e7,n7,g7,k7⟩=>⟨_,e7,?_⟩
   have H:=Has.nil.cons g7 (by simp)
   rw[hq2] at H ⊢
   refine wk ?_
   refine W.val (v:=.b true) (σ':=τ7) rfl rfl rfl ?_
   refine wk ?_
   refine W.kn hfn eA kA rfl rfl rfl rfl ?_
   refine wk ?_
   exact GoF.ret ⟨rfl,_,resA_1 (resV_v rfl),rfl⟩
end
end
section
open Go.RowKit Go.Lyc.T
section
omit [Tok] [TokOk] in
abbrev tok0:Tok:=⟨fun _=>.b false,fun _ _=>.b true⟩
omit [Tok] [TokOk] in
theorem tok0_ok: @TokOk tok0:=by
 letI:Tok:=tok0
 refine⟨fun {w O B B' i old u} h=>?_,fun {w O B i u} h=>?_⟩
 ·have h:R w (fun _=>none) O B (.b true) u:=h
  show R w (fun _=>none) (fun _=>False) B' (.b true) u
  cases h;exact .b _
 ·have h:R w (fun _=>none) O B (.b true) u:=h
  show R w (fun _=>none) (fun b=>b<B) B (.b true) u
  cases h;exact .b _
variable [Tok][TokOk]
open Go Go.RowKit Go.Lyc.T
set_option maxHeartbeats 0
theorem one2{a b c d:AV}(h:[a,b]=[c,d]):a=c∧b=d:=by injection h with h1 h2;injection h2 with h2;exact⟨h1,h2⟩
theorem nI_inj'{a c:Nat}(h:nI a=nI c):a=c:=by injection h with _ h;exact Int.ofNat.inj h
abbrev HB(b:Base)(g:Nat)(c:AFunc):Prop:=b.funcs.get g=some c∧b.ext g=0∧b.pure g=false
abbrev PB(b:Base)(g:Nat)(c:AFunc):Prop:=b.funcs.get g=some c∧b.ext g=0∧b.pure g=true
abbrev QB(b:Base)(g:Nat):Prop:=b.ext g=0∧b.pure g=true
theorem HB.h{b:Base}{K:Nat→List AV→AV→Prop}{g:Nat}{c:AFunc}(h:HB b g c):Here (b.envK K) g c:=⟨h.1,h.2.1,h.2.2⟩
structure FLn(b:Base):Prop where
 OverTerm:HB b n_OverTerm c_OverTerm
 OverTerms:HB b n_OverTerms c_OverTerms
 OverForm:HB b n_OverForm c_OverForm
 OverForms:HB b n_OverForms c_OverForms
 OverPrem:HB b n_OverPrem c_OverPrem
 OverPrems:HB b n_OverPrems c_OverPrems
 OverRule:HB b n_OverRule c_OverRule
 OverRules:HB b n_OverRules c_OverRules
 OverLogic:HB b n_OverLogic c_OverLogic
 lNames:HB b n_lNames c_lNames
 markText:PB b n_markText c_markText
 markTerm:PB b n_markTerm c_markTerm
 markForm:PB b n_markForm c_markForm
 markPrem:PB b n_markPrem c_markPrem
 markRule:PB b n_markRule c_markRule
 law:b.funcs.get n_LogicNamed=some c_LogicNamed
 same:QB b n_SameLogic
 right:QB b n_LRight
 awake:QB b n_awake9
 rNamed:QB b n_rNamed9
 rLib:QB b n_rLibrary
 named:b.ext n_LNamed=7
structure Fa where
 g:Nat
 X:Type
 a:X→List AV
 r:X→AV
 inj:∀x y,a x=a y→r x=r y
def fams(ra rr rl:AV):List Fa:=[⟨n_markText,Nat×Nat,fun x=>[nI x.1,nI x.2],fun x=>.s (mkS x.1 x.2),fun x y h=>by have h:=one2 h;rw[nI_inj' h.1,nI_inj' h.2]⟩,
 ⟨n_markTerm,Nat,fun i=>[nI 2,nI i],fun i=>.ag (mtC i),fun x y h=>by have h:=one2 h;rw[nI_inj' h.2]⟩,
 ⟨n_markForm,Nat,fun i=>[nI 2,nI i],fun i=>.ag (mfC i),fun x y h=>by have h:=one2 h;rw[nI_inj' h.2]⟩,
 ⟨n_markPrem,Nat,fun i=>[nI 2,nI i],fun i=>.ag (mpC i),fun x y h=>by have h:=one2 h;rw[nI_inj' h.2]⟩,
 ⟨n_markRule,Nat,fun i=>[nI 2,nI i],fun i=>.ag (mrC i),fun x y h=>by have h:=one2 h;rw[nI_inj' h.2]⟩,
 ⟨n_SameLogic,List AV,fun x=>x,fun _=>.b true,fun _ _ _=>rfl⟩,
 ⟨n_LRight,List AV,fun x=>x,fun _=>.b true,fun _ _ _=>rfl⟩,
 ⟨n_awake9,List AV,fun x=>x,fun _=>.b true,fun _ _ _=>rfl⟩,
 ⟨n_rNamed9,Unit,fun _=>[ra],fun _=>rr,fun _ _ _=>rfl⟩,
 ⟨n_rLibrary,Unit,fun _=>[],fun _=>rl,fun _ _ _=>rfl⟩]
theorem fams_g(ra rr rl:AV):(fams ra rr rl).map Fa.g=[n_markText,n_markTerm,n_markForm,n_markPrem,n_markRule,n_SameLogic,n_LRight,n_awake9,n_rNamed9,n_rLibrary]:=rfl
theorem nodup_inj:∀ {l:List Fa},(l.map Fa.g).Nodup→∀ {f f':Fa},f∈l→f'∈l→f.g=f'.g→f=f'
 |x::l,h,f,f',hf,hf',e=>by
  rw[List.map_cons,List.nodup_cons] at h
  rcases List.mem_cons.1 hf with h1|h1
  ·rcases List.mem_cons.1 hf' with h2|h2
   ·rw[h1,h2]
   ·subst h1;exact absurd (List.mem_map.2 ⟨f',h2,e.symm⟩) h.1
  ·rcases List.mem_cons.1 hf' with h2|h2
   ·subst h2;exact absurd (List.mem_map.2 ⟨f,h1,e⟩) h.1
   ·exact nodup_inj h.2 h1 h2 e
abbrev KnB(P:Program)(b:Base)(g:Nat)(ar:List AV)(r:AV):Prop:=∀B0,SpecEntry P (b.env []) B0 g ar r
def Kl(P:Program)(b:Base)(ra rr rl:AV)(g:Nat)(ar:List AV)(r:AV):Prop:=KnB P b g ar r∧∃f∈fams ra rr rl,f.g=g∧∃x:f.X,f.a x=ar∧f.r x=r
section
variable {P:Program}{b:Base}{ra rr rl:AV}
theorem Kl.fn:∀g ar r r',Kl P b ra rr rl g ar r→Kl P b ra rr rl g ar r'→r=r':=fun g ar r r' h h'=>by
 obtain⟨_,f,hf,hg,x,ha,hr⟩:=h
 obtain⟨_,f',hf',hg',x',ha',hr'⟩:=h'
 have e:=nodup_inj (by rw[fams_g];decide) hf hf' (hg.trans hg'.symm)
 subst e
 rw[←hr,← hr']
 exact f.inj x x' (ha.trans ha'.symm)
theorem Kl.ok:KOk P b (Kl P b ra rr rl):=fun _ _ _ h B0=>h.1 B0
theorem kl(k:Nat){f:Fa}(hk:(fams ra rr rl)[k]? =some f)(x:f.X){g:Nat}{ar:List AV}{r:AV}(hg:f.g=g)(ha:f.a x=ar)(hr:f.r x=r)(h:KnB P b g ar r):Kl P b ra rr rl g ar r:=⟨h,f,List.mem_of_getElem? hk,hg,x,ha,hr⟩
variable (hb:BaseOk P b)(fb:FLn b)
include hb fb
theorem E_mkS(k i:Nat):Kl P b ra rr rl n_markText [nI k,nI i] (.s (mkS k i)):=kl 0 rfl (k,i) rfl rfl rfl (entryR hb (Kl.ok (ra:=ra) (rr:=rr) (rl:=rl)) _ fb.markText.1 rfl rfl rfl (fr:=1) rfl (Snp.eqb 1000 _ (Snp.s 999 _)) (markText_go k i _ rfl))
theorem E_mkT(i:Nat):Kl P b ra rr rl n_markTerm [nI 2,nI i] (.ag (mtC i)):=kl 1 rfl i rfl rfl rfl (entryR hb (Kl.ok (ra:=ra) (rr:=rr) (rl:=rl)) _ fb.markTerm.1 rfl rfl rfl (fr:=2) rfl (Snp.eqb 1000 _ fun _=>rfl) (markTerm_go Kl.fn fb.markText.2 i (E_mkS hb fb 2 i) _ rfl))
theorem E_mkF(i:Nat):Kl P b ra rr rl n_markForm [nI 2,nI i] (.ag (mfC i)):=kl 2 rfl i rfl rfl rfl (entryR hb (Kl.ok (ra:=ra) (rr:=rr) (rl:=rl)) _ fb.markForm.1 rfl rfl rfl (fr:=2) rfl (Snp.eqb 1000 _ fun _=>rfl) (markForm_go Kl.fn fb.markText.2 i (E_mkS hb fb 2 i) _ rfl))
theorem E_mkP(i:Nat):Kl P b ra rr rl n_markPrem [nI 2,nI i] (.ag (mpC i)):=kl 3 rfl i rfl rfl rfl (entryR hb (Kl.ok (ra:=ra) (rr:=rr) (rl:=rl)) _ fb.markPrem.1 rfl rfl rfl (fr:=2) rfl (Snp.eqb 1000 _ fun _=>rfl) (markPrem_go Kl.fn fb.markText.2 i (E_mkS hb fb 2 i) _ rfl))
theorem E_mkR(i:Nat):Kl P b ra rr rl n_markRule [nI 2,nI i] (.ag (mrC i)):=kl 4 rfl i rfl rfl rfl (entryR hb (Kl.ok (ra:=ra) (rr:=rr) (rl:=rl)) _ fb.markRule.1 rfl rfl rfl (fr:=2) rfl (Snp.eqb 1000 _ fun _=>rfl) (markRule_go Kl.fn fb.markText.2 i (E_mkS hb fb 2 i) _ rfl))
theorem FLn.hO:HOo b (Kl P b ra rr rl):=⟨fb.OverTerm.h,fb.OverTerms.h,fb.OverForm.h,fb.OverForms.h,fb.OverPrem.h,fb.OverPrems.h,fb.OverRule.h,fb.OverRules.h,fb.OverLogic.h,fb.markTerm.2,E_mkT hb fb,fb.markForm.2,E_mkF hb fb,fb.markPrem.2,E_mkP hb fb,fb.markRule.2,E_mkR hb fb⟩
end
structure Lv where
 nm:List Nat
 op:Int
 x:Int
 y:Int
 w:AV
 cells:List (List AV)
def Lv.v(l:Lv):AV:=.ag [.s l.nm,.i .u32 l.op,.i .u8 l.x,.i .u8 l.y,l.w]
def Lv.os(l:Lv):List AO:=l.cells.map AO.cells
def lvOf(e:ObjE):Lv:=match e.2.2.1 with
 | .tu (.ag [.s nm,.i _ op,.i _ x,.i _ y,w]::_)=>⟨nm,op,x,y,w,e.2.2.2⟩
 |_=>⟨[],0,0,0,.nilsl,[]⟩
def ndO(o:Option (List Nat)):Bool:=match o with|some ids=>nodupB ids|none=>false
def eqO(o:Option AV)(v:AV):Bool:=match o with|some u=>AV.eqb 1000 u v|none=>false
def Lv.good(l:Lv)(A:AV):Bool:=ndO (idsS l.os (idsR l.os 20) (some 6) l.w)&&(allB (allB smpA) l.cells&&(smpA l.w&&eqO (snapshot (relS l.os) 1000 l.v) A))
theorem eqO_ok{o:Option AV}{v:AV}(h:eqO o v=true):o=some v:=by
 cases o with
 |none=>cases h
 |some u=>exact congrArg some (AV.eqb_eq 1000 u v h)
structure Lv.Ok(l:Lv)(A:AV):Prop where
 ids:∃ids,idsS l.os (idsR l.os 20) (some 6) l.w=some ids∧ids.Nodup
 os:∀(i:Nat) (c:List AV),l.os[i]? =some (AO.cells c)→∀x∈c,smpA x=true
 w:smpA l.w=true
 snap:snapshot (relS l.os) 1000 l.v=some A
theorem Lv.good_ok{l:Lv}{A:AV}(h:l.good A=true):l.Ok A:=by
 unfold Lv.good at h
 simp only[Bool.and_eq_true] at h
 obtain⟨h1,h2,h3,h4⟩:=h
 refine⟨?_,fun i c hc x hx=>?_,h3,eqO_ok h4⟩
 ·unfold ndO at h1
  split at h1
  ·next ids e=>exact⟨ids,e,nodupB_ok h1⟩
  ·cases h1
 ·unfold Lv.os at hc
  rw[List.getElem?_map] at hc
  obtain⟨c',h5,h6⟩:=Option.map_eq_some_iff.1 hc
  cases h6
  exact allB_all (allB_all h2 _ (List.mem_of_getElem? h5)) x hx
theorem snapAll{n:Nat}{v r:AV}(h:eqO (snapshot ⟨.nil,0⟩ n v) r=true)(τ:St):snapshot τ n v=some r:=snapKeep (σ:=⟨.nil,0⟩) (fun i o h=>absurd (St.get_lt h) (Nat.not_lt_zero _)) n v r (eqO_ok h)
def Both(P:Program)(b:Base)(s:List Nat)(lv:AV):Prop:=∃(l:Lv) (A lS:AV),b.ospec n_LNamed [.s s]=some (.tu [l.v,nI 0],l.os)∧l.Ok A∧(∀τ:St,snapshot τ 1000 lv=some lS)∧KnB P b n_SameLogic [A,lS] (.b true)∧KnB P b n_LRight [A] (.b true)∧∃(o x y:Int) (wr:AV),lv=AV.ag [.s s,.i .u32 o,.i .u8 x,.i .u8 y,wr]
def BothL(P:Program)(b:Base):List (List Nat)→List AV→Prop
 |[],[]=>True
 |s::ss,v::vs=>Both P b s v∧BothL P b ss vs
 |_,_=>False
theorem BothL.len{P:Program}{b:Base}:∀ {ss:List (List Nat)} {vs:List AV},BothL P b ss vs→vs.length=ss.length
 |[],[],_=>rfl
 |_::_,_::_,h=>congrArg (· +1) (BothL.len h.2)
theorem BothL.get{P:Program}{b:Base}:∀ {ss:List (List Nat)} {vs:List AV},BothL P b ss vs→∀(j:Nat) (s:List Nat),ss[j]? =some s→∃v,vs[j]? =some v∧Both P b s v
 |s::ss,v::vs,h,0,s',e=>by cases e;exact⟨v,rfl,h.1⟩
 |s::ss,v::vs,h,j+1,s',e=>BothL.get h.2 j s' e
theorem logicNamed_E{P:Program}{b:Base}(hb:BaseOk P b)(hz:b.fz=0)(fb:FLn b){libL:List AV}(hL:BothL P b lnL libL)(kL:KnB P b n_rLibrary [] (.tl false (some 5) libL))(kA:KnB P b n_awake9 [] (.b true))
  {a:AV} (ha:∀τ:St,snapshot τ 1000 a=some a) {l:Lv} {A wS:AV} {e:Nat} {ok:Bool} (he:(e=0∧ok=true)∨(e=6∧ok=false)) (hN:b.ospec n_LNamed [a]=some (.tu [l.v,nI e],l.os)) (hl:l.Ok A)
  {wn:List Nat} {wo w1 w2:Int} {wr:AV} (kR:KnB P b n_rNamed9 [a] (.tu [.ag [.s wn,.i .u32 wo,.i .u8 w1,.i .u8 w2,wr],.b ok])) (hwr:wr.cells=[wr]∧conf none wr=true) (hwS:∀τ:St,snapshot τ 1000 (.ag [.s wn,.i .u32 wo,.i .u8 w1,.i .u8 w2,wr])=some wS) (kS:KnB P b n_SameLogic [A,wS] (.b true)):KnB P b n_LogicNamed [a] (.b true):=by
 obtain⟨ids,hi1,hi2⟩:=hl.ids
 have hz':b.fz+1000=1000:=by rw[hz]
 have kS':∀A lS,KnB P b n_SameLogic [A,lS] (.b true)→Kl P b a (.tu [.ag [.s wn,.i .u32 wo,.i .u8 w1,.i .u8 w2,wr],.b ok]) (.tl false (some 5) libL) n_SameLogic [A,lS] (.b true):=fun A lS h=>kl 5 rfl [A,lS] rfl rfl rfl h
 refine entryR hb (Kl.ok (ra:=a) (rr:=.tu [.ag [.s wn,.i .u32 wo,.i .u8 w1,.i .u8 w2,wr],.b ok]) (rl:=.tl false (some 5) libL)) _ fb.law rfl rfl rfl (fr:=1) rfl (Snp.eqb 1000 _ (Snp.b 999 _)) (LogicNamed_go Kl.fn (fb.hO hb) (fun τ=>by rw[hz'];exact ha τ) he fb.named hN hi1 hi2 hl.os fb.rNamed (kl 8 rfl () rfl rfl rfl kR) rfl hwr (fun τ=>by rw[hz'];exact hwS τ) (by rw[hz'];exact hl.snap) fb.same (kS' _ _ kS) fb.lNames.h fb.rLib hL.len (fun j s lv h1 h2=>?_) fb.right (fun j s h1=>?_) (kl 9 rfl () rfl rfl rfl kL) fb.awake (kl 7 rfl [] rfl rfl rfl kA) _ rfl)
 ·obtain⟨v,h3,l,A,lS,g1,g2,g3,g4,g5,_⟩:=hL.get j s h1
  rw[h2] at h3
  cases h3
  exact⟨l.nm,l.op,l.x,l.y,l.w,A,lS,l.os,g1,g2.os,g2.w,by rw[hz'];exact g2.snap,fun τ=>by rw[hz'];exact g3 τ,kS' _ _ g4,kl 6 rfl [A] rfl rfl rfl g5⟩
 ·obtain⟨v,h3,_,_,_,_,_,_,_,_,o,x,y,w,rfl⟩:=hL.get j s h1
  exact⟨o,x,y,w,h3⟩
end
end
end Go.Lyc
end
