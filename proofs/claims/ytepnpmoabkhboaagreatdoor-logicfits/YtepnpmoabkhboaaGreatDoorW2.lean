/-
  What functions of the program compute: walks, part 2. No conditions: definitions and laws.
-/
import Derived.Test.YtepnpmoabkhboaaGreatDoorW1
set_option linter.all false
noncomputable section
namespace Go.Lyc
def kS:=@List.take_length
def CC:=@List.length_eq_zero_iff
def RE:=@List.nodup_cons
def Ge:=@Nat.mod_lt
def RF:=@List.length_singleton
variable {b:b8}{K:Nat->List AV->AV->Prop}
set_option maxHeartbeats 0
set_option maxRecDepth 100000
section
variable [Tok][TokOk]
open Go.RowKit Go.Lyc.T
attribute [local irreducible] cz ch dE fq bw
abbrev iw(l:List (List Nat)):AV:=slA true none (l.map AV.s)
def RG{J:ag}{l:List (List Nat)}:z3 J none (iw l) (l.map AV.s):=b6V λy aI=>by obtain⟨x,_,rfl⟩:=di.1 aI;rfl
section
def RH(hh:bc (b.aQ K) FR Kp)(hx:bc (b.aQ K) FT Kw){J:ag}{v:AV}{l:List (List Nat)}(h1:z3 J none v (l.map AV.s))(ao:l.length<2^62)(a:List Nat):
  bw (b.aQ K) 0 (.f (.func FR) [] []) [v,.s a] J (λr ah=>r= .ok (.b (decide (a∈l)))/\ah=J):=by
 have hi:bw (b.aQ K) 0 (.f (.func FT) [] []) [v,.s a] J (λr ah=>(∃k,r= .ok (.i .i64 k)/\decide (0<=k)=decide (a∈l))/\ah=J):=by
  refine W.code hx.e hx.p hx.f I I I I λz=>?_;have H:Has J []:=Has.nil;have iV:∀ah,lenA ah 1 v=some l.length:=λah=>by rw[h1.len,cb]
  refine aO ?_;rw[cb];refine aa.each l.length (λj f ah=>ah=J/\sat [(0,v),(1,.s a)] f/\a∉l.take j) ao ⟨rfl,b9,aT⟩ I I (λj g ah aG bz hi hm=>?_) (λg ah bz hi=>?_)
  ·obtain⟨rfl,⟨iG,cn,_⟩,ht⟩:=bz;refine aa.norm [(0,v),(1,.s a),(8,aw j),(7,aw l.length)] ⟨iG,cn,hi,hm,trivial⟩ λg=>?_;have fj:j<(l.map AV.s).length:=by rw[cb];exact aG
   have b8j:=h1.a0 fj;rw[ic] at b8j;refine aO ?_;by_cases he:a=l[j]
   ·refine W.bin (v:=.b true) I I I I (by rw[ic];show some (AV.b (eqL a l[j]))=_;rw[tR,decide_eq_true he]) ?_;refine aO ?_;refine aa.ret ⟨rfl,⟨_,rfl,?_⟩,rfl⟩;rw[decide_eq_true (show a∈l from he▸c3 aG)];exact decide_eq_true (Dm j)
   ·refine W.bin (v:=.b false) I I I I (by rw[ic];show some (AV.b (eqL a l[j]))=_;rw[tR,decide_eq_false he]) ?_;refine aO ?_;refine⟨rfl,rfl,rfl,b9,λh=>?_⟩;rw[lv aG] at h;rcases gN.1 h with h|h
    ·exact ht h
    ·exact he (dx.1 h)
  ·obtain⟨rfl,_,ht⟩:=bz;refine aa.norm [] trivial λz=>?_;refine aO ?_;refine aa.ret ⟨rfl,⟨_,rfl,?_⟩,rfl⟩;rw[kS] at ht;rw[decide_eq_false ht];rfl
 refine W.code hh.e hh.p hh.f I I I I λz=>?_;have H:Has J []:=Has.nil;refine aO ?_;refine W.js I I I hi λr ah ⟨⟨k,e,aC⟩,aV⟩=>⟨_,e,?_⟩
 subst aV;refine W.bin (v:=.b (decide (a∈l))) I I I I (by rw[<-aC];rfl) ?_;refine aO ?_;exact aa.ret ⟨rfl,rfl,rfl⟩
end
abbrev ix:=Option (List Nat×List Nat)
def nB:ix->AV
 |none=>.aj
 |some (x,v)=>.aR true (some 2) [.ad [.s x,.s v]]
abbrev ju(S F:Fm)(bd:ix):AV:=.ad (bm S++(bm F++[nB bd]))
def ke(bd:ix)(aD:List Nat):List Nat:=
 match bd with
 |none=>aD
 |some (x,v)=>if v=aD then 63::x else aD
section
variable {b:b8}{K:Nat->List AV->AV->Prop}(hfn:∀g aB r bS,K g aB r->K g aB bS->r=bS)
include hfn
theorem b8k(S F:Fm)(bd:ix)(aD:List Nat)(pR:b.ext qX=0/\b.pure qX=true)(RI:∀x v,bd=some (x,v)->K qX [.s x] (.s (63::x)))(body:bC)(hb:Kq.body=some body):
  aa (b.aQ K) Kq.ntmps body (eh [ju S F bd,.s aD]) ⟨.nil,0⟩ (n4 Kq.results (.a6 [.s (ke bd aD),.b true])):=by
 cases hb;refine W.n1 λz H=>?_;refine aO ?_;refine W.dK (c:=bm S++(bm F++[nB bd])) H I I I I I I λah dQ H bM=>?_;obtain⟨dS,J8,hlen⟩:∃m,(m=0/\ke bd aD=aD\/m=1/\∃x v,bd=some (x,v))/\lenA ah 1 (nB bd)=some m:=by
  match bd with
  |none=>exact⟨0,.inl ⟨rfl,rfl⟩,rfl⟩
  |some (x,v)=>exact⟨1,.inr ⟨rfl,x,v,rfl⟩,rfl⟩
 refine aO ?_;refine W.len I I I hlen ?_;refine W.bin (v:=.i .i64 (Int.ofNat dS-1)) I I I I (by rcases J8 with⟨rfl,_⟩|⟨rfl,_⟩<;>rfl) ?_;refine aO ?_;show ch _ _ _ _ _ _ _ _;refine aa.block ?_;refine aa.loop (λm f a1=>Has a1 [(0,bm S++(bm F++[nB bd]))]/\sat [(1,.s aD),(2,bT 0),(6,.i .i64 (Int.ofNat m-1))] f/\(m=0/\ke bd aD=aD\/m=1/\∃x v,bd=some (x,v))) ?_ dS ⟨H,b9,J8⟩;intro m f a1 bz;obtain⟨H,ak,hm⟩:=bz;refine aa.norm [(1,.s aD),(2,bT 0),(6,.i .i64 (Int.ofNat m-1))] ak λf=>?_;rcases hm with⟨rfl,b8l⟩|⟨rfl,x,v,rfl⟩
 ·refine aO ?_;refine W.bin (v:=.b false) I I I I I ?_;refine aO ?_;refine aa.exit ?_;refine aO ?_;refine aa.ret ?_;refine⟨rfl,_,xR (k8 I) (k8 I),?_⟩;rw[b8l];rfl
 ·generalize aP:a1.next=q;refine aO ?_;refine W.jr (c:=[.s x,.s v]) H aP I I I I I I λca dC H ba=>?_;refine aO ?_;by_cases he:v=aD
  ·refine W.bin (v:=.b false) I I I I (by show some (AV.b (!eqL v aD))=_;rw[tR,decide_eq_true he];rfl) ?_;refine aO ?_;subst he;show ch _ _ _ _ _ _ _ _;refine aa.each 0 (λj f a1=>Has a1 [(q,[.s x,.s v])]/\sat [(7,bT q)] f) U ⟨H.YK aT,b9⟩ I I (λj g a1 aG bz hi hm=>by omega) (λg a1 bz hi=>?_);obtain⟨H,ak⟩:=bz;refine aa.norm [(7,bT q)] ak λg=>?_;refine aO ?_;refine W.gx hfn pR (RI _ _ I) I I I (fZ I) ?_;refine aO ?_;refine aa.ret ?_;refine⟨rfl,_,xR (k8 I) (k8 I),?_⟩;show _=some (AV.a6 [.s (if v=v then 63::x else v),.b true]);rw[if_pos I];rfl
  ·refine W.bin (v:=.b true) I I I I (by show some (AV.b (!eqL v aD))=_;rw[tR,decide_eq_false he];rfl) ?_;refine aO ?_;refine aa.exit ?_;refine aO ?_;refine W.bin (v:=.i .i64 (Int.ofNat 0-1)) I I I I I ?_;refine aO ?_;exact⟨0,U,H.YK aT,b9,.inl ⟨rfl,if_neg he⟩⟩
end
section
def nz{α:Type}:List α->Option (List α)
 |[]=>none
 |x::l=>some (x::l)
mutual
def ivT(bd:ix)(ins:List (List Nat)):Tm->Tm
 | .mk true n _=>.mk true (if n∈ins then n else ke bd n) none
 | .mk false n none=>.mk false n none
 | .mk false n (some l)=>.mk false n (nz (ivTs bd ins l))
def ivTs(bd:ix)(ins:List (List Nat)):List Tm->List Tm
 |[]=>[]
 |t::l=>ivT bd ins t::ivTs bd ins l
end
def Lt(bd:ix)(ins:List (List Nat)):∀l:List Tm,ivTs bd ins l=l.map (ivT bd ins)
 |[]=>by rw[ivTs];rfl
 |t::l=>by rw[ivTs,Lt bd ins l];rfl
def Lu(bd:ix)(ins:List (List Nat))(n:List Nat)(a:Option (List Tm)):ivT bd ins (.mk false n a)= .mk false n (nz ((a.getD []).map (ivT bd ins))):=by
 cases a with
 |none=>rw[ivT];rfl
 |some l=>rw[ivT,Lt];rfl
def Lv(bd:ix)(ins:List (List Nat))(n:List Nat)(a:Option (List Tm)):ivT bd ins (.mk true n a)= .mk true (if n∈ins then n else ke bd n) none:=by rw[ivT]
def Lw{R:Option Nat}{f:Tm->AV}(l:List Tm):osl false R ((nz l).map λl=>l.map f)=slA false R (l.map f):=by cases l<;>rfl
def xW(J:ag)(n:Nat)(t:Tm):freeze J 0 (n+2) (.ad (bs false t))=some (.ad (bs false t)):=by
 rw[freeze_succ];show(match mapO (freeze J 0 (n+1)) (bs false t) with|none=>none|some l=>some (AV.ad l))=_;have h1:freeze J 0 (n+1) (cy false t.cP)=some (cy false t.cP):=by cases t.cP<;>rfl
 rw[mapO_cons,mapO_cons,mapO_cons,h1];rfl
def Gf{f:AV->Option AV}:∀ {l:List AV},(∀y∈l,f y=some y)->mapO f l=some l
 |[],_=>rfl
 |x::l,h=>by rw[dg,h x aT,Gf λy aI=>h y (fP _ aI)]
def Sl.frzx{J:ag}{R:Option Nat}{v:AV}{xs a4:List AV}{n:Nat}(h:Sl J R v xs)(hm:mapO (Go.Lyc.freeze J 0 n) xs=some a4):Go.Lyc.freeze J 0 (n+1) v=some (match v.dU with|none=>.aj|some _=>.aR false R a4):=by
 have al:=h.read;cases h with
 |nil=>rfl
 |aq o cap xs rest h ae aC=>
  rw[freeze_succ];simp only[al,hm];rfl
def o2{α:Type}{J:ag}{R:Option Nat}{w:AV}{l:List α}{f:α->AV}(h:Sl J R w (l.map f))(hn:l=[]->w= .aj){n:Nat}(hf:∀x,freeze J 0 (n+2) (f x)=some (f x)):freeze J 0 (n+3) w=some (slA false R (l.map f)):=by
 rw[h.frzx (n:=n+2) (a4:=l.map f) (Gf λy aI=>by obtain⟨x,_,rfl⟩:=di.1 aI;exact hf x)];cases l with
 |nil=>rw[hn I];rfl
 |cons x l=>
  generalize hx:(x::l).map f=xs at h;cases h with
  |nil=>simp at hx
  |aq o cap xs rest hg ae aC=>subst hx;rfl
section
variable {b:b8}{K:Nat->List AV->AV->Prop}(hfn:∀g aB r bS,K g aB r->K g aB bS->r=bS)
include hfn
theorem b8m(S F:Fm)(bd:ix)(ins:List (List Nat))(qO:∀ah,bp ah (b.a2+1000) (ju S F bd)=some (ju S F bd))(Lx:∀ah,bp ah (b.a2+1000) (iw ins)=some (iw ins))(tc:ins.length<2^62)
  (Ly:bc (b.aQ K) FR Kp) (Lz:bc (b.aQ K) FT Kw) (b8n:b.ext xH=0/\b.pure xH=true) (a0X:b.ext ma=0/\b.pure ma=true) (e:b.ext qW=0/\b.pure qW=true)
  (t:Tm) (hlen:t.args.length<2^40) (LA:t.var=true->K xH [ju S F bd,.s t.name] (.a6 [.s (ke bd t.name),.b true])) (Gg:t.var=true->∀aD,aD=t.name\/aD=ke bd t.name->K ma [.s aD] (.ad [.b true,.s aD,.aj]))
  (gA:∀u∈t.args,∀ah,bp ah (b.a2+1000) (.ad (bs true u))=some (.ad (bs true u))) (eg:∀u∈t.args,K qW [ju S F bd,.ad (bs true u),iw ins] (.a6 [.ad (bs false (ivT bd ins u)),.b true])) (body:bC) (hb:Ki.body=some body):
  aa (b.aQ K) Ki.ntmps body (eh [ju S F bd,.ad (bs true t),iw ins]) ⟨.nil,0⟩ (n4 Ki.results (.a6 [.ad (bs false (ivT bd ins t)),.b true])):=by
 cases hb;refine W.n1 λz H=>?_;refine aO ?_;refine W.dK (c:=bm S++(bm F++[nB bd])) H I I I I I I λah dQ H bM=>?_;refine aO ?_;refine W.dK (c:=bs true t) H dQ I I I I I λca dC H ba=>?_;refine aO ?_;refine W.hI (c:=[.b false,.s [],.aj]) H dC I I I λc_ fY H bj=>?_;obtain⟨v,aD,a⟩:=t;change(a.getD []).length<2^40 at hlen;change ∀u∈a.getD [],∀ah,bp ah (b.a2+1000) (.ad (bs true u))=some (.ad (bs true u)) at gA;change ∀u∈a.getD [],K qW [ju S F bd,.ad (bs true u),iw ins] (.a6 [.ad (bs false (ivT bd ins u)),.b true]) at eg;cases v with
 |true=>
  have LA:=LA I;have Gg:=Gg I;change K xH [ju S F bd,.s aD] (.a6 [.s (ke bd aD),.b true]) at LA;change ∀x,x=aD\/x=ke bd aD->K ma [.s x] (.ad [.b true,.s x,.aj]) at Gg;rw[Lv];refine aO ?_;refine W.js I I I (RH Ly Lz RG tc aD) λr gz ⟨aF,aV⟩=>⟨_,aF,?_⟩
  subst aV;by_cases hm:aD∈ins
  ·rw[decide_eq_true hm,if_pos hm];refine aO ?_;refine W.gx hfn a0X (Gg aD (.inl I)) I I I (fZ I) ?_;refine aO ?_;refine W.st (bn:=[.b true,.s aD,.aj]) H 0 I I I I I I λg7 oN H e8=>?_;refine aO ?_;refine aa.ret ?_;exact⟨rfl,_,xR (q2 I (H.fK) I) (k8 I),rfl⟩
  ·rw[decide_eq_false hm,if_neg hm];refine aO ?_;refine W.gx hfn b8n LA I I I (lq (qO _) I) ?_;refine aO ?_;refine W.gx hfn a0X (Gg _ (.inr I)) I I I (fZ I) ?_;refine aO ?_;refine W.st (bn:=[.b true,.s (ke bd aD),.aj]) H 0 I I I I I I λg7 oN H e8=>?_;refine aO ?_;refine aa.ret ?_;exact⟨rfl,_,xR (q2 I (H.fK) I) (k8 I),rfl⟩
 |false=>
  rw[Lu];refine aO ?_;refine W.jr (c:=[.b false,.s aD,.aj]) H fY I I I I I I λgz hM H de=>?_;refine aO ?_;refine W.len I I I lr ?_;refine aO ?_;show ch _ _ _ _ _ _ _ _;refine aa.each (a.getD []).length (λj f a1=>(∃w,a1.get 3=some (.cells [.b false,.s aD,w])/\Sl a1 (some 3) w (((a.getD []).take j).map λx=>.ad (bs false (ivT bd ins x)))/\((a.getD []).take j=[]->w= .aj)/\∀o,w.dU =some o->gz.next<=o)/\(∀i o,i≠3->gz.get i=some o->a1.get i=some o)/\gz.next<=a1.next/\sat [(2,iw ins),(3,bT 0),(6,bT 2),(10,bT 3),(38,cy true a)] f) U ⟨⟨.aj,H.fK,.nil,λ_=>rfl,λ_ h=>by cases h⟩,λ_ _ _ h=>h,b6 _,b9⟩ I I (λj g a1 aG bz hi hm=>?_) (λg a1 bz hi=>?_)
  ·obtain⟨⟨w,hg,hw,fJ,gb⟩,cH,hn,ak⟩:=bz;refine aa.norm [(2,iw ins),(3,bT 0),(6,bT 2),(10,bT 3),(38,cy true a),(40,aw j),(39,aw (a.getD []).length)] ⟨ak.1,ak.2.1,ak.2.2.1,ak.2.2.2.1,ak.2.2.2.2.1,hi,hm,trivial⟩ λg=>?_;have H:Has a1 [(3,[.b false,.s aD,w]),(0,bm S++(bm F++[nB bd]))]:=(Has.nil.cons (cH 0 _ U (H.B8)) aT).cons hg aT;have hu:=c3 (l:=a.getD []) aG;have gP:=eg _ hu;have hY:=gA _ hu;refine aO ?_;refine W.jq I I I I (oR aG) ?_;refine W.gY (R:=some 3) I I I (Tm.conf true _) ?_;rw[ny];generalize g5:a1.next=hq;refine W.jr (c:=bs true (a.getD [])[j]) H g5 I I I I I I λly mO H gH=>?_;refine aO ?_;refine W.gx hfn e gP I I I (BY (qO _) (hY _) (Lx _)) ?_;refine aO ?_;generalize mE:ly.next=gO;refine W.jr (c:=bs false (ivT bd ins (a.getD [])[j])) H mE I I I I I I λgL pA H jZ=>?_;have cq:∀i o,a1.get i=some o->gL.get i=some o:=λi o h=>jZ _ _ (gH _ _ h);have pV:=hw.bK (ah:=gL) λi o _=>cq i o;refine aO ?_;refine W.pu (c:=bs false (ivT bd ins (a.getD [])[j])) (.ad (bs false (ivT bd ins (a.getD [])[j]))) pV I I I I I I I I I (by rw[cb,gM];omega) λa_ n8 hZ kf _ nC cN=>?_;have H:Has n8 [(3,[.b false,.s aD,w])]:=Has.nil.cons (cN _ _ (λe=>by have:=gb _ e;omega) (cq _ _ hg)) aT;refine aO ?_;refine W.st (bn:=[.b false,.s aD,a_]) H 0 I I I I hZ.n3 (by rw[hZ.tO];rfl) λvT nf H ga=>?_;refine aO ?_;refine⟨rfl,rfl,⟨a_,H.fK,?_,λh=>?_,λo ho=>by rw[kf] at ho;cases ho;omega⟩,λi o hi ho=>ga _ _ hi (cN _ _ (λe=>by have:=gb _ e;have:=ag.cJ ho;omega) (cq _ _ (cH _ _ hi ho))),U,b9⟩
   ·rw[lv aG,ie];exact hZ.bK λi o hi=>ga _ _ (λe=>by rw[kf] at hi;cases hi;omega)
   ·have:=congrArg List.length h;rw[gM,nn] at this;omega
  ·obtain⟨⟨w,hg,hw,fJ,gb⟩,cH,hn,ak⟩:=bz;refine aa.norm [(6,bT 2),(10,bT 3)] ⟨ak.2.2.1,ak.2.2.2.1,trivial⟩ λg=>?_;have H:Has a1 [(3,[.b false,.s aD,w]),(2,[.b false,.s [],.aj])]:=(Has.nil.cons (cH 2 _ U (H.n0)) aT).cons hg aT;rw[kS] at hw fJ;refine aO ?_;refine W.st (bn:=[.b false,.s aD,w]) H 1 I I I I I I λgL pA H jZ=>?_;refine aO ?_;refine aa.ret ?_;refine⟨rfl,_,xR (q2 I (H.n0) I) (k8 I),?_⟩;have pV:=hw.bK (ah:=gL) λi o hi=>jZ _ _ (by have:=gb i hi;omega);have h1:freeze gL 0 998 w=some (slA false (some 3) ((a.getD []).map λx=>.ad (bs false (ivT bd ins x)))):=o2 (n:=995) pV (λh=>fJ h) λx=>xW gL 995 _;have h2:freeze gL 0 999 (.ad [.b false,.s aD,w])=some (.ad (bs false (Tm.mk false aD (nz ((a.getD []).map (ivT bd ins)))))):=by
    rw[freeze_succ];show(match mapO (freeze gL 0 998) [.b false,.s aD,w] with|none=>none|some l=>some (AV.ad l))=_;rw[mapO_cons,mapO_cons,mapO_cons,h1];show some (AV.ad [.b false,.s aD,slA false (some 3) ((a.getD []).map λx=>.ad (bs false (ivT bd ins x)))])=some (.ad [.b false,.s aD,osl false (some 3) ((nz ((a.getD []).map (ivT bd ins))).map λl=>l.map (Tm.A false))]);rw[Lw,kz];have e:(Tm.A false∘ivT bd ins)=λx=>AV.ad (bs false (ivT bd ins x)):=funext λx=>ny false _;rw[e]
   rw[freeze_succ];show(match mapO (freeze gL 0 999) [.ad [.b false,.s aD,w],.b true] with|none=>none|some l=>some (AV.a6 l))=_;rw[mapO_cons,h2];rfl
end
end
section
def LB(v:AV)(xs:List AV):Prop:=(v= .aj/\xs=[])\/(v= .iA true none xs/\xs≠[])
def b8o{av:aH->Option AV}{J:ag}{s hi cI:aH}{xs:List AV}(h1:av s=some (slA true none xs))(h2:av hi=some (aw xs.length))(h3:av cI=some (aw xs.length)):∃v,opx 0 av J (.m7 none s none (some hi) (some cI))=some (.val v J)/\LB v xs:=by
 have db:∀d,bndO av (some hi) d=some xs.length:=λd=>by unfold bndO;simp only[h2];rfl
 have cK:∀d,bndO av (some cI) d=some xs.length:=λd=>by unfold bndO;simp only[h3];rfl
 have xg:bndO av none 0=some 0:=rfl;have eO:∀v w,av s=some v->sliceA av none v none (some hi) (some cI)=some w->(v= .aj\/∃o R l,v= .aR o R l)->opx 0 av J (.m7 none s none (some hi) (some cI))=some (.val w J):=λv w au hw aC=>by
  simp only[opx,au];rcases aC with rfl|⟨o,R,l,rfl⟩<;>simp only[hw]
 cases xs with
 |nil=>
  refine⟨.aj,eO _ _ h1 ?_ (.inl I),.inl ⟨rfl,rfl⟩⟩;unfold sliceA slA;simp only[db,cK,xg];rfl
 |cons x l=>
  refine⟨.iA true none (x::l),eO _ _ h1 ?_ (.inr ⟨_,_,_,rfl⟩),.inr ⟨rfl,aT⟩⟩;show sliceA av none (.aR true none (x::l)) none (some hi) (some cI)=_;unfold sliceA;simp only[if_pos,db,cK,xg];have:(Nat.beq 0 0&&(Nat.beq (x::l).length (x::l).length&&(Nat.beq (x::l).length (x::l).length&&Nat.blt 0 (x::l).length)))=true:=by
   rw[fE,fE];rfl
  rw[if_pos this]
def b8p{av:aH->Option AV}{J:ag}{s x:aH}{v w y:AV}{xs:List AV}{bytes:Nat}(au:LB v xs)(h1:av s=some v)(h2:av x=some w)(hw:newOf J w=some [y])(hx:∀z∈xs,conf none z=true)(aI:conf none y=true)(hb:(3*(xs.length+1)+2000)*bytes<=281474976710656):
  ∃a_ ah,opx 0 av J (.append none bytes s x)=some (.val a_ ah)/\Sl ah none a_ (xs++[y])/\a_.dU =some J.next/\ah.next=J.next+1/\∀i o,J.get i=some o->ah.get i=some o:=by
 have ae:∀z∈[y],conf none z=true:=λz aZ=>by rw[dx.1 aZ];exact aI
 rcases au with⟨rfl,rfl⟩|⟨rfl,b_⟩
 ·obtain⟨a_,ah,e,a9,bt,_,cW,eD⟩:=(Sl.nil (J:=J) (R:=none)).append (bytes:=bytes) hw ae hb;exact⟨a_,ah,JW h1 h2 e,a9,bt,cW,λi o ho=>eD i o (λh=>by cases h) ho⟩
 ·refine⟨.aq J.next 0 (xs.length+1) none none,J.push (.cells (xs.flatMap AV.cells++[y].flatMap AV.cells)),JW h1 h2 ?_,?_,rfl,rfl,λi o ho=>by rw[ag.fy trivial _ (ag.cJ ho)];exact ho⟩
  ·have hall:(cB (Go.Lyc.conf none) xs&&cB (Go.Lyc.conf none) [y]&&Nat.ble ((3*(xs.length+[y].length)+2000)*bytes) 281474976710656)=true:=by
    rw[iI hx,iI ae,hO (show(3*(xs.length+[y].length)+2000)*bytes<=281474976710656 from hb)];rfl
   unfold appendO;rw[hw];show cond (cB (Go.Lyc.conf none) xs&&cB (Go.Lyc.conf none) [y]&&Nat.ble ((3*(xs.length+[y].length)+2000)*bytes) 281474976710656) _ none=_;rw[hall,cond_true];rfl
  ·have:=Sl.aq (J:=J.push (.cells (xs.flatMap AV.cells++[y].flatMap AV.cells))) (R:=none) J.next none (xs++[y]) [] (by rw[ag.ij,xJ,fp]) (λz aZ=>by
    rcases gN.1 aZ with aZ|aZ
    ·exact hx z aZ
    ·exact ae z aZ) (.inl I)
   rwa[h5] at this
namespace W
section
variable {cF:qR}{env:Env}{aJ:Option Nat}{D:List (Nat ⊕ (AV×List AV))}{n:Nat}{F:List (Nat×AV)}{z:Nat->AV}{J:ag}{Q:eR}
def fM{d:Nat}{s hi cI:aH}{g:Option (Nat×Bool)}{ops:List aX}{xs:List AV}(an:Nat.blt d n=true)(hw:wtL g n F=true)(h1:dJ env n F z s=some (slA true none xs))(h2:dJ env n F z hi=some (aw xs.length))(h3:dJ env n F z cI=some (aw xs.length))
  (h:∀v,LB v xs->cz cF env aJ D n ops (b4 ((d,v)::F) z) J Q):cz cF env aJ D n (⟨some d,.m7 none s none (some hi) (some cI),g,[]⟩::ops) (b4 F z) J Q:=by
 obtain⟨v,e,au⟩:=b8o (J:=J) h1 h2 h3;exact val an hw e (h v au)
def b8q{d:Nat}{s x:aH}{g:Option (Nat×Bool)}{ops:List aX}{v w y:AV}{xs:List AV}{bytes:Nat}(au:LB v xs)(an:Nat.blt d n=true)(hw:wtL g n F=true)(h1:dJ env n F z s=some v)(h2:dJ env n F z x=some w)(hn:newOf J w=some [y])(hx:∀z∈xs,Go.Lyc.conf none z=true)(aI:Go.Lyc.conf none y=true)(hb:(3*(xs.length+1)+2000)*bytes<=281474976710656)
  (h:∀a_ ah,Sl ah none a_ (xs++[y])->a_.dU =some J.next->ah.next=J.next+1->(∀i o,J.get i=some o->ah.get i=some o)->cz cF env aJ D n ops (b4 ((d,a_)::F) z) ah Q):cz cF env aJ D n (⟨some d,.append none bytes s x,g,[]⟩::ops) (b4 F z) J Q:=by
 obtain⟨a_,ah,e,a9,bt,cW,eD⟩:=b8p (bytes:=bytes) au h1 h2 hn hx aI hb;exact val an hw e (h a_ ah a9 bt cW eD)
end
end W
def Sl.a0Y{J:ag}{R:Option Nat}{v:AV}{xs a4:List AV}{m:Nat}(ak:Sl J R v xs)(hn:xs≠[])(hm:mapO (bp J m) xs=some a4):bp J (m+1) v=some (.aR true R a4):=by
 have al:=ak.read;cases ak with
 |nil=>exact absurd I hn
 |aq o cap xs rest hg ae aC=>
  rw[snapshot_succ];simp only[al,hm]
def kT(op:Nat)(n:List Nat)(ins:List (List Nat)):List (List Nat):=if op=8\/op=9 then ins++[n] else ins
mutual
def ivF(bd:ix)(ins:List (List Nat)):Fm->Fm
 | .mk op n a none=>.mk op n (nz (ivTs bd ins (a.getD []))) none
 | .mk op n a (some l)=>.mk op n (nz (ivTs bd ins (a.getD []))) (nz (ivFs bd (kT op n ins) l))
def ivFs(bd:ix)(ins:List (List Nat)):List Fm->List Fm
 |[]=>[]
 |t::l=>ivF bd ins t::ivFs bd ins l
end
def a0Z(bd:ix)(ins:List (List Nat)):∀l:List Fm,ivFs bd ins l=l.map (ivF bd ins)
 |[]=>by rw[ivFs];rfl
 |t::l=>by rw[ivFs,a0Z bd ins l];rfl
def q5(bd:ix)(ins:List (List Nat))(op:Nat)(n:List Nat)(a:Option (List Tm))(s:Option (List Fm)):ivF bd ins (.mk op n a s)= .mk op n (nz ((a.getD []).map (ivT bd ins))) (nz ((s.getD []).map (ivF bd (kT op n ins)))):=by
 cases s with
 |none=>rw[ivF,Lt];rfl
 |some l=>rw[ivF,Lt,a0Z];rfl
abbrev cV(F:Fm):List AV:=[a3 F.op,.s F.name,cy false F.cP,fa false F.d_]
def xX(F:Fm):F.A false= .ad (cV F):=by unfold Fm.A;rw[Fm.gJ]
def Ab(J:ag)(n:Nat)(F:Fm):freeze J 0 (n+2) (.ad (cV F))=some (.ad (cV F)):=by
 rw[freeze_succ];show(match mapO (freeze J 0 (n+1)) (cV F) with|none=>none|some l=>some (AV.ad l))=_;have h1:freeze J 0 (n+1) (cy false F.cP)=some (cy false F.cP):=by cases F.cP<;>rfl
 have h2:freeze J 0 (n+1) (fa false F.d_)=some (fa false F.d_):=by cases F.d_<;>rfl
 rw[mapO_cons,mapO_cons,mapO_cons,mapO_cons,h1,h2];rfl
def a1a{R:Option Nat}{f:Fm->AV}(l:List Fm):osl false R ((nz l).map λl=>l.map f)=slA false R (l.map f):=by cases l<;>rfl
section
def a1b(hh:bc (b.aQ K) FN Kh)(F:Fm)(J:ag):bw (b.aQ K) 0 (.f (.func FN) [] []) [.ad (bm F)] J (λr ah=>r= .ok (.b (decide (mg F)))/\J.next<=ah.next/\∀c o,J.get c=some o->ah.get c=some o):=by
 refine W.code hh.e hh.p hh.f I I I I λz=>?_;have H:Has J []:=Has.nil;generalize aP:J.next=q;refine aO ?_;refine W.dK (c:=bm F) H aP I I I I I λah dQ H bM=>?_;refine aO ?_;by_cases gG:F.op=8
 ·refine W.bin (v:=.b true) I I I I (by show some (AV.b (decide (Int.ofNat F.op=Int.ofNat 8)))=_;rw[gG];rfl) ?_;refine aO ?_;exact aa.ret ⟨rfl,by rw[decide_eq_true (show mg F from .inl gG)];rfl,U,bM⟩
 ·refine W.bin (v:=.b false) I I I I (by show some (AV.b (decide (Int.ofNat F.op=Int.ofNat 8)))=_;rw[decide_eq_false (λe=>gG (ot e))]) ?_;refine aO ?_;by_cases iF:F.op=9
  ·refine W.bin (v:=.b true) I I I I (by show some (AV.b (decide (Int.ofNat F.op=Int.ofNat 9)))=_;rw[iF];rfl) ?_;refine aO ?_;exact aa.ret ⟨rfl,by rw[decide_eq_true (show mg F from .inr iF)];rfl,U,bM⟩
  ·refine W.bin (v:=.b false) I I I I (by show some (AV.b (decide (Int.ofNat F.op=Int.ofNat 9)))=_;rw[decide_eq_false (λe=>iF (ot e))]) ?_;refine aO ?_;exact aa.ret ⟨rfl,by rw[decide_eq_false (show ¬mg F from λh=>h.elim gG iF)];rfl,U,bM⟩
end
end
def W.a1c{α:Type}{env:Env}{aJ:Option Nat}{D:List (Nat ⊕ (AV×List AV))}{n:Nat}{a:bC}{f:Nat->AV}{J:ag}{Q:eR}(L:α->List (Nat×AV))(az:α->ag->Prop)(h1:ch env aJ D n a f J (λx bD af=>x= .normal/\∃p,az p af/\sat (L p) bD))(h2:∀p g af,az p af->Q .normal (b4 (L p) g) af):ch env aJ D n a f J Q:=
 h1.mono λx bD af ⟨aF,p,aV,dp⟩=>by
  subst aF;rw[<-BX dp];exact h2 p bD af aV
section
variable {b:b8}{K:Nat->List AV->AV->Prop}(hfn:∀g aB r bS,K g aB r->K g aB bS->r=bS)
include hfn
theorem b8r(S F:Fm)(bd:ix)(ins:List (List Nat))(qO:∀ah,bp ah (b.a2+1000) (ju S F bd)=some (ju S F bd))(Lx:∀ah,bp ah (b.a2+1000) (iw ins)=some (iw ins))(tc:ins.length<2^40)
  (xO:bc (b.aQ K) FN Kh) (q6:b.ext qW=0/\b.pure qW=true) (e:b.ext pN=0/\b.pure pN=true)
  (G:Fm) (gW:G.args.length<2^40) (gi:G.sub.length<2^40)
  (sB:∀u∈G.args,∀ah,bp ah (b.a2+1000) (.ad (bs true u))=some (.ad (bs true u))) (nD:∀u∈G.args,K qW [ju S F bd,.ad (bs true u),iw ins] (.a6 [.ad (bs false (ivT bd ins u)),.b true]))
  (gA:∀u∈G.sub,∀ah,bp ah (b.a2+1000) (.ad (bm u))=some (.ad (bm u))) (eg:∀u∈G.sub,K pN [ju S F bd,.ad (bm u),iw (kT G.op G.name ins)] (.a6 [.ad (cV (ivF bd (kT G.op G.name ins) u)),.b true])) (body:bC) (hb:Kg.body=some body):
  aa (b.aQ K) Kg.ntmps body (eh [ju S F bd,.ad (bm G),iw ins]) ⟨.nil,0⟩ (n4 Kg.results (.a6 [.ad (cV (ivF bd ins G)),.b true])):=by
 cases hb;refine W.n1 λz H=>?_;refine aO ?_;refine W.dK (c:=bm S++(bm F++[nB bd])) H I I I I I I λah dQ H bM=>?_;refine aO ?_;refine W.dK (c:=bm G) H dQ I I I I I λca dC H ba=>?_;refine aO ?_;refine W.hI (c:=[.i .u8 0,.s [],.aj,.aj]) H dC I I I λc_ fY H bj=>?_;have RJ:=λJ=>a1b xO G J;have c6T:mg G↔(G.op=8\/G.op=9):=Iff.rfl;have c6U:bm G=bm G:=rfl;obtain⟨op,aD,a,s⟩:=G;change(a.getD []).length<2^40 at gW;change(s.getD []).length<2^40 at gi;change ∀u∈a.getD [],∀ah,bp ah (b.a2+1000) (.ad (bs true u))=some (.ad (bs true u)) at sB;change ∀u∈a.getD [],K qW [ju S F bd,.ad (bs true u),iw ins] (.a6 [.ad (bs false (ivT bd ins u)),.b true]) at nD;change ∀u∈s.getD [],∀ah,bp ah (b.a2+1000) (.ad (bm u))=some (.ad (bm u)) at gA;change ∀u∈s.getD [],K pN [ju S F bd,.ad (bm u),iw (kT op aD ins)] (.a6 [.ad (cV (ivF bd (kT op aD ins) u)),.b true]) at eg;rw[q5];refine aO ?_;refine W.jr (c:=[a3 op,.s aD,.aj,.aj]) H fY I I I I I I λgz hM H de=>?_;refine aO ?_;refine W.len I I I lr ?_;refine aO ?_;show ch _ _ _ _ _ _ _ _;refine aa.each (a.getD []).length (λj f a1=>(∃w,a1.get 3=some (.cells [a3 op,.s aD,w,.aj])/\Sl a1 (some 3) w (((a.getD []).take j).map λx=>.ad (bs false (ivT bd ins x)))/\((a.getD []).take j=[]->w= .aj)/\∀o,w.dU =some o->gz.next<=o)/\(∀i o,i≠3->gz.get i=some o->a1.get i=some o)/\gz.next<=a1.next/\sat [(2,iw ins),(3,bT 0),(4,bT 1),(6,bT 2),(8,bT 3),(23,cy true a)] f) U ⟨⟨.aj,H.fK,.nil,λ_=>rfl,λ_ h=>by cases h⟩,λ_ _ _ h=>h,b6 _,b9⟩ I I (λj g a1 aG bz hi hm=>?_) (λg a1 bz hi=>?_)
 ·obtain⟨⟨w,hg,hw,fJ,gb⟩,cH,hn,ak⟩:=bz;refine aa.norm [(2,iw ins),(3,bT 0),(4,bT 1),(6,bT 2),(8,bT 3),(23,cy true a),(25,aw j),(24,aw (a.getD []).length)] ⟨ak.1,ak.2.1,ak.2.2.1,ak.2.2.2.1,ak.2.2.2.2.1,ak.2.2.2.2.2.1,hi,hm,trivial⟩ λg=>?_;have H:Has a1 [(3,[a3 op,.s aD,w,.aj]),(0,bm S++(bm F++[nB bd]))]:=(Has.nil.cons (cH 0 _ U (H.B8)) aT).cons hg aT;have hu:=c3 (l:=a.getD []) aG;have gP:=nD _ hu;have hY:=sB _ hu;refine aO ?_;refine W.jq I I I I (oR aG) ?_;refine W.gY (R:=some 3) I I I (Tm.conf true _) ?_;rw[ny];generalize g5:a1.next=hq;refine W.jr (c:=bs true (a.getD [])[j]) H g5 I I I I I I λly mO H gH=>?_;refine aO ?_;refine W.gx hfn q6 gP I I I (BY (qO _) (hY _) (Lx _)) ?_;refine aO ?_;generalize mE:ly.next=gO;refine W.jr (c:=bs false (ivT bd ins (a.getD [])[j])) H mE I I I I I I λgL pA H jZ=>?_;have cq:∀i o,a1.get i=some o->gL.get i=some o:=λi o h=>jZ _ _ (gH _ _ h);have pV:=hw.bK (ah:=gL) λi o _=>cq i o;refine aO ?_;refine W.pu (c:=bs false (ivT bd ins (a.getD [])[j])) (.ad (bs false (ivT bd ins (a.getD [])[j]))) pV I I I I I I I I I (by rw[cb,gM];omega) λa_ n8 hZ kf _ nC cN=>?_;have H:Has n8 [(3,[a3 op,.s aD,w,.aj])]:=Has.nil.cons (cN _ _ (λe=>by have:=gb _ e;omega) (cq _ _ hg)) aT;refine aO ?_;refine W.st (bn:=[a3 op,.s aD,a_,.aj]) H 0 I I I I hZ.n3 (by rw[hZ.tO];rfl) λvT nf H ga=>?_;refine aO ?_;refine⟨rfl,rfl,⟨a_,H.fK,?_,λh=>?_,λo ho=>by rw[kf] at ho;cases ho;omega⟩,λi o hi ho=>ga _ _ hi (cN _ _ (λe=>by have:=gb _ e;have:=ag.cJ ho;omega) (cq _ _ (cH _ _ hi ho))),U,b9⟩
  ·rw[lv aG,ie];exact hZ.bK λi o hi=>ga _ _ (λe=>by rw[kf] at hi;cases hi;omega)
  ·have:=congrArg List.length h;rw[gM,nn] at this;omega
 ·obtain⟨⟨bf,nj,fH,vU,tZ⟩,cH,hn,ak⟩:=bz;refine aa.norm [(2,iw ins),(3,bT 0),(4,bT 1),(6,bT 2),(8,bT 3)] ⟨ak.1,ak.2.1,ak.2.2.1,ak.2.2.2.1,ak.2.2.2.2.1,trivial⟩ λg=>?_;have H:Has a1 [(3,[a3 op,.s aD,bf,.aj]),(2,[.i .u8 0,.s [],.aj,.aj]),(1,bm (.mk op aD a s)),(0,bm S++(bm F++[nB bd]))]:=(((Has.nil.cons (cH 0 _ U (H.B8)) aT).cons (cH 1 _ U (H.B7)) aT).cons (cH 2 _ U (H.n0)) aT).cons nj aT;rw[kS] at fH vU;refine aO ?_;refine W.js I I I (RJ a1) λr g7 ⟨av,oN,e8⟩=>⟨_,av,?_⟩
  have H:Has g7 [(3,[a3 op,.s aD,bf,.aj]),(2,[.i .u8 0,.s [],.aj,.aj]),(1,bm (.mk op aD a s)),(0,bm S++(bm F++[nB bd]))]:=H.bK e8;have md:3<g7.next:=H.lt (.head _);refine W.nil ?_;show ch _ _ _ _ _ _ _ _;refine W.a1c (α:=AV) (λv=>[(2,v),(3,bT 0),(4,bT 1),(6,bT 2),(8,bT 3)]) (λv ah=>g7.next<=ah.next/\(∀i o,g7.get i=some o->ah.get i=some o)/\∀CD:ag,(∀i o,i≠3->ah.get i=some o->CD.get i=some o)->bp CD (b.a2+1000) v=some (iw (kT op aD ins))) ?_ λv2 g mZ hR=>?_
  ·by_cases cu:op=8\/op=9
   ·rw[decide_eq_true (show mg (.mk op aD a s) from cu)];have RK:kT op aD ins=ins++[aD]:=if_pos cu;refine W.YM I ?_;refine W.zF I ?_;refine aO ?_;have CE:∀J:ag,lenA J 1 (iw ins)=some ins.length:=λJ=>by rw[RG.len (J:=J),cb]
    have hle:∀J:ag,lenA J 1 (iw ins)=some (ins.map AV.s).length:=λJ=>RG.len (J:=J) J;refine W.B5 (v:=aw (ins.map AV.s).length) I I I (λs=>JS I (hle s)) (Snp.eqb _ _ λJ=>rfl) ?_;refine aO ?_;refine W.B5 (v:=aw (ins.map AV.s).length) I I I (λs=>JS I (hle s)) (Snp.eqb _ _ λJ=>rfl) ?_;refine W.fM (xs:=ins.map AV.s) I I I I I λCF b8s=>?_;refine aO ?_;refine W.gU (c:=[.s aD]) H I I I I λly mO a1d gH=>?_;refine W.now [(9,1,.cells (bm (.mk op aD a s)))] [] I I ⟨a1d.B8,trivial⟩ ?_;refine W.b8q (y:=.s aD) b8s I I I I (by show readList ly (.aq g7.next 0 1 none (some 1))=_;show(match ly.get g7.next with|some (.cells c)=>elems none 1 (c.drop 0)|_=>none)=_;rw[a1d.fK];rfl) (λz aZ=>by obtain⟨x,_,rfl⟩:=di.1 aZ;rfl) I (by rw[cb];omega) λv4 gL mP hT pA jZ=>?_;refine aO ?_;refine⟨rfl,v4,⟨U,λi o ho=>jZ _ _ (gH _ _ ho),λCD aC=>?_⟩,b9⟩;have t_:=mP.bK (ah:=CD) λi o hi ho=>aC i o (by rw[hT] at hi;cases hi;omega) ho;rw[RK,show ins.map AV.s++[AV.s aD]=(ins++[aD]).map AV.s from by rw[ie];rfl] at *;rw[t_.a0Y (m:=b.a2+999) (a4:=(ins++[aD]).map AV.s) aT (Gf λy aI=>by obtain⟨x,_,rfl⟩:=di.1 aI;rfl)];cases ins<;>rfl
   ·rw[decide_eq_false (show ¬mg (.mk op aD a s) from cu)];have RK:kT op aD ins=ins:=if_neg cu;refine aO ?_;exact⟨rfl,_,⟨b6 _,λ_ _ h=>h,λCD _=>by rw[RK];exact Lx CD⟩,b9⟩
  obtain⟨Ej,o3,tV⟩:=hR;have H:Has mZ [(3,[a3 op,.s aD,bf,.aj]),(2,[.i .u8 0,.s [],.aj,.aj]),(1,bm (.mk op aD a s)),(0,bm S++(bm F++[nB bd]))]:=H.bK o3;have fH:=fH.bK (ah:=mZ) λi o _ ho=>o3 _ _ (e8 _ _ ho);have b8t:3<mZ.next:=H.lt (.head _);refine aO ?_;refine W.len I I I qN ?_;refine aO ?_;show ch _ _ _ _ _ _ _ _;refine aa.each (s.getD []).length (λj f a1=>(∃w,a1.get 3=some (.cells [a3 op,.s aD,bf,w])/\Sl a1 (some 4) w (((s.getD []).take j).map λx=>.ad (cV (ivF bd (kT op aD ins) x)))/\((s.getD []).take j=[]->w= .aj)/\∀o,w.dU =some o->mZ.next<=o)/\(∀i o,i≠3->mZ.get i=some o->a1.get i=some o)/\mZ.next<=a1.next/\sat [(2,v2),(3,bT 0),(6,bT 2),(8,bT 3),(59,fa true s)] f) U ⟨⟨.aj,H.fK,.nil,λ_=>rfl,λ_ h=>by cases h⟩,λ_ _ _ h=>h,b6 _,b9⟩ I I (λj g a1 aG bz hi hm=>?_) (λg a1 bz hi=>?_)
  ·obtain⟨⟨w,hg,hw,fJ,gb⟩,cH,hn,ak⟩:=bz;refine aa.norm [(2,v2),(3,bT 0),(6,bT 2),(8,bT 3),(59,fa true s),(61,aw j),(60,aw (s.getD []).length)] ⟨ak.1,ak.2.1,ak.2.2.1,ak.2.2.2.1,ak.2.2.2.2.1,hi,hm,trivial⟩ λg=>?_;have H:Has a1 [(3,[a3 op,.s aD,bf,w]),(0,bm S++(bm F++[nB bd]))]:=(Has.nil.cons (cH 0 _ U (H.B8)) aT).cons hg aT;have hu:=c3 (l:=s.getD []) aG;have gP:=eg _ hu;have hY:=gA _ hu;refine aO ?_;refine W.jq I I I I (tB aG) ?_;refine W.gY (R:=some 4) I I I (Fm.conf true _) ?_;rw[mf];generalize g5:a1.next=hq;refine W.jr (c:=bm (s.getD [])[j]) H g5 I I I I I I λjv tl H lo=>?_;refine aO ?_;refine W.gx hfn e gP I I I (BY (qO _) (hY _) (tV _ λi o hi ho=>lo _ _ (cH _ _ hi ho))) ?_;refine aO ?_;generalize mE:jv.next=gO;refine W.jr (c:=cV (ivF bd (kT op aD ins) (s.getD [])[j])) H mE I I I I I I λq7 BC H Ac=>?_;have cq:∀i o,a1.get i=some o->q7.get i=some o:=λi o h=>Ac _ _ (lo _ _ h);have Gh:=hw.bK (ah:=q7) λi o _=>cq i o;refine aO ?_;refine W.pu (c:=cV (ivF bd (kT op aD ins) (s.getD [])[j])) (.ad (cV (ivF bd (kT op aD ins) (s.getD [])[j]))) Gh I I I I I I I I I (by rw[cb,gM];omega) λa_ n8 hZ kf _ nC cN=>?_;have H:Has n8 [(3,[a3 op,.s aD,bf,w])]:=Has.nil.cons (cN _ _ (λe=>by have:=gb _ e;omega) (cq _ _ hg)) aT;refine aO ?_;refine W.st (bn:=[a3 op,.s aD,bf,a_]) H 0 I I I I hZ.n3 (by rw[hZ.tO];rfl) λvT nf H ga=>?_;refine aO ?_;refine⟨rfl,rfl,⟨a_,H.fK,?_,λh=>?_,λo ho=>by rw[kf] at ho;cases ho;omega⟩,λi o hi ho=>ga _ _ hi (cN _ _ (λe=>by have:=gb _ e;have:=ag.cJ ho;omega) (cq _ _ (cH _ _ hi ho))),U,b9⟩
   ·rw[lv aG,ie];exact hZ.bK λi o hi=>ga _ _ (λe=>by rw[kf] at hi;cases hi;omega)
   ·have:=congrArg List.length h;rw[gM,nn] at this;omega
  ·obtain⟨⟨w,hg,hw,fJ,gb⟩,cH,hn,ak⟩:=bz;refine aa.norm [(6,bT 2),(8,bT 3)] ⟨ak.2.2.1,ak.2.2.2.1,trivial⟩ λg=>?_;have H:Has a1 [(3,[a3 op,.s aD,bf,w]),(2,[.i .u8 0,.s [],.aj,.aj])]:=(Has.nil.cons (cH 2 _ U (H.n0)) aT).cons hg aT;have fH:=fH.bK (ah:=a1) λi o hi ho=>cH i o (by have:=tZ _ hi;omega) ho;rw[kS] at hw fJ;refine aO ?_;refine W.st (bn:=[a3 op,.s aD,bf,w]) H 1 I I I I I I λjv tl H lo=>?_;refine aO ?_;refine aa.ret ?_;refine⟨rfl,_,xR (q2 I (H.n0) I) (k8 I),?_⟩;have Gi:=hw.bK (ah:=jv) λi o hi=>lo _ _ (by have:=gb i hi;omega);have Gj:=fH.bK (ah:=jv) λi o hi=>lo _ _ (by have:=tZ i hi;omega);have h1:freeze jv 0 998 bf=some (slA false (some 3) ((a.getD []).map λx=>.ad (bs false (ivT bd ins x)))):=o2 (n:=995) Gj (λh=>vU h) λx=>xW jv 995 _;have h2:freeze jv 0 998 w=some (slA false (some 4) ((s.getD []).map λx=>.ad (cV (ivF bd (kT op aD ins) x)))):=o2 (n:=995) Gi (λh=>fJ h) λx=>Ab jv 995 _;have h3:freeze jv 0 999 (.ad [a3 op,.s aD,bf,w])=some (.ad (cV (.mk op aD (nz ((a.getD []).map (ivT bd ins))) (nz ((s.getD []).map (ivF bd (kT op aD ins))))))):=by
    rw[freeze_succ];show(match mapO (freeze jv 0 998) [a3 op,.s aD,bf,w] with|none=>none|some l=>some (AV.ad l))=_;rw[mapO_cons,mapO_cons,mapO_cons,mapO_cons,h1,h2];show some (AV.ad [a3 op,.s aD,slA false (some 3) ((a.getD []).map λx=>.ad (bs false (ivT bd ins x))),slA false (some 4) ((s.getD []).map λx=>.ad (cV (ivF bd (kT op aD ins) x)))])=some (.ad [a3 op,.s aD,osl false (some 3) ((nz ((a.getD []).map (ivT bd ins))).map λl=>l.map (Tm.A false)),osl false (some 4) ((nz ((s.getD []).map (ivF bd (kT op aD ins)))).map λl=>l.map (Fm.A false))]);rw[Lw,a1a,kz,kz];have aF:(Tm.A false∘ivT bd ins)=λx=>AV.ad (bs false (ivT bd ins x)):=funext λx=>ny false _;have aV:(Fm.A false∘ivF bd (kT op aD ins))=λx=>AV.ad (cV (ivF bd (kT op aD ins) x)):=funext λx=>xX _;rw[aF,aV]
   rw[freeze_succ];show(match mapO (freeze jv 0 999) [.ad [a3 op,.s aD,bf,w],.b true] with|none=>none|some l=>some (AV.a6 l))=_;rw[mapO_cons,h3];rfl
end
def m0(b0:List Nat->Bool)(v:Bool)(n:List Nat):List Nat:=if(v&&b0 n)=true then n.tail else n
mutual
def plT(b0:List Nat->Bool):Tm->Tm
 | .mk v n none=>.mk v (m0 b0 v n) none
 | .mk v n (some l)=>.mk v (m0 b0 v n) (nz (plTs b0 l))
def plTs(b0:List Nat->Bool):List Tm->List Tm
 |[]=>[]
 |t::l=>plT b0 t::plTs b0 l
end
def LC(b0:List Nat->Bool):∀l:List Tm,plTs b0 l=l.map (plT b0)
 |[]=>by rw[plTs];rfl
 |t::l=>by rw[plTs,LC b0 l];rfl
def vV(b0:List Nat->Bool)(v:Bool)(n:List Nat)(a:Option (List Tm)):plT b0 (.mk v n a)= .mk v (m0 b0 v n) (nz ((a.getD []).map (plT b0))):=by
 cases a with
 |none=>rw[plT];rfl
 |some l=>rw[plT,LC];rfl
mutual
def plF(b0:List Nat->Bool):Fm->Fm
 | .mk op n a none=>.mk op n (nz (plTs b0 (a.getD []))) none
 | .mk op n a (some l)=>.mk op n (nz (plTs b0 (a.getD []))) (nz (plFs b0 l))
def plFs(b0:List Nat->Bool):List Fm->List Fm
 |[]=>[]
 |t::l=>plF b0 t::plFs b0 l
end
def a1e(b0:List Nat->Bool):∀l:List Fm,plFs b0 l=l.map (plF b0)
 |[]=>by rw[plFs];rfl
 |t::l=>by rw[plFs,a1e b0 l];rfl
def pW(b0:List Nat->Bool)(op:Nat)(n:List Nat)(a:Option (List Tm))(s:Option (List Fm)):plF b0 (.mk op n a s)= .mk op n (nz ((a.getD []).map (plT b0))) (nz ((s.getD []).map (plF b0))):=by
 cases s with
 |none=>rw[plF,LC];rfl
 |some l=>rw[plF,LC,a1e];rfl
def a1f{J:ag}{n:Nat}{v:Bool}{aD:List Nat}{w:AV}{l:List Tm}{f:Tm->Tm}(h1:freeze J 0 n w=some (slA false (some 3) (l.map λx=>.ad (bs false (f x)))))(hn:0<n):freeze J 0 (n+1) (.ad [.b v,.s aD,w])=some (.ad (bs false (.mk v aD (nz (l.map f))))):=by
 obtain⟨n,rfl⟩:∃m,n=m+1:=⟨n-1,U⟩
 rw[freeze_succ];show(match mapO (freeze J 0 (n+1)) [.b v,.s aD,w] with|none=>none|some l=>some (AV.ad l))=_;rw[mapO_cons,mapO_cons,mapO_cons,h1];show some (AV.ad [.b v,.s aD,slA false (some 3) (l.map λx=>.ad (bs false (f x)))])=some (.ad [.b v,.s aD,osl false (some 3) ((nz (l.map f)).map λl=>l.map (Tm.A false))]);rw[Lw,kz];have e:(Tm.A false∘f)=λx=>AV.ad (bs false (f x)):=funext λx=>ny false _;rw[e]
def LD{J:ag}{n:Nat}{op:Nat}{aD:List Nat}{bf w:AV}{l:List Tm}{s:List Fm}{f:Tm->Tm}{g:Fm->Fm}(h1:freeze J 0 n bf=some (slA false (some 3) (l.map λx=>.ad (bs false (f x)))))(h2:freeze J 0 n w=some (slA false (some 4) (s.map λx=>.ad (cV (g x)))))(hn:0<n):
  freeze J 0 (n+1) (.ad [a3 op,.s aD,bf,w])=some (.ad (cV (.mk op aD (nz (l.map f)) (nz (s.map g))))):=by
 obtain⟨n,rfl⟩:∃m,n=m+1:=⟨n-1,U⟩
 rw[freeze_succ];show(match mapO (freeze J 0 (n+1)) [a3 op,.s aD,bf,w] with|none=>none|some l=>some (AV.ad l))=_;rw[mapO_cons,mapO_cons,mapO_cons,mapO_cons,h1,h2];show some (AV.ad [a3 op,.s aD,slA false (some 3) (l.map λx=>.ad (bs false (f x))),slA false (some 4) (s.map λx=>.ad (cV (g x)))])=some (AV.ad [a3 op,.s aD,osl false (some 3) ((nz (l.map f)).map λl=>l.map (Tm.A false)),osl false (some 4) ((nz (s.map g)).map λl=>l.map (Fm.A false))]);rw[Lw,a1a,kz,kz];have aF:(Tm.A false∘f)=λx=>AV.ad (bs false (f x)):=funext λx=>ny false _;have aV:(Fm.A false∘g)=λx=>AV.ad (cV (g x)):=funext λx=>xX _;rw[aF,aV]
def W.YG{cF:qR}{env:Env}{aJ:Option Nat}{D:List (Nat ⊕ (AV×List AV))}{n:Nat}{F:List (Nat×AV)}{z:Nat->AV}{J:ag}{Q:eR}{d:Nat}{x:aH}{g:Option (Nat×Bool)}{ops:List aX}{c:Nat}{l:List Nat}(an:Nat.blt d n=true)(hw:wtL g n F=true)(h1:dJ env n F z x=some (.s (c::l)))
  (h:cz cF env aJ D n ops (b4 ((d,.s l)::F) z) J Q):cz cF env aJ D n (⟨some d,.rm x (some (.c (.i .i64 1))) none,g,[]⟩::ops) (b4 F z) J Q:=by
 have:=JT (J:=J) (av:=dJ env n F z) (x:=x) (bX:=some (.c (.i .i64 1))) (hi:=none) (s:=c::l) (l:=1) (h:=l.length+1) h1 I I U aT;rw[show((c::l).drop 1).take (l.length+1-1)=l from kS] at this;exact W.val an hw this h
def Sl.eqb{J:ag}{R:Option Nat}{w:AV}{xs:List AV}(h:Sl J R w xs)(n:Nat):AV.eqb (n+1) w w=true:=by
 cases h with
 |nil=>rfl
 |aq o cap xs rest _ _ _=>show(Nat.beq o o&&Nat.beq 0 0&&Nat.beq xs.length xs.length&&decide (R=R)&&decide (cap=cap))=true;simp
section
variable {b:b8}{K:Nat->List AV->AV->Prop}(hfn:∀g aB r bS,K g aB r->K g aB bS->r=bS)
include hfn
theorem b8u(b0:List Nat->Bool)(Ad:∀n,b0 n=true->∃x,n=63::x)(b8v:b.ext nt=0/\b.pure nt=true)(e:b.ext qY=0/\b.pure qY=true)
  (t:Tm) (hlen:t.args.length<2^40) (a1g:t.var=true->K nt [.s t.name] (.b (b0 t.name)))
  (gA:∀u∈t.args,∀ah,bp ah (b.a2+1000) (.ad (bs true u))=some (.ad (bs true u))) (eg:∀u∈t.args,K qY [.ad (bs true u)] (.ad (bs false (plT b0 u)))) (body:bC) (hb:Ke.body=some body):
  aa (b.aQ K) Ke.ntmps body (eh [.ad (bs true t)]) ⟨.nil,0⟩ (n4 Ke.results (.ad (bs false (plT b0 t)))):=by
 cases hb;refine W.n1 λz H=>?_;refine aO ?_;refine W.dK (c:=bs true t) H I I I I I I λca dC H ba=>?_;refine aO ?_;refine W.hI (c:=[.b false,.s [],.aj]) H dC I I I λc_ fY H bj=>?_;obtain⟨v,aD,a⟩:=t;change(a.getD []).length<2^40 at hlen;change ∀u∈a.getD [],∀ah,bp ah (b.a2+1000) (.ad (bs true u))=some (.ad (bs true u)) at gA;change ∀u∈a.getD [],K qY [.ad (bs true u)] (.ad (bs false (plT b0 u))) at eg;change v=true->K nt [.s aD] (.b (b0 aD)) at a1g;rw[vV];refine aO ?_;refine W.jr (c:=[.b v,.s aD,.aj]) H fY I I I I I I λgz hM H de=>?_;refine W.nil ?_;show ch _ _ _ _ _ _ _ _;refine W.bk ?_;refine W.a1c (α:=Unit) (λ_=>[(1,bT 0),(2,bT 1),(3,bT 2)]) (λ_ ah=>Has ah [(2,[.b v,.s (m0 b0 v aD),.aj]),(1,[.b false,.s [],.aj]),(0,bs true (.mk v aD a))]) ?_ λ_ g g7 H=>?_
 ·cases v with
  |false=>
   refine aO ?_;exact⟨rfl,(),H,b9⟩
  |true=>
   refine aO ?_;refine W.gx hfn b8v (a1g I) I I I (fZ I) ?_;cases ay:b0 aD with
   |false=>
    refine aO ?_;refine⟨rfl,(),?_,b9⟩;rw[show m0 b0 true aD=aD from by unfold m0;rw[ay];rfl];exact H
   |true=>
    obtain⟨x,rfl⟩:=Ad aD ay;refine aO ?_;refine W.YG I I I ?_;refine aO ?_;refine W.st (bn:=[.b true,.s x,.aj]) H 0 I I I I I I λg7 oN H e8=>?_;refine aO ?_;refine⟨rfl,(),?_,b9⟩;rw[show m0 b0 true (63::x)=x from by unfold m0;rw[ay];rfl];exact H
 refine aO ?_;refine W.len I I I lr ?_;refine aO ?_;show ch _ _ _ _ _ _ _ _;generalize rW:m0 b0 v aD=va at H ⊢;have b8w:2<g7.next:=H.lt (.head _);refine aa.each (a.getD []).length (λj f a1=>(∃w,a1.get 2=some (.cells [.b v,.s va,w])/\Sl a1 (some 3) w (((a.getD []).take j).map λx=>.ad (bs false (plT b0 x)))/\((a.getD []).take j=[]->w= .aj)/\∀o,w.dU =some o->g7.next<=o)/\(∀i o,i≠2->g7.get i=some o->a1.get i=some o)/\g7.next<=a1.next/\sat [(1,bT 0),(2,bT 1),(3,bT 2),(23,cy true a)] f) U ⟨⟨.aj,H.fK,.nil,λ_=>rfl,λ_ h=>by cases h⟩,λ_ _ _ h=>h,b6 _,b9⟩ I I (λj g a1 aG bz hi hm=>?_) (λg a1 bz hi=>?_)
 ·obtain⟨⟨w,hg,hw,fJ,gb⟩,cH,hn,ak⟩:=bz;refine aa.norm [(1,bT 0),(2,bT 1),(3,bT 2),(23,cy true a),(25,aw j),(24,aw (a.getD []).length)] ⟨ak.1,ak.2.1,ak.2.2.1,ak.2.2.2.1,hi,hm,trivial⟩ λg=>?_;have H:Has a1 [(2,[.b v,.s va,w])]:=Has.nil.cons hg aT;have hu:=c3 (l:=a.getD []) aG;have gP:=eg _ hu;have hY:=gA _ hu;refine aO ?_;refine W.jq I I I I (oR aG) ?_;refine W.gY (R:=some 3) I I I (Tm.conf true _) ?_;rw[ny];generalize g5:a1.next=hq;refine W.jr (c:=bs true (a.getD [])[j]) H g5 I I I I I I λly mO H gH=>?_;refine W.nil ?_;show ch _ _ _ _ _ _ _ _;refine W.zF I ?_;refine aO ?_;refine W.z2 (H.get (2,_) (.tail _ (.head _))) I I I I (hw.eqb _) ?_;refine aO ?_;refine W.gx hfn e gP I I I (fZ (hY _)) ?_;refine W.gU (c:=bs false (plT b0 (a.getD [])[j])) H I I I I λgL pA H jZ=>?_;refine W.now [(5,2,.cells [.b v,.s va,w])] [] I I ⟨H.get (2,_) (.tail _ (.tail _ (.head _))),trivial⟩ ?_;have cq:∀i o,a1.get i=some o->gL.get i=some o:=λi o h=>jZ _ _ (gH _ _ h);have pV:=hw.bK (ah:=gL) λi o _=>cq i o;refine W.ap (.ad (bs false (plT b0 (a.getD [])[j]))) [] pV (by show(match gL.get ly.next with|some (.cells c)=>elems (some 3) 1 (c.drop 0)|_=>none)=_;rw[H.fK];rfl) (λz aZ=>by rw[dx.1 aZ];rfl) (by rw[cb,gM];show(3*(_+1)+2000)*48<=_;omega) I I I I λa_ n8 hZ kf _ nC cN=>?_;have H:Has n8 [(2,[.b v,.s va,w])]:=Has.nil.cons (cN _ _ (λe=>by have:=gb _ e;omega) (cq _ _ hg)) aT;refine aO ?_;refine W.st (bn:=[.b v,.s va,a_]) H 0 I I I I hZ.n3 (by rw[hZ.tO];rfl) λvT nf H ga=>?_;refine aO ?_;refine⟨rfl,rfl,⟨a_,H.fK,?_,λh=>?_,λo ho=>by rw[kf] at ho;cases ho;omega⟩,λi o hi ho=>ga _ _ hi (cN _ _ (λe=>by have:=gb _ e;have:=ag.cJ ho;omega) (cq _ _ (cH _ _ hi ho))),U,b9⟩
  ·rw[lv aG,ie];exact hZ.bK λi o hi=>ga _ _ (λe=>by rw[kf] at hi;cases hi;omega)
  ·have:=congrArg List.length h;rw[gM,nn] at this;omega
 ·obtain⟨⟨w,hg,hw,fJ,gb⟩,cH,hn,ak⟩:=bz;refine aa.norm [(2,bT 1),(3,bT 2)] ⟨ak.2.1,ak.2.2.1,trivial⟩ λg=>?_;have H:Has a1 [(2,[.b v,.s va,w]),(1,[.b false,.s [],.aj])]:=(Has.nil.cons (cH 1 _ U (H.n0)) aT).cons hg aT;rw[kS] at hw fJ;refine aO ?_;refine W.st (bn:=[.b v,.s va,w]) H 1 I I I I I I λgL pA H jZ=>?_;refine aO ?_;refine aa.ret ?_;refine⟨rfl,_,mW (q2 I (H.n0) I),?_⟩;have pV:=hw.bK (ah:=gL) λi o hi=>jZ _ _ (by have:=gb i hi;omega);exact a1f (n:=999) (o2 (n:=996) pV (λh=>fJ h) λx=>xW gL 996 _) U
end
section
variable {b:b8}{K:Nat->List AV->AV->Prop}(hfn:∀g aB r bS,K g aB r->K g aB bS->r=bS)
include hfn
theorem b8x(b0:List Nat->Bool)(q6:b.ext qY=0/\b.pure qY=true)(e:b.ext sn=0/\b.pure sn=true)
  (G:Fm) (gW:G.args.length<2^40) (gi:G.sub.length<2^40)
  (sB:∀u∈G.args,∀ah,bp ah (b.a2+1000) (.ad (bs true u))=some (.ad (bs true u))) (nD:∀u∈G.args,K qY [.ad (bs true u)] (.ad (bs false (plT b0 u))))
  (gA:∀u∈G.sub,∀ah,bp ah (b.a2+1000) (.ad (bm u))=some (.ad (bm u))) (eg:∀u∈G.sub,K sn [.ad (bm u)] (.ad (cV (plF b0 u)))) (body:bC) (hb:Kd.body=some body):
  aa (b.aQ K) Kd.ntmps body (eh [.ad (bm G)]) ⟨.nil,0⟩ (n4 Kd.results (.ad (cV (plF b0 G)))):=by
 cases hb;refine W.n1 λz H=>?_;refine aO ?_;refine W.dK (c:=bm G) H I I I I I I λca dC H ba=>?_;refine aO ?_;refine W.hI (c:=[.i .u8 0,.s [],.aj,.aj]) H dC I I I λc_ fY H bj=>?_;obtain⟨op,aD,a,s⟩:=G;change(a.getD []).length<2^40 at gW;change(s.getD []).length<2^40 at gi;change ∀u∈a.getD [],∀ah,bp ah (b.a2+1000) (.ad (bs true u))=some (.ad (bs true u)) at sB;change ∀u∈a.getD [],K qY [.ad (bs true u)] (.ad (bs false (plT b0 u))) at nD;change ∀u∈s.getD [],∀ah,bp ah (b.a2+1000) (.ad (bm u))=some (.ad (bm u)) at gA;change ∀u∈s.getD [],K sn [.ad (bm u)] (.ad (cV (plF b0 u))) at eg;rw[pW];refine aO ?_;refine W.jr (c:=[a3 op,.s aD,.aj,.aj]) H fY I I I I I I λgz hM H de=>?_;have vW:2<gz.next:=H.lt (.head _);refine aO ?_;refine W.len I I I lr ?_;refine aO ?_;show ch _ _ _ _ _ _ _ _;refine aa.each (a.getD []).length (λj f a1=>(∃w,a1.get 2=some (.cells [a3 op,.s aD,w,.aj])/\Sl a1 (some 3) w (((a.getD []).take j).map λx=>.ad (bs false (plT b0 x)))/\((a.getD []).take j=[]->w= .aj)/\∀o,w.dU =some o->gz.next<=o)/\(∀i o,i≠2->gz.get i=some o->a1.get i=some o)/\gz.next<=a1.next/\sat [(1,bT 0),(2,bT 1),(3,bT 2),(14,cy true a)] f) U ⟨⟨.aj,H.fK,.nil,λ_=>rfl,λ_ h=>by cases h⟩,λ_ _ _ h=>h,b6 _,b9⟩ I I (λj g a1 aG bz hi hm=>?_) (λg a1 bz hi=>?_)
 ·obtain⟨⟨w,hg,hw,fJ,gb⟩,cH,hn,ak⟩:=bz;refine aa.norm [(1,bT 0),(2,bT 1),(3,bT 2),(14,cy true a),(16,aw j),(15,aw (a.getD []).length)] ⟨ak.1,ak.2.1,ak.2.2.1,ak.2.2.2.1,hi,hm,trivial⟩ λg=>?_;have H:Has a1 [(2,[a3 op,.s aD,w,.aj])]:=Has.nil.cons hg aT;have hu:=c3 (l:=a.getD []) aG;have gP:=nD _ hu;have hY:=sB _ hu;refine aO ?_;refine W.jq I I I I (oR aG) ?_;refine W.gY (R:=some 3) I I I (Tm.conf true _) ?_;rw[ny];generalize g5:a1.next=hq;refine W.jr (c:=bs true (a.getD [])[j]) H g5 I I I I I I λly mO H gH=>?_;refine W.nil ?_;show ch _ _ _ _ _ _ _ _;refine W.zF I ?_;refine aO ?_;refine W.z2 (H.get (2,_) (.tail _ (.head _))) I I I I (hw.eqb _) ?_;refine aO ?_;refine W.gx hfn q6 gP I I I (fZ (hY _)) ?_;refine W.gU (c:=bs false (plT b0 (a.getD [])[j])) H I I I I λgL pA H jZ=>?_;refine W.now [(5,2,.cells [a3 op,.s aD,w,.aj])] [] I I ⟨H.get (2,_) (.tail _ (.tail _ (.head _))),trivial⟩ ?_;have cq:∀i o,a1.get i=some o->gL.get i=some o:=λi o h=>jZ _ _ (gH _ _ h);have pV:=hw.bK (ah:=gL) λi o _=>cq i o;refine W.ap (.ad (bs false (plT b0 (a.getD [])[j]))) [] pV (by show(match gL.get ly.next with|some (.cells c)=>elems (some 3) 1 (c.drop 0)|_=>none)=_;rw[H.fK];rfl) (λz aZ=>by rw[dx.1 aZ];rfl) (by rw[cb,gM];show(3*(_+1)+2000)*48<=_;omega) I I I I λa_ n8 hZ kf _ nC cN=>?_;have H:Has n8 [(2,[a3 op,.s aD,w,.aj])]:=Has.nil.cons (cN _ _ (λe=>by have:=gb _ e;omega) (cq _ _ hg)) aT;refine aO ?_;refine W.st (bn:=[a3 op,.s aD,a_,.aj]) H 0 I I I I hZ.n3 (by rw[hZ.tO];rfl) λvT nf H ga=>?_;refine aO ?_;refine⟨rfl,rfl,⟨a_,H.fK,?_,λh=>?_,λo ho=>by rw[kf] at ho;cases ho;omega⟩,λi o hi ho=>ga _ _ hi (cN _ _ (λe=>by have:=gb _ e;have:=ag.cJ ho;omega) (cq _ _ (cH _ _ hi ho))),U,b9⟩
  ·rw[lv aG,ie];exact hZ.bK λi o hi=>ga _ _ (λe=>by rw[kf] at hi;cases hi;omega)
  ·have:=congrArg List.length h;rw[gM,nn] at this;omega
 ·obtain⟨⟨bf,nj,fH,vU,tZ⟩,cH,hn,ak⟩:=bz;refine aa.norm [(1,bT 0),(2,bT 1),(3,bT 2)] ⟨ak.1,ak.2.1,ak.2.2.1,trivial⟩ λg=>?_;have H:Has a1 [(2,[a3 op,.s aD,bf,.aj]),(1,[.i .u8 0,.s [],.aj,.aj]),(0,bm (.mk op aD a s))]:=((Has.nil.cons (cH 0 _ U (H.B7)) aT).cons (cH 1 _ U (H.n0)) aT).cons nj aT;rw[kS] at fH vU;have b8t:2<a1.next:=H.lt (.head _);refine aO ?_;refine W.len I I I qN ?_;refine aO ?_;show ch _ _ _ _ _ _ _ _;obtain⟨mZ,gG⟩:∃x,x=a1:=⟨_,rfl⟩
  subst gG;refine aa.each (s.getD []).length (λj f a1=>(∃w,a1.get 2=some (.cells [a3 op,.s aD,bf,w])/\Sl a1 (some 4) w (((s.getD []).take j).map λx=>.ad (cV (plF b0 x)))/\((s.getD []).take j=[]->w= .aj)/\∀o,w.dU =some o->mZ.next<=o)/\(∀i o,i≠2->mZ.get i=some o->a1.get i=some o)/\mZ.next<=a1.next/\sat [(2,bT 1),(3,bT 2),(29,fa true s)] f) U ⟨⟨.aj,H.fK,.nil,λ_=>rfl,λ_ h=>by cases h⟩,λ_ _ _ h=>h,b6 _,b9⟩ I I (λj g a1 aG bz hi hm=>?_) (λg a1 bz hi=>?_)
  ·obtain⟨⟨w,hg,hw,fJ,gb⟩,cH,hn,ak⟩:=bz;refine aa.norm [(2,bT 1),(3,bT 2),(29,fa true s),(31,aw j),(30,aw (s.getD []).length)] ⟨ak.1,ak.2.1,ak.2.2.1,hi,hm,trivial⟩ λg=>?_;have H:Has a1 [(2,[a3 op,.s aD,bf,w])]:=Has.nil.cons hg aT;have hu:=c3 (l:=s.getD []) aG;have gP:=eg _ hu;have hY:=gA _ hu;refine aO ?_;refine W.jq I I I I (tB aG) ?_;refine W.gY (R:=some 4) I I I (Fm.conf true _) ?_;rw[mf];generalize g5:a1.next=hq;refine W.jr (c:=bm (s.getD [])[j]) H g5 I I I I I I λjv tl H lo=>?_;refine W.nil ?_;show ch _ _ _ _ _ _ _ _;refine W.zF I ?_;refine aO ?_;refine W.z2 (H.get (2,_) (.tail _ (.head _))) I I I I (hw.eqb _) ?_;refine aO ?_;refine W.gx hfn e gP I I I (fZ (hY _)) ?_;refine W.gU (c:=cV (plF b0 (s.getD [])[j])) H I I I I λq7 BC H Ac=>?_;refine W.now [(5,2,.cells [a3 op,.s aD,bf,w])] [] I I ⟨H.get (2,_) (.tail _ (.tail _ (.head _))),trivial⟩ ?_;have cq:∀i o,a1.get i=some o->q7.get i=some o:=λi o h=>Ac _ _ (lo _ _ h);have Gh:=hw.bK (ah:=q7) λi o _=>cq i o;refine W.ap (.ad (cV (plF b0 (s.getD [])[j]))) [] Gh (by show(match q7.get jv.next with|some (.cells c)=>elems (some 4) 1 (c.drop 0)|_=>none)=_;rw[H.fK];rfl) (λz aZ=>by rw[dx.1 aZ];rfl) (by rw[cb,gM];show(3*(_+1)+2000)*72<=_;omega) I I I I λa_ n8 hZ kf _ nC cN=>?_;have H:Has n8 [(2,[a3 op,.s aD,bf,w])]:=Has.nil.cons (cN _ _ (λe=>by have:=gb _ e;omega) (cq _ _ hg)) aT;refine aO ?_;refine W.st (bn:=[a3 op,.s aD,bf,a_]) H 0 I I I I hZ.n3 (by rw[hZ.tO];rfl) λvT nf H ga=>?_;refine aO ?_;refine⟨rfl,rfl,⟨a_,H.fK,?_,λh=>?_,λo ho=>by rw[kf] at ho;cases ho;omega⟩,λi o hi ho=>ga _ _ hi (cN _ _ (λe=>by have:=gb _ e;have:=ag.cJ ho;omega) (cq _ _ (cH _ _ hi ho))),U,b9⟩
   ·rw[lv aG,ie];exact hZ.bK λi o hi=>ga _ _ (λe=>by rw[kf] at hi;cases hi;omega)
   ·have:=congrArg List.length h;rw[gM,nn] at this;omega
  ·obtain⟨⟨w,hg,hw,fJ,gb⟩,cH,hn,ak⟩:=bz;refine aa.norm [(2,bT 1),(3,bT 2)] ⟨ak.1,ak.2.1,trivial⟩ λg=>?_;have H:Has a1 [(2,[a3 op,.s aD,bf,w]),(1,[.i .u8 0,.s [],.aj,.aj])]:=(Has.nil.cons (cH 1 _ U (H.n0)) aT).cons hg aT;have fH:=fH.bK (ah:=a1) λi o hi ho=>cH i o (by have:=tZ _ hi;omega) ho;rw[kS] at hw fJ;refine aO ?_;refine W.st (bn:=[a3 op,.s aD,bf,w]) H 1 I I I I I I λjv tl H lo=>?_;refine aO ?_;refine aa.ret ?_;refine⟨rfl,_,mW (q2 I (H.n0) I),?_⟩;have Gi:=hw.bK (ah:=jv) λi o hi=>lo _ _ (by have:=gb i hi;omega);have Gj:=fH.bK (ah:=jv) λi o hi=>lo _ _ (by have:=tZ i hi;omega);exact LD (n:=999) (o2 (n:=996) Gj (λh=>vU h) λx=>xW jv 996 _) (o2 (n:=996) Gi (λh=>fJ h) λx=>Ab jv 996 _) U
end
def a1h{R:Option Nat}:∀ {xs:List AV},(∀y∈xs,conf R y=true)->(xs.flatMap AV.cells).length=xs.length*shN R
 |[],_=>by simp
 |x::xs,h=>by
  rw[j4,h5,a1h λy aI=>h y (fP _ aI),rE (h x aT),gS,FV,uR]
def W.a1i{cF:qR}{env:Env}{aJ:Option Nat}{D:List (Nat ⊕ (AV×List AV))}{n:Nat}{F:List (Nat×AV)}{z:Nat->AV}{J:ag}{Q:eR}{d:Nat}{R:Option Nat}{bytes k N j:Nat}{s x:aH}{g:Option (Nat×Bool)}{ops:List aX}{w y:AV}{xs rest:List AV}(aG:xs.length=j)(aC:J.get k=some (.cells (xs.flatMap AV.cells++rest)))(hx:newOf J w=some [y])(ae:∀z∈xs,Go.Lyc.conf R z=true)(aI:Go.Lyc.conf R y=true)(hs:j+1<=N)(al:shN R<=rest.length)(hb:(3*(j+1)+2000)*bytes<=281474976710656)(an:Nat.blt d n=true)(hw:wtL g n F=true)(h1:dJ env n F z s=some (.aq k 0 j R (some N)))(h2:dJ env n F z x=some w)
  (h:∀ah:ag,ah.next=J.next->ah.get k=some (.cells ((xs++[y]).flatMap AV.cells++rest.drop (shN R)))->(∀i o,i≠k->J.get i=some o->ah.get i=some o)->cz cF env aJ D n ops (b4 ((d,.aq k 0 (j+1) R (some N))::F) z) ah Q):cz cF env aJ D n (⟨some d,.append R bytes s x,g,[]⟩::ops) (b4 F z) J Q:=by
 subst aG;have Ox:readList J (.aq k 0 xs.length R (some N))=some xs:=by
  show(match J.get k with|some (.cells c)=>elems R xs.length (c.drop 0)|_=>none)=_;rw[aC];exact tz ae
 have b8y:=rE aI;have dP:=a1h ae;have cR:storeCells (xs.flatMap AV.cells++rest) (0+xs.length*shN R) ([y].flatMap AV.cells)=some ((xs++[y]).flatMap AV.cells++rest.drop (shN R)):=by
  unfold storeCells;have aF:[y].flatMap AV.cells=y.cells:=by simp
  rw[aF,lQ,if_pos (hO (by rw[h5];omega)),← dP,List.take_left,b8y,← ov,FU,xJ,aF,jD]
 refine W.val (v:=.aq k 0 (xs.length+1) R (some N)) (af:=J.set k (.cells ((xs++[y]).flatMap AV.cells++rest.drop (shN R)))) an hw ?_ (h _ I (hX aC).1 (hX aC).2);show(match dJ env n F z s,dJ env n F z x with|some s,some x=>(match appendO 0 J R bytes s x with|some (v,J)=>some (bH.val v J)|none=>none)|_,_=>none)=_;rw[h1,h2];have e:appendO 0 J R bytes (.aq k 0 xs.length R (some N)) w=some (.aq k 0 (xs.length+1) R (some N),J.set k (.cells ((xs++[y]).flatMap AV.cells++rest.drop (shN R)))):=by
  unfold appendO;rw[Ox,hx];have rG:Nat.ble ((3*(xs.length+[y].length)+2000)*bytes) 281474976710656=true:=hO hb;have bY:(cB (Go.Lyc.conf R) xs&&cB (Go.Lyc.conf R) [y]&&Nat.ble ((3*(xs.length+[y].length)+2000)*bytes) 281474976710656)=true:=by
   rw[iI ae,iI (l:=[y]) (λz aZ=>by rw[dx.1 aZ];exact aI),rG];rfl
  show cond _ _ none=_;rw[bY,cond_true];show(if R=R then cond (Nat.ble (xs.length+1) N) (if Nat.blt k 0 then none else match J.get k with|some (.cells m8)=>(match storeCells m8 (0+xs.length*shN R) ([y].flatMap AV.cells) with|some hE=>some (AV.aq k 0 (xs.length+1) R (some N),J.set k (.cells hE))|none=>none)|_=>none) _ else none)=_;rw[if_pos I,hO hs,cond_true,if_neg (by simp[Nat.blt,Nat.ble]),aC];simp only[cR]
 show(match appendO 0 J R bytes (.aq k 0 xs.length R (some N)) w with|some (v,J)=>some (bH.val v J)|none=>none)=_;rw[e]
def RL{z:List AV}:∀m,(fw m z).length=m*z.length
 |0=>by rw[EH];rfl
 |m+1=>by show(z++fw m z).length=_;rw[h5,RL m,FV,uR]
def W.a1j{cF:qR}{env:Env}{aJ:Option Nat}{D:List (Nat ⊕ (AV×List AV))}{n:Nat}{F:List (Nat×AV)}{z:Nat->AV}{J:ag}{Q:eR}{L:List (Nat×List AV)}(H:Has J L){d:Nat}{R:Option Nat}{jc:List AV}{x y:aH}{g:Option (Nat×Bool)}{ops:List aX}{m k bytes:Nat}(hn:J.next=k)(aZ:Nat.beq jc.length (shN R)=true)(hb:bytes*m<=281474976710656)(hm:m<=281474976710656)(an:Nat.blt d n=true)(hw:wtL g n F=true)(h1:dJ env n F z x=some (aw 0))(h2:dJ env n F z y=some (aw m))
  (h:∀ah:ag,ah.next=k+1->Has ah ((k,fw m jc)::L)->(∀i o,J.get i=some o->ah.get i=some o)->cz cF env aJ D n ops (b4 ((d,.aq k 0 0 R (some m))::F) z) ah Q):cz cF env aJ D n (⟨some d,.mkSlice R bytes jc x y,g,[]⟩::ops) (b4 F z) J Q:=by
 subst hn;have cH:∀i o,J.get i=some o->(J.push (.cells (fw m jc))).get i=some o:=λi o ho=>by rw[ag.fy trivial _ (ag.cJ ho)];exact ho
 refine W.val (v:=.aq J.next 0 0 R (some m)) (af:=J.push (.cells (fw m jc))) an hw ?_ (h (J.push (.cells (fw m jc))) I (H.push I (ag.ij _) cH) cH);show(match dJ env n F z x,dJ env n F z y with
  |some (.i _ (.ofNat n)),some (.i _ (.ofNat m))=>
   cond (Nat.beq jc.length (shN R)&&(Nat.ble n m&&(Nat.ble (bytes*m) 281474976710656&&Nat.ble m 281474976710656)))
    (some (bH.val (.aq J.next 0 n R (some m)) (J.push (.cells (fw m jc))))) none
  |some .aj,some (.i _ (.ofNat m))=>
   cond (Nat.beq jc.length (Nat.succ (shN R))&&(Nat.blt 0 m&&Nat.ble ((3*m+2000)*bytes) 281474976710656))
    (some (bH.val (.aq J.next 0 m R none) (J.push (.cells (fw m jc.tail))))) none
  |_,_=>none)=_
 rw[h1,h2];show cond _ _ none=_;rw[aZ,hO (kA m),hO hb,hO hm];rfl
def a1k{J:ag}{id:Nat}{R cap:Option Nat}{y:AV}(hg:J.get id=some (.cells y.cells))(ae:conf R y=true):newOf J (.aq id 0 1 R cap)=some [y]:=by
 show readList J (.aq id 0 1 R cap)=_;show(match J.get id with|some (.cells c)=>elems R 1 (c.drop 0)|_=>none)=_;rw[hg];have:=tz (R:=R) (xs:=[y]) (r:=[]) (by intro w hw;rw[dx.1 hw];exact ae);simpa using this
def Gk{av:aH->Option AV}{cL:Nat->Nat->Nat}{aE:List (Nat×Nat×aH)}{i n:Nat}{o:aH}{v:AV}{z c r:List AV}(h:av o=some v)(ao:(Nat.beq v.cells.length n&&v.val)=true)(ak:storeCells z (cL i n) v.cells=some c)(al:hQ av cL aE c=some r):hQ av cL ((i,n,o)::aE) z=some r:=by
 show(match av o with|none=>none|some v=>cond (Nat.beq v.cells.length n&&v.val) (match storeCells z (cL i n) v.cells with|none=>none|some c=>hQ av cL aE c) none)=_;rw[h];show cond (Nat.beq v.cells.length n&&v.val) (match storeCells z (cL i n) v.cells with|none=>none|some c=>hQ av cL aE c) none=_;rw[ao,cond_true,ak];exact al
def RM{av:aH->Option AV}{cL:Nat->Nat->Nat}{aE:List (Nat×Nat×aH)}{i:Nat}{o:aH}{w:AV}{z c r:List AV}{J:ag}{R:Option Nat}{xs:List AV}(hw:Sl J R w xs)(h:av o=some w)(ak:storeCells z (cL i 1) [w]=some c)(al:hQ av cL aE c=some r):hQ av cL ((i,1,o)::aE) z=some r:=
 Gk h (by rw[hw.tO,hw.b6P];rfl) (by rw[hw.tO];exact ak) al
def W.a1l{cF:qR}{env:Env}{aJ:Option Nat}{D:List (Nat ⊕ (AV×List AV))}{n:Nat}{F:List (Nat×AV)}{z:Nat->AV}{J:ag}{Q:eR}{d:Nat}{IZ c:List AV}{aE:List (Nat×Nat×aH)}{g:Option (Nat×Bool)}{ops:List aX}(an:Nat.blt d n=true)(hw:wtL g n F=true)(ao:hQ (dJ env n F z) (λoff _=>off) aE IZ=some c)(h:cz cF env aJ D n ops (b4 ((d,.ad c)::F) z) J Q):cz cF env aJ D n (⟨some d,.build IZ aE,g,[]⟩::ops) (b4 F z) J Q:=
 W.val an hw (by show(match hQ (dJ env n F z) (λoff _=>off) aE IZ with|some c=>some (bH.val (.ad c) J)|none=>none)=_;rw[ao]) h
abbrev lz:Tm->Tm:=plT λ_=>false
abbrev kg:Fm->Fm:=plF λ_=>false
def b8z(v:Bool)(n:List Nat):m0 (λ_=>false) v n=n:=by unfold m0;cases v<;>rfl
section
variable {b:b8}{K:Nat->List AV->AV->Prop}(hfn:∀g aB r bS,K g aB r->K g aB bS->r=bS)
include hfn
theorem a1m(hh:bc (b.aQ K) FM Ks)(e:b.ext l_=0/\b.pure l_=true){a:Option (List Tm)}(hlen:(a.getD []).length<2^20)(gA:∀t∈a.getD [],∀ah,bp ah (b.a2+1000) (.ad (bs true t))=some (.ad (bs true t)))(eg:∀t∈a.getD [],K l_ [.ad (bs true t)] (.ad (bs false (lz t))))(J:ag):
  bw (b.aQ K) 0 (.f (.func FM) [] []) [cy true a,.f (.func l_) [] []] J (λr ah=>∃w,r= .ok w/\Sl ah (some 3) w ((a.getD []).map λt=>.ad (bs false (lz t)))/\(a.getD []=[]->w= .aj)/\(∀o,w.dU =some o->J.next<=o)/\J.next<=ah.next/\∀i o,J.get i=some o->ah.get i=some o):=by
 refine W.code hh.e hh.p hh.f I I I I λz=>?_;have H:Has J []:=Has.nil;refine aO ?_;refine W.len I I I lr ?_;by_cases h0:(a.getD []).length=0
 ·have xp:a.getD []=[]:=CC.1 h0;refine aO ?_;exact aa.ret ⟨rfl,.aj,rfl,by rw[xp];exact .nil,λ_=>rfl,(λ_ h=>by cases h),b6 _,λ_ _ h=>h⟩
 refine aO ?_;refine W.len I I I lr ?_;generalize hs:(a.getD []).length=N at hlen h0;generalize aP:J.next=q;refine W.a1j H aP I U U I I I I λc2 dQ H bM=>?_;refine aO ?_;refine W.len I I I lr ?_;rw[hs];refine aO ?_;show ch _ _ _ _ _ _ _ _;refine aa.each N (λj f ah=>ah.get q=some (.cells ((((a.getD []).take j).map λt=>AV.ad (bs false (lz t))).flatMap AV.cells++fw (N-j) [.b false,.s [],.aj]))/\q+1<=ah.next/\(∀i o,J.get i=some o->ah.get i=some o)/\sat [(5,.aq q 0 j (some 3) (some N)),(14,cy true a),(1,.f (.func l_) [] [])] f) U ⟨H.fK,U,bM,b9⟩ I I (λj g ah aG bz hi hm=>?_) (λg ah bz hi=>?_)
 ·obtain⟨hg,rW,cH,xo⟩:=bz;refine aa.norm ((16,aw j)::(15,aw N)::[(5,.aq q 0 j (some 3) (some N)),(14,cy true a),(1,.f (.func l_) [] [])]) ⟨hi,hm,xo⟩ λg=>?_;have Ae:j<(a.getD []).length:=by omega
  have rM:=c3 Ae;have mh:=lv Ae;have gP:=eg _ rM;have hY:=gA _ rM;have oQ:(((a.getD []).take j).map λt=>AV.ad (bs false (lz t))).length=j:=by rw[cb,gM];omega
  have dX:∀y∈((a.getD []).take j).map λt=>AV.ad (bs false (lz t)),Go.Lyc.conf (some 3) y=true:=λy aI=>by obtain⟨t,_,rfl⟩:=di.1 aI;rfl
  rw[mh,ie];generalize(((a.getD []).take j).map λt=>AV.ad (bs false (lz t)))=xs at hg oQ dX ⊢;have H:Has ah [(q,xs.flatMap AV.cells++fw (N-j) [.b false,.s [],.aj])]:=Has.nil.cons hg aT;refine aO ?_;refine W.jq I I I I (oR Ae) ?_;refine W.gY (R:=some 3) I I I (Tm.conf true _) ?_;rw[ny];generalize(a.getD [])[j]=t at rM mh gP hY ⊢;generalize aC:ah.next=k;refine W.jr (c:=bs true t) H aC I I I I I I λca dC H ba=>?_;refine aO ?_;refine W.gx hfn e gP I I I (fZ (hY _)) ?_;refine W.gU (c:=bs false (lz t)) H dC I I I λgz hM H de=>?_;refine aO ?_;refine W.a1i (xs:=xs) (y:=.ad (bs false (lz t))) (N:=N) (rest:=fw (N-j) [.b false,.s [],.aj]) oQ (H.get (q,_) (.tail _ (.tail _ (.head _)))) (a1k (H.fK) I) dX I U (by rw[RL,show N-j=(N-(j+1))+1 from by omega,FV];exact BS _ _) U I I I I λg7 oN RN e8=>?_;refine aO ?_;refine⟨rfl,rfl,?_,U,λi o ho=>e8 _ _ (by have:=ag.cJ ho;omega) (de _ _ (ba _ _ (cH _ _ ho))),b9⟩;rw[RN,show N-j=(N-(j+1))+1 from by omega];rfl
 ·obtain⟨hg,rW,cH,kK,_⟩:=bz;refine aa.norm [(5,.aq q 0 N (some 3) (some N))] ⟨kK,trivial⟩ λg=>?_;have H:Has ah []:=Has.nil;refine aO ?_;have oQ:((a.getD []).map λt=>AV.ad (bs false (lz t))).length=N:=by rw[cb];exact hs
  refine aa.ret ⟨rfl,.aq q 0 N (some 3) (some N),rfl,?_,λe=>absurd (by rw[<-hs,e];rfl) h0,λo ho=>by cases ho;omega,U,cH⟩;rw[<-hs,kS,wN] at hg;have:=Sl.aq (J:=ah) (R:=some 3) q (some N) ((a.getD []).map λt=>AV.ad (bs false (lz t))) [] hg (λy aI=>by obtain⟨t,_,rfl⟩:=di.1 aI;rfl) (.inr (by rw[oQ]));rwa[oQ] at this
theorem b8A(hh:bc (b.aQ K) KM Qv)(e:b.ext lu=0/\b.pure lu=true){a:Option (List Fm)}(hlen:(a.getD []).length<2^20)(gA:∀t∈a.getD [],∀ah,bp ah (b.a2+1000) (.ad (bm t))=some (.ad (bm t)))(eg:∀t∈a.getD [],K lu [.ad (bm t)] (.ad (cV (kg t))))(J:ag):
  bw (b.aQ K) 0 (.f (.func KM) [] []) [fa true a,.f (.func lu) [] []] J (λr ah=>∃w,r= .ok w/\Sl ah (some 4) w ((a.getD []).map λt=>.ad (cV (kg t)))/\(a.getD []=[]->w= .aj)/\(∀o,w.dU =some o->J.next<=o)/\J.next<=ah.next/\∀i o,J.get i=some o->ah.get i=some o):=by
 refine W.code hh.e hh.p hh.f I I I I λz=>?_;have H:Has J []:=Has.nil;refine aO ?_;refine W.len I I I qN ?_;by_cases h0:(a.getD []).length=0
 ·have xp:a.getD []=[]:=CC.1 h0;refine aO ?_;exact aa.ret ⟨rfl,.aj,rfl,by rw[xp];exact .nil,λ_=>rfl,(λ_ h=>by cases h),b6 _,λ_ _ h=>h⟩
 refine aO ?_;refine W.len I I I qN ?_;generalize hs:(a.getD []).length=N at hlen h0;generalize aP:J.next=q;refine W.a1j H aP I U U I I I I λc2 dQ H bM=>?_;refine aO ?_;refine W.len I I I qN ?_;rw[hs];refine aO ?_;show ch _ _ _ _ _ _ _ _;refine aa.each N (λj f ah=>ah.get q=some (.cells ((((a.getD []).take j).map λt=>AV.ad (cV (kg t))).flatMap AV.cells++fw (N-j) [.i .u8 0,.s [],.aj,.aj]))/\q+1<=ah.next/\(∀i o,J.get i=some o->ah.get i=some o)/\sat [(5,.aq q 0 j (some 4) (some N)),(14,fa true a),(1,.f (.func lu) [] [])] f) U ⟨H.fK,U,bM,b9⟩ I I (λj g ah aG bz hi hm=>?_) (λg ah bz hi=>?_)
 ·obtain⟨hg,rW,cH,xo⟩:=bz;refine aa.norm ((16,aw j)::(15,aw N)::[(5,.aq q 0 j (some 4) (some N)),(14,fa true a),(1,.f (.func lu) [] [])]) ⟨hi,hm,xo⟩ λg=>?_;have Ae:j<(a.getD []).length:=by omega
  have rM:=c3 Ae;have mh:=lv Ae;have gP:=eg _ rM;have hY:=gA _ rM;have oQ:(((a.getD []).take j).map λt=>AV.ad (cV (kg t))).length=j:=by rw[cb,gM];omega
  have dX:∀y∈((a.getD []).take j).map λt=>AV.ad (cV (kg t)),Go.Lyc.conf (some 4) y=true:=λy aI=>by obtain⟨t,_,rfl⟩:=di.1 aI;rfl
  rw[mh,ie];generalize(((a.getD []).take j).map λt=>AV.ad (cV (kg t)))=xs at hg oQ dX ⊢;have H:Has ah [(q,xs.flatMap AV.cells++fw (N-j) [.i .u8 0,.s [],.aj,.aj])]:=Has.nil.cons hg aT;refine aO ?_;refine W.jq I I I I (tB Ae) ?_;refine W.gY (R:=some 4) I I I (Fm.conf true _) ?_;rw[mf];generalize(a.getD [])[j]=t at rM mh gP hY ⊢;generalize aC:ah.next=k;refine W.jr (c:=bm t) H aC I I I I I I λca dC H ba=>?_;refine aO ?_;refine W.gx hfn e gP I I I (fZ (hY _)) ?_;refine W.gU (c:=cV (kg t)) H dC I I I λgz hM H de=>?_;refine aO ?_;refine W.a1i (xs:=xs) (y:=.ad (cV (kg t))) (N:=N) (rest:=fw (N-j) [.i .u8 0,.s [],.aj,.aj]) oQ (H.get (q,_) (.tail _ (.tail _ (.head _)))) (a1k (H.fK) I) dX I U (by rw[RL,show N-j=(N-(j+1))+1 from by omega,FV];exact BS _ _) U I I I I λg7 oN RN e8=>?_;refine aO ?_;refine⟨rfl,rfl,?_,U,λi o ho=>e8 _ _ (by have:=ag.cJ ho;omega) (de _ _ (ba _ _ (cH _ _ ho))),b9⟩;rw[RN,show N-j=(N-(j+1))+1 from by omega];rfl
 ·obtain⟨hg,rW,cH,kK,_⟩:=bz;refine aa.norm [(5,.aq q 0 N (some 4) (some N))] ⟨kK,trivial⟩ λg=>?_;have H:Has ah []:=Has.nil;refine aO ?_;have oQ:((a.getD []).map λt=>AV.ad (cV (kg t))).length=N:=by rw[cb];exact hs
  refine aa.ret ⟨rfl,.aq q 0 N (some 4) (some N),rfl,?_,λe=>absurd (by rw[<-hs,e];rfl) h0,λo ho=>by cases ho;omega,U,cH⟩;rw[<-hs,kS,wN] at hg;have:=Sl.aq (J:=ah) (R:=some 4) q (some N) ((a.getD []).map λt=>AV.ad (cV (kg t))) [] hg (λy aI=>by obtain⟨t,_,rfl⟩:=di.1 aI;rfl) (.inr (by rw[oQ]));rwa[oQ] at this
end
section
variable {b:b8}{K:Nat->List AV->AV->Prop}(hfn:∀g aB r bS,K g aB r->K g aB bS->r=bS)
include hfn
theorem b8B(hh:bc (b.aQ K) FM Ks)(e:b.ext l_=0/\b.pure l_=true)(t:Tm)(hlen:t.args.length<2^20)(gA:∀u∈t.args,∀ah,bp ah (b.a2+1000) (.ad (bs true u))=some (.ad (bs true u)))(eg:∀u∈t.args,K l_ [.ad (bs true u)] (.ad (bs false (lz u))))(body:bC)(hb:Kt.body=some body):
  aa (b.aQ K) Kt.ntmps body (eh [.ad (bs true t)]) ⟨.nil,0⟩ (n4 Kt.results (.ad (bs false (lz t)))):=by
 cases hb;refine W.n1 λz H=>?_;obtain⟨v,aD,a⟩:=t;change(a.getD []).length<2^20 at hlen;change ∀u∈a.getD [],∀ah,bp ah (b.a2+1000) (.ad (bs true u))=some (.ad (bs true u)) at gA;change ∀u∈a.getD [],K l_ [.ad (bs true u)] (.ad (bs false (lz u))) at eg;refine aO ?_;refine W.dK (c:=[.b v,.s aD,cy true a]) H I I I I I I λc2 dQ H bM=>?_;refine aO ?_;refine W.hI (c:=[.b false,.s [],.aj]) H dQ I I I λca dC H ba=>?_;refine aO ?_;refine W.js I I I (a1m hfn hh e (a:=a) hlen gA eg ca) λr c_ ⟨w,bJ,hw,fJ,gb,fY,bj⟩=>⟨_,bJ,?_⟩
 have H:=H.bK bj;refine aO ?_;refine W.a1l (c:=[.b v,.s aD,w]) I I (Gk I I I (Gk I I I (RM hw I I I))) ?_;refine aO ?_;refine W.st (bn:=[.b v,.s aD,w]) H 0 I I I I I I λgz hM H de=>?_;refine aO ?_;refine aa.ret ⟨rfl,_,mW (q2 I (H.fK) I),?_⟩;have b8C:=hw.bK (ah:=gz) λi o hi=>de _ _ (by have:=gb i hi;omega);rw[show lz (.mk v aD a)= .mk v aD (nz ((a.getD []).map lz)) from by show plT _ (.mk v aD a)=_;rw[vV,b8z]];exact a1f (n:=999) (o2 (n:=996) b8C fJ λx=>xW gz 996 _) U
theorem b8D(ll:bc (b.aQ K) FM Ks)(bB:bc (b.aQ K) KM Qv)(q6:b.ext l_=0/\b.pure l_=true)(e:b.ext lu=0/\b.pure lu=true)(G:Fm)(gW:G.args.length<2^20)(gi:G.sub.length<2^20)
  (Lp:∀ah:ag,bp ah (b.a2+1000) (fa true G.d_)=some (fa true G.d_))
  (sB:∀u∈G.args,∀ah,bp ah (b.a2+1000) (.ad (bs true u))=some (.ad (bs true u))) (nD:∀u∈G.args,K l_ [.ad (bs true u)] (.ad (bs false (lz u))))
  (gA:∀u∈G.sub,∀ah,bp ah (b.a2+1000) (.ad (bm u))=some (.ad (bm u))) (eg:∀u∈G.sub,K lu [.ad (bm u)] (.ad (cV (kg u)))) (body:bC) (hb:Kl.body=some body):
  aa (b.aQ K) Kl.ntmps body (eh [.ad (bm G)]) ⟨.nil,0⟩ (n4 Kl.results (.ad (cV (kg G)))):=by
 cases hb;refine W.n1 λz H=>?_;obtain⟨op,aD,a,s⟩:=G;change(a.getD []).length<2^20 at gW;change(s.getD []).length<2^20 at gi;change ∀ah:ag,bp ah (b.a2+1000) (fa true s)=some (fa true s) at Lp;change ∀u∈a.getD [],∀ah,bp ah (b.a2+1000) (.ad (bs true u))=some (.ad (bs true u)) at sB;change ∀u∈a.getD [],K l_ [.ad (bs true u)] (.ad (bs false (lz u))) at nD;change ∀u∈s.getD [],∀ah,bp ah (b.a2+1000) (.ad (bm u))=some (.ad (bm u)) at gA;change ∀u∈s.getD [],K lu [.ad (bm u)] (.ad (cV (kg u))) at eg;refine aO ?_;refine W.dK (c:=[a3 op,.s aD,cy true a,fa true s]) H I I I I I I λc2 dQ H bM=>?_;refine aO ?_;refine W.hI (c:=[.i .u8 0,.s [],.aj,.aj]) H dQ I I I λca dC H ba=>?_;refine aO ?_;refine W.nq H I I I (.tail _ (.head _)) I (Snp.eqb _ _ Lp) ?_;refine aO ?_;refine W.js I I I (a1m hfn ll q6 (a:=a) gW sB nD ca) λr c_ ⟨w,bJ,hw,fJ,gb,fY,bj⟩=>⟨_,bJ,?_⟩
 have H:=H.bK bj;refine aO ?_;refine W.js I I I (b8A hfn bB e (a:=s) gi gA eg c_) λr gz ⟨ja,b8E,BK,b8F,b8G,hM,de⟩=>⟨_,b8E,?_⟩
 have H:=H.bK de;have hw:=hw.bK (ah:=gz) λi o _=>de i o;refine aO ?_;refine W.a1l (c:=[a3 op,.s aD,w,ja]) I I (Gk I I I (Gk I I I (RM hw I I (RM BK I I I)))) ?_;refine aO ?_;refine W.st (bn:=[a3 op,.s aD,w,ja]) H 0 I I I I I I λg7 oN H e8=>?_;refine aO ?_;refine aa.ret ⟨rfl,_,mW (q2 I (H.fK) I),?_⟩;have b8H:=hw.bK (ah:=g7) λi o hi=>e8 _ _ (by have:=gb i hi;omega);have b8I:=BK.bK (ah:=g7) λi o hi=>e8 _ _ (by have:=b8G i hi;omega);rw[show kg (.mk op aD a s)= .mk op aD (nz ((a.getD []).map lz)) (nz ((s.getD []).map kg)) from pW _ op aD a s];exact LD (n:=999) (o2 (n:=996) b8H fJ λx=>xW g7 996 _) (o2 (n:=996) b8I b8F λx=>Ab g7 996 _) U
end
end
section
variable [Tok][TokOk]
open Go.RowKit Go.Lyc.T
def n9(l:List Fm):Nat:=(l.map λG=>1+(Tm.eA G.args).length).sum
def lB(F:Fm):Nat:=n9 F.parts
abbrev xY:AV:=.i .i64 9223372036854775807
section
def b8J(hf:bc (b.aQ K) Cn Kx)(t:Tm){p q m:Nat}(J:ag)(ay:J.get p=some (.cells [aw m]))(aP:J.get q=some (.cells [xY]))(hH:q≠p)(hm:m+1<2^62):
  bw (b.aQ K) 0 (.f (.func Cn) [] [.p (some (p,0)),.p (some (q,0))]) [t.A true] J (λr af=>r= .ok (.b true)/\af.get p=some (.cells [aw (m+1)])/\hv (λi=>i=p) J af):=by
 refine bw.code hf.e hf.p hf.f I I I I ?_;refine aa.seq (aa.region (ab.box (v:=t.A true) (c:=t.cells true) J.next I I I I I I λah hn h1 bM=>?_));refine ab.go I I I I ?_;replace ay:=bM _ _ ay;replace aP:=bM _ _ aP;refine ab.nil (aa.seq (aa.region ?_));refine ab.a0 (v:=aw m) ay I I I I ?_;refine ab.bin (a:=aw m) (b:=aw 1) I I I I (ir U) ?_;refine ab.store (bn:=[aw (m+1)]) ay I I I I I λc_ Jb cf gH=>?_;replace aP:=gH _ _ hH aP;refine ab.nil (aa.seq (aa.region ?_));refine ab.a0 (v:=aw (m+1)) cf I I I I ?_;refine ab.a0 (v:=xY) aP I I I I ?_;refine ab.bin (a:=aw (m+1)) (b:=aw 9223372036854775807) (v:=.b (decide (m+1<=9223372036854775807))) I I I I (cG I) ?_;refine ab.go I I I I ?_;refine ab.nil (aa.ret ⟨rfl,?_,cf,U,λi o hi ho=>gH i o hi (bM i o ho)⟩);show cQ.ok (AV.b (decide (m+1<=9223372036854775807)))=_;rw[decide_eq_true U]
def b8K(hh:bc (b.aQ K) KN Qu)(Af:bc (b.aQ K) Cn Kx)(Ag:bc (b.aQ K) xB zI)(au:bc (b.aQ K) qT sd)(fH:bc (b.aQ K) pM tD)(hw:bc (b.aQ K) tG vz)(F:Fm)(bB:F.fA)(hs:lB F<2^60)(J:ag):
  bw (b.aQ K) 0 (.f (.func KN) [] []) [F.A true,xY] J (λr af=>r= .ok (aw (lB F))/\mV J af):=by
 generalize aC:J.next=k;refine bw.E4 (d:=k+4) hh.e hh.p hh.f I I I I ?_;refine cO.jT (aa.region (ab.box (v:=F.A true) (c:=F.cells true) k aC I I I I I λbu e6 h1 bM=>?_));refine ab.box (v:=xY) (c:=[xY]) (k+1) e6 I I I I I λbA fk h2 ba=>?_;replace h1:=ba _ _ h1;refine ab.go I I I I ?_;refine ab.nil ⟨rfl,cO.jT (aa.region (ab.var (v:=aw 0) (c:=[aw 0]) (k+2) fk I I I I I I λc8 lM h3 bj=>?_))⟩;replace h1:=bj _ _ h1;replace h2:=bj _ _ h2;refine ab.nil ⟨rfl,cO.xu (cO.jT (aa.region ?_))⟩;refine ab.a0 h1 I I I (Fm.a0 true F) ?_;refine ab.dW I I I (KX hw true F c8 (k+3) lM) λr lx ⟨aF,oM,aN,de⟩=>⟨_,aF,?_⟩
 replace h1:=de _ _ h1;replace h2:=de _ _ h2;replace h3:=de _ _ h3;have cq:∀i o,J.get i=some o->lx.get i=some o:=λi o ho=>de i o (bj i o (ba i o (bM i o ho)));refine ab.nil ⟨rfl,cO.block ?_⟩;refine cO.walk au fH true (λi=>i=k+1\/i=k+2) (λl ah=>∃m,m+n9 l=lB F/\ah.get (k+2)=some (.cells [aw m])/\ah.get (k+1)=some (.cells [xY])) (k+4) oM I I bB aN (λi hi=>by omega) (λl ah a1 ⟨m,a9,bt,cW⟩ aC=>⟨m,a9,aC _ _ (.inr I) bt,aC _ _ (.inl I) cW⟩) ⟨0,lQ _,h3,h2⟩ ?_ ?_
 ·intro G rest ah cc vF ⟨m,a9,bt,cW⟩;have RO:n9 (G::rest)=1+(Tm.eA G.args).length+n9 rest:=rfl;rw[RO] at a9;refine aa.region ?_;refine ab.var (v:=G.A true) (c:=G.cells true) ah.next I I I I (Fm.conf true G) I (Fm.len true G) λc2 oM aN de=>?_;refine ab.nil ⟨rfl,.of U de,λca BA e8=>?_⟩;replace aN:=e8 _ _ U aN;replace bt:=e8 _ _ U (de _ _ bt);replace cW:=e8 _ _ U (de _ _ cW);refine aa.block (aa.seq (aa.region ?_));refine ab.a0 (v:=aw m) bt I I I I ?_;refine ab.bin (a:=aw m) (b:=aw 1) I I I I (ir U) ?_;refine ab.store (bn:=[aw (m+1)]) bt I I I I I λc_ Jb cf gH=>?_;replace aN:=gH _ _ U aN;replace cW:=gH _ _ U cW;refine ab.nil (aa.seq (aa.region ?_));refine ab.go I I I I ?_;refine ab.a0 aN I I I (Fm.qM true G) ?_;refine ab.go I I I I ?_;refine ab.dW I I I (Rm Ag true (W:=λi=>i=k+2) (B:=k+3) (λi hi=>by omega) (λl ah=>∃aK,aK+l.length+n9 rest=lB F/\ah.get (k+2)=some (.cells [aw aK])/\ah.get (k+1)=some (.cells [xY]))
   (λl ah a1 ⟨aK,db,cK,et⟩ _ aC=>⟨aK,db,aC _ _ cK,aC _ _ et⟩) (.f (.func Cn) [] [.p (some (k+2,0)),.p (some (k+1,0))]) ?_ (Tm.cv G.args+1) G.cP [] c_ (by show Tm.cv G.args<_;omega) cc.arg cc.B1 U ⟨m+1,by rw[fp];show m+1+(Tm.eA G.args).length+n9 rest=_;omega,cf,cW⟩) λr gz ⟨aF,⟨aK,db,cK,et⟩,fT⟩=>⟨_,aF,?_⟩
  ·rintro t a1n ah ht eu ⟨aK,db,cK,et⟩;have db:aK+(a1n.length+1)+n9 rest=lB F:=db;refine(b8J Af t ah cK et U U).mono λr a1 ⟨aF,jn,K⟩=>⟨aF,⟨aK+1,U,jn,K.bK _ _ U et⟩,K⟩
  ·have db:aK+0+n9 rest=lB F:=db;refine ab.nil (aa.seq (aa.region ?_));refine ab.a0 (v:=aw aK) cK I I I I ?_;refine ab.a0 (v:=xY) et I I I I ?_;refine ab.bin (a:=aw aK) (b:=aw 9223372036854775807) (v:=.b (decide (9223372036854775807<aK))) I I I I (cG I) ?_;refine ab.nil (aa.cl I (λh=>?_) (λh=>?_))
   ·have:=of_decide_eq_true h;omega
   ·exact aa.skip ⟨rfl,⟨aK,U,cK,et⟩,by have:=fT.next;omega,λi o hi ho=>fT.bK i o (λe=>hi (.inr e)) (gH i o (λe=>hi (.inr e)) ho)⟩
 ·intro ah ⟨m,a9,bt,cW⟩ vF an hold;have a9:m+0=lB F:=a9;refine⟨rfl,rfl,?_⟩;refine aa.seq (aa.region ?_);refine ab.a0 (v:=aw m) bt I I I I ?_;refine ab.go I I I I ?_;have eG:=hX (bV:=AO.dead) an;refine ab.nil (aa.ret ⟨rfl,an,by rw[<-a9];rfl,by show J.next<=ah.next;omega,λi o ho=>?_⟩);have:=ag.cJ ho;exact eG.2 i o U (hold i o U (cq i o ho))
def b8L(ae:bc (b.aQ K) KN Qu)(Af:bc (b.aQ K) Cn Kx)(Ag:bc (b.aQ K) xB zI)(au:bc (b.aQ K) qT sd)(fH:bc (b.aQ K) pM tD)(hw:bc (b.aQ K) tG vz)(F:Fm)(bB:F.fA)(hs:lB F<2^60)(body:bC)(hb:Kk.body=some body):
  aa (b.aQ K) Kk.ntmps body (eh [.ad (bm F)]) ⟨.nil,0⟩ (n4 Kk.results (aw (lB F))):=by
 cases hb;refine W.n1 λz H=>?_;refine aO ?_;refine W.dK (c:=bm F) H I I I I I I λc2 dQ H bM=>?_;refine aO ?_;have ae:=b8K ae Af Ag au fH hw F bB hs c2;rw[mf] at ae;refine W.js I I I ae λr ca ⟨e,M⟩=>⟨_,e,?_⟩
 refine aO ?_;exact aa.ret ⟨rfl,_,mW (k8 I),rfl⟩
end
end
section
variable [Tok][TokOk]
open Go.RowKit Go.Lyc.T
attribute [local irreducible] cz ch dE fq bw
section
mutual
def ptF(name:List Nat)(dw:Tm->Tm)(ai:Fm->List (List Nat)):Fm->Fm
 | .mk op n a none=>.mk op n (nz ((a.getD []).map dw)) none
 | .mk op n a (some l)=>if(op=8\/op=9)/\(n=name\/name∉ai (l.headD (.mk 0 [] none none))) then kg (.mk op n a (some l)) else .mk op n (nz ((a.getD []).map dw)) (nz (ptFs name dw ai l))
def ptFs(name:List Nat)(dw:Tm->Tm)(ai:Fm->List (List Nat)):List Fm->List Fm
 |[]=>[]
 |t::l=>ptF name dw ai t::ptFs name dw ai l
end
def LF(name:List Nat)(dw:Tm->Tm)(ai:Fm->List (List Nat)):∀l:List Fm,ptFs name dw ai l=l.map (ptF name dw ai)
 |[]=>by rw[ptFs];rfl
 |t::l=>by rw[ptFs,LF name dw ai l];rfl
def Gl(name:List Nat)(dw:Tm->Tm)(ai:Fm->List (List Nat)){op:Nat}(h:¬(op=8\/op=9))(n:List Nat)(a:Option (List Tm))(s:Option (List Fm)):ptF name dw ai (.mk op n a s)= .mk op n (nz ((a.getD []).map dw)) (nz ((s.getD []).map (ptF name dw ai))):=by
 cases s with
 |none=>rw[ptF];rfl
 |some l=>rw[ptF,if_neg (λe=>h e.1),LF];rfl
def RP(name:List Nat)(dw:Tm->Tm)(ai:Fm->List (List Nat)){op:Nat}(h:op=8\/op=9){n:List Nat}(a:Option (List Tm)){s:Fm}(ae:n=name\/name∉ai s):ptF name dw ai (.mk op n a (some [s]))=kg (.mk op n a (some [s])):=by
 rw[ptF,if_pos ⟨h,ae⟩]
def a1o(name:List Nat)(dw:Tm->Tm)(ai:Fm->List (List Nat)){op:Nat}{n:List Nat}(a:Option (List Tm)){s:Fm}(ae:¬(n=name\/name∉ai s)):ptF name dw ai (.mk op n a (some [s]))= .mk op n (nz ((a.getD []).map dw)) (some [ptF name dw ai s]):=by
 rw[ptF,if_neg λe=>ae e.2,LF];rfl
abbrev Ah(name:List Nat)(t:Tm):AV:=.aR true (some 4) [.ad [.s name,.b t.var,.s t.name,cy true t.cP]]
section
variable {b:b8}{K:Nat->List AV->AV->Prop}(hfn:∀g aB r bS,K g aB r->K g aB bS->r=bS)
include hfn
theorem a1p(name:List Nat)(t:Tm)(dw:Tm->Tm)(ai:Fm->List (List Nat))(eJ:List (List Nat))(xO:bc (b.aQ K) FN Kh)(Ly:bc (b.aQ K) FR Kp)(Lz:bc (b.aQ K) FT Kw)
  (ua:b.ext pO=0/\b.pure pO=true) (a1q:b.ext lu=0/\b.pure lu=true) (e:b.ext sm=0/\b.pure sm=true)
  (cR:∀ah:ag,bp ah (b.a2+1000) (.ad (bs true t))=some (.ad (bs true t))) (fX:∀ah:ag,bp ah (b.a2+999) (.ad [.s name,.b t.var,.s t.name,cy true t.cP])=some (.ad [.s name,.b t.var,.s t.name,cy true t.cP]))
  (b8M:∀J:ag,bw (b.aQ K) 0 (.f (.func oX) [] []) [.ad (bs true t)] J (λr ah=>∃v,r= .ok v/\Sl ah none v (eJ.map AV.s)/\J.next<=ah.next/\∀i o,J.get i=some o->ah.get i=some o)) (Gm:eJ.length<2^20)
  (G:Fm) (gW:G.args.length<2^40) (gi:G.sub.length<2^40) (aP:mg G->∃s,G.d_=some [s]/\(ai s).length<2^20/\G.name∉eJ/\∀J:ag,bw (b.aQ K) 0 (.f (.func sl) [] []) [.ad (bm s)] J (λr ah=>∃v,r= .ok v/\Sl ah none v ((ai s).map AV.s)/\J.next<=ah.next/\∀i o,J.get i=some o->ah.get i=some o))
  (a1r:∀ah,bp ah (b.a2+1000) (.ad (bm G))=some (.ad (bm G))) (a1s:mg G->K lu [.ad (bm G)] (.ad (cV (kg G))))
  (sB:∀u∈G.args,∀ah,bp ah (b.a2+1000) (.ad (bs true u))=some (.ad (bs true u))) (nD:∀u∈G.args,K pO [.ad (bs true u),Ah name t] (.ad (bs false (dw u))))
  (gA:∀u∈G.sub,∀ah,bp ah (b.a2+1000) (.ad (bm u))=some (.ad (bm u))) (eg:∀u∈G.sub,K sm [.ad (bm u),.s name,.ad (bs true t)] (.ad (cV (ptF name dw ai u)))) (body:bC) (hb:Fq.body=some body):
  aa (b.aQ K) Fq.ntmps body (eh [.ad (bm G),.s name,.ad (bs true t)]) ⟨.nil,0⟩ (n4 Fq.results (.ad (cV (ptF name dw ai G)))):=by
 cases hb;refine W.n1 λz H=>?_;refine aO ?_;refine W.dK (c:=bm G) H I I I I I I λah dQ H bM=>?_;refine aO ?_;refine W.dK (c:=bs true t) H dQ I I I I I λca dC H ba=>?_;refine aO ?_;refine W.hI (c:=[.i .u8 0,.s [],.aj,.aj]) H dC I I I λc_ fY H bj=>?_;have RJ:=λJ=>a1b xO G J;obtain⟨op,aD,a,s⟩:=G;change(a.getD []).length<2^40 at gW;change(s.getD []).length<2^40 at gi;change ∀u∈a.getD [],∀ah,bp ah (b.a2+1000) (.ad (bs true u))=some (.ad (bs true u)) at sB;change ∀u∈a.getD [],K pO [.ad (bs true u),Ah name t] (.ad (bs false (dw u))) at nD;change ∀u∈s.getD [],∀ah,bp ah (b.a2+1000) (.ad (bm u))=some (.ad (bm u)) at gA;change ∀u∈s.getD [],K sm [.ad (bm u),.s name,.ad (bs true t)] (.ad (cV (ptF name dw ai u))) at eg;refine aO ?_;refine W.jr (c:=[a3 op,.s aD,.aj,.aj]) H fY I I I I I I λgz hM H de=>?_;have vW:3<gz.next:=H.lt (.head _);refine aO ?_;refine W.len I I I lr ?_;refine aO ?_;show ch _ _ _ _ _ _ _ _;refine aa.each (a.getD []).length (λj f a1=>(∃w,a1.get 3=some (.cells [a3 op,.s aD,w,.aj])/\Sl a1 (some 3) w (((a.getD []).take j).map λx=>.ad (bs false (dw x)))/\((a.getD []).take j=[]->w= .aj)/\∀o,w.dU =some o->gz.next<=o)/\(∀i o,i≠3->gz.get i=some o->a1.get i=some o)/\gz.next<=a1.next/\sat [(1,.s name),(3,bT 0),(5,bT 1),(6,bT 2),(7,bT 3),(21,cy true a)] f) U ⟨⟨.aj,H.fK,.nil,λ_=>rfl,λ_ h=>by cases h⟩,λ_ _ _ h=>h,b6 _,b9⟩ I I (λj g a1 aG bz hi hm=>?_) (λg a1 bz hi=>?_)
 ·obtain⟨⟨w,hg,hw,fJ,gb⟩,cH,hn,ak⟩:=bz;refine aa.norm [(1,.s name),(3,bT 0),(5,bT 1),(6,bT 2),(7,bT 3),(21,cy true a),(23,aw j),(22,aw (a.getD []).length)] ⟨ak.1,ak.2.1,ak.2.2.1,ak.2.2.2.1,ak.2.2.2.2.1,ak.2.2.2.2.2.1,hi,hm,trivial⟩ λg=>?_;have H:Has a1 [(3,[a3 op,.s aD,w,.aj]),(1,bs true t)]:=(Has.nil.cons (cH 1 _ U (H.B7)) aT).cons hg aT;have hu:=c3 (l:=a.getD []) aG;have gP:=nD _ hu;have hY:=sB _ hu;refine aO ?_;refine W.jq I I I I (oR aG) ?_;refine W.gY (R:=some 3) I I I (Tm.conf true _) ?_;rw[ny];generalize g5:a1.next=hq;refine W.jr (c:=bs true (a.getD [])[j]) H g5 I I I I I I λly mO H gH=>?_;refine W.nil ?_;show ch _ _ _ _ _ _ _ _;refine W.zF I ?_;refine aO ?_;refine W.z2 (H.get (3,_) (.tail _ (.head _))) I I I I (hw.eqb _) ?_;refine W.z2 (H.get (hq,_) (.head _)) I I I I (Snp.eqb _ _ hY) ?_;refine aO ?_;refine W.z2 (H.get (1,_) (.tail _ (.tail _ (.head _)))) I I I I (Snp.eqb _ _ cR) ?_;refine aO ?_;refine W.gU (c:=[.s name,.b t.var,.s t.name,cy true t.cP]) H mO I I I λgL pA H jZ=>?_;refine W.now [(7,1,.cells (bs true t)),(7,hq,.cells (bs true (a.getD [])[j])),(7,3,.cells [a3 op,.s aD,w,.aj])] [(9,3,.cells [a3 op,.s aD,w,.aj])] I I ⟨H.get (1,_) (.tail _ (.tail _ (.tail _ (.head _)))),H.get (hq,_) (.tail _ (.head _)),H.get (3,_) (.tail _ (.tail _ (.head _))),trivial⟩ ?_;have k_:bp gL (b.a2+1000) (.aq (hq+1) 0 1 (some 4) (some 1))=some (Ah name t):=(Sl.aq (J:=gL) (R:=some 4) (hq+1) (some 1) [.ad [.s name,.b t.var,.s t.name,cy true t.cP]] [] (H.fK) (λy aI=>by rw[dx.1 aI];rfl) (.inr I)).a0Y (m:=b.a2+999) aT (Gf λy aI=>by rw[dx.1 aI];exact fX gL);refine W.gx hfn ua gP I I I (lq (hY _) k_) ?_;refine W.gU (c:=bs false (dw (a.getD [])[j])) H pA I I I λmZ Ej H o3=>?_;refine W.now [(9,3,.cells [a3 op,.s aD,w,.aj])] [] I I ⟨H.get (3,_) (.tail _ (.tail _ (.tail _ (.head _)))),trivial⟩ ?_;have cq:∀i o,a1.get i=some o->mZ.get i=some o:=λi o h=>o3 _ _ (jZ _ _ (gH _ _ h));have b8N:=hw.bK (ah:=mZ) λi o _=>cq i o;refine W.ap (.ad (bs false (dw (a.getD [])[j]))) [] b8N (by show(match mZ.get (hq+1+1) with|some (.cells c)=>elems (some 3) 1 (c.drop 0)|_=>none)=_;rw[H.fK];rfl) (λz aZ=>by rw[dx.1 aZ];rfl) (by rw[cb,gM];show(3*(_+1)+2000)*48<=_;omega) I I I I λa_ n8 hZ kf _ nC cN=>?_;have H:Has n8 [(3,[a3 op,.s aD,w,.aj])]:=Has.nil.cons (cN _ _ (λe=>by have:=gb _ e;omega) (cq _ _ hg)) aT;refine aO ?_;refine W.st (bn:=[a3 op,.s aD,a_,.aj]) H 0 I I I I hZ.n3 (by rw[hZ.tO];rfl) λvT nf H ga=>?_;refine aO ?_;refine⟨rfl,rfl,⟨a_,H.fK,?_,λh=>?_,λo ho=>by rw[kf] at ho;cases ho;omega⟩,λi o hi ho=>ga _ _ hi (cN _ _ (λe=>by have:=gb _ e;have:=ag.cJ ho;omega) (cq _ _ (cH _ _ hi ho))),U,b9⟩
  ·rw[lv aG,ie];exact hZ.bK λi o hi=>ga _ _ (λe=>by rw[kf] at hi;cases hi;omega)
  ·have:=congrArg List.length h;rw[gM,nn] at this;omega
 ·obtain⟨⟨bf,nj,fH,vU,tZ⟩,cH,hn,ak⟩:=bz;refine aa.norm [(1,.s name),(3,bT 0),(5,bT 1),(6,bT 2),(7,bT 3)] ⟨ak.1,ak.2.1,ak.2.2.1,ak.2.2.2.1,ak.2.2.2.2.1,trivial⟩ λg=>?_;have H:Has a1 [(3,[a3 op,.s aD,bf,.aj]),(2,[.i .u8 0,.s [],.aj,.aj]),(1,bs true t),(0,bm (.mk op aD a s))]:=(((Has.nil.cons (cH 0 _ U (H.B8)) aT).cons (cH 1 _ U (H.B7)) aT).cons (cH 2 _ U (H.n0)) aT).cons nj aT;rw[kS] at fH vU;refine aO ?_;refine W.js I I I (RJ a1) λr g7 ⟨av,oN,e8⟩=>⟨_,av,?_⟩
  have H:Has g7 [(3,[a3 op,.s aD,bf,.aj]),(2,[.i .u8 0,.s [],.aj,.aj]),(1,bs true t),(0,bm (.mk op aD a s))]:=H.bK e8;have b8w:3<g7.next:=H.lt (.head _);have fH:=fH.bK (ah:=g7) λi o _=>e8 i o;by_cases cu:mg (.mk op aD a s)
  ·rw[decide_eq_true cu];have a1t:op=8\/op=9:=cu;obtain⟨u,hu,c6V,NW,b8O⟩:=aP cu;change s=some [u] at hu;subst hu;have hY:=gA u (.head _);have gP:=eg u (.head _);refine aO ?_;refine W.gY (R:=some 4) I I I (Fm.conf true _) ?_;rw[mf];refine W.js I I I (b8O g7) λr ly ⟨v,bJ,au,mO,gH⟩=>⟨_,bJ,?_⟩
   have H:=H.bK gH;have fH:=fH.bK (ah:=ly) λi o _=>gH i o;refine aO ?_;by_cases jX:aD=name
   ·refine W.bin (v:=.b true) I I I I (by show some (AV.b (eqL aD name))=_;rw[tR,decide_eq_true jX]) ?_;refine aO ?_;refine W.gx hfn a1q (a1s cu) I I I (fZ (a1r _)) ?_;refine aO ?_;refine W.st (bn:=cV (kg (.mk op aD a (some [u])))) H 1 I I I I I I λgL pA H jZ=>?_;refine aO ?_;refine aa.ret ?_;refine⟨rfl,_,mW (q2 I (H.get (2,_) (.tail _ (.head _))) I),?_⟩;rw[RP _ _ _ a1t a (.inl jX)];exact Ab gL 998 _
   ·refine W.bin (v:=.b false) I I I I (by show some (AV.b (eqL aD name))=_;rw[tR,decide_eq_false jX]) ?_;refine aO ?_;refine W.js I I I (RH Ly Lz au.a0j U name) λr gL ⟨aF,aV⟩=>⟨_,aF,?_⟩
    subst aV;by_cases eQ:name∈ai u
    ·rw[decide_eq_true eQ,a1o _ _ _ a (λh=>h.elim jX λh=>h eQ)];refine aO ?_;refine W.gY (R:=some 4) I I I (Fm.conf true _) ?_;rw[mf];generalize b8P:gL.next=vX;refine W.jr (c:=bm u) H b8P I I I I I I λmZ Ej H o3=>?_;refine aO ?_;refine W.js I I I (b8M mZ) λr jv ⟨RQ,b8Q,b8R,tl,lo⟩=>⟨_,b8Q,?_⟩
     have H:=H.bK lo;generalize b8S:jv.next=pX at tl;refine aO ?_;refine W.js I I I (RH Ly Lz b8R.a0j U aD) λr c6W ⟨aF,aV⟩=>⟨_,aF,?_⟩
     subst aV;rw[decide_eq_false (show aD∉eJ from NW)];refine aO ?_;refine W.gx hfn e gP I I I (BY (hY _) I (cR _)) ?_;refine W.gU (c:=cV (ptF name dw ai u)) H b8S I I I λq7 BC H Ac=>?_;have fH:=fH.bK (ah:=q7) λi o _ ho=>Ac _ _ (lo _ _ (o3 _ _ ho));refine aO ?_;refine W.st (bn:=[a3 op,.s aD,bf,.aq pX 0 1 (some 4) (some 1)]) H 2 I I I I I I λc6X WU H b8T=>?_;refine aO ?_;refine W.st (bn:=[a3 op,.s aD,bf,.aq pX 0 1 (some 4) (some 1)]) H 3 I I I I I I λGn WV H b8U=>?_;refine aO ?_;refine aa.ret ?_;refine⟨rfl,_,mW (q2 I (H.get (2,_) (.tail _ (.tail _ (.tail _ (.head _))))) I),?_⟩;have b8V:=fH.bK (ah:=Gn) λi o hi ho=>b8U _ _ (by have:=tZ i hi;omega) (b8T _ _ (by have:=tZ i hi;omega) ho);have b8W:Sl Gn (some 4) (.aq pX 0 1 (some 4) (some 1)) ([u].map λx=>.ad (cV (ptF name dw ai x))):=.aq (J:=Gn) (R:=some 4) pX (some 1) [.ad (cV (ptF name dw ai u))] [] (H.fK) (λy aI=>by rw[dx.1 aI];rfl) (.inr I);exact LD (n:=999) (l:=a.getD []) (s:=[u]) (f:=dw) (g:=ptF name dw ai) (o2 (n:=996) b8V (λh=>vU h) λx=>xW Gn 996 _) (o2 (n:=996) b8W (λh=>by cases h) λx=>Ab Gn 996 _) U
    ·rw[decide_eq_false eQ];refine aO ?_;refine W.gx hfn a1q (a1s cu) I I I (fZ (a1r _)) ?_;refine aO ?_;refine W.st (bn:=cV (kg (.mk op aD a (some [u])))) H 1 I I I I I I λgL pA H jZ=>?_;refine aO ?_;refine aa.ret ?_;refine⟨rfl,_,mW (q2 I (H.get (2,_) (.tail _ (.head _))) I),?_⟩;rw[RP _ _ _ a1t a (.inr eQ)];exact Ab gL 998 _
  ·rw[decide_eq_false cu,Gl _ _ _ (show ¬(op=8\/op=9) from cu)];refine aO ?_;refine W.len I I I qN ?_;refine aO ?_;show ch _ _ _ _ _ _ _ _;refine aa.each (s.getD []).length (λj f a1=>(∃w,a1.get 3=some (.cells [a3 op,.s aD,bf,w])/\Sl a1 (some 4) w (((s.getD []).take j).map λx=>.ad (cV (ptF name dw ai x)))/\((s.getD []).take j=[]->w= .aj)/\∀o,w.dU =some o->g7.next<=o)/\(∀i o,i≠3->g7.get i=some o->a1.get i=some o)/\g7.next<=a1.next/\sat [(1,.s name),(5,bT 1),(6,bT 2),(7,bT 3),(88,fa true s)] f) U ⟨⟨.aj,H.fK,.nil,λ_=>rfl,λ_ h=>by cases h⟩,λ_ _ _ h=>h,b6 _,b9⟩ I I (λj g a1 aG bz hi hm=>?_) (λg a1 bz hi=>?_)
   ·obtain⟨⟨w,hg,hw,fJ,gb⟩,cH,hn,ak⟩:=bz;refine aa.norm [(1,.s name),(5,bT 1),(6,bT 2),(7,bT 3),(88,fa true s),(90,aw j),(89,aw (s.getD []).length)] ⟨ak.1,ak.2.1,ak.2.2.1,ak.2.2.2.1,ak.2.2.2.2.1,hi,hm,trivial⟩ λg=>?_;have H:Has a1 [(3,[a3 op,.s aD,bf,w]),(1,bs true t)]:=(Has.nil.cons (cH 1 _ U (H.B7)) aT).cons hg aT;have hu:=c3 (l:=s.getD []) aG;have gP:=eg _ hu;have hY:=gA _ hu;refine aO ?_;refine W.jq I I I I (tB aG) ?_;refine W.gY (R:=some 4) I I I (Fm.conf true _) ?_;rw[mf];generalize g5:a1.next=hq;refine W.jr (c:=bm (s.getD [])[j]) H g5 I I I I I I λjv tl H lo=>?_;refine W.nil ?_;show ch _ _ _ _ _ _ _ _;refine W.zF I ?_;refine aO ?_;refine W.z2 (H.get (3,_) (.tail _ (.head _))) I I I I (hw.eqb _) ?_;refine aO ?_;refine W.gx hfn e gP I I I (BY (hY _) I (cR _)) ?_;refine W.gU (c:=cV (ptF name dw ai (s.getD [])[j])) H tl I I I λq7 BC H Ac=>?_;refine W.now [(7,3,.cells [a3 op,.s aD,bf,w])] [] I I ⟨H.get (3,_) (.tail _ (.tail _ (.head _))),trivial⟩ ?_;have cq:∀i o,a1.get i=some o->q7.get i=some o:=λi o h=>Ac _ _ (lo _ _ h);have Gh:=hw.bK (ah:=q7) λi o _=>cq i o;refine W.ap (.ad (cV (ptF name dw ai (s.getD [])[j]))) [] Gh (by show(match q7.get (hq+1) with|some (.cells c)=>elems (some 4) 1 (c.drop 0)|_=>none)=_;rw[H.fK];rfl) (λz aZ=>by rw[dx.1 aZ];rfl) (by rw[cb,gM];show(3*(_+1)+2000)*72<=_;omega) I I I I λa_ n8 hZ kf _ nC cN=>?_;have H:Has n8 [(3,[a3 op,.s aD,bf,w])]:=Has.nil.cons (cN _ _ (λe=>by have:=gb _ e;omega) (cq _ _ hg)) aT;refine aO ?_;refine W.st (bn:=[a3 op,.s aD,bf,a_]) H 0 I I I I hZ.n3 (by rw[hZ.tO];rfl) λvT nf H ga=>?_;refine aO ?_;refine⟨rfl,rfl,⟨a_,H.fK,?_,λh=>?_,λo ho=>by rw[kf] at ho;cases ho;omega⟩,λi o hi ho=>ga _ _ hi (cN _ _ (λe=>by have:=gb _ e;have:=ag.cJ ho;omega) (cq _ _ (cH _ _ hi ho))),U,b9⟩
    ·rw[lv aG,ie];exact hZ.bK λi o hi=>ga _ _ (λe=>by rw[kf] at hi;cases hi;omega)
    ·have:=congrArg List.length h;rw[gM,nn] at this;omega
   ·obtain⟨⟨w,hg,hw,fJ,gb⟩,cH,hn,ak⟩:=bz;refine aa.norm [(6,bT 2),(7,bT 3)] ⟨ak.2.2.1,ak.2.2.2.1,trivial⟩ λg=>?_;have H:Has a1 [(3,[a3 op,.s aD,bf,w]),(2,[.i .u8 0,.s [],.aj,.aj])]:=(Has.nil.cons (cH 2 _ U (H.n0)) aT).cons hg aT;have fH:=fH.bK (ah:=a1) λi o hi ho=>cH i o (by have:=tZ _ hi;omega) ho;rw[kS] at hw fJ;refine aO ?_;refine W.st (bn:=[a3 op,.s aD,bf,w]) H 1 I I I I I I λjv tl H lo=>?_;refine aO ?_;refine aa.ret ?_;refine⟨rfl,_,mW (q2 I (H.n0) I),?_⟩;have Gi:=hw.bK (ah:=jv) λi o hi=>lo _ _ (by have:=gb i hi;omega);have Gj:=fH.bK (ah:=jv) λi o hi=>lo _ _ (by have:=tZ i hi;omega);exact LD (n:=999) (o2 (n:=996) Gj (λh=>vU h) λx=>xW jv 996 _) (o2 (n:=996) Gi (λh=>fJ h) λx=>Ab jv 996 _) U
end
end
end
section
variable [Tok][TokOk]
open Go.RowKit Go.Lyc.T
def b8X{n:Nat}{l:List AV}(h:∀x∈l,AV.eqb n x x=true):AV.eqb (n+1) (.ad l) (.ad l)=true:=pG h
def a1u{n:Nat}{o:Bool}{R:Option Nat}{l:List AV}(h:∀x∈l,AV.eqb n x x=true):AV.eqb (n+1) (.aR o R l) (.aR o R l)=true:=by
 show((o==o)&&decide (R=R)&&fv (AV.eqb n) l l)=true;rw[pG h];simp
def fN(n:Nat)(v:AV):Prop:=gI n v=true/\AV.eqb n v v=true
def fN.leaf{n:Nat}{v:AV}(h1:gI (n+1) v=true)(h:v.B9=true):fN (n+1) v:=⟨h1,Fb h⟩
def fN.aw{n:Nat}(k:Nat):fN (n+1) (aw k):=⟨rfl,Fb I⟩
def fN.s{n:Nat}(k:List Nat):fN (n+1) (.s k):=⟨rfl,Fb I⟩
def fN.nil{n:Nat}:fN (n+1) .aj:=⟨rfl,rfl⟩
def fN.ad{n:Nat}{l:List AV}(h:∀x∈l,fN n x):fN (n+1) (.ad l):=⟨by rw[vn];exact iI λx hx=>(h x hx).1,b8X λx hx=>(h x hx).2⟩
def fN.a6{n:Nat}{l:List AV}(h:∀x∈l,fN n x):fN (n+1) (.a6 l):=⟨by rw[vn];exact iI λx hx=>(h x hx).1,pG λx hx=>(h x hx).2⟩
def fN.RR{n:Nat}{l:List AV}(h:fN (n+1) (.ad l)):∀x∈l,gI n x=true:=λx hx=>by
 have:=h.1;rw[vn] at this;exact np this x hx
def fN.aq{n:Nat}{R:Option Nat}{l:List AV}(h:∀x∈l,(∀y∈x.cells,gI n y=true)/\AV.eqb n x x=true):fN (n+1) (slA false R l):=by
 cases l with
 |nil=>exact .nil
 |cons x l=>
  refine⟨?_,a1u λy aI=>(h y aI).2⟩;show gI (n+1) (.aR false R (x::l))=true;rw[vn];show(true&&cB (λx=>cB (gI n) x.cells) (x::l))=true;rw[zt];exact iI λy aI=>iI λz aZ=>(h y aI).1 z aZ
def fN.WZ{n:Nat}{R:Option Nat}{l:List AV}(h:∀x∈l,x.cells=[x]/\fN n x):fN (n+1) (slA false R l):=.aq λx hx=>⟨λy aI=>by rw[(h x hx).1,dx] at aI;rw[aI];exact(h x hx).2.1,(h x hx).2.2⟩
def Ai{a b:AV}(h:[a]=[b]):a=b:=by injection h
def Gp{a b c d:AV}(h:[a,b]=[c,d]):a=c/\b=d:=by injection h with h1 h2;injection h2 with h2;exact⟨h1,h2⟩
abbrev dF(b:b8)(g:Nat)(c:bP):Prop:=b.funcs.get g=some c/\b.ext g=0/\b.pure g=false
abbrev gl(b:b8)(g:Nat)(c:bP):Prop:=b.funcs.get g=some c/\b.ext g=0/\b.pure g=true
def dF.h{b:b8}{K:Nat->List AV->AV->Prop}{g:Nat}{c:bP}(h:dF b g c):bc (b.aQ K) g c:=⟨h.1,h.2.1,h.2.2⟩
def Gq{a c d cC bn dt:AV}(h:[a,c,d]=[cC,bn,dt]):a=cC/\c=bn/\d=dt:=by
 injection h with h1 h
 injection h with h2 h
 injection h with h3 _
 exact⟨h1,h2,h3⟩
def LG{t u:Tm}(h:(.ad (bs true t):AV)= .ad (bs true u)):t=u:=by
 obtain⟨v,n,a⟩:=t;obtain⟨a_,ft,cC⟩:=u;injection h with h
 have h:=Gq h;have h1:v=a_:=by injection h.1
 have h2:n=ft:=by injection h.2.1
 have h3:a=cC:=E0 (o:=true) h.2.2;rw[h1,h2,h3]
def Gr{t u:Fm}(h:(.ad (bm t):AV)= .ad (bm u)):t=u:=Fm.qL (o:=true) (by rw[mf,mf];exact h)
structure h4 where
 g:Nat
 X:Type
 a:X->List AV
 r:X->AV
 inj:∀x y,a x=a y->r x=r y
def a1v:∀ {l:List h4},(l.map h4.g).Nodup->∀ {f bD:h4},f∈l->bD∈l->f.g=bD.g->f=bD
 |x::l,h,f,bD,hf,LH,e=>by
  rw[mv,RE] at h;rcases eH.1 hf with h1|h1
  ·rcases eH.1 LH with h2|h2
   ·rw[h1,h2]
   ·subst h1;exact absurd (di.2 ⟨bD,h2,e.symm⟩) h.1
  ·rcases eH.1 LH with h2|h2
   ·subst h2;exact absurd (di.2 ⟨f,h1,e⟩) h.1
   ·exact a1v h.2 h1 h2 e
abbrev dd(P:Program)(b:b8)(g:Nat)(aB:List AV)(r:AV):Prop:=∀bN,SpecEntry P (b.env []) bN g aB r
def Tm.o4{d:Nat}:∀ {l:List Tm},(∀u∈l,u.dep<=d)->Tm.cv l<=d
 |[],_=>by rw[Tm.cv];exact kA _
 |t::l,h=>by rw[Tm.cv];have:=h t aT;have:=Tm.o4 λu hu=>h u (fP _ hu);omega
def Fm.o4{d:Nat}:∀ {l:List Fm},(∀u∈l,u.dep<=d)->Fm.cv l<=d
 |[],_=>by rw[Fm.cv];exact kA _
 |t::l,h=>by rw[Fm.cv];have:=h t aT;have:=Fm.o4 λu hu=>h u (fP _ hu);omega
def fN.aR{n:Nat}{R:Option Nat}{l:List AV}(h:∀x∈l,(∀y∈x.cells,gI n y=true)/\AV.eqb n x x=true):fN (n+1) (.aR false R l):=by
 refine⟨?_,a1u λy aI=>(h y aI).2⟩;rw[vn];show(true&&cB (λx=>cB (gI n) x.cells) l)=true;rw[zt];exact iI λy aI=>iI λz aZ=>(h y aI).1 z aZ
def a1w{o:Bool}{l:List Tm}:cy o (some l)= .aR o (some 3) (l.map λt=>.ad (bs o t)):=by
 show AV.aR o (some 3) (l.map (Tm.A o))=_;rw[show(Tm.A o)=λt=>AV.ad (bs o t) from funext λt=>ny o t]
def b8Y{l:List Fm}:fa false (some l)= .aR false (some 4) (l.map λt=>.ad (cV t)):=by
 show AV.aR false (some 4) (l.map (Fm.A false))=_;rw[show(Fm.A false)=λt=>AV.ad (cV t) from funext λt=>xX t]
def ub:∀(d:Nat) (t:Tm),t.dep<=d->∀n,2*d+1<=n->fN n (.ad (bs false t))
 |0,t,h,_,_=>by rw[Tm.e0] at h;omega
 |d+1,t,h,n,hn=>by
  obtain⟨k,rfl⟩:∃k,n=k+3:=⟨n-3,U⟩
  refine .ad (n:=k+2) λy aI=>?_;simp only[eH,mJ,or_false] at aI;rcases aI with rfl|rfl|rfl
  ·exact .leaf I I
  ·exact .leaf I I
  ·cases ho:t.cP with
   |none=>exact .nil
   |some l=>
    rw[a1w];have hu:∀u∈l,u.dep<=d:=λu hu=>by
     have:u∈t.args:=by show u∈t.cP.getD [];rw[ho];exact hu
     have:=Tm.l9 this;omega
    refine .aR (n:=k+1) λx hx=>?_;obtain⟨u,nP,rfl⟩:=di.1 hx;exact⟨(ub d u (hu u nP) (k+2) U).RR,(ub d u (hu u nP) (k+1) U).2⟩
def q8:∀(d:Nat) (t:Fm),t.dep<=d->∀n,2*d+1<=n->fN n (.ad (cV t))
 |0,t,h,_,_=>by rw[Fm.e0] at h;omega
 |d+1,t,h,n,hn=>by
  obtain⟨k,rfl⟩:∃k,n=k+3:=⟨n-3,U⟩
  refine .ad (n:=k+2) λy aI=>?_;simp only[eH,mJ,or_false] at aI;rcases aI with rfl|rfl|rfl|rfl
  ·exact .leaf I I
  ·exact .leaf I I
  ·cases ho:t.cP with
   |none=>exact .nil
   |some l=>
    rw[a1w];have hu:∀u∈l,u.dep<=d:=λu hu=>by
     have:u∈t.args:=by show u∈t.cP.getD [];rw[ho];exact hu
     have:=Fm.l9 this;omega
    refine .aR (n:=k+1) λx hx=>?_;obtain⟨u,nP,rfl⟩:=di.1 hx;exact⟨(ub d u (hu u nP) (k+2) U).RR,(ub d u (hu u nP) (k+1) U).2⟩
  ·cases ho:t.d_ with
   |none=>exact .nil
   |some l=>
    rw[b8Y];have hu:∀u∈l,u.dep<=d:=λu hu=>by
     have:u∈t.sub:=by show u∈t.d_.getD [];rw[ho];exact hu
     have:=Fm.pH this;omega
    refine .aR (n:=k+1) λx hx=>?_;obtain⟨u,nP,rfl⟩:=di.1 hx;exact⟨(q8 d u (hu u nP) (k+2) U).RR,(q8 d u (hu u nP) (k+1) U).2⟩
def pY{d n:Nat}{t:Tm}(h:t.dep<=d)(hn:2*d+1<=n)(ah:ag):bp ah n (.ad (bs true t))=some (.ad (bs true t)):=by
 rw[<-ny];exact Tm.snap ah true d t n h hn
def q9{d n:Nat}{t:Fm}(h:t.dep<=d)(hn:2*d+1<=n)(ah:ag):bp ah n (.ad (bm t))=some (.ad (bm t)):=by
 rw[<-mf];exact Fm.snap ah true d t n h hn
def e1(P:Program)(b:b8)(bO:List h4)(g:Nat)(aB:List AV)(r:AV):Prop:=dd P b g aB r/\∃f∈bO,f.g=g/\∃x:f.X,f.a x=aB/\f.r x=r
def e1.fn{P:Program}{b:b8}{bO:List h4}(hn:(bO.map h4.g).Nodup):∀g aB r bS,e1 P b bO g aB r->e1 P b bO g aB bS->r=bS:=λg aB r bS h h'=>by
 obtain⟨_,f,hf,hg,x,ha,al⟩:=h;obtain⟨_,bD,LH,b8Z,fr,rS,pr⟩:=h';have e:=a1v hn hf LH (hg.trans b8Z.symm);subst e;rw[<-al,← pr];exact f.inj x fr (ha.trans rS.symm)
def e1.ok{P:Program}{b:b8}{bO:List h4}:vq P b (e1 P b bO):=λ_ _ _ h bN=>h.1 bN
def jI{P:Program}{b:b8}{bO:List h4}(k:Nat){f:h4}(aC:bO[k]? =some f)(x:f.X){g:Nat}{aB:List AV}{r:AV}(hg:f.g=g)(ha:f.a x=aB)(al:f.r x=r)(h:dd P b g aB r):e1 P b bO g aB r:=⟨h,f,Oo aC,hg,x,ha,al⟩
def Tm.cL(V:List Nat->Prop):Nat->Tm->Prop
 |0,_=>False
 |d+1,t=>t.args.length<2^20/\(t.var=true->V t.name)/\∀u∈t.args,Tm.cL V d u
def Fm.cL(V:List Nat->Prop):Nat->Fm->Prop
 |0,_=>False
 |d+1,t=>t.args.length<2^20/\t.sub.length<2^20/\(∀u∈t.args,Tm.cL V d u)/\∀u∈t.sub,Fm.cL V d u
def Tm.jw{V:List Nat->Prop}:∀ {d:Nat} {t:Tm},Tm.cL V d t->t.dep<=d
 |0,_,h=>h.elim
 |d+1,t,h=>by rw[Tm.e0];have:=Tm.o4 λu hu=>Tm.jw (h.2.2 u hu);omega
def Fm.jw{V:List Nat->Prop}:∀ {d:Nat} {t:Fm},Fm.cL V d t->t.dep<=d
 |0,_,h=>h.elim
 |d+1,t,h=>by
  rw[Fm.e0];have:=Tm.o4 λu hu=>Tm.jw (h.2.2.1 u hu);have:=Fm.o4 λu hu=>Fm.jw (h.2.2.2 u hu);omega
def uc{α:Type}(l:List α):(nz l).getD []=l:=by cases l<;>rfl
def CG{b0:List Nat->Bool}:∀(d:Nat) (t:Tm),t.dep<=d->(plT b0 t).dep<=d
 |0,t,h=>by rw[Tm.e0] at h;omega
 |d+1,t,h=>by
  have ak:∀u∈t.args,u.dep<=d:=λu hu=>by have:=Tm.l9 hu;omega
  obtain⟨v,n,a⟩:=t;rw[vV,Tm.e0];have:=Tm.o4 (d:=d) (l:=(a.getD []).map (plT b0)) λu hu=>by
   obtain⟨x,hx,rfl⟩:=di.1 hu;exact CG d x (ak x hx)
  show Tm.cv ((nz _).getD [])+1<=_;rw[uc];omega
def CH{b0:List Nat->Bool}:∀(d:Nat) (t:Fm),t.dep<=d->(plF b0 t).dep<=d
 |0,t,h=>by rw[Fm.e0] at h;omega
 |d+1,t,h=>by
  have ak:∀u∈t.args,u.dep<=d:=λu hu=>by have:=Fm.l9 hu;omega
  have hK:∀u∈t.sub,u.dep<=d:=λu hu=>by have:=Fm.pH hu;omega
  obtain⟨op,n,a,s⟩:=t;rw[pW,Fm.e0];have:=Tm.o4 (d:=d) (l:=(a.getD []).map (plT b0)) λu hu=>by
   obtain⟨x,hx,rfl⟩:=di.1 hu;exact CG d x (ak x hx)
  have:=Fm.o4 (d:=d) (l:=(s.getD []).map (plF b0)) λu hu=>by
   obtain⟨x,hx,rfl⟩:=di.1 hu;exact CH d x (hK x hx)
  show max (Tm.cv ((nz _).getD [])) (Fm.cv ((nz _).getD []))+1<=_;rw[uc,uc];omega
def LI{bd:ix}{ins:List (List Nat)}:∀(d:Nat) (t:Tm),t.dep<=d->(ivT bd ins t).dep<=d
 |0,t,h=>by rw[Tm.e0] at h;omega
 |d+1,t,h=>by
  have ak:∀u∈t.args,u.dep<=d:=λu hu=>by have:=Tm.l9 hu;omega
  obtain⟨v,n,a⟩:=t;cases v with
  |true=>rw[Lv,Tm.e0];show Tm.cv []+1<=_;rw[Tm.cv];omega
  |false=>
   rw[Lu,Tm.e0];have:=Tm.o4 (d:=d) (l:=(a.getD []).map (ivT bd ins)) λu hu=>by
    obtain⟨x,hx,rfl⟩:=di.1 hu;exact LI d x (ak x hx)
   show Tm.cv ((nz _).getD [])+1<=_;rw[uc];omega
def RS{bd:ix}:∀(d:Nat) (t:Fm) (ins:List (List Nat)),t.dep<=d->(ivF bd ins t).dep<=d
 |0,t,_,h=>by rw[Fm.e0] at h;omega
 |d+1,t,ins,h=>by
  have ak:∀u∈t.args,u.dep<=d:=λu hu=>by have:=Fm.l9 hu;omega
  have hK:∀u∈t.sub,u.dep<=d:=λu hu=>by have:=Fm.pH hu;omega
  obtain⟨op,n,a,s⟩:=t;rw[q5,Fm.e0];have:=Tm.o4 (d:=d) (l:=(a.getD []).map (ivT bd ins)) λu hu=>by
   obtain⟨x,hx,rfl⟩:=di.1 hu;exact LI d x (ak x hx)
  have:=Fm.o4 (d:=d) (l:=(s.getD []).map (ivF bd (kT op n ins))) λu hu=>by
   obtain⟨x,hx,rfl⟩:=di.1 hu;exact RS d x _ (hK x hx)
  show max (Tm.cv ((nz _).getD [])) (Fm.cv ((nz _).getD []))+1<=_;rw[uc,uc];omega
def a1x{l m:List (List Nat)}(h:iw l=iw m):l=m:=by
 have:=b4Q h;exact List.map_inj_right (f:=AV.s) (λa b h=>by injection h) |>.1 this
def b9a:h4:=⟨l_,Tm,λt=>[.ad (bs true t)],λt=>.ad (bs false (lz t)),λx y h=>by rw[LG (Ai h)]⟩
def a1y:h4:=⟨lu,Fm,λt=>[.ad (bm t)],λt=>.ad (cV (kg t)),λx y h=>by rw[Gr (Ai h)]⟩
def b9b(b0:List Nat->Bool):h4:=⟨nt,List Nat,λn=>[.s n],λn=>.b (b0 n),λx y h=>by have:=Ai h;injection this with this;rw[this]⟩
def b9c(b0:List Nat->Bool):h4:=⟨qY,Tm,λt=>[.ad (bs true t)],λt=>.ad (bs false (plT b0 t)),λx y h=>by rw[LG (Ai h)]⟩
def b9d(b0:List Nat->Bool):h4:=⟨sn,Fm,λt=>[.ad (bm t)],λt=>.ad (cV (plF b0 t)),λx y h=>by rw[Gr (Ai h)]⟩
def b9e:h4:=⟨qX,List Nat,λn=>[.s n],λn=>.s (63::n),λx y h=>by have:=Ai h;injection this with this;rw[this]⟩
def b9f:h4:=⟨ma,List Nat,λn=>[.s n],λn=>.ad [.b true,.s n,.aj],λx y h=>by have:=Ai h;injection this with this;rw[this]⟩
def b9g(S F:Fm)(bd:ix):h4:=⟨xH,List Nat,λn=>[ju S F bd,.s n],λn=>.a6 [.s (ke bd n),.b true],λx y h=>by have:=(Gp h).2;injection this with this;rw[this]⟩
def b9h(S F:Fm)(bd:ix):h4:=⟨qW,Tm×List (List Nat),λx=>[ju S F bd,.ad (bs true x.1),iw x.2],λx=>.a6 [.ad (bs false (ivT bd x.2 x.1)),.b true],λx y h=>by have h:=Gq h;rw[LG h.2.1,a1x h.2.2]⟩
def b9i(S F:Fm)(bd:ix):h4:=⟨pN,Fm×List (List Nat),λx=>[ju S F bd,.ad (bm x.1),iw x.2],λx=>.a6 [.ad (cV (ivF bd x.2 x.1)),.b true],λx y h=>by have h:=Gq h;rw[Gr h.2.1,a1x h.2.2]⟩
def Gs(b0:List Nat->Bool)(S F:Fm)(bd:ix):List h4:=[b9a,a1y,b9b b0,b9c b0,b9d b0,b9e,b9f,b9g S F bd,b9h S F bd,b9i S F bd]
def b9j(b0:List Nat->Bool)(S F:Fm)(bd:ix):(Gs b0 S F bd).map h4.g=[l_,lu,nt,qY,sn,qX,ma,xH,qW,pN]:=rfl
abbrev m1(P:Program)(b:b8)(b0:List Nat->Bool)(S F:Fm)(bd:ix):=e1 P b (Gs b0 S F bd)
structure Gt(b:b8):Prop where
 a1z:dF b FM Ks
 b9k:dF b KM Qv
 RT:dF b FN Kh
 cont:dF b FR Kp
 index:dF b FT Kw
 RU:gl b l_ Kt
 LJ:gl b lu Kl
 RV:b.ext nt=0/\b.pure nt=true
 RW:gl b qY Ke
 plain:gl b sn Kd
 b9l:b.ext qX=0/\b.pure qX=true
 b9m:b.ext ma=0/\b.pure ma=true
 a1A:gl b xH Kq
 RX:gl b qW Ki
 Aj:gl b pN Kg
section
variable {P:Program}{b:b8}(hb:jb P b)(br:Gt b){b0:List Nat->Bool}{S F:Fm}{bd:ix}
def m1.fn:∀g aB r bS,m1 P b b0 S F bd g aB r->m1 P b b0 S F bd g aB bS->r=bS:=e1.fn (by rw[b9j];decide)
include hb br
theorem a1B{V:List Nat->Prop}:∀(d:Nat) (t:Tm),d<=400->Tm.cL V d t->m1 P b b0 S F bd l_ [.ad (bs true t)] (.ad (bs false (lz t)))
 |0,_,_,h=>h.elim
 |d+1,t,an,h=>by
  have ht:=Tm.jw h;have ak:∀u∈t.args,u.dep<=d:=λu hu=>Tm.jw (h.2.2 u hu);exact jI 0 I t I I I (nw hb e1.ok _ br.RU.1 I I I (ub (d+1) _ (CG _ _ ht) (2*d+3) U).1 (ub (d+1) _ (CG _ _ ht) 1000 U).2
   (b8B m1.fn br.a1z.h br.RU.2 t h.1 (λu hu ah=>pY (ak u hu) U ah) (λu hu=>a1B d u U (h.2.2 u hu)) _ I))
theorem RY{V:List Nat->Prop}:∀(d:Nat) (t:Fm),d<=400->Fm.cL V d t->m1 P b b0 S F bd lu [.ad (bm t)] (.ad (cV (kg t)))
 |0,_,_,h=>h.elim
 |d+1,t,an,h=>by
  have ht:=Fm.jw h;have ak:∀u∈t.args,u.dep<=d:=λu hu=>Tm.jw (h.2.2.1 u hu);have hK:∀u∈t.sub,u.dep<=d:=λu hu=>Fm.jw (h.2.2.2 u hu);exact jI 1 I t I I I (nw hb e1.ok _ br.LJ.1 I I I (q8 (d+1) _ (CH _ _ ht) (2*d+3) U).1 (q8 (d+1) _ (CH _ _ ht) 1000 U).2
   (b8D m1.fn br.a1z.h br.b9k.h br.RU.2 br.LJ.2 t h.1 h.2.1 (λah=>xt (k:=b.a2+999) λx hx=>Fm.snap ah true d x _ (hK x hx) U) (λu hu ah=>pY (ak u hu) U ah) (λu hu=>a1B hb br d u U (h.2.2.1 u hu)) (λu hu ah=>q9 (hK u hu) U ah) (λu hu=>RY d u U (h.2.2.2 u hu)) _ I))
theorem a1C{V:List Nat->Prop}(Ad:∀n,b0 n=true->∃x,n=63::x)(hV:∀n,V n->dd P b nt [.s n] (.b (b0 n))):∀(d:Nat) (t:Tm),d<=400->Tm.cL V d t->m1 P b b0 S F bd qY [.ad (bs true t)] (.ad (bs false (plT b0 t)))
 |0,_,_,h=>h.elim
 |d+1,t,an,h=>by
  have ht:=Tm.jw h;have ak:∀u∈t.args,u.dep<=d:=λu hu=>Tm.jw (h.2.2 u hu);have:=h.1;exact jI 3 I t I I I (nw hb e1.ok _ br.RW.1 I I I (ub (d+1) _ (CG _ _ ht) (2*d+3) U).1 (ub (d+1) _ (CG _ _ ht) 1000 U).2
   (b8u m1.fn b0 Ad br.RV br.RW.2 t U (λau=>jI 2 I t.name I I I (hV _ (h.2.1 au))) (λu hu ah=>pY (ak u hu) U ah) (λu hu=>a1C Ad hV d u U (h.2.2 u hu)) _ I))
theorem a1D{V:List Nat->Prop}(Ad:∀n,b0 n=true->∃x,n=63::x)(hV:∀n,V n->dd P b nt [.s n] (.b (b0 n))):∀(d:Nat) (t:Fm),d<=400->Fm.cL V d t->m1 P b b0 S F bd sn [.ad (bm t)] (.ad (cV (plF b0 t)))
 |0,_,_,h=>h.elim
 |d+1,t,an,h=>by
  have ht:=Fm.jw h;have ak:∀u∈t.args,u.dep<=d:=λu hu=>Tm.jw (h.2.2.1 u hu);have hK:∀u∈t.sub,u.dep<=d:=λu hu=>Fm.jw (h.2.2.2 u hu);have:=h.1;have:=h.2.1;exact jI 4 I t I I I (nw hb e1.ok _ br.plain.1 I I I (q8 (d+1) _ (CH _ _ ht) (2*d+3) U).1 (q8 (d+1) _ (CH _ _ ht) 1000 U).2
   (b8x m1.fn b0 br.RW.2 br.plain.2 t U U (λu hu ah=>pY (ak u hu) U ah) (λu hu=>a1C hb br Ad hV d u U (h.2.2.1 u hu)) (λu hu ah=>q9 (hK u hu) U ah) (λu hu=>a1D Ad hV d u U (h.2.2.2 u hu)) _ I))
end
def RZ{f:AV->Option AV}:∀ {l m bq aK:List AV},mapO f l=some bq->mapO f m=some aK->mapO f (l++m)=some (bq++aK)
 |[],m,bq,aK,h,h'=>by cases h;exact h'
 |x::l,m,bq,aK,h,h'=>by
  rw[dg] at h;rw[qz,dg];cases hx:f x with
  |none=>rw[hx] at h;cases h
  |some y=>
   rw[hx] at h;cases ao:mapO f l with
   |none=>rw[ao] at h;cases h
   |some a4=>rw[ao] at h;cases h;rw[RZ ao h'];rfl
def a1E{d n:Nat}{t:Fm}(h:t.dep<=d)(hn:2*d+2<=n)(ah:ag):mapO (bp ah n) (bm t)=some (bm t):=by
 have:=q9 h (n:=n+1) U ah;rw[snapshot_succ] at this;simp only[] at this;cases hm:mapO (bp ah n) (bm t) with
 |none=>rw[hm] at this;cases this
 |some l=>rw[hm] at this;injection this with this;injection this with this;rw[this]
def b9n(bd:ix)(n:Nat)(ah:ag):bp ah (n+3) (nB bd)=some (nB bd):=by
 match bd with
 |none=>rfl
 |some (x,v)=>rfl
def a1F{d:Nat}{S F:Fm}(cg:S.dep<=d)(bB:F.dep<=d)(bd:ix){n:Nat}(hn:2*d+6<=n)(ah:ag):bp ah n (ju S F bd)=some (ju S F bd):=by
 obtain⟨n,rfl⟩:∃m,n=m+4:=⟨n-4,U⟩
 rw[snapshot_succ];simp only[];rw[RZ (a1E cg U ah) (RZ (a1E bB U ah) (by rw[dg,b9n];rfl:mapO (bp ah (n+3)) [nB bd]=some [nB bd]))]
def a1G(l:List (List Nat))(n:Nat)(ah:ag):bp ah (n+2) (iw l)=some (iw l):=by
 cases l with
 |nil=>rfl
 |cons x l=>
  show bp ah (n+2) (.aR true none ((x::l).map AV.s))=_;rw[snapshot_succ];simp only[];rw[Gf λy aI=>by obtain⟨x,_,rfl⟩:=di.1 aI;rfl];rfl
section
variable {P:Program}{b:b8}(hb:jb P b)(br:Gt b){b0:List Nat->Bool}{S F:Fm}{bd:ix}
include hb br
theorem b9o(k7:∀x v,bd=some (x,v)->dd P b qX [.s x] (.s (63::x)))(n:List Nat):m1 P b b0 S F bd xH [ju S F bd,.s n] (.a6 [.s (ke bd n),.b true]):=by
 have al:fN 3 (.a6 [.s (ke bd n),.b true]):=.a6 (n:=2) λx hx=>by
  simp only[eH,mJ,or_false] at hx;rcases hx with rfl|rfl
  ·exact .s _
  ·exact .leaf I I
 have nV:fN 1000 (.a6 [.s (ke bd n),.b true]):=.a6 (n:=999) λx hx=>by
  simp only[eH,mJ,or_false] at hx;rcases hx with rfl|rfl
  ·exact .s _
  ·exact .leaf I I
 exact jI 7 I n I I I (nw hb (e1.ok (bO:=Gs b0 S F bd)) _ br.a1A.1 I I I al.1 nV.2 (b8k m1.fn S F bd n br.b9l (λx v e=>jI 5 I x I I I (k7 x v e)) _ I))
theorem LK{n:Nat}{v:AV}(h:fN n v)(hn:0<n):fN (n+1) (.a6 [v,.b true]):=.a6 λx hx=>by
 simp only[eH,mJ,or_false] at hx;rcases hx with rfl|rfl
 ·exact h
 ·obtain⟨n,rfl⟩:∃m,n=m+1:=⟨n-1,U⟩
  exact .leaf I I
theorem a1H{V:List Nat->Prop}{D:Nat}(cg:S.dep<=D)(bB:F.dep<=D)(fo:D<=400)(k7:∀x v,bd=some (x,v)->dd P b qX [.s x] (.s (63::x)))(hV:∀n,V n->dd P b ma [.s n] (.ad [.b true,.s n,.aj])/\dd P b ma [.s (ke bd n)] (.ad [.b true,.s (ke bd n),.aj])):
  ∀(d:Nat) (t:Tm) (ins:List (List Nat)),d<=400->ins.length<2^30->Tm.cL V d t->m1 P b b0 S F bd qW [ju S F bd,.ad (bs true t),iw ins] (.a6 [.ad (bs false (ivT bd ins t)),.b true])
 |0,_,_,_,_,h=>h.elim
 |d+1,t,ins,an,hi,h=>by
  have ht:=Tm.jw h;have ak:∀u∈t.args,u.dep<=d:=λu hu=>Tm.jw (h.2.2 u hu);have:=h.1;exact jI 8 I (t,ins) I I I (nw hb (e1.ok (bO:=Gs b0 S F bd)) _ br.RX.1 I I I (LK hb br (ub (d+1) _ (LI _ _ ht) (2*d+3) U) U).1 (LK hb br (ub (d+1) _ (LI _ _ ht) 999 U) U).2
   (b8m m1.fn S F bd ins (λah=>a1F cg bB bd U ah) (λah=>a1G ins (b.a2+998) ah) U br.cont.h br.index.h br.a1A.2 br.b9m br.RX.2 t U (λ_=>b9o hb br k7 t.name)
    (λau aD e=>by rcases e with rfl|rfl;exact jI 6 I _ I I I (hV _ (h.2.1 au)).1;exact jI 6 I _ I I I (hV _ (h.2.1 au)).2) (λu hu ah=>pY (ak u hu) U ah) (λu hu=>a1H cg bB fo k7 hV d u ins U hi (h.2.2 u hu)) _ I))
theorem R0{V:List Nat->Prop}{D:Nat}(cg:S.dep<=D)(bB:F.dep<=D)(fo:D<=400)(k7:∀x v,bd=some (x,v)->dd P b qX [.s x] (.s (63::x)))(hV:∀n,V n->dd P b ma [.s n] (.ad [.b true,.s n,.aj])/\dd P b ma [.s (ke bd n)] (.ad [.b true,.s (ke bd n),.aj])):
  ∀(d:Nat) (t:Fm) (ins:List (List Nat)),d<=400->ins.length+d<2^30->Fm.cL V d t->m1 P b b0 S F bd pN [ju S F bd,.ad (bm t),iw ins] (.a6 [.ad (cV (ivF bd ins t)),.b true])
 |0,_,_,_,_,h=>h.elim
 |d+1,t,ins,an,hi,h=>by
  have ht:=Fm.jw h;have ak:∀u∈t.args,u.dep<=d:=λu hu=>Tm.jw (h.2.2.1 u hu);have hK:∀u∈t.sub,u.dep<=d:=λu hu=>Fm.jw (h.2.2.2 u hu);have:=h.1;have:=h.2.1;have aP:(kT t.op t.name ins).length<=ins.length+1:=by unfold kT;split<;>simp
  exact jI 9 I (t,ins) I I I (nw hb (e1.ok (bO:=Gs b0 S F bd)) _ br.Aj.1 I I I (LK hb br (q8 (d+1) _ (RS _ _ _ ht) (2*d+3) U) U).1 (LK hb br (q8 (d+1) _ (RS _ _ _ ht) 999 U) U).2
   (b8r m1.fn S F bd ins (λah=>a1F cg bB bd U ah) (λah=>a1G ins (b.a2+998) ah) U br.RT.h br.RX.2 br.Aj.2 t U U
    (λu hu ah=>pY (ak u hu) U ah) (λu hu=>a1H hb br cg bB fo k7 hV d u ins U U (h.2.2.1 u hu))
    (λu hu ah=>q9 (hK u hu) U ah) (λu hu=>R0 cg bB fo k7 hV d u _ U U (h.2.2.2 u hu)) _ I))
end
def dd.fF{P:Program}{b:b8}{g:Nat}{aB:List AV}{n bX hi:Nat}(h:dd P b g aB (aw n))(h1:bX<=n)(h2:n<=hi):dd P b g aB (.fF bX hi):=λbN=>
 ⟨(h bN).1,λk rd w us eu cc hR=>((h bN).2 k rd w us eu cc hR).mono λe bf ⟨u,aF,aV,dp⟩=>⟨u,aF,by cases aV;exact .fF n h1 h2,dp⟩⟩
def Tm.Gu{V:List Nat->Prop}:∀ {d:Nat} {t:Tm},Tm.cL V d t->t.fA
 |0,_,h=>h.elim
 |d+1,t,h=>by
  obtain⟨v,n,a⟩:=t;have:=h.1;exact .mk (show(a.getD []).length<2^62 from u7 this eI) λx hx=>Tm.Gu (h.2.2 x hx)
def Fm.Gu{V:List Nat->Prop}:∀ {d:Nat} {t:Fm},Fm.cL V d t->t.fA
 |0,_,h=>h.elim
 |d+1,t,h=>by
  obtain⟨op,n,a,s⟩:=t;exact .mk (show(a.getD []).length<2^62 from u7 h.1 eI) (λx hx=>Tm.Gu (h.2.2.1 x hx)) (show(s.getD []).length<2^62 from u7 h.2.1 eI) λx hx=>Fm.Gu (h.2.2.2 x hx)
structure R1(b:b8):Prop where
 count:dF b KN Qu
 b9p:dF b Cn Kx
 R2:dF b xB zI
 visit:dF b qT sd
 LL:dF b pM tD
 walk:dF b tG vz
 b9q:gl b Cl Kk
 Gv:gl b sj Kr
 occs:gl b tI Kj
def b9r(s:List Nat):h4:=⟨sj,Option (List Tm),λa=>[cy true a,.s s],λa=>aw (ocTs s (a.getD [])),λx y h=>by rw[E0 (Gp h).1]⟩
def b9s(s:List Nat):h4:=⟨tI,Fm,λt=>[.ad (bm t),.s s],λt=>aw (ocF s t),λx y h=>by rw[Gr (Gp h).1]⟩
def xZ(s:List Nat):List h4:=[b9r s,b9s s]
def b9t(s:List Nat):(xZ s).map h4.g=[sj,tI]:=rfl
def R3{P:Program}{b:b8}{s:List Nat}:∀g aB r bS,e1 P b (xZ s) g aB r->e1 P b (xZ s) g aB bS->r=bS:=e1.fn (by rw[b9t];decide)
def R4{α:Type}{f:α->Nat}:∀ {l:List α} {x:α},x∈l->f x<=(l.map f).sum
 |y::l,x,h=>by
  rw[mv,List.sum_cons];rcases eH.1 h with rfl|h
  ·omega
  ·have:=R4 (f:=f) h;omega
section
variable {P:Program}{b:b8}(hb:jb P b)(br:R1 b)
include hb br
theorem b9u{V:List Nat->Prop}{d:Nat}{F:Fm}(h:Fm.cL V d F)(hs:lB F<2^60):dd P b Cl [.ad (bm F)] (aw (lB F)):=
 nw hb (e1.ok (bO:=[])) _ br.b9q.1 I I I (fN.aw (n:=3) _).1 (fN.aw (n:=999) _).2 (b8L br.count.h br.b9p.h br.R2.h br.visit.h br.LL.h br.walk.h F (Fm.Gu h) hs _ I)
theorem a1I{V:List Nat->Prop}{s:List Nat}:∀(d:Nat) (a:Option (List Tm)),d<=400->(a.getD []).length<2^20->(∀u∈a.getD [],Tm.cL V d u)->ocTs s (a.getD [])<2^60->e1 P b (xZ s) sj [cy true a,.s s] (aw (ocTs s (a.getD [])))
 |0,a,_,ao,h,hs=>by
  have h0:a.getD []=[]:=Py.2 λu hu=>(h u hu).elim;exact jI 0 I a I I I (nw hb (e1.ok (bO:=xZ s)) _ br.Gv.1 I I I (fN.aw (n:=3) _).1 (fN.aw (n:=999) _).2 (a0W R3 s a br.Gv.2 U U (λu hu=>by rw[h0] at hu;cases hu) (λu hu=>by rw[h0] at hu;cases hu) _ rfl))
 |d+1,a,an,ao,h,hs=>by
  have hle:∀u∈a.getD [],ocTs s u.args<2^60:=λu hu=>by
   rw[RB] at hs;have:=R4 (f:=ocT s) hu;rw[a0U] at this;omega
  exact jI 0 I a I I I (nw hb (e1.ok (bO:=xZ s)) _ br.Gv.1 I I I (fN.aw (n:=3) _).1 (fN.aw (n:=999) _).2 (a0W R3 s a br.Gv.2 U U
   (λu hu ah=>xt (k:=b.a2+999) λx hx=>Tm.snap ah true d x _ (Tm.jw ((h u hu).2.2 x hx)) U) (λu hu=>a1I d u.cP U (h u hu).1 (λx hx=>(h u hu).2.2 x hx) (hle u hu)) _ I))
theorem R5{V:List Nat->Prop}{s:List Nat}:∀(d:Nat) (t:Fm),d<=400->Fm.cL V d t->ocF s t<2^60->e1 P b (xZ s) tI [.ad (bm t),.s s] (aw (ocF s t))
 |0,_,_,h,_=>h.elim
 |d+1,t,an,h,hs=>by
  have hK:∀u∈t.sub,u.dep<=d:=λu hu=>Fm.jw (h.2.2.2 u hu);have he:=a0V s t;rw[RC] at he;have ll:ocTs s (t.cP.getD [])<2^60:=by have:ocTs s (t.cP.getD [])=ocTs s t.args:=rfl;omega
  have hle:∀u∈t.sub,ocF s u<2^60:=λu hu=>by
   have:=R4 (f:=ocF s) hu;omega
  have:=h.2.1;exact jI 1 I t I I I (nw hb (e1.ok (bO:=xZ s)) _ br.occs.1 I I I (fN.aw (n:=3) _).1 (fN.aw (n:=999) _).2 (b8h R3 s t br.occs.2 br.Gv.2 U U
   (λah=>xt (k:=b.a2+999) λx hx=>Tm.snap ah true d x _ (Tm.jw (h.2.2.1 x hx)) U) (λu hu ah=>q9 (hK u hu) U ah) (a1I hb br d t.cP U h.1 h.2.2.1 ll) (λu hu=>R5 d u U (h.2.2.2 u hu) (hle u hu)) _ I))
end
def a1J{b:b8}{t:Tm}(ht:t.dep<=5)(ah:ag):bp ah (b.a2+998) (cy true t.cP)=some (cy true t.cP):=xt (k:=b.a2+997) λx hx=>Tm.snap ah true 5 x _ (by have:x∈t.args:=hx;have:=Tm.l9 this;omega) U
def b9v(name:List Nat)(t:Tm)(dw:Tm->Tm):h4:=⟨pO,Tm,λu=>[.ad (bs true u),Ah name t],λu=>.ad (bs false (dw u)),λx y h=>by rw[LG (Gp h).1]⟩
def b9w(name:List Nat)(t:Tm)(dw:Tm->Tm)(ai:Fm->List (List Nat)):h4:=⟨sm,Fm,λu=>[.ad (bm u),.s name,.ad (bs true t)],λu=>.ad (cV (ptF name dw ai u)),λx y h=>by rw[Gr (Gq h).1]⟩
def q_(name:List Nat)(t:Tm)(dw:Tm->Tm)(ai:Fm->List (List Nat)):List h4:=[a1y,b9v name t dw,b9w name t dw ai]
def a1K(name:List Nat)(t:Tm)(dw:Tm->Tm)(ai:Fm->List (List Nat)):(q_ name t dw ai).map h4.g=[lu,pO,sm]:=rfl
def Fm.Gw(eJ:List (List Nat))(Q:Tm->Prop)(az:Fm->Prop):Nat->Fm->Prop
 |0,_=>False
 |d+1,t=>(mg t->∃s,t.d_=some [s]/\t.name∉eJ/\az s)/\(∀u∈t.args,Q u)/\∀u∈t.sub,Fm.Gw eJ Q az d u
def Gx{name:List Nat}{dw:Tm->Tm}{ai:Fm->List (List Nat)}(vY:∀d u,u.dep<=d->(dw u).dep<=d):∀(d:Nat) (t:Fm),t.dep<=d->(ptF name dw ai t).dep<=d
 |0,t,h=>by rw[Fm.e0] at h;omega
 |d+1,t,h=>by
  have ak:∀u∈t.args,u.dep<=d:=λu hu=>by have:=Fm.l9 hu;omega
  have hK:∀u∈t.sub,u.dep<=d:=λu hu=>by have:=Fm.pH hu;omega
  have ar:∀u∈t.sub,(ptF name dw ai u).dep<=d:=λu hu=>Gx vY d u (hK u hu);obtain⟨op,n,a,s⟩:=t;have key:(Fm.mk op n (nz ((a.getD []).map dw)) (nz ((s.getD []).map (ptF name dw ai)))).dep<=d+1:=by
   rw[Fm.e0];have:=Tm.o4 (d:=d) (l:=(a.getD []).map dw) λu hu=>by
    obtain⟨x,hx,rfl⟩:=di.1 hu;exact vY d x (ak x hx)
   have:=Fm.o4 (d:=d) (l:=(s.getD []).map (ptF name dw ai)) λu hu=>by
    obtain⟨x,hx,rfl⟩:=di.1 hu;exact ar x hx
   show max (Tm.cv ((nz _).getD [])) (Fm.cv ((nz _).getD []))+1<=_;rw[uc,uc];omega
  cases s with
  |none=>rw[ptF];exact key
  |some l=>
   rw[ptF];split
   ·exact CH (d+1) _ h
   ·rw[LF];exact key
def b9x(args:List AV):extRow 7 args=none:=rfl
def bw.obj{env:Env}{floor:Nat}{J:ag}{g:Nat}{args aB:List AV}{v:AV}{os:List AO}{Q:cQ->ag->Prop}(he:env.ext g=7)(ha:mapO (bp J env.a2) args=some aB)(ak:env.qk g aB=some (v,os))(h:Q (.ok (s3 J.next v)) (lI J.next os J)):bw env floor (.f (.func g) [] []) args J Q:=by
 refine df.one (x:=(.ok (s3 J.next v),lI J.next os J)) (λF=>?_) h;show callF env (exec env F) floor g ([]++args++[]) J=_;rw[qA,fp];unfold callF;rw[he];show(match extRow 7 args with|some v=>some [((.ok v:cQ),J)]|none=>(match(match mapO (bp J env.a2) args with|some aB=>env.qk g aB|none=>none) with|some (v,os)=>some [(.ok (s3 J.next v),lI J.next os J)]|none=>none))=_;rw[b9x,ha];show(match env.qk g aB with|some (v,os)=>some [((.ok (s3 J.next v):cQ),lI J.next os J)]|none=>none)=_;rw[ak]
abbrev j0:=Nat×List AV×AV×List (List AV)
def kh(P:Program)(b:b8)(e:j0):Prop:=∀bN,zk P (b.env []) bN e.1 e.2.1 e.2.2.1 (e.2.2.2.map AO.cells)
def sC(t:List j0)(g:Nat)(aB:List AV):Option (AV×List AO):=
 List.rec none (λe _ ar=>cond (Nat.beq e.1 g) (cond (fv (AV.eqb 1000) aB e.2.1) (some (e.2.2.1,e.2.2.2.map AO.cells)) ar) ar) t
def a1L{g:Nat}{aB:List AV}{r:AV×List AO}:∀ {t:List j0},sC t g aB=some r->∃e∈t,e.1=g/\e.2.1=aB/\r=(e.2.2.1,e.2.2.2.map AO.cells)
 |[],h=>by cases h
 |e::t,h=>by
  replace h:cond (Nat.beq e.1 g) (cond (fv (AV.eqb 1000) aB e.2.1) (some (e.2.2.1,e.2.2.2.map AO.cells)) (sC t g aB)) (sC t g aB)=some r:=h;have rest:sC t g aB=some r->∃cp∈e::t,cp.1=g/\cp.2.1=aB/\r=(cp.2.2.1,cp.2.2.2.map AO.cells):=λh=>by
   obtain⟨cp,h1,h2⟩:=a1L h;exact⟨cp,fP _ h1,h2⟩
  cases h1:Nat.beq e.1 g with
  |false=>rw[h1,cond_false] at h;exact rest h
  |true=>
   rw[h1,cond_true] at h;cases h2:fv (AV.eqb 1000) aB e.2.1 with
   |false=>rw[h2,cond_false] at h;exact rest h
   |true=>
    rw[h2,cond_true] at h;cases h;exact⟨e,oq ..,eM h1,(BD (AV.qF 1000) _ _ h2).symm,rfl⟩
abbrev b8.b2(b:b8)(t:List j0):b8:={b with qk:=sC t}
def jb.b2{P:Program}{b:b8}(hb:jb P b){t:List j0}(ht:∀e∈t,kh P b e):jb P (b.b2 t):=⟨hb.funcs,⟨hb.ext.1,λg aB v os h bN=>by
 obtain⟨e,h1,rfl,rfl,aN⟩:=a1L h;cases aN;exact ht e h1 bN⟩,hb.vo⟩
def kh.of{P:Program}{b:b8}{t:List j0}{e:j0}(h:kh P (b.b2 t) e):kh P b e:=h
def pZ:List (List Nat)->AV
 |[]=>.aj
 |x::l=>.aq 0 0 (x::l).length none none
def ra:List (List Nat)->List (List AV)
 |[]=>[]
 |x::l=>[(x::l).map AV.s]
abbrev Gy(u:Fm)(l:List (List Nat)):j0:=(sl,[.ad (bm u)],pZ l,ra l)
def a1M(N:Nat):∀l:List (List Nat),(l.map AV.s).map (uU N)=l.map AV.s
 |[]=>rfl
 |x::l=>by rw[mv,mv,a1M N l];rfl
def a1N:∀l:List (List Nat),(l.map AV.s).flatMap AV.cells=l.map AV.s
 |[]=>rfl
 |x::l=>by rw[mv,j4,a1N l];rfl
def R6{b:b8}{K:Nat->List AV->AV->Prop}{cT:List j0}{g:Nat}(rX:b.ext g=7){x:AV}(l:List (List Nat))(hx:∀J,bp J (b.a2+1000) x=some x)(ak:sC cT g [x]=some (pZ l,(ra l).map AO.cells))(J:ag):bw ((b.b2 cT).aQ K) 0 (.f (.func g) [] []) [x] J (λr ah=>∃v,r= .ok v/\Sl ah none v (l.map AV.s)/\J.next<=ah.next/\∀i o,J.get i=some o->ah.get i=some o):=by
 refine bw.obj (env:=(b.b2 cT).aQ K) rX (fZ (hx J)) ak ?_;cases l with
 |nil=>exact⟨_,rfl,.nil,b6 _,λ_ _ h=>h⟩
 |cons x l=>
  have hn:(lI J.next [AO.cells ((x::l).map AV.s)] J).next=J.next+1:=by rw[O3];rfl
  refine⟨_,rfl,?_,by show J.next<=(lI J.next [AO.cells ((x::l).map AV.s)] J).next;omega,λi o h=>?_⟩
  ·have hg:(lI J.next [AO.cells ((x::l).map AV.s)] J).get J.next=some (.cells ((x::l).map AV.s)):=by
    rw[Jc,if_neg U,wN];show some (AO.cells (((x::l).map AV.s).map (uU J.next)))=_;rw[a1M]
   have:=Sl.aq (J:=lI J.next [AO.cells ((x::l).map AV.s)] J) (R:=none) J.next none ((x::l).map AV.s) [] (by rw[a1N,fp];exact hg) (λy aI=>by obtain⟨z,_,rfl⟩:=di.1 aI;rfl) (.inl I);rw[cb] at this;have e:s3 J.next (pZ (x::l))= .aq J.next 0 (x::l).length none none:=by
    show AV.aq (0+J.next) 0 (x::l).length none none=_;rw[lQ]
   rw[e];exact this
  ·show(lI J.next [AO.cells ((x::l).map AV.s)] J).get i=some o;rw[Jc,if_pos (ag.cJ h)];exact h
def dd.b2{P:Program}{b:b8}{t:List j0}{g:Nat}{aB:List AV}{r:AV}:dd P (b.b2 t) g aB r↔dd P b g aB r:=⟨λh bN=>h bN,λh bN=>h bN⟩
def e1.b2{P:Program}{b:b8}{t:List j0}{bO:List h4}{g:Nat}{aB:List AV}{r:AV}:e1 P (b.b2 t) bO g aB r↔e1 P b bO g aB r:=⟨λh=>⟨dd.b2.1 h.1,h.2⟩,λh=>⟨dd.b2.2 h.1,h.2⟩⟩
abbrev o5(t:Tm)(l:List (List Nat)):j0:=(oX,[.ad (bs true t)],pZ l,ra l)
def tabQ(ai:Fm->List (List Nat))(t:Tm)(eJ:List (List Nat))(G:Fm):List j0:=
 match G.d_ with
 |some [s]=>[o5 t eJ,Gy s (ai s)]
 |_=>[o5 t eJ]
def a1O(ai:Fm->List (List Nat)){t:Tm}(ht:t.dep<=5)(eJ:List (List Nat))(G:Fm):sC (tabQ ai t eJ G) oX [.ad (bs true t)]=some (pZ eJ,(ra eJ).map AO.cells):=by
 have key:∀l,sC (o5 t eJ::l) oX [.ad (bs true t)]=some (pZ eJ,(ra eJ).map AO.cells):=λl=>by
  show cond (Nat.beq oX oX) (cond (fv (AV.eqb 1000) [.ad (bs true t)] [.ad (bs true t)]) (some (pZ eJ,(ra eJ).map AO.cells)) (sC l oX [.ad (bs true t)])) (sC l oX [.ad (bs true t)])=_;rw[fE,cond_true,pG (λx hx=>by rw[dx.1 hx];exact Snp.eqb _ _ λJ=>pY ht U J),cond_true]
 unfold tabQ;split
 ·exact key _
 ·exact key _
def b9y(ai:Fm->List (List Nat)){t:Tm}(eJ:List (List Nat)){G s:Fm}(ak:G.d_=some [s])(an:s.dep<=400):sC (tabQ ai t eJ G) sl [.ad (bm s)]=some (pZ (ai s),(ra (ai s)).map AO.cells):=by
 unfold tabQ;rw[ak];show cond (Nat.beq sl sl) (cond (fv (AV.eqb 1000) [.ad (bm s)] [.ad (bm s)]) (some (pZ (ai s),(ra (ai s)).map AO.cells)) none) none=_;rw[fE,cond_true,pG (λx hx=>by rw[dx.1 hx];exact Snp.eqb _ _ λJ=>q9 an U J),cond_true]
section
variable {P:Program}{b:b8}(hb:jb P b)(br:Gt b)
include hb br
theorem R7{V:List Nat->Prop}{name:List Nat}{t:Tm}{dw:Tm->Tm}{ai:Fm->List (List Nat)}{eJ:List (List Nat)}{Q:Tm->Prop}(ay:gl b sm Fq)(ua:b.ext pO=0/\b.pure pO=true)(CI:b.ext oX=7)(rX:b.ext sl=7)
  (ht:t.dep<=5) (vY:∀d u,u.dep<=d->(dw u).dep<=d) (x0:kh P b (o5 t eJ)) (Gm:eJ.length<2^20) (nD:∀u,Q u->dd P b pO [.ad (bs true u),Ah name t] (.ad (bs false (dw u)))):
  ∀(d:Nat) (G:Fm),d<=400->Fm.cL V d G->Fm.Gw eJ Q (λs=>(ai s).length<2^20/\kh P b (Gy s (ai s))) d G->e1 P b (q_ name t dw ai) sm [.ad (bm G),.s name,.ad (bs true t)] (.ad (cV (ptF name dw ai G)))
 |0,_,_,h,_=>h.elim
 |d+1,G,an,h,aP=>by
  have cc:=Fm.jw h;have ak:∀u∈G.args,u.dep<=d:=λu hu=>Tm.jw (h.2.2.1 u hu);have hK:∀u∈G.sub,u.dep<=d:=λu hu=>Fm.jw (h.2.2.2 u hu);have hfn:∀g aB r bS,e1 P (b.b2 (tabQ ai t eJ G)) (q_ name t dw ai) g aB r->e1 P (b.b2 (tabQ ai t eJ G)) (q_ name t dw ai) g aB bS->r=bS:=e1.fn (by rw[a1K];decide);have:=h.1;have:=h.2.1;by_cases cu:mg G
  ·obtain⟨s,e,hn,hR⟩:=aP.1 cu;have hm:s∈G.sub:=by show s∈G.d_.getD [];rw[e];exact .head _
   have R8:jb P (b.b2 (tabQ ai t eJ G)):=hb.b2 λcp he=>by
    unfold tabQ at he;rw[e] at he;rcases eH.1 he with rfl|he
    ·exact x0
    ·rw[dx.1 he];exact hR.2
   have up:∀ {g aB r},e1 P b (q_ name t dw ai) g aB r->e1 P (b.b2 (tabQ ai t eJ G)) (q_ name t dw ai) g aB r:=λh=>e1.b2.2 h;refine jI 2 I G I I I (dd.b2.1 (nw R8 (e1.ok (bO:=q_ name t dw ai)) _ ay.1 I I I (q8 (d+1) _ (Gx vY _ _ cc) (2*d+3) U).1 (q8 (d+1) _ (Gx vY _ _ cc) 1000 U).2
    (a1p (b:=b.b2 (tabQ ai t eJ G)) hfn name t dw ai eJ (dF.h (b:=b.b2 (tabQ ai t eJ G)) br.RT) (dF.h (b:=b.b2 (tabQ ai t eJ G)) br.cont) (dF.h (b:=b.b2 (tabQ ai t eJ G)) br.index) ua br.LJ.2 ay.2 (λah=>pY ht (show _<=b.a2+1000 by omega) ah)
     (λah=>by
      have h1:=a1J (b:=b) ht ah;show bp ah (b.a2+999) _=_;rw[show b.a2+999=(b.a2+998)+1 from rfl,snapshot_succ];simp only[];rw[dg,dg,dg,dg,h1];rfl)
     (λJ=>R6 CI eJ (λah=>pY ht (show _<=b.a2+1000 by omega) ah) (a1O ai ht eJ G) J) Gm G U U
     (λ_=>⟨s,e,hR.1,hn,λJ=>R6 rX (ai s) (λah=>q9 (hK s hm) (show _<=b.a2+1000 by omega) ah) (b9y ai eJ e (by have:=hK s hm;omega)) J⟩)
     (λah=>q9 cc (show _<=b.a2+1000 by omega) ah) (λ_=>up (jI 0 I G I I I (RY (b0:=λ_=>false) (S:=G) (F:=G) (bd:=none) hb br (d+1) G an h).1))
     (λu hu ah=>pY (ak u hu) (show _<=b.a2+1000 by omega) ah) (λu hu=>up (jI 1 I u I I I (nD u (aP.2.1 u hu)))) (λu hu ah=>q9 (hK u hu) (show _<=b.a2+1000 by omega) ah)
     (λu hu=>up (R7 ay ua CI rX ht vY x0 Gm nD d u U (h.2.2.2 u hu) (aP.2.2 u hu))) _ I)))
  ·have R8:jb P (b.b2 [o5 t eJ]):=hb.b2 λcp he=>by rw[dx.1 he];exact x0
   have up:∀ {g aB r},e1 P b (q_ name t dw ai) g aB r->e1 P (b.b2 [o5 t eJ]) (q_ name t dw ai) g aB r:=λh=>e1.b2.2 h;have hfn:∀g aB r bS,e1 P (b.b2 [o5 t eJ]) (q_ name t dw ai) g aB r->e1 P (b.b2 [o5 t eJ]) (q_ name t dw ai) g aB bS->r=bS:=e1.fn (by rw[a1K];decide);refine jI 2 I G I I I (dd.b2.1 (nw R8 (e1.ok (bO:=q_ name t dw ai)) _ ay.1 I I I (q8 (d+1) _ (Gx vY _ _ cc) (2*d+3) U).1 (q8 (d+1) _ (Gx vY _ _ cc) 1000 U).2
    (a1p (b:=b.b2 [o5 t eJ]) hfn name t dw ai eJ (dF.h (b:=b.b2 [o5 t eJ]) br.RT) (dF.h (b:=b.b2 [o5 t eJ]) br.cont) (dF.h (b:=b.b2 [o5 t eJ]) br.index) ua br.LJ.2 ay.2 (λah=>pY ht (show _<=b.a2+1000 by omega) ah)
     (λah=>by
      have h1:=a1J (b:=b) ht ah;show bp ah (b.a2+999) _=_;rw[show b.a2+999=(b.a2+998)+1 from rfl,snapshot_succ];simp only[];rw[dg,dg,dg,dg,h1];rfl)
     (λJ=>R6 CI eJ (λah=>pY ht (show _<=b.a2+1000 by omega) ah) (a1O ai ht eJ (.mk 0 [] none none)) J) Gm G U U
     (λh=>absurd h cu)
     (λah=>q9 cc (show _<=b.a2+1000 by omega) ah) (λh=>absurd h cu)
     (λu hu ah=>pY (ak u hu) (show _<=b.a2+1000 by omega) ah) (λu hu=>up (jI 1 I u I I I (nD u (aP.2.1 u hu)))) (λu hu ah=>q9 (hK u hu) (show _<=b.a2+1000 by omega) ah)
     (λu hu=>up (R7 ay ua CI rX ht vY x0 Gm nD d u U (h.2.2.2 u hu) (aP.2.2 u hu))) _ I)))
end
structure LM(b:b8):Prop where
 fn:dF b KP Qr
 f1:dF b FO Qt
 nk:dF b zQ B_
 Rw:dF b zS Ca
 v1:dF b vD Cb
 v2:b.funcs.get zR=some Fv
 q:dF b Cm Fu
 st:dF b KO Qq
 a7:dF b KR Qp
 Rx:dF b pP zJ
 c6:dF b KQ Qo
 aU:dF b FP Kn
 ap:dF b Co Fs
 jH:dF b FQ Ko
 Ry:dF b sf tE
 Rz:dF b qU se
 RA:dF b Cp Ft
 ins:dF b zT Cc
 nan:dF b KS Qy
 less:gl b mb KA
 free:b.funcs.get sl=some Kf
def CJ:h4:=⟨mb,Nat×Nat,λx=>[dD x.1,dD x.2],λx=>.b (decide (x.1<x.2)),λx y h=>by
 have h:=Gp h;have h1:x.1=y.1:=Rj (by have:=h.1;unfold dD at this;injection this);have h2:x.2=y.2:=Rj (by have:=h.2;unfold dD at this;injection this);rw[h1,h2]⟩
def b9z{P:Program}{b:b8}:∀g aB r bS,e1 P b [CJ] g aB r->e1 P b [CJ] g aB bS->r=bS:=e1.fn aT
def b9A(c:List Nat):(match c with|[]=>AV.aj|_::c=>.aq 0 0 (c.length+1) none none)=pZ (c.map nm4)/\(match c with|[]=>[]|x::c=>[(x::c).map dD])=ra (c.map nm4):=by
 cases c with
 |nil=>exact⟨rfl,rfl⟩
 |cons x c=>
  refine⟨?_,?_⟩
  ·show AV.aq 0 0 (c.length+1) none none= .aq 0 0 ((x::c).map nm4).length none none;rw[cb];rfl
  ·show[(x::c).map dD]=[((x::c).map nm4).map AV.s];rw[kz];rfl
section
variable {P:Program}{b:b8}(hb:jb P b)(br:LM b)
include hb br
theorem b9B(a c:Nat):e1 P b [CJ] mb [dD a,dD c] (.b (decide (a<c))):=
 jI 0 I (a,c) I I I (nw hb (e1.ok (bO:=[CJ])) _ br.less.1 I I I (fN.leaf (n:=3) I I).1 (fN.leaf (n:=999) I I).2 (b8g br.nan.h a c _ I))
theorem LN{F:Fm}(jF:F.ok)(an:F.dep<=400){l:List Nat}(ao:fO lU F=l.map nm4)(EF:(mY l).length<=12){c:List Nat}(ae:∀bn:List Nat,bn.Perm (mY l)->bn.Pairwise (· ≤ ·)->bn=c):kh P b (Gy F (c.map nm4)):=λbN=>by
 have hh:a0T b (e1 P b [CJ]):=⟨br.fn.h,br.f1.h,br.nk.h,br.Rw.h,br.v1.h,br.v2,br.q.h,br.st.h,br.a7.h,br.Rx.h,br.c6.h,br.aU.h,br.ap.h,br.jH.h,br.Ry.h,br.Rz.h,br.RA.h,br.ins.h,br.less.2,b9B hb br⟩
 have h:=b8b hb (e1.ok (bO:=[CJ])) br.free I I I (b8c b9z hh jF (lE an eI) ao EF ae _ I) bN;have e:=b9A c;cases c with
 |nil=>exact h
 |cons x c=>
  show zk P (b.env []) bN sl [AV.ad (bm F)] (pZ ((x::c).map nm4)) ((ra ((x::c).map nm4)).map AO.cells);rw[<-e.1,← e.2];exact h
end
section
variable {b:b8}{K:Nat->List AV->AV->Prop}{N:Nat}(hf:∀g aB r bS,K g aB r->K g aB bS->r=bS)
def b9C(hh:bc (b.aQ K) Cf Km)(t:Tm){bU dK:Nat}{a7:List dM}(J:ag)(hm:J.get bU=some (.map (setE c0 0 a7) a7.length))(iK:J.get dK=some (.cells [.m (some bU)])):
  bw (b.aQ K) 0 (.f (.func Cf) [] [.p (some (dK,0))]) [t.A true] J (λr af=>r= .ok (.b true)/\af.get bU=some (.map (setE c0 0 (sz t a7)) (sz t a7).length)/\hv (λi=>i=bU) J af):=by
 refine bw.code hh.e hh.p hh.f I I I I ?_;have hlt:=ag.cJ hm;have c6Y:=ag.cJ iK;refine aa.seq (aa.region (ab.box (v:=t.A true) (c:=t.cells true) J.next I I I I I I λah hn h1 bM=>?_));refine ab.go I I I I ?_;replace hm:=bM _ _ hm;replace iK:=bM _ _ iK;refine ab.nil (aa.seq (aa.seq (aa.region ?_)));refine ab.go I I I I ?_;refine ab.a0 h1 I I I (Tm.JY true t) ?_;refine ab.go I I I I ?_;have fin:∀ {f:Nat->AV} {ca:ag},ca.get bU=some (.map (setE c0 0 (sz t a7)) (sz t a7).length)->ca.next=ah.next->(∀i o,i≠bU->ah.get i=some o->ca.get i=some o)->aa (b.aQ K) 14 (.seq (.region [⟨(some 3),.cD (.c (.b true)),none,[]⟩]) .ret) f ca (λx bD af=>x= .ret/\cQ.ok (bD 3)= .ok (.b true)/\af.get bU=some (.map (setE c0 0 (sz t a7)) (sz t a7).length)/\hv (λi=>i=bU) J af):=by
  intro f ca cn ct eN;refine aa.seq (aa.region ?_);refine ab.go I I I I ?_;exact ab.nil (aa.ret ⟨rfl,rfl,cn,U,λi o hi ho=>eN i o hi (bM i o ho)⟩)
 refine ab.nil (aa.cl (t:=!t.var) I (λh=>?_) (λh=>?_))
 ·have au:t.var=false:=by cases au:t.var with|false=>rfl|true=>rw[au] at h;cases h
  refine aa.region ?_;refine ab.a0 (v:=.m (some bU)) iK I I I I ?_;refine ab.go I I I I ?_;refine ab.a0 h1 I I I (Tm.tA true t) ?_;refine ab.go I I I I ?_;refine ab.a0 h1 I I I (Tm.qM true t) ?_;refine ab.len I I I lr ?_;refine ab.go (v:=c0 (t.name,t.args.length)) I I I I ?_;refine ab.K8 (cN:=c0) (k:=(t.name,t.args.length)) Z4 hm I I λc_ mO cf gH=>?_;exact ab.nil (fin (by unfold sz;rw[if_pos au];exact cf) mO gH)
 ·have au:¬t.var=false:=λau=>by rw[au] at h;cases h
  exact aa.skip (fin (by unfold sz;rw[if_neg au];exact hm) I λi o _ h=>h)
include hf in
theorem b9D(ak:Lm b K N)(hh:bc (b.aQ K) KD Qm)(Af:bc (b.aQ K) Cf Km)(Ag:bc (b.aQ K) xB zI)(au:bc (b.aQ K) qT sd)(fH:bc (b.aQ K) pM tD)(hw:bc (b.aQ K) tG vz)(F:Fm)(bB:F.fA)(Gd:(sA F).length<=N)(J:ag):
  bw (b.aQ K) 0 (.f (.func KD) [] []) [F.A true] J (λr af=>∃(v:AV) (c:List dM),r= .ok v/\c.Perm (sA F)/\Acc af (some 2) v (c.map c0)/\(∀a,v.dU =some a->J.next<=a)/\mV J af):=by
 generalize aC:J.next=k;refine bw.E4 (d:=k+4) hh.e hh.p hh.f I I I I ?_;refine cO.jT (aa.region (ab.box (v:=F.A true) (c:=F.cells true) k aC I I I I I λbu e6 h1 bM=>?_));refine bo ?_;refine⟨rfl,cO.jT (aa.region (ab.mkMap (k+1) e6 I λbA fk h2 ba=>?_))⟩;refine ab.var (v:=.m (some (k+1))) (c:=[.m (some (k+1))]) (k+2) fk I I I I I I λc8 lM h3 bj=>?_;replace h1:=bj _ _ (ba _ _ h1);replace h2:=bj _ _ h2;refine ab.nil ⟨rfl,cO.xu (cO.jT (aa.region ?_))⟩;refine ab.a0 h1 I I I (Fm.a0 true F) ?_;refine ab.dW I I I (KX hw true F c8 (k+3) lM) λr lx ⟨aF,oM,aN,de⟩=>⟨_,aF,?_⟩
 replace h1:=de _ _ h1;replace h2:=de _ _ h2;replace h3:=de _ _ h3;have cq:∀i o,J.get i=some o->lx.get i=some o:=λi o ho=>de i o (bj i o (ba i o (bM i o ho)));refine ab.nil ⟨rfl,cO.block ?_⟩;refine cO.walk au fH true (λi=>i=k+1\/i=k+2) (λl ah=>∃a7,Ln l a7=sA F/\ah.get (k+1)=some (.map (setE c0 0 a7) a7.length)/\ah.get (k+2)=some (.cells [.m (some (k+1))])) (k+4) oM I I bB aN (λi hi=>by omega) (λl ah a1 ⟨a7,a9,bt,cW⟩ aC=>⟨a7,a9,aC _ _ (.inl I) bt,aC _ _ (.inr I) cW⟩) ⟨[],rfl,h2,h3⟩ ?_ ?_
 ·intro G rest ah cc vF ⟨a7,a9,bt,cW⟩;refine aa.region ?_;refine ab.var (v:=G.A true) (c:=G.cells true) ah.next I I I I (Fm.conf true G) I (Fm.len true G) λc2 oM aN de=>?_;refine ab.nil ⟨rfl,.of U de,λca BA e8=>?_⟩;replace aN:=e8 _ _ U aN;replace bt:=e8 _ _ U (de _ _ bt);replace cW:=e8 _ _ U (de _ _ cW);refine aa.block (aa.region ?_);refine bo ?_;refine ab.a0 aN I I I (Fm.qM true G) ?_;refine ab.go I I I I ?_;refine ab.dW I I I (Rm Ag true (W:=λi=>i=k+1) (B:=k+2) (λi hi=>by omega) (λl ah=>∃l2,z_ l l2=z_ (Tm.eA G.args) a7/\ah.get (k+1)=some (.map (setE c0 0 l2) l2.length)/\ah.get (k+2)=some (.cells [.m (some (k+1))]))
   (λl ah a1 ⟨l2,db,cK,et⟩ _ aC=>⟨l2,db,aC _ _ cK,aC _ _ et⟩) (.f (.func Cf) [] [.p (some (k+2,0))]) ?_ (Tm.cv G.args+1) G.cP [] ca (by show Tm.cv G.args<_;omega) cc.arg cc.B1 U ⟨a7,by rw[fp];rfl,bt,cW⟩) λr c_ ⟨aF,⟨l2,db,cK,et⟩,fT⟩=>⟨_,aF,?_⟩
  ·rintro t a1n ah ht eu ⟨l2,db,cK,et⟩;refine(b9C Af t ah cK et).mono λr a1 ⟨aF,jn,K⟩=>⟨aF,⟨_,db,jn,K.bK _ _ U et⟩,K⟩
  ·have db:l2=z_ (Tm.eA G.args) a7:=db;subst db;exact ab.nil ⟨rfl,⟨_,a9,cK,et⟩,fT.next,λi o hi ho=>fT.bK i o (λe=>hi (.inl e)) ho⟩
 ·intro ah ⟨a7,a9,bt,cW⟩ vF an hold;have a9:a7=sA F:=a9;subst a9;refine⟨rfl,rfl,?_⟩;refine aa.seq (aa.region ?_);refine ab.a0 (v:=.m (some (k+1))) cW I I I I ?_;refine ab.dW I I I (ak.2 Gd ah bt) λr ca ⟨v,c,aF,db,cK,et,kW⟩=>⟨_,aF,?_⟩
  refine ab.go I I I I ?_;have hn:=kW.1;have eG:=hX (bV:=AO.dead) (kW.2 _ _ an);refine ab.nil (aa.ret ⟨rfl,kW.2 _ _ an,v,c,rfl,db,cK.bK λi o hi ho=>eG.2 i o (by have:=et i hi;omega) ho,λa e=>by have:=et a e;omega,by show J.next<=ca.next;omega,λi o ho=>?_⟩);have:=ag.cJ ho;exact eG.2 i o U (kW.2 i o (hold i o U (cq i o ho)))
def Ak(kind:Nat):Nat:=if kind=2 then 2 else 0
def Al(kind:Nat):Nat:=if kind=2 then 1 else 0
def m2(n:Nat)(l:List dM):Bool:=l.all λs=>decide (s.2<=n)
def x1(kind:Nat)(F:Fm):Bool:=m2 (Ak kind) (tW F)&&m2 (Al kind) (sA F)
def a1P{n:Nat}{l m:List dM}(h:l.Perm m):m2 n l=m2 n m:=by
 unfold m2;rw[rl,mx,mx];exact⟨λao x hx=>ao x (h.mem_iff.2 hx),λao x hx=>ao x (h.mem_iff.1 hx)⟩
def LO{n:Nat}{l:List dM}{i:Nat}(hi:i<l.length)(h:m2 n (l.take i)=true):(l[i].2<=n->m2 n (l.take (i+1))=true)/\(¬l[i].2<=n->m2 n l=false):=by
 refine⟨λh2=>?_,λh2=>?_⟩
 ·rw[lv hi];unfold m2 at *;rw[List.all_append,h,zt,H5,decide_eq_true h2];rfl
 ·unfold m2;cases hb:l.all (λs=>decide (s.2<=n)) with
  |false=>rfl
  |true=>exact absurd (of_decide_eq_true (mx.1 hb _ (c3 hi))) h2
include hf in
theorem b9E(ak:Lm b K N)(ay:bc (b.aQ K) KC Ql)(hh:bc (b.aQ K) KD Qm)(Af:bc (b.aQ K) Cf Km)(Ag:bc (b.aQ K) xB zI)(au:bc (b.aQ K) qT sd)(fH:bc (b.aQ K) pM tD)(hw:bc (b.aQ K) tG vz)
  (kind:Nat) (F:Fm) (bB:F.fA) (b9F:(tW F).length<=N) (Gd:(sA F).length<=N) (body:bC) (hb:Y6.body=some body):aa (b.aQ K) 37 body (eh [a3 kind,F.A true]) ⟨.nil,0⟩ (kP 4 (.b (x1 kind F))):=by
 cases hb;refine aa.seq (aa.region (ab.box (v:=F.A true) (c:=F.cells true) 0 I I I I I I λbu e6 h1 bM=>?_));refine ab.go I I I I ?_;refine ab.nil (aa.seq (aa.region ?_));refine ab.go I I I I ?_;refine ab.go I I I I ?_;refine ab.nil (aa.seq ?_);refine aa.seq (aa.region ?_);refine ab.go I I I I ?_;refine ab.bin (a:=a3 kind) (b:=.i .u8 (Int.ofNat 2)) (v:=.b (decide (kind=2))) I I I I (cG I) ?_;refine ab.nil ?_;suffices g4:∀g,aa (b.aQ K) 37 _ (b4 [(3,.p (some (0,0))),(5,aw (Ak kind)),(6,aw (Al kind))] g) bu (kP 4 (.b (x1 kind F))) by
  refine aa.cl I (λh=>?_) (λh=>?_)
  ·have aC:kind=2:=of_decide_eq_true h;refine aa.region ?_;refine ab.go I I I I ?_;refine ab.go I I I I ?_;refine ab.nil (aa.norm [(3,.p (some (0,0))),(5,aw (Ak kind)),(6,aw (Al kind))] ⟨rfl,?_,?_,trivial⟩ g4)
   ·unfold Ak;rw[if_pos aC];rfl
   ·unfold Al;rw[if_pos aC];rfl
  ·have aC:¬kind=2:=of_decide_eq_false h;refine aa.skip (aa.norm [(3,.p (some (0,0))),(5,aw (Ak kind)),(6,aw (Al kind))] ⟨rfl,?_,?_,trivial⟩ g4)
   ·unfold Ak;rw[if_neg aC];rfl
   ·unfold Al;rw[if_neg aC];rfl
 intro g;generalize hT:Ak kind=nC;generalize VN:Al kind=gp;refine aa.seq (aa.seq (aa.region ?_));refine ab.a0 h1 I I I (Fm.a0 true F) ?_;refine ab.dW I I I (b7y hf ak ay au fH hw F bB b9F bu) λr bA ⟨v,c,aF,db,cK,et,kW⟩=>⟨_,aF,?_⟩
 refine ab.len (m:=c.length) I I I (by have:=cK.len (ah:=bA);rwa[cb] at this) ?_;refine ab.go I I I I ?_;refine ab.nil (aa.block ?_);have a1Q:c.length<=60000:=by have:=db.length_eq;have:=ak.1;omega
 have hall:m2 nC c=m2 nC (tW F):=a1P db;refine aa.loop (λm f ah=>∃i,i+m=c.length/\m2 nC (c.take i)=true/\Acc ah (some 2) v (c.map c0)/\(∀a,v.dU =some a->bu.next<=a)/\bu.next<=ah.next/\ah.get 0=some (.cells (F.cells true))∧
  sat [(3,.p (some (0,0))),(5,aw nC),(6,aw gp),(14,v),(15,aw c.length),(16,aw i)] f) ?_ c.length ⟨0,U,rfl,cK,et,kW.1,kW.2 _ _ h1,b9⟩
 clear db cK et kW h1 e6 bM;intro m g ah ⟨i,hi,hle,hA,Gz,hn,h1,hL⟩;refine aa.norm _ hL λg=>?_;clear hL;refine aa.seq (aa.region ?_);refine ab.bin (a:=aw i) (b:=aw c.length) (v:=.b (decide (i<c.length))) I I I I (cG I) ?_;refine ab.nil (aa.seq ?_);refine aa.cl I (λht=>?_) (λdP=>?_)
 ·have hlt:i<c.length:=of_decide_eq_true ht;obtain⟨o,GA,ho,dX⟩:=hA.inv (by rw[cb];omega);rw[cb] at GA;subst GA;refine aa.skip (aa.seq (aa.block (aa.seq (aa.region ?_))));have aF:dB (some 2) (((c.map c0).flatMap AV.cells).drop (0+i*shN (some 2)))=some (c0 c[i]):=by
   rw[vI (by rw[cb];omega) dX,ic]
  refine ab.idx (j:=i) I I I I (kM hlt) ?_;refine ab.a0 (v:=c0 c[i]) ho I I I aF ?_;refine ab.var (v:=c0 c[i]) (c:=[.s c[i].1,aw c[i].2]) ah.next I I I I I I I λca fk aN ba=>?_;refine ab.nil (aa.seq (aa.region ?_));refine ab.go I I I I ?_;refine ab.a0 (v:=aw c[i].2) aN I I I I ?_;refine ab.go I I I I ?_;refine ab.bin (a:=aw c[i].2) (b:=aw nC) (v:=.b (decide (nC<c[i].2))) I I I I (cG I) ?_;refine ab.nil (aa.cl I (λh=>?_) (λh=>?_))
  ·have N1:nC<c[i].2:=of_decide_eq_true h;refine aa.seq (aa.region ?_);refine ab.go I I I I ?_;refine ab.nil (aa.ret ⟨rfl,?_⟩);have:=(LO hlt hle).2 U;show some (AV.b false)=_;unfold x1;rw[hT,← hall,this];rfl
  ·have b9G:¬nC<c[i].2:=of_decide_eq_false h;refine aa.skip (aa.region ?_);refine ab.bin (a:=aw i) (b:=aw 1) I I I I (ir U) ?_;refine ab.go I I I I ?_;exact ab.nil ⟨m-1,U,i+1,U,(LO hlt hle).1 U,hA.bK λi o _ ho=>ba i o ho,Gz,U,ba _ _ h1,b9⟩
 ·have iX:¬i<c.length:=of_decide_eq_false dP;obtain rfl:i=c.length:=by omega
  rw[kS,hall] at hle;refine aa.exit ?_;clear hA Gz hall a1Q hn;have RO:x1 kind F=m2 gp (sA F):=by unfold x1;rw[hT,VN,hle];rfl
  rw[RO];refine aa.seq (aa.seq (aa.region ?_));refine ab.a0 h1 I I I (Fm.a0 true F) ?_;refine ab.dW I I I (b9D hf ak hh Af Ag au fH hw F bB Gd ah) λr bA ⟨v,c,aF,db,cK,et,kW⟩=>⟨_,aF,?_⟩
  refine ab.len (m:=c.length) I I I (by have:=cK.len (ah:=bA);rwa[cb] at this) ?_;refine ab.go I I I I ?_;refine ab.nil (aa.block ?_);have a1Q:c.length<=60000:=by have:=db.length_eq;have:=ak.1;omega
  have hall:m2 gp c=m2 gp (sA F):=a1P db;refine aa.loop (λm f ah=>∃i,i+m=c.length/\m2 gp (c.take i)=true/\Acc ah (some 2) v (c.map c0)∧
   sat [(6,aw gp),(26,v),(27,aw c.length),(28,aw i)] f) ?_ c.length ⟨0,U,rfl,cK,b9⟩
  clear db cK et kW h1;intro m g ah ⟨i,hi,hle,hA,hL⟩;refine aa.norm _ hL λg=>?_;clear hL;refine aa.seq (aa.region ?_);refine ab.bin (a:=aw i) (b:=aw c.length) (v:=.b (decide (i<c.length))) I I I I (cG I) ?_;refine ab.nil (aa.seq ?_);refine aa.cl I (λht=>?_) (λdP=>?_)
  ·have hlt:i<c.length:=of_decide_eq_true ht;obtain⟨o,GA,ho,dX⟩:=hA.inv (by rw[cb];omega);rw[cb] at GA;subst GA;refine aa.skip (aa.seq (aa.block (aa.seq (aa.region ?_))));have aF:dB (some 2) (((c.map c0).flatMap AV.cells).drop (0+i*shN (some 2)))=some (c0 c[i]):=by
    rw[vI (by rw[cb];omega) dX,ic]
   refine ab.idx (j:=i) I I I I (kM hlt) ?_;refine ab.a0 (v:=c0 c[i]) ho I I I aF ?_;refine ab.var (v:=c0 c[i]) (c:=[.s c[i].1,aw c[i].2]) ah.next I I I I I I I λca fk aN ba=>?_;refine ab.nil (aa.seq (aa.region ?_));refine ab.go I I I I ?_;refine ab.a0 (v:=aw c[i].2) aN I I I I ?_;refine ab.go I I I I ?_;refine ab.bin (a:=aw c[i].2) (b:=aw gp) (v:=.b (decide (gp<c[i].2))) I I I I (cG I) ?_;refine ab.nil (aa.cl I (λh=>?_) (λh=>?_))
   ·have N1:gp<c[i].2:=of_decide_eq_true h;refine aa.seq (aa.region ?_);refine ab.go I I I I ?_;refine ab.nil (aa.ret ⟨rfl,?_⟩);have:=(LO hlt hle).2 U;show some (AV.b false)=_;rw[<-hall,this]
   ·have b9G:¬gp<c[i].2:=of_decide_eq_false h;refine aa.skip (aa.region ?_);refine ab.bin (a:=aw i) (b:=aw 1) I I I I (ir U) ?_;refine ab.go I I I I ?_;exact ab.nil ⟨m-1,U,i+1,U,(LO hlt hle).1 U,hA.bK λi o _ ho=>ba i o ho,b9⟩
  ·have iX:¬i<c.length:=of_decide_eq_false dP;obtain rfl:i=c.length:=by omega
   rw[kS,hall] at hle;refine aa.exit ?_;refine aa.seq (aa.region ?_);refine ab.go I I I I ?_;refine ab.nil (aa.ret ⟨rfl,?_⟩);show some (AV.b true)=_;rw[hle]
end
def bw.ext{env:Env}{floor k g:Nat}{args:List AV}{v:AV}{J:ag}{Q:cQ->ag->Prop}(he:env.ext g=k+1)(hx:extRow (k+1) args=some v)(h:Q (.ok v) J):bw env floor (.f (.func g) [] []) args J Q:=by
 refine df.one (x:=(.ok v,J)) (λF=>?_) h;show callF env (exec env F) floor g ([]++args++[]) J=_;unfold callF;rw[he,qA,fp];show(match extRow (k+1) args with|some v=>some [(cQ.ok v,J)]|none=>(match(match mapO (bp J env.a2) args with|some aB=>env.qk g aB|none=>none) with|some (v,os)=>some [((.ok (s3 J.next v):cQ),lI J.next os J)]|none=>none))=_;rw[hx]
section
def b9H(hh:bc (b.aQ K) FD Ky)(ex:b.ext KG=2)(x y:List Nat)(J:ag):bw (b.aQ K) 0 (.f (.func FD) [] []) [.s x,.s y] J (λr af=>r= .ok (.i .i64 (vK x y))/\af=J):=by
 refine bw.code hh.e hh.p hh.f I I I I ?_;refine aa.seq (aa.region ?_);refine ab.go I I I I ?_;refine ab.nil (aa.seq (aa.region ?_));refine ab.go I I I I ?_;refine ab.go I I I I ?_;refine ab.dW (az:=λr af=>r= .ok (.i .i64 (vK x y))/\af=J) I I I (bw.ext (k:=1) ex I ⟨rfl,rfl⟩) λr bA ⟨aF,aV⟩=>⟨_,aF,?_⟩
 refine ab.go I I I I ?_;exact ab.nil (aa.ret ⟨rfl,rfl,aV⟩)
def b9I(hh:bc (b.aQ K) KE Qw)(h2:bc (b.aQ K) FD Ky)(ex:b.ext KG=2)(x y:List Nat)(J:ag):bw (b.aQ K) 0 (.f (.func KE) [] []) [.s x,.s y] J (λr af=>r= .ok (.i .i64 (vK x y))/\af=J):=by
 refine bw.code hh.e hh.p hh.f I I I I ?_;refine aa.seq (aa.region ?_);refine ab.go I I I I ?_;refine ab.nil (aa.seq (aa.region ?_));refine ab.go I I I I ?_;refine ab.go I I I I ?_;refine ab.dW I I I (b9H h2 ex x y J) λr bA ⟨aF,aV⟩=>⟨_,aF,?_⟩
 refine ab.go I I I I ?_;exact ab.nil (aa.ret ⟨rfl,rfl,aV⟩)
def a1R(hh:bc (b.aQ K) FC Kz)(x:Nat)(J:ag):bw (b.aQ K) 0 (.f (.func FC) [] []) [aw x] J (λr af=>r= .ok (.b false)/\af=J):=by
 refine bw.code hh.e hh.p hh.f I I I I ?_;refine aa.seq (aa.region ?_);refine ab.go I I I I ?_;refine ab.nil (aa.seq (aa.region ?_));refine ab.go I I I I ?_;refine ab.go I I I I ?_;refine ab.bin (a:=aw x) (b:=aw x) (v:=.b false) I I I I (cG (by show some (AV.b (!decide (x=x)))=_;rw[decide_eq_true I];rfl)) ?_;refine ab.go I I I I ?_;exact ab.nil (aa.ret ⟨rfl,rfl,rfl⟩)
def b9J(hh:bc (b.aQ K) KF Qx)(h2:bc (b.aQ K) FC Kz)(x y:Nat)(J:ag):bw (b.aQ K) 0 (.f (.func KF) [] []) [aw x,aw y] J (λr af=>r= .ok (.i .i64 (F9 x y))/\af=J):=by
 refine bw.code hh.e hh.p hh.f I I I I ?_;refine aa.seq (aa.region ?_);refine ab.go I I I I ?_;refine ab.nil (aa.seq (aa.region ?_));refine ab.go I I I I ?_;refine ab.dW I I I (a1R h2 x J) λr bA ⟨aF,aV⟩=>⟨_,aF,?_⟩
 subst aV;refine ab.go I I I I ?_;refine ab.nil (aa.seq (aa.region ?_));refine ab.go I I I I ?_;refine ab.dW I I I (a1R h2 y bA) λr c8 ⟨aF,aV⟩=>⟨_,aF,?_⟩
 subst aV;refine ab.go I I I I ?_;refine ab.nil (aa.seq (aa.seq (aa.region ?_)));refine ab.go I I I I ?_;refine ab.nil (aa.cl I (λh=>by cases h) λ_=>aa.skip ?_);refine aa.seq (aa.seq (aa.region ?_));refine ab.go I I I I ?_;refine ab.nil (aa.cl I (λh=>by cases h) λ_=>aa.skip ?_);refine aa.seq (aa.seq (aa.region ?_));refine ab.go I I I I ?_;refine ab.go I I I I ?_;refine ab.bin (a:=aw x) (b:=aw y) (v:=.b (decide (x<y))) I I I I (cG I) ?_;refine ab.nil (aa.cl I (λh=>?_) λh=>aa.skip ?_)
 ·refine aa.seq (aa.region ?_);refine ab.go I I I I ?_;refine ab.nil (aa.ret ⟨rfl,?_,rfl⟩);unfold F9;rw[if_pos (of_decide_eq_true h)];rfl
 have h1:=of_decide_eq_false h;refine aa.seq (aa.seq (aa.region ?_));refine ab.go I I I I ?_;refine ab.go I I I I ?_;refine ab.bin (a:=aw x) (b:=aw y) (v:=.b (decide (y<x))) I I I I (cG I) ?_;refine ab.nil (aa.cl I (λh=>?_) λh=>aa.skip ?_)
 ·refine aa.seq (aa.region ?_);refine ab.go I I I I ?_;refine ab.nil (aa.ret ⟨rfl,?_,rfl⟩);unfold F9;rw[if_neg h1,if_pos (of_decide_eq_true h)];rfl
 have h2:=of_decide_eq_false h;refine aa.seq (aa.region ?_);refine ab.go I I I I ?_;refine ab.nil (aa.ret ⟨rfl,?_,rfl⟩);unfold F9;rw[if_neg h1,if_neg h2];rfl
def b9K(h1:bc (b.aQ K) KE Qw)(h2:bc (b.aQ K) FD Ky)(ex:b.ext KG=2)(h3:bc (b.aQ K) KF Qx)(aN:bc (b.aQ K) FC Kz)(x y:dM)(body:bC)(hb:Zm.body=some body):
  aa (b.aQ K) 19 body (eh [c0 x,c0 y]) ⟨.nil,0⟩ (kP 4 (.i .i64 (sw x y))):=by
 cases hb;refine aa.seq (aa.region (ab.box (v:=c0 x) (c:=[.s x.1,aw x.2]) 0 I I I I I I λbu dQ cn iB=>?_));refine ab.box (v:=c0 y) (c:=[.s y.1,aw y.2]) 1 dQ I I I I I λJ dC ct gO=>?_;replace cn:=gO _ _ cn;refine ab.go I I I I ?_;refine ab.nil (aa.seq (aa.seq (aa.region ?_)));refine ab.go I I I I ?_;refine ab.a0 (v:=.s x.1) cn I I I I ?_;refine ab.go I I I I ?_;refine ab.a0 (v:=.s y.1) ct I I I I ?_;refine ab.dW I I I (b9I h1 h2 ex x.1 y.1 J) λr bA ⟨aF,aV⟩=>⟨_,aF,?_⟩
 subst aV;refine ab.go I I I I ?_;refine ab.nil (aa.seq (aa.region ?_));refine ab.go I I I I ?_;refine ab.bin (a:=.i .i64 (vK x.1 y.1)) (b:=.i .i64 0) (v:=.b (!decide (vK x.1 y.1=0))) I I I I I ?_;refine ab.nil (aa.cl I (λh=>?_) λh=>aa.skip ?_)
 ·have b_:¬vK x.1 y.1=0:=λe=>by rw[decide_eq_true e] at h;cases h
  refine aa.seq (aa.region ?_);refine ab.go I I I I ?_;refine ab.go I I I I ?_;refine ab.nil (aa.ret ⟨rfl,?_⟩);unfold sw;rw[if_neg b_];rfl
 ·have he:vK x.1 y.1=0:=EG λe=>by rw[decide_eq_false e] at h;cases h
  refine aa.seq (aa.region ?_);refine ab.go I I I I ?_;refine ab.a0 (v:=aw x.2) cn I I I I ?_;refine ab.go I I I I ?_;refine ab.a0 (v:=aw y.2) ct I I I I ?_;refine ab.dW I I I (b9J h3 aN x.2 y.2 bA) λr c8 ⟨aF,aV⟩=>⟨_,aF,?_⟩
  refine ab.go I I I I ?_;refine ab.nil (aa.ret ⟨rfl,?_⟩);unfold sw;rw[if_pos he];rfl
end
def b9L{a b:Nat}(ha:a<2^32)(hb:b<2^32):binop .andNot (.i .u32 (Int.ofNat a)) (.i .u32 (Int.ofNat b))=some (.i .u32 (Int.ofNat (vp a b))):=by
 have h:(BitVec.ofInt IntKind.u32.bits (Int.ofNat a) &&& ~~~ BitVec.ofInt IntKind.u32.bits (Int.ofNat b)).toNat=vp a b:=by
  have e:∀x y:BitVec IntKind.u32.bits,x &&& ~~~ y=x ^^^ (x &&& y):=λx y=>by ext i;simp;cases x[i]<;>cases y[i]<;>rfl
  rw[e,BitVec.toNat_xor,BitVec.toNat_and,ofInt32 a ha,ofInt32 b hb];rfl
 show some (AV.i .u32 (IntKind.wrap .u32 ((BitVec.ofInt IntKind.u32.bits (Int.ofNat a) &&& ~~~ BitVec.ofInt IntKind.u32.bits (Int.ofNat b)).toNat:Int)))=_;rw[h,wrap32 (b4H a b ha)];rfl
def Am(ops kind:Nat)(F:Fm):Bool:=oZ F&&(decide (vp (ss F) ops=0)&&x1 kind F)
def Tm.m3(J:ag)(n:Nat)(t:Tm)(o:Bool):freeze J 0 (n+2) (t.A o)=some (t.A o):=by
 unfold Tm.A;rw[Tm.gJ,freeze_succ];simp only[];have:mapO (freeze J 0 (n+1)) [.b t.var,.s t.name,cy o t.cP]=some [.b t.var,.s t.name,cy o t.cP]:=by
  rw[dg,dg,dg];cases t.cP<;>rfl
 rw[this]
def Fm.m3(J:ag)(n:Nat)(t:Fm)(o:Bool):freeze J 0 (n+2) (t.A o)=some (t.A o):=by
 unfold Fm.A;rw[Fm.gJ,freeze_succ];simp only[];have:mapO (freeze J 0 (n+1)) [a3 t.op,.s t.name,cy o t.cP,fa o t.d_]=some [a3 t.op,.s t.name,cy o t.cP,fa o t.d_]:=by
  rw[dg,dg,dg,dg];cases t.cP<;>cases t.d_<;>rfl
 rw[this]
def vZ{J:ag}:∀(n:Nat) (v w:AV),bp J n v=some w->AV.eqb n v v=true
 |0,v,w,h=>by cases h
 |n+1,v,w,h=>by
  have ar:=vZ (J:=J) n;have all:∀ {l r:List AV},mapO (bp J n) l=some r->fv (AV.eqb n) l l=true:=λ{l r} hm=>pG λx hx=>by
   obtain⟨i,hi,rfl⟩:=lF hx;have:=nJ hm;exact ar _ _ (this.2 i hi (by rw[this.1];exact hi))
  cases v with
  |b x=>show(x==x)=true;simp
  |i k x=>show(decide (k=k)&&decide (x=x))=true;simp
  |s l=>exact tx l
  |p a=>cases a with
   |none=>rfl
   |some a=>cases h
  |dk o v=>cases h
  |aq a b c d e=>show(Nat.beq a a&&Nat.beq b b&&Nat.beq c c&&decide (d=d)&&decide (e=e))=true;simp
  |aj=>rfl
  |aR o R xs=>
   obtain⟨dv,hm,_⟩:=P3 h;show((o==o)&&decide (R=R)&&fv (AV.eqb n) xs xs)=true;rw[all hm];simp
  |m r=>cases r with
   |none=>rfl
   |some r=>cases h
  |f a b c=>cases h
  |iA a b c=>cases h
  |gp=>rfl
  |it t v=>
   rw[snapshot_succ] at h;simp only[] at h;cases hm:bp J n v with
   |none=>rw[hm] at h;cases h
   |some y=>
    show(Nat.beq t t&&AV.eqb n v v)=true;rw[ar v y hm];simp
  |eC=>rfl
  |iz hi=>show(hi==hi)=true;simp
  |y i=>exact fE i
  |eT o i=>show((o==o)&&Nat.beq i i)=true;simp
  |g1 i=>exact fE i
  |fF i j=>show(Nat.beq i i&&Nat.beq j j)=true;simp
  |ad l=>
   obtain⟨dv,hm,_⟩:=P4 h;exact all hm
  |a6 l=>
   rw[snapshot_succ] at h;simp only[] at h;cases hm:mapO (bp J n) l with
   |none=>rw[hm] at h;cases h
   |some y=>exact all hm
  |e3 k d j=>show(decide (k=k)&&(Nat.beq d d&&Nat.beq j j))=true;simp
  |hC l=>exact pG λx _=>tx x
def R9{k:Nat}{R:Option Nat}{l:List AV}(h:∀x∈l,∀y∈x.cells,gI k y=true):gI (k+1) (.aR false R l)=true:=by
 rw[vn];show((!false||l.isEmpty)&&cB (λx=>cB (gI k) x.cells) l)=true;rw[Bool.not_false,Bool.true_or,zt];exact iI λx hx=>iI λy aI=>h x hx y aI
def Tm.fresh:∀(d:Nat) (t:Tm) (k:Nat),t.dep<=d->d+1<=k->∀x∈t.cells false,gI k x=true
 |0,t,k,h,_,_,_=>by rw[Tm.e0] at h;omega
 |d+1,t,k,h,aC,x,hx=>by
  obtain⟨k,rfl⟩:∃j,k=j+2:=⟨k-2,U⟩
  rw[Tm.gJ] at hx;simp only[eH,mJ,or_false] at hx;rcases hx with rfl|rfl|rfl
  ·rfl
  ·rfl
  ·cases ha:t.cP with
   |none=>rfl
   |some l=>
    refine R9 (k:=k+1) λy aI z aZ=>?_;obtain⟨u,hu,rfl⟩:=di.1 aI;have nb:u∈t.args:=by unfold Tm.args;rw[ha];exact hu
    exact Tm.fresh d u (k+1) (by have:=Tm.l9 nb;omega) U z aZ
def Fm.fresh:∀(d:Nat) (t:Fm) (k:Nat),t.dep<=d->d+1<=k->∀x∈t.cells false,gI k x=true
 |0,t,k,h,_,_,_=>by rw[Fm.e0] at h;omega
 |d+1,t,k,h,aC,x,hx=>by
  obtain⟨k,rfl⟩:∃j,k=j+2:=⟨k-2,U⟩
  rw[Fm.gJ] at hx;simp only[eH,mJ,or_false] at hx;rcases hx with rfl|rfl|rfl|rfl
  ·rfl
  ·rfl
  ·cases ha:t.cP with
   |none=>rfl
   |some l=>
    refine R9 (k:=k+1) λy aI z aZ=>?_;obtain⟨u,hu,rfl⟩:=di.1 aI;have nb:u∈t.args:=by unfold Fm.args;rw[ha];exact hu
    exact Tm.fresh d u (k+1) (by have:=Fm.l9 nb;omega) U z aZ
  ·cases ha:t.d_ with
   |none=>rfl
   |some l=>
    refine R9 (k:=k+1) λy aI z aZ=>?_;obtain⟨u,hu,rfl⟩:=di.1 aI;have nb:u∈t.sub:=by unfold Fm.sub;rw[ha];exact hu
    exact Fm.fresh d u (k+1) (by have:=Fm.pH nb;omega) U z aZ
def Fm.res(F:Fm)(h:F.dep<=400):gI 1000 (F.A false)=true/\AV.eqb 1000 (F.A false) (F.A false)=true:=
 ⟨by rw[vn];exact iI (Fm.fresh 400 F 999 h U),vZ 1000 _ _ (Fm.snap ⟨.nil,0⟩ false 400 F 1000 h U)⟩
def Tm.res(F:Tm)(h:F.dep<=400):gI 1000 (F.A false)=true/\AV.eqb 1000 (F.A false) (F.A false)=true:=
 ⟨by rw[vn];exact iI (Tm.fresh 400 F 999 h U),vZ 1000 _ _ (Tm.snap ⟨.nil,0⟩ false 400 F 1000 h U)⟩
section
def R_(hh:bc (b.aQ K) KJ Qj)(aD:List Nat)(J:ag):bw (b.aQ K) 0 (.f (.func KJ) [] []) [.s aD] J (λr af=>r= .ok (.ad [.b true,.s aD,.aj])/\mV J af):=by
 refine bw.J4 hh.e hh.p hh.f I I I I ?_;refine aa.seq (aa.region (ab.alloc J.next I I I I λah hn h1 bM=>?_));refine ab.nil (aa.seq (aa.region ?_));refine ab.go I I I I ?_;refine ab.go (v:=.ad [.b true,.s aD,.aj]) I I I I ?_;refine ab.store (bn:=[.b true,.s aD,.aj]) h1 I I I I I λca fk h2 ba=>?_;exact ab.nil (aa.ret ⟨rfl,_,_,_,_,rfl,h2,rfl,rfl,U,λi o ho=>ba i o (by have:=ag.cJ ho;omega) (bM i o ho)⟩)
def a1S(hh:bc (b.aQ K) KK Qk)(aD:List Nat)(l:AV)(ao:l= .aj\/∃a b c d e,l= .aq a b c d e)(J:ag):bw (b.aQ K) 0 (.f (.func KK) [] []) [.s aD,l] J (λr af=>r= .ok (.ad [.b false,.s aD,l])/\mV J af):=by
 refine bw.J4 hh.e hh.p hh.f I I I I ?_;refine aa.seq (aa.region (ab.alloc J.next I I I I λah hn h1 bM=>?_));refine ab.nil (aa.seq (aa.region ?_));refine ab.go I I I I ?_;refine ab.go I I I I ?_;rcases ao with rfl|⟨a,eY,c,d,e,rfl⟩
 all_goals
  refine ab.go (v:=.ad [.b false,.s aD,_]) I I I I ?_;refine ab.store (bn:=[.b false,.s aD,_]) h1 I I I I I λca fk h2 ba=>?_;exact ab.nil (aa.ret ⟨rfl,_,_,_,_,rfl,h2,rfl,rfl,U,λi o ho=>ba i o (by have:=ag.cJ ho;omega) (bM i o ho)⟩)
def Sa(hh:bc (b.aQ K) FK Qh)(aD:List Nat)(l:AV)(ao:l= .aj\/∃a b c d e,l= .aq a b c d e)(J:ag):bw (b.aQ K) 0 (.f (.func FK) [] []) [.s aD,l] J (λr af=>r= .ok (.ad [.i .u8 1,.s aD,l,.aj])/\mV J af):=by
 refine bw.J4 hh.e hh.p hh.f I I I I ?_;refine aa.seq (aa.region (ab.alloc J.next I I I I λah hn h1 bM=>?_));refine ab.nil (aa.seq (aa.region ?_));refine ab.go I I I I ?_;refine ab.go I I I I ?_;rcases ao with rfl|⟨a,eY,c,d,e,rfl⟩
 all_goals
  refine ab.go (v:=.ad [.i .u8 1,.s aD,_,.aj]) I I I I ?_;refine ab.store (bn:=[.i .u8 1,.s aD,_,.aj]) h1 I I I I I λca fk h2 ba=>?_;exact ab.nil (aa.ret ⟨rfl,_,_,_,_,rfl,h2,rfl,rfl,U,λi o ho=>ba i o (by have:=ag.cJ ho;omega) (bM i o ho)⟩)
def LP(hh:bc (b.aQ K) zP Qi)(op:Nat)(l:AV)(ao:l= .aj\/∃a b c d e,l= .aq a b c d e)(J:ag):bw (b.aQ K) 0 (.f (.func zP) [] []) [a3 op,l] J (λr af=>r= .ok (.ad [a3 op,.s [],.aj,l])/\mV J af):=by
 refine bw.J4 hh.e hh.p hh.f I I I I ?_;refine aa.seq (aa.region (ab.alloc J.next I I I I λah hn h1 bM=>?_));refine ab.nil (aa.seq (aa.region ?_));refine ab.go I I I I ?_;refine ab.go I I I I ?_;rcases ao with rfl|⟨a,eY,c,d,e,rfl⟩
 all_goals
  refine ab.go (v:=.ad [a3 op,.s [],.aj,_]) I I I I ?_;refine ab.store (bn:=[a3 op,.s [],.aj,_]) h1 I I I I I λca fk h2 ba=>?_;exact ab.nil (aa.ret ⟨rfl,_,_,_,_,rfl,h2,rfl,rfl,U,λi o ho=>ba i o (by have:=ag.cJ ho;omega) (bM i o ho)⟩)
def An(c:Nat):Tm:=.mk true [c] none
def LQ(t:Tm):Tm:=.mk false [102] (some [t])
def rb(q:Nat):Tm:=if q=0 then An 120 else if q=1 then An 121 else if q=2 then An 122 else .mk false [97] none
def itT(t:Tm):Nat->Tm
 |0=>t
 |k+1=>LQ (itT t k)
def g8(c:Nat):Tm:=itT (rb (c%4)) ((c/4)%3)
def b9M(au:bc (b.aQ K) KJ Qj)(hfn:bc (b.aQ K) KK Qk)(c:Nat)(ae:c<256)(body:bC)(hb:Y1.body=some body):aa (b.aQ K) 26 body (eh [a3 c]) ⟨.nil,0⟩ (vu 2 (some 3) λv af=>freeze af 0 1000 v=some ((g8 c).A false)):=by
 cases hb;refine aa.seq (aa.region (ab.alloc 0 I I I I λah hn h0 _=>?_));refine ab.nil (aa.seq (aa.region ?_));refine ab.dW I I I (R_ au [120] ah) λr c2 ⟨aF,dQ,bM⟩=>⟨_,aF,?_⟩
 refine ab.dW I I I (R_ au [121] c2) λr ca ⟨aV,dC,ba⟩=>⟨_,aV,?_⟩
 refine ab.dW I I I (R_ au [122] ca) λr c_ ⟨dp,fY,bj⟩=>⟨_,dp,?_⟩
 refine ab.dW I I I (a1S hfn [97] .aj (.inl I) c_) λr gz ⟨jA,hM,de⟩=>⟨_,jA,?_⟩
 replace h0:=de _ _ (bj _ _ (ba _ _ (bM _ _ h0)));clear bM ba bj de aF aV dp jA;generalize aC:gz.next=k;refine ab.nr (c:=[.b true,.s [120],.aj,.b true,.s [121],.aj,.b true,.s [122],.aj,.b false,.s [97],.aj]) k aC I I I λg7 oN bY e8=>?_;replace h0:=e8 _ _ h0;refine ab.go I I I I ?_;refine ab.bin (a:=a3 c) (b:=a3 4) I I I I (E5 U) ?_;have aP:c%4<4:=Ge _ U;refine ab.idx (j:=c%4) I I I I (kM aP) ?_;have Bp:dB (some 3) (([.b true,.s [120],.aj,.b true,.s [121],.aj,.b true,.s [122],.aj,.b false,.s [97],.aj]:List AV).drop (0+c%4*3))=some ((rb (c%4)).A false):=by
  generalize c%4=q at aP;have:q=0\/q=1\/q=2\/q=3:=by omega
  rcases this with rfl|rfl|rfl|rfl<;>rfl
 refine ab.a0 bY I I I Bp ?_;refine ab.var (v:=(rb (c%4)).A false) (c:=(rb (c%4)).cells false) (k+1) U I I I (Tm.conf false _) I (Tm.len false _) λly mO cf gH=>?_;replace h0:=gH _ _ h0;have ng:0<k:=by have:=ag.cJ h0;omega
 refine ab.nil (aa.seq (aa.seq (aa.region ?_)));refine bo ?_;refine aa.block ?_;refine aa.loop (λm f af=>k+2<=af.next/\af.get 0=some (.cells (AV.ad [.b false,.s [],.aj]).cells)/\∃i v,i+m=(c/4)%3/\af.get (k+1)=some (.cells v.cells)/\conf (some 3) v=true/\fB (λi=>i=k+1\/i=0) af (2+2*i) v ((itT (rb (c%4)) i).A false)∧
  sat [(0,a3 c),(2,.p (some (0,0))),(3,.p (some (k+1,0))),(4,aw i)] f) ?_ ((c/4)%3) ⟨U,h0,0,(rb (c%4)).A false,U,cf,Tm.conf false _,λaf _=>Tm.m3 af 0 _ false,b9⟩
 clear h0 bY cf e8 gH oN mO;intro m g J ⟨hn,h0,i,v,hi,cf,dX,hfz,hL⟩;refine aa.norm _ hL λg=>?_;clear hL;refine aa.seq (aa.seq (aa.region ?_));refine ab.go I I I I ?_;refine ab.go I I I I ?_;refine ab.bin (a:=a3 c) (b:=a3 4) I I I I (P6 U ae) ?_;refine ab.val I I (ZK (a:=c/4) I U) ?_;refine ab.bin (a:=aw (c/4)) (b:=aw 3) I I I I (E5 U) ?_;refine ab.bin (a:=aw i) (b:=aw (c/4%3)) (v:=.b (decide (i<c/4%3))) I I I I (cG I) ?_;refine bo ?_;refine aa.cl I (λht=>?_) (λhf=>?_)
 ·have hlt:i<c/4%3:=of_decide_eq_true ht;obtain⟨l,rfl,md⟩:=xr dX;refine aa.skip (aa.seq (aa.block (aa.region ?_)));refine ab.a0 (v:=.ad l) cf I I I (E6 dX) ?_;generalize aZ:J.next=z at hn;obtain⟨eZ,cU,ey,rfl⟩:∃eZ cU ey,l=[eZ,cU,ey]:=by
   match l,md with
   |[eZ,cU,ey],_=>exact⟨eZ,cU,ey,rfl⟩
  refine ab.nr (c:=[eZ,cU,ey]) z aZ I I I λc2 dQ gh jZ=>?_;refine ab.dW I I I (a1S hfn [102] (.aq z 0 1 (some 3) (some 1)) (.inr ⟨_,_,_,_,_,rfl⟩) c2) λr ca ⟨aV,dC,ba⟩=>⟨_,aV,?_⟩
  have b9N:=ba _ _ gh;have b9O:=ba _ _ (jZ _ _ cf);have b9P:=ba _ _ (jZ _ _ h0);have b9Q:=hfz.bK (af:=ca) λj o _ aG=>ba _ _ (jZ _ _ aG);refine ab.store (bn:=[.b false,.s [102],.aq z 0 1 (some 3) (some 1)]) b9O I I I I I λc_ fY gG o3=>?_;refine ab.nil (aa.region ?_);refine ab.go I I I I ?_;refine ab.bin (a:=aw i) (b:=aw 1) I I I I (ir U) ?_;refine bo ?_;have b9R:=o3 z _ U b9N;have b9S:=b9Q.bK (af:=c_) λj o aG ho=>o3 _ _ (λe=>aG (.inl e)) ho;have gi:=fB.one (R:=some 3) (cap:=some 1) (v:=.ad [eZ,cU,ey]) b9R U I b9S;refine⟨m-1,U,U,o3 _ _ U b9P,i+1,.ad [.b false,.s [102],.aq z 0 1 (some 3) (some 1)],U,gG,rfl,?_,b9⟩;have e:2+2*(i+1)=(2+2*i+1)+1:=by omega
  rw[e];exact fB.ad λaf h'=>by rw[dg,dg,dg,gi af h'];rfl
 ·have iX:¬i<c/4%3:=of_decide_eq_false hf;obtain rfl:i=c/4%3:=by omega
  obtain⟨l,rfl,md⟩:=xr dX;refine aa.exit ?_;refine aa.seq (aa.region ?_);refine ab.a0 (v:=.ad l) cf I I I (E6 dX) ?_;refine ab.store (bn:=l) h0 I I I dX (storeAll md) λc_ fY gG o3=>?_;have b6C:0<k+1:=by omega
  refine ab.nil (aa.ret ⟨rfl,_,_,_,.ad l,rfl,gG,E6 dX,?_⟩);exact Yy (hfz c_ λi o hi ho=>o3 i o (λe=>hi (.inr e)) ho) (by have:=Ge (c/4) (show 0<3 by omega);omega)
end
section
def LR{α:Type}:List α->Option (List α)
 |[]=>none
 |x::l=>some (x::l)
mutual
def Fm.strip:Fm->Fm
 | .mk op n _ none=>.mk op n none none
 | .mk op n _ (some l)=>if op=8\/op=9 then Fm.stripH l else .mk op n none (LR (Fm.n_ l))
def Fm.stripH:List Fm->Fm
 |[]=>.mk 0 [] none none
 |f::_=>f.strip
def Fm.n_:List Fm->List Fm
 |[]=>[]
 |f::l=>f.strip::Fm.n_ l
end
def Fm.a1T:∀l:List Fm,Fm.n_ l=l.map Fm.strip
 |[]=>by rw[Fm.n_];rfl
 |f::l=>by rw[Fm.n_,Fm.a1T l];rfl
def Fm.b9T{F:Fm}(h:F.op=8\/F.op=9)(h1:0<F.sub.length):F.strip=(F.sub[0]).strip:=by
 obtain⟨op,n,a,s⟩:=F;cases s with
 |none=>exact absurd h1 (IX 0)
 |some l=>
  cases l with
  |nil=>exact absurd h1 (IX 0)
  |cons g l=>
   rw[Fm.strip,if_pos (show op=8\/op=9 from h),Fm.stripH];rfl
def Fm.b9U{F:Fm}(h:¬(F.op=8\/F.op=9)):F.strip= .mk F.op F.name none (LR (F.sub.map Fm.strip)):=by
 obtain⟨op,n,a,s⟩:=F;cases s with
 |none=>rw[Fm.strip];rfl
 |some l=>rw[Fm.strip,if_neg (show ¬(op=8\/op=9) from h),Fm.a1T];rfl
def b9V{o:Bool}{l:List Fm}:slA o (some 4) (l.map λf=>f.A o)=fa o (LR l):=by cases l<;>rfl
def Acc.b9W{k:Nat}{J:ag}{R:Option Nat}{v:AV}{xs:List AV}(h:Acc J R v xs):AV.eqb (k+1000) v v=true:=by
 cases h with
 |nil=>rfl
 |aq o x xs h ae=>
  show(Nat.beq o o&&Nat.beq 0 0&&Nat.beq (xs.length+1) (xs.length+1)&&decide (R=R)&&decide ((none:Option Nat)=none))=true;simp
def Ao{J:ag}{id:Nat}{R cap:Option Nat}{y:AV}(hg:J.get id=some (.cells y.cells))(ae:conf R y=true):newOf J (.aq id 0 1 R cap)=some [y]:=by
 show readList J (.aq id 0 1 R cap)=_;show(match J.get id with|some (.cells c)=>elems R 1 (c.drop 0)|_=>none)=_;rw[hg];have:=tz (R:=R) (xs:=[y]) (r:=[]) (by intro w hw;rw[dx.1 hw];exact ae);simpa using this
section
variable {b:b8}{K:Nat->List AV->AV->Prop}(hf:∀g aB r bS,K g aB r->K g aB bS->r=bS)
include hf in
theorem b9X(he:b.ext oW=0)(ay:b.pure oW=true)(F:Fm)(ak:∀G∈F.sub,K oW [G.A true] (G.strip.A false))(an:F.dep<=400)(hlen:F.sub.length<1000)(eO:F.op<256)(aP:F.op=8\/F.op=9->0<F.sub.length)(body:bC)(hb:YZ.body=some body):
  aa (b.aQ K) 40 body (eh [F.A true]) ⟨.nil,0⟩ (vu 2 (some 4) λv af=>freeze af 0 1000 v=some (F.strip.A false)):=by
 cases hb;have gA:∀G∈F.sub,∀J:ag,bp J (b.a2+1000) (G.A true)=some (G.A true):=λG cc J=>Fm.snap J true 400 G (b.a2+1000) (by have:=Fm.pH cc;omega) U;refine aa.seq (aa.region (ab.box (v:=F.A true) (c:=F.cells true) 0 I I I I I I λbu e6 h0 _=>?_));refine ab.alloc 1 e6 I I I λJ hn h1 bM=>?_;replace h0:=bM _ _ h0;clear bM e6;refine ab.nil ?_;refine aa.EX [(1,.p (some (0,0))),(2,.p (some (1,0)))] (E:=vu 2 (some 4) λv af=>freeze af 0 1000 v=some (F.strip.A false)) (M:=¬(F.op=8\/F.op=9)) ?_ (λx bD af h=>⟨λe=>(by have:=h.1;rw[e] at this;cases this),h⟩) λCy g=>?_
 ·refine aa.seq (aa.region ?_);refine ab.go I I I I ?_;refine ab.a0 h0 I I I (Fm.vs true F) ?_;refine ab.bin (a:=a3 F.op) (b:=.i .u8 (Int.ofNat 8)) (v:=.b (decide (F.op=8))) I I I I (cG I) ?_;have a1U:∀ {g:Nat->AV},sat [(1,.p (some (0,0))),(2,.p (some (1,0)))] g->(F.op=8\/F.op=9)->aa (b.aQ K) 40 (.seq (.region [⟨(some 14),.fieldAddr 3 none (.t 1),none,[]⟩,⟨(some 15),.load none (.t 14),none,[]⟩,⟨(some 16),.dr (some 4) (.t 15) (.c (.i .i64 0)),none,[]⟩,⟨(some 17),.load (some 4) (.t 16),none,[]⟩,⟨(some 18),.call (.fn oW) [(.t 17)],none,[]⟩,⟨none,.store (some 4) (.t 2) (.t 18),none,[]⟩]) .ret) g J (vu 2 (some 4) λv af=>freeze af 0 1000 v=some (F.strip.A false)):=λ{g} hL a1V=>by
   refine aa.norm _ hL λg=>?_;have ao:=aP a1V;refine aa.seq (aa.region ?_);refine ab.go I I I I ?_;refine ab.a0 h0 I I I (Fm.E2 true F) ?_;refine ab.idx (j:=0) I I I I (tB ao) ?_;refine ab.gY I I I (Fm.conf true _) ?_;have hm:F.sub[0]∈F.sub:=c3 ao;refine ab.known hf he ay (ak _ hm) I I I (fZ (gA _ hm J)) ?_;refine ab.store (bn:=(F.sub[0]).strip.cells false) h1 I I I (Fm.conf false _) (storeAll (Fm.len false _)) λah dC h2 ba=>?_;refine ab.nil (aa.ret ⟨rfl,_,_,_,_,rfl,h2,E6 (v:=(F.sub[0]).strip.A false) (Fm.conf false _),?_⟩);rw[Fm.b9T a1V ao];exact Fm.m3 ah 998 _ false
  by_cases gG:F.op=8
  ·rw[show decide (F.op=8)=true from decide_eq_true gG];refine bo ?_;refine aa.cl I (λ_=>?_) (λh=>by cases h);exact(a1U (g:=_) b9 (.inl gG)).mono λx f J h=>.inr h
  ·rw[show decide (F.op=8)=false from decide_eq_false gG];refine ab.go I I I I ?_;refine ab.go I I I I ?_;refine ab.a0 h0 I I I (Fm.vs true F) ?_;refine ab.bin (a:=a3 F.op) (b:=.i .u8 (Int.ofNat 9)) (v:=.b (decide (F.op=9))) I I I I (cG I) ?_;by_cases iF:F.op=9
   ·rw[show decide (F.op=9)=true from decide_eq_true iF];refine bo ?_;refine aa.cl I (λ_=>?_) (λh=>by cases h);exact(a1U (g:=_) b9 (.inr iF)).mono λx f J h=>.inr h
   ·rw[show decide (F.op=9)=false from decide_eq_false iF];refine bo ?_;refine aa.cl I (λh=>by cases h) (λ_=>?_);exact aa.skip (.inl ⟨rfl,rfl,b9,λh=>h.elim gG iF⟩)
 rw[Fm.b9U Cy];clear aP Cy;refine aa.seq (aa.region ?_);refine ab.go I I I I ?_;refine ab.a0 h0 I I I (Fm.vs true F) ?_;refine ab.go I I I I ?_;refine ab.a0 h0 I I I (Fm.tA true F) ?_;refine ab.go (v:=.ad [a3 F.op,.s F.name,.aj,.aj]) I I I I ?_;refine ab.var (v:=.ad [a3 F.op,.s F.name,.aj,.aj]) (c:=[a3 F.op,.s F.name,.aj,.aj]) 2 hn I I I I I I λah dC h2 ba=>?_;replace h0:=ba _ _ h0;replace h1:=ba _ _ h1;clear ba;refine ab.nil (aa.seq (aa.seq (aa.region ?_)));refine ab.go I I I I ?_;refine ab.a0 h0 I I I (Fm.E2 true F) ?_;refine ab.len I I I qN ?_;refine ab.go I I I I ?_;refine ab.nil (aa.block ?_);refine aa.loop (λm f af=>∃i v,i+m=F.sub.length/\3<=af.next/\af.get 1=some (.cells [.i .u8 0,.s [],.aj,.aj])/\af.get 2=some (.cells [a3 F.op,.s F.name,.aj,v])/\Acc af (some 4) v ((F.sub.take i).map λG=>G.strip.A false)/\(∀a,v.dU =some a->3<=a)∧
  sat [(2,.p (some (1,0))),(3,.p (some (2,0))),(25,fa true F.d_),(26,aw F.sub.length),(27,aw i)] f) ?_ F.sub.length ⟨0,.aj,U,U,h1,h2,.nil,λa h=>(by cases h),b9⟩
 clear h0 h1 h2 dC hn;intro m g J ⟨i,v,hi,hn,h1,h2,hA,hT,hL⟩;refine aa.norm _ hL λg=>?_;clear hL;refine aa.seq (aa.region ?_);refine ab.bin (a:=aw i) (b:=aw F.sub.length) (v:=.b (decide (i<F.sub.length))) I I I I (cG I) ?_;refine ab.nil (aa.seq ?_);refine aa.cl I (λht=>?_) (λdP=>?_)
 ·have hlt:i<F.sub.length:=of_decide_eq_true ht;refine aa.skip (aa.seq (aa.block (aa.seq (aa.region ?_))));refine ab.idx (j:=i) I I I I (tB hlt) ?_;refine ab.gY I I I (Fm.conf true _) ?_;generalize aZ:J.next=z at hn;refine ab.var (v:=(F.sub[i]).A true) (c:=(F.sub[i]).cells true) z aZ I I I (Fm.conf true _) I (Fm.len true _) λbA dC h3 ba=>?_;replace h1:=ba _ _ h1;replace h2:=ba _ _ h2;replace hA:=hA.bK λi o _ ho=>ba i o ho;clear ba;refine ab.nil ?_;have hm:F.sub[i]∈F.sub:=c3 hlt;refine aa.xx 5 I ?_;have k_:qP (b.aQ K) [oW]:=.cons (λF args J=>b5b he ay F args J) .nil;refine gK.qQ 1 I k_ I ?_;refine ab.go I I I I ?_;refine ab.nil ⟨rfl,λ_ _ h=>h,?_⟩;refine gK.nq (v:=v) I I I (λah aC=>lp _ _ I (l8 (aC _ _ h2) hA.F5)) hA.b9W ?_;refine gK.qQ 3 I k_ I ?_;refine ab.a0 h3 I I I (Fm.a0 true _) ?_;refine ab.known hf he ay (ak _ hm) I I I (fZ (gA _ hm bA)) ?_;refine ab.nr (c:=(F.sub[i]).strip.cells false) (z+1) dC I I (by simp only[Fm.A,Fm.gJ];rfl) λc8 fY aN bj=>?_;replace hA:=hA.bK λi o _ ho=>bj i o ho;have oE:=bj _ _ h1;have lN:=bj _ _ h2;refine ab.nil ⟨rfl,bj,?_⟩;refine gK.fin k_ I ?_;refine ab.append (y:=(F.sub[i]).strip.A false) (a4:=[]) hA (Ao aN (Fm.conf false _)) (λx hx=>by rw[dx.1 hx];exact Fm.conf false _) (by simp only[cb,gM,gS,nn];omega) I I I I λa_ lx hr Gz hM de=>?_;refine ab.go I I I I ?_;replace oE:=de 1 _ (λe=>by have:=hT 1 e;omega) oE;replace lN:=de 2 _ (λe=>by have:=hT 2 e;omega) lN;refine ab.store (bn:=[a3 F.op,.s F.name,.aj,a_]) lN I I I hr.n3 (by show storeCells _ 3 a_.cells=_;rw[EZ hr.n3];rfl) λc6Z oN cf e8=>?_;refine ab.nil ⟨rfl,?_⟩;refine aa.region ?_;refine ab.bin (a:=aw i) (b:=aw 1) I I I I (ir U) ?_;refine ab.go I I I I ?_;refine ab.nil ⟨m-1,U,i+1,a_,U,U,e8 _ _ U oE,cf,?_,λa e=>by rw[Gz] at e;cases e;omega,b9⟩;rw[lv hlt,ie];exact hr.bK λj o aG ho=>e8 j o (λe=>by rw[Gz] at aG;cases aG;omega) ho
 ·have iX:¬i<F.sub.length:=of_decide_eq_false dP;obtain rfl:i=F.sub.length:=by omega
  refine aa.exit ?_;refine aa.seq (aa.region ?_);refine ab.a0 (v:=.ad [a3 F.op,.s F.name,.aj,v]) h2 I I I I ?_;refine ab.store (bn:=[a3 F.op,.s F.name,.aj,v]) h1 I I I I I λbA dC h3 bj=>?_;refine ab.nil (aa.ret ⟨rfl,_,_,_,.ad [a3 F.op,.s F.name,.aj,v],rfl,h3,rfl,?_⟩);replace hA:=hA.bK (af:=bA) λj o aG ho=>bj j o (λe=>by have:=hT j aG;omega) ho;rw[kS] at hA;have bY:=hA.freeze (n:=998) (a4:=F.sub.map λG=>G.strip.A false) (PW λx hx=>by
   obtain⟨G,_,rfl⟩:=di.1 hx;exact Fm.m3 bA 996 _ false)
  have tr:slA false (some 4) (F.sub.map λG=>G.strip.A false)=fa false (LR (F.sub.map Fm.strip)):=by
   rw[<-b9V,kz];rfl
  rw[tr] at bY;show freeze bA 0 (999+1) _=_;rw[freeze_succ];simp only[];rw[dg,dg,dg,dg,bY];unfold Fm.A;rw[Fm.gJ];rfl
end
end
def Sb:∀ {l S:List dM},l.Nodup->(∀x∈l,x∈S)->l.length<=S.length
 |[],_,_,_=>kA _
 |x::l,S,h,ak=>by
  have hx:=ak x aT;have h:=RE.1 h;have:=Sb (S:=S.erase x) h.2 λy aI=>(List.mem_erase_of_ne (λe=>h.1 (by rw[<-e];exact aI))).2 (ak y (fP _ aI));rw[List.length_erase_of_mem hx] at this;have:0<S.length:=List.length_pos_of_mem hx;simp only[gS];omega
abbrev o6(S a7:List dM):Prop:=a7.Nodup/\∀x∈a7,x∈S
def o6.ins{S a7:List dM}{x:dM}(h:o6 S a7)(hx:x∈S):o6 S (lS x a7):=by
 unfold lS;split
 ·exact h
 ·rename_i hn;refine⟨Zx.2 ⟨h.1,aT,λa ha b hb=>?_⟩,λy aI=>?_⟩
  ·rw[dx.1 hb];exact λe=>hn (by rw[<-e];exact ha)
  ·rcases gN.1 aI with aI|aI
   ·exact h.2 y aI
   ·rw[dx.1 aI];exact hx
def a1W{S:List dM}:∀ {l:List Fm} {a7:List dM},o6 S a7->(∀f∈l,f.op=1->(f.name,f.args.length)∈S)->o6 S (xV l a7)
 |[],_,h,_=>h
 |f::l,a7,h,ao=>by
  show o6 S (xV l (z9 f a7));refine a1W ?_ λg hg=>ao g (fP _ hg);unfold z9;split
  ·exact h.ins (ao f aT ‹_›)
  ·exact h
def a1X{S:List dM}:∀ {l:List Tm} {a7:List dM},o6 S a7->(∀f∈l,f.var=false->(f.name,f.args.length)∈S)->o6 S (z_ l a7)
 |[],_,h,_=>h
 |f::l,a7,h,ao=>by
  show o6 S (z_ l (sz f a7));refine a1X ?_ λg hg=>ao g (fP _ hg);unfold sz;split
  ·exact h.ins (ao f aT ‹_›)
  ·exact h
def a1Y{S:List dM}:∀ {l:List Fm} {a7:List dM},o6 S a7->(∀g∈l,∀f∈Tm.eA g.args,f.var=false->(f.name,f.args.length)∈S)->o6 S (Ln l a7)
 |[],_,h,_=>h
 |g::l,a7,h,ao=>by
  show o6 S (Ln l (z_ (Tm.eA g.args) a7));exact a1Y (a1X h λf hf=>ao g aT f hf) λf hf=>ao f (fP _ hf)
def mi:List dM:=[([80],1),([81],0),([82],2),([80],0),([82],0)]
def Ap:List dM:=[([102],1),([97],0)]
def Tm.Aq(t:Tm):Prop:=t.ok/\t.fA/\∀u∈t.parts,u.var=false->(u.name,u.args.length)∈Ap
def b9Y(q:Nat):(rb q).Aq:=by
 unfold rb;have au:∀c,(An c).Aq:=λc=>by
  refine⟨.mk (by show 1<_;omega) aT aT,.mk aT aT,λu hu h=>?_⟩;unfold An at hu;rw[Tm.parts] at hu;rw[dx.1 hu] at h;cases h
 repeat' split
 ·exact au _
 ·exact au _
 ·exact au _
 ·refine⟨.mk (by show 1<_;omega) aT aT,.mk aT aT,λu hu h=>?_⟩;rw[Tm.parts] at hu;rw[dx.1 hu];simp[Ap,Tm.name,Tm.args,Tm.cP]
def a1Z{t:Tm}(h:t.Aq):(LQ t).Aq:=by
 have hm:∀x∈(some [t]).getD [],x=t:=λx hx=>by simpa using hx
 refine⟨.mk (by show 1<_;omega) aT λx hx=>by rw[hm x hx];exact h.1,.mk aT λx hx=>by rw[hm x hx];exact h.2.1,λu hu au=>?_⟩;unfold LQ at hu;rw[Tm.parts,Tm.eA,Tm.eA,fp] at hu;rcases eH.1 hu with rfl|hu
 ·simp[Ap,Tm.name,Tm.args,Tm.cP]
 ·exact h.2.2 u hu au
def a2a(c:Nat):(g8 c).Aq:=by
 unfold g8;generalize(c/4)%3=k
 induction k with
 |zero=>exact b9Y _
 |succ k ar=>exact a1Z ar
inductive g9:Fm->Prop
 |fb (aD:List Nat) (a:Option (List Tm)) (hn:aD.length<2^62) (ha:∀t∈a.getD [],t.Aq) (ak:(aD,(a.getD []).length)∈mi):g9 (.mk 1 aD a none)
 |e2:g9 (.mk 2 [] none none)
 |un (op:Nat) (aD:List Nat) (F:Fm) (ho:op=3\/op=8\/op=9) (hn:aD.length<2^62) (h:g9 F):g9 (.mk op aD none (some [F]))
 |bi (op:Nat) (F G:Fm) (ho:4<=op/\op<8) (h:g9 F) (h2:g9 G):g9 (.mk op [] none (some [F,G]))
def Ar{aD:List Nat}{k:Nat}(h:(aD,k)∈mi):k<=2:=by
 simp only[mi,eH,te,mJ,or_false] at h;omega
def g9.ok{F:Fm}(h:g9 F):F.ok:=by
 induction h with
 |fb aD a hn ha ak=>exact .mk U hn (by have:=Ar ak;omega) (λx hx=>(ha x hx).1) aT aT
 |e2=>exact .mk U aT aT aT aT aT
 |un op aD F ho hn h ar=>exact .mk U hn aT aT aT (λx hx=>by rw[show x=F from by simpa using hx];exact ar)
 |bi op F G ho h h2 ar fx=>exact .mk U aT aT aT aT (λx hx=>by
   have:x=F\/x=G:=by simpa using hx
   rcases this with rfl|rfl<;>assumption)
def g9.fA{F:Fm}(h:g9 F):F.fA:=by
 induction h with
 |fb aD a hn ha ak=>exact .mk (by have:=Ar ak;omega) (λx hx=>(ha x hx).2.1) aT aT
 |e2=>exact .mk aT aT aT aT
 |un op aD F ho hn h ar=>exact .mk aT aT aT (λx hx=>by rw[show x=F from by simpa using hx];exact ar)
 |bi op F G ho h h2 ar fx=>exact .mk aT aT aT (λx hx=>by
   have:x=F\/x=G:=by simpa using hx
   rcases this with rfl|rfl<;>assumption)
def a2b{P:Tm->Prop}:∀ {l:List Tm},(∀t∈l,∀u∈t.parts,P u)->∀u∈Tm.eA l,P u
 |[],_,u,hu=>by simp[Tm.eA] at hu
 |t::l,h,u,hu=>by
  rw[Tm.eA] at hu;rcases gN.1 hu with hu|hu
  ·exact h t aT u hu
  ·exact a2b (λt ht=>h t (fP _ ht)) u hu
def g9.syms{F:Fm}(h:g9 F):∀G∈F.parts,(G.op=1->(G.name,G.args.length)∈mi)/\∀u∈Tm.eA G.args,u.var=false->(u.name,u.args.length)∈Ap:=by
 have no:∀(op:Nat) (aD:List Nat) (s:Option (List Fm)),op≠1->((Fm.mk op aD none s).op=1->((Fm.mk op aD none s).name,(Fm.mk op aD none s).args.length)∈mi)/\∀u∈Tm.eA (Fm.mk op aD none s).args,u.var=false->(u.name,u.args.length)∈Ap:=λop aD s ho=>⟨λh=>absurd h ho,λu hu=>by simp[Fm.args,Fm.cP,Tm.eA] at hu⟩
 induction h with
 |fb aD a hn ha ak=>
  intro G cc;rw[Fm.parts] at cc;rw[dx.1 cc];exact⟨λ_=>ak,a2b λt ht u hu au=>(ha t ht).2.2 u hu au⟩
 |e2=>
  intro G cc;rw[Fm.parts] at cc;rw[dx.1 cc];exact no _ _ _ U
 |un op aD F ho hn h ar=>
  intro G cc;rw[Fm.parts,Fm.eA,Fm.eA,fp] at cc;rcases eH.1 cc with rfl|cc
  ·exact no _ _ _ U
  ·exact ar G cc
 |bi op F G ho h h2 ar fx=>
  intro H cc;rw[Fm.parts,Fm.eA,Fm.eA,Fm.eA,fp] at cc;rcases eH.1 cc with rfl|cc
  ·exact no _ _ _ U
  ·rcases gN.1 cc with cc|cc
   ·exact ar H cc
   ·exact fx H cc
def g9.a2c{F:Fm}(h:g9 F):o6 mi (tW F):=a1W ⟨aT,aT⟩ λG cc=>(h.syms G cc).1
def g9.a2d{F:Fm}(h:g9 F):o6 Ap (sA F):=a1Y ⟨aT,aT⟩ λG cc=>(h.syms G cc).2
def g9.b9Z{F:Fm}(h:g9 F):(tW F).length<=12:=lE (Sb h.a2c.1 h.a2c.2) eI
def g9.c0a{F:Fm}(h:g9 F):(sA F).length<=12:=lE (Sb h.a2d.1 h.a2d.2) eI
def Sc(b:Nat):Fm:=.mk 1 [80] (some [g8 b]) none
def CK:Fm:=.mk 1 [81] none none
def LS(b:Nat):Fm:=.mk 1 [82] (some [g8 (b%4),g8 (b/4)]) none
def nE(s:List Fm)(j:Nat):Fm:=s[s.length-j]?.getD CK
def ud(q:Nat):List Nat:=if q=0 then[120] else if q=1 then[121] else[122]
def CL(c:Nat)(s:List Fm)(k:Nat):List Fm×Nat:=
 if c%12<2 then(s++[Sc (c/12)],k)
 else if c%12=2 then(s++[CK],k)
 else if c%12=3\/c%12=4 then(s++[LS (c/12)],k)
 else if c%12=5/\1<=s.length then(s.take (s.length-1)++[.mk 3 [] none (some [nE s 1])],k)
 else if 6<=c%12/\c%12<10/\2<=s.length then(s.take (s.length-2)++[.mk (c%12-2) [] none (some [nE s 2,nE s 1])],k)
 else if 10<=c%12/\1<=s.length/\k<4 then(s.take (s.length-1)++[.mk (c%12-2) (ud (c/12%3)) none (some [nE s 1])],k+1)
 else(s,k)
def runB:List Nat->List Fm×Nat->List Fm×Nat
 |[],p=>p
 |c::l,p=>runB l (CL c p.1 p.2)
def orsB:Fm->List Fm->Fm
 |f,[]=>f
 |f,g::l=>orsB (.mk 5 [] none (some [f,g])) l
def Sd:List Fm->Fm
 |[]=>.mk 2 [] none none
 |f::l=>orsB f l
def builtF(l:List Nat):Fm:=Sd (runB (l.take 24) ([],0)).1
def fB.sub{W a2e:Nat->Prop}{J:ag}{n:Nat}{v r:AV}(h:fB W J n v r)(hw:∀i,a2e i->W i):fB a2e J n v r:=λaf h'=>h af λi o hi ho=>h' i o (λe=>hi (hw i e)) ho
structure oa(i:Nat)(J:ag)(v:AV)(aE:List (AV×Fm))(W:Nat->Prop):Prop where
 acc:Acc J (some 4) v (aE.map Prod.fst)
 m3:∀p∈aE,fB W J (10+2*i) p.1 (p.2.A false)/\p.2.dep<=4+i
 at':∀a,v.dU =some a->W a
 zero:W 0
 old:∀j,¬W j->j<J.next
 res:J.get 0=some (.cells [.i .u8 0,.s [],.aj,.aj])
 len:aE.length<=i
 nz:v.dU ≠some 0
def oa.next{i:Nat}{J:ag}{v:AV}{aE:List (AV×Fm)}{W:Nat->Prop}(h:oa i J v aE W):oa (i+1) J v aE W:=
 ⟨h.acc,λp ay=>⟨(h.m3 p ay).1.le U,by have:=(h.m3 p ay).2;omega⟩,h.at',h.zero,h.old,h.res,by have:=h.len;omega,h.nz⟩
def oa.step{i:Nat}{J c8 lx:ag}{v a_ y:AV}{F:Fm}{aE:List (AV×Fm)}{W:Nat->Prop}(N:Nat->Prop)(k:Nat)(h:oa i J v aE W)(hs:∀j,N j->J.next<=j/\j<c8.next)(aC:r6 J c8)(hn:J.next<=c8.next)
  (hA:Acc lx (some 4) a_ ((aE.map Prod.fst).take k++[y])) (hT:a_.dU =some c8.next) (hM:lx.next=c8.next+1) (de:∀j o,v.dU ≠some j->c8.get j=some o->lx.get j=some o) (aI:fB (λj=>W j/\¬N j) c8 (10+2*(i+1)) y (F.A false)) (an:F.dep<=4+(i+1)):
  oa (i+1) lx a_ (aE.take k++[(y,F)]) (λj=>W j/\¬N j):=by
 have a2f:=ag.cJ h.res;have c0b:∀a,v.dU =some a->W a/\¬N a:=λa ha=>⟨h.at' a ha,λe=>by have:=h.acc.lt ha;have:=hs a e;omega⟩
 have CB:∀j o,¬(W j/\¬N j)->c8.get j=some o->lx.get j=some o:=λj o aG ho=>de j o (λe=>aG (c0b j e)) ho;refine⟨?_,λp ay=>?_,λa ha=>?_,⟨h.zero,λe=>by have:=hs 0 e;omega⟩,λj aG=>?_,de 0 _ h.nz (aC 0 _ h.res),?_,λe=>?_⟩
 ·rw[ie,Dq];exact hA
 ·rcases gN.1 ay with ay|ay
  ·have hm:=h.m3 p (oo ay);refine⟨fB.le (n:=10+2*i) ?_ U,U⟩;exact((hm.1.bK λj o _ ho=>aC j o ho).sub λj aG=>aG.1).bK CB
  ·rw[dx.1 ay];exact⟨aI.bK CB,an⟩
 ·rw[hT] at ha;cases ha;refine⟨EG λe=>?_,λe=>by have:=hs _ e;omega⟩;have:=h.old _ e;omega
 ·by_cases e:N j
  ·have:=hs j e;omega
  ·have:=h.old j λaF=>aG ⟨aF,e⟩;omega
 ·rw[h5,gM,RF];have:=h.len;omega
 ·rw[hT] at e;injection e with e;omega
def oa.elem{i:Nat}{J:ag}{v:AV}{aE:List (AV×Fm)}{W:Nat->Prop}(h:oa i J v aE W){j:Nat}(aG:j<aE.length)(dX:∀y∈aE.map Prod.fst,conf (some 4) y=true):
  ∃eZ cU ey gR G,dB (some 4) (((aE.map Prod.fst).flatMap AV.cells).drop (0+j*shN (some 4)))=some (.ad [eZ,cU,ey,gR])/\fB W J (10+2*i) (.ad [eZ,cU,ey,gR]) (G.A false)/\G.dep<=4+i/\(aE.map Prod.snd)[j]? =some G:=by
 have hx:(aE.map Prod.fst)[j]'(by rw[cb];exact aG)=(aE[j]).1:=ic ..;have hm:aE[j]∈aE:=c3 aG;obtain⟨bB,x2⟩:=h.m3 _ hm;have mh:=vI (R:=some 4) (xs:=aE.map Prod.fst) (j:=j) (by rw[cb];exact aG) dX;rw[hx] at mh;obtain⟨Cv,CE,vW⟩:=xr (dX (aE[j]).1 (di.2 ⟨_,hm,rfl⟩));obtain⟨eZ,cU,ey,gR,rfl⟩:∃eZ cU ey gR,Cv=[eZ,cU,ey,gR]:=by
  match Cv,vW with
  |[eZ,cU,ey,gR],_=>exact⟨eZ,cU,ey,gR,rfl⟩
 rw[CE] at mh bB;refine⟨eZ,cU,ey,gR,(aE[j]).2,mh,bB,x2,?_⟩;rw[eS (by rw[cb];exact aG),ic]
def LU:∀(l:List Fm) (f g:Fm),orsB f (l++[g])= .mk 5 [] none (some [orsB f l,g])
 |[],f,g=>rfl
 |x::l,f,g=>by rw[qz,orsB,LU l];rfl
def bc.one{env:Env}{g:Nat}{bG:bP}{body:bC}(hh:bc env g bG)(hb:bG.body=some body)(ae:calmC body=true):∀F args J,kb (callV env (exec env F) 0 (.f (.func g) [] []) args J):=λF args J=>call_one hh.e hh.p hh.f hb ae F [] [] args J
def a2g:∀(k:Nat) (t:Tm),(itT t k).dep=t.dep+k
 |0,t=>rfl
 |k+1,t=>by
  rw[itT,LQ,Tm.e0];show Tm.cv [itT t k]+1=_;rw[Tm.cv,Tm.cv,a2g k t];omega
def c0c(q:Nat):(rb q).dep=1:=by
 unfold rb
 repeat' split
 all_goals (try unfold An);rw[Tm.e0];simp[Tm.args,Tm.cP,Tm.cv]
def GC(c:Nat):(g8 c).dep<=3:=by
 unfold g8;rw[a2g,c0c];have:=Ge (c/4) (show 0<3 by omega);omega
def a2h(b:Nat):(Sc b).dep<=4:=by
 rw[Fm.e0];show max (Tm.cv [g8 b]) (Fm.cv [])+1<=4;rw[Tm.cv,Tm.cv,Fm.cv];have:=GC b;omega
def a2i:CK.dep=1:=by
 rw[Fm.e0];show max (Tm.cv []) (Fm.cv [])+1=1;rw[Tm.cv,Fm.cv];rfl
def a2j(b:Nat):(LS b).dep<=4:=by
 rw[Fm.e0];show max (Tm.cv [g8 (b%4),g8 (b/4)]) (Fm.cv [])+1<=4;rw[Tm.cv,Tm.cv,Tm.cv,Fm.cv];have:=GC (b%4);have:=GC (b/4);omega
def x3(op:Nat)(aD:List Nat)(F:Fm):(Fm.mk op aD none (some [F])).dep=F.dep+1:=by
 rw[Fm.e0];show max (Tm.cv []) (Fm.cv [F])+1=_;rw[Tm.cv,Fm.cv,Fm.cv];omega
def GD(op:Nat)(aD:List Nat)(F G:Fm):(Fm.mk op aD none (some [F,G])).dep=max F.dep G.dep+1:=by
 rw[Fm.e0];show max (Tm.cv []) (Fm.cv [F,G])+1=_;rw[Tm.cv,Fm.cv,Fm.cv,Fm.cv];omega
def a2k:∀(l:List Nat) (c:Nat) (p:List Fm×Nat),runB (l++[c]) p=CL c (runB l p).1 (runB l p).2
 |[],c,p=>rfl
 |x::l,c,p=>by rw[qz,runB,a2k l c,runB]
inductive ki:Nat->Nat->Fm->Prop
 |fb (aD:List Nat) (a:Option (List Tm)) (h:g9 (.mk 1 aD a none)) (an:(Fm.mk 1 aD a none).dep<=4) (ht:(∀t∈a.getD [],∃c,t=g8 c)/\a≠some []):ki 1 1 (.mk 1 aD a none)
 |e2:ki 1 1 (.mk 2 [] none none)
 |neg {n d:Nat} {F:Fm} (h:ki n d F):ki (n+1) (d+1) (.mk 3 [] none (some [F]))
 |q {n d:Nat} {F:Fm} (op:Nat) (aD:List Nat) (ho:op=8\/op=9) (hn:aD.length<2^62) (hx:aD=[120]\/aD=[121]\/aD=[122]) (h:ki n d F):ki (n+1) (d+1) (.mk op aD none (some [F]))
 |bi {n d m e:Nat} {F G:Fm} (op:Nat) (ho:4<=op/\op<8) (h:ki n d F) (h2:ki m e G):ki (n+m+1) (d+e) (.mk op [] none (some [F,G]))
def ki.pos{n d:Nat}{F:Fm}(h:ki n d F):1<=n/\1<=d:=by
 induction h with
 |fb aD a h an ht=>omega
 |e2=>omega
 |neg h ar=>omega
 |q op aD ho hn hx h ar=>omega
 |bi op ho h h2 ar fx=>omega
def ki.dep{n d:Nat}{F:Fm}(h:ki n d F):F.dep<=d+3:=by
 induction h with
 |fb aD a h an ht=>omega
 |e2=>rw[Fm.e0];show max (Tm.cv []) (Fm.cv [])+1<=_;rw[Tm.cv,Fm.cv];omega
 |neg h ar=>rw[x3];omega
 |q op aD ho hn hx h ar=>rw[x3];omega
 |bi op ho h h2 ar fx=>rw[GD];have:=h.pos;have:=h2.pos;omega
def As{depth L:Nat}(h:depth<=40)(hL:1<=L):nodeJ 40 depth L=some (L-1):=by
 cases L with
 |zero=>omega
 |succ L=>rw[nodeJ,if_pos h];rfl
def a2l{aD:List Nat}{k:Nat}(h:(aD,k)∈mi):(aD,0)∈mi/\pQ aD=true:=by
 simp only[mi,eH,te,mJ,or_false] at h;rcases h with⟨rfl,_⟩|⟨rfl,_⟩|⟨rfl,_⟩|⟨rfl,_⟩|⟨rfl,_⟩<;>refine⟨by simp[mi],eI⟩
inductive lV:List Fm->Nat->Nat->Prop
 |nil:lV [] 0 0
 |snoc {s:List Fm} {N D n d:Nat} {F:Fm} (h:lV s N D) (bB:ki n d F):lV (s++[F]) (N+n) (D+d)
def lV.last{s:List Fm}{N D:Nat}(h:lV s N D)(ak:1<=s.length):∃iH nF gy n d F,s=iH++[F]/\lV iH nF gy/\ki n d F/\N=nF+n/\D=gy+d/\nE s 1=F/\s.take (s.length-1)=iH:=by
 cases h with
 |nil=>simp at ak
 |snoc h bB=>
  rename_i iH nF gy n d F;refine⟨iH,nF,gy,n,d,F,rfl,h,bB,rfl,rfl,?_,?_⟩
  ·unfold nE;simp
  ·simp
def lV.step{s:List Fm}{N D c k:Nat}(h:lV s N D):∃nF gy,lV (CL c s k).1 nF gy/\nF<=N+1/\gy<=D+1:=by
 have Se:∀aD a,(g9 (.mk 1 aD a none))->(Fm.mk 1 aD a none).dep<=4->((∀t∈a.getD [],∃c,t=g8 c)/\a≠some [])->∃nF gy,lV (s++[.mk 1 aD a none]) nF gy/\nF<=N+1/\gy<=D+1:=λaD a h1 h2 h3=>⟨_,_,h.snoc (.fb aD a h1 h2 h3),U,U⟩
 unfold CL;split
 ·exact Se _ _ (.fb [80] (some [g8 (c/12)]) (by show 1<_;omega) (λt ht=>by rw[show t=g8 (c/12) from by simpa using ht];exact a2a _) (by simp[mi])) (a2h _) ⟨λt ht=>⟨_,by simpa using ht⟩,aT⟩
 split
 ·exact Se _ _ (.fb [81] none (by show 1<_;omega) aT (by simp[mi])) (by have:=a2i;show CK.dep<=4;omega) ⟨λt ht=>by simp at ht,aT⟩
 split
 ·exact Se _ _ (.fb [82] (some [g8 (c/12%4),g8 (c/12/4)]) (by show 1<_;omega) (λt ht=>by
   have:t=g8 (c/12%4)\/t=g8 (c/12/4):=by simpa using ht
   rcases this with rfl|rfl<;>exact a2a _) (by simp[mi])) (a2j _) ⟨λt ht=>by
   have:t=g8 (c/12%4)\/t=g8 (c/12/4):=by simpa using ht
   rcases this with rfl|rfl<;>exact⟨_,rfl⟩,aT⟩
 split
 ·rename_i ae;obtain⟨iH,nF,gy,n,d,F,rfl,h1,h2,rfl,rfl,h3,aN⟩:=h.last ae.2;rw[aN,h3];exact⟨_,_,h1.snoc h2.neg,U,U⟩
 split
 ·rename_i ae;obtain⟨iH,nF,gy,n,d,F,rfl,h1,h2,rfl,rfl,h3,aN⟩:=h.last U;obtain⟨s2,a2m,a2n,dC,d2,xq,rfl,cn,ct,rfl,rfl,eN,fm⟩:=h1.last (by
   have:=ae.2.2;simp only[h5,RF] at this;omega)
  have aV:nE (s2++[xq]++[F]) 2=xq:=by
   unfold nE;simp
  have dp:(s2++[xq]++[F]).take ((s2++[xq]++[F]).length-2)=s2:=by simp
  rw[aV,dp,h3];exact⟨_,_,cn.snoc (ki.bi _ U ct h2),U,U⟩
 split
 ·rename_i ae;obtain⟨iH,nF,gy,n,d,F,rfl,h1,h2,rfl,rfl,h3,aN⟩:=h.last ae.2.1;rw[aN,h3];exact⟨_,_,h1.snoc (ki.q _ _ U (by
                         unfold ud;repeat' split
                         all_goals (show 1<_;omega)) (by
                                           unfold ud;repeat' split
                                           all_goals simp) h2),U,U⟩
 ·exact⟨N,D,h,U,U⟩
def lV.run:∀ {l:List Nat} {p:List Fm×Nat} {N D:Nat},lV p.1 N D->∃nF gy,lV (runB l p).1 nF gy/\nF<=N+l.length/\gy<=D+l.length
 |[],p,N,D,h=>⟨N,D,h,aT,aT⟩
 |c::l,p,N,D,h=>by
  obtain⟨c7a,O9,h1,a9,bt⟩:=h.step (c:=c) (k:=p.2);obtain⟨a2m,a2n,h2,db,cK⟩:=lV.run (l:=l) (p:=CL c p.1 p.2) h1;exact⟨a2m,a2n,h2,by simp only[gS];omega,by simp only[gS];omega⟩
def lV.len{s:List Fm}{N D:Nat}(h:lV s N D):s.length<=N:=by
 induction h with
 |nil=>simp
 |snoc h bB ar=>have:=bB.pos;simp only[h5,RF];omega
def lV.fin{s:List Fm}{N D:Nat}(h:lV s N D):s=[]\/∃n d,ki n d (Sd s)/\n<=N+s.length/\d<=D:=by
 induction h with
 |nil=>exact .inl I
 |snoc h bB ar=>
  rename_i s N D n d F;refine .inr ?_;rcases ar with rfl|⟨ft,dt,ar,h1,h2⟩
  ·exact⟨n,d,bB,U,U⟩
  ·cases s with
   |nil=>exact⟨n,d,bB,U,U⟩
   |cons f l=>
    refine⟨ft+n+1,dt+d,?_,by simp only[h5,gS,nn] at *;omega,U⟩;show ki _ _ (orsB f (l++[F]));rw[LU];exact ki.bi 5 U ar bB
def a2o(l:List Nat):∃n d,ki n d (builtF l)/\n<=48/\d<=24:=by
 unfold builtF;obtain⟨N,D,h,h1,h2⟩:=lV.run (l:=l.take 24) (p:=([],0)) .nil;have h3:(l.take 24).length<=24:=by rw[gM];omega
 have:=h.len;rcases h.fin with e|⟨n,d,hw,a9,bt⟩
 ·rw[e];exact⟨1,1,.e2,U,U⟩
 ·exact⟨n,d,hw,U,U⟩
structure kj where
 aD:List Nat
 ops:Nat
 kind:Nat
 ai:Nat
 mj:List AV
 rs:List AV
def kj.cells(o:Bool)(l:kj):List AV:=[.s l.aD,.i .u32 (Int.ofNat l.ops),a3 l.kind,a3 l.ai,.aR o (some 6) (cond o l.rs l.mj)]
def kj.A(o:Bool)(l:kj):AV:=.ad (l.cells o)
section
variable {b:b8}{K:Nat->List AV->AV->Prop}(hf:∀g aB r bS,K g aB r->K g aB bS->r=bS)
include hf in
theorem c0d(F:Fm)(K4:2*F.dep<=b.a2+800)(hR:K mT [F.A true] (.b (oZ F)))(LV:b.ext mT=0/\b.pure mT=true)(c9:K Fy [F.A true] (.i .u32 (Int.ofNat (ss F))))(a2p:b.ext Fy=0/\b.pure Fy=true)
  (l:kj) (ao:l.ops<2^32) (hA:K FJ [a3 l.kind,F.A true] (.b (x1 l.kind F))) (At:b.ext FJ=0/\b.pure FJ=true) (body:bC) (hb:Y2.body=some body):aa (b.aQ K) 21 body (eh [l.A true,F.A true]) ⟨.nil,0⟩ (kP 4 (.b (Am l.ops l.kind F))):=by
 cases hb;have gA:∀J,bp J (b.a2+1000) (F.A true)=some (F.A true):=λJ=>Fm.snap J true F.dep F (b.a2+1000) (b6 _) U;refine aa.seq (aa.region (ab.box (v:=l.A true) (c:=l.cells true) 0 I I I I I I λbu e6 h1 bM=>?_));refine ab.box (v:=F.A true) (c:=F.cells true) 1 e6 I I I I I λbA fk h2 ba=>?_;replace h1:=ba _ _ h1;refine ab.go I I I I ?_;refine ab.nil (aa.seq (aa.draw I I ?_));refine cd.a0 h2 I I I (Fm.a0 true F) ?_;refine cd.known hf LV.1 LV.2 hR I I I (fZ (gA _)) ?_;unfold Am;cases al:oZ F with
 |false=>
  refine pJ ?_;exact aa.ret ⟨rfl,rfl⟩
 |true=>
  refine cd.go I I I I ?_;refine cd.a0 h2 I I I (Fm.a0 true F) ?_;refine cd.go I I I I ?_;refine cd.nq (v:=.i .u32 (Int.ofNat l.ops)) h1 I I I I (Snp.eqb (b.a2+1000) _ (Snp.i (b.a2+999) _ _)) ?_;refine cd.known hf a2p.1 a2p.2 c9 I I I (fZ (gA _)) ?_;refine cd.bin (a:=.i .u32 (Int.ofNat (ss F))) (b:=.i .u32 (Int.ofNat l.ops)) I I I I (b9L (Zz (QD _)) ao) ?_;refine cd.bin (a:=.i .u32 (Int.ofNat (vp (ss F) l.ops))) (b:=.i .u32 (Int.ofNat 0)) (v:=.b (decide (vp (ss F) l.ops=0))) I I I I (cG I) ?_;refine cd.go I I I I ?_;by_cases ho:vp (ss F) l.ops=0
  ·rw[show decide (vp (ss F) l.ops=0)=true from decide_eq_true ho];refine cd.go I I I I ?_;refine cd.go I I I I ?_;refine cd.a0 (v:=a3 l.kind) h1 I I I I ?_;refine cd.a0 h2 I I I (Fm.a0 true F) ?_;refine cd.known hf At.1 At.2 hA I I I (lq I (gA _)) ?_;refine pJ ?_;exact aa.ret ⟨rfl,rfl⟩
  ·rw[show decide (vp (ss F) l.ops=0)=false from decide_eq_false ho];refine pJ ?_;exact aa.ret ⟨rfl,rfl⟩
include hf in
theorem c0e(F:Fm)(K4:2*F.dep<=b.a2+800)(l:kj)(a2q:∀J,bp J (b.a2+1000) (l.A true)=some (l.A true))(hL:K sh [l.A true] (.b true))(a2r:b.ext sh=0/\b.pure sh=true)(h1:K FI [l.A true,F.A true] (.b (Am l.ops l.kind F)))(aF:b.ext FI=0/\b.pure FI=true)
  (body:bC) (hb:Y0.body=some body):aa (b.aQ K) 12 body (eh [l.A true,F.A true]) ⟨.nil,0⟩ (kP 4 (.b (Am l.ops l.kind F))):=by
 cases hb;have gA:∀J,bp J (b.a2+1000) (F.A true)=some (F.A true):=λJ=>Fm.snap J true F.dep F (b.a2+1000) (b6 _) U;refine aa.seq (aa.region (ab.box (v:=l.A true) (c:=l.cells true) 0 I I I I I I λbu e6 cn bM=>?_));refine ab.box (v:=F.A true) (c:=F.cells true) 1 e6 I I I I I λbA fk ct ba=>?_;replace cn:=ba _ _ cn;refine ab.go I I I I ?_;refine ab.nil (aa.seq (aa.region ?_));refine ab.a0 (v:=l.A true) cn I I I I ?_;refine ab.known hf a2r.1 a2r.2 hL I I I (fZ (a2q _)) ?_;refine ab.go I I I I ?_;refine ab.a0 (v:=l.A true) cn I I I I ?_;refine ab.a0 ct I I I (Fm.a0 true F) ?_;refine ab.known hf aF.1 aF.2 h1 I I I (lq (a2q _) (gA _)) ?_;refine bo ?_;exact aa.ret ⟨rfl,rfl⟩
def ob(l:Option (List Nat)):AV:=osl true none (l.map λl=>l.map a3)
end
inductive gB(T:Nat->List AV->AV->Prop)(dL:Nat):Nat->List AV->AV->Prop
 |cT (g:Nat) (aB:List AV) (r:AV) (h:T g aB r):gB T dL g aB r
 |small (aB:List AV) (r:AV) (c:Nat) (ao:1<=dL) (e:aB=[a3 c]) (bJ:r= .b (isSmall c)):gB T dL FG aB r
 |GF (aB:List AV) (r:AV) (c:Nat) (ao:1<=dL) (e:aB=[a3 c]) (bJ:r= .b (su c)):gB T dL vA aB r
 |digit (aB:List AV) (r:AV) (c:Nat) (ao:1<=dL) (e:aB=[a3 c]) (bJ:r= .b (sv c)):gB T dL vB aB r
 |LW (aB:List AV) (r:AV) (c:Nat) (ao:1<=dL) (e:aB=[a3 c]) (bJ:r= .b (xK c)):gB T dL Cj aB r
 |LX (aB:List AV) (r:AV) (c:Nat) (ao:1<=dL) (e:aB=[a3 c]) (bJ:r= .b (xL c)):gB T dL Ck aB r
 |GG (aB:List AV) (r:AV) (c:Nat) (ao:2<=dL) (e:aB=[a3 c]) (bJ:r= .b (qZ c)):gB T dL tH aB r
 |kO (aB:List AV) (r:AV) (l:List Nat) (ao:1<=dL) (e:aB=[.s l]) (bJ:r= .b (Go.Lyc.kO l)):gB T dL oV aB r
 |LY (aB:List AV) (r:AV) (x y:List Nat) (ao:1<=dL) (e:aB=[.s x,.s y]) (bJ:r= .b (prefB x y)):gB T dL FL aB r
 |pre (aB:List AV) (r:AV) (x y:List Nat) (ao:2<=dL) (e:aB=[.s x,.s y]) (bJ:r= .b (prefB x y)):gB T dL xG aB r
 |pred (aB:List AV) (r:AV) (l:List Nat) (hn:l.length<2^62) (ao:3<=dL) (e:aB=[.s l]) (bJ:r= .b (pQ l)):gB T dL xD aB r
 |var (aB:List AV) (r:AV) (l:List Nat) (hn:l.length<2^62) (ao:3<=dL) (e:aB=[.s l]) (bJ:r= .b (isVar l)):gB T dL sg aB r
 |func (aB:List AV) (r:AV) (l:List Nat) (hn:l.length<2^62) (ao:3<=dL) (e:aB=[.s l]) (bJ:r= .b (isFun l)):gB T dL xE aB r
 |LZ (aB:List AV) (r:AV) (l:List Nat) (hn:l.length<2^62) (ao:4<=dL) (e:aB=[.s l]) (bJ:r= .b (Ct l)):gB T dL FH aB r
 |xN (aB:List AV) (r:AV) (l:List Nat) (hn:l.length<2^62) (ao:4<=dL) (e:aB=[.s l]) (bJ:r= .b (oY l)):gB T dL xF aB r
 |named (aB:List AV) (r:AV) (k:Nat) (l:List Nat) (hn:l.length<2^62) (ao:5<=dL) (e:aB=[a3 k,.s l]) (bJ:r= .b (k6 k l)):gB T dL FE aB r
 |inst (aB:List AV) (r:AV) (a:Option (List Tm)) (hn:(a.getD []).length<2^62/\∀t∈a.getD [],t.name.length<2^62/\t.dep<=400) (ao:5<=dL) (e:aB=[cy true a]) (bJ:r= .b (instB (a.getD []))):gB T dL FF aB r
 |right (aB:List AV) (r:AV) (F:Fm) (bB:F.ok/\F.dep<=400) (ao:6<=dL) (e:aB=[F.A true]) (bJ:r= .b (oZ F)):gB T dL mT aB r
 |ops (aB:List AV) (r:AV) (F:Fm) (bB:F.fA) (ao:1<=dL) (e:aB=[F.A true]) (bJ:r= .i .u32 (Int.ofNat (ss F))):gB T dL Fy aB r
 |strip (aB:List AV) (r:AV) (F:Fm) (bB:g9 F/\F.dep<=400) (ao:F.dep<=dL) (e:aB=[F.A true]) (bJ:r=F.strip.A false):gB T dL oW aB r
 |L0 (aB:List AV) (r:AV) (c:Nat) (ae:c<256) (ao:1<=dL) (e:aB=[a3 c]) (bJ:r=(g8 c).A false):gB T dL zO aB r
 |built (aB:List AV) (r:AV) (l:Option (List Nat)) (ae:∀c∈l.getD [],c<256) (ao:2<=dL) (e:aB=[ob l]) (bJ:r=(builtF (l.getD [])).A false):gB T dL vC aB r
 |L1 (aB:List AV) (r:AV) (x y:dM) (ao:1<=dL) (e:aB=[c0 x,c0 y]) (bJ:r= .i .i64 (sw x y)):gB T dL iv aB r
 |args (aB:List AV) (r:AV) (k:Nat) (F:Fm) (bB:F.fA/\(tW F).length<=12/\(sA F).length<=12) (ao:2<=dL) (e:aB=[a3 k,F.A true]) (bJ:r= .b (x1 k F)):gB T dL FJ aB r
 |one (aB:List AV) (r:AV) (l:kj) (F:Fm) (bB:g9 F/\F.dep<=400/\l.ops<2^32) (ao:7<=dL) (e:aB=[l.A true,F.A true]) (bJ:r= .b (Am l.ops l.kind F)):gB T dL FI aB r
 |allowed (aB:List AV) (r:AV) (l:kj) (F:Fm) (bB:g9 F/\F.dep<=400/\l.ops<2^32) (ak:∀J,bp J 1000 (l.A true)=some (l.A true)) (ll:T sh [l.A true] (.b true)) (ao:8<=dL) (e:aB=[l.A true,F.A true]) (bJ:r= .b (Am l.ops l.kind F)):gB T dL qV aB r
def ml{a b:AV}(h:[a]=[b]):a=b:=by injection h
def Au{a b c d:AV}(h:[a,b]=[c,d]):a=c/\b=d:=by injection h with h1 h2;injection h2 with h2;exact⟨h1,h2⟩
def ue{a b:Nat}(h:a3 a=a3 b):a=b:=by injection h with _ h;exact ot h
def re{a b:List Nat}(h:AV.s a= .s b):a=b:=by injection h
def a2s{a b:dM}(h:c0 a=c0 b):a=b:=by
 obtain⟨a9,bt⟩:=a;obtain⟨db,cK⟩:=b;injection h with h
 injection h with h1 h2
 injection h2 with h2 _
 injection h2 with _ h2
 exact Prod.ext (re h1) (ot h2)
def c0f{a b:Option (List Nat)}(h:ob a=ob b):a=b:=by
 cases a with
 |none=>cases b with
  |none=>rfl
  |some m=>cases h
 |some l=>cases b with
  |none=>cases h
  |some m=>
   injection h with _ _ h
   rw[Yr (λx _ y h=>ue h) h]
def kj.qL{l m:kj}(h:l.A true=m.A true):l.ops=m.ops/\l.kind=m.kind:=by
 injection h with h
 injection h with _ h
 injection h with h1 h
 injection h with h2 _
 injection h1 with _ h1
 injection h2 with _ h2
 exact⟨ot h1,ot h2⟩
section
variable {T:Nat->List AV->AV->Prop}(x4:∀g aB r bS,T g aB r->T g aB bS->r=bS)(hz:∀g aB r,T g aB r->g=KL\/g=sh\/g=Zs\/g=si)
include x4 hz in
theorem gB.fn{dL:Nat}(g:Nat)(aB:List AV)(r bS:AV)(h:gB T dL g aB r)(h':gB T dL g aB bS):r=bS:=by
 cases h with
 |cT _ _ _ h=>
  have hg:=hz _ _ _ h;cases h' with
  |cT _ _ _ h'=>exact x4 _ _ _ _ h h'
  |_=>exact absurd hg eI
 |small _ _ c ao e bJ=>cases h' with
  |cT _ _ _ h=>have hg:=hz _ _ _ h;exact absurd hg eI
  |small _ _ bn gE cp eK=>rw[bJ,eK,ue (ml (e.symm.trans cp))]
 |GF _ _ c ao e bJ=>cases h' with
  |cT _ _ _ h=>have hg:=hz _ _ _ h;exact absurd hg eI
  |GF _ _ bn gE cp eK=>rw[bJ,eK,ue (ml (e.symm.trans cp))]
 |digit _ _ c ao e bJ=>cases h' with
  |cT _ _ _ h=>have hg:=hz _ _ _ h;exact absurd hg eI
  |digit _ _ bn gE cp eK=>rw[bJ,eK,ue (ml (e.symm.trans cp))]
 |LW _ _ c ao e bJ=>cases h' with
  |cT _ _ _ h=>have hg:=hz _ _ _ h;exact absurd hg eI
  |LW _ _ bn gE cp eK=>rw[bJ,eK,ue (ml (e.symm.trans cp))]
 |LX _ _ c ao e bJ=>cases h' with
  |cT _ _ _ h=>have hg:=hz _ _ _ h;exact absurd hg eI
  |LX _ _ bn gE cp eK=>rw[bJ,eK,ue (ml (e.symm.trans cp))]
 |GG _ _ c ao e bJ=>cases h' with
  |cT _ _ _ h=>have hg:=hz _ _ _ h;exact absurd hg eI
  |GG _ _ bn gE cp eK=>rw[bJ,eK,ue (ml (e.symm.trans cp))]
 |kO _ _ c ao e bJ=>cases h' with
  |cT _ _ _ h=>have hg:=hz _ _ _ h;exact absurd hg eI
  |kO _ _ bn gE cp eK=>rw[bJ,eK,re (ml (e.symm.trans cp))]
 |LY _ _ x y ao e bJ=>cases h' with
  |cT _ _ _ h=>have hg:=hz _ _ _ h;exact absurd hg eI
  |LY _ _ fr gw gE cp eK=>have:=Au (e.symm.trans cp);rw[bJ,eK,re this.1,re this.2]
 |pre _ _ x y ao e bJ=>cases h' with
  |cT _ _ _ h=>have hg:=hz _ _ _ h;exact absurd hg eI
  |pre _ _ fr gw gE cp eK=>have:=Au (e.symm.trans cp);rw[bJ,eK,re this.1,re this.2]
 |pred _ _ l hn ao e bJ=>cases h' with
  |cT _ _ _ h=>have hg:=hz _ _ _ h;exact absurd hg eI
  |pred _ _ bq fi gE cp eK=>rw[bJ,eK,re (ml (e.symm.trans cp))]
 |var _ _ l hn ao e bJ=>cases h' with
  |cT _ _ _ h=>have hg:=hz _ _ _ h;exact absurd hg eI
  |var _ _ bq fi gE cp eK=>rw[bJ,eK,re (ml (e.symm.trans cp))]
 |func _ _ l hn ao e bJ=>cases h' with
  |cT _ _ _ h=>have hg:=hz _ _ _ h;exact absurd hg eI
  |func _ _ bq fi gE cp eK=>rw[bJ,eK,re (ml (e.symm.trans cp))]
 |LZ _ _ l hn ao e bJ=>cases h' with
  |cT _ _ _ h=>have hg:=hz _ _ _ h;exact absurd hg eI
  |LZ _ _ bq fi gE cp eK=>rw[bJ,eK,re (ml (e.symm.trans cp))]
 |xN _ _ l hn ao e bJ=>cases h' with
  |cT _ _ _ h=>have hg:=hz _ _ _ h;exact absurd hg eI
  |xN _ _ bq fi gE cp eK=>rw[bJ,eK,re (ml (e.symm.trans cp))]
 |named _ _ k l hn ao e bJ=>cases h' with
  |cT _ _ _ h=>have hg:=hz _ _ _ h;exact absurd hg eI
  |named _ _ fg bq fi gE cp eK=>have:=Au (e.symm.trans cp);rw[bJ,eK,ue this.1,re this.2]
 |inst _ _ a hn ao e bJ=>cases h' with
  |cT _ _ _ h=>have hg:=hz _ _ _ h;exact absurd hg eI
  |inst _ _ cC fi gE cp eK=>rw[bJ,eK,E0 (ml (e.symm.trans cp))]
 |right _ _ F bB ao e bJ=>cases h' with
  |cT _ _ _ h=>have hg:=hz _ _ _ h;exact absurd hg eI
  |right _ _ GH Av gE cp eK=>rw[bJ,eK,Fm.qL (ml (e.symm.trans cp))]
 |ops _ _ F bB ao e bJ=>cases h' with
  |cT _ _ _ h=>have hg:=hz _ _ _ h;exact absurd hg eI
  |ops _ _ GH Av gE cp eK=>rw[bJ,eK,Fm.qL (ml (e.symm.trans cp))]
 |strip _ _ F bB ao e bJ=>cases h' with
  |cT _ _ _ h=>have hg:=hz _ _ _ h;exact absurd hg eI
  |strip _ _ GH Av gE cp eK=>rw[bJ,eK,Fm.qL (ml (e.symm.trans cp))]
 |L0 _ _ c ae ao e bJ=>cases h' with
  |cT _ _ _ h=>have hg:=hz _ _ _ h;exact absurd hg eI
  |L0 _ _ bn rI gE cp eK=>rw[bJ,eK,ue (ml (e.symm.trans cp))]
 |built _ _ l ae ao e bJ=>cases h' with
  |cT _ _ _ h=>have hg:=hz _ _ _ h;exact absurd hg eI
  |built _ _ bq rI gE cp eK=>rw[bJ,eK,c0f (ml (e.symm.trans cp))]
 |L1 _ _ x y ao e bJ=>cases h' with
  |cT _ _ _ h=>have hg:=hz _ _ _ h;exact absurd hg eI
  |L1 _ _ fr gw gE cp eK=>have:=Au (e.symm.trans cp);rw[bJ,eK,a2s this.1,a2s this.2]
 |args _ _ k F bB ao e bJ=>cases h' with
  |cT _ _ _ h=>have hg:=hz _ _ _ h;exact absurd hg eI
  |args _ _ fg GH Av gE cp eK=>have:=Au (e.symm.trans cp);rw[bJ,eK,ue this.1,Fm.qL this.2]
 |one _ _ l F bB ao e bJ=>cases h' with
  |cT _ _ _ h=>have hg:=hz _ _ _ h;exact absurd hg eI
  |one _ _ bq GH Av gE cp eK=>have:=Au (e.symm.trans cp);rw[bJ,eK,(kj.qL this.1).1,(kj.qL this.1).2,Fm.qL this.2]
 |allowed _ _ l F bB ak ll ao e bJ=>cases h' with
  |cT _ _ _ h=>have hg:=hz _ _ _ h;exact absurd hg eI
  |allowed _ _ bq GH Av xo XB gE cp eK=>have:=Au (e.symm.trans cp);rw[bJ,eK,(kj.qL this.1).1,(kj.qL this.1).2,Fm.qL this.2]
end
structure a2t where
 v:AV
 k:Nat
abbrev L2(a:AV)(i:Nat)(t:a2t):List (Nat×AV):=[(0,a),(2,.p (some (0,0))),(3,t.v),(4,aw t.k),(5,aw i)]
abbrev L3(i:Nat)(p:List Fm×Nat)(t:a2t)(J:ag):Prop:=t.k=p.2/\∃aE W,oa i J t.v aE W/\aE.map Prod.snd=p.1
section
variable {b:b8}{K:Nat->List AV->AV->Prop}(hf:∀g aB r bS,K g aB r->K g aB bS->r=bS)
include hf in
theorem c0g(GI:bc (b.aQ K) FK Qh)(Aw:bc (b.aQ K) zP Qi)(ll:∀c,c<256->K zO [a3 c] ((g8 c).A false))(q6:b.ext zO=0/\b.pure zO=true)
  (l:List Nat) (ao:∀c∈l,c<256) (a:AV) (hlen:∀ah,lenA ah 1 a=some l.length) (Lo:∀i (h:i<l.length),idxSlA none a i=some (.dk true (a3 l[i]))) (body:bC) (hb:B3.body=some body):
  aa (b.aQ K) 181 body (eh [a]) ⟨.nil,0⟩ (vu 2 (some 4) λv af=>freeze af 0 1000 v=some ((builtF l).A false)):=by
 cases hb;refine aa.seq (aa.region (ab.alloc 0 I I I I λah hn h0 _=>?_));refine ab.nil (aa.seq (aa.region ?_));refine ab.go I I I I ?_;refine ab.nil (aa.seq (aa.region ?_));refine ab.go I I I I ?_;refine ab.nil ?_;refine aa.Z0 (L2 a (min l.length 24)) (λt J=>L3 (min l.length 24) (runB (l.take 24) ([],0)) t J) ?_ ?_
 ·refine aa.seq (aa.region ?_);refine ab.go I I I I ?_;refine ab.nil (aa.block ?_);refine aa.loop (λm f af=>∃i t,i+m=min l.length 24/\L3 i (runB (l.take i) ([],0)) t af/\sat (L2 a i t) f) ?_ (min l.length 24) ⟨0,⟨.aj,0⟩,U,⟨rfl,[],λ_=>True,⟨.nil,λp ay=>absurd ay aT,λ_ _=>trivial,trivial,λj h=>absurd trivial h,h0,aT,λe=>by cases e⟩,rfl⟩,b9⟩;clear h0 hn;intro m g J ⟨i,t,hi,hR,hL⟩;refine aa.norm _ hL λg=>?_;clear hL;have a2u:l.take (min l.length 24)=l.take 24:=by
   rcases Nat.le_total l.length 24 with h|h
   ·rw[KV h,kS,so h]
   ·rw[Nat.min_eq_right h]
  refine aa.seq (aa.seq (aa.region ?_));refine ab.go I I I I ?_;refine ab.go I I I I ?_;refine ab.len I I I (hlen _) ?_;refine ab.bin (a:=aw i) (b:=aw l.length) (v:=.b (decide (i<l.length))) I I I I (cG I) ?_;refine ab.go I I I I ?_;by_cases pT:i<l.length
  case neg=>
   rw[show decide (i<l.length)=false from decide_eq_false pT];refine bo ?_;refine aa.cl I (λh=>by cases h) (λ_=>?_);refine aa.exit ?_;obtain rfl:i=min l.length 24:=by omega
   rw[a2u] at hR;exact⟨rfl,t,hR,b9⟩
  rw[show decide (i<l.length)=true from decide_eq_true pT];refine ab.go I I I I ?_;refine ab.bin (a:=aw i) (b:=aw 24) (v:=.b (decide (i<24))) I I I I (cG I) ?_;by_cases wS:i<24
  case neg=>
   rw[show decide (i<24)=false from decide_eq_false wS];refine bo ?_;refine aa.cl I (λh=>by cases h) (λ_=>?_);refine aa.exit ?_;obtain rfl:i=min l.length 24:=by omega
   rw[a2u] at hR;exact⟨rfl,t,hR,b9⟩
  rw[show decide (i<24)=true from decide_eq_true wS];refine bo ?_;refine aa.cl I (λ_=>?_) (λh=>by cases h);refine aa.skip ?_;refine aa.Z0 (L2 a i) (λt J=>L3 (i+1) (runB (l.take (i+1)) ([],0)) t J) ?_ λt af g hR=>?_
  case refine_2=>
   refine aa.region ?_;refine ab.go I I I I ?_;refine ab.bin (a:=aw i) (b:=aw 1) I I I I (ir U) ?_;refine ab.go I I I I ?_;exact ab.nil ⟨m-1,U,i+1,t,U,hR,b9⟩
  rw[lv pT,a2k];have ae:=ao _ (c3 pT);have Sf:=Lo i pT;generalize l[i]=c at ae Sf;generalize runB (l.take i) ([],0)=p at hR;obtain⟨s,k⟩:=p;obtain⟨v,fg⟩:=t;obtain⟨e,aE,W,bz,rfl⟩:=hR;obtain rfl:fg=k:=e;have s9:=bz.len;refine aa.block (aa.seq (aa.xx 0 I (gK.fin (gs:=[]) .nil I ?_)));refine ab.go I I I I ?_;refine ab.len I I I bz.acc.len ?_;refine ab.go I I I I ?_;refine ab.go I I I I ?_;refine ab.idx (j:=i) I I I I Sf ?_;refine ab.gY I I I I ?_;refine ab.bin (a:=a3 c) (b:=a3 12) I I I I (P6 U ae) ?_;refine ab.go I I I I ?_;refine ab.go I I I I ?_;refine ab.nil ⟨rfl,?_⟩;refine aa.seq (aa.region ?_);refine ab.go I I I I ?_;refine ab.go I I I I ?_;refine ab.idx (j:=i) I I I I Sf ?_;refine ab.gY I I I I ?_;refine ab.bin (a:=a3 c) (b:=a3 12) I I I I (E5 U) ?_;refine ab.go I I I I ?_;refine ab.nil ?_;rw[cb];refine aa.norm [(0,a),(2,.p (some (0,0))),(3,v),(4,aw fg),(5,aw i),(6,aw aE.length),(7,a3 (c/12)),(8,a3 (c%12))] b9 λg=>?_;have c0h:c/12<22:=by omega
  have c0i:c%12<12:=Ge _ U;unfold CL;generalize c/12=u at c0h;generalize c%12=q at c0i;refine aa.block (aa.seq (aa.region ?_));refine ab.go I I I I ?_;refine ab.bin (a:=a3 q) (b:=a3 2) (v:=.b (decide (q<2))) I I I I (cG I) ?_;refine ab.go I I I I ?_;refine ab.nil (aa.cl I (λh=>?_) (λh=>?_))
  ·rw[if_pos (of_decide_eq_true h)];refine aa.region ?_;refine ab.go I I I I ?_;refine ab.go I I I I ?_;refine ab.known hf q6.1 q6.2 (ll u U) I I I (fZ I) ?_;generalize aZ:J.next=z;refine ab.nr (c:=(g8 u).cells false) z aZ I I (by simp only[Tm.A,Tm.gJ];rfl) λbu dQ cn bM=>?_;refine ab.dW I I I (Sa GI [80] (.aq z 0 1 (some 3) (some 1)) (.inr ⟨_,_,_,_,_,rfl⟩) bu) λr bA ⟨aV,dC,ba⟩=>⟨_,aV,?_⟩
   refine ab.nr (c:=[.i .u8 1,.s [80],.aq z 0 1 (some 3) (some 1),.aj]) bA.next I I I I λc8 fY eN bj=>?_;have cq:r6 J c8:=λj o ho=>bj j o (ba j o (bM j o ho));refine ab.append (y:=.ad [.i .u8 1,.s [80],.aq z 0 1 (some 3) (some 1),.aj]) (a4:=[]) (bz.acc.bK λj o _ ho=>cq j o ho) (Ao eN I) (λx hx=>by rw[dx.1 hx];rfl) (by simp only[cb,gS,nn];omega) I I I I λa_ lx sD sE hM de=>?_;refine ab.go I I I I ?_;refine ab.nil ⟨rfl,⟨a_,fg⟩,⟨rfl,aE.take aE.length++[(.ad [.i .u8 1,.s [80],.aq z 0 1 (some 3) (some 1),.aj],Sc u)],_,oa.step (c8:=c8) (λj=>j=z) aE.length bz (λj aG=>by subst aG;omega) cq U ?_ sE hM de ?_ (by have:=a2h u;omega),?_⟩,b9⟩
   ·rw[so (by rw[cb];exact b6 _)];exact sD
   ·have h1:=fB.one (W:=λj=>W j/\¬j=z) (J:=c8) (n:=2) (cap:=some 1) (v:=(g8 u).A false) (w:=(g8 u).A false) (bj _ _ (ba _ _ cn)) (λh=>h.2 I) (Tm.conf false _) λaf _=>Tm.m3 af 0 _ false;refine fB.le (n:=4) (fB.ad (n:=3) λaf h'=>?_) U;rw[dg,dg,dg,dg,h1 af h'];rfl
   ·rw[kS,ie];rfl
  rw[if_neg (of_decide_eq_false h)];have mE:¬q<2:=of_decide_eq_false h;refine aa.seq (aa.region ?_);refine ab.go I I I I ?_;refine ab.bin (a:=a3 q) (b:=a3 2) (v:=.b (decide (q=2))) I I I I (cG I) ?_;refine ab.go I I I I ?_;refine ab.nil (aa.cl I (λh=>?_) (λh=>?_))
  ·rw[if_pos (of_decide_eq_true h)];refine aa.region ?_;refine ab.go I I I I ?_;refine ab.dW I I I (Sa GI [81] .aj (.inl I) J) λr bA ⟨aV,dC,ba⟩=>⟨_,aV,?_⟩
   refine ab.nr (c:=[.i .u8 1,.s [81],.aj,.aj]) bA.next I I I I λc8 fY eN bj=>?_;have cq:r6 J c8:=λj o ho=>bj j o (ba j o ho);refine ab.append (y:=.ad [.i .u8 1,.s [81],.aj,.aj]) (a4:=[]) (bz.acc.bK λj o _ ho=>cq j o ho) (Ao eN I) (λx hx=>by rw[dx.1 hx];rfl) (by simp only[cb,gS,nn];omega) I I I I λa_ lx sD sE hM de=>?_;refine ab.go I I I I ?_;refine ab.nil ⟨rfl,⟨a_,fg⟩,⟨rfl,aE.take aE.length++[(.ad [.i .u8 1,.s [81],.aj,.aj],CK)],_,oa.step (c8:=c8) (λj=>False) aE.length bz (λj aG=>aG.elim) cq U ?_ sE hM de ?_ (by rw[a2i];omega),?_⟩,b9⟩
   ·rw[so (by rw[cb];exact b6 _)];exact sD
   ·exact λaf h'=>Fm.m3 af _ CK false
   ·rw[kS,ie];rfl
  rw[if_neg (of_decide_eq_false h)];have Cx:¬q=2:=of_decide_eq_false h;refine aa.seq (aa.region ?_);refine ab.go I I I I ?_;refine ab.bin (a:=a3 q) (b:=a3 3) (v:=.b (decide (q=3))) I I I I (cG I) ?_;refine ab.go I I I I ?_;have hR:∀ {g:Nat->AV},sat [(0,a),(2,.p (some (0,0))),(3,v),(4,aw fg),(5,aw i),(7,a3 u)] g->aa (b.aQ K) 181 (.region [⟨(some 57),.cD (.t 3),none,[]⟩,⟨(some 58),.cD (.t 7),none,[]⟩,⟨(some 59),.bin .rem (.t 58) (.c (.i .u8 4)),none,[]⟩,⟨(some 60),.call (.fn zO) [(.t 59)],none,[]⟩,⟨(some 61),.cD (.t 7),none,[]⟩,⟨(some 62),.bin .quo (.t 61) (.c (.i .u8 4)),none,[]⟩,⟨(some 63),.call (.fn zO) [(.t 62)],none,[]⟩,⟨(some 64),.buildSlice (some 3) 2 [(.b false),(.s []),.aj] [(0,(.t 60)),(1,(.t 63))],none,[]⟩,⟨(some 65),.call (.fn FK) [(.c (.s [82])),(.t 64)],none,[]⟩,⟨(some 66),.buildSlice (some 4) 1 [(.i .u8 0),(.s []),.aj,.aj] [(0,(.t 65))],none,[]⟩,⟨(some 67),.append (some 4) 72 (.t 57) (.t 66),none,[]⟩,⟨(some 3),.cD (.t 67),none,[]⟩]) g J
    (λx bD af=>x= .normal/\∃t,L3 (i+1) (aE.map Prod.snd++[LS u],fg) t af/\sat (L2 a i t) bD):=λ{g} hL=>by
   refine aa.norm _ hL λg=>?_;refine aa.region ?_;refine ab.go I I I I ?_;refine ab.go I I I I ?_;refine ab.bin (a:=a3 u) (b:=a3 4) I I I I (E5 U) ?_;refine ab.known hf q6.1 q6.2 (ll (u%4) U) I I I (fZ I) ?_;refine ab.go I I I I ?_;refine ab.bin (a:=a3 u) (b:=a3 4) I I I I (P6 U U) ?_;refine ab.known hf q6.1 q6.2 (ll (u/4) U) I I I (fZ I) ?_;generalize aZ:J.next=z;refine ab.nr (c:=(g8 (u%4)).cells false++(g8 (u/4)).cells false) z aZ I I (by simp only[Tm.A,Tm.gJ];rfl) λbu dQ cn bM=>?_;refine ab.dW I I I (Sa GI [82] (.aq z 0 2 (some 3) (some 2)) (.inr ⟨_,_,_,_,_,rfl⟩) bu) λr bA ⟨aV,dC,ba⟩=>⟨_,aV,?_⟩
   refine ab.nr (c:=[.i .u8 1,.s [82],.aq z 0 2 (some 3) (some 2),.aj]) bA.next I I I I λc8 fY eN bj=>?_;have cq:r6 J c8:=λj o ho=>bj j o (ba j o (bM j o ho));refine ab.append (y:=.ad [.i .u8 1,.s [82],.aq z 0 2 (some 3) (some 2),.aj]) (a4:=[]) (bz.acc.bK λj o _ ho=>cq j o ho) (Ao eN I) (λx hx=>by rw[dx.1 hx];rfl) (by simp only[cb,gS,nn];omega) I I I I λa_ lx sD sE hM de=>?_;refine ab.go I I I I ?_;refine ab.nil ⟨rfl,⟨a_,fg⟩,⟨rfl,aE.take aE.length++[(.ad [.i .u8 1,.s [82],.aq z 0 2 (some 3) (some 2),.aj],LS u)],_,oa.step (c8:=c8) (λj=>j=z) aE.length bz (λj aG=>by subst aG;omega) cq U ?_ sE hM de ?_ (by have:=a2j u;omega),?_⟩,b9⟩
   ·rw[so (by rw[cb];exact b6 _)];exact sD
   ·have h1:=fB.two (W:=λj=>W j/\¬j=z) (J:=c8) (n:=2) (cap:=some 2) (v:=(g8 (u%4)).A false) (w:=(g8 (u%4)).A false) (v2:=(g8 (u/4)).A false) (ja:=(g8 (u/4)).A false) (bj _ _ (ba _ _ cn)) (λh=>h.2 I) (Tm.conf false _) (Tm.conf false _) (λaf _=>Tm.m3 af 0 _ false) λaf _=>Tm.m3 af 0 _ false;refine fB.le (n:=4) (fB.ad (n:=3) λaf h'=>?_) U;rw[dg,dg,dg,dg,h1 af h'];rfl
   ·rw[kS,ie];rfl
  by_cases h3:q=3
  ·rw[show decide (q=3)=true from decide_eq_true h3,if_pos (.inl h3)];refine bo ?_;refine aa.cl I (λ_=>?_) (λh=>by cases h);refine aa.mono (hR ?_) λx f ah h=>?_
   ·exact b9
   ·obtain⟨rfl,h⟩:=h;exact⟨rfl,h⟩
  rw[show decide (q=3)=false from decide_eq_false h3];refine ab.go I I I I ?_;refine ab.bin (a:=a3 q) (b:=a3 4) (v:=.b (decide (q=4))) I I I I (cG I) ?_;by_cases aN:q=4
  ·rw[show decide (q=4)=true from decide_eq_true aN,if_pos (.inr aN)];refine bo ?_;refine aa.cl I (λ_=>?_) (λh=>by cases h);refine aa.mono (hR ?_) λx f ah h=>?_
   ·exact b9
   ·obtain⟨rfl,h⟩:=h;exact⟨rfl,h⟩
  rw[show decide (q=4)=false from decide_eq_false aN,if_neg (λh=>h.elim h3 aN)];clear hR;refine bo ?_;refine aa.cl I (λh=>by cases h) (λ_=>?_);refine aa.norm [(0,a),(2,.p (some (0,0))),(3,v),(4,aw fg),(5,aw i),(6,aw aE.length),(7,a3 u),(8,a3 q)] b9 λg=>?_;refine aa.cut [(0,a),(2,.p (some (0,0))),(3,v),(4,aw fg),(5,aw i),(6,aw aE.length),(7,a3 u),(8,a3 q),(68,.b (decide (q=5/\1<=aE.length)))] ?_ λg=>?_
  ·refine aa.region ?_;refine ab.go I I I I ?_;refine ab.bin (a:=a3 q) (b:=a3 5) (v:=.b (decide (q=5))) I I I I (cG I) ?_;refine ab.go I I I I ?_;by_cases bY:q=5
   ·rw[show decide (q=5)=true from decide_eq_true bY];refine ab.go I I I I ?_;by_cases hn:1<=aE.length
    ·refine ab.bin (a:=aw aE.length) (b:=aw 1) (v:=.b true) I I I I (cG (jU hn)) ?_;refine bo ?_;exact⟨rfl,rfl,rfl,rfl,rfl,rfl,rfl,rfl,rfl,rfl,by rw[decide_eq_true (And.intro bY hn)];rfl,trivial⟩
    ·refine ab.bin (a:=aw aE.length) (b:=aw 1) (v:=.b false) I I I I (cG (jV hn)) ?_;refine bo ?_;exact⟨rfl,rfl,rfl,rfl,rfl,rfl,rfl,rfl,rfl,rfl,by rw[decide_eq_false (λh=>hn h.2)];rfl,trivial⟩
   ·rw[show decide (q=5)=false from decide_eq_false bY];refine bo ?_;exact⟨rfl,rfl,rfl,rfl,rfl,rfl,rfl,rfl,rfl,rfl,by rw[decide_eq_false (λh=>bY h.1)];rfl,trivial⟩
  have o7:(aE.map Prod.snd).length=aE.length:=cb ..;refine aa.cl I (λh=>?_) (λh=>?_)
  ·have a2v:=of_decide_eq_true h;rw[if_pos (by rw[o7];exact a2v),o7];have e6:=a2v.2;obtain⟨o,au,ho,dX⟩:=bz.acc.inv (by rw[cb];exact e6);rw[cb] at au;subst au;have hlt:aE.length-1<aE.length:=by omega
   have hx:(aE.map Prod.fst)[aE.length-1]'(by rw[cb];exact hlt)=(aE[aE.length-1]).1:=ic ..;have cc:nE (aE.map Prod.snd) 1=(aE[aE.length-1]).2:=by
    unfold nE;rw[o7,eS (by rw[o7];exact hlt),ic];rfl
   rw[cc];have hm:aE[aE.length-1]∈aE:=c3 hlt;obtain⟨bB,x2⟩:=bz.m3 _ hm;have mh:=vI (R:=some 4) (xs:=aE.map Prod.fst) (j:=aE.length-1) (by rw[cb];exact hlt) dX;rw[hx] at mh;obtain⟨Cv,CE,vW⟩:=xr (dX (aE[aE.length-1]).1 (di.2 ⟨_,hm,rfl⟩));obtain⟨eZ,cU,ey,gR,rfl⟩:∃eZ cU ey gR,Cv=[eZ,cU,ey,gR]:=by
    match Cv,vW with
    |[eZ,cU,ey,gR],_=>exact⟨eZ,cU,ey,gR,rfl⟩
   generalize aE[aE.length-1]=sF at hm bB x2 mh CE;obtain⟨Wn,G⟩:=sF;simp only at CE;subst CE;have k_:qP (b.aQ K) [zP]:=.cons (Aw.one I I) .nil;refine aa.xx 12 I ?_;refine gK.qQ 10 I k_ I ?_;refine ab.go I I I I ?_;refine ab.go I I I I ?_;refine ab.bin (a:=aw aE.length) (b:=aw 1) I I I I (jS U U) ?_;refine ab.go I I I I ?_;refine ab.bin (a:=aw aE.length) (b:=aw 1) I I I I (jS U U) ?_;refine ab.val I I (QV (k:=aE.length-1) I I I U) ?_;refine ab.go I I I I ?_;refine ab.go I I I I ?_;refine ab.bin (a:=aw aE.length) (b:=aw 1) I I I I (jS U U) ?_;refine ab.idx (j:=aE.length-1) I I I I (kM hlt) ?_;refine ab.nil ⟨rfl,λ_ _ h=>h,?_⟩;refine gK.nq (v:=.ad [eZ,cU,ey,gR]) I I I (λah aC=>lp _ _ I (l8 (aC _ _ ho) mh)) (vZ (b.a2+1000) _ _ (xv.snap (J:=J) (n:=b.a2+1000) (F:=G) (bB.le U).now (by simp only at x2;omega))) ?_;generalize aZ:J.next=z;refine gK.qQ 1 I k_ I ?_;refine ab.nr (c:=[eZ,cU,ey,gR]) z aZ I I I λbu dQ cn bM=>?_;refine ab.nil ⟨rfl,bM,?_⟩;refine gK.fin k_ I ?_;refine ab.dW I I I (LP Aw 3 (.aq z 0 1 (some 4) (some 1)) (.inr ⟨_,_,_,_,_,rfl⟩) bu) λr bA ⟨aV,dC,ba⟩=>⟨_,aV,?_⟩
   refine ab.nr (c:=[.i .u8 3,.s [],.aj,.aq z 0 1 (some 4) (some 1)]) bA.next I I I I λc8 fY eN bj=>?_;have cq:r6 J c8:=λj o ho=>bj j o (ba j o (bM j o ho));refine ab.QW (y:=.ad [.i .u8 3,.s [],.aj,.aq z 0 1 (some 4) (some 1)]) (k:=aE.length-1) (cq _ _ ho) dX (by rw[cb];omega) (Ao eN I) I U I I I λa_ lx sD sE hM de=>?_;refine ab.go I I I I ?_;refine ab.nil ⟨rfl,rfl,⟨a_,fg⟩,⟨rfl,aE.take (aE.length-1)++[(.ad [.i .u8 3,.s [],.aj,.aq z 0 1 (some 4) (some 1)],.mk 3 [] none (some [G]))],_,oa.step (c8:=c8) (λj=>j=z) (aE.length-1) bz (λj aG=>by subst aG;omega) cq U sD sE hM (λj o _ h=>de j o h) ?_ (by rw[x3];simp only at x2;omega),?_⟩,b9⟩
   ·have h1:=fB.one (W:=λj=>W j/\¬j=z) (J:=c8) (n:=10+2*i) (cap:=some 1) (R:=some 4) (v:=.ad [eZ,cU,ey,gR]) (w:=G.A false) (bj _ _ (ba _ _ cn)) (λh=>h.2 I) I ((bB.bK λj o _ h=>cq j o h).sub λj h=>h.1);refine fB.ad (n:=10+2*i+1) λaf h'=>?_;rw[dg,dg,dg,dg,h1 af h'];rfl
   ·rw[ie,Dq];rfl
  rw[if_neg (by rw[o7];exact of_decide_eq_false h)];refine aa.norm [(0,a),(2,.p (some (0,0))),(3,v),(4,aw fg),(5,aw i),(6,aw aE.length),(7,a3 u),(8,a3 q)] b9 λg=>?_;refine aa.cut [(0,a),(2,.p (some (0,0))),(3,v),(4,aw fg),(5,aw i),(6,aw aE.length),(7,a3 u),(8,a3 q),(90,.b (decide (6<=q/\q<10/\2<=aE.length)))] ?_ λg=>?_
  ·refine aa.region ?_;refine ab.go I I I I ?_;by_cases cf:6<=q
   ·refine ab.bin (a:=a3 q) (b:=a3 6) (v:=.b true) I I I I (cG (jU cf)) ?_;refine ab.go I I I I ?_;refine ab.go I I I I ?_;by_cases r0:q<10
    ·refine ab.bin (a:=a3 q) (b:=a3 10) (v:=.b true) I I I I (cG (jU r0)) ?_;refine ab.go I I I I ?_;refine ab.go I I I I ?_;refine ab.go I I I I ?_;by_cases hn:2<=aE.length
     ·refine ab.bin (a:=aw aE.length) (b:=aw 2) (v:=.b true) I I I I (cG (jU hn)) ?_;refine bo ?_;exact⟨rfl,rfl,rfl,rfl,rfl,rfl,rfl,rfl,rfl,rfl,by rw[decide_eq_true (And.intro cf (And.intro r0 hn))];rfl,trivial⟩
     ·refine ab.bin (a:=aw aE.length) (b:=aw 2) (v:=.b false) I I I I (cG (jV hn)) ?_;refine bo ?_;exact⟨rfl,rfl,rfl,rfl,rfl,rfl,rfl,rfl,rfl,rfl,by rw[decide_eq_false (λh=>hn h.2.2)];rfl,trivial⟩
    ·refine ab.bin (a:=a3 q) (b:=a3 10) (v:=.b false) I I I I (cG (jV r0)) ?_;refine bo ?_;exact⟨rfl,rfl,rfl,rfl,rfl,rfl,rfl,rfl,rfl,rfl,by rw[decide_eq_false (λh=>r0 h.2.1)];rfl,trivial⟩
   ·refine ab.bin (a:=a3 q) (b:=a3 6) (v:=.b false) I I I I (cG (jV cf)) ?_;refine bo ?_;exact⟨rfl,rfl,rfl,rfl,rfl,rfl,rfl,rfl,rfl,rfl,by rw[decide_eq_false (λh=>cf h.1)];rfl,trivial⟩
  refine aa.cl I (λh=>?_) (λh=>?_)
  ·have GK:=of_decide_eq_true h;rw[if_pos (by rw[o7];exact GK),o7];obtain⟨cf,r0,fk⟩:=GK;obtain⟨o,au,ho,dX⟩:=bz.acc.inv (by rw[cb];omega);rw[cb] at au;subst au;have hlt:aE.length-1<aE.length:=by omega
   have tw:aE.length-2<aE.length:=by omega
   obtain⟨eZ,cU,ey,gR,G,mh,bB,x2,cc⟩:=bz.elem tw dX;obtain⟨p3,j5,nm,sG,H,Ax,v3,a2w,Sg⟩:=bz.elem hlt dX;rw[show nE (aE.map Prod.snd) 2=G from by unfold nE;rw[o7,cc];rfl,show nE (aE.map Prod.snd) 1=H from by unfold nE;rw[o7,Sg];rfl];have k_:qP (b.aQ K) [zP]:=.cons (Aw.one I I) .nil;have c0j:binop .add (.i .u8 4) (a3 q)=some (a3 (4+q)):=Z1 (a:=4) U;have gr:binop .sub (a3 (4+q)) (.i .u8 6)=some (a3 (q-2)):=by
    have:=Z2 (a:=4+q) (b:=6) U U;rw[show 4+q-6=q-2 from by omega] at this;exact this
   refine aa.xx 20 I ?_;refine gK.qQ 13 I k_ I ?_;refine ab.go I I I I ?_;refine ab.go I I I I ?_;refine ab.bin (a:=aw aE.length) (b:=aw 2) I I I I (jS U U) ?_;refine ab.go I I I I ?_;refine ab.bin (a:=aw aE.length) (b:=aw 2) I I I I (jS U U) ?_;refine ab.val I I (QV (k:=aE.length-2) I I I U) ?_;refine ab.go I I I I ?_;refine ab.bin (a:=.i .u8 4) (b:=a3 q) I I I I c0j ?_;refine ab.bin (a:=a3 (4+q)) (b:=.i .u8 6) I I I I gr ?_;refine ab.go I I I I ?_;refine ab.go I I I I ?_;refine ab.bin (a:=aw aE.length) (b:=aw 2) I I I I (jS U U) ?_;refine ab.idx (j:=aE.length-2) I I I I (kM tw) ?_;refine ab.nil ⟨rfl,λ_ _ h=>h,?_⟩;refine gK.nq (v:=.ad [eZ,cU,ey,gR]) I I I (λah aC=>lp _ _ I (l8 (aC _ _ ho) mh)) (vZ (b.a2+1000) _ _ (xv.snap (J:=J) (n:=b.a2+1000) (F:=G) (bB.le U).now U)) ?_;refine gK.qQ 4 I k_ I ?_;refine ab.go I I I I ?_;refine ab.go I I I I ?_;refine ab.bin (a:=aw aE.length) (b:=aw 1) I I I I (jS U U) ?_;refine ab.idx (j:=aE.length-1) I I I I (kM hlt) ?_;refine ab.nil ⟨rfl,λ_ _ h=>h,?_⟩;refine gK.nq (v:=.ad [p3,j5,nm,sG]) I I I (λah aC=>lp _ _ I (l8 (aC _ _ ho) Ax)) (vZ (b.a2+1000) _ _ (xv.snap (J:=J) (n:=b.a2+1000) (F:=H) (v3.le U).now U)) ?_;generalize aZ:J.next=z;refine gK.qQ 1 I k_ I ?_;refine ab.nr (c:=[eZ,cU,ey,gR,p3,j5,nm,sG]) z aZ I I I λbu dQ cn bM=>?_;refine ab.nil ⟨rfl,bM,?_⟩;refine gK.fin k_ I ?_;refine ab.dW I I I (LP Aw (q-2) (.aq z 0 2 (some 4) (some 2)) (.inr ⟨_,_,_,_,_,rfl⟩) bu) λr bA ⟨aV,dC,ba⟩=>⟨_,aV,?_⟩
   refine ab.nr (c:=[a3 (q-2),.s [],.aj,.aq z 0 2 (some 4) (some 2)]) bA.next I I I I λc8 fY eN bj=>?_;have cq:r6 J c8:=λj o ho=>bj j o (ba j o (bM j o ho));refine ab.QW (y:=.ad [a3 (q-2),.s [],.aj,.aq z 0 2 (some 4) (some 2)]) (k:=aE.length-2) (cq _ _ ho) dX (by rw[cb];omega) (Ao eN I) I U I I I λa_ lx sD sE hM de=>?_;refine ab.go I I I I ?_;refine ab.nil ⟨rfl,rfl,⟨a_,fg⟩,⟨rfl,aE.take (aE.length-2)++[(.ad [a3 (q-2),.s [],.aj,.aq z 0 2 (some 4) (some 2)],.mk (q-2) [] none (some [G,H]))],_,oa.step (c8:=c8) (λj=>j=z) (aE.length-2) bz (λj aG=>by subst aG;omega) cq U sD sE hM (λj o _ h=>de j o h) ?_ (by rw[GD];omega),?_⟩,b9⟩
   ·have h1:=fB.two (W:=λj=>W j/\¬j=z) (J:=c8) (n:=10+2*i) (cap:=some 2) (R:=some 4) (v:=.ad [eZ,cU,ey,gR]) (w:=G.A false) (v2:=.ad [p3,j5,nm,sG]) (ja:=H.A false) (bj _ _ (ba _ _ cn)) (λh=>h.2 I) I I ((bB.bK λj o _ h=>cq j o h).sub λj h=>h.1) ((v3.bK λj o _ h=>cq j o h).sub λj h=>h.1);refine fB.ad (n:=10+2*i+1) λaf h'=>?_;rw[dg,dg,dg,dg,h1 af h'];rfl
   ·rw[ie,Dq];rfl
  rw[if_neg (by rw[o7];exact of_decide_eq_false h)];refine aa.norm [(0,a),(2,.p (some (0,0))),(3,v),(4,aw fg),(5,aw i),(6,aw aE.length),(7,a3 u),(8,a3 q)] b9 λg=>?_;refine aa.cut [(0,a),(2,.p (some (0,0))),(3,v),(4,aw fg),(5,aw i),(6,aw aE.length),(7,a3 u),(8,a3 q),(124,.b (decide (10<=q/\1<=aE.length/\fg<4)))] ?_ λg=>?_
  ·refine aa.region ?_;refine ab.go I I I I ?_;by_cases cf:10<=q
   ·refine ab.bin (a:=a3 q) (b:=a3 10) (v:=.b true) I I I I (cG (jU cf)) ?_;refine ab.go I I I I ?_;refine ab.go I I I I ?_;by_cases hn:1<=aE.length
    ·refine ab.bin (a:=aw aE.length) (b:=aw 1) (v:=.b true) I I I I (cG (jU hn)) ?_;refine ab.go I I I I ?_;refine ab.go I I I I ?_;refine ab.go I I I I ?_;by_cases aN:fg<4
     ·refine ab.bin (a:=aw fg) (b:=aw 4) (v:=.b true) I I I I (cG (jU aN)) ?_;refine bo ?_;exact⟨rfl,rfl,rfl,rfl,rfl,rfl,rfl,rfl,rfl,rfl,by rw[decide_eq_true (And.intro cf (And.intro hn aN))];rfl,trivial⟩
     ·refine ab.bin (a:=aw fg) (b:=aw 4) (v:=.b false) I I I I (cG (jV aN)) ?_;refine bo ?_;exact⟨rfl,rfl,rfl,rfl,rfl,rfl,rfl,rfl,rfl,rfl,by rw[decide_eq_false (λh=>aN h.2.2)];rfl,trivial⟩
    ·refine ab.bin (a:=aw aE.length) (b:=aw 1) (v:=.b false) I I I I (cG (jV hn)) ?_;refine bo ?_;exact⟨rfl,rfl,rfl,rfl,rfl,rfl,rfl,rfl,rfl,rfl,by rw[decide_eq_false (λh=>hn h.2.1)];rfl,trivial⟩
   ·refine ab.bin (a:=a3 q) (b:=a3 10) (v:=.b false) I I I I (cG (jV cf)) ?_;refine bo ?_;exact⟨rfl,rfl,rfl,rfl,rfl,rfl,rfl,rfl,rfl,rfl,by rw[decide_eq_false (λh=>cf h.1)];rfl,trivial⟩
  refine aa.cl I (λh=>?_) (λh=>?_)
  ·have GK:=of_decide_eq_true h;rw[if_pos (by rw[o7];exact GK),o7];obtain⟨r0,e6,CB⟩:=GK;obtain⟨o,au,ho,dX⟩:=bz.acc.inv (by rw[cb];omega);rw[cb] at au;subst au;have hlt:aE.length-1<aE.length:=by omega
   obtain⟨p3,j5,nm,sG,H,Ax,v3,a2w,Sg⟩:=bz.elem hlt dX;rw[show nE (aE.map Prod.snd) 1=H from by unfold nE;rw[o7,Sg];rfl];refine aa.seq (aa.region ?_);refine ab.go I I I I ?_;refine ab.bin (a:=aw fg) (b:=aw 1) I I I I (ir U) ?_;refine ab.go I I I I ?_;refine ab.nil ?_;have a2x:u%3<3:=Ge _ U;refine aa.xx 22 I ?_;refine gK.qQ 13 I .nil (gs:=[]) I ?_;refine ab.go I I I I ?_;refine ab.go I I I I ?_;refine ab.bin (a:=aw aE.length) (b:=aw 1) I I I I (jS U U) ?_;refine ab.go I I I I ?_;refine ab.bin (a:=aw aE.length) (b:=aw 1) I I I I (jS U U) ?_;refine ab.val I I (QV (k:=aE.length-1) I I I U) ?_;refine ab.go I I I I ?_;refine ab.bin (a:=a3 8) (b:=a3 q) I I I I (Z1 U) ?_;refine ab.bin (a:=a3 (8+q)) (b:=a3 10) I I I I (Z2 U U) ?_;generalize aZ:J.next=z;refine ab.nr (c:=[.s [120],.s [121],.s [122]]) z aZ I I I λbu dQ cn bM=>?_;refine ab.go I I I I ?_;refine ab.bin (a:=a3 u) (b:=a3 3) I I I I (E5 U) ?_;refine ab.idx (j:=u%3) I I I I (kM a2x) ?_;refine ab.nil ⟨rfl,bM,?_⟩;have vf:dB none (([.s [120],.s [121],.s [122]]:List AV).drop (0+u%3*shN none))=some (.s (ud (u%3))):=by
    generalize u%3=w at a2x;have:w=0\/w=1\/w=2:=by omega
    rcases this with rfl|rfl|rfl<;>rfl
   refine gK.nq (v:=.s (ud (u%3))) I I I (λah aC=>lp _ _ I (l8 (aC _ _ cn) vf)) (tx _) ?_;refine gK.qQ 4 I .nil (gs:=[]) I ?_;refine ab.go I I I I ?_;refine ab.go I I I I ?_;refine ab.bin (a:=aw aE.length) (b:=aw 1) I I I I (jS U U) ?_;refine ab.idx (j:=aE.length-1) I I I I (kM hlt) ?_;refine ab.nil ⟨rfl,λ_ _ h=>h,?_⟩;refine gK.nq (v:=.ad [p3,j5,nm,sG]) I I I (λah aC=>lp _ _ I (l8 (aC _ _ (bM _ _ ho)) Ax)) (vZ (b.a2+1000) _ _ (xv.snap (J:=J) (n:=b.a2+1000) (F:=H) (v3.le U).now U)) ?_;refine gK.qQ 3 I .nil (gs:=[]) I ?_;refine ab.nr (c:=[p3,j5,nm,sG]) (z+1) dQ I I I λbA dC ct ba=>?_;have mE:8+q-10=q-2:=by omega
   rw[mE];refine ab.go (v:=.ad [a3 (q-2),.s (ud (u%3)),.aj,.aq (z+1) 0 1 (some 4) (some 1)]) I I I I ?_;refine ab.nr (c:=[a3 (q-2),.s (ud (u%3)),.aj,.aq (z+1) 0 1 (some 4) (some 1)]) (z+2) dC I I I λc8 fY eN bj=>?_;refine ab.nil ⟨rfl,λj o h=>bj j o (ba j o h),?_⟩;have cq:r6 J c8:=λj o ho=>bj j o (ba j o (bM j o ho));refine gK.fin .nil (gs:=[]) I ?_;refine ab.QW (y:=.ad [a3 (q-2),.s (ud (u%3)),.aj,.aq (z+1) 0 1 (some 4) (some 1)]) (k:=aE.length-1) (cq _ _ ho) dX (by rw[cb];omega) (Ao eN I) I U I I I λa_ lx sD sE hM de=>?_;refine ab.go I I I I ?_;refine ab.nil ⟨rfl,rfl,⟨a_,fg+1⟩,⟨rfl,aE.take (aE.length-1)++[(.ad [a3 (q-2),.s (ud (u%3)),.aj,.aq (z+1) 0 1 (some 4) (some 1)],.mk (q-2) (ud (u%3)) none (some [H]))],_,oa.step (c8:=c8) (λj=>j=z+1) (aE.length-1) bz (λj aG=>by subst aG;omega) cq U sD sE hM (λj o _ h=>de j o h) ?_ (by rw[x3];omega),?_⟩,b9⟩
   ·have h1:=fB.one (W:=λj=>W j/\¬j=z+1) (J:=c8) (n:=10+2*i) (cap:=some 1) (R:=some 4) (v:=.ad [p3,j5,nm,sG]) (w:=H.A false) (bj _ _ ct) (λh=>h.2 I) I ((v3.bK λj o _ h=>cq j o h).sub λj h=>h.1);refine fB.ad (n:=10+2*i+1) λaf h'=>?_;rw[dg,dg,dg,dg,h1 af h'];rfl
   ·rw[ie,Dq];rfl
  rw[if_neg (by rw[o7];exact of_decide_eq_false h)];exact aa.skip ⟨rfl,⟨v,fg⟩,⟨rfl,aE,W,bz.next,rfl⟩,b9⟩
 ·intro t J g ⟨_,aE,W,bz,e⟩;unfold builtF;rw[<-e];clear e h0 hn;obtain⟨v,k⟩:=t;have c0k:min l.length 24<=24:=Nat.min_le_right ..;have s9:=bz.len;generalize min l.length 24=i at c0k bz s9;refine aa.EX [(2,.p (some (0,0))),(3,v)] (E:=vu 2 (some 4) λv af=>freeze af 0 1000 v=some ((Sd (aE.map Prod.snd)).A false)) (M:=0<aE.length) ?_ (λx bD af h=>⟨λe=>(by have:=h.1;rw[e] at this;cases this),h⟩) λw0 g=>?_
  ·refine aa.seq (aa.region ?_);refine ab.go I I I I ?_;refine ab.len I I I bz.acc.len ?_;rw[cb];refine ab.bin (a:=aw aE.length) (b:=aw 0) (v:=.b (decide (aE.length=0))) I I I I (cG I) ?_;refine ab.nil (aa.cl I (λh=>?_) (λh=>?_))
   ·have h0:=of_decide_eq_true h;obtain rfl:aE=[]:=CC.1 h0;refine aa.seq (aa.region ?_);refine ab.dW I I I (LP Aw 2 .aj (.inl I) J) λr bA ⟨aV,dC,ba⟩=>⟨_,aV,?_⟩
    refine ab.store (bn:=[a3 2,.s [],.aj,.aj]) (ba _ _ bz.res) I I I I I λc8 fY h3 bj=>?_;exact ab.nil (aa.ret (.inr ⟨rfl,_,_,_,.ad [a3 2,.s [],.aj,.aj],rfl,h3,rfl,Fm.m3 c8 998 (.mk 2 [] none none) false⟩))
   ·exact aa.skip (.inl ⟨rfl,rfl,b9,Zu (of_decide_eq_false h)⟩)
  obtain⟨o,au,ho,dX⟩:=bz.acc.inv (by rw[cb];omega);rw[cb] at au;subst au;obtain⟨eZ,cU,ey,gR,dZ,mh,bB,x2,GL⟩:=bz.elem w0 dX;refine aa.seq (aa.region ?_);refine ab.go I I I I ?_;refine ab.idx (j:=0) I I I I (kM w0) ?_;refine ab.a0 ho I I I mh ?_;have a2f:=ag.cJ bz.res;have c0l:=ag.cJ ho;have c7b:o≠0:=λe=>bz.nz (by rw[e];rfl);generalize aZ:J.next=z at a2f c0l;refine ab.var (v:=.ad [eZ,cU,ey,gR]) (c:=[eZ,cU,ey,gR]) z aZ I I I I I I λbA dC h2 ba=>?_;have c0m:W z:=EG λe=>by have:=bz.old z e;omega
  obtain⟨aR,Sh⟩:∃aR,aE.map Prod.snd=dZ::aR:=by
   cases qO:aE.map Prod.snd with
   |nil=>rw[qO] at GL;cases GL
   |cons y aR=>rw[qO] at GL;cases GL;exact⟨aR,rfl⟩
  have c7c:aR.length+1=aE.length:=by
   have:=congrArg List.length Sh;rw[cb] at this;exact this.symm
  rw[Sh];refine ab.nil ?_;show aa (b.aQ K) 181 _ _ _ (vu 2 (some 4) λv af=>freeze af 0 1000 v=some ((orsB dZ aR).A false));refine aa.seq (aa.seq (aa.region ?_));refine ab.go I I I I ?_;refine ab.nil (aa.block ?_);refine aa.loop (λm f af=>∃j bx W',j+1+m=aE.length/\z<af.next/\af.get 0=some (.cells [.i .u8 0,.s [],.aj,.aj])/\af.get z=some (.cells bx.cells)/\conf (some 4) bx=true/\fB W' af (60+2*j) bx ((orsB dZ (aR.take j)).A false)/\(orsB dZ (aR.take j)).dep<=30+j/\W' z/\W' 0/\(∀j,¬W' j->j<af.next)/\(∀p∈aE,fB W' af 58 p.1 (p.2.A false))/\af.get o=some (.cells ((aE.map Prod.fst).flatMap AV.cells))∧
   sat [(2,.p (some (0,0))),(3,.aq o 0 aE.length (some 4) none),(9,.p (some (z,0))),(10,aw (j+1))] f) ?_ (aE.length-1) ⟨0,.ad [eZ,cU,ey,gR],W,U,U,ba _ _ bz.res,h2,rfl,(bB.bK λj o _ h=>ba j o h).le U,(by show dZ.dep<=_;omega),c0m,bz.zero,(λj h=>by have:=bz.old j h;omega),(λp ay=>((bz.m3 p ay).1.bK λj o _ h=>ba j o h).le U),ba _ _ ho,b9⟩
  have qO:=bz.m3;clear bB x2 mh bz h2 ba dC ho aZ GL;intro m g J ⟨j,bx,W',c7d,ZZ,h0,aZ,jj,L4,IB,a2y,Aa,hold,DQ,ho,hL⟩;refine aa.norm _ hL λg=>?_;clear hL;refine aa.seq (aa.seq (aa.region ?_));refine ab.go I I I I ?_;refine ab.go I I I I ?_;refine ab.len (m:=aE.length) I I I I ?_;refine ab.bin (a:=aw (j+1)) (b:=aw aE.length) (v:=.b (decide (j+1<aE.length))) I I I I (cG I) ?_;obtain⟨B9,rfl,vW⟩:=xr jj;obtain⟨f0,f1,f2,f3,rfl⟩:∃eZ cU ey gR,B9=[eZ,cU,ey,gR]:=by
   match B9,vW with
   |[eZ,cU,ey,gR],_=>exact⟨eZ,cU,ey,gR,rfl⟩
  refine ab.nil (aa.cl I (λh=>?_) (λh=>?_))
  ·have hlt:j+1<aE.length:=of_decide_eq_true h;refine aa.skip ?_;have hx:(aE.map Prod.fst)[j+1]'(by rw[cb];exact hlt)=(aE[j+1]).1:=ic ..;have hm:aE[j+1]∈aE:=c3 hlt;have v3:=DQ _ hm;have a2w:=(qO _ hm).2;have Ax:=vI (R:=some 4) (xs:=aE.map Prod.fst) (j:=j+1) (by rw[cb];exact hlt) dX;rw[hx] at Ax;obtain⟨a2z,c0n,vW⟩:=xr (dX (aE[j+1]).1 (di.2 ⟨_,hm,rfl⟩));obtain⟨p3,j5,nm,sG,rfl⟩:∃eZ cU ey gR,a2z=[eZ,cU,ey,gR]:=by
    match a2z,vW with
    |[eZ,cU,ey,gR],_=>exact⟨eZ,cU,ey,gR,rfl⟩
   rw[c0n] at Ax v3;have a2A:j<aR.length:=by omega
   have a2B:aR[j]=(aE[j+1]).2:=by
    have aF:(aE.map Prod.snd)[j+1]'(by rw[cb];exact hlt)=(aE[j+1]).2:=ic ..;rw[<-aF];simp only[Sh,Dr]
   have k_:qP (b.aQ K) [zP]:=.cons (Aw.one I I) .nil;refine aa.seq (aa.block (aa.xx 6 I ?_));refine gK.nq (v:=.ad [f0,f1,f2,f3]) I I I (λah aC=>lp _ _ I (l8 (aC _ _ aZ) (E6 (R:=some 4) (v:=.ad [f0,f1,f2,f3]) I))) (vZ (b.a2+1000) _ _ (xv.snap (J:=J) (n:=b.a2+1000) (F:=orsB dZ (aR.take j)) (L4.le U).now U)) ?_;refine gK.qQ 3 I k_ I ?_;refine ab.go I I I I ?_;refine ab.go I I I I ?_;refine ab.idx (j:=j+1) I I I I (kM hlt) ?_;refine ab.nil ⟨rfl,λ_ _ h=>h,?_⟩;refine gK.nq (v:=.ad [p3,j5,nm,sG]) I I I (λah aC=>lp _ _ I (l8 (aC _ _ ho) Ax)) (vZ (b.a2+1000) _ _ (xv.snap (J:=J) (n:=b.a2+1000) (F:=(aE[j+1]).2) (v3.le U).now U)) ?_;generalize hw:J.next=w;refine gK.qQ 1 I k_ I ?_;refine ab.nr (c:=[f0,f1,f2,f3,p3,j5,nm,sG]) w hw I I I λbu dQ cn bM=>?_;refine ab.nil ⟨rfl,bM,?_⟩;refine gK.fin k_ I ?_;refine ab.dW I I I (LP Aw 5 (.aq w 0 2 (some 4) (some 2)) (.inr ⟨_,_,_,_,_,rfl⟩) bu) λr bA ⟨aV,dC,ba⟩=>⟨_,aV,?_⟩
   have cq:r6 J bA:=λj o ho=>ba j o (bM j o ho);refine ab.store (bn:=[a3 5,.s [],.aj,.aq w 0 2 (some 4) (some 2)]) (cq _ _ aZ) I I I I I λc8 fY h3 bj=>?_;refine ab.nil ⟨rfl,?_⟩;refine aa.region ?_;refine ab.go I I I I ?_;refine ab.bin (a:=aw (j+1)) (b:=aw 1) I I I I (ir U) ?_;refine ab.go I I I I ?_;have GP:∀i o,¬(W' i/\¬i=w)->bA.get i=some o->c8.get i=some o:=λi o hi h=>bj i o (λe=>hi (by subst e;exact⟨a2y,U⟩)) h;have IE:(0:Nat)≠z:=by have:=ag.cJ h0;omega
   have c0o:o≠z:=by omega
   refine ab.nil ⟨m-1,U,j+1,.ad [a3 5,.s [],.aj,.aq w 0 2 (some 4) (some 2)],λi=>W' i/\¬i=w,U,U,bj _ _ IE (cq _ _ h0),h3,rfl,?_,?_,⟨a2y,U⟩,⟨Aa,U⟩,?_,?_,bj _ _ c0o (cq _ _ ho),b9⟩
   ·rw[lv a2A,LU,a2B];have h1:=fB.two (W:=λi=>W' i/\¬i=w) (J:=bA) (n:=60+2*j) (cap:=some 2) (R:=some 4) (v:=.ad [f0,f1,f2,f3]) (w:=(orsB dZ (aR.take j)).A false) (v2:=.ad [p3,j5,nm,sG]) (ja:=(aE[j+1]).2.A false) (ba _ _ cn) (λh=>h.2 I) I I ((L4.bK λj o _ h=>cq j o h).sub λj h=>h.1) (((v3.bK λj o _ h=>cq j o h).sub λj h=>h.1).le U);refine fB.bK (J:=bA) (fB.ad (n:=60+2*j+1) λaf h'=>?_) GP;rw[dg,dg,dg,dg,h1 af h'];rfl
   ·rw[lv a2A,LU,GD,a2B];omega
   ·intro i hi;by_cases e:i=w
    ·omega
    ·have:=hold i λh=>hi ⟨h,e⟩;omega
   ·intro p ay;exact(((DQ p ay).bK λj o _ h=>cq j o h).sub λj h=>h.1).bK GP
  ·have iX:¬j+1<aE.length:=of_decide_eq_false h;obtain rfl:j=aR.length:=by omega
   rw[kS] at L4 IB;refine aa.exit ?_;refine aa.seq (aa.region ?_);refine ab.a0 (v:=.ad [f0,f1,f2,f3]) aZ I I I I ?_;refine ab.store (bn:=[f0,f1,f2,f3]) h0 I I I I I λc8 fY h3 bj=>?_;refine ab.nil (aa.ret ⟨rfl,_,_,_,.ad [f0,f1,f2,f3],rfl,h3,rfl,?_⟩);exact((L4.bK (af:=c8) λi o hi h=>bj i o (λe=>hi (by subst e;exact Aa)) h).le U).now
end
structure Si(b:b8):Prop where
 visit:dF b qT sd
 walk:dF b tG vz
 LL:dF b pM tD
 c0p:dF b KH Qn
 c0q:dF b KI Ze
 c0r:dF b QA Zc
 c0s:dF b Qz Y7
 Sj:dF b Ci Fo
 Sk:dF b zN Fp
 v:dF b KJ Qj
 fn:dF b KK Qk
 c0t:dF b FK Qh
 c0u:dF b zP Qi
 sorted:dF b Fz Qs
 c0v:dF b FB Kv
 c0w:dF b oU xA
 c0x:dF b FA Ku
 Collect:dF b Cg Fw
 c0y:dF b zL Cd
 c0z:dF b Ch Fx
 c0A:dF b sf tE
 c0B:dF b qU se
 Lq:dF b zM Ce
 c0C:dF b xC zK
 c0D:dF b KC Ql
 Functions:dF b KD Qm
 c0E:dF b Cf Km
 R2:dF b xB zI
 c0F:dF b KE Qw
 c0G:dF b FD Ky
 c0H:dF b KF Qx
 c0I:dF b FC Kz
 a2C:gl b FG Zn
 Sm:gl b vA Zg
 Sn:gl b vB Y9
 a2D:gl b Cj Y8
 a2E:gl b Ck Zk
 So:gl b tH Zh
 L5:gl b oV Zf
 a2F:gl b FL Zo
 Sp:gl b xG Zl
 Sq:gl b xD Y_
 L6:gl b sg Y4
 Sr:gl b xE Zd
 a2G:gl b FH Zi
 Ss:gl b xF Zj
 a2H:gl b FE Za
 a2I:gl b FF Zb
 a2J:gl b mT Y3
 a2K:gl b Fy Y5
 L7:gl b oW YZ
 a2L:gl b zO Y1
 a2M:gl b vC B3
 a2N:gl b iv Zm
 a2O:gl b FJ Y6
 a2P:gl b FI Y2
 St:gl b qV Y0
 c7e:b.ext KL=0/\b.pure KL=true
 c0J:b.ext sh=0/\b.pure sh=true
 Su:b.a2=0
 c0K:b.ext si=0/\b.pure si=true
 c0L:b.ext KG=2
 rows:b.mA KT=some (.ad FX)
section
variable {P:Program}{b:b8}(hb:jb P b)(ck:Si b){T:Nat->List AV->AV->Prop}(x4:∀g aB r bS,T g aB r->T g aB bS->r=bS)(hz:∀g aB r,T g aB r->g=KL\/g=sh\/g=Zs\/g=si)(Sv:vq P b T)
def gm(x:Bool):gI 1000 (.b x)=true/\AV.eqb 1000 (.b x) (.b x)=true:=⟨rfl,Snp.eqb 1000 _ (Snp.b 999 _)⟩
def B4(k:IntKind)(x:Int):gI 1000 (.i k x)=true/\AV.eqb 1000 (.i k x) (.i k x)=true:=⟨rfl,Snp.eqb 1000 _ (Snp.i 999 _ _)⟩
def g9.c0M{F:Fm}(h:g9 F):F.strip.dep<=F.dep:=by
 induction h with
 |fb aD a hn ha ak=>rw[Fm.strip,Fm.e0,Fm.e0];show max (Tm.cv []) (Fm.cv [])+1<=_;rw[Tm.cv,Fm.cv];omega
 |e2=>rw[Fm.strip];exact b6 _
 |un op aD F ho hn h ar=>
  rcases ho with rfl|ho
  ·rw[Fm.strip,if_neg U,Fm.n_,Fm.n_,x3];show(Fm.mk 3 aD none (some [F.strip])).dep<=_;rw[x3];omega
  ·rw[Fm.strip,if_pos ho,Fm.stripH,x3];omega
 |bi op F G ho h h2 ar fx=>
  rw[Fm.strip,if_neg U,Fm.n_,Fm.n_,Fm.n_,GD];show(Fm.mk op [] none (some [F.strip,G.strip])).dep<=_;rw[GD];omega
def g9.sub{F:Fm}(h:g9 F):∀G∈F.sub,g9 G:=by
 cases h with
 |fb aD a hn ha ak=>intro G cc;simp[Fm.sub,Fm.d_] at cc
 |e2=>intro G cc;simp[Fm.sub,Fm.d_] at cc
 |un op aD F ho hn h=>intro G cc;rw[show G=F from by simpa [Fm.sub,Fm.d_] using cc];exact h
 |bi op F G ho h h2=>
  intro H cc;have:H=F\/H=G:=by simpa [Fm.sub,Fm.d_] using cc
  rcases this with rfl|rfl<;>assumption
def g9.shape{F:Fm}(h:g9 F):F.sub.length<1000/\(F.op=8\/F.op=9->0<F.sub.length):=by
 cases h with
 |fb aD a hn ha ak=>exact⟨by simp[Fm.sub,Fm.d_],λh=>by simp[Fm.op] at h⟩
 |e2=>exact⟨by simp[Fm.sub,Fm.d_],λh=>by simp[Fm.op] at h⟩
 |un op aD F ho hn h=>exact⟨by simp[Fm.sub,Fm.d_],λ_=>by simp[Fm.sub,Fm.d_]⟩
 |bi op F G ho h h2=>exact⟨by simp[Fm.sub,Fm.d_],λ_=>by simp[Fm.sub,Fm.d_]⟩
include ck x4 hz in
theorem c0N{dL:Nat}(h:5<=dL):FZ b (gB T dL) where
 fn:=gB.fn x4 hz
 var l ao:=.var _ _ l ao U I I
 ZN l ao:=.func _ _ l ao U I I
 xN l ao:=.xN _ _ l ao U I I
 named k l ao:=.named _ _ k l ao h I I
 inst a h1 h2:=.inst _ _ a ⟨h1,λt ht=>⟨(h2 t ht).1,by have:=(h2 t ht).2;have:=ck.Su;omega⟩⟩ h I I
 QN:=ck.L6.2
 QO:=ck.Sr.2
 QP:=ck.Ss.2
 QQ:=ck.a2H.2
 F0:=ck.a2I.2
 node:=ck.c0p.h
 term:=ck.c0q.h
 K0:=ck.c0r.h
 form:=ck.c0s.h
include ck in
theorem c0O{dL:Nat}(h:1<=dL):Rp b (gB T dL) where
 sorted:=ck.sorted.h
 keys:=ck.c0v.h
 a0K:=ck.c0x.h
 a0L:=ck.Collect.h
 app:=ck.c0y.h
 a0M:=ck.c0w.h
 a0N:=ck.c0z.h
 len:=ck.c0A.h
 a0O:=ck.c0B.h
 Lq:=ck.Lq.h
 ins:=ck.c0C.h
 cmp x y:=.L1 _ _ x y h I I
 FW:=ck.a2N.2
include hb ck x4 hz Sv in
theorem a2Q:∀dL,vq P b (gB T dL):=by
 intro dL
 induction dL with
 |zero=>
  intro g aB r h bN;cases h with
  |cT _ _ _ h=>exact Sv _ _ _ h bN
  |strip _ _ F bB ao e bJ=>rw[Fm.e0] at ao;omega
  |_=>omega
 |succ dL ar=>
  have hf:=gB.fn x4 hz (dL:=dL);intro g aB r h bN;cases h with
  |cT _ _ _ h=>exact Sv _ _ _ h bN
  |small _ _ c ao e bJ=>subst e bJ;exact k5 hb ar _ ck.a2C.1 I I I I (gm _).1 (gm _).2 (b6h c _ I) bN
  |GF _ _ c ao e bJ=>subst e bJ;exact k5 hb ar _ ck.Sm.1 I I I I (gm _).1 (gm _).2 (b6i c _ I) bN
  |digit _ _ c ao e bJ=>subst e bJ;exact k5 hb ar _ ck.Sn.1 I I I I (gm _).1 (gm _).2 (b6j c _ I) bN
  |LW _ _ c ao e bJ=>subst e bJ;exact k5 hb ar _ ck.a2D.1 I I I I (gm _).1 (gm _).2 (b6k c _ I) bN
  |LX _ _ c ao e bJ=>subst e bJ;exact k5 hb ar _ ck.a2E.1 I I I I (gm _).1 (gm _).2 (b6l c _ I) bN
  |GG _ _ c ao e bJ=>subst e bJ;exact k5 hb ar _ ck.So.1 I I I I (gm _).1 (gm _).2 (b6m hf (λc=>.small _ _ c U I I) (λc=>.GF _ _ c U I I) (λc=>.digit _ _ c U I I) ck.a2C.2 ck.Sm.2 ck.Sn.2 c _ I) bN
  |kO _ _ l ao e bJ=>subst e bJ;exact k5 hb ar _ ck.L5.1 I I I I (gm _).1 (gm _).2 (b6n l _ I) bN
  |LY _ _ x y ao e bJ=>subst e bJ;exact k5 hb ar _ ck.a2F.1 I I I I (gm _).1 (gm _).2 (b6p x y _ I) bN
  |pre _ _ x y ao e bJ=>subst e bJ;exact k5 hb ar _ ck.Sp.1 I I I I (gm _).1 (gm _).2 (b6q hf (λx y=>.LY _ _ x y U I I) ck.a2F.2 x y _ I) bN
  |pred _ _ l hn ao e bJ=>subst e bJ;exact k5 hb ar _ ck.Sq.1 I I I I (gm _).1 (gm _).2 (b6r hf (λc=>.GF _ _ c U I I) ck.Sm.2 (λc=>.GG _ _ c U I I) ck.So.2 (λl=>.kO _ _ l U I I) ck.L5.2 ck.Sk.h ck.Sj.h l hn _ I) bN
  |var _ _ l hn ao e bJ=>subst e bJ;exact k5 hb ar _ ck.L6.1 I I I I (gm _).1 (gm _).2 (b6s hf (λc=>.LW _ _ c U I I) ck.a2D.2 (λc=>.digit _ _ c U I I) ck.Sn.2 (λl=>.kO _ _ l U I I) ck.L5.2 ck.Sk.h ck.Sj.h l hn _ I) bN
  |func _ _ l hn ao e bJ=>subst e bJ;exact k5 hb ar _ ck.Sr.1 I I I I (gm _).1 (gm _).2 (b6t hf (λc=>.LX _ _ c U I I) ck.a2E.2 (λc=>.GG _ _ c U I I) ck.So.2 (λl=>.kO _ _ l U I I) ck.L5.2 ck.Sk.h ck.Sj.h l hn _ I) bN
  |LZ _ _ l hn ao e bJ=>subst e bJ;exact k5 hb ar _ ck.a2G.1 I I I I (gm _).1 (gm _).2 (b6u hf (λl ao=>.pred _ _ l ao U I I) ck.Sq.2 (λx y _ _=>.pre _ _ x y U I I) ck.Sp.2 l hn _ I) bN
  |xN _ _ l hn ao e bJ=>subst e bJ;exact k5 hb ar _ ck.Ss.1 I I I I (gm _).1 (gm _).2 (b6v hf (λl ao=>.func _ _ l ao U I I) ck.Sr.2 (λx y _ _=>.pre _ _ x y U I I) ck.Sp.2 l hn _ I) bN
  |named _ _ k l hn ao e bJ=>subst e bJ;exact k5 hb ar _ ck.a2H.1 I I I I (gm _).1 (gm _).2 (b6E hf (λl ao=>.pred _ _ l ao U I I) ck.Sq.2 (λl ao=>.var _ _ l ao U I I) ck.L6.2 (λl ao=>.LZ _ _ l ao U I I) ck.a2G.2 k l hn _ I) bN
  |inst _ _ a hn ao e bJ=>subst e bJ;exact k5 hb ar _ ck.a2I.1 I I I I (gm _).1 (gm _).2 (b6F hf (λl ao=>.var _ _ l ao U I I) ck.L6.2 (λl ao=>.xN _ _ l ao U I I) ck.Ss.2 a hn.1 (λt ht=>(hn.2 t ht).1) _ I) bN
  |right _ _ F bB ao e bJ=>subst e bJ;exact k5 hb ar _ ck.a2J.1 I I I I (gm _).1 (gm _).2 (b6D (c0N ck x4 hz U) ck.rows F (by have:=bB.2;omega) bB.1 _ I) bN
  |ops _ _ F bB ao e bJ=>subst e bJ;exact b4U hb ar _ ck.a2K.1 I I I I (B4 _ _).1 (B4 _ _).2 (b6g ck.visit.h ck.LL.h ck.walk.h F bB _ I) bN
  |strip _ _ F bB ao e bJ=>
   subst e bJ;have an:=bB.1.c0M;have ak:=bB.1.shape;exact P5 hb ar _ ck.L7.1 I I I I (Fm.res _ (by have:=bB.2;omega)).1 (Fm.res _ (by have:=bB.2;omega)).2 (b9X hf ck.L7.2.1 ck.L7.2.2 F (λG cc=>.strip _ _ G ⟨bB.1.sub G cc,by have:=Fm.pH cc;have:=bB.2;omega⟩ (by have:=Fm.pH cc;omega) I I) bB.2 ak.1 bB.1.ok.op ak.2 _ I) bN
  |L0 _ _ c ae ao e bJ=>subst e bJ;exact P5 hb ar _ ck.a2L.1 I I I I (Tm.res _ (by have:=GC c;omega)).1 (Tm.res _ (by have:=GC c;omega)).2 (b9M ck.v.h ck.fn.h c ae _ I) bN
  |built _ _ l ae ao e bJ=>
   subst e bJ;obtain⟨n,d,hw,h1,h2⟩:=a2o (l.getD []);have an:=hw.dep;exact P5 hb ar _ ck.a2M.1 I I I I (Fm.res _ U).1 (Fm.res _ U).2 (c0g hf ck.c0t.h ck.c0u.h (λc ae=>.L0 _ _ c ae U I I) ck.a2L.2 (l.getD []) ae (ob l) (λah=>P0) (λi h=>E1 h) _ I) bN
  |L1 _ _ x y ao e bJ=>subst e bJ;exact k5 hb ar _ ck.a2N.1 I I I I (B4 _ _).1 (B4 _ _).2 (b9K ck.c0F.h ck.c0G.h ck.c0L ck.c0H.h ck.c0I.h x y _ I) bN
  |args _ _ k F bB ao e bJ=>subst e bJ;exact k5 hb ar _ ck.a2O.1 I I I I (gm _).1 (gm _).2 (b9E hf ((c0O ck U).go hf) ck.c0D.h ck.Functions.h ck.c0E.h ck.R2.h ck.visit.h ck.LL.h ck.walk.h k F bB.1 bB.2.1 bB.2.2 _ I) bN
  |one _ _ l F bB ao e bJ=>subst e bJ;exact k5 hb ar _ ck.a2P.1 I I I I (gm _).1 (gm _).2 (c0d hf F (by have:=bB.2.1;omega) (.right _ _ F ⟨bB.1.ok,bB.2.1⟩ U I I) ck.a2J.2 (.ops _ _ F bB.1.fA U I I) ck.a2K.2 l bB.2.2 (.args _ _ l.kind F ⟨bB.1.fA,bB.1.b9Z,bB.1.c0a⟩ U I I) ck.a2O.2 _ I) bN
  |allowed _ _ l F bB ak ll ao e bJ=>subst e bJ;exact k5 hb ar _ ck.St.1 I I I I (gm _).1 (gm _).2 (c0e hf F (by have:=bB.2.1;omega) l (λJ=>by rw[show b.a2+1000=1000 by rw[ck.Su]];exact ak J) (.cT _ _ _ ll) ck.c0J (.one _ _ l F bB U I I) ck.a2P.2 _ I) bN
end
end
section
open Go.Lyc.T
abbrev eL:=Nat×List AV×AV
def sH(k:Nat)(o:Bool):List AV:=[.y (2*k),.y (2*k+1),.eT o (2*k),.eT o (2*k+1)]
def ea(k:Nat)(o:Bool):AV:=.ad (sH k o)
def v5(op k:Nat)(o:Bool):AV:=.ad [a3 op,.y (2*k+1),.eT o (2*k),.eT o (2*k+1)]
def jx(op:Nat)(aD:List Nat)(o:Bool)(l:List AV):AV:=.ad [a3 op,.s aD,.aj,.aR o (some 4) l]
def a2R:AV:=.ad [.i .u8 2,.s [],.aj,.aj]
def uf(c:Nat):List AV:=[.i .u8 15,.s [63,c],.aj,.aj]
def a2S(l:List (Nat×Nat)):AV:=.aR true (some 5) (l.map λx=>.ad (.s [63,x.1]::sH x.2 true))
def sI(l:List (Nat×Nat)):AV:=.ad [a2S l,.aj]
def c0P(l:List (Nat×Nat))(c:Nat)(aD:List Nat):AV:=.ad [a2S l,.aR true (some 4) [.ad [.s [63,c],.b true,.s aD,.aj]]]
def ug(v:AV):AV:=.a6 [v,.i .i64 0]
def a2T(c:Nat):AV:=.ad [.i .u8 16,.s [63,65],.aR true (some 3) [.ad [.b true,.s [120],.aj],.ad [.b true,.s [63,c],.aj]],.aj]
def oc:List Nat:=[120,49]
def GQ(c k:Nat):eL:=(pN,[.ad (uf c++(sH k true++[.aj])),ea k true,.aj],.a6 [ea k false,.b true])
def a2U(v:List Nat):eL:=(pN,[.ad (uf 65++(sH 0 true++[.aR true (some 2) [.ad [.s [120],.s v]]])),ea 0 true,.aj],.a6 [ea 2 false,.b true])
def x5(k p:Nat):List eL:=[(lu,[ea k true],ea k false),(sn,[ea k true],ea p false),(mT,[ea p true],.b true)]
def c0Q:List eL:=[(tK,[.ad (uf 65),sI [(65,0),(66,1)]],ug (ea 0 false)),(tK,[.ad (uf 66),sI [(65,0),(66,1)]],ug (ea 1 false))]
def L8(k:Nat):List eL:=[
 (tK,[.ad (uf 65),sI [(65,k)]],ug (ea k false)),
 (tK,[jx 3 [] true [.ad (uf 65)],sI [(65,k)]],ug (jx 3 [] false [ea k false])),
 (tK,[jx 10 [] true [.ad (uf 65)],sI [(65,k)]],ug (jx 10 [] false [ea k false])),
 (tK,[jx 13 [] true [.ad (uf 65)],sI [(65,k)]],ug (jx 13 [] false [ea k false]))]
def GV(j1:Bool):List eL:=[
 (tK,[a2T 97,c0P [(65,2)] 97 oc],ug (ea (cond j1 4 2) false)),
 (tK,[a2T 116,sI [(65,2)]],cond j1 (.a6 [.ad [.i .u8 0,.s [],.aj,.aj],.i .i64 6]) (ug (ea 2 false)))]
def GW(f:AV):eL:=(Zr,[.aj,f,sI [(65,2)]],.s oc)
def L9(k:Nat):eL:=(Zr,[.aj,ea k true,sI [(67,k)]],.s oc)
def a2V(k:Nat):List eL:=GQ 65 k::GQ 66 k::GQ 67 k::L9 k::(x5 k k++L8 k)
def a2W:List eL:=GQ 66 1::(x5 1 1++c0Q)
def GX(f:AV)(v:List Nat)(j1:Bool):List eL:=a2U v::GW f::(x5 2 3++GV j1)
structure x6 where
 f:AV
 k:Nat
 q:Option (List Nat×Bool)
 x:Bool
def L_(c:x6):List eL:=(mT,[c.f],.b true)::(a2V c.k++(a2W++(match c.q with
 |some (v,j1)=>GX c.f v j1
 |none=>[])))
def iL(r:AV):AV:=match r with
 | .ad (_::_::l)=>.ad l
 |v=>v
def kk(c:AV):Nat:=match c with
 | .ad (.i _ (.ofNat o)::_)=>o
 |_=>0
def x7(c:AV):Nat:=match c with
 | .ad [_,_,_,.aR _ _ (.ad (.i _ (.ofNat o)::_)::_)]=>o
 |_=>0
def c0R(r:AV):AV:=match r with
 | .ad (.s n::_)=>.s n
 |v=>v
def o8:List (List Nat):=[[120],[121],[122]]
def nine:List Nat:=[1,2,3,4,5,6,7,8,9]
def GY(o s:Nat):List x6:=
 cond (Nat.beq o 2) [⟨a2R,0,none,true⟩]
 (cond (Nat.beq o 3) (cond (Nat.beq s 15) [⟨jx 3 [] true [ea 0 true],0,none,true⟩] (nine.map λj=>⟨jx 3 [] true [v5 j 0 true],0,none,false⟩))
 (cond (Nat.blt o 8) [⟨jx o [] true [ea 0 true,ea 1 true],0,none,true⟩]
 (o8.flatMap λv=>[⟨jx o v true [ea 0 true],0,some (v,false),true⟩,⟨jx o v true [ea 0 true],0,some (v,true),true⟩])))
def uh(c:AV):List x6:=
 cond (Nat.blt 14 (kk c)) [⟨ea 5 true,5,none,true⟩]
 (cond (Nat.blt 9 (kk c)) (nine.map λj=>⟨v5 j 5 true,0,none,false⟩)
 ((nine.filter λj=>Bool.not (Nat.beq j (kk c))).map (λj=>⟨v5 j 5 true,0,none,false⟩)++GY (kk c) (x7 c)))
def p4:AV:=.ad [.aj,.aj]
def c0S(j1:Bool):eL:=(tI,[ea 2 true,.s [63,120]],cond j1 (.fF 1 345) (.i .i64 0))
def sJ(k:Nat):List eL:=(mT,[jx 3 [] true [ea k true]],.b true)::(mT,[jx 10 [] true [ea k true]],.b true)::(mT,[jx 13 [] true [ea k true]],.b true)::(Cl,[ea k true],.fF 1 345)::x5 k k
def Sw(j1:Bool):List eL:=(Cl,[ea 2 true],.fF 1 345)::c0S j1::(x5 2 3++cond j1 [(sm,[ea 2 true,.s [63,120],.ad [.b true,.s oc,.aj]],ea 4 false),(mT,[ea 4 true],.b true)] [(mT,[ea 2 true],.b true)])
def Sx(c:List Nat):AV×List (List AV):=match c with
 |[]=>(.aj,[])
 |x::l=>(.aq 0 0 (x::l).length none none,[(x::l).map λi=>.s (Nat.rec [63,120] (λi _=>[120+i]) i)])
abbrev sK:=Nat×List AV×AV×List (List AV)
def m4(k:Nat)(c:List Nat):sK:=(sl,[ea k true],(Sx c).1,(Sx c).2)
def Ma:List sK:=[(oX,[.ad [.b true,.s oc,.aj]],.aq 0 0 1 none none,[[.s oc]]),(oX,[.ad [.b false,.s [],.aj]],.aj,[])]
def Ay:List (List Nat):=[[],[1],[2],[3],[1,2],[1,3],[2,3],[1,2,3]]
def Mb:List (List Nat):=Ay++Ay.map λl=>0::l
def x8(k:Nat):List (List sK×List eL×List eL):=Ay.map λc=>([m4 k c],sJ k,L9 k::L8 k)
def CM(k:Nat):List (List sK×List eL×List eL):=Ay.map λc=>([m4 k c],sJ 0++sJ 1,[cond (Nat.beq k 0) (tK,[.ad (uf 65),sI [(65,0),(66,1)]],ug (ea 0 false)) (tK,[.ad (uf 66),sI [(65,0),(66,1)]],ug (ea 1 false))])
def CN(j1:Bool):List (List sK×List eL×List eL):=Mb.map λc=>(m4 2 c::Ma,Sw j1,GV j1)
def Sy:List (List sK×List eL×List eL):=Ay.flatMap λc=>Mb.map λd=>([m4 5 c,m4 2 d],[],[GW (ea 5 true)])
end
end Go.Lyc
end
