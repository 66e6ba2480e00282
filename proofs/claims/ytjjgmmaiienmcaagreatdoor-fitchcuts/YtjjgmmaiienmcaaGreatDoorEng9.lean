/-
  An abstract executor of the program's code, and that it is sound, part 3. No conditions: definitions and laws.
-/
import Derived.Test.YtjjgmmaiienmcaaGreatDoorEng2
import Derived.Carry
import Derived.OpenShut
import Derived.ChangeSlices
set_option linter.all false
noncomputable section
namespace Go.Lyc
set_option maxHeartbeats 0
set_option maxRecDepth 100000
section
variable [Tok][TokOk]
open Go.RowKit
def Ev{α:Type}(f:Nat→Option (List α))(Q:α→Prop):Prop:=∃F0 l,l≠[]∧(∀F,F0≤F→f F=some l)∧∀x∈l,Q x
theorem Ev.one{α:Type}{f:Nat→Option (List α)}{Q:α→Prop}{x:α}(h:∀F,f F=some [x])(hq:Q x):Ev f Q:=⟨0,[x],by simp,fun F _=>h F,fun _ hy=>by rw[List.mem_singleton.1 hy];exact hq⟩
theorem Ev.mono{α:Type}{f:Nat→Option (List α)}{Q Q':α→Prop}(h:Ev f Q)(hq:∀x,Q x→Q' x):Ev f Q':=let⟨F0,l,h1,h2,h3⟩:=h;⟨F0,l,h1,h2,fun x hx=>hq x (h3 x hx)⟩
theorem Ev.congr{α:Type}{f g:Nat→Option (List α)}{Q:α→Prop}(h:Ev f Q)(e:∀F,g F=f F):Ev g Q:=let⟨F0,l,h1,h2,h3⟩:=h;⟨F0,l,h1,fun F hF=>(e F).trans (h2 F hF),h3⟩
theorem Ev.succ{α:Type}{f g:Nat→Option (List α)}{Q:α→Prop}(h:Ev f Q)(e:∀F,g (F+1)=f F):Ev g Q:=
 let⟨F0,l,h1,h2,h3⟩:=h
 ⟨F0+1,l,h1,fun F hF=>by obtain⟨k,rfl⟩:∃k,F=k+1:=⟨F-1,by omega⟩;exact(e k).trans (h2 k (by omega)),h3⟩
theorem flatO_cons2{α β:Type}(f:α→Option (List β))(x y:α)(t:List α):flatO f (x::y::t)=match f x with|none=>none|some a=>match flatO f (y::t) with|none=>none|some b=>some (a++b):=rfl
theorem Ev.flat{α β:Type}{g:α→Nat→Option (List β)}{Q:β→Prop}:∀(l:List α),l≠[]→(∀x∈l,Ev (g x) Q)→Ev (fun F=>flatO (fun x=>g x F) l) Q
 |[],h,_=>absurd rfl h
 |[x],_,h=>(h x (by simp)).congr fun F=>rfl
 |x::y::t,_,h=>by
  obtain⟨F1,l1,a1,b1,c1⟩:=h x (by simp)
  obtain⟨F2,l2,a2,b2,c2⟩:=Ev.flat (g:=g) (Q:=Q) (y::t) (by simp) (fun z hz=>h z (List.mem_cons_of_mem _ hz))
  refine⟨max F1 F2,l1++l2,by simp[a1],fun F hF=>?_,fun z hz=>?_⟩
  ·show flatO (fun x=>g x F) (x::y::t)=_
   have e2:flatO (fun x=>g x F) (y::t)=some l2:=b2 F (by omega)
   rw[flatO_cons2,b1 F (by omega),e2]
  ·rcases List.mem_append.1 hz with hz|hz
   ·exact c1 z hz
   ·exact c2 z hz
theorem Ev.then{α β:Type}{f:Nat→Option (List α)}{g:α→Nat→Option (List β)}{Q:α→Prop}{Q':β→Prop}(h:Ev f Q)(hg:∀x,Q x→Ev (g x) Q'):Ev (fun F=>thenO (f F) (fun x=>g x F)) Q':=by
 obtain⟨F0,l,h1,h2,h3⟩:=h
 obtain⟨F1,l',a,b,c⟩:=Ev.flat (g:=g) (Q:=Q') l h1 (fun x hx=>hg x (h3 x hx))
 exact⟨max F0 F1,l',a,fun F hF=>by show thenO (f F) _=_;rw[h2 F (by omega)];exact b F (by omega),c⟩
abbrev Post:=Ex→Fr→St→Prop
def Goes(env:Env)(floor:Nat)(wh:Option Nat)(c:ACode)(fr:Fr)(σ:St)(Q:Post):Prop:=Ev (fun F=>exec env F floor wh c fr σ) (fun o=>Q o.1 o.2.1 o.2.2)
def GoesOps(env:Env)(floor:Nat)(nd:Bool)(ops:List AOper)(fr:Fr)(σ:St)(Q:Post):Prop:=Ev (fun F=>runOps env floor (callV env (exec env F) floor) nd ops fr σ) (fun o=>Q o.1 o.2.1 o.2.2)
def GoesCall(env:Env)(floor:Nat)(fv:AV)(args:List AV)(σ:St)(Q:Ret→St→Prop):Prop:=Ev (fun F=>callV env (exec env F) floor fv args σ) (fun o=>Q o.1 o.2)
section
variable {env:Env}{floor:Nat}{wh:Option Nat}{fr:Fr}{σ:St}{Q:Post}
theorem Goes.mono{c:ACode}{Q':Post}(h:Goes env floor wh c fr σ Q)(hq:∀x fr σ,Q x fr σ→Q' x fr σ):Goes env floor wh c fr σ Q':=Ev.mono h fun _ ho=>hq _ _ _ ho
theorem Goes.skip(h:Q .normal fr σ):Goes env floor wh .skip fr σ Q:=(Ev.one (f:=fun F=>some [(Ex.normal,fr,σ)]) (Q:=fun o=>Q o.1 o.2.1 o.2.2) (fun _=>rfl) h).succ fun F=>by rw[exec_succ];rfl
theorem Goes.ret(h:Q .ret fr σ):Goes env floor wh .ret fr σ Q:=(Ev.one (f:=fun F=>some [(Ex.ret,fr,σ)]) (Q:=fun o=>Q o.1 o.2.1 o.2.2) (fun _=>rfl) h).succ fun F=>by rw[exec_succ];rfl
theorem Goes.exit{id:Nat}(h:Q (.exit id) fr σ):Goes env floor wh (.exit id) fr σ Q:=(Ev.one (f:=fun F=>some [(Ex.exit id,fr,σ)]) (Q:=fun o=>Q o.1 o.2.1 o.2.2) (fun _=>rfl) h).succ fun F=>by rw[exec_succ];rfl
theorem Goes.region{ops:List AOper}(h:GoesOps env floor wh.isNone ops fr σ Q):Goes env floor wh (.region ops) fr σ Q:=Ev.succ h fun F=>by rw[exec_succ];rfl
def thenP(env:Env)(floor:Nat)(wh:Option Nat)(b:ACode)(Q:Post):Post:=fun x fr σ=>match x with| .normal=>Goes env floor wh b fr σ Q|x=>Q x fr σ
theorem Goes.seq{a b:ACode}(h:Goes env floor wh a fr σ (thenP env floor wh b Q)):Goes env floor wh (.seq a b) fr σ Q:=by
 refine Ev.succ (Ev.then (g:=fun x F=>seqK (exec env F) floor wh b x) h fun o ho=>?_) fun F=>by rw[exec_succ];rfl
 obtain⟨x,fr',σ'⟩:=o
 cases x with
 |normal=>exact ho
 |exit i=>exact Ev.one (fun _=>rfl) ho
 |ret=>exact Ev.one (fun _=>rfl) ho
 |panic v=>exact Ev.one (fun _=>rfl) ho
def blockP(id:Nat)(Q:Post):Post:=fun x fr σ=>match x with| .exit j=>if j=id then Q .normal fr σ else Q (.exit j) fr σ|x=>Q x fr σ
theorem Goes.block{a:ACode}{id:Nat}(h:Goes env floor wh a fr σ (blockP id Q)):Goes env floor wh (.block id a) fr σ Q:=by
 refine Ev.succ (Ev.then (g:=fun x _=>blockK id x) h fun o ho=>?_) fun F=>by rw[exec_succ];rfl
 obtain⟨x,fr',σ'⟩:=o
 cases x with
 |normal=>exact Ev.one (fun _=>rfl) ho
 |exit i=>
  have ho:(if i=id then Q .normal fr' σ' else Q (.exit i) fr' σ'):=ho
  by_cases hi:i=id
  ·subst hi
   rw[if_pos rfl] at ho
   refine Ev.one (x:=(.normal,fr',σ')) (fun _=>?_) ho
   show cond (Nat.beq i i) _ _=_
   rw[Nat.beq_refl];rfl
  ·rw[if_neg hi] at ho
   refine Ev.one (x:=(.exit i,fr',σ')) (fun _=>?_) ho
   show cond (Nat.beq i id) _ _=_
   rw[show Nat.beq i id=false from by cases hb:Nat.beq i id with|false=>rfl|true=>exact absurd (Nat.eq_of_beq_eq_true hb) hi];rfl
 |ret=>exact Ev.one (fun _=>rfl) ho
 |panic v=>exact Ev.one (fun _=>rfl) ho
theorem Goes.cnd{o:AOpd}{a b:ACode}{t:Bool}(ho:evalA env fr.slots o=some (.b t))(ht:t=true→Goes env floor wh a fr σ Q)(hf:t=false→Goes env floor wh b fr σ Q):Goes env floor wh (.cond o a b) fr σ Q:=by
 cases t with
 |true=>
  refine Ev.succ (ht rfl) fun F=>?_
  rw[exec_succ]
  show(match evalA env fr.slots o with|some (.b t)=>exec env F floor wh (cond t a b) fr σ|_=>none)=_
  rw[ho];rfl
 |false=>
  refine Ev.succ (hf rfl) fun F=>?_
  rw[exec_succ]
  show(match evalA env fr.slots o with|some (.b t)=>exec env F floor wh (cond t a b) fr σ|_=>none)=_
  rw[ho];rfl
theorem Goes.loop{a:ACode}(I:Nat→Fr→St→Prop)(hI:∀m fr σ,I m fr σ→Goes env floor wh a fr σ (fun x fr' σ'=>match x with| .normal=>∃m',m'<m∧I m' fr' σ'|x=>Q x fr' σ')):∀m fr σ,I m fr σ→Goes env floor wh (.loop a) fr σ Q:=by
 intro m
 induction m using Nat.strongRecOn with
 |ind m ih=>
  intro fr σ h
  refine Ev.succ (Ev.then (g:=fun x F=>seqK (exec env F) floor wh (.loop a) x) (hI m fr σ h) fun o ho=>?_) fun F=>by rw[exec_succ];rfl
  obtain⟨x,fr',σ'⟩:=o
  cases x with
  |normal=>obtain⟨m',h1,h2⟩:=ho;exact ih m' h1 fr' σ' h2
  |exit i=>exact Ev.one (fun _=>rfl) ho
  |ret=>exact Ev.one (fun _=>rfl) ho
  |panic v=>exact Ev.one (fun _=>rfl) ho
theorem GoesOps.nil{nd:Bool}(h:Q .normal fr σ):GoesOps env floor nd [] fr σ Q:=Ev.one (fun _=>rfl) h
theorem GoesOps.val{nd:Bool}{o:AOper}{ops:List AOper}{v:AV}{σ':St}(hw:wantedA o.guard fr.slots=true)(ho:opx floor (evalA env fr.slots) σ o.op=some (.val v σ'))(h:GoesOps env floor nd ops (fr.put o.dst v) σ' Q):GoesOps env floor nd (o::ops) fr σ Q:=
 Ev.congr h fun F=>by rw[runOps_cons,hw,cond_true,ho]
theorem GoesOps.off{nd:Bool}{o:AOper}{ops:List AOper}(hw:wantedA o.guard fr.slots=false)(h:GoesOps env floor nd ops (fr.put o.dst undefA) σ Q):GoesOps env floor nd (o::ops) fr σ Q:=
 Ev.congr h fun F=>by rw[runOps_cons,hw,cond_false]
theorem GoesOps.call{nd:Bool}{o:AOper}{ops:List AOper}{fv:AV}{args:List AV}(hw:wantedA o.guard fr.slots=true)(ho:opx floor (evalA env fr.slots) σ o.op=some (.call fv args))
  (h:GoesCall env floor fv args σ (fun r σ'=>match r with| .ok v=>GoesOps env floor nd ops (fr.put o.dst v) σ' Q| .err v=>Q (.panic v) fr σ')):GoesOps env floor nd (o::ops) fr σ Q:=by
 refine Ev.congr (Ev.then (g:=fun(r:Ret×St) F=>(match r with
     |(.ok v,σ)=>runOps env floor (callV env (exec env F) floor) nd ops (fr.put o.dst v) σ
     |(.err v,σ)=>some [(.panic v,fr,σ)])) h fun r hr=>?_) fun F=>by rw[runOps_cons,hw,cond_true,ho]<;>rfl
 obtain⟨r,σ'⟩:=r
 cases r with
 |ok v=>exact hr
 |err v=>exact Ev.one (fun _=>rfl) hr
theorem GoesCall.spec{g:Nat}{first cap args ar:List AV}{r:AV}{Q:Ret→St→Prop}(he:env.ext g=0)(hp:env.pure g=true)(ha:mapO (snapshot σ env.fz) (first++args++cap)=some ar)(hs:env.spec g ar=some r)(h:Q (.ok r) σ):
  GoesCall env floor (.f (.func g) first cap) args σ Q:=by
 refine Ev.one (x:=(.ok r,σ)) (fun F=>?_) h
 show callF env (exec env F) floor g (first++args++cap) σ=_
 unfold callF
 rw[he]
 show cond (env.pure g) _ _=_
 rw[hp,cond_true,ha]
 show(match env.spec g ar with|some r=>_|none=>_)=_
 rw[hs]
def retP(env:Env)(floor:Nat)(fn:AFunc)(Q:Ret→St→Prop):Post:=fun x fr σ=>∃r σ',endF env floor fn (x,fr,σ)=some [(r,σ')]∧Q r σ'
theorem GoesCall.run{g:Nat}{first cap args:List AV}{fn:AFunc}{body:ACode}{Q:Ret→St→Prop}(he:env.ext g=0)(hp:env.pure g=false)(hf:env.funcs g=some fn)(hb:fn.body=some body)
  (hn:(Nat.beq (first++args++cap).length fn.nargs&&Nat.ble (first++args++cap).length fn.ntmps)=true) (h:Goes env floor none body (startFr fn (first++args++cap)) σ (retP env floor fn Q)):GoesCall env floor (.f (.func g) first cap) args σ Q:=by
 refine Ev.congr (Ev.then (g:=fun x _=>endF env floor fn x) h fun o ho=>?_) fun F=>?_
 ·obtain⟨r,σ',h1,h2⟩:=ho
  exact Ev.one (fun _=>h1) h2
 ·show callF env (exec env F) floor g (first++args++cap) σ=_
  unfold callF
  rw[he]
  show cond (env.pure g) _ _=_
  rw[hp,cond_false]
  unfold runF
  rw[hf]
  show(match fn.body with|none=>none|some body=>_)=_
  rw[hb]
  show cond _ _ _=_
  rw[hn,cond_true]
theorem mapO_cons'{α β:Type}(f:α→Option β)(x:α)(l:List α):mapO f (x::l)=match f x with|none=>none|some y=>match mapO f l with|none=>none|some ys=>some (y::ys):=rfl
theorem mapO_mono{f g:AV→Option AV}(h:∀x y,f x=some y→g x=some y):∀ {l r:List AV},mapO f l=some r→mapO g l=some r
 |[],r,e=>e
 |x::l,r,e=>by
  rw[mapO_cons'] at e ⊢
  cases hx:f x with
  |none=>rw[hx] at e;cases e
  |some y=>
   rw[hx] at e
   cases hl:mapO f l with
   |none=>rw[hl] at e;cases e
   |some ys=>rw[hl] at e;rw[h x y hx,mapO_mono h hl];exact e
theorem freeze_more{σ:St}{base:Nat}:∀(n:Nat) (v r:AV),freeze σ base n v=some r→freeze σ base (n+1) v=some r
 |0,_,_,h=>by cases h
 |n+1,v,r,h=>by
  have ih:=freeze_more (σ:=σ) (base:=base) n
  have ihl:∀ {l l':List AV},mapO (freeze σ base n) l=some l'→mapO (freeze σ base (n+1)) l=some l':=mapO_mono ih
  rw[freeze_succ] at h
  rw[freeze_succ]
  split at h
  ·split at h<;>try (cases h;done)
   rename_i hb
   rw[if_neg hb]
   split at h<;>try (cases h;done)
   rename_i xs hxs
   split at h<;>cases h
   rename_i ys hys
   simp only[hxs,ihl hys]
  ·split at h<;>cases h
   rename_i ys hys
   simp only[ihl hys]
  ·split at h<;>cases h
   rename_i ys hys
   simp only[ihl hys]
  ·split at h<;>cases h
   rename_i y hy
   simp only[ih _ _ hy]
  ·cases h
  ·cases h
  ·cases h
  ·exact h
theorem freeze_up{σ:St}{base n m:Nat}(hn:n≤m){v r:AV}(h:freeze σ base n v=some r):freeze σ base m v=some r:=by
 obtain⟨k,rfl⟩:∃k,m=n+k:=⟨m-n,by omega⟩
 induction k with
 |zero=>exact h
 |succ k ih=>exact freeze_more _ _ _ (ih (by omega))
theorem all2_mono{f g:AV→AV→Bool}(h:∀x y,f x y=true→g x y=true):∀ {l r:List AV},all2 f l r=true→all2 g l r=true
 |[],[],e=>e
 |[],_::_,e=>by cases e
 |_::_,[],e=>by cases e
 |x::l,y::r,e=>by
  have e:cond (f x y) (all2 f l r) false=true:=e
  show cond (g x y) (all2 g l r) false=true
  cases hx:f x y with
  |false=>rw[hx] at e;cases e
  |true=>rw[hx] at e;rw[h x y hx];exact all2_mono h e
theorem eqb_more:∀(n:Nat) (x y:AV),AV.eqb n x y=true→AV.eqb (n+1) x y=true
 |0,_,_,h=>by cases h
 |n+1,x,y,h=>by
  have ih:=eqb_more n
  have ihl:∀ {l r:List AV},all2 (AV.eqb n) l r=true→all2 (AV.eqb (n+1)) l r=true:=all2_mono ih
  have e:=AV.eqb_eq _ _ _ h
  subst e
  cases x
  case tl o sh xs=>
   have h:((o==o)&&decide (sh=sh)&&all2 (AV.eqb n) xs xs)=true:=h
   show((o==o)&&decide (sh=sh)&&all2 (AV.eqb (n+1)) xs xs)=true
   simp only[Bool.and_eq_true] at h ⊢
   exact⟨h.1,ihl h.2⟩
  case tp o v=>
   have h:((o==o)&&AV.eqb n v v)=true:=h
   show((o==o)&&AV.eqb (n+1) v v)=true
   simp only[Bool.and_eq_true] at h ⊢
   exact⟨h.1,ih _ _ h.2⟩
  case f fa a c=>
   have h:(decide (fa=fa)&&(all2 (AV.eqb n) a a&&all2 (AV.eqb n) c c))=true:=h
   show(decide (fa=fa)&&(all2 (AV.eqb (n+1)) a a&&all2 (AV.eqb (n+1)) c c))=true
   simp only[Bool.and_eq_true] at h ⊢
   exact⟨h.1,ihl h.2.1,ihl h.2.2⟩
  case it t v=>
   have h:(Nat.beq t t&&AV.eqb n v v)=true:=h
   show(Nat.beq t t&&AV.eqb (n+1) v v)=true
   simp only[Bool.and_eq_true] at h ⊢
   exact⟨h.1,ih _ _ h.2⟩
  case p a=>cases a<;>exact h
  case m a=>cases a<;>exact h
  case ag l=>exact ihl (l:=l) (r:=l) h
  case tu l=>exact ihl (l:=l) (r:=l) h
  all_goals exact h
theorem eqb_mono{n m:Nat}(hn:n≤m){x y:AV}(h:AV.eqb n x y=true):AV.eqb m x y=true:=by
 obtain⟨k,rfl⟩:∃k,m=n+k:=⟨m-n,by omega⟩
 induction k with
 |zero=>exact h
 |succ k ih=>exact eqb_more _ _ _ (ih (by omega))
theorem allB_of{α:Type}{p:α→Bool}:∀ {l:List α},(∀y∈l,p y=true)→allB p l=true
 |[],_=>rfl
 |y::t,h=>by
  show cond (p y) (allB p t) false=true
  rw[h y (by simp),cond_true]
  exact allB_of fun z hz=>h z (List.mem_cons_of_mem _ hz)
theorem spec_of_goes{P:Program}{m:Nat}(hm:m≤env.fz)(hfs:FuncsOk P env)(hsp:SpecAll P env)(hex:ExtOk P env)(hfo:P.follows .mixedOrders=true){g:Nat}{fn:AFunc}{body:ACode}{ar:List AV}{r:AV}(hf:env.funcs g=some fn)(hb:fn.body=some body)
  (hn:(Nat.beq ar.length fn.nargs&&Nat.ble ar.length fn.ntmps)=true) {fr:Nat} (hr:freshA fr r=true)
  (h:Goes env 0 none body (startFr fn ar) ⟨.nil,0⟩ (retP env 0 fn (fun v σ'=>∃v',v= .ok v'∧freeze σ' 0 m v'=some r))) (hrr:AV.eqb m r r=true) (B0:Nat):SpecEntry P env B0 g ar r:=by
 have h1:Ev (fun F=>thenO (exec env F 0 none body (startFr fn ar) ⟨.nil,0⟩) (endF env 0 fn)) (fun o=>∃v',o.1= .ok v'∧freeze o.2 0 m v'=some r):=
  Ev.then (g:=fun x _=>endF env 0 fn x) h fun o ho=>by
   obtain⟨v,σ',h1,h2⟩:=ho
   exact Ev.one (fun _=>h1) h2
 obtain⟨F0,l,hl,h2,h3⟩:=h1
 have hrun:runF env (exec env F0) 0 g ar ⟨.nil,0⟩=some l:=by
  unfold runF
  rw[hf]
  show(match fn.body with|none=>none|some body=>_)=_
  rw[hb]
  show cond _ _ _=_
  rw[hn,cond_true]
  exact h2 F0 (Nat.le_refl _)
 refine spec_of_run (fz:=env.fz) hfs hsp hex hfo hrun ?_ hr B0
 cases l with
 |nil=>exact absurd rfl hl
 |cons x t=>
  obtain⟨v,h4,h5⟩:=h3 x (by simp)
  obtain⟨x1,x2⟩:=x
  have h4:x1= .ok v:=h4
  replace h5:freeze x2 0 env.fz v=some r:=freeze_up hm h5
  subst h4
  show(match freeze x2 0 env.fz v with|none=>none|some v1=>cond (allB (sameF env.fz 0 v1) t) (some v1) none)=_
  rw[h5]
  have:allB (sameF env.fz 0 r) t=true:=by
   have h3':∀y∈t,sameF env.fz 0 r y=true:=fun y hy=>by
    obtain⟨w,h6,h7⟩:=h3 y (List.mem_cons_of_mem _ hy)
    obtain⟨y1,y2⟩:=y
    have h6:y1= .ok w:=h6
    replace h7:freeze y2 0 env.fz w=some r:=freeze_up hm h7
    subst h6
    show(match freeze y2 0 env.fz w with|some w1=>AV.eqb env.fz w1 r|none=>false)=true
    rw[h7];exact eqb_mono hm hrr
   exact allB_of h3'
  show cond (allB (sameF env.fz 0 r) t) (some r) none=_
  rw[this];rfl
end
def upd(f:Nat→AV)(d:Nat)(v:AV):Nat→AV:=fun i=>cond (Nat.beq i d) v (f i)
structure IsFr(D:List (Nat ⊕ (AV×List AV)))(n:Nat)(f:Nat→AV)(fr:Fr):Prop where
 get:∀i,fr.slots.get i=if i<n then some (f i) else none
 ds:fr.defers=D
 rc:fr.rcv=false
theorem IsFr.put{D:List (Nat ⊕ (AV×List AV))}{n d:Nat}{f:Nat→AV}{fr:Fr}(h:IsFr D n f fr)(v:AV)(hd:Nat.blt d n=true):IsFr D n (upd f d v) (fr.put (some d) v):=by
 have hd:d<n:=Nat.le_of_ble_eq_true hd
 refine⟨fun i=>?_,h.ds,h.rc⟩
 show(fr.slots.set d v).get i=_
 rw[Tr.get_set,h.get d,h.get i,if_pos hd]
 by_cases hi:i=d
 ·subst hi
  rw[if_pos rfl,if_pos hd]
  show some v=some (cond (Nat.beq i i) v (f i))
  rw[Nat.beq_refl];rfl
 ·rw[if_neg hi]
  have:upd f d v i=f i:=by
   show cond (Nat.beq i d) v (f i)=f i
   cases hb:Nat.beq i d with
   |false=>rfl
   |true=>exact absurd (Nat.eq_of_beq_eq_true hb) hi
  rw[this]
def evF(env:Env)(n:Nat)(f:Nat→AV):AOpd→Option AV
 | .t i=>cond (Nat.blt i n) (some (f i)) none
 | .c v=>some v
 | .g g=>match env.glob g with|some v=>some (.tp true v)|none=>none
theorem IsFr.ev{D:List (Nat ⊕ (AV×List AV))}{n:Nat}{f:Nat→AV}{fr:Fr}(h:IsFr D n f fr)(env:Env):evalA env fr.slots=evF env n f:=by
 funext x
 cases x with
 |t i=>
  show fr.slots.get i=cond (Nat.blt i n) (some (f i)) none
  rw[h.get]
  by_cases hi:i<n
  ·rw[if_pos hi,show Nat.blt i n=true from Nat.ble_eq_true_of_le hi];rfl
  ·rw[if_neg hi,show Nat.blt i n=false from by cases hb:Nat.blt i n with|false=>rfl|true=>exact absurd (Nat.le_of_ble_eq_true hb) hi];rfl
 |c v=>rfl
 |g g=>rfl
def wantedF(g:Option (Nat×Bool))(n:Nat)(f:Nat→AV):Bool:=
 match g with
 |none=>true
 |some (d,w)=>cond (Nat.blt d n) (match f d with| .b x=>x==w|_=>false) false
theorem IsFr.wanted{D:List (Nat ⊕ (AV×List AV))}{n:Nat}{f:Nat→AV}{fr:Fr}(h:IsFr D n f fr)(g:Option (Nat×Bool)):wantedA g fr.slots=wantedF g n f:=by
 cases g with
 |none=>rfl
 |some p=>
  obtain⟨d,w⟩:=p
  show(match fr.slots.get d with|some (.b x)=>x==w|_=>false)=cond (Nat.blt d n) _ false
  rw[h.get]
  by_cases hi:d<n
  ·rw[if_pos hi,show Nat.blt d n=true from Nat.ble_eq_true_of_le hi,cond_true];cases f d<;>rfl
  ·rw[if_neg hi,show Nat.blt d n=false from by cases hb:Nat.blt d n with|false=>rfl|true=>exact absurd (Nat.le_of_ble_eq_true hb) hi];rfl
abbrev PostF:=Ex→(Nat→AV)→St→Prop
def atF(D:List (Nat ⊕ (AV×List AV)))(n:Nat)(Q:PostF):Post:=fun x fr σ=>∃f,IsFr D n f fr∧Q x f σ
def GoW(env:Env)(wh:Option Nat)(D:List (Nat ⊕ (AV×List AV)))(n:Nat)(c:ACode)(f:Nat→AV)(σ:St)(Q:PostF):Prop:=∀fr,IsFr D n f fr→Goes env 0 wh c fr σ (atF D n Q)
def GoV(env:Env)(wh:Option Nat)(D:List (Nat ⊕ (AV×List AV)))(n:Nat)(ops:List AOper)(f:Nat→AV)(σ:St)(Q:PostF):Prop:=∀fr,IsFr D n f fr→GoesOps env 0 wh.isNone ops fr σ (atF D n Q)
abbrev GoF(env:Env):=GoW env none []
section
variable {env:Env}{wh:Option Nat}{D:List (Nat ⊕ (AV×List AV))}{n:Nat}{f:Nat→AV}{σ:St}{Q:PostF}
theorem GoW.mono{c:ACode}{Q':PostF}(h:GoW env wh D n c f σ Q)(hq:∀x f σ,Q x f σ→Q' x f σ):GoW env wh D n c f σ Q':=fun fr hfr=>(h fr hfr).mono fun _ _ _ ⟨f,h1,h2⟩=>⟨f,h1,hq _ _ _ h2⟩
theorem GoF.skip(h:Q .normal f σ):GoW env wh D n .skip f σ Q:=fun _ hfr=>Goes.skip ⟨f,hfr,h⟩
theorem GoF.ret(h:Q .ret f σ):GoW env wh D n .ret f σ Q:=fun _ hfr=>Goes.ret ⟨f,hfr,h⟩
theorem GoF.exit{id:Nat}(h:Q (.exit id) f σ):GoW env wh D n (.exit id) f σ Q:=fun _ hfr=>Goes.exit ⟨f,hfr,h⟩
theorem GoF.region{ops:List AOper}(h:GoV env wh D n ops f σ Q):GoW env wh D n (.region ops) f σ Q:=fun fr hfr=>Goes.region (h fr hfr)
theorem GoF.seq{a b:ACode}(h:GoW env wh D n a f σ (fun x f σ=>match x with| .normal=>GoW env wh D n b f σ Q|x=>Q x f σ)):GoW env wh D n (.seq a b) f σ Q:=fun fr hfr=>Goes.seq ((h fr hfr).mono fun x fr σ ⟨f,h1,h2⟩=>by
 cases x with
 |normal=>exact h2 fr h1
 |exit i=>exact⟨f,h1,h2⟩
 |ret=>exact⟨f,h1,h2⟩
 |panic v=>exact⟨f,h1,h2⟩)
theorem GoF.block{a:ACode}{id:Nat}(h:GoW env wh D n a f σ (fun x f σ=>match x with| .exit j=>cond (Nat.beq j id) (Q .normal f σ) (Q (.exit j) f σ)|x=>Q x f σ)):GoW env wh D n (.block id a) f σ Q:=fun fr hfr=>Goes.block ((h fr hfr).mono fun x fr σ ⟨f,h1,h2⟩=>by
 cases x with
 |normal=>exact⟨f,h1,h2⟩
 |exit i=>
  have h2:cond (Nat.beq i id) (Q .normal f σ) (Q (.exit i) f σ):=h2
  show if i=id then atF D n Q .normal fr σ else atF D n Q (.exit i) fr σ
  cases hb:Nat.beq i id with
  |false=>rw[if_neg (fun h=>by rw[h,Nat.beq_refl] at hb;cases hb)];rw[hb] at h2;exact⟨f,h1,h2⟩
  |true=>rw[if_pos (Nat.eq_of_beq_eq_true hb)];rw[hb] at h2;exact⟨f,h1,h2⟩
 |ret=>exact⟨f,h1,h2⟩
 |panic v=>exact⟨f,h1,h2⟩)
theorem GoF.cnd{o:AOpd}{a b:ACode}{t:Bool}(ho:evF env n f o=some (.b t))(ht:t=true→GoW env wh D n a f σ Q)(hf:t=false→GoW env wh D n b f σ Q):GoW env wh D n (.cond o a b) f σ Q:=fun fr hfr=>
 Goes.cnd (by rw[hfr.ev];exact ho) (fun h=>ht h fr hfr) (fun h=>hf h fr hfr)
theorem GoF.loop{a:ACode}(I:Nat→(Nat→AV)→St→Prop)(hI:∀m f σ,I m f σ→GoW env wh D n a f σ (fun x f' σ'=>match x with| .normal=>∃m',m'<m∧I m' f' σ'|x=>Q x f' σ'))(m:Nat)(h:I m f σ):GoW env wh D n (.loop a) f σ Q:=fun fr hfr=>
 Goes.loop (Q:=atF D n Q) (fun m fr σ=>∃f,IsFr D n f fr∧I m f σ) (fun m fr σ ⟨f,h1,h2⟩=>(hI m f σ h2 fr h1).mono fun x fr' σ' ⟨f',h3,h4⟩=>by
  cases x with
  |normal=>obtain⟨m',h5,h6⟩:=h4;exact⟨m',h5,f',h3,h6⟩
  |exit i=>exact⟨f',h3,h4⟩
  |ret=>exact⟨f',h3,h4⟩
  |panic v=>exact⟨f',h3,h4⟩) m fr σ ⟨f,hfr,h⟩
theorem GoO.nil(h:Q .normal f σ):GoV env wh D n [] f σ Q:=fun _ hfr=>GoesOps.nil ⟨f,hfr,h⟩
theorem GoO.val{d:Nat}{op:AOp}{g:Option (Nat×Bool)}{wn:List Nat}{ops:List AOper}{v:AV}{σ':St}(hd:Nat.blt d n=true)(hw:wantedF g n f=true)(ho:opx 0 (evF env n f) σ op=some (.val v σ'))(h:GoV env wh D n ops (upd f d v) σ' Q):
  GoV env wh D n (⟨some d,op,g,wn⟩::ops) f σ Q:=fun fr hfr=>GoesOps.val (by rw[hfr.wanted];exact hw) (by rw[hfr.ev];exact ho) (h _ (hfr.put v hd))
theorem GoO.eff{op:AOp}{g:Option (Nat×Bool)}{wn:List Nat}{ops:List AOper}{v:AV}{σ':St}(hw:wantedF g n f=true)(ho:opx 0 (evF env n f) σ op=some (.val v σ'))(h:GoV env wh D n ops f σ' Q):
  GoV env wh D n (⟨none,op,g,wn⟩::ops) f σ Q:=fun fr hfr=>GoesOps.val (by rw[hfr.wanted];exact hw) (by rw[hfr.ev];exact ho) (h _ hfr)
theorem GoO.off{d:Nat}{op:AOp}{g:Option (Nat×Bool)}{wn:List Nat}{ops:List AOper}(hd:Nat.blt d n=true)(hw:wantedF g n f=false)(h:GoV env wh D n ops (upd f d undefA) σ Q):
  GoV env wh D n (⟨some d,op,g,wn⟩::ops) f σ Q:=fun fr hfr=>GoesOps.off (by rw[hfr.wanted];exact hw) (h _ (hfr.put _ hd))
theorem GoO.spec{d:Nat}{op:AOp}{g:Option (Nat×Bool)}{wn:List Nat}{ops:List AOper}{fn:Nat}{args ar:List AV}{r:AV}(hd:Nat.blt d n=true)(hw:wantedF g n f=true)(ho:opx 0 (evF env n f) σ op=some (.call (.f (.func fn) [] []) args))
  (he:env.ext fn=0) (hp:env.pure fn=true) (ha:mapO (snapshot σ env.fz) args=some ar) (hs:env.spec fn ar=some r) (h:GoV env wh D n ops (upd f d r) σ Q):GoV env wh D n (⟨some d,op,g,wn⟩::ops) f σ Q:=fun fr hfr=>
 GoesOps.call (by rw[hfr.wanted];exact hw) (by rw[hfr.ev];exact ho) (GoesCall.spec he hp (by simpa using ha) hs (h _ (hfr.put r hd)))
end
def sat:List (Nat×AV)→(Nat→AV)→Prop
 |[],_=>True
 |(i,v)::L,f=>f i=v∧sat L f
def upds:List (Nat×AV)→(Nat→AV)→Nat→AV
 |[],f=>f
 |(i,v)::L,f=>upd (upds L f) i v
theorem upd_self{f:Nat→AV}{i:Nat}{v:AV}(h:f i=v):upd f i v=f:=by
 funext j
 show cond (Nat.beq j i) v (f j)=f j
 cases hb:Nat.beq j i with
 |false=>rfl
 |true=>rw[Nat.eq_of_beq_eq_true hb,h];rfl
theorem upds_of:∀ {L:List (Nat×AV)} {f:Nat→AV},sat L f→upds L f=f
 |[],_,_=>rfl
 |(i,v)::L,f,⟨h1,h2⟩=>by
  show upd (upds L f) i v=f
  rw[upds_of h2,upd_self h1]
theorem GoF.norm{env:Env}{wh:Option Nat}{D:List (Nat ⊕ (AV×List AV))}{n:Nat}{c:ACode}{f:Nat→AV}{σ:St}{Q:PostF}(L:List (Nat×AV))(hs:sat L f)(h:∀g,GoW env wh D n c (upds L g) σ Q):GoW env wh D n c f σ Q:=by
 rw[←upds_of hs];exact h f
section
variable {floor:Nat}{ev:AOpd→Option AV}{σ:St}
theorem op_load{sh:Option Nat}{a:AOpd}(p v:AV)(h1:ev a=some p)(h2:loadA σ sh p=some v):opx floor ev σ (.load sh a)=some (.val v σ):=by
 show(match ev a with|some p=>(match loadA σ sh p with|some v=>some (OpR.val v σ)|none=>none)|none=>none)=_
 rw[h1]
 show(match loadA σ sh p with|some v=>some (OpR.val v σ)|none=>none)=_
 rw[h2]
theorem loadA_p{sh:Option Nat}{id off:Nat}{c:List AV}{v:AV}(h1:σ.get id=some (.cells c))(h2:takeSh sh (c.drop off)=some v):loadA σ sh (.p (some (id,off)))=some v:=by
 show(match σ.get id with|some (.cells c)=>takeSh sh (c.drop off)|_=>none)=_
 rw[h1];exact h2
theorem op_idxSl{sh:Option Nat}{x i:AOpd}(k:IntKind)(a:AV)(j:Nat)(v:AV)(h1:ev x=some a)(h2:ev i=some (.i k (Int.ofNat j)))(h3:idxSlA sh a j=some v):opx floor ev σ (.idxSl sh x i)=some (.val v σ):=by
 show(match ev x,ev i with|some x,some j=>(match natOf j with|some j=>(match idxSlA sh x j with|some v=>some (OpR.val v σ)|none=>none)|none=>none)|_,_=>none)=_
 rw[h1,h2]
 show(match idxSlA sh a j with|some v=>some (OpR.val v σ)|none=>none)=_
 rw[h3]
theorem idxSlA_tl{o:Bool}{sh:Option Nat}{xs:List AV}{j:Nat}{v:AV}(h:nth xs j=some v):idxSlA sh (.tl o sh xs) j=some (.tp o v):=by
 show(if sh=sh then(match nth xs j with|some v=>some (AV.tp o v)|none=>none) else none)=_
 rw[if_pos rfl,h]
theorem op_bin{op:BinOp}{x y:AOpd}(a b v:AV)(h1:ev x=some a)(h2:ev y=some b)(h3:binop op a b=some v):opx floor ev σ (.bin op x y)=some (.val v σ):=by
 show(match ev x,ev y with|some a,some b=>(match binop op a b with|some v=>some (OpR.val v σ)|none=>none)|_,_=>none)=_
 rw[h1,h2]
 show(match binop op a b with|some v=>some (OpR.val v σ)|none=>none)=_
 rw[h3]
end
abbrev nI(n:Nat):AV:=.i .i64 (Int.ofNat n)
theorem get_lay{α:Type}:∀(l:List α) (k:Nat) (t:Tr α) (i:Nat),(Tr.lay l k t).get i=if k≤i then(match l[i-k]? with|some x=>(t.get i).map (fun _=>x)|none=>t.get i) else t.get i
 |[],k,t,i=>by
  show t.get i=_
  split<;>simp
 |x::l,k,t,i=>by
  show(Tr.lay l (k+1) (t.set k x)).get i=_
  rw[get_lay l (k+1) (t.set k x) i,Tr.get_set]
  by_cases h1:k+1≤i
  ·have h2:k≤i:=by omega
   have h3:i≠k:=by omega
   have h4:(x::l)[i-k]? =l[i-(k+1)]? :=by
    rw[show i-k=(i-(k+1))+1 from by omega];rfl
   rw[if_pos h1,if_pos h2,if_neg h3,h4]
  ·rw[if_neg h1]
   by_cases h2:i=k
   ·subst h2
    rw[if_pos rfl,if_pos (Nat.le_refl _),Nat.sub_self];rfl
   ·rw[if_neg h2,if_neg (by omega)]
def argF(args:List AV):Nat→AV:=fun i=>args.getD i undefA
theorem isFr_start{fn:AFunc}{args:List AV}(h:args.length≤fn.ntmps):IsFr [] fn.ntmps (argF args) (startFr fn args):=by
 refine⟨fun i=>?_,rfl,rfl⟩
 show(Tr.lay args 0 (Tr.full fn.ntmps undefA fn.ntmps)).get i=_
 rw[get_lay,if_pos (Nat.zero_le _),Nat.sub_zero]
 by_cases hi:i<fn.ntmps
 ·rw[if_pos hi,Tr.get_full_in _ _ _ _ hi (Nat.le_refl _)]
  show _=some (args.getD i undefA)
  rw[List.getD_eq_getElem?_getD]
  cases args[i]? <;>rfl
 ·rw[if_neg hi,List.getElem?_eq_none (by omega)]
  cases hg:(Tr.full fn.ntmps undefA fn.ntmps).get i with
  |none=>rfl
  |some y=>exact absurd (Tr.get_full _ _ _ _ _ hg).2 hi
theorem endF_one{env:Env}{floor:Nat}{fn:AFunc}{n d:Nat}{f:Nat→AV}{fr:Fr}{σ:St}(h1:IsFr [] n f fr)(hres:fn.results=[(d,none)])(hd:Nat.blt d n=true):endF env floor fn (.ret,fr,σ)=some [(.ok (f d),σ)]:=by
 show(match leave floor (callD env floor) fr.defers none σ with
  |none=>none
  |some (some v,σ)=>some [(Ret.err v,σ)]
  |some (none,σ)=>match resultsOf σ fr.slots fn.results with
   |some v=>some [(.ok v,σ)]
   |none=>none)=_
 rw[h1.ds]
 show(match resultsOf σ fr.slots fn.results with|some v=>some [(Ret.ok v,σ)]|none=>none)=_
 rw[hres]
 have hg:=h1.get d
 have hdn:d<n:=Nat.le_of_ble_eq_true hd
 rw[if_pos hdn] at hg
 have:resultsOf σ fr.slots [(d,none)]=some (f d):=by
  unfold resultsOf
  have e1:resultOf σ fr.slots (d,none)=some (f d):=by
   unfold resultOf
   rw[hg]
  have e:mapO (resultOf σ fr.slots) [(d,none)]=some [f d]:=by
   unfold mapO
   simp only[e1]
  rw[e]
 rw[this]
theorem entry_of_goes{P:Program}{env:Env}{m:Nat}(hm:m≤env.fz)(hfs:FuncsOk P env)(hsp:SpecAll P env)(hex:ExtOk P env)(hfo:P.follows .mixedOrders=true){g:Nat}{fn:AFunc}{body:ACode}{ar:List AV}{d:Nat}(r:AV)(hf:env.funcs g=some fn)(hb:fn.body=some body)
  (hn:(Nat.beq ar.length fn.nargs&&Nat.ble ar.length fn.ntmps)=true) (hres:fn.results=[(d,none)]) (hd:Nat.blt d fn.ntmps=true) {fr:Nat} (hr:freshA fr r=true) (hrr:AV.eqb m r r=true)
  (h:GoF env fn.ntmps body (argF ar) ⟨.nil,0⟩ (fun x f σ'=>x= .ret∧freeze σ' 0 m (f d)=some r)) (B0:Nat):SpecEntry P env B0 g ar r:=by
 have hle:ar.length≤fn.ntmps:=by
  simp only[Bool.and_eq_true] at hn
  exact Nat.le_of_ble_eq_true hn.2
 refine spec_of_goes hm hfs hsp hex hfo hf hb hn hr ((h _ (isFr_start hle)).mono fun x fr σ' ⟨f,h1,h2,h3⟩=>?_) hrr B0
 subst h2
 exact⟨.ok (f d),σ',endF_one h1 hres hd,_,rfl,h3⟩
open Classical in
def specOf(K:Nat→List AV→AV→Prop):Nat→List AV→Option AV:=fun g ar=>if h:∃r,K g ar r then some (Classical.choose h) else none
theorem specOf_some{K:Nat→List AV→AV→Prop}(hf:∀g ar r r',K g ar r→K g ar r'→r=r'){g:Nat}{ar:List AV}{r:AV}(h:K g ar r):specOf K g ar=some r:=by
 have hex:∃r,K g ar r:=⟨r,h⟩
 unfold specOf
 rw[dif_pos hex]
 exact congrArg some (hf g ar _ _ (Classical.choose_spec hex) h)
theorem specOf_mem{K:Nat→List AV→AV→Prop}{g:Nat}{ar:List AV}{r:AV}(h:specOf K g ar=some r):K g ar r:=by
 unfold specOf at h
 split at h
 ·rename_i hex
  cases h
  exact Classical.choose_spec hex
 ·cases h
def Base.envK(b:Base)(K:Nat→List AV→AV→Prop):Env:={funcs:=b.funcs.get,glob:=b.glob,pure:=b.pure,spec:=specOf K,fz:=b.fz+1000,ext:=b.ext}
def KOk(P:Program)(b:Base)(K:Nat→List AV→AV→Prop):Prop:=∀g ar r,K g ar r→∀B0,SpecEntry P (b.env []) B0 g ar r
theorem entryK{P:Program}{b:Base}{K:Nat→List AV→AV→Prop}(hb:BaseOk P b)(hK:KOk P b K){g:Nat}{fn:AFunc}{body:ACode}{ar:List AV}{d:Nat}(r:AV)(hf:b.funcs.get g=some fn)(hbd:fn.body=some body)
  (hn:(Nat.beq ar.length fn.nargs&&Nat.ble ar.length fn.ntmps)=true) (hres:fn.results=[(d,none)]) (hd:Nat.blt d fn.ntmps=true) {fr:Nat} (hr:freshA fr r=true) (hrr:AV.eqb 1000 r r=true)
  (h:GoF (b.envK K) fn.ntmps body (argF ar) ⟨.nil,0⟩ (fun x f σ'=>x= .ret∧freeze σ' 0 1000 (f d)=some r)) (B0:Nat):SpecEntry P (b.env []) B0 g ar r:=
 entry_of_goes (env:=b.envK K) (m:=1000) (Nat.le_add_left _ _) ⟨fun g af hg=>FT.get_all hb.funcs g af hg⟩ (fun B0 g ar r hs=>hK g ar r (specOf_mem hs) B0) hb.ext hb.orders r hf hbd hn hres hd hr hrr h B0
section
variable {env:Env}{wh:Option Nat}{D:List (Nat ⊕ (AV×List AV))}{n:Nat}{f:Nat→AV}{σ:St}{Q:(Nat→AV)→Prop}
def swapT(ops:List AOper):Bool:=match ops.reverse with|y::_=>(match y.win with|[]=>true|_::_=>false)|[]=>true
theorem swapOk_of{env:Env}{sl:Tr AV}{ops:List AOper}(h:swapT ops=true):swapOk env sl ops=true:=by
 unfold swapT at h
 unfold swapOk
 cases hr:ops.reverse with
 |nil=>rfl
 |cons y t=>
  rw[hr] at h
  cases t with
  |nil=>rfl
  |cons x t=>
   cases hw:y.win with
   |nil=>simp only[hw]
   |cons a l=>simp only[hw] at h;cases h
theorem allB_mem{α:Type}{p:α→Bool}{l:List α}(h:allB p l=true):∀x∈l,p x=true:=fun x hx=>allB_all h x hx
end
def Snp(n:Nat)(v:AV):Prop:=∀σ,snapshot σ n v=some v
theorem mapO_id{f:AV→Option AV}:∀ {l:List AV},(∀x∈l,f x=some x)→mapO f l=some l
 |[],_=>rfl
 |x::l,h=>by rw[mapO_cons',h x (by simp),mapO_id fun y hy=>h y (List.mem_cons_of_mem _ hy)]
theorem mapO_map{α:Type}{f:AV→Option AV}{g h:α→AV}:∀ {l:List α},(∀x∈l,f (g x)=some (h x))→mapO f (l.map g)=some (l.map h)
 |[],_=>rfl
 |x::l,hx=>by rw[List.map_cons,mapO_cons',hx x (by simp),mapO_map fun y hy=>hx y (List.mem_cons_of_mem _ hy)];rfl
theorem all2_refl{α:Type}{f:α→α→Bool}:∀ {l:List α},(∀x∈l,f x x=true)→all2 f l l=true
 |[],_=>rfl
 |x::l,h=>by
  show cond (f x x) (all2 f l l) false=true
  rw[h x (by simp),cond_true]
  exact all2_refl fun y hy=>h y (List.mem_cons_of_mem _ hy)
theorem eqL_refl:∀l,eqL l l=true
 |[]=>rfl
 |x::l=>by
  show cond (Nat.beq x x) (eqL l l) false=true
  rw[Nat.beq_refl,cond_true,eqL_refl l]
theorem Snp.eqb:∀(n:Nat) (v:AV),Snp n v→AV.eqb n v v=true
 |0,v,h=>by have:=h ⟨.nil,0⟩;cases this
 |n+1,v,h=>by
  have ih:=Snp.eqb n
  cases v with
  |b x=>show(x==x)=true;simp
  |i k x=>show(decide (k=k)&&decide (x=x))=true;simp
  |s l=>exact eqL_refl l
  |p a=>cases a with
   |none=>rfl
   |some a=>have:=h ⟨.nil,0⟩;cases this
  |tp o v=>have:=h ⟨.nil,0⟩;cases this
  |sl a b c d e=>
   have hs:=h ⟨.nil,0⟩
   have:snapshot ⟨.nil,0⟩ (n+1) (.sl a b c d e)=(match readList ⟨.nil,0⟩ (.sl a b c d e) with|none=>none|some xs=>match mapO (snapshot ⟨.nil,0⟩ n) xs with|none=>none|some xs=>some (AV.tl true d xs)):=rfl
   rw[this] at hs
   split at hs
   ·cases hs
   ·split at hs<;>cases hs
  |nilsl=>rfl
  |tl o sh xs=>
   have hs:=h ⟨.nil,0⟩
   have e:snapshot ⟨.nil,0⟩ (n+1) (.tl o sh xs)=(match mapO (snapshot ⟨.nil,0⟩ n) xs with|none=>none|some xs=>some (AV.tl true sh xs)):=rfl
   show((o==o)&&decide (sh=sh)&&all2 (AV.eqb n) xs xs)=true
   have hx:∀σ,mapO (snapshot σ n) xs=some xs:=fun σ=>by
    have hs:=h σ
    have e:snapshot σ (n+1) (.tl o sh xs)=(match mapO (snapshot σ n) xs with|none=>none|some xs=>some (AV.tl true sh xs)):=rfl
    rw[e] at hs
    cases hm:mapO (snapshot σ n) xs with
    |none=>rw[hm] at hs;cases hs
    |some ys=>rw[hm] at hs;simp only[Option.some.injEq,AV.tl.injEq] at hs;rw[hs.2.2]
   have hall:all2 (AV.eqb n) xs xs=true:=all2_refl fun x hx'=>ih x fun σ=>by
    have:=hx σ
    exact mapO_self this x hx'
   simp[hall]
  |m r=>cases r with
   |none=>rfl
   |some r=>have:=h ⟨.nil,0⟩;cases this
  |f a b c=>have:=h ⟨.nil,0⟩;cases this
  |nf=>rfl
  |it t v=>
   show(Nat.beq t t&&AV.eqb n v v)=true
   rw[Nat.beq_refl,Bool.true_and]
   refine ih v fun σ=>?_
   have hs:=h σ
   have e:snapshot σ (n+1) (.it t v)=(match snapshot σ n v with|none=>none|some v=>some (AV.it t v)):=rfl
   rw[e] at hs
   cases hm:snapshot σ n v with
   |none=>rw[hm] at hs;cases hs
   |some y=>rw[hm] at hs;simp only[Option.some.injEq,AV.it.injEq,true_and] at hs;rw[hs]
  |ni=>rfl
  |ag l=>
   show all2 (AV.eqb n) l l=true
   refine all2_refl fun x hx'=>ih x fun σ=>?_
   have hs:=h σ
   have e:snapshot σ (n+1) (.ag l)=(match mapO (snapshot σ n) l with|none=>none|some l=>some (AV.ag l)):=rfl
   rw[e] at hs
   cases hm:mapO (snapshot σ n) l with
   |none=>rw[hm] at hs;cases hs
   |some ys=>rw[hm] at hs;simp only[Option.some.injEq,AV.ag.injEq] at hs;subst hs;exact mapO_self hm x hx'
  |tu l=>
   show all2 (AV.eqb n) l l=true
   refine all2_refl fun x hx'=>ih x fun σ=>?_
   have hs:=h σ
   have e:snapshot σ (n+1) (.tu l)=(match mapO (snapshot σ n) l with|none=>none|some l=>some (AV.tu l)):=rfl
   rw[e] at hs
   cases hm:mapO (snapshot σ n) l with
   |none=>rw[hm] at hs;cases hs
   |some ys=>rw[hm] at hs;simp only[Option.some.injEq,AV.tu.injEq] at hs;subst hs;exact mapO_self hm x hx'
  |um k d j=>show(decide (k=k)&&(Nat.beq d d&&Nat.beq j j))=true;simp
  |sx l=>exact all2_refl fun x _=>eqL_refl x
  |iu hi=>show(hi==hi)=true;simp
  |y i=>exact Nat.beq_refl i
  |yt o i=>show((o==o)&&Nat.beq i i)=true;simp
where
 mapO_self {f:AV→Option AV}:∀ {l:List AV},mapO f l=some l→∀x∈l,f x=some x:=fun {l}=>by
  induction l with
  |nil=>intro _ x hx;simp at hx
  |cons a l ihl=>
   intro h x hx
   rw[mapO_cons'] at h
   cases ha:f a with
   |none=>rw[ha] at h;cases h
   |some y=>
    rw[ha] at h
    cases hl:mapO f l with
    |none=>simp only[hl] at h;cases h
    |some ys=>
     simp only[hl,Option.some.injEq,List.cons.injEq] at h
     obtain⟨h1,h2⟩:=h
     subst h1;subst h2
     rcases List.mem_cons.1 hx with rfl|hx
     ·exact ha
     ·exact ihl hl x hx
theorem dec_ofNat{a b:Nat}:decide (Int.ofNat a=Int.ofNat b)=decide (a=b):=decide_eq_decide.2 ⟨Int.ofNat.inj,fun h=>by rw[h]⟩
theorem bin_eqk{k:IntKind}{a b:Nat}:binop .eql (.i k (Int.ofNat a)) (.i k (Int.ofNat b))=some (.b (decide (a=b))):=by
 rw[←dec_ofNat]
 show(if k=k then binI .eql k (Int.ofNat a) (Int.ofNat b) else none)=_
 rw[if_pos rfl];rfl
theorem bin_neqk{k:IntKind}{a b:Nat}:binop .neq (.i k (Int.ofNat a)) (.i k (Int.ofNat b))=some (.b (!decide (a=b))):=by
 rw[←dec_ofNat]
 show(if k=k then binI .neq k (Int.ofNat a) (Int.ofNat b) else none)=_
 rw[if_pos rfl];rfl
def cmpO(op:BinOp)(a b:Nat):Option AV:=
 match op with
 | .eql=>some (.b (decide (a=b)))
 | .neq=>some (.b (!decide (a=b)))
 | .lss=>some (.b (decide (a<b)))
 | .leq=>some (.b (decide (a≤b)))
 | .gtr=>some (.b (decide (b<a)))
 | .geq=>some (.b (decide (b≤a)))
 |_=>none
theorem bin_cmp{op:BinOp}{k:IntKind}{a b:Nat}{v:AV}(h:cmpO op a b=some v):binop op (.i k (Int.ofNat a)) (.i k (Int.ofNat b))=some v:=by
 cases op with
 |eql=>rw[bin_eqk];exact h
 |neq=>rw[bin_neqk];exact h
 |lss=>
  rw[←h]
  show(if k=k then binI .lss k (Int.ofNat a) (Int.ofNat b) else none)=_
  rw[if_pos rfl]
  show some (AV.b (decide ((Int.ofNat a)<Int.ofNat b)))=some (.b (decide (a<b)))
  congr 2;simp
 |leq=>
  rw[←h]
  show(if k=k then binI .leq k (Int.ofNat a) (Int.ofNat b) else none)=_
  rw[if_pos rfl]
  show some (AV.b (decide ((Int.ofNat a)≤Int.ofNat b)))=some (.b (decide (a≤b)))
  congr 2;simp
 |gtr=>
  rw[←h]
  show(if k=k then binI .gtr k (Int.ofNat a) (Int.ofNat b) else none)=_
  rw[if_pos rfl]
  show some (AV.b (decide ((Int.ofNat b)<Int.ofNat a)))=some (.b (decide (b<a)))
  congr 2;simp
 |geq=>
  rw[←h]
  show(if k=k then binI .geq k (Int.ofNat a) (Int.ofNat b) else none)=_
  rw[if_pos rfl]
  show some (AV.b (decide ((Int.ofNat b)≤Int.ofNat a)))=some (.b (decide (b≤a)))
  congr 2;simp
 |_=>cases h
theorem wrapN_nat{n:Nat}(h:n<2^63):wrapN .i64 (Int.ofNat n)=Int.ofNat n:=by
 show cond (Nat.blt n 9223372036854775808) (Int.ofNat n) _=_
 rw[show Nat.blt n 9223372036854775808=true from Nat.ble_eq_true_of_le (by omega)];rfl
theorem bin_add{a b:Nat}(h:a+b<2^63):binop .add (nI a) (nI b)=some (nI (a+b)):=by
 show some (AV.i .i64 (wrapN .i64 (Int.ofNat (a+b))))=_
 rw[wrapN_nat h]
theorem bin_sub{a b:Nat}(hb:b≤a)(h:a<2^63):binop .sub (nI a) (nI b)=some (nI (a-b)):=by
 show some (AV.i .i64 (wrapN .i64 (Int.ofNat a-Int.ofNat b)))=_
 have:Int.ofNat a-Int.ofNat b=Int.ofNat (a-b):=by simp only[Int.ofNat_eq_natCast];omega
 rw[this,wrapN_nat (by omega)]
def plainOp:AOp→Bool
 | .bin _ _ _=>false
 | .conv _ _=>false
 | .append _ _ _ _=>false
 | .buildSlice _ _ _ _=>false
 | .neg _=>false
 |_=>true
section
variable {env:Env}{wh:Option Nat}{D:List (Nat ⊕ (AV×List AV))}{n:Nat}{f:Nat→AV}{σ:St}{Q:PostF}
theorem GoO.go{d:Nat}{op:AOp}{g:Option (Nat×Bool)}{wn:List Nat}{ops:List AOper}{v:AV}{σ':St}(_hb:plainOp op=true)(hd:Nat.blt d n=true)(hw:wantedF g n f=true)(ho:opx 0 (evF env n f) σ op=some (.val v σ'))(h:GoV env wh D n ops (upd f d v) σ' Q):
  GoV env wh D n (⟨some d,op,g,wn⟩::ops) f σ Q:=GoO.val hd hw ho h
theorem GoO.bin{d:Nat}{op:BinOp}{x y:AOpd}{g:Option (Nat×Bool)}{wn:List Nat}{ops:List AOper}{a b v:AV}(hd:Nat.blt d n=true)(hw:wantedF g n f=true)(h1:evF env n f x=some a)(h2:evF env n f y=some b)(h3:binop op a b=some v)
  (h:GoV env wh D n ops (upd f d v) σ Q):GoV env wh D n (⟨some d,.bin op x y,g,wn⟩::ops) f σ Q:=GoO.val hd hw (op_bin a b v h1 h2 h3) h
theorem GoO.cmp{d:Nat}{op:BinOp}{x y:AOpd}{g:Option (Nat×Bool)}{wn:List Nat}{ops:List AOper}{k:IntKind}{a b:Nat}{v:AV}(hd:Nat.blt d n=true)(hw:wantedF g n f=true)(h1:evF env n f x=some (.i k (Int.ofNat a)))(h2:evF env n f y=some (.i k (Int.ofNat b)))(h3:cmpO op a b=some v)
  (h:GoV env wh D n ops (upd f d v) σ Q):GoV env wh D n (⟨some d,.bin op x y,g,wn⟩::ops) f σ Q:=GoO.val hd hw (op_bin _ _ v h1 h2 (bin_cmp h3)) h
theorem op_len{ev:AOpd→Option AV}{k:Nat}{x:AOpd}{v:AV}{m:Nat}(h1:ev x=some v)(h2:lenA σ k v=some m):opx 0 ev σ (.len k x)=some (.val (nI m) σ):=by
 show(match ev x with|some x=>(match lenA σ k x with|some n=>some (OpR.val (nI n) σ)|none=>lenU σ k x)|none=>none)=_
 rw[h1]
 show(match lenA σ k v with|some n=>some (OpR.val (nI n) σ)|none=>lenU σ k v)=_
 rw[h2]
theorem GoF.cut{a b:ACode}(L:List (Nat×AV))(h1:GoW env wh D n a f σ (fun x f' σ'=>x= .normal∧σ'=σ∧sat L f'))(h2:∀g,GoW env wh D n b (upds L g) σ Q):GoW env wh D n (.seq a b) f σ Q:=GoF.seq (h1.mono fun x f' σ' ⟨e1,e2,e3⟩=>by
 subst e1;subst e2
 show GoW env wh D n b f' σ' Q
 exact GoF.norm L e3 h2)
theorem GoF.cutR{a b:ACode}(L:List (Nat×AV)){E:PostF}{M:Prop}(h1:GoW env wh D n a f σ (fun x f' σ'=>(x= .normal∧σ'=σ∧sat L f'∧M)∨E x f' σ'))(h3:∀x f' σ',E x f' σ'→x≠ .normal∧Q x f' σ')(h2:M→∀g,GoW env wh D n b (upds L g) σ Q):GoW env wh D n (.seq a b) f σ Q:=GoF.seq (h1.mono fun x f' σ' h=>by
 rcases h with⟨e1,e2,e3,e4⟩|h
 ·subst e1;subst e2
  show GoW env wh D n b f' σ' Q
  exact GoF.norm L e3 fun g=>h2 e4 g
 ·obtain⟨e1,e2⟩:=h3 _ _ _ h
  cases x with
  |normal=>exact absurd rfl e1
  |exit i=>exact e2
  |ret=>exact e2
  |panic v=>exact e2)
theorem op_store{ev:AOpd→Option AV}{sh:Option Nat}{a x:AOpd}{id off:Nat}{v:AV}{c c':List AV}(hs:σ.get id=some (.cells c))(h1:ev a=some (.p (some (id,off))))(h2:ev x=some v)(hcf:conf sh v=true)(hc:storeCells c off v.cells=some c'):
  opx 0 ev σ (.store sh a x)=some (.val undefA (σ.set id (.cells c'))):=by
 show(match ev a,ev x with
  |some (.p (some (id,off))),some v=>
   if Nat.blt id 0 then none else
   if conf sh v then
    match σ.get id with
    |some (.cells c)=>match storeCells c off v.cells with
     |some c=>some (OpR.val undefA (σ.set id (.cells c)))
     |none=>none
    |_=>none
   else none
  |_,_=>none)=_
 rw[h1,h2]
 show(if Nat.blt id 0 then none else if conf sh v then(match σ.get id with
    |some (.cells c)=>match storeCells c off v.cells with
     |some c=>some (OpR.val undefA (σ.set id (.cells c)))
     |none=>none
    |_=>none) else none)=_
 rw[if_neg (by simp[Nat.blt,Nat.ble]),if_pos hcf,hs]
 show(match storeCells c off v.cells with|some c=>some (OpR.val undefA (σ.set id (.cells c)))|none=>none)=_
 rw[hc]
theorem set_get{id:Nat}{o o':AO}(hs:σ.get id=some o):(σ.set id o').get id=some o'∧(∀i o,i≠id→σ.get i=some o→(σ.set id o').get i=some o):=by
 have hlt:=St.get_lt hs
 refine⟨by rw[St.get_set trivial _ hlt,if_pos rfl],fun i o hi ho=>?_⟩
 rw[St.get_set trivial _ hlt,if_neg hi];exact ho
theorem storeAll{c v:List AV}(h:v.length=c.length):storeCells c 0 v=some v:=by
 unfold storeCells
 rw[if_pos (Nat.ble_eq_true_of_le (by omega)),Nat.zero_add,h,List.drop_length]
 simp
theorem GoO.known{b:Base}{K:Nat→List AV→AV→Prop}{d:Nat}{op:AOp}{g:Option (Nat×Bool)}{wn:List Nat}{ops:List AOper}{fn:Nat}{args ar:List AV}{r:AV}(hf:∀g ar r r',K g ar r→K g ar r'→r=r')(he:b.ext fn=0)(hp:b.pure fn=true)(hK:K fn ar r)
  (hd:Nat.blt d n=true) (hw:wantedF g n f=true) (ho:opx 0 (evF (b.envK K) n f) σ op=some (.call (.f (.func fn) [] []) args)) (ha:mapO (snapshot σ (b.fz+1000)) args=some ar) (h:GoV (b.envK K) wh D n ops (upd f d r) σ Q):GoV (b.envK K) wh D n (⟨some d,op,g,wn⟩::ops) f σ Q:=
 GoO.spec hd hw ho he hp ha (specOf_some hf hK) h
theorem snaps1{n:Nat}{a:AV}{x:AV}(h:snapshot σ n a=some x):mapO (snapshot σ n) [a]=some [x]:=by rw[mapO_cons',h];rfl
theorem snaps2{n:Nat}{a b:AV}{x y:AV}(h:snapshot σ n a=some x)(h2:snapshot σ n b=some y):mapO (snapshot σ n) [a,b]=some [x,y]:=by rw[mapO_cons',h,snaps1 h2]
theorem snaps3{n:Nat}{a b c:AV}{x y z:AV}(h:snapshot σ n a=some x)(h2:snapshot σ n b=some y)(h3:snapshot σ n c=some z):mapO (snapshot σ n) [a,b,c]=some [x,y,z]:=by rw[mapO_cons',h,snaps2 h2 h3]
end
def slA(o:Bool)(sh:Option Nat):List AV→AV
 |[]=>.nilsl
 |x::l=>.tl o sh (x::l)
theorem slA_len(σ:St)(o:Bool)(sh:Option Nat)(l:List AV):lenA σ 1 (slA o sh l)=some l.length:=by cases l<;>rfl
theorem nth_get{α:Type}:∀ {l:List α} {i:Nat} (h:i<l.length),nth l i=some l[i]
 |[],i,h=>by simp at h
 |x::l,0,_=>rfl
 |x::l,i+1,h=>nth_get (l:=l) (by simpa using h)
theorem slA_idx{o:Bool}{sh:Option Nat}{l:List AV}{i:Nat}(h:i<l.length):idxSlA sh (slA o sh l) i=some (.tp o l[i]):=by
 cases l with
 |nil=>simp at h
 |cons x l=>exact idxSlA_tl (nth_get h)
theorem slA_lenM{α:Type}{σ:St}{o:Bool}{sh:Option Nat}{l:List α}{f:α→AV}:lenA σ 1 (slA o sh (l.map f))=some l.length:=by rw[slA_len,List.length_map]
theorem slA_idxM{α:Type}{o:Bool}{sh:Option Nat}{l:List α}{f:α→AV}{i:Nat}(h:i<l.length):idxSlA sh (slA o sh (l.map f)) i=some (.tp o (f l[i])):=by rw[slA_idx (by simpa using h),List.getElem_map]
theorem slA_inj{o:Bool}{sh:Option Nat}{l m:List AV}(h:slA o sh l=slA o sh m):l=m:=by
 cases l<;>cases m<;>simp_all [slA]
theorem idxSlA_sl{sh:Option Nat}{id off len j:Nat}{cap:Option Nat}(h:j<len):idxSlA sh (.sl id off len sh cap) j=some (.p (some (id,off+j*shN sh))):=by
 show(if Nat.blt j len&&decide (sh=sh) then some (AV.p (some (id,off+j*shN sh))) else none)=_
 rw[show Nat.blt j len=true from Nat.ble_eq_true_of_le h]
 simp
theorem conf_some{k:Nat}{x:AV}(h:conf (some k) x=true):∃l,x= .ag l∧l.length=k:=by
 cases x with
 |ag l=>exact⟨l,rfl,Nat.eq_of_beq_eq_true h⟩
 |_=>cases h
theorem conf_none_cells{x:AV}(h:conf none x=true):x.cells=[x]:=by
 cases x with
 |ag l=>cases h
 |_=>rfl
theorem takeSh_app{sh:Option Nat}{x:AV}{r:List AV}(h:conf sh x=true):takeSh sh (x.cells++r)=some x∧(x.cells++r).drop (shN sh)=r:=by
 cases sh with
 |none=>rw[conf_none_cells h];exact⟨rfl,rfl⟩
 |some k=>
  obtain⟨l,rfl,hl⟩:=conf_some h
  subst hl
  refine⟨?_,?_⟩
  ·show(let m:=(l++r).take l.length;if m.length=l.length then some (AV.ag m) else none)=_
   simp
  ·show(l++r).drop l.length=r
   simp
theorem elems_flat{sh:Option Nat}:∀ {xs:List AV} {r:List AV},(∀x∈xs,conf sh x=true)→elems sh xs.length (xs.flatMap AV.cells++r)=some xs
 |[],r,_=>rfl
 |x::xs,r,h=>by
  have hx:=h x (by simp)
  rw[List.length_cons,elems_succ,List.flatMap_cons,List.append_assoc,(takeSh_app hx).1,(takeSh_app hx).2,elems_flat fun y hy=>h y (List.mem_cons_of_mem _ hy)]
def AV.at? :AV→Option Nat
 | .sl id _ _ _ _=>some id
 |_=>none
end
section
open Go.RowKit
inductive Tm where
 |mk (var:Bool) (name:List Nat) (args:Option (List Tm))
inductive Fm where
 |mk (op:Nat) (name:List Nat) (args:Option (List Tm)) (sub:Option (List Fm))
def Tm.var:Tm→Bool| .mk v _ _=>v
def Tm.name:Tm→List Nat| .mk _ n _=>n
def Tm.oargs:Tm→Option (List Tm)| .mk _ _ a=>a
def Tm.args(t:Tm):List Tm:=t.oargs.getD []
def Fm.op:Fm→Nat| .mk o _ _ _=>o
def Fm.name:Fm→List Nat| .mk _ n _ _=>n
def Fm.oargs:Fm→Option (List Tm)| .mk _ _ a _=>a
def Fm.args(f:Fm):List Tm:=f.oargs.getD []
def Fm.osub:Fm→Option (List Fm)| .mk _ _ _ s=>s
def Fm.sub(f:Fm):List Fm:=f.osub.getD []
def osl(o:Bool)(sh:Option Nat):Option (List AV)→AV
 |none=>.nilsl
 |some l=>.tl o sh l
mutual
def Tm.cells(o:Bool):Tm→List AV
 | .mk v n none=>[.b v,.s n,.nilsl]
 | .mk v n (some l)=>[.b v,.s n,.tl o (some 3) (Tm.lA o l)]
def Tm.lA(o:Bool):List Tm→List AV
 |[]=>[]
 |t::l=>.ag (t.cells o)::Tm.lA o l
end
def Tm.A(o:Bool)(t:Tm):AV:=.ag (t.cells o)
theorem Tm.lA_eq(o:Bool):∀l,Tm.lA o l=l.map (Tm.A o)
 |[]=>by simp[Tm.lA]
 |t::l=>by rw[Tm.lA,Tm.lA_eq o l];rfl
def tmsA(o:Bool)(l:Option (List Tm)):AV:=osl o (some 3) (l.map fun l=>l.map (Tm.A o))
theorem Tm.cells_eq(o:Bool)(t:Tm):t.cells o=[.b t.var,.s t.name,tmsA o t.oargs]:=by
 obtain⟨v,n,a⟩:=t
 cases a with
 |none=>rw[Tm.cells];rfl
 |some l=>rw[Tm.cells,Tm.lA_eq];rfl
mutual
def Fm.cells(o:Bool):Fm→List AV
 | .mk op n a none=>[.i .u8 (Int.ofNat op),.s n,tmsA o a,.nilsl]
 | .mk op n a (some l)=>[.i .u8 (Int.ofNat op),.s n,tmsA o a,.tl o (some 4) (Fm.lA o l)]
def Fm.lA(o:Bool):List Fm→List AV
 |[]=>[]
 |f::l=>.ag (f.cells o)::Fm.lA o l
end
def Fm.A(o:Bool)(f:Fm):AV:=.ag (f.cells o)
theorem Fm.lA_eq(o:Bool):∀l,Fm.lA o l=l.map (Fm.A o)
 |[]=>by simp[Fm.lA]
 |f::l=>by rw[Fm.lA,Fm.lA_eq o l];rfl
def fmsA(o:Bool)(l:Option (List Fm)):AV:=osl o (some 4) (l.map fun l=>l.map (Fm.A o))
theorem Fm.cells_eq(o:Bool)(f:Fm):f.cells o=[.i .u8 (Int.ofNat f.op),.s f.name,tmsA o f.oargs,fmsA o f.osub]:=by
 obtain⟨op,n,a,s⟩:=f
 cases s with
 |none=>rw[Fm.cells];rfl
 |some l=>rw[Fm.cells,Fm.lA_eq];rfl
mutual
theorem Tm.cells_inj(o:Bool):∀(t u:Tm),t.cells o=u.cells o→t=u
 | .mk v n none,.mk v' n' none,h=>by simp only[Tm.cells,List.cons.injEq,AV.b.injEq,AV.s.injEq] at h;rw[h.1,h.2.1]
 | .mk v n none,.mk v' n' (some l),h=>by simp[Tm.cells] at h
 | .mk v n (some l),.mk v' n' none,h=>by simp[Tm.cells] at h
 | .mk v n (some l),.mk v' n' (some l'),h=>by
  simp only[Tm.cells,List.cons.injEq,AV.b.injEq,AV.s.injEq,AV.tl.injEq,true_and,and_true] at h
  rw[h.1,h.2.1,Tm.lA_inj o l l' h.2.2]
theorem Tm.lA_inj(o:Bool):∀(l m:List Tm),Tm.lA o l=Tm.lA o m→l=m
 |[],[],_=>rfl
 |[],_::_,h=>by simp[Tm.lA] at h
 |_::_,[],h=>by simp[Tm.lA] at h
 |a::l,b::m,h=>by
  simp only[Tm.lA,List.cons.injEq,AV.ag.injEq] at h
  rw[Tm.cells_inj o a b h.1,Tm.lA_inj o l m h.2]
end
theorem tmsA_inj{o:Bool}{a b:Option (List Tm)}(h:tmsA o a=tmsA o b):a=b:=by
 cases a with
 |none=>cases b with
  |none=>rfl
  |some m=>cases h
 |some l=>cases b with
  |none=>cases h
  |some m=>
   simp only[tmsA,osl,Option.map_some,AV.tl.injEq,true_and] at h
   rw[←Tm.lA_eq,← Tm.lA_eq] at h
   rw[Tm.lA_inj o l m h]
mutual
theorem Fm.cells_inj(o:Bool):∀(f g:Fm),f.cells o=g.cells o→f=g
 | .mk p n a none,.mk p' n' a' none,h=>by simp only[Fm.cells,List.cons.injEq,AV.i.injEq,AV.s.injEq,true_and] at h;rw[Int.ofNat.inj h.1,h.2.1,tmsA_inj h.2.2.1]
 | .mk p n a none,.mk p' n' a' (some l),h=>by simp[Fm.cells] at h
 | .mk p n a (some l),.mk p' n' a' none,h=>by simp[Fm.cells] at h
 | .mk p n a (some l),.mk p' n' a' (some l'),h=>by
  simp only[Fm.cells,List.cons.injEq,AV.i.injEq,AV.s.injEq,AV.tl.injEq,true_and,and_true] at h
  rw[Int.ofNat.inj h.1,h.2.1,tmsA_inj h.2.2.1,Fm.lA_inj o l l' h.2.2.2]
theorem Fm.lA_inj(o:Bool):∀(l m:List Fm),Fm.lA o l=Fm.lA o m→l=m
 |[],[],_=>rfl
 |[],_::_,h=>by simp[Fm.lA] at h
 |_::_,[],h=>by simp[Fm.lA] at h
 |a::l,b::m,h=>by
  simp only[Fm.lA,List.cons.injEq,AV.ag.injEq] at h
  rw[Fm.cells_inj o a b h.1,Fm.lA_inj o l m h.2]
end
theorem Fm.A_inj{o:Bool}{f g:Fm}(h:f.A o=g.A o):f=g:=Fm.cells_inj o f g (by unfold Fm.A at h;injection h)
mutual
def Tm.dep:Tm→Nat
 | .mk _ _ none=>1
 | .mk _ _ (some l)=>Tm.deps l+1
def Tm.deps:List Tm→Nat
 |[]=>0
 |t::l=>max t.dep (Tm.deps l)
end
mutual
def Fm.dep:Fm→Nat
 | .mk _ _ a none=>Tm.deps (a.getD [])+1
 | .mk _ _ a (some l)=>max (Tm.deps (a.getD [])) (Fm.deps l)+1
def Fm.deps:List Fm→Nat
 |[]=>0
 |f::l=>max f.dep (Fm.deps l)
end
theorem Tm.dep_mem:∀ {l:List Tm} {t:Tm},t∈l→t.dep≤Tm.deps l
 |[],_,h=>by simp at h
 |g::l,f,h=>by
  rw[Tm.deps]
  rcases List.mem_cons.1 h with rfl|h
  ·omega
  ·have:=Tm.dep_mem h;omega
theorem Fm.dep_mem:∀ {l:List Fm} {t:Fm},t∈l→t.dep≤Fm.deps l
 |[],_,h=>by simp at h
 |g::l,f,h=>by
  rw[Fm.deps]
  rcases List.mem_cons.1 h with rfl|h
  ·omega
  ·have:=Fm.dep_mem h;omega
theorem Tm.dep_eq(t:Tm):t.dep=Tm.deps t.args+1:=by
 obtain⟨v,n,a⟩:=t
 cases a with
 |none=>rw[Tm.dep];simp[Tm.args,Tm.oargs,Tm.deps]
 |some l=>rw[Tm.dep];rfl
theorem Fm.dep_eq(f:Fm):f.dep=max (Tm.deps f.args) (Fm.deps f.sub)+1:=by
 obtain⟨op,n,a,s⟩:=f
 cases s with
 |none=>rw[Fm.dep];simp[Fm.args,Fm.oargs,Fm.sub,Fm.osub,Fm.deps]
 |some l=>rw[Fm.dep];rfl
theorem Tm.dep_arg{t u:Tm}(h:u∈t.args):u.dep<t.dep:=by have:=Tm.dep_mem h;rw[Tm.dep_eq t];omega
theorem Fm.dep_arg{f:Fm}{u:Tm}(h:u∈f.args):u.dep<f.dep:=by have:=Tm.dep_mem h;rw[Fm.dep_eq f];omega
theorem Fm.dep_sub{f g:Fm}(h:g∈f.sub):g.dep<f.dep:=by have:=Fm.dep_mem h;rw[Fm.dep_eq f];omega
variable [Tok][TokOk]
theorem snap_osl{α:Type}{σ:St}{k:Nat}{o:Bool}{sh:Option Nat}{l:Option (List α)}{g g':α→AV}(h:∀x∈l.getD [],snapshot σ k (g x)=some (g' x)):snapshot σ (k+1) (osl o sh (l.map fun l=>l.map g))=some (osl true sh (l.map fun l=>l.map g')):=by
 cases l with
 |none=>rfl
 |some l=>
  show(match mapO (snapshot σ k) (l.map g) with|none=>none|some xs=>some (AV.tl true sh xs))=_
  rw[mapO_map (l:=l) (h:=g') fun x hx=>h x hx];rfl
theorem snap_ag{σ:St}{k:Nat}{l l':List AV}(h:mapO (snapshot σ k) l=some l'):snapshot σ (k+1) (.ag l)=some (.ag l'):=by
 show(match mapO (snapshot σ k) l with|none=>none|some l=>some (AV.ag l))=_
 rw[h]
theorem Tm.snap(σ:St)(o:Bool):∀(d:Nat) (t:Tm) (k:Nat),t.dep≤d→2*d+1≤k→snapshot σ k (t.A o)=some (t.A true)
 |0,t,k,h,_=>by rw[Tm.dep_eq] at h;omega
 |d+1,t,k,h,hk=>by
  obtain⟨k,rfl⟩:∃j,k=j+3:=⟨k-3,by omega⟩
  unfold Tm.A
  rw[Tm.cells_eq,Tm.cells_eq]
  refine snap_ag ?_
  have e:snapshot σ (k+2) (tmsA o t.oargs)=some (tmsA true t.oargs):=snap_osl (k:=k+1) fun x hx=>Tm.snap σ o d x (k+1) (by have:=Tm.dep_arg (t:=t) hx;omega) (by omega)
  rw[mapO_cons',mapO_cons',mapO_cons',e];rfl
theorem Fm.snap(σ:St)(o:Bool):∀(d:Nat) (f:Fm) (k:Nat),f.dep≤d→2*d+1≤k→snapshot σ k (f.A o)=some (f.A true)
 |0,f,k,h,_=>by rw[Fm.dep_eq] at h;omega
 |d+1,f,k,h,hk=>by
  obtain⟨k,rfl⟩:∃j,k=j+3:=⟨k-3,by omega⟩
  unfold Fm.A
  rw[Fm.cells_eq,Fm.cells_eq]
  refine snap_ag ?_
  have e1:snapshot σ (k+2) (tmsA o f.oargs)=some (tmsA true f.oargs):=snap_osl (k:=k+1) fun x hx=>Tm.snap σ o d x (k+1) (by have:=Fm.dep_arg (f:=f) hx;omega) (by omega)
  have e2:snapshot σ (k+2) (fmsA o f.osub)=some (fmsA true f.osub):=snap_osl (k:=k+1) fun x hx=>Fm.snap σ o d x (k+1) (by have:=Fm.dep_sub (f:=f) hx;omega) (by omega)
  rw[mapO_cons',mapO_cons',mapO_cons',mapO_cons',e1,e2];rfl
theorem osl_len{α:Type}{σ:St}{o:Bool}{sh:Option Nat}{l:Option (List α)}{g:α→AV}:lenA σ 1 (osl o sh (l.map fun l=>l.map g))=some (l.getD []).length:=by
 cases l with
 |none=>rfl
 |some l=>show some (l.map g).length=_;rw[List.length_map];rfl
theorem osl_idx{α:Type}{o:Bool}{sh:Option Nat}{l:Option (List α)}{g:α→AV}{i:Nat}(h:i<(l.getD []).length):idxSlA sh (osl o sh (l.map fun l=>l.map g)) i=some (.tp o (g ((l.getD [])[i]))):=by
 cases l with
 |none=>simp at h
 |some l=>
  refine idxSlA_tl ?_
  have h:i<l.length:=h
  rw[nth_get (by simpa using h),List.getElem_map];rfl
theorem tmsA_len{σ:St}{o:Bool}{l:Option (List Tm)}:lenA σ 1 (tmsA o l)=some (l.getD []).length:=osl_len
theorem fmsA_len{σ:St}{o:Bool}{l:Option (List Fm)}:lenA σ 1 (fmsA o l)=some (l.getD []).length:=osl_len
theorem tmsA_idx{o:Bool}{l:Option (List Tm)}{i:Nat}(h:i<(l.getD []).length):idxSlA (some 3) (tmsA o l) i=some (.tp o (((l.getD [])[i]).A o)):=osl_idx h
theorem fmsA_idx{o:Bool}{l:Option (List Fm)}{i:Nat}(h:i<(l.getD []).length):idxSlA (some 4) (fmsA o l) i=some (.tp o (((l.getD [])[i]).A o)):=osl_idx h
inductive Tm.few:Tm→Prop
 |mk {v:Bool} {n:List Nat} {a:Option (List Tm)} (hl:(a.getD []).length<2^62) (h:∀x∈a.getD [],Tm.few x):Tm.few (.mk v n a)
inductive Fm.few:Fm→Prop
 |mk {op:Nat} {n:List Nat} {a:Option (List Tm)} {s:Option (List Fm)} (hal:(a.getD []).length<2^62) (ha:∀x∈a.getD [],Tm.few x) (hl:(s.getD []).length<2^62) (h:∀x∈s.getD [],Fm.few x):Fm.few (.mk op n a s)
theorem Tm.few.len{t:Tm}(h:t.few):t.args.length<2^62:=by cases h with|mk hl _=>exact hl
theorem Tm.few.arg{t:Tm}(h:t.few):∀x∈t.args,x.few:=by cases h with|mk _ h=>exact h
theorem Fm.few.alen{t:Fm}(h:t.few):t.args.length<2^62:=by cases h with|mk hl _ _ _=>exact hl
theorem Fm.few.arg{t:Fm}(h:t.few):∀x∈t.args,x.few:=by cases h with|mk _ h _ _=>exact h
theorem Fm.few.slen{t:Fm}(h:t.few):t.sub.length<2^62:=by cases h with|mk _ _ hl _=>exact hl
theorem Fm.few.sb{t:Fm}(h:t.few):∀x∈t.sub,x.few:=by cases h with|mk _ _ _ h=>exact h
end
section
variable [Tok][TokOk]
open Go Go.RowKit Go.ChangeShapes Go.WideShapes
theorem post_trueS{H:Type}{enc:TypeId×Value→H}{P:Program}{f:Func}{s:ChangeSpec}{apart fresh handsOn:Bool}{W W':World}{args:Array Value}{ds:List (DataW H)}{tb:TypeId}{ps pa:List MemPlace}
  (hf:f.resultTypes= #[tb]) (hb:P.underlying tb=some .bool) (hv:s.vars=[]) (hfn:s.fn H ds={results:=[.lit (.bool true)],args:=ds})
  (hW:DataW.Whole enc P f.params.toList s.vars apart W args.toList ds [] ps) (hargs:DataW.TrodAll enc P W' 0 (fun b=>decide (b<W.heap.size)) true f.params.toList args.toList ds pa)
  (hk:∀b,b<W.heap.size→W'.heap[b]? =W.heap[b]?) (hos:W'.os=W.os) (hout:W'.output=W.output):s.post enc P f apart fresh handsOn false W args (.bool true) W':=by
 refine⟨ds,[],ps,[],pa,[],hW,?_,?_,?_,kept_of_heap hk hos hout,fun h=>by cases h⟩
 ·rw[List.append_nil,hfn,hf]
  exact trodAll_mk1 (shut_bool hb _)
 ·rw[List.append_nil,hfn]
  exact hargs
 ·rw[List.append_nil,hfn,hv]
  rfl
theorem calls_trueS{H:Type}{enc:TypeId×Value→H}{P:Program}{env:Env}{f:Func}{s:ChangeSpec}{apart fresh handsOn:Bool}{W:World}{args:Array Value}{ds:List (DataW H)}{tb:TypeId}{g:Nat}{ar:List AV}{ps pa:List MemPlace}
  (hS:∀B0,SpecEntry P env B0 g ar (.b true)) (hG:Globs env W W.heap.size) (ha:RL W (fun _=>none) (fun _=>False) W.heap.size ar args.toList)
  (hf:f.resultTypes= #[tb]) (hb:P.underlying tb=some .bool) (hv:s.vars=[]) (hfn:s.fn H ds={results:=[.lit (.bool true)],args:=ds})
  (hW:DataW.Whole enc P f.params.toList s.vars apart W args.toList ds [] ps) (hargs:∀W':World,Below W.heap.size W W'→DataW.TrodAll enc P W' 0 (fun b=>decide (b<W.heap.size)) true f.params.toList args.toList ds pa):
  Calls P g args W fun e W'=>∃v,e= .returned v∧s.post enc P f apart fresh handsOn false W args v W':=by
 refine((hS W.heap.size).calls (Nat.le_refl _) hG ha).mono fun e W' ⟨u,he,hR,hsz,hk,hos,htp,hout⟩=>?_
 cases hR
 exact⟨_,he,post_trueS hf hb hv hfn hW (hargs W' ⟨hos,htp,hout,hsz,hk⟩) hk hos hout⟩
end
section
variable [Tok][TokOk]
open Go.RowKit
theorem GoesCall.mono{env:Env}{floor:Nat}{fv:AV}{args:List AV}{σ:St}{Q Q':Ret→St→Prop}(h:GoesCall env floor fv args σ Q)(hq:∀r σ',Q r σ'→Q' r σ'):GoesCall env floor fv args σ Q':=Ev.mono h fun _ ho=>hq _ _ ho
def GoX(env:Env)(D D':List (Nat ⊕ (AV×List AV)))(n:Nat)(c:ACode)(f:Nat→AV)(σ:St)(Q:PostF):Prop:=∀fr,IsFr D n f fr→Goes env 0 none c fr σ (atF D' n Q)
section
variable {env:Env}{D D' D1:List (Nat ⊕ (AV×List AV))}{n:Nat}{f:Nat→AV}{σ:St}{Q:PostF}
theorem GoX.seqA{a b:ACode}(h:GoW env none D n a f σ (fun x f σ=>x= .normal∧GoX env D D' n b f σ Q)):GoX env D D' n (.seq a b) f σ Q:=fun fr hfr=>Goes.seq ((h fr hfr).mono fun x fr σ ⟨f,h1,h2,h3⟩=>by subst h2;exact h3 fr h1)
theorem GoX.seqB{a b:ACode}(h:GoX env D D' n a f σ (fun x f σ=>x= .normal∧GoW env none D' n b f σ Q)):GoX env D D' n (.seq a b) f σ Q:=fun fr hfr=>Goes.seq ((h fr hfr).mono fun x fr σ ⟨f,h1,h2,h3⟩=>by subst h2;exact h3 fr h1)
theorem GoX.block{a:ACode}{id:Nat}(h:GoX env D D' n a f σ (fun x f σ=>x= .normal∧Q .normal f σ)):GoX env D D' n (.block id a) f σ Q:=fun fr hfr=>Goes.block ((h fr hfr).mono fun x fr σ ⟨f,h1,h2,h3⟩=>by subst h2;exact⟨f,h1,h3⟩)
theorem GoX.range{fo:AOpd}{ps:List Nat}{as b:ACode}{g:Nat}{first cap:List AV}(hf:evF env n f fo=some (.f (.func g) first cap))(he:env.ext g=0)
  (h:∀sl,(∀i,sl.get i=if i<n then some (f i) else none)→GoesCall env 0 (.f (.func g) first cap) [.f (.yield (σ.next+1)) [] []] ((σ.push .dblk).push (.loop .ready none sl ps as b σ.next))
   (fun r σ3=>∃v st,r= .ok v∧σ3.get (σ.next+1)=some (.loop st none sl ps as b σ.next)∧st≠ .busy∧Q .normal f (σ3.set (σ.next+1) (.loop .exhausted none sl ps as b σ.next)))):
  GoX env D (.inl σ.next::D) n (.rangeFunc fo ps as b) f σ Q:=fun fr hfr=>by
 have h':=h fr.slots hfr.get
 refine Ev.succ (Ev.then (g:=fun x F=>rangeK (exec env F) 0 none fr (.inl σ.next::fr.defers) (σ.next+1) x) h' fun o ho=>?_) fun F=>?_
 ·obtain⟨r,σ3⟩:=o
  obtain⟨v,st,h1,h2,h3,h4⟩:=ho
  have h1:r= .ok v:=h1
  subst h1
  have h2:σ3.get (σ.next+1)=some (.loop st none fr.slots ps as b σ.next):=h2
  refine Ev.one (x:=(.normal,⟨fr.slots,.inl σ.next::fr.defers,fr.rcv⟩,σ3.set (σ.next+1) (.loop .exhausted none fr.slots ps as b σ.next))) (fun F=>?_) ⟨f,⟨hfr.get,by show _::fr.defers=_;rw[hfr.ds],hfr.rc⟩,h4⟩
  show(match σ3.get (σ.next+1) with
   |some (.loop st pe sl' ps' as' b' d')=>(match st with
    | .busy=>none
    |_=>match pe with
     |none=>some [(Ex.normal,(⟨fr.slots,.inl σ.next::fr.defers,fr.rcv⟩:Fr),σ3.set (σ.next+1) (.loop .exhausted pe sl' ps' as' b' d'))]
     |some c=>exec env F 0 none c ⟨fr.slots,.inl σ.next::fr.defers,fr.rcv⟩ (σ3.set (σ.next+1) (.loop .exhausted pe sl' ps' as' b' d')))
   |_=>none)=_
  rw[h2]
  cases st with
  |busy=>exact absurd rfl h3
  |_=>rfl
 ·rw[exec_succ]
  show(if Nat.blt σ.next 0 then none else
   match evalA env fr.slots fo with
   |some (.f (.func g) first cap)=>
    match enterA none fr σ with
    |none=>none
    |some (d,σ1,ds)=>
     match env.ext g with
     |0=>thenO (callF env (exec env F) 0 g (first++AV.f (.yield σ1.next) [] []::cap) (σ1.push (.loop .ready none fr.slots ps as b d))) (rangeK (exec env F) 0 none fr ds σ1.next)
     |_=>none
   |_=>none)=_
  rw[if_neg (by simp[Nat.blt,Nat.ble]),hfr.ev,hf]
  show(match env.ext g with
     |0=>thenO (callF env (exec env F) 0 g (first++AV.f (.yield (σ.next+1)) [] []::cap) ((σ.push .dblk).push (.loop .ready none fr.slots ps as b σ.next))) (rangeK (exec env F) 0 none fr (.inl σ.next::fr.defers) (σ.next+1))
     |_=>none)=_
  rw[he]
  show thenO (callF env (exec env F) 0 g (first++AV.f (.yield (σ.next+1)) [] []::cap) _) _=thenO (callF env (exec env F) 0 g (first++[AV.f (.yield (σ.next+1)) [] []]++cap) _) _
  rw[List.append_assoc];rfl
end
def layF:List Nat→List AV→(Nat→AV)→Nat→AV
 |p::ps,a::as,f=>layF ps as (upd f p a)
 |_,_,f=>f
theorem isFr_lay{n:Nat}:∀ {ps:List Nat} {args:List AV} {f:Nat→AV} {sl:Tr AV},allB (fun p=>Nat.blt p n) ps=true→(∀i,sl.get i=if i<n then some (f i) else none)→IsFr [] n (layF ps args f) ⟨layAll ps args sl,[],false⟩
 |[],_,f,sl,_,h=>⟨h,rfl,rfl⟩
 |p::ps,[],f,sl,_,h=>⟨h,rfl,rfl⟩
 |p::ps,a::args,f,sl,hp,h=>by
  have hp1:Nat.blt p n=true:=by
   have hp:cond (Nat.blt p n) (allB (fun p=>Nat.blt p n) ps) false=true:=hp
   cases hb:Nat.blt p n with
   |true=>rfl
   |false=>rw[hb] at hp;cases hp
  have hp2:allB (fun p=>Nat.blt p n) ps=true:=by
   have hp:cond (Nat.blt p n) (allB (fun p=>Nat.blt p n) ps) false=true:=hp
   rw[hp1] at hp;exact hp
  have h0:IsFr [] n f ⟨sl,[],false⟩:=⟨h,rfl,rfl⟩
  exact isFr_lay (f:=upd f p a) (sl:=sl.set p a) hp2 (h0.put a hp1).get
theorem GoesCall.round{env:Env}{l n:Nat}{f:Nat→AV}{σ:St}{sl:Tr AV}{ps:List Nat}{as b:ACode}{d:Nat}{args:List AV}{R:St→Prop}(hl:σ.get l=some (.loop .ready none sl ps as b d))(hsl:∀i,sl.get i=if i<n then some (f i) else none)(hps:allB (fun p=>Nat.blt p n) ps=true)(hlen:Nat.beq ps.length args.length=true)
  (h:GoW env (some l) [] n as (layF ps args f) σ (fun x f1 σ1=>x= .normal∧σ1.get l=some (.loop .ready none sl ps as b d)∧
   GoW env (some l) [] n b f1 (σ1.set l (.loop .busy none sl ps as b d)) (fun x _ σ2=>x= .normal∧σ2.get l=some (.loop .busy none sl ps as b d)∧R (σ2.set l (.loop .ready none sl ps as b d))))):
  GoesCall env 0 (.f (.yield l) [] []) args σ (fun r σ'=>r= .ok (.b true)∧R σ'):=by
 have h1:=h _ (isFr_lay (args:=args) hps hsl)
 refine Ev.congr (Ev.then (g:=fun x F=>roundMid (exec env F) 0 l b x) h1 fun o ho=>?_) fun F=>?_
 ·obtain⟨x,fr1,σ1⟩:=o
  obtain⟨f1,hfr1,hx,hl1,h2⟩:=ho
  have hx:x= .normal:=hx
  subst hx
  have hl1:σ1.get l=some (.loop .ready none sl ps as b d):=hl1
  refine Ev.congr (Ev.then (g:=fun x _=>roundEnd l x) (h2 fr1 hfr1) fun o ho=>?_) fun F=>?_
  ·obtain⟨x,fr2,σ2⟩:=o
   obtain⟨f2,_,hx,hl2,hR⟩:=ho
   have hx:x= .normal:=hx
   subst hx
   have hl2:σ2.get l=some (.loop .busy none sl ps as b d):=hl2
   refine Ev.one (x:=(.ok (.b true),σ2.set l (.loop .ready none sl ps as b d))) (fun _=>?_) ⟨rfl,hR⟩
   show(endRound σ2 l none).map (fun x=>[x])=_
   unfold endRound
   rw[hl2];rfl
  ·show(match σ1.get l with
    |some (.loop .ready pe sl' ps' as' b' d')=>thenO (exec env F 0 (some l) b fr1 (σ1.set l (.loop .busy pe sl' ps' as' b' d'))) (roundEnd l)
    |_=>none)=_
   rw[hl1]
 ·show(if Nat.blt l 0 then none else
   match σ.get l with
   |some (.loop .ready _ sl ps as b _)=>cond (Nat.beq ps.length args.length) (thenO (exec env F 0 (some l) as ⟨layAll ps args sl,[],false⟩ σ) (roundMid (exec env F) 0 l b)) none
   |_=>none)=_
  rw[if_neg (by simp[Nat.blt,Nat.ble]),hl]
  show cond (Nat.beq ps.length args.length) _ none=_
  rw[hlen,cond_true]
section
variable {env:Env}{wh:Option Nat}{D:List (Nat ⊕ (AV×List AV))}{n:Nat}{f:Nat→AV}{σ:St}{Q:PostF}
theorem GoO.callG{d:Nat}{op:AOp}{g:Option (Nat×Bool)}{wn:List Nat}{ops:List AOper}{fv:AV}{args:List AV}{R:Ret→St→Prop}(hd:Nat.blt d n=true)(hw:wantedF g n f=true)(ho:opx 0 (evF env n f) σ op=some (.call fv args))(hc:GoesCall env 0 fv args σ R)
  (h:∀r σ',R r σ'→∃v,r= .ok v∧GoV env wh D n ops (upd f d v) σ' Q):GoV env wh D n (⟨some d,op,g,wn⟩::ops) f σ Q:=fun fr hfr=>
 GoesOps.call (by rw[hfr.wanted];exact hw) (by rw[hfr.ev];exact ho) (hc.mono fun r σ' hr=>by
  obtain⟨v,rfl,hv⟩:=h r σ' hr
  exact hv _ (hfr.put v hd))
theorem GoesCall.code{fn:Nat}{af:AFunc}{body:ACode}{dr:Nat}{first cap args:List AV}{R:Ret→St→Prop}(he:env.ext fn=0)(hp:env.pure fn=false)(hf:env.funcs fn=some af)(hb:af.body=some body)
  (hn:(Nat.beq (first++args++cap).length af.nargs&&Nat.ble (first++args++cap).length af.ntmps)=true) (hres:af.results=[(dr,none)]) (hdr:Nat.blt dr af.ntmps=true)
  (h:GoF env af.ntmps body (argF (first++args++cap)) σ (fun x f' σ'=>x= .ret∧R (.ok (f' dr)) σ')):GoesCall env 0 (.f (.func fn) first cap) args σ R:=by
 have hle:(first++args++cap).length≤af.ntmps:=by
  simp only[Bool.and_eq_true] at hn
  exact Nat.le_of_ble_eq_true hn.2
 refine GoesCall.run he hp hf hb hn ((h _ (isFr_start hle)).mono fun x fr' σ' ⟨f',h1,h2,h3⟩=>?_)
 subst h2
 exact⟨.ok (f' dr),σ',endF_one h1 hres hdr,h3⟩
theorem GoesCall.code0{fn:Nat}{af:AFunc}{body:ACode}{first cap args:List AV}{R:Ret→St→Prop}(he:env.ext fn=0)(hp:env.pure fn=false)(hf:env.funcs fn=some af)(hb:af.body=some body)
  (hn:(Nat.beq (first++args++cap).length af.nargs&&Nat.ble (first++args++cap).length af.ntmps)=true) (hres:af.results=[])
  (h:GoF env af.ntmps body (argF (first++args++cap)) σ (fun x _ σ'=>(x= .ret∨x= .normal)∧R (.ok (.tu [])) σ')):GoesCall env 0 (.f (.func fn) first cap) args σ R:=by
 have hle:(first++args++cap).length≤af.ntmps:=by
  simp only[Bool.and_eq_true] at hn
  exact Nat.le_of_ble_eq_true hn.2
 refine GoesCall.run he hp hf hb hn ((h _ (isFr_start hle)).mono fun x fr' σ' ⟨f',h1,h2,h3⟩=>?_)
 refine⟨.ok (.tu []),σ',?_,h3⟩
 have e:endF env 0 af (.ret,fr',σ')=some [(.ok (.tu []),σ')]:=by
  show(match leave 0 (callD env 0) fr'.defers none σ' with
   |none=>none
   |some (some v,σ)=>some [(Ret.err v,σ)]
   |some (none,σ)=>match resultsOf σ fr'.slots af.results with
    |some v=>some [(.ok v,σ)]
    |none=>none)=_
  rw[h1.ds,hres];rfl
 rcases h2 with rfl|rfl
 ·exact e
 ·exact e
end
theorem mapO_same{α β:Type}{f g:α→Option β}:∀ {l:List α} {r:List β},mapO f l=some r→(∀x∈l,∀y,f x=some y→g x=some y)→mapO g l=some r
 |[],r,h,_=>by cases h;rfl
 |x::l,r,h,hp=>by
  rw[mapO_cons'] at h
  cases hx:f x with
  |none=>rw[hx] at h;cases h
  |some y=>
   rw[hx] at h
   cases hl:mapO f l with
   |none=>rw[hl] at h;cases h
   |some ys=>
    rw[hl] at h;cases h
    rw[mapO_cons',hp x (by simp) y hx,mapO_same hl fun w hw=>hp w (List.mem_cons_of_mem _ hw)]
theorem readList_keep{σ σ':St}(hk:∀i c,σ.get i=some (.cells c)→σ'.get i=some (.cells c)){v:AV}{l:List AV}(h:readList σ v=some l):readList σ' v=some l:=by
 cases v with
 |sl id off len sh cap=>
  have h:(match σ.get id with|some (.cells c)=>elems sh len (c.drop off)|_=>none)=some l:=h
  show(match σ'.get id with|some (.cells c)=>elems sh len (c.drop off)|_=>none)=some l
  cases hg:σ.get id with
  |none=>rw[hg] at h;cases h
  |some o=>
   cases o with
   |cells c=>rw[hg] at h;rw[hk id c hg];exact h
   |_=>rw[hg] at h;cases h
 |nilsl=>exact h
 |tl o sh xs=>exact h
 |_=>cases h
theorem snap_agI{σ:St}{n:Nat}{xs:List AV}{w:AV}(h:snapshot σ (n+1) (.ag xs)=some w):∃zs,mapO (snapshot σ n) xs=some zs∧w= .ag zs:=by
 rw[snapshot_succ] at h
 simp only[] at h
 cases hm:mapO (snapshot σ n) xs with
 |none=>rw[hm] at h;cases h
 |some zs=>rw[hm] at h;cases h;exact⟨zs,rfl,rfl⟩
theorem freeze_mono{σ:St}:∀(n:Nat) (v r:AV),freeze σ 0 n v=some r→freeze σ 0 (n+1) v=some r
 |0,_,_,h=>by cases h
 |n+1,v,r,h=>by
  have ih:=freeze_mono (σ:=σ) n
  rw[freeze_succ] at h ⊢
  cases v with
  |sl id off len sh cap=>
   simp only[] at h ⊢
   split at h
   ·cases h
   ·rename_i hb
    rw[if_neg hb]
    cases hr:readList σ (.sl id off len sh cap) with
    |none=>rw[hr] at h;cases h
    |some xs=>
     rw[hr] at h
     simp only[] at h ⊢
     cases hm:mapO (freeze σ 0 n) xs with
     |none=>rw[hm] at h;cases h
     |some ys=>rw[hm] at h;rw[mapO_same hm fun x _ y hy=>ih x y hy];exact h
  |ag l=>
   simp only[] at h ⊢
   cases hm:mapO (freeze σ 0 n) l with
   |none=>rw[hm] at h;cases h
   |some ys=>rw[hm] at h;rw[mapO_same hm fun x _ y hy=>ih x y hy];exact h
  |tu l=>
   simp only[] at h ⊢
   cases hm:mapO (freeze σ 0 n) l with
   |none=>rw[hm] at h;cases h
   |some ys=>rw[hm] at h;rw[mapO_same hm fun x _ y hy=>ih x y hy];exact h
  |it t v=>
   simp only[] at h ⊢
   cases hm:freeze σ 0 n v with
   |none=>rw[hm] at h;cases h
   |some y=>rw[hm] at h;rw[ih v y hm];exact h
  |p a=>cases a<;>exact h
  |m a=>cases a<;>exact h
  |_=>exact h
def inN(gs:List Nat)(g:Nat):Bool:=gs.any fun x=>Nat.beq x g
theorem inN_mem{g:Nat}{gs:List Nat}(h:inN gs g=true):g∈gs:=by
 obtain⟨x,h1,h2⟩:=List.any_eq_true.1 h
 rw[←Nat.eq_of_beq_eq_true h2];exact h1
abbrev Kp(σ τ:St):Prop:=∀i o,σ.get i=some o→τ.get i=some o
end
structure Hid(R:Prop):Prop where
 out:R
section
open Go Go.RowKit
theorem upd_ne{f:Nat→AV}{i j:Nat}{v:AV}(h:Nat.beq j i=false):upd f i v j=f j:=by show cond (Nat.beq j i) v (f j)=f j;rw[h];rfl
theorem upd_eq{f:Nat→AV}{i:Nat}{v:AV}:upd f i v i=v:=by show cond (Nat.beq i i) v (f i)=v;rw[Nat.beq_refl];rfl
variable [Tok][TokOk] in
theorem GoF.each{env:Env}{wh:Option Nat}{D:List (Nat ⊕ (AV×List AV))}{n i m c d b b':Nat}{body:ACode}{f:Nat→AV}{σ:St}{Q:PostF}(N:Nat)(I:Nat→(Nat→AV)→St→Prop)
  (hN:N<2^62) (h0:I 0 f σ) (hi0:f i=nI 0) (hm0:f m=nI N)
  (hb:∀j g τ,j<N→I j g τ→g i=nI j→g m=nI N→GoW env wh D n (.block b' body) (upd g c (.b true)) τ (fun x f' τ'=>match x with
   | .normal=>f' i=nI j∧f' m=nI N∧I (j+1) (upd (upd f' d (nI (j+1))) i (nI (j+1))) τ'
   | .exit e=>Nat.beq e b=false∧Q (.exit e) f' τ'
   |x=>Q x f' τ'))
  (hx:∀g τ,I N g τ→g i=nI N→Q .normal (upd g c (.b false)) τ)
  (hc:Nat.blt c n=true:=by rfl) (hd:Nat.blt d n=true:=by rfl) (hi:Nat.blt i n=true:=by rfl) (hm:Nat.blt m n=true:=by rfl) (hmd:Nat.beq m d=false:=by rfl) (hmi:Nat.beq m i=false:=by rfl):
  GoW env wh D n (.block b (.loop (.seq (.region [⟨some c,.bin .lss (.t i) (.t m),none,[]⟩]) (.seq (.cond (.t c) .skip (.exit b)) (.seq (.block b' body) (.region [⟨some d,.bin .add (.t i) (.c (.i .i64 1)),none,[]⟩,⟨some i,.mv (.t d),none,[]⟩])))))) f σ Q:=by
 refine GoF.block (GoF.loop (fun k g τ=>∃j,j+k=N∧I j g τ∧g i=nI j∧g m=nI N) ?_ N ⟨0,by omega,h0,hi0,hm0⟩)
 rintro k g τ ⟨j,hjk,hI,hgi,hgm⟩
 have ei:evF env n g (.t i)=some (nI j):=by show cond (Nat.blt i n) (some (g i)) none=_;rw[hi,hgi];rfl
 have em:evF env n g (.t m)=some (nI N):=by show cond (Nat.blt m n) (some (g m)) none=_;rw[hm,hgm];rfl
 refine GoF.seq (GoF.region ?_)
 refine GoO.cmp (a:=j) (b:=N) hc rfl ei em rfl ?_
 refine GoO.nil (GoF.seq (GoF.cnd (t:=decide (j<N)) (by show cond (Nat.blt c n) (some (upd g c (.b (decide (j<N))) c)) none=_;rw[hc,upd_eq];rfl) (fun h=>?_) fun h=>?_))
 ·have hj:j<N:=of_decide_eq_true h
  rw[h]
  refine GoF.skip (GoF.seq ((hb j g τ hj hI hgi hgm).mono fun x f' τ' h'=>?_))
  cases x with
  |normal=>
   obtain⟨h1,h2,h3⟩:=h'
   refine GoF.region ?_
   have e1:evF env n f' (.t i)=some (nI j):=by show cond (Nat.blt i n) (some (f' i)) none=_;rw[hi,h1];rfl
   refine GoO.bin hd rfl e1 rfl (bin_add (a:=j) (b:=1) (by omega)) ?_
   refine GoO.go rfl hi rfl (v:=nI (j+1)) (σ':=τ') ?_ ?_
   ·show(match cond (Nat.blt d n) (some (upd f' d (nI (j+1)) d)) none with|some v=>some (OpR.val v τ')|none=>none)=_
    rw[hd,upd_eq];rfl
   ·refine GoO.nil ?_
    refine⟨k-1,by omega,j+1,by omega,h3,upd_eq,?_⟩
    rw[upd_ne hmi,upd_ne hmd,h2]
  |exit e=>
   show cond (Nat.beq e b) (Q .normal f' τ') (Q (.exit e) f' τ')
   rw[h'.1];exact h'.2
  |ret=>exact h'
  |panic v=>exact h'
 ·have hj:j=N:=by have:=of_decide_eq_false h;omega
  subst hj
  rw[h]
  refine GoF.exit ?_
  show cond (Nat.beq b b) (Q .normal (upd g c (.b false)) τ) (Q (.exit b) (upd g c (.b false)) τ)
  rw[Nat.beq_refl];exact hx g τ hI hgi
end
section
variable [Tok][TokOk]
open Go.RowKit
abbrev Ob:=List (Nat×Nat×AO)
def StAt(N len:Nat)(states:List St)(q:Nat)(P:St→Prop):Prop:=∃j s,q+len=N+j∧nth states j=some s∧P s
theorem StAt.up{N len q:Nat}{states:List St}{σ:St}{P:St→Prop}(h:StAt N len states q P):StAt N (len+1) (σ::states) q P:=by
 obtain⟨j,s,h1,h2,h3⟩:=h
 exact⟨j+1,s,by omega,h2,h3⟩
structure DrI(env:Env)(N:Nat)(ob:Ob)(ops:List AOper)(σ:St)(x:DrO):Prop where
 way:∃t,(x.2.2.2::x.2.1).reverse=σ::t∧t.length=ops.length
 ob:∀p∈ob,StAt N ops.length (x.2.2.2::x.2.1).reverse p.1 fun s=>s.get p.2.1=some p.2.2
 saw:∀w∈x.2.2.1,∀q∈w.1.win,StAt N ops.length (x.2.2.2::x.2.1).reverse q fun s=>∃v τ,opx 0 (evalA env w.2.1) s w.1.op=some (.val v τ)∧AV.eqb env.fz v w.2.2=true
def DrO.on(ss:List St)(ws:List Saw)(x:DrO):DrO:=(x.1,x.2.1++ss,x.2.2.1++ws,x.2.2.2)
theorem DrO.on_on(x:DrO)(a c:List St)(d e:List Saw):(x.on a d).on c e=x.on (a++c) (d++e):=by
 show(x.1,(x.2.1++a)++c,(x.2.2.1++d)++e,x.2.2.2)=(x.1,x.2.1++(a++c),x.2.2.1++(d++e),x.2.2.2)
 rw[List.append_assoc,List.append_assoc]
def GoD(env:Env)(D:List (Nat ⊕ (AV×List AV)))(n N:Nat)(ob:Ob)(ops:List AOper)(f:Nat→AV)(σ:St)(Q:PostF):Prop:=
 ∀fr,IsFr D n f fr→∃F0 outs,outs≠[]∧(∀o∈outs,∃f',IsFr D n f' o.1∧Q .normal f' o.2)∧∀F,F0≤F→∃L:List DrO,L.map (fun x=>(x.1,x.2.2.2))=outs∧
  (∀ss ws,runDraws env 0 (callV env (exec env F) 0) ops fr ss ws σ=some (L.map (DrO.on ss ws)))∧∀x∈L,DrI env N ob ops σ x
section
variable {env:Env}{wh:Option Nat}{D:List (Nat ⊕ (AV×List AV))}{n N:Nat}{f:Nat→AV}{σ:St}{Q:PostF}{ob:Ob}
theorem GoF.drawD{ops:List AOper}(hs:swapT ops=true)(h:GoD env D n ops.length [] ops f σ Q):GoW env wh D n (.draw ops) f σ Q:=fun fr hfr=>by
 obtain⟨F0,outs,h0,h2,h1⟩:=h fr hfr
 refine⟨F0+1,outs.map fun o=>(.normal,o.1,o.2),by simpa using h0,fun F hF=>?_,fun o ho=>?_⟩
 ·obtain⟨k,rfl⟩:∃k,F=k+1:=⟨F-1,by omega⟩
  obtain⟨L,e,a2,a5⟩:=h1 k (by omega)
  show exec env (k+1) 0 wh (ACode.draw ops) fr σ=_
  rw[exec_succ]
  show(match runDraws env 0 (callV env (exec env k) 0) ops fr [] [] σ with|some l=>mapO (drawn env 0 ops) l|none=>none)=_
  rw[a2,← e,List.map_map]
  show mapO (drawn env 0 ops) (L.map (DrO.on [] []))=_
  have hx:∀x∈L,drawn env 0 ops (x.on [] [])=some (.normal,x.1,x.2.2.2):=fun x hx=>by
   have a5:=(a5 x hx).saw
   unfold drawn DrO.on
   simp only[List.append_nil]
   rw[swapOk_of hs,Bool.and_true,List.all_eq_true.2 fun w hwn=>?_];rfl
   unfold steady
   refine allB_of fun q hq=>?_
   obtain⟨j,s,e,b1,v,τ,b2,b3⟩:=a5 w hwn q hq
   obtain rfl:q=j:=by omega
   rw[b1]
   show(match opxF w.1.op 0 (evalA env w.2.1) s with|some (.val v _)=>AV.eqb env.fz v w.2.2|_=>false)=true
   rw[opxF_eq,b2];exact b3
  clear a5 a2 e
  induction L with
  |nil=>rfl
  |cons x L ih=>
   rw[List.map_cons,mapO_cons',hx x List.mem_cons_self,ih fun y hy=>hx y (List.mem_cons_of_mem _ hy)];rfl
 ·obtain⟨x,hx,rfl⟩:=List.mem_map.1 ho
  obtain⟨f',a1,a2⟩:=h2 x hx
  exact⟨f',a1,a2⟩
theorem DrI.one{o:AOper}{ops:List AOper}{σ1:St}{ob':Ob}{x:DrO}{wl:List Saw}(h:DrI env N ob' ops σ1 x)(hob:∀p∈ob,p∈ob')(hw:∀w∈wl,∀q∈w.1.win,∀st,(∀p∈ob',StAt N ops.length st p.1 fun s=>s.get p.2.1=some p.2.2)→st.length=ops.length+1→StAt N ops.length st q fun s=>∃v τ,opx 0 (evalA env w.2.1) s w.1.op=some (.val v τ)∧AV.eqb env.fz v w.2.2=true):DrI env N ob (o::ops) σ (x.on [σ] wl):=by
 have e:((x.on [σ] wl).2.2.2::(x.on [σ] wl).2.1).reverse=σ::(x.2.2.2::x.2.1).reverse:=by
  show(x.2.2.2::(x.2.1++[σ])).reverse=_
  rw[←List.cons_append,List.reverse_append];rfl
 obtain⟨t,g1,g2⟩:=h.way
 refine⟨⟨_,e,by rw[g1];simp[g2]⟩,fun p hp=>?_,fun w hw' q hq=>?_⟩
 ·rw[e];exact(h.ob p (hob p hp)).up
 ·rw[e]
  rcases List.mem_append.1 hw' with hw'|hw'
  ·exact(h.saw w hw' q hq).up
  ·exact(hw w hw' q hq _ h.ob (by rw[g1];simp[g2])).up
theorem GoD.one{o:AOper}{ops:List AOper}{f1:Nat→AV}{σ1:St}{ob':Ob}{wl:Tr AV→List Saw}(h:GoD env D n N ob' ops f1 σ1 Q)(hob:∀p∈ob,p∈ob')
  (hr:∀fr,IsFr D n f fr→∃fr1 F0,IsFr D n f1 fr1∧(∀w∈wl fr.slots,∀q∈w.1.win,∀st,(∀p∈ob',StAt N ops.length st p.1 fun s=>s.get p.2.1=some p.2.2)→st.length=ops.length+1→StAt N ops.length st q fun s=>∃v τ,opx 0 (evalA env w.2.1) s w.1.op=some (.val v τ)∧AV.eqb env.fz v w.2.2=true)∧
   ∀F,F0≤F→∀ss ws,runDraws env 0 (callV env (exec env F) 0) (o::ops) fr ss ws σ=runDraws env 0 (callV env (exec env F) 0) ops fr1 (σ::ss) (wl fr.slots++ws) σ1):GoD env D n N ob (o::ops) f σ Q:=fun fr hfr=>by
 obtain⟨fr1,F1,hfr1,hw,hr⟩:=hr fr hfr
 obtain⟨F0,outs,h0,h2,h1⟩:=h fr1 hfr1
 refine⟨max F0 F1,outs,h0,h2,fun F hF=>?_⟩
 obtain⟨L,e,g3,g4⟩:=h1 F (by omega)
 refine⟨L.map (DrO.on [σ] (wl fr.slots)),by rw[List.map_map];exact e,fun ss ws=>?_,fun x hx=>?_⟩
 ·rw[hr F (by omega),g3,List.map_map]
  congr 1
  exact List.map_congr_left fun x _=>(x.on_on [σ] ss (wl fr.slots) ws).symm
 ·obtain⟨y,hy,rfl⟩:=List.mem_map.1 hx
  exact(g4 y hy).one hob hw
theorem GoD.val{d:Option Nat}{op:AOp}{g:Option (Nat×Bool)}{ops:List AOper}{v:AV}{σ':St}(hd:∀x,d=some x→Nat.blt x n=true)(hw:wantedF g n f=true)(ho:opx 0 (evF env n f) σ op=some (.val v σ'))(h:GoD env D n N ob ops (match d with|some d=>upd f d v|none=>f) σ' Q):
  GoD env D n N ob (⟨d,op,g,[]⟩::ops) f σ Q:=GoD.one (wl:=fun _=>[]) h (fun _ h=>h) fun fr hfr=>⟨fr.put d v,0,by
 cases d with
 |none=>exact hfr
 |some d=>exact hfr.put v (hd d rfl),fun _ h=>absurd h (by simp),fun F _ ss ws=>by
  rw[runDraws_cons]
  show cond (wantedA g fr.slots) _ _=_
  rw[hfr.wanted,hw,cond_true,hfr.ev,ho];rfl⟩
theorem GoD.off{d:Nat}{op:AOp}{g:Option (Nat×Bool)}{wn:List Nat}{ops:List AOper}(hd:Nat.blt d n=true)(hw:wantedF g n f=false)(h:GoD env D n N ob ops (upd f d undefA) σ Q):GoD env D n N ob (⟨some d,op,g,wn⟩::ops) f σ Q:=
 GoD.one (wl:=fun _=>[]) h (fun _ h=>h) fun fr hfr=>⟨fr.put (some d) undefA,0,hfr.put _ hd,fun _ h=>absurd h (by simp),fun F _ ss ws=>by
  rw[runDraws_cons]
  show cond (wantedA g fr.slots) _ _=_
  rw[hfr.wanted,hw,cond_false];rfl⟩
theorem GoD.ldw{d:Nat}{op:AOp}{g:Option (Nat×Bool)}{wn:List Nat}{ops:List AOper}{v:AV}{id:Nat}{c:AO}(hs:σ.get id=some c)(hd:Nat.blt d n=true)(hw:wantedF g n f=true)(ho:∀s:St,s.get id=some c→opx 0 (evF env n f) s op=some (.val v s))(hv:AV.eqb env.fz v v=true)
  (h:GoD env D n N (wn.map (fun q=>(q,id,c))++ob) ops (upd f d v) σ Q):GoD env D n N ob (⟨some d,op,g,wn⟩::ops) f σ Q:=
 GoD.one (wl:=fun sl=>match wn with|[]=>[]|_::_=>[(⟨some d,op,g,wn⟩,sl,v)]) h (fun _ h=>List.mem_append.2 (.inr h)) fun fr hfr=>⟨fr.put (some d) v,0,hfr.put v hd,fun w hw' q hq st hst _=>by
  cases wn with
  |nil=>simp at hw'
  |cons a l=>
   rw[List.mem_singleton.1 hw'] at hq ⊢
   obtain⟨j,s,e1,e2,e3⟩:=hst (q,id,c) (List.mem_append.2 (.inl (List.mem_map.2 ⟨q,hq,rfl⟩)))
   exact⟨j,s,e1,e2,v,s,by show opx 0 (evalA env fr.slots) s op=_;rw[hfr.ev];exact ho s e3,hv⟩,fun F _ ss ws=>by
  rw[runDraws_cons]
  show cond (wantedA g fr.slots) _ _=_
  rw[hfr.wanted,hw,cond_true,hfr.ev,ho σ hs]
  cases wn<;>rfl⟩
theorem GoD.pw{d:Nat}{op:AOp}{g:Option (Nat×Bool)}{wn:List Nat}{ops:List AOper}{v:AV}(hwn:allB (fun q=>Nat.ble N (q+ops.length)&&Nat.ble q N) wn=true)(hd:Nat.blt d n=true)(hw:wantedF g n f=true)(ho:∀s:St,opx 0 (evF env n f) s op=some (.val v s))(hv:AV.eqb env.fz v v=true)
  (h:GoD env D n N ob ops (upd f d v) σ Q):GoD env D n N ob (⟨some d,op,g,wn⟩::ops) f σ Q:=
 GoD.one (wl:=fun sl=>match wn with|[]=>[]|_::_=>[(⟨some d,op,g,wn⟩,sl,v)]) h (fun _ h=>h) fun fr hfr=>⟨fr.put (some d) v,0,hfr.put v hd,fun w hw' q hq st hst hl=>by
  cases wn with
  |nil=>simp at hw'
  |cons a l=>
   rw[List.mem_singleton.1 hw'] at hq ⊢
   have hb:=allB_mem hwn q hq
   simp only[Bool.and_eq_true] at hb
   have h1:=Nat.le_of_ble_eq_true hb.1
   have h2:=Nat.le_of_ble_eq_true hb.2
   obtain⟨s,hs⟩:∃s,nth st (q+ops.length-N)=some s:=⟨st[q+ops.length-N]'(by omega),by rw[nth_eq,List.getElem?_eq_getElem]⟩
   exact⟨q+ops.length-N,s,by omega,hs,v,s,by show opx 0 (evalA env fr.slots) s op=_;rw[hfr.ev];exact ho s,hv⟩,fun F _ ss ws=>by
  rw[runDraws_cons]
  show cond (wantedA g fr.slots) _ _=_
  rw[hfr.wanted,hw,cond_true,hfr.ev,ho σ]
  cases wn<;>rfl⟩
theorem flatO_app{α β:Type}{f:α→Option (List β)}{x:α}{l:List α}{a c:List β}(h1:f x=some a)(h2:flatO f l=some c):flatO f (x::l)=some (a++c):=by
 cases l with
 |nil=>
  have h2:some ([]:List β)=some c:=h2
  cases h2
  rw[List.append_nil];exact h1
 |cons y t=>
  show(match f x with|none=>none|some a=>match flatO f (y::t) with|none=>none|some b=>some (a++b))=_
  rw[h1,h2]
theorem GoD.call{d:Nat}{op:AOp}{g:Option (Nat×Bool)}{ops:List AOper}{fv:AV}{args:List AV}{R:Ret→St→Prop}(hd:Nat.blt d n=true)(hw:wantedF g n f=true)(ho:opx 0 (evF env n f) σ op=some (.call fv args))
  (hc:GoesCall env 0 fv args σ R) (h:∀r σ',R r σ'→∃v,r= .ok v∧GoD env D n N ob ops (upd f d v) σ' Q):GoD env D n N ob (⟨some d,op,g,[]⟩::ops) f σ Q:=fun fr hfr=>by
 obtain⟨F1,l,hl,h2,h3⟩:=hc
 have key:∀l:List (Ret×St),(∀o∈l,R o.1 o.2)→∃F0 outs,(l≠[]→outs≠[])∧(∀o∈outs,∃f',IsFr D n f' o.1∧Q .normal f' o.2)∧∀F,F0≤F→∃L:List DrO,L.map (fun x=>(x.1,x.2.2.2))=outs∧
   (∀ss ws,flatO (fun r=>match r with|(.ok v,σ')=>runDraws env 0 (callV env (exec env F) 0) ops (fr.put (some d) v) (σ::ss) ws σ'|_=>none) l=some (L.map (DrO.on ss ws)))∧∀x∈L,DrI env N ob (⟨some d,op,g,[]⟩::ops) σ x:=by
  intro l
  induction l with
  |nil=>exact fun _=>⟨0,[],fun h=>absurd rfl h,fun o ho=>by simp at ho,fun F _=>⟨[],rfl,fun _ _=>rfl,fun x hx=>by simp at hx⟩⟩
  |cons y l ih=>
   intro hR
   obtain⟨F2,outs2,_,b2,b3⟩:=ih fun o ho=>hR o (List.mem_cons_of_mem _ ho)
   obtain⟨r,σ'⟩:=y
   obtain⟨v,rfl,hG⟩:=h r σ' (hR _ List.mem_cons_self)
   obtain⟨F0,outs,c1,c2,c3⟩:=hG _ (hfr.put v hd)
   refine⟨max F0 F2,outs++outs2,fun _ e=>c1 (List.append_eq_nil_iff.1 e).1,fun o ho=>?_,fun F hF=>?_⟩
   ·rcases List.mem_append.1 ho with ho|ho
    ·exact c2 o ho
    ·exact b2 o ho
   ·obtain⟨L,e,g3,g4⟩:=c3 F (by omega)
    obtain⟨L2,e2,k3,k4⟩:=b3 F (by omega)
    refine⟨L.map (DrO.on [σ] [])++L2,by rw[List.map_append,List.map_map,e2];congr 1,fun ss ws=>?_,fun x hx=>?_⟩
    ·rw[List.map_append,List.map_map]
     refine flatO_app ?_ (k3 ss ws)
     show runDraws env 0 _ ops _ (σ::ss) ws σ'=_
     rw[g3]
     congr 1
     exact List.map_congr_left fun x _=>(x.on_on [σ] ss [] ws).symm
    ·rcases List.mem_append.1 hx with hx|hx
     ·obtain⟨z,hz,rfl⟩:=List.mem_map.1 hx
      exact(g4 z hz).one (fun _ h=>h) fun w hw=>by simp at hw
     ·exact k4 x hx
 obtain⟨F0,outs,a1,a2,a3⟩:=key l h3
 refine⟨max F0 F1,outs,a1 hl,a2,fun F hF=>?_⟩
 obtain⟨L,e,g3,g4⟩:=a3 F (by omega)
 refine⟨L,e,fun ss ws=>?_,g4⟩
 rw[runDraws_cons]
 show cond (wantedA g fr.slots) _ _=_
 rw[hfr.wanted,hw,cond_true,hfr.ev,ho]
 show(match callV env (exec env F) 0 fv args σ with|some (x::l)=>flatO _ (x::l)|_=>none)=_
 rw[show callV env (exec env F) 0 fv args σ=some l from h2 F (by omega)]
 cases l with
 |nil=>exact absurd rfl hl
 |cons x l=>exact g3 ss ws
def HasL(σ:St):Ob→Prop
 |[]=>True
 |p::l=>σ.get p.2.1=some p.2.2∧HasL σ l
theorem HasL.mem{σ:St}:∀ {l:Ob},HasL σ l→∀p∈l,σ.get p.2.1=some p.2.2
 |_::_,h,p,hp=>by
  rcases List.mem_cons.1 hp with rfl|hp
  ·exact h.1
  ·exact h.2.mem p hp
def hereO(N len:Nat)(ob:Ob):Ob:=ob.filter fun p=>Nat.beq (p.1+len) N
def laterO(N len:Nat)(ob:Ob):Ob:=ob.filter fun p=>!Nat.beq (p.1+len) N
theorem GoD.now{ops:List AOper}(l l':Ob)(h1:hereO N ops.length ob=l)(h2:laterO N ops.length ob=l')(hh:HasL σ l)(h:GoD env D n N l' ops f σ Q):GoD env D n N ob ops f σ Q:=fun fr hfr=>by
 obtain⟨F0,outs,g0,g2,g1⟩:=h fr hfr
 refine⟨F0,outs,g0,g2,fun F hF=>?_⟩
 obtain⟨L,e,a3,a4⟩:=g1 F hF
 refine⟨L,e,a3,fun x hx=>⟨(a4 x hx).way,fun p hp=>?_,(a4 x hx).saw⟩⟩
 obtain⟨t,a1,_⟩:=(a4 x hx).way
 by_cases hb:Nat.beq (p.1+ops.length) N=true
 ·exact⟨0,σ,by rw[Nat.eq_of_beq_eq_true hb];rfl,by rw[a1];rfl,hh.mem p (by rw[←h1];exact List.mem_filter.2 ⟨hp,hb⟩)⟩
 ·exact(a4 x hx).ob p (by rw[←h2];exact List.mem_filter.2 ⟨hp,by rw[Bool.eq_false_iff.2 hb];rfl⟩)
theorem GoD.nil(hh:hereO N 0 ob=ob)(hl:HasL σ ob)(h:Q .normal f σ):GoD env D n N ob [] f σ Q:=fun fr hfr=>
 ⟨0,[(fr,σ)],by simp,fun o ho=>by rw[List.mem_singleton.1 ho];exact⟨f,hfr,h⟩,fun F _=>⟨[(fr,[],[],σ)],rfl,fun _ _=>rfl,fun x hx=>by
  rw[List.mem_singleton.1 hx]
  refine⟨⟨[],rfl,rfl⟩,fun p hp=>⟨0,σ,?_,rfl,hl.mem p hp⟩,fun _ h=>absurd h (by simp)⟩
  rw[←hh] at hp
  exact Nat.eq_of_beq_eq_true (List.mem_filter.1 hp).2⟩⟩
end
inductive Md where
 |pl
 |dr (N:Nat) (ob:Ob)
def GoM(md:Md)(env:Env)(wh:Option Nat)(D:List (Nat ⊕ (AV×List AV)))(n:Nat)(ops:List AOper)(f:Nat→AV)(σ:St)(Q:PostF):Prop:=
 match md with
 | .pl=>GoV env wh D n ops f σ Q
 | .dr N ob=>GoD env D n N ob ops f σ Q
structure Has(σ:St)(L:List (Nat×List AV)):Prop where
 get:∀p∈L,σ.get p.1=some (.cells p.2)
 dis:L.Pairwise fun a b=>a.1≠b.1
theorem Has.nil{σ:St}:Has σ []:=⟨fun _ h=>absurd h (by simp),.nil⟩
theorem Has.keep{σ τ:St}{L:List (Nat×List AV)}(h:Has σ L)(k:∀i o,σ.get i=some o→τ.get i=some o):Has τ L:=⟨fun p hp=>k _ _ (h.get p hp),h.dis⟩
theorem HasL.c{σ:St}{L:List (Nat×List AV)}{l:Ob}{k id:Nat}{c:List AV}(H:Has σ L)(hm:(id,c)∈L)(h:HasL σ l):HasL σ ((k,id,.cells c)::l):=⟨H.get _ hm,h⟩
theorem Has.lt{σ:St}{L:List (Nat×List AV)}(h:Has σ L){p:Nat×List AV}(hp:p∈L):p.1<σ.next:=St.get_lt (h.get p hp)
theorem Has.cons{σ:St}{L:List (Nat×List AV)}{k:Nat}{c:List AV}(h:Has σ L)(hk:σ.get k=some (.cells c))(hn:∀p∈L,p.1≠k):Has σ ((k,c)::L):=⟨fun p hp=>by
 rcases List.mem_cons.1 hp with rfl|hp
 ·exact hk
 ·exact h.get p hp,List.pairwise_cons.2 ⟨fun p hp e=>hn p hp e.symm,h.dis⟩⟩
theorem Has.push{σ τ:St}{L:List (Nat×List AV)}{k:Nat}{c:List AV}(h:Has σ L)(hn:σ.next=k)(hk:τ.get k=some (.cells c))(kp:∀i o,σ.get i=some o→τ.get i=some o):Has τ ((k,c)::L):=
 (h.keep kp).cons hk fun p hp=>by have:=h.lt hp;omega
theorem Has.set{σ τ:St}{L:List (Nat×List AV)}{id:Nat}{c c':List AV}(h:Has σ L)(j:Nat)(hj:L[j]? =some (id,c))(hk:τ.get id=some (.cells c'))(kp:∀i o,i≠id→σ.get i=some o→τ.get i=some o):Has τ (L.set j (id,c')):=by
 obtain⟨hlt,he⟩:=List.getElem?_eq_some_iff.1 hj
 have hne:∀i (hi:i<L.length),i≠j→(L[i]).1≠id:=fun i hi hij=>by
  have hp:=List.pairwise_iff_getElem.1 h.dis
  have e:(L[j]).1=id:=by rw[he]
  rcases Nat.lt_or_ge i j with h1|h1
  ·rw[←e];exact hp i j hi hlt h1
  ·rw[←e];exact fun e'=>hp j i hlt hi (by omega) e'.symm
 refine⟨fun p hp=>?_,List.pairwise_iff_getElem.2 fun a b ha hb hab=>?_⟩
 ·obtain⟨i,hi,rfl⟩:=List.getElem_of_mem hp
  rw[List.length_set] at hi
  rw[List.getElem_set]
  split
  ·exact hk
  ·exact kp _ _ (hne i hi (by omega)) (h.get _ (List.getElem_mem hi))
 ·rw[List.length_set] at ha hb
  rw[List.getElem_set,List.getElem_set]
  split<;>split
  ·omega
  ·rename_i e _;exact fun e'=>hne b hb (by omega) e'.symm
  ·exact hne a ha (by omega)
  ·exact List.pairwise_iff_getElem.1 h.dis a b ha hb hab
def lk:List (Nat×AV)→Nat→Option AV
 |[],_=>none
 |(j,v)::L,i=>cond (Nat.beq i j) (some v) (lk L i)
def evL(env:Env)(n:Nat)(L:List (Nat×AV))(g:Nat→AV):AOpd→Option AV
 | .t i=>cond (Nat.blt i n) (match lk L i with|some v=>some v|none=>some (g i)) none
 | .c v=>some v
 | .g j=>match env.glob j with|some v=>some (.tp true v)|none=>none
theorem lk_upds{g:Nat→AV}:∀ {L:List (Nat×AV)} (i:Nat),upds L g i=(match lk L i with|some v=>v|none=>g i)
 |[],i=>rfl
 |(j,v)::L,i=>by
  show cond (Nat.beq i j) v (upds L g i)=(match cond (Nat.beq i j) (some v) (lk L i) with|some v=>v|none=>g i)
  cases Nat.beq i j with
  |true=>rfl
  |false=>exact lk_upds i
theorem evL_eq(env:Env)(n:Nat)(L:List (Nat×AV))(g:Nat→AV):evF env n (upds L g)=evL env n L g:=by
 funext x
 cases x with
 |t i=>
  show cond (Nat.blt i n) (some (upds L g i)) none=cond (Nat.blt i n) (match lk L i with|some v=>some v|none=>some (g i)) none
  rw[lk_upds]
  cases lk L i<;>rfl
 |c v=>rfl
 |g j=>rfl
def wtL(q:Option (Nat×Bool))(n:Nat)(L:List (Nat×AV)):Bool:=
 match q with
 |none=>true
 |some (d,w)=>cond (Nat.blt d n) (match lk L d with|some (.b x)=>x==w|_=>false) false
def offL(q:Option (Nat×Bool))(n:Nat)(L:List (Nat×AV)):Bool:=
 match q with
 |none=>false
 |some (d,w)=>cond (Nat.blt d n) (match lk L d with|some (.b x)=>!(x==w)|some _=>true|none=>false) false
theorem wtL_t{q:Option (Nat×Bool)}{n:Nat}{L:List (Nat×AV)}{g:Nat→AV}(h:wtL q n L=true):wantedF q n (upds L g)=true:=by
 cases q with
 |none=>rfl
 |some p=>
  obtain⟨d,w⟩:=p
  have h:cond (Nat.blt d n) (match lk L d with|some (.b x)=>x==w|_=>false) false=true:=h
  show cond (Nat.blt d n) (match upds L g d with| .b x=>x==w|_=>false) false=true
  cases hb:Nat.blt d n with
  |false=>rw[hb] at h;cases h
  |true=>
   rw[hb,cond_true] at h
   rw[cond_true,lk_upds]
   split at h
   ·rename_i hl;rw[hl];exact h
   ·cases h
theorem offL_t{q:Option (Nat×Bool)}{n:Nat}{L:List (Nat×AV)}{g:Nat→AV}(h:offL q n L=true):wantedF q n (upds L g)=false:=by
 cases q with
 |none=>cases h
 |some p=>
  obtain⟨d,w⟩:=p
  have h:cond (Nat.blt d n) (match lk L d with|some (.b x)=>!(x==w)|some _=>true|none=>false) false=true:=h
  show cond (Nat.blt d n) (match upds L g d with| .b x=>x==w|_=>false) false=false
  cases hb:Nat.blt d n with
  |false=>rw[hb] at h;cases h
  |true=>
   rw[hb,cond_true] at h
   rw[cond_true,lk_upds]
   split at h
   ·rename_i hl;rw[hl];simpa using h
   ·rename_i x hx hl
    rw[hl]
    clear hl
    cases x with
    |b y=>exact absurd rfl (hx y)
    |_=>rfl
   ·cases h
namespace W
section
variable {env:Env}{wh:Option Nat}{D:List (Nat ⊕ (AV×List AV))}{n:Nat}{F:List (Nat×AV)}{z:Nat→AV}{σ:St}{Q:PostF}
theorem sq{a b:ACode}(h:GoW env wh D n a (upds F z) σ (fun x f σ=>match x with| .normal=>GoW env wh D n b f σ Q|x=>Q x f σ)):GoW env wh D n (.seq a b) (upds F z) σ Q:=GoF.seq h
theorem sk(h:Q .normal (upds F z) σ):GoW env wh D n .skip (upds F z) σ Q:=GoF.skip h
theorem ct1{o:AOpd}{a b:ACode}(ho:evL env n F z o=some (.b true))(h:GoW env wh D n a (upds F z) σ Q):GoW env wh D n (.cond o a b) (upds F z) σ Q:=GoF.cnd (t:=true) (by rw[evL_eq];exact ho) (fun _=>h) fun h=>by cases h
theorem ct0{o:AOpd}{a b:ACode}(ho:evL env n F z o=some (.b false))(h:GoW env wh D n b (upds F z) σ Q):GoW env wh D n (.cond o a b) (upds F z) σ Q:=GoF.cnd (t:=false) (by rw[evL_eq];exact ho) (fun h=>by cases h) fun _=>h
end
section
variable {md:Md}{env:Env}{wh:Option Nat}{D:List (Nat ⊕ (AV×List AV))}{n:Nat}{F:List (Nat×AV)}{z:Nat→AV}{σ:St}{Q:PostF}
theorem rg{ops:List AOper}(h:GoM .pl env wh D n ops (upds F z) σ Q):GoW env wh D n (.region ops) (upds F z) σ Q:=GoF.region h
theorem dw{ops:List AOper}(hs:swapT ops=true)(h:GoM (.dr ops.length []) env wh D n ops (upds F z) σ Q):GoW env wh D n (.draw ops) (upds F z) σ Q:=GoF.drawD hs h
theorem nil(h:Q .normal (upds F z) σ):GoM .pl env wh D n [] (upds F z) σ Q:=GoO.nil h
theorem nild{N:Nat}(h:Q .normal (upds F z) σ):GoM (.dr N []) env wh D n [] (upds F z) σ Q:=GoD.nil rfl trivial h
theorem now{N:Nat}{ob:Ob}{ops:List AOper}(l l':Ob)(h1:hereO N ops.length ob=l)(h2:laterO N ops.length ob=l')(hh:HasL σ l)(h:GoM (.dr N l') env wh D n ops (upds F z) σ Q):GoM (.dr N ob) env wh D n ops (upds F z) σ Q:=GoD.now l l' h1 h2 hh h
theorem val{d:Nat}{op:AOp}{g:Option (Nat×Bool)}{ops:List AOper}{v:AV}{σ':St}(hd:Nat.blt d n=true)(hw:wtL g n F=true)(ho:opx 0 (evL env n F z) σ op=some (.val v σ'))(h:GoM md env wh D n ops (upds ((d,v)::F) z) σ' Q):GoM md env wh D n (⟨some d,op,g,[]⟩::ops) (upds F z) σ Q:=by
 cases md with
 |pl=>exact GoO.val hd (wtL_t hw) (by rw[evL_eq];exact ho) h
 |dr N ob=>exact GoD.val (fun x e=>by cases e;exact hd) (wtL_t hw) (by rw[evL_eq];exact ho) h
theorem eff{op:AOp}{g:Option (Nat×Bool)}{ops:List AOper}{v:AV}{σ':St}(hw:wtL g n F=true)(ho:opx 0 (evL env n F z) σ op=some (.val v σ'))(h:GoM md env wh D n ops (upds F z) σ' Q):GoM md env wh D n (⟨none,op,g,[]⟩::ops) (upds F z) σ Q:=by
 cases md with
 |pl=>exact GoO.eff (wtL_t hw) (by rw[evL_eq];exact ho) h
 |dr N ob=>exact GoD.val (fun x e=>by cases e) (wtL_t hw) (by rw[evL_eq];exact ho) h
theorem off{d:Nat}{op:AOp}{g:Option (Nat×Bool)}{wn:List Nat}{ops:List AOper}(hd:Nat.blt d n=true)(hw:offL g n F=true)(h:GoM md env wh D n ops (upds ((d,undefA)::F) z) σ Q):GoM md env wh D n (⟨some d,op,g,wn⟩::ops) (upds F z) σ Q:=by
 cases md with
 |pl=>exact GoO.off hd (offL_t hw) h
 |dr N ob=>exact GoD.off hd (offL_t hw) h
def easy:AOp→Bool
 | .mv _=>true| .pick _ _ _=>true| .build _ _=>true| .nilCheck _=>true| .binB _ _ _=>true| .eqNil _ _ _ _=>true| .not _=>true| .mkFunc _ _ _=>true| .mkIface _ _=>true
 | .sliceSl _ _ _ _ _=>true| .sliceArr _ _ _ _ _=>true| .sliceStr _ _ _=>true| .fieldAddr _ _ _=>true| .field _ _ _=>true| .idxArr _ _ _ _=>true| .idxSl _ _ _=>true| .extract _ _=>true| .lenConst _=>true
 |_=>false
theorem go{d:Nat}{op:AOp}{g:Option (Nat×Bool)}{ops:List AOper}{v:AV}{σ':St}(_hb:easy op=true)(hd:Nat.blt d n=true)(hw:wtL g n F=true)(ho:opx 0 (evL env n F z) σ op=some (.val v σ'))(h:GoM md env wh D n ops (upds ((d,v)::F) z) σ' Q):GoM md env wh D n (⟨some d,op,g,[]⟩::ops) (upds F z) σ Q:=val hd hw ho h
theorem bin{d:Nat}{op:BinOp}{x y:AOpd}{g:Option (Nat×Bool)}{ops:List AOper}{a b v:AV}(hd:Nat.blt d n=true)(hw:wtL g n F=true)(h1:evL env n F z x=some a)(h2:evL env n F z y=some b)(h3:binop op a b=some v)(h:GoM md env wh D n ops (upds ((d,v)::F) z) σ Q):GoM md env wh D n (⟨some d,.bin op x y,g,[]⟩::ops) (upds F z) σ Q:=val hd hw (op_bin a b v h1 h2 h3) h
def cmpP(op:BinOp)(a b:Nat):Prop:=
 match op with
 | .eql=>a=b
 | .neq=>¬a=b
 | .lss=>a<b
 | .leq=>a≤b
 | .gtr=>b<a
 | .geq=>b≤a
 |_=>False
def isCmp:BinOp→Bool
 | .eql=>true
 | .neq=>true
 | .lss=>true
 | .leq=>true
 | .gtr=>true
 | .geq=>true
 |_=>false
theorem cmpO_t{op:BinOp}{a b:Nat}(h:cmpP op a b):cmpO op a b=some (.b true):=by
 cases op<;>first
  |(have h:_:=h;simp only[cmpP] at h;simp only[cmpO,decide_eq_true h];done)
  |(have h:_:=h;simp only[cmpP] at h;simp only[cmpO,decide_eq_false h,Bool.not_false];done)
  |exact h.elim
theorem cmpO_f{op:BinOp}{a b:Nat}(hc:isCmp op=true)(h:¬cmpP op a b):cmpO op a b=some (.b false):=by
 cases op<;>first
  |(simp only[cmpP] at h;simp only[cmpO,decide_eq_false h];done)
  |(simp only[cmpP,Decidable.not_not] at h;simp only[cmpO,decide_eq_true h,Bool.not_true];done)
  |cases hc
theorem ct{d:Nat}{op:BinOp}{x y:AOpd}{g:Option (Nat×Bool)}{ops:List AOper}{k:IntKind}{a b:Nat}(hd:Nat.blt d n=true)(hw:wtL g n F=true)(h1:evL env n F z x=some (.i k (Int.ofNat a)))(h2:evL env n F z y=some (.i k (Int.ofNat b)))(h3:cmpP op a b)(h:GoM md env wh D n ops (upds ((d,.b true)::F) z) σ Q):GoM md env wh D n (⟨some d,.bin op x y,g,[]⟩::ops) (upds F z) σ Q:=bin hd hw h1 h2 (bin_cmp (cmpO_t h3)) h
theorem cf{d:Nat}{op:BinOp}{x y:AOpd}{g:Option (Nat×Bool)}{ops:List AOper}{k:IntKind}{a b:Nat}(hd:Nat.blt d n=true)(hw:wtL g n F=true)(hc:isCmp op=true)(h1:evL env n F z x=some (.i k (Int.ofNat a)))(h2:evL env n F z y=some (.i k (Int.ofNat b)))(h3:¬cmpP op a b)(h:GoM md env wh D n ops (upds ((d,.b false)::F) z) σ Q):GoM md env wh D n (⟨some d,.bin op x y,g,[]⟩::ops) (upds F z) σ Q:=bin hd hw h1 h2 (bin_cmp (cmpO_f hc h3)) h
theorem cm{d:Nat}{op:BinOp}{x y:AOpd}{g:Option (Nat×Bool)}{ops:List AOper}{k:IntKind}{a b:Nat}{v:AV}(hd:Nat.blt d n=true)(hw:wtL g n F=true)(h1:evL env n F z x=some (.i k (Int.ofNat a)))(h2:evL env n F z y=some (.i k (Int.ofNat b)))(h3:cmpO op a b=some v)(h:GoM md env wh D n ops (upds ((d,v)::F) z) σ Q):GoM md env wh D n (⟨some d,.bin op x y,g,[]⟩::ops) (upds F z) σ Q:=bin hd hw h1 h2 (bin_cmp h3) h
theorem len{d k m:Nat}{x:AOpd}{g:Option (Nat×Bool)}{ops:List AOper}{v:AV}(hd:Nat.blt d n=true)(hw:wtL g n F=true)(h1:evL env n F z x=some v)(h2:lenA σ k v=some m)(h:GoM md env wh D n ops (upds ((d,nI m)::F) z) σ Q):GoM md env wh D n (⟨some d,.len k x,g,[]⟩::ops) (upds F z) σ Q:=val hd hw (op_len h1 h2) h
theorem ix{d:Nat}{sh:Option Nat}{x i:AOpd}{g:Option (Nat×Bool)}{ops:List AOper}{k:IntKind}{a v:AV}{j:Nat}(hd:Nat.blt d n=true)(hw:wtL g n F=true)(h1:evL env n F z x=some a)(h2:evL env n F z i=some (.i k (Int.ofNat j)))(h3:idxSlA sh a j=some v)(h:GoM md env wh D n ops (upds ((d,v)::F) z) σ Q):GoM md env wh D n (⟨some d,.idxSl sh x i,g,[]⟩::ops) (upds F z) σ Q:=val hd hw (op_idxSl k a j v h1 h2 h3) h
theorem ldt{d:Nat}{sh:Option Nat}{x:AOpd}{g:Option (Nat×Bool)}{ops:List AOper}{o:Bool}{v:AV}(hd:Nat.blt d n=true)(hw:wtL g n F=true)(h1:evL env n F z x=some (.tp o v))(h2:conf sh v=true)(h:GoM md env wh D n ops (upds ((d,v)::F) z) σ Q):GoM md env wh D n (⟨some d,.load sh x,g,[]⟩::ops) (upds F z) σ Q:=val hd hw (op_load _ _ h1 (by show(if conf sh v then some v else none)=_;rw[if_pos h2])) h
theorem ld{L:List (Nat×List AV)}(H:Has σ L){d:Nat}{sh:Option Nat}{x:AOpd}{g:Option (Nat×Bool)}{ops:List AOper}{id off:Nat}{c:List AV}{v:AV}(hd:Nat.blt d n=true)(hw:wtL g n F=true)(h1:evL env n F z x=some (.p (some (id,off))))(hm:(id,c)∈L)(h2:takeSh sh (c.drop off)=some v)(h:GoM md env wh D n ops (upds ((d,v)::F) z) σ Q):GoM md env wh D n (⟨some d,.load sh x,g,[]⟩::ops) (upds F z) σ Q:=val hd hw (op_load _ _ h1 (loadA_p (H.get _ hm) h2)) h
theorem ldw{N:Nat}{ob:Ob}{L:List (Nat×List AV)}(H:Has σ L){d:Nat}{sh:Option Nat}{x:AOpd}{g:Option (Nat×Bool)}{wn:List Nat}{ops:List AOper}{id off:Nat}{c:List AV}{v:AV}(hd:Nat.blt d n=true)(hw:wtL g n F=true)(h1:evL env n F z x=some (.p (some (id,off))))(hm:(id,c)∈L)(h2:takeSh sh (c.drop off)=some v)(hv:AV.eqb env.fz v v=true)
  (h:GoM (.dr N (wn.map (fun q=>(q,id,AO.cells c))++ob)) env wh D n ops (upds ((d,v)::F) z) σ Q):GoM (.dr N ob) env wh D n (⟨some d,.load sh x,g,wn⟩::ops) (upds F z) σ Q:=GoD.ldw (H.get _ hm) hd (wtL_t hw) (fun s hs=>by rw[evL_eq];exact op_load _ _ h1 (loadA_p hs h2)) hv h
theorem pw{N:Nat}{ob:Ob}{d:Nat}{op:AOp}{g:Option (Nat×Bool)}{wn:List Nat}{ops:List AOper}{v:AV}(hwn:allB (fun q=>Nat.ble N (q+ops.length)&&Nat.ble q N) wn=true)(hd:Nat.blt d n=true)(hw:wtL g n F=true)(ho:∀s:St,opx 0 (evL env n F z) s op=some (.val v s))(hv:AV.eqb env.fz v v=true)(h:GoM (.dr N ob) env wh D n ops (upds ((d,v)::F) z) σ Q):GoM (.dr N ob) env wh D n (⟨some d,op,g,wn⟩::ops) (upds F z) σ Q:=GoD.pw hwn hd (wtL_t hw) (fun s=>by rw[evL_eq];exact ho s) hv h
theorem al{L:List (Nat×List AV)}(H:Has σ L){d:Nat}{v:AV}{g:Option (Nat×Bool)}{ops:List AOper}{c:List AV}{k:Nat}(hn:σ.next=k)(hd:Nat.blt d n=true)(hw:wtL g n F=true)(hc:v.cells=c)(h:∀τ:St,τ.next=k+1→Has τ ((k,c)::L)→(∀i o,σ.get i=some o→τ.get i=some o)→GoM md env wh D n ops (upds ((d,.p (some (k,0)))::F) z) τ Q):GoM md env wh D n (⟨some d,.alloc v,g,[]⟩::ops) (upds F z) σ Q:=by
 subst hn
 have kp:∀i o,σ.get i=some o→(σ.push (.cells c)).get i=some o:=fun i o ho=>by rw[St.get_push_old trivial _ (St.get_lt ho)];exact ho
 refine val (v:=ptrId σ.next 0) (σ':=σ.push (.cells c)) hd hw (by rw[←hc];rfl) (h (σ.push (.cells c)) rfl (H.push rfl (St.get_push_new _) kp) kp)
theorem bx{L:List (Nat×List AV)}(H:Has σ L){d:Nat}{x:AOpd}{v:AV}{g:Option (Nat×Bool)}{ops:List AOper}{c:List AV}{k:Nat}(hn:σ.next=k)(hd:Nat.blt d n=true)(hw:wtL g n F=true)(hv:evL env n F z x=some v)(hval:v.val=true)(hc:v.cells=c)(h:∀τ:St,τ.next=k+1→Has τ ((k,c)::L)→(∀i o,σ.get i=some o→τ.get i=some o)→GoM md env wh D n ops (upds ((d,.p (some (k,0)))::F) z) τ Q):GoM md env wh D n (⟨some d,.box x,g,[]⟩::ops) (upds F z) σ Q:=by
 subst hn
 have kp:∀i o,σ.get i=some o→(σ.push (.cells c)).get i=some o:=fun i o ho=>by rw[St.get_push_old trivial _ (St.get_lt ho)];exact ho
 refine val (v:=ptrId σ.next 0) (σ':=σ.push (.cells c)) hd hw ?_ (h (σ.push (.cells c)) rfl (H.push rfl (St.get_push_new _) kp) kp)
 show(match evL env n F z x with|some v=>cond v.val (some (OpR.val (ptrId σ.next 0) (σ.push (.cells v.cells)))) none|none=>none)=_
 rw[hv]
 show cond v.val _ _=_
 rw[hval,cond_true,hc]
theorem st{L:List (Nat×List AV)}(H:Has σ L)(j:Nat){sh:Option Nat}{a x:AOpd}{g:Option (Nat×Bool)}{ops:List AOper}{id off:Nat}{v:AV}{c c':List AV}(hw:wtL g n F=true)(h1:evL env n F z a=some (.p (some (id,off))))(hj:L[j]? =some (id,c))(h2:evL env n F z x=some v)(hcf:conf sh v=true)(hc:storeCells c off v.cells=some c')
  (h:∀τ:St,τ.next=σ.next→Has τ (L.set j (id,c'))→(∀i o,i≠id→σ.get i=some o→τ.get i=some o)→GoM md env wh D n ops (upds F z) τ Q):GoM md env wh D n (⟨none,.store sh a x,g,[]⟩::ops) (upds F z) σ Q:=by
 have hs:=H.get _ (List.mem_of_getElem? hj)
 exact eff hw (op_store hs h1 h2 hcf hc) (h _ rfl (H.set j hj (set_get hs).1 (set_get hs).2) (set_get hs).2)
theorem vr{L:List (Nat×List AV)}(H:Has σ L){d:Nat}{v0 v:AV}{sh:Option Nat}{x:AOpd}{ops:List AOper}{c:List AV}{k:Nat}(hn:σ.next=k)(hd:Nat.blt d n=true)(hx:evL env n ((d,.p (some (k,0)))::F) z x=some v)(hcf:conf sh v=true)(hc:v.cells=c)(hl:c.length=v0.cells.length)(h1:Nat.beq d d=true)
  (h:∀τ:St,τ.next=k+1→Has τ ((k,c)::L)→(∀i o,σ.get i=some o→τ.get i=some o)→GoM md env wh D n ops (upds ((d,.p (some (k,0)))::F) z) τ Q):GoM md env wh D n (⟨some d,.alloc v0,none,[]⟩::⟨none,.store sh (.t d) x,none,[]⟩::ops) (upds F z) σ Q:=by
 refine al H hn hd rfl rfl fun τ a1 a2 a3=>?_
 have e1:evL env n ((d,.p (some (k,0)))::F) z (.t d)=some (.p (some (k,0))):=by
  show cond (Nat.blt d n) (match cond (Nat.beq d d) (some _) _ with|some v=>some v|none=>some (z d)) none=_
  rw[hd,h1];rfl
 refine st a2 0 rfl e1 rfl hx hcf (by rw[hc];exact storeAll hl) fun τ2 b1 b2 b3=>h τ2 (b1.trans a1) b2 fun i o ho=>b3 i o ?_ (a3 i o ho)
 have:=St.get_lt ho;omega
theorem kn{b:Base}{K:Nat→List AV→AV→Prop}{d:Nat}{op:AOp}{g:Option (Nat×Bool)}{ops:List AOper}{fn:Nat}{args ar:List AV}{r:AV}(hf:∀g ar r r',K g ar r→K g ar r'→r=r')(e:b.ext fn=0∧b.pure fn=true)(hK:K fn ar r)
  (hd:Nat.blt d n=true) (hw:wtL g n F=true) (ho:opx 0 (evL (b.envK K) n F z) σ op=some (.call (.f (.func fn) [] []) args)) (ha:mapO (snapshot σ (b.fz+1000)) args=some ar) (h:GoM md (b.envK K) wh D n ops (upds ((d,r)::F) z) σ Q):GoM md (b.envK K) wh D n (⟨some d,op,g,[]⟩::ops) (upds F z) σ Q:=by
 cases md with
 |pl=>exact GoO.known hf e.1 e.2 hK hd (wtL_t hw) (by rw[evL_eq];exact ho) ha h
 |dr N ob=>
  exact GoD.call (R:=fun x τ=>x= .ok r∧τ=σ) hd (wtL_t hw) (by rw[evL_eq];exact ho) (GoesCall.spec e.1 e.2 (by rw[List.nil_append,List.append_nil];exact ha) (specOf_some hf hK) ⟨rfl,rfl⟩) fun r' τ ⟨e1,e2⟩=>⟨_,e1,by subst e2;exact h⟩
theorem cy{d:Nat}{op:AOp}{g:Option (Nat×Bool)}{ops:List AOper}{fv:AV}{args:List AV}{R:Ret→St→Prop}(hd:Nat.blt d n=true)(hw:wtL g n F=true)(ho:opx 0 (evL env n F z) σ op=some (.call fv args))
  (hc:GoesCall env 0 fv args σ R) (h:∀r τ,R r τ→∃v,r= .ok v∧GoM md env wh D n ops (upds ((d,v)::F) z) τ Q):GoM md env wh D n (⟨some d,op,g,[]⟩::ops) (upds F z) σ Q:=by
 cases md with
 |pl=>exact GoO.callG hd (wtL_t hw) (by rw[evL_eq];exact ho) hc h
 |dr N ob=>exact GoD.call hd (wtL_t hw) (by rw[evL_eq];exact ho) hc h
end
section
variable {md:Md}{env:Env}{wh:Option Nat}{D:List (Nat ⊕ (AV×List AV))}{n:Nat}{f:Nat→AV}{σ:St}{Q:PostF}{d:Option Nat}{g:Option (Nat×Bool)}{wn:List Nat}{ops:List AOper}
theorem iL{sh:Option Nat}{x:AOpd}(h:GoM md env wh D n (⟨d,.load sh x,g,[]⟩::ops) f σ Q):GoM md env wh D n (⟨d,.load sh x,g,[]⟩::ops) f σ Q:=h
theorem iW{sh:Option Nat}{x:AOpd}{a:Nat}{l:List Nat}(h:GoM md env wh D n (⟨d,.load sh x,g,a::l⟩::ops) f σ Q):GoM md env wh D n (⟨d,.load sh x,g,a::l⟩::ops) f σ Q:=h
theorem iB{op:BinOp}{x y:AOpd}(h:GoM md env wh D n (⟨d,.bin op x y,g,wn⟩::ops) f σ Q):GoM md env wh D n (⟨d,.bin op x y,g,wn⟩::ops) f σ Q:=h
theorem iX{sh:Option Nat}{x y:AOpd}(h:GoM md env wh D n (⟨d,.idxSl sh x y,g,wn⟩::ops) f σ Q):GoM md env wh D n (⟨d,.idxSl sh x y,g,wn⟩::ops) f σ Q:=h
theorem iN{k:Nat}{x:AOpd}(h:GoM md env wh D n (⟨d,.len k x,g,wn⟩::ops) f σ Q):GoM md env wh D n (⟨d,.len k x,g,wn⟩::ops) f σ Q:=h
end
theorem lt{md:Md}{env:Env}{wh:Option Nat}{D:List (Nat ⊕ (AV×List AV))}{n:Nat}{F:List (Nat×AV)}{z:Nat→AV}{σ:St}{Q:PostF}{d:Nat}{sh:Option Nat}{x:AOpd}{g:Option (Nat×Bool)}{ops:List AOper}{o:Bool}{v:AV}(hd:Nat.blt d n=true)(hw:wtL g n F=true)(h1:evL env n F z x=some (.tp o v))(h2:conf sh v=true)(h:GoM md env wh D n ops (upds ((d,v)::F) z) σ Q):GoM md env wh D n (⟨some d,.load sh x,g,[]⟩::ops) (upds F z) σ Q:=ldt hd hw h1 h2 h
def aL:Nat→List AV→List (Nat×AV)
 |_,[]=>[]
 |i,a::l=>(i,a)::aL (i+1) l
theorem sat_aL{f:Nat→AV}:∀(l:List AV) (i:Nat),(∀j a,l[j]? =some a→f (i+j)=a)→sat (aL i l) f
 |[],_,_=>trivial
 |a::l,i,h=>⟨h 0 a rfl,sat_aL l (i+1) fun j a' e=>by have:=h (j+1) a' e;rwa[show i+(j+1)=i+1+j from by omega] at this⟩
theorem args{env:Env}{wh:Option Nat}{D:List (Nat ⊕ (AV×List AV))}{n:Nat}{c:ACode}{as:List AV}{σ:St}{Q:PostF}(h:∀z,GoW env wh D n c (upds (aL 0 as) z) σ Q):GoW env wh D n c (argF as) σ Q:=
 GoF.norm (aL 0 as) (sat_aL as 0 fun j a e=>by show as.getD (0+j) undefA=a;rw[Nat.zero_add,List.getD_eq_getElem?_getD,e];rfl) h
theorem code{env:Env}{σ:St}{fn:Nat}{af:AFunc}{body:ACode}{dr:Nat}{first cap args:List AV}{R:Ret→St→Prop}(e:env.ext fn=0)(hp:env.pure fn=false)(hf:env.funcs fn=some af)(hb:af.body=some body)
  (hn:(Nat.beq (first++args++cap).length af.nargs&&Nat.ble (first++args++cap).length af.ntmps)=true) (hres:af.results=[(dr,none)]) (hdr:Nat.blt dr af.ntmps=true)
  (h:∀z,GoW env none [] af.ntmps body (upds (aL 0 (first++args++cap)) z) σ (fun x f' σ'=>x= .ret∧R (.ok (f' dr)) σ')):GoesCall env 0 (.f (.func fn) first cap) args σ R:=GoesCall.code e hp hf hb hn hres hdr (W.args h)
theorem code0{env:Env}{σ:St}{fn:Nat}{af:AFunc}{body:ACode}{first cap args:List AV}{R:Ret→St→Prop}(e:env.ext fn=0)(hp:env.pure fn=false)(hf:env.funcs fn=some af)(hb:af.body=some body)
  (hn:(Nat.beq (first++args++cap).length af.nargs&&Nat.ble (first++args++cap).length af.ntmps)=true) (hres:af.results=[])
  (h:∀z,GoW env none [] af.ntmps body (upds (aL 0 (first++args++cap)) z) σ (fun x _ σ'=>(x= .ret∨x= .normal)∧R (.ok (.tu [])) σ')):GoesCall env 0 (.f (.func fn) first cap) args σ R:=GoesCall.code0 e hp hf hb hn hres (W.args h)
end W
def AV.lf:AV→Bool
 | .b _=>true| .i _ _=>true| .s _=>true| .p _=>true| .sl _ _ _ _ _=>true| .nilsl=>true| .m _=>true| .nf=>true| .ni=>true| .y _=>true| .yt _ _=>true
 |_=>false
theorem eqb1{n:Nat}{v:AV}(h:v.lf=true):AV.eqb (n+1) v v=true:=by
 cases v with
 |b x=>show(x==x)=true;simp
 |i k x=>show(decide (k=k)&&decide (x=x))=true;simp
 |s l=>exact eqL_refl l
 |p a=>cases a with
  |none=>rfl
  |some a=>show(Nat.beq a.1 a.1&&Nat.beq a.2 a.2)=true;simp
 |sl a b c d e=>show(Nat.beq a a&&Nat.beq b b&&Nat.beq c c&&decide (d=d)&&decide (e=e))=true;simp
 |nilsl=>rfl
 |m r=>cases r with
  |none=>rfl
  |some r=>show Nat.beq r r=true;simp
 |nf=>rfl
 |ni=>rfl
 |y i=>show Nat.beq i i=true;simp
 |yt o i=>show((o==o)&&Nat.beq i i)=true;simp
 |_=>cases h
theorem eqb2{n:Nat}{l:List AV}(h:allB AV.lf l=true):AV.eqb (n+2) (.ag l) (.ag l)=true:=all2_refl fun x hx=>eqb1 (allB_mem h x hx)
end
end Go.Lyc
end
