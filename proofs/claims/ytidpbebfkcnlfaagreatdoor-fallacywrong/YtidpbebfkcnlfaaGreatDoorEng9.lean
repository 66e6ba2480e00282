/-
  An abstract executor of the program's code, and that it is sound, part 3. No conditions: definitions and laws.
-/
import Derived.Test.YtidpbebfkcnlfaaGreatDoorEng2
import Derived.ProofKit
import Derived.LaidMore
import Derived.Lay
import Derived.SevenTiedAt
import Derived.Carry
import Derived.OpenShut
import Derived.ChangeSlices
set_option linter.all false
noncomputable section
namespace Go.Lyc
variable [Tok][TokOk]
open Go.RowKit
def Ev{α:Type}(f:Nat→Option (List α))(Q:α→Prop):Prop:=∃F0 l,l≠[]∧(∀F,F0≤F→f F=some l)∧∀x∈l,Q x
theorem Ev.one{α:Type}{f:Nat→Option (List α)}{Q:α→Prop}{x:α}(h:∀F,f F=some [x])(hq:Q x):Ev f Q:=⟨0,[x],by simp,fun F _=>h F,fun _ hy=>by rw[List.mem_singleton.1 hy];exact hq⟩
theorem Ev.mono{α:Type}{f:Nat→Option (List α)}{Q Q':α→Prop}(h:Ev f Q)(hq:∀x,Q x→Q' x):Ev f Q':=let⟨F0,l,h1,h2,h3⟩:=h;⟨F0,l,h1,h2,fun x hx=>hq x (h3 x hx)⟩
theorem Ev.congr{α:Type}{f g:Nat→Option (List α)}{Q:α→Prop}(h:Ev f Q)(e:∀F,g F=f F):Ev g Q:=let⟨F0,l,h1,h2,h3⟩:=h;⟨F0,l,h1,fun F hF=>(e F).trans (h2 F hF),h3⟩
theorem Ev.succ{α:Type}{f g:Nat→Option (List α)}{Q:α→Prop}(h:Ev f Q)(e:∀F,g (F+1)=f F):Ev g Q:=
 let⟨F0,l,h1,h2,h3⟩:=h
 ⟨F0+1,l,h1,fun F hF=>by obtain⟨k,rfl⟩:∃k,F=k+1:=⟨F-1,by omega⟩;exact(e k).trans (h2 k (by omega)),h3⟩
theorem flatO_cons2{α β:Type}(f:α→Option (List β))(x y:α)(t:List α):flatO f (x::y::t)=match f x with|none=>none|some a=>match flatO f (y::t) with|none=>none|some b=>some (a++b):=rfl
theorem Ev.flat{α β:Type}{g:α→Nat→Option (List β)}{Q:β→Prop}:∀(l:List α),l≠[]→(∀x∈l,Ev (g x) Q)→Ev (fun F=>flatO (fun x=>g x F) l) Q
 |[],h,_=>absurd rfl h
 |[x],_,h=>(h x (by simp)).congr fun F=>rfl
 |x::y::t,_,h=>by
  obtain⟨F1,l1,a1,b1,c1⟩:=h x (by simp)
  obtain⟨F2,l2,a2,b2,c2⟩:=Ev.flat (g:=g) (Q:=Q) (y::t) (by simp) (fun z hz=>h z (List.mem_cons_of_mem _ hz))
  refine⟨max F1 F2,l1++l2,by simp[a1],fun F hF=>?_,fun z hz=>?_⟩
  ·show flatO (fun x=>g x F) (x::y::t)=_
   have e2:flatO (fun x=>g x F) (y::t)=some l2:=b2 F (by omega)
   rw[flatO_cons2,b1 F (by omega),e2]
  ·rcases List.mem_append.1 hz with hz|hz
   ·exact c1 z hz
   ·exact c2 z hz
theorem Ev.then{α β:Type}{f:Nat→Option (List α)}{g:α→Nat→Option (List β)}{Q:α→Prop}{Q':β→Prop}(h:Ev f Q)(hg:∀x,Q x→Ev (g x) Q'):Ev (fun F=>thenO (f F) (fun x=>g x F)) Q':=by
 obtain⟨F0,l,h1,h2,h3⟩:=h
 obtain⟨F1,l',a,b,c⟩:=Ev.flat (g:=g) (Q:=Q') l h1 (fun x hx=>hg x (h3 x hx))
 exact⟨max F0 F1,l',a,fun F hF=>by show thenO (f F) _=_;rw[h2 F (by omega)];exact b F (by omega),c⟩
abbrev Post:=Ex→Fr→St→Prop
def Goes(env:Env)(floor:Nat)(wh:Option Nat)(c:ACode)(fr:Fr)(σ:St)(Q:Post):Prop:=Ev (fun F=>exec env F floor wh c fr σ) (fun o=>Q o.1 o.2.1 o.2.2)
def GoesOps(env:Env)(floor:Nat)(nd:Bool)(ops:List AOper)(fr:Fr)(σ:St)(Q:Post):Prop:=Ev (fun F=>runOps env floor (callV env (exec env F) floor) nd ops fr σ) (fun o=>Q o.1 o.2.1 o.2.2)
def GoesCall(env:Env)(floor:Nat)(fv:AV)(args:List AV)(σ:St)(Q:Ret→St→Prop):Prop:=Ev (fun F=>callV env (exec env F) floor fv args σ) (fun o=>Q o.1 o.2)
section
variable {env:Env}{floor:Nat}{wh:Option Nat}{fr:Fr}{σ:St}{Q:Post}
theorem Goes.mono{c:ACode}{Q':Post}(h:Goes env floor wh c fr σ Q)(hq:∀x fr σ,Q x fr σ→Q' x fr σ):Goes env floor wh c fr σ Q':=Ev.mono h fun _ ho=>hq _ _ _ ho
theorem Goes.skip(h:Q .normal fr σ):Goes env floor wh .skip fr σ Q:=(Ev.one (f:=fun F=>some [(Ex.normal,fr,σ)]) (Q:=fun o=>Q o.1 o.2.1 o.2.2) (fun _=>rfl) h).succ fun F=>by rw[exec_succ];rfl
theorem Goes.ret(h:Q .ret fr σ):Goes env floor wh .ret fr σ Q:=(Ev.one (f:=fun F=>some [(Ex.ret,fr,σ)]) (Q:=fun o=>Q o.1 o.2.1 o.2.2) (fun _=>rfl) h).succ fun F=>by rw[exec_succ];rfl
theorem Goes.exit{id:Nat}(h:Q (.exit id) fr σ):Goes env floor wh (.exit id) fr σ Q:=(Ev.one (f:=fun F=>some [(Ex.exit id,fr,σ)]) (Q:=fun o=>Q o.1 o.2.1 o.2.2) (fun _=>rfl) h).succ fun F=>by rw[exec_succ];rfl
theorem Goes.region{ops:List AOper}(h:GoesOps env floor wh.isNone ops fr σ Q):Goes env floor wh (.region ops) fr σ Q:=Ev.succ h fun F=>by rw[exec_succ];rfl
def thenP(env:Env)(floor:Nat)(wh:Option Nat)(b:ACode)(Q:Post):Post:=fun x fr σ=>match x with| .normal=>Goes env floor wh b fr σ Q|x=>Q x fr σ
theorem Goes.seq{a b:ACode}(h:Goes env floor wh a fr σ (thenP env floor wh b Q)):Goes env floor wh (.seq a b) fr σ Q:=by
 refine Ev.succ (Ev.then (g:=fun x F=>seqK (exec env F) floor wh b x) h fun o ho=>?_) fun F=>by rw[exec_succ];rfl
 obtain⟨x,fr',σ'⟩:=o
 cases x with
 |normal=>exact ho
 |exit i=>exact Ev.one (fun _=>rfl) ho
 |ret=>exact Ev.one (fun _=>rfl) ho
 |panic v=>exact Ev.one (fun _=>rfl) ho
def blockP(id:Nat)(Q:Post):Post:=fun x fr σ=>match x with| .exit j=>if j=id then Q .normal fr σ else Q (.exit j) fr σ|x=>Q x fr σ
theorem Goes.block{a:ACode}{id:Nat}(h:Goes env floor wh a fr σ (blockP id Q)):Goes env floor wh (.block id a) fr σ Q:=by
 refine Ev.succ (Ev.then (g:=fun x _=>blockK id x) h fun o ho=>?_) fun F=>by rw[exec_succ];rfl
 obtain⟨x,fr',σ'⟩:=o
 cases x with
 |normal=>exact Ev.one (fun _=>rfl) ho
 |exit i=>
  have ho:(if i=id then Q .normal fr' σ' else Q (.exit i) fr' σ'):=ho
  by_cases hi:i=id
  ·subst hi
   rw[if_pos rfl] at ho
   refine Ev.one (x:=(.normal,fr',σ')) (fun _=>?_) ho
   show cond (Nat.beq i i) _ _=_
   rw[Nat.beq_refl];rfl
  ·rw[if_neg hi] at ho
   refine Ev.one (x:=(.exit i,fr',σ')) (fun _=>?_) ho
   show cond (Nat.beq i id) _ _=_
   rw[show Nat.beq i id=false from by cases hb:Nat.beq i id with|false=>rfl|true=>exact absurd (Nat.eq_of_beq_eq_true hb) hi];rfl
 |ret=>exact Ev.one (fun _=>rfl) ho
 |panic v=>exact Ev.one (fun _=>rfl) ho
theorem Goes.scope{a:ACode}(h:Goes env floor wh a fr σ Q):Goes env floor wh (.scope a) fr σ Q:=Ev.succ h fun F=>by rw[exec_succ];rfl
theorem Goes.cnd{o:AOpd}{a b:ACode}{t:Bool}(ho:evalA env fr.slots o=some (.b t))(ht:t=true→Goes env floor wh a fr σ Q)(hf:t=false→Goes env floor wh b fr σ Q):Goes env floor wh (.cond o a b) fr σ Q:=by
 cases t with
 |true=>
  refine Ev.succ (ht rfl) fun F=>?_
  rw[exec_succ]
  show(match evalA env fr.slots o with|some (.b t)=>exec env F floor wh (cond t a b) fr σ|_=>none)=_
  rw[ho];rfl
 |false=>
  refine Ev.succ (hf rfl) fun F=>?_
  rw[exec_succ]
  show(match evalA env fr.slots o with|some (.b t)=>exec env F floor wh (cond t a b) fr σ|_=>none)=_
  rw[ho];rfl
theorem Goes.loop{a:ACode}(I:Nat→Fr→St→Prop)(hI:∀m fr σ,I m fr σ→Goes env floor wh a fr σ (fun x fr' σ'=>match x with| .normal=>∃m',m'<m∧I m' fr' σ'|x=>Q x fr' σ')):∀m fr σ,I m fr σ→Goes env floor wh (.loop a) fr σ Q:=by
 intro m
 induction m using Nat.strongRecOn with
 |ind m ih=>
  intro fr σ h
  refine Ev.succ (Ev.then (g:=fun x F=>seqK (exec env F) floor wh (.loop a) x) (hI m fr σ h) fun o ho=>?_) fun F=>by rw[exec_succ];rfl
  obtain⟨x,fr',σ'⟩:=o
  cases x with
  |normal=>obtain⟨m',h1,h2⟩:=ho;exact ih m' h1 fr' σ' h2
  |exit i=>exact Ev.one (fun _=>rfl) ho
  |ret=>exact Ev.one (fun _=>rfl) ho
  |panic v=>exact Ev.one (fun _=>rfl) ho
theorem GoesOps.nil{nd:Bool}(h:Q .normal fr σ):GoesOps env floor nd [] fr σ Q:=Ev.one (fun _=>rfl) h
theorem GoesOps.val{nd:Bool}{o:AOper}{ops:List AOper}{v:AV}{σ':St}(hw:wantedA o.guard fr.slots=true)(ho:opx floor (evalA env fr.slots) σ o.op=some (.val v σ'))(h:GoesOps env floor nd ops (fr.put o.dst v) σ' Q):GoesOps env floor nd (o::ops) fr σ Q:=
 Ev.congr h fun F=>by rw[runOps_cons,hw,cond_true,ho]
theorem GoesOps.off{nd:Bool}{o:AOper}{ops:List AOper}(hw:wantedA o.guard fr.slots=false)(h:GoesOps env floor nd ops (fr.put o.dst undefA) σ Q):GoesOps env floor nd (o::ops) fr σ Q:=
 Ev.congr h fun F=>by rw[runOps_cons,hw,cond_false]
theorem GoesOps.call{nd:Bool}{o:AOper}{ops:List AOper}{fv:AV}{args:List AV}(hw:wantedA o.guard fr.slots=true)(ho:opx floor (evalA env fr.slots) σ o.op=some (.call fv args))
  (h:GoesCall env floor fv args σ (fun r σ'=>match r with| .ok v=>GoesOps env floor nd ops (fr.put o.dst v) σ' Q| .err v=>Q (.panic v) fr σ')):GoesOps env floor nd (o::ops) fr σ Q:=by
 refine Ev.congr (Ev.then (g:=fun(r:Ret×St) F=>(match r with
     |(.ok v,σ)=>runOps env floor (callV env (exec env F) floor) nd ops (fr.put o.dst v) σ
     |(.err v,σ)=>some [(.panic v,fr,σ)])) h fun r hr=>?_) fun F=>by rw[runOps_cons,hw,cond_true,ho];rfl
 obtain⟨r,σ'⟩:=r
 cases r with
 |ok v=>exact hr
 |err v=>exact Ev.one (fun _=>rfl) hr
theorem GoesCall.spec{g:Nat}{first cap args ar:List AV}{r:AV}{Q:Ret→St→Prop}(he:env.ext g=0)(hp:env.pure g=true)(ha:mapO (snapshot σ env.fz) (first++args++cap)=some ar)(hs:env.spec g ar=some r)(h:Q (.ok r) σ):
  GoesCall env floor (.f (.func g) first cap) args σ Q:=by
 refine Ev.one (x:=(.ok r,σ)) (fun F=>?_) h
 show callF env (exec env F) floor g (first++args++cap) σ=_
 unfold callF
 rw[he]
 show cond (env.pure g) _ _=_
 rw[hp,cond_true,ha]
 show(match env.spec g ar with|some r=>_|none=>_)=_
 rw[hs]
def retP(env:Env)(floor:Nat)(fn:AFunc)(Q:Ret→St→Prop):Post:=fun x fr σ=>∃r σ',endF env floor fn (x,fr,σ)=some [(r,σ')]∧Q r σ'
theorem GoesCall.run{g:Nat}{first cap args:List AV}{fn:AFunc}{body:ACode}{Q:Ret→St→Prop}(he:env.ext g=0)(hp:env.pure g=false)(hf:env.funcs g=some fn)(hb:fn.body=some body)
  (hn:(Nat.beq (first++args++cap).length fn.nargs&&Nat.ble (first++args++cap).length fn.ntmps)=true) (h:Goes env floor none body (startFr fn (first++args++cap)) σ (retP env floor fn Q)):GoesCall env floor (.f (.func g) first cap) args σ Q:=by
 refine Ev.congr (Ev.then (g:=fun x _=>endF env floor fn x) h fun o ho=>?_) fun F=>?_
 ·obtain⟨r,σ',h1,h2⟩:=ho
  exact Ev.one (fun _=>h1) h2
 ·show callF env (exec env F) floor g (first++args++cap) σ=_
  unfold callF
  rw[he]
  show cond (env.pure g) _ _=_
  rw[hp,cond_false]
  unfold runF
  rw[hf]
  show(match fn.body with|none=>none|some body=>_)=_
  rw[hb]
  show cond _ _ _=_
  rw[hn,cond_true]
theorem mapO_cons'{α β:Type}(f:α→Option β)(x:α)(l:List α):mapO f (x::l)=match f x with|none=>none|some y=>match mapO f l with|none=>none|some ys=>some (y::ys):=rfl
theorem mapO_mono{f g:AV→Option AV}(h:∀x y,f x=some y→g x=some y):∀ {l r:List AV},mapO f l=some r→mapO g l=some r
 |[],r,e=>e
 |x::l,r,e=>by
  rw[mapO_cons'] at e ⊢
  cases hx:f x with
  |none=>rw[hx] at e;cases e
  |some y=>
   rw[hx] at e
   cases hl:mapO f l with
   |none=>rw[hl] at e;cases e
   |some ys=>rw[hl] at e;rw[h x y hx,mapO_mono h hl];exact e
theorem freeze_more{σ:St}{base:Nat}:∀(n:Nat) (v r:AV),freeze σ base n v=some r→freeze σ base (n+1) v=some r
 |0,_,_,h=>by cases h
 |n+1,v,r,h=>by
  have ih:=freeze_more (σ:=σ) (base:=base) n
  have ihl:∀ {l l':List AV},mapO (freeze σ base n) l=some l'→mapO (freeze σ base (n+1)) l=some l':=mapO_mono ih
  rw[freeze_succ] at h
  rw[freeze_succ]
  split at h
  ·split at h<;>try (cases h;done)
   rename_i hb
   rw[if_neg hb]
   split at h<;>try (cases h;done)
   rename_i xs hxs
   split at h<;>cases h
   rename_i ys hys
   simp only[hxs,ihl hys]
  ·split at h<;>cases h
   rename_i ys hys
   simp only[ihl hys]
  ·split at h<;>cases h
   rename_i ys hys
   simp only[ihl hys]
  ·split at h<;>cases h
   rename_i y hy
   simp only[ih _ _ hy]
  ·cases h
  ·cases h
  ·cases h
  ·exact h
theorem freeze_up{σ:St}{base n m:Nat}(hn:n≤m){v r:AV}(h:freeze σ base n v=some r):freeze σ base m v=some r:=by
 obtain⟨k,rfl⟩:∃k,m=n+k:=⟨m-n,by omega⟩
 induction k with
 |zero=>exact h
 |succ k ih=>exact freeze_more _ _ _ (ih (by omega))
theorem all2_mono{f g:AV→AV→Bool}(h:∀x y,f x y=true→g x y=true):∀ {l r:List AV},all2 f l r=true→all2 g l r=true
 |[],[],e=>e
 |[],_::_,e=>by cases e
 |_::_,[],e=>by cases e
 |x::l,y::r,e=>by
  have e:cond (f x y) (all2 f l r) false=true:=e
  show cond (g x y) (all2 g l r) false=true
  cases hx:f x y with
  |false=>rw[hx] at e;cases e
  |true=>rw[hx] at e;rw[h x y hx];exact all2_mono h e
theorem eqb_more:∀(n:Nat) (x y:AV),AV.eqb n x y=true→AV.eqb (n+1) x y=true
 |0,_,_,h=>by cases h
 |n+1,x,y,h=>by
  have ih:=eqb_more n
  have ihl:∀ {l r:List AV},all2 (AV.eqb n) l r=true→all2 (AV.eqb (n+1)) l r=true:=all2_mono ih
  have e:=AV.eqb_eq _ _ _ h
  subst e
  cases x
  case tl o sh xs=>
   have h:((o==o)&&decide (sh=sh)&&all2 (AV.eqb n) xs xs)=true:=h
   show((o==o)&&decide (sh=sh)&&all2 (AV.eqb (n+1)) xs xs)=true
   simp only[Bool.and_eq_true] at h ⊢
   exact⟨h.1,ihl h.2⟩
  case tp o v=>
   have h:((o==o)&&AV.eqb n v v)=true:=h
   show((o==o)&&AV.eqb (n+1) v v)=true
   simp only[Bool.and_eq_true] at h ⊢
   exact⟨h.1,ih _ _ h.2⟩
  case f fa a c=>
   have h:(decide (fa=fa)&&(all2 (AV.eqb n) a a&&all2 (AV.eqb n) c c))=true:=h
   show(decide (fa=fa)&&(all2 (AV.eqb (n+1)) a a&&all2 (AV.eqb (n+1)) c c))=true
   simp only[Bool.and_eq_true] at h ⊢
   exact⟨h.1,ihl h.2.1,ihl h.2.2⟩
  case it t v=>
   have h:(Nat.beq t t&&AV.eqb n v v)=true:=h
   show(Nat.beq t t&&AV.eqb (n+1) v v)=true
   simp only[Bool.and_eq_true] at h ⊢
   exact⟨h.1,ih _ _ h.2⟩
  case p a=>cases a<;>exact h
  case m a=>cases a<;>exact h
  case ag l=>exact ihl (l:=l) (r:=l) h
  case tu l=>exact ihl (l:=l) (r:=l) h
  all_goals exact h
theorem eqb_mono{n m:Nat}(hn:n≤m){x y:AV}(h:AV.eqb n x y=true):AV.eqb m x y=true:=by
 obtain⟨k,rfl⟩:∃k,m=n+k:=⟨m-n,by omega⟩
 induction k with
 |zero=>exact h
 |succ k ih=>exact eqb_more _ _ _ (ih (by omega))
theorem allB_of{α:Type}{p:α→Bool}:∀ {l:List α},(∀y∈l,p y=true)→allB p l=true
 |[],_=>rfl
 |y::t,h=>by
  show cond (p y) (allB p t) false=true
  rw[h y (by simp),cond_true]
  exact allB_of fun z hz=>h z (List.mem_cons_of_mem _ hz)
theorem spec_of_goes{P:Program}{m:Nat}(hm:m≤env.fz)(hfs:FuncsOk P env)(hsp:SpecAll P env)(hex:ExtOk P env)(hfo:P.follows .mixedOrders=true){g:Nat}{fn:AFunc}{body:ACode}{ar:List AV}{r:AV}(hf:env.funcs g=some fn)(hb:fn.body=some body)
  (hn:(Nat.beq ar.length fn.nargs&&Nat.ble ar.length fn.ntmps)=true) {fr:Nat} (hr:freshA fr r=true)
  (h:Goes env 0 none body (startFr fn ar) ⟨.nil,0⟩ (retP env 0 fn (fun v σ'=>∃v',v= .ok v'∧freeze σ' 0 m v'=some r))) (hrr:AV.eqb m r r=true) (B0:Nat):SpecEntry P env B0 g ar r:=by
 have h1:Ev (fun F=>thenO (exec env F 0 none body (startFr fn ar) ⟨.nil,0⟩) (endF env 0 fn)) (fun o=>∃v',o.1= .ok v'∧freeze o.2 0 m v'=some r):=
  Ev.then (g:=fun x _=>endF env 0 fn x) h fun o ho=>by
   obtain⟨v,σ',h1,h2⟩:=ho
   exact Ev.one (fun _=>h1) h2
 obtain⟨F0,l,hl,h2,h3⟩:=h1
 have hrun:runF env (exec env F0) 0 g ar ⟨.nil,0⟩=some l:=by
  unfold runF
  rw[hf]
  show(match fn.body with|none=>none|some body=>_)=_
  rw[hb]
  show cond _ _ _=_
  rw[hn,cond_true]
  exact h2 F0 (Nat.le_refl _)
 refine spec_of_run (fz:=env.fz) hfs hsp hex hfo hrun ?_ hr B0
 cases l with
 |nil=>exact absurd rfl hl
 |cons x t=>
  obtain⟨v,h4,h5⟩:=h3 x (by simp)
  obtain⟨x1,x2⟩:=x
  have h4:x1= .ok v:=h4
  replace h5:freeze x2 0 env.fz v=some r:=freeze_up hm h5
  subst h4
  show(match freeze x2 0 env.fz v with|none=>none|some v1=>cond (allB (sameF env.fz 0 v1) t) (some v1) none)=_
  rw[h5]
  have:allB (sameF env.fz 0 r) t=true:=by
   have h3':∀y∈t,sameF env.fz 0 r y=true:=fun y hy=>by
    obtain⟨w,h6,h7⟩:=h3 y (List.mem_cons_of_mem _ hy)
    obtain⟨y1,y2⟩:=y
    have h6:y1= .ok w:=h6
    replace h7:freeze y2 0 env.fz w=some r:=freeze_up hm h7
    subst h6
    show(match freeze y2 0 env.fz w with|some w1=>AV.eqb env.fz w1 r|none=>false)=true
    rw[h7];exact eqb_mono hm hrr
   exact allB_of h3'
  show cond (allB (sameF env.fz 0 r) t) (some r) none=_
  rw[this];rfl
end
end Go.Lyc
end
noncomputable section
namespace Go.Lyc
variable [Tok][TokOk]
open Go.RowKit
def Tr.tab{α:Type}(k:Nat)(f:Nat→α):Nat→Nat→Tr α:=
 Nat.rec (motive:=fun _=>Nat→Nat→Tr α) (fun _ _=>.nil) (fun _ ih i n=>cond (Nat.blt i n) (.node (some (f i)) (ih (2*i+1) n) (ih (2*i+2) n)) .nil) k
def upd(f:Nat→AV)(d:Nat)(v:AV):Nat→AV:=fun i=>cond (Nat.beq i d) v (f i)
structure IsFr(D:List (Nat ⊕ (AV×List AV)))(n:Nat)(f:Nat→AV)(fr:Fr):Prop where
 get:∀i,fr.slots.get i=if i<n then some (f i) else none
 ds:fr.defers=D
 rc:fr.rcv=false
theorem IsFr.put{D:List (Nat ⊕ (AV×List AV))}{n d:Nat}{f:Nat→AV}{fr:Fr}(h:IsFr D n f fr)(v:AV)(hd:Nat.blt d n=true):IsFr D n (upd f d v) (fr.put (some d) v):=by
 have hd:d<n:=Nat.le_of_ble_eq_true hd
 refine⟨fun i=>?_,h.ds,h.rc⟩
 show(fr.slots.set d v).get i=_
 rw[Tr.get_set,h.get d,h.get i,if_pos hd]
 by_cases hi:i=d
 ·subst hi
  rw[if_pos rfl,if_pos hd]
  show some v=some (cond (Nat.beq i i) v (f i))
  rw[Nat.beq_refl];rfl
 ·rw[if_neg hi]
  have:upd f d v i=f i:=by
   show cond (Nat.beq i d) v (f i)=f i
   cases hb:Nat.beq i d with
   |false=>rfl
   |true=>exact absurd (Nat.eq_of_beq_eq_true hb) hi
  rw[this]
def evF(env:Env)(n:Nat)(f:Nat→AV):AOpd→Option AV
 | .t i=>cond (Nat.blt i n) (some (f i)) none
 | .c v=>some v
 | .g g=>match env.glob g with|some v=>some (.tp true v)|none=>none
theorem IsFr.ev{D:List (Nat ⊕ (AV×List AV))}{n:Nat}{f:Nat→AV}{fr:Fr}(h:IsFr D n f fr)(env:Env):evalA env fr.slots=evF env n f:=by
 funext x
 cases x with
 |t i=>
  show fr.slots.get i=cond (Nat.blt i n) (some (f i)) none
  rw[h.get]
  by_cases hi:i<n
  ·rw[if_pos hi,show Nat.blt i n=true from Nat.ble_eq_true_of_le hi];rfl
  ·rw[if_neg hi,show Nat.blt i n=false from by cases hb:Nat.blt i n with|false=>rfl|true=>exact absurd (Nat.le_of_ble_eq_true hb) hi];rfl
 |c v=>rfl
 |g g=>rfl
def wantedF(g:Option (Nat×Bool))(n:Nat)(f:Nat→AV):Bool:=
 match g with
 |none=>true
 |some (d,w)=>cond (Nat.blt d n) (match f d with| .b x=>x==w|_=>false) false
theorem IsFr.wanted{D:List (Nat ⊕ (AV×List AV))}{n:Nat}{f:Nat→AV}{fr:Fr}(h:IsFr D n f fr)(g:Option (Nat×Bool)):wantedA g fr.slots=wantedF g n f:=by
 cases g with
 |none=>rfl
 |some p=>
  obtain⟨d,w⟩:=p
  show(match fr.slots.get d with|some (.b x)=>x==w|_=>false)=cond (Nat.blt d n) _ false
  rw[h.get]
  by_cases hi:d<n
  ·rw[if_pos hi,show Nat.blt d n=true from Nat.ble_eq_true_of_le hi,cond_true];cases f d<;>rfl
  ·rw[if_neg hi,show Nat.blt d n=false from by cases hb:Nat.blt d n with|false=>rfl|true=>exact absurd (Nat.le_of_ble_eq_true hb) hi];rfl
abbrev PostF:=Ex→(Nat→AV)→St→Prop
def atF(D:List (Nat ⊕ (AV×List AV)))(n:Nat)(Q:PostF):Post:=fun x fr σ=>∃f,IsFr D n f fr∧Q x f σ
def GoW(env:Env)(wh:Option Nat)(D:List (Nat ⊕ (AV×List AV)))(n:Nat)(c:ACode)(f:Nat→AV)(σ:St)(Q:PostF):Prop:=∀fr,IsFr D n f fr→Goes env 0 wh c fr σ (atF D n Q)
def GoV(env:Env)(wh:Option Nat)(D:List (Nat ⊕ (AV×List AV)))(n:Nat)(ops:List AOper)(f:Nat→AV)(σ:St)(Q:PostF):Prop:=∀fr,IsFr D n f fr→GoesOps env 0 wh.isNone ops fr σ (atF D n Q)
abbrev GoF(env:Env):=GoW env none []
abbrev GoO(env:Env):=GoV env none []
section
variable {env:Env}{wh:Option Nat}{D:List (Nat ⊕ (AV×List AV))}{n:Nat}{f:Nat→AV}{σ:St}{Q:PostF}
theorem GoW.mono{c:ACode}{Q':PostF}(h:GoW env wh D n c f σ Q)(hq:∀x f σ,Q x f σ→Q' x f σ):GoW env wh D n c f σ Q':=fun fr hfr=>(h fr hfr).mono fun _ _ _ ⟨f,h1,h2⟩=>⟨f,h1,hq _ _ _ h2⟩
theorem GoF.mono{c:ACode}{Q':PostF}(h:GoF env n c f σ Q)(hq:∀x f σ,Q x f σ→Q' x f σ):GoF env n c f σ Q':=GoW.mono h hq
theorem GoF.skip(h:Q .normal f σ):GoW env wh D n .skip f σ Q:=fun _ hfr=>Goes.skip ⟨f,hfr,h⟩
theorem GoF.ret(h:Q .ret f σ):GoW env wh D n .ret f σ Q:=fun _ hfr=>Goes.ret ⟨f,hfr,h⟩
theorem GoF.exit{id:Nat}(h:Q (.exit id) f σ):GoW env wh D n (.exit id) f σ Q:=fun _ hfr=>Goes.exit ⟨f,hfr,h⟩
theorem GoF.region{ops:List AOper}(h:GoV env wh D n ops f σ Q):GoW env wh D n (.region ops) f σ Q:=fun fr hfr=>Goes.region (h fr hfr)
theorem GoF.seq{a b:ACode}(h:GoW env wh D n a f σ (fun x f σ=>match x with| .normal=>GoW env wh D n b f σ Q|x=>Q x f σ)):GoW env wh D n (.seq a b) f σ Q:=fun fr hfr=>Goes.seq ((h fr hfr).mono fun x fr σ ⟨f,h1,h2⟩=>by
 cases x with
 |normal=>exact h2 fr h1
 |exit i=>exact⟨f,h1,h2⟩
 |ret=>exact⟨f,h1,h2⟩
 |panic v=>exact⟨f,h1,h2⟩)
theorem GoF.block{a:ACode}{id:Nat}(h:GoW env wh D n a f σ (fun x f σ=>match x with| .exit j=>cond (Nat.beq j id) (Q .normal f σ) (Q (.exit j) f σ)|x=>Q x f σ)):GoW env wh D n (.block id a) f σ Q:=fun fr hfr=>Goes.block ((h fr hfr).mono fun x fr σ ⟨f,h1,h2⟩=>by
 cases x with
 |normal=>exact⟨f,h1,h2⟩
 |exit i=>
  have h2:cond (Nat.beq i id) (Q .normal f σ) (Q (.exit i) f σ):=h2
  show if i=id then atF D n Q .normal fr σ else atF D n Q (.exit i) fr σ
  cases hb:Nat.beq i id with
  |false=>rw[if_neg (fun h=>by rw[h,Nat.beq_refl] at hb;cases hb)];rw[hb] at h2;exact⟨f,h1,h2⟩
  |true=>rw[if_pos (Nat.eq_of_beq_eq_true hb)];rw[hb] at h2;exact⟨f,h1,h2⟩
 |ret=>exact⟨f,h1,h2⟩
 |panic v=>exact⟨f,h1,h2⟩)
theorem GoF.cnd{o:AOpd}{a b:ACode}{t:Bool}(ho:evF env n f o=some (.b t))(ht:t=true→GoW env wh D n a f σ Q)(hf:t=false→GoW env wh D n b f σ Q):GoW env wh D n (.cond o a b) f σ Q:=fun fr hfr=>
 Goes.cnd (by rw[hfr.ev];exact ho) (fun h=>ht h fr hfr) (fun h=>hf h fr hfr)
theorem GoF.loop{a:ACode}(I:Nat→(Nat→AV)→St→Prop)(hI:∀m f σ,I m f σ→GoW env wh D n a f σ (fun x f' σ'=>match x with| .normal=>∃m',m'<m∧I m' f' σ'|x=>Q x f' σ'))(m:Nat)(h:I m f σ):GoW env wh D n (.loop a) f σ Q:=fun fr hfr=>
 Goes.loop (Q:=atF D n Q) (fun m fr σ=>∃f,IsFr D n f fr∧I m f σ) (fun m fr σ ⟨f,h1,h2⟩=>(hI m f σ h2 fr h1).mono fun x fr' σ' ⟨f',h3,h4⟩=>by
  cases x with
  |normal=>obtain⟨m',h5,h6⟩:=h4;exact⟨m',h5,f',h3,h6⟩
  |exit i=>exact⟨f',h3,h4⟩
  |ret=>exact⟨f',h3,h4⟩
  |panic v=>exact⟨f',h3,h4⟩) m fr σ ⟨f,hfr,h⟩
theorem GoO.nil(h:Q .normal f σ):GoV env wh D n [] f σ Q:=fun _ hfr=>GoesOps.nil ⟨f,hfr,h⟩
theorem GoO.val{d:Nat}{op:AOp}{g:Option (Nat×Bool)}{wn:List Nat}{ops:List AOper}{v:AV}{σ':St}(hd:Nat.blt d n=true)(hw:wantedF g n f=true)(ho:opx 0 (evF env n f) σ op=some (.val v σ'))(h:GoV env wh D n ops (upd f d v) σ' Q):
  GoV env wh D n (⟨some d,op,g,wn⟩::ops) f σ Q:=fun fr hfr=>GoesOps.val (by rw[hfr.wanted];exact hw) (by rw[hfr.ev];exact ho) (h _ (hfr.put v hd))
theorem GoO.eff{op:AOp}{g:Option (Nat×Bool)}{wn:List Nat}{ops:List AOper}{v:AV}{σ':St}(hw:wantedF g n f=true)(ho:opx 0 (evF env n f) σ op=some (.val v σ'))(h:GoV env wh D n ops f σ' Q):
  GoV env wh D n (⟨none,op,g,wn⟩::ops) f σ Q:=fun fr hfr=>GoesOps.val (by rw[hfr.wanted];exact hw) (by rw[hfr.ev];exact ho) (h _ hfr)
theorem GoO.off{d:Nat}{op:AOp}{g:Option (Nat×Bool)}{wn:List Nat}{ops:List AOper}(hd:Nat.blt d n=true)(hw:wantedF g n f=false)(h:GoV env wh D n ops (upd f d undefA) σ Q):
  GoV env wh D n (⟨some d,op,g,wn⟩::ops) f σ Q:=fun fr hfr=>GoesOps.off (by rw[hfr.wanted];exact hw) (h _ (hfr.put _ hd))
theorem GoO.spec{d:Nat}{op:AOp}{g:Option (Nat×Bool)}{wn:List Nat}{ops:List AOper}{fn:Nat}{args ar:List AV}{r:AV}(hd:Nat.blt d n=true)(hw:wantedF g n f=true)(ho:opx 0 (evF env n f) σ op=some (.call (.f (.func fn) [] []) args))
  (he:env.ext fn=0) (hp:env.pure fn=true) (ha:mapO (snapshot σ env.fz) args=some ar) (hs:env.spec fn ar=some r) (h:GoV env wh D n ops (upd f d r) σ Q):GoV env wh D n (⟨some d,op,g,wn⟩::ops) f σ Q:=fun fr hfr=>
 GoesOps.call (by rw[hfr.wanted];exact hw) (by rw[hfr.ev];exact ho) (GoesCall.spec he hp (by simpa using ha) hs (h _ (hfr.put r hd)))
end
def sat:List (Nat×AV)→(Nat→AV)→Prop
 |[],_=>True
 |(i,v)::L,f=>f i=v∧sat L f
def upds:List (Nat×AV)→(Nat→AV)→Nat→AV
 |[],f=>f
 |(i,v)::L,f=>upd (upds L f) i v
theorem upd_self{f:Nat→AV}{i:Nat}{v:AV}(h:f i=v):upd f i v=f:=by
 funext j
 show cond (Nat.beq j i) v (f j)=f j
 cases hb:Nat.beq j i with
 |false=>rfl
 |true=>rw[Nat.eq_of_beq_eq_true hb,h];rfl
theorem upds_of:∀ {L:List (Nat×AV)} {f:Nat→AV},sat L f→upds L f=f
 |[],_,_=>rfl
 |(i,v)::L,f,⟨h1,h2⟩=>by
  show upd (upds L f) i v=f
  rw[upds_of h2,upd_self h1]
theorem GoF.norm{env:Env}{wh:Option Nat}{D:List (Nat ⊕ (AV×List AV))}{n:Nat}{c:ACode}{f:Nat→AV}{σ:St}{Q:PostF}(L:List (Nat×AV))(hs:sat L f)(h:∀g,GoW env wh D n c (upds L g) σ Q):GoW env wh D n c f σ Q:=by
 rw[←upds_of hs];exact h f
theorem GoO.norm{env:Env}{wh:Option Nat}{D:List (Nat ⊕ (AV×List AV))}{n:Nat}{ops:List AOper}{f:Nat→AV}{σ:St}{Q:PostF}(L:List (Nat×AV))(hs:sat L f)(h:∀g,GoV env wh D n ops (upds L g) σ Q):GoV env wh D n ops f σ Q:=by
 rw[←upds_of hs];exact h f
section
variable {floor:Nat}{ev:AOpd→Option AV}{σ:St}
theorem op_load{sh:Option Nat}{a:AOpd}(p v:AV)(h1:ev a=some p)(h2:loadA σ sh p=some v):opx floor ev σ (.load sh a)=some (.val v σ):=by
 show(match ev a with|some p=>(match loadA σ sh p with|some v=>some (OpR.val v σ)|none=>none)|none=>none)=_
 rw[h1]
 show(match loadA σ sh p with|some v=>some (OpR.val v σ)|none=>none)=_
 rw[h2]
theorem loadA_p{sh:Option Nat}{id off:Nat}{c:List AV}{v:AV}(h1:σ.get id=some (.cells c))(h2:takeSh sh (c.drop off)=some v):loadA σ sh (.p (some (id,off)))=some v:=by
 show(match σ.get id with|some (.cells c)=>takeSh sh (c.drop off)|_=>none)=_
 rw[h1];exact h2
theorem op_idxSl{sh:Option Nat}{x i:AOpd}(k:IntKind)(a:AV)(j:Nat)(v:AV)(h1:ev x=some a)(h2:ev i=some (.i k (Int.ofNat j)))(h3:idxSlA sh a j=some v):opx floor ev σ (.idxSl sh x i)=some (.val v σ):=by
 show(match ev x,ev i with|some x,some j=>(match natOf j with|some j=>(match idxSlA sh x j with|some v=>some (OpR.val v σ)|none=>none)|none=>none)|_,_=>none)=_
 rw[h1,h2]
 show(match idxSlA sh a j with|some v=>some (OpR.val v σ)|none=>none)=_
 rw[h3]
theorem idxSlA_tl{o:Bool}{sh:Option Nat}{xs:List AV}{j:Nat}{v:AV}(h:nth xs j=some v):idxSlA sh (.tl o sh xs) j=some (.tp o v):=by
 show(if sh=sh then(match nth xs j with|some v=>some (AV.tp o v)|none=>none) else none)=_
 rw[if_pos rfl,h]
theorem op_bin{op:BinOp}{x y:AOpd}(a b v:AV)(h1:ev x=some a)(h2:ev y=some b)(h3:binop op a b=some v):opx floor ev σ (.bin op x y)=some (.val v σ):=by
 show(match ev x,ev y with|some a,some b=>(match binop op a b with|some v=>some (OpR.val v σ)|none=>none)|_,_=>none)=_
 rw[h1,h2]
 show(match binop op a b with|some v=>some (OpR.val v σ)|none=>none)=_
 rw[h3]
end
end Go.Lyc
end
namespace Go.Lyc
variable [Tok][TokOk]
open Go.RowKit
abbrev nI(n:Nat):AV:=.i .i64 (Int.ofNat n)
theorem wrap_nat{n:Nat}(h:n<2^63):IntKind.wrap .i64 (n:Int)=(n:Int):=by
 have h:(n:Int)<9223372036854775808:=by omega
 simp only[IntKind.wrap,IntKind.bits,IntKind.signed]
 simp
 omega
def andN(a b:Nat):Nat:=a ^^^ (a &&& b)
theorem andN_le(a b:Nat){k:Nat}(h:a<2^k):andN a b<2^k:=Nat.xor_lt_two_pow h (Nat.lt_of_le_of_lt Nat.and_le_left h)
end Go.Lyc
noncomputable section
namespace Go.Lyc
variable [Tok][TokOk]
open Go.RowKit
theorem get_lay{α:Type}:∀(l:List α) (k:Nat) (t:Tr α) (i:Nat),(Tr.lay l k t).get i=if k≤i then(match l[i-k]? with|some x=>(t.get i).map (fun _=>x)|none=>t.get i) else t.get i
 |[],k,t,i=>by
  show t.get i=_
  split<;>simp
 |x::l,k,t,i=>by
  show(Tr.lay l (k+1) (t.set k x)).get i=_
  rw[get_lay l (k+1) (t.set k x) i,Tr.get_set]
  by_cases h1:k+1≤i
  ·have h2:k≤i:=by omega
   have h3:i≠k:=by omega
   have h4:(x::l)[i-k]? =l[i-(k+1)]? :=by
    rw[show i-k=(i-(k+1))+1 from by omega];rfl
   rw[if_pos h1,if_pos h2,if_neg h3,h4]
  ·rw[if_neg h1]
   by_cases h2:i=k
   ·subst h2
    rw[if_pos rfl,if_pos (Nat.le_refl _),Nat.sub_self];rfl
   ·rw[if_neg h2,if_neg (by omega)]
def argF(args:List AV):Nat→AV:=fun i=>args.getD i undefA
theorem isFr_start{fn:AFunc}{args:List AV}(h:args.length≤fn.ntmps):IsFr [] fn.ntmps (argF args) (startFr fn args):=by
 refine⟨fun i=>?_,rfl,rfl⟩
 show(Tr.lay args 0 (Tr.full fn.ntmps undefA fn.ntmps)).get i=_
 rw[get_lay,if_pos (Nat.zero_le _),Nat.sub_zero]
 by_cases hi:i<fn.ntmps
 ·rw[if_pos hi,Tr.get_full_in _ _ _ _ hi (Nat.le_refl _)]
  show _=some (args.getD i undefA)
  rw[List.getD_eq_getElem?_getD]
  cases args[i]? <;>rfl
 ·rw[if_neg hi,List.getElem?_eq_none (by omega)]
  cases hg:(Tr.full fn.ntmps undefA fn.ntmps).get i with
  |none=>rfl
  |some y=>exact absurd (Tr.get_full _ _ _ _ _ hg).2 hi
theorem endF_one{env:Env}{floor:Nat}{fn:AFunc}{n d:Nat}{f:Nat→AV}{fr:Fr}{σ:St}(h1:IsFr [] n f fr)(hres:fn.results=[(d,none)])(hd:Nat.blt d n=true):endF env floor fn (.ret,fr,σ)=some [(.ok (f d),σ)]:=by
 show(match leave floor (callD env floor) fr.defers none σ with
  |none=>none
  |some (some v,σ)=>some [(Ret.err v,σ)]
  |some (none,σ)=>match resultsOf σ fr.slots fn.results with
   |some v=>some [(.ok v,σ)]
   |none=>none)=_
 rw[h1.ds]
 show(match resultsOf σ fr.slots fn.results with|some v=>some [(Ret.ok v,σ)]|none=>none)=_
 rw[hres]
 have hg:=h1.get d
 have hdn:d<n:=Nat.le_of_ble_eq_true hd
 rw[if_pos hdn] at hg
 have:resultsOf σ fr.slots [(d,none)]=some (f d):=by
  unfold resultsOf
  have e1:resultOf σ fr.slots (d,none)=some (f d):=by
   unfold resultOf
   rw[hg]
  have e:mapO (resultOf σ fr.slots) [(d,none)]=some [f d]:=by
   unfold mapO
   simp only[e1]
  rw[e]
 rw[this]
theorem entry_of_goes{P:Program}{env:Env}{m:Nat}(hm:m≤env.fz)(hfs:FuncsOk P env)(hsp:SpecAll P env)(hex:ExtOk P env)(hfo:P.follows .mixedOrders=true){g:Nat}{fn:AFunc}{body:ACode}{ar:List AV}{d:Nat}(r:AV)(hf:env.funcs g=some fn)(hb:fn.body=some body)
  (hn:(Nat.beq ar.length fn.nargs&&Nat.ble ar.length fn.ntmps)=true) (hres:fn.results=[(d,none)]) (hd:Nat.blt d fn.ntmps=true) {fr:Nat} (hr:freshA fr r=true) (hrr:AV.eqb m r r=true)
  (h:GoF env fn.ntmps body (argF ar) ⟨.nil,0⟩ (fun x f σ'=>x= .ret∧freeze σ' 0 m (f d)=some r)) (B0:Nat):SpecEntry P env B0 g ar r:=by
 have hle:ar.length≤fn.ntmps:=by
  simp only[Bool.and_eq_true] at hn
  exact Nat.le_of_ble_eq_true hn.2
 refine spec_of_goes hm hfs hsp hex hfo hf hb hn hr ((h _ (isFr_start hle)).mono fun x fr σ' ⟨f,h1,h2,h3⟩=>?_) hrr B0
 subst h2
 exact⟨.ok (f d),σ',endF_one h1 hres hd,_,rfl,h3⟩
theorem GoO.run{env:Env}{wh:Option Nat}{D:List (Nat ⊕ (AV×List AV))}{n:Nat}{f:Nat→AV}{σ:St}{Q:PostF}{d:Nat}{op:AOp}{g:Option (Nat×Bool)}{wn:List Nat}{ops:List AOper}{fn:Nat}{af:AFunc}{body:ACode}{dr:Nat}{first cap args:List AV}(hd:Nat.blt d n=true)(hw:wantedF g n f=true)
  (ho:opx 0 (evF env n f) σ op=some (.call (.f (.func fn) first cap) args)) (he:env.ext fn=0) (hp:env.pure fn=false) (hf:env.funcs fn=some af) (hb:af.body=some body)
  (hn:(Nat.beq (first++args++cap).length af.nargs&&Nat.ble (first++args++cap).length af.ntmps)=true) (hres:af.results=[(dr,none)]) (hdr:Nat.blt dr af.ntmps=true)
  (h:GoF env af.ntmps body (argF (first++args++cap)) σ (fun x f' σ'=>x= .ret∧GoV env wh D n ops (upd f d (f' dr)) σ' Q)):GoV env wh D n (⟨some d,op,g,wn⟩::ops) f σ Q:=fun fr hfr=>by
 have hle:(first++args++cap).length≤af.ntmps:=by
  simp only[Bool.and_eq_true] at hn
  exact Nat.le_of_ble_eq_true hn.2
 refine GoesOps.call (by rw[hfr.wanted];exact hw) (by rw[hfr.ev];exact ho) (GoesCall.run he hp hf hb hn ((h _ (isFr_start hle)).mono fun x fr' σ' ⟨f',h1,h2,h3⟩=>?_))
 subst h2
 exact⟨.ok (f' dr),σ',endF_one h1 hres hdr,h3 _ (hfr.put _ hd)⟩
open Classical in
def specOf(K:Nat→List AV→AV→Prop):Nat→List AV→Option AV:=fun g ar=>if h:∃r,K g ar r then some (Classical.choose h) else none
theorem specOf_some{K:Nat→List AV→AV→Prop}(hf:∀g ar r r',K g ar r→K g ar r'→r=r'){g:Nat}{ar:List AV}{r:AV}(h:K g ar r):specOf K g ar=some r:=by
 have hex:∃r,K g ar r:=⟨r,h⟩
 unfold specOf
 rw[dif_pos hex]
 exact congrArg some (hf g ar _ _ (Classical.choose_spec hex) h)
theorem specOf_mem{K:Nat→List AV→AV→Prop}{g:Nat}{ar:List AV}{r:AV}(h:specOf K g ar=some r):K g ar r:=by
 unfold specOf at h
 split at h
 ·rename_i hex
  cases h
  exact Classical.choose_spec hex
 ·cases h
def Base.envK(b:Base)(K:Nat→List AV→AV→Prop):Env:={funcs:=b.funcs.get,glob:=b.glob,pure:=b.pure,spec:=specOf K,fz:=b.fz+1000,ext:=b.ext}
def KOk(P:Program)(b:Base)(K:Nat→List AV→AV→Prop):Prop:=∀g ar r,K g ar r→∀B0,SpecEntry P (b.env []) B0 g ar r
theorem entryK{P:Program}{b:Base}{K:Nat→List AV→AV→Prop}(hb:BaseOk P b)(hK:KOk P b K){g:Nat}{fn:AFunc}{body:ACode}{ar:List AV}{d:Nat}(r:AV)(hf:b.funcs.get g=some fn)(hbd:fn.body=some body)
  (hn:(Nat.beq ar.length fn.nargs&&Nat.ble ar.length fn.ntmps)=true) (hres:fn.results=[(d,none)]) (hd:Nat.blt d fn.ntmps=true) {fr:Nat} (hr:freshA fr r=true) (hrr:AV.eqb 1000 r r=true)
  (h:GoF (b.envK K) fn.ntmps body (argF ar) ⟨.nil,0⟩ (fun x f σ'=>x= .ret∧freeze σ' 0 1000 (f d)=some r)) (B0:Nat):SpecEntry P (b.env []) B0 g ar r:=
 entry_of_goes (env:=b.envK K) (m:=1000) (Nat.le_add_left _ _) ⟨fun g af hg=>FT.get_all hb.funcs g af hg⟩ (fun B0 g ar r hs=>hK g ar r (specOf_mem hs) B0) hb.ext hb.orders r hf hbd hn hres hd hr hrr h B0
end Go.Lyc
end
noncomputable section
namespace Go.Lyc
variable [Tok][TokOk]
open Go.RowKit
def Sees(env:Env)(σ:St)(w:Saw):Prop:=∃v,opx 0 (evalA env w.2.1) σ w.1.op=some (.val v σ)∧AV.eqb env.fz v w.2.2=true
def GoP(env:Env)(D:List (Nat ⊕ (AV×List AV)))(n:Nat)(ops:List AOper)(f:Nat→AV)(σ:St)(Q:(Nat→AV)→Prop):Prop:=
 ∀fr,IsFr D n f fr→∃F0 fr' f' wn,(∀F,F0≤F→∀ss ws,runDraw env 0 (callV env (exec env F) 0) ops fr ss ws σ=some (fr',List.replicate ops.length σ++ss,wn++ws,σ))∧IsFr D n f' fr'∧Q f'∧∀w∈wn,Sees env σ w∧w.1∈ops
section
variable {env:Env}{wh:Option Nat}{D:List (Nat ⊕ (AV×List AV))}{n:Nat}{f:Nat→AV}{σ:St}{Q:(Nat→AV)→Prop}
theorem rep_app(k:Nat)(ss:List St):List.replicate k σ++σ::ss=List.replicate (k+1) σ++ss:=by
 rw[List.replicate_succ',List.append_assoc];rfl
theorem GoP.nil(h:Q f):GoP env D n [] f σ Q:=fun fr hfr=>⟨0,fr,f,[],fun _ _ _ _=>rfl,hfr,h,fun _ hw=>absurd hw (by simp)⟩
theorem GoP.val{d:Nat}{op:AOp}{g:Option (Nat×Bool)}{ops:List AOper}{v:AV}(hd:Nat.blt d n=true)(hw:wantedF g n f=true)(ho:opx 0 (evF env n f) σ op=some (.val v σ))(h:GoP env D n ops (upd f d v) σ Q):
  GoP env D n (⟨some d,op,g,[]⟩::ops) f σ Q:=fun fr hfr=>by
 obtain⟨F0,fr',f',wn,h1,h2,h3,h4⟩:=h _ (hfr.put v hd)
 refine⟨F0,fr',f',wn,fun F hF ss ws=>?_,h2,h3,fun w hw=>⟨(h4 w hw).1,List.mem_cons_of_mem _ (h4 w hw).2⟩⟩
 rw[runDraw_cons]
 show cond (wantedA g fr.slots) _ _=_
 rw[hfr.wanted,hw,cond_true,hfr.ev,ho]
 show runDraw env 0 _ ops (fr.put (some d) v) (σ::ss) ws σ=_
 rw[h1 F hF,rep_app];rfl
theorem GoP.valw{d:Nat}{op:AOp}{g:Option (Nat×Bool)}{q:Nat}{wn:List Nat}{ops:List AOper}{v:AV}(hd:Nat.blt d n=true)(hw:wantedF g n f=true)(ho:opx 0 (evF env n f) σ op=some (.val v σ))(hv:AV.eqb env.fz v v=true)(h:GoP env D n ops (upd f d v) σ Q):
  GoP env D n (⟨some d,op,g,q::wn⟩::ops) f σ Q:=fun fr hfr=>by
 obtain⟨F0,fr',f',wn',h1,h2,h3,h4⟩:=h _ (hfr.put v hd)
 refine⟨F0,fr',f',wn'++[(⟨some d,op,g,q::wn⟩,fr.slots,v)],fun F hF ss ws=>?_,h2,h3,fun w hw=>?_⟩
 ·rw[runDraw_cons]
  show cond (wantedA g fr.slots) _ _=_
  rw[hfr.wanted,hw,cond_true,hfr.ev,ho]
  show runDraw env 0 _ ops (fr.put (some d) v) (σ::ss) ((⟨some d,op,g,q::wn⟩,fr.slots,v)::ws) σ=_
  rw[h1 F hF,rep_app,List.append_assoc];rfl
 ·rcases List.mem_append.1 hw with hw|hw
  ·exact⟨(h4 w hw).1,List.mem_cons_of_mem _ (h4 w hw).2⟩
  ·rw[List.mem_singleton.1 hw]
   exact⟨⟨v,by show opx 0 (evalA env fr.slots) σ op=_;rw[hfr.ev];exact ho,hv⟩,List.mem_cons_self⟩
theorem GoP.off{d:Nat}{op:AOp}{g:Option (Nat×Bool)}{wn:List Nat}{ops:List AOper}(hd:Nat.blt d n=true)(hw:wantedF g n f=false)(h:GoP env D n ops (upd f d undefA) σ Q):
  GoP env D n (⟨some d,op,g,wn⟩::ops) f σ Q:=fun fr hfr=>by
 obtain⟨F0,fr',f',wn,h1,h2,h3,h4⟩:=h _ (hfr.put _ hd)
 refine⟨F0,fr',f',wn,fun F hF ss ws=>?_,h2,h3,fun w hw=>⟨(h4 w hw).1,List.mem_cons_of_mem _ (h4 w hw).2⟩⟩
 rw[runDraw_cons]
 show cond (wantedA g fr.slots) _ _=_
 rw[hfr.wanted,hw,cond_false,h1 F hF,rep_app];rfl
theorem GoP.spec{d:Nat}{op:AOp}{g:Option (Nat×Bool)}{wn:List Nat}{ops:List AOper}{fn:Nat}{args ar:List AV}{r:AV}(hd:Nat.blt d n=true)(hw:wantedF g n f=true)(ho:opx 0 (evF env n f) σ op=some (.call (.f (.func fn) [] []) args))
  (he:env.ext fn=0) (hp:env.pure fn=true) (ha:mapO (snapshot σ env.fz) args=some ar) (hs:env.spec fn ar=some r) (h:GoP env D n ops (upd f d r) σ Q):GoP env D n (⟨some d,op,g,wn⟩::ops) f σ Q:=fun fr hfr=>by
 obtain⟨F0,fr',f',wn,h1,h2,h3,h4⟩:=h _ (hfr.put _ hd)
 refine⟨F0,fr',f',wn,fun F hF ss ws=>?_,h2,h3,fun w hw=>⟨(h4 w hw).1,List.mem_cons_of_mem _ (h4 w hw).2⟩⟩
 rw[runDraw_cons]
 show cond (wantedA g fr.slots) _ _=_
 have hc:callV env (exec env F) 0 (.f (.func fn) [] []) args σ=some [(.ok r,σ)]:=by
  show callF env (exec env F) 0 fn ([]++args++[]) σ=_
  unfold callF
  rw[he]
  show cond (env.pure fn) _ _=_
  rw[hp,cond_true,List.nil_append,List.append_nil,ha]
  show(match env.spec fn ar with|some r=>_|none=>_)=_
  rw[hs]
 rw[hfr.wanted,hw,cond_true,hfr.ev,ho]
 show(match callV env (exec env F) 0 (.f (.func fn) [] []) args σ with|some [(.ok v,σ')]=>runDraw env 0 _ ops (fr.put (some d) v) (σ::ss) ws σ'|_=>none)=_
 rw[hc]
 show runDraw env 0 _ ops (fr.put (some d) r) (σ::ss) ws σ=_
 rw[h1 F hF,rep_app];rfl
def winsOk(ops:List AOper):Bool:=allB (fun o=>allB (fun q=>Nat.ble q ops.length) o.win) ops
def swapT(ops:List AOper):Bool:=match ops.reverse with|y::_=>(match y.win with|[]=>true|_::_=>false)|[]=>true
theorem swapOk_of{env:Env}{sl:Tr AV}{ops:List AOper}(h:swapT ops=true):swapOk env sl ops=true:=by
 unfold swapT at h
 unfold swapOk
 cases hr:ops.reverse with
 |nil=>rfl
 |cons y t=>
  rw[hr] at h
  cases t with
  |nil=>rfl
  |cons x t=>
   cases hw:y.win with
   |nil=>simp only[hw]
   |cons a l=>simp only[hw] at h;cases h
theorem allB_mem{α:Type}{p:α→Bool}{l:List α}(h:allB p l=true):∀x∈l,p x=true:=fun x hx=>allB_all h x hx
theorem nth_rep{α:Type}(x:α):∀ {k q:Nat},q<k→nth (List.replicate k x) q=some x
 |0,q,h=>by omega
 |k+1,0,_=>rfl
 |k+1,q+1,h=>by
  show nth (List.replicate k x) q=some x
  exact nth_rep x (by omega)
theorem GoF.draw{ops:List AOper}{Q:PostF}(hw:winsOk ops=true)(hs:swapT ops=true)(h:GoP env D n ops f σ (fun f'=>Q .normal f' σ)):GoW env wh D n (.draw ops) f σ Q:=fun fr hfr=>by
 obtain⟨F0,fr',f',wn,h1,h2,h3,h4⟩:=h fr hfr
 refine⟨F0+1,[(.normal,fr',σ)],by simp,fun F hF=>?_,fun o ho=>?_⟩
 ·obtain⟨k,rfl⟩:∃k,F=k+1:=⟨F-1,by omega⟩
  show exec env (k+1) 0 wh (ACode.draw ops) fr σ=_
  rw[exec_succ]
  show(match runDraw env 0 (callV env (exec env k) 0) ops fr [] [] σ with
   |some (fr',ss,ws,σ')=>cond (ws.all (steady env 0 (σ'::ss).reverse)&&swapOk env fr'.slots ops) (some [(Ex.normal,fr',σ')]) none
   |none=>none)=_
  rw[h1 k (by omega)]
  show cond ((wn++[]).all (steady env 0 (σ::(List.replicate ops.length σ++[])).reverse)&&swapOk env fr'.slots ops) (some [(Ex.normal,fr',σ)]) none=_
  rw[List.append_nil,List.append_nil,swapOk_of hs,Bool.and_true]
  have:wn.all (steady env 0 (σ::List.replicate ops.length σ).reverse)=true:=by
   rw[List.all_eq_true]
   intro w hwn
   obtain⟨⟨v,hv1,hv2⟩,hmem⟩:=h4 w hwn
   unfold steady
   refine allB_of fun q hq=>?_
   have hq':q≤ops.length:=Nat.le_of_ble_eq_true (allB_mem (allB_mem hw w.1 hmem) q hq)
   have:(σ::List.replicate ops.length σ).reverse=List.replicate (ops.length+1) σ:=by
    rw[←List.replicate_succ,List.reverse_replicate]
   rw[this,nth_rep σ (by omega)]
   show(match opxF w.1.op 0 (evalA env w.2.1) σ with|some (.val v _)=>AV.eqb env.fz v w.2.2|_=>false)=true
   rw[opxF_eq,hv1];exact hv2
  rw[this];rfl
 ·rw[List.mem_singleton.1 ho]
  exact⟨f',h2,h3⟩
end
end Go.Lyc
end
noncomputable section
namespace Go.Lyc
variable [Tok][TokOk]
open Go.RowKit
def Snp(n:Nat)(v:AV):Prop:=∀σ,snapshot σ n v=some v
theorem mapO_id{f:AV→Option AV}:∀ {l:List AV},(∀x∈l,f x=some x)→mapO f l=some l
 |[],_=>rfl
 |x::l,h=>by rw[mapO_cons',h x (by simp),mapO_id fun y hy=>h y (List.mem_cons_of_mem _ hy)]
theorem mapO_map{α:Type}{f:AV→Option AV}{g h:α→AV}:∀ {l:List α},(∀x∈l,f (g x)=some (h x))→mapO f (l.map g)=some (l.map h)
 |[],_=>rfl
 |x::l,hx=>by rw[List.map_cons,mapO_cons',hx x (by simp),mapO_map fun y hy=>hx y (List.mem_cons_of_mem _ hy)];rfl
theorem Snp.i(n:Nat)(k:IntKind)(x:Int):Snp (n+1) (.i k x):=fun _=>rfl
theorem Snp.b(n:Nat)(x:Bool):Snp (n+1) (.b x):=fun _=>rfl
theorem Snp.s(n:Nat)(x:List Nat):Snp (n+1) (.s x):=fun _=>rfl
theorem Snp.nilsl(n:Nat):Snp (n+1) .nilsl:=fun _=>rfl
theorem Snp.ag{n:Nat}{l:List AV}(h:∀x∈l,Snp n x):Snp (n+1) (.ag l):=fun σ=>by
 show(match mapO (snapshot σ n) l with|none=>none|some l=>some (AV.ag l))=_
 rw[mapO_id fun x hx=>h x hx σ]
theorem Snp.tl{n:Nat}{sh:Option Nat}{l:List AV}(h:∀x∈l,Snp n x):Snp (n+1) (.tl true sh l):=fun σ=>by
 show(match mapO (snapshot σ n) l with|none=>none|some xs=>some (AV.tl true sh xs))=_
 rw[mapO_id fun x hx=>h x hx σ]
theorem all2_refl{α:Type}{f:α→α→Bool}:∀ {l:List α},(∀x∈l,f x x=true)→all2 f l l=true
 |[],_=>rfl
 |x::l,h=>by
  show cond (f x x) (all2 f l l) false=true
  rw[h x (by simp),cond_true]
  exact all2_refl fun y hy=>h y (List.mem_cons_of_mem _ hy)
theorem eqL_refl:∀l,eqL l l=true
 |[]=>rfl
 |x::l=>by
  show cond (Nat.beq x x) (eqL l l) false=true
  rw[Nat.beq_refl,cond_true,eqL_refl l]
theorem Snp.eqb:∀(n:Nat) (v:AV),Snp n v→AV.eqb n v v=true
 |0,v,h=>by have:=h ⟨.nil,0⟩;cases this
 |n+1,v,h=>by
  have ih:=Snp.eqb n
  cases v with
  |b x=>show(x==x)=true;simp
  |i k x=>show(decide (k=k)&&decide (x=x))=true;simp
  |s l=>exact eqL_refl l
  |p a=>cases a with
   |none=>rfl
   |some a=>have:=h ⟨.nil,0⟩;cases this
  |tp o v=>have:=h ⟨.nil,0⟩;cases this
  |sl a b c d e=>
   have hs:=h ⟨.nil,0⟩
   have:snapshot ⟨.nil,0⟩ (n+1) (.sl a b c d e)=(match readList ⟨.nil,0⟩ (.sl a b c d e) with|none=>none|some xs=>match mapO (snapshot ⟨.nil,0⟩ n) xs with|none=>none|some xs=>some (AV.tl true d xs)):=rfl
   rw[this] at hs
   split at hs
   ·cases hs
   ·split at hs<;>cases hs
  |nilsl=>rfl
  |tl o sh xs=>
   have hs:=h ⟨.nil,0⟩
   have e:snapshot ⟨.nil,0⟩ (n+1) (.tl o sh xs)=(match mapO (snapshot ⟨.nil,0⟩ n) xs with|none=>none|some xs=>some (AV.tl true sh xs)):=rfl
   show((o==o)&&decide (sh=sh)&&all2 (AV.eqb n) xs xs)=true
   have hx:∀σ,mapO (snapshot σ n) xs=some xs:=fun σ=>by
    have hs:=h σ
    have e:snapshot σ (n+1) (.tl o sh xs)=(match mapO (snapshot σ n) xs with|none=>none|some xs=>some (AV.tl true sh xs)):=rfl
    rw[e] at hs
    cases hm:mapO (snapshot σ n) xs with
    |none=>rw[hm] at hs;cases hs
    |some ys=>rw[hm] at hs;simp only[Option.some.injEq,AV.tl.injEq] at hs;rw[hs.2.2]
   have hall:all2 (AV.eqb n) xs xs=true:=all2_refl fun x hx'=>ih x fun σ=>by
    have:=hx σ
    exact mapO_self this x hx'
   simp[hall]
  |m r=>cases r with
   |none=>rfl
   |some r=>have:=h ⟨.nil,0⟩;cases this
  |f a b c=>have:=h ⟨.nil,0⟩;cases this
  |nf=>rfl
  |it t v=>
   show(Nat.beq t t&&AV.eqb n v v)=true
   rw[Nat.beq_refl,Bool.true_and]
   refine ih v fun σ=>?_
   have hs:=h σ
   have e:snapshot σ (n+1) (.it t v)=(match snapshot σ n v with|none=>none|some v=>some (AV.it t v)):=rfl
   rw[e] at hs
   cases hm:snapshot σ n v with
   |none=>rw[hm] at hs;cases hs
   |some y=>rw[hm] at hs;simp only[Option.some.injEq,AV.it.injEq,true_and] at hs;rw[hs]
  |ni=>rfl
  |ag l=>
   show all2 (AV.eqb n) l l=true
   refine all2_refl fun x hx'=>ih x fun σ=>?_
   have hs:=h σ
   have e:snapshot σ (n+1) (.ag l)=(match mapO (snapshot σ n) l with|none=>none|some l=>some (AV.ag l)):=rfl
   rw[e] at hs
   cases hm:mapO (snapshot σ n) l with
   |none=>rw[hm] at hs;cases hs
   |some ys=>rw[hm] at hs;simp only[Option.some.injEq,AV.ag.injEq] at hs;subst hs;exact mapO_self hm x hx'
  |tu l=>
   show all2 (AV.eqb n) l l=true
   refine all2_refl fun x hx'=>ih x fun σ=>?_
   have hs:=h σ
   have e:snapshot σ (n+1) (.tu l)=(match mapO (snapshot σ n) l with|none=>none|some l=>some (AV.tu l)):=rfl
   rw[e] at hs
   cases hm:mapO (snapshot σ n) l with
   |none=>rw[hm] at hs;cases hs
   |some ys=>rw[hm] at hs;simp only[Option.some.injEq,AV.tu.injEq] at hs;subst hs;exact mapO_self hm x hx'
  |um k d j=>show(decide (k=k)&&(Nat.beq d d&&Nat.beq j j))=true;simp
  |sx l=>exact all2_refl fun x _=>eqL_refl x
  |iu hi=>show(hi==hi)=true;simp
  |y i=>exact Nat.beq_refl i
  |yt o i=>show((o==o)&&Nat.beq i i)=true;simp
where
 mapO_self {f:AV→Option AV}:∀ {l:List AV},mapO f l=some l→∀x∈l,f x=some x:=fun {l}=>by
  induction l with
  |nil=>intro _ x hx;simp at hx
  |cons a l ihl=>
   intro h x hx
   rw[mapO_cons'] at h
   cases ha:f a with
   |none=>rw[ha] at h;cases h
   |some y=>
    rw[ha] at h
    cases hl:mapO f l with
    |none=>simp only[hl] at h;cases h
    |some ys=>
     simp only[hl,Option.some.injEq,List.cons.injEq] at h
     obtain⟨h1,h2⟩:=h
     subst h1;subst h2
     rcases List.mem_cons.1 hx with rfl|hx
     ·exact ha
     ·exact ihl hl x hx
end Go.Lyc
end
noncomputable section
namespace Go.Lyc
variable [Tok][TokOk]
open Go.RowKit
theorem dec_ofNat{a b:Nat}:decide (Int.ofNat a=Int.ofNat b)=decide (a=b):=decide_eq_decide.2 ⟨Int.ofNat.inj,fun h=>by rw[h]⟩
theorem bin_eqk{k:IntKind}{a b:Nat}:binop .eql (.i k (Int.ofNat a)) (.i k (Int.ofNat b))=some (.b (decide (a=b))):=by
 rw[←dec_ofNat]
 show(if k=k then binI .eql k (Int.ofNat a) (Int.ofNat b) else none)=_
 rw[if_pos rfl];rfl
theorem bin_neqk{k:IntKind}{a b:Nat}:binop .neq (.i k (Int.ofNat a)) (.i k (Int.ofNat b))=some (.b (!decide (a=b))):=by
 rw[←dec_ofNat]
 show(if k=k then binI .neq k (Int.ofNat a) (Int.ofNat b) else none)=_
 rw[if_pos rfl];rfl
def cmpO(op:BinOp)(a b:Nat):Option AV:=
 match op with
 | .eql=>some (.b (decide (a=b)))
 | .neq=>some (.b (!decide (a=b)))
 | .lss=>some (.b (decide (a<b)))
 | .leq=>some (.b (decide (a≤b)))
 | .gtr=>some (.b (decide (b<a)))
 | .geq=>some (.b (decide (b≤a)))
 |_=>none
theorem bin_cmp{op:BinOp}{k:IntKind}{a b:Nat}{v:AV}(h:cmpO op a b=some v):binop op (.i k (Int.ofNat a)) (.i k (Int.ofNat b))=some v:=by
 cases op with
 |eql=>rw[bin_eqk];exact h
 |neq=>rw[bin_neqk];exact h
 |lss=>
  rw[←h]
  show(if k=k then binI .lss k (Int.ofNat a) (Int.ofNat b) else none)=_
  rw[if_pos rfl]
  show some (AV.b (decide ((Int.ofNat a)<Int.ofNat b)))=some (.b (decide (a<b)))
  congr 2;simp
 |leq=>
  rw[←h]
  show(if k=k then binI .leq k (Int.ofNat a) (Int.ofNat b) else none)=_
  rw[if_pos rfl]
  show some (AV.b (decide ((Int.ofNat a)≤Int.ofNat b)))=some (.b (decide (a≤b)))
  congr 2;simp
 |gtr=>
  rw[←h]
  show(if k=k then binI .gtr k (Int.ofNat a) (Int.ofNat b) else none)=_
  rw[if_pos rfl]
  show some (AV.b (decide ((Int.ofNat b)<Int.ofNat a)))=some (.b (decide (b<a)))
  congr 2;simp
 |geq=>
  rw[←h]
  show(if k=k then binI .geq k (Int.ofNat a) (Int.ofNat b) else none)=_
  rw[if_pos rfl]
  show some (AV.b (decide ((Int.ofNat b)≤Int.ofNat a)))=some (.b (decide (b≤a)))
  congr 2;simp
 |_=>cases h
theorem wrapN_nat{n:Nat}(h:n<2^63):wrapN .i64 (Int.ofNat n)=Int.ofNat n:=by
 show cond (Nat.blt n 9223372036854775808) (Int.ofNat n) _=_
 rw[show Nat.blt n 9223372036854775808=true from Nat.ble_eq_true_of_le (by omega)];rfl
theorem bin_add{a b:Nat}(h:a+b<2^63):binop .add (nI a) (nI b)=some (nI (a+b)):=by
 show some (AV.i .i64 (wrapN .i64 (Int.ofNat (a+b))))=_
 rw[wrapN_nat h]
theorem bin_mul{a b:Nat}(h:a*b<2^63):binop .mul (nI a) (nI b)=some (nI (a*b)):=by
 show some (AV.i .i64 (wrapN .i64 (Int.ofNat (a*b))))=_
 rw[wrapN_nat h]
theorem bin_sub{a b:Nat}(hb:b≤a)(h:a<2^63):binop .sub (nI a) (nI b)=some (nI (a-b)):=by
 show some (AV.i .i64 (wrapN .i64 (Int.ofNat a-Int.ofNat b)))=_
 have:Int.ofNat a-Int.ofNat b=Int.ofNat (a-b):=by simp only[Int.ofNat_eq_natCast];omega
 rw[this,wrapN_nat (by omega)]
def plainOp:AOp→Bool
 | .bin _ _ _=>false
 | .conv _ _=>false
 | .append _ _ _ _=>false
 | .buildSlice _ _ _ _=>false
 | .neg _=>false
 |_=>true
section
variable {env:Env}{wh:Option Nat}{D:List (Nat ⊕ (AV×List AV))}{n:Nat}{f:Nat→AV}{σ:St}{Q:PostF}
theorem GoO.go{d:Nat}{op:AOp}{g:Option (Nat×Bool)}{wn:List Nat}{ops:List AOper}{v:AV}{σ':St}(_hb:plainOp op=true)(hd:Nat.blt d n=true)(hw:wantedF g n f=true)(ho:opx 0 (evF env n f) σ op=some (.val v σ'))(h:GoV env wh D n ops (upd f d v) σ' Q):
  GoV env wh D n (⟨some d,op,g,wn⟩::ops) f σ Q:=GoO.val hd hw ho h
theorem GoO.bin{d:Nat}{op:BinOp}{x y:AOpd}{g:Option (Nat×Bool)}{wn:List Nat}{ops:List AOper}{a b v:AV}(hd:Nat.blt d n=true)(hw:wantedF g n f=true)(h1:evF env n f x=some a)(h2:evF env n f y=some b)(h3:binop op a b=some v)
  (h:GoV env wh D n ops (upd f d v) σ Q):GoV env wh D n (⟨some d,.bin op x y,g,wn⟩::ops) f σ Q:=GoO.val hd hw (op_bin a b v h1 h2 h3) h
theorem GoO.cmp{d:Nat}{op:BinOp}{x y:AOpd}{g:Option (Nat×Bool)}{wn:List Nat}{ops:List AOper}{k:IntKind}{a b:Nat}{v:AV}(hd:Nat.blt d n=true)(hw:wantedF g n f=true)(h1:evF env n f x=some (.i k (Int.ofNat a)))(h2:evF env n f y=some (.i k (Int.ofNat b)))(h3:cmpO op a b=some v)
  (h:GoV env wh D n ops (upd f d v) σ Q):GoV env wh D n (⟨some d,.bin op x y,g,wn⟩::ops) f σ Q:=GoO.val hd hw (op_bin _ _ v h1 h2 (bin_cmp h3)) h
theorem GoP.cmp{d:Nat}{op:BinOp}{x y:AOpd}{g:Option (Nat×Bool)}{ops:List AOper}{k:IntKind}{a b:Nat}{v:AV}{Q:(Nat→AV)→Prop}(hd:Nat.blt d n=true)(hw:wantedF g n f=true)(h1:evF env n f x=some (.i k (Int.ofNat a)))(h2:evF env n f y=some (.i k (Int.ofNat b)))(h3:cmpO op a b=some v)
  (h:GoP env D n ops (upd f d v) σ Q):GoP env D n (⟨some d,.bin op x y,g,[]⟩::ops) f σ Q:=GoP.val hd hw (op_bin _ _ v h1 h2 (bin_cmp h3)) h
theorem GoO.ld{d:Nat}{sh:Option Nat}{x:AOpd}{g:Option (Nat×Bool)}{wn:List Nat}{ops:List AOper}{id off:Nat}{c:List AV}{v:AV}(hs:σ.get id=some (.cells c))(hd:Nat.blt d n=true)(hw:wantedF g n f=true)(h1:evF env n f x=some (.p (some (id,off))))(h2:takeSh sh (c.drop off)=some v)
  (h:GoV env wh D n ops (upd f d v) σ Q):GoV env wh D n (⟨some d,.load sh x,g,wn⟩::ops) f σ Q:=GoO.val hd hw (op_load _ _ h1 (loadA_p hs h2)) h
theorem GoP.go{d:Nat}{op:AOp}{g:Option (Nat×Bool)}{ops:List AOper}{v:AV}{Q:(Nat→AV)→Prop}(_hb:plainOp op=true)(hd:Nat.blt d n=true)(hw:wantedF g n f=true)(ho:opx 0 (evF env n f) σ op=some (.val v σ))(h:GoP env D n ops (upd f d v) σ Q):
  GoP env D n (⟨some d,op,g,[]⟩::ops) f σ Q:=GoP.val hd hw ho h
theorem GoP.bin{d:Nat}{op:BinOp}{x y:AOpd}{g:Option (Nat×Bool)}{ops:List AOper}{a b v:AV}{Q:(Nat→AV)→Prop}(hd:Nat.blt d n=true)(hw:wantedF g n f=true)(h1:evF env n f x=some a)(h2:evF env n f y=some b)(h3:binop op a b=some v)
  (h:GoP env D n ops (upd f d v) σ Q):GoP env D n (⟨some d,.bin op x y,g,[]⟩::ops) f σ Q:=GoP.val hd hw (op_bin a b v h1 h2 h3) h
theorem GoP.ld{d:Nat}{sh:Option Nat}{x:AOpd}{g:Option (Nat×Bool)}{ops:List AOper}{id off:Nat}{c:List AV}{v:AV}{Q:(Nat→AV)→Prop}(hs:σ.get id=some (.cells c))(hd:Nat.blt d n=true)(hw:wantedF g n f=true)(h1:evF env n f x=some (.p (some (id,off))))(h2:takeSh sh (c.drop off)=some v)
  (h:GoP env D n ops (upd f d v) σ Q):GoP env D n (⟨some d,.load sh x,g,[]⟩::ops) f σ Q:=GoP.val hd hw (op_load _ _ h1 (loadA_p hs h2)) h
theorem GoP.ldw{d:Nat}{sh:Option Nat}{x:AOpd}{g:Option (Nat×Bool)}{q:Nat}{wn:List Nat}{ops:List AOper}{id off:Nat}{c:List AV}{v:AV}{Q:(Nat→AV)→Prop}(hs:σ.get id=some (.cells c))(hd:Nat.blt d n=true)(hw:wantedF g n f=true)(h1:evF env n f x=some (.p (some (id,off))))(h2:takeSh sh (c.drop off)=some v)
  (hv:AV.eqb env.fz v v=true) (h:GoP env D n ops (upd f d v) σ Q):GoP env D n (⟨some d,.load sh x,g,q::wn⟩::ops) f σ Q:=GoP.valw hd hw (op_load _ _ h1 (loadA_p hs h2)) hv h
theorem op_len{ev:AOpd→Option AV}{k:Nat}{x:AOpd}{v:AV}{m:Nat}(h1:ev x=some v)(h2:lenA σ k v=some m):opx 0 ev σ (.len k x)=some (.val (nI m) σ):=by
 show(match ev x with|some x=>(match lenA σ k x with|some n=>some (OpR.val (nI n) σ)|none=>lenU σ k x)|none=>none)=_
 rw[h1]
 show(match lenA σ k v with|some n=>some (OpR.val (nI n) σ)|none=>lenU σ k v)=_
 rw[h2]
theorem GoO.len{d k m:Nat}{x:AOpd}{g:Option (Nat×Bool)}{wn:List Nat}{ops:List AOper}{v:AV}(hd:Nat.blt d n=true)(hw:wantedF g n f=true)(h1:evF env n f x=some v)(h2:lenA σ k v=some m)(h:GoV env wh D n ops (upd f d (nI m)) σ Q):
  GoV env wh D n (⟨some d,.len k x,g,wn⟩::ops) f σ Q:=GoO.val hd hw (op_len h1 h2) h
theorem GoO.idx{d:Nat}{sh:Option Nat}{x i:AOpd}{g:Option (Nat×Bool)}{wn:List Nat}{ops:List AOper}{k:IntKind}{a v:AV}{j:Nat}(hd:Nat.blt d n=true)(hw:wantedF g n f=true)(h1:evF env n f x=some a)(h2:evF env n f i=some (.i k (Int.ofNat j)))(h3:idxSlA sh a j=some v)
  (h:GoV env wh D n ops (upd f d v) σ Q):GoV env wh D n (⟨some d,.idxSl sh x i,g,wn⟩::ops) f σ Q:=GoO.val hd hw (op_idxSl k a j v h1 h2 h3) h
theorem GoP.idx{d:Nat}{sh:Option Nat}{x i:AOpd}{g:Option (Nat×Bool)}{ops:List AOper}{k:IntKind}{a v:AV}{j:Nat}{Q:(Nat→AV)→Prop}(hd:Nat.blt d n=true)(hw:wantedF g n f=true)(h1:evF env n f x=some a)(h2:evF env n f i=some (.i k (Int.ofNat j)))(h3:idxSlA sh a j=some v)
  (h:GoP env D n ops (upd f d v) σ Q):GoP env D n (⟨some d,.idxSl sh x i,g,[]⟩::ops) f σ Q:=GoP.val hd hw (op_idxSl k a j v h1 h2 h3) h
theorem GoO.ldt{d:Nat}{sh:Option Nat}{x:AOpd}{g:Option (Nat×Bool)}{wn:List Nat}{ops:List AOper}{o:Bool}{v:AV}(hd:Nat.blt d n=true)(hw:wantedF g n f=true)(h1:evF env n f x=some (.tp o v))(h2:conf sh v=true)
  (h:GoV env wh D n ops (upd f d v) σ Q):GoV env wh D n (⟨some d,.load sh x,g,wn⟩::ops) f σ Q:=GoO.val hd hw (op_load _ _ h1 (by show(if conf sh v then some v else none)=_;rw[if_pos h2])) h
theorem GoP.ldt{d:Nat}{sh:Option Nat}{x:AOpd}{g:Option (Nat×Bool)}{ops:List AOper}{o:Bool}{v:AV}{Q:(Nat→AV)→Prop}(hd:Nat.blt d n=true)(hw:wantedF g n f=true)(h1:evF env n f x=some (.tp o v))(h2:conf sh v=true)
  (h:GoP env D n ops (upd f d v) σ Q):GoP env D n (⟨some d,.load sh x,g,[]⟩::ops) f σ Q:=GoP.val hd hw (op_load _ _ h1 (by show(if conf sh v then some v else none)=_;rw[if_pos h2])) h
theorem op_istr{ev:AOpd→Option AV}{x i:AOpd}{k:IntKind}{l:List Nat}{j c:Nat}(h1:ev x=some (.s l))(h2:ev i=some (.i k (Int.ofNat j)))(h:nth l j=some c):opx 0 ev σ (.indexStr x i)=some (.val (.i .u8 (Int.ofNat c)) σ):=by
 show(match ev x,ev i with
  |some (.s l),some j=>(match natOf j with
   |some j=>(match nth l j with|some c=>some (OpR.val (.i .u8 (Int.ofNat c)) σ)|none=>none)
   |none=>none)
  |_,_=>none)=_
 rw[h1,h2]
 show(match nth l j with|some c=>some (OpR.val (.i .u8 (Int.ofNat c)) σ)|none=>none)=_
 rw[h]
theorem op_sstr{ev:AOpd→Option AV}{x:AOpd}{lo hi:Option AOpd}{s:List Nat}{l h:Nat}(h1:ev x=some (.s s))(h2:bndO ev lo 0=some l)(h3:bndO ev hi s.length=some h)(hl:l≤h)(hh:h≤s.length):opx 0 ev σ (.sliceStr x lo hi)=some (.val (.s ((s.drop l).take (h-l))) σ):=by
 show(match ev x with
  |some (.s s)=>(match bndO ev lo 0,bndO ev hi s.length with
   |some l,some h=>if Nat.ble l h&&Nat.ble h s.length then some (OpR.val (.s ((s.drop l).take (h-l))) σ) else none
   |_,_=>none)
  |_=>none)=_
 rw[h1]
 show(match bndO ev lo 0,bndO ev hi s.length with
   |some l,some h=>if Nat.ble l h&&Nat.ble h s.length then some (OpR.val (.s ((s.drop l).take (h-l))) σ) else none
   |_,_=>none)=_
 rw[h2,h3]
 show(if Nat.ble l h&&Nat.ble h s.length then some (OpR.val (.s ((s.drop l).take (h-l))) σ) else none)=_
 rw[if_pos (by rw[Nat.ble_eq_true_of_le hl,Nat.ble_eq_true_of_le hh];rfl)]
theorem op_idxArrT{ev:AOpd→Option AV}{m:Nat}{sh:Option Nat}{x i:AOpd}{k:IntKind}{o:Bool}{cs:List AV}{j:Nat}{v:AV}(h1:ev x=some (.tp o (.ag cs)))(h2:ev i=some (.i k (Int.ofNat j)))(h:j<m)(h3:takeSh sh (cs.drop (j*shN sh))=some v):opx 0 ev σ (.idxArr m sh x i)=some (.val (.tp o v) σ):=by
 show(match ev x,ev i with
  |some x,some j=>(match natOf j with
   |some j=>(if Nat.blt j m then(match fieldAddrA (j*shN sh) sh x with|some v=>some (OpR.val v σ)|none=>none) else none)
   |none=>none)
  |_,_=>none)=_
 rw[h1,h2]
 show(if Nat.blt j m then(match(match takeSh sh (cs.drop (j*shN sh)) with|some v=>some (AV.tp o v)|none=>none) with|some v=>some (OpR.val v σ)|none=>none) else none)=_
 rw[if_pos (show Nat.blt j m=true from Nat.ble_eq_true_of_le h),h3]
theorem GoF.cut{a b:ACode}(L:List (Nat×AV))(h1:GoW env wh D n a f σ (fun x f' σ'=>x= .normal∧σ'=σ∧sat L f'))(h2:∀g,GoW env wh D n b (upds L g) σ Q):GoW env wh D n (.seq a b) f σ Q:=GoF.seq (h1.mono fun x f' σ' ⟨e1,e2,e3⟩=>by
 subst e1;subst e2
 show GoW env wh D n b f' σ' Q
 exact GoF.norm L e3 h2)
theorem GoF.cutR{a b:ACode}(L:List (Nat×AV)){E:PostF}{M:Prop}(h1:GoW env wh D n a f σ (fun x f' σ'=>(x= .normal∧σ'=σ∧sat L f'∧M)∨E x f' σ'))(h3:∀x f' σ',E x f' σ'→x≠ .normal∧Q x f' σ')(h2:M→∀g,GoW env wh D n b (upds L g) σ Q):GoW env wh D n (.seq a b) f σ Q:=GoF.seq (h1.mono fun x f' σ' h=>by
 rcases h with⟨e1,e2,e3,e4⟩|h
 ·subst e1;subst e2
  show GoW env wh D n b f' σ' Q
  exact GoF.norm L e3 fun g=>h2 e4 g
 ·obtain⟨e1,e2⟩:=h3 _ _ _ h
  cases x with
  |normal=>exact absurd rfl e1
  |exit i=>exact e2
  |ret=>exact e2
  |panic v=>exact e2)
theorem GoO.box{d:Nat}{x:AOpd}{g:Option (Nat×Bool)}{wn:List Nat}{ops:List AOper}{v:AV}{c:List AV}(k:Nat)(hn:σ.next=k)(hd:Nat.blt d n=true)(hw:wantedF g n f=true)(hv:evF env n f x=some v)(hval:v.val=true)(hc:v.cells=c)
  (h:∀σ':St,σ'.next=k+1→σ'.get k=some (.cells c)→(∀i o,σ.get i=some o→σ'.get i=some o)→GoV env wh D n ops (upd f d (.p (some (k,0)))) σ' Q):GoV env wh D n (⟨some d,.box x,g,wn⟩::ops) f σ Q:=by
 subst hn
 refine GoO.val (v:=ptrId σ.next 0) (σ':=σ.push (.cells c)) hd hw ?_ (h (σ.push (.cells c)) rfl (St.get_push_new _) fun i o ho=>?_)
 ·show(match evF env n f x with|some v=>cond v.val (some (OpR.val (ptrId σ.next 0) (σ.push (.cells v.cells)))) none|none=>none)=_
  rw[hv]
  show cond v.val _ _=_
  rw[hval,cond_true,hc]
 ·rw[St.get_push_old trivial _ (St.get_lt ho)];exact ho
theorem GoO.alloc{d:Nat}{v:AV}{g:Option (Nat×Bool)}{wn:List Nat}{ops:List AOper}{c:List AV}(k:Nat)(hn:σ.next=k)(hd:Nat.blt d n=true)(hw:wantedF g n f=true)(hc:v.cells=c)
  (h:∀σ':St,σ'.next=k+1→σ'.get k=some (.cells c)→(∀i o,σ.get i=some o→σ'.get i=some o)→GoV env wh D n ops (upd f d (.p (some (k,0)))) σ' Q):GoV env wh D n (⟨some d,.alloc v,g,wn⟩::ops) f σ Q:=by
 subst hn
 refine GoO.val (v:=ptrId σ.next 0) (σ':=σ.push (.cells c)) hd hw ?_ (h (σ.push (.cells c)) rfl (St.get_push_new _) fun i o ho=>?_)
 ·rw[←hc];rfl
 ·rw[St.get_push_old trivial _ (St.get_lt ho)];exact ho
theorem op_store{ev:AOpd→Option AV}{sh:Option Nat}{a x:AOpd}{id off:Nat}{v:AV}{c c':List AV}(hs:σ.get id=some (.cells c))(h1:ev a=some (.p (some (id,off))))(h2:ev x=some v)(hcf:conf sh v=true)(hc:storeCells c off v.cells=some c'):
  opx 0 ev σ (.store sh a x)=some (.val undefA (σ.set id (.cells c'))):=by
 show(match ev a,ev x with
  |some (.p (some (id,off))),some v=>
   if Nat.blt id 0 then none else
   if conf sh v then
    match σ.get id with
    |some (.cells c)=>match storeCells c off v.cells with
     |some c=>some (OpR.val undefA (σ.set id (.cells c)))
     |none=>none
    |_=>none
   else none
  |_,_=>none)=_
 rw[h1,h2]
 show(if Nat.blt id 0 then none else if conf sh v then(match σ.get id with
    |some (.cells c)=>match storeCells c off v.cells with
     |some c=>some (OpR.val undefA (σ.set id (.cells c)))
     |none=>none
    |_=>none) else none)=_
 rw[if_neg (by simp[Nat.blt,Nat.ble]),if_pos hcf,hs]
 show(match storeCells c off v.cells with|some c=>some (OpR.val undefA (σ.set id (.cells c)))|none=>none)=_
 rw[hc]
theorem set_get{id:Nat}{o o':AO}(hs:σ.get id=some o):(σ.set id o').get id=some o'∧(∀i o,i≠id→σ.get i=some o→(σ.set id o').get i=some o):=by
 have hlt:=St.get_lt hs
 refine⟨by rw[St.get_set trivial _ hlt,if_pos rfl],fun i o hi ho=>?_⟩
 rw[St.get_set trivial _ hlt,if_neg hi];exact ho
theorem GoO.store{sh:Option Nat}{a x:AOpd}{g:Option (Nat×Bool)}{wn:List Nat}{ops:List AOper}{id off:Nat}{v:AV}{c c':List AV}(hs:σ.get id=some (.cells c))(hw:wantedF g n f=true)(h1:evF env n f a=some (.p (some (id,off))))(h2:evF env n f x=some v)(hcf:conf sh v=true)(hc:storeCells c off v.cells=some c')
  (h:∀σ':St,σ'.next=σ.next→σ'.get id=some (.cells c')→(∀i o,i≠id→σ.get i=some o→σ'.get i=some o)→GoV env wh D n ops f σ' Q):GoV env wh D n (⟨none,.store sh a x,g,wn⟩::ops) f σ Q:=
 GoO.eff hw (op_store hs h1 h2 hcf hc) (h _ rfl (set_get hs).1 (set_get hs).2)
theorem storeAll{c v:List AV}(h:v.length=c.length):storeCells c 0 v=some v:=by
 unfold storeCells
 rw[if_pos (Nat.ble_eq_true_of_le (by omega)),Nat.zero_add,h,List.drop_length]
 simp
theorem GoO.var{d:Nat}{z:AV}{sh:Option Nat}{x:AOpd}{wn wn2:List Nat}{ops:List AOper}{v:AV}{c:List AV}(k:Nat)(hn:σ.next=k)(hd:Nat.blt d n=true)(h1:Nat.beq d d=true)(hx:evF env n (upd f d (.p (some (k,0)))) x=some v)(hcf:conf sh v=true)(hc:v.cells=c)(hl:c.length=z.cells.length)
  (h:∀σ':St,σ'.next=k+1→σ'.get k=some (.cells c)→(∀i o,σ.get i=some o→σ'.get i=some o)→GoV env wh D n ops (upd f d (.p (some (k,0)))) σ' Q):GoV env wh D n (⟨some d,.alloc z,none,wn⟩::⟨none,.store sh (.t d) x,none,wn2⟩::ops) f σ Q:=by
 refine GoO.alloc k hn hd rfl rfl fun σ1 a1 a2 a3=>?_
 refine GoO.store (c':=c) a2 rfl ?_ hx hcf (by rw[hc];exact storeAll hl) fun σ2 b1 b2 b3=>h σ2 (b1.trans a1) b2 fun i o ho=>b3 i o ?_ (a3 i o ho)
 ·show cond (Nat.blt d n) (some (cond (Nat.beq d d) _ (f d))) none=_
  rw[hd,h1];rfl
 ·have:=St.get_lt ho;omega
theorem GoO.known{b:Base}{K:Nat→List AV→AV→Prop}{d:Nat}{op:AOp}{g:Option (Nat×Bool)}{wn:List Nat}{ops:List AOper}{fn:Nat}{args ar:List AV}{r:AV}(hf:∀g ar r r',K g ar r→K g ar r'→r=r')(he:b.ext fn=0)(hp:b.pure fn=true)(hK:K fn ar r)
  (hd:Nat.blt d n=true) (hw:wantedF g n f=true) (ho:opx 0 (evF (b.envK K) n f) σ op=some (.call (.f (.func fn) [] []) args)) (ha:mapO (snapshot σ (b.fz+1000)) args=some ar) (h:GoV (b.envK K) wh D n ops (upd f d r) σ Q):GoV (b.envK K) wh D n (⟨some d,op,g,wn⟩::ops) f σ Q:=
 GoO.spec hd hw ho he hp ha (specOf_some hf hK) h
theorem GoP.known{b:Base}{K:Nat→List AV→AV→Prop}{d:Nat}{op:AOp}{g:Option (Nat×Bool)}{wn:List Nat}{ops:List AOper}{fn:Nat}{args ar:List AV}{r:AV}{Q:(Nat→AV)→Prop}(hf:∀g ar r r',K g ar r→K g ar r'→r=r')(he:b.ext fn=0)(hp:b.pure fn=true)(hK:K fn ar r)
  (hd:Nat.blt d n=true) (hw:wantedF g n f=true) (ho:opx 0 (evF (b.envK K) n f) σ op=some (.call (.f (.func fn) [] []) args)) (ha:mapO (snapshot σ (b.fz+1000)) args=some ar) (h:GoP (b.envK K) D n ops (upd f d r) σ Q):GoP (b.envK K) D n (⟨some d,op,g,wn⟩::ops) f σ Q:=
 GoP.spec hd hw ho he hp ha (specOf_some hf hK) h
theorem snaps1{n:Nat}{a:AV}{x:AV}(h:snapshot σ n a=some x):mapO (snapshot σ n) [a]=some [x]:=by rw[mapO_cons',h];rfl
theorem snaps2{n:Nat}{a b:AV}{x y:AV}(h:snapshot σ n a=some x)(h2:snapshot σ n b=some y):mapO (snapshot σ n) [a,b]=some [x,y]:=by rw[mapO_cons',h,snaps1 h2]
end
end Go.Lyc
end
noncomputable section
namespace Go.Lyc
variable [Tok][TokOk]
open Go.RowKit
def slA(o:Bool)(sh:Option Nat):List AV→AV
 |[]=>.nilsl
 |x::l=>.tl o sh (x::l)
theorem nth_get{α:Type}:∀ {l:List α} {i:Nat} (h:i<l.length),nth l i=some l[i]
 |[],i,h=>by simp at h
 |x::l,0,_=>rfl
 |x::l,i+1,h=>nth_get (l:=l) (by simpa using h)
theorem Snp.sl{n:Nat}{sh:Option Nat}{l:List AV}(h:∀x∈l,Snp n x):Snp (n+1) (slA true sh l):=by
 cases l with
 |nil=>exact Snp.nilsl n
 |cons x l=>exact Snp.tl h
theorem idxSlA_sl{sh:Option Nat}{id off len j:Nat}{cap:Option Nat}(h:j<len):idxSlA sh (.sl id off len sh cap) j=some (.p (some (id,off+j*shN sh))):=by
 show(if Nat.blt j len&&decide (sh=sh) then some (AV.p (some (id,off+j*shN sh))) else none)=_
 rw[show Nat.blt j len=true from Nat.ble_eq_true_of_le h]
 simp
end Go.Lyc
end
noncomputable section
namespace Go.Lyc
variable [Tok][TokOk]
open Go.RowKit
theorem conf_some{k:Nat}{x:AV}(h:conf (some k) x=true):∃l,x= .ag l∧l.length=k:=by
 cases x with
 |ag l=>exact⟨l,rfl,Nat.eq_of_beq_eq_true h⟩
 |_=>cases h
theorem conf_none_cells{x:AV}(h:conf none x=true):x.cells=[x]:=by
 cases x with
 |ag l=>cases h
 |_=>rfl
theorem takeSh_app{sh:Option Nat}{x:AV}{r:List AV}(h:conf sh x=true):takeSh sh (x.cells++r)=some x∧(x.cells++r).drop (shN sh)=r:=by
 cases sh with
 |none=>rw[conf_none_cells h];exact⟨rfl,rfl⟩
 |some k=>
  obtain⟨l,rfl,hl⟩:=conf_some h
  subst hl
  refine⟨?_,?_⟩
  ·show(let m:=(l++r).take l.length;if m.length=l.length then some (AV.ag m) else none)=_
   simp
  ·show(l++r).drop l.length=r
   simp
theorem elems_flat{sh:Option Nat}:∀ {xs:List AV} {r:List AV},(∀x∈xs,conf sh x=true)→elems sh xs.length (xs.flatMap AV.cells++r)=some xs
 |[],r,_=>rfl
 |x::xs,r,h=>by
  have hx:=h x (by simp)
  rw[List.length_cons,elems_succ,List.flatMap_cons,List.append_assoc,(takeSh_app hx).1,(takeSh_app hx).2,elems_flat fun y hy=>h y (List.mem_cons_of_mem _ hy)]
inductive Acc(σ:St)(sh:Option Nat):AV→List AV→Prop
 |nil:Acc σ sh .nilsl []
 |sl (o:Nat) (x:AV) (xs:List AV) (h:σ.get o=some (.cells ((x::xs).flatMap AV.cells))) (hc:∀y∈x::xs,conf sh y=true):Acc σ sh (.sl o 0 (xs.length+1) sh none) (x::xs)
def AV.at? :AV→Option Nat
 | .sl id _ _ _ _=>some id
 |_=>none
theorem Acc.conf{σ:St}{sh:Option Nat}{v:AV}{xs:List AV}(h:Acc σ sh v xs):∀y∈xs,conf sh y=true:=by
 cases h with
 |nil=>intro y hy;simp at hy
 |sl o x xs h hc=>exact hc
theorem Acc.read{σ:St}{sh:Option Nat}{v:AV}{xs:List AV}(h:Acc σ sh v xs):readList σ v=some xs:=by
 cases h with
 |nil=>rfl
 |sl o x xs h hc=>
  show(match σ.get o with|some (.cells c)=>elems sh (xs.length+1) (c.drop 0)|_=>none)=_
  rw[h]
  show elems sh (x::xs).length ((x::xs).flatMap AV.cells)=_
  have:=elems_flat (r:=[]) hc
  rwa[List.append_nil] at this
theorem Acc.keep{σ σ':St}{sh:Option Nat}{v:AV}{xs:List AV}(h:Acc σ sh v xs)(hk:∀i o,v.at? =some i→σ.get i=some o→σ'.get i=some o):Acc σ' sh v xs:=by
 cases h with
 |nil=>exact .nil
 |sl o x xs h hc=>exact .sl o x xs (hk _ _ rfl h) hc
theorem Acc.len{σ τ:St}{sh:Option Nat}{v:AV}{xs:List AV}(h:Acc σ sh v xs):lenA τ 1 v=some xs.length:=by
 cases h with
 |nil=>rfl
 |sl o x xs h hc=>rfl
theorem Acc.lt{σ:St}{sh:Option Nat}{v:AV}{xs:List AV}(h:Acc σ sh v xs){i:Nat}(hi:v.at? =some i):i<σ.next:=by
 cases h with
 |nil=>cases hi
 |sl o x xs h hc=>cases hi;exact St.get_lt h
theorem Acc.append{σ:St}{sh:Option Nat}{v x:AV}{xs ys:List AV}{y:AV}{bytes:Nat}(h:Acc σ sh v xs)(hx:newOf σ x=some (y::ys))(hc:∀z∈y::ys,Go.Lyc.conf sh z=true)(hb:(3*(xs.length+(y::ys).length)+2000)*bytes≤281474976710656):
  ∃v' σ',appendO 0 σ sh bytes v x=some (v',σ')∧Acc σ' sh v' (xs++y::ys)∧v'.at? =some σ.next∧σ'.next=σ.next+1∧∀i o,v.at? ≠some i→σ.get i=some o→σ'.get i=some o:=by
 have hcx:=h.conf
 have hall:(allB (Go.Lyc.conf sh) xs&&allB (Go.Lyc.conf sh) (y::ys)&&Nat.ble ((3*(xs.length+(y::ys).length)+2000)*bytes) 281474976710656)=true:=by
  rw[allB_of hcx,allB_of hc,Nat.ble_eq_true_of_le hb];rfl
 cases h with
 |nil=>
  refine⟨.sl σ.next 0 (y::ys).length sh none,σ.push (.cells ((y::ys).flatMap AV.cells)),?_,?_,rfl,rfl,fun i o _ ho=>?_⟩
  ·unfold appendO
   rw[hx]
   show cond _ _ none=_
   rw[hall];rfl
  ·exact .sl _ _ _ (St.get_push_new _) hc
  ·rw[St.get_push_old trivial _ (St.get_lt ho)];exact ho
 |sl o x0 xs h hc0=>
  have hr:readList σ (.sl o 0 (xs.length+1) sh none)=some (x0::xs):=(Acc.sl o x0 xs h hc0).read
  refine⟨.sl σ.next 0 (xs.length+1+(y::ys).length) sh none,(σ.set o .dead).push (.cells ((x0::xs).flatMap AV.cells++(y::ys).flatMap AV.cells)),?_,?_,rfl,rfl,fun i o' hne ho=>?_⟩
  ·unfold appendO
   rw[hr,hx]
   show cond (allB (Go.Lyc.conf sh) (x0::xs)&&allB (Go.Lyc.conf sh) (y::ys)&&Nat.ble ((3*((x0::xs).length+(y::ys).length)+2000)*bytes) 281474976710656) _ none=_
   rw[hall,cond_true]
   show(if sh=sh then(if Nat.blt o 0 then none else if Nat.beq 0 0 then some (AV.sl σ.next 0 (xs.length+1+(y::ys).length) sh none,(σ.set o .dead).push (.cells ((x0::xs).flatMap AV.cells++(y::ys).flatMap AV.cells))) else none) else none)=_
   rw[if_pos rfl,if_neg (by simp[Nat.blt,Nat.ble]),if_pos (by rfl)]
  ·have e:(x0::xs)++y::ys=x0::(xs++y::ys):=rfl
   rw[e]
   have e2:xs.length+1+(y::ys).length=(xs++y::ys).length+1:=by simp;omega
   rw[e2]
   refine .sl _ _ _ ?_ fun z hz=>?_
   ·have:(σ.set o .dead).next=σ.next:=rfl
    rw[←this,St.get_push_new]
    simp
   ·rcases List.mem_append.1 (show z∈(x0::xs)++y::ys from hz) with hz|hz
    ·exact hc0 z hz
    ·exact hc z hz
  ·have hlt:=St.get_lt ho
   rw[St.get_push_old trivial _ (show i<(σ.set o .dead).next from hlt),St.get_set trivial _ (St.get_lt h),if_neg (fun e=>hne (by rw[e];rfl))]
   exact ho
theorem mapO_length{α β:Type}{f:α→Option β}{l:List α}{r:List β}(h:mapO f l=some r):r.length=l.length:=(mapO_some h).1
theorem Acc.freeze{σ:St}{sh:Option Nat}{v:AV}{xs ys:List AV}{n:Nat}(h:Acc σ sh v xs)(hm:mapO (Go.Lyc.freeze σ 0 n) xs=some ys):Go.Lyc.freeze σ 0 (n+1) v=some (slA false sh ys):=by
 cases h with
 |nil=>cases hm;rfl
 |sl o x xs h hc=>
  have hr:readList σ (.sl o 0 (xs.length+1) sh none)=some (x::xs):=(Acc.sl o x xs h hc).read
  show(if Nat.blt o 0 then none else match readList σ (.sl o 0 (xs.length+1) sh none) with
   |none=>none
   |some xs=>match mapO (Go.Lyc.freeze σ 0 n) xs with|none=>none|some xs=>some (AV.tl false sh xs))=_
  rw[if_neg (by simp[Nat.blt,Nat.ble]),hr]
  show(match mapO (Go.Lyc.freeze σ 0 n) (x::xs) with|none=>none|some xs=>some (AV.tl false sh xs))=_
  rw[hm]
  have:=mapO_length hm
  cases ys with
  |nil=>simp at this
  |cons y ys=>rfl
theorem freeze_sl{σ:St}{n o len:Nat}{sh cap:Option Nat}{c xs ys:List AV}(hg:σ.get o=some (.cells c))(he:elems sh len c=some xs)(hm:mapO (Go.Lyc.freeze σ 0 n) xs=some ys):Go.Lyc.freeze σ 0 (n+1) (.sl o 0 len sh cap)=some (.tl false sh ys):=by
 show(if Nat.blt o 0 then none else match readList σ (.sl o 0 len sh cap) with
   |none=>none
   |some xs=>match mapO (Go.Lyc.freeze σ 0 n) xs with|none=>none|some xs=>some (AV.tl false sh xs))=_
 have hr:readList σ (.sl o 0 len sh cap)=some xs:=by
  show(match σ.get o with|some (.cells c)=>elems sh len (c.drop 0)|_=>none)=_
  rw[hg];exact he
 rw[if_neg (by simp[Nat.blt,Nat.ble]),hr]
 show(match mapO (Go.Lyc.freeze σ 0 n) xs with|none=>none|some xs=>some (AV.tl false sh xs))=_
 rw[hm]
section
variable {env:Env}{wh:Option Nat}{D:List (Nat ⊕ (AV×List AV))}{n:Nat}{f:Nat→AV}{σ:St}{Q:PostF}
theorem op_append{ev:AOpd→Option AV}{sh:Option Nat}{bytes:Nat}{s x:AOpd}{a b v:AV}{σ':St}(h1:ev s=some a)(h2:ev x=some b)(h:appendO 0 σ sh bytes a b=some (v,σ')):opx 0 ev σ (.append sh bytes s x)=some (.val v σ'):=by
 show(match ev s,ev x with
  |some s,some x=>(match appendO 0 σ sh bytes s x with|some (v,σ)=>some (OpR.val v σ)|none=>none)
  |_,_=>none)=_
 rw[h1,h2]
 show(match appendO 0 σ sh bytes a b with|some (v,σ)=>some (OpR.val v σ)|none=>none)=_
 rw[h]
theorem GoO.append{d:Nat}{sh:Option Nat}{bytes:Nat}{s x:AOpd}{g:Option (Nat×Bool)}{wn:List Nat}{ops:List AOper}{a b:AV}{xs ys:List AV}{y:AV}(hA:Acc σ sh a xs)(hx:newOf σ b=some (y::ys))(hc:∀z∈y::ys,conf sh z=true)(hb:(3*(xs.length+(y::ys).length)+2000)*bytes≤281474976710656)
  (hd:Nat.blt d n=true) (hw:wantedF g n f=true) (h1:evF env n f s=some a) (h2:evF env n f x=some b)
  (h:∀v σ',Acc σ' sh v (xs++y::ys)→v.at? =some σ.next→σ'.next=σ.next+1→(∀i o,a.at? ≠some i→σ.get i=some o→σ'.get i=some o)→GoV env wh D n ops (upd f d v) σ' Q):GoV env wh D n (⟨some d,.append sh bytes s x,g,wn⟩::ops) f σ Q:=by
 obtain⟨v',σ',a1,a2,a3,a4,a5⟩:=hA.append hx hc hb
 exact GoO.val hd hw (op_append h1 h2 a1) (h v' σ' a2 a3 a4 a5)
theorem GoO.push1{d d0:Nat}{sh:Option Nat}{bytes:Nat}{z:List AV}{s x:AOpd}{wn wn2:List Nat}{ops:List AOper}{a y:AV}{xs:List AV}(hA:Acc σ sh a xs)(hd0:Nat.blt d0 n=true)(hv:opx 0 (evF env n f) σ (.buildSlice sh 1 z [(0,x)])=some (.val (.sl σ.next 0 1 sh (some 1)) (σ.push (.cells y.cells))))(hc:conf sh y=true)
  (hb:(3*(xs.length+1)+2000)*bytes≤281474976710656) (hd:Nat.blt d n=true) (h1:evF env n (upd f d0 (.sl σ.next 0 1 sh (some 1))) s=some a)
  (h:∀v σ',Acc σ' sh v (xs++[y])→v.at? =some (σ.next+1)→σ'.next=σ.next+2→(∀i o,a.at? ≠some i→σ.get i=some o→σ'.get i=some o)→GoV env wh D n ops (upd (upd f d0 (.sl σ.next 0 1 sh (some 1))) d v) σ' Q):
  GoV env wh D n (⟨some d0,.buildSlice sh 1 z [(0,x)],none,wn⟩::⟨some d,.append sh bytes s (.t d0),none,wn2⟩::ops) f σ Q:=by
 refine GoO.val hd0 rfl hv ?_
 have hA':Acc (σ.push (.cells y.cells)) sh a xs:=hA.keep fun i o _ ho=>by rw[St.get_push_old trivial _ (St.get_lt ho)];exact ho
 have hnew:newOf (σ.push (.cells y.cells)) (.sl σ.next 0 1 sh (some 1))=some [y]:=by
  show readList (σ.push (.cells y.cells)) (.sl σ.next 0 1 sh (some 1))=_
  show(match(σ.push (.cells y.cells)).get σ.next with|some (.cells c)=>elems sh 1 (c.drop 0)|_=>none)=_
  rw[St.get_push_new]
  have:=elems_flat (sh:=sh) (xs:=[y]) (r:=[]) (by intro w hw;rw[List.mem_singleton.1 hw];exact hc)
  simpa using this
 refine GoO.append hA' hnew (by intro w hw;rw[List.mem_singleton.1 hw];exact hc) hb hd rfl h1 ?_ fun v σ' b1 b2 b3 b4=>h v σ' b1 b2 b3 fun i o hi ho=>b4 i o hi (by rw[St.get_push_old trivial _ (St.get_lt ho)];exact ho)
 show cond (Nat.blt d0 n) (some (cond (Nat.beq d0 d0) _ (f d0))) none=_
 rw[hd0,Nat.beq_refl];rfl
end
end Go.Lyc
end
noncomputable section
namespace Go.Lyc
variable [Tok][TokOk]
open Go.RowKit
theorem GoesCall.mono{env:Env}{floor:Nat}{fv:AV}{args:List AV}{σ:St}{Q Q':Ret→St→Prop}(h:GoesCall env floor fv args σ Q)(hq:∀r σ',Q r σ'→Q' r σ'):GoesCall env floor fv args σ Q':=Ev.mono h fun _ ho=>hq _ _ ho
def GoX(env:Env)(D D':List (Nat ⊕ (AV×List AV)))(n:Nat)(c:ACode)(f:Nat→AV)(σ:St)(Q:PostF):Prop:=∀fr,IsFr D n f fr→Goes env 0 none c fr σ (atF D' n Q)
section
variable {env:Env}{D D' D1:List (Nat ⊕ (AV×List AV))}{n:Nat}{f:Nat→AV}{σ:St}{Q:PostF}
theorem GoX.plain{c:ACode}(h:GoW env none D n c f σ Q):GoX env D D n c f σ Q:=h
theorem GoX.seqA{a b:ACode}(h:GoW env none D n a f σ (fun x f σ=>x= .normal∧GoX env D D' n b f σ Q)):GoX env D D' n (.seq a b) f σ Q:=fun fr hfr=>Goes.seq ((h fr hfr).mono fun x fr σ ⟨f,h1,h2,h3⟩=>by subst h2;exact h3 fr h1)
theorem GoX.seqB{a b:ACode}(h:GoX env D D' n a f σ (fun x f σ=>x= .normal∧GoW env none D' n b f σ Q)):GoX env D D' n (.seq a b) f σ Q:=fun fr hfr=>Goes.seq ((h fr hfr).mono fun x fr σ ⟨f,h1,h2,h3⟩=>by subst h2;exact h3 fr h1)
theorem GoX.block{a:ACode}{id:Nat}(h:GoX env D D' n a f σ (fun x f σ=>x= .normal∧Q .normal f σ)):GoX env D D' n (.block id a) f σ Q:=fun fr hfr=>Goes.block ((h fr hfr).mono fun x fr σ ⟨f,h1,h2,h3⟩=>by subst h2;exact⟨f,h1,h3⟩)
theorem GoX.range{fo:AOpd}{ps:List Nat}{as b:ACode}{g:Nat}{first cap:List AV}(hf:evF env n f fo=some (.f (.func g) first cap))(he:env.ext g=0)
  (h:∀sl,(∀i,sl.get i=if i<n then some (f i) else none)→GoesCall env 0 (.f (.func g) first cap) [.f (.yield (σ.next+1)) [] []] ((σ.push .dblk).push (.loop .ready none sl ps as b σ.next))
   (fun r σ3=>∃v st,r= .ok v∧σ3.get (σ.next+1)=some (.loop st none sl ps as b σ.next)∧st≠ .busy∧Q .normal f (σ3.set (σ.next+1) (.loop .exhausted none sl ps as b σ.next)))):
  GoX env D (.inl σ.next::D) n (.rangeFunc fo ps as b) f σ Q:=fun fr hfr=>by
 have h':=h fr.slots hfr.get
 refine Ev.succ (Ev.then (g:=fun x F=>rangeK (exec env F) 0 none fr (.inl σ.next::fr.defers) (σ.next+1) x) h' fun o ho=>?_) fun F=>?_
 ·obtain⟨r,σ3⟩:=o
  obtain⟨v,st,h1,h2,h3,h4⟩:=ho
  have h1:r= .ok v:=h1
  subst h1
  have h2:σ3.get (σ.next+1)=some (.loop st none fr.slots ps as b σ.next):=h2
  refine Ev.one (x:=(.normal,⟨fr.slots,.inl σ.next::fr.defers,fr.rcv⟩,σ3.set (σ.next+1) (.loop .exhausted none fr.slots ps as b σ.next))) (fun F=>?_) ⟨f,⟨hfr.get,by show _::fr.defers=_;rw[hfr.ds],hfr.rc⟩,h4⟩
  show(match σ3.get (σ.next+1) with
   |some (.loop st pe sl' ps' as' b' d')=>(match st with
    | .busy=>none
    |_=>match pe with
     |none=>some [(Ex.normal,(⟨fr.slots,.inl σ.next::fr.defers,fr.rcv⟩:Fr),σ3.set (σ.next+1) (.loop .exhausted pe sl' ps' as' b' d'))]
     |some c=>exec env F 0 none c ⟨fr.slots,.inl σ.next::fr.defers,fr.rcv⟩ (σ3.set (σ.next+1) (.loop .exhausted pe sl' ps' as' b' d')))
   |_=>none)=_
  rw[h2]
  cases st with
  |busy=>exact absurd rfl h3
  |_=>rfl
 ·rw[exec_succ]
  show(if Nat.blt σ.next 0 then none else
   match evalA env fr.slots fo with
   |some (.f (.func g) first cap)=>
    match enterA none fr σ with
    |none=>none
    |some (d,σ1,ds)=>
     match env.ext g with
     |0=>thenO (callF env (exec env F) 0 g (first++AV.f (.yield σ1.next) [] []::cap) (σ1.push (.loop .ready none fr.slots ps as b d))) (rangeK (exec env F) 0 none fr ds σ1.next)
     |_=>none
   |_=>none)=_
  rw[if_neg (by simp[Nat.blt,Nat.ble]),hfr.ev,hf]
  show(match env.ext g with
     |0=>thenO (callF env (exec env F) 0 g (first++AV.f (.yield (σ.next+1)) [] []::cap) ((σ.push .dblk).push (.loop .ready none fr.slots ps as b σ.next))) (rangeK (exec env F) 0 none fr (.inl σ.next::fr.defers) (σ.next+1))
     |_=>none)=_
  rw[he]
  show thenO (callF env (exec env F) 0 g (first++AV.f (.yield (σ.next+1)) [] []::cap) _) _=thenO (callF env (exec env F) 0 g (first++[AV.f (.yield (σ.next+1)) [] []]++cap) _) _
  rw[List.append_assoc];rfl
end
def layF:List Nat→List AV→(Nat→AV)→Nat→AV
 |p::ps,a::as,f=>layF ps as (upd f p a)
 |_,_,f=>f
theorem isFr_lay{n:Nat}:∀ {ps:List Nat} {args:List AV} {f:Nat→AV} {sl:Tr AV},allB (fun p=>Nat.blt p n) ps=true→(∀i,sl.get i=if i<n then some (f i) else none)→IsFr [] n (layF ps args f) ⟨layAll ps args sl,[],false⟩
 |[],_,f,sl,_,h=>⟨h,rfl,rfl⟩
 |p::ps,[],f,sl,_,h=>⟨h,rfl,rfl⟩
 |p::ps,a::args,f,sl,hp,h=>by
  have hp1:Nat.blt p n=true:=by
   have hp:cond (Nat.blt p n) (allB (fun p=>Nat.blt p n) ps) false=true:=hp
   cases hb:Nat.blt p n with
   |true=>rfl
   |false=>rw[hb] at hp;cases hp
  have hp2:allB (fun p=>Nat.blt p n) ps=true:=by
   have hp:cond (Nat.blt p n) (allB (fun p=>Nat.blt p n) ps) false=true:=hp
   rw[hp1] at hp;exact hp
  have h0:IsFr [] n f ⟨sl,[],false⟩:=⟨h,rfl,rfl⟩
  exact isFr_lay (f:=upd f p a) (sl:=sl.set p a) hp2 (h0.put a hp1).get
theorem GoesCall.round{env:Env}{l n:Nat}{f:Nat→AV}{σ:St}{sl:Tr AV}{ps:List Nat}{as b:ACode}{d:Nat}{args:List AV}{R:St→Prop}(hl:σ.get l=some (.loop .ready none sl ps as b d))(hsl:∀i,sl.get i=if i<n then some (f i) else none)(hps:allB (fun p=>Nat.blt p n) ps=true)(hlen:Nat.beq ps.length args.length=true)
  (h:GoW env (some l) [] n as (layF ps args f) σ (fun x f1 σ1=>x= .normal∧σ1.get l=some (.loop .ready none sl ps as b d)∧
   GoW env (some l) [] n b f1 (σ1.set l (.loop .busy none sl ps as b d)) (fun x _ σ2=>x= .normal∧σ2.get l=some (.loop .busy none sl ps as b d)∧R (σ2.set l (.loop .ready none sl ps as b d))))):
  GoesCall env 0 (.f (.yield l) [] []) args σ (fun r σ'=>r= .ok (.b true)∧R σ'):=by
 have h1:=h _ (isFr_lay (args:=args) hps hsl)
 refine Ev.congr (Ev.then (g:=fun x F=>roundMid (exec env F) 0 l b x) h1 fun o ho=>?_) fun F=>?_
 ·obtain⟨x,fr1,σ1⟩:=o
  obtain⟨f1,hfr1,hx,hl1,h2⟩:=ho
  have hx:x= .normal:=hx
  subst hx
  have hl1:σ1.get l=some (.loop .ready none sl ps as b d):=hl1
  refine Ev.congr (Ev.then (g:=fun x _=>roundEnd l x) (h2 fr1 hfr1) fun o ho=>?_) fun F=>?_
  ·obtain⟨x,fr2,σ2⟩:=o
   obtain⟨f2,_,hx,hl2,hR⟩:=ho
   have hx:x= .normal:=hx
   subst hx
   have hl2:σ2.get l=some (.loop .busy none sl ps as b d):=hl2
   refine Ev.one (x:=(.ok (.b true),σ2.set l (.loop .ready none sl ps as b d))) (fun _=>?_) ⟨rfl,hR⟩
   show(endRound σ2 l none).map (fun x=>[x])=_
   unfold endRound
   rw[hl2];rfl
  ·show(match σ1.get l with
    |some (.loop .ready pe sl' ps' as' b' d')=>thenO (exec env F 0 (some l) b fr1 (σ1.set l (.loop .busy pe sl' ps' as' b' d'))) (roundEnd l)
    |_=>none)=_
   rw[hl1]
 ·show(if Nat.blt l 0 then none else
   match σ.get l with
   |some (.loop .ready _ sl ps as b _)=>cond (Nat.beq ps.length args.length) (thenO (exec env F 0 (some l) as ⟨layAll ps args sl,[],false⟩ σ) (roundMid (exec env F) 0 l b)) none
   |_=>none)=_
  rw[if_neg (by simp[Nat.blt,Nat.ble]),hl]
  show cond (Nat.beq ps.length args.length) _ none=_
  rw[hlen,cond_true]
section
variable {env:Env}{wh:Option Nat}{D:List (Nat ⊕ (AV×List AV))}{n:Nat}{f:Nat→AV}{σ:St}{Q:PostF}
theorem GoO.callG{d:Nat}{op:AOp}{g:Option (Nat×Bool)}{wn:List Nat}{ops:List AOper}{fv:AV}{args:List AV}{R:Ret→St→Prop}(hd:Nat.blt d n=true)(hw:wantedF g n f=true)(ho:opx 0 (evF env n f) σ op=some (.call fv args))(hc:GoesCall env 0 fv args σ R)
  (h:∀r σ',R r σ'→∃v,r= .ok v∧GoV env wh D n ops (upd f d v) σ' Q):GoV env wh D n (⟨some d,op,g,wn⟩::ops) f σ Q:=fun fr hfr=>
 GoesOps.call (by rw[hfr.wanted];exact hw) (by rw[hfr.ev];exact ho) (hc.mono fun r σ' hr=>by
  obtain⟨v,rfl,hv⟩:=h r σ' hr
  exact hv _ (hfr.put v hd))
theorem GoesCall.code{fn:Nat}{af:AFunc}{body:ACode}{dr:Nat}{first cap args:List AV}{R:Ret→St→Prop}(he:env.ext fn=0)(hp:env.pure fn=false)(hf:env.funcs fn=some af)(hb:af.body=some body)
  (hn:(Nat.beq (first++args++cap).length af.nargs&&Nat.ble (first++args++cap).length af.ntmps)=true) (hres:af.results=[(dr,none)]) (hdr:Nat.blt dr af.ntmps=true)
  (h:GoF env af.ntmps body (argF (first++args++cap)) σ (fun x f' σ'=>x= .ret∧R (.ok (f' dr)) σ')):GoesCall env 0 (.f (.func fn) first cap) args σ R:=by
 have hle:(first++args++cap).length≤af.ntmps:=by
  simp only[Bool.and_eq_true] at hn
  exact Nat.le_of_ble_eq_true hn.2
 refine GoesCall.run he hp hf hb hn ((h _ (isFr_start hle)).mono fun x fr' σ' ⟨f',h1,h2,h3⟩=>?_)
 subst h2
 exact⟨.ok (f' dr),σ',endF_one h1 hres hdr,h3⟩
theorem GoesCall.code0{fn:Nat}{af:AFunc}{body:ACode}{first cap args:List AV}{R:Ret→St→Prop}(he:env.ext fn=0)(hp:env.pure fn=false)(hf:env.funcs fn=some af)(hb:af.body=some body)
  (hn:(Nat.beq (first++args++cap).length af.nargs&&Nat.ble (first++args++cap).length af.ntmps)=true) (hres:af.results=[])
  (h:GoF env af.ntmps body (argF (first++args++cap)) σ (fun x _ σ'=>(x= .ret∨x= .normal)∧R (.ok (.tu [])) σ')):GoesCall env 0 (.f (.func fn) first cap) args σ R:=by
 have hle:(first++args++cap).length≤af.ntmps:=by
  simp only[Bool.and_eq_true] at hn
  exact Nat.le_of_ble_eq_true hn.2
 refine GoesCall.run he hp hf hb hn ((h _ (isFr_start hle)).mono fun x fr' σ' ⟨f',h1,h2,h3⟩=>?_)
 refine⟨.ok (.tu []),σ',?_,h3⟩
 have e:endF env 0 af (.ret,fr',σ')=some [(.ok (.tu []),σ')]:=by
  show(match leave 0 (callD env 0) fr'.defers none σ' with
   |none=>none
   |some (some v,σ)=>some [(Ret.err v,σ)]
   |some (none,σ)=>match resultsOf σ fr'.slots af.results with
    |some v=>some [(.ok v,σ)]
    |none=>none)=_
  rw[h1.ds,hres];rfl
 rcases h2 with rfl|rfl
 ·exact e
 ·exact e
end
theorem endF_mark{env:Env}{fn:AFunc}{n d dr:Nat}{f:Nat→AV}{fr:Fr}{σ:St}(h1:IsFr [.inl d] n f fr)(hm:σ.get d=some .dblk)(hres:fn.results=[(dr,none)])(hd:Nat.blt dr n=true):endF env 0 fn (.ret,fr,σ)=some [(.ok (f dr),σ.set d .dead)]:=by
 show(match leave 0 (callD env 0) fr.defers none σ with
  |none=>none
  |some (some v,σ)=>some [(Ret.err v,σ)]
  |some (none,σ)=>match resultsOf σ fr.slots fn.results with
   |some v=>some [(.ok v,σ)]
   |none=>none)=_
 have hl:leave 0 (callD env 0) fr.defers none σ=some (none,σ.set d .dead):=by
  rw[h1.ds]
  show(if Nat.blt d 0 then none else match σ.get d with
   |some .dblk=>some (none,σ.set d .dead)
   |_=>none)=_
  rw[if_neg (by simp[Nat.blt,Nat.ble]),hm]
 rw[hl]
 show(match resultsOf (σ.set d .dead) fr.slots fn.results with|some v=>some [(Ret.ok v,σ.set d .dead)]|none=>none)=_
 rw[hres]
 have hg:=h1.get dr
 have hdn:dr<n:=Nat.le_of_ble_eq_true hd
 rw[if_pos hdn] at hg
 have e1:resultOf (σ.set d .dead) fr.slots (dr,none)=some (f dr):=by
  unfold resultOf
  rw[hg]
 have:resultsOf (σ.set d .dead) fr.slots [(dr,none)]=some (f dr):=by
  unfold resultsOf
  have e:mapO (resultOf (σ.set d .dead) fr.slots) [(dr,none)]=some [f dr]:=by
   unfold mapO
   simp only[e1]
  rw[e]
 rw[this]
theorem GoesCall.codeX{env:Env}{σ:St}{fn:Nat}{af:AFunc}{body:ACode}{dr d:Nat}{first cap args:List AV}{R:Ret→St→Prop}(he:env.ext fn=0)(hp:env.pure fn=false)(hf:env.funcs fn=some af)(hb:af.body=some body)
  (hn:(Nat.beq (first++args++cap).length af.nargs&&Nat.ble (first++args++cap).length af.ntmps)=true) (hres:af.results=[(dr,none)]) (hdr:Nat.blt dr af.ntmps=true)
  (h:GoX env [] [.inl d] af.ntmps body (argF (first++args++cap)) σ (fun x f' σ'=>x= .ret∧σ'.get d=some .dblk∧R (.ok (f' dr)) (σ'.set d .dead))):GoesCall env 0 (.f (.func fn) first cap) args σ R:=by
 have hle:(first++args++cap).length≤af.ntmps:=by
  simp only[Bool.and_eq_true] at hn
  exact Nat.le_of_ble_eq_true hn.2
 refine GoesCall.run he hp hf hb hn ((h _ (isFr_start hle)).mono fun x fr' σ' ⟨f',h1,h2,h3,h4⟩=>?_)
 subst h2
 exact⟨.ok (f' dr),_,endF_mark h1 h3 hres hdr,h4⟩
theorem entryX{P:Program}{b:Base}{K:Nat→List AV→AV→Prop}(hb:BaseOk P b)(hK:KOk P b K){g:Nat}{fn:AFunc}{body:ACode}{ar:List AV}{dr d:Nat}(r:AV)(hf:b.funcs.get g=some fn)(hbd:fn.body=some body)
  (hn:(Nat.beq ar.length fn.nargs&&Nat.ble ar.length fn.ntmps)=true) (hres:fn.results=[(dr,none)]) (hd:Nat.blt dr fn.ntmps=true) {fr:Nat} (hr:freshA fr r=true) (hrr:AV.eqb 1000 r r=true)
  (h:GoX (b.envK K) [] [.inl d] fn.ntmps body (argF ar) ⟨.nil,0⟩ (fun x f σ'=>x= .ret∧σ'.get d=some .dblk∧freeze (σ'.set d .dead) 0 1000 (f dr)=some r)) (B0:Nat):SpecEntry P (b.env []) B0 g ar r:=by
 have hle:ar.length≤fn.ntmps:=by
  simp only[Bool.and_eq_true] at hn
  exact Nat.le_of_ble_eq_true hn.2
 refine spec_of_goes (env:=b.envK K) (m:=1000) (Nat.le_add_left _ _) ⟨fun g af hg=>FT.get_all hb.funcs g af hg⟩ (fun B0 g ar r hs=>hK g ar r (specOf_mem hs) B0) hb.ext hb.orders hf hbd hn hr ((h _ (isFr_start hle)).mono fun x fr σ' ⟨f,h1,h2,h3,h4⟩=>?_) hrr B0
 subst h2
 exact⟨.ok (f dr),_,endF_mark h1 h3 hres hd,_,rfl,h4⟩
end Go.Lyc
end
noncomputable section
namespace Go.Lyc
open Go.RowKit
inductive Tm where
 |mk (var:Bool) (name:List Nat) (args:Option (List Tm))
inductive Fm where
 |mk (op:Nat) (name:List Nat) (args:Option (List Tm)) (sub:Option (List Fm))
def Tm.var:Tm→Bool| .mk v _ _=>v
def Tm.name:Tm→List Nat| .mk _ n _=>n
def Tm.oargs:Tm→Option (List Tm)| .mk _ _ a=>a
def Tm.args(t:Tm):List Tm:=t.oargs.getD []
def Fm.op:Fm→Nat| .mk o _ _ _=>o
def Fm.name:Fm→List Nat| .mk _ n _ _=>n
def Fm.oargs:Fm→Option (List Tm)| .mk _ _ a _=>a
def Fm.args(f:Fm):List Tm:=f.oargs.getD []
def Fm.osub:Fm→Option (List Fm)| .mk _ _ _ s=>s
def Fm.sub(f:Fm):List Fm:=f.osub.getD []
def osl(o:Bool)(sh:Option Nat):Option (List AV)→AV
 |none=>.nilsl
 |some l=>.tl o sh l
mutual
def Tm.cells(o:Bool):Tm→List AV
 | .mk v n none=>[.b v,.s n,.nilsl]
 | .mk v n (some l)=>[.b v,.s n,.tl o (some 3) (Tm.lA o l)]
def Tm.lA(o:Bool):List Tm→List AV
 |[]=>[]
 |t::l=>.ag (t.cells o)::Tm.lA o l
end
def Tm.A(o:Bool)(t:Tm):AV:=.ag (t.cells o)
theorem Tm.lA_eq(o:Bool):∀l,Tm.lA o l=l.map (Tm.A o)
 |[]=>by simp[Tm.lA]
 |t::l=>by rw[Tm.lA,Tm.lA_eq o l];rfl
def tmsA(o:Bool)(l:Option (List Tm)):AV:=osl o (some 3) (l.map fun l=>l.map (Tm.A o))
theorem Tm.cells_eq(o:Bool)(t:Tm):t.cells o=[.b t.var,.s t.name,tmsA o t.oargs]:=by
 obtain⟨v,n,a⟩:=t
 cases a with
 |none=>rw[Tm.cells];rfl
 |some l=>rw[Tm.cells,Tm.lA_eq];rfl
mutual
def Fm.cells(o:Bool):Fm→List AV
 | .mk op n a none=>[.i .u8 (Int.ofNat op),.s n,tmsA o a,.nilsl]
 | .mk op n a (some l)=>[.i .u8 (Int.ofNat op),.s n,tmsA o a,.tl o (some 4) (Fm.lA o l)]
def Fm.lA(o:Bool):List Fm→List AV
 |[]=>[]
 |f::l=>.ag (f.cells o)::Fm.lA o l
end
def Fm.A(o:Bool)(f:Fm):AV:=.ag (f.cells o)
theorem Fm.lA_eq(o:Bool):∀l,Fm.lA o l=l.map (Fm.A o)
 |[]=>by simp[Fm.lA]
 |f::l=>by rw[Fm.lA,Fm.lA_eq o l];rfl
def fmsA(o:Bool)(l:Option (List Fm)):AV:=osl o (some 4) (l.map fun l=>l.map (Fm.A o))
theorem Fm.cells_eq(o:Bool)(f:Fm):f.cells o=[.i .u8 (Int.ofNat f.op),.s f.name,tmsA o f.oargs,fmsA o f.osub]:=by
 obtain⟨op,n,a,s⟩:=f
 cases s with
 |none=>rw[Fm.cells];rfl
 |some l=>rw[Fm.cells,Fm.lA_eq];rfl
mutual
theorem Tm.cells_inj(o:Bool):∀(t u:Tm),t.cells o=u.cells o→t=u
 | .mk v n none,.mk v' n' none,h=>by simp only[Tm.cells,List.cons.injEq,AV.b.injEq,AV.s.injEq] at h;rw[h.1,h.2.1]
 | .mk v n none,.mk v' n' (some l),h=>by simp[Tm.cells] at h
 | .mk v n (some l),.mk v' n' none,h=>by simp[Tm.cells] at h
 | .mk v n (some l),.mk v' n' (some l'),h=>by
  simp only[Tm.cells,List.cons.injEq,AV.b.injEq,AV.s.injEq,AV.tl.injEq,true_and,and_true] at h
  rw[h.1,h.2.1,Tm.lA_inj o l l' h.2.2]
theorem Tm.lA_inj(o:Bool):∀(l m:List Tm),Tm.lA o l=Tm.lA o m→l=m
 |[],[],_=>rfl
 |[],_::_,h=>by simp[Tm.lA] at h
 |_::_,[],h=>by simp[Tm.lA] at h
 |a::l,b::m,h=>by
  simp only[Tm.lA,List.cons.injEq,AV.ag.injEq] at h
  rw[Tm.cells_inj o a b h.1,Tm.lA_inj o l m h.2]
end
theorem tmsA_inj{o:Bool}{a b:Option (List Tm)}(h:tmsA o a=tmsA o b):a=b:=by
 cases a with
 |none=>cases b with
  |none=>rfl
  |some m=>cases h
 |some l=>cases b with
  |none=>cases h
  |some m=>
   simp only[tmsA,osl,Option.map_some,AV.tl.injEq,true_and] at h
   rw[←Tm.lA_eq,← Tm.lA_eq] at h
   rw[Tm.lA_inj o l m h]
mutual
theorem Fm.cells_inj(o:Bool):∀(f g:Fm),f.cells o=g.cells o→f=g
 | .mk p n a none,.mk p' n' a' none,h=>by simp only[Fm.cells,List.cons.injEq,AV.i.injEq,AV.s.injEq,true_and] at h;rw[Int.ofNat.inj h.1,h.2.1,tmsA_inj h.2.2.1]
 | .mk p n a none,.mk p' n' a' (some l),h=>by simp[Fm.cells] at h
 | .mk p n a (some l),.mk p' n' a' none,h=>by simp[Fm.cells] at h
 | .mk p n a (some l),.mk p' n' a' (some l'),h=>by
  simp only[Fm.cells,List.cons.injEq,AV.i.injEq,AV.s.injEq,AV.tl.injEq,true_and,and_true] at h
  rw[Int.ofNat.inj h.1,h.2.1,tmsA_inj h.2.2.1,Fm.lA_inj o l l' h.2.2.2]
theorem Fm.lA_inj(o:Bool):∀(l m:List Fm),Fm.lA o l=Fm.lA o m→l=m
 |[],[],_=>rfl
 |[],_::_,h=>by simp[Fm.lA] at h
 |_::_,[],h=>by simp[Fm.lA] at h
 |a::l,b::m,h=>by
  simp only[Fm.lA,List.cons.injEq,AV.ag.injEq] at h
  rw[Fm.cells_inj o a b h.1,Fm.lA_inj o l m h.2]
end
theorem Fm.A_inj{o:Bool}{f g:Fm}(h:f.A o=g.A o):f=g:=Fm.cells_inj o f g (by unfold Fm.A at h;injection h)
theorem Tm.A_inj{o:Bool}{f g:Tm}(h:f.A o=g.A o):f=g:=Tm.cells_inj o f g (by unfold Tm.A at h;injection h)
mutual
def Tm.dep:Tm→Nat
 | .mk _ _ none=>1
 | .mk _ _ (some l)=>Tm.deps l+1
def Tm.deps:List Tm→Nat
 |[]=>0
 |t::l=>max t.dep (Tm.deps l)
end
mutual
def Fm.dep:Fm→Nat
 | .mk _ _ a none=>Tm.deps (a.getD [])+1
 | .mk _ _ a (some l)=>max (Tm.deps (a.getD [])) (Fm.deps l)+1
def Fm.deps:List Fm→Nat
 |[]=>0
 |f::l=>max f.dep (Fm.deps l)
end
theorem Tm.dep_mem:∀ {l:List Tm} {t:Tm},t∈l→t.dep≤Tm.deps l
 |[],_,h=>by simp at h
 |g::l,f,h=>by
  rw[Tm.deps]
  rcases List.mem_cons.1 h with rfl|h
  ·omega
  ·have:=Tm.dep_mem h;omega
theorem Fm.dep_mem:∀ {l:List Fm} {t:Fm},t∈l→t.dep≤Fm.deps l
 |[],_,h=>by simp at h
 |g::l,f,h=>by
  rw[Fm.deps]
  rcases List.mem_cons.1 h with rfl|h
  ·omega
  ·have:=Fm.dep_mem h;omega
theorem Tm.dep_eq(t:Tm):t.dep=Tm.deps t.args+1:=by
 obtain⟨v,n,a⟩:=t
 cases a with
 |none=>rw[Tm.dep];simp[Tm.args,Tm.oargs,Tm.deps]
 |some l=>rw[Tm.dep];rfl
theorem Fm.dep_eq(f:Fm):f.dep=max (Tm.deps f.args) (Fm.deps f.sub)+1:=by
 obtain⟨op,n,a,s⟩:=f
 cases s with
 |none=>rw[Fm.dep];simp[Fm.args,Fm.oargs,Fm.sub,Fm.osub,Fm.deps]
 |some l=>rw[Fm.dep];rfl
theorem Tm.dep_arg{t u:Tm}(h:u∈t.args):u.dep<t.dep:=by have:=Tm.dep_mem h;rw[Tm.dep_eq t];omega
theorem Fm.dep_arg{f:Fm}{u:Tm}(h:u∈f.args):u.dep<f.dep:=by have:=Tm.dep_mem h;rw[Fm.dep_eq f];omega
theorem Fm.dep_sub{f g:Fm}(h:g∈f.sub):g.dep<f.dep:=by have:=Fm.dep_mem h;rw[Fm.dep_eq f];omega
variable [Tok][TokOk]
theorem snap_osl{α:Type}{σ:St}{k:Nat}{o:Bool}{sh:Option Nat}{l:Option (List α)}{g g':α→AV}(h:∀x∈l.getD [],snapshot σ k (g x)=some (g' x)):snapshot σ (k+1) (osl o sh (l.map fun l=>l.map g))=some (osl true sh (l.map fun l=>l.map g')):=by
 cases l with
 |none=>rfl
 |some l=>
  show(match mapO (snapshot σ k) (l.map g) with|none=>none|some xs=>some (AV.tl true sh xs))=_
  rw[mapO_map (l:=l) (h:=g') fun x hx=>h x hx];rfl
theorem snap_ag{σ:St}{k:Nat}{l l':List AV}(h:mapO (snapshot σ k) l=some l'):snapshot σ (k+1) (.ag l)=some (.ag l'):=by
 show(match mapO (snapshot σ k) l with|none=>none|some l=>some (AV.ag l))=_
 rw[h]
theorem Tm.snap(σ:St)(o:Bool):∀(d:Nat) (t:Tm) (k:Nat),t.dep≤d→2*d+1≤k→snapshot σ k (t.A o)=some (t.A true)
 |0,t,k,h,_=>by rw[Tm.dep_eq] at h;omega
 |d+1,t,k,h,hk=>by
  obtain⟨k,rfl⟩:∃j,k=j+3:=⟨k-3,by omega⟩
  unfold Tm.A
  rw[Tm.cells_eq,Tm.cells_eq]
  refine snap_ag ?_
  have e:snapshot σ (k+2) (tmsA o t.oargs)=some (tmsA true t.oargs):=snap_osl (k:=k+1) fun x hx=>Tm.snap σ o d x (k+1) (by have:=Tm.dep_arg (t:=t) hx;omega) (by omega)
  rw[mapO_cons',mapO_cons',mapO_cons',e];rfl
theorem Fm.snap(σ:St)(o:Bool):∀(d:Nat) (f:Fm) (k:Nat),f.dep≤d→2*d+1≤k→snapshot σ k (f.A o)=some (f.A true)
 |0,f,k,h,_=>by rw[Fm.dep_eq] at h;omega
 |d+1,f,k,h,hk=>by
  obtain⟨k,rfl⟩:∃j,k=j+3:=⟨k-3,by omega⟩
  unfold Fm.A
  rw[Fm.cells_eq,Fm.cells_eq]
  refine snap_ag ?_
  have e1:snapshot σ (k+2) (tmsA o f.oargs)=some (tmsA true f.oargs):=snap_osl (k:=k+1) fun x hx=>Tm.snap σ o d x (k+1) (by have:=Fm.dep_arg (f:=f) hx;omega) (by omega)
  have e2:snapshot σ (k+2) (fmsA o f.osub)=some (fmsA true f.osub):=snap_osl (k:=k+1) fun x hx=>Fm.snap σ o d x (k+1) (by have:=Fm.dep_sub (f:=f) hx;omega) (by omega)
  rw[mapO_cons',mapO_cons',mapO_cons',mapO_cons',e1,e2];rfl
theorem osl_len{α:Type}{σ:St}{o:Bool}{sh:Option Nat}{l:Option (List α)}{g:α→AV}:lenA σ 1 (osl o sh (l.map fun l=>l.map g))=some (l.getD []).length:=by
 cases l with
 |none=>rfl
 |some l=>show some (l.map g).length=_;rw[List.length_map];rfl
theorem osl_idx{α:Type}{o:Bool}{sh:Option Nat}{l:Option (List α)}{g:α→AV}{i:Nat}(h:i<(l.getD []).length):idxSlA sh (osl o sh (l.map fun l=>l.map g)) i=some (.tp o (g ((l.getD [])[i]))):=by
 cases l with
 |none=>simp at h
 |some l=>
  refine idxSlA_tl ?_
  have h:i<l.length:=h
  rw[nth_get (by simpa using h),List.getElem_map];rfl
theorem Tm.len(o:Bool)(t:Tm):(t.cells o).length=3:=by rw[Tm.cells_eq];rfl
theorem Fm.len(o:Bool)(f:Fm):(f.cells o).length=4:=by rw[Fm.cells_eq];rfl
theorem Tm.conf(o:Bool)(t:Tm):conf (some 3) (t.A o)=true:=by unfold Tm.A;rw[Tm.cells_eq];rfl
theorem Fm.conf(o:Bool)(f:Fm):conf (some 4) (f.A o)=true:=by unfold Fm.A;rw[Fm.cells_eq];rfl
theorem Tm.ld(o:Bool)(t:Tm):takeSh (some 3) ((t.cells o).drop 0)=some (t.A o):=by unfold Tm.A;rw[Tm.cells_eq];rfl
theorem Fm.ld(o:Bool)(f:Fm):takeSh (some 4) ((f.cells o).drop 0)=some (f.A o):=by unfold Fm.A;rw[Fm.cells_eq];rfl
theorem Tm.ldV(o:Bool)(t:Tm):takeSh none ((t.cells o).drop 0)=some (.b t.var):=by rw[Tm.cells_eq];rfl
theorem Tm.ldN(o:Bool)(t:Tm):takeSh none ((t.cells o).drop 1)=some (.s t.name):=by rw[Tm.cells_eq];rfl
theorem Tm.ldA(o:Bool)(t:Tm):takeSh none ((t.cells o).drop 2)=some (tmsA o t.oargs):=by rw[Tm.cells_eq];rfl
theorem Fm.ldO(o:Bool)(f:Fm):takeSh none ((f.cells o).drop 0)=some (.i .u8 (Int.ofNat f.op)):=by rw[Fm.cells_eq];rfl
theorem Fm.ldN(o:Bool)(f:Fm):takeSh none ((f.cells o).drop 1)=some (.s f.name):=by rw[Fm.cells_eq];rfl
theorem Fm.ldA(o:Bool)(f:Fm):takeSh none ((f.cells o).drop 2)=some (tmsA o f.oargs):=by rw[Fm.cells_eq];rfl
theorem Fm.ldS(o:Bool)(f:Fm):takeSh none ((f.cells o).drop 3)=some (fmsA o f.osub):=by rw[Fm.cells_eq];rfl
theorem tmsA_len{σ:St}{o:Bool}{l:Option (List Tm)}:lenA σ 1 (tmsA o l)=some (l.getD []).length:=osl_len
theorem fmsA_len{σ:St}{o:Bool}{l:Option (List Fm)}:lenA σ 1 (fmsA o l)=some (l.getD []).length:=osl_len
theorem tmsA_idx{o:Bool}{l:Option (List Tm)}{i:Nat}(h:i<(l.getD []).length):idxSlA (some 3) (tmsA o l) i=some (.tp o (((l.getD [])[i]).A o)):=osl_idx h
theorem fmsA_idx{o:Bool}{l:Option (List Fm)}{i:Nat}(h:i<(l.getD []).length):idxSlA (some 4) (fmsA o l) i=some (.tp o (((l.getD [])[i]).A o)):=osl_idx h
mutual
def Fm.parts:Fm→List Fm
 | .mk op n a none=>[.mk op n a none]
 | .mk op n a (some l)=>.mk op n a (some l)::Fm.partsL l
def Fm.partsL:List Fm→List Fm
 |[]=>[]
 |f::l=>f.parts++Fm.partsL l
end
theorem Fm.parts_eq(f:Fm):f.parts=f::Fm.partsL f.sub:=by
 obtain⟨op,n,a,s⟩:=f
 cases s with
 |none=>rw[Fm.parts];simp[Fm.sub,Fm.osub,Fm.partsL]
 |some l=>rw[Fm.parts];rfl
mutual
def Tm.parts:Tm→List Tm
 | .mk v n none=>[.mk v n none]
 | .mk v n (some l)=>.mk v n (some l)::Tm.partsL l
def Tm.partsL:List Tm→List Tm
 |[]=>[]
 |f::l=>f.parts++Tm.partsL l
end
theorem Tm.parts_eq(f:Tm):f.parts=f::Tm.partsL f.args:=by
 obtain⟨v,n,s⟩:=f
 cases s with
 |none=>rw[Tm.parts];simp[Tm.args,Tm.oargs,Tm.partsL]
 |some l=>rw[Tm.parts];rfl
inductive Tm.few:Tm→Prop
 |mk {v:Bool} {n:List Nat} {a:Option (List Tm)} (hl:(a.getD []).length<2^62) (h:∀x∈a.getD [],Tm.few x):Tm.few (.mk v n a)
inductive Fm.few:Fm→Prop
 |mk {op:Nat} {n:List Nat} {a:Option (List Tm)} {s:Option (List Fm)} (hal:(a.getD []).length<2^62) (ha:∀x∈a.getD [],Tm.few x) (hl:(s.getD []).length<2^62) (h:∀x∈s.getD [],Fm.few x):Fm.few (.mk op n a s)
theorem Tm.few.len{t:Tm}(h:t.few):t.args.length<2^62:=by cases h with|mk hl _=>exact hl
theorem Tm.few.arg{t:Tm}(h:t.few):∀x∈t.args,x.few:=by cases h with|mk _ h=>exact h
theorem Fm.few.alen{t:Fm}(h:t.few):t.args.length<2^62:=by cases h with|mk hl _ _ _=>exact hl
theorem Fm.few.arg{t:Fm}(h:t.few):∀x∈t.args,x.few:=by cases h with|mk _ h _ _=>exact h
theorem Fm.few.slen{t:Fm}(h:t.few):t.sub.length<2^62:=by cases h with|mk _ _ hl _=>exact hl
theorem Fm.few.sb{t:Fm}(h:t.few):∀x∈t.sub,x.few:=by cases h with|mk _ _ _ h=>exact h
end Go.Lyc
end
noncomputable section
namespace Go.Lyc
variable [Tok][TokOk]
open Go.RowKit
theorem mapO_same{α β:Type}{f g:α→Option β}:∀ {l:List α} {r:List β},mapO f l=some r→(∀x∈l,∀y,f x=some y→g x=some y)→mapO g l=some r
 |[],r,h,_=>by cases h;rfl
 |x::l,r,h,hp=>by
  rw[mapO_cons'] at h
  cases hx:f x with
  |none=>rw[hx] at h;cases h
  |some y=>
   rw[hx] at h
   cases hl:mapO f l with
   |none=>rw[hl] at h;cases h
   |some ys=>
    rw[hl] at h;cases h
    rw[mapO_cons',hp x (by simp) y hx,mapO_same hl fun w hw=>hp w (List.mem_cons_of_mem _ hw)]
theorem mapO_two{α β γ T:Type}(t0:T){f:α→Option β}{g:T→β→Option γ}{h:α→Option γ}:∀ {l:List α} {r:List β} {s:List γ},mapO f l=some r→(∀t,mapO (g t) r=some s)→(∀x∈l,∀y z,f x=some y→(∀t,g t y=some z)→h x=some z)→mapO h l=some s
 |[],r,s,h1,h2,_=>by cases h1;have:=h2 t0;cases this;rfl
 |x::l,r,s,h1,h2,hp=>by
  rw[mapO_cons'] at h1
  cases hx:f x with
  |none=>rw[hx] at h1;cases h1
  |some y=>
   rw[hx] at h1
   cases hl:mapO f l with
   |none=>rw[hl] at h1;cases h1
   |some ys=>
    rw[hl] at h1;cases h1
    have h3:∀t,∃z zs,g t y=some z∧mapO (g t) ys=some zs∧s=z::zs:=fun t=>by
     have:=h2 t
     rw[mapO_cons'] at this
     cases hy:g t y with
     |none=>rw[hy] at this;cases this
     |some z=>
      rw[hy] at this
      cases hm:mapO (g t) ys with
      |none=>rw[hm] at this;cases this
      |some zs=>rw[hm] at this;cases this;exact⟨z,zs,rfl,rfl,rfl⟩
    obtain⟨z,zs,_,_,rfl⟩:=h3 t0
    have h4:∀t,g t y=some z:=fun t=>by obtain⟨z',zs',a1,_,a3⟩:=h3 t;cases a3;exact a1
    have h5:∀t,mapO (g t) ys=some zs:=fun t=>by obtain⟨z',zs',_,a2,a3⟩:=h3 t;cases a3;exact a2
    rw[mapO_cons',hp x (by simp) y z hx h4,mapO_two t0 hl h5 fun w hw=>hp w (List.mem_cons_of_mem _ hw)]
theorem readList_keep{σ σ':St}(hk:∀i c,σ.get i=some (.cells c)→σ'.get i=some (.cells c)){v:AV}{l:List AV}(h:readList σ v=some l):readList σ' v=some l:=by
 cases v with
 |sl id off len sh cap=>
  have h:(match σ.get id with|some (.cells c)=>elems sh len (c.drop off)|_=>none)=some l:=h
  show(match σ'.get id with|some (.cells c)=>elems sh len (c.drop off)|_=>none)=some l
  cases hg:σ.get id with
  |none=>rw[hg] at h;cases h
  |some o=>
   cases o with
   |cells c=>rw[hg] at h;rw[hk id c hg];exact h
   |_=>rw[hg] at h;cases h
 |nilsl=>exact h
 |tl o sh xs=>exact h
 |_=>cases h
theorem freeze_keep{σ σ':St}(hk:∀i c,σ.get i=some (.cells c)→σ'.get i=some (.cells c)):∀(n:Nat) (v r:AV),freeze σ 0 n v=some r→freeze σ' 0 n v=some r
 |0,_,_,h=>by cases h
 |n+1,v,r,h=>by
  have ih:=freeze_keep hk n
  rw[freeze_succ] at h ⊢
  cases v with
  |sl id off len sh cap=>
   simp only[] at h ⊢
   split at h
   ·cases h
   ·rename_i hb
    rw[if_neg hb]
    cases hr:readList σ (.sl id off len sh cap) with
    |none=>rw[hr] at h;cases h
    |some xs=>
     rw[hr] at h
     rw[readList_keep hk hr]
     simp only[] at h ⊢
     cases hm:mapO (freeze σ 0 n) xs with
     |none=>rw[hm] at h;cases h
     |some ys=>rw[hm] at h;rw[mapO_same hm fun x _ y hy=>ih x y hy];exact h
  |ag l=>
   simp only[] at h ⊢
   cases hm:mapO (freeze σ 0 n) l with
   |none=>rw[hm] at h;cases h
   |some ys=>rw[hm] at h;rw[mapO_same hm fun x _ y hy=>ih x y hy];exact h
  |tu l=>
   simp only[] at h ⊢
   cases hm:mapO (freeze σ 0 n) l with
   |none=>rw[hm] at h;cases h
   |some ys=>rw[hm] at h;rw[mapO_same hm fun x _ y hy=>ih x y hy];exact h
  |it t v=>
   simp only[] at h ⊢
   cases hm:freeze σ 0 n v with
   |none=>rw[hm] at h;cases h
   |some y=>rw[hm] at h;rw[ih v y hm];exact h
  |p a=>cases a<;>exact h
  |m a=>cases a<;>exact h
  |_=>exact h
theorem snap_tl{σ:St}{n:Nat}{o:Bool}{sh:Option Nat}{xs:List AV}{w:AV}(h:snapshot σ (n+1) (.tl o sh xs)=some w):∃zs,mapO (snapshot σ n) xs=some zs∧w= .tl true sh zs:=by
 rw[snapshot_succ] at h
 simp only[] at h
 cases hm:mapO (snapshot σ n) xs with
 |none=>rw[hm] at h;cases h
 |some zs=>rw[hm] at h;cases h;exact⟨zs,rfl,rfl⟩
theorem snap_agI{σ:St}{n:Nat}{xs:List AV}{w:AV}(h:snapshot σ (n+1) (.ag xs)=some w):∃zs,mapO (snapshot σ n) xs=some zs∧w= .ag zs:=by
 rw[snapshot_succ] at h
 simp only[] at h
 cases hm:mapO (snapshot σ n) xs with
 |none=>rw[hm] at h;cases h
 |some zs=>rw[hm] at h;cases h;exact⟨zs,rfl,rfl⟩
theorem snap_of_freeze{σ:St}:∀(n:Nat) (v r w:AV),freeze σ 0 n v=some r→(∀τ,snapshot τ n r=some w)→snapshot σ n v=some w
 |0,_,_,_,h,_=>by cases h
 |n+1,v,r,w,h,hs=>by
  have ih:=snap_of_freeze (σ:=σ) n
  rw[freeze_succ] at h
  cases v with
  |sl id off len sh cap=>
   simp only[] at h
   split at h
   ·cases h
   ·cases hr:readList σ (.sl id off len sh cap) with
    |none=>rw[hr] at h;cases h
    |some xs=>
     rw[hr] at h
     simp only[] at h
     cases hm:mapO (freeze σ 0 n) xs with
     |none=>rw[hm] at h;cases h
     |some ys=>
      rw[hm] at h;cases h
      obtain⟨zs,_,rfl⟩:=snap_tl (hs σ)
      have h2:∀τ,mapO (snapshot τ n) ys=some zs:=fun τ=>by obtain⟨zs',a1,a2⟩:=snap_tl (hs τ);cases a2;exact a1
      rw[snapshot_succ]
      simp only[]
      rw[hr]
      simp only[]
      rw[mapO_two (⟨.nil,0⟩:St) hm h2 fun x _ y z hy hz=>ih x y z hy hz]
  |ag l=>
   simp only[] at h
   cases hm:mapO (freeze σ 0 n) l with
   |none=>rw[hm] at h;cases h
   |some ys=>
    rw[hm] at h;cases h
    obtain⟨zs,_,rfl⟩:=snap_agI (hs σ)
    have h2:∀τ,mapO (snapshot τ n) ys=some zs:=fun τ=>by obtain⟨zs',a1,a2⟩:=snap_agI (hs τ);cases a2;exact a1
    rw[snapshot_succ]
    simp only[]
    rw[mapO_two (⟨.nil,0⟩:St) hm h2 fun x _ y z hy hz=>ih x y z hy hz]
  |tl o sh xs=>cases h;exact hs σ
  |tu l=>
   simp only[] at h
   cases hm:mapO (freeze σ 0 n) l with
   |none=>rw[hm] at h;cases h
   |some ys=>
    rw[hm] at h;cases h
    have inv:∀ {τ:St} {w:AV},snapshot τ (n+1) (.tu ys)=some w→∃zs,mapO (snapshot τ n) ys=some zs∧w= .tu zs:=fun {τ w} h=>by
     rw[snapshot_succ] at h
     simp only[] at h
     cases hm:mapO (snapshot τ n) ys with
     |none=>rw[hm] at h;cases h
     |some zs=>rw[hm] at h;cases h;exact⟨zs,rfl,rfl⟩
    obtain⟨zs,_,rfl⟩:=inv (hs σ)
    have h2:∀τ,mapO (snapshot τ n) ys=some zs:=fun τ=>by obtain⟨zs',a1,a2⟩:=inv (hs τ);cases a2;exact a1
    rw[snapshot_succ]
    simp only[]
    rw[mapO_two (⟨.nil,0⟩:St) hm h2 fun x _ y z hy hz=>ih x y z hy hz]
  |it t v=>
   simp only[] at h
   cases hm:freeze σ 0 n v with
   |none=>rw[hm] at h;cases h
   |some y=>
    rw[hm] at h;cases h
    have inv:∀ {τ:St} {w:AV},snapshot τ (n+1) (.it t y)=some w→∃z,snapshot τ n y=some z∧w= .it t z:=fun {τ w} h=>by
     rw[snapshot_succ] at h
     simp only[] at h
     cases hm:snapshot τ n y with
     |none=>rw[hm] at h;cases h
     |some z=>rw[hm] at h;cases h;exact⟨z,rfl,rfl⟩
    obtain⟨z,_,rfl⟩:=inv (hs σ)
    have h2:∀τ,snapshot τ n y=some z:=fun τ=>by obtain⟨z',a1,a2⟩:=inv (hs τ);cases a2;exact a1
    rw[snapshot_succ]
    simp only[]
    rw[ih v y z hm h2]
  |p a=>cases a with
   |none=>cases h;exact hs σ
   |some a=>cases h
  |m a=>cases a with
   |none=>cases h;exact hs σ
   |some a=>cases h
  |f _ _ _=>cases h
  |_=>cases h;exact hs σ
def Is(σ:St)(n:Nat)(F:Fm)(v:AV):Prop:=freeze σ 0 n v=some (F.A false)
theorem Is.keep{σ σ':St}{n:Nat}{F:Fm}{v:AV}(h:Is σ n F v)(hk:∀i o,σ.get i=some o→σ'.get i=some o):Is σ' n F v:=freeze_keep (fun i c hc=>hk i _ hc) n v _ h
theorem Is.snap{σ:St}{n:Nat}{F:Fm}{v:AV}(h:Is σ n F v)(hd:2*F.dep+1≤n):snapshot σ n v=some (F.A true):=snap_of_freeze n v _ _ h fun τ=>Fm.snap τ false F.dep F n (Nat.le_refl _) hd
section
variable {env:Env}{wh:Option Nat}{D:List (Nat ⊕ (AV×List AV))}{n:Nat}{f:Nat→AV}{σ:St}{Q:PostF}
end
theorem freeze_one{σ:St}{n id:Nat}{sh cap:Option Nat}{v w:AV}(hg:σ.get id=some (.cells v.cells))(hc:conf sh v=true)(hv:freeze σ 0 n v=some w):freeze σ 0 (n+1) (.sl id 0 1 sh cap)=some (.tl false sh [w]):=by
 have he:=elems_flat (sh:=sh) (xs:=[v]) (r:=[]) (by intro y hy;rw[List.mem_singleton.1 hy];exact hc)
 rw[List.append_nil] at he
 refine freeze_sl hg (xs:=[v]) (by simpa using he) ?_
 rw[mapO_cons',hv];rfl
theorem freeze_two{σ:St}{n id:Nat}{sh cap:Option Nat}{v w v2 w2:AV}(hg:σ.get id=some (.cells (v.cells++v2.cells)))(hc:conf sh v=true)(hc2:conf sh v2=true)(hv:freeze σ 0 n v=some w)(hv2:freeze σ 0 n v2=some w2):freeze σ 0 (n+1) (.sl id 0 2 sh cap)=some (.tl false sh [w,w2]):=by
 have he:=elems_flat (sh:=sh) (xs:=[v,v2]) (r:=[]) (by
  intro y hy
  simp only[List.mem_cons,List.not_mem_nil,or_false] at hy
  rcases hy with rfl|rfl
  ·exact hc
  ·exact hc2)
 rw[List.append_nil] at he
 refine freeze_sl hg (xs:=[v,v2]) (by simpa using he) ?_
 rw[mapO_cons',hv,mapO_cons',hv2];rfl
def Frz(W:Nat→Prop)(σ:St)(n:Nat)(v r:AV):Prop:=∀σ',(∀i o,¬W i→σ.get i=some o→σ'.get i=some o)→freeze σ' 0 n v=some r
theorem Frz.keep{W:Nat→Prop}{σ σ':St}{n:Nat}{v r:AV}(h:Frz W σ n v r)(hk:∀i o,¬W i→σ.get i=some o→σ'.get i=some o):Frz W σ' n v r:=fun σ2 h2=>h σ2 fun i o hi ho=>h2 i o hi (hk i o hi ho)
theorem Frz.one{W:Nat→Prop}{σ:St}{n id:Nat}{sh cap:Option Nat}{v w:AV}(hg:σ.get id=some (.cells v.cells))(hi:¬W id)(hc:conf sh v=true)(hv:Frz W σ n v w):Frz W σ (n+1) (.sl id 0 1 sh cap) (.tl false sh [w]):=fun σ' h'=>freeze_one (h' _ _ hi hg) hc (hv σ' h')
theorem Frz.two{W:Nat→Prop}{σ:St}{n id:Nat}{sh cap:Option Nat}{v w v2 w2:AV}(hg:σ.get id=some (.cells (v.cells++v2.cells)))(hi:¬W id)(hc:conf sh v=true)(hc2:conf sh v2=true)(hv:Frz W σ n v w)(hv2:Frz W σ n v2 w2):Frz W σ (n+1) (.sl id 0 2 sh cap) (.tl false sh [w,w2]):=
 fun σ' h'=>freeze_two (h' _ _ hi hg) hc hc2 (hv σ' h') (hv2 σ' h')
theorem Frz.ag{W:Nat→Prop}{σ:St}{n:Nat}{l r:List AV}(h:∀σ',(∀i o,¬W i→σ.get i=some o→σ'.get i=some o)→mapO (freeze σ' 0 n) l=some r):Frz W σ (n+1) (.ag l) (.ag r):=fun σ' h'=>by
 rw[freeze_succ]
 simp only[]
 rw[h σ' h']
end Go.Lyc
end
noncomputable section
namespace Go.Lyc
structure Hid(R:Prop):Prop where
 out:R
theorem sS{P R:Prop}(k:R)(h:Hid R→P:=by
 intro k
 repeat (first|refine GoO.go rfl rfl rfl rfl ?_|refine GoO.cmp rfl rfl rfl rfl rfl ?_|refine GoO.off rfl rfl ?_|refine GoO.nil ?_|refine GoF.seq ?_|refine GoF.region ?_|refine GoF.skip ?_|refine GoF.block ?_)
 exact k.out):P:=h ⟨k⟩
theorem sP{P R:Prop}(k:R)(h:Hid R→P:=by
 intro k
 repeat (first|refine GoP.go rfl rfl rfl rfl ?_|refine GoP.cmp rfl rfl rfl rfl rfl ?_|refine GoP.off rfl rfl ?_|refine GoP.nil ?_)
 exact k.out):P:=h ⟨k⟩
theorem sO{P R:Prop}(k:R)(h:Hid R→P:=by
 intro k
 repeat (first|refine GoO.go rfl rfl rfl rfl ?_|refine GoO.cmp rfl rfl rfl rfl rfl ?_|refine GoO.off rfl rfl ?_|refine GoO.nil ?_)
 exact k.out):P:=h ⟨k⟩
theorem sN{P R:Prop}(k:R)(h:Hid R→P:=by
 intro k
 repeat (first|refine GoO.go rfl rfl rfl rfl ?_|refine GoO.off rfl rfl ?_|refine GoO.nil ?_)
 exact k.out):P:=h ⟨k⟩
theorem sOj{P R:Prop}(k:R)(h:Hid R→P:=by
 intro k
 repeat (first|refine GoO.go rfl rfl rfl rfl ?_|refine GoO.ld hj rfl rfl rfl rfl ?_|refine GoO.cmp rfl rfl rfl rfl rfl ?_|refine GoO.off rfl rfl ?_|refine GoO.nil ?_)
 exact k.out):P:=h ⟨k⟩
theorem sO1{P R:Prop}(k:R)(h:Hid R→P:=by
 intro k
 repeat (first|refine GoO.go rfl rfl rfl rfl ?_|refine GoO.ld h1 rfl rfl rfl rfl ?_|refine GoO.cmp rfl rfl rfl rfl rfl ?_|refine GoO.off rfl rfl ?_|refine GoO.nil ?_)
 exact k.out):P:=h ⟨k⟩
theorem sO2{P R:Prop}(k:R)(h:Hid R→P:=by
 intro k
 repeat (first|refine GoO.go rfl rfl rfl rfl ?_|refine GoO.ld h2 rfl rfl rfl rfl ?_|refine GoO.cmp rfl rfl rfl rfl rfl ?_|refine GoO.off rfl rfl ?_|refine GoO.nil ?_)
 exact k.out):P:=h ⟨k⟩
theorem sO3{P R:Prop}(k:R)(h:Hid R→P:=by
 intro k
 repeat (first|refine GoO.go rfl rfl rfl rfl ?_|refine GoO.ld a3 rfl rfl rfl rfl ?_|refine GoO.cmp rfl rfl rfl rfl rfl ?_|refine GoO.off rfl rfl ?_|refine GoO.nil ?_)
 exact k.out):P:=h ⟨k⟩
theorem sN1{P R:Prop}(k:R)(h:Hid R→P:=by
 intro k
 repeat (first|refine GoO.go rfl rfl rfl rfl ?_|refine GoO.ld h1 rfl rfl rfl rfl ?_|refine GoO.off rfl rfl ?_|refine GoO.nil ?_)
 exact k.out):P:=h ⟨k⟩
theorem sN2{P R:Prop}(k:R)(h:Hid R→P:=by
 intro k
 repeat (first|refine GoO.go rfl rfl rfl rfl ?_|refine GoO.ld h2 rfl rfl rfl rfl ?_|refine GoO.off rfl rfl ?_|refine GoO.nil ?_)
 exact k.out):P:=h ⟨k⟩
theorem sA{P R:Prop}(k:R)(h:Hid R→P:=by
 intro k
 repeat (first|refine GoO.idx rfl rfl rfl rfl (idxSlA_sl (by omega)) ?_|refine GoO.cmp rfl rfl rfl rfl rfl ?_|refine GoO.bin rfl rfl rfl rfl (bin_add1 (by omega)) ?_|refine GoO.bin rfl rfl rfl rfl (bin_sub1 (by omega) (by omega)) ?_|refine GoO.bin rfl rfl rfl rfl (bin_add (by omega)) ?_|refine GoO.bin rfl rfl rfl rfl (bin_sub (by omega) (by omega)) ?_|refine GoO.lt0 rfl rfl rfl rfl ?_|refine GoO.go rfl rfl rfl rfl ?_|refine GoO.off rfl rfl ?_)
 exact k.out):P:=h ⟨k⟩
theorem sBh{P R:Prop}(k:R)(h:Hid R→P:=by
 intro k
 repeat (first|refine GoP.idx rfl rfl rfl rfl (idxSlA_sl (by omega)) ?_|refine GoP.ld hS.blk rfl rfl rfl (elemT (by omega)) ?_|refine GoP.cmp rfl rfl rfl rfl rfl ?_|refine GoP.bin rfl rfl rfl rfl (bin_add1 (by omega)) ?_|refine GoP.bin rfl rfl rfl rfl (bin_sub1 (by omega) (by omega)) ?_|refine GoP.bin rfl rfl rfl rfl (bin_add (by omega)) ?_|refine GoP.bin rfl rfl rfl rfl (bin_sub (by omega) (by omega)) ?_|refine GoP.lt0 rfl rfl rfl rfl ?_|refine GoP.known hf es1.1 es1.2 (hs1 _ _) rfl rfl rfl (snaps2 rfl rfl) ?_|refine GoP.go rfl rfl rfl rfl ?_|refine GoP.off rfl rfl ?_)
 exact k.out):P:=h ⟨k⟩
theorem sK{P R:Prop}(k:R)(h:Hid R→P:=by
 intro k
 (first|refine GoO.idx rfl rfl rfl rfl (idxSlA_sl (by omega)) ?_|refine GoO.ld hS.blk rfl rfl rfl (elemT (by omega)) ?_|refine GoO.bin rfl rfl rfl rfl (bin_sub1 (by omega) (by omega)) ?_|refine GoO.bin rfl rfl rfl rfl (bin_add (by omega)) ?_|refine GoO.go rfl rfl rfl rfl ?_)
 exact k.out):P:=h ⟨k⟩
end Go.Lyc
end
noncomputable section
namespace Go.Lyc
variable [Tok][TokOk]
open Go.RowKit
def calm:AOp→Bool
 | .call _ _=>false
 | .dfr _ _=>false
 | .nextMap _=>false
 | .len 0 _=>false
 |_=>true
def plainR:Option OpR→Prop
 |none=>True
 |some (.val _ _)=>True
 |some (.panic _)=>True
 |_=>False
theorem plainR_cond{c:Bool}{a b:Option OpR}(ha:plainR a)(hb:plainR b):plainR (cond c a b):=by cases c<;>assumption
theorem lenU_calm{k:Nat}{x:AOpd}{v:AV}{σ:St}(h:calm (.len k x)=true):plainR (lenU σ k v):=by
 cases k with
 |zero=>cases h
 |succ k=>exact trivial
set_option maxHeartbeats 0 in
theorem opx_calm{floor:Nat}{ev:AOpd→Option AV}{σ:St}:∀ {op:AOp},calm op=true→plainR (opx floor ev σ op):=by
 intro op h
 cases op<;>first
  |(cases h;done)
  |(simp only[opx];repeat' split)<;>(first|trivial|exact lenU_calm h|exact plainR_cond trivial trivial|(simp_all [plainR];done))
def OneL{α:Type}:Option (List α)→Prop
 |none=>True
 |some l=>∃x,l=[x]
theorem OneL.thenO{α β:Type}{r:Option (List α)}{f:α→Option (List β)}(h:OneL r)(hf:∀x,OneL (f x)):OneL (Go.Lyc.thenO r f):=by
 cases r with
 |none=>trivial
 |some l=>obtain⟨x,rfl⟩:=h;exact hf x
end Go.Lyc
end
noncomputable section
namespace Go.Lyc
variable [Tok][TokOk]
open Go.RowKit
def Ones(env:Env)(gs:List Nat):Prop:=∀g∈gs,∀F args σ,OneL (callV env (exec env F) 0 (.f (.func g) [] []) args σ)
theorem Ones.nil{env:Env}:Ones env []:=fun _ h=>absurd h (by simp)
theorem Ones.cons{env:Env}{g:Nat}{gs:List Nat}(h:∀F args σ,OneL (callV env (exec env F) 0 (.f (.func g) [] []) args σ))(hs:Ones env gs):Ones env (g::gs):=fun x hx=>by
 rcases List.mem_cons.1 hx with rfl|hx
 ·exact h
 ·exact hs x hx
def inN(gs:List Nat)(g:Nat):Bool:=gs.any fun x=>Nat.beq x g
theorem inN_mem{g:Nat}{gs:List Nat}(h:inN gs g=true):g∈gs:=by
 obtain⟨x,h1,h2⟩:=List.any_eq_true.1 h
 rw[←Nat.eq_of_beq_eq_true h2];exact h1
def sgl(gs:List Nat)(o:AOper):Bool:=
 (match o.win with|[]=>true|_::_=>false)&&(match o.op with
  | .call (.fn g) _=>inN gs g
  |op=>calm op)
theorem sgl_cases{gs:List Nat}{o:AOper}(h:sgl gs o=true):o.win=[]∧((∃g as,o.op= .call (.fn g) as∧g∈gs)∨calm o.op=true):=by
 obtain⟨d,op,gd,w⟩:=o
 cases w with
 |cons a l=>cases h
 |nil=>
  refine⟨rfl,?_⟩
  cases op with
  |call c as=>cases c with
   |fn g=>exact .inl ⟨g,as,rfl,inN_mem h⟩
   |val x=>cases h
  |_=>exact .inr h
abbrev Kp(σ τ:St):Prop:=∀i o,σ.get i=some o→τ.get i=some o
theorem nth_app{α:Type}:∀(a b:List α) (q:Nat),nth (a++b) (a.length+q)=nth b q
 |[],b,q=>by rw[List.nil_append,List.length_nil,Nat.zero_add]
 |x::a,b,q=>by
  rw[List.length_cons,Nat.add_right_comm,List.cons_append]
  exact nth_app a b q
theorem draw_of_ops{env:Env}{gs:List Nat}(hg:Ones env gs){F:Nat}{nd:Bool}:∀ {ops:List AOper},allB (sgl gs) ops=true→∀ {fr:Fr} {σ:St} {outs:Outs},runOps env 0 (callV env (exec env F) 0) nd ops fr σ=some outs→(∀o∈outs,o.1= .normal)→outs≠[]→
  ∃fr' ss' σ',outs=[(.normal,fr',σ')]∧ss'.length=ops.length∧(∃t,(σ'::ss').reverse=σ::t)∧∀ss ws,runDraw env 0 (callV env (exec env F) 0) ops fr ss ws σ=some (fr',ss'++ss,ws,σ')
 |[],_,fr,σ,outs,h,_,_=>by
  cases h
  exact⟨fr,[],σ,rfl,rfl,⟨[],rfl⟩,fun _ _=>rfl⟩
 |o::ops,hs,fr,σ,outs,h,hn,hne=>by
  have h1:sgl gs o=true:=allB_mem hs o (by simp)
  have h2:allB (sgl gs) ops=true:=allB_of fun x hx=>allB_mem hs x (List.mem_cons_of_mem _ hx)
  rw[runOps_cons] at h
  obtain⟨hw,hcs⟩:=sgl_cases h1
  have fin:∀ {fr1:Fr} {σ1:St},runOps env 0 (callV env (exec env F) 0) nd ops fr1 σ1=some outs→(∀ss ws,runDraw env 0 (callV env (exec env F) 0) (o::ops) fr ss ws σ=runDraw env 0 (callV env (exec env F) 0) ops fr1 (σ::ss) ws σ1)→
    ∃fr' ss' σ',outs=[(.normal,fr',σ')]∧ss'.length=(o::ops).length∧(∃t,(σ'::ss').reverse=σ::t)∧∀ss ws,runDraw env 0 (callV env (exec env F) 0) (o::ops) fr ss ws σ=some (fr',ss'++ss,ws,σ'):=fun {fr1 σ1} hr hd=>by
   obtain⟨fr',ss',σ',a1,a2,_,a4⟩:=draw_of_ops hg h2 hr hn hne
   refine⟨fr',ss'++[σ],σ',a1,by simp[a2],⟨(σ'::ss').reverse,by rw[←List.cons_append,List.reverse_append];rfl⟩,fun ss ws=>?_⟩
   rw[hd,a4,List.append_assoc];rfl
  cases hwt:wantedA o.guard fr.slots with
  |false=>
   rw[hwt,cond_false] at h
   exact fin h fun ss ws=>by rw[runDraw_cons,hwt,cond_false]
  |true=>
   rw[hwt,cond_true] at h
   cases hx:opx 0 (evalA env fr.slots) σ o.op with
   |none=>rw[hx] at h;cases h
   |some r=>
    rw[hx] at h
    cases r with
    |val v σ1=>exact fin h fun ss ws=>by rw[runDraw_cons,hwt,cond_true,hx,hw]
    |panic v=>cases h;have:=hn _ (List.mem_singleton.2 rfl);cases this
    |call fv args=>
     have hop:∃g,fv= .f (.func g) [] []∧g∈gs:=by
      rcases hcs with⟨g,as,ho,hgm⟩|hcs
      ·rw[ho] at hx
       refine⟨g,?_,hgm⟩
       simp only[opx] at hx
       repeat' split at hx
       all_goals first|(cases hx;done)|(rename_i a _;cases hx;cases a;rfl)
      ·have:=opx_calm (floor:=0) (ev:=evalA env fr.slots) (σ:=σ) hcs
       rw[hx] at this;exact this.elim
     obtain⟨g,hfv,hgm⟩:=hop
     subst hfv
     have h:thenO (callV env (exec env F) 0 (.f (.func g) [] []) args σ) (fun r=>match r with
      |(.ok v,σ)=>runOps env 0 (callV env (exec env F) 0) nd ops (fr.put o.dst v) σ
      |(.err v,σ)=>some [(.panic v,fr,σ)])=some outs:=h
     have h1:=hg g hgm F args σ
     cases hc:callV env (exec env F) 0 (.f (.func g) [] []) args σ with
     |none=>rw[hc] at h;cases h
     |some l=>
      rw[hc] at h1 h
      obtain⟨x,rfl⟩:=h1
      obtain⟨rt,σ1⟩:=x
      have e:∀(f:Ret×St→Option Outs),thenO (some [(rt,σ1)]) f=f (rt,σ1):=fun f=>by
       rfl
      rw[e] at h
      cases rt with
      |err v=>cases h;have:=hn _ (List.mem_singleton.2 rfl);cases this
      |ok v=>
       have h:runOps env 0 (callV env (exec env F) 0) nd ops (fr.put o.dst v) σ1=some outs:=h
       refine fin h fun ss ws=>?_
       rw[runDraw_cons,hwt,cond_true,hx]
       show(match callV env (exec env F) 0 (.f (.func g) [] []) args σ with|some [(.ok v,σ')]=>runDraw env 0 (callV env (exec env F) 0) ops (fr.put o.dst v) (σ::ss) ws σ'|_=>none)=_
       rw[hc]
    |dfr fv args=>
     exfalso
     rcases hcs with⟨g,as,ho,hgm⟩|hcs
     ·rw[ho] at hx
      simp only[opx] at hx
      repeat' split at hx
      all_goals first|(cases hx;done)|(simp_all;done)
     ·have:=opx_calm (floor:=0) (ev:=evalA env fr.slots) (σ:=σ) hcs
      rw[hx] at this;exact this.elim
    |nexts l=>
     exfalso
     rcases hcs with⟨g,as,ho,hgm⟩|hcs
     ·rw[ho] at hx
      simp only[opx] at hx
      repeat' split at hx
      all_goals first|(cases hx;done)|(simp_all;done)
     ·have:=opx_calm (floor:=0) (ev:=evalA env fr.slots) (σ:=σ) hcs
      rw[hx] at this;exact this.elim
def SawAt(env:Env)(m:Nat)(s:St)(w:Saw):Prop:=(∀q∈w.1.win,q=m)∧∃v τ,opx 0 (evalA env w.2.1) s w.1.op=some (.val v τ)∧AV.eqb env.fz v w.2.2=true
def GoK(env:Env)(wh:Option Nat)(D:List (Nat ⊕ (AV×List AV)))(n m k:Nat)(ops:List AOper)(f:Nat→AV)(σ:St)(Q:(Nat→AV)→St→Prop):Prop:=
 ∀fr,IsFr D n f fr→∃F0 fr' f' σ',IsFr D n f' fr'∧Q f' σ'∧k≤m∧∀F,F0≤F→∃ss' wn s,ss'.length=ops.length∧(∀ss ws,runDraw env 0 (callV env (exec env F) 0) ops fr ss ws σ=some (fr',ss'++ss,wn++ws,σ'))∧
  nth (σ'::ss').reverse (m-k)=some s∧Kp σ s∧∀w∈wn,SawAt env m s w
section
variable {env:Env}{wh:Option Nat}{D:List (Nat ⊕ (AV×List AV))}{n m k:Nat}{f:Nat→AV}{σ:St}{gs:List Nat}
theorem GoF.drawK{ops:List AOper}{Q:PostF}(m:Nat)(hs:swapT ops=true)(h:GoK env wh D n m 0 ops f σ (fun f' σ'=>Q .normal f' σ')):GoW env wh D n (.draw ops) f σ Q:=fun fr hfr=>by
 obtain⟨F0,fr',f',σ',h2,h3,_,h1⟩:=h fr hfr
 refine⟨F0+1,[(.normal,fr',σ')],by simp,fun F hF=>?_,fun o ho=>?_⟩
 ·obtain⟨k,rfl⟩:∃k,F=k+1:=⟨F-1,by omega⟩
  obtain⟨ss',wn,s,_,a2,a3,_,a5⟩:=h1 k (by omega)
  show exec env (k+1) 0 wh (ACode.draw ops) fr σ=_
  rw[exec_succ]
  show(match runDraw env 0 (callV env (exec env k) 0) ops fr [] [] σ with
   |some (fr',ss,ws,σ')=>cond (ws.all (steady env 0 (σ'::ss).reverse)&&swapOk env fr'.slots ops) (some [(Ex.normal,fr',σ')]) none
   |none=>none)=_
  rw[a2]
  show cond ((wn++[]).all (steady env 0 (σ'::(ss'++[])).reverse)&&swapOk env fr'.slots ops) (some [(Ex.normal,fr',σ')]) none=_
  rw[List.append_nil,List.append_nil,swapOk_of hs,Bool.and_true]
  have:wn.all (steady env 0 (σ'::ss').reverse)=true:=by
   rw[List.all_eq_true]
   intro w hwn
   obtain⟨b1,v,τ,b2,b3⟩:=a5 w hwn
   unfold steady
   refine allB_of fun q hq=>?_
   rw[b1 q hq,show nth (σ'::ss').reverse m=some s from a3]
   show(match opxF w.1.op 0 (evalA env w.2.1) s with|some (.val v _)=>AV.eqb env.fz v w.2.2|_=>false)=true
   rw[opxF_eq,b2];exact b3
  rw[this];rfl
 ·rw[List.mem_singleton.1 ho]
  exact⟨f',h2,h3⟩
theorem GoK.fin{ops:List AOper}{Q:(Nat→AV)→St→Prop}(hg:Ones env gs)(hs:allB (sgl gs) ops=true)(h:GoV env wh D n ops f σ (fun x f' σ'=>x= .normal∧Q f' σ')):GoK env wh D n m m ops f σ Q:=fun fr hfr=>by
 obtain⟨F0,outs,h1,h2,h3⟩:=h fr hfr
 have hn:∀o∈outs,o.1= .normal:=fun o ho=>by obtain⟨f',_,h,_⟩:=h3 o ho;exact h
 obtain⟨fr',ss',σ',e,_,_,_⟩:=draw_of_ops hg hs (h2 F0 (Nat.le_refl _)) hn h1
 obtain⟨f',b1,_,b2⟩:=h3 _ (by rw[e];exact List.mem_singleton.2 rfl)
 refine⟨F0,fr',f',σ',b1,b2,Nat.le_refl _,fun F hF=>?_⟩
 obtain⟨fr2,ss2,σ2,e2,c2,⟨t,c3⟩,c4⟩:=draw_of_ops hg hs (h2 F hF) hn h1
 rw[e] at e2;cases e2
 exact⟨ss2,[],σ,c2,fun ss ws=>c4 ss ws,by rw[c3,Nat.sub_self];rfl,fun _ _ h=>h,fun _ h=>absurd h (by simp)⟩
theorem GoK.ldw{d:Nat}{op:AOp}{g:Option (Nat×Bool)}{wn:List Nat}{ops:List AOper}{v:AV}{Q:(Nat→AV)→St→Prop}(hwn:allB (fun q=>Nat.beq q m) wn=true)(hd:Nat.blt d n=true)(hw:wantedF g n f=true)(ho:∀τ,Kp σ τ→opx 0 (evF env n f) τ op=some (.val v τ))(hv:AV.eqb env.fz v v=true)
  (h:GoK env wh D n m (k+1) ops (upd f d v) σ Q):GoK env wh D n m k (⟨some d,op,g,wn⟩::ops) f σ Q:=fun fr hfr=>by
 obtain⟨F1,fr',f',σ',d1,d2,d3,d4⟩:=h _ (hfr.put v hd)
 refine⟨F1,fr',f',σ',d1,d2,by omega,fun F hF=>?_⟩
 obtain⟨ss3,wn',s,g1,g2,g3,g4,g5⟩:=d4 F hF
 have e0:∀ss ws,runDraw env 0 (callV env (exec env F) 0) (⟨some d,op,g,wn⟩::ops) fr ss ws σ=runDraw env 0 (callV env (exec env F) 0) ops (fr.put (some d) v) (σ::ss) (match wn with|[]=>ws|_::_=>(⟨some d,op,g,wn⟩,fr.slots,v)::ws) σ:=fun ss ws=>by
  rw[runDraw_cons]
  show cond (wantedA g fr.slots) _ _=_
  rw[hfr.wanted,hw,cond_true,hfr.ev,ho σ fun _ _ h=>h]
  cases wn<;>rfl
 have e1:nth (σ'::(ss3++[σ])).reverse (m-k)=some s:=by
  have e1:(σ'::(ss3++[σ])).reverse=[σ]++(σ'::ss3).reverse:=by rw[←List.cons_append,List.reverse_append];rfl
  have e3:m-k=[σ].length+(m-(k+1)):=by
   show m-k=1+(m-(k+1));omega
  rw[e1,e3,nth_app];exact g3
 cases wn with
 |nil=>exact⟨ss3++[σ],wn',s,by simp[g1],fun ss ws=>by rw[e0,g2,List.append_assoc];rfl,e1,g4,g5⟩
 |cons a l=>
  refine⟨ss3++[σ],wn'++[(⟨some d,op,g,a::l⟩,fr.slots,v)],s,by simp[g1],fun ss ws=>?_,e1,g4,fun w hw=>?_⟩
  ·rw[e0]
   show runDraw env 0 (callV env (exec env F) 0) ops (fr.put (some d) v) (σ::ss) ((⟨some d,op,g,a::l⟩,fr.slots,v)::ws) σ=_
   rw[g2,List.append_assoc,List.append_assoc];rfl
  ·rcases List.mem_append.1 hw with hw|hw
   ·exact g5 w hw
   ·rw[List.mem_singleton.1 hw]
    refine⟨fun q hq=>Nat.eq_of_beq_eq_true (allB_mem hwn q hq),v,s,?_,hv⟩
    show opx 0 (evalA env fr.slots) s op=_
    rw[hfr.ev];exact ho s g4
end
end Go.Lyc
end
noncomputable section
namespace Go.Lyc
variable [Tok][TokOk]
open Go.RowKit
theorem GoesOps.nexts{env:Env}{floor:Nat}{nd:Bool}{o:AOper}{ops:List AOper}{fr:Fr}{σ:St}{Q:Post}{l:List (AV×St)}(hw:wantedA o.guard fr.slots=true)(ho:opx floor (evalA env fr.slots) σ o.op=some (.nexts l))(hl:l≠[])
  (h:∀p∈l,GoesOps env floor nd ops (fr.put o.dst p.1) p.2 Q):GoesOps env floor nd (o::ops) fr σ Q:=by
 have:=Ev.flat (g:=fun(p:AV×St) F=>runOps env floor (callV env (exec env F) floor) nd ops (fr.put o.dst p.1) p.2) (Q:=fun(o:Ex×Fr×St)=>Q o.1 o.2.1 o.2.2) l hl h
 refine Ev.congr this fun F=>?_
 rw[runOps_cons,hw,cond_true,ho]
section
variable {env:Env}{wh:Option Nat}{D:List (Nat ⊕ (AV×List AV))}{n:Nat}{f:Nat→AV}{σ:St}{Q:PostF}
theorem GoO.nexts{d:Nat}{op:AOp}{g:Option (Nat×Bool)}{wn:List Nat}{ops:List AOper}{l:List (AV×St)}(hd:Nat.blt d n=true)(hw:wantedF g n f=true)(ho:opx 0 (evF env n f) σ op=some (.nexts l))(hl:l≠[])
  (h:∀p∈l,GoV env wh D n ops (upd f d p.1) p.2 Q):GoV env wh D n (⟨some d,op,g,wn⟩::ops) f σ Q:=fun fr hfr=>
 GoesOps.nexts (by rw[hfr.wanted];exact hw) (by rw[hfr.ev];exact ho) hl fun p hp=>h p hp _ (hfr.put p.1 hd)
end
end Go.Lyc
end
namespace Go.Lyc
variable [Tok][TokOk]
open Go.RowKit Go.ChangeShapes Go.WideShapes
theorem kept_of_heap{W W':World}{may:MemPlace→Prop}(hk:∀b,b<W.heap.size→W'.heap[b]? =W.heap[b]?)(hos:W'.os=W.os)(hout:W'.output=W.output):W.keptBut W' may:=by
 refine⟨hos,hout,fun i hi=>?_⟩
 rw[hk i hi]
 cases h:W.heap[i]? with
 |none=>rfl
 |some o=>
  cases o with
  |cells c t fr=>exact⟨rfl,rfl,rfl,fun j _=>rfl⟩
  |map es clock=>exact .inr ⟨rfl,rfl⟩
  |_=>rfl
theorem byte_um{w:World}{m:Nat→Option Nat}{O:Nat→Prop}{B d:Nat}{x:Int}(hx:(Lit.int .u8 x).wf=true):R w m O B (.um .u8 d (x.toNat%d)) (.int .u8 x):=by
 have:=bounds_u8 hx
 have e:Int.ofNat x.toNat=x:=by show((x.toNat:Nat):Int)=x;omega
 have:=R.um (w:=w) (m:=m) (O:=O) (B:=B) (k:=.u8) (d:=d) (j:=x.toNat%d) (n:=x.toNat) rfl (by omega)
 rwa[e] at this
theorem str_one{w:World}{m:Nat→Option Nat}{O:Nat→Prop}{B:Nat}(ex:List (List Nat))(hex:∀l∈ex,∀c∈l,c<256)(s:ByteArray):(∃l∈ex,R w m O B (.s l) (.string s))∨R w m O B (.sx ex) (.string s):=by
 by_cases h:∃l∈ex,s=strOf l
 ·obtain⟨l,hl,rfl⟩:=h
  exact .inl ⟨l,hl,.s l (hex l hl)⟩
 ·exact .inr (.sx fun e he hs=>h ⟨e,he,hs⟩)
end Go.Lyc
namespace Go.Lyc
variable [Tok][TokOk]
open Go Go.RowKit Go.ChangeShapes Go.WideShapes
theorem post_trueS{H:Type}{enc:TypeId×Value→H}{P:Program}{f:Func}{s:ChangeSpec}{apart fresh handsOn:Bool}{W W':World}{args:Array Value}{ds:List (DataW H)}{tb:TypeId}{ps pa:List MemPlace}
  (hf:f.resultTypes= #[tb]) (hb:P.underlying tb=some .bool) (hv:s.vars=[]) (hfn:s.fn H ds={results:=[.lit (.bool true)],args:=ds})
  (hW:DataW.Whole enc P f.params.toList s.vars apart W args.toList ds [] ps) (hargs:DataW.TrodAll enc P W' 0 (fun b=>decide (b<W.heap.size)) true f.params.toList args.toList ds pa)
  (hk:∀b,b<W.heap.size→W'.heap[b]? =W.heap[b]?) (hos:W'.os=W.os) (hout:W'.output=W.output):s.post enc P f apart fresh handsOn false W args (.bool true) W':=by
 refine⟨ds,[],ps,[],pa,[],hW,?_,?_,?_,kept_of_heap hk hos hout,fun h=>by cases h⟩
 ·rw[List.append_nil,hfn,hf]
  exact trodAll_mk1 (shut_bool hb _)
 ·rw[List.append_nil,hfn]
  exact hargs
 ·rw[List.append_nil,hfn,hv]
  rfl
theorem calls_trueS{H:Type}{enc:TypeId×Value→H}{P:Program}{env:Env}{f:Func}{s:ChangeSpec}{apart fresh handsOn:Bool}{W:World}{args:Array Value}{ds:List (DataW H)}{tb:TypeId}{g:Nat}{ar:List AV}{ps pa:List MemPlace}
  (hS:∀B0,SpecEntry P env B0 g ar (.b true)) (hG:Globs env W W.heap.size) (ha:RL W (fun _=>none) (fun _=>False) W.heap.size ar args.toList)
  (hf:f.resultTypes= #[tb]) (hb:P.underlying tb=some .bool) (hv:s.vars=[]) (hfn:s.fn H ds={results:=[.lit (.bool true)],args:=ds})
  (hW:DataW.Whole enc P f.params.toList s.vars apart W args.toList ds [] ps) (hargs:∀W':World,Below W.heap.size W W'→DataW.TrodAll enc P W' 0 (fun b=>decide (b<W.heap.size)) true f.params.toList args.toList ds pa):
  Calls P g args W fun e W'=>∃v,e= .returned v∧s.post enc P f apart fresh handsOn false W args v W':=by
 refine((hS W.heap.size).calls (Nat.le_refl _) hG ha).mono fun e W' ⟨u,he,hR,hsz,hk,hos,htp,hout⟩=>?_
 cases hR
 exact⟨_,he,post_trueS hf hb hv hfn hW (hargs W' ⟨hos,htp,hout,hsz,hk⟩) hk hos hout⟩
end Go.Lyc
