/-
  What functions of the program compute: walks, part 2. No conditions: definitions and laws.
-/
import Derived.Test.YtidpbebfkcnlfaaGreatDoorW1
import Derived.SizedLaws
set_option linter.all false
noncomputable section
namespace Go.Lyc
open Go Go.RowKit Go.ChangeShapes Go.WideShapes
theorem exists_list{α:Type}{Q:Nat→α→Prop}:∀n,(∀i,i<n→∃c,Q i c)→∃l:List α,l.length=n∧∀i (h:i<l.length),Q i l[i]
 |0,_=>⟨[],rfl,fun i h=>by simp at h⟩
 |n+1,h=>by
  obtain⟨l,h1,h2⟩:=exists_list (Q:=Q) n fun i hi=>h i (by omega)
  obtain⟨c,hc⟩:=h n (by omega)
  refine⟨l++[c],by simp[h1],fun i hi=>?_⟩
  by_cases hin:i<l.length
  ·rw[List.getElem_append_left hin];exact h2 i hin
  ·have:i=n:=by simp at hi;omega
   subst this
   rw[List.getElem_append_right (by omega)]
   simpa [h1] using hc
section
variable {H:Type}{enc:TypeId×Value→H}{P:Program}{w:World}{B:Nat}
abbrev RA[Tok](w:World)(B:Nat):=RL w (fun _=>none) (fun _=>False) B
abbrev RI(w:World)(B:Nat)(l:List AV)(us:List Value):Prop:=∀[Tok] [TokOk],RA w B l us
theorem weights_all{P:Program}{H:Type}{e:TypeId}{d:DataW H}:∀ {l:List (DataW H)},d∈l→∀m∈d.weights P e,m∈DataW.weightsAll P e l
 |x::l,h,m,hm=>by
  rw[DataW.weightsAll]
  rcases List.mem_cons.1 h with rfl|h
  ·exact List.mem_append.2 (.inl hm)
  ·exact List.mem_append.2 (.inr (weights_all h m hm))
theorem open_tl{α:Type}(f:α→List AV)(Q:α→Prop){t e:TypeId}{k fuel:Nat}{cs:List Value}{x:DataW H×List MemPlace}(ht:P.underlying t=some (.slice e))(hc:P.cellsOf e=k)(hk:0<k)(hby:0<P.bytesOf e)
  (ih:∀n,n+1=fuel→∀cs x,DataW.trod enc P w 0 (fun _=>true) true n e cs=some x→∃c:α,RI w B (f c) cs∧(f c).length=k∧(∀y∈f c,conf none y=true)∧((∀n∈x.1.weights P e,n≤reachBytes)→Q c))
  (h:DataW.trod enc P w 0 (fun _=>true) true fuel t cs=some x):∃o:Option (List α),RI w B [osl true (some k) (o.map fun l=>l.map fun c=>.ag (f c))] cs∧((∀n∈x.1.weights P t,n≤reachBytes)→(o.getD []).length<2^62∧∀c∈o.getD [],Q c):=by
 rcases DataW.trod_slice ht h with⟨rfl,_⟩|⟨a,len,cap,elems,rest,n,e0,rfl,hx0,_,hlc,hcm,hel,hget,_,_⟩
 ·exact⟨none,.cons .nilsl .nil,fun _=>⟨by simp,by simp⟩⟩
 subst hc
 have each:∀i,i<len→∃c:α,∃us,w.cells? 0 (a.add (i*P.cellsOf e)) (P.cellsOf e)=some us∧RI w B (f c) us∧(f c).length=P.cellsOf e∧(∀y∈f c,conf none y=true)∧((∀n∈x.1.weights P t,n≤reachBytes)→Q c):=fun i hi=>by
  have hg:=hget i hi
  rw[List.getElem?_eq_getElem (show i<elems.length by omega)] at hg
  simp only[Option.bind_eq_some_iff] at hg
  obtain⟨us,hu,htr⟩:=hg
  obtain⟨c,h1,h2,h3,h4⟩:=ih n e0.symm us _ htr
  refine⟨c,us,hu,h1,h2,h3,fun hw=>h4 fun m hm=>hw m ?_⟩
  rw[hx0]
  simp only[DataW.weights,ht,List.mem_cons,List.mem_append]
  exact .inr (.inl (weights_all (List.mem_map.2 ⟨_,List.getElem_mem (show i<elems.length by omega),rfl⟩) _ hm))
 obtain⟨l,hl,hq⟩:=exists_list len each
 refine⟨some l,.cons ?_ .nil,fun hw=>⟨?_,fun c hc=>?_⟩⟩
 case refine_2=>
  have:=hw ((elems.length+rest.length)*P.bytesOf e) (by rw[hx0];simp[DataW.weights,ht])
  have h1:elems.length*1≤(elems.length+rest.length)*P.bytesOf e:=Nat.mul_le_mul (Nat.le_add_right _ _) hby
  have:reachBytes<2^62:=by decide
  show l.length<2^62
  omega
 case refine_3=>
  obtain⟨i,hi,rfl⟩:=List.getElem_of_mem (show c∈l from hc)
  obtain⟨_,_,_,_,_,h5⟩:=hq i hi
  exact h5 hw
 show R w _ _ B (.tl true (some (P.cellsOf e)) (l.map fun c=>.ag (f c))) _
 obtain⟨blk,off,sp⟩:=a
 have hlen:(l.map fun c=>AV.ag (f c)).length=len:=by simpa using hl
 have hsp:l≠[]→sp=none∧blk<w.heap.size:=fun hne=>by
  obtain⟨us0,hu0,hr0,hc0,_,_⟩:=hq 0 (List.length_pos_iff.2 hne)
  obtain⟨hlu,hcell⟩:=cells?_get hu0
  have h00:=hcell 0 (by omega)
  rw[List.getElem?_eq_getElem (by omega)] at h00
  simp only[Nat.zero_mul] at h00
  exact spot_none h00
 have hne':(l.map fun c=>AV.ag (f c))≠[]→l≠[]:=fun h e=>h (by rw[e];rfl)
 have hge:∀i (hi:i<(l.map fun c=>AV.ag (f c)).length),(l.map fun c=>AV.ag (f c))[i]= .ag (f (l[i]'(by simpa using hi))):=fun i hi=>by simp
 rw[←hlen]
 refine .tl (fun i j=>(w.cell? ⟨blk,off+i*P.cellsOf e+j,none⟩).getD undef) (fun hne=>⟨fun h=>h,(hsp (hne' hne)).2,fun h=>by cases h⟩) (fun i hi=>?_) (fun i hi j hj=>?_) (fun i hi j hj=>?_) (by omega) (fun v hv x hx=>?_) (fun hne=>(hsp (hne' hne)).1)
 ·rw[hge i hi]
  obtain⟨us,_,_,h2,h3,_⟩:=hq i (by simpa using hi)
  show conf (some (P.cellsOf e)) (.ag _)=true
  simp[conf,h2]
 ·obtain⟨us,hu,hr,hcf,_,_⟩:=hq i (by simpa using hi)
  obtain⟨hl',hg⟩:=cells?_get hu
  obtain⟨rfl,_⟩:=hsp fun e=>by subst e;simp at hi
  have hj':j<P.cellsOf e:=by rw[hge i hi] at hj;rw[←hcf];exact hj
  have:=hg j hj'
  rw[add_mk,add_mk,List.getElem?_eq_getElem (by omega)] at this
  show w.cell? ⟨blk,off+i*P.cellsOf e+j,none⟩=_
  rw[this];rfl
 ·obtain⟨us,hu,hr,hcf,_,_⟩:=hq i (by simpa using hi)
  obtain⟨hl',hg⟩:=cells?_get hu
  obtain⟨rfl,_⟩:=hsp fun e=>by subst e;simp at hi
  have hj':j<P.cellsOf e:=by rw[hge i hi] at hj;rw[←hcf];exact hj
  have:=hg j hj'
  rw[add_mk,add_mk,List.getElem?_eq_getElem (by omega)] at this
  rw[this]
  have h1:=hr.2 j (by omega) (by omega)
  simp only[hge i hi]
  exact h1
 ·obtain⟨i,hi,rfl⟩:=List.getElem_of_mem hv
  obtain⟨us,_,_,_,h3,_⟩:=hq i (by simpa using hi)
  rw[hge i hi] at hx
  exact h3 x hx
structure FTy(P:Program)(tB tS tU tT tTs tF tFs:TypeId):Prop where
 b:P.underlying tB=some .bool
 s:P.underlying tS=some .string
 u:P.underlying tU=some (.int .u8)
 ts:P.underlying tTs=some (.slice tT)
 fs:P.underlying tFs=some (.slice tF)
 cb:P.cellsOf tB=1
 cs:P.cellsOf tS=1
 cu:P.cellsOf tU=1
 cts:P.cellsOf tTs=1
 cfs:P.cellsOf tFs=1
 ct:P.cellsOf tT=3
 cf:P.cellsOf tF=4
 bt:0<P.bytesOf tT
 bf:0<P.bytesOf tF
 t:∃a b c:Field,P.underlying tT=some (.struct #[a,b,c])∧(a.type=tB∧a.offset=0)∧(b.type=tS∧b.offset=1)∧(c.type=tTs∧c.offset=2)
 f:∃a b c d:Field,P.underlying tF=some (.struct #[a,b,c,d])∧(a.type=tU∧a.offset=0)∧(b.type=tS∧b.offset=1)∧(c.type=tTs∧c.offset=2)∧(d.type=tFs∧d.offset=3)
variable {tB tS tU tT tTs tF tFs:TypeId}
theorem RL.three[Tok][TokOk]{a b c:AV}{x y z:Value}(h1:RA w B [a] [x])(h2:RA w B [b] [y])(h3:RA w B [c] [z]):RA w B [a,b,c] [x,y,z]:=.cons (h1.2 0 (by simp) (by simp)) (.cons (h2.2 0 (by simp) (by simp)) h3)
theorem term_R(T:FTy P tB tS tU tT tTs tF tFs):∀(fuel:Nat) (cs:List Value) (x:DataW H×List MemPlace),DataW.trod enc P w 0 (fun _=>true) true fuel tT cs=some x→∃t:Tm,RI w B (t.cells true) cs∧(t.cells true).length=3∧(∀y∈t.cells true,conf none y=true)∧((∀n∈x.1.weights P tT,n≤reachBytes)→t.ok):=by
 intro fuel
 induction fuel using Nat.strongRecOn with
 |ind fuel ih=>
 intro cs x h
 obtain⟨a,b,c,hu,⟨a1,a2⟩,⟨b1,b2⟩,⟨c1,c2⟩⟩:=T.t
 obtain⟨xs,n,rfl,hx0,hl,hxl,hget⟩:=DataW.trod_struct hu h
 have hxl:xs.length=3:=hxl
 rw[T.ct] at hl
 obtain⟨v1,v2,v3,rfl⟩:∃v1 v2 v3,cs=[v1,v2,v3]:=by
  match cs,hl with
  |[v1,v2,v3],_=>exact⟨v1,v2,v3,rfl⟩
 have g0:=hget 0 a rfl
 have g1:=hget 1 b rfl
 have g2:=hget 2 c rfl
 rw[a1,a2,T.cb,List.getElem?_eq_getElem (by omega)] at g0
 rw[b1,b2,T.cs,List.getElem?_eq_getElem (by omega)] at g1
 rw[c1,c2,T.cts,List.getElem?_eq_getElem (by omega)] at g2
 obtain⟨bb,e1,_⟩:=DataW.trod_bool T.b g0
 obtain⟨ss,e2,e2x,_⟩:=DataW.trod_string T.s g1
 obtain⟨o,h3,hok⟩:=open_tl (w:=w) (B:=B) (fun t:Tm=>t.cells true) Tm.ok T.ts T.ct (by decide) T.bt (fun m hm cs x h=>ih m (by omega) cs x h) g2
 injection e1 with e1
 injection e2 with e2
 subst e1 e2
 refine⟨.mk bb (natsOf ss) o,?_,?_,fun y hy=>?_,fun hw=>?_⟩
 ·rw[Tm.cells_eq]
  refine RL.three (.cons (.b bb) .nil) (.cons ?_ .nil) h3
  have:=R.s (w:=w) (m:=fun _=>none) (O:=fun _=>False) (B:=B) (natsOf ss) (natsOf_lt ss)
  rwa[strOf_natsOf] at this
 ·rw[Tm.cells_eq];rfl
 ·rw[Tm.cells_eq] at hy
  simp only[List.mem_cons,List.not_mem_nil,or_false] at hy
  rcases hy with rfl|rfl|rfl
  ·rfl
  ·rfl
  ·cases o<;>rfl
 ·have mem:∀ {j:Nat} {t:TypeId} {d:DataW H},[tB,tS,tTs][j]? =some t→(xs.map (·.1))[j]? =some d→∀n∈d.weights P t,n≤reachBytes:=fun ht hd n hn=>hw n (by
   rw[hx0]
   simp only[DataW.weights,hu]
   exact DataW.weights_mem_each (by simpa [a1,b1,c1] using ht) hd n hn)
  have hnm:(natsOf ss).length<2^62:=by
   have:ss.data.toList.length≤reachBytes:=mem (j:=1) rfl (by rw[List.getElem?_map,List.getElem?_eq_getElem (show 1<xs.length by omega),e2x];rfl) _ (by simp[DataW.weights])
   have h2:reachBytes<2^62:=by decide
   have h3:(natsOf ss).length=ss.data.toList.length:=by simp[natsOf]
   omega
  obtain⟨k1,k2⟩:=hok (mem (j:=2) rfl (by rw[List.getElem?_map,List.getElem?_eq_getElem (show 2<xs.length by omega)];rfl))
  exact .mk hnm k1 k2
theorem form_R(T:FTy P tB tS tU tT tTs tF tFs):∀(fuel:Nat) (cs:List Value) (x:DataW H×List MemPlace),DataW.trod enc P w 0 (fun _=>true) true fuel tF cs=some x→∃f:Fm,RI w B (f.cells true) cs∧(f.cells true).length=4∧(∀y∈f.cells true,conf none y=true)∧((∀n∈x.1.weights P tF,n≤reachBytes)→f.ok):=by
 intro fuel
 induction fuel using Nat.strongRecOn with
 |ind fuel ih=>
 intro cs x h
 obtain⟨a,b,c,d,hu,⟨a1,a2⟩,⟨b1,b2⟩,⟨c1,c2⟩,⟨d1,d2⟩⟩:=T.f
 obtain⟨xs,n,rfl,hx0,hl,hxl,hget⟩:=DataW.trod_struct hu h
 have hxl:xs.length=4:=hxl
 rw[T.cf] at hl
 obtain⟨v1,v2,v3,v4,rfl⟩:∃v1 v2 v3 v4,cs=[v1,v2,v3,v4]:=by
  match cs,hl with
  |[v1,v2,v3,v4],_=>exact⟨v1,v2,v3,v4,rfl⟩
 have g0:=hget 0 a rfl
 have g1:=hget 1 b rfl
 have g2:=hget 2 c rfl
 have g3:=hget 3 d rfl
 rw[a1,a2,T.cu,List.getElem?_eq_getElem (by omega)] at g0
 rw[b1,b2,T.cs,List.getElem?_eq_getElem (by omega)] at g1
 rw[c1,c2,T.cts,List.getElem?_eq_getElem (by omega)] at g2
 rw[d1,d2,T.cfs,List.getElem?_eq_getElem (by omega)] at g3
 obtain⟨op,e1,_,hwf⟩:=DataW.trod_int T.u g0
 obtain⟨ss,e2,e2x,_⟩:=DataW.trod_string T.s g1
 obtain⟨o,h3,hok⟩:=open_tl (w:=w) (B:=B) (fun t:Tm=>t.cells true) Tm.ok T.ts T.ct (by decide) T.bt (fun m _ cs x h=>term_R T m cs x h) g2
 obtain⟨o2,h4,hok2⟩:=open_tl (w:=w) (B:=B) (fun f:Fm=>f.cells true) Fm.ok T.fs T.cf (by decide) T.bf (fun m hm cs x h=>ih m (by omega) cs x h) g3
 injection e1 with e1
 injection e2 with e2
 subst e1 e2
 obtain⟨h0,h255⟩:=bounds_u8 hwf
 obtain⟨k,rfl⟩:∃k:Nat,op=Int.ofNat k:=⟨op.toNat,(Int.toNat_of_nonneg h0).symm⟩
 refine⟨.mk k (natsOf ss) o o2,?_,?_,fun y hy=>?_,fun hw=>?_⟩
 ·rw[Fm.cells_eq]
  refine .cons (.i .u8 _) (RL.three (.cons ?_ .nil) h3 h4)
  have:=R.s (w:=w) (m:=fun _=>none) (O:=fun _=>False) (B:=B) (natsOf ss) (natsOf_lt ss)
  rwa[strOf_natsOf] at this
 ·rw[Fm.cells_eq];rfl
 ·rw[Fm.cells_eq] at hy
  simp only[List.mem_cons,List.not_mem_nil,or_false] at hy
  rcases hy with rfl|rfl|rfl|rfl
  ·rfl
  ·rfl
  ·cases o<;>rfl
  ·cases o2<;>rfl
 ·have mem:∀ {j:Nat} {t:TypeId} {d:DataW H},[tU,tS,tTs,tFs][j]? =some t→(xs.map (·.1))[j]? =some d→∀n∈d.weights P t,n≤reachBytes:=fun ht hd n hn=>hw n (by
   rw[hx0]
   simp only[DataW.weights,hu]
   exact DataW.weights_mem_each (by simpa [a1,b1,c1,d1] using ht) hd n hn)
  have hnm:(natsOf ss).length<2^62:=by
   have:ss.data.toList.length≤reachBytes:=mem (j:=1) rfl (by rw[List.getElem?_map,List.getElem?_eq_getElem (show 1<xs.length by omega),e2x];rfl) _ (by simp[DataW.weights])
   have h2:reachBytes<2^62:=by decide
   have h3:(natsOf ss).length=ss.data.toList.length:=by simp[natsOf]
   omega
  obtain⟨k1,k2⟩:=hok (mem (j:=2) rfl (by rw[List.getElem?_map,List.getElem?_eq_getElem (show 2<xs.length by omega)];rfl))
  obtain⟨k3,k4⟩:=hok2 (mem (j:=3) rfl (by rw[List.getElem?_map,List.getElem?_eq_getElem (show 3<xs.length by omega)];rfl))
  refine .mk ?_ hnm k1 k2 k3 k4
  have:(k:Int)≤255:=h255
  omega
end
end Go.Lyc
end
noncomputable section
namespace Go.Lyc
open Go Go.RowKit
section
variable [Tok][TokOk]
def elemF(f:AV→AV)(x:AV):AV:=match x with| .ag c=>.ag (c.map f)|x=>f x
def sb(n:Nat):AV→AV:=Nat.rec (motive:=fun _=>AV→AV) (fun v=>v) (fun _ ih v=>match v with
 | .y i=>Tok.th i
 | .yt o i=>Tok.tt o i
 | .ag l=>.ag (l.map ih)
 | .tl o sh xs=>.tl o sh (xs.map (elemF ih))
 |v=>v) n
theorem R.noneCell{w:World}{m:Nat→Option Nat}{O:Nat→Prop}{B:Nat}{v:AV}{u:Value}(h:R w m O B v u)(h1:u.oneCell'=true):conf none v=true:=by
 cases h with
 |ag=>cases h1
 |tu=>cases h1
 |_=>rfl
theorem elemF_cells{f:AV→AV}{sh:Option Nat}{x:AV}(hc:conf sh x=true)(hf:∀y∈x.cells,conf none y=true→conf none (f y)=true)(hl:∀y∈x.cells,conf none y=true):(elemF f x).cells=x.cells.map f∧conf sh (elemF f x)=true:=by
 cases x with
 |ag c=>
  refine⟨rfl,?_⟩
  cases sh with
  |none=>cases hc
  |some k=>simpa [conf,elemF] using hc
 |tu c=>cases sh<;>cases hc
 |_=>
  cases sh with
  |some k=>cases hc
  |none=>
   have h1:=hf _ List.mem_cons_self (hl _ List.mem_cons_self)
   exact⟨conf_none_cells h1,h1⟩
theorem sb_R{w:World}{O:Nat→Prop}{B:Nat}:∀(n:Nat) (v:AV) (u:Value),R w (fun _=>none) O B v u→R w (fun _=>none) O B (sb n v) u∧(conf none v=true→conf none (sb n v)=true)
 |0,v,u,h=>⟨h,fun h=>h⟩
 |n+1,v,u,h=>by
  have ih:=sb_R (w:=w) (O:=O) (B:=B) n
  cases h with
  |y hl=>
   rename_i i
   refine⟨?_,fun _=>?_⟩
   ·show R w _ O B (Tok.th i) u
    generalize Tok.th i=x at hl
    cases hl with
    |i k n=>exact .i k n
    |s l h=>exact .s l h
   ·show conf none (Tok.th i)=true
    generalize Tok.th i=x at hl
    cases hl<;>rfl
  |yt hu hl=>
   subst hu
   exact⟨hl,fun _=>hl.noneCell rfl⟩
  |ag hs hr hf=>
   rename_i l vs
   refine⟨.ag (by rw[hs,List.length_map]) (fun i h1 h2=>?_) (fun x hx=>?_),fun hc=>by cases hc⟩
   ·rw[List.getElem_map];exact(ih _ _ (hr i (by simpa using h1) h2)).1
   ·obtain⟨y,hy,rfl⟩:=List.mem_map.1 hx
    obtain⟨i,hi,rfl⟩:=List.getElem_of_mem hy
    exact(ih _ _ (hr i hi (by omega))).2 (hf _ hy)
  |tlz=>exact⟨.tlz,fun _=>rfl⟩
  |tl ys hO hs hc hr hl hf hsp=>
   rename_i o sh xs blk off cap' sp
   refine⟨?_,fun _=>rfl⟩
   show R w _ O B (.tl o sh (xs.map (elemF (sb n)))) _
   have hne:xs.map (elemF (sb n))≠[]→xs≠[]:=fun h e=>h (by rw[e];rfl)
   have hcl:∀i (h:i<xs.length),(elemF (sb n) xs[i]).cells=(xs[i]).cells.map (sb n)∧conf sh (elemF (sb n) xs[i])=true:=fun i hi=>
    elemF_cells (hs i hi) (fun y hy hcy=>by
     obtain⟨j,hj,rfl⟩:=List.getElem_of_mem hy
     exact(ih _ _ (hr i hi j hj)).2 hcy) (hf _ (List.getElem_mem hi))
   have hlm:(xs.map (elemF (sb n))).length=xs.length:=List.length_map ..
   rw[show xs.length=(xs.map (elemF (sb n))).length from hlm.symm]
   refine .tl ys (fun h=>hO (hne h)) (fun i hi=>?_) (fun i hi j hj=>?_) (fun i hi j hj=>?_) (by rw[hlm];exact hl) (fun v hv x hx=>?_) (fun h=>hsp (hne h))
   ·rw[List.getElem_map];exact(hcl i (by omega)).2
   ·rw[List.getElem_map,(hcl i (by omega)).1,List.length_map] at hj
    exact hc i (by omega) j hj
   ·have hi':i<xs.length:=by omega
    have e1:((xs.map (elemF (sb n)))[i]).cells=(xs[i]).cells.map (sb n):=by rw[List.getElem_map];exact(hcl i hi').1
    have hj':j<(xs[i]).cells.length:=by rw[e1,List.length_map] at hj;exact hj
    rw[List.getElem_of_eq e1 hj,List.getElem_map]
    exact(ih _ _ (hr i hi' j hj')).1
   ·obtain⟨y,hy,rfl⟩:=List.mem_map.1 hv
    obtain⟨i,hi,rfl⟩:=List.getElem_of_mem hy
    rw[(hcl i hi).1] at hx
    obtain⟨z,hz,rfl⟩:=List.mem_map.1 hx
    obtain⟨j,hj,rfl⟩:=List.getElem_of_mem hz
    exact(ih _ _ (hr i hi j hj)).2 (hf _ (List.getElem_mem hi) _ hz)
  |b x=>exact⟨.b x,fun h=>h⟩
  |i k n=>exact⟨.i k n,fun h=>h⟩
  |s l h=>exact⟨.s l h,fun h=>h⟩
  |pn=>exact⟨.pn,fun h=>h⟩
  |p h=>cases h
  |tp ys h1 h2 h3 h4 h5 h6=>exact⟨.tp ys h1 h2 h3 h4 h5 h6,fun h=>h⟩
  |nilsl=>exact⟨.nilsl,fun h=>h⟩
  |sl h=>cases h
  |mn=>exact⟨.mn,fun h=>h⟩
  |mp h=>cases h
  |ff h1 h2 h3 h4=>exact⟨.ff h1 h2 h3 h4,fun h=>h⟩
  |fy h=>cases h
  |nf=>exact⟨.nf,fun h=>h⟩
  |it h=>exact⟨.it h,fun h=>h⟩
  |ni=>exact⟨.ni,fun h=>h⟩
  |tu h1 h2=>exact⟨.tu h1 h2,fun h=>by cases h⟩
  |iu n h=>exact⟨.iu n h,fun h=>h⟩
  |um h1 h2=>exact⟨.um h1 h2,fun h=>h⟩
  |sx h=>exact⟨.sx h,fun h=>h⟩
theorem SpecEntry.sb{P:Program}{env:Env}{B0 g:Nat}{ar:List AV}{r:AV}(n:Nat)(h:SpecEntry P env B0 g (ar.map (Go.Lyc.sb n)) r):SpecEntry P env B0 g ar r:=
 ⟨h.1,fun k rd w us hB hG hR=>h.2 k rd w us hB hG ⟨by rw[List.length_map];exact hR.1,fun i h1 h2=>by rw[List.getElem_map];exact(sb_R n _ _ (hR.2 i (by simpa using h1) h2)).1⟩⟩
end
abbrev tokOf (F:Fm):Tok:=⟨fun i=>cond (Nat.beq i 0) (.i .u8 (Int.ofNat F.op)) (.s F.name),fun o i=>cond (Nat.beq i 0) (tmsA o F.oargs) (fmsA o F.osub)⟩
abbrev tokF:AV:=.ag [.y 0,.y 1,.yt true 0,.yt true 1]
section
variable [Tok]
def Seen(w:World)(o o':Bool)(O O':Nat→Prop)(B B':Nat):Prop:=∀blk,blk<w.heap.size→¬O blk→(o=false→B≤blk)→¬O' blk∧(o'=false→B'≤blk)
theorem flip_tl{α:Type}{w:World}{o o':Bool}{O O':Nat→Prop}{B B' k:Nat}(hS:Seen w o o' O O' B B')(f g:α→List AV)(l:List α)(hf:∀x∈l,(f x).length=k)(hg:∀x∈l,(g x).length=k)(hc:∀x∈l,∀y∈g x,conf none y=true)
  (ih:∀x∈l,∀i (h:i<(f x).length) (h':i<(g x).length) u,R w (fun _=>none) O B ((f x)[i]) u→R w (fun _=>none) O' B' ((g x)[i]) u) {u:Value} (h:R w (fun _=>none) O B (.tl o (some k) (l.map fun x=>.ag (f x))) u):R w (fun _=>none) O' B' (.tl o' (some k) (l.map fun x=>.ag (g x))) u:=by
 generalize hxs:l.map (fun x=>AV.ag (f x))=xs at h
 cases h with
 |tlz=>
  obtain rfl:=List.map_eq_nil_iff.1 hxs
  exact .tlz
 |tl ys hO hs hcell hr hl hff hsp=>
  rename_i blk off cap' sp
  have hlen:xs.length=(l.map fun x=>AV.ag (g x)).length:=by rw[←hxs,List.length_map,List.length_map]
  rw[hlen]
  have hne:(l.map fun x=>AV.ag (g x))≠[]→xs≠[]:=fun h e=>h (by rw[←hxs,List.map_eq_nil_iff] at e;rw[e];rfl)
  have hx:∀i (h:i<xs.length) (h':i<l.length),xs[i]= .ag (f l[i]):=fun i h h'=>by subst hxs;simp
  have hy:∀i (h:i<(l.map fun x=>AV.ag (g x)).length) (h':i<l.length),(l.map fun x=>AV.ag (g x))[i]= .ag (g l[i]):=fun i h h'=>by simp
  have hll:(l.map fun x=>AV.ag (g x)).length=l.length:=List.length_map ..
  refine .tl ys (fun h=>?_) (fun i hi=>?_) (fun i hi j hj=>?_) (fun i hi j hj=>?_) (by omega) (fun v hv x hx=>?_) (fun h=>hsp (hne h))
  ·obtain⟨h1,h2,h3⟩:=hO (hne h)
   obtain⟨h4,h5⟩:=hS blk h2 h1 h3
   exact⟨h4,h2,h5⟩
  ·rw[hy i hi (by omega)]
   show conf (some k) (.ag _)=true
   simp[conf,hg _ (List.getElem_mem (show i<l.length by omega))]
  ·have hi':i<l.length:=by omega
   have e1:((l.map fun x=>AV.ag (g x))[i]).cells=g l[i]:=by rw[hy i hi hi'];rfl
   have hj':j<(g l[i]).length:=by rw[e1] at hj;exact hj
   have e2:(xs[i]'(by omega)).cells=f l[i]:=by rw[hx i (by omega) hi'];rfl
   exact hcell i (by omega) j (by rw[e2,hf _ (List.getElem_mem hi'),← hg _ (List.getElem_mem hi')];exact hj')
  ·have hi':i<l.length:=by omega
   have e1:((l.map fun x=>AV.ag (g x))[i]).cells=g l[i]:=by rw[hy i hi hi'];rfl
   have hj':j<(g l[i]).length:=by rw[e1] at hj;exact hj
   have e2:(xs[i]'(by omega)).cells=f l[i]:=by rw[hx i (by omega) hi'];rfl
   have hj2:j<(f l[i]).length:=by rw[hf _ (List.getElem_mem hi'),← hg _ (List.getElem_mem hi')];exact hj'
   have:=hr i (by omega) j (by rw[e2];exact hj2)
   simp only[e2] at this
   simp only[e1]
   exact ih _ (List.getElem_mem hi') j hj2 hj' _ this
  ·obtain⟨y,hy,rfl⟩:=List.mem_map.1 hv
   exact hc y hy x hx
theorem tms_flip{w:World}{o o':Bool}{O O':Nat→Prop}{B B':Nat}(hS:Seen w o o' O O' B B'):∀(d:Nat) (a:Option (List Tm)),Tm.deps (a.getD [])<d→∀u,R w (fun _=>none) O B (tmsA o a) u→R w (fun _=>none) O' B' (tmsA o' a) u
 |0,a,h,_,_=>by omega
 |d+1,none,_,u,h=>by
  have h:R w (fun _=>none) O B .nilsl u:=h
  cases h;exact .nilsl
 |d+1,some l,hd,u,h=>by
  refine flip_tl (k:=3) hS (fun t:Tm=>t.cells o) (fun t:Tm=>t.cells o') l (fun t _=>by rw[Tm.cells_eq];rfl) (fun t _=>by rw[Tm.cells_eq];rfl) (fun t _ y hy=>?_) (fun t ht i h1 h2 u hu=>?_) h
  ·rw[Tm.cells_eq] at hy
   simp only[List.mem_cons,List.not_mem_nil,or_false] at hy
   rcases hy with rfl|rfl|rfl
   ·rfl
   ·rfl
   ·cases t.oargs<;>rfl
  ·have hdt:Tm.deps (t.oargs.getD [])<d:=by
    have h3:Tm.deps l<d+1:=hd
    have h4:=Tm.dep_mem ht
    have h5:t.dep=Tm.deps (t.oargs.getD [])+1:=Tm.dep_eq t
    omega
   simp only[Tm.cells_eq] at hu h1 h2 ⊢
   match i,h1 with
   |0,_=>cases hu;exact .b _
   |1,_=>cases hu;exact .s _ (by assumption)
   |2,_=>exact tms_flip hS d t.oargs hdt u hu
theorem fms_flip{w:World}{o o':Bool}{O O':Nat→Prop}{B B':Nat}(hS:Seen w o o' O O' B B'):∀(d:Nat) (a:Option (List Fm)),Fm.deps (a.getD [])<d→∀u,R w (fun _=>none) O B (fmsA o a) u→R w (fun _=>none) O' B' (fmsA o' a) u
 |0,a,h,_,_=>by omega
 |d+1,none,_,u,h=>by
  have h:R w (fun _=>none) O B .nilsl u:=h
  cases h;exact .nilsl
 |d+1,some l,hd,u,h=>by
  refine flip_tl (k:=4) hS (fun t:Fm=>t.cells o) (fun t:Fm=>t.cells o') l (fun t _=>by rw[Fm.cells_eq];rfl) (fun t _=>by rw[Fm.cells_eq];rfl) (fun t _ y hy=>?_) (fun t ht i h1 h2 u hu=>?_) h
  ·rw[Fm.cells_eq] at hy
   simp only[List.mem_cons,List.not_mem_nil,or_false] at hy
   rcases hy with rfl|rfl|rfl|rfl
   ·rfl
   ·rfl
   ·cases t.oargs<;>rfl
   ·cases t.osub<;>rfl
  ·have hdt:Fm.deps (t.osub.getD [])<d:=by
    have h3:Fm.deps l<d+1:=hd
    have h4:=Fm.dep_mem ht
    have h5:t.dep=max (Tm.deps (t.oargs.getD [])) (Fm.deps (t.osub.getD []))+1:=Fm.dep_eq t
    omega
   simp only[Fm.cells_eq] at hu h1 h2 ⊢
   match i,h1 with
   |0,_=>cases hu;exact .i _ _
   |1,_=>cases hu;exact .s _ (by assumption)
   |2,_=>exact tms_flip hS _ t.oargs (Nat.lt_succ_self _) u hu
   |3,_=>exact fms_flip hS d t.osub hdt u hu
end
theorem tokOf_ok(F:Fm): @TokOk (tokOf F):=by
 letI:Tok:=tokOf F
 refine⟨fun {w O B B' i old u} h=>?_,fun {w O B i u} h=>?_⟩
 ·have hS:Seen w old true O (fun _=>False) B B':=fun blk _ _ _=>⟨fun h=>h,fun h=>by cases h⟩
  by_cases hi:i=0
  ·subst hi;exact tms_flip hS _ F.oargs (Nat.lt_succ_self _) u h
  ·have e:∀o,Tok.tt o i=fmsA o F.osub:=fun o=>by
    show cond (Nat.beq i 0) (tmsA o F.oargs) (fmsA o F.osub)=_
    cases i with
    |zero=>exact absurd rfl hi
    |succ i=>rfl
   rw[e] at h ⊢
   exact fms_flip hS _ F.osub (Nat.lt_succ_self _) u h
 ·have hS:Seen w false false O (fun b=>b<B) B B:=fun blk _ _ h=>⟨fun h2=>by have:=h rfl;omega,h⟩
  by_cases hi:i=0
  ·subst hi;exact tms_flip hS _ F.oargs (Nat.lt_succ_self _) u h
  ·have e:∀o,Tok.tt o i=fmsA o F.osub:=fun o=>by
    show cond (Nat.beq i 0) (tmsA o F.oargs) (fmsA o F.osub)=_
    cases i with
    |zero=>exact absurd rfl hi
    |succ i=>rfl
   rw[e] at h ⊢
   exact fms_flip hS _ F.osub (Nat.lt_succ_self _) u h
end Go.Lyc
end
