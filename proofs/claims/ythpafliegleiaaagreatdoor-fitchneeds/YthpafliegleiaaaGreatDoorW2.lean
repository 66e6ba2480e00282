/-
  What functions of the program compute: walks, part 2. No conditions: definitions and laws.
-/
import Derived.Test.YthpafliegleiaaaGreatDoorW1
import GoSem.Dispatch
import Derived.Handed
set_option linter.all false
noncomputable section
namespace Go.Lyc
set_option maxHeartbeats 0
section
variable [Tok][TokOk]
open Go.RowKit Go.Lyc.T
attribute [local irreducible] GoM GoW GoV GoD GoesCall
theorem Sl.new{τ:St}{v:AV}{xs:List AV}(h:Sl τ none v xs)(hne:xs≠[]):newOf τ v=some xs:=by
 cases h with
 |nil=>exact absurd rfl hne
 |sl o cap xs rest h hc hk=>exact(Sl.sl o cap xs rest h hc hk).read
section
variable {σ τ:St}{q at_:Nat}{cV:AV}{Mu:Nat→Prop}{L:List PL}{fr:List (List Nat)}{fi:List Nat}{b:Base}{K:Nat→List AV→AV→Prop}
theorem fltn_len{fr:List (List Nat)}:fr.flatten.length=(fr.map List.length).sum:=List.length_flatten
theorem flat_take{fr:List (List Nat)}{j:Nat}(h:j<fr.length):(fr.take (j+1)).flatten=(fr.take j).flatten++fr[j]:=by rw[List.take_succ_eq_append_getElem h,List.flatten_append];simp
theorem Made_rnd(hM:HMd b K){code:List Nat}(hv:∀τ,Vw τ none cV (code.map uB))(hl:code.length<2^62)(hb:∀x∈code,x<256)(hat:at_≤30)(h:MI σ q cV at_ Mu L fr fi τ)(hR:Rd L fr fi)(hne:L≠[])(hB:L.length+fr.length≤36){z:Nat→AV}{Q:PostF}(hQ:∀F τ',sat (fSx q) F→Out σ q cV (nxa code (nxa code at_)) (L.length+fr.length+2) τ'→Q .normal F τ'):
  GoW (b.envK K) none [] c5.ntmps (pth pRd madeB) (upds (fSx q) z) τ Q:=by
 have hI:=hR.inv
 have hsum:=hI.sum
 have hfn:=hI.ne
 have H:Has τ []:=Has.nil
 refine W.sq (W.rg ?_)
 refine wo ?_
 refine W.cl trivial rfl rfl rfl (h.next hM.nx hv hl hb hat) fun r τ1 ⟨ev,h1,n1,k1⟩=>⟨_,ev,?_⟩
 have hn:=nxt_lt hb at_
 generalize nxt code at_=n at hn ⊢
 have H:Has τ1 []:=Has.nil
 refine wo ?_
 refine W.nil (W.sq (W.rg ?_))
 refine wo ?_
 refine W.nil (W.sq (W.sq (W.rg ?_)))
 obtain⟨lV,fV,gV,lv,fs,hm,hlS,hll,hli,hf,hfl,hfi,hg,hcap,hmu,hs⟩:=h1.ms.ex
 have H:Has τ1 [(q+4,[pt (q+3)]),(q+3,[lV,fV,gV])]:=(Has.nil.cons hm (by simp)).cons h1.m (by simp)
 have hfv:=hf.vw
 have lq:=St.get_lt h1.a
 refine wo ?_
 refine W.nil ?_
 refine GoF.each fs.length (fun j F τ'=>(∃can,F 7=can∧Is' τ' can (fr.take j).flatten∧∀o,can.at? =some o→τ1.next≤o)∧Mr τ1 τ'∧sat ((48,fV)::(6,nI n)::fSx q) F) (by omega) ⟨⟨.nilsl,rfl,.nil,fun o h=>by cases h⟩,⟨Nat.le_refl _,fun _ _ h=>h⟩,rfl,rfl,rfl,rfl,rfl,rfl,trivial⟩ rfl rfl (fun j F τ' hj hI2 hi hmm=>?_) (fun F τ' hI2 hi=>?_)
 ·obtain⟨⟨can,g7,hcan,hco⟩,M,g48,g6,g5,g4,g3,g1,_⟩:=hI2
  refine GoF.norm ((50,nI j)::(49,nI fs.length)::(48,fV)::(7,can)::(6,nI n)::fSx q) ⟨hi,hmm,g48,g7,g6,g5,g4,g3,g1,trivial⟩ fun F=>?_
  have H:Has τ' []:=Has.nil
  have hfv:=(hf.keep (τ:=τ') fun i o _=>M.2 i o).vw
  have hsj:=(hfi j hj (by omega)).keep (τ:=τ') fun i o _=>M.2 i o
  have hjne:fr[j]'(by omega)≠[]:=hI.nef hne _ (List.getElem_mem _)
  have hlj:(fr.take j).flatten.length+(fr[j]'(by omega)).length≤L.length:=by
   have h1:=congrArg List.length (flat_take (show j<fr.length by omega))
   rw[List.length_append] at h1
   have h2:((fr.take (j+1)).map List.length).sum≤(fr.map List.length).sum:=by
    conv=>rhs;rw[←List.take_append_drop (j+1) fr,List.map_append,List.sum_append]
    omega
   rw[←fltn_len] at h2
   omega
  refine GoF.block ?_
  refine wz ?_
  generalize fs[j]'hj=sj at hsj ⊢
  have hsn:=hsj.new (by simpa using hjne)
  obtain⟨y,ys,hy⟩:∃y ys,(fr[j]'(by omega)).map nI=y::ys:=by
   cases hx:(fr[j]'(by omega)).map nI with
   |nil=>exact absurd (by simpa using hx) hjne
   |cons y ys=>exact⟨y,ys,rfl⟩
  rw[hy] at hsn
  refine W.ap (w:=sj) y ys hcan hsn (fun z hz=>by rw[←hy] at hz;obtain⟨k,_,rfl⟩:=List.mem_map.1 hz;rfl) (by
   rw[←hy,List.length_map,List.length_map]
   show(3*(_+_)+2000)*8≤_;omega) rfl rfl rfl rfl fun can' τ3 hc3 ha3 _ n3 k3=>?_
  have H:Has τ3 []:=Has.nil
  refine wz ?_
  have hM1:=M.1
  refine⟨rfl,rfl,⟨can',rfl,?_,fun o ho=>by rw[ha3] at ho;have:=Option.some.inj ho;omega⟩,⟨by omega,fun i o h=>k3 _ _ (fun e=>by have:=hco _ e;have:=St.get_lt h;omega) (M.2 _ _ h)⟩,rfl,rfl,rfl,rfl,rfl,rfl,trivial⟩
  unfold Is'
  rw[flat_take (show j<fr.length by omega),List.map_append,hy]
  exact hc3
 ·obtain⟨⟨can,g7,hcan,hco⟩,M,g48,g6,g5,g4,g3,g1,_⟩:=hI2
  rw[hfl,List.take_length] at hcan
  refine GoF.norm ((7,can)::(6,nI n)::fSx q) ⟨g7,g6,g5,g4,g3,g1,trivial⟩ fun F=>?_
  refine(Made_mid hM hv hl hb (nxa_le hat) (h1.mr M) hR hne hB hn hcan (fun o ho=>?_) (fun e he=>?_) ?_ ?_ hQ)
  ·have h1':=hco o ho
   exact⟨by omega,fun hm'=>by have:=h1.ms.lt _ hm';omega⟩
  ·obtain⟨k,h1,h2⟩:=List.mem_flatten.1 he
   exact⟨k,h1,h2⟩
  ·rw[fltn_len]
   have:=sum_le (List.getElem_mem (show 0<fr.length by omega))
   have h0:=hI.nef hne _ (List.getElem_mem (show 0<fr.length by omega))
   have:=List.length_pos_iff.2 h0
   omega
  ·rw[fltn_len];omega
def Bd(code:List Nat)(at_ n:Nat):Prop:=n≤4+at_∨n≤5+at_∧(code.length≤at_∨30≤at_)
theorem Made_end(hM:HMd b K)(h:MI σ q cV at_ Mu L fr fi τ)(hR:Rd L fr fi)(hne:L≠[])(hB:L.length+fr.length≤36){z:Nat→AV}{Q:PostF}(hQ:∀F τ' L fr fi lV fV gV Mu,MI σ q cV at_ Mu L fr fi τ'→Rd L fr fi→L≠[]→L.length≤35→fr.length=1→τ'.get (q+3)=some (.cells [lV,fV,gV])→F 2=lV→Q .ret F τ'):
  GoW (b.envK K) none [] c5.ntmps (pth [1,1,1,1,1,1] madeB) (upds (fSx q) z) τ Q:=by
 refine W.sq ?_
 refine GoF.block (GoF.loop (fun k F τ'=>(∃Mu L fr fi,MI σ q cV at_ Mu L fr fi τ'∧Rd L fr fi∧L≠[]∧L.length+fr.length≤36∧fr.length=k)∧sat (fSx q) F) (fun k F τ' hI2=>?_) fr.length ⟨⟨_,_,_,_,h,hR,hne,hB,rfl⟩,rfl,rfl,rfl,rfl,trivial⟩)
 obtain⟨⟨Mu,L,fr,fi,h,hR,hne,hB,hk⟩,g5,g4,g3,g1,_⟩:=hI2
 refine GoF.norm (fSx q) ⟨g5,g4,g3,g1,trivial⟩ fun F=>?_
 obtain⟨lV,fV,gV,lv,fs,hm,hlS,hll,hli,hf,hfl,hfi,hg,hcap,hmu,hs⟩:=h.ms.ex
 have H:Has τ' [(q+4,[pt (q+3)]),(q+3,[lV,fV,gV])]:=(Has.nil.cons hm (by simp)).cons h.m (by simp)
 have hfv:=hf.vw
 have hfn:=hR.inv.ne
 refine W.sq (W.sq (W.rg ?_))
 refine wo ?_
 by_cases h2:2≤fr.length
 ·refine wk ?_
  refine W.cl trivial rfl rfl rfl (Made_shut hM h hR hne (by omega) h2) fun r τ6 ⟨ev,Mu',L',fr',fi',a1,a2,a3,a4,a5⟩=>⟨_,ev,?_⟩
  refine wk ?_
  exact⟨fr'.length,by omega,⟨_,_,_,_,a1,a2,a3,by omega,rfl⟩,rfl,rfl,rfl,rfl,trivial⟩
 ·refine wk ?_
  refine GoF.exit ?_
  show GoW _ _ _ _ _ _ _ _
  refine wk ?_
  exact GoF.ret (hQ _ _ _ _ _ _ _ _ _ h hR hne (by omega) (by omega) hm rfl)
theorem Made_go(hM:HMd b K)(hh:Here (b.envK K) n_Made c5){code:List Nat}(hv:∀τ,Vw τ none cV (code.map uB))(hc1:cV.cells=[cV]∧cV.val=true)(hl:code.length<2^62)(hb:∀x∈code,x<256):
  GoesCall (b.envK K) 0 (.f (.func n_Made) [] []) [cV] σ (fun r τ=>∃(L:List PL) (fr:List (List Nat)) (fi:List Nat) (v:AV) (lv:List AV) (Mu:Nat→Prop),r= .ok v∧Rd L fr fi∧fr.length=1∧L≠[]∧L.length≤35∧Sl τ (some 9) v lv∧lv.length=L.length∧(∀i (h:i<lv.length) (h':i<L.length),LI (fun i=>¬Mu i) τ L[i] lv[i])∧(∀o l c,v= .sl o 0 l (some 9) c→c=none)∧(∀o,v.at? =some o→Mu o)∧(∀o,Mu o→σ.next≤o)∧Mr σ τ):=by
 refine W.code hh.e hh.p hh.f rfl rfl rfl rfl fun z=>?_
 have H:Has σ []:=Has.nil
 generalize hq:σ.next=q
 have fin:∀(F:Nat→AV) (τ':St) at_ Mu (L:List PL) fr fi,MI σ q cV at_ Mu L fr fi τ'→Rd L fr fi→L≠[]→L.length+fr.length≤36→GoW (b.envK K) none [] c5.ntmps (pth [1,1,1,1,1,1] madeB) (upds (fSx q) F) τ' (fun x f' σ'=>x= .ret∧∃(L:List PL) (fr:List (List Nat)) (fi:List Nat) (v:AV) (lv:List AV) (Mu:Nat→Prop),Ret.ok (f' 2)= .ok v∧Rd L fr fi∧fr.length=1∧L≠[]∧L.length≤35∧Sl σ' (some 9) v lv∧lv.length=L.length∧(∀i (h:i<lv.length) (h':i<L.length),LI (fun i=>¬Mu i) σ' L[i] lv[i])∧(∀o l c,v= .sl o 0 l (some 9) c→c=none)∧(∀o,v.at? =some o→Mu o)∧(∀o,Mu o→q≤o)∧Mr σ σ'):=fun F τ' at_ Mu L fr fi h hR hne hB=>Made_end hM h hR hne hB fun F9 τ9 L fr fi lV fV gV Mu h hR hne hL h1 hm e2=>by
  obtain⟨lV',fV',gV',lv,fs,hm',hlS,hll,hli,hf,hfl,hfi,hg,hcap,hmu,hs⟩:=h.ms.ex
  rw[hm] at hm'
  cases hm'
  have lq:=St.get_lt h.a
  exact⟨rfl,L,fr,fi,lV,lv,Mu,by rw[e2],hR,h1,hne,hL,hlS,hll,hli,hcap.2,fun o ho=>(hs.l o ho).1,fun o ho=>(h.mu o ho).1,by omega,fun i o hi=>h.old i o (by have:=St.get_lt hi;omega) hi⟩
 refine W.sq (W.rg ?_)
 refine W.bx (c:=[cV]) H hq rfl rfl rfl hc1.2 hc1.1 fun τ1 n1 H k1=>?_
 refine wz ?_
 refine W.bs (c:=[.nilsl]) H n1 rfl rfl rfl fun τ2 n2 H k2=>?_
 refine W.bs (c:=[nI 0]) (k:=q+2) H (by omega) rfl rfl rfl fun τ3 n3 H k3=>?_
 refine W.bd (c:=[.nilsl,.sl (q+1) 0 1 none (some 1),.sl (q+2) 0 1 none (some 1)]) rfl rfl rfl ?_
 refine W.bx (c:=[.nilsl,.sl (q+1) 0 1 none (some 1),.sl (q+2) 0 1 none (some 1)]) (k:=q+3) H (by omega) rfl rfl rfl rfl rfl fun τ4 n4 H k4=>?_
 refine W.vr (c:=[pt (q+3)]) (k:=q+4) H (by omega) rfl rfl rfl rfl rfl rfl fun τ5 n5 H k5=>?_
 refine wz ?_
 refine W.vr (c:=[nI 0]) (k:=q+5) H (by omega) rfl rfl rfl rfl rfl rfl fun τ6 n6 H k6=>?_
 have kk:∀i o,σ.get i=some o→τ6.get i=some o:=fun i o h=>k6 _ _ (k5 _ _ (k4 _ _ (k3 _ _ (k2 _ _ (k1 _ _ h)))))
 have g1:=H.get (q+1,[.nilsl]) (by simp)
 have g2:=H.get (q+2,[nI 0]) (by simp)
 have hS0:MS τ6 (q+3) (fun i=>i=q+1∨i=q+2∨i=q+3) [] [[]] [0]:=by
  refine⟨fun i hi=>by omega,.nilsl,.sl (q+1) 0 1 none (some 1),.sl (q+2) 0 1 none (some 1),[],[.nilsl],H.get _ (.tail _ (.tail _ (.head _))),.nil,rfl,fun i h=>by simp at h,.sl (q+1) (some 1) [.nilsl] [] g1 (fun y hy=>by rw[List.mem_singleton.1 hy];rfl) (.inr rfl),rfl,fun i h h'=>?_,.one g2,⟨(fun h=>by simp at h),fun o l c h=>by cases h⟩,.inr (.inr rfl),⟨(fun o h=>by cases h),fun o h=>?_,fun o h=>?_,fun i h o ho=>?_,fun i j h h' hij=>?_⟩⟩
  ·cases i with
   |zero=>exact .nil
   |succ i=>simp at h
  ·cases h;exact⟨.inl rfl,by omega,fun e=>by have:=Option.some.inj e;omega⟩
  ·cases h;exact⟨.inr (.inl rfl),by omega⟩
  ·cases i with
   |zero=>cases ho
   |succ i=>simp at h
  ·simp at h h';omega
 have h0:MI σ q cV 0 (fun i=>i=q+1∨i=q+2∨i=q+3) [] [[]] [0] τ6:=⟨hS0,fun i hi=>by omega,H.get (q,[cV]) (by simp),H.get _ (.tail _ (.head _)),H.get _ (.head _),fun i o _ h=>kk i o h⟩
 refine wz ?_
 refine W.cl trivial rfl rfl rfl (h0.next hM.nx hv hl hb (by omega)) fun r τ7 ⟨ev,h7,n7,k7⟩=>⟨_,ev,?_⟩
 have H:Has τ7 []:=Has.nil
 refine W.bin rfl rfl rfl rfl (bin_rem (c:=3) (by decide)) ?_
 have hr3:nxt code 0%3<3:=Nat.mod_lt _ (by decide)
 generalize nxt code 0%3=r3 at hr3 ⊢
 refine W.bin rfl rfl rfl rfl (bin_add (a:=1) (b:=r3) (by omega)) ?_
 refine wz ?_
 refine GoF.norm ((26,nI 0)::(25,nI (1+r3))::fSx q) ⟨rfl,rfl,rfl,rfl,rfl,rfl,trivial⟩ fun F=>?_
 refine GoF.each (1+r3) (fun j F τ'=>(∃at_ Mu L f0,MI σ q cV at_ Mu L [f0] [0] τ'∧Rd L [f0] [0]∧(∀x∈L,x.hyp=true∧x.dp=0)∧L.length=j∧at_≤30)∧sat (fSx q) F) (by omega) ⟨⟨_,_,_,_,h7,.nil,fun x hx=>by simp at hx,rfl,nxa_le (by omega)⟩,rfl,rfl,rfl,rfl,trivial⟩ rfl rfl (fun j F τ' hj hI2 hi hmm=>?_) (fun F τ' hI2 hi=>?_)
 ·obtain⟨⟨at_,Mu,L,f0,h,hR,hH,hlen,hat⟩,g5,g4,g3,g1,_⟩:=hI2
  refine GoF.norm ((26,nI j)::(25,nI (1+r3))::fSx q) ⟨hi,hmm,g5,g4,g3,g1,trivial⟩ fun F=>?_
  have H:Has τ' [(q+4,[pt (q+3)])]:=Has.nil.cons h.m (by simp)
  have HB:=H.b
  refine GoF.block ?_
  refine W.dwB [(q+4,[pt (q+3)])] [3,5] 6 rfl rfl ?_
  refine wq ?_
  refine W.cl (hM.q.one rfl) rfl rfl rfl (h.next hM.nx hv hl hb hat) fun r τ2 ⟨ev,h2,n2,k2⟩=>⟨_,ev,?_⟩
  have hn:=nxt_lt hb at_
  generalize nxt code at_=n at hn ⊢
  refine W.nowB (HasB.nil.cons h2.m) rfl ?_
  refine W.cl (hM.q.one rfl) rfl rfl rfl (pool_go hM.po hM.jo hM.at_ n (by omega)) fun r τ8 ⟨wp,ev,hp,M8⟩=>⟨_,ev,?_⟩
  have hw1:wp.cells=[wp]∧wp.val=true:=by
   cases hp with
   |mk _ w xs h1 h2 h3=>exact⟨h2.one.1,h2.one.2.1⟩
  have h8:=h2.mr M8
  have hp8:FI (fun i=>¬Mu i) τ8 (poolP n) (.ag (cf (poolP n) wp)):=hp.keep (fun i c hi hc=>⟨fun hm=>by have:=h2.ms.lt _ hm;omega,hc⟩) _ (Nat.le_refl _)
  have hpl:=pool_le n
  have hI:=hR.inv
  have hsum:f0.length≤L.length:=by simpa using hI.sum
  refine W.bd (c:=[nI 0,nI 0,.b true,.i .u8 (Int.ofNat (poolP n).op),.s (poolP n).nm,.nilsl,wp,.s [],.nilsl]) rfl rfl (layStep rfl rfl rfl (layStep rfl rfl rfl rfl)) ?_
  refine W.nowB (HasB.nil.cons h8.m) rfl ?_
  refine W.cl (hM.q.one rfl) rfl rfl rfl (add_go2 hM.ad h8.ms (by simp) ⟨by omega,by simp,fun l hl=>by rw[List.mem_singleton.1 hl];omega⟩ (x:=⟨0,0,true,poolP n,[],[]⟩) (.mk wp .nilsl hp8 .nil) (by show(poolP n).dep≤400;omega)) fun r τ9 ⟨ev,Mu9,h9,s9⟩=>⟨_,ev,?_⟩
  refine wq ?_
  exact⟨rfl,rfl,⟨_,_,_,_,h8.stp h9 s9,.step hR (.prem f0 n hH),fun x hx=>by
   rcases List.mem_append.1 hx with hx|hx
   ·exact hH x hx
   ·rw[List.mem_singleton.1 hx];exact⟨rfl,rfl⟩,by simp[hlen],nxa_le hat⟩,rfl,rfl,rfl,rfl,trivial⟩
 ·obtain⟨⟨at_,Mu,L,f0,h,hR,hH,hlen,hat⟩,g5,g4,g3,g1,_⟩:=hI2
  refine GoF.norm (fSx q) ⟨g5,g4,g3,g1,trivial⟩ fun F=>?_
  refine W.sq ?_
  refine GoF.block (GoF.loop (fun k F τ'=>(∃at_ Mu L fr fi,MI σ q cV at_ Mu L fr fi τ'∧Rd L fr fi∧L≠[]∧at_≤30∧Bd code at_ (L.length+fr.length)∧30-at_≤k)∧sat (fSx q) F) (fun k F τ' hI2=>?_) (30-at_) ⟨⟨_,_,_,_,_,h,hR,fun e=>by subst e;simp at hlen;omega,hat,.inl (by simp;omega),Nat.le_refl _⟩,rfl,rfl,rfl,rfl,trivial⟩)
  obtain⟨⟨at_,Mu,L,fr,fi,h,hR,hne,hat,hB,hk⟩,g5,g4,g3,g1,_⟩:=hI2
  refine GoF.norm (fSx q) ⟨g5,g4,g3,g1,trivial⟩ fun F=>?_
  have H:Has τ' [(q+5,[nI at_]),(q,[cV])]:=(Has.nil.cons h.c (by simp)).cons h.a (by simp)
  have hvv:=hv τ'
  have hlm:(code.map uB).length=code.length:=List.length_map _
  refine W.sq (W.sq (W.rg ?_))
  refine wo ?_
  rw[hlm]
  by_cases c1:at_<code.length
  ·by_cases c2:at_<30
   ·refine wo ?_
    refine W.nil (W.ct1 rfl (W.sk ?_))
    refine GoF.block ?_
    refine GoF.norm (fSx q) ⟨rfl,rfl,rfl,rfl,trivial⟩ fun F=>?_
    have hB':L.length+fr.length≤4+at_:=by rcases hB with h|h<;>omega
    refine Made_rnd hM hv hl hb hat h hR hne (by omega) fun F τ9 hF ⟨Mu',L',fr',fi',h',hR',hne',hB9⟩=>?_
    have e1:nxa code at_=at_+1:=by unfold nxa;rw[if_pos ⟨c1,c2⟩]
    rw[e1] at h'
    refine⟨k-1,by omega,⟨_,_,_,_,_,h',hR',hne',nxa_le (by omega),?_,?_⟩,hF⟩
    ·unfold nxa
     by_cases c3:at_+1<code.length∧at_+1<30
     ·rw[if_pos c3];exact .inl (by omega)
     ·rw[if_neg c3];exact .inr (by omega)
    ·unfold nxa
     split<;>omega
   ·refine wo ?_
    refine W.nil (W.ct0 rfl ?_)
    refine GoF.exit ?_
    show GoW _ _ _ _ (pth [1,1,1,1,1,1] madeB) _ _ _
    exact GoF.norm (fSx q) ⟨rfl,rfl,rfl,rfl,trivial⟩ fun F=>fin F τ' _ _ _ _ _ h hR hne (by rcases hB with h|h<;>omega)
  ·refine wo ?_
   refine W.nil (W.ct0 rfl ?_)
   refine GoF.exit ?_
   show GoW _ _ _ _ (pth [1,1,1,1,1,1] madeB) _ _ _
   exact GoF.norm (fSx q) ⟨rfl,rfl,rfl,rfl,trivial⟩ fun F=>fin F τ' _ _ _ _ _ h hR hne (by rcases hB with h|h<;>omega)
end
section
variable {b:Base}{K:Nat→List AV→AV→Prop}
theorem SameInts_go(hh:Here (b.envK K) n_SameInts c8){σ:St}{v w:AV}{l:List Nat}(h1:Nv σ v l)(h2:Nv σ w l)(hl:l.length<2^62):
  GoesCall (b.envK K) 0 (.f (.func n_SameInts) [] []) [v,w] σ (fun r τ=>r= .ok (.b true)∧τ=σ):=by
 refine W.code hh.e hh.p hh.f rfl rfl rfl rfl fun z=>?_
 have H:Has σ []:=Has.nil
 refine wk ?_
 refine GoF.block (GoF.loop (fun k F τ=>τ=σ∧∃j,j+k=l.length∧sat [(5,nI j),(0,v),(1,w)] F) (fun k F τ hI=>?_) l.length ⟨rfl,0,by omega,rfl,rfl,rfl,trivial⟩)
 obtain⟨rfl,j,hj,hs⟩:=hI
 refine GoF.norm _ hs fun F=>?_
 clear hs
 by_cases hjl:j<l.length
 ·refine wk ?_
  exact⟨k-1,by omega,rfl,j+1,by omega,rfl,rfl,rfl,trivial⟩
 ·refine wk ?_
  refine GoF.exit ?_
  show GoW _ _ _ _ _ _ _ _
  refine wk ?_
  exact GoF.ret ⟨rfl,rfl,rfl⟩
abbrev pre(L:List PL)(m:Nat):List Ln:=(L.take m).map PL.ln
theorem lines_snap{W:Nat→Prop}{τ:St}{v:AV}{lv:List AV}{L:List PL}(hs:Sl τ (some 9) v lv)(hne:L≠[])(hl:lv.length=L.length)(hli:∀i (h:i<lv.length) (h':i<L.length),LI W τ L[i] lv[i])(hd:∀x∈L,x.f.dep≤200):snapshot τ (b.fz+1000) v=some (lnsA (L.map PL.ln)):=by
 have hm:mapO (snapshot τ (b.fz+999)) lv=some ((L.map PL.ln).map Ln.A):=mapO_idx (by rw[List.length_map,List.length_map,hl]) fun i h1 h2=>by
  rw[List.getElem_map,List.getElem_map]
  exact(hli i h1 (by omega)).snap (by have:=hd _ (List.getElem_mem (show i<L.length by omega));omega)
 rw[hs.snapG (fun e=>absurd (List.length_eq_zero_iff.1 (by rw[←hl,e];rfl)) hne) hm]
 cases L with
 |nil=>exact absurd rfl hne
 |cons x l=>rfl
end
end
section
variable [Tok][TokOk]
open Go.RowKit Go.Lyc.T
theorem stF_app{A C:List Ln}:∀ {i:Nat},i≤A.length→stF (A++C) i=stF A i
 |0,_=>rfl
 |i+1,h=>by
  rw[stF_succ (show i<A.length by omega),stF_succ (L:=A++C) (by rw[List.length_append];omega),stF_app (by omega),List.getElem_append_left (by omega)]
structure RdB(L:List PL)(fr:List (List Nat))(fi:List Nat):Prop where
 st:stF (L.map PL.ln) L.length=fi.tail
 mem:∀d (h:d<fr.length),∀c∈fr[d],stF (L.map PL.ln) c=fi.tail.take d
 fst:∀k first,1≤k→fi[k]? =some first→stF (L.map PL.ln) first=fi.tail.take k
 hyp:∀x∈L,x.hyp=true→x.op=0→x.dp=0
theorem st_new{L:List PL}{x:PL}:stF ((L++[x]).map PL.ln) (L++[x]).length=stkF (stF (L.map PL.ln) L.length) L.length x.ln:=by
 rw[List.map_append,List.length_append,show L.length+[x].length=L.length+1 from rfl,stF_succ (by simp),stF_app (by simp)]
 simp
theorem Rs.b{L:List PL}{fr fr':List (List Nat)}{fi fi':List Nat}{x:PL}(hI:RdI L fr fi)(hB:RdB L fr fi)(h:Rs L fr fi x fr' fi'):RdB (L++[x]) fr' fi':=by
 have hI':=h.inv hI
 have hlen:=hI.len
 have hold:∀c,c≤L.length→stF ((L++[x]).map PL.ln) c=stF (L.map PL.ln) c:=fun c hc=>by rw[List.map_append,stF_app (by simpa using hc)]
 have hst:stF ((L++[x]).map PL.ln) (L.length+1)=fi.tail.take (x.dp-x.op)++List.replicate x.op (L.length+1):=by
  have:=st_new (L:=L) (x:=x)
  rw[List.length_append,show L.length+[x].length=L.length+1 from rfl] at this
  rw[this,hB.st];rfl
 have hlL:(L++[x]).length=L.length+1:=by simp
 have hall:(x.hyp=true→x.op=0→x.dp=0)→∀y∈L++[x],y.hyp=true→y.op=0→y.dp=0:=fun h1 y hy=>by
  rcases List.mem_append.1 hy with h|h
  ·exact hB.hyp y h
  ·rw[List.mem_singleton.1 h];exact h1
 have hcle:∀f∈fr,∀c∈f,c≤L.length:=fun f hf c hc=>(hI.mem f hf c hc).2
 have hfle:∀k first,1≤k→fi[k]? =some first→first≤L.length:=fun k first h1 h2=>by
  obtain⟨a1,n,a2⟩:=hI.fst k first h1 h2
  have:=(List.getElem?_eq_some_iff.1 a2).1
  omega
 cases h with
 |prem f n hp=>
  have e:stF ((L++[Go.Lyc.prem n]).map PL.ln) (L.length+1)=[]:=by rw[hst];rfl
  refine⟨by rw[hlL,e];rfl,fun d hd c hc=>?_,fun k first h1 h2=>?_,hall fun _ _=>rfl⟩
  ·have hd0:d=0:=by simpa using hd
   subst hd0
   simp only[List.getElem_cons_zero] at hc
   rcases List.mem_append.1 hc with hc|hc
   ·rw[hold c (hcle f (by simp) c hc)]
    exact hB.mem 0 (by simp) c hc
   ·rw[List.mem_singleton.1 hc,e];rfl
  ·rw[List.getElem?_eq_none (by simp;omega)] at h2;cases h2
 |opn _ _ n hne h5=>
  have hne':fi≠[]:=fun e=>by rw[e] at hlen;have:=hI.ne;simp at hlen;omega
  have ht:(fi++[L.length+1]).tail=fi.tail++[L.length+1]:=List.tail_append_of_ne_nil hne'
  have hn:=hI.ne
  have e:stF ((L++[(⟨fr.length,1,true,poolP n,[],[]⟩:PL)]).map PL.ln) (L.length+1)=fi.tail++[L.length+1]:=by
   rw[hst]
   show fi.tail.take (fr.length-1)++[L.length+1]=_
   rw[List.take_of_length_le (by rw[List.length_tail];omega)]
  have htl:fi.tail.length=fr.length-1:=by rw[List.length_tail,hlen]
  refine⟨by rw[hlL,e,ht],fun d hd c hc=>?_,fun k first h1 h2=>?_,hall fun _ h=>by cases h⟩
  ·rw[ht]
   by_cases hd2:d<fr.length
   ·rw[List.getElem_append_left hd2] at hc
    rw[hold c (hcle _ (List.getElem_mem hd2) c hc),hB.mem d hd2 c hc,List.take_append_of_le_length (by omega)]
   ·have e2:d=fr.length:=by simp at hd;omega
    subst e2
    rw[List.getElem_concat_length rfl] at hc
    rw[List.mem_singleton.1 hc,e,List.take_of_length_le (by simp;omega)]
  ·rw[ht]
   by_cases hk:k<fi.length
   ·rw[List.getElem?_append_left hk] at h2
    rw[hold first (hfle k first h1 h2),hB.fst k first h1 h2,List.take_append_of_le_length (by omega)]
   ·rw[List.getElem?_append_right (by omega)] at h2
    have e0:k-fi.length=0:=by
     rcases Nat.eq_zero_or_pos (k-fi.length) with h|h
     ·exact h
     ·rw[List.getElem?_eq_none (by simp;omega)] at h2;cases h2
    rw[e0] at h2
    cases h2
    rw[e,List.take_of_length_le (by simp;omega)]
 |cite F f _ hne hc=>
  simp only[List.length_append,List.length_cons,List.length_nil] at hlen
  have htl:fi.tail.length=F.length:=by rw[List.length_tail];omega
  rename_i g rl l
  have e:stF ((L++[(⟨F.length,0,false,g,rl,l.map fun n=>(n,n)⟩:PL)]).map PL.ln) (L.length+1)=fi.tail:=by
   rw[hst]
   show fi.tail.take (F.length-0)++[]=_
   rw[List.append_nil,List.take_of_length_le (by omega)]
  refine⟨by rw[hlL,e],fun d hd c hc=>?_,fun k first h1 h2=>by rw[hold first (hfle k first h1 h2)];exact hB.fst k first h1 h2,hall fun h=>by cases h⟩
  by_cases hd2:d<F.length
  ·rw[List.getElem_append_left hd2] at hc
   have:=hB.mem d (by simp;omega) c (by rw[List.getElem_append_left hd2];exact hc)
   rw[hold c (hcle _ (List.mem_append_left _ (List.getElem_mem hd2)) c hc),this]
  ·have e2:d=F.length:=by simp at hd;omega
   subst e2
   rw[List.getElem_concat_length rfl] at hc
   rcases List.mem_append.1 hc with hc|hc
   ·have:=hB.mem F.length (by simp) c (by rw[List.getElem_concat_length rfl];exact hc)
    rw[hold c (hcle _ (by simp) c hc),this]
   ·rw[List.mem_singleton.1 hc,e,List.take_of_length_le (by omega)]
 |shut F e0 f _ first hx hy=>
  simp only[List.length_append,List.length_cons,List.length_nil] at hlen
  rename_i x' y'
  have hfl:fi'.length=F.length+1:=by omega
  have hne':fi'≠[]:=fun e=>by rw[e] at hfl;simp at hfl
  have ht:(fi'++[first]).tail=fi'.tail++[first]:=List.tail_append_of_ne_nil hne'
  have htl:fi'.tail.length=F.length:=by rw[List.length_tail];omega
  have e:stF ((L++[({shutL x'.f y'.f first L.length with dp:=F.length}:PL)]).map PL.ln) (L.length+1)=fi'.tail:=by
   rw[hst,ht]
   have hop:({shutL x'.f y'.f first L.length with dp:=F.length}:PL).op=0∧({shutL x'.f y'.f first L.length with dp:=F.length}:PL).dp=F.length:=by
    rw[shutL_eq];cases decide (y'.f= .ff)<;>exact⟨rfl,rfl⟩
   rw[hop.1,hop.2]
   show(fi'.tail++[first]).take (F.length-0)++[]=_
   rw[List.append_nil,Nat.sub_zero,List.take_append_of_le_length (by omega),List.take_of_length_le (by omega)]
  have htk:∀d,d≤F.length→(fi'++[first]).tail.take d=fi'.tail.take d:=fun d hd=>by rw[ht,List.take_append_of_le_length (by omega)]
  refine⟨by rw[hlL,e],fun d hd c hc=>?_,fun k first' h1 h2=>?_,hall fun h=>by
   rw[shutL_eq] at h;cases hd:decide (y'.f= .ff)<;>rw[hd] at h<;>cases h⟩
  ·by_cases hd2:d<F.length
   ·rw[List.getElem_append_left hd2] at hc
    have:=hB.mem d (by simp;omega) c (by rw[List.getElem_append_left hd2];exact hc)
    rw[hold c (hcle _ (List.mem_append_left _ (List.getElem_mem hd2)) c hc),this,htk d (by omega)]
   ·have e2:d=F.length:=by simp at hd;omega
    subst e2
    rw[List.getElem_concat_length rfl] at hc
    rcases List.mem_append.1 hc with hc|hc
    ·have:=hB.mem F.length (by simp) c (by simp;exact hc)
     rw[hold c (hcle _ (by simp) c hc),this,htk _ (Nat.le_refl _)]
    ·rw[List.mem_singleton.1 hc,e,List.take_of_length_le (by omega)]
  ·have hk:=(List.getElem?_eq_some_iff.1 h2).1
   have h3:(fi'++[first])[k]? =some first':=by rw[List.getElem?_append_left hk];exact h2
   rw[hold first' (hfle k first' h1 h3),hB.fst k first' h1 h3,htk k (by omega)]
theorem Rd.b{L:List PL}{fr:List (List Nat)}{fi:List Nat}(h:Rd L fr fi):RdB L fr fi:=by
 induction h with
 |nil=>
  refine⟨rfl,fun d hd c hc=>?_,fun k first h1 h2=>?_,fun x hx=>by simp at hx⟩
  ·have e:d=0:=by simpa using hd
   subst e;simp at hc
  ·rw[List.getElem?_eq_none (by simp;omega)] at h2;cases h2
 |step hR h ih=>exact h.b hR.inv ih
theorem Rd.atm{L:List PL}{fr:List (List Nat)}{fi:List Nat}(h:Rd L fr fi):∀i (hi:i<L.length),∃fr1 fi1 fr2 fi2,Rd (L.take i) fr1 fi1∧Rs (L.take i) fr1 fi1 L[i] fr2 fi2:=by
 induction h with
 |nil=>intro i hi;simp at hi
 | @step L fr fi x fr' fi' hR h ih=>
  intro i hi
  by_cases h1:i<L.length
  ·obtain⟨a,c,d,e,h2,h3⟩:=ih i h1
   rw[List.take_append_of_le_length (by omega),List.getElem_append_left h1]
   exact⟨a,c,d,e,h2,h3⟩
  ·have e:i=L.length:=by rw[List.length_append] at hi;simp only[List.length_cons,List.length_nil] at hi;omega
   subst e
   rw[List.take_left,List.getElem_concat_length rfl]
   exact⟨_,_,_,_,hR,h⟩
theorem Cit.ne{L:List PL}{C:Nat→Prop}{g:PF}{rl l:List Nat}(h:Cit L C g rl l):rl≠[]∧(∀c∈l,C c)∧l.length≤2:=by
 cases h with
 |and h1 h2=>exact⟨by simp[andI],by simp;exact⟨h1,h2⟩,by simp⟩
 |or n h1=>exact⟨by simp[orI1],by simp;exact h1,by simp⟩
 |andE q h1=>exact⟨by simp[Go.Lyc.andE],by simp;exact h1,by simp⟩
 |imp h1 h2=>exact⟨by simp[impE],by simp;exact⟨h1,h2⟩,by simp⟩
 |not h1 h2=>exact⟨by simp[notE],by simp;exact⟨h1,h2⟩,by simp⟩
 |again h1=>exact⟨by simp[againR],by simp;exact h1,by simp⟩
 |fal n h1=>exact⟨by simp[falE],by simp;exact h1,by simp⟩
theorem prv_eq{L:List PL}{C:List Ln}(hne:L≠[]){y:PL}(hy:L[L.length-1]? =some y):prvL (L.map PL.ln++C) (L.length+1)=(y.hyp,y.dp):=by
 have hp:=List.length_pos_iff.2 hne
 unfold prvL
 rw[if_pos (by omega),show L.length+1-2=L.length-1 by omega,List.getElem?_append_left (by simp;omega),List.getElem?_map,hy];rfl
theorem Rs.shape{L:List PL}{fr fr':List (List Nat)}{fi fi':List Nat}{x:PL}(hI:RdI L fr fi)(h:Rs L fr fi x fr' fi')(C:List Ln):shX x.ln (prvL (L.map PL.ln++C) (L.length+1)) (L.length+1)=true∧x.dp≤4∧x.op≤x.dp∧x.dp-x.op≤fr.length-1∧x.cs.length≤2∧∀ac∈x.cs,1≤ac.1∧ac.1≤ac.2∧ac.2<L.length+1:=by
 have hle:=hI.le
 have hlast:L≠[]→∃y:PL,L[L.length-1]? =some y∧y.dp=fr.length-1:=fun hne=>by
  have hp:=List.length_pos_iff.2 hne
  exact⟨L[L.length-1]'(by omega),List.getElem?_eq_getElem _,(hI.last hne).2 _ (List.getElem?_eq_getElem _)⟩
 cases h with
 |prem f n hp=>
  refine⟨?_,by show 0≤4;omega,Nat.le_refl _,Nat.zero_le _,Nat.zero_le _,fun ac h=>by cases h⟩
  by_cases hne:L=[]
  ·subst hne;rfl
  ·obtain⟨y,hy,_⟩:=hlast hne
   have hpy:=hp y (List.mem_of_getElem? hy)
   rw[prv_eq hne hy,hpy.1,hpy.2];rfl
 |opn _ _ n hne h5=>
  obtain⟨y,hy,hd⟩:=hlast hne
  have h0:=hI.ne
  refine⟨?_,by show fr.length≤4;omega,by show 1≤fr.length;omega,Nat.le_refl _,Nat.zero_le _,fun ac h=>by cases h⟩
  rw[prv_eq hne hy,hd]
  show(decide (fr.length≤40∧1≤fr.length)&&(decide (fr.length-1≤fr.length-1)&&true))=true
  rw[decide_eq_true (by omega),decide_eq_true (by omega)];rfl
 |cite F f _ hne hc=>
  rename_i g rl l
  obtain⟨y,hy,hd⟩:=hlast hne
  obtain⟨c1,c2,c3⟩:=hc.ne
  simp only[List.length_append,List.length_cons,List.length_nil] at hle hd
  have hcs:∀ac∈l.map (fun n=>(n,n)),1≤ac.1∧ac.1≤ac.2∧ac.2<L.length+1:=fun ac hac=>by
   obtain⟨c,hc',rfl⟩:=List.mem_map.1 hac
   obtain⟨k,h1,h2⟩:=c2 c hc'
   have:=hI.mem k h1 c h2
   exact⟨this.1,Nat.le_refl _,by show c<_;omega⟩
  refine⟨?_,by show F.length≤4;omega,Nat.zero_le _,by show F.length-0≤_;simp,by show(l.map _).length≤2;rw[List.length_map];exact c3,hcs⟩
  rw[prv_eq hne hy,hd]
  show(decide (F.length≤40∧0≤F.length)&&(decide (F.length-0≤F.length+(0+1)-1)&&((l.map fun n=>(n,n)).all (citB (L.length+1))&& !rl.isEmpty)))=true
  rw[decide_eq_true (by omega),decide_eq_true (by omega),(List.all_eq_true.2 fun ac hac=>decide_eq_true (hcs ac hac):(l.map fun n=>(n,n)).all (citB (L.length+1))=true)]
  cases rl with
  |nil=>exact absurd rfl c1
  |cons _ _=>rfl
 |shut F e f _ first hx hy=>
  rename_i x' y'
  have hne:L≠[]:=fun e=>by subst e;simp at hx
  have hp:=List.length_pos_iff.2 hne
  have hd:=(hI.last hne).2 _ hy
  have hlen:=hI.len
  simp only[List.length_append,List.length_cons,List.length_nil] at hle hd hlen
  obtain⟨f1,n,f2⟩:=hI.fst fi'.length first (by omega) (by simp)
  have hxl:=(List.getElem?_eq_some_iff.1 hx).1
  have hcs:1≤first∧first≤L.length∧L.length<L.length+1:=⟨f1,by omega,by omega⟩
  rw[prv_eq hne hy,hd,shutL_eq]
  have hfin:∀(g:PF) (rl:List Nat),rl≠[]→shX (PL.ln ⟨F.length,0,false,g,rl,[(first,L.length)]⟩) (y'.hyp,F.length+2-1) (L.length+1)=true:=fun g rl hrl=>by
   show(decide (F.length≤40∧0≤F.length)&&(decide (F.length-0≤F.length+2-1)&&((decide (1≤first∧first≤L.length∧L.length<L.length+1)&&true)&& !rl.isEmpty)))=true
   rw[decide_eq_true (by omega),decide_eq_true (by omega),decide_eq_true hcs]
   cases rl with
   |nil=>exact absurd rfl hrl
   |cons _ _=>rfl
  have hlf:(F++[e,f]).length-1=F.length+1:=by simp
  have hac:∀ac∈[(first,L.length)],1≤ac.1∧ac.1≤ac.2∧ac.2<L.length+1:=fun ac h=>by rw[List.mem_singleton.1 h];exact hcs
  rw[hlf]
  cases decide (y'.f= .ff)
  ·exact⟨hfin _ _ (by simp[impN]),by show F.length≤4;omega,Nat.zero_le _,by show F.length-0≤_;omega,by show 1≤2;omega,hac⟩
  ·exact⟨hfin _ _ (by simp[notN]),by show F.length≤4;omega,Nat.zero_le _,by show F.length-0≤_;omega,by show 1≤2;omega,hac⟩
theorem Rd.line{L:List PL}{fr:List (List Nat)}{fi:List Nat}(h:Rd L fr fi){k:Nat}{x:PL}(h1:1≤k)(hx:L[k-1]? =some x):∃fr1 fi1 fr2 fi2,Rd (L.take (k-1)) fr1 fi1∧Rs (L.take (k-1)) fr1 fi1 x fr2 fi2∧Rd (L.take (k-1)++[x]) fr2 fi2∧(L.take (k-1)).length=k-1∧L=L.take (k-1)++[x]++L.drop k:=by
 obtain⟨h2,h3⟩:=List.getElem?_eq_some_iff.1 hx
 obtain⟨a,c,d,e,g1,g2⟩:=h.atm (k-1) h2
 rw[h3] at g2
 refine⟨a,c,d,e,g1,g2,.step g1 g2,by rw[List.length_take];omega,?_⟩
 conv=>lhs;rw[←List.take_append_drop k L]
 congr 1
 have:k=k-1+1:=by omega
 rw[this,List.take_succ_eq_append_getElem h2,h3,Nat.add_sub_cancel]
theorem Rd.shape{L:List PL}{fr:List (List Nat)}{fi:List Nat}(h:Rd L fr fi){k:Nat}{x:PL}(h1:1≤k)(hx:L[k-1]? =some x):shB (L.map PL.ln) k=true∧x.dp≤4∧x.op≤x.dp∧x.dp-x.op≤(stF (L.map PL.ln) (k-1)).length∧x.cs.length≤2∧∀ac∈x.cs,1≤ac.1∧ac.1≤ac.2∧ac.2<k:=by
 obtain⟨fr1,fi1,fr2,fi2,g1,g2,g3,hl,hL⟩:=h.line h1 hx
 have hk:(L.take (k-1)).length+1=k:=by omega
 have hI:=g1.inv
 obtain⟨s1,s2,s3,s4,s5,s6⟩:=g2.shape hI ([x.ln]++(L.drop k).map PL.ln)
 rw[hk] at s1 s6
 have hm:L.map PL.ln=(L.take (k-1)).map PL.ln++([x.ln]++(L.drop k).map PL.ln):=by
  conv=>lhs;rw[hL]
  simp only[List.map_append,List.map_cons,List.map_nil,List.append_assoc]
 refine⟨?_,s2,s3,?_,s5,s6⟩
 ·unfold shB
  rw[List.getElem?_map,hx,hm]
  exact s1
 ·rw[hm,stF_app (by rw[List.length_map];omega)]
  have:=g1.b.st
  rw[hl] at this
  rw[this,List.length_tail,hI.len]
  exact s4
theorem Rd.shp{L:List PL}{fr:List (List Nat)}{fi:List Nat}(h:Rd L fr fi)(hL:L.length≤40):Shp (L.map PL.ln) where
 lt:=by rw[List.length_map];omega
 num x hx:=by
  obtain⟨y,hy,rfl⟩:=List.mem_map.1 hx
  obtain⟨i,hi,rfl⟩:=List.getElem_of_mem hy
  obtain⟨_,a,c,_⟩:=h.shape (k:=i+1) (by omega) (List.getElem?_eq_getElem hi)
  exact⟨by show(L[i]).dp<_;omega,c⟩
 go i hi:=by
  rw[List.length_map] at hi
  obtain⟨_,_,_,a,_⟩:=h.shape (k:=i+1) (by omega) (List.getElem?_eq_getElem hi)
  rw[List.getElem_map]
  exact a
theorem box_get{T:List Ln}{j:Nat}(h1:1≤j)(h2:j≤T.length):(boxL T).getD (j-1) []=stF T j:=by
 unfold boxL
 rw[List.getD_eq_getElem?_getD,List.getElem?_map,List.getElem?_range (by omega)]
 show stF T (j-1+1)=_
 rw[show j-1+1=j by omega]
theorem Rd.dm{L:List PL}{fr:List (List Nat)}{fi:List Nat}(h:Rd L fr fi)(hL:L.length≤40):Dm (L.map PL.ln) (boxL (L.map PL.ln)) where
 len:=by unfold boxL;rw[List.length_map,List.length_range]
 lt:=by rw[List.length_map];omega
 dp x hx:=by have:=(h.shp hL).num x hx;omega
 blt x hx:=by
  obtain⟨i,hi,rfl⟩:=List.mem_map.1 hx
  rw[List.mem_range] at hi
  rw[(h.shp hL).len i hi,List.getElem?_eq_getElem hi]
  show(L.map PL.ln)[i].dp<_
  have:=(h.shp hL).num _ (List.getElem_mem hi)
  omega
def PF.low(a:PF):Prop:=a.dep≤38∧a.sz≤380
theorem dpL_at{L:List PL}{k:Nat}{x:PL}(hx:L[k-1]? =some x):dpL (L.map PL.ln) k=x.dp:=by
 unfold dpL
 rw[List.getD_eq_getElem?_getD,List.getElem?_map,List.getElem?_map,hx];rfl
theorem Rd.low{L:List PL}{fr:List (List Nat)}{fi:List Nat}(h:Rd L fr fi)(hL:L.length≤36){x:PL}(hx:x∈L):x.f.low:=by
 have:=h.inv.dep x hx
 have:=h.inv.sz x hx
 exact⟨by omega,by omega⟩
theorem Rd.nds{L:List PL}{i:Nat}:(∀n∈(ndsL (L.map PL.ln) (L.map PL.ln).length).getD i [],1≤n∧n≤L.length)∧((ndsL (L.map PL.ln) (L.map PL.ln).length).getD i []).length≤L.length+1:=by
 rw[List.getD_eq_getElem?_getD]
 cases h:(ndsL (L.map PL.ln) (L.map PL.ln).length)[i]? with
 |none=>exact⟨fun n hn=>by simp at hn,by simp⟩
 |some l=>
  have hm:=List.mem_of_getElem? h
  have h1:=ndsL_mem hm
  rw[List.length_map] at h1
  exact⟨fun n hn=>⟨ndsL_ge l hm n hn,h1.2 n hn⟩,h1.1⟩
theorem vis_ok{L L1:List PL}{C:List Ln}{fr1:List (List Nat)}{fi1:List Nat}{k c:Nat}(hT:L.map PL.ln=L1.map PL.ln++C)(hk:L1.length+1=k)(hkl:k≤L.length)(hB:RdB L1 fr1 fi1)(hI:RdI L1 fr1 fi1)(hc:∃f∈fr1,c∈f)(hst:stF (L.map PL.ln) k=fi1.tail):visB (boxL (L.map PL.ln)) k c c=true:=by
 obtain⟨f,hf,hcf⟩:=hc
 have hci:=hI.mem f hf c hcf
 obtain⟨d,hd,rfl⟩:=List.getElem_of_mem hf
 have h1:(boxL (L.map PL.ln)).getD (c-1) []=fi1.tail.take d:=by
  rw[box_get hci.1 (by rw[List.length_map];omega),hT,stF_app (by rw[List.length_map];exact hci.2)]
  exact hB.mem d hd c hcf
 have h2:(boxL (L.map PL.ln)).getD (k-1) []=fi1.tail:=by rw[box_get (by omega) (by rw[List.length_map];omega),hst]
 unfold visB
 rw[h1,h2,decide_eq_true rfl,decide_eq_true (by rw[List.length_take];omega),decide_eq_true]
 ·rfl
 ·rw[List.length_take,List.take_eq_take_min]
theorem nds_pre{T:List Ln}{i m:Nat}(hi:i<m):∀ {n:Nat},(ndsL T (m+n))[i]? =(ndsL T m)[i]?
 |0=>rfl
 |n+1=>by
  rw[show m+(n+1)=(m+n)+1 by omega,ndsL,List.getElem?_append_left (by rw[ndsL_len];omega)]
  exact nds_pre hi
theorem Rd.cok{L:List PL}{fr:List (List Nat)}{fi:List Nat}(h:Rd L fr fi){k:Nat}{x:Ln}(h1:1≤k)(hx:(L.map PL.ln)[k-1]? =some x):Cok k x.cs:=by
 rw[List.getElem?_map] at hx
 cases hy:L[k-1]? with
 |none=>rw[hy] at hx;cases hx
 |some y=>
  rw[hy] at hx
  cases hx
  obtain⟨_,_,_,_,a,c⟩:=h.shape h1 hy
  exact⟨by show y.cs.length<_;omega,c⟩
theorem snap_slM{α:Type}{σ:St}{n:Nat}{sh:Option Nat}{f:α→AV}{l:List α}(h:∀x∈l,snapshot σ n (f x)=some (f x)):snapshot σ (n+1) (slA true sh (l.map f))=some (slA true sh (l.map f)):=by
 cases l with
 |nil=>rfl
 |cons x l=>
  have hm:mapO (snapshot σ n) ((x::l).map f)=some ((x::l).map f):=mapO_idx rfl fun i h1 h2=>by
   rw[List.getElem_map]
   exact h _ (List.getElem_mem _)
  show snapshot σ (n+1) (.tl true sh ((x::l).map f))=some (.tl true sh ((x::l).map f))
  rw[snapshot_succ]
  simp only[hm]
theorem snap_fc{σ:St}{n:Nat}{F:Fm}(h:2*F.dep+2≤n):mapO (snapshot σ n) (fc F)=some (fc F):=by
 have h1:=Fm.snap σ true _ F (n+1) (Nat.le_refl _) (by omega)
 rw[fA] at h1
 obtain⟨zs,a1,a2⟩:=snap_agI h1
 cases a2
 exact a1
theorem snap_ln{σ:St}{n:Nat}{x:Ln}(h:2*x.f.dep+12≤n):snapshot σ n x.A=some x.A:=by
 obtain⟨n,rfl⟩:∃m,n=m+5:=⟨n-5,by omega⟩
 have h1:mapO (snapshot σ (n+4)) (fc x.f)=some (fc x.f):=snap_fc (by omega)
 have h2:snapshot σ (n+4) (csA true x.cs)=some (csA true x.cs):=snap_slM fun c _=>rfl
 refine snap_ag (l:=[nI x.dp,nI x.op,.b x.hyp]++(fc x.f++[.s x.rule,csA true x.cs])) ?_
 refine mapO_app (l:=[nI x.dp,nI x.op,.b x.hyp]) (r:=[nI x.dp,nI x.op,.b x.hyp]) rfl (mapO_app h1 ?_)
 rw[mapO_cons,mapO_cons,h2];rfl
theorem snap_lns{σ:St}{n:Nat}{T:List Ln}(hne:T≠[])(h:∀x∈T,2*x.f.dep+13≤n):snapshot σ n (lnsA T)=some (lnsA T):=by
 cases n with
 |zero=>
  cases T with
  |nil=>exact absurd rfl hne
  |cons x l=>have:=h x (by simp);omega
 |succ n=>
  have:=snap_slM (σ:=σ) (n:=n) (sh:=some 9) (f:=Ln.A) (l:=T) fun x hx=>snap_ln (by have:=h x hx;omega)
  cases T with
  |nil=>exact absurd rfl hne
  |cons x l=>exact this
end
section
variable [Tok][TokOk]
open Go.RowKit Go.Lyc.T
attribute [local irreducible] GoM GoW GoV GoD GoesCall
abbrev jB(L:Nat):List AV:=[.b false,nI L,nI 40]
abbrev But(j:Nat)(σ τ:St):Prop:=σ.next≤τ.next∧∀i o,i≠j→σ.get i=some o→τ.get i=some o
section
variable {b:Base}{K:Nat→List AV→AV→Prop}
theorem jnodeP(hh:Here (b.envK K) n_jnode c140){j d L:Nat}(hd:d≤40)(hL:L<2^20){σ:St}(hj:σ.get j=some (.cells (jB (L+1)))):
  GoesCall (b.envK K) 0 (.f (.func n_jnode) [] []) [pt j,nI d] σ (fun r τ=>r= .ok (.b true)∧τ.get j=some (.cells (jB L))∧But j σ τ):=by
 refine W.code hh.e hh.p hh.f rfl rfl rfl rfl fun z=>?_
 have H:Has σ [(j,jB (L+1))]:=Has.nil.cons hj (by simp)
 refine wk ?_
 refine W.st (c':=jB L) H 0 rfl rfl rfl rfl rfl rfl fun τ n1 H k1=>?_
 refine wk ?_
 exact GoF.ret ⟨rfl,rfl,H.get _ (.head _),by omega,k1⟩
theorem jtermsP(hh:Here (b.envK K) n_jterms c143){j d:Nat}{σ:St}:
  GoesCall (b.envK K) 0 (.f (.func n_jterms) [] []) [pt j,.nilsl,nI d] σ (fun r τ=>r= .ok (.b true)∧τ=σ):=by
 refine W.code hh.e hh.p hh.f rfl rfl rfl rfl fun z=>?_
 have H:Has σ []:=Has.nil
 refine wk ?_
 refine GoF.each 0 (fun j F τ=>τ=σ) (by decide) rfl rfl rfl (fun j F τ hj=>by omega) fun F τ hI _=>?_
 subst hI
 refine GoF.norm [] trivial fun F=>?_
 refine wk ?_
 exact GoF.ret ⟨rfl,rfl,rfl⟩
theorem PF.row(a:PF):takeSh (some 5) (rowsL.drop (a.op*5))=some (.ag [.b true,.b true,uB (rowN a.op),nI (rowA a.op),nI a.subs.length]):=by
 cases a with
 |bin k a c=>
  obtain⟨k,hk⟩:=k
  have:k=0∨k=1∨k=2:=by omega
  rcases this with rfl|rfl|rfl<;>rfl
 |_=>rfl
structure HRt(b:Base)(K:Nat→List AV→AV→Prop):Prop where
 fn:∀g ar r r',K g ar r→K g ar r'→r=r'
 node:Here (b.envK K) n_jnode c140
 terms:Here (b.envK K) n_jterms c143
 form:Here (b.envK K) n_jform c111
 en:b.ext n_named=0∧b.pure n_named=true
 nam:∀a:PF,K n_named [uB (rowN a.op),.s a.nm] (.b true)
 rows:b.glob n_rows=some (.ag rowsL)
theorem jformP(h:HRt b K){j:Nat}:∀(n:Nat) (a:PF),a.dep≤n→∀d L,d+a.dep≤41→a.sz≤L→L<2^20→∀σ:St,σ.get j=some (.cells (jB L))→
  GoesCall (b.envK K) 0 (.f (.func n_jform) [] []) [pt j,.ag (pc a),nI d] σ (fun r τ=>r= .ok (.b true)∧τ.get j=some (.cells (jB (L-a.sz)))∧But j σ τ)
 |0,a,hn=>by cases a<;>simp[PF.dep] at hn
 |n+1,a,hn=>fun d L hd hsz hL σ hj=>by
  have hop:=a.op_lt
  have hdp:1≤a.dep:=by cases a<;>simp[PF.dep]
  have hse:=a.sz_eq
  obtain⟨L,rfl⟩:∃m,L=m+1:=⟨L-1,by omega⟩
  refine W.code h.form.e h.form.p h.form.f rfl rfl rfl rfl fun z=>?_
  have H:Has σ [(j,jB (L+1))]:=Has.nil.cons hj (by simp)
  have lj:=St.get_lt hj
  refine wk ?_
  generalize hq:σ.next=q at lj
  refine W.bx (c:=pc a) H hq rfl rfl rfl rfl rfl fun τ1 n1 H k1=>?_
  refine wk ?_
  refine W.cl trivial rfl rfl rfl (jnodeP h.node (by omega) (by omega) (k1 _ _ hj)) fun r τ2 ⟨ev,hj2,n2,k2⟩=>⟨_,ev,?_⟩
  have hq2:=k2 q _ (by omega) (H.get _ (.head _))
  have H:Has τ2 [(q,pc a)]:=Has.nil.cons hq2 (by simp)
  refine wk ?_
  refine W.val (v:=nI a.op) (σ':=τ2) rfl rfl (op_conv rfl (by omega)) ?_
  refine wk ?_
  refine W.val (v:=.tp true (.ag [.b true,.b true,uB (rowN a.op),nI (rowA a.op),nI a.subs.length])) (σ':=τ2) rfl rfl (op_idxArrT (j:=a.op) (cs:=rowsL) (o:=true) (by show(match b.glob n_rows with|some v=>some (AV.tp true v)|none=>none)=_;rw[h.rows]) rfl (by omega) a.row) ?_
  refine wk ?_
  refine W.al (c:=[.b false,.b false,uB 0,nI 0,nI 0]) H rfl rfl rfl rfl fun τ3 n3 H k3=>?_
  refine W.st (c':=[.b true,.b true,uB (rowN a.op),nI (rowA a.op),nI a.subs.length]) H 0 rfl rfl rfl rfl rfl rfl fun τ4 n4 H k4=>?_
  have hj4:=k4 _ _ (by have:=St.get_lt hj2;omega) (k3 _ _ hj2)
  refine wk ?_
  refine W.kn h.fn h.en (h.nam a) rfl rfl rfl rfl ?_
  refine wk ?_
  refine W.cl trivial rfl rfl rfl (jtermsP h.terms) fun r τ5 ⟨ev,e5⟩=>⟨_,ev,?_⟩
  subst e5
  refine wk ?_
  have hlp:(a.subs.map fun x=>AV.ag (fc x.fm)).length=a.subs.length:=List.length_map _
  refine GoF.norm [(79,nI 0),(78,nI a.subs.length),(77,sbA a),(0,pt j),(2,nI d)] ⟨rfl,rfl,rfl,rfl,rfl,trivial⟩ fun F=>?_
  have hlen:=a.subs_len
  refine GoF.each a.subs.length (fun i F τ=>τ.get j=some (.cells (jB (L-((a.subs.take i).map PF.sz).sum)))∧But j τ5 τ∧sat [(77,sbA a),(0,pt j),(2,nI d)] F) (by omega) ⟨hj4,⟨Nat.le_refl _,fun _ _ _ h=>h⟩,rfl,rfl,rfl,trivial⟩ rfl rfl (fun i F τ hi hI hii him=>?_) (fun F τ hI hii=>?_)
  ·obtain⟨hjt,⟨nt,kt⟩,g77,g0,g2,_⟩:=hI
   refine GoF.norm [(79,nI i),(78,nI a.subs.length),(77,sbA a),(0,pt j),(2,nI d)] ⟨hii,him,g77,g0,g2,trivial⟩ fun F=>?_
   have H:Has τ []:=Has.nil
   have hsd:=PF.sub_dep (List.getElem_mem hi)
   have htk:((a.subs.take (i+1)).map PF.sz).sum=((a.subs.take i).map PF.sz).sum+(a.subs[i]).sz:=by
    rw[List.take_succ_eq_append_getElem hi,List.map_append,List.sum_append];simp
   have hle:((a.subs.take (i+1)).map PF.sz).sum≤(a.subs.map PF.sz).sum:=by
    conv=>rhs;rw[←List.take_append_drop (i+1) a.subs,List.map_append,List.sum_append]
    omega
   refine wk ?_
   generalize a.subs[i]=x at hsd htk
   refine W.al (c:=[.i .u8 0,.s [],.nilsl,.nilsl]) H rfl rfl rfl rfl fun τ6 n6 H k6=>?_
   refine W.st (c':=fc x.fm) H 0 rfl rfl rfl rfl rfl rfl fun τ7 n7 H k7=>?_
   have hj7:=k7 _ _ (by have:=St.get_lt hjt;omega) (k6 _ _ hjt)
   refine wk ?_
   have hx:fc x.fm=pc x:=PF.fc_eq x
   have hf:=jformP h n x (by omega) (d+1) (L-((a.subs.take i).map PF.sz).sum) (by omega) (by omega) (by omega) τ7 hj7
   rw[←hx] at hf
   refine W.cl trivial rfl rfl rfl hf fun r τ8 ⟨ev,hj8,n8,k8⟩=>⟨_,ev,?_⟩
   refine wk ?_
   refine⟨rfl,rfl,?_,⟨by omega,fun c o hc h=>k8 _ _ hc (k7 _ _ (by have:=St.get_lt h;have:=St.get_lt (kt _ _ hc h);omega) (k6 _ _ (kt _ _ hc h)))⟩,rfl,rfl,rfl,trivial⟩
   rw[hj8,htk,Nat.sub_sub]
  ·obtain⟨hjt,⟨nt,kt⟩,g77,g0,g2,_⟩:=hI
   refine GoF.norm [] trivial fun F=>?_
   rw[List.take_length] at hjt
   have H:Has τ []:=Has.nil
   refine wk ?_
   refine GoF.ret ⟨rfl,rfl,?_,by omega,fun c o hc ho=>kt _ _ hc (k4 _ _ (by have:=St.get_lt ho;omega) (k3 _ _ (k2 _ _ hc (k1 _ _ ho))))⟩
   rw[hjt,show L+1-a.sz=L-(a.subs.map PF.sz).sum by omega]
theorem RightP(h:HRt b K)(a:PF)(ha:a.low)(body:ACode)(hb:c96.body=some body):GoF (b.envK K) c96.ntmps body (argF [.ag (pc a)]) ⟨.nil,0⟩ (Done 2 (.b true)):=by
 cases hb
 refine W.args fun z=>?_
 have H:Has (⟨.nil,0⟩:St) []:=Has.nil
 have h1:=ha.1
 have h2:=ha.2
 refine wk ?_
 refine W.bx (c:=pc a) H rfl rfl rfl rfl rfl rfl fun τ n1 H k1=>?_
 refine wk ?_
 refine W.al (c:=[.b false,nI 0,nI 0]) H n1 rfl rfl rfl fun τ2 n2 H k2=>?_
 refine wk ?_
 refine W.st (c':=jB 400) H 0 rfl rfl rfl rfl rfl rfl fun τ3 n3 H k3=>?_
 refine wk ?_
 refine W.cl trivial rfl rfl rfl (jformP h _ a (Nat.le_refl _) 1 400 (by omega) (by omega) (by decide) τ3 (H.get _ (.head _))) fun r τ4 ⟨ev,_⟩=>⟨_,ev,?_⟩
 refine wk ?_
 exact GoF.ret ⟨rfl,rfl⟩
end
end
section
variable [Tok][TokOk]
open Go.RowKit Go.Lyc.T
section
variable {b:Base}{K:Nat→List AV→AV→Prop}
set_option maxRecDepth 100000 in
theorem Len64_go(hh:Here (b.envK K) n_Len64 c283)(m:Nat)(hm:m<256)(σ:St):GoesCall (b.envK K) 0 (.f (.func n_Len64) [] []) [.i .u64 (Int.ofNat m)] σ (fun r σ'=>(∃q,r= .ok (.i .i64 q))∧σ'=σ):=by
 refine GoesCall.code hh.e hh.p hh.f rfl rfl rfl rfl ?_
 refine GoF.seq (GoF.region ?_)
 refine sO ?_
 refine GoF.seq (GoF.seq (GoF.region ?_))
 refine GoO.go rfl rfl rfl rfl ?_
 refine GoO.bin (a:=.i .u64 (Int.ofNat m)) (b:=.i .u64 (Int.ofNat 4294967296)) (v:=.b false) rfl rfl rfl rfl (bin_cmp (by show some (AV.b (decide (4294967296≤m)))=_;rw[decide_eq_false (by omega)])) ?_
 refine GoO.nil (GoF.cnd rfl (fun h=>by cases h) fun _=>GoF.skip ?_)
 refine GoF.seq (GoF.seq (GoF.region ?_))
 refine GoO.go rfl rfl rfl rfl ?_
 refine GoO.bin (a:=.i .u64 (Int.ofNat m)) (b:=.i .u64 (Int.ofNat 65536)) (v:=.b false) rfl rfl rfl rfl (bin_cmp (by show some (AV.b (decide (65536≤m)))=_;rw[decide_eq_false (by omega)])) ?_
 refine GoO.nil (GoF.cnd rfl (fun h=>by cases h) fun _=>GoF.skip ?_)
 refine GoF.seq (GoF.seq (GoF.region ?_))
 refine GoO.go rfl rfl rfl rfl ?_
 refine GoO.bin (a:=.i .u64 (Int.ofNat m)) (b:=.i .u64 (Int.ofNat 256)) (v:=.b false) rfl rfl rfl rfl (bin_cmp (by show some (AV.b (decide (256≤m)))=_;rw[decide_eq_false (by omega)])) ?_
 refine GoO.nil (GoF.cnd rfl (fun h=>by cases h) fun _=>GoF.skip ?_)
 refine GoF.seq (GoF.region ?_)
 refine GoO.go rfl rfl rfl rfl ?_
 refine GoO.go rfl rfl rfl rfl ?_
 have h8:wrapN .u8 (Int.ofNat m)=Int.ofNat m:=wrapN8 hm
 refine GoO.val rfl rfl (op_conv64 (m:=Int.ofNat m) rfl _) ?_
 rw[h8]
 refine GoO.val rfl rfl (op_istr (j:=m) rfl rfl (nth_get (Nat.lt_of_lt_of_le hm (by decide)))) ?_
 refine GoO.val rfl rfl (op_conv64 rfl _) ?_
 refine GoO.bin rfl rfl rfl rfl rfl ?_
 refine GoO.go rfl rfl rfl rfl ?_
 exact GoO.nil (GoF.ret ⟨rfl,⟨_,rfl⟩,rfl⟩)
theorem Len_go(hh:Here (b.envK K) n_Len c241)(h6:Here (b.envK K) n_Len64 c283)(m:Nat)(hm:m<256)(σ:St):GoesCall (b.envK K) 0 (.f (.func n_Len) [] []) [.i .u64 (Int.ofNat m)] σ (fun r σ'=>(∃q,r= .ok (.i .i64 q))∧σ'=σ):=by
 refine GoesCall.code hh.e hh.p hh.f rfl rfl rfl rfl ?_
 refine GoF.seq (GoF.region ?_)
 refine sO ?_
 refine GoF.seq (GoF.cnd rfl (fun h=>by cases h) fun _=>GoF.skip ?_)
 refine GoF.seq (GoF.region ?_)
 refine GoO.go rfl rfl rfl rfl ?_
 refine GoO.callG rfl rfl rfl (Len64_go h6 m hm σ) fun r σ2 ⟨⟨q,e1⟩,e2⟩=>⟨_,e1,?_⟩
 refine GoO.go rfl rfl rfl rfl ?_
 exact GoO.nil (GoF.ret ⟨rfl,⟨_,rfl⟩,e2⟩)
variable (hf:∀g ar r r',K g ar r→K g ar r'→r=r')
end
end
section
variable [Tok][TokOk]
open Go.RowKit Go.Lyc.T
attribute [local irreducible] GoM GoW GoV GoD GoesCall
section
variable {b:Base}{K:Nat→List AV→AV→Prop}(hf:∀g ar r r',K g ar r→K g ar r'→r=r')
theorem psnP(a:PF)(h:a.fm.dep≤200)(τ:St):snapshot τ (b.fz+1000) (.ag (pc a))=some (.ag (pc a)):=by
 have:=psn a h (b:=b) τ
 rwa[PF.fc_eq,pA] at this
end
end
section
variable [Tok][TokOk]
open Go.RowKit Go.Lyc.T
section
theorem GoesCall.meth{env:Env}{t:Nat}{nm:String}{g:Nat}{v:AV}{args:List AV}{σ:St}{R:Ret→St→Prop}(hm:env.meth t nm=some g)(h:GoesCall env 0 (.f (.func g) [] []) (v::args) σ R):GoesCall env 0 (.f (.method nm) [.it t v] []) args σ R:=by
 obtain⟨F1,l,hl,h2,h3⟩:=h
 refine⟨F1,l,hl,fun F hF=>?_,h3⟩
 have h4:callF env (exec env F) 0 g ([]++(v::args)++[]) σ=some l:=h2 F hF
 show(match env.meth t nm with|some g=>callF env (exec env F) 0 g (v::args) σ|none=>none)=_
 rw[hm]
 rw[List.nil_append,List.append_nil] at h4
 exact h4
theorem W.mt{wh:Option Nat}{D:List (Nat ⊕ (AV×List AV))}{n:Nat}{F:List (Nat×AV)}{z:Nat→AV}{σ:St}{Q:PostF}{b:Base}{K:Nat→List AV→AV→Prop}{d:Nat}{op:AOp}{g:Option (Nat×Bool)}{ops:List AOper}{fn t:Nat}{nm:String}{v:AV}{args ar:List AV}{r:AV}(hf:∀g ar r r',K g ar r→K g ar r'→r=r')(hm:b.meth t nm=some fn)(e:b.ext fn=0∧b.pure fn=true)(hK:K fn ar r)
  (hd:Nat.blt d n=true) (hw:wtL g n F=true) (ho:opx 0 (evL (b.envK K) n F z) σ op=some (.call (.f (.method nm) [.it t v] []) args)) (ha:mapO (snapshot σ (b.fz+1000)) (v::args)=some ar) (h:GoM .pl (b.envK K) wh D n ops (upds ((d,r)::F) z) σ Q):GoM .pl (b.envK K) wh D n (⟨some d,op,g,[]⟩::ops) (upds F z) σ Q:=
 W.cy (R:=fun x τ=>x= .ok r∧τ=σ) hd hw ho (GoesCall.meth hm (GoesCall.spec e.1 e.2 (by rw[List.nil_append,List.append_nil];exact ha) (specOf_some hf hK) ⟨rfl,rfl⟩)) fun r' τ ⟨e1,e2⟩=>⟨_,e1,by subst e2;exact h⟩
attribute [local irreducible] GoM GoW GoV GoD GoesCall
abbrev vals:AV:=.ag []
theorem PF.op_cs(a:PF):a.op=1∨a.op=2∨a.op=3∨a.op=4∨a.op=5∨a.op=6:=by
 have:=a.op_lt;omega
section
variable {b:Base}{K:Nat→List AV→AV→Prop}(hfn:∀g ar r r',K g ar r→K g ar r'→r=r')
include hfn
theorem hwithin_go(a:PF)(hd:∀x∈a.subs,x.fm.dep≤200)(e:b.ext n_hwithin=0∧b.pure n_hwithin=true)(hK:∀x∈a.subs,K n_hwithin [.i .u32 254,x.fm.A true] (.b true))(body:ACode)(hb:c83.body=some body):
  GoF (b.envK K) c83.ntmps body (argF [.i .u32 254,.ag (pc a)]) ⟨.nil,0⟩ (Done 4 (.b true)):=by
 cases hb
 refine W.args fun z=>?_
 have H:Has (⟨.nil,0⟩:St) []:=Has.nil
 have hla:=a.subs_len
 have hop:∃q:Int,binop .gtr (.i .u8 (Int.ofNat a.op)) (.i .u8 31)=some (.b false)∧binop .shr (.i .u32 254) (.i .u8 (Int.ofNat a.op))=some (.i .u32 q)∧binop .and (.i .u32 q) (.i .u32 1)=some (.i .u32 1):=by
  have ho:=a.op_cs
  generalize a.op=o at ho
  rcases ho with rfl|rfl|rfl|rfl|rfl|rfl
  ·exact⟨127,by kernel_rfl,by kernel_rfl,by kernel_rfl⟩
  ·exact⟨63,by kernel_rfl,by kernel_rfl,by kernel_rfl⟩
  ·exact⟨31,by kernel_rfl,by kernel_rfl,by kernel_rfl⟩
  ·exact⟨15,by kernel_rfl,by kernel_rfl,by kernel_rfl⟩
  ·exact⟨7,by kernel_rfl,by kernel_rfl,by kernel_rfl⟩
  ·exact⟨3,by kernel_rfl,by kernel_rfl,by kernel_rfl⟩
 obtain⟨q,o1,o2,o3⟩:=hop
 refine wk ?_
 refine W.bx (c:=pc a) H rfl rfl rfl rfl rfl rfl fun τ n1 H k1=>?_
 refine wk ?_
 refine W.bin rfl rfl rfl rfl o1 ?_
 refine wk ?_
 refine W.bin rfl rfl rfl rfl o2 ?_
 refine wk ?_
 refine W.bin rfl rfl rfl rfl o3 ?_
 refine wk ?_
 show GoW _ _ _ _ _ _ _ _
 refine GoF.each a.subs.length (fun j f τ'=>Mr τ τ'∧sat [(0,.i .u32 254),(3,pt 0),(19,sbA a)] f) (by omega) ⟨⟨Nat.le_refl _,fun _ _ h=>h⟩,rfl,rfl,rfl,trivial⟩ rfl rfl (fun j g τ' hj hI hi hm=>?_) (fun g τ' hI hi=>?_)
 ·obtain⟨M,g0,g3,g7,_⟩:=hI
  refine GoF.norm [(0,.i .u32 254),(3,pt 0),(19,sbA a),(21,nI j),(20,nI a.subs.length)] ⟨g0,g3,g7,hi,hm,trivial⟩ fun g=>?_
  have H:=H.keep M.2
  refine wk ?_
  refine W.al H rfl rfl rfl rfl fun τ4 n4 H k4=>?_
  refine wk ?_
  refine W.st (c':=fc (a.subs[j]).fm) H 0 rfl rfl rfl rfl rfl rfl fun τ5 n5 H k5=>?_
  refine wk ?_
  refine W.kn hfn e (hK _ (List.getElem_mem hj)) rfl rfl rfl (snaps2 rfl (psn _ (hd _ (List.getElem_mem hj)) _)) ?_
  refine wk ?_
  exact⟨rfl,rfl,⟨by have:=M.1;omega,fun i o h=>k5 _ _ (by have:=St.get_lt (M.2 _ _ h);omega) (k4 _ _ (M.2 _ _ h))⟩,rfl,rfl,rfl,trivial⟩
 ·refine GoF.norm [] trivial fun g=>?_
  refine wk ?_
  refine GoF.ret ?_
  exact⟨rfl,rfl⟩
theorem tprop_go(a:PF)(hd:∀x∈a.subs,x.fm.dep≤200)(e:b.ext n_tprop=0∧b.pure n_tprop=true)(hK:∀x∈a.subs,K n_tprop [x.fm.A true] (.b true))(body:ACode)(hb:c394.body=some body):
  GoF (b.envK K) c394.ntmps body (argF [.ag (pc a)]) ⟨.nil,0⟩ (Done 2 (.b true)):=by
 cases hb
 refine W.args fun z=>?_
 have H:Has (⟨.nil,0⟩:St) []:=Has.nil
 have hla:=a.subs_len
 have hop:=a.op_lt
 refine wk ?_
 refine W.bx (c:=pc a) H rfl rfl rfl rfl rfl rfl fun τ n1 H k1=>?_
 refine wk ?_
 show GoW _ _ _ _ _ _ _ _
 refine GoF.each a.subs.length (fun j f τ'=>Mr τ τ'∧sat [(1,pt 0),(20,sbA a)] f) (by omega) ⟨⟨Nat.le_refl _,fun _ _ h=>h⟩,rfl,rfl,trivial⟩ rfl rfl (fun j g τ' hj hI hi hm=>?_) (fun g τ' hI hi=>?_)
 ·obtain⟨M,g3,g7,_⟩:=hI
  refine GoF.norm [(1,pt 0),(20,sbA a),(22,nI j),(21,nI a.subs.length)] ⟨g3,g7,hi,hm,trivial⟩ fun g=>?_
  have H:=H.keep M.2
  refine wk ?_
  refine W.al H rfl rfl rfl rfl fun τ4 n4 H k4=>?_
  refine wk ?_
  refine W.st (c':=fc (a.subs[j]).fm) H 0 rfl rfl rfl rfl rfl rfl fun τ5 n5 H k5=>?_
  refine wk ?_
  refine W.kn hfn e (hK _ (List.getElem_mem hj)) rfl rfl rfl (snaps1 (psn _ (hd _ (List.getElem_mem hj)) _)) ?_
  refine wk ?_
  exact⟨rfl,rfl,⟨by have:=M.1;omega,fun i o h=>k5 _ _ (by have:=St.get_lt (M.2 _ _ h);omega) (k4 _ _ (M.2 _ _ h))⟩,rfl,rfl,trivial⟩
 ·refine GoF.norm [] trivial fun g=>?_
  refine wk ?_
  refine GoF.ret ?_
  exact⟨rfl,rfl⟩
theorem tRight_go(a:PF)(hd:a.fm.dep≤200)(e:b.ext n_tprop=0∧b.pure n_tprop=true)(e2:b.ext n_Right=0∧b.pure n_Right=true)(h1:K n_Right [.ag (pc a)] (.b true))(h2:K n_tprop [.ag (pc a)] (.b true))(body:ACode)(hb:c388.body=some body):
  GoF (b.envK K) c388.ntmps body (argF [.ag (pc a)]) ⟨.nil,0⟩ (Done 2 (.b true)):=by
 cases hb
 refine W.args fun z=>?_
 have H:Has (⟨.nil,0⟩:St) []:=Has.nil
 refine wk ?_
 refine W.bx (c:=pc a) H rfl rfl rfl rfl rfl rfl fun τ n1 H k1=>?_
 refine wk ?_
 refine W.kn hfn e2 h1 rfl rfl rfl (snaps1 (psnP _ hd _)) ?_
 refine wk ?_
 refine W.kn hfn e h2 rfl rfl rfl (snaps1 (psnP _ hd _)) ?_
 refine wk ?_
 refine GoF.ret ?_
 exact⟨rfl,rfl⟩
theorem vright_go(a:PF)(hd:a.fm.dep≤200)(e:b.ext n_tRight=0∧b.pure n_tRight=true)(h1:K n_tRight [.ag (pc a)] (.b true))(body:ACode)(hb:c380.body=some body):
  GoF (b.envK K) c380.ntmps body (argF [vals,.ag (pc a)]) ⟨.nil,0⟩ (Done 4 (.b true)):=by
 cases hb
 refine W.args fun z=>?_
 have H:Has (⟨.nil,0⟩:St) []:=Has.nil
 refine wk ?_
 refine W.bx (c:=[]) H rfl rfl rfl rfl rfl rfl fun τ n1 H k1=>?_
 refine wk ?_
 refine W.bx (c:=pc a) H n1 rfl rfl rfl rfl rfl fun τ2 n2 H k2=>?_
 refine wk ?_
 refine W.kn hfn e h1 rfl rfl rfl (snaps1 (psnP _ hd _)) ?_
 refine wk ?_
 refine GoF.ret ?_
 exact⟨rfl,rfl⟩
omit hfn in
theorem vlong_go(a:PF)(body:ACode)(hb:c377.body=some body):
  GoF (b.envK K) c377.ntmps body (argF [vals,.ag (pc a)]) ⟨.nil,0⟩ (Done 4 (.b false)):=by
 cases hb
 refine W.args fun z=>?_
 have H:Has (⟨.nil,0⟩:St) []:=Has.nil
 refine wk ?_
 refine W.bx (c:=[]) H rfl rfl rfl rfl rfl rfl fun τ n1 H k1=>?_
 refine wk ?_
 refine W.bx (c:=pc a) H n1 rfl rfl rfl rfl rfl fun τ2 n2 H k2=>?_
 refine wk ?_
 refine GoF.ret ?_
 exact⟨rfl,rfl⟩
abbrev lgC(nm:List Nat)(rl:AV):List AV:=[.s nm,.i .u32 254,.i .u8 1,.i .u8 0,rl]
theorem hRight_go{nm:List Nat}{rl la:AV}{tv:Nat}(hrl:rl.val=true∧rl.cells=[rl]∧conf none rl=true)(hla:∀σ,snapshot σ (b.fz+1000) (.ag (lgC nm rl))=some la)(a:PF)(hd:a.fm.dep≤200)(ek:b.ext n_kindOf=0∧b.pure n_kindOf=true)(hk:K n_kindOf [.i .u8 1] (.tu [.it tv vals,.b true]))(el:b.ext n_logical=0∧b.pure n_logical=true)(hl:K n_logical [la] (.b true))
  (hm:b.meth tv hnR =some n_vright) (ev:b.ext n_vright=0∧b.pure n_vright=true) (hv:K n_vright [vals,.ag (pc a)] (.b true)) (ew:b.ext n_hwithin=0∧b.pure n_hwithin=true) (hw:K n_hwithin [.i .u32 254,.ag (pc a)] (.b true)) (body:ACode) (hb:c60.body=some body):
  GoF (b.envK K) c60.ntmps body (argF [.ag (lgC nm rl),.ag (pc a)]) ⟨.nil,0⟩ (Done 4 (.b true)):=by
 cases hb
 refine W.args fun z=>?_
 have H:Has (⟨.nil,0⟩:St) []:=Has.nil
 refine wk ?_
 refine W.bx (c:=lgC nm rl) H rfl rfl rfl rfl rfl rfl fun τ n1 H k1=>?_
 refine wk ?_
 refine W.bx (c:=pc a) H n1 rfl rfl rfl rfl rfl fun τ2 n2 H k2=>?_
 refine wk ?_
 refine W.kn hfn ek hk rfl rfl rfl rfl ?_
 refine wk ?_
 refine W.kn hfn el hl rfl rfl rfl (snaps1 (hla _)) ?_
 refine wk ?_
 refine W.mt hfn hm ev hv rfl rfl rfl (snaps2 rfl (psnP _ hd _)) ?_
 refine wk ?_
 refine W.kn hfn ew hw rfl rfl rfl (snaps2 rfl (psnP _ hd _)) ?_
 refine wk ?_
 refine GoF.ret ?_
 exact⟨rfl,rfl⟩
end
end
end
section
variable [Tok][TokOk]
open Go.RowKit Go.Lyc.T
attribute [local irreducible] GoM GoW GoV GoD GoesCall
structure HCc(env:Env):Prop where
 grow:Here env n_GrowF c85
 concat:Here env n_ConcatF c62
 forms:Here env n_hforms c44
structure Nf(σ τ:St)(v:AV)(xs:List AV):Prop where
 sl:Sl τ (some 4) v xs
 lo:∀i,v.at? =some i→σ.next≤i
 nc:∀o l c,v= .sl o 0 l (some 4) c→c=none
section
variable {b:Base}{K:Nat→List AV→AV→Prop}
theorem GrowF_go(hc:HCc (b.envK K)){σ:St}{m:Nat}(h1:1≤m)(h2:m≤600):GoesCall (b.envK K) 0 (.f (.func n_GrowF) [] []) [.nilsl,nI m] σ (fun r τ=>∃v,r= .ok v∧Nf σ τ v []∧Mr σ τ∧τ.next=σ.next+1):=by
 refine W.code hc.grow.e hc.grow.p hc.grow.f rfl rfl rfl rfl fun z=>?_
 have H:Has σ []:=Has.nil
 refine wk ?_
 refine W.val (v:=nI 0) (σ':=σ) rfl rfl rfl ?_
 refine wk ?_
 refine W.val (v:=nI 0) (σ':=σ) rfl rfl rfl ?_
 refine wk ?_
 have hm:nI m= .i .i64 (.ofNat m):=rfl
 refine W.val (v:=.sl σ.next 0 m (some 4) none) (σ':=σ.push (.cells (repeatC m [.i .u8 0,.s [],.nilsl,.nilsl]))) rfl rfl ?_ ?_
 ·show cond (Nat.beq 5 5&&(Nat.blt 0 m&&Nat.ble ((3*m+2000)*72) 281474976710656)) _ none=_
  rw[show Nat.blt 0 m=true from by rw[Nat.blt_eq];omega,Nat.ble_eq_true_of_le (by omega:(3*m+2000)*72≤281474976710656)];rfl
 have kp:∀i o,σ.get i=some o→(σ.push (.cells (repeatC m [.i .u8 0,.s [],.nilsl,.nilsl]))).get i=some o:=fun i o ho=>by rw[St.get_push_old trivial _ (St.get_lt ho)];exact ho
 refine wk ?_
 refine GoF.ret ⟨rfl,_,rfl,⟨?_,fun i hi=>by cases hi;exact Nat.le_refl _,fun _ _ _ h=>by cases h;rfl⟩,⟨Nat.le_succ _,kp⟩,rfl⟩
 exact .sl σ.next none [] (repeatC m [.i .u8 0,.s [],.nilsl,.nilsl]) (by rw[St.get_push_new];rfl) (by simp) (.inl rfl)
theorem newOf_slA{σ:St}{o:Bool}{sh:Option Nat}{xs:List AV}:newOf σ (slA o sh xs)=some xs:=by
 cases xs<;>rfl
def nzl:List AV→Nat
 |[]=>0
 |_=>1
def pfn(xs ys:List AV):Nat→Nat
 |0=>0
 |1=>nzl xs
 |_=>nzl xs+nzl ys
def pfx(xs ys:List AV):Nat→List AV
 |0=>[]
 |1=>xs
 |_=>xs++ys
theorem ConcatF_go(hc:HCc (b.envK K)){σ:St}{q:Nat}{xs ys:List AV}{o1 o2:Bool}(hx:∀x∈xs,conf (some 4) x=true)(hy:∀x∈ys,conf (some 4) x=true)(h1:1≤xs.length+ys.length)(h2:xs.length+ys.length≤600)(hq:σ.get q=some (.cells [slA o1 (some 4) xs,slA o2 (some 4) ys])):
  GoesCall (b.envK K) 0 (.f (.func n_ConcatF) [] []) [.sl q 0 2 none (some 2)] σ (fun r τ=>∃v,r= .ok v∧Nf σ τ v (xs++ys)∧Mr σ τ∧τ.next=σ.next+(1+nzl xs+nzl ys)):=by
 refine W.code hc.concat.e hc.concat.p hc.concat.f rfl rfl rfl rfl fun z=>?_
 have H:Has σ [(q,[slA o1 (some 4) xs,slA o2 (some 4) ys])]:=Has.nil.cons hq (by simp)
 have hsl:∀τ:St,τ.get q=some (.cells [slA o1 (some 4) xs,slA o2 (some 4) ys])→∀j,(h:j<2)→loadA τ none (.p (some (q,j)))=some ([slA o1 (some 4) xs,slA o2 (some 4) ys][j]'h):=fun τ hτ j hj=>by
  refine loadA_p (c:=[slA o1 (some 4) xs,slA o2 (some 4) ys]) hτ ?_
  have:j=0∨j=1:=by omega
  rcases this with rfl|rfl
  ·show takeSh none (slA o1 (some 4) xs::_)=_
   unfold takeSh
   simp only[slA_cf,if_true];rfl
  ·show takeSh none (slA o2 (some 4) ys::_)=_
   unfold takeSh
   simp only[slA_cf,if_true];rfl
 refine wk ?_
 show GoW _ _ _ _ _ _ _ _
 refine GoF.each 2 (fun j f τ'=>τ'=σ∧sat [(0,.sl q 0 2 none (some 2)),(2,.nilsl),(9,.sl q 0 2 none (some 2)),(3,nI (pfx xs ys j).length)] f) (by omega) ⟨rfl,rfl,rfl,rfl,rfl,trivial⟩ rfl rfl (fun j g τ' hj hI hi hm=>?_) (fun g τ' hI hi=>?_)
 ·obtain⟨rfl,g0,g2,g9,g3,_⟩:=hI
  refine GoF.norm [(0,.sl q 0 2 none (some 2)),(2,.nilsl),(9,.sl q 0 2 none (some 2)),(3,nI (pfx xs ys j).length),(11,nI j),(10,nI 2)] ⟨g0,g2,g9,g3,hi,hm,trivial⟩ fun g=>?_
  have hpl:(pfx xs ys j).length+([slA o1 (some 4) xs,slA o2 (some 4) ys].map (fun v=>match lenA τ' 1 v with|some k=>k|none=>0)).getD j 0=(pfx xs ys (j+1)).length∧(pfx xs ys (j+1)).length≤600:=by
   have:j=0∨j=1:=by omega
   rcases this with rfl|rfl
   ·simp only[List.map_cons,slA_len]
    exact⟨by show 0+xs.length=xs.length;omega,by show xs.length≤600;omega⟩
   ·simp only[List.map_cons,slA_len]
    exact⟨by show xs.length+ys.length=(xs++ys).length;rw[List.length_append],by show(xs++ys).length≤600;rw[List.length_append];omega⟩
  have hlv:lenA τ' 1 ([slA o1 (some 4) xs,slA o2 (some 4) ys][j]'hj)=some (([slA o1 (some 4) xs,slA o2 (some 4) ys].map (fun v=>match lenA τ' 1 v with|some k=>k|none=>0)).getD j 0):=by
   have:j=0∨j=1:=by omega
   rcases this with rfl|rfl
   ·show lenA τ' 1 (slA o1 (some 4) xs)=_
    simp only[List.map_cons,slA_len];rfl
   ·show lenA τ' 1 (slA o2 (some 4) ys)=_
    simp only[List.map_cons,slA_len];rfl
  have hix:idxSlA none (.sl q 0 2 none (some 2)) j=some (.p (some (q,j))):=by
   have:j=0∨j=1:=by omega
   rcases this with rfl|rfl<;>rfl
  have hld:=hsl τ' hq j hj
  generalize hw:[slA o1 (some 4) xs,slA o2 (some 4) ys][j]'hj=w at hlv hld
  generalize([slA o1 (some 4) xs,slA o2 (some 4) ys].map (fun v=>match lenA τ' 1 v with|some k=>k|none=>0)).getD j 0=m at hpl hlv
  refine wk ?_
  refine W.ix rfl rfl rfl rfl hix ?_
  refine wk ?_
  refine W.le rfl rfl rfl hld ?_
  refine wk ?_
  refine W.len rfl rfl rfl hlv ?_
  refine wk ?_
  rw[hpl.1]
  refine wk ?_
  exact⟨rfl,rfl,rfl,rfl,rfl,rfl,rfl,trivial⟩
 ·obtain⟨rfl,g0,g2,g9,g3,_⟩:=hI
  have g3:g 3=nI (xs++ys).length:=g3
  refine GoF.norm [(0,.sl q 0 2 none (some 2)),(3,nI (xs++ys).length)] ⟨g0,g3,trivial⟩ fun g=>?_
  refine wk ?_
  refine W.cl trivial rfl rfl rfl (GrowF_go hc (m:=(xs++ys).length) (by rw[List.length_append];omega) (by rw[List.length_append];omega)) fun r τ ⟨v,e,N0,M0,n0⟩=>⟨_,e,?_⟩
  refine wk ?_
  show GoW _ _ _ _ _ _ _ _
  refine GoF.each 2 (fun j f τ2=>Mr τ' τ2∧τ2.next=τ'.next+1+pfn xs ys j∧∃v,Nf τ' τ2 v (pfx xs ys j)∧sat [(0,.sl q 0 2 none (some 2)),(25,.sl q 0 2 none (some 2)),(6,v)] f) (by omega) ⟨M0,n0,v,N0,rfl,rfl,rfl,trivial⟩ rfl rfl (fun j g τ2 hj hI hi hm=>?_) (fun g τ2 hI hi=>?_)
  ·obtain⟨M2,nn2,v2,N2,g0,g9,g6,_⟩:=hI
   refine GoF.norm [(0,.sl q 0 2 none (some 2)),(25,.sl q 0 2 none (some 2)),(6,v2),(27,nI j),(26,nI 2)] ⟨g0,g9,g6,hi,hm,trivial⟩ fun g=>?_
   have hix:idxSlA none (.sl q 0 2 none (some 2)) j=some (.p (some (q,j))):=by
    have:j=0∨j=1:=by omega
    rcases this with rfl|rfl<;>rfl
   have hld:=hsl τ2 (M2.2 _ _ hq) j hj
   have hnw:∃ns,newOf τ2 ([slA o1 (some 4) xs,slA o2 (some 4) ys][j]'hj)=some ns∧pfx xs ys (j+1)=pfx xs ys j++ns∧pfn xs ys (j+1)=pfn xs ys j+nzl ns∧(∀x∈ns,conf (some 4) x=true)∧(pfx xs ys j).length+ns.length≤600:=by
    have:j=0∨j=1:=by omega
    rcases this with rfl|rfl
    ·exact⟨xs,newOf_slA,rfl,by show nzl xs=0+nzl xs;omega,hx,by show 0+xs.length≤_;omega⟩
    ·exact⟨ys,newOf_slA,rfl,rfl,hy,by show xs.length+ys.length≤_;omega⟩
   obtain⟨ns,hn1,hn2,hnz,hn3,hn4⟩:=hnw
   generalize hw:[slA o1 (some 4) xs,slA o2 (some 4) ys][j]'hj=w at hn1 hld
   refine wk ?_
   refine W.ix rfl rfl rfl rfl hix ?_
   refine wk ?_
   refine W.le rfl rfl rfl hld ?_
   refine wk ?_
   cases ns with
   |nil=>
    refine W.val (v:=v2) (σ':=τ2) rfl rfl ?_ ?_
    ·show(match appendO 0 τ2 (some 4) 72 v2 w with|some (v,σ)=>some (OpR.val v σ)|none=>none)=_
     unfold appendO
     rw[N2.sl.read,hn1]
     show(match cond (allB (conf (some 4)) (pfx xs ys j)&&true&&Nat.ble ((3*((pfx xs ys j).length+0)+2000)*72) 281474976710656) (some (v2,τ2)) none with|some (v,σ)=>some (OpR.val v σ)|none=>none)=_
     rw[allB_of N2.sl.conf,Nat.ble_eq_true_of_le (by simp only[List.length_nil] at hn4;omega:(3*((pfx xs ys j).length+0)+2000)*72≤281474976710656)];rfl
    ·refine wk ?_
     rw[List.append_nil] at hn2
     exact⟨rfl,rfl,M2,by rw[hnz];exact nn2,v2,by rw[hn2];exact N2,rfl,rfl,rfl,trivial⟩
   |cons y ns=>
    refine W.ap y ns N2.sl hn1 hn3 (by simp only[List.length_cons] at hn4 ⊢;omega) rfl rfl rfl rfl fun v3 τ3 s3 a3 c3 n3 k3=>?_
    refine wk ?_
    refine⟨rfl,rfl,⟨by have:=M2.1;omega,fun i o ho=>k3 i o (fun e=>by have:=N2.lo _ e;have:=St.get_lt ho;omega) (M2.2 _ _ ho)⟩,by rw[hnz,n3,nn2];rfl,v3,⟨by rw[hn2];exact s3,fun i hi=>by rw[a3] at hi;cases hi;exact M2.1,c3⟩,rfl,rfl,rfl,trivial⟩
  ·obtain⟨M2,nn2,v2,N2,g0,g9,g6,_⟩:=hI
   refine GoF.norm [(6,v2)] ⟨g6,trivial⟩ fun g=>?_
   refine wk ?_
   exact GoF.ret ⟨rfl,_,rfl,N2,M2,by rw[nn2];show _+1+(nzl xs+nzl ys)=_;omega⟩
theorem hforms_go(hc:HCc (b.envK K)){σ:St}{xs ys:List AV}{o1 o2:Bool}(hx:∀x∈xs,conf (some 4) x=true)(hy:∀x∈ys,conf (some 4) x=true)(h1:1≤xs.length+ys.length)(h2:xs.length+ys.length≤600):
  GoesCall (b.envK K) 0 (.f (.func n_hforms) [] []) [.ag [slA o1 (some 4) xs,slA o2 (some 4) ys]] σ (fun r τ=>∃v,r= .ok v∧Nf σ τ v (xs++ys)∧Mr σ τ∧τ.next=σ.next+(3+nzl xs+nzl ys)):=by
 refine W.code hc.forms.e hc.forms.p hc.forms.f rfl rfl rfl rfl fun z=>?_
 have H:Has σ []:=Has.nil
 have hcx:conf none (slA o1 (some 4) xs)=true:=slA_cf
 have hcy:conf none (slA o2 (some 4) ys)=true:=slA_cf
 refine wk ?_
 refine W.bx (c:=[slA o1 (some 4) xs,slA o2 (some 4) ys]) H rfl rfl rfl rfl rfl rfl fun τ n1 H k1=>?_
 refine wk ?_
 refine W.bs (c:=[slA o1 (some 4) xs,slA o2 (some 4) ys]) H n1 rfl rfl ?_ fun τ2 n2 H k2=>?_
 ·cases xs<;>cases ys<;>rfl
 refine wk ?_
 refine W.cl trivial rfl rfl rfl (ConcatF_go hc hx hy h1 h2 (H.get _ (.head _))) fun r τ3 ⟨v,e,N3,M3,n3⟩=>⟨_,e,?_⟩
 refine wk ?_
 have m3:=M3.1
 exact GoF.ret ⟨rfl,_,rfl,⟨N3.sl,fun i hi=>by have:=N3.lo i hi;omega,N3.nc⟩,⟨by omega,fun i o ho=>M3.2 _ _ (k2 _ _ (k1 _ _ ho))⟩,by omega⟩
theorem IndexFuncF_go(hfn:∀g ar r r',K g ar r→K g ar r'→r=r')(hi:Here (b.envK K) n_IndexFuncF c63){tv:Nat}(hm:b.meth tv hnL =some n_vlong)(el:b.ext n_vlong=0∧b.pure n_vlong=true){σ:St}{v:AV}{xs:List AV}(hv:Vw σ (some 4) v xs)(hl:xs.length<2^62)
  (hK:∀x∈xs,∃x',(∀τ,snapshot τ (b.fz+1000) x=some x')∧K n_vlong [vals,x'] (.b false)):GoesCall (b.envK K) 0 (.f (.func n_IndexFuncF) [] []) [v,.f (.method hnL) [.it tv vals] []] σ (fun r τ=>r= .ok (.i .i64 (-1))∧τ=σ):=by
 refine W.code hi.e hi.p hi.f rfl rfl rfl rfl fun z=>?_
 have H:Has σ []:=Has.nil
 refine wk ?_
 show GoW _ _ _ _ _ _ _ _
 refine GoF.each xs.length (fun j f τ'=>τ'=σ∧sat [(0,v),(1,.f (.method hnL) [.it tv vals] []),(6,v)] f) hl ⟨rfl,rfl,rfl,rfl,trivial⟩ rfl rfl (fun j g τ' hj hI hi hm'=>?_) (fun g τ' hI hi=>?_)
 ·obtain⟨rfl,g0,g1,g6,_⟩:=hI
  refine GoF.norm [(0,v),(1,.f (.method hnL) [.it tv vals] []),(6,v),(8,nI j),(7,nI xs.length)] ⟨g0,g1,g6,hi,hm',trivial⟩ fun g=>?_
  obtain⟨x',hs,hk⟩:=hK _ (List.getElem_mem hj)
  refine wk ?_
  refine W.mt hfn hm el hk rfl rfl rfl (snaps2 rfl (hs _)) ?_
  refine wk ?_
  exact⟨rfl,rfl,rfl,rfl,rfl,rfl,trivial⟩
 ·obtain⟨rfl,_⟩:=hI
  refine GoF.norm [] trivial fun g=>?_
  refine wk ?_
  exact GoF.ret ⟨rfl,rfl,rfl⟩
theorem ContainsFuncF_go(hfn:∀g ar r r',K g ar r→K g ar r'→r=r')(hc:Here (b.envK K) n_ContainsFuncF c45)(hi:Here (b.envK K) n_IndexFuncF c63){tv:Nat}(hm:b.meth tv hnL =some n_vlong)(el:b.ext n_vlong=0∧b.pure n_vlong=true){σ:St}{v:AV}{xs:List AV}(hv:Vw σ (some 4) v xs)(hl:xs.length<2^62)
  (hK:∀x∈xs,∃x',(∀τ,snapshot τ (b.fz+1000) x=some x')∧K n_vlong [vals,x'] (.b false)):GoesCall (b.envK K) 0 (.f (.func n_ContainsFuncF) [] []) [v,.f (.method hnL) [.it tv vals] []] σ (fun r τ=>r= .ok (.b false)∧τ=σ):=by
 refine W.code hc.e hc.p hc.f rfl rfl rfl rfl fun z=>?_
 have H:Has σ []:=Has.nil
 refine wk ?_
 refine W.cl trivial rfl rfl rfl (IndexFuncF_go hfn hi hm el hv hl hK) fun r τ ⟨e,e2⟩=>⟨_,e,?_⟩
 subst e2
 refine wk ?_
 refine W.val (v:=.b false) (σ':=τ) rfl rfl rfl ?_
 refine wk ?_
 exact GoF.ret ⟨rfl,rfl,rfl⟩
end
end
section
variable [Tok][TokOk]
open Go.RowKit Go.Lyc.T
theorem keyEq_s(a b:List Nat):keyEq (.inl 1) (.s a) (.s b)=some (decide (a=b)):=by
 show some (eqL a b)=_
 rw[eqL_dec]
theorem KeysS1_go{env:Env}(hh:Here env n_KeysS1 c193){W:Nat→Prop}{B mid bx:Nat}{ks:List (List Nat)}(I:List (List Nat)→St→Prop)(hI:∀c σ σ',I c σ→NoIt σ σ'→I c σ')(yv:AV)
  (hy:∀k c σ,B≤σ.next→c.length<ks.length→I c σ→GoesCall env 0 yv [AV.s k] σ (fun r σ'=>r= .ok (.b true)∧I (c++[k]) σ'∧KI B W σ σ')) (σ:St) (hB:B≤σ.next) (hmB:mid<B) (hmW:¬W mid)
  (hm:σ.get mid=some (.map (setE AV.s 0 ks) ks.length)) (hbx:σ.get bx=some (.cells [.m (some mid)])) (h0:I [] σ):
  GoesCall env 0 (.f (.func n_KeysS1) [] [.p (some (bx,0))]) [yv] σ (fun r σ'=>r= .ok (.tu [])∧∃c,c.Perm ks∧I c σ'∧σ.next≤σ'.next∧∀i o,i<B→¬W i→σ.get i=some o→σ'.get i=some o):=by
 refine GoesCall.code0 hh.e hh.p hh.f rfl rfl rfl ?_
 refine GoF.seq (GoF.region ?_)
 refine GoO.ld (v:=.m (some mid)) hbx rfl rfl rfl rfl ?_
 generalize hk:σ.next=k at hB
 refine GoO.rangeS k hk hm rfl rfl fun σ1 n1 hit k1=>?_
 refine GoO.nil (GoF.block ?_)
 refine GoF.loop (fun m f τ=>k+1≤τ.next∧∃seen c,m=(leftK seen 0 ks).length∧(c++(leftK seen 0 ks).map Prod.fst).Perm ks∧τ.get k=some (.mapIter (some mid) ks.length seen ks.length)∧I c τ∧(∀i o,i<B→¬W i→σ.get i=some o→τ.get i=some o)∧
  sat [(0,yv),(5,.p (some (k,0)))] f) ?_ (leftK [] 0 ks).length ⟨by omega,[],[],rfl,by rw[leftK_nil];exact .refl _,hit,hI _ _ _ h0 ⟨by omega,fun i o _ ho=>k1 i o ho⟩,fun i o _ _ ho=>k1 i o ho,rfl,rfl,trivial⟩
 clear hit n1 k1 h0
 intro m g τ ⟨hn,seen,c,hmm,hperm,hit,hIc,hold,hL⟩
 refine GoF.norm _ hL fun g=>?_
 clear hL
 have hm':=hold mid _ hmB hmW hm
 refine GoF.seq (GoF.region ?_)
 refine GoO.nextS hit hm' rfl rfl (fun hnil=>?_) (fun p hp σ2 n2 hit2 k2=>?_)
 ·refine GoO.go rfl rfl rfl rfl ?_
  refine GoO.nil (GoF.seq ?_)
  refine GoF.cnd rfl (fun h=>by cases h) (fun _=>?_)
  refine GoF.exit ?_
  rw[hnil,List.map_nil,List.append_nil] at hperm
  exact⟨.inr rfl,rfl,c,hperm,hIc,by omega,hold⟩
 ·refine GoO.go rfl rfl rfl rfl ?_
  refine GoO.nil (GoF.seq ?_)
  refine GoF.cnd rfl (fun _=>?_) (fun h=>by cases h)
  have hmk:mid≠k:=by omega
  have hm2:=k2 _ _ hmk hm'
  refine GoF.skip (GoF.block (GoF.seq (GoF.region ?_)))
  refine GoO.entryS hp hit2 hm2 rfl rfl ?_
  refine GoO.go rfl rfl rfl rfl ?_
  refine GoO.go rfl rfl rfl rfl ?_
  refine GoO.nil (GoF.seq (GoF.region ?_))
  refine GoO.go rfl rfl rfl rfl ?_
  refine GoO.go rfl rfl rfl rfl ?_
  have hstep:=leftK_step seen ks 0 p hp
  have hlen:=hperm.length_eq
  have hlen2:=hstep.length_eq
  rw[List.length_append,List.length_map] at hlen
  rw[List.length_cons] at hlen2
  have hI3:I c σ2:=hI _ _ _ hIc ⟨by omega,fun i o hne ho=>k2 i o (fun e=>by subst e;rw[hit] at ho;cases ho;exact hne _ _ _ _ rfl) ho⟩
  refine GoO.callG rfl rfl rfl (hy p.1 c σ2 (by omega) (by omega) hI3) fun r σ4 ⟨e4,hI4,K4⟩=>⟨_,e4,?_⟩
  refine GoO.go rfl rfl rfl rfl ?_
  refine GoO.nil (GoF.cnd rfl (fun h=>by cases h) (fun _=>?_))
  have n4:=K4.next
  refine GoF.skip ⟨(leftK (seen++[p.2]) 0 ks).length,by omega,by omega,seen++[p.2],c++[p.1],rfl,?_,K4.it _ _ _ _ _ hit2,hI4,fun i o hi hw ho=>K4.old i o hi hw (k2 i o (by omega) (hold i o hi hw ho)),rfl,rfl,trivial⟩
  refine List.Perm.trans ?_ hperm
  rw[List.append_assoc]
  exact(hstep.map Prod.fst).append_left c
theorem KeysS_go{env:Env}(hh:Here env n_KeysS c147)(mid:Nat)(σ:St)(k:Nat)(hk:σ.next=k):GoesCall env 0 (.f (.func n_KeysS) [] []) [.m (some mid)] σ (fun r σ'=>r= .ok (.f (.func n_KeysS1) [] [.p (some (k,0))])∧σ'.next=k+1∧σ'.get k=some (.cells [.m (some mid)])∧∀i o,σ.get i=some o→σ'.get i=some o):=by
 refine GoesCall.code hh.e hh.p hh.f rfl rfl rfl rfl ?_
 refine GoF.seq (GoF.region (GoO.box (v:=.m (some mid)) (c:=[.m (some mid)]) k hk rfl rfl rfl rfl rfl fun τ hn h1 k1=>?_))
 refine sS ?_
 exact GoF.ret ⟨rfl,rfl,hn,h1,k1⟩
theorem GoX.keysS{env:Env}{D:List (Nat ⊕ (AV×List AV))}{n:Nat}{f:Nat→AV}{σ:St}{Q:PostF}(hk1:Here env n_KeysS1 c193){fo:AOpd}{p:Nat}{asn b:ACode}{mid bx:Nat}{ks:List (List Nat)}(W:Nat→Prop)(S:List (List Nat)→St→Prop)(k:Nat)(hk:σ.next=k)
  (hfo:evF env n f fo=some (.f (.func n_KeysS1) [] [.p (some (bx,0))])) (hp:Nat.blt p n=true) (hm:σ.get mid=some (.map (setE AV.s 0 ks) ks.length)) (hbx:σ.get bx=some (.cells [.m (some mid)])) (hW:∀i,W i→i<k) (hmW:¬W mid)
  (hS:∀c τ τ',S c τ→τ.next≤τ'.next→(∀i o,i≠k+1→(∀a b c d,o≠ .mapIter a b c d)→τ.get i=some o→τ'.get i=some o)→S c τ') (h0:S [] σ)
  (hround:∀y c τ,k+2≤τ.next→c.length<ks.length→S c τ→GoW env (some (k+1)) [] n asn (upd f p (AV.s y)) τ (fun x f1 τ1=>x= .normal∧More τ τ1∧
   ∀τ2,τ2.next=τ1.next→(∀i o,i≠k+1→τ1.get i=some o→τ2.get i=some o)→GoW env (some (k+1)) [] n b f1 τ2 (fun x _ τ3=>x= .normal∧S (c++[y]) τ3∧KI (k+2) W τ2 τ3)))
  (hend:∀c τ,c.Perm ks→S c τ→k+2≤τ.next→τ.get k=some .dblk→(∀i o,¬W i→σ.get i=some o→τ.get i=some o)→Q .normal f τ):GoX env D (.inl k::D) n (.rangeFunc fo [p] asn b) f σ Q:=by
 subst hk
 refine GoX.range hfo hk1.e fun sl hsl=>?_
 generalize hk:σ.next=k at *
 obtain⟨σ2,e2,n2,hl2,hd2,k2⟩:∃σ2:St,(σ.push .dblk).push (.loop .ready none sl [p] asn b k)=σ2∧σ2.next=k+2∧σ2.get (k+1)=some (.loop .ready none sl [p] asn b k)∧σ2.get k=some .dblk∧∀i o,σ.get i=some o→σ2.get i=some o:=by
  refine⟨_,rfl,by show σ.next+1+1=_;omega,?_,?_,fun i o ho=>?_⟩
  ·have:=St.get_push_new (σ:=σ.push .dblk) (.loop .ready none sl [p] asn b k)
   rwa[show(σ.push .dblk).next=k+1 from by show σ.next+1=_;omega] at this
  ·rw[St.get_push_old trivial _ (show k<(σ.push .dblk).next from by show k<σ.next+1;omega)]
   have:=St.get_push_new (σ:=σ) .dblk
   rwa[hk] at this
  ·have:=St.get_lt ho
   rw[St.get_push_old trivial _ (show i<(σ.push .dblk).next from by show i<σ.next+1;omega),St.get_push_old trivial _ this];exact ho
 rw[e2]
 clear e2
 have hmk:=St.get_lt hm
 have hWl:¬W (k+1):=fun h=>by have:=hW _ h;omega
 have hWk:¬W k:=fun h=>by have:=hW _ h;omega
 refine(KeysS1_go hk1 (W:=fun i=>W i∨i=k+1) (B:=k+2) (mid:=mid) (bx:=bx) (ks:=ks)
  (fun c τ=>S c τ∧τ.get (k+1)=some (.loop .ready none sl [p] asn b k)) ?_ (.f (.yield (k+1)) [] []) ?_ σ2 (by omega) (by omega) (fun h=>h.elim hmW (by omega)) (k2 _ _ hm) (k2 _ _ hbx) ⟨hS _ _ _ h0 (by omega) fun i o _ _ ho=>k2 i o ho,hl2⟩).mono ?_
 ·rintro c τ τ' ⟨a1,a2⟩ ⟨b1,b2⟩
  exact⟨hS _ _ _ a1 b1 fun i o _ h ho=>b2 i o h ho,b2 _ _ (by intros;simp) a2⟩
 ·rintro y c τ hB hlt ⟨a1,a2⟩
  refine(GoesCall.round (R:=fun σ'=>(S (c++[y]) σ'∧σ'.get (k+1)=some (.loop .ready none sl [p] asn b k))∧KI (k+2) (fun i=>W i∨i=k+1) τ σ') (f:=f) (n:=n) a2 hsl (by show cond (Nat.blt p n) _ _=true;rw[hp];rfl) rfl ?_).mono fun r σ' h=>h
  refine(hround y c τ hB hlt a1).mono fun x f1 τ1 ⟨e1,K1,h1⟩=>?_
  have hl1:=K1.2 _ _ a2
  have hset:=set_get (o':=.loop .busy none sl [p] asn b k) hl1
  refine⟨e1,hl1,(h1 (τ1.set (k+1) (.loop .busy none sl [p] asn b k)) rfl (fun i o hi ho=>hset.2 i o hi ho)).mono fun x _ τ3 ⟨e2,hS3,K3⟩=>?_⟩
  have hl3:=K3.old _ _ (by omega) hWl hset.1
  have hset3:=set_get (o':=.loop .ready none sl [p] asn b k) hl3
  have n1:=K1.1
  have n3:τ1.next≤τ3.next:=K3.next
  have hne:∀ {i:Nat} {a b' c' d'},τ1.get i=some (.mapIter a b' c' d')→i≠k+1:=fun h e=>by subst e;rw[hl1] at h;cases h
  have hne3:∀ {i:Nat} {a b' c' d'},τ3.get i=some (.mapIter a b' c' d')→i≠k+1:=fun h e=>by subst e;rw[hl3] at h;cases h
  refine⟨e2,hl3,⟨hS _ _ _ hS3 (Nat.le_refl _) fun i o hi _ ho=>hset3.2 i o hi ho,hset3.1⟩,by show τ.next≤τ3.next;omega,fun i o hi hw ho=>?_,fun i a b' c' d' ho=>?_⟩
  ·have hi1:i≠k+1:=fun e=>hw (.inr e)
   exact hset3.2 i o hi1 (K3.old i o hi (fun e=>hw (.inl e)) (hset.2 i o hi1 (K1.2 i o ho)))
  ·have h1:=K1.2 _ _ ho
   have h3:=K3.it _ _ _ _ _ (hset.2 _ _ (hne h1) h1)
   exact hset3.2 _ _ (hne3 h3) h3
 ·rintro r τ ⟨e1,c,hc,⟨a1,a2⟩,b1,b2⟩
  have hset:=set_get (o':=.loop .exhausted none sl [p] asn b k) a2
  refine⟨_,.ready,e1,a2,by simp,hend c _ hc (hS _ _ _ a1 (Nat.le_refl _) fun i o hi _ ho=>hset.2 i o hi ho) (by show k+2≤τ.next;omega) (hset.2 _ _ (by omega) (b2 _ _ (by omega) (fun h=>h.elim hWk (by omega)) hd2)) fun i o hi ho=>?_⟩
  have:=St.get_lt ho
  exact hset.2 i o (by omega) (b2 i o (by omega) (fun h=>h.elim hi (by omega)) (k2 i o ho))
theorem AppendSeqS_go{env:Env}(hh:Here env n_AppendSeqS c239)(hk1:Here env n_KeysS1 c193){mid bx:Nat}{ks:List (List Nat)}(hks:ks.length≤1000000)(σ:St)(hm:σ.get mid=some (.map (setE AV.s 0 ks) ks.length))(hbx:σ.get bx=some (.cells [.m (some mid)])):
  GoesCall env 0 (.f (.func n_AppendSeqS) [] []) [.nilsl,.f (.func n_KeysS1) [] [.p (some (bx,0))]] σ (fun r σ'=>∃(v:AV) (c:List (List Nat)),r= .ok v∧c.Perm ks∧Acc σ' none v (c.map AV.s)∧(∀a,v.at? =some a→σ.next≤a)∧More σ σ'):=by
 generalize hk:σ.next=k
 refine GoesCall.codeX (d:=k+1) hh.e hh.p hh.f rfl rfl rfl rfl ?_
 refine GoX.seqA (GoF.region (GoO.box (v:=.nilsl) (c:=[.nilsl]) k hk rfl rfl rfl rfl rfl fun σ1 n1 h1 k1=>?_))
 refine sO ?_
 refine⟨rfl,GoX.seqB (GoX.seqA (GoF.region ?_))⟩
 refine sO ?_
 refine⟨rfl,GoX.block ?_⟩
 have hmk:=St.get_lt hm
 refine GoX.keysS hk1 (fun i=>i=k) (fun c τ=>∃v,τ.get k=some (.cells [v])∧Acc τ none v (c.map AV.s)∧∀a,v.at? =some a→k+3≤a∧a<τ.next) (k+1) n1 rfl rfl (k1 _ _ hm) (k1 _ _ hbx) (fun i hi=>by omega) (by omega) ?_ ⟨.nilsl,h1,.nil,fun a h=>by cases h⟩ ?_ ?_
 ·rintro c τ τ' ⟨v,a4,a5,a6⟩ b1 b2
  exact⟨v,b2 _ _ (by omega) (by intros;simp) a4,a5.keep' fun i c hi h=>b2 _ _ (by have:=a6 i hi;omega) (by intros;simp) h,fun a h=>by have:=a6 a h;omega⟩
 ·rintro y c τ hB hlt ⟨v,a4,a5,a6⟩
  refine GoF.region ?_
  refine GoO.go rfl rfl rfl rfl ?_
  refine GoO.nil ⟨rfl,⟨Nat.le_refl _,fun i o ho=>ho⟩,fun τ2 m2 r2=>?_⟩
  have q2:∀i o,i≠k+2→τ.get i=some o→τ2.get i=some o:=fun i o hi ho=>r2 i o hi ho
  have a4':=q2 _ _ (by omega) a4
  have hA:=a5.keep fun i o hi ho=>q2 i o (by have:=a6 i hi;omega) ho
  refine GoF.block (GoF.region ?_)
  refine GoO.ld (v:=v) a4' rfl rfl rfl hA.take0 ?_
  refine GoO.go rfl rfl rfl rfl ?_
  refine GoO.push1 (y:=AV.s y) hA rfl rfl rfl (by rw[List.length_map];omega) rfl rfl fun v' τ3 hA' hat m3 q3=>?_
  refine GoO.store (c':=[v']) (q3 _ _ (fun e=>by have:=a6 _ e;omega) a4') rfl rfl rfl hA'.conf0 (by show storeCells _ 0 v'.cells=_;rw[conf_none_cells hA'.conf0];rfl) fun τ4 m4 g4 q4=>?_
  refine GoO.nil ⟨rfl,⟨v',g4,?_,fun a e=>by rw[hat] at e;cases e;omega⟩,by omega,fun i o hi hw ho=>q4 i o hw (q3 i o (fun e=>by have:=a6 _ e;omega) ho),fun i a b' c' d' ho=>?_⟩
  ·rw[List.map_append]
   exact hA'.keep fun i o hi ho=>by
    rw[hat] at hi;cases hi
    exact q4 _ _ (by omega) ho
  ·refine q4 _ _ (fun e=>by subst e;rw[a4'] at ho;cases ho) (q3 _ _ (fun e=>?_) ho)
   obtain⟨c0,hc0⟩:=hA.isc e
   rw[hc0] at ho;cases ho
 ·rintro c τ hc ⟨v,a4,a5,a6⟩ hn hd hold
  refine⟨rfl,rfl,?_⟩
  refine GoF.seq (GoF.region ?_)
  refine GoO.ld (v:=v) a4 rfl rfl rfl a5.take0 ?_
  refine sO ?_
  have hset:=set_get (o':=AO.dead) hd
  refine GoF.ret ⟨rfl,hd,v,c,rfl,hc,a5.keep fun i o hi ho=>hset.2 i o (by have:=a6 i hi;omega) ho,fun a h=>by have:=a6 a h;omega,by show σ.next≤τ.next;omega,fun i o ho=>?_⟩
  have:=St.get_lt ho
  exact hset.2 i o (by omega) (hold i o (by omega) (k1 i o ho))
section
variable {b:Base}{K:Nat→List AV→AV→Prop}
theorem CollectS_go(hh:Here (b.envK K) n_CollectS c191)(ha:Here (b.envK K) n_AppendSeqS c239)(hk1:Here (b.envK K) n_KeysS1 c193){mid bx:Nat}{ks:List (List Nat)}(hks:ks.length≤1000000)(σ:St)(hm:σ.get mid=some (.map (setE AV.s 0 ks) ks.length))(hbx:σ.get bx=some (.cells [.m (some mid)])):
  GoesCall (b.envK K) 0 (.f (.func n_CollectS) [] []) [.f (.func n_KeysS1) [] [.p (some (bx,0))]] σ (fun r σ'=>∃(v:AV) (c:List (List Nat)),r= .ok v∧c.Perm ks∧Acc σ' none v (c.map AV.s)∧(∀a,v.at? =some a→σ.next≤a)∧More σ σ'):=by
 refine GoesCall.code hh.e hh.p hh.f rfl rfl rfl rfl ?_
 refine GoF.seq (GoF.region ?_)
 refine GoO.go rfl rfl rfl rfl ?_
 refine GoO.nil (GoF.seq (GoF.region ?_))
 refine GoO.go rfl rfl rfl rfl ?_
 refine GoO.callG rfl rfl rfl (AppendSeqS_go ha hk1 hks σ hm hbx) fun r σ2 ⟨v,c,e1,h1,h2,h3,h4⟩=>⟨_,e1,?_⟩
 refine GoO.go rfl rfl rfl rfl ?_
 exact GoO.nil (GoF.ret ⟨rfl,_,c,rfl,h1,h2,h3,h4⟩)
end
def srt2(l:List (List Nat)):Prop:=∀a c,l=[a,c]→lssL c a=false
theorem srt2_one{l:List (List Nat)}(h:l.length≤1):srt2 l:=fun a c e=>by subst e;simp at h
theorem two_of{l:List (List Nat)}(h:0+1<l.length){a c:List Nat}(e:l=[a,c]):l[0+1]=c∧l[0]=a:=by subst e;exact⟨rfl,rfl⟩
theorem srt2_of{l:List (List Nat)}(h:0+1<l.length)(h2:lssL l[0+1] l[0]=false):srt2 l:=fun a c e=>by
 obtain⟨e1,e2⟩:=two_of h e
 rw[e1,e2] at h2;exact h2
theorem srt2_swap{l:List (List Nat)}(h:0+1<l.length)(h2:lssL l[0] l[0+1]=false):srt2 ((l.set (0+1) l[0]).set 0 l[0+1]):=fun a c e=>by
 have e1:((l.set (0+1) l[0]).set 0 l[0+1])[0]? =some l[0+1]:=by rw[List.getElem?_set_self (by rw[List.length_set];omega)]
 have e2:((l.set (0+1) l[0]).set 0 l[0+1])[1]? =some l[0]:=by rw[List.getElem?_set_ne (by decide),List.getElem?_set_self (by omega)]
 rw[e] at e1 e2
 cases e1;cases e2;exact h2
theorem swapS_perm{l:List (List Nat)}{j:Nat}(hj:j+1<l.length):((l.set (j+1) l[j]).set j l[j+1]).Perm l:=List.set_set_perm (i:=j+1) (j:=j) (by omega) (by omega)
section
variable {b:Base}{K:Nat→List AV→AV→Prop}(hf:∀g ar r r',K g ar r→K g ar r'→r=r')
include hf in
theorem insS_go(hh:Here (b.envK K) n_insS c273){l:List (List Nat)}(hs1:∀a∈l,∀c∈l,K n_LessS [AV.s a,AV.s c] (.b (lssL a c)))(hsy:∀a∈l,∀c∈l,lssL a c=true→lssL c a=false)(es1:b.ext n_LessS=0∧b.pure n_LessS=true){v:AV}(hl:l.length≤2)(σ:St)(hA:Acc σ none v (l.map AV.s)):
  GoesCall (b.envK K) 0 (.f (.func n_insS) [] []) [v,nI 0,nI l.length] σ (fun r σ'=>r= .ok (.tu [])∧σ'.next=σ.next∧(∃l':List (List Nat),l'.Perm l∧srt2 l'∧Acc σ' none v (l'.map AV.s))∧∀i o,v.at? ≠some i→σ.get i=some o→σ'.get i=some o):=by
 refine GoesCall.code0 hh.e hh.p hh.f rfl rfl rfl ?_
 refine GoF.seq (GoF.region ?_)
 refine GoO.go rfl rfl rfl rfl ?_
 refine GoO.bin (a:=nI 0) (b:=nI 1) rfl rfl rfl rfl (bin_add (by omega)) ?_
 refine GoO.go rfl rfl rfl rfl ?_
 refine GoO.nil (GoF.block ?_)
 refine GoF.loop (fun m f τ=>∃(i:Nat) (l':List (List Nat)),i+m=l.length+1∧1≤i∧(2≤i→srt2 l')∧l'.Perm l∧Acc τ none v (l'.map AV.s)∧τ.next=σ.next∧(∀i o,v.at? ≠some i→σ.get i=some o→τ.get i=some o)∧
  sat [(0,v),(1,nI 0),(2,nI l.length),(6,nI i)] f) ?_ l.length ⟨1,l,by omega,by omega,fun h=>by omega,.refl _,hA,rfl,fun i o _ h=>h,rfl,rfl,rfl,rfl,trivial⟩
 intro m g τ ⟨i,l',hi,hi1,hsr,hp,hA',hn,hold,hL⟩
 refine GoF.norm _ hL fun g=>?_
 clear hL
 refine GoF.seq (GoF.seq (GoF.region ?_))
 refine GoO.go rfl rfl rfl rfl ?_
 refine GoO.go rfl rfl rfl rfl ?_
 refine GoO.bin (a:=nI i) (b:=nI l.length) (v:=.b (decide (i<l.length))) rfl rfl rfl rfl (bin_cmp rfl) ?_
 refine GoO.nil ?_
 refine GoF.cnd rfl (fun ht=>?_) (fun hfl=>?_)
 ·have hlt:i<l.length:=of_decide_eq_true ht
  have hll:=hp.length_eq
  refine GoF.skip (GoF.seq ?_)
  refine GoF.block (GoF.seq (GoF.region ?_))
  refine GoO.go rfl rfl rfl rfl ?_
  refine GoO.go rfl rfl rfl rfl ?_
  refine GoO.nil (GoF.block ?_)
  refine GoF.loop (fun m f τ=>m≤i∧∃l':List (List Nat),(m=0→srt2 l')∧l'.Perm l∧Acc τ none v (l'.map AV.s)∧τ.next=σ.next∧(∀i o,v.at? ≠some i→σ.get i=some o→τ.get i=some o)∧
   sat [(0,v),(1,nI 0),(2,nI l.length),(6,nI i),(7,nI m)] f) ?_ i ⟨Nat.le_refl _,l',fun h=>by omega,hp,hA',hn,hold,rfl,rfl,rfl,rfl,rfl,trivial⟩
  clear hA' hold hn hp hll hsr
  intro j g τ ⟨hji,l',hj0s,hp,hA',hn,hold,hL⟩
  refine GoF.norm _ hL fun g=>?_
  clear hL
  have hll:=hp.length_eq
  have fin:srt2 l'→∀ {f:Nat→AV},sat [(0,v),(1,nI 0),(2,nI l.length),(6,nI i)] f→GoW (b.envK K) none [] 49 (.region [⟨(some 13),.mv (.t 6),none,[]⟩,⟨(some 14),.bin .add (.t 13) (.c (.i .i64 1)),none,[]⟩,⟨(some 6),.mv (.t 14),none,[]⟩]) f τ (fun x f' σ'=>match x with
   | .normal=>∃m',m'<m∧∃(i:Nat) (l':List (List Nat)),i+m'=l.length+1∧1≤i∧(2≤i→srt2 l')∧l'.Perm l∧Acc σ' none v (l'.map AV.s)∧σ'.next=σ.next∧(∀i o,v.at? ≠some i→σ.get i=some o→σ'.get i=some o)∧sat [(0,v),(1,nI 0),(2,nI l.length),(6,nI i)] f'
   |_=>False):=by
   intro hss f hs
   refine GoF.norm _ hs fun g=>?_
   refine GoF.region ?_
   refine GoO.go rfl rfl rfl rfl ?_
   refine GoO.bin (a:=nI i) (b:=nI 1) rfl rfl rfl rfl (bin_add (by omega)) ?_
   refine GoO.go rfl rfl rfl rfl ?_
   exact GoO.nil ⟨m-1,by omega,i+1,l',by omega,by omega,fun _=>hss,hp,hA',hn,hold,rfl,rfl,rfl,rfl,trivial⟩
  obtain⟨o,hv,ho,hcf⟩:=hA'.inv (by rw[List.length_map];omega)
  rw[List.length_map] at hv
  subst hv
  refine GoF.seq (GoF.seq (GoF.draw rfl rfl ?_))
  refine GoP.go rfl rfl rfl rfl ?_
  refine GoP.go rfl rfl rfl rfl ?_
  refine GoP.cmp (a:=j) (b:=0) rfl rfl rfl rfl rfl ?_
  by_cases hj0:0<j
  ·rw[show decide (0<j)=true from decide_eq_true hj0]
   obtain⟨j,rfl⟩:∃q,j=q+1:=⟨j-1,by omega⟩
   have hj1:j+1<l'.length:=by omega
   have e1:takeSh none (((l'.map AV.s).flatMap AV.cells).drop (0+(j+1)*shN none))=some (AV.s l'[j+1]):=by
    rw[take_elem (by rw[List.length_map];omega) hcf,List.getElem_map]
   have e2:takeSh none (((l'.map AV.s).flatMap AV.cells).drop (0+j*shN none))=some (AV.s (l'[j]'(by omega))):=by
    rw[take_elem (by rw[List.length_map];omega) hcf,List.getElem_map]
   refine GoP.go rfl rfl rfl rfl ?_
   refine GoP.go rfl rfl rfl rfl ?_
   refine GoP.go rfl rfl rfl rfl ?_
   refine GoP.idx (j:=j+1) rfl rfl rfl rfl (idxSlA_sl hj1) ?_
   refine GoP.ld (v:=AV.s l'[j+1]) ho rfl rfl rfl e1 ?_
   refine GoP.go rfl rfl rfl rfl ?_
   refine GoP.go rfl rfl rfl rfl ?_
   refine GoP.bin (a:=nI (j+1)) (b:=nI 1) rfl rfl rfl rfl (bin_sub (by omega) (by omega)) ?_
   refine GoP.idx (j:=j) rfl rfl rfl rfl (idxSlA_sl (by omega)) ?_
   refine GoP.ld (v:=AV.s (l'[j]'(by omega))) ho rfl rfl rfl e2 ?_
   refine GoP.known hf es1.1 es1.2 (hs1 l'[j+1] (hp.mem_iff.1 (List.getElem_mem _)) (l'[j]'(by omega)) (hp.mem_iff.1 (List.getElem_mem _))) rfl rfl rfl (snaps2 rfl rfl) ?_
   refine GoP.go rfl rfl rfl rfl ?_
   refine GoP.nil ?_
   refine GoF.cnd rfl (fun hlt2=>?_) (fun hlt2=>?_)
   ·refine GoF.skip (GoF.seq (GoF.block (GoF.drawK 0 rfl (GoK.fin (gs:=[]) .nil rfl ?_))))
    refine GoO.go rfl rfl rfl rfl ?_
    refine GoO.go rfl rfl rfl rfl ?_
    refine GoO.go rfl rfl rfl rfl ?_
    refine GoO.go rfl rfl rfl rfl ?_
    refine GoO.bin (a:=nI (j+1)) (b:=nI 1) rfl rfl rfl rfl (bin_sub (by omega) (by omega)) ?_
    refine GoO.go rfl rfl rfl rfl ?_
    refine GoO.go rfl rfl rfl rfl ?_
    refine GoO.bin (a:=nI (j+1)) (b:=nI 1) rfl rfl rfl rfl (bin_sub (by omega) (by omega)) ?_
    refine GoO.idx (j:=j) rfl rfl rfl rfl (idxSlA_sl (by omega)) ?_
    refine GoO.ld (v:=AV.s (l'[j]'(by omega))) ho rfl rfl rfl e2 ?_
    refine GoO.go rfl rfl rfl rfl ?_
    refine GoO.go rfl rfl rfl rfl ?_
    refine GoO.idx (j:=j+1) rfl rfl rfl rfl (idxSlA_sl hj1) ?_
    refine GoO.ld (v:=AV.s l'[j+1]) ho rfl rfl rfl e1 ?_
    refine GoO.idx (j:=j+1) rfl rfl rfl rfl (idxSlA_sl hj1) ?_
    refine GoO.setA (j:=j+1) (y:=AV.s (l'[j]'(by omega))) (v:=.sl o 0 l'.length none none) hA' rfl (by rw[List.length_map];omega) rfl rfl rfl rfl fun τ1 n1 A1 k1=>?_
    refine GoO.idx (j:=j) rfl rfl rfl rfl (idxSlA_sl (by omega)) ?_
    refine GoO.setA (j:=j) (y:=AV.s l'[j+1]) A1 rfl (by rw[List.length_set,List.length_map];omega) rfl rfl rfl rfl fun τ2 n2 A2 k2=>?_
    refine GoO.nil ⟨rfl,?_⟩
    refine GoF.region ?_
    refine GoO.go rfl rfl rfl rfl ?_
    refine GoO.bin (a:=nI (j+1)) (b:=nI 1) rfl rfl rfl rfl (bin_sub (by omega) (by omega)) ?_
    refine GoO.go rfl rfl rfl rfl ?_
    refine GoO.nil ⟨j,by omega,by omega,(l'.set (j+1) (l'[j]'(by omega))).set j l'[j+1],?_,(swapS_perm hj1).trans hp,?_,by omega,fun i o' h ho'=>k2 i o' (fun e=>h (by rw[e];rfl)) (k1 i o' (fun e=>h (by rw[e];rfl)) (hold i o' h ho')),rfl,rfl,rfl,rfl,rfl,trivial⟩
    ·obtain rfl:j=0:=by omega
     exact fun _=>srt2_swap hj1 (hsy _ (hp.mem_iff.1 (List.getElem_mem _)) _ (hp.mem_iff.1 (List.getElem_mem _)) hlt2)
    ·rw[List.map_set,List.map_set]
     exact A2
   ·refine GoF.exit ?_
    have hss:srt2 l':=by
     obtain rfl:j=0:=by omega
     exact srt2_of hj1 hlt2
    exact(fin hss ⟨rfl,rfl,rfl,rfl,trivial⟩).mono fun x f σ h=>by cases x<;>first|exact h|exact h.elim
  ·rw[show decide (0<j)=false from decide_eq_false hj0]
   refine sP ?_
   refine GoF.cnd rfl (fun h=>by cases h) (fun _=>?_)
   refine GoF.exit ?_
   exact(fin (hj0s (by omega)) ⟨rfl,rfl,rfl,rfl,trivial⟩).mono fun x f σ h=>by cases x<;>first|exact h|exact h.elim
 ·have hge:¬i<l.length:=of_decide_eq_false hfl
  refine GoF.exit ?_
  refine⟨.inr rfl,rfl,hn,⟨l',hp,?_,hA'⟩,hold⟩
  by_cases h2:2≤i
  ·exact hsr h2
  ·exact srt2_one (by have:=hp.length_eq;omega)
include hf in
theorem pdqS_go(hh:Here (b.envK K) n_pdqS c240)(hi:Here (b.envK K) n_insS c273){l:List (List Nat)}(hs1:∀a∈l,∀c∈l,K n_LessS [AV.s a,AV.s c] (.b (lssL a c)))(hsy:∀a∈l,∀c∈l,lssL a c=true→lssL c a=false)(es1:b.ext n_LessS=0∧b.pure n_LessS=true){v:AV}(hl:l.length≤2)(q:Int)(σ:St)(hA:Acc σ none v (l.map AV.s)):
  GoesCall (b.envK K) 0 (.f (.func n_pdqS) [] []) [v,nI 0,nI l.length,.i .i64 q] σ (fun r σ'=>r= .ok (.tu [])∧σ'.next=σ.next∧(∃l':List (List Nat),l'.Perm l∧srt2 l'∧Acc σ' none v (l'.map AV.s))∧∀i o,v.at? ≠some i→σ.get i=some o→σ'.get i=some o):=by
 refine GoesCall.code0 hh.e hh.p hh.f rfl rfl rfl ?_
 refine GoF.seq (GoF.region ?_)
 refine GoO.go rfl rfl rfl rfl ?_
 refine GoO.nil (GoF.seq (GoF.region ?_))
 refine GoO.go rfl rfl rfl rfl ?_
 refine GoO.nil (GoF.block ?_)
 refine GoF.loop (fun m f τ=>τ=σ∧sat [(0,v),(1,nI 0),(2,nI l.length)] f) ?_ 0 ⟨rfl,rfl,rfl,rfl,trivial⟩
 rintro m g τ ⟨rfl,hL⟩
 refine GoF.norm _ hL fun g=>?_
 clear hL
 refine GoF.block (GoF.seq (GoF.region ?_))
 refine GoO.go rfl rfl rfl rfl ?_
 refine GoO.go rfl rfl rfl rfl ?_
 refine GoO.bin (a:=nI l.length) (b:=nI 0) rfl rfl rfl rfl (bin_sub (by omega) (by omega)) ?_
 refine GoO.go rfl rfl rfl rfl ?_
 refine GoO.nil (GoF.seq (GoF.seq (GoF.region ?_)))
 refine GoO.go rfl rfl rfl rfl ?_
 refine GoO.bin (a:=nI (l.length-0)) (b:=nI 12) (v:=.b (decide (l.length-0≤12))) rfl rfl rfl rfl (bin_cmp rfl) ?_
 rw[show decide (l.length-0≤12)=true from decide_eq_true (by omega)]
 refine GoO.nil (GoF.cnd rfl (fun _=>?_) (fun h=>by cases h))
 refine GoF.seq (GoF.region ?_)
 refine GoO.go rfl rfl rfl rfl ?_
 refine GoO.go rfl rfl rfl rfl ?_
 refine GoO.go rfl rfl rfl rfl ?_
 refine GoO.callG rfl rfl rfl (insS_go hf hi hs1 hsy es1 hl τ hA) fun r σ2 ⟨e1,h1,h2,h3⟩=>⟨_,e1,?_⟩
 exact GoO.nil (GoF.ret ⟨.inl rfl,rfl,h1,h2,h3⟩)
include hf in
theorem SortS_go(hh:Here (b.envK K) n_SortS c192)(hln:Here (b.envK K) n_Len c241)(h6:Here (b.envK K) n_Len64 c283)(hp:Here (b.envK K) n_pdqS c240)(hi:Here (b.envK K) n_insS c273){l:List (List Nat)}(hs1:∀a∈l,∀c∈l,K n_LessS [AV.s a,AV.s c] (.b (lssL a c)))(hsy:∀a∈l,∀c∈l,lssL a c=true→lssL c a=false)(es1:b.ext n_LessS=0∧b.pure n_LessS=true){v:AV}(hl:l.length≤2)(σ:St)(hA:Acc σ none v (l.map AV.s)):
  GoesCall (b.envK K) 0 (.f (.func n_SortS) [] []) [v] σ (fun r σ'=>r= .ok (.tu [])∧σ'.next=σ.next∧(∃l':List (List Nat),l'.Perm l∧srt2 l'∧Acc σ' none v (l'.map AV.s))∧∀i o,v.at? ≠some i→σ.get i=some o→σ'.get i=some o):=by
 refine GoesCall.code0 hh.e hh.p hh.f rfl rfl rfl ?_
 refine GoF.seq (GoF.region ?_)
 refine GoO.go rfl rfl rfl rfl ?_
 refine GoO.len (m:=l.length) rfl rfl rfl (by have:=hA.len (τ:=σ);rwa[List.length_map] at this) ?_
 refine GoO.go rfl rfl rfl rfl ?_
 refine GoO.nil (GoF.region ?_)
 refine GoO.go rfl rfl rfl rfl ?_
 refine GoO.go rfl rfl rfl rfl ?_
 refine GoO.go rfl rfl rfl rfl ?_
 refine GoO.val rfl rfl (op_conv64 (m:=Int.ofNat l.length) rfl _) ?_
 have hw:wrapN .u64 (Int.ofNat l.length)=Int.ofNat l.length:=by
  have:(l.length:Int)<18446744073709551616:=by omega
  simp[wrapN,IntKind.wrap,IntKind.bits,IntKind.signed]
  omega
 rw[hw]
 refine GoO.callG rfl rfl rfl (Len_go hln h6 l.length (by omega) σ) fun r σ2 ⟨⟨q,e1⟩,e2⟩=>⟨_,e1,?_⟩
 subst e2
 refine GoO.callG rfl rfl rfl (pdqS_go hf hp hi hs1 hsy es1 hl q σ2 hA) fun r σ3 ⟨e1,h1,h2,h3⟩=>⟨_,e1,?_⟩
 exact GoO.nil ⟨.inr rfl,rfl,h1,h2,h3⟩
include hf in
theorem SortedS_go(hh:Here (b.envK K) n_SortedS c146)(hc:Here (b.envK K) n_CollectS c191)(ha:Here (b.envK K) n_AppendSeqS c239)(hk1:Here (b.envK K) n_KeysS1 c193)(hs:Here (b.envK K) n_SortS c192)(hln:Here (b.envK K) n_Len c241)(h6:Here (b.envK K) n_Len64 c283)(hp:Here (b.envK K) n_pdqS c240)(hi:Here (b.envK K) n_insS c273)
  {mid bx:Nat} {ks:List (List Nat)} (hs1:∀a∈ks,∀c∈ks,K n_LessS [AV.s a,AV.s c] (.b (lssL a c))) (hsy:∀a∈ks,∀c∈ks,lssL a c=true→lssL c a=false) (es1:b.ext n_LessS=0∧b.pure n_LessS=true) (hks:ks.length≤2) (σ:St) (hm:σ.get mid=some (.map (setE AV.s 0 ks) ks.length)) (hbx:σ.get bx=some (.cells [.m (some mid)])):
  GoesCall (b.envK K) 0 (.f (.func n_SortedS) [] []) [.f (.func n_KeysS1) [] [.p (some (bx,0))]] σ (fun r σ'=>∃(v:AV) (c:List (List Nat)),r= .ok v∧c.Perm ks∧srt2 c∧Acc σ' none v (c.map AV.s)∧(∀a,v.at? =some a→σ.next≤a)∧More σ σ'):=by
 refine GoesCall.code hh.e hh.p hh.f rfl rfl rfl rfl ?_
 refine GoF.seq (GoF.region ?_)
 refine GoO.go rfl rfl rfl rfl ?_
 refine GoO.nil (GoF.seq (GoF.region ?_))
 refine GoO.go rfl rfl rfl rfl ?_
 refine GoO.callG rfl rfl rfl (CollectS_go hc ha hk1 (by omega) σ hm hbx) fun r σ2 ⟨v,c,e1,h1,h2,h3,h4⟩=>⟨_,e1,?_⟩
 have hcl:=h1.length_eq
 refine GoO.go rfl rfl rfl rfl ?_
 refine GoO.nil (GoF.seq (GoF.region ?_))
 refine GoO.go rfl rfl rfl rfl ?_
 refine GoO.callG rfl rfl rfl (SortS_go hf hs hln h6 hp hi (l:=c) (fun a ha' d hd=>hs1 a (h1.mem_iff.1 ha') d (h1.mem_iff.1 hd)) (fun a ha' d hd=>hsy a (h1.mem_iff.1 ha') d (h1.mem_iff.1 hd)) es1 (by omega) σ2 h2) fun r σ3 ⟨e2,n3,⟨l',hp',hs',hA'⟩,k3⟩=>⟨_,e2,?_⟩
 refine GoO.nil (GoF.seq (GoF.region ?_))
 refine GoO.go rfl rfl rfl rfl ?_
 refine GoO.go rfl rfl rfl rfl ?_
 have hn:=h4.1
 exact GoO.nil (GoF.ret ⟨rfl,_,l',rfl,hp'.trans h1,hs',hA',h3,by omega,fun i o ho=>k3 i o (fun e=>by have:=h3 i e;have:=St.get_lt ho;omega) (h4.2 i o ho)⟩)
end
section
def atP:PF→List (List Nat)→List (List Nat)
 | .atm q,ks=>insE (PF.atm q).nm ks
 | .ff,ks=>ks
 | .neg a,ks=>atP a ks
 | .bin _ a c,ks=>atP c (atP a ks)
def atL(l:List PF)(ks:List (List Nat)):List (List Nat):=l.foldl (fun ks a=>atP a ks) ks
theorem atP_eq(a:PF)(ks:List (List Nat)):atP a ks=atL a.subs (if a.op=1 then insE a.nm ks else ks):=by
 cases a with
 |bin k a c=>
  have:¬(PF.bin k a c).op=1:=by show ¬ 4+k.val=1;omega
  rw[if_neg this];rfl
 |_=>rfl
theorem atL_take{l:List PF}{j:Nat}(hj:j<l.length)(ks:List (List Nat)):atL (l.take (j+1)) ks=atP l[j] (atL (l.take j) ks):=by
 unfold atL
 rw[List.take_succ_eq_append_getElem hj,List.foldl_append];rfl
theorem W.mu{α:Type}[DecidableEq α]{ka:α→AV}{sh:KeyK}{env:Env}{wh:Option Nat}{D:List (Nat ⊕ (AV×List AV))}{n:Nat}{F:List (Nat×AV)}{z:Nat→AV}{σ:St}{Q:PostF}(hk:∀a b,keyEq sh (ka a) (ka b)=some (decide (a=b))){ops:List AOper}{x y:AOpd}{mid:Nat}{k:α}{l:List α}(hm:σ.get mid=some (.map (setE ka 0 l) l.length))(h1:evL env n F z x=some (.m (some mid)))(h2:evL env n F z y=some (ka k))
  (h:∀σ':St,σ'.next=σ.next→σ'.get mid=some (.map (setE ka 0 (insE k l)) (insE k l).length)→(∀i o,i≠mid→σ.get i=some o→σ'.get i=some o)→GoM .pl env wh D n ops (upds F z) σ' Q):GoM .pl env wh D n (⟨none,.mapUpd sh x y (.c (.b true)),none,[]⟩::ops) (upds F z) σ Q:=
 GoO.mapUpdS hk hm (by rw[evL_eq];exact h1) (by rw[evL_eq];exact h2) h
theorem W.mm{env:Env}{wh:Option Nat}{D:List (Nat ⊕ (AV×List AV))}{n:Nat}{F:List (Nat×AV)}{z:Nat→AV}{σ:St}{Q:PostF}{d:Nat}{ops:List AOper}(k:Nat)(hn:σ.next=k)(hd:Nat.blt d n=true)
  (h:∀σ':St,σ'.next=k+1→σ'.get k=some (.map [] 0)→(∀i o,σ.get i=some o→σ'.get i=some o)→GoM .pl env wh D n ops (upds ((d,.m (some k))::F) z) σ' Q):GoM .pl env wh D n (⟨some d,.mkMap,none,[]⟩::ops) (upds F z) σ Q:=
 GoO.mkMap k hn hd h
attribute [local irreducible] GoM GoW GoV GoD GoesCall
section
variable {b:Base}{K:Nat→List AV→AV→Prop}
theorem addAtoms_go(hh:Here (b.envK K) n_addAtoms c389){mid:Nat}:∀(d:Nat) (a:PF),a.dep≤d→∀(σ:St) (ks:List (List Nat)),σ.get mid=some (.map (setE AV.s 0 ks) ks.length)→
  GoesCall (b.envK K) 0 (.f (.func n_addAtoms) [] []) [.ag (fc a.fm),.m (some mid)] σ (fun r τ=>r= .ok (.tu [])∧τ.get mid=some (.map (setE AV.s 0 (atP a ks)) (atP a ks).length)∧σ.next≤τ.next∧∀i o,i≠mid→σ.get i=some o→τ.get i=some o)
 |0,a,hd,_,_,_=>by cases a<;>simp[PF.dep] at hd
 |d+1,a,hd,σ,ks,hm=>by
  rw[PF.fc_eq]
  refine W.code0 hh.e hh.p hh.f rfl rfl rfl fun z=>?_
  have H:Has σ []:=Has.nil
  have hla:=a.subs_len
  have hmk:=St.get_lt hm
  have hsd:∀x∈a.subs,x.dep≤d:=fun x hx=>by have:=PF.sub_dep hx;omega
  rw[atP_eq]
  generalize hk:σ.next=k at hmk
  refine W.sq (W.rg ?_)
  refine W.bx (c:=pc a) H hk rfl rfl rfl rfl rfl fun τ n1 H k1=>?_
  have hm:=k1 _ _ hm
  refine W.nil ?_
  obtain⟨ks1,hks1⟩:∃ks1,ks1=(if a.op=1 then insE a.nm ks else ks):=⟨_,rfl⟩
  rw[←hks1]
  refine W.sq ?_
  refine W.cutM (α:=Unit) (fun _=>[(1,.m (some mid)),(2,pt k)]) (fun _ τ2=>τ2.get mid=some (.map (setE AV.s 0 ks1) ks1.length)∧τ2.get k=some (.cells (pc a))∧k+1≤τ2.next∧∀i o,i≠mid→σ.get i=some o→τ2.get i=some o) ?_ ?_
  ·refine wk ?_
   by_cases hop:a.op=1
   ·rw[if_pos hop] at hks1
    refine wk ?_
    refine W.mu (ka:=AV.s) keyEq_s hm rfl rfl fun τ2 n2 g2 k2=>?_
    refine wk ?_
    exact⟨rfl,(),⟨by rw[hks1];exact g2,k2 _ _ (by omega) (H.get _ (.head _)),by omega,fun i o hi ho=>k2 _ _ hi (k1 _ _ ho)⟩,rfl,rfl,trivial⟩
   ·rw[if_neg hop] at hks1
    refine wk ?_
    exact⟨rfl,(),⟨by rw[hks1];exact hm,H.get _ (.head _),by omega,fun i o hi ho=>k1 _ _ ho⟩,rfl,rfl,trivial⟩
  ·rintro-g τ2 ⟨g1,g2,g3,g4⟩
   have H:Has τ2 [(k,pc a)]:=Has.nil.cons g2 (by simp)
   refine wk ?_
   show GoW _ _ _ _ _ _ _ _
   refine GoF.each a.subs.length (fun j f τ'=>τ'.get mid=some (.map (setE AV.s 0 (atL (a.subs.take j) ks1)) (atL (a.subs.take j) ks1).length)∧τ2.next≤τ'.next∧(∀i o,i≠mid→τ2.get i=some o→τ'.get i=some o)∧sat [(1,.m (some mid)),(2,pt k),(13,sbA a)] f) (by omega) ⟨g1,Nat.le_refl _,fun _ _ _ h=>h,rfl,rfl,rfl,trivial⟩ rfl rfl (fun j g τ' hj hI hi hm=>?_) (fun g τ' hI hi=>?_)
   ·obtain⟨m1,m2,m3,g1',g2',g13,_⟩:=hI
    refine GoF.norm [(1,.m (some mid)),(2,pt k),(13,sbA a),(15,nI j),(14,nI a.subs.length)] ⟨g1',g2',g13,hi,hm,trivial⟩ fun g=>?_
    have H:Has τ' []:=Has.nil
    refine wk ?_
    refine W.al H rfl rfl rfl rfl fun τ4 n4 H k4=>?_
    refine wk ?_
    refine W.st (c':=fc (a.subs[j]).fm) H 0 rfl rfl rfl rfl rfl rfl fun τ5 n5 H k5=>?_
    have hml:=St.get_lt m1
    have hm5:=k5 _ _ (by omega) (k4 _ _ m1)
    refine wk ?_
    refine W.cl trivial rfl rfl rfl (addAtoms_go hh d _ (hsd _ (List.getElem_mem hj)) τ5 _ hm5) fun r τ6 ⟨e,q1,q2,q3⟩=>⟨_,e,?_⟩
    refine wk ?_
    refine⟨rfl,rfl,by rw[atL_take hj];exact q1,by omega,fun i o hi ho=>q3 i o hi (k5 _ _ (by have:=St.get_lt (m3 _ _ hi ho);omega) (k4 _ _ (m3 _ _ hi ho))),rfl,rfl,rfl,trivial⟩
   ·obtain⟨m1,m2,m3,_⟩:=hI
    rw[List.take_length] at m1
    exact⟨.inr rfl,rfl,m1,by omega,fun i o hi ho=>m3 i o hi (g4 i o hi ho)⟩
end
end
end
section
variable [Tok][TokOk]
open Go.RowKit Go.Lyc.T
attribute [local irreducible] GoM GoW GoV GoD GoesCall
abbrev nP:List Nat:=[80]
abbrev nQ:List Nat:=[81]
def nmB(p q:Bool):List (List Nat):=(cond p [nP] [])++(cond q [nQ] [])
omit [Tok] [TokOk] in
theorem names_eq{ks c:List (List Nat)}(hn:ks.Nodup)(hm:∀x∈ks,x=nP∨x=nQ)(hp:c.Perm ks)(hs:srt2 c):c=nmB (decide (nP∈ks)) (decide (nQ∈ks)):=by
 have hcn:c.Nodup:=hp.nodup_iff.2 hn
 have hcm:∀x∈c,x=nP∨x=nQ:=fun x hx=>hm x (hp.mem_iff.1 hx)
 rw[show decide (nP∈ks)=decide (nP∈c) from decide_eq_decide.2 hp.mem_iff.symm,show decide (nQ∈ks)=decide (nQ∈c) from decide_eq_decide.2 hp.mem_iff.symm]
 clear hp hn hm
 match c,hcn,hcm,hs with
 |[],_,_,_=>rfl
 |[x],_,hm,_=>rcases hm x (by simp) with rfl|rfl<;>decide
 |[x,y],hn,hm,hs=>
  rcases hm x (by simp) with rfl|rfl<;>rcases hm y (by simp) with rfl|rfl
  ·simp at hn
  ·decide
  ·exact absurd (hs _ _ rfl) (by decide)
  ·simp at hn
 |x::y::z::l,hn,hm,_=>
  have h1:=hm x (by simp);have h2:=hm y (by simp);have h3:=hm z (by simp)
  simp only[List.nodup_cons,List.mem_cons,not_or] at hn
  rcases h1 with rfl|rfl<;>rcases h2 with rfl|rfl<;>rcases h3 with rfl|rfl<;>simp_all
omit [Tok] [TokOk] in
theorem insE_ok{k:List Nat}{ks:List (List Nat)}(hk:k=nP∨k=nQ)(hn:ks.Nodup)(hm:∀x∈ks,x=nP∨x=nQ):(insE k ks).Nodup∧∀x∈insE k ks,x=nP∨x=nQ:=by
 unfold insE
 by_cases h:k∈ks
 ·rw[if_pos h];exact⟨hn,hm⟩
 ·rw[if_neg h]
  refine⟨List.nodup_append.2 ⟨hn,by simp,fun a ha c hc=>?_⟩,fun x hx=>?_⟩
  ·rw[List.mem_singleton.1 hc];exact fun e=>h (e▸ha)
  ·rcases List.mem_append.1 hx with hx|hx
   ·exact hm x hx
   ·rw[List.mem_singleton.1 hx];exact hk
omit [Tok] [TokOk] in
theorem atP_ok:∀(a:PF) {ks:List (List Nat)},ks.Nodup→(∀x∈ks,x=nP∨x=nQ)→(atP a ks).Nodup∧∀x∈atP a ks,x=nP∨x=nQ
 | .atm q,_,hn,hm=>insE_ok (by cases q<;>simp[PF.nm]) hn hm
 | .ff,_,hn,hm=>⟨hn,hm⟩
 | .neg a,_,hn,hm=>atP_ok a hn hm
 | .bin _ a c,_,hn,hm=>by obtain⟨h1,h2⟩:=atP_ok a hn hm;exact atP_ok c h1 h2
omit [Tok] [TokOk] in
theorem atL_ok:∀(l:List PF) {ks:List (List Nat)},ks.Nodup→(∀x∈ks,x=nP∨x=nQ)→(atL l ks).Nodup∧∀x∈atL l ks,x=nP∨x=nQ
 |[],_,hn,hm=>⟨hn,hm⟩
 |a::l,_,hn,hm=>by obtain⟨h1,h2⟩:=atP_ok a hn hm;exact atL_ok l h1 h2
def nmv(L:List PF):List (List Nat):=nmB (decide (nP∈atL L [])) (decide (nQ∈atL L []))
omit [Tok] [TokOk] in
theorem two_len{ks:List (List Nat)}(hn:ks.Nodup)(hm:∀x∈ks,x=nP∨x=nQ):ks.length≤2:=by
 match ks,hn,hm with
 |[],_,_=>simp
 |[x],_,_=>simp
 |[x,y],_,_=>simp
 |x::y::z::l,hn,hm=>
  have h1:=hm x (by simp);have h2:=hm y (by simp);have h3:=hm z (by simp)
  simp only[List.nodup_cons,List.mem_cons,not_or] at hn
  rcases h1 with rfl|rfl<;>rcases h2 with rfl|rfl<;>rcases h3 with rfl|rfl<;>simp_all
abbrev fsA(L:List PF):AV:=slA true (some 4) (L.map fun a=>.ag (fc a.fm))
theorem fsA_vw(σ:St)(L:List PF):Vw σ (some 4) (fsA L) (L.map fun a=>.ag (fc a.fm)):=slA_vw fun y hy=>by obtain⟨x,_,rfl⟩:=List.mem_map.1 hy;rfl
structure HAt(b:Base)(K:Nat→List AV→AV→Prop):Prop where
 add:Here (b.envK K) n_addAtoms c389
 keys:Here (b.envK K) n_KeysS c147
 sorted:Here (b.envK K) n_SortedS c146
 col:Here (b.envK K) n_CollectS c191
 app:Here (b.envK K) n_AppendSeqS c239
 keys1:Here (b.envK K) n_KeysS1 c193
 srt:Here (b.envK K) n_SortS c192
 len:Here (b.envK K) n_Len c241
 len64:Here (b.envK K) n_Len64 c283
 pdq:Here (b.envK K) n_pdqS c240
 ins:Here (b.envK K) n_insS c273
 ls:∀a,(a=nP∨a=nQ)→∀c,(c=nP∨c=nQ)→K n_LessS [.s a,.s c] (.b (lssL a c))
 el:b.ext n_LessS=0∧b.pure n_LessS=true
section
variable {b:Base}{K:Nat→List AV→AV→Prop}(hf:∀g ar r r',K g ar r→K g ar r'→r=r')
include hf
theorem Atoms_go(h:HAt b K)(L:List PF)(hL:L.length<2^62)(body:ACode)(hb:c382.body=some body):GoF (b.envK K) c382.ntmps body (argF [fsA L]) ⟨.nil,0⟩ (Done 2 (slA false none ((nmv L).map AV.s))):=by
 cases hb
 refine W.args fun z=>?_
 have hv:=fun σ=>fsA_vw σ L
 refine wk ?_
 refine W.mm 0 rfl rfl fun τ n1 g1 k1=>?_
 have hv1:=hv τ
 refine wk ?_
 show GoW _ _ _ _ _ _ _ _
 refine GoF.each L.length (fun j f τ'=>τ'.get 0=some (.map (setE AV.s 0 (atL (L.take j) [])) (atL (L.take j) []).length)∧1≤τ'.next∧sat [(3,.m (some 0)),(7,fsA L)] f) hL ⟨g1,by omega,rfl,rfl,trivial⟩ rfl rfl (fun j g τ' hj hI hi hm=>?_) (fun g τ' hI hi=>?_)
 ·obtain⟨m1,m2,g3,g7,_⟩:=hI
  refine GoF.norm [(3,.m (some 0)),(7,fsA L),(9,nI j),(8,nI L.length)] ⟨g3,g7,hi,hm,trivial⟩ fun g=>?_
  have H:Has τ' []:=Has.nil
  refine wk ?_
  refine W.al H rfl rfl rfl rfl fun τ4 n4 H k4=>?_
  refine wk ?_
  refine W.st (c':=fc (L[j]).fm) H 0 rfl rfl rfl rfl rfl rfl fun τ5 n5 H k5=>?_
  have hm5:=k5 _ _ (by omega) (k4 _ _ m1)
  refine wk ?_
  refine W.cl trivial rfl rfl rfl (addAtoms_go h.add _ _ (Nat.le_refl _) τ5 _ hm5) fun r τ6 ⟨e,q1,q2,q3⟩=>⟨_,e,?_⟩
  refine wk ?_
  exact⟨rfl,rfl,by rw[atL_take hj];exact q1,by omega,rfl,rfl,trivial⟩
 ·obtain⟨m1,m2,g3,_⟩:=hI
  rw[List.take_length] at m1
  refine GoF.norm [(3,.m (some 0))] ⟨g3,trivial⟩ fun g=>?_
  obtain⟨a1,a2⟩:=atL_ok L (ks:=[]) List.nodup_nil (by simp)
  have a3:=two_len a1 a2
  have hnm:∀ {c:List (List Nat)},c.Perm (atL L [])→srt2 c→c=nmv L:=fun hp hs=>names_eq a1 a2 hp hs
  generalize hks:atL L []=ks at *
  refine wk ?_
  refine W.cl trivial rfl rfl rfl (KeysS_go h.keys 0 τ' _ rfl) fun r τ2 ⟨e1,q1,q2,q3⟩=>⟨_,e1,?_⟩
  refine wk ?_
  refine W.cl trivial rfl rfl rfl (SortedS_go hf h.sorted h.col h.app h.keys1 h.srt h.len h.len64 h.pdq h.ins (ks:=ks) (fun a ha c hc=>h.ls a (a2 a ha) c (a2 c hc)) (fun a ha c hc hlt=>?_) h.el a3 τ2 (q3 _ _ m1) q2) fun r τ3 ⟨v,c,e2,p1,p2,p3,p4,p5⟩=>⟨_,e2,?_⟩
  ·rcases a2 a ha with rfl|rfl<;>rcases a2 c hc with rfl|rfl<;>first|rfl|exact absurd hlt (by decide)
  ·refine wk ?_
   refine GoF.ret ⟨rfl,?_⟩
   show freeze τ3 0 1000 v=_
   rw[←hnm p1 p2]
   refine p3.freeze (n:=999) ?_
   have:=mapO_of (f:=Go.Lyc.freeze τ3 0 999) (g:=fun x=>x) (l:=c.map AV.s) (fun x hx=>by obtain⟨m,_,rfl⟩:=List.mem_map.1 hx;rfl)
   rwa[List.map_id'] at this
end
end
section
variable [Tok][TokOk]
open Go.RowKit Go.Lyc.T
section
abbrev T.n_pat:Nat:=12
def uW(x:BitVec 64):AV:=.i .u64 (Int.ofNat x.toNat)
theorem wrap64(x:BitVec 64):IntKind.u64.wrap (Int.ofNat x.toNat)=Int.ofNat x.toNat:=by
 have:=x.isLt
 have h:(x.toNat:Int)<18446744073709551616:=by omega
 simp[IntKind.wrap,IntKind.bits,IntKind.signed]
 omega
theorem ofInt64(x:BitVec 64):BitVec.ofInt IntKind.u64.bits (Int.ofNat x.toNat)=x:=by
 show BitVec.ofInt 64 (x.toNat:Int)=x
 rw[BitVec.ofInt_natCast,BitVec.ofNat_toNat,BitVec.setWidth_eq]
theorem bin_andW(x y:BitVec 64):binop .and (uW x) (uW y)=some (uW (x &&& y)):=by
 show some (AV.i .u64 (IntKind.u64.wrap (Int.ofNat (BitVec.ofInt IntKind.u64.bits (Int.ofNat x.toNat) &&& BitVec.ofInt IntKind.u64.bits (Int.ofNat y.toNat)).toNat)))=_
 rw[ofInt64,ofInt64]
 exact congrArg (fun n=>some (AV.i .u64 n)) (wrap64 (x &&& y))
theorem bin_orW(x y:BitVec 64):binop .or (uW x) (uW y)=some (uW (x ||| y)):=by
 show some (AV.i .u64 (IntKind.u64.wrap (Int.ofNat (BitVec.ofInt IntKind.u64.bits (Int.ofNat x.toNat) ||| BitVec.ofInt IntKind.u64.bits (Int.ofNat y.toNat)).toNat)))=_
 rw[ofInt64,ofInt64]
 exact congrArg (fun n=>some (AV.i .u64 n)) (wrap64 (x ||| y))
theorem bin_xorW(x y:BitVec 64):binop .xor (uW x) (uW y)=some (uW (x ^^^ y)):=by
 show some (AV.i .u64 (IntKind.u64.wrap (Int.ofNat (BitVec.ofInt IntKind.u64.bits (Int.ofNat x.toNat) ^^^ BitVec.ofInt IntKind.u64.bits (Int.ofNat y.toNat)).toNat)))=_
 rw[ofInt64,ofInt64]
 exact congrArg (fun n=>some (AV.i .u64 n)) (wrap64 (x ^^^ y))
abbrev onesW:BitVec 64:=0xffffffffffffffff
class Pat where
 w:Nat→BitVec 64
variable [Pat]
abbrev patA:AV:=.ag [uW (Pat.w 0),uW (Pat.w 1),uW (Pat.w 2),uW (Pat.w 3),uW (Pat.w 4),uW (Pat.w 5)]
def wd(p q:Bool):PF→BitVec 64
 | .atm x=>cond (p&&q&& !x) (Pat.w 1) (Pat.w 0)
 | .ff=>0
 | .neg a=>onesW ^^^ wd p q a
 | .bin k a c=>match k with
  |0=>wd p q a &&& wd p q c
  |1=>wd p q a ||| wd p q c
  |2=>(onesW ^^^ wd p q a) ||| wd p q c
def opF(o:Nat):Nat:=match o with|2=>n_newTable1|3=>n_newTable2|4=>n_newTable3|5=>n_newTable4|_=>n_newTable5
def opW(o:Nat)(x y:BitVec 64):BitVec 64:=match o with|2=>0|3=>onesW ^^^ x|4=>x &&& y|5=>x ||| y|_=>(onesW ^^^ x) ||| y
theorem W.mp{env:Env}{wh:Option Nat}{D:List (Nat ⊕ (AV×List AV))}{n:Nat}{F:List (Nat×AV)}{z:Nat→AV}{σ:St}{Q:PostF}{sh:KeyK}{ops:List AOper}{x y w:AOpd}{mid c:Nat}{es:List (AV×AV×Nat)}{k v:AV}{t:Bool}(hm:σ.get mid=some (.map es c))(h1:evL env n F z x=some (.m (some mid)))(h2:evL env n F z y=some k)(h3:evL env n F z w=some v)(hk:keyEq sh k k=some t)(hu:updE sh k v es=some none)
  (h:∀σ':St,σ'.next=σ.next→σ'.get mid=some (.map (es++[(k,v,c)]) (c+1))→(∀i o,i≠mid→σ.get i=some o→σ'.get i=some o)→GoM .pl env wh D n ops (upds F z) σ' Q):GoM .pl env wh D n (⟨none,.mapUpd sh x y w,none,[]⟩::ops) (upds F z) σ Q:=by
 refine W.eff (v:=undefA) (σ':=σ.set mid (.map (es++[(k,v,c)]) (c+1))) rfl ?_ (h _ rfl (set_get hm).1 (set_get hm).2)
 show(match evL env n F z x,evL env n F z y,evL env n F z w with
  |some (.m (some id)),some k,some v=>
   if Nat.blt id 0 then none else
   match σ.get id with
   |some (.map es cl)=>match keyEq sh k k with
    |none=>none
    |some _=>match updE sh k v es with
    |some (some es)=>some (OpR.val undefA (σ.set id (.map es cl)))
    |some none=>some (OpR.val undefA (σ.set id (.map (es++[(k,v,cl)]) (cl+1))))
    |none=>none
   |_=>none
  |_,_,_=>none)=_
 rw[h1,h2,h3]
 show(if Nat.blt mid 0 then none else match σ.get mid with
   |some (.map es cl)=>(match keyEq sh k k with
    |none=>none
    |some _=>match updE sh k v es with
    |some (some es)=>some (OpR.val undefA (σ.set mid (.map es cl)))
    |some none=>some (OpR.val undefA (σ.set mid (.map (es++[(k,v,cl)]) (cl+1))))
    |none=>none)
   |_=>none)=_
 rw[if_neg (by simp[Nat.blt,Nat.ble]),hm]
 show(match keyEq sh k k with
    |none=>none
    |some _=>match updE sh k v es with
    |some (some es)=>some (OpR.val undefA (σ.set mid (.map es c)))
    |some none=>some (OpR.val undefA (σ.set mid (.map (es++[(k,v,c)]) (c+1))))
    |none=>none)=_
 rw[hk,hu]
def plE:Nat→List (List Nat)→List (AV×AV×Nat)
 |_,[]=>[]
 |i,x::l=>(.s x,nI i,i)::plE (i+1) l
def opsE:List (AV×AV×Nat):=[(.i .u8 2,.f (.func n_newTable1) [] [],0),(.i .u8 3,.f (.func n_newTable2) [] [],1),(.i .u8 4,.f (.func n_newTable3) [] [],2),(.i .u8 5,.f (.func n_newTable4) [] [],3),(.i .u8 6,.f (.func n_newTable5) [] [],4),(.i .u8 7,.f (.func n_newTable6) [] [],5)]
theorem plE_app:∀(l:List (List Nat)) (i:Nat) (x:List Nat),plE i (l++[x])=plE i l++[(.s x,nI (i+l.length),i+l.length)]
 |[],i,x=>rfl
 |y::l,i,x=>by
  rw[List.cons_append,plE,plE_app l,plE,List.length_cons,show i+1+l.length=i+(l.length+1) from by omega];rfl
structure Tb(σ:St)(k m1 m2:Nat)(p q:Bool):Prop where
 t:σ.get k=some (.cells [.m (some m1),.m (some m2)])
 a:σ.get m1=some (.map (plE 0 (nmB p q)) (nmB p q).length)
 o:σ.get m2=some (.map opsE 6)
theorem Tb.keep{σ τ:St}{k m1 m2:Nat}{p q:Bool}(h:Tb σ k m1 m2 p q)(M:Mr σ τ):Tb τ k m1 m2 p q:=⟨M.2 _ _ h.t,M.2 _ _ h.a,M.2 _ _ h.o⟩
attribute [local irreducible] GoM GoW GoV GoD GoesCall
section
variable {b:Base}{K:Nat→List AV→AV→Prop}
theorem newT1_go(x y:BitVec 64)(body:ACode)(hb:c396.body=some body):GoF (b.envK K) c396.ntmps body (argF [uW x,uW y]) ⟨.nil,0⟩ (Done 4 (uW 0)):=by
 cases hb
 refine W.args fun z=>?_
 refine wk ?_
 exact GoF.ret ⟨rfl,rfl⟩
theorem newT2_go(x y:BitVec 64)(body:ACode)(hb:c397.body=some body):GoF (b.envK K) c397.ntmps body (argF [uW x,uW y]) ⟨.nil,0⟩ (Done 4 (uW (onesW ^^^ x))):=by
 cases hb
 refine W.args fun z=>?_
 refine wk ?_
 refine W.bin rfl rfl rfl rfl (bin_xorW onesW x) ?_
 refine wk ?_
 exact GoF.ret ⟨rfl,rfl⟩
theorem newT3_go(x y:BitVec 64)(body:ACode)(hb:c398.body=some body):GoF (b.envK K) c398.ntmps body (argF [uW x,uW y]) ⟨.nil,0⟩ (Done 4 (uW (x &&& y))):=by
 cases hb
 refine W.args fun z=>?_
 refine wk ?_
 refine W.bin rfl rfl rfl rfl (bin_andW x y) ?_
 refine wk ?_
 exact GoF.ret ⟨rfl,rfl⟩
theorem newT4_go(x y:BitVec 64)(body:ACode)(hb:c399.body=some body):GoF (b.envK K) c399.ntmps body (argF [uW x,uW y]) ⟨.nil,0⟩ (Done 4 (uW (x ||| y))):=by
 cases hb
 refine W.args fun z=>?_
 refine wk ?_
 refine W.bin rfl rfl rfl rfl (bin_orW x y) ?_
 refine wk ?_
 exact GoF.ret ⟨rfl,rfl⟩
theorem newT5_go(x y:BitVec 64)(body:ACode)(hb:c400.body=some body):GoF (b.envK K) c400.ntmps body (argF [uW x,uW y]) ⟨.nil,0⟩ (Done 4 (uW ((onesW ^^^ x) ||| y))):=by
 cases hb
 refine W.args fun z=>?_
 refine wk ?_
 refine W.bin rfl rfl rfl rfl (bin_xorW onesW x) ?_
 refine wk ?_
 refine W.bin rfl rfl rfl rfl (bin_orW _ y) ?_
 refine wk ?_
 exact GoF.ret ⟨rfl,rfl⟩
theorem newTable_go(hh:Here (b.envK K) n_newTable c395)(p q:Bool)(σ:St):GoesCall (b.envK K) 0 (.f (.func n_newTable) [] []) [slA true none ((nmB p q).map AV.s)] σ (fun r τ=>∃k m1 m2,r= .ok (pt k)∧Tb τ k m1 m2 p q∧Mr σ τ):=by
 refine W.code hh.e hh.p hh.f rfl rfl rfl rfl fun z=>?_
 have H:Has σ []:=Has.nil
 generalize hk:σ.next=k
 refine wk ?_
 refine W.mm k hk rfl fun τ1 n1 g1 k1=>?_
 refine wk ?_
 refine W.mm (k+1) n1 rfl fun τ2 n2 g2 k2=>?_
 refine wk ?_
 refine W.mp g2 rfl rfl rfl (t:=true) rfl rfl fun τ3 n3 g3 k3=>?_
 refine W.mp g3 rfl rfl rfl (t:=true) rfl rfl fun τ4 n4 g4 k4=>?_
 refine W.mp g4 rfl rfl rfl (t:=true) rfl rfl fun τ5 n5 g5 k5=>?_
 refine W.mp g5 rfl rfl rfl (t:=true) rfl rfl fun τ6 n6 g6 k6=>?_
 refine W.mp g6 rfl rfl rfl (t:=true) rfl rfl fun τ7 n7 g7 k7=>?_
 refine W.mp g7 rfl rfl rfl (t:=true) rfl rfl fun τ8 n8 g8 k8=>?_
 have kk:∀i o,i≠k+1→τ2.get i=some o→τ8.get i=some o:=fun i o hi ho=>k8 _ _ hi (k7 _ _ hi (k6 _ _ hi (k5 _ _ hi (k4 _ _ hi (k3 _ _ hi ho)))))
 have g1:=kk _ _ (by omega) (k2 _ _ g1)
 have g8:τ8.get (k+1)=some (.map opsE 6):=g8
 have H:Has τ8 []:=Has.nil
 refine wk ?_
 refine W.bx (c:=[.m (some k),.m (some (k+1))]) H (k:=k+2) (by omega) rfl rfl rfl rfl rfl fun τ9 n9 H k9=>?_
 have g1:=k9 _ _ g1
 have g8:=k9 _ _ g8
 have M9:Mr σ τ9:=⟨by omega,fun i o ho=>by
  have:=St.get_lt ho
  exact k9 _ _ (kk _ _ (by omega) (k2 _ _ (k1 _ _ ho)))⟩
 have hvw:∀τ,Vw τ none (slA true none ((nmB p q).map AV.s)) ((nmB p q).map AV.s):=fun τ=>slA_vw fun y hy=>by obtain⟨x,_,rfl⟩:=List.mem_map.1 hy;rfl
 have hv:=hvw τ9
 have hlen:(nmB p q).length≤2:=by cases p<;>cases q<;>decide
 have g9:=H.get _ (.head _)
 clear H
 refine wk ?_
 show GoW _ _ _ _ _ _ _ _
 refine GoF.each (nmB p q).length (fun j f τ'=>τ'.get (k+2)=some (.cells [.m (some k),.m (some (k+1))])∧τ'.get k=some (.map (plE 0 ((nmB p q).take j)) j)∧τ'.get (k+1)=some (.map opsE 6)∧Mr σ τ'∧sat [(3,pt (k+2)),(11,slA true none ((nmB p q).map AV.s))] f) (by omega) ⟨g9,g1,g8,M9,rfl,rfl,trivial⟩ rfl rfl (fun j g τ' hj hI hi hm=>?_) (fun g τ' hI hi=>?_)
 ·obtain⟨h9,h1,h8,M,g3,g11,_⟩:=hI
  refine GoF.norm [(3,pt (k+2)),(11,slA true none ((nmB p q).map AV.s)),(13,nI j),(12,nI (nmB p q).length)] ⟨g3,g11,hi,hm,trivial⟩ fun g=>?_
  have H:Has τ' [(k+2,[.m (some k),.m (some (k+1))])]:=Has.nil.cons h9 (by simp)
  have hu:updE (.inl 1) (.s (nmB p q)[j]) (nI j) (plE 0 ((nmB p q).take j))=some none:=by
   cases p<;>cases q
   ·simp[nmB] at hj
   ·obtain rfl:j=0:=by have:(nmB false true).length=1:=rfl;omega
    rfl
   ·obtain rfl:j=0:=by have:(nmB true false).length=1:=rfl;omega
    rfl
   ·have:j=0∨j=1:=by have:(nmB true true).length=2:=rfl;omega
    rcases this with rfl|rfl<;>rfl
  refine wk ?_
  refine W.mp (k:=.s (nmB p q)[j]) (v:=nI j) h1 rfl ?_ rfl (t:=true) ?_ hu fun τ2' m2 q2 r2=>?_
  ·rfl
  ·show some (eqL _ _)=_
   rw[eqL_dec,decide_eq_true rfl]
  refine wk ?_
  refine⟨rfl,rfl,r2 _ _ (by omega) h9,?_,r2 _ _ (by omega) h8,⟨by have:=M.1;omega,fun i o ho=>r2 _ _ (by have:=St.get_lt ho;omega) (M.2 _ _ ho)⟩,rfl,rfl,trivial⟩
  rw[List.take_succ_eq_append_getElem hj,plE_app,List.length_take,Nat.min_eq_left (by omega),Nat.zero_add]
  exact q2
 ·obtain⟨h9,h1,h8,M,g3,_⟩:=hI
  refine GoF.norm [(3,pt (k+2))] ⟨g3,trivial⟩ fun g=>?_
  rw[List.take_length] at h1
  refine wk ?_
  exact GoF.ret ⟨rfl,k+2,k,k+1,rfl,⟨h9,h1,h8⟩,M⟩
def inN2(p q:Bool):PF→Bool
 | .atm x=>cond x q p
 | .ff=>true
 | .neg a=>inN2 p q a
 | .bin _ a c=>inN2 p q a&&inN2 p q c
theorem inN2_sub{p q:Bool}{a:PF}(h:inN2 p q a=true):∀x∈a.subs,inN2 p q x=true:=by
 cases a with
 | atm x=>intro y hy;simp[PF.subs] at hy
 |ff=>intro y hy;simp[PF.subs] at hy
 |neg a=>intro y hy;rw[List.mem_singleton.1 hy];exact h
 |bin k a c=>
  have h:(inN2 p q a&&inN2 p q c)=true:=h
  rw[Bool.and_eq_true] at h
  intro y hy
  rcases List.mem_cons.1 hy with rfl|hy
  ·exact h.1
  ·rw[List.mem_singleton.1 hy];exact h.2
structure HBk(b:Base)(K:Nat→List AV→AV→Prop):Prop where
 block:Here (b.envK K) n_tblock c391
 pat:b.glob n_pat=some patA
 fn:∀g ar r r',K g ar r→K g ar r'→r=r'
 ops:∀o,2≤o→o≤6→b.ext (opF o)=0∧b.pure (opF o)=true
 op:∀o x y,2≤o→o≤6→K (opF o) [uW x,uW y] (uW (opW o x y))
def wdA(p q:Bool)(l:List PF)(j:Nat):List AV:=[cond (decide (0<j)) (uW ((l.map (wd p q)).getD 0 0)) (uW 0),cond (decide (1<j)) (uW ((l.map (wd p q)).getD 1 0)) (uW 0)]
theorem wdA_st{p q:Bool}{l:List PF}{j:Nat}(hj:j<l.length)(hj2:j=0∨j=1):storeCells (wdA p q l j) j (uW (wd p q l[j])).cells=some (wdA p q l (j+1)):=by
 have e:(l.map (wd p q)).getD j 0=wd p q l[j]:=by rw[List.getD_eq_getElem?_getD,List.getElem?_map,List.getElem?_eq_getElem hj];rfl
 rw[←e]
 rcases hj2 with rfl|rfl<;>rfl
theorem wdv{l:List (BitVec 64)}{i:Nat}:(cond (decide (i<l.length)) (uW (l.getD i 0)) (uW 0))=uW (l.getD i 0):=by
 by_cases h:i<l.length
 ·rw[decide_eq_true h];rfl
 ·rw[decide_eq_false h,List.getD_eq_getElem?_getD,List.getElem?_eq_none (by omega)];rfl
theorem wd_op(p q:Bool)(a:PF)(h:a.op≠1):wd p q a=opW a.op ((a.subs.map (wd p q)).getD 0 0) ((a.subs.map (wd p q)).getD 1 0):=by
 cases a with
 | atm x=>exact absurd rfl h
 |ff=>rfl
 |neg a=>rfl
 |bin k a c=>
  have:k=0∨k=1∨k=2:=by omega
  rcases this with rfl|rfl|rfl<;>rfl
theorem block_go(hB:HBk b K){k m1 m2:Nat}{p q:Bool}:∀(d:Nat) (a:PF),a.dep≤d→inN2 p q a=true→∀(σ:St),Tb σ k m1 m2 p q→
  GoesCall (b.envK K) 0 (.f (.func n_tblock) [] []) [pt k,.ag (fc a.fm),nI 0] σ (fun r τ=>r= .ok (uW (wd p q a))∧Mr σ τ)
 |0,a,hd,_,_,_=>by cases a<;>simp[PF.dep] at hd
 |d+1,a,hd,hin,σ,T0=>by
  rw[PF.fc_eq]
  refine W.code hB.block.e hB.block.p hB.block.f rfl rfl rfl rfl fun z=>?_
  have H:Has σ []:=Has.nil
  have hla:=a.subs_len
  have hsd:∀x∈a.subs,x.dep≤d:=fun x hx=>by have:=PF.sub_dep hx;omega
  generalize hk:σ.next=kb
  refine wk ?_
  refine W.bx (c:=pc a) H hk rfl rfl rfl rfl rfl fun τ n1 H k1=>?_
  have M1:Mr σ τ:=⟨by omega,fun i o ho=>k1 i o ho⟩
  have T1:=T0.keep M1
  have hkb:k<kb:=by have:=St.get_lt T0.t;omega
  have H:Has τ [(k,[.m (some m1),.m (some m2)]),(kb,pc a)]:=H.cons T1.t (by simp;omega)
  by_cases hop:a.op=1
  ·have hq:∃x,a= .atm x:=by cases a with
    | atm x=>exact⟨x,rfl⟩
    |ff=>cases hop
    |neg a=>cases hop
    |bin k a c=>have:4+k.val=1:=hop;omega
   obtain⟨x,rfl⟩:=hq
   obtain⟨ix,bt,e1,e2,e3,e4⟩:∃ix bt:Nat,findE (.inl 1) (.s (PF.atm x).nm) (plE 0 (nmB p q))=some (some (nI ix))∧(nmB p q).length=ix+1+bt∧bt<2∧takeSh none ([uW (Pat.w 0),uW (Pat.w 1),uW (Pat.w 2),uW (Pat.w 3),uW (Pat.w 4),uW (Pat.w 5)].drop (bt*shN none))=some (uW (wd p q (.atm x))):=by
    cases p<;>cases q<;>cases x<;>first|exact absurd hin (by decide)|exact⟨0,0,rfl,rfl,by decide,rfl⟩|exact⟨1,0,rfl,rfl,by decide,rfl⟩|exact⟨0,1,rfl,rfl,by decide,rfl⟩
   have hlen:lenA τ 2 (.m (some m1))=some (nmB p q).length:=by
    show(match τ.get m1 with|some (.map es _)=>some es.length|_=>none)=_
    rw[T1.a]
    cases p<;>cases q<;>rfl
   have hlk:lookupA τ (.inl 1) (.m (some m1)) (.s (PF.atm x).nm) (nI 0) false=some (nI ix):=by
    show cond true (match τ.get m1 with|some (.map es _)=>(match findE (.inl 1) (.s (PF.atm x).nm) es with|some (some v)=>some (v2 false v true)|some none=>some (v2 false (nI 0) false)|none=>none)|_=>none) none=_
    rw[T1.a,cond_true]
    show(match findE (.inl 1) (.s (PF.atm x).nm) (plE 0 (nmB p q)) with|some (some v)=>some (v2 false v true)|some none=>some (v2 false (nI 0) false)|none=>none)=_
    rw[e1];rfl
   have hb:(nmB p q).length-1-ix=bt:=by omega
   have hl2:(nmB p q).length≤2:=by cases p<;>cases q<;>decide
   refine wk ?_
   refine W.len rfl rfl rfl hlen ?_
   refine wk ?_
   refine W.val (v:=nI ix) (σ':=τ) rfl rfl ?_ ?_
   ·show(match lookupA τ (.inl 1) (.m (some m1)) (.s (PF.atm x).nm) (nI 0) false with|some v=>some (OpR.val v τ)|none=>none)=_
    rw[hlk]
   refine wk ?_
   rw[hb]
   refine W.val rfl rfl (op_idxArrT (j:=bt) (o:=true) (by show(match b.glob n_pat with|some v=>some (AV.tp true v)|none=>none)=_;rw[hB.pat]) rfl (by omega) e4) ?_
   refine wk ?_
   exact GoF.ret ⟨rfl,rfl,M1⟩
  ·have hol:=a.op_lt
   refine wk ?_
   refine W.al (k:=kb+1) H n1 rfl rfl rfl fun τ2 n2 H k2=>?_
   have M2:Mr σ τ2:=⟨by omega,fun i o ho=>k2 _ _ (k1 _ _ ho)⟩
   refine wk ?_
   show GoW _ _ _ _ _ _ _ _
   refine GoF.each a.subs.length (fun j f τ'=>Mr σ τ'∧kb+2≤τ'.next∧τ'.get kb=some (.cells (pc a))∧τ'.get (kb+1)=some (.cells (wdA p q a.subs j))∧sat [(0,pt k),(2,nI 0),(4,pt kb),(8,pt (kb+1)),(41,sbA a)] f) (by omega) ⟨M2,by omega,H.get _ (.tail _ (.tail _ (.head _))),H.get _ (.head _),rfl,rfl,rfl,rfl,rfl,trivial⟩ rfl rfl (fun j g τ' hj hI hi hm=>?_) (fun g τ' hI hi=>?_)
   ·obtain⟨M,mn,hg4,hg8,g0,g2,g4,g8,g41,_⟩:=hI
    refine GoF.norm [(0,pt k),(2,nI 0),(4,pt kb),(8,pt (kb+1)),(41,sbA a),(43,nI j),(42,nI a.subs.length)] ⟨g0,g2,g4,g8,g41,hi,hm,trivial⟩ fun g=>?_
    have H:Has τ' []:=Has.nil
    refine wk ?_
    refine W.al H rfl rfl rfl rfl fun τ4 n4 H k4=>?_
    refine wk ?_
    refine W.st (c':=fc (a.subs[j]).fm) H 0 rfl rfl rfl rfl rfl rfl fun τ5 n5 H k5=>?_
    have k45:∀i o,τ'.get i=some o→τ5.get i=some o:=fun i o ho=>k5 _ _ (by have:=St.get_lt ho;omega) (k4 _ _ ho)
    have T5:Tb τ5 k m1 m2 p q:=T0.keep ⟨by have:=M.1;omega,fun i o ho=>k45 _ _ (M.2 _ _ ho)⟩
    refine wk ?_
    refine W.cl trivial rfl rfl rfl (block_go hB d _ (hsd _ (List.getElem_mem hj)) (inN2_sub hin _ (List.getElem_mem hj)) τ5 T5) fun r τ6 ⟨e,M6⟩=>⟨_,e,?_⟩
    have h6:=M6.2 _ _ (k45 _ _ hg8)
    have m6:=M6.1
    have H:Has τ6 [(kb+1,wdA p q a.subs j)]:=Has.nil.cons h6 (by simp)
    have hj2:j=0∨j=1:=by omega
    refine wk ?_
    refine W.val (v:=.p (some (kb+1,j))) (σ':=τ6) rfl rfl ?_ ?_
    ·rcases hj2 with rfl|rfl<;>rfl
    refine wk ?_
    refine W.st (c':=wdA p q a.subs (j+1)) H 0 rfl rfl rfl rfl rfl ?_ fun τ7 n7 H k7=>?_
    ·exact wdA_st hj hj2
    refine wk ?_
    refine⟨rfl,rfl,⟨by have:=M.1;omega,fun i o ho=>k7 _ _ (by have:=St.get_lt ho;omega) (M6.2 _ _ (k45 _ _ (M.2 _ _ ho)))⟩,by omega,k7 _ _ (by omega) (M6.2 _ _ (k45 _ _ hg4)),H.get _ (.head _),rfl,rfl,rfl,rfl,rfl,trivial⟩
   ·obtain⟨M,mn,hg4,hg8,g0,g2,g4,g8,_⟩:=hI
    refine GoF.norm [(0,pt k),(2,nI 0),(4,pt kb),(8,pt (kb+1))] ⟨g0,g2,g4,g8,trivial⟩ fun g=>?_
    have T2:=T0.keep M
    have H:Has τ' [(kb+1,wdA p q a.subs a.subs.length),(k,[.m (some m1),.m (some m2)]),(kb,pc a)]:=((Has.nil.cons hg4 (by simp)).cons T2.t (by simp;omega)).cons hg8 (by simp;omega)
    have hfe:findE (.inl 0) (.i .u8 (Int.ofNat a.op)) opsE=some (some (.f (.func (opF a.op)) [] [])):=by
     have:a.op=2∨a.op=3∨a.op=4∨a.op=5∨a.op=6:=by omega
     generalize a.op=o at this
     rcases this with rfl|rfl|rfl|rfl|rfl<;>rfl
    have hlk:lookupA τ' (.inl 0) (.m (some m2)) (.i .u8 (Int.ofNat a.op)) .nf false=some (.f (.func (opF a.op)) [] []):=by
     show cond (match keyEq (.inl 0) (.i .u8 (Int.ofNat a.op)) (.i .u8 (Int.ofNat a.op)) with|some _=>true|none=>false) (match τ'.get m2 with|some (.map es _)=>(match findE (.inl 0) (.i .u8 (Int.ofNat a.op)) es with|some (some v)=>some (v2 false v true)|some none=>some (v2 false .nf false)|none=>none)|_=>none) none=_
     rw[T2.o]
     show(match findE (.inl 0) (.i .u8 (Int.ofNat a.op)) opsE with|some (some v)=>some (v2 false v true)|some none=>some (v2 false .nf false)|none=>none)=_
     rw[hfe];rfl
    refine wk ?_
    refine W.val (v:=.f (.func (opF a.op)) [] []) (σ':=τ') rfl rfl ?_ ?_
    ·show(match lookupA τ' (.inl 0) (.m (some m2)) (.i .u8 (Int.ofNat a.op)) .nf false with|some v=>some (OpR.val v τ')|none=>none)=_
     rw[hlk]
    refine wk ?_
    have w0:=wdv (l:=a.subs.map (wd p q)) (i:=0)
    have w1:=wdv (l:=a.subs.map (wd p q)) (i:=1)
    rw[List.length_map] at w0 w1
    rw[w0,w1]
    refine W.kn hB.fn (hB.ops a.op (by omega) (by omega)) (hB.op a.op _ _ (by omega) (by omega)) rfl rfl rfl (snaps2 rfl rfl) ?_
    refine wk ?_
    exact GoF.ret ⟨rfl,by rw[wd_op p q a hop];rfl,M⟩
end
end
end
section
open Go Go.RowKit Go.ChangeShapes Go.WideShapes
theorem methIs_of{P:Program}{t:TypeId}{n:String}{g:Nat}{i:TypeInfo}{m:Method}{d:TypeDesc}(h:P.info? t=some i)(hm:i.methods.find? (fun m=>m.name==n)=some m)(hp:m.path.toList=[])(hg:m.func=some (g,false))(hu:P.underlying t=some d)(hd:∀e,d≠ .pointer e):MethIs P t n g:=fun u us w=>by
 have e:(method (P.types.size+Made.depth) t u n).run P w= .ok (g,u) w:=by
  show(method (P.types.size+99+1) t u n).run P w=_
  unfold method
  simp[typeInfo,h,hm,hp,hg,follow,receiverAt,underlying,hu]
  cases d<;>first|exact absurd rfl (hd _)|simp[Place.get]
 unfold callMethod
 simp[e]
def noPtr(d:Option TypeDesc):Bool:=match d with|some (.pointer _)=>false|some _=>true|none=>false
def methG(P:Program)(t:TypeId)(n:String):Option Nat:=match P.info? t with
 |some i=>(match i.methods.find? (fun m=>m.name==n) with
  |some m=>(match m.path.toList,m.func with|[],some (g,false)=>some g|_,_=>none)
  |none=>none)
 |none=>none
theorem methIs_at{P:Program}{t:TypeId}{n:String}{g:Nat}(h:methG P t n=some g)(hu:noPtr (P.underlying t)=true):MethIs P t n g:=by
 unfold methG at h
 split at h
 ·rename_i i hi
  split at h
  ·rename_i m hm
   split at h
   ·rename_i g' hp hf
    cases h
    cases hd:P.underlying t with
    |none=>rw[hd] at hu;cases hu
    |some d=>exact methIs_of hi hm hp hf hd fun e he=>by subst he;rw[hd] at hu;cases hu
   ·cases h
  ·cases h
 ·cases h
abbrev tok0:Tok:=⟨fun _=>.b false,fun _ _=>.nilsl⟩
theorem tok0_ok: @TokOk tok0:=@TokOk.mk tok0 (fun {w O B B' i old u} h=>by
 letI:=tok0
 have h:R w (fun _=>none) O B .nilsl u:=h
 show R w (fun _=>none) _ B' .nilsl u
 cases h
 exact .nilsl) (fun {w O B i u} h=>by
 letI:=tok0
 have h:R w (fun _=>none) O B .nilsl u:=h
 show R w (fun _=>none) _ B .nilsl u
 cases h
 exact .nilsl)
section
variable [Tok][TokOk]
theorem pat_R{P:Program}{W:World}{g:Nat}{t e:TypeId}(h:W.ShapedOpen P)(hg:g<P.globals.size)(h0:((((begin P (fun _ _=>0) default).world.heap[g]?).bind Obj.row?).map fun x=>(x.1.size,x.2))=some (6,t))(hb:P.buildable t=true)(hc:P.cellTypes P.depth t=some [e,e,e,e,e,e])(hu:P.underlying e=some (.int .u64)):∃a:Nat→BitVec 64,∀B',R W (fun _=>none) (fun b=>W.heap.size≤b) B' (.tp true (.ag [uW (a 0),uW (a 1),uW (a 2),uW (a 3),uW (a 4),uW (a 5)])) (.pointer (some ⟨g,0,none⟩)):=by
 cases h1:((begin P (fun _ _=>0) default).world.heap[g]?).bind Obj.row? with
 |none=>rw[h1] at h0;cases h0
 |some zt=>
  obtain⟨zero,t'⟩:=zt
  rw[h1] at h0
  have h0:some (zero.size,t')=some (6,t):=h0
  injection h0 with h0
  injection h0 with hz ht
  subst ht
  obtain⟨cs,hh,hs,hr⟩:=h.1 g zero t' hg h1
  obtain⟨ts,hts,_,hall⟩:=hr hb
  rw[hc] at hts
  cases hts
  have key:∀i:Nat,∃a:BitVec 64,i<6→cs[i]? =some (.int .u64 (Int.ofNat a.toNat)):=fun i=>by
   by_cases hi:i<6
   ·have hics:i<cs.size:=by omega
    obtain⟨u,hu1,hok⟩:=hall i cs[i] (Array.getElem?_eq_getElem hics)
    have:u=e:=by
     have hm:u∈[e,e,e,e,e,e]:=List.mem_of_getElem? hu1
     simpa using hm
    subst this
    unfold Cell.ok at hok
    rw[hu] at hok
    cases hv:cs[i]<;>rw[hv] at hok<;>simp at hok
    case int k n=>
     obtain⟨rfl,hn⟩:=hok
     have hb:0≤n∧n<18446744073709551616:=by
      simp[IntKind.has,IntKind.min,IntKind.max,IntKind.bits,IntKind.signed] at hn
      omega
     refine⟨BitVec.ofNat 64 n.toNat,fun _=>?_⟩
     rw[Array.getElem?_eq_getElem hics,hv]
     have:(BitVec.ofNat 64 n.toNat).toNat=n.toNat:=by
      rw[BitVec.toNat_ofNat]
      exact Nat.mod_eq_of_lt (by omega)
     rw[this]
     congr 2
     exact(Int.toNat_of_nonneg hb.1).symm
   ·exact⟨0,fun h=>absurd h hi⟩
  have hlt:g<W.heap.size:=(Array.getElem?_eq_some_iff.1 hh).1
  obtain⟨a,hk⟩:∃a:Nat→BitVec 64,∀i,i<6→cs[i]? =some (.int .u64 (Int.ofNat (a i).toNat)):=⟨fun i=>Classical.choose (key i),fun i=>Classical.choose_spec (key i)⟩
  refine⟨a,fun B'=>?_⟩
  refine .tp (fun j=>.int .u64 (Int.ofNat (a j).toNat)) (by show ¬W.heap.size≤g;omega) hlt (fun h=>by cases h) (fun j hj=>?_) (fun j hj=>?_) (fun x hx=>?_)
  ·have hj:j<6:=hj
   unfold World.cell?
   rw[hh]
   simp[hk j hj]
  ·have hj6:j<6:=hj
   have:j=0∨j=1∨j=2∨j=3∨j=4∨j=5:=by omega
   rcases this with rfl|rfl|rfl|rfl|rfl|rfl<;>exact .i _ _
  ·have hx:x∈[uW (a 0),uW (a 1),uW (a 2),uW (a 3),uW (a 4),uW (a 5)]:=hx
   simp only[List.mem_cons,List.not_mem_nil,or_false] at hx
   rcases hx with rfl|rfl|rfl|rfl|rfl|rfl<;>rfl
end
theorem handed_shape{H:Type}{enc:TypeId×Value→H}{a:Assume}{C:Checked}{os:Os}{f:FuncId}{fn:Func}{s:ChangeSpec}{conds:List PathCond}{apart fresh handsOn again:Bool}{X:World→Array Value→Prop}
  (hX:∀(w w':World) (args:Array Value),w.heap=w'.heap→X w args→X w' args) (own:ownKnob C.prog.godebug=none) (started:os.Started) (noInit:C.prog.inits.idxOf? f=none) (hfn:C.prog.funcs[f]? =some fn)
  (wit:∃(w:World) (tape:Tape) (i:Input),w.os=os∧(w.forCall tape i).Shaped C.prog∧i.vars=[]∧Input.okWide C.prog (w.forCall tape i) .any w.heap.size f i∧((s.pre enc C.prog fn conds apart (w.forCall tape i).memory i.args∧X (w.forCall tape i).memory i.args)∧sizedMet enc C.prog fn (OpenSpec.ofChange s) apart (w.forCall tape i).memory i.args)∧a.holds C.prog (lone (Frame.enter C.prog f i.args .normal) [] (w.forCall tape i)))
  (con:∀(W:World) (base:Nat) (args:Array Value) (ds gs:List (DataW H)) (before:List MemPlace),W.ShapedOpen C.prog→(∀(j:Nat) t v,fn.params[j]? =some t→args[j]? =some v→Value.okWide C.prog W .any base t v)→DataW.Whole enc C.prog fn.params.toList s.vars apart W args.toList ds gs before→(DataW.weightsEach C.prog (fn.params.toList++s.plain.varTypes C.prog) (ds++gs)).all (· ≤reachBytes)=true→X W args→Calls C.prog f args W fun e W'=>∃v,e= .returned v∧s.post enc C.prog fn apart fresh handsOn again W args v W'):
  ReturnsInHanded a C os f .any (fun w args=>(s.pre enc C.prog fn conds apart w args∧X w args)∧sizedMet enc C.prog fn (OpenSpec.ofChange s) apart w args) (s.post enc C.prog fn apart fresh handsOn again):=by
 refine returnsInHanded_of_calls own started noInit wit fun w tape i _ hsh _ hok hpre _=>?_
 obtain⟨_,_,_,fn',h1,_,_,_,_,hval⟩:=hok
 obtain rfl:fn'=fn:=Option.some.inj (h1.symm.trans hfn)
 obtain⟨⟨⟨ds,gs,before,hw,_⟩,hx⟩,hz⟩:=hpre
 refine(con (w.forCall tape i) w.heap.size i.args ds gs before hsh hval (DataW.Whole.of_heap (w':=w.forCall tape i) (by rfl) hw) (hz.weights hw) (hX _ _ _ (by rfl) hx)).mono fun e W' ⟨v,he,hp⟩=>?_
 subst he
 exact ChangeSpec.post_blind hp
end
section
variable [Tok][TokOk][Pat]
open Go.RowKit Go.Lyc.T
attribute [local irreducible] GoM GoW GoV GoD GoesCall
theorem bin_shrW(x:BitVec 64){v:Nat}(h:v<64):binop .shr (uW x) (nI v)=some (uW (x >>> v)):=by
 show(if(Int.ofNat v)<0 then none else some (AV.i .u64 ((Int.ofNat x.toNat).fdiv (2^(min (Int.ofNat v).toNat IntKind.u64.bits)))))=_
 rw[if_neg (by simp)]
 have h1:min (Int.ofNat v).toNat IntKind.u64.bits=v:=by show min v 64=v;omega
 rw[h1]
 have h2:(Int.ofNat x.toNat).fdiv (2^v)=Int.ofNat (x >>> v).toNat:=by
  rw[BitVec.toNat_ushiftRight,Nat.shiftRight_eq_div_pow]
  rw[Int.fdiv_eq_ediv_of_nonneg _ (by exact Int.le_of_lt (Int.pow_pos (by decide)))]
  show(x.toNat:Int)/2^v=((x.toNat/2^v:Nat):Int)
  rw[Int.natCast_ediv];simp
 rw[h2];rfl
def evB(p q:Bool)(a:PF)(v:Nat):Bool:=decide (Int.ofNat ((wd p q a >>> v) &&& 1).toNat=1)
abbrev nsB(p q:Bool):AV:=slA true none ((nmB p q).map AV.s)
theorem nsB_sn(p q:Bool)(σ:St)(n:Nat):snapshot σ (n+2) (nsB p q)=some (nsB p q):=by cases p<;>cases q<;>rfl
theorem psn9{b:Base}(a:PF)(h:a.fm.dep≤200)(τ:St):snapshot τ (b.fz+999) (.ag (pc a))=some (.ag (pc a)):=by
 have:=Fm.snap τ true _ a.fm (b.fz+999) (Nat.le_refl _) (by omega)
 rw[pA] at this;exact this
structure HEv(b:Base)(K:Nat→List AV→AV→Prop):Prop where
 bk:HBk b K
 named:Here (b.envK K) n_tnamed c390
 newT:Here (b.envK K) n_newTable c395
 eR:b.ext n_tRight=0∧b.pure n_tRight=true
 eN:b.ext n_isNames=0∧b.pure n_isNames=true
 eA:b.ext n_Atoms=0∧b.pure n_Atoms=true
 eC:b.ext n_ContainsS=0∧b.pure n_ContainsS=true
 isn:∀p q,K n_isNames [nsB p q] (.b true)
 con:∀p q,∀x∈nmB p q,K n_ContainsS [nsB p q,.s x] (.b true)
section
variable {b:Base}{K:Nat→List AV→AV→Prop}
theorem tnamed_go(h:HEv b K){p q:Bool}{a:PF}(hd:a.fm.dep≤200)(hR:K n_tRight [.ag (pc a)] (.b true))(hA:K n_Atoms [fsA [a]] (slA false none ((nmv [a]).map AV.s)))(hs:∀x∈nmv [a],x∈nmB p q){v:Nat}(hv:v<2^(nmB p q).length)(σ:St):
  GoesCall (b.envK K) 0 (.f (.func n_tnamed) [] []) [.ag (fc a.fm),nsB p q,nI v] σ (fun r τ=>∃k m1 m2,r= .ok (.tu [pt k,nI 0])∧Tb τ k m1 m2 p q∧Mr σ τ):=by
 rw[PF.fc_eq]
 refine W.codeR h.named.e h.named.p h.named.f rfl rfl rfl fun z=>?_
 have H:Has σ []:=Has.nil
 have hl2:(nmB p q).length≤2:=by cases p<;>cases q<;>decide
 have hsh:binop .shl (nI 1) (nI (nmB p q).length)=some (nI (2^(nmB p q).length)):=by cases p<;>cases q<;>kernel_rfl
 have hp4:2^(nmB p q).length≤4:=by cases p<;>cases q<;>decide
 have hns:=fun σ=>nsB_sn p q σ (b.fz+998)
 generalize hk:σ.next=k
 refine wk ?_
 refine W.bx (c:=pc a) H hk rfl rfl rfl rfl rfl fun τ n1 H k1=>?_
 refine wk ?_
 refine W.kn h.bk.fn h.eR hR rfl rfl rfl (snaps1 (psnP _ hd _)) ?_
 refine wk ?_
 refine W.kn h.bk.fn h.eN (h.isn p q) rfl rfl rfl (snaps1 (hns _)) ?_
 refine wk ?_
 refine W.bin rfl rfl rfl rfl hsh ?_
 refine wk ?_
 refine W.bs (c:=pc a) H n1 rfl rfl rfl fun τ2 n2 H k2=>?_
 have hsl:Sl τ2 (some 4) (.sl (k+1) 0 1 (some 4) (some 1)) [.ag (pc a)]:=.sl (k+1) (some 1) [.ag (pc a)] [] (by rw[H.get _ (.head _)];rfl) (fun y hy=>by rw[List.mem_singleton.1 hy];rfl) (.inr rfl)
 have hsn:snapshot τ2 (b.fz+1000) (.sl (k+1) 0 1 (some 4) (some 1))=some (fsA [a]):=by
  have:=hsl.snapG (m:=b.fz+999) (ys:=[.ag (pc a)]) (by simp) (by rw[mapO_cons,mapO_nil,psn9 a hd])
  rw[this]
  show some (slA true (some 4) [.ag (pc a)])=some (slA true (some 4) [.ag (fc a.fm)])
  rw[PF.fc_eq]
 refine wk ?_
 refine W.kn h.bk.fn h.eA hA rfl rfl rfl (snaps1 hsn) ?_
 refine wk ?_
 show GoW _ _ _ _ _ _ _ _
 have hal:(nmv [a]).length≤2:=by unfold nmv;cases decide (nP∈atL [a] [])<;>cases decide (nQ∈atL [a] [])<;>decide
 have M2:Mr σ τ2:=⟨by omega,fun i o ho=>k2 _ _ (k1 _ _ ho)⟩
 refine GoF.each (nmv [a]).length (fun j f τ'=>τ'=τ2∧sat [(1,nsB p q),(34,slA false none ((nmv [a]).map AV.s))] f) (by omega) ⟨rfl,rfl,rfl,trivial⟩ rfl rfl (fun j g τ' hj hI hi hm=>?_) (fun g τ' hI hi=>?_)
 ·obtain⟨rfl,g1,g34,_⟩:=hI
  refine GoF.norm [(1,nsB p q),(34,slA false none ((nmv [a]).map AV.s)),(36,nI j),(35,nI (nmv [a]).length)] ⟨g1,g34,hi,hm,trivial⟩ fun g=>?_
  refine wk ?_
  refine W.kn h.bk.fn h.eC (h.con p q _ (hs _ (List.getElem_mem hj))) rfl rfl rfl (snaps2 (hns _) rfl) ?_
  refine wk ?_
  exact⟨rfl,rfl,rfl,rfl,rfl,trivial⟩
 ·obtain⟨rfl,g1,_⟩:=hI
  refine GoF.norm [(1,nsB p q)] ⟨g1,trivial⟩ fun g=>?_
  refine wk ?_
  refine W.cl trivial rfl rfl rfl (newTable_go h.newT p q τ') fun r τ3 ⟨k',m1,m2,e,T3,M3⟩=>⟨_,e,?_⟩
  refine wk ?_
  have m3:=M3.1
  have mm:=M2.1
  exact GoF.ret ⟨rfl,_,resA_2 (resV_v rfl) (resV_v rfl),k',m1,m2,rfl,T3,⟨by omega,fun i o ho=>M3.2 _ _ (M2.2 _ _ ho)⟩⟩
theorem tEval_go(h:HEv b K){p q:Bool}{a:PF}(hd:a.fm.dep≤200)(hR:K n_tRight [.ag (pc a)] (.b true))(hA:K n_Atoms [fsA [a]] (slA false none ((nmv [a]).map AV.s)))(hs:∀x∈nmv [a],x∈nmB p q)(hin:inN2 p q a=true){v:Nat}(hv:v<2^(nmB p q).length)(body:ACode)(hb:c384.body=some body):
  GoF (b.envK K) c384.ntmps body (argF [.ag (pc a),nsB p q,nI v]) ⟨.nil,0⟩ (DoneR c384.results (.tu [.b (evB p q a v),nI 0])):=by
 cases hb
 refine W.args fun z=>?_
 have H:Has (⟨.nil,0⟩:St) []:=Has.nil
 have hp4:2^(nmB p q).length≤4:=by cases p<;>cases q<;>decide
 refine wk ?_
 refine W.bx (c:=pc a) H rfl rfl rfl rfl rfl rfl fun τ n1 H k1=>?_
 have hT:=tnamed_go h hd hR hA hs hv τ
 rw[PF.fc_eq] at hT
 refine wk ?_
 refine W.cl trivial rfl rfl rfl hT fun r τ2 ⟨k,m1,m2,e,T2,M2⟩=>⟨_,e,?_⟩
 have H:=H.keep M2.2
 have hv4:v<4:=by omega
 have hq:binop .quo (nI v) (nI 64)=some (nI 0):=by
  have:v=0∨v=1∨v=2∨v=3:=by omega
  rcases this with rfl|rfl|rfl|rfl<;>rfl
 have hr:binop .rem (nI v) (nI 64)=some (nI v):=by
  have:v=0∨v=1∨v=2∨v=3:=by omega
  rcases this with rfl|rfl|rfl|rfl<;>rfl
 have hbl:=block_go h.bk a.dep a (Nat.le_refl _) hin τ2 T2
 rw[PF.fc_eq] at hbl
 refine wk ?_
 refine W.bin rfl rfl rfl rfl hq ?_
 refine wk ?_
 refine W.cl trivial rfl rfl rfl hbl fun r τ3 ⟨e,M3⟩=>⟨_,e,?_⟩
 refine wk ?_
 refine W.bin rfl rfl rfl rfl hr ?_
 refine wk ?_
 refine W.bin rfl rfl rfl rfl (bin_shrW _ (by omega)) ?_
 refine wk ?_
 refine W.bin rfl rfl rfl rfl (bin_andW _ 1) ?_
 refine wk ?_
 refine W.bin (v:=.b (evB p q a v)) rfl rfl rfl rfl rfl ?_
 refine wk ?_
 exact GoF.ret ⟨rfl,_,resA_2 (resV_v rfl) (resV_v rfl),rfl⟩
end
def fcts(p q:Bool)(v:Nat):List AV:=match p,q with
 |true,true=>[.ag [.s nP,nI 0,nI (v/2)],.ag [.s nQ,nI 0,nI (v%2)]]
 |true,false=>[.ag [.s nP,nI 0,nI v]]
 |false,true=>[.ag [.s nQ,nI 0,nI v]]
 |false,false=>[]
abbrev mdC(o p q:Bool)(v:Nat):List AV:=[.i .u8 1,nI 1,.nilsl,nI 0,slA o (some 3) (fcts p q v),.nilsl,.nilsl]
theorem mdC_sn(o p q:Bool)(v:Nat)(σ:St)(n:Nat):snapshot σ (n+4) (.ag (mdC o p q v))=some (.ag (mdC true p q v)):=by cases p<;>cases q<;>cases o<;>rfl
theorem nsF_sn(p q:Bool)(σ:St)(n:Nat):snapshot σ (n+2) (slA false none ((nmB p q).map AV.s))=some (nsB p q):=by cases p<;>cases q<;>rfl
abbrev fsV(L:List PF):List AV:=L.map fun a:PF=>.ag (fc a.fm)
theorem fsV_cf(L:List PF):∀x∈fsV L,conf (some 4) x=true:=fun x hx=>by obtain⟨a,_,rfl⟩:=List.mem_map.1 hx;rfl
section
variable {b:Base}{K:Nat→List AV→AV→Prop}(hfn:∀g ar r r',K g ar r→K g ar r'→r=r')
include hfn
theorem vholds_go{p q t:Bool}{v:Nat}{a:PF}(hd:a.fm.dep≤200)(ev:b.ext n_valuation=0∧b.pure n_valuation=true)(ee:b.ext n_tEval=0∧b.pure n_tEval=true)(hV:K n_valuation [.ag (mdC true p q v)] (.tu [slA false none ((nmB p q).map AV.s),nI v,.b true]))(hE:K n_tEval [.ag (pc a),nsB p q,nI v] (.tu [.b t,nI 0]))
  (body:ACode) (hb:c375.body=some body):GoF (b.envK K) c375.ntmps body (argF [vals,.ag (mdC true p q v),.ag (pc a)]) ⟨.nil,0⟩ (DoneR c375.results (.tu [.b t,nI 0])):=by
 cases hb
 refine W.args fun z=>?_
 have H:Has (⟨.nil,0⟩:St) []:=Has.nil
 refine wk ?_
 refine W.bx (c:=[]) H rfl rfl rfl rfl rfl rfl fun τ n1 H k1=>?_
 refine wk ?_
 refine W.bx (c:=mdC true p q v) H n1 rfl rfl rfl rfl rfl fun τ2 n2 H k2=>?_
 refine wk ?_
 refine W.bx (c:=pc a) H n2 rfl rfl rfl rfl rfl fun τ3 n3 H k3=>?_
 refine wk ?_
 refine W.kn hfn ev hV rfl rfl rfl (snaps1 (mdC_sn true p q v _ (b.fz+996))) ?_
 refine wk ?_
 refine W.kn hfn ee hE rfl rfl rfl (snaps3 (psnP _ hd _) (nsF_sn p q _ (b.fz+998)) rfl) ?_
 refine wk ?_
 exact GoF.ret ⟨rfl,_,resA_2 (resV_v rfl) (resV_v rfl),rfl⟩
theorem refutes_go(hc:HCc (b.envK K)){tv:Nat}(hm:b.meth tv hnH =some n_vholds)(eh:b.ext n_vholds=0∧b.pure n_vholds=true){p q:Bool}{v:Nat}{X:List PF}{y:PF}(hl:X.length≤500)(hd:∀a∈X++[y],a.fm.dep≤200)(hK:∀a∈X++[y],K n_vholds [vals,.ag (mdC true p q v),.ag (pc a)] (.tu [.b (evB p q a v),nI 0]))
  (hno:(∀a∈X,evB p q a v=true)→evB p q y v=true) (body:ACode) (hb:c46.body=some body):GoF (b.envK K) c46.ntmps body (argF [.it tv vals,.ag (mdC true p q v),.ag [fsA X,fsA [y]]]) ⟨.nil,0⟩ (Done 6 (.b false)):=by
 cases hb
 refine W.args fun z=>?_
 have H:Has (⟨.nil,0⟩:St) []:=Has.nil
 refine wk ?_
 refine W.bx (c:=mdC true p q v) H rfl rfl rfl rfl rfl rfl fun τ n1 H k1=>?_
 refine wk ?_
 refine W.bx (c:=[fsA X,fsA [y]]) H n1 rfl rfl rfl rfl rfl fun τ2 n2 H k2=>?_
 refine wk ?_
 have hfo:=hforms_go hc (σ:=τ2) (o1:=true) (o2:=true) (xs:=fsV X) (ys:=fsV [y]) (fsV_cf X) (fsV_cf [y]) (by simp) (by simp;omega)
 refine W.cl trivial rfl rfl rfl hfo fun r τ3 ⟨w,e,N3,M3,_⟩=>⟨_,e,?_⟩
 have H:=H.keep M3.2
 have hw:Sl τ3 (some 4) w (fsV (X++[y])):=by unfold fsV;rw[List.map_append];exact N3.sl
 have hvw:=hw.vw
 have hEl:(X++[y]).length=X.length+1:=by simp
 refine wk ?_
 rw[List.length_map]
 show GoW _ _ _ _ _ _ _ _
 refine GoF.each (X++[y]).length (fun j f τ'=>Mr τ3 τ'∧(∀i (h:i<(X++[y]).length),i<j→evB p q ((X++[y])[i]'h) v=decide (i<X.length))∧sat [(0,.it tv vals),(4,pt 0),(5,pt 1),(12,w)] f) (by omega) ⟨⟨Nat.le_refl _,fun _ _ h=>h⟩,fun i h h2=>by omega,rfl,rfl,rfl,rfl,trivial⟩ rfl rfl (fun j g τ' hj hI hi hm'=>?_) (fun g τ' hI hi=>?_)
 ·obtain⟨M,hall,g0,g4,g5,g12,_⟩:=hI
  refine GoF.norm [(0,.it tv vals),(4,pt 0),(5,pt 1),(12,w),(14,nI j),(13,nI (X++[y]).length)] ⟨g0,g4,g5,g12,hi,hm',trivial⟩ fun g=>?_
  have H:=H.keep M.2
  have hvw:=(hw.keep fun i o _=>M.2 i o).vw
  have hjl:j<(fsV (X++[y])).length:=by rw[List.length_map];exact hj
  have hg:(fsV (X++[y]))[j]'hjl= .ag (pc (X++[y])[j]):=by rw[List.getElem_map,PF.fc_eq]
  have hmem:(X++[y])[j]∈X++[y]:=List.getElem_mem hj
  have hdj:=hd _ hmem
  have hKj:=hK _ hmem
  refine wk ?_
  rw[hg]
  generalize ha:(X++[y])[j]=a at hdj hKj
  have haj:∀i (h:i<(X++[y]).length),i=j→(X++[y])[i]'h=a:=fun i h e=>by subst e;exact ha
  refine W.al H rfl rfl rfl rfl fun τ4 n4 H k4=>?_
  refine wk ?_
  refine W.st (c':=pc a) H 0 rfl rfl rfl rfl rfl rfl fun τ5 n5 H k5=>?_
  refine wk ?_
  refine W.mt hfn hm eh hKj rfl rfl rfl (snaps3 rfl (mdC_sn true p q v _ (b.fz+996)) (psnP _ hdj _)) ?_
  have MM:Mr τ3 τ5:=⟨by have:=M.1;omega,fun i o h=>k5 _ _ (by have:=St.get_lt (M.2 _ _ h);omega) (k4 _ _ (M.2 _ _ h))⟩
  have nxt:evB p q a v=decide (j<X.length)→∀i (h:i<(X++[y]).length),i<j+1→evB p q ((X++[y])[i]'h) v=decide (i<X.length):=fun e i h hi=>by
   by_cases hij:i<j
   ·exact hall i h hij
   ·have:i=j:=by omega
    rw[haj i h this,this];exact e
  by_cases hjX:j<X.length
  ·rw[decide_eq_true hjX] at nxt
   cases ht:evB p q a v with
   |true=>
    refine wk ?_
    exact⟨rfl,rfl,MM,nxt ht,rfl,rfl,rfl,rfl,trivial⟩
   |false=>
    refine wk ?_
    exact GoF.ret ⟨rfl,rfl⟩
  ·rw[decide_eq_false hjX] at nxt
   cases ht:evB p q a v with
   |true=>
    refine wk ?_
    exact GoF.ret ⟨rfl,rfl⟩
   |false=>
    refine wk ?_
    exact⟨rfl,rfl,MM,nxt ht,rfl,rfl,rfl,rfl,trivial⟩
 ·obtain⟨M,hall,_⟩:=hI
  exfalso
  have h1:=hall X.length (by omega) (by omega)
  have h2:evB p q y v=false:=by
   rw[List.getElem_append_right (Nat.le_refl _)] at h1
   simpa using h1
  have h3:=hno fun a ha=>by
   obtain⟨i,hi,rfl⟩:=List.getElem_of_mem ha
   have h4:=hall i (by omega) (by omega)
   rw[List.getElem_append_left hi,decide_eq_true hi] at h4
   exact h4
  rw[h2] at h3;cases h3
end
abbrev nsF(p q:Bool):AV:=slA false none ((nmB p q).map AV.s)
abbrev m1V(c:Nat):AV:=.f (.func n_vmodels1) [] [pt c]
section
variable {b:Base}{K:Nat→List AV→AV→Prop}(hfn:∀g ar r r',K g ar r→K g ar r'→r=r')
include hfn
theorem vcount_go{p q:Bool}{E:List PF}(eA:b.ext n_Atoms=0∧b.pure n_Atoms=true)(kA:K n_Atoms [fsA E] (nsF p q))(hsn:∀σ,snapshot σ (b.fz+1000) (fsA E)=some (fsA E))(body:ACode)(hb:c374.body=some body):
  GoF (b.envK K) c374.ntmps body (argF [vals,.i .u8 0,fsA E,nI 1]) ⟨.nil,0⟩ (DoneR c374.results (.tu [nI (2^(nmB p q).length),nI 0])):=by
 cases hb
 refine W.args fun z=>?_
 have H:Has (⟨.nil,0⟩:St) []:=Has.nil
 have hl2:(nmB p q).length≤2:=by cases p<;>cases q<;>decide
 have hsh:binop .shl (nI 1) (nI (nmB p q).length)=some (nI (2^(nmB p q).length)):=by cases p<;>cases q<;>kernel_rfl
 refine wk ?_
 refine W.bx (c:=[]) H rfl rfl rfl rfl rfl rfl fun τ n1 H k1=>?_
 refine wk ?_
 refine W.kn hfn eA kA rfl rfl rfl (snaps1 (hsn _)) ?_
 refine wk ?_
 refine W.bin rfl rfl rfl rfl hsh ?_
 refine wk ?_
 exact GoF.ret ⟨rfl,_,resA_2 (resV_v rfl) (resV_v rfl),rfl⟩
omit hfn in
theorem numbered_go(hh:Here (b.envK K) n_numbered c385){σ:St}{q cnt c:Nat}(hq:σ.next=q):GoesCall (b.envK K) 0 (.f (.func n_numbered) [] []) [nI cnt,m1V c] σ (fun r τ=>r= .ok (.f (.func n_numbered1) [] [pt q,pt (q+1)])∧τ.get q=some (.cells [nI cnt])∧τ.get (q+1)=some (.cells [m1V c])∧τ.next=q+2∧Mr σ τ):=by
 refine W.code hh.e hh.p hh.f rfl rfl rfl rfl fun z=>?_
 have H:Has σ []:=Has.nil
 refine wk ?_
 refine W.bx (c:=[nI cnt]) H hq rfl rfl rfl rfl rfl fun τ hn H k1=>?_
 refine wk ?_
 refine W.bx (c:=[m1V c]) H hn rfl rfl rfl rfl rfl fun τ2 hn2 H k2=>?_
 refine wk ?_
 exact GoF.ret ⟨rfl,rfl,H.get _ (.tail _ (.head _)),H.get _ (.head _),by omega,by omega,fun i o h=>k2 _ _ (k1 _ _ h)⟩
theorem vmodels_go(hh:Here (b.envK K) n_vmodels c378)(hnb:Here (b.envK K) n_numbered c385)(eA:b.ext n_Atoms=0∧b.pure n_Atoms=true){p q:Bool}{E:List PF}(kA:K n_Atoms [fsA E] (nsF p q)){σ:St}{all:AV}(hsn:snapshot σ (b.fz+1000) all=some (fsA E))(hsk:∀τ,Mr σ τ→snapshot τ (b.fz+1000) all=some (fsA E)){k cnt:Nat}(hk:σ.next=k):
  GoesCall (b.envK K) 0 (.f (.func n_vmodels) [] []) [vals,.i .u8 0,all,nI 1,nI cnt] σ (fun r τ=>r= .ok (.f (.func n_numbered1) [] [pt (k+2),pt (k+3)])∧τ.get (k+1)=some (.cells [nsF p q])∧τ.get (k+2)=some (.cells [nI cnt])∧τ.get (k+3)=some (.cells [m1V (k+1)])∧τ.next=k+4∧Mr σ τ):=by
 refine W.code hh.e hh.p hh.f rfl rfl rfl rfl fun z=>?_
 have H:Has σ []:=Has.nil
 refine wk ?_
 refine W.bx (c:=[]) H hk rfl rfl rfl rfl rfl fun τ n1 H k1=>?_
 refine wk ?_
 refine W.kn hfn eA kA rfl rfl rfl (snaps1 (hsk _ ⟨by omega,k1⟩)) ?_
 have hnc:(nsF p q).cells=[nsF p q]∧(nsF p q).val=true∧conf none (nsF p q)=true:=by cases p<;>cases q<;>exact⟨rfl,rfl,rfl⟩
 refine W.al (c:=[.nilsl]) H n1 rfl rfl rfl fun τ2 n2 H k2=>?_
 refine W.st (c':=[nsF p q]) H 0 rfl rfl rfl rfl hnc.2.2 (by rw[hnc.1];rfl) fun τ3 n3 H k3=>?_
 have kk:∀i o,i≠k+1→τ.get i=some o→τ3.get i=some o:=fun i o hi ho=>k3 _ _ hi (k2 _ _ ho)
 refine wk ?_
 refine W.cl trivial rfl rfl rfl (numbered_go hnb (q:=k+2) (cnt:=cnt) (c:=k+1) (by omega)) fun r τ4 ⟨e,g1,g2,n4,M4⟩=>⟨_,e,?_⟩
 refine wk ?_
 exact GoF.ret ⟨rfl,rfl,M4.2 _ _ (H.get _ (.head _)),g1,g2,by omega,by omega,fun i o ho=>M4.2 _ _ (kk _ _ (by have:=St.get_lt ho;omega) (k1 _ _ ho))⟩
theorem vmodels1_go(hh:Here (b.envK K) n_vmodels1 c386)(em:b.ext n_tModel=0∧b.pure n_tModel=true){p q:Bool}{v c:Nat}(km:K n_tModel [nsB p q,nI v] (.tu [.ag (mdC false p q v),nI 0])){σ:St}(hc:σ.get c=some (.cells [nsF p q])):
  GoesCall (b.envK K) 0 (m1V c) [nI v] σ (fun r τ=>r= .ok (.tu [.ag (mdC false p q v),nI 0])∧Mr σ τ):=by
 refine W.codeR hh.e hh.p hh.f rfl rfl rfl fun z=>?_
 have H:Has σ [(c,[nsF p q])]:=Has.nil.cons hc (by simp)
 have hcl:=St.get_lt hc
 generalize hk:σ.next=k at *
 refine wk ?_
 refine W.al (c:=[.i .u8 0,nI 0,.nilsl,nI 0,.nilsl,.nilsl,.nilsl]) H hk rfl rfl rfl fun τ2 n2 H k2=>?_
 refine wk ?_
 refine W.kn hfn em km rfl rfl rfl (snaps2 (nsF_sn p q _ (b.fz+998)) rfl) ?_
 refine wk ?_
 refine W.st (c':=mdC false p q v) H 0 rfl rfl rfl rfl rfl rfl fun τ3 n3 H k3=>?_
 refine wk ?_
 exact GoF.ret ⟨rfl,_,resA_2 (resV_b rfl (H.get _ (.head _)) rfl) (resV_v rfl),rfl,by omega,fun i o ho=>k3 _ _ (by have:=St.get_lt ho;omega) (k2 _ _ ho)⟩
end
section
variable {b:Base}{K:Nat→List AV→AV→Prop}(hfn:∀g ar r r',K g ar r→K g ar r'→r=r')
include hfn
theorem numbered1_go(hh:Here (b.envK K) n_numbered1 c392)(h1:Here (b.envK K) n_vmodels1 c386)(em:b.ext n_tModel=0∧b.pure n_tModel=true){p q:Bool}{cnt k:Nat}(hcnt:cnt≤4)(km:∀v<cnt,K n_tModel [nsB p q,nI v] (.tu [.ag (mdC false p q v),nI 0])){σ:St}(g1:σ.get (k+1)=some (.cells [nsF p q]))(g2:σ.get (k+2)=some (.cells [nI cnt]))(g3:σ.get (k+3)=some (.cells [m1V (k+1)]))(W0:Nat→Prop)(hW0:∀c,W0 c→c≤k):
  Yields (b.envK K) n_numbered1 [pt (k+2),pt (k+3)] cnt (fun i _ _ args=>args=[.ag (mdC false p q i)]) σ W0:=by
 intro yv J τ0 hst hy hn0 hk0 hlt hJ
 refine W.code0 hh.e hh.p hh.f rfl rfl rfl fun z=>?_
 have H:Has τ0 [(k+2,[nI cnt])]:=Has.nil.cons (hk0 _ _ g2) (by simp)
 have b3:=St.get_lt g3
 refine wk ?_
 show GoW _ _ _ _ _ _ _ _
 refine GoF.each cnt (fun j f τ=>∃V,J j V τ∧τ0.next≤τ.next∧(∀c,V c→c<τ.next)∧(∀c,V c→c≤k∨τ0.next≤c)∧τ.get (k+1)=some (.cells [nsF p q])∧τ.get (k+3)=some (.cells [m1V (k+1)])∧sat [(0,yv),(2,pt (k+3))] f) (by omega) ⟨W0,hJ,Nat.le_refl _,fun c hc=>by have:=hlt c hc;omega,fun c hc=>.inl (hW0 c hc),hk0 _ _ g1,hk0 _ _ g3,rfl,rfl,trivial⟩ rfl rfl (fun j g τ hj hI hi hm=>?_) (fun g τ hI hi=>?_)
 ·obtain⟨V,hJ,hn,hV,hVk,h1',h3',g0,g2',_⟩:=hI
  refine GoF.norm [(0,yv),(2,pt (k+3)),(8,nI j),(7,nI cnt)] ⟨g0,g2',hi,hm,trivial⟩ fun g=>?_
  have H:Has τ [(k+3,[m1V (k+1)])]:=Has.nil.cons h3' (by simp)
  refine wk ?_
  refine W.cy rfl rfl rfl (vmodels1_go hfn h1 em (km j hj) h1') fun r τ1 ⟨e,M1⟩=>⟨_,e,?_⟩
  have H:Has τ1 []:=Has.nil
  refine wk ?_
  refine W.al (c:=[.i .u8 0,nI 0,.nilsl,nI 0,.nilsl,.nilsl,.nilsl]) H rfl rfl rfl rfl fun τ2 n2 H k2=>?_
  refine wk ?_
  refine W.st (c':=mdC false p q j) H 0 rfl rfl rfl rfl rfl rfl fun τ3 n3 H k3=>?_
  have M3:Mr τ τ3:=⟨by have:=M1.1;omega,fun i o ho=>k3 _ _ (by have:=St.get_lt (M1.2 _ _ ho);omega) (k2 _ _ (M1.2 _ _ ho))⟩
  have hJ3:=hst _ _ _ τ3 hJ (fun c o _=>M3.2 c o) M3.1
  have m1:=M1.1
  have m3:=M3.1
  refine wk ?_
  refine W.cy rfl rfl rfl (hy j V τ3 [.ag (mdC false p q j)] hj (by omega) rfl hJ3) fun r τ4 ⟨e,V4,hJ4,hS4⟩=>⟨_,e,?_⟩
  have n4:=hS4.next
  have nV:∀c,k<c→c<τ0.next→¬V c:=fun c h1 h2 h=>by rcases hVk c h with h|h<;>omega
  refine wk ?_
  refine⟨rfl,rfl,V4,hJ4,by omega,fun c hc=>?_,fun c hc=>?_,hS4.keep _ _ (nV _ (by omega) (by omega)) (M3.2 _ _ h1'),hS4.keep _ _ (nV _ (by omega) (by omega)) (M3.2 _ _ h3'),rfl,rfl,trivial⟩
  ·rcases hS4.own c hc with h|h
   ·have:=hV c h;omega
   ·omega
  ·rcases hS4.own c hc with h|h
   ·exact hVk c h
   ·omega
 ·obtain⟨V,hJ,_⟩:=hI
  exact⟨.inr rfl,rfl,V,hJ⟩
end
structure HRf(b:Base)(K:Nat→List AV→AV→Prop)(tv:Nat):Prop where
 fn:∀g ar r r',K g ar r→K g ar r'→r=r'
 hc:HCc (b.envK K)
 cf:Here (b.envK K) n_ContainsFuncF c45
 ixf:Here (b.envK K) n_IndexFuncF c63
 ml:b.meth tv hnL =some n_vlong
 el:b.ext n_vlong=0∧b.pure n_vlong=true
 mc:b.meth tv hnC =some n_vcount
 ec:b.ext n_vcount=0∧b.pure n_vcount=true
 mm:b.meth tv hnM =some n_vmodels
 md:Here (b.envK K) n_vmodels c378
 md1:Here (b.envK K) n_vmodels1 c386
 nu:Here (b.envK K) n_numbered c385
 nu1:Here (b.envK K) n_numbered1 c392
 ek:b.ext n_kindOf=0∧b.pure n_kindOf=true
 kk:K n_kindOf [.i .u8 1] (.tu [.it tv vals,.b true])
 es:b.ext n_Sizes=0∧b.pure n_Sizes=true
 ks:K n_Sizes [.i .u8 1] (nI 1)
 ecl:b.ext n_claimed=0∧b.pure n_claimed=true
 er:b.ext n_refutes=0∧b.pure n_refutes=true
 em:b.ext n_tModel=0∧b.pure n_tModel=true
 eA:b.ext n_Atoms=0∧b.pure n_Atoms=true
abbrev sqA(X:List PF)(y:PF):AV:=.ag [fsA X,fsA [y]]
structure KSq(K:Nat→List AV→AV→Prop)(tv:Nat)(la:AV)(p q:Bool)(X:List PF)(y:PF):Prop where
 cl:K n_claimed [la,sqA X y] (.b true)
 at_:K n_Atoms [fsA (X++[y])] (nsF p q)
 cnt:K n_vcount [vals,.i .u8 0,fsA (X++[y]),nI 1] (.tu [nI (2^(nmB p q).length),nI 0])
 long:∀a∈X++[y],K n_vlong [vals,.ag (pc a)] (.b false)
 mod:∀v<2^(nmB p q).length,K n_tModel [nsB p q,nI v] (.tu [.ag (mdC false p q v),nI 0])
 ref:∀v<2^(nmB p q).length,K n_refutes [.it tv vals,.ag (mdC true p q v),sqA X y] (.b false)
section
variable {b:Base}{K:Nat→List AV→AV→Prop}
theorem Refute_go{tv:Nat}(h:HRf b K tv){nm:List Nat}{rl la:AV}(hrl:rl.val=true∧rl.cells=[rl]∧conf none rl=true)(hla:∀σ,snapshot σ (b.fz+1000) (.ag (lgC nm rl))=some la){p q:Bool}{X:List PF}{y:PF}(hl:X.length≤500)(hd:∀a∈X++[y],a.fm.dep≤200)(hK:KSq K tv la p q X y)(hsq:∀σ,snapshot σ (b.fz+1000) (sqA X y)=some (sqA X y))(body:ACode)(hb:c23.body=some body):
  GoX (b.envK K) [] [.inl (14+nzl (fsV X)+nzl (fsV [y]))] c23.ntmps body (argF [.ag (lgC nm rl),sqA X y,nI 1]) ⟨.nil,0⟩ (DoneXR (14+nzl (fsV X)+nzl (fsV [y])) c23.results (.tu [nI 0,.b false,nI 0])):=by
 cases hb
 refine GoX.args fun z=>?_
 have H:Has (⟨.nil,0⟩:St) []:=Has.nil
 refine GoX.seqA ?_
 refine wk ?_
 refine W.bx (c:=lgC nm rl) H rfl rfl rfl rfl rfl rfl fun τ n1 H k1=>?_
 refine wk ?_
 refine W.bx (c:=[fsA X,fsA [y]]) H n1 rfl rfl rfl rfl rfl fun τ2 n2 H k2=>?_
 refine wk ?_
 refine W.al (c:=[nI 0]) H n2 rfl rfl rfl fun τ3 n3 H k3=>?_
 refine wk ?_
 refine W.al (c:=[.b false]) H n3 rfl rfl rfl fun τ4 n4 H k4=>?_
 refine wk ?_
 refine W.al (c:=[nI 0]) H n4 rfl rfl rfl fun τ5 n5 H k5=>?_
 refine wk ?_
 refine⟨rfl,?_⟩
 refine GoX.seqA ?_
 refine wk ?_
 refine W.kn h.fn h.ecl hK.cl rfl rfl rfl (snaps2 (hla _) (hsq _)) ?_
 refine wk ?_
 refine W.kn h.fn h.es h.ks rfl rfl rfl rfl ?_
 refine wk ?_
 refine⟨rfl,?_⟩
 refine GoX.seqA ?_
 refine wk ?_
 refine W.kn h.fn h.ek h.kk rfl rfl rfl rfl ?_
 refine wk ?_
 refine W.al (c:=[.ni]) H n5 rfl rfl rfl fun τ6 n6 H k6=>?_
 refine W.st (c':=[.it tv vals]) H 0 rfl rfl rfl rfl rfl rfl fun τ7 n7 H k7=>?_
 refine wk ?_
 refine⟨rfl,?_⟩
 refine GoX.seqA ?_
 refine wk ?_
 have hfo:=hforms_go h.hc (σ:=τ7) (o1:=true) (o2:=true) (xs:=fsV X) (ys:=fsV [y]) (fsV_cf X) (fsV_cf [y]) (by simp) (by simp;omega)
 refine W.cl trivial rfl rfl rfl hfo fun r τ8 ⟨w,e,N8,M8,n8⟩=>⟨_,e,?_⟩
 have hw8:Sl τ8 (some 4) w (fsV (X++[y])):=by unfold fsV;rw[List.map_append];exact N8.sl
 have H:=H.keep M8.2
 refine wk ?_
 refine⟨rfl,?_⟩
 refine GoX.seqA ?_
 refine wk ?_
 refine W.cl trivial rfl rfl rfl (ContainsFuncF_go h.fn h.cf h.ixf h.ml h.el hw8.vw (by rw[List.length_map,List.length_append];simp;omega) fun x hx=>?_) fun r τ9 ⟨e,e2⟩=>⟨_,e,?_⟩
 ·obtain⟨a,ha,rfl⟩:=List.mem_map.1 hx
  refine⟨.ag (pc a),fun τ=>?_,hK.long a ha⟩
  rw[PF.fc_eq];exact psnP a (hd a ha) τ
 subst e2
 refine wk ?_
 refine⟨rfl,?_⟩
 refine GoX.seqA ?_
 have hsnA:∀τ,Mr τ9 τ→snapshot τ (b.fz+1000) w=some (fsA (X++[y])):=fun τ M=>by
  have h1:=mapO_of (f:=snapshot τ (b.fz+999)) (g:=fun x=>x) (l:=fsV (X++[y])) (fun x hx=>by
   obtain⟨a,ha,rfl⟩:=List.mem_map.1 hx
   rw[PF.fc_eq];exact psn9 a (hd a ha) τ)
  rw[List.map_id'] at h1
  exact(hw8.keep fun i o _=>M.2 i o).snapG (m:=b.fz+999) (by simp) h1
 refine wk ?_
 refine W.mt h.fn h.mc h.ec hK.cnt rfl rfl rfl ?_ ?_
 ·rw[mapO_cons,mapO_cons,mapO_cons,mapO_cons,mapO_nil,hsnA _ ⟨Nat.le_refl _,fun _ _ h=>h⟩];rfl
 refine wk ?_
 refine⟨rfl,?_⟩
 refine GoX.seqA ?_
 refine wk ?_
 refine⟨rfl,?_⟩
 refine GoX.seqA ?_
 refine wk ?_
 obtain⟨N,hN⟩:∃N,N=9+nzl (fsV X)+nzl (fsV [y]):=⟨_,rfl⟩
 have hn9:τ9.next=N:=by
  have e0:(⟨.nil,0⟩:St).next=0:=rfl
  omega
 rw[show 14+nzl (fsV X)+nzl (fsV [y])=N+5 from by omega]
 have H0:=H
 have H:Has τ9 [(5,[.it tv vals]),(4,[nI 0]),(3,[.b false]),(2,[nI 0]),(1,[fsA X,fsA [y]]),(0,lgC nm rl)]:=H0
 clear H0
 have hN9:9≤N:=by omega
 refine W.vr (c:=[nI 0]) H hn9 rfl rfl rfl rfl rfl rfl fun τ10 n10 H k10=>?_
 refine wk ?_
 refine⟨rfl,?_⟩
 refine GoX.seqB ?_
 refine GoX.seqA ?_
 refine wk ?_
 have M10:Mr τ9 τ10:=⟨by omega,k10⟩
 refine W.cy rfl rfl rfl (GoesCall.meth h.mm (vmodels_go h.fn h.md h.nu h.eA hK.at_ (σ:=τ10) (all:=w) (hsnA _ M10) (fun τ M=>hsnA _ ⟨by have:=M.1;omega,fun i o ho=>M.2 i o (k10 i o ho)⟩) (k:=N+1) (cnt:=2^(nmB p q).length) (by omega))) fun r τ11 ⟨e,g1,g2,g3,n11,M11⟩=>⟨_,e,?_⟩
 have H:=H.keep M11.2
 refine wk ?_
 refine⟨rfl,?_⟩
 refine GoX.block ?_
 have hp4:2^(nmB p q).length≤4:=by cases p<;>cases q<;>decide
 refine GoX.iter (k:=N+5) (2^(nmB p q).length) (fun i W τ=>τ.get N=some (.cells [nI i])∧∀c,W c↔c=N) (fun i _ _ args=>args=[.ag (mdC false p q i)]) (fun c=>c=N) (by omega) rfl h.nu1.e rfl (fun i W τ args e=>by rw[e];rfl) (fun i W τ τ' ⟨a1,a2⟩ b1 _=>⟨b1 _ _ ((a2 _).2 rfl) a1,a2⟩) ⟨H.get _ (.head _),fun c=>Iff.rfl⟩ (fun c hc=>by omega) (numbered1_go h.fn h.nu1 h.md1 h.em hp4 hK.mod g1 g2 g3 _ fun c hc=>by omega) ?_ ?_
 ·rintro i V τ args hi rfl ⟨hI1,hI2⟩ hnl hVk hkn kp
  have hnx:N+7≤τ.next:=by omega
  have c5:=kp _ _ (by omega) (H.get (5,[.it tv vals]) (by simp))
  have c1:=kp _ _ (by omega) (H.get (1,[fsA X,fsA [y]]) (by simp))
  refine GoF.norm [(63,.ag (mdC false p q i)),(4,pt 1),(9,pt 5),(14,pt N)] ⟨rfl,rfl,rfl,rfl,trivial⟩ fun g=>?_
  have H:Has τ []:=Has.nil
  refine wk ?_
  refine W.vr (c:=mdC false p q i) H rfl rfl rfl rfl rfl rfl rfl fun τa na H ka=>?_
  refine wk ?_
  refine⟨rfl,⟨by omega,ka⟩,fun τb nb kb ⟨hI1,hI2⟩=>?_⟩
  have hVN:V N:=(hI2 N).2 rfl
  have H:Has τb [(N,[nI i]),(τ.next,mdC false p q i),(5,[.it tv vals]),(1,[fsA X,fsA [y]])]:=(((Has.nil.cons (kb _ _ (by omega) (ka _ _ c1)) (by simp)).cons (kb _ _ (by omega) (ka _ _ c5)) (by simp)).cons (kb _ _ (by omega) (H.get _ (.head _))) (by simp;omega)).cons hI1 (by simp;omega)
  refine wk ?_
  refine W.kn h.fn h.er (hK.ref i hi) rfl rfl rfl (snaps3 rfl (mdC_sn false p q i _ (b.fz+996)) (hsq _)) ?_
  refine wk ?_
  refine W.st (c':=[nI (i+1)]) H 0 rfl rfl rfl rfl rfl rfl fun τc nc H kc=>?_
  refine wk ?_
  exact⟨rfl,V,⟨H.get _ (.head _),hI2⟩,by omega,fun c o hc ho=>kc _ _ (fun e=>hc (by rw[e];exact hVN)) ho,fun c hc=>.inl hc⟩
 ·intro V τ ⟨hI1,hI2⟩ hmk hnx kp hWk
  refine⟨rfl,rfl,?_⟩
  have d4:=kp _ _ (by omega) (H.get (4,[nI 0]) (by simp))
  have d3:=kp _ _ (by omega) (H.get (3,[.b false]) (by simp))
  have d2:=kp _ _ (by omega) (H.get (2,[nI 0]) (by simp))
  refine GoF.norm [(6,pt 2),(7,pt 3),(8,pt 4)] ⟨rfl,rfl,rfl,trivial⟩ fun g=>?_
  have H:Has τ [(4,[nI 0]),(3,[.b false]),(2,[nI 0])]:=((Has.nil.cons d2 (by simp)).cons d3 (by simp)).cons d4 (by simp)
  refine wk ?_
  refine W.st H 2 rfl rfl rfl rfl rfl rfl fun τa na H ka=>?_
  refine wk ?_
  refine W.st H 1 rfl rfl rfl rfl rfl rfl fun τb nb H kb=>?_
  refine wk ?_
  refine W.st H 0 rfl rfl rfl rfl rfl rfl fun τc nc H kc=>?_
  refine wk ?_
  have hmf:=kc _ _ (by omega) (kb _ _ (by omega) (ka _ _ (by omega) hmk))
  have hst:=(set_get (o':=.dead) hmf).2
  refine GoF.ret ?_
  exact⟨rfl,hmf,_,resA_3 (resV_b rfl (hst _ _ (by omega) (H.get _ (.tail _ (.tail _ (.head _))))) rfl) (resV_b rfl (hst _ _ (by omega) (H.get _ (.tail _ (.head _)))) rfl) (resV_b rfl (hst _ _ (by omega) (H.get _ (.head _))) rfl),rfl⟩
end
section
variable {b:Base}{K:Nat→List AV→AV→Prop}(hfn:∀g ar r r',K g ar r→K g ar r'→r=r')
include hfn
theorem claimed_go(hc:HCc (b.envK K)){nm:List Nat}{rl la:AV}(hrl:rl.val=true∧rl.cells=[rl]∧conf none rl=true)(hla:∀σ,snapshot σ (b.fz+1000) (.ag (lgC nm rl))=some la){X:List PF}{y:PF}(hl:X.length≤500)(hd:∀a∈X++[y],a.fm.dep≤200)(eR:b.ext n_hRight=0∧b.pure n_hRight=true)(hR:∀a∈X++[y],K n_hRight [la,.ag (pc a)] (.b true))(el:b.ext n_logical=0∧b.pure n_logical=true)(hlg:K n_logical [la] (.b true))(body:ACode)(hb:c43.body=some body):
  GoF (b.envK K) c43.ntmps body (argF [.ag (lgC nm rl),sqA X y]) ⟨.nil,0⟩ (Done 4 (.b true)):=by
 cases hb
 refine W.args fun z=>?_
 have H:Has (⟨.nil,0⟩:St) []:=Has.nil
 refine wk ?_
 refine W.bx (c:=lgC nm rl) H rfl rfl rfl rfl rfl rfl fun τ n1 H k1=>?_
 refine wk ?_
 refine W.bx (c:=[fsA X,fsA [y]]) H n1 rfl rfl rfl rfl rfl fun τ2 n2 H k2=>?_
 refine wk ?_
 have hfo:=hforms_go hc (σ:=τ2) (o1:=true) (o2:=true) (xs:=fsV X) (ys:=fsV [y]) (fsV_cf X) (fsV_cf [y]) (by simp) (by simp;omega)
 refine W.cl trivial rfl rfl rfl hfo fun r τ3 ⟨w,e,N3,M3,_⟩=>⟨_,e,?_⟩
 have H:=H.keep M3.2
 have hw:Sl τ3 (some 4) w (fsV (X++[y])):=by unfold fsV;rw[List.map_append];exact N3.sl
 have hvw:=hw.vw
 have hEl:(X++[y]).length=X.length+1:=by simp
 refine wk ?_
 rw[List.length_map]
 show GoW _ _ _ _ _ _ _ _
 refine GoF.each (X++[y]).length (fun j f τ'=>Mr τ3 τ'∧sat [(2,pt 0),(8,w)] f) (by omega) ⟨⟨Nat.le_refl _,fun _ _ h=>h⟩,rfl,rfl,trivial⟩ rfl rfl (fun j g τ' hj hI hi hm'=>?_) (fun g τ' hI hi=>?_)
 ·obtain⟨M,g2,g8,_⟩:=hI
  refine GoF.norm [(2,pt 0),(8,w),(10,nI j),(9,nI (X++[y]).length)] ⟨g2,g8,hi,hm',trivial⟩ fun g=>?_
  have H:=H.keep M.2
  have hvw:=(hw.keep fun i o _=>M.2 i o).vw
  have hjl:j<(fsV (X++[y])).length:=by rw[List.length_map];exact hj
  have hg:(fsV (X++[y]))[j]'hjl= .ag (pc (X++[y])[j]):=by rw[List.getElem_map,PF.fc_eq]
  have hmem:(X++[y])[j]∈X++[y]:=List.getElem_mem hj
  have hdj:=hd _ hmem
  have hKj:=hR _ hmem
  refine wk ?_
  rw[hg]
  generalize(X++[y])[j]=a at hdj hKj
  refine W.al H rfl rfl rfl rfl fun τ4 n4 H k4=>?_
  refine wk ?_
  refine W.st (c':=pc a) H 0 rfl rfl rfl rfl rfl rfl fun τ5 n5 H k5=>?_
  refine wk ?_
  refine W.kn hfn eR hKj rfl rfl rfl (snaps2 (hla _) (psnP _ hdj _)) ?_
  refine wk ?_
  exact⟨rfl,rfl,⟨by have:=M.1;omega,fun i o h=>k5 _ _ (by have:=St.get_lt (M.2 _ _ h);omega) (k4 _ _ (M.2 _ _ h))⟩,rfl,rfl,trivial⟩
 ·obtain⟨M,g2,_⟩:=hI
  refine GoF.norm [(2,pt 0)] ⟨g2,trivial⟩ fun g=>?_
  have H:=H.keep M.2
  refine wk ?_
  refine W.kn hfn el hlg rfl rfl rfl (snaps1 (hla _)) ?_
  refine wk ?_
  exact GoF.ret ⟨rfl,rfl⟩
theorem Follows_go{nm:List Nat}{rl la:AV}(hrl:rl.val=true∧rl.cells=[rl]∧conf none rl=true)(hla:∀σ,snapshot σ (b.fz+1000) (.ag (lgC nm rl))=some la){X:List PF}{y:PF}(hsq:∀σ,snapshot σ (b.fz+1000) (sqA X y)=some (sqA X y))(es:b.ext n_Sizes=0∧b.pure n_Sizes=true)(ks:K n_Sizes [.i .u8 1] (nI 1))(er:b.ext n_Refute=0∧b.pure n_Refute=true)(kr:K n_Refute [la,sqA X y,nI 1] (.tu [nI 0,.b false,nI 0]))(body:ACode)(hb:c9.body=some body):
  GoF (b.envK K) c9.ntmps body (argF [.ag (lgC nm rl),sqA X y,nI 1]) ⟨.nil,0⟩ (DoneR c9.results (.tu [.b true,nI 0])):=by
 cases hb
 refine W.args fun z=>?_
 have H:Has (⟨.nil,0⟩:St) []:=Has.nil
 refine wk ?_
 refine W.bx (c:=lgC nm rl) H rfl rfl rfl rfl rfl rfl fun τ n1 H k1=>?_
 refine wk ?_
 refine W.bx (c:=[fsA X,fsA [y]]) H n1 rfl rfl rfl rfl rfl fun τ2 n2 H k2=>?_
 refine wk ?_
 refine W.kn hfn es ks rfl rfl rfl rfl ?_
 refine wk ?_
 refine GoF.block (GoF.loop (fun m f τ=>τ=τ2∧m≤1∧sat [(2,nI 1),(3,pt 0),(4,pt 1),(8,.b true),(9,nI (2-m))] f) ?_ 1 ⟨rfl,Nat.le_refl _,rfl,rfl,rfl,rfl,rfl,trivial⟩)
 rintro m g τ ⟨rfl,hm,hL⟩
 refine GoF.norm _ hL fun g=>?_
 clear hL
 rcases(by omega:m=1∨m=0) with rfl|rfl
 ·refine wk ?_
  refine W.kn hfn er kr rfl rfl rfl (snaps3 (hla _) (hsq _) rfl) ?_
  refine wk ?_
  exact⟨0,by omega,rfl,by omega,rfl,rfl,rfl,rfl,rfl,trivial⟩
 ·refine wk ?_
  refine GoF.exit ?_
  refine wk ?_
  exact GoF.ret ⟨rfl,_,resA_2 (resV_v rfl) (resV_v rfl),rfl⟩
end
end
section
variable [Tok][TokOk]
open Go.RowKit Go.Lyc.T
theorem one1{a b:AV}(h:[a]=[b]):a=b:=by injection h
theorem one2{a b c d:AV}(h:[a,b]=[c,d]):a=c∧b=d:=by injection h with h1 h2;injection h2 with h2;exact⟨h1,h2⟩
theorem s_inj{a b:List Nat}(h:AV.s a= .s b):a=b:=by injection h
theorem i_inj{k:IntKind}{a b:Int}(h:AV.i k a= .i k b):a=b:=by injection h
abbrev HB(b:Base)(g:Nat)(c:AFunc):Prop:=b.funcs.get g=some c∧b.ext g=0∧b.pure g=false
abbrev PB(b:Base)(g:Nat)(c:AFunc):Prop:=b.funcs.get g=some c∧b.ext g=0∧b.pure g=true
theorem HB.h{b:Base}{K:Nat→List AV→AV→Prop}{g:Nat}{c:AFunc}(h:HB b g c):Here (b.envK K) g c:=⟨h.1,h.2.1,h.2.2⟩
theorem eb(x:Bool):freshA 1000 (.b x)=true∧AV.eqb 1000 (.b x) (.b x)=true:=⟨rfl,Snp.eqb 1000 _ (Snp.b 999 _)⟩
theorem ei(k:IntKind)(x:Int):freshA 1000 (.i k x)=true∧AV.eqb 1000 (.i k x) (.i k x)=true:=⟨rfl,Snp.eqb 1000 _ (Snp.i 999 _ _)⟩
def ckV(ln kd fk fp fi e:Nat):AV:=.tu [.ag [nI ln,.i .u8 (Int.ofNat kd),.i .u8 (Int.ofNat fk),nI fp,nI fi],nI e]
def CkM(T:List Ln)(r:AV):Prop:=∃ln kd fk fp fi e,r=ckV ln kd fk fp fi e∧(e=0∨e=180)∧∀T0 x,T=T0++[x]→(x.rule=againN→(stF T0 (x.cs.headD (0,0)).2=[]→e=0)∧(stF T0 (x.cs.headD (0,0)).2≠[]→e=180∧ln=T0.length+1∧kd=5∧fk=0∧fp=0∧fi=0))∧(x.rule≠againN→isBoxB T (boxL T) (T0.length+1) (x.cs.headD (0,0)).1 (x.cs.headD (0,0)).2=false→e=180)
theorem PF.fm_dep(a:PF):a.fm.dep=a.dep:=by
 induction a with
 | atm q=>rfl
 |ff=>rfl
 |neg a ih=>
  rw[Fm.dep_eq]
  show max 0 (Fm.deps [a.fm])+1=a.dep+1
  rw[Fm.deps,ih,Fm.deps];omega
 |bin k a c ih ih2=>
  rw[Fm.dep_eq]
  show max 0 (Fm.deps [a.fm,c.fm])+1=max a.dep c.dep+1
  rw[Fm.deps,ih,Fm.deps,ih2,Fm.deps];omega
theorem PF.fm_inj:∀ {a c:PF},a.fm=c.fm→a=c:=fun {a c} h=>by
 induction a generalizing c with
 | atm q=>cases c with
  | atm q'=>cases q<;>cases q'<;>first|rfl|(injection h with _ h;cases h)
  |bin k _ _=>injection h with h;exact absurd h (by omega)
  |_=>cases h
 |ff=>cases c with
  |ff=>rfl
  |bin k _ _=>injection h with h;exact absurd h (by omega)
  |_=>cases h
 |neg a ih=>cases c with
  |neg c=>injection h with _ _ _ h;injection h with h;injection h with h;rw[ih h]
  |bin k _ _=>injection h with h;exact absurd h (by omega)
  |_=>cases h
 |bin k a a2 ih ih2=>cases c with
  |bin k' c c2=>
   injection h with h0 _ _ h
   injection h with h
   injection h with h1 h
   injection h with h2
   rw[ih h1,ih2 h2,Fin.ext (show k.val=k'.val by omega)]
  | atm q=>injection h with h;exact absurd h (by omega)
  |ff=>injection h with h;exact absurd h (by omega)
  |neg c=>injection h with h;exact absurd h (by omega)
theorem PF.A_inj{a c:PF}(h:a.fm.A true=c.fm.A true):a=c:=PF.fm_inj (Fm.A_inj h)
theorem map_inj{α β:Type}{f:α→β}(hf:∀x y,f x=f y→x=y):∀ {l m:List α},l.map f=m.map f→l=m
 |[],[],_=>rfl
 |[],_::_,h=>by cases h
 |_::_,[],h=>by cases h
 |x::l,y::m,h=>by
  injection h with h1 h2
  rw[hf x y h1,map_inj hf h2]
theorem sbA_inj{a c:PF}(h:sbA a=sbA c):a.subs=c.subs:=by
 have h:=slA_inj h
 refine map_inj (f:=fun x:PF=>AV.ag (fc x.fm)) (fun x y hxy=>PF.A_inj ?_) h
 rw[fA,fA];exact hxy
theorem csA_inj{l m:List (Nat×Nat)}(h:csA true l=csA true m):l=m:=by
 refine map_inj (f:=fun c:Nat×Nat=>AV.ag [nI c.1,nI c.2]) (fun x y hxy=>?_) (slA_inj h)
 injection hxy with h
 injection h with h1 h
 injection h with h2 _
 exact Prod.ext (Int.ofNat.inj (i_inj h1)) (Int.ofNat.inj (i_inj h2))
theorem Ln.A_inj{x y:Ln}(h:x.A=y.A):x=y:=by
 obtain⟨a1,a2,a3,a4,a5,a6⟩:=x
 obtain⟨b1,b2,b3,b4,b5,b6⟩:=y
 injection h with h
 injection h with h1 h
 injection h with h2 h
 injection h with h3 h
 injection h with f1 h
 injection h with f2 h
 injection h with f3 h
 injection h with f4 h
 injection h with h5 h
 injection h with h6 _
 have e4:a4=b4:=Fm.A_inj (o:=true) (by rw[fA,fA];show AV.ag [_,_,_,_]=AV.ag [_,_,_,_];rw[f1,f2,f3,f4])
 have e1:a1=b1:=Int.ofNat.inj (i_inj h1)
 have e2:a2=b2:=Int.ofNat.inj (i_inj h2)
 have e3:a3=b3:=by injection h3
 have e5:a5=b5:=s_inj h5
 have e6:a6=b6:=csA_inj h6
 rw[e1,e2,e3,e4,e5,e6]
theorem lns_inj{T U:List Ln}(h:lnsA T=lnsA U):T=U:=by
 injection h with _ _ h
 exact map_inj (fun x y=>Ln.A_inj) h
def MtR(r:AV):Prop:=∃bf,r= .tu [.ag [bf,.nilsl],nI 0,nI 0]∧(∀σ,freeze σ 0 998 bf=some bf)∧(∀n,AV.eqb (n+500) bf bf=true)∧∀n,freshA (n+500) bf=true
def trueG:List Nat:=[n_Right,n_Allowed,n_LRight,n_RRight,n_SameTerms,n_awake18,n_argsAllowed,n_one,n_named]
structure Intd(la lg:AV)(g:Nat)(ar:List AV)(r:AV):Prop where
 tru:g∈trueG→r= .b true
 mis:g=n_misshapen→r=nI 0
 size:g=n_size→∀a:PF,ar=[a.fm.A true]→r=nI a.sz
 sfs:g=n_SameForms→∀a c:PF,ar=[sbA a,sbA c]→r= .b (decide (a.subs=c.subs))
 sf:g=n_SameForm→∀a c:PF,ar=[a.fm.A true,c.fm.A true]→r= .b (decide (a=c))
 mal:g=n_mAlike→∀a c:PF,ar=[a.fm.A true,c.fm.A true,.nilsl]→r= .b (decide (a=c))
 sal:g=n_sAlike→∀a c:PF,ar=[a.fm.A true,c.fm.A true,.nilsl]→r= .b (decide (a=c))
 alp:g=n_Alpha→∀a c:PF,ar=[a.fm.A true,c.fm.A true]→r= .b (decide (a=c))
 img:g=n_img→∀a:PF,∀p,ar=[p,a.fm.A true,.nilsl]→r= .tu [a.fm.A false,.b true]
 cpy:g=n_Copy→∀a:PF,ar=[a.fm.A true]→r=a.fm.A false
 shp:g=n_shaped→∀T k,ar=[lnsA T,nI k]→r= .b (shB T k)
 nds:g=n_fNeeds→∀T,ar=[lnsA T]→r= .tu [nsA (ndsL T T.length),nI 0]
 chk:g=n_fCheck→∀T,ar=[la,lnsA T]→CkM T r
 ops:g=n_Ops→∀a:PF,ar=[a.fm.A true]→r= .i .u32 (Int.ofNat (opsN a.fm))
 srt:g=n_sorted1→∀x y:Sy,ar=[symA x,symA y]→r= .i .i64 (cmpSy x y)
 log:g=n_logics→r=lg
 mat:g=n_Matches→MtR r
 app:g=n_Apply→∃bf bt fk fp fi,r= .tu [.ag [bf,bt],.ag [.i .u8 (Int.ofNat fk),nI fp,nI fi],nI 0]
section
variable (P:Program)(b:Base)(la lg:AV)
def Kn(g:Nat)(ar:List AV)(r:AV):Prop:=∀B0,SpecEntry P (b.env []) B0 g ar r
def Kb(g:Nat)(ar:List AV)(r:AV):Prop:=∃h:∃r,Kn P b g ar r∧Intd la lg g ar r,r=Classical.choose h
end
section
variable {P:Program}{b:Base}{la lg:AV}
theorem Kb.fn:∀g ar r r',Kb P b la lg g ar r→Kb P b la lg g ar r'→r=r':=fun g ar r r' ⟨h,e⟩ ⟨h',e'⟩=>by rw[e,e']
theorem Kb.ok:KOk P b (Kb P b la lg):=fun g ar r ⟨h,e⟩=>by subst e;exact(Classical.choose_spec h).1
theorem Kb.get{g:Nat}{ar:List AV}{r:AV}(h:Kn P b g ar r)(hI:Intd la lg g ar r):∃r,Kb P b la lg g ar r∧Intd la lg g ar r:=⟨_,⟨⟨r,h,hI⟩,rfl⟩,(Classical.choose_spec (⟨r,h,hI⟩:∃r,Kn P b g ar r∧Intd la lg g ar r)).2⟩
theorem Kb.det{g:Nat}{ar:List AV}{r:AV}(h:Kn P b g ar r)(hI:Intd la lg g ar r)(hu:∀r',Intd la lg g ar r'→r'=r):Kb P b la lg g ar r:=by
 obtain⟨r',h1,h2⟩:=Kb.get h hI
 rw[←hu r' h2];exact h1
theorem I_size(a:PF):Intd la lg n_size [a.fm.A true] (nI a.sz):=by
 constructor<;>(intro h;first|exact absurd h (by decide)|skip)
 intro c h;rw[PF.A_inj (one1 h)]
theorem I_sfs(a c:PF):Intd la lg n_SameForms [sbA a,sbA c] (.b (decide (a.subs=c.subs))):=by
 constructor<;>(intro h;first|exact absurd h (by decide)|skip)
 intro a' c' h;rw[sbA_inj (one2 h).1,sbA_inj (one2 h).2]
theorem I_sf(a c:PF):Intd la lg n_SameForm [a.fm.A true,c.fm.A true] (.b (decide (a=c))):=by
 constructor<;>(intro h;first|exact absurd h (by decide)|skip)
 intro a' c' h;rw[PF.A_inj (one2 h).1,PF.A_inj (one2 h).2]
theorem I_tru{g:Nat}{ar:List AV}(hg:g∈trueG):Intd la lg g ar (.b true):=by
 simp only[trueG,List.mem_cons,List.not_mem_nil,or_false] at hg
 rcases hg with rfl|rfl|rfl|rfl|rfl|rfl|rfl|rfl|rfl<;>constructor<;>(intro h;first|exact absurd h (by decide)|rfl)
theorem I_mis{ar:List AV}:Intd la lg n_misshapen ar (nI 0):=by
 constructor<;>(intro h;first|exact absurd h (by decide)|rfl)
theorem I_shp(T:List Ln)(k:Nat):Intd la lg n_shaped [lnsA T,nI k] (.b (shB T k)):=by
 constructor<;>(intro h;first|exact absurd h (by decide)|skip)
 intro T' k' h;rw[lns_inj (one2 h).1,Int.ofNat.inj (i_inj (one2 h).2)]
theorem I_log{ar:List AV}:Intd la lg n_logics ar lg:=by
 constructor<;>(intro h;first|exact absurd h (by decide)|rfl)
end
structure FB(b:Base):Prop where
 starts:HB b n_starts c79
 EqualI:HB b n_EqualI c80
 IndexI:HB b n_IndexI c110
 ContainsI:HB b n_ContainsI c82
 CloneI:HB b n_CloneI c40
 isBox:HB b n_isBox c57
 assumptions:HB b n_assumptions c81
 beside:HB b n_beside c58
 needed:HB b n_needed c41
 fforms:HB b n_fforms c119
 fopen:HB b n_fopen c21
 around:HB b n_around c39
 around1:HB b n_around1 c56
 premises:HB b n_premises c94
 premises1:HB b n_premises1 c118
 premises2:HB b n_premises2 c120
 fBoxed:HB b n_fBoxed c95
 cited:HB b n_cited c70
 fbad:HB b n_fbad c49
 fbad1:HB b n_fbad1 c69
 IndexFuncR:HB b n_IndexFuncR c68
 rformulas:HB b n_rformulas c98
 rformulas1:HB b n_rformulas1 c123
 scount:HB b n_scount c99
 smatch:HB b n_smatch c100
 smatch1:HB b n_smatch1 c124
 snames:HB b n_snames c101
 sconds:HB b n_sconds c126
 sconds1:HB b n_sconds1 c161
 sconds11:HB b n_sconds11 c162
 sconds6:HB b n_sconds6 c173
 mTerm:HB b n_mTerm c163
 mcopyTerm:HB b n_mcopyTerm c223
 mquant:HB b n_mquant c209
 squant:HB b n_squant c121
 Made:HB b n_Made c5
 Made1:HB b n_Made1 c12
 Made2:HB b n_Made2 c15
 line:HB b n_line c16
 madd:HB b n_madd c13
 mshut:HB b n_mshut c20
 pool:HB b n_pool c14
 join:HB b n_join c18
 atom:HB b n_atom c24
 SameInts:HB b n_SameInts c8
 size_:PB b n_size c17
 SameForms_:PB b n_SameForms c37
 SameForm_:PB b n_SameForm c19
 mAlike_:PB b n_mAlike c208
 sAlike_:PB b n_sAlike c97
 Alpha_:PB b n_Alpha c71
 img_:PB b n_img c207
 shaped_:PB b n_shaped c55
 misshapen_:PB b n_misshapen c38
 fNeeds_:PB b n_fNeeds c6
 fCheck_:PB b n_fCheck c26
 Apply_:PB b n_Apply c72
 fl:∀g∈[n_Right,n_Allowed,n_LRight,n_RRight,n_SameTerms,n_awake18,n_logics,n_Matches],b.ext g=0∧b.pure g=true
theorem FB.fl_{b:Base}(h:FB b){g:Nat}(hg:inN [n_Right,n_Allowed,n_LRight,n_RRight,n_SameTerms,n_awake18,n_logics,n_Matches] g=true):b.ext g=0∧b.pure g=true:=h.fl g (inN_mem hg)
theorem PF.sub_sz{a x:PF}(h:x∈a.subs):x.sz<a.sz:=by
 cases a with
 | atm _=>simp[PF.subs] at h
 |ff=>simp[PF.subs] at h
 |neg a=>rw[List.mem_singleton.1 h];exact Nat.lt_succ_self _
 |bin k a b=>
  show x.sz<a.sz+b.sz+1
  rcases List.mem_cons.1 h with rfl|h
  ·omega
  ·rw[List.mem_singleton.1 h];omega
section
variable {P:Program}{b:Base}(hb:BaseOk P b)(fb:FB b){la lg:AV}
include hb fb
theorem E_size:∀(n:Nat) (a:PF),a.dep≤n→a.dep≤190→a.sz<2^62→Kn P b n_size [a.fm.A true] (nI a.sz)
 |0,a,hd,_,_=>by cases a<;>simp[PF.dep] at hd
 |n+1,a,hd,hd2,hs=>fun B0=>by
  rw[pA]
  exact entryK hb (Kb.ok (la:=.nilsl) (lg:=.nilsl)) _ fb.size_.1 rfl rfl rfl rfl (ei _ _).1 (ei _ _).2 (size_go Kb.fn a (fun x hx=>by rw[PF.fm_dep];have:=PF.sub_dep hx;omega) hs fb.size_.2 (fun x hx=>Kb.det (E_size n x (by have:=PF.sub_dep hx;omega) (by have:=PF.sub_dep hx;omega) (by have:=PF.sub_sz hx;omega)) (I_size x) fun r h=>h.size rfl x rfl) _ rfl) B0
theorem E_sf(hst:Kn P b n_SameTerms [.nilsl,.nilsl] (.b true)):∀(n:Nat) (a c:PF),a.dep≤n→a.dep≤190→c.dep≤190→Kn P b n_SameForm [a.fm.A true,c.fm.A true] (.b (decide (a=c)))
 |0,a,_,hd,_,_=>by cases a<;>simp[PF.dep] at hd
 |n+1,a,c,hd,hd2,hd3=>by
  have hsa:∀ {x:PF},x∈a.subs→x.fm.dep≤200∧x.dep≤n∧x.dep≤190:=fun {x} hx=>by rw[PF.fm_dep];have:=PF.sub_dep hx;omega
  have hsc:∀ {x:PF},x∈c.subs→x.fm.dep≤200∧x.dep≤190:=fun {x} hx=>by rw[PF.fm_dep];have:=PF.sub_dep hx;omega
  have hsn:∀(x:PF),x.dep≤190→∀τ,snapshot τ (b.fz+1000) (sbA x)=some (sbA x):=fun x hx τ=>snap_slM (n:=b.fz+999) fun y hy=>by
   have h1:=Fm.snap τ true _ y.fm (b.fz+999) (Nat.le_refl _) (by rw[PF.fm_dep];have:=PF.sub_dep hy;omega)
   rwa[fA] at h1
  have h1:Kn P b n_SameForms [sbA a,sbA c] (.b (decide (a.subs=c.subs))):=fun B0=>entryK hb (Kb.ok (la:=.nilsl) (lg:=.nilsl)) _ fb.SameForms_.1 rfl rfl rfl rfl (eb _).1 (eb _).2 (SameForms_go Kb.fn a.subs c.subs ⟨a.subs_len,c.subs_len⟩ (fun x hx=>(hsa hx).1) (fun x hx=>(hsc hx).1) fb.SameForm_.2 (fun x hx y hy=>Kb.det (E_sf hst n x y (hsa hx).2.1 (hsa hx).2.2 (hsc hy).2) (I_sf x y) fun r h=>h.sf rfl x y rfl) _ rfl) B0
  intro B0
  rw[pA,pA]
  exact entryK hb (Kb.ok (la:=.nilsl) (lg:=.nilsl)) _ fb.SameForm_.1 rfl rfl rfl rfl (eb _).1 (eb _).2 (SameForm_go Kb.fn a c (fb.fl_ rfl) (Kb.det hst (I_tru (by decide)) fun r h=>h.tru (by decide)) fb.SameForms_.2 (Kb.det h1 (I_sfs a c) fun r h=>h.sfs rfl a c rfl) (hsn a hd2) (hsn c hd3) _ rfl) B0
end
end
section
variable [Tok][TokOk][Pat]
open Go.RowKit Go.Lyc.T
attribute [local irreducible] GoM GoW GoV GoD GoesCall
def trueH:List Nat:=[n_Right,n_tprop,n_tRight,n_vright,n_hwithin,n_hRight,n_claimed,n_logical,n_isNames,n_ContainsS]
def falseH:List Nat:=[n_vlong,n_refutes]
def opL:List Nat:=[n_newTable1,n_newTable2,n_newTable3,n_newTable4,n_newTable5]
structure IH(tv:Nat)(g:Nat)(ar:List AV)(r:AV):Prop where
 tru:inN trueH g=true→r= .b true
 fls:inN falseH g=true→r= .b false
 kk:g=n_kindOf→r= .tu [.it tv vals,.b true]
 ks:g=n_Sizes→r=nI 1
 rf:g=n_Refute→r= .tu [nI 0,.b false,nI 0]
 fo:g=n_Follows→r= .tu [.b true,nI 0]
 ls:g=n_LessS→∀a c,ar=[.s a,.s c]→r= .b (lssL a c)
 op:inN opL g=true→∀o,2≤o→o≤6→g=opF o→∀x y,ar=[uW x,uW y]→r=uW (opW o x y)
 at_:g=n_Atoms→∀L,ar=[fsA L]→r=slA false none ((nmv L).map AV.s)
 ev:g=n_tEval→∀a p q v,ar=[.ag (pc a),nsB p q,nI v]→r= .tu [.b (evB p q a v),nI 0]
 va:g=n_valuation→∀p q v,v<2^(nmB p q).length→ar=[.ag (mdC true p q v)]→r= .tu [nsF p q,nI v,.b true]
 vh:g=n_vholds→∀p q v a,v<2^(nmB p q).length→ar=[vals,.ag (mdC true p q v),.ag (pc a)]→r= .tu [.b (evB p q a v),nI 0]
 vc:g=n_vcount→∀L,ar=[vals,.i .u8 0,fsA L,nI 1]→r= .tu [nI (2^(nmv L).length),nI 0]
 mo:g=n_tModel→∀p q v,ar=[nsB p q,nI v]→r= .tu [.ag (mdC false p q v),nI 0]
theorem uW_inj{x y:BitVec 64}(h:uW x=uW y):x=y:=by
 unfold uW at h
 injection h with _ h
 exact BitVec.eq_of_toNat_eq (Int.ofNat.inj h)
theorem pc_inj{a c:PF}(h:AV.ag (pc a)= .ag (pc c)):a=c:=PF.A_inj (by rw[pA,pA];exact h)
theorem fsA_inj{L M:List PF}(h:fsA L=fsA M):L=M:=by
 have h:=slA_inj h
 refine(List.map_inj_right fun a c h=>?_).1 h
 rw[PF.fc_eq,PF.fc_eq] at h
 exact pc_inj h
omit [Tok] [TokOk] [Pat] in
theorem nmB_inj:∀p q p' q',nmB p q=nmB p' q'→p=p'∧q=q':=by decide
theorem nsB_inj{p q p' q':Bool}(h:nsB p q=nsB p' q'):p=p'∧q=q':=
 nmB_inj _ _ _ _ ((List.map_inj_right fun a c h=>s_inj h).1 (slA_inj h))
theorem nI_inj{a c:Nat}(h:nI a=nI c):a=c:=by injection h with _ h;exact Int.ofNat.inj h
theorem mdC_inj{p q p' q':Bool}{v v':Nat}(hv:v<2^(nmB p q).length)(hv':v'<2^(nmB p' q').length)(h:AV.ag (mdC true p q v)= .ag (mdC true p' q' v')):p=p'∧q=q'∧v=v':=by
 injection h with h
 injection h with _ h
 injection h with _ h
 injection h with _ h
 injection h with _ h
 injection h with h _
 have h:fcts p q v=fcts p' q' v':=slA_inj h
 cases p<;>cases q<;>cases p'<;>cases q'<;>first|(exfalso;simp[fcts,nP,nQ] at h;done)|(refine⟨rfl,rfl,?_⟩;simp[fcts,nmB] at h hv hv';omega)
theorem one3{a b c d e f:AV}(h:[a,b,c]=[d,e,f]):a=d∧b=e∧c=f:=by
 injection h with h1 h;exact⟨h1,one2 h⟩
section
variable {tv:Nat}
theorem I_t{g:Nat}{ar:List AV}(hg:inN trueH g=true):IH tv g ar (.b true):=by
 have hg:=inN_mem hg
 simp only[trueH,List.mem_cons,List.not_mem_nil,or_false] at hg
 rcases hg with rfl|rfl|rfl|rfl|rfl|rfl|rfl|rfl|rfl|rfl<;>constructor<;>(intro h;first|exact absurd h (by decide)|rfl)
theorem I_f{g:Nat}{ar:List AV}(hg:inN falseH g=true):IH tv g ar (.b false):=by
 have hg:=inN_mem hg
 simp only[falseH,List.mem_cons,List.not_mem_nil,or_false] at hg
 rcases hg with rfl|rfl<;>constructor<;>(intro h;first|exact absurd h (by decide)|rfl)
theorem I_kk{ar:List AV}:IH tv n_kindOf ar (.tu [.it tv vals,.b true]):=by
 constructor<;>(intro h;first|exact absurd h (by decide)|rfl)
theorem I_ks{ar:List AV}:IH tv n_Sizes ar (nI 1):=by
 constructor<;>(intro h;first|exact absurd h (by decide)|rfl)
theorem I_rf{ar:List AV}:IH tv n_Refute ar (.tu [nI 0,.b false,nI 0]):=by
 constructor<;>(intro h;first|exact absurd h (by decide)|rfl)
theorem I_ls(a c:List Nat):IH tv n_LessS [.s a,.s c] (.b (lssL a c)):=by
 constructor<;>(intro h;first|exact absurd h (by decide)|skip)
 intro a' c' h;rw[s_inj (one2 h).1,s_inj (one2 h).2]
theorem I_op{o:Nat}(h2:2≤o)(h6:o≤6)(x y:BitVec 64):IH tv (opF o) [uW x,uW y] (uW (opW o x y)):=by
 have:o=2∨o=3∨o=4∨o=5∨o=6:=by omega
 rcases this with rfl|rfl|rfl|rfl|rfl<;>constructor<;>(intro h;first|exact absurd h (by decide)|skip)
 all_goals
  intro o' h2' h6' hg x' y' h
  have e:=one2 h
  have:o'=2∨o'=3∨o'=4∨o'=5∨o'=6:=by omega
  rcases this with rfl|rfl|rfl|rfl|rfl<;>first|exact absurd hg (by decide)|rw[uW_inj e.1,uW_inj e.2]
theorem I_at(L:List PF):IH tv n_Atoms [fsA L] (slA false none ((nmv L).map AV.s)):=by
 constructor<;>(intro h;first|exact absurd h (by decide)|skip)
 intro M h;rw[fsA_inj (one1 h)]
theorem I_ev(a:PF)(p q:Bool)(v:Nat):IH tv n_tEval [.ag (pc a),nsB p q,nI v] (.tu [.b (evB p q a v),nI 0]):=by
 constructor<;>(intro h;first|exact absurd h (by decide)|skip)
 intro a' p' q' v' h
 obtain⟨e1,e2,e3⟩:=one3 h
 obtain⟨rfl,rfl⟩:=nsB_inj e2
 rw[pc_inj e1,nI_inj e3]
theorem I_va{p q:Bool}{v:Nat}(hv:v<2^(nmB p q).length):IH tv n_valuation [.ag (mdC true p q v)] (.tu [nsF p q,nI v,.b true]):=by
 constructor<;>(intro h;first|exact absurd h (by decide)|skip)
 intro p' q' v' hv' h
 obtain⟨rfl,rfl,rfl⟩:=mdC_inj hv hv' (one1 h)
 rfl
theorem I_vh{p q:Bool}{v:Nat}(hv:v<2^(nmB p q).length)(a:PF):IH tv n_vholds [vals,.ag (mdC true p q v),.ag (pc a)] (.tu [.b (evB p q a v),nI 0]):=by
 constructor<;>(intro h;first|exact absurd h (by decide)|skip)
 intro p' q' v' a' hv' h
 obtain⟨_,e2,e3⟩:=one3 h
 obtain⟨rfl,rfl,rfl⟩:=mdC_inj hv hv' e2
 rw[pc_inj e3]
theorem I_vc(L:List PF):IH tv n_vcount [vals,.i .u8 0,fsA L,nI 1] (.tu [nI (2^(nmv L).length),nI 0]):=by
 constructor<;>(intro h;first|exact absurd h (by decide)|skip)
 intro M h
 injection h with _ h
 rw[fsA_inj (one3 h).2.1]
theorem I_mo(p q:Bool)(v:Nat):IH tv n_tModel [nsB p q,nI v] (.tu [.ag (mdC false p q v),nI 0]):=by
 constructor<;>(intro h;first|exact absurd h (by decide)|skip)
 intro p' q' v' h
 obtain⟨rfl,rfl⟩:=nsB_inj (one2 h).1
 rw[nI_inj (one2 h).2]
end
def KH(P:Program)(b:Base)(tv:Nat)(g:Nat)(ar:List AV)(r:AV):Prop:=∃h:∃r,Kn P b g ar r∧IH tv g ar r,r=Classical.choose h
section
variable {P:Program}{b:Base}{tv:Nat}
theorem KH.fn:∀g ar r r',KH P b tv g ar r→KH P b tv g ar r'→r=r':=fun g ar r r' ⟨h,e⟩ ⟨h',e'⟩=>by rw[e,e']
theorem KH.ok:KOk P b (KH P b tv):=fun g ar r ⟨h,e⟩=>by subst e;exact(Classical.choose_spec h).1
theorem KH.det{g:Nat}{ar:List AV}{r:AV}(h:Kn P b g ar r)(hI:IH tv g ar r)(hu:∀r',IH tv g ar r'→r'=r):KH P b tv g ar r:=
 ⟨⟨r,h,hI⟩,(hu _ (Classical.choose_spec (⟨r,h,hI⟩:∃r,Kn P b g ar r∧IH tv g ar r)).2).symm⟩
theorem KH.t{g:Nat}{ar:List AV}(h:Kn P b g ar (.b true))(hg:inN trueH g=true):KH P b tv g ar (.b true):=KH.det h (I_t hg) fun _ h=>h.tru hg
theorem KH.f{g:Nat}{ar:List AV}(h:Kn P b g ar (.b false))(hg:inN falseH g=true):KH P b tv g ar (.b false):=KH.det h (I_f hg) fun _ h=>h.fls hg
end
omit [Tok] [TokOk] [Pat] in
theorem insE_mem{k x:List Nat}{ks:List (List Nat)}:x∈insE k ks↔x∈ks∨x=k:=by
 unfold insE
 by_cases h:k∈ks
 ·rw[if_pos h]
  exact⟨.inl,fun h'=>h'.elim id fun e=>e▸h⟩
 ·rw[if_neg h];simp
omit [Tok] [TokOk] [Pat] in
theorem atP_mem{x:List Nat}:∀(a:PF) (ks:List (List Nat)),x∈atP a ks↔x∈ks∨x∈atP a []
 | .atm q,ks=>by
  show x∈insE _ ks↔_∨x∈insE _ []
  rw[insE_mem,insE_mem];simp
 | .ff,ks=>by show x∈ks↔_∨x∈[];simp
 | .neg a,ks=>atP_mem a ks
 | .bin _ a c,ks=>by
  show x∈atP c (atP a ks)↔_∨x∈atP c (atP a [])
  rw[atP_mem c (atP a ks),atP_mem c (atP a []),atP_mem a ks,or_assoc]
omit [Tok] [TokOk] [Pat] in
theorem atL_mem{x:List Nat}:∀(L:List PF) (ks:List (List Nat)),x∈atL L ks↔x∈ks∨∃a∈L,x∈atP a []
 |[],ks=>by show x∈ks↔_;simp
 |a::L,ks=>by
  show x∈atL L (atP a ks)↔_
  rw[atL_mem L,atP_mem a ks,or_assoc];simp
omit [Tok] [TokOk] [Pat] in
theorem nmB_mem{p q:Bool}{x:List Nat}:x∈nmB p q↔(x=nP∧p=true)∨(x=nQ∧q=true):=by
 cases p<;>cases q<;>simp[nmB]
omit [Tok] [TokOk] [Pat] in
theorem inN2_of{p q:Bool}:∀(a:PF),(∀x∈atP a [],x∈nmB p q)→inN2 p q a=true
 | .atm y,h=>by
  have:=nmB_mem.1 (h (PF.atm y).nm (by show _∈insE _ [];rw[insE_mem];exact .inr rfl))
  cases y
  ·rcases this with⟨_,h⟩|⟨h,_⟩
   ·exact h
   ·exact absurd h (by decide)
  ·rcases this with⟨h,_⟩|⟨_,h⟩
   ·exact absurd h (by decide)
   ·exact h
 | .ff,_=>rfl
 | .neg a,h=>inN2_of a h
 | .bin _ a c,h=>by
  show(inN2 p q a&&inN2 p q c)=true
  rw[inN2_of a fun x hx=>h x (by show x∈atP c (atP a []);rw[atP_mem];exact .inl hx),inN2_of c fun x hx=>h x (by show x∈atP c (atP a []);rw[atP_mem];exact .inr hx)];rfl
omit [Tok] [TokOk] [Pat] in
theorem nmv_mem{L:List PF}{x:List Nat}:x∈nmv L↔∃a∈L,x∈atP a []:=by
 unfold nmv
 have h:=(atL_ok L (ks:=[]) List.nodup_nil (by simp)).2
 rw[nmB_mem,decide_eq_true_iff,decide_eq_true_iff]
 have h1:=atL_mem (x:=x) L []
 simp only[List.not_mem_nil,false_or] at h1
 rw[←h1]
 refine⟨fun hx=>by rcases hx with⟨rfl,h⟩|⟨rfl,h⟩<;>exact h,fun hx=>?_⟩
 rcases h x hx with rfl|rfl
 ·exact .inl ⟨rfl,hx⟩
 ·exact .inr ⟨rfl,hx⟩
omit [Tok] [TokOk] [Pat] in
theorem nmv_sub{L:List PF}{a:PF}(ha:a∈L):∀x∈nmv [a],x∈nmv L:=fun x hx=>by
 obtain⟨c,hc,h⟩:=nmv_mem.1 hx
 rw[List.mem_singleton.1 hc] at h
 exact nmv_mem.2 ⟨a,ha,h⟩
structure FH(b:Base)(tv:Nat):Prop where
 addAtoms:HB b n_addAtoms c389
 KeysS:HB b n_KeysS c147
 SortedS:HB b n_SortedS c146
 CollectS:HB b n_CollectS c191
 AppendSeqS:HB b n_AppendSeqS c239
 KeysS1:HB b n_KeysS1 c193
 SortS:HB b n_SortS c192
 Len:HB b n_Len c241
 Len64:HB b n_Len64 c283
 pdqS:HB b n_pdqS c240
 insS:HB b n_insS c273
 tblock:HB b n_tblock c391
 tnamed:HB b n_tnamed c390
 newTable:HB b n_newTable c395
 hforms:HB b n_hforms c44
 ConcatF:HB b n_ConcatF c62
 GrowF:HB b n_GrowF c85
 ContainsFuncF:HB b n_ContainsFuncF c45
 IndexFuncF:HB b n_IndexFuncF c63
 vmodels:HB b n_vmodels c378
 vmodels1:HB b n_vmodels1 c386
 numbered:HB b n_numbered c385
 numbered1:HB b n_numbered1 c392
 hwithin_:PB b n_hwithin c83
 tprop_:PB b n_tprop c394
 tRight_:PB b n_tRight c388
 vright_:PB b n_vright c380
 vlong_:PB b n_vlong c377
 hRight_:PB b n_hRight c60
 claimed_:PB b n_claimed c43
 Atoms_:PB b n_Atoms c382
 newT1_:PB b n_newTable1 c396
 newT2_:PB b n_newTable2 c397
 newT3_:PB b n_newTable3 c398
 newT4_:PB b n_newTable4 c399
 newT5_:PB b n_newTable5 c400
 tEval_:PB b n_tEval c384
 vholds_:PB b n_vholds c375
 refutes_:PB b n_refutes c46
 vcount_:PB b n_vcount c374
 Refute_:PB b n_Refute c23
 Follows_:PB b n_Follows c9
 fl:∀g∈[n_Right,n_LessS,n_isNames,n_ContainsS,n_valuation,n_tModel,n_kindOf,n_Sizes,n_logical],b.ext g=0∧b.pure g=true
 pat:b.glob n_pat=some patA
 mr:b.meth tv hnR =some n_vright
 ml:b.meth tv hnL =some n_vlong
 mc:b.meth tv hnC =some n_vcount
 mm:b.meth tv hnM =some n_vmodels
 mh:b.meth tv hnH =some n_vholds
theorem FH.fl_{b:Base}{tv:Nat}(h:FH b tv){g:Nat}(hg:inN [n_Right,n_LessS,n_isNames,n_ContainsS,n_valuation,n_tModel,n_kindOf,n_Sizes,n_logical] g=true):b.ext g=0∧b.pure g=true:=h.fl g (inN_mem hg)
structure GH(P:Program)(b:Base)(tv:Nat)(la:AV):Prop where
 less:∀a,(a=nP∨a=nQ)→∀c,(c=nP∨c=nQ)→Kn P b n_LessS [.s a,.s c] (.b (lssL a c))
 isn:∀p q,Kn P b n_isNames [nsB p q] (.b true)
 con:∀p q,∀x∈nmB p q,Kn P b n_ContainsS [nsB p q,.s x] (.b true)
 val:∀p q v,v<2^(nmB p q).length→Kn P b n_valuation [.ag (mdC true p q v)] (.tu [nsF p q,nI v,.b true])
 mod:∀p q v,v<2^(nmB p q).length→Kn P b n_tModel [nsB p q,nI v] (.tu [.ag (mdC false p q v),nI 0])
 kk:Kn P b n_kindOf [.i .u8 1] (.tu [.it tv vals,.b true])
 ks:Kn P b n_Sizes [.i .u8 1] (nI 1)
 lg:Kn P b n_logical [la] (.b true)
 right:∀a:PF,a.low→Kn P b n_Right [a.fm.A true] (.b true)
section
variable {P:Program}{b:Base}{tv:Nat}(hb:BaseOk P b)(fh:FH b tv)
include hb fh
theorem E_within:∀(n:Nat) (a:PF),a.dep≤n→a.dep≤190→Kn P b n_hwithin [.i .u32 254,.ag (pc a)] (.b true)
 |0,a,hd,_=>by cases a<;>simp[PF.dep] at hd
 |n+1,a,hd,hd2=>fun B0=>
  entryK hb (KH.ok (tv:=tv)) _ fh.hwithin_.1 rfl rfl rfl rfl (eb _).1 (eb _).2 (hwithin_go KH.fn a (fun x hx=>by rw[PF.fm_dep];have:=PF.sub_dep hx;omega) fh.hwithin_.2 (fun x hx=>by rw[pA];exact KH.t (E_within n x (by have:=PF.sub_dep hx;omega) (by have:=PF.sub_dep hx;omega)) rfl) _ rfl) B0
theorem E_tprop:∀(n:Nat) (a:PF),a.dep≤n→a.dep≤190→Kn P b n_tprop [.ag (pc a)] (.b true)
 |0,a,hd,_=>by cases a<;>simp[PF.dep] at hd
 |n+1,a,hd,hd2=>fun B0=>
  entryK hb (KH.ok (tv:=tv)) _ fh.tprop_.1 rfl rfl rfl rfl (eb _).1 (eb _).2 (tprop_go KH.fn a (fun x hx=>by rw[PF.fm_dep];have:=PF.sub_dep hx;omega) fh.tprop_.2 (fun x hx=>by rw[pA];exact KH.t (E_tprop n x (by have:=PF.sub_dep hx;omega) (by have:=PF.sub_dep hx;omega)) rfl) _ rfl) B0
theorem E_vlong(a:PF):Kn P b n_vlong [vals,.ag (pc a)] (.b false):=fun B0=>
 entryK hb (KH.ok (tv:=tv)) _ fh.vlong_.1 rfl rfl rfl rfl (eb _).1 (eb _).2 (vlong_go a _ rfl) B0
theorem E_opF{o:Nat}(h2:2≤o)(h6:o≤6)(x y:BitVec 64):Kn P b (opF o) [uW x,uW y] (uW (opW o x y)):=fun B0=>by
 have:o=2∨o=3∨o=4∨o=5∨o=6:=by omega
 rcases this with rfl|rfl|rfl|rfl|rfl
 ·exact entryK hb (KH.ok (tv:=tv)) _ fh.newT1_.1 rfl rfl rfl rfl (ei _ _).1 (ei _ _).2 (newT1_go x y _ rfl) B0
 ·exact entryK hb (KH.ok (tv:=tv)) _ fh.newT2_.1 rfl rfl rfl rfl (ei _ _).1 (ei _ _).2 (newT2_go x y _ rfl) B0
 ·exact entryK hb (KH.ok (tv:=tv)) _ fh.newT3_.1 rfl rfl rfl rfl (ei _ _).1 (ei _ _).2 (newT3_go x y _ rfl) B0
 ·exact entryK hb (KH.ok (tv:=tv)) _ fh.newT4_.1 rfl rfl rfl rfl (ei _ _).1 (ei _ _).2 (newT4_go x y _ rfl) B0
 ·exact entryK hb (KH.ok (tv:=tv)) _ fh.newT5_.1 rfl rfl rfl rfl (ei _ _).1 (ei _ _).2 (newT5_go x y _ rfl) B0
theorem hcH:HCc (b.envK (KH P b tv)):=⟨fh.GrowF.h,fh.ConcatF.h,fh.hforms.h⟩
end
section
variable {P:Program}{b:Base}{tv:Nat}{nm:List Nat}{rl:AV}(hb:BaseOk P b)(fh:FH b tv)(gh:GH P b tv (.ag (lgC nm rl)))(hrl:rl.val=true∧rl.cells=[rl]∧conf none rl=true)(hla:∀σ,snapshot σ (b.fz+1000) (.ag (lgC nm rl))=some (.ag (lgC nm rl)))
include hb fh gh
theorem E_tRight{a:PF}(ha:a.low):Kn P b n_tRight [.ag (pc a)] (.b true):=fun B0=>by
 have hd:=ha.1
 have hr:=gh.right a ha
 rw[pA] at hr
 exact entryK hb (KH.ok (tv:=tv)) _ fh.tRight_.1 rfl rfl rfl rfl (eb _).1 (eb _).2 (tRight_go KH.fn a (by rw[PF.fm_dep];omega) fh.tprop_.2 (fh.fl_ rfl) (KH.t hr rfl) (KH.t (E_tprop hb fh _ a (Nat.le_refl _) (by omega)) rfl) _ rfl) B0
theorem E_vright{a:PF}(ha:a.low):Kn P b n_vright [vals,.ag (pc a)] (.b true):=fun B0=>by
 have hd:=ha.1
 exact entryK hb (KH.ok (tv:=tv)) _ fh.vright_.1 rfl rfl rfl rfl (eb _).1 (eb _).2 (vright_go KH.fn a (by rw[PF.fm_dep];omega) fh.tRight_.2 (KH.t (E_tRight hb fh gh ha) rfl) _ rfl) B0
include hla hrl
theorem E_hRight{a:PF}(ha:a.low):Kn P b n_hRight [.ag (lgC nm rl),.ag (pc a)] (.b true):=fun B0=>by
 have hd:=ha.1
 exact entryK hb (KH.ok (tv:=tv)) _ fh.hRight_.1 rfl rfl rfl rfl (eb _).1 (eb _).2 (hRight_go KH.fn hrl hla a (by rw[PF.fm_dep];omega) (fh.fl_ rfl) (KH.det gh.kk I_kk fun _ h=>h.kk rfl) (fh.fl_ rfl) (KH.t gh.lg rfl) fh.mr fh.vright_.2 (KH.t (E_vright hb fh gh ha) rfl) fh.hwithin_.2 (KH.t (E_within hb fh _ a (Nat.le_refl _) (by omega)) rfl) _ rfl) B0
theorem E_claimed{X:List PF}{y:PF}(hl:X.length≤500)(hX:∀a∈X++[y],a.low):Kn P b n_claimed [.ag (lgC nm rl),sqA X y] (.b true):=fun B0=>
 entryK hb (KH.ok (tv:=tv)) _ fh.claimed_.1 rfl rfl rfl rfl (eb _).1 (eb _).2 (claimed_go KH.fn (hcH hb fh) hrl hla hl (fun a ha=>by have:=(hX a ha).1;rw[PF.fm_dep];omega) fh.hRight_.2 (fun a ha=>KH.t (E_hRight hb fh gh hrl hla (hX a ha)) rfl) (fh.fl_ rfl) (KH.t gh.lg rfl) _ rfl) B0
end
theorem nsF_fr(p q:Bool):freshA 1000 (nsF p q)=true∧AV.eqb 1000 (nsF p q) (nsF p q)=true:=by cases p<;>cases q<;>exact⟨rfl,rfl⟩
theorem eqbT{l:List AV}(h:allB AV.lf l=true):AV.eqb 1000 (.tu l) (.tu l)=true:=(all2_refl fun y hy=>eqb1 (allB_all h y hy):all2 (AV.eqb 999) l l=true)
theorem fsA_sn{b:Base}{L:List PF}(h:∀a∈L,a.low)(σ:St):snapshot σ (b.fz+1000) (fsA L)=some (fsA L):=snap_slM (n:=b.fz+999) fun a ha=>by
 have:=(h a ha).1
 rw[PF.fc_eq];exact psn9 a (by rw[PF.fm_dep];omega) σ
theorem sqA_sn{b:Base}{X:List PF}{y:PF}(h:∀a∈X++[y],a.low)(σ:St):snapshot σ (b.fz+1000) (sqA X y)=some (sqA X y):=by
 have h9:∀L:List PF,(∀a∈L,a.low)→snapshot σ (b.fz+999) (fsA L)=some (fsA L):=fun L hL=>snap_slM (n:=b.fz+998) fun a ha=>by
  have:=(hL a ha).1
  have h1:=Fm.snap σ true _ a.fm (b.fz+998) (Nat.le_refl _) (by rw[PF.fm_dep];omega)
  rwa[fA] at h1
 show(match mapO (snapshot σ (b.fz+999)) [fsA X,fsA [y]] with|none=>none|some l=>some (AV.ag l))=_
 rw[mapO_cons,mapO_cons,mapO_nil,h9 X fun a ha=>h a (List.mem_append_left _ ha),h9 [y] fun a ha=>h a (List.mem_append_right _ ha)]
section
variable {P:Program}{b:Base}{tv:Nat}{nm:List Nat}{rl:AV}(hb:BaseOk P b)(fh:FH b tv)(gh:GH P b tv (.ag (lgC nm rl)))(hrl:rl.val=true∧rl.cells=[rl]∧conf none rl=true)(hla:∀σ,snapshot σ (b.fz+1000) (.ag (lgC nm rl))=some (.ag (lgC nm rl)))
include hb fh gh
theorem hAt_:HAt b (KH P b tv):=⟨fh.addAtoms.h,fh.KeysS.h,fh.SortedS.h,fh.CollectS.h,fh.AppendSeqS.h,fh.KeysS1.h,fh.SortS.h,fh.Len.h,fh.Len64.h,fh.pdqS.h,fh.insS.h,fun a ha c hc=>KH.det (gh.less a ha c hc) (I_ls a c) fun _ h=>h.ls rfl a c rfl,fh.fl_ rfl⟩
theorem E_atoms{L:List PF}(hL:L.length<2^62):Kn P b n_Atoms [fsA L] (slA false none ((nmv L).map AV.s)):=fun B0=>
 entryK hb (KH.ok (tv:=tv)) _ fh.Atoms_.1 rfl rfl rfl rfl (nsF_fr _ _).1 (nsF_fr _ _).2 (Atoms_go KH.fn (hAt_ hb fh gh) L hL _ rfl) B0
theorem hEv_:HEv b (KH P b tv):=by
 have h1:∀o,2≤o→o≤6→b.ext (opF o)=0∧b.pure (opF o)=true:=fun o h2 h6=>by
  have:o=2∨o=3∨o=4∨o=5∨o=6:=by omega
  rcases this with rfl|rfl|rfl|rfl|rfl
  ·exact fh.newT1_.2
  ·exact fh.newT2_.2
  ·exact fh.newT3_.2
  ·exact fh.newT4_.2
  ·exact fh.newT5_.2
 have h3:∀o,2≤o→o≤6→inN opL (opF o)=true:=fun o h2 h6=>by
  have:o=2∨o=3∨o=4∨o=5∨o=6:=by omega
  rcases this with rfl|rfl|rfl|rfl|rfl<;>rfl
 exact⟨⟨fh.tblock.h,fh.pat,KH.fn,h1,fun o x y h2 h6=>KH.det (E_opF hb fh h2 h6 x y) (I_op h2 h6 x y) fun _ h=>h.op (h3 o h2 h6) o h2 h6 rfl x y rfl⟩,fh.tnamed.h,fh.newTable.h,fh.tRight_.2,fh.fl_ rfl,fh.Atoms_.2,fh.fl_ rfl,fun p q=>KH.t (gh.isn p q) rfl,fun p q x hx=>KH.t (gh.con p q x hx) rfl⟩
theorem K_atoms{L:List PF}(hL:L.length<2^62):KH P b tv n_Atoms [fsA L] (slA false none ((nmv L).map AV.s)):=KH.det (E_atoms hb fh gh hL) (I_at L) fun _ h=>h.at_ rfl L rfl
theorem E_eval{p q:Bool}{v:Nat}(hv:v<2^(nmB p q).length){a:PF}(ha:a.low)(hin:∀x∈nmv [a],x∈nmB p q):Kn P b n_tEval [.ag (pc a),nsB p q,nI v] (.tu [.b (evB p q a v),nI 0]):=fun B0=>by
 have hd:=ha.1
 exact entryR hb (KH.ok (tv:=tv)) (fr:=1000) _ fh.tEval_.1 rfl rfl rfl rfl (eqbT rfl) (tEval_go (hEv_ hb fh gh) (by rw[PF.fm_dep];omega) (KH.t (E_tRight hb fh gh ha) rfl) (K_atoms hb fh gh (by show 1<_;decide)) hin (inN2_of a fun x hx=>hin x (nmv_mem.2 ⟨a,List.mem_singleton.2 rfl,hx⟩)) hv _ rfl) B0
theorem E_vholds{p q:Bool}{v:Nat}(hv:v<2^(nmB p q).length){a:PF}(ha:a.low)(hin:∀x∈nmv [a],x∈nmB p q):Kn P b n_vholds [vals,.ag (mdC true p q v),.ag (pc a)] (.tu [.b (evB p q a v),nI 0]):=fun B0=>by
 have hd:=ha.1
 exact entryR hb (KH.ok (tv:=tv)) (fr:=1000) _ fh.vholds_.1 rfl rfl rfl rfl (eqbT rfl) (vholds_go KH.fn (by rw[PF.fm_dep];omega) (fh.fl_ rfl) fh.tEval_.2 (KH.det (gh.val p q v hv) (I_va hv) fun _ h=>h.va rfl p q v hv rfl) (KH.det (E_eval hb fh gh hv ha hin) (I_ev a p q v) fun _ h=>h.ev rfl a p q v rfl) _ rfl) B0
theorem E_refutes{p q:Bool}{v:Nat}(hv:v<2^(nmB p q).length){X:List PF}{y:PF}(hl:X.length≤500)(hX:∀a∈X++[y],a.low∧∀x∈nmv [a],x∈nmB p q)(hno:(∀a∈X,evB p q a v=true)→evB p q y v=true):Kn P b n_refutes [.it tv vals,.ag (mdC true p q v),sqA X y] (.b false):=fun B0=>
 entryK hb (KH.ok (tv:=tv)) _ fh.refutes_.1 rfl rfl rfl rfl (eb _).1 (eb _).2 (refutes_go KH.fn (hcH hb fh) fh.mh fh.vholds_.2 hl (fun a ha=>by have:=(hX a ha).1.1;rw[PF.fm_dep];omega) (fun a ha=>KH.det (E_vholds hb fh gh hv (hX a ha).1 (hX a ha).2) (I_vh hv a) fun _ h=>h.vh rfl p q v a hv rfl) hno _ rfl) B0
theorem E_vcount{L:List PF}(hL:L.length<2^62)(hlow:∀a∈L,a.low):Kn P b n_vcount [vals,.i .u8 0,fsA L,nI 1] (.tu [nI (2^(nmv L).length),nI 0]):=fun B0=>by
 exact entryR hb (KH.ok (tv:=tv)) (fr:=1000) _ fh.vcount_.1 rfl rfl rfl rfl (eqbT rfl) (vcount_go KH.fn fh.Atoms_.2 (K_atoms hb fh gh hL) (fsA_sn hlow) _ rfl) B0
include hrl hla
theorem E_follows{X:List PF}{y:PF}(hl:X.length≤500)(hX:∀a∈X++[y],a.low)(hno:∀p q v,v<2^(nmB p q).length→(∀a∈X++[y],inN2 p q a=true)→(∀a∈X,evB p q a v=true)→evB p q y v=true):Kn P b n_Follows [.ag (lgC nm rl),sqA X y,nI 1] (.tu [.b true,nI 0]):=by
 have hlen:(X++[y]).length<2^62:=by simp;omega
 have hin:∀a∈X++[y],∀x∈nmv [a],x∈nmv (X++[y]):=fun a ha=>nmv_sub ha
 obtain⟨p,q,e⟩:∃p q,nmv (X++[y])=nmB p q:=⟨_,_,rfl⟩
 rw[e] at hin
 have hin2:∀a∈X++[y],inN2 p q a=true:=fun a ha=>inN2_of a fun x hx=>hin a ha x (nmv_mem.2 ⟨a,List.mem_singleton.2 rfl,hx⟩)
 have hK:KSq (KH P b tv) tv (.ag (lgC nm rl)) p q X y:=⟨KH.t (E_claimed hb fh gh hrl hla hl hX) rfl,by
   have:=K_atoms hb fh gh hlen
   rwa[e] at this,by
   have:=KH.det (tv:=tv) (E_vcount hb fh gh hlen hX) (I_vc _) fun _ h=>h.vc rfl _ rfl
   rwa[e] at this,fun a ha=>KH.f (E_vlong hb fh a) rfl,fun v hv=>KH.det (gh.mod p q v hv) (I_mo p q v) fun _ h=>h.mo rfl p q v rfl,fun v hv=>KH.f (E_refutes hb fh gh hv hl (fun a ha=>⟨hX a ha,hin a ha⟩) (hno p q v hv hin2)) rfl⟩
 have hr:HRf b (KH P b tv) tv:=⟨KH.fn,hcH hb fh,fh.ContainsFuncF.h,fh.IndexFuncF.h,fh.ml,fh.vlong_.2,fh.mc,fh.vcount_.2,fh.mm,fh.vmodels.h,fh.vmodels1.h,fh.numbered.h,fh.numbered1.h,fh.fl_ rfl,KH.det gh.kk I_kk fun _ h=>h.kk rfl,fh.fl_ rfl,KH.det gh.ks I_ks fun _ h=>h.ks rfl,fh.claimed_.2,fh.refutes_.2,fh.fl_ rfl,fh.Atoms_.2⟩
 have hR:Kn P b n_Refute [.ag (lgC nm rl),sqA X y,nI 1] (.tu [nI 0,.b false,nI 0]):=fun B0=>by
  exact entryXR hb (KH.ok (tv:=tv)) (fr:=1000) _ fh.Refute_.1 rfl rfl rfl rfl (eqbT rfl) (Refute_go hr hrl hla hl (fun a ha=>by have:=(hX a ha).1;rw[PF.fm_dep];omega) hK (sqA_sn hX) _ rfl) B0
 intro B0
 exact entryR hb (KH.ok (tv:=tv)) (fr:=1000) _ fh.Follows_.1 rfl rfl rfl rfl (eqbT rfl) (Follows_go KH.fn hrl hla (sqA_sn hX) (fh.fl_ rfl) (KH.det gh.ks I_ks fun _ h=>h.ks rfl) fh.Refute_.2 (KH.det hR I_rf fun _ h=>h.rf rfl) _ rfl) B0
end
end
section
variable [Tok][TokOk][Pat]
open Go.RowKit Go.Lyc.T
theorem nds_at'{T:List Ln}{k:Nat}{x:Ln}(h1:1≤k)(hx:T[k-1]? =some x)(hc:Cok k x.cs):(ndsL T T.length).getD (k-1) []=cond x.hyp [k] ((List.range k).filter (needS T (boxL T) (ndsL T T.length) k x.cs)):=by
 have hk:=(List.getElem?_eq_some_iff.1 hx).1
 have hp:∀ {i m:Nat},i<m→m≤T.length→(ndsL T T.length)[i]? =(ndsL T m)[i]? :=fun {i m} h1 h2=>by
  have:=nds_pre (T:=T) h1 (n:=T.length-m)
  rwa[show m+(T.length-m)=T.length by omega] at this
 obtain⟨j,rfl⟩:∃j,k=j+1:=⟨k-1,by omega⟩
 rw[List.getD_eq_getElem?_getD,hp (m:=j+1) (by omega) (by omega),ndsL,List.getElem?_append_right (by rw[ndsL_len];omega),ndsL_len,show j+1-1-j=0 by omega]
 show needL T (boxL T) (ndsL T j) (j+1)=_
 unfold needL
 rw[hx]
 show cond x.hyp [j+1] _=_
 congr 1
 refine List.filter_congr fun n _=>?_
 have e:∀ac∈x.cs,numL T (boxL T) (ndsL T j) (j+1) ac=numL T (boxL T) (ndsL T T.length) (j+1) ac:=fun ac hac=>by
  have:=hc.2 ac hac
  unfold numL besL
  rw[List.getD_eq_getElem?_getD,List.getD_eq_getElem?_getD,hp (i:=ac.2-1) (m:=j) (by omega) (by omega)]
 unfold needS
 rw[Bool.eq_iff_iff,List.any_eq_true,List.any_eq_true]
 constructor
 ·rintro⟨ac,h1,h2⟩;exact⟨ac,h1,by rw[←e ac h1];exact h2⟩
 ·rintro⟨ac,h1,h2⟩;exact⟨ac,h1,by rw[e ac h1];exact h2⟩
def Nd(L:List PL)(k:Nat):List Nat:=(ndsL (L.map PL.ln) (L.map PL.ln).length).getD (k-1) []
abbrev Bx(L:List PL)(k:Nat):List Nat:=stF (L.map PL.ln) k
inductive Src(L:List PL)(k:Nat)(x:PL):Prop
 |hyp:x.hyp=true→Nd L k=[k]→Src L k x
 |cite {C:Nat→Prop} {rl cs:List Nat}:x.hyp=false→Cit L C x.f rl cs→(∀c∈cs,1≤c∧c<k∧Bx L c=(Bx L k).take (Bx L c).length)→(∀m,m∈Nd L k↔m<k∧∃c∈cs,m∈Nd L c)→Src L k x
 |shut {first:Nat} {y z:PL}:x.hyp=false→2≤k→1≤first→first<k→L[first-1]? =some y→L[k-1-1]? =some z→(x.f= .bin 2 y.f z.f∨z.f= .ff∧x.f= .neg y.f)→Bx L (k-1)=Bx L k++[first]→(∀m,m∈Nd L k↔m<k∧m∈Nd L (k-1)∧m≠first)→Src L k x
theorem Cit.up{L1 L:List PL}{C:Nat→Prop}{g:PF}{rl l:List Nat}(hs:∀(i:Nat) (y:PL),L1[i]? =some y→L[i]? =some y)(h:Cit L1 C g rl l):Cit L C g rl l:=by
 have hF:∀ {a f},FAt L1 a f→FAt L a f:=fun⟨y,h1,h2⟩=>⟨y,hs _ _ h1,h2⟩
 cases h with
 |and a1 a2 f1 f2 h=>exact .and a1 a2 (hF f1) (hF f2) h
 |or n a f h=>exact .or n a (hF f) h
 |andE q a f=>exact .andE q a (hF f)
 |imp a1 a2 f1 f2=>exact .imp a1 a2 (hF f1) (hF f2)
 |not a1 a2 f1 f2=>exact .not a1 a2 (hF f1) (hF f2)
 |again a f=>exact .again a (hF f)
 |fal n a f=>exact .fal n a (hF f)
theorem Rd.src{L:List PL}{fr:List (List Nat)}{fi:List Nat}(h:Rd L fr fi)(hL:L.length≤36){k:Nat}{x:PL}(h1:1≤k)(hx:L[k-1]? =some x):Src L k x:=by
 obtain⟨fr1,fi1,fr2,fi2,g1,g2,g3,hl,hLL⟩:=h.line h1 hx
 have hkl:k≤L.length:=by have:=(List.getElem?_eq_some_iff.1 hx).1;omega
 have hsub:∀(i:Nat) (y:PL),(L.take (k-1))[i]? =some y→L[i]? =some y:=fun i y hy=>by
  have:=(List.getElem?_eq_some_iff.1 hy).1
  rw[List.length_take] at this
  rwa[List.getElem?_take_of_lt (by omega)] at hy
 have hxT:(L.map PL.ln)[k-1]? =some x.ln:=by rw[List.getElem?_map,hx];rfl
 have hnd:=nds_at' h1 hxT (h.cok h1 hxT)
 have hTl:(L.map PL.ln).length=L.length:=List.length_map _
 have key:∀(q:Bool) (cs':List (Nat×Nat)),x.hyp=q→x.cs=cs'→Nd L k=cond q [k] ((List.range k).filter (needS (L.map PL.ln) (boxL (L.map PL.ln)) (ndsL (L.map PL.ln) (L.map PL.ln).length) k cs')):=fun q cs' e1 e2=>by subst e1;subst e2;exact hnd
 generalize L.take (k-1)=L1 at g1 g2 g3 hl hLL hsub
 have hk:L1.length+1=k:=by omega
 have hT:L.map PL.ln=L1.map PL.ln++([x.ln]++(L.drop k).map PL.ln):=by
  conv=>lhs;rw[hLL]
  simp only[List.map_append,List.map_cons,List.map_nil,List.append_assoc]
 have hI:=g1.inv
 have hB:=g1.b
 have hst:stF (L.map PL.ln) k=fi2.tail:=by
  have h3:=g3.b.st
  rw[List.length_append,show L1.length+[x].length=k from hk] at h3
  rw[←h3,hT,← List.append_assoc,show L1.map PL.ln++[x.ln]=(L1++[x]).map PL.ln by simp]
  exact stF_app (by rw[List.length_map,List.length_append];exact Nat.le_of_eq hk.symm)
 cases g2 with
 |prem f n hp=>exact .hyp rfl hnd
 |opn _ _ n hne h5=>exact .hyp rfl hnd
 |cite F f _ hne hc=>
  rename_i g rl cs
  have hvis:∀c∈cs,1≤c∧c<k∧visB (boxL (L.map PL.ln)) k c c=true:=fun c hc'=>by
   have hC:=hc.ne.2.1 c hc'
   obtain⟨f',hf',hcf⟩:=hC
   have:=hI.mem f' hf' c hcf
   exact⟨this.1,by omega,vis_ok hT hk hkl hB hI ⟨f',hf',hcf⟩ hst⟩
  have hbx:∀c∈cs,Bx L c=(Bx L k).take (Bx L c).length:=fun c hc'=>by
   obtain⟨v1,v2,hv⟩:=hvis c hc'
   unfold visB at hv
   rw[box_get h1 (by omega),box_get v1 (by omega)] at hv
   simp only[Bool.and_eq_true,decide_eq_true_eq] at hv
   exact hv.2.2
  refine .cite (rl:=rl) (cs:=cs) rfl (hc.up hsub) (fun c hc'=>⟨(hvis c hc').1,(hvis c hc').2.1,hbx c hc'⟩) fun m=>?_
  have hb0:∀c∈cs,isBoxB (L.map PL.ln) (boxL (L.map PL.ln)) k c c=false:=fun c hc'=>by
   obtain⟨v1,v2,hv⟩:=hvis c hc'
   unfold visB at hv
   simp only[Bool.and_eq_true,decide_eq_true_eq] at hv
   have h1':=hv.2.1
   rw[box_get h1 (by omega),box_get v1 (by omega)] at h1'
   have l1:=(h.shp (by omega)).len (k-1) (by omega)
   have l2:=(h.shp (by omega)).len (c-1) (by omega)
   rw[show k-1+1=k by omega] at l1
   rw[show c-1+1=c by omega] at l2
   have d1:dpL (L.map PL.ln) k=(stF (L.map PL.ln) k).length:=by
    rw[l1,dpL_eq h1 (by omega),List.getElem?_eq_getElem (by omega)];rfl
   have d2:dpL (L.map PL.ln) c=(stF (L.map PL.ln) c).length:=by
    rw[l2,dpL_eq v1 (by omega),List.getElem?_eq_getElem (by omega)];rfl
   unfold isBoxB
   rw[show decide (dpL (L.map PL.ln) c=dpL (L.map PL.ln) k+1)=false from decide_eq_false (by omega)]
   simp
  have hnd:Nd L k=(List.range k).filter (needS (L.map PL.ln) (boxL (L.map PL.ln)) (ndsL (L.map PL.ln) (L.map PL.ln).length) k (cs.map fun n=>(n,n))):=hnd
  rw[hnd,List.mem_filter,List.mem_range]
  refine and_congr_right fun hm=>?_
  unfold needS
  rw[List.any_eq_true]
  constructor
  ·rintro⟨ac,hac,hd⟩
   obtain⟨c,hc',rfl⟩:=List.mem_map.1 hac
   refine⟨c,hc',?_⟩
   have hd:=of_decide_eq_true hd
   unfold numL at hd
   rw[hb0 c hc'] at hd
   exact hd
  ·rintro⟨c,hc',hd⟩
   refine⟨(c,c),List.mem_map.2 ⟨c,hc',rfl⟩,decide_eq_true ?_⟩
   unfold numL
   rw[hb0 c hc']
   exact hd
 |shut F e f _ first hx' hy'=>
  rename_i x' y'
  have hlen:=hI.len
  simp only[List.length_append,List.length_cons,List.length_nil] at hlen
  obtain⟨p1,n,p2⟩:=hI.fst fi2.length first (by omega) (by simp)
  rw[hx'] at p2
  cases p2
  have hfl:=(List.getElem?_eq_some_iff.1 hx').1
  have hne2:fi2≠[]:=fun e=>by rw[e] at hlen;simp at hlen
  have ht:(fi2++[first]).tail=fi2.tail++[first]:=List.tail_append_of_ne_nil hne2
  have htl:fi2.tail.length=F.length:=by rw[List.length_tail];omega
  have hLn:L1≠[]:=fun e=>by rw[e] at hy';simp at hy'
  have hL1:=List.length_pos_iff.2 hLn
  have hyd:=(hI.last hLn).2 _ hy'
  simp only[List.length_append,List.length_cons,List.length_nil] at hyd
  have b1:(boxL (L.map PL.ln)).getD (first-1) []=fi2.tail++[first]:=by
   rw[box_get p1 (by omega),hT,stF_app (by rw[List.length_map];omega),hB.fst fi2.length first (by omega) (by simp),ht,List.take_of_length_le (by simp;omega)]
  have b2:(boxL (L.map PL.ln)).getD (L1.length-1) []=fi2.tail++[first]:=by
   rw[box_get (by omega) (by omega),hT,stF_app (by rw[List.length_map];exact Nat.le_refl _),hB.st,ht]
  have b3:(boxL (L.map PL.ln)).getD (k-1) []=fi2.tail:=by rw[box_get (by omega) (by omega),hst]
  have d1:dpL (L.map PL.ln) k=F.length:=by
   rw[dpL_at hx,shutL_eq]
   cases decide (y'.f= .ff)<;>rfl
  have d2:dpL (L.map PL.ln) L1.length=F.length+1:=by rw[dpL_at (hsub _ _ hy'),hyd];omega
  have s1:startsB (boxL (L.map PL.ln)) first (F.length+1) first=true:=by
   unfold startsB
   rw[b1]
   exact decide_eq_true (by rw[Nat.add_sub_cancel,← htl];simp)
  have s2:startsB (boxL (L.map PL.ln)) L1.length (F.length+1) first=true:=by
   unfold startsB
   rw[b2]
   exact decide_eq_true (by rw[Nat.add_sub_cancel,← htl];simp)
  have s3:startsB (boxL (L.map PL.ln)) (L1.length+1) (F.length+1) first=false:=by
   unfold startsB
   rw[hk,b3]
   exact decide_eq_false (by rw[Nat.add_sub_cancel,List.getElem?_eq_none (by omega)];simp)
  have hbox:isBoxB (L.map PL.ln) (boxL (L.map PL.ln)) k first L1.length=true:=by
   unfold isBoxB
   rw[d1,d2,s1,s2,s3,b1,b3,List.take_append_of_le_length (by omega),List.take_of_length_le (by omega),decide_eq_true rfl,decide_eq_true rfl];rfl
  have hasm:asmL (L.map PL.ln) first (F.length+1)=[first]:=by
   unfold asmL
   obtain⟨m,hm⟩:∃m,(L.map PL.ln).length+1-first=m+1:=⟨L.length-first,by omega⟩
   rw[hm,asmF_succ,List.getElem?_map,hsub _ _ hx']
   refine(if_pos ⟨rfl,by show fi2.length=_;omega,by omega⟩).trans ?_
   congr 1
   cases m with
   |zero=>rfl
   |succ m=>
    rw[asmF_succ,List.getElem?_map]
    cases hz:L[first+1-1]? with
    |none=>rfl
    |some z=>
     refine if_neg ?_
     rintro⟨z1,z2,z3⟩
     have z1:z.hyp=true:=z1
     have z2:z.dp=F.length+1:=z2
     have z3:¬(first<first+1∧0<z.op):=z3
     have:=h.b.hyp z (List.mem_of_getElem? hz) z1 (by omega)
     omega
  have hcs:∀q:Bool,(cond q (⟨F.length,0,false,.neg (poolP n),notN,[(first,L1.length)]⟩:PL) ⟨F.length,0,false,.bin 2 (poolP n) y'.f,impN,[(first,L1.length)]⟩).cs=[(first,L1.length)]:=fun q=>by cases q<;>rfl
  have hhy:∀q:Bool,(cond q (⟨F.length,0,false,.neg (poolP n),notN,[(first,L1.length)]⟩:PL) ⟨F.length,0,false,.bin 2 (poolP n) y'.f,impN,[(first,L1.length)]⟩).hyp=false:=fun q=>by cases q<;>rfl
  refine .shut (first:=first) (y:=⟨fi2.length,1,true,poolP n,[],[]⟩) (z:=y') ?_ (by omega) p1 (by omega) (hsub _ _ hx') ?_ ?_ ?_ fun m=>?_
  ·rw[shutL_eq];exact hhy _
  ·rw[show k-1-1=L1.length-1 by omega];exact hsub _ _ hy'
  ·rw[shutL_eq]
   by_cases hff:y'.f= .ff
   ·rw[decide_eq_true hff];exact .inr ⟨hff,rfl⟩
   ·rw[decide_eq_false hff];exact .inl rfl
  ·have e1:=box_get (T:=L.map PL.ln) (j:=k-1) (by omega) (by omega)
   rw[show k-1-1=L1.length-1 by omega,b2] at e1
   show stF _ (k-1)=stF _ k++[first]
   rw[←e1,hst]
  ·have hnk:=key false [(first,L1.length)] (by rw[shutL_eq];exact hhy _) (by rw[shutL_eq];exact hcs _)
   rw[hnk,cond_false,List.mem_filter,List.mem_range]
   refine and_congr_right fun hm=>?_
   have hbl:besL (L.map PL.ln) (ndsL (L.map PL.ln) (L.map PL.ln).length) k first L1.length=(Nd L (k-1)).filter fun n=>!decide (n∈[first]):=by
    unfold besL Nd
    rw[d1,hasm,show k-1-1=L1.length-1 by omega]
   have hnl:needS (L.map PL.ln) (boxL (L.map PL.ln)) (ndsL (L.map PL.ln) (L.map PL.ln).length) k [(first,L1.length)] m=decide (m∈(Nd L (k-1)).filter fun n=>!decide (n∈[first])):=by
    unfold needS
    rw[List.any_cons,List.any_nil,Bool.or_false]
    unfold numL
    rw[hbox,cond_true,hbl]
   rw[hnl,decide_eq_true_iff,List.mem_filter]
   simp
theorem Src.le{L:List PL}{k:Nat}{x:PL}(h:Src L k x):∀m∈Nd L k,m≤k:=fun m hm=>by
 cases h with
 |hyp a1 a2=>rw[a2] at hm;rw[List.mem_singleton.1 hm];exact Nat.le_refl _
 |cite a1 a2 a3 a4=>exact Nat.le_of_lt ((a4 m).1 hm).1
 |shut a1 a2 a3 a4 a5 a6 a7 a8 a9=>exact Nat.le_of_lt ((a9 m).1 hm).1
def tr(t:Bool→Bool):PF→Bool
 | .atm x=>t x
 | .ff=>false
 | .neg a=>!tr t a
 | .bin k a c=>match k with
  |0=>tr t a&&tr t c
  |1=>tr t a||tr t c
  |2=>!tr t a||tr t c
theorem Cit.tr{L:List PL}{C:Nat→Prop}{g:PF}{rl l:List Nat}(h:Cit L C g rl l){t:Bool→Bool}(ht:∀c∈l,∀y,L[c-1]? =some y→Lyc.tr t y.f=true):Lyc.tr t g=true:=by
 have hF:∀ {a f},a∈l→FAt L a f→Lyc.tr t f=true:=fun ha ⟨y,h1,h2⟩=>by rw[←h2];exact ht _ ha y h1
 cases h with
 |and a1 a2 f1 f2 h=>
  show(Lyc.tr t _&&Lyc.tr t _)=true
  rw[hF (by simp) f1,hF (by simp) f2];rfl
 |or n a f h=>
  show(Lyc.tr t _||Lyc.tr t _)=true
  rw[hF (by simp) f];rfl
 |andE q a f=>
  have h:(Lyc.tr t _&&Lyc.tr t _)=true:=hF (by simp) f
  rw[Bool.and_eq_true] at h
  cases q
  ·exact h.1
  ·exact h.2
 |imp a1 a2 f1 f2=>
  have h:(!Lyc.tr t _||Lyc.tr t _)=true:=hF (by simp) f1
  rw[hF (by simp) f2] at h
  exact h
 |not a1 a2 f1 f2=>
  have h:(!Lyc.tr t _)=true:=hF (by simp) f2
  rw[hF (by simp) f1] at h
  cases h
 |again a f=>exact hF (by simp) f
 |fal n a f=>exact absurd (hF (by simp) f:Lyc.tr t .ff=true) (by show ¬false=true;decide)
theorem Rd.sound{L:List PL}{fr:List (List Nat)}{fi:List Nat}(h:Rd L fr fi)(hL:L.length≤36){t:Bool→Bool}:∀(n k:Nat) (x:PL),k≤n→1≤k→L[k-1]? =some x→(∀m∈Nd L k,∀y,L[m-1]? =some y→tr t y.f=true)→tr t x.f=true
 |0,k,_,hk,h1,_,_=>by omega
 |n+1,k,x,hk,h1,hx,hn=>by
  cases h.src hL h1 hx with
  |hyp a1 a2=>exact hn k (by rw[a2];simp) x hx
  | @cite C rl cs a1 a2 a3 a4=>
   refine a2.tr fun c hc y hy=>?_
   have:=a3 c hc
   exact h.sound hL n c y (by omega) (by omega) hy fun m hm z hz=>by
    refine hn m ((a4 m).2 ⟨?_,c,hc,hm⟩) z hz
    have:=(h.src hL this.1 hy).le m hm
    omega
  | @shut first y z a1 a2 a3 a4 a5 a6 a7 a8 a9=>
   have key:tr t y.f=true→tr t z.f=true:=fun hy=>h.sound hL n (k-1) z (by omega) (by omega) a6 fun m hm w hw=>by
    by_cases hmf:m=first
    ·subst hmf
     rw[a5] at hw;cases hw;exact hy
    ·refine hn m ((a9 m).2 ⟨?_,hm,hmf⟩) w hw
     have:=(h.src hL (by omega) a6).le m hm
     omega
   rcases a7 with e|⟨e1,e2⟩
   ·rw[e]
    show(!tr t y.f||tr t z.f)=true
    cases hy:tr t y.f with
    |true=>rw[key hy];rfl
    |false=>rfl
   ·rw[e2]
    show(!tr t y.f)=true
    cases hy:tr t y.f with
    |true=>have:=key hy;rw[e1] at this;cases this
    |false=>rfl
theorem Rd.need{L:List PL}{fr:List (List Nat)}{fi:List Nat}(h:Rd L fr fi)(hL:L.length≤36):∀(n k:Nat) (x:PL),k≤n→1≤k→L[k-1]? =some x→∀m∈Nd L k,1≤m∧m≤k∧(∃y,L[m-1]? =some y∧y.hyp=true)∧Bx L m=(Bx L k).take (Bx L m).length
 |0,k,_,hk,h1,_,_,_=>by omega
 |n+1,k,x,hk,h1,hx,m,hm=>by
  have hm1:=((Rd.nds (L:=L) (i:=k-1)).1 m hm).1
  have hmk:=(h.src hL h1 hx).le m hm
  have hkl:k≤L.length:=by have:=(List.getElem?_eq_some_iff.1 hx).1;omega
  refine⟨hm1,hmk,?_⟩
  cases h.src hL h1 hx with
  |hyp a1 a2=>
   rw[a2] at hm
   rw[List.mem_singleton.1 hm]
   exact⟨⟨x,hx,a1⟩,by rw[List.take_length]⟩
  | @cite C rl cs a1 a2 a3 a4=>
   obtain⟨_,c,hc,hmc⟩:=(a4 m).1 hm
   obtain⟨c1,c2,c3⟩:=a3 c hc
   have hy:L[c-1]? =some L[c-1]:=List.getElem?_eq_getElem (by omega)
   obtain⟨_,_,d1,d2⟩:=h.need hL n c _ (by omega) c1 hy m hmc
   refine⟨d1,?_⟩
   have hle:(Bx L m).length≤(Bx L c).length:=by
    have:=congrArg List.length d2
    rw[List.length_take] at this;omega
   rw[c3,List.take_take,Nat.min_eq_left hle] at d2
   exact d2
  | @shut first y z a1 a2 a3 a4 a5 a6 a7 a8 a9=>
   obtain⟨_,hm2,hmf⟩:=(a9 m).1 hm
   obtain⟨_,_,⟨w,d1,d1'⟩,d2⟩:=h.need hL n (k-1) _ (by omega) (by omega) a6 m hm2
   refine⟨⟨w,d1,d1'⟩,?_⟩
   rw[a8] at d2
   by_cases hle:(Bx L m).length≤(Bx L k).length
   ·rw[List.take_append_of_le_length hle] at d2
    exact d2
   ·exfalso
    rw[List.take_of_length_le (by simp;omega)] at d2
    obtain⟨j,rfl⟩:∃j,m=j+1:=⟨m-1,by omega⟩
    have hj:j<(L.map PL.ln).length:=by rw[List.length_map];omega
    have hst:Bx L (j+1)=stkF (stF (L.map PL.ln) j) j w.ln:=by
     show stF _ (j+1)=_
     rw[stF_succ hj,List.getElem_map]
     have:L[j]? =some w:=d1
     rw[(List.getElem?_eq_some_iff.1 this).2]
    have hw:=h.b.hyp w (List.mem_of_getElem? d1) d1'
    have hlen:=(h.shp (by omega)).len j hj
    rw[List.getElem?_map,show L[j]? =some w from d1] at hlen
    have hlen:(Bx L (j+1)).length=w.dp:=hlen
    rw[hst] at d2
    unfold stkF at d2
    cases hop:w.op with
    |zero=>
     have:=hw hop
     rw[this] at hlen
     omega
    |succ o=>
     have hop':w.ln.op=o+1:=hop
     rw[hop',List.replicate_succ',← List.append_assoc] at d2
     have:=(List.append_inj' d2 rfl).2
     exact hmf (List.singleton_inj.1 this)
theorem Rd.nsort{L:List PL}{fr:List (List Nat)}{fi:List Nat}(h:Rd L fr fi){k:Nat}{x:PL}(h1:1≤k)(hx:L[k-1]? =some x):(Nd L k).Pairwise (· < ·):=by
 have hxT:(L.map PL.ln)[k-1]? =some x.ln:=by rw[List.getElem?_map,hx];rfl
 have:=nds_at' h1 hxT (h.cok h1 hxT)
 unfold Nd
 rw[this]
 cases x.ln.hyp with
 |true=>exact List.pairwise_singleton _ _
 |false=>exact List.Pairwise.filter _ (List.pairwise_lt_range)
theorem evB_bit(p q:Bool)(a:PF)(v:Nat):evB p q a v=(wd p q a).getLsbD v:=by
 unfold evB
 generalize wd p q a=x
 have h1:((x >>> v) &&& 1).toNat=x.toNat/2^v%2:=by
  rw[BitVec.toNat_and,BitVec.toNat_ushiftRight,Nat.shiftRight_eq_div_pow]
  show(x.toNat/2^v) &&& 1=_
  rw[Nat.and_one_is_mod]
 rw[h1,BitVec.getLsbD,Nat.testBit_eq_decide_div_mod_eq]
 refine decide_eq_decide.2 ⟨fun h=>?_,fun h=>?_⟩
 ·have h:((x.toNat/2^v%2:Nat):Int)=1:=h
  omega
 ·show((x.toNat/2^v%2:Nat):Int)=1
  omega
theorem ev_tr{p q:Bool}{v:Nat}(hv:v<4):∀a:PF,evB p q a v=tr (fun x=>(wd p q (.atm x)).getLsbD v) a
 | .atm x=>evB_bit p q _ v
 | .ff=>by
  rw[evB_bit]
  show(0:BitVec 64).getLsbD v=false
  simp
 | .neg a=>by
  have ih:=ev_tr hv (p:=p) (q:=q) a
  rw[evB_bit] at ih ⊢
  show(onesW ^^^ wd p q a).getLsbD v= !tr _ a
  rw[BitVec.getLsbD_xor,ih]
  have:v=0∨v=1∨v=2∨v=3:=by omega
  rcases this with rfl|rfl|rfl|rfl<;>(cases tr _ a<;>rfl)
 | .bin k a c=>by
  have iha:=ev_tr hv (p:=p) (q:=q) a
  have ihc:=ev_tr hv (p:=p) (q:=q) c
  rw[evB_bit] at iha ihc ⊢
  have:k=0∨k=1∨k=2:=by omega
  rcases this with rfl|rfl|rfl
  ·show(wd p q a &&& wd p q c).getLsbD v=(tr _ a&&tr _ c)
   rw[BitVec.getLsbD_and,iha,ihc]
  ·show(wd p q a ||| wd p q c).getLsbD v=(tr _ a||tr _ c)
   rw[BitVec.getLsbD_or,iha,ihc]
  ·show((onesW ^^^ wd p q a) ||| wd p q c).getLsbD v=(!tr _ a||tr _ c)
   rw[BitVec.getLsbD_or,BitVec.getLsbD_xor,iha,ihc]
   have:v=0∨v=1∨v=2∨v=3:=by omega
   rcases this with rfl|rfl|rfl|rfl<;>(cases tr _ a<;>rfl)
def fAt(L:List PL)(n:Nat):PF:=(L.map PL.f).getD (n-1) .ff
theorem fAt_eq{L:List PL}{n:Nat}{x:PL}(hx:L[n-1]? =some x):fAt L n=x.f:=by
 unfold fAt
 rw[List.getD_eq_getElem?_getD,List.getElem?_map,hx];rfl
theorem Rd.fol{L:List PL}{fr:List (List Nat)}{fi:List Nat}(h:Rd L fr fi)(hL:L.length≤36){k:Nat}{x:PL}(h1:1≤k)(hx:L[k-1]? =some x)(p q:Bool)(v:Nat)(hv:v<2^(nmB p q).length)(hX:∀a∈(Nd L k).map (fAt L),evB p q a v=true):evB p q x.f v=true:=by
 have hv4:v<4:=by
  have:2^(nmB p q).length≤4:=by cases p<;>cases q<;>decide
  omega
 rw[ev_tr hv4]
 refine h.sound hL k k x (Nat.le_refl _) h1 hx fun m hm y hy=>?_
 rw[←ev_tr hv4,← fAt_eq hy]
 exact hX _ (List.mem_map.2 ⟨m,hm,rfl⟩)
end
section
variable [Tok][TokOk][Pat]
open Go.RowKit Go.Lyc.T
attribute [local irreducible] GoM GoW GoV GoD GoesCall
theorem lv_ex{W:Nat→Prop}{τ:St}{v:AV}{lv:List AV}{L:List PL}(hs:Sl τ (some 9) v lv)(hll:lv.length=L.length)(hli:∀i (h:i<lv.length) (h':i<L.length),LI W τ L[i] lv[i])(hne:L≠[]):∃o cc,v.at? =some o∧τ.get o=some (.cells cc)∧∀j x,L[j]? =some x→idxSlA (some 9) v j=some (.p (some (o,j*9)))∧takeSh none (cc.drop (j*9+0))=some (nI x.dp)∧takeSh none (cc.drop (j*9+2))=some (.b x.hyp)∧∃w,takeSh (some 4) (cc.drop (j*9+3))=some (.ag (cf x.f w))∧FI W τ x.f (.ag (cf x.f w)):=by
 obtain⟨o,c,h1,h2,h3⟩:=hs.blk (by rw[hll];exact List.length_pos_iff.2 hne)
 refine⟨o,c,h1,h2,fun j x hx=>?_⟩
 obtain⟨hj,hx2⟩:=List.getElem?_eq_some_iff.1 hx
 obtain⟨a1,⟨r,a2⟩,a3⟩:=h3 j (by rw[hll];exact hj)
 have hli:=hli j (by rw[hll];exact hj) hj
 rw[hx2] at hli
 refine⟨a1,?_⟩
 generalize lv[j]'(by rw[hll];exact hj)=xv at hli a2
 have a2:c.drop (j*9)=xv.cells++r:=a2
 cases hli with
 |mk w cv hfx hcx=>
  refine⟨?_,?_,w,?_,hfx⟩
  ·rw[Nat.add_zero,a2];rfl
  ·rw[←List.drop_drop,a2];rfl
  ·rw[←List.drop_drop,a2];rfl
theorem bxV_nv'(T:List Ln)(i:Nat){σ:St}:Nv σ (bxV T i) (stF T (i+1)):=by
 unfold bxV
 cases h:hsL T (i+1) with
 |false=>rw[hsL_nil h];exact Sl.nv (l:=[]) .nil
 |true=>
  have:Vw σ none (.tl false none ((stF T (i+1)).map nI)) ((stF T (i+1)).map nI):=tl_vw fun y hy=>by obtain⟨c,_,rfl⟩:=List.mem_map.1 hy;rfl
  exact this.nv
theorem bxs_vw'(T:List Ln){σ:St}:Vw σ none (bxsA T) ((List.range T.length).map (bxV T)):=tl_vw fun y hy=>by
 obtain⟨c,_,rfl⟩:=List.mem_map.1 hy
 unfold bxV
 cases hsL T (c+1)<;>rfl
theorem bx_cut(T:List Ln)(i:Nat){σ:St}{ev:AOpd→Option AV}{hi:AOpd}{k:Nat}(hk:k≤(stF T (i+1)).length)(he:ev hi=some (nI k)):∃w,sliceA ev none (bxV T i) none (some hi) none=some w∧Nv σ w ((stF T (i+1)).take k):=by
 have hb:∀d,bndO ev (some hi) d=some k:=fun d=>by
  show(match ev hi with|some v=>natOf v|none=>none)=some k
  rw[he];rfl
 unfold bxV
 cases h:hsL T (i+1) with
 |false=>
  rw[hsL_nil h] at hk ⊢
  obtain rfl:k=0:=by simpa using hk
  refine⟨.nilsl,?_,Sl.nv (l:=[]) .nil⟩
  show(match bndO ev none 0,bndO ev (some hi) 0,bndO ev none 0 with|some 0,some 0,some 0=>some AV.nilsl|_,_,_=>none)=_
  rw[hb];rfl
 |true=>
  refine⟨.tl false none (((stF T (i+1)).take k).map nI),?_,?_⟩
  ·show(if(none:Option Nat)=none then(match bndO ev none 0,bndO ev (some hi) ((stF T (i+1)).map nI).length,(none:Option AOpd) with
    |some l,some h,none=>if Nat.ble l h&&Nat.ble h ((stF T (i+1)).map nI).length then some (AV.tl false none ((((stF T (i+1)).map nI).drop l).take (h-l))) else none
    |_,_,_=>none) else none)=_
   rw[if_pos rfl,hb]
   show(if Nat.ble 0 k&&Nat.ble k ((stF T (i+1)).map nI).length then some (AV.tl false none ((((stF T (i+1)).map nI).drop 0).take (k-0))) else none)=_
   rw[Nat.ble_eq_true_of_le (Nat.zero_le k),Nat.ble_eq_true_of_le (by rw[List.length_map];exact hk),List.drop_zero,Nat.sub_zero,← List.map_take];rfl
  ·have:Vw σ none (.tl false none (((stF T (i+1)).take k).map nI)) (((stF T (i+1)).take k).map nI):=tl_vw fun y hy=>by obtain⟨c,_,rfl⟩:=List.mem_map.1 hy;rfl
   exact this.nv
theorem Nd_len(L:List PL)(k:Nat):(Nd L k).length≤L.length+1:=(Rd.nds (L:=L) (i:=k-1)).2
theorem W.bk{md:Md}{env:Env}{wh:Option Nat}{D:List (Nat ⊕ (AV×List AV))}{n:Nat}{F:List (Nat×AV)}{z:Nat→AV}{σ:St}{Q:PostF}{d:Nat}{x hi:AOpd}{g:Option (Nat×Bool)}{ops:List AOper}(T:List Ln)(i:Nat){k:Nat}(hk:k≤(stF T (i+1)).length)(hd:Nat.blt d n=true)(hw:wtL g n F=true)(h1:evL env n F z x=some (bxV T i))(h2:evL env n F z hi=some (nI k))
  (hc:∀w,Nv σ w ((stF T (i+1)).take k)→GoM md env wh D n ops (upds ((d,w)::F) z) σ Q):GoM md env wh D n (⟨some d,.sliceSl none x none (some hi) none,g,[]⟩::ops) (upds F z) σ Q:=by
 obtain⟨w,e1,e2⟩:=bx_cut T i hk h2 (σ:=σ)
 refine W.val (v:=w) (σ':=σ) hd hw ?_ (hc w e2)
 show(match evL env n F z x with|some x=>(match sliceA (evL env n F z) none x none (some hi) none with|some v=>some (OpR.val v σ)|none=>none)|none=>none)=_
 rw[h1]
 show(match sliceA (evL env n F z) none (bxV T i) none (some hi) none with|some v=>some (OpR.val v σ)|none=>none)=_
 rw[e1]
structure HLn(b:Base)(K:Nat→List AV→AV→Prop)(lc jc:List AV)(la:AV):Prop where
 md:HMd b K
 made:Here (b.envK K) n_Made c5
 elog:b.ext n_logics=0∧b.pure n_logics=true
 log:K n_logics [] (.tu [.ag lc,.ag jc])
 l5:lc.length=5∧jc.length=5
 sn:∀σ,snapshot σ (b.fz+1000) (.ag lc)=some la
 eaw:b.ext n_awake18=0∧b.pure n_awake18=true
 aw:K n_awake18 [] (.b true)
 en:b.ext n_fNeeds=0∧b.pure n_fNeeds=true
 ebx:b.ext n_fBoxes=0∧b.pure n_fBoxes=true
 ef:b.ext n_Follows=0∧b.pure n_Follows=true
 si:Here (b.envK K) n_SameInts c8
theorem HLn.one{b:Base}{K:Nat→List AV→AV→Prop}{lc jc:List AV}{la:AV}(h:HLn b K lc jc la):OneC (b.envK K) n_SameInts:=(show Quiet (b.envK K) [n_SameInts] from fun g hg=>by rw[List.mem_singleton.1 hg];exact⟨h.si.e,.inr ⟨h.si.p,_,_,h.si.f,rfl,rfl⟩⟩).one rfl
theorem nsA_vw(N:List (List Nat)){σ:St}:Vw σ none (nsA N) (N.map fun l=>slA false none (l.map nI)):=slA_vw fun y hy=>by obtain⟨c,_,rfl⟩:=List.mem_map.1 hy;exact slA_cf
section
variable {b:Base}{K:Nat→List AV→AV→Prop}{lc jc:List AV}{la cV:AV}
theorem FitchNeeds_go(hl:HLn b K lc jc la){code:List Nat}(hv:∀τ,Vw τ none cV (code.map uB))(hc1:cV.cells=[cV]∧cV.val=true)(hcl:code.length<2^62)(hcb:∀x∈code,x<256)
  (hK:∀L fr fi,Rd L fr fi→L.length≤35→L≠[]→K n_fNeeds [lnsA (L.map PL.ln)] (.tu [nsA (ndsL (L.map PL.ln) (L.map PL.ln).length),nI 0])∧K n_fBoxes [lnsA (L.map PL.ln)] (.tu [bxsA (L.map PL.ln),nI 0])∧K n_Follows [la,sqA ((Nd L L.length).map (fAt L)) (fAt L L.length),nI 1] (.tu [.b true,nI 0])) (body:ACode) (hbd:c3.body=some body):
  GoF (b.envK K) c3.ntmps body (argF [cV]) ⟨.nil,0⟩ (Done 2 (.b true)):=by
 cases hbd
 refine W.args fun z=>?_
 have H:Has (⟨.nil,0⟩:St) []:=Has.nil
 refine wk ?_
 refine W.kn hl.md.fn hl.elog hl.log rfl rfl rfl rfl ?_
 have hlc:conf (some 5) (.ag lc)=true:=by show Nat.beq lc.length 5=true;rw[hl.l5.1];rfl
 have hjc:conf (some 5) (.ag jc)=true:=by show Nat.beq jc.length 5=true;rw[hl.l5.2];rfl
 refine wk ?_
 refine W.al (k:=0) H rfl rfl rfl rfl fun τ1 n1 H k1=>?_
 refine W.al (k:=1) H n1 rfl rfl rfl fun τ2 n2 H k2=>?_
 refine W.st (c':=lc) H 1 rfl rfl rfl rfl hlc (by exact storeAll hl.l5.1) fun τ3 n3 H k3=>?_
 refine W.st (c':=jc) H 0 rfl rfl rfl rfl hjc (by exact storeAll hl.l5.2) fun τ4 n4 H k4=>?_
 refine wk ?_
 refine W.cl trivial rfl rfl rfl (Made_go hl.md hl.made hv hc1 hcl hcb) fun r τ5 ⟨L,fr,fi,v,lv,Mu,ev,hR,hf1,hne,hL,hs,hll,hli,hcap,hvm,hmq,M5⟩=>⟨_,ev,?_⟩
 have hLp:0<L.length:=List.length_pos_iff.2 hne
 have hdep:∀x∈L,x.f.dep≤200:=fun x hx=>by have:=(hR.low (by omega) hx).1;omega
 have hsn:=lines_snap (b:=b) hs hne hll hli hdep
 have H:=H.keep M5.2
 have h0:=H.get (0,lc) (by simp)
 obtain⟨hk1,hk2,hk3⟩:=hK L fr fi hR hL hne
 have hTl:(L.map PL.ln).length=L.length:=List.length_map _
 obtain⟨o,cc,hat,hgo,hln⟩:=lv_ex hs hll hli hne
 have hvl:∀τ,lenA τ 1 v=some L.length:=fun τ=>by rw[←hll];exact hs.len
 refine wk ?_
 refine W.kn hl.md.fn hl.en hk1 rfl rfl rfl (snaps1 hsn) ?_
 refine wk ?_
 refine W.kn hl.md.fn hl.ebx hk2 rfl rfl rfl (snaps1 hsn) ?_
 have hbv:=bxs_vw' (L.map PL.ln) (σ:=τ5)
 have hbl:((List.range (L.map PL.ln).length).map (bxV (L.map PL.ln))).length=L.length:=by rw[List.length_map,List.length_range,hTl]
 obtain⟨N,hN⟩:∃N,N=ndsL (L.map PL.ln) (L.map PL.ln).length:=⟨_,rfl⟩
 have hNl:N.length=L.length:=by rw[hN,ndsL_len,hTl]
 have hNd:∀i (h:i<N.length),N[i]=Nd L (i+1):=fun i h=>by
  unfold Nd
  rw[←hN,List.getD_eq_getElem?_getD,Nat.add_sub_cancel,List.getElem?_eq_getElem h];rfl
 rw[←hN]
 have hnv:=nsA_vw N (σ:=τ5)
 refine wk ?_
 rw[hNl]
 refine W.len rfl rfl rfl (hvl _) ?_
 refine wk ?_
 rw[hbl]
 refine W.len rfl rfl rfl (hvl _) ?_
 refine wk ?_
 rw[hNl]
 show GoW _ _ _ _ _ _ _ _
 refine GoF.each L.length (fun j f τ'=>τ'=τ5∧sat [(3,pt 0),(5,v),(6,nsA N),(8,bxsA (L.map PL.ln)),(55,nsA N)] f) (by omega) ⟨rfl,rfl,rfl,rfl,rfl,rfl,trivial⟩ rfl rfl (fun j g τ' hj hI hi hm=>?_) (fun g τ' hI hi=>?_)
 ·obtain⟨rfl,g3,g5,g6,g8,g55,_⟩:=hI
  refine GoF.norm [(3,pt 0),(5,v),(6,nsA N),(8,bxsA (L.map PL.ln)),(55,nsA N),(57,nI j),(56,nI L.length)] ⟨g3,g5,g6,g8,g55,hi,hm,trivial⟩ fun g=>?_
  have hxj:L[j]? =some L[j]:=List.getElem?_eq_getElem hj
  obtain⟨hixj,hdpj,_,_⟩:=hln j _ hxj
  have hbn:=bxV_nv' (L.map PL.ln) j (σ:=τ')
  have hsl:=(hR.shp (by omega)).len j (by omega)
  rw[List.getElem?_map,hxj] at hsl
  have hsl:(stF (L.map PL.ln) (j+1)).length=(L[j]).dp:=hsl
  have hneed:=hR.need (by omega) (j+1) (j+1) _ (Nat.le_refl _) (by omega) hxj
  have hsort:=hR.nsort (k:=j+1) (by omega) hxj
  have hndl:(Nd L (j+1)).length≤36:=Nat.le_trans (Nd_len L (j+1)) (by show L.length+1≤36;exact Nat.succ_le_succ hL)
  have hNj:=hNd j (by omega)
  refine wk ?_
  rw[List.getElem_map,List.getElem_range,hNj]
  generalize hnd:Nd L (j+1)=nd at hneed hsort hndl
  refine W.len rfl rfl rfl (hbn.len _) ?_
  rw[hsl]
  refine wk ?_
  refine W.ix rfl rfl rfl rfl hixj ?_
  refine wk ?_
  refine W.lx hgo rfl rfl rfl hdpj ?_
  refine wk ?_
  show GoW _ _ _ _ _ _ _ _
  refine GoF.each nd.length (fun r f τ2=>τ2=τ'∧sat [(3,pt 0),(5,v),(6,nsA N),(8,bxsA (L.map PL.ln)),(10,nI j),(11,slA false none (nd.map nI)),(55,nsA N),(57,nI j),(56,nI L.length),(73,slA false none (nd.map nI))] f) (by omega) ⟨rfl,rfl,rfl,rfl,rfl,rfl,rfl,rfl,rfl,rfl,rfl,trivial⟩ rfl rfl (fun r g τ2 hr hI hi hm=>?_) (fun g τ2 hI hi=>?_)
  ·obtain⟨rfl,g3,g5,g6,g8,g10,g11,g55,g57,g56,g73,_⟩:=hI
   refine GoF.norm [(3,pt 0),(5,v),(6,nsA N),(8,bxsA (L.map PL.ln)),(10,nI j),(11,slA false none (nd.map nI)),(55,nsA N),(57,nI j),(56,nI L.length),(73,slA false none (nd.map nI)),(75,nI r),(74,nI nd.length)] ⟨g3,g5,g6,g8,g10,g11,g55,g57,g56,g73,hi,hm,trivial⟩ fun g=>?_
   obtain⟨m1,m2,⟨y,hy,hyh⟩,m4⟩:=hneed nd[r] (List.getElem_mem hr)
   have hprev:0<r→nd[r-1]'(by omega)<nd[r]:=fun h0=>List.pairwise_iff_getElem.1 hsort (r-1) r (by omega) hr (by omega)
   have hnr:∀i (h:i<nd.length),i=r→nd[i]=nd[r]:=fun i h e=>by subst e;rfl
   have hml:nd[r]-1<(L.map PL.ln).length:=by have:=(List.getElem?_eq_some_iff.1 hy).1;omega
   obtain⟨hixm,_,hhym,_⟩:=hln _ _ hy
   rw[hyh] at hhym
   have hbm:=bxV_nv' (L.map PL.ln) (nd[r]-1) (σ:=τ2)
   rw[show nd[r]-1+1=nd[r] by omega] at hbm
   have hble:(Bx L nd[r]).length≤(Bx L (j+1)).length:=by
    have:=congrArg List.length m4
    rw[List.length_take] at this;omega
   have hbl2:(Bx L (j+1)).length<2^20:=by
    have:=((hR.shp (by omega)).num _ (List.mem_map_of_mem (List.getElem_mem hj))).1
    show(stF (L.map PL.ln) (j+1)).length<_
    rw[hsl]
    have e:(L[j]).ln.dp=(L[j]).dp:=rfl
    omega
   refine wk ?_
   refine W.ix rfl rfl rfl rfl hixm ?_
   refine wk ?_
   refine W.lx hgo rfl rfl rfl hhym ?_
   have hb1:(stF (L.map PL.ln) nd[r]).length≤(stF (L.map PL.ln) (j+1)).length:=hble
   have hb2:(stF (L.map PL.ln) (j+1)).length<2^20:=hbl2
   have hp:r=0∨(0<r∧nd[r-1]'(by omega)<nd[r]):=(Nat.eq_zero_or_pos r).imp id fun h=>⟨h,hprev h⟩
   focus
    rcases hp with hp|⟨hp,hp2⟩
    all_goals
     refine wk ?_
     rw[List.getElem_map,List.getElem_range]
     refine W.len rfl rfl rfl (hbm.len _) ?_
     refine wk ?_
     rw[List.getElem_map,List.getElem_range]
     refine W.len rfl rfl rfl (hbn.len _) ?_
     refine wk ?_
     simp only[List.getElem_map,List.getElem_range]
     refine W.len rfl rfl rfl (hbm.len _) ?_
     refine W.bk (L.map PL.ln) j hble rfl rfl rfl rfl fun w hw=>?_
     rw[←m4] at hw
     refine W.cl hl.one rfl rfl rfl (SameInts_go hl.si hbm hw (by omega)) fun r2 τ3 ⟨e1,e2⟩=>?_
     obtain rfl:=e2
     refine⟨_,e1,?_⟩
     refine wk ?_
     exact⟨rfl,rfl,rfl,rfl,rfl,rfl,rfl,rfl,rfl,rfl,rfl,rfl,rfl,trivial⟩
  ·obtain⟨rfl,g3,g5,g6,g8,g10,g11,g55,g57,g56,g73,_⟩:=hI
   exact⟨by first|exact g57|rfl,by first|exact g56|rfl,rfl,g3,g5,g6,g8,g55,trivial⟩
 ·obtain⟨rfl,g3,g5,g6,g8,g55,_⟩:=hI
  refine GoF.norm [(3,pt 0),(5,v),(6,nsA N)] ⟨g3,g5,g6,trivial⟩ fun g=>?_
  have H:Has τ' [(0,lc)]:=Has.nil.cons h0 (by simp)
  have hxl:L[L.length-1]? =some (L[L.length-1]'(by omega)):=List.getElem?_eq_getElem (by omega)
  obtain⟨hixl,_,_,w0,hwl,hFl⟩:=hln _ _ hxl
  have hfe:=fAt_eq hxl
  have hdl:=hdep _ (List.getElem_mem (show L.length-1<L.length by omega))
  generalize L[L.length-1]'(by omega)=xl at hixl hwl hFl hfe hdl
  generalize hnx:τ'.next=p
  have hlt:∀i c,τ'.get i=some c→i<p:=fun i c h=>hnx▸St.get_lt h
  have hneed:=hR.need (by omega) L.length L.length _ (Nat.le_refl _) (by omega) hxl
  have hndl:(Nd L L.length).length≤36:=Nat.le_trans (Nd_len L L.length) (by omega)
  have hNj:=hNd (L.length-1) (by omega)
  rw[show L.length-1+1=L.length by omega] at hNj
  refine wk ?_
  refine W.len rfl rfl rfl (hvl _) ?_
  refine wk ?_
  refine W.ix rfl rfl rfl rfl hixl ?_
  refine wk ?_
  refine W.lx hgo rfl rfl rfl hwl ?_
  refine wk ?_
  refine W.bs (c:=cf xl.f w0) H hnx rfl rfl rfl fun τ6 n6 H k6=>?_
  refine wk ?_
  refine W.al (k:=p+1) H n6 rfl rfl rfl fun τ7 n7 H k7=>?_
  refine W.st (c':=[.nilsl,.sl p 0 1 (some 4) (some 1)]) H 0 rfl rfl rfl rfl rfl rfl fun τ8 n8 H k8=>?_
  refine wk ?_
  refine W.len rfl rfl rfl (hvl _) ?_
  refine wk ?_
  rw[hNj]
  generalize hnd:Nd L L.length=nd at hneed hndl hk3
  show GoW _ _ _ _ _ _ _ _
  have kk8:∀i o,τ'.get i=some o→τ8.get i=some o:=fun i o h=>k8 _ _ (by have:=hlt _ _ h;omega) (k7 _ _ (k6 _ _ h))
  have hp8:=H.get (p,cf xl.f w0) (by simp)
  have hq8:=H.get (p+1,[.nilsl,.sl p 0 1 (some 4) (some 1)]) (by simp)
  refine GoF.each nd.length (fun r f τ=>(∃lw els,τ.get (p+1)=some (.cells [lw,.sl p 0 1 (some 4) (some 1)])∧Sl τ (some 4) lw els∧els.length=r∧(∀i (h:i<els.length) (h':i<nd.length),FI (fun i=>¬Mu i) τ' (fAt L nd[i]) els[i])∧(∀i,lw.at? =some i→p+1<i)∧(els=[]→lw= .nilsl)∧p+1<τ.next∧τ.get p=some (.cells (cf xl.f w0))∧(∀i o,τ'.get i=some o→τ.get i=some o))∧sat [(3,pt 0),(5,v),(14,pt (p+1)),(160,slA false none (nd.map nI))] f) (by omega) ⟨⟨.nilsl,[],hq8,.nil,rfl,(fun i h=>absurd h (by simp)),(fun i h=>by cases h),(fun _=>rfl),by omega,hp8,kk8⟩,rfl,rfl,rfl,rfl,trivial⟩ rfl rfl (fun r g τ hr hI hi hm=>?_) (fun g τ hI hi=>?_)
  ·obtain⟨⟨lw,els,b1,b2,b3,b4,b5,b9,b6,b7,b8⟩,g3,g5,g14,g160,_⟩:=hI
   refine GoF.norm [(3,pt 0),(5,v),(14,pt (p+1)),(160,slA false none (nd.map nI)),(162,nI r),(161,nI nd.length)] ⟨g3,g5,g14,g160,hi,hm,trivial⟩ fun g=>?_
   obtain⟨m1,m2,⟨y,hy,_⟩,_⟩:=hneed nd[r] (List.getElem_mem hr)
   obtain⟨hixm,_,_,wy,hwy,hFy⟩:=hln _ _ hy
   have hfy:=fAt_eq hy
   have hgo':=b8 _ _ hgo
   have H:Has τ [(p+1,[lw,.sl p 0 1 (some 4) (some 1)])]:=Has.nil.cons b1 (by simp)
   have hpl:=hlt _ _ hgo
   refine wz ?_
   refine W.dwO [(9,p+1,[lw,.sl p 0 1 (some 4) (some 1)]),(9,o,cc)] 12 rfl rfl ?_
   refine wq ?_
   refine W.ldO b1 (by simp) rfl rfl rfl rfl (eqb1 b2.lf) ?_
   refine wq ?_
   refine W.ix rfl rfl rfl rfl hixm ?_
   refine wq ?_
   refine W.ldO hgo' (by simp) rfl rfl rfl hwy (hFy.eqb y.f.dep (Nat.le_refl _) (by have:=hdep y (List.mem_of_getElem? hy);show _≤b.fz+1000;omega)) ?_
   generalize hny:τ.next=p2
   refine W.bs (c:=cf y.f wy) H hny rfl rfl rfl fun τ6 n6 H k6=>?_
   refine W.nowO (ob':=[]) 9 rfl (fun x hx=>by
    simp only[List.mem_cons,List.not_mem_nil,or_false] at hx
    rcases hx with rfl|rfl
    ·exact .inl ⟨rfl,k6 _ _ b1⟩
    ·exact .inl ⟨rfl,k6 _ _ hgo'⟩) ?_
   have g6:=H.get _ (.head _)
   refine W.ap (w:=.sl p2 0 1 (some 4) (some 1)) (.ag (cf y.f wy)) [] (b2.keep fun i o _=>k6 i o) (by show(match τ6.get p2 with|some (.cells c)=>elems (some 4) 1 (c.drop 0)|_=>none)=_;rw[g6];rfl) (fun z hz=>by rw[List.mem_singleton.1 hz];rfl) (by show(3*(els.length+1)+2000)*72≤_;omega) rfl rfl rfl rfl fun v' τ7 c1 c2 c3 n7 k7=>?_
   have k67:∀i o,i≤p+1→τ.get i=some o→τ7.get i=some o:=fun i o hi h=>k7 _ _ (fun e=>by have:=b5 _ e;omega) (k6 _ _ h)
   have H:Has τ7 [(p+1,[lw,.sl p 0 1 (some 4) (some 1)])]:=Has.nil.cons (k67 _ _ (Nat.le_refl _) b1) (by simp)
   refine wq ?_
   refine W.st (c':=[v',.sl p 0 1 (some 4) (some 1)]) H 0 rfl rfl rfl rfl c1.conf0 (by rw[c1.cells0];rfl) fun τ8' n8' H k8'=>?_
   have k78:∀i o,i≤p→τ.get i=some o→τ8'.get i=some o:=fun i o hi h=>k8' _ _ (by omega) (k67 _ _ (by omega) h)
   refine W.nild ?_
   refine wk ?_
   refine⟨rfl,rfl,⟨v',els++[.ag (cf y.f wy)],H.get _ (.head _),c1.keep fun i o hi h=>k8' _ _ (fun e=>by rw[c2] at hi;injection hi with hi;omega) h,by rw[List.length_append,b3];rfl,fun i h h'=>?_,(fun i hi=>by rw[c2] at hi;injection hi with hi;omega),(fun e=>by simp at e),by omega,k78 _ _ (Nat.le_refl _) b7,fun i o h=>k78 _ _ (Nat.le_of_lt (hlt _ _ h)) (b8 _ _ h)⟩,rfl,rfl,rfl,rfl,trivial⟩
   rw[List.getElem_append]
   by_cases hi:i<els.length
   ·rw[dif_pos hi]
    exact b4 i hi h'
   ·rw[dif_neg hi]
    have:i=r:=by rw[List.length_append,b3] at h;simp at h;omega
    subst this
    simp only[b3,Nat.sub_self,List.getElem_cons_zero,hfy]
    exact hFy
  ·obtain⟨⟨lw,els,b1,b2,b3,b4,b5,b9,b6,b7,b8⟩,g3,g5,g14,g160,_⟩:=hI
   refine GoF.norm [(3,pt 0),(14,pt (p+1))] ⟨g3,g14,trivial⟩ fun g=>?_
   have H:Has τ [(p+1,[lw,.sl p 0 1 (some 4) (some 1)]),(0,lc)]:=(Has.nil.cons (b8 _ _ h0) (by simp)).cons b1 (by simp)
   refine wk ?_
   refine W.ld H rfl rfl rfl (.tail _ (.head _)) (v:=.ag lc) (by show(if(lc.take 5).length=5 then some (AV.ag (lc.take 5)) else none)=_;rw[List.take_of_length_le (Nat.le_of_eq hl.l5.1),if_pos hl.l5.1]) ?_
   refine wk ?_
   have hkF:∀ {i:Nat} {c:List AV},¬Mu i→τ'.get i=some (.cells c)→¬Mu i∧τ.get i=some (.cells c):=fun h1 h2=>⟨h1,b8 _ _ h2⟩
   have hm1:mapO (snapshot τ (b.fz+998)) els=some ((nd.map (fAt L)).map fun x=>.ag (fc x.fm)):=mapO_idx (by rw[List.length_map,List.length_map,b3]) fun i h1 h2=>by
    have hi:i<nd.length:=by omega
    rw[List.getElem_map,List.getElem_map]
    obtain⟨m1,m2,⟨y,hy,_⟩,_⟩:=hneed nd[i] (List.getElem_mem hi)
    have hd:=hdep y (List.mem_of_getElem? hy)
    rw[←fAt_eq hy] at hd
    rw[((b4 i h1 hi).keep (fun _ _=>hkF) _ (Nat.le_refl _)).snap _ (Nat.le_refl _) (by omega),fA]
   refine W.kn hl.md.fn hl.ef hk3 rfl rfl rfl ?_ ?_
   ·have h1:snapshot τ (b.fz+1000) (.ag [lw,.sl p 0 1 (some 4) (some 1)])=some (sqA (nd.map (fAt L)) (fAt L L.length)):=by
     refine snap_ag (k:=b.fz+999) ?_
     have hr:snapshot τ (b.fz+999) (.sl p 0 1 (some 4) (some 1))=some (slA true (some 4) [.ag (fc xl.f.fm)]):=(SlT.sl (W:=fun _=>True) (sh:=some 4) p (some 1) [.ag (cf xl.f w0)] [] trivial b7 (fun y hy=>by rw[List.mem_singleton.1 hy];rfl) (.inr rfl) (by simp)).snap (n:=b.fz+998) (ys:=[.ag (fc xl.f.fm)]) (by
      rw[mapO_cons,(hFl.keep (fun _ _=>hkF) _ (Nat.le_refl _)).snap _ (Nat.le_refl _) (by omega),fA];rfl)
     rw[mapO_cons,b2.snapG b9 hm1,mapO_cons,hr,hfe];rfl
    exact snaps3 (hl.sn _) h1 rfl
   ·refine wk ?_
    refine W.kn hl.md.fn hl.eaw hl.aw rfl rfl rfl rfl ?_
    refine wk ?_
    refine GoF.ret ⟨rfl,rfl⟩
end
end
section
variable [Tok][TokOk]
open Go.RowKit Go.Lyc.T
structure GdT(T:List Ln):Prop where
 shp:Shp T
 dm:Dm T (boxL T)
 cok:∀k x,1≤k→T[k-1]? =some x→Cok k x.cs
 sh:∀k,1≤k→k≤T.length→shB T k=true
 dep:∀x∈T,x.f.dep≤40
 le:T.length≤36
 ne:T≠[]
theorem Rd.gT{L:List PL}{fr:List (List Nat)}{fi:List Nat}(h:Rd L fr fi)(hL:L.length≤36)(hne:L≠[]):GdT (L.map PL.ln) where
 shp:=h.shp (by omega)
 dm:=h.dm (by omega)
 cok k x h1 hx:=h.cok h1 hx
 sh k h1 h2:=by
  rw[List.length_map] at h2
  exact(h.shape h1 (List.getElem?_eq_getElem (show k-1<L.length by omega))).1
 dep x hx:=by
  obtain⟨y,hy,rfl⟩:=List.mem_map.1 hx
  show y.f.fm.dep≤40
  rw[PF.fm_dep]
  have:=(h.low hL hy).1
  omega
 le:=by rw[List.length_map];exact hL
 ne:=by simpa using hne
end
section
variable [Tok][TokOk][Pat]
open Go.RowKit Go.Lyc.T
attribute [local irreducible] GoM GoW GoV GoD GoesCall
section
variable {b:Base}{K:Nat→List AV→AV→Prop}
theorem FB.hf(fb:FB b):HF b K:=⟨fb.starts.h,fb.EqualI.h,fb.IndexI.h,fb.ContainsI.h,fb.CloneI.h,fb.isBox.h,fb.assumptions.h,fb.beside.h,fb.needed.h,fb.fforms.h⟩
theorem FB.ho(fb:FB b):HO b K:=⟨fb.fopen.h,fb.around.h,fb.around1.h,fb.misshapen_.2⟩
end
theorem fresh_nl(l:List Nat){n:Nat}:freshA (n+2) (slA false none (l.map nI))=true∧AV.eqb (n+2) (slA false none (l.map nI)) (slA false none (l.map nI))=true∧(slA false none (l.map nI)).cells=[slA false none (l.map nI)]:=by
 cases l with
 |nil=>exact⟨rfl,rfl,rfl⟩
 |cons x l=>
  refine⟨?_,eqb_tl (n:=n+1) fun y hy=>?_,rfl⟩
  ·show freshA (n+2) (.tl false none ((x::l).map nI))=true
   rw[show n+2=n+1+1 from rfl,freshA_succ]
   refine allB_of fun y hy=>?_
   obtain⟨k,_,rfl⟩:=List.mem_map.1 hy
   rfl
  ·obtain⟨k,_,rfl⟩:=List.mem_map.1 (show y∈(x::l).map nI from hy)
   exact eqb1 rfl
theorem fresh_tl{α:Type}(l:List α)(f:α→AV){n:Nat}(h:∀x,freshA (n+2) (f x)=true∧AV.eqb (n+2) (f x) (f x)=true∧(f x).cells=[f x]):freshA (n+3) (.tl false none (l.map f))=true∧AV.eqb (n+3) (.tl false none (l.map f)) (.tl false none (l.map f))=true:=by
 refine⟨?_,eqb_tl (n:=n+2) fun y hy=>?_⟩
 ·rw[show n+3=n+2+1 from rfl,freshA_succ]
  refine Bool.and_eq_true_iff.2 ⟨rfl,allB_of fun y hy=>?_⟩
  obtain⟨i,_,rfl⟩:=List.mem_map.1 hy
  rw[(h i).2.2]
  exact allB_of fun z hz=>by rw[List.mem_singleton.1 hz];exact(h i).1
 ·obtain⟨i,_,rfl⟩:=List.mem_map.1 hy
  exact(h i).2.1
theorem fresh_ns(N:List (List Nat)){n:Nat}:freshA (n+3) (nsA N)=true∧AV.eqb (n+3) (nsA N) (nsA N)=true:=by
 unfold nsA
 cases N with
 |nil=>exact⟨rfl,rfl⟩
 |cons x N=>exact fresh_tl (x::N) (fun l=>slA false none (l.map nI)) fun l=>fresh_nl l
theorem fresh_bxs(T:List Ln){n:Nat}:freshA (n+3) (bxsA T)=true∧AV.eqb (n+3) (bxsA T) (bxsA T)=true:=by
 unfold bxsA
 refine fresh_tl _ (bxV T) fun i=>?_
 unfold bxV
 cases h:hsL T (i+1) with
 |false=>exact⟨rfl,rfl,rfl⟩
 |true=>
  refine⟨?_,eqb_tl (n:=n+1) fun y hy=>?_,rfl⟩
  ·show freshA (n+2) (.tl false none ((stF T (i+1)).map nI))=true
   rw[show n+2=n+1+1 from rfl,freshA_succ]
   refine Bool.and_eq_true_iff.2 ⟨rfl,allB_of fun y hy=>?_⟩
   obtain⟨k,_,rfl⟩:=List.mem_map.1 hy
   rfl
  ·obtain⟨k,_,rfl⟩:=List.mem_map.1 hy
   exact eqb1 rfl
theorem fresh_tu{v:AV}(h:freshA 999 v=true∧AV.eqb 999 v v=true):freshA 1000 (.tu [v,nI 0])=true∧AV.eqb 1000 (.tu [v,nI 0]) (.tu [v,nI 0])=true:=by
 have key:∀y∈[v,nI 0],y=v∨y=nI 0:=fun y hy=>by simpa using hy
 constructor
 ·rw[show(1000:Nat)=999+1 from rfl,freshA_succ]
  refine allB_of fun y hy=>?_
  rcases key y hy with rfl|rfl
  ·exact h.1
  ·rfl
 ·refine(all2_refl fun y hy=>?_:all2 (AV.eqb 999) [v,nI 0] [v,nI 0]=true)
  rcases key y hy with rfl|rfl
  ·exact h.2
  ·rfl
section
variable {P:Program}{b:Base}(hb:BaseOk P b)(fb:FB b)
include hb fb
abbrev KZ(P:Program)(b:Base):Nat→List AV→AV→Prop:=Kb P b .nilsl .nilsl
omit hb fb in
theorem GdT.sn{T:List Ln}(g:GdT T):∀σ,snapshot σ (b.fz+1000) (lnsA T)=some (lnsA T):=fun σ=>snap_lns g.ne fun x hx=>by have:=g.dep x hx;omega
theorem GdT.e_shp{T:List Ln}(g:GdT T){k:Nat}(h1:1≤k)(h2:k≤T.length):Kn P b n_shaped [lnsA T,nI k] (.b (shB T k)):=fun B0=>
 entryK hb (Kb.ok (la:=.nilsl) (lg:=.nilsl)) _ fb.shaped_.1 rfl rfl rfl rfl (eb _).1 (eb _).2 (shaped_go T (by have:=g.le;omega) (fun x hx=>by
  have h3:=g.shp.num x hx
  obtain⟨i,hi,rfl⟩:=List.getElem_of_mem hx
  have h4:=(g.cok (i+1) _ (by omega) (List.getElem?_eq_getElem hi)).1
  exact⟨by omega,by omega,h4⟩) k h1 h2 _ rfl) B0
theorem GdT.e_mis{T:List Ln}(g:GdT T):Kn P b n_misshapen [lnsA T] (nI 0):=fun B0=>
 entryK hb (Kb.ok (la:=.nilsl) (lg:=.nilsl)) _ fb.misshapen_.1 rfl rfl rfl rfl (ei _ _).1 (ei _ _).2 (misshapen_go Kb.fn (T.map Ln.A) g.sn (by rw[List.length_map];have:=g.le;omega) (fun k=>shB T k) fb.shaped_.2 0 (Nat.zero_le _) (fun k h1 h2 _=>by
  rw[List.length_map] at h2
  exact Kb.det (g.e_shp hb fb h1 h2) (I_shp _ _) fun r hr=>hr.shp rfl _ _ rfl) (fun k h1 h2 _=>by
  rw[List.length_map] at h2
  exact g.sh k h1 h2) (fun h=>absurd rfl h) _ rfl) B0
theorem GdT.gd{T:List Ln}(g:GdT T):Gd b (KZ P b) T where
 shp:=g.shp
 ne:=List.length_pos_iff.2 g.ne
 le:=by have:=g.le;omega
 sn:=g.sn
 mis:=Kb.det (g.e_mis hb fb) I_mis fun r hr=>hr.mis rfl
 dm:=g.dm
 ck k x hx h1:=g.cok k x h1 hx
theorem GdT.e_nds{T:List Ln}(g:GdT T):Kn P b n_fNeeds [lnsA T] (.tu [nsA (ndsL T T.length),nI 0]):=fun B0=>by
 have hw:=Needs_go (K:=KZ P b) Kb.fn fb.hf fb.ho (g.gd hb fb) _ rfl
 have hf:=fresh_tu (fresh_ns (ndsL T T.length) (n:=996))
 exact entryR hb Kb.ok (fr:=1000) _ fb.fNeeds_.1 rfl rfl rfl hf.1 hf.2 hw B0
theorem GdT.e_bxs(hB:PB b n_fBoxes c7){T:List Ln}(g:GdT T):Kn P b n_fBoxes [lnsA T] (.tu [bxsA T,nI 0]):=fun B0=>by
 have hw:=Boxes_go (K:=KZ P b) Kb.fn fb.hf fb.ho (g.gd hb fb) _ rfl
 have hf:=fresh_tu (fresh_bxs T (n:=996))
 exact entryR hb Kb.ok (fr:=1000) _ hB.1 rfl rfl rfl hf.1 hf.2 hw B0
end
structure FRt(b:Base):Prop where
 jnode:HB b n_jnode c140
 jterms:HB b n_jterms c143
 jform:HB b n_jform c111
 Right_:PB b n_Right c96
 named:b.ext n_named=0∧b.pure n_named=true
 rows:b.glob n_rows=some (.ag rowsL)
theorem E_rightN{P:Program}{b:Base}(hb:BaseOk P b)(fr:FRt b)(h1:Kn P b n_named [uB 1,.s [80]] (.b true))(h2:Kn P b n_named [uB 1,.s [81]] (.b true))(h3:Kn P b n_named [uB 0,.s []] (.b true))(a:PF)(ha:a.low):Kn P b n_Right [a.fm.A true] (.b true):=fun B0=>by
 have hn:∀a:PF,Kn P b n_named [uB (rowN a.op),.s a.nm] (.b true):=fun a=>by
  cases a with
  | atm q=>cases q;exact h1;exact h2
  |ff=>exact h3
  |neg a=>exact h3
  |bin k a c=>
   have:rowN (4+k.val)=0:=by
    obtain⟨k,hk⟩:=k
    have:k=0∨k=1∨k=2:=by omega
    rcases this with rfl|rfl|rfl<;>rfl
   show Kn P b n_named [uB (rowN (4+k.val)),.s []] (.b true)
   rw[this];exact h3
 rw[pA]
 exact entryK hb (Kb.ok (la:=.nilsl) (lg:=.nilsl)) _ fr.Right_.1 rfl rfl rfl rfl (eb _).1 (eb _).2 (RightP ⟨Kb.fn,fr.jnode.h,fr.jterms.h,fr.jform.h,fr.named,fun a=>Kb.det (hn a) (I_tru (by decide)) fun r h=>h.tru (by decide),fr.rows⟩ a ha _ rfl) B0
def gN:List Nat:=[n_fNeeds,n_fBoxes,n_Follows]
structure IntN(g:Nat)(ar:List AV)(r:AV):Prop where
 nds:g=n_fNeeds→∀T,ar=[lnsA T]→r= .tu [nsA (ndsL T T.length),nI 0]
 bxs:g=n_fBoxes→∀T,ar=[lnsA T]→r= .tu [bxsA T,nI 0]
 fol:g=n_Follows→r= .tu [.b true,nI 0]
inductive KN(P:Program)(b:Base)(lg:AV)(g:Nat)(ar:List AV)(r:AV):Prop
 |old:inN gN g=false→Kb P b .nilsl lg g ar r→KN P b lg g ar r
 |new:inN gN g=true→(h:∃r,Kn P b g ar r∧IntN g ar r)→r=Classical.choose h→KN P b lg g ar r
section
variable {P:Program}{b:Base}{lg:AV}{g:Nat}{ar:List AV}{r:AV}
theorem KN.fn:∀g ar r r',KN P b lg g ar r→KN P b lg g ar r'→r=r':=fun g ar r r' h h'=>by
 cases h with
 |old e h=>cases h' with
  |old _ h'=>exact Kb.fn _ _ _ _ h h'
  |new e'=>rw[e] at e';cases e'
 |new e h er=>cases h' with
  |old e'=>rw[e] at e';cases e'
  |new _ h' er'=>rw[er,er']
theorem KN.ok:KOk P b (KN P b lg):=fun g ar r h=>by
 cases h with
 |old _ h=>exact Kb.ok g ar r h
 |new _ h er=>subst er;exact(Classical.choose_spec h).1
theorem KN.det(hg:inN gN g=true)(h:Kn P b g ar r)(hI:IntN g ar r)(hu:∀r',IntN g ar r'→r'=r):KN P b lg g ar r:=by
 have hs:=(Classical.choose_spec (⟨r,h,hI⟩:∃r,Kn P b g ar r∧IntN g ar r)).2
 exact .new hg ⟨r,h,hI⟩ (hu _ hs).symm
theorem IN_nds(T:List Ln):IntN n_fNeeds [lnsA T] (.tu [nsA (ndsL T T.length),nI 0]):=⟨fun _ U h=>by rw[lns_inj (one1 h)],fun e=>absurd e (by decide),fun e=>absurd e (by decide)⟩
theorem IN_bxs(T:List Ln):IntN n_fBoxes [lnsA T] (.tu [bxsA T,nI 0]):=⟨fun e=>absurd e (by decide),fun _ U h=>by rw[lns_inj (one1 h)],fun e=>absurd e (by decide)⟩
theorem IN_fol{ar:List AV}:IntN n_Follows ar (.tu [.b true,nI 0]):=⟨fun e=>absurd e (by decide),fun e=>absurd e (by decide),fun _=>rfl⟩
end
section
variable {P:Program}{b:Base}{tv:Nat}{nm:List Nat}{rl:AV}{lc jc:List AV}(hb:BaseOk P b)(fb:FB b)(fx:PB b n_fBoxes c7)(fh:FH b tv)(gh:GH P b tv (.ag (lgC nm rl)))(hrl:rl.val=true∧rl.cells=[rl]∧conf none rl=true)(hla:∀σ,snapshot σ (b.fz+1000) (.ag (lgC nm rl))=some (.ag (lgC nm rl)))
include hb fb
theorem mdN(st:Kn P b n_SameTerms [.nilsl,.nilsl] (.b true)):HMd b (KN P b (.tu [.ag lc,.ag jc])) where
 nx:=fb.Made1.h
 ci:=fb.Made2.h
 li:=fb.line.h
 ad:=fb.madd.h
 sh:=fb.mshut.h
 po:=fb.pool.h
 jo:=fb.join.h
 at_:=fb.atom.h
 fn:=KN.fn
 es:=fb.size_.2
 ef:=fb.SameForm_.2
 size a h1 h2:=.old rfl (Kb.det (E_size hb fb _ a (Nat.le_refl _) (by omega) (by omega)) (I_size a) fun r h=>h.size rfl a rfl)
 same a c h1 h2:=.old rfl (Kb.det (E_sf hb fb st _ a c (Nat.le_refl _) (by omega) (by omega)) (I_sf a c) fun r h=>h.sf rfl a c rfl)
include fx fh gh hrl hla
theorem fitchNeeds_E(st:Kn P b n_SameTerms [.nilsl,.nilsl] (.b true))(log:Kn P b n_logics [] (.tu [.ag lc,.ag jc]))(aw:Kn P b n_awake18 [] (.b true))(l5:lc.length=5∧jc.length=5)(hsn:∀σ,snapshot σ (b.fz+1000) (.ag lc)=some (.ag (lgC nm rl)))(hf:b.funcs.get n_FitchNeeds=some c3){cV:AV}{code:List Nat}(hv:∀τ,Vw τ none cV (code.map uB))(hc1:cV.cells=[cV]∧cV.val=true)(hlen:code.length<2^62)(hcb:∀x∈code,x<256):Kn P b n_FitchNeeds [cV] (.b true):=fun B0=>
 entryK hb KN.ok _ hf rfl rfl rfl rfl (eb _).1 (eb _).2 (FitchNeeds_go (K:=KN P b (.tu [.ag lc,.ag jc])) ⟨mdN hb fb st,fb.Made.h,fb.fl_ rfl,.old rfl (Kb.det log I_log fun r h=>h.log rfl),l5,hsn,fb.fl_ rfl,.old rfl (Kb.det aw (I_tru (by decide)) fun r h=>h.tru (by decide)),fb.fNeeds_.2,fx.2,fh.Follows_.2,fb.SameInts.h⟩ hv hc1 hlen hcb (fun L fr fi h hL hne=>by
  have g:=h.gT (by omega) hne
  have hLp:=List.length_pos_iff.2 hne
  have hxl:L[L.length-1]? =some (L[L.length-1]'(by omega)):=List.getElem?_eq_getElem (by omega)
  have hlow:∀n,1≤n→n≤L.length→(fAt L n).low:=fun n h1 h2=>by
   rw[fAt_eq (List.getElem?_eq_getElem (show n-1<L.length by omega))]
   exact h.low (by omega) (List.getElem_mem _)
  have hnl:=Nd_len L L.length
  have hns:=(Rd.nds (L:=L) (i:=L.length-1)).1
  refine⟨KN.det rfl (g.e_nds hb fb) (IN_nds _) fun r hr=>hr.nds rfl _ rfl,KN.det rfl (g.e_bxs hb fb fx) (IN_bxs _) fun r hr=>hr.bxs rfl _ rfl,KN.det rfl (E_follows hb fh gh hrl hla (by rw[List.length_map];omega) (fun a ha=>?_) fun p q v hv _ hX=>?_) IN_fol fun r hr=>hr.fol rfl⟩
  ·rcases List.mem_append.1 ha with ha|ha
   ·obtain⟨n,hn,rfl⟩:=List.mem_map.1 ha
    have:=hns n hn
    exact hlow n this.1 this.2
   ·rw[List.mem_singleton.1 ha]
    exact hlow _ hLp (Nat.le_refl _)
  ·rw[fAt_eq hxl]
   exact h.fol (by omega) hLp hxl p q v hv hX) _ rfl) B0
end
end
end Go.Lyc
end
