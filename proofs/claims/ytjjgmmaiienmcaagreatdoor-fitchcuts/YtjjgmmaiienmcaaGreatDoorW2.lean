/-
  What functions of the program compute: walks, part 2. No conditions: definitions and laws.
-/
import Derived.Test.YtjjgmmaiienmcaaGreatDoorW1
import Derived.SizedLaws
set_option linter.all false
noncomputable section
namespace Go.Lyc
set_option maxHeartbeats 0
set_option maxRecDepth 100000
section
variable [Tok][TokOk]
open Go.RowKit Go.Lyc.T
def lst(T:List Ln)(d:Nat):Nat→Nat
 |0=>0
 |i+1=>match T[i]? with
  |some x=>if x.dp-x.op<d∧d≤x.dp then i+1 else lst T d i
  |none=>lst T d i
theorem lst_succ{T:List Ln}{d i:Nat}(h:i<T.length):lst T d (i+1)=if(T[i]).dp-(T[i]).op<d∧d≤(T[i]).dp then i+1 else lst T d i:=by
 rw[lst,List.getElem?_eq_getElem h]
theorem arF_lst{T:List Ln}{a:Nat}:∀ {m k f:Nat},1≤k→k-1+m≤T.length→f=lst T a (k-1)→arF T a m k f=lst T a (k-1+m)
 |0,k,f,_,_,h=>h
 |m+1,k,f,h1,h2,h=>by
  have hk:k-1<T.length:=by omega
  have e:=lst_succ (d:=a) hk
  rw[show k-1+1=k by omega] at e
  rw[arF,List.getElem?_eq_getElem hk]
  show arF T a m (k+1) (if(T[k-1]).dp-(T[k-1]).op<a∧a≤(T[k-1]).dp then k else f)=_
  rw[arF_lst (m:=m) (k:=k+1) (by omega) (by omega) (by rw[show k+1-1=k by omega,e,h])]
  congr 1;omega
structure GdU(T:List Ln):Prop where
 shp:Shp T
 dm:Dm T (boxL T)
 cok:∀k x,1≤k→T[k-1]? =some x→Cok k x.cs
 ne:T≠[]
section
variable {T:List Ln}(g:GdU T)
include g
theorem GdU.len{i:Nat}(h:i<T.length):(stF T (i+1)).length=(T[i]).dp:=by
 rw[g.shp.len i h,List.getElem?_eq_getElem h];rfl
theorem GdU.st{i d:Nat}(h:i<T.length):(stF T (i+1))[d]? =if d<(T[i]).dp-(T[i]).op then(stF T i)[d]? else if d<(T[i]).dp then some (i+1) else none:=by
 have h1:=g.shp.go i h
 have h2:=(g.shp.num _ (List.getElem_mem h)).2
 rw[stF_succ h]
 unfold stkF
 rw[List.getElem?_append,List.length_take,Nat.min_eq_left h1]
 split
 ·rw[List.getElem?_take,if_pos (by omega)]
 ·rw[List.getElem?_replicate]
  split
  ·rw[if_pos (by omega)]
  ·rw[if_neg (by omega)]
theorem GdU.lst:∀ {i d v:Nat},i≤T.length→(stF T i)[d]? =some v→v=lst T (d+1) i
 |0,d,v,_,h=>by simp[stF] at h
 |i+1,d,v,hi,h=>by
  have hl:i<T.length:=by omega
  rw[g.st hl] at h
  rw[lst_succ hl]
  split at h
  ·rw[if_neg (by omega)]
   exact GdU.lst (i:=i) (by omega) h
  ·split at h
   ·rw[if_pos (by omega)];exact(Option.some.inj h).symm
   ·cases h
theorem GdU.around{n:Nat}(h1:1≤n)(hn:n≤T.length):aroundR T n=stF T n:=by
 obtain⟨i,rfl⟩:∃i,n=i+1:=⟨n-1,by omega⟩
 have hl:i<T.length:=by omega
 have hd:(T[i+1-1]?.map (·.dp)).getD 0=(T[i]).dp:=by rw[Nat.add_sub_cancel,List.getElem?_eq_getElem hl];rfl
 unfold aroundR
 rw[hd]
 apply List.ext_getElem
 ·rw[List.length_map,List.length_range',g.len hl]
 ·intro d h2 h3
  rw[List.getElem_map,List.getElem_range']
  have:=g.lst (i:=i+1) (d:=d) hn (List.getElem?_eq_getElem h3)
  rw[this]
  show arF T (1+1*d) (i+1) 1 0=_
  have:=arF_lst (T:=T) (a:=1+1*d) (m:=i+1) (k:=1) (f:=0) (Nat.le_refl _) (by omega) rfl
  rw[this]
  congr 1<;>omega
end
theorem endFr_spec{T:List Ln}{d:Nat}:∀ {m n:Nat},n+m=T.length→n≤endFr T d m n∧endFr T d m n≤T.length∧(∀k (hk:k<T.length),n≤k→k<endFr T d m n→d+(T[k]).op≤(T[k]).dp)∧∀(hk:endFr T d m n<T.length),¬d+(T[endFr T d m n]).op≤(T[endFr T d m n]).dp
 |0,n,h=>by
  show n≤n∧n≤T.length∧(∀k (hk:k<T.length),n≤k→k<n→_)∧∀(hk:n<T.length),_
  exact⟨Nat.le_refl _,by omega,fun k hk h1 h2=>by omega,fun hk=>by omega⟩
 |m+1,n,h=>by
  have hl:n<T.length:=by omega
  have e:endFr T d (m+1) n=if d+(T[n]).op≤(T[n]).dp then endFr T d m (n+1) else n:=by rw[endFr,List.getElem?_eq_getElem hl]
  by_cases hc:d+(T[n]).op≤(T[n]).dp
  ·rw[if_pos hc] at e
   obtain⟨a1,a2,a3,a4⟩:=endFr_spec (T:=T) (d:=d) (m:=m) (n:=n+1) (by omega)
   simp only[e]
   refine⟨by omega,a2,fun k hk h1 h2=>?_,a4⟩
   by_cases hkn:k=n
   ·subst hkn;exact hc
   ·exact a3 k hk (by omega) h2
  ·rw[if_neg hc] at e
   simp only[e]
   exact⟨Nat.le_refl _,by omega,fun k hk h1 h2=>by omega,fun _=>hc⟩
section
variable {T:List Ln}(g:GdU T)
include g
theorem GdU.box{a d:Nat}(ha:1≤a)(hal:a≤T.length)(hd:1≤d)(hs:(stF T a)[d-1]? =some a):∀ {k:Nat},a≤k→k≤T.length→((stF T k)[d-1]? =some a↔k≤endLr T a d):=by
 obtain⟨e1,e2,e3,e4⟩:=endFr_spec (T:=T) (d:=d) (m:=T.length-a) (n:=a) (by omega)
 have up:∀ {k:Nat},a≤k→k≤endLr T a d→(stF T k)[d-1]? =some a:=by
  intro k hk
  induction k with
  |zero=>omega
  |succ k ih=>
   intro hke
   by_cases hka:a=k+1
   ·rw[←hka];exact hs
   ·have hle:k<endLr T a d:=hke
    have hl:k<T.length:=Nat.lt_of_lt_of_le hle e2
    have:=e3 k hl (by omega) hle
    rw[g.st hl,if_pos (by omega)]
    exact ih (by omega) (by omega)
 have dn:∀ {k v:Nat},endLr T a d<k→k≤T.length→(stF T k)[d-1]? =some v→endLr T a d<v:=by
  intro k
  induction k with
  |zero=>intro v h;omega
  |succ k ih=>
   intro v hk hkl hv
   have hl:k<T.length:=by omega
   rw[g.st hl] at hv
   split at hv
   ·next hlt=>
    by_cases hke:k=endLr T a d
    ·have h4:∀(j:Nat) (hj:j<T.length),j=endLr T a d→¬d+(T[j]).op≤(T[j]).dp:=fun j hj e=>by subst e;exact e4 hj
     exact absurd (by omega) (h4 k hl hke)
    ·exact ih (by omega) (by omega) hv
   ·split at hv
    ·cases hv;exact hk
    ·cases hv
 intro k hk hkl
 constructor
 ·intro h
  apply Classical.byContradiction
  intro hn
  have:=dn (by omega) hkl h
  have:a≤endLr T a d:=e1
  omega
 ·exact up hk
theorem GdU.begins{a d:Nat}(ha:1≤a)(hal:a≤T.length)(hd:1≤d):(stF T a)[d-1]? =some a↔(T[a-1]).dp-(T[a-1]).op<d∧d≤(T[a-1]).dp:=by
 obtain⟨i,rfl⟩:∃i,a=i+1:=⟨a-1,by omega⟩
 have hl:i<T.length:=by omega
 rw[g.st hl]
 show _↔(T[i]).dp-(T[i]).op<d∧d≤(T[i]).dp
 constructor
 ·intro h
  split at h
  ·have:=st_le (T:=T) (i:=i) (i+1) (List.mem_of_getElem? h);omega
  ·split at h
   ·omega
   ·cases h
 ·rintro⟨h1,h2⟩
  rw[if_neg (by omega),if_pos (by omega)]
theorem boxL_at{k:Nat}(h1:1≤k)(hk:k≤T.length):(boxL T).getD (k-1) []=stF T k:=by
 unfold boxL
 rw[List.getD_eq_getElem?_getD,List.getElem?_map,List.getElem?_range (by omega)]
 show stF T (k-1+1)=_
 rw[Nat.sub_add_cancel h1]
theorem GdU.isBox{c:Nat×Nat}{n:Nat}(h1:1≤c.1)(h2:c.1≤c.2)(h3:c.2<n)(hn:n≤T.length):canBoxR T c n=isBoxB T (boxL T) n c.1 c.2:=by
 obtain⟨a,c⟩:=c
 simp only[] at h1 h2 h3
 have ea:T[a-1]? =some (T[a-1]'(by omega)):=List.getElem?_eq_getElem (by omega)
 have ec:T[c-1]? =some (T[c-1]'(by omega)):=List.getElem?_eq_getElem (by omega)
 have en:T[n-1]? =some (T[n-1]'(by omega)):=List.getElem?_eq_getElem (by omega)
 have la:(stF T a).length=(T[a-1]'(by omega)).dp:=by have:=g.len (i:=a-1) (by omega);rwa[show a-1+1=a by omega] at this
 have ln:(stF T n).length=(T[n-1]'(by omega)).dp:=by have:=g.len (i:=n-1) (by omega);rwa[show n-1+1=n by omega] at this
 have hb:=g.begins (a:=a) (d:=(T[n-1]'(by omega)).dp+1) h1 (by omega) (by omega)
 have hbx:=g.box (a:=a) (d:=(T[n-1]'(by omega)).dp+1) h1 (by omega) (by omega)
 unfold canBoxR isBoxB startsB
 simp only[ea,ec,en,g.around h1 (by omega),g.around (n:=n) (by omega) hn]
 rw[dpL_eq (by omega) hn,dpL_eq (by omega) (by omega),boxL_at g h1 (by omega),boxL_at g (by omega) hn,boxL_at g (k:=c) (by omega) (by omega),boxL_at g (k:=c+1) (by omega) (by omega)]
 generalize T[a-1]'(by omega)=x at *
 generalize T[c-1]'(by omega)=y at *
 generalize T[n-1]'(by omega)=z at *
 rw[Bool.eq_iff_iff]
 simp only[Bool.and_eq_true,Bool.not_eq_true',Bool.or_eq_false_iff,decide_eq_false_iff_not,decide_eq_true_eq,List.all_eq_true,List.mem_range,beq_iff_eq,Nat.add_sub_cancel] at *
 have htk:(List.take z.dp (stF T a)=stF T n)↔∀i,i<z.dp→(stF T a)[i]? =(stF T n)[i]? :=by
  constructor
  ·intro e i hi
   rw[←e,List.getElem?_take,if_pos hi]
  ·intro e
   apply List.ext_getElem?
   intro i
   rw[List.getElem?_take]
   split
   ·next h=>exact e i h
   ·rw[List.getElem?_eq_none (by omega)]
 rw[htk]
 constructor
 ·rintro⟨⟨⟨⟨⟨p1,p2⟩,p3⟩,p4⟩,p5⟩,p6⟩
  have hy:y.dp=z.dp+1:=by omega
  have p4:endLr T a (z.dp+1)=c:=by rw[←hy];exact Classical.not_not.1 p4
  have hs:=hb.2 ⟨by omega,by omega⟩
  refine⟨hs,p6,hy,(hbx hs h2 (by omega)).2 (by omega),fun h=>?_⟩
  have:=(hbx hs (k:=c+1) (by omega) (by omega)).1 h
  omega
 ·rintro⟨hs,p6,hy,p7,p8⟩
  have hs2:=hb.1 hs
  have q1:=(hbx hs h2 (by omega)).1 p7
  have q2:¬c+1≤endLr T a (z.dp+1):=fun h=>p8 ((hbx hs (k:=c+1) (by omega) (by omega)).2 h)
  refine⟨⟨⟨⟨⟨by omega,by omega⟩,by omega⟩,Classical.not_not.2 ?_⟩,by omega⟩,p6⟩
  rw[hy];omega
theorem GdU.hyps{a d:Nat}(h1:1≤a)(hal:a≤T.length):hypsR T a d=asmL T a d:=by
 obtain⟨e1,e2,e3,e4⟩:=endFr_spec (T:=T) (d:=d) (m:=T.length-a) (n:=a) (by omega)
 have key:∀m n,a≤n→n≤endLr T a d+1→n-1+m=T.length→hyF T (endLr T a d) d m n=asmF T a d m n:=by
  intro m
  induction m with
  |zero=>intro n _ _ _;rfl
  |succ m ih=>
   intro n hn1 hn2 hn3
   have hl:n-1<T.length:=by omega
   rw[hyF,asmF_succ,List.getElem?_eq_getElem hl]
   show(if n≤endLr T a d∧(T[n-1]).hyp=true∧(T[n-1]).dp=d then _ else _)=if(T[n-1]).hyp=true∧(T[n-1]).dp=d∧¬(a<n∧0<(T[n-1]).op) then _ else _
   have hiff:(n≤endLr T a d∧(T[n-1]).hyp=true∧(T[n-1]).dp=d)↔((T[n-1]).hyp=true∧(T[n-1]).dp=d∧¬(a<n∧0<(T[n-1]).op)):=by
    constructor
    ·rintro⟨p1,p2,p3⟩
     refine⟨p2,p3,fun⟨q1,q2⟩=>?_⟩
     have:=e3 (n-1) hl (by omega) (by show n-1<endLr T a d;omega)
     omega
    ·rintro⟨p1,p2,p3⟩
     refine⟨?_,p1,p2⟩
     apply Classical.byContradiction
     intro hne
     have hne:n=endLr T a d+1:=by omega
     have h4:∀(j:Nat) (hj:j<T.length),j=endLr T a d→¬d+(T[j]).op≤(T[j]).dp:=fun j hj e=>by subst e;exact e4 hj
     have h5:=h4 (n-1) hl (by omega)
     have h6:a≤endLr T a d:=e1
     exact p3 ⟨by omega,by omega⟩
   by_cases hc:n≤endLr T a d∧(T[n-1]).hyp=true∧(T[n-1]).dp=d
   ·rw[if_pos hc,if_pos (hiff.1 hc),ih (n+1) (by omega) (by omega) (by omega)]
   ·rw[if_neg hc,if_neg fun h=>hc (hiff.2 h)]
 have h6:a≤endLr T a d:=e1
 exact key _ a (Nat.le_refl _) (by omega) (by omega)
theorem hyF_mem{e d:Nat}:∀ {m n k:Nat},k∈hyF T e d m n→n≤k∧k≤e
 |0,_,_,h=>by simp[hyF] at h
 |m+1,n,k,h=>by
  rw[hyF] at h
  split at h
  ·split at h
   ·next hc=>
    rcases List.mem_cons.1 h with rfl|h
    ·exact⟨Nat.le_refl _,hc.1⟩
    ·have:=hyF_mem h;omega
   ·cases h
  ·cases h
end
theorem flatMap_same{α β:Type}{f f':α→List β}:∀ {l:List α},(∀x∈l,f x=f' x)→l.flatMap f=l.flatMap f'
 |[],_=>rfl
 |x::l,h=>by rw[List.flatMap_cons,List.flatMap_cons,h x (by simp),flatMap_same fun y hy=>h y (List.mem_cons_of_mem _ hy)]
def citM(T:List Ln)(k:Nat)(ac:Nat×Nat):List Nat:=cond (isBoxB T (boxL T) k ac.1 ac.2) (ac.2::ac.1::asmL T ac.1 (dpL T k+1)) [ac.2]
def mrk(T:List Ln)(k:Nat)(x:Ln):List Nat:=stF T k++x.cs.flatMap (citM T k)
abbrev inS(S:List Bool)(n:Nat):Prop:=1≤n∧S[n-1]? =some true
section
variable {T:List Ln}{S:List Bool}
theorem mk1_up{i n:Nat}(h:S[i]? =some true):(mk1 S n)[i]? =some true:=by
 obtain⟨hi,_⟩:=List.getElem?_eq_some_iff.1 h
 unfold mk1
 rw[List.getElem?_set]
 split
 ·rw[if_pos (by omega)]
 ·exact h
theorem mk1_iff{n m:Nat}(hn:1≤n):inS (mk1 S n) m↔inS S m∨(m=n∧n≤S.length):=by
 unfold mk1
 constructor
 ·rintro⟨h1,h⟩
  rw[List.getElem?_set] at h
  by_cases e:n-1=m-1
  ·rw[if_pos e] at h
   split at h
   ·exact .inr ⟨by omega,by omega⟩
   ·cases h
  ·rw[if_neg e] at h;exact .inl ⟨h1,h⟩
 ·rintro(⟨h1,h⟩|⟨rfl,h⟩)
  ·exact⟨h1,mk1_up h⟩
  ·exact⟨hn,by rw[List.getElem?_set,if_pos rfl,if_pos (by omega)]⟩
theorem mks_iff:∀ {l:List Nat} {S:List Bool} {m:Nat},(∀n∈l,1≤n∧n≤S.length)→(inS (l.foldl mk1 S) m↔inS S m∨m∈l)
 |[],S,m,_=>by simp
 |n::l,S,m,h=>by
  have hn:=h n (by simp)
  rw[List.foldl_cons,mks_iff (l:=l) (S:=mk1 S n) fun k hk=>by rw[mk1_len];exact h k (by simp[hk]),mk1_iff hn.1]
  constructor
  ·rintro((h1|⟨h1,_⟩)|h1)
   ·exact .inl h1
   ·exact .inr (by simp[h1])
   ·exact .inr (by simp[h1])
  ·rintro(h1|h1)
   ·exact .inl (.inl h1)
   ·rcases List.mem_cons.1 h1 with h1|h1
    ·exact .inl (.inr ⟨h1,hn.2⟩)
    ·exact .inr h1
theorem citW_eq{k:Nat}{ac:Nat×Nat}:citW T k S ac=(citM T k ac).foldl mk1 S:=by
 unfold citW citM
 cases isBoxB T (boxL T) k ac.1 ac.2<;>rfl
theorem citsW_eq{k:Nat}:∀ {l:List (Nat×Nat)} {S:List Bool},l.foldl (citW T k) S=(l.flatMap (citM T k)).foldl mk1 S
 |[],_=>rfl
 |c::l,S=>by rw[List.foldl_cons,citsW_eq (l:=l),List.flatMap_cons,List.foldl_append,citW_eq]
theorem linW_eq{k:Nat}{x:Ln}(hx:T[k-1]? =some x):linW T k S=cond (S.getD (k-1) false) ((mrk T k x).foldl mk1 S) S:=by
 unfold linW mrk
 rw[hx]
 simp only[]
 rw[citsW_eq,List.foldl_append]
variable (h:GdU T)
include h
theorem GdU.mrkB{k:Nat}{x:Ln}(h1:1≤k)(hx:T[k-1]? =some x):∀n∈mrk T k x,1≤n∧n≤k:=fun n hn=>by
 have hk:=(List.getElem?_eq_some_iff.1 hx).1
 have hc:=h.cok k x h1 hx
 rcases List.mem_append.1 hn with hn|hn
 ·exact st_le (T:=T) (i:=k) n hn
 ·obtain⟨ac,hac,hn⟩:=List.mem_flatMap.1 hn
  have hac:=hc.2 ac hac
  unfold citM at hn
  cases hb:isBoxB T (boxL T) k ac.1 ac.2 with
  |false=>rw[hb,cond_false,List.mem_singleton] at hn;omega
  |true=>
   rw[hb,cond_true] at hn
   rcases List.mem_cons.1 hn with e|hn
   ·omega
   rcases List.mem_cons.1 hn with e|hn
   ·omega
   rw[←h.isBox hac.1 hac.2.1 hac.2.2 (by omega)] at hb
   unfold canBoxR at hb
   rw[List.getElem?_eq_getElem (show ac.2-1<T.length by omega),List.getElem?_eq_getElem (show ac.1-1<T.length by omega),hx] at hb
   simp only[Bool.and_eq_true,Bool.not_eq_true',Bool.or_eq_false_iff,decide_eq_false_iff_not,Classical.not_not] at hb
   obtain⟨⟨⟨⟨⟨p1,p2⟩,p3⟩,p4⟩,p5⟩,_⟩:=hb
   have hd:dpL T k+1=(T[ac.2-1]'(by omega)).dp:=by
    rw[dpL_eq h1 (by omega)]
    have:(T[k-1]'(by omega))=x:=(List.getElem?_eq_some_iff.1 hx).2
    rw[this];omega
   rw[hd,← h.hyps hac.1 (by omega)] at hn
   have:=hyF_mem h hn
   omega
theorem GdU.mkR{k:Nat}{x:Ln}(h1:1≤k)(hx:T[k-1]? =some x):mkR T k=mrk T k x:=by
 have hk:=(List.getElem?_eq_some_iff.1 hx).1
 have hc:=h.cok k x h1 hx
 unfold Lyc.mkR mrk
 rw[h.around h1 (by omega),hx]
 congr 1
 show x.cs.flatMap _=_
 have hm:∀ac∈x.cs,mcR T k ac=citM T k ac:=fun ac hac=>by
  have hac:=hc.2 ac hac
  unfold mcR citM
  rw[h.isBox hac.1 hac.2.1 hac.2.2 (by omega)]
  cases hb:isBoxB T (boxL T) k ac.1 ac.2 with
  |false=>rfl
  |true=>
   have hd:(T[ac.2-1]?.map (·.dp)).getD 0=dpL T k+1:=by
    unfold isBoxB at hb
    simp only[Bool.and_eq_true,decide_eq_true_eq] at hb
    rw[←hb.2.2.1,dpL_eq (by omega) (by omega),List.getElem?_eq_getElem (by omega)];rfl
   rw[hd,h.hyps hac.1 (by omega)]
   rfl
 exact flatMap_same hm
theorem GdU.stp{j m:Nat}(hj:j<T.length){x:Ln}(hx:T[T.length-j-1]? =some x):inS (wanD T (j+1)) m↔inS (wanD T j) m∨(inS (wanD T j) (T.length-j)∧m∈Lyc.mrk T (T.length-j) x):=by
 rw[wanD,linW_eq hx]
 have hm:=h.mrkB (k:=T.length-j) (by omega) hx
 have hl:=wanD_len (T:=T) (j:=j)
 cases hc:(wanD T j).getD (T.length-j-1) false with
 |true=>
  rw[cond_true,mks_iff fun n hn=>by have:=hm n hn;omega]
  have:(wanD T j)[T.length-j-1]? =some true:=by
   rw[List.getD_eq_getElem?_getD] at hc
   cases hg:(wanD T j)[T.length-j-1]? with
   |none=>rw[hg] at hc;cases hc
   |some y=>rw[hg] at hc;exact congrArg some hc
  constructor
  ·rintro(h1|h1)
   ·exact .inl h1
   ·exact .inr ⟨⟨by omega,this⟩,h1⟩
  ·rintro(h1|⟨_,h1⟩)
   ·exact .inl h1
   ·exact .inr h1
 |false=>
  rw[cond_false]
  constructor
  ·exact .inl
  ·rintro(h1|⟨h1,_⟩)
   ·exact h1
   ·rw[List.getD_eq_getElem?_getD,h1.2] at hc;cases hc
theorem GdU.up{m j:Nat}:∀ {d:Nat},j+d≤T.length→inS (wanD T j) m→inS (wanD T (j+d)) m
 |0,_,hm=>hm
 |d+1,hd,hm=>by
  have hx:T[T.length-(j+d)-1]? =some (T[T.length-(j+d)-1]'(by omega)):=List.getElem?_eq_getElem (by omega)
  exact(h.stp (j:=j+d) (by omega) hx).2 (.inl (GdU.up (d:=d) (by omega) hm))
theorem GdU.fin{k:Nat}(h1:1≤k)(hk:k≤T.length):∀ {d:Nat},T.length-k+d≤T.length→inS (wanD T (T.length-k+d)) k→inS (wanD T (T.length-k)) k
 |0,_,hm=>hm
 |d+1,hd,hm=>by
  have hx:T[T.length-(T.length-k+d)-1]? =some (T[T.length-(T.length-k+d)-1]'(by omega)):=List.getElem?_eq_getElem (by omega)
  rcases(h.stp (j:=T.length-k+d) (by omega) hx).1 hm with hm|⟨hm,hmk⟩
  ·exact GdU.fin h1 hk (d:=d) (by omega) hm
  ·have:=h.mrkB (k:=T.length-(T.length-k+d)) (by omega) hx k hmk
   have e:d=0:=by omega
   subst e
   rw[show T.length-(T.length-k+0)=k by omega] at hm
   exact hm
theorem GdU.clos{k:Nat}{x:Ln}(hk:inS (wanL T) k)(hx:T[k-1]? =some x):∀n∈Lyc.mrk T k x,inS (wanL T) n:=fun n hn=>by
 have hkl:=(List.getElem?_eq_some_iff.1 hx).1
 have h1:=hk.1
 have hf:=h.fin h1 (by omega) (d:=k) (by omega) (by rw[show T.length-k+k=T.length by omega];exact hk)
 have hx2:T[T.length-(T.length-k)-1]? =some x:=by rw[show T.length-(T.length-k)=k by omega];exact hx
 have e:T.length-(T.length-k)=k:=by omega
 have:=(h.stp (j:=T.length-k) (m:=n) (by omega) hx2).2 (.inr (by rw[e];exact⟨hf,hn⟩))
 have:=h.up (d:=k-1) (by omega) this
 rw[show T.length-k+1+(k-1)=T.length by omega] at this
 exact this
theorem GdU.why{n:Nat}:∀ {j:Nat},j≤T.length→inS (wanD T j) n→n=T.length∨∃k x,n<k∧inS (wanL T) k∧T[k-1]? =some x∧n∈Lyc.mrk T k x
 |0,_,hn=>by
  rw[wanD,mk1_iff (List.length_pos_iff.2 h.ne)] at hn
  rcases hn with hn|⟨hn,_⟩
  ·have:=hn.2
   rw[List.getElem?_replicate] at this
   split at this<;>cases this
  ·exact .inl hn
 |j+1,hj,hn=>by
  have hx:T[T.length-j-1]? =some (T[T.length-j-1]'(by omega)):=List.getElem?_eq_getElem (by omega)
  by_cases h0:inS (wanD T j) n
  ·exact GdU.why (j:=j) (by omega) h0
  ·rcases(h.stp (j:=j) (by omega) hx).1 hn with hn|⟨hk,hm⟩
   ·exact absurd hn h0
   ·have hle:=h.mrkB (k:=T.length-j) (by omega) hx n hm
    have hne:n≠T.length-j:=fun e=>h0 (by rw[e];exact hk)
    refine .inr ⟨T.length-j,_,by omega,?_,hx,hm⟩
    have:=h.up (d:=T.length-j) (by omega) hk
    rw[show j+(T.length-j)=T.length by omega] at this
    exact this
theorem GdU.rch{n:Nat}:Rch T n↔inS (wanL T) n:=by
 constructor
 ·intro hr
  induction hr with
  |top=>
   have h0:inS (wanD T 0) T.length:=(mk1_iff (List.length_pos_iff.2 h.ne)).2 (.inr ⟨rfl,by rw[List.length_replicate];exact Nat.le_refl _⟩)
   have:=h.up (j:=0) (d:=T.length) (by omega) h0
   rwa[Nat.zero_add] at this
  | @step k m h1 h2 _ hm ih=>
   have hx:T[k-1]? =some (T[k-1]'(by omega)):=List.getElem?_eq_getElem (by omega)
   rw[h.mkR h1 hx] at hm
   exact h.clos ih hx _ hm
 ·have key:∀m n,n+m=T.length→inS (wanL T) n→Rch T n:=by
   intro m
   induction m using Nat.strongRecOn with
   |ind m ih=>
    intro n hn hi
    rcases h.why (j:=T.length) (Nat.le_refl _) hi with rfl|⟨k,x,h1,h2,h3,h4⟩
    ·exact .top
    ·have hk:=(List.getElem?_eq_some_iff.1 h3).1
     have:=ih (T.length-k) (by omega) k (by omega) h2
     rw[←h.mkR h2.1 h3] at h4
     exact .step h2.1 (by omega) this h4
  intro hi
  have hl:n-1<T.length:=by
   have:=(List.getElem?_eq_some_iff.1 hi.2).1
   rwa[show(wanL T).length=T.length from wanD_len] at this
  have:=hi.1
  exact key (T.length-n) n (by omega) hi
theorem GdU.rch0(S:List Bool)(hS:MkS T S)(hC:Cls T S 0):S=false::wanL T:=by
 have hw:(wanL T).length=T.length:=wanD_len
 have hrt:∀n,Rch T n→S[n]? =some true:=by
  intro n hn
  induction hn with
  |top=>exact hS.top
  |step h1 h2 _ hm ih=>exact hC _ (by omega) h2 ih _ hm
 apply List.ext_getElem (by rw[hS.len,List.length_cons,hw])
 intro n h1 h2
 cases n with
 |zero=>
  cases hb:S[0] with
  |false=>rfl
  |true=>
   have:=hS.rch 0 (by rw[List.getElem?_eq_getElem h1,hb])
   have:=(h.rch.1 this).1
   omega
 |succ n=>
  show S[n+1]=(wanL T)[n]'(by simpa using h2)
  have hn:n<(wanL T).length:=by simpa using h2
  rw[Bool.eq_iff_iff]
  constructor
  ·intro hb
   have:=h.rch.1 (hS.rch (n+1) (by rw[List.getElem?_eq_getElem h1,hb]))
   have:=this.2
   rw[Nat.add_sub_cancel,List.getElem?_eq_getElem hn] at this
   exact Option.some.inj this
  ·intro hb
   have:=hrt (n+1) (h.rch.2 ⟨by omega,by rw[Nat.add_sub_cancel,List.getElem?_eq_getElem hn,hb]⟩)
   rw[List.getElem?_eq_getElem h1] at this
   exact Option.some.inj this
end
end
section
variable [Tok][TokOk]
open Go.RowKit Go.Lyc.T
attribute [local irreducible] GoM GoW GoV GoD GoesCall
def RvS(τ:St)(w:AV)(L:List Ln):Prop:=∃ws,Sl τ (some 9) w ws∧ws.length=L.length∧(L=[]→w= .nilsl)∧∀i (h:i<ws.length) (h':i<L.length),∃cv,ws[i]= .ag (rnC L[i] cv)∧Sl τ (some 2) cv (L[i].cs.map prC)∧(L[i].cs=[]→cv= .nilsl)∧∀c,cv.at? =some c→w.at? ≠some c
theorem num_fin{T:List Ln}{i j:Nat}:∀ {d:Nat},j≤i→((cutS T (i+d)).1).getD j 0=((cutS T i).1).getD j 0
 |0,_=>rfl
 |d+1,h=>by
  rw[←num_fin (T:=T) (d:=d) h,show i+(d+1)=i+d+1 from rfl,cutS]
  split
  ·cases(wanL T).getD (i+d) false with
   |true=>
    rw[cond_true]
    show(((cutS T (i+d)).1.set (i+d+1) _).getD j 0)=_
    rw[List.getD_eq_getElem?_getD,List.getElem?_set,if_neg (by omega),← List.getD_eq_getElem?_getD]
   |false=>rfl
  ·rfl
section
variable {b:Base}{K:Nat→List AV→AV→Prop}
theorem rCut_st(hfn:∀g ar r r',K g ar r→K g ar r'→r=r')(hh:Here (b.envK K) n_rCut c_rCut){σ:St}{V:AV}{T:List Ln}(g:GdU T)(hV:RvS σ V T)(hsn:∀τ,Mr σ τ→snapshot τ (b.fz+1000) V=some (rnsA T))
  (eE:b.ext n_rError=0∧b.pure n_rError=true) (kE:K n_rError [rnsA T] (nI 0)) (eN:b.ext n_rNeeded=0∧b.pure n_rNeeded=true) (kN:K n_rNeeded [rnsA T] (slA false none ((false::wanL T).map AV.b)))
  (eC:b.ext n_rCanBox=0∧b.pure n_rCanBox=true) (kC:∀c k,1≤c.1∧c.1≤T.length→1≤c.2∧c.2≤T.length→1≤k→k≤T.length→K n_rCanBox [rnsA T,.ag [nI c.1,nI c.2],nI k] (.b (canBoxR T c k))):
  GoesCall (b.envK K) 0 (.f (.func n_rCut) [] []) [V] σ (fun r τ=>∃w,r= .ok (.tu [w,nI 0])∧RvS τ w (cutL T)∧Mr σ τ):=by
 refine W.codeR hh.e hh.p hh.f rfl rfl rfl fun z=>?_
 have hTl:=g.dm.lt
 have hwl:(wanL T).length=T.length:=wanD_len
 obtain⟨ws,hV,hvl,_,hvi⟩:=hV
 have hsn0:=hsn σ ⟨Nat.le_refl _,fun _ _ h=>h⟩
 cases hV with
 |nil=>exact absurd (List.length_eq_zero_iff.1 hvl.symm) g.ne
 |sl o cap _ rest hgo hcf hk=>
 rw[hvl] at hsn hsn0 ⊢
 generalize hcc:ws.flatMap AV.cells++rest=cc at hgo
 have H:Has σ [(o,cc)]:=Has.nil.cons hgo (by simp)
 refine wk ?_
 refine W.kn hfn eE kE rfl rfl rfl (snaps1 hsn0) ?_
 refine wk ?_
 refine W.kn hfn eN kN rfl rfl rfl (snaps1 hsn0) ?_
 refine wk ?_
 generalize hu:σ.next=u
 refine W.mk H hu (by omega) (by omega) rfl rfl rfl rfl fun τ1 n1 H k1=>?_
 refine wk ?_
 obtain⟨S0,hS0⟩:∃S0,S0=false::wanL T:=⟨_,rfl⟩
 have hl0:S0.length=T.length+1:=by rw[hS0,List.length_cons,hwl]
 have hSg:∀n (h:n<T.length),S0[n+1]'(by omega)=(wanL T)[n]'(by omega):=fun n h=>by subst hS0;rfl
 have hcut:∀n (h:n<T.length),cutS T (n+1)=cond (S0[n+1]'(by omega)) ((cutS T n).1.set (n+1) ((cutS T n).2.length+1),(cutS T n).2++[{T[n] with cs:=cutCs T (n+1) (cutS T n).1 T[n].cs}]) (cutS T n):=fun n h=>by
  rw[cutS,List.getElem?_eq_getElem h,List.getD_eq_getElem?_getD,List.getElem?_eq_getElem (by omega),hSg n h];rfl
 rw[←hS0]
 generalize hnd:slA false none (S0.map AV.b)=nd
 have hix:∀ {n},n<S0.length→idxSlA none nd n=some (.tp false (.b S0[n]!)):=fun {n} h=>by rw[←hnd,slA_idxM h,getElem!_pos S0 n h]
 refine GoF.block (GoF.loop (fun k F τ=>∃n,n+k=T.length∧τ.get u=some (.cells ((cutS T n).1.map nI))∧(∀i o,σ.get i=some o→τ.get i=some o)∧τ.next=u+1∧sat [(0,.sl o 0 T.length (some 9) cap),(5,nd),(6,.sl u 0 (T.length+1) none (some (T.length+1))),(7,nI (cutS T n).2.length),(8,nI (n+1))] F) (fun k F τ hI=>?_) T.length ⟨0,by omega,by show _=some (AO.cells ((List.replicate (T.length+1) 0).map nI));rw[List.map_replicate];exact H.get _ (.head _),k1,n1,rfl,rfl,rfl,rfl,rfl,trivial⟩)
 obtain⟨n,hn,hg,kp,hnx,hs'⟩:=hI
 refine GoF.norm _ hs' fun F=>?_
 clear hs' H
 have hgo1:=kp _ _ hgo
 have huo:u≠o:=by have:=St.get_lt hgo;omega
 have H:Has τ [(u,(cutS T n).1.map nI),(o,cc)]:=(Has.nil.cons hgo1 (by simp)).cons hg (by simp;exact fun e=>huo e.symm)
 have hcl:=cutS_len (T:=T) (i:=n)
 by_cases hnl:n<T.length
 ·obtain⟨m,rfl⟩:∃m,k=m+1:=⟨k-1,by omega⟩
  have hct:=hcut n hnl
  refine wk ?_
  refine W.ix rfl rfl rfl rfl (hix (by omega)) ?_
  rw[getElem!_pos S0 (n+1) (by omega)]
  refine wk ?_
  cases hb:S0[n+1]'(by omega) with
  |false=>
   rw[hb] at hct
   have hct:cutS T (n+1)=cutS T n:=hct
   refine wk ?_
   exact⟨m,by omega,n+1,by omega,by rw[hct];exact hg,kp,hnx,rfl,rfl,rfl,by rw[hct];rfl,rfl,trivial⟩
  |true=>
   rw[hb] at hct
   have hct:cutS T (n+1)=((cutS T n).1.set (n+1) ((cutS T n).2.length+1),(cutS T n).2++[{T[n] with cs:=cutCs T (n+1) (cutS T n).1 T[n].cs}]):=hct
   refine wk ?_
   refine W.ix rfl rfl rfl rfl (idxSlA_sl (by omega)) ?_
   refine W.st H 0 rfl rfl rfl rfl rfl (store_num (by omega)) fun τ2 n2 H k2=>?_
   refine wk ?_
   refine⟨m,by omega,n+1,by omega,by rw[hct];exact H.get _ (.head _),fun i o ho=>k2 _ _ (by have:=St.get_lt ho;omega) (kp _ _ ho),by omega,rfl,rfl,rfl,by rw[hct,List.length_append];rfl,rfl,trivial⟩
 ·refine wk ?_
  refine GoF.exit ?_
  show GoW _ _ _ _ _ _ _ _
  obtain rfl:n=T.length:=by omega
  refine wk ?_
  have hfin:∀n (h:n<T.length),cutCs T (n+1) (cutS T n).1 T[n].cs=cutCs T (n+1) (cutS T T.length).1 T[n].cs:=fun n h=>by
   have hck:=g.cok (n+1) _ (by omega) (List.getElem?_eq_getElem (show n+1-1<T.length by omega))
   simp only[Nat.add_sub_cancel] at hck
   unfold cutCs
   refine List.map_congr_left fun ac hac=>?_
   have h2:=hck.2 ac hac
   have e:∀j,j≤n→((cutS T n).1).getD j 0=((cutS T T.length).1).getD j 0:=fun j hj=>by
    have:=num_fin (T:=T) (i:=n) (j:=j) (d:=T.length-n) hj
    rw[show n+(T.length-n)=T.length by omega] at this
    exact this.symm
   cases isBoxB T (boxL T) (n+1) ac.1 ac.2 with
   |true=>simp only[cond_true];rw[e _ (by omega),e _ (by omega)]
   |false=>simp only[cond_false];rw[e _ (by omega)]
  have hnl':=(cutS_len (T:=T) (i:=T.length)).1
  generalize(cutS T T.length).1=num at hg hfin hnl'
  have hM0:Mr σ τ:=⟨by omega,kp⟩
  refine GoF.block (GoF.loop (fun k F τ=>∃n w,n+k=T.length∧τ.get u=some (.cells (num.map nI))∧Mr σ τ∧u<τ.next∧RvS τ w (cutS T n).2∧(∀c,w.at? =some c→u<c)∧sat [(0,.sl o 0 T.length (some 9) cap),(5,nd),(6,.sl u 0 (T.length+1) none (some (T.length+1))),(9,w),(10,nI (n+1))] F) (fun k F τ hI=>?_) T.length ⟨0,.nilsl,by omega,hg,hM0,by omega,⟨[],.nil,rfl,fun _=>rfl,fun i h=>by simp at h⟩,fun c h=>(by cases h),rfl,rfl,rfl,rfl,rfl,trivial⟩)
  clear hg kp hnx hgo1 H hM0 hcl hnl hn
  obtain⟨n,w,hn,hg,M,hun,hR,hwu,hs'⟩:=hI
  refine GoF.norm _ hs' fun F=>?_
  clear hs'
  have hgo1:=M.2 _ _ hgo
  have H:Has τ [(o,cc)]:=Has.nil.cons hgo1 (by simp)
  by_cases hnl:n<T.length
  ·obtain⟨k,rfl⟩:∃m,k=m+1:=⟨k-1,by omega⟩
   have hct:=hcut n hnl
   rw[hfin n hnl] at hct
   have hcb:=hSg n hnl
   refine wk ?_
   refine W.ix rfl rfl rfl rfl (hix (by omega)) ?_
   rw[getElem!_pos S0 (n+1) (by omega)]
   refine wk ?_
   cases hb:S0[n+1]'(by omega) with
   |false=>
    rw[hb] at hct
    have hct:cutS T (n+1)=cutS T n:=hct
    refine wk ?_
    refine GoF.exit ?_
    show GoW _ _ _ _ _ _ _ _
    refine wk ?_
    exact⟨k,by omega,n+1,w,by omega,hg,M,hun,by rw[hct];exact hR,hwu,rfl,rfl,rfl,rfl,rfl,trivial⟩
   |true=>
    rw[hb] at hct
    have hct:cutS T (n+1)=((cutS T n).1.set (n+1) ((cutS T n).2.length+1),(cutS T n).2++[{T[n] with cs:=cutCs T (n+1) num T[n].cs}]):=hct
    have hck:=g.cok (n+1) _ (by omega) (List.getElem?_eq_getElem (show n+1-1<T.length by omega))
    simp only[Nat.add_sub_cancel] at hck
    obtain⟨cv0,hw0,hcv0,_⟩:=hvi n (by omega) hnl
    obtain⟨rr,t1,t2⟩:=take_at (rest:=rest) hcf n (show n<ws.length by omega)
    rw[hcc,hw0] at t1
    rw[hw0] at t2
    have t8:takeSh none (cc.drop (0+n*shN (some 9)+8))=some cv0:=by
     rw[Nat.zero_add,← List.drop_drop,t1];rfl
    have t9:takeSh (some 9) (cc.drop (0+n*shN (some 9)))=some (.ag (rnC T[n] cv0)):=by
     rw[Nat.zero_add,t1];exact t2
    generalize T[n]=x at hct hck hw0 hcv0 t1 t2 t8 t9
    refine wk ?_
    refine W.ix rfl rfl rfl rfl (idxSlA_sl (by omega)) ?_
    refine W.ld H rfl rfl rfl (.head _) t9 ?_
    generalize hm:τ.next=m
    refine W.vr (k:=m) (c:=rnC x cv0) H hm rfl rfl rfl rfl rfl rfl fun τ2 n2 H k2=>?_
    refine wk ?_
    refine W.st (c':=rnC x .nilsl) H 0 rfl rfl rfl rfl rfl rfl fun τ3 n3 H k3=>?_
    refine wk ?_
    have M3:Mr τ τ3:=⟨by omega,fun i o ho=>k3 _ _ (by have:=St.get_lt ho;omega) (k2 _ _ ho)⟩
    have hxl:=hck.1
    have hcm:(x.cs.map prC).length=x.cs.length:=List.length_map _
    have hmo:m≠o:=by have:=St.get_lt hgo1;omega
    have hmu:m≠u:=by have:=St.get_lt hg;omega
    have hgm:=H.get _ (.head _)
    show GoW _ _ _ _ _ _ _ _
    refine GoF.block (GoF.loop (fun q F τ'=>∃i yv,i+q=x.cs.length∧τ'.get m=some (.cells (rnC x yv))∧Sl τ' (some 2) yv ((cutCs T (n+1) num (x.cs.take i)).map prC)∧(x.cs.take i=[]→yv= .nilsl)∧(∀c,yv.at? =some c→m<c)∧(∀j o,j≠m→τ3.get j=some o→τ'.get j=some o)∧τ3.next≤τ'.next∧sat [(0,.sl o 0 T.length (some 9) cap),(5,nd),(6,.sl u 0 (T.length+1) none (some (T.length+1))),(9,w),(10,nI (n+1)),(11,pt m),(12,nI i)] F) (fun q F τ' hI=>?_) x.cs.length ⟨0,.nilsl,by omega,hgm,.nil,fun _=>rfl,fun c h=>(by cases h),fun _ _ _ h=>h,Nat.le_refl _,rfl,rfl,rfl,rfl,rfl,rfl,rfl,trivial⟩)
    clear hgm H
    obtain⟨i,yv,hi,hgm,hyv,hyn,hym,kp,hnx,hs'⟩:=hI
    refine GoF.norm _ hs' fun F=>?_
    clear hs'
    have hgo2:=kp _ _ hmo.symm (M3.2 _ _ hgo1)
    have hgu2:=kp _ _ hmu.symm (M3.2 _ _ hg)
    have Mσ:Mr σ τ':=⟨by have:=M.1;have:=M3.1;omega,fun i o ho=>kp _ _ (by have:=St.get_lt ho;have:=M.1;omega) (M3.2 _ _ (M.2 _ _ ho))⟩
    have hv:Vw τ' (some 2) cv0 (x.cs.map prC):=(hcv0.keep (τ:=τ') fun i o _=>Mσ.2 i o).vw
    have H:Has τ' [(m,rnC x yv),(u,num.map nI),(o,cc)]:=((Has.nil.cons hgo2 (by simp)).cons hgu2 (by simp;exact fun e=>huo e.symm)).cons hgm (by simp;exact⟨fun e=>hmu e.symm,fun e=>hmo e.symm⟩)
    refine wk ?_
    refine W.ix rfl rfl rfl rfl (idxSlA_sl (by omega)) ?_
    refine wk ?_
    refine W.ld H rfl rfl rfl (.tail _ (.tail _ (.head _))) t8 ?_
    by_cases hic:i<x.cs.length
    ·obtain⟨q,rfl⟩:∃j,q=j+1:=⟨q-1,by omega⟩
     obtain⟨ha,hac,hcn⟩:=hck.2 _ (List.getElem_mem hic)
     have htk:cutCs T (n+1) num (x.cs.take (i+1))=cutCs T (n+1) num (x.cs.take i)++cutCs T (n+1) num [x.cs[i]]:=by unfold cutCs;rw[List.take_succ_eq_append_getElem hic,List.map_append]
     have hne1:x.cs.take (i+1)≠[]:=fun e=>by have:=congrArg List.length e;simp only[List.length_take,List.length_nil] at this;omega
     refine wk ?_
     refine W.ix rfl rfl rfl rfl (idxSlA_sl (by omega)) ?_
     refine wk ?_
     refine W.ld H rfl rfl rfl (.tail _ (.tail _ (.head _))) t8 ?_
     refine wk ?_
     rw[List.getElem_map]
     generalize x.cs[i]=ac at ha hac hcn htk
     obtain⟨a,d⟩:=ac
     simp only[] at ha hac hcn
     generalize hn1:τ'.next=p
     refine W.vr (k:=p) (c:=[nI a,nI d]) H hn1 rfl rfl rfl rfl rfl rfl fun τ4 n4 H k4=>?_
     refine wk ?_
     have hnd1:d<num.length:=by omega
     have hna1:a<num.length:=by omega
     refine W.ix rfl rfl rfl rfl (idxSlA_sl (by omega)) ?_
     refine W.ldw H rfl rfl rfl (.tail _ (.tail _ (.head _))) (take_num hnd1) (eqb1 rfl) ?_
     refine wk ?_
     refine W.ix rfl rfl rfl rfl (idxSlA_sl (by omega)) ?_
     refine W.ldw H rfl rfl rfl (.tail _ (.tail _ (.head _))) (take_num hnd1) (eqb1 rfl) ?_
     refine wk ?_
     refine W.al (k:=p+1) (c:=[nI 0,nI 0]) H n4 rfl rfl rfl fun τ5 n5 H k5=>?_
     refine wk ?_
     refine W.st (c':=[nI (num.getD d 0),nI (num.getD d 0)]) H 0 rfl rfl rfl rfl rfl rfl fun τ6 n6 H k6=>?_
     refine wk ?_
     have k46:∀j o,τ'.get j=some o→τ6.get j=some o:=fun j o ho=>k6 _ _ (by have:=St.get_lt ho;omega) (k5 _ _ (k4 _ _ ho))
     have M6:Mr σ τ6:=⟨by have:=Mσ.1;omega,fun j o ho=>k46 _ _ (Mσ.2 _ _ ho)⟩
     have hbx:=g.isBox (c:=(a,d)) (n:=n+1) ha hac hcn (by omega)
     refine W.kn hfn eC (kC (a,d) (n+1) ⟨ha,by simp only[];omega⟩ ⟨by simp only[];omega,by simp only[];omega⟩ (by omega) (by omega)) rfl rfl rfl (snaps3 (hsn _ M6) rfl rfl) ?_
     rw[hbx]
     simp only[]
     refine W.nil ?_
     have hp6:=H.get _ (.head _)
     have hu6:=k46 _ _ hgu2
     have hup:u≠p+1:=by have:=St.get_lt hgu2;omega
     refine W.cutM (α:=Unit) (fun _=>[(0,.sl o 0 T.length (some 9) cap),(5,nd),(6,.sl u 0 (T.length+1) none (some (T.length+1))),(9,w),(10,nI (n+1)),(11,pt m),(12,nI i),(14,pt (p+1))]) (fun _ τ7=>τ7.get (p+1)=some (.cells [nI (num.getD (cond (isBoxB T (boxL T) (n+1) a d) a d) 0),nI (num.getD d 0)])∧(∀j o,j≠p+1→τ6.get j=some o→τ7.get j=some o)∧τ7.next=τ6.next) ?_ ?_
     ·cases isBoxB T (boxL T) (n+1) a d with
      |true=>
       refine wk ?_
       refine W.ix rfl rfl rfl rfl (idxSlA_sl (by omega)) ?_
       refine W.ld H rfl rfl rfl (.tail _ (.tail _ (.tail _ (.head _)))) (take_num hna1) ?_
       refine wk ?_
       refine W.st (c':=[nI (num.getD a 0),nI (num.getD d 0)]) H 0 rfl rfl rfl rfl rfl rfl fun τ7 n7 H k7=>?_
       refine wk ?_
       exact⟨rfl,(),⟨H.get _ (.head _),fun j o h1 ho=>k7 _ _ h1 ho,n7⟩,rfl,rfl,rfl,rfl,rfl,rfl,rfl,rfl,trivial⟩
      |false=>
       refine wk ?_
       exact⟨rfl,(),⟨hp6,fun j o h1 ho=>ho,rfl⟩,rfl,rfl,rfl,rfl,rfl,rfl,rfl,rfl,trivial⟩
     rintro _ F τ7 ⟨hp7,k7,n7⟩
     clear H
     have hmp:m<p:=by have:=St.get_lt hgm;omega
     have g7:∀j o,j<p→τ'.get j=some o→τ7.get j=some o:=fun j o h1 ho=>k7 _ _ (by omega) (k46 _ _ ho)
     have H:Has τ7 [(p+1,[nI (num.getD (cond (isBoxB T (boxL T) (n+1) a d) a d) 0),nI (num.getD d 0)]),(m,rnC x yv)]:=(Has.nil.cons (g7 _ _ hmp hgm) (by simp)).cons hp7 (by simp;omega)
     generalize hfs:num.getD (cond (isBoxB T (boxL T) (n+1) a d) a d) 0=fs at H hp7
     refine wk ?_
     have hyv7:=hyv.keep (τ:=τ7) fun j o _ ho=>g7 j o (by have:=St.get_lt ho;omega) ho
     have hcl2:((cutCs T (n+1) num (x.cs.take i)).map prC).length=i:=by unfold cutCs;rw[List.length_map,List.length_map,List.length_take];omega
     refine W.pu (c:=[nI fs,nI (num.getD d 0)]) (prC (fs,num.getD d 0)) hyv7 rfl rfl rfl rfl rfl rfl rfl rfl rfl (by rw[hcl2];omega) fun v' τ8 hv8 ha8 _ n8 k8=>?_
     have hm8:=k8 m _ (fun e=>by have:=hym _ e;omega) (H.get _ (.tail _ (.head _)))
     clear H
     have H:Has τ8 [(m,rnC x yv)]:=Has.nil.cons hm8 (by simp)
     refine wk ?_
     refine W.st (c':=rnC x v') H 0 rfl rfl rfl rfl hv8.oneC.2 (by rw[hv8.oneC.1];rfl) fun τ9 n9 H k9=>?_
     refine wk ?_
     have hvl8:=hv8.lt ha8
     refine⟨q,by omega,i+1,v',by omega,H.get _ (.head _),?_,fun e=>absurd e hne1,fun c h=>by rw[ha8] at h;cases h;omega,fun j o h1 ho=>?_,by omega,rfl,rfl,rfl,rfl,rfl,rfl,rfl,trivial⟩
     ·rw[htk,List.map_append]
      refine(show Sl τ8 (some 2) v' _ from ?_).keep fun j o h1 ho=>k9 _ _ (fun e=>by rw[ha8] at h1;cases h1;omega) ho
      rw[←hfs] at hv8
      exact hv8
     ·have h2:=St.get_lt ho
      have h3:=kp _ _ h1 ho
      have h4:=St.get_lt h3
      exact k9 _ _ h1 (k8 _ _ (fun e=>by have:=hym _ e;omega) (g7 _ _ (by omega) h3))
    ·refine wk ?_
     refine GoF.exit ?_
     show GoW _ _ _ _ _ _ _ _
     have hii:i=x.cs.length:=by omega
     subst hii
     rw[List.take_length] at hyv hyn
     refine wk ?_
     obtain⟨kv,hs,hkl,hk0,hke⟩:=hR
     have kk:∀j o,τ.get j=some o→τ'.get j=some o:=fun j o ho=>kp _ _ (by have:=St.get_lt ho;omega) (M3.2 _ _ ho)
     have hwm:∀c,w.at? =some c→c<m:=fun c h=>by have:=hs.lt h;omega
     have hcl3:=(cutS_len (T:=T) (i:=n)).2
     refine W.pu (c:=rnC x yv) (.ag (rnC x yv)) (hs.keep fun j o _ ho=>kk j o ho) rfl rfl rfl rfl rfl rfl rfl rfl rfl (by rw[hkl];omega) fun w' τ8 hv8 ha8 _ n8 k8=>?_
     refine wk ?_
     have hw'l:∀c,w'.at? =some c→τ'.next≤c:=fun c h=>by rw[ha8] at h;cases h;omega
     refine⟨k,by omega,n+1,w',by omega,k8 _ _ (fun e=>by have:=hwu _ e;omega) hgu2,⟨by have:=Mσ.1;omega,fun j o ho=>k8 _ _ (fun e=>by have:=hwu _ e;have:=St.get_lt ho;omega) (Mσ.2 _ _ ho)⟩,by omega,?_,fun c h=>by have:=hw'l c h;omega,rfl,rfl,rfl,rfl,rfl,trivial⟩
     rw[hct]
     refine⟨_,hv8,by rw[List.length_append,List.length_append,hkl];rfl,fun e=>by simp at e,fun j h h'=>?_⟩
     by_cases hj:j<kv.length
     ·rw[List.getElem_append_left hj]
      obtain⟨cv,b1,b2,b3,b4⟩:=hke j hj (by omega)
      refine⟨cv,?_,?_,?_,fun c hc e=>?_⟩
      ·simp only[List.getElem_append_left (show j<(cutS T n).2.length by omega)];exact b1
      ·simp only[List.getElem_append_left (show j<(cutS T n).2.length by omega)]
       exact b2.keep fun j' o h1 ho=>k8 _ _ (fun e=>b4 _ h1 e) (kk _ _ ho)
      ·simp only[List.getElem_append_left (show j<(cutS T n).2.length by omega)];exact b3
      ·have:=hw'l c e;have:=b2.lt hc;omega
     ·have hj2:j=kv.length:=by rw[List.length_append] at h;simp at h;omega
      subst hj2
      rw[List.getElem_append_right (Nat.le_refl _)]
      refine⟨yv,?_,?_,?_,fun c hc e=>?_⟩
      ·simp[hkl]
      ·simp only[hkl,List.getElem_append_right (Nat.le_refl _),Nat.sub_self,List.getElem_singleton]
       exact hyv.keep fun j' o h1 ho=>k8 _ _ (fun e=>by have:=hwm _ e;have:=hym _ h1;omega) ho
      ·simp only[hkl,List.getElem_append_right (Nat.le_refl _),Nat.sub_self,List.getElem_singleton]
       intro e
       exact hyn (by unfold cutCs at e;exact List.map_eq_nil_iff.1 e)
      ·have:=hw'l c e;have:=hyv.lt hc;omega
  ·refine wk ?_
   refine GoF.exit ?_
   show GoW _ _ _ _ _ _ _ _
   obtain rfl:n=T.length:=by omega
   refine wk ?_
   exact GoF.ret ⟨rfl,_,rfl,w,rfl,hR,M⟩
end
theorem bLss{a c:Int}:binop .lss (.i .i64 a) (.i .i64 c)=some (.b (decide (a<c))):=rfl
theorem bGtr{a c:Int}:binop .gtr (.i .i64 a) (.i .i64 c)=some (.b (decide (c<a))):=rfl
theorem bGeq{a c:Int}:binop .geq (.i .i64 a) (.i .i64 c)=some (.b (decide (c≤a))):=rfl
theorem bLssT{a c:Int}(h:a<c):binop .lss (.i .i64 a) (.i .i64 c)=some (.b true):=by rw[bLss,decide_eq_true h]
theorem bLssF{a c:Int}(h:¬a<c):binop .lss (.i .i64 a) (.i .i64 c)=some (.b false):=by rw[bLss,decide_eq_false h]
theorem bGtrT{a c:Int}(h:c<a):binop .gtr (.i .i64 a) (.i .i64 c)=some (.b true):=by rw[bGtr,decide_eq_true h]
theorem bGtrF{a c:Int}(h:¬c<a):binop .gtr (.i .i64 a) (.i .i64 c)=some (.b false):=by rw[bGtr,decide_eq_false h]
theorem bGeqT{a c:Int}(h:c≤a):binop .geq (.i .i64 a) (.i .i64 c)=some (.b true):=by rw[bGeq,decide_eq_true h]
theorem bGeqF{a c:Int}(h:¬c≤a):binop .geq (.i .i64 a) (.i .i64 c)=some (.b false):=by rw[bGeq,decide_eq_false h]
def citG(k:Nat)(c:Int×Int):Bool:=decide (1≤c.1∧c.1≤c.2∧c.2<(k:Int))
def shG(x:LnG)(p:Bool×Nat)(k:Nat):Bool:=
 decide (0≤x.dp∧x.dp≤40∧0≤x.op∧x.op≤x.dp)&&(decide (x.dp-x.op≤p.2)&&cond x.hyp (x.rule.isEmpty&&(x.cs.isEmpty&&(decide (0<x.op)||(p.1&&decide (x.dp=p.2))))) (x.cs.all (citG k)&& !x.rule.isEmpty))
abbrev gX(x:LnG)(f1 f2 f3 f4 cv:AV):List AV:=[.i .i64 x.dp,.i .i64 x.op,.b x.hyp,f1,f2,f3,f4,.s x.rule,cv]
structure ShV(V:AV)(x:LnG)(p:Bool×Nat)(k:Nat):Prop where
 ix:∃f1 f2 f3 f4 cv,idxSlA (some 9) V (k-1)=some (.tp true (.ag (gX x f1 f2 f3 f4 cv)))∧(∀τ,Vw τ (some 2) cv (x.cs.map cgC))∧cv.cells=[cv]∧Go.Lyc.conf none cv=true∧∀j (h:j<x.cs.length),idxSlA (some 2) cv j=some (.tp true (cgC x.cs[j]))
 pr:1<k→∃y1 y3 y4 y5 y6 y7 y8,idxSlA (some 9) V (k-2)=some (.tp true (.ag [nI p.2,y1,.b p.1,y3,y4,y5,y6,y7,y8]))
 p1:k=1→p=(true,0)
 lt:p.2≤40
 cl:x.cs.length<2^20
section
variable {b:Base}{K:Nat→List AV→AV→Prop}
theorem shapedG_go{V:AV}{x:LnG}{p:Bool×Nat}{k:Nat}(hS:ShV V x p k)(h1:1≤k)(hk:k<2^20)(body:ACode)(hb:c_shaped.body=some body):GoF (b.envK K) c_shaped.ntmps body (argF [V,nI k]) ⟨.nil,0⟩ (Done 4 (.b (shG x p k))):=by
 cases hb
 refine W.args fun z=>?_
 have H:Has (⟨.nil,0⟩:St) []:=Has.nil
 obtain⟨f1,f2,f3,f4,cv,hix,hcv,hcc,hcf,_⟩:=hS.ix
 have hp2:=hS.lt
 have hcl:=hS.cl
 refine wk ?_
 refine W.ix rfl rfl rfl rfl hix ?_
 refine wk ?_
 refine W.vr (c:=gX x f1 f2 f3 f4 cv) H rfl rfl rfl rfl rfl rfl rfl fun τ n1 H k1=>?_
 unfold shG
 have bad:¬(0≤x.dp∧x.dp≤40∧0≤x.op∧x.op≤x.dp)→decide (0≤x.dp∧x.dp≤40∧0≤x.op∧x.op≤x.dp)=false:=fun h=>decide_eq_false h
 refine wk ?_
 by_cases hc1:x.dp<0
 ·rw[bad (by omega),Bool.false_and]
  refine W.bin rfl rfl rfl rfl (bLssT hc1) ?_
  refine wk ?_
  exact GoF.ret ⟨rfl,rfl⟩
 refine W.bin rfl rfl rfl rfl (bLssF hc1) ?_
 refine wk ?_
 by_cases hc2:40<x.dp
 ·rw[bad (by omega),Bool.false_and]
  refine W.bin rfl rfl rfl rfl (bGtrT hc2) ?_
  refine wk ?_
  exact GoF.ret ⟨rfl,rfl⟩
 refine W.bin rfl rfl rfl rfl (bGtrF hc2) ?_
 refine wk ?_
 by_cases hc3:x.op<0
 ·rw[bad (by omega),Bool.false_and]
  refine W.bin rfl rfl rfl rfl (bLssT hc3) ?_
  refine wk ?_
  exact GoF.ret ⟨rfl,rfl⟩
 refine W.bin rfl rfl rfl rfl (bLssF hc3) ?_
 refine wk ?_
 by_cases hc4:x.dp<x.op
 ·rw[bad (by omega),Bool.false_and]
  refine W.bin rfl rfl rfl rfl (bGtrT hc4) ?_
  refine wk ?_
  exact GoF.ret ⟨rfl,rfl⟩
 refine W.bin rfl rfl rfl rfl (bGtrF hc4) ?_
 rw[decide_eq_true (show 0≤x.dp∧x.dp≤40∧0≤x.op∧x.op≤x.dp by omega),Bool.true_and]
 obtain⟨xd,xo,xh,xf,xr,xcs⟩:=x
 simp only[LnG.cs] at hc1 hc2 hc3 hc4 hcv hcl bad ⊢
 generalize xcs.getD []=xc at *
 obtain⟨xd,rfl⟩:∃a:Nat,xd=Int.ofNat a:=⟨xd.toNat,by simp;omega⟩
 obtain⟨xo,rfl⟩:∃a:Nat,xo=Int.ofNat a:=⟨xo.toNat,by simp;omega⟩
 obtain⟨pb,pd⟩:=p
 have hxd:xd≤40:=by simp at hc2;omega
 have hxo:xo≤xd:=by simp at hc4;omega
 simp only[] at hp2
 have hpr:=hS.pr
 have hp1:=hS.p1
 simp only[] at hpr hp1
 rw[show decide (Int.ofNat xd-Int.ofNat xo≤(pd:Int))=decide (xd-xo≤pd) from decide_eq_decide.2 (by simp;omega),show decide ((0:Int)<Int.ofNat xo)=decide (0<xo) from decide_eq_decide.2 (by simp),show decide (Int.ofNat xd=(pd:Int))=decide (pd=xd) from decide_eq_decide.2 (by simp;omega)]
 clear bad hc1 hc2 hc3 hc4 hix hS
 refine wk ?_
 refine W.vr (c:=[nI 0,nI 0,.b true,.i .u8 0,.s [],.nilsl,.nilsl,.s [],.nilsl]) H rfl rfl rfl rfl rfl rfl rfl fun τ2 n2 H k2=>?_
 refine W.nil ?_
 refine W.sq ?_
 refine W.cutM (α:=AV×AV×AV×AV×AV×AV×AV) (fun _=>[(0,V),(1,nI k),(5,.p (some (0,0))),(6,.p (some (τ.next,0)))]) (fun c τ'=>Has τ' [(τ.next,[nI pd,c.1,.b pb,c.2.1,c.2.2.1,c.2.2.2.1,c.2.2.2.2.1,c.2.2.2.2.2.1,c.2.2.2.2.2.2]),(0,[nI xd,nI xo,.b xh,f1,f2,f3,f4,.s xr,cv])]) ?_ ?_
 ·by_cases hk1:1<k
  ·obtain⟨y1,y3,y4,y5,y6,y7,y8,hy⟩:=hpr hk1
   refine wk ?_
   refine W.bin rfl rfl rfl rfl (bin_sub (b:=2) (by omega) (by omega)) ?_
   refine W.ix rfl rfl rfl rfl hy ?_
   refine wk ?_
   refine W.st (c':=[nI pd,y1,.b pb,y3,y4,y5,y6,y7,y8]) H 0 rfl rfl rfl rfl rfl rfl fun τ3 n3 H k3=>?_
   refine wk ?_
   exact⟨rfl,(y1,y3,y4,y5,y6,y7,y8),H,rfl,rfl,rfl,rfl,trivial⟩
  ·have e:=hp1 (by omega)
   injection e with e1 e2
   subst e1 e2
   refine wk ?_
   exact⟨rfl,(nI 0,.i .u8 0,.s [],.nilsl,.nilsl,.s [],.nilsl),H,rfl,rfl,rfl,rfl,trivial⟩
 ·rintro⟨y1,y3,y4,y5,y6,y7,y8⟩ g τ3 H
  simp only[] at H
  have hv:=hcv τ3
  have hxl:(xc.map cgC).length=xc.length:=List.length_map _
  have sb:∀l:List Nat,binop .eql (.s l) (.s [])=some (.b l.isEmpty):=fun l=>by cases l<;>rfl
  have sn:∀l:List Nat,binop .neq (.s l) (.s [])=some (.b (!l.isEmpty)):=fun l=>by cases l<;>rfl
  refine wk ?_
  by_cases hc3:xd-xo≤pd
  ·rw[decide_eq_true hc3,Bool.true_and]
   refine wk ?_
   cases xh with
   |true=>
    rw[cond_true]
    refine W.ct1 rfl ?_
    refine GoF.cut [(5,.p (some (0,0))),(7,.b (pb&&decide (pd=xd)))] ?_ fun g=>?_
    ·cases pb with
     |true=>
      refine wk ?_
      refine W.cm rfl rfl rfl rfl rfl ?_
      refine wk ?_
      exact⟨rfl,rfl,rfl,by rw[Bool.true_and];rfl,trivial⟩
     |false=>
      refine wk ?_
      exact⟨rfl,rfl,rfl,rfl,trivial⟩
    ·refine wk ?_
     refine W.bin rfl rfl rfl rfl (sb xr) ?_
     cases xr with
     |cons c t=>
      refine wk ?_
      exact GoF.ret ⟨rfl,rfl⟩
     |nil=>
      refine wk ?_
      cases xc with
      |cons c t=>
       simp only[List.length_cons] at hxl
       refine wk ?_
       exact GoF.ret ⟨rfl,rfl⟩
      |nil=>
       by_cases h0:0<xo
       ·rw[decide_eq_true h0]
        refine wk ?_
        exact GoF.ret ⟨rfl,rfl⟩
       ·rw[decide_eq_false h0]
        refine wk ?_
        exact GoF.ret ⟨rfl,rfl⟩
   |false=>
    rw[cond_false]
    refine W.ct0 rfl ?_
    refine wk ?_
    rw[hxl]
    refine wk ?_
    refine GoF.each xc.length (fun j f τ'=>τ'.next=τ'.next∧(xc.take j).all (citG k)=true∧Has τ' [(0,[nI xd,nI xo,.b false,f1,f2,f3,f4,.s xr,cv])]∧sat [(1,nI k),(5,.p (some (0,0))),(80,cv)] f) (by omega) ⟨rfl,rfl,⟨fun p hp=>H.get p (.tail _ hp),H.dis.tail⟩,rfl,rfl,rfl,trivial⟩ rfl rfl (fun j g τ' hj hI hi hm=>?_) (fun g τ' hI hi=>?_)
    ·obtain⟨_,hall,H,g1,g5,g80,_⟩:=hI
     refine GoF.norm [(1,nI k),(5,.p (some (0,0))),(80,cv),(82,nI j),(81,nI xc.length)] ⟨g1,g5,g80,hi,hm,trivial⟩ fun g=>?_
     have hv:=hcv τ'
     refine wk ?_
     rw[List.getElem_map]
     generalize hcj:xc[j]=ac
     obtain⟨a,c⟩:=ac
     refine W.vr (c:=[.i .i64 a,.i .i64 c]) H rfl rfl rfl rfl rfl rfl rfl fun τ4 n4 H k4=>?_
     have out:citG k (a,c)=false→(xc.all (citG k)&& !xr.isEmpty)=false:=fun h=>by
      have:xc.all (citG k)=false:=List.all_eq_false.2 ⟨xc[j],List.getElem_mem hj,by rw[hcj,h];simp⟩
      rw[this];rfl
     refine wk ?_
     by_cases ha:a<1
     ·rw[out (decide_eq_false fun h=>by have:=h.1;simp only[] at this;omega)]
      refine W.bin rfl rfl rfl rfl (bLssT ha) ?_
      refine wk ?_
      exact GoF.ret ⟨rfl,rfl⟩
     refine W.bin rfl rfl rfl rfl (bLssF ha) ?_
     refine wk ?_
     by_cases hac:c<a
     ·rw[out (decide_eq_false fun h=>by have:=h.2.1;simp only[] at this;omega)]
      refine W.bin rfl rfl rfl rfl (bGtrT hac) ?_
      refine wk ?_
      exact GoF.ret ⟨rfl,rfl⟩
     refine W.bin rfl rfl rfl rfl (bGtrF hac) ?_
     refine wk ?_
     by_cases hck:(k:Int)≤c
     ·rw[out (decide_eq_false fun h=>by have:=h.2.2;simp only[] at this;omega)]
      refine W.bin rfl rfl rfl rfl (bGeqT hck) ?_
      refine wk ?_
      exact GoF.ret ⟨rfl,rfl⟩
     refine W.bin rfl rfl rfl rfl (bGeqF hck) ?_
     refine wk ?_
     refine⟨rfl,rfl,rfl,?_,⟨fun p hp=>H.get p (.tail _ hp),H.dis.tail⟩,rfl,rfl,rfl,trivial⟩
     rw[List.take_succ_eq_append_getElem hj,List.all_append,hall,hcj]
     have:citG k (a,c)=true:=decide_eq_true (by simp only[];omega)
     simp[this]
    ·obtain⟨_,hall,H,g1,g5,g80,_⟩:=hI
     refine GoF.norm [(5,.p (some (0,0)))] ⟨g5,trivial⟩ fun g=>?_
     rw[List.take_length] at hall
     rw[hall,Bool.true_and]
     refine wk ?_
     refine W.bin rfl rfl rfl rfl (sn xr) ?_
     refine wk ?_
     exact GoF.ret ⟨rfl,rfl⟩
  ·rw[decide_eq_false hc3,Bool.false_and]
   refine wk ?_
   exact GoF.ret ⟨rfl,rfl⟩
end
section
variable {b:Base}{K:Nat→List AV→AV→Prop}
def rsB:ACode:=match c_rShaped.body with|some c=>c|none=>.skip
theorem rShaped_go{V:AV}{x:LnG}{p:Bool×Nat}{k:Nat}(hS:ShV V x p k)(h1:1≤k)(hk:k<2^20)(body:ACode)(hb:c_rShaped.body=some body):GoF (b.envK K) c_rShaped.ntmps body (argF [V,nI k]) ⟨.nil,0⟩ (Done 4 (.b (shG x p k))):=by
 cases hb
 refine W.args fun z=>?_
 have H:Has (⟨.nil,0⟩:St) []:=Has.nil
 obtain⟨f1,f2,f3,f4,cv,hix,hcv,hcc,hcf,hcx⟩:=hS.ix
 have hp2:=hS.lt
 have hcl:=hS.cl
 refine wk ?_
 refine W.ix rfl rfl rfl rfl hix ?_
 refine wk ?_
 refine W.vr (c:=gX x f1 f2 f3 f4 cv) H rfl rfl rfl rfl rfl rfl rfl fun τ n1 H k1=>?_
 unfold shG
 have bad:¬(0≤x.dp∧x.dp≤40∧0≤x.op∧x.op≤x.dp)→decide (0≤x.dp∧x.dp≤40∧0≤x.op∧x.op≤x.dp)=false:=fun h=>decide_eq_false h
 refine wk ?_
 by_cases hc1:x.dp<0
 ·rw[bad (by omega),Bool.false_and]
  refine W.bin rfl rfl rfl rfl (bLssT hc1) ?_
  refine wk ?_
  exact GoF.ret ⟨rfl,rfl⟩
 refine W.bin rfl rfl rfl rfl (bLssF hc1) ?_
 refine wk ?_
 by_cases hc2:40<x.dp
 ·rw[bad (by omega),Bool.false_and]
  refine W.bin rfl rfl rfl rfl (bGtrT hc2) ?_
  refine wk ?_
  exact GoF.ret ⟨rfl,rfl⟩
 refine W.bin rfl rfl rfl rfl (bGtrF hc2) ?_
 refine wk ?_
 refine W.cm rfl rfl rfl rfl rfl ?_
 refine W.nil ?_
 refine W.cutM (α:=Unit) (fun _=>[(0,V),(1,nI k),(5,.p (some (0,0))),(6,nI p.2)]) (fun _ τ'=>τ'=τ) ?_ ?_
 ·by_cases hk1:1<k
  ·obtain⟨y1,y3,y4,y5,y6,y7,y8,hy⟩:=hS.pr hk1
   rw[decide_eq_true hk1]
   refine wk ?_
   refine W.bin rfl rfl rfl rfl (bin_sub (b:=2) (by omega) (by omega)) ?_
   refine W.ix rfl rfl rfl rfl hy ?_
   refine wk ?_
   exact⟨rfl,(),rfl,rfl,rfl,rfl,rfl,trivial⟩
  ·have e:=hS.p1 (by omega)
   rw[e,decide_eq_false hk1]
   refine wk ?_
   exact⟨rfl,(),rfl,rfl,rfl,rfl,rfl,trivial⟩
 rintro _ g τ' rfl
 refine wk ?_
 by_cases hc3:x.op<0
 ·rw[bad (by omega),Bool.false_and]
  refine W.bin rfl rfl rfl rfl (bLssT hc3) ?_
  refine wk ?_
  exact GoF.ret ⟨rfl,rfl⟩
 refine W.bin rfl rfl rfl rfl (bLssF hc3) ?_
 refine wk ?_
 by_cases hc4:x.dp<x.op
 ·rw[bad (by omega),Bool.false_and]
  refine W.bin rfl rfl rfl rfl (bGtrT hc4) ?_
  refine wk ?_
  exact GoF.ret ⟨rfl,rfl⟩
 refine W.bin rfl rfl rfl rfl (bGtrF hc4) ?_
 rw[decide_eq_true (show 0≤x.dp∧x.dp≤40∧0≤x.op∧x.op≤x.dp by omega),Bool.true_and]
 obtain⟨xd,xo,xh,xf,xr,xcs⟩:=x
 simp only[LnG.cs] at hc1 hc2 hc3 hc4 hcv hcl hcx bad ⊢
 generalize xcs.getD []=xc at *
 obtain⟨xd,rfl⟩:∃a:Nat,xd=Int.ofNat a:=⟨xd.toNat,by simp;omega⟩
 obtain⟨xo,rfl⟩:∃a:Nat,xo=Int.ofNat a:=⟨xo.toNat,by simp;omega⟩
 obtain⟨pb,pd⟩:=p
 have hxd:xd≤40:=by simp at hc2;omega
 have hxo:xo≤xd:=by simp at hc4;omega
 simp only[] at hp2
 have hpr:=hS.pr
 have hp1:=hS.p1
 simp only[] at hpr hp1
 rw[show decide (Int.ofNat xd-Int.ofNat xo≤(pd:Int))=decide (xd-xo≤pd) from decide_eq_decide.2 (by simp;omega),show decide ((0:Int)<Int.ofNat xo)=decide (0<xo) from decide_eq_decide.2 (by simp),show decide (Int.ofNat xd=(pd:Int))=decide (pd=xd) from decide_eq_decide.2 (by simp;omega)]
 clear bad hc1 hc2 hc3 hc4 hix hS
 have sb:∀l:List Nat,binop .eql (.s l) (.s [])=some (.b l.isEmpty):=fun l=>by cases l<;>rfl
 have sn:∀l:List Nat,binop .neq (.s l) (.s [])=some (.b (!l.isEmpty)):=fun l=>by cases l<;>rfl
 have hxl:(xc.map cgC).length=xc.length:=List.length_map _
 have hv:=hcv τ'
 by_cases hc3:xd-xo≤pd
 rotate_left
 ·rw[decide_eq_false hc3,Bool.false_and]
  refine wk ?_
  exact GoF.ret ⟨rfl,rfl⟩
 rw[decide_eq_true hc3,Bool.true_and]
 refine wk ?_
 have fin:∀(xh:Bool) (g':Nat→AV) (τ2:St) (Q:PostF),Has τ2 [(0,[nI xd,nI xo,.b xh,f1,f2,f3,f4,.s xr,cv])]→(xc.all (citG k)=true→∀f' τ3,Q .normal f' τ3)→(xc.all (citG k)=false→∀f' τ3,f' 4= .b false→Q .ret f' τ3)→
   GoW (b.envK K) none [] c_rShaped.ntmps (pth [1,1,1,1,1,1,1,1,0,1] rsB) (upds [(0,V),(1,nI k),(5,pt 0),(7,nI 0)] g') τ2 Q:=by
  intro xh g' τ2 Q H hQ1 hQ2
  clear hv
  refine GoF.block (GoF.loop (fun q F τ3=>∃j,j+q=xc.length∧(xc.take j).all (citG k)=true∧Has τ3 [(0,[nI xd,nI xo,.b xh,f1,f2,f3,f4,.s xr,cv])]∧sat [(0,V),(1,nI k),(5,pt 0),(7,nI j)] F) (fun q F τ3 hI=>?_) xc.length ⟨0,by omega,rfl,H,rfl,rfl,rfl,rfl,trivial⟩)
  clear H
  obtain⟨j,hj,hall,H,hs'⟩:=hI
  refine GoF.norm _ hs' fun F=>?_
  clear hs'
  have hv:=hcv τ3
  refine wk ?_
  clear hv
  by_cases hjl:j<xc.length
  ·obtain⟨q,rfl⟩:∃m,q=m+1:=⟨q-1,by omega⟩
   have hx:=hcx j hjl
   have out:citG k xc[j]=false→xc.all (citG k)=false:=fun h=>List.all_eq_false.2 ⟨xc[j],List.getElem_mem hjl,by rw[h];simp⟩
   have hin:citG k xc[j]=true→(xc.take (j+1)).all (citG k)=true:=fun h=>by
    rw[List.take_succ_eq_append_getElem hjl,List.all_append,hall]
    simp[h]
   generalize xc[j]=ac at hx out hin
   obtain⟨a,c⟩:=ac
   refine wk ?_
   refine W.ix rfl rfl rfl rfl hx ?_
   refine wk ?_
   by_cases ha:a<1
   ·refine W.bin rfl rfl rfl rfl (bLssT ha) ?_
    refine wk ?_
    exact GoF.ret (hQ2 (out (decide_eq_false fun h=>by have:=h.1;simp only[] at this;omega)) _ _ rfl)
   refine W.bin rfl rfl rfl rfl (bLssF ha) ?_
   refine wk ?_
   refine W.ix rfl rfl rfl rfl hx ?_
   refine wk ?_
   refine W.ix rfl rfl rfl rfl hx ?_
   refine wk ?_
   by_cases hac:c<a
   ·refine W.bin rfl rfl rfl rfl (bGtrT hac) ?_
    refine wk ?_
    exact GoF.ret (hQ2 (out (decide_eq_false fun h=>by have:=h.2.1;simp only[] at this;omega)) _ _ rfl)
   refine W.bin rfl rfl rfl rfl (bGtrF hac) ?_
   refine wk ?_
   refine W.ix rfl rfl rfl rfl hx ?_
   refine wk ?_
   by_cases hck:(k:Int)≤c
   ·refine W.bin rfl rfl rfl rfl (bGeqT hck) ?_
    refine wk ?_
    exact GoF.ret (hQ2 (out (decide_eq_false fun h=>by have:=h.2.2;simp only[] at this;omega)) _ _ rfl)
   refine W.bin rfl rfl rfl rfl (bGeqF hck) ?_
   refine wk ?_
   exact⟨q,by omega,j+1,by omega,hin (decide_eq_true (by simp only[];omega)),H,rfl,rfl,rfl,rfl,trivial⟩
  ·refine wk ?_
   refine GoF.exit ?_
   obtain rfl:j=xc.length:=by omega
   rw[List.take_length] at hall
   exact hQ1 hall _ _
 cases xh with
 |true=>
  rw[cond_true]
  refine wk ?_
  refine W.bin rfl rfl rfl rfl (sn xr) ?_
  cases xr with
  |cons c t=>
   refine wk ?_
   exact GoF.ret ⟨rfl,rfl⟩
  |nil=>
   refine wk ?_
   cases xc with
   |cons c t=>
    simp only[List.length_cons] at hxl
    refine wk ?_
    exact GoF.ret ⟨rfl,rfl⟩
   |nil=>
    simp only[List.length_nil] at hxl
    refine wk ?_
    by_cases h0:0<xo
    ·rw[decide_eq_true h0]
     refine wk ?_
     show GoW _ _ _ _ _ _ _ _
     refine GoF.norm [(0,V),(1,nI k),(5,pt 0),(7,nI 0)] ⟨rfl,rfl,rfl,rfl,trivial⟩ fun g'=>?_
     refine fin true g' _ _ H (fun hz f' τ3=>?_) (fun hz f' τ3 h4=>by cases hz)
     refine GoF.norm [] trivial fun g'=>?_
     have H:Has τ3 []:=Has.nil
     refine wk ?_
     exact GoF.ret ⟨rfl,rfl⟩
    ·rw[decide_eq_false h0]
     refine wk ?_
     by_cases hk1:1<k
     ·obtain⟨y1,y3,y4,y5,y6,y7,y8,hy⟩:=hpr hk1
      refine wk ?_
      refine W.bin rfl rfl rfl rfl (bin_sub (b:=2) (by omega) (by omega)) ?_
      refine W.ix rfl rfl rfl rfl hy ?_
      refine wk ?_
      cases pb with
      |false=>
       refine wk ?_
       exact GoF.ret ⟨rfl,rfl⟩
      |true=>
       refine wk ?_
       refine W.bin rfl rfl rfl rfl (bin_sub (b:=2) (by omega) (by omega)) ?_
       refine W.ix rfl rfl rfl rfl hy ?_
       by_cases hpx:pd=xd
       ·rw[decide_eq_true hpx]
        refine wk ?_
        show GoW _ _ _ _ _ _ _ _
        refine GoF.norm [(0,V),(1,nI k),(5,pt 0),(7,nI 0)] ⟨rfl,rfl,rfl,rfl,trivial⟩ fun g'=>?_
        refine fin true g' _ _ H (fun hz f' τ3=>?_) (fun hz f' τ3 h4=>by cases hz)
        refine GoF.norm [] trivial fun g'=>?_
        have H:Has τ3 []:=Has.nil
        refine wk ?_
        exact GoF.ret ⟨rfl,rfl⟩
       ·rw[decide_eq_false hpx]
        refine wk ?_
        exact GoF.ret ⟨rfl,rfl⟩
     ·have e:=hp1 (by omega)
      injection e with e1 e2
      subst e1 e2
      rw[decide_eq_true (show 0=xd by omega)]
      refine wk ?_
      show GoW _ _ _ _ _ _ _ _
      refine GoF.norm [(0,V),(1,nI k),(5,pt 0),(7,nI 0)] ⟨rfl,rfl,rfl,rfl,trivial⟩ fun g'=>?_
      refine fin true g' _ _ H (fun hz f' τ3=>?_) (fun hz f' τ3 h4=>by cases hz)
      refine GoF.norm [] trivial fun g'=>?_
      have H:Has τ3 []:=Has.nil
      refine wk ?_
      exact GoF.ret ⟨rfl,rfl⟩
 |false=>
  rw[cond_false]
  refine wk ?_
  refine W.bin rfl rfl rfl rfl (sb xr) ?_
  cases xr with
  |nil=>
   rw[show(!([]:List Nat).isEmpty)=false from rfl,Bool.and_false]
   refine wk ?_
   exact GoF.ret ⟨rfl,rfl⟩
  |cons c t=>
   rw[show(!(c::t).isEmpty)=true from rfl,Bool.and_true]
   refine wk ?_
   show GoW _ _ _ _ _ _ _ _
   refine GoF.norm [(0,V),(1,nI k),(5,pt 0),(7,nI 0)] ⟨rfl,rfl,rfl,rfl,trivial⟩ fun g'=>?_
   refine fin false g' _ _ H (fun hz f' τ3=>?_) (fun hz f' τ3 h4=>⟨rfl,by rw[h4,hz];rfl⟩)
   refine GoF.norm [] trivial fun g'=>?_
   have H:Has τ3 []:=Has.nil
   refine wk ?_
   rw[hz]
   exact GoF.ret ⟨rfl,rfl⟩
end
def prvG(L:List LnG)(k:Nat):Bool×Nat:=if 1<k then(match L[k-2]? with|some y=>(y.hyp,y.dp.toNat)|none=>(true,0)) else(true,0)
def shK(L:List LnG)(k:Nat):Bool:=match L[k-1]? with|some x=>shG x (prvG L k) k|none=>false
def fbad(L:List LnG):Nat:=((List.range L.length).find? fun i=>!shK L (i+1)).elim 0 (· +1)
theorem fbad_le{L:List LnG}:fbad L≤L.length:=by
 unfold fbad
 cases h:(List.range L.length).find? fun i=>!shK L (i+1) with
 |none=>exact Nat.zero_le _
 |some i=>have:=List.mem_range.1 (List.mem_of_find?_eq_some h);exact this
theorem fbad_at{L:List LnG}(h0:fbad L≠0):shK L (fbad L)=false:=by
 unfold fbad at h0 ⊢
 cases h:(List.range L.length).find? fun i=>!shK L (i+1) with
 |none=>rw[h] at h0;exact absurd rfl h0
 |some i=>have:=List.find?_some h;simpa using this
theorem fbad_lt{L:List LnG}{k:Nat}(h1:1≤k)(hk:k≤L.length)(hr:fbad L=0∨k<fbad L):shK L k=true:=by
 unfold fbad at hr
 cases h:(List.range L.length).find? fun i=>!shK L (i+1) with
 |none=>
  have:=List.find?_eq_none.1 h (k-1) (List.mem_range.2 (by omega))
  rw[show k-1+1=k by omega] at this
  simpa using this
 |some i=>
  rw[h] at hr
  have hr:k<i+1:=by rcases hr with hr|hr;(· cases hr);exact hr
  have h2:=List.find?_range_eq_some.1 h
  have:=h2.2.2 (k-1) (by omega)
  rw[show k-1+1=k by omega] at this
  simpa using this
theorem shG_num{x:LnG}{p:Bool×Nat}{k:Nat}(h:shG x p k=true):0≤x.dp∧x.dp≤40∧0≤x.op∧x.op≤x.dp:=by
 unfold shG at h
 rw[Bool.and_eq_true,decide_eq_true_eq] at h
 exact h.1
def LV1(V:AV)(L:List LnG):Prop:=∀j (h:j<L.length),∃f1 f2 f3 f4 cv,idxSlA (some 9) V j=some (.tp true (.ag (gX L[j] f1 f2 f3 f4 cv)))∧(∀τ,Vw τ (some 2) cv (L[j].cs.map cgC))∧cv.cells=[cv]∧Go.Lyc.conf none cv=true∧∀i (h:i<L[j].cs.length),idxSlA (some 2) cv i=some (.tp true (cgC L[j].cs[i]))
theorem LV1.shv{V:AV}{L:List LnG}(hV:LV1 V L)(hcl:∀x∈L,x.cs.length<2^20){k:Nat}(h1:1≤k)(hk:k≤L.length)(hr:fbad L=0∨k≤fbad L):ShV V (L[k-1]'(by omega)) (prvG L k) k:=by
 refine⟨hV (k-1) (by omega),fun hk1=>?_,fun e=>?_,?_,hcl _ (List.getElem_mem _)⟩
 ·obtain⟨f1,f2,f3,f4,cv,hy,_⟩:=hV (k-2) (by omega)
  have hs:=fbad_lt (L:=L) (k:=k-1) (by omega) (by omega) (by omega)
  unfold shK at hs
  rw[show k-1-1=k-2 by omega,List.getElem?_eq_getElem (show k-2<L.length by omega)] at hs
  have hn:=shG_num hs
  unfold prvG
  rw[if_pos hk1,List.getElem?_eq_getElem (show k-2<L.length by omega)]
  refine⟨.i .i64 (L[k-2]'(by omega)).op,f1,f2,f3,f4,.s (L[k-2]'(by omega)).rule,cv,?_⟩
  rw[hy]
  have e:(L[k-2]'(by omega)).dp=Int.ofNat (L[k-2]'(by omega)).dp.toNat:=by simp;omega
  show some (AV.tp true (.ag (.i .i64 _::_)))=some (AV.tp true (.ag (.i .i64 (Int.ofNat _)::_)))
  rw[←e]
 ·unfold prvG;rw[if_neg (by omega)]
 ·unfold prvG
  split
  ·have hs:=fbad_lt (L:=L) (k:=k-1) (by omega) (by omega) (by omega)
   unfold shK at hs
   rw[show k-1-1=k-2 by omega] at hs
   split at hs
   ·next x hx=>
    have hn:=shG_num hs
    show x.dp.toNat≤40
    omega
   ·cases hs
  ·exact Nat.zero_le _
def errG(L:List LnG):Nat:=if L.length=0∨500<L.length then 5 else if fbad L=0 then 0 else 2
section
variable {b:Base}{K:Nat→List AV→AV→Prop}(hfn:∀g ar r r',K g ar r→K g ar r'→r=r')
include hfn
theorem rError_go{V:AV}{L:List LnG}(hl:∀τ,lenA τ 1 V=some L.length)(hlt:L.length<2^20)(hs:∀τ:St,snapshot τ (b.fz+1000) V=some V)(e:b.ext n_rShaped=0∧b.pure n_rShaped=true)(hK:∀k,1≤k→k≤L.length→(fbad L=0∨k≤fbad L)→K n_rShaped [V,nI k] (.b (shK L k)))
  (body:ACode) (hb:c_rError.body=some body):GoF (b.envK K) c_rError.ntmps body (argF [V]) ⟨.nil,0⟩ (DoneR c_rError.results (nI (errG L))):=by
 cases hb
 refine W.args fun z=>?_
 have H:Has (⟨.nil,0⟩:St) []:=Has.nil
 unfold errG
 refine wk ?_
 refine W.len rfl rfl rfl (hl _) ?_
 by_cases h0:L.length=0
 ·rw[if_pos (.inl h0)]
  refine wk ?_
  exact GoF.ret ⟨rfl,_,resA_1 (resV_v rfl),rfl⟩
 refine wk ?_
 refine W.len rfl rfl rfl (hl _) ?_
 by_cases h5:500<L.length
 ·rw[if_pos (.inr h5)]
  refine wk ?_
  exact GoF.ret ⟨rfl,_,resA_1 (resV_v rfl),rfl⟩
 rw[if_neg (by omega)]
 refine wk ?_
 refine GoF.block ?_
 refine GoF.loop (fun m f τ=>∃k,k+m=L.length+1∧1≤k∧(fbad L=0∨k≤fbad L)∧sat [(0,V),(3,nI k)] f) ?_ L.length ⟨1,by omega,by omega,by omega,rfl,rfl,trivial⟩
 rintro m f τ ⟨k,hkm,hk1,hkr,hsat⟩
 refine GoF.norm _ hsat fun z=>?_
 clear hsat
 have H:Has τ []:=Has.nil
 have hbl:=fbad_le (L:=L)
 refine wk ?_
 refine W.len rfl rfl rfl (hl _) ?_
 by_cases hn:k≤L.length
 ·obtain⟨m,rfl⟩:∃k,m=k+1:=⟨m-1,by omega⟩
  refine wk ?_
  refine W.kn hfn e (hK k hk1 hn hkr) rfl rfl rfl (snaps2 (hs _) rfl) ?_
  by_cases hq:k=fbad L
  ·rw[hq,fbad_at (by omega),if_neg (by omega)]
   refine wk ?_
   exact GoF.ret ⟨rfl,_,resA_1 (resV_v rfl),rfl⟩
  ·rw[fbad_lt hk1 hn (by omega)]
   refine wk ?_
   exact⟨m,by omega,k+1,by omega,by omega,by omega,rfl,rfl,trivial⟩
 ·obtain rfl:m=0:=by omega
  refine wk ?_
  refine GoF.exit ?_
  show GoW _ _ _ _ _ _ _ _
  rw[if_pos (by omega)]
  refine wk ?_
  exact GoF.ret ⟨rfl,_,resA_1 (resV_v rfl),rfl⟩
end
structure FzL(V:AV)(xs:List LnG):Prop where
 len:∀τ,lenA τ 1 V=some xs.length
 ix:∀j (h:j<xs.length),∃cv,idxSlA (some 9) V j=some (.tp true (.ag (gvC xs[j] cv)))∧(∀τ,Vw τ (some 2) cv (xs[j].cs.map cgC))∧cv.cells=[cv]∧Go.Lyc.conf none cv=true∧∀i (h:i<xs[j].cs.length),idxSlA (some 2) cv i=some (.tp true (cgC xs[j].cs[i]))
theorem FzL.lv{V:AV}{xs:List LnG}(h:FzL V xs):LV1 V xs:=fun j hj=>by
 obtain⟨cv,a⟩:=h.ix j hj
 exact⟨_,_,_,_,cv,a⟩
theorem bNeqS{a:Int}:binop .neq (.i .i64 a) (.i .i64 a)=some (.b false):=by
 show some (AV.b (!decide (a=a)))=_
 simp
theorem bNeqL{a:List Nat}:binop .neq (.s a) (.s a)=some (.b false):=by
 show some (AV.b (!eqL a a))=_
 rw[eqL_refl];rfl
def Agr(x y:LnG):Prop:=x.dp=y.dp∧x.op=y.op∧x.hyp=y.hyp∧x.rule=y.rule∧x.cs=y.cs
section
variable {b:Base}{K:Nat→List AV→AV→Prop}(hfn:∀g ar r r',K g ar r→K g ar r'→r=r')
include hfn
theorem Same18_go{V U:AV}{xs ys:List LnG}(hV:FzL V xs)(hU:FzL U ys)(hl:xs.length=ys.length)(hlt:xs.length<2^20)(ha:∀j (h:j<xs.length) (h':j<ys.length),Agr xs[j] ys[j])(hck:∀x∈xs,x.cs.length<2^20)
  (es:b.ext n_SameForm=0∧b.pure n_SameForm=true) (hsf:∀j (h:j<xs.length) (h':j<ys.length),K n_SameForm [.ag (fc xs[j].f),.ag (fc ys[j].f)] (.b true)) (hs1:∀x∈xs,∀τ:St,snapshot τ (b.fz+1000) (.ag (fc x.f))=some (.ag (fc x.f))) (hs2:∀x∈ys,∀τ:St,snapshot τ (b.fz+1000) (.ag (fc x.f))=some (.ag (fc x.f)))
  (body:ACode) (hb:c_Same.body=some body):GoF (b.envK K) c_Same.ntmps body (argF [V,U]) ⟨.nil,0⟩ (Done 4 (.b true)):=by
 cases hb
 refine W.args fun z=>?_
 have H:Has (⟨.nil,0⟩:St) []:=Has.nil
 have hUl:=hU.len
 rw[←hl] at hUl
 refine wk ?_
 refine W.len rfl rfl rfl (hV.len _) ?_
 refine wk ?_
 refine W.len rfl rfl rfl (hUl _) ?_
 refine wk ?_
 refine W.len rfl rfl rfl (hV.len _) ?_
 refine wk ?_
 show GoW _ _ _ _ _ _ _ _
 refine GoF.each xs.length (fun i F τ=>sat [(14,V),(0,V),(1,U)] F) (by omega) ⟨rfl,rfl,rfl,trivial⟩ rfl rfl (fun i F τ hi hI hi2 hm=>?_) (fun F τ hI hi2=>?_)
 ·obtain⟨g14,g0,g1,_⟩:=hI
  refine GoF.norm [(16,nI i),(15,nI xs.length),(14,V),(0,V),(1,U)] ⟨hi2,hm,g14,g0,g1,trivial⟩ fun F=>?_
  obtain⟨cv,e1,v1,c1,f1,_⟩:=hV.ix i hi
  obtain⟨cu,e2,v2,c2,f2,_⟩:=hU.ix i (by omega)
  have hxm:xs[i]∈xs:=List.getElem_mem hi
  have hym:ys[i]∈ys:=List.getElem_mem (by omega)
  have hck:=hck _ hxm
  have hsf:=hsf i hi (by omega)
  have hs1:=hs1 _ hxm
  have hs2:=hs2 _ hym
  obtain⟨a1,a2,a3,a4,a5⟩:=ha i hi (by omega)
  have H:Has τ []:=Has.nil
  generalize xs[i]=x at *
  generalize ys[i]=y at *
  rw[←a5] at v2
  obtain⟨xd,xo,xh,xf,xr,xcs⟩:=x
  obtain⟨yd,yo,yh,yf,yr,ycs⟩:=y
  simp only[LnG.cs] at *
  generalize xcs.getD []=xc at *
  subst a1 a2 a3 a4
  clear a5 hxm hym ha
  have hcm:(xc.map cgC).length=xc.length:=List.length_map _
  refine wk ?_
  refine W.ix rfl rfl rfl rfl e1 ?_
  refine wk ?_
  generalize hnx:τ.next=m
  refine W.al (k:=m) (c:=[nI 0,nI 0,.b false,.i .u8 0,.s [],.nilsl,.nilsl,.s [],.nilsl]) H hnx rfl rfl rfl fun τ1 n1 H k1=>?_
  refine wo ?_
  refine W.st (c':=[.i .i64 xd,.i .i64 xo,.b xh,.i .u8 (Int.ofNat xf.op),.s xf.name,tmsA true xf.oargs,fmsA true xf.osub,.s xr,cv]) H 0 rfl rfl rfl rfl rfl rfl fun τ2 n2 H k2=>?_
  have n2:τ2.next=m+1:=by omega
  refine wk ?_
  refine W.ix rfl rfl rfl rfl e2 ?_
  refine wk ?_
  refine W.vr (c:=[.i .i64 xd,.i .i64 xo,.b xh,.i .u8 (Int.ofNat yf.op),.s yf.name,tmsA true yf.oargs,fmsA true yf.osub,.s xr,cu]) H n2 rfl rfl rfl rfl rfl rfl fun τ3 n3 H k3=>?_
  have w1:=v1 τ3
  have w2:=v2 τ3
  cases xh
  all_goals
   refine wk ?_
   refine W.bin rfl rfl rfl rfl bNeqS ?_
   refine wk ?_
   refine W.bin rfl rfl rfl rfl bNeqS ?_
   refine wk ?_
   refine W.bin rfl rfl rfl rfl bNeqL ?_
   refine wk ?_
   refine W.kn hfn es hsf rfl rfl rfl (snaps2 (hs1 _) (hs2 _)) ?_
   refine wk ?_
   rw[hcm]
   refine wk ?_
   have h6:=H.get _ (.tail _ (.head _))
   have h7:=H.get _ (.head _)
   refine GoF.each xc.length (fun j F τ'=>(τ3.next≤τ'.next∧∀i o,τ3.get i=some o→τ'.get i=some o)∧sat [(69,cv),(7,pt (m+1)),(6,pt m),(16,nI i),(15,nI xs.length),(14,V),(0,V),(1,U)] F) (by omega) ⟨⟨Nat.le_refl _,fun _ _ h=>h⟩,rfl,rfl,rfl,rfl,rfl,rfl,rfl,rfl,trivial⟩ rfl rfl (fun j F τ' hj hJ hj2 hjm=>?_) (fun F τ' hJ hj2=>?_)
   ·obtain⟨⟨kn,kp⟩,g69,g7,g6,g16,g15,g14,g0,g1,_⟩:=hJ
    refine GoF.norm [(71,nI j),(70,nI xc.length),(69,cv),(7,pt (m+1)),(6,pt m),(16,nI i),(15,nI xs.length),(14,V),(0,V),(1,U)] ⟨hj2,hjm,g69,g7,g6,g16,g15,g14,g0,g1,trivial⟩ fun F=>?_
    have H:Has τ' [(m+1,_),(m,_)]:=(Has.nil.cons (kp _ _ h6) (by simp)).cons (kp _ _ h7) (by simp)
    have w1:=v1 τ'
    have w2:=v2 τ'
    refine wk ?_
    rw[List.getElem_map]
    generalize xc[j]=c
    obtain⟨c1,c2⟩:=c
    refine wk ?_
    refine W.ct0 (congrArg (fun b=>some (AV.b b)) (show(cond true (!(decide (_=_)&&(decide (_=_)&&true))) _)=false by simp)) ?_
    refine GoF.skip ?_
    exact⟨rfl,rfl,⟨kn,kp⟩,rfl,rfl,rfl,rfl,rfl,rfl,rfl,rfl,trivial⟩
   ·obtain⟨_,g69,g7,g6,g16,g15,g14,g0,g1,_⟩:=hJ
    exact⟨g16,g15,g14,g0,g1,trivial⟩
 ·refine GoF.norm [] trivial fun F=>?_
  have H:Has τ []:=Has.nil
  refine wk ?_
  exact GoF.ret ⟨rfl,rfl⟩
end
theorem Tm.nz_args(t:Tm):t.nz.args=t.args.map Tm.nz:=by rw[Tm.nz_eq];exact oL_getD _
theorem Tm.nz_nz:∀(d:Nat) (t:Tm),t.dep≤d→t.nz.nz=t.nz
 |0,t,h=>by rw[Tm.dep_eq] at h;omega
 |d+1,t,h=>by
  rw[Tm.nz_eq t.nz,Tm.nz_args,List.map_map,Tm.nz_eq t]
  show Tm.mk t.var t.name _=Tm.mk t.var t.name _
  congr 2
  exact List.map_congr_left fun u hu=>Tm.nz_nz d u (by have:=Tm.dep_arg hu;omega)
theorem Fm.nz_args(t:Fm):t.nz.args=t.args.map Tm.nz:=by rw[Fm.nz_eq];exact oL_getD _
theorem Fm.nz_sub(t:Fm):t.nz.sub=t.sub.map Fm.nz:=by rw[Fm.nz_eq];exact oL_getD _
theorem Fm.nz_nz:∀(d:Nat) (t:Fm),t.dep≤d→t.nz.nz=t.nz
 |0,t,h=>by rw[Fm.dep_eq] at h;omega
 |d+1,t,h=>by
  rw[Fm.nz_eq t.nz,Fm.nz_args,Fm.nz_sub,List.map_map,List.map_map,Fm.nz_eq t]
  show Fm.mk t.op t.name _ _=Fm.mk t.op t.name _ _
  congr 2
  ·exact List.map_congr_left fun u hu=>Tm.nz_nz u.dep u (Nat.le_refl _)
  ·exact List.map_congr_left fun u hu=>Fm.nz_nz d u (by have:=Fm.dep_sub hu;omega)
def nzL(x:Ln):Ln:={x with f:=x.f.nz}
section
variable {T:List Ln}
theorem stF_nz:∀ {i:Nat},stF (T.map nzL) i=stF T i
 |0=>rfl
 |i+1=>by
  rw[stF,stF,List.getElem?_map,stF_nz (i:=i)]
  cases T[i]? <;>rfl
theorem boxL_nz:boxL (T.map nzL)=boxL T:=by
 unfold boxL
 rw[List.length_map]
 exact List.map_congr_left fun i _=>stF_nz
theorem dpL_nz{k:Nat}:dpL (T.map nzL) k=dpL T k:=by
 unfold dpL
 rw[List.map_map];rfl
theorem asmF_nz{a d:Nat}:∀ {m n:Nat},asmF (T.map nzL) a d m n=asmF T a d m n
 |0,_=>rfl
 |m+1,n=>by
  rw[asmF_succ,asmF_succ,List.getElem?_map]
  cases T[n-1]? with
  |none=>rfl
  |some x=>
   show(if x.hyp=true∧x.dp=d∧¬(a<n∧0<x.op) then n::asmF (T.map nzL) a d m (n+1) else[])=_
   rw[asmF_nz (m:=m)]
theorem isBoxB_nz{k a c:Nat}:isBoxB (T.map nzL) (boxL (T.map nzL)) k a c=isBoxB T (boxL T) k a c:=by
 unfold isBoxB
 rw[boxL_nz,dpL_nz,dpL_nz]
theorem citW_nz{k:Nat}{S:List Bool}{ac:Nat×Nat}:citW (T.map nzL) k S ac=citW T k S ac:=by
 unfold citW asmL
 rw[isBoxB_nz,dpL_nz,asmF_nz,List.length_map]
theorem linW_nz{k:Nat}{S:List Bool}:linW (T.map nzL) k S=linW T k S:=by
 unfold linW
 rw[List.getElem?_map,stF_nz]
 cases T[k-1]? with
 |none=>rfl
 |some x=>
  show cond _ (x.cs.foldl (citW (T.map nzL) k) _) S=cond _ (x.cs.foldl (citW T k) _) S
  rw[show citW (T.map nzL) k=citW T k from funext fun S=>funext fun ac=>citW_nz]
theorem wanD_nz:∀ {j:Nat},wanD (T.map nzL) j=wanD T j
 |0=>by rw[wanD,wanD,List.length_map]
 |j+1=>by rw[wanD,wanD,List.length_map,linW_nz,wanD_nz (j:=j)]
theorem wanL_nz:wanL (T.map nzL)=wanL T:=by
 unfold wanL
 rw[List.length_map];exact wanD_nz
theorem cutCs_nz{k:Nat}{num:List Nat}{cs:List (Nat×Nat)}:cutCs (T.map nzL) k num cs=cutCs T k num cs:=by
 unfold cutCs
 exact List.map_congr_left fun ac _=>by rw[isBoxB_nz]
theorem cutS_nz:∀ {i:Nat},cutS (T.map nzL) i=((cutS T i).1,(cutS T i).2.map nzL)
 |0=>by rw[cutS,cutS,List.length_map];rfl
 |i+1=>by
  rw[cutS,cutS,List.getElem?_map,wanL_nz,cutS_nz (i:=i)]
  cases T[i]? with
  |none=>rfl
  |some x=>
   show cond _ ((cutS T i).1.set (i+1) (((cutS T i).2.map nzL).length+1),(cutS T i).2.map nzL++[{nzL x with cs:=cutCs (T.map nzL) (i+1) (cutS T i).1 x.cs}]) ((cutS T i).1,(cutS T i).2.map nzL)=_
   rw[cutCs_nz,List.length_map]
   cases(wanL T).getD i false with
   |true=>simp only[cond_true,List.map_append];rfl
   |false=>rfl
theorem cutL_nz:cutL (T.map nzL)=(cutL T).map nzL:=by
 unfold cutL
 rw[List.length_map,cutS_nz]
end
def toLn(x:LnG):Ln:=⟨x.dp.toNat,x.op.toNat,x.hyp,x.f,x.rule,x.cs.map fun c=>(c.1.toNat,c.2.toNat)⟩
def nzG(x:LnG):LnG:={x with f:=x.f.nz}
structure Num(x:LnG):Prop where
 dp:0≤x.dp
 op:0≤x.op
 cs:∀c∈x.cs,0≤c.1∧0≤c.2
theorem toN{a:Int}(h:0≤a):Int.ofNat a.toNat=a:=by simp;omega
theorem Num.cells{x:LnG}(h:Num x)(cv:AV):rnC (toLn x) cv=gvC x cv:=by
 show[AV.i .i64 (Int.ofNat x.dp.toNat),.i .i64 (Int.ofNat x.op.toNat),_,_,_,_,_,_,_]=_
 rw[toN h.dp,toN h.op];rfl
theorem Num.cg{x:LnG}(h:Num x):(toLn x).cs.map prC=x.cs.map cgC:=by
 show(x.cs.map fun c=>(c.1.toNat,c.2.toNat)).map prC=_
 rw[List.map_map]
 refine List.map_congr_left fun c hc=>?_
 have:=h.cs c hc
 show AV.ag [.i .i64 (Int.ofNat c.1.toNat),.i .i64 (Int.ofNat c.2.toNat)]=_
 rw[toN this.1,toN this.2]
structure GdG(L:List LnG):Prop where
 fb:fbad L=0
 ne:L≠[]
 le:L.length≤500
 cl:∀x∈L,x.cs.length<2^20
section
variable {L:List LnG}(g:GdG L)
include g
theorem GdG.sh{i:Nat}(h:i<L.length):shG L[i] (prvG L (i+1)) (i+1)=true:=by
 have:=fbad_lt (L:=L) (k:=i+1) (by omega) (by omega) (.inl g.fb)
 unfold shK at this
 rw[Nat.add_sub_cancel,List.getElem?_eq_getElem h] at this
 exact this
theorem GdG.cit{i:Nat}(h:i<L.length):∀c∈(L[i]).cs,1≤c.1∧c.1≤c.2∧c.2<((i+1:Nat):Int):=fun c hc=>by
 have hs:=g.sh h
 unfold shG at hs
 simp only[Bool.and_eq_true] at hs
 obtain⟨_,_,h3⟩:=hs
 cases hh:(L[i]).hyp with
 |true=>
  rw[hh,cond_true,Bool.and_eq_true,Bool.and_eq_true] at h3
  have:=h3.2.1
  rw[List.isEmpty_iff] at this
  rw[this] at hc;cases hc
 |false=>
  rw[hh,cond_false,Bool.and_eq_true,List.all_eq_true] at h3
  have:=h3.1 c hc
  unfold citG at this
  rwa[decide_eq_true_eq] at this
theorem GdG.num:∀x∈L,Num x:=fun x hx=>by
 obtain⟨i,h,rfl⟩:=List.getElem_of_mem hx
 have hn:=shG_num (g.sh h)
 exact⟨hn.1,hn.2.2.1,fun c hc=>by have:=g.cit h c hc;omega⟩
theorem GdG.gd:GdU (L.map toLn):=by
 have hdp:∀x∈L.map toLn,x.dp≤40∧x.op≤x.dp:=fun x hx=>by
  obtain⟨y,hy,rfl⟩:=List.mem_map.1 hx
  obtain⟨i,h,rfl⟩:=List.getElem_of_mem hy
  have hn:=shG_num (g.sh h)
  show(L[i]).dp.toNat≤40∧(L[i]).op.toNat≤(L[i]).dp.toNat
  omega
 have hgo:∀i (h:i<(L.map toLn).length),((L.map toLn)[i]).dp-((L.map toLn)[i]).op≤(stF (L.map toLn) i).length∧(stF (L.map toLn) (i+1)).length=((L.map toLn)[i]).dp:=by
  intro i
  induction i with
  |zero=>
   intro h
   have h':0<L.length:=by rwa[List.length_map] at h
   have hs:=g.sh h'
   unfold shG at hs
   simp only[Bool.and_eq_true,decide_eq_true_eq] at hs
   have hp:(prvG L (0+1)).2=0:=by unfold prvG;rw[if_neg (by omega)]
   rw[hp] at hs
   have hd:=hdp _ (List.getElem_mem h)
   have hx:((L.map toLn)[0]).dp-((L.map toLn)[0]).op≤0:=by
    rw[List.getElem_map]
    show(L[0]).dp.toNat-(L[0]).op.toNat≤0
    omega
   refine⟨by omega,?_⟩
   rw[stF_succ h]
   unfold stkF
   rw[List.length_append,List.length_take,List.length_replicate]
   rw[show(stF (L.map toLn) 0).length=0 from rfl,Nat.min_zero]
   omega
  |succ i ih=>
   intro h
   have h':i+1<L.length:=by rwa[List.length_map] at h
   have h2:i<L.length:=by omega
   obtain⟨_,ihl⟩:=ih (by rw[List.length_map];omega)
   have hs:=g.sh h'
   unfold shG at hs
   simp only[Bool.and_eq_true,decide_eq_true_eq] at hs
   have hp:(prvG L (i+1+1)).2=(L[i]).dp.toNat:=by
    unfold prvG
    rw[if_pos (by omega),show i+1+1-2=i by omega,List.getElem?_eq_getElem h2]
   rw[hp] at hs
   have hd:=hdp _ (List.getElem_mem h)
   have hx:((L.map toLn)[i+1]).dp-((L.map toLn)[i+1]).op≤(stF (L.map toLn) (i+1)).length:=by
    rw[ihl,List.getElem_map,List.getElem_map]
    show(L[i+1]).dp.toNat-(L[i+1]).op.toNat≤(L[i]).dp.toNat
    omega
   refine⟨hx,?_⟩
   rw[stF_succ h]
   unfold stkF
   rw[List.length_append,List.length_take,List.length_replicate,Nat.min_eq_left hx]
   omega
 have hlen:(L.map toLn).length=L.length:=List.length_map _
 have hle:=g.le
 refine⟨⟨by omega,fun x hx=>by have:=hdp x hx;omega,fun i h=>(hgo i h).1⟩,⟨by unfold boxL;rw[List.length_map,List.length_range],by omega,fun x hx=>by have:=hdp x hx;omega,fun l hl=>?_⟩,fun k x h1 hx=>?_,fun e=>g.ne (List.map_eq_nil_iff.1 e)⟩
 ·unfold boxL at hl
  obtain⟨i,hi,rfl⟩:=List.mem_map.1 hl
  have hi:=List.mem_range.1 hi
  rw[(hgo i hi).2]
  have:=hdp _ (List.getElem_mem hi)
  omega
 ·have hk:=(List.getElem?_eq_some_iff.1 hx).1
  have hx:=(List.getElem?_eq_some_iff.1 hx).2
  rw[List.getElem_map] at hx
  rw[←hx]
  refine⟨?_,fun ac hac=>?_⟩
  ·show((L[k-1]'(by omega)).cs.map _).length<_
   rw[List.length_map];exact g.cl _ (List.getElem_mem _)
  ·obtain⟨c,hc,rfl⟩:=List.mem_map.1 hac
   have:=g.cit (i:=k-1) (by omega) c hc
   show 1≤c.1.toNat∧c.1.toNat≤c.2.toNat∧c.2.toNat<k
   omega
end
theorem fbad_nz{L:List LnG}:fbad (L.map nzG)=fbad L:=by
 have:∀k,shK (L.map nzG) k=shK L k:=fun k=>by
  unfold shK prvG
  rw[List.getElem?_map,List.getElem?_map]
  cases L[k-1]? with
  |none=>rfl
  |some x=>
   cases L[k-2]? <;>rfl
 unfold fbad
 rw[List.length_map]
 simp only[this]
theorem GdG.nz{L:List LnG}(g:GdG L):GdG (L.map nzG):=
 ⟨by rw[fbad_nz];exact g.fb,fun e=>g.ne (List.map_eq_nil_iff.1 e),by rw[List.length_map];exact g.le,fun x hx=>by obtain⟨y,hy,rfl⟩:=List.mem_map.1 hx;exact g.cl y hy⟩
abbrev rgA(x:LnG):AV:=.ag (gvC x (slA true (some 2) (x.cs.map cgC)))
abbrev rgsA(L:List LnG):AV:=slA true (some 9) (L.map rgA)
theorem cgs_vw{τ:St}(l:List (Int×Int)):Vw τ (some 2) (slA true (some 2) (l.map cgC)) (l.map cgC):=slA_vw fun y hy=>by obtain⟨c,_,rfl⟩:=List.mem_map.1 hy;rfl
theorem cgt_vw{τ:St}(l:List (Int×Int)):Vw τ (some 2) (.tl true (some 2) (l.map cgC)) (l.map cgC):=tl_vw fun y hy=>by obtain⟨c,_,rfl⟩:=List.mem_map.1 hy;rfl
theorem cgs_ix{l:List (Int×Int)}{i:Nat}(h:i<l.length):idxSlA (some 2) (slA true (some 2) (l.map cgC)) i=some (.tp true (cgC l[i])):=slA_idxM h
theorem cgt_ix{l:List (Int×Int)}{i:Nat}(h:i<l.length):idxSlA (some 2) (.tl true (some 2) (l.map cgC)) i=some (.tp true (cgC l[i])):=by
 cases l with
 |nil=>simp at h
 |cons c l=>exact slA_idxM h
theorem FzL.rg(L:List LnG):FzL (rgsA L) L:=
 ⟨fun τ=>slA_lenM,fun j h=>⟨_,slA_idxM h,fun τ=>cgs_vw _,by cases(L[j]).cs<;>rfl,slA_cf,fun i h=>cgs_ix h⟩⟩
theorem FzL.lg(L:Option (List LnG)):FzL (lgA L) (L.getD []):=
 ⟨fun τ=>lg_len,fun j h=>⟨cgA true ((L.getD [])[j]).ocs,lg_idx h,fun τ=>by
  cases hx:((L.getD [])[j]).ocs with
  |none=>show Vw τ (some 2) .nilsl (List.map cgC (((L.getD [])[j]).ocs.getD []));rw[hx];exact Sl.nil.vw
  |some l=>show Vw τ (some 2) (.tl true (some 2) (l.map cgC)) (List.map cgC (((L.getD [])[j]).ocs.getD []));rw[hx];exact cgt_vw l,by cases((L.getD [])[j]).ocs<;>rfl,by cases((L.getD [])[j]).ocs<;>rfl,fun i h=>by
  show idxSlA (some 2) (cgA true _) i=some (.tp true (cgC ((((L.getD [])[j]).ocs.getD [])[i])))
  exact osl_idx (o:=true) (sh:=some 2) (g:=cgC) h⟩⟩
theorem FzL.cp(L:List LnG):FzL (cpsA true L) (L.map nzG):=by
 refine⟨fun τ=>?_,fun j h=>?_⟩
 ·rw[List.length_map];exact slA_lenM
 ·have h':j<L.length:=by rwa[List.length_map] at h
  refine⟨.tl true (some 2) ((L[j]).cs.map cgC),?_,fun τ=>?_,rfl,rfl,fun i h=>?_⟩
  ·rw[List.getElem_map];exact slA_idxM h'
  ·rw[List.getElem_map];exact cgt_vw _
  ·have h2:i<(L[j]).cs.length:=by rw[List.getElem_map] at h;exact h
   have:=cgt_ix h2
   simp only[List.getElem_map]
   exact this
theorem GdG.cp{L:List LnG}(g:GdG L):cpsA true L=lnsA ((L.map nzG).map toLn):=by
 have e:L.map (cpA true)=((L.map nzG).map toLn).map Ln.A:=by
  rw[List.map_map,List.map_map]
  refine List.map_congr_left fun x hx=>?_
  have hn:=g.num x hx
  have h1:=hn.cg
  show AV.ag [.i .i64 x.dp,.i .i64 x.op,_,_,_,_,_,_,.tl true (some 2) (x.cs.map cgC)]=AV.ag [.i .i64 (Int.ofNat x.dp.toNat),.i .i64 (Int.ofNat x.op.toNat),_,_,_,_,_,_,.tl true (some 2) ((toLn x).cs.map prC)]
  rw[toN hn.dp,toN hn.op,h1];rfl
 unfold cpsA lnsA
 rw[e]
 have hne:=g.ne
 cases L with
 |nil=>exact absurd rfl hne
 |cons x l=>rfl
theorem GdG.rg{L:List LnG}(g:GdG L):rgsA L=rnsA (L.map toLn):=by
 have e:L.map rgA=(L.map toLn).map rnA:=by
  rw[List.map_map]
  refine List.map_congr_left fun x hx=>?_
  have hn:=g.num x hx
  show AV.ag (gvC x (slA true (some 2) (x.cs.map cgC)))=AV.ag (rnC (toLn x) (slA true (some 2) ((toLn x).cs.map prC)))
  rw[hn.cells,hn.cg]
 unfold rnsA
 show slA true (some 9) (L.map rgA)=_
 rw[e]
 have hne:=g.ne
 cases L with
 |nil=>exact absurd rfl hne
 |cons x l=>rfl
def Ln.G(x:Ln):LnG:=⟨x.dp,x.op,x.hyp,x.f,x.rule,some (x.cs.map fun c=>(Int.ofNat c.1,Int.ofNat c.2))⟩
theorem Ln.G_cg(x:Ln):x.G.cs.map cgC=x.cs.map prC:=by
 show(x.cs.map fun c=>(Int.ofNat c.1,Int.ofNat c.2)).map cgC=_
 rw[List.map_map];rfl
theorem RvS.g{τ:St}{w:AV}{L:List Ln}(h:RvS τ w L):GvS τ w (L.map Ln.G):=by
 obtain⟨ws,a1,a2,a3,a4⟩:=h
 refine⟨ws,a1,by rw[List.length_map];exact a2,fun e=>a3 (List.map_eq_nil_iff.1 e),fun i h h'=>?_⟩
 obtain⟨cv,b1,b2,b3,b4⟩:=a4 i h (by rwa[List.length_map] at h')
 refine⟨cv,?_,?_,fun e=>b3 ?_,b4⟩
 ·rw[List.getElem_map];exact b1
 ·rw[List.getElem_map,Ln.G_cg];exact b2
 ·rw[List.getElem_map] at e
  have:(L[i]'(by rwa[List.length_map] at h')).G.cs=[]:=e
  exact List.map_eq_nil_iff.1 this
def SnF(M:Nat)(f:Fm):Prop:=Snp M (tmsA true f.oargs)∧Snp M (fmsA true f.osub)
theorem mapO_idx'{α β:Type}{f:α→Option β}{l:List α}{ys:List β}(hl:l.length=ys.length)(h:∀i (h1:i<l.length) (h2:i<ys.length),f l[i]=some ys[i]):mapO f l=some ys:=mapO_idx (by omega) fun i h1 h2=>h i h1 h2
theorem gvC_snap{τ:St}{n:Nat}{x:LnG}{cv:AV}(hs:SnF (n+1) x.f)(hc:snapshot τ (n+1) cv=some (slA true (some 2) (x.cs.map cgC))):snapshot τ (n+2) (.ag (gvC x cv))=some (rgA x):=by
 refine snap_ag ?_
 rw[mapO_cons,mapO_cons,mapO_cons,mapO_cons,mapO_cons,mapO_cons,mapO_cons,mapO_cons,mapO_cons,hs.1 τ,hs.2 τ,hc];rfl
theorem cgs_snap{τ:St}{n:Nat}{cv:AV}{l:List (Int×Int)}(h:Sl τ (some 2) cv (l.map cgC))(h0:l=[]→cv= .nilsl):snapshot τ (n+3) cv=some (slA true (some 2) (l.map cgC)):=
 h.snpS (fun e=>h0 (List.map_eq_nil_iff.1 e)) fun y hy=>by obtain⟨c,_,rfl⟩:=List.mem_map.1 hy;rfl
theorem GvS.snap{τ:St}{w:AV}{L:List LnG}{n:Nat}(h:GvS τ w L)(hs:∀x∈L,SnF (n+3) x.f):snapshot τ (n+5) w=some (rgsA L):=by
 obtain⟨ws,a1,a2,a3,a4⟩:=h.ex
 refine a1.snapM (fun e=>a3 (List.length_eq_zero_iff.1 (by rw[←a2,e];rfl))) (mapO_idx' (by rw[List.length_map];exact a2) fun i h1 h2=>?_)
 have h3:i<L.length:=by rwa[List.length_map] at h2
 obtain⟨cv,b1,b2,b3,_⟩:=a4 i h1 h3
 rw[b1,List.getElem_map]
 exact gvC_snap (n:=n+2) (hs _ (List.getElem_mem h3)) (cgs_snap b2 b3)
theorem SlS.snapT{W:Nat→Prop}{σ:St}{sh:Option Nat}{v:AV}{xs ys:List AV}{n:Nat}(h:SlS W σ sh v xs)(hm:mapO (snapshot σ n) xs=some ys):snapshot σ (n+1) v=some (slA true sh ys):=by
 cases h with
 |nil=>exact Sl.snapM .nil (fun _=>rfl) hm
 |sl o cap xs rest hW h hc hk hne=>exact Sl.snapM (.sl o cap xs rest h hc hk) (fun e=>absurd e hne) hm
theorem LO.snap{τ:St}{d lo hi n:Nat}{x:Ln}{v:AV}(h:LO τ d lo hi x v)(hn:2*d≤n+4):snapshot τ (n+4) v=some (rgA (nzG x.G)):=by
 obtain⟨m,w1,w2,cv,_,_,rfl,h4,h5⟩:=h
 have h6:=h5.snap (n:=n+4) d hn
 obtain⟨zs,a1,a2⟩:=snap_agI h6
 injection a2 with a2
 subst a2
 have hc:snapshot τ (n+3) cv=some (slA true (some 2) (x.cs.map prC)):=by
  refine h4.snapT ?_
  exact mapO_self fun y hy=>by obtain⟨c,_,rfl⟩:=List.mem_map.1 hy;rfl
 have e1:(nzG x.G).cs.map cgC=x.cs.map prC:=Ln.G_cg x
 refine snap_ag ?_
 rw[mapO_cons,mapO_cons,mapO_cons,mapO_cons] at a1
 have h1:snapshot τ (n+3) w1=some (tmsA true x.f.nz.oargs)∧snapshot τ (n+3) w2=some (fmsA true x.f.nz.osub):=by
  cases hw:snapshot τ (n+3) w1 with
  |none=>rw[hw] at a1;cases a1
  |some u=>
   cases hw2:snapshot τ (n+3) w2 with
   |none=>rw[hw,hw2] at a1;cases a1
   |some u2=>
    rw[hw,hw2] at a1
    have a1:some [AV.i .u8 (Int.ofNat x.f.op),.s x.f.name,u,u2]=some (fc x.f.nz):=a1
    injection a1 with a1
    injection a1 with _ a1
    injection a1 with _ a1
    injection a1 with a3 a1
    injection a1 with a4 _
    rw[a3,a4];exact⟨rfl,rfl⟩
 rw[mapO_cons,mapO_cons,mapO_cons,mapO_cons,mapO_cons,mapO_cons,mapO_cons,mapO_cons,mapO_cons,h1.1,h1.2,hc]
 have e2:x.f.nz.op=x.f.op:=by rw[Fm.nz_eq];rfl
 have e3:x.f.nz.name=x.f.name:=by rw[Fm.nz_eq];rfl
 show some [_,_,_,AV.i .u8 (Int.ofNat x.f.op),AV.s x.f.name,_,_,_,slA true (some 2) (x.cs.map prC)]=some [_,_,_,AV.i .u8 (Int.ofNat x.f.nz.op),AV.s x.f.nz.name,_,_,_,slA true (some 2) ((nzG x.G).cs.map cgC)]
 rw[e1,e2,e3];rfl
theorem Seqv.at{α:Type}{P:Nat→Nat→α→AV→Prop}:∀ {ts:List α} {xs:List AV} {lo hi:Nat},Seqv P lo hi ts xs→∀i (h:i<ts.length) (h':i<xs.length),∃a c,P a c ts[i] xs[i]
 |t::ts,x::xs,lo,hi,⟨m,a1,a2,a3,a4⟩,0,_,_=>⟨lo,m,a3⟩
 |t::ts,x::xs,lo,hi,⟨m,a1,a2,a3,a4⟩,i+1,h,h'=>Seqv.at a4 i (by simpa using h) (by simpa using h')
def OutV(d:Nat)(τ:St)(xs:List Ln)(w:AV):Prop:=∃kv lo hi,hi≤τ.next∧Sl τ (some 9) w kv∧Seqv (LO τ d) lo hi xs kv∧(∀o,w.at? =some o→hi≤o)∧(xs=[]→w= .nilsl)
theorem OutV.snap{d n:Nat}{τ:St}{xs:List Ln}{w:AV}(h:OutV d τ xs w)(hn:2*d≤n+4):snapshot τ (n+5) w=some (rgsA (xs.map fun x=>nzG x.G)):=by
 obtain⟨kv,lo,hi,_,a1,a2,_,a4⟩:=h
 have hl:=a2.len
 refine a1.snapM (fun e=>a4 (List.length_eq_zero_iff.1 (by rw[hl,e];rfl))) (mapO_idx' (by rw[List.length_map,List.length_map];omega) fun i h1 h2=>?_)
 have h3:i<xs.length:=by omega
 obtain⟨a,c,hx⟩:=a2.at i h3 h1
 rw[List.getElem_map,List.getElem_map]
 exact hx.snap hn
inductive NoP(b:Base)(K:Nat→List AV→AV→Prop)(V:AV):Nat→Nat→Prop
 |many (n:Nat):(∀τ:St,lenA τ 1 V=some n)→(n=0∨500<n)→n<2^20→NoP b K V 5 0
 |shape (n r:Nat):(∀τ:St,lenA τ 1 V=some n)→0<n→n≤500→r≠0→r≤500→(∀τ:St,snapshot τ (b.fz+1000) V=some V)→(b.ext n_misshapen=0∧b.pure n_misshapen=true)→K n_misshapen [V] (nI r)→NoP b K V 2 r
section
variable {b:Base}{K:Nat→List AV→AV→Prop}(hfn:∀g ar r r',K g ar r→K g ar r'→r=r'){V:AV}{e r:Nat}
include hfn
theorem open_bad(hh:Here (b.envK K) n_fopen c_fopen)(hV:NoP b K V e r){σ:St}:GoesCall (b.envK K) 0 (.f (.func n_fopen) [] []) [V] σ (fun r τ=>r= .ok (.tu [.p none,nI e])∧τ=σ):=by
 refine W.codeR hh.e hh.p hh.f rfl rfl rfl fun z=>?_
 have H:Has σ []:=Has.nil
 cases hV with
 |many n hl hn hn2=>
  refine wk ?_
  refine W.len rfl rfl rfl (hl _) ?_
  by_cases h0:n=0
  ·refine wk ?_
   exact GoF.ret ⟨rfl,_,rfl,rfl,rfl⟩
  ·refine wk ?_
   refine W.len rfl rfl rfl (hl _) ?_
   refine wk ?_
   exact GoF.ret ⟨rfl,_,rfl,rfl,rfl⟩
 |shape n r hl h1 h2 h3 h4 hs he hK=>
  refine wk ?_
  refine W.len rfl rfl rfl (hl _) ?_
  refine wk ?_
  refine W.len rfl rfl rfl (hl _) ?_
  refine wk ?_
  refine W.kn hfn he hK rfl rfl rfl (snaps1 (hs _)) ?_
  refine wk ?_
  exact GoF.ret ⟨rfl,_,rfl,rfl,rfl⟩
theorem Cut_bad_st(hh:Here (b.envK K) n_fCut c_fCut)(ho:Here (b.envK K) n_fopen c_fopen)(hV:NoP b K V e r)(σ:St):GoesCall (b.envK K) 0 (.f (.func n_fCut) [] []) [V] σ (fun r τ=>r= .ok (.tu [.nilsl,nI e])∧Mr σ τ):=by
 refine W.codeR hh.e hh.p hh.f rfl rfl rfl fun z=>?_
 have H:Has σ []:=Has.nil
 have he:e=5∨e=2:=by cases hV<;>omega
 refine wk ?_
 refine W.cy rfl rfl rfl (open_bad hfn ho hV) fun v τ3 ⟨ev,e3⟩=>⟨_,ev,?_⟩
 subst e3
 refine wk ?_
 exact GoF.ret ⟨rfl,_,rfl,rfl,Nat.le_refl _,fun _ _ h=>h⟩
theorem rCut_bad_st(hh:Here (b.envK K) n_rCut c_rCut){VR:AV}(he:e=5∨e=2){σ:St}(hs:snapshot σ (b.fz+1000) V=some VR)(eE:b.ext n_rError=0∧b.pure n_rError=true)(kE:K n_rError [VR] (nI e)):GoesCall (b.envK K) 0 (.f (.func n_rCut) [] []) [V] σ (fun r τ=>r= .ok (.tu [.nilsl,nI e])∧Mr σ τ):=by
 refine W.codeR hh.e hh.p hh.f rfl rfl rfl fun z=>?_
 have H:Has σ []:=Has.nil
 refine wk ?_
 refine W.kn hfn eE kE rfl rfl rfl (snaps1 hs) ?_
 refine wk ?_
 exact GoF.ret ⟨rfl,_,rfl,rfl,Nat.le_refl _,fun _ _ h=>h⟩
end
def fcsB:ACode:=match c_FitchCuts.body with|some c=>c|none=>.skip
section
variable {b:Base}{K:Nat→List AV→AV→Prop}
theorem Law_over(hfn:∀g ar r r',K g ar r→K g ar r'→r=r')(hO:HOv b K){d M:Nat}{xs:List Ln}(hsm:∀x∈xs,Fm.sm M d x.f)(hcl:∀x∈xs,x.cs.length<2^20)(hxl:xs.length<2^20){τ:St}{w lv V:AV}(hw:OutV d τ xs w){z:Nat→AV}{Q:PostF}(hQ:∀F τ',sat [(0,lv),(5,V)] F→Q .normal F τ'):
  GoW (b.envK K) none [] c_FitchCuts.ntmps (pth [1,1,1,1,1,1,0] fcsB) (upds [(0,lv),(5,V),(6,w)] z) τ Q:=by
 obtain⟨kv,lo,hi,h1,hs,hS,hwo,_⟩:=hw
 have hkl:=hS.len
 have H:Has τ []:=Has.nil
 refine W.sq ?_
 refine wk ?_
 refine W.len rfl rfl rfl hs.len ?_
 rw[←hkl]
 refine wk ?_
 show GoW _ _ _ _ _ _ _ _
 refine GoF.each xs.length (fun j F τ'=>∃l',Sl τ' (some 9) w kv∧Seqv (LO τ' d) l' hi (xs.drop j) (kv.drop j)∧hi≤τ'.next∧sat [(0,lv),(5,V),(6,w)] F) (by omega) ⟨lo,hs,hS,h1,rfl,rfl,rfl,trivial⟩ rfl rfl (fun j F τ' hj hI hi2 hm=>?_) (fun F τ' hI hi2=>?_)
 ·clear hs hS h1 H
  obtain⟨l',hs,hS,h1,hs'⟩:=hI
  refine GoF.norm ((59,nI j)::(58,nI xs.length)::[(0,lv),(5,V),(6,w)]) ⟨hi2,hm,hs'⟩ fun F=>?_
  rw[List.drop_eq_getElem_cons hj,List.drop_eq_getElem_cons (show j<kv.length by omega)] at hS
  obtain⟨c,c1,c2,c3,c4⟩:=hS
  obtain⟨m,w1,w2,cv,m1,m2,hv,hcv,hf⟩:=c3
  have hxm:=List.getElem_mem hj
  have hsm:=hsm _ hxm
  have hcl:=hcl _ hxm
  have hs0:=hs
  cases hs with
  |nil=>rw[hkl] at hj;exact absurd hj (Nat.not_lt_zero _)
  |sl o cap _ rest hg hcf hk=>
  obtain⟨r,t1,t2⟩:=take_at (rest:=rest) hcf j (show j<kv.length by omega)
  rw[hv] at t1 t2
  have hlen:kv.length=xs.length:=hkl.symm
  generalize xs[j]=x at *
  have hoh:hi≤o:=hwo o rfl
  generalize hcc:kv.flatMap AV.cells++rest=cc at hg t1
  have H:Has τ' [(o,cc)]:=Has.nil.cons hg (by simp)
  have t3:takeSh (some 4) (cc.drop (0+j*shN (some 9)+3))=some (.ag [.i .u8 (Int.ofNat x.f.op),.s x.f.name,w1,w2]):=by
   rw[Nat.zero_add,← List.drop_drop,t1];rfl
  have t8:takeSh none (cc.drop (0+j*shN (some 9)+8))=some cv:=by
   rw[Nat.zero_add,← List.drop_drop,t1];rfl
  refine wk ?_
  refine W.ix rfl rfl rfl rfl (idxSlA_sl (by omega)) ?_
  refine wk ?_
  refine W.ld H rfl rfl rfl (.head _) t3 ?_
  refine wk ?_
  refine W.cy rfl rfl rfl (OverForm_st hfn hO d x.f hsm _ m c τ' (by omega) hf) fun r' τ2 ⟨e2,C2⟩=>⟨_,e2,?_⟩
  clear H
  have hg2:=C2.2 o _ (.inr (by omega)) hg
  have H:Has τ2 [(o,cc)]:=Has.nil.cons hg2 (by simp)
  have hcv2:=hcv.keep (W':=fun o=>l'≤o∧o<m) (τ:=τ2) fun i c' hi' ho=>⟨hi',C2.2 _ _ (.inl hi'.2) ho⟩
  have c42:=c4.mono (A:=c) (B:=hi) (P':=LO τ2 d) (fun a a' t y ha hb hy=>hy.keep fun i c' a1 a2 ho=>C2.2 _ _ (.inr (by omega)) ho) (Nat.le_refl _) (Nat.le_refl _)
  have hn2:=C2.1
  refine wk ?_
  refine W.ix rfl rfl rfl rfl (idxSlA_sl (by omega)) ?_
  refine wk ?_
  refine W.ld H rfl rfl rfl (.head _) t8 ?_
  clear H hcv
  have hpl:(x.cs.map prC).length=x.cs.length:=List.length_map _
  have hsO:∀τ3,τ3.get o=some (.cells cc)→Sl τ3 (some 9) (.sl o 0 kv.length (some 9) cap) kv:=fun τ3 h=>.sl o cap kv rest (by rw[hcc];exact h) hcf hk
  generalize hps:x.cs.map prC=ps at hcv2 hpl
  cases hcv2 with
  |nil=>
   have H:Has τ2 []:=Has.nil
   refine wk ?_
   show GoW _ _ _ _ _ _ _ _
   refine GoF.each 0 (fun k F τ3=>τ3=τ2∧sat [(59,nI j),(58,nI xs.length),(0,lv),(5,V),(6,.sl o 0 kv.length (some 9) cap)] F) (by omega) ⟨rfl,rfl,rfl,rfl,rfl,rfl,trivial⟩ rfl rfl (fun k F τ3 hk' _ _ _=>absurd hk' (Nat.not_lt_zero _)) (fun F τ3 hI hi3=>?_)
   obtain⟨rfl,g59,g58,g0,g5,g6,_⟩:=hI
   exact⟨g59,g58,c,hsO _ hg2,c42,by omega,g0,g5,g6,trivial⟩
  |sl o2 cap2 _ rest2 hW hg3 hcf3 hk3 hne3=>
   have H:Has τ2 []:=Has.nil
   refine wk ?_
   rw[hpl]
   refine wk ?_
   show GoW _ _ _ _ _ _ _ _
   have hfl:=flat_len hcf3
   refine GoF.each x.cs.length (fun k F τ3=>(∃c',τ3.get o2=some (.cells c')∧ps.length*2≤c'.length)∧(∀i o',i≠o2→τ2.get i=some o'→τ3.get i=some o')∧τ2.next≤τ3.next∧sat [(10,nI j),(59,nI j),(58,nI xs.length),(0,lv),(5,V),(6,.sl o 0 kv.length (some 9) cap)] F) (by omega) ⟨⟨_,hg3,by rw[List.length_append,hfl];exact Nat.le_add_right _ _⟩,fun _ _ _ h=>h,Nat.le_refl _,rfl,rfl,rfl,rfl,rfl,rfl,trivial⟩ rfl rfl (fun k F τ3 hk' hI hi3 hm3=>?_) (fun F τ3 hI hi3=>?_)
   ·obtain⟨⟨c',hg4,hl4⟩,kp,hn3,hs'⟩:=hI
    refine GoF.norm ((74,nI k)::(73,nI x.cs.length)::[(10,nI j),(59,nI j),(58,nI xs.length),(0,lv),(5,V),(6,.sl o 0 kv.length (some 9) cap)]) ⟨hi3,hm3,hs'⟩ fun F=>?_
    have hg5:=kp o _ (by omega) hg2
    have H:Has τ3 [(o2,c'),(o,cc)]:=(Has.nil.cons hg5 (by simp)).cons hg4 (by simp;omega)
    refine wk ?_
    refine W.ix rfl rfl rfl rfl (idxSlA_sl (by omega)) ?_
    refine wk ?_
    refine W.ld H rfl rfl rfl (.tail _ (.head _)) t8 ?_
    refine wk ?_
    refine W.ix rfl rfl rfl rfl (idxSlA_sl (by omega)) ?_
    refine wk ?_
    obtain⟨c2',s1,s2⟩:=store_some (c:=c') (v:=(AV.i .i64 (-7)).cells) (off:=0+k*2+0) (by show 0+k*2+0+1≤c'.length;omega)
    refine W.st (c':=c2') H 0 rfl rfl rfl rfl rfl s1 fun τ4 n4 H k4=>?_
    refine wk ?_
    exact⟨rfl,rfl,⟨c2',H.get _ (.head _),by rw[s2];exact hl4⟩,fun i o' h1 ho=>k4 _ _ h1 (kp _ _ h1 ho),by omega,rfl,rfl,rfl,rfl,rfl,rfl,trivial⟩
   ·obtain⟨_,kp,hn3,g10,g59,g58,g0,g5,g6,_⟩:=hI
    refine⟨g59,g58,c,hsO _ (kp _ _ (by omega) hg2),c42.mono (A:=c) (B:=hi) (fun a a' t y ha hb hy=>hy.keep fun i c' a1 a2 ho=>kp _ _ (by omega) ho) (Nat.le_refl _) (Nat.le_refl _),by omega,g0,g5,g6,trivial⟩
 ·obtain⟨l',_,_,_,g0,g5,_⟩:=hI
  exact hQ _ _ ⟨g0,g5,trivial⟩
end
theorem OutV.mr{d:Nat}{σ τ:St}{xs:List Ln}{w:AV}(h:OutV d σ xs w)(M:Mr σ τ):OutV d τ xs w:=by
 obtain⟨kv,lo,hi,h1,h2,h3,h4,h5⟩:=h
 exact⟨kv,lo,hi,by have:=M.1;omega,h2.keep fun i o _=>M.2 i o,h3.mono (A:=lo) (B:=hi) (fun a c t x _ _ hx=>hx.keep fun i c _ _ ho=>M.2 _ _ ho) (Nat.le_refl _) (Nat.le_refl _),h4,h5⟩
structure Pm where
 hy:AV
 n:Nat
 c1:AV
 c2:AV
 c3:AV
 c4:AV
 fr:List Nat
 cl:Bool
abbrev Pm.C(p:Pm):List AV:=[p.hy,p.c1,p.c2,p.c3,p.c4,.s p.fr,.b p.cl]
def Pm.bx(p:Pm):Bool:=decide (0<p.n)||(!p.fr.isEmpty||p.cl)
section
variable {b:Base}{K:Nat→List AV→AV→Prop}
theorem Law_go(hfn:∀g ar r r',K g ar r→K g ar r'→r=r')(hO:HOv b K)(hGi:Here (b.envK K) n_Given c_Given)(hTa:Here (b.envK K) n_taken c_taken){L':Option (List LnG)}{p:Pm}{d e:Nat}{xs ys:List Ln}
  (hsn:∀τ:St,snapshot τ (b.fz+1000) (lgA L')=some (lgA L')) (hsn2:fewG (L'.getD [])=true→∀τ:St,snapshot τ (b.fz+1000) (cpsA true (L'.getD []))=some (cpsA true (L'.getD []))) (hsp:∀τ:St,snapshot τ (b.fz+1000) (.ag p.C)=some (.ag p.C))
  (hpl:∀τ,lenA τ 1 p.hy=some p.n) (hpv:AV.eqb (b.fz+1000) p.hy p.hy=true) (hpc:p.hy.cells=[p.hy]) (hpf:Go.Lyc.conf none p.hy=true)
  (eF:b.ext n_Few18=0∧b.pure n_Few18=true) (kF:K n_Few18 [lgA L'] (.b (fewG (L'.getD [])))) (eA:b.ext n_awake18=0∧b.pure n_awake18=true) (kA:K n_awake18 [] (.b true))
  (eC:b.ext n_Copy18=0∧b.pure n_Copy18=true) (kC:fewG (L'.getD [])=true→K n_Copy18 [lgA L'] (cpsA true (L'.getD [])))
  (eS:b.ext n_Same=0∧b.pure n_Same=true) (kS1:fewG (L'.getD [])=true→K n_Same [cpsA true (L'.getD []),lgA L'] (.b true)) (kS2:fewG (L'.getD [])=true→K n_Same [rgsA (xs.map fun x=>nzG x.G),rgsA (ys.map Ln.G)] (.b true))
  (eB:b.ext n_fBoxed=0∧b.pure n_fBoxed=true) (kB:K n_fBoxed [.ag p.C] (.b p.bx))
  (hl:fewG (L'.getD [])=true→(L'.getD []).length<2^20) (hcl:fewG (L'.getD [])=true→∀x∈L'.getD [],x.cs.length<2^20) (hxl:xs.length<2^20) (hyl:ys.length<2^20) (hxc:∀x∈xs,x.cs.length<2^20) (hyc:∀x∈ys,x.cs.length<2^20)
  (hd:fewG (L'.getD [])=true→2*d≤b.fz+999) (hsm:∀x∈xs,Fm.sm (b.fz+1000) d x.f) (hsf:fewG (L'.getD [])=true→∀x∈ys,SnF (b.fz+998) x.f)
  (hcut:fewG (L'.getD [])=true→∀σ,GoesCall (b.envK K) 0 (.f (.func n_fCut) [] []) [cpsA true (L'.getD [])] σ (fun r τ=>∃w,r= .ok (.tu [w,nI e])∧OutV d τ xs w∧Mr σ τ))
  (hrc:fewG (L'.getD [])=true→∀σ V,GvS σ V (L'.getD [])→GoesCall (b.envK K) 0 (.f (.func n_rCut) [] []) [V] σ (fun r τ=>∃w,r= .ok (.tu [w,nI e])∧GvS τ w (ys.map Ln.G)∧Mr σ τ))
  (body:ACode) (hb:c_FitchCuts.body=some body):GoF (b.envK K) c_FitchCuts.ntmps body (argF [lgA L',.ag p.C]) ⟨.nil,0⟩ (Done 4 (.b true)):=by
 cases hb
 refine W.args fun z=>?_
 have H:Has (⟨.nil,0⟩:St) []:=Has.nil
 refine wk ?_
 refine W.bx (c:=p.C) H rfl rfl rfl rfl rfl rfl fun τ n1 H k1=>?_
 refine wk ?_
 refine W.kn hfn eF kF rfl rfl rfl (snaps1 (hsn _)) ?_
 cases hfw:fewG (L'.getD []) with
 |false=>
  refine wk ?_
  refine W.kn hfn eA kA rfl rfl rfl rfl ?_
  refine wk ?_
  exact GoF.ret ⟨rfl,rfl⟩
 |true=>
  refine wk ?_
  refine W.kn hfn eC (kC hfw) rfl rfl rfl (snaps1 (hsn _)) ?_
  refine wk ?_
  refine W.cy rfl rfl rfl (hcut hfw τ) fun r τ2 ⟨w,e1,hw,M2⟩=>⟨_,e1,?_⟩
  have H:=H.keep M2.2
  refine wk ?_
  refine W.cy rfl rfl rfl (Given_go rfl hGi (σ:=τ2) InV.tl (hl hfw) (hcl hfw)) fun r τ3 ⟨V2,e2,hV2,M3,_⟩=>⟨_,e2,?_⟩
  have H:=H.keep M3.2
  refine wk ?_
  refine W.cy rfl rfl rfl (hrc hfw τ3 V2 hV2) fun r τ4 ⟨w2,e3,hw2,M4⟩=>⟨_,e3,?_⟩
  have H:=H.keep M4.2
  have hw4:=(hw.mr M3).mr M4
  refine wo ?_
  refine W.nil ?_
  refine W.sq ?_
  refine W.cutM (α:=Unit) (fun _=>[(0,lgA L'),(5,cpsA true (L'.getD [])),(6,w)]) (fun _ τ'=>OutV d τ' xs w) ?_ ?_
  ·refine wk ?_
   refine W.cy rfl rfl rfl (Given_go taken_eq hTa (σ:=τ4) hw2.inv (by rw[List.length_map];exact hyl) (fun x hx=>by
    obtain⟨y,hy,rfl⟩:=List.mem_map.1 hx
    have:y.G.cs.length=y.cs.length:=List.length_map _
    rw[this];exact hyc y hy)) fun r τ5 ⟨V3,e4,hV3,M5,_⟩=>⟨_,e4,?_⟩
   have H:=H.keep M5.2
   have hw5:=hw4.mr M5
   refine wk ?_
   refine W.kn hfn eS (kS2 hfw) rfl rfl rfl (snaps2 (hw5.snap (n:=b.fz+995) (hd hfw)) (hV3.snap (n:=b.fz+995) fun x hx=>by
    obtain⟨y,hy,rfl⟩:=List.mem_map.1 hx
    exact hsf hfw y hy)) ?_
   refine wk ?_
   refine W.ldw H rfl rfl rfl (.head _) rfl hpv ?_
   refine W.pw (v:=nI p.n) rfl rfl rfl (fun s=>op_len rfl (hpl s)) (eqb1 rfl) ?_
   obtain⟨hy,pn,p1,p2,p3,p4,fr,cl⟩:=p
   simp only[Pm.bx] at *
   have sn:∀l:List Nat,binop .neq (.s l) (.s [])=some (.b (!l.isEmpty)):=fun l=>by cases l<;>rfl
   by_cases h0:0<pn
   ·rw[decide_eq_true h0,Bool.true_or] at kB
    refine wk ?_
    refine W.kn hfn eB kB rfl rfl rfl (snaps1 (hsp _)) ?_
    refine wk ?_
    exact⟨rfl,(),hw5,rfl,rfl,rfl,trivial⟩
   ·rw[decide_eq_false h0,Bool.false_or] at kB
    refine wk ?_
    refine W.kn hfn eB kB rfl rfl rfl (snaps1 (hsp _)) ?_
    refine wk ?_
    refine W.bin rfl rfl rfl rfl (sn fr) ?_
    cases fr with
    |cons c t=>
     refine wk ?_
     exact⟨rfl,(),hw5,rfl,rfl,rfl,trivial⟩
    |nil=>
     refine wk ?_
     cases cl with
     |true=>
      refine wk ?_
      exact⟨rfl,(),hw5,rfl,rfl,rfl,trivial⟩
     |false=>
      refine wk ?_
      exact⟨rfl,(),hw5,rfl,rfl,rfl,trivial⟩
  rintro _ F τ6 hw6
  refine GoF.seq ?_
  refine Law_over hfn hO hsm hxc hxl hw6 fun F τ7 hs7=>?_
  refine GoF.norm _ hs7 fun F=>?_
  have H:Has τ7 []:=Has.nil
  refine wk ?_
  refine W.kn hfn eS (kS1 hfw) rfl rfl rfl (snaps2 (hsn2 hfw _) (hsn _)) ?_
  refine wk ?_
  refine W.kn hfn eA kA rfl rfl rfl rfl ?_
  refine wk ?_
  exact GoF.ret ⟨rfl,rfl⟩
end
end
section
variable [Tok][TokOk]
open Go.RowKit Go.Lyc.T
inductive OldR:AV→AV→Prop
 |rf (v:AV):OldR v v
 |tl {o:Bool} {sh:Option Nat} {xs xs':List AV} (hl:xs'.length=xs.length) (hs:∀i (h:i<xs.length) (h':i<xs'.length),(xs'[i]).cells.length=(xs[i]).cells.length∧(conf sh xs[i]=true→conf sh xs'[i]=true)∧∀x∈(xs'[i]).cells,conf none x=true) (hr:∀i (h:i<xs.length) (h':i<xs'.length) j (hj:j<(xs[i]).cells.length) (hj':j<(xs'[i]).cells.length),OldR ((xs[i]).cells[j]) ((xs'[i]).cells[j])):OldR (.tl o sh xs) (.tl true sh xs')
theorem R.old{v v':AV}(h':OldR v v'):∀ {w:World} {m:Nat→Option Nat} {O:Nat→Prop} {B:Nat} {u:Value},R w m O B v u→R w m O B v' u:=by
 induction h' with
 |rf v=>exact fun h=>h
 | @tl o sh xs xs' hl hs hr ih=>
  intro w m O B u h
  cases h with
  |tlz=>
   have:xs'=[]:=List.eq_nil_of_length_eq_zero hl
   subst this
   exact .tlz
  |tl ys hO hs0 hc hr0 hl0 hf hsp=>
   have hne:xs'≠[]→xs≠[]:=fun h e=>h (List.eq_nil_of_length_eq_zero (by rw[hl,e];rfl))
   rw[←hl]
   refine .tl ys (fun h=>⟨(hO (hne h)).1,(hO (hne h)).2.1,fun h=>by cases h⟩) (fun i h=>?_) (fun i h j hj=>?_) (fun i h j hj=>?_) (by omega) (fun v hv x hx=>?_) (fun h=>hsp (hne h))
   ·exact(hs i (by omega) h).2.1 (hs0 i (by omega))
   ·exact hc i (by omega) j (by have:=(hs i (by omega) h).1;omega)
   ·exact ih i (by omega) h j (by have:=(hs i (by omega) h).1;omega) hj (hr0 i (by omega) j (by have:=(hs i (by omega) h).1;omega))
   ·obtain⟨i,hi,rfl⟩:=List.getElem_of_mem hv
    exact(hs i (by omega) hi).2.2 x hx
theorem SpecEntry.old{P:Program}{env:Env}{B0 g:Nat}{ar:List AV}{r r':AV}(h:SpecEntry P env B0 g ar r)(ho:OldR r r'):SpecEntry P env B0 g ar r':=
 ⟨h.1,fun k rd w us a b c=>CallsIn.mono (h.2 k rd w us a b c) fun e w1 ⟨u,e1,hR,rest⟩=>⟨u,e1,R.old ho hR,rest⟩⟩
def OldL:List AV→List AV→Prop
 |[],[]=>True
 |x::xs,y::ys=>OldR x y∧OldL xs ys
 |_,_=>False
theorem OldL.len:∀ {xs ys:List AV},OldL xs ys→xs.length=ys.length
 |[],[],_=>rfl
 |_::_,_::_,h=>congrArg (· +1) (OldL.len h.2)
theorem OldL.get:∀ {xs ys:List AV},OldL xs ys→∀j (h:j<xs.length) (h':j<ys.length),OldR xs[j] ys[j]
 |_::_,_::_,h,0,_,_=>h.1
 |_::_,_::_,h,j+1,h1,h2=>OldL.get h.2 j (by simpa using h1) (by simpa using h2)
theorem OldR.map{α:Type}{o:Bool}{n:Nat}{f g:α→List AV}{l:List α}(h:∀x∈l,(g x).length=n∧(∀y∈g x,conf none y=true)∧OldL (f x) (g x)):OldR (.tl o (some n) (l.map fun x=>.ag (f x))) (.tl true (some n) (l.map fun x=>.ag (g x))):=by
 refine .tl (by rw[List.length_map,List.length_map]) (fun i h1 h2=>?_) (fun i h1 h2 j hj hj'=>?_)
 ·have h3:i<l.length:=by rwa[List.length_map] at h1
  obtain⟨a1,a2,a3⟩:=h _ (List.getElem_mem h3)
  rw[List.getElem_map,List.getElem_map]
  refine⟨a3.len.symm,fun _=>?_,a2⟩
  show Nat.beq (g l[i]).length n=true
  rw[a1];exact Nat.beq_refl n
 ·have h3:i<l.length:=by rwa[List.length_map] at h1
  obtain⟨a1,a2,a3⟩:=h _ (List.getElem_mem h3)
  have e1:((l.map fun x=>AV.ag (f x))[i]'h1).cells=f l[i]:=by rw[List.getElem_map];rfl
  have e2:((l.map fun x=>AV.ag (g x))[i]'h2).cells=g l[i]:=by rw[List.getElem_map];rfl
  simp only[e1,e2]
  exact a3.get j (by rw[e1] at hj;exact hj) (by rw[e2] at hj';exact hj')
theorem cf_tms{o:Bool}{a:Option (List Tm)}:conf none (tmsA o a)=true:=by cases a<;>rfl
theorem cf_fms{o:Bool}{a:Option (List Fm)}:conf none (fmsA o a)=true:=by cases a<;>rfl
theorem tmsA_map(o:Bool)(l:List Tm):tmsA o (some l)= .tl o (some 3) (l.map fun t=>.ag (tcA o t)):=by
 show AV.tl o (some 3) (l.map (Tm.A o))=_
 rw[show l.map (Tm.A o)=l.map fun t=>.ag (tcA o t) from List.map_congr_left fun t _=>tAc o t]
abbrev fcO(o:Bool)(F:Fm):List AV:=[.i .u8 (Int.ofNat F.op),.s F.name,tmsA o F.oargs,fmsA o F.osub]
theorem fAo'(o:Bool)(F:Fm):F.A o= .ag (fcO o F):=by unfold Fm.A;rw[Fm.cells_eq]
theorem fmsA_map(o:Bool)(l:List Fm):fmsA o (some l)= .tl o (some 4) (l.map fun t=>.ag (fcO o t)):=by
 show AV.tl o (some 4) (l.map (Fm.A o))=_
 rw[show l.map (Fm.A o)=l.map fun t=>.ag (fcO o t) from List.map_congr_left fun t _=>fAo' o t]
theorem old_tms:∀(d:Nat) (a:Option (List Tm)),(∀t∈a.getD [],t.dep≤d)→OldR (tmsA false a) (tmsA true a)
 |_,none,_=>.rf _
 |0,some l,h=>by
  cases l with
  |nil=>exact .map (n:=3) (f:=tcA false) (g:=tcA true) (l:=[]) fun x hx=>by cases hx
  |cons t l=>have:=h t (by simp);rw[Tm.dep_eq] at this;omega
 |d+1,some l,h=>by
  rw[tmsA_map,tmsA_map]
  refine .map fun t ht=>⟨rfl,fun y hy=>?_,.rf _,.rf _,old_tms d t.oargs fun u hu=>?_,trivial⟩
  ·simp only[List.mem_cons,List.not_mem_nil,or_false] at hy
   rcases hy with rfl|rfl|rfl
   ·rfl
   ·rfl
   ·exact cf_tms
  ·have h1:=h t ht
   have:=Tm.dep_arg (t:=t) hu
   omega
theorem old_fms:∀(d:Nat) (a:Option (List Fm)),(∀t∈a.getD [],t.dep≤d)→OldR (fmsA false a) (fmsA true a)
 |_,none,_=>.rf _
 |0,some l,h=>by
  cases l with
  |nil=>exact .map (n:=4) (f:=fcO false) (g:=fcO true) (l:=[]) fun x hx=>by cases hx
  |cons t l=>have:=h t (by simp);rw[Fm.dep_eq] at this;omega
 |d+1,some l,h=>by
  rw[fmsA_map,fmsA_map]
  refine .map fun t ht=>⟨rfl,fun y hy=>?_,.rf _,.rf _,old_tms d t.oargs fun u hu=>?_,old_fms d t.osub fun u hu=>?_,trivial⟩
  ·simp only[List.mem_cons,List.not_mem_nil,or_false] at hy
   rcases hy with rfl|rfl|rfl|rfl
   ·rfl
   ·rfl
   ·exact cf_tms
   ·exact cf_fms
  ·have h1:=h t ht
   have:=Fm.dep_arg (f:=t) hu
   omega
  ·have h1:=h t ht
   have:=Fm.dep_sub (f:=t) hu
   omega
theorem old_cps(L:List LnG):OldR (cpsA false L) (cpsA true L):=by
 cases L with
 |nil=>exact .rf _
 |cons x l=>
  show OldR (.tl false (some 9) ((x::l).map (cpA false))) (.tl true (some 9) ((x::l).map (cpA true)))
  refine .map (n:=9) (f:=fun x:LnG=>[.i .i64 x.dp,.i .i64 x.op,.b x.hyp,.i .u8 (Int.ofNat x.f.nz.op),.s x.f.nz.name,tmsA false x.f.nz.oargs,fmsA false x.f.nz.osub,.s x.rule,.tl false (some 2) (x.cs.map cgC)])
   (g:=fun x:LnG=>[.i .i64 x.dp,.i .i64 x.op,.b x.hyp,.i .u8 (Int.ofNat x.f.nz.op),.s x.f.nz.name,tmsA true x.f.nz.oargs,fmsA true x.f.nz.osub,.s x.rule,.tl true (some 2) (x.cs.map cgC)]) fun y _=>⟨rfl,fun z hz=>?_,.rf _,.rf _,.rf _,.rf _,.rf _,old_tms (Tm.deps y.f.nz.args) _ fun u hu=>Tm.dep_mem hu,old_fms (Fm.deps y.f.nz.sub) _ fun u hu=>Fm.dep_mem hu,.rf _,?_,trivial⟩
  ·simp only[List.mem_cons,List.not_mem_nil,or_false] at hz
   rcases hz with rfl|rfl|rfl|rfl|rfl|rfl|rfl|rfl|rfl<;>first|rfl|exact cf_tms|exact cf_fms
  ·exact .map (n:=2) (f:=fun c:Int×Int=>[.i .i64 c.1,.i .i64 c.2]) (g:=fun c:Int×Int=>[.i .i64 c.1,.i .i64 c.2]) fun c _=>⟨rfl,fun z hz=>by simp only[List.mem_cons,List.not_mem_nil,or_false] at hz;rcases hz with rfl|rfl<;>rfl,.rf _,.rf _,trivial⟩
theorem entryD{P:Program}{b:Base}{K:Nat→List AV→AV→Prop}(hb:BaseOk P b)(hK:KOk P b K){g:Nat}{fn:AFunc}{body:ACode}{ar:List AV}(r:AV)(hf:b.funcs.get g=some fn)(hbd:fn.body=some body)
  (hn:(Nat.beq ar.length fn.nargs&&Nat.ble ar.length fn.ntmps)=true) (hd:allB (fun r=>Nat.blt r.1 fn.ntmps) fn.results=true) {fr:Nat} (hr:freshA fr r=true) (hrr:AV.eqb (b.fz+1000) r r=true)
  (h:GoF (b.envK K) fn.ntmps body (argF ar) ⟨.nil,0⟩ (DoneR fn.results r)) (B0:Nat):SpecEntry P (b.env []) B0 g ar r:=by
 have hle:ar.length≤fn.ntmps:=by
  simp only[Bool.and_eq_true] at hn
  exact Nat.le_of_ble_eq_true hn.2
 refine spec_of_goes (env:=b.envK K) (m:=b.fz+1000) (Nat.le_refl _) ⟨fun g af hg=>FT.get_all hb.funcs g af hg⟩ (fun B0 g ar r hs=>hK g ar r (specOf_mem hs) B0) hb.ext hb.orders hf hbd hn hr ((h _ (isFr_start hle)).mono fun x fr σ' ⟨f,h1,h2,v,h3,h4⟩=>?_) hrr B0
 subst h2
 refine⟨.ok v,_,endF_all h1 hd h3,_,rfl,?_⟩
 have up:∀k,freeze σ' 0 (k+1000) v=some r:=fun k=>by
  induction k with
  |zero=>rw[Nat.zero_add];exact h4
  |succ k ih=>rw[show k+1+1000=k+1000+1 by omega];exact freeze_mono _ _ _ ih
 exact up b.fz
theorem eqb_ag{n:Nat}{l:List AV}(h:∀x∈l,AV.eqb n x x=true):AV.eqb (n+1) (.ag l) (.ag l)=true:=all2_refl h
theorem eqb_tl{n:Nat}{o:Bool}{sh:Option Nat}{l:List AV}(h:∀x∈l,AV.eqb n x x=true):AV.eqb (n+1) (.tl o sh l) (.tl o sh l)=true:=by
 show((o==o)&&decide (sh=sh)&&all2 (AV.eqb n) l l)=true
 rw[all2_refl h];simp
def Res(n:Nat)(v:AV):Prop:=freshA n v=true∧AV.eqb n v v=true
theorem Res.leaf{n:Nat}{v:AV}(h1:freshA (n+1) v=true)(h:v.lf=true):Res (n+1) v:=⟨h1,eqb1 h⟩
theorem Res.nI{n:Nat}(k:Nat):Res (n+1) (nI k):=⟨rfl,eqb1 rfl⟩
theorem Res.nil{n:Nat}:Res (n+1) .nilsl:=⟨rfl,rfl⟩
theorem Res.ag{n:Nat}{l:List AV}(h:∀x∈l,Res n x):Res (n+1) (.ag l):=⟨by rw[freshA_succ];exact allB_of fun x hx=>(h x hx).1,eqb_ag fun x hx=>(h x hx).2⟩
theorem Res.ofAg{n:Nat}{l:List AV}(h:Res (n+1) (.ag l)):∀x∈l,freshA n x=true:=fun x hx=>by
 have:=h.1
 rw[freshA_succ] at this
 exact allB_mem this x hx
theorem Res.sl{n:Nat}{sh:Option Nat}{l:List AV}(h:∀x∈l,(∀y∈x.cells,freshA n y=true)∧AV.eqb n x x=true):Res (n+1) (slA false sh l):=by
 cases l with
 |nil=>exact .nil
 |cons x l=>
  refine⟨?_,eqb_tl fun y hy=>(h y hy).2⟩
  show freshA (n+1) (.tl false sh (x::l))=true
  rw[freshA_succ]
  show(true&&allB (fun x=>allB (freshA n) x.cells) (x::l))=true
  rw[Bool.true_and]
  exact allB_of fun y hy=>allB_of fun z hz=>(h y hy).1 z hz
theorem Res.sl1{n:Nat}{sh:Option Nat}{l:List AV}(h:∀x∈l,x.cells=[x]∧Res n x):Res (n+1) (slA false sh l):=.sl fun x hx=>⟨fun y hy=>by rw[(h x hx).1,List.mem_singleton] at hy;rw[hy];exact(h x hx).2.1,(h x hx).2.2⟩
theorem one1{a b:AV}(h:[a]=[b]):a=b:=by injection h
theorem one2{a b c d:AV}(h:[a,b]=[c,d]):a=c∧b=d:=by injection h with h1 h2;injection h2 with h2;exact⟨h1,h2⟩
abbrev HB(b:Base)(g:Nat)(c:AFunc):Prop:=b.funcs.get g=some c∧b.ext g=0∧b.pure g=false
abbrev PB(b:Base)(g:Nat)(c:AFunc):Prop:=b.funcs.get g=some c∧b.ext g=0∧b.pure g=true
theorem HB.h{b:Base}{K:Nat→List AV→AV→Prop}{g:Nat}{c:AFunc}(h:HB b g c):Here (b.envK K) g c:=⟨h.1,h.2.1,h.2.2⟩
theorem one3{a c d a' c' d':AV}(h:[a,c,d]=[a',c',d']):a=a'∧c=c'∧d=d':=by
 injection h with h1 h
 injection h with h2 h
 injection h with h3 _
 exact⟨h1,h2,h3⟩
theorem nI_inj'{a c:Nat}(h:nI a=nI c):a=c:=by injection h with _ h;exact Int.ofNat.inj h
theorem pr_inj{x y:Nat×Nat}(h:(.ag [nI x.1,nI x.2]:AV)= .ag [nI y.1,nI y.2]):x=y:=by
 injection h with h
 have h:=one2 h
 exact Prod.ext (nI_inj' h.1) (nI_inj' h.2)
theorem tc_inj{t u:Tm}(h:(.ag (tcA true t):AV)= .ag (tcA true u)):t=u:=by
 obtain⟨v,n,a⟩:=t
 obtain⟨v',n',a'⟩:=u
 injection h with h
 have h:=one3 h
 have h1:v=v':=by injection h.1
 have h2:n=n':=by injection h.2.1
 have h3:a=a':=tmsA_inj (o:=true) h.2.2
 rw[h1,h2,h3]
theorem fc_inj{t u:Fm}(h:(.ag (fc t):AV)= .ag (fc u)):t=u:=Fm.A_inj (o:=true) (by rw[fA,fA];exact h)
theorem fmTs_inj{l m:List Fm}(h:slA true (some 4) (l.map fmT)=slA true (some 4) (m.map fmT)):l=m:=by
 have aux:∀ {l m:List Fm},l.map fmT=m.map fmT→l=m:=by
  intro l
  induction l with
  |nil=>intro m h;cases m with|nil=>rfl|cons _ _=>cases h
  |cons x l ih=>intro m h;cases m with
   |nil=>cases h
   |cons y m=>
    injection h with h1 h2
    rw[fc_inj h1,ih h2]
 exact aux (slA_inj h)
theorem fmsA_inj{a c:Option (List Fm)}(h:fmsA true a=fmsA true c):a=c:=by
 have h1:(Fm.mk 0 [] none a).A true=(Fm.mk 0 [] none c).A true:=by
  rw[fA,fA]
  show AV.ag [_,_,_,fmsA true a]=AV.ag [_,_,_,fmsA true c]
  rw[h];rfl
 have:=Fm.A_inj h1
 injection this
structure FC18(b:Base):Prop where
 starts:HB b n_starts c_starts
 EqualI:HB b n_EqualI c_EqualI
 IndexI:HB b n_IndexI c_IndexI
 ContainsI:HB b n_ContainsI c_ContainsI
 CloneI:HB b n_CloneI c_CloneI
 isBox:HB b n_isBox c_isBox
 assumptions:HB b n_assumptions c_assumptions
 beside:HB b n_beside c_beside
 needed:HB b n_needed c_needed
 fforms:HB b n_fforms c_fforms
 fopen:HB b n_fopen c_fopen
 around:HB b n_around c_around
 around1:HB b n_around1 c_around1
 wanted:HB b n_wanted c_wanted
 wanted1:HB b n_wanted1 c_wanted1
 copyLT:HB b n_copyLT c_copyLT
 copyT:HB b n_copyT c_copyT
 copyLF:HB b n_copyLF c_copyLF
 Copy:HB b n_Copy c_Copy
 OverTerm:HB b n_OverTerm c_OverTerm
 OverTerms:HB b n_OverTerms c_OverTerms
 OverForm:HB b n_OverForm c_OverForm
 OverForms:HB b n_OverForms c_OverForms
 Given:HB b n_Given c_Given
 taken:HB b n_taken c_taken
 fCut:HB b n_fCut c_fCut
 rCut:HB b n_rCut c_rCut
 rAround:HB b n_rAround c_rAround
 misshapen:PB b n_misshapen c_misshapen
 shaped:PB b n_shaped c_shaped
 rShaped:PB b n_rShaped c_rShaped
 rError:PB b n_rError c_rError
 rEnd:PB b n_rEnd c_rEnd
 rHyps:PB b n_rHyps c_rHyps
 rCanBox:PB b n_rCanBox c_rCanBox
 rNeeded:PB b n_rNeeded c_rNeeded
 CopyTerm:PB b n_CopyTerm c_CopyTerm
 CopyTerms:PB b n_CopyTerms c_CopyTerms
 CopyForm:PB b n_CopyForm c_CopyForm
 CopyForms:PB b n_CopyForms c_CopyForms
 SameTerm:PB b n_SameTerm c_SameTerm
 SameTerms:PB b n_SameTerms c_SameTerms
 SameForm:PB b n_SameForm c_SameForm
 SameForms:PB b n_SameForms c_SameForms
 Same:PB b n_Same c_Same
 terms8:PB b n_terms8 c_terms8
 size8:PB b n_size8 c_size8
 FewForms:PB b n_FewForms c_FewForms
 Few10:PB b n_Few10 c_Few10
 Few18:PB b n_Few18 c_Few18
 markText:PB b n_markText c_markText
 markTerm:PB b n_markTerm c_markTerm
 markForm:PB b n_markForm c_markForm
 Copy18:PB b n_Copy18 c_Copy18
 fBoxed:PB b n_fBoxed c_fBoxed
 awake18:b.ext n_awake18=0∧b.pure n_awake18=true
structure Fa where
 g:Nat
 X:Type
 a:X→List AV
 r:X→AV
 inj:∀x y,a x=a y→r x=r y
def f_CopyTerm(L':Option (List LnG))(p:Pm):Fa:=⟨n_CopyTerm,Tm,fun t=>[.ag (tcA true t)],fun t=>.ag (tcA false t.nz),fun x y h=>by rw[tc_inj (one1 h)]⟩
def f_CopyTerms(L':Option (List LnG))(p:Pm):Fa:=⟨n_CopyTerms,Option (List Tm),fun a=>[tmsA true a],fun a=>slA false (some 3) ((a.getD []).map fun t=>.ag (tcA false t.nz)),fun x y h=>by rw[tmsA_inj (one1 h)]⟩
def f_CopyForm(L':Option (List LnG))(p:Pm):Fa:=⟨n_CopyForm,Fm,fun t=>[.ag (fc t)],fun t=>.ag (fcN t.nz),fun x y h=>by rw[fc_inj (one1 h)]⟩
def f_CopyForms(L':Option (List LnG))(p:Pm):Fa:=⟨n_CopyForms,Option (List Fm),fun a=>[fmsA true a],fun a=>slA false (some 4) ((a.getD []).map fun t=>.ag (fcN t.nz)),fun x y h=>by rw[fmsA_inj (one1 h)]⟩
def f_SameTerm(L':Option (List LnG))(p:Pm):Fa:=⟨n_SameTerm,List AV,fun x=>x,fun _=>.b true,fun _ _ _=>rfl⟩
def f_SameTerms(L':Option (List LnG))(p:Pm):Fa:=⟨n_SameTerms,List AV,fun x=>x,fun _=>.b true,fun _ _ _=>rfl⟩
def f_SameForm(L':Option (List LnG))(p:Pm):Fa:=⟨n_SameForm,List AV,fun x=>x,fun _=>.b true,fun _ _ _=>rfl⟩
def f_SameForms(L':Option (List LnG))(p:Pm):Fa:=⟨n_SameForms,List AV,fun x=>x,fun _=>.b true,fun _ _ _=>rfl⟩
def f_Same(L':Option (List LnG))(p:Pm):Fa:=⟨n_Same,List AV,fun x=>x,fun _=>.b true,fun _ _ _=>rfl⟩
def f_awake18(L':Option (List LnG))(p:Pm):Fa:=⟨n_awake18,List AV,fun x=>x,fun _=>.b true,fun _ _ _=>rfl⟩
def f_terms8(L':Option (List LnG))(p:Pm):Fa:=⟨n_terms8,Tm×Nat,fun x=>[.ag (tcA true x.1),nI x.2],fun x=>nI (min x.1.cnt (x.2+1)),fun x y h=>by have h:=one2 h;rw[tc_inj h.1,nI_inj' h.2]⟩
def f_size8(L':Option (List LnG))(p:Pm):Fa:=⟨n_size8,Fm×Nat,fun x=>[.ag (fc x.1),nI x.2],fun x=>nI (min x.1.cnt (x.2+1)),fun x y h=>by have h:=one2 h;rw[fc_inj h.1,nI_inj' h.2]⟩
def f_FewForms(L':Option (List LnG))(p:Pm):Fa:=⟨n_FewForms,List Fm,fun L=>[slA true (some 4) (L.map fmT)],fun L=>.b (decide (Fm.cnts L≤600)),fun x y h=>by rw[fmTs_inj (one1 h)]⟩
def f_Few10(L':Option (List LnG))(p:Pm):Fa:=⟨n_Few10,List Fm,fun L=>[slA true (some 4) (L.map fmT)],fun L=>.b (decide (Fm.cnts L≤600)),fun x y h=>by rw[fmTs_inj (one1 h)]⟩
def f_Few18(L':Option (List LnG))(p:Pm):Fa:=⟨n_Few18,Unit,fun _=>[lgA L'],fun _=>.b (fewG (L'.getD [])),fun _ _ _=>rfl⟩
def f_shaped(L':Option (List LnG))(p:Pm):Fa:=⟨n_shaped,Nat,fun k=>[cpsA true (L'.getD []),nI k],fun k=>.b (shK ((L'.getD []).map nzG) k),fun x y h=>by have h:=one2 h;rw[nI_inj' h.2]⟩
def f_misshapen(L':Option (List LnG))(p:Pm):Fa:=⟨n_misshapen,Unit,fun _=>[cpsA true (L'.getD [])],fun _=>nI (fbad (L'.getD [])),fun _ _ _=>rfl⟩
def f_rShaped(L':Option (List LnG))(p:Pm):Fa:=⟨n_rShaped,Nat,fun k=>[rgsA (L'.getD []),nI k],fun k=>.b (shK (L'.getD []) k),fun x y h=>by have h:=one2 h;rw[nI_inj' h.2]⟩
def f_rError(L':Option (List LnG))(p:Pm):Fa:=⟨n_rError,Unit,fun _=>[rgsA (L'.getD [])],fun _=>nI (errG (L'.getD [])),fun _ _ _=>rfl⟩
def f_rEnd(L':Option (List LnG))(p:Pm):Fa:=⟨n_rEnd,Nat×Nat,fun x=>[rnsA ((L'.getD []).map toLn),nI x.1,nI x.2],fun x=>nI (endLr ((L'.getD []).map toLn) x.1 x.2),fun x y h=>by have h:=one3 h;rw[nI_inj' h.2.1,nI_inj' h.2.2]⟩
def f_rHyps(L':Option (List LnG))(p:Pm):Fa:=⟨n_rHyps,Nat×Nat,fun x=>[rnsA ((L'.getD []).map toLn),nI x.1,nI x.2],fun x=>slA false none ((hypsR ((L'.getD []).map toLn) x.1 x.2).map nI),fun x y h=>by have h:=one3 h;rw[nI_inj' h.2.1,nI_inj' h.2.2]⟩
def f_rCanBox(L':Option (List LnG))(p:Pm):Fa:=⟨n_rCanBox,(Nat×Nat)×Nat,fun x=>[rnsA ((L'.getD []).map toLn),.ag [nI x.1.1,nI x.1.2],nI x.2],fun x=>.b (canBoxR ((L'.getD []).map toLn) x.1 x.2),fun x y h=>by have h:=one3 h;rw[pr_inj h.2.1,nI_inj' h.2.2]⟩
def f_rNeeded(L':Option (List LnG))(p:Pm):Fa:=⟨n_rNeeded,Unit,fun _=>[rnsA ((L'.getD []).map toLn)],fun _=>slA false none ((false::wanL ((L'.getD []).map toLn)).map AV.b),fun _ _ _=>rfl⟩
def f_markText(L':Option (List LnG))(p:Pm):Fa:=⟨n_markText,Nat×Nat,fun x=>[nI x.1,nI x.2],fun x=>.s (mkS x.1 x.2),fun x y h=>by have h:=one2 h;rw[nI_inj' h.1,nI_inj' h.2]⟩
def f_markTerm(L':Option (List LnG))(p:Pm):Fa:=⟨n_markTerm,Nat,fun i=>[nI 2,nI i],fun i=>.ag (mtC i),fun x y h=>by have h:=one2 h;rw[nI_inj' h.2]⟩
def f_markForm(L':Option (List LnG))(p:Pm):Fa:=⟨n_markForm,Nat,fun i=>[nI 2,nI i],fun i=>.ag (mfC i),fun x y h=>by have h:=one2 h;rw[nI_inj' h.2]⟩
def f_Copy18(L':Option (List LnG))(p:Pm):Fa:=⟨n_Copy18,Unit,fun _=>[lgA L'],fun _=>cpsA true (L'.getD []),fun _ _ _=>rfl⟩
def f_fBoxed(L':Option (List LnG))(p:Pm):Fa:=⟨n_fBoxed,Unit,fun _=>[.ag p.C],fun _=>.b p.bx,fun _ _ _=>rfl⟩
def fams(L':Option (List LnG))(p:Pm):List Fa:=[f_CopyTerm L' p,f_CopyTerms L' p,f_CopyForm L' p,f_CopyForms L' p,f_SameTerm L' p,f_SameTerms L' p,f_SameForm L' p,f_SameForms L' p,f_Same L' p,f_awake18 L' p,f_terms8 L' p,f_size8 L' p,f_FewForms L' p,f_Few10 L' p,f_Few18 L' p,f_shaped L' p,f_misshapen L' p,f_rShaped L' p,f_rError L' p,f_rEnd L' p,f_rHyps L' p,f_rCanBox L' p,f_rNeeded L' p,f_markText L' p,f_markTerm L' p,f_markForm L' p,f_Copy18 L' p,f_fBoxed L' p]
theorem fams_g(L':Option (List LnG))(p:Pm):(fams L' p).map Fa.g=[n_CopyTerm,n_CopyTerms,n_CopyForm,n_CopyForms,n_SameTerm,n_SameTerms,n_SameForm,n_SameForms,n_Same,n_awake18,n_terms8,n_size8,n_FewForms,n_Few10,n_Few18,n_shaped,n_misshapen,n_rShaped,n_rError,n_rEnd,n_rHyps,n_rCanBox,n_rNeeded,n_markText,n_markTerm,n_markForm,n_Copy18,n_fBoxed]:=rfl
theorem nodup_inj:∀ {l:List Fa},(l.map Fa.g).Nodup→∀ {f f':Fa},f∈l→f'∈l→f.g=f'.g→f=f'
 |x::l,h,f,f',hf,hf',e=>by
  rw[List.map_cons,List.nodup_cons] at h
  rcases List.mem_cons.1 hf with h1|h1
  ·rcases List.mem_cons.1 hf' with h2|h2
   ·rw[h1,h2]
   ·subst h1;exact absurd (List.mem_map.2 ⟨f',h2,e.symm⟩) h.1
  ·rcases List.mem_cons.1 hf' with h2|h2
   ·subst h2;exact absurd (List.mem_map.2 ⟨f,h1,e⟩) h.1
   ·exact nodup_inj h.2 h1 h2 e
abbrev KnB(P:Program)(b:Base)(g:Nat)(ar:List AV)(r:AV):Prop:=∀B0,SpecEntry P (b.env []) B0 g ar r
def Kc(P:Program)(b:Base)(L':Option (List LnG))(p:Pm)(g:Nat)(ar:List AV)(r:AV):Prop:=KnB P b g ar r∧∃f∈fams L' p,f.g=g∧∃x:f.X,f.a x=ar∧f.r x=r
theorem Kc.fn{P:Program}{b:Base}{L':Option (List LnG)}{p:Pm}:∀g ar r r',Kc P b L' p g ar r→Kc P b L' p g ar r'→r=r':=fun g ar r r' h h'=>by
 obtain⟨_,f,hf,hg,x,ha,hr⟩:=h
 obtain⟨_,f',hf',hg',x',ha',hr'⟩:=h'
 have e:=nodup_inj (by rw[fams_g];decide) hf hf' (hg.trans hg'.symm)
 subst e
 rw[←hr,← hr']
 exact f.inj x x' (ha.trans ha'.symm)
theorem Kc.ok{P:Program}{b:Base}{L':Option (List LnG)}{p:Pm}:KOk P b (Kc P b L' p):=fun _ _ _ h B0=>h.1 B0
theorem kc{P:Program}{b:Base}{L':Option (List LnG)}{p:Pm}(k:Nat){f:Fa}(hk:(fams L' p)[k]? =some f)(x:f.X){g:Nat}{ar:List AV}{r:AV}(hg:f.g=g)(ha:f.a x=ar)(hr:f.r x=r)(h:KnB P b g ar r):Kc P b L' p g ar r:=⟨h,f,List.mem_of_getElem? hk,hg,x,ha,hr⟩
abbrev i_CopyTerm:Nat:=0
abbrev i_CopyTerms:Nat:=1
abbrev i_CopyForm:Nat:=2
abbrev i_CopyForms:Nat:=3
abbrev i_SameTerm:Nat:=4
abbrev i_SameTerms:Nat:=5
abbrev i_SameForm:Nat:=6
abbrev i_SameForms:Nat:=7
abbrev i_Same:Nat:=8
abbrev i_awake18:Nat:=9
abbrev i_terms8:Nat:=10
abbrev i_size8:Nat:=11
abbrev i_FewForms:Nat:=12
abbrev i_Few10:Nat:=13
abbrev i_Few18:Nat:=14
abbrev i_shaped:Nat:=15
abbrev i_misshapen:Nat:=16
abbrev i_rShaped:Nat:=17
abbrev i_rError:Nat:=18
abbrev i_rEnd:Nat:=19
abbrev i_rHyps:Nat:=20
abbrev i_rCanBox:Nat:=21
abbrev i_rNeeded:Nat:=22
abbrev i_markText:Nat:=23
abbrev i_markTerm:Nat:=24
abbrev i_markForm:Nat:=25
abbrev i_Copy18:Nat:=26
abbrev i_fBoxed:Nat:=27
theorem Tm.deps_le{d:Nat}:∀ {l:List Tm},(∀u∈l,u.dep≤d)→Tm.deps l≤d
 |[],_=>by rw[Tm.deps];exact Nat.zero_le _
 |t::l,h=>by rw[Tm.deps];have:=h t (by simp);have:=Tm.deps_le fun u hu=>h u (List.mem_cons_of_mem _ hu);omega
theorem Fm.deps_le{d:Nat}:∀ {l:List Fm},(∀u∈l,u.dep≤d)→Fm.deps l≤d
 |[],_=>by rw[Fm.deps];exact Nat.zero_le _
 |t::l,h=>by rw[Fm.deps];have:=h t (by simp);have:=Fm.deps_le fun u hu=>h u (List.mem_cons_of_mem _ hu);omega
theorem Tm.nz_dep:∀(d:Nat) (t:Tm),t.dep≤d→t.nz.dep≤d
 |0,t,h=>by rw[Tm.dep_eq] at h;omega
 |d+1,t,h=>by
  rw[Tm.dep_eq,Tm.nz_args]
  have:=Tm.deps_le (d:=d) (l:=t.args.map Tm.nz) fun u hu=>by
   obtain⟨v,hv,rfl⟩:=List.mem_map.1 hu
   exact Tm.nz_dep d v (by have:=Tm.dep_arg hv;omega)
  omega
theorem Fm.nz_dep:∀(d:Nat) (t:Fm),t.dep≤d→t.nz.dep≤d
 |0,t,h=>by rw[Fm.dep_eq] at h;omega
 |d+1,t,h=>by
  rw[Fm.dep_eq,Fm.nz_args,Fm.nz_sub]
  have:=Tm.deps_le (d:=d) (l:=t.args.map Tm.nz) fun u hu=>by
   obtain⟨v,hv,rfl⟩:=List.mem_map.1 hu
   exact Tm.nz_dep d v (by have:=Fm.dep_arg hv;omega)
  have:=Fm.deps_le (d:=d) (l:=t.sub.map Fm.nz) fun u hu=>by
   obtain⟨v,hv,rfl⟩:=List.mem_map.1 hu
   exact Fm.nz_dep d v (by have:=Fm.dep_sub hv;omega)
  omega
theorem Res.tl{n:Nat}{sh:Option Nat}{l:List AV}(h:∀x∈l,(∀y∈x.cells,freshA n y=true)∧AV.eqb n x x=true):Res (n+1) (.tl false sh l):=by
 refine⟨?_,eqb_tl fun y hy=>(h y hy).2⟩
 rw[freshA_succ]
 show(true&&allB (fun x=>allB (freshA n) x.cells) l)=true
 rw[Bool.true_and]
 exact allB_of fun y hy=>allB_of fun z hz=>(h y hy).1 z hz
theorem res_tm:∀(d:Nat) (t:Tm),t.dep≤d→∀n,2*d+1≤n→Res n (.ag (tcA false t))
 |0,t,h,_,_=>by rw[Tm.dep_eq] at h;omega
 |d+1,t,h,n,hn=>by
  obtain⟨k,rfl⟩:∃k,n=k+3:=⟨n-3,by omega⟩
  refine .ag (n:=k+2) fun y hy=>?_
  simp only[List.mem_cons,List.not_mem_nil,or_false] at hy
  rcases hy with rfl|rfl|rfl
  ·exact .leaf rfl rfl
  ·exact .leaf rfl rfl
  ·cases ho:t.oargs with
   |none=>exact .nil
   |some l=>
    rw[tmsA_map]
    have hu:∀u∈l,u.dep≤d:=fun u hu=>by
     have:u∈t.args:=by show u∈t.oargs.getD [];rw[ho];exact hu
     have:=Tm.dep_arg this;omega
    refine .tl (n:=k+1) fun x hx=>?_
    obtain⟨u,hul,rfl⟩:=List.mem_map.1 hx
    exact⟨(res_tm d u (hu u hul) (k+2) (by omega)).ofAg,(res_tm d u (hu u hul) (k+1) (by omega)).2⟩
theorem res_fm:∀(d:Nat) (t:Fm),t.dep≤d→∀n,2*d+1≤n→Res n (.ag (fcO false t))
 |0,t,h,_,_=>by rw[Fm.dep_eq] at h;omega
 |d+1,t,h,n,hn=>by
  obtain⟨k,rfl⟩:∃k,n=k+3:=⟨n-3,by omega⟩
  refine .ag (n:=k+2) fun y hy=>?_
  simp only[List.mem_cons,List.not_mem_nil,or_false] at hy
  rcases hy with rfl|rfl|rfl|rfl
  ·exact .leaf rfl rfl
  ·exact .leaf rfl rfl
  ·cases ho:t.oargs with
   |none=>exact .nil
   |some l=>
    rw[tmsA_map]
    have hu:∀u∈l,u.dep≤d:=fun u hu=>by
     have:u∈t.args:=by show u∈t.oargs.getD [];rw[ho];exact hu
     have:=Fm.dep_arg this;omega
    refine .tl (n:=k+1) fun x hx=>?_
    obtain⟨u,hul,rfl⟩:=List.mem_map.1 hx
    exact⟨(res_tm d u (hu u hul) (k+2) (by omega)).ofAg,(res_tm d u (hu u hul) (k+1) (by omega)).2⟩
  ·cases ho:t.osub with
   |none=>exact .nil
   |some l=>
    rw[fmsA_map]
    have hu:∀u∈l,u.dep≤d:=fun u hu=>by
     have:u∈t.sub:=by show u∈t.osub.getD [];rw[ho];exact hu
     have:=Fm.dep_sub this;omega
    refine .tl (n:=k+1) fun x hx=>?_
    obtain⟨u,hul,rfl⟩:=List.mem_map.1 hx
    exact⟨(res_fm d u (hu u hul) (k+2) (by omega)).ofAg,(res_fm d u (hu u hul) (k+1) (by omega)).2⟩
theorem Tm.sm_dep:∀ {d:Nat} {t:Tm},Tm.sm d t→t.dep≤d
 |0,_,h=>h.elim
 |d+1,t,h=>by rw[Tm.dep_eq];have:=Tm.deps_le fun u hu=>Tm.sm_dep (h.2 u hu);omega
theorem Fm.sm_dep{M:Nat}:∀ {d:Nat} {t:Fm},Fm.sm M d t→t.dep≤d
 |0,_,h=>h.elim
 |d+1,t,h=>by
  rw[Fm.dep_eq]
  have:=Tm.deps_le fun u hu=>Tm.sm_dep (h.2.2.1 u hu)
  have:=Fm.deps_le fun u hu=>Fm.sm_dep (h.2.2.2 u hu)
  omega
theorem snT{d n:Nat}{t:Tm}(h:t.dep≤d)(hn:2*d+1≤n)(τ:St):snapshot τ n (.ag (tcA true t))=some (.ag (tcA true t)):=by
 rw[←tAc];exact Tm.snap τ true d t n h hn
theorem snF{d n:Nat}{t:Fm}(h:t.dep≤d)(hn:2*d+1≤n)(τ:St):snapshot τ n (.ag (fc t))=some (.ag (fc t)):=by
 rw[←fA];exact Fm.snap τ true d t n h hn
theorem snTs{d n:Nat}{a:Option (List Tm)}(h:∀t∈a.getD [],t.dep≤d)(hn:2*d+2≤n)(τ:St):snapshot τ n (tmsA true a)=some (tmsA true a):=by
 obtain⟨k,rfl⟩:∃k,n=k+1:=⟨n-1,by omega⟩
 exact snap_osl (k:=k) fun x hx=>Tm.snap τ true d x k (h x hx) (by omega)
theorem snFs{d n:Nat}{a:Option (List Fm)}(h:∀t∈a.getD [],t.dep≤d)(hn:2*d+2≤n)(τ:St):snapshot τ n (fmsA true a)=some (fmsA true a):=by
 obtain⟨k,rfl⟩:∃k,n=k+1:=⟨n-1,by omega⟩
 exact snap_osl (k:=k) fun x hx=>Fm.snap τ true d x k (h x hx) (by omega)
section
variable {P:Program}{b:Base}(hb:BaseOk P b)(fb:FC18 b){L':Option (List LnG)}{p:Pm}
include hb fb
theorem E_cTs{d:Nat}(hz:2*d+10≤b.fz+1000)(a:Option (List Tm))(hlen:(a.getD []).length<2^20)(hd:∀t∈a.getD [],t.dep≤d)(h:∀t∈a.getD [],Kc P b L' p n_CopyTerm [.ag (tcA true t)] (.ag (tcA false t.nz))):Kc P b L' p n_CopyTerms [tmsA true a] (slA false (some 3) ((a.getD []).map fun t=>.ag (tcA false t.nz))):=by
 have hr:∀n,2*d+2≤n→Res n (slA false (some 3) ((a.getD []).map fun t=>.ag (tcA false t.nz))):=fun n hn=>by
  obtain⟨k,rfl⟩:∃k,n=k+1:=⟨n-1,by omega⟩
  refine .sl fun x hx=>?_
  obtain⟨t,ht,rfl⟩:=List.mem_map.1 hx
  have hnd:=Tm.nz_dep d t (hd t ht)
  exact⟨(res_tm d t.nz hnd (k+1) (by omega)).ofAg,(res_tm d t.nz hnd k (by omega)).2⟩
 exact kc i_CopyTerms rfl a rfl rfl rfl (entryD hb Kc.ok _ fb.CopyTerms.1 rfl rfl rfl (hr (2*d+2) (Nat.le_refl _)).1 (hr (b.fz+1000) (by omega)).2 (CopyTerms_go Kc.fn a hlen (fun t ht τ=>snT (hd t ht) (by omega) τ) fb.CopyTerm.2 h _ rfl))
theorem E_cT{z:Nat}(hz:2*z+10≤b.fz+1000):∀(d:Nat) (t:Tm),d≤z→Tm.sm d t→Kc P b L' p n_CopyTerm [.ag (tcA true t)] (.ag (tcA false t.nz))
 |0,_,_,h=>h.elim
 |d+1,t,hdz,h=>by
  have ht:=Tm.sm_dep h
  have hnd:=Tm.nz_dep (d+1) t ht
  have hsub:∀u∈t.args,u.dep≤d:=fun u hu=>Tm.sm_dep (h.2 u hu)
  have h1:=E_cTs hb fb (L':=L') (p:=p) (d:=d) (by omega) t.oargs h.1 hsub fun u hu=>E_cT hz d u (by omega) (h.2 u hu)
  exact kc i_CopyTerm rfl t rfl rfl rfl (entryD hb Kc.ok _ fb.CopyTerm.1 rfl rfl rfl (res_tm (d+1) t.nz hnd (2*d+3) (by omega)).1 (res_tm (d+1) t.nz hnd (b.fz+1000) (by omega)).2 (CopyTerm_go Kc.fn t (fun τ=>snTs hsub (by omega) τ) fb.CopyTerms.2 h1 _ rfl))
theorem E_cFs{d:Nat}(hz:2*d+10≤b.fz+1000)(a:Option (List Fm))(hlen:(a.getD []).length<2^20)(hd:∀t∈a.getD [],t.dep≤d)(h:∀t∈a.getD [],Kc P b L' p n_CopyForm [.ag (fc t)] (.ag (fcN t.nz))):Kc P b L' p n_CopyForms [fmsA true a] (slA false (some 4) ((a.getD []).map fun t=>.ag (fcN t.nz))):=by
 have hr:∀n,2*d+2≤n→Res n (slA false (some 4) ((a.getD []).map fun t=>.ag (fcN t.nz))):=fun n hn=>by
  obtain⟨k,rfl⟩:∃k,n=k+1:=⟨n-1,by omega⟩
  refine .sl fun x hx=>?_
  obtain⟨t,ht,rfl⟩:=List.mem_map.1 hx
  have hnd:=Fm.nz_dep d t (hd t ht)
  exact⟨(res_fm d t.nz hnd (k+1) (by omega)).ofAg,(res_fm d t.nz hnd k (by omega)).2⟩
 exact kc i_CopyForms rfl a rfl rfl rfl (entryD hb Kc.ok _ fb.CopyForms.1 rfl rfl rfl (hr (2*d+2) (Nat.le_refl _)).1 (hr (b.fz+1000) (by omega)).2 (CopyForms_go Kc.fn a hlen (fun t ht τ=>snF (hd t ht) (by omega) τ) fb.CopyForm.2 h _ rfl))
theorem E_cF{z M:Nat}(hz:2*z+10≤b.fz+1000):∀(d:Nat) (t:Fm),d≤z→Fm.sm M d t→Kc P b L' p n_CopyForm [.ag (fc t)] (.ag (fcN t.nz))
 |0,_,_,h=>h.elim
 |d+1,t,hdz,h=>by
  have ht:=Fm.sm_dep h
  have hnd:=Fm.nz_dep (d+1) t ht
  have hsub:∀u∈t.args,u.dep≤d:=fun u hu=>Tm.sm_dep (h.2.2.1 u hu)
  have hsub2:∀u∈t.sub,u.dep≤d:=fun u hu=>Fm.sm_dep (h.2.2.2 u hu)
  have h1:=E_cTs hb fb (L':=L') (p:=p) (d:=d) (by omega) t.oargs h.1.1 hsub fun u hu=>E_cT hb fb hz d u (by omega) (h.2.2.1 u hu)
  have h2:=E_cFs hb fb (L':=L') (p:=p) (d:=d) (by omega) t.osub h.2.1 hsub2 fun u hu=>E_cF hz d u (by omega) (h.2.2.2 u hu)
  exact kc i_CopyForm rfl t rfl rfl rfl (entryD hb Kc.ok _ fb.CopyForm.1 rfl rfl rfl (res_fm (d+1) t.nz hnd (2*d+3) (by omega)).1 (res_fm (d+1) t.nz hnd (b.fz+1000) (by omega)).2 (CopyForm_go Kc.fn t (fun τ=>snTs hsub (by omega) τ) (fun τ=>snFs hsub2 (by omega) τ) fb.CopyTerms.2 h1 fb.CopyForms.2 h2 _ rfl))
end
theorem res_tms{d n:Nat}{a:Option (List Tm)}(h:∀t∈a.getD [],t.dep≤d)(hn:2*d+2≤n):Res n (tmsA false a):=by
 obtain⟨k,rfl⟩:∃k,n=k+1:=⟨n-1,by omega⟩
 cases a with
 |none=>exact .nil
 |some l=>
  rw[tmsA_map]
  refine .tl (n:=k) fun x hx=>?_
  obtain⟨u,hul,rfl⟩:=List.mem_map.1 hx
  exact⟨(res_tm d u (h u hul) (k+1) (by omega)).ofAg,(res_tm d u (h u hul) k (by omega)).2⟩
theorem res_fms{d n:Nat}{a:Option (List Fm)}(h:∀t∈a.getD [],t.dep≤d)(hn:2*d+2≤n):Res n (fmsA false a):=by
 obtain⟨k,rfl⟩:∃k,n=k+1:=⟨n-1,by omega⟩
 cases a with
 |none=>exact .nil
 |some l=>
  rw[fmsA_map]
  refine .tl (n:=k) fun x hx=>?_
  obtain⟨u,hul,rfl⟩:=List.mem_map.1 hx
  exact⟨(res_fm d u (h u hul) (k+1) (by omega)).ofAg,(res_fm d u (h u hul) k (by omega)).2⟩
theorem res_cps{d n:Nat}{L:List LnG}(h:∀x∈L,x.f.dep≤d)(hn:2*d+10≤n):Res n (cpsA false L):=by
 obtain⟨k,rfl⟩:∃k,n=k+1:=⟨n-1,by omega⟩
 have key:∀x∈L,∀m,2*d+5≤m→Res m (cpA false x):=fun x hx m hm=>by
  obtain⟨m,rfl⟩:∃j,m=j+1:=⟨m-1,by omega⟩
  have hd:=Fm.nz_dep d x.f (h x hx)
  refine .ag (n:=m) fun y hy=>?_
  obtain⟨j,rfl⟩:∃j,m=j+3:=⟨m-3,by omega⟩
  simp only[List.mem_cons,List.not_mem_nil,or_false] at hy
  rcases hy with rfl|rfl|rfl|rfl|rfl|rfl|rfl|rfl|rfl
  ·exact .leaf rfl rfl
  ·exact .leaf rfl rfl
  ·exact .leaf rfl rfl
  ·exact .leaf rfl rfl
  ·exact .leaf rfl rfl
  ·exact res_tms (d:=d) (fun t ht=>by have:=Fm.dep_arg (f:=x.f.nz) ht;omega) (by omega)
  ·exact res_fms (d:=d) (fun t ht=>by have:=Fm.dep_sub (f:=x.f.nz) ht;omega) (by omega)
  ·exact .leaf rfl rfl
  ·refine .tl (n:=j+2) fun z hz=>?_
   obtain⟨c,_,rfl⟩:=List.mem_map.1 hz
   exact⟨fun w hw=>by simp only[AV.cells,List.mem_cons,List.not_mem_nil,or_false] at hw;rcases hw with rfl|rfl<;>rfl,eqb2 rfl⟩
 refine .sl (n:=k) fun x hx=>?_
 obtain⟨y,hy,rfl⟩:=List.mem_map.1 hx
 exact⟨(key y hy (k+1) (by omega)).ofAg,(key y hy k (by omega)).2⟩
section
variable {P:Program}{b:Base}(hb:BaseOk P b)(fb:FC18 b){L':Option (List LnG)}{p:Pm}
include hb fb
theorem E_sTs{d:Nat}(hz:2*d+10≤b.fz+1000)(a c:Option (List Tm))(hac:a.getD []=(c.getD []).map Tm.nz)(hlen:(c.getD []).length<2^20)(hd:∀t∈c.getD [],t.dep≤d)(h:∀t∈c.getD [],Kc P b L' p n_SameTerm [.ag (tcA true t.nz),.ag (tcA true t)] (.b true)):Kc P b L' p n_SameTerms [tmsA true a,tmsA true c] (.b true):=by
 have hl:(a.getD []).length=(c.getD []).length:=by rw[hac,List.length_map]
 have hda:∀t∈a.getD [],t.dep≤d:=fun t ht=>by
  rw[hac] at ht
  obtain⟨u,hu,rfl⟩:=List.mem_map.1 ht
  exact Tm.nz_dep d u (hd u hu)
 exact kc i_SameTerms rfl [tmsA true a,tmsA true c] rfl rfl rfl (entryD hb Kc.ok _ fb.SameTerms.1 rfl rfl rfl (fr:=1) rfl (eqb1 rfl) (SameTerms_go Kc.fn a c (by omega) hl (fun t ht τ=>snT (hda t ht) (by omega) τ) (fun t ht τ=>snT (hd t ht) (by omega) τ) fb.SameTerm.2 (fun i h1 h2=>by
  have e:(a.getD [])[i]=((c.getD [])[i]).nz:=by simp only[hac,List.getElem_map]
  rw[e];exact h _ (List.getElem_mem h2)) _ rfl))
theorem E_sT{z:Nat}(hz:2*z+10≤b.fz+1000):∀(d:Nat) (t:Tm),d≤z→Tm.sm d t→Kc P b L' p n_SameTerm [.ag (tcA true t.nz),.ag (tcA true t)] (.b true)
 |0,_,_,h=>h.elim
 |d+1,t,hdz,h=>by
  have hsub:∀u∈t.args,u.dep≤d:=fun u hu=>Tm.sm_dep (h.2 u hu)
  have hsub2:∀u∈t.nz.args,u.dep≤d:=fun u hu=>by
   rw[Tm.nz_args] at hu
   obtain⟨v,hv,rfl⟩:=List.mem_map.1 hu
   exact Tm.nz_dep d v (hsub v hv)
  have h1:=E_sTs hb fb (L':=L') (p:=p) (d:=d) (by omega) t.nz.oargs t.oargs (Tm.nz_args t) h.1 hsub fun u hu=>E_sT hz d u (by omega) (h.2 u hu)
  exact kc i_SameTerm rfl [.ag (tcA true t.nz),.ag (tcA true t)] rfl rfl rfl (entryD hb Kc.ok _ fb.SameTerm.1 rfl rfl rfl (fr:=1) rfl (eqb1 rfl) (SameTerm_go Kc.fn t.nz t (by rw[Tm.nz_eq];rfl) (by rw[Tm.nz_eq];rfl) (fun τ=>snTs hsub2 (by omega) τ) (fun τ=>snTs hsub (by omega) τ) fb.SameTerms.2 h1 _ rfl))
theorem E_sFs{d:Nat}(hz:2*d+10≤b.fz+1000)(a c:Option (List Fm))(hac:a.getD []=(c.getD []).map Fm.nz)(hlen:(c.getD []).length<2^20)(hd:∀t∈c.getD [],t.dep≤d)(h:∀t∈c.getD [],Kc P b L' p n_SameForm [.ag (fc t.nz),.ag (fc t)] (.b true)):Kc P b L' p n_SameForms [fmsA true a,fmsA true c] (.b true):=by
 have hl:(a.getD []).length=(c.getD []).length:=by rw[hac,List.length_map]
 have hda:∀t∈a.getD [],t.dep≤d:=fun t ht=>by
  rw[hac] at ht
  obtain⟨u,hu,rfl⟩:=List.mem_map.1 ht
  exact Fm.nz_dep d u (hd u hu)
 exact kc i_SameForms rfl [fmsA true a,fmsA true c] rfl rfl rfl (entryD hb Kc.ok _ fb.SameForms.1 rfl rfl rfl (fr:=1) rfl (eqb1 rfl) (SameForms_go Kc.fn a c (by omega) hl (fun t ht τ=>snF (hda t ht) (by omega) τ) (fun t ht τ=>snF (hd t ht) (by omega) τ) fb.SameForm.2 (fun i h1 h2=>by
  have e:(a.getD [])[i]=((c.getD [])[i]).nz:=by simp only[hac,List.getElem_map]
  rw[e];exact h _ (List.getElem_mem h2)) _ rfl))
theorem E_sF{z M:Nat}(hz:2*z+10≤b.fz+1000):∀(d:Nat) (t:Fm),d≤z→Fm.sm M d t→Kc P b L' p n_SameForm [.ag (fc t.nz),.ag (fc t)] (.b true)
 |0,_,_,h=>h.elim
 |d+1,t,hdz,h=>by
  have hsub:∀u∈t.args,u.dep≤d:=fun u hu=>Tm.sm_dep (h.2.2.1 u hu)
  have hsub2:∀u∈t.nz.args,u.dep≤d:=fun u hu=>by
   rw[Fm.nz_args] at hu
   obtain⟨v,hv,rfl⟩:=List.mem_map.1 hu
   exact Tm.nz_dep d v (hsub v hv)
  have hsub3:∀u∈t.sub,u.dep≤d:=fun u hu=>Fm.sm_dep (h.2.2.2 u hu)
  have hsub4:∀u∈t.nz.sub,u.dep≤d:=fun u hu=>by
   rw[Fm.nz_sub] at hu
   obtain⟨v,hv,rfl⟩:=List.mem_map.1 hu
   exact Fm.nz_dep d v (hsub3 v hv)
  have h1:=E_sTs hb fb (L':=L') (p:=p) (d:=d) (by omega) t.nz.oargs t.oargs (Fm.nz_args t) h.1.1 hsub fun u hu=>E_sT hb fb hz d u (by omega) (h.2.2.1 u hu)
  have h2:=E_sFs hb fb (L':=L') (p:=p) (d:=d) (by omega) t.nz.osub t.osub (Fm.nz_sub t) h.2.1 hsub3 fun u hu=>E_sF hz d u (by omega) (h.2.2.2 u hu)
  exact kc i_SameForm rfl [.ag (fc t.nz),.ag (fc t)] rfl rfl rfl (entryD hb Kc.ok _ fb.SameForm.1 rfl rfl rfl (fr:=1) rfl (eqb1 rfl) (SameForm_go Kc.fn t.nz t (by rw[Fm.nz_eq];rfl) (by rw[Fm.nz_eq];rfl) (fun τ=>snTs hsub2 (by omega) τ) (fun τ=>snTs hsub (by omega) τ) (fun τ=>snFs hsub4 (by omega) τ) (fun τ=>snFs hsub3 (by omega) τ) fb.SameTerms.2 h1 fb.SameForms.2 h2 _ rfl))
theorem E_t8{z:Nat}(hz:2*z+10≤b.fz+1000):∀(d:Nat) (t:Tm),d≤z→t.dep≤d→t.few→∀m≤600,Kc P b L' p n_terms8 [.ag (tcA true t),nI m] (nI (min t.cnt (m+1)))
 |0,t,_,h,_,_,_=>by rw[Tm.dep_eq] at h;omega
 |d+1,t,hdz,h,hf,m,hm=>by
  have hsub:∀u∈t.args,u.dep≤d:=fun u hu=>by have:=Tm.dep_arg hu;omega
  exact kc i_terms8 rfl (t,m) rfl rfl rfl (entryD hb Kc.ok _ fb.terms8.1 rfl rfl rfl (fr:=1) rfl (eqb1 rfl) (terms8_go Kc.fn t hf.len m hm (fun u hu τ=>snT (hsub u hu) (by omega) τ) fb.terms8.2 (fun u hu k hk=>E_t8 hz d u (by omega) (hsub u hu) (hf.arg u hu) k hk) _ rfl))
theorem E_s8{z:Nat}(hz:2*z+10≤b.fz+1000):∀(d:Nat) (t:Fm),d≤z→t.dep≤d→t.few→∀m≤600,Kc P b L' p n_size8 [.ag (fc t),nI m] (nI (min t.cnt (m+1)))
 |0,t,_,h,_,_,_=>by rw[Fm.dep_eq] at h;omega
 |d+1,t,hdz,h,hf,m,hm=>by
  have hsub:∀u∈t.args,u.dep≤d:=fun u hu=>by have:=Fm.dep_arg hu;omega
  have hsub2:∀u∈t.sub,u.dep≤d:=fun u hu=>by have:=Fm.dep_sub hu;omega
  exact kc i_size8 rfl (t,m) rfl rfl rfl (entryD hb Kc.ok _ fb.size8.1 rfl rfl rfl (fr:=1) rfl (eqb1 rfl) (size8_go Kc.fn t hf.alen hf.slen m hm (fun u hu τ=>snT (hsub u hu) (by omega) τ) (fun u hu τ=>snF (hsub2 u hu) (by omega) τ) fb.terms8.2 (fun u hu k hk=>E_t8 hb fb hz d u (by omega) (hsub u hu) (hf.arg u hu) k hk) fb.size8.2 (fun u hu k hk=>E_s8 hz d u (by omega) (hsub2 u hu) (hf.sb u hu) k hk) _ rfl))
theorem E_ff{z:Nat}(hz:2*z+10≤b.fz+1000)(L:List Fm)(hlen:L.length<2^62)(hd:∀t∈L,t.dep≤z)(hf:∀t∈L,t.few):Kc P b L' p n_Few10 [slA true (some 4) (L.map fmT)] (.b (decide (Fm.cnts L≤600))):=by
 have h1:Kc P b L' p n_FewForms [slA true (some 4) (L.map fmT)] (.b (decide (Fm.cnts L≤600))):=kc i_FewForms rfl L rfl rfl rfl (entryD hb Kc.ok _ fb.FewForms.1 rfl rfl rfl (fr:=1) rfl (eqb1 rfl) (FewForms_go Kc.fn L hlen (fun t ht τ=>snF (hd t ht) (by omega) τ) fb.size8.2 (fun t ht=>E_s8 hb fb (L':=L') (p:=p) hz z t (Nat.le_refl _) (hd t ht) (hf t ht) 600 (Nat.le_refl _)) _ rfl))
 have hs:∀τ:St,snapshot τ (b.fz+1000) (slA true (some 4) (L.map fmT))=some (slA true (some 4) (L.map fmT)):=fun τ=>by
  cases L with
  |nil=>rfl
  |cons x l=>
   show(match mapO (snapshot τ (b.fz+999)) ((x::l).map fmT) with|none=>none|some xs=>some (AV.tl true (some 4) xs))=_
   rw[mapO_self fun y hy=>by
    obtain⟨t,ht,rfl⟩:=List.mem_map.1 hy
    exact snF (hd t ht) (by omega) τ]
   rfl
 exact kc i_Few10 rfl L rfl rfl rfl (entryD hb Kc.ok _ fb.Few10.1 rfl rfl rfl (fr:=1) rfl (eqb1 rfl) (Few10_go Kc.fn L hs fb.FewForms.2 rfl rfl h1 _ rfl))
theorem E_few{z:Nat}(hz:2*z+10≤b.fz+1000)(hlen:(L'.getD []).length<2^62)(hcl:∀x∈L'.getD [],x.cs.length<2^62)(hd:∀x∈L'.getD [],x.f.dep≤z)(hf:∀x∈L'.getD [],x.f.few):Kc P b L' p n_Few18 [lgA L'] (.b (fewG (L'.getD []))):=by
 have hd':∀t∈(L'.getD []).map LnG.f,t.dep≤z:=fun t ht=>by obtain⟨x,hx,rfl⟩:=List.mem_map.1 ht;exact hd x hx
 have hf':∀t∈(L'.getD []).map LnG.f,t.few:=fun t ht=>by obtain⟨x,hx,rfl⟩:=List.mem_map.1 ht;exact hf x hx
 exact kc i_Few18 rfl () rfl rfl rfl (entryD hb Kc.ok _ fb.Few18.1 rfl rfl rfl (fr:=1) rfl (eqb1 rfl) (Few18_go Kc.fn L' hlen hcl (fun x hx τ=>snF (hd x hx) (by omega) τ) fb.Few10.2 (fun _=>E_ff hb fb (L':=L') (p:=p) hz _ (by rw[List.length_map];exact hlen) hd' hf') _ rfl))
theorem E_cps{z M:Nat}(hz:2*z+20≤b.fz+1000)(hlen:(L'.getD []).length<2^20)(hcl:∀x∈L'.getD [],x.cs.length<2^20)(hs:∀x∈L'.getD [],Fm.sm M z x.f):Kc P b L' p n_Copy18 [lgA L'] (cpsA true (L'.getD [])):=by
 have hd:∀x∈L'.getD [],x.f.dep≤z:=fun x hx=>Fm.sm_dep (hs x hx)
 exact kc i_Copy18 rfl () rfl rfl rfl fun B0=>(entryD hb Kc.ok _ fb.Copy18.1 rfl rfl rfl (res_cps hd (Nat.le_refl _)).1 (res_cps hd (n:=b.fz+1000) (by omega)).2 (Copy18_go Kc.fn L' hlen hcl (fun x hx τ=>snF (hd x hx) (by omega) τ) fb.CopyForm.2 (fun x hx=>E_cF hb fb (L':=L') (p:=p) (by omega) z x.f (Nat.le_refl _) (hs x hx)) _ rfl) B0).old (old_cps _)
theorem E_mkS(k i:Nat):Kc P b L' p n_markText [nI k,nI i] (.s (mkS k i)):=kc i_markText rfl (k,i) rfl rfl rfl (entryD hb (Kc.ok (L':=L') (p:=p)) _ fb.markText.1 rfl rfl rfl (fr:=1) rfl (eqb1 rfl) (markText_go k i _ rfl))
theorem E_mkT(i:Nat):Kc P b L' p n_markTerm [nI 2,nI i] (.ag (mtC i)):=kc i_markTerm rfl i rfl rfl rfl (entryD hb Kc.ok _ fb.markTerm.1 rfl rfl rfl (fr:=2) rfl (eqb2 rfl) (markTerm_go Kc.fn fb.markText.2 i (E_mkS hb fb (L':=L') (p:=p) 2 i) _ rfl))
theorem E_mkF(i:Nat):Kc P b L' p n_markForm [nI 2,nI i] (.ag (mfC i)):=kc i_markForm rfl i rfl rfl rfl (entryD hb Kc.ok _ fb.markForm.1 rfl rfl rfl (fr:=2) rfl (eqb2 rfl) (markForm_go Kc.fn fb.markText.2 i (E_mkS hb fb (L':=L') (p:=p) 2 i) _ rfl))
end
theorem Tm.len_cnts:∀(l:List Tm),l.length≤Tm.cnts l
 |[]=>Nat.zero_le _
 |t::l=>by rw[Tm.cnts];have:=Tm.len_cnts l;have:=Tm.cnt_eq t;simp only[List.length_cons];omega
theorem Tm.mem_cnts:∀ {l:List Tm} {t:Tm},t∈l→t.cnt≤Tm.cnts l
 |x::l,t,h=>by
  rw[Tm.cnts]
  rcases List.mem_cons.1 h with rfl|h
  ·omega
  ·have:=Tm.mem_cnts h;omega
theorem Fm.len_cnts:∀(l:List Fm),l.length≤Fm.cnts l
 |[]=>Nat.zero_le _
 |t::l=>by rw[Fm.cnts];have:=Fm.len_cnts l;have:=Fm.cnt_eq t;simp only[List.length_cons];omega
theorem Fm.mem_cnts:∀ {l:List Fm} {t:Fm},t∈l→t.cnt≤Fm.cnts l
 |x::l,t,h=>by
  rw[Fm.cnts]
  rcases List.mem_cons.1 h with rfl|h
  ·omega
  ·have:=Fm.mem_cnts h;omega
theorem Tm.sm_of:∀ {d:Nat} {t:Tm},t.dep≤d→t.cnt≤600→Tm.sm d t
 |0,t,h,_=>by rw[Tm.dep_eq] at h;omega
 |d+1,t,h,hc=>by
  rw[Tm.cnt_eq] at hc
  have:=Tm.len_cnts t.args
  exact⟨by omega,fun u hu=>Tm.sm_of (by have:=Tm.dep_arg hu;omega) (by have:=Tm.mem_cnts hu;omega)⟩
theorem Fm.sm_of{M z:Nat}(hz:2*z+2≤M):∀ {d:Nat} {t:Fm},d≤z→t.dep≤d→t.cnt≤600→Fm.sm M d t
 |0,t,_,h,_=>by rw[Fm.dep_eq] at h;omega
 |d+1,t,hdz,h,hc=>by
  rw[Fm.cnt_eq] at hc
  have h1:=Tm.len_cnts t.args
  have h2:=Fm.len_cnts t.sub
  have hsub:∀u∈t.sub,u.dep≤d:=fun u hu=>by have:=Fm.dep_sub hu;omega
  exact⟨⟨by omega,fun τ=>snFs hsub (by omega) τ⟩,by omega,fun u hu=>Tm.sm_of (by have:=Fm.dep_arg hu;omega) (by have:=Tm.mem_cnts hu;omega),fun u hu=>Fm.sm_of hz (by omega) (hsub u hu) (by have:=Fm.mem_cnts hu;omega)⟩
theorem Tm.sm_nz:∀ {d:Nat} {t:Tm},Tm.sm d t→Tm.sm d t.nz
 |0,_,h=>h.elim
 |d+1,t,h=>⟨by rw[Tm.nz_args,List.length_map];exact h.1,fun u hu=>by
  rw[Tm.nz_args] at hu
  obtain⟨v,hv,rfl⟩:=List.mem_map.1 hu
  exact Tm.sm_nz (h.2 v hv)⟩
theorem Fm.sm_nz{M z:Nat}(hz:2*z+2≤M):∀ {d:Nat} {t:Fm},d≤z→Fm.sm M d t→Fm.sm M d t.nz
 |0,_,_,h=>h.elim
 |d+1,t,hdz,h=>by
  have hsub:∀u∈t.nz.sub,Fm.sm M d u:=fun u hu=>by
   rw[Fm.nz_sub] at hu
   obtain⟨v,hv,rfl⟩:=List.mem_map.1 hu
   exact Fm.sm_nz hz (by omega) (h.2.2.2 v hv)
  refine⟨⟨by rw[Fm.nz_args,List.length_map];exact h.1.1,fun τ=>snFs (d:=d) (fun u hu=>Fm.sm_dep (hsub u hu)) (by omega) τ⟩,by rw[Fm.nz_sub,List.length_map];exact h.2.1,fun u hu=>?_,hsub⟩
  rw[Fm.nz_args] at hu
  obtain⟨v,hv,rfl⟩:=List.mem_map.1 hu
  exact Tm.sm_nz (h.2.2.1 v hv)
theorem sn_cgs{n:Nat}(l:List (Int×Int))(τ:St):snapshot τ (n+3) (.tl true (some 2) (l.map cgC))=some (.tl true (some 2) (l.map cgC)):=by
 show(match mapO (snapshot τ (n+2)) (l.map cgC) with|none=>none|some xs=>some (AV.tl true (some 2) xs))=_
 rw[mapO_self fun y hy=>by obtain⟨c,_,rfl⟩:=List.mem_map.1 hy;rfl]
theorem sn_slA{n:Nat}{sh:Option Nat}{l:List AV}{τ:St}(h:∀y∈l,snapshot τ n y=some y):snapshot τ (n+1) (slA true sh l)=some (slA true sh l):=by
 cases l with
 |nil=>rfl
 |cons x l=>
  show(match mapO (snapshot τ n) (x::l) with|none=>none|some xs=>some (AV.tl true sh xs))=_
  rw[mapO_self h];rfl
theorem sn_ln{n:Nat}{x:LnG}{cv:AV}{τ:St}(h1:snapshot τ (n+1) (tmsA true x.f.oargs)=some (tmsA true x.f.oargs))(h2:snapshot τ (n+1) (fmsA true x.f.osub)=some (fmsA true x.f.osub))(h3:snapshot τ (n+1) cv=some cv):snapshot τ (n+2) (.ag (gvC x cv))=some (.ag (gvC x cv)):=by
 refine snap_ag ?_
 rw[mapO_cons,mapO_cons,mapO_cons,mapO_cons,mapO_cons,mapO_cons,mapO_cons,mapO_cons,mapO_cons,h1,h2,h3];rfl
section
variable {L:List LnG}{d:Nat}(hd:∀x∈L,x.f.dep≤d)
include hd
theorem sn_rg{n:Nat}(hn:2*d+10≤n){x:LnG}(hx:x∈L)(τ:St):snapshot τ n (rgA x)=some (rgA x):=by
 obtain⟨k,rfl⟩:∃k,n=k+4:=⟨n-4,by omega⟩
 have h:=hd x hx
 exact sn_ln (n:=k+2) (snTs (d:=d) (fun t ht=>by have:=Fm.dep_arg ht;omega) (by omega) τ) (snFs (d:=d) (fun t ht=>by have:=Fm.dep_sub ht;omega) (by omega) τ) (sn_slA fun y hy=>by obtain⟨c,_,rfl⟩:=List.mem_map.1 hy;rfl)
theorem sn_rgs{n:Nat}(hn:2*d+11≤n)(τ:St):snapshot τ n (rgsA L)=some (rgsA L):=by
 obtain⟨k,rfl⟩:∃k,n=k+1:=⟨n-1,by omega⟩
 exact sn_slA fun y hy=>by
  obtain⟨x,hx,rfl⟩:=List.mem_map.1 hy
  exact sn_rg hd (by omega) hx τ
theorem sn_cps{n:Nat}(hn:2*d+11≤n)(τ:St):snapshot τ n (cpsA true L)=some (cpsA true L):=by
 obtain⟨k,rfl⟩:∃k,n=k+5:=⟨n-5,by omega⟩
 exact sn_slA (n:=k+4) fun y hy=>by
  obtain⟨x,hx,rfl⟩:=List.mem_map.1 hy
  have h:=Fm.nz_dep d x.f (hd x hx)
  exact sn_ln (n:=k+2) (x:=nzG x) (snTs (d:=d) (fun t ht=>by have:t.dep<x.f.nz.dep:=Fm.dep_arg (f:=x.f.nz) ht;omega) (by omega) τ) (snFs (d:=d) (fun t ht=>by have:t.dep<x.f.nz.dep:=Fm.dep_sub (f:=x.f.nz) ht;omega) (by omega) τ) (sn_cgs (n:=k) _ τ)
end
theorem sn_lg{L':Option (List LnG)}{d n:Nat}(hd:∀x∈L'.getD [],x.f.dep≤d)(hn:2*d+11≤n)(τ:St):snapshot τ n (lgA L')=some (lgA L'):=by
 obtain⟨k,rfl⟩:∃k,n=k+5:=⟨n-5,by omega⟩
 cases L' with
 |none=>rfl
 |some L=>
  show(match mapO (snapshot τ (k+4)) (L.map LnG.A) with|none=>none|some xs=>some (AV.tl true (some 9) xs))=_
  rw[mapO_self fun y hy=>by
   obtain⟨x,hx,rfl⟩:=List.mem_map.1 hy
   have h:x.f.dep≤d:=hd x hx
   refine sn_ln (n:=k+2) (snTs (d:=d) (fun t ht=>by have:=Fm.dep_arg ht;omega) (by omega) τ) (snFs (d:=d) (fun t ht=>by have:=Fm.dep_sub ht;omega) (by omega) τ) ?_
   cases x.ocs with
   |none=>rfl
   |some l=>exact sn_cgs (n:=k) l τ]
  rfl
section
variable {b:Base}{K:Nat→List AV→AV→Prop}
theorem Boxed_go(p:Pm)(hpl:∀τ,lenA τ 1 p.hy=some p.n)(hpc:p.hy.cells=[p.hy])(hpf:Go.Lyc.conf none p.hy=true)(hpn:p.n<2^62)(body:ACode)(hb:c_fBoxed.body=some body):GoF (b.envK K) c_fBoxed.ntmps body (argF [.ag p.C]) ⟨.nil,0⟩ (DoneR c_fBoxed.results (.b p.bx)):=by
 cases hb
 refine W.args fun z=>?_
 have H:Has (⟨.nil,0⟩:St) []:=Has.nil
 obtain⟨hy,pn,p1,p2,p3,p4,fr,cl⟩:=p
 simp only[Pm.bx] at *
 have sn:∀l:List Nat,binop .neq (.s l) (.s [])=some (.b (!l.isEmpty)):=fun l=>by cases l<;>rfl
 refine wk ?_
 refine W.bx (c:=[hy,p1,p2,p3,p4,.s fr,.b cl]) H rfl rfl rfl rfl rfl rfl fun τ n1 H k1=>?_
 refine wk ?_
 refine W.len rfl rfl rfl (hpl _) ?_
 by_cases h0:0<pn
 ·rw[decide_eq_true h0,Bool.true_or]
  refine wk ?_
  exact GoF.ret ⟨rfl,_,resA_1 (resV_v rfl),rfl⟩
 ·rw[decide_eq_false h0,Bool.false_or]
  refine wk ?_
  refine W.bin rfl rfl rfl rfl (sn fr) ?_
  cases fr with
  |cons c t=>
   refine wk ?_
   exact GoF.ret ⟨rfl,_,resA_1 (resV_v rfl),rfl⟩
  |nil=>
   refine wk ?_
   exact GoF.ret ⟨rfl,_,resA_1 (resV_v rfl),rfl⟩
end
section
variable {P:Program}{b:Base}(hb:BaseOk P b)(fb:FC18 b){L':Option (List LnG)}{p:Pm}
include hb fb
theorem E_boxed(hpl:∀τ,lenA τ 1 p.hy=some p.n)(hpc:p.hy.cells=[p.hy])(hpf:Go.Lyc.conf none p.hy=true)(hpn:p.n<2^62):Kc P b L' p n_fBoxed [.ag p.C] (.b p.bx):=kc i_fBoxed rfl () rfl rfl rfl (entryD hb (Kc.ok (L':=L') (p:=p)) _ fb.fBoxed.1 rfl rfl rfl (fr:=1) rfl (eqb1 rfl) (Boxed_go p hpl hpc hpf hpn _ rfl))
theorem E_shaped(hcl:∀x∈L'.getD [],x.cs.length<2^20)(hlen:(L'.getD []).length<2^20){k:Nat}(h1:1≤k)(hk:k≤(L'.getD []).length)(hr:fbad (L'.getD [])=0∨k≤fbad (L'.getD [])):Kc P b L' p n_shaped [cpsA true (L'.getD []),nI k] (.b (shK ((L'.getD []).map nzG) k)):=by
 have hk':k≤((L'.getD []).map nzG).length:=by rw[List.length_map];exact hk
 have hS:=(FzL.cp (L'.getD [])).lv.shv (fun x hx=>by obtain⟨y,hy,rfl⟩:=List.mem_map.1 hx;exact hcl y hy) h1 hk' (by rw[fbad_nz];exact hr)
 have e:shK ((L'.getD []).map nzG) k=shG (((L'.getD []).map nzG)[k-1]'(by omega)) (prvG ((L'.getD []).map nzG) k) k:=by
  unfold shK;rw[List.getElem?_eq_getElem (by omega)]
 rw[e]
 exact kc i_shaped rfl k rfl rfl (by show AV.b (shK _ k)=_;rw[e]) (entryK hb (Kc.ok (L':=L') (p:=p)) _ fb.shaped.1 rfl rfl rfl rfl (fr:=1) rfl (eqb1 rfl) (shapedG_go hS h1 (by omega) _ rfl))
theorem E_mis{z:Nat}(hz:2*z+20≤b.fz+1000)(hd:∀x∈L'.getD [],x.f.dep≤z)(hcl:∀x∈L'.getD [],x.cs.length<2^20)(hlen:(L'.getD []).length<2^20)(hne:L'.getD []≠[]):Kc P b L' p n_misshapen [cpsA true (L'.getD [])] (nI (fbad (L'.getD []))):=by
 have e:cpsA true (L'.getD [])= .tl true (some 9) ((L'.getD []).map (cpA true)):=by
  cases h:L'.getD [] with
  |nil=>exact absurd h hne
  |cons x l=>rfl
 have hs:=sn_cps hd (n:=b.fz+1000) (by omega)
 have hl:((L'.getD []).map (cpA true)).length=(L'.getD []).length:=List.length_map _
 have hk:=fun k h1 h2 hr=>E_shaped hb fb (L':=L') (p:=p) hcl hlen (k:=k) h1 h2 hr
 rw[e] at hs hk
 refine kc i_misshapen rfl () rfl rfl rfl ?_
 rw[e]
 exact entryK hb (Kc.ok (L':=L') (p:=p)) _ fb.misshapen.1 rfl rfl rfl rfl (fr:=1) rfl (eqb1 rfl) (misshapen_go Kc.fn _ hs (by omega) (shK ((L'.getD []).map nzG)) fb.shaped.2 (fbad (L'.getD [])) (by have:=fbad_le (L:=L'.getD []);omega) (fun k h1 h2 hr=>hk k h1 (by omega) hr) (fun k h1 h2 hr=>fbad_lt h1 (by rw[List.length_map];omega) (by rw[fbad_nz];exact hr)) (fun h0=>by have:=fbad_at (L:=(L'.getD []).map nzG) (by rw[fbad_nz];exact h0);rwa[fbad_nz] at this) _ rfl)
theorem E_rShaped(hcl:∀x∈L'.getD [],x.cs.length<2^20)(hlen:(L'.getD []).length<2^20){k:Nat}(h1:1≤k)(hk:k≤(L'.getD []).length)(hr:fbad (L'.getD [])=0∨k≤fbad (L'.getD [])):Kc P b L' p n_rShaped [rgsA (L'.getD []),nI k] (.b (shK (L'.getD []) k)):=by
 have hS:=(FzL.rg (L'.getD [])).lv.shv hcl h1 hk hr
 have e:shK (L'.getD []) k=shG ((L'.getD [])[k-1]'(by omega)) (prvG (L'.getD []) k) k:=by
  unfold shK;rw[List.getElem?_eq_getElem (by omega)]
 rw[e]
 exact kc i_rShaped rfl k rfl rfl (by show AV.b (shK _ k)=_;rw[e]) (entryK hb (Kc.ok (L':=L') (p:=p)) _ fb.rShaped.1 rfl rfl rfl rfl (fr:=1) rfl (eqb1 rfl) (rShaped_go hS h1 (by omega) _ rfl))
theorem E_rError{z:Nat}(hz:2*z+20≤b.fz+1000)(hd:∀x∈L'.getD [],x.f.dep≤z)(hcl:∀x∈L'.getD [],x.cs.length<2^20)(hlen:(L'.getD []).length<2^20):Kc P b L' p n_rError [rgsA (L'.getD [])] (nI (errG (L'.getD []))):=
 kc i_rError rfl () rfl rfl rfl (entryD hb (Kc.ok (L':=L') (p:=p)) _ fb.rError.1 rfl rfl rfl (fr:=1) rfl (eqb1 rfl) (rError_go Kc.fn (FzL.rg _).len hlen (sn_rgs hd (by omega)) fb.rShaped.2 (fun k h1 h2 hr=>E_rShaped hb fb hcl hlen h1 h2 hr) _ rfl))
end
theorem cutS_mem{T:List Ln}:∀ {i:Nat} {x:Ln},x∈(cutS T i).2→∃y∈T,x.f=y.f∧x.cs.length=y.cs.length
 |0,x,h=>by simp[cutS] at h
 |i+1,x,h=>by
  rw[cutS] at h
  split at h
  ·next y hy=>
   cases hw:(wanL T).getD i false with
   |true=>
    rw[hw,cond_true] at h
    rcases List.mem_append.1 h with h|h
    ·exact cutS_mem h
    ·rw[List.mem_singleton.1 h]
     exact⟨y,List.mem_of_getElem? hy,rfl,List.length_map _⟩
   |false=>rw[hw,cond_false] at h;exact cutS_mem h
  ·exact cutS_mem h
theorem GvS.rv{σ:St}{V:AV}{L:List LnG}(hn:∀x∈L,Num x)(h:GvS σ V L):RvS σ V (L.map toLn):=by
 obtain⟨ws,a1,a2,a3,a4⟩:=h.ex
 refine⟨ws,a1,by rw[List.length_map];exact a2,fun e=>a3 (List.map_eq_nil_iff.1 e),fun i h h'=>?_⟩
 have h2:i<L.length:=by rwa[List.length_map] at h'
 obtain⟨cv,b1,b2,b3,b4⟩:=a4 i h h2
 have hx:=hn _ (List.getElem_mem h2)
 refine⟨cv,?_,?_,fun e=>b3 ?_,b4⟩
 ·rw[List.getElem_map,hx.cells];exact b1
 ·rw[List.getElem_map,hx.cg];exact b2
 ·rw[List.getElem_map] at e
  exact List.map_eq_nil_iff.1 e
theorem few_len{L:List LnG}(h:fewG L=true):L.length≤502∧(∀x∈L,x.cs.length≤6)∧Fm.cnts (L.map LnG.f)≤600:=by
 unfold fewG at h
 simp only[Bool.and_eq_true,List.all_eq_true,decide_eq_true_eq] at h
 obtain⟨h1,h2,h3⟩:=h
 unfold fewL at h1
 rw[decide_eq_true_eq] at h1
 refine⟨h1.1,fun x hx=>?_,h3⟩
 have:=h2 x hx
 unfold few1 at this
 rw[decide_eq_true_eq] at this
 exact this.1
theorem errG_0{L:List LnG}(hcl:∀x∈L,x.cs.length<2^20)(h:errG L=0):GdG L:=by
 unfold errG at h
 split at h
 ·cases h
 ·next h1=>
  split at h
  ·next h2=>exact⟨h2,fun e=>h1 (.inl (by rw[e];rfl)),by omega,hcl⟩
  ·cases h
section
variable {P:Program}{b:Base}
theorem FC18.hF(fb:FC18 b){K:Nat→List AV→AV→Prop}:HF b K:=⟨fb.starts.h,fb.EqualI.h,fb.IndexI.h,fb.ContainsI.h,fb.CloneI.h,fb.isBox.h,fb.assumptions.h,fb.beside.h,fb.needed.h,fb.fforms.h⟩
theorem FC18.hO(fb:FC18 b){K:Nat→List AV→AV→Prop}:HO b K:=⟨fb.fopen.h,fb.around.h,fb.around1.h,fb.misshapen.2⟩
theorem FC18.hW(fb:FC18 b){K:Nat→List AV→AV→Prop}:HW b K:=⟨fb.hF,fb.wanted.h,fb.wanted1.h⟩
theorem FC18.hCp(fb:FC18 b){K:Nat→List AV→AV→Prop}:HCp b K:=⟨fb.copyLT.h,fb.copyT.h,fb.copyLF.h,fb.Copy.h⟩
variable (hb:BaseOk P b)(fb:FC18 b){L':Option (List LnG)}{p:Pm}
include hb fb
theorem FC18.hOv:HOv b (Kc P b L' p):=⟨fb.OverTerm.h,fb.OverTerms.h,fb.OverForm.h,fb.OverForms.h,fb.markTerm.2,fb.markForm.2,E_mkT hb fb,E_mkF hb fb⟩
section
variable {z:Nat}(hz:2*z+20≤b.fz+1000)(hd:∀x∈L'.getD [],x.f.dep≤z)(g:GdG (L'.getD []))
include hz hd g
theorem sn_rn(τ:St):snapshot τ (b.fz+1000) (rnsA ((L'.getD []).map toLn))=some (rnsA ((L'.getD []).map toLn)):=by
 rw[←g.rg];exact sn_rgs hd (by omega) τ
omit hb fb hz hd in
theorem g_ho:∀x∈(L'.getD []).map toLn,x.op≤x.dp∧x.dp<2^20:=fun x hx=>by have:=g.gd.shp.num x hx;omega
omit hz hd in
theorem E_end(first d:Nat)(hf:first≤((L'.getD []).map toLn).length)(hdd:d<2^20):Kc P b L' p n_rEnd [rnsA ((L'.getD []).map toLn),nI first,nI d] (nI (endLr ((L'.getD []).map toLn) first d)):=
 kc i_rEnd rfl (first,d) rfl rfl rfl (entryD hb (Kc.ok (L':=L') (p:=p)) _ fb.rEnd.1 rfl rfl rfl (fr:=1) rfl (eqb1 rfl) (End_go g.gd.dm.lt (g_ho g) first d hf hdd _ rfl))
theorem E_hyps(first d:Nat)(h1:1≤first)(hf:first≤((L'.getD []).map toLn).length)(hdd:d<2^20):Kc P b L' p n_rHyps [rnsA ((L'.getD []).map toLn),nI first,nI d] (slA false none ((hypsR ((L'.getD []).map toLn) first d).map nI)):=by
 have hr:∀n,Res (n+3) (slA false none ((hypsR ((L'.getD []).map toLn) first d).map nI)):=fun n=>.sl1 (n:=n+2) fun x hx=>by
  obtain⟨k,_,rfl⟩:=List.mem_map.1 hx
  exact⟨rfl,.nI k⟩
 exact kc i_rHyps rfl (first,d) rfl rfl rfl (entryD hb (Kc.ok (L':=L') (p:=p)) _ fb.rHyps.1 rfl rfl rfl (hr 0).1 (hr (b.fz+997)).2 (Hyps_go Kc.fn g.gd.dm.lt (g_ho g) (sn_rn hb fb hz hd g) first d h1 hf hdd fb.rEnd.2 (E_end hb fb g first d hf hdd) _ rfl))
theorem E_can(c:Nat×Nat)(k:Nat)(h1:1≤c.1∧c.1≤((L'.getD []).map toLn).length)(h2:1≤c.2∧c.2≤((L'.getD []).map toLn).length)(h3:1≤k)(h4:k≤((L'.getD []).map toLn).length):Kc P b L' p n_rCanBox [rnsA ((L'.getD []).map toLn),.ag [nI c.1,nI c.2],nI k] (.b (canBoxR ((L'.getD []).map toLn) c k)):=by
 have hse:∀x∈(L'.getD []).map toLn,AV.eqb (b.fz+1000) (rnA x) (rnA x)=true:=fun x hx=>by
  obtain⟨y,hy,rfl⟩:=List.mem_map.1 hx
  have hn:=g.num y hy
  have e:rnA (toLn y)=rgA y:=by
   show AV.ag (rnC (toLn y) (slA true (some 2) ((toLn y).cs.map prC)))=AV.ag (gvC y (slA true (some 2) (y.cs.map cgC)))
   rw[hn.cells,hn.cg]
  rw[e]
  exact Snp.eqb _ _ fun τ=>sn_rg hd (by omega) hy τ
 exact kc i_rCanBox rfl (c,k) rfl rfl rfl (entryD hb (Kc.ok (L':=L') (p:=p)) _ fb.rCanBox.1 rfl rfl rfl (fr:=1) rfl (eqb1 rfl) (CanBox_go Kc.fn g.gd.dm.lt (g_ho g) (sn_rn hb fb hz hd g) hse c h1 h2 k h3 h4 fb.rEnd.2 fb.rAround.h (fun f d a c=>E_end hb fb g f d a c) _ rfl))
theorem E_need:Kc P b L' p n_rNeeded [rnsA ((L'.getD []).map toLn)] (slA false none ((false::wanL ((L'.getD []).map toLn)).map AV.b)):=by
 have hg:=g.gd
 have hr:∀n,Res (n+3) (slA false none ((false::wanL ((L'.getD []).map toLn)).map AV.b)):=fun n=>.sl1 (n:=n+2) fun x hx=>by
  obtain⟨k,_,rfl⟩:=List.mem_map.1 hx
  exact⟨rfl,.leaf rfl rfl⟩
 have hck:∀x∈(L'.getD []).map toLn,∃k,1≤k∧k≤((L'.getD []).map toLn).length∧Cok k x.cs:=fun x hx=>by
  obtain⟨i,h,rfl⟩:=List.getElem_of_mem hx
  exact⟨i+1,by omega,by omega,hg.cok (i+1) _ (by omega) (List.getElem?_eq_getElem (show i+1-1<_ by omega))⟩
 exact kc i_rNeeded rfl () rfl rfl rfl (entryD hb (Kc.ok (L':=L') (p:=p)) _ fb.rNeeded.1 rfl rfl rfl (hr 0).1 (hr (b.fz+997)).2 (Needed_go Kc.fn fb.rAround.h hg.ne hg.dm.lt (g_ho g) (sn_rn hb fb hz hd g) (fun x hx=>by obtain⟨k,_,_,h⟩:=hck x hx;exact h.1) (fun x hx c hc=>by obtain⟨k,a1,a2,h⟩:=hck x hx;have:=h.2 c hc;omega) fb.rCanBox.2 fb.rHyps.2 (fun c k a1 a2 a3 a4=>E_can hb fb hz hd g c k a1 a2 a3 a4) (fun f d a1 a2 a3=>E_hyps hb fb hz hd g f d a1 a2 a3) (fun k a1 a2 m hm=>by
  have hx:((L'.getD []).map toLn)[k-1]? =some (((L'.getD []).map toLn)[k-1]'(by omega)):=List.getElem?_eq_getElem (by omega)
  rw[hg.mkR a1 hx] at hm
  have:=hg.mrkB a1 hx m hm
  omega) _ (fun S h1 h2=>hg.rch0 S h1 h2) _ rfl))
end
end
theorem OutV.none{d:Nat}{τ:St}:OutV d τ [] .nilsl:=⟨[],0,0,Nat.zero_le _,.nil,Nat.le_refl _,fun o h=>(by cases h),fun _=>rfl⟩
theorem GvS.none{τ:St}:GvS τ .nilsl []:=⟨[],.nil,rfl,fun _=>rfl,fun i h=>by simp at h⟩
def xsL(L:List LnG):List Ln:=if errG L=0 then cutL ((L.map nzG).map toLn) else[]
def ysL(L:List LnG):List Ln:=if errG L=0 then cutL (L.map toLn) else[]
theorem xs_ys(L:List LnG):xsL L=(ysL L).map nzL:=by
 unfold xsL ysL
 split
 ·rw[←cutL_nz,List.map_map,List.map_map];rfl
 ·rfl
theorem ys_mem{L:List LnG}{x:Ln}(h:x∈ysL L):∃y∈L,x.f=y.f∧x.cs.length=y.cs.length:=by
 unfold ysL at h
 split at h
 ·obtain⟨y,hy,e1,e2⟩:=cutS_mem h
  obtain⟨w,hw,rfl⟩:=List.mem_map.1 hy
  exact⟨w,hw,e1,e2.trans (List.length_map _)⟩
 ·cases h
theorem ys_len{L:List LnG}:(ysL L).length≤L.length:=by
 unfold ysL
 split
 ·have:=(cutS_len (T:=L.map toLn) (i:=(L.map toLn).length)).2
  rw[List.length_map] at this
  unfold cutL
  rw[List.length_map];exact this
 ·exact Nat.zero_le _
section
variable {P:Program}{b:Base}(hb:BaseOk P b)(fb:FC18 b){L':Option (List LnG)}{p:Pm}{z:Nat}(hz:2*z+20≤b.fz+1000)(hd:∀x∈L'.getD [],x.f.dep≤z)(hfw:fewG (L'.getD [])=true)
include hb fb hz hd hfw
omit hb fb hz hd in
theorem fw_len:(L'.getD []).length<2^20∧∀x∈L'.getD [],x.cs.length<2^20:=by
 obtain⟨h1,h2,_⟩:=few_len hfw
 exact⟨by omega,fun x hx=>by have:=h2 x hx;omega⟩
omit hb fb in
theorem fw_sm:∀x∈L'.getD [],Fm.sm (b.fz+1000) z x.f:=fun x hx=>by
 obtain⟨_,_,h3⟩:=few_len hfw
 exact Fm.sm_of (z:=z) (by omega) (Nat.le_refl _) (hd x hx) (by have:=Fm.mem_cnts (List.mem_map.2 ⟨x,hx,rfl⟩:x.f∈(L'.getD []).map LnG.f);omega)
omit hb in
theorem fw_no(he:errG (L'.getD [])≠0)(hm:errG (L'.getD [])=2→Kc P b L' p n_misshapen [cpsA true (L'.getD [])] (nI (fbad (L'.getD [])))):NoP b (Kc P b L' p) (cpsA true (L'.getD [])) (errG (L'.getD [])) (if errG (L'.getD [])=5 then 0 else fbad (L'.getD [])):=by
 have hl:=(fw_len hfw).1
 have hlen:∀τ:St,lenA τ 1 (cpsA true (L'.getD []))=some (L'.getD []).length:=fun τ=>by have:=(FzL.cp (L'.getD [])).len τ;rwa[List.length_map] at this
 by_cases h1:(L'.getD []).length=0∨500<(L'.getD []).length
 ·have e:errG (L'.getD [])=5:=by unfold errG;rw[if_pos h1]
  rw[e]
  exact .many _ hlen h1 hl
 ·have h2:fbad (L'.getD [])≠0:=fun h=>he (by unfold errG;rw[if_neg h1,if_pos h])
  have e:errG (L'.getD [])=2:=by unfold errG;rw[if_neg h1,if_neg h2]
  have hle:=fbad_le (L:=L'.getD [])
  have hm:=hm e
  rw[e,if_neg (by decide)]
  exact .shape _ _ hlen (by omega) (by omega) h2 (by omega) (fun τ=>sn_cps hd (by omega) τ) fb.misshapen.2 hm
theorem Cut_any(σ:St):GoesCall (b.envK (Kc P b L' p)) 0 (.f (.func n_fCut) [] []) [cpsA true (L'.getD [])] σ (fun r τ=>∃w,r= .ok (.tu [w,nI (errG (L'.getD []))])∧OutV z τ (xsL (L'.getD [])) w∧Mr σ τ):=by
 obtain⟨hl,hcl⟩:=fw_len hfw
 by_cases he:errG (L'.getD [])=0
 ·have g:=errG_0 hcl he
  have gn:=g.nz.gd
  have hsh:=gn.shp
  have e1:xsL (L'.getD [])=cutL (((L'.getD []).map nzG).map toLn):=by unfold xsL;rw[if_pos he]
  have hmis:=E_mis hb fb (L':=L') (p:=p) hz hd hcl hl g.ne
  rw[g.fb] at hmis
  rw[e1,he,g.cp]
  rw[g.cp] at hmis
  have hG:Gd b (Kc P b L' p) (((L'.getD []).map nzG).map toLn):=⟨hsh,List.length_pos_iff.2 gn.ne,by rw[List.length_map,List.length_map];exact g.le,fun τ=>by rw[←g.cp];exact sn_cps hd (by omega) τ,hmis,gn.dm,fun k x hx h1=>gn.cok k x h1 hx⟩
  refine(Cut_st Kc.fn fb.hW fb.hO fb.hCp fb.fCut.h hG (d:=z) (fun x hx=>?_) σ).mono fun r τ ⟨w,a1,⟨kv,lo,hi,c1,c2,c3,c4,c5,c6⟩,a3⟩=>⟨w,a1,⟨kv,lo,hi,c2,c3,c4,c5,c6⟩,a3⟩
  obtain⟨y,hy,rfl⟩:=List.mem_map.1 hx
  obtain⟨w,hw,rfl⟩:=List.mem_map.1 hy
  exact Fm.sm_nz (z:=z) (by omega) (Nat.le_refl _) (fw_sm hz hd hfw w hw)
 ·have e1:xsL (L'.getD [])=[]:=by unfold xsL;rw[if_neg he]
  have hN:=fw_no fb (p:=p) (P:=P) hz hd hfw he fun h2=>E_mis hb fb hz hd hcl hl fun e=>by rw[e] at h2;simp[errG] at h2
  rw[e1]
  exact(Cut_bad_st Kc.fn fb.fCut.h fb.fopen.h hN σ).mono fun r τ ⟨a1,a2⟩=>⟨_,a1,OutV.none,a2⟩
theorem rCut_any(σ:St)(V:AV)(hV:GvS σ V (L'.getD [])):GoesCall (b.envK (Kc P b L' p)) 0 (.f (.func n_rCut) [] []) [V] σ (fun r τ=>∃w,r= .ok (.tu [w,nI (errG (L'.getD []))])∧GvS τ w ((ysL (L'.getD [])).map Ln.G)∧Mr σ τ):=by
 obtain⟨hl,hcl⟩:=fw_len hfw
 have hsf:∀x∈L'.getD [],SnF (b.fz+995+3) x.f:=fun x hx=>⟨fun τ=>snTs (d:=z) (fun t ht=>by have:=Fm.dep_arg ht;have:=hd x hx;omega) (by omega) τ,fun τ=>snFs (d:=z) (fun t ht=>by have:=Fm.dep_sub ht;have:=hd x hx;omega) (by omega) τ⟩
 have hsn:∀τ,Mr σ τ→snapshot τ (b.fz+1000) V=some (rgsA (L'.getD [])):=fun τ M=>by
  obtain⟨ws,a1,a2,a3,a4⟩:=hV.ex
  exact GvS.snap (n:=b.fz+995) ⟨ws,a1.keep fun i o _=>M.2 i o,a2,a3,fun i h h'=>by
   obtain⟨cv,b1,b2,b3,b4⟩:=a4 i h h'
   exact⟨cv,b1,b2.keep fun i o _=>M.2 i o,b3,b4⟩⟩ hsf
 have kE:=E_rError hb fb (L':=L') (p:=p) hz hd hcl hl
 by_cases he:errG (L'.getD [])=0
 ·have g:=errG_0 hcl he
  have e1:ysL (L'.getD [])=cutL ((L'.getD []).map toLn):=by unfold ysL;rw[if_pos he]
  rw[e1,he]
  rw[he,g.rg] at kE
  exact(rCut_st Kc.fn fb.rCut.h g.gd (hV.rv g.num) (fun τ M=>by rw[←g.rg];exact hsn τ M) fb.rError.2 kE fb.rNeeded.2 (E_need hb fb hz hd g) fb.rCanBox.2 (fun c k a1 a2 a3 a4=>E_can hb fb hz hd g c k a1 a2 a3 a4)).mono fun r τ ⟨w,a1,a2,a3⟩=>⟨w,a1,a2.g,a3⟩
 ·have e1:ysL (L'.getD [])=[]:=by unfold ysL;rw[if_neg he]
  have h52:errG (L'.getD [])=5∨errG (L'.getD [])=2:=by
   unfold errG at he ⊢
   split
   ·exact .inl rfl
   ·split
    ·next h1 h2=>exact absurd (by rw[if_neg h1,if_pos h2]) he
    ·exact .inr rfl
  rw[e1]
  exact(rCut_bad_st Kc.fn fb.rCut.h h52 (hsn σ ⟨Nat.le_refl _,fun _ _ h=>h⟩) fb.rError.2 kE).mono fun r τ ⟨a1,a2⟩=>⟨_,a1,GvS.none,a2⟩
theorem E_same1:Kc P b L' p n_Same [cpsA true (L'.getD []),lgA L'] (.b true):=by
 obtain⟨hl,hcl⟩:=fw_len hfw
 have hsm:=fw_sm hz hd hfw
 refine kc i_Same rfl [cpsA true (L'.getD []),lgA L'] rfl rfl rfl (entryK hb (Kc.ok (L':=L') (p:=p)) _ fb.Same.1 rfl rfl rfl rfl (fr:=1) rfl (eqb1 rfl) (Same18_go Kc.fn (FzL.cp _) (FzL.lg L') (List.length_map _) (by rw[List.length_map];exact hl) (fun j h h'=>?_) (fun x hx=>?_) fb.SameForm.2 (fun j h h'=>?_) (fun x hx τ=>?_) (fun x hx τ=>snF (hd x hx) (by omega) τ) _ rfl))
 ·rw[List.getElem_map];exact⟨rfl,rfl,rfl,rfl,rfl⟩
 ·obtain⟨y,hy,rfl⟩:=List.mem_map.1 hx;exact hcl y hy
 ·rw[List.getElem_map];exact E_sF hb fb (by omega) z _ (Nat.le_refl _) (hsm _ (List.getElem_mem h'))
 ·obtain⟨y,hy,rfl⟩:=List.mem_map.1 hx
  exact snF (Fm.nz_dep z y.f (hd y hy)) (by omega) τ
theorem E_same2:Kc P b L' p n_Same [rgsA ((xsL (L'.getD [])).map fun x=>nzG x.G),rgsA ((ysL (L'.getD [])).map Ln.G)] (.b true):=by
 obtain⟨hl,hcl⟩:=fw_len hfw
 have hsm:=fw_sm hz hd hfw
 rw[xs_ys,List.map_map]
 have hyl:=ys_len (L:=L'.getD [])
 have hlen:((ysL (L'.getD [])).map ((fun x=>nzG x.G)∘nzL)).length=((ysL (L'.getD [])).map Ln.G).length:=by rw[List.length_map,List.length_map]
 have hnn:∀y∈ysL (L'.getD []),y.f.nz.nz=y.f.nz:=fun y hy=>Fm.nz_nz _ _ (Nat.le_refl _)
 refine kc i_Same rfl [rgsA ((ysL (L'.getD [])).map ((fun x=>nzG x.G)∘nzL)),rgsA ((ysL (L'.getD [])).map Ln.G)] rfl rfl rfl (entryK hb (Kc.ok (L':=L') (p:=p)) _ fb.Same.1 rfl rfl rfl rfl (fr:=1) rfl (eqb1 rfl) (Same18_go Kc.fn (FzL.rg _) (FzL.rg _) hlen (by rw[List.length_map];omega) (fun j h h'=>?_) (fun x hx=>?_) fb.SameForm.2 (fun j h h'=>?_) (fun x hx τ=>?_) (fun x hx τ=>?_) _ rfl))
 ·rw[List.getElem_map,List.getElem_map];exact⟨rfl,rfl,rfl,rfl,rfl⟩
 ·obtain⟨y,hy,rfl⟩:=List.mem_map.1 hx
  obtain⟨w,hw,_,e2⟩:=ys_mem hy
  have:(((fun x=>nzG x.G)∘nzL) y).cs.length=y.cs.length:=List.length_map _
  rw[this,e2];exact hcl w hw
 ·rw[List.getElem_map,List.getElem_map]
  have hy:=List.getElem_mem (l:=ysL (L'.getD [])) (n:=j) (by rwa[List.length_map] at h')
  obtain⟨w,hw,e1,_⟩:=ys_mem hy
  have e:(((fun x=>nzG x.G)∘nzL) ((ysL (L'.getD []))[j]'(by rwa[List.length_map] at h'))).f=((ysL (L'.getD []))[j]'(by rwa[List.length_map] at h')).f.nz:=hnn _ hy
  rw[e]
  show Kc P b L' p n_SameForm [.ag (fc ((ysL (L'.getD []))[j]'(by rwa[List.length_map] at h')).f.nz),.ag (fc ((ysL (L'.getD []))[j]'(by rwa[List.length_map] at h')).f)] (.b true)
  rw[e1]
  exact E_sF hb fb (by omega) z _ (Nat.le_refl _) (hsm w hw)
 ·obtain⟨y,hy,rfl⟩:=List.mem_map.1 hx
  obtain⟨w,hw,e1,_⟩:=ys_mem hy
  have e:(((fun x=>nzG x.G)∘nzL) y).f=y.f.nz:=hnn _ hy
  rw[e,e1]
  exact snF (Fm.nz_dep z w.f (hd w hw)) (by omega) τ
 ·obtain⟨y,hy,rfl⟩:=List.mem_map.1 hx
  obtain⟨w,hw,e1,_⟩:=ys_mem hy
  have e:y.G.f=w.f:=e1
  rw[e]
  exact snF (hd w hw) (by omega) τ
end
section
variable {P:Program}{b:Base}(hb:BaseOk P b)(fb:FC18 b){L':Option (List LnG)}{p:Pm}{z:Nat}(hz:2*z+20≤b.fz+1000)(hd:∀x∈L'.getD [],x.f.dep≤z)
include hb fb hz hd
theorem fitchCuts_E(hF:b.funcs.get n_FitchCuts=some c_FitchCuts)(hlen:(L'.getD []).length<2^62)(hcl:∀x∈L'.getD [],x.cs.length<2^62)(hf:∀x∈L'.getD [],x.f.few)
  (hsp:∀τ:St,snapshot τ (b.fz+1000) (.ag p.C)=some (.ag p.C)) (hpl:∀τ,lenA τ 1 p.hy=some p.n) (hpv:AV.eqb (b.fz+1000) p.hy p.hy=true) (hpc:p.hy.cells=[p.hy]) (hpf:Go.Lyc.conf none p.hy=true) (hpn:p.n<2^62)
  (kA:KnB P b n_awake18 [] (.b true)):KnB P b n_FitchCuts [lgA L',.ag p.C] (.b true):=by
 have kA':Kc P b L' p n_awake18 [] (.b true):=kc i_awake18 rfl [] rfl rfl rfl kA
 have kF:=E_few hb fb (L':=L') (p:=p) (by omega) hlen hcl hd hf
 have kB:=E_boxed hb fb (L':=L') (p:=p) hpl hpc hpf hpn
 have hsn:∀τ:St,snapshot τ (b.fz+1000) (lgA L')=some (lgA L'):=fun τ=>sn_lg hd (by omega) τ
 cases hfw:fewG (L'.getD []) with
 |false=>
  exact entryK hb (Kc.ok (L':=L') (p:=p)) _ hF rfl rfl rfl rfl (fr:=1) rfl (eqb1 rfl) (Law_go (d:=0) (e:=0) (xs:=[]) (ys:=[]) Kc.fn (fb.hOv hb) fb.Given.h fb.taken.h hsn (fun h=>by rw[hfw] at h;cases h) hsp hpl hpv hpc hpf fb.Few18.2 kF fb.awake18 kA' fb.Copy18.2 (fun h=>by rw[hfw] at h;cases h) fb.Same.2 (fun h=>by rw[hfw] at h;cases h) (fun h=>by rw[hfw] at h;cases h) fb.fBoxed.2 kB (fun h=>by rw[hfw] at h;cases h) (fun h=>by rw[hfw] at h;cases h) (by simp) (by simp) (by simp) (by simp) (fun h=>by rw[hfw] at h;cases h) (by simp) (fun h=>by rw[hfw] at h;cases h) (fun h=>by rw[hfw] at h;cases h) (fun h=>by rw[hfw] at h;cases h) _ rfl)
 |true=>
  obtain⟨hl,hc⟩:=fw_len hfw
  have hsm:=fw_sm hz hd hfw
  have hyl:=ys_len (L:=L'.getD [])
  have hxl:(xsL (L'.getD [])).length=(ysL (L'.getD [])).length:=by rw[xs_ys,List.length_map]
  exact entryK hb (Kc.ok (L':=L') (p:=p)) _ hF rfl rfl rfl rfl (fr:=1) rfl (eqb1 rfl) (Law_go (d:=z) (e:=errG (L'.getD [])) (xs:=xsL (L'.getD [])) (ys:=ysL (L'.getD [])) Kc.fn (fb.hOv hb) fb.Given.h fb.taken.h hsn (fun _ τ=>sn_cps hd (by omega) τ) hsp hpl hpv hpc hpf fb.Few18.2 kF fb.awake18 kA' fb.Copy18.2 (fun _=>E_cps hb fb hz hl hc hsm) fb.Same.2 (fun _=>E_same1 hb fb hz hd hfw) (fun _=>E_same2 hb fb hz hd hfw) fb.fBoxed.2 kB (fun _=>hl) (fun _=>hc) (by omega) (by omega) (fun x hx=>by
    rw[xs_ys] at hx
    obtain⟨y,hy,rfl⟩:=List.mem_map.1 hx
    obtain⟨w,hw,_,e2⟩:=ys_mem hy
    show y.cs.length<_
    rw[e2];exact hc w hw) (fun y hy=>by
    obtain⟨w,hw,_,e2⟩:=ys_mem hy
    rw[e2];exact hc w hw) (fun _=>by omega) (fun x hx=>by
    rw[xs_ys] at hx
    obtain⟨y,hy,rfl⟩:=List.mem_map.1 hx
    obtain⟨w,hw,e1,_⟩:=ys_mem hy
    show Fm.sm _ _ y.f.nz
    rw[e1];exact Fm.sm_nz (z:=z) (by omega) (Nat.le_refl _) (hsm w hw)) (fun _ y hy=>by
    obtain⟨w,hw,e1,_⟩:=ys_mem hy
    rw[e1]
    exact⟨fun τ=>snTs (d:=z) (fun t ht=>by have:=Fm.dep_arg ht;have:=hd w hw;omega) (by omega) τ,fun τ=>snFs (d:=z) (fun t ht=>by have:=Fm.dep_sub ht;have:=hd w hw;omega) (by omega) τ⟩) (fun _ σ=>Cut_any hb fb hz hd hfw σ) (fun _ σ V hV=>rCut_any hb fb hz hd hfw σ V hV) _ rfl)
end
end
section
open Go Go.RowKit Go.ChangeShapes Go.WideShapes
theorem exists_list{α:Type}{Q:Nat→α→Prop}:∀n,(∀i,i<n→∃c,Q i c)→∃l:List α,l.length=n∧∀i (h:i<l.length),Q i l[i]
 |0,_=>⟨[],rfl,fun i h=>by simp at h⟩
 |n+1,h=>by
  obtain⟨l,h1,h2⟩:=exists_list (Q:=Q) n fun i hi=>h i (by omega)
  obtain⟨c,hc⟩:=h n (by omega)
  refine⟨l++[c],by simp[h1],fun i hi=>?_⟩
  by_cases hin:i<l.length
  ·rw[List.getElem_append_left hin];exact h2 i hin
  ·have:i=n:=by simp at hi;omega
   subst this
   rw[List.getElem_append_right (by omega)]
   simpa [h1] using hc
section
variable {H:Type}{enc:TypeId×Value→H}{P:Program}{w:World}{B:Nat}
abbrev RA[Tok](w:World)(B:Nat):=RL w (fun _=>none) (fun _=>False) B
abbrev RI(w:World)(B:Nat)(l:List AV)(us:List Value):Prop:=∀[Tok] [TokOk],RA w B l us
theorem weights_all{P:Program}{H:Type}{e:TypeId}{d:DataW H}:∀ {l:List (DataW H)},d∈l→∀m∈d.weights P e,m∈DataW.weightsAll P e l
 |x::l,h,m,hm=>by
  rw[DataW.weightsAll]
  rcases List.mem_cons.1 h with rfl|h
  ·exact List.mem_append.2 (.inl hm)
  ·exact List.mem_append.2 (.inr (weights_all h m hm))
theorem open_tl{α:Type}(f:α→List AV)(Q:α→Prop){t e:TypeId}{k fuel:Nat}{cs:List Value}{x:DataW H×List MemPlace}(ht:P.underlying t=some (.slice e))(hc:P.cellsOf e=k)(hk:0<k)(hby:0<P.bytesOf e)
  (ih:∀n,n+1=fuel→∀cs x,DataW.trod enc P w 0 (fun _=>true) true n e cs=some x→∃c:α,RI w B (f c) cs∧(f c).length=k∧(∀y∈f c,conf none y=true)∧((∀n∈x.1.weights P e,n≤reachBytes)→Q c))
  (h:DataW.trod enc P w 0 (fun _=>true) true fuel t cs=some x):∃o:Option (List α),RI w B [osl true (some k) (o.map fun l=>l.map fun c=>.ag (f c))] cs∧((∀n∈x.1.weights P t,n≤reachBytes)→(o.getD []).length<2^62∧∀c∈o.getD [],Q c):=by
 rcases DataW.trod_slice ht h with⟨rfl,_⟩|⟨a,len,cap,elems,rest,n,e0,rfl,hx0,_,hlc,hcm,hel,hget,_,_⟩
 ·exact⟨none,.cons .nilsl .nil,fun _=>⟨by simp,by simp⟩⟩
 subst hc
 have each:∀i,i<len→∃c:α,∃us,w.cells? 0 (a.add (i*P.cellsOf e)) (P.cellsOf e)=some us∧RI w B (f c) us∧(f c).length=P.cellsOf e∧(∀y∈f c,conf none y=true)∧((∀n∈x.1.weights P t,n≤reachBytes)→Q c):=fun i hi=>by
  have hg:=hget i hi
  rw[List.getElem?_eq_getElem (show i<elems.length by omega)] at hg
  simp only[Option.bind_eq_some_iff] at hg
  obtain⟨us,hu,htr⟩:=hg
  obtain⟨c,h1,h2,h3,h4⟩:=ih n e0.symm us _ htr
  refine⟨c,us,hu,h1,h2,h3,fun hw=>h4 fun m hm=>hw m ?_⟩
  rw[hx0]
  simp only[DataW.weights,ht,List.mem_cons,List.mem_append]
  exact .inr (.inl (weights_all (List.mem_map.2 ⟨_,List.getElem_mem (show i<elems.length by omega),rfl⟩) _ hm))
 obtain⟨l,hl,hq⟩:=exists_list len each
 refine⟨some l,.cons ?_ .nil,fun hw=>⟨?_,fun c hc=>?_⟩⟩
 case refine_2=>
  have:=hw ((elems.length+rest.length)*P.bytesOf e) (by rw[hx0];simp[DataW.weights,ht])
  have h1:elems.length*1≤(elems.length+rest.length)*P.bytesOf e:=Nat.mul_le_mul (Nat.le_add_right _ _) hby
  have:reachBytes<2^62:=by decide
  show l.length<2^62
  omega
 case refine_3=>
  obtain⟨i,hi,rfl⟩:=List.getElem_of_mem (show c∈l from hc)
  obtain⟨_,_,_,_,_,h5⟩:=hq i hi
  exact h5 hw
 show R w _ _ B (.tl true (some (P.cellsOf e)) (l.map fun c=>.ag (f c))) _
 obtain⟨blk,off,sp⟩:=a
 have hlen:(l.map fun c=>AV.ag (f c)).length=len:=by simpa using hl
 have hsp:l≠[]→sp=none∧blk<w.heap.size:=fun hne=>by
  obtain⟨us0,hu0,hr0,hc0,_,_⟩:=hq 0 (List.length_pos_iff.2 hne)
  obtain⟨hlu,hcell⟩:=cells?_get hu0
  have h00:=hcell 0 (by omega)
  rw[List.getElem?_eq_getElem (by omega)] at h00
  simp only[Nat.zero_mul] at h00
  exact spot_none h00
 have hne':(l.map fun c=>AV.ag (f c))≠[]→l≠[]:=fun h e=>h (by rw[e];rfl)
 have hge:∀i (hi:i<(l.map fun c=>AV.ag (f c)).length),(l.map fun c=>AV.ag (f c))[i]= .ag (f (l[i]'(by simpa using hi))):=fun i hi=>by simp
 rw[←hlen]
 refine .tl (fun i j=>(w.cell? ⟨blk,off+i*P.cellsOf e+j,none⟩).getD undef) (fun hne=>⟨fun h=>h,(hsp (hne' hne)).2,fun h=>by cases h⟩) (fun i hi=>?_) (fun i hi j hj=>?_) (fun i hi j hj=>?_) (by omega) (fun v hv x hx=>?_) (fun hne=>(hsp (hne' hne)).1)
 ·rw[hge i hi]
  obtain⟨us,_,_,h2,h3,_⟩:=hq i (by simpa using hi)
  show conf (some (P.cellsOf e)) (.ag _)=true
  simp[conf,h2]
 ·obtain⟨us,hu,hr,hcf,_,_⟩:=hq i (by simpa using hi)
  obtain⟨hl',hg⟩:=cells?_get hu
  obtain⟨rfl,_⟩:=hsp fun e=>by subst e;simp at hi
  have hj':j<P.cellsOf e:=by rw[hge i hi] at hj;rw[←hcf];exact hj
  have:=hg j hj'
  rw[add_mk,add_mk,List.getElem?_eq_getElem (by omega)] at this
  show w.cell? ⟨blk,off+i*P.cellsOf e+j,none⟩=_
  rw[this];rfl
 ·obtain⟨us,hu,hr,hcf,_,_⟩:=hq i (by simpa using hi)
  obtain⟨hl',hg⟩:=cells?_get hu
  obtain⟨rfl,_⟩:=hsp fun e=>by subst e;simp at hi
  have hj':j<P.cellsOf e:=by rw[hge i hi] at hj;rw[←hcf];exact hj
  have:=hg j hj'
  rw[add_mk,add_mk,List.getElem?_eq_getElem (by omega)] at this
  rw[this]
  have h1:=hr.2 j (by omega) (by omega)
  simp only[hge i hi]
  exact h1
 ·obtain⟨i,hi,rfl⟩:=List.getElem_of_mem hv
  obtain⟨us,_,_,_,h3,_⟩:=hq i (by simpa using hi)
  rw[hge i hi] at hx
  exact h3 x hx
structure FTy(P:Program)(tB tS tU tT tTs tF tFs:TypeId):Prop where
 b:P.underlying tB=some .bool
 s:P.underlying tS=some .string
 u:P.underlying tU=some (.int .u8)
 ts:P.underlying tTs=some (.slice tT)
 fs:P.underlying tFs=some (.slice tF)
 cb:P.cellsOf tB=1
 cs:P.cellsOf tS=1
 cu:P.cellsOf tU=1
 cts:P.cellsOf tTs=1
 cfs:P.cellsOf tFs=1
 ct:P.cellsOf tT=3
 cf:P.cellsOf tF=4
 bt:0<P.bytesOf tT
 bf:0<P.bytesOf tF
 t:∃a b c:Field,P.underlying tT=some (.struct #[a,b,c])∧(a.type=tB∧a.offset=0)∧(b.type=tS∧b.offset=1)∧(c.type=tTs∧c.offset=2)
 f:∃a b c d:Field,P.underlying tF=some (.struct #[a,b,c,d])∧(a.type=tU∧a.offset=0)∧(b.type=tS∧b.offset=1)∧(c.type=tTs∧c.offset=2)∧(d.type=tFs∧d.offset=3)
variable {tB tS tU tT tTs tF tFs:TypeId}
theorem RL.three[Tok][TokOk]{a b c:AV}{x y z:Value}(h1:RA w B [a] [x])(h2:RA w B [b] [y])(h3:RA w B [c] [z]):RA w B [a,b,c] [x,y,z]:=.cons (h1.2 0 (by simp) (by simp)) (.cons (h2.2 0 (by simp) (by simp)) h3)
theorem term_R(T:FTy P tB tS tU tT tTs tF tFs):∀(fuel:Nat) (cs:List Value) (x:DataW H×List MemPlace),DataW.trod enc P w 0 (fun _=>true) true fuel tT cs=some x→∃t:Tm,RI w B (t.cells true) cs∧(t.cells true).length=3∧(∀y∈t.cells true,conf none y=true)∧((∀n∈x.1.weights P tT,n≤reachBytes)→t.ok):=by
 intro fuel
 induction fuel using Nat.strongRecOn with
 |ind fuel ih=>
 intro cs x h
 obtain⟨a,b,c,hu,⟨a1,a2⟩,⟨b1,b2⟩,⟨c1,c2⟩⟩:=T.t
 obtain⟨xs,n,rfl,hx0,hl,hxl,hget⟩:=DataW.trod_struct hu h
 have hxl:xs.length=3:=hxl
 rw[T.ct] at hl
 obtain⟨v1,v2,v3,rfl⟩:∃v1 v2 v3,cs=[v1,v2,v3]:=by
  match cs,hl with
  |[v1,v2,v3],_=>exact⟨v1,v2,v3,rfl⟩
 have g0:=hget 0 a rfl
 have g1:=hget 1 b rfl
 have g2:=hget 2 c rfl
 rw[a1,a2,T.cb,List.getElem?_eq_getElem (by omega)] at g0
 rw[b1,b2,T.cs,List.getElem?_eq_getElem (by omega)] at g1
 rw[c1,c2,T.cts,List.getElem?_eq_getElem (by omega)] at g2
 obtain⟨bb,e1,_⟩:=DataW.trod_bool T.b g0
 obtain⟨ss,e2,e2x,_⟩:=DataW.trod_string T.s g1
 obtain⟨o,h3,hok⟩:=open_tl (w:=w) (B:=B) (fun t:Tm=>t.cells true) Tm.ok T.ts T.ct (by decide) T.bt (fun m hm cs x h=>ih m (by omega) cs x h) g2
 injection e1 with e1
 injection e2 with e2
 subst e1 e2
 refine⟨.mk bb (natsOf ss) o,?_,?_,fun y hy=>?_,fun hw=>?_⟩
 ·rw[Tm.cells_eq]
  refine RL.three (.cons (.b bb) .nil) (.cons ?_ .nil) h3
  have:=R.s (w:=w) (m:=fun _=>none) (O:=fun _=>False) (B:=B) (natsOf ss) (natsOf_lt ss)
  rwa[strOf_natsOf] at this
 ·rw[Tm.cells_eq];rfl
 ·rw[Tm.cells_eq] at hy
  simp only[List.mem_cons,List.not_mem_nil,or_false] at hy
  rcases hy with rfl|rfl|rfl
  ·rfl
  ·rfl
  ·cases o<;>rfl
 ·have mem:∀ {j:Nat} {t:TypeId} {d:DataW H},[tB,tS,tTs][j]? =some t→(xs.map (·.1))[j]? =some d→∀n∈d.weights P t,n≤reachBytes:=fun ht hd n hn=>hw n (by
   rw[hx0]
   simp only[DataW.weights,hu]
   exact DataW.weights_mem_each (by simpa [a1,b1,c1] using ht) hd n hn)
  have hnm:(natsOf ss).length<2^62:=by
   have:ss.data.toList.length≤reachBytes:=mem (j:=1) rfl (by rw[List.getElem?_map,List.getElem?_eq_getElem (show 1<xs.length by omega),e2x];rfl) _ (by simp[DataW.weights])
   have h2:reachBytes<2^62:=by decide
   have h3:(natsOf ss).length=ss.data.toList.length:=by simp[natsOf]
   omega
  obtain⟨k1,k2⟩:=hok (mem (j:=2) rfl (by rw[List.getElem?_map,List.getElem?_eq_getElem (show 2<xs.length by omega)];rfl))
  exact .mk hnm k1 k2
theorem form_R(T:FTy P tB tS tU tT tTs tF tFs):∀(fuel:Nat) (cs:List Value) (x:DataW H×List MemPlace),DataW.trod enc P w 0 (fun _=>true) true fuel tF cs=some x→∃f:Fm,RI w B (f.cells true) cs∧(f.cells true).length=4∧(∀y∈f.cells true,conf none y=true)∧((∀n∈x.1.weights P tF,n≤reachBytes)→f.ok):=by
 intro fuel
 induction fuel using Nat.strongRecOn with
 |ind fuel ih=>
 intro cs x h
 obtain⟨a,b,c,d,hu,⟨a1,a2⟩,⟨b1,b2⟩,⟨c1,c2⟩,⟨d1,d2⟩⟩:=T.f
 obtain⟨xs,n,rfl,hx0,hl,hxl,hget⟩:=DataW.trod_struct hu h
 have hxl:xs.length=4:=hxl
 rw[T.cf] at hl
 obtain⟨v1,v2,v3,v4,rfl⟩:∃v1 v2 v3 v4,cs=[v1,v2,v3,v4]:=by
  match cs,hl with
  |[v1,v2,v3,v4],_=>exact⟨v1,v2,v3,v4,rfl⟩
 have g0:=hget 0 a rfl
 have g1:=hget 1 b rfl
 have g2:=hget 2 c rfl
 have g3:=hget 3 d rfl
 rw[a1,a2,T.cu,List.getElem?_eq_getElem (by omega)] at g0
 rw[b1,b2,T.cs,List.getElem?_eq_getElem (by omega)] at g1
 rw[c1,c2,T.cts,List.getElem?_eq_getElem (by omega)] at g2
 rw[d1,d2,T.cfs,List.getElem?_eq_getElem (by omega)] at g3
 obtain⟨op,e1,_,hwf⟩:=DataW.trod_int T.u g0
 obtain⟨ss,e2,e2x,_⟩:=DataW.trod_string T.s g1
 obtain⟨o,h3,hok⟩:=open_tl (w:=w) (B:=B) (fun t:Tm=>t.cells true) Tm.ok T.ts T.ct (by decide) T.bt (fun m _ cs x h=>term_R T m cs x h) g2
 obtain⟨o2,h4,hok2⟩:=open_tl (w:=w) (B:=B) (fun f:Fm=>f.cells true) Fm.ok T.fs T.cf (by decide) T.bf (fun m hm cs x h=>ih m (by omega) cs x h) g3
 injection e1 with e1
 injection e2 with e2
 subst e1 e2
 obtain⟨h0,h255⟩:=bounds_u8 hwf
 obtain⟨k,rfl⟩:∃k:Nat,op=Int.ofNat k:=⟨op.toNat,(Int.toNat_of_nonneg h0).symm⟩
 refine⟨.mk k (natsOf ss) o o2,?_,?_,fun y hy=>?_,fun hw=>?_⟩
 ·rw[Fm.cells_eq]
  refine .cons (.i .u8 _) (RL.three (.cons ?_ .nil) h3 h4)
  have:=R.s (w:=w) (m:=fun _=>none) (O:=fun _=>False) (B:=B) (natsOf ss) (natsOf_lt ss)
  rwa[strOf_natsOf] at this
 ·rw[Fm.cells_eq];rfl
 ·rw[Fm.cells_eq] at hy
  simp only[List.mem_cons,List.not_mem_nil,or_false] at hy
  rcases hy with rfl|rfl|rfl|rfl
  ·rfl
  ·rfl
  ·cases o<;>rfl
  ·cases o2<;>rfl
 ·have mem:∀ {j:Nat} {t:TypeId} {d:DataW H},[tU,tS,tTs,tFs][j]? =some t→(xs.map (·.1))[j]? =some d→∀n∈d.weights P t,n≤reachBytes:=fun ht hd n hn=>hw n (by
   rw[hx0]
   simp only[DataW.weights,hu]
   exact DataW.weights_mem_each (by simpa [a1,b1,c1,d1] using ht) hd n hn)
  have hnm:(natsOf ss).length<2^62:=by
   have:ss.data.toList.length≤reachBytes:=mem (j:=1) rfl (by rw[List.getElem?_map,List.getElem?_eq_getElem (show 1<xs.length by omega),e2x];rfl) _ (by simp[DataW.weights])
   have h2:reachBytes<2^62:=by decide
   have h3:(natsOf ss).length=ss.data.toList.length:=by simp[natsOf]
   omega
  obtain⟨k1,k2⟩:=hok (mem (j:=2) rfl (by rw[List.getElem?_map,List.getElem?_eq_getElem (show 2<xs.length by omega)];rfl))
  obtain⟨k3,k4⟩:=hok2 (mem (j:=3) rfl (by rw[List.getElem?_map,List.getElem?_eq_getElem (show 3<xs.length by omega)];rfl))
  refine .mk ?_ hnm k1 k2 k3 k4
  have:(k:Int)≤255:=h255
  omega
end
theorem Tm.ok.few{t:Tm}(h:t.ok):t.few:=by
 induction h with
 |mk hn hl h ih=>exact .mk hl ih
theorem Fm.ok.few{t:Fm}(h:t.ok):t.few:=by
 induction h with
 |mk ho hn hal ha hl h ih=>exact .mk hal (fun x hx=>(ha x hx).few) hl ih
structure LTy(P:Program)(tB tS tU tT tTs tF tFs tI tC tCs tL tLs tP:TypeId):Prop where
 f:FTy P tB tS tU tT tTs tF tFs
 i:P.underlying tI=some (.int .i64)
 ci:P.cellsOf tI=1
 cs:P.underlying tCs=some (.slice tC)
 cc:P.cellsOf tC=2
 ccs:P.cellsOf tCs=1
 bc:0<P.bytesOf tC
 ls:P.underlying tLs=some (.slice tL)
 cl:P.cellsOf tL=9
 bl:0<P.bytesOf tL
 cp:P.cellsOf tP=7
 c:∃a b:Field,P.underlying tC=some (.struct #[a,b])∧(a.type=tI∧a.offset=0)∧(b.type=tI∧b.offset=1)
 l:∃a b c d e g:Field,P.underlying tL=some (.struct #[a,b,c,d,e,g])∧(a.type=tI∧a.offset=0)∧(b.type=tI∧b.offset=1)∧(c.type=tB∧c.offset=2)∧(d.type=tF∧d.offset=3)∧(e.type=tS∧e.offset=7)∧(g.type=tCs∧g.offset=8)
 p:∃a b c d:Field,P.underlying tP=some (.struct #[a,b,c,d])∧(a.type=tFs∧a.offset=0)∧(b.type=tF∧b.offset=1)∧(c.type=tS∧c.offset=5)∧(d.type=tB∧d.offset=6)
section
variable {H:Type}{enc:TypeId×Value→H}{P:Program}{w:World}{B:Nat}{tB tS tU tT tTs tF tFs tI tC tCs tL tLs tP:TypeId}(T:LTy P tB tS tU tT tTs tF tFs tI tC tCs tL tLs tP)
include T
theorem cite_R(fuel:Nat)(cs:List Value)(x:DataW H×List MemPlace)(h:DataW.trod enc P w 0 (fun _=>true) true fuel tC cs=some x):∃c:Int×Int,RI w B [.i .i64 c.1,.i .i64 c.2] cs∧[AV.i .i64 c.1,.i .i64 c.2].length=2∧(∀y∈[AV.i .i64 c.1,.i .i64 c.2],conf none y=true)∧((∀n∈x.1.weights P tC,n≤reachBytes)→True):=by
 obtain⟨a,b,hu,⟨a1,a2⟩,⟨b1,b2⟩⟩:=T.c
 obtain⟨xs,n,rfl,hx0,hl,hxl,hget⟩:=DataW.trod_struct hu h
 have hxl:xs.length=2:=hxl
 rw[T.cc] at hl
 obtain⟨v1,v2,rfl⟩:∃v1 v2,cs=[v1,v2]:=by
  match cs,hl with
  |[v1,v2],_=>exact⟨v1,v2,rfl⟩
 have g0:=hget 0 a rfl
 have g1:=hget 1 b rfl
 rw[a1,a2,T.ci,List.getElem?_eq_getElem (by omega)] at g0
 rw[b1,b2,T.ci,List.getElem?_eq_getElem (by omega)] at g1
 obtain⟨i1,e1,_,_⟩:=DataW.trod_int T.i g0
 obtain⟨i2,e2,_,_⟩:=DataW.trod_int T.i g1
 injection e1 with e1
 injection e2 with e2
 subst e1 e2
 exact⟨(i1,i2),.cons (.i .i64 i1) (.cons (.i .i64 i2) .nil),rfl,fun y hy=>by simp only[List.mem_cons,List.not_mem_nil,or_false] at hy;rcases hy with rfl|rfl<;>rfl,fun _=>trivial⟩
abbrev lnC(x:LnG):List AV:=[.i .i64 x.dp,.i .i64 x.op,.b x.hyp,.i .u8 (Int.ofNat x.f.op),.s x.f.name,tmsA true x.f.oargs,fmsA true x.f.osub,.s x.rule,cgA true x.ocs]
theorem line_R(fuel:Nat)(cs:List Value)(x:DataW H×List MemPlace)(h:DataW.trod enc P w 0 (fun _=>true) true fuel tL cs=some x):∃c:LnG,RI w B (lnC c) cs∧(lnC c).length=9∧(∀y∈lnC c,conf none y=true)∧((∀n∈x.1.weights P tL,n≤reachBytes)→c.f.ok∧c.cs.length<2^62):=by
 obtain⟨a,b,c,d,e,g,hu,⟨a1,a2⟩,⟨b1,b2⟩,⟨c1,c2⟩,⟨d1,d2⟩,⟨e1,e2⟩,⟨g1,g2⟩⟩:=T.l
 obtain⟨xs,n,rfl,hx0,hl,hxl,hget⟩:=DataW.trod_struct hu h
 have hxl:xs.length=6:=hxl
 rw[T.cl] at hl
 obtain⟨v1,v2,v3,v4,v5,v6,v7,v8,v9,rfl⟩:∃v1 v2 v3 v4 v5 v6 v7 v8 v9,cs=[v1,v2,v3,v4,v5,v6,v7,v8,v9]:=by
  match cs,hl with
  |[v1,v2,v3,v4,v5,v6,v7,v8,v9],_=>exact⟨v1,v2,v3,v4,v5,v6,v7,v8,v9,rfl⟩
 have q0:=hget 0 a rfl
 have q1:=hget 1 b rfl
 have q2:=hget 2 c rfl
 have q3:=hget 3 d rfl
 have q4:=hget 4 e rfl
 have q5:=hget 5 g rfl
 rw[a1,a2,T.ci,List.getElem?_eq_getElem (by omega)] at q0
 rw[b1,b2,T.ci,List.getElem?_eq_getElem (by omega)] at q1
 rw[c1,c2,T.f.cb,List.getElem?_eq_getElem (by omega)] at q2
 rw[d1,d2,T.f.cf,List.getElem?_eq_getElem (by omega)] at q3
 rw[e1,e2,T.f.cs,List.getElem?_eq_getElem (by omega)] at q4
 rw[g1,g2,T.ccs,List.getElem?_eq_getElem (by omega)] at q5
 obtain⟨i1,r1,_,_⟩:=DataW.trod_int T.i q0
 obtain⟨i2,r2,_,_⟩:=DataW.trod_int T.i q1
 obtain⟨bb,r3,_⟩:=DataW.trod_bool T.f.b q2
 obtain⟨ss,r5,r5x,_⟩:=DataW.trod_string T.f.s q4
 injection r1 with r1
 injection r2 with r2
 injection r3 with r3
 injection r5 with r5
 subst r1 r2 r3 r5
 obtain⟨F,hF,hFl,hFc,hFo⟩:=form_R (w:=w) (B:=B) T.f n _ _ q3
 obtain⟨o,h6,hok⟩:=open_tl (w:=w) (B:=B) (fun c:Int×Int=>[AV.i .i64 c.1,.i .i64 c.2]) (fun _=>True) T.cs T.cc (by decide) T.bc (fun m _ cs x h=>cite_R T m cs x h) q5
 refine⟨⟨i1,i2,bb,F,natsOf ss,o⟩,?_,rfl,fun y hy=>?_,fun hw=>?_⟩
 ·intro _ _
  have hs:=R.s (w:=w) (m:=fun _=>none) (O:=fun _=>False) (B:=B) (natsOf ss) (natsOf_lt ss)
  rw[strOf_natsOf] at hs
  have hF':RA w B (F.cells true) [v4,v5,v6,v7]:=hF
  rw[Fm.cells_eq] at hF'
  have h6':RA w B [cgA true o] [v9]:=h6
  exact .cons (.i .i64 i1) (.cons (.i .i64 i2) (.cons (.b bb) (.cons (hF'.2 0 (by simp) (by simp)) (.cons (hF'.2 1 (by simp) (by simp)) (.cons (hF'.2 2 (by simp) (by simp)) (.cons (hF'.2 3 (by simp) (by simp)) (.cons hs h6')))))))
 ·simp only[List.mem_cons,List.not_mem_nil,or_false] at hy
  rcases hy with rfl|rfl|rfl|rfl|rfl|rfl|rfl|rfl|rfl
  ·rfl
  ·rfl
  ·rfl
  ·rfl
  ·rfl
  ·cases F.oargs<;>rfl
  ·cases F.osub<;>rfl
  ·rfl
  ·cases o<;>rfl
 ·have mem:∀ {j:Nat} {t:TypeId} {d:DataW H},[tI,tI,tB,tF,tS,tCs][j]? =some t→(xs.map (·.1))[j]? =some d→∀n∈d.weights P t,n≤reachBytes:=fun ht hd n hn=>hw n (by
   rw[hx0]
   simp only[DataW.weights,hu]
   exact DataW.weights_mem_each (by simpa [a1,b1,c1,d1,e1,g1] using ht) hd n hn)
  exact⟨hFo (mem (j:=3) rfl (by rw[List.getElem?_map,List.getElem?_eq_getElem (show 3<xs.length by omega)];rfl)),(hok (mem (j:=5) rfl (by rw[List.getElem?_map,List.getElem?_eq_getElem (show 5<xs.length by omega)];rfl))).1⟩
theorem lines_R(fuel:Nat)(cs:List Value)(x:DataW H×List MemPlace)(h:DataW.trod enc P w 0 (fun _=>true) true fuel tLs cs=some x):∃L:Option (List LnG),RI w B [lgA L] cs∧((∀n∈x.1.weights P tLs,n≤reachBytes)→(L.getD []).length<2^62∧∀c∈L.getD [],c.f.ok∧c.cs.length<2^62):=
 open_tl (w:=w) (B:=B) lnC (fun c=>c.f.ok∧c.cs.length<2^62) T.ls T.cl (by decide) T.bl (fun m _ cs x h=>line_R T m cs x h) h
theorem prem_R(fuel:Nat)(cs:List Value)(x:DataW H×List MemPlace)(h:DataW.trod enc P w 0 (fun _=>true) true fuel tP cs=some x):∃(hy:Option (List Fm)) (F:Fm) (fr:List Nat) (cl:Bool),RI w B [fmsA true hy,.i .u8 (Int.ofNat F.op),.s F.name,tmsA true F.oargs,fmsA true F.osub,.s fr,.b cl] cs∧((∀n∈x.1.weights P tP,n≤reachBytes)→(hy.getD []).length<2^62):=by
 obtain⟨a,b,c,d,hu,⟨a1,a2⟩,⟨b1,b2⟩,⟨c1,c2⟩,⟨d1,d2⟩⟩:=T.p
 obtain⟨xs,n,rfl,hx0,hl,hxl,hget⟩:=DataW.trod_struct hu h
 have hxl:xs.length=4:=hxl
 rw[T.cp] at hl
 obtain⟨v1,v2,v3,v4,v5,v6,v7,rfl⟩:∃v1 v2 v3 v4 v5 v6 v7,cs=[v1,v2,v3,v4,v5,v6,v7]:=by
  match cs,hl with
  |[v1,v2,v3,v4,v5,v6,v7],_=>exact⟨v1,v2,v3,v4,v5,v6,v7,rfl⟩
 have q0:=hget 0 a rfl
 have q1:=hget 1 b rfl
 have q2:=hget 2 c rfl
 have q3:=hget 3 d rfl
 rw[a1,a2,T.f.cfs,List.getElem?_eq_getElem (by omega)] at q0
 rw[b1,b2,T.f.cf,List.getElem?_eq_getElem (by omega)] at q1
 rw[c1,c2,T.f.cs,List.getElem?_eq_getElem (by omega)] at q2
 rw[d1,d2,T.f.cb,List.getElem?_eq_getElem (by omega)] at q3
 obtain⟨o,h0,hok⟩:=open_tl (w:=w) (B:=B) (fun f:Fm=>f.cells true) Fm.ok T.f.fs T.f.cf (by decide) T.f.bf (fun m _ cs x h=>form_R T.f m cs x h) q0
 obtain⟨F,hF,hFl,hFc,hFo⟩:=form_R (w:=w) (B:=B) T.f n _ _ q1
 obtain⟨ss,r5,r5x,_⟩:=DataW.trod_string T.f.s q2
 obtain⟨bb,r6,_⟩:=DataW.trod_bool T.f.b q3
 injection r5 with r5
 injection r6 with r6
 subst r5 r6
 refine⟨o,F,natsOf ss,bb,?_,fun hw=>?_⟩
 ·intro _ _
  have hs:=R.s (w:=w) (m:=fun _=>none) (O:=fun _=>False) (B:=B) (natsOf ss) (natsOf_lt ss)
  rw[strOf_natsOf] at hs
  have hF':RA w B (F.cells true) [v2,v3,v4,v5]:=hF
  rw[Fm.cells_eq] at hF'
  have h0':RA w B [fmsA true o] [v1]:=h0
  exact .cons (h0'.2 0 (by simp) (by simp)) (.cons (hF'.2 0 (by simp) (by simp)) (.cons (hF'.2 1 (by simp) (by simp)) (.cons (hF'.2 2 (by simp) (by simp)) (.cons (hF'.2 3 (by simp) (by simp)) (.cons hs (.cons (.b bb) .nil))))))
 ·have mem:∀ {j:Nat} {t:TypeId} {d:DataW H},[tFs,tF,tS,tB][j]? =some t→(xs.map (·.1))[j]? =some d→∀n∈d.weights P t,n≤reachBytes:=fun ht hd n hn=>hw n (by
   rw[hx0]
   simp only[DataW.weights,hu]
   exact DataW.weights_mem_each (by simpa [a1,b1,c1,d1] using ht) hd n hn)
  exact(hok (mem (j:=0) rfl (by rw[List.getElem?_map,List.getElem?_eq_getElem (show 0<xs.length by omega)];rfl))).1
end
end
section
abbrev tok0:Tok:=⟨fun _=>.b false,fun _ _=>.b true⟩
theorem tok0_ok: @TokOk tok0:=by
 letI:Tok:=tok0
 refine⟨fun {w O B B' i old u} h=>?_,fun {w O B i u} h=>?_⟩
 ·have h:R w (fun _=>none) O B (.b true) u:=h
  show R w (fun _=>none) (fun _=>False) B' (.b true) u
  cases h;exact .b _
 ·have h:R w (fun _=>none) O B (.b true) u:=h
  show R w (fun _=>none) (fun b=>b<B) B (.b true) u
  cases h;exact .b _
variable [Tok][TokOk]
open Go Go.RowKit Go.Lyc.T
set_option maxHeartbeats 0
theorem agg_R{w:World}{B:Nat}{l:List AV}{v:Value}(h:RA w B l v.cells.toList)(hl:1<l.length)(hf:∀x∈l,conf none x=true):R w (fun _=>none) (fun _=>False) B (.ag l) v:=by
 have h1:=h.1
 cases v with
 |agg vs=>exact .ag (show vs.toList.length=_ from h1) (fun i a b=>h.2 i a b) hf
 |_=>exact absurd (show 1=l.length from h1) (by omega)
abbrev Base.at(b:Base)(n:Nat):Base:={b with fz:=n}
theorem BaseOk.at{P:Program}{b:Base}(h:BaseOk P b)(n:Nat):BaseOk P (b.at n):=⟨h.1,h.2,h.3⟩
theorem FC18.at{b:Base}(h:FC18 b)(n:Nat):FC18 (b.at n):=by
 cases h;constructor<;>assumption
theorem bnd{α:Type}(f:α→Nat):∀l:List α,∃n,∀x∈l,f x≤n
 |[]=>⟨0,fun x h=>by cases h⟩
 |x::l=>by
  obtain⟨n,h⟩:=bnd f l
  exact⟨n+f x,fun y hy=>by rcases List.mem_cons.1 hy with rfl|hy;exact Nat.le_add_left _ _;exact Nat.le_trans (h y hy) (Nat.le_add_right _ _)⟩
theorem lawA{P:Program}{b:Base}(hb:BaseOk P b)(fb:FC18 b)(hF:b.funcs.get n_FitchCuts=some c_FitchCuts)(kA:KnB P b n_awake18 [] (.b true)){L:Option (List LnG)}{hy:Option (List Fm)}{F:Fm}{fr:List Nat}{cl:Bool}
  (h1:(L.getD []).length<2^62) (h2:∀c∈L.getD [],c.f.ok∧c.cs.length<2^62) (h3:(hy.getD []).length<2^62):
  KnB P b n_FitchCuts [lgA L,.ag [fmsA true hy,.i .u8 (Int.ofNat F.op),.s F.name,tmsA true F.oargs,fmsA true F.osub,.s fr,.b cl]] (.b true):=by
 obtain⟨z1,e1⟩:=bnd (fun x:LnG=>x.f.dep) (L.getD [])
 obtain⟨z2,e2⟩:=bnd Fm.dep (hy.getD [])
 obtain⟨z,hz1,hz2,hz3⟩:∃z,z1≤z∧z2≤z∧F.dep≤z:=⟨z1+z2+F.dep,by omega,by omega,by omega⟩
 have hh:∀τ,snapshot τ (2*z+999) (fmsA true hy)=some (fmsA true hy):=snFs (d:=z) (fun t ht=>Nat.le_trans (e2 t ht) hz2) (by omega)
 have ht:∀τ,snapshot τ (2*z+999) (tmsA true F.oargs)=some (tmsA true F.oargs):=snTs (d:=z) (fun t ht=>by have:=Fm.dep_arg ht;omega) (by omega)
 have hu:∀τ,snapshot τ (2*z+999) (fmsA true F.osub)=some (fmsA true F.osub):=snFs (d:=z) (fun t ht=>by have:=Fm.dep_sub ht;omega) (by omega)
 exact fitchCuts_E (b:=b.at (2*z)) (p:=⟨fmsA true hy,(hy.getD []).length,.i .u8 (Int.ofNat F.op),.s F.name,tmsA true F.oargs,fmsA true F.osub,fr,cl⟩) (z:=z) (hb.at _) (fb.at _) (by show 2*z+20≤2*z+1000;omega) (fun x hx=>Nat.le_trans (e1 x hx) hz1) hF h1 (fun x hx=>(h2 x hx).2) (fun x hx=>(h2 x hx).1.few)
  (fun τ=>snap_ag (k:=2*z+999) (by
   show mapO _ [fmsA true hy,_,_,tmsA true F.oargs,fmsA true F.osub,_,_]=_
   exact mapO_id fun x hx=>by
    simp only[List.mem_cons,List.not_mem_nil,or_false] at hx
    rcases hx with rfl|rfl|rfl|rfl|rfl|rfl|rfl
    ·exact hh τ
    ·rfl
    ·rfl
    ·exact ht τ
    ·exact hu τ
    ·rfl
    ·rfl)) (fun τ=>fmsA_len) (Snp.eqb _ _ (snFs (d:=z) (fun t ht=>Nat.le_trans (e2 t ht) hz2) (by show 2*z+2≤2*z+1000;omega))) (by cases hy<;>rfl) (by cases hy<;>rfl) h3 kA
end
end Go.Lyc
end
