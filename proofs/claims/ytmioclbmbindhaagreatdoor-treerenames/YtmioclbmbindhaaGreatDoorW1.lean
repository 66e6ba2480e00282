/-
  What functions of the program compute: walks, part 1. No conditions: definitions and laws.
-/
import Derived.Test.YtmioclbmbindhaaGreatDoorNames
set_option linter.all false
noncomputable section
namespace Go.Lyc
def J5:=@Bool.true_or
def yk:=@Nat.succ_mul
def il:=@List.flatMap_append
def lx:=@List.length_nil
def By:=@Nat.le_add_left
def Bz:=@List.nodup_cons
def fG:=@List.take_succ_eq_append_getElem
def h_:=@List.take_length
def vi:=@List.map_eq_nil_iff
def vj:=@List.all_eq_false
def w2:=@List.all_append
def y_:=@List.flatMap_nil
def F2:=@List.take_zero
def j7:=@List.take_of_length_le
def sk:=@List.drop_eq_getElem_cons
def F3:=@List.idxOf_append
def J6:=@List.idxOf_cons_self
def K5:=@List.flatMap_assoc
def kW:=@List.foldl_append
def R6:=@List.takeWhile_append_dropWhile
def vk:=@List.head?_drop
def Ts:=@Int.eq_ofNat_of_zero_le
def l0:=@List.length_eq_zero_iff
def K6:=@List.tail_cons
def w3:=@List.flatMap_map
def K7:=@List.map_flatMap
def sl:=@List.mem_map_of_mem
def GK:=@List.take_succ
def za:=@Bool.false_and
def xx:=@Bool.and_false
def th:=@List.nodup_append
def Tt:=@List.length_singleton
set_option maxHeartbeats 0
set_option maxRecDepth 100000
section
variable [Tok][TokOk]
open Go.RowKit Go.Lyc.T
structure cY(env:Env)(g:Nat)(cz:ch):Prop where
 f:env.funcs g=some cz
 e:env.ext g=0
 p:env.pure g=false
section
variable {b:dW}{K:Nat→List AV→AV→Prop}(hf:∀g aR r bs,K g aR r→K g aR bs→r=bs)
inductive Tm.ok:Tm→Prop
 |mk {v:Bool} {n:List Nat} {a:Option (List Tm)} (hn:n.length<2^62) (ar:(a.getD []).length<2^62) (h:∀x∈a.getD [],Tm.ok x):Tm.ok (.mk v n a)
theorem Tm.ok.len{t:Tm}(h:t.ok):t.args.length<2^62:=by cases h with|mk _ h _=>exact h
inductive Fm.ok:Fm→Prop
 |mk {op:Nat} {n:List Nat} {a:Option (List Tm)} {s:Option (List Fm)} (ab:op<256) (hn:n.length<2^62) (dJ:(a.getD []).length<2^62) (ha:∀x∈a.getD [],Tm.ok x) (ar:(s.getD []).length<2^62) (h:∀x∈s.getD [],Fm.ok x):Fm.ok (.mk op n a s)
theorem Fm.ok.a8V{t:Fm}(h:t.ok):t.args.length<2^62:=by cases h with|mk _ _ h _ _ _=>exact h
theorem Fm.ok.arg{t:Fm}(h:t.ok):∀x∈t.args,x.ok:=by cases h with|mk _ _ _ h _ _=>exact h
theorem Fm.ok.a8W{t:Fm}(h:t.ok):t.sub.length<2^62:=by cases h with|mk _ _ _ _ h _=>exact h
theorem Fm.ok.n7{t:Fm}(h:t.ok):∀x∈t.sub,x.ok:=by cases h with|mk _ _ _ _ _ h=>exact h
end
section
variable {α:Type}[DecidableEq α]{ef:α→AV}{ad:jL}
def setE(ef:α→AV):Nat→List α→List (AV×AV×Nat)
 |_,[]=>[]
 |i,k::bc=>(ef k,.b true,i)::setE ef (i+1) bc
def wo(k:α)(l:List α):List α:=if k∈l then l else l++[k]
theorem UR:∀(l:List α) (i:Nat) (k:α),setE ef i (l++[k])=setE ef i l++[(ef k,.b true,i+l.length)]
 |[],i,k=>rfl
 |x::l,i,k=>by
  show _::setE ef (i+1) (l++[k])=_;rw[UR l (i+1) k];show _=(ef x,AV.b true,i)::(setE ef (i+1) l++[(ef k,.b true,i+(l.length+1))]);rw[show i+1+l.length=i+(l.length+1) from by omega]
theorem MW(aD:∀a b,keyEq ad (ef a) (ef b)=some (decide (a=b)))(k:α):∀(l:List α) (i:Nat),nR ad (ef k) (.b true) (setE ef i l)=some (if k∈l then some (setE ef i l) else none)
 |[],i=>rfl
 |x::l,i=>by
  show(match keyEq ad (ef k) (ef x) with
   |none=>none
   |some true=>some (some ((ef k,AV.b true,i)::setE ef (i+1) l))
   |some false=>match nR ad (ef k) (AV.b true) (setE ef (i+1) l) with|none=>none|some none=>some none|some (some es)=>some (some ((ef x,AV.b true,i)::es)))=_
  rw[aD,MW aD k l (i+1)];by_cases h:k=x
  ·subst h;rw[decide_eq_true rfl,if_pos (gz)];rfl
  ·rw[decide_eq_false h];by_cases hm:k∈l
   ·rw[if_pos hm,if_pos (e9 _ hm)];rfl
   ·rw[if_neg hm,if_neg (by simp[h,hm])]
theorem US:∀(l:List α) (i c:Nat),i+l.length≤c→dw (fun(e:AV×AV×Nat)=>Nat.blt e.2.2 c) (setE ef i l)=true
 |[],_,_,_=>rfl
 |x::l,i,c,h=>by
  show cond (Nat.blt i c) (dw _ (setE ef (i+1) l)) false=true;have h:i+(l.length+1)≤c:=h;rw[show Nat.blt i c=true from eu (by omega),cond_true];exact US l (i+1) c (by omega)
def gh(seen:List Nat):Nat→List α→List (α×Nat)
 |_,[]=>[]
 |i,k::bc=>cond (oE i seen) (gh seen (i+1) bc) ((k,i)::gh seen (i+1) bc)
theorem UT(seen:List Nat):∀(l:List α) (i:Nat),mM seen (setE ef i l)=(gh seen i l).map fun p=>(ef p.1,.b true,p.2)
 |[],_=>rfl
 |x::l,i=>by
  show cond (oE i seen) (mM seen (setE ef (i+1) l)) ((ef x,.b true,i)::mM seen (setE ef (i+1) l))=_;rw[UT seen l (i+1),gh];cases oE i seen<;>rfl
theorem MX(n:Nat)(j:Nat):∀(l:List Nat),oE n (l++[j])=(oE n l||Nat.beq j n)
 |[]=>by show cond (Nat.beq j n) true false=_;cases Nat.beq j n<;>rfl
 |x::l=>by
  show cond (Nat.beq x n) true (oE n (l++[j]))=(cond (Nat.beq x n) true (oE n l)||Nat.beq j n);rw[MX n j l];cases Nat.beq x n<;>rfl
theorem MY:∀(l:List α) (i:Nat),(gh [] i l).map Prod.fst=l
 |[],_=>rfl
 |x::l,i=>by
  show x::(gh [] (i+1) l).map Prod.fst=_;rw[MY l (i+1)]
theorem Ii(seen:List Nat):∀(l:List α) (i:Nat) (p:α×Nat),p∈gh seen i l→i≤p.2
 |[],_,_,h=>by simp[gh] at h
 |x::l,i,p,h=>by
  rw[gh] at h;cases hm:oE i seen with
  |true=>rw[hm] at h;have:=Ii seen l (i+1) p h;omega
  |false=>
   rw[hm,cond_false] at h;rcases cH.1 h with rfl|h
   ·exact o _
   ·have:=Ii seen l (i+1) p h;omega
theorem UU(seen:List Nat)(j:Nat):∀(l:List α) (i:Nat),j<i→gh (seen++[j]) i l=gh seen i l
 |[],_,_=>rfl
 |x::l,i,h=>by
  rw[gh,gh,MX,UU seen j l (i+1) (by omega)];have:Nat.beq j i=false:=by
   cases hb:Nat.beq j i with
   |false=>rfl
   |true=>have:=fm hb;omega
  rw[this,Bool.or_false]
theorem Ij(seen:List Nat):∀(l:List α) (i:Nat) (p:α×Nat),p∈gh seen i l→(p::gh (seen++[p.2]) i l).Perm (gh seen i l)
 |[],_,_,h=>by simp[gh] at h
 |x::l,i,p,h=>by
  rw[gh] at h ⊢;rw[gh,MX];cases hm:oE i seen with
  |true=>
   rw[hm,cond_true] at h;rw[J5,cond_true,cond_true];exact Ij seen l (i+1) p h
  |false=>
   rw[hm,cond_false] at h;rw[Fe,cond_false];rcases cH.1 h with rfl|h
   ·rw[fy,cond_true,UU seen i l (i+1) (by omega)]
   ·have iD:=Ii seen l (i+1) p h;have:Nat.beq p.2 i=false:=by
     cases hb:Nat.beq p.2 i with
     |false=>rfl
     |true=>have:=fm hb;omega
    rw[this,cond_false];exact(List.Perm.swap _ _ _).trans ((Ij seen l (i+1) p h).cons _)
theorem UW(seen:List Nat):∀(l:List α) (i:Nat) (p:α×Nat),p∈gh seen i l→pe p.2 (setE ef i l)=some (ef p.1,.b true,p.2)
 |[],_,_,h=>by simp[gh] at h
 |x::l,i,p,h=>by
  rw[gh] at h;show cond (Nat.beq i p.2) (some (ef x,AV.b true,i)) (pe p.2 (setE ef (i+1) l))=_;have key:∀h:p∈gh seen (i+1) l,cond (Nat.beq i p.2) (some (ef x,AV.b true,i)) (pe p.2 (setE ef (i+1) l))=some (ef p.1,.b true,p.2):=fun h=>by
   have iD:=Ii seen l (i+1) p h;have:Nat.beq i p.2=false:=by
    cases hb:Nat.beq i p.2 with
    |false=>rfl
    |true=>have:=fm hb;omega
   rw[this,cond_false];exact UW seen l (i+1) p h
  cases hm:oE i seen with
  |true=>rw[hm,cond_true] at h;exact key h
  |false=>
   rw[hm,cond_false] at h;rcases cH.1 h with rfl|h
   ·rw[fy];rfl
   ·exact key h
theorem UX(j:Nat):∀(l:List Nat),qi (l++[j])=some j
 |[]=>rfl
 |x::l=>by
  show(match qi (l++[j]) with|none=>some x|some y=>some y)=_;rw[UX j l]
section
variable {env:Env}{aI:Option Nat}{D:List (Nat ⊕ (AV×List AV))}{n:Nat}{f:Nat→AV}{I:af}{Q:e5}
theorem gV.a8X{d:Nat}{wn:List Nat}{ops:List a1}{x:aC}{bT c:Nat}{es:List (AV×AV×Nat)}(k:Nat)(hn:I.next=k)(hm:I.get bT=some (.map es c))(au:Nat.blt d n=true)(h1:ik env n f x=some (.m (some bT)))
  (h:∀aq:af,aq.next=k+1→aq.get k=some (.mapIter (some bT) c [] c)→(∀i J,I.get i=some J→aq.get i=some J)→e6 env aI D n ops (fq f d (.p (some (k,0)))) aq Q):e6 env aI D n (⟨some d,.rangeMap x,none,wn⟩::ops) f I Q:=by
 subst hn;refine gV.val (v:=.p (some (I.next,0))) (aq:=I.push (.mapIter (some bT) c [] c)) au rfl ?_ (h (I.push (.mapIter (some bT) c [] c)) rfl (af.md _) fun i J ab=>by rw[af.iB trivial _ (af.bW ab)];exact ab);show(match ik env n f x with
  |some (.m none)=>some (bq.val (kY I.next 0) (I.push (.mapIter none 0 [] 0)))
  |some (.m (some id))=>match I.get id with
   |some (.map _ aL)=>some (bq.val (kY I.next 0) (I.push (.mapIter (some id) aL [] aL)))
   |_=>none
  |_=>none)=_
 rw[h1];show(match I.get bT with
   |some (.map _ aL)=>some (bq.val (kY I.next 0) (I.push (.mapIter (some bT) aL [] aL)))
   |_=>none)=_
 rw[hm];rfl
theorem gV.a8Y{d:Nat}{wn:List Nat}{ops:List a1}{x:aC}{bT it:Nat}{l:List α}{seen:List Nat}(kr:I.get it=some (.mapIter (some bT) l.length seen l.length))(hm:I.get bT=some (.map (setE ef 0 l) l.length))(au:Nat.blt d n=true)(h1:ik env n f x=some (.p (some (it,0))))
  (h0:gh seen 0 l=[]→e6 env aI D n ops (fq f d (.bJ [.b false])) I Q)
  (aj:∀p∈gh seen 0 l,∀aq:af,aq.next=I.next→aq.get it=some (.mapIter (some bT) l.length (seen++[p.2]) l.length)→(∀i J,i≠it→I.get i=some J→aq.get i=some J)→e6 env aI D n ops (fq f d (.bJ [.b true,ef p.1,.b true])) aq Q):e6 env aI D n (⟨some d,.ss x,none,wn⟩::ops) f I Q:=by
 have e:opx 0 (ik env n f) I (.ss x)=(match mM seen (setE ef 0 l) with
       |[]=>some (bq.val (.bJ [.b false]) I)
       |cF=>some (bq.hy (cF.map fun(e:AV×AV×Nat)=>(.bJ [.b true,e.1,e.2.1],I.set it (.mapIter (some bT) l.length (seen++[e.2.2]) l.length))))):=by
  show(match ik env n f x with
   |some (.p (some (it,0)))=>if Nat.blt it 0 then none else
    match I.get it with
    |some (.mapIter none _ _ _)=>some (bq.val (.bJ [.b false]) I)
    |some (.mapIter (some id) since seen hk)=>match I.get id with
     |some (.map es aL)=>
      cond (Nat.beq aL since&&Nat.beq hk since&&dw (fun(e:AV×AV×Nat)=>Nat.blt e.2.2 since) es)
       (match mM seen es with
        |[]=>some (bq.val (.bJ [.b false]) I)
        |l=>some (bq.hy (l.map fun(e:AV×AV×Nat)=>(.bJ [.b true,e.1,e.2.1],I.set it (.mapIter (some id) since (seen++[e.2.2]) aL))))) none
     |_=>none
    |_=>none
   |_=>none)=_
  rw[h1];show(if Nat.blt it 0 then none else
    match I.get it with
    |some (.mapIter none _ _ _)=>some (bq.val (.bJ [.b false]) I)
    |some (.mapIter (some id) since seen hk)=>match I.get id with
     |some (.map es aL)=>
      cond (Nat.beq aL since&&Nat.beq hk since&&dw (fun(e:AV×AV×Nat)=>Nat.blt e.2.2 since) es)
       (match mM seen es with
        |[]=>some (bq.val (.bJ [.b false]) I)
        |l=>some (bq.hy (l.map fun(e:AV×AV×Nat)=>(.bJ [.b true,e.1,e.2.1],I.set it (.mapIter (some id) since (seen++[e.2.2]) aL))))) none
     |_=>none
    |_=>none)=_
  rw[if_neg (by simp[Nat.blt,Nat.ble]),kr];show(match I.get bT with
     |some (.map es aL)=>
      cond (Nat.beq aL l.length&&Nat.beq l.length l.length&&dw (fun(e:AV×AV×Nat)=>Nat.blt e.2.2 l.length) es)
       (match mM seen es with
        |[]=>some (bq.val (.bJ [.b false]) I)
        |cF=>some (bq.hy (cF.map fun(e:AV×AV×Nat)=>(.bJ [.b true,e.1,e.2.1],I.set it (.mapIter (some bT) l.length (seen++[e.2.2]) aL))))) none
     |_=>none)=_
  rw[hm];show cond (Nat.beq l.length l.length&&Nat.beq l.length l.length&&dw (fun(e:AV×AV×Nat)=>Nat.blt e.2.2 l.length) (setE ef 0 l)) _ none=_;rw[fy,US l 0 l.length (by omega)];rfl
 rw[UT] at e;cases ar:gh seen 0 l with
 |nil=>
  rw[ar] at e;exact gV.val au rfl e (h0 ar)
 |cons p0 t=>
  rw[ar] at e;refine gV.hy au rfl e (by simp) fun q hq=>?_;rw[eK] at hq;obtain⟨p,hp,rfl⟩:=bQ.1 hq;rw[←ar] at hp;exact aj p hp _ rfl (j_ kr).1 (j_ kr).2
theorem gV.a8Z{d:Nat}{wn:List Nat}{ops:List a1}{x:aC}{bT it:Nat}{l:List α}{seen:List Nat}{p:α×Nat}(hp:p∈gh seen 0 l)(kr:I.get it=some (.mapIter (some bT) l.length (seen++[p.2]) l.length))(hm:I.get bT=some (.map (setE ef 0 l) l.length))(au:Nat.blt d n=true)(h1:ik env n f x=some (.p (some (it,0))))
  (h:e6 env aI D n ops (fq f d (.bJ [ef p.1,.b true])) I Q):e6 env aI D n (⟨some d,.entry x,none,wn⟩::ops) f I Q:=by
 refine gV.val au rfl ?_ h;show(match ik env n f x with
  |some (.p (some (it,0)))=>match I.get it with
   |some (.mapIter (some id) since seen hk)=>match I.get id with
    |some (.map es aL)=>cond (Nat.beq aL hk) (match qi seen with
     |some b=>match pe b es with
      |some e=>some (bq.val (.bJ [e.1,e.2.1]) I)
      |none=>none
     |none=>none) none
    |_=>none
   |_=>none
  |_=>none)=_
 rw[h1];show(match I.get it with
   |some (.mapIter (some id) since seen hk)=>match I.get id with
    |some (.map es aL)=>cond (Nat.beq aL hk) (match qi seen with
     |some b=>match pe b es with
      |some e=>some (bq.val (.bJ [e.1,e.2.1]) I)
      |none=>none
     |none=>none) none
    |_=>none
   |_=>none)=_
 rw[kr];show(match I.get bT with
    |some (.map es aL)=>cond (Nat.beq aL l.length) (match qi (seen++[p.2]) with
     |some b=>match pe b es with
      |some e=>some (bq.val (.bJ [e.1,e.2.1]) I)
      |none=>none
     |none=>none) none
    |_=>none)=_
 rw[hm];show cond (Nat.beq l.length l.length) (match qi (seen++[p.2]) with
     |some b=>match pe b (setE ef 0 l) with
      |some e=>some (bq.val (.bJ [e.1,e.2.1]) I)
      |none=>none
     |none=>none) none=_
 rw[fy,cond_true,UX];show(match pe p.2 (setE ef 0 l) with
      |some e=>some (bq.val (.bJ [e.1,e.2.1]) I)
      |none=>none)=_
 rw[UW seen l 0 p hp]
end
end
inductive Sl(I:af)(ad:Option Nat):AV→List AV→Prop
 |nil:Sl I ad .aB []
 |ak (J:Nat) (cap:Option Nat) (xs rest:List AV) (h:I.get J=some (.cells (xs.flatMap AV.cells++rest))) (ah:∀y∈xs,conf ad y=true) (aD:cap=none∨cap=some xs.length):Sl I ad (.ak J 0 xs.length ad cap) xs
theorem Sl.aF{I U:af}{ad:Option Nat}{v:AV}{xs:List AV}(h:Sl I ad v xs)(k:∀i J,v.bn =some i→I.get i=some J→U.get i=some J):Sl U ad v xs:=by
 cases h with
 |nil=>exact .nil
 |ak J cap xs rest h ah aD=>exact .ak J cap xs rest (k _ _ rfl h) ah aD
theorem Sl.conf{I:af}{ad:Option Nat}{v:AV}{xs:List AV}(h:Sl I ad v xs):∀y∈xs,conf ad y=true:=by
 cases h with
 |nil=>intro y aw;simp at aw
 |ak J cap xs rest h ah aD=>exact ah
theorem Sl.lf{I:af}{ad:Option Nat}{v:AV}{xs:List AV}(h:Sl I ad v xs):v.lf=true:=by cases h<;>rfl
theorem Sl.mx{I:af}{ad:Option Nat}{v:AV}{xs:List AV}(h:Sl I ad v xs):Go.Lyc.conf none v=true:=by cases h<;>rfl
theorem Sl.cells0{I:af}{ad:Option Nat}{v:AV}{xs:List AV}(h:Sl I ad v xs):v.cells=[v]:=by cases h<;>rfl
theorem Sl.Ik{I:af}{ad:Option Nat}{v:AV}{xs:List AV}(h:Sl I ad v xs):v.val=true:=by cases h<;>rfl
theorem Sl.len{I U:af}{ad:Option Nat}{v:AV}{xs:List AV}(h:Sl I ad v xs):lenA U 1 v=some xs.length:=by cases h<;>rfl
theorem Sl.lt{I:af}{ad:Option Nat}{v:AV}{xs:List AV}(h:Sl I ad v xs){i:Nat}(hi:v.bn =some i):i<I.next:=by
 cases h with
 |nil=>cases hi
 |ak J cap xs rest h ah aD=>cases hi;exact af.bW h
theorem UY{ad:Option Nat}:∀ {xs:List AV} {rest:List AV},(∀y∈xs,Go.Lyc.conf ad y=true)→∀(j:Nat) (az:j<xs.length),∃r,(xs.flatMap AV.cells++rest).drop (j*shN ad)=(xs[j]).cells++r∧fI ad ((xs[j]).cells++r)=some xs[j]
 |[],_,_,j,az=>by simp at az
 |x::xs,rest,h,0,_=>⟨xs.flatMap AV.cells++rest,by rw[w1,xS,eG,iw];rfl,(G4 (h x (by simp))).1⟩
 |x::xs,rest,h,j+1,az=>by
  obtain⟨r,h1,h2⟩:=UY (rest:=rest) (fun y aw=>h y (e9 _ aw)) j (by simpa using az);refine⟨r,?_,h2⟩;rw[eG,iw,show(j+1)*shN ad=shN ad+j*shN ad from by rw[yk,qf],← pb,(G4 (h x (by simp))).2,h1];rfl
theorem Sl.hc{I:af}{ad:Option Nat}{v:AV}{xs:List AV}(h:Sl I ad v xs){j:Nat}(az:j<xs.length):∃J c r,v.bn =some J∧idxSlA ad v j=some (.p (some (J,j*shN ad)))∧I.get J=some (.cells c)∧c.drop (j*shN ad)=(xs[j]).cells++r∧fI ad (c.drop (j*shN ad))=some xs[j]:=by
 cases h with
 |nil=>simp at az
 |ak J cap xs rest h ah aD=>
  obtain⟨r,h1,h2⟩:=UY (rest:=rest) ah j az;refine⟨J,_,r,rfl,?_,h,h1,by rw[h1];exact h2⟩;have h3:Nat.blt j xs.length=true:=eu az;simp only[idxSlA,h3,decide_true,so,if_true,hO]
theorem Sl.read{I:af}{ad:Option Nat}{v:AV}{xs:List AV}(h:Sl I ad v xs):readList I v=some xs:=by
 cases h with
 |nil=>rfl
 |ak J cap xs rest h ah aD=>
  show(match I.get J with|some (.cells c)=>elems ad xs.length (c.drop 0)|_=>none)=_;rw[h];exact Dd ah
theorem a9a{xs:List AV}(k:Nat):xs.flatMap AV.cells=(xs.take k).flatMap AV.cells++(xs.drop k).flatMap AV.cells:=by
 rw[←il,nf]
theorem Sl.cut{I:af}{ad:Option Nat}{v:AV}{xs:List AV}(h:Sl I ad v xs)(hn:∀J l c,v= .ak J 0 l ad c→c=none){ao:aC→Option AV}{hi:aC}{k:Nat}(aD:k≤xs.length)(he:ao hi=some (ay k)):∃w,sliceA ao ad v none (some hi) none=some w∧Sl I ad w (xs.take k)∧w.bn =v.bn ∧∀J l c,w= .ak J 0 l ad c→c=none:=by
 have hb:∀d,bndO ao (some hi) d=some k:=fun d=>by show(match ao hi with|some v=>natOf v|none=>none)=_;rw[he];rfl
 cases h with
 |nil=>
  obtain rfl:k=0:=by simpa using aD
  refine⟨.aB,?_,.nil,rfl,fun _ _ _ h=>by cases h⟩;show(match bndO ao none 0,bndO ao (some hi) 0,bndO ao none 0 with|some 0,some 0,some 0=>some AV.aB|_,_,_=>none)=_;rw[hb];rfl
 |ak J cap xs rest h ah gw=>
  obtain rfl:=hn J xs.length cap rfl;refine⟨.ak J 0 k ad none,?_,?_,rfl,fun _ _ _ h=>by cases h;rfl⟩
  ·have h1:Nat.ble 0 k=true:=eu (hv k);have h2:(Nat.ble k xs.length&&Nat.beq 0 0)=true:=by rw[eu aD];rfl
   have h0:bndO ao none 0=some 0:=rfl;simp only[sliceA,if_true,h0,hb,h1,h2]
  ·have e:(xs.take k).length=k:=by rw[eL];omega
   have:=Sl.ak (ad:=ad) J none (xs.take k) ((xs.drop k).flatMap AV.cells++rest) (by rw[h,a9a k,iw]) (fun y aw=>ah y (oy aw)) (.inl rfl);rwa[e] at this
theorem Sl.append{I:af}{ad:Option Nat}{v x:AV}{xs aO:List AV}{y:AV}{bytes:Nat}(h:Sl I ad v xs)(hx:newOf I x=some (y::aO))(ah:∀z∈y::aO,Go.Lyc.conf ad z=true)(hb:(3*(xs.length+(y::aO).length)+2000)*bytes≤281474976710656):
  ∃a2 aq,appendO 0 I ad bytes v x=some (a2,aq)∧Sl aq ad a2 (xs++y::aO)∧a2.bn =some I.next∧(∀J l c,a2= .ak J 0 l ad c→c=none)∧aq.next=I.next+1∧∀i J,v.bn ≠some i→I.get i=some J→aq.get i=some J:=by
 have DF:=h.conf;have hall:(dw (Go.Lyc.conf ad) xs&&dw (Go.Lyc.conf ad) (y::aO)&&Nat.ble ((3*(xs.length+(y::aO).length)+2000)*bytes) 281474976710656)=true:=by
  rw[mY DF,mY ah,eu hb];rfl
 have al:=h.read;have mk:∀U:af,U.next=I.next→Sl (U.push (.cells (xs.flatMap AV.cells++(y::aO).flatMap AV.cells))) ad (.ak I.next 0 (xs.length+(y::aO).length) ad none) (xs++y::aO):=fun U DG=>by
  have:=Sl.ak (I:=U.push (.cells (xs.flatMap AV.cells++(y::aO).flatMap AV.cells))) (ad:=ad) I.next none (xs++y::aO) [] (by rw[←DG,af.md,il,fV]) (fun z bg=>by
   rcases dE.1 bg with bg|bg
   ·exact DF z bg
   ·exact ah z bg) (.inl rfl)
  rwa[cR] at this
 cases h with
 |nil=>
  refine⟨.ak I.next 0 (y::aO).length ad none,I.push (.cells ((y::aO).flatMap AV.cells)),?_,?_,rfl,fun _ _ _ h=>by cases h;rfl,rfl,fun i J _ ab=>by rw[af.iB trivial _ (af.bW ab)];exact ab⟩
  ·unfold appendO;rw[hx];show cond _ _ none=_;rw[hall];rfl
  ·have:=mk I rfl;simpa using this
 |ak J cap xs rest h hc0 gw=>
  have au:∀i b7,i≠J→I.get i=some b7→((I.set J .dead).push (.cells (xs.flatMap AV.cells++(y::aO).flatMap AV.cells))).get i=some b7:=fun i b7 bx ab=>by
   have bZ:=af.bW ab;rw[af.iB trivial _ (show i<(I.set J .dead).next from bZ),af.jg trivial _ (af.bW h),if_neg bx];exact ab
  rcases gw with rfl|rfl
  ·refine⟨.ak I.next 0 (xs.length+(y::aO).length) ad none,(I.set J .dead).push (.cells (xs.flatMap AV.cells++(y::aO).flatMap AV.cells)),?_,mk _ rfl,rfl,fun _ _ _ h=>by cases h;rfl,rfl,fun i b7 bx ab=>au i b7 (fun e=>bx (by rw[e];rfl)) ab⟩;unfold appendO;rw[al,hx];show cond _ _ none=_;rw[hall,cond_true];show(if ad=ad then(if Nat.blt J 0 then none else if Nat.beq 0 0 then some (AV.ak I.next 0 (xs.length+(y::aO).length) ad none,(I.set J .dead).push (.cells (xs.flatMap AV.cells++(y::aO).flatMap AV.cells))) else none) else none)=_;rw[if_pos rfl,if_neg (by simp[Nat.blt,Nat.ble]),if_pos (by rfl)]
  ·refine⟨.ak I.next 0 (xs.length+(y::aO).length) ad none,I.push (.cells (xs.flatMap AV.cells++(y::aO).flatMap AV.cells)),?_,mk _ rfl,rfl,fun _ _ _ h=>by cases h;rfl,rfl,fun i b7 _ ab=>by rw[af.iB trivial _ (af.bW ab)];exact ab⟩;unfold appendO;rw[al,hx];show cond _ _ none=_;rw[hall,cond_true];show(if ad=ad then cond (Nat.ble (xs.length+(y::aO).length) xs.length) _ (some (AV.ak I.next 0 (xs.length+(y::aO).length) ad none,I.push (.cells (xs.flatMap AV.cells++(y::aO).flatMap AV.cells)))) else none)=_;rw[if_pos rfl,show Nat.ble (xs.length+(y::aO).length) xs.length=false from by rw[J4];intro h;have:=eV h;simp only[fH] at this;omega];rfl
namespace W
section
variable {b0:lv}{env:Env}{aI:Option Nat}{D:List (Nat ⊕ (AV×List AV))}{n:Nat}{F:List (Nat×AV)}{z:Nat→AV}{I:af}{Q:e5}
theorem a9b{d:Nat}{ad:Option Nat}{x:aC}{g:Option (Nat×Bool)}{ops:List a1}{id off:Nat}{c:List AV}{v:AV}(aj:I.get id=some (.cells c))(au:Nat.blt d n=true)(hw:wtL g n F=true)(h1:cq env n F z x=some (.p (some (id,off))))(h2:fI ad (c.drop off)=some v)(h:bL b0 env aI D n ops (bC ((d,v)::F) z) I Q):bL b0 env aI D n (⟨some d,.load ad x,g,[]⟩::ops) (bC F z) I Q:=val au hw (rL _ _ h1 (jS aj h2)) h
theorem le{d:Nat}{ad:Option Nat}{x:aC}{g:Option (Nat×Bool)}{ops:List a1}{a v:AV}(au:Nat.blt d n=true)(hw:wtL g n F=true)(h1:cq env n F z x=some a)(h2:nS I ad a=some v)(h:bL b0 env aI D n ops (bC ((d,v)::F) z) I Q):bL b0 env aI D n (⟨some d,.load ad x,g,[]⟩::ops) (bC F z) I Q:=val au hw (rL _ _ h1 h2) h
theorem fJ{L:List (Nat×List AV)}(H:Has I L){d m:Nat}{ad:Option Nat}{ir:List AV}{ps:List (Nat×aC)}{g:Option (Nat×Bool)}{ops:List a1}{c:List AV}{k:Nat}(hn:I.next=k)(au:Nat.blt d n=true)(hw:wtL g n F=true)(ar:iR (cq env n F z) (fun i sz=>i*sz) (ps.map fun p=>(p.1,shN ad,p.2)) (fP m ir)=some c)
  (h:∀U:af,U.next=k+1→Has U ((k,c)::L)→(∀i J,I.get i=some J→U.get i=some J)→bL b0 env aI D n ops (bC ((d,.ak k 0 m ad (some m))::F) z) U Q):bL b0 env aI D n (⟨some d,.buildSlice ad m ir ps,g,[]⟩::ops) (bC F z) I Q:=by
 subst hn;have ca:∀i J,I.get i=some J→(I.push (.cells c)).get i=some J:=fun i J ab=>by rw[af.iB trivial _ (af.bW ab)];exact ab
 refine val (v:=.ak I.next 0 m ad (some m)) (aq:=I.push (.cells c)) au hw ?_ (h (I.push (.cells c)) rfl (H.push rfl (af.md _) ca) ca);show(match iR (cq env n F z) (fun i sz=>i*sz) (ps.map fun p=>(p.1,shN ad,p.2)) (fP m ir) with
  |some c=>some (bq.val (.ak I.next 0 m ad (some m)) (I.push (.cells c)))
  |none=>none)=_
 rw[ar]
theorem ap{d:Nat}{ad:Option Nat}{bytes:Nat}{s x:aC}{g:Option (Nat×Bool)}{ops:List a1}{v w:AV}{xs:List AV}(y:AV)(aO:List AV)(hA:Sl I ad v xs)(hx:newOf I w=some (y::aO))(ah:∀z∈y::aO,Go.Lyc.conf ad z=true)(hb:(3*(xs.length+(y::aO).length)+2000)*bytes≤281474976710656)(au:Nat.blt d n=true)(hw:wtL g n F=true)(h1:cq env n F z s=some v)(h2:cq env n F z x=some w)
  (h:∀a2 U,Sl U ad a2 (xs++y::aO)→a2.bn =some I.next→(∀J l c,a2= .ak J 0 l ad c→c=none)→U.next=I.next+1→(∀i J,v.bn ≠some i→I.get i=some J→U.get i=some J)→bL b0 env aI D n ops (bC ((d,a2)::F) z) U Q):bL b0 env aI D n (⟨some d,.append ad bytes s x,g,[]⟩::ops) (bC F z) I Q:=by
 obtain⟨a2,U,e,a,b,c,dT,eb⟩:=hA.append hx ah hb;refine val (v:=a2) (aq:=U) au hw ?_ (h a2 U a b c dT eb);show(match cq env n F z s,cq env n F z x with|some s,some x=>(match appendO 0 I ad bytes s x with|some (v,I)=>some (bq.val v I)|none=>none)|_,_=>none)=_;rw[h1,h2];show(match appendO 0 I ad bytes v w with|some (v,I)=>some (bq.val v I)|none=>none)=_;rw[e]
theorem pu{d d0:Nat}{ad:Option Nat}{bytes:Nat}{ir:List AV}{ps:List (Nat×aC)}{s:aC}{g b4:Option (Nat×Bool)}{ops:List a1}{v:AV}{xs c:List AV}(y:AV)(hA:Sl I ad v xs)(au:Nat.blt d n=true)(sO:Nat.blt d0 n=true)(hw:wtL g n F=true)(ar:iR (cq env n F z) (fun i sz=>i*sz) (ps.map fun p=>(p.1,shN ad,p.2)) (fP 1 ir)=some c)(aw:elems ad 1 c=some [y])(dV:Go.Lyc.conf ad y=true)
  (jC:wtL b4 n ((d0,.ak I.next 0 1 ad (some 1))::F)=true) (h1:cq env n ((d0,.ak I.next 0 1 ad (some 1))::F) z s=some v) (h2:Nat.beq d0 d0=true) (hb:(3*(xs.length+1)+2000)*bytes≤281474976710656)
  (h:∀a2 U,Sl U ad a2 (xs++[y])→a2.bn =some (I.next+1)→(∀J l c,a2= .ak J 0 l ad c→c=none)→U.next=I.next+2→(∀i J,v.bn ≠some i→I.get i=some J→U.get i=some J)→bL b0 env aI D n ops (bC ((d,a2)::(d0,.ak I.next 0 1 ad (some 1))::F) z) U Q):
  bL b0 env aI D n (⟨some d0,.buildSlice ad 1 ir ps,g,[]⟩::⟨some d,.append ad bytes s (.t d0),b4,[]⟩::ops) (bC F z) I Q:=by
 refine fJ Has.nil rfl sO hw ar fun b1 cG H1 bE=>?_;have hc1:=H1.get _ (.head _);refine ap (w:=.ak I.next 0 1 ad (some 1)) y [] (hA.aF fun i J _=>bE i J) ?_ (fun z bg=>by rw[d_.1 bg];exact dV) hb au jC h1 ?_ fun a2 U aP a0 bF bU c6=>h a2 U aP (by rw[a0,cG]) bF (by rw[bU,cG]) fun i J hi ab=>c6 i J hi (bE i J ab)
 ·show readList b1 (.ak I.next 0 1 ad (some 1))=_;show(match b1.get I.next with|some (.cells c)=>elems ad 1 (c.drop 0)|_=>none)=_;rw[hc1];exact aw
 ·show cond (Nat.blt d0 n) (match cond (Nat.beq d0 d0) (some _) _ with|some v=>some v|none=>some (z d0)) none=_;rw[sO,h2];rfl
end
end W
structure wq where
 a9c:Nat
 op:Nat
 hyp:Bool
 f:Fm
 rule:List Nat
 cs:List (Nat×Nat)
abbrev dG(F:Fm):List AV:=[.i .u8 (Int.ofNat F.op),.s F.name,cN true F.c3,dz true F.bm]
theorem uL(F:Fm):F.A true= .ag (dG F):=by unfold Fm.A;rw[Fm.kM]
abbrev MZ(J:Bool)(l:List (Nat×Nat)):AV:=.a7 J (some 2) (l.map fun c=>.ag [ay c.1,ay c.2])
theorem UZ{U:af}{J:Bool}{l:List (Nat×Nat)}:lenA U 1 (MZ J l)=some l.length:=congrArg some (aJ _)
theorem U0{J:Bool}{l:List (Nat×Nat)}{j:Nat}(h:j<l.length):idxSlA (some 2) (MZ J l) j=some (.cZ J (.ag [ay (l[j]).1,ay (l[j]).2])):=by
 have:=z_ (J:=J) (ad:=some 2) (l:=some l) (g:=fun c:Nat×Nat=>AV.ag [ay c.1,ay c.2]) h;exact this
abbrev wq.A(x:wq):AV:=.ag [ay x.a9c,ay x.op,.b x.hyp,.i .u8 (Int.ofNat x.f.op),.s x.f.name,cN true x.f.c3,dz true x.f.bm,.s x.rule,MZ true x.cs]
abbrev U1(L:List wq):AV:=.a7 true (some 9) (L.map wq.A)
theorem U2{L:List wq}{j:Nat}(h:j<L.length):idxSlA (some 9) (U1 L) j=some (.cZ true (L[j]).A):=by
 have:=Mn (J:=true) (ad:=some 9) (f:=wq.A) h;cases L with
 |nil=>simp at h
 |cons x l=>exact this
theorem U3{I:af}{L:List wq}:lenA I 1 (U1 L)=some L.length:=by show some (L.map wq.A).length=_;rw[aJ]
@[irreducible] def Il (ad:Option Nat) (v:AV) (j:Nat):AV:=(idxSlA ad v j).getD .fz
theorem U4{ad:Option Nat}{v w:AV}{j:Nat}(h:idxSlA ad v j=some w):Il ad v j=w:=by unfold Il;rw[h];rfl
structure qO(I:af)(ad:Option Nat)(v:AV)(xs:List AV):Prop where
 len:∀U,lenA U 1 v=some xs.length
 cw:∀ {j},j<xs.length→idxSlA ad v j=some (Il ad v j)
 bj:∀ {j} (h:j<xs.length),nS I ad (Il ad v j)=some xs[j]
theorem Sl.Ar{I:af}{ad:Option Nat}{v:AV}{xs:List AV}(h:Sl I ad v xs):qO I ad v xs:=
 ⟨fun U=>h.len,fun {j} az=>by obtain⟨J,c,r,h0,h1,_⟩:=h.hc az;rw[U4 h1];exact h1,fun {j} az=>by
  obtain⟨J,c,r,h0,h1,h2,h3,aE⟩:=h.hc az;rw[U4 h1];exact jS h2 aE⟩
theorem DH{J:Bool}{ad:Option Nat}{l:List AV}:conf none (slA J ad l)=true:=by cases l<;>rfl
theorem U5{a:Nat}(h:a+1<2^63):binop .add (ay a) (.i .i64 1)=some (ay (a+1)):=Dc (b:=1) h
theorem U6{a:Nat}(h1:1≤a)(h:a<2^63):binop .sub (ay a) (.i .i64 1)=some (ay (a-1)):=G2 (b:=1) h1 h
theorem ae{P R:Prop}(k:R)(h:Hid R→P:=by
 intro k
 repeat (first
  |refine W.go rfl rfl rfl rfl ?_
  |refine W.off rfl rfl ?_
  |(refine W.Hc ?_;first|refine W.lt rfl rfl rfl rfl ?_|refine W.lt rfl rfl rfl DH ?_|(refine W.bj (c:=?_) (v:=?_) H rfl rfl rfl ?_ ?_ ?_;rotate_left 2;(repeat (first|exact .head _|refine .tail _ ?_));exact rfl)|refine W.le rfl rfl rfl (DI.bj (by assumption) (by omega)) ?_|refine W.le rfl rfl rfl (qO.bj (by assumption) (by omega)) ?_)
  |(refine W.Us ?_;first|refine W.ct rfl rfl rfl rfl (by simp only[W.cmpP,fH,lx];first|done|omega|exact id|exact fun h=>h trivial) ?_|refine W.cf rfl rfl rfl rfl rfl (by simp only[W.cmpP,fH,lx];first|done|omega|exact id|exact fun h=>h trivial) ?_|refine W.bin rfl rfl rfl rfl (U5 (by omega)) ?_|refine W.bin rfl rfl rfl rfl (U6 (by omega) (by omega)) ?_|refine W.bin rfl rfl rfl rfl (Dc (by omega)) ?_|refine W.bin rfl rfl rfl rfl (G2 (by omega) (by omega)) ?_)
  |(refine W.Ut ?_;first|refine W.cw rfl rfl rfl rfl (U2 (by omega)) ?_|refine W.cw rfl rfl rfl rfl (U0 (by omega)) ?_|refine W.cw rfl rfl rfl rfl (Mn (by omega)) ?_|refine W.cw rfl rfl rfl rfl (DI.cw (by assumption) (by omega)) ?_|refine W.cw rfl rfl rfl rfl (qO.cw (by assumption) (by omega)) ?_)
  |(refine W.Uu ?_;first|refine W.len rfl rfl rfl U3 ?_|refine W.len rfl rfl rfl UZ ?_|refine W.len rfl rfl rfl Ui ?_|refine W.len rfl rfl rfl (DI.len (by assumption) _) ?_|refine W.len rfl rfl rfl (qO.len (by assumption) _) ?_|refine W.len rfl rfl rfl rfl ?_)
  |(refine W.Ur ?_;first|(refine W.lZ (c:=?_) (v:=?_) H rfl rfl rfl ?_ ?_ ?_ ?_;rotate_left 2;(repeat (first|exact .head _|refine .tail _ ?_));exact rfl;first|exact od rfl|exact Uv rfl))
  |refine W.sq ?_|refine W.rg ?_|refine W.Hb rfl ?_|refine W.v8 ?_|refine GoF.block (a:=.seq _ _) ?_|refine GoF.block (a:=.region _) ?_|refine GoF.block (a:=.draw _) ?_|refine GoF.block (a:=.cond _ _ _) ?_
  |refine W.nil ?_|refine W.a8r ?_
  |refine W.now (_::_) _ rfl rfl (by(repeat (refine rQ.c H (by repeat (first|exact List.Mem.head _|refine List.Mem.tail _ ?_)) ?_));exact trivial) ?_
  |refine W.Dm rfl ?_|refine W.uI rfl ?_)
 exact k.out):P:=h ⟨k⟩
theorem o2{P R:Prop}(k:R)(h:Hid R→P:=by
 intro k
 repeat (first
  |refine W.go rfl rfl rfl rfl ?_
  |refine W.off rfl rfl ?_
  |(refine W.Hc ?_;first|refine W.lt rfl rfl rfl rfl ?_|refine W.lt rfl rfl rfl DH ?_|(refine W.bj (c:=?_) (v:=?_) H rfl rfl rfl ?_ ?_ ?_;rotate_left 2;(repeat (first|exact .head _|refine .tail _ ?_));exact rfl)|refine W.le rfl rfl rfl (DI.bj (by assumption) (by omega)) ?_|refine W.le rfl rfl rfl (qO.bj (by assumption) (by omega)) ?_)
  |(refine W.Us ?_;first|refine W.ct rfl rfl rfl rfl (by simp only[W.cmpP,fH,lx];first|done|omega|exact id|exact fun h=>h trivial) ?_|refine W.cf rfl rfl rfl rfl rfl (by simp only[W.cmpP,fH,lx];first|done|omega|exact id|exact fun h=>h trivial) ?_|refine W.bin rfl rfl rfl rfl (U5 (by omega)) ?_|refine W.bin rfl rfl rfl rfl (U6 (by omega) (by omega)) ?_|refine W.bin rfl rfl rfl rfl (Dc (by omega)) ?_|refine W.bin rfl rfl rfl rfl (G2 (by omega) (by omega)) ?_)
  |(refine W.Ut ?_;first|refine W.cw rfl rfl rfl rfl (U2 (by omega)) ?_|refine W.cw rfl rfl rfl rfl (U0 (by omega)) ?_|refine W.cw rfl rfl rfl rfl (Mn (by omega)) ?_|refine W.cw rfl rfl rfl rfl (DI.cw (by assumption) (by omega)) ?_|refine W.cw rfl rfl rfl rfl (qO.cw (by assumption) (by omega)) ?_)
  |(refine W.Uu ?_;first|refine W.len rfl rfl rfl U3 ?_|refine W.len rfl rfl rfl UZ ?_|refine W.len rfl rfl rfl Ui ?_|refine W.len rfl rfl rfl (DI.len (by assumption) _) ?_|refine W.len rfl rfl rfl (qO.len (by assumption) _) ?_|refine W.len rfl rfl rfl rfl ?_)
  |(refine W.Ur ?_;first|(refine W.lZ (c:=?_) (v:=?_) H rfl rfl rfl ?_ ?_ ?_ ?_;rotate_left 2;(repeat (first|exact .head _|refine .tail _ ?_));exact rfl;first|exact od rfl|exact Uv rfl))
  |refine W.now (_::_) _ rfl rfl (by(repeat (refine rQ.c H (by repeat (first|exact List.Mem.head _|refine List.Mem.tail _ ?_)) ?_));exact trivial) ?_)
 exact k.out):P:=h ⟨k⟩
def resV(I:af)(f:Nat→AV)(r:Nat×Option (Option Nat)):Option AV:=
 match r.2 with
 |none=>some (f r.1)
 |some ad=>match f r.1 with
  | .p (some (id,off))=>match I.get id with
   |some (.cells c)=>fI ad (c.drop off)
   |_=>none
  |_=>none
def qP(I:af)(f:Nat→AV)(rs:List (Nat×Option (Option Nat))):Option AV:=
 match mapO (resV I f) rs with
 |some [v]=>some v
 |some a3=>some (.bJ a3)
 |none=>none
theorem a9d{D:List (Nat ⊕ (AV×List AV))}{n:Nat}{f:Nat→AV}{ai:Fr}(I:af)(h:jD D n f ai){r:Nat×Option (Option Nat)}(al:Nat.blt r.1 n=true):resultOf I ai.bk r=resV I f r:=by
 have hg:=h.get r.1;have hn:r.1<n:=eV al;rw[if_pos hn] at hg;obtain⟨d,J⟩:=r;unfold resultOf resV;simp only[] at hg ⊢;rw[hg];cases J with
 |none=>rfl
 |some ad=>
  cases f d with
  |p a=>cases a with
   |none=>rfl
   |some a=>rfl
  |_=>rfl
theorem U7{D:List (Nat ⊕ (AV×List AV))}{n:Nat}{f:Nat→AV}{ai:Fr}(I:af)(h:jD D n f ai){rs:List (Nat×Option (Option Nat))}(al:dw (fun r=>Nat.blt r.1 n) rs=true):resultsOf I ai.bk rs=qP I f rs:=by
 have:mapO (resultOf I ai.bk) rs=mapO (resV I f) rs:=zV fun x hx=>a9d I h (G0 al x hx);show(match mapO (resultOf I ai.bk) rs with|some [v]=>some v|some a3=>some (.bJ a3)|none=>none)=match mapO (resV I f) rs with|some [v]=>some v|some a3=>some (.bJ a3)|none=>none
 rw[this]
theorem M0{env:Env}{fn:ch}{n:Nat}{f:Nat→AV}{ai:Fr}{I:af}{v:AV}(h1:jD [] n f ai)(au:dw (fun r=>Nat.blt r.1 n) fn.results=true)(av:qP I f fn.results=some v):endF env 0 fn (.ret,ai,I)=some [(.ok v,I)]:=by
 show(match leave 0 (callD env 0) ai.defers none I with
  |none=>none
  |some (some v,I)=>some [(dM.err v,I)]
  |some (none,I)=>match resultsOf I ai.bk fn.results with
   |some v=>some [(.ok v,I)]
   |none=>none)=_
 rw[h1.ds];show(match resultsOf I ai.bk fn.results with|some v=>some [(dM.ok v,I)]|none=>none)=_;rw[U7 I h1 au,av]
theorem U8{env:Env}{fn:ch}{n d:Nat}{f:Nat→AV}{ai:Fr}{I:af}{v:AV}(h1:jD [.inl d] n f ai)(hm:I.get d=some .g2)(au:dw (fun r=>Nat.blt r.1 n) fn.results=true)(av:qP (I.set d .dead) f fn.results=some v):endF env 0 fn (.ret,ai,I)=some [(.ok v,I.set d .dead)]:=by
 show(match leave 0 (callD env 0) ai.defers none I with
  |none=>none
  |some (some v,I)=>some [(dM.err v,I)]
  |some (none,I)=>match resultsOf I ai.bk fn.results with
   |some v=>some [(.ok v,I)]
   |none=>none)=_
 have ar:leave 0 (callD env 0) ai.defers none I=some (none,I.set d .dead):=by
  rw[h1.ds];show(if Nat.blt d 0 then none else match I.get d with
   |some .g2=>some (none,I.set d .dead)
   |_=>none)=_
  rw[if_neg (by simp[Nat.blt,Nat.ble]),hm]
 rw[ar];show(match resultsOf (I.set d .dead) ai.bk fn.results with|some v=>some [(dM.ok v,I.set d .dead)]|none=>none)=_;rw[U7 _ h1 au,av]
theorem fR{I:af}{f:Nat→AV}{d id off:Nat}{ad:Option Nat}{c:List AV}{v:AV}(h:f d= .p (some (id,off)))(hg:I.get id=some (.cells c))(ht:fI ad (c.drop off)=some v):resV I f (d,some ad)=some v:=by
 show(match f d with| .p (some (id,off))=>(match I.get id with|some (.cells c)=>fI ad (c.drop off)|_=>none)|_=>none)=_;rw[h];show(match I.get id with|some (.cells c)=>fI ad (c.drop off)|_=>none)=_;rw[hg];exact ht
theorem cI{I:af}{f:Nat→AV}{d:Nat}{v:AV}(h:f d=v):resV I f (d,none)=some v:=by rw[←h];rfl
theorem cT{I:af}{f:Nat→AV}{x:Nat×Option (Option Nat)}{v:AV}(h:resV I f x=some v):qP I f [x]=some v:=by
 show(match mapO (resV I f) [x] with|some [v]=>some v|some a3=>some (.bJ a3)|none=>none)=_;rw[mapO_cons,h];rfl
theorem jV{I:af}{f:Nat→AV}{x y:Nat×Option (Option Nat)}{v w:AV}(h:resV I f x=some v)(h2:resV I f y=some w):qP I f [x,y]=some (.bJ [v,w]):=by
 show(match mapO (resV I f) [x,y] with|some [v]=>some v|some a3=>some (.bJ a3)|none=>none)=_;rw[mapO_cons,mapO_cons,h,h2];rfl
section
variable {env:Env}{I:af}{fn:Nat}{cz:ch}{body:bB}{first cap args:List AV}{R:dM→af→Prop}
theorem W.qQ(e:env.ext fn=0)(hp:env.pure fn=false)(hf:env.funcs fn=some cz)(hb:cz.body=some body)
  (hn:(Nat.beq (first++args++cap).length cz.lP&&Nat.ble (first++args++cap).length cz.ntmps)=true) (au:dw (fun r=>Nat.blt r.1 cz.ntmps) cz.results=true)
  (h:∀z,bl env none [] cz.ntmps body (bC (W.ku 0 (first++args++cap)) z) I (fun x dq aq=>x= .ret∧∃v,qP aq dq cz.results=some v∧R (.ok v) aq)):b9 env 0 (.f (.func fn) first cap) args I R:=by
 have hle:(first++args++cap).length≤cz.ntmps:=by
  simp only[cx] at hn;exact eV hn.2
 refine b9.run e hp hf hb hn ((W.args h _ (z7 hle)).mono fun x c_ aq ⟨dq,h1,h2,v,h3,aE⟩=>?_);subst h2;exact⟨.ok v,aq,M0 h1 au h3,aE⟩
end
def gi(rs:List (Nat×Option (Option Nat)))(r:AV):e5:=fun x f aq=>x= .ret∧∃v,qP aq f rs=some v∧freeze aq 0 1000 v=some r
theorem gQ{P:Program}{b:dW}{K:Nat→List AV→AV→Prop}(hb:oX P b)(cl:Mm P b K){g:Nat}{fn:ch}{body:bB}{aR:List AV}(r:AV)(hf:b.funcs.get g=some fn)(iU:fn.body=some body)
  (hn:(Nat.beq aR.length fn.lP&&Nat.ble aR.length fn.ntmps)=true) (au:dw (fun r=>Nat.blt r.1 fn.ntmps) fn.results=true) {ai:Nat} (al:ks ai r=true) (jx:AV.eqb 1000 r r=true)
  (h:GoF (b.a4 K) fn.ntmps body (eS aR) ⟨.nil,0⟩ (gi fn.results r)) (eO:Nat):SpecEntry P (b.env []) eO g aR r:=by
 have hle:aR.length≤fn.ntmps:=by
  simp only[cx] at hn;exact eV hn.2
 refine T_ (env:=b.a4 K) (m:=1000) (By _ _) ⟨fun g cz hg=>uB.Mg hb.funcs g cz hg⟩ (fun eO g aR r aj=>cl g aR r (Ud aj) eO) hb.ext hb.GY hf iU hn al ((h _ (z7 hle)).mono fun x ai aq ⟨f,h1,h2,v,h3,aE⟩=>?_) jx eO;subst h2;exact⟨.ok v,_,M0 h1 au h3,_,rfl,aE⟩
section
variable {b:dW}{K:Nat→List AV→AV→Prop}
theorem W.M1{α:Type}{env:Env}{aI:Option Nat}{D:List (Nat ⊕ (AV×List AV))}{n:Nat}{a:bB}{f:Nat→AV}{I:af}{Q:e5}(L:α→List (Nat×AV))(R:α→af→Prop)(h1:bl env aI D n a f I (fun x dq aq=>x= .normal∧∃p,R p aq∧sat (L p) dq))(h2:∀p g aq,R p aq→Q .normal (bC (L p) g) aq):bl env aI D n a f I Q:=
 h1.mono fun x dq aq ⟨aM,p,e2,dn⟩=>by
  subst aM;rw[←Da dn];exact h2 p dq aq e2
end
structure yl(W W':Nat→Prop)(U a5:af):Prop where
 next:U.next≤a5.next
 aF:∀c J,¬W c→U.get c=some J→a5.get c=some J
 own:∀c,W' c→W c∨U.next≤c∧c<a5.next
abbrev DJ:=Nat→(Nat→Prop)→af→Prop
def U9(dt:Nat)(kx:DJ):Prop:=∀i W U a5,kx i W U→(∀c J,c<dt∨W c→U.get c=some J→a5.get c=some J)→U.next≤a5.next→kx i W a5
end
section
variable [Tok][TokOk]
open Go.RowKit Go.Lyc.T
attribute [local irreducible] bL bl e6 eB b9
namespace W
section
variable {b0:lv}{env:Env}{aI:Option Nat}{D:List (Nat ⊕ (AV×List AV))}{n:Nat}{F:List (Nat×AV)}{z:Nat→AV}{I:af}{Q:e5}{g:Option (Nat×Bool)}{ops:List a1}
theorem a9e{ao:aC→Option AV}{ad:jL}{x y:aC}{bT aL:Nat}{key ir:AV}{two:Bool}{es:List (AV×AV×Nat)}{r:Option AV}(hm:I.get bT=some (.map es aL))(h1:ao x=some (.m (some bT)))(h2:ao y=some key)(aD:keySelf ad key=true)(hf:oC ad key es=some r):opx 0 ao I (.lookup ad x y ir two)=some (.val (v2 two (r.getD ir) r.isSome) I):=by
 show(match ao x,ao y with|some x,some k=>(match cond (keySelf ad k) (match x with
  | .m none=>some (v2 two ir false)
  | .m (some id)=>match I.get id with
   |some (.map es _)=>match oC ad k es with|some (some v)=>some (v2 two v true)|some none=>some (v2 two ir false)|none=>none
   |_=>none
  |_=>none) none with|some v=>some (bq.val v I)|none=>none)|_,_=>none)=_
 rw[h1,h2];show(match cond (keySelf ad key) (match I.get bT with|some (.map es _)=>(match oC ad key es with|some (some v)=>some (v2 two v true)|some none=>some (v2 two ir false)|none=>none)|_=>none) none with|some v=>some (bq.val v I)|none=>none)=_;rw[aD,cond_true,hm];show(match(match oC ad key es with|some (some v)=>some (v2 two v true)|some none=>some (v2 two ir false)|none=>none) with|some v=>some (bq.val v I)|none=>none)=_;rw[hf];cases r<;>rfl
theorem pK{d:Nat}{ad:jL}{x y:aC}{bT aL:Nat}{key ir:AV}{two:Bool}{es:List (AV×AV×Nat)}{r:Option AV}(hm:I.get bT=some (.map es aL))(au:Nat.blt d n=true)(hw:wtL g n F=true)(h1:cq env n F z x=some (.m (some bT)))(h2:cq env n F z y=some key)(aD:keySelf ad key=true)(hf:oC ad key es=some r)
  (h:bL b0 env aI D n ops (bC ((d,v2 two (r.getD ir) r.isSome)::F) z) I Q):bL b0 env aI D n (⟨some d,.lookup ad x y ir two,g,[]⟩::ops) (bC F z) I Q:=val au hw (a9e hm h1 h2 aD hf) h
end
end W
def M3(es:List (AV×AV×Nat))(aL:Nat)(key v:AV):Option (List (AV×AV×Nat))→AO
 |some dI=>.map dI aL
 |none=>.map (es++[(key,v,aL)]) (aL+1)
namespace W
section
variable {b0:lv}{env:Env}{aI:Option Nat}{D:List (Nat ⊕ (AV×List AV))}{n:Nat}{F:List (Nat×AV)}{z:Nat→AV}{I:af}{Q:e5}{g:Option (Nat×Bool)}{ops:List a1}
theorem mu{ad:jL}{x y u:aC}{bT aL:Nat}{key v:AV}{t:Bool}{es:List (AV×AV×Nat)}{r:Option (List (AV×AV×Nat))}(hm:I.get bT=some (.map es aL))(hw:wtL g n F=true)(h1:cq env n F z x=some (.m (some bT)))(h2:cq env n F z y=some key)(h3:cq env n F z u=some v)(aD:keyEq ad key key=some t)(hu:nR ad key v es=some r)
  (h:∀U:af,U.next=I.next→U.get bT=some (M3 es aL key v r)→(∀i J,i≠bT→I.get i=some J→U.get i=some J)→bL b0 env aI D n ops (bC F z) U Q):bL b0 env aI D n (⟨none,.pc ad x y u,g,[]⟩::ops) (bC F z) I Q:=by
 have aj:=fun b7=>j_ (b7:=b7) hm;refine uw (v:=dR) (aq:=I.set bT (M3 es aL key v r)) hw ?_ (h _ rfl (aj _).1 (aj _).2);show(match cq env n F z x,cq env n F z y,cq env n F z u with
  |some (.m (some id)),some k,some v=>
   if Nat.blt id 0 then none else
   match I.get id with
   |some (.map es aL)=>match keyEq ad k k with
    |none=>none
    |some _=>match nR ad k v es with
    |some (some es)=>some (bq.val dR (I.set id (.map es aL)))
    |some none=>some (bq.val dR (I.set id (.map (es++[(k,v,aL)]) (aL+1))))
    |none=>none
   |_=>none
  |_,_,_=>none)=_
 rw[h1,h2,h3];show(if Nat.blt bT 0 then none else
   match I.get bT with
   |some (.map es aL)=>(match keyEq ad key key with
    |none=>none
    |some _=>match nR ad key v es with
    |some (some es)=>some (bq.val dR (I.set bT (.map es aL)))
    |some none=>some (bq.val dR (I.set bT (.map (es++[(key,v,aL)]) (aL+1))))
    |none=>none)
   |_=>none)=_
 rw[if_neg (by simp[Nat.blt,Nat.ble]),hm];simp only[aD,hu];cases r<;>rfl
theorem Im{L:List (Nat×List AV)}(H:Has I L){d k:Nat}(hn:I.next=k)(au:Nat.blt d n=true)(hw:wtL g n F=true)
  (h:∀U:af,U.next=k+1→Has U L→U.get k=some (.map [] 0)→(∀i J,I.get i=some J→U.get i=some J)→bL b0 env aI D n ops (bC ((d,.m (some k))::F) z) U Q):bL b0 env aI D n (⟨some d,.mkMap,g,[]⟩::ops) (bC F z) I Q:=by
 subst hn;have ca:∀i J,I.get i=some J→(I.push (.map [] 0)).get i=some J:=fun i J ab=>by rw[af.iB trivial _ (af.bW ab)];exact ab
 exact val (v:=.m (some I.next)) (aq:=I.push (.map [] 0)) au hw rfl (h _ rfl (H.aF ca) (af.md _) ca)
end
end W
abbrev a9f:=List (List Nat×Nat)
def cnt:a9f→List Nat→Nat
 |[],_=>0
 |p::l,s=>if s=p.1 then p.2 else cnt l s
abbrev bo(k:Nat):AV:=.p (some (k,0))
abbrev dK(J:Bool)(t:Tm):List AV:=[.b t.var,.s t.name,cN J t.c3]
theorem nA(J:Bool)(t:Tm):t.A J= .ag (dK J t):=by unfold Tm.A;rw[Tm.kM]
end
section
variable [Tok][TokOk]
open Go.RowKit Go.Lyc.T
def nm4:Nat→List Nat
 |0=>[63,120]
 |i+1=>[120+i]
def zx(i:Nat):AV:=.s (nm4 i)
end
section
variable [Tok][TokOk]
open Go.RowKit Go.Lyc.T
attribute [local irreducible] bL bl e6 eB b9
def nz{α:Type}:List α→Option (List α)
 |[]=>none
 |x::l=>some (x::l)
theorem U_{f:AV→Option AV}:∀ {l:List AV},(∀y∈l,f y=some y)→mapO f l=some l
 |[],_=>rfl
 |x::l,h=>by rw[jR,h x (by simp),U_ fun y aw=>h y (e9 _ aw)]
theorem Sl.frzx{I:af}{ad:Option Nat}{v:AV}{xs aO:List AV}{n:Nat}(h:Sl I ad v xs)(hm:mapO (Go.Lyc.freeze I 0 n) xs=some aO):Go.Lyc.freeze I 0 (n+1) v=some (match v.bn with|none=>.aB|some _=>.a7 false ad aO):=by
 have al:=h.read;cases h with
 |nil=>rfl
 |ak J cap xs rest h ah aD=>
  rw[freeze_succ];simp only[al,hm];rfl
def Va(v:AV)(xs:List AV):Prop:=(v= .aB∧xs=[])∨(v= .ix true none xs∧xs≠[])
theorem a9g{ao:aC→Option AV}{I:af}{s hi c9:aC}{xs:List AV}(h1:ao s=some (slA true none xs))(h2:ao hi=some (ay xs.length))(h3:ao c9=some (ay xs.length)):∃v,opx 0 ao I (.kX none s none (some hi) (some c9))=some (.val v I)∧Va v xs:=by
 have cC:∀d,bndO ao (some hi) d=some xs.length:=fun d=>by unfold bndO;simp only[h2];rfl
 have c0:∀d,bndO ao (some c9) d=some xs.length:=fun d=>by unfold bndO;simp only[h3];rfl
 have jO:bndO ao none 0=some 0:=rfl;have gH:∀v w,ao s=some v→sliceA ao none v none (some hi) (some c9)=some w→(v= .aB∨∃J ad l,v= .a7 J ad l)→opx 0 ao I (.kX none s none (some hi) (some c9))=some (.val w I):=fun v w av hw aD=>by
  simp only[opx,av];rcases aD with rfl|⟨J,ad,l,rfl⟩<;>simp only[hw]
 cases xs with
 |nil=>
  refine⟨.aB,gH _ _ h1 ?_ (.inl rfl),.inl ⟨rfl,rfl⟩⟩;unfold sliceA slA;simp only[cC,c0,jO];rfl
 |cons x l=>
  refine⟨.ix true none (x::l),gH _ _ h1 ?_ (.inr ⟨_,_,_,rfl⟩),.inr ⟨rfl,by simp⟩⟩;show sliceA ao none (.a7 true none (x::l)) none (some hi) (some c9)=_;unfold sliceA;simp only[if_pos,cC,c0,jO];have:(Nat.beq 0 0&&(Nat.beq (x::l).length (x::l).length&&(Nat.beq (x::l).length (x::l).length&&Nat.blt 0 (x::l).length)))=true:=by
   rw[fy,fy];rfl
  rw[if_pos this]
namespace W
section
variable {b0:lv}{env:Env}{aI:Option Nat}{D:List (Nat ⊕ (AV×List AV))}{n:Nat}{F:List (Nat×AV)}{z:Nat→AV}{I:af}{Q:e5}
theorem iq{d:Nat}{s hi c9:aC}{g:Option (Nat×Bool)}{ops:List a1}{xs:List AV}(au:Nat.blt d n=true)(hw:wtL g n F=true)(h1:cq env n F z s=some (slA true none xs))(h2:cq env n F z hi=some (ay xs.length))(h3:cq env n F z c9=some (ay xs.length))
  (h:∀v,Va v xs→bL b0 env aI D n ops (bC ((d,v)::F) z) I Q):bL b0 env aI D n (⟨some d,.kX none s none (some hi) (some c9),g,[]⟩::ops) (bC F z) I Q:=by
 obtain⟨v,e,av⟩:=a9g (I:=I) h1 h2 h3;exact val au hw e (h v av)
end
end W
theorem Sl.a9h{I:af}{ad:Option Nat}{v:AV}{xs aO:List AV}{m:Nat}(aj:Sl I ad v xs)(hn:xs≠[])(hm:mapO (bh I m) xs=some aO):bh I (m+1) v=some (.a7 true ad aO):=by
 have al:=aj.read;cases aj with
 |nil=>exact absurd rfl hn
 |ak J cap xs rest hg ah aD=>
  rw[snapshot_succ];simp only[al,hm]
abbrev tj(F:Fm):List AV:=[.i .u8 (Int.ofNat F.op),.s F.name,cN false F.c3,dz false F.bm]
theorem a9i(F:Fm):F.A false= .ag (tj F):=by unfold Fm.A;rw[Fm.kM]
theorem Io{I:af}{id:Nat}{ad cap:Option Nat}{y:AV}(hg:I.get id=some (.cells y.cells))(ah:conf ad y=true):newOf I (.ak id 0 1 ad cap)=some [y]:=by
 show readList I (.ak id 0 1 ad cap)=_;show(match I.get id with|some (.cells c)=>elems ad 1 (c.drop 0)|_=>none)=_;rw[hg];have:=Dd (ad:=ad) (xs:=[y]) (r:=[]) (by intro w hw;rw[d_.1 hw];exact ah);simpa using this
theorem wu{ao:aC→Option AV}{sz:Nat→Nat→Nat}{ps:List (Nat×Nat×aC)}{i n:Nat}{J:aC}{v:AV}{z c r:List AV}(h:ao J=some v)(ar:(Nat.beq v.cells.length n&&v.val)=true)(aj:storeCells z (sz i n) v.cells=some c)(al:iR ao sz ps c=some r):iR ao sz ((i,n,J)::ps) z=some r:=by
 show(match ao J with|none=>none|some v=>cond (Nat.beq v.cells.length n&&v.val) (match storeCells z (sz i n) v.cells with|none=>none|some c=>iR ao sz ps c) none)=_;rw[h];show cond (Nat.beq v.cells.length n&&v.val) (match storeCells z (sz i n) v.cells with|none=>none|some c=>iR ao sz ps c) none=_;rw[ar,cond_true,aj];exact al
theorem W.Vb{b0:lv}{env:Env}{aI:Option Nat}{D:List (Nat ⊕ (AV×List AV))}{n:Nat}{F:List (Nat×AV)}{z:Nat→AV}{I:af}{Q:e5}{d:Nat}{lp c:List AV}{ps:List (Nat×Nat×aC)}{g:Option (Nat×Bool)}{ops:List a1}(au:Nat.blt d n=true)(hw:wtL g n F=true)(ar:iR (cq env n F z) (fun off _=>off) ps lp=some c)(h:bL b0 env aI D n ops (bC ((d,.ag c)::F) z) I Q):bL b0 env aI D n (⟨some d,.build lp ps,g,[]⟩::ops) (bC F z) I Q:=
 W.val au hw (by show(match iR (cq env n F z) (fun off _=>off) ps lp with|some c=>some (bq.val (.ag c) I)|none=>none)=_;rw[ar]) h
end
section
variable [Tok][TokOk]
open Go.RowKit Go.Lyc.T
theorem a9j{n:Nat}{l:List AV}(h:∀x∈l,AV.eqb n x x=true):AV.eqb (n+1) (.ag l) (.ag l)=true:=rM h
theorem Vc{n:Nat}{J:Bool}{ad:Option Nat}{l:List AV}(h:∀x∈l,AV.eqb n x x=true):AV.eqb (n+1) (.a7 J ad l) (.a7 J ad l)=true:=by
 show((J==J)&&decide (ad=ad)&&gb (AV.eqb n) l l)=true;rw[rM h];simp
def fx(n:Nat)(v:AV):Prop:=ks n v=true∧AV.eqb n v v=true
theorem fx.leaf{n:Nat}{v:AV}(h1:ks (n+1) v=true)(h:v.lf=true):fx (n+1) v:=⟨h1,od h⟩
theorem fx.ay{n:Nat}(k:Nat):fx (n+1) (ay k):=⟨rfl,od rfl⟩
theorem fx.s{n:Nat}(k:List Nat):fx (n+1) (.s k):=⟨rfl,od rfl⟩
theorem fx.nil{n:Nat}:fx (n+1) .aB:=⟨rfl,rfl⟩
theorem fx.ag{n:Nat}{l:List AV}(h:∀x∈l,fx n x):fx (n+1) (.ag l):=⟨by rw[z5];exact mY fun x hx=>(h x hx).1,a9j fun x hx=>(h x hx).2⟩
theorem fx.bJ{n:Nat}{l:List AV}(h:∀x∈l,fx n x):fx (n+1) (.bJ l):=⟨by rw[z5];exact mY fun x hx=>(h x hx).1,rM fun x hx=>(h x hx).2⟩
theorem fx.wv{n:Nat}{l:List AV}(h:fx (n+1) (.ag l)):∀x∈l,ks n x=true:=fun x hx=>by
 have:=h.1;rw[z5] at this;exact G0 this x hx
theorem fx.ak{n:Nat}{ad:Option Nat}{l:List AV}(h:∀x∈l,(∀y∈x.cells,ks n y=true)∧AV.eqb n x x=true):fx (n+1) (slA false ad l):=by
 cases l with
 |nil=>exact .nil
 |cons x l=>
  refine⟨?_,Vc fun y aw=>(h y aw).2⟩;show ks (n+1) (.a7 false ad (x::l))=true;rw[z5];show(true&&dw (fun x=>dw (ks n) x.cells) (x::l))=true;rw[jU];exact mY fun y aw=>mY fun z bg=>(h y aw).1 z bg
theorem l1{a b:AV}(h:[a]=[b]):a=b:=by injection h
theorem ky{a b c d:AV}(h:[a,b]=[c,d]):a=c∧b=d:=by injection h with h1 h2;injection h2 with h2;exact⟨h1,h2⟩
abbrev gq(b:dW)(g:Nat)(c:ch):Prop:=b.funcs.get g=some c∧b.ext g=0∧b.pure g=false
abbrev gA(b:dW)(g:Nat)(c:ch):Prop:=b.funcs.get g=some c∧b.ext g=0∧b.pure g=true
theorem gq.h{b:dW}{K:Nat→List AV→AV→Prop}{g:Nat}{c:ch}(h:gq b g c):cY (b.a4 K) g c:=⟨h.1,h.2.1,h.2.2⟩
theorem Vd{a c d cd aQ dT:AV}(h:[a,c,d]=[cd,aQ,dT]):a=cd∧c=aQ∧d=dT:=by
 injection h with h1 h
 injection h with h2 h
 injection h with h3 _
 exact⟨h1,h2,h3⟩
theorem wx{a c:Nat}(h:ay a=ay c):a=c:=by injection h with _ h;exact vD h
theorem a9k{t u:Tm}(h:(.ag (dK true t):AV)= .ag (dK true u)):t=u:=by
 obtain⟨v,n,a⟩:=t;obtain⟨a2,pH,cd⟩:=u;injection h with h
 have h:=Vd h;have h1:v=a2:=by injection h.1
 have h2:n=pH:=by injection h.2.1
 have h3:a=cd:=G6 (J:=true) h.2.2;rw[h1,h2,h3]
theorem M4{t u:Fm}(h:(.ag (dG t):AV)= .ag (dG u)):t=u:=Fm.Uj (J:=true) (by rw[uL,uL];exact h)
structure eE where
 g:Nat
 X:Type
 a:X→List AV
 r:X→AV
 inj:∀x y,a x=a y→r x=r y
theorem Ve:∀ {l:List eE},(l.map eE.g).Nodup→∀ {f dq:eE},f∈l→dq∈l→f.g=dq.g→f=dq
 |x::l,h,f,dq,hf,Ip,e=>by
  rw[jK,Bz] at h;rcases cH.1 hf with h1|h1
  ·rcases cH.1 Ip with h2|h2
   ·rw[h1,h2]
   ·subst h1;exact absurd (bQ.2 ⟨dq,h2,e.symm⟩) h.1
  ·rcases cH.1 Ip with h2|h2
   ·subst h2;exact absurd (bQ.2 ⟨f,h1,e⟩) h.1
   ·exact Ve h.2 h1 h2 e
abbrev DK(P:Program)(b:dW)(g:Nat)(aR:List AV)(r:AV):Prop:=∀eO,SpecEntry P (b.env []) eO g aR r
theorem Tm.pP{d:Nat}:∀ {l:List Tm},(∀u∈l,u.dep≤d)→Tm.g_ l≤d
 |[],_=>by rw[Tm.g_];exact hv _
 |t::l,h=>by rw[Tm.g_];have:=h t (by simp);have:=Tm.pP fun u hu=>h u (e9 _ hu);omega
theorem Fm.pP{d:Nat}:∀ {l:List Fm},(∀u∈l,u.dep≤d)→Fm.g_ l≤d
 |[],_=>by rw[Fm.g_];exact hv _
 |t::l,h=>by rw[Fm.g_];have:=h t (by simp);have:=Fm.pP fun u hu=>h u (e9 _ hu);omega
theorem fx.a7{n:Nat}{ad:Option Nat}{l:List AV}(h:∀x∈l,(∀y∈x.cells,ks n y=true)∧AV.eqb n x x=true):fx (n+1) (.a7 false ad l):=by
 refine⟨?_,Vc fun y aw=>(h y aw).2⟩;rw[z5];show(true&&dw (fun x=>dw (ks n) x.cells) l)=true;rw[jU];exact mY fun y aw=>mY fun z bg=>(h y aw).1 z bg
theorem Vf{J:Bool}{l:List Tm}:cN J (some l)= .a7 J (some 3) (l.map fun t=>.ag (dK J t)):=by
 show AV.a7 J (some 3) (l.map (Tm.A J))=_;rw[show(Tm.A J)=fun t=>AV.ag (dK J t) from funext fun t=>nA J t]
theorem a9l{l:List Fm}:dz false (some l)= .a7 false (some 4) (l.map fun t=>.ag (tj t)):=by
 show AV.a7 false (some 4) (l.map (Fm.A false))=_;rw[show(Fm.A false)=fun t=>AV.ag (tj t) from funext fun t=>a9i t]
theorem wy:∀(d:Nat) (t:Tm),t.dep≤d→∀n,2*d+1≤n→fx n (.ag (dK false t))
 |0,t,h,_,_=>by rw[Tm.gJ] at h;omega
 |d+1,t,h,n,hn=>by
  obtain⟨k,rfl⟩:∃k,n=k+3:=⟨n-3,by omega⟩
  refine .ag (n:=k+2) fun y aw=>?_;simp only[cH,nP,or_false] at aw;rcases aw with rfl|rfl|rfl
  ·exact .leaf rfl rfl
  ·exact .leaf rfl rfl
  ·cases ab:t.c3 with
   |none=>exact .nil
   |some l=>
    rw[Vf];have hu:∀u∈l,u.dep≤d:=fun u hu=>by
     have:u∈t.args:=by show u∈t.c3.getD [];rw[ab];exact hu
     have:=Tm.pI this;omega
    refine .a7 (n:=k+1) fun x hx=>?_;obtain⟨u,mi,rfl⟩:=bQ.1 hx;exact⟨(wy d u (hu u mi) (k+2) (by omega)).wv,(wy d u (hu u mi) (k+1) (by omega)).2⟩
theorem wz:∀(d:Nat) (t:Fm),t.dep≤d→∀n,2*d+1≤n→fx n (.ag (tj t))
 |0,t,h,_,_=>by rw[Fm.gJ] at h;omega
 |d+1,t,h,n,hn=>by
  obtain⟨k,rfl⟩:∃k,n=k+3:=⟨n-3,by omega⟩
  refine .ag (n:=k+2) fun y aw=>?_;simp only[cH,nP,or_false] at aw;rcases aw with rfl|rfl|rfl|rfl
  ·exact .leaf rfl rfl
  ·exact .leaf rfl rfl
  ·cases ab:t.c3 with
   |none=>exact .nil
   |some l=>
    rw[Vf];have hu:∀u∈l,u.dep≤d:=fun u hu=>by
     have:u∈t.args:=by show u∈t.c3.getD [];rw[ab];exact hu
     have:=Fm.pI this;omega
    refine .a7 (n:=k+1) fun x hx=>?_;obtain⟨u,mi,rfl⟩:=bQ.1 hx;exact⟨(wy d u (hu u mi) (k+2) (by omega)).wv,(wy d u (hu u mi) (k+1) (by omega)).2⟩
  ·cases ab:t.bm with
   |none=>exact .nil
   |some l=>
    rw[a9l];have hu:∀u∈l,u.dep≤d:=fun u hu=>by
     have:u∈t.sub:=by show u∈t.bm.getD [];rw[ab];exact hu
     have:=Fm.jE this;omega
    refine .a7 (n:=k+1) fun x hx=>?_;obtain⟨u,mi,rfl⟩:=bQ.1 hx;exact⟨(wz d u (hu u mi) (k+2) (by omega)).wv,(wz d u (hu u mi) (k+1) (by omega)).2⟩
theorem M5{d n:Nat}{t:Tm}(h:t.dep≤d)(hn:2*d+1≤n)(U:af):bh U n (.ag (dK true t))=some (.ag (dK true t)):=by
 rw[←nA];exact Tm.snap U true d t n h hn
theorem tk{d n:Nat}{t:Fm}(h:t.dep≤d)(hn:2*d+1≤n)(U:af):bh U n (.ag (dG t))=some (.ag (dG t)):=by
 rw[←uL];exact Fm.snap U true d t n h hn
def eX(P:Program)(b:dW)(fs:List eE)(g:Nat)(aR:List AV)(r:AV):Prop:=DK P b g aR r∧∃f∈fs,f.g=g∧∃x:f.X,f.a x=aR∧f.r x=r
theorem eX.fn{P:Program}{b:dW}{fs:List eE}(hn:(fs.map eE.g).Nodup):∀g aR r bs,eX P b fs g aR r→eX P b fs g aR bs→r=bs:=fun g aR r bs h h'=>by
 obtain⟨_,f,hf,hg,x,ha,al⟩:=h;obtain⟨_,dq,Ip,M6,fX,Cu,mh⟩:=h';have e:=Ve hn hf Ip (hg.trans M6.symm);subst e;rw[←al,← mh];exact f.inj x fX (ha.trans Cu.symm)
theorem eX.ok{P:Program}{b:dW}{fs:List eE}:Mm P b (eX P b fs):=fun _ _ _ h eO=>h.1 eO
theorem eP{P:Program}{b:dW}{fs:List eE}(k:Nat){f:eE}(aD:fs[k]? =some f)(x:f.X){g:Nat}{aR:List AV}{r:AV}(hg:f.g=g)(ha:f.a x=aR)(al:f.r x=r)(h:DK P b g aR r):eX P b fs g aR r:=⟨h,f,qb aD,hg,x,ha,al⟩
def Tm.sz(V:List Nat→Prop):Nat→Tm→Prop
 |0,_=>False
 |d+1,t=>t.args.length<2^20∧(t.var=true→V t.name)∧∀u∈t.args,Tm.sz V d u
def Fm.sz(V:List Nat→Prop):Nat→Fm→Prop
 |0,_=>False
 |d+1,t=>t.args.length<2^20∧t.sub.length<2^20∧(∀u∈t.args,Tm.sz V d u)∧∀u∈t.sub,Fm.sz V d u
theorem Tm.eY{V:List Nat→Prop}:∀ {d:Nat} {t:Tm},Tm.sz V d t→t.dep≤d
 |0,_,h=>h.elim
 |d+1,t,h=>by rw[Tm.gJ];have:=Tm.pP fun u hu=>Tm.eY (h.2.2 u hu);omega
theorem Fm.eY{V:List Nat→Prop}:∀ {d:Nat} {t:Fm},Fm.sz V d t→t.dep≤d
 |0,_,h=>h.elim
 |d+1,t,h=>by
  rw[Fm.gJ];have:=Tm.pP fun u hu=>Tm.eY (h.2.2.1 u hu);have:=Fm.pP fun u hu=>Fm.eY (h.2.2.2 u hu);omega
end
section
variable [Tok][TokOk]
open Go.RowKit Go.Lyc.T
attribute [local irreducible] bL bl e6 eB b9
def cM{α:Type}(l:List α):Option (List α):=match l with|[]=>none|x::l=>some (x::l)
theorem As(J:Bool)(l:List Tm):cN J (cM l)=slA J (some 3) (l.map (Tm.A J)):=by cases l<;>rfl
theorem M7(J:Bool)(l:List Fm):dz J (cM l)=slA J (some 4) (l.map (Fm.A J)):=by cases l<;>rfl
mutual
def Tm.nz:Tm→Tm
 | .mk v n none=>.mk v n none
 | .mk v n (some l)=>.mk v n (cM (Tm.nzs l))
def Tm.nzs:List Tm→List Tm
 |[]=>[]
 |t::l=>t.nz::Tm.nzs l
end
theorem Tm.wA:∀l,Tm.nzs l=l.map Tm.nz
 |[]=>by simp[Tm.nzs]
 |t::l=>by rw[Tm.nzs,Tm.wA l];rfl
theorem Tm.hd(t:Tm):t.nz= .mk t.var t.name (cM (t.args.map Tm.nz)):=by
 obtain⟨v,n,a⟩:=t;cases a with
 |none=>rw[Tm.nz];rfl
 |some l=>rw[Tm.nz,Tm.wA];rfl
mutual
def Fm.nz:Fm→Fm
 | .mk op n a none=>.mk op n (cM ((a.getD []).map Tm.nz)) none
 | .mk op n a (some l)=>.mk op n (cM ((a.getD []).map Tm.nz)) (cM (Fm.nzs l))
def Fm.nzs:List Fm→List Fm
 |[]=>[]
 |t::l=>t.nz::Fm.nzs l
end
theorem Fm.wA:∀l,Fm.nzs l=l.map Fm.nz
 |[]=>by simp[Fm.nzs]
 |t::l=>by rw[Fm.nzs,Fm.wA l];rfl
theorem Fm.hd(f:Fm):f.nz= .mk f.op f.name (cM (f.args.map Tm.nz)) (cM (f.sub.map Fm.nz)):=by
 obtain⟨J,n,a,s⟩:=f;cases s with
 |none=>rw[Fm.nz];rfl
 |some l=>rw[Fm.nz,Fm.wA];rfl
abbrev jW(F:Fm):List AV:=[.i .u8 (Int.ofNat F.op),.s F.name,cN false F.c3,dz false F.bm]
theorem a9m(F:Fm):F.A false= .ag (jW F):=by unfold Fm.A;rw[Fm.kM]
theorem a9n{I:af}{n:Nat}(t:Tm):freeze I 0 (n+2) (.ag (dK false t))=some (.ag (dK false t)):=by
 rw[freeze_succ];show(match mapO (Go.Lyc.freeze I 0 (n+1)) _ with|none=>none|some l=>some (AV.ag l))=_;have h1:freeze I 0 (n+1) (cN false t.c3)=some (cN false t.c3):=by cases t.c3<;>rfl
 rw[mapO_cons,mapO_cons,mapO_cons,h1];rfl
theorem a9o{I:af}{n:Nat}(F:Fm):freeze I 0 (n+2) (.ag (jW F))=some (.ag (jW F)):=by
 rw[freeze_succ];show(match mapO (Go.Lyc.freeze I 0 (n+1)) _ with|none=>none|some l=>some (AV.ag l))=_;have h1:freeze I 0 (n+1) (cN false F.c3)=some (cN false F.c3):=by cases F.c3<;>rfl
 have h2:freeze I 0 (n+1) (dz false F.bm)=some (dz false F.bm):=by cases F.bm<;>rfl
 rw[mapO_cons,mapO_cons,mapO_cons,mapO_cons,h1,h2];rfl
theorem xX{α:Type}{f:α→Option α}:∀ {l:List α},(∀x∈l,f x=some x)→mapO f l=some l
 |[],_=>rfl
 |x::l,h=>by rw[mapO_cons,h x (by simp),xX fun y aw=>h y (e9 _ aw)]
theorem Sl.ym{I:af}{ad:Option Nat}{v:AV}{xs:List AV}{n:Nat}(h:Sl I ad v xs)(h0:xs=[]→v= .aB)(hf:∀x∈xs,Go.Lyc.freeze I 0 n x=some x):Go.Lyc.freeze I 0 (n+1) v=some (slA false ad xs):=by
 rw[h.frzx (aO:=xs) (U_ hf)];cases xs with
 |nil=>rw[h0 rfl];rfl
 |cons x l=>
  generalize hx:x::l=xs at h;cases h with
  |nil=>cases hx
  |ak J cap xs rest hg ah aD=>subst hx;rfl
section
variable {b:dW}{K:Nat→List AV→AV→Prop}(hfn:∀g aR r bs,K g aR r→K g aR bs→r=bs)
include hfn
theorem a9p(a:Option (List Tm))(hlen:(a.getD []).length<2^20)(aj:∀t∈a.getD [],∀U:af,bh U (b.aV+1000) (.ag (dK true t))=some (.ag (dK true t)))(e:b.ext we=0∧b.pure we=true)(cl:∀t∈a.getD [],K we [.ag (dK true t)] (.ag (dK false t.nz)))
  (body:bB) (hb:HB.body=some body):GoF (b.a4 K) HB.ntmps body (eS [cN true a]) ⟨.nil,0⟩ (gi HB.results (slA false (some 3) ((a.getD []).map fun t=>.ag (dK false t.nz)))):=by
 cases hb;refine W.args fun z=>?_;have H:Has (⟨.nil,0⟩:af) []:=Has.nil;refine ae ?_;refine GoF.block (GoF.loop (fun k F U=>∃j w,j+k=(a.getD []).length∧Sl U (some 3) w (((a.getD []).take j).map fun t=>.ag (dK false t.nz))∧((a.getD []).take j=[]→w= .aB)∧sat [(0,cN true a),(3,w),(4,ay j)] F) (fun k F U aZ=>?_) (a.getD []).length ⟨0,.aB,by omega,.nil,fun _=>rfl,rfl,rfl,rfl,trivial⟩);obtain⟨j,w,az,hw,pQ,aX⟩:=aZ;refine GoF.norm _ aX fun F=>?_;clear aX;have H:Has U []:=Has.nil;by_cases bS:j<(a.getD []).length
 ·refine ae ?_;refine W.len rfl rfl rfl uG ?_;refine ae ?_;refine W.cw rfl rfl rfl rfl (G7 bS) ?_;rw[nA];refine ae ?_;have hm:=aS bS;refine W.cg hfn e (cl _ hm) rfl rfl rfl (gO (aj _ hm _)) ?_;refine ae ?_;refine W.mv (c:=dK false ((a.getD [])[j]).nz) H rfl rfl rfl rfl rfl rfl rfl fun bd n2 H br=>?_;refine ae ?_;have jC:=hw.aF (U:=bd) fun i J _ ab=>br i J ab;refine W.pu (c:=dK false ((a.getD [])[j]).nz) (.ag (dK false ((a.getD [])[j]).nz)) jC rfl rfl rfl rfl rfl rfl rfl rfl rfl (by rw[aJ,eL];omega) fun a2 bG av ha _ eh bb=>?_;refine ae ?_;refine⟨k-1,by omega,j+1,a2,by omega,?_,fun h=>?_,rfl,rfl,rfl,trivial⟩
  ·rw[fG bS,gK];exact av
  ·have:=congrArg List.length h;rw[eL,lx] at this;omega
 ·refine ae ?_;refine W.len rfl rfl rfl uG ?_;refine ae ?_;refine GoF.exit ?_;show bl _ _ _ _ _ _ _ _;refine ae ?_;have nB:j=(a.getD []).length:=by omega
  subst nB;rw[h_] at hw pQ;exact GoF.ret ⟨rfl,_,cT (cI rfl),hw.ym (n:=999) (fun h=>pQ (vi.1 h)) fun x hx=>by obtain⟨t,_,rfl⟩:=bQ.1 hx;exact a9n (n:=997) _⟩
theorem a9q(t:Tm)(aj:∀U:af,bh U (b.aV+1000) (cN true t.c3)=some (cN true t.c3))(e:b.ext s9=0∧b.pure s9=true)(cl:K s9 [cN true t.c3] (slA false (some 3) (t.args.map fun t=>.ag (dK false t.nz))))
  (body:bB) (hb:HO.body=some body):GoF (b.a4 K) HO.ntmps body (eS [.ag (dK true t)]) ⟨.nil,0⟩ (gi HO.results (.ag (dK false t.nz))):=by
 cases hb;refine W.args fun z=>?_;have H:Has (⟨.nil,0⟩:af) []:=Has.nil;refine ae ?_;refine W.en (c:=dK true t) H rfl rfl rfl rfl rfl rfl fun U cG H bE=>?_;refine ae ?_;refine W.bN (c:=[.b false,.s [],.aB]) H cG rfl rfl rfl fun bd n2 H br=>?_;refine ae ?_;refine W.cg hfn e cl rfl rfl rfl (gO (aj _)) ?_;refine ae ?_;have aM:(.ag (dK false t.nz):AV)= .ag [.b t.var,.s t.name,slA false (some 3) (t.args.map fun t=>.ag (dK false t.nz))]:=by
  rw[Tm.hd];show AV.ag [.b t.var,.s t.name,cN false (cM (t.args.map Tm.nz))]=_;rw[As,eK];exact congrArg (fun x=>AV.ag [.b t.var,.s t.name,slA false (some 3) x]) (gl fun u _=>nA false u.nz)
 rw[aM];generalize t.args.map (fun t=>AV.ag (dK false t.nz))=L;have ah:(slA false (some 3) L).cells=[slA false (some 3) L]:=by cases L<;>rfl
 refine W.st (aQ:=[.b t.var,.s t.name,slA false (some 3) L]) H 1 rfl rfl rfl rfl DH (by rw[ah];rfl) fun bG eh H bb=>?_;refine ae ?_;refine W.st (aQ:=[.b t.var,.s t.name,slA false (some 3) L]) H 0 rfl rfl rfl rfl rfl rfl fun cA gU H cm=>?_;refine ae ?_;refine GoF.ret ⟨rfl,_,cT (fR rfl (H.get _ (.head _)) rfl),?_⟩;rw[freeze_succ];show(match mapO (Go.Lyc.freeze cA 0 999) [.b t.var,.s t.name,slA false (some 3) L] with|none=>none|some l=>some (AV.ag l))=_;have h1:freeze cA 0 999 (slA false (some 3) L)=some (slA false (some 3) L):=by cases L<;>rfl
 rw[mapO_cons,mapO_cons,mapO_cons,h1];rfl
theorem a9r(a:Option (List Fm))(hlen:(a.getD []).length<2^20)(aj:∀t∈a.getD [],∀U:af,bh U (b.aV+1000) (.ag (dG t))=some (.ag (dG t)))(e:b.ext rU=0∧b.pure rU=true)(cl:∀t∈a.getD [],K rU [.ag (dG t)] (.ag (jW t.nz)))
  (body:bB) (hb:HC.body=some body):GoF (b.a4 K) HC.ntmps body (eS [dz true a]) ⟨.nil,0⟩ (gi HC.results (slA false (some 4) ((a.getD []).map fun t=>.ag (jW t.nz)))):=by
 cases hb;refine W.args fun z=>?_;have H:Has (⟨.nil,0⟩:af) []:=Has.nil;refine ae ?_;refine GoF.block (GoF.loop (fun k F U=>∃j w,j+k=(a.getD []).length∧Sl U (some 4) w (((a.getD []).take j).map fun t=>.ag (jW t.nz))∧((a.getD []).take j=[]→w= .aB)∧sat [(0,dz true a),(3,w),(4,ay j)] F) (fun k F U aZ=>?_) (a.getD []).length ⟨0,.aB,by omega,.nil,fun _=>rfl,rfl,rfl,rfl,trivial⟩);obtain⟨j,w,az,hw,pQ,aX⟩:=aZ;refine GoF.norm _ aX fun F=>?_;clear aX;have H:Has U []:=Has.nil;by_cases bS:j<(a.getD []).length
 ·refine ae ?_;refine W.len rfl rfl rfl v5 ?_;refine ae ?_;refine W.cw rfl rfl rfl rfl (G8 bS) ?_;rw[uL];refine ae ?_;have hm:=aS bS;refine W.cg hfn e (cl _ hm) rfl rfl rfl (gO (aj _ hm _)) ?_;refine ae ?_;refine W.mv (c:=jW ((a.getD [])[j]).nz) H rfl rfl rfl rfl rfl rfl rfl fun bd n2 H br=>?_;refine ae ?_;have jC:=hw.aF (U:=bd) fun i J _ ab=>br i J ab;refine W.pu (c:=jW ((a.getD [])[j]).nz) (.ag (jW ((a.getD [])[j]).nz)) jC rfl rfl rfl rfl rfl rfl rfl rfl rfl (by rw[aJ,eL];omega) fun a2 bG av ha _ eh bb=>?_;refine ae ?_;refine⟨k-1,by omega,j+1,a2,by omega,?_,fun h=>?_,rfl,rfl,rfl,trivial⟩
  ·rw[fG bS,gK];exact av
  ·have:=congrArg List.length h;rw[eL,lx] at this;omega
 ·refine ae ?_;refine W.len rfl rfl rfl v5 ?_;refine ae ?_;refine GoF.exit ?_;show bl _ _ _ _ _ _ _ _;refine ae ?_;have nB:j=(a.getD []).length:=by omega
  subst nB;rw[h_] at hw pQ;exact GoF.ret ⟨rfl,_,cT (cI rfl),hw.ym (n:=999) (fun h=>pQ (vi.1 h)) fun x hx=>by obtain⟨t,_,rfl⟩:=bQ.1 hx;exact a9o (n:=997) _⟩
theorem a9s(t:Fm)(aj:∀U:af,bh U (b.aV+1000) (cN true t.c3)=some (cN true t.c3))(eN:∀U:af,bh U (b.aV+1000) (dz true t.bm)=some (dz true t.bm))(e:b.ext s9=0∧b.pure s9=true)(cl:K s9 [cN true t.c3] (slA false (some 3) (t.args.map fun t=>.ag (dK false t.nz))))
  (e2:b.ext ya=0∧b.pure ya=true) (jo:K ya [dz true t.bm] (slA false (some 4) (t.sub.map fun t=>.ag (jW t.nz)))) (body:bB) (hb:Hi.body=some body):GoF (b.a4 K) Hi.ntmps body (eS [.ag (dG t)]) ⟨.nil,0⟩ (gi Hi.results (.ag (jW t.nz))):=by
 cases hb;refine W.args fun z=>?_;have H:Has (⟨.nil,0⟩:af) []:=Has.nil;refine ae ?_;refine W.en (c:=dG t) H rfl rfl rfl rfl rfl rfl fun U cG H bE=>?_;refine ae ?_;refine W.bN (c:=[.i .u8 0,.s [],.aB,.aB]) H cG rfl rfl rfl fun bd n2 H br=>?_;refine ae ?_;refine W.cg hfn e cl rfl rfl rfl (gO (aj _)) ?_;refine ae ?_;have aM:(.ag (jW t.nz):AV)= .ag [.i .u8 (Int.ofNat t.op),.s t.name,slA false (some 3) (t.args.map fun t=>.ag (dK false t.nz)),slA false (some 4) (t.sub.map fun t=>.ag (jW t.nz))]:=by
  rw[Fm.hd];show AV.ag [.i .u8 (Int.ofNat t.op),.s t.name,cN false (cM (t.args.map Tm.nz)),dz false (cM (t.sub.map Fm.nz))]=_;rw[As,M7,eK,eK,show t.args.map (Tm.A false∘Tm.nz)=t.args.map fun t=>.ag (dK false t.nz) from gl fun u _=>nA false u.nz,show t.sub.map (Fm.A false∘Fm.nz)=t.sub.map fun t=>.ag (jW t.nz) from gl fun u _=>a9m u.nz]
 rw[aM];clear aM cl;generalize t.args.map (fun t=>AV.ag (dK false t.nz))=L;have ah:(slA false (some 3) L).cells=[slA false (some 3) L]:=by cases L<;>rfl
 refine W.st (aQ:=[.i .u8 (Int.ofNat t.op),.s t.name,slA false (some 3) L,dz true t.bm]) H 1 rfl rfl rfl rfl DH (by rw[ah];rfl) fun bG eh H bb=>?_;refine ae ?_;refine W.cg hfn e2 jo rfl rfl rfl (gO (eN _)) ?_;refine ae ?_;clear jo;generalize t.sub.map (fun t=>AV.ag (jW t.nz))=M;have ah:(slA false (some 4) M).cells=[slA false (some 4) M]:=by cases M<;>rfl
 refine W.st (aQ:=[.i .u8 (Int.ofNat t.op),.s t.name,slA false (some 3) L,slA false (some 4) M]) H 1 rfl rfl rfl rfl DH (by rw[ah];rfl) fun bG eh H bb=>?_;refine ae ?_;refine W.st (aQ:=[.i .u8 (Int.ofNat t.op),.s t.name,slA false (some 3) L,slA false (some 4) M]) H 0 rfl rfl rfl rfl rfl rfl fun cA gU H cm=>?_;refine ae ?_;refine GoF.ret ⟨rfl,_,cT (fR rfl (H.get _ (.head _)) rfl),?_⟩;rw[freeze_succ];show(match mapO (Go.Lyc.freeze cA 0 999) [.i .u8 (Int.ofNat t.op),.s t.name,slA false (some 3) L,slA false (some 4) M] with|none=>none|some l=>some (AV.ag l))=_;have h1:freeze cA 0 999 (slA false (some 3) L)=some (slA false (some 3) L):=by cases L<;>rfl
 have h2:freeze cA 0 999 (slA false (some 4) M)=some (slA false (some 4) M):=by cases M<;>rfl
 rw[mapO_cons,mapO_cons,mapO_cons,mapO_cons,h1,h2];rfl
end
section
variable {b:dW}{K:Nat→List AV→AV→Prop}(hfn:∀g aR r bs,K g aR r→K g aR bs→r=bs)
include hfn
theorem a9t(t u:Tm)(h1:t.var=u.var)(h2:t.name=u.name)(aj:∀U:af,bh U (b.aV+1000) (cN true t.c3)=some (cN true t.c3))(eN:∀U:af,bh U (b.aV+1000) (cN true u.c3)=some (cN true u.c3))(e:b.ext s7=0∧b.pure s7=true)(cl:K s7 [cN true t.c3,cN true u.c3] (.b true))
  (body:bB) (hb:HQ.body=some body):GoF (b.a4 K) HQ.ntmps body (eS [.ag (dK true t),.ag (dK true u)]) ⟨.nil,0⟩ (gi HQ.results (.b true)):=by
 cases hb;refine W.args fun z=>?_;have H:Has (⟨.nil,0⟩:af) []:=Has.nil;refine ae ?_;refine W.en (c:=dK true t) H rfl rfl rfl rfl rfl rfl fun U cG H bE=>?_;refine ae ?_;refine W.en (c:=dK true u) H cG rfl rfl rfl rfl rfl fun bd n2 H br=>?_;refine ae ?_;have av:(bif false then !(t.var==u.var) else(t.var==u.var))=true:=by rw[h1];simp
 rw[av];refine ae ?_;refine W.bin (v:=.b true) rfl rfl rfl rfl (by rw[h2];show some (AV.b (eqL u.name u.name))=_;rw[uE]) ?_;refine ae ?_;refine W.cg hfn e cl rfl rfl rfl (g9 (aj _) (eN _)) ?_;refine ae ?_;exact GoF.ret ⟨rfl,_,cT (cI rfl),rfl⟩
theorem a9u(a c:Option (List Tm))(hlen:(a.getD []).length<2^20)(ar:(a.getD []).length=(c.getD []).length)(aj:∀t∈a.getD [],∀U:af,bh U (b.aV+1000) (.ag (dK true t))=some (.ag (dK true t)))(eN:∀t∈c.getD [],∀U:af,bh U (b.aV+1000) (.ag (dK true t))=some (.ag (dK true t)))
  (e:b.ext wg=0∧b.pure wg=true) (cl:∀i (h:i<(a.getD []).length) (h':i<(c.getD []).length),K wg [.ag (dK true (a.getD [])[i]),.ag (dK true (c.getD [])[i])] (.b true))
  (body:bB) (hb:HK.body=some body):GoF (b.a4 K) HK.ntmps body (eS [cN true a,cN true c]) ⟨.nil,0⟩ (gi HK.results (.b true)):=by
 cases hb;refine W.args fun z=>?_;have H:Has (⟨.nil,0⟩:af) []:=Has.nil;refine ae ?_;refine W.len rfl rfl rfl uG ?_;refine ae ?_;refine W.len rfl rfl rfl uG ?_;refine ae ?_;refine GoF.block (GoF.loop (fun k F U=>∃j,j+k=(a.getD []).length∧sat [(0,cN true a),(1,cN true c),(5,ay j)] F) (fun k F U aZ=>?_) (a.getD []).length ⟨0,by omega,rfl,rfl,rfl,trivial⟩);obtain⟨j,az,aX⟩:=aZ;refine GoF.norm _ aX fun F=>?_;clear aX;have H:Has U []:=Has.nil;by_cases bS:j<(a.getD []).length
 ·have m4:j<(c.getD []).length:=by omega
  refine ae ?_;refine W.len rfl rfl rfl uG ?_;refine ae ?_;refine W.cw rfl rfl rfl rfl (G7 bS) ?_;rw[nA];refine ae ?_;refine W.cw rfl rfl rfl rfl (G7 m4) ?_;rw[nA];refine ae ?_;refine W.cg hfn e (cl j bS m4) rfl rfl rfl (g9 (aj _ (aS bS) _) (eN _ (aS m4) _)) ?_;refine ae ?_;exact⟨k-1,by omega,j+1,by omega,rfl,rfl,rfl,trivial⟩
 ·refine ae ?_;refine W.len rfl rfl rfl uG ?_;refine ae ?_;refine GoF.exit ?_;show bl _ _ _ _ _ _ _ _;refine ae ?_;exact GoF.ret ⟨rfl,_,cT (cI rfl),rfl⟩
theorem a9v(a c:Option (List Fm))(hlen:(a.getD []).length<2^20)(ar:(a.getD []).length=(c.getD []).length)(aj:∀t∈a.getD [],∀U:af,bh U (b.aV+1000) (.ag (dG t))=some (.ag (dG t)))(eN:∀t∈c.getD [],∀U:af,bh U (b.aV+1000) (.ag (dG t))=some (.ag (dG t)))
  (e:b.ext rS=0∧b.pure rS=true) (cl:∀i (h:i<(a.getD []).length) (h':i<(c.getD []).length),K rS [.ag (dG (a.getD [])[i]),.ag (dG (c.getD [])[i])] (.b true))
  (body:bB) (hb:HL.body=some body):GoF (b.a4 K) HL.ntmps body (eS [dz true a,dz true c]) ⟨.nil,0⟩ (gi HL.results (.b true)):=by
 cases hb;refine W.args fun z=>?_;have H:Has (⟨.nil,0⟩:af) []:=Has.nil;refine ae ?_;refine W.len rfl rfl rfl v5 ?_;refine ae ?_;refine W.len rfl rfl rfl v5 ?_;refine ae ?_;refine GoF.block (GoF.loop (fun k F U=>∃j,j+k=(a.getD []).length∧sat [(0,dz true a),(1,dz true c),(5,ay j)] F) (fun k F U aZ=>?_) (a.getD []).length ⟨0,by omega,rfl,rfl,rfl,trivial⟩);obtain⟨j,az,aX⟩:=aZ;refine GoF.norm _ aX fun F=>?_;clear aX;have H:Has U []:=Has.nil;by_cases bS:j<(a.getD []).length
 ·have m4:j<(c.getD []).length:=by omega
  refine ae ?_;refine W.len rfl rfl rfl v5 ?_;refine ae ?_;refine W.cw rfl rfl rfl rfl (G8 bS) ?_;rw[uL];refine ae ?_;refine W.cw rfl rfl rfl rfl (G8 m4) ?_;rw[uL];refine ae ?_;refine W.cg hfn e (cl j bS m4) rfl rfl rfl (g9 (aj _ (aS bS) _) (eN _ (aS m4) _)) ?_;refine ae ?_;exact⟨k-1,by omega,j+1,by omega,rfl,rfl,rfl,trivial⟩
 ·refine ae ?_;refine W.len rfl rfl rfl v5 ?_;refine ae ?_;refine GoF.exit ?_;show bl _ _ _ _ _ _ _ _;refine ae ?_;exact GoF.ret ⟨rfl,_,cT (cI rfl),rfl⟩
theorem a9w(t u:Fm)(h1:t.op=u.op)(h2:t.name=u.name)(aj:∀U:af,bh U (b.aV+1000) (cN true t.c3)=some (cN true t.c3))(eN:∀U:af,bh U (b.aV+1000) (cN true u.c3)=some (cN true u.c3))(qF:∀U:af,bh U (b.aV+1000) (dz true t.bm)=some (dz true t.bm))(lY:∀U:af,bh U (b.aV+1000) (dz true u.bm)=some (dz true u.bm))
  (e:b.ext s7=0∧b.pure s7=true) (cl:K s7 [cN true t.c3,cN true u.c3] (.b true)) (e2:b.ext x6=0∧b.pure x6=true) (jo:K x6 [dz true t.bm,dz true u.bm] (.b true))
  (body:bB) (hb:Hv.body=some body):GoF (b.a4 K) Hv.ntmps body (eS [.ag (dG t),.ag (dG u)]) ⟨.nil,0⟩ (gi Hv.results (.b true)):=by
 cases hb;refine W.args fun z=>?_;have H:Has (⟨.nil,0⟩:af) []:=Has.nil;refine ae ?_;refine W.en (c:=dG t) H rfl rfl rfl rfl rfl rfl fun U cG H bE=>?_;refine ae ?_;refine W.en (c:=dG u) H cG rfl rfl rfl rfl rfl fun bd n2 H br=>?_;refine ae ?_;refine W.bin (v:=.b true) rfl rfl rfl rfl (by rw[h2];show some (AV.b (eqL u.name u.name))=_;rw[uE]) ?_;refine ae ?_;refine W.cg hfn e cl rfl rfl rfl (g9 (aj _) (eN _)) ?_;refine ae ?_;refine W.cg hfn e2 jo rfl rfl rfl (g9 (qF _) (lY _)) ?_;refine ae ?_;exact GoF.ret ⟨rfl,_,cT (cI rfl),rfl⟩
end
end
section
variable [Tok][TokOk]
open Go.RowKit Go.Lyc.T
inductive Prf
 |mk (rule:List Nat) (form:Fm) (aY:Int) (bm:Option (List Prf)) (cv:Option (List (Option (List Int))))
abbrev kb:=Option (List (Option (List Int)))
def Prf.rule:Prf→List Nat| .mk r _ _ _ _=>r
def Prf.form:Prf→Fm| .mk _ f _ _ _=>f
def Prf.aY:Prf→Int| .mk _ _ l _ _=>l
def Prf.bm:Prf→Option (List Prf)| .mk _ _ _ s _=>s
def Prf.cv:Prf→kb| .mk _ _ _ _ m=>m
def Prf.sub(p:Prf):List Prf:=p.bm.getD []
def Prf.aG(p:Prf):List (Option (List Int)):=p.cv.getD []
abbrev zI(n:Int):AV:=.i .i64 n
def b5(J:Bool)(l:Option (List Int)):AV:=osl J none (l.map fun l=>l.map zI)
def cO(J:Bool)(m:kb):AV:=osl J none (m.map fun l=>l.map (b5 J))
mutual
def Prf.cells(J:Bool):Prf→List AV
 | .mk r f l none m=>[.s r,.i .u8 (Int.ofNat f.op),.s f.name,cN J f.c3,dz J f.bm,zI l,.aB,cO J m]
 | .mk r f l (some s) m=>[.s r,.i .u8 (Int.ofNat f.op),.s f.name,cN J f.c3,dz J f.bm,zI l,.a7 J (some 8) (Prf.lA J s),cO J m]
def Prf.lA(J:Bool):List Prf→List AV
 |[]=>[]
 |p::l=>.ag (Prf.cells J p)::Prf.lA J l
end
def Prf.A(J:Bool)(p:Prf):AV:=.ag (p.cells J)
theorem Prf.s4(J:Bool):∀l,Prf.lA J l=l.map (Prf.A J)
 |[]=>by rw[Prf.lA];rfl
 |p::l=>by rw[Prf.lA,Prf.s4 J l];rfl
def cU(J:Bool)(a:Option (List Prf)):AV:=osl J (some 8) (a.map fun l=>l.map (Prf.A J))
abbrev prC(J:Bool)(p:Prf):List AV:=[.s p.rule,.i .u8 (Int.ofNat p.form.op),.s p.form.name,cN J p.form.c3,dz J p.form.bm,zI p.aY,cU J p.bm,cO J p.cv]
theorem Prf.kM(J:Bool)(p:Prf):p.cells J=prC J p:=by
 obtain⟨r,f,l,s,m⟩:=p;cases s with
 |none=>rw[Prf.cells];rfl
 |some s=>rw[Prf.cells,Prf.s4];rfl
theorem o3(J:Bool)(p:Prf):p.A J= .ag (prC J p):=by unfold Prf.A;rw[Prf.kM]
mutual
def Prf.dep:Prf→Nat
 | .mk _ f _ none _=>f.dep+1
 | .mk _ f _ (some s) _=>max f.dep (Prf.g_ s)+1
def Prf.g_:List Prf→Nat
 |[]=>0
 |p::l=>max p.dep (Prf.g_ l)
end
theorem Prf.gJ(p:Prf):p.dep=max p.form.dep (Prf.g_ p.sub)+1:=by
 obtain⟨r,f,l,s,m⟩:=p;cases s with
 |none=>rw[Prf.dep];show f.dep+1=max f.dep (Prf.g_ [])+1;rw[Prf.g_];omega
 |some l=>rw[Prf.dep];rfl
theorem Prf.rN:∀ {l:List Prf} {p:Prf},p∈l→p.dep≤Prf.g_ l
 |g::l,p,h=>by
  rw[Prf.g_];rcases cH.1 h with rfl|h
  ·omega
  ·have:=Prf.rN h;omega
theorem Prf.jE{p q:Prf}(h:q∈p.sub):q.dep<p.dep:=by
 rw[Prf.gJ p];have:=Prf.rN h;omega
theorem Prf.tl(p:Prf):p.form.dep<p.dep:=by rw[Prf.gJ p];omega
theorem rX{I:af}{k:Nat}(J:Bool)(l:Option (List Int)):bh I (k+2) (b5 J l)=some (b5 true l):=rO (k:=k+1) fun x _=>rfl
theorem At{I:af}{k:Nat}(J:Bool)(m:kb):bh I (k+3) (cO J m)=some (cO true m):=rO (k:=k+2) fun x _=>rX J x
theorem M8{I:af}{k:Nat}(J:Bool)(f:Fm)(h:2*f.dep+2≤k):bh I k (cN J f.c3)=some (cN true f.c3)∧bh I k (dz J f.bm)=some (dz true f.bm):=by
 obtain⟨k,rfl⟩:∃j,k=j+1:=⟨k-1,by omega⟩
 exact⟨rO (k:=k) fun x hx=>Tm.snap I J x.dep x k (o _) (by have:=Fm.pI (f:=f) hx;omega),rO (k:=k) fun x hx=>Fm.snap I J x.dep x k (o _) (by have:=Fm.jE (f:=f) hx;omega)⟩
theorem Prf.snap(I:af)(J:Bool):∀(d:Nat) (p:Prf) (k:Nat),p.dep≤d→2*d+4≤k→bh I k (.ag (prC J p))=some (.ag (prC true p))
 |0,p,k,h,_=>by rw[Prf.gJ] at h;omega
 |d+1,p,k,h,aD=>by
  obtain⟨k,rfl⟩:∃j,k=j+4:=⟨k-4,by omega⟩
  refine uF ?_;have hf:=p.tl;obtain⟨aM,e2⟩:=M8 (I:=I) (k:=k+3) J p.form (by omega);have dn:bh I (k+3) (cU J p.bm)=some (cU true p.bm):=rO (k:=k+2) fun x hx=>by rw[o3,o3];exact Prf.snap I J d x (k+2) (by have:=Prf.jE (p:=p) hx;omega) (by omega)
  have fe:bh I (k+3) (cO J p.cv)=some (cO true p.cv):=At J _;rw[jR,jR,jR,jR,jR,jR,jR,jR,aM,e2,dn,fe];rfl
def jX(l:Option (List Int)):Option (List Int):=cM (l.getD [])
def qR(m:kb):kb:=cM ((m.getD []).map jX)
mutual
def Prf.nz:Prf→Prf
 | .mk r f l none m=>.mk r f.nz l none (qR m)
 | .mk r f l (some s) m=>.mk r f.nz l (cM (Prf.nzs s)) (qR m)
def Prf.nzs:List Prf→List Prf
 |[]=>[]
 |p::l=>p.nz::Prf.nzs l
end
theorem Prf.wA:∀l,Prf.nzs l=l.map Prf.nz
 |[]=>by rw[Prf.nzs];rfl
 |p::l=>by rw[Prf.nzs,Prf.wA l];rfl
theorem Prf.hd(p:Prf):p.nz= .mk p.rule p.form.nz p.aY (cM (p.sub.map Prf.nz)) (qR p.cv):=by
 obtain⟨r,f,l,s,m⟩:=p;cases s with
 |none=>rw[Prf.nz];rfl
 |some s=>rw[Prf.nz,Prf.wA];rfl
theorem gR{I:af}{J:Bool}{a:Option (List Prf)}:lenA I 1 (cU J a)=some (a.getD []).length:=De
theorem kc{I:af}{J:Bool}{a:kb}:lenA I 1 (cO J a)=some (a.getD []).length:=De
theorem ly{I:af}{J:Bool}{a:Option (List Int)}:lenA I 1 (b5 J a)=some (a.getD []).length:=De
theorem nC{J:Bool}{a:Option (List Prf)}{j:Nat}(h:j<(a.getD []).length):idxSlA (some 8) (cU J a) j=some (.cZ J (.ag (prC J (a.getD [])[j]))):=by rw[←o3];exact z_ h
theorem pR{J:Bool}{a:kb}{j:Nat}(h:j<(a.getD []).length):idxSlA none (cO J a) j=some (.cZ J (b5 J (a.getD [])[j])):=z_ h
theorem qS{J:Bool}{a:Option (List Int)}{j:Nat}(h:j<(a.getD []).length):idxSlA none (b5 J a) j=some (.cZ J (zI (a.getD [])[j])):=z_ h
theorem iI(J:Bool)(l:Option (List Int)):(b5 J l).cells=[b5 J l]∧conf none (b5 J l)=true:=by cases l<;>exact⟨rfl,rfl⟩
theorem Iq(J:Bool)(l:kb):(cO J l).cells=[cO J l]∧conf none (cO J l)=true:=by cases l<;>exact⟨rfl,rfl⟩
theorem Ir(J:Bool)(l:Option (List Prf)):(cU J l).cells=[cU J l]∧conf none (cU J l)=true:=by cases l<;>exact⟨rfl,rfl⟩
theorem uM{α:Type}{J:Bool}{ad:Option Nat}{l:List α}{g:α→AV}:osl J ad ((cM l).map fun l=>l.map g)=slA J ad (l.map g):=by cases l<;>rfl
end
section
variable [Tok][TokOk]
open Go.RowKit Go.Lyc.T
attribute [local irreducible] bL bl e6 eB b9
theorem Vg{I:af}{n:Nat}(p:Prf):freeze I 0 (n+2) (.ag (prC false p))=some (.ag (prC false p)):=by
 rw[freeze_succ];show(match mapO (Go.Lyc.freeze I 0 (n+1)) _ with|none=>none|some l=>some (AV.ag l))=_;have h1:freeze I 0 (n+1) (cN false p.form.c3)=some (cN false p.form.c3):=by cases p.form.c3<;>rfl
 have h2:freeze I 0 (n+1) (dz false p.form.bm)=some (dz false p.form.bm):=by cases p.form.bm<;>rfl
 have h3:freeze I 0 (n+1) (cU false p.bm)=some (cU false p.bm):=by cases p.bm<;>rfl
 have aE:freeze I 0 (n+1) (cO false p.cv)=some (cO false p.cv):=by cases p.cv<;>rfl
 rw[mapO_cons,mapO_cons,mapO_cons,mapO_cons,mapO_cons,mapO_cons,mapO_cons,mapO_cons,h1,h2,h3,aE];rfl
theorem Is{ao:aC→Option AV}{J:aC}{w lp:AV}(h:ao J=some w)(hw:w.cells=[w]∧w.val=true):iR ao (fun i sz=>i*sz) (([(0,J)]:List (Nat×aC)).map fun p=>(p.1,shN none,p.2)) (fP 1 [lp])=some [w]:=
 wu (sz:=fun i sz=>i*sz) h (by rw[hw.1,hw.2];rfl) (by rw[hw.1];rfl) rfl
theorem M9(J:Bool)(ad:Option Nat)(l:Option (List AV)):(osl J ad l).cells=[osl J ad l]∧(osl J ad l).val=true:=by cases l<;>exact⟨rfl,rfl⟩
theorem a9x{I:af}{n:Nat}(l:Option (List Int)):freeze I 0 (n+1) (b5 false l)=some (b5 false l):=by cases l<;>rfl
section
variable {b:dW}{K:Nat→List AV→AV→Prop}(hfn:∀g aR r bs,K g aR r→K g aR bs→r=bs)
include hfn
theorem a9y(a:Option (List Prf))(hlen:(a.getD []).length<2^20)(aj:∀t∈a.getD [],∀U:af,bh U (b.aV+1000) (.ag (prC true t))=some (.ag (prC true t)))(e:b.ext m2=0∧b.pure m2=true)(cl:∀t∈a.getD [],K m2 [.ag (prC true t)] (.ag (prC false t.nz)))
  (body:bB) (hb:Hj.body=some body):GoF (b.a4 K) Hj.ntmps body (eS [cU true a]) ⟨.nil,0⟩ (gi Hj.results (slA false (some 8) ((a.getD []).map fun t=>.ag (prC false t.nz)))):=by
 cases hb;refine W.args fun z=>?_;have H:Has (⟨.nil,0⟩:af) []:=Has.nil;refine ae ?_;refine GoF.block (GoF.loop (fun k F U=>∃j w,j+k=(a.getD []).length∧Sl U (some 8) w (((a.getD []).take j).map fun t=>.ag (prC false t.nz))∧((a.getD []).take j=[]→w= .aB)∧sat [(0,cU true a),(3,w),(4,ay j)] F) (fun k F U aZ=>?_) (a.getD []).length ⟨0,.aB,by omega,.nil,fun _=>rfl,rfl,rfl,rfl,trivial⟩);obtain⟨j,w,az,hw,pQ,aX⟩:=aZ;refine GoF.norm _ aX fun F=>?_;clear aX;have H:Has U []:=Has.nil;by_cases bS:j<(a.getD []).length
 ·refine ae ?_;refine W.len rfl rfl rfl gR ?_;refine ae ?_;refine W.cw rfl rfl rfl rfl (nC bS) ?_;refine ae ?_;have hm:=aS bS
  try (refine W.iG (ad:=(some 8)) rfl rfl rfl (by first|rfl|exact(iI _ _).2) ?_;refine ae ?_)
  refine W.cg hfn e (cl _ hm) rfl rfl rfl (gO (aj _ hm _)) ?_;refine ae ?_;refine W.fJ (c:=prC false ((a.getD [])[j]).nz) H rfl rfl rfl rfl fun bd n2 H br=>?_;refine ae ?_;have jC:=hw.aF (U:=bd) fun i J _ ab=>br i J ab;refine W.ap (.ag (prC false ((a.getD [])[j]).nz)) [] jC (by show(match bd.get U.next with|some (.cells c)=>elems (some 8) 1 (c.drop 0)|_=>none)=_;rw[H.get _ (.head _)];rfl) (fun z bg=>by rw[d_.1 bg];first|rfl|exact(iI _ _).2) (by rw[aJ,eL];show(3*(_+1)+2000)*_≤_;omega) rfl rfl rfl rfl fun a2 bG av ha _ eh bb=>?_;refine ae ?_;refine⟨k-1,by omega,j+1,a2,by omega,?_,fun h=>?_,rfl,rfl,rfl,trivial⟩
  ·rw[fG bS,gK];exact av
  ·have:=congrArg List.length h;rw[eL,lx] at this;omega
 ·refine ae ?_;refine W.len rfl rfl rfl gR ?_;refine ae ?_;refine GoF.exit ?_;show bl _ _ _ _ _ _ _ _;refine ae ?_;have nB:j=(a.getD []).length:=by omega
  subst nB;rw[h_] at hw pQ;exact GoF.ret ⟨rfl,_,cT (cI rfl),hw.ym (n:=999) (fun h=>pQ (vi.1 h)) fun x hx=>by obtain⟨t,_,rfl⟩:=bQ.1 hx;exact Vg (n:=997) _⟩
theorem a9z(a:kb)(hlen:(a.getD []).length<2^20)(aj:∀t∈a.getD [],∀U:af,bh U (b.aV+1000) (b5 true t)=some (b5 true t))(e:b.ext x_=0∧b.pure x_=true)(cl:∀t∈a.getD [],K x_ [b5 true t] (b5 false (jX t)))
  (body:bB) (hb:Hk.body=some body):GoF (b.a4 K) Hk.ntmps body (eS [cO true a]) ⟨.nil,0⟩ (gi Hk.results (slA false none ((a.getD []).map fun t=>b5 false (jX t)))):=by
 cases hb;refine W.args fun z=>?_;have H:Has (⟨.nil,0⟩:af) []:=Has.nil;refine ae ?_;refine GoF.block (GoF.loop (fun k F U=>∃j w,j+k=(a.getD []).length∧Sl U none w (((a.getD []).take j).map fun t=>b5 false (jX t))∧((a.getD []).take j=[]→w= .aB)∧sat [(0,cO true a),(3,w),(4,ay j)] F) (fun k F U aZ=>?_) (a.getD []).length ⟨0,.aB,by omega,.nil,fun _=>rfl,rfl,rfl,rfl,trivial⟩);obtain⟨j,w,az,hw,pQ,aX⟩:=aZ;refine GoF.norm _ aX fun F=>?_;clear aX;have H:Has U []:=Has.nil;by_cases bS:j<(a.getD []).length
 ·refine ae ?_;refine W.len rfl rfl rfl kc ?_;refine ae ?_;refine W.cw rfl rfl rfl rfl (pR bS) ?_;refine ae ?_;have hm:=aS bS
  try (refine W.iG (ad:=none) rfl rfl rfl (by first|rfl|exact(iI _ _).2) ?_;refine ae ?_)
  refine W.cg hfn e (cl _ hm) rfl rfl rfl (gO (aj _ hm _)) ?_;refine ae ?_;refine W.fJ (c:=[b5 false (jX ((a.getD [])[j]))]) H rfl rfl rfl (Is rfl (M9 _ _ _)) fun bd n2 H br=>?_;refine ae ?_;have jC:=hw.aF (U:=bd) fun i J _ ab=>br i J ab;refine W.ap (b5 false (jX ((a.getD [])[j]))) [] jC (by show(match bd.get U.next with|some (.cells c)=>elems none 1 (c.drop 0)|_=>none)=_;rw[H.get _ (.head _)];rfl) (fun z bg=>by rw[d_.1 bg];first|rfl|exact(iI _ _).2) (by rw[aJ,eL];show(3*(_+1)+2000)*_≤_;omega) rfl rfl rfl rfl fun a2 bG av ha _ eh bb=>?_;refine ae ?_;refine⟨k-1,by omega,j+1,a2,by omega,?_,fun h=>?_,rfl,rfl,rfl,trivial⟩
  ·rw[fG bS,gK];exact av
  ·have:=congrArg List.length h;rw[eL,lx] at this;omega
 ·refine ae ?_;refine W.len rfl rfl rfl kc ?_;refine ae ?_;refine GoF.exit ?_;show bl _ _ _ _ _ _ _ _;refine ae ?_;have nB:j=(a.getD []).length:=by omega
  subst nB;rw[h_] at hw pQ;exact GoF.ret ⟨rfl,_,cT (cI rfl),hw.ym (n:=999) (fun h=>pQ (vi.1 h)) fun x hx=>by obtain⟨t,_,rfl⟩:=bQ.1 hx;exact a9x (n:=998) _⟩
end
theorem a9A(x:Int):binop .neq (zI x) (zI x)=some (.b false):=by
 show some (AV.b _)=_;simp
theorem a9B(x:Int):binop .eql (zI x) (zI x)=some (.b true):=by
 show some (AV.b _)=_;simp
theorem a9C(F:Fm):(AV.ag (jW F)).cells=jW F∧conf (some 4) (.ag (jW F))=true:=by
 obtain⟨J,yn,aR,n7⟩:=F;cases aR<;>cases n7<;>exact⟨rfl,rfl⟩
section
variable {b:dW}{K:Nat→List AV→AV→Prop}
theorem a9D(a c:Option (List Int))(hlen:(a.getD []).length<2^20)(ar:a.getD []=c.getD [])
  (body:bB) (hb:Hh.body=some body):GoF (b.a4 K) Hh.ntmps body (eS [b5 true a,b5 true c]) ⟨.nil,0⟩ (gi Hh.results (.b true)):=by
 cases hb;refine W.args fun z=>?_;have H:Has (⟨.nil,0⟩:af) []:=Has.nil;have mO:(a.getD []).length=(c.getD []).length:=by rw[ar]
 refine ae ?_;refine W.len rfl rfl rfl ly ?_;refine ae ?_;refine W.len rfl rfl rfl ly ?_;refine ae ?_;refine GoF.block (GoF.loop (fun k F U=>∃j,j+k=(a.getD []).length∧sat [(0,b5 true a),(1,b5 true c),(5,ay j)] F) (fun k F U aZ=>?_) (a.getD []).length ⟨0,by omega,rfl,rfl,rfl,trivial⟩);obtain⟨j,az,aX⟩:=aZ;refine GoF.norm _ aX fun F=>?_;clear aX;have H:Has U []:=Has.nil;by_cases bS:j<(a.getD []).length
 ·have m4:j<(c.getD []).length:=by omega
  have hx:(c.getD [])[j]=(a.getD [])[j]:=by simp only[ar]
  refine ae ?_;refine W.len rfl rfl rfl ly ?_;refine ae ?_;refine W.cw rfl rfl rfl rfl (qS bS) ?_;refine ae ?_;refine W.cw rfl rfl rfl rfl (qS m4) ?_;refine ae ?_;refine W.bin (v:=.b false) rfl rfl rfl rfl (by rw[hx];exact a9A _) ?_;refine ae ?_;exact⟨k-1,by omega,j+1,by omega,rfl,rfl,rfl,trivial⟩
 ·refine ae ?_;refine W.len rfl rfl rfl ly ?_;refine ae ?_;refine GoF.exit ?_;show bl _ _ _ _ _ _ _ _;refine ae ?_;exact GoF.ret ⟨rfl,_,cT (cI rfl),rfl⟩
theorem a9E(hfn:∀g aR r bs,K g aR r→K g aR bs→r=bs)(a c:kb)(hlen:(a.getD []).length<2^20)(ar:(a.getD []).length=(c.getD []).length)(aj:∀t∈a.getD [],∀U:af,bh U (b.aV+1000) (b5 true t)=some (b5 true t))(eN:∀t∈c.getD [],∀U:af,bh U (b.aV+1000) (b5 true t)=some (b5 true t))
  (e:b.ext x5=0∧b.pure x5=true) (cl:∀i (h:i<(a.getD []).length) (h':i<(c.getD []).length),K x5 [b5 true (a.getD [])[i],b5 true (c.getD [])[i]] (.b true))
  (body:bB) (hb:Hx.body=some body):GoF (b.a4 K) Hx.ntmps body (eS [cO true a,cO true c]) ⟨.nil,0⟩ (gi Hx.results (.b true)):=by
 cases hb;refine W.args fun z=>?_;have H:Has (⟨.nil,0⟩:af) []:=Has.nil;refine ae ?_;refine W.len rfl rfl rfl kc ?_;refine ae ?_;refine W.len rfl rfl rfl kc ?_;refine ae ?_;refine GoF.block (GoF.loop (fun k F U=>∃j,j+k=(a.getD []).length∧sat [(0,cO true a),(1,cO true c),(5,ay j)] F) (fun k F U aZ=>?_) (a.getD []).length ⟨0,by omega,rfl,rfl,rfl,trivial⟩);obtain⟨j,az,aX⟩:=aZ;refine GoF.norm _ aX fun F=>?_;clear aX;have H:Has U []:=Has.nil;by_cases bS:j<(a.getD []).length
 ·have m4:j<(c.getD []).length:=by omega
  refine ae ?_;refine W.len rfl rfl rfl kc ?_;refine ae ?_;refine W.cw rfl rfl rfl rfl (pR bS) ?_;refine ae ?_
  try (refine W.iG (ad:=none) rfl rfl rfl ((iI _ _).2) ?_;refine ae ?_)
  refine W.cw rfl rfl rfl rfl (pR m4) ?_;refine ae ?_
  try (refine W.iG (ad:=none) rfl rfl rfl ((iI _ _).2) ?_;refine ae ?_)
  refine W.cg hfn e (cl j bS m4) rfl rfl rfl (g9 (aj _ (aS bS) _) (eN _ (aS m4) _)) ?_;refine ae ?_;exact⟨k-1,by omega,j+1,by omega,rfl,rfl,rfl,trivial⟩
 ·refine ae ?_;refine W.len rfl rfl rfl kc ?_;refine ae ?_;refine GoF.exit ?_;show bl _ _ _ _ _ _ _ _;refine ae ?_;exact GoF.ret ⟨rfl,_,cT (cI rfl),rfl⟩
theorem a9F(hfn:∀g aR r bs,K g aR r→K g aR bs→r=bs)(a c:Option (List Prf))(hlen:(a.getD []).length<2^20)(ar:(a.getD []).length=(c.getD []).length)(aj:∀t∈a.getD [],∀U:af,bh U (b.aV+1000) (.ag (prC true t))=some (.ag (prC true t)))(eN:∀t∈c.getD [],∀U:af,bh U (b.aV+1000) (.ag (prC true t))=some (.ag (prC true t)))
  (e:b.ext ka=0∧b.pure ka=true) (cl:∀i (h:i<(a.getD []).length) (h':i<(c.getD []).length),K ka [.ag (prC true (a.getD [])[i]),.ag (prC true (c.getD [])[i])] (.b true))
  (body:bB) (hb:Hw.body=some body):GoF (b.a4 K) Hw.ntmps body (eS [cU true a,cU true c]) ⟨.nil,0⟩ (gi Hw.results (.b true)):=by
 cases hb;refine W.args fun z=>?_;have H:Has (⟨.nil,0⟩:af) []:=Has.nil;refine ae ?_;refine W.len rfl rfl rfl gR ?_;refine ae ?_;refine W.len rfl rfl rfl gR ?_;refine ae ?_;refine GoF.block (GoF.loop (fun k F U=>∃j,j+k=(a.getD []).length∧sat [(0,cU true a),(1,cU true c),(5,ay j)] F) (fun k F U aZ=>?_) (a.getD []).length ⟨0,by omega,rfl,rfl,rfl,trivial⟩);obtain⟨j,az,aX⟩:=aZ;refine GoF.norm _ aX fun F=>?_;clear aX;have H:Has U []:=Has.nil;by_cases bS:j<(a.getD []).length
 ·have m4:j<(c.getD []).length:=by omega
  refine ae ?_;refine W.len rfl rfl rfl gR ?_;refine ae ?_;refine W.cw rfl rfl rfl rfl (nC bS) ?_;refine ae ?_
  try (refine W.iG (ad:=(some 8)) rfl rfl rfl (rfl) ?_;refine ae ?_)
  refine W.cw rfl rfl rfl rfl (nC m4) ?_;refine ae ?_
  try (refine W.iG (ad:=(some 8)) rfl rfl rfl (rfl) ?_;refine ae ?_)
  refine W.cg hfn e (cl j bS m4) rfl rfl rfl (g9 (aj _ (aS bS) _) (eN _ (aS m4) _)) ?_;refine ae ?_;exact⟨k-1,by omega,j+1,by omega,rfl,rfl,rfl,trivial⟩
 ·refine ae ?_;refine W.len rfl rfl rfl gR ?_;refine ae ?_;refine GoF.exit ?_;show bl _ _ _ _ _ _ _ _;refine ae ?_;exact GoF.ret ⟨rfl,_,cT (cI rfl),rfl⟩
theorem a9G(hfn:∀g aR r bs,K g aR r→K g aR bs→r=bs)(t u:Prf)(h1:t.rule=u.rule)(h2:t.aY=u.aY)
  (aj:∀U:af,bh U (b.aV+1000) (.ag (dG t.form))=some (.ag (dG t.form))) (eN:∀U:af,bh U (b.aV+1000) (.ag (dG u.form))=some (.ag (dG u.form)))
  (qF:∀U:af,bh U (b.aV+1000) (cU true t.bm)=some (cU true t.bm)) (lY:∀U:af,bh U (b.aV+1000) (cU true u.bm)=some (cU true u.bm))
  (e:b.ext rS=0∧b.pure rS=true) (cl:K rS [.ag (dG t.form),.ag (dG u.form)] (.b true))
  (e2:b.ext yb=0∧b.pure yb=true) (jo:K yb [cU true t.bm,cU true u.bm] (.b true))
  (dn:b.ext yc=0∧b.pure yc=true) (DL:K yc [cO true t.cv,cO true u.cv] (.b true))
  (body:bB) (hb:Hf.body=some body):GoF (b.a4 K) Hf.ntmps body (eS [.ag (prC true t),.ag (prC true u)]) ⟨.nil,0⟩ (gi Hf.results (.b true)):=by
 cases hb;have aP:∀p:Prf,(AV.ag (prC true p)).cells=prC true p∧(AV.ag (prC true p)).val=true:=fun p=>by
  obtain⟨r,f,l,s,m⟩:=p;obtain⟨J,yn,aR,n7⟩:=f;cases s<;>cases m<;>cases aR<;>cases n7<;>exact⟨rfl,rfl⟩
 refine W.args fun z=>?_;have H:Has (⟨.nil,0⟩:af) []:=Has.nil;refine ae ?_;refine W.en (c:=prC true t) H rfl rfl rfl rfl (aP t).2 (aP t).1 fun U cG H bE=>?_;refine ae ?_;refine W.en (c:=prC true u) H cG rfl rfl rfl (aP u).2 (aP u).1 fun bd n2 H br=>?_;refine ae ?_;refine W.bin (v:=.b true) rfl rfl rfl rfl (by rw[h1];show some (AV.b (eqL u.rule u.rule))=_;rw[uE]) ?_;refine ae ?_;refine W.cg hfn e cl rfl rfl rfl (g9 (aj _) (eN _)) ?_;refine ae ?_;refine W.bin (v:=.b true) rfl rfl rfl rfl (by rw[h2];exact a9B _) ?_;refine ae ?_;refine W.cg hfn e2 jo rfl rfl rfl (g9 (qF _) (lY _)) ?_;refine ae ?_;refine W.cg hfn dn DL rfl rfl rfl (g9 (At (k:=b.aV+997) _ _) (At (k:=b.aV+997) _ _)) ?_;refine ae ?_;exact GoF.ret ⟨rfl,_,cT (cI rfl),rfl⟩
theorem a9H(hfn:∀g aR r bs,K g aR r→K g aR bs→r=bs)(t:Prf)
  (aj:∀U:af,bh U (b.aV+1000) (.ag (dG t.form))=some (.ag (dG t.form))) (qF:∀U:af,bh U (b.aV+1000) (cU true t.bm)=some (cU true t.bm))
  (e:b.ext rU=0∧b.pure rU=true) (cl:K rU [.ag (dG t.form)] (.ag (jW t.form.nz)))
  (e2:b.ext x8=0∧b.pure x8=true) (jo:K x8 [cU true t.bm] (cU false t.nz.bm))
  (dn:b.ext x9=0∧b.pure x9=true) (DL:K x9 [cO true t.cv] (cO false t.nz.cv))
  (body:bB) (hb:jF.body=some body):GoF (b.a4 K) jF.ntmps body (eS [.ag (prC true t)]) ⟨.nil,0⟩ (gi jF.results (.ag (prC false t.nz))):=by
 cases hb;have aP:∀p:Prf,(AV.ag (prC true p)).cells=prC true p∧(AV.ag (prC true p)).val=true:=fun p=>by
  obtain⟨r,f,l,s,m⟩:=p;obtain⟨J,yn,aR,n7⟩:=f;cases s<;>cases m<;>cases aR<;>cases n7<;>exact⟨rfl,rfl⟩
 refine W.args fun z=>?_;have H:Has (⟨.nil,0⟩:af) []:=Has.nil;refine ae ?_;refine W.en (c:=prC true t) H rfl rfl rfl rfl (aP t).2 (aP t).1 fun U cG H bE=>?_;refine ae ?_;refine W.bN (c:=[.s [],.i .u8 0,.s [],.aB,.aB,zI 0,.aB,.aB]) H cG rfl rfl rfl fun bd n2 H br=>?_;refine ae ?_;refine W.cg hfn e cl rfl rfl rfl (gO (aj _)) ?_;refine ae ?_;have aM:(.ag (prC false t.nz):AV)= .ag [.s t.rule,.i .u8 (Int.ofNat t.form.nz.op),.s t.form.nz.name,cN false t.form.nz.c3,dz false t.form.nz.bm,zI t.aY,cU false t.nz.bm,cO false t.nz.cv]:=by
  show AV.ag _=_;rw[Prf.hd];rfl
 rw[aM];clear aM cl;obtain⟨k1,a9I⟩:=a9C t.form.nz;refine W.st (aQ:=[.s t.rule,.i .u8 (Int.ofNat t.form.nz.op),.s t.form.nz.name,cN false t.form.nz.c3,dz false t.form.nz.bm,zI t.aY,cU true t.bm,cO true t.cv]) H 1 rfl rfl rfl rfl a9I (by rw[k1];rfl) fun bG eh H bb=>?_;refine ae ?_;refine W.cg hfn e2 jo rfl rfl rfl (gO (qF _)) ?_;refine ae ?_;have d2:=Ir false t.nz.bm;refine W.st (aQ:=[.s t.rule,.i .u8 (Int.ofNat t.form.nz.op),.s t.form.nz.name,cN false t.form.nz.c3,dz false t.form.nz.bm,zI t.aY,cU false t.nz.bm,cO true t.cv]) H 1 rfl rfl rfl rfl d2.2 (by rw[d2.1];rfl) fun cA gU H cm=>?_;refine ae ?_;refine W.cg hfn dn DL rfl rfl rfl (gO (At (k:=b.aV+997) _ _)) ?_;refine ae ?_;have d3:=Iq false t.nz.cv;refine W.st (aQ:=[.s t.rule,.i .u8 (Int.ofNat t.form.nz.op),.s t.form.nz.name,cN false t.form.nz.c3,dz false t.form.nz.bm,zI t.aY,cU false t.nz.bm,cO false t.nz.cv]) H 1 rfl rfl rfl rfl d3.2 (by rw[d3.1];rfl) fun dk h7 H dN=>?_;refine ae ?_;have a0:∀p:Prf,(AV.ag (prC false p)).cells=prC false p∧conf (some 8) (.ag (prC false p))=true:=fun p=>by
  obtain⟨r,f,l,s,m⟩:=p;obtain⟨J,yn,aR,n7⟩:=f;cases s<;>cases m<;>cases aR<;>cases n7<;>exact⟨rfl,rfl⟩
 have kq:[AV.s t.rule,.i .u8 (Int.ofNat t.form.nz.op),.s t.form.nz.name,cN false t.form.nz.c3,dz false t.form.nz.bm,zI t.aY,cU false t.nz.bm,cO false t.nz.cv]=prC false t.nz:=by
  rw[Prf.hd];rfl
 rw[kq] at H;refine W.st (aQ:=prC false t.nz) (v:=.ag (prC false t.nz)) H 0 rfl rfl rfl (by rw[←kq];rfl) (a0 _).2 (by rw[(a0 _).1];rfl) fun oh sQ H k7=>?_;refine ae ?_;refine GoF.ret ⟨rfl,_,cT (fR rfl (H.get _ (.head _)) rfl),?_⟩;rw[kq];exact Vg (n:=998) _
end
abbrev b2(I aq:af):Prop:=I.next≤aq.next∧∀i J,I.get i=some J→aq.get i=some J
theorem b2.refl{I:af}:b2 I I:=⟨o _,fun _ _ h=>h⟩
theorem b2.trans{I U Vh:af}(h:b2 I U)(h':b2 U Vh):b2 I Vh:=⟨l_ h.1 h'.1,fun i J a=>h'.2 i J (h.2 i J a)⟩
abbrev nD(n:Nat):AV:=zI ((n:Int)-1)
theorem yo(n:Nat):nD (n+1)=ay n:=by
 show AV.i .i64 _=AV.i .i64 _
 congr 1
 show((n+1:Nat):Int)-1=(n:Int);omega
theorem It{n:Nat}(h:n<2^62):binop .sub (ay n) (ay 1)=some (nD n):=by
 cases n with
 |zero=>rfl
 |succ n=>rw[G2 (by omega) (by omega),yo];rfl
def flatB:Nat→Fm→Bool
 |0,_=>false
 |n+1,f=>decide (f.sub.length≤2∧f.args.length≤2)&&(f.args.all (fun t=>decide (t.args.length=0))&&f.sub.all (flatB n))
section
variable {b:dW}{K:Nat→List AV→AV→Prop}(hfn:∀g aR r bs,K g aR r→K g aR bs→r=bs)
include hfn
theorem a9J(n:Nat)(hn:n<2^20)(t:Fm)(hl1:t.args.length<2^62)(hl2:t.sub.length<2^62)(Au:∀u∈t.args,u.args.length<2^62)(eN:∀u∈t.sub,∀U:af,bh U (b.aV+1000) (.ag (dG u))=some (.ag (dG u)))(e:b.ext ny=0∧b.pure ny=true)(cl:∀m,n=m+1→∀u∈t.sub,K ny [.ag (dG u),nD m] (.b (flatB m u)))
  (body:bB) (hb:HN.body=some body):GoF (b.a4 K) HN.ntmps body (eS [.ag (dG t),nD n]) ⟨.nil,0⟩ (gi HN.results (.b (flatB n t))):=by
 cases hb;refine W.args fun z=>?_;have H:Has (⟨.nil,0⟩:af) []:=Has.nil;refine ae ?_;refine W.en (c:=dG t) H rfl rfl rfl rfl rfl rfl fun fZ cG iJ bE=>?_;have H:=iJ;refine ae ?_;cases n with
 |zero=>
  refine W.bin (v:=.b true) rfl rfl rfl rfl rfl ?_;refine ae ?_;exact GoF.ret ⟨rfl,_,cT (cI rfl),rfl⟩
 |succ m=>
 rw[yo];have cl:=cl m rfl;have aV:∀ {U:af},flatB (m+1) t=false→freeze U 0 1000 (.b false)=some (.b (flatB (m+1) t)):=fun h1=>by rw[h1];rfl
 refine ae ?_;refine W.len rfl rfl rfl v5 ?_;by_cases cQ:2<t.sub.length
 ·have L4:2<(t.bm.getD []).length:=cQ;refine ae ?_;exact GoF.ret ⟨rfl,_,cT (cI rfl),aV (by rw[flatB,decide_eq_false (by omega)];rfl)⟩
 have L4:¬ 2<(t.bm.getD []).length:=cQ;refine ae ?_;refine W.len rfl rfl rfl uG ?_;by_cases eA:2<t.args.length
 ·have GI:2<(t.c3.getD []).length:=eA;refine ae ?_;exact GoF.ret ⟨rfl,_,cT (cI rfl),aV (by rw[flatB,decide_eq_false (by omega)];rfl)⟩
 have GI:¬ 2<(t.c3.getD []).length:=eA;refine ae ?_;refine W.len rfl rfl rfl uG ?_;refine ae ?_;have au:flatB (m+1) t=(t.args.all (fun t=>decide (t.args.length=0))&&t.sub.all (flatB m)):=by rw[flatB,decide_eq_true ⟨by omega,by omega⟩,jU]
 refine GoF.each t.args.length (fun j f U=>b2 fZ U∧(t.args.take j).all (fun t=>decide (t.args.length=0))=true∧sat [(1,ay m),(2,bo 0),(24,cN true t.c3)] f) hl1 ⟨⟨o _,fun _ _ h=>h⟩,rfl,rfl,rfl,rfl,trivial⟩ rfl rfl (fun j g U az aZ hi hm=>?_) (fun g U aZ hi=>?_)
 ·obtain⟨M,dJ,aX⟩:=aZ;refine GoF.norm ((26,ay j)::(25,ay t.args.length)::[(1,ay m),(2,bo 0),(24,cN true t.c3)]) ⟨hi,hm,aX⟩ fun g=>?_;have H:=iJ.aF M.2;have cP:=aS az;have cV:=fG az;refine ae ?_;refine W.cw rfl rfl rfl rfl (G7 az) ?_;rw[nA];refine ae ?_;have hx:=Au _ cP;have cj:(t.c3.getD [])[j]=t.args[j]:=rfl;rw[cj];generalize t.args[j]=x at hx cP cV;refine W.mv (k:=U.next) (c:=dK true x) H rfl rfl rfl rfl rfl rfl rfl fun bd n2 H br=>?_;refine ae ?_;refine W.len rfl rfl rfl uG ?_;have ex:(x.c3.getD []).length=x.args.length:=rfl;by_cases bw:0<x.args.length
  ·refine ae ?_;refine GoF.ret ⟨rfl,_,cT (cI rfl),aV ?_⟩;rw[au,vj.2 ⟨x,cP,by rw[decide_eq_false (by omega)];simp⟩];rfl
  ·refine o2 ?_;refine W.nil (W.uI rfl (W.v8 ?_));refine⟨rfl,rfl,b2.trans M ⟨by omega,fun i J h=>br i J h⟩,?_,rfl,rfl,rfl,trivial⟩;rw[cV,w2,dJ,sn,decide_eq_true (by omega)];rfl
 ·obtain⟨M,dJ,aX⟩:=aZ;rw[h_] at dJ;rw[dJ,jU] at au;show bl _ _ _ _ _ _ _ _;refine GoF.norm [(1,ay m),(2,bo 0)] (by obtain⟨aP,a0,_⟩:=aX;exact⟨aP,a0,trivial⟩) fun g=>?_;have H:=iJ.aF M.2;refine ae ?_;refine W.len rfl rfl rfl v5 ?_;refine ae ?_;refine GoF.each t.sub.length (fun j f U=>b2 fZ U∧(t.sub.take j).all (flatB m)=true∧sat [(1,ay m),(2,bo 0),(36,dz true t.bm)] f) hl2 ⟨M,rfl,rfl,rfl,rfl,trivial⟩ rfl rfl (fun j g U az aZ hi hm=>?_) (fun g U aZ hi=>?_)
  ·obtain⟨M,dJ,aX⟩:=aZ;refine GoF.norm ((38,ay j)::(37,ay t.sub.length)::[(1,ay m),(2,bo 0),(36,dz true t.bm)]) ⟨hi,hm,aX⟩ fun g=>?_;have H:=iJ.aF M.2;have cP:=aS az;have cV:=fG az;refine ae ?_;refine W.cw rfl rfl rfl rfl (G8 az) ?_;rw[uL];refine ae ?_;have cj:(t.bm.getD [])[j]=t.sub[j]:=rfl;rw[cj];generalize t.sub[j]=x at cP cV;refine W.mv (k:=U.next) (c:=dG x) H rfl rfl rfl rfl rfl rfl rfl fun bd n2 H br=>?_;refine ae ?_;refine W.bin (v:=nD m) rfl rfl rfl rfl (It (by omega)) ?_;refine ae ?_;refine W.cg hfn e (cl _ cP) rfl rfl rfl (g9 (eN _ cP _) rfl) ?_;refine ae ?_;cases hf:flatB m x with
   |false=>
    refine ae ?_;refine GoF.ret ⟨rfl,_,cT (cI rfl),aV ?_⟩;rw[au,vj.2 ⟨x,cP,by rw[hf];simp⟩]
   |true=>
    refine ae ?_;refine⟨rfl,rfl,b2.trans M ⟨by omega,fun i J h=>br i J h⟩,?_,rfl,rfl,rfl,trivial⟩;rw[cV,w2,dJ,sn,hf];rfl
  ·obtain⟨M,dJ,aX⟩:=aZ;rw[h_] at dJ;rw[dJ] at au;show bl _ _ _ _ _ _ _ _;have H:=iJ.aF M.2;refine GoF.norm [(1,ay m)] (by obtain⟨aP,_⟩:=aX;exact⟨aP,trivial⟩) fun g=>?_;refine ae ?_;exact GoF.ret ⟨rfl,_,cT (cI rfl),by rw[au];rfl⟩
end
mutual
def Prf.pre:Prf→List Prf
 | .mk r f l none m=>[.mk r f l none m]
 | .mk r f l (some s) m=>.mk r f l (some s) m::Prf.pres s
def Prf.pres:List Prf→List Prf
 |[]=>[]
 |p::l=>p.pre++Prf.pres l
end
theorem Prf.DM:∀l:List Prf,Prf.pres l=l.flatMap Prf.pre
 |[]=>by rw[Prf.pres];rfl
 |p::l=>by rw[Prf.pres,Prf.DM l];rfl
theorem Prf.gB(p:Prf):p.pre=p::p.sub.flatMap Prf.pre:=by
 obtain⟨r,f,l,s,m⟩:=p;cases s with
 |none=>rw[Prf.pre];rfl
 |some s=>rw[Prf.pre,Prf.DM];rfl
theorem Prf.oi(p:Prf):p∈p.pre:=by rw[Prf.gB];exact .head _
theorem Prf.pS{p q x:Prf}(h:q∈p.sub)(hx:x∈q.pre):x∈p.pre:=by
 rw[Prf.gB];exact .tail _ (gP.2 ⟨q,h,hx⟩)
mutual
def Prf.cJ:Prf→Nat
 | .mk _ _ _ none _=>1
 | .mk _ _ _ (some s) _=>Prf.hX s+1
def Prf.hX:List Prf→Nat
 |[]=>0
 |p::l=>max p.cJ (Prf.hX l)
end
theorem Prf.tm(p:Prf):p.cJ=Prf.hX p.sub+1:=by
 obtain⟨r,f,l,s,m⟩:=p;cases s with
 |none=>rw[Prf.cJ];show 1=Prf.hX []+1;rw[Prf.hX]
 |some s=>rw[Prf.cJ];rfl
theorem Prf.Iu:∀ {l:List Prf} {p:Prf},p∈l→p.cJ≤Prf.hX l
 |g::l,p,h=>by
  rw[Prf.hX];rcases cH.1 h with rfl|h
  ·omega
  ·have:=Prf.Iu h;omega
theorem Prf.Av{n:Nat}:∀ {l:List Prf},(∀p∈l,p.cJ≤n)→Prf.hX l≤n
 |[],_=>by rw[Prf.hX];omega
 |g::l,h=>by
  rw[Prf.hX];have:=h g (.head _);have:=Prf.Av fun p hp=>h p (.tail _ hp);omega
theorem Prf.my{p q:Prf}(h:q∈p.sub):q.cJ<p.cJ:=by rw[Prf.tm p];have:=Prf.Iu h;omega
abbrev Prf.cnt(p:Prf):Nat:=p.pre.length
abbrev Prf.l2(l:List Prf):Nat:=(l.flatMap Prf.pre).length
theorem Prf.uN(p:Prf):p.cnt=Prf.l2 p.sub+1:=by show p.pre.length=_;rw[Prf.gB];rfl
theorem Prf.Iv{l:List Prf}{j:Nat}(h:j<l.length):Prf.l2 (l.take (j+1))=Prf.l2 (l.take j)+(l[j]).cnt:=by
 show((l.take (j+1)).flatMap Prf.pre).length=_;rw[fG h,il,cR,eG,y_,fV]
def tn(x:Prf):Prop:=x.sub.length≤10∧x.aG.length≤10∧flatB 7 x.form=true∧∀l∈x.aG,(l.getD []).length≤10
structure qT(b:dW)(x:Prf):Prop where
 sub:x.sub.length<2^62
 aG:x.aG.length<2^62
 Iw:∀l∈x.aG,(l.getD []).length<2^62
 yp:∀U:af,bh U (b.aV+1000) (.ag (dG x.form))=some (.ag (dG x.form))
theorem dQ(J:Bool)(p:Prf):(AV.ag (prC J p)).val=true∧(AV.ag (prC J p)).cells=prC J p∧conf (some 8) (.ag (prC J p))=true:=by
 obtain⟨r,f,l,s,m⟩:=p;obtain⟨J,yn,aR,n7⟩:=f;cases s<;>cases m<;>cases aR<;>cases n7<;>exact⟨rfl,rfl,rfl⟩
section
variable {b:dW}{K:Nat→List AV→AV→Prop}(hfn:∀g aR r bs,K g aR r→K g aR bs→r=bs)
include hfn
theorem a9K(hh:cY (b.a4 K) Dy Hz)(e:b.ext ny=0∧b.pure ny=true)(c:Nat):∀(n:Nat) (p:Prf) (m:Nat) {I:af},n<2^20→m<2^20→(∀x∈p.pre,qT b x)→(∀x∈p.pre,K ny [.ag (dG x.form),ay 6] (.b (flatB 7 x.form)))→I.get c=some (.cells [ay m])→
  b9 (b.a4 K) 0 (.f (.func Dy) [] []) [.ag (prC true p),nD n,bo c] I (fun r U=>∃cE,r= .ok (.b cE)∧(cE=true→(∀x∈p.pre,tn x)∧p.cJ≤n∧∃aH,m=aH+p.cnt∧U.get c=some (.cells [ay aH]))∧I.next≤U.next∧∀i J,i≠c→I.get i=some J→U.get i=some J):=by
 intro n
 induction n with
 |zero=>
  intro p m I hn hm c4 cl ah;refine W.code hh.e hh.p hh.f rfl rfl rfl rfl fun z=>?_;have H:Has I [(c,[ay m])]:=Has.nil.cons ah (by simp);refine ae ?_;have bZ:=af.bW ah;generalize aD:I.next=k at *;refine W.en (c:=prC true p) H aD rfl rfl rfl (dQ true p).1 (dQ true p).2.1 fun fZ cG H bE=>?_;refine ae ?_;refine W.bin (v:=nD m) rfl rfl rfl rfl (It (by omega)) ?_;refine ae ?_;refine W.st (aQ:=[nD m]) H 1 rfl rfl rfl rfl rfl rfl fun b1 n2 H br=>?_;refine ae ?_;have ca:∀i J,i≠c→I.get i=some J→b1.get i=some J:=fun i J hi ab=>br _ _ hi (bE _ _ ab);cases m with
  |zero=>
   refine W.bin (v:=.b true) rfl rfl rfl rfl rfl ?_;refine ae ?_;exact GoF.ret ⟨rfl,false,rfl,fun h=>(by cases h),by omega,ca⟩
  |succ m=>
   rw[yo];refine ae ?_;refine W.bin (v:=.b true) rfl rfl rfl rfl rfl ?_;refine ae ?_;exact GoF.ret ⟨rfl,false,rfl,fun h=>(by cases h),by omega,ca⟩
 |succ n aA=>
  intro p m I hn hm c4 cl ah;rw[yo];refine W.code hh.e hh.p hh.f rfl rfl rfl rfl fun z=>?_;have H:Has I [(c,[ay m])]:=Has.nil.cons ah (by simp);refine ae ?_;have bZ:=af.bW ah;generalize aD:I.next=k at *;refine W.en (c:=prC true p) H aD rfl rfl rfl (dQ true p).1 (dQ true p).2.1 fun fZ cG H bE=>?_;refine ae ?_;refine W.bin (v:=nD m) rfl rfl rfl rfl (It (by omega)) ?_;refine ae ?_;refine W.st (aQ:=[nD m]) H 1 rfl rfl rfl rfl rfl rfl fun b1 n2 H br=>?_;refine ae ?_;have ca:∀i J,i≠c→I.get i=some J→b1.get i=some J:=fun i J hi ab=>br _ _ hi (bE _ _ ab);cases m with
  |zero=>
   refine W.bin (v:=.b true) rfl rfl rfl rfl rfl ?_;refine ae ?_;exact GoF.ret ⟨rfl,false,rfl,fun h=>(by cases h),by omega,ca⟩
  |succ m=>
  rw[yo] at H ⊢;have tp:=c4 p p.oi;have M_:=tp.sub;have DN:=tp.aG;have es:(p.bm.getD []).length=p.sub.length:=rfl;have em:(p.cv.getD []).length=p.aG.length:=rfl;refine ae ?_;refine W.len rfl rfl rfl gR ?_;by_cases iS:10<p.sub.length
  ·refine ae ?_;exact GoF.ret ⟨rfl,false,rfl,fun h=>(by cases h),by omega,ca⟩
  refine ae ?_;refine W.len rfl rfl rfl kc ?_;by_cases iT:10<p.aG.length
  ·refine ae ?_;exact GoF.ret ⟨rfl,false,rfl,fun h=>(by cases h),by omega,ca⟩
  refine ae ?_;refine W.cg hfn e (cl p p.oi) rfl rfl rfl (g9 (tp.yp _) rfl) ?_;refine ae ?_;cases k2:flatB 7 p.form with
  |false=>
   refine ae ?_;exact GoF.ret ⟨rfl,false,rfl,fun h=>(by cases h),by omega,ca⟩
  |true=>
  refine ae ?_;refine W.len rfl rfl rfl kc ?_;refine ae ?_;have iJ:=H;refine GoF.each p.aG.length (fun j f U=>b2 b1 U∧(∀l∈p.aG.take j,(l.getD []).length≤10)∧sat [(1,ay n),(2,bo c),(3,bo k),(43,cO true p.cv)] f) DN ⟨b2.refl,fun l ar=>by simp at ar,rfl,rfl,rfl,rfl,trivial⟩ rfl rfl (fun j g U az aZ hi hm=>?_) (fun g U aZ hi=>?_)
  ·obtain⟨M,dJ,aX⟩:=aZ;refine GoF.norm ((45,ay j)::(44,ay p.aG.length)::[(1,ay n),(2,bo c),(3,bo k),(43,cO true p.cv)]) ⟨hi,hm,aX⟩ fun g=>?_;have H:=iJ.aF M.2;have cP:=aS az;have cV:=fG az;refine ae ?_;refine W.cw rfl rfl rfl rfl (pR az) ?_;refine ae ?_;have cj:(p.cv.getD [])[j]=p.aG[j]:=rfl;rw[cj];have hx:=tp.Iw _ cP;generalize p.aG[j]=x at cP cV hx
   try (refine W.iG (ad:=none) rfl rfl rfl (iI _ _).2 ?_;refine ae ?_)
   refine W.len rfl rfl rfl ly ?_;by_cases py:10<(x.getD []).length
   ·refine ae ?_;exact GoF.ret ⟨rfl,false,rfl,fun h=>(by cases h),by have:=M.1;omega,fun i J hi ab=>M.2 _ _ (ca i J hi ab)⟩
   ·refine o2 ?_;refine W.nil (W.uI rfl (W.v8 ?_));refine⟨rfl,rfl,M,fun l ar=>?_,rfl,rfl,rfl,rfl,trivial⟩;rw[cV] at ar;rcases dE.1 ar with ar|ar
    ·exact dJ l ar
    ·rw[d_.1 ar];omega
  ·obtain⟨M,dJ,aX⟩:=aZ;rw[h_] at dJ;show bl _ _ _ _ _ _ _ _;refine GoF.norm [(1,ay n),(2,bo c),(3,bo k)] (by obtain⟨aP,a0,bF,_⟩:=aX;exact⟨aP,a0,bF,trivial⟩) fun g=>?_;have H:=iJ.aF M.2;refine ae ?_;refine W.len rfl rfl rfl gR ?_;refine ae ?_;have ca:∀i J,i≠c→I.get i=some J→U.get i=some J:=fun i J hi ab=>M.2 _ _ (ca i J hi ab);have rY:I.next≤U.next:=by have:=M.1;omega
   have Aw:U.get k=some (.cells (prC true p)):=H.get _ (.head _);refine GoF.each p.sub.length (fun j f U=>∃aH,m=aH+Prf.l2 (p.sub.take j)∧U.get c=some (.cells [ay aH])∧U.get k=some (.cells (prC true p))∧I.next≤U.next∧(∀i J,i≠c→I.get i=some J→U.get i=some J)∧(∀q∈p.sub.take j,(∀x∈q.pre,tn x)∧q.cJ≤n)∧k<U.next∧sat [(1,ay n),(2,bo c),(3,bo k),(54,cU true p.bm)] f) M_ ⟨m,by simp,H.get _ (.tail _ (.head _)),Aw,rY,ca,fun q hq=>by simp at hq,af.bW Aw,rfl,rfl,rfl,rfl,trivial⟩ rfl rfl (fun j g U az aZ hi hm=>?_) (fun g U aZ hi=>?_)
   ·obtain⟨aH,oJ,gc,Aw,mm,ca,dJ,xE,aX⟩:=aZ;refine GoF.norm ((56,ay j)::(55,ay p.sub.length)::[(1,ay n),(2,bo c),(3,bo k),(54,cU true p.bm)]) ⟨hi,hm,aX⟩ fun g=>?_;have H:Has U [(k,prC true p),(c,[ay aH])]:=(Has.nil.cons gc (by simp)).cons Aw (by simp;omega);have cP:=aS az;have cV:=fG az;have DO:=Prf.Iv az;refine ae ?_;refine W.cw rfl rfl rfl rfl (nC az) ?_;refine ae ?_;have cj:(p.bm.getD [])[j]=p.sub[j]:=rfl;rw[cj];generalize p.sub[j]=x at cP cV DO;refine W.mv (k:=U.next) (c:=prC true x) H rfl rfl rfl (dQ true x).2.2 (dQ true x).2.1 rfl rfl fun bd n2 H br=>?_;refine ae ?_;refine W.bin (v:=nD n) rfl rfl rfl rfl (It (by omega)) ?_;refine ae ?_;refine W.dX rfl rfl rfl (aA x aH (by omega) (by omega) (fun y aw=>c4 y (Prf.pS cP aw)) (fun y aw=>cl y (Prf.pS cP aw)) (H.get _ (.tail _ (.tail _ (.head _))))) fun r bG ⟨cE,dA,qq,eh,bb⟩=>⟨_,dA,?_⟩
    refine ae ?_;cases cE with
    |false=>
     refine ae ?_;exact GoF.ret ⟨rfl,false,rfl,fun h=>(by cases h),by omega,fun i J hi ab=>bb _ _ hi (br _ _ (ca i J hi ab))⟩
    |true=>
     refine ae ?_;obtain⟨aP,a0,g8,vN,b4⟩:=qq rfl;refine⟨rfl,rfl,g8,by omega,b4,bb _ _ (by omega) (br _ _ Aw),by omega,fun i J hi ab=>bb _ _ hi (br _ _ (ca i J hi ab)),fun q hq=>?_,by omega,rfl,rfl,rfl,rfl,trivial⟩;rw[cV] at hq;rcases dE.1 hq with hq|hq
     ·exact dJ q hq
     ·rw[d_.1 hq];exact⟨aP,a0⟩
   ·obtain⟨aH,oJ,gc,Aw,mm,ca,hall,xE,aX⟩:=aZ;rw[h_] at oJ hall;show bl _ _ _ _ _ _ _ _;refine GoF.norm [] trivial fun g=>?_;have H:Has U []:=Has.nil;refine ae ?_;refine GoF.ret ⟨rfl,true,rfl,fun _=>⟨fun x hx=>?_,?_,aH,?_,gc⟩,by omega,ca⟩
    ·rw[Prf.gB] at hx;rcases cH.1 hx with rfl|hx
     ·exact⟨by omega,by omega,k2,dJ⟩
     ·obtain⟨q,hq,hx⟩:=gP.1 hx;exact(hall q hq).1 x hx
    ·rw[Prf.tm];have:=Prf.Av fun q hq=>(hall q hq).2;omega
    ·rw[Prf.uN];omega
end
theorem W.a9L{b0:lv}{env:Env}{aI:Option Nat}{D:List (Nat ⊕ (AV×List AV))}{n:Nat}{F:List (Nat×AV)}{z:Nat→AV}{I:af}{Q:e5}{d:Nat}{x y:aC}{g:Option (Nat×Bool)}{ops:List a1}{a c:Nat}(au:Nat.blt d n=true)(hw:wtL g n F=true)(h1:cq env n F z x=some (ay a))(h2:cq env n F z y=some (ay c))(h:bL b0 env aI D n ops (bC ((d,ay (max a c))::F) z) I Q):bL b0 env aI D n (⟨some d,.lO true x y,g,[]⟩::ops) (bC F z) I Q:=by
 refine W.val (v:=ay (max a c)) (aq:=I) au hw ?_ h;show(match cq env n F z x,cq env n F z y with|some (.i k a),some (.i l b)=>if k=l then some (bq.val (.i k (if b > a then b else a)) I) else none|some (.fo n),some (.i .i64 (.ofNat j))=>cond (Bool.not true&&Nat.ble j n) (some (.val (.i .i64 (Int.ofNat j)) I)) none|some (.i .i64 (.ofNat j)),some (.fo n)=>cond (Bool.not true&&Nat.ble j n) (some (.val (.i .i64 (Int.ofNat j)) I)) none|_,_=>none)=_;rw[h1,h2];show(if IntKind.i64=IntKind.i64 then some (bq.val (.i .i64 (if(c:Int) > (a:Int) then(c:Int) else(a:Int))) I) else none)=_;rw[if_pos rfl];have:(if(c:Int) > (a:Int) then(c:Int) else(a:Int))=((max a c:Nat):Int):=by split<;>omega
 rw[this];rfl
def rZ(p:Prf):Bool:=decide (p.cnt≤60∧p.cJ≤13)||(decide (300<p.cnt)||decide (41<p.cJ))
theorem Prf.m5(p:Prf):1≤p.cJ:=by rw[Prf.tm];omega
section
variable {b:dW}{K:Nat→List AV→AV→Prop}(hfn:∀g aR r bs,K g aR r→K g aR bs→r=bs)
include hfn
theorem a9M(p:Prf)(at_:Nat)(h1:p.cnt<2^20)(h2:at_+p.cJ<2^20)(ar:p.sub.length<2^62)(aj:∀u∈p.sub,∀U:af,bh U (b.aV+1000) (.ag (prC true u))=some (.ag (prC true u)))
  (e:b.ext s8=0∧b.pure s8=true) (cl:∀u∈p.sub,K s8 [.ag (prC true u),ay (at_+1)] (.bJ [ay u.cnt,ay (at_+u.cJ)]))
  (body:bB) (hb:Hg.body=some body):GoF (b.a4 K) Hg.ntmps body (eS [.ag (prC true p),ay at_]) ⟨.nil,0⟩ (gi Hg.results (.bJ [ay p.cnt,ay (at_+p.cJ-1)])):=by
 cases hb;refine W.args fun z=>?_;have H:Has (⟨.nil,0⟩:af) []:=Has.nil;refine ae ?_;refine W.en (c:=prC true p) H rfl rfl rfl rfl (dQ true p).1 (dQ true p).2.1 fun fZ cG H bE=>?_;refine ae ?_;refine W.len rfl rfl rfl gR ?_;refine ae ?_;have iJ:=H;have es:(p.bm.getD []).length=p.sub.length:=rfl;have m6:=p.uN;have el:=p.tm;refine GoF.each p.sub.length (fun j f U=>b2 fZ U∧sat [(1,ay at_),(2,bo 0),(6,ay (Prf.l2 (p.sub.take j)+1)),(7,ay (at_+Prf.hX (p.sub.take j))),(14,cU true p.bm)] f) ar ⟨b2.refl,rfl,rfl,by show ay 1=ay _;simp,by show ay at_=ay _;rw[F2,Prf.hX];rfl,rfl,trivial⟩ rfl rfl (fun j g U az aZ hi hm=>?_) (fun g U aZ hi=>?_)
 ·obtain⟨M,aX⟩:=aZ;refine GoF.norm ((16,ay j)::(15,ay p.sub.length)::[(1,ay at_),(2,bo 0),(6,ay (Prf.l2 (p.sub.take j)+1)),(7,ay (at_+Prf.hX (p.sub.take j))),(14,cU true p.bm)]) ⟨hi,hm,aX⟩ fun g=>?_;have H:=iJ.aF M.2;have cP:=aS az;have cV:=fG az;have DO:=Prf.Iv az;have hle:Prf.l2 (p.sub.take (j+1))≤Prf.l2 p.sub:=by
   show(List.flatMap _ _).length≤(List.flatMap _ _).length;conv=>rhs;rw[←nf (j+1) p.sub]
   rw[il,cR];omega
  have hC:Prf.hX (p.sub.take (j+1))=max (Prf.hX (p.sub.take j)) (p.sub[j]).cJ:=by
   rw[cV];generalize p.sub.take j=l
   induction l with
   |nil=>show Prf.hX [_]=max (Prf.hX []) _;simp only[Prf.hX];omega
   |cons x l aA=>rw[wF,Prf.hX,Prf.hX,aA];omega
  have uA:=Prf.Iu cP;refine ae ?_;refine W.cw rfl rfl rfl rfl (nC az) ?_;refine ae ?_;have cj:(p.bm.getD [])[j]=p.sub[j]:=rfl;rw[cj];generalize p.sub[j]=x at cP cV DO hC uA;have Ix:Prf.hX (p.sub.take j)≤Prf.hX p.sub:=Prf.Av fun q hq=>Prf.Iu (oy hq);refine W.mv (k:=U.next) (c:=prC true x) H rfl rfl rfl (dQ true x).2.2 (dQ true x).2.1 rfl rfl fun bd n2 H br=>?_;refine ae ?_;refine W.cg hfn e (cl _ cP) rfl rfl rfl (g9 (aj _ cP _) rfl) ?_;refine ae ?_;refine W.a9L rfl rfl rfl rfl ?_;refine ae ?_;refine⟨rfl,rfl,b2.trans M ⟨by omega,fun i J h=>br i J h⟩,rfl,rfl,?_,?_,rfl,trivial⟩
  ·show ay _=ay _
   congr 1;omega
  ·show ay _=ay _
   congr 1;rw[hC];omega
 ·obtain⟨M,bM,b4,n_,GV,_⟩:=aZ;rw[h_] at n_ GV;show bl _ _ _ _ _ _ _ _;refine GoF.norm [(6,ay (Prf.l2 p.sub+1)),(7,ay (at_+Prf.hX p.sub))] ⟨n_,GV,trivial⟩ fun g=>?_;have H:Has U []:=Has.nil;refine ae ?_;refine GoF.ret ⟨rfl,_,jV (cI rfl) (cI rfl),?_⟩;rw[m6,el,show at_+(Prf.hX p.sub+1)-1=at_+Prf.hX p.sub from by omega];rfl
omit hfn in
theorem a9N(hfn:∀g aR r bs,K g aR r→K g aR bs→r=bs)(DP:cY (b.a4 K) HW Mz)(hh:cY (b.a4 K) Dy Hz)(e:b.ext ny=0∧b.pure ny=true)(p:Prf)(c4:∀x∈p.pre,qT b x)(cl:∀x∈p.pre,K ny [.ag (dG x.form),ay 6] (.b (flatB 7 x.form))){I:af}:
  b9 (b.a4 K) 0 (.f (.func HW) [] []) [.ag (prC true p)] I (fun r U=>∃cE,r= .ok (.b cE)∧(cE=true→(∀x∈p.pre,tn x)∧p.cJ≤43∧p.cnt≤320)∧b2 I U):=by
 refine W.code DP.e DP.p DP.f rfl rfl rfl rfl fun z=>?_;have H:Has I []:=Has.nil;refine ae ?_;generalize aD:I.next=k;refine W.en (c:=prC true p) H aD rfl rfl rfl (dQ true p).1 (dQ true p).2.1 fun fZ cG H bE=>?_;refine ae ?_;refine W.bN (c:=[ay 0]) H cG rfl rfl rfl fun b1 n2 H br=>?_;refine ae ?_;refine W.st (aQ:=[ay 320]) H 0 rfl rfl rfl rfl rfl rfl fun bd eh H bb=>?_;refine ae ?_;have aM:(ay 42:AV)=nD 43:=(yo 42).symm;refine W.dX (R:=fun r U=>∃cE,r= .ok (.b cE)∧(cE=true→(∀x∈p.pre,tn x)∧p.cJ≤43∧∃aH,320=aH+p.cnt∧U.get (k+1)=some (.cells [ay aH]))∧bd.next≤U.next∧∀i J,i≠k+1→bd.get i=some J→U.get i=some J) rfl rfl rfl (by
  have:=a9K hfn hh e (k+1) 43 p 320 (I:=bd) (by omega) (by omega) c4 cl (H.get _ (.head _));exact this) fun r bG ⟨cE,dA,qq,gU,cm⟩=>⟨_,dA,?_⟩
 refine ae ?_;refine GoF.ret ⟨rfl,cE,rfl,fun h=>?_,by omega,fun i J ab=>?_⟩
 ·obtain⟨aP,a0,aH,bF,_⟩:=qq h;exact⟨aP,a0,by omega⟩
 ·have:=af.bW ab;exact cm _ _ (by omega) (bb _ _ (by omega) (br _ _ (bE _ _ ab)))
theorem a9O(e3:cY (b.a4 K) Ak hT)(DP:cY (b.a4 K) HW Mz)(hh:cY (b.a4 K) Dy Hz)(e:b.ext ny=0∧b.pure ny=true)(e2:b.ext s8=0∧b.pure s8=true)(p:Prf)(c4:∀x∈p.pre,qT b x)(cl:∀x∈p.pre,K ny [.ag (dG x.form),ay 6] (.b (flatB 7 x.form)))
  (r3:∀U:af,bh U (b.aV+1000) (.ag (prC true p))=some (.ag (prC true p))) (jo:p.cnt<2^20→p.cJ<2^19→K s8 [.ag (prC true p),ay 0] (.bJ [ay p.cnt,ay (p.cJ-1)])) {I:af}:
  b9 (b.a4 K) 0 (.f (.func Ak) [] []) [.ag (prC true p)] I (fun r U=>∃cE,r= .ok (.b cE)∧(cE=true→(∀x∈p.pre,tn x)∧p.cJ≤43∧p.cnt≤320∧rZ p=true)∧b2 I U):=by
 refine W.code e3.e e3.p e3.f rfl rfl rfl rfl fun z=>?_;have H:Has I []:=Has.nil;refine ae ?_;generalize aD:I.next=k;refine W.en (c:=prC true p) H aD rfl rfl rfl (dQ true p).1 (dQ true p).2.1 fun fZ cG H bE=>?_;refine ae ?_;refine W.dX rfl rfl rfl (a9N hfn DP hh e p c4 cl) fun r b1 ⟨cE,dA,qq,lz⟩=>⟨_,dA,?_⟩
 have H:=H.aF lz.2;have M:b2 I b1:=⟨by have:=lz.1;omega,fun i J ab=>lz.2 _ _ (bE _ _ ab)⟩
 cases cE with
 |false=>
  refine ae ?_;exact GoF.ret ⟨rfl,false,rfl,fun h=>(by cases h),M.1,M.2⟩
 |true=>
 obtain⟨aP,a0,bF⟩:=qq rfl;have gd:=p.m5;refine ae ?_;refine W.cg hfn e2 (jo (by omega) (by omega)) rfl rfl rfl (g9 (r3 _) rfl) ?_;refine ae ?_;have out:∀ {f:Nat→AV} {cE:Bool},f 2= .b cE→cE=rZ p→bl (b.a4 K) none [] hT.ntmps .ret f b1 (fun x dq aq=>x= .ret∧∃cE,dM.ok (dq 2)= .ok (.b cE)∧(cE=true→(∀x∈p.pre,tn x)∧p.cJ≤43∧p.cnt≤320∧rZ p=true)∧b2 I aq):=fun {f cE} h1 h2=>
  GoF.ret ⟨rfl,cE,by rw[h1],fun h=>⟨aP,a0,bF,by rw[←h2];exact h⟩,M⟩
 by_cases cQ:p.cnt≤60
 ·refine ae ?_;by_cases eA:p.cJ-1≤12
  ·refine ae ?_;exact out rfl (by unfold rZ;rw[decide_eq_true ⟨cQ,by omega⟩];rfl)
  ·refine ae ?_;by_cases ek:40<p.cJ-1
   ·refine ae ?_;exact out rfl (by unfold rZ;rw[decide_eq_true (show 41<p.cJ from by omega)];simp)
   ·refine ae ?_;exact out rfl (by unfold rZ;rw[decide_eq_false (show ¬ 41<p.cJ from by omega),decide_eq_false (show ¬ 300<p.cnt from by omega),decide_eq_false (fun h=>by omega)];rfl)
 ·refine ae ?_;by_cases hT:300<p.cnt
  ·refine ae ?_;exact out rfl (by unfold rZ;rw[decide_eq_true hT];simp)
  ·refine ae ?_;by_cases ek:40<p.cJ-1
   ·refine ae ?_;exact out rfl (by unfold rZ;rw[decide_eq_true (show 41<p.cJ from by omega)];simp)
   ·refine ae ?_;exact out rfl (by unfold rZ;rw[decide_eq_false (show ¬ 41<p.cJ from by omega),decide_eq_false hT,decide_eq_false (fun h=>by omega)];rfl)
end
def mz(p:Prf)(d:Nat):Bool:=decide (d+p.cJ≤41)&&p.pre.all (fun x=>decide (x.sub.length≤4))
def dH(p:Prf):Bool:=mz p 0&&decide (p.cnt≤300)
theorem a9P(p:Prf)(d:Nat)(h1:d≤40)(h2:p.sub.length≤4):mz p d=p.sub.all (fun q=>mz q (d+1)):=by
 apply oA.2;unfold mz;simp only[cx,decide_eq_true_eq,hP];constructor
 ·rintro⟨aP,a0⟩ q hq;exact⟨by have:=Prf.my hq;omega,fun x hx=>a0 x (Prf.pS hq hx)⟩
 ·intro h;refine⟨?_,fun x hx=>?_⟩
  ·rw[Prf.tm];have:=Prf.Av (n:=40-d) (l:=p.sub) fun q hq=>by have:=(h q hq).1;omega
   omega
  ·rw[Prf.gB] at hx;rcases cH.1 hx with rfl|hx
   ·exact h2
   ·obtain⟨q,hq,hx⟩:=gP.1 hx;exact(h q hq).2 x hx
section
variable {b:dW}{K:Nat→List AV→AV→Prop}(hfn:∀g aR r bs,K g aR r→K g aR bs→r=bs)
include hfn
theorem a9Q(p:Prf)(d:Nat)(au:d<2^20)(ar:p.sub.length<2^62)(aj:∀u∈p.sub,∀U:af,bh U (b.aV+1000) (.ag (prC true u))=some (.ag (prC true u)))
  (e:b.ext te=0∧b.pure te=true) (cl:∀u∈p.sub,d≤40→K te [.ag (prC true u),ay (d+1)] (.b (mz u (d+1))))
  (body:bB) (hb:HG.body=some body):GoF (b.a4 K) HG.ntmps body (eS [.ag (prC true p),ay d]) ⟨.nil,0⟩ (gi HG.results (.b (mz p d))):=by
 cases hb;refine W.args fun z=>?_;have H:Has (⟨.nil,0⟩:af) []:=Has.nil;have es:(p.bm.getD []).length=p.sub.length:=rfl;have aV:∀ {U:af},mz p d=false→freeze U 0 1000 (.b false)=some (.b (mz p d)):=fun h1=>by rw[h1];rfl
 refine ae ?_;refine W.en (c:=prC true p) H rfl rfl rfl rfl (dQ true p).1 (dQ true p).2.1 fun fZ cG H bE=>?_;refine ae ?_;by_cases cQ:40<d
 ·refine ae ?_;exact GoF.ret ⟨rfl,_,cT (cI rfl),aV (by have:=p.m5;unfold mz;rw[decide_eq_false (by omega)];rfl)⟩
 refine ae ?_;refine W.len rfl rfl rfl gR ?_;by_cases eA:4<p.sub.length
 ·refine ae ?_;exact GoF.ret ⟨rfl,_,cT (cI rfl),aV (by unfold mz;rw[vj.2 ⟨p,p.oi,by rw[decide_eq_false (by omega)];simp⟩];simp)⟩
 refine ae ?_;have au:=a9P p d (by omega) (by omega);have iJ:=H;refine GoF.block (GoF.loop (fun k F U=>∃j,j+k=p.sub.length∧U=fZ∧(p.sub.take j).all (fun q=>mz q (d+1))=true∧sat [(1,ay d),(2,bo 0),(5,ay j)] F) (fun k F U aZ=>?_) p.sub.length ⟨0,by omega,rfl,rfl,rfl,rfl,rfl,trivial⟩);obtain⟨j,az,rfl,dJ,aX⟩:=aZ;refine GoF.norm _ aX fun F=>?_;clear aX;have H:=iJ;by_cases bS:j<p.sub.length
 ·refine ae ?_;refine W.len rfl rfl rfl gR ?_;refine ae ?_;refine W.cw rfl rfl rfl rfl (nC bS) ?_;refine ae ?_;have hm:=aS bS;have cV:=fG bS;have cj:(p.bm.getD [])[j]=p.sub[j]:=rfl;rw[cj];generalize p.sub[j]=x at hm cV
  try (refine W.iG (ad:=some 8) rfl rfl rfl (dQ true x).2.2 ?_;refine ae ?_)
  refine W.cg hfn e (cl _ hm (by omega)) rfl rfl rfl (g9 (aj _ hm _) rfl) ?_;refine ae ?_;cases hf:mz x (d+1) with
  |false=>
   refine ae ?_;exact GoF.ret ⟨rfl,_,cT (cI rfl),aV (by rw[au];exact vj.2 ⟨x,hm,by rw[hf];simp⟩)⟩
  |true=>
   refine ae ?_;refine⟨k-1,by omega,j+1,by omega,rfl,?_,rfl,rfl,rfl,trivial⟩;rw[cV,w2,dJ,sn,hf];rfl
 ·refine ae ?_;refine W.len rfl rfl rfl gR ?_;refine ae ?_;refine GoF.exit ?_;show bl _ _ _ _ _ _ _ _;refine ae ?_;have nB:j=p.sub.length:=by omega
  subst nB;rw[h_] at dJ;exact GoF.ret ⟨rfl,_,cT (cI rfl),by rw[au,dJ];rfl⟩
theorem a9R(p:Prf)(ar:p.sub.length<2^62)(aj:∀u∈p.sub,∀U:af,bh U (b.aV+1000) (.ag (prC true u))=some (.ag (prC true u)))
  (e:b.ext tf=0∧b.pure tf=true) (cl:∀u∈p.sub,K tf [.ag (prC true u)] (ay (min u.cnt 301)))
  (body:bB) (hb:Ag.body=some body):GoF (b.a4 K) Ag.ntmps body (eS [.ag (prC true p)]) ⟨.nil,0⟩ (gi Ag.results (ay (min p.cnt 301))):=by
 cases hb;refine W.args fun z=>?_;have H:Has (⟨.nil,0⟩:af) []:=Has.nil;have es:(p.bm.getD []).length=p.sub.length:=rfl;have m6:=p.uN;refine ae ?_;refine W.en (c:=prC true p) H rfl rfl rfl rfl (dQ true p).1 (dQ true p).2.1 fun fZ cG H bE=>?_;refine ae ?_;have iJ:=H;have out:∀ {f:Nat→AV} {U:af} {m:Nat},f 3=ay m→m<2^30→min m 301=min p.cnt 301→bl (b.a4 K) none [] Ag.ntmps (.seq (.seq (.region [⟨some 24,.b6 (.t 3),none,[]⟩,⟨some 25,.bin .gtr (.t 24) (.c (.i .i64 300)),none,[]⟩]) (.cond (.t 25) (.seq (.region [⟨some 2,.b6 (.c (.i .i64 301)),none,[]⟩]) .ret) .skip)) (.seq (.region [⟨some 26,.b6 (.t 3),none,[]⟩,⟨some 2,.b6 (.t 26),none,[]⟩]) .ret)) f U (gi Ag.results (ay (min p.cnt 301))):=fun {f U m} h3 vN hm=>by
  refine GoF.norm [(3,ay m)] ⟨h3,trivial⟩ fun g=>?_;have H:Has U []:=Has.nil;by_cases c:300<m
  ·refine ae ?_;refine GoF.ret ⟨rfl,_,cT (cI rfl),?_⟩;rw[show min p.cnt 301=301 from by omega];rfl
  ·refine ae ?_;refine GoF.ret ⟨rfl,_,cT (cI rfl),?_⟩;rw[show min p.cnt 301=m from by omega];rfl
 refine GoF.block (GoF.loop (fun k F U=>∃j m,j+k=p.sub.length∧U=fZ∧m≤601∧min m 301=min (Prf.l2 (p.sub.take j)+1) 301∧sat [(1,bo 0),(3,ay m),(4,ay j)] F) (fun k F U aZ=>?_) p.sub.length ⟨0,1,by omega,rfl,by omega,by simp,rfl,rfl,rfl,trivial⟩);obtain⟨j,m,az,rfl,c3i,hm,aX⟩:=aZ;refine GoF.norm _ aX fun F=>?_;clear aX;have H:=iJ;by_cases bS:j<p.sub.length
 ·have DO:=Prf.Iv bS;have hle:Prf.l2 (p.sub.take (j+1))≤Prf.l2 p.sub:=by
   show(List.flatMap _ _).length≤(List.flatMap _ _).length;conv=>rhs;rw[←nf (j+1) p.sub]
   rw[il,cR];omega
  refine ae ?_;refine W.len rfl rfl rfl gR ?_;refine ae ?_;by_cases c:m≤300
  ·refine ae ?_;refine W.cw rfl rfl rfl rfl (nC bS) ?_;refine ae ?_;have cP:=aS bS;have cj:(p.bm.getD [])[j]=p.sub[j]:=rfl;rw[cj];generalize p.sub[j]=x at cP DO
   try (refine W.iG (ad:=some 8) rfl rfl rfl (dQ true x).2.2 ?_;refine ae ?_)
   refine W.cg hfn e (cl _ cP) rfl rfl rfl (gO (aj _ cP _)) ?_;refine ae ?_;exact⟨k-1,by omega,j+1,m+min x.cnt 301,by omega,rfl,by omega,by omega,rfl,rfl,rfl,trivial⟩
  ·refine ae ?_;refine GoF.exit ?_;show bl _ _ _ _ _ _ _ _;exact out rfl (by omega) (by omega)
 ·refine ae ?_;refine W.len rfl rfl rfl gR ?_;refine ae ?_;refine GoF.exit ?_;show bl _ _ _ _ _ _ _ _;have nB:j=p.sub.length:=by omega
  subst nB;rw[h_] at hm;exact out rfl (by omega) (by omega)
theorem a9S(p:Prf)(aj:∀U:af,bh U (b.aV+1000) (.ag (prC true p))=some (.ag (prC true p)))
  (e:b.ext te=0∧b.pure te=true) (cl:K te [.ag (prC true p),ay 0] (.b (mz p 0))) (e2:b.ext tf=0∧b.pure tf=true) (jo:K tf [.ag (prC true p)] (ay (min p.cnt 301)))
  (body:bB) (hb:Hp.body=some body):GoF (b.a4 K) Hp.ntmps body (eS [.ag (prC true p)]) ⟨.nil,0⟩ (gi Hp.results (.b (dH p))):=by
 cases hb;refine W.args fun z=>?_;have H:Has (⟨.nil,0⟩:af) []:=Has.nil;refine ae ?_;refine W.en (c:=prC true p) H rfl rfl rfl rfl (dQ true p).1 (dQ true p).2.1 fun fZ cG H bE=>?_;refine ae ?_;refine W.cg hfn e cl rfl rfl rfl (g9 (aj _) rfl) ?_;refine ae ?_;unfold dH;cases hn:mz p 0 with
 |false=>
  refine ae ?_;exact GoF.ret ⟨rfl,_,cT (cI rfl),rfl⟩
 |true=>
  refine ae ?_;refine W.cg hfn e2 jo rfl rfl rfl (gO (aj _)) ?_;by_cases c:p.cnt≤300
  ·refine ae ?_;exact GoF.ret ⟨rfl,_,cT (cI rfl),by rw[decide_eq_true c];rfl⟩
  ·refine ae ?_;exact GoF.ret ⟨rfl,_,cT (cI rfl),by rw[decide_eq_false c];rfl⟩
end
theorem tq{x y:Int}:binop .eql (zI x) (zI y)=some (.b (decide (x=y))):=by
 show some (AV.b _)=_
 congr 2
theorem yq{x y:Int}:binop .neq (zI x) (zI y)=some (.b (!decide (x=y))):=by
 show some (AV.b _)=_
 congr 2
theorem Na{x y:Int}:binop .lss (zI x) (zI y)=some (.b (decide (x<y))):=rfl
theorem DQ{x y:Int}:binop .gtr (zI x) (zI y)=some (.b (decide (x > y))):=rfl
theorem Vi{x y:Int}:binop .leq (zI x) (zI y)=some (.b (decide (x≤y))):=rfl
theorem Nb{x y:Int}:binop .geq (zI x) (zI y)=some (.b (decide (x≥y))):=rfl
def fj(l:List Int)(n:Int):Nat:=if n∈l then l.idxOf n+1 else 0
section
variable {b:dW}{K:Nat→List AV→AV→Prop}
theorem a9T(a:Option (List Int))(x:Int)(hlen:(a.getD []).length<2^62)
  (body:bB) (hb:HH.body=some body):GoF (b.a4 K) HH.ntmps body (eS [b5 true a,zI x]) ⟨.nil,0⟩ (gi HH.results (.b (decide (x∈a.getD [])))):=by
 cases hb;refine W.args fun z=>?_;have H:Has (⟨.nil,0⟩:af) []:=Has.nil;refine ae ?_;refine GoF.block (GoF.loop (fun k F U=>∃j,j+k=(a.getD []).length∧x∉(a.getD []).take j∧sat [(0,b5 true a),(1,zI x),(5,ay j)] F) (fun k F U aZ=>?_) (a.getD []).length ⟨0,by omega,by simp,rfl,rfl,rfl,trivial⟩);obtain⟨j,az,ie,aX⟩:=aZ;refine GoF.norm _ aX fun F=>?_;clear aX;have H:Has U []:=Has.nil;by_cases bS:j<(a.getD []).length
 ·have cV:=fG bS;have hm:=aS bS;refine ae ?_;refine W.len rfl rfl rfl ly ?_;refine ae ?_;refine W.cw rfl rfl rfl rfl (qS bS) ?_;refine ae ?_;generalize(a.getD [])[j]=y at cV hm;refine W.bin rfl rfl rfl rfl tq ?_;by_cases h:y=x
  ·rw[decide_eq_true h];refine ae ?_;exact GoF.ret ⟨rfl,_,cT (cI rfl),by rw[decide_eq_true (h▸hm)];rfl⟩
  ·rw[decide_eq_false h];refine ae ?_;refine⟨k-1,by omega,j+1,by omega,fun hx=>?_,rfl,rfl,rfl,trivial⟩;rw[cV] at hx;rcases dE.1 hx with hx|hx
   ·exact ie hx
   ·exact h (d_.1 hx).symm
 ·refine ae ?_;refine W.len rfl rfl rfl ly ?_;refine ae ?_;refine GoF.exit ?_;show bl _ _ _ _ _ _ _ _;refine ae ?_;rw[j7 (by omega)] at ie;exact GoF.ret ⟨rfl,_,cT (cI rfl),by rw[decide_eq_false ie];rfl⟩
theorem a9U(a:Option (List Int))(x:Int)(hlen:(a.getD []).length<2^61)
  (body:bB) (hb:HJ.body=some body):GoF (b.a4 K) HJ.ntmps body (eS [b5 true a,zI x]) ⟨.nil,0⟩ (gi HJ.results (ay (fj (a.getD []) x))):=by
 cases hb;refine W.args fun z=>?_;have H:Has (⟨.nil,0⟩:af) []:=Has.nil;refine ae ?_;refine GoF.block (GoF.loop (fun k F U=>∃j,j+k=(a.getD []).length∧x∉(a.getD []).take j∧sat [(0,b5 true a),(1,zI x),(5,ay j)] F) (fun k F U aZ=>?_) (a.getD []).length ⟨0,by omega,by simp,rfl,rfl,rfl,trivial⟩);obtain⟨j,az,ie,aX⟩:=aZ;refine GoF.norm _ aX fun F=>?_;clear aX;have H:Has U []:=Has.nil;by_cases bS:j<(a.getD []).length
 ·have cV:=fG bS;have hm:=aS bS;have oZ:=sk bS;refine ae ?_;refine W.len rfl rfl rfl ly ?_;refine ae ?_;refine W.cw rfl rfl rfl rfl (qS bS) ?_;refine ae ?_;generalize(a.getD [])[j]=y at cV hm oZ;refine W.bin rfl rfl rfl rfl tq ?_;by_cases h:y=x
  ·rw[decide_eq_true h];refine ae ?_;refine GoF.ret ⟨rfl,_,cT (cI rfl),?_⟩;have e:fj (a.getD []) x=j+1:=by
    unfold fj;rw[if_pos (h▸hm)]
    congr 1
    conv=>lhs;rw[←nf j (a.getD []),oZ]
    rw[F3,if_neg ie,h,J6,eL];omega
   rw[e];rfl
  ·rw[decide_eq_false h];refine ae ?_;refine⟨k-1,by omega,j+1,by omega,fun hx=>?_,rfl,rfl,rfl,trivial⟩;rw[cV] at hx;rcases dE.1 hx with hx|hx
   ·exact ie hx
   ·exact h (d_.1 hx).symm
 ·refine ae ?_;refine W.len rfl rfl rfl ly ?_;refine ae ?_;refine GoF.exit ?_;show bl _ _ _ _ _ _ _ _;refine ae ?_;rw[j7 (by omega)] at ie;exact GoF.ret ⟨rfl,_,cT (cI rfl),by unfold fj;rw[if_neg ie];rfl⟩
end
def kd(seen:List Int)(n:Int):Bool:=decide (0≤n)&&(decide (n≤999)&&(decide (n=0)|| !decide (n∈seen)))
def qU(l:List Int):Bool:=(List.range l.length).all fun k=>kd (l.take k) (l.getD k 0)
def f_(p:Prf):Bool:=
 cond (eqL p.rule []||eqL p.rule [63]) (decide (p.sub.length=0)&&(decide (p.aG.length=0)&&cond (eqL p.rule [63]) (decide (p.aY=0)) (decide (p.aY≥1)&&decide (p.aY≤999))))
  (decide (p.aY=0)&&(decide (p.sub.length=p.aG.length)&&p.aG.all fun m=>qU (m.getD [])))
def dh(p:Prf):Bool:=p.pre.all f_
theorem a9V(p:Prf):dh p=(f_ p&&p.sub.all dh):=by
 unfold dh;rw[Prf.gB,sn]
 congr 1
 exact oA.2 (by simp[hP,gP])
theorem Vj{l:List Int}{j:Nat}(h:(List.range j).all (fun k=>kd (l.take k) (l.getD k 0))=true)(az:j<l.length)(ab:kd (l.take j) l[j]=true):(List.range (j+1)).all (fun k=>kd (l.take k) (l.getD k 0))=true:=by
 rw[List.range_succ,w2,h,sn,fU,a9 az];show(true&&(kd (l.take j) l[j]&&true))=true;rw[ab];rfl
theorem Vk{l:List Int}{j:Nat}(az:j<l.length)(ab:kd (l.take j) l[j]=false):qU l=false:=by
 unfold qU;refine vj.2 ⟨j,Aq.2 az,?_⟩;rw[fU,a9 az];show ¬kd (l.take j) l[j]=true;rw[ab];simp
section
variable {b:dW}{K:Nat→List AV→AV→Prop}
theorem a9W(p:Prf)(hl1:p.sub.length<2^62)(hl2:p.aG.length<2^62)(Au:∀m∈p.aG,(m.getD []).length<2^62)
  (body:bB) (hb:HI.body=some body):GoF (b.a4 K) HI.ntmps body (eS [.ag (prC true p)]) ⟨.nil,0⟩ (gi HI.results (.b (f_ p))):=by
 cases hb;refine W.args fun z=>?_;have H:Has (⟨.nil,0⟩:af) []:=Has.nil;have es:(p.bm.getD []).length=p.sub.length:=rfl;have em:(p.cv.getD []).length=p.aG.length:=rfl;refine ae ?_;refine W.en (c:=prC true p) H rfl rfl rfl rfl (dQ true p).1 (dQ true p).2.1 fun fZ cG H bE=>?_;have iJ:=H;refine ae ?_;have aV:∀ {U:af},f_ p=false→freeze U 0 1000 (.b false)=some (.b (f_ p)):=fun h1=>by rw[h1];rfl
 have Iy:∀ {U:af} {cE:Bool},cE=f_ p→freeze U 0 1000 (.b cE)=some (.b (f_ p)):=fun h1=>by rw[←h1];rfl
 refine W.bin (v:=.b (eqL p.rule [])) rfl rfl rfl rfl rfl ?_;cases h0:eqL p.rule [] with
 |true=>
  have al:p.rule=[]:=(pk _ _).1 h0;have h1:eqL p.rule [63]=false:=by rw[al];rfl
  have cL:f_ p=(decide (p.sub.length=0)&&(decide (p.aG.length=0)&&(decide (p.aY≥1)&&decide (p.aY≤999)))):=by unfold f_;rw[h0,h1];rfl
  refine ae ?_;refine W.len rfl rfl rfl gR ?_;by_cases cQ:0<p.sub.length
  ·refine ae ?_;exact GoF.ret ⟨rfl,_,cT (cI rfl),aV (by rw[cL,decide_eq_false (by omega)];rfl)⟩
  refine ae ?_;refine W.len rfl rfl rfl kc ?_;by_cases eA:0<p.aG.length
  ·refine ae ?_;exact GoF.ret ⟨rfl,_,cT (cI rfl),aV (by rw[cL,decide_eq_false (p:=p.aG.length=0) (by omega)];simp)⟩
  rw[decide_eq_true (show p.sub.length=0 by omega),decide_eq_true (show p.aG.length=0 by omega),jU,jU] at cL;refine ae ?_;refine W.bin (v:=.b (eqL p.rule [63])) rfl rfl rfl rfl rfl ?_;rw[h1];refine ae ?_;refine W.bin (v:=.b (eqL p.rule [])) rfl rfl rfl rfl rfl ?_;rw[h0];refine ae ?_;refine W.bin rfl rfl rfl rfl Nb ?_;by_cases ek:p.aY≥1
  ·rw[decide_eq_true ek];refine ae ?_;refine W.bin rfl rfl rfl rfl Vi ?_;refine ae ?_;exact GoF.ret ⟨rfl,_,cT (cI rfl),Iy (by rw[cL,decide_eq_true ek];rfl)⟩
  ·rw[decide_eq_false ek];refine ae ?_;exact GoF.ret ⟨rfl,_,cT (cI rfl),Iy (by rw[cL,decide_eq_false ek];rfl)⟩
 |false=>
 refine ae ?_;refine W.bin (v:=.b (eqL p.rule [63])) rfl rfl rfl rfl rfl ?_;cases h1:eqL p.rule [63] with
 |true=>
  have cL:f_ p=(decide (p.sub.length=0)&&(decide (p.aG.length=0)&&decide (p.aY=0))):=by unfold f_;rw[h0,h1];rfl
  refine ae ?_;refine W.len rfl rfl rfl gR ?_;by_cases cQ:0<p.sub.length
  ·refine ae ?_;exact GoF.ret ⟨rfl,_,cT (cI rfl),aV (by rw[cL,decide_eq_false (by omega)];rfl)⟩
  refine ae ?_;refine W.len rfl rfl rfl kc ?_;by_cases eA:0<p.aG.length
  ·refine ae ?_;exact GoF.ret ⟨rfl,_,cT (cI rfl),aV (by rw[cL,decide_eq_false (p:=p.aG.length=0) (by omega)];simp)⟩
  rw[decide_eq_true (show p.sub.length=0 by omega),decide_eq_true (show p.aG.length=0 by omega),jU,jU] at cL;refine ae ?_;refine W.bin (v:=.b (eqL p.rule [63])) rfl rfl rfl rfl rfl ?_;rw[h1];refine ae ?_;refine W.bin rfl rfl rfl rfl tq ?_;by_cases ek:p.aY=0
  ·rw[decide_eq_true ek];refine ae ?_;exact GoF.ret ⟨rfl,_,cT (cI rfl),Iy (by rw[cL,decide_eq_true ek])⟩
  ·rw[decide_eq_false ek];refine ae ?_;refine W.bin (v:=.b (eqL p.rule [])) rfl rfl rfl rfl rfl ?_;rw[h0];refine ae ?_;exact GoF.ret ⟨rfl,_,cT (cI rfl),Iy (by rw[cL,decide_eq_false ek])⟩
 |false=>
 have cL:f_ p=(decide (p.aY=0)&&(decide (p.sub.length=p.aG.length)&&p.aG.all fun m=>qU (m.getD []))):=by unfold f_;rw[h0,h1];rfl
 refine ae ?_;refine W.bin rfl rfl rfl rfl yq ?_;by_cases bw:p.aY=0
 rotate_left
 ·rw[decide_eq_false bw];refine ae ?_;exact GoF.ret ⟨rfl,_,cT (cI rfl),aV (by rw[cL,decide_eq_false bw];rfl)⟩
 rw[decide_eq_true bw] at cL ⊢;refine ae ?_;refine W.len rfl rfl rfl gR ?_;refine ae ?_;refine W.len rfl rfl rfl kc ?_;by_cases cQ:p.sub.length=p.aG.length
 rotate_left
 ·refine ae ?_;exact GoF.ret ⟨rfl,_,cT (cI rfl),aV (by rw[cL,decide_eq_false cQ];rfl)⟩
 rw[decide_eq_true cQ,jU,jU] at cL;refine ae ?_;refine GoF.block (GoF.loop (fun k F U=>∃j,j+k=p.aG.length∧U=fZ∧(p.aG.take j).all (fun m=>qU (m.getD []))=true∧sat [(1,bo 0),(3,ay j)] F) (fun k F U aZ=>?_) p.aG.length ⟨0,by omega,rfl,rfl,rfl,rfl,trivial⟩);obtain⟨j,az,rfl,dJ,aX⟩:=aZ;refine GoF.norm _ aX fun F=>?_;clear aX;have H:=iJ;by_cases bS:j<p.aG.length
 ·have cV:=fG bS;have hm:=aS bS;have yr:j<(p.cv.getD []).length:=bS;have gX:∀J,idxSlA none (cO J p.cv) j=some (.cZ J (b5 J p.aG[j])):=fun J=>pR yr;generalize p.aG[j]=m at cV hm gX;have k9:=Au m hm;refine ae ?_;refine W.len rfl rfl rfl kc ?_;refine ae ?_;refine GoF.block (GoF.loop (fun cW F a5=>∃i,i+cW=(m.getD []).length∧a5=U∧(List.range i).all (fun k=>kd ((m.getD []).take k) ((m.getD []).getD k 0))=true∧sat [(1,bo 0),(3,ay j),(4,ay i)] F) (fun cW F a5 aZ=>?_) (m.getD []).length ⟨0,by omega,rfl,rfl,rfl,rfl,rfl,trivial⟩);obtain⟨i,hi,rfl,jP,aX⟩:=aZ;refine GoF.norm _ aX fun F=>?_;clear aX;have H:=iJ;by_cases j6:i<(m.getD []).length
  ·have dp:=Vj jP j6;have iU:kd ((m.getD []).take i) (m.getD [])[i]=false→f_ p=false:=fun h=>by
    rw[cL];exact vj.2 ⟨m,hm,by rw[Vk j6 h];simp⟩
   have m7:∀J,idxSlA none (b5 J m) i=some (.cZ J (zI (m.getD [])[i])):=fun J=>qS j6;generalize(m.getD [])[i]=x at dp iU m7;refine ae ?_;refine W.cw rfl rfl rfl rfl (gX _) ?_;refine ae ?_
   try (refine W.iG (ad:=none) rfl rfl rfl (iI _ _).2 ?_;refine ae ?_)
   refine W.len rfl rfl rfl ly ?_;refine ae ?_;refine W.cw rfl rfl rfl rfl (gX _) ?_;refine ae ?_
   try (refine W.iG (ad:=none) rfl rfl rfl (iI _ _).2 ?_;refine ae ?_)
   refine W.cw rfl rfl rfl rfl (m7 _) ?_;refine ae ?_;refine W.bin rfl rfl rfl rfl Na ?_;by_cases d1:x<0
   ·rw[decide_eq_true d1];refine ae ?_;exact GoF.ret ⟨rfl,_,cT (cI rfl),aV (iU (by unfold kd;rw[decide_eq_false (by omega)];rfl))⟩
   rw[decide_eq_false d1];refine ae ?_;refine W.bin rfl rfl rfl rfl DQ ?_;by_cases d2:x > 999
   ·rw[decide_eq_true d2];refine ae ?_;exact GoF.ret ⟨rfl,_,cT (cI rfl),aV (iU (by unfold kd;rw[decide_eq_false (p:=x≤999) (by omega)];simp))⟩
   rw[decide_eq_false d2];refine ae ?_;have DR:kd ((m.getD []).take i) x=(decide (x=0)|| !decide (x∈(m.getD []).take i)):=by
    unfold kd;rw[decide_eq_true (show 0≤x by omega),decide_eq_true (show x≤999 by omega)];rfl
   refine GoF.block (GoF.loop (fun Iz F Vl=>∃h,h+Iz=i∧Vl=a5∧(x≠0→x∉(m.getD []).take h)∧sat [(1,bo 0),(3,ay j),(4,ay i),(5,zI x),(6,ay h)] F) (fun Iz F Vl aZ=>?_) i ⟨0,by omega,rfl,by simp,rfl,rfl,rfl,rfl,rfl,trivial⟩);obtain⟨h,hh,rfl,ie,aX⟩:=aZ;refine GoF.norm _ aX fun F=>?_;clear aX;have H:=iJ;by_cases c3j:h<i
   ·have Vm:h<(m.getD []).length:=by omega
    have Vn:∀J,idxSlA none (b5 J m) h=some (.cZ J (zI (m.getD [])[h])):=fun J=>qS Vm;have Vo:=fG Vm;have cP:(m.getD [])[h]∈(m.getD []).take i:=List.mem_take_iff_getElem.2 ⟨h,by omega,rfl⟩;generalize(m.getD [])[h]=y at Vn Vo cP;refine ae ?_;refine W.bin rfl rfl rfl rfl yq ?_;by_cases d3:x=0
    ·rw[decide_eq_true d3];refine ae ?_;exact⟨Iz-1,by omega,h+1,by omega,rfl,fun bx=>absurd d3 bx,rfl,rfl,rfl,rfl,rfl,trivial⟩
    ·rw[decide_eq_false d3];refine ae ?_;refine W.cw rfl rfl rfl rfl (gX _) ?_;refine ae ?_
     try (refine W.iG (ad:=none) rfl rfl rfl (iI _ _).2 ?_;refine ae ?_)
     refine W.cw rfl rfl rfl rfl (Vn _) ?_;refine ae ?_;refine W.bin rfl rfl rfl rfl tq ?_;by_cases d4:y=x
     ·rw[decide_eq_true d4];refine ae ?_;exact GoF.ret ⟨rfl,_,cT (cI rfl),aV (iU (by rw[DR,decide_eq_false d3,decide_eq_true (d4▸cP)];rfl))⟩
     ·rw[decide_eq_false d4];refine ae ?_;refine⟨Iz-1,by omega,h+1,by omega,rfl,fun _ hx=>?_,rfl,rfl,rfl,rfl,rfl,trivial⟩;rw[Vo] at hx;rcases dE.1 hx with hx|hx
      ·exact ie d3 hx
      ·exact d4 (d_.1 hx).symm
   ·refine ae ?_;refine GoF.exit ?_;show bl _ _ _ _ _ _ _ _;refine ae ?_;have nB:h=i:=by omega
    subst nB;refine⟨cW-1,by omega,h+1,by omega,rfl,dp ?_,rfl,rfl,rfl,trivial⟩;rw[DR];by_cases d3:x=0
    ·rw[decide_eq_true d3];rfl
    ·rw[decide_eq_false (ie d3)];simp
  ·refine ae ?_;refine W.cw rfl rfl rfl rfl (gX _) ?_;refine ae ?_
   try (refine W.iG (ad:=none) rfl rfl rfl (iI _ _).2 ?_;refine ae ?_)
   refine W.len rfl rfl rfl ly ?_;refine ae ?_;refine GoF.exit ?_;show bl _ _ _ _ _ _ _ _;refine ae ?_;have Dg:i=(m.getD []).length:=by omega
   subst Dg;refine⟨k-1,by omega,j+1,by omega,rfl,?_,rfl,rfl,trivial⟩;rw[cV,w2,dJ,sn,show qU (m.getD [])=true from jP];rfl
 ·refine ae ?_;refine W.len rfl rfl rfl kc ?_;refine ae ?_;refine GoF.exit ?_;show bl _ _ _ _ _ _ _ _;refine ae ?_;rw[j7 (by omega)] at dJ;exact GoF.ret ⟨rfl,_,cT (cI rfl),by rw[cL,dJ];rfl⟩
theorem a9X(hfn:∀g aR r bs,K g aR r→K g aR bs→r=bs)(p:Prf)(hl1:p.sub.length<2^62)(aj:∀U:af,bh U (b.aV+1000) (.ag (prC true p))=some (.ag (prC true p)))(eN:∀u∈p.sub,∀U:af,bh U (b.aV+1000) (.ag (prC true u))=some (.ag (prC true u)))
  (e:b.ext yh=0∧b.pure yh=true) (cl:K yh [.ag (prC true p)] (.b (f_ p))) (e2:b.ext o1=0∧b.pure o1=true) (jo:∀u∈p.sub,K o1 [.ag (prC true u)] (.b (dh u)))
  (body:bB) (hb:Hr.body=some body):GoF (b.a4 K) Hr.ntmps body (eS [.ag (prC true p)]) ⟨.nil,0⟩ (gi Hr.results (.b (dh p))):=by
 cases hb;refine W.args fun z=>?_;have H:Has (⟨.nil,0⟩:af) []:=Has.nil;have es:(p.bm.getD []).length=p.sub.length:=rfl;have au:=a9V p;have aV:∀ {U:af},dh p=false→freeze U 0 1000 (.b false)=some (.b (dh p)):=fun h1=>by rw[h1];rfl
 refine ae ?_;refine W.en (c:=prC true p) H rfl rfl rfl rfl (dQ true p).1 (dQ true p).2.1 fun fZ cG H bE=>?_;refine ae ?_;refine W.cg hfn e cl rfl rfl rfl (gO (aj _)) ?_;refine ae ?_;cases h0:f_ p with
 |false=>
  refine ae ?_;exact GoF.ret ⟨rfl,_,cT (cI rfl),aV (by rw[au,h0];rfl)⟩
 |true=>
 rw[h0,jU] at au;refine ae ?_;have iJ:=H;refine GoF.block (GoF.loop (fun k F U=>∃j,j+k=p.sub.length∧U=fZ∧(p.sub.take j).all dh=true∧sat [(1,bo 0),(3,ay j)] F) (fun k F U aZ=>?_) p.sub.length ⟨0,by omega,rfl,rfl,rfl,rfl,trivial⟩);obtain⟨j,az,rfl,dJ,aX⟩:=aZ;refine GoF.norm _ aX fun F=>?_;clear aX;have H:=iJ;by_cases bS:j<p.sub.length
 ·refine ae ?_;refine W.len rfl rfl rfl gR ?_;refine ae ?_;refine W.cw rfl rfl rfl rfl (nC bS) ?_;refine ae ?_;have hm:=aS bS;have cV:=fG bS;have cj:(p.bm.getD [])[j]=p.sub[j]:=rfl;rw[cj];generalize p.sub[j]=x at hm cV;refine W.cg hfn e2 (jo _ hm) rfl rfl rfl (gO (eN _ hm _)) ?_;refine ae ?_;cases hf:dh x with
  |false=>
   refine ae ?_;exact GoF.ret ⟨rfl,_,cT (cI rfl),aV (by rw[au];exact vj.2 ⟨x,hm,by rw[hf];simp⟩)⟩
  |true=>
   refine ae ?_;refine⟨k-1,by omega,j+1,by omega,rfl,?_,rfl,rfl,trivial⟩;rw[cV,w2,dJ,sn,hf];rfl
 ·refine ae ?_;refine W.len rfl rfl rfl gR ?_;refine ae ?_;refine GoF.exit ?_;show bl _ _ _ _ _ _ _ _;refine ae ?_;rw[j7 (by omega)] at dJ;exact GoF.ret ⟨rfl,_,cT (cI rfl),by rw[au,dJ];rfl⟩
end
def pT(x:Prf):List Int:=x.aG.flatMap fun m=>m.getD []
def kN(x:Prf):List Int:=x.aY::pT x
def bN(p:Prf):List Int:=p.pre.flatMap kN
def dC(l:List Int)(n:Int):List Int:=cond (decide (n≠0)&& !decide (n∈l)) (l++[n]) l
def iK(p:Prf)(l:List Int):List Int:=(bN p).foldl dC l
theorem Nc(p:Prf):bN p=kN p++p.sub.flatMap bN:=by
 unfold bN;rw[Prf.gB,eG,K5]
theorem a9Y(p:Prf)(l:List Int):iK p l=p.sub.foldl (fun l q=>iK q l) ((pT p).foldl dC (dC l p.aY)):=by
 unfold iK;rw[Nc,kW];show(p.sub.flatMap bN).foldl dC ((pT p).foldl dC (dC l p.aY))=_;generalize(pT p).foldl dC (dC l p.aY)=m;generalize p.sub=s
 induction s generalizing m with
 |nil=>rfl
 |cons q s aA=>rw[eG,kW,aA];rfl
theorem Vp(l:List Int)(n:Int):(dC l n).length≤l.length+1:=by
 unfold dC;cases decide (n≠0)&& !decide (n∈l) with
 |true=>rw[cond_true,cR];exact o _
 |false=>rw[cond_false];omega
theorem Ax(m:List Int):∀l:List Int,(m.foldl dC l).length≤l.length+m.length:=by
 induction m with
 |nil=>intro l;exact o _
 |cons n m aA=>intro l;have:=aA (dC l n);have:=Vp l n;rw[nh,fH];omega
theorem Nd(p:Prf)(l:List Int):(iK p l).length≤l.length+(bN p).length:=Ax _ _
def pU(I:af)(v:AV)(l:List Int):Prop:=Sl I none v (l.map zI)∧(l=[]→v= .aB)
theorem pU.snap{I:af}{v:AV}{l:List Int}{m:Nat}(h:pU I v l):bh I (m+2) v=some (slA true none (l.map zI)):=by
 cases l with
 |nil=>rw[h.2 rfl];rfl
 |cons x l=>exact h.1.a9h (by simp) (xX fun y aw=>by obtain⟨n,_,rfl⟩:=bQ.1 aw;rfl)
theorem pU.lt{I:af}{v:AV}{l:List Int}(h:pU I v l){J:Nat}(ab:v.bn =some J):J<I.next:=by
 exact h.1.lt ab
theorem pU.aF{I U:af}{v:AV}{l:List Int}(h:pU I v l)(k:∀i J,v.bn =some i→I.get i=some J→U.get i=some J):pU U v l:=⟨h.1.aF k,h.2⟩
structure oj(I:af)(v:AV)(k:Nat)(c:List AV)(U:af)(a2:AV)(cF:List Int):Prop where
 ak:pU U a2 cF
 vI:k<U.next
 uO:I.next≤k
 box:U.get k=some (.cells c)
 ai:∀i J,v.bn ≠some i→I.get i=some J→U.get i=some J
 own:∀J,a2.bn =some J→v.bn =some J∨I.next≤J
 ne:a2.bn ≠some k
theorem oj.push{I:af}{v:AV}{k:Nat}{c:List AV}{U bG:af}{a2 v2:AV}{cF:List Int}{x:Int}(h:oj I v k c U a2 cF)(aj:Sl bG none v2 (cF.map zI++[zI x]))(ha:v2.bn =some (U.next+1))(eh:bG.next=U.next+2)(bb:∀i J,a2.bn ≠some i→U.get i=some J→bG.get i=some J):oj I v k c bG v2 (cF++[x]):=by
 have h1:=h.vI;have h2:=h.uO;refine⟨⟨by rw[gK];exact aj,fun e=>by simp at e⟩,by omega,h2,bb _ _ h.ne h.box,fun i J hi ab=>bb _ _ (fun e=>?_) (h.ai i J hi ab),fun J ab=>?_,fun e=>?_⟩
 ·rcases h.own i e with h'|h'
  ·exact hi h'
  ·have:=af.bW ab;omega
 ·rw[ha] at ab;cases ab;exact .inr (by omega)
 ·rw[ha] at e;cases e;omega
theorem oj.call{I:af}{v:AV}{k:Nat}{c:List AV}{U bG:af}{a2 v2:AV}{cF j9:List Int}(h:oj I v k c U a2 cF)(aj:pU bG v2 j9)(eh:U.next≤bG.next)(bb:∀i J,a2.bn ≠some i→U.get i=some J→bG.get i=some J)(pr:∀J,v2.bn =some J→a2.bn =some J∨U.next≤J):oj I v k c bG v2 j9:=by
 have h1:=h.vI;have h2:=h.uO;refine⟨aj,by omega,h2,bb _ _ h.ne h.box,fun i J hi ab=>bb _ _ (fun e=>?_) (h.ai i J hi ab),fun J ab=>?_,fun e=>?_⟩
 ·rcases h.own i e with h'|h'
  ·exact hi h'
  ·have:=af.bW ab;omega
 ·rcases pr J ab with h'|h'
  ·exact h.own J h'
  ·exact .inr (by omega)
 ·rcases pr k e with h'|h'
  ·exact h.ne h'
  ·omega
section
variable {b:dW}{K:Nat→List AV→AV→Prop}
theorem Vq(hfn:∀g aR r bs,K g aR r→K g aR bs→r=bs)(hh:cY (b.a4 K) DC Hq)(e:b.ext hU=0∧b.pure hU=true)(cl:∀(l:List Int) (n:Int),l.length<2^40→K hU [slA true none (l.map zI),zI n] (.b (decide (n∈l)))):
  ∀(d:Nat) (p:Prf),p.cJ≤d→(∀x∈p.pre,qT b x)→∀ {I:af} {v:AV} {l:List Int},pU I v l→l.length+(bN p).length<2^40→
  b9 (b.a4 K) 0 (.f (.func DC) [] []) [.ag (prC true p),v] I (fun r U=>∃w,r= .ok w∧pU U w (iK p l)∧I.next≤U.next∧(∀i J,v.bn ≠some i→I.get i=some J→U.get i=some J)∧∀J,w.bn =some J→v.bn =some J∨I.next≤J):=by
 intro d
 induction d with
 |zero=>intro p h;have:=p.m5;omega
 |succ d aA=>
 intro p au c4 I v l av hlen;have tp:=c4 p p.oi;have es:(p.bm.getD []).length=p.sub.length:=rfl;have em:(p.cv.getD []).length=p.aG.length:=rfl;have ko:=tp.sub;have k9:=tp.aG;have dJ:=Nc p;have c3k:(bN p).length=(pT p).length+1+(p.sub.flatMap bN).length:=by rw[dJ,cR];show(_::pT p).length+_=_;rw[fH]
 rw[a9Y];refine W.code hh.e hh.p hh.f rfl rfl rfl rfl fun z=>?_;have H:Has I []:=Has.nil;refine ae ?_;generalize aD:I.next=k;refine W.en (c:=prC true p) H aD rfl rfl rfl (dQ true p).1 (dQ true p).2.1 fun fZ cG H bE=>?_;have DS:oj I v k (prC true p) fZ v l:=⟨av.aF fun i J _ ab=>bE _ _ ab,by omega,by omega,H.get _ (.head _),fun i J _ ab=>bE _ _ ab,fun J ab=>.inl ab,fun e=>by have:=av.lt e;omega⟩
 refine o2 ?_;refine W.nil ?_;show bl _ _ _ _ _ _ _ _;refine W.sq ?_;refine bl.mono (Q:=fun x f U=>x= .normal∧∃a2,oj I v k (prC true p) U a2 (dC l p.aY)∧sat [(1,a2),(2,bo k)] f) ?_ fun x f U h=>?_
 ·refine ae ?_;refine W.bin rfl rfl rfl rfl yq ?_;by_cases h0:p.aY=0
  ·rw[decide_eq_true h0];refine ae ?_;have iu:dC l p.aY=l:=by unfold dC;rw[decide_eq_false (by simpa using h0)];rfl
   exact⟨rfl,v,by rw[iu];exact DS,rfl,rfl,trivial⟩
  rw[decide_eq_false h0];refine ae ?_;refine W.cg hfn e (cl l p.aY (by omega)) rfl rfl rfl (g9 (DS.ak.snap (m:=b.aV+998)) rfl) ?_;by_cases h1:p.aY∈l
  ·rw[decide_eq_true h1];refine ae ?_;have iu:dC l p.aY=l:=by unfold dC;rw[decide_eq_true h1];simp
   exact⟨rfl,v,by rw[iu];exact DS,rfl,rfl,trivial⟩
  rw[decide_eq_false h1];refine ae ?_;refine W.pu (zI p.aY) DS.ak.1 rfl rfl rfl rfl rfl rfl rfl rfl rfl (by rw[aJ];omega) fun v2 bd hR k_ oM n2 br=>?_;refine ae ?_;have iu:dC l p.aY=l++[p.aY]:=by unfold dC;rw[decide_eq_true (by simpa using h0),decide_eq_false h1];rfl
  exact⟨rfl,v2,by rw[iu];exact DS.push hR k_ n2 br,rfl,rfl,trivial⟩
 obtain⟨rfl,a2,M,aX⟩:=h;show bl _ _ _ _ _ _ _ _;refine GoF.norm _ aX fun g=>?_;clear aX;have hl1:=Vp l p.aY;generalize dC l p.aY=gd at M hl1;refine W.sq ?_;refine bl.mono (Q:=fun x f U=>x= .normal∧∃a2,oj I v k (prC true p) U a2 ((pT p).foldl dC gd)∧sat [(1,a2),(2,bo k)] f) ?_ fun x f U h=>?_
 ·refine ae ?_;refine GoF.block (GoF.loop (fun q F U=>∃j a2,j+q=p.aG.length∧oj I v k (prC true p) U a2 (((p.aG.take j).flatMap fun m=>m.getD []).foldl dC gd)∧sat [(1,a2),(2,bo k),(5,ay j)] F) (fun q F U aZ=>?_) p.aG.length ⟨0,a2,by omega,M,rfl,rfl,rfl,trivial⟩);obtain⟨j,a2,az,M,aX⟩:=aZ;refine GoF.norm _ aX fun F=>?_;clear aX;have H:Has U [(k,prC true p)]:=Has.nil.cons M.box (by simp);by_cases bS:j<p.aG.length
  ·have yr:j<(p.cv.getD []).length:=bS;have cV:=fG bS;have hm:=aS bS;have gX:∀J,idxSlA none (cO J p.cv) j=some (.cZ J (b5 J p.aG[j])):=fun J=>pR yr;have hle:((p.aG.take (j+1)).flatMap fun m=>m.getD []).length≤(pT p).length:=by
    show _≤(List.flatMap _ p.aG).length;conv=>rhs;rw[←nf (j+1) p.aG]
    rw[il,cR];omega
   generalize p.aG[j]=m at cV hm gX;have k9:=tp.Iw m hm;rw[cV,il,eG,y_,fV,cR] at hle;have c7:=Ax ((p.aG.take j).flatMap fun m=>m.getD []) gd;generalize hL:((p.aG.take j).flatMap fun m=>m.getD []).foldl dC gd=L at M c7;refine ae ?_;refine W.len rfl rfl rfl kc ?_;refine ae ?_;refine GoF.block (GoF.loop (fun q' F U=>∃i a2,i+q'=(m.getD []).length∧oj I v k (prC true p) U a2 (((m.getD []).take i).foldl dC L)∧sat [(1,a2),(2,bo k),(5,ay j),(6,ay i)] F) (fun q' F U aZ=>?_) (m.getD []).length ⟨0,a2,by omega,M,rfl,rfl,rfl,rfl,trivial⟩);obtain⟨i,a2,hi,M,aX⟩:=aZ;refine GoF.norm _ aX fun F=>?_;clear aX;have H:Has U [(k,prC true p)]:=Has.nil.cons M.box (by simp);by_cases j6:i<(m.getD []).length
   ·have m7:∀J,idxSlA none (b5 J m) i=some (.cZ J (zI (m.getD [])[i])):=fun J=>qS j6;have lB:=fG j6;have hf2:=Ax ((m.getD []).take i) L;rw[eL] at hf2;generalize(m.getD [])[i]=x at m7 lB;generalize Nf:((m.getD []).take i).foldl dC L=oc at M hf2;refine ae ?_;refine W.cw rfl rfl rfl rfl (gX _) ?_;refine ae ?_
    try (refine W.iG (ad:=none) rfl rfl rfl (iI _ _).2 ?_;refine ae ?_)
    refine W.len rfl rfl rfl ly ?_;refine ae ?_;refine W.cw rfl rfl rfl rfl (gX _) ?_;refine ae ?_
    try (refine W.iG (ad:=none) rfl rfl rfl (iI _ _).2 ?_;refine ae ?_)
    refine W.cw rfl rfl rfl rfl (m7 _) ?_;refine ae ?_;refine W.bin rfl rfl rfl rfl yq ?_;by_cases h0:x=0
    ·rw[decide_eq_true h0];refine ae ?_;have iu:dC oc x=oc:=by unfold dC;rw[decide_eq_false (by simpa using h0)];rfl
     refine⟨q'-1,by omega,i+1,a2,by omega,?_,rfl,rfl,rfl,rfl,trivial⟩;rw[lB,kW,Nf];show oj I v k (prC true p) _ a2 (dC oc x);rw[iu];exact M
    rw[decide_eq_false h0];refine ae ?_;refine W.cg hfn e (cl oc x (by omega)) rfl rfl rfl (g9 (M.ak.snap (m:=b.aV+998)) rfl) ?_;by_cases h1:x∈oc
    ·rw[decide_eq_true h1];refine ae ?_;have iu:dC oc x=oc:=by unfold dC;rw[decide_eq_true h1];simp
     refine⟨q'-1,by omega,i+1,a2,by omega,?_,rfl,rfl,rfl,rfl,trivial⟩;rw[lB,kW,Nf];show oj I v k (prC true p) _ a2 (dC oc x);rw[iu];exact M
    rw[decide_eq_false h1];refine ae ?_;refine W.pu (zI x) M.ak.1 rfl rfl rfl rfl rfl rfl rfl rfl rfl (by rw[aJ];omega) fun v2 bd hR k_ oM n2 br=>?_;refine ae ?_;have iu:dC oc x=oc++[x]:=by unfold dC;rw[decide_eq_true (by simpa using h0),decide_eq_false h1];rfl
    refine⟨q'-1,by omega,i+1,v2,by omega,?_,rfl,rfl,rfl,rfl,trivial⟩;rw[lB,kW,Nf];show oj I v k (prC true p) _ v2 (dC oc x);rw[iu];exact M.push hR k_ n2 br
   ·refine ae ?_;refine W.cw rfl rfl rfl rfl (gX _) ?_;refine ae ?_
    try (refine W.iG (ad:=none) rfl rfl rfl (iI _ _).2 ?_;refine ae ?_)
    refine W.len rfl rfl rfl ly ?_;refine ae ?_;refine GoF.exit ?_;show bl _ _ _ _ _ _ _ _;refine ae ?_;refine⟨q-1,by omega,j+1,a2,by omega,?_,rfl,rfl,rfl,trivial⟩;rw[j7 (by omega)] at M;rw[cV,il,eG,y_,fV,kW,hL];exact M
  ·refine ae ?_;refine W.len rfl rfl rfl kc ?_;refine ae ?_;refine GoF.exit ?_;refine⟨rfl,a2,?_,rfl,rfl,trivial⟩;rw[j7 (by omega)] at M;exact M
 obtain⟨rfl,a2,M,aX⟩:=h;show bl _ _ _ _ _ _ _ _;refine GoF.norm _ aX fun g=>?_;clear aX;have hl2:=Ax (pT p) gd;generalize(pT p).foldl dC gd=j9 at M hl2;refine ae ?_;refine GoF.block (GoF.loop (fun q F U=>∃j a2,j+q=p.sub.length∧oj I v k (prC true p) U a2 ((p.sub.take j).foldl (fun l q=>iK q l) j9)∧sat [(1,a2),(2,bo k),(8,ay j)] F) (fun q F U aZ=>?_) p.sub.length ⟨0,a2,by omega,M,rfl,rfl,rfl,trivial⟩);obtain⟨j,a2,az,M,aX⟩:=aZ;refine GoF.norm _ aX fun F=>?_;clear aX;have H:Has U [(k,prC true p)]:=Has.nil.cons M.box (by simp);have c7:∀(s:List Prf) (l:List Int),(s.foldl (fun l q=>iK q l) l).length≤l.length+(s.flatMap bN).length:=fun s=>by
  induction s with
  |nil=>intro l;exact o _
  |cons q s aA=>intro l;have:=aA (iK q l);have:=Nd q l;rw[nh,eG,cR];omega
 by_cases bS:j<p.sub.length
 ·have cV:=fG bS;have hm:=aS bS;have hle:((p.sub.take (j+1)).flatMap bN).length≤(p.sub.flatMap bN).length:=by
   conv=>rhs;rw[←nf (j+1) p.sub]
   rw[il,cR];omega
  refine ae ?_;refine W.len rfl rfl rfl gR ?_;refine ae ?_;refine W.cw rfl rfl rfl rfl (nC bS) ?_;refine ae ?_;have cj:(p.bm.getD [])[j]=p.sub[j]:=rfl;rw[cj];generalize p.sub[j]=x at hm cV;have hf:=c7 (p.sub.take j) j9;rw[cV,il,eG,y_,fV,cR] at hle;refine W.dX rfl rfl rfl (aA x (by have:=Prf.my hm;omega) (fun y aw=>c4 y (Prf.pS hm aw)) M.ak (by omega)) fun r bG ⟨w,dA,hw,eh,bb,ab⟩=>⟨_,dA,?_⟩
  refine ae ?_;refine⟨q-1,by omega,j+1,w,by omega,?_,rfl,rfl,rfl,trivial⟩;rw[cV,kW];exact M.call hw eh bb ab
 ·refine ae ?_;refine W.len rfl rfl rfl gR ?_;refine ae ?_;refine GoF.exit ?_;show bl _ _ _ _ _ _ _ _;refine ae ?_;rw[j7 (by omega)] at M;have mm:=M.vI;have r3:=M.uO;exact GoF.ret ⟨rfl,_,rfl,M.ak,by omega,M.ai,fun J ab=>by rw[←aD];exact M.own J ab⟩
end
theorem pV{I:af}:∀(n:Nat) (v w:AV),bh I n v=some w→AV.eqb n v v=true
 |0,v,w,h=>by cases h
 |n+1,v,w,h=>by
  have aA:=pV (I:=I) n;have all:∀ {l r:List AV},mapO (bh I n) l=some r→gb (AV.eqb n) l l=true:=fun {l r} hm=>rM fun x hx=>by
   obtain⟨i,hi,rfl⟩:=gm hx;have:=mc hm;exact aA _ _ (this.2 i hi (by rw[this.1];exact hi))
  cases v with
  |b x=>show(x==x)=true;simp
  |i k x=>show(decide (k=k)&&decide (x=x))=true;simp
  |s l=>exact uE l
  |p a=>cases a with
   |none=>rfl
   |some a=>cases h
  |cZ J v=>cases h
  |ak a b c d e=>show(Nat.beq a a&&Nat.beq b b&&Nat.beq c c&&decide (d=d)&&decide (e=e))=true;simp
  |aB=>rfl
  |a7 J ad xs=>
   obtain⟨gE,hm,_⟩:=a8i h;show((J==J)&&decide (ad=ad)&&gb (AV.eqb n) xs xs)=true;rw[all hm];simp
  |m r=>cases r with
   |none=>rfl
   |some r=>cases h
  |f a b c=>cases h
  |ix a b c=>cases h
  |iP=>rfl
  |it t v=>
   rw[snapshot_succ] at h;simp only[] at h;cases hm:bh I n v with
   |none=>rw[hm] at h;cases h
   |some y=>
    show(Nat.beq t t&&AV.eqb n v v)=true;rw[aA v y hm];simp
  |fz=>rfl
  |iQ hi=>show(hi==hi)=true;simp
  |y i=>exact fy i
  |g1 J i=>show((J==J)&&Nat.beq i i)=true;simp
  |fo i=>exact fy i
  |gv i j=>show(Nat.beq i i&&Nat.beq j j)=true;simp
  |ag l=>
   obtain⟨gE,hm,_⟩:=a8j h;exact all hm
  |bJ l=>
   rw[snapshot_succ] at h;simp only[] at h;cases hm:mapO (bh I n) l with
   |none=>rw[hm] at h;cases h
   |some y=>exact all hm
  |h4 k d j=>show(decide (k=k)&&(Nat.beq d d&&Nat.beq j j))=true;simp
  |gD l=>exact rM fun x _=>uE x
theorem ys{l:List Int}:∀y∈l.map zI,conf none y=true:=fun y aw=>by obtain⟨n,_,rfl⟩:=bQ.1 aw;rfl
section
variable {b:dW}{K:Nat→List AV→AV→Prop}
theorem a9Z(a:Option (List Int))(hlen:(a.getD []).length<2^40)
  (body:bB) (hb:HD.body=some body):GoF (b.a4 K) HD.ntmps body (eS [b5 true a]) ⟨.nil,0⟩ (gi HD.results (b5 false (jX a))):=by
 cases hb;refine W.args fun z=>?_;have H:Has (⟨.nil,0⟩:af) []:=Has.nil;refine ae ?_;cases a with
 |none=>
  refine W.val (v:=.aB) (aq:=⟨.nil,0⟩) rfl rfl rfl ?_;refine ae ?_;exact GoF.ret ⟨rfl,_,cT (cI rfl),rfl⟩
 |some l=>
 cases l with
 |nil=>
  refine W.val (v:=.aB) (aq:=⟨.nil,0⟩) rfl rfl rfl ?_;refine ae ?_;exact GoF.ret ⟨rfl,_,cT (cI rfl),rfl⟩
 |cons x l=>
  refine W.ap (v:=.aB) (xs:=[]) (zI x) (l.map zI) .nil (w:=b5 true (some (x::l))) rfl (fun y aw=>ys (l:=x::l) y aw) (by
   have:(x::l).length<2^40:=hlen;rw[fH] at this;rw[fH,aJ,lx];omega) rfl rfl rfl rfl fun a2 bG av ha _ eh bb=>?_
  refine ae ?_;refine GoF.ret ⟨rfl,_,cT (cI rfl),?_⟩;exact av.ym (n:=999) (fun h=>by simp at h) fun y aw=>by obtain⟨n,_,rfl⟩:=bQ.1 (show y∈(x::l).map zI from aw);rfl
end
def dm:List AV:=[.s [],.i .u8 0,.s [],.aB,.aB,zI 0,.aB,.aB]
abbrev eQ(r:List Nat)(F:Fm)(aY:AV)(s m:AV):List AV:=[.s r,.i .u8 (Int.ofNat F.op),.s F.name,cN true F.c3,dz true F.bm,aY,s,m]
theorem b0a{r:List Nat}{F:Fm}{n:Nat}{s m:AV}(aj:s.cells=[s])(hm:m.cells=[m]):(AV.ag (eQ r F (ay n) s m)).cells=eQ r F (ay n) s m∧conf (some 8) (.ag (eQ r F (ay n) s m))=true:=by
 exact⟨rfl,rfl⟩
theorem Ay{α β:Type}{f:α→Option β}:∀ {l:List α} {r:List β},l.length=r.length→(∀i (h:i<l.length) (h':i<r.length),f l[i]=some r[i])→mapO f l=some r
 |[],[],_,_=>rfl
 |x::l,y::r,ar,h=>by
  have h0:=h 0 (by simp) (by simp);have:=Ay (f:=f) (l:=l) (r:=r) (by simpa using ar) fun i a c=>by have:=h (i+1) (by simpa using a) (by simpa using c);simpa using this
  rw[mapO_cons,this];rw[show f x=some y from h0]
def gj(I:af)(ad:Option Nat)(v:AV)(xs:List AV):Prop:=Sl I ad v xs∧(xs=[]→v= .aB)
theorem gj.nil{I:af}{ad:Option Nat}:gj I ad .aB []:=⟨.nil,fun _=>rfl⟩
theorem gj.aF{I U:af}{ad:Option Nat}{v:AV}{xs:List AV}(h:gj I ad v xs)(k:∀i J,v.bn =some i→I.get i=some J→U.get i=some J):gj U ad v xs:=⟨h.1.aF k,h.2⟩
structure m8(B:Nat)(U:af)(w:AV)(L:List (List AV)):Prop where
 ex:∃us:List AV,us.length=L.length∧Sl U none w us∧(L=[]→w= .aB)∧(∀J,w.bn =some J→B≤J)∧∀i (h:i<us.length) (h':i<L.length),gj U none us[i] L[i]∧∀J,us[i].bn =some J→B≤J∧w.bn ≠some J
theorem m8.nil{B:Nat}{U:af}:m8 B U .aB []:=⟨[],rfl,.nil,fun _=>rfl,(fun J h=>by cases h),fun i h=>by cases h⟩
theorem m8.at_{B:Nat}{U:af}{w:AV}{L:List (List AV)}(h:m8 B U w L){J:Nat}(ab:w.bn =some J):B≤J:=by
 obtain⟨us,h1,h2,h3,ba,aE⟩:=h.ex;exact ba J ab
theorem m8.aF{B:Nat}{I U:af}{w:AV}{L:List (List AV)}(h:m8 B I w L)(k:∀i J,B≤i→I.get i=some J→U.get i=some J):m8 B U w L:=by
 obtain⟨us,h1,h2,h3,ba,aE⟩:=h.ex;exact⟨us,h1,h2.aF fun i J hi=>k i J (ba i hi),h3,ba,fun i a c=>⟨(aE i a c).1.aF fun j J az=>k j J ((aE i a c).2 j az).1,(aE i a c).2⟩⟩
theorem m8.lt{B:Nat}{U:af}{w:AV}{L:List (List AV)}(h:m8 B U w L){J:Nat}(ab:w.bn =some J):J<U.next:=by
 obtain⟨us,h1,h2,h3,aE⟩:=h.ex;exact h2.lt ab
theorem m8.push{B:Nat}{I U:af}{w u an:AV}{L:List (List AV)}{x us:List AV}{n:Nat}(ar:us.length=L.length)(aE:∀i (h:i<us.length) (h':i<L.length),gj I none us[i] L[i]∧∀J,us[i].bn =some J→B≤J∧w.bn ≠some J)(hu:gj I none u x)(bx:∀J,u.bn =some J→B≤J∧w.bn ≠some J)(aj:Sl U none an (us++[u]))(ha:an.bn =some n)(hn:I.next≤n)(c4:B≤I.next)(k:∀i J,w.bn ≠some i→I.get i=some J→U.get i=some J):m8 B U an (L++[x]):=by
 refine⟨us++[u],by simp[ar],aj,fun e=>by simp at e,fun J ab=>by rw[ha] at ab;cases ab;omega,fun i h h'=>?_⟩;rw[cR] at h h';by_cases hi:i<us.length
 ·rw[jn hi,jn (by omega)];obtain⟨a,c⟩:=aE i hi (by omega);exact⟨a.aF fun j J az ab=>k j J (c j az).2 ab,fun J ab=>⟨(c J ab).1,fun e=>by rw[ha] at e;cases e;have:=a.1.lt ab;omega⟩⟩
 ·have e:i=us.length:=by simp at h;omega
  subst e;rw[jG (o _),jG (by omega)];simp only[kj,ar,mJ];exact⟨hu.aF fun j J az ab=>k j J (bx j az).2 ab,fun J ab=>⟨(bx J ab).1,fun e=>by rw[ha] at e;cases e;have:=hu.1.lt ab;omega⟩⟩
theorem b0b{I:af}{n:Nat}{J:Bool}{ad:Option Nat}(l:List AV):freeze I 0 (n+1) (slA J ad l)=some (slA J ad l):=by cases l<;>rfl
def qV(l:List Int)(n:Int):List Int:=l.takeWhile (fun x=>decide (x<n))++n::l.dropWhile (fun x=>decide (x<n))
theorem Vr{l:List Int}{n:Int}{i:Nat}(h:∀x∈l.take i,x<n)(h2:∀x,(l.drop i).head? =some x→¬x<n):qV l n=l.take i++n::l.drop i:=by
 unfold qV;have h1:∀x∈l.take i,(fun x:Int=>decide (x<n)) x=true:=fun x hx=>decide_eq_true (h x hx);conv=>lhs;rw[←nf i l]
 rw[List.takeWhile_append_of_pos h1,List.dropWhile_append_of_pos h1];have e:(l.drop i).takeWhile (fun x=>decide (x<n))=[]∧(l.drop i).dropWhile (fun x=>decide (x<n))=l.drop i:=by
  cases au:l.drop i with
  |nil=>exact⟨rfl,rfl⟩
  |cons y r=>
   have:=h2 y (by rw[au];rfl);rw[List.takeWhile_cons,List.dropWhile_cons,decide_eq_false this];exact⟨rfl,rfl⟩
 rw[e.1,e.2,fV]
theorem Vs(l:List Int)(n:Int):(qV l n).length=l.length+1:=by
 unfold qV;rw[cR,fH];have:=congrArg List.length (R6 (p:=fun x:Int=>decide (x<n)) (l:=l));rw[cR] at this;omega
def lC(s:Bool×List Int)(n:Int):Bool×List Int:=cond (decide (n∈s.2)) (true,s.2) (false,qV s.2 n)
abbrev hK(J:Bool)(l:List Int):AV:=slA J none (l.map zI)
theorem b0c{I:af}{k:Nat}(J:Bool)(l:List Int):bh I (k+2) (hK J l)=some (hK true l):=by
 cases l with
 |nil=>rfl
 |cons x l=>exact rX (k:=k) J (some (x::l))
theorem DT(l:List Int)(J:Bool):hK J l=b5 J (cM l):=by cases l<;>rfl
mutual
def labP:Prf→Bool×List Int
 | .mk r _ l none _=>(false,cond (eqL r []) [l] [])
 | .mk r _ l (some s) _=>labS s (false,cond (eqL r []) [l] [])
def labS:List Prf→Bool×List Int→Bool×List Int
 |[],a=>a
 |p::s,a=>labS s ((labP p).2.foldl lC a)
end
theorem Vt:∀(s:List Prf) (a:Bool×List Int),labS s a=s.foldl (fun a q=>(labP q).2.foldl lC a) a
 |[],a=>by rw[labS];rfl
 |p::s,a=>by rw[labS,Vt s];rfl
theorem Ng(p:Prf):labP p=p.sub.foldl (fun a q=>(labP q).2.foldl lC a) (false,cond (eqL p.rule []) [p.aY] []):=by
 obtain⟨r,f,l,s,m⟩:=p;cases s with
 |none=>rw[labP];rfl
 |some s=>rw[labP,Vt];rfl
theorem b0d(a:Bool×List Int)(n:Int):(lC a n).2.length≤a.2.length+1:=by
 unfold lC;cases decide (n∈a.2) with
 |true=>rw[cond_true];show a.2.length≤_;omega
 |false=>rw[cond_false];show(qV a.2 n).length≤_;rw[Vs];omega
theorem Vu(m:List Int):∀a:Bool×List Int,(m.foldl lC a).2.length≤a.2.length+m.length:=by
 induction m with
 |nil=>intro a;exact o _
 |cons n m aA=>intro a;have:=aA (lC a n);have:=b0d a n;rw[nh,fH];omega
theorem Nh{s:List Prf}(h:∀q∈s,(labP q).2.length≤q.cnt):∀a:Bool×List Int,(s.foldl (fun a q=>(labP q).2.foldl lC a) a).2.length≤a.2.length+Prf.l2 s:=by
 induction s with
 |nil=>intro a;exact o _
 |cons q s aA=>
  intro a;have h1:=aA (fun q hq=>h q (.tail _ hq)) ((labP q).2.foldl lC a);have h2:=Vu (labP q).2 a;have h3:=h q (.head _);have aE:Prf.l2 (q::s)=q.cnt+Prf.l2 s:=by show(List.flatMap _ _).length=_;rw[eG,cR]
  rw[nh];omega
theorem Az:∀(d:Nat) (p:Prf),p.cJ≤d→(labP p).2.length≤p.cnt
 |0,p,h=>by have:=p.m5;omega
 |d+1,p,h=>by
  have h1:=Nh (s:=p.sub) (fun q hq=>Az d q (by have:=Prf.my hq;omega)) (false,cond (eqL p.rule []) [p.aY] []);rw[Ng,Prf.uN];have:(cond (eqL p.rule []) [p.aY] []).length≤1:=by cases eqL p.rule []<;>simp
  show _≤Prf.l2 p.sub+1;have e:(false,cond (eqL p.rule []) [p.aY] []).2.length≤1:=this;omega
mutual
def fS(n:Int):Prf→Bool
 | .mk r _ l none _=>eqL r []&&decide (l=n)
 | .mk r _ l (some s) m=>(eqL r []&&decide (l=n))||opL n (m.getD []) s
def opL(n:Int):List (Option (List Int))→List Prf→Bool
 |_,[]=>false
 |m,p::s=>(!decide (n∈(m.headD none).getD [])&&fS n p)||opL n m.tail s
end
theorem yt(n:Int)(p:Prf):fS n p=((eqL p.rule []&&decide (p.aY=n))||opL n p.aG p.sub):=by
 obtain⟨r,f,l,s,m⟩:=p;cases s with
 |none=>
  rw[fS];show _=((eqL r []&&decide (l=n))||opL n (m.getD []) []);rw[opL,Bool.or_false]
 |some s=>rw[fS];rfl
theorem b0e(n:Int){m:List (Option (List Int))}{s:List Prf}{j:Nat}(h:j<s.length):opL n (m.drop j) (s.drop j)=((!decide (n∈(m.getD j none).getD [])&&fS n s[j])||opL n (m.drop (j+1)) (s.drop (j+1))):=by
 rw[sk h,opL,List.headD_eq_head?_getD,vk,← fU,List.tail_drop]
theorem b0f.ak{U:af}{k:Nat}{x:Int}(h:U.get k=some (.cells [zI x])):Sl U none (.ak k 0 1 none (some 1)) ([x].map zI):=
 .ak k (some 1) [zI x] [] h (fun y aw=>by rw[d_.1 aw];rfl) (.inr rfl)
def jr(p:Prf):List Int:=(labP p).2.filter fun n=>fS n p
def kO(p:Prf):Int:=(iK p []).foldl max 0
theorem W.DU{b0:lv}{env:Env}{aI:Option Nat}{D:List (Nat ⊕ (AV×List AV))}{n:Nat}{F:List (Nat×AV)}{z:Nat→AV}{I:af}{Q:e5}{d:Nat}{x y:aC}{g:Option (Nat×Bool)}{ops:List a1}{a c:Int}(au:Nat.blt d n=true)(hw:wtL g n F=true)(h1:cq env n F z x=some (zI a))(h2:cq env n F z y=some (zI c))(h:bL b0 env aI D n ops (bC ((d,zI (max a c))::F) z) I Q):bL b0 env aI D n (⟨some d,.lO true x y,g,[]⟩::ops) (bC F z) I Q:=by
 refine W.val (v:=zI (max a c)) (aq:=I) au hw ?_ h;show(match cq env n F z x,cq env n F z y with|some (.i k a),some (.i l b)=>if k=l then some (bq.val (.i k (if b > a then b else a)) I) else none|some (.fo n),some (.i .i64 (.ofNat j))=>cond (Bool.not true&&Nat.ble j n) (some (.val (.i .i64 (Int.ofNat j)) I)) none|some (.i .i64 (.ofNat j)),some (.fo n)=>cond (Bool.not true&&Nat.ble j n) (some (.val (.i .i64 (Int.ofNat j)) I)) none|_,_=>none)=_;rw[h1,h2];show(if IntKind.i64=IntKind.i64 then some (bq.val (.i .i64 (if c > a then c else a)) I) else none)=_;rw[if_pos rfl];have:(if c > a then c else a)=max a c:=by split<;>omega
 rw[this]
section
variable {b:dW}{K:Nat→List AV→AV→Prop}
theorem b0g(hfn:∀g aR r bs,K g aR r→K g aR bs→r=bs)(p:Prf)(c4:∀x∈p.pre,qT b x)(dJ:(bN p).length<2^40)
  (hm:cY (b.a4 K) DC Hq) (e:b.ext hU=0∧b.pure hU=true) (cl:∀(l:List Int) (n:Int),l.length<2^40→K hU [slA true none (l.map zI),zI n] (.b (decide (n∈l))))
  (body:bB) (hb:Hs.body=some body):GoF (b.a4 K) Hs.ntmps body (eS [.ag (prC true p)]) ⟨.nil,0⟩ (gi Hs.results (zI (kO p))):=by
 cases hb;refine W.args fun z=>?_;have H:Has (⟨.nil,0⟩:af) []:=Has.nil;refine ae ?_;refine W.en (c:=prC true p) H rfl rfl rfl rfl (dQ true p).1 (dQ true p).2.1 fun fZ cG H bE=>?_;refine ae ?_;refine W.dX rfl rfl rfl (Vq hfn hm e cl p.cJ p (o _) c4 (I:=fZ) (v:=.aB) (l:=[]) ⟨.nil,fun _=>rfl⟩ (by simpa using dJ)) fun r bd ⟨w,dA,hw,eh,bb,_⟩=>⟨_,dA,?_⟩
 have hlen:=Nd p [];refine ae ?_;unfold kO;generalize iK p []=L at hw hlen;have lU:Sl bd none w (L.map zI):=hw.1;refine GoF.block (GoF.loop (fun k F U=>∃j,j+k=L.length∧U=bd∧sat [(3,w),(4,zI ((L.take j).foldl max 0)),(5,ay j)] F) (fun k F U aZ=>?_) L.length ⟨0,by omega,rfl,rfl,rfl,rfl,trivial⟩);obtain⟨j,az,rfl,aX⟩:=aZ;refine GoF.norm _ aX fun F=>?_;clear aX;have H:Has U []:=Has.nil;have xm:lenA U 1 w=some L.length:=by rw[lU.len,aJ]
 have Ni:(L.map zI).length=L.length:=aJ _;simp only[lx] at hlen;by_cases bS:j<L.length
 ·have cV:=fG bS;obtain⟨J,c,r,h0,h1,h2,h3,aE⟩:=lU.hc (j:=j) (by rw[aJ];exact bS);rw[fQ] at aE;generalize L[j]=y at cV aE;refine ae ?_;refine W.len rfl rfl rfl xm ?_;refine ae ?_;refine W.cw rfl rfl rfl rfl h1 ?_;refine ae ?_;refine W.a9b h2 rfl rfl rfl aE ?_;refine ae ?_;refine W.DU rfl rfl rfl rfl ?_;refine ae ?_;exact⟨k-1,by omega,j+1,by omega,rfl,rfl,by show zI _=zI _;rw[cV,kW];rfl,rfl,trivial⟩
 ·refine ae ?_;refine W.len rfl rfl rfl xm ?_;refine ae ?_;refine GoF.exit ?_;show bl _ _ _ _ _ _ _ _;refine ae ?_;exact GoF.ret ⟨rfl,_,cT (cI rfl),by rw[j7 (show L.length≤j by omega)];rfl⟩
end
end
section
variable [Tok][TokOk]
open Go.RowKit Go.Lyc.T
theorem DV{x y:Int}(hx:0≤x)(aw:0≤y)(h:x+y<2^63):binop .add (zI x) (zI y)=some (zI (x+y)):=by
 obtain⟨a,rfl⟩:=Ts hx;obtain⟨c,rfl⟩:=Ts aw;exact Dc (a:=a) (b:=c) (by omega)
theorem b0h{l:List Int}(h:qU l=true):∀n∈l,0≤n∧n≤999:=fun n hn=>by
 obtain⟨i,hi,rfl⟩:=gm hn;have:=hP.1 h i (Aq.2 hi);rw[fU,a9 hi] at this;have h2:kd (l.take i) l[i]=true:=this;unfold kd at h2;simp only[cx,decide_eq_true_eq] at h2;exact⟨h2.1,h2.2.1⟩
theorem Vv{p:Prf}(h:f_ p=true):p.aG.length=p.sub.length∧(0≤p.aY∧p.aY≤999)∧∀m∈p.aG,∀n∈m.getD [],0≤n∧n≤999:=by
 unfold f_ at h;cases h1:(eqL p.rule []||eqL p.rule [63]) with
 |true=>
  rw[h1] at h;simp only[cond_true,cx,decide_eq_true_eq] at h;obtain⟨a,c,d⟩:=h;refine⟨by omega,?_,fun m hm=>by rw[l0.1 c] at hm;simp at hm⟩;cases h2:eqL p.rule [63] with
  |true=>rw[h2] at d;simp only[cond_true,decide_eq_true_eq] at d;omega
  |false=>rw[h2] at d;simp only[cond_false,cx,decide_eq_true_eq] at d;omega
 |false=>
  rw[h1] at h;simp only[cond_false,cx,decide_eq_true_eq,hP] at h;exact⟨h.2.1.symm,by omega,fun m hm n hn=>b0h (h.2.2 m hm) n hn⟩
def shl(r:List Nat)(aF ins:List Int)(l m:Int):Int:=cond (eqL r []&&(decide (l∈ins)|| !decide (l∈aF))) (l+m) l
def gk(m n:Int):Int:=if n=0 then 0 else n+m
def uP(m:Int)(l:List (Option (List Int))):kb:=cM (l.map fun x=>cM ((x.getD []).map (gk m)))
mutual
def shP(aF:List Int)(m:Int):Prf→List Int→Prf
 | .mk r F l none mk,ins=>.mk r F (shl r aF ins l m) none (uP m (mk.getD []))
 | .mk r F l (some s) mk,ins=>.mk r F (shl r aF ins l m) (cM (shPs aF m (mk.getD []) s ins)) (uP m (mk.getD []))
def shPs(aF:List Int)(m:Int):List (Option (List Int))→List Prf→List Int→List Prf
 |_,[],_=>[]
 |mk,p::s,ins=>shP aF m p (ins++(mk.headD none).getD [])::shPs aF m mk.tail s ins
end
theorem Vw(aF:List Int)(m:Int):∀(mk:List (Option (List Int))) (s:List Prf) (ins:List Int),mk.length=s.length→shPs aF m mk s ins=List.zipWith (fun x q=>shP aF m q (ins++x.getD [])) mk s
 |[],[],ins,_=>by rw[shPs];rfl
 |x::mk,p::s,ins,h=>by rw[shPs,K6,Vw aF m mk s ins (by simpa using h)];rfl
theorem Vx(aF:List Int)(m:Int)(p:Prf)(ins:List Int)(h:p.aG.length=p.sub.length):shP aF m p ins= .mk p.rule p.form (shl p.rule aF ins p.aY m) (cM (List.zipWith (fun x q=>shP aF m q (ins++x.getD [])) p.aG p.sub)) (uP m p.aG):=by
 obtain⟨r,F,l,s,mk⟩:=p;cases s with
 |none=>
  have h':(mk.getD []).length=0:=h;rw[shP];show _=Prf.mk r F _ (cM (List.zipWith _ (mk.getD []) [])) (uP m (mk.getD []));rw[l0.1 h'];rfl
 |some s=>rw[shP,Vw aF m (mk.getD []) s ins h];rfl
theorem Sl.b0i{I:af}{ad:Option Nat}{v:AV}{xs aO:List AV}{m:Nat}(aj:Sl I ad v xs)(hn:∃J,v.bn =some J)(hm:mapO (bh I m) xs=some aO):bh I (m+1) v=some (.a7 true ad aO):=by
 have al:=aj.read;cases aj with
 |nil=>obtain⟨J,h⟩:=hn;cases h
 |ak J cap xs rest hg ah aD=>
  rw[snapshot_succ];simp only[al,hm]
theorem Vy{I:af}{v x:AV}{l r:List Int}(h:Sl I none v (l.map zI))(hx:newOf I x=some (r.map zI))(hlen:l.length+r.length<2^41)(av:∃J,v.bn =some J):∃w U,appendO 0 I none 8 v x=some (w,U)∧Sl U none w ((l++r).map zI)∧I.next≤U.next∧(∀i J,v.bn ≠some i→I.get i=some J→U.get i=some J)∧(∀J,w.bn =some J→v.bn =some J∨I.next≤J)∧∃J,w.bn =some J:=by
 cases r with
 |nil=>
  refine⟨v,I,?_,by rw[fV];exact h,o _,fun _ _ _ h=>h,fun J ab=>.inl ab,av⟩;unfold appendO;rw[hx,h.read];show cond (dw (Go.Lyc.conf none) _&&dw (Go.Lyc.conf none) []&&Nat.ble _ _) _ none=_;rw[mY h.conf,show dw (Go.Lyc.conf none) []=true from rfl,eu (by rw[aJ];show(3*(_+0)+2000)*8≤_;simp only[lx] at hlen;omega)];rfl
 |cons y r=>
  obtain⟨w,U,aP,a0,bF,bU,c6,dL⟩:=h.append (x:=x) (y:=zI y) (aO:=r.map zI) (bytes:=8) hx (fun q hq=>ys (l:=y::r) q hq) (by simp only[aJ,fH] at *;omega);exact⟨w,U,aP,by rw[gK];exact a0,by omega,dL,fun J ab=>by rw[bF] at ab;cases ab;exact .inr (o _),_,bF⟩
theorem IA{env:Env}{n:Nat}{F:List (Nat×AV)}{z:Nat→AV}{I U:af}{ad:Option Nat}{bytes:Nat}{s x:aC}{v y w:AV}(h1:cq env n F z s=some v)(h2:cq env n F z x=some y)(h:appendO 0 I ad bytes v y=some (w,U)):opx 0 (cq env n F z) I (.append ad bytes s x)=some (.val w U):=by
 show(match cq env n F z s,cq env n F z x with|some s,some x=>(match appendO 0 I ad bytes s x with|some (v,I)=>some (bq.val v I)|none=>none)|_,_=>none)=_;rw[h1,h2];simp only[h]
end
section
variable [Tok][TokOk]
open Go.RowKit Go.Lyc.T
attribute [local irreducible] bL bl e6 eB b9
structure lD(P:Nat→Prop)(U:af)(w:AV)(L:List (List AV)):Prop where
 ex:∃us:List AV,us.length=L.length∧Sl U none w us∧(L=[]→w= .aB)∧(∀J,w.bn =some J→P J)∧∀i (h:i<us.length) (h':i<L.length),gj U none us[i] L[i]∧∀J,us[i].bn =some J→P J∧w.bn ≠some J
theorem lD.nil{P:Nat→Prop}{U:af}:lD P U .aB []:=⟨[],rfl,.nil,fun _=>rfl,(fun J h=>by cases h),fun i h=>by cases h⟩
theorem lD.at_{P:Nat→Prop}{U:af}{w:AV}{L:List (List AV)}(h:lD P U w L){J:Nat}(ab:w.bn =some J):P J:=by
 obtain⟨us,h1,h2,h3,ba,aE⟩:=h.ex;exact ba J ab
theorem lD.lt{P:Nat→Prop}{U:af}{w:AV}{L:List (List AV)}(h:lD P U w L){J:Nat}(ab:w.bn =some J):J<U.next:=by
 obtain⟨us,h1,h2,h3,aE⟩:=h.ex;exact h2.lt ab
theorem lD.aF{P gY:Nat→Prop}{I U:af}{w:AV}{L:List (List AV)}(h:lD P I w L)(k:∀i J,P i→I.get i=some J→U.get i=some J∧gY i):lD gY U w L:=by
 obtain⟨us,h1,h2,h3,ba,aE⟩:=h.ex;have bN:∀ {ad:Option Nat} {v:AV} {xs:List AV} {J:Nat},Sl I ad v xs→v.bn =some J→∃c,I.get J=some c:=fun aj ab=>by
  cases aj with
  |nil=>cases ab
  |ak b7 cap xs rest hg _ _=>cases ab;exact⟨_,hg⟩
 refine⟨us,h1,h2.aF fun i J hi ab=>(k i J (ba i hi) ab).1,h3,fun J ab=>by obtain⟨c,ah⟩:=bN h2 ab;exact(k J c (ba J ab) ah).2,fun i a c=>⟨(aE i a c).1.aF fun j J az ab=>(k j J ((aE i a c).2 j az).1 ab).1,fun J ab=>?_⟩⟩;obtain⟨q,hq⟩:=bN (aE i a c).1.1 ab;exact⟨(k J q ((aE i a c).2 J ab).1 hq).2,((aE i a c).2 J ab).2⟩
theorem lD.push{P:Nat→Prop}{I U:af}{w u an:AV}{L:List (List AV)}{x us:List AV}{n:Nat}(ar:us.length=L.length)(aE:∀i (h:i<us.length) (h':i<L.length),gj I none us[i] L[i]∧∀J,us[i].bn =some J→P J∧w.bn ≠some J)(hu:gj I none u x)(bx:∀J,u.bn =some J→P J∧w.bn ≠some J)(aj:Sl U none an (us++[u]))(ha:an.bn =some n)(hn:I.next≤n)(hM:P n)(k:∀i J,w.bn ≠some i→I.get i=some J→U.get i=some J):lD P U an (L++[x]):=by
 refine⟨us++[u],by simp[ar],aj,fun e=>by simp at e,fun J ab=>by rw[ha] at ab;cases ab;exact hM,fun i h h'=>?_⟩;rw[cR] at h h';by_cases hi:i<us.length
 ·rw[jn hi,jn (by omega)];obtain⟨a,c⟩:=aE i hi (by omega);exact⟨a.aF fun j J az ab=>k j J (c j az).2 ab,fun J ab=>⟨(c J ab).1,fun e=>by rw[ha] at e;cases e;have:=a.1.lt ab;omega⟩⟩
 ·have e:i=us.length:=by simp at h;omega
  subst e;rw[jG (o _),jG (by omega)];simp only[kj,ar,mJ];exact⟨hu.aF fun j J az ab=>k j J (bx j az).2 ab,fun J ab=>⟨(bx J ab).1,fun e=>by rw[ha] at e;cases e;have:=hu.1.lt ab;omega⟩⟩
mutual
def ga(n:Int)(q:Prf):Prf→Prf
 | .mk r F l none m=>cond (eqL r []&&decide (l=n)) q (.mk r F l none m)
 | .mk r F l (some s) m=>cond (eqL r []&&decide (l=n)) q (.mk r F l (cM (DW n q (m.getD []) s)) m)
def DW(n:Int)(q:Prf):List (Option (List Int))→List Prf→List Prf
 |_,[]=>[]
 |m,p::s=>cond (decide (n∈(m.headD none).getD [])) p (ga n q p)::DW n q m.tail s
end
abbrev hj(n:Int)(q:Prf)(x:Option (List Int))(y:Prf):Prf:=cond (decide (n∈x.getD [])) y (ga n q y)
theorem Nj(n:Int)(q:Prf):∀(m:List (Option (List Int))) (s:List Prf),m.length=s.length→DW n q m s=List.zipWith (hj n q) m s
 |[],[],_=>by rw[DW];rfl
 |x::m,p::s,h=>by rw[DW,K6,Nj n q m s (by simpa using h)];rfl
theorem b0j(n:Int)(q p:Prf)(h:p.aG.length=p.sub.length):ga n q p=cond (eqL p.rule []&&decide (p.aY=n)) q (.mk p.rule p.form p.aY (match p.bm with|none=>none|some _=>cM (List.zipWith (hj n q) p.aG p.sub)) p.cv):=by
 obtain⟨r,F,l,s,m⟩:=p;cases s with
 |none=>rw[ga];rfl
 |some s=>rw[ga,Nj n q (m.getD []) s h];rfl
def hN(p q:Prf):Int:=(jr q).foldl max (kO p)
def ke(p q:Prf):Prf:=shP (jr q) (hN p q) q []
end
section
variable [Tok][TokOk]
open Go.RowKit Go.Lyc.T
section
variable {env:Env}{D gN Gj:List (Nat ⊕ (AV×List AV))}{n:Nat}{f:Nat→AV}{I:af}{Q:e5}
theorem fM.b0k{r4:aC}{ps:List Nat}{aa b:bB}{g:Nat}{first cap:List AV}(hf:ik env n f r4=some (.f (.func g) first cap))(he:env.ext g=0)
  (h:∀ak,(∀i,ak.get i=if i<n then some (f i) else none)→b9 env 0 (.f (.func g) first cap) [.f (.yield (I.next+1)) [] []] ((I.push .g2).push (.loop .ready none ak ps aa b I.next))
   (fun r je=>∃v,r= .ok v∧((∃st,je.get (I.next+1)=some (.loop st none ak ps aa b I.next)∧st≠ .busy∧Q .normal f (je.set (I.next+1) (.loop .exhausted none ak ps aa b I.next)))∨
    (je.get (I.next+1)=some (.loop .done (some .ret) ak ps aa b I.next)∧Q .ret f (je.set (I.next+1) (.loop .exhausted (some .ret) ak ps aa b I.next)))))):
  fM env D (.inl I.next::D) n (.rangeFunc r4 ps aa b) f I Q:=fun ai bY=>by
 have h':=h ai.bk bY.get;refine dr.succ (dr.then (g:=fun x F=>rangeK (exec env F) 0 none ai (.inl I.next::ai.defers) (I.next+1) x) h' fun J ab=>?_) fun F=>?_
 ·obtain⟨r,je⟩:=J;obtain⟨v,h1,h2⟩:=ab;have h1:r= .ok v:=h1;subst h1;rcases h2 with⟨st,h2,h3,aE⟩|⟨h2,aE⟩
  ·have h2:je.get (I.next+1)=some (.loop st none ai.bk ps aa b I.next):=h2;refine dr.one (x:=(.normal,⟨ai.bk,.inl I.next::ai.defers,ai.fA⟩,je.set (I.next+1) (.loop .exhausted none ai.bk ps aa b I.next))) (fun F=>?_) ⟨f,⟨bY.get,by show _::ai.defers=_;rw[bY.ds],bY.rc⟩,aE⟩;show(match je.get (I.next+1) with
    |some (.loop st kE qj lQ hz gL dT)=>(match st with
     | .busy=>none
     |_=>match kE with
      |none=>some [(hQ.normal,(⟨ai.bk,.inl I.next::ai.defers,ai.fA⟩:Fr),je.set (I.next+1) (.loop .exhausted kE qj lQ hz gL dT))]
      |some c=>exec env F 0 none c ⟨ai.bk,.inl I.next::ai.defers,ai.fA⟩ (je.set (I.next+1) (.loop .exhausted kE qj lQ hz gL dT)))
    |_=>none)=_
   rw[h2];cases st with
   |busy=>exact absurd rfl h3
   |_=>rfl
  ·have h2:je.get (I.next+1)=some (.loop .done (some .ret) ai.bk ps aa b I.next):=h2;refine dr.succ (dr.one (x:=(.ret,⟨ai.bk,.inl I.next::ai.defers,ai.fA⟩,je.set (I.next+1) (.loop .exhausted (some .ret) ai.bk ps aa b I.next))) (fun F=>rfl) ⟨f,⟨bY.get,by show _::ai.defers=_;rw[bY.ds],bY.rc⟩,aE⟩) fun F=>?_;show(match je.get (I.next+1) with
    |some (.loop st kE qj lQ hz gL dT)=>(match st with
     | .busy=>none
     |_=>match kE with
      |none=>some [(hQ.normal,(⟨ai.bk,.inl I.next::ai.defers,ai.fA⟩:Fr),je.set (I.next+1) (.loop .exhausted kE qj lQ hz gL dT))]
      |some c=>exec env (F+1) 0 none c ⟨ai.bk,.inl I.next::ai.defers,ai.fA⟩ (je.set (I.next+1) (.loop .exhausted kE qj lQ hz gL dT)))
    |_=>none)=_
   rw[h2];show exec env (F+1) 0 none .ret _ _=_;rw[pC];rfl
 ·rw[pC];show(if Nat.blt I.next 0 then none else
   match evalA env ai.bk r4 with
   |some (.f (.func g) first cap)=>
    match BK none ai I with
    |none=>none
    |some (d,b3,ds)=>
     match env.ext g with
     |0=>kl (callF env (exec env F) 0 g (first++AV.f (.yield b3.next) [] []::cap) (b3.push (.loop .ready none ai.bk ps aa b d))) (rangeK (exec env F) 0 none ai ds b3.next)
     |_=>none
   |_=>none)=_
  rw[if_neg (by simp[Nat.blt,Nat.ble]),bY.ao,hf];show(match env.ext g with
     |0=>kl (callF env (exec env F) 0 g (first++AV.f (.yield (I.next+1)) [] []::cap) ((I.push .g2).push (.loop .ready none ai.bk ps aa b I.next))) (rangeK (exec env F) 0 none ai (.inl I.next::ai.defers) (I.next+1))
     |_=>none)=_
  rw[he];show kl (callF env (exec env F) 0 g (first++AV.f (.yield (I.next+1)) [] []::cap) _) _=kl (callF env (exec env F) 0 g (first++[AV.f (.yield (I.next+1)) [] []]++cap) _) _;rw[iw];rfl
end
theorem b9.b0l{env:Env}{l n:Nat}{f:Nat→AV}{I:af}{ak:aT AV}{ps:List Nat}{aa b:bB}{d:Nat}{args:List AV}{R:Bool→af→Prop}(ar:I.get l=some (.loop .ready none ak ps aa b d))(ko:∀i,ak.get i=if i<n then some (f i) else none)(DX:dw (fun p=>Nat.blt p n) ps=true)(hlen:Nat.beq ps.length args.length=true)
  (h:bl env (some l) [] n aa (G9 ps args f) I (fun x f1 b3=>x= .normal∧b3.get l=some (.loop .ready none ak ps aa b d)∧
   bl env (some l) [] n b f1 (b3.set l (.loop .busy none ak ps aa b d)) (fun x _ dD=>dD.get l=some (.loop .busy none ak ps aa b d)∧(x= .normal∧R true (dD.set l (.loop .ready none ak ps aa b d))∨x= .ret∧R false (dD.set l (.loop .done (some .ret) ak ps aa b d)))))):
  b9 env 0 (.f (.yield l) [] []) args I (fun r aq=>∃cE,r= .ok (.b cE)∧R cE aq):=by
 have h1:=h _ (Uk (args:=args) DX ko);refine dr.congr (dr.then (g:=fun x F=>roundMid (exec env F) 0 l b x) h1 fun J ab=>?_) fun F=>?_
 ·obtain⟨x,fL,b3⟩:=J;obtain⟨f1,Mq,hx,hl1,h2⟩:=ab;have hx:x= .normal:=hx;subst hx;have hl1:b3.get l=some (.loop .ready none ak ps aa b d):=hl1;refine dr.congr (dr.then (g:=fun x _=>roundEnd l x) (h2 fL Mq) fun J ab=>?_) fun F=>?_
  ·obtain⟨x,c3l,dD⟩:=J;obtain⟨f2,_,hl2,bD⟩:=ab;have hl2:dD.get l=some (.loop .busy none ak ps aa b d):=hl2;rcases bD with⟨hx,bD⟩|⟨hx,bD⟩
   ·have hx:x= .normal:=hx;subst hx;refine dr.one (x:=(.ok (.b true),dD.set l (.loop .ready none ak ps aa b d))) (fun _=>?_) ⟨true,rfl,bD⟩;show(endRound dD l none).map (fun x=>[x])=_;unfold endRound;rw[hl2];rfl
   ·have hx:x= .ret:=hx;subst hx;refine dr.one (x:=(.ok (.b false),dD.set l (.loop .done (some .ret) ak ps aa b d))) (fun _=>?_) ⟨false,rfl,bD⟩;show(endRound dD l (some .ret)).map (fun x=>[x])=_;unfold endRound;rw[hl2];rfl
  ·show(match b3.get l with
    |some (.loop .ready kE qj lQ hz gL dT)=>kl (exec env F 0 (some l) b fL (b3.set l (.loop .busy kE qj lQ hz gL dT))) (roundEnd l)
    |_=>none)=_
   rw[hl1]
 ·show(if Nat.blt l 0 then none else
   match I.get l with
   |some (.loop .ready _ ak ps aa b _)=>cond (Nat.beq ps.length args.length) (kl (exec env F 0 (some l) aa ⟨layAll ps args ak,[],false⟩ I) (roundMid (exec env F) 0 l b)) none
   |_=>none)=_
  rw[if_neg (by simp[Nat.blt,Nat.ble]),ar];show cond (Nat.beq ps.length args.length) _ none=_;rw[hlen,cond_true]
end
section
variable [Tok][TokOk]
open Go.RowKit Go.Lyc.T
attribute [local irreducible] bL bl e6 eB b9
structure yu(I:af)(p sub:AV):Prop where
 nz:nilOk p=true
 bu:∃q,fieldAddrA 6 none p=some q∧nS I none q=some sub
namespace W
section
variable {b0:lv}{env:Env}{aI:Option Nat}{D:List (Nat ⊕ (AV×List AV))}{n:Nat}{F:List (Nat×AV)}{z:Nat→AV}{I:af}{Q:e5}{g bM b4:Option (Nat×Bool)}{ops:List a1}
theorem Vz{ao:aC→Option AV}{a:aC}{p:AV}(h:ao a=some p)(bg:nilOk p=true):opx 0 ao I (.nilCheck a)=some (.val p I):=by
 show(match ao a with|some v=>cond (nilOk v) (some (bq.val v I)) none|none=>none)=_;rw[h];show cond (nilOk p) _ _=_;rw[bg];rfl
theorem VA{ao:aC→Option AV}{a:aC}{p q:AV}{off:Nat}{ad:Option Nat}(h:ao a=some p)(hq:fieldAddrA off ad p=some q):opx 0 ao I (.fieldAddr off ad a)=some (.val q I):=by
 show(match ao a with|some x=>(match fieldAddrA off ad x with|some v=>some (bq.val v I)|none=>none)|none=>none)=_;rw[h];show(match fieldAddrA off ad p with|some v=>some (bq.val v I)|none=>none)=_;rw[hq]
theorem IB{d:Nat}{v:AV}(au:Nat.blt d n=true):cq env n ((d,v)::F) z (.t d)=some v:=by
 show cond (Nat.blt d n) (match cond (Nat.beq d d) (some v) _ with|some v=>some v|none=>some (z d)) none=_;rw[au,fy];rfl
theorem DY{p v:AV}(DZ:yu I p v){a:aC}{d1 d2 d3:Nat}(h1:Nat.blt d1 n=true)(h2:Nat.blt d2 n=true)(h3:Nat.blt d3 n=true)(hw:wtL g n F=true)(ha:cq env n F z a=some p)
  (lU:∀q,wtL bM n ((d1,p)::F)=true∧wtL b4 n ((d2,q)::(d1,p)::F)=true) (h:∀q,bL b0 env aI D n ops (bC ((d3,v)::(d2,q)::(d1,p)::F) z) I Q):bL b0 env aI D n (⟨some d1,.nilCheck a,g,[]⟩::⟨some d2,.fieldAddr 6 none (.t d1),bM,[]⟩::⟨some d3,.load none (.t d2),b4,[]⟩::ops) (bC F z) I Q:=by
 obtain⟨q,aM,e2⟩:=DZ.bu;exact val h1 hw (Vz ha DZ.nz) (val h2 (lU q).1 (VA (IB h1) aM) (val h3 (lU q).2 (rL _ _ (IB h2) e2) (h q)))
theorem b0m{d:Nat}{x hi:aC}{v:AV}{xs:List AV}{k:Nat}(h:Sl I none v xs)(hn:∀J l c,v= .ak J 0 l none c→c=none)(aD:k≤xs.length)(au:Nat.blt d n=true)(hw:wtL g n F=true)(h1:cq env n F z x=some v)(h2:cq env n F z hi=some (ay k))
  (ah:∀w,Sl I none w (xs.take k)→w.bn =v.bn →(∀J l c,w= .ak J 0 l none c→c=none)→bL b0 env aI D n ops (bC ((d,w)::F) z) I Q):bL b0 env aI D n (⟨some d,.kX none x none (some hi) none,g,[]⟩::ops) (bC F z) I Q:=by
 obtain⟨w,aM,e2,dn,fe⟩:=Sl.cut (ao:=cq env n F z) (hi:=hi) (k:=k) h hn aD h2;refine val (v:=w) (aq:=I) au hw ?_ (ah w e2 dn fe);show(match cq env n F z x with|some x=>(match sliceA (cq env n F z) none x none (some hi) none with|some v=>some (bq.val v I)|none=>sliceX I (cq env n F z) none x none (some hi) none)|none=>none)=_;rw[h1];show(match sliceA (cq env n F z) none v none (some hi) none with|some v=>some (bq.val v I)|none=>sliceX I (cq env n F z) none v none (some hi) none)=_;rw[aM]
end
end W
structure r5(I:af)(dt:Nat)(V:Nat→Prop)(v:AV)(l:Nat):Prop where
 ex:∃xs:List AV,Sl I none v xs∧xs.length=l
 a8q:∀J l c,v= .ak J 0 l none c→c=none
 own:∀J,v.bn =some J→dt+3≤J∧¬V J
theorem r5.aF{I U:af}{dt:Nat}{V kz:Nat→Prop}{v:AV}{l:Nat}(h:r5 I dt V v l)(aD:∀c J,dt+3≤c→¬V c→I.get c=some J→U.get c=some J)(av:∀c,c<I.next→kz c→V c):r5 U dt kz v l:=by
 obtain⟨⟨xs,h1,h2⟩,h3,aE⟩:=h;exact⟨⟨xs,h1.aF fun i J hi=>aD i J (aE i hi).1 (aE i hi).2,h2⟩,h3,fun J ab=>⟨(aE J ab).1,fun h=>(aE J ab).2 (av J (h1.lt ab) h)⟩⟩
inductive Sh
 |mk (ptr sub:AV) (kids:List Sh)
def Sh.ptr:Sh→AV| .mk p _ _=>p
def Sh.sub:Sh→AV| .mk _ s _=>s
def Sh.kids:Sh→List Sh| .mk _ _ k=>k
mutual
def Sh.pre(l:Nat):Sh→List (Nat×Sh)
 | .mk p s k=>(l,.mk p s k)::Sh.pres (l+1) k
def Sh.pres(l:Nat):List Sh→List (Nat×Sh)
 |[]=>[]
 |s::r=>s.pre l++Sh.pres l r
end
theorem Sh.DM(l:Nat):∀r,Sh.pres l r=r.flatMap (Sh.pre l)
 |[]=>by rw[Sh.pres];rfl
 |s::r=>by rw[Sh.pres,Sh.DM l r];rfl
theorem Sh.gB(l:Nat)(s:Sh):s.pre l=(l,s)::s.kids.flatMap (Sh.pre (l+1)):=by
 obtain⟨p,v,k⟩:=s;rw[Sh.pre,Sh.DM];rfl
mutual
def Sh.ht:Sh→Nat
 | .mk _ _ k=>Sh.ig k+1
def Sh.ig:List Sh→Nat
 |[]=>0
 |s::r=>max s.ht (Sh.ig r)
end
theorem Sh.VB:∀ {r:List Sh} {s:Sh},s∈r→s.ht≤Sh.ig r
 |g::l,p,h=>by
  rw[Sh.ig];rcases cH.1 h with rfl|h
  ·omega
  ·have:=Sh.VB h;omega
theorem Sh.b0n{s x:Sh}(h:x∈s.kids):x.ht<s.ht:=by
 obtain⟨p,v,k⟩:=s;rw[Sh.ht];have:=Sh.VB (show x∈k from h);omega
structure D0(s:Sh):Prop where
 len:∀I,lenA I 1 s.sub=some s.kids.length
 idx:∀i (h:i<s.kids.length),idxSlA (some 8) s.sub i=some s.kids[i].ptr
 b0o:s.kids.length<2^20
abbrev uQ(dt:Nat):AV:=.f (.func uJ) [] [bo dt,bo (dt+1),bo (dt+2)]
theorem b0p{α β:Type}{f:α→List β}{L:List β}{l:List α}{i:Nat}{k:β}{rest:List β}(h:L.drop i=k::l.flatMap f++rest){j:Nat}(az:j<l.length):L.drop (i+1+((l.take j).flatMap f).length)=f l[j]++((l.drop (j+1)).flatMap f++rest):=by
 rw[tS,← pb,h,qf 1,wF,List.drop_succ_cons];have e:l.flatMap f=(l.take j).flatMap f++(f l[j]++(l.drop (j+1)).flatMap f):=by
  conv=>lhs;rw[←nf j l,sk az]
  rw[il,eG]
 rw[e,iw,List.drop_left,iw]
theorem b0q{α β:Type}{f:α→List β}{l:List α}{j:Nat}(az:j<l.length):((l.take (j+1)).flatMap f).length=((l.take j).flatMap f).length+(f l[j]).length:=by
 rw[fG az,il,cR,eG,y_,fV]
section
variable {b:dW}{K:Nat→List AV→AV→Prop}
def b0r(kx tr:DJ)(dt:Nat)(y:Nat)(N l:Nat)(V:Nat→Prop)(I:af)(i:Nat)(r:dM)(U:af):Prop:=
 ∃cE,r= .ok (.b cE)∧I.next≤U.next∧(cE=true→∃kz a2,kx (i+N) kz U∧U.get dt=some (.cells [.f (.yield y) [] []])∧U.get (dt+1)=some (.cells [a2])∧U.get (dt+2)=some (.cells [uQ dt])∧r5 U dt kz a2 l∧(∀c,kz c→V c∨I.next≤c∧c<U.next)∧∀c J,c<dt→¬V c→I.get c=some J→U.get c=some J)∧
  (cE=false→∃eC kz,tr eC kz U)
theorem b0s(hh:cY (b.a4 K) uJ wb){root:Sh}{y dt:Nat}{kx tr:DJ}(dp:U9 dt kx)(D1:∀x∈root.pre 0,D0 x.2)(qx:∀i W U,kx i W U→∀x∈root.pre 0,yu U x.2.ptr x.2.sub)
  (aw:∀i W b1 v l s,(root.pre 0)[i]? =some (l,s)→dt≤b1.next→r5 b1 dt W v l→kx i W b1→b9 (b.a4 K) 0 (.f (.yield y) [] []) [v,s.ptr] b1 (fun r bd=>∃cE,r= .ok (.b cE)∧((cE=true∧∃W',kx (i+1) W' bd∧yl W W' b1 bd)∨(cE=false∧∃W',tr i W' bd∧b1.next≤bd.next)))):
  ∀(h:Nat) (s:Sh),s.ht≤h→∀ {I:af} {V:Nat→Prop} {i l:Nat} {v:AV} (rest:List (Nat×Sh)),kx i V I→dt+3≤I.next→I.get dt=some (.cells [.f (.yield y) [] []])→I.get (dt+1)=some (.cells [v])→I.get (dt+2)=some (.cells [uQ dt])→r5 I dt V v l→l+s.ht<2^20→(root.pre 0).drop i=s.pre l++rest→(∀c,V c→c<I.next∧(c<dt∨dt+3≤c))→
   b9 (b.a4 K) 0 (uQ dt) [s.ptr] I (b0r kx tr dt y (s.pre l).length l V I i):=fun h=>by
 induction h with
 |zero=>intro s aj;obtain⟨p,v,k⟩:=s;rw[Sh.ht] at aj;omega
 |succ h aA=>
 intro s aj I V i l v rest wB hn uD mn xo pq AA hL hV;refine W.code hh.e hh.p hh.f rfl rfl rfl rfl fun z=>?_;have H:Has I [(dt,[.f (.yield y) [] []]),(dt+1,[v]),(dt+2,[uQ dt])]:=((Has.nil.cons xo (by simp)).cons mn (by simp)).cons uD (by simp);rw[Sh.gB l s] at hL ⊢;have oL:(root.pre 0)[i]? =some (l,s):=by
  have:=congrArg (fun l=>l[0]?) hL;simpa using this
 have uk:(l,s)∈root.pre 0:=qb oL;have c2:=D1 _ uk;have b0t:=c2.b0o;simp only at b0t;obtain⟨⟨pl,VC,FN⟩,KG,D2⟩:=pq;refine ae ?_;refine W.dX rfl rfl rfl (aw i V I v l s oL (by omega) ⟨⟨pl,VC,FN⟩,KG,D2⟩ wB) fun r b1 ⟨cE,e,qq⟩=>⟨_,e,?_⟩
 rcases qq with⟨rfl,D3,IC,nw⟩|⟨rfl,D3,IC,nw⟩
 rotate_left
 ·refine ae ?_;exact GoF.ret ⟨rfl,false,rfl,nw,fun h=>(by cases h),fun _=>⟨i,D3,IC⟩⟩
 have cG:=nw.next;refine ae ?_;have Nk:∀c,dt≤c→c<dt+3→¬V c:=fun c h1 h2 h=>by have:=hV c h;omega
 have ID:=qx _ _ _ IC _ uk;have b0u:r5 b1 dt D3 v l:=r5.aF ⟨⟨pl,VC,FN⟩,KG,D2⟩ (fun c J _=>nw.aF c J) fun c ah h=>by
  rcases nw.own c h with h|h
  ·exact h
  ·omega
 have b0v:∀c,D3 c→V c∨I.next≤c∧c<b1.next:=nw.own;have c8:=nw.aF _ _ (Nk dt (by omega) (by omega)) uD;have aP:=nw.aF _ _ (Nk (dt+1) (by omega) (by omega)) mn;have a0:=nw.aF _ _ (Nk (dt+2) (by omega) (by omega)) xo;have r6:∀c J,c<dt→¬V c→I.get c=some J→b1.get c=some J:=fun c J _=>nw.aF c J;clear nw;refine W.DY ID rfl rfl rfl rfl rfl (fun q=>⟨rfl,rfl⟩) fun q=>?_;refine ae ?_;refine W.len rfl rfl rfl (c2.len _) ?_;refine ae ?_;show bl _ _ _ _ _ _ _ _;refine GoF.each s.kids.length (fun j f U=>∃kz a2,kx (i+1+((s.kids.take j).flatMap (Sh.pre (l+1))).length) kz U∧b1.next≤U.next∧U.get dt=some (.cells [.f (.yield y) [] []])∧U.get (dt+1)=some (.cells [a2])∧U.get (dt+2)=some (.cells [uQ dt])∧r5 U dt kz a2 l∧(∀c,kz c→V c∨I.next≤c∧c<U.next)∧(∀c J,c<dt→¬V c→I.get c=some J→U.get c=some J)∧sat [(0,s.ptr),(1,bo dt),(2,bo (dt+1)),(3,bo (dt+2))] f) (by omega) ⟨D3,v,IC,o _,c8,aP,a0,b0u,b0v,r6,rfl,rfl,rfl,rfl,trivial⟩ rfl rfl (fun j g U az aZ hi hm=>?_) (fun g U aZ hi=>?_)
 ·obtain⟨kz,a2,wB,mm,jO,cC,c0,pq,yv,ca,gM,bM,b4,dy,_⟩:=aZ;refine GoF.norm [(0,s.ptr),(1,bo dt),(2,bo (dt+1)),(3,bo (dt+2)),(17,ay j),(16,ay s.kids.length)] ⟨gM,bM,b4,dy,hi,hm,trivial⟩ fun g=>?_;have H:Has U [(dt,[.f (.yield y) [] []]),(dt+1,[a2]),(dt+2,[uQ dt])]:=((Has.nil.cons c0 (by simp)).cons cC (by simp)).cons jO (by simp);obtain⟨⟨b0w,b0x,b0y⟩,c3m,b0z⟩:=pq;refine ae ?_;refine W.pu (ay j) b0x rfl rfl rfl rfl rfl rfl rfl rfl rfl (by omega) fun v2 bd hR k_ oM n2 br=>?_;have oP:∀c J,(c<dt+3∨kz c)→U.get c=some J→bd.get c=some J:=fun c J ah ab=>br _ _ (fun e=>by
   obtain⟨h1,h2⟩:=b0z _ e;rcases ah with h|h
   ·omega
   ·exact h2 h) ab
  have H:Has bd [(dt,[.f (.yield y) [] []]),(dt+1,[a2]),(dt+2,[uQ dt])]:=((Has.nil.cons (oP _ _ (.inl (by omega)) c0) (by simp)).cons (oP _ _ (.inl (by omega)) cC) (by simp)).cons (oP _ _ (.inl (by omega)) jO) (by simp);refine ae ?_;refine W.st (aQ:=[v2]) H 1 rfl rfl rfl rfl hR.mx (by rw[hR.cells0];rfl) fun bG eh H bb=>?_;have Nl:∀c,kz c→c<dt∨dt+3≤c:=fun c ah=>by
   rcases yv c ah with h|h
   ·exact(hV c h).2
   ·omega
  have VD:kx _ kz bG:=dp _ _ _ bG wB (fun c J ah ab=>bb _ _ (by
   rcases ah with h|h
   ·omega
   ·have:=Nl c h;omega) (oP _ _ (ah.imp (fun h=>by omega) id) ab)) (by omega)
  have b0A:=qx _ _ _ VD _ uk;have b0B:r5 bG dt kz v2 (l+1):=⟨⟨b0w++[ay j],hR.aF fun i J hi ab=>bb _ _ (by rw[k_] at hi;cases hi;omega) ab,by rw[cR,b0y];rfl⟩,oM,fun J ab=>by
   rw[k_] at ab;cases ab;refine⟨by omega,fun h=>?_⟩;rcases yv _ h with h|h
   ·have:=hV _ h;omega
   ·omega⟩
  refine ae ?_;refine W.DY b0A rfl rfl rfl rfl rfl (fun q=>⟨rfl,rfl⟩) fun q=>?_;refine ae ?_;refine W.cw rfl rfl rfl rfl (c2.idx j az) ?_;refine ae ?_;have oZ:=b0p hL az;have cV:=b0q (f:=Sh.pre (l+1)) az;have zE:=aS az;generalize s.kids[j]=x at oZ cV zE;have Nm:=Sh.b0n zE;refine W.dX rfl rfl rfl (aA x (by omega) _ VD (by omega) (H.get _ (.head _)) (H.get _ (.tail _ (.head _))) (H.get _ (.tail _ (.tail _ (.head _)))) b0B (by omega) oZ (fun c ah=>⟨by rcases yv c ah with h|h;(have:=hV _ h;omega);omega,Nl c ah⟩)) fun r cA dc=>?_;obtain⟨cE,e,gU,qI,e3⟩:=dc;refine⟨_,e,?_⟩;cases cE with
  |false=>
   obtain⟨eC,Nn,pW⟩:=e3 rfl;refine ae ?_;exact GoF.ret ⟨rfl,false,rfl,by omega,fun h=>(by cases h),fun _=>⟨eC,Nn,pW⟩⟩
  |true=>
  obtain⟨Nn,v4,b0C,d0,d1,d2,b0D,VE,D4⟩:=qI rfl;have H:Has cA [(dt,[.f (.yield y) [] []]),(dt+1,[v4]),(dt+2,[uQ dt])]:=((Has.nil.cons d2 (by simp)).cons d1 (by simp)).cons d0 (by simp);obtain⟨⟨b0E,VF,b0F⟩,b0G,VG⟩:=b0D;have b0H:∀I,lenA I 1 v4=some (l+1):=fun I=>by rw[VF.len,b0F]
  refine ae ?_;refine W.len rfl rfl rfl (b0H _) ?_;refine ae ?_;refine W.b0m (k:=l) VF b0G (by omega) rfl rfl rfl rfl fun w hw r7 No=>?_;refine ae ?_;refine W.st (aQ:=[w]) H 1 rfl rfl rfl rfl hw.mx (by rw[hw.cells0];rfl) fun dk h7 H dN=>?_;refine ae ?_;refine⟨rfl,rfl,Nn,w,?_,by omega,H.get _ (.head _),H.get _ (.tail _ (.head _)),H.get _ (.tail _ (.tail _ (.head _))),⟨⟨b0E.take l,hw.aF fun i J hi ab=>dN _ _ (by rw[r7] at hi;have:=VG _ hi;omega) ab,by rw[eL];omega⟩,No,fun J ab=>by rw[r7] at ab;exact VG J ab⟩,fun c ah=>?_,fun c J ah av ab=>?_,rfl,rfl,rfl,rfl,trivial⟩
  ·rw[cV,← tS];exact dp _ _ _ _ b0C (fun c J ah ab=>dN _ _ (by
    rcases ah with h|h
    ·omega
    ·rcases VE c h with h|h
     ·have:=Nl c h;omega
     ·omega) ab) (by omega)
  ·rcases VE c ah with h|h
   ·rcases yv c h with h|h
    ·exact .inl h
    ·exact .inr (by omega)
   ·exact .inr (by omega)
  ·have h3:=bb _ _ (by omega) (oP _ _ (.inl (by omega)) (ca c J ah av ab));refine dN _ _ (by omega) (D4 c J ah (fun h=>?_) h3);rcases yv c h with h|h
   ·exact av h
   ·omega
 ·obtain⟨kz,a2,wB,mm,jO,cC,c0,pq,yv,ca,gM,bM,b4,dy,_⟩:=aZ;rw[h_] at wB;show bl _ _ _ _ _ _ _ _;refine GoF.norm [] trivial fun g=>?_;have H:Has U []:=Has.nil;refine ae ?_;exact GoF.ret ⟨rfl,true,rfl,by omega,fun _=>⟨kz,a2,by rw[fH,qf _ 1,← tS];exact wB,jO,cC,c0,pq,yv,ca⟩,fun h=>(by cases h)⟩
end
section
variable {b:dW}{K:Nat→List AV→AV→Prop}
theorem IE(hh:cY (b.a4 K) ye Af){I:af}{p:AV}(hp:p.cells=[p]∧p.val=true):
  b9 (b.a4 K) 0 (.f (.func ye) [] []) [p] I (fun r U=>r= .ok (.f (.func td) [] [bo I.next])∧U.get I.next=some (.cells [p])∧U.next=I.next+1∧b2 I U):=by
 refine W.code hh.e hh.p hh.f rfl rfl rfl rfl fun z=>?_;have H:Has I []:=Has.nil;refine ae ?_;generalize hq:I.next=q;refine W.en (c:=[p]) H hq rfl rfl rfl hp.2 hp.1 fun U hn H bE=>?_;refine ae ?_;exact GoF.ret ⟨rfl,rfl,H.get _ (.head _),hn,by omega,bE⟩
theorem b0I(hh:cY (b.a4 K) td x2)(rm:cY (b.a4 K) uJ wb){root:Sh}{en:Nat}{kP:Nat→Prop}(D1:∀x∈root.pre 0,D0 x.2)(Nm:root.ht<2^20){y:Nat}{kx tr:DJ}{U:af}(hb:U.get en=some (.cells [root.ptr]))(dp:U9 U.next kx)(qx:∀i W U,kx i W U→∀x∈root.pre 0,yu U x.2.ptr x.2.sub)
  (aw:∀i W b1 v l s,(root.pre 0)[i]? =some (l,s)→U.next≤b1.next→r5 b1 U.next W v l→kx i W b1→b9 (b.a4 K) 0 (.f (.yield y) [] []) [v,s.ptr] b1 (fun r bd=>∃cE,r= .ok (.b cE)∧((cE=true∧∃W',kx (i+1) W' bd∧yl W W' b1 bd)∨(cE=false∧∃W',tr i W' bd∧b1.next≤bd.next))))
  (bZ:∀c,kP c→c<U.next) (wB:kx 0 kP U):
  b9 (b.a4 K) 0 (.f (.func td) [] [bo en]) [.f (.yield y) [] []] U (fun r a5=>r= .ok (.bJ [])∧((∃W',kx (root.pre 0).length W' a5)∨∃i W',tr i W' a5)):=by
 refine W.rP hh.e hh.p hh.f rfl rfl rfl fun z=>?_;have H:Has U [(en,[root.ptr])]:=Has.nil.cons hb (by simp);refine ae ?_;generalize hq:U.next=q at *;refine W.en (c:=[.f (.yield y) [] []]) H hq rfl rfl rfl rfl rfl fun b1 cG H t1=>?_;refine ae ?_;refine W.bN (c:=[.aB]) H cG rfl rfl rfl fun bd n2 H t2=>?_;refine ae ?_;refine W.bN (c:=[.iP]) H n2 rfl rfl rfl fun bG eh H t3=>?_;refine ae ?_;refine W.st (aQ:=[uQ q]) H 0 rfl rfl rfl rfl rfl rfl fun cA gU H t4=>?_;refine ae ?_;have ew:∀c J,c<q→U.get c=some J→cA.get c=some J:=fun c J ah ab=>t4 _ _ (by omega) (t3 _ _ (t2 _ _ (t1 _ _ ab)));refine W.dX rfl rfl rfl (b0s rm (y:=y) (dt:=q) (kx:=kx) (tr:=tr) dp D1 qx aw root.ht root (o _) (I:=cA) (V:=kP) (i:=0) (l:=0) (v:=.aB) [] (dp _ _ _ _ wB (fun c J ah ab=>ew c J (by rcases ah with h|h;exact h;exact bZ c h) ab) (by omega)) (by omega) (H.get _ (.tail _ (.tail _ (.head _)))) (H.get _ (.tail _ (.head _))) (H.get _ (.head _)) ⟨⟨[],.nil,rfl⟩,(fun _ _ _ h=>by cases h),fun _ h=>by cases h⟩ (by omega) (by rw[xS,fV]) (fun c ah=>by have:=bZ c ah;omega)) fun r dk ⟨cE,e,h7,qI,e3⟩=>⟨_,e,?_⟩
 refine ae ?_;refine⟨.inr rfl,rfl,?_⟩;cases cE with
 |true=>
  obtain⟨kz,a2,VH,_⟩:=qI rfl;exact .inl ⟨kz,by rw[hO] at VH;exact VH⟩
 |false=>
  obtain⟨eC,kz,pW⟩:=e3 rfl;exact .inr ⟨eC,kz,pW⟩
theorem fM.IF{D:List (Nat ⊕ (AV×List AV))}{n:Nat}{f:Nat→AV}{I:af}{Q:e5}{r4:aC}{ps:List Nat}{la kK:bB}{k:Nat}(hh:cY (b.a4 K) td x2)(rm:cY (b.a4 K) uJ wb){root:Sh}{en:Nat}(jQ AB:DJ)(kP:Nat→Prop)(aD:I.next=k)
  (sZ:ik (b.a4 K) n f r4=some (.f (.func td) [] [bo en])) (hp:dw (fun p=>Nat.blt p n) ps=true) (hlen:ps.length=2)
  (D1:∀x∈root.pre 0,D0 x.2) (Nm:root.ht<2^20) (hb:I.get en=some (.cells [root.ptr])) (qx:∀i W U,jQ i W U→∀x∈root.pre 0,yu U x.2.ptr x.2.sub)
  (dp:∀i W U a5,jQ i W U→(∀c J,W c→U.get c=some J→a5.get c=some J)→(∀c J,c<k→U.get c=some J→a5.get c=some J)→U.next≤a5.next→jQ i W a5) (VI:∀i W U a5,AB i W U→(∀c J,W c→U.get c=some J→a5.get c=some J)→(∀c J,c<k→U.get c=some J→a5.get c=some J)→U.next≤a5.next→AB i W a5) (h0:jQ 0 kP I) (IG:∀c,kP c→c<k)
  (b0J:∀i W U v l s,(root.pre 0)[i]? =some (l,s)→(∀aq,lenA aq 1 v=some l)→jQ i W U→(∀c,W c→c<k∨k+2≤c)→k+2≤U.next→(∀c J,¬kP c→I.get c=some J→U.get c=some J)→bl (b.a4 K) (some (k+1)) [] n la (G9 ps [v,s.ptr] f) U (fun x f1 b1=>x= .normal∧(U.next≤b1.next∧∀c J,U.get c=some J→b1.get c=some J)∧
   ∀bd,bd.next=b1.next→(∀c J,c≠k+1→b1.get c=some J→bd.get c=some J)→jQ i W bd→bl (b.a4 K) (some (k+1)) [] n kK f1 bd (fun x _ bG=>(x= .normal∧∃W',jQ (i+1) W' bG∧yl W W' bd bG)∨(x= .ret∧∃W',AB i W' bG∧yl W W' bd bG))))
  (b0K:∀W U,jQ (root.pre 0).length W U→U.get k=some .g2→k+2≤U.next→(∀c J,¬kP c→I.get c=some J→U.get c=some J)→Q .normal f U)
  (b0L:∀i W U,AB i W U→U.get k=some .g2→k+2≤U.next→(∀c J,¬kP c→I.get c=some J→U.get c=some J)→Q .ret f U):fM (b.a4 K) D (.inl k::D) n (.rangeFunc r4 ps la kK) f I Q:=by
 subst aD;refine fM.b0k sZ hh.e fun ak ko=>?_;generalize aD:I.next=k at *;have xN:((I.push .g2).push (.loop .ready none ak ps la kK k)).get (k+1)=some (.loop .ready none ak ps la kK k):=by
  have:=af.md (I:=I.push .g2) (.loop .ready none ak ps la kK k);rwa[show(I.push .g2).next=k+1 from by show I.next+1=_;rw[aD]] at this
 have hp2:∀i J,I.get i=some J→((I.push .g2).push (.loop .ready none ak ps la kK k)).get i=some J:=fun i J ab=>by
  have:=af.bW ab;rw[af.iB trivial _ (show i<(I.push .g2).next from by show i<I.next+1;omega),af.iB trivial _ this];exact ab
 have Np:((I.push .g2).push (.loop .ready none ak ps la kK k)).get k=some .g2:=by
  rw[af.iB trivial _ (show k<(I.push .g2).next from by show k<I.next+1;omega)];have:=af.md (I:=I) .g2;rwa[aD] at this
 have ih:((I.push .g2).push (.loop .ready none ak ps la kK k)).next=k+2:=by show I.next+1+1=_;rw[aD]
 generalize(I.push .g2).push (.loop .ready none ak ps la kK k)=dD at *;refine(b0I hh rm D1 Nm (kP:=kP) (y:=k+1) (kx:=fun i W U=>jQ i W U∧U.get (k+1)=some (.loop .ready none ak ps la kK k)∧k+2≤U.next∧U.get k=some .g2∧(∀c,W c→kP c∨k+2≤c)∧∀c J,¬kP c→I.get c=some J→U.get c=some J)
  (tr:=fun i W U=>AB i W U∧U.get (k+1)=some (.loop .done (some .ret) ak ps la kK k)∧k+2≤U.next∧U.get k=some .g2∧(∀c,W c→kP c∨k+2≤c)∧∀c J,¬kP c→I.get c=some J→U.get c=some J) (U:=dD) (hp2 _ _ hb) ?_ (fun i W U h=>qx i W U h.1) ?_ (fun c ah=>by have:=IG c ah;omega) ?_).mono ?_
 ·rintro i W U a5 ⟨aP,a0,bF,bU,c6,dL⟩ ca hn;exact⟨dp i W U a5 aP (fun c J ah=>ca c J (.inr ah)) (fun c J ah=>ca c J (.inl (by omega))) hn,ca _ _ (.inl (by omega)) a0,by omega,ca _ _ (.inl (by omega)) bU,c6,fun c J ah ab=>ca c J (.inl (by have:=af.bW ab;omega)) (dL c J ah ab)⟩
 ·rintro i W U v l s hL hn b0M ⟨aP,a0,bF,bU,c6,dL⟩;have Nq:∀c,W c→c<k∨k+2≤c:=fun c ah=>by
   rcases c6 c ah with h|h
   ·exact .inl (IG c h)
   ·exact .inr h
  have hC:∀aq,lenA aq 1 v=some l:=fun aq=>by
   obtain⟨xs,h1,h2⟩:=b0M.ex;rw[h1.len,h2]
  refine b9.b0l (R:=fun cE bd=>(cE=true∧∃W',(jQ (i+1) W' bd∧bd.get (k+1)=some (.loop .ready none ak ps la kK k)∧k+2≤bd.next∧bd.get k=some .g2∧(∀c,W' c→kP c∨k+2≤c)∧∀c J,¬kP c→I.get c=some J→bd.get c=some J)∧yl W W' U bd)∨(cE=false∧∃W',(AB i W' bd∧bd.get (k+1)=some (.loop .done (some .ret) ak ps la kK k)∧k+2≤bd.next∧bd.get k=some .g2∧(∀c,W' c→kP c∨k+2≤c)∧∀c J,¬kP c→I.get c=some J→bd.get c=some J)∧U.next≤bd.next)) (f:=f) (n:=n) a0 ko hp (by rw[hlen];rfl) ?_;refine(b0J i W U v l s hL hC aP Nq bF dL).mono fun x f1 b1 ⟨aM,e2,h1⟩=>?_;have VJ:=e2.2 _ _ a0;have b0N:=dp i W U b1 aP (fun c J _=>e2.2 c J) (fun c J _=>e2.2 c J) e2.1;have kQ:=j_ (b7:=.loop .busy none ak ps la kK k) VJ;have Nr:¬W (k+1):=fun h=>by rcases Nq _ h with h|h<;>omega
  have b0O:¬W k:=fun h=>by rcases Nq _ h with h|h<;>omega
  have cc:=e2.1;refine⟨aM,VJ,(h1 (b1.set (k+1) (.loop .busy none ak ps la kK k)) rfl (fun c J ah ab=>kQ.2 c J ah ab) (dp i W _ _ b0N (fun c J ah ab=>kQ.2 c J (fun e=>Nr (e▸ah)) ab) (fun c J ah ab=>kQ.2 c J (by omega) ab) (o _))).mono fun x _ bG h3=>?_⟩;have gen:∀ {W':Nat→Prop} (b7:AO),yl W W' (b1.set (k+1) (.loop .busy none ak ps la kK k)) bG→bG.get (k+1)=some (.loop .busy none ak ps la kK k)∧(∀c J,W' c→bG.get c=some J→(bG.set (k+1) b7).get c=some J)∧(∀c J,c<k→bG.get c=some J→(bG.set (k+1) b7).get c=some J)∧(bG.set (k+1) b7).get (k+1)=some b7∧k+2≤(bG.set (k+1) b7).next∧(bG.set (k+1) b7).get k=some .g2∧(∀c,W' c→kP c∨k+2≤c)∧(∀c J,¬kP c→I.get c=some J→(bG.set (k+1) b7).get c=some J)∧U.next≤(bG.set (k+1) b7).next∧(∀c J,¬W c→c≠k+1→U.get c=some J→(bG.set (k+1) b7).get c=some J)∧(∀c,W' c→W c∨U.next≤c∧c<(bG.set (k+1) b7).next):=fun {W'} b7 c2=>by
   have Au:=c2.aF _ _ Nr kQ.1;have IH:=j_ (b7:=b7) Au;have eh:b1.next≤bG.next:=c2.next;have own:∀c,W' c→W c∨b1.next≤c:=fun c ah=>(c2.own c ah).imp id And.left;have D5:¬W' (k+1):=fun h=>by rcases own _ h with h|h;exact Nr h;omega
   have ew:∀c J,¬W c→c≠k+1→U.get c=some J→(bG.set (k+1) b7).get c=some J:=fun c J ah bx ab=>IH.2 c J bx (c2.aF c J ah (kQ.2 c J bx (e2.2 _ _ ab)));refine⟨Au,fun c J ah ab=>IH.2 c J (fun e=>D5 (e▸ah)) ab,fun c J ah ab=>IH.2 c J (by omega) ab,IH.1,by show k+2≤bG.next;omega,ew k _ b0O (by omega) bU,fun c ah=>?_,fun c J ah ab=>?_,by show U.next≤bG.next;omega,ew,fun c ah=>(c2.own c ah).imp id fun h=>⟨by have h1:b1.next≤c:=h.1;omega,h.2⟩⟩
   ·rcases own c ah with h|h
    ·exact c6 c h
    ·exact .inr (by omega)
   ·have bZ:=af.bW ab;by_cases VK:W c
    ·rcases c6 c VK with h|h
     ·exact absurd h ah
     ·omega
    ·exact ew c J VK (by omega) (dL c J ah ab)
  rcases h3 with⟨dn,W',aZ,c2⟩|⟨dn,W',aZ,c2⟩
  ·obtain⟨cC,c0,Ns,ej,j1,iz,m9,m_,Nt,VL,VM⟩:=gen (.loop .ready none ak ps la kK k) c2;refine⟨cC,.inl ⟨dn,.inl ⟨rfl,W',⟨dp _ _ _ _ aZ c0 Ns (o _),ej,j1,iz,m9,m_⟩,Nt,fun c J ah ab=>?_,VM⟩⟩⟩;by_cases ar:c=k+1
   ·subst ar;rw[a0] at ab;cases ab;exact ej
   ·exact VL c J ah ar ab
  ·obtain⟨cC,c0,Ns,ej,j1,iz,m9,m_,Nt,VL,VM⟩:=gen (.loop .done (some .ret) ak ps la kK k) c2;refine⟨cC,.inr ⟨dn,.inr ⟨rfl,W',⟨VI _ _ _ _ aZ c0 Ns (o _),ej,j1,iz,m9,m_⟩,Nt⟩⟩⟩
 ·exact⟨dp 0 kP I dD h0 (fun c J _ ab=>hp2 c J ab) (fun c J _ ab=>hp2 c J ab) (by omega),xN,by omega,Np,fun c ah=>.inl ah,fun c J _ ab=>hp2 c J ab⟩
 ·rintro r U ⟨aM,qI⟩;refine⟨_,aM,?_⟩;rcases qI with⟨W',aP,a0,bF,bU,c6,dL⟩|⟨i,W',aP,a0,bF,bU,c6,dL⟩
  ·have kQ:=j_ (b7:=.loop .exhausted none ak ps la kK k) a0;have D5:¬W' (k+1):=fun h=>by
    rcases c6 _ h with h|h
    ·have:=IG _ h;omega
    ·omega
   exact .inl ⟨.ready,a0,by simp,b0K W' _ (dp _ _ _ _ aP (fun c J ah ab=>kQ.2 c J (fun e=>D5 (e▸ah)) ab) (fun c J ah ab=>kQ.2 c J (by omega) ab) (o _)) (kQ.2 _ _ (by omega) bU) bF (fun c J ah ab=>kQ.2 c J (by have:=af.bW ab;omega) (dL c J ah ab))⟩
  ·have kQ:=j_ (b7:=.loop .exhausted (some .ret) ak ps la kK k) a0;have D5:¬W' (k+1):=fun h=>by
    rcases c6 _ h with h|h
    ·have:=IG _ h;omega
    ·omega
   exact .inr ⟨a0,b0L i W' _ (VI _ _ _ _ aP (fun c J ah ab=>kQ.2 c J (fun e=>D5 (e▸ah)) ab) (fun c J ah ab=>kQ.2 c J (by omega) ab) (o _)) (kQ.2 _ _ (by omega) bU) bF (fun c J ah ab=>kQ.2 c J (by have:=af.bW ab;omega) (dL c J ah ab))⟩
end
end
section
variable [Tok][TokOk]
open Go.RowKit Go.Lyc.T
section
section
variable {env:Env}{D gN Gj:List (Nat ⊕ (AV×List AV))}{n:Nat}{f:Nat→AV}{I:af}{Q:e5}
theorem fM.Nu{a b:bB}(h:fM env D gN n a f I (fun x f I=>match x with| .normal=>bl env none gN n b f I Q|x=>Q x f I)):fM env D gN n (.seq a b) f I Q:=fun ai bY=>fY.seq ((h ai bY).mono fun x ai I ⟨f,h1,h2⟩=>by
 cases x with
 |normal=>exact h2 ai h1
 |_=>exact⟨f,h1,h2⟩)
theorem fM.II{a:bB}{id:Nat}(h:fM env D gN n a f I (fun x f I=>(x= .normal∨x= .ret)∧Q x f I)):fM env D gN n (.block id a) f I Q:=fun ai bY=>fY.block ((h ai bY).mono fun x ai I ⟨f,h1,h2,h3⟩=>by
 rcases h2 with rfl|rfl
 ·exact⟨f,h1,h3⟩
 ·exact⟨f,h1,h3⟩)
end
attribute [local irreducible] bL bl e6 eB b9
mutual
def Prf.prel(l:Nat):Prf→List (Nat×Prf)
 | .mk r f a none m=>[(l,.mk r f a none m)]
 | .mk r f a (some s) m=>(l,.mk r f a (some s) m)::Prf.prels (l+1) s
def Prf.prels(l:Nat):List Prf→List (Nat×Prf)
 |[]=>[]
 |p::s=>p.prel l++Prf.prels l s
end
theorem Prf.VN(l:Nat):∀s,Prf.prels l s=s.flatMap (Prf.prel l)
 |[]=>by rw[Prf.prels];rfl
 |p::s=>by rw[Prf.prels,Prf.VN l s];rfl
theorem Prf.yw(l:Nat)(p:Prf):p.prel l=(l,p)::p.sub.flatMap (Prf.prel (l+1)):=by
 obtain⟨r,f,a,s,m⟩:=p;cases s with
 |none=>rw[Prf.prel];rfl
 |some s=>rw[Prf.prel,Prf.VN];rfl
abbrev om(p:Prf):AV:=.cZ true (.ag (prC true p))
mutual
def h8(ptr:AV):Prf→Sh
 | .mk _ _ _ none _=>.mk ptr .aB []
 | .mk _ _ _ (some s) _=>.mk ptr (cU true (some s)) (D6 s)
def D6:List Prf→List Sh
 |[]=>[]
 |p::s=>h8 (om p) p::D6 s
end
theorem VO:∀s,D6 s=s.map fun q=>h8 (om q) q
 |[]=>by rw[D6];rfl
 |p::s=>by rw[D6,VO s];rfl
theorem IJ(ptr:AV)(p:Prf):h8 ptr p= .mk ptr (cU true p.bm) (p.sub.map fun q=>h8 (om q) q):=by
 obtain⟨r,f,a,s,m⟩:=p;cases s with
 |none=>rw[h8];rfl
 |some s=>rw[h8,VO];rfl
theorem IK(ptr:AV)(p:Prf):(h8 ptr p).kids=p.sub.map fun q=>h8 (om q) q:=by rw[IJ];rfl
theorem wC(ptr:AV)(p:Prf):(h8 ptr p).ptr=ptr:=by rw[IJ];rfl
theorem IL(ptr:AV)(p:Prf):(h8 ptr p).sub=cU true p.bm:=by rw[IJ];rfl
theorem VP:∀(d:Nat) (p:Prf) (l:Nat),p.cJ≤d→(h8 (om p) p).pre l=(p.prel l).map fun x=>(x.1,h8 (om x.2) x.2)
 |0,p,l,h=>by have:=p.m5;omega
 |d+1,p,l,h=>by
  rw[Sh.gB,Prf.yw,IK,jK,w3,K7]
  congr 1
  have:∀(s:List Prf),(∀q∈s,q.cJ≤d)→(s.flatMap fun q=>Sh.pre (l+1) (h8 (om q) q))=s.flatMap fun q=>(q.prel (l+1)).map fun x=>(x.1,h8 (om x.2) x.2):=fun s aj=>by
   induction s with
   |nil=>rfl
   |cons q s aA=>rw[eG,eG,VP d q (l+1) (aj q (.head _)),aA fun q hq=>aj q (.tail _ hq)]
  exact this _ fun q hq=>by have:=Prf.my hq;omega
theorem D7(ptr:AV)(p:Prf)(l:Nat):(h8 ptr p).pre l=(l,h8 ptr p)::((p.prel l).drop 1).map fun x=>(x.1,h8 (om x.2) x.2):=by
 have h:=VP p.cJ p l (o _);rw[Sh.gB,IK] at h ⊢;rw[Prf.yw,jK] at h;rw[Prf.yw];have:=(List.cons.inj h).2;rw[this];rfl
theorem Prf.AD(p:Prf):∀(d:Nat) (p:Prf) (l:Nat),p.cJ≤d→(p.prel l).map (·.2)=p.pre
 |0,p,l,h=>by have:=p.m5;omega
 |d+1,p,l,h=>by
  rw[Prf.yw,Prf.gB,jK,K7]
  congr 1
  have:∀(s:List Prf),(∀q∈s,q.cJ≤d)→(s.flatMap fun q=>(q.prel (l+1)).map (·.2))=s.flatMap Prf.pre:=fun s aj=>by
   induction s with
   |nil=>rfl
   |cons q s aA=>rw[eG,eG,Prf.AD q d q (l+1) (aj q (.head _)),aA fun q hq=>aj q (.tail _ hq)]
  exact this _ fun q hq=>by have:=Prf.my hq;omega
theorem IM:∀(d:Nat) (p:Prf) (ptr:AV),p.cJ≤d→(h8 ptr p).ht=p.cJ
 |0,p,ptr,h=>by have:=p.m5;omega
 |d+1,p,ptr,h=>by
  rw[IJ,Sh.ht,Prf.tm]
  congr 1
  have:∀(s:List Prf),(∀q∈s,q.cJ≤d)→Sh.ig (s.map fun q=>h8 (om q) q)=Prf.hX s:=fun s aj=>by
   induction s with
   |nil=>rw[Prf.hX];show Sh.ig []=0;rw[Sh.ig]
   |cons q s aA=>rw[jK,Sh.ig,Prf.hX,IM d q _ (aj q (.head _)),aA fun q hq=>aj q (.tail _ hq)]
  exact this _ fun q hq=>by have:=Prf.my hq;omega
end
section
def IN(d:Nat)(rs:List (Nat×Option (Option Nat)))(r:AV):e5:=fun x f aq=>x= .ret∧aq.get d=some .g2∧∃v,qP (aq.set d .dead) f rs=some v∧freeze (aq.set d .dead) 0 1000 v=some r
theorem Nv{P:Program}{b:dW}{K:Nat→List AV→AV→Prop}(hb:oX P b)(cl:Mm P b K){g:Nat}{fn:ch}{body:bB}{aR:List AV}{d:Nat}(r:AV)(hf:b.funcs.get g=some fn)(iU:fn.body=some body)
  (hn:(Nat.beq aR.length fn.lP&&Nat.ble aR.length fn.ntmps)=true) (au:dw (fun r=>Nat.blt r.1 fn.ntmps) fn.results=true) {ai:Nat} (al:ks ai r=true) (jx:AV.eqb 1000 r r=true)
  (h:fM (b.a4 K) [] [.inl d] fn.ntmps body (eS aR) ⟨.nil,0⟩ (IN d fn.results r)) (eO:Nat):SpecEntry P (b.env []) eO g aR r:=by
 have hle:aR.length≤fn.ntmps:=by
  simp only[cx] at hn;exact eV hn.2
 refine T_ (env:=b.a4 K) (m:=1000) (By _ _) ⟨fun g cz hg=>uB.Mg hb.funcs g cz hg⟩ (fun eO g aR r aj=>cl g aR r (Ud aj) eO) hb.ext hb.GY hf iU hn al ((h _ (z7 hle)).mono fun x ai aq ⟨f,h1,h2,h3,v,aE,ba⟩=>?_) jx eO;subst h2;exact⟨.ok v,_,U8 h1 h3 au aE,_,rfl,ba⟩
theorem fM.args{env:Env}{D gN:List (Nat ⊕ (AV×List AV))}{n:Nat}{c:bB}{vE:List AV}{I:af}{Q:e5}(h:∀z,fM env D gN n c (bC (W.ku 0 vE) z) I Q):fM env D gN n c (eS vE) I Q:=by
 have cj:bC (W.ku 0 vE) (eS vE)=eS vE:=Da (W.Hd _ 0 fun j a e=>by show vE.getD (0+j) dR=a;rw[hO,fU,e];rfl);have:=h (eS vE);rwa[cj] at this
attribute [local irreducible] bL bl e6 eB b9
theorem Prf.Nw{M:Nat}:∀(d:Nat) (p:Prf) (l:Nat),p.cJ≤d→((∀x∈p.prel l,x.1≤M)↔l+p.cJ≤M+1)
 |0,p,l,h=>by have:=p.m5;omega
 |d+1,p,l,h=>by
  have h1:=p.m5;have hq:∀q∈p.sub,((∀x∈q.prel (l+1),x.1≤M)↔l+1+q.cJ≤M+1):=fun q hq=>Prf.Nw d q (l+1) (by have:=Prf.my hq;omega);rw[Prf.yw];constructor
  ·intro ha;have h0:=ha _ (.head _);simp only at h0;have:=Prf.Av (n:=M-l) (l:=p.sub) fun q hm=>by
    have:=(hq q hm).1 fun x hx=>ha x (.tail _ (gP.2 ⟨q,hm,hx⟩));omega
   rw[Prf.tm];omega
  ·intro ar x hx;rcases cH.1 hx with rfl|hx
   ·show l≤M;omega
   ·obtain⟨q,hm,hx⟩:=gP.1 hx;exact(hq q hm).2 (by have:=Prf.my hm;omega) x hx
theorem Prf.D8{p:Prf}{x:Nat×Prf}(h:x∈p.prel 0):x.2∈p.pre:=by
 rw[←Prf.AD p p.cJ p 0 (o _)];exact sl h
theorem Prf.yx(p:Prf):(p.prel 0).length=p.cnt:=by
 have:=congrArg List.length (Prf.AD p p.cJ p 0 (o _));rwa[aJ] at this
def Nx(x:Nat×Prf):Prop:=x.1≤40∧x.2.sub.length≤4
theorem Ny(p:Prf):dH p=true↔p.cnt≤300∧∀x∈p.prel 0,Nx x:=by
 have h1:=Prf.Nw (M:=40) p.cJ p 0 (o _);unfold dH mz;simp only[cx,decide_eq_true_eq,hP];constructor
 ·rintro⟨⟨a,c⟩,e⟩;exact⟨e,fun x hx=>⟨h1.2 a x hx,c _ (Prf.D8 hx)⟩⟩
 ·rintro⟨e,h⟩;refine⟨⟨h1.1 fun x hx=>(h x hx).1,fun x hx=>?_⟩,e⟩;rw[←Prf.AD p p.cJ p 0 (o _)] at hx;obtain⟨y,aw,rfl⟩:=bQ.1 hx;exact(h y aw).2
theorem Nz{ptr:AV}{p:Prf}{i l:Nat}{s:Sh}(h:((h8 ptr p).pre 0)[i]? =some (l,s)):∃x,(p.prel 0)[i]? =some (l,x)∧s.sub=cU true x.bm∧(s.ptr=om x∨(s.ptr=ptr∧x=p)):=by
 rw[D7] at h;cases i with
 |zero=>
  simp only[J1,a6,uK] at h;obtain⟨rfl,rfl⟩:=h;exact⟨p,by rw[Prf.yw];rfl,IL _ _,.inr ⟨wC _ _,rfl⟩⟩
 |succ i=>
  rw[z1,kV,lL,qf] at h;cases hx:(p.prel 0)[i+1]? with
  |none=>rw[hx] at h;cases h
  |some x=>
   rw[hx] at h;simp only[wj,a6,uK] at h;obtain⟨rfl,rfl⟩:=h;exact⟨x.2,rfl,IL _ _,.inl (wC _ _)⟩
theorem VQ{ptr:AV}{p:Prf}{y:Nat×Sh}(h:y∈(h8 ptr p).pre 0):∃x∈p.prel 0,y.2.sub=cU true x.2.bm∧y.2.kids=x.2.sub.map (fun q=>h8 (om q) q)∧(y.2.ptr=om x.2∨(y.2.ptr=ptr∧x.2=p)):=by
 rw[D7] at h;rcases cH.1 h with rfl|h
 ·exact⟨(0,p),by rw[Prf.yw];exact .head _,IL _ _,IK _ _,.inr ⟨wC _ _,rfl⟩⟩
 ·obtain⟨x,hx,rfl⟩:=bQ.1 h;exact⟨x,mw hx,IL _ _,IK _ _,.inl (wC _ _)⟩
theorem NA{ptr:AV}{p:Prf}(hw:∀x∈p.pre,x.sub.length<2^20):∀y∈(h8 ptr p).pre 0,D0 y.2:=fun y aw=>by
 obtain⟨x,hx,h1,h2,_⟩:=VQ aw;refine⟨fun I=>by rw[h1,h2,aJ];exact gR,fun i h=>?_,by rw[h2,aJ];exact hw _ (Prf.D8 hx)⟩;have hi:i<(x.2.bm.getD []).length:=by rw[h2,aJ] at h;exact h
 have e:y.2.kids[i]=h8 (om (x.2.bm.getD [])[i]) (x.2.bm.getD [])[i]:=by simp only[h2,fQ];rfl
 rw[e,wC,h1];exact nC hi
theorem IP{U:af}{k:Nat}{p:Prf}(hp:U.get k=some (.cells (prC true p))):∀y∈(h8 (bo k) p).pre 0,yu U y.2.ptr y.2.sub:=fun y aw=>by
 obtain⟨x,hx,h1,_,h3⟩:=VQ aw;have ah:=Ir true x.2.bm;rcases h3 with h3|⟨h3,e⟩
 ·rw[h3,h1];refine⟨rfl,.cZ true (cU true x.2.bm),?_,?_⟩
  ·rfl
  ·show(if conf none (cU true x.2.bm) then some (cU true x.2.bm) else none)=_;rw[if_pos ah.2]
 ·rw[h3,h1,e];exact⟨rfl,.p (some (k,0+6)),rfl,jS hp rfl⟩
section
variable {b:dW}{K:Nat→List AV→AV→Prop}
theorem b0P(h1:cY (b.a4 K) ye Af)(h2:cY (b.a4 K) td x2)(h3:cY (b.a4 K) uJ wb)(p:Prf)(hw:∀x∈p.pre,x.sub.length<2^20)(hC:p.cJ<2^20)
  (body:bB) (hb:Hl.body=some body):fM (b.a4 K) [] [.inl 4] Hl.ntmps body (eS [.ag (prC true p)]) ⟨.nil,0⟩ (IN 4 Hl.results (.b (dH p))):=by
 cases hb;refine fM.args fun z=>?_;have H:Has (⟨.nil,0⟩:af) []:=Has.nil;refine fM.mZ ?_;refine ae ?_;refine W.en (k:=0) (c:=prC true p) H rfl rfl rfl rfl (dQ true p).1 (dQ true p).2.1 fun U cG H bE=>?_;refine ae ?_;refine W.bN (c:=[.b false]) H cG rfl rfl rfl fun bd n2 H br=>?_;refine ae ?_;refine⟨rfl,?_⟩;refine fM.mZ ?_;refine ae ?_;refine W.bN (c:=[ay 0]) H n2 rfl rfl rfl fun bG eh H bb=>?_;refine ae ?_;refine W.st (aQ:=[ay 0]) H 0 rfl rfl rfl rfl rfl rfl fun cA gU H cm=>?_;refine ae ?_;refine⟨rfl,?_⟩;refine fM.Nu ?_;refine fM.mZ ?_;refine ae ?_;refine W.dX rfl rfl rfl (IE h1 ⟨rfl,rfl⟩) fun v dk ⟨ao,dy,h7,mA⟩=>⟨_,ao,?_⟩
 have H:=H.aF mA.2;have fe:cA.next=3:=by omega
 rw[fe] at dy h7;rw[fe];refine ae ?_;refine⟨rfl,?_⟩;have gM:dk.get 0=some (.cells (prC true p)):=H.get _ (.tail _ (.tail _ (.head _)));have bM:dk.get 1=some (.cells [.b false]):=H.get _ (.tail _ (.head _));have b4:dk.get 2=some (.cells [ay 0]):=H.get _ (.head _);have hlen:((h8 (bo 0) p).pre 0).length=p.cnt:=by rw[D7,fH,aJ,ng,Prf.yx,Prf.uN];omega
 refine fM.II ?_;refine fM.IF (k:=4) h2 h3 (root:=h8 (bo 0) p) (en:=3) (fun i W U=>U.get 0=some (.cells (prC true p))∧U.get 1=some (.cells [.b false])∧U.get 2=some (.cells [ay i])∧(∀c,W c→c=1∨c=2)∧W 1∧W 2∧i≤300∧∀x∈(p.prel 0).take i,Nx x) (fun i W U=>dH p=false∧U.get 1=some (.cells [.b false])∧W 1) (fun c=>c=1∨c=2) h7 rfl rfl rfl (NA hw) (by rw[IM p.cJ p _ (o _)];exact hC) (by rw[wC];exact dy) (fun i W U h=>IP h.1) (fun i W U a5 ⟨c8,aP,a0,bF,bU,c6,dL,gC⟩ tt ew _=>⟨ew _ _ (by omega) c8,tt _ _ bU aP,tt _ _ c6 a0,bF,bU,c6,dL,gC⟩) (fun i W U a5 ⟨c8,aP,a0⟩ tt ew _=>⟨c8,tt _ _ a0 aP,a0⟩) ⟨gM,bM,b4,fun c h=>h,.inl rfl,.inr rfl,by omega,by simp⟩ (fun c ah=>by omega) ?_ ?_ ?_
 ·intro i V U v l s aj hC aZ NB xE ca;obtain⟨x,hx,e8,D9⟩:=Nz aj;refine GoF.norm [(2,bo 1),(3,bo 2),(7,v),(8,s.ptr)] ⟨rfl,rfl,rfl,rfl,trivial⟩ fun g=>?_;have H:Has U []:=Has.nil;refine ae ?_;refine⟨rfl,⟨o _,fun _ _ h=>h⟩,fun lE vy qW aZ=>?_⟩;obtain⟨c8,aP,a0,bF,bU,c6,dL,gC⟩:=aZ;have H:Has lE [(2,[ay i]),(1,[.b false]),(0,prC true p)]:=((Has.nil.cons c8 (by simp)).cons aP (by simp)).cons a0 (by simp);have na:=qb hx;have j6:=(ki.1 hx).1;rw[Prf.yx] at j6;have bad:¬(p.cnt≤300∧Nx (l,x))→dH p=false:=fun h=>by
   cases hb:dH p with
   |false=>rfl
   |true=>exact absurd ⟨((Ny p).1 hb).1,((Ny p).1 hb).2 _ na⟩ h
  refine ae ?_;refine W.st (aQ:=[ay (i+1)]) H 0 rfl rfl rfl rfl rfl rfl fun jY nZ H kn=>?_;have IQ:∀nb:af,nb.next=jY.next→(∀j J,j≠1→jY.get j=some J→nb.get j=some J)→yl V V lE nb:=fun nb eg gG=>⟨by omega,fun c J ah ab=>gG _ _ (fun e=>ah (e▸bU)) (kn _ _ (fun e=>ah (e▸c6)) ab),fun c ah=>.inl ah⟩
  have lF:yu jY s.ptr s.sub:=IP (H.get _ (.tail _ (.tail _ (.head _)))) _ (qb aj);rw[e8] at lF;by_cases cQ:300<i+1
  ·refine ae ?_;refine W.st (aQ:=[.b false]) H 1 rfl rfl rfl rfl rfl rfl fun nb eg H gG=>?_;refine ae ?_;exact GoF.ret (.inr ⟨rfl,V,⟨bad fun h=>by have:=h.1;omega,H.get _ (.tail _ (.head _)),bU⟩,IQ nb eg gG⟩)
  refine ae ?_;refine W.len rfl rfl rfl (hC _) ?_;have c3n:l<2^20:=by
   have:=(Prf.Nw (M:=p.cJ) p.cJ p 0 (o _)).2 (by omega) _ na;simp only at this;omega
  by_cases eA:40<l
  ·refine ae ?_;refine W.st (aQ:=[.b false]) H 1 rfl rfl rfl rfl rfl rfl fun nb eg H gG=>?_;refine ae ?_;exact GoF.ret (.inr ⟨rfl,V,⟨bad fun h=>by have:=h.2.1;simp only at this;omega,H.get _ (.tail _ (.head _)),bU⟩,IQ nb eg gG⟩)
  refine ae ?_;refine W.DY lF rfl rfl rfl rfl rfl (fun q=>⟨rfl,rfl⟩) fun q=>?_;refine ae ?_;refine W.len rfl rfl rfl gR ?_;have ex:(x.bm.getD []).length=x.sub.length:=rfl;have b0Q:=hw _ (Prf.D8 na);simp only at b0Q;by_cases ek:4<x.sub.length
  ·refine ae ?_;refine W.st (aQ:=[.b false]) H 1 rfl rfl rfl rfl rfl rfl fun nb eg H gG=>?_;refine ae ?_;exact GoF.ret (.inr ⟨rfl,V,⟨bad fun h=>by have:=h.2.2;simp only at this;omega,H.get _ (.tail _ (.head _)),bU⟩,IQ nb eg gG⟩)
  refine ae ?_;refine .inl ⟨rfl,V,⟨H.get _ (.tail _ (.tail _ (.head _))),H.get _ (.tail _ (.head _)),H.get _ (.head _),bF,bU,c6,by omega,fun y aw=>?_⟩,IQ jY rfl fun _ _ _ h=>h⟩;rw[GK,hx] at aw;rcases dE.1 aw with aw|aw
  ·exact gC y aw
  ·have:y=(l,x):=by simpa using aw
   rw[this];exact⟨by show l≤40;omega,by show x.sub.length≤4;omega⟩
 ·intro V U ⟨c8,aP,a0,bF,bU,c6,dL,gC⟩ kR mm ca;rw[hlen] at a0 dL gC;rw[j7 (by rw[Prf.yx];exact o _)] at gC;refine⟨.inl rfl,?_⟩;have H:Has U [(1,[.b false])]:=Has.nil.cons aP (by simp);refine GoF.norm [(2,bo 1)] ⟨rfl,trivial⟩ fun g=>?_;refine ae ?_;refine W.st (aQ:=[.b true]) H 0 rfl rfl rfl rfl rfl rfl fun jY nZ H kn=>?_;refine ae ?_;have hm:=kn _ _ (by omega) kR;exact GoF.ret ⟨rfl,hm,_,cT (fR rfl ((j_ (b7:=.dead) hm).2 _ _ (by omega) (H.get _ (.head _))) rfl),by rw[(Ny p).2 ⟨dL,gC⟩];rfl⟩
 ·intro i V U ⟨c8,aP,a0⟩ kR mm ca;refine⟨.inr rfl,?_⟩;exact⟨rfl,kR,_,cT (fR rfl ((j_ (b7:=.dead) kR).2 _ _ (by omega) aP) rfl),by rw[c8];rfl⟩
end
end
end
section
variable [Tok][TokOk]
open Go.RowKit Go.Lyc.T
attribute [local irreducible] bL bl e6 eB b9
structure pX(I:af)(p:AV)(cs:List AV):Prop where
 nz:nilOk p=true
 bu:∀off ad v,fI ad (cs.drop off)=some v→conf ad v=true→∃q,fieldAddrA off ad p=some q∧nS I ad q=some v
theorem pX.p{I:af}{id:Nat}{cs:List AV}(h:I.get id=some (.cells cs)):pX I (bo id) cs:=⟨rfl,fun off ad v av _=>⟨.p (some (id,0+off)),rfl,jS h (by rw[hO];exact av)⟩⟩
theorem pX.cZ{I:af}{cs:List AV}:pX I (.cZ true (.ag cs)) cs:=⟨rfl,fun off ad v av ah=>⟨.cZ true v,by
 show(match fI ad (cs.drop off) with|some v=>some (AV.cZ true v)|none=>none)=_;rw[av],by show(if conf ad v then some v else none)=_;rw[if_pos ah]⟩⟩
namespace W
section
variable {b0:lv}{env:Env}{aI:Option Nat}{D:List (Nat ⊕ (AV×List AV))}{n:Nat}{F:List (Nat×AV)}{z:Nat→AV}{I:af}{Q:e5}{g bM b4:Option (Nat×Bool)}{ops:List a1}
theorem jZ{p:AV}{cs:List AV}(DZ:pX I p cs){a:aC}{d1 d2 d3 off:Nat}{ad:Option Nat}{v:AV}(h1:Nat.blt d1 n=true)(h2:Nat.blt d2 n=true)(h3:Nat.blt d3 n=true)(hw:wtL g n F=true)(ha:cq env n F z a=some p)(av:fI ad (cs.drop off)=some v)(ah:conf ad v=true)
  (lU:∀q,wtL bM n ((d1,p)::F)=true∧wtL b4 n ((d2,q)::(d1,p)::F)=true) (h:∀q,bL b0 env aI D n ops (bC ((d3,v)::(d2,q)::(d1,p)::F) z) I Q):bL b0 env aI D n (⟨some d1,.nilCheck a,g,[]⟩::⟨some d2,.fieldAddr off ad (.t d1),bM,[]⟩::⟨some d3,.load ad (.t d2),b4,[]⟩::ops) (bC F z) I Q:=by
 obtain⟨q,aM,e2⟩:=DZ.bu off ad v av ah;exact val h1 hw (Vz ha DZ.nz) (val h2 (lU q).1 (VA (IB h1) aM) (val h3 (lU q).2 (rL _ _ (IB h2) e2) (h q)))
end
end W
theorem NC{U:af}{k:Nat}{p:Prf}(hp:U.get k=some (.cells (prC true p))){s:Sh}{x:Prf}(h:s.ptr=om x∨(s.ptr=bo k∧x=p)):pX U s.ptr (prC true x):=by
 rcases h with h|⟨h,rfl⟩
 ·rw[h];exact .cZ
 ·rw[h];exact .p hp
section
variable {b:dW}{K:Nat→List AV→AV→Prop}
theorem b0R(h1:cY (b.a4 K) ye Af)(h2:cY (b.a4 K) td x2)(h3:cY (b.a4 K) uJ wb)(p:Prf)(hw:∀x∈p.pre,x.sub.length<2^20)(hC:p.cJ<2^20)(c4:∀x∈p.pre,qT b x)
  (body:bB) (hb:Ho.body=some body):fM (b.a4 K) [] [.inl 3] Ho.ntmps body (eS [.ag (prC true p)]) ⟨.nil,0⟩ (IN 3 Ho.results (zI ((bN p).foldl max 0))):=by
 cases hb;refine fM.args fun z=>?_;have H:Has (⟨.nil,0⟩:af) []:=Has.nil;refine fM.mZ ?_;refine ae ?_;refine W.en (k:=0) (c:=prC true p) H rfl rfl rfl rfl (dQ true p).1 (dQ true p).2.1 fun U cG H bE=>?_;refine ae ?_;refine⟨rfl,?_⟩;refine fM.mZ ?_;refine ae ?_;refine W.bN (c:=[ay 0]) H cG rfl rfl rfl fun bG eh H bb=>?_;refine ae ?_;refine W.st (aQ:=[ay 0]) H 0 rfl rfl rfl rfl rfl rfl fun cA gU H cm=>?_;refine ae ?_;refine⟨rfl,?_⟩;refine fM.Nu ?_;refine fM.mZ ?_;refine ae ?_;refine W.dX rfl rfl rfl (IE h1 ⟨rfl,rfl⟩) fun v dk ⟨ao,dy,h7,mA⟩=>⟨_,ao,?_⟩
 have H:=H.aF mA.2;have fe:cA.next=2:=by omega
 rw[fe] at dy h7;rw[fe];refine ae ?_;refine⟨rfl,?_⟩;have gM:dk.get 0=some (.cells (prC true p)):=H.get _ (.tail _ (.head _));have bM:dk.get 1=some (.cells [zI 0]):=H.get _ (.head _);have hlen:((h8 (bo 0) p).pre 0).length=p.cnt:=by rw[D7,fH,aJ,ng,Prf.yx,Prf.uN];omega
 have dJ:(p.prel 0).flatMap (fun x=>kN x.2)=bN p:=by
  unfold bN;rw[←Prf.AD p p.cJ p 0 (o _),w3]
 refine fM.II ?_;refine fM.IF (k:=3) h2 h3 (root:=h8 (bo 0) p) (en:=2) (fun i W U=>U.get 0=some (.cells (prC true p))∧U.get 1=some (.cells [zI ((((p.prel 0).take i).flatMap fun x=>kN x.2).foldl max 0)])∧(∀c,W c→c=1)∧W 1) (fun i W U=>False) (fun c=>c=1) h7 rfl rfl rfl (NA hw) (by rw[IM p.cJ p _ (o _)];exact hC) (by rw[wC];exact dy) (fun i W U h=>IP h.1) (fun i W U a5 ⟨c8,aP,a0,bF⟩ tt ew _=>⟨ew _ _ (by omega) c8,tt _ _ bF aP,a0,bF⟩) (fun i W U a5 h=>h.elim) ⟨gM,bM,fun c h=>h,rfl⟩ (fun c ah=>by omega) ?_ ?_ (fun i W U h=>h.elim)
 ·intro i V U v l s aj hC aZ NB xE ca;obtain⟨x,hx,e8,D9⟩:=Nz aj;refine GoF.norm [(3,bo 1),(11,v),(12,s.ptr)] ⟨rfl,rfl,rfl,trivial⟩ fun g=>?_;have H:Has U []:=Has.nil;refine ae ?_;refine⟨rfl,⟨o _,fun _ _ h=>h⟩,fun lE vy qW aZ=>?_⟩;obtain⟨c8,aP,a0,bF⟩:=aZ;have na:=qb hx;have VR:=c4 _ (Prf.D8 na);have b0S:(((p.prel 0).take (i+1)).flatMap fun x=>kN x.2).foldl max 0=(pT x).foldl max (max ((((p.prel 0).take i).flatMap fun x=>kN x.2).foldl max 0) x.aY):=by
   rw[GK,hx,il,kW];show((kN x++[]).foldl max _)=_;rw[fV];rfl
  rw[b0S];generalize(((p.prel 0).take i).flatMap fun x=>kN x.2).foldl max 0=ed at aP;have H:Has lE [(1,[zI ed]),(0,prC true p)]:=(Has.nil.cons c8 (by simp)).cons aP (by simp);have lF:=NC (U:=lE) c8 D9;refine ae ?_;refine W.jZ lF (v:=zI x.aY) rfl rfl rfl rfl rfl rfl rfl (fun q=>⟨rfl,rfl⟩) fun q=>?_;refine W.DU rfl rfl rfl rfl ?_;refine ae ?_;refine W.st (aQ:=[zI (max ed x.aY)]) H 0 rfl rfl rfl rfl rfl rfl fun jY nZ H kn=>?_;have b0T:=NC (U:=jY) (H.get _ (.tail _ (.head _))) D9;refine ae ?_;have b0U:x.aG.length<2^62:=VR.aG;refine W.jZ b0T (v:=cO true x.cv) rfl rfl rfl rfl rfl rfl (Iq _ _).2 (fun q=>⟨rfl,rfl⟩) fun q=>?_;refine ae ?_;refine W.len rfl rfl rfl kc ?_;refine ae ?_;have b0V:jY.get 1=some (.cells [zI (max ed x.aY)]):=H.get _ (.head _);refine GoF.each x.aG.length (fun j f U=>U.get 1=some (.cells [zI (((x.aG.take j).flatMap fun m=>m.getD []).foldl max (max ed x.aY))])∧(∀c J,c≠1→jY.get c=some J→U.get c=some J)∧U.next=jY.next∧sat [(3,bo 1),(22,cO true x.cv)] f) b0U ⟨b0V,fun _ _ _ h=>h,rfl,rfl,rfl,trivial⟩ rfl rfl (fun j g U az aZ hi hm=>?_) (fun g U aZ hi=>?_)
  ·obtain⟨cC,ca,sP,aX⟩:=aZ;refine GoF.norm ((24,ay j)::(23,ay x.aG.length)::[(3,bo 1),(22,cO true x.cv)]) ⟨hi,hm,aX⟩ fun g=>?_;have H:Has U [(1,[zI (((x.aG.take j).flatMap fun m=>m.getD []).foldl max (max ed x.aY))])]:=Has.nil.cons cC (by simp);have cV:=fG az;have bS:j<(x.cv.getD []).length:=az;have cP:=aS az;have gX:∀J,idxSlA none (cO J x.cv) j=some (.cZ J (b5 J x.aG[j])):=fun J=>pR bS;generalize x.aG[j]=m at cV cP gX;have k9:=VR.Iw m cP;generalize n8:((x.aG.take j).flatMap fun m=>m.getD []).foldl max (max ed x.aY)=cc at cC H;have b0W:((x.aG.take (j+1)).flatMap fun m=>m.getD []).foldl max (max ed x.aY)=(m.getD []).foldl max cc:=by
    rw[cV,il,kW,n8];show(m.getD []++[]).foldl max cc=_;rw[fV]
   refine ae ?_;refine W.cw rfl rfl rfl rfl (gX _) ?_;refine ae ?_
   try (refine W.iG (ad:=none) rfl rfl rfl (iI _ _).2 ?_;refine ae ?_)
   refine W.len rfl rfl rfl ly ?_;refine ae ?_;refine GoF.each (m.getD []).length (fun i f a5=>a5.get 1=some (.cells [zI (((m.getD []).take i).foldl max cc)])∧(∀c J,c≠1→jY.get c=some J→a5.get c=some J)∧a5.next=jY.next∧sat [(3,bo 1),(22,cO true x.cv),(23,ay x.aG.length),(24,ay j),(28,b5 true m)] f) k9 ⟨cC,ca,sP,rfl,rfl,rfl,rfl,rfl,trivial⟩ rfl rfl (fun i g a5 ff aZ cS oJ=>?_) (fun g a5 aZ cS=>?_)
   ·obtain⟨cC,ca,sP,aX⟩:=aZ;refine GoF.norm ((30,ay i)::(29,ay (m.getD []).length)::[(3,bo 1),(22,cO true x.cv),(23,ay x.aG.length),(24,ay j),(28,b5 true m)]) ⟨cS,oJ,aX⟩ fun g=>?_;have H:Has a5 [(1,[zI (((m.getD []).take i).foldl max cc)])]:=Has.nil.cons cC (by simp);have cV:=fG ff;have m7:∀J,idxSlA none (b5 J m) i=some (.cZ J (zI (m.getD [])[i])):=fun J=>qS ff;generalize(m.getD [])[i]=y at cV m7;refine ae ?_;refine W.cw rfl rfl rfl rfl (m7 _) ?_;refine ae ?_;refine W.DU rfl rfl rfl rfl ?_;refine ae ?_;refine W.st (aQ:=[zI (max (((m.getD []).take i).foldl max cc) y)]) H 0 rfl rfl rfl rfl rfl rfl fun nb eg H gG=>?_;refine ae ?_;refine⟨rfl,rfl,?_,fun c J ah ab=>gG _ _ ah (ca _ _ ah ab),by omega,rfl,rfl,rfl,rfl,rfl,trivial⟩;rw[cV,kW];exact H.get _ (.head _)
   ·obtain⟨cC,ca,sP,aX⟩:=aZ;rw[h_] at cC;obtain⟨f3,f22,f23,f24,f28,_⟩:=aX;exact⟨f24,f23,by rw[b0W];exact cC,ca,sP,f3,f22,trivial⟩
  ·obtain⟨cC,ca,sP,aX⟩:=aZ;rw[h_] at cC;refine .inl ⟨rfl,V,⟨ca _ _ (by omega) (H.get _ (.tail _ (.head _))),cC,a0,bF⟩,by omega,fun c J ah ab=>?_,fun c ah=>.inl ah⟩;have hc1:c≠1:=fun e=>ah (e▸bF);exact ca _ _ hc1 (kn _ _ hc1 ab)
 ·intro V U ⟨c8,aP,a0,bF⟩ kR mm ca;rw[hlen,j7 (by rw[Prf.yx];exact o _),dJ] at aP;refine⟨.inl rfl,?_⟩;have H:Has U [(1,[zI ((bN p).foldl max 0)])]:=Has.nil.cons aP (by simp);refine GoF.norm [(3,bo 1)] ⟨rfl,trivial⟩ fun g=>?_;refine ae ?_;exact GoF.ret ⟨rfl,kR,_,cT (cI rfl),rfl⟩
end
theorem wD(a c:Int):keyEq (.inl 0) (zI a) (zI c)=some (decide (a=c)):=by
 show some _=_
 congr 1
abbrev mB:=List (Int×AV×Nat)
abbrev jH(L:mB):List (AV×AV×Nat):=L.map fun t=>(zI t.1,t.2.1,t.2.2)
def look:mB→Int→Option AV
 |[],_=>none
 |t::L,n=>if n=t.1 then some t.2.1 else look L n
def setM:mB→Int→AV→Nat→mB
 |[],n,v,c=>[(n,v,c)]
 |t::L,n,v,c=>if n=t.1 then(n,v,t.2.2)::L else t::setM L n v c
theorem VS(n:Int):∀L:mB,oC (.inl 0) (zI n) (jH L)=some (look L n)
 |[]=>rfl
 |t::L=>by
  show(match keyEq (.inl 0) (zI n) (zI t.1) with|none=>none|some true=>some (some t.2.1)|some false=>oC (.inl 0) (zI n) (jH L))=_;rw[wD,VS n L,show look (t::L) n=if n=t.1 then some t.2.1 else look L n from rfl];by_cases h:n=t.1
  ·rw[decide_eq_true h,if_pos h]
  ·rw[decide_eq_false h,if_neg h]
theorem IS(n:Int)(v:AV)(c:Nat)(m:Int):∀L:mB,look (setM L n v c) m=if m=n then some v else look L m
 |[]=>by unfold setM look;rfl
 |t::L=>by
  unfold setM;by_cases h:n=t.1
  ·rw[if_pos h];unfold look;by_cases hm:m=n
   ·rw[if_pos hm,if_pos hm]
   ·rw[if_neg hm,if_neg hm,if_neg (by rw[←h];exact hm)]
  ·rw[if_neg h];unfold look;by_cases hm:m=t.1
   ·rw[if_pos hm,if_pos hm,if_neg (by rw[hm];exact fun e=>h e.symm)]
   ·rw[if_neg hm,if_neg hm,IS n v c m L]
theorem VT(n:Int)(v:AV)(c:Nat):∀L:mB,(setM L n v c).length=L.length+(if(look L n).isSome then 0 else 1)
 |[]=>rfl
 |t::L=>by
  unfold setM look;by_cases h:n=t.1
  ·rw[if_pos h,if_pos h];rfl
  ·rw[if_neg h,if_neg h,fH,fH,VT n v c L];omega
theorem VU(n:Int)(v:AV)(aL:Nat):∀L:mB,∃r,nR (.inl 0) (zI n) v (jH L)=some r∧(match r with|some es=>es=jH (setM L n v aL)∧(look L n).isSome=true|none=>jH (setM L n v aL)=jH L++[(zI n,v,aL)]∧(look L n).isSome=false)
 |[]=>⟨none,rfl,rfl,rfl⟩
 |t::L=>by
  obtain⟨r,h1,h2⟩:=VU n v aL L;have e:nR (.inl 0) (zI n) v (jH (t::L))=(match keyEq (.inl 0) (zI n) (zI t.1) with
   |none=>none
   |some true=>some (some ((zI n,v,t.2.2)::jH L))
   |some false=>match nR (.inl 0) (zI n) v (jH L) with|none=>none|some none=>some none|some (some es)=>some (some ((zI t.1,t.2.1,t.2.2)::es))):=rfl
  rw[e,wD,h1];unfold setM look;by_cases h:n=t.1
  ·rw[decide_eq_true h];refine⟨_,rfl,?_⟩;rw[if_pos h,if_pos h];exact⟨rfl,rfl⟩
  ·rw[decide_eq_false h,if_neg h,if_neg h];cases r with
   |none=>
    refine⟨none,rfl,?_,h2.2⟩;show _::jH (setM L n v aL)=(_::jH L)++_;rw[h2.1];rfl
   |some es=>
    refine⟨_,rfl,?_,h2.2⟩;show _::es=_::jH (setM L n v aL);rw[h2.1]
namespace W
section
variable {b0:lv}{env:Env}{aI:Option Nat}{D:List (Nat ⊕ (AV×List AV))}{n:Nat}{F:List (Nat×AV)}{z:Nat→AV}{I:af}{Q:e5}{g:Option (Nat×Bool)}{ops:List a1}
theorem IT{x y u:aC}{bT aL:Nat}{k:Int}{v:AV}{L:mB}(hm:I.get bT=some (.map (jH L) aL))(hw:wtL g n F=true)(h1:cq env n F z x=some (.m (some bT)))(h2:cq env n F z y=some (zI k))(h3:cq env n F z u=some v)
  (h:∀(U:af) (o4:Nat),U.next=I.next→U.get bT=some (.map (jH (setM L k v aL)) o4)→(∀i J,i≠bT→I.get i=some J→U.get i=some J)→bL b0 env aI D n ops (bC F z) U Q):bL b0 env aI D n (⟨none,.pc (.inl 0) x y u,g,[]⟩::ops) (bC F z) I Q:=by
 obtain⟨r,al,oR⟩:=VU k v aL L;refine mu (t:=true) hm hw h1 h2 h3 (by rw[wD,decide_eq_true rfl]) al fun U cG bM bE=>?_;cases r with
 |none=>exact h U (aL+1) cG (by rw[bM];show some (AO.map (jH L++[(zI k,v,aL)]) (aL+1))=_;rw[←oR.1]) bE
 |some es=>exact h U aL cG (by rw[bM];show some (AO.map es aL)=_;rw[oR.1]) bE
theorem AE{d:Nat}{x y:aC}{bT aL:Nat}{k:Int}{ir:AV}{two:Bool}{L:mB}(hm:I.get bT=some (.map (jH L) aL))(au:Nat.blt d n=true)(hw:wtL g n F=true)(h1:cq env n F z x=some (.m (some bT)))(h2:cq env n F z y=some (zI k))
  (h:bL b0 env aI D n ops (bC ((d,v2 two ((look L k).getD ir) (look L k).isSome)::F) z) I Q):bL b0 env aI D n (⟨some d,.lookup (.inl 0) x y ir two,g,[]⟩::ops) (bC F z) I Q:=pK hm au hw h1 h2 rfl (VS k L) h
end
end W
def yy(L:mB)(seen:List Int):Prop:=∀n,look L n=(if n∈seen then some (.b (decide (n≠0))) else none)
theorem yy.nil:yy [] []:=fun n=>rfl
theorem yy.push{L:mB}{seen:List Int}(h:yy L seen)(x:Int)(c:Nat):yy (setM L x (.b (!decide (x=0))) c) (seen++[x]):=fun n=>by
 rw[IS,h n];by_cases hn:n=x
 ·subst hn;rw[if_pos rfl,if_pos (by simp)];simp
 ·rw[if_neg hn];by_cases aj:n∈seen
  ·rw[if_pos aj,if_pos (k6 _ aj)]
  ·rw[if_neg aj,if_neg (by simp[aj,hn])]
section
variable {b:dW}{K:Nat→List AV→AV→Prop}
theorem b0X(hh:cY (b.a4 K) H5 MF)(p:Prf)(c4:qT b p){I:af}{ptr:AV}(hr:∀U,b2 I U→pX U ptr (prC true p)):
  b9 (b.a4 K) 0 (.f (.func H5) [] []) [ptr] I (fun r U=>r= .ok (.b (f_ p))∧b2 I U):=by
 have es:(p.bm.getD []).length=p.sub.length:=rfl;have em:(p.cv.getD []).length=p.aG.length:=rfl;have hl1:=c4.sub;have hl2:=c4.aG;have AF:=(Ir true p.bm).2;have yz:=(Iq true p.cv).2;refine W.code hh.e hh.p hh.f rfl rfl rfl rfl fun z=>?_;have H:Has I []:=Has.nil;have lF:=hr I b2.refl;refine ae ?_;refine W.jZ lF (v:=.s p.rule) rfl rfl rfl rfl rfl rfl rfl (fun q=>⟨rfl,rfl⟩) fun q=>?_;refine W.bin (v:=.b (eqL p.rule [])) rfl rfl rfl rfl rfl ?_;cases h0:eqL p.rule [] with
 |true=>
  have al:p.rule=[]:=(pk _ _).1 h0;have h1:eqL p.rule [63]=false:=by rw[al];rfl
  have cL:f_ p=(decide (p.sub.length=0)&&(decide (p.aG.length=0)&&(decide (p.aY≥1)&&decide (p.aY≤999)))):=by unfold f_;rw[h0,h1];rfl
  refine ae ?_;refine W.jZ lF (v:=cU true p.bm) rfl rfl rfl rfl rfl rfl AF (fun q=>⟨rfl,rfl⟩) fun q=>?_;refine ae ?_;refine W.len rfl rfl rfl gR ?_;by_cases cQ:0<p.sub.length
  ·refine ae ?_;exact GoF.ret ⟨rfl,by rw[cL,decide_eq_false (by omega)];rfl,b2.refl⟩
  refine ae ?_;refine W.jZ lF (v:=cO true p.cv) rfl rfl rfl rfl rfl rfl yz (fun q=>⟨rfl,rfl⟩) fun q=>?_;refine ae ?_;refine W.len rfl rfl rfl kc ?_;by_cases eA:0<p.aG.length
  ·refine ae ?_;exact GoF.ret ⟨rfl,by rw[cL,decide_eq_false (p:=p.aG.length=0) (by omega),za,xx];rfl,b2.refl⟩
  rw[decide_eq_true (show p.sub.length=0 by omega),decide_eq_true (show p.aG.length=0 by omega),jU,jU] at cL;refine ae ?_;refine W.jZ lF (v:=.s p.rule) rfl rfl rfl rfl rfl rfl rfl (fun q=>⟨rfl,rfl⟩) fun q=>?_;refine W.bin (v:=.b (eqL p.rule [63])) rfl rfl rfl rfl rfl ?_;rw[h1];refine ae ?_;refine W.jZ lF (v:=zI p.aY) rfl rfl rfl rfl rfl rfl rfl (fun q=>⟨rfl,rfl⟩) fun q=>?_;refine W.bin rfl rfl rfl rfl Nb ?_;by_cases ek:p.aY≥1
  ·rw[decide_eq_true ek];refine ae ?_;refine W.jZ lF (v:=zI p.aY) rfl rfl rfl rfl rfl rfl rfl (fun q=>⟨rfl,rfl⟩) fun q=>?_;refine W.bin rfl rfl rfl rfl Vi ?_;refine ae ?_;exact GoF.ret ⟨rfl,by rw[cL,decide_eq_true ek];rfl,b2.refl⟩
  ·rw[decide_eq_false ek];refine ae ?_;exact GoF.ret ⟨rfl,by rw[cL,decide_eq_false ek];rfl,b2.refl⟩
 |false=>
 refine ae ?_;refine W.jZ lF (v:=.s p.rule) rfl rfl rfl rfl rfl rfl rfl (fun q=>⟨rfl,rfl⟩) fun q=>?_;refine W.bin (v:=.b (eqL p.rule [63])) rfl rfl rfl rfl rfl ?_;cases h1:eqL p.rule [63] with
 |true=>
  have cL:f_ p=(decide (p.sub.length=0)&&(decide (p.aG.length=0)&&decide (p.aY=0))):=by unfold f_;rw[h0,h1];rfl
  refine ae ?_;refine W.jZ lF (v:=cU true p.bm) rfl rfl rfl rfl rfl rfl AF (fun q=>⟨rfl,rfl⟩) fun q=>?_;refine ae ?_;refine W.len rfl rfl rfl gR ?_;by_cases cQ:0<p.sub.length
  ·refine ae ?_;exact GoF.ret ⟨rfl,by rw[cL,decide_eq_false (by omega)];rfl,b2.refl⟩
  refine ae ?_;refine W.jZ lF (v:=cO true p.cv) rfl rfl rfl rfl rfl rfl yz (fun q=>⟨rfl,rfl⟩) fun q=>?_;refine ae ?_;refine W.len rfl rfl rfl kc ?_;by_cases eA:0<p.aG.length
  ·refine ae ?_;exact GoF.ret ⟨rfl,by rw[cL,decide_eq_false (p:=p.aG.length=0) (by omega),za,xx];rfl,b2.refl⟩
  rw[decide_eq_true (show p.sub.length=0 by omega),decide_eq_true (show p.aG.length=0 by omega),jU,jU] at cL;refine ae ?_;refine W.jZ lF (v:=.s p.rule) rfl rfl rfl rfl rfl rfl rfl (fun q=>⟨rfl,rfl⟩) fun q=>?_;refine W.bin (v:=.b (eqL p.rule [63])) rfl rfl rfl rfl rfl ?_;rw[h1];refine ae ?_;refine W.jZ lF (v:=zI p.aY) rfl rfl rfl rfl rfl rfl rfl (fun q=>⟨rfl,rfl⟩) fun q=>?_;refine W.bin rfl rfl rfl rfl tq ?_;refine ae ?_;exact GoF.ret ⟨rfl,by rw[cL];rfl,b2.refl⟩
 |false=>
 have cL:f_ p=(decide (p.aY=0)&&(decide (p.sub.length=p.aG.length)&&p.aG.all fun m=>qU (m.getD []))):=by unfold f_;rw[h0,h1];rfl
 refine ae ?_;refine W.jZ lF (v:=zI p.aY) rfl rfl rfl rfl rfl rfl rfl (fun q=>⟨rfl,rfl⟩) fun q=>?_;refine W.bin rfl rfl rfl rfl yq ?_;by_cases bw:p.aY=0
 rotate_left
 ·rw[decide_eq_false bw];refine ae ?_;exact GoF.ret ⟨rfl,by rw[cL,decide_eq_false bw];rfl,b2.refl⟩
 rw[decide_eq_true bw] at cL ⊢;refine ae ?_;refine W.jZ lF (v:=cO true p.cv) rfl rfl rfl rfl rfl rfl yz (fun q=>⟨rfl,rfl⟩) fun q=>?_;refine W.len rfl rfl rfl kc ?_;refine ae ?_;refine W.jZ lF (v:=cU true p.bm) rfl rfl rfl rfl rfl rfl AF (fun q=>⟨rfl,rfl⟩) fun q=>?_;refine W.len rfl rfl rfl gR ?_;by_cases cQ:p.sub.length=p.aG.length
 rotate_left
 ·refine ae ?_;exact GoF.ret ⟨rfl,by rw[cL,decide_eq_false cQ];rfl,b2.refl⟩
 rw[decide_eq_true cQ,jU,jU] at cL;refine ae ?_;refine W.jZ lF (v:=cO true p.cv) rfl rfl rfl rfl rfl rfl yz (fun q=>⟨rfl,rfl⟩) fun q=>?_;refine ae ?_;refine W.len rfl rfl rfl kc ?_;refine ae ?_;refine GoF.each p.aG.length (fun j f U=>b2 I U∧(p.aG.take j).all (fun m=>qU (m.getD []))=true∧sat [(0,ptr),(77,cO true p.cv)] f) hl2 ⟨b2.refl,rfl,rfl,rfl,trivial⟩ rfl rfl (fun j g U az aZ hi hm=>?_) (fun g U aZ hi=>?_)
 rotate_left
 ·obtain⟨M,dJ,_⟩:=aZ;rw[h_] at dJ;show bl _ _ _ _ _ _ _ _;refine GoF.norm [] trivial fun g=>?_;have H:Has U []:=Has.nil;refine ae ?_;exact GoF.ret ⟨rfl,by rw[cL,dJ];rfl,M⟩
 obtain⟨M,dJ,aX⟩:=aZ;refine GoF.norm ((79,ay j)::(78,ay p.aG.length)::[(0,ptr),(77,cO true p.cv)]) ⟨hi,hm,aX⟩ fun g=>?_;have H:Has U []:=Has.nil;have cV:=fG az;have cP:=aS az;have yr:j<(p.cv.getD []).length:=az;have gX:∀J,idxSlA none (cO J p.cv) j=some (.cZ J (b5 J p.aG[j])):=fun J=>pR yr;generalize p.aG[j]=m at cV cP gX;have k9:=c4.Iw m cP;refine ae ?_;refine W.cw rfl rfl rfl rfl (gX _) ?_;refine ae ?_
 try (refine W.iG (ad:=none) rfl rfl rfl (iI _ _).2 ?_;refine ae ?_)
 refine W.Im H rfl rfl rfl fun bd n2 H D_ br=>?_;have M2:b2 I bd:=b2.trans M ⟨by omega,fun i J h=>br i J h⟩;have AG:I.next≤U.next:=M.1;generalize U.next=bT at D_ n2 AG;refine ae ?_;refine W.len rfl rfl rfl ly ?_;refine ae ?_;refine GoF.each (m.getD []).length (fun i f a5=>(∃L aL,a5.get bT=some (.map (jH L) aL)∧yy L ((m.getD []).take i))∧(∀c J,c≠bT→bd.get c=some J→a5.get c=some J)∧a5.next=bd.next∧(List.range i).all (fun k=>kd ((m.getD []).take k) ((m.getD []).getD k 0))=true∧sat [(0,ptr),(5,.m (some bT)),(77,cO true p.cv),(78,ay p.aG.length),(79,ay j),(84,b5 true m)] f) k9 ⟨⟨[],0,D_,yy.nil⟩,fun _ _ _ h=>h,rfl,rfl,rfl,rfl,rfl,rfl,rfl,rfl,trivial⟩ rfl rfl (fun i g a5 ff aZ cS oJ=>?_) (fun g a5 aZ cS=>?_)
 rotate_left
 ·obtain⟨_,ca,sP,jP,aX⟩:=aZ;obtain⟨f0,f5,f77,f78,f79,f84,_⟩:=aX;refine⟨f79,f78,b2.trans (I:=I) (U:=I) b2.refl ⟨by have:=M2.1;omega,fun c J ab=>ca c J (fun e=>by have:=af.bW ab;omega) (M2.2 _ _ ab)⟩,?_,f0,f77,trivial⟩;rw[cV,w2,dJ,sn,show qU (m.getD [])=true from jP];rfl
 obtain⟨⟨L,aL,D_,hY⟩,ca,sP,jP,aX⟩:=aZ;refine GoF.norm ((86,ay i)::(85,ay (m.getD []).length)::[(0,ptr),(5,.m (some bT)),(77,cO true p.cv),(78,ay p.aG.length),(79,ay j),(84,b5 true m)]) ⟨cS,oJ,aX⟩ fun g=>?_;have H:Has a5 []:=Has.nil;have dp:=Vj jP ff;have iU:kd ((m.getD []).take i) (m.getD [])[i]=false→f_ p=false:=fun h=>by
  rw[cL];exact vj.2 ⟨m,cP,by rw[Vk ff h];simp⟩
 have m7:∀J,idxSlA none (b5 J m) i=some (.cZ J (zI (m.getD [])[i])):=fun J=>qS ff;have lB:=fG ff;have ND:∀bG:af,bG.next=a5.next→(∀c J,c≠bT→a5.get c=some J→bG.get c=some J)→b2 I bG:=fun bG eh bb=>⟨by have:=M2.1;omega,fun c J ab=>by
  have bx:c≠bT:=fun e=>by have:=af.bW ab;omega
  exact bb _ _ bx (ca _ _ bx (M2.2 _ _ ab))⟩
 generalize(m.getD [])[i]=x at dp iU m7 lB;refine ae ?_;refine W.cw rfl rfl rfl rfl (m7 _) ?_;refine ae ?_;refine W.bin rfl rfl rfl rfl Na ?_;by_cases d1:x<0
 ·rw[decide_eq_true d1];refine ae ?_;exact GoF.ret ⟨rfl,by rw[iU (by unfold kd;rw[decide_eq_false (by omega)];rfl)];rfl,ND _ rfl fun _ _ _ h=>h⟩
 rw[decide_eq_false d1];refine ae ?_;refine W.bin rfl rfl rfl rfl DQ ?_;by_cases d2:x > 999
 ·rw[decide_eq_true d2];refine ae ?_;exact GoF.ret ⟨rfl,by rw[iU (by unfold kd;rw[decide_eq_false (p:=x≤999) (by omega),za,xx])];rfl,ND _ rfl fun _ _ _ h=>h⟩
 rw[decide_eq_false d2];refine ae ?_;have DR:kd ((m.getD []).take i) x=(decide (x=0)|| !decide (x∈(m.getD []).take i)):=by
  unfold kd;rw[decide_eq_true (show 0≤x by omega),decide_eq_true (show x≤999 by omega)];rfl
 refine W.AE D_ rfl rfl rfl rfl ?_;have xO:v2 false ((look L x).getD (.b false)) (look L x).isSome= .b (decide (x∈(m.getD []).take i)&& !decide (x=0)):=by
  rw[hY x];by_cases hx:x∈(m.getD []).take i
  ·rw[if_pos hx,decide_eq_true hx];show AV.b (decide (x≠0))=_;simp
  ·rw[if_neg hx,decide_eq_false hx];rfl
 rw[xO];cases au:(decide (x∈(m.getD []).take i)&& !decide (x=0)) with
 |true=>
  have:kd ((m.getD []).take i) x=false:=by
   rw[DR];simp only[cx,decide_eq_true_eq,q6,decide_eq_false_iff_not] at au;rw[decide_eq_true au.1,decide_eq_false au.2];rfl
  refine ae ?_;exact GoF.ret ⟨rfl,by rw[iU this];rfl,ND _ rfl fun _ _ _ h=>h⟩
 |false=>
  have:kd ((m.getD []).take i) x=true:=by
   rw[DR];cases h1:decide (x=0) with
   |true=>rfl
   |false=>
    rw[h1] at au;cases h2:decide (x∈(m.getD []).take i) with
    |true=>rw[h2] at au;cases au
    |false=>rfl
  refine ae ?_;refine W.bin rfl rfl rfl rfl yq ?_;refine W.IT D_ rfl rfl rfl rfl fun bG o4 eh dy bb=>?_;refine ae ?_;refine⟨rfl,rfl,⟨_,o4,dy,by rw[lB];exact hY.push x aL⟩,fun c J ah ab=>bb _ _ ah (ca _ _ ah ab),by omega,dp this,rfl,rfl,rfl,rfl,rfl,rfl,trivial⟩
end
theorem VV(p:Prf):dh p=true↔∀x∈p.prel 0,f_ x.2=true:=by
 unfold dh;rw[hP,← Prf.AD p p.cJ p 0 (o _)];constructor
 ·intro h x hx;exact h _ (sl hx)
 ·intro h x hx;obtain⟨y,aw,rfl⟩:=bQ.1 hx;exact h y aw
section
variable {b:dW}{K:Nat→List AV→AV→Prop}
theorem b0Y(h1:cY (b.a4 K) ye Af)(h2:cY (b.a4 K) td x2)(h3:cY (b.a4 K) uJ wb)(aE:cY (b.a4 K) H5 MF)(p:Prf)(hw:∀x∈p.pre,x.sub.length<2^20)(hC:p.cJ<2^20)(c4:∀x∈p.pre,qT b x)
  (body:bB) (hb:Hm.body=some body):fM (b.a4 K) [] [.inl 3] Hm.ntmps body (eS [.ag (prC true p)]) ⟨.nil,0⟩ (IN 3 Hm.results (.b (dh p))):=by
 cases hb;refine fM.args fun z=>?_;have H:Has (⟨.nil,0⟩:af) []:=Has.nil;refine fM.mZ ?_;refine ae ?_;refine W.en (k:=0) (c:=prC true p) H rfl rfl rfl rfl (dQ true p).1 (dQ true p).2.1 fun U cG H bE=>?_;refine ae ?_;refine W.bN (c:=[.b false]) H cG rfl rfl rfl fun cA gU H cm=>?_;refine ae ?_;refine⟨rfl,?_⟩;refine fM.Nu ?_;refine fM.mZ ?_;refine ae ?_;refine W.dX rfl rfl rfl (IE h1 ⟨rfl,rfl⟩) fun v dk ⟨ao,dy,h7,mA⟩=>⟨_,ao,?_⟩
 have H:=H.aF mA.2;have fe:cA.next=2:=by omega
 rw[fe] at dy h7;rw[fe];refine ae ?_;refine⟨rfl,?_⟩;have gM:dk.get 0=some (.cells (prC true p)):=H.get _ (.tail _ (.head _));have bM:dk.get 1=some (.cells [.b false]):=H.get _ (.head _);have hlen:((h8 (bo 0) p).pre 0).length=p.cnt:=by rw[D7,fH,aJ,ng,Prf.yx,Prf.uN];omega
 refine fM.II ?_;refine fM.IF (k:=3) h2 h3 (root:=h8 (bo 0) p) (en:=2) (fun i W U=>U.get 0=some (.cells (prC true p))∧U.get 1=some (.cells [.b false])∧(∀c,W c→c=1)∧W 1∧∀x∈(p.prel 0).take i,f_ x.2=true) (fun i W U=>dh p=false∧U.get 1=some (.cells [.b false])∧W 1) (fun c=>c=1) h7 rfl rfl rfl (NA hw) (by rw[IM p.cJ p _ (o _)];exact hC) (by rw[wC];exact dy) (fun i W U h=>IP h.1) (fun i W U a5 ⟨c8,aP,a0,bF,bU⟩ tt ew _=>⟨ew _ _ (by omega) c8,tt _ _ bF aP,a0,bF,bU⟩) (fun i W U a5 ⟨c8,aP,a0⟩ tt ew _=>⟨c8,tt _ _ a0 aP,a0⟩) ⟨gM,bM,fun c h=>h,rfl,by simp⟩ (fun c ah=>by omega) ?_ ?_ ?_
 ·intro i V U v l s aj hC aZ NB xE ca;obtain⟨x,hx,e8,D9⟩:=Nz aj;refine GoF.norm [(2,bo 1),(6,v),(7,s.ptr)] ⟨rfl,rfl,rfl,trivial⟩ fun g=>?_;have H:Has U []:=Has.nil;refine ae ?_;refine⟨rfl,⟨o _,fun _ _ h=>h⟩,fun lE vy qW aZ=>?_⟩;obtain⟨c8,aP,a0,bF,bU⟩:=aZ;have na:=qb hx;have H:Has lE [(1,[.b false]),(0,prC true p)]:=(Has.nil.cons c8 (by simp)).cons aP (by simp);refine ae ?_;refine W.dX rfl rfl rfl (b0X aE x (c4 _ (Prf.D8 na)) fun U M=>NC (M.2 _ _ c8) D9) fun r jY ⟨dA,M⟩=>⟨_,dA,?_⟩
  have H:=H.aF M.2;refine ae ?_;cases IU:f_ x with
  |false=>
   refine ae ?_;refine W.st (aQ:=[.b false]) H 0 rfl rfl rfl rfl rfl rfl fun nb eg H gG=>?_;refine ae ?_;have bad:dh p=false:=by
    cases hb:dh p with
    |false=>rfl
    |true=>have:=(VV p).1 hb _ na;simp only[IU] at this;cases this
   have lz:=M.1;exact GoF.ret (.inr ⟨rfl,V,⟨bad,H.get _ (.head _),bF⟩,by omega,fun c J ah ab=>gG _ _ (fun e=>ah (e▸bF)) (M.2 _ _ ab),fun c ah=>.inl ah⟩)
  |true=>
   refine ae ?_;refine .inl ⟨rfl,V,⟨H.get _ (.tail _ (.head _)),H.get _ (.head _),a0,bF,fun y aw=>?_⟩,M.1,fun c J _ ab=>M.2 _ _ ab,fun c ah=>.inl ah⟩;rw[GK,hx] at aw;rcases dE.1 aw with aw|aw
   ·exact bU y aw
   ·have:y=(l,x):=by simpa using aw
    rw[this];exact IU
 ·intro V U ⟨c8,aP,a0,bF,bU⟩ kR mm ca;rw[hlen,j7 (by rw[Prf.yx];exact o _)] at bU;refine⟨.inl rfl,?_⟩;have H:Has U [(1,[.b false])]:=Has.nil.cons aP (by simp);refine GoF.norm [(2,bo 1)] ⟨rfl,trivial⟩ fun g=>?_;refine ae ?_;refine W.st (aQ:=[.b true]) H 0 rfl rfl rfl rfl rfl rfl fun jY nZ H kn=>?_;refine ae ?_;have hm:=kn _ _ (by omega) kR;exact GoF.ret ⟨rfl,hm,_,cT (fR rfl ((j_ (b7:=.dead) hm).2 _ _ (by omega) (H.get _ (.head _))) rfl),by rw[(VV p).2 bU];rfl⟩
 ·intro i V U ⟨c8,aP,a0⟩ kR mm ca;refine⟨.inr rfl,?_⟩;exact⟨rfl,kR,_,cT (fR rfl ((j_ (b7:=.dead) kR).2 _ _ (by omega) aP) rfl),by rw[c8];rfl⟩
end
section
variable {b:dW}{K:Nat→List AV→AV→Prop}
theorem b0Z(hh:cY (b.a4 K) Al Dw)(p:Prf)(i:Nat)(hi:i<2^62)(ar:p.aG.length<2^62){I:af}{ptr:AV}(hr:pX I ptr (prC true p)):
  b9 (b.a4 K) 0 (.f (.func Al) [] []) [ptr,ay i] I (fun r U=>r= .ok (b5 true (p.aG.getD i none))∧U=I):=by
 have em:(p.cv.getD []).length=p.aG.length:=rfl;have yz:=(Iq true p.cv).2;refine W.code hh.e hh.p hh.f rfl rfl rfl rfl fun z=>?_;have H:Has I []:=Has.nil;refine ae ?_;refine W.jZ hr (v:=cO true p.cv) rfl rfl rfl rfl rfl rfl yz (fun q=>⟨rfl,rfl⟩) fun q=>?_;refine ae ?_;refine W.len rfl rfl rfl kc ?_;by_cases c:i<p.aG.length
 ·refine ae ?_;refine W.jZ hr (v:=cO true p.cv) rfl rfl rfl rfl rfl rfl yz (fun q=>⟨rfl,rfl⟩) fun q=>?_;refine ae ?_;refine W.cw rfl rfl rfl rfl (pR (show i<(p.cv.getD []).length from c)) ?_;refine ae ?_
  try (refine W.iG (ad:=none) rfl rfl rfl (iI _ _).2 ?_;refine ae ?_)
  refine GoF.ret ⟨rfl,?_,rfl⟩;have e:p.aG.getD i none=(p.cv.getD [])[i]'c:=by rw[fU,a9 c];rfl
  rw[e];rfl
 ·refine ae ?_;refine GoF.ret ⟨rfl,?_,rfl⟩;rw[fU,q7 (by omega)];rfl
def uR(l:List Int)(x:Int):Int:=if x∈l then(l.idxOf x:Int) else-1
theorem b1a(a:Option (List Int))(x:Int)(hlen:(a.getD []).length<2^62)
  (body:bB) (hb:HP.body=some body):GoF (b.a4 K) HP.ntmps body (eS [b5 true a,zI x]) ⟨.nil,0⟩ (gi HP.results (zI (uR (a.getD []) x))):=by
 cases hb;refine W.args fun z=>?_;have H:Has (⟨.nil,0⟩:af) []:=Has.nil;refine ae ?_;refine W.len rfl rfl rfl ly ?_;refine ae ?_;refine GoF.each (a.getD []).length (fun j f U=>x∉(a.getD []).take j∧sat [(0,b5 true a),(1,zI x)] f) hlen ⟨by simp,rfl,rfl,trivial⟩ rfl rfl (fun j g U az aZ hi hm=>?_) (fun g U aZ hi=>?_)
 ·obtain⟨ie,aX⟩:=aZ;refine GoF.norm ((8,ay j)::(7,ay (a.getD []).length)::[(0,b5 true a),(1,zI x)]) ⟨hi,hm,aX⟩ fun g=>?_;have H:Has U []:=Has.nil;have cV:=fG az;have cP:=aS az;have oZ:=sk az;refine ae ?_;refine W.cw rfl rfl rfl rfl (qS az) ?_;refine ae ?_;generalize(a.getD [])[j]=y at cV cP oZ;refine W.bin rfl rfl rfl rfl tq ?_;by_cases h:x=y
  ·rw[decide_eq_true h];refine ae ?_;refine GoF.ret ⟨rfl,_,cT (cI rfl),?_⟩;have e:uR (a.getD []) x=(j:Int):=by
    unfold uR;rw[if_pos (h▸cP)]
    congr 1
    conv=>lhs;rw[←nf j (a.getD []),oZ]
    rw[F3,if_neg ie,← h,J6,eL];omega
   rw[e];rfl
  ·rw[decide_eq_false h];refine ae ?_;refine⟨rfl,rfl,fun hx=>?_,rfl,rfl,trivial⟩;rw[cV] at hx;rcases dE.1 hx with hx|hx
   ·exact ie hx
   ·exact h (d_.1 hx)
 ·obtain⟨ie,aX⟩:=aZ;rw[h_] at ie;show bl _ _ _ _ _ _ _ _;refine GoF.norm [] trivial fun g=>?_;have H:Has U []:=Has.nil;refine ae ?_;exact GoF.ret ⟨rfl,_,cT (cI rfl),by unfold uR;rw[if_neg ie];rfl⟩
theorem b1b(hfn:∀g aR r bs,K g aR r→K g aR bs→r=bs)(a:Option (List Int))(x:Int)(e:b.ext x7=0∧b.pure x7=true)(cl:K x7 [b5 true a,zI x] (zI (uR (a.getD []) x)))
  (body:bB) (hb:HF.body=some body):GoF (b.a4 K) HF.ntmps body (eS [b5 true a,zI x]) ⟨.nil,0⟩ (gi HF.results (.b (decide (x∈a.getD [])))):=by
 cases hb;refine W.args fun z=>?_;have H:Has (⟨.nil,0⟩:af) []:=Has.nil;refine ae ?_;refine W.cg hfn e cl rfl rfl rfl (g9 (rX (k:=b.aV+998) _ _) rfl) ?_;refine W.bin rfl rfl rfl rfl Nb ?_;refine ae ?_;refine GoF.ret ⟨rfl,_,cT (cI rfl),?_⟩;have e:decide (uR (a.getD []) x≥0)=decide (x∈a.getD []):=by
  unfold uR;by_cases h:x∈a.getD []
  ·rw[if_pos h,decide_eq_true h,decide_eq_true (by omega)]
  ·rw[if_neg h,decide_eq_false h];rfl
 rw[←e];rfl
end
end
section
variable [Tok][TokOk]
open Go.RowKit Go.Lyc.T
section
namespace W
section
variable {env:Env}{aI:Option Nat}{D:List (Nat ⊕ (AV×List AV))}{n:Nat}{F:List (Nat×AV)}{z:Nat→AV}{I:af}{Q:e5}{ops:List a1}{α:Type}[DecidableEq α]{ef:α→AV}
theorem VW{d bT c:Nat}{x:aC}{es:List (AV×AV×Nat)}(k:Nat)(hn:I.next=k)(hm:I.get bT=some (.map es c))(au:Nat.blt d n=true)(h1:cq env n F z x=some (.m (some bT)))
  (h:∀aq:af,aq.next=k+1→aq.get k=some (.mapIter (some bT) c [] c)→(∀i J,I.get i=some J→aq.get i=some J)→bL .pl env aI D n ops (bC ((d,.p (some (k,0)))::F) z) aq Q):bL .pl env aI D n (⟨some d,.rangeMap x,none,[]⟩::ops) (bC F z) I Q:=gV.a8X k hn hm au (by rw[m1];exact h1) h
theorem vI{d bT it:Nat}{x:aC}{l:List α}{seen:List Nat}(kr:I.get it=some (.mapIter (some bT) l.length seen l.length))(hm:I.get bT=some (.map (setE ef 0 l) l.length))(au:Nat.blt d n=true)(h1:cq env n F z x=some (.p (some (it,0))))
  (h0:gh seen 0 l=[]→bL .pl env aI D n ops (bC ((d,.bJ [.b false])::F) z) I Q)
  (aj:∀p∈gh seen 0 l,∀aq:af,aq.next=I.next→aq.get it=some (.mapIter (some bT) l.length (seen++[p.2]) l.length)→(∀i J,i≠it→I.get i=some J→aq.get i=some J)→bL .pl env aI D n ops (bC ((d,.bJ [.b true,ef p.1,.b true])::F) z) aq Q):bL .pl env aI D n (⟨some d,.ss x,none,[]⟩::ops) (bC F z) I Q:=gV.a8Y kr hm au (by rw[m1];exact h1) h0 aj
theorem zx{d bT it:Nat}{x:aC}{l:List α}{seen:List Nat}{p:α×Nat}(hp:p∈gh seen 0 l)(kr:I.get it=some (.mapIter (some bT) l.length (seen++[p.2]) l.length))(hm:I.get bT=some (.map (setE ef 0 l) l.length))(au:Nat.blt d n=true)(h1:cq env n F z x=some (.p (some (it,0))))
  (h:bL .pl env aI D n ops (bC ((d,.bJ [ef p.1,.b true])::F) z) I Q):bL .pl env aI D n (⟨some d,.entry x,none,[]⟩::ops) (bC F z) I Q:=gV.a8Z hp kr hm au (by rw[m1];exact h1) h
end
end W
attribute [local irreducible] bL bl e6 eB b9
def uS(U:af)(bT:Nat)(bc:List Int):Prop:=U.get bT=some (.map (setE zI 0 bc) bc.length)
theorem b1c{k c:Int}{l:List Int}:c∈wo k l↔c∈l∨c=k:=by
 unfold wo;split
 ·exact⟨.inl,fun h=>h.elim id fun e=>e▸by assumption⟩
 ·simp
theorem b1d{k:Int}{l:List Int}(h:l.Nodup):(wo k l).Nodup:=by
 unfold wo;split
 ·exact h
 ·rename_i aD;exact th.2 ⟨h,by simp,fun a ha b hb=>by rw[d_.1 hb];exact fun e=>aD (e▸ha)⟩
theorem b1e{k:Int}{l:List Int}:M3 (setE zI 0 l) l.length (zI k) (.b true) (if k∈l then some (setE zI 0 l) else none)= .map (setE zI 0 (wo k l)) (wo k l).length:=by
 unfold wo;split
 ·rfl
 ·rw[UR,cR,hO];rfl
abbrev wE(p:Prf)(j:Nat):List Int:=(p.aG.getD j none).getD []
section
variable {b:dW}{K:Nat→List AV→AV→Prop}
theorem b1f(hfn:∀g aR r bs,K g aR r→K g aR bs→r=bs)(hh:cY (b.a4 K) DB HE)(aD:cY (b.a4 K) Al Dw)(e:b.ext og=0∧b.pure og=true){I:af}{ptr:AV}{p:Prf}{v:AV}{iZ:List (List Int)}{nE:List Nat}(hr:∀U,b2 I U→pX U ptr (prC true p))(av:Sl I none v (nE.map fun m=>AV.m (some m)))(k9:nE.length=iZ.length)(c3o:iZ.length<2^20)(b1g:p.aG.length<2^62)
  (IV:∀i (c:Int),i<iZ.length→K og [b5 true (p.aG.getD i none),zI c] (.b (decide (c∈wE p i)))) (aj:∀j (h:j<nE.length) (h':j<iZ.length),uS I nE[j] iZ[j]):
  b9 (b.a4 K) 0 (.f (.func DB) [] []) [ptr,v] I (fun r U=>∃bT bc,r= .ok (.m (some bT))∧uS U bT bc∧bc.Nodup∧(∀c,c∈bc↔(eqL p.rule []=true∧c=p.aY)∨∃j,j<iZ.length∧c∈iZ.getD j []∧c∉wE p j)∧I.next≤bT∧b2 I U):=by
 refine W.code hh.e hh.p hh.f rfl rfl rfl rfl fun z=>?_;have H:Has I []:=Has.nil;refine ae ?_;generalize hq:I.next=q;refine W.Im H hq rfl rfl fun b1 cG _ cc bE=>?_;have H:Has b1 []:=Has.nil;refine ae ?_;have ID:=hr b1 ⟨by omega,bE⟩;refine W.jZ ID (v:=.s p.rule) rfl rfl rfl rfl rfl rfl rfl (fun q=>⟨rfl,rfl⟩) fun CK=>?_;refine ae ?_;refine W.bin (v:=.b (eqL p.rule [])) rfl rfl rfl rfl rfl ?_;refine W.nil ?_;refine W.M1 (α:=Unit) (fun _=>[(0,ptr),(1,v),(5,.m (some q))]) (fun _ U=>∃bc,uS U q bc∧bc.Nodup∧(∀c,c∈bc↔eqL p.rule []=true∧c=p.aY)∧U.next=q+1∧∀i J,i≠q→b1.get i=some J→U.get i=some J) ?_ ?_
 ·cases hn:eqL p.rule [] with
  |true=>
   refine ae ?_;refine W.jZ ID (v:=zI p.aY) rfl rfl rfl rfl rfl rfl rfl (fun q=>⟨rfl,rfl⟩) fun c3p=>?_;refine ae ?_;refine W.mu (key:=zI p.aY) (v:=.b true) cc rfl rfl rfl rfl (wD _ _) (MW wD p.aY [] 0) fun bd n2 g8 br=>?_;refine ae ?_;refine⟨rfl,(),⟨[p.aY],g8,by simp,fun c=>by simp[hn],by omega,br⟩,rfl,rfl,rfl,trivial⟩
  |false=>
   refine ae ?_;exact⟨rfl,(),⟨[],cc,by simp,fun c=>by simp[hn],by omega,fun _ _ _ h=>h⟩,rfl,rfl,rfl,trivial⟩
 ·rintro _ g bd ⟨b1h,g8,b1i,b1j,n2,br⟩;have yA:∀i J,I.get i=some J→bd.get i=some J:=fun i J ab=>br _ _ (by have:=af.bW ab;omega) (bE _ _ ab);have H:Has bd []:=Has.nil;have hC:∀I,lenA I 1 v=some iZ.length:=fun I=>by rw[av.len,aJ,k9]
  refine ae ?_;refine W.len rfl rfl rfl (hC _) ?_;refine ae ?_;show bl _ _ _ _ _ _ _ _;refine GoF.each iZ.length (fun i f U=>∃bc,uS U q bc∧bc.Nodup∧(∀c,c∈bc↔(eqL p.rule []=true∧c=p.aY)∨∃j,j<i∧c∈iZ.getD j []∧c∉wE p j)∧q+1≤U.next∧(∀i J,I.get i=some J→U.get i=some J)∧sat [(0,ptr),(5,.m (some q)),(20,v)] f) (by omega) ⟨b1h,g8,b1i,fun c=>by rw[b1j];simp,by omega,yA,rfl,rfl,rfl,trivial⟩ rfl rfl (fun i g U hi aZ v7 oQ=>?_) (fun g U aZ v7=>?_)
  ·obtain⟨bc,hm,hnd,nF,hn,ca,gM,ft,VX,_⟩:=aZ;refine GoF.norm [(0,ptr),(5,.m (some q)),(20,v),(22,ay i),(21,ay iZ.length)] ⟨gM,ft,VX,v7,oQ,trivial⟩ fun g=>?_;have H:Has U []:=Has.nil;have CC:=(av.aF (U:=U) fun i J _=>ca i J).Ar;have IW:=aj i (by omega) hi;have NF:=ca _ _ IW;have sH:=af.bW (aj i (by omega) hi);have AH:(nE.map fun m=>AV.m (some m)).length=iZ.length:=by rw[aJ];exact k9
   refine ae ?_;rw[fQ];have uT:iZ.getD i []=iZ[i]:=by rw[fU,a9 hi];rfl
   generalize iZ[i]=l at NF IW uT;generalize nE[i]'(by omega)=nG at NF IW sH;refine W.VW U.next rfl NF rfl rfl fun bG eh kr bb=>?_;refine ae ?_;generalize hb:U.next=cE at *;refine GoF.block ?_;refine GoF.loop (fun m f a5=>∃seen c bc,m=(gh seen 0 l).length∧(c++(gh seen 0 l).map Prod.fst).Perm l∧a5.get cE=some (.mapIter (some nG) l.length seen l.length)∧uS a5 q bc∧bc.Nodup∧(∀aQ,aQ∈bc↔((eqL p.rule []=true∧aQ=p.aY)∨∃j,j<i∧aQ∈iZ.getD j []∧aQ∉wE p j)∨aQ∈c∧aQ∉wE p i)∧cE+1≤a5.next∧(∀i J,I.get i=some J→a5.get i=some J)∧sat [(0,ptr),(5,.m (some q)),(6,ay i),(20,v),(21,ay iZ.length),(22,ay i),(28,.p (some (cE,0)))] f) ?_ (gh [] 0 l).length ⟨[],[],bc,rfl,by rw[MY];exact .refl _,kr,bb _ _ hm,hnd,fun c=>by rw[nF];simp,by omega,fun i J ab=>bb _ _ (ca i J ab),rfl,rfl,rfl,rfl,rfl,rfl,rfl,trivial⟩;clear kr eh bb hnd nF hm H CC ca;rintro m f a5 ⟨seen,c,bc,ns,sU,kr,hm,hnd,nF,g3,ca,IX⟩;refine GoF.norm _ IX fun g=>?_;clear IX;have H:Has a5 []:=Has.nil;have VY:=ca _ _ IW;refine ae ?_;refine W.vI kr VY rfl rfl (fun xD=>?_) (fun y aw cA gU NG cm=>?_)
   ·refine ae ?_;refine GoF.exit ?_;rw[xD,List.map_nil,fV] at sU;refine⟨rfl,rfl,bc,hm,hnd,fun aQ=>?_,by omega,ca,rfl,rfl,rfl,trivial⟩;rw[nF,sU.mem_iff];constructor
    ·rintro((h|⟨j,h1,h2⟩)|⟨h1,h2⟩)
     ·exact .inl h
     ·exact .inr ⟨j,by omega,h2⟩
     ·exact .inr ⟨i,by omega,by rw[uT];exact h1,h2⟩
    ·rintro(h|⟨j,h1,h2,h3⟩)
     ·exact .inl (.inl h)
     ·by_cases e:j=i
      ·subst e;rw[uT] at h2;exact .inr ⟨h2,h3⟩
      ·exact .inl (.inr ⟨j,by omega,h2,h3⟩)
   ·have b1k:=cm _ _ (by omega) VY;have Gy:=cm _ _ (by omega) hm;have D4:∀i J,I.get i=some J→cA.get i=some J:=fun i J ab=>cm _ _ (by have:=af.bW ab;omega) (ca i J ab);have H:Has cA []:=Has.nil;refine ae ?_;refine W.zx aw NG b1k rfl rfl ?_;refine ae ?_;refine W.dX rfl rfl rfl (b0Z aD p i (by omega) b1g (hr _ ⟨by omega,D4⟩)) fun r dk ⟨dA,kq⟩=>⟨_,dA,?_⟩
    subst kq;refine ae ?_;refine W.cg hfn e (IV i y.1 (by omega)) rfl rfl rfl (g9 (rX (k:=b.aV+998) _ _) rfl) ?_;have tu:=Ij seen l 0 y aw;have hlen:=tu.length_eq;rw[fH] at hlen;have IY:((c++[y.1])++(gh (seen++[y.2]) 0 l).map Prod.fst).Perm l:=by
     refine List.Perm.trans ?_ sU;rw[iw];exact(tu.map Prod.fst).append_left c
    by_cases iV:y.1∈wE p i
    ·rw[decide_eq_true iV];refine ae ?_;refine⟨(gh (seen++[y.2]) 0 l).length,by omega,seen++[y.2],c++[y.1],bc,rfl,IY,NG,Gy,hnd,fun aQ=>?_,by omega,D4,rfl,rfl,rfl,rfl,rfl,rfl,rfl,trivial⟩;rw[nF,dE,d_];constructor
     ·rintro(h|⟨h1,h2⟩)
      ·exact .inl h
      ·exact .inr ⟨.inl h1,h2⟩
     ·rintro(h|⟨h1|h1,h2⟩)
      ·exact .inl h
      ·exact .inr ⟨h1,h2⟩
      ·exact absurd (h1▸iV) h2
    ·rw[decide_eq_false iV];refine ae ?_;refine W.mu (key:=zI y.1) (v:=.b true) Gy rfl rfl rfl rfl (wD _ _) (MW wD y.1 bc 0) fun fD vO de gr=>?_;rw[b1e] at de;refine ae ?_;refine⟨(gh (seen++[y.2]) 0 l).length,by omega,seen++[y.2],c++[y.1],wo y.1 bc,rfl,IY,gr _ _ (by omega) NG,de,b1d hnd,fun aQ=>?_,by omega,fun i J ab=>gr _ _ (by have:=af.bW ab;omega) (D4 i J ab),rfl,rfl,rfl,rfl,rfl,rfl,rfl,trivial⟩;rw[b1c,nF,dE,d_];constructor
     ·rintro((h|⟨h1,h2⟩)|h)
      ·exact .inl h
      ·exact .inr ⟨.inl h1,h2⟩
      ·exact .inr ⟨.inr h,by rw[h];exact iV⟩
     ·rintro(h|⟨h1|h1,h2⟩)
      ·exact .inl (.inl h)
      ·exact .inl (.inr ⟨h1,h2⟩)
      ·exact .inr h1
  ·obtain⟨bc,hm,hnd,nF,hn,ca,gM,ft,VX,_⟩:=aZ;show bl _ _ _ _ _ _ _ _;refine GoF.norm [(5,.m (some q))] ⟨ft,trivial⟩ fun g=>?_;have H:Has U []:=Has.nil;refine ae ?_;exact GoF.ret ⟨rfl,q,bc,rfl,hm,hnd,nF,o _,by omega,ca⟩
end
end
end
section
variable [Tok][TokOk]
open Go.RowKit Go.Lyc.T
attribute [local irreducible] bL bl e6 eB b9
theorem AI(n:Int):∀(m:List (Option (List Int))) (s:List Prf),opL n m s=true↔∃j,∃h:j<s.length,n∉(m.getD j none).getD []∧fS n s[j]=true
 |m,[]=>by rw[opL];simp
 |m,p::s=>by
  rw[opL];simp only[mL,cx,q6,decide_eq_false_iff_not];rw[AI n m.tail s];constructor
  ·rintro(⟨h1,h2⟩|⟨j,h,h1,h2⟩)
   ·exact⟨0,by simp,by cases m<;>exact h1,h2⟩
   ·exact⟨j+1,by simpa using h,by cases m<;>exact h1,h2⟩
  ·rintro⟨j,h,h1,h2⟩;cases j with
   |zero=>exact .inl ⟨by cases m<;>exact h1,h2⟩
   |succ j=>exact .inr ⟨j,by simpa using h,by cases m<;>exact h1,h2⟩
section
variable {b:dW}{K:Nat→List AV→AV→Prop}
theorem VZ(hfn:∀g aR r bs,K g aR r→K g aR bs→r=bs)(ar:cY (b.a4 K) H6 MB)(ha:cY (b.a4 K) DB HE)(aD:cY (b.a4 K) Al Dw)(e:b.ext og=0∧b.pure og=true):
  ∀(d:Nat) (p:Prf),p.cJ≤d→(∀x∈p.pre,x.sub.length<2^20∧x.aG.length<2^62)→(∀x∈p.pre,∀i (c:Int),i<x.sub.length→K og [b5 true (x.aG.getD i none),zI c] (.b (decide (c∈wE x i))))→∀ {I:af} {ptr:AV},(∀U,b2 I U→pX U ptr (prC true p))→
  b9 (b.a4 K) 0 (.f (.func H6) [] []) [ptr] I (fun r U=>∃bT bc,r= .ok (.m (some bT))∧uS U bT bc∧bc.Nodup∧(∀c,c∈bc↔fS c p=true)∧I.next≤bT∧b2 I U):=by
 intro d
 induction d with
 |zero=>intro p h;have:=p.m5;omega
 |succ d aA=>
 intro p au c4 IV I ptr hr;have es:(p.bm.getD []).length=p.sub.length:=rfl;have AF:=(Ir true p.bm).2;have tp:=c4 p p.oi;refine W.code ar.e ar.p ar.f rfl rfl rfl rfl fun z=>?_;have H:Has I []:=Has.nil;refine ae ?_;refine W.jZ (hr I b2.refl) (v:=cU true p.bm) rfl rfl rfl rfl rfl rfl AF (fun q=>⟨rfl,rfl⟩) fun q=>?_;refine ae ?_;refine W.len rfl rfl rfl gR ?_;refine ae ?_;refine GoF.each p.sub.length (fun j f U=>∃(nE:List Nat) (iZ:List (List Int)) (v:AV),nE.length=j∧iZ.length=j∧Sl U none v (nE.map fun m=>AV.m (some m))∧(∀J,v.bn =some J→I.next≤J)∧(∀i (h:i<nE.length) (h':i<iZ.length),uS U nE[i] iZ[i])∧(∀i (h:i<iZ.length) (h':i<p.sub.length) (c:Int),c∈iZ[i]↔fS c p.sub[i]=true)∧b2 I U∧sat [(0,ptr),(3,v)] f) (by omega) ⟨[],[],.aB,rfl,rfl,.nil,(fun J h=>by cases h),(fun i h=>by cases h),(fun i h=>by cases h),b2.refl,rfl,rfl,trivial⟩ rfl rfl (fun j g U az aZ hi hm=>?_) (fun g U aZ hi=>?_)
 ·obtain⟨nE,iZ,v,cc,g8,av,i_,aj,nF,M,aX⟩:=aZ;refine GoF.norm ((10,ay j)::(9,ay p.sub.length)::[(0,ptr),(3,v)]) ⟨hi,hm,aX⟩ fun g=>?_;have H:Has U []:=Has.nil;have cP:=aS az;refine ae ?_;refine W.jZ (hr U M) (v:=cU true p.bm) rfl rfl rfl rfl rfl rfl AF (fun q=>⟨rfl,rfl⟩) fun q=>?_;refine ae ?_;refine W.cw rfl rfl rfl rfl (nC az) ?_;refine ae ?_;have cj:(p.bm.getD [])[j]=p.sub[j]:=rfl;rw[cj];refine W.dX rfl rfl rfl (aA p.sub[j] (by have:=Prf.my cP;omega) (fun x hx=>c4 x (Prf.pS cP hx)) (fun x hx=>IV x (Prf.pS cP hx)) (I:=U) fun a5 _=>.cZ) fun r bd ⟨bT,bc,dA,c2,hnd,Ea,iD,M2⟩=>⟨_,dA,?_⟩
  refine ae ?_;have hR:=av.aF (U:=bd) fun i J _ ab=>M2.2 _ _ ab;have b1l:=b2.trans M M2;have lz:=M.1;refine W.pu (.m (some bT)) hR rfl rfl rfl rfl rfl rfl rfl rfl rfl (by rw[aJ,cc];omega) fun a2 bG tv b1m b1n eh bb=>?_;have b1o:∀i x c,bd.get i=some (.map x c)→v.bn ≠some i:=fun i x c hg e=>by
   have bN:∀ {xs:List AV},Sl bd none v xs→v.bn =some i→∃k1,bd.get i=some (.cells k1):=fun aj he=>by
    cases aj with
    |nil=>cases he
    |ak J cap xs rest M6 _ _=>cases he;exact⟨_,M6⟩
   have:=bN hR e;obtain⟨k1,jj⟩:=this;rw[hg] at jj;cases jj
  have IZ:∀ {m:Nat} {l:List Int},uS bd m l→uS bG m l:=fun {m l} h=>bb _ _ (b1o _ _ _ h) h;have gu:=M2.1;refine ae ?_;refine⟨rfl,rfl,nE++[bT],iZ++[bc],a2,by simp[cc],by simp[g8],by rw[gK];exact tv,fun J ab=>by rw[b1m] at ab;cases ab;omega,fun i h h'=>?_,fun i h h' c=>?_,⟨by omega,fun c J ab=>bb _ _ (fun e=>by have:=i_ c e;have:=af.bW ab;omega) (b1l.2 _ _ ab)⟩,rfl,rfl,trivial⟩
  ·by_cases fw:i<nE.length
   ·rw[jn fw,jn (by omega)];exact IZ (M2.2 _ _ (aj i fw (by omega)))
   ·have:i=nE.length:=by rw[cR,Tt] at h;omega
    subst this;rw[jG (o _),jG (by omega)];simp only[kj,cc,g8,mJ];exact IZ c2
  ·by_cases fw:i<iZ.length
   ·rw[jn fw];exact nF i fw h' c
   ·have:i=iZ.length:=by rw[cR,Tt] at h;omega
    subst this;rw[jG (o _)];simp only[kj,g8,mJ];exact Ea c
 ·obtain⟨nE,iZ,v,cc,g8,av,i_,aj,nF,M,aX⟩:=aZ;show bl _ _ _ _ _ _ _ _;refine GoF.norm [(0,ptr),(3,v)] (by obtain⟨aP,a0,_⟩:=aX;exact⟨aP,a0,trivial⟩) fun g=>?_;have H:Has U []:=Has.nil;refine ae ?_;refine W.dX rfl rfl rfl (b1f hfn ha aD e (I:=U) (p:=p) (fun a5 b1p=>hr a5 (b2.trans M b1p)) av (by omega) (by omega) tp.2 (fun i c h=>IV p p.oi i c (by omega)) aj) fun r bd ⟨bT,bc,dA,c2,hnd,Ea,iD,M2⟩=>⟨_,dA,?_⟩
  refine ae ?_;have lz:=M.1;refine GoF.ret ⟨rfl,bT,bc,rfl,c2,hnd,fun c=>?_,by omega,b2.trans M M2⟩;rw[Ea,yt,mL,cx,decide_eq_true_eq,AI];constructor
  ·rintro(⟨h1,h2⟩|⟨j,h1,h2,h3⟩)
   ·exact .inl ⟨h1,h2.symm⟩
   ·rw[fU,a9 h1] at h2;exact .inr ⟨j,by omega,h3,(nF j h1 (by omega) c).1 h2⟩
  ·rintro(⟨h1,h2⟩|⟨j,h1,h2,h3⟩)
   ·exact .inl ⟨h1,h2.symm⟩
   ·refine .inr ⟨j,by omega,?_,h2⟩;rw[fU,a9 (by omega)];exact(nF j (by omega) h1 c).2 h3
end
end
theorem NH(a:Int):∀l:List Int,a≤l.foldl max a∧∀n∈l,n≤l.foldl max a:=fun l=>by
 induction l generalizing a with
 |nil=>exact⟨Int.le_refl _,fun n h=>by cases h⟩
 |cons x l aA=>
  obtain⟨h1,h2⟩:=aA (max a x);rw[nh];refine⟨by omega,fun n hn=>?_⟩;rcases cH.1 hn with rfl|hn
  ·omega
  ·exact h2 n hn
theorem b1q(l:List Int)(n:Int):(dC l n).foldl max 0=max (l.foldl max 0) n:=by
 obtain⟨h1,h2⟩:=NH 0 l;unfold dC;by_cases h0:n=0
 ·rw[decide_eq_false (by simpa using h0),za,cond_false];omega
 ·by_cases hm:n∈l
  ·rw[decide_eq_true hm,Fc,xx,cond_false];have:=h2 n hm;omega
  ·rw[decide_eq_true (show n≠0 from h0),decide_eq_false hm];show(l++[n]).foldl max 0=_;rw[kW];rfl
theorem b1r(m:List Int):∀l:List Int,(m.foldl dC l).foldl max 0=m.foldl max (l.foldl max 0):=by
 induction m with
 |nil=>intro l;rfl
 |cons n m aA=>intro l;rw[nh,nh,aA,b1q]
theorem Eb(p:Prf):kO p=(bN p).foldl max 0:=by
 unfold kO iK;rw[b1r];rfl
end Go.Lyc
end
