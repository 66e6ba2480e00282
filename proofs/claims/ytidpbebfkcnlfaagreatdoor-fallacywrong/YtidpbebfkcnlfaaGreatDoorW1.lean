/-
  What functions of the program compute: walks, part 1. No conditions: definitions and laws.
-/
import Derived.Test.YtidpbebfkcnlfaaGreatDoorNames
set_option linter.all false
noncomputable section
namespace Go.Lyc
variable [Tok][TokOk]
open Go.RowKit Go.Lyc.T
structure Keep(W:Nat→Prop)(σ σ':St):Prop where
 next:σ.next≤σ'.next
 keep:∀i o,¬W i→σ.get i=some o→σ'.get i=some o
theorem Keep.refl{W:Nat→Prop}{σ:St}:Keep W σ σ:=⟨Nat.le_refl _,fun _ _ _ h=>h⟩
theorem Keep.trans{W:Nat→Prop}{σ σ1 σ2:St}(h:Keep W σ σ1)(h':Keep W σ1 σ2):Keep W σ σ2:=⟨Nat.le_trans h.next h'.next,fun i o hi ho=>h'.keep i o hi (h.keep i o hi ho)⟩
theorem Keep.of{W:Nat→Prop}{σ σ1:St}(hn:σ.next≤σ1.next)(h:∀i o,σ.get i=some o→σ1.get i=some o):Keep W σ σ1:=⟨hn,fun i o _ ho=>h i o ho⟩
structure Here(env:Env)(g:Nat)(af:AFunc):Prop where
 f:env.funcs g=some af
 e:env.ext g=0
 p:env.pure g=false
theorem visit_go{env:Env}(hv:Here env n_visit c_visit)(o:Bool){W:Nat→Prop}{B:Nat}(hW:∀i,W i→i<B)(I:List Fm→St→Prop)(hI:∀l σ σ',I l σ→σ.next≤σ'.next→(∀i o,σ.get i=some o→σ'.get i=some o)→I l σ')(yv:AV)
  (hy:∀f rest σ,f.few→B≤σ.next→I (f::rest) σ→GoesCall env 0 yv [f.A o] σ (fun r σ'=>r= .ok (.b true)∧I rest σ'∧Keep W σ σ')):
  ∀(d:Nat) (f:Fm) (rest:List Fm) (σ:St),f.dep≤d→f.few→B≤σ.next→I (f.parts++rest) σ→GoesCall env 0 (.f (.func n_visit) [] []) [f.A o,yv] σ (fun r σ'=>r= .ok (.b true)∧I rest σ'∧Keep W σ σ')
 |0,f,_,_,h,_,_,_=>by rw[Fm.dep_eq] at h;omega
 |d+1,F,rest,σ0,hd,hF,hB,h0=>by
  refine GoesCall.code hv.e hv.p hv.f rfl rfl rfl rfl ?_
  generalize hk:σ0.next=k at hB
  refine GoF.seq (GoF.region (GoO.box (v:=F.A o) (c:=F.cells o) k hk rfl rfl rfl rfl rfl fun σ hn h1 k1=>?_))
  have hI1:=hI _ _ _ h0 (by omega) k1
  have K1:Keep W σ0 σ:=.of (by omega) k1
  have hWk:¬W k:=fun h=>by have:=hW _ h;omega
  rw[Fm.parts_eq] at hI1
  refine sO ?_
  refine GoF.seq (GoF.seq (GoF.region ?_))
  refine sO ?_
  refine GoO.ld h1 rfl rfl rfl (Fm.ld o F) ?_
  refine GoO.callG rfl rfl rfl (hy F _ σ hF (by omega) hI1) fun r τ ⟨e1,hI2,K2⟩=>⟨_,e1,?_⟩
  replace h1:=K2.keep _ _ hWk h1
  have hn2:=K2.next
  refine sO ?_
  refine GoF.cnd rfl (fun h=>by cases h) (fun _=>?_)
  refine GoF.skip ?_
  refine GoF.seq (GoF.seq (GoF.region ?_))
  refine sO ?_
  refine GoO.ld h1 rfl rfl rfl (Fm.ldS o F) ?_
  refine GoO.len rfl rfl rfl fmsA_len ?_
  refine sO ?_
  refine GoF.block ?_
  refine GoF.loop (fun m f σ'=>k+1≤σ'.next∧Keep W σ0 σ'∧∃i,i+m=F.sub.length∧I (Fm.partsL (F.sub.drop i)++rest) σ'∧
   sat [(1,yv),(12,fmsA o F.osub),(13,nI F.sub.length),(14,nI i)] f) ?_ F.sub.length ⟨by omega,K1.trans K2,0,by omega,by rw[List.drop_zero];exact hI2,rfl,rfl,rfl,rfl,trivial⟩
  clear h1 hI1 hI2 K1 K2 hn hn2 k1
  intro m g σ ⟨hn,K1,i,hi,hI1,hL⟩
  refine GoF.norm _ hL fun g=>?_
  clear hL
  refine sS ?_
  refine GoF.cnd rfl (fun ht=>?_) (fun hf=>?_)
  ·have hlt:i<F.sub.length:=of_decide_eq_true ht
   have hl62:=hF.slen
   rw[List.drop_eq_getElem_cons hlt,Fm.partsL,List.append_assoc] at hI1
   generalize hg:F.sub[i]=G at hI1
   have hGm:G∈F.sub:=by rw[←hg];exact List.getElem_mem hlt
   refine GoF.skip (GoF.seq (GoF.block (GoF.seq (GoF.region ?_))))
   refine GoO.idx (v:=.tp o (G.A o)) rfl rfl rfl rfl (by rw[←hg];exact fmsA_idx hlt) ?_
   refine GoO.ldt rfl rfl rfl (Fm.conf o G) ?_
   refine GoO.var (v:=G.A o) (c:=G.cells o) σ.next rfl rfl rfl rfl (Fm.conf o G) rfl (Fm.len o G) fun τ hn2 h4 k2=>?_
   have K2:=K1.trans (.of (W:=W) (by omega) k2)
   have hI2:=hI _ _ _ hI1 (by omega) k2
   refine GoO.nil (GoF.seq (GoF.region ?_))
   refine GoO.ld h4 rfl rfl rfl (Fm.ld o G) ?_
   refine sO ?_
   refine GoO.callG rfl rfl rfl (visit_go hv o hW I hI yv hy d G _ τ (by have:=Fm.dep_sub hGm;omega) (hF.sb G hGm) (by omega) hI2) fun r τ' ⟨e1,hI3,K3⟩=>⟨_,e1,?_⟩
   have hn3:=K3.next
   refine sO ?_
   refine GoF.cnd rfl (fun h=>by cases h) (fun _=>?_)
   refine GoF.skip ?_
   refine GoF.region ?_
   refine GoO.bin (a:=nI i) (b:=nI 1) rfl rfl rfl rfl (bin_add (by omega)) ?_
   refine sO ?_
   exact⟨m-1,by omega,by omega,K2.trans K3,i+1,by omega,hI3,rfl,rfl,rfl,rfl,trivial⟩
  ·have hge:¬i<F.sub.length:=of_decide_eq_false hf
   obtain rfl:i=F.sub.length:=by omega
   rw[List.drop_length] at hI1
   refine GoF.exit ?_
   refine sS ?_
   exact GoF.ret ⟨rfl,rfl,hI1,K1⟩
theorem walk1_go{env:Env}(hv:Here env n_visit c_visit)(hw:Here env n_walk1 c_walk1)(o:Bool){W:Nat→Prop}{B:Nat}(hW:∀i,W i→i<B)(I:List Fm→St→Prop)(hI:∀l σ σ',I l σ→σ.next≤σ'.next→(∀i o,σ.get i=some o→σ'.get i=some o)→I l σ')(yv:AV)
  (hy:∀f rest σ,f.few→B≤σ.next→I (f::rest) σ→GoesCall env 0 yv [f.A o] σ (fun r σ'=>r= .ok (.b true)∧I rest σ'∧Keep W σ σ')) (F:Fm) (hF:F.few) (rest:List Fm) (σ:St) (bx:Nat) (hbx:σ.get bx=some (.cells (F.cells o))) (hB:B≤σ.next) (h0:I (F.parts++rest) σ):
  GoesCall env 0 (.f (.func n_walk1) [] [.p (some (bx,0))]) [yv] σ (fun r σ'=>r= .ok (.tu [])∧I rest σ'∧Keep W σ σ'):=by
 refine GoesCall.code0 hw.e hw.p hw.f rfl rfl rfl ?_
 refine GoF.region ?_
 refine GoO.ld hbx rfl rfl rfl (Fm.ld o F) ?_
 refine sO ?_
 refine GoO.callG rfl rfl rfl (visit_go hv o hW I hI yv hy _ F rest σ (Nat.le_refl _) hF hB h0) fun r τ ⟨e1,h1,h2⟩=>⟨_,e1,?_⟩
 refine sO ?_
 exact⟨.inr rfl,rfl,h1,h2⟩
theorem walkG{env:Env}(hw:Here env n_walk c_walk)(o:Bool)(F:Fm)(σ:St)(k:Nat)(hk:σ.next=k):GoesCall env 0 (.f (.func n_walk) [] []) [F.A o] σ (fun r σ'=>r= .ok (.f (.func n_walk1) [] [.p (some (k,0))])∧σ'.next=k+1∧σ'.get k=some (.cells (F.cells o))∧∀i o,σ.get i=some o→σ'.get i=some o):=by
 refine GoesCall.code hw.e hw.p hw.f rfl rfl rfl rfl ?_
 refine GoF.seq (GoF.region (GoO.box (v:=F.A o) (c:=F.cells o) k hk rfl rfl rfl rfl rfl fun τ hn h1 k1=>?_))
 refine sS ?_
 exact GoF.ret ⟨rfl,rfl,hn,h1,k1⟩
theorem GoX.walk{env:Env}{D:List (Nat ⊕ (AV×List AV))}{n:Nat}{f:Nat→AV}{σ:St}{Q:PostF}(hv:Here env n_visit c_visit)(hw:Here env n_walk1 c_walk1)(o:Bool){fo:AOpd}{p:Nat}{asn b:ACode}{bx:Nat}{F:Fm}(W:Nat→Prop)(S:List Fm→St→Prop)(k:Nat)(hk:σ.next=k)
  (hfo:evF env n f fo=some (.f (.func n_walk1) [] [.p (some (bx,0))])) (hp:Nat.blt p n=true) (hF:F.few) (hbx:σ.get bx=some (.cells (F.cells o))) (hW:∀i,W i→i<k) (hS:∀l σ σ',S l σ→(∀i o,W i→σ.get i=some o→σ'.get i=some o)→S l σ') (h0:S F.parts σ)
  (hround:∀G rest τ,G.few→k+2≤τ.next→S (G::rest) τ→GoW env (some (k+1)) [] n asn (upd f p (G.A o)) τ (fun x f1 τ1=>x= .normal∧Keep W τ τ1∧
   ∀τ2,τ2.next=τ1.next→(∀i o,i≠k+1→τ1.get i=some o→τ2.get i=some o)→GoW env (some (k+1)) [] n b f1 τ2 (fun x _ τ3=>x= .normal∧S rest τ3∧Keep W τ2 τ3)))
  (hend:∀τ,S [] τ→k+2≤τ.next→τ.get k=some .dblk→(∀i o,¬W i→σ.get i=some o→τ.get i=some o)→Q .normal f τ):GoX env D (.inl k::D) n (.rangeFunc fo [p] asn b) f σ Q:=by
 subst hk
 refine GoX.range hfo hw.e fun sl hsl=>?_
 generalize hk:σ.next=k at *
 have hWk:∀i,W i→i<k:=hW
 have hp1:((σ.push .dblk).push (.loop .ready none sl [p] asn b k)).get (k+1)=some (.loop .ready none sl [p] asn b k):=by
  have:=St.get_push_new (σ:=σ.push .dblk) (.loop .ready none sl [p] asn b k)
  rwa[show(σ.push .dblk).next=k+1 from by show σ.next+1=_;rw[hk]] at this
 have hp2:∀i o,σ.get i=some o→((σ.push .dblk).push (.loop .ready none sl [p] asn b k)).get i=some o:=fun i o ho=>by
  have:=St.get_lt ho
  rw[St.get_push_old trivial _ (show i<(σ.push .dblk).next from by show i<σ.next+1;omega),St.get_push_old trivial _ this];exact ho
 have hp3:((σ.push .dblk).push (.loop .ready none sl [p] asn b k)).get k=some .dblk:=by
  rw[St.get_push_old trivial _ (show k<(σ.push .dblk).next from by show k<σ.next+1;omega)]
  have:=St.get_push_new (σ:=σ) .dblk
  rwa[hk] at this
 have hpn:((σ.push .dblk).push (.loop .ready none sl [p] asn b k)).next=k+2:=by show σ.next+1+1=_;rw[hk]
 generalize(σ.push .dblk).push (.loop .ready none sl [p] asn b k)=σ2 at *
 refine(walk1_go hv hw o (W:=fun i=>W i∨i=k+1) (B:=k+2) (fun i hi=>by rcases hi with hi|hi;have:=hWk i hi;omega;omega)
  (fun l τ=>S l τ∧τ.get (k+1)=some (.loop .ready none sl [p] asn b k)∧k+2≤τ.next∧τ.get k=some .dblk∧∀i o,¬W i→σ.get i=some o→τ.get i=some o)
  (fun l τ τ' ⟨a1,a2,a3,a4,a5⟩ b1 b2=>⟨hS _ _ _ a1 fun i o _ ho=>b2 i o ho,b2 _ _ a2,by omega,b2 _ _ a4,fun i o hi ho=>b2 _ _ (a5 i o hi ho)⟩) (.f (.yield (k+1)) [] []) ?_ F hF [] σ2 bx (hp2 _ _ hbx) (by omega) ?_).mono ?_
 ·intro G rest τ hG hB ⟨a1,a2,a3,a4,a5⟩
  refine(GoesCall.round (R:=fun σ'=>(S rest σ'∧σ'.get (k+1)=some (.loop .ready none sl [p] asn b k)∧k+2≤σ'.next∧σ'.get k=some .dblk∧∀i o,¬W i→σ.get i=some o→σ'.get i=some o)∧Keep (fun i=>W i∨i=k+1) τ σ') (f:=f) (n:=n) a2 hsl (by show cond (Nat.blt p n) _ _=true;rw[hp];rfl) rfl ?_).mono fun r σ' h=>h
  refine(hround G rest τ hG a3 a1).mono fun x f1 τ1 ⟨e1,K1,h1⟩=>?_
  have hWl:¬W (k+1):=fun h=>by have:=hWk _ h;omega
  have hl1:=K1.keep _ _ hWl a2
  have hset:=set_get (o':=.loop .busy none sl [p] asn b k) hl1
  refine⟨e1,hl1,(h1 (τ1.set (k+1) (.loop .busy none sl [p] asn b k)) rfl (fun i o hi ho=>hset.2 i o hi ho)).mono fun x _ τ3 ⟨e2,hS3,K3⟩=>?_⟩
  have hl3:=K3.keep _ _ hWl hset.1
  have hset3:=set_get (o':=.loop .ready none sl [p] asn b k) hl3
  have n1:=K1.next
  have n3:τ1.next≤τ3.next:=K3.next
  have kk:∀i o,¬W i→i≠k+1→τ.get i=some o→(τ3.set (k+1) (.loop .ready none sl [p] asn b k)).get i=some o:=fun i o hi hne ho=>hset3.2 i o hne (K3.keep i o hi (hset.2 i o hne (K1.keep i o hi ho)))
  refine⟨e2,hl3,⟨hS _ _ _ hS3 fun i o hi ho=>hset3.2 i o (by have:=hWk i hi;omega) ho,hset3.1,by show k+2≤τ3.next;omega,kk k _ (fun h=>by have:=hWk _ h;omega) (by omega) a4,fun i o hi ho=>kk i o hi (by have:=St.get_lt ho;omega) (a5 i o hi ho)⟩,⟨by show τ.next≤τ3.next;omega,fun i o hi ho=>kk i o (fun h=>hi (.inl h)) (fun h=>hi (.inr h)) ho⟩⟩
 ·rw[List.append_nil]
  exact⟨hS _ _ _ h0 fun i o _ ho=>hp2 i o ho,hp1,by omega,hp3,fun i o _ ho=>hp2 i o ho⟩
 ·rintro r τ ⟨e1,⟨a1,a2,a3,a4,a5⟩,_⟩
  have hset:=set_get (o':=.loop .exhausted none sl [p] asn b k) a2
  exact⟨_,.ready,e1,a2,by simp,hend _ (hS _ _ _ a1 fun i o hi ho=>hset.2 i o (by have:=hWk i hi;omega) ho) a3 (hset.2 _ _ (by omega) a4) fun i o hi ho=>hset.2 i o (by have:=St.get_lt ho;omega) (a5 i o hi ho)⟩
theorem wrap32{n:Nat}(h:n<2^32):IntKind.wrap .u32 (n:Int)=(n:Int):=by
 have h:(n:Int)<4294967296:=by omega
 simp only[IntKind.wrap,IntKind.bits,IntKind.signed]
 simp
 omega
theorem ofInt32(n:Nat)(h:n<2^32):(BitVec.ofInt IntKind.u32.bits (Int.ofNat n)).toNat=n:=by
 simp[IntKind.bits]
 omega
theorem bin_or32{a b:Nat}(ha:a<2^32)(hb:b<2^32):binop .or (.i .u32 (Int.ofNat a)) (.i .u32 (Int.ofNat b))=some (.i .u32 (Int.ofNat (a ||| b))):=by
 have h:(BitVec.ofInt IntKind.u32.bits (Int.ofNat a) ||| BitVec.ofInt IntKind.u32.bits (Int.ofNat b)).toNat=a ||| b:=by
  rw[BitVec.toNat_or,ofInt32 a ha,ofInt32 b hb]
 show some (AV.i .u32 (IntKind.wrap .u32 ((BitVec.ofInt IntKind.u32.bits (Int.ofNat a) ||| BitVec.ofInt IntKind.u32.bits (Int.ofNat b)).toNat:Int)))=_
 rw[h,wrap32 (Nat.or_lt_two_pow ha hb)];rfl
theorem bin_shl32{k:IntKind}{a:Nat}(h:a<32):binop .shl (.i .u32 (Int.ofNat 1)) (.i k (Int.ofNat a))=some (.i .u32 (Int.ofNat (2^a))):=by
 show(if(Int.ofNat a)<0 then none else some (AV.i .u32 (IntKind.wrap .u32 (Int.ofNat 1*2^(min (Int.ofNat a).toNat IntKind.u32.bits)))))=_
 rw[if_neg (by simp)]
 have e:min (Int.ofNat a).toNat IntKind.u32.bits=a:=by show min a 32=a;omega
 rw[e]
 have:(Int.ofNat 1*2^a:Int)=((2^a:Nat):Int):=by show(1:Int)*_=_;rw[Int.one_mul];simp
 rw[this,wrap32 (Nat.pow_lt_pow_right (by omega) h)];rfl
def opM(f:Fm):Nat:=if f.op<32 then 2^f.op else 0
def opsL(l:List Fm)(m:Nat):Nat:=l.foldl (fun m f=>m ||| opM f) m
def opsN(f:Fm):Nat:=opsL f.parts 0
theorem opM_lt(f:Fm):opM f<2^32:=by
 unfold opM;split
 ·exact Nat.pow_lt_pow_right (by omega) ‹_›
 ·exact Nat.two_pow_pos _
theorem opsL_lt:∀ {l:List Fm} {m:Nat},m<2^32→opsL l m<2^32
 |[],_,h=>h
 |f::l,m,h=>by
  show opsL l (m ||| opM f)<_
  exact opsL_lt (Nat.or_lt_two_pow h (opM_lt f))
theorem Ops_go{b:Base}{K:Nat→List AV→AV→Prop}(hv:Here (b.envK K) n_visit c_visit)(hw1:Here (b.envK K) n_walk1 c_walk1)(hw:Here (b.envK K) n_walk c_walk)(F:Fm)(hF:F.few)(body:ACode)(hb:c_Ops.body=some body):
  GoX (b.envK K) [] [.inl 3] 17 body (argF [F.A true]) ⟨.nil,0⟩ (fun x f σ'=>x= .ret∧σ'.get 3=some .dblk∧freeze (σ'.set 3 .dead) 0 1000 (f 2)=some (.i .u32 (Int.ofNat (opsN F)))):=by
 cases hb
 refine GoX.seqA (GoF.region (GoO.box (v:=F.A true) (c:=F.cells true) 0 rfl rfl rfl rfl rfl rfl fun σ1 hn1 h1 _=>?_))
 refine sO ?_
 refine⟨rfl,GoX.seqA (GoF.region (GoO.alloc 1 hn1 rfl rfl rfl fun σ2 hn2 h2 k2=>?_))⟩
 replace h1:=k2 _ _ h1
 refine sO ?_
 refine⟨rfl,GoX.seqB (GoX.seqA (GoF.region ?_))⟩
 refine GoO.ld h1 rfl rfl rfl (Fm.ld true F) ?_
 refine GoO.callG rfl rfl rfl (walkG hw true F σ2 2 hn2) fun r σ ⟨e1,hn,h3,k3⟩=>⟨_,e1,?_⟩
 replace h1:=k3 _ _ h1
 replace h2:=k3 _ _ h2
 refine sO ?_
 refine⟨rfl,GoX.block ?_⟩
 refine GoX.walk hv hw1 true (fun i=>i=1) (fun l τ=>∃m,m<2^32∧opsL l m=opsN F∧τ.get 1=some (.cells [.i .u32 (Int.ofNat m)])) 3 hn rfl rfl hF h3 (fun i hi=>by omega) (fun l τ τ' ⟨m,a1,a2,a3⟩ hk=>⟨m,a1,a2,hk _ _ rfl a3⟩) ⟨0,Nat.two_pow_pos _,rfl,h2⟩ ?_ ?_
 ·intro G rest τ hG hτ ⟨m,a1,a2,a3⟩
  refine GoF.region ?_
  refine GoO.var (v:=G.A true) (c:=G.cells true) τ.next rfl rfl rfl rfl (Fm.conf true G) rfl (Fm.len true G) fun τ1 hn4 h4 k4=>?_
  refine GoO.nil ⟨rfl,.of (by omega) k4,fun τ2 hn5 k5=>?_⟩
  replace h4:=k5 _ _ (by omega) h4
  replace a3:=k5 _ _ (by omega) (k4 _ _ a3)
  refine GoF.block (GoF.seq (GoF.region ?_))
  refine sO ?_
  refine GoO.ld h4 rfl rfl rfl (Fm.ldO true G) ?_
  refine sO ?_
  refine GoF.cnd rfl (fun h=>?_) (fun h=>?_)
  ·have hop:G.op<32:=of_decide_eq_true h
   have hom:opM G=2^G.op:=by unfold opM;rw[if_pos hop]
   refine GoF.region ?_
   refine sO3 ?_
   refine GoO.ld h4 rfl rfl rfl (Fm.ldO true G) ?_
   refine GoO.bin (a:=.i .u32 (Int.ofNat 1)) (b:=.i .u8 (Int.ofNat G.op)) rfl rfl rfl rfl (bin_shl32 hop) ?_
   refine GoO.bin (a:=.i .u32 (Int.ofNat m)) (b:=.i .u32 (Int.ofNat (2^G.op))) rfl rfl rfl rfl (bin_or32 a1 (Nat.pow_lt_pow_right (by omega) hop)) ?_
   refine GoO.store (c':=[.i .u32 (Int.ofNat (m ||| 2^G.op))]) a3 rfl rfl rfl rfl rfl fun τ3 hn6 h6 k6=>?_
   exact GoO.nil ⟨rfl,⟨_,Nat.or_lt_two_pow a1 (Nat.pow_lt_pow_right (by omega) hop),by rw[←a2,← hom];rfl,h6⟩,⟨by omega,fun i o hi ho=>k6 i o hi ho⟩⟩
  ·have hop:¬G.op<32:=of_decide_eq_false h
   have hom:opM G=0:=by unfold opM;rw[if_neg hop]
   exact GoF.skip ⟨rfl,⟨m,a1,by rw[←a2];show opsL rest m=opsL rest (m ||| opM G);rw[hom,Nat.or_zero],a3⟩,.refl⟩
 ·intro τ ⟨m,a1,a2,a3⟩ hτ hd _
  refine⟨rfl,rfl,?_⟩
  refine GoF.seq (GoF.region ?_)
  refine sO3 ?_
  refine GoF.ret ⟨rfl,hd,?_⟩
  show some (AV.i .u32 (Int.ofNat m))=_
  rw[←a2];rfl
end Go.Lyc
end
noncomputable section
namespace Go.Lyc
variable [Tok][TokOk]
open Go.RowKit Go.Lyc.T
theorem ctrue{p:Prop}[Decidable p](h:p):some (AV.b (decide p))=some (AV.b true):=by rw[decide_eq_true h]
theorem cfalse{p:Prop}[Decidable p](h:¬p):some (AV.b (decide p))=some (AV.b false):=by rw[decide_eq_false h]
def isSmall(c:Nat):Bool:=decide (97≤c)&&decide (c≤122)
def isCap(c:Nat):Bool:=decide (65≤c)&&decide (c≤90)
def isDig(c:Nat):Bool:=decide (48≤c)&&decide (c≤57)
def isAl(c:Nat):Bool:=isSmall c||(isCap c||isDig c)
def isVar1(c:Nat):Bool:=decide (117≤c)&&decide (c≤122)
def isFun1(c:Nat):Bool:=decide (97≤c)&&decide (c≤116)
abbrev uB(c:Nat):AV:=.i .u8 (Int.ofNat c)
def resv(l:List Nat):Bool:=eqL l [97,108,108]||(eqL l [115,111,109,101]||(eqL l [102,97,108,115,101]||(eqL l [110,101,120,116]||(eqL l [97,108,119,97,121,115]||eqL l [117,110,116,105,108]))))
def nameB(first other:Nat→Bool):List Nat→Bool
 |[]=>false
 |c::l=>decide (l.length+1≤16)&&(!resv (c::l)&&(first c&&l.all other))
def isPred(l:List Nat):Bool:=nameB isCap isAl l
def isVar(l:List Nat):Bool:=nameB isVar1 isDig l
def isFun(l:List Nat):Bool:=nameB isFun1 isAl l
def metaB(p:List Nat→Bool):List Nat→Bool
 |[]=>false
 |c::l=>decide (l.length+1≤16)&&(decide (c=63)&&p l)
def isFMeta(l:List Nat):Bool:=metaB isPred l
def isTMeta(l:List Nat):Bool:=metaB isFun l
section
variable {b:Base}{K:Nat→List AV→AV→Prop}(hf:∀g ar r r',K g ar r→K g ar r'→r=r')
abbrev Done(d:Nat)(r:AV):PostF:=fun x f σ'=>x= .ret∧freeze σ' 0 1000 (f d)=some r
theorem small_go(c:Nat)(body:ACode)(hb:c_small.body=some body):GoF (b.envK K) 9 body (argF [uB c]) ⟨.nil,0⟩ (Done 2 (.b (isSmall c))):=by
 cases hb
 refine GoF.seq (GoF.region ?_)
 refine GoO.go rfl rfl rfl rfl ?_
 refine GoO.nil (GoF.seq (GoF.region ?_))
 refine GoO.go rfl rfl rfl rfl ?_
 by_cases h1:97≤c
 ·refine GoO.bin (a:=uB c) (b:=uB 97) (v:=.b true) rfl rfl rfl rfl (bin_cmp (ctrue h1)) ?_
  refine sS ?_
  refine GoF.ret ⟨rfl,?_⟩
  show some (AV.b (decide (c≤122)))=some (AV.b (isSmall c))
  unfold isSmall;rw[decide_eq_true h1];rfl
 ·refine GoO.bin (a:=uB c) (b:=uB 97) (v:=.b false) rfl rfl rfl rfl (bin_cmp (cfalse h1)) ?_
  refine sS ?_
  refine GoF.ret ⟨rfl,?_⟩
  show some (AV.b false)=some (AV.b (isSmall c))
  unfold isSmall;rw[decide_eq_false h1];rfl
theorem capital_go(c:Nat)(body:ACode)(hb:c_capital.body=some body):GoF (b.envK K) 9 body (argF [uB c]) ⟨.nil,0⟩ (Done 2 (.b (isCap c))):=by
 cases hb
 refine GoF.seq (GoF.region ?_)
 refine GoO.go rfl rfl rfl rfl ?_
 refine GoO.nil (GoF.seq (GoF.region ?_))
 refine GoO.go rfl rfl rfl rfl ?_
 by_cases h1:65≤c
 ·refine GoO.bin (a:=uB c) (b:=uB 65) (v:=.b true) rfl rfl rfl rfl (bin_cmp (ctrue h1)) ?_
  refine sS ?_
  refine GoF.ret ⟨rfl,?_⟩
  show some (AV.b (decide (c≤90)))=some (AV.b (isCap c))
  unfold isCap;rw[decide_eq_true h1];rfl
 ·refine GoO.bin (a:=uB c) (b:=uB 65) (v:=.b false) rfl rfl rfl rfl (bin_cmp (cfalse h1)) ?_
  refine sS ?_
  refine GoF.ret ⟨rfl,?_⟩
  show some (AV.b false)=some (AV.b (isCap c))
  unfold isCap;rw[decide_eq_false h1];rfl
theorem digit_go(c:Nat)(body:ACode)(hb:c_digit.body=some body):GoF (b.envK K) 9 body (argF [uB c]) ⟨.nil,0⟩ (Done 2 (.b (isDig c))):=by
 cases hb
 refine GoF.seq (GoF.region ?_)
 refine GoO.go rfl rfl rfl rfl ?_
 refine GoO.nil (GoF.seq (GoF.region ?_))
 refine GoO.go rfl rfl rfl rfl ?_
 by_cases h1:48≤c
 ·refine GoO.bin (a:=uB c) (b:=uB 48) (v:=.b true) rfl rfl rfl rfl (bin_cmp (ctrue h1)) ?_
  refine sS ?_
  refine GoF.ret ⟨rfl,?_⟩
  show some (AV.b (decide (c≤57)))=some (AV.b (isDig c))
  unfold isDig;rw[decide_eq_true h1];rfl
 ·refine GoO.bin (a:=uB c) (b:=uB 48) (v:=.b false) rfl rfl rfl rfl (bin_cmp (cfalse h1)) ?_
  refine sS ?_
  refine GoF.ret ⟨rfl,?_⟩
  show some (AV.b false)=some (AV.b (isDig c))
  unfold isDig;rw[decide_eq_false h1];rfl
theorem Variable1_go(c:Nat)(body:ACode)(hb:c_Variable1.body=some body):GoF (b.envK K) 9 body (argF [uB c]) ⟨.nil,0⟩ (Done 2 (.b (isVar1 c))):=by
 cases hb
 refine GoF.seq (GoF.region ?_)
 refine GoO.go rfl rfl rfl rfl ?_
 refine GoO.nil (GoF.seq (GoF.region ?_))
 refine GoO.go rfl rfl rfl rfl ?_
 by_cases h1:117≤c
 ·refine GoO.bin (a:=uB c) (b:=uB 117) (v:=.b true) rfl rfl rfl rfl (bin_cmp (ctrue h1)) ?_
  refine sS ?_
  refine GoF.ret ⟨rfl,?_⟩
  show some (AV.b (decide (c≤122)))=some (AV.b (isVar1 c))
  unfold isVar1;rw[decide_eq_true h1];rfl
 ·refine GoO.bin (a:=uB c) (b:=uB 117) (v:=.b false) rfl rfl rfl rfl (bin_cmp (cfalse h1)) ?_
  refine sS ?_
  refine GoF.ret ⟨rfl,?_⟩
  show some (AV.b false)=some (AV.b (isVar1 c))
  unfold isVar1;rw[decide_eq_false h1];rfl
theorem Function1_go(c:Nat)(body:ACode)(hb:c_Function1.body=some body):GoF (b.envK K) 9 body (argF [uB c]) ⟨.nil,0⟩ (Done 2 (.b (isFun1 c))):=by
 cases hb
 refine GoF.seq (GoF.region ?_)
 refine GoO.go rfl rfl rfl rfl ?_
 refine GoO.nil (GoF.seq (GoF.region ?_))
 refine GoO.go rfl rfl rfl rfl ?_
 by_cases h1:97≤c
 ·refine GoO.bin (a:=uB c) (b:=uB 97) (v:=.b true) rfl rfl rfl rfl (bin_cmp (ctrue h1)) ?_
  refine sS ?_
  refine GoF.ret ⟨rfl,?_⟩
  show some (AV.b (decide (c≤116)))=some (AV.b (isFun1 c))
  unfold isFun1;rw[decide_eq_true h1];rfl
 ·refine GoO.bin (a:=uB c) (b:=uB 97) (v:=.b false) rfl rfl rfl rfl (bin_cmp (cfalse h1)) ?_
  refine sS ?_
  refine GoF.ret ⟨rfl,?_⟩
  show some (AV.b false)=some (AV.b (isFun1 c))
  unfold isFun1;rw[decide_eq_false h1];rfl
include hf in
theorem alnum_go(hs:∀c,K n_small [uB c] (.b (isSmall c)))(hc:∀c,K n_capital [uB c] (.b (isCap c)))(hd:∀c,K n_digit [uB c] (.b (isDig c)))(es:b.ext n_small=0∧b.pure n_small=true)(ec:b.ext n_capital=0∧b.pure n_capital=true)(ed:b.ext n_digit=0∧b.pure n_digit=true)
  (c:Nat) (body:ACode) (hb:c_alnum.body=some body):GoF (b.envK K) 13 body (argF [uB c]) ⟨.nil,0⟩ (Done 2 (.b (isAl c))):=by
 cases hb
 refine sS ?_
 refine GoO.known hf es.1 es.2 (hs c) rfl rfl rfl (snaps1 rfl) ?_
 cases h1:isSmall c with
 |true=>
  refine sS ?_
  exact GoF.ret ⟨rfl,by show some (AV.b true)=some (AV.b (isAl c));unfold isAl;rw[h1];rfl⟩
 |false=>
  refine sS ?_
  refine GoO.known hf ec.1 ec.2 (hc c) rfl rfl rfl (snaps1 rfl) ?_
  cases h2:isCap c with
  |true=>
   refine sS ?_
   exact GoF.ret ⟨rfl,by show some (AV.b true)=some (AV.b (isAl c));unfold isAl;rw[h1,h2];rfl⟩
  |false=>
   refine sS ?_
   refine GoO.known hf ed.1 ed.2 (hd c) rfl rfl rfl (snaps1 rfl) ?_
   refine sS ?_
   exact GoF.ret ⟨rfl,by show some (AV.b (isDig c))=some (AV.b (isAl c));unfold isAl;rw[h1,h2];rfl⟩
theorem reserved_go(l:List Nat)(body:ACode)(hb:c_reserved.body=some body):GoF (b.envK K) 11 body (argF [.s l]) ⟨.nil,0⟩ (Done 2 (.b (resv l))):=by
 cases hb
 refine GoF.seq (GoF.region ?_)
 refine sO ?_
 refine GoF.seq (GoF.seq (GoF.region ?_))
 refine sO ?_
 refine GoF.block ?_
 refine GoF.cut [(4,.b (resv l))] ?_ fun g=>?_
 ·refine GoF.seq (GoF.region ?_)
  refine GoO.bin (v:=.b (eqL l [97,108,108])) rfl rfl rfl rfl rfl ?_
  refine sO ?_
  refine GoF.cnd rfl (fun h=>?_) (fun h=>?_)
  ·exact GoF.skip ⟨rfl,rfl,congrArg AV.b (by unfold resv;rw[h];rfl),trivial⟩
  refine GoF.seq (GoF.region ?_)
  refine GoO.bin (v:=.b (eqL l [115,111,109,101])) rfl rfl rfl rfl rfl ?_
  refine sO ?_
  refine GoF.cnd rfl (fun h2=>?_) (fun h2=>?_)
  ·exact GoF.skip ⟨rfl,rfl,congrArg AV.b (by unfold resv;rw[h,h2];rfl),trivial⟩
  refine GoF.seq (GoF.region ?_)
  refine GoO.bin (v:=.b (eqL l [102,97,108,115,101])) rfl rfl rfl rfl rfl ?_
  refine sO ?_
  refine GoF.cnd rfl (fun h3=>?_) (fun h3=>?_)
  ·exact GoF.skip ⟨rfl,rfl,congrArg AV.b (by unfold resv;rw[h,h2,h3];rfl),trivial⟩
  refine GoF.seq (GoF.region ?_)
  refine GoO.bin (v:=.b (eqL l [110,101,120,116])) rfl rfl rfl rfl rfl ?_
  refine sO ?_
  refine GoF.cnd rfl (fun h4=>?_) (fun h4=>?_)
  ·exact GoF.skip ⟨rfl,rfl,congrArg AV.b (by unfold resv;rw[h,h2,h3,h4];rfl),trivial⟩
  refine GoF.seq (GoF.region ?_)
  refine GoO.bin (v:=.b (eqL l [97,108,119,97,121,115])) rfl rfl rfl rfl rfl ?_
  refine sO ?_
  refine GoF.cnd rfl (fun h5=>?_) (fun h5=>?_)
  ·exact GoF.skip ⟨rfl,rfl,congrArg AV.b (by unfold resv;rw[h,h2,h3,h4,h5];rfl),trivial⟩
  refine GoF.region ?_
  refine GoO.bin (v:=.b (eqL l [117,110,116,105,108])) rfl rfl rfl rfl rfl ?_
  refine sO ?_
  exact⟨rfl,rfl,congrArg AV.b (by unfold resv;rw[h,h2,h3,h4,h5];rfl),trivial⟩
 refine GoF.cnd rfl (fun h=>?_) (fun h=>?_)
 ·refine sS ?_
  exact GoF.ret ⟨rfl,by rw[h];rfl⟩
 ·refine sS ?_
  exact GoF.ret ⟨rfl,by rw[h];rfl⟩
include hf in
set_option maxHeartbeats 0 in
theorem checker1_go{g1 g2:Nat}{p1 p2:Nat→Bool}(h1:∀c,K g1 [uB c] (.b (p1 c)))(e1:b.ext g1=0∧b.pure g1=true)(h2:∀c,K g2 [uB c] (.b (p2 c)))(e2:b.ext g2=0∧b.pure g2=true)(hr:∀l,K n_reserved [.s l] (.b (resv l)))(er:b.ext n_reserved=0∧b.pure n_reserved=true)
  (hc:Here (b.envK K) n_checker1 c_checker1) (l:List Nat) (hl:l.length<2^62) (i1 i2:Nat) (σ:St) (hs1:σ.get i1=some (.cells [.f (.func g1) [] []])) (hs2:σ.get i2=some (.cells [.f (.func g2) [] []])):
  GoesCall (b.envK K) 0 (.f (.func n_checker1) [] [.p (some (i1,0)),.p (some (i2,0))]) [.s l] σ (fun r σ'=>r= .ok (.b (nameB p1 p2 l))∧σ'=σ):=by
 refine GoesCall.code hc.e hc.p hc.f rfl rfl rfl rfl ?_
 refine GoF.seq (GoF.region ?_)
 refine sO ?_
 cases l with
 |nil=>
  refine GoF.seq (GoF.seq (GoF.draw rfl rfl ?_))
  refine sP ?_
  refine GoF.cnd rfl (fun _=>?_) (fun h=>by cases h)
  refine sS ?_
  exact GoF.ret ⟨rfl,rfl,rfl⟩
 |cons c t=>
  have hlt:t.length+1<2^62:=hl
  have h01:¬t.length+1<1:=by omega
  refine GoF.seq ?_
  refine GoF.seq (GoF.draw rfl rfl ?_)
  refine GoP.go rfl rfl rfl rfl ?_
  refine GoP.go rfl rfl rfl rfl ?_
  refine GoP.bin (a:=nI (t.length+1)) (b:=nI 1) (v:=.b false) rfl rfl rfl rfl (bin_cmp (cfalse h01)) ?_
  refine GoP.go rfl rfl rfl rfl ?_
  refine GoP.go rfl rfl rfl rfl ?_
  refine GoP.go rfl rfl rfl rfl ?_
  by_cases h16:16<t.length+1
  ·refine GoP.bin (a:=nI (t.length+1)) (b:=nI 16) (v:=.b true) rfl rfl rfl rfl (bin_cmp (ctrue h16)) ?_
   refine sP ?_
   refine GoF.cnd rfl (fun _=>?_) (fun h=>by cases h)
   refine sS ?_
   refine GoF.ret ⟨rfl,?_,rfl⟩
   show Ret.ok (.b false)=Ret.ok (.b (nameB p1 p2 (c::t)))
   rw[nameB,decide_eq_false (by omega)];rfl
  ·refine GoP.bin (a:=nI (t.length+1)) (b:=nI 16) (v:=.b false) rfl rfl rfl rfl (bin_cmp (cfalse h16)) ?_
   have h16':t.length+1≤16:=by omega
   refine sP ?_
   refine GoP.known hf er.1 er.2 (hr (c::t)) rfl rfl rfl (snaps1 rfl) ?_
   cases hrs:resv (c::t) with
   |true=>
    refine sP ?_
    refine GoF.cnd rfl (fun _=>?_) (fun h=>by cases h)
    refine sS ?_
    refine GoF.ret ⟨rfl,?_,rfl⟩
    show Ret.ok (.b false)=Ret.ok (.b (nameB p1 p2 (c::t)))
    rw[nameB,decide_eq_true h16',hrs];rfl
   |false=>
    repeat (first|refine GoP.go rfl rfl rfl rfl ?_|refine GoP.ld hs1 rfl rfl rfl rfl ?_|refine GoP.cmp rfl rfl rfl rfl rfl ?_|refine GoP.off rfl rfl ?_|refine GoP.nil ?_)
    refine GoP.known hf e1.1 e1.2 (h1 c) rfl rfl rfl (snaps1 rfl) ?_
    cases hp1:p1 c with
    |false=>
     refine sP ?_
     refine GoF.cnd rfl (fun _=>?_) (fun h=>by cases h)
     refine sS ?_
     refine GoF.ret ⟨rfl,?_,rfl⟩
     show Ret.ok (.b false)=Ret.ok (.b (nameB p1 p2 (c::t)))
     rw[nameB,decide_eq_true h16',hrs,hp1];rfl
    |true=>
     have hres:nameB p1 p2 (c::t)=t.all p2:=by rw[nameB,decide_eq_true h16',hrs,hp1];rfl
     rw[hres]
     refine sP ?_
     refine GoF.cnd rfl (fun h=>by cases h) (fun _=>?_)
     refine GoF.skip (GoF.seq (GoF.seq (GoF.region ?_)))
     refine sO ?_
     refine GoF.block ?_
     refine GoF.loop (fun m f σ'=>σ'=σ∧∃i,i+m=t.length+1∧(((c::t).drop i).all p2)=t.all p2∧sat [(0,.s (c::t)),(1,.p (some (i1,0))),(2,.p (some (i2,0))),(5,nI i)] f) ?_ t.length ⟨rfl,1,by omega,rfl,rfl,rfl,rfl,rfl,trivial⟩
     intro m g σ' ⟨e,i,hi,hall,hL⟩
     rw[e];clear e σ'
     refine GoF.norm _ hL fun g=>?_
     clear hL
     refine GoF.seq (GoF.seq (GoF.region ?_))
     refine GoO.go rfl rfl rfl rfl ?_
     refine GoO.go rfl rfl rfl rfl ?_
     refine GoO.go rfl rfl rfl rfl ?_
     refine GoO.bin (a:=nI i) (b:=nI (t.length+1)) (v:=.b (decide (i<t.length+1))) rfl rfl rfl rfl (bin_cmp rfl) ?_
     refine sO ?_
     refine GoF.cnd rfl (fun ht=>?_) (fun hf=>?_)
     ·have hit:i<t.length+1:=of_decide_eq_true ht
      have hil:i<(c::t).length:=hit
      rw[List.drop_eq_getElem_cons hil] at hall
      refine GoF.skip (GoF.seq (GoF.block (GoF.seq (GoF.draw rfl rfl ?_))))
      repeat (first|refine GoP.go rfl rfl rfl rfl ?_|refine GoP.ld hs2 rfl rfl rfl rfl ?_|refine GoP.cmp rfl rfl rfl rfl rfl ?_|refine GoP.off rfl rfl ?_|refine GoP.nil ?_)
      refine GoP.val rfl rfl (op_istr (j:=i) rfl rfl (nth_get hil)) ?_
      refine GoP.known hf e2.1 e2.2 (h2 _) rfl rfl rfl (snaps1 rfl) ?_
      cases hp2:p2 (c::t)[i] with
      |true=>
       rw[List.all_cons,hp2,Bool.true_and] at hall
       refine sP ?_
       refine GoF.cnd rfl (fun h=>by cases h) (fun _=>?_)
       refine GoF.skip ?_
       refine GoF.region ?_
       refine GoO.go rfl rfl rfl rfl ?_
       refine GoO.bin (a:=nI i) (b:=nI 1) rfl rfl rfl rfl (bin_add (by omega)) ?_
       refine sO ?_
       exact⟨m-1,by omega,rfl,i+1,by omega,hall,rfl,rfl,rfl,rfl,trivial⟩
      |false=>
       rw[List.all_cons,hp2,Bool.false_and] at hall
       refine sP ?_
       refine GoF.cnd rfl (fun _=>?_) (fun h=>by cases h)
       refine sS ?_
       exact GoF.ret ⟨rfl,by rw[←hall];rfl,rfl⟩
     ·have hge:¬i<t.length+1:=of_decide_eq_false hf
      rw[List.drop_of_length_le (by show t.length+1≤i;omega)] at hall
      refine GoF.exit ?_
      refine sS ?_
      exact GoF.ret ⟨rfl,by rw[←hall];rfl,rfl⟩
theorem checker_go(hc:Here (b.envK K) n_checker c_checker)(g1 g2:Nat)(σ:St)(k:Nat)(hk:σ.next=k):GoesCall (b.envK K) 0 (.f (.func n_checker) [] []) [.f (.func g1) [] [],.f (.func g2) [] []] σ
  (fun r σ'=>r= .ok (.f (.func n_checker1) [] [.p (some (k,0)),.p (some (k+1,0))])∧σ'.get k=some (.cells [.f (.func g1) [] []])∧σ'.get (k+1)=some (.cells [.f (.func g2) [] []])):=by
 refine GoesCall.code hc.e hc.p hc.f rfl rfl rfl rfl ?_
 refine GoF.seq (GoF.region (GoO.box (v:=.f (.func g1) [] []) k hk rfl rfl rfl rfl rfl fun σ1 hn1 h1 _=>GoO.box (v:=.f (.func g2) [] []) (k+1) hn1 rfl rfl rfl rfl rfl fun σ2 hn2 h2 k2=>?_))
 replace h1:=k2 _ _ h1
 refine sS ?_
 exact GoF.ret ⟨rfl,rfl,h1,h2⟩
def prefB:List Nat→List Nat→Bool
 |_,[]=>true
 |[],_::_=>false
 |a::l,b::m=>Nat.beq b a&&prefB l m
theorem prefB_take:∀(a b:List Nat),b.length≤a.length→eqL (a.take b.length) b=prefB a b
 |[],[],_=>rfl
 |_::_,[],_=>rfl
 |[],_::_,h=>by simp at h
 |x::a,y::b,h=>by
  show cond (Nat.beq x y) (eqL (a.take b.length) b) false=(Nat.beq y x&&prefB a b)
  have e:Nat.beq x y=Nat.beq y x:=by
   rw[Bool.eq_iff_iff,Nat.beq_eq,Nat.beq_eq];exact eq_comm
  rw[e,prefB_take a b (by simpa using h)]
  cases Nat.beq y x<;>rfl
theorem prefB_short:∀(a b:List Nat),a.length<b.length→prefB a b=false
 |[],[],h=>by simp at h
 |_::_,[],h=>by simp at h
 |[],_::_,_=>rfl
 |x::a,y::b,h=>by
  show(Nat.beq y x&&prefB a b)=false
  rw[prefB_short a b (by simpa using h)];simp
theorem slHasPrefix_go(x y:List Nat)(body:ACode)(hb:c_slHasPrefix.body=some body):GoF (b.envK K) 18 body (argF [.s x,.s y]) ⟨.nil,0⟩ (Done 4 (.b (prefB x y))):=by
 cases hb
 refine GoF.seq (GoF.region ?_)
 refine sO ?_
 refine GoF.seq (GoF.region ?_)
 refine sN ?_
 by_cases h:y.length≤x.length
 ·refine GoO.bin (a:=nI x.length) (b:=nI y.length) (v:=.b true) rfl rfl rfl rfl (bin_cmp (ctrue h)) ?_
  refine sN ?_
  refine GoO.val rfl rfl (op_sstr (l:=0) (h:=y.length) rfl rfl rfl (by omega) h) ?_
  refine sN ?_
  refine GoO.bin (a:=.s (x.take y.length)) (b:=.s y) (v:=.b (eqL (x.take y.length) y)) rfl rfl rfl rfl rfl ?_
  refine sO ?_
  refine GoF.ret ⟨rfl,?_⟩
  show some (AV.b (eqL (x.take y.length) y))=_
  rw[prefB_take x y h]
 ·refine GoO.bin (a:=nI x.length) (b:=nI y.length) (v:=.b false) rfl rfl rfl rfl (bin_cmp (cfalse h)) ?_
  refine sO ?_
  refine GoF.ret ⟨rfl,?_⟩
  show some (AV.b false)=_
  rw[prefB_short x y (by omega)]
include hf in
theorem HasPrefix_go(hp:∀x y,K n_slHasPrefix [.s x,.s y] (.b (prefB x y)))(ep:b.ext n_slHasPrefix=0∧b.pure n_slHasPrefix=true)(x y:List Nat)(body:ACode)(hb:c_HasPrefix.body=some body):GoF (b.envK K) 8 body (argF [.s x,.s y]) ⟨.nil,0⟩ (Done 4 (.b (prefB x y))):=by
 cases hb
 refine GoF.seq (GoF.region ?_)
 refine sO ?_
 refine GoF.seq (GoF.region ?_)
 refine sO ?_
 refine GoO.known hf ep.1 ep.2 (hp x y) rfl rfl rfl (snaps2 rfl rfl) ?_
 refine sO ?_
 exact GoF.ret ⟨rfl,rfl⟩
include hf in
theorem Predicate_go(h1:∀c,K n_capital [uB c] (.b (isCap c)))(e1:b.ext n_capital=0∧b.pure n_capital=true)(h2:∀c,K n_alnum [uB c] (.b (isAl c)))(e2:b.ext n_alnum=0∧b.pure n_alnum=true)(hr:∀l,K n_reserved [.s l] (.b (resv l)))(er:b.ext n_reserved=0∧b.pure n_reserved=true)
  (hc1:Here (b.envK K) n_checker1 c_checker1) (hc:Here (b.envK K) n_checker c_checker) (l:List Nat) (hl:l.length<2^62) (body:ACode) (hb:c_Predicate.body=some body):GoF (b.envK K) 6 body (argF [.s l]) ⟨.nil,0⟩ (Done 2 (.b (isPred l))):=by
 cases hb
 refine GoF.seq (GoF.region ?_)
 refine sO ?_
 refine GoF.seq (GoF.region ?_)
 refine GoO.callG rfl rfl rfl (checker_go hc n_capital n_alnum ⟨.nil,0⟩ 0 rfl) fun r σ ⟨e,a1,a2⟩=>⟨_,e,?_⟩
 refine sO ?_
 refine GoO.callG rfl rfl rfl (checker1_go hf h1 e1 h2 e2 hr er hc1 l hl 0 1 σ a1 a2) fun r τ ⟨e,e3⟩=>⟨_,e,?_⟩
 refine sS ?_
 exact GoF.ret ⟨rfl,rfl⟩
include hf in
theorem Variable_go(h1:∀c,K n_Variable1 [uB c] (.b (isVar1 c)))(e1:b.ext n_Variable1=0∧b.pure n_Variable1=true)(h2:∀c,K n_digit [uB c] (.b (isDig c)))(e2:b.ext n_digit=0∧b.pure n_digit=true)(hr:∀l,K n_reserved [.s l] (.b (resv l)))(er:b.ext n_reserved=0∧b.pure n_reserved=true)
  (hc1:Here (b.envK K) n_checker1 c_checker1) (hc:Here (b.envK K) n_checker c_checker) (l:List Nat) (hl:l.length<2^62) (body:ACode) (hb:c_Variable.body=some body):GoF (b.envK K) 6 body (argF [.s l]) ⟨.nil,0⟩ (Done 2 (.b (isVar l))):=by
 cases hb
 refine GoF.seq (GoF.region ?_)
 refine sO ?_
 refine GoF.seq (GoF.region ?_)
 refine GoO.callG rfl rfl rfl (checker_go hc n_Variable1 n_digit ⟨.nil,0⟩ 0 rfl) fun r σ ⟨e,a1,a2⟩=>⟨_,e,?_⟩
 refine sO ?_
 refine GoO.callG rfl rfl rfl (checker1_go hf h1 e1 h2 e2 hr er hc1 l hl 0 1 σ a1 a2) fun r τ ⟨e,e3⟩=>⟨_,e,?_⟩
 refine sS ?_
 exact GoF.ret ⟨rfl,rfl⟩
include hf in
theorem Function_go(h1:∀c,K n_Function1 [uB c] (.b (isFun1 c)))(e1:b.ext n_Function1=0∧b.pure n_Function1=true)(h2:∀c,K n_alnum [uB c] (.b (isAl c)))(e2:b.ext n_alnum=0∧b.pure n_alnum=true)(hr:∀l,K n_reserved [.s l] (.b (resv l)))(er:b.ext n_reserved=0∧b.pure n_reserved=true)
  (hc1:Here (b.envK K) n_checker1 c_checker1) (hc:Here (b.envK K) n_checker c_checker) (l:List Nat) (hl:l.length<2^62) (body:ACode) (hb:c_Function.body=some body):GoF (b.envK K) 6 body (argF [.s l]) ⟨.nil,0⟩ (Done 2 (.b (isFun l))):=by
 cases hb
 refine GoF.seq (GoF.region ?_)
 refine sO ?_
 refine GoF.seq (GoF.region ?_)
 refine GoO.callG rfl rfl rfl (checker_go hc n_Function1 n_alnum ⟨.nil,0⟩ 0 rfl) fun r σ ⟨e,a1,a2⟩=>⟨_,e,?_⟩
 refine sO ?_
 refine GoO.callG rfl rfl rfl (checker1_go hf h1 e1 h2 e2 hr er hc1 l hl 0 1 σ a1 a2) fun r τ ⟨e,e3⟩=>⟨_,e,?_⟩
 refine sS ?_
 exact GoF.ret ⟨rfl,rfl⟩
include hf in
theorem formMeta_go(h1:∀l,l.length<2^62→K n_Predicate [.s l] (.b (isPred l)))(e1:b.ext n_Predicate=0∧b.pure n_Predicate=true)(hp:∀x y,y.length<2^62→x.length<2^62→K n_HasPrefix [.s x,.s y] (.b (prefB x y)))(ep:b.ext n_HasPrefix=0∧b.pure n_HasPrefix=true)(l:List Nat)(hl:l.length<2^62)(body:ACode)(hb:c_formMeta.body=some body):
  GoF (b.envK K) 15 body (argF [.s l]) ⟨.nil,0⟩ (Done 2 (.b (isFMeta l))):=by
 cases hb
 refine GoF.seq (GoF.region ?_)
 refine sO ?_
 refine GoF.seq (GoF.region ?_)
 refine GoO.go rfl rfl rfl rfl ?_
 refine GoO.go rfl rfl rfl rfl ?_
 by_cases h16:l.length≤16
 ·refine GoO.bin (a:=nI l.length) (b:=nI 16) (v:=.b true) rfl rfl rfl rfl (bin_cmp (ctrue h16)) ?_
  refine sO ?_
  refine GoO.known hf ep.1 ep.2 (hp l [63] (by decide) hl) rfl rfl rfl (snaps2 rfl rfl) ?_
  cases l with
  |nil=>
   refine sO ?_
   exact GoF.ret ⟨rfl,rfl⟩
  |cons c t=>
   have h16':t.length+1≤16:=h16
   by_cases hc:c=63
   ·subst hc
    rw[show prefB (63::t) [63]=true from by simp[prefB]]
    refine sO ?_
    refine GoO.val rfl rfl (op_sstr (s:=63::t) (l:=1) (h:=t.length+1) rfl rfl rfl (by omega) (Nat.le_refl _)) ?_
    rw[show((63::t).drop 1).take (t.length+1-1)=t from by simp]
    refine sO ?_
    refine GoO.known hf e1.1 e1.2 (h1 t (by omega)) rfl rfl rfl (snaps1 rfl) ?_
    refine sO ?_
    refine GoF.ret ⟨rfl,?_⟩
    show some (AV.b (isPred t))=some (AV.b (decide (t.length+1≤16)&&(decide (63=63)&&isPred t)))
    rw[decide_eq_true h16'];rfl
   ·have hpf:prefB (c::t) [63]=false:=by
     have hb:Nat.beq 63 c=false:=by cases hb:Nat.beq 63 c with
      |false=>rfl
      |true=>exact absurd (Nat.eq_of_beq_eq_true hb).symm hc
     simp only[prefB,hb,Bool.false_and]
    rw[hpf]
    refine sO ?_
    refine GoF.ret ⟨rfl,?_⟩
    show some (AV.b false)=some (AV.b (decide (t.length+1≤16)&&(decide (c=63)&&isPred t)))
    rw[decide_eq_false hc];simp
 ·refine GoO.bin (a:=nI l.length) (b:=nI 16) (v:=.b false) rfl rfl rfl rfl (bin_cmp (cfalse h16)) ?_
  refine sO ?_
  refine GoF.ret ⟨rfl,?_⟩
  show some (AV.b false)=some (AV.b (isFMeta l))
  cases l with
  |nil=>rfl
  |cons c t=>
   show some (AV.b false)=some (AV.b (decide (t.length+1≤16)&&(decide (c=63)&&isPred t)))
   rw[decide_eq_false (by simpa using h16)];rfl
include hf in
theorem termMeta_go(h1:∀l,l.length<2^62→K n_Function [.s l] (.b (isFun l)))(e1:b.ext n_Function=0∧b.pure n_Function=true)(hp:∀x y,y.length<2^62→x.length<2^62→K n_HasPrefix [.s x,.s y] (.b (prefB x y)))(ep:b.ext n_HasPrefix=0∧b.pure n_HasPrefix=true)(l:List Nat)(hl:l.length<2^62)(body:ACode)(hb:c_termMeta.body=some body):
  GoF (b.envK K) 15 body (argF [.s l]) ⟨.nil,0⟩ (Done 2 (.b (isTMeta l))):=by
 cases hb
 refine GoF.seq (GoF.region ?_)
 refine sO ?_
 refine GoF.seq (GoF.region ?_)
 refine GoO.go rfl rfl rfl rfl ?_
 refine GoO.go rfl rfl rfl rfl ?_
 by_cases h16:l.length≤16
 ·refine GoO.bin (a:=nI l.length) (b:=nI 16) (v:=.b true) rfl rfl rfl rfl (bin_cmp (ctrue h16)) ?_
  refine sO ?_
  refine GoO.known hf ep.1 ep.2 (hp l [63] (by decide) hl) rfl rfl rfl (snaps2 rfl rfl) ?_
  cases l with
  |nil=>
   refine sO ?_
   exact GoF.ret ⟨rfl,rfl⟩
  |cons c t=>
   have h16':t.length+1≤16:=h16
   by_cases hc:c=63
   ·subst hc
    rw[show prefB (63::t) [63]=true from by simp[prefB]]
    refine sO ?_
    refine GoO.val rfl rfl (op_sstr (s:=63::t) (l:=1) (h:=t.length+1) rfl rfl rfl (by omega) (Nat.le_refl _)) ?_
    rw[show((63::t).drop 1).take (t.length+1-1)=t from by simp]
    refine sO ?_
    refine GoO.known hf e1.1 e1.2 (h1 t (by omega)) rfl rfl rfl (snaps1 rfl) ?_
    refine sO ?_
    refine GoF.ret ⟨rfl,?_⟩
    show some (AV.b (isFun t))=some (AV.b (decide (t.length+1≤16)&&(decide (63=63)&&isFun t)))
    rw[decide_eq_true h16'];rfl
   ·have hpf:prefB (c::t) [63]=false:=by
     have hb:Nat.beq 63 c=false:=by cases hb:Nat.beq 63 c with
      |false=>rfl
      |true=>exact absurd (Nat.eq_of_beq_eq_true hb).symm hc
     simp only[prefB,hb,Bool.false_and]
    rw[hpf]
    refine sO ?_
    refine GoF.ret ⟨rfl,?_⟩
    show some (AV.b false)=some (AV.b (decide (t.length+1≤16)&&(decide (c=63)&&isFun t)))
    rw[decide_eq_false hc];simp
 ·refine GoO.bin (a:=nI l.length) (b:=nI 16) (v:=.b false) rfl rfl rfl rfl (bin_cmp (cfalse h16)) ?_
  refine sO ?_
  refine GoF.ret ⟨rfl,?_⟩
  show some (AV.b false)=some (AV.b (isTMeta l))
  cases l with
  |nil=>rfl
  |cons c t=>
   show some (AV.b false)=some (AV.b (decide (t.length+1≤16)&&(decide (c=63)&&isFun t)))
   rw[decide_eq_false (by simpa using h16)];rfl
end
end Go.Lyc
end
noncomputable section
namespace Go.Lyc
variable [Tok][TokOk]
open Go.RowKit Go.Lyc.T
def nodeJ(deep depth:Nat):Nat→Option Nat
 |0=>none
 |L+1=>if depth≤deep then some L else none
mutual
def termJ(sch:Bool)(deep:Nat):Tm→Nat→Nat→Option Nat
 | .mk v n none,depth,L=>match nodeJ deep depth L with
  |none=>none
  |some L=>if v then(if(isVar n||(sch&&isTMeta n))=true then some L else none) else(if isFun n=true then some L else none)
 | .mk v n (some l),depth,L=>match nodeJ deep depth L with
  |none=>none
  |some L=>if v then(if l.length=0∧(isVar n||(sch&&isTMeta n))=true then some L else none) else(if l.length≤4∧isFun n=true then termsJ sch deep l (depth+1) L else none)
def termsJ(sch:Bool)(deep:Nat):List Tm→Nat→Nat→Option Nat
 |[],_,L=>some L
 |t::l,depth,L=>match termJ sch deep t depth L with
  |none=>none
  |some L=>termsJ sch deep l depth L
end
theorem termJ_eq(sch:Bool)(deep:Nat)(t:Tm)(depth L:Nat):termJ sch deep t depth L=match nodeJ deep depth L with
  |none=>none
  |some L=>if t.var then(if t.args.length=0∧(isVar t.name||(sch&&isTMeta t.name))=true then some L else none) else(if t.args.length≤4∧isFun t.name=true then termsJ sch deep t.args (depth+1) L else none):=by
 obtain⟨v,n,a⟩:=t
 cases a with
 |none=>
  rw[termJ]
  cases nodeJ deep depth L with
  |none=>rfl
  |some L=>
   show(if v then _ else _)=(if v then(if(0=0∧_) then _ else _) else(if 0≤4∧isFun n=true then termsJ sch deep [] (depth+1) L else none))
   simp[termsJ,Tm.name]
 |some l=>rw[termJ];rfl
def rowR(op:Nat):Bool:=decide (1≤op)&&decide (op≤14)
def rowS(op:Nat):Bool:=decide (1≤op)&&decide (op≤16)
def rowN(op:Nat):Nat:=if op=1 then 1 else if op=8∨op=9 then 2 else if op=15∨op=16 then 3 else 0
def rowA(op:Nat):Nat:=if op=1 then 4 else if op=16 then 2 else 0
def rowB(op:Nat):Nat:=if op=3∨op=8∨op=9∨op=10∨op=11∨op=12∨op=13 then 1 else if op=4∨op=5∨op=6∨op=7∨op=14 then 2 else 0
def rowC(op:Nat):List AV:=[.b (rowR op),.b (rowS op),.i .u8 (Int.ofNat (rowN op)),nI (rowA op),nI (rowB op)]
def rowsL:List AV:=(List.range 17).flatMap rowC
theorem rows_ld{op:Nat}(h:op<17):takeSh (some 5) (rowsL.drop (op*5))=some (.ag (rowC op)):=by
 have:op=0∨op=1∨op=2∨op=3∨op=4∨op=5∨op=6∨op=7∨op=8∨op=9∨op=10∨op=11∨op=12∨op=13∨op=14∨op=15∨op=16:=by omega
 rcases this with rfl|rfl|rfl|rfl|rfl|rfl|rfl|rfl|rfl|rfl|rfl|rfl|rfl|rfl|rfl|rfl|rfl<;>rfl
def namedB(sort:Nat)(s:List Nat):Bool:=if sort=1 then isPred s else if sort=2 then isVar s else if sort=3 then isFMeta s else eqL s []
def instB(l:List Tm):Bool:=match l with|[a,b]=>a.var&&(isVar a.name&&(b.var&&isTMeta b.name))|_=>false
mutual
def formJ(sch:Bool)(deep:Nat):Fm→Nat→Nat→Option Nat
 | .mk op n a none,depth,L=>match nodeJ deep depth L with
  |none=>none
  |some L=>if op<17∧(rowR op||(sch&&rowS op))=true∧namedB (rowN op) n=true∧(a.getD []).length≤rowA op∧0=rowB op∧(op=16→instB (a.getD [])=true) then termsJ sch deep (a.getD []) (depth+1) L else none
 | .mk op n a (some l),depth,L=>match nodeJ deep depth L with
  |none=>none
  |some L=>if op<17∧(rowR op||(sch&&rowS op))=true∧namedB (rowN op) n=true∧(a.getD []).length≤rowA op∧l.length=rowB op∧(op=16→instB (a.getD [])=true) then
    match termsJ sch deep (a.getD []) (depth+1) L with
    |none=>none
    |some L=>formsJ sch deep l (depth+1) L
   else none
def formsJ(sch:Bool)(deep:Nat):List Fm→Nat→Nat→Option Nat
 |[],_,L=>some L
 |t::l,depth,L=>match formJ sch deep t depth L with
  |none=>none
  |some L=>formsJ sch deep l depth L
end
theorem formJ_eq(sch:Bool)(deep:Nat)(f:Fm)(depth L:Nat):formJ sch deep f depth L=match nodeJ deep depth L with
  |none=>none
  |some L=>if f.op<17∧(rowR f.op||(sch&&rowS f.op))=true∧namedB (rowN f.op) f.name=true∧f.args.length≤rowA f.op∧f.sub.length=rowB f.op∧(f.op=16→instB f.args=true) then
    match termsJ sch deep f.args (depth+1) L with
    |none=>none
    |some L=>formsJ sch deep f.sub (depth+1) L
   else none:=by
 obtain⟨op,n,a,s⟩:=f
 cases s with
 |none=>
  rw[formJ]
  cases nodeJ deep depth L with
  |none=>rfl
  |some L=>
   show(if op<17∧_ then termsJ sch deep (a.getD []) (depth+1) L else none)=(if op<17∧_ then(match termsJ sch deep (a.getD []) (depth+1) L with|none=>none|some L=>formsJ sch deep [] (depth+1) L) else none)
   have:(match termsJ sch deep (a.getD []) (depth+1) L with|none=>none|some L=>formsJ sch deep [] (depth+1) L)=termsJ sch deep (a.getD []) (depth+1) L:=by
    cases termsJ sch deep (a.getD []) (depth+1) L with
    |none=>rfl
    |some L=>show formsJ sch deep [] (depth+1) L=some L;rw[formsJ]
   rw[this];rfl
 |some l=>rw[formJ];rfl
def rightB(f:Fm):Bool:=(formJ false 40 f 1 400).isSome
theorem op_conv{ev:AOpd→Option AV}{σ:St}{k:IntKind}{x:AOpd}{a:Nat}(h1:ev x=some (.i k (Int.ofNat a)))(h:a<2^63):opx 0 ev σ (.conv .i64 x)=some (.val (nI a) σ):=by
 show(match ev x with|some (.i _ n)=>some (OpR.val (.i .i64 (wrapN .i64 n)) σ)|some (.um _ d j)=>some (.val (.um .i64 d j) σ)|_=>none)=_
 rw[h1]
 show some (OpR.val (.i .i64 (wrapN .i64 (Int.ofNat a))) σ)=_
 rw[wrapN_nat h]
def JR(j:Nat)(sch:Bool)(deep:Nat)(o:Option Nat)(σ:St)(r:Ret)(σ':St):Prop:=r= .ok (.b o.isSome)∧(∀L,o=some L→σ'.get j=some (.cells [.b sch,nI L,nI deep]))∧Keep (fun i=>i=j) σ σ'
section
variable {b:Base}{K:Nat→List AV→AV→Prop}(hf:∀g ar r r',K g ar r→K g ar r'→r=r')
theorem jnode_go(hn:Here (b.envK K) n_jnode c_jnode)(j:Nat)(sch:Bool)(deep depth L:Nat)(hd:deep<2^63)(hdp:depth<2^63)(hL:L<2^63)(σ:St)(hj:σ.get j=some (.cells [.b sch,nI L,nI deep])):
  GoesCall (b.envK K) 0 (.f (.func n_jnode) [] []) [.p (some (j,0)),nI depth] σ (JR j sch deep (nodeJ deep depth L) σ):=by
 refine GoesCall.code hn.e hn.p hn.f rfl rfl rfl rfl ?_
 refine GoF.seq (GoF.region ?_)
 refine sO ?_
 refine GoF.seq (GoF.region ?_)
 refine sOj ?_
 cases L with
 |zero=>
  refine GoO.bin (a:=nI 0) (b:=nI 1) (v:=.i .i64 (-1)) rfl rfl rfl rfl rfl ?_
  refine sOj ?_
  refine GoO.store (c':=[.b sch,.i .i64 (-1),nI deep]) hj rfl rfl rfl rfl rfl fun τ hn1 h1 k1=>?_
  refine GoO.nil (GoF.seq (GoF.region ?_))
  refine sO1 ?_
  refine GoO.bin (a:=.i .i64 (-1)) (b:=.i .i64 0) (v:=.b false) rfl rfl rfl rfl rfl ?_
  refine sO1 ?_
  exact GoF.ret ⟨rfl,rfl,fun L h=>(by cases h),⟨by omega,fun i o hi ho=>k1 i o hi ho⟩⟩
 |succ L=>
  refine GoO.bin (a:=nI (L+1)) (b:=nI 1) rfl rfl rfl rfl (bin_sub (by omega) hL) ?_
  refine sOj ?_
  refine GoO.store (c':=[.b sch,nI L,nI deep]) hj rfl rfl rfl rfl rfl fun τ hn1 h1 k1=>?_
  refine GoO.nil (GoF.seq (GoF.region ?_))
  refine sN1 ?_
  refine GoO.bin (a:=nI L) (b:=nI 0) (v:=.b true) rfl rfl rfl rfl (bin_cmp (ctrue (Nat.zero_le _))) ?_
  refine sN1 ?_
  have hk:Keep (fun i=>i=j) σ τ:=⟨by omega,fun i o hi ho=>k1 i o hi ho⟩
  by_cases h:depth≤deep
  ·refine GoO.bin (a:=nI depth) (b:=nI deep) (v:=.b true) rfl rfl rfl rfl (bin_cmp (ctrue h)) ?_
   refine sO ?_
   refine GoF.ret ⟨rfl,?_⟩
   rw[nodeJ,if_pos h]
   exact⟨rfl,fun L' e=>by cases e;exact h1,hk⟩
  ·refine GoO.bin (a:=nI depth) (b:=nI deep) (v:=.b false) rfl rfl rfl rfl (bin_cmp (cfalse h)) ?_
   refine sO ?_
   refine GoF.ret ⟨rfl,?_⟩
   rw[nodeJ,if_neg h]
   exact⟨rfl,fun L' e=>(by cases e),hk⟩
structure NmK(b:Base)(K:Nat→List AV→AV→Prop):Prop where
 fn:∀g ar r r',K g ar r→K g ar r'→r=r'
 var:∀l,l.length<2^62→K n_Variable [.s l] (.b (isVar l))
 fun_:∀l,l.length<2^62→K n_Function [.s l] (.b (isFun l))
 tmeta:∀l,l.length<2^62→K n_termMeta [.s l] (.b (isTMeta l))
 named:∀k l,l.length<2^62→K n_named [.i .u8 (Int.ofNat k),.s l] (.b (namedB k l))
 inst:∀l:Option (List Tm),(l.getD []).length<2^62→(∀t∈l.getD [],t.name.length<2^62∧2*t.dep≤b.fz+800)→K n_instance [tmsA true l] (.b (instB (l.getD [])))
 e_var:b.ext n_Variable=0∧b.pure n_Variable=true
 e_fun:b.ext n_Function=0∧b.pure n_Function=true
 e_tmeta:b.ext n_termMeta=0∧b.pure n_termMeta=true
 e_named:b.ext n_named=0∧b.pure n_named=true
 e_inst:b.ext n_instance=0∧b.pure n_instance=true
 node:Here (b.envK K) n_jnode c_jnode
 term:Here (b.envK K) n_jterm c_jterm
 terms:Here (b.envK K) n_jterms c_jterms
 form:Here (b.envK K) n_jform c_jform
inductive Tm.ok:Tm→Prop
 |mk {v:Bool} {n:List Nat} {a:Option (List Tm)} (hn:n.length<2^62) (hl:(a.getD []).length<2^62) (h:∀x∈a.getD [],Tm.ok x):Tm.ok (.mk v n a)
theorem Tm.ok.nm{t:Tm}(h:t.ok):t.name.length<2^62:=by cases h with|mk h _ _=>exact h
theorem Tm.ok.len{t:Tm}(h:t.ok):t.args.length<2^62:=by cases h with|mk _ h _=>exact h
theorem Tm.ok.arg{t:Tm}(h:t.ok):∀x∈t.args,x.ok:=by cases h with|mk _ _ h=>exact h
inductive Fm.ok:Fm→Prop
 |mk {op:Nat} {n:List Nat} {a:Option (List Tm)} {s:Option (List Fm)} (ho:op<256) (hn:n.length<2^62) (hal:(a.getD []).length<2^62) (ha:∀x∈a.getD [],Tm.ok x) (hl:(s.getD []).length<2^62) (h:∀x∈s.getD [],Fm.ok x):Fm.ok (.mk op n a s)
theorem Fm.ok.op{t:Fm}(h:t.ok):t.op<256:=by cases h with|mk h _ _ _ _ _=>exact h
theorem Fm.ok.nm{t:Fm}(h:t.ok):t.name.length<2^62:=by cases h with|mk _ h _ _ _ _=>exact h
theorem Fm.ok.alen{t:Fm}(h:t.ok):t.args.length<2^62:=by cases h with|mk _ _ h _ _ _=>exact h
theorem Fm.ok.arg{t:Fm}(h:t.ok):∀x∈t.args,x.ok:=by cases h with|mk _ _ _ h _ _=>exact h
theorem Fm.ok.slen{t:Fm}(h:t.ok):t.sub.length<2^62:=by cases h with|mk _ _ _ _ h _=>exact h
theorem Fm.ok.sb{t:Fm}(h:t.ok):∀x∈t.sub,x.ok:=by cases h with|mk _ _ _ _ _ h=>exact h
theorem nodeJ_some{deep depth L L':Nat}(h:nodeJ deep depth L=some L'):L=L'+1∧depth≤deep:=by
 cases L with
 |zero=>cases h
 |succ L=>
  rw[nodeJ] at h
  split at h
  ·cases h;exact⟨rfl,‹_›⟩
  ·cases h
mutual
theorem termJ_le{sch:Bool}{deep:Nat}:∀(t:Tm) {depth L L':Nat},termJ sch deep t depth L=some L'→L'≤L
 | .mk v n none,depth,L,L',h=>by
  rw[termJ] at h
  cases hn:nodeJ deep depth L with
  |none=>rw[hn] at h;cases h
  |some M=>
   have:=(nodeJ_some hn).1
   rw[hn] at h
   simp only[] at h
   split at h<;>split at h<;>(first|(cases h;omega)|cases h)
 | .mk v n (some l),depth,L,L',h=>by
  rw[termJ] at h
  cases hn:nodeJ deep depth L with
  |none=>rw[hn] at h;cases h
  |some M=>
   have:=(nodeJ_some hn).1
   rw[hn] at h
   simp only[] at h
   split at h
   ·split at h
    ·cases h;omega
    ·cases h
   ·split at h
    ·have:=termsJ_le l h;omega
    ·cases h
theorem termsJ_le{sch:Bool}{deep:Nat}:∀(l:List Tm) {depth L L':Nat},termsJ sch deep l depth L=some L'→L'≤L
 |[],depth,L,L',h=>by rw[termsJ] at h;cases h;exact Nat.le_refl _
 |t::l,depth,L,L',h=>by
  rw[termsJ] at h
  cases ht:termJ sch deep t depth L with
  |none=>rw[ht] at h;cases h
  |some M=>
   rw[ht] at h
   have h1:=termJ_le t ht
   have h2:=termsJ_le l h
   omega
end
theorem jterms_of(hk:NmK b K){j:Nat}{sch:Bool}{deep:Nat}(hdeep:deep<2^62){d:Nat}
  (ih:∀(t:Tm),t.dep≤d→t.ok→∀(depth L:Nat),depth≤deep+1→L<2^63→∀σ:St,σ.get j=some (.cells [.b sch,nI L,nI deep])→GoesCall (b.envK K) 0 (.f (.func n_jterm) [] []) [.p (some (j,0)),t.A true,nI depth] σ (JR j sch deep (termJ sch deep t depth L) σ))
  (a:Option (List Tm)) (ha:∀t∈a.getD [],t.dep≤d∧t.ok) (hl:(a.getD []).length<2^62) (depth L:Nat) (hdp:depth≤deep+1) (hL:L<2^63) (σ0:St) (hj:σ0.get j=some (.cells [.b sch,nI L,nI deep])):
  GoesCall (b.envK K) 0 (.f (.func n_jterms) [] []) [.p (some (j,0)),tmsA true a,nI depth] σ0 (JR j sch deep (termsJ sch deep (a.getD []) depth L) σ0):=by
 refine GoesCall.code hk.terms.e hk.terms.p hk.terms.f rfl rfl rfl rfl ?_
 refine GoF.seq (GoF.region ?_)
 refine sO ?_
 refine GoF.seq (GoF.seq (GoF.region ?_))
 refine sO ?_
 refine GoO.len rfl rfl rfl tmsA_len ?_
 refine sO ?_
 refine GoF.block ?_
 refine GoF.loop (fun m f σ'=>Keep (fun i=>i=j) σ0 σ'∧∃i M,i+m=(a.getD []).length∧M<2^63∧σ'.get j=some (.cells [.b sch,nI M,nI deep])∧termsJ sch deep ((a.getD []).drop i) depth M=termsJ sch deep (a.getD []) depth L∧
  sat [(0,.p (some (j,0))),(2,nI depth),(9,tmsA true a),(10,nI (a.getD []).length),(11,nI i)] f) ?_ (a.getD []).length ⟨.refl,0,L,by omega,hL,hj,by rw[List.drop_zero],rfl,rfl,rfl,rfl,rfl,trivial⟩
 intro m g σ ⟨K1,i,M,hi,hM,hj,hrest,hL'⟩
 refine GoF.norm _ hL' fun g=>?_
 clear hL'
 refine sS ?_
 refine GoF.cnd rfl (fun ht=>?_) (fun hf=>?_)
 ·have hlt:i<(a.getD []).length:=of_decide_eq_true ht
  rw[List.drop_eq_getElem_cons hlt,termsJ] at hrest
  generalize hg:(a.getD [])[i]=t at hrest
  have htm:t∈a.getD []:=by rw[←hg];exact List.getElem_mem hlt
  obtain⟨htd,hto⟩:=ha t htm
  refine GoF.skip (GoF.seq (GoF.block (GoF.seq (GoF.region ?_))))
  refine GoO.idx (v:=.tp true (t.A true)) rfl rfl rfl rfl (by rw[←hg];exact tmsA_idx hlt) ?_
  refine GoO.ldt rfl rfl rfl (Tm.conf true t) ?_
  refine GoO.var (v:=t.A true) (c:=t.cells true) σ.next rfl rfl rfl rfl (Tm.conf true t) rfl (Tm.len true t) fun τ hn2 h4 k2=>?_
  replace hj:=k2 _ _ hj
  refine GoO.nil (GoF.seq (GoF.region ?_))
  refine sO ?_
  refine GoO.ld h4 rfl rfl rfl (Tm.ld true t) ?_
  refine sO ?_
  refine GoO.callG rfl rfl rfl (ih t htd hto depth M hdp hM τ hj) fun r τ' ⟨e1,hj',K3⟩=>⟨_,e1,?_⟩
  have K4:Keep (fun i=>i=j) σ0 τ':=(K1.trans (.of (by omega) k2)).trans K3
  cases htj:termJ sch deep t depth M with
  |none=>
   rw[htj] at hrest
   refine sO ?_
   refine GoF.cnd rfl (fun _=>?_) (fun h=>by cases h)
   refine sS ?_
   refine GoF.ret ⟨rfl,?_⟩
   rw[←hrest]
   exact⟨rfl,fun L e=>(by cases e),K4⟩
  |some M'=>
   rw[htj] at hrest
   have hM':=termJ_le t htj
   refine sO ?_
   refine GoF.cnd rfl (fun h=>by cases h) (fun _=>?_)
   refine GoF.skip ?_
   refine GoF.region ?_
   refine GoO.bin (a:=nI i) (b:=nI 1) rfl rfl rfl rfl (bin_add (by omega)) ?_
   refine sO ?_
   exact⟨m-1,by omega,K4,i+1,M',by omega,by omega,hj' M' htj,hrest,rfl,rfl,rfl,rfl,rfl,trivial⟩
 ·have hge:¬i<(a.getD []).length:=of_decide_eq_false hf
  rw[List.drop_of_length_le (by omega),termsJ] at hrest
  refine GoF.exit ?_
  refine sS ?_
  refine GoF.ret ⟨rfl,?_⟩
  rw[←hrest]
  exact⟨rfl,fun L e=>by cases e;exact hj,K1⟩
set_option maxHeartbeats 0 in
theorem jterm_go(hk:NmK b K){j:Nat}{sch:Bool}{deep:Nat}(hdeep:deep<2^62):∀(d:Nat) (t:Tm),t.dep≤d→t.ok→∀(depth L:Nat),depth≤deep+1→L<2^63→∀σ:St,σ.get j=some (.cells [.b sch,nI L,nI deep])→
  GoesCall (b.envK K) 0 (.f (.func n_jterm) [] []) [.p (some (j,0)),t.A true,nI depth] σ (JR j sch deep (termJ sch deep t depth L) σ)
 |0,t,h,_,_,_,_,_,_,_=>by rw[Tm.dep_eq] at h;omega
 |d+1,t,hd,ht,depth,L,hdp,hL,σ0,hj=>by
  have hnm:=ht.nm
  refine GoesCall.code hk.term.e hk.term.p hk.term.f rfl rfl rfl rfl ?_
  generalize hkn:σ0.next=k
  have hjk:j<k:=by have:=St.get_lt hj;omega
  refine GoF.seq (GoF.region (GoO.box (v:=t.A true) (c:=t.cells true) k hkn rfl rfl rfl rfl rfl fun σ hn h1 k1=>?_))
  have K1:Keep (fun i=>i=j) σ0 σ:=.of (by omega) k1
  replace hj:=k1 _ _ hj
  refine sO ?_
  refine GoF.seq (GoF.seq (GoF.region ?_))
  refine sO ?_
  refine GoO.callG rfl rfl rfl (jnode_go hk.node j sch deep depth L (by omega) (by omega) hL σ hj) fun r τ ⟨e1,hj',K2⟩=>⟨_,e1,?_⟩
  replace h1:=K2.keep _ _ (by omega) h1
  have K3:=K1.trans K2
  obtain⟨o,ho⟩:∃o,termJ sch deep t depth L=o:=⟨_,rfl⟩
  rw[ho]
  rw[termJ_eq] at ho
  cases hnode:nodeJ deep depth L with
  |none=>
   rw[hnode] at ho
   subst ho
   refine sO ?_
   refine GoF.cnd rfl (fun _=>?_) (fun h=>by cases h)
   refine sS ?_
   exact GoF.ret ⟨rfl,rfl,fun L e=>(by cases e),K3⟩
  |some M=>
   obtain⟨hML,hdd⟩:=nodeJ_some hnode
   replace hj:=hj' M hnode
   rw[hnode] at ho
   replace ho:(if t.var=true then(if t.args.length=0∧(isVar t.name||(sch&&isTMeta t.name))=true then some M else none) else(if t.args.length≤4∧isFun t.name=true then termsJ sch deep t.args (depth+1) M else none))=o:=ho
   refine sO ?_
   refine GoF.cnd rfl (fun h=>by cases h) (fun _=>?_)
   refine GoF.skip (GoF.seq (GoF.seq (GoF.region ?_)))
   refine sO ?_
   refine GoO.ld h1 rfl rfl rfl (Tm.ldV true t) ?_
   refine sO ?_
   refine GoF.cnd rfl (fun hv=>?_) (fun hv=>?_)
   ·-- a variable
    rw[if_pos hv] at ho
    refine GoF.seq (GoF.region ?_)
    refine sO ?_
    refine GoO.ld h1 rfl rfl rfl (Tm.ldA true t) ?_
    refine GoO.len rfl rfl rfl tmsA_len ?_
    have hyes:t.args.length=0∧(isVar t.name||(sch&&isTMeta t.name))=true→JR j sch deep o σ0 (.ok (.b true)) τ:=fun h=>by
     rw[if_pos h] at ho;subst ho;exact⟨rfl,fun L e=>by cases e;exact hj,K3⟩
    have hno:¬(t.args.length=0∧(isVar t.name||(sch&&isTMeta t.name))=true)→JR j sch deep o σ0 (.ok (.b false)) τ:=fun h=>by
     rw[if_neg h] at ho;subst ho;exact⟨rfl,fun L e=>(by cases e),K3⟩
    clear ho
    by_cases h0:t.args.length=0
    ·refine GoO.bin (a:=nI t.args.length) (b:=nI 0) (v:=.b true) rfl rfl rfl rfl (bin_cmp (ctrue h0)) ?_
     refine sO ?_
     refine GoO.ld h1 rfl rfl rfl (Tm.ldN true t) ?_
     refine GoO.known hk.fn hk.e_var.1 hk.e_var.2 (hk.var t.name hnm) rfl rfl rfl (snaps1 rfl) ?_
     cases hvr:isVar t.name with
     |true=>
      refine sO ?_
      exact GoF.ret ⟨rfl,hyes ⟨h0,by rw[hvr];rfl⟩⟩
     |false=>
      rw[hvr,Bool.false_or] at hyes hno
      refine sOj ?_
      cases hsc:sch with
      |false=>
       refine sO ?_
       exact GoF.ret ⟨rfl,hsc▸hno fun h=>by rw[hsc] at h;cases h.2⟩
      |true=>
       refine sO ?_
       refine GoO.ld h1 rfl rfl rfl (Tm.ldN true t) ?_
       refine GoO.known hk.fn hk.e_tmeta.1 hk.e_tmeta.2 (hk.tmeta t.name hnm) rfl rfl rfl (snaps1 rfl) ?_
       rw[hsc,Bool.true_and] at hyes hno
       cases htm:isTMeta t.name with
       |true=>
        refine sO ?_
        exact GoF.ret ⟨rfl,hyes ⟨h0,htm⟩⟩
       |false=>
        refine sO ?_
        exact GoF.ret ⟨rfl,hno fun h=>by rw[htm] at h;cases h.2⟩
    ·refine GoO.bin (a:=nI t.args.length) (b:=nI 0) (v:=.b false) rfl rfl rfl rfl (bin_cmp (cfalse h0)) ?_
     refine sO ?_
     exact GoF.ret ⟨rfl,hno fun h=>h0 h.1⟩
   ·rw[hv] at ho
    replace ho:(if t.args.length≤4∧isFun t.name=true then termsJ sch deep t.args (depth+1) M else none)=o:=ho
    refine GoF.skip (GoF.seq (GoF.region ?_))
    refine sO ?_
    refine GoO.ld h1 rfl rfl rfl (Tm.ldA true t) ?_
    refine GoO.len rfl rfl rfl tmsA_len ?_
    by_cases h4:t.args.length≤4
    ·refine GoO.bin (a:=nI t.args.length) (b:=nI 4) (v:=.b true) rfl rfl rfl rfl (bin_cmp (ctrue h4)) ?_
     refine sO ?_
     refine GoO.ld h1 rfl rfl rfl (Tm.ldN true t) ?_
     refine GoO.known hk.fn hk.e_fun.1 hk.e_fun.2 (hk.fun_ t.name hnm) rfl rfl rfl (snaps1 rfl) ?_
     cases hfn:isFun t.name with
     |true=>
      rw[if_pos ⟨h4,hfn⟩] at ho
      refine sO ?_
      refine GoO.ld h1 rfl rfl rfl (Tm.ldA true t) ?_
      refine sO ?_
      refine GoO.bin (a:=nI depth) (b:=nI 1) rfl rfl rfl rfl (bin_add (by omega)) ?_
      refine GoO.callG rfl rfl rfl (jterms_of hk hdeep (d:=d) (fun u hu huo dp L' h1 h2 σ' h3=>jterm_go hk hdeep d u hu huo dp L' h1 h2 σ' h3) t.oargs (fun u hu=>⟨by have:=Tm.dep_arg (t:=t) hu;omega,ht.arg u hu⟩) ht.len (depth+1) M (by omega) (by omega) τ hj) fun r τ' ⟨e2,hj2,K4⟩=>⟨_,e2,?_⟩
      have ho:termsJ sch deep (t.oargs.getD []) (depth+1) M=o:=ho
      rw[ho] at hj2 ⊢
      refine sO ?_
      refine GoF.ret ⟨rfl,?_,hj2,K3.trans K4⟩
      cases o<;>rfl
     |false=>
      rw[if_neg (fun h=>by rw[hfn] at h;cases h.2)] at ho
      subst ho
      refine sO ?_
      exact GoF.ret ⟨rfl,rfl,fun L e=>(by cases e),K3⟩
    ·refine GoO.bin (a:=nI t.args.length) (b:=nI 4) (v:=.b false) rfl rfl rfl rfl (bin_cmp (cfalse h4)) ?_
     rw[if_neg (fun h=>h4 h.1)] at ho
     subst ho
     refine sO ?_
     exact GoF.ret ⟨rfl,rfl,fun L e=>(by cases e),K3⟩
theorem formsJ_le_of{sch:Bool}{deep:Nat}{l:List Fm}(h:∀f∈l,∀depth L L',formJ sch deep f depth L=some L'→L'≤L):∀ {depth L L':Nat},formsJ sch deep l depth L=some L'→L'≤L:=by
 induction l with
 |nil=>intro depth L L' e;rw[formsJ] at e;cases e;exact Nat.le_refl _
 |cons f l ih=>
  intro depth L L' e
  rw[formsJ] at e
  cases hf:formJ sch deep f depth L with
  |none=>rw[hf] at e;cases e
  |some M=>
   rw[hf] at e
   have h1:=h f (by simp) _ _ _ hf
   have h2:=ih (fun g hg=>h g (List.mem_cons_of_mem _ hg)) e
   omega
theorem formJ_le{sch:Bool}{deep:Nat}:∀(d:Nat) (f:Fm),f.dep≤d→∀ {depth L L':Nat},formJ sch deep f depth L=some L'→L'≤L
 |0,f,h,_,_,_,_=>by rw[Fm.dep_eq] at h;omega
 |d+1,f,h,depth,L,L',e=>by
  rw[formJ_eq] at e
  cases hn:nodeJ deep depth L with
  |none=>rw[hn] at e;cases e
  |some M=>
   have:=(nodeJ_some hn).1
   rw[hn] at e
   simp only[] at e
   split at e
   ·cases ht:termsJ sch deep f.args (depth+1) M with
    |none=>rw[ht] at e;cases e
    |some N=>
     rw[ht] at e
     have h1:=termsJ_le _ ht
     have h2:=formsJ_le_of (fun g hg _ _ _ e=>formJ_le d g (by have:=Fm.dep_sub hg;omega) e) e
     omega
   ·cases e
set_option maxHeartbeats 0 in
theorem jform_go(hk:NmK b K)(hg:b.glob n_rows=some (.ag rowsL)){j:Nat}{sch:Bool}{deep:Nat}(hdeep:deep<2^62):∀(d:Nat) (F:Fm),F.dep≤d→2*F.dep≤b.fz+800→F.ok→∀(depth L:Nat),depth≤deep+1→L<2^63→∀σ:St,σ.get j=some (.cells [.b sch,nI L,nI deep])→
  GoesCall (b.envK K) 0 (.f (.func n_jform) [] []) [.p (some (j,0)),F.A true,nI depth] σ (JR j sch deep (formJ sch deep F depth L) σ)
 |0,t,h,_,_,_,_,_,_,_,_=>by rw[Fm.dep_eq] at h;omega
 |d+1,F,hd,h400,hF,depth,L,hdp,hL,σ0,hj=>by
  have hnm:=hF.nm
  have hop:=hF.op
  refine GoesCall.code hk.form.e hk.form.p hk.form.f rfl rfl rfl rfl ?_
  generalize hkn:σ0.next=k
  have hjk:j<k:=by have:=St.get_lt hj;omega
  refine GoF.seq (GoF.region (GoO.box (v:=F.A true) (c:=F.cells true) k hkn rfl rfl rfl rfl rfl fun σ hn h1 k1=>?_))
  have K1:Keep (fun i=>i=j) σ0 σ:=.of (by omega) k1
  replace hj:=k1 _ _ hj
  refine sO ?_
  refine GoF.seq (GoF.seq (GoF.region ?_))
  refine sO ?_
  refine GoO.callG rfl rfl rfl (jnode_go hk.node j sch deep depth L (by omega) (by omega) hL σ hj) fun r τ ⟨e1,hj',K2⟩=>⟨_,e1,?_⟩
  replace h1:=K2.keep _ _ (by omega) h1
  have K3:=K1.trans K2
  have hn2:=K2.next
  obtain⟨o,ho⟩:∃o,formJ sch deep F depth L=o:=⟨_,rfl⟩
  rw[ho]
  rw[formJ_eq] at ho
  cases hnode:nodeJ deep depth L with
  |none=>
   rw[hnode] at ho
   subst ho
   refine sO ?_
   refine GoF.cnd rfl (fun _=>?_) (fun h=>by cases h)
   refine sS ?_
   exact GoF.ret ⟨rfl,rfl,fun L e=>(by cases e),K3⟩
  |some M=>
   obtain⟨hML,hdd⟩:=nodeJ_some hnode
   replace hj:=hj' M hnode
   rw[hnode] at ho
   replace ho:(if F.op<17∧(rowR F.op||(sch&&rowS F.op))=true∧namedB (rowN F.op) F.name=true∧F.args.length≤rowA F.op∧F.sub.length=rowB F.op∧(F.op=16→instB F.args=true) then
    (match termsJ sch deep F.args (depth+1) M with
    |none=>none
    |some L=>formsJ sch deep F.sub (depth+1) L)
    else none)=o:=ho
   have hbad:¬(F.op<17∧(rowR F.op||(sch&&rowS F.op))=true∧namedB (rowN F.op) F.name=true∧F.args.length≤rowA F.op∧F.sub.length=rowB F.op∧(F.op=16→instB F.args=true))→o=none:=fun h=>by rw[if_neg h] at ho;exact ho.symm
   have hno:o=none→∀ {τ':St},Keep (fun i=>i=j) σ0 τ'→JR j sch deep o σ0 (.ok (.b false)) τ':=fun h τ' hK=>by subst h;exact⟨rfl,fun L e=>(by cases e),hK⟩
   refine sO ?_
   refine GoO.ld h1 rfl rfl rfl (Fm.ldO true F) ?_
   refine GoO.val rfl rfl (op_conv (a:=F.op) rfl (by omega)) ?_
   by_cases h17:17≤F.op
   ·refine GoO.bin (a:=nI F.op) (b:=nI 17) (v:=.b true) rfl rfl rfl rfl (bin_cmp (ctrue h17)) ?_
    refine sO ?_
    refine GoF.cnd rfl (fun _=>?_) (fun h=>by cases h)
    refine sS ?_
    exact GoF.ret ⟨rfl,hno (hbad fun h=>by omega) K3⟩
   have h17':F.op<17:=by omega
   refine GoO.bin (a:=nI F.op) (b:=nI 17) (v:=.b false) rfl rfl rfl rfl (bin_cmp (cfalse h17)) ?_
   refine sO ?_
   refine GoF.cnd rfl (fun h=>by cases h) (fun _=>?_)
   refine GoF.skip ?_
   refine GoF.norm [(0,.p (some (j,0))),(2,nI depth),(4,.p (some (k,0))),(6,.b false),(7,undefA),(27,undefA),(32,undefA)] ⟨rfl,rfl,rfl,rfl,rfl,rfl,rfl,trivial⟩ fun g=>?_
   refine GoF.seq (GoF.region ?_)
   refine sO ?_
   refine GoO.ld h1 rfl rfl rfl (Fm.ldO true F) ?_
   refine GoO.val rfl rfl (op_idxArrT (j:=F.op) (cs:=rowsL) (o:=true) (by show(match b.glob n_rows with|some v=>some (AV.tp true v)|none=>none)=_;rw[hg]) rfl h17' (rows_ld h17')) ?_
   refine GoO.ldt rfl rfl rfl rfl ?_
   generalize hzn:τ.next=z
   refine GoO.var (v:=.ag (rowC F.op)) (c:=rowC F.op) z hzn rfl rfl rfl rfl rfl rfl fun τ2 hn3 h2 k2=>?_
   have hkz:k<z:=by omega
   replace h1:=k2 _ _ h1
   replace hj:=k2 _ _ hj
   have K4:Keep (fun i=>i=j) σ0 τ2:=K3.trans (.of (by omega) k2)
   clear K1 K2 K3 k1 k2 hj' e1
   refine GoO.nil ?_
   refine GoF.norm [(0,.p (some (j,0))),(2,nI depth),(4,.p (some (k,0))),(6,.b false),(7,.p (some (z,0)))] ⟨rfl,rfl,rfl,rfl,rfl,trivial⟩ fun g=>?_
   -- the row is one of right ones
   refine GoF.cutR [(0,.p (some (j,0))),(2,nI depth),(4,.p (some (k,0))),(6,.b false),(7,.p (some (z,0)))] (E:=fun x f' σ'=>x= .ret∧f' 6= .b false∧σ'=τ2∧o=none) (M:=(rowR F.op||(sch&&rowS F.op))=true) ?_ ?_ fun hR g=>?_
   ·-- the row stands in what is right
    refine GoF.seq (GoF.region ?_)
    refine sO2 ?_
    cases hr1:rowR F.op with
    |true=>
     refine sO2 ?_
     refine GoF.cnd rfl (fun h=>by cases h) (fun _=>?_)
     exact GoF.skip (.inl ⟨rfl,rfl,⟨rfl,rfl,rfl,rfl,rfl,trivial⟩,rfl⟩)
    |false=>
     refine sOj ?_
     cases hsc:sch with
     |false=>
      refine sO ?_
      refine GoF.cnd rfl (fun _=>?_) (fun h=>by cases h)
      refine sS ?_
      exact GoF.ret (.inr ⟨rfl,rfl,rfl,hbad fun hc=>by rw[hr1,hsc] at hc;cases hc.2.1⟩)
     |true=>
      refine sO2 ?_
      cases hr2:rowS F.op with
      |true=>
       refine sO ?_
       refine GoF.cnd rfl (fun h=>by cases h) (fun _=>?_)
       exact GoF.skip (.inl ⟨rfl,rfl,⟨rfl,rfl,rfl,rfl,rfl,trivial⟩,rfl⟩)
      |false=>
       refine sO ?_
       refine GoF.cnd rfl (fun _=>?_) (fun h=>by cases h)
       refine sS ?_
       exact GoF.ret (.inr ⟨rfl,rfl,rfl,hbad fun hc=>by rw[hr1,hsc,hr2] at hc;cases hc.2.1⟩)
   ·rintro x f' σ' ⟨rfl,h6,rfl,h⟩
    exact⟨by simp,rfl,by rw[h6];exact hno h K4⟩
   refine GoF.cutR [(0,.p (some (j,0))),(2,nI depth),(4,.p (some (k,0))),(6,.b false),(7,.p (some (z,0)))] (E:=fun x f' σ'=>x= .ret∧f' 6= .b false∧σ'=τ2∧o=none) (M:=namedB (rowN F.op) F.name=true∧F.args.length≤rowA F.op∧F.sub.length=rowB F.op) ?_ ?_ fun hN g=>?_
   ·-- name,arguments,parts
    refine GoF.seq (GoF.region ?_)
    refine sO2 ?_
    refine GoO.ld h1 rfl rfl rfl (Fm.ldN true F) ?_
    refine GoO.known hk.fn hk.e_named.1 hk.e_named.2 (hk.named (rowN F.op) F.name hnm) rfl rfl rfl (snaps2 rfl rfl) ?_
    cases hn1:namedB (rowN F.op) F.name with
    |false=>
     refine sO ?_
     refine GoF.cnd rfl (fun _=>?_) (fun h=>by cases h)
     refine sS ?_
     exact GoF.ret (.inr ⟨rfl,rfl,rfl,hbad fun hc=>by rw[hn1] at hc;cases hc.2.2.1⟩)
    |true=>
     refine sO ?_
     refine GoO.ld h1 rfl rfl rfl (Fm.ldA true F) ?_
     refine GoO.len rfl rfl rfl tmsA_len ?_
     refine sN2 ?_
     by_cases hal:F.args.length≤rowA F.op
     ·refine GoO.bin (a:=nI F.args.length) (b:=nI (rowA F.op)) (v:=.b false) rfl rfl rfl rfl (bin_cmp (cfalse (by omega))) ?_
      refine sO ?_
      refine GoO.ld h1 rfl rfl rfl (Fm.ldS true F) ?_
      refine GoO.len rfl rfl rfl fmsA_len ?_
      refine sN2 ?_
      by_cases hsl:F.sub.length=rowB F.op
      ·refine GoO.bin (a:=nI F.sub.length) (b:=nI (rowB F.op)) (v:=.b false) rfl rfl rfl rfl (bin_cmp (show some (AV.b (!decide (F.sub.length=rowB F.op)))=some (AV.b false) by rw[decide_eq_true hsl];rfl)) ?_
       refine sO ?_
       refine GoF.cnd rfl (fun h=>by cases h) (fun _=>?_)
       exact GoF.skip (.inl ⟨rfl,rfl,⟨rfl,rfl,rfl,rfl,rfl,trivial⟩,rfl,hal,hsl⟩)
      ·refine GoO.bin (a:=nI F.sub.length) (b:=nI (rowB F.op)) (v:=.b true) rfl rfl rfl rfl (bin_cmp (show some (AV.b (!decide (F.sub.length=rowB F.op)))=some (AV.b true) by rw[decide_eq_false hsl];rfl)) ?_
       refine sO ?_
       refine GoF.cnd rfl (fun _=>?_) (fun h=>by cases h)
       refine sS ?_
       exact GoF.ret (.inr ⟨rfl,rfl,rfl,hbad fun hc=>hsl hc.2.2.2.2.1⟩)
     ·refine GoO.bin (a:=nI F.args.length) (b:=nI (rowA F.op)) (v:=.b true) rfl rfl rfl rfl (bin_cmp (ctrue (by omega))) ?_
      refine sO ?_
      refine GoF.cnd rfl (fun _=>?_) (fun h=>by cases h)
      refine sS ?_
      exact GoF.ret (.inr ⟨rfl,rfl,rfl,hbad fun hc=>hal hc.2.2.2.1⟩)
   ·rintro x f' σ' ⟨rfl,h6,rfl,h⟩
    exact⟨by simp,rfl,by rw[h6];exact hno h K4⟩
   refine GoF.cutR [(0,.p (some (j,0))),(2,nI depth),(4,.p (some (k,0))),(6,.b false),(7,.p (some (z,0)))] (E:=fun x f' σ'=>x= .ret∧f' 6= .b false∧σ'=τ2∧o=none) (M:=F.op=16→instB F.args=true) ?_ ?_ fun hI g=>?_
   ·-- an instance
    refine GoF.seq (GoF.region ?_)
    refine sO ?_
    refine GoO.ld h1 rfl rfl rfl (Fm.ldO true F) ?_
    by_cases h16:F.op=16
    ·refine GoO.bin (a:=.i .u8 (Int.ofNat F.op)) (b:=.i .u8 (Int.ofNat 16)) (v:=.b true) rfl rfl rfl rfl (bin_cmp (ctrue h16)) ?_
     refine sO ?_
     refine GoO.ld h1 rfl rfl rfl (Fm.ldA true F) ?_
     refine GoO.known hk.fn hk.e_inst.1 hk.e_inst.2 (hk.inst F.oargs hF.alen fun t ht=>⟨(hF.arg t ht).nm,by have:=Fm.dep_arg (f:=F) ht;omega⟩) rfl rfl rfl (snaps1 (snap_osl (k:=b.fz+999) fun t ht=>Tm.snap _ true t.dep t (b.fz+999) (Nat.le_refl _) (by have:=Fm.dep_arg (f:=F) ht;omega))) ?_
     cases hi:instB F.args with
     |true=>
      rw[show instB (F.oargs.getD [])=true from hi]
      refine sO ?_
      refine GoF.cnd rfl (fun h=>by cases h) (fun _=>?_)
      exact GoF.skip (.inl ⟨rfl,rfl,⟨rfl,rfl,rfl,rfl,rfl,trivial⟩,fun _=>rfl⟩)
     |false=>
      rw[show instB (F.oargs.getD [])=false from hi]
      refine sO ?_
      refine GoF.cnd rfl (fun _=>?_) (fun h=>by cases h)
      refine sS ?_
      exact GoF.ret (.inr ⟨rfl,rfl,rfl,hbad fun hc=>by have:=hc.2.2.2.2.2 h16;rw[hi] at this;cases this⟩)
    ·refine GoO.bin (a:=.i .u8 (Int.ofNat F.op)) (b:=.i .u8 (Int.ofNat 16)) (v:=.b false) rfl rfl rfl rfl (bin_cmp (cfalse h16)) ?_
     refine sO ?_
     refine GoF.cnd rfl (fun h=>by cases h) (fun _=>?_)
     exact GoF.skip (.inl ⟨rfl,rfl,⟨rfl,rfl,rfl,rfl,rfl,trivial⟩,fun h=>absurd h h16⟩)
   ·rintro x f' σ' ⟨rfl,h6,rfl,h⟩
    exact⟨by simp,rfl,by rw[h6];exact hno h K4⟩
   rw[if_pos ⟨h17',hR,hN.1,hN.2.1,hN.2.2,hI⟩] at ho
   -- the arguments
   refine GoF.seq (GoF.seq (GoF.region ?_))
   refine sO ?_
   refine GoO.ld h1 rfl rfl rfl (Fm.ldA true F) ?_
   refine sO ?_
   refine GoO.bin (a:=nI depth) (b:=nI 1) rfl rfl rfl rfl (bin_add (by omega)) ?_
   refine GoO.callG rfl rfl rfl (jterms_of hk hdeep (d:=F.dep) (fun u hu huo dp L' h1 h2 σ' h3=>jterm_go hk hdeep _ u hu huo dp L' h1 h2 σ' h3) F.oargs (fun u hu=>⟨by have:=Fm.dep_arg (f:=F) hu;omega,hF.arg u hu⟩) hF.alen (depth+1) M (by omega) (by omega) τ2 hj) fun r τ3 ⟨e2,hj3,K5⟩=>⟨_,e2,?_⟩
   replace h1:=K5.keep _ _ (by omega) h1
   have K6:=K4.trans K5
   have hn5:=K5.next
   cases hts:termsJ sch deep F.args (depth+1) M with
   |none=>
    rw[hts] at ho
    rw[show termsJ sch deep (F.oargs.getD []) (depth+1) M=none from hts]
    refine sO ?_
    refine GoF.cnd rfl (fun _=>?_) (fun h=>by cases h)
    refine sS ?_
    exact GoF.ret ⟨rfl,hno ho.symm K6⟩
   |some N=>
    rw[hts] at ho
    replace hj:=hj3 N hts
    have hNM:=termsJ_le _ hts
    rw[show termsJ sch deep (F.oargs.getD []) (depth+1) M=some N from hts]
    replace ho:formsJ sch deep F.sub (depth+1) N=o:=ho
    refine sO ?_
    refine GoF.cnd rfl (fun h=>by cases h) (fun _=>?_)
    refine GoF.skip (GoF.seq (GoF.seq (GoF.region ?_)))
    refine sO ?_
    refine GoO.ld h1 rfl rfl rfl (Fm.ldS true F) ?_
    refine GoO.len rfl rfl rfl fmsA_len ?_
    refine sO ?_
    refine GoF.block ?_
    refine GoF.loop (fun m f σ'=>Keep (fun i=>i=j) σ0 σ'∧∃i P,i+m=F.sub.length∧P<2^63∧σ'.get j=some (.cells [.b sch,nI P,nI deep])∧formsJ sch deep (F.sub.drop i) (depth+1) P=o∧
     sat [(0,.p (some (j,0))),(2,nI depth),(77,fmsA true F.osub),(78,nI F.sub.length),(79,nI i)] f) ?_ F.sub.length ⟨K6,0,N,by omega,by omega,hj,by rw[List.drop_zero];exact ho,rfl,rfl,rfl,rfl,rfl,trivial⟩
    clear hj h1 h2 K4 K5 K6 hj3 hno hbad ho
    intro m g σ ⟨K1,i,P,hi,hP,hj,hrest,hL'⟩
    refine GoF.norm _ hL' fun g=>?_
    clear hL'
    refine sS ?_
    refine GoF.cnd rfl (fun ht=>?_) (fun hf=>?_)
    ·have hlt:i<F.sub.length:=of_decide_eq_true ht
     have hs62:=hF.slen
     rw[List.drop_eq_getElem_cons hlt,formsJ] at hrest
     generalize hg:F.sub[i]=G at hrest
     have hGm:G∈F.sub:=by rw[←hg];exact List.getElem_mem hlt
     have hGd:=Fm.dep_sub hGm
     refine GoF.skip (GoF.seq (GoF.block (GoF.seq (GoF.region ?_))))
     refine GoO.idx (v:=.tp true (G.A true)) rfl rfl rfl rfl (by rw[←hg];exact fmsA_idx hlt) ?_
     refine GoO.ldt rfl rfl rfl (Fm.conf true G) ?_
     refine GoO.var (v:=G.A true) (c:=G.cells true) σ.next rfl rfl rfl rfl (Fm.conf true G) rfl (Fm.len true G) fun τ hn2 h4 k2=>?_
     replace hj:=k2 _ _ hj
     refine GoO.nil (GoF.seq (GoF.region ?_))
     refine sO ?_
     refine GoO.ld h4 rfl rfl rfl (Fm.ld true G) ?_
     refine sO ?_
     refine GoO.bin (a:=nI depth) (b:=nI 1) rfl rfl rfl rfl (bin_add (by omega)) ?_
     refine GoO.callG rfl rfl rfl (jform_go hk ‹_› hdeep d G (by omega) (by omega) (hF.sb G hGm) (depth+1) P (by omega) hP τ hj) fun r τ' ⟨e1,hj',K3⟩=>⟨_,e1,?_⟩
     have K4:Keep (fun i=>i=j) σ0 τ':=(K1.trans (.of (by omega) k2)).trans K3
     cases htj:formJ sch deep G (depth+1) P with
     |none=>
      rw[htj] at hrest
      refine sO ?_
      refine GoF.cnd rfl (fun _=>?_) (fun h=>by cases h)
      refine sS ?_
      refine GoF.ret ⟨rfl,?_⟩
      rw[←hrest]
      exact⟨rfl,fun L e=>(by cases e),K4⟩
     |some M'=>
      rw[htj] at hrest
      have hM':=formJ_le _ G (Nat.le_refl _) htj
      refine sO ?_
      refine GoF.cnd rfl (fun h=>by cases h) (fun _=>?_)
      refine GoF.skip ?_
      refine GoF.region ?_
      refine GoO.bin (a:=nI i) (b:=nI 1) rfl rfl rfl rfl (bin_add (by omega)) ?_
      refine sO ?_
      exact⟨m-1,by omega,K4,i+1,M',by omega,by omega,hj' M' htj,hrest,rfl,rfl,rfl,rfl,rfl,trivial⟩
    ·have hge:¬i<F.sub.length:=of_decide_eq_false hf
     rw[List.drop_of_length_le (by omega),formsJ] at hrest
     refine GoF.exit ?_
     refine sS ?_
     refine GoF.ret ⟨rfl,?_⟩
     rw[←hrest]
     exact⟨rfl,fun L e=>by cases e;exact hj,K1⟩
end
end Go.Lyc
end
noncomputable section
namespace Go.Lyc
variable [Tok][TokOk]
open Go.RowKit Go.Lyc.T
section
variable {b:Base}{K:Nat→List AV→AV→Prop}
theorem Right_go(hk:NmK b K)(hg:b.glob n_rows=some (.ag rowsL))(F:Fm)(h400:2*F.dep≤b.fz+800)(hF:F.ok)(body:ACode)(hb:c_Right.body=some body):GoF (b.envK K) 7 body (argF [F.A true]) ⟨.nil,0⟩ (Done 2 (.b (rightB F))):=by
 cases hb
 refine GoF.seq (GoF.region (GoO.box (v:=F.A true) (c:=F.cells true) 0 rfl rfl rfl rfl rfl rfl fun σ1 hn1 h1 _=>?_))
 refine sO ?_
 refine GoF.seq (GoF.region ?_)
 refine GoO.go (v:=.ag [.b false,nI 400,nI 40]) rfl rfl rfl rfl ?_
 refine GoO.var (v:=.ag [.b false,nI 400,nI 40]) (c:=[.b false,nI 400,nI 40]) 1 hn1 rfl rfl rfl rfl rfl rfl fun σ hn h2 k2=>?_
 replace h1:=k2 _ _ h1
 refine GoO.nil (GoF.seq (GoF.region ?_))
 refine GoO.ld h1 rfl rfl rfl (Fm.ld true F) ?_
 refine GoO.callG rfl rfl rfl (jform_go hk hg (j:=1) (sch:=false) (deep:=40) (by omega) F.dep F (Nat.le_refl _) h400 hF 1 400 (by omega) (by omega) σ h2) fun r τ ⟨e1,_,_⟩=>⟨_,e1,?_⟩
 refine sO ?_
 exact GoF.ret ⟨rfl,rfl⟩
variable (hf:∀g ar r r',K g ar r→K g ar r'→r=r')
include hf in
theorem named_go(hp:∀l,l.length<2^62→K n_Predicate [.s l] (.b (isPred l)))(ep:b.ext n_Predicate=0∧b.pure n_Predicate=true)(hv:∀l,l.length<2^62→K n_Variable [.s l] (.b (isVar l)))(ev:b.ext n_Variable=0∧b.pure n_Variable=true)(hm:∀l,l.length<2^62→K n_formMeta [.s l] (.b (isFMeta l)))(em:b.ext n_formMeta=0∧b.pure n_formMeta=true)
  (k:Nat) (l:List Nat) (hl:l.length<2^62) (body:ACode) (hb:c_named.body=some body):GoF (b.envK K) 20 body (argF [.i .u8 (Int.ofNat k),.s l]) ⟨.nil,0⟩ (Done 4 (.b (namedB k l))):=by
 cases hb
 refine GoF.seq (GoF.region ?_)
 refine sO ?_
 refine GoF.seq (GoF.seq (GoF.region ?_))
 refine sO ?_
 refine GoF.block (GoF.seq (GoF.region ?_))
 refine GoO.bin (a:=.i .u8 (Int.ofNat k)) (b:=.i .u8 (Int.ofNat 1)) (v:=.b (decide (k=1))) rfl rfl rfl rfl (bin_cmp rfl) ?_
 refine sO ?_
 refine GoF.cnd rfl (fun h=>?_) (fun h=>?_)
 ·have hk:=of_decide_eq_true h
  refine sS ?_
  refine GoO.known hf ep.1 ep.2 (hp l hl) rfl rfl rfl (snaps1 rfl) ?_
  refine sS ?_
  exact GoF.ret ⟨rfl,by show some (AV.b (isPred l))=some (AV.b (namedB k l));unfold namedB;rw[if_pos hk]⟩
 have h1:=of_decide_eq_false h
 refine GoF.seq (GoF.region ?_)
 refine GoO.bin (a:=.i .u8 (Int.ofNat k)) (b:=.i .u8 (Int.ofNat 2)) (v:=.b (decide (k=2))) rfl rfl rfl rfl (bin_cmp rfl) ?_
 refine sO ?_
 refine GoF.cnd rfl (fun h=>?_) (fun h=>?_)
 ·have hk:=of_decide_eq_true h
  refine sS ?_
  refine GoO.known hf ev.1 ev.2 (hv l hl) rfl rfl rfl (snaps1 rfl) ?_
  refine sS ?_
  exact GoF.ret ⟨rfl,by show some (AV.b (isVar l))=some (AV.b (namedB k l));unfold namedB;rw[if_neg h1,if_pos hk]⟩
 have h2:=of_decide_eq_false h
 refine GoF.seq (GoF.region ?_)
 refine GoO.bin (a:=.i .u8 (Int.ofNat k)) (b:=.i .u8 (Int.ofNat 3)) (v:=.b (decide (k=3))) rfl rfl rfl rfl (bin_cmp rfl) ?_
 refine sO ?_
 refine GoF.cnd rfl (fun h=>?_) (fun h=>?_)
 ·have hk:=of_decide_eq_true h
  refine sS ?_
  refine GoO.known hf em.1 em.2 (hm l hl) rfl rfl rfl (snaps1 rfl) ?_
  refine sS ?_
  exact GoF.ret ⟨rfl,by show some (AV.b (isFMeta l))=some (AV.b (namedB k l));unfold namedB;rw[if_neg h1,if_neg h2,if_pos hk]⟩
 have h3:=of_decide_eq_false h
 refine sS ?_
 refine GoO.bin (a:=.s l) (b:=.s []) (v:=.b (eqL l [])) rfl rfl rfl rfl rfl ?_
 refine sS ?_
 exact GoF.ret ⟨rfl,by show some (AV.b (eqL l []))=some (AV.b (namedB k l));unfold namedB;rw[if_neg h1,if_neg h2,if_neg h3]⟩
theorem op_fieldT{ev:AOpd→Option AV}{σ:St}{off:Nat}{sh:Option Nat}{x:AOpd}{o:Bool}{cs:List AV}{v:AV}(h1:ev x=some (.tp o (.ag cs)))(h2:takeSh sh (cs.drop off)=some v):opx 0 ev σ (.fieldAddr off sh x)=some (.val (.tp o v) σ):=by
 show(match ev x with|some x=>(match fieldAddrA off sh x with|some v=>some (OpR.val v σ)|none=>none)|none=>none)=_
 rw[h1]
 show(match(match takeSh sh (cs.drop off) with|some v=>some (AV.tp o v)|none=>none) with|some v=>some (OpR.val v σ)|none=>none)=_
 rw[h2]
include hf in
theorem instance_go(hv:∀l,l.length<2^62→K n_Variable [.s l] (.b (isVar l)))(ev:b.ext n_Variable=0∧b.pure n_Variable=true)(hm:∀l,l.length<2^62→K n_termMeta [.s l] (.b (isTMeta l)))(em:b.ext n_termMeta=0∧b.pure n_termMeta=true)
  (a:Option (List Tm)) (hl:(a.getD []).length<2^62) (hn:∀t∈a.getD [],t.name.length<2^62) (body:ACode) (hb:c_instance.body=some body):GoF (b.envK K) 32 body (argF [tmsA true a]) ⟨.nil,0⟩ (Done 2 (.b (instB (a.getD [])))):=by
 cases hb
 refine GoF.seq (GoF.region ?_)
 refine sO ?_
 refine GoF.seq (GoF.region ?_)
 refine GoO.go rfl rfl rfl rfl ?_
 refine GoO.len rfl rfl rfl tmsA_len ?_
 by_cases h2:(a.getD []).length=2
 ·refine GoO.bin (a:=nI (a.getD []).length) (b:=nI 2) (v:=.b true) rfl rfl rfl rfl (bin_cmp (ctrue h2)) ?_
  obtain⟨x,y,hxy⟩:∃x y,a.getD []=[x,y]:=by
   match hl2:a.getD [],h2 with
   |[x,y],_=>exact⟨x,y,rfl⟩
  have i0:idxSlA (some 3) (tmsA true a) 0=some (.tp true (x.A true)):=by
   rw[tmsA_idx (by omega)];congr 2;simp[hxy]
  have i1:idxSlA (some 3) (tmsA true a) 1=some (.tp true (y.A true)):=by
   rw[tmsA_idx (by omega)];congr 2;simp[hxy]
  have hnx:=hn x (by rw[hxy];simp)
  have hny:=hn y (by rw[hxy];simp)
  rw[hxy]
  have hi:instB [x,y]=(x.var&&(isVar x.name&&(y.var&&isTMeta y.name))):=rfl
  rw[hi]
  refine sO ?_
  refine GoO.idx (j:=0) rfl rfl rfl rfl i0 ?_
  refine GoO.val rfl rfl (op_fieldT (cs:=x.cells true) rfl (Tm.ldV true x)) ?_
  refine GoO.ldt rfl rfl rfl rfl ?_
  cases hxv:x.var with
  |false=>
   refine sO ?_
   exact GoF.ret ⟨rfl,rfl⟩
  |true=>
   refine sO ?_
   refine GoO.idx (j:=0) rfl rfl rfl rfl i0 ?_
   refine GoO.val rfl rfl (op_fieldT (cs:=x.cells true) rfl (Tm.ldN true x)) ?_
   refine GoO.ldt rfl rfl rfl rfl ?_
   refine GoO.known hf ev.1 ev.2 (hv x.name hnx) rfl rfl rfl (snaps1 rfl) ?_
   cases hxn:isVar x.name with
   |false=>
    refine sO ?_
    exact GoF.ret ⟨rfl,rfl⟩
   |true=>
    refine sO ?_
    refine GoO.idx (j:=1) rfl rfl rfl rfl i1 ?_
    refine GoO.val rfl rfl (op_fieldT (cs:=y.cells true) rfl (Tm.ldV true y)) ?_
    refine GoO.ldt rfl rfl rfl rfl ?_
    cases hyv:y.var with
    |false=>
     refine sO ?_
     exact GoF.ret ⟨rfl,rfl⟩
    |true=>
     refine sO ?_
     refine GoO.idx (j:=1) rfl rfl rfl rfl i1 ?_
     refine GoO.val rfl rfl (op_fieldT (cs:=y.cells true) rfl (Tm.ldN true y)) ?_
     refine GoO.ldt rfl rfl rfl rfl ?_
     refine GoO.known hf em.1 em.2 (hm y.name hny) rfl rfl rfl (snaps1 rfl) ?_
     refine sO ?_
     exact GoF.ret ⟨rfl,rfl⟩
 ·refine GoO.bin (a:=nI (a.getD []).length) (b:=nI 2) (v:=.b false) rfl rfl rfl rfl (bin_cmp (cfalse h2)) ?_
  refine sO ?_
  refine GoF.ret ⟨rfl,?_⟩
  have:instB (a.getD [])=false:=by
   unfold instB
   split
   ·rename_i x y e;rw[e] at h2;simp at h2
   ·rfl
  rw[this];rfl
end
end Go.Lyc
end
noncomputable section
namespace Go.Lyc
variable [Tok][TokOk]
open Go.RowKit Go.Lyc.T
abbrev More(σ σ':St):Prop:=σ.next≤σ'.next∧∀i o,σ.get i=some o→σ'.get i=some o
theorem Acc.take0{σ:St}{sh:Option Nat}{v:AV}{xs l:List AV}(h:Acc σ sh v xs):takeSh none (v::l)=some v:=by cases h<;>rfl
theorem Acc.conf0{σ:St}{sh:Option Nat}{v:AV}{xs:List AV}(h:Acc σ sh v xs):Go.Lyc.conf none v=true:=by cases h<;>rfl
end Go.Lyc
end
noncomputable section
namespace Go.Lyc
variable [Tok][TokOk]
open Go.RowKit Go.Lyc.T
theorem Acc.inv{σ:St}{sh:Option Nat}{v:AV}{xs:List AV}(h:Acc σ sh v xs)(hx:0<xs.length):∃o,v= .sl o 0 xs.length sh none∧σ.get o=some (.cells (xs.flatMap AV.cells))∧∀y∈xs,Go.Lyc.conf sh y=true:=by
 cases h with
 |nil=>cases hx
 |sl o x xs h hc=>exact⟨o,rfl,h,hc⟩
theorem Acc.of{σ:St}{sh:Option Nat}{o:Nat}{xs:List AV}(hx:0<xs.length)(h:σ.get o=some (.cells (xs.flatMap AV.cells)))(hc:∀y∈xs,Go.Lyc.conf sh y=true):Acc σ sh (.sl o 0 xs.length sh none) xs:=by
 cases xs with
 |nil=>cases hx
 |cons x xs=>exact .sl o x xs h hc
theorem conf_lenN{sh:Option Nat}{x:AV}(h:conf sh x=true):x.cells.length=shN sh:=by
 cases sh with
 |none=>rw[conf_none_cells h];rfl
 |some k=>obtain⟨l,rfl,hl⟩:=conf_some h;exact hl
theorem drop_flat{sh:Option Nat}:∀ {xs:List AV} (j:Nat),(∀x∈xs,conf sh x=true)→(xs.flatMap AV.cells).drop (j*shN sh)=(xs.drop j).flatMap AV.cells
 |xs,0,_=>by rw[Nat.zero_mul];rfl
 |[],j+1,_=>by simp
 |x::xs,j+1,h=>by
  have e:(j+1)*shN sh=x.cells.length+j*shN sh:=by rw[conf_lenN (h x (by simp)),Nat.add_mul,Nat.one_mul,Nat.add_comm]
  rw[List.flatMap_cons,e,← List.drop_drop,List.drop_left,drop_flat j fun y hy=>h y (List.mem_cons_of_mem _ hy)];rfl
theorem take_elem{sh:Option Nat}{xs:List AV}{j:Nat}(hj:j<xs.length)(h:∀x∈xs,conf sh x=true):takeSh sh ((xs.flatMap AV.cells).drop (0+j*shN sh))=some xs[j]:=by
 rw[Nat.zero_add,drop_flat j h,List.drop_eq_getElem_cons hj,List.flatMap_cons]
 exact(takeSh_app (h _ (List.getElem_mem hj))).1
section
variable {env:Env}{wh:Option Nat}{D:List (Nat ⊕ (AV×List AV))}{n:Nat}{f:Nat→AV}{σ:St}{Q:PostF}
end
section
variable {env:Env}{wh:Option Nat}{D:List (Nat ⊕ (AV×List AV))}{n:Nat}{f:Nat→AV}{σ:St}{Q:PostF}
theorem GoF.cutE{α:Type}{a b:ACode}(L:α→List (Nat×AV))(R:α→St→Prop)(h1:GoW env wh D n a f σ (fun x f' σ'=>x= .normal∧∃t,R t σ'∧sat (L t) f'))(h2:∀t σ' g,R t σ'→GoW env wh D n b (upds (L t) g) σ' Q):GoW env wh D n (.seq a b) f σ Q:=GoF.seq (h1.mono fun x f' σ' ⟨e1,t,e2,e3⟩=>by
 subst e1
 show GoW env wh D n b f' σ' Q
 exact GoF.norm (L t) e3 fun g=>h2 t σ' g e2)
end
theorem wrapN8{n:Nat}(h:n<256):wrapN .u8 (Int.ofNat n)=Int.ofNat n:=by
 have h:(n:Int)<256:=by omega
 simp[wrapN,IntKind.wrap,IntKind.bits,IntKind.signed]
 omega
end Go.Lyc
end
noncomputable section
namespace Go.Lyc
variable [Tok][TokOk]
open Go.RowKit Go.Lyc.T
abbrev Sy:=List Nat×Nat
abbrev symA(s:Sy):AV:=.ag [.s s.1,nI s.2]
theorem eqL_dec:∀(a b:List Nat),eqL a b=decide (a=b)
 |[],[]=>rfl
 |[],_::_=>rfl
 |_::_,[]=>rfl
 |x::a,y::b=>by
  show cond (Nat.beq x y) (eqL a b) false=_
  cases h:Nat.beq x y with
  |false=>
   have:x≠y:=fun e=>by rw[e,Nat.beq_refl] at h;cases h
   rw[decide_eq_false (fun e=>this (by injection e))];rfl
  |true=>
   rw[Nat.eq_of_beq_eq_true h,cond_true,eqL_dec a b]
   simp
theorem keyEq_sym(a b:Sy):keyEq (.inr [1,0]) (symA a) (symA b)=some (decide (a=b)):=by
 show(match leafEq 1 (.s a.1) (.s b.1),leafEqs [0] [nI a.2] [nI b.2] with|some a,some b=>some (a&&b)|_,_=>none)=_
 have e:leafEqs [0] [nI a.2] [nI b.2]=some (decide (a.2=b.2)):=by
  show(match leafEq 0 (nI a.2) (nI b.2),leafEqs [] [] [] with|some a,some b=>some (a&&b)|_,_=>none)=_
  show(match(if(IntKind.i64= .i64) then some (decide (Int.ofNat a.2=Int.ofNat b.2)) else none),some true with|some a,some b=>some (a&&b)|_,_=>none)=_
  rw[if_pos rfl]
  simp only[Int.ofNat_eq_natCast,Int.natCast_inj,Bool.and_true]
 rw[e]
 show some (eqL a.1 b.1&&decide (a.2=b.2))=_
 rw[eqL_dec]
 obtain⟨a1,a2⟩:=a
 obtain⟨b1,b2⟩:=b
 by_cases h1:a1=b1<;>by_cases h2:a2=b2<;>simp[h1,h2]
section
variable {α:Type}[DecidableEq α]{ka:α→AV}{sh:KeyK}
def setE(ka:α→AV):Nat→List α→List (AV×AV×Nat)
 |_,[]=>[]
 |i,k::ks=>(ka k,.b true,i)::setE ka (i+1) ks
def insE(k:α)(l:List α):List α:=if k∈l then l else l++[k]
theorem setE_app:∀(l:List α) (i:Nat) (k:α),setE ka i (l++[k])=setE ka i l++[(ka k,.b true,i+l.length)]
 |[],i,k=>rfl
 |x::l,i,k=>by
  show _::setE ka (i+1) (l++[k])=_
  rw[setE_app l (i+1) k]
  show _=(ka x,AV.b true,i)::(setE ka (i+1) l++[(ka k,.b true,i+(l.length+1))])
  rw[show i+1+l.length=i+(l.length+1) from by omega]
theorem updE_set(hk:∀a b,keyEq sh (ka a) (ka b)=some (decide (a=b)))(k:α):∀(l:List α) (i:Nat),updE sh (ka k) (.b true) (setE ka i l)=some (if k∈l then some (setE ka i l) else none)
 |[],i=>rfl
 |x::l,i=>by
  show(match keyEq sh (ka k) (ka x) with
   |none=>none
   |some true=>some (some ((ka k,AV.b true,i)::setE ka (i+1) l))
   |some false=>match updE sh (ka k) (AV.b true) (setE ka (i+1) l) with|none=>none|some none=>some none|some (some es)=>some (some ((ka x,AV.b true,i)::es)))=_
  rw[hk,updE_set hk k l (i+1)]
  by_cases h:k=x
  ·subst h
   rw[decide_eq_true rfl,if_pos (List.mem_cons_self)];rfl
  ·rw[decide_eq_false h]
   by_cases hm:k∈l
   ·rw[if_pos hm,if_pos (List.mem_cons_of_mem _ hm)];rfl
   ·rw[if_neg hm,if_neg (by simp[h,hm])]
theorem mapUpdS{env:Env}{n:Nat}{f:Nat→AV}{σ:St}(hk:∀a b,keyEq sh (ka a) (ka b)=some (decide (a=b))){x y:AOpd}{mid:Nat}{k:α}{l:List α}(h1:evF env n f x=some (.m (some mid)))(h2:evF env n f y=some (ka k))(hm:σ.get mid=some (.map (setE ka 0 l) l.length)):
  opx 0 (evF env n f) σ (.mapUpd sh x y (.c (.b true)))=some (.val undefA (σ.set mid (.map (setE ka 0 (insE k l)) (insE k l).length))):=by
 show(match evF env n f x,evF env n f y,some (AV.b true) with
  |some (.m (some id)),some k,some v=>
   if Nat.blt id 0 then none else
   match σ.get id with
   |some (.map es cl)=>match keyEq sh k k with
    |none=>none
    |some _=>match updE sh k v es with
    |some (some es)=>some (OpR.val undefA (σ.set id (.map es cl)))
    |some none=>some (OpR.val undefA (σ.set id (.map (es++[(k,v,cl)]) (cl+1))))
    |none=>none
   |_=>none
  |_,_,_=>none)=_
 rw[h1,h2]
 show(if Nat.blt mid 0 then none else
   match σ.get mid with
   |some (.map es cl)=>(match keyEq sh (ka k) (ka k) with
    |none=>none
    |some _=>match updE sh (ka k) (.b true) es with
    |some (some es)=>some (OpR.val undefA (σ.set mid (.map es cl)))
    |some none=>some (OpR.val undefA (σ.set mid (.map (es++[(ka k,AV.b true,cl)]) (cl+1))))
    |none=>none)
   |_=>none)=_
 rw[if_neg (by simp[Nat.blt,Nat.ble]),hm]
 show(match keyEq sh (ka k) (ka k) with
    |none=>none
    |some _=>match updE sh (ka k) (.b true) (setE ka 0 l) with
    |some (some es)=>some (OpR.val undefA (σ.set mid (.map es l.length)))
    |some none=>some (OpR.val undefA (σ.set mid (.map (setE ka 0 l++[(ka k,AV.b true,l.length)]) (l.length+1))))
    |none=>none)=_
 rw[hk,updE_set hk]
 unfold insE
 by_cases hmem:k∈l
 ·rw[if_pos hmem,if_pos hmem]
 ·rw[if_neg hmem,if_neg hmem,setE_app,List.length_append,Nat.zero_add];rfl
theorem setE_lt:∀(l:List α) (i c:Nat),i+l.length≤c→allB (fun(e:AV×AV×Nat)=>Nat.blt e.2.2 c) (setE ka i l)=true
 |[],_,_,_=>rfl
 |x::l,i,c,h=>by
  show cond (Nat.blt i c) (allB _ (setE ka (i+1) l)) false=true
  have h:i+(l.length+1)≤c:=h
  rw[show Nat.blt i c=true from Nat.ble_eq_true_of_le (by omega),cond_true]
  exact setE_lt l (i+1) c (by omega)
def leftK(seen:List Nat):Nat→List α→List (α×Nat)
 |_,[]=>[]
 |i,k::ks=>cond (memN i seen) (leftK seen (i+1) ks) ((k,i)::leftK seen (i+1) ks)
theorem leftE_set(seen:List Nat):∀(l:List α) (i:Nat),leftE seen (setE ka i l)=(leftK seen i l).map fun p=>(ka p.1,.b true,p.2)
 |[],_=>rfl
 |x::l,i=>by
  show cond (memN i seen) (leftE seen (setE ka (i+1) l)) ((ka x,.b true,i)::leftE seen (setE ka (i+1) l))=_
  rw[leftE_set seen l (i+1),leftK]
  cases memN i seen<;>rfl
theorem memN_app(n:Nat)(j:Nat):∀(l:List Nat),memN n (l++[j])=(memN n l||Nat.beq j n)
 |[]=>by show cond (Nat.beq j n) true false=_;cases Nat.beq j n<;>rfl
 |x::l=>by
  show cond (Nat.beq x n) true (memN n (l++[j]))=(cond (Nat.beq x n) true (memN n l)||Nat.beq j n)
  rw[memN_app n j l];cases Nat.beq x n<;>rfl
theorem leftK_nil:∀(l:List α) (i:Nat),(leftK [] i l).map Prod.fst=l
 |[],_=>rfl
 |x::l,i=>by
  show x::(leftK [] (i+1) l).map Prod.fst=_
  rw[leftK_nil l (i+1)]
theorem leftK_ge(seen:List Nat):∀(l:List α) (i:Nat) (p:α×Nat),p∈leftK seen i l→i≤p.2
 |[],_,_,h=>by simp[leftK] at h
 |x::l,i,p,h=>by
  rw[leftK] at h
  cases hm:memN i seen with
  |true=>rw[hm] at h;have:=leftK_ge seen l (i+1) p h;omega
  |false=>
   rw[hm,cond_false] at h
   rcases List.mem_cons.1 h with rfl|h
   ·exact Nat.le_refl _
   ·have:=leftK_ge seen l (i+1) p h;omega
theorem leftK_skip(seen:List Nat)(j:Nat):∀(l:List α) (i:Nat),j<i→leftK (seen++[j]) i l=leftK seen i l
 |[],_,_=>rfl
 |x::l,i,h=>by
  rw[leftK,leftK,memN_app,leftK_skip seen j l (i+1) (by omega)]
  have:Nat.beq j i=false:=by
   cases hb:Nat.beq j i with
   |false=>rfl
   |true=>have:=Nat.eq_of_beq_eq_true hb;omega
  rw[this,Bool.or_false]
theorem leftK_step(seen:List Nat):∀(l:List α) (i:Nat) (p:α×Nat),p∈leftK seen i l→(p::leftK (seen++[p.2]) i l).Perm (leftK seen i l)
 |[],_,_,h=>by simp[leftK] at h
 |x::l,i,p,h=>by
  rw[leftK] at h ⊢
  rw[leftK,memN_app]
  cases hm:memN i seen with
  |true=>
   rw[hm,cond_true] at h
   rw[Bool.true_or,cond_true,cond_true]
   exact leftK_step seen l (i+1) p h
  |false=>
   rw[hm,cond_false] at h
   rw[Bool.false_or,cond_false]
   rcases List.mem_cons.1 h with rfl|h
   ·rw[Nat.beq_refl,cond_true,leftK_skip seen i l (i+1) (by omega)]
   ·have hge:=leftK_ge seen l (i+1) p h
    have:Nat.beq p.2 i=false:=by
     cases hb:Nat.beq p.2 i with
     |false=>rfl
     |true=>have:=Nat.eq_of_beq_eq_true hb;omega
    rw[this,cond_false]
    exact(List.Perm.swap _ _ _).trans ((leftK_step seen l (i+1) p h).cons _)
theorem bornE_set(seen:List Nat):∀(l:List α) (i:Nat) (p:α×Nat),p∈leftK seen i l→bornE p.2 (setE ka i l)=some (ka p.1,.b true,p.2)
 |[],_,_,h=>by simp[leftK] at h
 |x::l,i,p,h=>by
  rw[leftK] at h
  show cond (Nat.beq i p.2) (some (ka x,AV.b true,i)) (bornE p.2 (setE ka (i+1) l))=_
  have key:∀h:p∈leftK seen (i+1) l,cond (Nat.beq i p.2) (some (ka x,AV.b true,i)) (bornE p.2 (setE ka (i+1) l))=some (ka p.1,.b true,p.2):=fun h=>by
   have hge:=leftK_ge seen l (i+1) p h
   have:Nat.beq i p.2=false:=by
    cases hb:Nat.beq i p.2 with
    |false=>rfl
    |true=>have:=Nat.eq_of_beq_eq_true hb;omega
   rw[this,cond_false]
   exact bornE_set seen l (i+1) p h
  cases hm:memN i seen with
  |true=>rw[hm,cond_true] at h;exact key h
  |false=>
   rw[hm,cond_false] at h
   rcases List.mem_cons.1 h with rfl|h
   ·rw[Nat.beq_refl];rfl
   ·exact key h
theorem lastE_app(j:Nat):∀(l:List Nat),lastE (l++[j])=some j
 |[]=>rfl
 |x::l=>by
  show(match lastE (l++[j]) with|none=>some x|some y=>some y)=_
  rw[lastE_app j l]
section
variable {env:Env}{wh:Option Nat}{D:List (Nat ⊕ (AV×List AV))}{n:Nat}{f:Nat→AV}{σ:St}{Q:PostF}
theorem GoO.mkMap{d:Nat}{wn:List Nat}{ops:List AOper}(k:Nat)(hn:σ.next=k)(hd:Nat.blt d n=true)
  (h:∀σ':St,σ'.next=k+1→σ'.get k=some (.map [] 0)→(∀i o,σ.get i=some o→σ'.get i=some o)→GoV env wh D n ops (upd f d (.m (some k))) σ' Q):GoV env wh D n (⟨some d,.mkMap,none,wn⟩::ops) f σ Q:=by
 subst hn
 exact GoO.val (v:=.m (some σ.next)) (σ':=σ.push (.map [] 0)) hd rfl rfl (h (σ.push (.map [] 0)) rfl (St.get_push_new _) fun i o ho=>by rw[St.get_push_old trivial _ (St.get_lt ho)];exact ho)
theorem GoO.mapUpdS(hk:∀a b,keyEq sh (ka a) (ka b)=some (decide (a=b))){wn:List Nat}{ops:List AOper}{x y:AOpd}{mid:Nat}{k:α}{l:List α}(hm:σ.get mid=some (.map (setE ka 0 l) l.length))(h1:evF env n f x=some (.m (some mid)))(h2:evF env n f y=some (ka k))
  (h:∀σ':St,σ'.next=σ.next→σ'.get mid=some (.map (setE ka 0 (insE k l)) (insE k l).length)→(∀i o,i≠mid→σ.get i=some o→σ'.get i=some o)→GoV env wh D n ops f σ' Q):GoV env wh D n (⟨none,.mapUpd sh x y (.c (.b true)),none,wn⟩::ops) f σ Q:=
 GoO.eff rfl (Go.Lyc.mapUpdS hk h1 h2 hm) (h _ rfl (set_get hm).1 (set_get hm).2)
theorem GoO.rangeS{d:Nat}{wn:List Nat}{ops:List AOper}{x:AOpd}{mid c:Nat}{es:List (AV×AV×Nat)}(k:Nat)(hn:σ.next=k)(hm:σ.get mid=some (.map es c))(hd:Nat.blt d n=true)(h1:evF env n f x=some (.m (some mid)))
  (h:∀σ':St,σ'.next=k+1→σ'.get k=some (.mapIter (some mid) c [] c)→(∀i o,σ.get i=some o→σ'.get i=some o)→GoV env wh D n ops (upd f d (.p (some (k,0)))) σ' Q):GoV env wh D n (⟨some d,.rangeMap x,none,wn⟩::ops) f σ Q:=by
 subst hn
 refine GoO.val (v:=.p (some (σ.next,0))) (σ':=σ.push (.mapIter (some mid) c [] c)) hd rfl ?_ (h (σ.push (.mapIter (some mid) c [] c)) rfl (St.get_push_new _) fun i o ho=>by rw[St.get_push_old trivial _ (St.get_lt ho)];exact ho)
 show(match evF env n f x with
  |some (.m none)=>some (OpR.val (ptrId σ.next 0) (σ.push (.mapIter none 0 [] 0)))
  |some (.m (some id))=>match σ.get id with
   |some (.map _ cl)=>some (OpR.val (ptrId σ.next 0) (σ.push (.mapIter (some id) cl [] cl)))
   |_=>none
  |_=>none)=_
 rw[h1]
 show(match σ.get mid with
   |some (.map _ cl)=>some (OpR.val (ptrId σ.next 0) (σ.push (.mapIter (some mid) cl [] cl)))
   |_=>none)=_
 rw[hm];rfl
theorem GoO.nextS{d:Nat}{wn:List Nat}{ops:List AOper}{x:AOpd}{mid it:Nat}{l:List α}{seen:List Nat}(hit:σ.get it=some (.mapIter (some mid) l.length seen l.length))(hm:σ.get mid=some (.map (setE ka 0 l) l.length))(hd:Nat.blt d n=true)(h1:evF env n f x=some (.p (some (it,0))))
  (h0:leftK seen 0 l=[]→GoV env wh D n ops (upd f d (.tu [.b false])) σ Q)
  (hs:∀p∈leftK seen 0 l,∀σ':St,σ'.next=σ.next→σ'.get it=some (.mapIter (some mid) l.length (seen++[p.2]) l.length)→(∀i o,i≠it→σ.get i=some o→σ'.get i=some o)→GoV env wh D n ops (upd f d (.tu [.b true,ka p.1,.b true])) σ' Q):GoV env wh D n (⟨some d,.nextMap x,none,wn⟩::ops) f σ Q:=by
 have e:opx 0 (evF env n f) σ (.nextMap x)=(match leftE seen (setE ka 0 l) with
       |[]=>some (OpR.val (.tu [.b false]) σ)
       |l'=>some (OpR.nexts (l'.map fun(e:AV×AV×Nat)=>(.tu [.b true,e.1,e.2.1],σ.set it (.mapIter (some mid) l.length (seen++[e.2.2]) l.length))))):=by
  show(match evF env n f x with
   |some (.p (some (it,0)))=>if Nat.blt it 0 then none else
    match σ.get it with
    |some (.mapIter none _ _ _)=>some (OpR.val (.tu [.b false]) σ)
    |some (.mapIter (some id) since seen stepped)=>match σ.get id with
     |some (.map es cl)=>
      cond (Nat.beq cl since&&Nat.beq stepped since&&allB (fun(e:AV×AV×Nat)=>Nat.blt e.2.2 since) es)
       (match leftE seen es with
        |[]=>some (OpR.val (.tu [.b false]) σ)
        |l=>some (OpR.nexts (l.map fun(e:AV×AV×Nat)=>(.tu [.b true,e.1,e.2.1],σ.set it (.mapIter (some id) since (seen++[e.2.2]) cl))))) none
     |_=>none
    |_=>none
   |_=>none)=_
  rw[h1]
  show(if Nat.blt it 0 then none else
    match σ.get it with
    |some (.mapIter none _ _ _)=>some (OpR.val (.tu [.b false]) σ)
    |some (.mapIter (some id) since seen stepped)=>match σ.get id with
     |some (.map es cl)=>
      cond (Nat.beq cl since&&Nat.beq stepped since&&allB (fun(e:AV×AV×Nat)=>Nat.blt e.2.2 since) es)
       (match leftE seen es with
        |[]=>some (OpR.val (.tu [.b false]) σ)
        |l=>some (OpR.nexts (l.map fun(e:AV×AV×Nat)=>(.tu [.b true,e.1,e.2.1],σ.set it (.mapIter (some id) since (seen++[e.2.2]) cl))))) none
     |_=>none
    |_=>none)=_
  rw[if_neg (by simp[Nat.blt,Nat.ble]),hit]
  show(match σ.get mid with
     |some (.map es cl)=>
      cond (Nat.beq cl l.length&&Nat.beq l.length l.length&&allB (fun(e:AV×AV×Nat)=>Nat.blt e.2.2 l.length) es)
       (match leftE seen es with
        |[]=>some (OpR.val (.tu [.b false]) σ)
        |l'=>some (OpR.nexts (l'.map fun(e:AV×AV×Nat)=>(.tu [.b true,e.1,e.2.1],σ.set it (.mapIter (some mid) l.length (seen++[e.2.2]) cl))))) none
     |_=>none)=_
  rw[hm]
  show cond (Nat.beq l.length l.length&&Nat.beq l.length l.length&&allB (fun(e:AV×AV×Nat)=>Nat.blt e.2.2 l.length) (setE ka 0 l)) _ none=_
  rw[Nat.beq_refl,setE_lt l 0 l.length (by omega)];rfl
 rw[leftE_set] at e
 cases hl:leftK seen 0 l with
 |nil=>
  rw[hl] at e
  exact GoO.val hd rfl e (h0 hl)
 |cons p0 t=>
  rw[hl] at e
  refine GoO.nexts hd rfl e (by simp) fun q hq=>?_
  rw[List.map_map] at hq
  obtain⟨p,hp,rfl⟩:=List.mem_map.1 hq
  rw[←hl] at hp
  exact hs p hp _ rfl (set_get hit).1 (set_get hit).2
theorem GoO.entryS{d:Nat}{wn:List Nat}{ops:List AOper}{x:AOpd}{mid it:Nat}{l:List α}{seen:List Nat}{p:α×Nat}(hp:p∈leftK seen 0 l)(hit:σ.get it=some (.mapIter (some mid) l.length (seen++[p.2]) l.length))(hm:σ.get mid=some (.map (setE ka 0 l) l.length))(hd:Nat.blt d n=true)(h1:evF env n f x=some (.p (some (it,0))))
  (h:GoV env wh D n ops (upd f d (.tu [ka p.1,.b true])) σ Q):GoV env wh D n (⟨some d,.entry x,none,wn⟩::ops) f σ Q:=by
 refine GoO.val hd rfl ?_ h
 show(match evF env n f x with
  |some (.p (some (it,0)))=>match σ.get it with
   |some (.mapIter (some id) since seen stepped)=>match σ.get id with
    |some (.map es cl)=>cond (Nat.beq cl stepped) (match lastE seen with
     |some b=>match bornE b es with
      |some e=>some (OpR.val (.tu [e.1,e.2.1]) σ)
      |none=>none
     |none=>none) none
    |_=>none
   |_=>none
  |_=>none)=_
 rw[h1]
 show(match σ.get it with
   |some (.mapIter (some id) since seen stepped)=>match σ.get id with
    |some (.map es cl)=>cond (Nat.beq cl stepped) (match lastE seen with
     |some b=>match bornE b es with
      |some e=>some (OpR.val (.tu [e.1,e.2.1]) σ)
      |none=>none
     |none=>none) none
    |_=>none
   |_=>none)=_
 rw[hit]
 show(match σ.get mid with
    |some (.map es cl)=>cond (Nat.beq cl l.length) (match lastE (seen++[p.2]) with
     |some b=>match bornE b es with
      |some e=>some (OpR.val (.tu [e.1,e.2.1]) σ)
      |none=>none
     |none=>none) none
    |_=>none)=_
 rw[hm]
 show cond (Nat.beq l.length l.length) (match lastE (seen++[p.2]) with
     |some b=>match bornE b (setE ka 0 l) with
      |some e=>some (OpR.val (.tu [e.1,e.2.1]) σ)
      |none=>none
     |none=>none) none=_
 rw[Nat.beq_refl,cond_true,lastE_app]
 show(match bornE p.2 (setE ka 0 l) with
      |some e=>some (OpR.val (.tu [e.1,e.2.1]) σ)
      |none=>none)=_
 rw[bornE_set seen l 0 p hp]
end
end
end Go.Lyc
end
noncomputable section
namespace Go.Lyc
variable [Tok][TokOk]
open Go.RowKit Go.Lyc.T
structure KI(B:Nat)(W:Nat→Prop)(σ σ':St):Prop where
 next:σ.next≤σ'.next
 old:∀i o,i<B→¬W i→σ.get i=some o→σ'.get i=some o
 it:∀i a b c d,σ.get i=some (.mapIter a b c d)→σ'.get i=some (.mapIter a b c d)
theorem KI.refl{B:Nat}{W:Nat→Prop}{σ:St}:KI B W σ σ:=⟨Nat.le_refl _,fun _ _ _ _ h=>h,fun _ _ _ _ _ h=>h⟩
theorem KI.of{B:Nat}{W:Nat→Prop}{σ σ':St}(h:More σ σ'):KI B W σ σ':=⟨h.1,fun i o _ _ ho=>h.2 i o ho,fun i _ _ _ _ ho=>h.2 i _ ho⟩
abbrev NoIt(σ σ':St):Prop:=σ.next≤σ'.next∧∀i o,(∀a b c d,o≠ .mapIter a b c d)→σ.get i=some o→σ'.get i=some o
theorem Acc.keep'{σ σ':St}{sh:Option Nat}{v:AV}{xs:List AV}(h:Acc σ sh v xs)(hk:∀i c,v.at? =some i→σ.get i=some (.cells c)→σ'.get i=some (.cells c)):Acc σ' sh v xs:=by
 cases h with
 |nil=>exact .nil
 |sl o x xs h hc=>exact .sl o x xs (hk _ _ rfl h) hc
theorem Acc.isc{σ:St}{sh:Option Nat}{v:AV}{xs:List AV}(h:Acc σ sh v xs){i:Nat}(hi:v.at? =some i):∃c,σ.get i=some (.cells c):=by
 cases h with
 |nil=>cases hi
 |sl o x xs h hc=>cases hi;exact⟨_,h⟩
theorem Keys1_go{env:Env}(hh:Here env n_Keys1 c_Keys1){W:Nat→Prop}{B mid bx:Nat}{ks:List Sy}(I:List Sy→St→Prop)(hI:∀c σ σ',I c σ→NoIt σ σ'→I c σ')(yv:AV)
  (hy:∀k c σ,B≤σ.next→c.length<ks.length→I c σ→GoesCall env 0 yv [symA k] σ (fun r σ'=>r= .ok (.b true)∧I (c++[k]) σ'∧KI B W σ σ')) (σ:St) (hB:B≤σ.next) (hmB:mid<B) (hmW:¬W mid)
  (hm:σ.get mid=some (.map (setE symA 0 ks) ks.length)) (hbx:σ.get bx=some (.cells [.m (some mid)])) (h0:I [] σ):
  GoesCall env 0 (.f (.func n_Keys1) [] [.p (some (bx,0))]) [yv] σ (fun r σ'=>r= .ok (.tu [])∧∃c,c.Perm ks∧I c σ'∧σ.next≤σ'.next∧∀i o,i<B→¬W i→σ.get i=some o→σ'.get i=some o):=by
 refine GoesCall.code0 hh.e hh.p hh.f rfl rfl rfl ?_
 refine GoF.seq (GoF.region ?_)
 refine GoO.ld (v:=.m (some mid)) hbx rfl rfl rfl rfl ?_
 generalize hk:σ.next=k at hB
 refine GoO.rangeS k hk hm rfl rfl fun σ1 n1 hit k1=>?_
 refine GoO.nil (GoF.block ?_)
 refine GoF.loop (fun m f τ=>k+1≤τ.next∧∃seen c,m=(leftK seen 0 ks).length∧(c++(leftK seen 0 ks).map Prod.fst).Perm ks∧τ.get k=some (.mapIter (some mid) ks.length seen ks.length)∧I c τ∧(∀i o,i<B→¬W i→σ.get i=some o→τ.get i=some o)∧
  sat [(0,yv),(5,.p (some (k,0)))] f) ?_ (leftK [] 0 ks).length ⟨by omega,[],[],rfl,by rw[leftK_nil];exact .refl _,hit,hI _ _ _ h0 ⟨by omega,fun i o _ ho=>k1 i o ho⟩,fun i o _ _ ho=>k1 i o ho,rfl,rfl,trivial⟩
 clear hit n1 k1 h0
 intro m g τ ⟨hn,seen,c,hmm,hperm,hit,hIc,hold,hL⟩
 refine GoF.norm _ hL fun g=>?_
 clear hL
 have hm':=hold mid _ hmB hmW hm
 refine GoF.seq (GoF.region ?_)
 refine GoO.nextS hit hm' rfl rfl (fun hnil=>?_) (fun p hp σ2 n2 hit2 k2=>?_)
 ·refine GoO.go rfl rfl rfl rfl ?_
  refine GoO.nil (GoF.seq ?_)
  refine GoF.cnd rfl (fun h=>by cases h) (fun _=>?_)
  refine GoF.exit ?_
  rw[hnil,List.map_nil,List.append_nil] at hperm
  exact⟨.inr rfl,rfl,c,hperm,hIc,by omega,hold⟩
 ·refine GoO.go rfl rfl rfl rfl ?_
  refine GoO.nil (GoF.seq ?_)
  refine GoF.cnd rfl (fun _=>?_) (fun h=>by cases h)
  have hmk:mid≠k:=by omega
  have hm2:=k2 _ _ hmk hm'
  refine GoF.skip (GoF.block (GoF.seq (GoF.region ?_)))
  refine GoO.entryS hp hit2 hm2 rfl rfl ?_
  refine GoO.go rfl rfl rfl rfl ?_
  refine GoO.var (v:=symA p.1) (c:=[.s p.1.1,nI p.1.2]) τ.next n2 rfl rfl rfl rfl rfl rfl fun σ3 n3 h3 k3=>?_
  refine GoO.nil (GoF.seq (GoF.region ?_))
  refine GoO.go rfl rfl rfl rfl ?_
  refine GoO.ld (v:=symA p.1) h3 rfl rfl rfl rfl ?_
  have hstep:=leftK_step seen ks 0 p hp
  have hlen:=hperm.length_eq
  have hlen2:=hstep.length_eq
  rw[List.length_append,List.length_map] at hlen
  rw[List.length_cons] at hlen2
  have hI3:I c σ3:=hI _ _ _ (hI _ _ _ hIc ⟨by omega,fun i o hne ho=>k2 i o (fun e=>by subst e;rw[hit] at ho;cases ho;exact hne _ _ _ _ rfl) ho⟩) ⟨by omega,fun i o _ ho=>k3 i o ho⟩
  refine GoO.callG rfl rfl rfl (hy p.1 c σ3 (by omega) (by omega) hI3) fun r σ4 ⟨e4,hI4,K4⟩=>⟨_,e4,?_⟩
  refine GoO.go rfl rfl rfl rfl ?_
  refine GoO.nil (GoF.cnd rfl (fun h=>by cases h) (fun _=>?_))
  have n4:=K4.next
  refine GoF.skip ⟨(leftK (seen++[p.2]) 0 ks).length,by omega,by omega,seen++[p.2],c++[p.1],rfl,?_,K4.it _ _ _ _ _ (k3 _ _ hit2),hI4,fun i o hi hw ho=>K4.old i o hi hw (k3 i o (k2 i o (by omega) (hold i o hi hw ho))),rfl,rfl,trivial⟩
  refine List.Perm.trans ?_ hperm
  rw[List.append_assoc]
  exact(hstep.map Prod.fst).append_left c
theorem Keys_go{env:Env}(hh:Here env n_Keys c_Keys)(mid:Nat)(σ:St)(k:Nat)(hk:σ.next=k):GoesCall env 0 (.f (.func n_Keys) [] []) [.m (some mid)] σ (fun r σ'=>r= .ok (.f (.func n_Keys1) [] [.p (some (k,0))])∧σ'.next=k+1∧σ'.get k=some (.cells [.m (some mid)])∧∀i o,σ.get i=some o→σ'.get i=some o):=by
 refine GoesCall.code hh.e hh.p hh.f rfl rfl rfl rfl ?_
 refine GoF.seq (GoF.region (GoO.box (v:=.m (some mid)) (c:=[.m (some mid)]) k hk rfl rfl rfl rfl rfl fun τ hn h1 k1=>?_))
 refine sS ?_
 exact GoF.ret ⟨rfl,rfl,hn,h1,k1⟩
theorem GoX.keys{env:Env}{D:List (Nat ⊕ (AV×List AV))}{n:Nat}{f:Nat→AV}{σ:St}{Q:PostF}(hk1:Here env n_Keys1 c_Keys1){fo:AOpd}{p:Nat}{asn b:ACode}{mid bx:Nat}{ks:List Sy}(W:Nat→Prop)(S:List Sy→St→Prop)(k:Nat)(hk:σ.next=k)
  (hfo:evF env n f fo=some (.f (.func n_Keys1) [] [.p (some (bx,0))])) (hp:Nat.blt p n=true) (hm:σ.get mid=some (.map (setE symA 0 ks) ks.length)) (hbx:σ.get bx=some (.cells [.m (some mid)])) (hW:∀i,W i→i<k) (hmW:¬W mid)
  (hS:∀c τ τ',S c τ→τ.next≤τ'.next→(∀i o,i≠k+1→(∀a b c d,o≠ .mapIter a b c d)→τ.get i=some o→τ'.get i=some o)→S c τ') (h0:S [] σ)
  (hround:∀y c τ,k+2≤τ.next→c.length<ks.length→S c τ→GoW env (some (k+1)) [] n asn (upd f p (symA y)) τ (fun x f1 τ1=>x= .normal∧More τ τ1∧
   ∀τ2,τ2.next=τ1.next→(∀i o,i≠k+1→τ1.get i=some o→τ2.get i=some o)→GoW env (some (k+1)) [] n b f1 τ2 (fun x _ τ3=>x= .normal∧S (c++[y]) τ3∧KI (k+2) W τ2 τ3)))
  (hend:∀c τ,c.Perm ks→S c τ→k+2≤τ.next→τ.get k=some .dblk→(∀i o,¬W i→σ.get i=some o→τ.get i=some o)→Q .normal f τ):GoX env D (.inl k::D) n (.rangeFunc fo [p] asn b) f σ Q:=by
 subst hk
 refine GoX.range hfo hk1.e fun sl hsl=>?_
 generalize hk:σ.next=k at *
 obtain⟨σ2,e2,n2,hl2,hd2,k2⟩:∃σ2:St,(σ.push .dblk).push (.loop .ready none sl [p] asn b k)=σ2∧σ2.next=k+2∧σ2.get (k+1)=some (.loop .ready none sl [p] asn b k)∧σ2.get k=some .dblk∧∀i o,σ.get i=some o→σ2.get i=some o:=by
  refine⟨_,rfl,by show σ.next+1+1=_;omega,?_,?_,fun i o ho=>?_⟩
  ·have:=St.get_push_new (σ:=σ.push .dblk) (.loop .ready none sl [p] asn b k)
   rwa[show(σ.push .dblk).next=k+1 from by show σ.next+1=_;omega] at this
  ·rw[St.get_push_old trivial _ (show k<(σ.push .dblk).next from by show k<σ.next+1;omega)]
   have:=St.get_push_new (σ:=σ) .dblk
   rwa[hk] at this
  ·have:=St.get_lt ho
   rw[St.get_push_old trivial _ (show i<(σ.push .dblk).next from by show i<σ.next+1;omega),St.get_push_old trivial _ this];exact ho
 rw[e2]
 clear e2
 have hmk:=St.get_lt hm
 have hWl:¬W (k+1):=fun h=>by have:=hW _ h;omega
 have hWk:¬W k:=fun h=>by have:=hW _ h;omega
 refine(Keys1_go hk1 (W:=fun i=>W i∨i=k+1) (B:=k+2) (mid:=mid) (bx:=bx) (ks:=ks)
  (fun c τ=>S c τ∧τ.get (k+1)=some (.loop .ready none sl [p] asn b k)) ?_ (.f (.yield (k+1)) [] []) ?_ σ2 (by omega) (by omega) (fun h=>h.elim hmW (by omega)) (k2 _ _ hm) (k2 _ _ hbx) ⟨hS _ _ _ h0 (by omega) fun i o _ _ ho=>k2 i o ho,hl2⟩).mono ?_
 ·rintro c τ τ' ⟨a1,a2⟩ ⟨b1,b2⟩
  exact⟨hS _ _ _ a1 b1 fun i o _ h ho=>b2 i o h ho,b2 _ _ (by intros;simp) a2⟩
 ·rintro y c τ hB hlt ⟨a1,a2⟩
  refine(GoesCall.round (R:=fun σ'=>(S (c++[y]) σ'∧σ'.get (k+1)=some (.loop .ready none sl [p] asn b k))∧KI (k+2) (fun i=>W i∨i=k+1) τ σ') (f:=f) (n:=n) a2 hsl (by show cond (Nat.blt p n) _ _=true;rw[hp];rfl) rfl ?_).mono fun r σ' h=>h
  refine(hround y c τ hB hlt a1).mono fun x f1 τ1 ⟨e1,K1,h1⟩=>?_
  have hl1:=K1.2 _ _ a2
  have hset:=set_get (o':=.loop .busy none sl [p] asn b k) hl1
  refine⟨e1,hl1,(h1 (τ1.set (k+1) (.loop .busy none sl [p] asn b k)) rfl (fun i o hi ho=>hset.2 i o hi ho)).mono fun x _ τ3 ⟨e2,hS3,K3⟩=>?_⟩
  have hl3:=K3.old _ _ (by omega) hWl hset.1
  have hset3:=set_get (o':=.loop .ready none sl [p] asn b k) hl3
  have n1:=K1.1
  have n3:τ1.next≤τ3.next:=K3.next
  have hne:∀ {i:Nat} {a b' c' d'},τ1.get i=some (.mapIter a b' c' d')→i≠k+1:=fun h e=>by subst e;rw[hl1] at h;cases h
  have hne3:∀ {i:Nat} {a b' c' d'},τ3.get i=some (.mapIter a b' c' d')→i≠k+1:=fun h e=>by subst e;rw[hl3] at h;cases h
  refine⟨e2,hl3,⟨hS _ _ _ hS3 (Nat.le_refl _) fun i o hi _ ho=>hset3.2 i o hi ho,hset3.1⟩,by show τ.next≤τ3.next;omega,fun i o hi hw ho=>?_,fun i a b' c' d' ho=>?_⟩
  ·have hi1:i≠k+1:=fun e=>hw (.inr e)
   exact hset3.2 i o hi1 (K3.old i o hi (fun e=>hw (.inl e)) (hset.2 i o hi1 (K1.2 i o ho)))
  ·have h1:=K1.2 _ _ ho
   have h3:=K3.it _ _ _ _ _ (hset.2 _ _ (hne h1) h1)
   exact hset3.2 _ _ (hne3 h3) h3
 ·rintro r τ ⟨e1,c,hc,⟨a1,a2⟩,b1,b2⟩
  have hset:=set_get (o':=.loop .exhausted none sl [p] asn b k) a2
  refine⟨_,.ready,e1,a2,by simp,hend c _ hc (hS _ _ _ a1 (Nat.le_refl _) fun i o hi _ ho=>hset.2 i o hi ho) (by show k+2≤τ.next;omega) (hset.2 _ _ (by omega) (b2 _ _ (by omega) (fun h=>h.elim hWk (by omega)) hd2)) fun i o hi ho=>?_⟩
  have:=St.get_lt ho
  exact hset.2 i o (by omega) (b2 i o (by omega) (fun h=>h.elim hi (by omega)) (k2 i o ho))
theorem AppendSeq_go{env:Env}(hh:Here env n_AppendSeq c_AppendSeq)(hk1:Here env n_Keys1 c_Keys1){mid bx:Nat}{ks:List Sy}(hks:ks.length≤1000000)(σ:St)(hm:σ.get mid=some (.map (setE symA 0 ks) ks.length))(hbx:σ.get bx=some (.cells [.m (some mid)])):
  GoesCall env 0 (.f (.func n_AppendSeq) [] []) [.nilsl,.f (.func n_Keys1) [] [.p (some (bx,0))]] σ (fun r σ'=>∃(v:AV) (c:List Sy),r= .ok v∧c.Perm ks∧Acc σ' (some 2) v (c.map symA)∧(∀a,v.at? =some a→σ.next≤a)∧More σ σ'):=by
 generalize hk:σ.next=k
 refine GoesCall.codeX (d:=k+1) hh.e hh.p hh.f rfl rfl rfl rfl ?_
 refine GoX.seqA (GoF.region (GoO.box (v:=.nilsl) (c:=[.nilsl]) k hk rfl rfl rfl rfl rfl fun σ1 n1 h1 k1=>?_))
 refine sO ?_
 refine⟨rfl,GoX.seqB (GoX.seqA (GoF.region ?_))⟩
 refine sO ?_
 refine⟨rfl,GoX.block ?_⟩
 have hmk:=St.get_lt hm
 refine GoX.keys hk1 (fun i=>i=k) (fun c τ=>∃v,τ.get k=some (.cells [v])∧Acc τ (some 2) v (c.map symA)∧∀a,v.at? =some a→k+3≤a∧a<τ.next) (k+1) n1 rfl rfl (k1 _ _ hm) (k1 _ _ hbx) (fun i hi=>by omega) (by omega) ?_ ⟨.nilsl,h1,.nil,fun a h=>by cases h⟩ ?_ ?_
 ·rintro c τ τ' ⟨v,a4,a5,a6⟩ b1 b2
  exact⟨v,b2 _ _ (by omega) (by intros;simp) a4,a5.keep' fun i c hi h=>b2 _ _ (by have:=a6 i hi;omega) (by intros;simp) h,fun a h=>by have:=a6 a h;omega⟩
 ·rintro y c τ hB hlt ⟨v,a4,a5,a6⟩
  refine GoF.region ?_
  refine GoO.var (v:=symA y) (c:=[.s y.1,nI y.2]) τ.next rfl rfl rfl rfl rfl rfl rfl fun τ1 m1 g1 q1=>?_
  refine GoO.nil ⟨rfl,⟨by omega,q1⟩,fun τ2 m2 r2=>?_⟩
  have q2:∀i o,i≠k+2→τ.get i=some o→τ2.get i=some o:=fun i o hi ho=>r2 i o hi (q1 i o ho)
  have a4':=q2 _ _ (by omega) a4
  have hA:=a5.keep fun i o hi ho=>q2 i o (by have:=a6 i hi;omega) ho
  refine GoF.block (GoF.region ?_)
  refine GoO.ld (v:=v) a4' rfl rfl rfl hA.take0 ?_
  refine GoO.ld (v:=symA y) (r2 _ _ (by omega) g1) rfl rfl rfl rfl ?_
  refine GoO.push1 (y:=symA y) hA rfl rfl rfl (by rw[List.length_map];omega) rfl rfl fun v' τ3 hA' hat m3 q3=>?_
  refine GoO.store (c':=[v']) (q3 _ _ (fun e=>by have:=a6 _ e;omega) a4') rfl rfl rfl hA'.conf0 (by show storeCells _ 0 v'.cells=_;rw[conf_none_cells hA'.conf0];rfl) fun τ4 m4 g4 q4=>?_
  refine GoO.nil ⟨rfl,⟨v',g4,?_,fun a e=>by rw[hat] at e;cases e;omega⟩,by omega,fun i o hi hw ho=>q4 i o hw (q3 i o (fun e=>by have:=a6 _ e;omega) ho),fun i a b' c' d' ho=>?_⟩
  ·rw[List.map_append]
   exact hA'.keep fun i o hi ho=>by
    rw[hat] at hi;cases hi
    exact q4 _ _ (by omega) ho
  ·refine q4 _ _ (fun e=>by subst e;rw[a4'] at ho;cases ho) (q3 _ _ (fun e=>?_) ho)
   obtain⟨c0,hc0⟩:=hA.isc e
   rw[hc0] at ho;cases ho
 ·rintro c τ hc ⟨v,a4,a5,a6⟩ hn hd hold
  refine⟨rfl,rfl,?_⟩
  refine GoF.seq (GoF.region ?_)
  refine GoO.ld (v:=v) a4 rfl rfl rfl a5.take0 ?_
  refine sO ?_
  have hset:=set_get (o':=AO.dead) hd
  refine GoF.ret ⟨rfl,hd,v,c,rfl,hc,a5.keep fun i o hi ho=>hset.2 i o (by have:=a6 i hi;omega) ho,fun a h=>by have:=a6 a h;omega,by show σ.next≤τ.next;omega,fun i o ho=>?_⟩
  have:=St.get_lt ho
  exact hset.2 i o (by omega) (hold i o (by omega) (k1 i o ho))
end Go.Lyc
end
noncomputable section
namespace Go.Lyc
variable [Tok][TokOk]
open Go.RowKit Go.Lyc.T
theorem takeN_flat{sh:Option Nat}:∀ {xs:List AV} (j:Nat),(∀x∈xs,conf sh x=true)→(xs.flatMap AV.cells).take (j*shN sh)=(xs.take j).flatMap AV.cells
 |xs,0,_=>by rw[Nat.zero_mul];rfl
 |[],j+1,_=>by simp
 |x::xs,j+1,h=>by
  have e:(j+1)*shN sh=x.cells.length+j*shN sh:=by rw[conf_lenN (h x (by simp)),Nat.add_mul,Nat.one_mul,Nat.add_comm]
  rw[List.flatMap_cons,e,List.take_length_add_append,takeN_flat j fun y hy=>h y (List.mem_cons_of_mem _ hy)];rfl
theorem flat_len{sh:Option Nat}:∀ {xs:List AV},(∀x∈xs,conf sh x=true)→(xs.flatMap AV.cells).length=xs.length*shN sh
 |[],_=>by simp
 |x::xs,h=>by
  rw[List.flatMap_cons,List.length_append,conf_lenN (h x (by simp)),flat_len fun y hy=>h y (List.mem_cons_of_mem _ hy),List.length_cons,Nat.add_mul,Nat.one_mul,Nat.add_comm]
theorem store_flat{sh:Option Nat}{xs:List AV}{j:Nat}{y:AV}(hj:j<xs.length)(h:∀x∈xs,conf sh x=true)(hy:conf sh y=true):storeCells (xs.flatMap AV.cells) (0+j*shN sh) y.cells=some ((xs.set j y).flatMap AV.cells):=by
 have e1:0+j*shN sh+y.cells.length=(j+1)*shN sh:=by rw[conf_lenN hy,Nat.add_mul,Nat.one_mul,Nat.zero_add]
 unfold storeCells
 rw[e1,Nat.zero_add,if_pos (Nat.ble_eq_true_of_le (by rw[flat_len h];exact Nat.mul_le_mul_right _ (by omega))),takeN_flat j h,drop_flat (j+1) h,List.set_eq_take_append_cons_drop,if_pos hj,List.flatMap_append,List.flatMap_cons]
section
variable {env:Env}{wh:Option Nat}{D:List (Nat ⊕ (AV×List AV))}{n:Nat}{f:Nat→AV}{σ:St}{Q:PostF}
end
def cmpN(a b:Nat):Int:=if a<b then-1 else if b<a then 1 else 0
def cmpS(a b:List Nat):Int:=cond (lssL a b) (-1) (cond (eqL a b) 0 1)
def cmpSy(a b:Sy):Int:=if cmpS a.1 b.1=0 then cmpN a.2 b.2 else cmpS a.1 b.1
section
variable {b:Base}{K:Nat→List AV→AV→Prop}
theorem op_conv64{ev:AOpd→Option AV}{σ:St}{x:AOpd}{k:IntKind}{m:Int}(h:ev x=some (.i k m))(k2:IntKind):opx 0 ev σ (.conv k2 x)=some (.val (.i k2 (wrapN k2 m)) σ):=by
 show(match ev x with|some (.i _ n)=>some (OpR.val (.i k2 (wrapN k2 n)) σ)|some (.um _ d j)=>(match k2 with| .i64=>some (.val (.um .i64 d j) σ)|_=>none)|_=>none)=_
 rw[h]
theorem Collect_go(hh:Here (b.envK K) n_Collect c_Collect)(ha:Here (b.envK K) n_AppendSeq c_AppendSeq)(hk1:Here (b.envK K) n_Keys1 c_Keys1){mid bx:Nat}{ks:List Sy}(hks:ks.length≤1000000)(σ:St)(hm:σ.get mid=some (.map (setE symA 0 ks) ks.length))(hbx:σ.get bx=some (.cells [.m (some mid)])):
  GoesCall (b.envK K) 0 (.f (.func n_Collect) [] []) [.f (.func n_Keys1) [] [.p (some (bx,0))]] σ (fun r σ'=>∃(v:AV) (c:List Sy),r= .ok v∧c.Perm ks∧Acc σ' (some 2) v (c.map symA)∧(∀a,v.at? =some a→σ.next≤a)∧More σ σ'):=by
 refine GoesCall.code hh.e hh.p hh.f rfl rfl rfl rfl ?_
 refine GoF.seq (GoF.region ?_)
 refine GoO.go rfl rfl rfl rfl ?_
 refine GoO.nil (GoF.seq (GoF.region ?_))
 refine GoO.go rfl rfl rfl rfl ?_
 refine GoO.callG rfl rfl rfl (AppendSeq_go ha hk1 hks σ hm hbx) fun r σ2 ⟨v,c,e1,h1,h2,h3,h4⟩=>⟨_,e1,?_⟩
 refine GoO.go rfl rfl rfl rfl ?_
 exact GoO.nil (GoF.ret ⟨rfl,_,c,rfl,h1,h2,h3,h4⟩)
end
end Go.Lyc
end
noncomputable section
namespace Go.Lyc
variable [Tok][TokOk]
open Go.RowKit Go.Lyc.T
def SrtG(b:Base)(K:Nat→List AV→AV→Prop)(N:Nat):Prop:=N≤60000∧∀ {mid:Nat} {ks:List Sy} (_:ks.length≤N) (σ:St) (_:σ.get mid=some (.map (setE symA 0 ks) ks.length)),
  GoesCall (b.envK K) 0 (.f (.func n_sorted) [] []) [.m (some mid)] σ (fun r σ'=>∃(v:AV) (c:List Sy),r= .ok v∧c.Perm ks∧Acc σ' (some 2) v (c.map symA)∧(∀a,v.at? =some a→σ.next≤a)∧More σ σ')
def predF(f:Fm)(ks:List Sy):List Sy:=if f.op=1 then insE (f.name,f.args.length) ks else ks
def predsL(l:List Fm)(ks:List Sy):List Sy:=l.foldl (fun ks f=>predF f ks) ks
def predsN(F:Fm):List Sy:=predsL F.parts []
def funT(t:Tm)(ks:List Sy):List Sy:=if t.var=false then insE (t.name,t.args.length) ks else ks
def funsT(l:List Tm)(ks:List Sy):List Sy:=l.foldl (fun ks f=>funT f ks) ks
def funsL(l:List Fm)(ks:List Sy):List Sy:=l.foldl (fun ks f=>funsT (Tm.partsL f.args) ks) ks
def funsN(F:Fm):List Sy:=funsL F.parts []
section
variable {b:Base}{K:Nat→List AV→AV→Prop}{N:Nat}(hf:∀g ar r r',K g ar r→K g ar r'→r=r')
include hf in
theorem Predicates_go(hs:SrtG b K N)(hh:Here (b.envK K) n_Predicates c_Predicates)(hv:Here (b.envK K) n_visit c_visit)(hw1:Here (b.envK K) n_walk1 c_walk1)(hw:Here (b.envK K) n_walk c_walk)(F:Fm)(hF:F.few)(hn12:(predsN F).length≤N)(σ:St):
  GoesCall (b.envK K) 0 (.f (.func n_Predicates) [] []) [F.A true] σ (fun r σ'=>∃(v:AV) (c:List Sy),r= .ok v∧c.Perm (predsN F)∧Acc σ' (some 2) v (c.map symA)∧(∀a,v.at? =some a→σ.next≤a)∧More σ σ'):=by
 generalize hk:σ.next=k
 refine GoesCall.codeX (d:=k+4) hh.e hh.p hh.f rfl rfl rfl rfl ?_
 refine GoX.seqA (GoF.region (GoO.box (v:=F.A true) (c:=F.cells true) k hk rfl rfl rfl rfl rfl fun σ1 hn1 h1 k1=>?_))
 refine sO ?_
 refine⟨rfl,GoX.seqA (GoF.region (GoO.mkMap (k+1) hn1 rfl fun σ2 hn2 h2 k2=>?_))⟩
 refine GoO.var (v:=.m (some (k+1))) (c:=[.m (some (k+1))]) (k+2) hn2 rfl rfl rfl rfl rfl rfl fun σ3 hn3 h3 k3=>?_
 replace h1:=k3 _ _ (k2 _ _ h1)
 replace h2:=k3 _ _ h2
 refine GoO.nil ⟨rfl,GoX.seqB (GoX.seqA (GoF.region ?_))⟩
 refine GoO.ld h1 rfl rfl rfl (Fm.ld true F) ?_
 refine GoO.callG rfl rfl rfl (walkG hw true F σ3 (k+3) hn3) fun r σ4 ⟨e1,hn4,h4,k4⟩=>⟨_,e1,?_⟩
 replace h1:=k4 _ _ h1
 replace h2:=k4 _ _ h2
 replace h3:=k4 _ _ h3
 have kk:∀i o,σ.get i=some o→σ4.get i=some o:=fun i o ho=>k4 i o (k3 i o (k2 i o (k1 i o ho)))
 refine GoO.nil ⟨rfl,GoX.block ?_⟩
 refine GoX.walk hv hw1 true (fun i=>i=k+1∨i=k+2) (fun l τ=>∃ks,predsL l ks=predsN F∧τ.get (k+1)=some (.map (setE symA 0 ks) ks.length)∧τ.get (k+2)=some (.cells [.m (some (k+1))])) (k+4) hn4 rfl rfl hF h4 (fun i hi=>by omega) (fun l τ τ' ⟨ks,a1,a2,a3⟩ hk=>⟨ks,a1,hk _ _ (.inl rfl) a2,hk _ _ (.inr rfl) a3⟩) ⟨[],rfl,h2,h3⟩ ?_ ?_
 ·intro G rest τ hG hτ ⟨ks,a1,a2,a3⟩
  refine GoF.region ?_
  refine GoO.var (v:=G.A true) (c:=G.cells true) τ.next rfl rfl rfl rfl (Fm.conf true G) rfl (Fm.len true G) fun τ1 hn4 h4 k4=>?_
  refine GoO.nil ⟨rfl,.of (by omega) k4,fun τ2 hn5 k5=>?_⟩
  replace h4:=k5 _ _ (by omega) h4
  replace a2:=k5 _ _ (by omega) (k4 _ _ a2)
  replace a3:=k5 _ _ (by omega) (k4 _ _ a3)
  refine GoF.block (GoF.seq (GoF.region ?_))
  refine sO ?_
  refine GoO.ld h4 rfl rfl rfl (Fm.ldO true G) ?_
  refine GoO.bin (a:=.i .u8 (Int.ofNat G.op)) (b:=.i .u8 (Int.ofNat 1)) (v:=.b (decide (G.op=1))) rfl rfl rfl rfl (bin_cmp rfl) ?_
  refine GoO.nil (GoF.cnd rfl (fun h=>?_) (fun h=>?_))
  ·have hop:G.op=1:=of_decide_eq_true h
   refine GoF.region ?_
   refine GoO.ld (v:=.m (some (k+1))) a3 rfl rfl rfl rfl ?_
   refine GoO.go rfl rfl rfl rfl ?_
   refine GoO.ld h4 rfl rfl rfl (Fm.ldN true G) ?_
   refine GoO.go rfl rfl rfl rfl ?_
   refine GoO.ld h4 rfl rfl rfl (Fm.ldA true G) ?_
   refine GoO.len rfl rfl rfl tmsA_len ?_
   refine GoO.go (v:=symA (G.name,G.args.length)) rfl rfl rfl rfl ?_
   refine GoO.mapUpdS (ka:=symA) (k:=(G.name,G.args.length)) keyEq_sym a2 rfl rfl fun τ3 n6 h6 k6=>?_
   refine GoO.nil ⟨rfl,⟨_,by rw[←a1];show predsL rest _=predsL rest (predF G ks);unfold predF;rw[if_pos hop],h6,k6 _ _ (by omega) a3⟩,⟨by omega,fun i o hi ho=>k6 i o (fun e=>hi (.inl e)) ho⟩⟩
  ·have hop:¬G.op=1:=of_decide_eq_false h
   exact GoF.skip ⟨rfl,⟨ks,by rw[←a1];show predsL rest _=predsL rest (predF G ks);unfold predF;rw[if_neg hop],a2,a3⟩,.refl⟩
 ·intro τ ⟨ks,a1,a2,a3⟩ hτ hd hold
  have a1:ks=predsN F:=a1
  subst a1
  refine⟨rfl,rfl,?_⟩
  refine GoF.seq (GoF.region ?_)
  refine GoO.ld (v:=.m (some (k+1))) a3 rfl rfl rfl rfl ?_
  refine GoO.callG rfl rfl rfl (hs.2 hn12 τ a2) fun r τ2 ⟨v,c,e1,b1,b2,b3,b4⟩=>⟨_,e1,?_⟩
  refine GoO.go rfl rfl rfl rfl ?_
  have hn:=b4.1
  have hset:=set_get (o':=AO.dead) (b4.2 _ _ hd)
  refine GoO.nil (GoF.ret ⟨rfl,b4.2 _ _ hd,v,c,rfl,b1,b2.keep fun i o hi ho=>hset.2 i o (by have:=b3 i hi;omega) ho,fun a e=>by have:=b3 a e;omega,by show σ.next≤τ2.next;omega,fun i o ho=>?_⟩)
  have:=St.get_lt ho
  exact hset.2 i o (by omega) (b4.2 i o (hold i o (by omega) (kk i o ho)))
theorem visitTerms_go{env:Env}(hv:Here env n_visitTerms c_visitTerms)(o:Bool){W:Nat→Prop}{B:Nat}(hW:∀i,W i→i<B)(I:List Tm→St→Prop)(hI:∀l σ σ',I l σ→σ.next≤σ'.next→(∀i o,σ.get i=some o→σ'.get i=some o)→I l σ')(fv:AV)
  (hy:∀t rest σ,t.few→B≤σ.next→I (t::rest) σ→GoesCall env 0 fv [t.A o] σ (fun r σ'=>r= .ok (.b true)∧I rest σ'∧Keep W σ σ')):
  ∀(d:Nat) (a:Option (List Tm)) (rest:List Tm) (σ:St),Tm.deps (a.getD [])<d→(∀t∈a.getD [],t.few)→(a.getD []).length<2^62→B≤σ.next→I (Tm.partsL (a.getD [])++rest) σ→GoesCall env 0 (.f (.func n_visitTerms) [] []) [tmsA o a,fv] σ (fun r σ'=>r= .ok (.b true)∧I rest σ'∧Keep W σ σ')
 |0,_,_,_,h,_,_,_,_=>by omega
 |d+1,a,rest,σ0,hd,hfew,hl62,hB,h0=>by
  refine GoesCall.code hv.e hv.p hv.f rfl rfl rfl rfl ?_
  refine GoF.seq (GoF.region ?_)
  refine GoO.go rfl rfl rfl rfl ?_
  refine GoO.nil (GoF.seq (GoF.seq (GoF.region ?_)))
  refine GoO.go rfl rfl rfl rfl ?_
  refine GoO.len rfl rfl rfl tmsA_len ?_
  refine GoO.go rfl rfl rfl rfl ?_
  refine GoO.nil (GoF.block ?_)
  refine GoF.loop (fun m f τ=>σ0.next≤τ.next∧Keep W σ0 τ∧∃i,i+m=(a.getD []).length∧I (Tm.partsL ((a.getD []).drop i)++rest) τ∧
   sat [(1,fv),(7,tmsA o a),(8,nI (a.getD []).length),(9,nI i)] f) ?_ (a.getD []).length ⟨Nat.le_refl _,.refl,0,by omega,by rw[List.drop_zero];exact h0,rfl,rfl,rfl,rfl,trivial⟩
  clear h0
  intro m g σ ⟨hn,K1,i,hi,hI1,hL⟩
  refine GoF.norm _ hL fun g=>?_
  clear hL
  refine GoF.seq (GoF.region ?_)
  refine GoO.bin (a:=nI i) (b:=nI (a.getD []).length) (v:=.b (decide (i<(a.getD []).length))) rfl rfl rfl rfl (bin_cmp rfl) ?_
  refine GoO.nil (GoF.seq ?_)
  refine GoF.cnd rfl (fun ht=>?_) (fun hfl=>?_)
  ·have hlt:i<(a.getD []).length:=of_decide_eq_true ht
   rw[List.drop_eq_getElem_cons hlt,Tm.partsL,Tm.parts_eq,List.cons_append,List.cons_append,List.append_assoc] at hI1
   have hidx:=tmsA_idx (o:=o) hlt
   have hGm:(a.getD [])[i]∈a.getD []:=List.getElem_mem hlt
   generalize(a.getD [])[i]=G at hI1 hidx hGm
   have hdG:Tm.deps G.args<d:=by
    have h1:=Tm.dep_mem hGm
    rw[Tm.dep_eq] at h1;omega
   refine GoF.skip (GoF.seq (GoF.block (GoF.seq (GoF.region ?_))))
   refine GoO.idx (v:=.tp o (G.A o)) rfl rfl rfl rfl hidx ?_
   refine GoO.ldt rfl rfl rfl (Tm.conf o G) ?_
   refine GoO.var (v:=G.A o) (c:=G.cells o) σ.next rfl rfl rfl rfl (Tm.conf o G) rfl (Tm.len o G) fun τ hn2 h4 k2=>?_
   have hWk:¬W σ.next:=fun h=>by have:=hW _ h;omega
   have K2:=K1.trans (.of (W:=W) (by omega) k2)
   have hI2:=hI _ _ _ hI1 (by omega) k2
   refine GoO.nil (GoF.seq (GoF.region ?_))
   refine GoO.go rfl rfl rfl rfl ?_
   refine GoO.ld h4 rfl rfl rfl (Tm.ld o G) ?_
   refine GoO.callG rfl rfl rfl (hy G _ τ (hfew G hGm) (by omega) hI2) fun r τ2 ⟨e1,hI3,K3⟩=>⟨_,e1,?_⟩
   have h4':=K3.keep _ _ hWk h4
   have hn3:=K3.next
   refine sO ?_
   refine GoO.ld h4' rfl rfl rfl (Tm.ldA o G) ?_
   refine sO ?_
   refine GoO.callG rfl rfl rfl (visitTerms_go hv o hW I hI fv hy d G.oargs _ τ2 hdG (hfew G hGm).arg (hfew G hGm).len (by omega) hI3) fun r τ3 ⟨e1,hI4,K4⟩=>⟨_,e1,?_⟩
   have hn4:=K4.next
   refine sO ?_
   refine GoF.cnd rfl (fun h=>by cases h) (fun _=>GoF.skip ?_)
   refine GoF.region ?_
   refine GoO.bin (a:=nI i) (b:=nI 1) rfl rfl rfl rfl (bin_add (by omega)) ?_
   refine GoO.go rfl rfl rfl rfl ?_
   exact GoO.nil ⟨m-1,by omega,by omega,(K2.trans K3).trans K4,i+1,by omega,hI4,rfl,rfl,rfl,rfl,trivial⟩
  ·have hge:¬i<(a.getD []).length:=of_decide_eq_false hfl
   obtain rfl:i=(a.getD []).length:=by omega
   rw[List.drop_length] at hI1
   refine GoF.exit ?_
   refine GoF.seq (GoF.region ?_)
   refine GoO.go rfl rfl rfl rfl ?_
   exact GoO.nil (GoF.ret ⟨rfl,rfl,hI1,K1⟩)
end
end Go.Lyc
end
noncomputable section
namespace Go.Lyc
variable [Tok][TokOk]
open Go.RowKit Go.Lyc.T
section
variable {b:Base}{K:Nat→List AV→AV→Prop}{N:Nat}(hf:∀g ar r r',K g ar r→K g ar r'→r=r')
theorem Functions1_go(hh:Here (b.envK K) n_Functions1 c_Functions1)(t:Tm){mid bx:Nat}{ks:List Sy}(σ:St)(hm:σ.get mid=some (.map (setE symA 0 ks) ks.length))(hbx:σ.get bx=some (.cells [.m (some mid)])):
  GoesCall (b.envK K) 0 (.f (.func n_Functions1) [] [.p (some (bx,0))]) [t.A true] σ (fun r σ'=>r= .ok (.b true)∧σ'.get mid=some (.map (setE symA 0 (funT t ks)) (funT t ks).length)∧Keep (fun i=>i=mid) σ σ'):=by
 refine GoesCall.code hh.e hh.p hh.f rfl rfl rfl rfl ?_
 have hlt:=St.get_lt hm
 have hltb:=St.get_lt hbx
 refine GoF.seq (GoF.region (GoO.box (v:=t.A true) (c:=t.cells true) σ.next rfl rfl rfl rfl rfl rfl fun τ hn h1 k1=>?_))
 refine GoO.go rfl rfl rfl rfl ?_
 replace hm:=k1 _ _ hm
 replace hbx:=k1 _ _ hbx
 refine GoO.nil (GoF.seq (GoF.seq (GoF.region ?_)))
 refine GoO.go rfl rfl rfl rfl ?_
 refine GoO.ld h1 rfl rfl rfl (Tm.ldV true t) ?_
 refine GoO.go rfl rfl rfl rfl ?_
 have fin:∀ {f:Nat→AV} {τ2:St},τ2.get mid=some (.map (setE symA 0 (funT t ks)) (funT t ks).length)→τ2.next=τ.next→(∀i o,i≠mid→τ.get i=some o→τ2.get i=some o)→GoF (b.envK K) 14 (.seq (.region [⟨(some 3),.mv (.c (.b true)),none,[]⟩]) .ret) f τ2 (fun x f' σ'=>x= .ret∧Ret.ok (f' 3)= .ok (.b true)∧σ'.get mid=some (.map (setE symA 0 (funT t ks)) (funT t ks).length)∧Keep (fun i=>i=mid) σ σ'):=by
  intro f τ2 g1 g2 g3
  refine GoF.seq (GoF.region ?_)
  refine GoO.go rfl rfl rfl rfl ?_
  exact GoO.nil (GoF.ret ⟨rfl,rfl,g1,by omega,fun i o hi ho=>g3 i o hi (k1 i o ho)⟩)
 refine GoO.nil (GoF.cnd (t:=!t.var) rfl (fun h=>?_) (fun h=>?_))
 ·have hv:t.var=false:=by cases hv:t.var with|false=>rfl|true=>rw[hv] at h;cases h
  refine GoF.region ?_
  refine GoO.ld (v:=.m (some mid)) hbx rfl rfl rfl rfl ?_
  refine GoO.go rfl rfl rfl rfl ?_
  refine GoO.ld h1 rfl rfl rfl (Tm.ldN true t) ?_
  refine GoO.go rfl rfl rfl rfl ?_
  refine GoO.ld h1 rfl rfl rfl (Tm.ldA true t) ?_
  refine GoO.len rfl rfl rfl tmsA_len ?_
  refine GoO.go (v:=symA (t.name,t.args.length)) rfl rfl rfl rfl ?_
  refine GoO.mapUpdS (ka:=symA) (k:=(t.name,t.args.length)) keyEq_sym hm rfl rfl fun τ3 n6 h6 k6=>?_
  exact GoO.nil (fin (by unfold funT;rw[if_pos hv];exact h6) n6 k6)
 ·have hv:¬t.var=false:=fun hv=>by rw[hv] at h;cases h
  exact GoF.skip (fin (by unfold funT;rw[if_neg hv];exact hm) rfl fun i o _ h=>h)
include hf in
theorem Functions_go(hs:SrtG b K N)(hh:Here (b.envK K) n_Functions c_Functions)(h1f:Here (b.envK K) n_Functions1 c_Functions1)(hvt:Here (b.envK K) n_visitTerms c_visitTerms)(hv:Here (b.envK K) n_visit c_visit)(hw1:Here (b.envK K) n_walk1 c_walk1)(hw:Here (b.envK K) n_walk c_walk)(F:Fm)(hF:F.few)(hn12:(funsN F).length≤N)(σ:St):
  GoesCall (b.envK K) 0 (.f (.func n_Functions) [] []) [F.A true] σ (fun r σ'=>∃(v:AV) (c:List Sy),r= .ok v∧c.Perm (funsN F)∧Acc σ' (some 2) v (c.map symA)∧(∀a,v.at? =some a→σ.next≤a)∧More σ σ'):=by
 generalize hk:σ.next=k
 refine GoesCall.codeX (d:=k+4) hh.e hh.p hh.f rfl rfl rfl rfl ?_
 refine GoX.seqA (GoF.region (GoO.box (v:=F.A true) (c:=F.cells true) k hk rfl rfl rfl rfl rfl fun σ1 hn1 h1 k1=>?_))
 refine sO ?_
 refine⟨rfl,GoX.seqA (GoF.region (GoO.mkMap (k+1) hn1 rfl fun σ2 hn2 h2 k2=>?_))⟩
 refine GoO.var (v:=.m (some (k+1))) (c:=[.m (some (k+1))]) (k+2) hn2 rfl rfl rfl rfl rfl rfl fun σ3 hn3 h3 k3=>?_
 replace h1:=k3 _ _ (k2 _ _ h1)
 replace h2:=k3 _ _ h2
 refine GoO.nil ⟨rfl,GoX.seqB (GoX.seqA (GoF.region ?_))⟩
 refine GoO.ld h1 rfl rfl rfl (Fm.ld true F) ?_
 refine GoO.callG rfl rfl rfl (walkG hw true F σ3 (k+3) hn3) fun r σ4 ⟨e1,hn4,h4,k4⟩=>⟨_,e1,?_⟩
 replace h1:=k4 _ _ h1
 replace h2:=k4 _ _ h2
 replace h3:=k4 _ _ h3
 have kk:∀i o,σ.get i=some o→σ4.get i=some o:=fun i o ho=>k4 i o (k3 i o (k2 i o (k1 i o ho)))
 refine GoO.nil ⟨rfl,GoX.block ?_⟩
 refine GoX.walk hv hw1 true (fun i=>i=k+1∨i=k+2) (fun l τ=>∃ks,funsL l ks=funsN F∧τ.get (k+1)=some (.map (setE symA 0 ks) ks.length)∧τ.get (k+2)=some (.cells [.m (some (k+1))])) (k+4) hn4 rfl rfl hF h4 (fun i hi=>by omega) (fun l τ τ' ⟨ks,a1,a2,a3⟩ hk=>⟨ks,a1,hk _ _ (.inl rfl) a2,hk _ _ (.inr rfl) a3⟩) ⟨[],rfl,h2,h3⟩ ?_ ?_
 ·intro G rest τ hG hτ ⟨ks,a1,a2,a3⟩
  refine GoF.region ?_
  refine GoO.var (v:=G.A true) (c:=G.cells true) τ.next rfl rfl rfl rfl (Fm.conf true G) rfl (Fm.len true G) fun τ1 hn4 h4 k4=>?_
  refine GoO.nil ⟨rfl,.of (by omega) k4,fun τ2 hn5 k5=>?_⟩
  replace h4:=k5 _ _ (by omega) h4
  replace a2:=k5 _ _ (by omega) (k4 _ _ a2)
  replace a3:=k5 _ _ (by omega) (k4 _ _ a3)
  refine GoF.block (GoF.region ?_)
  refine sO ?_
  refine GoO.ld h4 rfl rfl rfl (Fm.ldA true G) ?_
  refine GoO.go rfl rfl rfl rfl ?_
  refine GoO.callG rfl rfl rfl (visitTerms_go hvt true (W:=fun i=>i=k+1) (B:=k+2) (fun i hi=>by omega) (fun l τ=>∃ks',funsT l ks'=funsT (Tm.partsL G.args) ks∧τ.get (k+1)=some (.map (setE symA 0 ks') ks'.length)∧τ.get (k+2)=some (.cells [.m (some (k+1))]))
   (fun l τ τ' ⟨ks',b1,b2,b3⟩ _ hk=>⟨ks',b1,hk _ _ b2,hk _ _ b3⟩) (.f (.func n_Functions1) [] [.p (some (k+2,0))]) ?_ (Tm.deps G.args+1) G.oargs [] τ2 (by show Tm.deps G.args<_;omega) hG.arg hG.alen (by omega) ⟨ks,by rw[List.append_nil];rfl,a2,a3⟩) fun r τ3 ⟨e1,⟨ks',b1,b2,b3⟩,K3⟩=>⟨_,e1,?_⟩
  ·rintro t rest' τ ht hB ⟨ks',b1,b2,b3⟩
   refine(Functions1_go h1f t τ b2 b3).mono fun r τ' ⟨e1,c2,K⟩=>⟨e1,⟨_,b1,c2,K.keep _ _ (by omega) b3⟩,K⟩
  ·have b1:ks'=funsT (Tm.partsL G.args) ks:=b1
   subst b1
   exact GoO.nil ⟨rfl,⟨_,a1,b2,b3⟩,K3.next,fun i o hi ho=>K3.keep i o (fun e=>hi (.inl e)) ho⟩
 ·intro τ ⟨ks,a1,a2,a3⟩ hτ hd hold
  have a1:ks=funsN F:=a1
  subst a1
  refine⟨rfl,rfl,?_⟩
  refine GoF.seq (GoF.region ?_)
  refine GoO.ld (v:=.m (some (k+1))) a3 rfl rfl rfl rfl ?_
  refine GoO.callG rfl rfl rfl (hs.2 hn12 τ a2) fun r τ2 ⟨v,c,e1,b1,b2,b3,b4⟩=>⟨_,e1,?_⟩
  refine GoO.go rfl rfl rfl rfl ?_
  have hn:=b4.1
  have hset:=set_get (o':=AO.dead) (b4.2 _ _ hd)
  refine GoO.nil (GoF.ret ⟨rfl,b4.2 _ _ hd,v,c,rfl,b1,b2.keep fun i o hi ho=>hset.2 i o (by have:=b3 i hi;omega) ho,fun a e=>by have:=b3 a e;omega,by show σ.next≤τ2.next;omega,fun i o ho=>?_⟩)
  have:=St.get_lt ho
  exact hset.2 i o (by omega) (b4.2 i o (hold i o (by omega) (kk i o ho)))
def atomsOf(kind:Nat):Nat:=if kind=2 then 2 else 0
def funsOf(kind:Nat):Nat:=if kind=2 then 1 else 0
def allLe(n:Nat)(l:List Sy):Bool:=l.all fun s=>decide (s.2≤n)
def argsB(kind:Nat)(F:Fm):Bool:=allLe (atomsOf kind) (predsN F)&&allLe (funsOf kind) (funsN F)
theorem allLe_perm{n:Nat}{l m:List Sy}(h:l.Perm m):allLe n l=allLe n m:=by
 unfold allLe
 rw[Bool.eq_iff_iff,List.all_eq_true,List.all_eq_true]
 exact⟨fun hl x hx=>hl x (h.mem_iff.2 hx),fun hl x hx=>hl x (h.mem_iff.1 hx)⟩
theorem allLe_take{n:Nat}{l:List Sy}{i:Nat}(hi:i<l.length)(h:allLe n (l.take i)=true):(l[i].2≤n→allLe n (l.take (i+1))=true)∧(¬l[i].2≤n→allLe n l=false):=by
 refine⟨fun h2=>?_,fun h2=>?_⟩
 ·rw[List.take_succ_eq_append_getElem hi]
  unfold allLe at *
  rw[List.all_append,h,Bool.true_and,List.all_cons,decide_eq_true h2];rfl
 ·unfold allLe
  cases hb:l.all (fun s=>decide (s.2≤n)) with
  |false=>rfl
  |true=>exact absurd (of_decide_eq_true (List.all_eq_true.1 hb _ (List.getElem_mem hi))) h2
include hf in
theorem argsAllowed_go(hs:SrtG b K N)(hp:Here (b.envK K) n_Predicates c_Predicates)(hh:Here (b.envK K) n_Functions c_Functions)(h1f:Here (b.envK K) n_Functions1 c_Functions1)(hvt:Here (b.envK K) n_visitTerms c_visitTerms)(hv:Here (b.envK K) n_visit c_visit)(hw1:Here (b.envK K) n_walk1 c_walk1)(hw:Here (b.envK K) n_walk c_walk)
  (kind:Nat) (F:Fm) (hF:F.few) (hp12:(predsN F).length≤N) (hn12:(funsN F).length≤N) (body:ACode) (hb:c_argsAllowed.body=some body):GoF (b.envK K) 37 body (argF [.i .u8 (Int.ofNat kind),F.A true]) ⟨.nil,0⟩ (Done 4 (.b (argsB kind F))):=by
 cases hb
 refine GoF.seq (GoF.region (GoO.box (v:=F.A true) (c:=F.cells true) 0 rfl rfl rfl rfl rfl rfl fun σ1 hn1 h1 k1=>?_))
 refine GoO.go rfl rfl rfl rfl ?_
 refine GoO.nil (GoF.seq (GoF.region ?_))
 refine GoO.go rfl rfl rfl rfl ?_
 refine GoO.go rfl rfl rfl rfl ?_
 refine GoO.nil (GoF.seq ?_)
 refine GoF.seq (GoF.region ?_)
 refine GoO.go rfl rfl rfl rfl ?_
 refine GoO.bin (a:=.i .u8 (Int.ofNat kind)) (b:=.i .u8 (Int.ofNat 2)) (v:=.b (decide (kind=2))) rfl rfl rfl rfl (bin_cmp rfl) ?_
 refine GoO.nil ?_
 suffices hrest:∀g,GoF (b.envK K) 37 _ (upds [(3,.p (some (0,0))),(5,nI (atomsOf kind)),(6,nI (funsOf kind))] g) σ1 (Done 4 (.b (argsB kind F))) by
  refine GoF.cnd rfl (fun h=>?_) (fun h=>?_)
  ·have hk:kind=2:=of_decide_eq_true h
   refine GoF.region ?_
   refine GoO.go rfl rfl rfl rfl ?_
   refine GoO.go rfl rfl rfl rfl ?_
   refine GoO.nil (GoF.norm [(3,.p (some (0,0))),(5,nI (atomsOf kind)),(6,nI (funsOf kind))] ⟨rfl,?_,?_,trivial⟩ hrest)
   ·unfold atomsOf;rw[if_pos hk];rfl
   ·unfold funsOf;rw[if_pos hk];rfl
  ·have hk:¬kind=2:=of_decide_eq_false h
   refine GoF.skip (GoF.norm [(3,.p (some (0,0))),(5,nI (atomsOf kind)),(6,nI (funsOf kind))] ⟨rfl,?_,?_,trivial⟩ hrest)
   ·unfold atomsOf;rw[if_neg hk];rfl
   ·unfold funsOf;rw[if_neg hk];rfl
 intro g
 generalize hat:atomsOf kind=na
 generalize hfu:funsOf kind=nf
 refine GoF.seq (GoF.seq (GoF.region ?_))
 refine GoO.ld h1 rfl rfl rfl (Fm.ld true F) ?_
 refine GoO.callG rfl rfl rfl (Predicates_go hf hs hp hv hw1 hw F hF hp12 σ1) fun r σ2 ⟨v,c,e1,b1,b2,b3,b4⟩=>⟨_,e1,?_⟩
 refine GoO.len (m:=c.length) rfl rfl rfl (by have:=b2.len (τ:=σ2);rwa[List.length_map] at this) ?_
 refine GoO.go rfl rfl rfl rfl ?_
 refine GoO.nil (GoF.block ?_)
 have hc12:c.length≤60000:=by have:=b1.length_eq;have:=hs.1;omega
 have hall:allLe na c=allLe na (predsN F):=allLe_perm b1
 refine GoF.loop (fun m f τ=>∃i,i+m=c.length∧allLe na (c.take i)=true∧Acc τ (some 2) v (c.map symA)∧(∀a,v.at? =some a→σ1.next≤a)∧σ1.next≤τ.next∧τ.get 0=some (.cells (F.cells true))∧
  sat [(3,.p (some (0,0))),(5,nI na),(6,nI nf),(14,v),(15,nI c.length),(16,nI i)] f) ?_ c.length ⟨0,by omega,rfl,b2,b3,b4.1,b4.2 _ _ h1,rfl,rfl,rfl,rfl,rfl,rfl,trivial⟩
 clear b1 b2 b3 b4 h1 hn1 k1
 intro m g τ ⟨i,hi,hle,hA,hat',hn,h1,hL⟩
 refine GoF.norm _ hL fun g=>?_
 clear hL
 refine GoF.seq (GoF.region ?_)
 refine GoO.bin (a:=nI i) (b:=nI c.length) (v:=.b (decide (i<c.length))) rfl rfl rfl rfl (bin_cmp rfl) ?_
 refine GoO.nil (GoF.seq ?_)
 refine GoF.cnd rfl (fun ht=>?_) (fun hfl=>?_)
 ·have hlt:i<c.length:=of_decide_eq_true ht
  obtain⟨o,hvo,ho,hcf⟩:=hA.inv (by rw[List.length_map];omega)
  rw[List.length_map] at hvo
  subst hvo
  refine GoF.skip (GoF.seq (GoF.block (GoF.seq (GoF.region ?_))))
  have e1:takeSh (some 2) (((c.map symA).flatMap AV.cells).drop (0+i*shN (some 2)))=some (symA c[i]):=by
   rw[take_elem (by rw[List.length_map];omega) hcf,List.getElem_map]
  refine GoO.idx (j:=i) rfl rfl rfl rfl (idxSlA_sl hlt) ?_
  refine GoO.ld (v:=symA c[i]) ho rfl rfl rfl e1 ?_
  refine GoO.var (v:=symA c[i]) (c:=[.s c[i].1,nI c[i].2]) τ.next rfl rfl rfl rfl rfl rfl rfl fun τ2 hn2 h4 k2=>?_
  refine GoO.nil (GoF.seq (GoF.region ?_))
  refine GoO.go rfl rfl rfl rfl ?_
  refine GoO.ld (v:=nI c[i].2) h4 rfl rfl rfl rfl ?_
  refine GoO.go rfl rfl rfl rfl ?_
  refine GoO.bin (a:=nI c[i].2) (b:=nI na) (v:=.b (decide (na<c[i].2))) rfl rfl rfl rfl (bin_cmp rfl) ?_
  refine GoO.nil (GoF.cnd rfl (fun h=>?_) (fun h=>?_))
  ·have hgt:na<c[i].2:=of_decide_eq_true h
   refine GoF.seq (GoF.region ?_)
   refine GoO.go rfl rfl rfl rfl ?_
   refine GoO.nil (GoF.ret ⟨rfl,?_⟩)
   have:=(allLe_take hlt hle).2 (by omega)
   show some (AV.b false)=_
   unfold argsB
   rw[hat,← hall,this];rfl
  ·have hng:¬na<c[i].2:=of_decide_eq_false h
   refine GoF.skip (GoF.region ?_)
   refine GoO.bin (a:=nI i) (b:=nI 1) rfl rfl rfl rfl (bin_add (by omega)) ?_
   refine GoO.go rfl rfl rfl rfl ?_
   exact GoO.nil ⟨m-1,by omega,i+1,by omega,(allLe_take hlt hle).1 (by omega),hA.keep fun i o _ ho=>k2 i o ho,hat',by omega,k2 _ _ h1,rfl,rfl,rfl,rfl,rfl,rfl,trivial⟩
 ·have hge:¬i<c.length:=of_decide_eq_false hfl
  obtain rfl:i=c.length:=by omega
  rw[List.take_length,hall] at hle
  refine GoF.exit ?_
  clear hA hat' hall hc12 hn
  have ea:argsB kind F=allLe nf (funsN F):=by unfold argsB;rw[hat,hfu,hle];rfl
  rw[ea]
  refine GoF.seq (GoF.seq (GoF.region ?_))
  refine GoO.ld h1 rfl rfl rfl (Fm.ld true F) ?_
  refine GoO.callG rfl rfl rfl (Functions_go hf hs hh h1f hvt hv hw1 hw F hF hn12 τ) fun r σ2 ⟨v,c,e1,b1,b2,b3,b4⟩=>⟨_,e1,?_⟩
  refine GoO.len (m:=c.length) rfl rfl rfl (by have:=b2.len (τ:=σ2);rwa[List.length_map] at this) ?_
  refine GoO.go rfl rfl rfl rfl ?_
  refine GoO.nil (GoF.block ?_)
  have hc12:c.length≤60000:=by have:=b1.length_eq;have:=hs.1;omega
  have hall:allLe nf c=allLe nf (funsN F):=allLe_perm b1
  refine GoF.loop (fun m f τ=>∃i,i+m=c.length∧allLe nf (c.take i)=true∧Acc τ (some 2) v (c.map symA)∧
   sat [(6,nI nf),(26,v),(27,nI c.length),(28,nI i)] f) ?_ c.length ⟨0,by omega,rfl,b2,rfl,rfl,rfl,rfl,trivial⟩
  clear b1 b2 b3 b4 h1
  intro m g τ ⟨i,hi,hle,hA,hL⟩
  refine GoF.norm _ hL fun g=>?_
  clear hL
  refine GoF.seq (GoF.region ?_)
  refine GoO.bin (a:=nI i) (b:=nI c.length) (v:=.b (decide (i<c.length))) rfl rfl rfl rfl (bin_cmp rfl) ?_
  refine GoO.nil (GoF.seq ?_)
  refine GoF.cnd rfl (fun ht=>?_) (fun hfl=>?_)
  ·have hlt:i<c.length:=of_decide_eq_true ht
   obtain⟨o,hvo,ho,hcf⟩:=hA.inv (by rw[List.length_map];omega)
   rw[List.length_map] at hvo
   subst hvo
   refine GoF.skip (GoF.seq (GoF.block (GoF.seq (GoF.region ?_))))
   have e1:takeSh (some 2) (((c.map symA).flatMap AV.cells).drop (0+i*shN (some 2)))=some (symA c[i]):=by
    rw[take_elem (by rw[List.length_map];omega) hcf,List.getElem_map]
   refine GoO.idx (j:=i) rfl rfl rfl rfl (idxSlA_sl hlt) ?_
   refine GoO.ld (v:=symA c[i]) ho rfl rfl rfl e1 ?_
   refine GoO.var (v:=symA c[i]) (c:=[.s c[i].1,nI c[i].2]) τ.next rfl rfl rfl rfl rfl rfl rfl fun τ2 hn2 h4 k2=>?_
   refine GoO.nil (GoF.seq (GoF.region ?_))
   refine GoO.go rfl rfl rfl rfl ?_
   refine GoO.ld (v:=nI c[i].2) h4 rfl rfl rfl rfl ?_
   refine GoO.go rfl rfl rfl rfl ?_
   refine GoO.bin (a:=nI c[i].2) (b:=nI nf) (v:=.b (decide (nf<c[i].2))) rfl rfl rfl rfl (bin_cmp rfl) ?_
   refine GoO.nil (GoF.cnd rfl (fun h=>?_) (fun h=>?_))
   ·have hgt:nf<c[i].2:=of_decide_eq_true h
    refine GoF.seq (GoF.region ?_)
    refine GoO.go rfl rfl rfl rfl ?_
    refine GoO.nil (GoF.ret ⟨rfl,?_⟩)
    have:=(allLe_take hlt hle).2 (by omega)
    show some (AV.b false)=_
    rw[←hall,this]
   ·have hng:¬nf<c[i].2:=of_decide_eq_false h
    refine GoF.skip (GoF.region ?_)
    refine GoO.bin (a:=nI i) (b:=nI 1) rfl rfl rfl rfl (bin_add (by omega)) ?_
    refine GoO.go rfl rfl rfl rfl ?_
    exact GoO.nil ⟨m-1,by omega,i+1,by omega,(allLe_take hlt hle).1 (by omega),hA.keep fun i o _ ho=>k2 i o ho,rfl,rfl,rfl,rfl,trivial⟩
  ·have hge:¬i<c.length:=of_decide_eq_false hfl
   obtain rfl:i=c.length:=by omega
   rw[List.take_length,hall] at hle
   refine GoF.exit ?_
   refine GoF.seq (GoF.region ?_)
   refine GoO.go rfl rfl rfl rfl ?_
   refine GoO.nil (GoF.ret ⟨rfl,?_⟩)
   show some (AV.b true)=_
   rw[hle]
end
end Go.Lyc
end
noncomputable section
namespace Go.Lyc
variable [Tok][TokOk]
open Go.RowKit Go.Lyc.T
abbrev sub_(a b:Nat):Prop:=a &&& b=a
theorem andN_zero{a b:Nat}:andN a b=0↔sub_ a b:=by
 unfold andN
 constructor
 ·intro h
  have:=congrArg (fun x=>x ^^^ (a &&& b)) h
  simp only[Nat.xor_assoc,Nat.xor_self,Nat.xor_zero,Nat.zero_xor] at this
  exact this.symm
 ·intro h
  have h:a &&& b=a:=h
  rw[h,Nat.xor_self]
theorem bin_andNot32{a b:Nat}(ha:a<2^32)(hb:b<2^32):binop .andNot (.i .u32 (Int.ofNat a)) (.i .u32 (Int.ofNat b))=some (.i .u32 (Int.ofNat (andN a b))):=by
 have h:(BitVec.ofInt IntKind.u32.bits (Int.ofNat a) &&& ~~~ BitVec.ofInt IntKind.u32.bits (Int.ofNat b)).toNat=andN a b:=by
  have e:∀x y:BitVec IntKind.u32.bits,x &&& ~~~ y=x ^^^ (x &&& y):=fun x y=>by ext i;simp;cases x[i]<;>cases y[i]<;>rfl
  rw[e,BitVec.toNat_xor,BitVec.toNat_and,ofInt32 a ha,ofInt32 b hb];rfl
 show some (AV.i .u32 (IntKind.wrap .u32 ((BitVec.ofInt IntKind.u32.bits (Int.ofNat a) &&& ~~~ BitVec.ofInt IntKind.u32.bits (Int.ofNat b)).toNat:Int)))=_
 rw[h,wrap32 (andN_le a b ha)];rfl
def oneB(ops kind:Nat)(F:Fm):Bool:=rightB F&&(decide (andN (opsN F) ops=0)&&argsB kind F)
end Go.Lyc
end
noncomputable section
namespace Go.Lyc
variable [Tok][TokOk]
open Go.RowKit Go.Lyc.T
structure Lg where
 nm:List Nat
 ops:Nat
 kind:Nat
 fr:Nat
 ru:List AV
 rs:List AV
def Lg.cells(o:Bool)(l:Lg):List AV:=[.s l.nm,.i .u32 (Int.ofNat l.ops),.i .u8 (Int.ofNat l.kind),.i .u8 (Int.ofNat l.fr),.tl o (some 6) (cond o l.rs l.ru)]
def Lg.A(o:Bool)(l:Lg):AV:=.ag (l.cells o)
section
variable {b:Base}{K:Nat→List AV→AV→Prop}(hf:∀g ar r r',K g ar r→K g ar r'→r=r')
include hf in
theorem one_go(F:Fm)(h400:2*F.dep≤b.fz+800)(hR:K n_Right [F.A true] (.b (rightB F)))(eR:b.ext n_Right=0∧b.pure n_Right=true)(hO:K n_Ops [F.A true] (.i .u32 (Int.ofNat (opsN F))))(eO:b.ext n_Ops=0∧b.pure n_Ops=true)
  (l:Lg) (hl:l.ops<2^32) (hA:rightB F=true→K n_argsAllowed [.i .u8 (Int.ofNat l.kind),F.A true] (.b (argsB l.kind F))) (eA:b.ext n_argsAllowed=0∧b.pure n_argsAllowed=true) (body:ACode) (hb:c_one.body=some body):GoF (b.envK K) 21 body (argF [l.A true,F.A true]) ⟨.nil,0⟩ (Done 4 (.b (oneB l.ops l.kind F))):=by
 cases hb
 have hsn:∀σ,snapshot σ (b.fz+1000) (F.A true)=some (F.A true):=fun σ=>Fm.snap σ true F.dep F (b.fz+1000) (Nat.le_refl _) (by omega)
 refine GoF.seq (GoF.region (GoO.box (v:=l.A true) (c:=l.cells true) 0 rfl rfl rfl rfl rfl rfl fun σ1 hn1 h1 k1=>?_))
 refine GoO.box (v:=F.A true) (c:=F.cells true) 1 hn1 rfl rfl rfl rfl rfl fun σ2 hn2 h2 k2=>?_
 replace h1:=k2 _ _ h1
 refine GoO.go rfl rfl rfl rfl ?_
 refine GoO.nil (GoF.seq (GoF.draw rfl rfl ?_))
 refine GoP.ld h2 rfl rfl rfl (Fm.ld true F) ?_
 refine GoP.known hf eR.1 eR.2 hR rfl rfl rfl (snaps1 (hsn _)) ?_
 unfold oneB
 cases hr:rightB F with
 |false=>
  refine sP ?_
  exact GoF.ret ⟨rfl,rfl⟩
 |true=>
  refine GoP.go rfl rfl rfl rfl ?_
  refine GoP.ld h2 rfl rfl rfl (Fm.ld true F) ?_
  refine GoP.go rfl rfl rfl rfl ?_
  refine GoP.ldw (v:=.i .u32 (Int.ofNat l.ops)) h1 rfl rfl rfl rfl (Snp.eqb (b.fz+1000) _ (Snp.i (b.fz+999) _ _)) ?_
  refine GoP.known hf eO.1 eO.2 hO rfl rfl rfl (snaps1 (hsn _)) ?_
  refine GoP.bin (a:=.i .u32 (Int.ofNat (opsN F))) (b:=.i .u32 (Int.ofNat l.ops)) rfl rfl rfl rfl (bin_andNot32 (opsL_lt (Nat.two_pow_pos _)) hl) ?_
  refine GoP.bin (a:=.i .u32 (Int.ofNat (andN (opsN F) l.ops))) (b:=.i .u32 (Int.ofNat 0)) (v:=.b (decide (andN (opsN F) l.ops=0))) rfl rfl rfl rfl (bin_cmp rfl) ?_
  refine GoP.go rfl rfl rfl rfl ?_
  by_cases ho:andN (opsN F) l.ops=0
  ·rw[show decide (andN (opsN F) l.ops=0)=true from decide_eq_true ho]
   refine GoP.go rfl rfl rfl rfl ?_
   refine GoP.go rfl rfl rfl rfl ?_
   refine GoP.ld (v:=.i .u8 (Int.ofNat l.kind)) h1 rfl rfl rfl rfl ?_
   refine GoP.ld h2 rfl rfl rfl (Fm.ld true F) ?_
   refine GoP.known hf eA.1 eA.2 (hA hr) rfl rfl rfl (snaps2 rfl (hsn _)) ?_
   refine sP ?_
   exact GoF.ret ⟨rfl,rfl⟩
  ·rw[show decide (andN (opsN F) l.ops=0)=false from decide_eq_false ho]
   refine sP ?_
   exact GoF.ret ⟨rfl,rfl⟩
include hf in
theorem Allowed_go(F:Fm)(h400:2*F.dep≤b.fz+800)(l:Lg)(hls:∀σ,snapshot σ (b.fz+1000) (l.A true)=some (l.A true))(hL:K n_LRight [l.A true] (.b true))(eL:b.ext n_LRight=0∧b.pure n_LRight=true)(h1:K n_one [l.A true,F.A true] (.b (oneB l.ops l.kind F)))(e1:b.ext n_one=0∧b.pure n_one=true)
  (body:ACode) (hb:c_Allowed.body=some body):GoF (b.envK K) 12 body (argF [l.A true,F.A true]) ⟨.nil,0⟩ (Done 4 (.b (oneB l.ops l.kind F))):=by
 cases hb
 have hsn:∀σ,snapshot σ (b.fz+1000) (F.A true)=some (F.A true):=fun σ=>Fm.snap σ true F.dep F (b.fz+1000) (Nat.le_refl _) (by omega)
 refine GoF.seq (GoF.region (GoO.box (v:=l.A true) (c:=l.cells true) 0 rfl rfl rfl rfl rfl rfl fun σ1 hn1 g1 k1=>?_))
 refine GoO.box (v:=F.A true) (c:=F.cells true) 1 hn1 rfl rfl rfl rfl rfl fun σ2 hn2 g2 k2=>?_
 replace g1:=k2 _ _ g1
 refine GoO.go rfl rfl rfl rfl ?_
 refine GoO.nil (GoF.seq (GoF.region ?_))
 refine GoO.ld (v:=l.A true) g1 rfl rfl rfl rfl ?_
 refine GoO.known hf eL.1 eL.2 hL rfl rfl rfl (snaps1 (hls _)) ?_
 refine GoO.go rfl rfl rfl rfl ?_
 refine GoO.ld (v:=l.A true) g1 rfl rfl rfl rfl ?_
 refine GoO.ld g2 rfl rfl rfl (Fm.ld true F) ?_
 refine GoO.known hf e1.1 e1.2 h1 rfl rfl rfl (snaps2 (hls _) (hsn _)) ?_
 refine sO ?_
 exact GoF.ret ⟨rfl,rfl⟩
end
end Go.Lyc
end
noncomputable section
namespace Go.Lyc
variable [Tok][TokOk]
open Go.RowKit Go.Lyc.T
theorem nodeJ_cnt{deep depth L L':Nat}(h:nodeJ deep depth L=some L'):L'+1=L:=by
 cases L with
 |zero=>cases h
 |succ L=>
  have h:(if depth≤deep then some L else none)=some L':=h
  split at h
  ·injection h with h;omega
  ·cases h
mutual
theorem termJ_cnt{sch:Bool}{deep:Nat}:∀(t:Tm) {depth L L':Nat},termJ sch deep t depth L=some L'→t.parts.length+L'≤L
 | .mk v n none,depth,L,L',h=>by
  rw[termJ] at h
  rw[Tm.parts]
  cases hn:nodeJ deep depth L with
  |none=>rw[hn] at h;cases h
  |some M=>
   have:=nodeJ_cnt hn
   rw[hn] at h
   have:M=L':=by
    simp only[] at h
    split at h<;>split at h<;>first|(injection h)|cases h
   simp;omega
 | .mk v n (some l),depth,L,L',h=>by
  rw[termJ] at h
  rw[Tm.parts]
  cases hn:nodeJ deep depth L with
  |none=>rw[hn] at h;cases h
  |some M=>
   have h1:=nodeJ_cnt hn
   rw[hn] at h
   simp only[] at h
   split at h
   ·split at h
    ·rename_i hl
     injection h with h
     have:l=[]:=List.eq_nil_of_length_eq_zero hl.1
     subst this
     rw[Tm.partsL];simp;omega
    ·cases h
   ·split at h
    ·have:=termsJ_cnt l h
     simp;omega
    ·cases h
theorem termsJ_cnt{sch:Bool}{deep:Nat}:∀(l:List Tm) {depth L L':Nat},termsJ sch deep l depth L=some L'→(Tm.partsL l).length+L'≤L
 |[],depth,L,L',h=>by rw[termsJ] at h;injection h with h;rw[Tm.partsL];simp;omega
 |t::l,depth,L,L',h=>by
  rw[termsJ] at h
  rw[Tm.partsL,List.length_append]
  cases ht:termJ sch deep t depth L with
  |none=>rw[ht] at h;cases h
  |some M=>
   rw[ht] at h
   have h1:=termJ_cnt t ht
   have h2:=termsJ_cnt l h
   omega
end
def argsP(l:List Fm):Nat:=(l.map fun f=>(Tm.partsL f.args).length).sum
theorem argsP_app(l m:List Fm):argsP (l++m)=argsP l+argsP m:=by simp[argsP]
mutual
theorem formJ_cnt{sch:Bool}{deep:Nat}:∀(f:Fm) {depth L L':Nat},formJ sch deep f depth L=some L'→f.parts.length+argsP f.parts+L'≤L
 | .mk op n a none,depth,L,L',h=>by
  rw[formJ] at h
  rw[Fm.parts]
  cases hn:nodeJ deep depth L with
  |none=>rw[hn] at h;cases h
  |some M=>
   have h1:=nodeJ_cnt hn
   rw[hn] at h
   simp only[] at h
   split at h
   ·have:=termsJ_cnt _ h
    simp[argsP,Fm.args,Fm.oargs];omega
   ·cases h
 | .mk op n a (some l),depth,L,L',h=>by
  rw[formJ] at h
  rw[Fm.parts]
  cases hn:nodeJ deep depth L with
  |none=>rw[hn] at h;cases h
  |some M=>
   have h1:=nodeJ_cnt hn
   rw[hn] at h
   simp only[] at h
   split at h
   ·cases ht:termsJ sch deep (a.getD []) (depth+1) M with
    |none=>rw[ht] at h;cases h
    |some M2=>
     rw[ht] at h
     have h2:=termsJ_cnt _ ht
     have h3:=formsJ_cnt l h
     have e:argsP (.mk op n a (some l)::Fm.partsL l)=(Tm.partsL (a.getD [])).length+argsP (Fm.partsL l):=by simp[argsP,Fm.args,Fm.oargs]
     rw[e];simp;omega
   ·cases h
theorem formsJ_cnt{sch:Bool}{deep:Nat}:∀(l:List Fm) {depth L L':Nat},formsJ sch deep l depth L=some L'→(Fm.partsL l).length+argsP (Fm.partsL l)+L'≤L
 |[],depth,L,L',h=>by rw[formsJ] at h;injection h with h;rw[Fm.partsL];simp[argsP];omega
 |t::l,depth,L,L',h=>by
  rw[formsJ] at h
  rw[Fm.partsL,List.length_append,argsP_app]
  cases ht:formJ sch deep t depth L with
  |none=>rw[ht] at h;cases h
  |some M=>
   rw[ht] at h
   have h1:=formJ_cnt t ht
   have h2:=formsJ_cnt l h
   omega
end
theorem insE_len(x:Sy)(l:List Sy):(insE x l).length≤l.length+1:=by
 unfold insE;split<;>simp
theorem predsL_len:∀(l:List Fm) (ks:List Sy),(predsL l ks).length≤l.length+ks.length
 |[],ks=>by simp[predsL]
 |f::l,ks=>by
  have h1:=predsL_len l (predF f ks)
  have h2:(predF f ks).length≤ks.length+1:=by
   unfold predF;split
   ·exact insE_len _ _
   ·omega
  show(predsL l (predF f ks)).length≤_
  simp only[List.length_cons];omega
theorem funsT_len:∀(l:List Tm) (ks:List Sy),(funsT l ks).length≤l.length+ks.length
 |[],ks=>by simp[funsT]
 |f::l,ks=>by
  have h1:=funsT_len l (funT f ks)
  have h2:(funT f ks).length≤ks.length+1:=by
   unfold funT;split
   ·exact insE_len _ _
   ·omega
  show(funsT l (funT f ks)).length≤_
  simp only[List.length_cons];omega
theorem funsL_len:∀(l:List Fm) (ks:List Sy),(funsL l ks).length≤argsP l+ks.length
 |[],ks=>by simp[funsL,argsP]
 |f::l,ks=>by
  have h1:=funsL_len l (funsT (Tm.partsL f.args) ks)
  have h2:=funsT_len (Tm.partsL f.args) ks
  have e:argsP (f::l)=(Tm.partsL f.args).length+argsP l:=by simp[argsP]
  show(funsL l (funsT (Tm.partsL f.args) ks)).length≤_
  omega
theorem right_few{F:Fm}(h:rightB F=true):(predsN F).length≤60000∧(funsN F).length≤60000:=by
 unfold rightB at h
 obtain⟨L',hL⟩:=Option.isSome_iff_exists.1 h
 have h1:=formJ_cnt F hL
 have h2:=predsL_len F.parts []
 have h3:=funsL_len F.parts []
 simp only[List.length_nil] at h2 h3
 exact⟨by unfold predsN;omega,by unfold funsN;omega⟩
def Fm.two(F:Fm):Fm:=.mk 14 [] none (some [F,.mk 10 [] none (some [F])])
theorem opsL_acc:∀(l:List Fm) (m:Nat),opsL l m=m ||| opsL l 0
 |[],m=>by simp[opsL]
 |f::l,m=>by
  show opsL l (m ||| opM f)=m ||| opsL l (0 ||| opM f)
  rw[opsL_acc l (m ||| opM f),opsL_acc l (0 ||| opM f),Nat.zero_or,Nat.or_assoc]
theorem opsL_mem{f:Fm}{i:Nat}:∀ {l:List Fm} {m:Nat},f∈l→(opM f).testBit i=true→(opsL l m).testBit i=true
 |g::l,m,h,hb=>by
  show(opsL l (m ||| opM g)).testBit i=true
  rcases List.mem_cons.1 h with rfl|h
  ·rw[opsL_acc,Nat.testBit_or,Nat.testBit_or,hb];simp
  ·exact opsL_mem h hb
theorem two_ops{F:Fm}{ops:Nat}(h:ops.testBit 14=false∨ops.testBit 10=false):¬andN (opsN F.two) ops=0:=fun h0=>by
 have hs:opsN F.two &&& ops=opsN F.two:=andN_zero.1 h0
 have key:∀i,(opsN F.two).testBit i=true→ops.testBit i=true:=fun i hi=>by
  have:=congrArg (fun x=>x.testBit i) hs
  simp only[Nat.testBit_and,hi,Bool.true_and] at this
  exact this
 have m14:(opsN F.two).testBit 14=true:=opsL_mem (f:=F.two) (by rw[Fm.parts_eq];simp) (show(2^14:Nat).testBit 14=true by decide)
 have m10:(opsN F.two).testBit 10=true:=opsL_mem (f:=.mk 10 [] none (some [F])) (by
  rw[Fm.parts_eq]
  refine List.mem_cons_of_mem _ ?_
  show _∈Fm.partsL [F,_]
  rw[Fm.partsL,Fm.partsL]
  refine List.mem_append.2 (.inr (List.mem_append.2 (.inl ?_)))
  rw[Fm.parts_eq];simp) (show(2^10:Nat).testBit 10=true by decide)
 rcases h with h|h
 ·rw[key 14 m14] at h;cases h
 ·rw[key 10 m10] at h;cases h
theorem two_not{F:Fm}{ops kind:Nat}(h:ops.testBit 14=false∨ops.testBit 10=false):oneB ops kind F.two=false:=by
 unfold oneB
 rw[decide_eq_false (two_ops h)];simp
end Go.Lyc
end
noncomputable section
namespace Go.Lyc
variable [Tok][TokOk]
open Go.RowKit Go.Lyc.T
abbrev w64(x:Int):Int:=wrapN .i64 x
abbrev q40(l:List Nat):Int:=w64 (1+IntKind.i64.wrap ((Int.ofNat l.length).tdiv 40))
theorem leI_t{k:IntKind}{a b:Int}(h:a≤b):binop .leq (.i k a) (.i k b)=some (.b true):=by
 show(if k=k then some (AV.b (decide (a≤b))) else none)=_
 rw[if_pos rfl,decide_eq_true h]
theorem leI_f{k:IntKind}{a b:Int}(h:¬a≤b):binop .leq (.i k a) (.i k b)=some (.b false):=by
 show(if k=k then some (AV.b (decide (a≤b))) else none)=_
 rw[if_pos rfl,decide_eq_false h]
mutual
def Tm.sz:Tm→Int→Int
 | .mk _ nm none,_=>w64 (q40 nm+0)
 | .mk _ nm (some l),left=>w64 (q40 nm+Tm.szs l 0 left)
def Tm.szs:List Tm→Int→Int→Int
 |[],n,_=>n
 |t::l,n,left=>if n≤left then Tm.szs l (w64 (n+t.sz (w64 (left-n)))) left else n
end
theorem Tm.sz_eq(t:Tm)(l:Int):t.sz l=w64 (q40 t.name+Tm.szs t.args 0 l):=by
 obtain⟨v,nm,a⟩:=t
 cases a with
 |none=>rw[Tm.sz];simp[Tm.name,Tm.args,Tm.oargs,Tm.szs]
 |some m=>rw[Tm.sz];rfl
mutual
def Fm.sz:Fm→Int→Int
 | .mk _ nm a none,left=>w64 (q40 nm+Tm.szs (a.getD []) 0 left)
 | .mk _ nm a (some l),left=>Fm.szs l (w64 (q40 nm+Tm.szs (a.getD []) 0 left)) left
def Fm.szs:List Fm→Int→Int→Int
 |[],n,_=>n
 |f::l,n,left=>if n≤left then Fm.szs l (w64 (n+f.sz (w64 (left-n)))) left else n
end
theorem Fm.sz_eq(f:Fm)(l:Int):f.sz l=Fm.szs f.sub (w64 (q40 f.name+Tm.szs f.args 0 l)) l:=by
 obtain⟨op,nm,a,s⟩:=f
 cases s with
 |none=>rw[Fm.sz];simp[Fm.name,Fm.args,Fm.oargs,Fm.sub,Fm.osub,Fm.szs]
 |some m=>rw[Fm.sz];rfl
section
variable {b:Base}{K:Nat→List AV→AV→Prop}(hf:∀g ar r r',K g ar r→K g ar r'→r=r')
theorem Tm.fld(t:Tm)(σ:St){k:Nat}(hk:k<3):(match fieldAddrA k none (.tp true (t.A true)) with|some v=>some (OpR.val v σ)|none=>none)=some (.val (.tp true ([.b t.var,.s t.name,tmsA true t.oargs].getD k .ni)) σ):=by
 unfold Tm.A
 rw[Tm.cells_eq]
 match k,hk with
 |0,_=>rfl
 |1,_=>rfl
 |2,_=>rfl
include hf in
theorem sizeT_go(a:Option (List Tm))(hlen:(a.getD []).length<2^62)(hd:∀t∈a.getD [],2*t.dep≤b.fz+800)(hS:∀t∈a.getD [],∀l:Int,K n_sizeT [tmsA true t.oargs,.i .i64 l] (.i .i64 (Tm.szs t.args 0 l)))(e:b.ext n_sizeT=0∧b.pure n_sizeT=true)
  (left:Int) (body:ACode) (hb:c_sizeT.body=some body):GoF (b.envK K) 39 body (argF [tmsA true a,.i .i64 left]) ⟨.nil,0⟩ (Done 4 (.i .i64 (Tm.szs (a.getD []) 0 left))):=by
 cases hb
 refine sS ?_
 refine GoF.loop (fun m f σ=>∃(dn rest:List Tm) (n:Int),a.getD []=dn++rest∧m=rest.length∧Tm.szs rest n left=Tm.szs (a.getD []) 0 left∧sat [(0,tmsA true a),(1,.i .i64 left),(5,.i .i64 n),(6,nI dn.length)] f) ?_ (a.getD []).length ⟨[],a.getD [],0,rfl,rfl,rfl,rfl,rfl,rfl,rfl,trivial⟩
 rintro m g σ ⟨dn,rest,n,h1,rfl,h2,hL⟩
 refine GoF.norm _ hL fun g=>?_
 clear hL
 refine sS ?_
 refine GoO.len rfl rfl rfl tmsA_len ?_
 refine GoO.cmp rfl rfl rfl rfl rfl ?_
 have out:∀f:Nat→AV,f 5= .i .i64 n→Tm.szs rest n left=n→GoW (b.envK K) none [] 39 (.seq (.region [⟨some 38,.mv (.t 5),none,[]⟩,⟨some 4,.mv (.t 38),none,[]⟩]) .ret) f σ (Done 4 (.i .i64 (Tm.szs (a.getD []) 0 left))):=fun f h5 hn=>by
  refine GoF.norm [(5,.i .i64 n)] ⟨h5,trivial⟩ fun g=>?_
  refine sS ?_
  refine GoF.ret ⟨rfl,?_⟩
  rw[←h2,hn];rfl
 by_cases hlt:dn.length<(a.getD []).length
 ·rw[decide_eq_true hlt]
  obtain⟨t,rest,rfl⟩:∃t r,rest=t::r:=by
   cases rest with
   |nil=>rw[h1] at hlt;simp at hlt
   |cons t r=>exact⟨t,r,rfl⟩
  have hg:∀h,(a.getD [])[dn.length]'h=t:=fun h=>by simp[h1]
  have htm:t∈a.getD []:=by rw[h1];simp
  by_cases hn:n≤left
  ·refine sS ?_
   refine GoO.bin (a:=.i .i64 n) (b:=.i .i64 left) (v:=.b true) rfl rfl rfl rfl (leI_t hn) ?_
   refine sS ?_
   refine GoF.cnd rfl (fun _=>?_) fun h=>by cases h
   refine sS ?_
   refine GoF.draw rfl rfl ?_
   refine sP ?_
   refine GoP.idx rfl rfl rfl rfl (tmsA_idx hlt) ?_
   rw[hg]
   refine GoP.go rfl rfl rfl (t.fld σ (k:=1) (by decide)) ?_
   refine GoP.valw (v:=.s t.name) rfl rfl rfl (Snp.eqb (b.fz+1000) _ (Snp.s (b.fz+999) _)) ?_
   refine GoP.valw (v:=nI t.name.length) rfl rfl rfl (Snp.eqb (b.fz+1000) _ (Snp.i (b.fz+999) _ _)) ?_
   refine GoP.bin (v:=.i .i64 (IntKind.i64.wrap ((Int.ofNat t.name.length).tdiv 40))) rfl rfl rfl rfl rfl ?_
   refine GoP.bin (v:=.i .i64 (q40 t.name)) rfl rfl rfl rfl rfl ?_
   refine sP ?_
   refine GoP.idx rfl rfl rfl rfl (tmsA_idx hlt) ?_
   rw[hg]
   refine GoP.go rfl rfl rfl (t.fld σ (k:=2) (by decide)) ?_
   refine GoP.ldt (v:=tmsA true t.oargs) rfl rfl rfl (by cases t.oargs<;>rfl) ?_
   refine sP ?_
   refine GoP.bin (v:=.i .i64 (w64 (left-n))) rfl rfl rfl rfl rfl ?_
   refine GoP.known hf e.1 e.2 (hS t htm (w64 (left-n))) rfl rfl rfl (snaps2 (snap_osl (k:=b.fz+999) fun u hu=>Tm.snap _ true u.dep u (b.fz+999) (Nat.le_refl _) (by have:=hd t htm;have:=Tm.dep_arg (t:=t) hu;omega)) rfl) ?_
   refine GoP.bin (v:=.i .i64 (t.sz (w64 (left-n)))) rfl rfl rfl rfl (by rw[Tm.sz_eq];rfl) ?_
   refine GoP.bin (v:=.i .i64 (w64 (n+t.sz (w64 (left-n))))) rfl rfl rfl rfl rfl ?_
   refine sP ?_
   refine sS ?_
   refine GoO.bin rfl rfl rfl rfl (bin_add (b:=1) (by omega)) ?_
   refine sS ?_
   refine⟨rest.length,by simp,dn++[t],rest,w64 (n+t.sz (w64 (left-n))),by rw[h1];simp,rfl,by rw[←h2,Tm.szs,if_pos hn],rfl,rfl,rfl,by simp;rfl,trivial⟩
  ·refine sS ?_
   refine GoO.bin (a:=.i .i64 n) (b:=.i .i64 left) (v:=.b false) rfl rfl rfl rfl (leI_f hn) ?_
   refine sS ?_
   refine GoF.cnd rfl (fun h=>by cases h) fun _=>GoF.exit ?_
   show GoW _ _ _ _ _ _ _ _
   exact out _ rfl (by rw[Tm.szs,if_neg hn])
 ·rw[decide_eq_false hlt]
  refine sS ?_
  refine GoF.cnd rfl (fun h=>by cases h) fun _=>GoF.exit ?_
  have:rest=[]:=by
   cases rest with
   |nil=>rfl
   |cons t r=>rw[h1] at hlt;simp at hlt
  subst this
  show GoW _ _ _ _ _ _ _ _
  exact out _ rfl (by rw[Tm.szs])
include hf in
theorem Size_go(F:Fm)(hlen:F.sub.length<2^62)(hd:2*F.dep≤b.fz+800)(hT:∀l:Int,K n_sizeT [tmsA true F.oargs,.i .i64 l] (.i .i64 (Tm.szs F.args 0 l)))(eT:b.ext n_sizeT=0∧b.pure n_sizeT=true)(hS:∀G∈F.sub,∀l:Int,K n_Size [G.A true,.i .i64 l] (.i .i64 (G.sz l)))(e:b.ext n_Size=0∧b.pure n_Size=true)
  (left:Int) (body:ACode) (hb:c_Size.body=some body):GoF (b.envK K) 41 body (argF [F.A true,.i .i64 left]) ⟨.nil,0⟩ (Done 4 (.i .i64 (F.sz left))):=by
 cases hb
 refine GoF.seq (GoF.region (GoO.box (v:=F.A true) (c:=F.cells true) 0 rfl rfl rfl rfl rfl rfl fun σ1 hn1 g1 k1=>?_))
 refine sS ?_
 refine GoF.draw rfl rfl ?_
 refine sP ?_
 refine GoP.ldw g1 rfl rfl rfl (Fm.ldN true F) (Snp.eqb (b.fz+1000) _ (Snp.s (b.fz+999) _)) ?_
 refine GoP.valw (v:=nI F.name.length) rfl rfl rfl (Snp.eqb (b.fz+1000) _ (Snp.i (b.fz+999) _ _)) ?_
 refine GoP.bin (v:=.i .i64 (IntKind.i64.wrap ((Int.ofNat F.name.length).tdiv 40))) rfl rfl rfl rfl rfl ?_
 refine GoP.bin (v:=.i .i64 (q40 F.name)) rfl rfl rfl rfl rfl ?_
 refine sP ?_
 refine GoP.ld g1 rfl rfl rfl (Fm.ldA true F) ?_
 refine sP ?_
 refine GoP.known hf eT.1 eT.2 (hT left) rfl rfl rfl (snaps2 (snap_osl (k:=b.fz+999) fun u hu=>Tm.snap _ true u.dep u (b.fz+999) (Nat.le_refl _) (by have:=Fm.dep_arg (f:=F) hu;omega)) rfl) ?_
 refine GoP.bin (v:=.i .i64 (w64 (q40 F.name+Tm.szs F.args 0 left))) rfl rfl rfl rfl rfl ?_
 refine sP ?_
 refine GoF.norm [(1,.i .i64 left),(2,.p (some (0,0))),(5,.i .i64 (w64 (q40 F.name+Tm.szs F.args 0 left)))] ⟨rfl,rfl,rfl,trivial⟩ fun g=>?_
 refine sS ?_
 refine GoF.loop (fun m f σ=>∃(dn rest:List Fm) (n:Int),F.sub=dn++rest∧m=rest.length∧Fm.szs rest n left=F.sz left∧σ.get 0=some (.cells (F.cells true))∧sat [(1,.i .i64 left),(2,.p (some (0,0))),(5,.i .i64 n),(6,nI dn.length)] f) ?_ F.sub.length ⟨[],F.sub,_,rfl,rfl,(Fm.sz_eq F left).symm,g1,rfl,rfl,rfl,rfl,trivial⟩
 rintro m g σ ⟨dn,rest,n,h1,rfl,h2,g1,hL⟩
 refine GoF.norm _ hL fun g=>?_
 clear hL
 have out:∀f:Nat→AV,f 5= .i .i64 n→Fm.szs rest n left=n→GoW (b.envK K) none [] 41 (.seq (.region [⟨some 40,.mv (.t 5),none,[]⟩,⟨some 4,.mv (.t 40),none,[]⟩]) .ret) f σ (Done 4 (.i .i64 (F.sz left))):=fun f h5 hn=>by
  refine GoF.norm [(5,.i .i64 n)] ⟨h5,trivial⟩ fun g=>?_
  refine sS ?_
  refine GoF.ret ⟨rfl,?_⟩
  rw[←h2,hn];rfl
 refine sS ?_
 refine GoO.ld g1 rfl rfl rfl (Fm.ldS true F) ?_
 refine GoO.len rfl rfl rfl fmsA_len ?_
 refine GoO.cmp rfl rfl rfl rfl rfl ?_
 by_cases hlt:dn.length<F.sub.length
 ·rw[show decide (dn.length<(F.osub.getD []).length)=true from decide_eq_true hlt]
  obtain⟨t,rest,rfl⟩:∃t r,rest=t::r:=by
   cases rest with
   |nil=>rw[h1] at hlt;simp at hlt
   |cons t r=>exact⟨t,r,rfl⟩
  have hg:∀h,(F.osub.getD [])[dn.length]'h=t:=fun h=>by
   have:F.osub.getD []=dn++t::rest:=h1
   simp[this]
  have htm:t∈F.sub:=by rw[h1];simp
  by_cases hn:n≤left
  ·refine sS ?_
   refine GoO.bin (a:=.i .i64 n) (b:=.i .i64 left) (v:=.b true) rfl rfl rfl rfl (leI_t hn) ?_
   refine sS ?_
   refine GoF.cnd rfl (fun _=>?_) fun h=>by cases h
   refine sS ?_
   refine GoO.ld g1 rfl rfl rfl (Fm.ldS true F) ?_
   refine sS ?_
   refine GoO.idx (v:=.tp true (t.A true)) rfl rfl rfl rfl ((fmsA_idx hlt).trans (congrArg (fun x=>some (AV.tp true (Fm.A true x))) (hg hlt))) ?_
   refine GoO.ldt (v:=t.A true) rfl rfl rfl (Fm.conf true t) ?_
   refine sS ?_
   refine GoO.bin (v:=.i .i64 (w64 (left-n))) rfl rfl rfl rfl rfl ?_
   refine GoO.known hf e.1 e.2 (hS t htm (w64 (left-n))) rfl rfl rfl (snaps2 (Fm.snap _ true t.dep t (b.fz+1000) (Nat.le_refl _) (by have:=Fm.dep_sub (f:=F) htm;omega)) rfl) ?_
   refine GoO.bin (v:=.i .i64 (w64 (n+t.sz (w64 (left-n))))) rfl rfl rfl rfl rfl ?_
   refine sS ?_
   refine GoO.bin rfl rfl rfl rfl (bin_add (b:=1) (by omega)) ?_
   refine sS ?_
   refine⟨rest.length,by simp,dn++[t],rest,w64 (n+t.sz (w64 (left-n))),by rw[h1];simp,rfl,by rw[←h2,Fm.szs,if_pos hn],g1,rfl,rfl,rfl,by simp;rfl,trivial⟩
  ·refine sS ?_
   refine GoO.bin (a:=.i .i64 n) (b:=.i .i64 left) (v:=.b false) rfl rfl rfl rfl (leI_f hn) ?_
   refine sS ?_
   refine GoF.cnd rfl (fun h=>by cases h) fun _=>GoF.exit ?_
   show GoW _ _ _ _ _ _ _ _
   exact out _ rfl (by rw[Fm.szs,if_neg hn])
 ·rw[show decide (dn.length<(F.osub.getD []).length)=false from decide_eq_false hlt]
  refine sS ?_
  refine GoF.cnd rfl (fun h=>by cases h) fun _=>GoF.exit ?_
  have:rest=[]:=by
   cases rest with
   |nil=>rfl
   |cons t r=>rw[h1] at hlt;simp at hlt
  subst this
  show GoW _ _ _ _ _ _ _ _
  exact out _ rfl (by rw[Fm.szs])
def smallB(F:Fm):Bool:=decide (w64 (0+F.sz (w64 (500-0)))≤500)
include hf in
theorem Small_go(F:Fm)(hd:2*F.dep≤b.fz+800)(hS:∀l:Int,K n_Size [F.A true,.i .i64 l] (.i .i64 (F.sz l)))(e:b.ext n_Size=0∧b.pure n_Size=true)
  (body:ACode) (hb:c_Small.body=some body):GoF (b.envK K) 26 body (argF [.tl true (some 4) [F.A true]]) ⟨.nil,0⟩ (Done 2 (.b (smallB F))):=by
 cases hb
 refine sS ?_
 have fin:∀(f:Nat→AV) (σ:St) (n:Int),f 3= .i .i64 n→n=w64 (0+F.sz (w64 (500-0)))→GoW (b.envK K) none [] 26 (.seq (.region [⟨some 24,.mv (.t 3),none,[]⟩,⟨some 25,.bin .leq (.t 24) (.c (.i .i64 500)),none,[]⟩,⟨some 2,.mv (.t 25),none,[]⟩]) .ret) f σ (Done 2 (.b (smallB F))):=fun f σ n h3 hn=>by
  refine GoF.norm [(3,.i .i64 n)] ⟨h3,trivial⟩ fun g=>?_
  refine sS ?_
  refine GoO.bin (v:=.b (smallB F)) rfl rfl rfl rfl (by subst hn;unfold smallB;rfl) ?_
  refine sS ?_
  exact GoF.ret ⟨rfl,rfl⟩
 refine GoF.loop (fun m f σ=>(m=1∧sat [(0,.tl true (some 4) [F.A true]),(3,.i .i64 0),(4,nI 0)] f)∨(m=0∧sat [(0,.tl true (some 4) [F.A true]),(3,.i .i64 (w64 (0+F.sz (w64 (500-0))))),(4,nI 1)] f)) ?_ 1 (.inl ⟨rfl,rfl,rfl,rfl,trivial⟩)
 rintro m g σ (⟨rfl,hL⟩|⟨rfl,hL⟩)
 ·refine GoF.norm _ hL fun g=>?_
  clear hL
  refine sS ?_
  refine GoF.cnd rfl (fun _=>?_) fun h=>by cases h
  refine sS ?_
  refine GoO.ldt (v:=F.A true) rfl rfl rfl (Fm.conf true F) ?_
  refine sS ?_
  refine GoO.bin (v:=.i .i64 (w64 (500-0))) rfl rfl rfl rfl rfl ?_
  refine GoO.known hf e.1 e.2 (hS (w64 (500-0))) rfl rfl rfl (snaps2 (Fm.snap _ true F.dep F (b.fz+1000) (Nat.le_refl _) (by omega)) rfl) ?_
  refine GoO.bin (v:=.i .i64 (w64 (0+F.sz (w64 (500-0))))) rfl rfl rfl rfl rfl ?_
  refine sS ?_
  refine GoO.bin rfl rfl rfl rfl (bin_add (a:=0) (b:=1) (by omega)) ?_
  refine sS ?_
  exact⟨0,by omega,.inr ⟨rfl,rfl,rfl,rfl,trivial⟩⟩
 ·refine GoF.norm _ hL fun g=>?_
  clear hL
  refine sS ?_
  refine GoF.cnd rfl (fun h=>by cases h) fun _=>GoF.exit ?_
  show GoW _ _ _ _ _ _ _ _
  exact fin _ _ _ rfl rfl
end
end Go.Lyc
end
noncomputable section
namespace Go.Lyc
variable [Tok][TokOk]
open Go.RowKit Go.Lyc.T
theorem GoesCall.ext{env:Env}{floor k g:Nat}{args:List AV}{v:AV}{σ:St}{Q:Ret→St→Prop}(he:env.ext g=k+1)(hx:extRow (k+1) args=some v)(h:Q (.ok v) σ):GoesCall env floor (.f (.func g) [] []) args σ Q:=by
 refine Ev.one (x:=(.ok v,σ)) (fun F=>?_) h
 show callF env (exec env F) floor g ([]++args++[]) σ=_
 unfold callF
 rw[he,List.nil_append,List.append_nil]
 show(match extRow (k+1) args with|some v=>some [(Ret.ok v,σ)]|none=>none)=_
 rw[hx]
section
variable {b:Base}{K:Nat→List AV→AV→Prop}
theorem CompareString_go(hh:Here (b.envK K) n_CompareString c_CompareString)(ex:b.ext n_cmpstring=2)(x y:List Nat)(σ:St):GoesCall (b.envK K) 0 (.f (.func n_CompareString) [] []) [.s x,.s y] σ (fun r σ'=>r= .ok (.i .i64 (cmpS x y))∧σ'=σ):=by
 refine GoesCall.code hh.e hh.p hh.f rfl rfl rfl rfl ?_
 refine GoF.seq (GoF.region ?_)
 refine GoO.go rfl rfl rfl rfl ?_
 refine GoO.nil (GoF.seq (GoF.region ?_))
 refine GoO.go rfl rfl rfl rfl ?_
 refine GoO.go rfl rfl rfl rfl ?_
 refine GoO.callG (R:=fun r σ'=>r= .ok (.i .i64 (cmpS x y))∧σ'=σ) rfl rfl rfl (GoesCall.ext (k:=1) ex rfl ⟨rfl,rfl⟩) fun r σ2 ⟨e1,e2⟩=>⟨_,e1,?_⟩
 refine GoO.go rfl rfl rfl rfl ?_
 exact GoO.nil (GoF.ret ⟨rfl,rfl,e2⟩)
theorem strCompare_go(hh:Here (b.envK K) n_strCompare c_strCompare)(h2:Here (b.envK K) n_CompareString c_CompareString)(ex:b.ext n_cmpstring=2)(x y:List Nat)(σ:St):GoesCall (b.envK K) 0 (.f (.func n_strCompare) [] []) [.s x,.s y] σ (fun r σ'=>r= .ok (.i .i64 (cmpS x y))∧σ'=σ):=by
 refine GoesCall.code hh.e hh.p hh.f rfl rfl rfl rfl ?_
 refine GoF.seq (GoF.region ?_)
 refine GoO.go rfl rfl rfl rfl ?_
 refine GoO.nil (GoF.seq (GoF.region ?_))
 refine GoO.go rfl rfl rfl rfl ?_
 refine GoO.go rfl rfl rfl rfl ?_
 refine GoO.callG rfl rfl rfl (CompareString_go h2 ex x y σ) fun r σ2 ⟨e1,e2⟩=>⟨_,e1,?_⟩
 refine GoO.go rfl rfl rfl rfl ?_
 exact GoO.nil (GoF.ret ⟨rfl,rfl,e2⟩)
theorem isNaNint_go(hh:Here (b.envK K) n_isNaNint c_isNaNint)(x:Nat)(σ:St):GoesCall (b.envK K) 0 (.f (.func n_isNaNint) [] []) [nI x] σ (fun r σ'=>r= .ok (.b false)∧σ'=σ):=by
 refine GoesCall.code hh.e hh.p hh.f rfl rfl rfl rfl ?_
 refine GoF.seq (GoF.region ?_)
 refine GoO.go rfl rfl rfl rfl ?_
 refine GoO.nil (GoF.seq (GoF.region ?_))
 refine GoO.go rfl rfl rfl rfl ?_
 refine GoO.go rfl rfl rfl rfl ?_
 refine GoO.bin (a:=nI x) (b:=nI x) (v:=.b false) rfl rfl rfl rfl (bin_cmp (by show some (AV.b (!decide (x=x)))=_;rw[decide_eq_true rfl];rfl)) ?_
 refine GoO.go rfl rfl rfl rfl ?_
 exact GoO.nil (GoF.ret ⟨rfl,rfl,rfl⟩)
theorem cmpInt_go(hh:Here (b.envK K) n_cmpInt c_cmpInt)(h2:Here (b.envK K) n_isNaNint c_isNaNint)(x y:Nat)(σ:St):GoesCall (b.envK K) 0 (.f (.func n_cmpInt) [] []) [nI x,nI y] σ (fun r σ'=>r= .ok (.i .i64 (cmpN x y))∧σ'=σ):=by
 refine GoesCall.code hh.e hh.p hh.f rfl rfl rfl rfl ?_
 refine GoF.seq (GoF.region ?_)
 refine GoO.go rfl rfl rfl rfl ?_
 refine GoO.nil (GoF.seq (GoF.region ?_))
 refine GoO.go rfl rfl rfl rfl ?_
 refine GoO.callG rfl rfl rfl (isNaNint_go h2 x σ) fun r σ2 ⟨e1,e2⟩=>⟨_,e1,?_⟩
 subst e2
 refine GoO.go rfl rfl rfl rfl ?_
 refine GoO.nil (GoF.seq (GoF.region ?_))
 refine GoO.go rfl rfl rfl rfl ?_
 refine GoO.callG rfl rfl rfl (isNaNint_go h2 y σ2) fun r σ3 ⟨e1,e2⟩=>⟨_,e1,?_⟩
 subst e2
 refine GoO.go rfl rfl rfl rfl ?_
 refine GoO.nil (GoF.seq (GoF.seq (GoF.region ?_)))
 refine GoO.go rfl rfl rfl rfl ?_
 refine GoO.nil (GoF.cnd rfl (fun h=>by cases h) fun _=>GoF.skip ?_)
 refine GoF.seq (GoF.seq (GoF.region ?_))
 refine GoO.go rfl rfl rfl rfl ?_
 refine GoO.nil (GoF.cnd rfl (fun h=>by cases h) fun _=>GoF.skip ?_)
 refine GoF.seq (GoF.seq (GoF.region ?_))
 refine GoO.go rfl rfl rfl rfl ?_
 refine GoO.go rfl rfl rfl rfl ?_
 refine GoO.bin (a:=nI x) (b:=nI y) (v:=.b (decide (x<y))) rfl rfl rfl rfl (bin_cmp rfl) ?_
 refine GoO.nil (GoF.cnd rfl (fun h=>?_) fun h=>GoF.skip ?_)
 ·refine GoF.seq (GoF.region ?_)
  refine GoO.go rfl rfl rfl rfl ?_
  refine GoO.nil (GoF.ret ⟨rfl,?_,rfl⟩)
  unfold cmpN;rw[if_pos (of_decide_eq_true h)];rfl
 have h1:=of_decide_eq_false h
 refine GoF.seq (GoF.seq (GoF.region ?_))
 refine GoO.go rfl rfl rfl rfl ?_
 refine GoO.go rfl rfl rfl rfl ?_
 refine GoO.bin (a:=nI x) (b:=nI y) (v:=.b (decide (y<x))) rfl rfl rfl rfl (bin_cmp rfl) ?_
 refine GoO.nil (GoF.cnd rfl (fun h=>?_) fun h=>GoF.skip ?_)
 ·refine GoF.seq (GoF.region ?_)
  refine GoO.go rfl rfl rfl rfl ?_
  refine GoO.nil (GoF.ret ⟨rfl,?_,rfl⟩)
  unfold cmpN;rw[if_neg h1,if_pos (of_decide_eq_true h)];rfl
 have h2:=of_decide_eq_false h
 refine GoF.seq (GoF.region ?_)
 refine GoO.go rfl rfl rfl rfl ?_
 refine GoO.nil (GoF.ret ⟨rfl,?_,rfl⟩)
 unfold cmpN;rw[if_neg h1,if_neg h2];rfl
theorem sorted1_go(h1:Here (b.envK K) n_strCompare c_strCompare)(h2:Here (b.envK K) n_CompareString c_CompareString)(ex:b.ext n_cmpstring=2)(h3:Here (b.envK K) n_cmpInt c_cmpInt)(h4:Here (b.envK K) n_isNaNint c_isNaNint)(x y:Sy)(body:ACode)(hb:c_sorted1.body=some body):
  GoF (b.envK K) 19 body (argF [symA x,symA y]) ⟨.nil,0⟩ (Done 4 (.i .i64 (cmpSy x y))):=by
 cases hb
 refine GoF.seq (GoF.region (GoO.box (v:=symA x) (c:=[.s x.1,nI x.2]) 0 rfl rfl rfl rfl rfl rfl fun σ1 n1 g1 q1=>?_))
 refine GoO.box (v:=symA y) (c:=[.s y.1,nI y.2]) 1 n1 rfl rfl rfl rfl rfl fun σ n2 g2 q2=>?_
 replace g1:=q2 _ _ g1
 refine GoO.go rfl rfl rfl rfl ?_
 refine GoO.nil (GoF.seq (GoF.seq (GoF.region ?_)))
 refine GoO.go rfl rfl rfl rfl ?_
 refine GoO.ld (v:=.s x.1) g1 rfl rfl rfl rfl ?_
 refine GoO.go rfl rfl rfl rfl ?_
 refine GoO.ld (v:=.s y.1) g2 rfl rfl rfl rfl ?_
 refine GoO.callG rfl rfl rfl (strCompare_go h1 h2 ex x.1 y.1 σ) fun r σ2 ⟨e1,e2⟩=>⟨_,e1,?_⟩
 subst e2
 refine GoO.go rfl rfl rfl rfl ?_
 refine GoO.nil (GoF.seq (GoF.region ?_))
 refine GoO.go rfl rfl rfl rfl ?_
 refine GoO.bin (a:=.i .i64 (cmpS x.1 y.1)) (b:=.i .i64 0) (v:=.b (!decide (cmpS x.1 y.1=0))) rfl rfl rfl rfl rfl ?_
 refine GoO.nil (GoF.cnd rfl (fun h=>?_) fun h=>GoF.skip ?_)
 ·have hne:¬cmpS x.1 y.1=0:=fun e=>by rw[decide_eq_true e] at h;cases h
  refine GoF.seq (GoF.region ?_)
  refine GoO.go rfl rfl rfl rfl ?_
  refine GoO.go rfl rfl rfl rfl ?_
  refine GoO.nil (GoF.ret ⟨rfl,?_⟩)
  unfold cmpSy;rw[if_neg hne];rfl
 ·have he:cmpS x.1 y.1=0:=Classical.byContradiction fun e=>by rw[decide_eq_false e] at h;cases h
  refine GoF.seq (GoF.region ?_)
  refine GoO.go rfl rfl rfl rfl ?_
  refine GoO.ld (v:=nI x.2) g1 rfl rfl rfl rfl ?_
  refine GoO.go rfl rfl rfl rfl ?_
  refine GoO.ld (v:=nI y.2) g2 rfl rfl rfl rfl ?_
  refine GoO.callG rfl rfl rfl (cmpInt_go h3 h4 x.2 y.2 σ2) fun r σ3 ⟨e1,e2⟩=>⟨_,e1,?_⟩
  refine GoO.go rfl rfl rfl rfl ?_
  refine GoO.nil (GoF.ret ⟨rfl,?_⟩)
  unfold cmpSy;rw[if_pos he];rfl
end
end Go.Lyc
end
noncomputable section
namespace Go.Lyc
variable [Tok][TokOk]
open Go.RowKit Go.Lyc.T
structure SS(o:Nat)(l0:List Sy)(σ:St)(l:List Sy)(τ:St):Prop where
 perm:l.Perm l0
 blk:τ.get o=some (.cells ((l.map symA).flatMap AV.cells))
 nx:σ.next≤τ.next
 keep:∀i o',i≠o→σ.get i=some o'→τ.get i=some o'
abbrev rowV(o:Nat)(l0:List Sy):AV:=.sl o 0 l0.length (some 2) none
theorem SS.len{o:Nat}{l0 l:List Sy}{σ τ:St}(h:SS o l0 σ l τ):l.length=l0.length:=h.perm.length_eq
theorem confS(l:List Sy):∀x∈l.map symA,conf (some 2) x=true:=fun x hx=>by obtain⟨s,_,rfl⟩:=List.mem_map.1 hx;rfl
theorem elemT{l:List Sy}{j:Nat}(h:j<l.length):takeSh (some 2) (((l.map symA).flatMap AV.cells).drop (0+j*shN (some 2)))=some (symA l[j]):=by
 rw[take_elem (by rw[List.length_map];exact h) (confS l),List.getElem_map]
def swp(l:List Sy)(i j:Nat)(hi:i<l.length)(hj:j<l.length):List Sy:=(l.set i l[j]).set j l[i]
theorem SS.more{o:Nat}{l0 l:List Sy}{σ τ τ':St}(h:SS o l0 σ l τ)(hn:τ.next≤τ'.next)(hk:∀i o,τ.get i=some o→τ'.get i=some o):SS o l0 σ l τ':=⟨h.perm,hk _ _ h.blk,Nat.le_trans h.nx hn,fun i o' hi ho=>hk _ _ (h.keep i o' hi ho)⟩
theorem bin_add1{a:Nat}(h:a+1<2^63):binop .add (nI a) (.i .i64 1)=some (nI (a+1)):=bin_add (b:=1) h
theorem bin_sub1{a:Nat}(hb:1≤a)(h:a<2^63):binop .sub (nI a) (.i .i64 1)=some (nI (a-1)):=bin_sub (b:=1) hb h
section
variable {env:Env}{wh:Option Nat}{D:List (Nat ⊕ (AV×List AV))}{n:Nat}{f:Nat→AV}{σ τ:St}{Q:PostF}
theorem bin_lt0{k:IntKind}{z:Int}:binop .lss (.i k z) (.i k 0)=some (.b (decide (z<0))):=by
 show(if k=k then binI .lss k z 0 else none)=_
 rw[if_pos rfl];rfl
theorem GoO.lt0{d:Nat}{x y:AOpd}{g:Option (Nat×Bool)}{wn:List Nat}{ops:List AOper}{k:IntKind}{z:Int}(hd:Nat.blt d n=true)(hw:wantedF g n f=true)(h1:evF env n f x=some (.i k z))(h2:evF env n f y=some (.i k 0))
  (h:GoV env wh D n ops (upd f d (.b (decide (z<0)))) σ Q):GoV env wh D n (⟨some d,.bin .lss x y,g,wn⟩::ops) f σ Q:=GoO.bin hd hw h1 h2 bin_lt0 h
theorem GoP.lt0{d:Nat}{x y:AOpd}{g:Option (Nat×Bool)}{ops:List AOper}{k:IntKind}{z:Int}{Q:(Nat→AV)→Prop}(hd:Nat.blt d n=true)(hw:wantedF g n f=true)(h1:evF env n f x=some (.i k z))(h2:evF env n f y=some (.i k 0))
  (h:GoP env D n ops (upd f d (.b (decide (z<0)))) σ Q):GoP env D n (⟨some d,.bin .lss x y,g,[]⟩::ops) f σ Q:=GoP.bin hd hw h1 h2 bin_lt0 h
theorem GoO.swap{d1 d2:Nat}{s1 i1 s2 i2 x1 x2:AOpd}{w1 w2 w3 w4:List Nat}{ops:List AOper}{o i j:Nat}{l0 l:List Sy}(hS:SS o l0 σ l τ)(hi:i<l.length)(hj:j<l.length)(hd1:Nat.blt d1 n=true)(hd2:Nat.blt d2 n=true)(b1:Nat.beq d1 d1=true)(b2:Nat.beq d2 d2=true)
  (h1:evF env n f s1=some (rowV o l0)) (h2:evF env n f i1=some (nI i)) (h3:evF env n (upd f d1 (.p (some (o,0+i*2)))) x1=some (symA l[j]))
  (h4:evF env n (upd f d1 (.p (some (o,0+i*2)))) s2=some (rowV o l0)) (h5:evF env n (upd f d1 (.p (some (o,0+i*2)))) i2=some (nI j)) (h6:evF env n (upd (upd f d1 (.p (some (o,0+i*2)))) d2 (.p (some (o,0+j*2)))) x2=some (symA l[i]))
  (h:∀τ',SS o l0 σ (swp l i j hi hj) τ'→τ'.next=τ.next→(∀k o',k≠o→τ.get k=some o'→τ'.get k=some o')→GoV env wh D n ops (upd (upd f d1 (.p (some (o,0+i*2)))) d2 (.p (some (o,0+j*2)))) τ' Q):
  GoV env wh D n (⟨some d1,.idxSl (some 2) s1 i1,none,w1⟩::⟨none,.store (some 2) (.t d1) x1,none,w2⟩::⟨some d2,.idxSl (some 2) s2 i2,none,w3⟩::⟨none,.store (some 2) (.t d2) x2,none,w4⟩::ops) f τ Q:=by
 have hl:=hS.len
 have hev:∀(g:Nat→AV) (d:Nat) (v:AV),Nat.blt d n=true→Nat.beq d d=true→evF env n (upd g d v) (.t d)=some v:=fun g d v h1 h2=>by
  show cond (Nat.blt d n) (some (cond (Nat.beq d d) v (g d))) none=_
  rw[h1,h2];rfl
 refine GoO.idx (j:=i) hd1 rfl h1 h2 (idxSlA_sl (by omega)) ?_
 refine GoO.store hS.blk rfl (hev _ _ _ hd1 b1) h3 rfl (store_flat (by rw[List.length_map];exact hi) (confS l) rfl) fun τ1 n1 g1 k1=>?_
 refine GoO.idx (j:=j) hd2 rfl h4 h5 (idxSlA_sl (by omega)) ?_
 have e1:(l.map symA).set i (symA l[j])=(l.set i l[j]).map symA:=by rw[List.map_set]
 rw[e1] at g1
 refine GoO.store g1 rfl (hev _ _ _ hd2 b2) h6 rfl (store_flat (by rw[List.length_map,List.length_set];exact hj) (confS _) rfl) fun τ2 n2 g2 k2=>?_
 rw[show((l.set i l[j]).map symA).set j (symA l[i])=(swp l i j hi hj).map symA from by unfold swp;rw[List.map_set (l:=l.set i l[j])]] at g2
 exact h τ2 ⟨(List.set_set_perm (i:=i) (j:=j) hi hj).trans hS.perm,g2,by have:=hS.nx;omega,fun k o' hk ho=>k2 k o' hk (k1 k o' hk (hS.keep k o' hk ho))⟩ (by omega) fun k o' hk ho=>k2 k o' hk (k1 k o' hk ho)
end
section
variable {b:Base}{K:Nat→List AV→AV→Prop}(hf:∀g ar r r',K g ar r→K g ar r'→r=r')(hs1:∀a c:Sy,K n_sorted1 [symA a,symA c] (.i .i64 (cmpSy a c)))(es1:b.ext n_sorted1=0∧b.pure n_sorted1=true)
abbrev SR(o:Nat)(l0:List Sy)(σ:St)(P:AV→Prop):Ret→St→Prop:=fun r τ=>∃v l,r= .ok v∧P v∧SS o l0 σ l τ
abbrev cmpV:AV:=.f (.func n_sorted1) [] []
theorem reverse_go(hh:Here (b.envK K) n_reverseRange c_reverseRange){o:Nat}{l0 l:List Sy}{σ τ:St}(h60:l0.length≤60000)(hS:SS o l0 σ l τ)(x y:Nat)(hx:x<y)(hy:y≤l0.length):
  GoesCall (b.envK K) 0 (.f (.func n_reverseRange) [] []) [rowV o l0,nI x,nI y,cmpV] τ (SR o l0 σ fun v=>v= .tu []):=by
 refine GoesCall.code0 hh.e hh.p hh.f rfl rfl rfl ?_
 refine GoF.seq (GoF.region ?_)
 refine sA ?_
 refine GoO.nil (GoF.seq (GoF.region ?_))
 refine sA ?_
 refine GoO.nil (GoF.block ?_)
 refine GoF.loop (fun m f τ=>∃i j l,j≤i+m∧j<l0.length∧SS o l0 σ l τ∧sat [(0,rowV o l0),(8,nI i),(9,nI j)] f) ?_ y ⟨x,y-1,l,by omega,by omega,hS,rfl,rfl,rfl,trivial⟩
 clear hS
 rintro m g τ ⟨i,j,l,hm,hj,hS,hL⟩
 refine GoF.norm _ hL fun g=>?_
 clear hL
 have hl:=hS.len
 refine GoF.seq (GoF.seq (GoF.region ?_))
 refine sA ?_
 refine GoO.nil (GoF.cnd rfl (fun h=>?_) fun h=>?_)
 ·have hlt:i<j:=of_decide_eq_true h
  refine GoF.skip (GoF.block (GoF.seq (GoF.drawK 0 rfl (GoK.fin (gs:=[]) .nil rfl ?_))))
  iterate 12 (first|refine GoO.idx rfl rfl rfl rfl (idxSlA_sl (by omega)) ?_|refine GoO.ld hS.blk rfl rfl rfl (elemT (by omega)) ?_|refine GoO.go rfl rfl rfl rfl ?_)
  refine GoO.swap hS (i:=i) (j:=j) (by omega) (by omega) rfl rfl rfl rfl rfl rfl rfl rfl rfl rfl fun τ' hS' n' k'=>?_
  refine GoO.nil ⟨rfl,GoF.seq (GoF.region ?_)⟩
  refine sA ?_
  refine GoO.nil (GoF.region ?_)
  refine sA ?_
  exact GoO.nil ⟨m-2,by omega,i+1,j-1,_,by omega,by omega,hS',rfl,rfl,rfl,trivial⟩
 ·exact GoF.exit ⟨.inr rfl,_,l,rfl,rfl,hS⟩
end
end Go.Lyc
end
noncomputable section
namespace Go.Lyc
variable [Tok][TokOk]
open Go.RowKit Go.Lyc.T
theorem endF_two{env:Env}{floor:Nat}{fn:AFunc}{n d e:Nat}{f:Nat→AV}{fr:Fr}{σ:St}(h1:IsFr [] n f fr)(hres:fn.results=[(d,none),(e,none)])(hd:Nat.blt d n=true)(he:Nat.blt e n=true):endF env floor fn (.ret,fr,σ)=some [(.ok (.tu [f d,f e]),σ)]:=by
 show(match leave floor (callD env floor) fr.defers none σ with
  |none=>none
  |some (some v,σ)=>some [(Ret.err v,σ)]
  |some (none,σ)=>match resultsOf σ fr.slots fn.results with
   |some v=>some [(.ok v,σ)]
   |none=>none)=_
 rw[h1.ds]
 show(match resultsOf σ fr.slots fn.results with|some v=>some [(Ret.ok v,σ)]|none=>none)=_
 rw[hres]
 have hg:=h1.get d
 have hg2:=h1.get e
 rw[if_pos (show d<n from Nat.le_of_ble_eq_true hd)] at hg
 rw[if_pos (show e<n from Nat.le_of_ble_eq_true he)] at hg2
 have e1:resultOf σ fr.slots (d,none)=some (f d):=by unfold resultOf;rw[hg]
 have e2:resultOf σ fr.slots (e,none)=some (f e):=by unfold resultOf;rw[hg2]
 have:resultsOf σ fr.slots [(d,none),(e,none)]=some (.tu [f d,f e]):=by
  unfold resultsOf
  have e:mapO (resultOf σ fr.slots) [(d,none),(e,none)]=some [f d,f e]:=by
   rw[mapO_cons',e1,mapO_cons',e2];rfl
  rw[e]
 rw[this]
theorem GoesCall.code2{env:Env}{σ:St}{fn:Nat}{af:AFunc}{body:ACode}{dr ds:Nat}{first cap args:List AV}{R:Ret→St→Prop}(he:env.ext fn=0)(hp:env.pure fn=false)(hf:env.funcs fn=some af)(hb:af.body=some body)
  (hn:(Nat.beq (first++args++cap).length af.nargs&&Nat.ble (first++args++cap).length af.ntmps)=true) (hres:af.results=[(dr,none),(ds,none)]) (hdr:Nat.blt dr af.ntmps=true) (hds:Nat.blt ds af.ntmps=true)
  (h:GoF env af.ntmps body (argF (first++args++cap)) σ (fun x f' σ'=>x= .ret∧R (.ok (.tu [f' dr,f' ds])) σ')):GoesCall env 0 (.f (.func fn) first cap) args σ R:=by
 have hle:(first++args++cap).length≤af.ntmps:=by
  simp only[Bool.and_eq_true] at hn
  exact Nat.le_of_ble_eq_true hn.2
 refine GoesCall.run he hp hf hb hn ((h _ (isFr_start hle)).mono fun x fr' σ' ⟨f',h1,h2,h3⟩=>?_)
 subst h2
 exact⟨_,σ',endF_two h1 hres hdr hds,h3⟩
theorem SS.at{o sp:Nat}{l0 l:List Sy}{σ τ τ':St}(h:SS o l0 σ l τ)(hsp:σ.next≤sp)(hne:sp≠o)(hn:τ.next≤τ'.next)(hk:∀i o',i≠sp→τ.get i=some o'→τ'.get i=some o'):SS o l0 σ l τ':=
 ⟨h.perm,hk _ _ (Ne.symm hne) h.blk,Nat.le_trans h.nx hn,fun i o' hi ho=>hk _ _ (by have:=St.get_lt ho;omega) (h.keep i o' hi ho)⟩
section
variable {b:Base}{K:Nat→List AV→AV→Prop}(hf:∀g ar r r',K g ar r→K g ar r'→r=r')(hs1:∀a c:Sy,K n_sorted1 [symA a,symA c] (.i .i64 (cmpSy a c)))(es1:b.ext n_sorted1=0∧b.pure n_sorted1=true)
abbrev Cnt(sp:Nat)(τ:St):Prop:=∃z:Int,τ.get sp=some (.cells [.i .i64 z])
include hf hs1 es1 in
theorem order2_go(hh:Here (b.envK K) n_order2 c_order2){o sp:Nat}{l0 l:List Sy}{σ τ:St}(h60:l0.length≤60000)(hS:SS o l0 σ l τ)(hc:Cnt sp τ)(hsp:σ.next≤sp)(hne:sp≠o)(x y:Nat)(hx:x<l0.length)(hy:y<l0.length):
  GoesCall (b.envK K) 0 (.f (.func n_order2) [] []) [rowV o l0,nI x,nI y,.p (some (sp,0)),cmpV] τ (fun r τ'=>∃p q,r= .ok (.tu [nI p,nI q])∧(p=x∧q=y∨p=y∧q=x)∧SS o l0 σ l τ'∧Cnt sp τ'):=by
 refine GoesCall.code2 hh.e hh.p hh.f rfl rfl rfl rfl rfl ?_
 have hl:=hS.len
 obtain⟨z,hz⟩:=hc
 refine GoF.seq (GoF.region ?_)
 refine sA ?_
 refine GoO.nil (GoF.seq (GoF.seq (GoF.draw rfl rfl ?_)))
 refine sBh ?_
 refine GoP.nil (GoF.cnd rfl (fun h=>?_) fun h=>GoF.skip ?_)
 ·refine GoF.seq (GoF.region ?_)
  refine sA ?_
  refine GoO.ld (v:=.i .i64 z) hz rfl rfl rfl rfl ?_
  refine GoO.bin (a:=.i .i64 z) (b:=.i .i64 1) rfl rfl rfl rfl rfl ?_
  refine sA ?_
  refine GoO.store (c':=[.i .i64 (wrapN .i64 (z+1))]) hz rfl rfl rfl rfl rfl fun τ1 n1 h1 k1=>?_
  refine GoO.nil (GoF.seq (GoF.region ?_))
  refine sA ?_
  exact GoO.nil (GoF.ret ⟨rfl,y,x,rfl,.inr ⟨rfl,rfl⟩,hS.at hsp hne (by omega) k1,_,h1⟩)
 ·refine GoF.seq (GoF.region ?_)
  refine sA ?_
  exact GoO.nil (GoF.ret ⟨rfl,x,y,rfl,.inl ⟨rfl,rfl⟩,hS,z,hz⟩)
include hf hs1 es1 in
theorem median_go(hh:Here (b.envK K) n_median c_median)(ho2:Here (b.envK K) n_order2 c_order2){o sp:Nat}{l0 l:List Sy}{σ τ:St}(h60:l0.length≤60000)(hS:SS o l0 σ l τ)(hc:Cnt sp τ)(hsp:σ.next≤sp)(hne:sp≠o)(lo hi x y w:Nat)(hx:lo≤x∧x<hi)(hy:lo≤y∧y<hi)(hw:lo≤w∧w<hi)(hhi:hi≤l0.length):
  GoesCall (b.envK K) 0 (.f (.func n_median) [] []) [rowV o l0,nI x,nI y,nI w,.p (some (sp,0)),cmpV] τ (fun r τ'=>∃p,r= .ok (nI p)∧(lo≤p∧p<hi)∧SS o l0 σ l τ'∧Cnt sp τ'):=by
 refine GoesCall.code hh.e hh.p hh.f rfl rfl rfl rfl ?_
 refine GoF.seq (GoF.region ?_)
 refine sA ?_
 refine GoO.nil (GoF.seq (GoF.region ?_))
 refine sA ?_
 refine GoO.callG rfl rfl rfl (order2_go hf hs1 es1 ho2 h60 hS hc hsp hne x y (by omega) (by omega)) fun r τ1 ⟨p,q,e1,hpq,hS,hc⟩=>⟨_,e1,?_⟩
 refine sA ?_
 refine GoO.nil (GoF.norm [(0,rowV o l0),(1,nI p),(2,nI q),(3,nI w),(4,.p (some (sp,0))),(5,cmpV)] ⟨rfl,rfl,rfl,rfl,rfl,rfl,trivial⟩ fun g=>?_)
 have hp:lo≤p∧p<hi:=by omega
 have hq:lo≤q∧q<hi:=by omega
 clear hpq
 refine GoF.seq (GoF.region ?_)
 refine sA ?_
 refine GoO.callG rfl rfl rfl (order2_go hf hs1 es1 ho2 h60 hS hc hsp hne q w (by omega) (by omega)) fun r τ1 ⟨p2,q2,e1,hpq,hS,hc⟩=>⟨_,e1,?_⟩
 refine sA ?_
 refine GoO.nil (GoF.norm [(0,rowV o l0),(1,nI p),(2,nI p2),(3,nI q2),(4,.p (some (sp,0))),(5,cmpV)] ⟨rfl,rfl,rfl,rfl,rfl,rfl,trivial⟩ fun g=>?_)
 have hp2:lo≤p2∧p2<hi:=by omega
 clear hpq hq
 refine GoF.seq (GoF.region ?_)
 refine sA ?_
 refine GoO.callG rfl rfl rfl (order2_go hf hs1 es1 ho2 h60 hS hc hsp hne p p2 (by omega) (by omega)) fun r τ1 ⟨p3,q3,e1,hpq,hS,hc⟩=>⟨_,e1,?_⟩
 refine sA ?_
 refine GoO.nil (GoF.seq (GoF.region ?_))
 refine sA ?_
 exact GoO.nil (GoF.ret ⟨rfl,q3,rfl,by omega,hS,hc⟩)
include hf hs1 es1 in
theorem medianAdj_go(hh:Here (b.envK K) n_medianAdj c_medianAdj)(hm:Here (b.envK K) n_median c_median)(ho2:Here (b.envK K) n_order2 c_order2){o sp:Nat}{l0 l:List Sy}{σ τ:St}(h60:l0.length≤60000)(hS:SS o l0 σ l τ)(hc:Cnt sp τ)(hsp:σ.next≤sp)(hne:sp≠o)(lo hi x:Nat)(hx:lo+1≤x∧x+1<hi)(hhi:hi≤l0.length):
  GoesCall (b.envK K) 0 (.f (.func n_medianAdj) [] []) [rowV o l0,nI x,.p (some (sp,0)),cmpV] τ (fun r τ'=>∃p,r= .ok (nI p)∧(lo≤p∧p<hi)∧SS o l0 σ l τ'∧Cnt sp τ'):=by
 refine GoesCall.code hh.e hh.p hh.f rfl rfl rfl rfl ?_
 refine GoF.seq (GoF.region ?_)
 refine sA ?_
 refine GoO.nil (GoF.seq (GoF.region ?_))
 refine sA ?_
 refine GoO.callG rfl rfl rfl (median_go hf hs1 es1 hm ho2 h60 hS hc hsp hne lo hi (x-1) x (x+1) (by omega) (by omega) (by omega) hhi) fun r τ1 ⟨p,e1,hp,hS,hc⟩=>⟨_,e1,?_⟩
 refine sA ?_
 exact GoO.nil (GoF.ret ⟨rfl,p,rfl,hp,hS,hc⟩)
end
end Go.Lyc
end
noncomputable section
namespace Go.Lyc
variable [Tok][TokOk]
open Go.RowKit Go.Lyc.T
theorem bin_quoN{a c:Nat}(hc:c≠0)(ha:a<2^63):binop .quo (nI a) (nI c)=some (nI (a/c)):=by
 show(if Int.ofNat c=0 then none else some (AV.i .i64 (IntKind.wrap .i64 ((Int.ofNat a).tdiv (Int.ofNat c)))))=_
 rw[if_neg (by simpa using hc)]
 have e:(Int.ofNat a).tdiv (Int.ofNat c)=((a/c:Nat):Int):=rfl
 rw[e,wrap_nat (Nat.lt_of_le_of_lt (Nat.div_le_self _ _) ha)];rfl
section
variable {b:Base}{K:Nat→List AV→AV→Prop}(hf:∀g ar r r',K g ar r→K g ar r'→r=r')(hs1:∀a c:Sy,K n_sorted1 [symA a,symA c] (.i .i64 (cmpSy a c)))(es1:b.ext n_sorted1=0∧b.pure n_sorted1=true)
include hf hs1 es1 in
theorem choosePivot_go(hh:Here (b.envK K) n_choosePivot c_choosePivot)(hma:Here (b.envK K) n_medianAdj c_medianAdj)(hm:Here (b.envK K) n_median c_median)(ho2:Here (b.envK K) n_order2 c_order2){o:Nat}{l0 l:List Sy}{σ τ:St}(h60:l0.length≤60000)(hS:SS o l0 σ l τ)(x y:Nat)(hx:x+13≤y)(hy:y≤l0.length):
  GoesCall (b.envK K) 0 (.f (.func n_choosePivot) [] []) [rowV o l0,nI x,nI y,cmpV] τ (fun r τ'=>∃p z,r= .ok (.tu [nI p,.i .i64 z])∧(x≤p∧p<y)∧SS o l0 σ l τ'):=by
 refine GoesCall.code2 hh.e hh.p hh.f rfl rfl rfl rfl rfl ?_
 have hl:=hS.len
 have hob:=St.get_lt hS.blk
 have hnx:=hS.nx
 refine GoF.seq (GoF.region ?_)
 refine sA ?_
 refine GoO.nil (GoF.seq (GoF.region ?_))
 refine sA ?_
 refine GoO.nil (GoF.seq (GoF.region ?_))
 generalize hsp:τ.next=sp at hob hnx
 refine GoO.alloc sp hsp rfl rfl rfl fun τ1 n1 h1 k1=>?_
 replace hS:=hS.more (by omega) k1
 have hq:(y-x)/4*3<y-x:=by omega
 generalize hn:(y-x)/4=q at hq
 have hq3:3≤q:=by omega
 refine GoO.nil (GoF.seq (GoF.region ?_))
 refine sA ?_
 refine GoO.bin (a:=nI (y-x)) (b:=nI 4) rfl rfl rfl rfl (bin_quoN (by omega) (by omega)) ?_
 rw[hn]
 refine GoO.bin (a:=nI q) (b:=nI 1) rfl rfl rfl rfl (bin_mul (by omega)) ?_
 refine GoO.bin (a:=nI x) (b:=nI (q*1)) rfl rfl rfl rfl (bin_add (by omega)) ?_
 refine sA ?_
 refine GoO.nil (GoF.seq (GoF.region ?_))
 refine sA ?_
 refine GoO.bin (a:=nI (y-x)) (b:=nI 4) rfl rfl rfl rfl (bin_quoN (by omega) (by omega)) ?_
 rw[hn]
 refine GoO.bin (a:=nI q) (b:=nI 2) rfl rfl rfl rfl (bin_mul (by omega)) ?_
 refine GoO.bin (a:=nI x) (b:=nI (q*2)) rfl rfl rfl rfl (bin_add (by omega)) ?_
 refine sA ?_
 refine GoO.nil (GoF.seq (GoF.region ?_))
 refine sA ?_
 refine GoO.bin (a:=nI (y-x)) (b:=nI 4) rfl rfl rfl rfl (bin_quoN (by omega) (by omega)) ?_
 rw[hn]
 refine GoO.bin (a:=nI q) (b:=nI 3) rfl rfl rfl rfl (bin_mul (by omega)) ?_
 refine GoO.bin (a:=nI x) (b:=nI (q*3)) rfl rfl rfl rfl (bin_add (by omega)) ?_
 refine sA ?_
 refine GoO.nil (GoF.norm [(0,rowV o l0),(3,cmpV),(10,nI (y-x)),(11,.p (some (sp,0))),(12,nI (x+q*1)),(13,nI (x+q*2)),(14,nI (x+q*3))] ⟨rfl,rfl,rfl,rfl,rfl,rfl,rfl,trivial⟩ fun g=>?_)
 have hne:sp≠o:=by omega
 have hc:Cnt sp τ1:=⟨0,h1⟩
 clear k1 h1 n1 hsp
 refine GoF.cutE (fun(p:Nat)=>[(11,.p (some (sp,0))),(13,nI p)]) (fun p τ=>SS o l0 σ l τ∧Cnt sp τ∧x≤p∧p<y) (GoF.seq (GoF.region ?_)) fun p τ g ⟨hS,hc,hp1,hp2⟩=>?_
 ·refine GoO.go rfl rfl rfl rfl ?_
  refine GoO.bin (a:=nI (y-x)) (b:=nI 8) (v:=.b true) rfl rfl rfl rfl (bin_cmp (by show some (AV.b (decide (8≤y-x)))=_;rw[decide_eq_true (by omega)])) ?_
  refine GoO.nil (GoF.cnd rfl (fun _=>?_) fun h=>by cases h)
  refine GoF.cutE (fun(t:Nat×Nat×Nat)=>[(0,rowV o l0),(3,cmpV),(11,.p (some (sp,0))),(12,nI t.1),(13,nI t.2.1),(14,nI t.2.2)]) (fun t τ=>SS o l0 σ l τ∧Cnt sp τ∧(x≤t.1∧t.1<y)∧(x≤t.2.1∧t.2.1<y)∧(x≤t.2.2∧t.2.2<y)) (GoF.seq (GoF.region ?_)) fun t τ g ⟨hS,hc,h1,h2,h3⟩=>GoF.region ?_
  ·refine GoO.go rfl rfl rfl rfl ?_
   refine GoO.bin (a:=nI (y-x)) (b:=nI 50) (v:=.b (decide (50≤y-x))) rfl rfl rfl rfl (bin_cmp rfl) ?_
   refine GoO.nil (GoF.cnd rfl (fun h=>?_) fun h=>?_)
   ·have h50:=of_decide_eq_true h
    refine GoF.seq (GoF.region ?_)
    refine sA ?_
    refine GoO.callG rfl rfl rfl (medianAdj_go hf hs1 es1 hma hm ho2 h60 hS hc hnx hne x y (x+q*1) (by omega) hy) fun r τ2 ⟨p,e1,hp,hS,hc⟩=>⟨_,e1,?_⟩
    refine sA ?_
    refine GoO.nil (GoF.seq (GoF.region ?_))
    refine sA ?_
    refine GoO.callG rfl rfl rfl (medianAdj_go hf hs1 es1 hma hm ho2 h60 hS hc hnx hne x y (x+q*2) (by omega) hy) fun r τ3 ⟨p2,e1,hp2,hS,hc⟩=>⟨_,e1,?_⟩
    refine sA ?_
    refine GoO.nil (GoF.region ?_)
    refine sA ?_
    refine GoO.callG rfl rfl rfl (medianAdj_go hf hs1 es1 hma hm ho2 h60 hS hc hnx hne x y (x+q*3) (by omega) hy) fun r τ3 ⟨p3,e1,hp3,hS,hc⟩=>⟨_,e1,?_⟩
    refine sA ?_
    exact GoO.nil ⟨rfl,(p,p2,p3),⟨hS,hc,hp,hp2,hp3⟩,rfl,rfl,rfl,rfl,rfl,rfl,trivial⟩
   ·exact GoF.skip ⟨rfl,(x+q*1,x+q*2,x+q*3),⟨hS,hc,by show x≤x+q*1∧x+q*1<y;omega,by show x≤x+q*2∧x+q*2<y;omega,by show x≤x+q*3∧x+q*3<y;omega⟩,rfl,rfl,rfl,rfl,rfl,rfl,trivial⟩
  ·obtain⟨i,j,k⟩:=t
   refine sA ?_
   refine GoO.callG rfl rfl rfl (median_go hf hs1 es1 hm ho2 h60 hS hc hnx hne x y i j k h1 h2 h3 hy) fun r τ3 ⟨p3,e1,hp3,hS,hc⟩=>⟨_,e1,?_⟩
   refine sA ?_
   exact GoO.nil ⟨rfl,p3,⟨hS,hc,hp3.1,hp3.2⟩,rfl,rfl,trivial⟩
 ·obtain⟨z,hz⟩:=hc
  refine GoF.seq (GoF.region ?_)
  refine GoO.ld (v:=.i .i64 z) hz rfl rfl rfl rfl ?_
  refine GoO.nil (GoF.block (GoF.seq (GoF.region ?_)))
  refine GoO.bin (a:=.i .i64 z) (b:=.i .i64 0) (v:=.b (decide (z=0))) rfl rfl rfl rfl rfl ?_
  refine sA ?_
  refine GoO.nil (GoF.cnd rfl (fun h=>?_) fun h=>?_)
  ·refine GoF.seq (GoF.region ?_)
   refine sA ?_
   exact GoO.nil (GoF.ret ⟨rfl,p,1,rfl,⟨hp1,hp2⟩,hS⟩)
  refine GoF.seq (GoF.region ?_)
  refine GoO.bin (a:=.i .i64 z) (b:=.i .i64 12) (v:=.b (decide (z=12))) rfl rfl rfl rfl rfl ?_
  refine sA ?_
  refine GoO.nil (GoF.cnd rfl (fun h=>?_) fun h=>?_)
  ·refine GoF.seq (GoF.region ?_)
   refine sA ?_
   exact GoO.nil (GoF.ret ⟨rfl,p,2,rfl,⟨hp1,hp2⟩,hS⟩)
  ·refine GoF.seq (GoF.region ?_)
   refine sA ?_
   exact GoO.nil (GoF.ret ⟨rfl,p,0,rfl,⟨hp1,hp2⟩,hS⟩)
include hf hs1 es1 in
theorem partEq_go(hh:Here (b.envK K) n_partEq c_partEq){o:Nat}{l0 l:List Sy}{σ τ:St}(h60:l0.length≤60000)(hS:SS o l0 σ l τ)(x y w:Nat)(hx:x+1<y)(hw:x≤w∧w<y)(hy:y≤l0.length):
  GoesCall (b.envK K) 0 (.f (.func n_partEq) [] []) [rowV o l0,nI x,nI y,nI w,cmpV] τ (fun r τ'=>∃p l',r= .ok (nI p)∧(x<p∧p≤y)∧SS o l0 σ l' τ'):=by
 refine GoesCall.code hh.e hh.p hh.f rfl rfl rfl rfl ?_
 have hl:=hS.len
 refine GoF.seq (GoF.region ?_)
 refine sA ?_
 refine GoO.nil (GoF.seq (GoF.drawK 0 rfl (GoK.fin (gs:=[]) .nil rfl ?_)))
 iterate 12 (first|refine GoO.idx rfl rfl rfl rfl (idxSlA_sl (by omega)) ?_|refine GoO.ld hS.blk rfl rfl rfl (elemT (by omega)) ?_|refine GoO.go rfl rfl rfl rfl ?_)
 refine GoO.swap hS (i:=x) (j:=w) (by omega) (by omega) rfl rfl rfl rfl rfl rfl rfl rfl rfl rfl fun τ1 hS n1 _=>?_
 generalize swp l x w _ _=l1 at hS
 refine GoO.nil ⟨rfl,GoF.seq (GoF.region ?_)⟩
 refine sA ?_
 refine GoO.nil (GoF.seq (GoF.block ?_))
 refine GoF.loop (fun m f τ=>∃i j l,j+1≤i+m∧(x<i∧i≤y)∧(x≤j∧j<y)∧SS o l0 σ l τ∧sat [(0,rowV o l0),(1,nI x),(4,cmpV),(11,nI i),(12,nI j)] f) ?_ y ⟨x+1,y-1,l1,by omega,by omega,by omega,hS,rfl,rfl,rfl,rfl,rfl,trivial⟩
 clear hS n1
 rintro m g τ ⟨i,j,l,hm,hi,hj,hS,hL⟩
 refine GoF.norm _ hL fun g=>?_
 clear hL
 have hl:=hS.len
 refine GoF.block ?_
 refine GoF.cutE (fun(i:Nat)=>[(0,rowV o l0),(1,nI x),(4,cmpV),(11,nI i),(12,nI j)]) (fun i' τ'=>τ'=τ∧(i≤i'∧i'≤y)) (GoF.block ?_) fun i' τ' g ⟨e,hi'⟩=>?_
 ·refine GoF.loop (fun m f τ'=>∃i',i'+m=y+1∧τ'=τ∧(i≤i'∧i'≤y)∧sat [(0,rowV o l0),(1,nI x),(4,cmpV),(11,nI i'),(12,nI j)] f) ?_ (y+1-i) ⟨i,by omega,rfl,by omega,rfl,rfl,rfl,rfl,rfl,trivial⟩
  rintro m g τ' ⟨i',hm',rfl,hi',hL⟩
  refine GoF.norm _ hL fun g=>?_
  clear hL
  refine GoF.seq (GoF.seq (GoF.draw rfl rfl ?_))
  refine GoP.go rfl rfl rfl rfl ?_
  refine GoP.go rfl rfl rfl rfl ?_
  refine GoP.cmp (a:=i') (b:=j) rfl rfl rfl rfl rfl ?_
  by_cases hij:i'≤j
  ·rw[show decide (i'≤j)=true from decide_eq_true hij]
   refine sBh ?_
   refine GoP.nil (GoF.cnd rfl (fun h=>GoF.skip ?_) fun h=>?_)
   ·refine GoF.block (GoF.region ?_)
    refine sA ?_
    exact GoO.nil ⟨m-1,by omega,i'+1,by omega,rfl,by omega,rfl,rfl,rfl,rfl,rfl,trivial⟩
   ·exact GoF.exit ⟨rfl,i',⟨rfl,hi'⟩,rfl,rfl,rfl,rfl,rfl,trivial⟩
  ·rw[show decide (i'≤j)=false from decide_eq_false hij]
   refine sP ?_
   refine GoF.cnd rfl (fun h=>by cases h) fun h=>?_
   exact GoF.exit ⟨rfl,i',⟨rfl,hi'⟩,rfl,rfl,rfl,rfl,rfl,trivial⟩
 subst e
 refine GoF.cutE (fun(j:Nat)=>[(0,rowV o l0),(1,nI x),(4,cmpV),(11,nI i'),(12,nI j)]) (fun j' τ2=>τ2=τ'∧(x≤j'∧j'≤j)) (GoF.block ?_) fun j' τ2 g ⟨e,hj'⟩=>?_
 ·refine GoF.loop (fun m f τ2=>∃j',m=j'∧τ2=τ'∧(x≤j'∧j'≤j)∧sat [(0,rowV o l0),(1,nI x),(4,cmpV),(11,nI i'),(12,nI j')] f) ?_ j ⟨j,rfl,rfl,by omega,rfl,rfl,rfl,rfl,rfl,trivial⟩
  rintro m g τ2 ⟨j',rfl,rfl,hj',hL⟩
  refine GoF.norm _ hL fun g=>?_
  clear hL
  refine GoF.seq (GoF.seq (GoF.draw rfl rfl ?_))
  refine GoP.go rfl rfl rfl rfl ?_
  refine GoP.go rfl rfl rfl rfl ?_
  refine GoP.cmp (a:=i') (b:=m) rfl rfl rfl rfl rfl ?_
  by_cases hij:i'≤m
  ·rw[show decide (i'≤m)=true from decide_eq_true hij]
   refine sBh ?_
   refine GoP.nil (GoF.cnd rfl (fun h=>GoF.skip ?_) fun h=>?_)
   ·refine GoF.block (GoF.region ?_)
    refine sA ?_
    exact GoO.nil ⟨m-1,by omega,m-1,rfl,rfl,by omega,rfl,rfl,rfl,rfl,rfl,trivial⟩
   ·exact GoF.exit ⟨rfl,m,⟨rfl,hj'⟩,rfl,rfl,rfl,rfl,rfl,trivial⟩
  ·rw[show decide (i'≤m)=false from decide_eq_false hij]
   refine sP ?_
   refine GoF.cnd rfl (fun h=>by cases h) fun h=>?_
   exact GoF.exit ⟨rfl,m,⟨rfl,hj'⟩,rfl,rfl,rfl,rfl,rfl,trivial⟩
 subst e
 refine GoF.seq (GoF.seq (GoF.region ?_))
 refine sA ?_
 refine GoO.nil (GoF.cnd rfl (fun h=>?_) fun h=>GoF.skip ?_)
 ·refine GoF.exit ?_
  refine GoF.seq (GoF.region ?_)
  refine sA ?_
  exact GoO.nil (GoF.ret ⟨rfl,i',l,rfl,by omega,hS⟩)
 ·have hij:¬j'<i':=of_decide_eq_false h
  refine GoF.seq (GoF.drawK 0 rfl (GoK.fin (gs:=[]) .nil rfl ?_))
  iterate 12 (first|refine GoO.idx rfl rfl rfl rfl (idxSlA_sl (by omega)) ?_|refine GoO.ld hS.blk rfl rfl rfl (elemT (by omega)) ?_|refine GoO.go rfl rfl rfl rfl ?_)
  refine GoO.swap hS (i:=i') (j:=j') (by omega) (by omega) rfl rfl rfl rfl rfl rfl rfl rfl rfl rfl fun τ3 hS3 n3 _=>?_
  refine GoO.nil ⟨rfl,GoF.seq (GoF.region ?_)⟩
  refine sA ?_
  refine GoO.nil (GoF.region ?_)
  refine sA ?_
  exact GoO.nil ⟨m-2,by omega,i'+1,j'-1,_,by omega,by omega,by omega,hS3,rfl,rfl,rfl,rfl,rfl,trivial⟩
end
end Go.Lyc
end
noncomputable section
namespace Go.Lyc
variable [Tok][TokOk]
open Go.RowKit Go.Lyc.T
section
variable {b:Base}{K:Nat→List AV→AV→Prop}(hf:∀g ar r r',K g ar r→K g ar r'→r=r')(hs1:∀a c:Sy,K n_sorted1 [symA a,symA c] (.i .i64 (cmpSy a c)))(es1:b.ext n_sorted1=0∧b.pure n_sorted1=true)
set_option maxHeartbeats 1000000 in
include hf hs1 es1 in
theorem partition_go(hh:Here (b.envK K) n_partition c_partition){o:Nat}{l0 l:List Sy}{σ τ:St}(h60:l0.length≤60000)(hS:SS o l0 σ l τ)(x y w:Nat)(hx:x+1<y)(hw:x≤w∧w<y)(hy:y≤l0.length):
  GoesCall (b.envK K) 0 (.f (.func n_partition) [] []) [rowV o l0,nI x,nI y,nI w,cmpV] τ (fun r τ'=>∃p q l',r= .ok (.tu [nI p,.b q])∧(x≤p∧p<y)∧SS o l0 σ l' τ'):=by
 refine GoesCall.code2 hh.e hh.p hh.f rfl rfl rfl rfl rfl ?_
 have hl:=hS.len
 refine GoF.seq (GoF.region ?_)
 refine sA ?_
 refine GoO.nil ?_
 refine GoF.seq (GoF.drawK 0 rfl (GoK.fin (gs:=[]) .nil rfl ?_))
 iterate 12 refine sK ?_
 refine GoO.swap hS (i:=x) (j:=w) (by omega) (by omega) rfl rfl rfl rfl rfl rfl rfl rfl rfl rfl fun τ hS n1 _=>?_
 generalize swp l x w _ _=l at hS
 replace hl:=hS.len
 refine GoO.nil ⟨rfl,GoF.seq (GoF.region ?_)⟩
 refine sA ?_
 refine GoO.nil (GoF.norm [(0,rowV o l0),(1,nI x),(4,cmpV),(12,nI (x+1)),(13,nI (y-1))] ⟨rfl,rfl,rfl,rfl,rfl,trivial⟩ fun g=>?_)
 obtain⟨i,hi⟩:∃i,i=x+1:=⟨_,rfl⟩
 obtain⟨j,hj⟩:∃j,j=y-1:=⟨_,rfl⟩
 rw[←hi,← hj]
 clear n1
 refine GoF.cutE (fun(i:Nat)=>[(0,rowV o l0),(1,nI x),(4,cmpV),(12,nI i),(13,nI j)]) (fun i' τ'=>τ'=τ∧(i≤i'∧i'≤y)) (GoF.block ?_) fun i' τ' g ⟨e,hi'⟩=>?_
 ·refine GoF.loop (fun m f τ'=>∃i',i'+m=y+1∧τ'=τ∧(i≤i'∧i'≤y)∧sat [(0,rowV o l0),(1,nI x),(4,cmpV),(12,nI i'),(13,nI j)] f) ?_ (y+1-i) ⟨i,by omega,rfl,by omega,rfl,rfl,rfl,rfl,rfl,trivial⟩
  rintro m g τ' ⟨i',hm',rfl,hi',hL⟩
  refine GoF.norm _ hL fun g=>?_
  clear hL
  refine GoF.seq (GoF.seq (GoF.draw rfl rfl ?_))
  refine GoP.go rfl rfl rfl rfl ?_
  refine GoP.go rfl rfl rfl rfl ?_
  refine GoP.cmp (a:=i') (b:=j) rfl rfl rfl rfl rfl ?_
  by_cases hij:i'≤j
  ·rw[show decide (i'≤j)=true from decide_eq_true hij]
   refine sBh ?_
   refine GoP.nil (GoF.cnd rfl (fun h=>GoF.skip ?_) fun h=>?_)
   ·refine GoF.block (GoF.region ?_)
    refine sA ?_
    exact GoO.nil ⟨m-1,by omega,i'+1,by omega,rfl,by omega,rfl,rfl,rfl,rfl,rfl,trivial⟩
   ·exact GoF.exit ⟨rfl,i',⟨rfl,hi'⟩,rfl,rfl,rfl,rfl,rfl,trivial⟩
  ·rw[show decide (i'≤j)=false from decide_eq_false hij]
   refine sP ?_
   refine GoF.cnd rfl (fun h=>by cases h) fun h=>?_
   exact GoF.exit ⟨rfl,i',⟨rfl,hi'⟩,rfl,rfl,rfl,rfl,rfl,trivial⟩
 subst e
 refine GoF.cutE (fun(j:Nat)=>[(0,rowV o l0),(1,nI x),(4,cmpV),(12,nI i'),(13,nI j)]) (fun j' τ2=>τ2=τ'∧(x≤j'∧j'≤j)) (GoF.block ?_) fun j' τ2 g ⟨e,hj'⟩=>?_
 ·refine GoF.loop (fun m f τ2=>∃j',m=j'∧τ2=τ'∧(x≤j'∧j'≤j)∧sat [(0,rowV o l0),(1,nI x),(4,cmpV),(12,nI i'),(13,nI j')] f) ?_ j ⟨j,rfl,rfl,by omega,rfl,rfl,rfl,rfl,rfl,trivial⟩
  rintro m g τ2 ⟨j',rfl,rfl,hj',hL⟩
  refine GoF.norm _ hL fun g=>?_
  clear hL
  refine GoF.seq (GoF.seq (GoF.draw rfl rfl ?_))
  refine GoP.go rfl rfl rfl rfl ?_
  refine GoP.go rfl rfl rfl rfl ?_
  refine GoP.cmp (a:=i') (b:=m) rfl rfl rfl rfl rfl ?_
  by_cases hij:i'≤m
  ·rw[show decide (i'≤m)=true from decide_eq_true hij]
   refine sBh ?_
   refine GoP.nil (GoF.cnd rfl (fun h=>GoF.skip ?_) fun h=>?_)
   ·refine GoF.block (GoF.region ?_)
    refine sA ?_
    exact GoO.nil ⟨m-1,by omega,m-1,rfl,rfl,by omega,rfl,rfl,rfl,rfl,rfl,trivial⟩
   ·exact GoF.exit ⟨rfl,m,⟨rfl,hj'⟩,rfl,rfl,rfl,rfl,rfl,trivial⟩
  ·rw[show decide (i'≤m)=false from decide_eq_false hij]
   refine sP ?_
   refine GoF.cnd rfl (fun h=>by cases h) fun h=>?_
   exact GoF.exit ⟨rfl,m,⟨rfl,hj'⟩,rfl,rfl,rfl,rfl,rfl,trivial⟩
 subst e
 refine GoF.seq (GoF.seq (GoF.region ?_))
 refine sA ?_
 refine GoO.nil (GoF.cnd rfl (fun h=>?_) fun h=>GoF.skip ?_)
 ·have hij:j'<i':=of_decide_eq_true h
  refine GoF.seq (GoF.drawK 0 rfl (GoK.fin (gs:=[]) .nil rfl ?_))
  iterate 12 refine sK ?_
  refine GoO.swap hS (i:=j') (j:=x) (by omega) (by omega) rfl rfl rfl rfl rfl rfl rfl rfl rfl rfl fun τ3 hS3 n3 _=>?_
  refine GoO.nil ⟨rfl,GoF.seq (GoF.region ?_)⟩
  refine sA ?_
  exact GoO.nil (GoF.ret ⟨rfl,j',true,_,rfl,by omega,hS3⟩)
 have hij:¬j'<i':=of_decide_eq_false h
 refine GoF.seq (GoF.drawK 0 rfl (GoK.fin (gs:=[]) .nil rfl ?_))
 iterate 12 refine sK ?_
 refine GoO.swap hS (i:=i') (j:=j') (by omega) (by omega) rfl rfl rfl rfl rfl rfl rfl rfl rfl rfl fun τ3 hS3 n3 _=>?_
 generalize swp l i' j' _ _=l2 at hS3
 refine GoO.nil ⟨rfl,GoF.seq (GoF.region ?_)⟩
 refine sA ?_
 refine GoO.nil (GoF.seq (GoF.region ?_))
 refine sA ?_
 refine GoO.nil ?_
 refine GoF.cutE (fun(t:Nat×Nat)=>[(0,rowV o l0),(1,nI x),(4,cmpV),(12,nI t.1),(13,nI t.2)]) (fun t τ=>(x≤t.2∧t.2<y)∧∃l,SS o l0 σ l τ) (GoF.block ?_) fun t τ g ⟨hj9,l3,hS⟩=>?_
 ·refine GoF.loop (fun m f τ=>∃i j l,j+1≤i+m∧(x<i∧i≤y)∧(x≤j∧j<y)∧SS o l0 σ l τ∧sat [(0,rowV o l0),(1,nI x),(4,cmpV),(12,nI i),(13,nI j)] f) ?_ y ⟨i'+1,j'-1,l2,by omega,by omega,by omega,hS3,rfl,rfl,rfl,rfl,rfl,trivial⟩
  clear hS n3 hS3 hl hij h hj' hi' hj hi
  rintro m g τ ⟨i,j,l,hm,hi,hj,hS,hL⟩
  refine GoF.norm _ hL fun g=>?_
  clear hL
  have hl:=hS.len
  refine GoF.block ?_
  refine GoF.cutE (fun(i:Nat)=>[(0,rowV o l0),(1,nI x),(4,cmpV),(12,nI i),(13,nI j)]) (fun i' τ'=>τ'=τ∧(i≤i'∧i'≤y)) (GoF.block ?_) fun i' τ' g ⟨e,hi'⟩=>?_
  ·refine GoF.loop (fun m f τ'=>∃i',i'+m=y+1∧τ'=τ∧(i≤i'∧i'≤y)∧sat [(0,rowV o l0),(1,nI x),(4,cmpV),(12,nI i'),(13,nI j)] f) ?_ (y+1-i) ⟨i,by omega,rfl,by omega,rfl,rfl,rfl,rfl,rfl,trivial⟩
   rintro m g τ' ⟨i',hm',rfl,hi',hL⟩
   refine GoF.norm _ hL fun g=>?_
   clear hL
   refine GoF.seq (GoF.seq (GoF.draw rfl rfl ?_))
   refine GoP.go rfl rfl rfl rfl ?_
   refine GoP.go rfl rfl rfl rfl ?_
   refine GoP.cmp (a:=i') (b:=j) rfl rfl rfl rfl rfl ?_
   by_cases hij:i'≤j
   ·rw[show decide (i'≤j)=true from decide_eq_true hij]
    refine sBh ?_
    refine GoP.nil (GoF.cnd rfl (fun h=>GoF.skip ?_) fun h=>?_)
    ·refine GoF.block (GoF.region ?_)
     refine sA ?_
     exact GoO.nil ⟨m-1,by omega,i'+1,by omega,rfl,by omega,rfl,rfl,rfl,rfl,rfl,trivial⟩
    ·exact GoF.exit ⟨rfl,i',⟨rfl,hi'⟩,rfl,rfl,rfl,rfl,rfl,trivial⟩
   ·rw[show decide (i'≤j)=false from decide_eq_false hij]
    refine sP ?_
    refine GoF.cnd rfl (fun h=>by cases h) fun h=>?_
    exact GoF.exit ⟨rfl,i',⟨rfl,hi'⟩,rfl,rfl,rfl,rfl,rfl,trivial⟩
  subst e
  refine GoF.cutE (fun(j:Nat)=>[(0,rowV o l0),(1,nI x),(4,cmpV),(12,nI i'),(13,nI j)]) (fun j' τ2=>τ2=τ'∧(x≤j'∧j'≤j)) (GoF.block ?_) fun j' τ2 g ⟨e,hj'⟩=>?_
  ·refine GoF.loop (fun m f τ2=>∃j',m=j'∧τ2=τ'∧(x≤j'∧j'≤j)∧sat [(0,rowV o l0),(1,nI x),(4,cmpV),(12,nI i'),(13,nI j')] f) ?_ j ⟨j,rfl,rfl,by omega,rfl,rfl,rfl,rfl,rfl,trivial⟩
   rintro m g τ2 ⟨j',rfl,rfl,hj',hL⟩
   refine GoF.norm _ hL fun g=>?_
   clear hL
   refine GoF.seq (GoF.seq (GoF.draw rfl rfl ?_))
   refine GoP.go rfl rfl rfl rfl ?_
   refine GoP.go rfl rfl rfl rfl ?_
   refine GoP.cmp (a:=i') (b:=m) rfl rfl rfl rfl rfl ?_
   by_cases hij:i'≤m
   ·rw[show decide (i'≤m)=true from decide_eq_true hij]
    refine sBh ?_
    refine GoP.nil (GoF.cnd rfl (fun h=>GoF.skip ?_) fun h=>?_)
    ·refine GoF.block (GoF.region ?_)
     refine sA ?_
     exact GoO.nil ⟨m-1,by omega,m-1,rfl,rfl,by omega,rfl,rfl,rfl,rfl,rfl,trivial⟩
    ·exact GoF.exit ⟨rfl,m,⟨rfl,hj'⟩,rfl,rfl,rfl,rfl,rfl,trivial⟩
   ·rw[show decide (i'≤m)=false from decide_eq_false hij]
    refine sP ?_
    refine GoF.cnd rfl (fun h=>by cases h) fun h=>?_
    exact GoF.exit ⟨rfl,m,⟨rfl,hj'⟩,rfl,rfl,rfl,rfl,rfl,trivial⟩
  subst e
  refine GoF.seq (GoF.seq (GoF.region ?_))
  refine sA ?_
  refine GoO.nil (GoF.cnd rfl (fun h=>?_) fun h=>GoF.skip ?_)
  ·exact GoF.exit ⟨rfl,(i',j'),⟨by show x≤j'∧j'<y;omega,l,hS⟩,rfl,rfl,rfl,rfl,rfl,trivial⟩
  have hij:¬j'<i':=of_decide_eq_false h
  refine GoF.seq (GoF.drawK 0 rfl (GoK.fin (gs:=[]) .nil rfl ?_))
  iterate 12 refine sK ?_
  refine GoO.swap hS (i:=i') (j:=j') (by omega) (by omega) rfl rfl rfl rfl rfl rfl rfl rfl rfl rfl fun τ3 hS3 n3 _=>?_
  refine GoO.nil ⟨rfl,GoF.seq (GoF.region ?_)⟩
  refine sA ?_
  refine GoO.nil (GoF.region ?_)
  refine sA ?_
  exact GoO.nil ⟨m-2,by omega,i'+1,j'-1,_,by omega,by omega,by omega,hS3,rfl,rfl,rfl,rfl,rfl,trivial⟩
 ·obtain⟨i9,j9⟩:=t
  replace hl:=hS.len
  refine GoF.seq (GoF.drawK 0 rfl (GoK.fin (gs:=[]) .nil rfl ?_))
  iterate 12 refine sK ?_
  refine GoO.swap hS (i:=j9) (j:=x) (by omega) (by omega) rfl rfl rfl rfl rfl rfl rfl rfl rfl rfl fun τ4 hS4 n4 _=>?_
  refine GoO.nil ⟨rfl,GoF.seq (GoF.region ?_)⟩
  refine sA ?_
  exact GoO.nil (GoF.ret ⟨rfl,j9,false,_,rfl,hj9,hS4⟩)
end
end Go.Lyc
end
noncomputable section
namespace Go.Lyc
variable [Tok][TokOk]
open Go.RowKit Go.Lyc.T
section
variable {b:Base}{K:Nat→List AV→AV→Prop}(hf:∀g ar r r',K g ar r→K g ar r'→r=r')(hs1:∀a c:Sy,K n_sorted1 [symA a,symA c] (.i .i64 (cmpSy a c)))(es1:b.ext n_sorted1=0∧b.pure n_sorted1=true)
set_option maxHeartbeats 1000000 in
include hf hs1 es1 in
theorem partIns_go(hh:Here (b.envK K) n_partIns c_partIns){o:Nat}{l0 l:List Sy}{σ τ:St}(h60:l0.length≤60000)(hS:SS o l0 σ l τ)(x y:Nat)(hx:x+1<y)(hy:y≤l0.length):
  GoesCall (b.envK K) 0 (.f (.func n_partIns) [] []) [rowV o l0,nI x,nI y,cmpV] τ (fun r τ'=>∃q l',r= .ok (.b q)∧SS o l0 σ l' τ'):=by
 refine GoesCall.code hh.e hh.p hh.f rfl rfl rfl rfl ?_
 refine GoF.seq (GoF.region ?_)
 refine sA ?_
 refine GoO.nil (GoF.seq (GoF.region ?_))
 refine sA ?_
 refine GoO.nil (GoF.seq (GoF.seq (GoF.region ?_)))
 refine sA ?_
 refine GoO.nil (GoF.block ?_)
 refine GoF.loop (fun m f τ=>∃i c l,c+m=5∧(x<i∧i≤y)∧SS o l0 σ l τ∧sat [(0,rowV o l0),(1,nI x),(2,nI y),(3,cmpV),(9,nI i),(10,nI c)] f) ?_ 5 ⟨x+1,0,l,by omega,by omega,hS,rfl,rfl,rfl,rfl,rfl,rfl,trivial⟩
 clear hS
 rintro m g τ ⟨i,c,l,hm,hi,hS,hL⟩
 refine GoF.norm _ hL fun g=>?_
 clear hL
 refine GoF.seq (GoF.seq (GoF.region ?_))
 refine GoO.go rfl rfl rfl rfl ?_
 refine GoO.cmp (a:=c) (b:=5) rfl rfl rfl rfl rfl ?_
 refine GoO.nil (GoF.cnd rfl (fun h=>GoF.skip ?_) fun h=>GoF.exit ?_)
 rotate_left
 ·refine GoF.seq (GoF.region ?_)
  refine sA ?_
  exact GoO.nil (GoF.ret ⟨rfl,false,l,rfl,hS⟩)
 have hc5:c<5:=of_decide_eq_true h
 clear h
 refine GoF.seq (GoF.block ?_)
 have hl:=hS.len
 refine GoF.cutE (fun(i:Nat)=>[(0,rowV o l0),(1,nI x),(2,nI y),(3,cmpV),(9,nI i),(10,nI c)]) (fun i' τ'=>τ'=τ∧(i≤i'∧i'≤y)) (GoF.block ?_) fun i' τ' g ⟨e,hi'⟩=>?_
 ·refine GoF.loop (fun m f τ'=>∃i',i'+m=y+1∧τ'=τ∧(i≤i'∧i'≤y)∧sat [(0,rowV o l0),(1,nI x),(2,nI y),(3,cmpV),(9,nI i'),(10,nI c)] f) ?_ (y+1-i) ⟨i,by omega,rfl,by omega,rfl,rfl,rfl,rfl,rfl,rfl,trivial⟩
  clear hm
  rintro m g τ' ⟨i',hm',rfl,hi',hL⟩
  refine GoF.norm _ hL fun g=>?_
  clear hL
  refine GoF.seq (GoF.seq (GoF.draw rfl rfl ?_))
  refine GoP.go rfl rfl rfl rfl ?_
  refine GoP.go rfl rfl rfl rfl ?_
  refine GoP.cmp (a:=i') (b:=y) rfl rfl rfl rfl rfl ?_
  by_cases hij:i'<y
  ·rw[show decide (i'<y)=true from decide_eq_true hij]
   refine sBh ?_
   refine GoP.nil (GoF.cnd rfl (fun h=>GoF.skip ?_) fun h=>?_)
   ·refine GoF.block (GoF.region ?_)
    refine sA ?_
    exact GoO.nil ⟨m-1,by omega,i'+1,by omega,rfl,by omega,rfl,rfl,rfl,rfl,rfl,rfl,trivial⟩
   ·exact GoF.exit ⟨rfl,i',⟨rfl,hi'⟩,rfl,rfl,rfl,rfl,rfl,rfl,trivial⟩
  ·rw[show decide (i'<y)=false from decide_eq_false hij]
   refine sP ?_
   refine GoF.cnd rfl (fun h=>by cases h) fun h=>?_
   exact GoF.exit ⟨rfl,i',⟨rfl,hi'⟩,rfl,rfl,rfl,rfl,rfl,rfl,trivial⟩
 subst e
 refine GoF.seq (GoF.seq (GoF.region ?_))
 refine sA ?_
 refine GoO.nil (GoF.cnd rfl (fun h=>?_) fun h=>GoF.skip ?_)
 ·refine GoF.seq (GoF.region ?_)
  refine sA ?_
  exact GoO.nil (GoF.ret ⟨rfl,true,l,rfl,hS⟩)
 have hiy:¬i'=y:=of_decide_eq_false h
 clear h
 refine GoF.seq (GoF.seq (GoF.region ?_))
 refine sA ?_
 refine GoO.nil (GoF.cnd rfl (fun h=>?_) fun h=>GoF.skip ?_)
 ·refine GoF.seq (GoF.region ?_)
  refine sA ?_
  exact GoO.nil (GoF.ret ⟨rfl,false,l,rfl,hS⟩)
 clear h
 refine GoF.seq (GoF.drawK 0 rfl (GoK.fin (gs:=[]) .nil rfl ?_))
 iterate 14 refine sK ?_
 refine GoO.swap hS (i:=i') (j:=i'-1) (by omega) (by omega) rfl rfl rfl rfl rfl rfl rfl rfl rfl rfl fun τ hS n3 _=>?_
 generalize swp l i' (i'-1) _ _=l at hS
 replace hl:=hS.len
 refine GoO.nil ⟨rfl,?_⟩
 refine GoF.cutE (fun(_:Unit)=>[(0,rowV o l0),(1,nI x),(2,nI y),(3,cmpV),(9,nI i'),(10,nI c)]) (fun _ τ=>∃l,SS o l0 σ l τ) (GoF.seq (GoF.region ?_)) fun _ τ g ⟨l,hS⟩=>?_
 ·refine sA ?_
  refine GoO.nil (GoF.cnd rfl (fun h=>?_) fun h=>?_)
  ·refine GoF.seq (GoF.region ?_)
   refine sA ?_
   refine GoO.nil (GoF.block ?_)
   refine GoF.loop (fun m f τ=>∃l,m<i'∧SS o l0 σ l τ∧sat [(0,rowV o l0),(1,nI x),(2,nI y),(3,cmpV),(9,nI i'),(10,nI c),(11,nI m)] f) ?_ (i'-1) ⟨l,by omega,hS,rfl,rfl,rfl,rfl,rfl,rfl,rfl,trivial⟩
   clear hm hS hl
   rintro m g τ ⟨l,hm,hS,hL⟩
   refine GoF.norm _ hL fun g=>?_
   clear hL
   have hl:=hS.len
   refine GoF.seq (GoF.seq (GoF.region ?_))
   refine GoO.go rfl rfl rfl rfl ?_
   refine GoO.cmp (a:=m) (b:=1) rfl rfl rfl rfl rfl ?_
   refine GoO.nil (GoF.cnd rfl (fun h=>GoF.skip ?_) fun h=>GoF.exit ⟨rfl,(),⟨l,hS⟩,rfl,rfl,rfl,rfl,rfl,rfl,trivial⟩)
   have hm1:1≤m:=of_decide_eq_true h
   clear h
   refine GoF.seq (GoF.block (GoF.seq (GoF.seq (GoF.draw rfl rfl ?_))))
   refine sBh ?_
   refine GoP.nil (GoF.cnd rfl (fun h=>GoF.exit ⟨rfl,(),⟨l,hS⟩,rfl,rfl,rfl,rfl,rfl,rfl,trivial⟩) fun h=>GoF.skip ?_)
   refine GoF.drawK 0 rfl (GoK.fin (gs:=[]) .nil rfl ?_)
   iterate 14 refine sK ?_
   refine GoO.swap hS (i:=m) (j:=m-1) (by omega) (by omega) rfl rfl rfl rfl rfl rfl rfl rfl rfl rfl fun τ hS n3 _=>?_
   refine GoO.nil ⟨rfl,GoF.region ?_⟩
   refine sA ?_
   exact GoO.nil ⟨m-1,by omega,_,by omega,hS,rfl,rfl,rfl,rfl,rfl,rfl,rfl,trivial⟩
  ·exact GoF.skip ⟨rfl,(),⟨l,hS⟩,rfl,rfl,rfl,rfl,rfl,rfl,trivial⟩
 replace hl:=hS.len
 refine GoW.mono (Q:=fun e f τ=>e= .normal∧∃(_:Unit),(∃l,SS o l0 σ l τ)∧sat [(0,rowV o l0),(1,nI x),(2,nI y),(3,cmpV),(9,nI i'),(10,nI c)] f) (GoF.seq (GoF.region ?_)) fun e f τ ⟨h1,_,⟨l,hS⟩,hL⟩=>?_
 ·refine sA ?_
  refine GoO.nil (GoF.cnd rfl (fun h=>?_) fun h=>?_)
  ·refine GoF.seq (GoF.region ?_)
   refine sA ?_
   refine GoO.nil (GoF.block ?_)
   refine GoF.loop (fun m f τ=>∃j l,j+m=y+1∧1≤j∧SS o l0 σ l τ∧sat [(0,rowV o l0),(1,nI x),(2,nI y),(3,cmpV),(9,nI i'),(10,nI c),(12,nI j)] f) ?_ (y-i') ⟨i'+1,l,by omega,by omega,hS,rfl,rfl,rfl,rfl,rfl,rfl,rfl,trivial⟩
   clear hm hS hl
   rintro m g τ ⟨j,l,hm,hj,hS,hL⟩
   refine GoF.norm _ hL fun g=>?_
   clear hL
   have hl:=hS.len
   refine GoF.seq (GoF.seq (GoF.region ?_))
   refine sA ?_
   refine GoO.nil (GoF.cnd rfl (fun h=>GoF.skip ?_) fun h=>GoF.exit ⟨rfl,(),⟨l,hS⟩,rfl,rfl,rfl,rfl,rfl,rfl,trivial⟩)
   have hm1:j<y:=of_decide_eq_true h
   clear h
   refine GoF.seq (GoF.block (GoF.seq (GoF.seq (GoF.draw rfl rfl ?_))))
   refine sBh ?_
   refine GoP.nil (GoF.cnd rfl (fun h=>GoF.exit ⟨rfl,(),⟨l,hS⟩,rfl,rfl,rfl,rfl,rfl,rfl,trivial⟩) fun h=>GoF.skip ?_)
   refine GoF.drawK 0 rfl (GoK.fin (gs:=[]) .nil rfl ?_)
   iterate 14 refine sK ?_
   refine GoO.swap hS (i:=j) (j:=j-1) (by omega) (by omega) rfl rfl rfl rfl rfl rfl rfl rfl rfl rfl fun τ hS n3 _=>?_
   refine GoO.nil ⟨rfl,GoF.region ?_⟩
   refine sA ?_
   exact GoO.nil ⟨m-1,by omega,j+1,_,by omega,by omega,hS,rfl,rfl,rfl,rfl,rfl,rfl,rfl,trivial⟩
  ·exact GoF.skip ⟨rfl,(),⟨l,hS⟩,rfl,rfl,rfl,rfl,rfl,rfl,trivial⟩
 subst h1
 refine GoF.norm _ hL fun g=>GoF.region ?_
 refine sA ?_
 exact GoO.nil ⟨m-1,by omega,i',c+1,l,by omega,by omega,hS,rfl,rfl,rfl,rfl,rfl,rfl,trivial⟩
end
end Go.Lyc
end
noncomputable section
namespace Go.Lyc
variable [Tok][TokOk]
open Go.RowKit Go.Lyc.T
theorem bin_pred{k:Nat}(h:k<2^63):binop .sub (nI k) (.i .i64 1)=some (.i .i64 ((k:Int)-1)):=by
 cases k with
 |zero=>rfl
 |succ k=>rw[bin_sub1 (by omega) h];exact congrArg (fun z=>some (AV.i .i64 z)) (by show((k:Nat):Int)=((k+1:Nat):Int)-1;omega)
section
variable {b:Base}{K:Nat→List AV→AV→Prop}(hf:∀g ar r r',K g ar r→K g ar r'→r=r')(hs1:∀a c:Sy,K n_sorted1 [symA a,symA c] (.i .i64 (cmpSy a c)))(es1:b.ext n_sorted1=0∧b.pure n_sorted1=true)
set_option maxHeartbeats 1000000 in
include hf hs1 es1 in
theorem siftDown_go(hh:Here (b.envK K) n_siftDown c_siftDown){o:Nat}{l0 l:List Sy}{σ τ:St}(h60:l0.length≤60000)(hS:SS o l0 σ l τ)(lo hi x:Nat)(hlo:lo≤60000)(hx:x+hi≤l0.length):
  GoesCall (b.envK K) 0 (.f (.func n_siftDown) [] []) [rowV o l0,nI lo,nI hi,nI x,cmpV] τ (SR o l0 σ fun v=>v= .tu []):=by
 refine GoesCall.code0 hh.e hh.p hh.f rfl rfl rfl ?_
 refine GoF.seq (GoF.region ?_)
 refine sA ?_
 refine GoO.nil (GoF.block ?_)
 refine GoF.loop (fun m f τ=>∃r l,r+m=60000∧SS o l0 σ l τ∧sat [(0,rowV o l0),(2,nI hi),(3,nI x),(4,cmpV),(10,nI r)] f) ?_ (60000-lo) ⟨lo,l,by omega,hS,rfl,rfl,rfl,rfl,rfl,trivial⟩
 clear hS
 rintro m g τ ⟨r,l,hm,hS,hL⟩
 refine GoF.norm _ hL fun g=>?_
 clear hL
 have hl:=hS.len
 refine GoF.block (GoF.seq (GoF.region ?_))
 refine GoO.go rfl rfl rfl rfl ?_
 refine GoO.bin (a:=nI 2) (b:=nI r) rfl rfl rfl rfl (bin_mul (by omega)) ?_
 refine sA ?_
 obtain⟨c,hc⟩:∃c,c=2*r+1:=⟨_,rfl⟩
 rw[←hc]
 refine GoO.nil (GoF.seq (GoF.seq (GoF.region ?_)))
 refine sA ?_
 refine GoO.nil (GoF.cnd rfl (fun h=>GoF.exit ⟨.inr rfl,_,l,rfl,rfl,hS⟩) fun h=>GoF.skip ?_)
 have hch:¬hi≤c:=of_decide_eq_false h
 clear h
 refine GoF.cutE (fun(c:Nat)=>[(0,rowV o l0),(2,nI hi),(3,nI x),(4,cmpV),(10,nI r),(11,nI c)]) (fun c τ'=>τ'=τ∧(r<c∧c<hi)) (GoF.seq (GoF.draw rfl rfl ?_)) fun c τ' g ⟨e,hrc⟩=>?_
 ·refine GoP.go rfl rfl rfl rfl ?_
  refine GoP.bin rfl rfl rfl rfl (bin_add1 (by omega)) ?_
  refine GoP.go rfl rfl rfl rfl ?_
  refine GoP.cmp (a:=c+1) (b:=hi) rfl rfl rfl rfl rfl ?_
  by_cases hij:c+1<hi
  ·rw[show decide (c+1<hi)=true from decide_eq_true hij]
   refine sBh ?_
   refine GoP.nil (GoF.cnd rfl (fun h=>?_) fun h=>?_)
   ·refine GoF.region ?_
    refine sA ?_
    exact GoO.nil ⟨rfl,c+1,⟨rfl,by omega⟩,rfl,rfl,rfl,rfl,rfl,rfl,trivial⟩
   ·exact GoF.skip ⟨rfl,c,⟨rfl,by omega⟩,rfl,rfl,rfl,rfl,rfl,rfl,trivial⟩
  ·rw[show decide (c+1<hi)=false from decide_eq_false hij]
   refine sP ?_
   refine GoF.cnd rfl (fun h=>by cases h) fun h=>?_
   exact GoF.skip ⟨rfl,c,⟨rfl,by omega⟩,rfl,rfl,rfl,rfl,rfl,rfl,trivial⟩
 subst e
 clear hc hch
 refine GoF.seq (GoF.seq (GoF.draw rfl rfl ?_))
 refine sBh ?_
 refine GoP.nil (GoF.cnd rfl (fun h=>GoF.ret ⟨.inl rfl,_,l,rfl,rfl,hS⟩) fun h=>GoF.skip ?_)
 refine GoF.seq (GoF.drawK 0 rfl (GoK.fin (gs:=[]) .nil rfl ?_))
 iterate 20 refine sK ?_
 refine GoO.swap hS (i:=x+r) (j:=x+c) (by omega) (by omega) rfl rfl rfl rfl rfl rfl rfl rfl rfl rfl fun τ3 hS3 n3 _=>?_
 refine GoO.nil ⟨rfl,GoF.region ?_⟩
 refine sA ?_
 exact GoO.nil ⟨60000-c,by omega,c,_,by omega,hS3,rfl,rfl,rfl,rfl,rfl,trivial⟩
set_option maxHeartbeats 1000000 in
include hf hs1 es1 in
theorem heapSort_go(hh:Here (b.envK K) n_heapSort c_heapSort)(hsd:Here (b.envK K) n_siftDown c_siftDown){o:Nat}{l0 l:List Sy}{σ τ:St}(h60:l0.length≤60000)(hS:SS o l0 σ l τ)(x y:Nat)(hx:x+1<y)(hy:y≤l0.length):
  GoesCall (b.envK K) 0 (.f (.func n_heapSort) [] []) [rowV o l0,nI x,nI y,cmpV] τ (SR o l0 σ fun v=>v= .tu []):=by
 refine GoesCall.code0 hh.e hh.p hh.f rfl rfl rfl ?_
 refine GoF.seq (GoF.region ?_)
 refine sA ?_
 refine GoO.nil (GoF.seq (GoF.region ?_))
 refine sA ?_
 refine GoO.nil (GoF.seq (GoF.region ?_))
 refine sA ?_
 obtain⟨hi,hhi⟩:∃hi,hi=y-x:=⟨_,rfl⟩
 rw[←hhi]
 refine GoO.nil ?_
 refine GoF.cutE (fun(_:Unit)=>[(0,rowV o l0),(3,cmpV),(8,nI x),(9,nI 0),(10,nI hi)]) (fun _ τ=>∃l,SS o l0 σ l τ) (GoF.seq (GoF.region ?_)) fun _ τ g ⟨l,hS⟩=>?_
 ·refine GoO.go rfl rfl rfl rfl ?_
  refine GoO.bin rfl rfl rfl rfl (bin_sub1 (by omega) (by omega)) ?_
  refine GoO.bin (a:=nI (hi-1)) (b:=nI 2) rfl rfl rfl rfl (bin_quoN (by omega) (by omega)) ?_
  refine sA ?_
  refine GoO.nil (GoF.block ?_)
  refine GoF.loop (fun m f τ=>∃l z,m≤hi∧z=(m:Int)-1∧SS o l0 σ l τ∧sat [(0,rowV o l0),(3,cmpV),(8,nI x),(9,nI 0),(10,nI hi),(11,.i .i64 z)] f) ?_ ((hi-1)/2+1) ⟨l,((hi-1)/2:Nat),by omega,by omega,hS,rfl,rfl,rfl,rfl,rfl,rfl,trivial⟩
  clear hS
  rintro m g τ ⟨l,z,hm,hz,hS,hL⟩
  refine GoF.norm _ hL fun g=>?_
  clear hL
  refine GoF.seq (GoF.seq (GoF.region ?_))
  refine GoO.go rfl rfl rfl rfl ?_
  refine GoO.bin (a:=.i .i64 z) (b:=.i .i64 0) (v:=.b (decide (0≤z))) rfl rfl rfl rfl rfl ?_
  refine GoO.nil (GoF.cnd rfl (fun h=>GoF.skip ?_) fun h=>GoF.exit ⟨rfl,(),⟨l,hS⟩,rfl,rfl,rfl,rfl,rfl,trivial⟩)
  have h0:0≤z:=of_decide_eq_true h
  clear h
  obtain⟨k,rfl⟩:∃k:Nat,z=Int.ofNat k:=⟨z.toNat,(Int.toNat_of_nonneg h0).symm⟩
  have hk:k+1=m:=by have:(Int.ofNat k)=(k:Int):=rfl;omega
  clear hz h0
  refine GoF.seq (GoF.block (GoF.region ?_))
  refine sA ?_
  refine GoO.callG rfl rfl rfl (siftDown_go hf hs1 es1 hsd h60 hS k hi x (by omega) (by omega)) fun r τ1 ⟨v,l,e1,_,hS⟩=>⟨_,e1,?_⟩
  refine GoO.nil (GoF.region ?_)
  refine GoO.go rfl rfl rfl rfl ?_
  refine GoO.bin rfl rfl rfl rfl (bin_pred (by omega)) ?_
  refine GoO.go rfl rfl rfl rfl ?_
  exact GoO.nil ⟨k,by omega,l,_,by omega,rfl,hS,rfl,rfl,rfl,rfl,rfl,rfl,trivial⟩
 refine GoF.seq (GoF.region ?_)
 refine sA ?_
 refine GoO.nil (GoF.block ?_)
 refine GoF.loop (fun m f τ=>∃l z,m≤hi∧z=(m:Int)-1∧SS o l0 σ l τ∧sat [(0,rowV o l0),(3,cmpV),(8,nI x),(9,nI 0),(10,nI hi),(12,.i .i64 z)] f) ?_ hi ⟨l,(hi-1:Nat),by omega,by omega,hS,rfl,rfl,rfl,rfl,rfl,rfl,trivial⟩
 clear hS
 rintro m g τ ⟨l,z,hm,hz,hS,hL⟩
 refine GoF.norm _ hL fun g=>?_
 clear hL
 have hl:=hS.len
 refine GoF.seq (GoF.seq (GoF.region ?_))
 refine GoO.go rfl rfl rfl rfl ?_
 refine GoO.bin (a:=.i .i64 z) (b:=.i .i64 0) (v:=.b (decide (0≤z))) rfl rfl rfl rfl rfl ?_
 refine GoO.nil (GoF.cnd rfl (fun h=>GoF.skip ?_) fun h=>GoF.exit ⟨.inr rfl,_,l,rfl,rfl,hS⟩)
 have h0:0≤z:=of_decide_eq_true h
 clear h
 obtain⟨k,rfl⟩:∃k:Nat,z=Int.ofNat k:=⟨z.toNat,(Int.toNat_of_nonneg h0).symm⟩
 have hk:k+1=m:=by have:(Int.ofNat k)=(k:Int):=rfl;omega
 clear hz h0
 refine GoF.seq (GoF.block (GoF.seq (GoF.drawK 0 rfl (GoK.fin (gs:=[]) .nil rfl ?_))))
 iterate 16 refine sK ?_
 refine GoO.swap hS (i:=x) (j:=x+k) (by omega) (by omega) rfl rfl rfl rfl rfl rfl rfl rfl rfl rfl fun τ3 hS3 n3 _=>?_
 refine GoO.nil ⟨rfl,GoF.region ?_⟩
 refine sA ?_
 refine GoO.callG rfl rfl rfl (siftDown_go hf hs1 es1 hsd h60 hS3 0 k x (by omega) (by omega)) fun r τ1 ⟨v,l,e1,_,hS⟩=>⟨_,e1,?_⟩
 refine GoO.nil (GoF.region ?_)
 refine GoO.go rfl rfl rfl rfl ?_
 refine GoO.bin rfl rfl rfl rfl (bin_pred (by omega)) ?_
 refine GoO.go rfl rfl rfl rfl ?_
 exact GoO.nil ⟨k,by omega,l,_,by omega,rfl,hS,rfl,rfl,rfl,rfl,rfl,rfl,trivial⟩
end
end Go.Lyc
end
noncomputable section
namespace Go.Lyc
variable [Tok][TokOk]
open Go.RowKit Go.Lyc.T
theorem wrap_u64{n:Nat}(h:n<2^64):IntKind.wrap .u64 (n:Int)=(n:Int):=by
 have h:(n:Int)<18446744073709551616:=by omega
 simp only[IntKind.wrap,IntKind.bits,IntKind.signed]
 simp
 omega
theorem bin_and64{z:Int}{c:Nat}(hc:c<2^64):∃v:Nat,v≤c∧binop .and (.i .u64 z) (.i .u64 (Int.ofNat c))=some (.i .u64 (Int.ofNat v)):=by
 refine⟨(BitVec.ofInt 64 z &&& BitVec.ofInt 64 (Int.ofNat c)).toNat,?_,?_⟩
 ·rw[BitVec.toNat_and]
  refine Nat.le_trans Nat.and_le_right ?_
  rw[show BitVec.ofInt 64 (Int.ofNat c)=BitVec.ofNat 64 c from BitVec.ofInt_natCast 64 c,BitVec.toNat_ofNat]
  exact Nat.mod_le _ _
 ·show some (AV.i .u64 (IntKind.wrap .u64 ((BitVec.ofInt 64 z &&& BitVec.ofInt 64 (Int.ofNat c)).toNat:Int)))=_
  rw[wrap_u64 (BitVec.isLt _)];rfl
theorem bin_subU{a:Nat}(h:1≤a)(h2:a<2^63):binop .sub (.i .u64 (Int.ofNat a)) (.i .u64 1)=some (.i .u64 (Int.ofNat (a-1))):=by
 show some (AV.i .u64 (wrapN .u64 (Int.ofNat a-1)))=_
 rw[wrapN_eq,show Int.ofNat a-1=((a-1:Nat):Int) from by simp only[Int.ofNat_eq_natCast];omega,wrap_u64 (by omega)];rfl
def len8:List Nat:=0::1::(List.replicate 2 2++(List.replicate 4 3++(List.replicate 8 4++(List.replicate 16 5++(List.replicate 32 6++(List.replicate 64 7++List.replicate 128 8))))))
theorem len8_ok:∀j,(h:j<256)→∃q,nth len8 j=some q∧q≤8∧(1≤j→2^q≤2*j):=by
 have h:(List.range 256).all (fun j=>match nth len8 j with|some q=>decide (q≤8)&&(decide (j<1)||decide (2^q≤2*j))|none=>false)=true:=by decide+kernel
 intro j hj
 have h:=List.all_eq_true.1 h j (List.mem_range.2 hj)
 cases e:nth len8 j with
 |none=>rw[e] at h;cases h
 |some q=>
  rw[e] at h
  simp only[Bool.and_eq_true,Bool.or_eq_true,decide_eq_true_eq] at h
  exact⟨q,rfl,h.1,fun h1=>by rcases h.2 with h2|h2;omega;exact h2⟩
theorem shr8{m:Nat}:binop .shr (.i .u64 (Int.ofNat m)) (.i .u64 (Int.ofNat 8))=some (.i .u64 (Int.ofNat (m/256))):=by
 show some (AV.i .u64 ((Int.ofNat m).fdiv (Int.ofNat 256)))=_
 exact congrArg (fun z=>some (AV.i .u64 z)) (Int.ofNat_fdiv m 256).symm
section
variable {b:Base}{K:Nat→List AV→AV→Prop}
abbrev nU(m:Nat):AV:=.i .u64 (Int.ofNat m)
set_option maxRecDepth 100000 in
theorem Len64n_go(hh:Here (b.envK K) n_Len64 c_Len64)(m:Nat)(hm:m<65536)(σ:St):GoesCall (b.envK K) 0 (.f (.func n_Len64) [] []) [nU m] σ (fun r σ'=>(∃q:Nat,r= .ok (nI q)∧q≤16∧(1≤m→2^q≤2*m))∧σ'=σ):=by
 refine GoesCall.code hh.e hh.p hh.f rfl rfl rfl rfl ?_
 refine GoF.seq (GoF.region ?_)
 refine sO ?_
 refine GoF.seq (GoF.seq (GoF.region ?_))
 refine GoO.go rfl rfl rfl rfl ?_
 refine GoO.bin (a:=nU m) (b:=nU 4294967296) (v:=.b false) rfl rfl rfl rfl (bin_cmp (by show some (AV.b (decide (4294967296≤m)))=_;rw[decide_eq_false (by omega)])) ?_
 refine GoO.nil (GoF.cnd rfl (fun h=>by cases h) fun _=>GoF.skip ?_)
 refine GoF.seq (GoF.seq (GoF.region ?_))
 refine GoO.go rfl rfl rfl rfl ?_
 refine GoO.bin (a:=nU m) (b:=nU 65536) (v:=.b false) rfl rfl rfl rfl (bin_cmp (by show some (AV.b (decide (65536≤m)))=_;rw[decide_eq_false (by omega)])) ?_
 refine GoO.nil (GoF.cnd rfl (fun h=>by cases h) fun _=>GoF.skip ?_)
 refine GoF.cutE (fun(t:Nat×Nat)=>[(0,nU t.1),(2,nI t.2)]) (fun t τ'=>τ'=σ∧t.1<256∧t.2≤8∧(1≤m→1≤t.1∧2^t.2*t.1≤m)) (GoF.seq (GoF.region ?_)) fun t τ' g ⟨e,h1,h2,h3⟩=>?_
 ·refine GoO.go rfl rfl rfl rfl ?_
  refine GoO.bin (a:=nU m) (b:=nU 256) (v:=.b (decide (256≤m))) rfl rfl rfl rfl (bin_cmp rfl) ?_
  refine GoO.nil (GoF.cnd rfl (fun h=>?_) fun h=>GoF.skip ⟨rfl,(m,0),⟨rfl,by have:=of_decide_eq_false h;show m<256;omega,Nat.zero_le _,fun h=>⟨h,by show 1*m≤m;omega⟩⟩,rfl,rfl,trivial⟩)
  have h:=of_decide_eq_true h
  refine GoF.seq (GoF.region ?_)
  refine GoO.go rfl rfl rfl rfl ?_
  refine GoO.bin (a:=nU m) (b:=nU 8) (v:=nU (m/256)) rfl rfl rfl rfl shr8 ?_
  refine GoO.go rfl rfl rfl rfl ?_
  refine GoO.nil (GoF.region ?_)
  refine GoO.go rfl rfl rfl rfl ?_
  refine GoO.bin (a:=nI 0) (b:=nI 8) (v:=nI 8) rfl rfl rfl rfl rfl ?_
  refine GoO.go rfl rfl rfl rfl ?_
  exact GoO.nil ⟨rfl,(m/256,8),⟨rfl,by show m/256<256;omega,Nat.le_refl _,fun _=>⟨by show 1≤m/256;omega,by show 256*(m/256)≤m;omega⟩⟩,rfl,rfl,trivial⟩
 subst e
 obtain⟨k,n⟩:=t
 obtain⟨q,e1,e2,e3⟩:=len8_ok k h1
 refine GoF.seq (GoF.region ?_)
 refine GoO.go rfl rfl rfl rfl ?_
 refine GoO.go rfl rfl rfl rfl ?_
 have h8:wrapN .u8 (Int.ofNat k)=Int.ofNat k:=wrapN8 h1
 refine GoO.val rfl rfl (op_conv64 (m:=Int.ofNat k) rfl _) ?_
 rw[h8]
 refine GoO.val rfl rfl (op_istr (l:=len8) (j:=k) rfl rfl e1) ?_
 refine GoO.val rfl rfl (op_conv64 rfl _) ?_
 rw[wrapN_nat (n:=q) (by omega)]
 refine GoO.bin (a:=nI n) (b:=nI q) rfl rfl rfl rfl (bin_add (by omega)) ?_
 refine GoO.go rfl rfl rfl rfl ?_
 refine GoO.nil (GoF.ret ⟨rfl,⟨n+q,rfl,by show n+q≤16;have:n≤8:=h2;omega,fun h=>?_⟩,rfl⟩)
 obtain⟨h4,h5⟩:=h3 h
 have h6:2^n*2^q≤2^n*(2*k):=Nat.mul_le_mul_left _ (e3 h4)
 rw[Nat.pow_add]
 have h5:2^n*k≤m:=h5
 rw[Nat.mul_left_comm] at h6
 omega
theorem Lenn_go(hh:Here (b.envK K) n_Len c_Len)(h6:Here (b.envK K) n_Len64 c_Len64)(m:Nat)(hm:m<65536)(σ:St):GoesCall (b.envK K) 0 (.f (.func n_Len) [] []) [nU m] σ (fun r σ'=>(∃q:Nat,r= .ok (nI q)∧q≤16∧(1≤m→2^q≤2*m))∧σ'=σ):=by
 refine GoesCall.code hh.e hh.p hh.f rfl rfl rfl rfl ?_
 refine GoF.seq (GoF.region ?_)
 refine sO ?_
 refine GoF.seq (GoF.cnd rfl (fun h=>by cases h) fun _=>GoF.skip ?_)
 refine GoF.seq (GoF.region ?_)
 refine GoO.go rfl rfl rfl rfl ?_
 refine GoO.callG rfl rfl rfl (Len64n_go h6 m hm σ) fun r σ2 ⟨⟨q,e1,e3⟩,e2⟩=>⟨_,e1,?_⟩
 refine GoO.go rfl rfl rfl rfl ?_
 exact GoO.nil (GoF.ret ⟨rfl,⟨_,rfl,e3⟩,e2⟩)
theorem nextPow_go(hh:Here (b.envK K) n_nextPow c_nextPow)(hl:Here (b.envK K) n_Len c_Len)(h6:Here (b.envK K) n_Len64 c_Len64)(m:Nat)(h1:1≤m)(hm:m<65536)(σ:St):GoesCall (b.envK K) 0 (.f (.func n_nextPow) [] []) [nI m] σ (fun r σ'=>(∃p:Nat,r= .ok (nU p)∧1≤p∧p≤2*m)∧σ'=σ):=by
 refine GoesCall.code hh.e hh.p hh.f rfl rfl rfl rfl ?_
 refine GoF.seq (GoF.region ?_)
 refine sO ?_
 refine GoF.seq (GoF.region ?_)
 refine GoO.go rfl rfl rfl rfl ?_
 refine GoO.val rfl rfl (op_conv64 (m:=Int.ofNat m) rfl _) ?_
 rw[wrapN_eq,show IntKind.wrap .u64 (Int.ofNat m)=Int.ofNat m from wrap_u64 (by omega)]
 refine GoO.callG rfl rfl rfl (Lenn_go hl h6 m hm σ) fun r σ2 ⟨⟨q,e1,e3,e4⟩,e2⟩=>⟨_,e1,?_⟩
 have e5:binop .shl (nU 1) (nI q)=some (nU (2^q)):=by
  show(if Int.ofNat q<0 then none else some (AV.i .u64 (IntKind.wrap .u64 (Int.ofNat 1*2^(min (Int.ofNat q).toNat 64)))))=_
  rw[if_neg (by simp),show(Int.ofNat q).toNat=q from rfl,show min q 64=q from by omega]
  have:Int.ofNat 1*2^q=((2^q:Nat):Int):=by simp
  have hp:2^q≤2^16:=Nat.pow_le_pow_right (by decide) e3
  rw[this,wrap_u64 (by omega)];rfl
 refine GoO.bin rfl rfl rfl rfl e5 ?_
 refine GoO.go rfl rfl rfl rfl ?_
 exact GoO.nil (GoF.ret ⟨rfl,⟨_,rfl,Nat.two_pow_pos q,e4 h1⟩,e2⟩)
abbrev CntU(sp:Nat)(τ:St):Prop:=∃z:Int,τ.get sp=some (.cells [.i .u64 z])
theorem shl_any{z:Int}{k:IntKind}{c:Nat}:∃v,binop .shl (.i k z) (.i .u64 (Int.ofNat c))=some (.i k v):=by
 refine⟨k.wrap (z*2^(min (Int.ofNat c).toNat k.bits)),?_⟩
 show(if Int.ofNat c<0 then none else some (AV.i k (k.wrap (z*2^(min (Int.ofNat c).toNat k.bits)))))=_
 rw[if_neg (by simp)]
theorem shr_any{z:Int}{k:IntKind}{c:Nat}:∃v,binop .shr (.i k z) (.i .u64 (Int.ofNat c))=some (.i k v):=by
 refine⟨z.fdiv (2^(min (Int.ofNat c).toNat k.bits)),?_⟩
 show(if Int.ofNat c<0 then none else some (AV.i k (z.fdiv (2^(min (Int.ofNat c).toNat k.bits)))))=_
 rw[if_neg (by simp)]
theorem xor_any{z y:Int}{k:IntKind}:∃v,binop .xor (.i k z) (.i k y)=some (.i k v):=by
 refine⟨k.wrap (BitVec.ofInt k.bits z ^^^ BitVec.ofInt k.bits y).toNat,?_⟩
 show(if k=k then binI .xor k z y else none)=_
 rw[if_pos rfl];rfl
theorem xorNext_go(hh:Here (b.envK K) n_xorNext c_xorNext){sp:Nat}{τ:St}(hc:CntU sp τ):GoesCall (b.envK K) 0 (.f (.func n_xorNext) [] []) [.p (some (sp,0))] τ (fun r τ'=>∃z,r= .ok (.i .u64 z)∧CntU sp τ'∧τ'.next=τ.next∧∀i o,i≠sp→τ.get i=some o→τ'.get i=some o):=by
 refine GoesCall.code hh.e hh.p hh.f rfl rfl rfl rfl ?_
 refine GoF.seq (GoF.region ?_)
 refine GoO.go rfl rfl rfl rfl (GoO.nil ?_)
 obtain⟨z,hz⟩:=hc
 obtain⟨v1,w1⟩:=@shl_any _ _ z .u64 13
 obtain⟨z1,x1⟩:=@xor_any _ _ z v1 .u64
 obtain⟨v2,w2⟩:=@shr_any _ _ z1 .u64 7
 obtain⟨z2,x2⟩:=@xor_any _ _ z1 v2 .u64
 obtain⟨v3,w3⟩:=@shl_any _ _ z2 .u64 17
 obtain⟨z3,x3⟩:=@xor_any _ _ z2 v3 .u64
 refine GoF.seq (GoF.drawK 0 rfl (GoK.fin (gs:=[]) .nil rfl ?_))
 iterate 9 (first|refine GoO.ld (v:=.i .u64 z) hz rfl rfl rfl rfl ?_|refine GoO.go rfl rfl rfl rfl ?_|refine GoO.bin rfl rfl rfl rfl w1 ?_|refine GoO.bin rfl rfl rfl rfl x1 ?_)
 refine GoO.store (c':=[.i .u64 z1]) hz rfl rfl rfl rfl rfl fun τ1 n1 h1 k1=>?_
 refine GoO.nil ⟨rfl,GoF.seq (GoF.drawK 0 rfl (GoK.fin (gs:=[]) .nil rfl ?_))⟩
 iterate 9 (first|refine GoO.ld (v:=.i .u64 z1) h1 rfl rfl rfl rfl ?_|refine GoO.go rfl rfl rfl rfl ?_|refine GoO.bin rfl rfl rfl rfl w2 ?_|refine GoO.bin rfl rfl rfl rfl x2 ?_)
 refine GoO.store (c':=[.i .u64 z2]) h1 rfl rfl rfl rfl rfl fun τ2 n2 h2 k2=>?_
 refine GoO.nil ⟨rfl,GoF.seq (GoF.drawK 0 rfl (GoK.fin (gs:=[]) .nil rfl ?_))⟩
 iterate 9 (first|refine GoO.ld (v:=.i .u64 z2) h2 rfl rfl rfl rfl ?_|refine GoO.go rfl rfl rfl rfl ?_|refine GoO.bin rfl rfl rfl rfl w3 ?_|refine GoO.bin rfl rfl rfl rfl x3 ?_)
 refine GoO.store (c':=[.i .u64 z3]) h2 rfl rfl rfl rfl rfl fun τ3 n3 h3 k3=>?_
 refine GoO.nil ⟨rfl,GoF.seq (GoF.region ?_)⟩
 iterate 4 (first|refine GoO.ld (v:=.i .u64 z3) h3 rfl rfl rfl rfl ?_|refine GoO.go rfl rfl rfl rfl ?_)
 exact GoO.nil (GoF.ret ⟨rfl,z3,rfl,⟨z3,h3⟩,by omega,fun i o h ho=>k3 i o h (k2 i o h (k1 i o h ho))⟩)
end
end Go.Lyc
end
noncomputable section
namespace Go.Lyc
variable [Tok][TokOk]
open Go.RowKit Go.Lyc.T
section
variable {b:Base}{K:Nat→List AV→AV→Prop}(hf:∀g ar r r',K g ar r→K g ar r'→r=r')(hs1:∀a c:Sy,K n_sorted1 [symA a,symA c] (.i .i64 (cmpSy a c)))(es1:b.ext n_sorted1=0∧b.pure n_sorted1=true)
theorem CntU.at{sp:Nat}{τ τ':St}(h:CntU sp τ)(hk:∀k o,τ.get k=some o→τ'.get k=some o):CntU sp τ':=let⟨z,hz⟩:=h;⟨z,hk _ _ hz⟩
set_option maxHeartbeats 1000000 in
theorem breakPat_go(hh:Here (b.envK K) n_breakPat c_breakPat)(hnp:Here (b.envK K) n_nextPow c_nextPow)(hln:Here (b.envK K) n_Len c_Len)(h6:Here (b.envK K) n_Len64 c_Len64)(hxn:Here (b.envK K) n_xorNext c_xorNext){o:Nat}{l0 l:List Sy}{σ τ:St}(h60:l0.length≤60000)(hS:SS o l0 σ l τ)(x y:Nat)(hx:x+13≤y)(hy:y≤l0.length):
  GoesCall (b.envK K) 0 (.f (.func n_breakPat) [] []) [rowV o l0,nI x,nI y,cmpV] τ (SR o l0 σ fun v=>v= .tu []):=by
 refine GoesCall.code0 hh.e hh.p hh.f rfl rfl rfl ?_
 have hob:=St.get_lt hS.blk
 have hnx:=hS.nx
 refine GoF.seq (GoF.region ?_)
 refine sA ?_
 obtain⟨n,hn⟩:∃n,n=y-x:=⟨_,rfl⟩
 rw[←hn]
 refine GoO.nil (GoF.seq (GoF.region ?_))
 refine GoO.go rfl rfl rfl rfl ?_
 refine GoO.bin (a:=nI n) (b:=nI 8) (v:=.b true) rfl rfl rfl rfl (bin_cmp (by show some (AV.b (decide (8≤n)))=_;rw[decide_eq_true (by omega)])) ?_
 refine GoO.nil (GoF.cnd rfl (fun _=>?_) fun h=>by cases h)
 refine GoF.seq (GoF.region ?_)
 refine GoO.go rfl rfl rfl rfl ?_
 refine GoO.val rfl rfl (op_conv64 (m:=Int.ofNat n) rfl _) ?_
 generalize wrapN .u64 (Int.ofNat n)=z0
 generalize hsp:τ.next=sp at hob hnx
 have hne:sp≠o:=by omega
 refine GoO.alloc sp hsp rfl rfl rfl fun τ1 n1 h1 k1=>?_
 replace hS:=hS.more (by omega) k1
 refine GoO.store (c':=[.i .u64 z0]) h1 rfl rfl rfl rfl rfl fun τ2 n2 h2 k2=>?_
 replace hS:=hS.at hnx hne (by omega) k2
 refine GoO.nil (GoF.seq (GoF.region ?_))
 refine GoO.go rfl rfl rfl rfl ?_
 refine GoO.callG rfl rfl rfl (nextPow_go hnp hln h6 n (by omega) (by omega) τ2) fun r τ3 ⟨⟨p,e1,hp1,hp2⟩,e2⟩=>⟨_,e1,?_⟩
 subst e2
 refine GoO.go rfl rfl rfl rfl ?_
 refine GoO.nil (GoF.seq (GoF.region ?_))
 have hq:n/4*4≤n:=Nat.div_mul_le_self n 4
 have hq3:3≤n/4:=by omega
 have hqq:binop .quo (nI n) (nI 4)=some (nI (n/4)):=bin_quoN (by omega) (by omega)
 generalize n/4=q at hq hq3 hqq
 refine GoO.go rfl rfl rfl rfl ?_
 refine GoO.go rfl rfl rfl rfl ?_
 refine GoO.bin (a:=nI n) (b:=nI 4) rfl rfl rfl rfl hqq ?_
 refine GoO.bin (a:=nI q) (b:=nI 2) rfl rfl rfl rfl (bin_mul (by omega)) ?_
 refine GoO.bin (a:=nI x) (b:=nI (q*2)) rfl rfl rfl rfl (bin_add (by omega)) ?_
 refine GoO.bin rfl rfl rfl rfl (bin_sub1 (by omega) (by omega)) ?_
 refine GoO.go rfl rfl rfl rfl ?_
 refine GoO.nil (GoF.block ?_)
 refine GoF.loop (fun m f τ=>∃i l,i+m=x+q*2+2∧x≤i∧SS o l0 σ l τ∧CntU sp τ∧sat [(0,rowV o l0),(1,nI x),(8,nI n),(9,.p (some (sp,0))),(10,nU p),(11,nI i)] f) ?_ 3 ⟨x+q*2-1,l,by omega,by omega,hS,⟨_,h2⟩,rfl,rfl,rfl,rfl,rfl,rfl,trivial⟩
 clear hS h1 h2 k1 k2 n1 n2 hsp
 rintro m g τ ⟨i,l,hm,hi,hS,hc,hL⟩
 refine GoF.norm _ hL fun g=>?_
 clear hL
 refine GoF.seq (GoF.seq (GoF.region ?_))
 refine GoO.go rfl rfl rfl rfl ?_
 refine GoO.go rfl rfl rfl rfl ?_
 refine GoO.go rfl rfl rfl rfl ?_
 refine GoO.bin (a:=nI n) (b:=nI 4) rfl rfl rfl rfl hqq ?_
 refine GoO.bin (a:=nI q) (b:=nI 2) rfl rfl rfl rfl (bin_mul (by omega)) ?_
 refine GoO.bin (a:=nI x) (b:=nI (q*2)) rfl rfl rfl rfl (bin_add (by omega)) ?_
 refine GoO.bin rfl rfl rfl rfl (bin_add1 (by omega)) ?_
 refine GoO.cmp rfl rfl rfl rfl rfl ?_
 refine GoO.nil (GoF.cnd rfl (fun h=>GoF.skip ?_) fun h=>GoF.exit ⟨.inr rfl,_,l,rfl,rfl,hS⟩)
 have hle:i≤x+q*2+1:=of_decide_eq_true h
 clear h
 refine GoF.seq (GoF.block ?_)
 refine GoF.seq (GoF.region ?_)
 refine GoO.callG rfl rfl rfl (xorNext_go hxn hc) fun r τ1 ⟨z,e1,hc,n1,k1⟩=>⟨_,e1,?_⟩
 replace hS:=hS.at hnx hne (by omega) k1
 have hl:=hS.len
 refine GoO.go rfl rfl rfl rfl ?_
 refine GoO.bin rfl rfl rfl rfl (bin_subU (by omega) (by omega)) ?_
 obtain⟨v,hv,e2⟩:=@bin_and64 _ _ z (p-1) (by omega)
 refine GoO.bin rfl rfl rfl rfl e2 ?_
 refine GoO.val rfl rfl (op_conv64 (m:=Int.ofNat v) rfl _) ?_
 rw[wrapN_nat (n:=v) (by omega)]
 refine GoO.go rfl rfl rfl rfl ?_
 refine GoO.nil ?_
 refine GoF.cutE (fun(t:Nat)=>[(0,rowV o l0),(1,nI x),(8,nI n),(9,.p (some (sp,0))),(10,nU p),(11,nI i),(12,nI t)]) (fun t τ'=>τ'=τ1∧t<n) (GoF.seq (GoF.region ?_)) fun t τ2 g ⟨e,ht⟩=>?_
 ·refine GoO.go rfl rfl rfl rfl ?_
  refine GoO.go rfl rfl rfl rfl ?_
  refine GoO.cmp (a:=v) (b:=n) rfl rfl rfl rfl rfl ?_
  refine GoO.nil (GoF.cnd rfl (fun h=>?_) fun h=>GoF.skip ⟨rfl,v,⟨rfl,by have:=of_decide_eq_false h;omega⟩,rfl,rfl,rfl,rfl,rfl,rfl,rfl,trivial⟩)
  have:=of_decide_eq_true h
  refine GoF.region ?_
  refine GoO.go rfl rfl rfl rfl ?_
  refine GoO.go rfl rfl rfl rfl ?_
  refine GoO.bin (a:=nI v) (b:=nI n) rfl rfl rfl rfl (bin_sub (by omega) (by omega)) ?_
  refine GoO.go rfl rfl rfl rfl ?_
  exact GoO.nil ⟨rfl,v-n,⟨rfl,by omega⟩,rfl,rfl,rfl,rfl,rfl,rfl,rfl,trivial⟩
 subst e
 refine GoF.drawK 0 rfl (GoK.fin (gs:=[]) .nil rfl ?_)
 iterate 16 refine sK ?_
 refine GoO.swap hS (i:=i) (j:=x+t) (by omega) (by omega) rfl rfl rfl rfl rfl rfl rfl rfl rfl rfl fun τ3 hS3 n3 k3=>?_
 refine GoO.nil ⟨rfl,GoF.region ?_⟩
 refine GoO.go rfl rfl rfl rfl ?_
 refine GoO.bin rfl rfl rfl rfl (bin_add1 (by omega)) ?_
 refine GoO.go rfl rfl rfl rfl ?_
 obtain⟨z,hz⟩:=hc
 exact GoO.nil ⟨m-1,by omega,i+1,_,by omega,by omega,hS3,⟨z,k3 _ _ hne hz⟩,rfl,rfl,rfl,rfl,rfl,rfl,trivial⟩
end
end Go.Lyc
end
noncomputable section
namespace Go.Lyc
variable [Tok][TokOk]
open Go.RowKit Go.Lyc.T
section
variable {env:Env}{wh:Option Nat}{D:List (Nat ⊕ (AV×List AV))}{n:Nat}{f:Nat→AV}{σ:St}{Q:PostF}
theorem GoF.cutX{α:Type}{a b:ACode}(L:α→List (Nat×AV))(R:α→St→Prop)(h1:GoW env wh D n a f σ (fun x f' σ'=>(x= .normal∧∃t,R t σ'∧sat (L t) f')∨(x≠ .normal∧Q x f' σ')))(h2:∀t σ' g,R t σ'→GoW env wh D n b (upds (L t) g) σ' Q):GoW env wh D n (.seq a b) f σ Q:=GoF.seq (h1.mono fun x f' σ' h=>by
 rcases h with⟨e1,t,e2,e3⟩|⟨e1,e2⟩
 ·subst e1
  show GoW env wh D n b f' σ' Q
  exact GoF.norm (L t) e3 fun g=>h2 t σ' g e2
 ·cases x<;>first|exact absurd rfl e1|exact e2)
end
section
variable {b:Base}{K:Nat→List AV→AV→Prop}(hf:∀g ar r r',K g ar r→K g ar r'→r=r')(hs1:∀a c:Sy,K n_sorted1 [symA a,symA c] (.i .i64 (cmpSy a c)))(es1:b.ext n_sorted1=0∧b.pure n_sorted1=true)
set_option maxHeartbeats 1000000 in
include hf hs1 es1 in
theorem insS_go(hh:Here (b.envK K) n_inssort c_inssort){o:Nat}{l0 l:List Sy}{σ τ:St}(h60:l0.length≤60000)(hS:SS o l0 σ l τ)(x y:Nat)(hx:x≤y)(hy:y≤l0.length):
  GoesCall (b.envK K) 0 (.f (.func n_inssort) [] []) [rowV o l0,nI x,nI y,cmpV] τ (SR o l0 σ fun v=>v= .tu []):=by
 refine GoesCall.code0 hh.e hh.p hh.f rfl rfl rfl ?_
 refine GoF.seq (GoF.region ?_)
 refine sA ?_
 refine GoO.nil (GoF.block ?_)
 refine GoF.loop (fun m f τ=>∃i l,i+m=y+1∧x<i∧SS o l0 σ l τ∧sat [(0,rowV o l0),(1,nI x),(2,nI y),(3,cmpV),(8,nI i)] f) ?_ (y-x) ⟨x+1,l,by omega,by omega,hS,rfl,rfl,rfl,rfl,rfl,trivial⟩
 clear hS
 rintro m g τ ⟨i,l,hm,hi,hS,hL⟩
 refine GoF.norm _ hL fun g=>?_
 clear hL
 refine GoF.seq (GoF.seq (GoF.region ?_))
 refine sA ?_
 refine GoO.nil (GoF.cnd rfl (fun h=>GoF.skip ?_) fun h=>GoF.exit ⟨.inr rfl,_,l,rfl,rfl,hS⟩)
 have hiy:i<y:=of_decide_eq_true h
 clear h
 refine GoF.cutE (fun(_:Unit)=>[(0,rowV o l0),(1,nI x),(2,nI y),(3,cmpV),(8,nI i)]) (fun _ τ=>∃l,SS o l0 σ l τ) (GoF.block (GoF.seq (GoF.region ?_))) fun _ τ g ⟨l,hS⟩=>GoF.region ?_
 ·refine sA ?_
  refine GoO.nil (GoF.block ?_)
  refine GoF.loop (fun m f τ=>∃l,m≤i∧x≤m∧SS o l0 σ l τ∧sat [(0,rowV o l0),(1,nI x),(2,nI y),(3,cmpV),(8,nI i),(9,nI m)] f) ?_ i ⟨l,Nat.le_refl _,by omega,hS,rfl,rfl,rfl,rfl,rfl,rfl,trivial⟩
  clear hS hm
  rintro j g τ ⟨l,hj,hxj,hS,hL⟩
  refine GoF.norm _ hL fun g=>?_
  clear hL
  have hl:=hS.len
  refine GoF.seq (GoF.seq (GoF.draw rfl rfl ?_))
  refine GoP.go rfl rfl rfl rfl ?_
  refine GoP.go rfl rfl rfl rfl ?_
  refine GoP.cmp (a:=j) (b:=x) rfl rfl rfl rfl rfl ?_
  by_cases hij:x<j
  ·rw[show decide (x<j)=true from decide_eq_true hij]
   refine sBh ?_
   refine GoP.nil (GoF.cnd rfl (fun h=>GoF.skip ?_) fun h=>GoF.exit ⟨rfl,(),⟨l,hS⟩,rfl,rfl,rfl,rfl,rfl,trivial⟩)
   refine GoF.seq (GoF.block (GoF.drawK 0 rfl (GoK.fin (gs:=[]) .nil rfl ?_)))
   iterate 14 refine sK ?_
   refine GoO.swap hS (i:=j) (j:=j-1) (by omega) (by omega) rfl rfl rfl rfl rfl rfl rfl rfl rfl rfl fun τ3 hS3 n3 _=>?_
   refine GoO.nil ⟨rfl,GoF.region ?_⟩
   refine sA ?_
   exact GoO.nil ⟨j-1,by omega,_,by omega,by omega,hS3,rfl,rfl,rfl,rfl,rfl,rfl,trivial⟩
  ·rw[show decide (x<j)=false from decide_eq_false hij]
   refine sP ?_
   refine GoF.cnd rfl (fun h=>by cases h) fun h=>?_
   exact GoF.exit ⟨rfl,(),⟨l,hS⟩,rfl,rfl,rfl,rfl,rfl,trivial⟩
 ·refine sA ?_
  exact GoO.nil ⟨m-1,by omega,i+1,l,by omega,by omega,hS,rfl,rfl,rfl,rfl,rfl,trivial⟩
structure HS(b:Base)(K:Nat→List AV→AV→Prop):Prop where
 pdq:Here (b.envK K) n_pdq c_pdq
 ins:Here (b.envK K) n_inssort c_inssort
 hea:Here (b.envK K) n_heapSort c_heapSort
 sif:Here (b.envK K) n_siftDown c_siftDown
 bre:Here (b.envK K) n_breakPat c_breakPat
 nxp:Here (b.envK K) n_nextPow c_nextPow
 len:Here (b.envK K) n_Len c_Len
 l64:Here (b.envK K) n_Len64 c_Len64
 xor:Here (b.envK K) n_xorNext c_xorNext
 cho:Here (b.envK K) n_choosePivot c_choosePivot
 mad:Here (b.envK K) n_medianAdj c_medianAdj
 med:Here (b.envK K) n_median c_median
 ord:Here (b.envK K) n_order2 c_order2
 rev:Here (b.envK K) n_reverseRange c_reverseRange
 pin:Here (b.envK K) n_partIns c_partIns
 peq:Here (b.envK K) n_partEq c_partEq
 par:Here (b.envK K) n_partition c_partition
set_option maxHeartbeats 2000000 in
include hf hs1 es1 in
theorem pdqS_go(H:HS b K){o:Nat}{l0:List Sy}{σ:St}(h60:l0.length≤60000):∀(N x y:Nat) (z:Int) (l:List Sy) (τ:St),y-x≤N→x≤y→y≤l0.length→SS o l0 σ l τ→
  GoesCall (b.envK K) 0 (.f (.func n_pdq) [] []) [rowV o l0,nI x,nI y,.i .i64 z,cmpV] τ (SR o l0 σ fun v=>v= .tu []):=by
 intro N
 induction N using Nat.strongRecOn with
 |ind N ih=>
 intro x y z l τ hN hxy hy hS
 refine GoesCall.code0 H.pdq.e H.pdq.p H.pdq.f rfl rfl rfl ?_
 refine GoF.seq (GoF.region ?_)
 refine sA ?_
 refine GoO.nil (GoF.seq (GoF.region ?_))
 refine sA ?_
 refine GoO.nil (GoF.block ?_)
 refine GoF.loop (fun m f τ=>∃x y z bl pa l,y-x=m∧m≤N∧x≤y∧y≤l0.length∧SS o l0 σ l τ∧sat [(0,rowV o l0),(1,nI x),(2,nI y),(3,.i .i64 z),(4,cmpV),(10,.b bl),(11,.b pa)] f) ?_ (y-x) ⟨x,y,z,true,true,l,rfl,hN,hxy,hy,hS,rfl,rfl,rfl,rfl,rfl,rfl,rfl,trivial⟩
 clear hS hxy hN hy
 clear x y z l τ
 rintro m g τ ⟨x,y,z,bl,pa,l,hm,hN,hxy,hy,hS,hL⟩
 refine GoF.norm _ hL fun g=>?_
 clear hL
 refine GoF.block (GoF.seq (GoF.region ?_))
 refine sA ?_
 rw[hm]
 refine GoO.nil (GoF.seq (GoF.seq (GoF.region ?_)))
 refine GoO.go rfl rfl rfl rfl ?_
 refine GoO.cmp (a:=m) (b:=12) rfl rfl rfl rfl rfl ?_
 refine GoO.nil (GoF.cnd rfl (fun h=>?_) fun h=>GoF.skip ?_)
 ·refine GoF.seq (GoF.region ?_)
  iterate 4 refine GoO.go rfl rfl rfl rfl ?_
  refine GoO.callG rfl rfl rfl (insS_go hf hs1 es1 H.ins h60 hS x y hxy hy) fun r τ1 ⟨v,l,e1,e2,hS⟩=>⟨_,e1,?_⟩
  exact GoO.nil (GoF.ret ⟨.inl rfl,_,l,rfl,rfl,hS⟩)
 have h12:12<m:=by have:=of_decide_eq_false h;omega
 clear h
 refine GoF.seq (GoF.seq (GoF.region ?_))
 refine GoO.go rfl rfl rfl rfl ?_
 refine GoO.bin (a:=.i .i64 z) (b:=.i .i64 0) (v:=.b (decide (z=0))) rfl rfl rfl rfl rfl ?_
 refine GoO.nil (GoF.cnd rfl (fun h=>?_) fun h=>GoF.skip ?_)
 ·refine GoF.seq (GoF.region ?_)
  iterate 4 refine GoO.go rfl rfl rfl rfl ?_
  refine GoO.callG rfl rfl rfl (heapSort_go hf hs1 es1 H.hea H.sif h60 hS x y (by omega) hy) fun r τ1 ⟨v,l,e1,e2,hS⟩=>⟨_,e1,?_⟩
  exact GoO.nil (GoF.ret ⟨.inl rfl,_,l,rfl,rfl,hS⟩)
 clear h
 refine GoF.cutE (fun(z:Int)=>[(0,rowV o l0),(1,nI x),(2,nI y),(3,.i .i64 z),(4,cmpV),(10,.b bl),(11,.b pa),(12,nI m)]) (fun z τ=>∃l,SS o l0 σ l τ) (GoF.seq (GoF.region ?_)) fun z τ g ⟨l,hS⟩=>?_
 ·refine GoO.go rfl rfl rfl rfl ?_
  refine GoO.go rfl rfl rfl rfl ?_
  refine GoO.nil (GoF.cnd rfl (fun h=>?_) fun h=>GoF.skip ⟨rfl,z,⟨l,hS⟩,rfl,rfl,rfl,rfl,rfl,rfl,rfl,rfl,trivial⟩)
  refine GoF.seq (GoF.region ?_)
  iterate 4 refine GoO.go rfl rfl rfl rfl ?_
  refine GoO.callG rfl rfl rfl (breakPat_go H.bre H.nxp H.len H.l64 H.xor h60 hS x y (by omega) hy) fun r τ1 ⟨v,l,e1,e2,hS⟩=>⟨_,e1,?_⟩
  refine GoO.nil (GoF.region ?_)
  refine GoO.go rfl rfl rfl rfl ?_
  refine GoO.bin (a:=.i .i64 z) (b:=.i .i64 1) rfl rfl rfl rfl rfl ?_
  refine GoO.go rfl rfl rfl rfl ?_
  exact GoO.nil ⟨rfl,_,⟨l,hS⟩,rfl,rfl,rfl,rfl,rfl,rfl,rfl,rfl,trivial⟩
 refine GoF.seq (GoF.region ?_)
 iterate 4 refine GoO.go rfl rfl rfl rfl ?_
 refine GoO.callG rfl rfl rfl (choosePivot_go hf hs1 es1 H.cho H.mad H.med H.ord h60 hS x y (by omega) hy) fun r τ1 ⟨p,q,e1,hp,hS⟩=>⟨_,e1,?_⟩
 iterate 5 refine GoO.go rfl rfl rfl rfl ?_
 refine GoO.nil ?_
 refine GoF.cutE (fun(t:Nat×Int)=>[(0,rowV o l0),(1,nI x),(2,nI y),(3,.i .i64 z),(4,cmpV),(10,.b bl),(11,.b pa),(12,nI m),(13,nI t.1),(14,.i .i64 t.2)]) (fun t τ=>(x≤t.1∧t.1<y)∧∃l,SS o l0 σ l τ) (GoF.seq (GoF.region ?_)) fun t τ g ⟨hp,l,hS⟩=>?_
 ·refine GoO.go rfl rfl rfl rfl ?_
  refine GoO.bin (a:=.i .i64 q) (b:=.i .i64 2) (v:=.b (decide (q=2))) rfl rfl rfl rfl rfl ?_
  refine GoO.nil (GoF.cnd rfl (fun h=>?_) fun h=>GoF.skip ⟨rfl,(p,q),⟨hp,l,hS⟩,rfl,rfl,rfl,rfl,rfl,rfl,rfl,rfl,rfl,rfl,trivial⟩)
  refine GoF.seq (GoF.region ?_)
  iterate 4 refine GoO.go rfl rfl rfl rfl ?_
  refine GoO.callG rfl rfl rfl (reverse_go H.rev h60 hS x y (by omega) hy) fun r τ1 ⟨v,l,e1,e2,hS⟩=>⟨_,e1,?_⟩
  refine GoO.nil (GoF.seq (GoF.region ?_))
  refine sA ?_
  refine GoO.nil (GoF.region ?_)
  refine sA ?_
  exact GoO.nil ⟨rfl,(y-1-(p-x),1),⟨by show x≤y-1-(p-x)∧y-1-(p-x)<y;omega,l,hS⟩,rfl,rfl,rfl,rfl,rfl,rfl,rfl,rfl,rfl,rfl,trivial⟩
 obtain⟨p,q⟩:=t
 replace hp:x≤p∧p<y:=hp
 refine GoF.cutX (fun(_:Unit)=>[(0,rowV o l0),(1,nI x),(2,nI y),(3,.i .i64 z),(4,cmpV),(10,.b bl),(11,.b pa),(12,nI m),(13,nI p)]) (fun _ τ=>∃l,SS o l0 σ l τ) (GoF.seq (GoF.region ?_)) fun _ τ g ⟨l,hS⟩=>?_
 ·cases bl with
  |false=>
   refine sO ?_
   refine GoF.cnd rfl (fun h=>by cases h) fun h=>GoF.skip (.inl ⟨rfl,(),⟨l,hS⟩,rfl,rfl,rfl,rfl,rfl,rfl,rfl,rfl,rfl,trivial⟩)
  |true=>cases pa with
   |false=>
    refine sO ?_
    refine GoF.cnd rfl (fun h=>by cases h) fun h=>GoF.skip (.inl ⟨rfl,(),⟨l,hS⟩,rfl,rfl,rfl,rfl,rfl,rfl,rfl,rfl,rfl,trivial⟩)
   |true=>
    iterate 6 refine GoO.go rfl rfl rfl rfl ?_
    refine GoO.bin (a:=.i .i64 q) (b:=.i .i64 1) (v:=.b (decide (q=1))) rfl rfl rfl rfl rfl ?_
    refine GoO.go rfl rfl rfl rfl ?_
    refine GoO.nil (GoF.cnd rfl (fun h=>?_) fun h=>GoF.skip (.inl ⟨rfl,(),⟨l,hS⟩,rfl,rfl,rfl,rfl,rfl,rfl,rfl,rfl,rfl,trivial⟩))
    refine GoF.seq (GoF.region ?_)
    iterate 4 refine GoO.go rfl rfl rfl rfl ?_
    refine GoO.callG rfl rfl rfl (partIns_go hf hs1 es1 H.pin h60 hS x y (by omega) hy) fun r τ1 ⟨v,l,e1,hS⟩=>⟨_,e1,?_⟩
    refine GoO.nil (GoF.cnd rfl (fun h=>?_) fun h=>GoF.skip (.inl ⟨rfl,(),⟨l,hS⟩,rfl,rfl,rfl,rfl,rfl,rfl,rfl,rfl,rfl,trivial⟩))
    exact GoF.ret (.inr ⟨(fun h=>by cases h),.inl rfl,_,l,rfl,rfl,hS⟩)
 refine GoF.cutX (fun(_:Unit)=>[(0,rowV o l0),(1,nI x),(2,nI y),(3,.i .i64 z),(4,cmpV),(10,.b bl),(11,.b pa),(12,nI m),(13,nI p)]) (fun _ τ=>∃l,SS o l0 σ l τ) (GoF.seq (GoF.draw rfl rfl ?_)) fun _ τ g ⟨l,hS⟩=>?_
 ·have hl:=hS.len
  refine GoP.go rfl rfl rfl rfl ?_
  refine GoP.cmp (a:=x) (b:=0) rfl rfl rfl rfl rfl ?_
  by_cases h0:0<x
  ·rw[show decide (0<x)=true from decide_eq_true h0]
   refine sBh ?_
   refine GoP.nil (GoF.cnd rfl (fun h=>?_) fun h=>GoF.skip (.inl ⟨rfl,(),⟨l,hS⟩,rfl,rfl,rfl,rfl,rfl,rfl,rfl,rfl,rfl,trivial⟩))
   refine GoF.seq (GoF.region ?_)
   iterate 5 refine GoO.go rfl rfl rfl rfl ?_
   refine GoO.callG rfl rfl rfl (partEq_go hf hs1 es1 H.peq h60 hS x y p (by omega) hp hy) fun r τ1 ⟨v,l,e1,hv,hS⟩=>⟨_,e1,?_⟩
   refine GoO.go rfl rfl rfl rfl ?_
   refine GoO.nil (GoF.seq (GoF.region ?_))
   refine sA ?_
   exact GoO.nil (GoF.exit (.inr ⟨(fun h=>by cases h),y-v,by omega,v,y,z,_,_,l,rfl,by omega,by omega,hy,hS,rfl,rfl,rfl,rfl,rfl,rfl,rfl,trivial⟩))
  ·rw[show decide (0<x)=false from decide_eq_false h0]
   refine sP ?_
   refine GoF.cnd rfl (fun h=>by cases h) fun h=>GoF.skip (.inl ⟨rfl,(),⟨l,hS⟩,rfl,rfl,rfl,rfl,rfl,rfl,rfl,rfl,rfl,trivial⟩)
 refine GoF.seq (GoF.region ?_)
 iterate 5 refine GoO.go rfl rfl rfl rfl ?_
 refine GoO.callG rfl rfl rfl (partition_go hf hs1 es1 H.par h60 hS x y p (by omega) hp hy) fun r τ1 ⟨p2,q2,l,e1,hp2,hS⟩=>⟨_,e1,?_⟩
 iterate 5 refine GoO.go rfl rfl rfl rfl ?_
 refine GoO.nil (GoF.norm [(0,rowV o l0),(1,nI x),(2,nI y),(3,.i .i64 z),(4,cmpV),(12,nI m),(16,nI p2),(17,.b q2)] ⟨rfl,rfl,rfl,rfl,rfl,rfl,rfl,rfl,trivial⟩ fun g=>?_)
 refine GoF.seq (GoF.region ?_)
 refine sA ?_
 refine GoO.nil (GoF.seq (GoF.region ?_))
 refine sA ?_
 refine GoO.nil (GoF.seq (GoF.region ?_))
 refine GoO.go rfl rfl rfl rfl ?_
 refine GoO.bin (a:=nI m) (b:=nI 8) rfl rfl rfl rfl (bin_quoN (by omega) (by omega)) ?_
 refine GoO.go rfl rfl rfl rfl ?_
 refine GoO.nil (GoF.seq (GoF.region ?_))
 refine sA ?_
 refine GoO.nil (GoF.cnd rfl (fun h=>?_) fun h=>?_)
 ·refine GoF.seq (GoF.region ?_)
  refine sA ?_
  refine GoO.nil (GoF.seq (GoF.region ?_))
  iterate 5 refine GoO.go rfl rfl rfl rfl ?_
  refine GoO.callG rfl rfl rfl (ih (p2-x) (by omega) x p2 z l _ (Nat.le_refl _) (by omega) (by omega) hS) fun r τ1 ⟨v,l,e1,e2,hS⟩=>⟨_,e1,?_⟩
  refine GoO.nil (GoF.region ?_)
  refine sA ?_
  exact GoO.nil ⟨y-(p2+1),by omega,p2+1,y,z,_,_,l,rfl,by omega,by omega,hy,hS,rfl,rfl,rfl,rfl,rfl,rfl,rfl,trivial⟩
 ·refine GoF.seq (GoF.region ?_)
  refine sA ?_
  refine GoO.nil (GoF.seq (GoF.region ?_))
  refine sA ?_
  refine GoO.callG rfl rfl rfl (ih (y-(p2+1)) (by omega) (p2+1) y z l _ (Nat.le_refl _) (by omega) (by omega) hS) fun r τ1 ⟨v,l,e1,e2,hS⟩=>⟨_,e1,?_⟩
  refine GoO.nil (GoF.region ?_)
  refine sA ?_
  exact GoO.nil ⟨p2-x,by omega,x,p2,z,_,_,l,rfl,by omega,by omega,by omega,hS,rfl,rfl,rfl,rfl,rfl,rfl,rfl,trivial⟩
end
end Go.Lyc
end
noncomputable section
namespace Go.Lyc
variable [Tok][TokOk]
open Go.RowKit Go.Lyc.T
section
variable {b:Base}{K:Nat→List AV→AV→Prop}(hf:∀g ar r r',K g ar r→K g ar r'→r=r')(hs1:∀a c:Sy,K n_sorted1 [symA a,symA c] (.i .i64 (cmpSy a c)))(es1:b.ext n_sorted1=0∧b.pure n_sorted1=true)
theorem ins0_go(hh:Here (b.envK K) n_inssort c_inssort)(v:AV)(σ:St):GoesCall (b.envK K) 0 (.f (.func n_inssort) [] []) [v,nI 0,nI 0,cmpV] σ (fun r σ'=>r= .ok (.tu [])∧σ'=σ):=by
 refine GoesCall.code0 hh.e hh.p hh.f rfl rfl rfl ?_
 refine GoF.seq (GoF.region ?_)
 refine GoO.go rfl rfl rfl rfl ?_
 refine GoO.bin (a:=nI 0) (b:=nI 1) rfl rfl rfl rfl (bin_add (by omega)) ?_
 refine GoO.go rfl rfl rfl rfl ?_
 refine GoO.nil (GoF.block ?_)
 refine GoF.loop (fun _ f τ=>τ=σ∧sat [(2,nI 0),(8,nI 1)] f) ?_ 0 ⟨rfl,rfl,rfl,trivial⟩
 rintro m g τ ⟨rfl,hL⟩
 refine GoF.norm _ hL fun g=>?_
 refine GoF.seq (GoF.seq (GoF.region ?_))
 refine GoO.go rfl rfl rfl rfl ?_
 refine GoO.go rfl rfl rfl rfl ?_
 refine GoO.bin (a:=nI 1) (b:=nI 0) (v:=.b false) rfl rfl rfl rfl rfl ?_
 exact GoO.nil (GoF.cnd rfl (fun h=>by cases h) fun _=>GoF.exit ⟨.inr rfl,rfl,rfl⟩)
theorem pdq0_go(hh:Here (b.envK K) n_pdq c_pdq)(hi:Here (b.envK K) n_inssort c_inssort)(v:AV)(q:Int)(σ:St):GoesCall (b.envK K) 0 (.f (.func n_pdq) [] []) [v,nI 0,nI 0,.i .i64 q,cmpV] σ (fun r σ'=>r= .ok (.tu [])∧σ'=σ):=by
 refine GoesCall.code0 hh.e hh.p hh.f rfl rfl rfl ?_
 refine GoF.seq (GoF.region ?_)
 refine GoO.go rfl rfl rfl rfl ?_
 refine GoO.nil (GoF.seq (GoF.region ?_))
 refine GoO.go rfl rfl rfl rfl ?_
 refine GoO.nil (GoF.block ?_)
 refine GoF.loop (fun _ f τ=>τ=σ∧sat [(0,v),(1,nI 0),(2,nI 0),(4,cmpV)] f) ?_ 0 ⟨rfl,rfl,rfl,rfl,rfl,trivial⟩
 rintro m g τ ⟨rfl,hL⟩
 refine GoF.norm _ hL fun g=>?_
 refine GoF.block (GoF.seq (GoF.region ?_))
 refine GoO.go rfl rfl rfl rfl ?_
 refine GoO.go rfl rfl rfl rfl ?_
 refine GoO.bin (a:=nI 0) (b:=nI 0) (v:=nI 0) rfl rfl rfl rfl rfl ?_
 refine GoO.go rfl rfl rfl rfl ?_
 refine GoO.nil (GoF.seq (GoF.seq (GoF.region ?_)))
 refine GoO.go rfl rfl rfl rfl ?_
 refine GoO.bin (a:=nI 0) (b:=nI 12) (v:=.b true) rfl rfl rfl rfl rfl ?_
 refine GoO.nil (GoF.cnd rfl (fun _=>?_) (fun h=>by cases h))
 refine GoF.seq (GoF.region ?_)
 iterate 4 refine GoO.go rfl rfl rfl rfl ?_
 refine GoO.callG rfl rfl rfl (ins0_go hi v τ) fun r σ2 ⟨e1,e2⟩=>⟨_,e1,?_⟩
 exact GoO.nil (GoF.ret ⟨.inl rfl,rfl,e2⟩)
include hf hs1 es1 in
theorem SortN_go(hh:Here (b.envK K) n_SortFunc c_SortFunc)(H:HS b K){l:List Sy}{v:AV}(hl:l.length≤60000)(σ:St)(hA:Acc σ (some 2) v (l.map symA)):
  GoesCall (b.envK K) 0 (.f (.func n_SortFunc) [] []) [v,cmpV] σ (fun r σ'=>r= .ok (.tu [])∧σ.next≤σ'.next∧(∃l':List Sy,l'.Perm l∧Acc σ' (some 2) v (l'.map symA))∧∀i o,v.at? ≠some i→σ.get i=some o→σ'.get i=some o):=by
 refine GoesCall.code0 hh.e hh.p hh.f rfl rfl rfl ?_
 refine GoF.seq (GoF.region ?_)
 refine GoO.go rfl rfl rfl rfl ?_
 refine GoO.len (m:=l.length) rfl rfl rfl (by have:=hA.len (τ:=σ);rwa[List.length_map] at this) ?_
 refine GoO.go rfl rfl rfl rfl ?_
 refine GoO.nil (GoF.region ?_)
 refine GoO.go rfl rfl rfl rfl ?_
 refine GoO.go rfl rfl rfl rfl ?_
 refine GoO.go rfl rfl rfl rfl ?_
 refine GoO.val rfl rfl (op_conv64 (m:=Int.ofNat l.length) rfl _) ?_
 rw[wrapN_eq,show IntKind.wrap .u64 (Int.ofNat l.length)=Int.ofNat l.length from wrap_u64 (by omega)]
 refine GoO.callG rfl rfl rfl (Lenn_go H.len H.l64 l.length (by omega) σ) fun r σ2 ⟨⟨q,e1,_,_⟩,e2⟩=>⟨_,e1,?_⟩
 subst e2
 refine GoO.go rfl rfl rfl rfl ?_
 cases l with
 |nil=>
  refine GoO.callG rfl rfl rfl (pdq0_go H.pdq H.ins v q σ2) fun r σ3 ⟨e1,e2⟩=>⟨_,e1,?_⟩
  subst e2
  exact GoO.nil ⟨.inr rfl,rfl,Nat.le_refl _,⟨[],.refl _,hA⟩,fun i o _ h=>h⟩
 |cons x l=>
  obtain⟨o,hv,ho,hcf⟩:=hA.inv (by simp)
  rw[List.length_map] at hv
  subst hv
  refine GoO.callG rfl rfl rfl (pdqS_go hf hs1 es1 H (o:=o) (l0:=x::l) (σ:=σ2) hl _ 0 (x::l).length q (x::l) σ2 (Nat.le_refl _) (Nat.zero_le _) (Nat.le_refl _) ⟨.refl _,ho,Nat.le_refl _,fun _ _ _ h=>h⟩) fun r σ3 ⟨v,l',e1,e2,hS⟩=>⟨_,e1,?_⟩
  subst e2
  refine GoO.nil ⟨.inr rfl,rfl,hS.nx,⟨l',hS.perm,?_⟩,fun i o' h ho'=>hS.keep i o' (fun e=>h (by rw[e];rfl)) ho'⟩
  have hl':=hS.len
  have:=Acc.of (σ:=σ3) (sh:=some 2) (o:=o) (xs:=l'.map symA) (by rw[List.length_map,hl'];simp) hS.blk (confS l')
  rw[List.length_map,hl'] at this
  exact this
include hf hs1 es1 in
theorem SortedN_go(hh:Here (b.envK K) n_SortedFunc c_SortedFunc)(hc:Here (b.envK K) n_Collect c_Collect)(ha:Here (b.envK K) n_AppendSeq c_AppendSeq)(hk1:Here (b.envK K) n_Keys1 c_Keys1)(hs:Here (b.envK K) n_SortFunc c_SortFunc)(H:HS b K)
  {mid bx:Nat} {ks:List Sy} (hks:ks.length≤60000) (σ:St) (hm:σ.get mid=some (.map (setE symA 0 ks) ks.length)) (hbx:σ.get bx=some (.cells [.m (some mid)])):
  GoesCall (b.envK K) 0 (.f (.func n_SortedFunc) [] []) [.f (.func n_Keys1) [] [.p (some (bx,0))],cmpV] σ (fun r σ'=>∃(v:AV) (c:List Sy),r= .ok v∧c.Perm ks∧Acc σ' (some 2) v (c.map symA)∧(∀a,v.at? =some a→σ.next≤a)∧More σ σ'):=by
 refine GoesCall.code hh.e hh.p hh.f rfl rfl rfl rfl ?_
 refine GoF.seq (GoF.region ?_)
 refine GoO.go rfl rfl rfl rfl ?_
 refine GoO.nil (GoF.seq (GoF.region ?_))
 refine GoO.go rfl rfl rfl rfl ?_
 refine GoO.callG rfl rfl rfl (Collect_go hc ha hk1 (by omega) σ hm hbx) fun r σ2 ⟨v,c,e1,h1,h2,h3,h4⟩=>⟨_,e1,?_⟩
 have hcl:=h1.length_eq
 refine GoO.go rfl rfl rfl rfl ?_
 refine GoO.nil (GoF.seq (GoF.region ?_))
 refine GoO.go rfl rfl rfl rfl ?_
 refine GoO.go rfl rfl rfl rfl ?_
 refine GoO.callG rfl rfl rfl (SortN_go hf hs1 es1 hs H (l:=c) (by omega) σ2 h2) fun r σ3 ⟨e2,n3,⟨l',hp',hA'⟩,k3⟩=>⟨_,e2,?_⟩
 refine GoO.nil (GoF.seq (GoF.region ?_))
 refine GoO.go rfl rfl rfl rfl ?_
 refine GoO.go rfl rfl rfl rfl ?_
 have hn:=h4.1
 exact GoO.nil (GoF.ret ⟨rfl,_,l',rfl,hp'.trans h1,hA',h3,by omega,fun i o ho=>k3 i o (fun e=>by have:=h3 i e;have:=St.get_lt ho;omega) (h4.2 i o ho)⟩)
include hf hs1 es1 in
theorem sortedN_go(hh:Here (b.envK K) n_sorted c_sorted)(hk:Here (b.envK K) n_Keys c_Keys)(hsf:Here (b.envK K) n_SortedFunc c_SortedFunc)(hc:Here (b.envK K) n_Collect c_Collect)(ha:Here (b.envK K) n_AppendSeq c_AppendSeq)(hk1:Here (b.envK K) n_Keys1 c_Keys1)(hs:Here (b.envK K) n_SortFunc c_SortFunc)(H:HS b K)
  {mid:Nat} {ks:List Sy} (hks:ks.length≤60000) (σ:St) (hm:σ.get mid=some (.map (setE symA 0 ks) ks.length)):
  GoesCall (b.envK K) 0 (.f (.func n_sorted) [] []) [.m (some mid)] σ (fun r σ'=>∃(v:AV) (c:List Sy),r= .ok v∧c.Perm ks∧Acc σ' (some 2) v (c.map symA)∧(∀a,v.at? =some a→σ.next≤a)∧More σ σ'):=by
 refine GoesCall.code hh.e hh.p hh.f rfl rfl rfl rfl ?_
 refine GoF.seq (GoF.region ?_)
 refine GoO.go rfl rfl rfl rfl ?_
 refine GoO.nil (GoF.seq (GoF.region ?_))
 refine GoO.go rfl rfl rfl rfl ?_
 generalize hz:σ.next=z
 refine GoO.callG rfl rfl rfl (Keys_go hk mid σ z hz) fun r σ2 ⟨e1,n2,h2,k2⟩=>⟨_,e1,?_⟩
 refine GoO.callG rfl rfl rfl (SortedN_go hf hs1 es1 hsf hc ha hk1 hs H hks σ2 (k2 _ _ hm) h2) fun r σ3 ⟨v,c,e1,h1,h3,h4,h5⟩=>⟨_,e1,?_⟩
 refine GoO.go rfl rfl rfl rfl ?_
 have:=h5.1
 exact GoO.nil (GoF.ret ⟨rfl,_,c,rfl,h1,h3,fun a e=>by have:=h4 a e;omega,by omega,fun i o ho=>h5.2 i o (k2 i o ho)⟩)
include hf hs1 es1 in
theorem srtN(hh:Here (b.envK K) n_sorted c_sorted)(hk:Here (b.envK K) n_Keys c_Keys)(hsf:Here (b.envK K) n_SortedFunc c_SortedFunc)(hc:Here (b.envK K) n_Collect c_Collect)(ha:Here (b.envK K) n_AppendSeq c_AppendSeq)(hk1:Here (b.envK K) n_Keys1 c_Keys1)(hs:Here (b.envK K) n_SortFunc c_SortFunc)(H:HS b K):SrtG b K 60000:=
 ⟨Nat.le_refl _,fun hn σ hm=>sortedN_go hf hs1 es1 hh hk hsf hc ha hk1 hs H hn σ hm⟩
end
end Go.Lyc
end
noncomputable section
namespace Go.Lyc
variable [Tok][TokOk]
open Go.RowKit Go.Lyc.T
structure Fam where
 g:Nat
 I:Type
 ok:I→Prop
 lv:I→Nat
 ar:I→List AV
 r:I→AV
 fn:∀i j,ar i=ar j→r i=r j
def KL(L:List Fam)(lv:Nat)(g:Nat)(ar:List AV)(r:AV):Prop:=∃F∈L,F.g=g∧∃i:F.I,F.ok i∧F.lv i≤lv∧ar=F.ar i∧r=F.r i
theorem KL.mk{L:List Fam}{lv:Nat}(n:Nat){F:Fam}(h:L[n]? =some F)(i:F.I)(ho:F.ok i)(hl:F.lv i≤lv):KL L lv F.g (F.ar i) (F.r i):=⟨F,List.mem_of_getElem? h,rfl,i,ho,hl,rfl,rfl⟩
theorem nodup_same{L:List Fam}(h:(L.map Fam.g).Nodup){F G:Fam}(hF:F∈L)(hG:G∈L)(e:F.g=G.g):F=G:=by
 induction L with
 |nil=>cases hF
 |cons x L ih=>
  rw[List.map_cons,List.nodup_cons] at h
  rcases List.mem_cons.1 hF with e1|hF1
  ·rcases List.mem_cons.1 hG with e2|hG1
   ·rw[e1,e2]
   ·exact absurd (List.mem_map.2 ⟨G,hG1,by rw[←e,e1]⟩) h.1
  ·rcases List.mem_cons.1 hG with e2|hG1
   ·exact absurd (List.mem_map.2 ⟨F,hF1,by rw[e,e2]⟩) h.1
   ·exact ih h.2 hF1 hG1
theorem KL.fn{L:List Fam}(h:(L.map Fam.g).Nodup)(lv:Nat):∀g ar r r',KL L lv g ar r→KL L lv g ar r'→r=r':=by
 rintro g ar r r' ⟨F,hF,e1,i,_,_,a1,r1⟩ ⟨G,hG,e2,j,_,_,a2,r2⟩
 obtain rfl:=nodup_same h hF hG (e1.trans e2.symm)
 rw[r1,r2]
 exact F.fn i j (a1.symm.trans a2)
theorem KL.kok{P:Program}{b:Base}{L:List Fam}(h:∀F∈L,∀i,F.ok i→(∀m,m<F.lv i→KOk P b (KL L m))→∀B0,SpecEntry P (b.env []) B0 F.g (F.ar i) (F.r i)):∀lv,KOk P b (KL L lv):=by
 intro lv
 induction lv using Nat.strongRecOn with
 |ind lv ih=>
  rintro g ar r ⟨F,hF,rfl,i,ho,hl,rfl,rfl⟩ B0
  exact h F hF i ho (fun m hm=>ih m (by omega)) B0
theorem one1{a b:AV}(h:[a]=[b]):a=b:=by injection h
theorem one2{a b c d:AV}(h:[a,b]=[c,d]):a=c∧b=d:=by injection h with h1 h2;injection h2 with h2;exact⟨h1,h2⟩
theorem uB_inj{a b:Nat}(h:uB a=uB b):a=b:=by injection h with _ h;exact Int.ofNat.inj h
theorem s_inj{a b:List Nat}(h:AV.s a= .s b):a=b:=by injection h
theorem i_inj{k:IntKind}{a b:Int}(h:AV.i k a= .i k b):a=b:=by injection h
theorem symA_inj{a b:Sy}(h:symA a=symA b):a=b:=by
 obtain⟨a1,a2⟩:=a
 obtain⟨b1,b2⟩:=b
 injection h with h
 injection h with h1 h2
 injection h2 with h2 _
 injection h2 with _ h2
 exact Prod.ext (s_inj h1) (Int.ofNat.inj h2)
theorem Lg.A_inj{l m:Lg}(h:l.A true=m.A true):l.ops=m.ops∧l.kind=m.kind:=by
 injection h with h
 injection h with _ h
 injection h with h1 h
 injection h with h2 _
 injection h1 with _ h1
 injection h2 with _ h2
 exact⟨Int.ofNat.inj h1,Int.ofNat.inj h2⟩
def byteFam(g:Nat)(f:Nat→Bool):Fam:=⟨g,Nat,fun _=>True,fun _=>1,fun c=>[uB c],fun c=>.b (f c),fun _ _ h=>by rw[uB_inj (one1 h)]⟩
def strFam(g lv:Nat)(f:List Nat→Bool):Fam:=⟨g,List Nat,fun l=>l.length<2^62,fun _=>lv,fun l=>[.s l],fun l=>.b (f l),fun _ _ h=>by rw[s_inj (one1 h)]⟩
def preFam(g lv:Nat):Fam:=⟨g,List Nat×List Nat,fun _=>True,fun _=>lv,fun p=>[.s p.1,.s p.2],fun p=>.b (prefB p.1 p.2),fun _ _ h=>by have:=one2 h;rw[s_inj this.1,s_inj this.2]⟩
def fams(z:Nat)(lgs:List Lg):List Fam:=[
 byteFam n_small isSmall,byteFam n_capital isCap,byteFam n_digit isDig,byteFam n_Variable1 isVar1,byteFam n_Function1 isFun1,
 ⟨n_alnum,Nat,fun _=>True,fun _=>2,fun c=>[uB c],fun c=>.b (isAl c),fun _ _ h=>by rw[uB_inj (one1 h)]⟩,
 ⟨n_reserved,List Nat,fun _=>True,fun _=>1,fun l=>[.s l],fun l=>.b (resv l),fun _ _ h=>by rw[s_inj (one1 h)]⟩,
 preFam n_slHasPrefix 1,preFam n_HasPrefix 2,
 strFam n_Predicate 3 isPred,strFam n_Variable 3 isVar,strFam n_Function 3 isFun,strFam n_formMeta 4 isFMeta,strFam n_termMeta 4 isTMeta,
 ⟨n_named,Nat×List Nat,fun p=>p.2.length<2^62,fun _=>5,fun p=>[uB p.1,.s p.2],fun p=>.b (namedB p.1 p.2),fun _ _ h=>by have:=one2 h;rw[uB_inj this.1,s_inj this.2]⟩,
 ⟨n_instance,Option (List Tm),fun a=>(a.getD []).length<2^62∧∀t∈a.getD [],t.name.length<2^62∧2*t.dep≤z+800,fun _=>5,fun a=>[tmsA true a],fun a=>.b (instB (a.getD [])),fun _ _ h=>by rw[tmsA_inj (one1 h)]⟩,
 ⟨n_Right,Fm,fun F=>F.ok∧2*F.dep≤z+800,fun _=>6,fun F=>[F.A true],fun F=>.b (rightB F),fun _ _ h=>by rw[Fm.A_inj (one1 h)]⟩,
 ⟨n_Ops,Fm,fun F=>F.few,fun _=>1,fun F=>[F.A true],fun F=>.i .u32 (Int.ofNat (opsN F)),fun _ _ h=>by rw[Fm.A_inj (one1 h)]⟩,
 ⟨n_sorted1,Sy×Sy,fun _=>True,fun _=>1,fun p=>[symA p.1,symA p.2],fun p=>.i .i64 (cmpSy p.1 p.2),fun _ _ h=>by have:=one2 h;rw[symA_inj this.1,symA_inj this.2]⟩,
 ⟨n_argsAllowed,Nat×Fm,fun p=>p.2.few∧(predsN p.2).length≤60000∧(funsN p.2).length≤60000,fun _=>2,fun p=>[uB p.1,p.2.A true],fun p=>.b (argsB p.1 p.2),fun _ _ h=>by have:=one2 h;rw[uB_inj this.1,Fm.A_inj this.2]⟩,
 ⟨n_sizeT,Option (List Tm)×Int,fun p=>(∀t∈p.1.getD [],t.few)∧(p.1.getD []).length<2^62∧2*Tm.deps (p.1.getD [])≤z+800,fun p=>Tm.deps (p.1.getD [])+1,fun p=>[tmsA true p.1,.i .i64 p.2],fun p=>.i .i64 (Tm.szs (p.1.getD []) 0 p.2),fun _ _ h=>by have:=one2 h;rw[tmsA_inj this.1,i_inj this.2]⟩,
 ⟨n_Size,Fm×Int,fun p=>p.1.few∧2*p.1.dep≤z+800,fun p=>p.1.dep+1,fun p=>[p.1.A true,.i .i64 p.2],fun p=>.i .i64 (p.1.sz p.2),fun _ _ h=>by have:=one2 h;rw[Fm.A_inj this.1,i_inj this.2]⟩,
 ⟨n_Small,Fm,fun F=>F.few∧2*F.dep≤z+800,fun F=>F.dep+2,fun F=>[.tl true (some 4) [F.A true]],fun F=>.b (smallB F),fun i j h=>by
  have h:AV.tl true (some 4) [i.A true]= .tl true (some 4) [j.A true]:=one1 h
  injection h with _ _ h;rw[Fm.A_inj (one1 h)]⟩,
 ⟨n_LRight,Lg,fun l=>l∈lgs,fun _=>0,fun l=>[l.A true],fun _=>.b true,fun _ _ _=>rfl⟩,
 ⟨n_one,Lg×Fm,fun p=>p.1.ops<2^32∧p.2.ok∧p.2.few∧2*p.2.dep≤z+800,fun _=>7,fun p=>[p.1.A true,p.2.A true],fun p=>.b (oneB p.1.ops p.1.kind p.2),fun _ _ h=>by have:=one2 h;rw[(Lg.A_inj this.1).1,(Lg.A_inj this.1).2,Fm.A_inj this.2]⟩,
 ⟨n_Allowed,Lg×Fm,fun p=>p.1∈lgs∧p.1.ops<2^32∧p.2.ok∧p.2.few∧2*p.2.dep≤z+800,fun _=>8,fun p=>[p.1.A true,p.2.A true],fun p=>.b (oneB p.1.ops p.1.kind p.2),fun _ _ h=>by have:=one2 h;rw[(Lg.A_inj this.1).1,(Lg.A_inj this.1).2,Fm.A_inj this.2]⟩]
theorem fams_nd(z:Nat)(lgs:List Lg):((fams z lgs).map Fam.g).Nodup:=by
 show[n_small,n_capital,n_digit,n_Variable1,n_Function1,n_alnum,n_reserved,n_slHasPrefix,n_HasPrefix,n_Predicate,n_Variable,n_Function,n_formMeta,n_termMeta,n_named,n_instance,n_Right,n_Ops,n_sorted1,n_argsAllowed,n_sizeT,n_Size,n_Small,n_LRight,n_one,n_Allowed].Nodup
 decide
end Go.Lyc
end
noncomputable section
namespace Go.Lyc
variable [Tok][TokOk]
open Go.RowKit Go.Lyc.T
abbrev HB(b:Base)(g:Nat)(c:AFunc):Prop:=b.funcs.get g=some c∧b.ext g=0∧b.pure g=false
abbrev PB(b:Base)(g:Nat)(c:AFunc):Prop:=b.funcs.get g=some c∧b.ext g=0∧b.pure g=true
theorem HB.h{b:Base}{K:Nat→List AV→AV→Prop}{g:Nat}{c:AFunc}(h:HB b g c):Here (b.envK K) g c:=⟨h.1,h.2.1,h.2.2⟩
structure GA(b:Base):Prop where
 visit:HB b n_visit c_visit
 walk:HB b n_walk c_walk
 walk1:HB b n_walk1 c_walk1
 jnode:HB b n_jnode c_jnode
 jterm:HB b n_jterm c_jterm
 jterms:HB b n_jterms c_jterms
 jform:HB b n_jform c_jform
 checker:HB b n_checker c_checker
 checker1:HB b n_checker1 c_checker1
 sorted:HB b n_sorted c_sorted
 Keys:HB b n_Keys c_Keys
 Keys1:HB b n_Keys1 c_Keys1
 SortedFunc:HB b n_SortedFunc c_SortedFunc
 Collect:HB b n_Collect c_Collect
 AppendSeq:HB b n_AppendSeq c_AppendSeq
 SortFunc:HB b n_SortFunc c_SortFunc
 Len:HB b n_Len c_Len
 Len64:HB b n_Len64 c_Len64
 pdq:HB b n_pdq c_pdq
 inssort:HB b n_inssort c_inssort
 heapSort:HB b n_heapSort c_heapSort
 siftDown:HB b n_siftDown c_siftDown
 breakPat:HB b n_breakPat c_breakPat
 nextPow:HB b n_nextPow c_nextPow
 xorNext:HB b n_xorNext c_xorNext
 choosePivot:HB b n_choosePivot c_choosePivot
 medianAdj:HB b n_medianAdj c_medianAdj
 median:HB b n_median c_median
 order2:HB b n_order2 c_order2
 reverseRange:HB b n_reverseRange c_reverseRange
 partIns:HB b n_partIns c_partIns
 partEq:HB b n_partEq c_partEq
 partition:HB b n_partition c_partition
 Predicates:HB b n_Predicates c_Predicates
 Functions:HB b n_Functions c_Functions
 Functions1:HB b n_Functions1 c_Functions1
 visitTerms:HB b n_visitTerms c_visitTerms
 strCompare:HB b n_strCompare c_strCompare
 CompareString:HB b n_CompareString c_CompareString
 cmpInt:HB b n_cmpInt c_cmpInt
 isNaNint:HB b n_isNaNint c_isNaNint
 small_:PB b n_small c_small
 capital_:PB b n_capital c_capital
 digit_:PB b n_digit c_digit
 Variable1_:PB b n_Variable1 c_Variable1
 Function1_:PB b n_Function1 c_Function1
 alnum_:PB b n_alnum c_alnum
 reserved_:PB b n_reserved c_reserved
 slHasPrefix_:PB b n_slHasPrefix c_slHasPrefix
 HasPrefix_:PB b n_HasPrefix c_HasPrefix
 Predicate_:PB b n_Predicate c_Predicate
 Variable_:PB b n_Variable c_Variable
 Function_:PB b n_Function c_Function
 formMeta_:PB b n_formMeta c_formMeta
 termMeta_:PB b n_termMeta c_termMeta
 named_:PB b n_named c_named
 instance_:PB b n_instance c_instance
 Right_:PB b n_Right c_Right
 Ops_:PB b n_Ops c_Ops
 sorted1_:PB b n_sorted1 c_sorted1
 argsAllowed_:PB b n_argsAllowed c_argsAllowed
 sizeT_:PB b n_sizeT c_sizeT
 Size_:PB b n_Size c_Size
 Small_:PB b n_Small c_Small
 one_:PB b n_one c_one
 Allowed_:PB b n_Allowed c_Allowed
 LRight:b.ext n_LRight=0∧b.pure n_LRight=true
 cmps:b.ext n_cmpstring=2
 rows:b.glob n_rows=some (.ag rowsL)
theorem eb(x:Bool):freshA 1000 (.b x)=true∧AV.eqb 1000 (.b x) (.b x)=true:=⟨rfl,Snp.eqb 1000 _ (Snp.b 999 _)⟩
theorem ei(k:IntKind)(x:Int):freshA 1000 (.i k x)=true∧AV.eqb 1000 (.i k x) (.i k x)=true:=⟨rfl,Snp.eqb 1000 _ (Snp.i 999 _ _)⟩
theorem snap_more{σ:St}:∀(n:Nat) (v r:AV),snapshot σ n v=some r→snapshot σ (n+1) v=some r
 |0,_,_,h=>by cases h
 |n+1,v,r,h=>by
  have ih:=snap_more (σ:=σ) n
  have ihl:∀ {l l':List AV},mapO (snapshot σ n) l=some l'→mapO (snapshot σ (n+1)) l=some l':=mapO_mono ih
  rw[snapshot_succ] at h
  rw[snapshot_succ]
  split at h
  ·split at h<;>try (cases h;done)
   rename_i xs hxs
   split at h<;>cases h
   rename_i ys hys
   simp only[hxs,ihl hys]
  ·exact h
  ·split at h<;>cases h
   rename_i ys hys
   simp only[ihl hys]
  ·split at h<;>cases h
   rename_i ys hys
   simp only[ihl hys]
  ·split at h<;>cases h
   rename_i ys hys
   simp only[ihl hys]
  ·split at h<;>cases h
   rename_i y hy
   simp only[ih _ _ hy]
  ·cases h
  ·cases h
  ·cases h
  ·cases h
  ·exact h
  ·exact h
theorem snap_up{σ:St}{n m:Nat}(hn:n≤m){v r:AV}(h:snapshot σ n v=some r):snapshot σ m v=some r:=by
 obtain⟨k,rfl⟩:∃k,m=n+k:=⟨m-n,by omega⟩
 induction k with
 |zero=>exact h
 |succ k ih=>exact snap_more _ _ _ (ih (by omega))
section
variable {b:Base}{lgs:List Lg}{lv:Nat}
abbrev KF(b:Base)(lgs:List Lg)(lv:Nat):=KL (fams b.fz lgs) lv
theorem kSmall(h:1≤lv)(c:Nat):KF b lgs lv n_small [uB c] (.b (isSmall c)):=(KL.mk (L:=fams b.fz lgs) 0 rfl) c trivial h
theorem kCap(h:1≤lv)(c:Nat):KF b lgs lv n_capital [uB c] (.b (isCap c)):=(KL.mk (L:=fams b.fz lgs) 1 rfl) c trivial h
theorem kDig(h:1≤lv)(c:Nat):KF b lgs lv n_digit [uB c] (.b (isDig c)):=(KL.mk (L:=fams b.fz lgs) 2 rfl) c trivial h
theorem kV1(h:1≤lv)(c:Nat):KF b lgs lv n_Variable1 [uB c] (.b (isVar1 c)):=(KL.mk (L:=fams b.fz lgs) 3 rfl) c trivial h
theorem kF1(h:1≤lv)(c:Nat):KF b lgs lv n_Function1 [uB c] (.b (isFun1 c)):=(KL.mk (L:=fams b.fz lgs) 4 rfl) c trivial h
theorem kAl(h:2≤lv)(c:Nat):KF b lgs lv n_alnum [uB c] (.b (isAl c)):=(KL.mk (L:=fams b.fz lgs) 5 rfl) c trivial h
theorem kRes(h:1≤lv)(l:List Nat):KF b lgs lv n_reserved [.s l] (.b (resv l)):=(KL.mk (L:=fams b.fz lgs) 6 rfl) l trivial h
theorem kSlp(h:1≤lv)(x y:List Nat):KF b lgs lv n_slHasPrefix [.s x,.s y] (.b (prefB x y)):=(KL.mk (L:=fams b.fz lgs) 7 rfl) (x,y) trivial h
theorem kPre(h:2≤lv)(x y:List Nat):KF b lgs lv n_HasPrefix [.s x,.s y] (.b (prefB x y)):=(KL.mk (L:=fams b.fz lgs) 8 rfl) (x,y) trivial h
theorem kPred(h:3≤lv)(l:List Nat)(hl:l.length<2^62):KF b lgs lv n_Predicate [.s l] (.b (isPred l)):=(KL.mk (L:=fams b.fz lgs) 9 rfl) l hl h
theorem kVar(h:3≤lv)(l:List Nat)(hl:l.length<2^62):KF b lgs lv n_Variable [.s l] (.b (isVar l)):=(KL.mk (L:=fams b.fz lgs) 10 rfl) l hl h
theorem kFun(h:3≤lv)(l:List Nat)(hl:l.length<2^62):KF b lgs lv n_Function [.s l] (.b (isFun l)):=(KL.mk (L:=fams b.fz lgs) 11 rfl) l hl h
theorem kFM(h:4≤lv)(l:List Nat)(hl:l.length<2^62):KF b lgs lv n_formMeta [.s l] (.b (isFMeta l)):=(KL.mk (L:=fams b.fz lgs) 12 rfl) l hl h
theorem kTM(h:4≤lv)(l:List Nat)(hl:l.length<2^62):KF b lgs lv n_termMeta [.s l] (.b (isTMeta l)):=(KL.mk (L:=fams b.fz lgs) 13 rfl) l hl h
theorem kNam(h:5≤lv)(k:Nat)(l:List Nat)(hl:l.length<2^62):KF b lgs lv n_named [.i .u8 (Int.ofNat k),.s l] (.b (namedB k l)):=(KL.mk (L:=fams b.fz lgs) 14 rfl) (k,l) hl h
theorem kIns(h:5≤lv)(a:Option (List Tm))(h1:(a.getD []).length<2^62)(h2:∀t∈a.getD [],t.name.length<2^62∧2*t.dep≤b.fz+800):KF b lgs lv n_instance [tmsA true a] (.b (instB (a.getD []))):=(KL.mk (L:=fams b.fz lgs) 15 rfl) a ⟨h1,h2⟩ h
theorem kRi(h:6≤lv)(F:Fm)(h1:F.ok)(h2:2*F.dep≤b.fz+800):KF b lgs lv n_Right [F.A true] (.b (rightB F)):=(KL.mk (L:=fams b.fz lgs) 16 rfl) F ⟨h1,h2⟩ h
theorem kOps(h:1≤lv)(F:Fm)(h1:F.few):KF b lgs lv n_Ops [F.A true] (.i .u32 (Int.ofNat (opsN F))):=(KL.mk (L:=fams b.fz lgs) 17 rfl) F h1 h
theorem kSrt(h:1≤lv)(x y:Sy):KF b lgs lv n_sorted1 [symA x,symA y] (.i .i64 (cmpSy x y)):=(KL.mk (L:=fams b.fz lgs) 18 rfl) (x,y) trivial h
theorem kArg(h:2≤lv)(k:Nat)(F:Fm)(h1:F.few)(h2:(predsN F).length≤60000∧(funsN F).length≤60000):KF b lgs lv n_argsAllowed [.i .u8 (Int.ofNat k),F.A true] (.b (argsB k F)):=(KL.mk (L:=fams b.fz lgs) 19 rfl) (k,F) ⟨h1,h2⟩ h
theorem kSzT(a:Option (List Tm))(l:Int)(h1:∀t∈a.getD [],t.few)(h2:(a.getD []).length<2^62)(h3:2*Tm.deps (a.getD [])≤b.fz+800)(h:Tm.deps (a.getD [])+1≤lv):KF b lgs lv n_sizeT [tmsA true a,.i .i64 l] (.i .i64 (Tm.szs (a.getD []) 0 l)):=(KL.mk (L:=fams b.fz lgs) 20 rfl) (a,l) ⟨h1,h2,h3⟩ h
theorem kSz(F:Fm)(l:Int)(h1:F.few)(h3:2*F.dep≤b.fz+800)(h:F.dep+1≤lv):KF b lgs lv n_Size [F.A true,.i .i64 l] (.i .i64 (F.sz l)):=(KL.mk (L:=fams b.fz lgs) 21 rfl) (F,l) ⟨h1,h3⟩ h
theorem kSml(F:Fm)(h1:F.few)(h3:2*F.dep≤b.fz+800)(h:F.dep+2≤lv):KF b lgs lv n_Small [.tl true (some 4) [F.A true]] (.b (smallB F)):=(KL.mk (L:=fams b.fz lgs) 22 rfl) F ⟨h1,h3⟩ h
theorem kLR(l:Lg)(h:l∈lgs):KF b lgs lv n_LRight [l.A true] (.b true):=(KL.mk (L:=fams b.fz lgs) 23 rfl) l h (Nat.zero_le _)
theorem kOne(h:7≤lv)(l:Lg)(F:Fm)(h0:l.ops<2^32)(h1:F.ok)(h2:F.few)(h3:2*F.dep≤b.fz+800):KF b lgs lv n_one [l.A true,F.A true] (.b (oneB l.ops l.kind F)):=(KL.mk (L:=fams b.fz lgs) 24 rfl) (l,F) ⟨h0,h1,h2,h3⟩ h
theorem kAll(h:8≤lv)(l:Lg)(F:Fm)(hl:l∈lgs)(h0:l.ops<2^32)(h1:F.ok)(h2:F.few)(h3:2*F.dep≤b.fz+800):KF b lgs lv n_Allowed [l.A true,F.A true] (.b (oneB l.ops l.kind F)):=(KL.mk (L:=fams b.fz lgs) 25 rfl) (l,F) ⟨hl,h0,h1,h2,h3⟩ h
end
section
variable {P:Program}{b:Base}(hb:BaseOk P b)(ga:GA b){lgs:List Lg}
theorem KF.fn{lv:Nat}:∀g ar r r',KF b lgs lv g ar r→KF b lgs lv g ar r'→r=r':=KL.fn (fams_nd _ _) lv
include ga in
theorem nmK{lv:Nat}(h:5≤lv):NmK b (KF b lgs lv) where
 fn:=KF.fn
 var l hl:=kVar (by omega) l hl
 fun_ l hl:=kFun (by omega) l hl
 tmeta l hl:=kTM (by omega) l hl
 named k l hl:=kNam h k l hl
 inst a h1 h2:=kIns h a h1 h2
 e_var:=ga.Variable_.2
 e_fun:=ga.Function_.2
 e_tmeta:=ga.termMeta_.2
 e_named:=ga.named_.2
 e_inst:=ga.instance_.2
 node:=ga.jnode.h
 term:=ga.jterm.h
 terms:=ga.jterms.h
 form:=ga.jform.h
include ga in
theorem hsK{lv:Nat}:HS b (KF b lgs lv):=⟨ga.pdq.h,ga.inssort.h,ga.heapSort.h,ga.siftDown.h,ga.breakPat.h,ga.nextPow.h,ga.Len.h,ga.Len64.h,ga.xorNext.h,ga.choosePivot.h,ga.medianAdj.h,ga.median.h,ga.order2.h,ga.reverseRange.h,ga.partIns.h,ga.partEq.h,ga.partition.h⟩
include ga in
theorem srtK{lv:Nat}(h:1≤lv):SrtG b (KF b lgs lv) 60000:=srtN KF.fn (fun x y=>kSrt h x y) ga.sorted1_.2 ga.sorted.h ga.Keys.h ga.SortedFunc.h ga.Collect.h ga.AppendSeq.h ga.Keys1.h ga.SortFunc.h (hsK ga)
theorem Fm.ok.few{F:Fm}(h:F.ok):F.few:=by
 have ht:∀ {t:Tm},t.ok→t.few:=fun {t} h=>by
  induction h with
  |mk hn hl h ih=>exact .mk hl ih
 induction h with
 |mk ho hn hal ha hl h ih=>exact .mk hal (fun x hx=>ht (ha x hx)) hl ih
include hb ga in
theorem kok(hlr:∀l∈lgs,∀B0,SpecEntry P (b.env []) B0 n_LRight [l.A true] (.b true))(hls:∀l∈lgs,∀σ,snapshot σ 1000 (l.A true)=some (l.A true)):∀lv,KOk P b (KF b lgs lv):=KL.kok (fun F hF i ho ih B0=>by
 simp only[fams,List.mem_cons,List.not_mem_nil,or_false] at hF
 rcases hF with rfl|rfl|rfl|rfl|rfl|rfl|rfl|rfl|rfl|rfl|rfl|rfl|rfl|rfl|rfl|rfl|rfl|rfl|rfl|rfl|rfl|rfl|rfl|rfl|rfl|rfl
 ·exact entryK hb (ih 0 (Nat.lt_succ_self _)) _ ga.small_.1 rfl rfl rfl rfl (eb _).1 (eb _).2 (small_go i _ rfl) B0
 ·exact entryK hb (ih 0 (Nat.lt_succ_self _)) _ ga.capital_.1 rfl rfl rfl rfl (eb _).1 (eb _).2 (capital_go i _ rfl) B0
 ·exact entryK hb (ih 0 (Nat.lt_succ_self _)) _ ga.digit_.1 rfl rfl rfl rfl (eb _).1 (eb _).2 (digit_go i _ rfl) B0
 ·exact entryK hb (ih 0 (Nat.lt_succ_self _)) _ ga.Variable1_.1 rfl rfl rfl rfl (eb _).1 (eb _).2 (Variable1_go i _ rfl) B0
 ·exact entryK hb (ih 0 (Nat.lt_succ_self _)) _ ga.Function1_.1 rfl rfl rfl rfl (eb _).1 (eb _).2 (Function1_go i _ rfl) B0
 ·exact entryK hb (ih 1 (Nat.lt_succ_self _)) _ ga.alnum_.1 rfl rfl rfl rfl (eb _).1 (eb _).2 (alnum_go KF.fn (kSmall (by decide)) (kCap (by decide)) (kDig (by decide)) ga.small_.2 ga.capital_.2 ga.digit_.2 i _ rfl) B0
 ·exact entryK hb (ih 0 (Nat.lt_succ_self _)) _ ga.reserved_.1 rfl rfl rfl rfl (eb _).1 (eb _).2 (reserved_go i _ rfl) B0
 ·exact entryK hb (ih 0 (Nat.lt_succ_self _)) _ ga.slHasPrefix_.1 rfl rfl rfl rfl (eb _).1 (eb _).2 (slHasPrefix_go i.1 i.2 _ rfl) B0
 ·exact entryK hb (ih 1 (Nat.lt_succ_self _)) _ ga.HasPrefix_.1 rfl rfl rfl rfl (eb _).1 (eb _).2 (HasPrefix_go KF.fn (kSlp (by decide)) ga.slHasPrefix_.2 i.1 i.2 _ rfl) B0
 ·exact entryK hb (ih 2 (Nat.lt_succ_self _)) _ ga.Predicate_.1 rfl rfl rfl rfl (eb _).1 (eb _).2 (Predicate_go KF.fn (kCap (by decide)) ga.capital_.2 (kAl (by decide)) ga.alnum_.2 (kRes (by decide)) ga.reserved_.2 ga.checker1.h ga.checker.h i ho _ rfl) B0
 ·exact entryK hb (ih 2 (Nat.lt_succ_self _)) _ ga.Variable_.1 rfl rfl rfl rfl (eb _).1 (eb _).2 (Variable_go KF.fn (kV1 (by decide)) ga.Variable1_.2 (kDig (by decide)) ga.digit_.2 (kRes (by decide)) ga.reserved_.2 ga.checker1.h ga.checker.h i ho _ rfl) B0
 ·exact entryK hb (ih 2 (Nat.lt_succ_self _)) _ ga.Function_.1 rfl rfl rfl rfl (eb _).1 (eb _).2 (Function_go KF.fn (kF1 (by decide)) ga.Function1_.2 (kAl (by decide)) ga.alnum_.2 (kRes (by decide)) ga.reserved_.2 ga.checker1.h ga.checker.h i ho _ rfl) B0
 ·exact entryK hb (ih 3 (Nat.lt_succ_self _)) _ ga.formMeta_.1 rfl rfl rfl rfl (eb _).1 (eb _).2 (formMeta_go KF.fn (kPred (by decide)) ga.Predicate_.2 (fun x y _ _=>kPre (by decide) x y) ga.HasPrefix_.2 i ho _ rfl) B0
 ·exact entryK hb (ih 3 (Nat.lt_succ_self _)) _ ga.termMeta_.1 rfl rfl rfl rfl (eb _).1 (eb _).2 (termMeta_go KF.fn (kFun (by decide)) ga.Function_.2 (fun x y _ _=>kPre (by decide) x y) ga.HasPrefix_.2 i ho _ rfl) B0
 ·exact entryK hb (ih 4 (Nat.lt_succ_self _)) _ ga.named_.1 rfl rfl rfl rfl (eb _).1 (eb _).2 (named_go KF.fn (kPred (by decide)) ga.Predicate_.2 (kVar (by decide)) ga.Variable_.2 (kFM (by decide)) ga.formMeta_.2 i.1 i.2 ho _ rfl) B0
 ·exact entryK hb (ih 4 (Nat.lt_succ_self _)) _ ga.instance_.1 rfl rfl rfl rfl (eb _).1 (eb _).2 (instance_go KF.fn (kVar (by decide)) ga.Variable_.2 (kTM (by decide)) ga.termMeta_.2 i ho.1 (fun t ht=>(ho.2 t ht).1) _ rfl) B0
 ·exact entryK hb (ih 5 (Nat.lt_succ_self _)) _ ga.Right_.1 rfl rfl rfl rfl (eb _).1 (eb _).2 (Right_go (nmK ga (by decide)) ga.rows i ho.2 ho.1 _ rfl) B0
 ·exact entryX hb (ih 0 (Nat.lt_succ_self _)) _ ga.Ops_.1 rfl rfl rfl rfl (ei _ _).1 (ei _ _).2 (Ops_go ga.visit.h ga.walk1.h ga.walk.h i ho _ rfl) B0
 ·exact entryK hb (ih 0 (Nat.lt_succ_self _)) _ ga.sorted1_.1 rfl rfl rfl rfl (ei _ _).1 (ei _ _).2 (sorted1_go ga.strCompare.h ga.CompareString.h ga.cmps ga.cmpInt.h ga.isNaNint.h i.1 i.2 _ rfl) B0
 ·exact entryK hb (ih 1 (Nat.lt_succ_self _)) _ ga.argsAllowed_.1 rfl rfl rfl rfl (eb _).1 (eb _).2 (argsAllowed_go KF.fn (srtK ga (by decide)) ga.Predicates.h ga.Functions.h ga.Functions1.h ga.visitTerms.h ga.visit.h ga.walk1.h ga.walk.h i.1 i.2 ho.1 ho.2.1 ho.2.2 _ rfl) B0
 ·obtain⟨a,l⟩:=i
  obtain⟨h1,h2,h3⟩:(∀t∈a.getD [],t.few)∧(a.getD []).length<2^62∧2*Tm.deps (a.getD [])≤b.fz+800:=ho
  refine entryK hb (ih (Tm.deps (a.getD [])) (by show _<Tm.deps (a.getD [])+1;omega)) _ ga.sizeT_.1 rfl rfl rfl rfl (ei _ _).1 (ei _ _).2 (sizeT_go KF.fn a h2 (fun t ht=>by have:=Tm.dep_mem ht;omega) (fun t ht l=>kSzT t.oargs l (h1 t ht).arg (h1 t ht).len ?_ ?_) ga.sizeT_.2 l _ rfl) B0
  ·show 2*Tm.deps t.args≤_
   have:=Tm.dep_mem ht;have:=Tm.dep_eq t;omega
  ·show Tm.deps t.args+1≤_
   have:=Tm.dep_mem ht;have:=Tm.dep_eq t;omega
 ·obtain⟨F,l⟩:=i
  obtain⟨h1,h3⟩:F.few∧2*F.dep≤b.fz+800:=ho
  have hd:=Fm.dep_eq F
  refine entryK hb (ih F.dep (by show _<F.dep+1;omega)) _ ga.Size_.1 rfl rfl rfl rfl (ei _ _).1 (ei _ _).2 (Size_go KF.fn F h1.slen h3 (fun l=>kSzT F.oargs l h1.arg h1.alen ?_ ?_) ga.sizeT_.2 (fun G hG l=>kSz G l (h1.sb G hG) ?_ ?_) ga.Size_.2 l _ rfl) B0
  ·show 2*Tm.deps F.args≤_;omega
  ·show Tm.deps F.args+1≤_;omega
  ·show 2*G.dep≤_;have:=Fm.dep_sub hG;omega
  ·show G.dep+1≤_;have:=Fm.dep_sub hG;omega
 ·obtain⟨h1,h3⟩:i.few∧2*Fm.dep i≤b.fz+800:=ho
  exact entryK hb (ih (Fm.dep i+1) (by show _<Fm.dep i+2;omega)) _ ga.Small_.1 rfl rfl rfl rfl (eb _).1 (eb _).2 (Small_go KF.fn i h3 (fun l=>kSz i l h1 h3 (Nat.le_refl _)) ga.Size_.2 _ rfl) B0
 ·exact hlr i ho B0
 ·obtain⟨l,F⟩:=i
  obtain⟨h0,h1,h2,h3⟩:l.ops<2^32∧F.ok∧F.few∧2*F.dep≤b.fz+800:=ho
  exact entryK hb (ih 6 (by show 6<7;decide)) _ ga.one_.1 rfl rfl rfl rfl (eb _).1 (eb _).2 (one_go KF.fn F h3 (kRi (Nat.le_refl _) F h1 h3) ga.Right_.2 (kOps (by decide) F h2) ga.Ops_.2 l h0 (fun hr=>kArg (by decide) l.kind F h2 (right_few hr)) ga.argsAllowed_.2 _ rfl) B0
 ·obtain⟨l,F⟩:=i
  obtain⟨hl,h0,h1,h2,h3⟩:l∈lgs∧l.ops<2^32∧F.ok∧F.few∧2*F.dep≤b.fz+800:=ho
  exact entryK hb (ih 7 (by show 7<8;decide)) _ ga.Allowed_.1 rfl rfl rfl rfl (eb _).1 (eb _).2 (Allowed_go KF.fn F h3 l (fun σ=>snap_up (by omega) (hls l hl σ)) (kLR l hl) ga.LRight (kOne (Nat.le_refl _) l F h0 h1 h2 h3) ga.one_.2 _ rfl) B0)
end
end Go.Lyc
end
