/-
  What functions of the program compute: walks, part 3. No conditions: definitions and laws.
-/
import Derived.Test.YtiakhfkclbnpoaaGreatDoorW2
set_option linter.all false
noncomputable section
namespace Go.Lyc
def KO:=@List.foldl_append
def Ry:=@List.map_replicate
def Rz:=@List.getElem?_set
def Gr:=@List.getElem?_replicate
def a3C:=@List.getElem?_take
def SI:=@List.mem_iff_getElem?
def a3D:=@List.filter_congr
def a3E:=@List.mem_map_of_mem
def Gs:=@List.Pairwise.filter
def a3F:=@List.pairwise_lt_range
def Gt:=@List.Sublist.refl
set_option maxHeartbeats 0
section
open Go Go.RowKit Go.Lyc.T
section
variable [Tok]
def wo(k j:Nat)(o:Bool):List AV:=[.y (10*k+2+2*j),.y (10*k+3+2*j),.af,.gu o (10*k+j)]
def lo(k s:Nat)(o:Bool):List AV:=[.y (10*k),.y (10*k+1),.af,slA o (some 4) ((List.range s).map λj=>.R (wo k j o))]
end
def a3Y(x:PF)(r:Nat):AV:=cond (Nat.beq r 0) (fa x.op) (.s x.bO)
def SM(f g:PF)(i:Nat):PF:=cond (Nat.beq (i/10) 0) f g
abbrev gz(f g:PF):Tok:=⟨λi=>cond (Nat.blt (i%10) 2) (a3Y (SM f g i) (i%10)) (a3Y ((SM f g i).subs.getD ((i%10-2)/2) .cO) ((i%10-2)%2)),λo i=>gp o ((SM f g i).subs.getD (i%10) .cO).aG.e4⟩
theorem oO(f g:PF): @TokOk (gz f g):=by
 letI:Tok:=gz f g
 refine⟨λ{w O B eL i old u} h=>?_,λ{w O B i u} h=>?_⟩
 ·exact Gq (λaD _ _ _=>⟨λh=>h,λh=>by cases h⟩) _ _ (lV _) u h
 ·exact Gq (λaD _ _ h=>⟨λh2=>by have:=h I;omega,h⟩) _ _ (lV _) u h
def PF.SN{a x:PF}(h:x∈a.subs):x.dep<a.dep:=@PF.lk (gz .cO .cO) (oO _ _) _ _ h
def PF.Gy(a:PF):a.subs.length<=2:=@PF.uF (gz .cO .cO) (oO _ _) a
def PF.Aj(o:Bool)(a:PF):a.aG.cells o=[fa a.op,.s a.bO,.af,slA o (some 4) (a.subs.map λx=>x.aG.A o)]:=by
 rw[Fm.j_];cases a<;>rfl
def a3Z(o:Bool)(a:PF):gp o a.aG.e4=slA o (some 4) (a.subs.map λx=>x.aG.A o):=by cases a<;>rfl
def b4.cells{T:Tok}{l m:List AV}(h:b4 T (.R l) (.R m)):l.length=m.length/\∀i (h:i<l.length) (h':i<m.length),b4 T l[i] m[i]:=by
 cases h with
 |R _ _ hl h=>exact⟨hl,h⟩
def b4.al{T:Tok}{o:Bool}{aa:Option Nat}{c d:List (List AV)}(hl:c.length=d.length)(h:∀i (h:i<c.length) (h':i<d.length),b4 T (.R c[i]) (.R d[i])):b4 T (slA o aa (c.map AV.R)) (slA o aa (d.map AV.R)):=by
 cases c with
 |nil=>
  obtain rfl:d=[]:=Rv.1 hl.symm;exact .nil
 |cons x c=>
  cases d with
  |nil=>simp at hl
  |cons y d=>exact .a_ o aa (x::c) (y::d) hl (λi h1 h2=>(h i h1 h2).cells.1) λi h1 h2 j ax fA=>(h i h1 h2).cells.2 j ax fA
def b4.four{T:Tok}{aX bc cq ew eF dE dW fK:AV}(h1:b4 T aX eF)(h2:b4 T bc dE)(h3:b4 T cq dW)(aO:b4 T ew fK):b4 T (.R [aX,bc,cq,ew]) (.R [eF,dE,dW,fK]):=.R _ _ I λi h h'=>by
 match i,h with
 |0,_=>exact h1
 |1,_=>exact h2
 |2,_=>exact h3
 |3,_=>exact aO
def b4.gA{T:Tok}(o:Bool):∀(d:Nat) (a:PF),a.dep<=d->b4 T (a.aG.A o) (a.aG.A o)
 |0,a,hd=>by cases a<;>simp[PF.dep] at hd
 |d+1,a,hd=>by
  unfold Fm.A;rw[PF.Aj];refine b4.four (.i _ _) (.s _) .nil ?_;have e:(a.subs.map λx=>x.aG.A o)=(a.subs.map λx=>x.aG.cells o).map AV.R:=by rw[Ax];rfl
  rw[e];refine b4.al I λi h h'=>?_;rw[uV] at h;rw[mQ];exact b4.gA o d a.subs[i] (by have:=PF.SN (gC h);omega)
section
variable {f g:PF}
def qD(f g:PF)(k:Nat):PF:=cond (Nat.beq k 0) f g
def SO(o:Bool){k j:Nat}(ay:k<2)(ax:j<2)(hx:j<(qD f g k).subs.length):b4 (gz f g) (.R (wo k j o)) (((qD f g k).subs[j]).aG.A o):=by
 have hg:(qD f g k).subs.getD j .cO=(qD f g k).subs[j]:=by rw[yT,fw hx];rfl
 rw[<-hg];unfold Fm.A;rw[PF.Aj,← a3Z];have key:∀x:PF,(gz f g).pO o (10*k+j)=gp o x.aG.e4->b4 (gz f g) (.gu o (10*k+j)) (gp o x.aG.e4):=λx e=>by
  refine .gu o _ _ ?_ ?_
  ·rw[e];cases x.aG.e4 with
   |none=>exact .inl I
   |some l=>exact .inr ⟨_,_,rfl⟩
  ·rw[e];have:=b4.gA (T:=gz f g) o _ x (bs _);unfold Fm.A at this;rw[PF.Aj,← a3Z] at this;exact this.cells.2 3 aF aF
 have bb:k=0\/k=1:=by omega
 have ss:j=0\/j=1:=by omega
 rcases bb with rfl|rfl<;>rcases ss with rfl|rfl
 all_goals exact b4.four (.y _ (.inl ⟨_,_,rfl⟩)) (.y _ (.inr ⟨_,rfl⟩)) .nil (key _ I)
def Ak(o:Bool){k:Nat}(ay:k<2):b4 (gz f g) (.R (lo k (qD f g k).subs.length o)) ((qD f g k).aG.A o):=by
 have hl:=(qD f g k).Gy;have aO:b4 (gz f g) (slA o (some 4) ((List.range (qD f g k).subs.length).map λj=>.R (wo k j o))) (slA o (some 4) ((qD f g k).subs.map λx=>x.aG.A o)):=by
  have aL:((List.range (qD f g k).subs.length).map λj=>AV.R (wo k j o))=((List.range (qD f g k).subs.length).map λj=>wo k j o).map AV.R:=by rw[Ax];rfl
  have a5:((qD f g k).subs.map λx=>x.aG.A o)=((qD f g k).subs.map λx=>x.aG.cells o).map AV.R:=by rw[Ax];rfl
  rw[aL,a5];refine b4.al aF λi h h'=>?_;rw[uV,b7] at h;rw[mQ,mQ,yn];exact SO o ay U h
 unfold Fm.A;rw[PF.Aj];have bb:k=0\/k=1:=by omega
 rcases bb with rfl|rfl
 all_goals exact b4.four (.y _ (.inl ⟨_,_,rfl⟩)) (.y _ (.inr ⟨_,rfl⟩)) .nil aO
end
inductive uP where
 |a
 |b
 |bin (k:Fin 3)
 |neg
 |cO
def uP.gA(f g:PF):uP->PF
 | .a=>f
 | .b=>g
 | .bin k=>.bin k f g
 | .neg=>.neg f
 | .cO=>.cO
def uP.gX(s1 s2:Nat)(o:Bool):uP->List AV
 | .a=>lo 0 s1 o
 | .b=>lo 1 s2 o
 | .bin k=>[.i .u8 (Int.ofNat (4+k.val)),.s [],.af,.a_ o (some 4) [.R (lo 0 s1 o),.R (lo 1 s2 o)]]
 | .neg=>[.i .u8 3,.s [],.af,.a_ o (some 4) [.R (lo 0 s1 o)]]
 | .cO=>[.i .u8 2,.s [],.af,.af]
def uP.c4S(f g:PF)(o:Bool)(t:uP):b4 (gz f g) (.R (t.gX f.subs.length g.subs.length o)) ((t.gA f g).aG.A o):=by
 have h0:=Ak (f:=f) (g:=g) o (k:=0) bw;have h1:=Ak (f:=f) (g:=g) o (k:=1) bw;cases t with
 |a=>exact h0
 |b=>exact h1
 |bin k=>
  show b4 _ _ (AV.R ((PF.bin k f g).aG.cells o));rw[PF.Aj];refine b4.four (.i _ _) (.s _) .nil ?_;exact b4.al (o:=o) (aa:=some 4) (c:=[lo 0 f.subs.length o,lo 1 g.subs.length o]) (d:=[f.aG.cells o,g.aG.cells o]) I λi h h'=>by
   match i,h with
   |0,_=>exact h0
   |1,_=>exact h1
 |neg=>
  show b4 _ _ (AV.R ((PF.neg f).aG.cells o));rw[PF.Aj];refine b4.four (.i _ _) (.s _) .nil ?_;exact b4.al (o:=o) (aa:=some 4) (c:=[lo 0 f.subs.length o]) (d:=[f.aG.cells o]) I λi h h'=>by
   match i,h with
   |0,_=>exact h0
 |cO=>exact b4.four (.i _ _) (.s _) .nil .nil
abbrev T.LD:Nat:=79
def rowM(r:Nat):List (Fm×uP):=match r with
 |0=>[(mA,.a),(eC,.b),(ir 0 mA eC,.bin 0)]
 |1=>[(ir 0 mA eC,.bin 0),(mA,.a)]
 |2=>[(ir 0 mA eC,.bin 0),(eC,.b)]
 |3=>[(mA,.a),(ir 1 mA eC,.bin 1)]
 |4=>[(eC,.b),(mA,.a),(ir 2 mA eC,.bin 2)]
 |5=>[(ir 2 mA eC,.bin 2),(mA,.a),(eC,.b)]
 |6=>[(nn,.cO),(mA,.a),(rJ mA,.neg)]
 |7=>[(mA,.a),(rJ mA,.neg),(nn,.cO)]
 |_=>[(nn,.cO),(mA,.a)]
def np(r:Nat):List (Fm×uP):=if r<6 then[(mA,.a),(eC,.b)] else[(mA,.a)]
abbrev a4a:=Nat×List AV×AV
def SP(r s1 s2:Nat):List a4a:=
 (rowM r).map (λp=>(kb,[.R (p.2.gX s1 s2 true)],.b true))++((rowM r).map (λp=>(LD,[p.1.A true],.b true))++((np r).map (λp=>(xq,[.R (bN p.1++(p.2.gX s1 s2 true++[.af])),.R (p.2.gX s1 s2 true),.af],.a0 [.R (p.2.gX s1 s2 false),.b true]))++
 ((np r).map (λp=>(xC,[.R (p.2.gX s1 s2 true),.R (p.2.gX s1 s2 true),.af],.b true))++(np r).map (λp=>(ma,[.R (p.2.gX s1 s2 true)],.R (p.2.gX s1 s2 false))))))
def a4b(r s1 s2:Nat):List AV:=[.a_ true (some 8) ((rowM r).map λp=>.R (bN p.1++p.2.gX s1 s2 true)),.R [.af,.af]]
def a4c(r s1 s2:Nat):AV:=.a0 [.R [.a_ false (some 5) ((np r).map λp=>.R (.s p.1.name::p.2.gX s1 s2 false)),.af],ah 0,ah 0]
def a4d(b:bT)(r:Nat):Bool:=cD (λs1=>cD (λs2=>runsTo b (SP r s1 s2) 100000 (qi,a4b r s1 s2,a4c r s1 s2)) [0,1,2]) [0,1,2]
def a4e(s:Nat):List a4a:=(List.range s).map λj=>(ma,[.R (wo 0 j true)],.R (wo 0 j false))
def a4f(b:bT):Bool:=cD (λs=>runsTo b (a4e s) 100000 (ma,[.R (lo 0 s true)],.R (lo 0 s false))) [0,1,2]
structure GivM(P:Program)(b:bT)(cn cb:AV):Prop where
 hb:∀T:Tok,@TokOk T→ @jR T P b
 fb:mg b
 fr:∀T:Tok,@TokOk T→ @x9 T P b cn cb
 leaf:Gu (b.env [])
 Ke:∀T:Tok,@TokOk T->∀r<9,∀p∈rowM r,@cV T P b LD [p.1.A true] (.b true)
 FN:∀r<9,a4d b r=true
 HZ:a4f b=true
section
variable {P:Program}{b:bT}{cn cb:AV}(G:GivM P b cn cb)
def three{s:Nat}(h:s<3):s∈[0,1,2]:=by
 have:s=0\/s=1\/s=2:=by omega
 simpa using this
def cV.gX{T gP:Tok}(hl:Gu (b.env [])){g:Nat}{aQ mP:List AV}{r b5:AV}(h1:aQ.length=mP.length)(h:∀i (h:i<aQ.length) (h':i<mP.length),b4 T aQ[i] mP[i])(aq:b4 T r b5): @cV T P b g aQ r↔ @cV gP P b g mP b5:=⟨λh' bz=>(b4.entry hl h1 h aq).1 (h' bz),λh' bz=>(b4.entry hl h1 h aq).2 (h' bz)⟩
def b4.one{T:Tok}{x y:AV}(h:b4 T x y):∀i (h:i<[x].length) (h':i<[y].length),b4 T [x][i] [y][i]:=λi h1 h2=>by
 match i,h1 with
 |0,_=>exact h
include G in
theorem LF:∀(d:Nat) (a:PF),a.dep<=d->∀gP:Tok,@cV gP P b ma [a.aG.A true] (a.aG.A false)
 |0,a,hd=>by cases a<;>simp[PF.dep] at hd
 |d+1,a,hd=>λgP=>by
  have hc:=a.Gy;have ht:=Ak (f:=a) (g:=a) true (k:=0) bw;have hf:=Ak (f:=a) (g:=a) false (k:=0) bw;refine(cV.gX (T:=gz a a) G.leaf (aQ:=[.R (lo 0 a.subs.length true)]) (r:=.R (lo 0 a.subs.length false)) (mP:=[a.aG.A true]) (b5:=a.aG.A false) I (b4.one ht) hf).1 ?_
  letI:Tok:=gz a a
  haveI:TokOk:=oO a a
  have j8:ug P b (a4e a.subs.length):=λe he bz=>by
   obtain⟨j,ax,rfl⟩:=ti.1 he;rw[P8] at ax;have h1:=SO (f:=a) (g:=a) true (k:=0) (j:=j) bw U ax;have h2:=SO (f:=a) (g:=a) false (k:=0) (j:=j) bw U ax;exact(cV.gX (T:=gz a a) (gP:=gz a a) G.leaf (aQ:=[.R (wo 0 j true)]) (r:=.R (wo 0 j false)) (mP:=[(a.subs[j]).aG.A true]) (b5:=(a.subs[j]).aG.A false) I (b4.one h1) h2).2 (LF d a.subs[j] (by have:=PF.SN (gC ax);omega) (gz a a)) bz
  have cf:=lJ G.HZ a.subs.length (three U);exact λbz=>j8.entry (G.hb _ (oO a a)) cf bz
end
def b4.mk{T:Tok}{l m:List AV}(hl:l.length=m.length)(h:∀i (h:i<l.length) (h':i<m.length),b4 T l[i] m[i]):b4 T (.R l) (.R m):=.R _ _ hl h
def b4.app{T:Tok}{l m cu aT:List AV}(h:b4 T (.R l) (.R m))(h':b4 T (.R cu) (.R aT)):b4 T (.R (l++cu)) (.R (m++aT)):=by
 obtain⟨aX,bc⟩:=h.cells;obtain⟨hU,m4⟩:=h'.cells;refine .mk (by rw[dv,dv];omega) λi h1 h2=>?_;by_cases hi:i<l.length
 ·rw[cM hi,cM U];exact bc i hi U
 ·rw[dv] at h1 h2;rw[iw U,iw U];have:=m4 (i-l.length) U U;simp only[<-aX];exact this
def b4.cons{T:Tok}{x y:AV}{l m:List AV}(hx:b4 T x y)(h:b4 T (.R l) (.R m)):b4 T (.R (x::l)) (.R (y::m)):=b4.app (l:=[x]) (m:=[y]) (.mk I (b4.one hx)) h
def b4.two{T:Tok}{x y de ey:AV}(hx:b4 T x y)(eo:b4 T de ey):∀i (h:i<[x,de].length) (h':i<[y,ey].length),b4 T [x,de][i] [y,ey][i]:=λi h1 h2=>by
 match i,h1 with
 |0,_=>exact hx
 |1,_=>exact eo
def b4.three{T:Tok}{x y de ey SQ SR:AV}(hx:b4 T x y)(eo:b4 T de ey)(c4T:b4 T SQ SR):∀i (h:i<[x,de,SQ].length) (h':i<[y,ey,SR].length),b4 T [x,de,SQ][i] [y,ey,SR][i]:=λi h1 h2=>by
 match i,h1 with
 |0,_=>exact hx
 |1,_=>exact eo
 |2,_=>exact c4T
def SS(F:Fm):F.A true= .R (bN F):=by unfold Fm.A;rw[Fm.j_]
def b4.LG{T:Tok}(op:Nat)(n:List Nat):b4 T (.R (bN (.mk op n none none))) (.R (bN (.mk op n none none))):=b4.four (.i _ _) (.s _) .nil .nil
def b4.a4g{T:Tok}(op:Nat)(n:List Nat)(l:List Fm)(a7:l≠[])(h:∀x∈l,b4 T (.R (bN x)) (.R (bN x))):b4 T (.R (bN (.mk op n none (some l)))) (.R (bN (.mk op n none (some l)))):=by
 refine b4.four (.i _ _) (.s _) .nil ?_;show b4 T (.a_ true (some 4) (l.map (Fm.A true))) (.a_ true (some 4) (l.map (Fm.A true)));have e:l.map (Fm.A true)=(l.map bN).map AV.R:=by rw[Ax];exact mj λx _=>SS x
 rw[e];have:=b4.al (T:=T) (o:=true) (aa:=some 4) (c:=l.map bN) (d:=l.map bN) I λi h1 h2=>by
  rw[uV] at h1;rw[mQ];exact h _ (gC h1)
 cases l with
 |nil=>exact absurd I a7
 |cons x l=>exact this
def b4.Qb{T:Tok}{r:Nat}(aq:r<9):∀p∈rowM r,b4 T (.R (bN p.1)) (.R (bN p.1)):=by
 have hA:b4 T (.R (bN mA)) (.R (bN mA)):=b4.LG _ _;have ca:b4 T (.R (bN eC)) (.R (bN eC)):=b4.LG _ _;have b2:b4 T (.R (bN nn)) (.R (bN nn)):=b4.LG _ _;have CJ:∀k,b4 T (.R (bN (ir k mA eC))) (.R (bN (ir k mA eC))):=λk=>b4.a4g _ _ [mA,eC] aF λx hx=>by
  have hx:x=mA\/x=eC:=by simpa using hx
  rcases hx with rfl|rfl
  ·exact hA
  ·exact ca
 have ek:b4 T (.R (bN (rJ mA))) (.R (bN (rJ mA))):=b4.a4g _ _ [mA] aF λx hx=>by rw[show x=mA by simpa using hx];exact hA
 have:r=0\/r=1\/r=2\/r=3\/r=4\/r=5\/r=6\/r=7\/r=8:=by omega
 rcases this with rfl|rfl|rfl|rfl|rfl|rfl|rfl|rfl|rfl<;>intro p aw<;>simp only[rowM,dB,NQ,or_false] at aw
 ·rcases aw with rfl|rfl|rfl<;>first|exact hA|exact ca|exact CJ _
 ·rcases aw with rfl|rfl<;>first|exact hA|exact ca|exact CJ _
 ·rcases aw with rfl|rfl<;>first|exact hA|exact ca|exact CJ _
 ·rcases aw with rfl|rfl<;>first|exact hA|exact ca|exact CJ _
 ·rcases aw with rfl|rfl|rfl<;>first|exact hA|exact ca|exact CJ _
 ·rcases aw with rfl|rfl|rfl<;>first|exact hA|exact ca|exact CJ _
 ·rcases aw with rfl|rfl|rfl<;>first|exact hA|exact b2|exact ek
 ·rcases aw with rfl|rfl|rfl<;>first|exact hA|exact b2|exact ek
 ·rcases aw with rfl|rfl<;>first|exact hA|exact b2|exact ek
def SU{r:Nat}:∀p∈np r,(p=(mA,.a)\/p=(eC,.b)):=λp aw=>by
 unfold np at aw;split at aw
 ·simpa using aw
 ·exact .inl (by simpa using aw)
def SV:∀(d:Nat) (a:PF) {n:Nat},a.dep<=d->2*d+2<=n->∀x∈a.aG.cells false,AV.eqb n x x=true
 |0,a,_,hd,_=>by cases a<;>simp[PF.dep] at hd
 |d+1,a,n,hd,hn=>λx hx=>by
  obtain⟨n,rfl⟩:∃m,n=m+2:=⟨n-2,U⟩
  rw[PF.Aj] at hx;simp only[dB,NQ,or_false] at hx
  letI:Tok:=gz .cO .cO
  haveI:TokOk:=oO .cO .cO
  rcases hx with rfl|rfl|rfl|rfl
  ·exact ev I
  ·exact ev I
  ·exact ev I
  ·cases ao:a.subs with
   |nil=>rfl
   |cons y l=>
    refine xW λz a6=>?_;have a6:z∈(y::l).map λx=>x.aG.A false:=a6;obtain⟨c,ab,rfl⟩:=ti.1 a6;exact sX λv au=>SV d c (by have:=PF.SN (a:=a) (x:=c) (by rw[ao];exact ab);omega) U v au
section
variable {P:Program}{b:bT}{cn cb:AV}(G:GivM P b cn cb)
include G in
theorem c4U{r:Nat}(aq:r<9){f g:PF}(hf:f.low)(hg:g.low)(s5:∀p∈rowM r,(p.2.gA f g).low)(gP:Tok):∃res,@cV gP P b qi [.a_ true (some 8) ((rowM r).map λp=>nj (p.1,(p.2.gA f g).aG)),.R [.af,.af]] res/\SG res:=by
 have jM:=f.Gy;have pb:=g.Gy;have iq:∀o (t:uP),b4 (gz f g) (.R (t.gX f.subs.length g.subs.length o)) ((t.gA f g).aG.A o):=λo t=>uP.c4S f g o t;refine⟨.a0 [.R [.a_ false (some 5) ((np r).map λp=>.R (.s p.1.name::(p.2.gA f g).aG.cells false)),.af],ah 0,ah 0],(cV.gX (T:=gz f g) G.leaf (aQ:=a4b r f.subs.length g.subs.length) (r:=a4c r f.subs.length g.subs.length) (mP:=[.a_ true (some 8) ((rowM r).map λp=>nj (p.1,(p.2.gA f g).aG)),.R [.af,.af]]) I ?_ ?_).1 ?_,_,rfl,λJ=>rfl,λn=>?_,λn=>?_⟩
 ·refine b4.two ?_ (.mk I (b4.two .nil .nil));have aL:((rowM r).map λp=>AV.R (bN p.1++p.2.gX f.subs.length g.subs.length true))=((rowM r).map λp=>bN p.1++p.2.gX f.subs.length g.subs.length true).map AV.R:=by rw[Ax];rfl
  have a5:((rowM r).map λp=>nj (p.1,(p.2.gA f g).aG))=((rowM r).map λp=>bN p.1++bN (p.2.gA f g).aG).map AV.R:=by rw[Ax];rfl
  rw[aL,a5];have hall:∀i (h:i<(rowM r).length),b4 (gz f g) (.R (bN (rowM r)[i].1++(rowM r)[i].2.gX f.subs.length g.subs.length true)) (.R (bN (rowM r)[i].1++bN ((rowM r)[i].2.gA f g).aG)):=λi h=>(b4.Qb aq _ (gC h)).app (by have:=iq true (rowM r)[i].2;rwa[SS] at this);refine .a_ _ _ _ _ (by rw[uV,uV]) (λi h1 h2=>?_) λi h1 h2 j ax fA=>?_
  ·rw[uV] at h1;rw[mQ,mQ];exact(hall i h1).cells.1
  ·rw[uV] at h1;have:=(hall i h1).cells.2 j (by rwa[mQ] at ax) (by rwa[mQ] at fA);simpa only[mQ] using this
 ·refine .a0 _ _ I (b4.three (.mk I (b4.two ?_ .nil)) (.i _ _) (.i _ _));have aL:((np r).map λp=>AV.R (.s p.1.name::p.2.gX f.subs.length g.subs.length false))=((np r).map λp=>.s p.1.name::p.2.gX f.subs.length g.subs.length false).map AV.R:=by rw[Ax];rfl
  have a5:((np r).map λp=>AV.R (.s p.1.name::(p.2.gA f g).aG.cells false))=((np r).map λp=>.s p.1.name::(p.2.gA f g).aG.cells false).map AV.R:=by rw[Ax];rfl
  rw[aL,a5];have hall:∀i (h:i<(np r).length),b4 (gz f g) (.R (.s (np r)[i].1.name::(np r)[i].2.gX f.subs.length g.subs.length false)) (.R (.s (np r)[i].1.name::((np r)[i].2.gA f g).aG.cells false)):=λi h=>b4.cons (.s _) (iq false _);refine .a_ _ _ _ _ (by rw[uV,uV]) (λi h1 h2=>?_) λi h1 h2 j ax fA=>?_
  ·rw[uV] at h1;rw[mQ,mQ];exact(hall i h1).cells.1
  ·rw[uV] at h1;have:=(hall i h1).cells.2 j (by rwa[mQ] at ax) (by rwa[mQ] at fA);simpa only[mQ] using this
 ·letI:Tok:=gz f g
  haveI:TokOk:=oO f g
  have cf:=lJ (lJ (G.FN r aq) f.subs.length (three U)) g.subs.length (three U);have j8:ug P b (SP r f.subs.length g.subs.length):=λe he bz=>by
   unfold SP at he;have kJ:∀p∈np r,(p.2.gA f g).low/\(p.1=mA\/p.1=eC):=λp aw=>by
    rcases SU p aw with rfl|rfl
    ·exact⟨hf,.inl I⟩
    ·exact⟨hg,.inr I⟩
   rcases tl.1 he with he|he
   ·obtain⟨p,aw,rfl⟩:=ti.1 he;exact(cV.gX (T:=gz f g) (gP:=gz f g) G.leaf (aQ:=[.R (p.2.gX f.subs.length g.subs.length true)]) (mP:=[(p.2.gA f g).aG.A true]) I (b4.one (iq true _)) (.b true)).2 ((G.fr _ (oO f g)).right _ (s5 p aw)) bz
   rcases tl.1 he with he|he
   ·obtain⟨p,aw,rfl⟩:=ti.1 he;exact G.Ke _ (oO f g) r aq p aw bz
   rcases tl.1 he with he|he
   ·obtain⟨p,aw,rfl⟩:=ti.1 he;obtain⟨h1,h2⟩:=kJ p aw;have hd:=h1.1;have kq:∀τ,bM τ (b.bp+1000) (uH p.1 (p.2.gA f g).aG)=some (uH p.1 (p.2.gA f g).aG):=λτ=>by
     refine ox (k:=b.bp+999) (xQ ?_ (xQ (Gi (by rw[PF.js];omega)) I));rcases h2 with e|e<;>rw[e]<;>rfl
    have cQ:b4 (gz f g) (.R (bN p.1)) (.R (bN p.1)):=by rcases h2 with e|e<;>rw[e]<;>exact b4.LG _ _
    have c0:=a3X (G.hb _ (oO f g)) G.fb p.1 (p.2.gA f g).aG kq _ (p.2.gA f g) (bs _) U;have ht:=iq true p.2;refine(cV.gX (T:=gz f g) (gP:=gz f g) G.leaf (aQ:=[.R (bN p.1++(p.2.gX f.subs.length g.subs.length true++[.af])),.R (p.2.gX f.subs.length g.subs.length true),.af]) (r:=.a0 [.R (p.2.gX f.subs.length g.subs.length false),.b true]) (mP:=[uH p.1 (p.2.gA f g).aG,(p.2.gA f g).aG.A true,.af]) (b5:=.a0 [(p.2.gA f g).aG.A false,.b true]) I (b4.three (cQ.app (b4.app (by rwa[SS] at ht) (.mk I (b4.one .nil)))) ht .nil) (.a0 _ _ I (b4.two (iq false _) (.b _)))).2 c0 bz
   rcases tl.1 he with he|he
   ·obtain⟨p,aw,rfl⟩:=ti.1 he;obtain⟨h1,h2⟩:=kJ p aw;have hd:=h1.1;have c0:=a3V (G.hb _ (oO f g)) G.fb _ (p.2.gA f g) (p.2.gA f g) (bs _) U U;rw[decide_eq_true I] at c0;exact(cV.gX (T:=gz f g) (gP:=gz f g) G.leaf (aQ:=[.R (p.2.gX f.subs.length g.subs.length true),.R (p.2.gX f.subs.length g.subs.length true),.af]) (mP:=[(p.2.gA f g).aG.A true,(p.2.gA f g).aG.A true,.af]) I (b4.three (iq true _) (iq true _) .nil) (.b true)).2 c0 bz
   ·obtain⟨p,aw,rfl⟩:=ti.1 he;exact(cV.gX (T:=gz f g) (gP:=gz f g) G.leaf (aQ:=[.R (p.2.gX f.subs.length g.subs.length true)]) (r:=.R (p.2.gX f.subs.length g.subs.length false)) (mP:=[(p.2.gA f g).aG.A true]) (b5:=(p.2.gA f g).aG.A false) I (b4.one (iq true _)) (iq false _)).2 (LF G _ _ (bs _) (gz f g)) bz
  exact λbz=>j8.entry (G.hb _ (oO f g)) cf bz
 ·letI:Tok:=gz .cO .cO
  haveI:TokOk:=oO .cO .cO
  refine xW (n:=n+499) λz a6=>?_;obtain⟨p,aw,rfl⟩:=ti.1 a6;have hd:(p.2.gA f g).dep<=38:=by
   rcases SU p aw with rfl|rfl
   ·exact hf.1
   ·exact hg.1
  refine sX (n:=n+498) λv au=>?_;rcases dB.1 au with rfl|au
  ·exact ev I
  ·exact SV _ _ (bs _) U v au
 ·letI:Tok:=gz .cO .cO
  haveI:TokOk:=oO .cO .cO
  rw[show n+500=n+499+1 from rfl,mG];refine ig λz a6=>?_;obtain⟨p,aw,rfl⟩:=ti.1 a6;have hd:(p.2.gA f g).dep<=38:=by
   rcases SU p aw with rfl|rfl
   ·exact hf.1
   ·exact hg.1
  refine ig λv au=>?_;rcases dB.1 au with rfl|au
  ·rfl
  ·have h:=Lz _ (p.2.gA f g) (n:=n+500) (bs _) U;rw[<-sW,mG] at h;exact lJ h v au
end
end
section
variable [Tok][TokOk]
open Go.RowKit Go.Lyc.T
section
variable {P:Program}{b:bT}{cn cb:AV}(G:GivM P b cn cb)
abbrev a4h(gs:List ef):Prop:=∀x∈gs,x.hyps.length<=1/\x.fH.dep<=38/\(∀h∈x.hyps,∃a:PF,h=a.aG/\a.low)/\(∃a:PF,x.fH=a.aG/\a.low)/\(∀h∈x.rest,∃a:PF,h=a.aG/\a.low)
structure Gz(r:dj)(F:PF)(gs:List ef)(k:Nat)(f g:PF):Prop where
 HT:k<9
 xK:(nQ r F.aG gs).map nj=(rowM k).map λp=>nj (p.1,(p.2.gA f g).aG)
 ne:(nQ r F.aG gs)≠[]
 low:f.low/\g.low/\∀p∈rowM k,(p.2.gA f g).low
 c4V:r∈jr
 aC:∀p∈r.cU,p.closed=false
 c:FG r gs
 hy:a4h gs
def CK:PF.low .cO:=⟨bw,bw⟩
def s4.one{gs:List ef}{p:PF×List PF}(h:s4 gs [p]):∃g,gs=[g]/\rK g p:=by
 cases h with
 |cons h1 h2=>cases h2;exact⟨_,rfl,h1⟩
def s4.two{gs:List ef}{p q:PF×List PF}(h:s4 gs [p,q]):∃g tQ,gs=[g,tQ]/\rK g p/\rK tQ q:=by
 cases h with
 |cons h1 h2=>cases h2 with
  |cons h2 h3=>cases h3;exact⟨_,_,rfl,h1,h2⟩
def rK.hy{g:ef}{p:PF×List PF}(h:rK g p)(hl:p.2.length<=1):g.hyps.length<=1/\g.fH.dep<=38/\(∀h∈g.hyps,∃a:PF,h=a.aG/\a.low)/\(∃a:PF,g.fH=a.aG/\a.low)/\(∀h∈g.rest,∃a:PF,h=a.aG/\a.low):=
 ⟨by rw[h.hyps,uV];exact hl,by rw[h.fH,PF.js];exact h.low.1.1,λx hx=>by rw[h.hyps] at hx;obtain⟨a,ha,rfl⟩:=ti.1 hx;exact⟨a,rfl,h.low.2 a ha⟩,⟨p.1,h.fH,h.low.1⟩,h.rest⟩
def a4i{r:dj}{F:Fm}{gs:List ef}:nQ r F gs≠[]:=by simp[nQ]
def Gz.one{r:dj}{F:PF}{x:ef}{p:PF×List PF}{k:Nat}{f g:PF}{pm:fh}(hx:rK x p)(aw:p.2.length<=1)(aq:r.cU=[pm])(kJ:pm.hyps.length=p.2.length)(gj:pm.closed=false)(Al:r∈jr)(ay:k<9)(FK:(nQ r F.aG [x]).map nj=(rowM k).map λp=>nj (p.1,(p.2.gA f g).aG))(s5:f.low/\g.low/\∀p∈rowM k,(p.2.gA f g).low):Gz r F [x] k f g:=by
 have hh:=hx.hy aw;refine⟨ay,FK,a4i,s5,Al,λq aV=>?_,⟨by rw[aq];rfl,qJ (show _<=2 from by simp) bw,λi h h'=>?_,λz a6=>?_⟩,λz a6=>?_⟩
 ·rw[aq] at aV;rw[uT.1 aV];exact gj
 ·simp only[aq] at h' ⊢
  match i,h with
  |0,_=>show x.hyps.length=pm.hyps.length;rw[kJ,hx.hyps,uV]
 ·rw[uT.1 a6];exact⟨U,by have:=hx.len;omega⟩
 ·rw[uT.1 a6];exact hh
def Gz.two{r:dj}{F:PF}{x y:ef}{p q:PF×List PF}{k:Nat}{f g:PF}{pm GA:fh}(hx:rK x p)(hy:rK y q)(aw:p.2=[])(aV:q.2=[])(aq:r.cU=[pm,GA])(kJ:pm.hyps=[]/\GA.hyps=[])(gj:pm.closed=false/\GA.closed=false)(Al:r∈jr)(ay:k<9)(FK:(nQ r F.aG [x,y]).map nj=(rowM k).map λp=>nj (p.1,(p.2.gA f g).aG))(s5:f.low/\g.low/\∀p∈rowM k,(p.2.gA f g).low):Gz r F [x,y] k f g:=by
 have hh:=hx.hy (by rw[aw];decide);have DD:=hy.hy (by rw[aV];decide);have aL:x.hyps=[]:=by rw[hx.hyps,aw];rfl
 have a5:y.hyps=[]:=by rw[hy.hyps,aV];rfl
 refine⟨ay,FK,a4i,s5,Al,λq aV=>?_,⟨by rw[aq];rfl,qJ (show _<=2 from by simp) bw,λi h h'=>?_,λz a6=>?_⟩,λz a6=>?_⟩
 ·rw[aq] at aV;have aV:q=pm\/q=GA:=by simpa using aV
  rcases aV with rfl|rfl
  ·exact gj.1
  ·exact gj.2
 ·simp only[aq] at h' ⊢
  match i,h with
  |0,_=>show x.hyps.length=pm.hyps.length;rw[kJ.1,aL]
  |1,_=>show y.hyps.length=GA.hyps.length;rw[kJ.2,a5]
 ·have a6:z=x\/z=y:=by simpa using a6
  rcases a6 with rfl|rfl
  ·exact⟨U,by have:=hx.len;omega⟩
  ·exact⟨U,by have:=hy.len;omega⟩
 ·have a6:z=x\/z=y:=by simpa using a6
  rcases a6 with rfl|rfl
  ·exact hh
  ·exact DD
def qB.row{r:dj}{F:PF}{aC:List (PF×List PF)}{gs:List ef}(h:qB r F aC)(b2:F.low)(hg:s4 gs aC):∃k f g,Gz r F gs k f g:=by
 cases h with
 |and f g=>
  obtain⟨x,y,rfl,hx,hy⟩:=hg.two;obtain⟨hU,h1,h4⟩:=x;obtain⟨m4,h2,kl⟩:=y;obtain rfl:=hx.fH;obtain rfl:=hy.fH;obtain rfl:=hx.hyps;obtain rfl:=hy.hyps;refine⟨0,f,g,.two hx hy I I I ⟨rfl,rfl⟩ ⟨rfl,rfl⟩ (by simp[jr]) bw I ⟨hx.low.1,hy.low.1,λp aw=>?_⟩⟩;have aw:p=(mA,.a)\/p=(eC,.b)\/p=(ir 0 mA eC,.bin 0):=by simpa [rowM] using aw
  rcases aw with rfl|rfl|rfl
  ·exact hx.low.1
  ·exact hy.low.1
  ·exact b2
 |g4 q f g=>
  obtain⟨x,rfl,hx⟩:=hg.one;obtain⟨hU,h1,h4⟩:=x;obtain rfl:=hx.fH;obtain rfl:=hx.hyps;have hb:(PF.bin 0 f g).low:=hx.low.1;have jM:max f.dep g.dep+1<=38:=hb.1;have pb:f.b0+g.b0+1<=380:=hb.2;have hf:f.low:=⟨U,U⟩
  have uK:g.low:=⟨U,U⟩
  cases q with
  |false=>
   refine⟨1,f,g,.one hx aF I I I (by simp[jr]) bw I ⟨hf,uK,λp aw=>?_⟩⟩;have aw:p=(ir 0 mA eC,.bin 0)\/p=(mA,.a):=by simpa [rowM] using aw
   rcases aw with rfl|rfl
   ·exact hb
   ·exact hf
  |true=>
   refine⟨2,f,g,.one hx aF I I I (by simp[jr]) bw I ⟨hf,uK,λp aw=>?_⟩⟩;have aw:p=(ir 0 mA eC,.bin 0)\/p=(eC,.b):=by simpa [rowM] using aw
   rcases aw with rfl|rfl
   ·exact hb
   ·exact uK
 |or f g=>
  obtain⟨x,rfl,hx⟩:=hg.one;obtain⟨hU,h1,h4⟩:=x;obtain rfl:=hx.fH;obtain rfl:=hx.hyps;have jM:max f.dep g.dep+1<=38:=b2.1;have pb:f.b0+g.b0+1<=380:=b2.2;refine⟨3,f,g,.one hx aF I I I (by simp[jr]) bw I ⟨hx.low.1,⟨U,U⟩,λp aw=>?_⟩⟩;have aw:p=(mA,.a)\/p=(ir 1 mA eC,.bin 1):=by simpa [rowM] using aw
  rcases aw with rfl|rfl
  ·exact hx.low.1
  ·exact b2
 |a3a f g=>
  obtain⟨x,rfl,hx⟩:=hg.one;obtain⟨hU,h1,h4⟩:=x;obtain rfl:=hx.fH;obtain rfl:=hx.hyps;have hf:f.low:=hx.low.2 f aF;refine⟨4,f,g,.one hx aF I I I (by simp[jr]) bw I ⟨hf,hx.low.1,λp aw=>?_⟩⟩;have aw:p=(eC,.b)\/p=(mA,.a)\/p=(ir 2 mA eC,.bin 2):=by simpa [rowM] using aw
  rcases aw with rfl|rfl|rfl
  ·exact hx.low.1
  ·exact hf
  ·exact b2
 |xY f g=>
  obtain⟨x,y,rfl,hx,hy⟩:=hg.two;obtain⟨hU,h1,h4⟩:=x;obtain⟨m4,h2,kl⟩:=y;obtain rfl:=hx.fH;obtain rfl:=hy.fH;obtain rfl:=hx.hyps;obtain rfl:=hy.hyps;refine⟨5,f,F,.two hx hy I I I ⟨rfl,rfl⟩ ⟨rfl,rfl⟩ (by simp[jr]) bw I ⟨hy.low.1,b2,λp aw=>?_⟩⟩;have aw:p=(ir 2 mA eC,.bin 2)\/p=(mA,.a)\/p=(eC,.b):=by simpa [rowM] using aw
  rcases aw with rfl|rfl|rfl
  ·exact hx.low.1
  ·exact hy.low.1
  ·exact b2
 |a3b f=>
  obtain⟨x,rfl,hx⟩:=hg.one;obtain⟨hU,h1,h4⟩:=x;obtain rfl:=hx.fH;obtain rfl:=hx.hyps;have hf:f.low:=hx.low.2 f aF;refine⟨6,f,.cO,.one hx aF I I I (by simp[jr]) bw I ⟨hf,CK,λp aw=>?_⟩⟩;have aw:p=(nn,.cO)\/p=(mA,.a)\/p=(rJ mA,.neg):=by simpa [rowM] using aw
  rcases aw with rfl|rfl|rfl
  ·exact CK
  ·exact hf
  ·exact b2
 |xZ f=>
  obtain⟨x,y,rfl,hx,hy⟩:=hg.two;obtain⟨hU,h1,h4⟩:=x;obtain⟨m4,h2,kl⟩:=y;obtain rfl:=hx.fH;obtain rfl:=hy.fH;obtain rfl:=hx.hyps;obtain rfl:=hy.hyps;refine⟨7,f,.cO,.two hx hy I I I ⟨rfl,rfl⟩ ⟨rfl,rfl⟩ (by simp[jr]) bw I ⟨hx.low.1,CK,λp aw=>?_⟩⟩;have aw:p=(mA,.a)\/p=(rJ mA,.neg)\/p=(nn,.cO):=by simpa [rowM] using aw
  rcases aw with rfl|rfl|rfl
  ·exact hx.low.1
  ·exact hy.low.1
  ·exact CK
 |z9=>
  obtain⟨x,rfl,hx⟩:=hg.one;obtain⟨hU,h1,h4⟩:=x;obtain rfl:=hx.fH;obtain rfl:=hx.hyps;refine⟨8,F,.cO,.one hx aF I I I (by simp[jr]) bw I ⟨b2,CK,λp aw=>?_⟩⟩;have aw:p=(nn,.cO)\/p=(mA,.a):=by simpa [rowM] using aw
  rcases aw with rfl|rfl
  ·exact CK
  ·exact b2
end
def c4W{J:ae}{n:Nat}{F:Fm}(h:2*F.dep+3<=n):bM J n (.R (bN F))=some (.R (bN F)):=by
 obtain⟨n,rfl⟩:∃m,n=m+1:=⟨n-1,U⟩
 exact ox (Gi U)
def a4j{J:ae}{n:Nat}{g:ef}(h1:g.fH.dep<=200)(h2:∀F∈g.hyps,F.dep<=200)(h3:∀F∈g.rest,F.dep<=200)(hn:900<=n):bM J n g.A=some g.A:=by
 obtain⟨n,rfl⟩:∃m,n=m+3:=⟨n-3,U⟩
 have aX:mapO (bM J (n+2)) (bN g.fH)=some (bN g.fH):=Gi U;have bc:bM J (n+2) (slA true (some 5) (g.hyps.map sM))=some (slA true (some 5) (g.hyps.map sM)):=Ag λF b2=>by
  have:=h2 F b2;refine ox (k:=n) ?_;rw[mapO_cons,Gi U];cases n with
  |zero=>omega
  |succ n=>rfl
 have cq:bM J (n+2) (slA true (some 4) (g.rest.map λF=>.R (bN F)))=some (slA true (some 4) (g.rest.map λF=>.R (bN F))):=Ag λF b2=>c4W (by have:=h3 F b2;omega);refine ox (xQ aX ?_);rw[mapO_cons,mapO_cons,bc,cq];rfl
def c4X{b:bT}:∀r∈jr,(∀J,bM J (b.bp+1000) r.A=some r.A)/\(∀J,bM J (b.bp+1000) (slA true (some 7) (r.cU.map fh.A))=some (slA true (some 7) (r.cU.map fh.A)))/\(∀p∈r.cU,∀J,bM J (b.bp+1000) p.A=some p.A)/\r.fH.dep<=10/\(∀p∈r.cU,p.f.dep<=10/\∀h∈p.hyps,h.dep<=10):=by
 intro r aq;simp only[jr,dB,NQ,or_false] at aq;rcases aq with rfl|rfl|rfl|rfl|rfl|rfl|rfl|rfl|rfl|rfl|rfl<;>refine⟨λJ=>rfl,λJ=>rfl,?_,bw,?_⟩<;>intro p aw
 all_goals (
  simp only[So,Gf,Sp,a2Y,a2Z,Sq,Sr,Ss,St,Su,dB,NQ,or_false] at aw
  first
   |(rcases aw with rfl|rfl|rfl<;>first|exact λJ=>rfl|exact⟨bw,bw⟩)
   |(rcases aw with rfl|rfl<;>first|exact λJ=>rfl|exact⟨bw,bw⟩)
   |(rcases aw with rfl<;>first|exact λJ=>rfl|exact⟨bw,bw⟩))
def mg.aI{b:bT}{K:Nat->List AV->AV->Prop}(fb:mg b):Cq b K:=⟨fb.c4G.h,fb.c4H.h,fb.c4I.h,fb.c4J.h,fb.c4K.h,fb.c4L.h⟩
def mg.ap{b:bT}{K:Nat->List AV->AV->Prop}(fb:mg b):a1R b K:=⟨fb.c4A.h,fb.c4B.h,fb.c4C.h,fb.c4D.h,fb.c4E.h,fb.c4F.h,fb.aI,fb.s9 I,fb.s9 I,fb.s9 I⟩
def c4Y{r:dj}{F:Fm}{gs:List ef}{n:Nat}(h0:1<=n)(ab:r.fH.dep<=n)(b2:F.dep<=n)(aw:∀p∈r.cU,p.f.dep<=n/\∀h∈p.hyps,h.dep<=n)(hg:∀g∈gs,g.fH.dep<=n/\∀h∈g.hyps,h.dep<=n):∀p∈nQ r F gs,p.1.dep<=n/\p.2.dep<=n:=by
 have d0:FH.dep<=n:=by
  have:FH.dep=1:=by decide
  omega
 have a4k:∀i,(r.cU.getD i oJ).f.dep<=n/\∀h∈(r.cU.getD i oJ).hyps,h.dep<=n:=λi=>by
  rw[yT];cases h:r.cU[i]? with
  |none=>exact⟨d0,λh hh=>by simp[oJ] at hh⟩
  |some p=>exact aw p (fL h)
 have a4l:∀i,(gs.getD i kd).fH.dep<=n/\∀h∈(gs.getD i kd).hyps,h.dep<=n:=λi=>by
  rw[yT];cases h:gs[i]? with
  |none=>exact⟨d0,λh hh=>by simp[kd] at hh⟩
  |some p=>exact hg p (fL h)
 have hl:∀ {l:List Fm} {i:Nat},(∀h∈l,h.dep<=n)->(l.getD i FH).dep<=n:=λ{l i} h=>by
  rw[yT];cases hx:l[i]? with
  |none=>exact d0
  |some p=>exact h p (fL hx)
 have h2:∀j,∀p∈pr2 r gs j,p.1.dep<=n/\p.2.dep<=n:=λj=>by
  induction j with
  |zero=>intro p aw;simp[pr2] at aw
  |succ j aH=>
   intro p aw;rw[pr2] at aw;rcases tl.1 aw with aw|aw
   ·exact aH p aw
   ·obtain⟨t,_,rfl⟩:=ti.1 aw;exact⟨hl (a4k j).2,hl (a4l j).2⟩
 intro p aw;unfold nQ at aw;rcases tl.1 aw with aw|aw
 ·rcases tl.1 aw with aw|aw
  ·obtain⟨i,_,rfl⟩:=ti.1 aw;exact⟨(a4k i).1,(a4l i).1⟩
  ·exact h2 _ p aw
 ·rw[uT.1 aw];exact⟨ab,b2⟩
section
variable {P:Program}{b:bT}{cn cb:AV}(G:GivM P b cn cb)
include G in
theorem c4Z{K:Nat->List AV->AV->Prop}(hb:jR P b)(fr:x9 P b cn cb)(hfn:∀g aQ r b5,K g aQ r->K g aQ b5->r=b5)(om:tV P b K)(hle:∀g aQ r,c3 P b cn cb g aQ r->K g aQ r){r:dj}{F:PF}{gs:List ef}(b2:F.low)(Al:r∈jr)(kq:∀p∈r.cU,p.closed=false)(ab:FG r gs)(hy:a4h gs)
  {cZ:AV} {at_ e:Nat} (cc:K qi [slA true (some 8) ((nQ r F.aG gs).map nj),.R [.af,.af]] (.a0 [.R [cZ,.af],ah at_,ah e])) (fS:e≠0->at_<(z1 r gs).length) (hfz:∀J,freeze J 0 998 cZ=some cZ) (heq:∀n,AV.eqb (n+500) cZ cZ=true) (bH:∀n,fk (n+500) cZ=true):
  ∃cZ gL dR eB az,cV P b vO [r.A,F.aG.A true,iG gs] (.a0 [.R [cZ,gL],.R [.i .u8 (Int.ofNat dR),ah eB,ah az],ah (if e=0 then 0 else 80)]):=by
 obtain⟨s1,s2,eI,bh,ih⟩:=c4X (b:=b) r Al;have x_:∀x∈gs,x.fH.dep<=200/\(∀h∈x.hyps,h.dep<=200)/\∀h∈x.rest,h.dep<=200:=λx hx=>by
  obtain⟨aX,bc,cq,ew,eJ⟩:=hy x hx;refine⟨U,λh hh=>?_,λh hh=>?_⟩
  ·obtain⟨c,rfl,ab⟩:=cq h hh;rw[PF.js];have:=ab.1;omega
  ·obtain⟨c,rfl,ab⟩:=eJ h hh;rw[PF.js];have:=ab.1;omega
 have d0t:=b2.1;have uD:AV.eqb (b.bp+1000) (.R [cZ,.af]) (.R [cZ,.af])=true:=sX (n:=b.bp+999) λx hx=>by
  have hx:x=cZ\/x= .af:=by simpa using hx
  rcases hx with rfl|rfl
  ·exact heq (b.bp+499)
  ·exact ev I
 have pv:∀ {x:ef},x∈gs->x.hyps.length<2^10:=λ{x} hx=>by have:=(hy x hx).1;omega
 have lH:gs.length<2^10:=by
  rw[ab.len];have:∀r∈jr,r.cU.length<2^10:=by decide
  exact this r Al
 have hw:=λbody iU=>c1y hfn (K:=K) G.fb.ap ab lH (λx hx=>pv hx) (at_:=at_) (e:=e) ⟨s2,eI,λJ=>Ag (n:=b.bp+999) λx hx=>a4j (x_ x hx).1 (x_ x hx).2.1 (x_ x hx).2.2 U,λx hx J=>a4j (x_ x hx).1 (x_ x hx).2.1 (x_ x hx).2.2 U⟩ s1 (c4Y bw U (by rw[PF.js];omega) (λp aw=>⟨by have:=(ih p aw).1;omega,λh hh=>by have:=(ih p aw).2 h hh;omega⟩) λx hx=>⟨(x_ x hx).1,(x_ x hx).2.1⟩) fS cc uD hfz kq (hle _ _ _ (c3.jJ (fr.pX r Al) (s8 bw) λr h=>h.s7 bw)) (λh hh=>by
  have key:∀a:PF,a.low->a.aG.dep<=200/\K kb [a.aG.A true] (.b true):=λa ha=>⟨by rw[PF.js];have:=ha.1;omega,hle _ _ _ (c3.jJ (fr.right a ha) (s8 bw) λr h=>h.s7 bw)⟩
  rcases dB.1 hh with rfl|hh
  ·exact key F b2
  ·obtain⟨x,hx,hh⟩:=Ay.1 hh;obtain⟨aX,bc,cq,⟨c,ew,FB⟩,eJ⟩:=hy x hx;rcases dB.1 hh with rfl|hh
   ·rw[ew];exact key c FB
   ·rcases tl.1 hh with hh|hh
    ·obtain⟨c,rfl,ab⟩:=cq h hh;exact key c ab
    ·obtain⟨c,rfl,ab⟩:=eJ h hh;exact key c ab) body iU
 by_cases he:e=0
 ·rw[if_pos he] at hw;refine⟨cZ,.af,0,0,0,λbz=>?_⟩;rw[jk,if_pos he];refine a1P hb om (ad:=1000) _ G.fb.SL.1 I I I ?_ ?_ (hw _ I) bz
  ·rw[mG];refine ig λy hy=>?_;have hy:y= .R [cZ,.af]\/y=rF 0 0 0\/y=ah 0:=by simpa using hy
   rcases hy with rfl|rfl|rfl
   ·rw[show(999:Nat)=998+1 from rfl,mG];refine ig λz a6=>?_;have a6:z=cZ\/z= .af:=by simpa using a6
    rcases a6 with rfl|rfl
    ·exact bH 498
    ·rfl
   ·rfl
   ·rfl
  ·refine(ov λy hy=>?_:fY (AV.eqb 999) [.R [cZ,.af],rF 0 0 0,ah 0] [.R [cZ,.af],rF 0 0 0,ah 0]=true);have hy:y= .R [cZ,.af]\/y=rF 0 0 0\/y=ah 0:=by simpa using hy
   rcases hy with rfl|rfl|rfl
   ·refine sX (n:=998) λx hx=>?_;have hx:x=cZ\/x= .af:=by simpa using hx
    rcases hx with rfl|rfl
    ·exact heq 498
    ·rfl
   ·rfl
   ·rfl
 ·rw[if_neg he] at hw;generalize(z1 r gs).getD at_ (0,0)=sH at hw;refine⟨.af,.af,2,sH.1,sH.2,λbz=>?_⟩;rw[jk,if_neg he];refine a1P hb om (ad:=1000) _ G.fb.SL.1 I I I I ?_ (hw _ I) bz;refine(ov λy hy=>?_:fY (AV.eqb 999) [.R [.af,.af],z0 sH,ah 80] [.R [.af,.af],z0 sH,ah 80]=true);have hy:y= .R [.af,.af]\/y=z0 sH\/y=ah 80:=by simpa using hy
  rcases hy with rfl|rfl|rfl
  ·rfl
  ·exact sX (n:=998) λx hx=>by
    have hx:x= .i .u8 2\/x=ah sH.1\/x=ah sH.2:=(dB.1 hx).imp id λh=>(dB.1 h).imp id uT.1;rcases hx with rfl|rfl|rfl<;>exact ev I
  ·rfl
include G in
theorem c5a(gP:Tok)(SW: @TokOk gP){r:dj}{F:PF}{aC:List (PF×List PF)}{gs:List ef}(ha:qB r F aC)(b2:F.low)(hg:s4 gs aC):∃cZ gL dR eB az,@cV gP P b vO [r.A,F.aG.A true,iG gs] (.a0 [.R [cZ,gL],.R [fa dR,ah eB,ah az],ah 0]):=by
 letI:Tok:=gP
 haveI:TokOk:=SW
 obtain⟨k,f,g,hR⟩:=ha.row b2 hg;obtain⟨res,hm,a4m⟩:=c4U G hR.HT hR.low.1 hR.low.2.1 hR.low.2.2 gP;have aL:slA true (some 8) ((nQ r F.aG gs).map nj)= .a_ true (some 8) ((rowM k).map λp=>nj (p.1,(p.2.gA f g).aG)):=by
  rw[<-hR.xK];have:=hR.ne;cases hx:nQ r F.aG gs with
  |nil=>exact absurd hx this
  |cons x l=>rfl
 rw[<-aL] at hm;obtain⟨b5,c0,aW⟩:=c3.get (cn:=cn) (cb:=cb) hm (c4j a4m);obtain⟨cZ,a5,hfz,heq,bH⟩:=aW.FN I;rw[a5] at c0;exact c4Z (K:=c3 P b cn cb) G (G.hb gP SW) (G.fr gP SW) c3.fn c3.ok (λ_ _ _ h=>h) b2 hR.c4V hR.aC hR.c hR.hy c0 (λh=>absurd I h) hfz heq bH
end
section
variable {b:bT}{K:Nat->List AV->AV->Prop}
def mg.hf(fb:mg b):lQ b K:=⟨fb.Kj.h,fb.c4l.h,fb.c4m.h,fb.c4n.h,fb.c4o.h,fb.B6.h,fb.assumptions.h,fb.beside.h,fb.B7.h,fb.c4p.h⟩
def mg.ho(fb:mg b):Kw b K:=⟨fb.Gv.h,fb.c4q.h,fb.c4r.h,fb.Lx.2⟩
def mg.aw(fb:mg b):Fw b K:=⟨fb.c4s.h,fb.c4t.h,fb.c4u.h,fb.c4v.h,fb.c4w.h⟩
def mg.iU(fb:mg b):Q5 b K:=⟨fb.c4x.h,fb.c4y.h,fb.c4z.h,fb.s9 I,fb.a3P.2,fb.SL.2⟩
end
structure CL(b:bT)(l:iF)(ag:List dj):Prop where
 rs:l.rs=ag.map dj.A
 pre:∃rest,ag=jr++rest
 len:ag.length<2^20
 aC:∀r∈ag,r.cU.length<2^20/\∀J,bM J (b.bp+1000) r.A=some r.A
 g3:∀J,bM J (b.bp+1000) (l.A true)=some (l.A true)
section
variable {P:Program}{b:bT}{l:iF}{ag:List dj}{cb:AV}(G:GivM P b (l.A true) cb)(hl:CL b l ag)
abbrev CM(P:Program)(b:bT)(l:iF)(cb:AV):Nat->List AV->AV->Prop:=c3 P b (l.A true) cb
include G
include hl
theorem c5b(hb:jR P b)(fr:x9 P b (l.A true) cb):Lk (CM P b l cb) ag (l.A true) where
 pre:=hl.pre
 ap r F aC gs ha b2 hg:=by
  obtain⟨cZ,gL,dR,eB,az,my⟩:=c5a G _ inferInstance ha b2 hg;obtain⟨b5,c0,aW⟩:=c3.get (cn:=l.A true) (cb:=cb) my (c4k ⟨_,_,_,_,_,rfl⟩);obtain⟨cZ,gL,dR,eB,az,rfl⟩:=aW.app I;exact⟨cZ,gL,dR,eB,az,c0⟩
 cC f hf:=by
  have:=c3.jJ (cn:=l.A true) (cb:=cb) (c4P hb G.fb fr.right f f hf hf) (c4c f f) λr h=>h.Q8 I f f I;rwa[decide_eq_true I] at this
 fN f hf:=c3.jJ (fr.fN f hf) (s8 bw) λr h=>h.s7 bw
end
section
variable {P:Program}{b:bT}{l:iF}{ag:List dj}{lc gY:List AV}(G:GivM P b (l.A true) (.a0 [.R lc,.R gY]))(hl:CL b l ag)
def mg.ck(fb:mg b)(hb:jR P b)(fr:x9 P b (l.A true) (.a0 [.R lc,.R gY])):kX b (CM P b l (.a0 [.R lc,.R gY])) where
 sf:=fb.a3I.h
 ci:=fb.a3J.h
 li:=fb.line.h
 we:=fb.a3K.h
 aa:=fb.a3L.h
 wg:=fb.a3M.h
 pB:=fb.join.h
 at_:=fb.atom.h
 fn:=c3.fn
 es:=fb.Lv.2
 Ld:=fb.Lw.2
 size a h1 h2:=c3.jJ (a3T hb fb _ a (bs _) U U) (a3y a) λr h=>h.size I a I
 same a c h1 h2:=c3.jJ (a3U hb fb fr.st _ a c (bs _) U U) (a3z a c) λr h=>h.a3w I a c I
structure SX(b:bT)(l:iF)(lc gY:List AV):Prop where
 sU:lc.length=5/\gY.length=5
 g3:∀J,bM J (b.bp+1000) (.R lc)=some (l.A true)
 eq:AV.eqb (b.bp+1000) (.R lc) (.R lc)=true
end
section
variable {P:Program}{b:bT}{l:iF}{ag:List dj}{cb:AV}(G:GivM P b (l.A true) cb)(hl:CL b l ag)
include G
theorem nV.g3{T:List bg}(g:nV T):∀J,bM J (b.bp+1000) (cG T)=some (cG T):=λJ=>c3q g.ne λx hx=>by have:=g.dep x hx;omega
theorem nV.c5c(hb:jR P b){T:List bg}(g:nV T){k:Nat}(h1:1<=k)(h2:k<=T.length):cV P b uf [cG T,ah k] (.b (nN T k)):=λbz=>
 lI hb (c3.ok (cn:=.af) (cb:=.af)) _ G.fb.Gw.1 I I I I (hs _).1 (hs _).2 (b9x T (by have:=g.le;omega) (λx hx=>by
  have h3:=g.kU.num x hx;obtain⟨i,hi,rfl⟩:=tj hx;have aO:=(g.wk (i+1) _ U (fw hi)).1;exact⟨U,U,aO⟩) k h1 h2 _ I) bz
theorem nV.c5d(hb:jR P b){T:List bg}(g:nV T):cV P b oB [cG T] (ah 0):=λbz=>
 lI hb (c3.ok (cn:=.af) (cb:=.af)) _ G.fb.Lx.1 I I I I (nG _ _).1 (nG _ _).2 (a0T c3.fn (T.map bg.A) (g.g3 G) (by rw[uV];have:=g.le;omega) (λk=>nN T k) G.fb.Gw.2 0 (rU _) (λk h1 h2 _=>by
  rw[uV] at h2;exact c3.jJ (g.c5c G hb h1 h2) (c4h _ _) λr aq=>aq.kU I _ _ I) (λk h1 h2 _=>by
  rw[uV] at h2;exact g.aa k h1 h2) (λh=>absurd I h) _ I) bz
theorem nV.zm(hb:jR P b){T:List bg}(g:nV T):zQ b (CM P b l cb) T where
 kU:=g.kU
 ne:=pM.2 g.ne
 le:=by have:=g.le;omega
 g3:=g.g3 G
 zR:=c3.jJ (g.c5d G hb) c4g λr aq=>aq.zR I
 kv:=g.kv
 uy k x hx h1:=g.wk k x h1 hx
include hl
theorem nV.Z7(hb:jR P b)(fr:x9 P b (l.A true) cb){T:List bg}(g:nV T){r cI dR eB az:Nat}(Cn:c0I (CM P b l cb) l ag T r cI dR eB az):∃bA KK KL KM fW e,cV P b jT [l.A true,cG T] (x7 bA KK KL KM fW e)/\(if r=0 then(if kr T T.length=0 then(bA=0/\KK=0/\KL=0/\KM=0/\fW=0/\e=0) else(bA=T.length/\KK=7/\KL=0/\KM=0/\fW=0/\e=180)) else(bA=r/\KK=cI/\KL=dR/\KM=eB/\fW=az/\e=180)):=by
 have hd:∀x∈T,x.f.dep<=200:=λx hx=>by have:=g.dep x hx;omega
 have c6Y:CM P b l cb lr [l.A true] (.b true):=c3.jJ fr.Gx (s8 bw) λr h=>h.s7 bw;have z2:=g.zm (cb:=cb) G hb;have key:∀bA KK KL KM fW e,(if r=0 then(if kr T T.length=0 then(bA=0/\KK=0/\KL=0/\KM=0/\fW=0/\e=0) else(bA=T.length/\KK=7/\KL=0/\KM=0/\fW=0/\e=180)) else(bA=r/\KK=cI/\KL=dR/\KM=eB/\fW=az/\e=180))->cV P b jT [l.A true,cG T] (x7 bA KK KL KM fW e):=λbA KK KL KM fW e df bz=>by
  have hw:=c0J (K:=CM P b l cb) c3.fn G.fb.hf G.fb.ho G.fb.aw G.fb.iU z2 hd hl.rs hl.len hl.aC hl.g3 (G.fb.s9 I) c6Y Cn df _ I;refine vV hb c3.ok (ad:=1000) _ G.fb.Ly.1 I I I I ?_ hw bz;refine(ov λy hy=>?_:fY (AV.eqb 999) [.R [ah bA,fa KK,fa KL,ah KM,ah fW],ah e] [.R [ah bA,fa KK,fa KL,ah KM,ah fW],ah e]=true);have hy:y= .R [ah bA,fa KK,fa KL,ah KM,ah fW]\/y=ah e:=by simpa using hy
  rcases hy with rfl|rfl
  ·refine sX (n:=998) λz a6=>?_;simp only[dB,NQ,or_false] at a6;rcases a6 with rfl|rfl|rfl|rfl|rfl<;>exact ev I
  ·exact ev I
 by_cases h0:r=0
 ·by_cases oi:kr T T.length=0
  ·exact⟨0,0,0,0,0,0,key _ _ _ _ _ _ (by rw[if_pos h0,if_pos oi];exact⟨rfl,rfl,rfl,rfl,rfl,rfl⟩),by rw[if_pos h0,if_pos oi];exact⟨rfl,rfl,rfl,rfl,rfl,rfl⟩⟩
  ·exact⟨_,7,0,0,0,180,key _ _ _ _ _ _ (by rw[if_pos h0,if_neg oi];exact⟨rfl,rfl,rfl,rfl,rfl,rfl⟩),by rw[if_pos h0,if_neg oi];exact⟨rfl,rfl,rfl,rfl,rfl,rfl⟩⟩
 ·exact⟨_,_,_,_,_,180,key _ _ _ _ _ _ (by rw[if_neg h0];exact⟨rfl,rfl,rfl,rfl,rfl,rfl⟩),by rw[if_neg h0];exact⟨rfl,rfl,rfl,rfl,rfl,rfl⟩⟩
end
def a4n{T:List bg}:∀ {i:Nat},∀n∈stF T i,1<=n/\n<=i
 |0,n,h=>by simp[stF] at h
 |i+1,n,h=>by
  rw[stF] at h;split at h
  ·unfold zK at h;rcases tl.1 h with h|h
   ·have:=a4n (i:=i) n (uU h);omega
   ·have:=List.eq_of_mem_replicate h;omega
  ·simp at h
end
section
variable [Tok][TokOk]
open Go.RowKit Go.Lyc.T
attribute [local irreducible] cg bL dC eu bE
def mh(S:List Bool)(n:Nat):List Bool:=S.set (n-1) true
def GB{S:List Bool}{n:Nat}:(mh S n).length=S.length:=ib
def rM:∀ {l:List Nat} {S:List Bool},(l.foldl mh S).length=S.length
 |[],_=>rfl
 |n::l,S=>by rw[Ha,rM,GB]
def nq(T:List bg)(k:Nat)(S:List Bool)(ac:Nat×Nat):List Bool:=cond (hJ T (cS T) k ac.1 ac.2) ((iY T ac.1 (kr T k+1)).foldl mh (mh (mh S ac.2) ac.1)) (mh S ac.2)
def c5g{T:List bg}{k:Nat}{S:List Bool}{ac:Nat×Nat}:(nq T k S ac).length=S.length:=by
 unfold nq;cases hJ T (cS T) k ac.1 ac.2 with
 |true=>rw[cond_true,rM,GB,GB]
 |false=>rw[cond_false,GB]
def SY{T:List bg}{k:Nat}:∀ {l:List (Nat×Nat)} {S:List Bool},(l.foldl (nq T k) S).length=S.length
 |[],_=>rfl
 |n::l,S=>by rw[Ha,SY,c5g]
def linW(T:List bg)(k:Nat)(S:List Bool):List Bool:=match T[k-1]? with
 |some x=>cond (S.getD (k-1) false) (x.cs.foldl (nq T k) ((stF T k).foldl mh S)) S
 |none=>S
def c5h{T:List bg}{k:Nat}{S:List Bool}:(linW T k S).length=S.length:=by
 unfold linW;split
 ·cases S.getD (k-1) false with
  |true=>rw[cond_true,SY,rM]
  |false=>rfl
 ·rfl
def wanD(T:List bg):Nat->List Bool
 |0=>mh (List.replicate T.length false) T.length
 |j+1=>linW T (T.length-j) (wanD T j)
def LH{T:List bg}:∀ {j:Nat},(wanD T j).length=T.length
 |0=>by rw[wanD,GB,qk]
 |j+1=>by rw[wanD,c5h,LH]
def s_(T:List bg):List Bool:=wanD T T.length
section
variable {b:bT}{K:Nat->List AV->AV->Prop}
def c5i(hh:bk (b.aM K) mb b7b){c q:Nat}{J:ae}{v:AV}{l:List Nat}{S:List Bool}(ab:J.get c=some (.cells [.al q 0 S.length none (some S.length)]))(aV:J.get q=some (.cells (S.map AV.b)))(qb:c≠q)(au:fg J v l)(Fg:∀i,v.at? =some i->i≠q)(hl:∀n∈l,1<=n/\n<=S.length)(e0:l.length<2^20)(cQ:S.length<2^20):
  bE (b.aM K) 0 (.f (.func mb) [] [aE c]) [v] J (λr τ=>r= .ok (.a0 [])/\τ.get q=some (.cells ((l.foldl mh S).map AV.b))/\(∀i o,i≠q->J.get i=some o->τ.get i=some o)/\τ.next=J.next):=by
 refine W.b8N hh I I I λz H=>?_;have qp:=au.kR;refine aj ?_;refine ak.each l.length (λj f τ=>τ.get q=some (.cells (((l.take j).foldl mh S).map AV.b))/\(∀i o,i≠q->J.get i=some o->τ.get i=some o)/\τ.next=J.next/\sat [(5,v),(1,aE c)] f) U ⟨aV,λ_ _ _ h=>h,rfl,rfl,rfl,trivial⟩ I I (λj g τ ax aW hi hm=>?_) (λg τ aW hi=>?_)
 ·obtain⟨h1,h2,h3,dm,bU,_⟩:=aW;refine ak.norm [(7,ah j),(6,ah l.length),(5,v),(1,aE c)] ⟨hi,hm,dm,bU,trivial⟩ λg=>?_;have H:Has τ [(c,[.al q 0 S.length none (some S.length)]),(q,((l.take j).foldl mh S).map AV.b)]:=(Has.nil.cons h1 aF).cons (h2 _ _ qb ab) (by simp;exact λe=>qb e.symm);have qp:=(au.aP (τ:=τ) λi o hi=>h2 i o (Fg i hi)).kR;obtain⟨lq,nW⟩:=hl _ (gC ax);refine aj ?_;refine W.eR I I I I (m7 U) ?_;refine W.st H 1 I I I I I (a0C (by rw[rM];omega)) λdg iW H c9=>?_;refine aj ?_;refine⟨rfl,rfl,?_,λi o hi ho=>c9 _ _ hi (h2 i o hi ho),U,rfl,rfl,trivial⟩;rw[H.get _ (.tail _ (.head _)),lO ax,KO];rfl
 ·obtain⟨h1,h2,h3,_⟩:=aW;rw[B0] at h1;exact⟨.inr I,rfl,h1,h2,h3⟩
end
structure oP(J:ae)(c q:Nat)(S:List Bool)(τ:ae):Prop where
 v:τ.get c=some (.cells [.al q 0 S.length none (some S.length)])
 s:τ.get q=some (.cells (S.map AV.b))
 k:∀i o,J.get i=some o->τ.get i=some o
 n:c<τ.next
section
variable {b:bT}{K:Nat->List AV->AV->Prop}{J τ aB:ae}{c q:Nat}{S:List Bool}
def oP.hM(h:oP J c q S τ)(M:dN τ aB):oP J c q S aB:=⟨M.2 _ _ h.v,M.2 _ _ h.s,λi o ho=>M.2 _ _ (h.k i o ho),by have:=M.1;have:=h.n;omega⟩
def oP.to(h:oP J c q S τ)(qb:c≠q)(rP:J.next<=q){l:List Nat}(h1:aB.get q=some (.cells ((l.foldl mh S).map AV.b)))(h2:∀i o,i≠q->τ.get i=some o->aB.get i=some o)(h3:aB.next=τ.next):oP J c q (l.foldl mh S) aB:=
 ⟨by rw[rM];exact h2 _ _ qb h.v,h1,λi o ho=>h2 _ _ (λe=>by have:=ae.bt ho;omega) (h.k i o ho),by rw[h3];exact h.n⟩
def GC(hh:bk (b.aM K) mb b7b)(h:oP J c q S τ)(qb:c≠q)(rP:J.next<=q){v:AV}{l:List Nat}(au:fg τ v l)(Fg:∀i,v.at? =some i->i≠q)(hl:∀n∈l,1<=n/\n<=S.length)(e0:l.length<2^20)(cQ:S.length<2^20):
  bE (b.aM K) 0 (.f (.func mb) [] [aE c]) [v] τ (λr aB=>r= .ok (.a0 [])/\oP J c q (l.foldl mh S) aB/\(∀i o,i≠q->τ.get i=some o->aB.get i=some o)/\aB.next=τ.next):=
 (c5i hh h.v h.s qb au Fg hl e0 cQ).mono λr aB ⟨e,h1,h2,h3⟩=>⟨e,h.to qb rP h1 h2 h3,h2,h3⟩
structure LI(b:bT)(K:Nat->List AV->AV->Prop):Prop where
 f:lQ b K
 w:bk (b.aM K) PM YK
 bW:bk (b.aM K) mb b7b
def a4o:bF:=match YK.body with|some c=>c|none=>.skip
def c5j(hw:LI b K){p k:Nat}{T:List bg}{N:List (List Nat)}(ed:kS J p T (cS T) N)(c6:oD T (cS T))(dP:∀x∈T,x.op<2^20)(a4p:q<c)(rP:J.next<=q)(h:oP J c q S τ)(cQ:S.length=T.length)(h1:1<=k)(ay:k<=T.length){x:bg}(hx:T[k-1]? =some x)(ab:oG k x.cs){z:Nat->AV}{Q:dZ}
  (b6:∀F aB,sat [(5,ah k),(4,.f (.func mb) [] [aE c]),(3,aE c),(0,aE p)] F->oP J c q (x.cs.foldl (nq T k) S) aB->Q .normal F aB):
  bL (b.aM K) none [] YK.ntmps (hN [1,1,1,1,0,1,0,0,1,0,0,1,1] a4o) (bB [(5,ah k),(4,.f (.func mb) [] [aE c]),(3,aE c),(0,aE p)] z) τ Q:=by
 obtain⟨cE,eO,bK,eZ,nh,qt,pr,nP,xT,a4q,a4r⟩:=ed.ex;have H:Has τ [(p,[cG T,cE,eO])]:=Has.nil.cons (h.k _ _ nh) aF;have mz:T[k-1]'U=x:=(jK.1 hx).2;have gj:=ab.1;have x5:=c6.lt;have qb:c≠q:=by omega
 have r9:=c6.br _ (gC (show k-1<T.length by omega));have aL:=B8 (L:=T) (k:=k) U ay;refine W.sq ?_;refine aj ?_;rw[mz];refine aj ?_;refine ak.each x.cs.length (λj F aB=>oP J c q ((x.cs.take j).foldl (nq T k) S) aB/\sat [(56,hI true x.cs),(5,ah k),(4,.f (.func mb) [] [aE c]),(3,aE c),(0,aE p)] F) U ⟨h,rfl,rfl,rfl,rfl,rfl,trivial⟩ I I (λj F aB ax aW hi hm=>?_) (λF aB aW hi=>?_)
 ·obtain⟨h,a4s,dm,cX,cp,c5,_⟩:=aW;refine ak.norm [(58,ah j),(57,ah x.cs.length),(56,hI true x.cs),(5,ah k),(4,.f (.func mb) [] [aE c]),(3,aE c),(0,aE p)] ⟨hi,hm,a4s,dm,cX,cp,c5,trivial⟩ λF=>?_;have H:Has aB [(p,[cG T,cE,eO])]:=Has.nil.cons (h.k _ _ nh) aF;obtain⟨ha,eH,h5⟩:=ab.2 _ (gC ax);have yC:(x.cs.take (j+1)).foldl (nq T k) S=nq T k ((x.cs.take j).foldl (nq T k) S) x.cs[j]:=by rw[lO ax,KO];rfl
  have Am:((x.cs.take j).foldl (nq T k) S).length=T.length:=by rw[SY,cQ]
  refine aj ?_;generalize Fe:x.cs[j]=ac at ha eH h5 yC;obtain⟨a,d⟩:=ac;simp only[] at ha eH h5;generalize(x.cs.take j).foldl (nq T k) S=d0u at h yC Am;generalize mF:aB.next=m;have h0:=h;refine W.jj (c:=[ah a,ah d]) H mF I I I I I I λa9 c8 H bb=>?_;have h:=h.hM (aB:=a9) ⟨U,bb⟩;refine aj ?_;refine W.bK (c:=[ah d]) H c8 I I I λbu er H k3=>?_;have h:=h.hM (aB:=bu) ⟨U,k3⟩;have D6:q<m:=by have:=h0.n;omega
  refine W.an trivial I I I (GC hw.bW h qb rP (v:=.al (m+1) 0 1 none (some 1)) (l:=[d]) (.al (m+1) (some 1) [ah d] [] (H.get _ (.head _)) (λy hy=>by rw[uT.1 hy];rfl) (.inr I)) (λi hi=>by cases hi;omega) (λn hn=>by rw[uT.1 hn,Am];omega) (by show 1<_;decide) (by rw[Am];exact c6.lt)) λr cm ⟨e,h,b1,e_⟩=>⟨_,e,?_⟩
  have H:Has cm [(m,[ah a,ah d]),(p,[cG T,cE,eO])]:=((Has.nil.cons (h.k _ _ nh) aF).cons (b1 _ _ U (H.get _ (.tail _ (.head _)))) (by simp;have:=ae.bt nh;omega))
  refine aj ?_;refine W.an trivial I I I (Km hw.f (ed.aP h.k) c6 k a d ha eH h5 ay) λr dg ⟨e,jl⟩=>⟨_,e,?_⟩
  have h:=h.hM jl;have H:=H.aP jl.2;refine W.nil ?_;cases gO:hJ T (cS T) k a d with
  |false=>
   refine W.lM I ?_;refine ak.skip ?_;refine⟨rfl,rfl,?_,rfl,rfl,rfl,rfl,rfl,trivial⟩;rw[yC];unfold nq;rw[gO];exact h
  |true=>
   refine W.lL I ?_;refine aj ?_;generalize c5k:dg.next=zS;refine W.bK (c:=[ah a]) H c5k I I I λeA jf H et=>?_;have h:=h.hM (aB:=eA) ⟨U,et⟩;refine W.an trivial I I I (GC hw.bW h qb rP (v:=.al zS 0 1 none (some 1)) (l:=[a]) (.al zS (some 1) [ah a] [] (H.get _ (.head _)) (λy hy=>by rw[uT.1 hy];rfl) (.inr I)) (λi hi=>by cases hi;have:=jl.1;omega) (λn hn=>by rw[uT.1 hn,rM,Am];omega) (by show 1<_;decide) (by rw[rM,Am];exact x5)) λr eW ⟨e,h,gk,k6⟩=>⟨_,e,?_⟩
   have H:Has eW [(m,[ah a,ah d]),(p,[cG T,cE,eO])]:=((Has.nil.cons (h.k _ _ nh) aF).cons (gk _ _ U (H.get _ (.tail _ (.head _)))) (by simp;have:=ae.bt nh;omega))
   refine aj ?_;refine W.an (hw.f.q.one I) I I I (Qg hw.f (ed.aP h.k) x5 dP a (T[k-1].br+1) ha U) λr fI ⟨v,e,au,iP⟩=>⟨_,e,?_⟩
   have h:=h.hM iP;have pv:zo (b.aM K) mb:=(show tW (b.aM K) [mb] from λg hg=>by rw[uT.1 hg];exact⟨hw.bW.e,.inr ⟨hw.bW.p,_,_,hw.bW.f,rfl,rfl⟩⟩).one I;refine W.an pv I I I (GC hw.bW h qb rP au.al (λi hi=>by have:=au.cY i hi;have:=h0.n;have:=jl.1;omega) (λn hn=>by have:=QE (L:=T) hn;rw[rM,rM,Am];omega) (by have:=Ko T a (T[k-1].br+1) (T.length+1-a) a;unfold iY;omega) (by rw[rM,rM,Am];exact x5)) λr ke ⟨e,h,kN,sk⟩=>⟨_,e,?_⟩
   refine aj ?_;refine⟨rfl,rfl,?_,rfl,rfl,rfl,rfl,rfl,trivial⟩;rw[yC];unfold nq;rw[gO,cond_true,aL];exact h
 ·obtain⟨h,a4s,dm,cX,cp,c5,_⟩:=aW;rw[B0] at h;exact b6 _ _ ⟨dm,cX,cp,c5,trivial⟩ h
def c5l(hw:LI b K){p k:Nat}{T:List bg}{N:List (List Nat)}(ed:kS J p T (cS T) N)(c6:oD T (cS T))(dP:∀x∈T,x.op<2^20)(a4p:q<c)(rP:J.next<=q)(h:oP J c q S τ)(cQ:S.length=T.length)(h1:1<=k)(ay:k<=T.length)(ab:∀x,T[k-1]? =some x->oG k x.cs){z:Nat->AV}{Q:dZ}
  (b6:∀F aB,sat [(5,ah k),(4,.f (.func mb) [] [aE c]),(3,aE c),(0,aE p)] F->oP J c q (linW T k S) aB->Q .normal F aB):
  bL (b.aM K) none [] YK.ntmps (hN [1,1,1,1,0,1,0,0,1,0] a4o) (bB [(5,ah k),(4,.f (.func mb) [] [aE c]),(3,aE c),(0,aE p)] z) τ Q:=by
 obtain⟨cE,eO,bK,eZ,nh,qt,pr,nP,xT,a4q,a4r⟩:=ed.ex;have H:Has τ [(c,[.al q 0 S.length none (some S.length)]),(q,S.map AV.b),(p,[cG T,cE,eO])]:=((Has.nil.cons (h.k _ _ nh) aF).cons h.s (by simp;have:=ae.bt nh;omega)).cons h.v (by simp;have:=ae.bt nh;omega);have hx:T[k-1]? =some (T[k-1]'U):=fw U;have ab:=ab _ hx;have x5:=c6.lt;have Bc:=c6.len;have SZ:linW T k S=cond (S[k-1]'U) ((T[k-1]'U).cs.foldl (nq T k) ((stF T k).foldl mh S)) S:=by
  unfold linW;rw[hx,yT,fw U];rfl
 have HD:=(qt.aP (τ:=τ) λi o _ ho=>h.k i o ho).vw;refine ak.block ?_;refine W.sq ?_;refine aj ?_;refine W.eR I I I I (m7 U) ?_;refine W.aA H I I I (.tail _ (.head _)) (Qj U) ?_;generalize hg:S[k-1]'U=t at SZ;cases t with
 |false=>
  refine aj ?_;refine ak.exit ?_;refine b6 _ _ dp ?_;rw[SZ];exact h
 |true=>
  have uD:fg J (bK[k-1]'U) (stF T k):=by
   have aO:=nP (k-1) U U;have e:(cS T)[k-1]'U=stF T (k-1+1):=(mQ (λi=>stF T (i+1))).trans (by rw[yn]);rw[e,show k-1+1=k by omega] at aO;exact aO
  have vg:(stF T k).length<2^20:=by
   have aO:=c6.blt _ (gC (show k-1<(cS T).length by omega));have e:(cS T)[k-1]'U=stF T (k-1+1):=(mQ (λi=>stF T (i+1))).trans (by rw[yn]);rw[e,show k-1+1=k by omega] at aO;exact aO
  refine aj ?_;refine W.an trivial I I I (GC hw.bW h U rP (uD.aP λi o _ ho=>h.k i o ho) (λi hi=>by have:=uD.lt hi;omega) (λn hn=>by have:=a4n n hn;omega) vg U) λr a9 ⟨e,h,bb,c8⟩=>⟨_,e,?_⟩
  refine W.nil (ak.norm [(5,ah k),(4,.f (.func mb) [] [aE c]),(3,aE c),(0,aE p)] dp λF=>?_);refine c5j hw ed c6 dP a4p rP h (by rw[rM];exact cQ) h1 ay hx ab λF bu b2 h3=>?_;refine b6 _ _ b2 ?_;rw[SZ];exact h3
def c5m(hw:LI b K){p:Nat}{T:List bg}{N:List (List Nat)}(ed:kS J p T (cS T) N)(c6:oD T (cS T))(dP:∀x∈T,x.op<2^20)(a7:1<=T.length)(ab:∀k x,1<=k->T[k-1]? =some x->oG k x.cs):
  bE (b.aM K) 0 (.f (.func PM) [] []) [aE p] J (λr τ=>∃q,r= .ok (.al q 0 T.length none (some T.length))/\τ.get q=some (.cells ((s_ T).map AV.b))/\J.next<=q/\dN J τ):=by
 refine W.code hw.w.e hw.w.p hw.w.f I I I I λz=>?_;obtain⟨cE,eO,bK,eZ,nh,qt,pr,nP,xT,a4q,a4r⟩:=ed.ex;have H:Has J [(p,[cG T,cE,eO])]:=Has.nil.cons nh aF;have x5:=c6.lt;refine aj ?_;generalize mF:J.next=q;refine W.mk H mF U U I I I I λec cP H bx=>?_;refine W.jj (c:=[.al q 0 T.length none (some T.length)]) H cP I I I I I I λa9 c8 H bb=>?_;refine aj ?_;refine W.bK (c:=[ah T.length]) H c8 I I I λbu er H k3=>?_;have h:oP J (q+1) q (List.replicate T.length false) bu:=⟨by rw[qk];exact H.get _ (.tail _ (.head _)),by rw[Ry];exact H.get _ (.tail _ (.tail _ (.head _))),λi o ho=>k3 _ _ (bb _ _ (bx _ _ ho)),U⟩
 have rP:J.next<=q:=by omega
 refine W.an trivial I I I (GC hw.bW h U rP (v:=.al (q+1+1) 0 1 none (some 1)) (l:=[T.length]) (.al (q+1+1) (some 1) [ah T.length] [] (H.get _ (.head _)) (λy hy=>by rw[uT.1 hy];rfl) (.inr I)) (λi hi=>by cases hi;omega) (λn hn=>by rw[uT.1 hn,qk];omega) (by show 1<_;decide) (by rw[qk];exact x5)) λr cm ⟨e,h,b1,e_⟩=>⟨_,e,?_⟩
 have H:Has cm [(p,[cG T,cE,eO])]:=Has.nil.cons (h.k _ _ nh) aF;refine aj ?_;refine ak.block (ak.loop (λm F τ=>∃j,j+m=T.length/\oP J (q+1) q (wanD T j) τ/\sat [(5,ah m),(4,.f (.func mb) [] [aE (q+1)]),(3,aE (q+1)),(0,aE p)] F) (λm F τ aW=>?_) T.length ⟨0,U,h,rfl,rfl,rfl,rfl,trivial⟩);obtain⟨j,d0v,h,ao⟩:=aW;refine ak.norm [(5,ah m),(4,.f (.func mb) [] [aE (q+1)]),(3,aE (q+1)),(0,aE p)] ao λF=>?_;by_cases hm:m=0
 ·subst hm;refine aj ?_;refine ak.exit ?_;show bL _ _ _ _ _ _ _ _;have H:Has τ [(q+1,[.al q 0 (wanD T j).length none (some (wanD T j).length)])]:=Has.nil.cons h.v aF;refine aj ?_;obtain rfl:j=T.length:=by omega
  refine ak.ret ⟨rfl,q,?_,h.s,bs _,by have:=h.n;omega,h.k⟩;show en.ok (.al q 0 (wanD T T.length).length none (some (wanD T T.length).length))=_;rw[LH]
 ·refine W.sq (W.sq (W.rg ?_));refine e5 ?_;refine W.nil (W.lL I (ak.skip ?_));refine ak.seq ?_;refine ak.norm [(5,ah m),(4,.f (.func mb) [] [aE (q+1)]),(3,aE (q+1)),(0,aE p)] dp λF=>?_;refine c5l hw ed c6 dP U rP h LH U U (λx hx=>ab m x U hx) λF dg b2 bI=>?_;refine ak.norm [(5,ah m),(4,.f (.func mb) [] [aE (q+1)]),(3,aE (q+1)),(0,aE p)] b2 λF=>?_;have H:Has dg []:=Has.nil;refine aj ?_;refine⟨m-1,U,j+1,U,?_,rfl,rfl,rfl,rfl,trivial⟩;rw[wanD,show T.length-j=m by omega];exact bI
end
def pF(T:List bg)(k:Nat)(num:List Nat)(cs:List (Nat×Nat)):List (Nat×Nat):=cs.map λac=>(num.getD (cond (hJ T (cS T) k ac.1 ac.2) ac.1 ac.2) 0,num.getD ac.2 0)
def cutS(T:List bg):Nat->List Nat×List bg
 |0=>(List.replicate (T.length+1) 0,[])
 |i+1=>match T[i]? with
  |some x=>cond ((s_ T).getD i false) ((cutS T i).1.set (i+1) ((cutS T i).2.length+1),(cutS T i).2++[{x with cs:=pF T (i+1) (cutS T i).1 x.cs}]) (cutS T i)
  |none=>cutS T i
def ya(T:List bg):List bg:=(cutS T T.length).2
def S0{T:List bg}:∀ {i:Nat},(cutS T i).1.length=T.length+1/\(cutS T i).2.length<=i
 |0=>⟨qk,bs _⟩
 |i+1=>by
  have aH:=S0 (T:=T) (i:=i);unfold cutS;split
  ·cases(s_ T).getD i false with
   |true=>rw[cond_true];exact⟨by rw[ib];exact aH.1,by rw[dv];show _+1<=_;omega⟩
   |false=>exact⟨aH.1,by rw[cond_false];omega⟩
  ·exact⟨aH.1,U⟩
abbrev bg.F(x:bg):AV:=.R [ah x.br,ah x.op,.b x.hyp,fa x.f.op,.s x.f.name,gG false x.f.fl,gp false x.f.e4,.s x.c2,hI false x.cs]
abbrev wq(L:List bg):AV:=.a_ false (some 9) (L.map bg.F)
abbrev qE(c:Nat×Nat):AV:=.R [ah c.1,ah c.2]
inductive An(W:Nat->Prop)(J:ae)(x:bg):AV->Prop
 |mk (cv:AV) (ab:h_ W J (some 2) cv (x.cs.map qE)):An W J x (.R [ah x.br,ah x.op,.b x.hyp,fa x.f.op,.s x.f.name,gG false x.f.fl,gp false x.f.e4,.s x.c2,cv])
def An.aP{W W':Nat->Prop}{J τ:ae}{x:bg}{v:AV}(h:An W J x v)(k:∀i c,W i->J.get i=some (.cells c)->W' i/\τ.get i=some (.cells c)):An W' τ x v:=by
 cases h with
 |mk cv ab=>exact .mk cv (ab.aP k)
def a4t{J:ae}{n:Nat}:∀(l:List (Nat×Nat)),mapO (freeze J 0 (n+2)) (l.map qE)=some (l.map qE)
 |[]=>rfl
 |c::l=>by rw[uW,mapO_cons,a4t l];rfl
def h_.Fo{W:Nat->Prop}{J:ae}{v:AV}{l:List (Nat×Nat)}{n:Nat}(h:h_ W J (some 2) v (l.map qE)):freeze J 0 (n+3) v=some (hI false l):=by
 have hm:=a4t (J:=J) (n:=n) l;unfold hI;generalize l.map qE=xs at h hm;cases h with
 |nil=>rfl
 |al o cap xs rest hW hg ab ay a7=>
  rw[(Sl.al (aa:=some 2) o cap xs rest hg ab ay).freeze hm];cases xs with
  |nil=>exact absurd I a7
  |cons x l=>rfl
 |a_ xs ab a7=>
  cases xs with
  |nil=>exact absurd I a7
  |cons x l=>rfl
def An.Fo{W:Nat->Prop}{J:ae}{x:bg}{v:AV}(h:An W J x v){n:Nat}:freeze J 0 (n+5) v=some x.F:=by
 cases h with
 |mk cv ab=>
  rw[freeze_succ];show(match mapO (freeze J 0 (n+4)) _ with|none=>none|some l=>some (AV.R l))=_;have h1:freeze J 0 (n+4) (gG false x.f.fl)=some (gG false x.f.fl):=by cases x.f.fl<;>rfl
  have h2:freeze J 0 (n+4) (gp false x.f.e4)=some (gp false x.f.e4):=by cases x.f.e4<;>rfl
  rw[mapO_cons,mapO_cons,mapO_cons,mapO_cons,mapO_cons,mapO_cons,mapO_cons,mapO_cons,mapO_cons,h1,h2,ab.Fo (n:=n+1)];rfl
structure yb(J:ae)(q u:Nat)(T:List bg)(w:AV)(i:Nat)(τ:ae):Prop where
 ay:∀i o,J.get i=some o->τ.get i=some o
 aV:τ.get q=some (.cells ((s_ T).map AV.b))
 hu:τ.get u=some (.cells ((cutS T i).1.map ah))
 km:∃km,Sl τ (some 9) w km/\km.length=(cutS T i).2.length/\∀j (h:j<km.length) (h':j<(cutS T i).2.length),An (λi=>i≠u/\w.at? ≠some i) τ (cutS T i).2[j] km[j]
 cY:∀o,w.at? =some o->u<o
 hn:u<τ.next
def yb.hM{J:ae}{q u:Nat}{T:List bg}{w:AV}{i:Nat}{τ aB:ae}(h:yb J q u T w i τ)(M:dN τ aB):yb J q u T w i aB:=by
 obtain⟨km,h1,h2,h3⟩:=h.km;exact⟨λi o ho=>M.2 _ _ (h.ay i o ho),M.2 _ _ h.aV,M.2 _ _ h.hu,⟨km,h1.aP λi o _=>M.2 i o,h2,λj a b=>(h3 j a b).aP λi c hi ab=>⟨hi,M.2 _ _ ab⟩⟩,h.cY,by have:=M.1;have:=h.hn;omega⟩
def a4u{l:List Nat}{n:Nat}(h:n<l.length):dV none ((l.map ah).drop (0+n*shN none))=some (ah (l.getD n 0)):=by
 have e:0+n*shN none=n:=by show 0+n*1=n;omega
 rw[e,← C3,P5 h,yT,fw h];rfl
def c5n{l:List Nat}{n m:Nat}(h:n<l.length):storeCells (l.map ah) (0+n*shN none) (ah m).cells=some ((l.set n m).map ah):=by
 have e:0+n*shN none=n:=by show 0+n*1=n;omega
 rw[e];unfold storeCells;rw[if_pos (iR (by show n+1<=_;rw[uV];omega))];show some ((l.map ah).take n++([ah m]++(l.map ah).drop (n+1)))=_;rw[P6,if_pos h];simp
def a4v:bF:=match Yx.body with|some c=>c|none=>.skip
abbrev uQ(p q u i:Nat)(T:List bg)(w:AV):List (Nat×AV):=[(31,ah i),(30,ah T.length),(29,cG T),(8,w),(7,.al u 0 (T.length+1) none (some (T.length+1))),(6,.al q 0 T.length none (some T.length)),(4,aE p),(0,cG T)]
section
variable {b:bT}{K:Nat->List AV->AV->Prop}{J τ:ae}{p q u i:Nat}{T:List bg}{w:AV}
def c5o(hf:lQ b K){N:List (List Nat)}(ed:kS J p T (cS T) N)(c6:oD T (cS T))(h:yb J q u T w i τ){x:bg}(hi:i<T.length)(ab:oG (i+1) x.cs){m:Nat}{lc:List AV}(hm:u<m)(d0w:w.at? ≠some m)(a4w:q≠m)(hl:τ.get m=some (.cells lc))(c5p:dV none (lc.drop 8)=some (hI true x.cs)){z:Nat->AV}{Q:dZ}
  (b6:∀F aB cv,sat ((11,cv)::(10,aE m)::(9,ah i)::uQ p q u i T w) F->dN τ aB->h_ (λo=>m<o) aB (some 2) cv ((pF T (i+1) (cutS T i).1 x.cs).map qE)->Q .normal F aB):
  bL (b.aM K) none [] Yx.ntmps (hN [1,1,1,1,1,1,0,1,0,0,1,1,0,0,1,1,1,0] a4v) (bB ((11,.af)::(10,aE m)::(9,ah i)::uQ p q u i T w) z) τ Q:=by
 have H:Has τ [(m,lc)]:=Has.nil.cons hl aF;have gj:=ab.1;have tE:=(S0 (T:=T) (i:=i)).1;have x5:=c6.lt;have hu:=h.hn;refine W.sq ?_;refine aj ?_;refine W.aA H I I I (.head _) c5p ?_;refine aj ?_;show bL _ _ _ _ _ _ _ _;generalize Fb:(cutS T i).1=num at tE b6;refine ak.each x.cs.length (λj F aB=>∃cv,dN τ aB/\Sl aB (some 2) cv ((pF T (i+1) num (x.cs.take j)).map qE)/\(x.cs.take j=[]->cv= .af)/\(∀o,cv.at? =some o->τ.next<=o)/\sat ((42,hI true x.cs)::(11,cv)::(10,aE m)::(9,ah i)::uQ p q u i T w) F) U ⟨.af,⟨bs _,λ_ _ h=>h⟩,.nil,(λ_=>rfl),(λ_ h=>by cases h),rfl,rfl,rfl,rfl,rfl,rfl,rfl,rfl,rfl,rfl,rfl,rfl,trivial⟩ rfl rfl (λj F aB ax aW r5 zV=>?_) (λF aB aW r5=>?_)
 ·obtain⟨cv,M,mf,n7,mw,ao⟩:=aW;have h0:=h;have h:=h.hM M;have hl:=M.2 _ _ hl;refine ak.norm ((44,ah j)::(43,ah x.cs.length)::(42,hI true x.cs)::(11,cv)::(10,aE m)::(9,ah i)::uQ p q u i T w) ⟨r5,zV,ao⟩ λF=>?_;have H:Has aB [(m,lc)]:=Has.nil.cons hl aF;obtain⟨ha,eH,h5⟩:=ab.2 _ (gC ax);have iq:pF T (i+1) num (x.cs.take (j+1))=pF T (i+1) num (x.cs.take j)++pF T (i+1) num [x.cs[j]]:=by unfold pF;rw[lO ax,hQ]
  have c5q:x.cs.take (j+1)≠[]:=λe=>by have:=congrArg List.length e;simp only[fe,lg] at this;omega
  refine aj ?_;generalize x.cs[j]=ac at ha eH h5 iq;obtain⟨a,d⟩:=ac;simp only[] at ha eH h5;generalize iC:aB.next=k;refine W.jj (c:=[ah a,ah d]) H iC I I I I I I λa9 c8 H bb=>?_;have h:=h.hM (aB:=a9) ⟨U,bb⟩;refine aj ?_;refine W.an trivial I I I (Km hf (ed.aP h.ay) c6 (i+1) a d ha eH h5 U) λr bu ⟨e,ee⟩=>⟨_,e,?_⟩
  have h:=h.hM ee;have H:=H.aP ee.2;have mf:=mf.aP (τ:=bu) λi o _ ho=>ee.2 _ _ (bb _ _ ho);refine W.nil ?_;refine W.Fc (α:=Unit) (λ_=>(14,ah (cond (hJ T (cS T) (i+1) a d) a d))::(13,aE k)::(44,ah j)::(43,ah x.cs.length)::(42,hI true x.cs)::(11,cv)::(10,aE m)::(9,ah i)::uQ p q u i T w) (λ_ τ=>bu=τ) ?_ ?_
  ·cases hJ T (cS T) (i+1) a d with
   |true=>
    refine aj ?_;exact⟨rfl,(),rfl,rfl,rfl,rfl,rfl,rfl,rfl,rfl,rfl,rfl,rfl,rfl,rfl,rfl,rfl,rfl,rfl,trivial⟩
   |false=>
    refine aj ?_;exact⟨rfl,(),rfl,rfl,rfl,rfl,rfl,rfl,rfl,rfl,rfl,rfl,rfl,rfl,rfl,rfl,rfl,rfl,rfl,trivial⟩
  rintro _ F _ rfl;have w6:cond (hJ T (cS T) (i+1) a d) a d<num.length:=by cases hJ T (cS T) (i+1) a d<;>simp only[cond_true,cond_false]<;>omega
  have ko:d<num.length:=by omega
  have CN:=h.hu;rw[Fb] at CN;have ay:=H.get _ (.head _);have HB:hK bu [(u,num.map ah),(k,[ah a,ah d])]:=(hK.nil.cons ay).cons CN;refine W.wb [(u,num.map ah),(k,[ah a,ah d])] [12] 14 I I ?_;refine fO ?_;refine W.eR I I I I (m7 U) ?_;refine W.rI CN (.head _) I I I I (a4u w6) (ev I) ?_;refine fO ?_;refine W.eR I I I I (m7 U) ?_;refine W.rI CN (.head _) I I I I (a4u ko) (ev I) ?_;refine fO ?_;generalize n9:bu.next=k3;have KZ:k<k3:=by have:=ae.bt ay;omega
  refine W.bK (c:=[ah (num.getD (cond (hJ T (cS T) (i+1) a d) a d) 0),ah (num.getD d 0)]) H n9 I I I λcm e_ H b1=>?_;refine W.mO (HB.aP b1) I ?_;have hb:=H.get _ (.head _);have hlen:((pF T (i+1) num (x.cs.take j)).map qE).length=j:=by unfold pF;rw[uV,uV,fe];omega
  refine W.ap (w:=.al k3 0 1 (some 2) (some 1)) (qE (num.getD (cond (hJ T (cS T) (i+1) a d) a d) 0,num.getD d 0)) [] (mf.aP λi o _ ho=>b1 i o ho) ?_ (λz a6=>by rw[uT.1 a6];rfl) (by rw[hlen];show(3*(j+1)+2000)*16<=_;omega) I I I I λbR dg aX bc cq iW c9=>?_
  ·show(match cm.get k3 with|some (.cells c)=>elems (some 2) 1 (c.drop 0)|_=>none)=_;rw[hb];rfl
  refine fO ?_;have c5r:∀i o,cv.at? ≠some i->bu.get i=some o->dg.get i=some o:=λi o hi ho=>c9 _ _ hi (b1 _ _ ho);refine⟨rfl,rfl,bR,⟨by have:=ee.1;have:=M.1;omega,λi o ho=>c5r _ _ (λe=>by have:=mw _ e;have:=ae.bt ho;omega) (ee.2 _ _ (bb _ _ (M.2 _ _ ho)))⟩,?_,λe=>absurd e c5q,λo ho=>by rw[bc] at ho;cases ho;have:=ee.1;have:=M.1;omega,rfl,rfl,rfl,rfl,rfl,rfl,rfl,rfl,rfl,rfl,rfl,rfl,trivial⟩;rw[iq,hQ];exact aX
 ·obtain⟨cv,M,mf,n7,mw,_,ao⟩:=aW;rw[B0] at mf n7;refine b6 _ _ cv ao M ?_;have d0x:=ae.bt hl;cases hx:x.cs with
  |nil=>rw[n7 hx];exact .nil
  |cons y l=>
   rw[hx] at mf;generalize dG:(pF T (i+1) num (y::l)).map qE=xs at mf;cases mf with
   |nil=>simp[pF] at dG
   |al o cap xs rest hg ab ay=>exact .al o cap xs rest (by have:=mw o I;omega) hg ab ay (λe=>by subst e;simp[pF] at dG)
end
section
variable {b:bT}{K:Nat->List AV->AV->Prop}{J τ:ae}{p q u i:Nat}{T:List bg}{w:AV}(hfn:∀g aQ r b5,K g aQ r->K g aQ b5->r=b5)
include hfn
theorem c5s(hf:lQ b K)(rL:b.ext ma=0/\b.pure ma=true)(m5:∀x∈T,K ma [x.f.A true] (x.f.A false))(lp:∀x∈T,x.f.dep<=200){N:List (List Nat)}(ed:kS J p T (cS T) N)(c6:oD T (cS T))(d0y:q<u)(d0z:J.next<=u)(bI:T.length<=500)(h:yb J q u T w i τ)(hi:i<T.length)(ab:∀x,T[i]? =some x->oG (i+1) x.cs){z:Nat->AV}{Q:dZ}
  (b6:∀F aB av,sat (uQ p q u i T av) F->yb J q u T av (i+1) aB->Q .normal F aB):
  bL (b.aM K) none [] Yx.ntmps (hN [1,1,1,1,1,1,0,1,0,0,1,1,0] a4v) (bB (uQ p q u i T w) z) τ Q:=by
 have hx:T[i]? =some T[i]:=fw hi;have xR:T[i]∈T:=gC hi;have ab:=ab _ hx;have m5:=m5 _ xR;have lp:=lp _ xR;have d0A:(s_ T).length=T.length:=LH;have LJ:cutS T (i+1)=cond ((s_ T)[i]'U) ((cutS T i).1.set (i+1) ((cutS T i).2.length+1),(cutS T i).2++[{T[i] with cs:=pF T (i+1) (cutS T i).1 T[i].cs}]) (cutS T i):=by
  rw[cutS,hx,yT,fw U];rfl
 have H:Has τ [(q,(s_ T).map AV.b)]:=Has.nil.cons h.aV aF;refine ak.block ?_;refine W.sq ?_;refine aj ?_;generalize T[i]=x at hx xR ab m5 lp LJ;have h0:=h;generalize mF:τ.next=m;have hu:=h.hn;refine W.cC (c:=[ah 0,ah 0,.b false,.i .u8 0,.s [],.af,.af,.s [],.af]) H mF I I I λec cP H bx=>?_;refine aj ?_;refine W.st (bD:=[ah x.br,ah x.op,.b x.hyp,fa x.f.op,.s x.f.name,gG true x.f.fl,gp true x.f.e4,.s x.c2,hI true x.cs]) H 0 I I I I I I λa9 c8 H bb=>?_;have ea:∀i o,τ.get i=some o->a9.get i=some o:=λi o ho=>bb _ _ (by have:=ae.bt ho;omega) (bx _ _ ho);have h:=h.hM (aB:=a9) ⟨U,ea⟩;refine aj ?_;refine W.eR I I I I (m7 hi) ?_;refine W.aA H I I I (.tail _ (.head _)) (Qj U) ?_;generalize hg:(s_ T)[i]'U=t at LJ;cases t with
 |false=>
  refine aj ?_;refine ak.exit ?_;refine b6 _ _ w dp ?_;have e:cutS T (i+1)=cutS T i:=LJ;obtain⟨km,aX,bc,cq⟩:=h.km;exact⟨h.ay,h.aV,by rw[e];exact h.hu,⟨km,aX,by rw[e];exact bc,λj eF dE=>by
   have dW:=dE;rw[e] at dW;have:=cq j eF dW;simp only[e];exact this⟩,h.cY,h.hn⟩
 |true=>
  refine e5 ?_;refine W.nil (W.lM I (ak.skip ?_));refine W.sq (W.rg ?_);refine e5 ?_;refine W.nil (ak.seq ?_);refine ak.norm ((11,.af)::(10,aE m)::(9,ah i)::uQ p q u i T w) dp λF=>?_;have a4x:w.at? ≠some m:=λe=>by
   obtain⟨km,aX,_⟩:=h0.km;have:=aX.lt e;omega
  have D6:q≠m:=by omega
  refine c5o hf ed c6 h hi ab U a4x D6 (H.get _ (.head _)) I λF bu cv b2 ee mf=>?_;have hl:=ee.2 _ _ (H.get _ (.head _));refine ak.norm ((11,cv)::(10,aE m)::(9,ah i)::uQ p q u i T w) b2 λF=>?_;clear H;have H:Has bu [(m,[ah x.br,ah x.op,.b x.hyp,fa x.f.op,.s x.f.name,gG true x.f.fl,gp true x.f.e4,.s x.c2,hI true x.cs])]:=Has.nil.cons hl aF;obtain⟨sl,sy,pk⟩:=mf.one;rw[sW] at m5;refine W.sq ?_;refine aj ?_;refine W.e3 hfn rL m5 I I I (k_ (by show bM bu (b.bp+1000) (.R (bN x.f))=_;rw[<-jk];exact Fm.snap bu true _ _ _ (bs _) U)) ?_;refine aj ?_;refine W.st (bD:=[ah x.br,ah x.op,.b x.hyp,fa x.f.op,.s x.f.name,gG false x.f.fl,gp false x.f.e4,.s x.c2,hI true x.cs]) H 0 I I I I I I λcm e_ H b1=>?_;refine aj ?_;refine W.st (bD:=[ah x.br,ah x.op,.b x.hyp,fa x.f.op,.s x.f.name,gG false x.f.fl,gp false x.f.e4,.s x.c2,cv]) H 0 I I I I pk (by rw[sl];rfl) λdg iW H c9=>?_;refine aj ?_;obtain⟨km,ao,mu,wu⟩:=h0.km;have t3:∀i o,τ.get i=some o->bu.get i=some o:=λi o ho=>ee.2 _ _ (ea _ _ ho);have Vg:=ao;have ao:=ao.aP λi o _ ho=>t3 i o ho;have h:=h.hM ee;have nw:=h.cY;have gj:=(S0 (T:=T) (i:=i))
  have d0B:=h.hn;have dm:∀i o,i≠m->bu.get i=some o->dg.get i=some o:=λi o hi ho=>c9 _ _ hi (b1 _ _ hi ho);have c5t:∀o,w.at? =some o->o≠m:=λo e a5=>a4x (a5▸e);refine W.pu (c:=[ah x.br,ah x.op,.b x.hyp,fa x.f.op,.s x.f.name,gG false x.f.fl,gp false x.f.e4,.s x.c2,cv]) (.R [ah x.br,ah x.op,.b x.hyp,fa x.f.op,.s x.f.name,gG false x.f.fl,gp false x.f.e4,.s x.c2,cv]) (ao.aP λi o hi ho=>dm i o (c5t i hi) ho) I I I I I I I I I (by rw[mu];omega) λav eA aX bc cq jf et=>?_;have gU:∀i o,i≠m->w.at? ≠some i->bu.get i=some o->eA.get i=some o:=λi o h1 h2 ho=>et _ _ h2 (dm i o h1 ho);have c5u:w.at? ≠some u:=λe=>by have:=nw u e;omega
  have c5v:=gU u _ U c5u h.hu;have H:Has eA [(u,(cutS T i).1.map ah)]:=Has.nil.cons c5v aF;have hlen:(km++[AV.R [ah x.br,ah x.op,.b x.hyp,fa x.f.op,.s x.f.name,gG false x.f.fl,gp false x.f.e4,.s x.c2,cv]]).length=(cutS T i).2.length+1:=by rw[dv,mu];rfl
  refine aj ?_;refine W.len I I I aX.len ?_;rw[hlen];refine aj ?_;refine W.eR I I I I (m7 U) ?_;refine W.st H 0 I I I I I (c5n U) λeW k6 H gk=>?_;refine aj ?_;have e:cutS T (i+1)=((cutS T i).1.set (i+1) ((cutS T i).2.length+1),(cutS T i).2++[{x with cs:=pF T (i+1) (cutS T i).1 x.cs}]):=LJ;have a4m:τ.next<=m:=by omega
  have y9:m<bu.next:=ae.bt hl;have hH:∀i o,i≠m->i≠u->w.at? ≠some i->bu.get i=some o->eW.get i=some o:=λi o h1 h2 h3 ho=>gk _ _ h2 (gU i o h1 h3 ho);have LK:∀o,av.at? =some o->bu.next<=o:=λo ho=>by rw[bc] at ho;cases ho;omega
  refine b6 _ _ av dp ⟨λi o ho=>?_,?_,?_,⟨_,aX.aP λi o hi ho=>gk _ _ (λe=>by have:=LK i hi;omega) ho,by rw[hlen,e,dv];rfl,λj eF dE=>?_⟩,λo ho=>by have:=LK o ho;omega,U⟩
  ·have h1:=ae.bt (h0.ay _ _ ho);have h2:=ae.bt ho;exact hH _ _ U U (λe=>by have:=nw i e;omega) (h.ay _ _ ho)
  ·exact hH _ _ D6 U (λe=>by have:=nw q e;omega) h.aV
  ·rw[e];exact H.get _ (.head _)
  ·have dW:=dE;rw[e] at dW;simp only[e];by_cases ax:j<km.length
   ·rw[cM ax,cM U];exact(wu j ax U).aP λi c hi ab=>by
     have h1:=ae.bt ab;exact⟨⟨hi.1,λe=>by have:=LK i e;omega⟩,hH _ _ U hi.1 hi.2 (t3 _ _ ab)⟩
   ·have gK:j=km.length:=by rw[hlen] at eF;omega
    subst gK;rw[iw U,iw U];simp only[List.getElem_singleton];refine .mk cv (mf.aP λi c hi ab=>?_);have h1:=ae.bt ab;exact⟨⟨U,λe=>by have:=LK i e;omega⟩,hH _ _ U U (λe=>by have:=Vg.lt e;omega) ab⟩
theorem c5w(hw:LI b K)(ho:Kw b K){T:List bg}(cW:zQ b K T)(rL:b.ext ma=0/\b.pure ma=true)(m5:∀x∈T,K ma [x.f.A true] (x.f.A false))(lp:∀x∈T,x.f.dep<=200)(a7:ya T≠[])(body:bF)(hb:Yx.body=some body):ak (b.aM K) Yx.ntmps body (fv [cG T]) ⟨.nil,0⟩ (uv Yx.results (.a0 [wq (ya T),ah 0])):=by
 cases hb;refine W.jD λz H=>?_;have bI:=cW.le;refine aj ?_;refine W.an trivial I I I (Qw hfn hw.f ho.op ho.aQ ho.QC cW.kU cW.ne cW.le cW.g3 ho.gx cW.zR cW.kv cW.uy) λr τ ⟨p,e,ch,_,M⟩=>⟨_,e,?_⟩
 refine aj ?_;refine W.an trivial I I I (c5m hw ch.xK cW.kv (λx hx=>by have:=cW.kU.num x hx;omega) cW.ne (λk x h1 hx=>cW.uy k x hx h1)) λr a9 ⟨q,e,aV,wi,M2⟩=>⟨_,e,?_⟩
 have H:=H.aP λi o ho=>M2.2 _ _ (M.2 i o ho);refine aj ?_;generalize hu:a9.next=u;refine W.mk H hu U U I I I I λbu er H k3=>?_;refine aj ?_;show bL _ _ _ _ _ _ _ _;have RN:=ae.bt aV;have h0:yb a9 q u T .af 0 bu:=⟨k3,k3 _ _ aV,by show _=some (AO.cells ((List.replicate (T.length+1) 0).map ah));rw[Ry];exact H.get _ (.head _),⟨[],.nil,rfl,λj h=>by simp at h⟩,λo h=>(by cases h),U⟩
 refine ak.each T.length (λi F aB=>∃w,yb a9 q u T w i aB/\sat [(29,cG T),(8,w),(7,.al u 0 (T.length+1) none (some (T.length+1))),(6,.al q 0 T.length none (some T.length)),(4,aE p),(0,cG T)] F) U ⟨.af,h0,rfl,rfl,rfl,rfl,rfl,rfl,trivial⟩ I I (λi F aB hi aW r5 hm=>?_) (λF aB aW r5=>?_)
 ·obtain⟨w,h,a4y,gM,hH,gU,cX,c5,_⟩:=aW;refine ak.norm (uQ p q u i T w) ⟨r5,hm,a4y,gM,hH,gU,cX,c5,trivial⟩ λF=>?_;refine c5s hfn hw.f rL m5 lp (ch.xK.aP M2.2) cW.kv U U bI h hi (λx hx=>cW.uy (i+1) x hx U) λF cm av b2 aO=>?_;obtain⟨c5x,c5y,b2⟩:=b2;exact⟨c5x,c5y,av,aO,b2⟩
 ·obtain⟨w,h,a4y,gM,hH,gU,cX,c5,_⟩:=aW;refine ak.norm [(8,w)] ⟨gM,trivial⟩ λF=>?_;have H:Has aB []:=Has.nil;obtain⟨km,ao,mu,wu⟩:=h.km;refine aj ?_;refine ak.ret ⟨rfl,_,rfl,?_⟩;have mu:km.length=(ya T).length:=mu;have Gh:km≠[]:=λe=>a7 (Rv.1 (by rw[<-mu,e];rfl));have hfz:=ao.freeze (n:=998) (bf:=(ya T).map bg.F) (zP (by rw[uV,mu]) λi h1 h2=>by
   rw[uV] at h2;rw[mQ];exact(wu i h1 h2).Fo (n:=993))
  rw[freeze_succ];show(match mapO (Go.Lyc.freeze aB 0 999) [w,ah 0] with|none=>none|some l=>some (AV.a0 l))=_;rw[mapO_cons,hfz];unfold Ch;cases ao with
  |nil=>exact absurd I Gh
  |al o cap xs rest hg ab ay=>rfl
end
end
section
variable [Tok][TokOk]
open Go.RowKit Go.Lyc.T
section
variable {T:List bg}{S:List Bool}{i:Nat}
def LU{n:Nat}(h:S[i]? =some true):(mh S n)[i]? =some true:=by
 obtain⟨hi,_⟩:=jK.1 h;unfold mh;rw[Rz];split
 ·rw[if_pos U]
 ·exact h
def Tf:∀ {l:List Nat} {S:List Bool},S[i]? =some true->(l.foldl mh S)[i]? =some true
 |[],_,h=>h
 |_::l,_,h=>Tf (l:=l) (LU h)
def c6P{k:Nat}{ac:Nat×Nat}(h:S[i]? =some true):(nq T k S ac)[i]? =some true:=by
 unfold nq;cases hJ T (cS T) k ac.1 ac.2 with
 |true=>exact Tf (LU (LU h))
 |false=>exact LU h
def a5e{k:Nat}:∀ {l:List (Nat×Nat)} {S:List Bool},S[i]? =some true->(l.foldl (nq T k) S)[i]? =some true
 |[],_,h=>h
 |_::l,_,h=>a5e (l:=l) (c6P h)
def c6Q{k:Nat}(h:S[i]? =some true):(linW T k S)[i]? =some true:=by
 unfold linW;split
 ·cases S.getD (k-1) false with
  |true=>exact a5e (Tf h)
  |false=>exact h
 ·exact h
def a5f(a7:T≠[]):∀j,(wanD T j)[T.length-1]? =some true
 |0=>by
  have:=pM.2 a7;unfold wanD mh;rw[Rz,if_pos I,qk,if_pos U]
 |j+1=>c6Q (a5f a7 j)
def c6R(a7:T≠[]):ya T≠[]:=by
 have aw:=pM.2 a7;obtain⟨n,hn⟩:∃n,T.length=n+1:=⟨T.length-1,U⟩
 unfold ya;have hw:=a5f a7 T.length;rw[hn,Cr] at hw;have hw:(s_ T)[n]? =some true:=by unfold s_;rw[hn];exact hw
 rw[hn];unfold cutS;rw[fw (show n<T.length by omega)];simp only[];rw[yT,hw];simp
def LV:∀ {i:Nat} {x:bg},x∈(cutS T i).2->∃y∈T,x.f=y.f
 |0,x,h=>by simp[cutS] at h
 |i+1,x,h=>by
  unfold cutS at h;cases hy:T[i]? with
  |none=>rw[hy] at h;exact LV (i:=i) h
  |some y=>
   rw[hy] at h;simp only[] at h;cases hw:(s_ T).getD i false with
   |false=>rw[hw] at h;exact LV (i:=i) h
   |true=>
    rw[hw,cond_true] at h;rcases tl.1 h with h|h
    ·exact LV (i:=i) h
    ·rw[uT.1 h];exact⟨y,fL hy,rfl⟩
end
def GL(F:Fm):Prop:=∀n,100<=n->∀v∈F.cells false,fk n v=true/\AV.eqb n v v=true
def Tg{a:PF}(ha:a.dep<=40){n:Nat}(hn:90<=n):∀v∈a.aG.cells false,fk n v=true/\AV.eqb n v v=true:=λv au=>by
 refine⟨?_,SV _ a (bs _) U v au⟩;have h:=Lz _ a (n:=n+1) (bs _) U;rw[<-sW,mG] at h;exact lJ h v au
def c6S{a:PF}(ha:a.dep<=40):GL a.aG:=λn hn=>Tg ha U
def c6U(l:List (Nat×Nat)){n:Nat}:fk (n+3) (hI false l)=true/\AV.eqb (n+3) (hI false l) (hI false l)=true:=by
 cases l with
 |nil=>exact⟨rfl,rfl⟩
 |cons c l=>
  refine⟨?_,xW (n:=n+2) λy hy=>?_⟩
  ·show fk (n+3) (.a_ false (some 2) ((c::l).map qE))=true;rw[show n+3=n+2+1 from rfl,mG];show(true&&cD (λx=>cD (fk (n+2)) x.cells) ((c::l).map qE))=true;rw[oq];refine ig λy hy=>?_;obtain⟨d,_,rfl⟩:=ti.1 hy;rfl
  ·obtain⟨d,_,rfl⟩:=ti.1 (show y∈(c::l).map qE from hy);refine sX (n:=n+1) λz a6=>?_;simp only[dB,NQ,or_false] at a6;rcases a6 with rfl|rfl<;>exact ev I
def a5g{x:bg}(h:GL x.f){n:Nat}(hn:100<=n):∀v∈x.F.cells,fk n v=true/\AV.eqb n v v=true:=λv au=>by
 obtain⟨n,rfl⟩:∃m,n=m+3:=⟨n-3,U⟩
 have hf:=h (n+3) U;have au:v∈[ah x.br,ah x.op,.b x.hyp]++(x.f.cells false++[.s x.c2,hI false x.cs]):=by
  have e:x.f.cells false=[fa x.f.op,.s x.f.name,gG false x.f.fl,gp false x.f.e4]:=by
   have:=sW (F:=x.f);injection this
  rw[e];exact au
 rcases tl.1 au with au|au
 ·simp only[dB,NQ,or_false] at au;rcases au with rfl|rfl|rfl<;>exact⟨rfl,ev I⟩
 ·rcases tl.1 au with au|au
  ·exact hf v au
  ·simp only[dB,NQ,or_false] at au;rcases au with rfl|rfl
   ·exact⟨rfl,ev I⟩
   ·exact c6U _
def c6V{T:List bg}(h:∀x∈T,GL x.f):fk 1000 (.a0 [wq T,ah 0])=true/\AV.eqb 1000 (.a0 [wq T,ah 0]) (.a0 [wq T,ah 0])=true:=by
 constructor
 ·rw[show(1000:Nat)=999+1 from rfl,mG];refine ig λy hy=>?_;have hy:y=wq T\/y=ah 0:=by simpa using hy
  rcases hy with rfl|rfl
  ·rw[show(999:Nat)=998+1 from rfl,mG];show((!false||_)&&cD (λx=>cD (fk 998) x.cells) (T.map bg.F))=true;rw[E4,uk,oq];refine ig λy hy=>?_;obtain⟨x,hx,rfl⟩:=ti.1 hy;exact ig λz a6=>(a5g (h x hx) bw z a6).1
  ·rfl
 ·refine(ov λy hy=>?_:fY (AV.eqb 999) [wq T,ah 0] [wq T,ah 0]=true);have hy:y=wq T\/y=ah 0:=by simpa using hy
  rcases hy with rfl|rfl
  ·refine xW (n:=998) λy hy=>?_;obtain⟨x,hx,rfl⟩:=ti.1 hy;exact sX (n:=997) λz a6=>(a5g (h x hx) bw z a6).2
  ·exact ev I
structure hP(T:List bg):Prop where
 g:nV T
 hh:∀x∈T,x.hyp=true->x.op=0->x.br=0
def rN(T:List bg)(k:Nat)(ac:Nat×Nat):List Nat:=cond (hJ T (cS T) k ac.1 ac.2) (ac.2::ac.1::iY T ac.1 (kr T k+1)) [ac.2]
def pG(T:List bg)(k:Nat)(x:bg):List Nat:=stF T k++x.cs.flatMap (rN T k)
abbrev gr(S:List Bool)(n:Nat):Prop:=1<=n/\S[n-1]? =some true
section
variable {T:List bg}{S:List Bool}
def LW{n m:Nat}(hn:1<=n):gr (mh S n) m↔gr S m\/(m=n/\n<=S.length):=by
 unfold mh;constructor
 ·rintro⟨h1,h⟩;rw[Rz] at h;by_cases e:n-1=m-1
  ·rw[if_pos e] at h;split at h
   ·exact .inr ⟨U,U⟩
   ·cases h
  ·rw[if_neg e] at h;exact .inl ⟨h1,h⟩
 ·rintro(⟨h1,h⟩|⟨rfl,h⟩)
  ·exact⟨h1,LU h⟩
  ·exact⟨hn,by rw[Rz,if_pos I,if_pos U]⟩
def Pl:∀ {l:List Nat} {S:List Bool} {m:Nat},(∀n∈l,1<=n/\n<=S.length)->(gr (l.foldl mh S) m↔gr S m\/m∈l)
 |[],S,m,_=>by simp
 |n::l,S,m,h=>by
  have hn:=h n aF;rw[Ha,Pl (l:=l) (S:=mh S n) λk ay=>by rw[GB];exact h k (by simp[ay]),LW hn.1];constructor
  ·rintro((h1|⟨h1,_⟩)|h1)
   ·exact .inl h1
   ·exact .inr (by simp[h1])
   ·exact .inr (by simp[h1])
  ·rintro(h1|h1)
   ·exact .inl (.inl h1)
   ·rcases dB.1 h1 with h1|h1
    ·exact .inl (.inr ⟨h1,hn.2⟩)
    ·exact .inr h1
def a0c{k:Nat}{ac:Nat×Nat}:nq T k S ac=(rN T k ac).foldl mh S:=by
 unfold nq rN;cases hJ T (cS T) k ac.1 ac.2<;>rfl
def Pn{k:Nat}:∀ {l:List (Nat×Nat)} {S:List Bool},l.foldl (nq T k) S=(l.flatMap (rN T k)).foldl mh S
 |[],_=>rfl
 |c::l,S=>by rw[Ha,Pn (l:=l),jY,KO,a0c]
def a0d{k:Nat}{x:bg}(hx:T[k-1]? =some x):linW T k S=cond (S.getD (k-1) false) ((pG T k x).foldl mh S) S:=by
 unfold linW pG;rw[hx];simp only[];rw[Pn,KO]
variable (h:hP T)
include h
theorem hP.pG{k:Nat}{x:bg}(h1:1<=k)(hx:T[k-1]? =some x):∀n∈pG T k x,1<=n/\n<=k/\(n=k->x.op≠0):=λn hn=>by
 have ay:=(jK.1 hx).1;have ab:=h.g.wk k x h1 hx;rcases tl.1 hn with hn|hn
 ·have:=a4n (T:=T) (i:=k) n hn;refine⟨this.1,this.2,λe=>?_⟩;subst e;obtain⟨m,rfl⟩:∃m,n=m+1:=⟨n-1,U⟩
  rw[Fh U] at hn;have FU:T[m]'U=x:=(jK.1 hx).2;rw[FU] at hn;unfold zK at hn;rcases tl.1 hn with hn|hn
  ·have:=a4n (T:=T) (i:=m) _ (uU hn);omega
  ·intro e;rw[e] at hn;simp at hn
 ·obtain⟨ac,eH,hn⟩:=Ay.1 hn;have eH:=ab.2 ac eH;unfold rN at hn;have:n=ac.2\/n=ac.1:=by
   cases hb:hJ T (cS T) k ac.1 ac.2 with
   |false=>rw[hb,cond_false] at hn;exact .inl (uT.1 hn)
   |true=>
    rw[hb,cond_true] at hn;rcases dB.1 hn with e|hn
    ·exact .inl e
    ·rcases dB.1 hn with e|hn
     ·exact .inr e
     ·rw[asm_one h.hh eH.1 U U] at hn;split at hn
      ·split at hn
       ·exact .inr (uT.1 hn)
       ·cases hn
      ·cases hn
  rcases this with rfl|rfl<;>exact⟨U,U,λe=>by omega⟩
theorem hP.F8{j m:Nat}(ax:j<T.length){x:bg}(hx:T[T.length-j-1]? =some x):gr (wanD T (j+1)) m↔gr (wanD T j) m\/(gr (wanD T j) (T.length-j)/\m∈Lyc.pG T (T.length-j) x):=by
 rw[wanD,a0d hx];have hm:=h.pG (k:=T.length-j) U hx;have hl:=LH (T:=T) (j:=j);cases ab:(wanD T j).getD (T.length-j-1) false with
 |true=>
  rw[cond_true,Pl λn hn=>by have:=hm n hn;omega];have:(wanD T j)[T.length-j-1]? =some true:=by
   rw[yT] at ab;cases hg:(wanD T j)[T.length-j-1]? with
   |none=>rw[hg] at ab;cases ab
   |some y=>rw[hg] at ab;exact congrArg some ab
  constructor
  ·rintro(h1|h1)
   ·exact .inl h1
   ·exact .inr ⟨⟨U,this⟩,h1⟩
  ·rintro(h1|⟨_,h1⟩)
   ·exact .inl h1
   ·exact .inr h1
 |false=>
  rw[cond_false];constructor
  ·exact .inl
  ·rintro(h1|⟨h1,_⟩)
   ·exact h1
   ·rw[yT,h1.2] at ab;cases ab
theorem hP.up{m j:Nat}:∀ {d:Nat},j+d<=T.length->gr (wanD T j) m->gr (wanD T (j+d)) m
 |0,_,hm=>hm
 |d+1,hd,hm=>by
  have hx:T[T.length-(j+d)-1]? =some (T[T.length-(j+d)-1]'U):=fw U;exact(h.F8 (j:=j+d) U hx).2 (.inl (hP.up (d:=d) U hm))
theorem hP.fin{k:Nat}(h1:1<=k)(ay:k<=T.length):∀ {d:Nat},T.length-k+d<=T.length->gr (wanD T (T.length-k+d)) k->gr (wanD T (T.length-k)) k
 |0,_,hm=>hm
 |d+1,hd,hm=>by
  have hx:T[T.length-(T.length-k+d)-1]? =some (T[T.length-(T.length-k+d)-1]'U):=fw U;rcases(h.F8 (j:=T.length-k+d) U hx).1 hm with hm|⟨hm,md⟩
  ·exact hP.fin h1 ay (d:=d) U hm
  ·have:=h.pG (k:=T.length-(T.length-k+d)) U hx k md;have e:d=0:=by omega
   subst e;rw[show T.length-(T.length-k+0)=k by omega] at hm;exact hm
theorem hP.Ao{k:Nat}{x:bg}(ay:gr (s_ T) k)(hx:T[k-1]? =some x):∀n∈Lyc.pG T k x,gr (s_ T) n:=λn hn=>by
 have mu:=(jK.1 hx).1;have h1:=ay.1;have hf:=h.fin h1 U (d:=k) U (by rw[show T.length-k+k=T.length by omega];exact ay);have FU:T[T.length-(T.length-k)-1]? =some x:=by rw[show T.length-(T.length-k)=k by omega];exact hx
 have e:T.length-(T.length-k)=k:=by omega
 have:=(h.F8 (j:=T.length-k) (m:=n) U FU).2 (.inr (by rw[e];exact⟨hf,hn⟩));have:=h.up (d:=k-1) U this;rw[show T.length-k+1+(k-1)=T.length by omega] at this;exact this
theorem hP.Jv{n:Nat}:∀ {j:Nat},j<=T.length->gr (wanD T j) n->n=T.length\/∃k x,n<k/\gr (s_ T) k/\T[k-1]? =some x/\n∈Lyc.pG T k x
 |0,_,hn=>by
  rw[wanD,LW (pM.2 h.g.ne)] at hn;rcases hn with hn|⟨hn,_⟩
  ·have:=hn.2;rw[Gr] at this;split at this<;>cases this
  ·exact .inl hn
 |j+1,ax,hn=>by
  have hx:T[T.length-j-1]? =some (T[T.length-j-1]'U):=fw U;by_cases h0:gr (wanD T j) n
  ·exact hP.Jv (j:=j) U h0
  ·rcases(h.F8 (j:=j) U hx).1 hn with hn|⟨ay,hm⟩
   ·exact absurd hn h0
   ·have hle:=h.pG (k:=T.length-j) U hx n hm;have a7:n≠T.length-j:=λe=>h0 (by rw[e];exact ay);refine .inr ⟨T.length-j,_,U,?_,hx,hm⟩;have:=h.up (d:=T.length-j) U ay;rw[show j+(T.length-j)=T.length by omega] at this;exact this
end
def fx(T:List bg)(i:Nat):Nat:=(cutS T i).2.length
def lw(T:List bg):Nat->Nat
 |0=>0
 |i+1=>cond ((s_ T).getD i false) (i+1) (lw T i)
def an(T:List bg)(k:Nat)(x:bg):bg:={x with cs:=x.cs.map λac=>(fx T (cond (hJ T (cS T) k ac.1 ac.2) ac.1 ac.2),fx T ac.2)}
section
variable {T:List bg}
def vX{i:Nat}:(s_ T).getD i false=true↔gr (s_ T) (i+1):=by
 rw[yT];constructor
 ·intro h;refine⟨U,?_⟩;show(s_ T)[i]? =some true;cases hg:(s_ T)[i]? with
  |none=>rw[hg] at h;cases h
  |some y=>rw[hg] at h;exact congrArg some h
 ·rintro⟨_,h⟩;rw[show i+1-1=i from rfl] at h;rw[h];rfl
def ET{i:Nat}(hi:i<T.length):fx T (i+1)=fx T i+(cond ((s_ T).getD i false) 1 0):=by
 unfold fx;rw[cutS,fw hi];cases(s_ T).getD i false with
 |true=>show((cutS T i).2++[_]).length=_;rw[dv];rfl
 |false=>rfl
def wv{i:Nat}(hi:i<T.length)(h:gr (s_ T) (i+1)):fx T (i+1)=fx T i+1:=by rw[ET hi,vX.2 h];rfl
def Po{i:Nat}:∀ {d:Nat},i+d<=T.length->fx T i<=fx T (i+d)
 |0,_=>bs _
 |d+1,h=>by
  have:=Po (i:=i) (d:=d) U;have:=ET (T:=T) (i:=i+d) U;show fx T i<=fx T (i+d+1);omega
def Ap{i j:Nat}(h:i<=j)(ax:j<=T.length):fx T i<=fx T j:=by
 have:=Po (T:=T) (i:=i) (d:=j-i) U;rwa[show i+(j-i)=j by omega] at this
def wx{i j:Nat}(h:i<j)(ax:j<=T.length)(hw:gr (s_ T) j):fx T i<fx T j:=by
 obtain⟨j,rfl⟩:∃m,j=m+1:=⟨j-1,U⟩
 have:=wv (T:=T) (i:=j) U hw;have:=Ap (T:=T) (i:=i) (j:=j) U U;omega
def Pp{j:Nat}(ax:j<=T.length)(hw:gr (s_ T) j):1<=fx T j:=by
 have:=wx (T:=T) (i:=0) hw.1 ax hw;omega
def kC{n:Nat}(h:gr (s_ T) n):n<=T.length:=by
 have:=(jK.1 h.2).1;have hl:(s_ T).length=T.length:=LH;have:=h.1;omega
def Pq{i j:Nat}(hi:gr (s_ T) i)(ax:gr (s_ T) j)(h:fx T i=fx T j):i=j:=by
 have h1:=kC hi;have h2:=kC ax;rcases gR i j with h3|h3|h3
 ·have:=wx h3 h2 ax;omega
 ·exact h3
 ·have:=wx h3 h1 hi;omega
def Jw:∀ {i n:Nat},i<=T.length->n<=i->gr (s_ T) n->(cutS T i).1.getD n 0=fx T n
 |0,n,_,hn,hw=>by have:=hw.1;omega
 |i+1,n,hi,hn,hw=>by
  have hl:=(S0 (T:=T) (i:=i)).1;by_cases e:n=i+1
  ·subst e;have ht:=vX.2 hw;rw[wv U hw];rw[cutS,fw U];simp only[];rw[ht,cond_true,yT,Rz,if_pos I,if_pos U];rfl
  ·have aH:=Jw (i:=i) (n:=n) U U hw;rw[cutS,fw U];simp only[];cases(s_ T).getD i false with
   |true=>rw[cond_true,yT,Rz,if_neg U,← yT];exact aH
   |false=>exact aH
variable (h:hP T)
include h
theorem hP.QJ{k:Nat}{x:bg}(ay:gr (s_ T) k)(hx:T[k-1]? =some x){ac:Nat×Nat}(eH:ac∈x.cs):gr (s_ T) ac.2/\gr (s_ T) (cond (hJ T (cS T) k ac.1 ac.2) ac.1 ac.2):=by
 have hm:∀n∈rN T k ac,gr (s_ T) n:=λn hn=>h.Ao ay hx n (VK _ (Ay.2 ⟨ac,eH,hn⟩));unfold rN at hm;cases hb:hJ T (cS T) k ac.1 ac.2 with
 |true=>rw[hb] at hm;exact⟨hm _ aF,hm _ aF⟩
 |false=>rw[hb] at hm;exact⟨hm _ aF,hm _ aF⟩
theorem hP.get:∀ {i n:Nat} {x:bg},i<=T.length->n<=i->gr (s_ T) n->T[n-1]? =some x->(cutS T i).2[fx T n-1]? =some (an T n x)
 |0,n,x,_,hn,hw,_=>by have:=hw.1;omega
 |i+1,n,x,hi,hn,hw,hx=>by
  by_cases e:n=i+1
  ·subst e;have ht:=vX.2 hw;rw[wv U hw,cutS,show T[i]? =some x from hx];simp only[];rw[ht,cond_true];show(_++_)[(cutS T i).2.length+1-1]? =_;rw[Cr,List.getElem?_concat_length]
   congr 1
   unfold an pF
   congr 1
   refine mj λac eH=>?_;have ab:=(h.g.wk (i+1) x U hx).2 ac eH;obtain⟨h1,h2⟩:=hP.QJ h hw hx eH;have h3:cond (hJ T (cS T) (i+1) ac.1 ac.2) ac.1 ac.2<=i:=by cases hJ T (cS T) (i+1) ac.1 ac.2<;>simp<;>omega
   rw[Jw U h3 h2,Jw U U h1]
  ·have aH:=hP.get (i:=i) (n:=n) (x:=x) U U hw hx;have hlt:=(jK.1 aH).1;have a0e:T[i]? =some (T[i]'U):=fw U;rw[cutS,a0e];simp only[];cases(s_ T).getD i false with
   |true=>rw[cond_true];exact(E7 hlt).trans aH
   |false=>exact aH
theorem hP.at_{n:Nat}{x:bg}(hw:gr (s_ T) n)(hx:T[n-1]? =some x):(ya T)[fx T n-1]? =some (an T n x):=h.get (bs _) (kC hw) hw hx
omit h in
theorem Aq:∀ {i j:Nat},i<=T.length->1<=j->j<=fx T i->∃n,n<=i/\gr (s_ T) n/\fx T n=j
 |0,j,_,h1,h2=>by have:fx T 0=0:=rfl;omega
 |i+1,j,hi,h1,h2=>by
  rw[ET U] at h2;cases ht:(s_ T).getD i false with
  |true=>
   rw[ht,cond_true] at h2;by_cases e:j=fx T i+1
   ·exact⟨i+1,bs _,vX.1 ht,by rw[wv U (vX.1 ht),e]⟩
   ·obtain⟨n,a,c,d⟩:=Aq (i:=i) (j:=j) U h1 U;exact⟨n,U,c,d⟩
  |false=>
   rw[ht,cond_false] at h2;obtain⟨n,a,c,d⟩:=Aq (i:=i) (j:=j) U h1 U;exact⟨n,U,c,d⟩
omit h in
theorem Ar{j n i:Nat}(hn:n<=i):∀ {d:Nat},(stF T (i+d))[j]? =some n->(stF T i)[j]? =some n
 |0,h=>h
 |d+1,h=>by
  refine Ar hn (d:=d) ?_;rw[show i+(d+1)=i+d+1 from rfl,stF] at h;split at h
  ·unfold zK at h;rename_i x _;by_cases ax:j<((stF T (i+d)).take (x.br-x.op)).length
   ·rw[E7 ax,a3C] at h;split at h
    ·exact h
    ·cases h
   ·rw[a0s U,Gr] at h;split at h
    ·have:=wF h;omega
    ·cases h
  ·simp at h
omit h in
theorem BO{n:Nat}(hw:gr (s_ T) n):∀ {i:Nat},n<=i->n<=lw T i/\lw T i<=i
 |0,h=>by have:=hw.1;omega
 |i+1,h=>by
  rw[lw];cases ht:(s_ T).getD i false with
  |true=>rw[cond_true];omega
  |false=>
   rw[cond_false];have:n≠i+1:=λe=>by rw[vX.2 (e▸hw)] at ht;cases ht
   have:=BO hw (i:=i) U;omega
theorem hP.st:∀ {i:Nat},i<=T.length->stF (ya T) (fx T i)=(stF T (lw T i)).map (fx T)
 |0,_=>rfl
 |i+1,hi=>by
  have aH:=hP.st (i:=i) U;have hx:T[i]? =some (T[i]'U):=fw U;cases ht:(s_ T).getD i false with
  |false=>
   have e:fx T (i+1)=fx T i:=by rw[ET U,ht];rfl
   have a5:lw T (i+1)=lw T i:=by rw[lw,ht];rfl
   rw[e,a5];exact aH
  |true=>
   have hw:=vX.1 ht;have e:fx T (i+1)=fx T i+1:=wv U hw;have a5:lw T (i+1)=i+1:=by rw[lw,ht];rfl
   have hg:=hP.at_ h hw hx;have jx:=h.g.kU.go i U;have gj:=h.Ao hw hx;have cR:∀n∈(stF T i).take ((T[i]'U).br-(T[i]'U).op),gr (s_ T) n/\n<=i:=λn hn=>by
    refine⟨gj n (NK _ ?_),(a4n (T:=T) (i:=i) n (uU hn)).2⟩;rw[Fh U];exact NK _ hn
   rw[a5,Fh (show i<T.length by omega)];generalize T[i]'U=x at hx hg jx cR;rw[e,Cr] at hg;rw[e,stF,hg];show(stF (ya T) (fx T i)).take (x.br-x.op)++List.replicate x.op (fx T i+1)=((stF T i).take (x.br-x.op)++List.replicate x.op (i+1)).map (fx T);rw[aH,hQ,Ry,e,← G9]
   congr 2
   refine ml λj=>?_;rw[a3C,a3C];split
   ·rename_i ax;have gK:j<(stF T i).length:=by omega
    have hn:=cR ((stF T i)[j]) (SI.2 ⟨j,by rw[a3C,if_pos ax];exact fw gK⟩);have EU:=BO hn.1 (i:=i) hn.2;rw[fw gK];have:=fw gK;exact Ar (i:=lw T i) EU.1 (d:=i-lw T i) (by rw[show lw T i+(i-lw T i)=i by omega];exact this)
   ·rfl
end
section
variable {T:List bg}(h:hP T)
include h
theorem hP.ex{k:Nat}{y:bg}(h1:1<=k)(hy:(ya T)[k-1]? =some y):∃n x,gr (s_ T) n/\fx T n=k/\T[n-1]? =some x/\y=an T n x:=by
 have ay:=(jK.1 hy).1;have hl:(ya T).length=fx T T.length:=rfl;obtain⟨n,hn,hw,e⟩:=Aq (T:=T) (i:=T.length) (j:=k) (bs _) h1 U;have a5c:=hw.1;have hx:T[n-1]? =some (T[n-1]'U):=fw U;have:=h.at_ hw hx;rw[e,hy] at this;exact⟨n,_,hw,e,hx,wF this⟩
theorem hP.a0f{i:Nat}{x:bg}(hx:T[i]? =some x)(hw:gr (s_ T) (i+1)):x.br-x.op<=(stF (ya T) (fx T i)).length:=by
 have hi:=(jK.1 hx).1;rw[h.st U,uV];have jx:=h.g.kU.go i hi;rw[(jK.1 hx).2] at jx;have gj:=h.Ao hw hx;by_cases h0:x.br-x.op=0
 ·omega
 ·have ax:x.br-x.op-1<(stF T i).length:=by omega
  have hm:(stF T i)[x.br-x.op-1]∈(stF T i).take (x.br-x.op):=SI.2 ⟨x.br-x.op-1,by rw[a3C,if_pos U];exact fw ax⟩;have lK:gr (s_ T) ((stF T i)[x.br-x.op-1]):=gj _ (NK _ (by
   rw[Fh hi,(jK.1 hx).2];exact NK _ hm))
  have hle:=(a4n (T:=T) (i:=i) _ (uU hm)).2;have EU:=BO lK (i:=i) hle;have hg:=fw ax;have:=Ar (i:=lw T i) EU.1 (d:=i-lw T i) (j:=x.br-x.op-1) (by rw[show lw T i+(i-lw T i)=i by omega];exact hg);have:=(jK.1 this).1;omega
theorem hP.pred{k n:Nat}(hw:gr (s_ T) n)(e:fx T n=k):fx T (n-1)=k-1/\1<=n/\n<=T.length/\1<=k:=by
 have h1:=hw.1;have h2:=kC hw;obtain⟨m,rfl⟩:∃m,n=m+1:=⟨n-1,U⟩
 have:=wv (T:=T) (i:=m) U hw;rw[Cr];omega
theorem hP.kU:zL (ya T) where
 lt:=by
  have:=(S0 (T:=T) (i:=T.length)).2;have:=h.g.kU.lt;show(cutS T T.length).2.length<_;omega
 num y hy:=by
  obtain⟨j,ax⟩:=SI.1 hy;obtain⟨n,x,_,_,hx,rfl⟩:=h.ex (k:=j+1) U ax;exact h.g.kU.num x (fL hx)
 go i hi:=by
  have hy:(ya T)[i+1-1]? =some (ya T)[i]:=fw hi;obtain⟨n,x,hw,e,hx,VH⟩:=h.ex (k:=i+1) U hy;obtain⟨aL,h1,h2,_⟩:=h.pred hw e;obtain⟨m,rfl⟩:∃m,n=m+1:=⟨n-1,U⟩
  have:=h.a0f (i:=m) hx hw;rw[Cr] at aL;rw[aL,Cr] at this;rw[VH];exact this
theorem hP.EX{k:Nat}{y:bg}(h1:1<=k)(hy:(ya T)[k-1]? =some y):oG k y.cs:=by
 obtain⟨n,x,hw,e,hx,rfl⟩:=h.ex h1 hy;obtain⟨hU,m4⟩:=h.g.wk n x hw.1 hx;refine⟨by show(x.cs.map _).length<_;rw[uV];exact hU,λac eH=>?_⟩;obtain⟨d,hd,rfl⟩:=ti.1 (show ac∈x.cs.map _ from eH);have ab:=m4 d hd;obtain⟨bW,jA⟩:=h.QJ hw hx hd;have hl:=kC bW;have pb:=kC hw;have h3:cond (hJ T (cS T) n d.1 d.2) d.1 d.2<=d.2:=by cases hJ T (cS T) n d.1 d.2<;>simp<;>omega
 exact⟨Pp (kC jA) jA,Ap h3 hl,by rw[<-e];exact wx ab.2.2 pb hw⟩
theorem hP.wc{n:Nat}:∀ {d:Nat} {x y:bg},T[n+d]? =some x->x.hyp=true->x.op=0->T[n]? =some y->y.hyp=true/\y.br=0/\y.op=0
 |0,x,y,hx,h1,h2,hy=>by
  have e:x=y:=wF (hx.symm.trans hy);subst e;exact⟨h1,h.hh x (fL hx) h1 h2,h2⟩
 |d+1,x,y,hx,h1,h2,hy=>by
  have hl:=(jK.1 hx).1;have a6:T[n+d]? =some (T[n+d]'U):=fw U;have oi:=h.hh x (fL hx) h1 h2;have ao:=h.g.aa (n+(d+1)+1) U U;unfold nN at ao;rw[show n+(d+1)+1-1=n+(d+1) by omega,hx] at ao;have ao:rz x (qq T (n+(d+1)+1)) (n+(d+1)+1)=true:=ao;unfold qq at ao;rw[if_pos U,show n+(d+1)+1-2=n+d by omega,a6] at ao;unfold rz at ao;simp only[h1,h2,oi,cond_true,C2,dA,decide_eq_true_eq] at ao;obtain⟨_,_,_,_,ao⟩:=ao;rcases ao with ao|ao
  ·omega
  ·have hn:=h.g.kU.num _ (gC (show n+d<T.length by omega));exact hP.wc (d:=d) a6 ao.1 U hy
theorem hP.a0g{k:Nat}(h1:1<=k)(h2:k<=(ya T).length):nN (ya T) k=true:=by
 have hy:(ya T)[k-1]? =some ((ya T)[k-1]'U):=fw U;have mw:=h.EX h1 hy;obtain⟨n,x,hw,e,hx,VH⟩:=h.ex h1 hy;obtain⟨aL,iC,tE,_⟩:=h.pred hw e;have jx:=h.kU.go (k-1) U;have ao:=h.g.aa n iC tE;unfold nN at ao ⊢;rw[hx] at ao;rw[hy];have ao:rz x (qq T n) n=true:=ao;show rz ((ya T)[k-1]'U) (qq (ya T) k) k=true;rw[VH] at mw jx ⊢
 -- u1 line ahead
 have c6F:x.br-x.op<=(qq (ya T) k).2/\(x.hyp=true->x.op=0->(qq (ya T) k).1=true/\(qq (ya T) k).2=0):=by
  unfold qq;by_cases ay:1<k
  ·rw[if_pos ay];have a6:(ya T)[k-2]? =some ((ya T)[k-2]'U):=fw U;rw[a6];have hl:=h.kU.len (k-2) U;rw[a6,show k-2+1=k-1 by omega] at hl;have hl:(stF (ya T) (k-1)).length=((ya T)[k-2]'U).br:=hl;refine⟨?_,λa b=>?_⟩
   ·show _<=((ya T)[k-2]'U).br;rw[<-hl];exact jx
   ·obtain⟨qe,z,kQ,c4,b2q,a0h⟩:=h.ex (k:=k-1) U (by rw[show k-1-1=k-2 by omega];exact a6);show((ya T)[k-2]'U).hyp=true/\((ya T)[k-2]'U).br=0;rw[a0h];have hlt:qe<n:=by
     rcases MG qe n with q|q
     ·exact q
     ·have:=Ap q (kC kQ);omega
    have U4:=kQ.1;obtain⟨lq,nW,_⟩:=h.wc (n:=qe-1) (d:=n-qe) (by rw[show qe-1+(n-qe)=n-1 by omega];exact hx) a b b2q;exact⟨lq,nW⟩
  ·rw[if_neg ay];obtain rfl:k=1:=by omega
   exact⟨jx,λ_ _=>⟨rfl,rfl⟩⟩
 unfold rz at ao ⊢;rw[C2,C2] at ao ⊢;refine⟨ao.1,decide_eq_true c6F.1,?_⟩;have ao:=ao.2.2;show cond x.hyp (x.c2.isEmpty&&((an T n x).cs.isEmpty&&(decide (0<x.op)||((qq (ya T) k).1&&decide ((qq (ya T) k).2=x.br))))) ((an T n x).cs.all (xI k)&& !x.c2.isEmpty)=true;cases hh:x.hyp with
 |true=>
  rw[hh,cond_true] at ao;rw[cond_true];simp only[C2] at ao ⊢;refine⟨ao.1,?_,?_⟩
  ·have e:x.cs=[]:=q2.1 ao.2.1;show(x.cs.map _).isEmpty=true;rw[e];rfl
  ·by_cases ho:x.op=0
   ·obtain⟨nh,qt⟩:=c6F.2 hh ho;rw[nh,qt,h.hh x (fL hx) hh ho];simp
   ·rw[decide_eq_true U];rfl
 |false=>
  rw[hh,cond_false] at ao;rw[cond_false];simp only[C2] at ao ⊢;exact⟨nY.2 λac eH=>decide_eq_true (mw.2 ac eH),ao.2⟩
theorem hP.cut:hP (ya T):=by
 have ao:=h.kU;have hle:=(S0 (T:=T) (i:=T.length)).2;refine⟨⟨ao,⟨by unfold cS;rw[uV,b7],by have:=ao.lt;omega,λy hy=>by have:=ao.num y hy;omega,λl hl=>?_⟩,λk y h1 hy=>h.EX h1 hy,λk h1 h2=>h.a0g h1 h2,λy hy=>?_,by have:=h.g.le;show(cutS T T.length).2.length<=36;omega,c6R h.g.ne⟩,λy hy=>?_⟩
 ·obtain⟨i,hi,rfl⟩:=ti.1 hl;rw[P8] at hi;rw[ao.len i hi,fw hi];show((ya T)[i]).br<_;have:=ao.num _ (gC hi);omega
 ·obtain⟨j,ax⟩:=SI.1 hy;obtain⟨n,x,_,_,hx,rfl⟩:=h.ex (k:=j+1) U ax;exact h.g.dep x (fL hx)
 ·obtain⟨j,ax⟩:=SI.1 hy;obtain⟨n,x,_,_,hx,rfl⟩:=h.ex (k:=j+1) U ax;exact h.hh x (fL hx)
end
def Pr:∀ {l m:List Nat},l.Pairwise (· < ·)->m.Pairwise (· < ·)->(∀x,x∈l↔x∈m)->l=m
 |[],[],_,_,_=>rfl
 |[],y::m,_,_,h=>by have:=(h y).2 aF;simp at this
 |x::l,[],_,_,h=>by have:=(h x).1 aF;simp at this
 |x::l,y::m,hl,hm,h=>by
  rw[OS] at hl hm;have e:x=y:=by
   rcases dB.1 ((h x).1 aF) with e|hx
   ·exact e
   ·rcases dB.1 ((h y).2 aF) with e|hy
    ·exact e.symm
    ·have:=hm.1 x hx;have:=hl.1 y hy;omega
  subst e;rw[Pr hl.2 hm.2 λz=>⟨λa6=>by
   rcases dB.1 ((h z).1 (by simp[a6])) with e|k0
   ·have:=hl.1 z a6;omega
   ·exact k0,λa6=>by
   rcases dB.1 ((h z).2 (by simp[a6])) with e|k0
   ·have:=hm.1 z a6;omega
   ·exact k0⟩]
section
variable {T:List bg}(h:hP T)
include h
theorem hP.qh{n:Nat}(hw:gr (s_ T) n):fV (ya T) (fx T n)=fV T n/\kr (ya T) (fx T n)=kr T n:=by
 have h1:=hw.1;have h2:=kC hw;have hx:T[n-1]? =some (T[n-1]'U):=fw U;have hy:=h.at_ hw hx;unfold fV kr;rw[yT,fG,hy,yT,fG,hx,yT,fG,hy,yT,fG,hx];exact⟨rfl,rfl⟩
theorem hP.rO{n:Nat}(hw:gr (s_ T) n):1<=fx T n/\fx T n<=(ya T).length:=by
 have h2:=kC hw;exact⟨Pp h2 hw,Ap h2 (bs _)⟩
theorem hP.cA{n:Nat}(hw:gr (s_ T) n):(cS (ya T)).getD (fx T n-1) []=(stF T n).map (fx T)/\(cS T).getD (n-1) []=stF T n:=by
 obtain⟨h1,h2⟩:=h.rO hw;have h3:=kC hw;refine⟨?_,Af hw.1 h3⟩;rw[Af h1 h2,h.st h3];have:=BO hw (bs n);rw[show lw T n=n by omega]
theorem hP.a0i{n:Nat}(hw:gr (s_ T) n):∀m∈stF T n,gr (s_ T) m:=λm hm=>by
 have h1:=hw.1;have h2:=kC hw;have hx:T[n-1]? =some (T[n-1]'U):=fw U;exact h.Ao hw hx m (NK _ hm)
theorem hP.a3s{k c:Nat}(ay:gr (s_ T) k)(ab:gr (s_ T) c)(au:po (cS T) k c c=true):po (cS (ya T)) (fx T k) (fx T c) (fx T c)=true:=by
 unfold po at au ⊢;rw[(h.cA ay).1,(h.cA ab).1];rw[(h.cA ay).2,(h.cA ab).2] at au;simp only[C2,decide_eq_true_eq,uV] at au ⊢;refine⟨trivial,au.2.1,?_⟩;rw[<-G9,← au.2.2]
theorem hP.a0j{k a c:Nat}(ay:gr (s_ T) k)(ha:gr (s_ T) a)(ab:gr (s_ T) c)(eH:a<=c)(h5:c<k)(hb:hJ T (cS T) k a c=true):hJ (ya T) (cS (ya T)) (fx T k) (fx T a) (fx T c)=true:=by
 unfold hJ nM at hb ⊢;have mu:=kC ay;have HJ:(cS T).getD (c+1-1) []=stF T (c+1):=Af U U;rw[(h.cA ay).1,(h.cA ab).1,(h.cA ha).1,(h.qh ay).2,(h.qh ab).2];rw[(h.cA ay).2,(h.cA ab).2,(h.cA ha).2,HJ] at hb;simp only[C2,decide_eq_true_eq,wG,decide_eq_false_iff_not,Cr] at hb ⊢;obtain⟨eF,dE,dW,fK,nZ⟩:=hb;refine⟨by rw[fG,eF];rfl,by rw[<-G9,dE],dW,by rw[fG,fK];rfl,λao=>nZ ?_⟩;have hlt:=wx h5 mu ay;have a0U:=(h.rO ay).2;obtain⟨n,hn,AX,e⟩:=Aq (T:=T) (i:=T.length) (j:=fx T c+1) (bs _) U (by show _<=(ya T).length;omega);have n7:c<n:=by
  rcases MG c n with q|q
  ·exact q
  ·have:=Ap q (kC ab);omega
 have HD:=(h.cA AX).1;rw[e,Cr] at HD;rw[HD,fG] at ao;cases hm:(stF T n)[kr T k]? with
 |none=>rw[hm] at ao;cases ao
 |some m=>
  rw[hm] at ao;have zV:=Pq (h.a0i AX m (fL hm)) ha (wF ao);subst zV;exact Ar (i:=c+1) U (d:=n-(c+1)) (by rw[show c+1+(n-(c+1))=n by omega];exact hm)
theorem hP.Ps{k c:Nat}(ay:1<=k/\k<=T.length)(ab:1<=c/\c<=T.length)(au:po (cS T) k c c=true):hJ T (cS T) k c c=false:=by
 unfold po at au;simp only[C2,decide_eq_true_eq] at au;have h1:=au.2.1;rw[Af ay.1 ay.2,Af ab.1 ab.2] at h1;have vr:=h.g.kU.len (k-1) U;have XA:=h.g.kU.len (c-1) U;rw[show k-1+1=k by omega] at vr;rw[show c-1+1=c by omega] at XA;have d1:kr T k=(stF T k).length:=by
  rw[vr,B8 ay.1 ay.2,fw U];rfl
 have d2:kr T c=(stF T c).length:=by
  rw[XA,B8 ab.1 ab.2,fw U];rfl
 unfold hJ;rw[show decide (kr T c=kr T k+1)=false from decide_eq_false U];simp
theorem hP.BQ{k:Nat}{x:bg}(ay:gr (s_ T) k)(hx:T[k-1]? =some x){p:fh}{ac:Nat×Nat}(eH:ac∈x.cs)(ho:il T (cS T) k p ac=true):
  il (ya T) (cS (ya T)) (fx T k) p (fx T (cond (hJ T (cS T) k ac.1 ac.2) ac.1 ac.2),fx T ac.2)=true/\hJ (ya T) (cS (ya T)) (fx T k) (fx T (cond (hJ T (cS T) k ac.1 ac.2) ac.1 ac.2)) (fx T ac.2)=hJ T (cS T) k ac.1 ac.2:=by
 obtain⟨hU,m4⟩:=h.g.wk k x ay.1 hx;obtain⟨nh,qt,pr⟩:=m4 ac eH;obtain⟨bW,jA⟩:=h.QJ ay hx eH;have mu:=kC ay;unfold il at ho ⊢;cases aw:p.cA with
 |true=>
  rw[aw,cond_true] at ho;rw[ho,cond_true] at jA ⊢;have:=h.a0j ay jA bW qt pr ho;rw[cond_true];exact⟨this,this⟩
 |false=>
  rw[aw,cond_false] at ho;have k9:=ho;unfold po at k9;simp only[C2,decide_eq_true_eq] at k9;have e:ac.1=ac.2:=k9.1;rw[e] at ho ⊢;have hb:=h.Ps ⟨ay.1,mu⟩ (c:=ac.2) ⟨U,U⟩ ho;have au:=h.a3s ay bW ho;rw[hb,cond_false,cond_false];refine⟨au,?_⟩;have:=h.cut.Ps (h.rO ay) (h.rO bW) au;exact this
theorem hP.Jz{a d:Nat}(ha:gr (s_ T) a)(hd:1<=d):iY (ya T) (fx T a) d=(iY T a d).map (fx T)/\∀n∈iY T a d,n=a:=by
 have h1:=ha.1;have h2:=kC ha;have hx:T[a-1]? =some (T[a-1]'U):=fw U;have hy:=h.at_ ha hx;rw[asm_one h.cut.hh (h.rO ha).1 (h.rO ha).2 hd,asm_one h.hh h1 h2 hd,hx,hy];constructor
 ·show(if(T[a-1]'U).hyp=true/\(T[a-1]'U).br=d then[fx T a] else[])=List.map (fx T) (if _ then[a] else[]);split
  ·rfl
  ·rfl
 ·intro n hn;simp only[] at hn;split at hn
  ·exact uT.1 hn
  ·cases hn
omit h in
theorem JB{k:Nat}{x:bg}(h1:1<=k)(hx:T[k-1]? =some x)(ab:oG k x.cs):(ndsL T T.length).getD (k-1) []=cond x.hyp [k] ((List.range k).filter (oF T (cS T) (ndsL T T.length) k x.cs)):=by
 have ay:=(jK.1 hx).1;have aw:∀ {i m:Nat},i<m->m<=T.length->(ndsL T T.length)[i]? =(ndsL T m)[i]? :=λ{i m} h1 h2=>by
  have:=a3i (T:=T) h1 (n:=T.length-m);rwa[show m+(T.length-m)=T.length by omega] at this
 obtain⟨j,rfl⟩:∃j,k=j+1:=⟨k-1,U⟩
 rw[yT,aw (m:=j+1) U U,ndsL,a0s (by rw[Kv];omega),Kv,show j+1-1-j=0 by omega];show needL T (cS T) (ndsL T j) (j+1)=_;unfold needL;rw[hx];show cond x.hyp [j+1] _=_
 congr 1
 refine a3D λn _=>?_;have e:∀ac∈x.cs,ru T (cS T) (ndsL T j) (j+1) ac=ru T (cS T) (ndsL T T.length) (j+1) ac:=λac eH=>by
  have:=ab.2 ac eH;unfold ru nc;rw[yT,yT,aw (i:=ac.2-1) (m:=j) U U]
 unfold oF;rw[oS,NP,NP];constructor
 ·rintro⟨ac,h1,h2⟩;exact⟨ac,h1,by rw[<-e ac h1];exact h2⟩
 ·rintro⟨ac,h1,h2⟩;exact⟨ac,h1,by rw[e ac h1];exact h2⟩
def wy(T:List bg):Prop:=∀k x,1<=k->T[k-1]? =some x->∀ac∈x.cs,∃p,il T (cS T) k p ac=true
theorem hP.num{k:Nat}{x:bg}(ay:gr (s_ T) k)(hx:T[k-1]? =some x){ac:Nat×Nat}(eH:ac∈x.cs){p:fh}(ho:il T (cS T) k p ac=true)(hn:(ndsL (ya T) (ya T).length).getD (fx T ac.2-1) []=((ndsL T T.length).getD (ac.2-1) []).map (fx T))(hw:∀n∈(ndsL T T.length).getD (ac.2-1) [],gr (s_ T) n):
  nc (ya T) (ndsL (ya T) (ya T).length) (fx T k) (fx T (cond (hJ T (cS T) k ac.1 ac.2) ac.1 ac.2)) (fx T ac.2)=(nc T (ndsL T T.length) k (cond (hJ T (cS T) k ac.1 ac.2) ac.1 ac.2) ac.2).map (fx T)/\ru (ya T) (cS (ya T)) (ndsL (ya T) (ya T).length) (fx T k) (fx T (cond (hJ T (cS T) k ac.1 ac.2) ac.1 ac.2),fx T ac.2)=(ru T (cS T) (ndsL T T.length) k ac).map (fx T):=by
 obtain⟨_,e⟩:=h.BQ ay hx eH ho;obtain⟨bW,jA⟩:=h.QJ ay hx eH;have key:nc (ya T) (ndsL (ya T) (ya T).length) (fx T k) (fx T (cond (hJ T (cS T) k ac.1 ac.2) ac.1 ac.2)) (fx T ac.2)=(nc T (ndsL T T.length) k (cond (hJ T (cS T) k ac.1 ac.2) ac.1 ac.2) ac.2).map (fx T):=by
  obtain⟨aX,bc⟩:=h.Jz (d:=kr T k+1) jA U;unfold nc;rw[hn,(h.qh ay).2,aX,List.filter_map]
  congr 1
  refine a3D λn hn=>?_;show(!decide (fx T n∈(iY T (cond (hJ T (cS T) k ac.1 ac.2) ac.1 ac.2) (kr T k+1)).map (fx T)))= !decide (n∈iY T (cond (hJ T (cS T) k ac.1 ac.2) ac.1 ac.2) (kr T k+1))
  congr 1
  rw[decide_eq_decide];constructor
  ·intro hm;obtain⟨m,w3,zV⟩:=ti.1 hm;have d0w:gr (s_ T) m:=by rw[bc m w3];exact jA
   rw[<-Pq d0w (hw n hn) zV];exact w3
  ·exact λhm=>a3E hm
 refine⟨key,?_⟩;unfold ru;simp only[];rw[e];cases hb:hJ T (cS T) k ac.1 ac.2 with
 |true=>rw[hb] at key;exact key
 |false=>exact hn
theorem hP.pE(hg:wy T):∀ {m k:Nat},k<=m->gr (s_ T) k->(ndsL (ya T) (ya T).length).getD (fx T k-1) []=((ndsL T T.length).getD (k-1) []).map (fx T)/\∀n∈(ndsL T T.length).getD (k-1) [],gr (s_ T) n
 |0,k,hm,ay=>by have:=ay.1;omega
 |m+1,k,hm,ay=>by
  have h1:=ay.1;have h2:=kC ay;have hx:T[k-1]? =some (T[k-1]'U):=fw U;have hy:=h.at_ ay hx;have ab:=h.g.wk k _ h1 hx;have va:=h.EX (h.rO ay).1 hy;rw[JB h1 hx ab,JB (h.rO ay).1 hy va];generalize T[k-1]'U=x at hx hy ab va;show cond x.hyp [fx T k] _=_/\_;cases hh:x.hyp with
  |true=>
   rw[cond_true,cond_true];exact⟨rfl,λn hn=>by rw[uT.1 hn];exact ay⟩
  |false=>
   rw[cond_false,cond_false];have aH:∀ac∈x.cs,∃p,il T (cS T) k p ac=true/\(ndsL (ya T) (ya T).length).getD (fx T ac.2-1) []=((ndsL T T.length).getD (ac.2-1) []).map (fx T)/\∀n∈(ndsL T T.length).getD (ac.2-1) [],gr (s_ T) n:=λac eH=>by
    obtain⟨p,aw⟩:=hg k x h1 hx ac eH;have:=(ab.2 ac eH).2.2;obtain⟨bW,jA⟩:=h.QJ ay hx eH;exact⟨p,aw,hP.pE hg (m:=m) U bW⟩
   have j5:∀n,oF T (cS T) (ndsL T T.length) k x.cs n=true->gr (s_ T) n/\n<k:=λn hn=>by
    unfold oF at hn;obtain⟨ac,eH,hn⟩:=NP.1 hn;have hn:=of_decide_eq_true hn;obtain⟨p,aw,i1,i2⟩:=aH ac eH;have hn:n∈(ndsL T T.length).getD (ac.2-1) []:=by
     unfold ru at hn;cases hb:hJ T (cS T) k ac.1 ac.2 with
     |true=>rw[hb,cond_true] at hn;exact(NN.1 hn).1
     |false=>rw[hb,cond_false] at hn;exact hn
    have n6:=ab.2 ac eH;refine⟨i2 n hn,?_⟩;have FU:T[ac.2-1]? =some (T[ac.2-1]'U):=fw U;rw[JB U FU (h.g.wk _ _ U FU)] at hn;cases Pt:(T[ac.2-1]'U).hyp with
    |true=>rw[Pt,cond_true] at hn;have:=uT.1 hn;omega
    |false=>rw[Pt,cond_false] at hn;have:=P8.1 (NN.1 hn).1;omega
   refine⟨?_,λn hn=>(j5 n (NN.1 hn).2).1⟩;refine Pr (Gs _ (a3F)) ?_ λy=>?_
   ·rw[List.pairwise_map];refine List.Pairwise.imp_of_mem ?_ (Gs _ (a3F (n:=k)));intro a c ha ab eH;have a2B:=(j5 c (NN.1 ab).2).1;exact wx eH (kC a2B) a2B
   ·have eqv:∀ac∈x.cs,ru (ya T) (cS (ya T)) (ndsL (ya T) (ya T).length) (fx T k) (fx T (cond (hJ T (cS T) k ac.1 ac.2) ac.1 ac.2),fx T ac.2)=(ru T (cS T) (ndsL T T.length) k ac).map (fx T):=λac eH=>by
     obtain⟨p,aw,i1,i2⟩:=aH ac eH;exact(h.num ay hx eH aw i1 i2).2
    rw[NN,ti];constructor
    ·rintro⟨_,hn⟩;unfold oF at hn;obtain⟨a0k,a0l,hn⟩:=NP.1 hn;obtain⟨ac,eH,rfl⟩:=ti.1 (show a0k∈x.cs.map _ from a0l);have hn:=of_decide_eq_true hn;rw[eqv ac eH] at hn;obtain⟨n,iC,h6⟩:=ti.1 hn;have ao:oF T (cS T) (ndsL T T.length) k x.cs n=true:=NP.2 ⟨ac,eH,decide_eq_true iC⟩;exact⟨n,NN.2 ⟨P8.2 (j5 n ao).2,ao⟩,h6⟩
    ·rintro⟨n,hn,rfl⟩;have ao:=(NN.1 hn).2;have a0E:=j5 n ao;refine⟨P8.2 (wx a0E.2 h2 ay),?_⟩;unfold oF at ao;obtain⟨ac,eH,iC⟩:=NP.1 ao;refine NP.2 ⟨_,a3E eH,decide_eq_true ?_⟩;rw[eqv ac eH];exact a3E (of_decide_eq_true iC)
end
section
variable {K:Nat->List AV->AV->Prop}{ag:List dj}{T:List bg}{B N:List (List Nat)}{k:Nat}{x:bg}
def Q3.zero{cI dR eB:Nat}(h:Q3 K T B k x cI dR eB)(e:cI=0):∃ac,x.cs=[ac]/\citeB T B k [oJ] x.cs=true/\K vQ [(fV T ac.2).A true,x.f.A true] (.b true):=by
 cases h with
 |ps h=>cases e
 |ap ac h0 aO cC bI=>
  cases cC with
  |false=>cases e
  |true=>exact⟨ac,h0,aO,bI⟩
def KH.zero{r:dj}{cI dR eB az:Nat}(h:KH K T B N k x r cI dR eB az)(e:cI=0):citeB T B k r.cU x.cs=true/\∃cZ gL dR eB az,K vO [r.A,x.f.A true,iG (gotsL T B N k r.cU x.cs)] (.a0 [.R [cZ,gL],.R [fa dR,ah eB,ah az],ah 0]):=by
 cases h with
 |ps h=>cases e
 |ap bI cZ gL dR eB az a5 cx=>
  have cy:a5=0:=by
   by_cases q:a5=0
   ·exact q
   ·rw[if_neg q] at e;cases e
  subst cy;exact⟨bI,cZ,gL,dR,eB,az,cx⟩
def JI:∀ {aC:List fh} {cs:List (Nat×Nat)},citeB T B k aC cs=true->∀ac∈cs,∃p,il T B k p ac=true
 |[],[],_,ac,h=>by simp at h
 |[],_::_,h,_,_=>by cases h
 |_::_,[],h,_,_=>by cases h
 |p::aC,c::cs,h,ac,hm=>by
  have h:(il T B k p c&&citeB T B k aC cs)=true:=h;rw[C2] at h;rcases dB.1 hm with rfl|hm
  ·exact⟨p,h.1⟩
  ·exact JI h.2 ac hm
def oL.zero{fN:Bool}{cI dR eB az:Nat}(h:oL K T B N ag k x fN cI dR eB az)(e:cI=0):fN=true/\(x.hyp=true\/(x.hyp=false/\((x.c2=oK/\∃ac,x.cs=[ac]/\citeB T B k [oJ] x.cs=true/\K vQ [(fV T ac.2).A true,x.f.A true] (.b true))\/(x.c2≠oK/\∃i,∃hi:i<ag.length,ixN x.c2 ag=some i/\citeB T B k ag[i].cU x.cs=true/\∃cZ gL dR eB az,K vO [ag[i].A,x.f.A true,iG (gotsL T B N k ag[i].cU x.cs)] (.a0 [.R [cZ,gL],.R [fa dR,ah eB,ah az],ah 0]))))):=by
 cases h with
 |form h=>cases e
 |hyp h h2=>exact⟨h,.inl h2⟩
 |c2 h h2 h3 aO=>cases e
 |again h h2 h3 cW=>exact⟨h,.inr ⟨h2,.inl ⟨h3,cW.zero e⟩⟩⟩
 |step h h2 h3 i hi aO cQ=>
  obtain⟨a,c⟩:=cQ.zero e;exact⟨h,.inr ⟨h2,.inr ⟨h3,i,hi,aO,a,c⟩⟩⟩
end
section
variable {K:Nat->List AV->AV->Prop}{ag:List dj}{T:List bg}(h:hP T)
include h
theorem hP.a0m(hb:∀k x,1<=k->T[k-1]? =some x->∃fN,oL K T (cS T) (ndsL T T.length) ag k x fN 0 0 0 0):wy T:=λk x h1 hx ac eH=>by
 obtain⟨fN,ca⟩:=hb k x h1 hx;obtain⟨_,a6⟩:=ca.zero I;rcases a6 with hh|⟨_,⟨_,_,_,ab,_⟩|⟨_,_,_,_,ab,_⟩⟩
 ·have ao:=h.g.aa k h1 (by have:=(jK.1 hx).1;omega);unfold nN at ao;rw[hx] at ao;have ao:rz x (qq T k) k=true:=ao;unfold rz at ao;rw[hh,cond_true,C2,C2,C2,C2] at ao;rw[q2.1 ao.2.2.2.1] at eH;simp at eH
 ·exact JI ab ac eH
 ·exact JI ab ac eH
variable (hg:wy T)
include hg
theorem hP.got{k:Nat}{x:bg}(ay:gr (s_ T) k)(hx:T[k-1]? =some x){p:fh}{ac:Nat×Nat}(eH:ac∈x.cs)(ho:il T (cS T) k p ac=true):
  kf (ya T) (cS (ya T)) (ndsL (ya T) (ya T).length) (fx T k) p (fx T (cond (hJ T (cS T) k ac.1 ac.2) ac.1 ac.2),fx T ac.2)=kf T (cS T) (ndsL T T.length) k p ac:=by
 obtain⟨eb,iS⟩:=h.BQ ay hx eH ho;obtain⟨bW,jA⟩:=h.QJ ay hx eH;obtain⟨cP,c8⟩:=h.pE hg (bs ac.2) bW;obtain⟨eF,_⟩:=h.num ay hx eH ho cP c8;have mp:∀l:List Nat,(∀n∈l,gr (s_ T) n)->(l.map (fx T)).map (fV (ya T))=l.map (fV T):=λl hl=>by
  rw[Ax];exact mj λn hn=>(h.qh (hl n hn)).1
 unfold kf;unfold il at eb ho;cases aw:p.cA with
 |true=>
  rw[aw,cond_true] at ho eb;rw[ho,cond_true] at jA eF eb ⊢;rw[cond_true,cond_true,cond_true];simp only[];rw[eb,cond_true];obtain⟨aX,bc⟩:=h.Jz (d:=kr T k+1) jA U;rw[(h.qh bW).1,(h.qh ay).2,aX,mp _ λn hn=>by rw[bc n hn];exact jA,eF,mp (nc T (ndsL T T.length) k ac.1 ac.2) λn hn=>c8 n (NN.1 hn).1]
 |false=>
  rw[aw,cond_false] at ho eb;rw[cond_false,cond_false,ho,eb,cond_true,cond_true];simp only[];rw[(h.qh bW).1,cP,mp _ c8]
theorem hP.JJ{k:Nat}{x:bg}(ay:gr (s_ T) k)(hx:T[k-1]? =some x):∀ {aC:List fh} {cs:List (Nat×Nat)},(∀ac∈cs,ac∈x.cs)->citeB T (cS T) k aC cs=true→
  citeB (ya T) (cS (ya T)) (fx T k) aC (cs.map λac=>(fx T (cond (hJ T (cS T) k ac.1 ac.2) ac.1 ac.2),fx T ac.2))=true/\gotsL (ya T) (cS (ya T)) (ndsL (ya T) (ya T).length) (fx T k) aC (cs.map λac=>(fx T (cond (hJ T (cS T) k ac.1 ac.2) ac.1 ac.2),fx T ac.2))=gotsL T (cS T) (ndsL T T.length) k aC cs
 |[],[],_,_=>⟨rfl,rfl⟩
 |[],_::_,_,ab=>by cases ab
 |_::_,[],_,ab=>by cases ab
 |p::aC,c::cs,hm,ab=>by
  have ab:(il T (cS T) k p c&&citeB T (cS T) k aC cs)=true:=ab;rw[C2] at ab;obtain⟨i1,i2⟩:=hP.JJ ay hx (aC:=aC) (cs:=cs) (λac eH=>hm ac (by simp[eH])) ab.2;have AS:=hm c aF;have o:=(h.BQ ay hx AS ab.1).1;have g:=h.got hg ay hx AS ab.1;constructor
  ·show(il _ _ _ _ _&&citeB _ _ _ _ _)=true;rw[o,i1];rfl
  ·show kf _ _ _ _ _ _::gotsL _ _ _ _ _ _=kf _ _ _ _ _ _::gotsL _ _ _ _ _ _;rw[g,i2]
theorem hP.bad{k:Nat}{x:bg}(ay:gr (s_ T) k)(hx:T[k-1]? =some x){fN:Bool}(ca:oL K T (cS T) (ndsL T T.length) ag k x fN 0 0 0 0):oL K (ya T) (cS (ya T)) (ndsL (ya T) (ya T).length) ag (fx T k) (an T k x) fN 0 0 0 0:=by
 obtain⟨h1,a6⟩:=ca.zero I;rcases a6 with hh|⟨hh,⟨aq,ac,ab,w2,hA⟩|⟨aq,i,hi,kT,w2,cZ,gL,dR,eB,az,hA⟩⟩
 ·exact .hyp h1 hh
 ·have g:=h.JJ hg ay hx (aC:=[oJ]) (cs:=x.cs) (λac h=>h) w2;have bW:=(h.QJ ay hx (ac:=ac) (by rw[ab];simp)).1;refine oL.again (x:=an T k x) h1 hh aq (cI:=cond true 0 6) (dR:=cond true 0 2) (eB:=cond true 0 1) (.ap (fx T (cond (hJ T (cS T) k ac.1 ac.2) ac.1 ac.2),fx T ac.2) (by show x.cs.map _=_;rw[ab];rfl) g.1 true ?_);show K vQ [(fV (ya T) (fx T ac.2)).A true,_] _;rw[(h.qh bW).1];exact hA
 ·have g:=h.JJ hg ay hx (aC:=ag[i].cU) (cs:=x.cs) (λac h=>h) w2;have cQ:KH K (ya T) (cS (ya T)) (ndsL (ya T) (ya T).length) (fx T k) (an T k x) ag[i] (if 0=0 then 0 else 6) (if 0=0 then 0 else dR) (if 0=0 then 0 else eB) (if 0=0 then 0 else az):=.ap g.1 cZ gL dR eB az 0 (by
   show K vO [_,_,iG (gotsL (ya T) (cS (ya T)) (ndsL (ya T) (ya T).length) (fx T k) ag[i].cU (x.cs.map _))] _;rw[g.2];exact hA)
  exact oL.step (x:=an T k x) h1 hh aq i hi kT cQ
theorem hP.a0n{k m:Nat}{x:bg}(ay:gr (s_ T) k)(hx:T[k-1]? =some x)(hm:m∈Lyc.pG T k x):fx T m∈Lyc.pG (ya T) (fx T k) (an T k x):=by
 have cR:=h.st (kC ay);have EU:=BO ay (bs k);rw[show lw T k=k by omega] at cR;rcases tl.1 hm with hm|hm
 ·exact NK _ (by rw[cR];exact a3E hm)
 ·refine VK _ ?_;obtain⟨ac,eH,hm⟩:=Ay.1 hm;obtain⟨p,aw⟩:=hg k x ay.1 hx ac eH;obtain⟨_,e⟩:=h.BQ ay hx eH aw;obtain⟨bW,jA⟩:=h.QJ ay hx eH;refine Ay.2 ⟨_,a3E eH,?_⟩;unfold rN at hm ⊢;simp only[];rw[e];cases hb:hJ T (cS T) k ac.1 ac.2 with
  |false=>
   rw[hb,cond_false] at hm;rw[cond_false,uT.1 hm];simp
  |true=>
   rw[hb] at jA;rw[hb,cond_true] at hm;rw[cond_true,cond_true];rcases dB.1 hm with rfl|hm
   ·simp
   ·rcases dB.1 hm with rfl|hm
    ·simp
    ·have:=(h.Jz (d:=kr T k+1) jA U).2 m hm;rw[this];simp
theorem hP.Pw:∀ {d m:Nat},T.length-m<=d->gr (s_ T) m->gr (s_ (ya T)) (fx T m)
 |d,m,hd,hm=>by
  have d0x:=kC hm;rcases h.Jv (bs _) hm with e|⟨k,x,md,ay,hx,wV⟩
  ·subst e;refine⟨(h.rO hm).1,?_⟩;exact a5f (T:=ya T) (c6R h.g.ne) _
  ·cases d with
   |zero=>have:=kC ay;omega
   |succ d=>
    have aH:=hP.Pw (d:=d) (m:=k) U ay;exact h.cut.Ao aH (h.at_ ay hx) _ (h.a0n hg ay hx wV)
theorem hP.fY{n:Nat}(h1:1<=n)(h2:n<=(ya T).length):gr (s_ (ya T)) n:=by
 obtain⟨m,_,hw,e⟩:=Aq (T:=T) (i:=T.length) (j:=n) (bs _) h1 h2;rw[<-e];exact h.Pw hg (bs _) hw
theorem hP.a0o:wy (ya T):=λk y h1 hy ac eH=>by
 obtain⟨n,x,hw,e,hx,rfl⟩:=h.ex h1 hy;obtain⟨d,hd,rfl⟩:=ti.1 (show ac∈x.cs.map _ from eH);obtain⟨p,aw⟩:=hg n x hw.1 hx d hd;exact⟨p,by rw[<-e];exact(h.BQ hw hx hd aw).1⟩
theorem hP.again:ya (ya T)=ya T:=by
 have ab:=h.cut;have AY:=h.a0o hg;have EZ:∀ {i:Nat},i<=(ya T).length->fx (ya T) i=i:=λ{i} hi=>by
  induction i with
  |zero=>rfl
  |succ i aH=>rw[wv U (h.fY hg U hi),aH U]
 have hl:(ya (ya T)).length=(ya T).length:=EZ (bs _);refine ml λj=>?_;by_cases ax:j<(ya T).length
 ·have hy:(ya T)[j+1-1]? =some (ya T)[j]:=fw ax;have hw:=h.fY hg (n:=j+1) U ax;have:=ab.at_ hw hy;rw[EZ ax] at this;refine this.trans (Eq.trans ?_ hy.symm)
  congr 1
  have FY:=h.EX (k:=j+1) U hy;have Gj:=AY (j+1) _ U hy;generalize(ya T)[j]=y at FY Gj;obtain⟨MO,GI,a5d,a5h,a5i,a5j⟩:=y;unfold an
  congr 1
  refine(mj λac eH=>?_).trans (List.map_id _);have n6:=FY.2 ac eH;obtain⟨p,aw⟩:=Gj ac eH;have e:cond (hJ (ya T) (cS (ya T)) (j+1) ac.1 ac.2) ac.1 ac.2=ac.1:=by
   cases hb:hJ (ya T) (cS (ya T)) (j+1) ac.1 ac.2 with
   |true=>rfl
   |false=>
    unfold il at aw;cases Px:p.cA with
    |true=>rw[Px,cond_true,hb] at aw;cases aw
    |false=>
     rw[Px,cond_false] at aw;unfold po at aw;simp only[C2,decide_eq_true_eq] at aw;exact aw.1.symm
  show(fx (ya T) (cond _ ac.1 ac.2),fx (ya T) ac.2)=ac;rw[e,EZ U,EZ U]
 ·rw[q1 U,q1 U]
theorem hP.c4w{n:Nat}{y:bg}(h1:1<=n)(hn:n<(ya T).length)(hy:(ya T)[n-1]? =some y):y.op≠0\/∃k z ac,(ya T)[k-1]? =some z/\ac∈z.cs/\(n=ac.1\/n=ac.2):=by
 have ab:=h.cut;rcases ab.Jv (bs _) (h.fY hg h1 U) with e|⟨k,z,a0E,ay,a6,hm⟩
 ·omega
 ·rcases tl.1 hm with hm|hm
  ·left;obtain⟨j,ax⟩:=SI.1 hm;have:=Ar (T:=ya T) (j:=j) (n:=n) (i:=n) (bs _) (d:=k-n) (by rw[show n+(k-n)=k by omega];exact ax);exact(ab.pG h1 hy n (NK _ (fL this))).2.2 I
  ·right;obtain⟨ac,eH,hm⟩:=Ay.1 hm;refine⟨k,z,ac,a6,eH,?_⟩;have n6:=(ab.g.wk k z U a6).2 ac eH;have mu:=(jK.1 a6).1;unfold rN at hm;cases hb:hJ (ya T) (cS (ya T)) k ac.1 ac.2 with
   |false=>rw[hb,cond_false] at hm;exact .inr (uT.1 hm)
   |true=>
    rw[hb,cond_true] at hm;rcases dB.1 hm with e|hm
    ·exact .inr e
    ·rcases dB.1 hm with e|hm
     ·exact .inl e
     ·rw[asm_one ab.hh n6.1 U U] at hm;split at hm
      ·split at hm
       ·exact .inl (uT.1 hm)
       ·cases hm
      ·cases hm
end
def iv(T:List bg):List Fm:=(T.filter λx=>x.hyp&&decide (x.br=0)).map bg.f
section
variable {T:List bg}
def Py:∀ {i:Nat},i<=T.length->(iv (cutS T i).2).Sublist (iv (T.take i))
 |0,_=>Gt _
 |i+1,hi=>by
  have aH:=Py (i:=i) U;have hx:T[i]? =some (T[i]'U):=fw U;rw[lO U,cutS,hx];generalize T[i]'U=x;simp only[];have e:iv (T.take i++[x])=iv (T.take i)++iv [x]:=by unfold iv;rw[B1,hQ]
  rw[e];cases(s_ T).getD i false with
  |false=>rw[cond_false];exact aH.trans (List.sublist_append_left _ _)
  |true=>
   rw[cond_true];have a5:∀(l:List bg) (z:bg),iv (l++[z])=iv l++iv [z]:=λl z=>by unfold iv;rw[B1,hQ]
   rw[a5];refine List.Sublist.append aH ?_;unfold iv;rw[u0,u0];show(List.map bg.f (if(x.hyp&&decide (x.br=0))=true then _ else _)).Sublist _;split
   ·exact Gt _
   ·exact Gt _
def hP.sub(h:hP T):(iv (ya T)).Sublist (iv T):=by
 have:=Py (T:=T) (bs _);rwa[B0] at this
def hP.last(h:hP T):fV (ya T) (ya T).length=fV T T.length:=by
 have aw:=pM.2 h.g.ne;have hw:gr (s_ T) T.length:=⟨aw,a5f h.g.ne _⟩
 exact(h.qh hw).1
end
end
section
variable [Tok][TokOk]
open Go.RowKit Go.Lyc.T
attribute [local irreducible] cg bL dC eu bE
abbrev jW(F:Fm):AV:=.R (jG F)
def p2(T:List bg):AV:=.a0 [.R [slA false (some 4) ((iv T).map jW),slA false (some 4) [jW (fV T T.length)]],ah 0]
def a0p(l:List bg)(x:bg):iv (l++[x])=iv l++cond (x.hyp&&decide (x.br=0)) [x.f] []:=by
 unfold iv;rw[B1,hQ]
 congr 1
 rw[u0];cases x.hyp&&decide (x.br=0)<;>rfl
structure JL(T:List bg)(p:Nat)(i:Nat)(τ:ae):Prop where
 h1:τ.get 1=some (.cells [.af,.af])
 du:∃du,τ.get p=some (.cells [du,.af])/\Sl τ (some 4) du ((iv (T.take i)).map jW)/\(∀o,du.at? =some o->p<o)/\(iv (T.take i)=[]->du= .af)
def Sl.JM{J:ae}{aa:Option Nat}{v:AV}{xs:List AV}(h:Sl J aa v xs):v.cells=[v]/\v.val=true/\Go.Lyc.conf none v=true/\v.lf=true:=by cases h<;>exact⟨rfl,rfl,rfl,rfl⟩
def a1C{J:ae}{n:Nat}(F:Fm):freeze J 0 (n+2) (.R (jG F))=some (.R (jG F)):=by
 rw[freeze_succ];show(match mapO (Go.Lyc.freeze J 0 (n+1)) _ with|none=>none|some l=>some (AV.R l))=_;have h1:freeze J 0 (n+1) (gG false F.fl)=some (gG false F.fl):=by cases F.fl<;>rfl
 have h2:freeze J 0 (n+1) (gp false F.e4)=some (gp false F.e4):=by cases F.e4<;>rfl
 rw[mapO_cons,mapO_cons,mapO_cons,mapO_cons,h1,h2];rfl
def JN{J:ae}{n:Nat}:∀l:List Fm,mapO (freeze J 0 (n+2)) (l.map λF=>.R (jG F))=some (l.map λF=>.R (jG F))
 |[]=>rfl
 |F::l=>by rw[uW,mapO_cons,a1C,JN l]
section
variable {b:bT}{K:Nat->List AV->AV->Prop}(hfn:∀g aQ r b5,K g aQ r->K g aQ b5->r=b5)
include hfn
theorem a3h{T:List bg}(a7:T≠[])(bI:T.length<=500)(lR:∀J,bM J (b.bp+1000) (cG T)=some (cG T)){l:iF}(ni:∀J,bM J (b.bp+1000) (l.A true)=some (l.A true))(dt:b.ext jT=0/\b.pure jT=true)(Cn:K jT [l.A true,cG T] (x7 0 0 0 0 0 0))(rL:b.ext ma=0/\b.pure ma=true)(m5:∀x∈T,K ma [x.f.A true] (x.f.A false))(lp:∀x∈T,x.f.dep<=200)(body:bF)(hb:b6T.body=some body):
  ak (b.aM K) b6T.ntmps body (fv [l.A true,cG T]) ⟨.nil,0⟩ (uv b6T.results (p2 T)):=by
 cases hb;refine W.jD λz H=>?_;have aw:=pM.2 a7;refine aj ?_;refine W.cA (c:=l.cells true) H I I I I I I λec cP H bx=>?_;refine aj ?_;refine W.cC (c:=[.af,.af]) H cP I I I λa9 c8 H bb=>?_;refine aj ?_;refine W.e3 hfn dt Cn I I I (nF (ni _) (lR _)) ?_;refine aj ?_;refine W.jj (c:=[ah 0,.i .u8 (Int.ofNat 0),.i .u8 (Int.ofNat 0),ah 0,ah 0]) H c8 I I I I I I λbu er H k3=>?_;refine aj ?_;refine W.cC (c:=[.af,.af]) H er I I I λcm e_ H b1=>?_;refine aj ?_;show bL _ _ _ _ _ _ _ _;have h0:JL T 3 0 cm:=⟨H.get _ (.tail _ (.tail _ (.head _))),.af,H.get _ (.head _),.nil,λo h=>(by cases h),λ_=>rfl⟩
 have j6:3<cm.next:=by rw[e_];decide
 refine ak.each T.length (λi F aB=>JL T 3 i aB/\3<aB.next/\sat [(21,cG T),(8,aE 3),(4,aE 1),(1,cG T)] F) U ⟨h0,j6,rfl,rfl,rfl,rfl,trivial⟩ I I (λi F aB hi aW r5 hm=>?_) (λF aB aW r5=>?_)
 ·obtain⟨h,j6,Pz,gM,cX,bU,_⟩:=aW;refine ak.norm [(23,ah i),(22,ah T.length),(21,cG T),(8,aE 3),(4,aE 1),(1,cG T)] ⟨r5,hm,Pz,gM,cX,bU,trivial⟩ λF=>?_;have hx:T[i]? =some T[i]:=fw hi;have xR:T[i]∈T:=gC hi;have iq:iv (T.take (i+1))=iv (T.take i)++cond (T[i].hyp&&decide (T[i].br=0)) [T[i].f] []:=by rw[lO hi,a0p]
  have m5:=m5 _ xR;have lp:=lp _ xR;have hlen:(iv (T.take i)).length<=i:=by
   unfold iv;rw[uV];have:=E6 (λx:bg=>x.hyp&&decide (x.br=0)) (T.take i);rw[fe] at this;omega
  obtain⟨du,QK,xu,nw,nz⟩:=h.du;have H:Has aB [(3,[du,.af]),(1,[.af,.af])]:=(Has.nil.cons h.h1 aF).cons QK aF;refine aj ?_;generalize T[i]=x at hx m5 lp iq;generalize mF:aB.next=m at j6;refine W.jj (c:=[ah x.br,ah x.op,.b x.hyp,fa x.f.op,.s x.f.name,gG true x.f.fl,gp true x.f.e4,.s x.c2,hI true x.cs]) H mF I I I I I I λdg iW H c9=>?_;refine aj ?_;have a5k:∀o,3<=m:=λ_=>by omega
  have a3j:=c9 _ _ h.h1;have c1g:=c9 _ _ QK;have no:(x.hyp&&decide (x.br=0))=false->JL T 3 (i+1) dg:=λe=>⟨a3j,du,c1g,by rw[iq,e,cond_false,iL];exact xu.aP λi o _=>c9 i o,nw,λq=>nz (by rw[iq,e,cond_false,iL] at q;exact q)⟩
  cases hh:x.hyp with
  |false=>
   refine aj ?_;exact⟨rfl,rfl,no (by rw[hh];rfl),U,rfl,rfl,rfl,rfl,trivial⟩
  |true=>
   by_cases hd:x.br=0
   ·have e:(x.hyp&&decide (x.br=0))=true:=by rw[hh,decide_eq_true hd];rfl
    refine e5 ?_;refine W.nil (W.lL I ?_);have HB:hK dg [(3,[du,.af])]:=hK.nil.cons c1g;refine W.wb [(3,[du,.af])] [6] 9 I I ?_;refine fO ?_;rw[sW] at m5;obtain⟨eb,iS,c7S,PA⟩:=xu.JM;refine W.RV HB (.head _) I I I I I (ev PA) ?_;refine fO ?_;refine W.e3 hfn rL m5 I I I (k_ (by show bM dg (b.bp+1000) (.R (bN x.f))=_;rw[<-jk];exact Fm.snap dg true _ _ _ (bs _) U)) ?_;refine fO ?_;refine W.bK (c:=jG x.f) H iW I I I λeA jf H et=>?_;have JO:∀i o,aB.get i=some o->eA.get i=some o:=λi o ho=>et _ _ (c9 _ _ ho);refine W.mO (HB.aP et) I ?_;refine W.ap (w:=.al (m+1) 0 1 (some 4) (some 1)) (jW x.f) [] (xu.aP λi o _=>JO i o) (by
     show(match eA.get (m+1) with|some (.cells c)=>elems (some 4) 1 (c.drop 0)|_=>none)=_;rw[H.get _ (.head _)];rfl) (λz a6=>by rw[uT.1 a6];rfl) (by rw[uV];simp only[CZ,lg];omega) I I I I λbR eW aX bc cq k6 gk=>?_
    have mY:∀j,j<=3->du.at? ≠some j:=λj ax e=>by have:=nw _ e;omega
    have pr:=gk _ _ (mY 3 (bs _)) (JO _ _ QK);have nh:=gk _ _ (mY 1 bw) (JO _ _ h.h1);clear H;have H:Has eW [(3,[du,.af]),(1,[.af,.af])]:=(Has.nil.cons nh aF).cons pr aF;obtain⟨lq,nW,a3k,a5l⟩:=aX.JM;refine fO ?_;refine W.st (bD:=[bR,.af]) H 0 I I I I a3k (by rw[lq];rfl) λfI vq H pt=>?_;refine aj ?_;have a5m:eA.next=m+2:=jf;refine⟨rfl,rfl,⟨H.get _ (.tail _ (.head _)),bR,H.get _ (.head _),?_,λo ho=>by rw[bc] at ho;cases ho;omega,λq=>?_⟩,U,rfl,rfl,rfl,rfl,trivial⟩
    ·rw[iq,e,cond_true,hQ];exact aX.aP λi o hi ho=>pt _ _ (λe=>by rw[bc] at hi;cases hi;omega) ho
    ·rw[iq,e,cond_true] at q;exact absurd q aF
   ·refine aj ?_;exact⟨rfl,rfl,no (by rw[hh,decide_eq_false hd];rfl),U,rfl,rfl,rfl,rfl,trivial⟩
 ·obtain⟨h,j6,Pz,gM,cX,bU,_⟩:=aW;refine ak.norm [(8,aE 3),(4,aE 1),(1,cG T)] ⟨gM,cX,bU,trivial⟩ λF=>?_;obtain⟨du,QK,xu,nw,nz⟩:=h.du;have H:Has aB [(3,[du,.af]),(1,[.af,.af])]:=(Has.nil.cons h.h1 aF).cons QK aF;refine aj ?_;have xR:T[T.length-1]'U∈T:=gC _;have m5:=m5 _ xR;have lp:=lp _ xR;have uL:fV T T.length=(T[T.length-1]'U).f:=Cd aw (bs _);generalize T[T.length-1]'U=x at m5 lp uL;rw[sW] at m5;refine W.e3 hfn rL m5 I I I (k_ (by show bM aB (b.bp+1000) (.R (bN x.f))=_;rw[<-jk];exact Fm.snap aB true _ _ _ (bs _) U)) ?_;refine aj ?_;generalize mF:aB.next=m at j6;refine W.bK (c:=jG x.f) H mF I I I λdg iW H c9=>?_;refine aj ?_;obtain⟨eb,iS,c7S,PA⟩:=xu.JM;refine W.st (bD:=[du,.al m 0 1 (some 4) (some 1)]) H 1 I I I I I (by rfl) λeA jf H et=>?_;refine aj ?_;refine W.st (bD:=[du,.al m 0 1 (some 4) (some 1)]) H 2 I I I I I (by rfl) λeW k6 H gk=>?_;refine aj ?_;have w3:m≠1/\m≠3:=by omega
  have c7:∀i o,i≠1->i≠3->aB.get i=some o->eW.get i=some o:=λi o h1 h3 ho=>gk _ _ h1 (et _ _ h3 (c9 _ _ ho));have KU:=xu.aP (τ:=eW) λi o hi ho=>c7 i o (λe=>by have:=nw i hi;omega) (λe=>by have:=nw i hi;omega) ho;refine ak.ret ⟨rfl,_,jF (gI I (H.get _ (.tail _ (.tail _ (.head _)))) I) (ku I),?_⟩;rw[Rx U] at KU nz;have f1:freeze eW 0 998 du=some (slA false (some 4) ((iv T).map jW)):=by
   cases FK:iv T with
   |nil=>rw[nz FK];rfl
   |cons a l=>
    rw[FK] at KU;have:=KU.freeze (n:=997) (JN (n:=995) (a::l));rw[this];unfold Ch;generalize dG:(a::l).map jW=xs at KU;cases KU with
    |nil=>cases dG
    |al o cap xs rest hg ab ay=>rw[<-dG];rfl
  have f2:freeze eW 0 998 (.al m 0 1 (some 4) (some 1))=some (slA false (some 4) [jW x.f]):=by
   have:Sl eW (some 4) (.al m 0 1 (some 4) (some 1)) [jW x.f]:=.al m (some 1) [jW x.f] [] (H.get _ (.head _)) (λy hy=>by rw[uT.1 hy];rfl) (.inr I);exact this.freeze (n:=997) (JN (n:=995) [x.f])
  rw[freeze_succ];show(match mapO (Go.Lyc.freeze eW 0 999) [.R [du,.al m 0 1 (some 4) (some 1)],ah 0] with|none=>none|some l=>some (AV.a0 l))=_;have f3:freeze eW 0 999 (.R [du,.al m 0 1 (some 4) (some 1)])=some (.R [slA false (some 4) ((iv T).map jW),slA false (some 4) [jW x.f]]):=by
   rw[freeze_succ];show(match mapO (Go.Lyc.freeze eW 0 998) [du,.al m 0 1 (some 4) (some 1)] with|none=>none|some l=>some (AV.R l))=_;rw[mapO_cons,f1,mapO_cons,f2];rfl
  rw[mapO_cons,f3];unfold p2;rw[uL];rfl
end
section
variable {b:bT}{K:Nat->List AV->AV->Prop}(hfn:∀g aQ r b5,K g aQ r->K g aQ b5->r=b5)
include hfn
theorem a3l{T:List bg}(bI:T.length<=500)(h5:∀x∈T,x.cs.length<2^20)(es:b.ext ub=0/\b.pure ub=true)(QN:∀x∈T,K ub [x.f.A true,x.f.A true] (.b true))(lp:∀x∈T,x.f.dep<=200)(body:bF)(hb:Yy.body=some body):
  ak (b.aM K) Yy.ntmps body (fv [cG T,cG T]) ⟨.nil,0⟩ (jU 4 (.b true)):=by
 cases hb;refine W.jD λz H=>?_;refine aj ?_;refine ak.each T.length (λi F τ=>sat [(14,cG T),(0,cG T),(1,cG T)] F) U dp I I (λi F τ hi aW r5 hm=>?_) (λF τ aW r5=>?_)
 ·obtain⟨me,c5,bU,_⟩:=aW;refine ak.norm [(16,ah i),(15,ah T.length),(14,cG T),(0,cG T),(1,cG T)] ⟨r5,hm,me,c5,bU,trivial⟩ λF=>?_;have xR:T[i]∈T:=gC hi;have h5:=h5 _ xR;have QN:=QN _ xR;have lp:=lp _ xR;have H:Has τ []:=Has.nil;refine aj ?_;generalize mF:τ.next=m;refine W.cC (k:=m) (c:=[ah 0,ah 0,.b false,.i .u8 0,.s [],.af,.af,.s [],.af]) H mF I I I λec cP H bx=>?_;refine e5 ?_;refine W.st (bD:=[ah T[i].br,ah T[i].op,.b T[i].hyp,.i .u8 (Int.ofNat T[i].f.op),.s T[i].f.name,gG true T[i].f.fl,gp true T[i].f.e4,.s T[i].c2,hI true T[i].cs]) H 0 I I I I I I λa9 c8 H bb=>?_;have c8:a9.next=m+1:=by omega
  refine aj ?_;generalize T[i]=x at h5 QN lp H;refine W.jj (c:=[ah x.br,ah x.op,.b x.hyp,fa x.f.op,.s x.f.name,gG true x.f.fl,gp true x.f.e4,.s x.c2,hI true x.cs]) H c8 I I I I I I λbu er H k3=>?_;obtain⟨B9,q6,Kn,a0z,B_,hp⟩:=x;have g3:binop .neq (.s B_) (.s B_)=some (.b false):=by
   show some (AV.b (!eqL B_ B_))=_;rw[IM];rfl
  have a3m:K ub [.R (bN a0z),.R (bN a0z)] (.b true):=by have:=QN;rw[jk] at this;exact this
  have lR:∀τ,bM τ (b.bp+1000) (.R (bN a0z))=some (.R (bN a0z)):=λτ=>by rw[<-jk];exact Fm.snap τ true _ a0z _ (bs _) (by have:a0z.dep<=200:=lp;omega)
  cases Kn
  all_goals
   refine aj ?_;refine W.bin I I I I g3 ?_;refine aj ?_;refine W.e3 hfn es a3m I I I (nF (lR _) (lR _)) ?_;refine aj ?_;have cx:=H.get _ (.tail _ (.head _));have dI:=H.get _ (.head _);refine ak.each hp.length (λj F aB=>(bu.next<=aB.next/\∀i o,bu.get i=some o->aB.get i=some o)/\sat [(69,hI true hp),(7,aE (m+1)),(6,aE m),(16,ah i),(15,ah T.length),(14,cG T),(0,cG T),(1,cG T)] F) (by have:hp.length<2^20:=h5;omega) ⟨⟨bs _,λ_ _ h=>h⟩,rfl,rfl,rfl,rfl,rfl,rfl,rfl,rfl,trivial⟩ I I (λj F aB ax iX gK d0v=>?_) (λF aB iX gK=>?_)
   ·obtain⟨⟨e3,dr⟩,b9j,hH,gU,v7,sS,me,c5,bU,_⟩:=iX;refine ak.norm [(71,ah j),(70,ah hp.length),(69,hI true hp),(7,aE (m+1)),(6,aE m),(16,ah i),(15,ah T.length),(14,cG T),(0,cG T),(1,cG T)] ⟨gK,d0v,b9j,hH,gU,v7,sS,me,c5,bU,trivial⟩ λF=>?_;have H:Has aB [(m+1,_),(m,_)]:=(Has.nil.cons (dr _ _ cx) aF).cons (dr _ _ dI) aF;refine aj ?_;refine W.lM (congrArg (λb=>some (AV.b b)) (show(cond true (!(decide (_=_)&&(decide (_=_)&&true))) _)=false by simp)) ?_;refine ak.skip ?_;exact⟨rfl,rfl,⟨e3,dr⟩,rfl,rfl,rfl,rfl,rfl,rfl,rfl,rfl,trivial⟩
   ·obtain⟨_,b9j,hH,gU,v7,sS,me,c5,bU,_⟩:=iX;exact⟨v7,sS,me,c5,bU,trivial⟩
 ·refine ak.norm [] trivial λF=>?_;have H:Has τ []:=Has.nil;refine aj ?_;exact ak.ret ⟨rfl,rfl⟩
end
def BS{J:ae}{n:Nat}{F:Fm}(h:2*F.dep+8<=n):bM J n (.R (jG F))=some (.R (bN F)):=by
 have:=Fm.snap J false _ F n (bs _) U;rw[sW,jk] at this;exact this
def a4z{J:ae}{n:Nat}{x:bg}(h:2*x.f.dep+12<=n):bM J n x.F=some x.A:=by
 obtain⟨n,rfl⟩:∃m,n=m+5:=⟨n-5,U⟩
 obtain⟨e2,aX,bc⟩:=zl (BS (J:=J) (n:=n+5) (F:=x.f) U);injection bc with bc
 subst bc;have h2:bM J (n+4) (hI false x.cs)=some (hI true x.cs):=by
  cases ab:x.cs with
  |nil=>rfl
  |cons c l=>
   show bM J (n+4) (.a_ false (some 2) ((c::l).map qE))=some (.a_ true (some 2) ((c::l).map qE));have:mapO (bM J (n+3)) ((c::l).map qE)=some ((c::l).map qE):=by
    have:=zO (f:=bM J (n+3)) (g:=λx=>x) (l:=(c::l).map qE) λy hy=>by
     obtain⟨d,_,rfl⟩:=ti.1 hy;rfl
    rwa[Ka] at this
   rw[snapshot_succ];show(match mapO (bM J (n+3)) ((c::l).map qE) with|none=>none|some l=>some (AV.a_ true (some 2) l))=_;rw[this]
 refine ox (l:=[ah x.br,ah x.op,.b x.hyp]++(jG x.f++[.s x.c2,hI false x.cs])) (cu:=[ah x.br,ah x.op,.b x.hyp]++(bN x.f++[.s x.c2,hI true x.cs])) ?_;refine xQ (l:=[ah x.br,ah x.op,.b x.hyp]) (r:=[ah x.br,ah x.op,.b x.hyp]) I (xQ aX ?_);rw[mapO_cons,mapO_cons,h2];rfl
def a4B{J:ae}{n:Nat}{T:List bg}(a7:T≠[])(h:∀x∈T,2*x.f.dep+13<=n):bM J n (wq T)=some (cG T):=by
 cases T with
 |nil=>exact absurd I a7
 |cons x l=>
  obtain⟨n,rfl⟩:∃m,n=m+1:=⟨n-1,by have:=h x aF;omega⟩
  have hm:mapO (bM J n) ((x::l).map bg.F)=some ((x::l).map bg.A):=zP (by rw[uV,uV]) λi h1 h2=>by
   rw[uV] at h2;rw[mQ,mQ];exact a4z (by have:=h _ (gC h2);omega)
  rw[snapshot_succ];show(match mapO (bM J n) ((x::l).map bg.F) with|none=>none|some l=>some (AV.a_ true (some 9) l))=_;rw[hm]
def PB:bF:=match qg.body with|some c=>c|none=>.skip
def a4C{P:List Fm}{f:Fm}{r:List Fm}{a:Nat}(h:(f::r).Sublist (P.drop a)):∃ha:a<P.length,(P[a]=f->r.Sublist (P.drop (a+1)))/\(P[a]≠f->(f::r).Sublist (P.drop (a+1))):=by
 have hl:=h.length_le;rw[List.length_drop] at hl;have ha:a<P.length:=by simp only[CZ] at hl;omega
 refine⟨ha,?_⟩;rw[P5 ha] at h;constructor
 ·intro e;cases h with
  |cons _ h=>exact(List.sublist_cons_self f r).trans h
  |cons_cons _ h=>exact h
 ·intro e;cases h with
  |cons _ h=>exact h
  |cons_cons _ h=>exact absurd I e
section
variable {b:bT}{K:Nat->List AV->AV->Prop}(hfn:∀g aQ r b5,K g aQ r->K g aQ b5->r=b5)(es:b.ext ub=0/\b.pure ub=true)
include hfn es
theorem a4D{nr P:List Fm}(e8:nr.Sublist P)(QN:∀F∈P,∀G∈P,∃t,K ub [F.A true,G.A true] (.b t)/\(t=true↔F=G))(hd:∀F∈P,F.dep<=40)(b7y:P.length<=500){τ:ae}{q:Nat}{c1x PC v6:AV}(h1:τ.get q=some (.cells [slA false (some 4) (P.map jW),c1x]))(h2:τ.get (q+1)=some (.cells [slA false (some 4) (nr.map jW),PC])){z:Nat->AV}{Q:dZ}
  (b6:∀F aB,(∀i o,τ.get i=some o->aB.get i=some o)->sat [(6,v6)] F->Q .normal F aB):
  bL (b.aM K) none [] qg.ntmps (hN [1,1,1,1,1,1,1,1,1,0] PB) (bB [(14,ah 0),(12,aE (q+1)),(10,aE q),(6,v6)] z) τ Q:=by
 have H:Has τ [(q+1,[slA false (some 4) (nr.map jW),PC]),(q,[slA false (some 4) (P.map jW),c1x])]:=(Has.nil.cons h1 aF).cons h2 aF;have pb:=e8.length_le;refine W.sq ?_;refine aj ?_;show bL _ _ _ _ _ _ _ _;refine ak.each nr.length (λj F aB=>∃a,(nr.drop j).Sublist (P.drop a)/\a<=P.length/\(∀i o,τ.get i=some o->aB.get i=some o)/\sat [(109,slA false (some 4) (nr.map jW)),(14,ah a),(12,aE (q+1)),(10,aE q),(6,v6)] F) U ⟨0,e8,rU _,λ_ _ h=>h,rfl,rfl,rfl,rfl,rfl,trivial⟩ I I (λj F aB ax aW gK hm=>?_) (λF aB aW gK=>?_)
 ·obtain⟨a,ao,ha,dr,PD,me,qA,uz,gU,_⟩:=aW;refine ak.norm [(111,ah j),(110,ah nr.length),(109,slA false (some 4) (nr.map jW)),(14,ah a),(12,aE (q+1)),(10,aE q),(6,v6)] ⟨gK,hm,PD,me,qA,uz,gU,trivial⟩ λF=>?_;rw[P5 ax] at ao;have JP:nr[j]∈P:=e8.subset (gC ax);have H:Has aB [(q,[slA false (some 4) (P.map jW),c1x])]:=Has.nil.cons (dr _ _ h1) aF;refine aj ?_;generalize nr[j]=f at ao JP;generalize mF:aB.next=m;refine W.jj (c:=jG f) H mF I I I I I I λdg iW H c9=>?_;refine aj ?_;have a4E:=c9 _ _ (dr _ _ h1);have c2R:=H.get _ (.head _);have a4w:m≠q:=by have:=ae.bt (dr _ _ h1);omega
  have yC:=hd f JP;refine ak.block ?_;refine ak.loop (λn F eA=>∃a,a+n=P.length/\(f::nr.drop (j+1)).Sublist (P.drop a)/\(∀i o,dg.get i=some o->eA.get i=some o)/\sat [(16,aE m),(111,ah j),(110,ah nr.length),(109,slA false (some 4) (nr.map jW)),(14,ah a),(12,aE (q+1)),(10,aE q),(6,v6)] F) ?_ (P.length-a) ⟨a,U,ao,λ_ _ h=>h,rfl,rfl,rfl,rfl,rfl,rfl,rfl,rfl,trivial⟩;rintro n b5d eA ⟨a,b7C,ao,et,a0V⟩;refine ak.norm _ a0V λF=>?_;clear a0V;obtain⟨ha,p9,oh⟩:=a4C ao;obtain⟨n,rfl⟩:∃k,n=k+1:=⟨n-1,U⟩
  clear H;have H:Has eA [(m,jG f),(q,[slA false (some 4) (P.map jW),c1x])]:=(Has.nil.cons (et _ _ a4E) aF).cons (et _ _ c2R) (by simp;exact λe=>a4w e.symm);obtain⟨t,c0,ht⟩:=QN P[a] (gC ha) f JP;have b7D:=hd P[a] (gC ha);rw[jk,jk] at c0;refine eT ?_;refine W.RX [] 15 I I ?_;have HB:hK eA []:=hK.nil;refine fO ?_;refine W.e3 hfn es c0 I I I (nF (BS (by show _<=b.bp+1000;omega)) (BS (by show _<=b.bp+1000;omega))) ?_;cases t with
  |true=>
   refine aj ?_;refine ak.exit ?_;refine aj ?_;exact⟨rfl,rfl,a+1,p9 (ht.1 I),U,λi o ho=>et _ _ (c9 _ _ (dr _ _ ho)),rfl,rfl,rfl,rfl,rfl,trivial⟩
  |false=>
   refine aj ?_;exact⟨n,U,a+1,U,oh (λe=>by have:=ht.2 e;cases this),et,rfl,rfl,rfl,rfl,rfl,rfl,rfl,rfl,trivial⟩
 ·obtain⟨a,ao,ha,dr,PD,me,qA,uz,gU,_⟩:=aW;exact b6 _ _ dr ⟨gU,trivial⟩
end
def PE{L:List bg}{j:Nat}(h:j<L.length):idxSlA (some 9) (wq L) j=some (.dh false (L[j]).F):=by
 have:=zj (o:=false) (aa:=some 9) (f:=bg.F) h;cases L with
 |nil=>simp at h
 |cons x l=>exact this
def PG(T:List bg)(i:Nat)(S:List Bool):Prop:=∀k z ac,k<i->T[k]? =some z->ac∈z.cs->S[ac.1]? =some true/\S[ac.2]? =some true
def rQ{S:List Bool}{i n:Nat}(h:S[i]? =some true):(S.set n true)[i]? =some true:=by
 obtain⟨hi,_⟩:=jK.1 h;rw[Rz];split
 ·rw[if_pos U]
 ·exact h
section
variable {b:bT}{K:Nat->List AV->AV->Prop}(hfn:∀g aQ r b5,K g aQ r->K g aQ b5->r=b5)(a4A:b.ext xr=0/\b.pure xr=true)(LC:K xr [] (.b true))
include hfn a4A LC
theorem a4O{T:List bg}(a7:0<T.length)(bI:T.length<=500)(FY:∀k y,1<=k->T[k-1]? =some y->oG k y.cs)(Gj:∀n y,1<=n->n<T.length->T[n-1]? =some y->y.op≠0\/∃k z ac,T[k-1]? =some z/\ac∈z.cs/\(n=ac.1\/n=ac.2)){τ:ae}{z:Nat->AV}:
  bL (b.aM K) none [] qg.ntmps (hN [1,1,1,1,1,1,1,1,1,1] PB) (bB [(6,wq T)] z) τ (jU 2 (.b true)):=by
 have H:Has τ []:=Has.nil;have aL:(T.map bg.F).length=T.length:=uV _;refine W.sq ?_;refine aj ?_;generalize aV:τ.next=q;rw[aL];refine W.mk H aV U U I I I I λbu er H k3=>?_;refine aj ?_;show bL _ _ _ _ _ _ _ _;rw[aL];have b4B:bu.get q=some (.cells ((List.replicate (T.length+1) false).map AV.b)):=by rw[Ry];exact H.get _ (.head _)
 refine ak.each T.length (λi F aB=>∃S:List Bool,S.length=T.length+1/\PG T i S/\aB.get q=some (.cells (S.map AV.b))/\q<aB.next/\sat [(144,wq T),(17,.al q 0 (T.length+1) none (some (T.length+1))),(6,wq T)] F) U ⟨_,qk,λk _ _ ay=>by omega,b4B,U,rfl,rfl,rfl,trivial⟩ I I (λi F aB hi aW r5 hm=>?_) (λF aB aW r5=>?_)
 ·obtain⟨S,Am,cQ,qj,b4A,yc,rR,gU,_⟩:=aW;refine ak.norm [(146,ah i),(145,ah T.length),(144,wq T),(17,.al q 0 (T.length+1) none (some (T.length+1))),(6,wq T)] ⟨r5,hm,yc,rR,gU,trivial⟩ λF=>?_;have hx:T[i]? =some T[i]:=fw hi;have mw:=FY (i+1) _ U hx;have H:Has aB [(q,S.map AV.b)]:=Has.nil.cons qj aF;refine aj ?_;refine W.eR I I I I (PE hi) ?_;refine aj ?_;generalize T[i]=x at hx mw;generalize mF:aB.next=m at b4A;refine W.jj (c:=[ah x.br,ah x.op,.b x.hyp,fa x.f.op,.s x.f.name,gG false x.f.fl,gp false x.f.e4,.s x.c2,hI false x.cs]) H mF I I I I I I λdg iW H c9=>?_;refine aj ?_;refine ak.each x.cs.length (λj F aB=>∃S:List Bool,S.length=T.length+1/\PG T i S/\(∀ac∈x.cs.take j,S[ac.1]? =some true/\S[ac.2]? =some true)/\aB.get q=some (.cells (S.map AV.b))/\q<aB.next/\sat [(151,hI false x.cs),(146,ah i),(145,ah T.length),(144,wq T),(17,.al q 0 (T.length+1) none (some (T.length+1))),(6,wq T)] F) (by have:=mw.1;omega) ⟨S,Am,cQ,λac eH=>by simp at eH,H.get _ (.tail _ (.head _)),U,rfl,rfl,rfl,rfl,rfl,rfl,trivial⟩ I I (λj F aB ax iX gK d0v=>?_) (λF aB iX gK=>?_)
  ·obtain⟨S,Am,cQ,GD,qj,b4A,PH,JQ,JZ,yc,rR,gU,_⟩:=iX;refine ak.norm [(153,ah j),(152,ah x.cs.length),(151,hI false x.cs),(146,ah i),(145,ah T.length),(144,wq T),(17,.al q 0 (T.length+1) none (some (T.length+1))),(6,wq T)] ⟨gK,d0v,PH,JQ,JZ,yc,rR,gU,trivial⟩ λF=>?_;obtain⟨hU,m4,qg⟩:=mw.2 _ (gC ax);have iq:x.cs.take (j+1)=x.cs.take j++[x.cs[j]]:=lO ax;have H:Has aB [(q,S.map AV.b)]:=Has.nil.cons qj aF;refine aj ?_;generalize x.cs[j]=ac at hU m4 qg iq;generalize a4P:aB.next=o_ at b4A;refine W.jj (c:=[ah ac.1,ah ac.2]) H a4P I I I I I I λeA jf H et=>?_;refine aj ?_;refine W.eR I I I I (m7 U) ?_;refine W.st (bD:=(S.set ac.1 true).map AV.b) H 1 I I I I I (a0C U) λeW k6 H gk=>?_;refine W.eR I I I I (m7 U) ?_;refine W.now (_::_) _ I I ⟨H.get _ (.head _),trivial⟩ ?_;refine W.st (bD:=((S.set ac.1 true).set ac.2 true).map AV.b) H 1 I I I I I (a0C (by rw[ib];omega)) λfI vq H pt=>?_;refine aj ?_;refine⟨rfl,rfl,(S.set ac.1 true).set ac.2 true,by rw[ib,ib,Am],λk z BT ay a6 HJ=>⟨rQ (rQ (cQ k z BT ay a6 HJ).1),rQ (rQ (cQ k z BT ay a6 HJ).2)⟩,λBT HJ=>?_,H.get _ (.tail _ (.head _)),U,rfl,rfl,rfl,rfl,rfl,rfl,trivial⟩;rw[iq] at HJ;rcases tl.1 HJ with HJ|HJ
   ·exact⟨rQ (rQ (GD BT HJ).1),rQ (rQ (GD BT HJ).2)⟩
   ·rw[uT.1 HJ];refine⟨rQ ?_,?_⟩
    ·rw[Rz,if_pos I,if_pos U]
    ·rw[Rz,if_pos I,if_pos (by rw[ib];omega)]
  ·obtain⟨S,Am,cQ,GD,qj,b4A,PH,JQ,JZ,yc,rR,gU,_⟩:=iX;refine⟨JQ,JZ,S,Am,λk z ac ay a6 eH=>?_,qj,b4A,yc,rR,gU,trivial⟩;by_cases LS:k=i
   ·subst LS;rw[hx] at a6;cases a6;exact GD ac (by rw[B0];exact eH)
   ·exact cQ k z ac U a6 eH
 ·obtain⟨S,Am,cQ,qj,b4A,yc,rR,gU,_⟩:=aW;refine ak.norm [(17,.al q 0 (T.length+1) none (some (T.length+1))),(6,wq T)] ⟨rR,gU,trivial⟩ λF=>?_;have H:Has aB [(q,S.map AV.b)]:=Has.nil.cons qj aF;refine aj ?_;rw[aL];refine W.val (v:=wq (T.take (T.length-1))) (ai:=aB) I I (by
   show(match(if(Nat.ble 0 (T.length-1)&&Nat.ble (T.length-1) (T.map bg.F).length)=true then some (AV.a_ false (some 9) (((T.map bg.F).drop 0).take (T.length-1-0))) else none) with|some v=>some (bZ.val v aB)|none=>none)=_;rw[if_pos (by rw[iR (rU _),iR U];rfl),He,OR,← G9]) ?_
  refine aj ?_;have iB:((T.take (T.length-1)).map bg.F).length=T.length-1:=by rw[uV,fe];omega
  rw[iB];refine ak.each (T.length-1) (λi F a9=>a9.get q=some (.cells (S.map AV.b))/\sat [(188,wq (T.take (T.length-1))),(17,.al q 0 (T.length+1) none (some (T.length+1)))] F) U ⟨qj,rfl,rfl,trivial⟩ I I (λi F a9 hi iX gK d0v=>?_) (λF a9 iX gK=>?_)
  ·obtain⟨qj,a2G,rR,_⟩:=iX;refine ak.norm [(190,ah i),(189,ah (T.length-1)),(188,wq (T.take (T.length-1))),(17,.al q 0 (T.length+1) none (some (T.length+1)))] ⟨gK,d0v,a2G,rR,trivial⟩ λF=>?_;have Ks:i+1<S.length:=by omega
   have tG:i<(T.take (T.length-1)).length:=by rw[fe];omega
   have hx:T[i]? =some (T[i]'U):=fw U;have w2:=Gj (i+1) _ U U hx;have H:Has a9 [(q,S.map AV.b)]:=Has.nil.cons qj aF;have kT:=PE tG;rw[MH] at kT;refine aj ?_;refine W.eR I I I I kT ?_;refine aj ?_;generalize T[i]'U=x at hx w2;generalize mF:a9.next=m;refine W.cC (k:=m) (c:=[ah 0,ah 0,.b false,.i .u8 0,.s [],.af,.af,.s [],.af]) H mF I I I λdg iW H c9=>?_;refine e5 ?_;refine W.st (bD:=[ah x.br,ah x.op,.b x.hyp,fa x.f.op,.s x.f.name,gG false x.f.fl,gp false x.f.e4,.s x.c2,hI false x.cs]) H 0 I I I I I I λeA jf H et=>?_;refine aj ?_;refine W.eR I I I I (m7 U) ?_;refine W.aA H I I I (.tail _ (.head _)) (Qj Ks) ?_;have PI:x.op≠0\/S[i+1]'Ks=true:=by
    rcases w2 with h|⟨k,z,ac,a6,eH,hn⟩
    ·exact .inl h
    ·right;have ay:=(jK.1 a6).1;obtain⟨s1,s2⟩:=cQ (k-1) z ac ay a6 eH;rcases hn with e|e
     ·rw[<-e] at s1;exact(jK.1 s1).2
     ·rw[<-e] at s2;exact(jK.1 s2).2
   generalize S[i+1]'Ks=t at PI;cases t with
   |true=>
    refine aj ?_;exact⟨rfl,rfl,H.get _ (.tail _ (.head _)),rfl,rfl,trivial⟩
   |false=>
    have dP:x.op≠0:=by
     rcases PI with h|h
     ·exact h
     ·cases h
    refine aj ?_;exact⟨rfl,rfl,H.get _ (.tail _ (.head _)),rfl,rfl,trivial⟩
  ·refine ak.norm [] trivial λF=>?_;have H:Has a9 []:=Has.nil;refine aj ?_;refine W.e3 hfn a4A LC I I I I ?_;refine aj ?_;exact ak.ret ⟨rfl,rfl⟩
end
structure PJ(b:bT)(K:Nat->List AV->AV->Prop)(lc gY:List AV)(cn:AV):Prop where
 ck:kX b K
 made:bk (b.aM K) JK Yw
 c5F:b.ext vK=0/\b.pure vK=true
 log:K vK [] (.a0 [.R lc,.R gY])
 sU:lc.length=5/\gY.length=5
 g3:∀J,bM J (b.bp+1000) (.R lc)=some cn
 eq:AV.eqb (b.bp+1000) (.R lc) (.R lc)=true
 a4A:b.ext xr=0/\b.pure xr=true
 LC:K xr [] (.b true)
 c5G:b.ext rm=0/\b.pure rm=true
 PN:b.ext rA=0/\b.pure rA=true
 es:b.ext t_=0/\b.pure t_=true
 PO:b.ext ub=0/\b.pure ub=true
structure PQ(K:Nat->List AV->AV->Prop)(cn:AV)(T:List bg):Prop where
 cut:K rm [cG T] (.a0 [wq (ya T),ah 0])
 a4Q:K rm [cG (ya T)] (.a0 [wq (ya T),ah 0])
 seq:K rA [cn,cG T] (p2 T)
 a4R:K rA [cn,cG (ya T)] (p2 (ya T))
 same:K t_ [cG (ya T),cG (ya T)] (.b true)
 a3w:∀x∈T,∀y∈T,∃t,K ub [x.f.A true,y.f.A true] (.b t)/\(t=true↔x.f=y.f)
section
variable {b:bT}{K:Nat->List AV->AV->Prop}{lc gY:List AV}{cn cK:AV}
def a4S(hl:PJ b K lc gY cn){code:List Nat}(au:∀τ,iO τ none cK (code.map fa))(lD:cK.cells=[cK]/\cK.val=true)(gj:code.length<2^62)(zU:∀x∈code,x<256)
  (c0:∀L ad az,Rd L ad az->ad.length=1->L.length<=35->L≠[]->PQ K cn (L.map ba.bA)/\hP (L.map ba.bA)/\wy (L.map ba.bA)) (body:bF) (iU:qg.body=some body):
  ak (b.aM K) qg.ntmps body (fv [cK]) ⟨.nil,0⟩ (jU 2 (.b true)):=by
 cases iU;refine W.jD λz H=>?_;refine aj ?_;refine W.e3 hl.ck.fn hl.c5F hl.log I I I I ?_;have mq:conf (some 5) (.R lc)=true:=by show Nat.beq lc.length 5=true;rw[hl.sU.1];rfl
 have Fx:conf (some 5) (.R gY)=true:=by show Nat.beq gY.length 5=true;rw[hl.sU.2];rfl
 refine aj ?_;refine W.cC (k:=0) H I I I I λec cP H bx=>?_;refine W.cC (k:=1) H cP I I I λa9 c8 H bb=>?_;refine W.st (bD:=lc) H 1 I I I I mq (by exact storeAll hl.sU.1) λbu er H k3=>?_;refine W.st (bD:=gY) H 0 I I I I Fx (by exact storeAll hl.sU.2) λcm e_ H b1=>?_;refine aj ?_;refine W.an trivial I I I (c3j hl.ck hl.made au lD gj zU) λr dg ⟨L,ad,az,v,du,bP,ar,hR,w6,a7,hL,ao,e0,hj,hB,mi,a4w,jl⟩=>⟨_,ar,?_⟩
 have R0:0<L.length:=pM.2 a7;have lp:∀x∈L,x.f.dep<=200:=λx hx=>by have:=(hR.low U hx).1;omega
 have lR:=Z5 (b:=b) ao a7 e0 hj lp;have H:=H.aP jl.2;have h0:=H.get (0,lc) aF;obtain⟨ay,Cn,hg⟩:=c0 L ad az hR w6 hL a7;have x5:(L.map ba.bA).length=L.length:=uV _;generalize j8:L.map ba.bA=T at lR ay Cn hg x5;have jO:∀x∈ya T,2*x.f.dep+13<=b.bp+1000:=λx hx=>by have:=Cn.cut.g.dep x hx;omega
 have GF:∀J,bM J (b.bp+1000) (wq (ya T))=some (cG (ya T)):=λJ=>a4B (c6R Cn.g.ne) jO;have RJ:=hl.sU.1;have LN:dV (some 5) (lc.drop 0)=some (.R lc):=by show(if(lc.take 5).length=5 then some (AV.R (lc.take 5)) else none)=_;rw[Rx (Nat.le_of_eq RJ),if_pos RJ]
 refine aj ?_;refine W.e3 hl.ck.fn hl.c5G ay.cut I I I (k_ lR) ?_;refine aj ?_;refine W.e3 hl.ck.fn hl.c5G ay.a4Q I I I (k_ (GF _)) ?_;refine aj ?_;refine W.aA H I I I (.tail _ (.head _)) LN ?_;refine aj ?_;refine W.e3 hl.ck.fn hl.PN ay.seq I I I (nF (hl.g3 _) lR) ?_;refine aj ?_;generalize Be:dg.next=q;refine W.jj (c:=[slA false (some 4) ((iv T).map jW),slA false (some 4) [jW (fV T T.length)]]) H Be I I I I I I λeA jf H et=>?_;refine aj ?_;refine W.aA H I I I (.tail _ (.tail _ (.head _))) LN ?_;refine aj ?_;refine W.e3 hl.ck.fn hl.PN ay.a4R I I I (nF (hl.g3 _) (GF _)) ?_;refine aj ?_;refine W.jj (c:=[slA false (some 4) ((iv (ya T)).map jW),slA false (some 4) [jW (fV (ya T) (ya T).length)]]) H jf I I I I I I λeW k6 H gk=>?_;refine eT ?_;have aL:((ya T).map bg.F).length=(ya T).length:=uV _;have a5:0<(ya T).length:=pM.2 (c6R Cn.g.ne);have cy:(ya T).length<=L.length:=by rw[<-x5];exact(S0 (T:=T) (i:=T.length)).2
 have KU:=ao.aP (τ:=eW) λi o _ ho=>gk _ _ (et _ _ ho);refine W.RX [] 56 I I ?_;have HB:hK eW []:=hK.nil;refine fO ?_;refine W.e3 hl.ck.fn hl.es ay.same I I I (nF (GF _) (GF _)) ?_;refine fO ?_;refine W.len I I I KU.len ?_;rw[e0];refine fO ?_;have b2:fV T T.length=(T[T.length-1]'U).f:=Cd U (bs _);have J0:T[T.length-1]'U∈T:=gC _;have d0t:(fV T T.length).dep<=40:=by rw[b2];exact Cn.g.dep _ J0
 have a4T:K ub [.R (bN (fV T T.length)),.R (bN (fV T T.length))] (.b true):=by
  obtain⟨t,h1,h2⟩:=ay.a3w _ J0 _ J0;rw[<-b2,jk,h2.2 I] at h1;exact h1
 rw[Cn.last];refine W.e3 hl.ck.fn hl.PO a4T I I I (nF (BS (by show _<=b.bp+1000;omega)) (BS (by show _<=b.bp+1000;omega))) ?_;refine fO ?_;refine W.lM I ?_;refine ak.skip ?_;refine W.sq (W.rg ?_);refine W.val (v:=ah 0) (ai:=eW) I I I ?_;refine W.nil ?_;refine ak.seq ?_;have J3:∀F∈iv T,∃x∈T,x.f=F:=λF b2=>by
  obtain⟨x,hx,e⟩:=ti.1 b2;exact⟨x,(NN.1 hx).1,e⟩
 have kJ:(iv T).length<=500:=by
  unfold iv;rw[uV];have:=E6 (λx:bg=>x.hyp&&decide (x.br=0)) T;omega
 refine ak.norm [(14,ah 0),(12,aE (q+1)),(10,aE q),(6,wq (ya T))] dp λF=>?_;refine a4D hl.ck.fn hl.PO (nr:=iv (ya T)) (P:=iv T) Cn.sub (λF b2 G cW=>by
  obtain⟨x,hx,rfl⟩:=J3 F b2;obtain⟨y,hy,rfl⟩:=J3 G cW;exact ay.a3w x hx y hy) (λF b2=>by
  obtain⟨x,hx,rfl⟩:=J3 F b2;exact Cn.g.dep x hx) kJ (H.get _ (.tail _ (.head _))) (H.get _ (.head _)) λF fI pt b2=>?_
 refine ak.norm [(6,wq (ya T))] b2 λF=>?_;exact a4O hl.ck.fn hl.a4A hl.LC a5 U (λk y h1 hy=>Cn.cut.g.wk k y h1 hy) λn y h1 hn hy=>Cn.c4w hg h1 hn hy
end
def nL(bU:Nat)(aX:List AV)(h4:AV)(bV:Nat)(bc:List AV)(kl:AV)(g:Nat)(aQ:List AV)(r:AV):Prop:=(g=bU/\aQ=aX/\r=h4)\/(g=bV/\aQ=bc/\r=kl)
structure c6H(b:bT):Prop where
 Tb:ll b rm Yx
 wanted:HB b PM YK
 c6I:HB b mb b7b
def jE(cn:AV)(t:Bool)(g:Nat)(aQ:List AV)(r:AV):Prop:=g=lr/\aQ=[cn]/\r= .b t
def ud(T:List bg):Prop:=∀x∈T,∃f:PF,f.low/\x.f=f.aG
def ud.cut{T:List bg}(h:ud T):ud (ya T):=λx hx=>by
 obtain⟨y,hy,e⟩:=LV hx;obtain⟨f,hf,a5⟩:=h y hy;exact⟨f,hf,e.trans a5⟩
def GG{l:List Fm}(h:∀F∈l,GL F){n:Nat}(hn:110<=n):fk n (slA false (some 4) (l.map jW))=true/\AV.eqb n (slA false (some 4) (l.map jW)) (slA false (some 4) (l.map jW))=true:=by
 obtain⟨n,rfl⟩:∃m,n=m+2:=⟨n-2,U⟩
 cases l with
 |nil=>exact⟨rfl,ev I⟩
 |cons a l=>
  have ab:∀F:Fm,F.cells false=jG F:=λF=>by
   have:=sW F;injection this
  refine⟨?_,xW λy hy=>?_⟩
  ·show fk (n+2) (.a_ false (some 4) ((a::l).map jW))=true;rw[show n+2=n+1+1 from rfl,mG];show((!false||_)&&cD (λx=>cD (fk (n+1)) x.cells) ((a::l).map jW))=true;rw[E4,uk,oq];refine ig λy hy=>?_;obtain⟨F,b2,rfl⟩:=ti.1 hy;exact ig λz a6=>(h F b2 (n+1) U z (by rw[ab];exact a6)).1
  ·obtain⟨F,b2,rfl⟩:=ti.1 (show y∈(a::l).map jW from hy);exact sX λz a6=>(h F b2 n U z (by rw[ab];exact a6)).2
def a4U{T:List bg}(h:∀x∈T,GL x.f)(hl:GL (fV T T.length)):fk 1000 (p2 T)=true/\AV.eqb 1000 (p2 T) (p2 T)=true:=by
 have h1:∀F∈iv T,GL F:=λF b2=>by
  obtain⟨x,hx,rfl⟩:=ti.1 b2;exact h x (NN.1 hx).1
 have h2:∀F∈[fV T T.length],GL F:=λF b2=>by rw[uT.1 b2];exact hl
 constructor
 ·unfold p2;rw[show(1000:Nat)=999+1 from rfl,mG];refine ig λy hy=>?_;simp only[dB,NQ,or_false] at hy;rcases hy with rfl|rfl
  ·rw[show(999:Nat)=998+1 from rfl,mG];refine ig λy hy=>?_;simp only[dB,NQ,or_false] at hy;rcases hy with rfl|rfl
   ·exact(GG h1 bw).1
   ·exact(GG (l:=[fV T T.length]) h2 bw).1
  ·rfl
 ·unfold p2;refine(ov λy hy=>?_:fY (AV.eqb 999) [.R [slA false (some 4) ((iv T).map jW),slA false (some 4) [jW (fV T T.length)]],ah 0] [.R [slA false (some 4) ((iv T).map jW),slA false (some 4) [jW (fV T T.length)]],ah 0]=true);simp only[dB,NQ,or_false] at hy;rcases hy with rfl|rfl
  ·refine sX (n:=998) λz a6=>?_;simp only[dB,NQ,or_false] at a6;rcases a6 with rfl|rfl
   ·exact(GG h1 bw).2
   ·exact(GG (l:=[fV T T.length]) h2 bw).2
  ·exact ev I
def CH(cn:AV)(T:List bg)(g:Nat)(aQ:List AV)(r:AV):Prop:=(g=jT/\aQ=[cn,cG T]/\r=x7 0 0 0 0 0 0)\/(g=ma/\∃f:PF,f.low/\aQ=[f.aG.A true]/\r=f.aG.A false)
def CH.fn{cn:AV}{T:List bg}:∀g aQ r b5,CH cn T g aQ r->CH cn T g aQ b5->r=b5:=λg aQ r b5 h h'=>by
 rcases h with⟨e,_,lj⟩|⟨e,f,_,tb,lj⟩<;>rcases h' with⟨c4,_,ta⟩|⟨c4,b_,_,uR,ta⟩
 ·rw[lj,ta]
 ·rw[e] at c4;exact absurd c4 bw
 ·rw[e] at c4;exact absurd c4 bw
 ·rw[tb] at uR;rw[lj,ta,PF.kP (Lp uR)]
section
variable {P:Program}{b:bT}{l:iF}{ag:List dj}{cb:AV}(G:GivM P b (l.A true) cb)(hl:CL b l ag)
include G hl
structure FQ(b:bT):Prop where
 yd:c6H b
 PR:ll b rA b6T
 PS:ll b t_ Yy
 rL:b.ext ma=0/\b.pure ma=true
variable (fq:FQ b)
include fq
theorem PT(hb:jR P b){T:List bg}(g:nV T)(aw:ud T):cV P b rm [cG T] (.a0 [wq (ya T),ah 0]):=λbz=>by
 have b2:∀x∈ya T,GL x.f:=λx hx=>by
  obtain⟨f,hf,e⟩:=aw.cut x hx;have:=hf.1;rw[e];exact c6S U
 have aq:=c6V b2;exact vV hb (c3.ok (cn:=l.A true) (cb:=cb)) (ad:=1000) _ fq.yd.Tb.1 I I I aq.1 aq.2 (c5w c3.fn ⟨G.fb.hf,fq.yd.wanted.h,fq.yd.c6I.h⟩ G.fb.ho (g.zm G hb) fq.rL (λx hx=>by
  obtain⟨f,hf,e⟩:=aw x hx;rw[e];exact c3.jJ (LF G _ f (bs _) _) (Z6 f) λr h=>h.x8 I f I) (λx hx=>by have:=g.dep x hx;omega) (c6R g.ne) _ I) bz
theorem PU(hb:jR P b){T:List bg}(g:nV T)(aw:ud T)(h5:cV P b jT [l.A true,cG T] (x7 0 0 0 0 0 0)):cV P b rA [l.A true,cG T] (p2 T):=λbz=>by
 have b2:∀x∈T,GL x.f:=λx hx=>by
  obtain⟨f,hf,e⟩:=aw x hx;have:=hf.1;rw[e];exact c6S U
 have Nm:=pM.2 g.ne;have aq:=a4U b2 (by rw[Cd Nm (bs _)];exact b2 _ (gC _));exact vV hb (K:=CH (l.A true) T) (λg aQ r h=>by
  rcases h with⟨rfl,rfl,rfl⟩|⟨rfl,f,hf,rfl,rfl⟩
  ·exact λbz=>h5 bz
  ·exact λbz=>LF G _ f (bs _) _ bz) (ad:=1000) _ fq.PR.1 I I I aq.1 aq.2 (a3h CH.fn g.ne (by have:=g.le;omega) (g.g3 G) hl.g3 G.fb.Ly.2 (.inl ⟨rfl,rfl,rfl⟩) fq.rL (λx hx=>by
  obtain⟨f,hf,e⟩:=aw x hx;rw[e];exact .inr ⟨rfl,f,hf,rfl,rfl⟩) (λx hx=>by have:=g.dep x hx;omega) _ I) bz
theorem a4V(hb:jR P b)(fr:x9 P b (l.A true) cb){T:List bg}(g:nV T)(aw:ud T):cV P b t_ [cG T,cG T] (.b true):=λbz=>
 lI hb (c3.ok (cn:=l.A true) (cb:=cb)) _ fq.PS.1 I I I I (hs _).1 (hs _).2 (a3l c3.fn (by have:=g.le;omega) (λx hx=>by
  obtain⟨i,hi,rfl⟩:=tj hx;exact(g.wk (i+1) _ U (fw hi)).1) G.fb.Lw.2 (λx hx=>by
  obtain⟨f,hf,e⟩:=aw x hx;have h1:=hf.1;rw[e];have:=c3.jJ (cn:=l.A true) (cb:=cb) (a3U hb G.fb fr.st _ f f (bs _) U U) (a3z f f) λr h=>h.a3w I f f I;rwa[decide_eq_true I] at this) (λx hx=>by have:=g.dep x hx;omega) _ I) bz
end
def J5:List Nat:=[rm,rA,t_]
structure wz(cn:AV)(g:Nat)(aQ:List AV)(r:AV):Prop where
 cut:g=rm->∀T,aQ=[cG T]->r= .a0 [wq (ya T),ah 0]
 seq:g=rA->∀T,aQ=[cn,cG T]->r=p2 T
 same:g=t_->r= .b true
inductive ld(P:Program)(b:bT)(l:iF)(cb:AV)(g:Nat)(aQ:List AV)(r:AV):Prop
 |old:sC J5 g=false->CM P b l cb g aQ r->ld P b l cb g aQ r
 |new:sC J5 g=true->(h:∃r,cV P b g aQ r/\wz (l.A true) g aQ r)->r=Classical.choose h->ld P b l cb g aQ r
section
variable {P:Program}{b:bT}{l:iF}{cb:AV}{g:Nat}{aQ:List AV}{r:AV}
def ld.fn:∀g aQ r b5,ld P b l cb g aQ r->ld P b l cb g aQ b5->r=b5:=λg aQ r b5 h h'=>by
 cases h with
 |old e h=>cases h' with
  |old _ h'=>exact c3.fn _ _ _ _ h h'
  |new c4=>rw[e] at c4;cases c4
 |new e h lj=>cases h' with
  |old c4=>rw[e] at c4;cases c4
  |new _ h' ta=>rw[lj,ta]
def ld.ok:tV P b (ld P b l cb):=λg aQ r h=>by
 cases h with
 |old _ h=>exact c3.ok g aQ r h
 |new _ h lj=>subst lj;exact(Bw h).1
def ld.jJ(hg:sC J5 g=true)(h:cV P b g aQ r)(aW:wz (l.A true) g aQ r)(hu:∀b5,wz (l.A true) g aQ b5->b5=r):ld P b l cb g aQ r:=by
 have ao:=(Bw (⟨r,h,aW⟩:∃r,cV P b g aQ r/\wz (l.A true) g aQ r)).2;exact .new hg ⟨r,h,aW⟩ (hu _ ao).symm
def PV{cn:AV}(T:List bg):wz cn rm [cG T] (.a0 [wq (ya T),ah 0]):=⟨λ_ kB h=>by rw[c3W (Lp h)],λe=>absurd e bw,λe=>absurd e bw⟩
def PW{cn:AV}(T:List bg):wz cn rA [cn,cG T] (p2 T):=⟨λe=>absurd e bw,λ_ kB h=>by rw[c3W (kh h).2],λe=>absurd e bw⟩
def a4W{cn:AV}{aQ:List AV}:wz cn t_ aQ (.b true):=⟨λe=>absurd e bw,λe=>absurd e bw,λ_=>rfl⟩
end
section
variable {P:Program}{b:bT}{l:iF}{ag:List dj}{lc gY:List AV}(G:GivM P b (l.A true) (.a0 [.R lc,.R gY]))(hl:CL b l ag)(fq:FQ b)(hb:jR P b)(fr:x9 P b (l.A true) (.a0 [.R lc,.R gY]))
include G hl fq hb fr
theorem a4X:kX b (ld P b l (.a0 [.R lc,.R gY])) where
 sf:=G.fb.a3I.h
 ci:=G.fb.a3J.h
 li:=G.fb.line.h
 we:=G.fb.a3K.h
 aa:=G.fb.a3L.h
 wg:=G.fb.a3M.h
 pB:=G.fb.join.h
 at_:=G.fb.atom.h
 fn:=ld.fn
 es:=G.fb.Lv.2
 Ld:=G.fb.Lw.2
 size a h1 h2:=.old I ((G.fb.ck hb fr).size a h1 h2)
 same a c h1 h2:=.old I ((G.fb.ck hb fr).same a c h1 h2)
theorem a4Y(ab:SX b l lc gY):PJ b (ld P b l (.a0 [.R lc,.R gY])) lc gY (l.A true):=
 ⟨a4X G hl fq hb fr,G.fb.Made.h,G.fb.s9 I,.old I (c3.jJ fr.log c4i λr h=>h.log I),ab.sU,ab.g3,ab.eq,G.fb.s9 I,.old I (c3.jJ fr.LC (s8 bw) λr h=>h.s7 bw),fq.yd.Tb.2,fq.PR.2,fq.PS.2,G.fb.Lw.2⟩
theorem PY{T:List bg}(g:nV T)(hd:kr T T.length=0)(aw:ud T)(ca:∀k x,1<=k->T[k-1]? =some x->oL (CM P b l (.a0 [.R lc,.R gY])) T (cS T) (ndsL T T.length) ag k x true 0 0 0 0):cV P b jT [l.A true,cG T] (x7 0 0 0 0 0 0):=by
 have c0:=c5b G hl hb fr;obtain⟨bA,cI,dR,eB,az,e,my,aq⟩:=g.Z7 G hl hb fr (r:=0) (cI:=0) (dR:=0) (eB:=0) (az:=0) ⟨rU _,λk x h1 _ hx=>by
  obtain⟨f,hf,e⟩:=aw x (fL hx);exact⟨true,by rw[e];exact c0.fN f hf,ca k x h1 hx⟩,λh=>absurd I h⟩
 rw[if_pos I,if_pos hd] at aq;obtain⟨rfl,rfl,rfl,rfl,rfl,rfl⟩:=aq;exact my
theorem a4Z{L:List ba}{ad:List (List Nat)}{az:List Nat}(h:Rd L ad az)(h1:ad.length=1)(hL:L.length<=35)(a7:L≠[]):PQ (ld P b l (.a0 [.R lc,.R gY])) (l.A true) (L.map ba.bA)/\hP (L.map ba.bA)/\wy (L.map ba.bA):=by
 have c0:=c5b G hl hb fr;have g:=h.Ai U a7;have Cn:hP (L.map ba.bA):=⟨g,λx hx=>by
  obtain⟨y,hy,rfl⟩:=ti.1 hx;exact h.b.hyp y hy⟩
 have aw:ud (L.map ba.bA):=λx hx=>by
  obtain⟨y,hy,rfl⟩:=ti.1 hx;exact⟨y.f,h.low U hy,rfl⟩
 have ca:∀k x,1<=k->(L.map ba.bA)[k-1]? =some x->oL (CM P b l (.a0 [.R lc,.R gY])) (L.map ba.bA) (cS (L.map ba.bA)) (ndsL (L.map ba.bA) (L.map ba.bA).length) ag k x true 0 0 0 0:=λk x ay hx=>by
  rw[fG] at hx;cases a6:L[k-1]? with
  |none=>rw[a6] at hx;cases hx
  |some z=>rw[a6] at hx;cases hx;exact h.bad c0 U ay a6
 have hg:wy (L.map ba.bA):=Cn.a0m λk x ay hx=>⟨true,ca k x ay hx⟩
 have R0:=pM.2 a7;have x5:(L.map ba.bA).length=L.length:=uV _;have hd:kr (L.map ba.bA) (L.map ba.bA).length=0:=by
  have hy:L[L.length-1]? =some (L[L.length-1]'U):=fw U;rw[x5,a3c hy,(h.inv.last a7).2 _ hy,h1]
 have a5a:∀k x,1<=k->(ya (L.map ba.bA))[k-1]? =some x->oL (CM P b l (.a0 [.R lc,.R gY])) (ya (L.map ba.bA)) (cS (ya (L.map ba.bA))) (ndsL (ya (L.map ba.bA)) (ya (L.map ba.bA)).length) ag k x true 0 0 0 0:=λk x ay hx=>by
  obtain⟨n,y,hw,e,hy,rfl⟩:=Cn.ex ay hx;rw[<-e];exact Cn.bad hg hw hy (ca n y hw.1 hy)
 have jO:kr (ya (L.map ba.bA)) (ya (L.map ba.bA)).length=0:=by
  have hw:gr (s_ (L.map ba.bA)) (L.map ba.bA).length:=⟨U,a5f g.ne _⟩
  have:=(Cn.qh hw).2;exact this.trans hd
 have bV:=Cn.cut.g;have l4:=aw.cut;refine⟨⟨?_,?_,?_,?_,?_,λx hx y hy=>?_⟩,Cn,hg⟩
 ·exact ld.jJ I (PT G hl fq hb g aw) (PV _) λr aq=>aq.cut I _ I
 ·have:=ld.jJ (l:=l) (cb:=.a0 [.R lc,.R gY]) I (PT G hl fq hb bV l4) (PV _) λr aq=>aq.cut I _ I;rwa[Cn.again hg] at this
 ·exact ld.jJ I (PU G hl fq hb g aw (PY G hl fq hb fr g hd aw ca)) (PW _) λr aq=>aq.seq I _ I
 ·exact ld.jJ I (PU G hl fq hb bV l4 (PY G hl fq hb fr bV jO l4 a5a)) (PW _) λr aq=>aq.seq I _ I
 ·exact ld.jJ I (a4V G hl fq hb fr bV l4) a4W λr aq=>aq.same I
 ·obtain⟨f,hf,Ld⟩:=aw x hx;obtain⟨b_,K0,a5b⟩:=aw y hy;have h3:=hf.1;have aO:=K0.1;rw[Ld,a5b];refine⟨decide (f=b_),.old I (c3.jJ (a3U hb G.fb fr.st _ f b_ (bs _) U U) (a3z f b_) λr h=>h.a3w I f b_ I),?_⟩;rw[decide_eq_true_iff];exact⟨λe=>by rw[e],λe=>PF.c3T e⟩
theorem fitchCut_E(ab:SX b l lc gY)(hf:b.funcs.get LL=some qg){cK:AV}{code:List Nat}(au:∀τ,iO τ none cK (code.map fa))(lD:cK.cells=[cK]/\cK.val=true)(hlen:code.length<2^62)(zU:∀x∈code,x<256):cV P b LL [cK] (.b true):=λbz=>
 lI hb ld.ok _ hf I I I I (hs _).1 (hs _).2 (a4S (a4Y G hl fq hb fr ab) au lD hlen zU (λL ad az h h1 hL a7=>a4Z G hl fq hb fr h h1 hL a7) _ I) bz
end
end
section
variable [Tok][TokOk]
open Go.RowKit Go.Lyc.T
def bE.ext{env:Env}{floor k g:Nat}{args:List AV}{v:AV}{J:ae}{Q:en->ae->Prop}(he:env.ext g=k+1)(hx:extRow (k+1) args=some v)(h:Q (.ok v) J):bE env floor (.f (.func g) [] []) args J Q:=by
 refine dx.one (x:=(.ok v,J)) (λF=>?_) h;show callF env (exec env F) floor g ([]++args++[]) J=_;unfold callF;rw[he,yQ,iL];show(match extRow (k+1) args with|some v=>some [(en.ok v,J)]|none=>none)=_;rw[hx]
section
variable {b:bT}{K:Nat->List AV->AV->Prop}
def c5O(hh:bk (b.aM K) EP zA)(ex:b.ext JD=2)(x y:List Nat)(J:ae):bE (b.aM K) 0 (.f (.func EP) [] []) [.s x,.s y] J (λr ai=>r= .ok (.i .i64 (vZ x y))/\ai=J):=by
 refine bE.code hh.e hh.p hh.f I I I I ?_;refine ak.seq (ak.region ?_);refine aK.go I I I I ?_;refine aK.nil (ak.seq (ak.region ?_));refine aK.go I I I I ?_;refine aK.go I I I I ?_;refine aK.jh (ag:=λr ai=>r= .ok (.i .i64 (vZ x y))/\ai=J) I I I (bE.ext (k:=1) ex I ⟨rfl,rfl⟩) λr cT ⟨aL,a5⟩=>⟨_,aL,?_⟩
 refine aK.go I I I I ?_;exact aK.nil (ak.ret ⟨rfl,rfl,a5⟩)
def c5P(hh:bk (b.aM K) Jx EN)(h2:bk (b.aM K) EP zA)(ex:b.ext JD=2)(x y:List Nat)(J:ae):bE (b.aM K) 0 (.f (.func Jx) [] []) [.s x,.s y] J (λr ai=>r= .ok (.i .i64 (vZ x y))/\ai=J):=by
 refine bE.code hh.e hh.p hh.f I I I I ?_;refine ak.seq (ak.region ?_);refine aK.go I I I I ?_;refine aK.nil (ak.seq (ak.region ?_));refine aK.go I I I I ?_;refine aK.go I I I I ?_;refine aK.jh I I I (c5O h2 ex x y J) λr cT ⟨aL,a5⟩=>⟨_,aL,?_⟩
 refine aK.go I I I I ?_;exact aK.nil (ak.ret ⟨rfl,rfl,a5⟩)
def a4F(hh:bk (b.aM K) EO zE)(x:Nat)(J:ae):bE (b.aM K) 0 (.f (.func EO) [] []) [ah x] J (λr ai=>r= .ok (.b false)/\ai=J):=by
 refine bE.code hh.e hh.p hh.f I I I I ?_;refine ak.seq (ak.region ?_);refine aK.go I I I I ?_;refine aK.nil (ak.seq (ak.region ?_));refine aK.go I I I I ?_;refine aK.go I I I I ?_;refine aK.bin (a:=ah x) (b:=ah x) (v:=.b false) I I I I (ow (by show some (AV.b (!decide (x=x)))=_;rw[decide_eq_true I];rfl)) ?_;refine aK.go I I I I ?_;exact aK.nil (ak.ret ⟨rfl,rfl,rfl⟩)
def c5Q(hh:bk (b.aM K) Jy ER)(h2:bk (b.aM K) EO zE)(x y:Nat)(J:ae):bE (b.aM K) 0 (.f (.func Jy) [] []) [ah x,ah y] J (λr ai=>r= .ok (.i .i64 (FC x y))/\ai=J):=by
 refine bE.code hh.e hh.p hh.f I I I I ?_;refine ak.seq (ak.region ?_);refine aK.go I I I I ?_;refine aK.nil (ak.seq (ak.region ?_));refine aK.go I I I I ?_;refine aK.jh I I I (a4F h2 x J) λr cT ⟨aL,a5⟩=>⟨_,aL,?_⟩
 subst a5;refine aK.go I I I I ?_;refine aK.nil (ak.seq (ak.region ?_));refine aK.go I I I I ?_;refine aK.jh I I I (a4F h2 y cT) λr hX ⟨aL,a5⟩=>⟨_,aL,?_⟩
 subst a5;refine aK.go I I I I ?_;refine aK.nil (ak.seq (ak.seq (ak.region ?_)));refine aK.go I I I I ?_;refine aK.nil (ak.jg I (λh=>by cases h) λ_=>ak.skip ?_);refine ak.seq (ak.seq (ak.region ?_));refine aK.go I I I I ?_;refine aK.nil (ak.jg I (λh=>by cases h) λ_=>ak.skip ?_);refine ak.seq (ak.seq (ak.region ?_));refine aK.go I I I I ?_;refine aK.go I I I I ?_;refine aK.bin (a:=ah x) (b:=ah y) (v:=.b (decide (x<y))) I I I I (ow I) ?_;refine aK.nil (ak.jg I (λh=>?_) λh=>ak.skip ?_)
 ·refine ak.seq (ak.region ?_);refine aK.go I I I I ?_;refine aK.nil (ak.ret ⟨rfl,?_,rfl⟩);unfold FC;rw[if_pos (of_decide_eq_true h)];rfl
 have h1:=of_decide_eq_false h;refine ak.seq (ak.seq (ak.region ?_));refine aK.go I I I I ?_;refine aK.go I I I I ?_;refine aK.bin (a:=ah x) (b:=ah y) (v:=.b (decide (y<x))) I I I I (ow I) ?_;refine aK.nil (ak.jg I (λh=>?_) λh=>ak.skip ?_)
 ·refine ak.seq (ak.region ?_);refine aK.go I I I I ?_;refine aK.nil (ak.ret ⟨rfl,?_,rfl⟩);unfold FC;rw[if_neg h1,if_pos (of_decide_eq_true h)];rfl
 have h2:=of_decide_eq_false h;refine ak.seq (ak.region ?_);refine aK.go I I I I ?_;refine aK.nil (ak.ret ⟨rfl,?_,rfl⟩);unfold FC;rw[if_neg h1,if_neg h2];rfl
def c5R(h1:bk (b.aM K) Jx EN)(h2:bk (b.aM K) EP zA)(ex:b.ext JD=2)(h3:bk (b.aM K) Jy ER)(aO:bk (b.aM K) EO zE)(x y:fE)(body:bF)(hb:Jr.body=some body):
  ak (b.aM K) 19 body (fv [dz x,dz y]) ⟨.nil,0⟩ (jU 4 (.i .i64 (qu x y))):=by
 cases hb;refine ak.seq (ak.region (aK.box (v:=dz x) (c:=[.s x.1,ah x.2]) 0 I I I I I I λb8 cP bU nh=>?_));refine aK.box (v:=dz y) (c:=[.s y.1,ah y.2]) 1 cP I I I I I λJ c8 bV qt=>?_;replace bU:=qt _ _ bU;refine aK.go I I I I ?_;refine aK.nil (ak.seq (ak.seq (ak.region ?_)));refine aK.go I I I I ?_;refine aK.aA (v:=.s x.1) bU I I I I ?_;refine aK.go I I I I ?_;refine aK.aA (v:=.s y.1) bV I I I I ?_;refine aK.jh I I I (c5P h1 h2 ex x.1 y.1 J) λr cT ⟨aL,a5⟩=>⟨_,aL,?_⟩
 subst a5;refine aK.go I I I I ?_;refine aK.nil (ak.seq (ak.region ?_));refine aK.go I I I I ?_;refine aK.bin (a:=.i .i64 (vZ x.1 y.1)) (b:=.i .i64 0) (v:=.b (!decide (vZ x.1 y.1=0))) I I I I I ?_;refine aK.nil (ak.jg I (λh=>?_) λh=>ak.skip ?_)
 ·have a7:¬vZ x.1 y.1=0:=λe=>by rw[decide_eq_true e] at h;cases h
  refine ak.seq (ak.region ?_);refine aK.go I I I I ?_;refine aK.go I I I I ?_;refine aK.nil (ak.ret ⟨rfl,?_⟩);unfold qu;rw[if_neg a7];rfl
 ·have he:vZ x.1 y.1=0:=wT λe=>by rw[decide_eq_false e] at h;cases h
  refine ak.seq (ak.region ?_);refine aK.go I I I I ?_;refine aK.aA (v:=ah x.2) bU I I I I ?_;refine aK.go I I I I ?_;refine aK.aA (v:=ah y.2) bV I I I I ?_;refine aK.jh I I I (c5Q h3 aO x.2 y.2 cT) λr hX ⟨aL,a5⟩=>⟨_,aL,?_⟩
  refine aK.go I I I I ?_;refine aK.nil (ak.ret ⟨rfl,?_⟩);unfold qu;rw[if_pos he];rfl
end
structure LO(b:bT):Prop where
 visit:HB b xm rS
 walk:HB b BN Zx
 S3:HB b vJ uB
 a4G:HB b JG ZG
 a4H:HB b JH b7F
 a4I:HB b JF Zu
 sorted:HB b EJ EI
 c5S:HB b EL zy
 c5T:HB b pj qG
 c5U:HB b EK zv
 Collect:HB b BP xn
 c5V:HB b zw b8v
 c5W:HB b BR xt
 c5X:HB b zz uN
 c5Y:HB b xp Z8
 SD:HB b zx b8w
 c5Z:HB b xo rX
 c6a:HB b Jt CQ
 Functions:HB b Pm GM
 c6b:HB b Ju EM
 c6c:HB b Jx EN
 c6d:HB b EP zA
 c6e:HB b Jy ER
 c6f:HB b EO zE
 LP:ll b kb b7p
 LQ:ll b rl Zk
 a4J:ll b ik Jr
 a4K:ll b BU b7w
 LR:ll b sI Zl
 a4L:ll b na b7f
 named:b.ext lb=0/\b.pure lb=true
 a4M:b.ext lr=0/\b.pure lr=true
 c6g:b.ext JD=2
 rows:b.mm J8=some (.R E_)
section
variable {P:Program}{b:bT}(hb:jR P b)(e6:LO b)(hn:∀a:PF,cV P b lb [fa (qn a.op),.s a.bO] (.b true))
include hb e6
theorem c6h(x y:fE):cV P b ik [dz x,dz y] (.i .i64 (qu x y)):=λbz=>
 lI hb (c3.ok (cn:=.af) (cb:=.af)) _ e6.a4J.1 I I I I (nG _ _).1 (nG _ _).2 (c5R e6.c6c.h e6.c6d.h e6.c6g e6.c6e.h e6.c6f.h x y _ I) bz
theorem c6i(a:PF):cV P b rl [a.aG.A true] (.i .u32 (Int.ofNat (rq a.aG))):=λbz=>
 XZ hb (c3.ok (cn:=.af) (cb:=.af)) _ e6.LQ.1 I I I I (nG _ _).1 (nG _ _).2 (a0v e6.visit.h e6.S3.h e6.walk.h _ a.jC _ I) bz
theorem Sv:SE b (c3 P b .af .af):=⟨SC.go c3.fn ⟨e6.sorted.h,e6.c5S.h,e6.c5U.h,e6.Collect.h,e6.c5V.h,e6.c5T.h,e6.c5W.h,e6.c5X.h,e6.c5Y.h,e6.SD.h,e6.c5Z.h,λx y=>c3.jJ (c6h hb e6 x y) (c4f x y) λr h=>h.CI I x y I,e6.a4J.2⟩,e6.c6b.h,e6.visit.h,e6.S3.h,e6.walk.h,e6.c6a.h,e6.Functions.h⟩
theorem c6j(a:PF){k:Nat}(ay:¬k=2):cV P b BU [fa k,a.aG.A true] (.b true):=λbz=>by
 rw[nk];exact lI hb (c3.ok (cn:=.af) (cb:=.af)) _ e6.a4K.1 I I I I (hs _).1 (hs _).2 (c3O c3.fn (Sv hb e6) a k ay _ I) bz
include hn
theorem a4N(a:PF)(ha:a.low):cV P b kb [a.aG.A true] (.b true):=λbz=>by
 rw[nk];exact lI hb (c3.ok (cn:=.af) (cb:=.af)) _ e6.LP.1 I I I I (hs _).1 (hs _).2 (c3v ⟨c3.fn,e6.a4G.h,e6.a4H.h,e6.a4I.h,e6.named,λa=>c3.jJ (hn a) (s8 bw) λr h=>h.s7 bw,e6.rows⟩ a ha _ I) bz
theorem c6k(l:iF)(ho:l.ops=254)(ay:¬l.kind=2)(ni:∀J,bM J (b.bp+1000) (l.A true)=some (l.A true))(S4:cV P b lr [l.A true] (.b true))(a:PF)(ha:a.low):cV P b na [l.A true,a.aG.A true] (.b true):=by
 have hd:a.aG.dep<=200:=by rw[PF.js];have:=ha.1;omega
 have ht:∀ {g:Nat} {aQ:List AV},g∈Lq->cV P b g aQ (.b true)->c3 P b .af .af g aQ (.b true):=λ{g aQ} hg h=>c3.jJ h (s8 hg) λr h=>h.s7 hg;have h1:cV P b sI [l.A true,a.aG.A true] (.b true):=λbz=>by
  have hR:=ht bw (a4N hb e6 hn a ha);have hA:=ht bw (c6j hb e6 a ay);have ch:c3 P b .af .af _ _ _:=c3.jJ (c6i hb e6 a) (c4e a) λr h=>h.ops I a I;rw[nk] at hR hA ch ⊢;exact lI hb (c3.ok (cn:=.af) (cb:=.af)) _ e6.LR.1 I I I I (hs _).1 (hs _).2 (c3P c3.fn a hd l ho hR e6.LP.2 ch e6.LQ.2 hA e6.a4K.2 _ I) bz
 intro bz;have h1:=ht bw h1;rw[nk] at h1 ⊢;exact lI hb (c3.ok (cn:=.af) (cb:=.af)) _ e6.a4L.1 I I I I (hs _).1 (hs _).2 (c3R c3.fn a hd l ni (ht bw S4) e6.a4M h1 e6.LR.2 _ I) bz
end
def c6l{P:Program}{b:bT}(h1:cV P b lb [fa 1,.s [80]] (.b true))(h2:cV P b lb [fa 1,.s [81]] (.b true))(h3:cV P b lb [fa 0,.s []] (.b true))(a:PF):cV P b lb [fa (qn a.op),.s a.bO] (.b true):=by
 cases a with
 | fU q=>cases q;exact h1;exact h2
 |cO=>exact h3
 |neg a=>exact h3
 |bin k a c=>
  have:qn (4+k.val)=0:=by
   obtain⟨k,ay⟩:=k;have:k=0\/k=1\/k=2:=by omega
   rcases this with rfl|rfl|rfl<;>rfl
  show cV P b lb [fa (qn (4+k.val)),.s []] (.b true);rw[this];exact h3
end
end Go.Lyc
end
