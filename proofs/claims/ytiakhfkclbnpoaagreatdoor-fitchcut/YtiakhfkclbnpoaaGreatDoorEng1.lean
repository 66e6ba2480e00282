/-
  An abstract executor of the program's code, and that it is sound, part 1. No conditions: definitions and laws.
-/
import GoSem.Step
import Derived.RangeFuncLeaves
import Derived.RecoverIn
import Derived.OrdersIn
import Derived.Laws.IdiomCopy
import Derived.Below
import Derived.MapKept
import Derived.Laws.Strings
import Derived.Deep.Upon
import Derived.Laws.IdiomStrings
import Derived.Laws.MakeOwn
import Derived.Lib.AppendZeros
import Derived.Maps.RangeRun
set_option linter.all false
noncomputable section
namespace Go.Lyc
theorem I{α:Sort _}{a:α}:a=a:=rfl
def bs:=@Nat.le_refl
def qH:=@Nat.le_trans
def cL:=@Option.some.injEq
def T7:=@Nat.mod_two_eq_zero_or_one
def gb:=@Nat.eq_of_beq_eq_true
def gQ:=@Nat.beq_refl
def qI:=@Ne.symm
def lV:=@Nat.lt_succ_self
def MD:=@Nat.blt_eq
def gZ:=@Nat.lt_succ_of_lt
def CZ:=@List.length_cons
def gB:=@List.getElem?_cons_succ
def G7:=@Array.getElem?_setIfInBounds
def G8:=@Array.getElem?_setIfInBounds_ne
def ME:=@Array.getElem?_eq_some_iff
def yk:=@Array.getElem?_push
def MF:=@Nat.le_succ
def MG:=@Nat.lt_or_ge
def oQ:=@Array.getElem?_eq_none
def Ax:=@List.map_map
def mj:=@List.map_congr_left
def ti:=@List.mem_map
def dD:=@Array.length_toList
def tj:=@List.getElem_of_mem
def jK:=@List.getElem?_eq_some_iff
def fw:=@List.getElem?_eq_getElem
def cM:=@List.getElem_append_left
def iw:=@List.getElem_append_right
def wE:=@List.getElem_drop
def MH:=@List.getElem_take
def uT:=@List.mem_singleton
def cB:=@Go.Sem.run_bind
def e7:=@Go.Result.andThen_ok
def fe:=@List.length_take
def g5:=@Nat.add_zero
def uU:=@List.mem_of_mem_take
def pK:=@List.mem_of_mem_drop
def oR:=@List.getElem?_drop
def tk:=@List.getElem?_take_of_lt
def uV:=@List.length_map
def b7:=@List.length_range
def pL:=@Nat.le_of_ble_eq_true
def gC:=@List.getElem_mem
def b9:=@Array.getElem?_eq_getElem
def tl:=@List.mem_append
def fi:=@List.getElem?_append
def C0:=@Array.getElem?_toList
def mQ:=@List.getElem_map
def fX:=@Go.Sem.run_pure
def iH:=@Int.emod_eq_of_lt
def MI:=@UInt8.lt_iff_toNat_lt
def T8:=@Bool.false_eq_true
def rT:=@List.cons.injEq
def uW:=@List.map_cons
def oS:=@Bool.eq_iff_iff
def tm:=@List.mem_cons_self
def C1:=@List.mem_cons_of_mem
def iQ:=@Go.ByteArray.toList_eq
def T9:=@Array.ext'
def ns:=@Go.MapKept.bytes_beq
def T_:=@Int.natCast_nonneg
def C2:=@Bool.and_eq_true
def dA:=@Bool.or_eq_true
def tn:=@Nat.beq_eq
def oT:=@Int.ofNat.inj
def qJ:=@Nat.lt_of_le_of_lt
def yl:=@Nat.div_le_self
def MJ:=@Nat.add_assoc
def wF:=@Option.some.inj
def kD:=@Option.map_some
def G9:=@List.map_take
def C3:=@List.map_drop
def G_:=@Nat.add_mul
def jX:=@Nat.mul_le_mul_right
def rU:=@Nat.zero_le
def ml:=@List.ext_getElem?
def Ha:=@List.foldl_cons
def Ua:=@Array.mapM_eq_mapM_toList
def qK:=@Nat.one_mul
def uX:=@Nat.add_comm
def hQ:=@List.map_append
def oU:=@List.eq_nil_of_length_eq_zero
def ym:=@List.ext_getElem
def yn:=@List.getElem_range
def yo:=@Array.toList_range
def uY:=@Array.toList_map
def MK:=@Array.getElem!_eq_getD
def qL:=@Array.getD_eq_getD_getElem?
def jY:=@List.flatMap_cons
def dB:=@List.mem_cons
def Ay:=@List.mem_flatMap
def C4:=@List.getElem_cons_zero
def pM:=@List.length_pos_iff
def Ub:=@Nat.one_le_iff_ne_zero
def Uc:=@Nat.mul_le_mul_left
def Ud:=@Array.size_append
def dv:=@List.length_append
def Ue:=@Array.getElem_append_left
def iR:=@Nat.ble_eq_true_of_le
def oV:=@List.drop_drop
def Hb:=@List.getElem_cons_succ
def Hc:=@List.forIn_cons
def Uf:=@List.zip_cons_cons
def ML:=@Bool.and_self
def wG:=@Bool.not_eq_true'
def nY:=@List.all_eq_true
def Hd:=@Nat.sub_self
def ib:=@List.length_set
def uZ:=@List.getElem_set
def u0:=@List.filter_cons
def fs:=@Option.map_eq_some_iff
def eD:=@Option.bind_eq_bind
def dU:=@Option.bind_eq_some_iff
def eU:=@Option.pure_def
def C5:=@List.cons_append
def Ug:=@List.take_succ_cons
def He:=@List.drop_zero
def MM:=@Nat.le_add_right
def Uh:=@Nat.add_sub_cancel_left
def U{P:Prop}(h:P:=by omega):P:=h
def aF{P:Prop}(h:P:=by simp):P:=h
def bw{P:Prop}(h:P:=by decide):P:=h
def dp{P:Prop}(h:P:=by repeat (first|exact trivial|refine ⟨rfl,?_⟩)):P:=h
set_option maxHeartbeats 0
inductive AV where
 |b (x:Bool)
 |i (k:IntKind) (n:Int)
 |s (l:List Nat)
 |p (a:Option (Nat×Nat))
 |dh (old:Bool) (v:AV)
 |al (id off len:Nat) (aa:Option Nat) (cap:Option Nat)
 |af
 |a_ (old:Bool) (aa:Option Nat) (xs:List AV)
 |m (r:Option Nat)
 |f (fn:Fn) (first captured:List AV)
 |eh
 |it (t:TypeId) (v:AV)
 |fP
 |R (l:List AV)
 |a0 (l:List AV)
 |hv (k:IntKind) (d j:Nat) -- a c7p number,of Ui is known Hf it leaves by d
 |ic (ex:List (List Nat)) -- a string,none of a8s
 |iI (hi:Bool) -- C6 i64 C7 is not known:c7q it is c7r c7s 40
 |y (i:Nat) -- a string,C6 integer C7 is not known
 |gu (old:Bool) (i:Nat) -- a slice C7 is not known,over memory C7 never changes
 deriving Inhabited
inductive aJ where
 |t (i:Nat)
 |c (v:AV)
 |g (g:Nat)
 deriving Inhabited
inductive tp where
 |fn (f:Nat)
 |val (o:aJ)
 deriving Inhabited
inductive AOp where
 |bJ (x:aJ)
 |pick (c a b:aJ)
 |alloc (v:AV)
 |box (x:aJ)
 |build (zero:List AV) (parts:List (Nat×Nat×aJ)) -- offset,cells,Hf
 |buildSlice (aa:Option Nat) (len:Nat) (zero:List AV) (parts:List (Nat×aJ))
 |load (aa:Option Nat) (a:aJ)
 |store (aa:Option Nat) (a x:aJ)
 |nilCheck (x:aJ)
 |bin (op:BinOp) (x y:aJ)
 |yp (neg:Bool) (x y:aJ)
 |jZ (kind:Nat) (neg:Bool) (x y:aJ) -- kind:0 interface,1 pointer,2 function,3 slice,4 map;from 10 on:structs
 |not (x:aJ)
 |neg (x:aJ)
 |conv (k:IntKind) (x:aJ)
 |C8 (x:aJ)
 |Hg (x:aJ)
 |Hh (t:TypeId) (x:aJ)
 |fQ (fn:Fn) (first captured:List aJ)
 |mkMap
 |mkSlice (aa:Option Nat) (bytes:Nat) (zero:List AV) (len cap:aJ)
 |wH (n:Nat) (aa:Option Nat) (x:aJ) (cY hi:Option aJ)
 |nt (aa:Option Nat) (x:aJ) (cY hi gd:Option aJ)
 |iZ (x:aJ) (cY hi:Option aJ)
 |fieldAddr (off:Nat) (aa:Option Nat) (x:aJ)
 |field (off:Nat) (aa:Option Nat) (x:aJ)
 |rV (n:Nat) (aa:Option Nat) (x i:aJ)
 |bn (aa:Option Nat) (x i:aJ)
 |lu (x i:aJ)
 |Az (n:Nat) (aa:Option Nat) (x i:aJ)
 |lookup (aa:Nat ⊕ List Nat) (x k:aJ) (zero:AV) (ok:Bool) -- u1 c7t shape
 |ki (aa:Nat ⊕ List Nat) (m k v:aJ)
 |rangeMap (x:aJ)
 |tq (x:aJ)
 |entry (x:aJ)
 |Hi (x:aJ) (t:TypeId) (zero:AV) (ok:Bool)
 |extract (x:aJ) (i:Nat)
 |call (c:tp) (args:List aJ)
 |lv (c:tp) (args:List aJ)
 |panic (x:aJ)
 |append (aa:Option Nat) (bytes:Nat) (s x:aJ)
 |len (kind:Nat) (x:aJ) -- 0:string;1:slice;2:map
 |Hj (n:Nat)
 |cap (x:aJ)
 |copy (aa:Option Nat) (d s:aJ)
 |C9 (gd:Bool) (x y:aJ)
 |recover
 |bad
 deriving Inhabited
structure a4 where
 dst:Option Nat
 op:AOp
 guard:Option (Nat×Bool) -- u1 a8t,and Hf it c7u be
 kj:List Nat -- of a region C7 c7v:u1 places ahead of Ui it may c7w,c7x
 deriving Inhabited
inductive bF where
 |skip
 |region (ops:List a4)
 |draw (ops:List a4)
 |seq (a b:bF)
 |cond (c:aJ) (a b:bF)
 |block (id:Nat) (a:bF)
 |loop (a:bF)
 |scope (a:bF)
 |rangeFunc (f:aJ) (aC:List Nat) (assign body:bF)
 |exit (id:Nat)
 |ret
 |bad
 deriving Inhabited
structure aN where
 j0:Nat
 ntmps:Nat
 results:List (Nat×Option (Option Nat)) -- u1 a8t;none:by value;some aa:a cell of C7 shape
 body:Option bF
 deriving Inhabited
inductive a1(α:Type) where
 |nil
 |node (v:Option α) (l r:a1 α)
 deriving Inhabited
def a1.get{α:Type}(t:a1 α):Nat->Option α:=
 a1.rec (λ_=>none) (λv _ _ g6 C_ i=>Bool.rec (motive:=λ_=>Option α) (Bool.rec (motive:=λ_=>Option α) (C_ (Nat.div (Nat.sub i 1) 2)) (g6 (Nat.div (Nat.sub i 1) 2)) (Nat.beq (Nat.mod i 2) 1)) v (Nat.beq i 0)) t
def a1.set{α:Type}(t:a1 α):Nat->α->a1 α:=
 a1.rec (λ_ _=>.nil) (λv l r g6 C_ i x=>Bool.rec (motive:=λ_=>a1 α) (Bool.rec (motive:=λ_=>a1 α) (.node v l (C_ (Nat.div (Nat.sub i 1) 2) x)) (.node v (g6 (Nat.div (Nat.sub i 1) 2) x) r) (Nat.beq (Nat.mod i 2) 1))
  (.node (Option.rec (motive:=λ_=>Option α) none (λ_=>some x) v) l r) (Nat.beq i 0)) t
def a1.AA{α:Type}(f:Nat):Nat->α->a1 α:=
 Nat.rec (λ_ _=>.nil) (λ_ aH i x=>Bool.rec (motive:=λ_=>a1 α) (Bool.rec (motive:=λ_=>a1 α) (.node none .nil (aH (Nat.div (Nat.sub i 1) 2) x)) (.node none (aH (Nat.div (Nat.sub i 1) 2) x) .nil) (Nat.beq (Nat.mod i 2) 1)) (.node (some x) .nil .nil) (Nat.beq i 0)) f
def a1.ins{α:Type}(t:a1 α):Nat->α->a1 α:=
 a1.rec (λi x=>a1.AA (i+1) i x) (λv l r g6 C_ i x=>Bool.rec (motive:=λ_=>a1 α) (Bool.rec (motive:=λ_=>a1 α) (.node v l (C_ (Nat.div (Nat.sub i 1) 2) x)) (.node v (g6 (Nat.div (Nat.sub i 1) 2) x) r) (Nat.beq (Nat.mod i 2) 1))
  (.node (some x) l r) (Nat.beq i 0)) t
def a1.full{α:Type}(f:Nat)(x:α):Nat->a1 α:=
 Nat.rec (λ_=>.nil) (λ_ aH n=>cond (Nat.beq n 0) .nil (.node (some x) (aH (Nat.div n 2)) (aH (Nat.div (Nat.sub n 1) 2)))) f
def a1.lay{α:Type}(l:List α):Nat->a1 α->a1 α:=
 List.rec (λ_ t=>t) (λx _ aH i t=>aH (i+1) (t.set i x)) l
inductive rW where
 |h
 |l (p:rW)
 |r (p:rW)
def yq(f:Nat):Nat->rW:=
 Nat.rec (motive:=λ_=>Nat->rW) (λ_=>.h) (λ_ aH i=>Bool.rec (motive:=λ_=>rW) (Bool.rec (motive:=λ_=>rW) (.r (aH (Nat.div (Nat.sub i 1) 2))) (.l (aH (Nat.div (Nat.sub i 1) 2))) (Nat.beq (Nat.mod i 2) 1)) .h (Nat.beq i 0)) f
def MN(i:Nat):rW:=yq (Nat.succ i) i
def a1.Hk{α:Type}(p:rW):a1 α->Option α:=
 rW.rec (motive:=λ_=>a1 α->Option α) (λt=>a1.rec (motive:=λ_=>Option α) none (λv _ _ _ _=>v) t) (λ_ aH t=>a1.rec (motive:=λ_=>Option α) none (λ_ l _ _ _=>aH l) t)
  (λ_ aH t=>a1.rec (motive:=λ_=>Option α) none (λ_ _ r _ _=>aH r) t) p
def a1.Uj{α:Type}(x:α)(p:rW):a1 α->a1 α:=
 rW.rec (motive:=λ_=>a1 α->a1 α) (λt=>a1.rec (motive:=λ_=>a1 α) .nil (λv l r _ _=>.node (Option.rec (motive:=λ_=>Option α) none (λ_=>some x) v) l r) t)
  (λ_ aH t=>a1.rec (motive:=λ_=>a1 α) .nil (λv l r _ _=>.node v (aH l) r) t) (λ_ aH t=>a1.rec (motive:=λ_=>a1 α) .nil (λv l r _ _=>.node v l (aH r)) t) p
inductive AO where
 |cells (c:List AV)
 |dead
 |map (es:List (AV×AV×Nat)) (clock:Nat)
 |mapIter (m:Option Nat) (since:Nat) (seen:List Nat) (g7:Nat)
 |loop (st:LoopState) (pending:Option bF) (bj:a1 AV) (aC:List Nat) (assign body:bF) (eE:Nat)
 |eE
 deriving Inhabited
structure ae where
 yr:a1 AO
 next:Nat
 deriving Inhabited
def mapO{α β:Type}(f:α->Option β)(l:List α):Option (List β):=
 List.rec (some []) (λx _ aH=>match f x with|none=>none|some y=>match aH with|none=>none|some bf=>some (y::bf)) l
def nth{α:Type}(l:List α):Nat->Option α:=
 List.rec (λ_=>none) (λx _ aH n=>Nat.rec (some x) (λn _=>aH n) n) l
def eqL(l:List Nat):List Nat->Bool:=
 List.rec (λr=>match r with|[]=>true|_::_=>false) (λx _ aH r=>match r with|[]=>false|y::bf=>cond (Nat.beq x y) (aH bf) false) l
def ix(l:List Nat):List Nat->Bool:=
 List.rec (λr=>match r with|[]=>false|_::_=>true)
  (λx _ aH r=>match r with
   |[]=>false
   |y::bf=>cond (Nat.blt x y) true (cond (Nat.beq x y) (aH bf) false)) l
def fY{α:Type}(f:α->α->Bool)(l:List α):List α->Bool:=
 List.rec (λr=>match r with|[]=>true|_::_=>false) (λx _ aH r=>match r with|[]=>false|y::bf=>cond (f x y) (aH bf) false) l
def ae.get(J:ae)(id:Nat):Option AO:=cond (Nat.blt id J.next) (J.yr.get id) none
def ae.set(J:ae)(id:Nat)(o:AO):ae:=⟨J.yr.ins id o,J.next⟩
def ae.push(J:ae)(o:AO):ae:=⟨J.yr.ins J.next o,J.next+1⟩
def AV.cells:AV->List AV
 | .R l=>l
 |v=>[v]
def AV.val:AV->Bool
 | .a0 _=>false
 |_=>true
def shN:Option Nat->Nat
 |none=>1
 |some n=>n
def dV(aa:Option Nat)(c:List AV):Option AV:=
 match aa with
 |none=>c.head?
 |some n=>let l:=c.take n;if l.length=n then some (.R l) else none
def conf(aa:Option Nat)(v:AV):Bool:=
 match aa,v with
 |none,.R _=>false
 |none,.a0 _=>false
 |none,_=>true
 |some n,.R l=>Nat.beq l.length n
 |some _,_=>false
def elems(aa:Option Nat)(n:Nat)(c:List AV):Option (List AV):=
 Nat.rec (motive:=λ_=>List AV->Option (List AV)) (λ_=>some [])
  (λ_ aH c=>match dV aa c with
   |none=>none
   |some v=>match aH (c.drop (shN aa)) with|none=>none|some bo=>some (v::bo)) n c
def readList(J:ae):AV->Option (List AV)
 | .af=>some []
 | .a_ _ _ xs=>some xs
 | .al id off len aa _=>match J.get id with
  |some (.cells c)=>elems aa len (c.drop off)
  |_=>none
 |_=>none
def freeze(J:ae)(base:Nat)(n:Nat):AV->Option AV:=
 Nat.rec (motive:=λ_=>AV->Option AV) (λ_=>none) (λ_ aH v=>
  match v with
  | .al id off len aa cap=>if Nat.blt id base then none else
   match readList J (.al id off len aa cap) with
   |none=>none
   |some xs=>match mapO aH xs with|none=>none|some xs=>some (.a_ false aa xs)
  | .R l=>match mapO aH l with|none=>none|some l=>some (.R l)
  | .a0 l=>match mapO aH l with|none=>none|some l=>some (.a0 l)
  | .it t v=>match aH v with|none=>none|some v=>some (.it t v)
  | .p (some _)=>none
  | .m (some _)=>none
  | .f _ _ _=>none
  |v=>some v) n
def bM(J:ae)(n:Nat):AV->Option AV:=
 Nat.rec (motive:=λ_=>AV->Option AV) (λ_=>none) (λ_ aH v=>
  match v with
  | .al id off len aa cap=>
   match readList J (.al id off len aa cap) with
   |none=>none
   |some xs=>match mapO aH xs with|none=>none|some xs=>some (.a_ true aa xs)
  | .af=>some .af
  | .a_ _ aa xs=>match mapO aH xs with|none=>none|some xs=>some (.a_ true aa xs)
  | .R l=>match mapO aH l with|none=>none|some l=>some (.R l)
  | .a0 l=>match mapO aH l with|none=>none|some l=>some (.a0 l)
  | .it t v=>match aH v with|none=>none|some v=>some (.it t v)
  | .p (some _)=>none
  | .m (some _)=>none
  | .dh _ _=>none
  | .f _ _ _=>none
  | .gu _ i=>some (.gu true i)
  |v=>some v) n
def AV.eqb(n:Nat):AV->AV->Bool:=
 Nat.rec (motive:=λ_=>AV->AV->Bool) (λ_ _=>false) (λ_ aH x y=>
  match x,y with
  | .b x,.b y=>x==y
  | .i k x,.i l y=>decide (k=l)&&decide (x=y)
  | .s x,.s y=>eqL x y
  | .af,.af=>true
  | .a_ u2 aa xs,.a_ cw hS bf=>(u2==cw)&&decide (aa=hS)&&fY aH xs bf
  | .eh,.eh=>true
  | .fP,.fP=>true
  | .p none,.p none=>true
  | .p (some x),.p (some y)=>Nat.beq x.1 y.1&&Nat.beq x.2 y.2
  | .m none,.m none=>true
  | .m (some x),.m (some y)=>Nat.beq x y
  | .al aX bc cq ew eJ,.al eF dE dW fK nZ=>Nat.beq aX eF&&Nat.beq bc dE&&Nat.beq cq dW&&decide (ew=fK)&&decide (eJ=nZ)
  | .dh u2 x,.dh cw y=>(u2==cw)&&aH x y
  | .f e6 gf x,.f fb MO y=>decide (e6=fb)&&(fY aH gf MO&&fY aH x y)
  | .it t x,.it u y=>Nat.beq t u&&aH x y
  | .R x,.R y=>fY aH x y
  | .a0 x,.a0 y=>fY aH x y
  | .hv k d j,.hv dF jt tr=>decide (k=dF)&&(Nat.beq d jt&&Nat.beq j tr)
  | .ic x,.ic y=>fY eqL x y
  | .iI c,.iI d=>c==d
  | .y c,.y d=>Nat.beq c d
  | .gu u2 c,.gu cw d=>(u2==cw)&&Nat.beq c d
  |_,_=>false) n
def qM(a:List Nat)(ex:List (List Nat)):Bool:=List.rec false (λx _ aH=>cond (eqL a x) true aH) ex
def leafEq(kind:Nat)(a b:AV):Option Bool:=
 match kind,a,b with
 |0,.i k a,.i l b=>if k=l then some (decide (a=b)) else none
 |1,.s a,.s b=>some (eqL a b)
 |2,.b x,.b y=>some (x==y)
 |1,.ic ex,.s b=>cond (qM b ex) (some false) none
 |1,.s a,.ic ex=>cond (qM a ex) (some false) none
 |_,_,_=>none
def mR(bC:List Nat):List AV->List AV->Option Bool:=
 List.rec (λl r=>match l,r with|[],[]=>some true|_,_=>none)
  (λk _ aH l r=>match l,r with
   |x::xs,y::bf=>match leafEq k x y,aH xs bf with|some a,some b=>some (a&&b)|_,_=>none
   |_,_=>none) bC
abbrev kE:=Nat ⊕ List Nat
def keyEq(aa:kE)(a b:AV):Option Bool:=
 match aa with
 | .inl k=>leafEq k a b
 | .inr bC=>match a,b with
  | .R x,.R y=>mR bC x y
  |_,_=>none
def keySelf(aa:kE)(a:AV):Bool:=
 match aa,a with
 | .inl 1,.ic _=>true
 |aa,a=>match keyEq aa a a with|some _=>true|none=>false
def Da(aa:kE)(k:AV)(es:List (AV×AV×Nat)):Option (Option AV):=
 List.rec (some none) (λe _ aH=>match keyEq aa k e.1 with|none=>none|some true=>some (some e.2.1)|some false=>aH) es
def qN(aa:kE)(k v:AV)(es:List (AV×AV×Nat)):Option (Option (List (AV×AV×Nat))):=
 List.rec (some none) (λe es aH=>match keyEq aa k e.1 with
  |none=>none
  |some true=>some (some ((k,v,e.2.2)::es))
  |some false=>match aH with|none=>none|some none=>some none|some (some es)=>some (some (e::es))) es
def storeCells(c:List AV)(off:Nat)(v:List AV):Option (List AV):=
 if Nat.ble (off+v.length) c.length then some (c.take off++(v++c.drop (off+v.length))) else none
def wrapN(k:IntKind)(n:Int):Int:=
 match k,n with
 | .i64,.ofNat x=>cond (Nat.blt x 9223372036854775808) n (k.wrap n)
 |_,n=>k.wrap n
def Uk(op:BinOp)(k:IntKind)(x y:Int):Option Int:=
 let a:=BitVec.ofInt k.bits x
 let b:=BitVec.ofInt k.bits y
 match op with
 | .and=>some (k.wrap (a &&& b).toNat)
 | .or=>some (k.wrap (a ||| b).toNat)
 | .xor=>some (k.wrap (a ^^^ b).toNat)
 | .andNot=>some (k.wrap (a &&& ~~~b).toNat)
 |_=>none
def binI(op:BinOp)(k:IntKind)(x y:Int):Option AV:=
 match op with
 | .add=>some (.i k (wrapN k (x+y)))
 | .sub=>some (.i k (wrapN k (x-y)))
 | .mul=>some (.i k (wrapN k (x*y)))
 | .quo=>if y=0 then none else some (.i k (k.wrap (x.tdiv y)))
 | .rem=>if y=0 then none else some (.i k (x.tmod y))
 | .eql=>some (.b (decide (x=y)))
 | .neq=>some (.b (!decide (x=y)))
 | .lss=>some (.b (decide (x<y)))
 | .leq=>some (.b (decide (x<=y)))
 | .gtr=>some (.b (decide (y<x)))
 | .geq=>some (.b (decide (y<=x)))
 |op=>match Uk op k x y with|some n=>some (.i k n)|none=>none
def binS(op:BinOp)(x y:List Nat):Option AV:=
 match op with
 | .add=>if Nat.blt (x.length+y.length) 4611686018427387904 then some (.s (x++y)) else none
 | .eql=>some (.b (eqL x y))
 | .neq=>some (.b (!eqL x y))
 | .lss=>some (.b (ix x y))
 | .leq=>some (.b (!ix y x))
 | .gtr=>some (.b (ix y x))
 | .geq=>some (.b (!ix x y))
 |_=>none
def sxEq(op:BinOp)(a:List Nat)(ex:List (List Nat)):Option AV:=
 cond (qM a ex) (match op with| .eql=>some (.b false)| .neq=>some (.b true)|_=>none) none
def umOp(op:BinOp)(k:IntKind)(d j c:Nat):Option AV:=
 cond (Nat.blt 0 c&&(Nat.beq (d%c) 0&&(decide (k= .u8)||decide (k= .i64))))
  (match op with
   | .rem=>some (.i k (Int.ofNat (j%c)))
   | .quo=>some (.hv k (d/c) (j/c))
   |_=>none) none
def binop(op:BinOp)(x y:AV):Option AV:=
 match x,y with
 | .i k a,.i l b=>match op with
  | .shl=>if b<0 then none else some (.i k (k.wrap (a*2^(min b.toNat k.bits))))
  | .shr=>if b<0 then none else some (.i k (a.fdiv (2^(min b.toNat k.bits))))
  |op=>if k=l then binI op k a b else none
 | .s a,.s b=>binS op a b
 | .hv k d j,.i l (.ofNat c)=>if k=l then umOp op k d j c else none
 | .iI hi,.i l (.ofNat c)=>if l= .i64/\c=40 then(match op with| .gtr=>some (.b hi)| .leq=>some (.b (!hi))|_=>none) else none
 | .s a,.ic ex=>sxEq op a ex
 | .ic ex,.s a=>sxEq op a ex
 |_,_=>none
def binopB(x y:AV):Option Bool:=
 match x,y with
 | .b c,.b d=>some (c==d)
 |_,_=>none
def Hl:List Nat->Nat
 |[]=>1
 |d::ds=>Hl ds*4+d
def Ul(f:Nat):Nat->List Nat:=Nat.rec (motive:=λ_=>Nat->List Nat) (λ_=>[]) (λ_ aH n=>cond (Nat.ble n 1) [] (Nat.mod n 4::aH (Nat.div n 4))) f
def isNilEq(kind:Nat)(x y:AV):Option Bool:=
 match kind,x,y with
 |0,.it _ _,.fP=>some false
 |1,.p (some _),.p none=>some false
 |1,.dh _ _,.p none=>some false
 |1,.p none,.p none=>some true
 |2,.f _ _ _,.eh=>some false
 |2,.eh,.eh=>some true
 |3,.af,.af=>some true
 |3,.al _ _ _ _ _,.af=>some false
 |3,.a_ _ _ (_::_),.af=>some false
 |4,.m none,.m none=>some true
 |4,.m (some _),.m none=>some false
 |k,.R x,.R y=>cond (Nat.ble 10 k) (mR (Ul 40 (k-10)) x y) none
 |_,_,_=>none
def natOf:AV->Option Nat
 | .i _ (.ofNat n)=>some n
 |_=>none
def ei:AV:=.a0 []
structure Fr where
 bj:a1 AV
 defers:List (Nat ⊕ (AV×List AV)) -- u1 mark of a block,or a call
 gg:Bool -- of a deferred call: 'recover' has c7y called
 deriving Inhabited
def Fr.put(ad:Fr)(d:Option Nat)(v:AV):Fr:=
 match d with
 |some d=>⟨ad.bj.set d v,ad.defers,ad.gg⟩
 |none=>ad
def Fr.oW(ad:Fr)(d:Option Nat)(v:AV):Fr:=Option.rec (motive:=λ_=>Fr) ad (λd=>⟨a1.Uj v (MN d) ad.bj,ad.defers,ad.gg⟩) d
inductive fZ where
 |normal|exit (id:Nat)|ret|panic (v:AV)
 deriving Inhabited
inductive en where
 |ok (v:AV)
 |err (v:AV)
 deriving Inhabited
structure Env where
 funcs:Nat->Option aN
 mm:Nat->Option AV
 pure:Nat->Bool
 spec:Nat->List AV->Option AV
 bp:Nat -- c7z deep values c7A looked at
 ext:Nat->Nat -- 1:c7B,2:c7C,3:c7D;0:none
def evalA(env:Env)(al:a1 AV):aJ->Option AV
 | .t i=>al.get i
 | .c v=>some v
 | .g g=>match env.mm g with|some v=>some (.dh true v)|none=>none
def AB(env:Env)(al:a1 AV)(x:aJ):Option AV:=
 aJ.rec (motive:=λ_=>Option AV) (λi=>a1.Hk (MN i) al) (λv=>some v) (λg=>match env.mm g with|some v=>some (.dh true v)|none=>none) x
inductive bZ where
 |val (v:AV) (J:ae)
 |call (ct:AV) (args:List AV)
 |lv (ct:AV) (args:List AV)
 |panic (v:AV)
 |j1 (l:List (AV×ae)) -- one of a8s
def oX{α β:Type}(f:α->Option (List β))(l:List α):Option (List β):=
 List.rec (motive:=λ_=>Option (List β)) (some []) (λx t aH=>List.rec (motive:=λ_=>Option (List β)) (f x) (λ_ _ _=>match f x with|none=>none|some a=>match aH with|none=>none|some b=>some (a++b)) t) l
def hT{α β:Type}(r:Option (List α))(f:α->Option (List β)):Option (List β):=Option.rec (motive:=λ_=>Option (List β)) none (λl=>oX f l) r
def j2(n:Nat)(off:Nat):AV:=.p (some (n,off))
def iy(ar:aJ->Option AV)(b0:Nat->Nat->Nat)(aC:List (Nat×Nat×aJ)):List AV->Option (List AV):=
 List.rec (λc=>some c) (λp _ aH c=>match ar p.2.2 with
  |none=>none
  |some v=>cond (Nat.beq v.cells.length p.2.1&&v.val) (match storeCells c (b0 p.1 p.2.1) v.cells with|none=>none|some c=>aH c) none) aC
def f_(n:Nat)(z:List AV):List AV:=Nat.rec [] (λ_ aH=>z++aH) n
def bndO(ar:aJ->Option AV)(x:Option aJ)(d:Nat):Option Nat:=
 match x with
 |none=>some d
 |some x=>match ar x with|some v=>natOf v|none=>none
def v2(two:Bool)(v:AV)(ok:Bool):AV:=cond two (.a0 [v,.b ok]) v
def nilOk:AV->Bool
 | .p (some _)=>true
 | .dh _ _=>true
 | .f _ _ _=>true
 | .it _ _=>true
 |_=>false
def cD{α:Type}(p:α->Bool)(l:List α):Bool:=List.rec true (λx _ aH=>cond (p x) aH false) l
def newOf(J:ae)(x:AV):Option (List AV):=
 match x with
 | .s l=>some (l.map λc=>AV.i .u8 (Int.ofNat c))
 |x=>readList J x
def appendO(floor:Nat)(J:ae)(aa:Option Nat)(bytes:Nat)(s x:AV):Option (AV×ae):=
 match readList J s,newOf J x with
 |some old,some new=>
  cond (cD (conf aa) old&&cD (conf aa) new&&Nat.ble ((3*(old.length+new.length)+2000)*bytes) 281474976710656)
   (match new with
    |[]=>some (s,J)
    |_::_=>match s with
     | .al id off len hS cap=>
      if hS=aa then
       match cap with
       |some c=>
        cond (Nat.ble (len+new.length) c)
         (if Nat.blt id floor then none else
         match J.get id with
         |some (.cells ts)=>match storeCells ts (off+len*shN aa) (new.flatMap AV.cells) with
          |some hU=>some (.al id off (len+new.length) aa cap,J.set id (.cells hU))
          |none=>none
         |_=>none)
         (some (.al J.next 0 (len+new.length) aa none,J.push (.cells (old.flatMap AV.cells++new.flatMap AV.cells))))
       |none=>
        if Nat.blt id floor then none else
        if Nat.beq off 0 then
         some (.al J.next 0 (len+new.length) aa none,(J.set id .dead).push (.cells (old.flatMap AV.cells++new.flatMap AV.cells)))
        else none
      else none
     | .af=>some (.al J.next 0 new.length aa none,J.push (.cells (new.flatMap AV.cells)))
     |_=>none)
   none
 |_,_=>none
def sliceA(ar:aJ->Option AV)(kF:Option Nat)(x:AV)(cY hi gd:Option aJ):Option AV:=
 match x with
 | .al id off len aa cap=>
  if aa=kF then
   match bndO ar cY 0,bndO ar hi len with
   |some l,some h=>
    if Nat.ble l h then
     match gd with
     |some gd=>match bndO ar (some gd) 0 with
      |some k=>
       if Nat.ble h k&&Nat.ble k (cap.getD len) then some (.al id (if k=l then off else off+l*shN aa) (h-l) aa (some (k-l))) else none
      |none=>none
     |none=>match cap with
      |some c=>if Nat.ble h c then some (.al id (if c=l then off else off+l*shN aa) (h-l) aa (some (c-l))) else none
      |none=>if Nat.ble h len&&Nat.beq l 0 then some (.al id off h aa none) else if Nat.ble h len&&Nat.blt l len then some (.al id (off+l*shN aa) (h-l) aa none) else if Nat.beq l len&&Nat.beq h len then some (.a_ true aa []) else none
    else none
   |_,_=>none
  else none
 | .af=>match bndO ar cY 0,bndO ar hi 0,bndO ar gd 0 with
  |some 0,some 0,some 0=>some .af
  |_,_,_=>none
 | .a_ o aa xs=>if aa=kF then
   match bndO ar cY 0,bndO ar hi xs.length,gd with
   |some l,some h,none=>if Nat.ble l h&&Nat.ble h xs.length then some (.a_ o aa ((xs.drop l).take (h-l))) else none
   |_,_,_=>none
  else none
 |_=>none
def lookupA(J:ae)(aa:kE)(x k z:AV)(two:Bool):Option AV:=
 cond (keySelf aa k)
  (match x with
  | .m none=>some (v2 two z false)
  | .m (some id)=>match J.get id with
   |some (.map es _)=>match Da aa k es with
    |some (some v)=>some (v2 two v true)
    |some none=>some (v2 two z false)
    |none=>none
   |_=>none
  |_=>none) none
def capA(x:AV):Option Nat:=
 match x with
 | .af=>some 0
 | .al _ _ _ _ (some c)=>some c
 |_=>none
def lenA(J:ae)(k:Nat)(x:AV):Option Nat:=
 match k,x with
 |0,.s l=>some l.length
 |1,.af=>some 0
 |1,.al _ _ n _ _=>some n
 |1,.a_ _ _ xs=>some xs.length
 |2,.m none=>some 0
 |2,.m (some id)=>match J.get id with|some (.map es _)=>some es.length|_=>none
 |_,_=>none
def calleeV(ar:aJ->Option AV)(c:tp):Option AV:=match c with| .fn f=>some (AV.f (.func f) [] [])| .val x=>ar x
def rY(J:ae)(aa:Option Nat)(p:AV):Option AV:=
 match p with
 | .p (some (id,off))=>match J.get id with
  |some (.cells c)=>dV aa (c.drop off)
  |_=>none
 | .dh _ v=>if conf aa v then some v else none
 |_=>none
def fieldAddrA(off:Nat)(aa:Option Nat)(x:AV):Option AV:=
 match x with
 | .p (some (id,o))=>some (.p (some (id,o+off)))
 | .dh ol (.R cs)=>match dV aa (cs.drop off) with|some v=>some (.dh ol v)|none=>none
 |_=>none
def idxSlA(kF:Option Nat)(x:AV)(j:Nat):Option AV:=
 match x with
 | .al id off len aa _=>if Nat.blt j len&&decide (aa=kF) then some (.p (some (id,off+j*shN aa))) else none
 | .a_ o aa xs=>if aa=kF then match nth xs j with|some v=>some (.dh o v)|none=>none else none
 |_=>none
def assertA(x:AV)(t:TypeId)(z:AV)(two:Bool):Option AV:=
 match x with
 | .it u v=>if u=t then some (v2 two v true) else cond two (some (v2 two z false)) none
 | .fP=>cond two (some (v2 two z false)) none
 |_=>none
def byteOf:AV->Option Nat
 | .i .u8 (.ofNat n)=>cond (Nat.blt n 256) (some n) none
 |_=>none
def oY(n:Nat)(l:List Nat):Bool:=List.rec false (λx _ aH=>cond (Nat.beq x n) true aH) l
def mS(seen:List Nat)(es:List (AV×AV×Nat)):List (AV×AV×Nat):=List.rec [] (λe _ aH=>cond (oY e.2.2 seen) aH (e::aH)) es
def qO(l:List Nat):Option Nat:=List.rec none (λx _ aH=>match aH with|none=>some x|some y=>some y) l
def pN(b:Nat)(es:List (AV×AV×Nat)):Option (AV×AV×Nat):=List.rec none (λe _ aH=>cond (Nat.beq e.2.2 b) (some e) aH) es
def lenU(J:ae)(k:Nat)(x:AV):Option bZ:=
 match k,x with
 |0,.ic _=>some (.j1 [(.iI true,J),(.iI false,J)])
 |_,_=>none
def opx(floor:Nat)(ar:aJ->Option AV)(J:ae)(op:AOp):Option bZ:=
 match op with
 | .bJ x=>match ar x with|some v=>some (.val v J)|none=>none
 | .pick c a b=>match ar c with
  |some (.b t)=>match ar (cond t a b) with|some v=>some (.val v J)|none=>none
  |_=>none
 | .alloc v=>some (.val (j2 J.next 0) (J.push (.cells v.cells)))
 | .box x=>match ar x with|some v=>cond v.val (some (.val (j2 J.next 0) (J.push (.cells v.cells)))) none|none=>none
 | .build z aC=>match iy ar (λoff _=>off) aC z with|some c=>some (.val (.R c) J)|none=>none
 | .buildSlice aa n z aC=>
  match iy ar (λi b0=>i*b0) (aC.map λp=>(p.1,shN aa,p.2)) (f_ n z) with
  |some c=>some (.val (.al J.next 0 n aa (some n)) (J.push (.cells c)))
  |none=>none
 | .load aa a=>match ar a with
  |some p=>match rY J aa p with|some v=>some (.val v J)|none=>none
  |none=>none
 | .store aa a x=>match ar a,ar x with
  |some (.p (some (id,off))),some v=>
   if Nat.blt id floor then none else
   if conf aa v then
    match J.get id with
    |some (.cells c)=>match storeCells c off v.cells with
     |some c=>some (.val ei (J.set id (.cells c)))
     |none=>none
    |_=>none
   else none
  |_,_=>none
 | .nilCheck x=>match ar x with
  |some v=>cond (nilOk v) (some (.val v J)) none
  |none=>none
 | .bin op x y=>match ar x,ar y with
  |some a,some b=>match binop op a b with|some v=>some (.val v J)|none=>none
  |_,_=>none
 | .yp neg x y=>match ar x,ar y with
  |some a,some b=>match binopB a b with|some v=>some (.val (.b (cond neg (!v) v)) J)|none=>none
  |_,_=>none
 | .jZ kind neg x y=>match ar x,ar y with
  |some a,some b=>match isNilEq kind a b with|some v=>some (.val (.b (cond neg (!v) v)) J)|none=>none
  |_,_=>none
 | .not x=>match ar x with|some (.b x)=>some (.val (.b !x) J)|_=>none
 | .neg x=>match ar x with|some (.i k n)=>some (.val (.i k (k.wrap (0-n))) J)|_=>none
 | .conv k x=>match ar x with|some (.i _ n)=>some (.val (.i k (wrapN k n)) J)|some (.hv _ d j)=>(match k with| .i64=>some (.val (.hv .i64 d j) J)|_=>none)|_=>none
 | .Hh t x=>match ar x with|some v=>some (.val (.it t v) J)|none=>none
 | .fQ fn a c=>match mapO ar a,mapO ar c with|some a,some c=>some (.val (.f fn a c) J)|_,_=>none
 | .mkMap=>some (.val (.m (some J.next)) (J.push (.map [] 0)))
 | .nt kF x cY hi gd=>match ar x with
  |some x=>match sliceA ar kF x cY hi gd with|some v=>some (.val v J)|none=>none
  |none=>none
 | .iZ x cY hi=>match ar x with
  |some (.s s)=>match bndO ar cY 0,bndO ar hi s.length with
   |some l,some h=>if Nat.ble l h&&Nat.ble h s.length then some (.val (.s ((s.drop l).take (h-l))) J) else none
   |_,_=>none
  |_=>none
 | .wH n aa x cY hi=>match ar x,bndO ar cY 0,bndO ar hi n with
  |some (.p (some (id,off))),some l,some h=>
   if Nat.ble l h&&Nat.ble h n then
    match J.get id with
    |some (.cells c)=>if Nat.ble (off+n*shN aa) c.length then some (.val (.al id (if n=l then off else off+l*shN aa) (h-l) aa (some (n-l))) J) else none
    |_=>none
   else none
  |_,_,_=>none
 | .fieldAddr off aa x=>match ar x with
  |some x=>match fieldAddrA off aa x with|some v=>some (.val v J)|none=>none
  |none=>none
 | .field off aa x=>match ar x with
  |some (.R cs)=>match dV aa (cs.drop off) with|some v=>some (.val v J)|none=>none
  |_=>none
 | .rV n aa x i=>match ar x,ar i with
  |some x,some j=>match natOf j with
   |some j=>if Nat.blt j n then match fieldAddrA (j*shN aa) aa x with|some v=>some (.val v J)|none=>none else none
   |none=>none
  |_,_=>none
 | .bn kF x i=>match ar x,ar i with
  |some x,some j=>match natOf j with
   |some j=>match idxSlA kF x j with|some v=>some (.val v J)|none=>none
   |none=>none
  |_,_=>none
 | .lu x i=>match ar x,ar i with
  |some (.s l),some j=>match natOf j with
   |some j=>match nth l j with|some c=>some (.val (.i .u8 (Int.ofNat c)) J)|none=>none
   |none=>none
  |_,_=>none
 | .Az n aa x i=>match ar x,ar i with
  |some (.R cs),some j=>match natOf j with
   |some j=>if Nat.blt j n then match dV aa (cs.drop (j*shN aa)) with|some v=>some (.val v J)|none=>none else none
   |none=>none
  |_,_=>none
 | .lookup aa x k z two=>match ar x,ar k with
  |some x,some k=>match lookupA J aa x k z two with|some v=>some (.val v J)|none=>none
  |_,_=>none
 | .ki aa x k v=>match ar x,ar k,ar v with
  |some (.m (some id)),some k,some v=>
   if Nat.blt id floor then none else
   match J.get id with
   |some (.map es an)=>match keyEq aa k k with
    |none=>none
    |some _=>match qN aa k v es with
    |some (some es)=>some (.val ei (J.set id (.map es an)))
    |some none=>some (.val ei (J.set id (.map (es++[(k,v,an)]) (an+1))))
    |none=>none
   |_=>none
  |_,_,_=>none
 | .Hi x t z two=>match ar x with
  |some x=>match assertA x t z two with|some v=>some (.val v J)|none=>none
  |none=>none
 | .extract x i=>match ar x with
  |some (.a0 l)=>match nth l i with|some v=>some (.val v J)|none=>none
  |_=>none
 | .call c args=>match calleeV ar c,mapO ar args with
  |some ct,some args=>some (.call ct args)
  |_,_=>none
 | .lv c args=>match calleeV ar c,mapO ar args with
  |some ct,some args=>some (.lv ct args)
  |_,_=>none
 | .panic x=>match ar x with|some (.it t v)=>some (.panic (.it t v))|_=>none
 | .len k x=>match ar x with
  |some x=>match lenA J k x with|some n=>some (.val (.i .i64 (Int.ofNat n)) J)|none=>lenU J k x
  |none=>none
 | .Hj n=>some (.val (.i .i64 (Int.ofNat n)) J)
 | .cap x=>match ar x with
  |some x=>match capA x with|some n=>some (.val (.i .i64 (Int.ofNat n)) J)|none=>none
  |none=>none
 | .append aa bytes s x=>match ar s,ar x with
  |some s,some x=>match appendO floor J aa bytes s x with|some (v,J)=>some (.val v J)|none=>none
  |_,_=>none
 | .C8 x=>match ar x with
  |some (.s l)=>some (.val (.al J.next 0 l.length none none) (J.push (.cells (l.map λc=>AV.i .u8 (Int.ofNat c)))))
  |_=>none
 | .Hg x=>match ar x with
  |some x=>match readList J x with
   |some l=>match mapO byteOf l with
    |some l=>some (.val (.s l) J)
    |none=>none
   |none=>none
  |none=>none
 | .mkSlice aa bytes z l c=>match ar l,ar c with
  |some (.i _ (.ofNat n)),some (.i _ (.ofNat m))=>
   cond (Nat.beq z.length (shN aa)&&(Nat.ble n m&&(Nat.ble (bytes*m) 281474976710656&&Nat.ble m 281474976710656)))
    (some (.val (.al J.next 0 n aa (some m)) (J.push (.cells (f_ m z))))) none
  |some .af,some (.i _ (.ofNat m))=>
   cond (Nat.beq z.length (Nat.succ (shN aa))&&(Nat.blt 0 m&&Nat.ble ((3*m+2000)*bytes) 281474976710656))
    (some (.val (.al J.next 0 m aa none) (J.push (.cells (f_ m z.tail))))) none
  |_,_=>none
 | .rangeMap x=>match ar x with
  |some (.m none)=>some (.val (j2 J.next 0) (J.push (.mapIter none 0 [] 0)))
  |some (.m (some id))=>match J.get id with
   |some (.map _ an)=>some (.val (j2 J.next 0) (J.push (.mapIter (some id) an [] an)))
   |_=>none
  |_=>none
 | .tq x=>match ar x with
  |some (.p (some (it,0)))=>if Nat.blt it floor then none else
   match J.get it with
   |some (.mapIter none _ _ _)=>some (.val (.a0 [.b false]) J)
   |some (.mapIter (some id) since seen g7)=>match J.get id with
    |some (.map es an)=>
     cond (Nat.beq an since&&Nat.beq g7 since&&cD (λ(e:AV×AV×Nat)=>Nat.blt e.2.2 since) es)
      (match mS seen es with
       |[]=>some (.val (.a0 [.b false]) J)
       |l=>some (.j1 (l.map λe=>(.a0 [.b true,e.1,e.2.1],J.set it (.mapIter (some id) since (seen++[e.2.2]) an))))) none
    |_=>none
   |_=>none
  |_=>none
 | .entry x=>match ar x with
  |some (.p (some (it,0)))=>match J.get it with
   |some (.mapIter (some id) since seen g7)=>match J.get id with
    |some (.map es an)=>cond (Nat.beq an g7) (match qO seen with
     |some b=>match pN b es with
      |some e=>some (.val (.a0 [e.1,e.2.1]) J)
      |none=>none
     |none=>none) none
    |_=>none
   |_=>none
  |_=>none
 | .copy _ d x=>match ar d,ar x with
  |some (.al _ _ 0 _ _),some (.R _)=>some (.val ei J)
  |some (.al id off (len+1) _ _),some (.R z)=>match Nat.blt id floor,J.get id with
   |false,some (.cells c)=>match storeCells c off (f_ (len+1) z) with
    |some c=>some (.val ei (J.set id (.cells c)))
    |none=>none
   |_,_=>none
  |some .af,some (.R _)=>some (.val ei J)
  |some (.a_ _ _ []),some (.R _)=>some (.val ei J)
  |_,_=>none
 | .C9 gd x y=>match ar x,ar y with
  |some (.i k a),some (.i l b)=>if k=l then some (.val (.i k (if gd then(if b > a then b else a) else(if b<a then b else a))) J) else none
  |_,_=>none
 |_=>none
abbrev MP:=Nat->(aJ->Option AV)->ae->Option bZ
def a8u(x:aJ)(floor:Nat)(ar:aJ->Option AV)(J:ae):Option bZ:=
  match ar x with|some v=>some (.val v J)|none=>none
def a8v(c:aJ)(a:aJ)(b:aJ)(floor:Nat)(ar:aJ->Option AV)(J:ae):Option bZ:=
  match ar c with
  |some (.b t)=>match ar (cond t a b) with|some v=>some (.val v J)|none=>none
  |_=>none
def a8w(v:AV)(floor:Nat)(ar:aJ->Option AV)(J:ae):Option bZ:=
  some (.val (j2 J.next 0) (J.push (.cells v.cells)))
def a8x(x:aJ)(floor:Nat)(ar:aJ->Option AV)(J:ae):Option bZ:=
  match ar x with|some v=>cond v.val (some (.val (j2 J.next 0) (J.push (.cells v.cells)))) none|none=>none
def a8y(z:List AV)(aC:List (Nat×Nat×aJ))(floor:Nat)(ar:aJ->Option AV)(J:ae):Option bZ:=
  match iy ar (λoff _=>off) aC z with|some c=>some (.val (.R c) J)|none=>none
def a8z(aa:Option Nat)(n:Nat)(z:List AV)(aC:List (Nat×aJ))(floor:Nat)(ar:aJ->Option AV)(J:ae):Option bZ:=
  match iy ar (λi b0=>i*b0) (aC.map λp=>(p.1,shN aa,p.2)) (f_ n z) with
  |some c=>some (.val (.al J.next 0 n aa (some n)) (J.push (.cells c)))
  |none=>none
def a8A(aa:Option Nat)(a:aJ)(floor:Nat)(ar:aJ->Option AV)(J:ae):Option bZ:=
  match ar a with
  |some p=>match rY J aa p with|some v=>some (.val v J)|none=>none
  |none=>none
def a8B(aa:Option Nat)(a:aJ)(x:aJ)(floor:Nat)(ar:aJ->Option AV)(J:ae):Option bZ:=
  match ar a,ar x with
  |some (.p (some (id,off))),some v=>
   if Nat.blt id floor then none else
   if conf aa v then
    match J.get id with
    |some (.cells c)=>match storeCells c off v.cells with
     |some c=>some (.val ei (J.set id (.cells c)))
     |none=>none
    |_=>none
   else none
  |_,_=>none
def a8C(x:aJ)(floor:Nat)(ar:aJ->Option AV)(J:ae):Option bZ:=
  match ar x with
  |some v=>cond (nilOk v) (some (.val v J)) none
  |none=>none
def a8D(op:BinOp)(x:aJ)(y:aJ)(floor:Nat)(ar:aJ->Option AV)(J:ae):Option bZ:=
  match ar x,ar y with
  |some a,some b=>match binop op a b with|some v=>some (.val v J)|none=>none
  |_,_=>none
def a8E(neg:Bool)(x:aJ)(y:aJ)(floor:Nat)(ar:aJ->Option AV)(J:ae):Option bZ:=
  match ar x,ar y with
  |some a,some b=>match binopB a b with|some v=>some (.val (.b (cond neg (!v) v)) J)|none=>none
  |_,_=>none
def a8F(kind:Nat)(neg:Bool)(x:aJ)(y:aJ)(floor:Nat)(ar:aJ->Option AV)(J:ae):Option bZ:=
  match ar x,ar y with
  |some a,some b=>match isNilEq kind a b with|some v=>some (.val (.b (cond neg (!v) v)) J)|none=>none
  |_,_=>none
def a8G(x:aJ)(floor:Nat)(ar:aJ->Option AV)(J:ae):Option bZ:=
  match ar x with|some (.b x)=>some (.val (.b !x) J)|_=>none
def a8H(x:aJ)(floor:Nat)(ar:aJ->Option AV)(J:ae):Option bZ:=
  match ar x with|some (.i k n)=>some (.val (.i k (k.wrap (0-n))) J)|_=>none
def a8I(k:IntKind)(x:aJ)(floor:Nat)(ar:aJ->Option AV)(J:ae):Option bZ:=
  match ar x with|some (.i _ n)=>some (.val (.i k (wrapN k n)) J)|some (.hv _ d j)=>(match k with| .i64=>some (.val (.hv .i64 d j) J)|_=>none)|_=>none
def a8J(t:TypeId)(x:aJ)(floor:Nat)(ar:aJ->Option AV)(J:ae):Option bZ:=
  match ar x with|some v=>some (.val (.it t v) J)|none=>none
def a8K(fn:Fn)(a:List aJ)(c:List aJ)(floor:Nat)(ar:aJ->Option AV)(J:ae):Option bZ:=
  match mapO ar a,mapO ar c with|some a,some c=>some (.val (.f fn a c) J)|_,_=>none
def a8L(floor:Nat)(ar:aJ->Option AV)(J:ae):Option bZ:=
  some (.val (.m (some J.next)) (J.push (.map [] 0)))
def a8M(kF:Option Nat)(x:aJ)(cY:Option aJ)(hi:Option aJ)(gd:Option aJ)(floor:Nat)(ar:aJ->Option AV)(J:ae):Option bZ:=
  match ar x with
  |some x=>match sliceA ar kF x cY hi gd with|some v=>some (.val v J)|none=>none
  |none=>none
def a8N(x:aJ)(cY:Option aJ)(hi:Option aJ)(floor:Nat)(ar:aJ->Option AV)(J:ae):Option bZ:=
  match ar x with
  |some (.s s)=>match bndO ar cY 0,bndO ar hi s.length with
   |some l,some h=>if Nat.ble l h&&Nat.ble h s.length then some (.val (.s ((s.drop l).take (h-l))) J) else none
   |_,_=>none
  |_=>none
def a8O(n:Nat)(aa:Option Nat)(x:aJ)(cY:Option aJ)(hi:Option aJ)(floor:Nat)(ar:aJ->Option AV)(J:ae):Option bZ:=
  match ar x,bndO ar cY 0,bndO ar hi n with
  |some (.p (some (id,off))),some l,some h=>
   if Nat.ble l h&&Nat.ble h n then
    match J.get id with
    |some (.cells c)=>if Nat.ble (off+n*shN aa) c.length then some (.val (.al id (if n=l then off else off+l*shN aa) (h-l) aa (some (n-l))) J) else none
    |_=>none
   else none
  |_,_,_=>none
def a8P(off:Nat)(aa:Option Nat)(x:aJ)(floor:Nat)(ar:aJ->Option AV)(J:ae):Option bZ:=
  match ar x with
  |some x=>match fieldAddrA off aa x with|some v=>some (.val v J)|none=>none
  |none=>none
def a8Q(off:Nat)(aa:Option Nat)(x:aJ)(floor:Nat)(ar:aJ->Option AV)(J:ae):Option bZ:=
  match ar x with
  |some (.R cs)=>match dV aa (cs.drop off) with|some v=>some (.val v J)|none=>none
  |_=>none
def a8R(n:Nat)(aa:Option Nat)(x:aJ)(i:aJ)(floor:Nat)(ar:aJ->Option AV)(J:ae):Option bZ:=
  match ar x,ar i with
  |some x,some j=>match natOf j with
   |some j=>if Nat.blt j n then match fieldAddrA (j*shN aa) aa x with|some v=>some (.val v J)|none=>none else none
   |none=>none
  |_,_=>none
def a8S(kF:Option Nat)(x:aJ)(i:aJ)(floor:Nat)(ar:aJ->Option AV)(J:ae):Option bZ:=
  match ar x,ar i with
  |some x,some j=>match natOf j with
   |some j=>match idxSlA kF x j with|some v=>some (.val v J)|none=>none
   |none=>none
  |_,_=>none
def a8T(x:aJ)(i:aJ)(floor:Nat)(ar:aJ->Option AV)(J:ae):Option bZ:=
  match ar x,ar i with
  |some (.s l),some j=>match natOf j with
   |some j=>match nth l j with|some c=>some (.val (.i .u8 (Int.ofNat c)) J)|none=>none
   |none=>none
  |_,_=>none
def a8U(n:Nat)(aa:Option Nat)(x:aJ)(i:aJ)(floor:Nat)(ar:aJ->Option AV)(J:ae):Option bZ:=
  match ar x,ar i with
  |some (.R cs),some j=>match natOf j with
   |some j=>if Nat.blt j n then match dV aa (cs.drop (j*shN aa)) with|some v=>some (.val v J)|none=>none else none
   |none=>none
  |_,_=>none
def a8V(aa:Nat ⊕ List Nat)(x:aJ)(k:aJ)(z:AV)(two:Bool)(floor:Nat)(ar:aJ->Option AV)(J:ae):Option bZ:=
  match ar x,ar k with
  |some x,some k=>match lookupA J aa x k z two with|some v=>some (.val v J)|none=>none
  |_,_=>none
def a8W(aa:Nat ⊕ List Nat)(x:aJ)(k:aJ)(v:aJ)(floor:Nat)(ar:aJ->Option AV)(J:ae):Option bZ:=
  match ar x,ar k,ar v with
  |some (.m (some id)),some k,some v=>
   if Nat.blt id floor then none else
   match J.get id with
   |some (.map es an)=>match keyEq aa k k with
    |none=>none
    |some _=>match qN aa k v es with
    |some (some es)=>some (.val ei (J.set id (.map es an)))
    |some none=>some (.val ei (J.set id (.map (es++[(k,v,an)]) (an+1))))
    |none=>none
   |_=>none
  |_,_,_=>none
def a8X(x:aJ)(t:TypeId)(z:AV)(two:Bool)(floor:Nat)(ar:aJ->Option AV)(J:ae):Option bZ:=
  match ar x with
  |some x=>match assertA x t z two with|some v=>some (.val v J)|none=>none
  |none=>none
def a8Y(x:aJ)(i:Nat)(floor:Nat)(ar:aJ->Option AV)(J:ae):Option bZ:=
  match ar x with
  |some (.a0 l)=>match nth l i with|some v=>some (.val v J)|none=>none
  |_=>none
def a8Z(c:tp)(args:List aJ)(floor:Nat)(ar:aJ->Option AV)(J:ae):Option bZ:=
  match calleeV ar c,mapO ar args with
  |some ct,some args=>some (.call ct args)
  |_,_=>none
def a9a(c:tp)(args:List aJ)(floor:Nat)(ar:aJ->Option AV)(J:ae):Option bZ:=
  match calleeV ar c,mapO ar args with
  |some ct,some args=>some (.lv ct args)
  |_,_=>none
def a9b(x:aJ)(floor:Nat)(ar:aJ->Option AV)(J:ae):Option bZ:=
  match ar x with|some (.it t v)=>some (.panic (.it t v))|_=>none
def a9c(k:Nat)(x:aJ)(floor:Nat)(ar:aJ->Option AV)(J:ae):Option bZ:=
  match ar x with
  |some x=>match lenA J k x with|some n=>some (.val (.i .i64 (Int.ofNat n)) J)|none=>lenU J k x
  |none=>none
def a9d(n:Nat)(floor:Nat)(ar:aJ->Option AV)(J:ae):Option bZ:=
  some (.val (.i .i64 (Int.ofNat n)) J)
def a9e(x:aJ)(floor:Nat)(ar:aJ->Option AV)(J:ae):Option bZ:=
  match ar x with
  |some x=>match capA x with|some n=>some (.val (.i .i64 (Int.ofNat n)) J)|none=>none
  |none=>none
def a9f(aa:Option Nat)(bytes:Nat)(s:aJ)(x:aJ)(floor:Nat)(ar:aJ->Option AV)(J:ae):Option bZ:=
  match ar s,ar x with
  |some s,some x=>match appendO floor J aa bytes s x with|some (v,J)=>some (.val v J)|none=>none
  |_,_=>none
def a9g(x:aJ)(floor:Nat)(ar:aJ->Option AV)(J:ae):Option bZ:=
  match ar x with
  |some (.s l)=>some (.val (.al J.next 0 l.length none none) (J.push (.cells (l.map λc=>AV.i .u8 (Int.ofNat c)))))
  |_=>none
def a9h(x:aJ)(floor:Nat)(ar:aJ->Option AV)(J:ae):Option bZ:=
  match ar x with
  |some x=>match readList J x with
   |some l=>match mapO byteOf l with
    |some l=>some (.val (.s l) J)
    |none=>none
   |none=>none
  |none=>none
def a9i(aa:Option Nat)(bytes:Nat)(z:List AV)(l:aJ)(c:aJ)(floor:Nat)(ar:aJ->Option AV)(J:ae):Option bZ:=
  match ar l,ar c with
  |some (.i _ (.ofNat n)),some (.i _ (.ofNat m))=>
   cond (Nat.beq z.length (shN aa)&&(Nat.ble n m&&(Nat.ble (bytes*m) 281474976710656&&Nat.ble m 281474976710656)))
    (some (.val (.al J.next 0 n aa (some m)) (J.push (.cells (f_ m z))))) none
  |some .af,some (.i _ (.ofNat m))=>
   cond (Nat.beq z.length (Nat.succ (shN aa))&&(Nat.blt 0 m&&Nat.ble ((3*m+2000)*bytes) 281474976710656))
    (some (.val (.al J.next 0 m aa none) (J.push (.cells (f_ m z.tail))))) none
  |_,_=>none
def a9j(x:aJ)(floor:Nat)(ar:aJ->Option AV)(J:ae):Option bZ:=
  match ar x with
  |some (.m none)=>some (.val (j2 J.next 0) (J.push (.mapIter none 0 [] 0)))
  |some (.m (some id))=>match J.get id with
   |some (.map _ an)=>some (.val (j2 J.next 0) (J.push (.mapIter (some id) an [] an)))
   |_=>none
  |_=>none
def a9k(x:aJ)(floor:Nat)(ar:aJ->Option AV)(J:ae):Option bZ:=
  match ar x with
  |some (.p (some (it,0)))=>if Nat.blt it floor then none else
   match J.get it with
   |some (.mapIter none _ _ _)=>some (.val (.a0 [.b false]) J)
   |some (.mapIter (some id) since seen g7)=>match J.get id with
    |some (.map es an)=>
     cond (Nat.beq an since&&Nat.beq g7 since&&cD (λ(e:AV×AV×Nat)=>Nat.blt e.2.2 since) es)
      (match mS seen es with
       |[]=>some (.val (.a0 [.b false]) J)
       |l=>some (.j1 (l.map λe=>(.a0 [.b true,e.1,e.2.1],J.set it (.mapIter (some id) since (seen++[e.2.2]) an))))) none
    |_=>none
   |_=>none
  |_=>none
def a9l(x:aJ)(floor:Nat)(ar:aJ->Option AV)(J:ae):Option bZ:=
  match ar x with
  |some (.p (some (it,0)))=>match J.get it with
   |some (.mapIter (some id) since seen g7)=>match J.get id with
    |some (.map es an)=>cond (Nat.beq an g7) (match qO seen with
     |some b=>match pN b es with
      |some e=>some (.val (.a0 [e.1,e.2.1]) J)
      |none=>none
     |none=>none) none
    |_=>none
   |_=>none
  |_=>none
def a9m(_sh:Option Nat)(d:aJ)(x:aJ)(floor:Nat)(ar:aJ->Option AV)(J:ae):Option bZ:=
  match ar d,ar x with
  |some (.al _ _ 0 _ _),some (.R _)=>some (.val ei J)
  |some (.al id off (len+1) _ _),some (.R z)=>match Nat.blt id floor,J.get id with
   |false,some (.cells c)=>match storeCells c off (f_ (len+1) z) with
    |some c=>some (.val ei (J.set id (.cells c)))
    |none=>none
   |_,_=>none
  |some .af,some (.R _)=>some (.val ei J)
  |some (.a_ _ _ []),some (.R _)=>some (.val ei J)
  |_,_=>none
def a9n(gd:Bool)(x:aJ)(y:aJ)(floor:Nat)(ar:aJ->Option AV)(J:ae):Option bZ:=
  match ar x,ar y with
  |some (.i k a),some (.i l b)=>if k=l then some (.val (.i k (if gd then(if b > a then b else a) else(if b<a then b else a))) J) else none
  |_,_=>none
def Um:MP:=λ_ _ _=>none
def tt(op:AOp):MP:=
 AOp.rec (motive:=λ_=>MP) a8u a8v a8w a8x a8y a8z a8A a8B a8C a8D a8E a8F a8G a8H a8I a9g a9h a8J a8K a8L a9i a8O a8M a8N a8P a8Q a8R a8S a8T a8U a8V a8W a9j a9k a9l a8X a8Y a8Z a9a a9b a9f a9c a9d a9e a9m a9n Um Um op
def AOp.isRec(op:AOp):Bool:=
 AOp.rec (motive:=λ_=>Bool) (λ_=>false) (λ_ _ _=>false) (λ_=>false) (λ_=>false) (λ_ _=>false) (λ_ _ _ _=>false) (λ_ _=>false) (λ_ _ _=>false) (λ_=>false) (λ_ _ _=>false) (λ_ _ _=>false) (λ_ _ _ _=>false) (λ_=>false) (λ_=>false) (λ_ _=>false) (λ_=>false) (λ_=>false) (λ_ _=>false) (λ_ _ _=>false) false (λ_ _ _ _ _=>false) (λ_ _ _ _ _=>false) (λ_ _ _ _ _=>false) (λ_ _ _=>false) (λ_ _ _=>false) (λ_ _ _=>false) (λ_ _ _ _=>false) (λ_ _ _=>false) (λ_ _=>false) (λ_ _ _ _=>false) (λ_ _ _ _ _=>false) (λ_ _ _ _=>false) (λ_=>false) (λ_=>false) (λ_=>false) (λ_ _ _ _=>false) (λ_ _=>false) (λ_ _=>false) (λ_ _=>false) (λ_=>false) (λ_ _ _ _=>false) (λ_ _=>false) (λ_=>false) (λ_=>false) (λ_ _ _=>false) (λ_ _ _=>false) true false op
def wantedA(g:Option (Nat×Bool))(al:a1 AV):Bool:=
 match g with
 |none=>true
 |some (d,w)=>match al.get d with
  |some (.b x)=>x==w
  |_=>false
def Hm(g:Option (Nat×Bool))(al:a1 AV):Bool:=
 Option.rec (motive:=λ_=>Bool) true (λp=>match a1.Hk (MN p.1) al with
  |some (.b x)=>x==p.2
  |_=>false) g
abbrev ju:=Nat->Option Nat->bF->Fr->ae->Option (List (fZ×Fr×ae))
def resultOf(J:ae)(al:a1 AV)(r:Nat×Option (Option Nat)):Option AV:=
 match al.get r.1,r.2 with
 |some v,none=>some v
 |some (.p (some (id,off))),some aa=>match J.get id with
  |some (.cells c)=>dV aa (c.drop off)
  |_=>none
 |_,_=>none
def resultsOf(J:ae)(al:a1 AV)(rs:List (Nat×Option (Option Nat))):Option AV:=
 match mapO (resultOf J al) rs with
 |some [v]=>some v
 |some bo=>some (.a0 bo)
 |none=>none
def u3(fn:aN)(args:List AV):Fr:=⟨a1.lay args 0 (a1.full fn.ntmps ei fn.ntmps),[],false⟩
def isFn:AV->Bool
 | .f (.func _) _ _=>true
 |_=>false
def rZ(env:Env)(floor:Nat)(call:AV->List AV->ae->Option (en×ae))(rc:Option AV)(dX:Bool)(ops:List a4):Fr->ae->Option (fZ×Fr×ae):=
 List.rec (λad J=>some (.normal,ad,J)) (λo _ aH ad J=>
  cond (wantedA o.guard ad.bj)
   (cond o.op.isRec
    (match rc with
     |some v=>aH (Fr.put ⟨ad.bj,ad.defers,true⟩ o.dst (cond ad.gg .fP v)) J
     |none=>none)
    (match tt o.op floor (evalA env ad.bj) J with
     |some (.val v J)=>aH (ad.put o.dst v) J
     |some (.call ct args)=>match call ct args J with
      |some (.ok v,J)=>aH (ad.put o.dst v) J
      |some (.err v,J)=>some (.panic v,ad,J)
      |none=>none
     |some (.lv ct args)=>cond (dX&&isFn ct) (aH (Fr.put ⟨ad.bj,.inr (ct,args)::ad.defers,ad.gg⟩ o.dst ei) J) none
     |some (.panic v)=>some (.panic v,ad,J)
     |some (.j1 _)=>none
     |none=>none))
   (aH (ad.put o.dst ei) J)) ops
abbrev nu:=List (fZ×Fr×ae)
abbrev mT:=AV->List AV->ae->Option (List (en×ae))
def runOps(env:Env)(floor:Nat)(call:mT)(dX:Bool)(ops:List a4):Fr->ae->Option nu:=
 List.rec (motive:=λ_=>Fr->ae->Option nu) (λad J=>some [(.normal,ad,J)]) (λo _ aH ad J=>
  Bool.rec (motive:=λ_=>Option nu) (aH (ad.oW o.dst ei) J)
   (Option.rec (motive:=λ_=>Option nu) none (λr=>bZ.rec (motive:=λ_=>Option nu)
    (λv J=>aH (ad.oW o.dst v) J)
    (λct args=>hT (call ct args J) (λr=>match r with
     |(.ok v,J)=>aH (ad.oW o.dst v) J
     |(.err v,J)=>some [(.panic v,ad,J)]))
    (λct args=>cond (dX&&isFn ct) (aH (Fr.oW ⟨ad.bj,.inr (ct,args)::ad.defers,ad.gg⟩ o.dst ei) J) none)
    (λv=>some [(.panic v,ad,J)])
    (λl=>oX (λp=>aH (ad.oW o.dst p.1) p.2) l) r)
    (tt o.op floor (AB env ad.bj) J))
   (Hm o.guard ad.bj)) ops
def AOp.gh:AOp->Bool
 | .store _ _ _| .ki _ _ _ _| .call _ _| .append _ _ _ _| .copy _ _ _| .mkSlice _ _ _ _ _| .C8 _| .rangeMap _| .tq _| .lv _ _| .panic _| .recover=>true
 |_=>false
def AOp.lx:AOp->Bool
 | .alloc _| .box _| .buildSlice _ _ _ _| .mkMap=>true
 |_=>false
def AOp.looks:AOp->Bool
 | .load _ _| .lookup _ _ _ _ _| .len _ _| .entry _| .Hg _| .wH _ _ _ _ _=>true
 |_=>false
def qP{α:Type}:Option α->List α
 |none=>[]
 |some x=>[x]
def AOp.opnds:AOp->List aJ
 | .bJ x=>[x]| .pick c a b=>[c,a,b]| .alloc _=>[]| .box x=>[x]| .build _ aC=>aC.map (·.2.2)| .buildSlice _ _ _ aC=>aC.map (·.2)
 | .load _ a=>[a]| .store _ a x=>[a,x]| .nilCheck x=>[x]| .bin _ x y=>[x,y]| .yp _ x y=>[x,y]| .jZ _ _ x y=>[x,y]| .not x=>[x]| .neg x=>[x]| .conv _ x=>[x]
 | .C8 x=>[x]| .Hg x=>[x]| .Hh _ x=>[x]| .fQ _ a c=>a++c| .mkMap=>[]| .mkSlice _ _ _ l c=>[l,c]
 | .wH _ _ x l h=>x::(qP l++qP h)| .nt _ x l h m=>x::(qP l++(qP h++qP m))| .iZ x l h=>x::(qP l++qP h)
 | .fieldAddr _ _ x=>[x]| .field _ _ x=>[x]| .rV _ _ x i=>[x,i]| .bn _ x i=>[x,i]| .lu x i=>[x,i]| .Az _ _ x i=>[x,i]
 | .lookup _ x k _ _=>[x,k]| .ki _ m k v=>[m,k,v]| .rangeMap x=>[x]| .tq x=>[x]| .entry x=>[x]| .Hi x _ _ _=>[x]| .extract x _=>[x]
 | .call c as=>(match c with| .fn _=>[]| .val o=>[o])++as| .lv c as=>(match c with| .fn _=>[]| .val o=>[o])++as
 | .panic x=>[x]| .append _ _ s x=>[s,x]| .len _ x=>[x]| .Hj _=>[]| .cap x=>[x]| .copy _ d s=>[d,s]| .C9 _ x y=>[x,y]| .recover=>[]| .bad=>[]
def aJ.tmp:aJ->Option Nat
 | .t i=>some i
 |_=>none
def a4.reads(o:a4):List Nat:=(match o.guard with|some (d,_)=>[d]|none=>[])++o.op.opnds.filterMap aJ.tmp
abbrev tu:=a4×a1 AV×AV
def jv(env:Env)(floor:Nat)(call:mT)(ops:List a4):Fr->List ae->List tu->ae->Option (Fr×List ae×List tu×ae):=
 List.rec (λad cN ws J=>some (ad,cN,ws,J)) (λo _ aH ad cN ws J=>
  cond (Hm o.guard ad.bj)
   (match tt o.op floor (AB env ad.bj) J with
    |some (.val v ai)=>aH (ad.oW o.dst v) (J::cN) (match o.kj with|[]=>ws|_::_=>(o,ad.bj,v)::ws) ai
    |some (.call ct args)=>match call ct args J with
     |some [(.ok v,ai)]=>aH (ad.oW o.dst v) (J::cN) ws ai
     |_=>none
    |_=>none)
   (aH (ad.oW o.dst ei) (J::cN) ws J)) ops
def steady(env:Env)(floor:Nat)(cN:List ae)(w:tu):Bool:=
 cD (λq=>match nth cN q with
  |some J=>match tt w.1.op floor (evalA env w.2.1) J with
   |some (.val v _)=>AV.eqb env.bp v w.2.2
   |_=>false
  |none=>false) w.1.kj
def swapOk(env:Env)(al:a1 AV)(ops:List a4):Bool:=
 match ops.reverse with
 |y::x::_=>match y.kj with
  |[]=>true
  |_::_=>match y.op with
   | .store _ b _=>match x.op with
    | .store _ a _=>match evalA env al a,evalA env al b with
     |some (.p (some (i,_))),some (.p (some (j,_)))=>!Nat.beq i j
     |_,_=>false
    |_=>false
   |_=>true
 |_=>true
def leave(floor:Nat)(call:AV->List AV->AV->ae->Option (Bool×ae))(ds:List (Nat ⊕ (AV×List AV))):Option AV->ae->Option (Option AV×ae):=
 List.rec (λp J=>some (p,J)) (λd _ aH p J=>
  match d with
  | .inl b=>if Nat.blt b floor then none else match J.get b with
   |some .eE=>aH p (J.set b .dead)
   |_=>none
  | .inr (ct,args)=>match call ct args (p.getD .fP) J with
   |some (r,J)=>aH (cond r none p) J
   |none=>none) ds
def wI(env:Env)(floor:Nat)(rc:AV)(c:bF):Fr->ae->Option (fZ×Fr×ae):=
 bF.rec (motive:=λ_=>Fr->ae->Option (fZ×Fr×ae))
  (λad J=>some (.normal,ad,J))
  (λops ad J=>rZ env floor (λ_ _ _=>none) (some rc) false ops ad J)
  (λ_ _ _=>none)
  (λ_ _ MQ MR ad J=>match MQ ad J with
   |some (.normal,ad,J)=>MR ad J
   |r=>r)
  (λc _ _ MQ MR ad J=>match evalA env ad.bj c with
   |some (.b t)=>cond t (MQ ad J) (MR ad J)
   |_=>none)
  (λ_ _ _ _ _=>none) (λ_ _ _ _=>none) (λ_ _ _ _=>none) (λ_ _ _ _ _ _ _ _=>none) (λ_ _ _=>none)
  (λad J=>some (.ret,ad,J)) (λ_ _=>none) c
def callD(env:Env)(floor:Nat)(ct:AV)(args:List AV)(p:AV)(J:ae):Option (Bool×ae):=
 match ct with
 | .f (.func g) first cap=>match env.funcs g with
  |some fn=>match fn.body with
   |some body=>cond (Nat.beq (first++args++cap).length fn.j0&&Nat.ble (first++args++cap).length fn.ntmps)
    (match wI env floor p body (u3 fn (first++args++cap)) J with
     |some (.normal,ad,J)=>(match ad.defers,resultsOf J ad.bj fn.results with|[],some _=>some (ad.gg,J)|_,_=>none)
     |some (.ret,ad,J)=>(match ad.defers,resultsOf J ad.bj fn.results with|[],some _=>some (ad.gg,J)|_,_=>none)
     |_=>none) none
   |none=>none
  |none=>none
 |_=>none
def Hn(e:fZ):Option AV:=match e with| .panic v=>some v|_=>none
def endF(env:Env)(floor:Nat)(fn:aN)(r:fZ×Fr×ae):Option (List (en×ae)):=
 match r with
 |(.exit _,_,_)=>none
 |(e,ad,J)=>
  match leave floor (callD env floor) ad.defers (Hn e) J with
  |none=>none
  |some (some v,J)=>some [(.err v,J)]
  |some (none,J)=>match resultsOf J ad.bj fn.results with
   |some v=>some [(.ok v,J)]
   |none=>none
def runF(env:Env)(aH:ju)(floor g:Nat)(args:List AV)(J:ae):Option (List (en×ae)):=
 match env.funcs g with
 |none=>none
 |some fn=>match fn.body with
  |none=>none
  |some body=>
   cond (Nat.beq args.length fn.j0&&Nat.ble args.length fn.ntmps)
    (hT (aH floor none body (u3 fn args) J) (endF env floor fn))
    none
def AD(c:Nat)(l:List Nat):Nat->Int:=List.rec (motive:=λ_=>Nat->Int) (λ_=>-1) (λx _ aH k=>cond (Nat.beq x c) (Int.ofNat k) (aH (k+1))) l
def a9o(c:Nat)(l:List Nat):Nat:=List.rec 0 (λx _ aH=>cond (Nat.beq x c) (Nat.succ aH) aH) l
def extRow(n:Nat)(args:List AV):Option AV:=
 match n,args with
 |1,[.s l,.i .u8 (.ofNat c)]=>cond (Nat.blt c 256) (some (.i .i64 (AD c l 0))) none
 |2,[.s a,.s b]=>some (.i .i64 (cond (ix a b) (-1) (cond (eqL a b) 0 1)))
 |3,[.s l,.i .u8 (.ofNat c)]=>cond (Nat.blt c 256) (some (.i .i64 (Int.ofNat (a9o c l)))) none
 |_,_=>none
def ys(n base:Nat)(v1:AV)(y:en×ae):Bool:=
 match y with
 |(.ok w,J)=>(match freeze J base n w with|some bW=>AV.eqb n bW v1|none=>false)
 |(.err _,_)=>false
def joinF(n base:Nat)(l:List (en×ae)):Option AV:=
 match l with
 |[]=>none
 |x::t=>match x with
  |(.err _,_)=>none
  |(.ok v,J)=>match freeze J base n v with
   |none=>none
   |some v1=>cond (cD (ys n base v1) t) (some v1) none
def callF(env:Env)(aH:ju)(floor g:Nat)(args:List AV)(J:ae):Option (List (en×ae)):=
 match env.ext g with
 |0=>
  cond (env.pure g)
   (match(match mapO (bM J env.bp) args with|some aQ=>env.spec g aQ|none=>none) with
    |some r=>some [(.ok r,J)]
    |none=>match runF env aH J.next g args J with
     |some l=>match joinF env.bp J.next l with
      |some v=>some [(.ok v,J)]
      |none=>none
     |none=>none)
   (runF env aH floor g args J)
 |k=>match extRow k args with
  |some v=>some [(.ok v,J)]
  |none=>none
def layAll(aC:List Nat):List AV->a1 AV->a1 AV:=
 List.rec (λ_ al=>al) (λp _ aH args al=>match args with|[]=>al|a::args=>aH args (al.set p a)) aC
def endRound(J:ae)(l:Nat)(a9p:Option bF):Option (en×ae):=
 match J.get l with
 |some (.loop _ _ al aC as b d)=>match a9p with
  |none=>some (.ok (.b true),J.set l (.loop .ready none al aC as b d))
  |some c=>some (.ok (.b false),J.set l (.loop .done (some c) al aC as b d))
 |_=>none
def roundEnd(l:Nat)(r:fZ×Fr×ae):Option (List (en×ae)):=
 match r with
 |(.normal,_,J)=>(endRound J l none).map λx=>[x]
 |(.ret,_,J)=>(endRound J l (some .ret)).map λx=>[x]
 |(.exit id,_,J)=>(endRound J l (some (.exit id))).map λx=>[x]
 |_=>none
def roundMid(aH:ju)(floor l:Nat)(b:bF)(r:fZ×Fr×ae):Option (List (en×ae)):=
 match r with
 |(.normal,ad,J)=>match J.get l with
  |some (.loop .ready mn u4 nv iz fR jt)=>hT (aH floor (some l) b ad (J.set l (.loop .busy mn u4 nv iz fR jt))) (roundEnd l)
  |_=>none
 |_=>none
def MS(aH:ju)(floor l:Nat)(args:List AV)(J:ae):Option (List (en×ae)):=
 if Nat.blt l floor then none else
 match J.get l with
 |some (.loop .ready _ al aC as b _)=>
  cond (Nat.beq aC.length args.length)
   (hT (aH floor (some l) as ⟨layAll aC args al,[],false⟩ J) (roundMid aH floor l b)) none
 |_=>none
def callV(env:Env)(aH:ju)(floor:Nat)(ct:AV)(args:List AV)(J:ae):Option (List (en×ae)):=
 match ct with
 | .f (.func g) first cap=>callF env aH floor g (first++args++cap) J
 | .f (.yield l) _ _=>MS aH floor l args J
 |_=>none
def Db(aR:Option Nat)(ad:Fr)(J:ae):Option (Nat×ae×List (Nat ⊕ (AV×List AV))):=
 match aR with
 |some l=>match J.get l with
  |some (.loop _ _ _ _ _ _ d)=>some (d,J,ad.defers)
  |_=>none
 |none=>some (J.next,J.push .eE,.inl J.next::ad.defers)
def AE(aH:ju)(floor:Nat)(aR:Option Nat)(b:bF)(r:fZ×Fr×ae):Option nu:=
 match r with
 |(.normal,ad,J)=>aH floor aR b ad J
 |r=>some [r]
def MT(id:Nat)(r:fZ×Fr×ae):Option nu:=
 match r with
 |(.exit j,ad,J)=>cond (Nat.beq j id) (some [(.normal,ad,J)]) (some [(.exit j,ad,J)])
 |r=>some [r]
def rangeK(aH:ju)(floor:Nat)(aR:Option Nat)(ad:Fr)(ds:List (Nat ⊕ (AV×List AV)))(l:Nat)(r:en×ae):Option nu:=
 match r with
 |(.ok _,hX)=>match hX.get l with
  |some (.loop st mn u4 nv iz fR jt)=>
   match st with
   | .busy=>none
   |_=>match mn with
    |none=>some [(.normal,⟨ad.bj,ds,ad.gg⟩,hX.set l (.loop .exhausted mn u4 nv iz fR jt))]
    |some c=>aH floor aR c ⟨ad.bj,ds,ad.gg⟩ (hX.set l (.loop .exhausted mn u4 nv iz fR jt))
  |_=>none
 |_=>none
def step(env:Env)(aH:ju):ju:=λfloor aR c ad J=>
 match c with
 | .skip=>some [(.normal,ad,J)]
 | .region ops=>runOps env floor (callV env aH floor) aR.isNone ops ad J
 | .draw ops=>match jv env floor (callV env aH floor) ops ad [] [] J with
  |some (bd,cN,ws,ai)=>
   cond (ws.all (steady env floor (ai::cN).reverse)&&swapOk env bd.bj ops) (some [(.normal,bd,ai)]) none
  |none=>none
 | .seq a b=>hT (aH floor aR a ad J) (AE aH floor aR b)
 | .cond c a b=>match evalA env ad.bj c with
  |some (.b t)=>aH floor aR (cond t a b) ad J
  |_=>none
 | .block id a=>hT (aH floor aR a ad J) (MT id)
 | .scope a=>aH floor aR a ad J
 | .loop a=>hT (aH floor aR a ad J) (AE aH floor aR (.loop a))
 | .exit id=>some [(.exit id,ad,J)]
 | .ret=>some [(.ret,ad,J)]
 | .rangeFunc f aC as b=>
  if Nat.blt J.next floor then none else
  match evalA env ad.bj f with
  |some (.f (.func g) first cap)=>
   match Db aR ad J with
   |none=>none
   |some (d,b8,ds)=>
    match env.ext g with
    |0=>hT (callF env aH floor g (first++AV.f (.yield b8.next) [] []::cap) (b8.push (.loop .ready none ad.bj aC as b d))) (rangeK aH floor aR ad ds b8.next)
    |_=>none
  |_=>none
 | .bad=>none
abbrev oZ:=Env->ju->Nat->Option Nat->Fr->ae->Option (List (fZ×Fr×ae))
def a9q:oZ:=λ_ _ _ _ ad J=>some [(.normal,ad,J)]
def a9r(ops:List a4):oZ:=λenv aH floor aR ad J=>runOps env floor (callV env aH floor) aR.isNone ops ad J
def a9s(ops:List a4):oZ:=λenv aH floor _ ad J=>match jv env floor (callV env aH floor) ops ad [] [] J with
  |some (bd,cN,ws,ai)=>
   cond (ws.all (steady env floor (ai::cN).reverse)&&swapOk env bd.bj ops) (some [(.normal,bd,ai)]) none
  |none=>none
def a9t(a b:bF):oZ:=λ_ aH floor aR ad J=>hT (aH floor aR a ad J) (AE aH floor aR b)
def a9u(c:aJ)(a b:bF):oZ:=λenv aH floor aR ad J=>match AB env ad.bj c with
  |some (.b t)=>aH floor aR (cond t a b) ad J
  |_=>none
def a9v(id:Nat)(a:bF):oZ:=λ_ aH floor aR ad J=>hT (aH floor aR a ad J) (MT id)
def a9w(a:bF):oZ:=λ_ aH floor aR ad J=>hT (aH floor aR a ad J) (AE aH floor aR (.loop a))
def a9x(a:bF):oZ:=λ_ aH floor aR ad J=>aH floor aR a ad J
def a9y(id:Nat):oZ:=λ_ _ _ _ ad J=>some [(.exit id,ad,J)]
def a9z:oZ:=λ_ _ _ _ ad J=>some [(.ret,ad,J)]
def a9A(f:aJ)(aC:List Nat)(as b:bF):oZ:=λenv aH floor aR ad J=>step env aH floor aR (.rangeFunc f aC as b) ad J
def a9B:oZ:=λ_ _ _ _ _ _=>none
def a9C(c:bF):oZ:=
 bF.rec (motive:=λ_=>oZ) a9q a9r a9s (λa b _ _=>a9t a b) (λc a b _ _=>a9u c a b) (λid a _=>a9v id a) (λa _=>a9w a) (λa _=>a9x a) (λf aC a b _ _=>a9A f aC a b) a9y a9z a9B c
def Un(env:Env)(aH:ju):ju:=λfloor aR c ad J=>a9C c env aH floor aR ad J
def exec(env:Env)(n:Nat):ju:=Nat.rec (motive:=λ_=>ju) (λ_ _ _ _ _=>none) (λ_ aH=>Un env aH) n
def Uo(env:Env)(n g:Nat)(args:List AV):Option AV:=
 match runF env (exec env n) 0 g args ⟨.nil,0⟩ with
 |some l=>joinF env.bp 0 l
 |none=>none
def yt(s:ByteArray):List Nat:=s.data.toList.map (·.toNat)
def ofLeaf:Value->Option AV
 | .bool b=>some (.b b)
 | .int k n=>some (.i k n)
 | .string s=>some (.s (yt s))
 | .pointer none=>some (.p none)
 | .slice none 0 0=>some .af
 | .map none=>some (.m none)
 | .nilFunc=>some .eh
 | .nilIface=>some .fP
 |_=>none
def mapOL{α β:Type}(f:α->Option β):List α->Option (List β)
 |[]=>some []
 |x::xs=>match f x,mapOL f xs with
  |some y,some bf=>some (y::bf)
  |_,_=>none
def ofValue:Value->Option AV
 | .agg l=>match mapOL ofLeaf l.toList with|some l=>some (.R l)|none=>none
 | .iface t v=>match ofLeaf v with|some v=>some (.it t v)|none=>none
 |v=>ofLeaf v
section
variable (P:Program)
def shapeOf(t:TypeId):Option (Option Nat):=
 match P.underlying t,P.info? t with
 |some (.struct _),some i=>some (some i.size)
 |some (.array _ _),some i=>some (some i.size)
 |some (.struct _),none=>none
 |some (.array _ _),none=>none
 |some _,some i=>if i.size=1 then some none else none
 |_,_=>none
def zeroOf(t:TypeId):Option AV:=
 match P.info? t with
 |some i=>match i.zero with
  |some v=>ofValue v
  |none=>none
 |none=>none
def opdOf:Operand->Option aJ
 | .tmp t=>some (.t t)
 | .const v=>match ofValue v with|some v=>some (.c v)|none=>none
 | .global g=>some (.g g)
 | .func f=>some (.c (.f (.func f) [] []))
def yu(l:List Operand):Option (List aJ):=mapOL opdOf l
def opdO:Option Operand->Option (Option aJ)
 |none=>some none
 |some x=>match opdOf x with|some x=>some (some x)|none=>none
def fieldOf(t:TypeId)(i:Nat):Option (Nat×Option Nat):=
 match P.underlying t with
 |some (.struct a8)=>match a8[i]? with
  |some f=>match shapeOf P f.type with
   |some aa=>if shN aa=0 then none else some (f.offset,aa)
   |none=>none
  |none=>none
 |_=>none
def elemOf'(t:TypeId):Option (TypeId×Option Nat):=
 match P.underlying t with
 |some (.slice e)=>match shapeOf P e with|some aa=>some (e,aa)|none=>none
 |_=>none
def calleeOf:Callee->Option tp
 | .value (.func f)=>some (.fn f)
 | .value x=>match opdOf x with|some x=>some (.val x)|none=>none
 |_=>none
def isU8(t:TypeId):Bool:=match P.underlying t with|some (.int .u8)=>true|_=>false
def leafKind(t:TypeId):Option Nat:=
 match P.underlying t with
 |some (.int _)=>some 0
 |some .string=>some 1
 |some .bool=>some 2
 |_=>none
def keyOk(t:TypeId):Option (Nat ⊕ List Nat):=
 match leafKind P t with
 |some k=>some (.inl k)
 |none=>
  match P.underlying t with
  |some (.struct a8)=>if !P.stoodInHeld t&&a8.toList.zipIdx.all (λ(f,i)=>decide (f.name≠ "_")&&decide (f.offset=i)&&decide (shapeOf P f.type=some none)) then
    (mapOL (λf=>leafKind P f.type) a8.toList).map .inr else none
  |_=>none
def isInt(t:TypeId):Bool:=match P.underlying t with|some (.int _)=>true|_=>false
def isText(t:TypeId):Bool:=match P.underlying t with|some (.slice _)=>true|some .string=>true|_=>false
def flatS:Nat->List Field->Option (List Nat)
 |_,[]=>some []
 |i,f::a8=>
  if f.name≠ "_" ∧f.offset=i then
   match leafKind P f.type with
   |some k=>if shapeOf P f.type=some none then(flatS (i+1) a8).map λl=>k::l else none
   |none=>match keyOk P f.type with
    |some (.inr bC)=>if shapeOf P f.type=some (some bC.length) then(flatS (i+bC.length) a8).map λl=>bC++l else none
    |_=>none
  else none
def stK(t:TypeId):Option Nat:=
 match P.underlying t with
 |some (.struct a8)=>if P.stoodInHeld t=true then none else match flatS P 0 a8.toList with
  |some bC=>if Ul 40 (Hl bC)=bC/\P.eqGuardType P.depth t=false then some (10+Hl bC) else none
  |none=>none
 |_=>none
def cop(o:Oper):Option AOp:=
 match o.op with
 | .move x=>(opdOf x).map .bJ
 | .assign x=>(opdOf x).map .bJ
 | .pick c a b=>do return .pick (←opdOf c) (←opdOf a) (←opdOf b)
 | .alloc e=>(zeroOf P e).map .alloc
 | .box _ x=>(opdOf x).map .box
 | .build t aC=>do
  let .R z <-zeroOf P t|none
  match P.underlying t with
  |some (.struct a8)=>
   if a8.any (λf=>(P.info? f.type).isNone) then none else
   let l <-mapOL (λ(p:Nat×Operand)=>match fieldOf P t p.1,opdOf p.2 with|some (off,aa),some x=>some (off,shN aa,x)|_,_=>none) aC.toList
   return .build z l
  |some (.array _ e)=>do
   let aa <-shapeOf P e
   let l <-mapOL (λ(p:Nat×Operand)=>match opdOf p.2 with|some x=>some (p.1*shN aa,shN aa,x)|none=>none) aC.toList
   return .build z l
  |_=>none
 | .buildSlice t n aC=>do
  let(e,aa) <-elemOf' P t
  let z <-zeroOf P e
  let l <-mapOL (λ(p:Nat×Operand)=>match opdOf p.2 with|some x=>some (p.1,x)|none=>none) aC.toList
  if n*shN aa<=16777216/\z.cells.length=shN aa then return .buildSlice aa n z.cells l else none
 | .insert t m k v| .mapUpdate t m k v=>
  match P.underlying t with
  |some (.map i_ _)=>do return .ki (←keyOk P i_) (←opdOf m) (←opdOf k) (←opdOf v)
  |_=>none
 | .load t a=>do return .load (←shapeOf P t) (←opdOf a)
 | .store t a v=>do return .store (←shapeOf P t) (←opdOf a) (←opdOf v)
 | .nilCheck x=>(opdOf x).map .nilCheck
 | .binOp op t x y _=>do
  let x <-opdOf x;let y <-opdOf y
  match P.underlying t,op with
  |some (.int _),_=>return .bin op x y
  |some .string,_=>return .bin op x y
  |some .bool,.eql=>return .yp false x y
  |some .bool,.neq=>return .yp true x y
  |some (.interface _),.eql=>return .jZ 0 false x y
  |some (.interface _),.neq=>return .jZ 0 true x y
  |some (.pointer _),.eql=>return .jZ 1 false x y
  |some (.pointer _),.neq=>return .jZ 1 true x y
  |some (.func _ _ _),.eql=>return .jZ 2 false x y
  |some (.func _ _ _),.neq=>return .jZ 2 true x y
  |some (.slice _),.eql=>return .jZ 3 false x y
  |some (.slice _),.neq=>return .jZ 3 true x y
  |some (.map _ _),.eql=>return .jZ 4 false x y
  |some (.map _ _),.neq=>return .jZ 4 true x y
  |some (.struct _),.eql=>(stK P t).map λk=>.jZ k false x y
  |some (.struct _),.neq=>(stK P t).map λk=>.jZ k true x y
  |_,_=>none
 | .unOp .not _ x=>(opdOf x).map .not
 | .unOp .neg _ x=>(opdOf x).map .neg
 | .unOp _ _ _=>none
 | .convert s d x=>
  match P.underlying s,P.underlying d with
  |some (.int _),some (.int k)=>(opdOf x).map (.conv k)
  |some .string,some (.slice e)=>if isU8 P e then(opdOf x).map .C8 else none
  |some (.slice e),some .string=>if isU8 P e then(opdOf x).map .Hg else none
  |_,_=>none
 | .makeInterface t x=>match P.underlying t with
  |some (.interface _)=>none
  |some _=>(opdOf x).map (.Hh t)
  |none=>none
 | .makeFunc fn a c=>match fn with
  | .func f=>do return .fQ (.func f) (←yu a.toList) (←yu c.toList)
  |_=>none
 | .makeMap t r=>match P.underlying t,r with
  |some (.map _ _),none=>some .mkMap
  |some (.map _ _),some (.const (.int _ _))=>some .mkMap
  |_,_=>none
 | .makeSlice t l c=>do
  let(e,aa) <-elemOf' P t
  let z <-zeroOf P e
  let i <-P.info? e
  if z.cells.length=shN aa then return .mkSlice aa i.bytes z.cells (←opdOf l) (←opdOf c) else none
 | .slice t x l h m=>do
  let l <-opdO l;let h <-opdO h;let m <-opdO m
  match P.underlying t with
  |some (.array n e)=>match m with
   |none=>return .wH n (←shapeOf P e) (←opdOf x) l h
   |some _=>none
  |some (.slice e)=>match shapeOf P e with
   |some aa=>if m.isSome/\h.isNone then none else return .nt aa (←opdOf x) l h m
   |none=>none
  |some .string=>match m with
   |none=>return .iZ (←opdOf x) l h
   |some _=>none
  |_=>none
 | .fieldAddr t x i=>do
  let(off,aa) <-fieldOf P t i
  return .fieldAddr off aa (←opdOf x)
 | .field t x i=>do
  let(off,aa) <-fieldOf P t i
  return .field off aa (←opdOf x)
 | .indexAddr t x i=>
  match P.underlying t with
  |some (.array n e)=>do return .rV n (←shapeOf P e) (←opdOf x) (←opdOf i)
  |some (.slice e)=>do return .bn (←shapeOf P e) (←opdOf x) (←opdOf i)
  |_=>none
 | .index t x i=>
  match P.underlying t with
  |some (.array n e)=>do return .Az n (←shapeOf P e) (←opdOf x) (←opdOf i)
  |some .string=>do return .lu (←opdOf x) (←opdOf i)
  |_=>none
 | .lookup t x k ok=>
  match P.underlying t with
  |some (.map i_ e)=>do return .lookup (←keyOk P i_) (←opdOf x) (←opdOf k) (←zeroOf P e) ok
  |_=>none
 | .range t x=>match P.underlying t with
  |some (.map _ _)=>(opdOf x).map .rangeMap
  |_=>none
 | .next x false=>(opdOf x).map .tq
 | .entry x=>(opdOf x).map .entry
 | .typeAssert x _ t ok=>
  match P.underlying t with
  |some (.interface _)=>none
  |some _=>do return .Hi (←opdOf x) t (←zeroOf P t) ok
  |none=>none
 | .extract x i=>do return .extract (←opdOf x) i
 | .call {callee:=.builtin b,args,argTypes}=>
  match b,args.toList,argTypes.toList with
  | .append,[s,x],[t,u]=>do
   let(e,aa) <-elemOf' P t
   let i <-P.info? e
   let z <-zeroOf P e
   if isText P u/\i.bytes≠0/\z.cells.length=shN aa then return .append aa i.bytes (←opdOf s) (←opdOf x)
   else if isInt P u/\i.bytes≠0/\z.cells.length=shN aa/\0<shN aa then return .mkSlice aa i.bytes (.fP::z.cells) (←opdOf s) (←opdOf x) else none
  | .len,[x],[t]=>match P.underlying t with
   |some (.array n _)=>some (.Hj n)
   |some .string=>(opdOf x).map (.len 0)
   |some (.slice _)=>(opdOf x).map (.len 1)
   |some (.map _ _)=>(opdOf x).map (.len 2)
   |_=>none
  | .cap,[x],[t]=>match P.underlying t with
   |some (.slice _)=>(opdOf x).map .cap
   |_=>none
  | .clear,[x],[t]=>match elemOf' P t with
   |some (e,aa)=>do
    let z <-zeroOf P e
    if z.cells.length=shN aa then return .copy aa (←opdOf x) (.c (.R z.cells)) else none
   |none=>none
  | .min,[x,y],_=>do return .C9 false (←opdOf x) (←opdOf y)
  | .max,[x,y],_=>do return .C9 true (←opdOf x) (←opdOf y)
  | .recover,[],_=>some .recover
  | .panic,[x],_=>(opdOf x).map .panic
  |_,_,_=>none
 | .call c=>do return .call (←calleeOf c.callee) (←yu c.args.toList)
 | .defer {callee:=.builtin _,..}=>none
 | .defer c=>do return .lv (←calleeOf c.callee) (←yu c.args.toList)
 | .panic x=>(opdOf x).map .panic
 |_=>none
def copB(o:Oper):AOp:=match cop P o with|some x=>x|none=>.bad
def guardOf(ops:Array Oper)(o:Oper):Option (Option (Nat×Bool)):=
 match o.guard with
 |none=>some none
 |some (j,w)=>match(ops[j]?).bind (·.dst) with
  |some d=>some (some (d,w))
  |none=>none
def coper(ops:Array Oper)(o:Oper):Option a4:=
 match guardOf ops o with
 |some g=>some {dst:=o.dst,op:=copB P o,guard:=g,kj:=[]}
 |none=>none
def r0(o:Oper):List Nat:=(o.after.toList.filter (Region.binds .any)).map (·.on)
def Dc:Nat->List (Nat×Bool×List Nat)->Nat->List Nat
 |0,_,_=>[]
 |fuel+1,rem,mask=>
  match(match rem.find? (λx=>!x.2.1&&x.2.2.all (λd=>mask.testBit d)) with|some x=>some x|none=>rem.find? (λx=>x.2.2.all (λd=>mask.testBit d))) with
  |some x=>x.1::Dc fuel (rem.filter λy=>!Nat.beq y.1 x.1) (mask ||| 1 <<< x.1)
  |none=>[]
def AF(A:List Nat)(es:List Nat):Nat:=es.foldr (λd acc=>(1 <<< d ||| A.getD d 0) ||| acc) 0
def Ho{α:Type}(f:α->α->Bool):List α->Bool
 |[]=>true
 |x::xs=>xs.all (f x)&&Ho f xs
def indep(x y:a4):Bool:=(match x.dst with|some d=>!y.reads.contains d|none=>true)&&(match y.dst with|some d=>!x.reads.contains d|none=>true)
def MU:AOp->Bool
 | .store _ _ _=>true
 |_=>false
def Up(x:a4):Bool:=!x.op.gh&&(!x.op.lx&& !x.op.looks)
def Uq(A:List Nat)(pl:List a4)(x y:a4×Nat):Bool:=
 Nat.beq (x.2+1) y.2&&(Nat.beq (y.2+1) pl.length&&(MU x.1.op&&(MU y.1.op&&(x.1.dst.isNone&&(y.1.dst.isNone&&(x.1.guard.isNone&&(y.1.guard.isNone&&(!y.1.kj.isEmpty&&
  pl.zipIdx.all λr=>!Nat.blt r.2 x.2||((A.getD y.2 0).testBit r.2||Up r.1)))))))))
def pairOk(A:List Nat)(pl:List a4)(x y:a4×Nat):Bool:=
 let C6:=(A.getD y.2 0).testBit x.2
 (match x.1.dst,y.1.dst with|some d,some e=>!Nat.beq d e|_,_=>true)&&(C6||(indep x.1 y.1&&(!x.1.op.gh||Uq A pl x y)))
def Hp(x:a4):Bool:=x.op.gh||x.op.lx
def Ur(A:List Nat)(es:List Nat)(cs:List Nat)(n:Nat)(x:a4×Nat):Bool:=
 !x.1.op.looks||(n::es).all λq=>!Nat.blt x.2 q||(x.1.kj.contains q||(es.any (λe=>Nat.blt x.2 e&&(Nat.blt e q&&(A.getD e 0).testBit x.2))||cs.all λc=>!(Nat.blt x.2 c&&Nat.blt c q)))
def a9D(A:List Nat)(es:List Nat)(cs:List Nat)(n:Nat)(x:a4×Nat):List Nat:=
 if MU x.1.op&&(Nat.beq (x.2+1) n&&(Nat.blt 0 x.2&&(es.contains (x.2-1)&& !(A.getD x.2 0).testBit (x.2-1)))) then[x.2-1]
 else if x.1.op.looks then(es++[n]).filter λq=>Nat.blt x.2 q&&(!es.any (λe=>Nat.blt x.2 e&&(Nat.blt e q&&(A.getD e 0).testBit x.2))&& !cs.all λc=>!(Nat.blt x.2 c&&Nat.blt c q)) else[]
def posOf(p:a4->Bool)(pl:List a4):List Nat:=(pl.zipIdx.filter λx=>p x.1).map (·.2)
def Us(n:Nat)(bl c_:List Nat):Bool:=
 Nat.beq bl.length n&&(Nat.beq c_.length n&&(bl.zipIdx.all (λx=>Nat.blt x.1 n&&Nat.beq (c_.getD x.1 0) x.2)&&c_.zipIdx.all (λx=>Nat.blt x.1 n&&Nat.beq (bl.getD x.1 0) x.2)))
def AG(ds:List (List Nat))(c_:List Nat)(i:Nat):List Nat:=(ds.getD i []).map λj=>c_.getD j 0
def Ut(ds:List (List Nat))(bl c_ A:List Nat):Bool:=
 bl.zipIdx.all λx=>(AG ds c_ x.1).all (λd=>Nat.blt d x.2)&&Nat.beq (A.getD x.2 0) (AF A (AG ds c_ x.1))
def Uu(n:Nat)(ds:List (List Nat))(pl:List a4)(bl c_ A:List Nat):Bool:=
 Us n bl c_&&(ds.all (λl=>l.all λd=>Nat.blt d n)&&(Ut ds bl c_ A&&(Ho (pairOk A pl) pl.zipIdx&&pl.zipIdx.all (Ur A (posOf (·.op.gh) pl) (posOf Hp pl) n))))
def Uv(l:List a4)(bl:List Nat):Option (List a4):=mapOL (λi=>l[i]?) bl
def Dd(A:List Nat)(n:Nat)(pl:List a4):List a4:=
 let es:=posOf (·.op.gh) pl
 let cs:=posOf Hp pl
 pl.zipIdx.map λx=>{x.1 with kj:=a9D A es cs n x}
def cdraw(ops:Array Oper):Option (List a4):=
 match mapOL (coper P ops) ops.toList with
 |none=>none
 |some l=>
  let n:=ops.size
  let ds:=ops.toList.map r0
  let bl:=Dc n ((l.zip ds).zipIdx.map λx=>(x.2,x.1.1.op.gh,x.1.2)) 0
  let c_:=(List.range n).map λi=>bl.findIdx (Nat.beq i)
  let A:=bl.foldl (λacc i=>acc++[AF acc (AG ds c_ i)]) []
  match Uv l bl with
  |none=>none
  |some pl=>if Uu n ds (Dd A n pl) bl c_ A then some (Dd A n pl) else none
def ccode:Code->Option bF
 | .skip=>some .skip
 | .region _ ops true=>match cdraw P ops with|some l=>some (.draw l)|none=>some .bad
 | .region _ ops false=>match mapOL (coper P ops) ops.toList with|some l=>some (.region l)|none=>some .bad
 | .seq a b=>match ccode a,ccode b with|some a,some b=>some (.seq a b)|_,_=>none
 | .cond c a b=>match opdOf c,ccode a,ccode b with|some c,some a,some b=>some (.cond c a b)|_,_,_=>none
 | .block id a=>match ccode a with|some a=>some (.block id a)|none=>none
 | .loop a=>match ccode a with|some a=>some (.loop a)|none=>none
 | .scope a=>match ccode a with|some a=>some (.scope a)|none=>none
 | .rangeFunc f aC a b=>match opdOf f,ccode a,ccode b with|some f,some a,some b=>some (.rangeFunc f aC.toList a b)|_,_,_=>none
 | .exit id=>some (.exit id)
 | .ret=>some .ret
 | .label _=>some .skip
 | .goto _=>some .bad
 | .refuse _=>some .bad
def resOf:ResultVar->Option (Nat×Option (Option Nat))
 | .tmp t=>some (t,none)
 | .cell a t=>match shapeOf P t with|some aa=>some (a,some aa)|none=>none
def cfunc(f:Func):Option aN:=
 match mapOL (resOf P) f.results.toList with
 |some rs=>match f.body with
  |none=>none
  |some c=>match ccode P c with
   |some c=>some {j0:=f.params.size+f.nfree,ntmps:=f.ntmps,results:=rs,body:=some c}
   |none=>none
 |none=>none
end
section
def strOf(l:List Nat):ByteArray:=⟨(l.map Nat.toUInt8).toArray⟩
def eK(w:World)(b:Nat):Option Nat:=
 match w.heap[b]? with
 |some (.cells c _ _)=>some c.size
 |_=>none
class Tok where
 De:Nat->AV
 pO:Bool->Nat->AV
variable [Tok]
inductive Df:AV->Value->Prop
 |i (k:IntKind) (n:Int):Df (.i k n) (.int k n)
 |s (l:List Nat) (h:∀c∈l,c<256):Df (.s l) (.string (strOf l))
def Df.alt{a:AV}{u:Value}(h:Df a u):(∃k n,u= .int k n)\/∃s,u= .string s:=by
 cases h with
 |i k n=>exact .inl ⟨_,_,rfl⟩
 |s l h=>exact .inr ⟨_,rfl⟩
inductive ag(w:World):(Nat->Option Nat)->(Nat->Prop)->Nat->AV->Value->Prop
 |b {m:Nat->Option Nat} {O:Nat->Prop} {B:Nat} (x:Bool):ag w m O B (.b x) (.bool x)
 |i {m:Nat->Option Nat} {O:Nat->Prop} {B:Nat} (k:IntKind) (n:Int):ag w m O B (.i k n) (.int k n)
 |s {m:Nat->Option Nat} {O:Nat->Prop} {B:Nat} (l:List Nat) (h:∀c∈l,c<256):ag w m O B (.s l) (.string (strOf l))
 |qQ {m:Nat->Option Nat} {O:Nat->Prop} {B:Nat}:ag w m O B (.p none) (.pointer none)
 |p {m:Nat->Option Nat} {O:Nat->Prop} {B:Nat} {id aD off:Nat} (h:m id=some aD):ag w m O B (.p (some (id,off))) (.pointer (some ⟨aD,off,none⟩))
 |dh {m:Nat->Option Nat} {O:Nat->Prop} {B:Nat} {old:Bool} {v:AV} {aD off:Nat} (bf:Nat->Value) (ch:¬O aD) (hb:aD<w.heap.size) (ca:old=false->B<=aD)
   (ab:∀j,j<v.cells.length->w.cell? ⟨aD,off+j,none⟩=some (bf j)) (aq:∀j (h:j<v.cells.length),ag w (λ_=>none) O B (v.cells[j]) (bf j)) (hf:∀x∈v.cells,conf none x=true):
   ag w m O B (.dh old v) (.pointer (some ⟨aD,off,none⟩))
 |af {m:Nat->Option Nat} {O:Nat->Prop} {B:Nat}:ag w m O B .af (.slice none 0 0)
 |al {m:Nat->Option Nat} {O:Nat->Prop} {B:Nat} {id off len aD n gl:Nat} {aa cap:Option Nat} (h:m id=some aD) (hl:len<=gl) (ab:∀c,cap=some c->gl=c) (hn:eK w aD=some n) (mU:off+gl*shN aa<=n):
   ag w m O B (.al id off len aa cap) (.slice (some ⟨aD,off,none⟩) len gl)
 |lW {m:Nat->Option Nat} {O:Nat->Prop} {B:Nat} {old:Bool} {aa:Option Nat}:ag w m O B (.a_ old aa []) (.slice none 0 0)
 |a_ {m:Nat->Option Nat} {O:Nat->Prop} {B:Nat} {old:Bool} {aa:Option Nat} {xs:List AV} {aD off gl:Nat} {sp:Option Nat} (bf:Nat->Nat->Value) (ch:xs≠[]->¬O aD/\aD<w.heap.size/\(old=false->B<=aD))
   (ao:∀i (h:i<xs.length),conf aa (xs[i])=true)
   (ab:∀i (h:i<xs.length),∀j,j<(xs[i]).cells.length->w.cell? ⟨aD,off+i*shN aa+j,none⟩=some (bf i j))
   (aq:∀i (h:i<xs.length),∀j (ax:j<(xs[i]).cells.length),ag w (λ_=>none) O B ((xs[i]).cells[j]) (bf i j)) (hl:xs.length<=gl) (hf:∀v∈xs,∀x∈v.cells,conf none x=true) (fy:xs≠[]->sp=none):
   ag w m O B (.a_ old aa xs) (.slice (some ⟨aD,off,sp⟩) xs.length gl)
 |r1 {m:Nat->Option Nat} {O:Nat->Prop} {B:Nat}:ag w m O B (.m none) (.map none)
 |mp {m:Nat->Option Nat} {O:Nat->Prop} {B:Nat} {id aD:Nat} (h:m id=some aD):ag w m O B (.m (some id)) (.map (some aD))
 |cO {m:Nat->Option Nat} {O:Nat->Prop} {B:Nat} {g:Nat} {a8 cs:List AV} {g0 fz:Array Value} (hf:g0.size=a8.length) (bH:∀i (h:i<a8.length) (h':i<g0.size),ag w m O B (a8[i]) (g0[i]))
   (ab:fz.size=cs.length) (tv:∀i (h:i<cs.length) (h':i<fz.size),ag w m O B (cs[i]) (fz[i])):ag w m O B (.f (.func g) a8 cs) (.func (.func g) g0 fz)
 |u5 {m:Nat->Option Nat} {O:Nat->Prop} {B:Nat} {l aD:Nat} (h:m l=some aD):ag w m O B (.f (.yield l) [] []) (.func (.yield aD) #[] #[])
 |eh {m:Nat->Option Nat} {O:Nat->Prop} {B:Nat}:ag w m O B .eh .nilFunc
 |it {m:Nat->Option Nat} {O:Nat->Prop} {B:Nat} {t:TypeId} {v:AV} {u:Value} (h:ag w m O B v u):ag w m O B (.it t v) (.iface t u)
 |fP {m:Nat->Option Nat} {O:Nat->Prop} {B:Nat}:ag w m O B .fP .nilIface
 |R {m:Nat->Option Nat} {O:Nat->Prop} {B:Nat} {l:List AV} {bo:Array Value} (ao:bo.size=l.length) (aq:∀i (h:i<l.length) (h':i<bo.size),ag w m O B (l[i]) (bo[i])) (hf:∀x∈l,conf none x=true):ag w m O B (.R l) (.agg bo)
 |a0 {m:Nat->Option Nat} {O:Nat->Prop} {B:Nat} {l:List AV} {bo:Array Value} (ao:bo.size=l.length) (aq:∀i (h:i<l.length) (h':i<bo.size),ag w m O B (l[i]) (bo[i])):ag w m O B (.a0 l) (.tuple bo)
 |hv {m:Nat->Option Nat} {O:Nat->Prop} {B:Nat} {k:IntKind} {d j n:Nat} (h:n%d=j) (hn:n<256):ag w m O B (.hv k d j) (.int k (Int.ofNat n))
 |ic {m:Nat->Option Nat} {O:Nat->Prop} {B:Nat} {ex:List (List Nat)} {s:ByteArray} (h:∀e∈ex,s≠strOf e):ag w m O B (.ic ex) (.string s)
 |iI {m:Nat->Option Nat} {O:Nat->Prop} {B:Nat} {hi:Bool} (n:Int) (h:hi=decide (40<n)):ag w m O B (.iI hi) (.int .i64 n)
 |y {m:Nat->Option Nat} {O:Nat->Prop} {B i:Nat} {u:Value} (h:Df (Tok.De i) u):ag w m O B (.y i) u
 |gu {m:Nat->Option Nat} {O:Nat->Prop} {B i:Nat} {old:Bool} {u:Value} {a:Option Addr} {l c:Nat} (hu:u= .slice a l c) (h:ag w (λ_=>none) O B (Tok.pO old i) u):ag w m O B (.gu old i) u
class TokOk:Prop where
 snap:∀ {w:World} {O:Nat->Prop} {B eL i:Nat} {old:Bool} {u:Value},ag w (λ_=>none) O B (Tok.pO old i) u->ag w (λ_=>none) (λ_=>False) eL (Tok.pO true i) u
 fresh:∀ {w:World} {O:Nat->Prop} {B i:Nat} {u:Value},ag w (λ_=>none) O B (Tok.pO false i) u->ag w (λ_=>none) (λb=>b<B) B (Tok.pO false i) u
def bQ(w:World)(m:Nat->Option Nat)(O:Nat->Prop)(B:Nat)(l:List AV)(bo:List Value):Prop:=
 bo.length=l.length/\∀i (h:i<l.length) (h':i<bo.length),ag w m O B (l[i]) (bo[i])
def ja(w:World)(m:Nat->Option Nat)(O:Nat->Prop)(B:Nat)(al:a1 AV)(bo:List Value):Prop:=
 (∀i v,al.get i=some v->∃u,bo[i]? =some u/\ag w m O B v u)/\∀i,al.get i=none->bo[i]? =none
def Uw{w av:World}{a:Addr}(h:av.heap[a.block]? =w.heap[a.block]?):av.cell? a=w.cell? a:=by
 unfold World.cell?;rw[h]
def ag.mono{w av:World}{m aT:Nat->Option Nat}{O kk:Nat->Prop}{B:Nat}(hm:∀id aD,m id=some aD->aT id=some aD)(cz:w.heap.size<=av.heap.size)
  (hz:∀b n,eK w b=some n->eK av b=some n) (ay:∀aD,aD<w.heap.size->¬O aD->av.heap[aD]? =w.heap[aD]? ∧¬kk aD) {v:AV} {u:Value} (h:ag w m O B v u):ag av aT kk B v u:=by
 induction h generalizing aT with
 |b x=>exact .b x
 |i k n=>exact .i k n
 |s l h=>exact .s l h
 |qQ=>exact .qQ
 |p h=>exact .p (hm _ _ h)
 |dh bf ch hb ca ab aq hf aH=>exact .dh bf (ay _ hb ch).2 U ca (λj ax=>by rw[Uw (w:=w) (ay _ hb ch).1];exact ab j ax) (λj ax=>aH j ax (aT:=λ_=>none) (λ_ _ h=>by cases h) ay) hf
 |af=>exact .af
 |al h hl ab hn mU=>exact .al (hm _ _ h) hl ab (hz _ _ hn) mU
 |lW=>exact .lW
 | @a_ _ _ _ old aa xs aD off gl sp bf ch ao ab aq hl hf fy aH=>
  by_cases hx:xs=[]
  ·subst hx;exact .a_ bf (λh=>absurd I h) ao (λi h=>by simp at h) (λi h=>by simp at h) hl hf fy
  ·obtain⟨h1,h2,h3⟩:=ch hx;exact .a_ bf (λ_=>⟨(ay _ h2 h1).2,U,h3⟩) ao (λi h j ax=>by rw[Uw (w:=w) (ay _ h2 h1).1];exact ab i h j ax) (λi h j ax=>aH i h j ax (aT:=λ_=>none) (λ_ _ h=>by cases h) ay) hl hf fy
 |r1=>exact .r1
 |mp h=>exact .mp (hm _ _ h)
 |cO hf bH ab tv MV r2=>exact .cO hf (λi h h'=>MV i h h' hm ay) ab (λi h h'=>r2 i h h' hm ay)
 |u5 h=>exact .u5 (hm _ _ h)
 |eh=>exact .eh
 |it _ aH=>exact .it (aH hm ay)
 |fP=>exact .fP
 |R ao _ hf aH=>exact .R ao (λi h h'=>aH i h h' hm ay) hf
 |a0 ao _ aH=>exact .a0 ao (λi h h'=>aH i h h' hm ay)
 |hv h hn=>exact .hv h hn
 |ic h=>exact .ic h
 |iI n h=>exact .iI n h
 |y h=>exact .y h
 |gu hu _ aH=>exact .gu hu (aH (λ_ _ h=>by cases h) ay)
def ag.up{w:World}{m:Nat->Option Nat}{O:Nat->Prop}{B:Nat}{v:AV}{u:Value}(h:ag w (λ_=>none) O B v u):ag w m O B v u:=
 h.mono (λ_ _ h=>by cases h) (bs _) (λ_ _ h=>h) (λ_ _ h=>⟨rfl,h⟩)
def AO.isDead:AO->Bool
 | .dead=>true
 |_=>false
def live(J:ae)(id:Nat):Prop:=∃o,J.get id=some o/\o.isDead=false
def bq(J:ae)(m:Nat->Option Nat)(aD:Nat):Prop:=∃id,m id=some aD/\live J id
def yv(f:Nat)(J:ae)(m:Nat->Option Nat)(aD:Nat):Prop:=∃id,f<=id/\m id=some aD/\live J id
def Hq(P:Program):Option bF->Option Code->Prop
 |none,none=>True
 |some c,some d=>ccode P d=some c/\(c= .ret\/∃id,c= .exit id)
 |_,_=>False
inductive mV(P:Program)(w:World)(m:Nat->Option Nat)(O:Nat->Prop)(B:Nat):AO->Obj->Prop
 |cells {c:List AV} {arr:Array Value} {el:TypeId} {bp:Nat×Nat} (hl:c.length<=arr.size) (aq:∀i (h:i<c.length) (h':i<arr.size),ag w m O B (c[i]) (arr[i]))
   (a6:∀i,i<arr.size->(decide (bp.1<=i)&&decide (i<bp.2))=false) (hf:∀x∈c,conf none x=true):mV P w m O B (.cells c) (.cells arr el bp)
 |map {es:List (AV×AV×Nat)} {dY:Array MapEntry} {clock:Nat} (hl:dY.size=es.length)
   (aq:∀i (h:i<es.length) (h':i<dY.size),ag w m O B (es[i]).1 (dY[i]).key/\ag w m O B (es[i]).2.1 (dY[i]).val/\(dY[i]).born=(es[i]).2.2):mV P w m O B (.map es clock) (.map dY clock)
 |mapIter {id:Option Nat} {b:Option Nat} {since g7:Nat} {seen:List Nat} (hb:match id,b with|none,none=>True|some i,some j=>m i=some j|_,_=>False):
   mV P w m O B (.mapIter id since seen g7) (.mapIter b since seen.toArray g7)
 |loop {st:LoopState} {mn:Option bF} {n0:Option Code} {bj:a1 AV} {tmps:Array Value} {aC:List Nat} {as b:bF} {iz fR:Code} {d D:Nat} {fn:FuncId}
   (mW:Hq P mn n0) (ao:ja w m O B bj tmps.toList) (ha:ccode P iz=some as) (hb:ccode P fR=some b) (hd:m d=some D):
   mV P w m O B (.loop st mn bj aC as b d) (.loop {state:=st,pending:=n0,fn,tmps,params:=aC.toArray,assign:=iz,body:=fR,defers:=D})
 |eE:mV P w m O B .eE (.deferred (some []))
def bQ.mono{w av:World}{m aT:Nat->Option Nat}{O kk:Nat->Prop}{B:Nat}(hm:∀id aD,m id=some aD->aT id=some aD)(cz:w.heap.size<=av.heap.size)
  (hz:∀b n,eK w b=some n->eK av b=some n) (ay:∀aD,aD<w.heap.size->¬O aD->av.heap[aD]? =w.heap[aD]? ∧¬kk aD) {l:List AV} {bo:List Value} (h:bQ w m O B l bo):bQ av aT kk B l bo:=
 ⟨h.1,λi hi dq=>(h.2 i hi dq).mono hm cz hz ay⟩
def ja.mono{w av:World}{m aT:Nat->Option Nat}{O kk:Nat->Prop}{B:Nat}(hm:∀id aD,m id=some aD->aT id=some aD)(cz:w.heap.size<=av.heap.size)
  (hz:∀b n,eK w b=some n->eK av b=some n) (ay:∀aD,aD<w.heap.size->¬O aD->av.heap[aD]? =w.heap[aD]? ∧¬kk aD) {l:a1 AV} {bo:List Value} (h:ja w m O B l bo):ja av aT kk B l bo:=
 ⟨λi v hi=>let⟨u,h1,h2⟩:=h.1 i v hi;⟨u,h1,h2.mono hm cz hz ay⟩,h.2⟩
def mV.mono{P:Program}{w av:World}{m aT:Nat->Option Nat}{O kk:Nat->Prop}{B:Nat}(hm:∀id aD,m id=some aD->aT id=some aD)(cz:w.heap.size<=av.heap.size)
  (hz:∀b n,eK w b=some n->eK av b=some n) (ay:∀aD,aD<w.heap.size->¬O aD->av.heap[aD]? =w.heap[aD]? ∧¬kk aD) {o:AO} {bX:Obj} (h:mV P w m O B o bX):mV P av aT kk B o bX:=by
 cases h with
 |cells hl aq a6 hf=>exact .cells hl (λi h h'=>(aq i h h').mono hm cz hz ay) a6 hf
 |map hl aq=>exact .map hl (λi h h'=>⟨(aq i h h').1.mono hm cz hz ay,(aq i h h').2.1.mono hm cz hz ay,(aq i h h').2.2⟩)
 | @mapIter id b _ _ _ hb=>exact .mapIter (by cases id<;>cases b<;>first|exact hb|exact hm _ _ hb)
 |loop mW ao ha hb hd=>exact .loop mW (ao.mono hm cz hz ay) ha hb (hm _ _ hd)
 |eE=>exact .eE
structure Rel(P:Program)(J:ae)(w:World)(m:Nat->Option Nat)(B:Nat):Prop where
 len:True
 gi:∀id aD,m id=some aD->aD<w.heap.size/\id<J.next
 obj:∀id aD o,m id=some aD->J.get id=some o->o.isDead=false->∃bX,w.heap[aD]? =some bX/\mV P w m (bq J m) B o bX
 inj:∀id g8 aD,m id=some aD->m g8=some aD->live J id->live J g8->id=g8
 base:∀id aD,m id=some aD->B<=aD
 mX:B<=w.heap.size
structure Ext(f:Nat)(J:ae)(w:World)(m:Nat->Option Nat)(ai:ae)(av:World)(aT:Nat->Option Nat):Prop where
 mono:∀id aD,m id=some aD->aT id=some aD
 new:∀id aD,aT id=some aD->m id=some aD\/(J.next<=id/\(w.heap.size<=aD\/yv f J m aD))
 next:J.next<=ai.next
 size:w.heap.size<=av.heap.size
 bK:∀b n,eK w b=some n->eK av b=some n
 aP:∀aD,aD<w.heap.size->¬yv f J m aD->av.heap[aD]? =w.heap[aD]?
 low:∀id,id<f->id<J.next->ai.get id=J.get id
 dead:∀id,id<J.next->live ai id->live J id
 os:av.os=w.os
 tape:av.tape=w.tape
 out:av.output=w.output
 un:∀id,id<J.next->m id=none->ai.get id=J.get id
def yv.own{f:Nat}{J:ae}{m:Nat->Option Nat}{aD:Nat}(h:yv f J m aD):bq J m aD:=let⟨id,_,h1,h2⟩:=h;⟨id,h1,h2⟩
def Ext.refl(f:Nat)(J:ae)(w:World)(m:Nat->Option Nat):Ext f J w m J w m:=
 ⟨λ_ _ h=>h,λ_ _ h=>.inl h,bs _,bs _,λ_ _ h=>h,λ_ _ _=>rfl,λ_ _ _=>rfl,λ_ _ h=>h,rfl,rfl,rfl,λ_ _ _=>rfl⟩
def Ext.tw{P:Program}{f:Nat}{J ai:ae}{w av:World}{m aT:Nat->Option Nat}{B:Nat}(h:Ext f J w m ai av aT)(aq:Rel P J w m B)(aD:Nat)(hb:aD<w.heap.size)(ch:¬bq J m aD):
  av.heap[aD]? =w.heap[aD]? ∧¬bq ai aT aD:=by
 refine⟨h.aP aD hb (λho=>ch ho.own),?_⟩;rintro⟨id,h1,h2⟩;rcases h.new id aD h1 with h3|⟨_,h3|h3⟩
 ·exact ch ⟨id,h3,h.dead id (aq.gi _ _ h3).2 h2⟩
 ·omega
 ·exact ch h3.own
def ag.ext{P:Program}{f:Nat}{J ai:ae}{w av:World}{m aT:Nat->Option Nat}{B:Nat}(h:Ext f J w m ai av aT)(aq:Rel P J w m B){v:AV}{u:Value}(au:ag w m (bq J m) B v u):ag av aT (bq ai aT) B v u:=
 au.mono h.mono h.size h.bK (h.tw aq)
def ja.ext{P:Program}{f:Nat}{J ai:ae}{w av:World}{m aT:Nat->Option Nat}{B:Nat}(h:Ext f J w m ai av aT)(aq:Rel P J w m B){v:a1 AV}{u:List Value}(au:ja w m (bq J m) B v u):ja av aT (bq ai aT) B v u:=
 au.mono h.mono h.size h.bK (h.tw aq)
def bQ.ext{P:Program}{f:Nat}{J ai:ae}{w av:World}{m aT:Nat->Option Nat}{B:Nat}(h:Ext f J w m ai av aT)(aq:Rel P J w m B){v:List AV}{u:List Value}(au:bQ w m (bq J m) B v u):bQ av aT (bq ai aT) B v u:=
 au.mono h.mono h.size h.bK (h.tw aq)
def Ext.trans{P:Program}{f:Nat}{J ai Ux:ae}{w av AH:World}{m aT Uy:Nat->Option Nat}{B:Nat}(h:Ext f J w m ai av aT)(aq:Rel P J w m B)(h':Ext f ai av aT Ux AH Uy):Ext f J w m Ux AH Uy where
 mono id aD hb:=h'.mono _ _ (h.mono _ _ hb)
 new id aD hb:=by
  have key:∀b,yv f ai aT b->w.heap.size<=b\/yv f J m b:=by
   rintro b ⟨i,hf,h1,h2⟩;rcases h.new i b h1 with h3|⟨_,h3⟩
   ·exact .inr ⟨i,hf,h3,h.dead i (aq.gi _ _ h3).2 h2⟩
   ·exact h3
  rcases h'.new id aD hb with h1|⟨h1,h2⟩
  ·rcases h.new id aD h1 with h3|⟨h3,aO⟩
   ·exact .inl h3
   ·exact .inr ⟨h3,aO⟩
  ·refine .inr ⟨by have:=h.next;omega,?_⟩;rcases h2 with h2|h2
   ·exact .inl (by have:=h.size;omega)
   ·exact key _ h2
 next:=qH h.next h'.next
 size:=qH h.size h'.size
 bK b n hb:=h'.bK _ _ (h.bK _ _ hb)
 aP aD hb ch:=by
  have ao:=h.size;rw[h'.aP aD U ?_,h.aP aD hb ch];rintro⟨i,hf,h1,h2⟩;rcases h.new i aD h1 with h3|⟨_,h3|h3⟩
  ·exact ch ⟨i,hf,h3,h.dead i (aq.gi _ _ h3).2 h2⟩
  ·omega
  ·exact ch h3
 low id hf hn:=by rw[h'.low id hf (by have:=h.next;omega),h.low id hf hn]
 dead id hn hl:=h.dead id hn (h'.dead id (by have:=h.next;omega) hl)
 os:=h'.os.trans h.os
 tape:=h'.tape.trans h.tape
 out:=h'.out.trans h.out
 un id hn hm:=by
  have n1:aT id=none:=by
   cases e:aT id with
   |none=>rfl
   |some b=>
    rcases h.new id b e with h3|⟨h3,_⟩
    ·rw[hm] at h3;cases h3
    ·omega
  rw[h'.un id (by have:=h.next;omega) n1,h.un id hn hm]
def Dg{α:Type}(l:List α):∀n,nth l n=l[n]? :=by
 induction l with
 |nil=>intro n;rfl
 |cons x xs aH=>
  intro n;cases n with
  |zero=>rfl
  |succ n=>exact(aH n).trans aF
def Hr{α β:Type}(f:α->Option β):mapO f []=some []:=rfl
def mapO_cons{α β:Type}(f:α->Option β)(x:α)(xs:List α):mapO f (x::xs)=match f x with|none=>none|some y=>match mapO f xs with|none=>none|some bf=>some (y::bf):=rfl
def o0{α β:Type}{f:α->Option β}:∀ {l:List α} {bf:List β},mapO f l=some bf->bf.length=l.length/\∀i (h:i<l.length) (h':i<bf.length),f (l[i])=some (bf[i])
 |[],bf,h=>by simp[Hr] at h;subst h;simp
 |x::xs,bf,h=>by
  rw[mapO_cons] at h;cases hx:f x with
  |none=>simp[hx] at h
  |some y=>
   simp only[hx] at h;cases dG:mapO f xs with
   |none=>simp[dG] at h
   |some e2=>
    simp only[dG,cL] at h;subst h;obtain⟨h1,h2⟩:=o0 dG;refine⟨by simp[h1],λi hi dq=>?_⟩;cases i with
    |zero=>simpa using hx
    |succ i=>simpa using h2 i (by simpa using hi) (by simpa using dq)
def pP{i:Nat}(h:i≠0):(Nat.beq (Nat.mod i 2) 1=true/\i=2*Nat.div (Nat.sub i 1) 2+1)\/(Nat.beq (Nat.mod i 2) 1=false/\i=2*Nat.div (Nat.sub i 1) 2+2):=by
 have aL:Nat.mod i 2=i%2:=rfl;have a5:Nat.div (Nat.sub i 1) 2=(i-1)/2:=rfl;rw[aL,a5];rcases T7 i with h2|h2
 ·right;rw[h2];exact⟨rfl,U⟩
 ·left;rw[h2];exact⟨rfl,U⟩
section
variable {α:Type}
def a1.get_nil(i:Nat):(a1.nil:a1 α).get i=none:=rfl
def r3{α:Type}(t:Bool)(a b:α):(Bool.rec (motive:=λ_=>α) b a t:α)=cond t a b:=by cases t<;>rfl
def a1.kG(v:Option α)(l r:a1 α)(i:Nat):(a1.node v l r).get i=cond (Nat.beq i 0) v (cond (Nat.beq (Nat.mod i 2) 1) (l.get (Nat.div (Nat.sub i 1) 2)) (r.get (Nat.div (Nat.sub i 1) 2))):=(r3 _ _ _).trans (congrArg (cond _ _) (r3 _ _ _))
def a1.MW(v:Option α)(l r:a1 α)(i:Nat)(x:α):(a1.node v l r).set i x=cond (Nat.beq i 0) (.node (match v with|some _=>some x|none=>none) l r)
  (cond (Nat.beq (Nat.mod i 2) 1) (.node v (l.set (Nat.div (Nat.sub i 1) 2) x) r) (.node v l (r.set (Nat.div (Nat.sub i 1) 2) x))):=by cases v<;>exact(r3 _ _ _).trans (congrArg (cond _ _) (r3 _ _ _))
def a1.a9E(i:Nat)(x:α):(a1.nil:a1 α).ins i x=a1.AA (i+1) i x:=rfl
def a1.a9F(v:Option α)(l r:a1 α)(i:Nat)(x:α):(a1.node v l r).ins i x=cond (Nat.beq i 0) (.node (some x) l r)
  (cond (Nat.beq (Nat.mod i 2) 1) (.node v (l.ins (Nat.div (Nat.sub i 1) 2) x) r) (.node v l (r.ins (Nat.div (Nat.sub i 1) 2) x))):=(r3 _ _ _).trans (congrArg (cond _ _) (r3 _ _ _))
def a1.a9G(f i:Nat)(x:α):a1.AA (f+1) i x=cond (Nat.beq i 0) (.node (some x) .nil .nil) (cond (Nat.beq (Nat.mod i 2) 1) (.node none (a1.AA f (Nat.div (Nat.sub i 1) 2) x) .nil) (.node none .nil (a1.AA f (Nat.div (Nat.sub i 1) 2) x))):=(r3 _ _ _).trans (congrArg (cond _ _) (r3 _ _ _))
def a1.Uz(f n:Nat)(x:α):a1.full (f+1) x n=cond (Nat.beq n 0) .nil (.node (some x) (a1.full f x (Nat.div n 2)) (a1.full f x (Nat.div (Nat.sub n 1) 2))):=rfl
def j3{i:Nat}(h:i≠0):Nat.beq i 0=false:=by
 cases h1:Nat.beq i 0 with
 |false=>rfl
 |true=>exact absurd (gb h1) h
def a1.jw:∀(t:a1 α) (d i:Nat) (x:α),(t.set d x).get i=if i=d then(t.get d).map (λ_=>x) else t.get i
 | .nil,d,i,x=>by
  show(a1.nil:a1 α).get i=_;rw[a1.get_nil,a1.get_nil];simp
 | .node v l r,d,i,x=>by
  rw[a1.MW];by_cases hd:d=0
  ·subst hd;rw[gQ,cond_true,a1.kG,a1.kG,a1.kG];by_cases hi:i=0
   ·subst hi;rw[gQ,cond_true,cond_true,if_pos I];cases v<;>rfl
   ·rw[j3 hi,cond_false,cond_false,if_neg hi]
  ·rw[j3 hd,cond_false];rcases pP hd with⟨h1,h2⟩|⟨h1,h2⟩
   ·rw[h1,cond_true,a1.kG,a1.kG,a1.kG,j3 hd,cond_false,h1,cond_true];by_cases hi:i=0
    ·subst hi;rw[gQ,cond_true,cond_true,if_neg (qI hd)]
    ·rw[j3 hi,cond_false,cond_false];rcases pP hi with⟨h3,aO⟩|⟨h3,aO⟩
     ·rw[h3,cond_true,cond_true,a1.jw l];by_cases he:i=d
      ·subst he;rw[if_pos I,if_pos I]
      ·rw[if_neg he,if_neg U]
     ·rw[h3,cond_false,cond_false,if_neg U]
   ·rw[h1,cond_false,a1.kG,a1.kG,a1.kG,j3 hd,cond_false,h1,cond_false];by_cases hi:i=0
    ·subst hi;rw[gQ,cond_true,cond_true,if_neg (qI hd)]
    ·rw[j3 hi,cond_false,cond_false];rcases pP hi with⟨h3,aO⟩|⟨h3,aO⟩
     ·rw[h3,cond_true,cond_true,if_neg U]
     ·rw[h3,cond_false,cond_false,a1.jw r];by_cases he:i=d
      ·subst he;rw[if_pos I,if_pos I]
      ·rw[if_neg he,if_neg U]
def a1.MX:∀(f d i:Nat) (x:α),d<f->(a1.AA f d x).get i=if i=d then some x else none
 |0,d,i,x,h=>by omega
 |f+1,d,i,x,h=>by
  rw[a1.a9G];by_cases hd:d=0
  ·subst hd;rw[gQ,cond_true,a1.kG];by_cases hi:i=0
   ·subst hi;rw[gQ,cond_true,if_pos I]
   ·rw[j3 hi,cond_false,if_neg hi,a1.get_nil];cases Nat.beq (Nat.mod i 2) 1<;>rfl
  ·rw[j3 hd,cond_false];rcases pP hd with⟨h1,h2⟩|⟨h1,h2⟩
   ·rw[h1,cond_true,a1.kG];by_cases hi:i=0
    ·subst hi;rw[gQ,cond_true,if_neg (qI hd)]
    ·rw[j3 hi,cond_false];rcases pP hi with⟨h3,aO⟩|⟨h3,aO⟩
     ·rw[h3,cond_true,a1.MX f _ _ x U];by_cases he:i=d
      ·subst he;rw[if_pos I,if_pos I]
      ·rw[if_neg he,if_neg U]
     ·rw[h3,cond_false,if_neg U,a1.get_nil]
   ·rw[h1,cond_false,a1.kG];by_cases hi:i=0
    ·subst hi;rw[gQ,cond_true,if_neg (qI hd)]
    ·rw[j3 hi,cond_false];rcases pP hi with⟨h3,aO⟩|⟨h3,aO⟩
     ·rw[h3,cond_true,if_neg U,a1.get_nil]
     ·rw[h3,cond_false,a1.MX f _ _ x U];by_cases he:i=d
      ·subst he;rw[if_pos I,if_pos I]
      ·rw[if_neg he,if_neg U]
def a1.Dh:∀(t:a1 α) (d i:Nat) (x:α),(t.ins d x).get i=if i=d then some x else t.get i
 | .nil,d,i,x=>by rw[a1.a9E,a1.MX _ _ _ _ (lV d),a1.get_nil]
 | .node v l r,d,i,x=>by
  rw[a1.a9F];by_cases hd:d=0
  ·subst hd;rw[gQ,cond_true,a1.kG,a1.kG];by_cases hi:i=0
   ·subst hi;rw[gQ,cond_true,if_pos I]
   ·rw[j3 hi,cond_false,cond_false,if_neg hi]
  ·rw[j3 hd,cond_false];rcases pP hd with⟨h1,h2⟩|⟨h1,h2⟩
   ·rw[h1,cond_true,a1.kG,a1.kG];by_cases hi:i=0
    ·subst hi;rw[gQ,cond_true,cond_true,if_neg (qI hd)]
    ·rw[j3 hi,cond_false,cond_false];rcases pP hi with⟨h3,aO⟩|⟨h3,aO⟩
     ·rw[h3,cond_true,cond_true,a1.Dh l];by_cases he:i=d
      ·subst he;rw[if_pos I,if_pos I]
      ·rw[if_neg he,if_neg U]
     ·rw[h3,cond_false,cond_false,if_neg U]
   ·rw[h1,cond_false,a1.kG,a1.kG];by_cases hi:i=0
    ·subst hi;rw[gQ,cond_true,cond_true,if_neg (qI hd)]
    ·rw[j3 hi,cond_false,cond_false];rcases pP hi with⟨h3,aO⟩|⟨h3,aO⟩
     ·rw[h3,cond_true,cond_true,if_neg U]
     ·rw[h3,cond_false,cond_false,a1.Dh r];by_cases he:i=d
      ·subst he;rw[if_pos I,if_pos I]
      ·rw[if_neg he,if_neg U]
def a1.Hs:∀(f n i:Nat) (x:α),i<n->n<=f->(a1.full f x n).get i=some x
 |0,n,i,x,h,hf=>by omega
 |f+1,n,i,x,h,hf=>by
  rw[a1.Uz];have hn:n≠0:=by omega
  rw[j3 hn,cond_false,a1.kG];have aL:Nat.div n 2=n/2:=rfl;have a5:Nat.div (Nat.sub n 1) 2=(n-1)/2:=rfl;by_cases hi:i=0
  ·subst hi;rw[gQ,cond_true]
  ·rw[j3 hi,cond_false];rcases pP hi with⟨h3,aO⟩|⟨h3,aO⟩
   ·rw[h3,cond_true];exact a1.Hs f _ _ x (by rw[aL];omega) (by rw[aL];omega)
   ·rw[h3,cond_false];exact a1.Hs f _ _ x (by rw[a5];omega) (by rw[a5];omega)
def a1.Ht:∀(f n i:Nat) (x y:α),(a1.full f x n).get i=some y->y=x/\i<n
 |0,n,i,x,y,h=>by
  have h:(a1.nil:a1 α).get i=some y:=h;rw[a1.get_nil] at h;cases h
 |f+1,n,i,x,y,h=>by
  rw[a1.Uz] at h;by_cases hn:n=0
  ·subst hn;rw[gQ,cond_true,a1.get_nil] at h;cases h
  ·rw[j3 hn,cond_false,a1.kG] at h;have aL:Nat.div n 2=n/2:=rfl;have a5:Nat.div (Nat.sub n 1) 2=(n-1)/2:=rfl;by_cases hi:i=0
   ·subst hi;rw[gQ,cond_true] at h;cases h;exact⟨rfl,U⟩
   ·rw[j3 hi,cond_false] at h;rcases pP hi with⟨h3,aO⟩|⟨h3,aO⟩
    ·rw[h3,cond_true] at h;have:=a1.Ht f _ _ x y h;exact⟨this.1,by rw[aL] at this;omega⟩
    ·rw[h3,cond_false] at h;have:=a1.Ht f _ _ x y h;exact⟨this.1,by rw[a5] at this;omega⟩
end
section
variable {α:Type}
def UA(f i:Nat):yq (f+1) i=cond (Nat.beq i 0) .h (cond (Nat.beq (Nat.mod i 2) 1) (.l (yq f (Nat.div (Nat.sub i 1) 2))) (.r (yq f (Nat.div (Nat.sub i 1) 2)))):=
 (r3 _ _ _).trans (congrArg (cond _ _) (r3 _ _ _))
def a1.Hu:∀(f i:Nat) (t:a1 α),i<f->a1.Hk (yq f i) t=t.get i
 |0,i,t,h=>absurd h (Nat.not_lt_zero _)
 |f+1,i,t,h=>by
  rw[UA];by_cases hi:i=0
  ·subst hi;cases t<;>rfl
  ·rw[j3 hi,cond_false];have hlt:Nat.div (Nat.sub i 1) 2<f:=by show(i-1)/2<f;omega
   rcases pP hi with⟨h1,_⟩|⟨h1,_⟩
   ·rw[h1,cond_true];cases t with
    |nil=>rfl
    |node v l r=>rw[a1.kG,j3 hi,cond_false,h1,cond_true];exact a1.Hu f _ l hlt
   ·rw[h1,cond_false];cases t with
    |nil=>rfl
    |node v l r=>rw[a1.kG,j3 hi,cond_false,h1,cond_false];exact a1.Hu f _ r hlt
def a1.MY(x:α):∀(f i:Nat) (t:a1 α),i<f->a1.Uj x (yq f i) t=t.set i x
 |0,i,t,h=>absurd h (Nat.not_lt_zero _)
 |f+1,i,t,h=>by
  rw[UA];by_cases hi:i=0
  ·subst hi;cases t<;>rfl
  ·rw[j3 hi,cond_false];have hlt:Nat.div (Nat.sub i 1) 2<f:=by show(i-1)/2<f;omega
   rcases pP hi with⟨h1,_⟩|⟨h1,_⟩
   ·rw[h1,cond_true];cases t with
    |nil=>rfl
    |node v l r=>rw[a1.MW,j3 hi,cond_false,h1,cond_true];exact congrArg (λl=>a1.node v l r) (a1.MY x f _ l hlt)
   ·rw[h1,cond_false];cases t with
    |nil=>rfl
    |node v l r=>rw[a1.MW,j3 hi,cond_false,h1,cond_false];exact congrArg (λr=>a1.node v l r) (a1.MY x f _ r hlt)
end
def MZ:AB=evalA:=by
 funext env al x
 cases x with
 |t i=>exact a1.Hu _ _ _ (lV i)
 |c v=>rfl
 |g g=>rfl
def UB:Fr.oW=Fr.put:=by
 funext ad d v
 cases d with
 |none=>rfl
 |some d=>exact congrArg (λs=>Fr.mk s ad.defers ad.gg) (a1.MY v _ _ _ (lV d))
def UC:Hm=wantedA:=by
 funext g al
 cases g with
 |none=>rfl
 |some p=>
  obtain⟨d,w⟩:=p;show(match a1.Hk (yq (d+1) d) al with|some (.b x)=>x==w|_=>false)=_;rw[a1.Hu _ _ _ (lV d)];rfl
def a9H(env:Env)(aH:ju):Un env aH=step env aH:=by
 funext floor aR c ad J
 cases c with
 |cond c a b=>
  show(match AB env ad.bj c with|some (.b t)=>aH floor aR (cond t a b) ad J|_=>none)=_;rw[MZ];rfl
 |_=>rfl
def ae.get_eq(J:ae)(id:Nat):J.get id=if id<J.next then J.yr.get id else none:=by
 unfold ae.get;by_cases h:id<J.next
 ·have hb:Nat.blt id J.next=true:=by simpa [MD] using h
  rw[hb,cond_true,if_pos h]
 ·have hb:Nat.blt id J.next=false:=by
   cases hb:Nat.blt id J.next
   ·rfl
   ·exact absurd (by simpa [MD] using hb) h
  rw[hb,cond_false,if_neg h]
def ae.bt{J:ae}{id:Nat}{o:AO}(h:J.get id=some o):id<J.next:=by
 rw[ae.get_eq] at h;split at h
 ·assumption
 ·cases h
def ae.gD{J:ae}(_hl:True)(o:AO){id:Nat}(h:id<J.next):(J.push o).get id=J.get id:=by
 rw[ae.get_eq,ae.get_eq,if_pos h,if_pos (show id<(J.push o).next from gZ h)];show(J.yr.ins J.next o).get id=_;rw[a1.Dh,if_neg U]
def ae.jL{J:ae}(o:AO):(J.push o).get J.next=some o:=by
 rw[ae.get_eq,if_pos (show J.next<(J.push o).next from lV _)];show(J.yr.ins J.next o).get J.next=_;rw[a1.Dh,if_pos I]
def ae.UD{J:ae}(hl:True)(o:AO)(id:Nat):(J.push o).get id=if id=J.next then some o else J.get id:=by
 by_cases h:id=J.next
 ·subst h;simp[ae.jL]
 ·rw[if_neg h];by_cases h':id<J.next
  ·exact ae.gD hl o h'
  ·rw[ae.get_eq,ae.get_eq,if_neg (show ¬id<(J.push o).next from λh2=>h (by have:id<J.next+1:=h2;omega)),if_neg h']
def ae.jw{J:ae}(_hl:True){id:Nat}(o:AO)(h:id<J.next)(g8:Nat):(J.set id o).get g8=if g8=id then some o else J.get g8:=by
 rw[ae.get_eq,ae.get_eq];show(if g8<J.next then(J.yr.ins id o).get g8 else none)=_;by_cases h':g8<J.next
 ·rw[if_pos h',if_pos h',a1.Dh]
 ·rw[if_neg h',if_neg h',if_neg U]
end
section
variable [Tok]
open Go.RowKit
def wr:Array Value->Nat->List Value->Array Value
 |arr,_,[]=>arr
 |arr,o,v::r=>wr (arr.setIfInBounds o v) (o+1) r
def yw:∀(bo:List Value) (arr:Array Value) (o:Nat),(wr arr o bo).size=arr.size
 |[],_,_=>rfl
 |v::r,arr,o=>by rw[wr,yw r];simp
def Hv:∀(bo:List Value) (arr:Array Value) (o i:Nat),o+bo.length<=arr.size->(wr arr o bo)[i]? =if o<=i/\i<o+bo.length then bo[i-o]? else arr[i]?
 |[],arr,o,i,_=>by rw[wr,if_neg (λh=>by simp at h;omega)]
 |v::r,arr,o,i,h=>by
  have h':o+1+r.length<=(arr.setIfInBounds o v).size:=by simp at h ⊢;omega
  rw[wr,Hv r _ (o+1) i h'];simp only[CZ] at h ⊢;by_cases h1:o+1<=i/\i<o+1+r.length
  ·rw[if_pos h1,if_pos U,show i-o=(i-(o+1))+1 by omega,gB]
  ·rw[if_neg h1];by_cases h2:i=o
   ·subst h2;rw[if_pos U];simp[G7];omega
   ·rw[if_neg U,G8 (λe=>h2 e.symm)]
def heap_setCell_same{w:World}{b o:Nat}{v:Value}{arr:Array Value}{el:TypeId}{bp:Nat×Nat}(h:w.heap[b]? =some (.cells arr el bp)):
  (w.setCell ⟨b,o,none⟩ v).heap[b]? =some (.cells (arr.setIfInBounds o v) el bp):=by
 simp[World.setCell,Array.getElem?_modify,h]
def M0:∀(bo:List Value) (w:World) (b o:Nat) (arr:Array Value) (el:TypeId) (bp:Nat×Nat),w.heap[b]? =some (.cells arr el bp)→
  (w.setCells b o bo).heap[b]? =some (.cells (wr arr o bo) el bp)
 |[],w,b,o,arr,el,bp,h=>h
 |v::r,w,b,o,arr,el,bp,h=>by
  rw[World.setCells,wr];exact M0 r _ b (o+1) _ el bp (heap_setCell_same h)
def heap_setCells_other:∀(bo:List Value) (w:World) (b o k:Nat),k≠b->(w.setCells b o bo).heap[k]? =w.heap[k]?
 |[],w,b,o,k,h=>rfl
 |v::r,w,b,o,k,h=>by
  rw[World.setCells,heap_setCells_other r _ b (o+1) k h];exact Below.heap_setCell w ⟨b,o,none⟩ v k h
def M1:∀(bo:List Value) (w:World) (b o:Nat),(w.setCells b o bo).heap.size=w.heap.size/\(w.setCells b o bo).os=w.os/\(w.setCells b o bo).tape=w.tape/\(w.setCells b o bo).output=w.output
 |[],w,b,o=>⟨rfl,rfl,rfl,rfl⟩
 |v::r,w,b,o=>by
  rw[World.setCells];obtain⟨h1,h2,h3,aO⟩:=M1 r (w.setCell ⟨b,o,none⟩ v) b (o+1);exact⟨by rw[h1];simp,by rw[h2];rfl,by rw[h3];rfl,by rw[aO];rfl⟩
def AI{w:World}{b:Nat}{o:Obj}(h:w.heap[b]? =some o):b<w.heap.size:=(ME.1 h).1
def bindM(m:Nat->Option Nat)(i b:Nat):Nat->Option Nat:=λid=>if id=i then some b else m id
def hY(m:Nat->Option Nat)(i b:Nat):bindM m i b i=some b:=by simp[bindM]
def jb(m:Nat->Option Nat)(i b:Nat){id:Nat}(h:id≠i):bindM m i b id=m id:=by simp[bindM,h]
section
variable {P:Program}{J:ae}{w:World}{m:Nat->Option Nat}{B:Nat}
def Rel.a9I(aq:Rel P J w m B):m J.next=none:=by
 cases h:m J.next with
 |none=>rfl
 |some b=>have:=(aq.gi _ _ h).2;omega
def Rel.UE(aq:Rel P J w m B){aD:Nat}(h:bq J m aD):aD<w.heap.size:=let⟨_,h1,_⟩:=h;(aq.gi _ _ h1).1
def M3(aq:Rel P J w m B){o:AO}(ho:o.isDead=false)(id:Nat):live (J.push o) id↔id=J.next\/live J id:=by
 unfold live;rw[ae.UD aq.len];by_cases h:id=J.next
 ·subst h;simp[ho]
 ·simp[h]
def UF{id:Nat}(h:live J id):id<J.next:=let⟨_,h1,_⟩:=h;ae.bt h1
def Rel.alloc(aq:Rel P J w m B)(f:Nat)(av:World)(o:AO)(bX:Obj)(ho:o.isDead=false)(hh:av.heap=w.heap.push bX)(mo:av.os=w.os)(pQ:av.tape=w.tape)(lX:av.output=w.output)
  (lY:mV P w m (bq J m) B o bX):Rel P (J.push o) av (bindM m J.next w.heap.size) B/\Ext f J w m (J.push o) av (bindM m J.next w.heap.size):=by
 have cz:av.heap.size=w.heap.size+1:=by rw[hh];simp
 have hold:∀b,b<w.heap.size->av.heap[b]? =w.heap[b]? :=λb hb=>by
  rw[hh,yk];rw[if_neg U]
 have ly:av.heap[w.heap.size]? =some bX:=by rw[hh];simp
 have dO:Ext f J w m (J.push o) av (bindM m J.next w.heap.size):=by
  refine⟨?_,?_,MF _,U,?_,λb hb _=>hold b hb,?_,?_,mo,pQ,lX,λid hn _=>ae.gD aq.len o hn⟩
  ·intro id aD h;rw[jb m _ _ (by have:=(aq.gi _ _ h).2;omega)];exact h
  ·intro id aD h;by_cases hi:id=J.next
   ·subst hi;rw[hY] at h;cases h;exact .inr ⟨bs _,.inl (bs _)⟩
   ·rw[jb m _ _ hi] at h;exact .inl h
  ·intro b n hb;have:b<w.heap.size:=by
    rcases MG b w.heap.size with h|h
    ·exact h
    ·simp[eK,oQ h] at hb
   unfold eK at hb ⊢;rw[hold b this];exact hb
  ·intro id _ hn;exact ae.gD aq.len o hn
  ·intro id hn hl;rcases(M3 aq ho id).1 hl with h|h
   ·omega
   ·exact h
 refine⟨⟨trivial,?_,?_,?_,?_,by have:=aq.mX;omega⟩,dO⟩
 ·intro id aD h;by_cases hi:id=J.next
  ·subst hi;rw[hY] at h;cases h;exact⟨U,lV _⟩
  ·rw[jb m _ _ hi] at h;have:=aq.gi _ _ h;exact⟨U,gZ this.2⟩
 ·intro id aD eb h hg hd;by_cases hi:id=J.next
  ·subst hi;rw[hY] at h;cases h;rw[ae.jL] at hg;cases hg;exact⟨bX,ly,lY.mono dO.mono dO.size dO.bK (dO.tw aq)⟩
  ·rw[jb m _ _ hi] at h;have hlt:=aq.gi _ _ h;rw[ae.gD aq.len o hlt.2] at hg;obtain⟨iS,h1,h2⟩:=aq.obj id aD eb h hg hd;exact⟨iS,by rw[hold _ hlt.1];exact h1,h2.mono dO.mono dO.size dO.bK (dO.tw aq)⟩
 ·intro id g8 aD h h' hl u6;by_cases hi:id=J.next
  ·by_cases dq:g8=J.next
   ·rw[hi,dq]
   ·subst hi;rw[hY] at h;cases h;rw[jb m _ _ dq] at h';have:=(aq.gi _ _ h').1;omega
  ·rw[jb m _ _ hi] at h;by_cases dq:g8=J.next
   ·subst dq;rw[hY] at h';cases h';have:=(aq.gi _ _ h).1;omega
   ·rw[jb m _ _ dq] at h';exact aq.inj id g8 aD h h' (((M3 aq ho id).1 hl).resolve_left hi) (((M3 aq ho g8).1 u6).resolve_left dq)
 ·intro id aD h;by_cases hi:id=J.next
  ·subst hi;rw[hY] at h;cases h;exact aq.mX
  ·rw[jb m _ _ hi] at h;exact aq.base _ _ h
def a9J(aq:Rel P J w m B){id:Nat}(h:id<J.next)(o:AO)(g8:Nat):live (J.set id o) g8↔if g8=id then o.isDead=false else live J g8:=by
 unfold live;rw[ae.jw aq.len o h];by_cases he:g8=id
 ·simp[he]
 ·simp[he]
def Rel.dd(aq:Rel P J w m B){f id aD:Nat}(hf:f<=id)(hm:m id=some aD)(hl:live J id)(av:World)(o:AO)(cz:av.heap.size=w.heap.size)
  (yx:∀b,b≠aD->av.heap[b]? =w.heap[b]?) (hz:∀n,eK w aD=some n->eK av aD=some n) (mo:av.os=w.os) (pQ:av.tape=w.tape) (lX:av.output=w.output)
  (lY:o.isDead=false->∃bX,av.heap[aD]? =some bX/\mV P w m (bq J m) B o bX):Rel P (J.set id o) av m B/\Ext f J w m (J.set id o) av m:=by
 have hlt:=aq.gi _ _ hm;have mY:∀g8,live (J.set id o) g8->live J g8:=λg8 h=>by
  rw[a9J aq hlt.2] at h;by_cases he:g8=id
  ·subst he;exact hl
  ·rwa[if_neg he] at h
 have dO:Ext f J w m (J.set id o) av m:=by
  refine⟨λ_ _ h=>h,λ_ _ h=>.inl h,bs _,U,?_,?_,?_,λg8 _ h=>mY g8 h,mo,pQ,lX,λg8 _ u7=>by rw[ae.jw aq.len o hlt.2,if_neg (λe=>by subst e;rw[hm] at u7;cases u7)]⟩
  ·intro b n hb;by_cases he:b=aD
   ·subst he;exact hz n hb
   ·unfold eK at hb ⊢;rw[yx b he];exact hb
  ·intro b hb ch;refine yx b λhe=>ch ?_;subst he;exact⟨id,hf,hm,hl⟩
  ·intro g8 nw hn;rw[ae.jw aq.len o hlt.2,if_neg U]
 refine⟨⟨trivial,λg8 b h=>by have:=aq.gi _ _ h;exact⟨U,this.2⟩,?_,λi gE b h h' a cH=>aq.inj i gE b h h' (mY _ a) (mY _ cH),aq.base,by have:=aq.mX;omega⟩,dO⟩;intro g8 b eb h hg hd;by_cases he:g8=id
 ·subst he;rw[hm] at h;cases h;rw[ae.jw aq.len o hlt.2,if_pos I] at hg;cases hg;obtain⟨iS,h1,h2⟩:=lY hd;exact⟨iS,h1,h2.mono dO.mono dO.size dO.bK (dO.tw aq)⟩
 ·rw[ae.jw aq.len o hlt.2,if_neg he] at hg;obtain⟨iS,h1,h2⟩:=aq.obj g8 b eb h hg hd;have a7:b≠aD:=λe=>he (aq.inj g8 id aD (e▸h) hm ⟨eb,hg,hd⟩ hl);exact⟨iS,by rw[yx b a7];exact h1,h2.mono dO.mono dO.size dO.bK (dO.tw aq)⟩
def Rel.move(aq:Rel P J w m B){f id aD:Nat}(hf:f<=id)(hm:m id=some aD)(hl:live J id)(av:World)(o:AO)(ho:o.isDead=false)(cz:av.heap.size=w.heap.size)
  (yx:∀b,b≠aD->av.heap[b]? =w.heap[b]?) (hz:∀n,eK w aD=some n->eK av aD=some n) (mo:av.os=w.os) (pQ:av.tape=w.tape) (lX:av.output=w.output)
  (lY:∃bX,av.heap[aD]? =some bX/\mV P w m (bq J m) B o bX):
  Rel P ((J.set id .dead).push o) av (bindM m J.next aD) B/\Ext f J w m ((J.set id .dead).push o) av (bindM m J.next aD):=by
 have hlt:=aq.gi _ _ hm;have hlen:True:=trivial;have hZ:∀i,((J.set id .dead).push o).get i=if i=J.next then some o else if i=id then some .dead else J.get i:=λi=>by
  rw[ae.UD hlen o i];show(if i=J.next then some o else _)=_;by_cases h:i=J.next
  ·rw[if_pos h,if_pos h]
  ·rw[if_neg h,if_neg h,ae.jw aq.len .dead hlt.2]
 have mY:∀i,live ((J.set id .dead).push o) i↔i=J.next\/(i≠id/\live J i):=λi=>by
  unfold live;rw[hZ i];by_cases h:i=J.next
  ·simp[h,ho]
  ·by_cases h':i=id
   ·subst h';simp[h,AO.isDead]
   ·simp[h,h']
 have dO:Ext f J w m ((J.set id .dead).push o) av (bindM m J.next aD):=by
  refine⟨?_,?_,MF _,U,?_,?_,?_,?_,mo,pQ,lX,λi hn u7=>by rw[hZ,if_neg U,if_neg (λe=>by subst e;rw[hm] at u7;cases u7)]⟩
  ·intro i b h;rw[jb m _ _ (by have:=(aq.gi _ _ h).2;omega)];exact h
  ·intro i b h;by_cases hi:i=J.next
   ·subst hi;rw[hY] at h;cases h;exact .inr ⟨bs _,.inr ⟨id,hf,hm,hl⟩⟩
   ·rw[jb m _ _ hi] at h;exact .inl h
  ·intro b n hb;by_cases he:b=aD
   ·subst he;exact hz n hb
   ·unfold eK at hb ⊢;rw[yx b he];exact hb
  ·intro b hb ch;refine yx b λhe=>ch ?_;subst he;exact⟨id,hf,hm,hl⟩
  ·intro i nw hn;rw[hZ,if_neg U,if_neg U]
  ·intro i hn h;rcases(mY i).1 h with h|h
   ·omega
   ·exact h.2
 refine⟨⟨trivial,?_,?_,?_,?_,by have:=aq.mX;omega⟩,dO⟩
 ·intro i b h;by_cases hi:i=J.next
  ·subst hi;rw[hY] at h;cases h;exact⟨U,lV _⟩
  ·rw[jb m _ _ hi] at h;have:=aq.gi _ _ h;exact⟨U,gZ this.2⟩
 ·intro i b eb h hg hd;rw[hZ] at hg;by_cases hi:i=J.next
  ·subst hi;rw[hY] at h;cases h;rw[if_pos I] at hg;cases hg;obtain⟨iS,h1,h2⟩:=lY;exact⟨iS,h1,h2.mono dO.mono dO.size dO.bK (dO.tw aq)⟩
  ·rw[jb m _ _ hi] at h;rw[if_neg hi] at hg;by_cases he:i=id
   ·rw[if_pos he] at hg;cases hg;cases hd
   ·rw[if_neg he] at hg;obtain⟨iS,h1,h2⟩:=aq.obj i b eb h hg hd;have a7:b≠aD:=λe=>he (aq.inj i id aD (e▸h) hm ⟨eb,hg,hd⟩ hl);exact⟨iS,by rw[yx b a7];exact h1,h2.mono dO.mono dO.size dO.bK (dO.tw aq)⟩
 ·intro i gE b h h' a cH;by_cases hi:i=J.next
  ·by_cases dq:gE=J.next
   ·rw[hi,dq]
   ·subst hi;rw[hY] at h;cases h;rw[jb m _ _ dq] at h';have h3:=((mY gE).1 cH).resolve_left dq;exact absurd (aq.inj gE id aD h' hm h3.2 hl) h3.1
  ·rw[jb m _ _ hi] at h;have h2:=((mY i).1 a).resolve_left hi;by_cases dq:gE=J.next
   ·subst dq;rw[hY] at h';cases h';exact absurd (aq.inj i id aD h hm h2.2 hl) h2.1
   ·rw[jb m _ _ dq] at h';exact aq.inj i gE b h h' h2.2 (((mY gE).1 cH).resolve_left dq).2
 ·intro i b h;by_cases hi:i=J.next
  ·subst hi;rw[hY] at h;cases h;exact aq.base _ _ hm
  ·rw[jb m _ _ hi] at h;exact aq.base _ _ h
end
def UG(s:ByteArray):strOf (yt s)=s:=by
 unfold strOf yt;have:(s.data.toList.map (·.toNat)).map Nat.toUInt8=s.data.toList:=by
  rw[Ax];conv=>rhs;rw[<-List.map_id s.data.toList]
  apply mj;intro c _;simp
 rw[this]
def UH(s:ByteArray):∀c∈yt s,c<256:=by
 intro c ab;simp only[yt,ti] at ab;obtain⟨x,_,rfl⟩:=ab;exact x.toNat_lt
def yy{α β:Type}{f:α->Option β}:∀ {l:List α} {bf:List β},mapOL f l=some bf->bf.length=l.length/\∀i (h:i<l.length) (h':i<bf.length),f (l[i])=some (bf[i])
 |[],bf,h=>by simp[mapOL] at h;subst h;simp
 |x::xs,bf,h=>by
  rw[mapOL] at h;split at h
  ·rename_i y e2 hx dG;cases h;obtain⟨h1,h2⟩:=yy dG;refine⟨by simp[h1],λi hi dq=>?_⟩;cases i with
   |zero=>simpa using hx
   |succ i=>simpa using h2 i (by simpa using hi) (by simpa using dq)
  ·cases h
section
variable {P:Program}{w:World}{m:Nat->Option Nat}{O:Nat->Prop}{B:Nat}
def M4{v:Value}{x:AV}(h:ofLeaf v=some x):conf none x=true:=by
 unfold Lyc.ofLeaf at h;split at h<;>cases h<;>rfl
def ag.ofLeaf{v:Value}{x:AV}(h:ofLeaf v=some x):ag w m O B x v:=by
 unfold Lyc.ofLeaf at h;split at h<;>cases h
 ·exact .b _
 ·exact .i _ _
 ·rename_i s;have:=ag.s (w:=w) (m:=m) (O:=O) (B:=B) (yt s) (UH s);rwa[UG] at this
 ·exact .qQ
 ·exact .af
 ·exact .r1
 ·exact .eh
 ·exact .fP
def ag.ofValue{v:Value}{x:AV}(h:ofValue v=some x):ag w m O B x v:=by
 unfold Lyc.ofValue at h;split at h
 ·split at h
  ·rename_i l de hx;cases h;obtain⟨h1,h2⟩:=yy hx;refine .R (by rw[<-dD];exact h1.symm) (λi hi dq=>?_) (λx hx=>?_)
   ·have:=h2 i (by rw[dD];exact dq) hi;exact ag.ofLeaf (by simpa using this)
   ·obtain⟨i,hi,rfl⟩:=tj hx;exact M4 (h2 i U hi)
  ·cases h
 ·split at h
  ·rename_i hx;cases h;exact .it (ag.ofLeaf hx)
  ·cases h
 ·exact ag.ofLeaf h
def bQ.get{l:List AV}{bo:List Value}(h:bQ w m O B l bo){i:Nat}{v:AV}(au:l[i]? =some v):∃u,bo[i]? =some u/\ag w m O B v u:=by
 obtain⟨hi,rfl⟩:=jK.1 au;have dq:i<bo.length:=by rw[h.1];exact hi
 exact⟨bo[i],fw dq,h.2 i hi dq⟩
def bQ.nil:bQ w m O B [] []:=⟨rfl,λi h=>by simp at h⟩
def bQ.cons{x:AV}{u:Value}{l:List AV}{bo:List Value}(h:ag w m O B x u)(hl:bQ w m O B l bo):bQ w m O B (x::l) (u::bo):=
 ⟨by simp[hl.1],λi h1 h2=>by
  cases i with
  |zero=>exact h
  |succ i=>exact hl.2 i (by simpa using h1) (by simpa using h2)⟩
def bQ.append{l cu:List AV}{bo tx:List Value}(h:bQ w m O B l bo)(h':bQ w m O B cu tx):bQ w m O B (l++cu) (bo++tx):=by
 refine⟨by simp[h.1,h'.1],λi h1 h2=>?_⟩;by_cases hi:i<l.length
 ·rw[cM hi,cM (by rw[h.1];exact hi)];exact h.2 i hi _
 ·rw[iw U,iw (by rw[h.1];omega)];have:i-bo.length=i-l.length:=by rw[h.1]
  simp only[this];exact h'.2 _ _ (by have:=h'.1;have:=h.1;simp at h1 h2;omega)
def bQ.drop{l:List AV}{bo:List Value}(h:bQ w m O B l bo)(k:Nat):bQ w m O B (l.drop k) (bo.drop k):=
 ⟨by simp[h.1],λi h1 h2=>by rw[wE,wE];exact h.2 _ (by simp at h1;omega) (by simp at h2;omega)⟩
def bQ.take{l:List AV}{bo:List Value}(h:bQ w m O B l bo)(k:Nat):bQ w m O B (l.take k) (bo.take k):=
 ⟨by simp[h.1],λi h1 h2=>by rw[MH,MH];exact h.2 _ (by simp at h1;omega) (by simp at h2;omega)⟩
def ag.yz{l:List AV}{bo:List Value}(h:bQ w m O B l bo)(hf:∀x∈l,conf none x=true):ag w m O B (.R l) (.agg bo.toArray):=
 .R (by simp[h.1]) (λi h1 h2=>by simpa using h.2 i h1 (by simpa using h2)) hf
def ag.qR{l:List AV}{u:Value}(h:ag w m O B (.R l) u):∃bo:Array Value,u= .agg bo/\bQ w m O B l bo.toList/\∀x∈l,conf none x=true:=by
 cases h with
 |R ao aq hf=>exact⟨_,rfl,⟨by simpa using ao,λi h1 h2=>by simpa using aq i h1 (by simpa using h2)⟩,hf⟩
def ag.M5{l:List AV}{u:Value}(h:ag w m O B (.a0 l) u):∃bo:Array Value,u= .tuple bo/\bQ w m O B l bo.toList:=by
 cases h with
 |a0 ao aq=>exact⟨_,rfl,by simpa using ao,λi h1 h2=>by simpa using aq i h1 (by simpa using h2)⟩
def ag.u9{l:List AV}{bo:List Value}(h:bQ w m O B l bo):ag w m O B (.a0 l) (.tuple bo.toArray):=
 .a0 (by simp[h.1]) (λi h1 h2=>by simpa using h.2 i h1 (by simpa using h2))
def ag.undef:ag w m O B ei undef:=.a0 I (λi h=>by simp at h)
def ag.cells{v:AV}{u:Value}(h:ag w m O B v u):bQ w m O B v.cells u.cells.toList:=by
 have h0:=h;cases h with
 |R ao aq hf=>obtain⟨bo,hu,hl,_⟩:=ag.qR h0;cases hu;exact hl
 |y h=>rcases h.alt with⟨_,_,rfl⟩|⟨_,rfl⟩<;>exact bQ.cons h0 bQ.nil
 |gu hu h=>subst hu;exact bQ.cons h0 bQ.nil
 |_=>exact bQ.cons h0 bQ.nil
theorem ag.leafs{v:AV}{u:Value}{aa:Option Nat}(h:ag w m O B v u)(ab:conf aa v=true):∀x∈v.cells,conf none x=true:=by
 cases h with
 |R ao aq hf=>exact hf
 |a0 ao aq=>cases aa<;>simp[conf] at ab
 |_=>intro x hx;simp only[AV.cells,uT] at hx;subst hx;rfl
def ag.UI{v:AV}{u:Value}(h:ag w m O B v u)(au:conf none v=true):u.oneCell'=true:=by
 cases h with
 |y h=>rcases h.alt with⟨_,_,rfl⟩|⟨_,rfl⟩<;>rfl
 |gu hu h=>subst hu;rfl
 |_=>first|rfl|(simp[conf] at au)
def lz{t:TypeId}{aa:Option Nat}(h:shapeOf P t=some aa)(w:World):
  (isAgg t).run P w= .ok aa.isSome w/\(sizeOf t).run P w= .ok (shN aa) w/\∃i,P.info? t=some i/\i.size=shN aa:=by
 unfold shapeOf at h;split at h<;>try (cases h;done)
 ·rename_i a8 i hu hi;cases h;exact⟨by simp[isAgg,run_underlying hu],by simp[sizeOf,typeInfo,hi,shN],i,hi,rfl⟩
 ·rename_i n e i hu hi;cases h;exact⟨by simp[isAgg,run_underlying hu],by simp[sizeOf,typeInfo,hi,shN],i,hi,rfl⟩
 ·rename_i d i h1 h2 hu hi;split at h
  ·rename_i ao;cases h;refine⟨?_,by simp[sizeOf,typeInfo,hi,shN,ao],i,hi,by simp[shN,ao]⟩;simp only[isAgg,cB,run_underlying hu,e7];cases d<;>first|rfl|(exfalso;first|exact h1 _ rfl|exact h2 _ _ I)
  ·cases h
def lB(b o k:Nat):(⟨b,o,none⟩:Addr).add k=⟨b,o+k,none⟩:=by
 unfold Addr.add;split
 ·rename_i h;subst h;rfl
 ·rfl
def Hw{c:List AV}{v:AV}(h:dV none c=some v):∃r,c=v::r:=by
 cases c with
 |nil=>simp[dV] at h
 |cons x r=>simp[dV] at h;subst h;exact⟨r,rfl⟩
def Hx{n:Nat}{c:List AV}{v:AV}(h:dV (some n) c=some v):v= .R (c.take n)/\n<=c.length:=by
 simp only[dV] at h;split at h
 ·rename_i hl;cases h;refine⟨rfl,?_⟩;rw[fe] at hl;omega
 ·cases h
def UJ{t:TypeId}{aa:Option Nat}(iA:shapeOf P t=some aa){b off:Nat}{bo:List Value}{c:List AV}(ab:bQ w m O B c bo)
  (hw:∀j,j<bo.length->w.cell? ⟨b,off+j,none⟩=bo[j]?) {v:AV} (au:dV aa c=some v) (hf:∀x∈c,conf none x=true):
  ∃u,(loadVar t ⟨b,off,none⟩).run P w= .ok u w/\ag w m O B v u:=by
 obtain⟨h1,h2,_⟩:=lz iA w;cases aa with
 |none=>
  obtain⟨r,rfl⟩:=Hw au;obtain⟨u,hu,aq⟩:=ab.get (i:=0) (v:=v) I;have:=hw 0 (by rw[ab.1];simp);rw[g5,hu] at this;exact⟨u,by simp[loadVar,h1,this],aq⟩
 |some n=>
  obtain⟨rfl,hn⟩:=Hx au;have hlen:(bo.take n).length=n:=by rw[fe,ab.1];omega
  have hl:=run_loadCells_list (P:=P) w ⟨b,off,none⟩ (bo.take n) (λj x hx=>by
   rw[lB];obtain⟨ax,eo⟩:=jK.1 hx;rw[hw j (by rw[fe] at ax;omega)];rw[MH] at eo;rw[<-eo];exact fw _)
  rw[hlen] at hl;refine⟨.agg (bo.take n).toArray,by simp[loadVar,h1,h2,shN,hl],ag.yz (ab.take n) (λx hx=>hf x (uU hx))⟩
end
section
variable {P:Program}{J:ae}{w:World}{m:Nat->Option Nat}{B:Nat}
def Rel.cells(aq:Rel P J w m B){id aD:Nat}{c:List AV}(hm:m id=some aD)(hg:J.get id=some (.cells c)):
  ∃arr el bp,w.heap[aD]? =some (.cells arr el bp)/\bQ w m (bq J m) B c (arr.toList.take c.length)/\c.length<=arr.size/\(∀i,i<arr.size->(decide (bp.1<=i)&&decide (i<bp.2))=false)/\∀x∈c,conf none x=true:=by
 obtain⟨bX,h1,h2⟩:=aq.obj id aD _ hm hg I;cases h2 with
 | @cells _ arr el bp hl iT a6 hf=>
  refine⟨arr,el,bp,h1,⟨by simp;omega,λi h3 aO=>?_⟩,hl,a6,hf⟩;simpa using iT i h3 U
def AJ{b:Nat}{arr:Array Value}{el:TypeId}{bp:Nat×Nat}(h:w.heap[b]? =some (.cells arr el bp))(i:Nat):w.cell? ⟨b,i,none⟩=arr[i]? :=by
 simp[World.cell?,h]
def M6{b:Nat}{arr:Array Value}{el:TypeId}{bp:Nat×Nat}(h:w.heap[b]? =some (.cells arr el bp))(i:Nat):w.frozen? ⟨b,i,none⟩=(decide (bp.1<=i)&&decide (i<bp.2)):=by
 simp[World.frozen?,h]
def UK(aq:Rel P J w m B){t:TypeId}{aa:Option Nat}(iA:shapeOf P t=some aa){id off aD:Nat}{c:List AV}{v:AV}(hm:m id=some aD)(hg:J.get id=some (.cells c))(au:dV aa (c.drop off)=some v):
  ∃u,(loadVar t ⟨aD,off,none⟩).run P w= .ok u w/\ag w m (bq J m) B v u:=by
 obtain⟨arr,el,bp,h1,h2,h3,_,hf⟩:=aq.cells hm hg;refine UJ iA (h2.drop off) (λj ax=>?_) au (λx hx=>hf x (pK hx));rw[AJ h1];simp only[List.length_drop,fe,dD] at ax;rw[oR,tk U];simp
def a9K{O:Nat->Prop}{t:TypeId}{aa:Option Nat}(iA:shapeOf P t=some aa){old:Bool}{v:AV}{u:Value}(h:ag w m O B (.dh old v) u)(au:conf aa v=true):
  ∃a cj,u= .pointer (some a)/\(loadVar t a).run P w= .ok cj w/\ag w m O B v cj:=by
 cases h with
 | @dh _ _ _ _ _ aD off bf ch hb ca ab iT hf=>
  have hl:bQ w m O B v.cells ((List.range v.cells.length).map bf):=⟨aF,λi h1 h2=>by simpa using (iT i h1).up⟩
  have ht:dV aa v.cells=some v:=by
   cases aa with
   |none=>cases v<;>first|rfl|(simp[conf] at au)
   |some n=>
    cases v<;>simp[conf] at au;rename_i l;subst au;simp[dV,AV.cells]
  obtain⟨cj,h1,h2⟩:=UJ (t:=t) iA (b:=aD) (off:=off) hl (λj ax=>by
   simp only[uV,b7] at ax;rw[ab j ax];simp[ax]) ht hf
  exact⟨_,cj,rfl,h1,h2⟩
def Di{c bD:List AV}{off:Nat}{v:List AV}(h:storeCells c off v=some bD):off+v.length<=c.length/\bD=c.take off++(v++c.drop (off+v.length)):=by
 unfold Lyc.storeCells at h;split at h
 ·rename_i hb;cases h;exact⟨pL hb,rfl⟩
 ·cases h
def M7(aq:Rel P J w m B){f id off aD:Nat}{c bD:List AV}{bo:List AV}{us:List Value}(hf:f<=id)(hm:m id=some aD)(hg:J.get id=some (.cells c))
  (ao:Lyc.storeCells c off bo=some bD) (n2:bQ w m (bq J m) B bo us) (kH:∀x∈bo,conf none x=true):
  ∃av,(Go.storeCells ⟨aD,off,none⟩ us).run P w= .ok () av/\Rel P (J.set id (.cells bD)) av m B/\Ext f J w m (J.set id (.cells bD)) av m:=by
 obtain⟨hle,rfl⟩:=Di ao;obtain⟨arr,el,bp,hh,ab,r4,a6,kZ⟩:=aq.cells hm hg;have hlen:us.length=bo.length:=n2.1;have h1:∀u∈us,u.oneCell'=true:=λu hu=>by
  obtain⟨i,hi,rfl⟩:=tj hu;exact(n2.2 i U hi).UI (kH _ (gC _))
 have cf:=run_storeCells_cells (P:=P) aD off us 0 w
  (λj ax=>by rw[AJ hh,b9 U];rfl)
  (λj ax=>by rw[M6 hh];exact a6 _ U) h1
 obtain⟨h4,kl,o1,u_⟩:=M1 us w aD (off+0);have yA:=M0 us w aD (off+0) arr el bp hh;refine⟨_,cf,aq.dd hf hm ⟨_,hg,rfl⟩ _ (.cells _) h4 (λb hb=>heap_setCells_other us w aD _ b hb) ?_ kl o1 u_ (λ_=>⟨_,yA,?_⟩)⟩
 ·intro n hn;unfold eK at hn ⊢;rw[hh] at hn;rw[yA];simpa [yw] using hn
 ·have hZ:∀i,(wr arr (off+0) us)[i]? =if off<=i/\i<off+us.length then us[i-off]? else arr[i]? :=λi=>by
   have:=Hv us arr (off+0) i U;simpa using this
  have mq:(c.take off++(bo++c.drop (off+bo.length))).length=c.length:=by simp;omega
  refine .cells (by rw[yw,mq];exact r4) (λi h h'=>?_) (by rw[yw];exact a6) (λx hx=>by
    rcases tl.1 hx with hx|hx
    ·exact kZ x (uU hx)
    ·rcases tl.1 hx with hx|hx
     ·exact kH x hx
     ·exact kZ x (pK hx))
  rw[mq] at h;have hi:=hZ i;rw[b9 h'] at hi;have hL:(c.take off++(bo++c.drop (off+bo.length)))[i]? =if off<=i/\i<off+us.length then bo[i-off]? else c[i]? :=by
   rw[fi];simp only[fe];by_cases bI:i<off
   ·rw[if_pos U,if_neg U,tk bI]
   ·rw[if_neg U,fi];by_cases cx:i-min off c.length<bo.length
    ·rw[if_pos cx,if_pos U,show min off c.length=off by omega]
    ·rw[if_neg cx,if_neg U,oR]
     congr 1;omega
  have Dj:(c.take off++(bo++c.drop (off+bo.length)))[i]? =some ((c.take off++(bo++c.drop (off+bo.length)))[i]'(by rw[mq];exact h)):=fw _;rw[hL] at Dj;by_cases dI:off<=i/\i<off+us.length
  ·rw[if_pos dI] at Dj hi;obtain⟨u,hu,j4⟩:=n2.get Dj;rw[hu] at hi;cases hi;exact j4
  ·rw[if_neg dI] at Dj hi;obtain⟨u,hu,j4⟩:=ab.get Dj;rw[tk h] at hu;have:arr[i]? =some u:=by simpa using hu
   rw[this] at hi;cases hi;exact j4
end
def fF(P:Program)(B f:Nat)(J:ae)(w:World)(m:Nat->Option Nat)(v:AV)(ai:ae)(r:Result Next):Prop:=
 ∃u av aT,(r= .ok (.value u) av\/(r= .ok .skip av/\u=undef))/\ag av aT (bq ai aT) B v u/\Rel P ai av aT B/\Ext f J w m ai av aT
section
variable {P:Program}{J:ae}{w:World}{m:Nat->Option Nat}{B:Nat}{f:Nat}
def fF.pure{v:AV}{u:Value}{r:Result Next}(aq:Rel P J w m B)(h:r= .ok (.value u) w)(au:ag w m (bq J m) B v u):fF P B f J w m v J r:=
 ⟨u,w,m,.inl h,au,aq,Ext.refl _ _ _ _⟩
def Globs(env:Env)(w:World)(B:Nat):Prop:=
 ∀g v,env.mm g=some v->∀eL,ag w (λ_=>none) (λb=>B<=b) eL (.dh true v) (.pointer (some ⟨g,0,none⟩))
def Globs.get{env:Env}{O:Nat->Prop}(h:Globs env w B)(ch:∀b,O b->B<=b){g:Nat}{v:AV}(hg:env.mm g=some v):ag w m O B (.dh true v) (.pointer (some ⟨g,0,none⟩)):=
 (h g v hg B).mono (λ_ _ h=>by cases h) (bs _) (λ_ _ h=>h) (λb _ hb=>⟨rfl,λho=>hb (ch b ho)⟩)
def M8{env:Env}{O:Nat->Prop}(ch:∀b,O b->B<=b)(cW:Globs env w B){al:a1 AV}{a:Act}(ao:ja w m O B al a.tmps.toList){x:Operand}{bS:aJ}(hx:opdOf x=some bS){v:AV}(au:evalA env al bS=some v):
  ag w m O B v (a.eval x):=by
 cases x with
 |tmp t=>
  cases hx;obtain⟨u,hu,aq⟩:=ao.1 t v au;have:a.eval (.tmp t)=u:=by
   simp only[Act.eval];rw[C0] at hu;simp[hu]
  rw[this];exact aq
 |const c=>
  simp only[opdOf] at hx;split at hx<;>cases hx;rename_i bR ab;simp only[evalA,cL] at au;subst au;exact ag.ofValue ab
 |func g=>
  cases hx;simp only[evalA,cL] at au;subst au;exact .cO I (λi h=>by simp at h) I (λi h=>by simp at h)
 |_=>
  cases hx;simp only[evalA] at au;split at au<;>cases au;rename_i bR hg;exact cW.get ch hg
def Dk{env:Env}{O:Nat->Prop}(ch:∀b,O b->B<=b)(cW:Globs env w B){al:a1 AV}{a:Act}(ao:ja w m O B al a.tmps.toList){xs:List Operand}{bS:List aJ}(hx:yu xs=some bS){bo:List AV}(au:mapO (evalA env al) bS=some bo):
  bQ w m O B bo (xs.map a.eval):=by
 obtain⟨h1,h2⟩:=yy hx;obtain⟨h3,aO⟩:=o0 au;refine⟨by simp[h1,h3],λi hi dq=>?_⟩;simp only[mQ];have r5:i<bS.length:=by omega
 have a9L:i<xs.length:=by omega
 exact M8 ch cW ao (h2 i a9L r5) (aO i r5 hi)
def a9M(aq:Rel P J w m B){t:TypeId}{aa:Option Nat}(iA:shapeOf P t=some aa){yB v:AV}{u:Value}(aw:ag w m (bq J m) B yB u)
  (h:rY J aa yB=some v):∃cj,(Instr.loadAt t u).run P w= .ok cj w/\ag w m (bq J m) B v cj:=by
 unfold rY at h;cases aw with
 | @p _ _ _ id aD off hm=>
  simp only at h;cases hg:J.get id with
  |none=>simp[hg] at h
  |some o=>
   cases o<;>simp only[hg] at h<;>try (cases h;done)
   obtain⟨cj,h1,h2⟩:=UK aq iA hm hg h;exact⟨cj,by simp[Instr.loadAt,Instr.sureAddr,h1],h2⟩
 |dh bf ch hb ca ab iT hf=>
  simp only at h;split at h
  ·rename_i au;cases h;obtain⟨a,cj,ha,h1,h2⟩:=a9K (O:=bq J m) iA (.dh bf ch hb ca ab iT hf) au;cases ha;exact⟨cj,by simp[Instr.loadAt,Instr.sureAddr,h1],h2⟩
  ·cases h
 |_=>simp at h
def a9N{aa:Option Nat}{v:AV}{u:Value}{O:Nat->Prop}(au:ag w m O B v u)(ab:conf aa v=true):u.cells.size=shN aa/\v.cells.length=shN aa:=by
 have h:=au.cells.1;cases aa with
 |none=>cases v<;>simp[conf,AV.cells,shN] at ab h ⊢ <;>exact h
 |some n=>cases v<;>simp[conf,AV.cells,shN] at ab h ⊢;omega
def a9O(aq:Rel P J w m B){t:TypeId}{aa:Option Nat}(iA:shapeOf P t=some aa){id off aD:Nat}{c bD:List AV}{x:AV}{u:Value}(hf:f<=id)(hm:m id=some aD)(hg:J.get id=some (.cells c))(ab:conf aa x=true)
  (ao:Lyc.storeCells c off x.cells=some bD) (hx:ag w m (bq J m) B x u):
  ∃av,(Instr.storeAt t (.pointer (some ⟨aD,off,none⟩)) u).run P w= .ok () av/\Rel P (J.set id (.cells bD)) av m B/\Ext f J w m (J.set id (.cells bD)) av m:=by
 obtain⟨av,h2,h3,aO⟩:=M7 aq hf hm hg ao hx.cells (hx.leafs ab);obtain⟨_,cz,_⟩:=lz iA w;refine⟨av,?_,h3,aO⟩;simp only[Instr.storeAt,Instr.sureAddr,cB,fX,e7,storeVar,cz,(a9N hx ab).1,ne_eq,not_true_eq_false,if_false];exact h2
def Hy(aq:Rel P J w m B)(f:Nat){el:TypeId}{c:List AV}{cs:Array Value}(ab:bQ w m (bq J m) B c cs.toList)(hf:∀x∈c,conf none x=true):
  ∃av aT,(newRow el cs).run P w= .ok ⟨w.heap.size,0,none⟩ av/\aT J.next=some w.heap.size/\av.heap[w.heap.size]? =some (.cells cs el (0,0))/\Rel P (J.push (.cells c)) av aT B/\Ext f J w m (J.push (.cells c)) av aT:=by
 obtain⟨h1,h2⟩:=aq.alloc f {w with heap:=w.heap.push (.cells cs el)} (.cells c) (.cells cs el) I I I I I
  (.cells (by have:=ab.1;simp at this;omega) (λi h h'=>by have:=ab.2 i h (by simpa using h');simpa using this) (λi _=>by simp) hf)
 exact⟨_,_,by simp[newRow],hY _ _ _,aF,h1,h2⟩
def a9P(aq:Rel P J w m B){el:TypeId}{x:AV}{u:Value}(hx:ag w m (bq J m) B x u)(hf:∀y∈x.cells,conf none y=true):
  ∃cj av aT,(Instr.box el u).run P w= .ok cj av/\ag av aT (bq (J.push (.cells x.cells)) aT) B (j2 J.next 0) cj/\Rel P (J.push (.cells x.cells)) av aT B/\Ext f J w m (J.push (.cells x.cells)) av aT:=by
 obtain⟨av,aT,h1,h2,_,h3,aO⟩:=Hy aq f (el:=el) hx.cells hf;exact⟨_,av,aT,by simp[Instr.box,newVar,h1],.p h2,h3,aO⟩
def a9Q{v:Value}{x:AV}(h:ofValue v=some x):∀y∈x.cells,conf none y=true:=by
 unfold Lyc.ofValue at h;split at h
 ·split at h
  ·rename_i l de hx;cases h;intro y hy;obtain⟨i,hi,rfl⟩:=tj hy;exact M4 ((yy hx).2 i (by have:=(yy hx).1;simp only[AV.cells] at hi;omega) hi)
  ·cases h
 ·split at h
  ·cases h;intro y hy;simp only[AV.cells,uT] at hy;subst hy;rfl
  ·cases h
 ·have ab:=M4 h;cases x<;>first|(intro y hy;simp only[AV.cells,uT] at hy;subst hy;exact ab)|(simp[conf] at ab)
def r6{t:TypeId}{z:AV}(h:zeroOf P t=some z)(w:World):∃u,(zeroValue t).run P w= .ok u w/\(∀w m O B,ag w m O B z u)/\∀y∈z.cells,conf none y=true:=by
 unfold zeroOf at h;split at h<;>try (cases h;done)
 rename_i i hi;split at h<;>try (cases h;done)
 rename_i v au;exact⟨v,by simp[zeroValue,typeInfo,hi,au],λw m O B=>ag.ofValue h,a9Q h⟩
def a9R(aq:Rel P J w m B){t:TypeId}{z:AV}(a6:zeroOf P t=some z):
  ∃cj av aT,(Instr.alloc t true (.tuple #[])).run P w= .ok cj av/\ag av aT (bq (J.push (.cells z.cells)) aT) B (j2 J.next 0) cj/\Rel P (J.push (.cells z.cells)) av aT B/\Ext f J w m (J.push (.cells z.cells)) av aT:=by
 obtain⟨u,h1,h2,hf⟩:=r6 a6 w;obtain⟨av,aT,h3,aO,_,bI,cx⟩:=Hy aq f (el:=t) (h2 w m (bq J m) B).cells hf;exact⟨_,av,aT,by simp[Instr.alloc,h1,newVar,h3],.p aO,bI,cx⟩
def UL(k:IntKind)(n:Int):wrapN k n=k.wrap n:=by
 unfold wrapN;split
 ·rename_i x;cases h:Nat.blt x 9223372036854775808 with
  |false=>rfl
  |true=>
   have hx:x<9223372036854775808:=by simpa [MD] using h
   show Int.ofNat x=IntKind.i64.wrap (Int.ofNat x);have:(Int.ofNat x:Int)=(x:Int):=rfl;rw[this];have e:(x:Int)%2^64=x:=iH U U;simp only[IntKind.wrap,IntKind.bits,IntKind.signed,e];rw[if_neg (by simp;omega)]
 ·rfl
end
section
variable {P:Program}{w:World}{m:Nat->Option Nat}{O:Nat->Prop}{B:Nat}
def Dl{v:AV}{n:Nat}(h:natOf v=some n):∃k,v= .i k (Int.ofNat n):=by
 unfold natOf at h;split at h<;>cases h;exact⟨_,rfl⟩
def UM{a b:Nat}(ha:a<256)(hb:b<256)(h:a.toUInt8=b.toUInt8):a=b:=by
 have:=congrArg UInt8.toNat h;simp at this;omega
def UN{a b:Nat}(ha:a<256)(hb:b<256):a.toUInt8<b.toUInt8↔a<b:=by
 rw[MI];simp;omega
def UO(l:List Nat):(strOf l).data.toList=l.map Nat.toUInt8:=by simp[strOf]
def AK(l:List Nat):(strOf l).toList=l.map Nat.toUInt8:=by
 rw[Go.ByteArray.toList_eq,UO]
def wJ(l:List Nat):(strOf l).size=l.length:=by
 show(strOf l).data.size=_;simp[strOf]
def o2:∀(x y:List Nat),eqL x y=true↔x=y
 |[],[]=>by simp[eqL]
 |[],_::_=>by simp[eqL]
 |_::_,[]=>by simp[eqL]
 |a::x,b::y=>by
  show(cond (Nat.beq a b) (eqL x y) false)=true↔_;cases h:Nat.beq a b with
  |false=>
   simp only[cond_false,T8,false_iff,rT,not_and];intro e;subst e;simp[gQ] at h
  |true=>
   have:a=b:=gb h;subst this;simp[o2 x y]
def M9:∀(x y:List Nat),(∀c∈x,c<256)->(∀c∈y,c<256)->x.map Nat.toUInt8=y.map Nat.toUInt8->x=y
 |[],[],_,_,_=>rfl
 |[],_::_,_,_,h=>by simp at h
 |_::_,[],_,_,h=>by simp at h
 |a::x,b::y,hx,hy,h=>by
  simp only[uW,rT] at h;rw[UM (hx a aF) (hy b aF) h.1,M9 x y (λc ab=>hx c (by simp[ab])) (λc ab=>hy c (by simp[ab])) h.2]
def a9S{x y:List Nat}(hx:∀c∈x,c<256)(hy:∀c∈y,c<256):((strOf x).toList==(strOf y).toList)=eqL x y:=by
 rw[oS,o2,beq_iff_eq,AK,AK];exact⟨M9 x y hx hy,λh=>by rw[h]⟩
def UP:∀(x y:List Nat),(∀c∈x,c<256)->(∀c∈y,c<256)->Op.bytesLess (x.map Nat.toUInt8) (y.map Nat.toUInt8)=ix x y
 |[],[],_,_=>rfl
 |[],_::_,_,_=>rfl
 |_::_,[],_,_=>rfl
 |a::x,b::y,hx,hy=>by
  have ha:=hx a aF;have hb:=hy b aF;have aH:=UP x y (λc ab=>hx c (by simp[ab])) (λc ab=>hy c (by simp[ab]));show(decide (a.toUInt8<b.toUInt8)||(a.toUInt8==b.toUInt8&&Op.bytesLess (x.map Nat.toUInt8) (y.map Nat.toUInt8)))=cond (Nat.blt a b) true (cond (Nat.beq a b) (ix x y) false);rw[aH];by_cases h:a<b
  ·have h1:Nat.blt a b=true:=by simpa [MD] using h
   have h2:=(UN ha hb).2 h;simp[h1,h2]
  ·have h1:Nat.blt a b=false:=by
    cases h3:Nat.blt a b
    ·rfl
    ·exact absurd (by simpa [MD] using h3) h
   have h2:¬a.toUInt8<b.toUInt8:=λaO=>h ((UN ha hb).1 aO);by_cases he:a=b
   ·subst he;simp[h1]
   ·have aO:Nat.beq a b=false:=by
     cases bI:Nat.beq a b
     ·rfl
     ·exact absurd (gb bI) he
    have bI:¬a.toUInt8=b.toUInt8:=λcx=>he (UM ha hb cx);simp[h1,h2,aO,bI]
def ag.pR{l:List Nat}{u:Value}(h:ag w m O B (.s l) u):u= .string (strOf l)/\∀c∈l,c<256:=by
 cases h with
 |s _ h=>exact⟨rfl,h⟩
def ag.mr{k:IntKind}{n:Int}{u:Value}(h:ag w m O B (.i k n) u):u= .int k n:=by cases h;rfl
def ag.wK{x:Bool}{u:Value}(h:ag w m O B (.b x) u):u= .bool x:=by cases h;rfl
def ag.wL{id off:Nat}{u:Value}(h:ag w m O B (.p (some (id,off))) u):∃aD,m id=some aD/\u= .pointer (some ⟨aD,off,none⟩):=by
 cases h with
 |p h=>exact⟨_,h,rfl⟩
def ag.Hz{id:Nat}{u:Value}(h:ag w m O B (.m (some id)) u):∃aD,m id=some aD/\u= .map (some aD):=by
 cases h with
 |mp h=>exact⟨_,h,rfl⟩
def a9T(x y:List Nat):strOf x++strOf y=strOf (x++y):=by
 apply ByteArray.ext;rw[ByteArray.data_append];simp[strOf]
def UQ:∀(x y:List Nat),ix y x=false->ix x y=true\/eqL x y=true
 |[],[],_=>.inr I
 |[],_::_,_=>.inl I
 |_::_,[],h=>by simp[ix] at h
 |a::x,b::y,h=>by
  have h':cond (Nat.blt b a) true (cond (Nat.beq b a) (ix y x) false)=false:=h;show cond (Nat.blt a b) true (cond (Nat.beq a b) (ix x y) false)=true\/cond (Nat.beq a b) (eqL x y) false=true;have a9U:¬b<a:=λh1=>by
   have:Nat.blt b a=true:=by simpa [MD] using h1
   simp[this] at h'
  have lC:Nat.blt b a=false:=by
   cases h3:Nat.blt b a
   ·rfl
   ·exact absurd (by simpa [MD] using h3) a9U
  rw[lC] at h';by_cases he:a=b
  ·subst he;simp only[gQ,cond_true,cond_false] at h' ⊢;rcases UQ x y h' with h1|h1
   ·left;rw[h1];simp
   ·right;exact h1
  ·left;have:Nat.blt a b=true:=by simp[MD];omega
   rw[this];rfl
def UR:∀(x y:List Nat),ix x y=true->ix y x=false/\eqL x y=false
 |[],[],h=>by simp[ix] at h
 |[],_::_,_=>⟨rfl,rfl⟩
 |_::_,[],h=>by simp[ix] at h
 |a::x,b::y,h=>by
  have h':cond (Nat.blt a b) true (cond (Nat.beq a b) (ix x y) false)=true:=h;show cond (Nat.blt b a) true (cond (Nat.beq b a) (ix y x) false)=false/\cond (Nat.beq a b) (eqL x y) false=false;by_cases hl:a<b
  ·have h1:Nat.blt b a=false:=by
    cases h3:Nat.blt b a
    ·rfl
    ·have:b<a:=by simpa [MD] using h3
     omega
   have h2:Nat.beq b a=false:=by
    cases h3:Nat.beq b a
    ·rfl
    ·have:=gb h3;omega
   have aO:Nat.beq a b=false:=by
    cases h3:Nat.beq a b
    ·rfl
    ·have:=gb h3;omega
   simp[h1,h2,aO]
  ·have h1:Nat.blt a b=false:=by
    cases h3:Nat.blt a b
    ·rfl
    ·exact absurd (by simpa [MD] using h3) hl
   rw[h1] at h';cases h2:Nat.beq a b with
   |false=>rw[h2] at h';simp at h'
   |true=>
    rw[h2] at h';have:=gb h2;subst this;simp only[cond_false,cond_true] at h';obtain⟨h3,aO⟩:=UR x y h';simp[h1,gQ,h3,aO]
def US(a:List Nat):∀(ex:List (List Nat)),qM a ex=true->a∈ex
 |[],h=>by cases h
 |x::ex,h=>by
  have h:cond (eqL a x) true (qM a ex)=true:=h;cases hx:eqL a x with
  |true=>rw[(o2 a x).1 hx];exact tm
  |false=>rw[hx] at h;exact C1 _ (US a ex h)
def HC{ex:List (List Nat)}{a:List Nat}{u:Value}(h:ag w m O B (.ic ex) u)(hm:qM a ex=true):∃s:ByteArray,u= .string s/\s≠strOf a:=by
 cases h with
 |ic h=>exact⟨_,rfl,h a (US a ex hm)⟩
def UT{a b:ByteArray}(h:a≠b):¬a.toList=b.toList:=λe=>h (by
 rw[iQ,iQ] at e;cases a;cases b;simp only[ByteArray.mk.injEq];exact T9 e)
def UU{a b:ByteArray}(h:a≠b):(a==b)=false:=by
 cases hb:a==b with
 |false=>rfl
 |true=>exact absurd ((ns _ _).1 hb) h
def UW{k:IntKind}(ay:k= .u8\/k= .i64){n:Nat}(h:n<256):k.wrap (Int.ofNat n)=Int.ofNat n:=by
 rcases ay with rfl|rfl
 ·have:(Int.ofNat n)%2^8=Int.ofNat n:=iH (T_ _) (by show((n:Nat):Int)<2^8;omega);simp only[IntKind.wrap,IntKind.bits,IntKind.signed,this];simp
 ·have:(Int.ofNat n)%2^64=Int.ofNat n:=iH (T_ _) (by show((n:Nat):Int)<2^64;omega);have h2:¬(2^63:Int)<=(Int.ofNat n):=by show ¬(2^63:Int)<=((n:Nat):Int);omega
  simp only[IntKind.wrap,IntKind.bits,IntKind.signed,this];simp at h2 ⊢;omega
def UX{op:BinOp}{t:TypeId}{x y v:AV}{a b:Value}(ha:ag w m O B x a)(hb:ag w m O B y b)(h:binop op x y=some v)(tz:∀hi,x≠ .iI hi):
  ∃u,(do eqGuard op t (.tmp 0) (.tmp 0) a b;Go.binOp op t a b:Sem Value).run P w= .ok u w/\ag w m O B v u/\∀de ey,(do eqGuard op t de ey a b;Go.binOp op t a b:Sem Value)=(do eqGuard op t (.tmp 0) (.tmp 0) a b;Go.binOp op t a b:Sem Value):=by
 unfold binop at h;split at h
 ·rename_i k n l q;obtain rfl:=ha.mr;obtain rfl:=hb.mr;have hg:∀de ey,eqGuard op t de ey (.int k n) (.int l q)=pure ():=λde ey=>by unfold eqGuard;cases op<;>rfl
  simp only[hg];refine(λ⟨u,h1,h2⟩=>⟨u,h1,h2,λ_ _=>trivial⟩:(∃u,(do pure ();Go.binOp op t (.int k n) (.int l q):Sem Value).run P w= .ok u w/\ag w m O B v u)->_) ?_;split at h
  ·split at h<;>cases h;rename_i aV;exact⟨_,by simp[Go.binOp,Op.shift,aV],.i _ _⟩
  ·split at h<;>cases h;rename_i aV;exact⟨_,by simp[Go.binOp,Op.shift,aV],.i _ _⟩
  ·rename_i h1 h2;split at h
   ·rename_i mu;subst mu;have iU:(n==q)=decide (n=q):=by rw[oS];simp
    have HD:(n != q)= !decide (n=q):=by rw[oS];simp
    cases op<;>first
     |exact absurd I h1
     |exact absurd I h2
     |(
       simp only[binI] at h
       first
       |(
         cases h
         first
         |(refine⟨_,?_,ag.i _ _⟩;simp[Go.binOp,Op.intArith,UL];done)
         |(refine⟨_,?_,ag.b _⟩;simp[Go.binOp,Op.intCmp,iU,HD];done)
         |(refine⟨_,?_,ag.b _⟩;simp only[Go.binOp,Op.intCmp,ne_eq,not_true_eq_false,if_false,cB,fX,e7];congr 2;rw[oS];simp;done))
       |(split at h<;>cases h;rename_i aV;refine⟨_,?_,ag.i _ _⟩;simp[Go.binOp,Op.intDiv,aV];done)
       |(unfold Uk at h;dsimp only at h;cases h;refine⟨_,?_,ag.i _ _⟩;simp[Go.binOp,Op.intBits];done))
   ·cases h
 ·rename_i s1 s2;obtain⟨rfl,h1⟩:=ha.pR;obtain⟨rfl,h2⟩:=hb.pR;have hg:∀de ey,eqGuard op t de ey (.string (strOf s1)) (.string (strOf s2))=pure ():=λde ey=>by unfold eqGuard;cases op<;>rfl
  simp only[hg];refine(λ⟨u,h1,h2⟩=>⟨u,h1,h2,λ_ _=>trivial⟩:(∃u,(do pure ();Go.binOp op t (.string (strOf s1)) (.string (strOf s2)):Sem Value).run P w= .ok u w/\ag w m O B v u)->_) ?_;have aL:=a9S h1 h2;have a5:Op.bytesLess (strOf s1).toList (strOf s2).toList=ix s1 s2:=by rw[AK,AK];exact UP s1 s2 h1 h2
  have cy:(ix s1 s2||eqL s1 s2)= !ix s2 s1:=by
   cases h3:ix s2 s1 with
   |true=>
    have:=UR s2 s1 h3;have bI:eqL s1 s2=false:=by
     cases cx:eqL s1 s2 with
     |false=>rfl
     |true=>
      have:=(o2 s1 s2).1 cx;subst this;exact absurd ((o2 s1 s1).2 I) (by rw[this.2];simp)
    simp[this.1,bI]
   |false=>rcases UQ s1 s2 h3 with aO|aO<;>simp[aO]
  have iB:(!ix s1 s2&& !eqL s1 s2)=ix s2 s1:=by
   have:=congrArg Bool.not cy;simpa using this
  cases op<;>simp only[binS] at h<;>first
   |(cases h;done)
   |(
     split at h<;>cases h;rename_i cz;have c7E:s1.length+s2.length<4611686018427387904:=by simpa [MD] using cz
     refine⟨_,?_,.s _ (λc ab=>(tl.1 ab).elim (h1 c) (h2 c))⟩;simp only[Go.binOp,Op.stringOp,wJ,cB,fX,e7];rw[if_neg (by simp only[IntKind.max,IntKind.signed,IntKind.bits,if_true];omega),a9T];rfl)
   |(cases h;refine⟨_,?_,ag.b _⟩;simp[Go.binOp,Op.stringOp,aL,a5,cy,iB];done)
 ·-- a byte of Ui is known Hf it leaves
  rename_i cI d j aA c;split at h<;>try (cases h;done)
  rename_i mu;subst mu;cases ha with
  | @hv _ _ _ _ _ _ n hn hlt=>
  obtain rfl:=hb.mr;have hg:∀de ey,eqGuard op t de ey (.int cI (Int.ofNat n)) (.int cI (Int.ofNat c))=pure ():=λde ey=>by unfold eqGuard;cases op<;>rfl
  simp only[hg];refine(λ⟨u,h1,h2⟩=>⟨u,h1,h2,λ_ _=>trivial⟩:(∃u,(do pure ();Go.binOp op t (.int cI (Int.ofNat n)) (.int cI (Int.ofNat c)):Sem Value).run P w= .ok u w/\ag w m O B v u)->_) ?_;unfold umOp at h;cases ab:(Nat.blt 0 c&&(Nat.beq (d%c) 0&&(decide (cI= .u8)||decide (cI= .i64)))) with
  |false=>rw[ab] at h;cases h
  |true=>
   rw[ab,cond_true] at h;simp only[C2,dA,MD,tn,decide_eq_true_eq] at ab;obtain⟨lD,va,h5⟩:=ab;obtain⟨e,rfl⟩:=Nat.dvd_of_mod_eq_zero va;have iu:(Int.ofNat c)≠0:=by intro h;have:c=0:=oT h;omega
   split at h<;>cases h
   ·refine⟨.int cI (Int.ofNat (n%c)),?_,?_⟩
    ·have aL:(Int.ofNat n).tmod (Int.ofNat c)=Int.ofNat (n%c):=rfl;simp only[Go.binOp,Op.intDiv,ne_eq,not_true_eq_false,if_false,iu,aL,cB,fX,e7]
    ·rw[<-hn,Nat.mod_mul_right_mod];exact .i _ _
   ·refine⟨.int cI (Int.ofNat (n/c)),?_,?_⟩
    ·have aL:(Int.ofNat n).tdiv (Int.ofNat c)=Int.ofNat (n/c):=rfl;have h1:n/c<256:=qJ (yl _ _) hlt;have a5:cI.wrap (Int.ofNat (n/c))=Int.ofNat (n/c):=UW h5 h1;simp only[Go.binOp,Op.intDiv,ne_eq,not_true_eq_false,if_false,iu,aL,a5,cB,fX,e7]
    ·refine .hv ?_ (qJ (yl _ _) hlt);rw[<-hn,Nat.mul_div_cancel_left _ U,Nat.mod_mul_right_div_self]
 ·exact absurd I (tz _)
 ·rename_i l ex;obtain⟨rfl,h1⟩:=ha.pR;unfold sxEq at h;cases hm:qM l ex with
  |false=>rw[hm] at h;cases h
  |true=>
   obtain⟨s,rfl,a7⟩:=HC hb hm;have hg:∀de ey,eqGuard op t de ey (.string (strOf l)) (.string s)=pure ():=λde ey=>by unfold eqGuard;cases op<;>rfl
   simp only[hg];refine(λ⟨u,h1,h2⟩=>⟨u,h1,h2,λ_ _=>trivial⟩:(∃u,(do pure ();Go.binOp op t (.string (strOf l)) (.string s):Sem Value).run P w= .ok u w/\ag w m O B v u)->_) ?_;have aL:=UT (qI a7);rw[hm,cond_true] at h;split at h<;>cases h<;>(refine⟨_,?_,ag.b _⟩;simp[Go.binOp,Op.stringOp,aL];done)
 ·rename_i ex l;obtain⟨rfl,h1⟩:=hb.pR;unfold sxEq at h;cases hm:qM l ex with
  |false=>rw[hm] at h;cases h
  |true=>
   obtain⟨s,rfl,a7⟩:=HC ha hm;have hg:∀de ey,eqGuard op t de ey (.string s) (.string (strOf l))=pure ():=λde ey=>by unfold eqGuard;cases op<;>rfl
   simp only[hg];refine(λ⟨u,h1,h2⟩=>⟨u,h1,h2,λ_ _=>trivial⟩:(∃u,(do pure ();Go.binOp op t (.string s) (.string (strOf l)):Sem Value).run P w= .ok u w/\ag w m O B v u)->_) ?_;have aL:=UT a7;rw[hm,cond_true] at h;split at h<;>cases h<;>(refine⟨_,?_,ag.b _⟩;simp[Go.binOp,Op.stringOp,aL];done)
 ·cases h
def ok_bin{op:BinOp}{t:TypeId}{x y v:AV}{a b:Value}(ha:ag w m O B x a)(hb:ag w m O B y b)(h:binop op x y=some v):
  ∃u,(do eqGuard op t (.tmp 0) (.tmp 0) a b;Go.binOp op t a b:Sem Value).run P w= .ok u w/\ag w m O B v u/\∀de ey,(do eqGuard op t de ey a b;Go.binOp op t a b:Sem Value)=(do eqGuard op t (.tmp 0) (.tmp 0) a b;Go.binOp op t a b:Sem Value):=by
 by_cases hi:∃hi,x= .iI hi
 ·obtain⟨hi,rfl⟩:=hi;cases ha with
  |iI n hn=>
   refine UX (x:=.i .i64 n) (.i _ _) hb ?_ (λ_ h=>by cases h);cases y with
   |i l c=>
    cases c with
    |ofNat c=>
     replace h:(if l= .i64/\c=40 then(match op with| .gtr=>some (AV.b hi)| .leq=>some (.b (!hi))|_=>none) else none)=some v:=h;split at h
     ·rename_i ab;obtain⟨rfl,rfl⟩:=ab;split at h<;>cases h
      ·show(if IntKind.i64=IntKind.i64 then some (AV.b (decide (Int.ofNat 40<n))) else none)=_;rw[if_pos I,hn];rfl
      ·show(if IntKind.i64=IntKind.i64 then some (AV.b (decide (n<=Int.ofNat 40))) else none)=_;rw[if_pos I,hn]
       congr 2
       by_cases AL:(40:Int)<n
       ·rw[decide_eq_true AL,decide_eq_false (by show ¬n<=40;omega)];rfl
       ·rw[decide_eq_false AL,decide_eq_true (by show n<=40;omega)];rfl
     ·cases h
    |negSucc c=>cases h
   |_=>cases h
 ·exact UX ha hb h λh e=>hi ⟨h,e⟩
def a9V(d:Nat){t:TypeId}(ht:P.underlying t=some .bool)(a b:Bool):(Op.equalIn (d+1) t (.bool a) (.bool b)).run P w= .ok (a==b) w:=by
 simp[Op.equalIn,run_underlying ht]
def a9W{t:TypeId}(ht:P.underlying t=some .bool){x y:AV}{v:Bool}{a b:Value}(ha:ag w m O B x a)(hb:ag w m O B y b)(h:binopB x y=some v)(de ey:Operand):
  (do eqGuard .eql t de ey a b;Go.binOp .eql t a b:Sem Value).run P w= .ok (.bool v) w/\(do eqGuard .neq t de ey a b;Go.binOp .neq t a b:Sem Value).run P w= .ok (.bool (!v)) w:=by
 unfold binopB at h;split at h<;>cases h;rename_i c d;obtain rfl:=ha.wK;obtain rfl:=hb.wK;have he:(Op.equal t (.bool c) (.bool d)).run P w= .ok (c==d) w:=a9V 9999 ht c d;have h1:Go.binOp .eql t (.bool c) (.bool d)=(do pure (.bool (←Op.equal t (.bool c) (.bool d))):Sem Value):=rfl;have h2:Go.binOp .neq t (.bool c) (.bool d)=(do pure (.bool (!(←Op.equal t (.bool c) (.bool d)))):Sem Value):=rfl;have bU:eqGuard .eql t de ey (.bool c) (.bool d)=pure ():=rfl;have bV:eqGuard .neq t de ey (.bool c) (.bool d)=pure ():=rfl;rw[h1,h2,bU,bV];constructor<;>simp[he]
def UY(P:Program)(t:TypeId)(kind:Nat):Prop:=
 (kind=0/\∃ms,P.underlying t=some (.interface ms))\/(kind=1/\∃e,P.underlying t=some (.pointer e))\/(kind=2/\∃aC rs v,P.underlying t=some (.func aC rs v))∨
 (kind=3/\∃e,P.underlying t=some (.slice e))\/(kind=4/\∃k e,P.underlying t=some (.map k e))
def a9X{t:TypeId}{de ey:Operand}{v:Bool}{A C:Value}(bU:eqGuard .eql t de ey A C=pure ())(bV:eqGuard .neq t de ey A C=pure ())(h1:Go.binOp .eql t A C=(do pure (.bool (←Op.equal t A C)):Sem Value))
  (h2:Go.binOp .neq t A C=(do pure (.bool (!(←Op.equal t A C))):Sem Value)) (he:∀d,(Op.equalIn (d+1) t A C).run P w= .ok v w):
  ((do eqGuard .eql t de ey A C;Go.binOp .eql t A C:Sem Value).run P w= .ok (.bool v) w/\(do eqGuard .neq t de ey A C;Go.binOp .neq t A C:Sem Value).run P w= .ok (.bool (!v)) w):=by
 have Dm:(Op.equal t A C).run P w= .ok v w:=he 9999;rw[h1,h2,bU,bV];constructor<;>simp[Dm]
def a9Y{t:TypeId}{kind:Nat}(ht:UY P t kind){x y:AV}{v:Bool}{a b:Value}
  (ha:ag w m O B x a) (hb:ag w m O B y b) (h:isNilEq kind x y=some v) (de ey:Operand):
  (((do eqGuard .eql t de ey a b;Go.binOp .eql t a b:Sem Value).run P w= .ok (.bool v) w/\(do eqGuard .neq t de ey a b;Go.binOp .neq t a b:Sem Value).run P w= .ok (.bool (!v)) w)):=by
 unfold isNilEq at h;split at h
 case h_13=>cases h
 case h_12=>
  rcases ht with⟨rfl,_⟩|⟨rfl,_⟩|⟨rfl,_⟩|⟨rfl,_⟩|⟨rfl,_⟩<;>cases h
 all_goals
  cases h<;>cases ha<;>cases hb<;>
  (rcases ht with⟨ay,ms,hu⟩|⟨ay,e,hu⟩|⟨ay,aC,rs,c7F,hu⟩|⟨ay,e,hu⟩|⟨ay,c7,e,hu⟩<;>first
   |(cases ay;done)
   |(refine a9X I I I I (λd=>?_);simp[Op.equalIn,run_underlying hu];done))
end
section
variable {P:Program}{w:World}{m:Nat->Option Nat}{O:Nat->Prop}{B:Nat}
def M_{t:TypeId}{i off:Nat}{aa:Option Nat}(h:fieldOf P t i=some (off,aa)):
  ∃a8 r7,P.underlying t=some (.struct a8)/\a8[i]? =some r7/\r7.offset=off/\shapeOf P r7.type=some aa/\shN aa≠0:=by
 unfold fieldOf at h;split at h<;>try (cases h;done)
 rename_i a8 hu;split at h<;>try (cases h;done)
 rename_i r7 hf;split at h<;>try (cases h;done)
 rename_i hS ao;split at h<;>cases h;rename_i a6;exact⟨a8,r7,hu,hf,rfl,ao,a6⟩
def UZ{aa:Option Nat}{c:List AV}{v:AV}(h:dV aa c=some v)(hf:∀x∈c,conf none x=true):v.cells=c.take (shN aa)/\shN aa<=c.length:=by
 cases aa with
 |none=>
  obtain⟨r,rfl⟩:=Hw h;have:=hf v (by simp);refine⟨?_,by simp[shN]⟩;cases v<;>first|rfl|(simp[conf] at this)
 |some n=>
  obtain⟨rfl,hn⟩:=Hx h;exact⟨rfl,hn⟩
def a9Z{aa:Option Nat}{c:List AV}{v:AV}(h:dV aa c=some v)(hf:∀x∈c,conf none x=true):conf aa v=true:=by
 cases aa with
 |none=>
  obtain⟨r,rfl⟩:=Hw h;exact hf v aF
 |some n=>
  obtain⟨rfl,hn⟩:=Hx h;simp[conf];omega
def ag.U0{ol:Bool}{cs:List AV}{u:Value}(h:ag w m O B (.dh ol (.R cs)) u){aa:Option Nat}{k:Nat}{v:AV}(au:dV aa (cs.drop k)=some v):
  ∃aD o,u= .pointer (some ⟨aD,o,none⟩)/\ag w m O B (.dh ol v) (.pointer (some ⟨aD,o+k,none⟩)):=by
 cases h with
 | @dh _ _ _ _ _ aD off bf ch hb ca ab aq hf=>
  simp only[AV.cells] at ab aq hf;have yC:∀x∈cs.drop k,conf none x=true:=λx hx=>hf x (pK hx);obtain⟨n3,hle⟩:=UZ au yC;have hlen:v.cells.length=shN aa:=by rw[n3,fe];omega
  have ay:k+shN aa<=cs.length\/shN aa=0:=by simp at hle;omega
  refine⟨aD,off,rfl,.dh (λj=>bf (k+j)) ch hb ca (λj ax=>?_) (λj ax=>?_) (λx hx=>?_)⟩
  ·rw[MJ];exact ab (k+j) U
  ·have fA:k+j<cs.length:=by omega
   have e:v.cells[j]=cs[k+j]:=by
    have:v.cells[j]? =cs[k+j]? :=by
     rw[n3,tk U,oR]
    rw[fw ax,fw fA] at this;exact wF this
   rw[e];exact aq (k+j) fA
  ·rw[n3] at hx;exact yC x (uU hx)
def U1{t:TypeId}{i off:Nat}{aa:Option Nat}(h:fieldOf P t i=some (off,aa))(b o:Nat):
  (Instr.fieldAt t (.pointer (some ⟨b,o,none⟩)) i).run P w= .ok (.pointer (some ⟨b,o+off,none⟩)) w:=by
 obtain⟨a8,r7,hu,hf,rfl,ao,a6⟩:=M_ h;obtain⟨_,cz,_⟩:=lz ao w;simp[Instr.fieldAt,run_underlying hu,hf,Instr.sureAddr,fieldPlace,cz,a6,lB]
def b0a{t:TypeId}{i off:Nat}{aa:Option Nat}(h:fieldOf P t i=some (off,aa)){x v:AV}{u:Value}(hx:ag w m O B x u)
  (au:fieldAddrA off aa x=some v):∃cj,(Instr.fieldAt t u i).run P w= .ok cj w/\ag w m O B v cj:=by
 unfold fieldAddrA at au;split at au<;>try (cases au;done)
 ·rename_i hx;cases au;obtain⟨aD,hm,rfl⟩:=hx.wL;exact⟨_,U1 h _ _,.p hm⟩
 ·rename_i hx;split at au<;>cases au;rename_i bR ht;obtain⟨aD,o,rfl,aq⟩:=hx.U0 ht;exact⟨_,U1 h _ _,aq⟩
def U2{t:TypeId}{aa:Option Nat}(ao:shapeOf P t=some aa){cs:List AV}{arr:Array Value}(ab:bQ w m O B cs arr.toList)(hf:∀x∈cs,conf none x=true){off:Nat}{v:AV}(au:dV aa (cs.drop off)=some v):
  ∃cj,(part t arr off).run P w= .ok cj w/\ag w m O B v cj:=by
 obtain⟨h1,h2,_⟩:=lz ao w;have hd:=ab.drop off;cases aa with
 |none=>
  obtain⟨r,aq⟩:=Hw au;rw[aq] at hd;obtain⟨u,hu,j4⟩:=hd.get (i:=0) (v:=v) I;rw[oR] at hu;have tA:arr[off]? =some u:=by simpa using hu
  exact⟨u,by simp[part,h1,tA],j4⟩
 |some n=>
  obtain⟨rfl,hn⟩:=Hx au;have e:(arr.extract off (off+n))=((arr.toList.drop off).take n).toArray:=by
   apply T9;simp
  exact⟨.agg (arr.extract off (off+n)),by simp[part,h1,h2,shN],by rw[e];exact ag.yz (hd.take n) (λx hx=>hf x (pK (uU hx)))⟩
def b0b{t:TypeId}{i off:Nat}{aa:Option Nat}(h:fieldOf P t i=some (off,aa)){cs:List AV}{v:AV}{u:Value}(hx:ag w m O B (.R cs) u)(au:dV aa (cs.drop off)=some v):
  ∃cj,(Instr.field t u i).run P w= .ok cj w/\ag w m O B v cj:=by
 obtain⟨a8,r7,hu,hf,rfl,ao,a6⟩:=M_ h;obtain⟨bo,rfl,hl,kI⟩:=hx.qR;obtain⟨cj,h1,h2⟩:=U2 (w:=w) ao hl kI au;exact⟨cj,by simp[Instr.field,run_underlying hu,hf,asAgg,h1],h2⟩
def b0c{t e:TypeId}{n:Nat}{aa:Option Nat}(hu:P.underlying t=some (.array n e))(ao:shapeOf P e=some aa){x v:AV}{u:Value}(hx:ag w m O B x u){k:IntKind}{j:Nat}(ax:j<n)
  (au:fieldAddrA (j*shN aa) aa x=some v):∃cj,(Instr.indexAt t u (.int k (Int.ofNat j))).run P w= .ok cj w/\ag w m O B v cj:=by
 unfold fieldAddrA at au;obtain⟨_,cz,_⟩:=lz ao w;have key:∀b o,(Instr.indexAt t (.pointer (some ⟨b,o,none⟩)) (.int k (Int.ofNat j))).run P w= .ok (.pointer (some ⟨b,o+j*shN aa,none⟩)) w:=λb o=>by
  simp[Instr.indexAt,asIntOf,run_underlying hu,Instr.sureAddr,cz,lB,ax]
 split at au<;>try (cases au;done)
 ·rename_i hx;cases au;obtain⟨aD,hm,rfl⟩:=hx.wL;exact⟨_,key _ _,.p hm⟩
 ·rename_i hx;split at au<;>cases au;rename_i bR ht;obtain⟨aD,o,rfl,aq⟩:=hx.U0 ht;exact⟨_,key _ _,aq⟩
def b0d{t e:TypeId}{kF:Option Nat}(hu:P.underlying t=some (.slice e))(ao:shapeOf P e=some kF){x v:AV}{u:Value}(hx:ag w m O B x u){k:IntKind}{j:Nat}
  (au:idxSlA kF x j=some v):∃cj,(Instr.indexAt t u (.int k (Int.ofNat j))).run P w= .ok cj w/\ag w m O B v cj:=by
 unfold idxSlA at au;obtain⟨_,cz,_⟩:=lz ao w;have key:∀b o len cap,j<len->(Instr.indexAt t (.slice (some ⟨b,o,none⟩) len cap) (.int k (Int.ofNat j))).run P w= .ok (.pointer (some ⟨b,o+j*shN kF,none⟩)) w:=λb o len cap ax=>by
  simp[Instr.indexAt,asIntOf,run_underlying hu,cz,lB,ax]
 split at au<;>try (cases au;done)
 ·rename_i hx;split at au<;>cases au;rename_i gm;simp only[C2,decide_eq_true_eq] at gm;obtain⟨hlt,rfl⟩:=gm;have b0e:=by simpa [MD] using hlt
  cases hx with
  |al h hl ab hn mU=>exact⟨_,key _ _ _ _ b0e,.p h⟩
 ·rename_i hx;split at au<;>try (cases au;done)
  rename_i he;subst he;split at au<;>cases au;rename_i bR U3;rw[Dg] at U3;obtain⟨ax,rfl⟩:=jK.1 U3;cases hx with
  |lW=>simp at ax
  | @a_ _ _ _ _ _ _ aD off gl sp bf ch r8 ab aq hl hf fy=>
   have a7:∀ {l:List AV},j<l.length->l≠[]:=λh e=>by subst e;simp at h
   obtain rfl:=fy (a7 ax);obtain⟨h1,h2,h3⟩:=ch (a7 ax);exact⟨_,key _ _ _ _ ax,.dh (bf j) h1 h2 h3 (λi hi=>ab j ax i hi) (λi hi=>aq j ax i hi) (hf _ (gC ax))⟩
def b0f{t:TypeId}(hu:P.underlying t=some .string){l:List Nat}{u:Value}(hx:ag w m O B (.s l) u){k:IntKind}{j c:Nat}(ax:nth l j=some c):
  (Instr.index t u (.int k (Int.ofNat j))).run P w= .ok (.int .u8 (Int.ofNat c)) w:=by
 obtain⟨rfl,hl⟩:=hx.pR;rw[Dg] at ax;obtain⟨hlt,hZ⟩:=jK.1 ax;have ab:c<256:=hl c (by rw[<-hZ];exact gC hlt);have ao:(strOf l)[j]? =some c.toUInt8:=by
  have h1:j<(strOf l).size:=by rw[wJ];exact hlt
  rw[getElem?_pos (strOf l) j h1]
  congr 1
  show(strOf l).data[j]=_;simp[strOf,hZ]
 simp only[Instr.index,asIntOf,cB,fX,e7,run_underlying hu];have:(0:Int)<=Int.ofNat j:=T_ j;simp[ao];omega
def b0g{t e:TypeId}{n:Nat}{aa:Option Nat}(hu:P.underlying t=some (.array n e))(ao:shapeOf P e=some aa){cs:List AV}{v:AV}{u:Value}(hx:ag w m O B (.R cs) u){k:IntKind}{j:Nat}(ax:j<n)
  (au:dV aa (cs.drop (j*shN aa))=some v):∃cj,(Instr.index t u (.int k (Int.ofNat j))).run P w= .ok cj w/\ag w m O B v cj:=by
 obtain⟨_,cz,_⟩:=lz ao w;obtain⟨bo,rfl,hl,kI⟩:=hx.qR;obtain⟨cj,h1,h2⟩:=U2 (w:=w) ao hl kI au;exact⟨cj,by simp[Instr.index,asIntOf,run_underlying hu,cz,ax,h1],h2⟩
def b0h{l:List AV}{u:Value}(hx:ag w m O B (.a0 l) u){i:Nat}{v:AV}(au:nth l i=some v):∃cj,(Instr.extract u i).run P w= .ok cj w/\ag w m O B v cj:=by
 obtain⟨bo,rfl,hl⟩:=hx.M5;rw[Dg] at au;obtain⟨cj,h1,h2⟩:=hl.get au;have U4:bo[i]? =some cj:=by simpa using h1
 exact⟨cj,by simp[Instr.extract,U4],h2⟩
end
section
variable {P:Program}{w:World}{m:Nat->Option Nat}{O:Nat->Prop}{B:Nat}
def b0i{k:IntKind}{n y:Nat}{code:BoundsCode}(h:n<=y):(Instr.sliceBound (.int k (Int.ofNat n)) y code).run P w= .ok n w:=by
 have:((Int.ofNat n)<=(y:Int)):=by show((n:Nat):Int)<=y;omega
 simp[Instr.sliceBound,asIntOf,h]
def U5{k:IntKind}{n y:Nat}{code:BoundsCode}(h:n<=y):(Instr.sliceBound (.int k (n:Int)) y code).run P w= .ok n w:=b0i h
inductive lZ(d:Nat):Option Value->Nat->Prop
 |none:lZ d none d
 |some (k:IntKind) (n:Nat):lZ d (some (.int k (Int.ofNat n))) n
def b0j{env:Env}(ch:∀b,O b->B<=b)(cW:Globs env w B){al:a1 AV}{a:Act}(ao:ja w m O B al a.tmps.toList){x:Option Operand}{bS:Option aJ}(hx:opdO x=some bS){d n:Nat}(au:bndO (evalA env al) bS d=some n):lZ d (x.map a.eval) n:=by
 cases x with
 |none=>
  cases hx;simp only[bndO,cL] at au;subst au;exact .none
 |some x=>
  simp only[opdO] at hx;split at hx<;>cases hx;rename_i de eo;simp only[bndO] at au;split at au<;>try (cases au;done)
  rename_i v he;obtain⟨k,rfl⟩:=Dl au;have:=(M8 ch cW ao eo he).mr;simp only[kD,this];exact .some k n
def tB{isSlice:Bool}{len cap:Nat}{cY hi:Option Value}{l h:Nat}(hl:lZ 0 cY l)(hh:lZ len hi h)(h1:l<=h)(h2:h<=cap):
  (Instr.sliceBounds isSlice len cap cY hi none).run P w= .ok (l,h,cap) w:=by
 cases hl<;>cases hh<;>simp[Instr.sliceBounds,U5,h1,h2]
def U6{isSlice:Bool}{len cap:Nat}{cY:Option Value}{l h k:Nat}{Dn vb:IntKind}(hl:lZ 0 cY l)(h1:l<=h)(h2:h<=k)(h3:k<=cap):
  (Instr.sliceBounds isSlice len cap cY (some (.int Dn (Int.ofNat h))) (some (.int vb (Int.ofNat k)))).run P w= .ok (l,h,k) w:=by
 cases hl<;>simp[Instr.sliceBounds,U5,h1,h2,h3]
def b0k(s:List Nat)(l h:Nat):(strOf s).extract l h=strOf ((s.drop l).take (h-l)):=by
 apply ByteArray.ext;rw[ByteArray.data_extract];apply T9;simp[strOf,G9,C3]
def b0l{t:TypeId}(hu:P.underlying t=some .string){s:List Nat}{u:Value}(hx:ag w m O B (.s s) u){cY hi:Option Value}{l h:Nat}(hl:lZ 0 cY l)(hh:lZ s.length hi h)(h1:l<=h)(h2:h<=s.length):
  ∃cj,(Instr.sliceAt t u cY hi none).run P w= .ok cj w/\ag w m O B (.s ((s.drop l).take (h-l))) cj:=by
 obtain⟨rfl,hb⟩:=hx.pR;refine⟨_,?_,.s _ (λc ab=>hb c (pK (uU ab)))⟩;simp[Instr.sliceAt,Instr.slice,run_underlying hu,wJ,tB hl hh h1 h2,b0k]
def b0m{t e:TypeId}{n:Nat}{aa:Option Nat}(hu:P.underlying t=some (.array n e))(ao:shapeOf P e=some aa){id off aD k:Nat}(hm:m id=some aD)(ay:eK w aD=some k)(HF:off+n*shN aa<=k)
  {cY hi:Option Value} {l h:Nat} (hl:lZ 0 cY l) (hh:lZ n hi h) (h1:l<=h) (h2:h<=n):
  ∃cj,(Instr.sliceAt t (.pointer (some ⟨aD,off,none⟩)) cY hi none).run P w= .ok cj w/\ag w m O B (.al id (if n=l then off else off+l*shN aa) (h-l) aa (some (n-l))) cj:=by
 obtain⟨_,cz,_⟩:=lz ao w;refine⟨.slice (some ⟨aD,if n=l then off else off+l*shN aa,none⟩) (h-l) (n-l),?_,.al hm U (λc ab=>by cases ab;rfl) ay ?_⟩
 ·simp only[Instr.sliceAt,run_underlying hu,cB,e7,Instr.sureAddr,fX,tB hl hh h1 h2,cz];split<;>simp[lB]
 ·split
  ·rename_i e;subst e;simp;omega
  ·have:(n-l)*shN aa+l*shN aa=n*shN aa:=by rw[<-G_];congr 1;omega
   omega
def b0n{t e:TypeId}{kF:Option Nat}(hu:P.underlying t=some (.slice e))(ao:shapeOf P e=some kF){id off len:Nat}{aa cap:Option Nat}(iA:aa=kF){u:Value}(hx:ag w m O B (.al id off len aa cap) u)
  {cY hi:Option Value} {l h:Nat} (hl:lZ 0 cY l) (hh:lZ len hi h) (h1:l<=h):
  (∀(gd:Option Value) (vb:IntKind) (k:Nat),gd=some (.int vb (Int.ofNat k))->hi.isSome=true->h<=k->k<=(cap.getD len)→
   ∃cj,(Instr.sliceAt t u cY hi gd).run P w= .ok cj w/\ag w m O B (.al id (if k=l then off else off+l*shN aa) (h-l) aa (some (k-l))) cj)∧
  (∀c,cap=some c->h<=c->∃cj,(Instr.sliceAt t u cY hi none).run P w= .ok cj w/\ag w m O B (.al id (if c=l then off else off+l*shN aa) (h-l) aa (some (c-l))) cj)∧
  (cap=none->h<=len->l=0->∃cj,(Instr.sliceAt t u cY hi none).run P w= .ok cj w/\ag w m O B (.al id off h aa none) cj)∧
  (cap=none->h<=len->l<len->∃cj,(Instr.sliceAt t u cY hi none).run P w= .ok cj w/\ag w m O B (.al id (off+l*shN aa) (h-l) aa none) cj)∧
  (cap=none->l=len->h=len->∃cj,(Instr.sliceAt t u cY hi none).run P w= .ok cj w/\ag w m O B (.a_ true aa []) cj):=by
 subst iA;obtain⟨_,cz,_⟩:=lz ao w;cases hx with
 | @al _ _ _ _ _ _ aD n gl _ _ hm hlen ab hn mU=>
  have Na:∀k,l<=k->(k-l)*shN aa+l*shN aa=k*shN aa:=λk ay=>by rw[<-G_];congr 1;omega
  have b0o:∀k,k<=gl->k*shN aa<=gl*shN aa:=λk ay=>jX _ ay;refine⟨?_,?_,?_,?_,?_⟩
  ·rintro gd vb k rfl pS gF o3;have HH:k<=gl:=by
    cases cap with
    |none=>simp at o3;omega
    |some c=>have:=ab c I;simp at o3;omega
   cases hh with
   |none=>simp at pS
   |some Dn h=>
    refine⟨.slice (some ⟨aD,if k=l then off else off+l*shN aa,none⟩) (h-l) (k-l),?_,.al hm U (λc ab=>by cases ab;rfl) hn ?_⟩
    ·simp only[Instr.sliceAt,Instr.slice,run_underlying hu,cB,e7,U6 hl h1 gF HH,cz,fX];split<;>simp[lB]
    ·have:=b0o k HH;split
     ·rename_i e;subst e;simp;omega
     ·have:=Na k U;omega
  ·rintro c rfl va;obtain rfl:=ab c I;refine⟨.slice (some ⟨aD,if gl=l then off else off+l*shN aa,none⟩) (h-l) (gl-l),?_,.al hm U (λc ab=>by cases ab;rfl) hn ?_⟩
   ·simp only[Instr.sliceAt,Instr.slice,run_underlying hu,cB,e7,tB hl hh h1 va,cz,fX];split<;>simp[lB]
   ·split
    ·rename_i e;subst e;simp;omega
    ·have:=Na gl U;omega
  ·rintro rfl hle rfl;refine⟨.slice (some ⟨aD,off,none⟩) h gl,?_,.al hm U (λc ab=>by cases ab) hn mU⟩;simp only[Instr.sliceAt,Instr.slice,run_underlying hu,cB,e7,tB hl hh h1 (qH hle hlen),cz,fX];split<;>simp[lB]
  ·rintro rfl hle hlt;refine⟨.slice (some ⟨aD,off+l*shN aa,none⟩) (h-l) (gl-l),?_,.al hm U (λc ab=>by cases ab) hn ?_⟩
   ·simp only[Instr.sliceAt,Instr.slice,run_underlying hu,cB,e7,tB hl hh h1 (qH hle hlen),cz,fX];rw[if_neg U];simp[lB]
   ·have:=Na gl U;omega
  ·rintro rfl jM Dp;refine⟨.slice (some ⟨aD,if gl=l then off else off+l*shN aa,none⟩) (h-l) (gl-l),?_,?_⟩
   ·simp only[Instr.sliceAt,Instr.slice,run_underlying hu,cB,e7,tB hl hh h1 (show h<=gl by omega),cz,fX];split<;>simp[lB]
   ·rw[show h-l=([]:List AV).length from by rw[jM,Dp];simp];exact .a_ (λ_ _=>.bool true) (λh=>absurd I h) (λi h=>by simp at h) (λi h=>by simp at h) (λi h=>by simp at h) (rU _) (λv au=>by simp at au) (λh=>absurd I h)
def b0p{t e:TypeId}{kF:Option Nat}(hu:P.underlying t=some (.slice e))(ao:shapeOf P e=some kF){cY hi gd:Option Value}(hl:lZ 0 cY 0)(hh:lZ 0 hi 0)(hm:lZ 0 gd 0)(pS:gd.isSome=true->hi.isSome=true):
  (Instr.sliceAt t (.slice none 0 0) cY hi gd).run P w= .ok (.slice none 0 0) w:=by
 obtain⟨_,cz,_⟩:=lz ao w;cases hm with
 |none=>simp[Instr.sliceAt,Instr.slice,run_underlying hu,tB hl hh,cz]
 |some vb=>
  cases hh with
  |none=>simp at pS
  |some Dn=>
   have:=U6 (P:=P) (w:=w) (isSlice:=true) (len:=0) (cap:=0) (Dn:=Dn) (vb:=vb) hl (bs 0) (bs 0) (bs 0);simp only[Instr.sliceAt,Instr.slice,run_underlying hu,cB,e7,this,cz,fX];simp
def b0q{o:Oper}{x:Operand}(ho:o.op= .nilCheck x){c_:Operand->Value}{v:AV}(hx:ag w m O B v (c_ x))(h:nilOk v=true):(execOp c_ o).run P w= .ok (.value (c_ x)) w:=by
 generalize hu:c_ x=u at hx;cases hx<;>simp[nilOk] at h<;>simp[execOp,ho,hu]
def b0r{b:Bool}{u:Value}(hx:ag w m O B (.b b) u):(Op.unary .not u).run P w= .ok (.bool (!b)) w:=by
 obtain rfl:=hx.wK;rfl
def b0s{k:IntKind}{n:Int}{u:Value}(hx:ag w m O B (.i k n) u):(Op.unary .neg u).run P w= .ok (.int k (k.wrap (0-n))) w:=by
 obtain rfl:=hx.mr;rfl
def b0t{s d:TypeId}{k dF:IntKind}(ao:P.underlying s=some (.int dF))(hd:P.underlying d=some (.int k)){j:IntKind}{n:Int}{u:Value}(hx:ag w m O B (.i j n) u):(convert s d u).run P w= .ok (.int k (wrapN k n)) w:=by
 obtain rfl:=hx.mr;simp[convert,run_underlying ao,run_underlying hd,Conv.intToInt,UL]
def b0u{s d:TypeId}{dF Dq:IntKind}(ao:P.underlying s=some (.int dF))(hd:P.underlying d=some (.int .i64)){q j:Nat}{u:Value}(hx:ag w m O B (.hv Dq q j) u):∃n,(convert s d u).run P w= .ok (.int .i64 (Int.ofNat n)) w/\ag w m O B (.hv .i64 q j) (.int .i64 (Int.ofNat n)):=by
 cases hx with
 | @hv _ _ _ _ _ _ n hn hlt=>
 exact⟨n,by simp only[convert,cB,run_underlying ao,run_underlying hd,e7,Conv.intToInt];rw[UW (.inr I) hlt];rfl,.hv hn hlt⟩
def b0v{t:TypeId}{d:TypeDesc}(hu:P.underlying t=some d)(hd:∀ms,d≠ .interface ms)(u:Value):(Instr.makeInterface t u).run P w= .ok (.iface t u) w:=by
 simp only[Instr.makeInterface,cB,run_underlying hu,e7];cases d<;>first|rfl|exact absurd I (hd _)
def b0w{t Nb:TypeId}{d:TypeDesc}(hu:P.underlying t=some d)(hd:∀ms,d≠ .interface ms){z:AV}(a6:zeroOf P t=some z){two:Bool}{x:AV}{u:Value}(hx:ag w m O B x u){v:AV}
  (au:assertA x t z two=some v):∃cj,(Instr.typeAssert u Nb t two).run P w= .ok cj w/\ag w m O B v cj:=by
 unfold assertA at au;obtain⟨eP,iJ,k0,_⟩:=r6 a6 w;have mZ:=k0 w m O B;have yD:∀ {a:AV} {b:Value} (c:Bool),ag w m O B a b->ag w m O B (.a0 [a,.b c]) (.tuple #[b,.bool c]):=λc h=>ag.u9 (bQ.cons h (bQ.cons (.b c) bQ.nil));split at au<;>try (cases au;done)
 ·rename_i HI bR hx;cases hx with
  | @it _ _ _ _ _ cj aq=>
   split at au
   ·rename_i he;subst he;cases au;cases two with
    |false=>exact⟨cj,by simp only[Instr.typeAssert,cB,run_underlying hu,e7];cases d<;>first|exact absurd I (hd _)|simp,aq⟩
    |true=>exact⟨.tuple #[cj,.bool true],by simp only[Instr.typeAssert,cB,run_underlying hu,e7];cases d<;>first|exact absurd I (hd _)|simp,yD true aq⟩
   ·rename_i he;cases two with
    |false=>cases au
    |true=>
     cases au;exact⟨.tuple #[eP,.bool false],by simp only[Instr.typeAssert,cB,run_underlying hu,e7];cases d<;>first|exact absurd I (hd _)|simp[he,iJ],yD false mZ⟩
 ·rename_i hx;cases hx;cases two with
  |false=>cases au
  |true=>
   cases au;exact⟨.tuple #[eP,.bool false],by simp only[Instr.typeAssert,cB,run_underlying hu,e7];cases d<;>first|exact absurd I (hd _)|simp[iJ],yD false mZ⟩
end
def jc{α β:Type}(r:α->β->Prop):List α->List β->Prop
 |[],[]=>True
 |x::xs,y::bf=>r x y/\jc r xs bf
 |_,_=>False
def Dr{α β U7:Type}{f:α->Option β}{g:α->U7}{r:β->U7->Prop}(h:∀x y,f x=some y->r y (g x)):∀ {l:List α} {bf:List β},mapOL f l=some bf->jc r bf (l.map g)
 |[],bf,hy=>by simp[mapOL] at hy;subst hy;trivial
 |x::xs,bf,hy=>by
  rw[mapOL] at hy;split at hy
  ·rename_i y e2 hx dG;cases hy;exact⟨h x y hx,Dr h dG⟩
  ·cases hy
section
variable {P:Program}{w:World}{m:Nat->Option Nat}{O:Nat->Prop}{B:Nat}
def bQ.store{c bD v:List AV}{off:Nat}{arr:Array Value}{us:List Value}(ab:bQ w m O B c arr.toList)(au:bQ w m O B v us)(h:storeCells c off v=some bD):bQ w m O B bD (wr arr off us).toList:=by
 obtain⟨hle,rfl⟩:=Di h;have r4:arr.size=c.length:=by have:=ab.1;simpa using this
 have hlen:=au.1;have e:(wr arr off us).toList=arr.toList.take off++(us++arr.toList.drop (off+us.length)):=by
  apply ml;intro i;have:=Hv us arr off i U;rw[C0,this];rw[fi];simp only[fe,dD];by_cases bI:i<off
  ·rw[if_neg U,if_pos U,tk bI];simp
  ·rw[if_neg (show ¬i<min off arr.size by omega),fi];by_cases cx:i-min off arr.size<us.length
   ·rw[if_pos cx,if_pos U,show min off arr.size=off by omega]
   ·rw[if_neg cx,if_neg U,oR];rw[C0];congr 1;omega
 rw[e,hlen];exact(ab.take off).append (au.append (ab.drop _))
def b0x{c bD v:List AV}{off:Nat}(ab:∀x∈c,conf none x=true)(au:∀x∈v,conf none x=true)(h:storeCells c off v=some bD):∀x∈bD,conf none x=true:=by
 obtain⟨_,rfl⟩:=Di h;intro x hx;rcases tl.1 hx with hx|hx
 ·exact ab x (uU hx)
 ·rcases tl.1 hx with hx|hx
  ·exact au x hx
  ·exact ab x (pK hx)
def b0y{c bD v:List AV}{off:Nat}(h:storeCells c off v=some bD):bD.length=c.length:=by
 obtain⟨_,rfl⟩:=Di h;simp;omega
def U8:∀(l:List Value) (k off:Nat) (cs:Array Value),(l.zipIdx k).foldl (λ(cs:Array Value) (p:Value×Nat)=>cs.setIfInBounds (off+p.2) p.1) cs=wr cs (off+k) l
 |[],_,_,_=>rfl
 |v::r,k,off,cs=>by
  rw[List.zipIdx_cons,Ha,U8 r (k+1) off,wr];rfl
def Nc{v:AV}{u:Value}(h:ag w m O B v u)(au:v.val=true):∀x∈v.cells,conf none x=true:=by
 cases h with
 |R ao aq hf=>exact hf
 |a0 ao aq=>simp[AV.val] at au
 |_=>intro x hx;simp only[AV.cells,uT] at hx;subst hx;rfl
def b0z(ar:aJ->Option AV)(b0:Nat->Nat->Nat)(c:List AV):iy ar b0 [] c=some c:=rfl
def layParts_cons(ar:aJ->Option AV)(b0:Nat->Nat->Nat)(p:Nat×Nat×aJ)(aC:List (Nat×Nat×aJ))(c:List AV):
  iy ar b0 (p::aC) c=match ar p.2.2 with
   |none=>none
   |some v=>cond (Nat.beq v.cells.length p.2.1&&v.val) (match storeCells c (b0 p.1 p.2.1) v.cells with|none=>none|some c=>iy ar b0 aC c) none:=rfl
def Ds{place:Nat->Option (Nat×Nat)}{ar:aJ->Option AV}{b0:Nat->Nat->Nat}:∀(aC:List (Nat×Nat×aJ)) (iV:List (Nat×Value)) (c bD:List AV) (arr:Array Value),
  jc (λ(p:Nat×Nat×aJ) (q:Nat×Value)=>place q.1=some (b0 p.1 p.2.1,p.2.1)/\∀v,ar p.2.2=some v->ag w m O B v q.2) aC iV->bQ w m O B c arr.toList->(∀x∈c,conf none x=true)->iy ar b0 aC c=some bD→
  ∃nx,Instr.fill place arr iV=some nx/\bQ w m O B bD nx.toList/\(∀x∈bD,conf none x=true)/\bD.length=c.length
 |[],[],c,bD,arr,_,ab,hf,h=>by
  rw[b0z] at h;cases h;exact⟨arr,rfl,ab,hf,rfl⟩
 |[],_::_,_,_,_,h,_,_,_=>h.elim
 |_::_,[],_,_,_,h,_,_,_=>h.elim
 |p::aC,q::iV,c,bD,arr,⟨⟨aw,au⟩,aq⟩,ab,hf,h=>by
  rw[layParts_cons] at h;cases he:ar p.2.2 with
  |none=>simp[he] at h
  |some v=>
   simp only[he] at h;cases hb:(Nat.beq v.cells.length p.2.1&&v.val) with
   |false=>simp[hb] at h
   |true=>
    rw[hb,cond_true] at h;simp only[C2] at hb;have hlen:=gb hb.1;have hR:=au v he;cases cR:storeCells c (b0 p.1 p.2.1) v.cells with
    |none=>simp[cR] at h
    |some hU=>
     simp only[cR] at h;have cz:q.2.cells.size=p.2.1:=by have:=hR.cells.1;simp at this;omega
     have U9:=(Di cR).1;have r4:arr.size=c.length:=by have:=ab.1;simpa using this
     obtain⟨nx,h1,h2,h3,aO⟩:=Ds aC iV hU bD (wr arr (b0 p.1 p.2.1) q.2.cells.toList) aq (ab.store hR.cells cR) (b0x hf (Nc hR hb.2) cR) h;refine⟨nx,?_,h2,h3,by rw[aO,b0y cR]⟩;obtain⟨i,u⟩:=q;simp only[Instr.fill];rw[show place i=some (b0 p.1 p.2.1,p.2.1) from aw];simp only at cz ⊢;have gm:(u.cells.size≠p.2.1||decide (b0 p.1 p.2.1+u.cells.size > arr.size))=false:=by
      simp[cz];omega
     have U_:(u.cells.zipIdx.foldl (λ(cs:Array Value) (x:Value×Nat)=>cs.setIfInBounds (b0 p.1 p.2.1+x.2) x.1) arr)=wr arr (b0 p.1 p.2.1) u.cells.toList:=by
      rw[<-Array.foldl_toList,Array.toList_zipIdx,U8];rfl
     have b0A:¬((u.cells.size≠p.2.1||b0 p.1 p.2.1+u.cells.size > arr.size)=true):=by rw[dA];simp[cz];omega
     rw[if_neg b0A]
     first|(rw[U_];exact h1)|(simp only[U_];exact h1)
def b0B{a8:Array Field}(h:∀f∈a8.toList,∃i,P.info? f.type=some i)(w:World):
  ∃aC:Array (Nat×Nat),(a8.mapM λf=>(do pure (f.offset,← sizeOf f.type):Sem (Nat×Nat))).run P w= .ok aC w/\∀(i:Nat) (f:Field) (inf:TypeInfo),a8[i]? =some f->P.info? f.type=some inf->aC[i]? =some (f.offset,inf.size):=by
 have key:∀(l:List Field),(∀f∈l,∃i,P.info? f.type=some i)->∃aC:List (Nat×Nat),(l.mapM λf=>(do pure (f.offset,← sizeOf f.type):Sem (Nat×Nat))).run P w= .ok aC w/\∀(i:Nat) (f:Field) (inf:TypeInfo),l[i]? =some f->P.info? f.type=some inf->aC[i]? =some (f.offset,inf.size):=by
  intro l
  induction l with
  |nil=>intro _;exact⟨[],aF,λi f inf h=>by simp at h⟩
  |cons f l aH=>
   intro h;obtain⟨i,hi⟩:=h f aF;obtain⟨aC,h1,h2⟩:=aH (λg hg=>h g (by simp[hg]));have cz:(sizeOf f.type).run P w= .ok i.size w:=by simp[sizeOf,typeInfo,hi]
   refine⟨(f.offset,i.size)::aC,by simp only[List.mapM_cons,cB,cz,e7,fX,h1],λk g inf hg yE=>?_⟩;cases k with
   |zero=>simp at hg;subst hg;rw[hi] at yE;cases yE;rfl
   |succ k=>simp at hg ⊢;exact h2 k g inf hg yE
 obtain⟨aC,h1,h2⟩:=key a8.toList h;refine⟨aC.toArray,?_,λi f inf hf yE=>by simpa using h2 i f inf (by simpa using hf) yE⟩;rw[Ua];simp only[Sem.run_map,h1,e7]
def b0C{t:TypeId}{a8:Array Field}(hu:P.underlying t=some (.struct a8))(hi:a8.any (λf=>(P.info? f.type).isNone)=false){z:List AV}(a6:zeroOf P t=some (.R z)){ar:aJ->Option AV}
  {aC:List (Nat×Nat×aJ)} {iV:Array (Nat×Value)} {c:List AV}
  (aw:jc (λ(p:Nat×Nat×aJ) (q:Nat×Value)=>(∃aa,fieldOf P t q.1=some (p.1,aa)/\shN aa=p.2.1)/\∀v,ar p.2.2=some v->ag w m O B v q.2) aC iV.toList)
  (h:iy ar (λoff _=>off) aC z=some c):∃u,(Instr.build t iV).run P w= .ok u w/\ag w m O B (.R c) u:=by
 have hall:∀f∈a8.toList,∃i,P.info? f.type=some i:=by
  intro f hf;rw[<-Array.any_toList,List.any_eq_false] at hi;have:=hi f hf;cases h:P.info? f.type with
  |none=>simp[h] at this
  |some i=>exact⟨i,rfl⟩
 obtain⟨places,kJ,b0D⟩:=b0B hall w;obtain⟨eP,iJ,k0,mZ⟩:=r6 a6 w;obtain⟨e2,rfl,ny,Nd⟩:=(k0 w m O B).qR;have qS:jc (λ(p:Nat×Nat×aJ) (q:Nat×Value)=>places[q.1]? =some (p.1,p.2.1)/\∀v,ar p.2.2=some v->ag w m O B v q.2) aC iV.toList:=by
  clear h;revert aw;generalize iV.toList=g1
  induction aC generalizing g1 with
  |nil=>cases g1<;>exact id
  |cons p aC aH=>
   cases g1 with
   |nil=>exact id
   |cons q g1=>
    rintro⟨⟨⟨aa,hf,iA⟩,au⟩,aq⟩;refine⟨⟨?_,au⟩,aH g1 aq⟩;obtain⟨g0,r7,tA,ep,Nf,ao,_⟩:=M_ hf;rw[hu] at tA;cases tA;obtain⟨_,_,inf,yE,cz⟩:=lz ao w;rw[b0D q.1 r7 inf ep yE,Nf,cz,iA]
 obtain⟨nx,h1,h2,h3,_⟩:=Ds aC iV.toList z c e2 qS ny Nd h;refine⟨.agg nx,?_,by have:=ag.yz h2 h3;simpa using this⟩;simp only[Instr.build,cB,iJ,e7,run_underlying hu,Value.cells,kJ];simp[h1]
def b0E{t e:TypeId}{n:Nat}{aa:Option Nat}(hu:P.underlying t=some (.array n e))(ao:shapeOf P e=some aa){z:List AV}(a6:zeroOf P t=some (.R z)){ar:aJ->Option AV}
  {aC:List (Nat×Nat×aJ)} {iV:Array (Nat×Value)} {c:List AV}
  (aw:jc (λ(p:Nat×Nat×aJ) (q:Nat×Value)=>(p.1=q.1*shN aa/\p.2.1=shN aa)/\∀v,ar p.2.2=some v->ag w m O B v q.2) aC iV.toList)
  (h:iy ar (λoff _=>off) aC z=some c):∃u,(Instr.build t iV).run P w= .ok u w/\ag w m O B (.R c) u:=by
 obtain⟨_,cz,_⟩:=lz ao w;obtain⟨eP,iJ,k0,mZ⟩:=r6 a6 w;obtain⟨e2,rfl,ny,Nd⟩:=(k0 w m O B).qR;have qS:jc (λ(p:Nat×Nat×aJ) (q:Nat×Value)=>(λi=>some (i*shN aa,shN aa)) q.1=some (p.1,p.2.1)/\∀v,ar p.2.2=some v->ag w m O B v q.2) aC iV.toList:=by
  clear h;revert aw;generalize iV.toList=g1
  induction aC generalizing g1 with
  |nil=>cases g1<;>exact id
  |cons p aC aH=>
   cases g1 with
   |nil=>exact id
   |cons q g1=>
    rintro⟨⟨⟨h1,h2⟩,au⟩,aq⟩;exact⟨⟨by rw[h1,h2],au⟩,aH g1 aq⟩
 obtain⟨nx,h1,h2,h3,_⟩:=Ds (place:=λi=>some (i*shN aa,shN aa)) (b0:=λoff _=>off) aC iV.toList z c e2 qS ny Nd h;refine⟨.agg nx,?_,by have:=ag.yz h2 h3;simpa using this⟩;simp only[Instr.build,cB,iJ,e7,run_underlying hu,Value.cells,cz];simp[h1]
def Va(z:List AV):f_ 0 z=[]:=rfl
def Vb(n:Nat)(z:List AV):f_ (n+1) z=z++f_ n z:=rfl
def AM{z:List AV}{e2:List Value}(a6:bQ w m O B z e2):∀n,bQ w m O B (f_ n z) ((List.range (n*e2.length)).map λi=>e2[i%e2.length]!)
 |0=>by simp[Va];exact bQ.nil
 |n+1=>by
  rw[Vb,G_,qK,uX,List.range_add,hQ,Ax];have aH:=AM a6 n;by_cases h0:e2.length=0
  ·have:e2=[]:=oU h0;subst this;have b0F:z=[]:=oU (by have:=a6.1;simpa using this.symm);subst b0F;simpa using aH
  ·refine bQ.append ?_ ?_
   ·have:((List.range e2.length).map λi=>e2[i%e2.length]!)=e2:=by
     apply ym
     ·simp
     ·intro i h1 h2;simp only[mQ,yn];rw[Nat.mod_eq_of_lt h2];simp[h2]
    rw[this];exact a6
   ·have:((λi=>e2[i%e2.length]!)∘λx=>e2.length+x)=λi=>e2[i%e2.length]! :=by
     funext i;simp
    rw[this];exact aH
def AN{z:List AV}(a6:∀x∈z,conf none x=true):∀n,∀x∈f_ n z,conf none x=true
 |0,x,hx=>by simp[Va] at hx
 |n+1,x,hx=>by
  rw[Vb] at hx;rcases tl.1 hx with h|h
  ·exact a6 x h
  ·exact AN a6 n x h
end
section
variable {P:Program}{J:ae}{w:World}{m:Nat->Option Nat}{B:Nat}{f:Nat}
def b0G(aq:Rel P J w m B){t e:TypeId}{aa:Option Nat}(hu:P.underlying t=some (.slice e))(ao:shapeOf P e=some aa){z:AV}(a6:zeroOf P e=some z)(wM:z.cells.length=shN aa){n:Nat}(hn:n*shN aa<=16777216){ar:aJ->Option AV}
  {aC:List (Nat×Nat×aJ)} {iV:Array (Nat×Value)} {c:List AV}
  (aw:jc (λ(p:Nat×Nat×aJ) (q:Nat×Value)=>(p.1=q.1/\p.2.1=shN aa)/\∀v,ar p.2.2=some v->ag w m (bq J m) B v q.2) aC iV.toList)
  (h:iy ar (λi b0=>i*b0) aC (f_ n z.cells)=some c):
  ∃cj av aT,(Instr.buildSlice t n iV).run P w= .ok cj av/\ag av aT (bq (J.push (.cells c)) aT) B (.al J.next 0 n aa (some n)) cj/\Rel P (J.push (.cells c)) av aT B/\Ext f J w m (J.push (.cells c)) av aT:=by
 obtain⟨_,cz,_⟩:=lz ao w;obtain⟨eP,iJ,k0,mZ⟩:=r6 a6 w;have ny:=(k0 w m (bq J m) B).cells;have mv:eP.cells.size=shN aa:=by have:=ny.1;simp at this;omega
 have qS:jc (λ(p:Nat×Nat×aJ) (q:Nat×Value)=>(λi=>some (i*shN aa,shN aa)) q.1=some (p.1*p.2.1,p.2.1)/\∀v,ar p.2.2=some v->ag w m (bq J m) B v q.2) aC iV.toList:=by
  clear h;revert aw;generalize iV.toList=g1
  induction aC generalizing g1 with
  |nil=>cases g1<;>exact id
  |cons p aC aH=>
   cases g1 with
   |nil=>exact id
   |cons q g1=>
    rintro⟨⟨⟨h1,h2⟩,au⟩,aq⟩;exact⟨⟨by rw[h1,h2],au⟩,aH g1 aq⟩
 have n4:=AM ny n;have Ng:=AN mZ n;have wN:eP.cells.toList.length=shN aa:=by simp[mv]
 rw[wN] at n4;obtain⟨nx,h1,h2,h3,aO⟩:=Ds (place:=λi=>some (i*shN aa,shN aa)) aC iV.toList (f_ n z.cells) c ((Array.range (n*shN aa)).map λi=>eP.cells.toList[i%shN aa]!) qS
  (by simpa [yo] using n4) Ng h
 obtain⟨av,aT,h4,kl,o1,u_,Dt⟩:=Hy aq f (el:=e) h2 h3;have AP:nx.size=n*shN aa:=by
  have aX:=h2.1;have bc:=n4.1;simp at aX bc;omega
 refine⟨.slice (some ⟨w.heap.size,0,none⟩) n n,av,aT,?_,.al kl (bs _) (λc ab=>by cases ab;rfl) (n:=nx.size) (by unfold eK;rw[o1]) U,u_,Dt⟩;have Nh:¬(n*shN aa > 2^24):=by omega
 simp only[Instr.buildSlice,cB,run_underlying hu,e7,cz];rw[if_neg Nh];by_cases h0:n*shN aa=0
 ·have aL:((Array.range (n*shN aa)).map λi=>eP.cells.toList[i%shN aa]!)= #[]:=by rw[h0];apply T9;simp
  rw[aL] at h1;rw[if_pos h0];simp only[cB,fX,e7,h0];have cy:((Array.range 0).map λx=>(#[]:Array Value)[x%(#[]:Array Value).size]!)= #[]:=by apply T9;simp
  rw[cy,h1];simp[h4]
 ·have aL:((Array.range (n*shN aa)).map λi=>eP.cells.toList[i%shN aa]!)=((Array.range (n*shN aa)).map λi=>eP.cells[i%eP.cells.size]!):=by
   apply T9;simp only[uY,yo];apply mj;intro a _;rw[mv,MK,qL];simp
  rw[aL] at h1;simp only[h0,if_false,cB,iJ,e7,fX];simp only[h1];simp[h4]
end
section
variable {P:Program}{w:World}{m:Nat->Option Nat}{O:Nat->Prop}{B:Nat}
def Vc{aa hS:Option Nat}{v:AV}(h:conf aa v=true)(h':conf hS v=true):aa=hS:=by
 cases aa<;>cases hS<;>cases v<;>simp[conf] at h h'<;>first|rfl|(subst h;simp_all)
def b0H(aa:Option Nat)(c:List AV):elems aa 0 c=some []:=rfl
def elems_succ(aa:Option Nat)(n:Nat)(c:List AV):elems aa (n+1) c=match dV aa c with
 |none=>none
 |some v=>match elems aa n (c.drop (shN aa)) with|none=>none|some bo=>some (v::bo):=rfl
def AQ{aa:Option Nat}:∀ {n:Nat} {c:List AV} {bo:List AV},(∀x∈c,conf none x=true)->elems aa n c=some bo→
  bo.length=n/\bo.flatMap AV.cells=c.take (n*shN aa)/\n*shN aa<=c.length/\∀v∈bo,conf aa v=true
 |0,c,bo,_,h=>by rw[b0H] at h;cases h;simp
 |n+1,c,bo,hf,h=>by
  rw[elems_succ] at h;split at h<;>try (cases h;done)
  rename_i v au;split at h<;>cases h;rename_i tx n2;obtain⟨h1,h2,h3,aO⟩:=AQ (λx hx=>hf x (pK hx)) n2;obtain⟨bI,cx⟩:=UZ au hf;refine⟨by simp[h1],?_,?_,?_⟩
  ·rw[jY,h2,bI,G_,qK,uX (n*shN aa),List.take_add]
  ·simp at h3;rw[G_];omega
  ·intro bR n5;rcases dB.1 n5 with rfl|dI
   ·exact a9Z au hf
   ·exact aO bR dI
def b0I{xs:List AV}(h:∀v∈xs,∀x∈v.cells,conf none x=true):∀x∈xs.flatMap AV.cells,conf none x=true:=by
 intro x hx;obtain⟨v,au,hx⟩:=Ay.1 hx;exact h v au x hx
def vc{aa:Option Nat}{v:AV}(h:conf aa v=true):v.cells.length=shN aa:=by
 cases aa with
 |none=>cases v<;>simp[conf] at h<;>rfl
 |some n=>cases v<;>simp[conf] at h;exact h
def Vd{aa:Option Nat}{aD:Nat}:∀ {xs:List AV} {off:Nat} (bf:Nat->Nat->Value),(∀i (h:i<xs.length),conf aa (xs[i])=true)→
  (∀i (h:i<xs.length),∀j,j<(xs[i]).cells.length->w.cell? ⟨aD,off+i*shN aa+j,none⟩=some (bf i j))→
  (∀i (h:i<xs.length),∀j (ax:j<(xs[i]).cells.length),ag w (λ_=>none) O B ((xs[i]).cells[j]) (bf i j))→
  ∃us,bQ w m O B (xs.flatMap AV.cells) us/\us.length=xs.length*shN aa/\∀j u,us[j]? =some u->w.cell? ⟨aD,off+j,none⟩=some u
 |[],off,bf,_,_,_=>⟨[],bQ.nil,aF,λj u h=>by simp at h⟩
 |x::xs,off,bf,ao,ab,aq=>by
  have hx:=ao 0 aF;have hlen:=vc hx;simp only[C4] at hlen;obtain⟨us,h1,h2,h3⟩:=Vd (off:=off+shN aa) (xs:=xs) (λi j=>bf (i+1) j) (λi h=>ao (i+1) (by simpa using h))
   (λi h j ax=>by have:=ab (i+1) (by simpa using h) j (by simpa using ax);rw[<-this];congr 2;rw[G_];omega)
   (λi h j ax=>aq (i+1) (by simpa using h) j ax)
  refine⟨(List.range x.cells.length).map (bf 0)++us,?_,?_,?_⟩
  ·rw[jY];refine bQ.append ⟨aF,λi aX bc=>?_⟩ h1;have:=(aq 0 aF i (by simpa using aX)).up (m:=m);simpa using this
  ·simp[h2,hlen,G_];omega
  ·intro j u hu;rw[fi] at hu;simp only[uV,b7] at hu;split at hu
   ·rename_i ax;have:=ab 0 aF j (by simpa using ax);simp[ax] at hu;subst hu;simpa using this
   ·rename_i ax;have:=h3 _ u hu;rw[<-this];congr 2;omega
end
section
variable {P:Program}{J:ae}{w:World}{m:Nat->Option Nat}{B:Nat}{f:Nat}
def Du(aq:Rel P J w m B){x:AV}{u:Value}{xs:List AV}{aa:Option Nat}(hx:ag w m (bq J m) B x u)(h:readList J x=some xs)(ab:∀a∈xs,conf aa a=true):
  ∃base c us,u= .slice base xs.length c/\xs.length<=c/\bQ w m (bq J m) B (xs.flatMap AV.cells) us/\us.length=xs.length*shN aa/\(∀y∈xs.flatMap AV.cells,conf none y=true)∧
   (match base with|none=>xs=[]/\c=0|some a=>(xs≠[]->a.spot=none)/\(∀j v,us[j]? =some v->w.cell? (a.add j)=some v)/\(xs≠[]->a.block<w.heap.size)):=by
 unfold readList at h;split at h
 ·cases h;cases hx;exact⟨none,0,[],rfl,bs _,bQ.nil,aF,λy hy=>by simp at hy,rfl,rfl⟩
 ·rename_i c7G hS c7H;cases h;cases hx with
  |lW=>exact⟨none,0,[],rfl,bs _,bQ.nil,aF,λy hy=>by simp at hy,rfl,rfl⟩
  | @a_ _ _ _ _ _ _ aD off gl sp bf ch ao n6 iT hl hf fy=>
   by_cases he:xs=[]
   ·subst he;exact⟨some ⟨aD,off,sp⟩,gl,[],rfl,aF,bQ.nil,aF,λy hy=>by simp at hy,λh=>absurd I h,λj v h=>by simp at h,λh=>absurd I h⟩
   ·have:hS=aa:=by
     have h0:0<xs.length:=pM.2 he;exact Vc (ao 0 h0) (ab _ (gC h0))
    subst this;obtain⟨us,h1,h2,h3⟩:=Vd bf ao n6 iT;obtain rfl:=fy he;exact⟨some ⟨aD,off,none⟩,gl,us,rfl,hl,h1,h2,b0I hf,λ_=>rfl,λj v au=>by rw[lB];exact h3 j v au,λa7=>(ch a7).2.1⟩
 ·rename_i id off len hS cap;split at h<;>try (cases h;done)
  rename_i c hg;cases hx with
  | @al _ _ _ _ _ _ aD n gl _ _ hm hl hB hn mU=>
   obtain⟨arr,el,bp,hh,n6,r4,a6,kZ⟩:=aq.cells hm hg;obtain⟨h1,h2,h3,aO⟩:=AQ (λx hx=>kZ x (pK hx)) h;have b0J:xs≠[]->hS=aa:=λhe=>by
    have h0:0<xs.length:=pM.2 he;exact Vc (aO _ (gC h0)) (ab _ (gC h0))
   have hmul:len*shN hS=len*shN aa:=by
    by_cases he:xs=[]
    ·subst he;simp at h1;subst h1;simp
    ·rw[b0J he]
   refine⟨some ⟨aD,off,none⟩,gl,((arr.toList.take c.length).drop off).take (len*shN aa),by rw[h1],U,?_,?_,?_,λ_=>rfl,?_,λ_=>AI hh⟩
   ·rw[h2,hmul];exact(n6.drop off).take _
   ·simp at h3 ⊢;rw[h1];omega
   ·rw[h2];exact λy hy=>kZ y (pK (uU hy))
   ·intro j v au;rw[lB,AJ hh];obtain⟨ax,n5⟩:=jK.1 au;simp at ax;rw[<-n5];simp
 ·cases h
def b0K(l:List Nat):(l.map λc=>AV.i .u8 (Int.ofNat c)).flatMap AV.cells=l.map λc=>AV.i .u8 (Int.ofNat c):=by
 induction l with
 |nil=>rfl
 |cons a l aH=>rw[uW,jY,aH];rfl
def b0L(aq:Rel P J w m B){x:AV}{u:Value}{xs:List AV}{aa:Option Nat}{o4:TypeId}(ay:(∃c4,P.underlying o4=some (.slice c4))\/P.underlying o4=some .string)(hx:ag w m (bq J m) B x u)
  (h:newOf J x=some xs) (ab:∀a∈xs,conf aa a=true):
  ∃us,bQ w m (bq J m) B (xs.flatMap AV.cells) us/\us.length=xs.length*shN aa/\(∀y∈xs.flatMap AV.cells,conf none y=true)/\Src P (shN aa) o4 u xs.length us w:=by
 have one:∀ {us:List Value},bQ w m (bq J m) B (xs.flatMap AV.cells) us->(∀y∈xs.flatMap AV.cells,conf none y=true)->∀u∈us,u.oneCell'=true:=λ{us} h1 h2 u hu=>by
  obtain⟨i,hi,rfl⟩:=tj hu;have dq:i<(xs.flatMap AV.cells).length:=by rw[<-h1.1];exact hi
  exact(h1.2 i dq hi).UI (h2 _ (gC dq))
 unfold newOf at h;split at h
 ·rename_i l;cases h;obtain⟨rfl,hl⟩:=hx.pR;have AR:(l.map λc=>AV.i .u8 (Int.ofNat c)).flatMap AV.cells=l.map λc=>AV.i .u8 (Int.ofNat c):=b0K l;have cz:l≠[]->shN aa=1:=λa7=>by
   cases l with
   |nil=>exact absurd I a7
   |cons a l=>
    have:=ab (.i .u8 (Int.ofNat a)) aF;cases aa with
    |none=>rfl
    |some n=>simp[conf] at this
  have HJ:byteCells (strOf l)=l.map λc=>Value.int .u8 (Int.ofNat c):=by
   unfold byteCells;rw[UO,Ax];apply mj;intro c AS;have:c<256:=hl c AS;simp;omega
  have AT:bQ w m (bq J m) B ((l.map λc=>AV.i .u8 (Int.ofNat c)).flatMap AV.cells) (byteCells (strOf l)):=by
   rw[AR,HJ];exact⟨aF,λi h1 h2=>by simpa using ag.i _ _⟩
  have Ve:∀y∈(l.map λc=>AV.i .u8 (Int.ofNat c)).flatMap AV.cells,conf none y=true:=by
   rw[AR];intro y hy;obtain⟨c,_,rfl⟩:=ti.1 hy;rfl
  have hlen:(byteCells (strOf l)).length=(l.map λc=>AV.i .u8 (Int.ofNat c)).length*shN aa:=by
   rw[HJ];by_cases he:l=[]
   ·subst he;simp
   ·rw[cz he];simp
  refine⟨byteCells (strOf l),AT,hlen,Ve,⟨ay,λav=>?_,?_,?_,hlen,one AT Ve⟩⟩
  ·simp[Builtin.lenOf,wJ]
  ·have:(l.map λc=>AV.i .u8 (Int.ofNat c)).length=(strOf l).size:=by simp[wJ]
   rw[this];have:=firstCells_string (P:=P) (strOf l) w;simpa [Builtin.firstCells] using this
  ·have:(l.map λc=>AV.i .u8 (Int.ofNat c)).length=(strOf l).size:=by simp[wJ]
   rw[this];have:=firstCells_string (P:=P) (strOf l) w.drew;simpa [Builtin.firstCells] using this
 ·obtain⟨base,c,us,rfl,hle,h1,h2,h3,aO⟩:=Du aq hx h ab;refine⟨us,h1,h2,h3,⟨ay,λ_=>rfl,?_,?_,h2,one h1 h3⟩⟩
  ·cases base with
   |none=>obtain⟨rfl,_⟩:=aO;have:us=[]:=oU (by simpa using h2);subst this;exact run_firstCells_none w _ _ _ _
   |some a=>exact run_firstCells_some w _ _ a _ _ us h2 aO.2.1
  ·cases base with
   |none=>obtain⟨rfl,_⟩:=aO;have:us=[]:=oU (by simpa using h2);subst this;exact run_firstCells_none w.drew _ _ _ _
   |some a=>exact run_firstCells_some w.drew _ _ a _ _ us h2 (by simpa using aO.2.1)
def Ni(aq:Rel P J w m B)(f:Nat){t o4 ty e:TypeId}{i:TypeInfo}{z:Value}{aa:Option Nat}(ht:P.underlying t=some (.slice e))(hi:P.info? e=some i)(cz:i.size=shN aa)(a6:i.zero=some z)(mv:z.cells.size=shN aa)
  (yF:i.bytes≠0) {base:Option Addr} {jN qT n:Nat} {tC tD:List AV} {olds news:List Value} {x:Value} (ho:bQ w m (bq J m) B tC olds) (pT:olds.length=jN*shN aa) (b0M:∀y∈tC,conf none y=true)
  (kZ:(Builtin.firstCells (shN aa) jN (.slice base jN qT)).run P w.drew= .ok olds.toArray w.drew)
  (hn:bQ w m (bq J m) B tD news) (tE:news.length=n*shN aa) (b0N:∀y∈tD,conf none y=true) (ao:Src P (shN aa) o4 x n news w) (hg:qT<jN+n)
  (hb:(3*(jN+n)+2000)*i.bytes<=281474976710656):
  ∃u av aT,(Builtin.append_ #[t,o4] ty #[.slice base jN qT,x]).run P w= .ok u av/\ag av aT (bq (J.push (.cells (tC++tD))) aT) B (.al J.next 0 (jN+n) aa none) u∧
   Rel P (J.push (.cells (tC++tD))) av aT B/\Ext f J w m (J.push (.cells (tC++tD))) av aT:=by
 have k1:1<=i.bytes:=Ub.2 yF;have lC:(3*(jN+n)+2000)*1<=(3*(jN+n)+2000)*i.bytes:=Uc _ k1;have tF:2*((jN+n)*i.bytes)<=(3*(jN+n)+2000)*i.bytes:=by
  rw[<-Nat.mul_assoc];exact jX _ U
 have cf:=run_append_grow_src (P:=P) w t o4 ty e i z ht hi a6 base jN qT olds (by rw[cz];exact kZ) x n news (by rw[cz];exact ao) hg U (growslice_fits hg U);have m0:=grownCap_ge w (jN+n) qT e;have gj:=ho.1;have n7:=hn.1;have b0O:tC.length=jN*shN aa:=by omega
 have b0P:tD.length=n*shN aa:=by omega
 have wO:((olds++news).toArray++Builtin.zeroCells z.cells (grownCap w (jN+n) qT e-(jN+n))).size=grownCap w (jN+n) qT e*shN aa:=by
  simp only[Ud,List.size_toArray,size_zeroCells,mv,dv,pT,tE,← G_]
  congr 1;omega
 obtain⟨h1,h2⟩:=aq.alloc f (w.drew.alloc (.cells ((olds++news).toArray++Builtin.zeroCells z.cells (grownCap w (jN+n) qT e-(jN+n))) e)) (.cells (tC++tD)) _ I I I I I
  (.cells (by rw[wO,dv,b0O,b0P,← G_];exact jX _ m0) (λj h h'=>by
   have ax:j<(olds++news).length:=by simp only[dv] at h ⊢;omega
   have:=(ho.append hn).2 j h ax;rw[Ue (by simpa using ax)];simpa using this) (λj _=>by simp) (λy hy=>(tl.1 hy).elim (b0M y) (b0N y)))
 refine⟨_,_,_,cf,.al (hY _ _ _) m0 (λc ab=>by cases ab) (n:=grownCap w (jN+n) qT e*shN aa) ?_ U,h1,h2⟩;have:(w.drew.alloc (.cells ((olds++news).toArray++Builtin.zeroCells z.cells (grownCap w (jN+n) qT e-(jN+n))) e)).heap[w.heap.size]? =some (.cells ((olds++news).toArray++Builtin.zeroCells z.cells (grownCap w (jN+n) qT e-(jN+n))) e):=by
  exact heap_alloc_new w.drew _
 unfold eK;rw[this];simp only[wO]
end
def n8{α:Type}{p:α->Bool}:∀ {l:List α},cD p l=true->∀x∈l,p x=true
 |[],_,x,hx=>by simp at hx
 |y::l,h,x,hx=>by
  have h':cond (p y) (cD p l) false=true:=h;cases hy:p y with
  |false=>rw[hy] at h';cases h'
  |true=>
   rw[hy] at h';rcases dB.1 hx with rfl|hx
   ·exact hy
   ·exact n8 h' x hx
def b0Q{b:Bool}(h:¬b=true):b=false:=by cases b<;>simp at h<;>rfl
section
variable {P:Program}{J:ae}{w:World}{m:Nat->Option Nat}{B:Nat}{f:Nat}
def b0R(aq:Rel P J w m B){t o4 ty e:TypeId}{i:TypeInfo}{wP:Value}{aa:Option Nat}(ht:P.underlying t=some (.slice e))(hi:P.info? e=some i)(cz:i.size=shN aa)(a6:i.zero=some wP)(mv:wP.cells.size=shN aa)
  (yF:i.bytes≠0) (ay:(∃c4,P.underlying o4=some (.slice c4))\/P.underlying o4=some .string) {s x:AV} {us Dv:Value} (ao:ag w m (bq J m) B s us) (hx:ag w m (bq J m) B x Dv)
  {v:AV} {ai:ae} (h:appendO f J aa i.bytes s x=some (v,ai)):
  ∃u av aT,(Builtin.append_ #[t,o4] ty #[us,Dv]).run P w= .ok u av/\ag av aT (bq ai aT) B v u/\Rel P ai av aT B/\Ext f J w m ai av aT:=by
 unfold appendO at h;split at h<;>try (cases h;done)
 rename_i old new hold ly;cases hb:(cD (conf aa) old&&cD (conf aa) new&&Nat.ble ((3*(old.length+new.length)+2000)*i.bytes) 281474976710656) with
 |false=>rw[hb] at h;cases h
 |true=>
  rw[hb,cond_true] at h;simp only[C2] at hb;obtain⟨⟨k1,lC⟩,tF⟩:=hb;have Nj:=pL tF;obtain⟨news,iC,h6,n9,AU⟩:=b0L aq ay hx ly (n8 lC);obtain⟨base,c,olds,rfl,eG,n_,pU,Nk,Nl⟩:=Du aq ao hold (n8 k1);have kZ:(Builtin.firstCells (shN aa) old.length (.slice base old.length c)).run P w.drew= .ok olds.toArray w.drew:=by
   cases base with
   |none=>obtain⟨rfl,_⟩:=Nl;have:olds=[]:=oU (by simpa using pU);subst this;exact run_firstCells_none w.drew _ _ _ _
   |some a=>exact run_firstCells_some w.drew _ _ a _ _ olds pU (by simpa using Nl.2.1)
  split at h
  ·-- nothing
   cases h;have tE:news=[]:=oU (by simpa using h6);subst tE;exact⟨_,w,m,run_append_nothing (P:=P) w t o4 ty e i ht hi base old.length c eG Dv (by rw[cz];exact AU),ao,aq,Ext.refl _ _ _ _⟩
  ·rename_i AW Vf;generalize AX:AW::Vf=new at *;have Nm:0<new.length:=by rw[<-AX];simp
   clear AX AW Vf;split at h<;>try (cases h;done)
   ·-- a row of u1 store
    rename_i id off len hS cap;split at h<;>try (cases h;done)
    rename_i iA;subst iA;have Vg:=ao;generalize l0:Value.slice base old.length c=us at ao;cases ao with
    | @al _ _ _ _ _ _ aD pV gl _ _ hm hl hB hn mU=>
    cases l0;have Vh:∀ts,J.get id=some (.cells ts)->live J id:=λts hg=>⟨_,hg,rfl⟩
    obtain⟨ts,hg⟩:∃ts,J.get id=some (.cells ts):=by
     simp only[readList] at hold;split at hold
     ·exact⟨_,by assumption⟩
     ·cases hold
    obtain⟨arr,el,bp,hh,n6,r4,Nn,b0S⟩:=aq.cells hm hg;have Dw:arr.size=pV:=by unfold eK at hn;rw[hh] at hn;simpa using hn
    have yG:old.flatMap AV.cells=(ts.drop off).take (old.length*shN hS)/\old.length*shN hS<=(ts.drop off).length:=by
     simp only[readList,hg] at hold;obtain⟨aX,bc,cq,_⟩:=AQ (λx hx=>b0S x (pK hx)) hold;exact⟨bc,cq⟩
    have room:old.length+new.length<=c->(Builtin.append_ #[t,o4] ty #[.slice (some ⟨aD,off,none⟩) old.length c,Dv]).run P w= .ok (.slice (some ⟨aD,off,none⟩) (old.length+new.length) c) (w.setCells aD (off+old.length*shN hS) news):=λqU=>by
     have hmul:=jX (shN hS) qU;rw[G_] at hmul;have:=run_append_room_src (P:=P) w t o4 ty e i ht hi aD off old.length c Dv new.length news (by rw[cz];exact AU) qU
      (λj ax=>by rw[cz,AJ hh,b9 U];rfl)
      (λj ax=>by rw[cz,M6 hh];exact Nn _ U)
     rw[cz] at this;exact this
    split at h
    ·rename_i k2;obtain rfl:=hB k2 I;cases qU:Nat.ble (old.length+new.length) c with
     |true=>
      rw[qU,cond_true] at h;have No:=pL qU;split at h<;>try (cases h;done)
      rename_i ep;simp only[hg] at h;split at h<;>cases h;rename_i hU cR;obtain⟨av,h2,h3,aO⟩:=M7 (f:=f) aq (by simpa [MD] using ep) hm hg cR iC n9;have h1:∀u∈news,u.oneCell'=true:=AU.one;have hmul:=jX (shN hS) No;rw[G_] at hmul;have cf:=run_storeCells_cells (P:=P) aD (off+old.length*shN hS) news 0 w
       (λj ax=>by rw[AJ hh,b9 U];rfl)
       (λj ax=>by rw[M6 hh];exact Nn _ U) h1
      have hw:av=w.setCells aD (off+old.length*shN hS) news:=by
       rw[h2] at cf;simpa using cf
      refine⟨_,av,m,by rw[hw];exact room No,?_,h3,aO⟩;exact .al (aO.mono _ _ hm) No (λc ab=>by cases ab;rfl) (aO.bK _ _ hn) mU
     |false=>
      rw[qU,cond_false] at h;cases h;have vd:c<old.length+new.length:=by
       rcases MG c (old.length+new.length) with h|h
       ·exact h
       ·rw[iR h] at qU;cases qU
      exact Ni aq f ht hi cz a6 mv yF n_ pU Nk kZ iC h6 n9 AU vd Nj
    ·split at h<;>try (cases h;done)
     rename_i ep;have pW:f<=id:=by simpa [MD] using ep
     split at h<;>cases h;rename_i Nf;obtain rfl:=gb Nf;by_cases qU:old.length+new.length<=c
     ·have hmul:=jX (shN hS) qU;rw[G_] at hmul;obtain⟨h4,kl,o1,u_⟩:=M1 news w aD (0+old.length*shN hS);have yA:=M0 news w aD (0+old.length*shN hS) arr el bp hh;have nw:(old.flatMap AV.cells).length=old.length*shN hS:=by have:=n_.1;omega
      have nz:(new.flatMap AV.cells).length=new.length*shN hS:=by have:=iC.1;omega
      have df:=aq.move pW hm (Vh _ hg) (w.setCells aD (0+old.length*shN hS) news) (.cells (old.flatMap AV.cells++new.flatMap AV.cells)) I h4 (λb hb=>heap_setCells_other news w aD _ b hb) (f:=f)
       (λn hn=>by unfold eK at hn ⊢;rw[hh] at hn;rw[yA];simpa [yw] using hn) kl o1 u_ ⟨_,yA,?_⟩
      ·obtain⟨h3,aO⟩:=df;exact⟨_,_,_,room qU,.al (hY _ _ _) qU (λc ab=>by cases ab) (aO.bK _ _ hn) mU,h3,aO⟩
      ·refine .cells (by rw[yw,dv,nw,nz];omega) (λj h h'=>?_) (by rw[yw];exact Nn) (λy hy=>(tl.1 hy).elim (Nk y) (n9 y));rw[dv] at h;have yH:=Hv news arr (0+old.length*shN hS) j U;rw[b9 h'] at yH;by_cases ax:j<(old.flatMap AV.cells).length
       ·rw[cM ax];rw[if_neg U] at yH;have mw:=n_.2 j ax (by rw[n_.1];exact ax);have Np:arr[j]? =some (olds[j]'(by rw[n_.1];exact ax)):=by
         have:=Nl.2.1 j _ (fw (by rw[n_.1];exact ax));rw[lB,AJ hh] at this;simpa using this
        rw[Np] at yH;rw[wF yH];exact mw
       ·rw[iw U];rw[if_pos U] at yH;have gK:j-(0+old.length*shN hS)=j-(old.flatMap AV.cells).length:=by omega
        rw[gK,fw U] at yH;rw[wF yH];exact iC.2 _ U _
     ·have b0T:=aq.dd (f:=f) pW hm (Vh _ hg) w .dead I (λ_ _=>rfl) (λ_ h=>h) I I I (λh=>by cases h);obtain⟨mx,g9⟩:=b0T;have AY:J.next=(J.set id .dead).next:=rfl;have b0U:=Ni (ty:=ty) mx f ht hi cz a6 mv yF (n_.ext g9 aq) pU Nk kZ (iC.ext g9 aq) h6 n9 AU U Nj;obtain⟨u,av,aT,bU,bV,cp,cX⟩:=b0U;exact⟨u,av,aT,bU,bV,cp,g9.trans aq cX⟩
   ·cases h;have b0V:old=[]:=by simp only[readList] at hold;cases hold;rfl
    subst b0V;cases ao;have h0:olds=[]:=oU (by simpa using pU);subst h0;have:=Ni (ty:=ty) aq f ht hi cz a6 mv yF (tC:=[]) (olds:=[]) (jN:=0) (qT:=0) bQ.nil aF (λy hy=>by simp at hy) kZ iC h6 n9 AU U (by simpa using Nj);simpa using this
def HL{b:Nat}{o:Obj}(h:w.heap[b]? =some o)(ab:∀c e z,o≠ .cells c e z):(getObj b).run P w= .ok o w:=by
 simp only[getObj,Sem.run,h]
def Vi{b:Nat}{o:Obj}(bX:Obj)(h:w.heap[b]? =some o)(ab:∀c e z,o≠ .cells c e z):(setObj b bX).run P w= .ok () {w with heap:=w.heap.setIfInBounds b bX}:=by
 simp only[setObj,Sem.run,h]
def b0W{t ty n e:TypeId}(ht:P.underlying t=some (.array n e))(u:Value):(Builtin.len_ #[t] ty #[u]).run P w= .ok (.int .i64 (Int.ofNat n)) w:=by
 simp[Builtin.len_,run_underlying ht,goInt]
def Nq(aq:Rel P J w m B){t ty:TypeId}{k:Nat}(ht:(k=1/\∃e,P.underlying t=some (.slice e))\/(k=0/\P.underlying t=some .string)\/(k=2/\∃a e,P.underlying t=some (.map a e))){x:AV}{n:Nat}{u:Value}(hx:ag w m (bq J m) B x u)
  (h:lenA J k x=some n):(Builtin.len_ #[t] ty #[u]).run P w= .ok (.int .i64 (Int.ofNat n)) w:=by
 unfold lenA at h;split at h
 ·cases h;obtain⟨rfl,_⟩:=hx.pR;rcases ht with⟨h,_⟩|⟨_,ht⟩|⟨h,_⟩<;>first|(cases h;done)|skip
  simp[Builtin.len_,run_underlying ht,goInt,wJ]
 ·cases h;cases hx;rcases ht with⟨_,e,ht⟩|⟨h,_⟩|⟨h,_⟩<;>first|(cases h;done)|skip
  simp[Builtin.len_,run_underlying ht,goInt]
 ·cases h;cases hx;rcases ht with⟨_,e,ht⟩|⟨h,_⟩|⟨h,_⟩<;>first|(cases h;done)|skip
  simp[Builtin.len_,run_underlying ht,goInt]
 ·cases h;rcases ht with⟨_,e,ht⟩|⟨h,_⟩|⟨h,_⟩<;>first|(cases h;done)|skip
  cases hx<;>simp[Builtin.len_,run_underlying ht,goInt]
 ·cases h;cases hx;rcases ht with⟨h,_⟩|⟨h,_⟩|⟨_,a,e,ht⟩<;>first|(cases h;done)|skip
  simp[Builtin.len_,run_underlying ht,goInt]
 ·split at h<;>cases h;rename_i es an hg;obtain⟨aD,hm,rfl⟩:=hx.Hz;obtain⟨bX,h1,h2⟩:=aq.obj _ _ _ hm hg I;rcases ht with⟨h,_⟩|⟨h,_⟩|⟨_,a,e,ht⟩<;>first|(cases h;done)|skip
  cases h2 with
  |map hl _=>simp[Builtin.len_,run_underlying ht,goInt,HL h1 (λ_ _ _ h=>by cases h),hl]
 ·cases h
def Vj{k:Nat}{x:AV}{r:bZ}(h:lenU J k x=some r):k=0/\∃ex,x= .ic ex/\r= .j1 [(.iI true,J),(.iI false,J)]:=by
 unfold lenU at h;split at h<;>cases h;exact⟨rfl,_,rfl,rfl⟩
def Dx{k:Nat}{x:AV}{r:bZ}(h:lenU J k x=some r):r= .j1 [(.iI true,J),(.iI false,J)]:=by
 obtain⟨_,_,_,h⟩:=Vj h;exact h
def b0X{t ty e:TypeId}(ht:P.underlying t=some (.slice e)){x:AV}{n:Nat}{u:Value}{O:Nat->Prop}(hx:ag w m O B x u)
  (h:capA x=some n):(Builtin.cap_ #[t] ty #[u]).run P w= .ok (.int .i64 (Int.ofNat n)) w:=by
 unfold capA at h;split at h<;>cases h
 ·cases hx;simp[Builtin.cap_,run_underlying ht,goInt]
 ·cases hx with
  |al h hl ab hn mU=>
   obtain rfl:=ab _ I;simp[Builtin.cap_,run_underlying ht,goInt]
def Vk{k:IntKind}{a b:Int}{u cj:Value}{O:Nat->Prop}(hx:ag w m O B (.i k a) u)(hy:ag w m O B (.i k b) cj)(t:TypeId)(lE:Array TypeId):
  (Builtin.min_ lE t #[u,cj]).run P w= .ok (.int k (if b<a then b else a)) w/\(Builtin.max_ lE t #[u,cj]).run P w= .ok (.int k (if b > a then b else a)) w:=by
 obtain rfl:=hx.mr;obtain rfl:=hy.mr;constructor
 ·simp[Builtin.min_,Builtin.min2]
 ·simp[Builtin.max_,Builtin.max2]
end
section
variable {P:Program}{w:World}{m:Nat->Option Nat}{O:Nat->Prop}{B:Nat}
def Vl(k:Nat)(d:TypeDesc):Prop:=(k=0/\∃j,d= .int j)\/(k=1/\d= .string)\/(k=2/\d= .bool)
def Nr{t:TypeId}{k:Nat}(h:leafKind P t=some k):∃d,P.underlying t=some d/\Vl k d:=by
 unfold leafKind at h;split at h<;>cases h
 ·exact⟨_,by assumption,.inl ⟨rfl,_,rfl⟩⟩
 ·exact⟨_,by assumption,.inr (.inl ⟨rfl,rfl⟩)⟩
 ·exact⟨_,by assumption,.inr (.inr ⟨rfl,rfl⟩)⟩
def b0Y{x y:List Nat}(hx:∀c∈x,c<256)(hy:∀c∈y,c<256):(strOf x==strOf y)=eqL x y:=by
 rw[oS,ns,o2];constructor
 ·intro h;have:=congrArg ByteArray.toList h;rw[AK,AK] at this;exact M9 x y hx hy this
 ·rintro rfl;rfl
def yI{t:TypeId}{k:Nat}(ay:leafKind P t=some k){x y:AV}{u v:Value}{r:Bool}(hx:ag w m O B x u)(hy:ag w m O B y v)(h:leafEq k x y=some r):
  (∀d av,(Op.equalIn (d+1) t u v).run P av= .ok r av)/\(∃d,P.underlying t=some d/\Vl k d/\Instr.sameNow d u v=some r)/\(r=true->∀n,Instr.sameBits n u v=true)/\(∀e d av,(Instr.checkKey e (d+1) t u).run P av= .ok () av):=by
 obtain⟨d,hd,r9⟩:=Nr ay;unfold leafEq at h;split at h
 ·rename_i bx a bb b;split at h<;>cases h;rename_i r_;subst r_;obtain rfl:=hx.mr;obtain rfl:=hy.mr;rcases r9 with⟨_,j,rfl⟩|⟨h,_⟩|⟨h,_⟩<;>first|(cases h;done)|skip
  have iU:(a==b)=decide (a=b):=by rw[oS];simp
  refine⟨λd av=>?_,⟨_,hd,.inl ⟨rfl,j,rfl⟩,?_⟩,λaq n=>?_,λe d av=>?_⟩
  ·simp[Op.equalIn,run_underlying hd,iU]
  ·simp[Instr.sameNow,iU]
  ·simp at aq;subst aq;simp[Instr.sameBits]
  ·simp[Instr.checkKey,run_underlying hd]
 ·rename_i a b;cases h;obtain⟨rfl,h1⟩:=hx.pR;obtain⟨rfl,h2⟩:=hy.pR;rcases r9 with⟨h,_⟩|⟨_,rfl⟩|⟨h,_⟩<;>first|(cases h;done)|skip
  have iU:=b0Y h1 h2;refine⟨λd av=>?_,⟨_,hd,.inr (.inl ⟨rfl,rfl⟩),?_⟩,λaq n=>?_,λe d av=>?_⟩
  ·simp[Op.equalIn,run_underlying hd,iU]
  ·simp[Instr.sameNow,iU]
  ·simp[Instr.sameBits,iU,aq]
  ·simp[Instr.checkKey,run_underlying hd]
 ·rename_i a b;cases h;obtain rfl:=hx.wK;obtain rfl:=hy.wK;rcases r9 with⟨h,_⟩|⟨h,_⟩|⟨_,rfl⟩<;>first|(cases h;done)|skip
  refine⟨λd av=>?_,⟨_,hd,.inr (.inr ⟨rfl,rfl⟩),?_⟩,λaq n=>?_,λe d av=>?_⟩
  ·simp[Op.equalIn,run_underlying hd]
  ·simp[Instr.sameNow]
  ·simp[Instr.sameBits];simpa using aq
  ·simp[Instr.checkKey,run_underlying hd]
 ·rename_i ex b;cases hm:qM b ex with
  |false=>rw[hm] at h;cases h
  |true=>
   rw[hm] at h;cases h;obtain⟨s,rfl,a7⟩:=HC hx hm;obtain⟨rfl,h2⟩:=hy.pR;rcases r9 with⟨h,_⟩|⟨_,rfl⟩|⟨h,_⟩<;>first|(cases h;done)|skip
   have iU:=UU a7;refine⟨λd av=>?_,⟨_,hd,.inr (.inl ⟨rfl,rfl⟩),?_⟩,λaq n=>?_,λe d av=>?_⟩
   ·simp[Op.equalIn,run_underlying hd,iU]
   ·simp[Instr.sameNow,iU]
   ·cases aq
   ·simp[Instr.checkKey,run_underlying hd]
 ·rename_i a ex;cases hm:qM a ex with
  |false=>rw[hm] at h;cases h
  |true=>
   rw[hm] at h;cases h;obtain⟨s,rfl,a7⟩:=HC hy hm;obtain⟨rfl,h2⟩:=hx.pR;rcases r9 with⟨h,_⟩|⟨_,rfl⟩|⟨h,_⟩<;>first|(cases h;done)|skip
   have iU:=UU (qI a7);refine⟨λd av=>?_,⟨_,hd,.inr (.inl ⟨rfl,rfl⟩),?_⟩,λaq n=>?_,λe d av=>?_⟩
   ·simp[Op.equalIn,run_underlying hd,iU]
   ·simp[Instr.sameNow,iU]
   ·cases aq
   ·simp[Instr.checkKey,run_underlying hd]
 ·cases h
def leafEqs_nil(l r:List AV):mR [] l r=match l,r with|[],[]=>some true|_,_=>none:=rfl
def leafEqs_cons(k:Nat)(bC:List Nat)(l r:List AV):mR (k::bC) l r=match l,r with
   |x::xs,y::bf=>match leafEq k x y,mR bC xs bf with|some a,some b=>some (a&&b)|_,_=>none
   |_,_=>none:=rfl
def Ns(P:Program)(i:Nat)(a8:List Field):Prop:=∀j (h:j<a8.length),(a8[j]).name≠ "_" ∧(a8[j]).offset=i+j/\shapeOf P (a8[j]).type=some none
def Dy{t:TypeId}(ao:shapeOf P t=some none){arr:Array Value}{i:Nat}{u:Value}(hu:arr[i]? =some u)(w:World):(part t arr i).run P w= .ok u w:=by
 obtain⟨h1,_⟩:=lz ao w;simp[part,h1,hu]
def forIn_eq{d:Nat}:∀(a8:List Field) (i:Nat) (bC:List Nat) (l r:List AV) (us bo:Array Value) (res:Bool),Ns P i a8->mapOL (λf=>leafKind P f.type) a8=some bC→
  bQ w m O B l (us.toList.drop i)->bQ w m O B r (bo.toList.drop i)->mR bC l r=some res->∀av,
  (forIn a8 ((none:Option Bool),()) (λ(f:Field) (_:Option Bool×Unit)=>
      if f.name= "_" then(pure (ForInStep.yield (none,())):Sem (ForInStep (Option Bool×Unit)))
      else do
       let a <-part f.type us f.offset
       let b <-part f.type bo f.offset
       let c <-Op.equalIn (d+1) f.type a b
       if c=false then pure (ForInStep.done (some false,())) else pure (ForInStep.yield (none,())))).run P av= .ok (if res then(none,()) else(some false,())) av
 |[],i,bC,l,r,us,bo,res,_,ay,hl,aq,h,av=>by
  simp[mapOL] at ay;subst ay;rw[leafEqs_nil] at h;split at h<;>cases h;simp
 |f::a8,i,bC,l,r,us,bo,res,hf,ay,hl,aq,h,av=>by
  rw[mapOL] at ay;split at ay<;>cases ay;rename_i k ve gF o3;rw[leafEqs_cons] at h;split at h<;>try (cases h;done)
  rename_i x xs y bf;split at h<;>cases h;rename_i a b ha hb;obtain⟨h1,h2,h3⟩:=hf 0 aF;simp only[C4,g5] at h1 h2 h3;obtain⟨u,hu,j4⟩:=hl.get (i:=0) (v:=x) I;obtain⟨v,au,Nt⟩:=aq.get (i:=0) (v:=y) I;rw[oR,g5,C0] at hu au;obtain⟨aL,_⟩:=yI gF j4 Nt ha;have lq:=Dy h3 hu;have nW:=Dy h3 au;have u6:bQ w m O B xs (us.toList.drop (i+1)):=by
   have:=hl.drop 1;simpa [oV] using this
  have sa:bQ w m O B bf (bo.toList.drop (i+1)):=by
   have:=aq.drop 1;simpa [oV] using this
  have aH:=forIn_eq a8 (i+1) ve xs bf us bo b (λj ax=>by
   have:=hf (j+1) (by simpa using ax);simp only[Hb] at this;exact⟨this.1,by rw[this.2.1];omega,this.2.2⟩) o3 u6 sa hb av (d:=d)
  rw[Hc];simp only[h1,if_false,cB,h2,lq,nW,e7,aL];cases a with
  |false=>simp
  |true=>simpa using aH
def Vm{e:Bool}{d:Nat}:∀(a8:List Field) (i:Nat) (bC:List Nat) (l:List AV) (us:Array Value) (res:Bool),Ns P i a8->mapOL (λf=>leafKind P f.type) a8=some bC→
  bQ w m O B l (us.toList.drop i)->mR bC l l=some res->∀av,
  (forIn a8 PUnit.unit (λ(f:Field) (_:PUnit)=>
      if f.name≠ "_" then(do
       let a <-part f.type us f.offset
       Instr.checkKey e (d+1) f.type a
       pure (ForInStep.yield PUnit.unit):Sem (ForInStep PUnit))
      else pure (ForInStep.yield PUnit.unit))).run P av= .ok PUnit.unit av
 |[],i,bC,l,us,res,_,ay,hl,h,av=>by simp
 |f::a8,i,bC,l,us,res,hf,ay,hl,h,av=>by
  rw[mapOL] at ay;split at ay<;>cases ay;rename_i k ve gF o3;rw[leafEqs_cons] at h;cases l with
  |nil=>cases h
  |cons x xs=>
  simp only at h;split at h<;>cases h;rename_i a b ha hb;obtain⟨h1,h2,h3⟩:=hf 0 aF;simp only[C4,g5] at h1 h2 h3;obtain⟨u,hu,j4⟩:=hl.get (i:=0) (v:=x) I;rw[oR,g5,C0] at hu;obtain⟨_,_,_,aL⟩:=yI gF j4 j4 ha;have lq:=Dy h3 hu;have u6:bQ w m O B xs (us.toList.drop (i+1)):=by
   have:=hl.drop 1;simpa [oV] using this
  have aH:=Vm (e:=e) (d:=d) a8 (i+1) ve xs us b (λj ax=>by
   have:=hf (j+1) (by simpa using ax);simp only[Hb] at this;exact⟨this.1,by rw[this.2.1];omega,this.2.2⟩) o3 u6 hb av
  rw[Hc];simp only[h1,ne_eq,not_false_eq_true,if_true,cB,h2,lq,e7,aL,fX];exact aH
def Vn:∀ {bC:List Nat} {a8:List Field} {l r:List AV} {us bo:List Value},mapOL (λf=>leafKind P f.type) a8=some bC->bQ w m O B l us->bQ w m O B r bo->mR bC l r=some true->∀n,
  us.length=bo.length/\(us.zip bo).all (λ(x,y)=>Instr.sameBits n x y)=true
 |[],a8,l,r,us,bo,ay,hl,aq,h,n=>by
  rw[leafEqs_nil] at h;split at h<;>cases h;have h1:=hl.1;have h2:=aq.1;simp at h1 h2;subst h1;subst h2;simp
 |k::bC,[],l,r,us,bo,ay,hl,aq,h,n=>by simp[mapOL] at ay
 |k::bC,f::a8,l,r,us,bo,ay,hl,aq,h,n=>by
  rw[mapOL] at ay;split at ay<;>cases ay;rename_i gF o3;rw[leafEqs_cons] at h;split at h<;>try (cases h;done)
  rename_i x xs y bf;split at h<;>try (cases h;done)
  rename_i a b ha hb;simp only[cL,C2] at h;obtain⟨rfl,rfl⟩:=h;obtain⟨u,HM,rfl⟩:∃u HM,us=u::HM:=by cases us with|nil=>have:=hl.1;simp at this|cons u HM=>exact⟨u,HM,rfl⟩
  obtain⟨v,tx,rfl⟩:∃v tx,bo=v::tx:=by cases bo with|nil=>have:=aq.1;simp at this|cons v tx=>exact⟨v,tx,rfl⟩
  have hu:ag w m O B x u:=hl.2 0 aF aF;have au:ag w m O B y v:=aq.2 0 aF aF;obtain⟨_,_,k1,_⟩:=yI gF hu au ha;obtain⟨i1,i2⟩:=Vn o3 (by simpa using hl.drop 1) (by simpa using aq.drop 1) hb n;exact⟨by simpa using i1,by simp only[Uf,List.all_cons,k1 I n,i2,ML]⟩
def HO{t:TypeId}{bC:List Nat}(h:keyOk P t=some (.inr bC)):∃a8,P.underlying t=some (.struct a8)/\P.stoodInHeld t=false/\Ns P 0 a8.toList/\mapOL (λf=>leafKind P f.type) a8.toList=some bC:=by
 unfold keyOk at h;split at h
 ·cases h
 ·split at h<;>try (cases h;done)
  rename_i a8 hu;split at h<;>try (cases h;done)
  rename_i ab;simp only[C2,wG,nY] at ab;cases hm:mapOL (λf=>leafKind P f.type) a8.toList with
  |none=>simp[hm] at h
  |some ve=>
   simp[hm] at h;subst h;refine⟨a8,hu,ab.1,λj ax=>?_,hm⟩;have:=ab.2 (a8.toList[j],j) (by rw[List.mem_iff_getElem];exact⟨j,by simpa using ax,aF⟩);simp only[C2,decide_eq_true_eq] at this;exact⟨this.1.1,by rw[this.1.2];omega,this.2⟩
def HP{t:TypeId}{k:Nat}(h:keyOk P t=some (.inl k)):leafKind P t=some k:=by
 unfold keyOk at h;split at h
 ·cases h;assumption
 ·split at h<;>try (cases h;done)
  split at h
  ·rename_i a8 _ _;cases hm:mapOL (λf=>leafKind P f.type) a8.toList with
   |none=>simp[hm] at h
   |some ve=>simp[hm] at h
  ·cases h
def eqStruct_run{t:TypeId}{a8:Array Field}(hu:P.underlying t=some (.struct a8))(ao:P.stoodInHeld t=false)(D:Nat)(us bo:Array Value)(av:World):
  (Op.equalIn (D+1) t (.agg us) (.agg bo)).run P av=((forIn a8.toList ((none:Option Bool),()) (λ(f:Field) (_:Option Bool×Unit)=>
      if f.name= "_" then(pure (ForInStep.yield (none,())):Sem (ForInStep (Option Bool×Unit)))
      else do
       let a <-part f.type us f.offset
       let b <-part f.type bo f.offset
       let c <-Op.equalIn D f.type a b
       if c=false then pure (ForInStep.done (some false,())) else pure (ForInStep.yield (none,())))).run P av).andThen (λa av=>Sem.run P (match a.fst with|some r=>pure r|none=>pure true) av):=by
 simp only[Op.equalIn,cB,run_underlying hu,e7];simp[ao]
 congr 1
 funext a bW
 obtain⟨a,_⟩:=a;cases a<;>rfl
def b0Z{t:TypeId}{a8:Array Field}(hu:P.underlying t=some (.struct a8))(e:Bool)(D:Nat)(us:Array Value)(av:World):
  (Instr.checkKey e (D+1) t (.agg us)).run P av=((forIn a8.toList PUnit.unit (λ(f:Field) (_:PUnit)=>
      if f.name≠ "_" then(do
       let a <-part f.type us f.offset
       Instr.checkKey e D f.type a
       pure (ForInStep.yield PUnit.unit):Sem (ForInStep PUnit))
      else pure (ForInStep.yield PUnit.unit))).run P av).andThen λ_ av=>Sem.run P (pure ()) av:=by
 simp only[Instr.checkKey,cB,run_underlying hu,e7];rw[<-Array.forIn_toList]
def HQ{t:TypeId}{aa:kE}(ay:keyOk P t=some aa){x y:AV}{u v:Value}{r:Bool}(hx:ag w m O B x u)(hy:ag w m O B y v)(h:keyEq aa x y=some r):
  (∀av,(Op.equal t u v).run P av= .ok r av)/\(r=true->Instr.sameBits 10000 u v=true):=by
 cases aa with
 |inl k=>
  obtain⟨h1,_,h2,_⟩:=yI (HP ay) hx hy h;exact⟨λav=>h1 9999 av,λaq=>h2 aq _⟩
 |inr bC=>
  obtain⟨a8,hu,ao,hf,hm⟩:=HO ay;simp only[keyEq] at h;split at h<;>try (cases h;done)
  obtain⟨us,rfl,hl,_⟩:=hx.qR;obtain⟨bo,rfl,aq,_⟩:=hy.qR;refine⟨λav=>?_,λb1a=>?_⟩
  ·have key:∀d,(Op.equalIn (d+2) t (.agg us) (.agg bo)).run P av= .ok r av:=λd=>by
    have:=forIn_eq (av:=av) (d:=d) a8.toList 0 bC _ _ us bo r hf hm (by simpa using hl) (by simpa using aq) h;rw[eqStruct_run hu ao (d+1),this];cases r<;>simp
   exact key 9998
  ·subst b1a;obtain⟨h1,h2⟩:=Vn (P:=P) hm hl aq h 9999;have key:∀n,Instr.sameBits (n+1) (.agg us) (.agg bo)=(us.size==bo.size&&(us.toList.zip bo.toList).all λ(x,y)=>Instr.sameBits n x y):=λn=>rfl;rw[show(10000:Nat)=9999+1 from rfl,key,h2];simpa using h1
def Vo{t:TypeId}{aa:kE}(ay:keyOk P t=some aa){x:AV}{u:Value}{r:Bool}(hx:ag w m O B x u)(h:keyEq aa x x=some r)(e:Bool)(av:World):(Instr.checkKey e 10000 t u).run P av= .ok () av:=by
 cases aa with
 |inl k=>
  obtain⟨_,_,_,h1⟩:=yI (HP ay) hx hx h;exact h1 e 9999 av
 |inr bC=>
  obtain⟨a8,hu,ao,hf,hm⟩:=HO ay;simp only[keyEq] at h;cases x<;>simp only[reduceCtorEq] at h;obtain⟨us,rfl,hl,_⟩:=hx.qR;have key:∀d,(Instr.checkKey e (d+2) t (.agg us)).run P av= .ok () av:=λd=>by
   have:=Vm (av:=av) (e:=e) (d:=d) a8.toList 0 bC _ us r hf hm (by simpa using hl) h;rw[b0Z hu e (d+1),this];rfl
  exact key 9998
def Vp{t:TypeId}{aa:kE}(ay:keyOk P t=some aa){x:AV}{u:Value}(hx:ag w m O B x u)(h:keySelf aa x=true)(e:Bool)(av:World):(Instr.checkKey e 10000 t u).run P av= .ok () av:=by
 unfold keySelf at h;split at h
 ·rename_i ex;obtain⟨d,hd,r9⟩:=Nr (HP ay);rcases r9 with⟨h,_⟩|⟨_,rfl⟩|⟨h,_⟩<;>first|(cases h;done)|skip
  cases hx with
  | @ic _ _ _ _ s _=>
   have key:∀d,(Instr.checkKey e (d+1) t (.string s)).run P av= .ok () av:=λd=>by simp[Instr.checkKey,run_underlying hd]
   exact key 9999
 ·split at h
  ·rename_i aq;exact Vo ay hx aq e av
  ·cases h
end
def Vq{α β:Type}{r:α->β->Prop}:∀ {l:List α} {cu:List β},cu.length=l.length->(∀i (h:i<l.length) (h':i<cu.length),r (l[i]) (cu[i]))->jc r l cu
 |[],[],_,_=>trivial
 |[],_::_,h,_=>by simp at h
 |_::_,[],h,_=>by simp at h
 |x::xs,y::bf,h,aq=>⟨aq 0 aF aF,Vq (by simpa using h) (λi a b=>aq (i+1) (by simpa using a) (by simpa using b))⟩
def yJ{α β:Type}{r:α->β->Prop}:∀ {l:List α} {cu:List β},jc r l cu->cu.length=l.length
 |[],[],_=>rfl
 |[],_::_,h=>h.elim
 |_::_,[],h=>h.elim
 |_::_,_::_,h=>by simp[yJ h.2]
def yK{α β:Type}{r:α->β->Prop}:∀ {l:List α} {cu:List β},jc r l cu->∀i (h:i<l.length) (h':i<cu.length),r (l[i]) (cu[i])
 |[],[],_,i,h,_=>by simp at h
 |[],_::_,h,_,_,_=>h.elim
 |_::_,[],h,_,_,_=>h.elim
 |_::_,_::_,h,i,h1,h2=>by
  cases i with
  |zero=>exact h.1
  |succ i=>exact yK h.2 i (by simpa using h1) (by simpa using h2)
abbrev kK:=AV×AV×Nat
def qV(aa:kE)(k:AV):List kK->Option Nat->Prop
 |[],none=>True
 |[],some _=>False
 |e::_,some 0=>keyEq aa k e.1=some true
 |e::es,some (i+1)=>keyEq aa k e.1=some false/\qV aa k es (some i)
 |e::es,none=>keyEq aa k e.1=some false/\qV aa k es none
def b1b(aa:kE)(k:AV):Da aa k []=some none:=rfl
def findE_cons(aa:kE)(k:AV)(e:kK)(es:List kK):Da aa k (e::es)=match keyEq aa k e.1 with|none=>none|some true=>some (some e.2.1)|some false=>Da aa k es:=rfl
def b1c(aa:kE)(k v:AV):qN aa k v []=some none:=rfl
def updE_cons(aa:kE)(k v:AV)(e:kK)(es:List kK):qN aa k v (e::es)=match keyEq aa k e.1 with
  |none=>none
  |some true=>some (some ((k,v,e.2.2)::es))
  |some false=>match qN aa k v es with|none=>none|some none=>some none|some (some es)=>some (some (e::es)):=rfl
def Nu{aa:kE}{k:AV}:∀ {es:List kK} {r:Option AV},Da aa k es=some r->(r=none/\qV aa k es none)\/∃i e,qV aa k es (some i)/\es[i]? =some e/\r=some e.2.1
 |[],r,h=>by rw[b1b] at h;cases h;exact .inl ⟨rfl,trivial⟩
 |e::es,r,h=>by
  rw[findE_cons] at h;split at h
  ·cases h
  ·rename_i ay;cases h;exact .inr ⟨0,e,ay,rfl,rfl⟩
  ·rename_i ay;rcases Nu h with⟨h1,h2⟩|⟨i,c4,h1,h2,h3⟩
   ·exact .inl ⟨h1,ay,h2⟩
   ·exact .inr ⟨i+1,c4,⟨ay,h1⟩,by simpa using h2,h3⟩
def Nv{aa:kE}{k v:AV}:∀ {es:List kK} {r:Option (List kK)},qN aa k v es=some r->(r=none/\qV aa k es none)\/∃i e,qV aa k es (some i)/\es[i]? =some e/\r=some (es.set i (k,v,e.2.2))
 |[],r,h=>by rw[b1c] at h;cases h;exact .inl ⟨rfl,trivial⟩
 |e::es,r,h=>by
  rw[updE_cons] at h;split at h
  ·cases h
  ·rename_i ay;cases h;exact .inr ⟨0,e,ay,rfl,rfl⟩
  ·rename_i ay;split at h<;>cases h
   ·rename_i hu;rcases Nv hu with⟨h1,h2⟩|⟨i,c4,h1,h2,h3⟩
    ·exact .inl ⟨rfl,ay,h2⟩
    ·cases h3
   ·rename_i qW hu;rcases Nv hu with⟨h1,h2⟩|⟨i,c4,h1,h2,h3⟩
    ·cases h1
    ·cases h3;exact .inr ⟨i+1,c4,⟨ay,h1⟩,by simpa using h2,rfl⟩
def Vr{k:Nat}{x y:AV}(h:leafEq k x y=some true):leafEq k y x=some true:=by
 unfold leafEq at h;split at h
 ·split at h<;>simp at h;rename_i e;subst e;subst h;simp[leafEq]
 ·simp only[cL,o2] at h;subst h;simp[leafEq,(o2 _ _).2 I]
 ·simp at h;subst h;simp[leafEq]
 ·rename_i ex b;cases hm:qM b ex<;>rw[hm] at h<;>cases h
 ·rename_i a ex;cases hm:qM a ex<;>rw[hm] at h<;>cases h
 ·cases h
def Vs:∀ {bC:List Nat} {x y:List AV},mR bC x y=some true->mR bC y x=some true
 |[],x,y,h=>by
  rw[leafEqs_nil] at h ⊢;split at h<;>cases h;rfl
 |k::bC,x,y,h=>by
  rw[leafEqs_cons] at h ⊢;split at h<;>try (cases h;done)
  split at h<;>try (cases h;done)
  rename_i ha hb;simp only[cL,C2] at h;obtain⟨rfl,rfl⟩:=h;simp only[Vr ha,Vs hb,ML]
def b1d{aa:kE}{x y:AV}(h:keyEq aa x y=some true):keyEq aa y x=some true:=by
 cases aa with
 |inl k=>exact Vr h
 |inr bC=>
  simp only[keyEq] at h ⊢;split at h<;>try (cases h;done)
  exact Vs h
section
variable {P:Program}{w:World}{m:Nat->Option Nat}{O:Nat->Prop}{B:Nat}
def vf(w:World)(m:Nat->Option Nat)(O:Nat->Prop)(B:Nat)(e:kK)(c4:MapEntry):Prop:=ag w m O B e.1 c4.key/\ag w m O B e.2.1 c4.val/\c4.born=e.2.2
def got(q:Option Nat)(n:Nat)(dY:List MapEntry):Option (Nat×Value):=match q with|none=>none|some i=>match dY[i]? with|some e=>some (i+n,e.val)|none=>none
def Nw{t:TypeId}{aa:kE}(ay:keyOk P t=some aa){k:AV}{u:Value}(hu:ag w m O B k u):∀ {es:List kK} {dY:List MapEntry} {q:Option Nat} (n:Nat),jc (vf w m O B) es dY->qV aa k es q->∀av,
  (Instr.findAsking t u dY n).run P av= .ok (got q n dY) av
 |[],[],q,n,_,h,av=>by
  cases q with
  |none=>simp[Instr.findAsking,got]
  |some i=>exact h.elim
 |[],_::_,_,_,h,_,_=>h.elim
 |_::_,[],_,_,h,_,_=>h.elim
 |e::es,c4::dY,q,n,aq,h,av=>by
  cases q with
  |none=>
   obtain⟨h1,h2⟩:=h;have:=(HQ ay hu aq.1.1 h1).1 av;have aH:=Nw ay hu (n+1) aq.2 h2 av;simp[Instr.findAsking,this,aH,got]
  |some i=>
   cases i with
   |zero=>
    have:=(HQ ay hu aq.1.1 h).1 av;simp[Instr.findAsking,this,got]
   |succ i=>
    obtain⟨h1,h2⟩:=h;have:=(HQ ay hu aq.1.1 h1).1 av;have aH:=Nw ay hu (n+1) aq.2 h2 av;simp only[Instr.findAsking,cB,this,e7,T8,if_false,aH,got,gB];cases dY[i]? <;>simp;omega
def Nx{t:TypeId}{cI:Nat}{d:TypeDesc}(hd:P.underlying t=some d)(ay:leafKind P t=some cI){k:AV}{u:Value}(hu:ag w m O B k u):∀ {es:List kK} {dY:List MapEntry} {q:Option Nat} (n:Nat),jc (vf w m O B) es dY->qV (.inl cI) k es q→
  Instr.findNow d u dY n=some (got q n dY)
 |[],[],q,n,_,h=>by
  cases q with
  |none=>simp[Instr.findNow,got]
  |some i=>exact h.elim
 |[],_::_,_,_,h,_=>h.elim
 |_::_,[],_,_,h,_=>h.elim
 |e::es,c4::dY,q,n,aq,h=>by
  have same:∀ {r},keyEq (.inl cI) k e.1=some r->Instr.sameNow d u c4.key=some r:=λ{r} hh=>by
   obtain⟨_,⟨jt,h1,_,h2⟩,_⟩:=yI ay hu aq.1.1 hh;rw[hd] at h1;cases h1;exact h2
  cases q with
  |none=>
   obtain⟨h1,h2⟩:=h;have:=same h1;have aH:=Nx hd ay hu (n+1) aq.2 h2;simp[Instr.findNow,this,aH,got]
  |some i=>
   cases i with
   |zero=>
    have:=same h;simp[Instr.findNow,this,got]
   |succ i=>
    obtain⟨h1,h2⟩:=h;have:=same h1;have aH:=Nx hd ay hu (n+1) aq.2 h2;simp only[Instr.findNow,this,aH,got,gB];cases dY[i]? <;>simp;omega
def b1e{a8:Array Field}{u:Value}(e:MapEntry)(es:List MapEntry)(n:Nat):Instr.findNow (.struct a8) u (e::es) n=none:=by
 simp[Instr.findNow,Instr.sameNow]
def Dz{t:TypeId}{aa:kE}(ay:keyOk P t=some aa){k:AV}{u:Value}(hu:ag w m O B k u){es:List kK}{dY:List MapEntry}{q:Option Nat}(aq:jc (vf w m O B) es dY)(h:qV aa k es q)(av:World):
  (Instr.findKey t u dY).run P av= .ok (got q 0 dY) av:=by
 cases aa with
 |inl cI=>
  have hl:=HP ay;obtain⟨d,hd,_⟩:=Nr hl;have:=Nx hd hl hu 0 aq h;simp[Instr.findKey,run_underlying hd,this]
 |inr bC=>
  obtain⟨a8,hd,_⟩:=HO ay;simp only[Instr.findKey,cB,run_underlying hd,e7];cases dY with
  |nil=>
   have b1f:es=[]:=oU (by have:=yJ aq;simpa using this.symm);subst b1f;cases q with
   |none=>simp[Instr.findNow,got]
   |some i=>exact h.elim
  |cons c4 dY=>
   rw[b1e];exact Nw ay hu 0 aq h av
def qV.lt{aa:kE}{k:AV}:∀ {es:List kK} {i:Nat},qV aa k es (some i)->∃e,es[i]? =some e/\keyEq aa k e.1=some true
 |[],i,h=>h.elim
 |e::es,0,h=>⟨e,rfl,h⟩
 |e::es,i+1,h=>by
  obtain⟨c4,h1,h2⟩:=qV.lt h.2;exact⟨c4,by simpa using h1,h2⟩
end
section
variable {P:Program}{J:ae}{w:World}{m:Nat->Option Nat}{B:Nat}{f:Nat}
def Rel.DA(aq:Rel P J w m B){id aD:Nat}{es:List kK}{an:Nat}(hm:m id=some aD)(hg:J.get id=some (.map es an)):
  ∃dY:Array MapEntry,w.heap[aD]? =some (.map dY an)/\jc (vf w m (bq J m) B) es dY.toList:=by
 obtain⟨bX,h1,h2⟩:=aq.obj id aD _ hm hg I;cases h2 with
 | @map _ dY _ hl iT=>
  refine⟨dY,h1,Vq (by simpa using hl) (λi a b=>?_)⟩;have:=iT i a (by simpa using b);exact⟨by simpa using this.1,by simpa using this.2.1,by simpa using this.2.2⟩
def yD{O:Nat->Prop}{a:AV}{u:Value}(two c:Bool)(h:ag w m O B a u):ag w m O B (v2 two a c) (if two then .tuple #[u,.bool c] else u):=by
 cases two with
 |false=>exact h
 |true=>exact ag.u9 (bQ.cons h (bQ.cons (.b c) bQ.nil))
def b1g(aq:Rel P J w m B){t i_ e:TypeId}(ht:P.underlying t=some (.map i_ e)){aa:kE}(ay:keyOk P i_=some aa){z:AV}(a6:zeroOf P e=some z)(two:Bool){x k v:AV}{u qX:Value}
  (hx:ag w m (bq J m) B x u) (qY:ag w m (bq J m) B k qX)
  (h:lookupA J aa x k z two=some v):∃cj,(Instr.lookup t u qX two).run P w= .ok cj w/\ag w m (bq J m) B v cj:=by
 obtain⟨eP,iJ,k0,_⟩:=r6 a6 w;have mZ:=k0 w m (bq J m) B;unfold lookupA at h;cases r_:keySelf aa k with
 |false=>simp[r_] at h
 |true=>
  simp only[r_,cond_true] at h;split at h
  ·cases h;cases hx;have ab:=Vp ay qY r_ true w;have hf:=Dz (P:=P) (es:=[]) (dY:=[]) (q:=none) (w:=w) (m:=m) (O:=bq J m) (B:=B) ay qY trivial trivial w;refine⟨_,?_,yD two false mZ⟩;simp[Instr.lookup,run_underlying ht,ab,hf,got,iJ]
  ·rename_i id;obtain⟨aD,hm,rfl⟩:=hx.Hz;split at h<;>try (cases h;done)
   rename_i es an hg;obtain⟨dY,hh,hall⟩:=aq.DA hm hg;have jx:=HL (P:=P) (w:=w) hh (λ_ _ _ h=>by cases h);have ab:=Vp ay qY r_ dY.isEmpty w;split at h<;>cases h
   ·rename_i bR DB;rcases Nu DB with⟨h1,_⟩|⟨i,yL,h1,h2,h3⟩
    ·cases h1
    ·cases h3;obtain⟨hi,dq⟩:=jK.1 h2;have hlen:=yJ hall;have j5:i<dY.toList.length:=by omega
     have my:=yK hall i hi j5;rw[dq] at my;have hf:=Dz (P:=P) ay qY hall h1 w;have AZ:got (some i) 0 dY.toList=some (i,dY.toList[i].val):=by simp[got,fw j5]
     rw[AZ] at hf;refine⟨_,?_,yD two true my.2.1⟩;simp only[Instr.lookup,cB,run_underlying ht,e7,jx,fX,ab,hf]
   ·rename_i DB;rcases Nu DB with⟨_,h1⟩|⟨i,yL,h1,h2,h3⟩
    ·have hf:=Dz (P:=P) ay qY hall h1 w;rw[show got none 0 dY.toList=none from rfl] at hf;refine⟨_,?_,yD two false mZ⟩;simp only[Instr.lookup,cB,run_underlying ht,e7,jx,fX,ab,hf,iJ]
    ·cases h3
  ·cases h
def Vt(aq:Rel P J w m B){t i_ e:TypeId}(ht:P.underlying t=some (.map i_ e)){aa:kE}(ay:keyOk P i_=some aa){id aD:Nat}{es:List kK}{an:Nat}(ep:f<=id)(hm:m id=some aD)(hg:J.get id=some (.map es an)){k v:AV}{qX A0:Value}
  (qY:ag w m (bq J m) B k qX) (Vu:ag w m (bq J m) B v A0) {pX:Bool} (r_:keyEq aa k k=some pX) {r:Option (List kK)} (hu:qN aa k v es=some r):
  ∃av,(Instr.mapUpdate t (.map (some aD)) qX A0).run P w= .ok () av∧
   Rel P (J.set id (match r with|some es=>.map es an|none=>.map (es++[(k,v,an)]) (an+1))) av m B/\Ext f J w m (J.set id (match r with|some es=>.map es an|none=>.map (es++[(k,v,an)]) (an+1))) av m:=by
 obtain⟨dY,hh,hall⟩:=aq.DA hm hg;have hlen:=yJ hall;simp only[dD] at hlen;have jx:=HL (P:=P) (w:=w) hh (λ_ _ _ h=>by cases h);have ab:=Vo ay qY r_ false w;have hb:=AI hh;have dd:∀(o:AO) (bX:Obj),mV P w m (bq J m) B o bX->eK w aD=none->o.isDead=false→
   Rel P (J.set id o) {w with heap:=w.heap.setIfInBounds aD bX} m B/\Ext f J w m (J.set id o) {w with heap:=w.heap.setIfInBounds aD bX} m:=λo bX ho hz hd=>
  aq.dd ep hm ⟨_,hg,rfl⟩ {w with heap:=w.heap.setIfInBounds aD bX} o aF (λb a7=>by simp[G8 (qI a7)]) (λn hn=>by rw[hz] at hn;cases hn) rfl rfl rfl (λ_=>⟨bX,by simp[hb],ho⟩)
 have hz:eK w aD=none:=by unfold eK;rw[hh]
 rcases Nv hu with⟨rfl,fS⟩|⟨i,yL,fS,hi,rfl⟩
 ·have hf:=Dz (P:=P) ay qY hall fS w;rw[show got none 0 dY.toList=none from rfl] at hf;refine⟨{w with heap:=w.heap.setIfInBounds aD (.map (dY.push {key:=qX,val:=A0,born:=an}) (an+1))},?_,dd _ _ ?_ hz I⟩
  ·simp only[Instr.mapUpdate,cB,run_underlying ht,e7,jx,ab,hf];exact Vi _ hh (λ_ _ _ h=>by cases h)
  ·refine .map (by simp[hlen]) (λj h1 h2=>?_);by_cases ax:j<es.length
   ·have:=yK hall j ax (by simp;omega);rw[cM ax,Array.getElem_push_lt U];simpa [vf] using this
   ·have fA:j=es.length:=by simp at h1;omega
    subst fA;have:(dY.push {key:=qX,val:=A0,born:=an})[es.length]'h2={key:=qX,val:=A0,born:=an}:=by
     simp only[<-hlen,Array.getElem_push_eq]
    rw[this];simp only[iw (bs _),Hd,C4];exact⟨qY,Vu,trivial⟩
 ·have hf:=Dz (P:=P) ay qY hall fS w;obtain⟨tG,dq⟩:=jK.1 hi;have j5:i<dY.toList.length:=by simp;omega
  have b1h:i<dY.size:=by simpa using j5
  have my:=yK hall i tG j5;rw[dq] at my;have AZ:got (some i) 0 dY.toList=some (i,dY.toList[i].val):=by simp[got,fw j5]
  rw[AZ] at hf;obtain⟨a5,nA,b1i⟩:=fS.lt;rw[hi] at nA;cases nA;have yA:=(HQ ay my.1 qY (r:=true) (by
   exact b1d b1i)).2 I
  have hZ:dY[i]? =some dY[i]:=b9 b1h;refine⟨{w with heap:=w.heap.setIfInBounds aD (.map (dY.modify i λe=>{e with key:=qX,val:=A0}) an)},?_,dd _ _ ?_ hz I⟩
  ·simp only[Instr.mapUpdate,cB,run_underlying ht,e7,jx,ab,hf,hZ,kD,Option.getD_some];have b1j:Instr.sameBits 10000 dY[i].key qX=true:=by simpa using yA
   have HR:(Instr.keyThatStays dY[i].key qX).run P w= .ok qX w:=by simp only[Instr.keyThatStays,b1j,if_true,fX]
   simp only[HR,e7];exact Vi _ hh (λ_ _ _ h=>by cases h)
  ·refine .map (by simp[hlen]) (λj h1 h2=>?_);simp only[ib] at h1;have ax:=yK hall j h1 (by simp;omega);rw[uZ,Array.getElem_modify];by_cases Ny:i=j
   ·subst Ny;simp only[if_true];refine⟨qY,Vu,?_⟩;have:=my.2.2;simpa using this
   ·simp only[if_neg Ny];simpa [vf] using ax
end
end
section
variable [Tok]
open Go.RowKit
open Go.ChangeMaps (setBlock)
section
variable {P:Program}{J:ae}{w:World}{m:Nat->Option Nat}{B f:Nat}
def b1k(s:ByteArray){c:Nat}(h:s.size<=c):(bytesRow s c).size=c:=by
 have:s.data.size=s.size:=rfl;simp[bytesRow,this];omega
def b1l{l:List Nat}(hl:∀c∈l,c<256){c:Nat}(i:Nat)(h:i<l.length):(bytesRow (strOf l) c)[i]? =some (.int .u8 (Int.ofNat l[i])):=by
 have ab:l[i]<256:=hl _ (gC h);unfold bytesRow;rw[Array.getElem?_append_left (by simp[strOf];exact h)];simp[strOf,h];omega
def b1m(aq:Rel P J w m B)(f:Nat){s d e:TypeId}(ao:P.underlying s=some .string)(hd:P.underlying d=some (.slice e))(he:P.underlying e=some (.int .u8)){l:List Nat}{u:Value}(hx:ag w m (bq J m) B (.s l) u):
  ∃cj av aT,(convert s d u).run P w= .ok cj av/\ag av aT (bq (J.push (.cells (l.map λc=>AV.i .u8 (Int.ofNat c)))) aT) B (.al J.next 0 l.length none none) cj/\Rel P (J.push (.cells (l.map λc=>AV.i .u8 (Int.ofNat c)))) av aT B/\Ext f J w m (J.push (.cells (l.map λc=>AV.i .u8 (Int.ofNat c)))) av aT:=by
 obtain⟨rfl,hl⟩:=hx.pR;have cz:(strOf l).size=l.length:=wJ l;have m0:=grownCap_ge w (strOf l).size 0 e;have cf:=run_bytes_of_string (P:=P) w s d e (strOf l) ao hd he;obtain⟨cap,hB⟩:∃cap,cap=grownCap w (strOf l).size 0 e:=⟨_,rfl⟩
 rw[<-hB] at m0 cf;have wO:=b1k (strOf l) m0;obtain⟨h1,h2⟩:=aq.alloc f (w.drew.alloc (.cells (bytesRow (strOf l) cap) e ((bytesRow (strOf l) cap).size,(bytesRow (strOf l) cap).size+1))) (.cells (l.map λc=>AV.i .u8 (Int.ofNat c))) _ I I I I I
  (.cells (by rw[wO,uV];omega) (λi h h'=>by
   simp only[uV] at h;have h3:=b1l hl (c:=cap) i h;rw[b9 h'] at h3;rw[mQ,wF h3];exact .i _ _) (λi hi=>by
    have:¬(bytesRow (strOf l) cap).size<=i:=by omega
    simp[this]) (λx hx=>by obtain⟨c,_,rfl⟩:=ti.1 hx;rfl))
 refine⟨_,_,_,cf,?_,h1,h2⟩;rw[cz];refine .al (hY _ _ _) U (λc ab=>by cases ab) (n:=(bytesRow (strOf l) cap).size) ?_ (by rw[wO];simp[shN]);have:(w.drew.alloc (.cells (bytesRow (strOf l) cap) e ((bytesRow (strOf l) cap).size,(bytesRow (strOf l) cap).size+1))).heap[w.heap.size]? =some (.cells (bytesRow (strOf l) cap) e ((bytesRow (strOf l) cap).size,(bytesRow (strOf l) cap).size+1)):=heap_alloc_new w.drew _;unfold eK;rw[this]
def Nz{x:AV}{n:Nat}(h:byteOf x=some n):x= .i .u8 (Int.ofNat n)/\n<256:=by
 unfold byteOf at h;split at h
 ·rename_i k;cases hb:Nat.blt k 256 with
  |false=>rw[hb] at h;cases h
  |true=>rw[hb] at h;cases h;exact⟨rfl,by simpa [MD] using hb⟩
 ·cases h
def b1n(aq:Rel P J w m B){s d e:TypeId}(ao:P.underlying s=some (.slice e))(he:P.underlying e=some (.int .u8))(hd:P.underlying d=some .string){x:AV}{xs:List AV}{l:List Nat}{u:Value}(hx:ag w m (bq J m) B x u)(h:readList J x=some xs)(hb:mapO byteOf xs=some l):
  (convert s d u).run P w= .ok (.string (strOf l)) w/\∀c∈l,c<256:=by
 obtain⟨hlen,hZ⟩:=o0 hb;have dG:xs=l.map λc=>AV.i .u8 (Int.ofNat c):=by
  apply ym
  ·simp[hlen]
  ·intro i h1 h2;have:=(Nz (hZ i h1 U)).1;simp[this]
 have hlt:∀c∈l,c<256:=λc ab=>by
  obtain⟨i,hi,rfl⟩:=tj ab;exact(Nz (hZ i U hi)).2
 refine⟨?_,hlt⟩;obtain⟨base,c,us,rfl,hle,hR,A1,kI,HS⟩:=Du (aa:=none) aq hx h (λa ha=>by rw[dG] at ha;obtain⟨c,_,rfl⟩:=ti.1 ha;rfl);cases base with
 |none=>
  obtain⟨h0,_⟩:=HS;have:l=[]:=by
   have:=congrArg List.length h0;simp[dG] at this;exact this
  subst this;rw[run_convert_bytes_string w s d e _ _ _ ao he hd];simp[Conv.bytesToString,strOf];rfl
 |some a=>
  obtain⟨b1o,yM,vg⟩:=HS;clear vg;have AR:xs.flatMap AV.cells=xs:=by
   have h1:∀y∈xs,AV.cells y=[y]:=λy hy=>by rw[dG] at hy;obtain⟨c,_,rfl⟩:=ti.1 hy;rfl
   clear hR A1 kI hle dG h hb hlen hZ hx b1o
   induction xs with
   |nil=>rfl
   |cons y bf aH=>rw[jY,h1 y aF,aH (λz a6=>h1 z (by simp[a6]))];rfl
  have key:=run_convert_bytes_back (P:=P) w s d e a c (l.map Nat.toUInt8) ao he hd (λj ax=>by
   simp only[uV] at ax;have Vv:j<us.length:=by rw[A1];simp[shN];omega
   rw[AR] at hR;have h1:=hR.2 j U Vv;have h2:xs[j]'U=AV.i .u8 (Int.ofNat l[j]):=(Nz (hZ j U ax)).1;rw[h2] at h1;have h3:=h1.mr;have aO:=yM j us[j] (fw Vv);rw[aO,h3];have ab:l[j]<256:=hlt _ (gC ax);simp;omega)
  have aL:xs.length=(l.map Nat.toUInt8).length:=by simp[hlen]
  rw[aL,key];rfl
def b1p(aq:Rel P J w m B)(f:Nat){t e:TypeId}{aa:Option Nat}(ht:P.underlying t=some (.slice e))(ao:shapeOf P e=some aa){i:TypeInfo}(hi:P.info? e=some i){z:AV}(a6:zeroOf P e=some z)(wM:z.cells.length=shN aa){n c:Nat}{HT oa:IntKind}(b1q:n<=c)(hb:i.bytes*c<=281474976710656)(ab:c<=281474976710656):
  ∃cj av aT,(Instr.makeSlice t (.int HT (Int.ofNat n)) (.int oa (Int.ofNat c))).run P w= .ok cj av/\ag av aT (bq (J.push (.cells (f_ c z.cells))) aT) B (.al J.next 0 n aa (some c)) cj/\Rel P (J.push (.cells (f_ c z.cells))) av aT B/\Ext f J w m (J.push (.cells (f_ c z.cells))) av aT:=by
 obtain⟨_,cz,_⟩:=lz ao w;have Vw:i.size=shN aa:=by
  have h1:=cz;simp[sizeOf,typeInfo,hi] at h1;exact h1
 obtain⟨eP,iJ,k0,mZ⟩:=r6 a6 w;have yN:i.zero=some eP:=by
  simp[zeroValue,typeInfo,hi] at iJ;cases aV:i.zero with
  |none=>simp[aV] at iJ
  |some q=>simp[aV] at iJ;rw[iJ]
 have ny:=(k0 w m (bq J m) B).cells;have mv:eP.cells.size=shN aa:=by have:=ny.1;simp at this;omega
 have cf:=run_make (P:=P) w t e i eP ht hi yN HT oa (Int.ofNat n) (Int.ofNat c) (T_ _) (by show(n:Int)<=c;omega) (by
                                                                         show(i.bytes:Int)*(c:Int)<=_;have:((i.bytes*c:Nat):Int)<=281474976710656:=by omega
                                                                         rwa[Int.natCast_mul] at this) (by show(c:Int)<=_;omega)
 have kL:(Int.ofNat c).toNat=c:=rfl;have aL:(Int.ofNat n).toNat=n:=rfl;rw[kL,aL,Vw] at cf;have n4:=AM ny c;have wN:eP.cells.toList.length=shN aa:=by simp[mv]
 rw[wN] at n4;have n3:(madeCells eP.cells (c*shN aa)).toList=(List.range (c*shN aa)).map λi=>eP.cells.toList[i%shN aa]! :=by
  unfold madeCells;rw[uY,yo];apply mj;intro a _;rw[mv,MK,qL];simp
 rw[<-n3] at n4;have AP:(madeCells eP.cells (c*shN aa)).size=c*shN aa:=size_madeCells _ _;obtain⟨av,aT,h4,kl,o1,u_,Dt⟩:=Hy aq f (el:=e) n4 (AN mZ c);have b1r:av=w.alloc (.cells (madeCells eP.cells (c*shN aa)) e):=by
  have h1:(newRow e (madeCells eP.cells (c*shN aa))).run P w= .ok ⟨w.heap.size,0,none⟩ {w with heap:=w.heap.push (.cells (madeCells eP.cells (c*shN aa)) e)}:=by simp[newRow]
  rw[h1] at h4;cases h4;rfl
 subst b1r;exact⟨_,_,aT,cf,.al kl b1q (λbD iD=>by cases iD;rfl) (n:=(madeCells eP.cells (c*shN aa)).size) (by unfold eK;rw[o1]) (by rw[AP];omega),u_,Dt⟩
def b1s(aq:Rel P J w m B)(f:Nat){t NA ty e:TypeId}{aa:Option Nat}{e3 yO:IntKind}(ht:P.underlying t=some (.slice e))(b1t:P.underlying NA=some (.int e3))(ao:shapeOf P e=some aa){i:TypeInfo}(hi:P.info? e=some i){z:AV}(a6:zeroOf P e=some z)(wM:z.cells.length=shN aa)(yF:i.bytes≠0)(c7I:0<shN aa){k:Nat}(h0:0<k)(hb:(3*k+2000)*i.bytes<=281474976710656):
  ∃cj av aT,(Builtin.append_ #[t,NA] ty #[.slice none 0 0,.int yO (Int.ofNat k)]).run P w= .ok cj av/\ag av aT (bq (J.push (.cells (f_ k z.cells))) aT) B (.al J.next 0 k aa none) cj/\Rel P (J.push (.cells (f_ k z.cells))) av aT B/\Ext f J w m (J.push (.cells (f_ k z.cells))) av aT:=by
 obtain⟨_,cz,_⟩:=lz ao w;have Vw:i.size=shN aa:=by
  have h1:=cz;simp[sizeOf,typeInfo,hi] at h1;exact h1
 obtain⟨eP,iJ,k0,mZ⟩:=r6 a6 w;have yN:i.zero=some eP:=by
  simp[zeroValue,typeInfo,hi] at iJ;cases aV:i.zero with
  |none=>simp[aV] at iJ
  |some q=>simp[aV] at iJ;rw[iJ]
 have ny:=(k0 w m (bq J m) B).cells;have mv:eP.cells.size=shN aa:=by have:=ny.1;simp at this;omega
 have k1:1<=i.bytes:=Ub.2 yF;have lC:(3*k+2000)*1<=(3*k+2000)*i.bytes:=Uc _ k1;have tF:k*i.bytes<=(3*k+2000)*i.bytes:=jX _ U;have cf:=Lib.run_append_nil_zeros (P:=P) w t NA ty e i eP yO e3 ht b1t hi yN k h0 U U U;have m0:=grownCap_ge w k 0 e;have n4:=AM ny k;have wN:eP.cells.toList.length=shN aa:=by simp[mv]
 have hh:(Builtin.zeroCells eP.cells k).toList=(List.range (k*eP.cells.toList.length)).map λi=>eP.cells.toList[i%eP.cells.toList.length]! :=by
  simp only[Builtin.zeroCells,uY,yo,dD];exact mj λi _=>by simp only[getElem!_def,C0]
 rw[<-hh] at n4;have AP:(Builtin.zeroCells eP.cells k).size=k*shN aa:=by rw[size_zeroCells,mv]
 have wO:(Builtin.zeroCells eP.cells k++Builtin.zeroCells eP.cells (grownCap w k 0 e-k)).size=grownCap w k 0 e*shN aa:=by
  rw[Ud,size_zeroCells,size_zeroCells,mv,← G_]
  congr 1;omega
 have DC:(f_ k z.cells).length=k*shN aa:=by have:=n4.1;rw[dD,AP] at this;omega
 obtain⟨h1,h2⟩:=aq.alloc f (w.drew.alloc (.cells (Builtin.zeroCells eP.cells k++Builtin.zeroCells eP.cells (grownCap w k 0 e-k)) e)) (.cells (f_ k z.cells)) _ I I I I I
  (.cells (by rw[wO,DC];exact jX _ m0) (λj h h'=>by
   have ax:j<(Builtin.zeroCells eP.cells k).size:=by omega
   have:=n4.2 j h (by simpa using ax);rw[Ue ax];simpa using this) (λj _=>by simp) (AN mZ k))
 refine⟨_,_,_,cf,.al (hY _ _ _) m0 (λc ab=>by cases ab) (n:=grownCap w k 0 e*shN aa) ?_ U,h1,h2⟩;have:(w.drew.alloc (.cells (Builtin.zeroCells eP.cells k++Builtin.zeroCells eP.cells (grownCap w k 0 e-k)) e)).heap[w.heap.size]? =some (.cells (Builtin.zeroCells eP.cells k++Builtin.zeroCells eP.cells (grownCap w k 0 e-k)) e):=by
  exact heap_alloc_new w.drew _
 unfold eK;rw[this];simp only[wO]
def Rel.b1u(aq:Rel P J w m B){id aD since g7:Nat}{seen:List Nat}(hm:m id=some aD)(hg:J.get id=some (.mapIter none since seen g7)):w.heap[aD]? =some (.mapIter none since seen.toArray g7):=by
 obtain⟨bX,h1,h2⟩:=aq.obj _ _ _ hm hg I;cases h2 with
 | @mapIter _ b _ _ _ hb=>
  cases b with
  |none=>exact h1
  |some b=>exact hb.elim
def Rel.Vx(aq:Rel P J w m B){id aD i since g7:Nat}{seen:List Nat}(hm:m id=some aD)(hg:J.get id=some (.mapIter (some i) since seen g7)):∃b,w.heap[aD]? =some (.mapIter (some b) since seen.toArray g7)/\m i=some b:=by
 obtain⟨bX,h1,h2⟩:=aq.obj _ _ _ hm hg I;cases h2 with
 | @mapIter _ b _ _ _ hb=>
  cases b with
  |none=>exact hb.elim
  |some b=>exact⟨b,h1,hb⟩
def run_getObj_map{aD:Nat}{es:Array MapEntry}{an:Nat}(h:w.heap[aD]? =some (.map es an)):(getObj aD).run P w= .ok (.map es an) w:=
 HL (P:=P) (w:=w) h (λ_ _ _ h=>by cases h)
def Vy(o:Obj)(w:World):(newObj o).run P w= .ok w.heap.size (w.alloc o):=rfl
def Vz(aq:Rel P J w m B)(f:Nat){t k e:TypeId}(ht:P.underlying t=some (.map k e)){r:Option Nat}{u:Value}(hx:ag w m (bq J m) B (.m r) u){o:AO}
  (ho:match r with|none=>o= .mapIter none 0 [] 0|some id=>∃es an,J.get id=some (.map es an)/\o= .mapIter (some id) an [] an):
  ∃cj av aT,(Instr.range t u).run P w= .ok cj av/\ag av aT (bq (J.push o) aT) B (j2 J.next 0) cj/\Rel P (J.push o) av aT B/\Ext f J w m (J.push o) av aT:=by
 cases r with
 |none=>
  simp only at ho;subst ho;cases hx;obtain⟨h1,h2⟩:=aq.alloc f (w.alloc (.mapIter none 0 #[] 0)) (.mapIter none 0 [] 0) (.mapIter none 0 #[] 0) I I I I I (.mapIter trivial);exact⟨.pointer (some ⟨w.heap.size,0,none⟩),w.alloc (.mapIter none 0 #[] 0),_,by simp[Instr.range,run_underlying ht,Vy],.p (hY _ _ _),h1,h2⟩
 |some id=>
  obtain⟨es,an,hg,rfl⟩:=ho;obtain⟨aD,hm,rfl⟩:=hx.Hz;obtain⟨dY,hh,_⟩:=aq.DA hm hg;obtain⟨h1,h2⟩:=aq.alloc f (w.alloc (.mapIter (some aD) an #[] an)) (.mapIter (some id) an [] an) (.mapIter (some aD) an #[] an) I I I I I (.mapIter hm);exact⟨.pointer (some ⟨w.heap.size,0,none⟩),w.alloc (.mapIter (some aD) an #[] an),_,by simp[Instr.range,run_underlying ht,run_getObj_map hh,Vy],.p (hY _ _ _),h1,h2⟩
def VA(n:Nat):∀(l:List Nat),oY n l=l.contains n
 |[]=>rfl
 |x::l=>by
  show cond (Nat.beq x n) true (oY n l)=_;rw[List.contains_cons,VA n l];have:(n==x)=Nat.beq x n:=by
   rw[oS,tn,beq_iff_eq];exact⟨λh=>h.symm,λh=>h.symm⟩
  rw[this];cases Nat.beq x n<;>rfl
def VB(seen:List Nat):∀(es:List kK),mS seen es=es.filter λe=>!seen.contains e.2.2
 |[]=>rfl
 |e::es=>by
  show cond (oY e.2.2 seen) (mS seen es) (e::mS seen es)=_;rw[VB seen es,VA,u0];cases seen.contains e.2.2<;>rfl
def NB{α β:Type}{r:α->β->Prop}{p:α->Bool}{q:β->Bool}(h:∀x y,r x y->p x=q y):∀ {l:List α} {cu:List β},jc r l cu->jc r (l.filter p) (cu.filter q)
 |[],[],_=>trivial
 |[],_::_,h'=>h'.elim
 |_::_,[],h'=>h'.elim
 |x::l,y::cu,h'=>by
  rw[u0,u0,h x y h'.1];cases q y with
  |true=>exact⟨h'.1,NB h h'.2⟩
  |false=>exact NB h h'.2
def VC(aq:Rel P J w m B){f:Nat}{it aD i since:Nat}{seen:List Nat}(hf:f<=it)(hm:m it=some aD)(hg:J.get it=some (.mapIter (some i) since seen since)){es:List kK}(k4:J.get i=some (.map es since))(b1v:∀e∈es,e.2.2<since)(t:TypeId):
  (mS seen es=[]/\(Instr.next (.pointer (some ⟨aD,0,none⟩)) false t).run P w= .ok (.tuple #[.bool false]) w)∨
  ∃e∈mS seen es,∃u av,(Instr.next (.pointer (some ⟨aD,0,none⟩)) false t).run P w= .ok u av∧
   ag av m (bq (J.set it (.mapIter (some i) since (seen++[e.2.2]) since)) m) B (.a0 [.b true,e.1,e.2.1]) u/\Rel P (J.set it (.mapIter (some i) since (seen++[e.2.2]) since)) av m B/\Ext f J w m (J.set it (.mapIter (some i) since (seen++[e.2.2]) since)) av m:=by
 obtain⟨b,hh,wQ⟩:=aq.Vx hm hg;obtain⟨dY,DD,hall⟩:=aq.DA wQ k4;have b1w:∀e∈dY.toList,e.born<since:=λc4 Dm=>by
  obtain⟨k,ay,rfl⟩:=tj Dm;have hlen:=yJ hall;have:=yK hall k U ay;rw[this.2.2];exact b1v _ (gC _)
 have NC:jc (vf w m (bq J m) B) (mS seen es) (leftOf dY seen.toArray).toList:=by
  rw[VB];have h1:(leftOf dY seen.toArray).toList=dY.toList.filter λe=>!seen.contains e.born:=by simp[leftOf]
  rw[h1];exact NB (λx y h=>by rw[h.2.2]) hall
 have hlt:=(aq.gi _ _ hm).1;rcases run_next_at (P:=P) w t aD b since since seen.toArray dY since hh DD b1w (bs _) with⟨h1,h2⟩|⟨c4,Dm,bW,o5,h2⟩
 ·refine .inl ⟨?_,h2⟩;have:=yJ NC;rw[dD,h1] at this;exact oU this.symm
 ·obtain⟨k,ay,rfl⟩:=tj Dm;have hlen:=yJ NC;have my:=yK NC k U ay;refine .inr ⟨(mS seen es)[k]'U,gC _,?_⟩;generalize(mS seen es)[k]'U=e at my;generalize(leftOf dY seen.toArray).toList[k]=aL at my h2;obtain⟨b1x,b1y,b1z⟩:=my;have ND:bW.heap=w.heap:=by rcases o5 with rfl|rfl<;>rfl
  have b1A:eK w aD=none:=by unfold eK;rw[hh]
  obtain⟨mx,g9⟩:=aq.dd (f:=f) hf hm ⟨_,hg,rfl⟩ (setBlock bW aD (.mapIter (some b) since (seen.toArray.push aL.born) since)) (.mapIter (some i) since (seen++[e.2.2]) since)
   (by simp[setBlock,ND]) (λk ay=>by simp[setBlock,ND,G7,qI ay]) (λn hn=>by rw[b1A] at hn;cases hn)
   (by rcases o5 with rfl|rfl<;>rfl) (by rcases o5 with rfl|rfl<;>rfl) (by rcases o5 with rfl|rfl<;>rfl)
   (λ_=>⟨.mapIter (some b) since (seen.toArray.push aL.born) since,by simp[setBlock,ND,G7,hlt],by
    have kL:seen.toArray.push aL.born=(seen++[e.2.2]).toArray:=by rw[b1z];simp
    rw[kL];exact .mapIter wQ⟩)
  exact⟨_,_,h2,ag.u9 (bQ.cons (.b true) (bQ.cons (b1x.ext g9 aq) (bQ.cons (b1y.ext g9 aq) bQ.nil))),mx,g9⟩
def VD{pY:Nat}:∀ {es:List kK} {dY:List MapEntry} {e:kK},jc (vf w m (bq J m) B) es dY->pN pY es=some e->∃c4,dY.find? (λx=>x.born==pY)=some c4/\vf w m (bq J m) B e c4
 |[],[],e,_,h=>by cases h
 |[],_::_,_,h,_=>h.elim
 |_::_,[],_,h,_=>h.elim
 |x::es,y::dY,e,hall,h=>by
  have h:cond (Nat.beq x.2.2 pY) (some x) (pN pY es)=some e:=h;have hb:(y.born==pY)=Nat.beq x.2.2 pY:=by
   rw[hall.1.2.2,oS,tn,beq_iff_eq]
  rw[List.find?_cons,hb];cases aV:Nat.beq x.2.2 pY with
  |true=>rw[aV] at h;cases h;exact⟨y,rfl,hall.1⟩
  |false=>rw[aV] at h;exact VD hall.2 h
def VE:∀(l:List Nat),qO l=l.getLast?
 |[]=>rfl
 |x::l=>by
  have h:qO (x::l)=match qO l with|none=>some x|some y=>some y:=rfl
  rw[h,VE l,List.getLast?_cons];cases l.getLast? <;>rfl
def b1B(aq:Rel P J w m B){it aD i since an:Nat}{seen:List Nat}(hm:m it=some aD)(hg:J.get it=some (.mapIter (some i) since seen an)){es:List kK}(k4:J.get i=some (.map es an)){pY:Nat}(hl:qO seen=some pY){e:kK}(he:pN pY es=some e):
  ∃u,(Instr.entry (.pointer (some ⟨aD,0,none⟩))).run P w= .ok u w/\ag w m (bq J m) B (.a0 [e.1,e.2.1]) u:=by
 obtain⟨b,hh,wQ⟩:=aq.Vx hm hg;obtain⟨dY,DD,hall⟩:=aq.DA wQ k4;obtain⟨c4,h1,h2⟩:=VD hall he;have wR:seen.toArray.back? =some pY:=by rw[VE] at hl;simpa using hl
 have hf:dY.find? (λx=>x.born==pY)=some c4:=by rw[<-Array.find?_toList];exact h1
 refine⟨.tuple #[c4.key,c4.val],?_,ag.u9 (bQ.cons h2.1 (bQ.cons h2.2.1 bQ.nil))⟩;simp only[Instr.entry,getObj,cB,Sem.run,hh,DD,Result.andThen,wR,bne_self_eq_false,T8,if_false,hf];rfl
def b1C(aq:Rel P J w m B){it aD since g7:Nat}{seen:List Nat}(hm:m it=some aD)(hg:J.get it=some (.mapIter none since seen g7))(t:TypeId):
  (Instr.next (.pointer (some ⟨aD,0,none⟩)) false t).run P w= .ok (.tuple #[.bool false]) w:=by
 have hh:=aq.b1u hm hg;simp only[Instr.next,getObj,cB,Sem.run,hh,Result.andThen];rfl
end
end
section
variable [Tok]
open Go.RowKit
section
variable {P:Program}{w:World}{m:Nat->Option Nat}{O:Nat->Prop}{B:Nat}
def b1D{t e:TypeId}{aa:Option Nat}(hu:P.underlying t=some (.slice e))(ao:shapeOf P e=some aa){ol:Bool}{xs:List AV}{u:Value}(hx:ag w m O B (.a_ ol aa xs) u)
  {cY hi:Option Value} {l h:Nat} (hl:lZ 0 cY l) (hh:lZ xs.length hi h) (h1:l<=h) (h2:h<=xs.length):
  ∃cj,(Instr.sliceAt t u cY hi none).run P w= .ok cj w/\ag w m O B (.a_ ol aa ((xs.drop l).take (h-l))) cj:=by
 obtain⟨_,cz,_⟩:=lz ao w;cases hx with
 |lW=>
  have aL:h=0:=by simpa using h2
  subst aL;have a5:l=0:=by omega
  subst a5;refine⟨.slice none 0 0,?_,?_⟩
  ·have:=tB (P:=P) (w:=w) (isSlice:=true) (len:=0) (cap:=0) hl hh (bs 0) (bs 0);simp[Instr.sliceAt,Instr.slice,run_underlying hu,this,cz]
  ·simpa using ag.lW
 | @a_ _ _ _ _ _ _ aD off gl sp bf ch r8 ab aq mq hf fy=>
  by_cases mz:xs=[]
  ·subst mz;have aL:h=0:=by simpa using h2
   subst aL;have a5:l=0:=by omega
   subst a5;refine⟨.slice (some ⟨aD,off,sp⟩) 0 gl,?_,?_⟩
   ·have:=tB (P:=P) (w:=w) (isSlice:=true) (len:=0) (cap:=gl) hl hh (bs 0) (rU _);simp[Instr.sliceAt,Instr.slice,run_underlying hu,this,cz,Addr.add]
   ·exact .a_ (xs:=[]) (λ_ _=>undef) (λh=>absurd I h) (λi h=>by simp at h) (λi h=>by simp at h) (λi h=>by simp at h) (rU _) (λv au=>by simp at au) (λh=>absurd I h)
  obtain rfl:=fy mz;have hlen:((xs.drop l).take (h-l)).length=h-l:=by simp;omega
  have cf:(Instr.sliceAt t (.slice (some ⟨aD,off,none⟩) xs.length gl) cY hi none).run P w= .ok (.slice (some ⟨aD,if gl=l then off else off+l*shN aa,none⟩) (h-l) (gl-l)) w:=by
   simp only[Instr.sliceAt,Instr.slice,run_underlying hu,cB,e7,tB hl hh h1 (qH h2 mq),cz,fX];split<;>simp[lB]
  refine⟨_,cf,?_⟩;by_cases a6:h-l=0
  ·have kL:(xs.drop l).take (h-l)=[]:=oU U;rw[kL,a6];exact .a_ (xs:=[]) (λ_ _=>undef) (λh=>absurd I h) (λi h=>by simp at h) (λi h=>by simp at h) (λi h=>by simp at h) (rU _) (λv au=>by simp at au) (λh=>absurd I h)
  ·have gj:¬gl=l:=by omega
   rw[if_neg gj];have hZ:∀i (hi:i<((xs.drop l).take (h-l)).length),((xs.drop l).take (h-l))[i]=xs[l+i]'U:=λi hi=>by
    rw[MH,wE]
   have a7:xs≠[]:=λe=>by subst e;simp at h2;omega
   have key:ag w m O B (.a_ ol aa ((xs.drop l).take (h-l))) (.slice (some ⟨aD,off+l*shN aa,none⟩) ((xs.drop l).take (h-l)).length (gl-l)):=by
    refine .a_ (λi j=>bf (l+i) j) (λ_=>ch a7) (λi hi=>?_) (λi hi j ax=>?_) (λi hi j ax=>?_) U (λv au=>hf v (pK (uU au))) (λ_=>rfl)
    ·rw[hZ i hi];exact r8 _ U
    ·simp only[hZ i hi] at ax;have:=ab (l+i) U j ax;rw[<-this];congr 2;rw[G_];omega
    ·simp only[hZ i hi] at ax ⊢;exact aq (l+i) U j ax
   rw[hlen] at key;exact key
end
def Rel.yP{P:Program}{J:ae}{w:World}{m:Nat->Option Nat}{B:Nat}(aq:Rel P J w m B):∀b,bq J m b->B<=b:=λ_ ⟨_,h,_⟩=>aq.base _ _ h
structure Ctx(P:Program)(env:Env)(J:ae)(w:World)(m:Nat->Option Nat)(B:Nat)(al:a1 AV)(a:Act):Prop where
 rel:Rel P J w m B
 bj:ja w m (bq J m) B al a.tmps.toList
 globs:Globs env w B
section
variable {P:Program}{env:Env}{J:ae}{w:World}{m:Nat->Option Nat}{B:Nat}{f:Nat}{al:a1 AV}{a:Act}
def Ctx.ar(c:Ctx P env J w m B al a){x:Operand}{bS:aJ}(hx:opdOf x=some bS){v:AV}(au:evalA env al bS=some v):ag w m (bq J m) B v (a.eval x):=M8 c.rel.yP c.globs c.bj hx au
def Ctx.qZ(c:Ctx P env J w m B al a){x:Option Operand}{bS:Option aJ}(hx:opdO x=some bS){d n:Nat}(au:bndO (evalA env al) bS d=some n):lZ d (x.map a.eval) n:=b0j c.rel.yP c.globs c.bj hx au
def b1E(c:Ctx P env J w m B al a){r:Result Next}{v:AV}(h:∃u,r= .ok (.value u) w/\ag w m (bq J m) B v u):fF P B f J w m v J r:=
 let⟨_,h1,h2⟩:=h;fF.pure c.rel h1 h2
def fT(c:Ctx P env J w m B al a){s:Sem Value}{v:AV}(h:∃u,s.run P w= .ok u w/\ag w m (bq J m) B v u):fF P B f J w m v J ((do pure (.value (←s)):Sem Next).run P w):=by
 obtain⟨u,h1,h2⟩:=h;exact fF.pure c.rel (by simp[h1]) h2
def q0{s:Sem Value}{v:AV}{ai:ae}(h:∃u av aT,s.run P w= .ok u av/\ag av aT (bq ai aT) B v u/\Rel P ai av aT B/\Ext f J w m ai av aT):fF P B f J w m v ai ((do pure (.value (←s)):Sem Next).run P w):=by
 obtain⟨u,av,aT,h1,h2,h3,aO⟩:=h;exact⟨u,av,aT,.inl (by simp[h1]),h2,h3,aO⟩
def NF{s:Sem Unit}{ai:ae}(h:∃av,s.run P w= .ok () av/\Rel P ai av m B/\Ext f J w m ai av m):fF P B f J w m ei ai ((do s;pure .skip:Sem Next).run P w):=by
 obtain⟨av,h1,h2,h3⟩:=h;exact⟨undef,av,m,.inr ⟨by simp[h1],rfl⟩,ag.undef,h2,h3⟩
variable {o:Oper}{cJ:AOp}{v:AV}{ai:ae}
def VF(c:Ctx P env J w m B al a){x:Operand}(ho:o.op= .move x\/o.op= .assign x)(ab:cop P o=some cJ)(h:opx f (evalA env al) J cJ=some (.val v ai)):fF P B f J w m v ai ((execOp a.eval o).run P w):=by
 have hx:∃bS,opdOf x=some bS/\cJ= .bJ bS:=by
  unfold cop at ab;rcases ho with ho|ho<;>(rw[ho] at ab;simp only[fs] at ab;obtain⟨bS,h1,rfl⟩:=ab;exact⟨bS,h1,rfl⟩)
 obtain⟨bS,hx,rfl⟩:=hx;simp only[opx] at h;split at h<;>cases h;rename_i au;have e:execOp a.eval o=pure (.value (a.eval x)):=by unfold execOp;rcases ho with ho|ho<;>rw[ho]
 rw[e];exact fF.pure c.rel I (c.ar hx au)
def b1F(c:Ctx P env J w m B al a){x y z:Operand}(ho:o.op= .pick x y z)(ab:cop P o=some cJ)(h:opx f (evalA env al) J cJ=some (.val v ai)):fF P B f J w m v ai ((execOp a.eval o).run P w):=by
 simp only[cop,ho,eD,dU,eU,cL] at ab;obtain⟨bS,hx,eY,hy,wS,a6,rfl⟩:=ab;simp only[opx] at h;split at h<;>try (cases h;done)
 rename_i t ht;split at h<;>cases h;rename_i au;have hb:=(c.ar hx ht).wK;simp only[execOp,ho];refine b1E c ⟨if t then a.eval y else a.eval z,by simp[hb];cases t<;>rfl,?_⟩;cases t with
 |true=>exact c.ar hy au
 |false=>exact c.ar a6 au
def b1G(c:Ctx P env J w m B al a){t:TypeId}(ho:o.op= .alloc t)(ab:cop P o=some cJ)(h:opx f (evalA env al) J cJ=some (.val v ai)):fF P B f J w m v ai ((execOp a.eval o).run P w):=by
 simp only[cop,ho,fs] at ab;obtain⟨z,a6,rfl⟩:=ab;simp only[opx] at h;cases h;simp only[execOp,ho];exact q0 (a9R c.rel a6)
def b1H(c:Ctx P env J w m B al a){t:TypeId}{x:Operand}(ho:o.op= .box t x)(ab:cop P o=some cJ)(h:opx f (evalA env al) J cJ=some (.val v ai)):fF P B f J w m v ai ((execOp a.eval o).run P w):=by
 simp only[cop,ho,fs] at ab;obtain⟨bS,hx,rfl⟩:=ab;simp only[opx] at h;split at h<;>try (cases h;done)
 rename_i bR au;cases hval:bR.val with
 |false=>rw[hval] at h;cases h
 |true=>
  rw[hval,cond_true] at h;cases h;simp only[execOp,ho];exact q0 (a9P c.rel (c.ar hx au) (Nc (c.ar hx au) hval))
def b1I(c:Ctx P env J w m B al a){t:TypeId}{x:Operand}(ho:o.op= .load t x)(ab:cop P o=some cJ)(h:opx f (evalA env al) J cJ=some (.val v ai)):fF P B f J w m v ai ((execOp a.eval o).run P w):=by
 simp only[cop,ho,eD,dU,eU,cL] at ab;obtain⟨aa,ao,bS,hx,rfl⟩:=ab;simp only[opx] at h;simp only[execOp,ho];split at h<;>try (cases h;done)
 rename_i p aw;split at h<;>cases h;rename_i au;exact fT c (a9M c.rel ao (c.ar hx aw) au)
def b1J(c:Ctx P env J w m B al a){t:TypeId}{x y:Operand}(ho:o.op= .store t x y)(ab:cop P o=some cJ)(h:opx f (evalA env al) J cJ=some (.val v ai)):fF P B f J w m v ai ((execOp a.eval o).run P w):=by
 simp only[cop,ho,eD,dU,eU,cL] at ab;obtain⟨aa,ao,bS,hx,eY,hy,rfl⟩:=ab;simp only[opx] at h;simp only[execOp,ho];split at h<;>try (cases h;done)
 rename_i id off bR aw au;split at h<;>try (cases h;done)
 rename_i ep;split at h<;>try (cases h;done)
 rename_i vh;split at h<;>try (cases h;done)
 rename_i cs hg;split at h<;>cases h;rename_i bD cR;obtain⟨aD,hm,mW⟩:=(c.ar hx aw).wL;rw[mW];exact NF (a9O c.rel ao (by simpa [MD] using ep) hm hg vh cR (c.ar hy au))
def b1K(c:Ctx P env J w m B al a){x:Operand}(ho:o.op= .nilCheck x)(ab:cop P o=some cJ)(h:opx f (evalA env al) J cJ=some (.val v ai)):fF P B f J w m v ai ((execOp a.eval o).run P w):=by
 simp only[cop,ho,fs] at ab;obtain⟨bS,hx,rfl⟩:=ab;simp only[opx] at h;split at h<;>try (cases h;done)
 rename_i bR au;cases hn:nilOk bR with
 |false=>rw[hn] at h;cases h
 |true=>
  rw[hn,cond_true] at h;cases h;exact fF.pure c.rel (b0q ho (c.ar hx au) hn) (c.ar hx au)
def b1L(c:Ctx P env J w m B al a){op:UnOp}{t:TypeId}{x:Operand}(ho:o.op= .unOp op t x)(ab:cop P o=some cJ)(h:opx f (evalA env al) J cJ=some (.val v ai)):fF P B f J w m v ai ((execOp a.eval o).run P w):=by
 simp only[execOp,ho];cases op<;>simp only[cop,ho,fs,reduceCtorEq] at ab
 ·obtain⟨bS,hx,rfl⟩:=ab;simp only[opx] at h;split at h<;>cases h;rename_i au;exact fT c ⟨_,b0s (c.ar hx au),.i _ _⟩
 ·obtain⟨bS,hx,rfl⟩:=ab;simp only[opx] at h;split at h<;>cases h;rename_i au;exact fT c ⟨_,b0r (c.ar hx au),.b _⟩
def VG:∀ {bC ob:List Nat} {l r:List AV} {res:Bool},mR (bC++ob) l r=some res->∃a b,mR bC (l.take bC.length) (r.take bC.length)=some a/\mR ob (l.drop bC.length) (r.drop bC.length)=some b/\res=(a&&b)
 |[],ob,l,r,res,h=>⟨true,res,rfl,by simpa using h,aF⟩
 |k::bC,ob,l,r,res,h=>by
  rw[C5,leafEqs_cons] at h;split at h<;>try (cases h;done)
  rename_i x xs y bf;split at h<;>cases h;rename_i a b ha hb;obtain⟨cH,fR,h1,h2,rfl⟩:=VG hb;refine⟨a&&cH,fR,?_,h2,by rw[Bool.and_assoc]⟩;rw[CZ,Ug,Ug,leafEqs_cons];simp only[ha,h1]
def NG{d:Nat}{cs ds:List AV}{us bo:Array Value}{O:Nat->Prop}(hl:bQ w m O B cs us.toList)(aq:bQ w m O B ds bo.toList)(ep:∀x∈cs,conf none x=true)(bH:∀x∈ds,conf none x=true):
  ∀(a8:List Field) (i:Nat) (bC:List Nat) (res:Bool),flatS P i a8=some bC->mR bC (cs.drop i) (ds.drop i)=some res->∀av,
  (forIn a8 ((none:Option Bool),()) (λ(f:Field) (_:Option Bool×Unit)=>
      if f.name= "_" then(pure (ForInStep.yield (none,())):Sem (ForInStep (Option Bool×Unit)))
      else do
       let a <-part f.type us f.offset
       let b <-part f.type bo f.offset
       let c <-Op.equalIn (d+2) f.type a b
       if c=false then pure (ForInStep.done (some false,())) else pure (ForInStep.yield (none,())))).run P av= .ok (if res then(none,()) else(some false,())) av
 |[],i,bC,res,ay,h,av=>by
  rw[flatS] at ay;cases ay;rw[leafEqs_nil] at h;split at h<;>cases h;simp
 |f::a8,i,bC,res,ay,h,av=>by
  rw[flatS] at ay;split at ay<;>try (cases ay;done)
  rename_i ab;obtain⟨h1,rfl⟩:=ab;split at ay
  ·rename_i k gF;split at ay<;>try (cases ay;done)
   rename_i ao;obtain⟨ve,o3,rfl⟩:=fs.1 ay;rw[leafEqs_cons] at h;split at h<;>try (cases h;done)
   rename_i x xs y bf ex VH;split at h<;>cases h;rename_i a b ha hb;obtain⟨u,hu,j4⟩:=(hl.drop f.offset).get (i:=0) (v:=x) (by rw[ex];rfl);obtain⟨v,au,Nt⟩:=(aq.drop f.offset).get (i:=0) (v:=y) (by rw[VH];rfl);rw[oR,g5,C0] at hu au;obtain⟨aL,_⟩:=yI gF j4 Nt ha;have aH:=NG hl aq ep bH a8 (f.offset+1) ve b o3 (by rw[<-oV,← oV,ex,VH];exact hb) av (d:=d);rw[Hc];simp only[h1,if_false,cB,Dy ao hu,Dy ao au,e7,aL];cases a with
   |false=>simp
   |true=>simpa using aH
  ·split at ay<;>try (cases ay;done)
   rename_i ob NH;split at ay<;>try (cases ay;done)
   rename_i ao;obtain⟨ve,o3,rfl⟩:=fs.1 ay;obtain⟨a,b,ha,hb,rfl⟩:=VG h;obtain⟨bU,bV,_⟩:=lz ao av;have hx:∀ {cs:List AV} {us:Array Value},bQ w m O B cs us.toList->(part f.type us f.offset).run P av= .ok (.agg (us.extract f.offset (f.offset+ob.length))) av/\bQ w m O B ((cs.drop f.offset).take ob.length) (us.extract f.offset (f.offset+ob.length)).toList:=λab=>by
    refine⟨by simp[part,bU,bV,shN],?_⟩;have:=(ab.drop f.offset).take ob.length;simpa using this
   obtain⟨lq,h4⟩:=hx hl;obtain⟨nW,kl⟩:=hx aq;obtain⟨g0,hu,pZ,hf,hm⟩:=HO NH;have aL:(Op.equalIn (d+2) f.type (.agg (us.extract f.offset (f.offset+ob.length))) (.agg (bo.extract f.offset (f.offset+ob.length)))).run P av= .ok a av:=by
    have:=forIn_eq (av:=av) (d:=d) g0.toList 0 ob _ _ (us.extract f.offset (f.offset+ob.length)) (bo.extract f.offset (f.offset+ob.length)) a hf hm (by rw[He];exact h4) (by rw[He];exact kl) ha;rw[eqStruct_run hu pZ (d+1),this];cases a<;>simp
   have aH:=NG hl aq ep bH a8 (f.offset+ob.length) ve b o3 (by rw[<-oV,← oV];exact hb) av (d:=d);rw[Hc];simp only[h1,if_false,cB,lq,nW,e7,aL];cases a with
   |false=>simp
   |true=>simpa using aH
def b1M{O:Nat->Prop}{t:TypeId}{kind:Nat}(ay:stK P t=some kind){x y:AV}{v:Bool}{a b:Value}(ha:ag w m O B x a)(hb:ag w m O B y b)(h:isNilEq kind x y=some v)(de ey:Operand):
  (((do eqGuard .eql t de ey a b;Go.binOp .eql t a b:Sem Value).run P w= .ok (.bool v) w/\(do eqGuard .neq t de ey a b;Go.binOp .neq t a b:Sem Value).run P w= .ok (.bool (!v)) w)):=by
 unfold stK at ay;split at ay<;>try (cases ay;done)
 rename_i a8 hu;split at ay<;>try (cases ay;done)
 rename_i pZ;have pZ:P.stoodInHeld t=false:=by simpa using pZ
 split at ay<;>try (cases ay;done)
 rename_i bC NH;split at ay<;>cases ay;rename_i hd;obtain⟨hd,hg⟩:=hd;have key:keyEq (.inr bC) x y=some v:=by
  unfold isNilEq at h;split at h
  case h_12=>
   have e:Nat.ble 10 (10+Hl bC)=true:=iR (MM _ _);rw[e,cond_true,Uh,hd] at h;exact h
  case h_13=>cases h
  all_goals (rename_i a6;first|(exfalso;omega)|(rename_i iJ _;exfalso;omega)|(rename_i iJ _ _;exfalso;omega))
 simp only[keyEq] at key;split at key<;>try (cases key;done)
 obtain⟨us,rfl,hl,ep⟩:=ha.qR;obtain⟨bo,rfl,aq,bH⟩:=hb.qR;have he:(Op.equal t (.agg us) (.agg bo)).run P w= .ok v w:=by
  have b1N:∀d,(Op.equalIn (d+3) t (.agg us) (.agg bo)).run P w= .ok v w:=λd=>by
   have:=NG (av:=w) (d:=d) hl aq ep bH a8.toList 0 bC v NH (by simpa using key);rw[eqStruct_run hu pZ (d+2),this];cases v<;>simp
  exact b1N 9997
 have h1:Go.binOp .eql t (.agg us) (.agg bo)=(do pure (.bool (←Op.equal t (.agg us) (.agg bo))):Sem Value):=rfl;have h2:Go.binOp .neq t (.agg us) (.agg bo)=(do pure (.bool (!(←Op.equal t (.agg us) (.agg bo)))):Sem Value):=rfl;have g:∀op,(eqGuard op t de ey (.agg us) (.agg bo)).run P w= .ok () w:=λop=>by
  unfold eqGuard;cases op<;>simp[hg]
 constructor
 ·rw[h1];simp[cB,g,he]
 ·rw[h2];simp[cB,g,he]
def b1O(c:Ctx P env J w m B al a){op:BinOp}{t:TypeId}{x y:Operand}{z:TypeId}(ho:o.op= .binOp op t x y z)(ab:cop P o=some cJ)(h:opx f (evalA env al) J cJ=some (.val v ai)):fF P B f J w m v ai ((execOp a.eval o).run P w):=by
 simp only[cop,ho,eD,dU] at ab;obtain⟨bS,hx,eY,hy,ab⟩:=ab;simp only[execOp,ho];have plain:cJ= .bin op bS eY->fF P B f J w m v ai ((do pure (.value (←(do eqGuard op t x y (a.eval x) (a.eval y);Go.binOp op t (a.eval x) (a.eval y)))):Sem Next).run P w):=λe=>by
  subst e;simp only[opx] at h;split at h<;>try (cases h;done)
  rename_i p q aw aV;split at h<;>cases h;rename_i au;obtain⟨u,h1,h2,h3⟩:=ok_bin (P:=P) (t:=t) (c.ar hx aw) (c.ar hy aV) au;exact fT c ⟨u,by rw[h3 x y];exact h1,h2⟩
 have VI:∀neg,P.underlying t=some .bool->op=(if neg then .neq else .eql)->cJ= .yp neg bS eY->fF P B f J w m v ai ((do pure (.value (←(do eqGuard op t x y (a.eval x) (a.eval y);Go.binOp op t (a.eval x) (a.eval y)))):Sem Next).run P w):=λneg ht dP e=>by
  subst e;simp only[opx] at h;split at h<;>try (cases h;done)
  rename_i p q aw aV;split at h<;>cases h;rename_i b au;obtain⟨h1,h2⟩:=a9W ht (c.ar hx aw) (c.ar hy aV) au x y;cases neg with
  |false=>subst dP;exact fT c ⟨_,h1,.b _⟩
  |true=>subst dP;exact fT c ⟨_,h2,.b _⟩
 have tH:∀kind neg,UY P t kind->op=(if neg then .neq else .eql)->cJ= .jZ kind neg bS eY->fF P B f J w m v ai ((do pure (.value (←(do eqGuard op t x y (a.eval x) (a.eval y);Go.binOp op t (a.eval x) (a.eval y)))):Sem Next).run P w):=λkind neg ht dP e=>by
  subst e;simp only[opx] at h;split at h<;>try (cases h;done)
  rename_i p q aw aV;split at h<;>cases h;rename_i b au;obtain⟨h1,h2⟩:=a9Y ht (c.ar hx aw) (c.ar hy aV) au x y;cases neg with
  |false=>subst dP;exact fT c ⟨_,h1,.b _⟩
  |true=>subst dP;exact fT c ⟨_,h2,.b _⟩
 have strs:∀kind neg,stK P t=some kind->op=(if neg then .neq else .eql)->cJ= .jZ kind neg bS eY->fF P B f J w m v ai ((do pure (.value (←(do eqGuard op t x y (a.eval x) (a.eval y);Go.binOp op t (a.eval x) (a.eval y)))):Sem Next).run P w):=λkind neg ht dP e=>by
  subst e;simp only[opx] at h;split at h<;>try (cases h;done)
  rename_i p q aw aV;split at h<;>cases h;rename_i b au;obtain⟨h1,h2⟩:=b1M ht (c.ar hx aw) (c.ar hy aV) au x y;cases neg with
  |false=>subst dP;exact fT c ⟨_,h1,.b _⟩
  |true=>subst dP;exact fT c ⟨_,h2,.b _⟩
 split at ab
 case h_15=>obtain⟨k,ay,rfl⟩:=fs.1 ab;exact strs k false ay I I
 case h_16=>obtain⟨k,ay,rfl⟩:=fs.1 ab;exact strs k true ay I I
 case h_17=>cases ab
 all_goals cases ab
 ·exact plain I
 ·exact plain I
 ·rename_i ht;exact VI false ht I I
 ·rename_i ht;exact VI true ht I I
 ·rename_i ht;exact tH 0 false (.inl ⟨rfl,_,ht⟩) I I
 ·rename_i ht;exact tH 0 true (.inl ⟨rfl,_,ht⟩) I I
 ·rename_i ht;exact tH 1 false (.inr (.inl ⟨rfl,_,ht⟩)) I I
 ·rename_i ht;exact tH 1 true (.inr (.inl ⟨rfl,_,ht⟩)) I I
 ·rename_i ht;exact tH 2 false (.inr (.inr (.inl ⟨rfl,_,_,_,ht⟩))) I I
 ·rename_i ht;exact tH 2 true (.inr (.inr (.inl ⟨rfl,_,_,_,ht⟩))) I I
 ·rename_i ht;exact tH 3 false (.inr (.inr (.inr (.inl ⟨rfl,_,ht⟩)))) I I
 ·rename_i ht;exact tH 3 true (.inr (.inr (.inr (.inl ⟨rfl,_,ht⟩)))) I I
 ·rename_i ht;exact tH 4 false (.inr (.inr (.inr (.inr ⟨rfl,_,_,ht⟩)))) I I
 ·rename_i ht;exact tH 4 true (.inr (.inr (.inr (.inr ⟨rfl,_,_,ht⟩)))) I I
def VJ{P:Program}{t:TypeId}(h:isU8 P t=true):P.underlying t=some (.int .u8):=by
 unfold isU8 at h;split at h
 ·assumption
 ·cases h
def b1P(c:Ctx P env J w m B al a){s d:TypeId}{x:Operand}(ho:o.op= .convert s d x)(ab:cop P o=some cJ)(h:opx f (evalA env al) J cJ=some (.val v ai)):fF P B f J w m v ai ((execOp a.eval o).run P w):=by
 simp only[cop,ho] at ab;simp only[execOp,ho];split at ab
 ·rename_i dF k ao hd;simp only[fs] at ab;obtain⟨bS,hx,rfl⟩:=ab;simp only[opx] at h;split at h
  ·cases h;rename_i au;exact fT c ⟨_,b0t ao hd (c.ar hx au),.i _ _⟩
  ·rename_i au;split at h<;>cases h;obtain⟨n,h1,h2⟩:=b0u ao hd (c.ar hx au);exact fT c ⟨_,h1,h2⟩
  ·cases h
 ·rename_i e ao hd;split at ab<;>try (cases ab;done)
  rename_i NI;simp only[fs] at ab;obtain⟨bS,hx,rfl⟩:=ab;simp only[opx] at h;split at h<;>cases h;rename_i l au;exact q0 (b1m c.rel f ao hd (VJ NI) (c.ar hx au))
 ·rename_i e ao hd;split at ab<;>try (cases ab;done)
  rename_i NI;simp only[fs] at ab;obtain⟨bS,hx,rfl⟩:=ab;simp only[opx] at h;split at h<;>try (cases h;done)
  rename_i DE au;split at h<;>try (cases h;done)
  rename_i xs b1Q;split at h<;>cases h;rename_i l hl;obtain⟨h1,h2⟩:=b1n c.rel ao (VJ NI) hd (c.ar hx au) b1Q hl;exact fT c ⟨_,h1,.s _ h2⟩
 ·cases ab
def b1R(c:Ctx P env J w m B al a){t:TypeId}{x:Operand}(ho:o.op= .makeInterface t x)(ab:cop P o=some cJ)(h:opx f (evalA env al) J cJ=some (.val v ai)):fF P B f J w m v ai ((execOp a.eval o).run P w):=by
 simp only[cop,ho] at ab;simp only[execOp,ho];split at ab<;>try (cases ab;done)
 rename_i d a7 hd;simp only[fs] at ab;obtain⟨bS,hx,rfl⟩:=ab;simp only[opx] at h;split at h<;>cases h;rename_i au;exact fT c ⟨_,b0v hd (λms e=>a7 ms e) _,.it (c.ar hx au)⟩
def b1S(c:Ctx P env J w m B al a){fn:Fn}{xs bf:Array Operand}(ho:o.op= .makeFunc fn xs bf)(ab:cop P o=some cJ)(h:opx f (evalA env al) J cJ=some (.val v ai)):fF P B f J w m v ai ((execOp a.eval o).run P w):=by
 simp only[cop,ho] at ab;simp only[execOp,ho];split at ab<;>try (cases ab;done)
 rename_i g;simp only[eD,dU,eU,cL] at ab;obtain⟨bS,hx,eY,hy,rfl⟩:=ab;simp only[opx] at h;split at h<;>cases h;rename_i p q aw aV;have h1:=Dk c.rel.yP c.globs c.bj hx aw;have h2:=Dk c.rel.yP c.globs c.bj hy aV;have aL:=h1.1;have a5:=h2.1;simp at aL a5;refine fT c ⟨_,rfl,.cO (by simpa using aL) (λi a b=>?_) (by simpa using a5) (λi a b=>?_)⟩
 ·have:=h1.2 i a (by simpa using b);simpa using this
 ·have:=h2.2 i a (by simpa using b);simpa using this
def b1T(c:Ctx P env J w m B al a){t:TypeId}{r:Option Operand}(ho:o.op= .makeMap t r)(ab:cop P o=some cJ)(h:opx f (evalA env al) J cJ=some (.val v ai)):fF P B f J w m v ai ((execOp a.eval o).run P w):=by
 simp only[cop,ho] at ab;simp only[execOp,ho];have key:(Instr.makeMap t (r.map a.eval)).run P w= .ok (.map (some w.heap.size)) {w with heap:=w.heap.push (.map #[] 0)}/\cJ= .mkMap:=by
  split at ab<;>cases ab
  ·exact⟨by simp[Instr.makeMap],rfl⟩
  ·rename_i ht;exact⟨by simp[Instr.makeMap,run_underlying ht,Act.eval,asInt,asIntOf],rfl⟩
 obtain⟨key,rfl⟩:=key;simp only[opx] at h;cases h;obtain⟨h1,h2⟩:=c.rel.alloc f {w with heap:=w.heap.push (.map #[] 0)} (.map [] 0) (.map #[] 0) I I I I I (.map I (λi h=>by simp at h));exact q0 ⟨_,_,_,key,.mp (hY _ _ _),h1,h2⟩
end
end
end Go.Lyc
end
