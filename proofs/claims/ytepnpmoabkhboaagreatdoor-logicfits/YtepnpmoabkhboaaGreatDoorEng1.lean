/-
  An abstract executor of the program's code, and that it is sound, part 1. No conditions: definitions and laws.
-/
import GoSem.Step
import Derived.RangeFuncLeaves
import Derived.RecoverIn
import Derived.OrdersIn
import Derived.Laws.IdiomCopy
import Derived.Below
import Derived.MapKept
import Derived.Laws.Strings
import Derived.Deep.Upon
import Derived.Laws.IdiomStrings
import Derived.Laws.MakeOwn
import Derived.Lib.AppendZeros
import Derived.Maps.RangeRun
set_option linter.all false
noncomputable section
namespace Go.Lyc
theorem I{α:Sort _}{a:α}:a=a:=rfl
def b6:=@Nat.le_refl
def lE:=@Nat.le_trans
def cw:=@Option.some.injEq
def eM:=@Nat.eq_of_beq_eq_true
def fE:=@Nat.beq_refl
def om:=@Ne.symm
def pa:=@Nat.lt_succ_self
def Nc:=@Nat.not_lt_zero
def gD:=@Nat.blt_eq
def Dk:=@Nat.lt_succ_of_lt
def gS:=@List.length_cons
def HW:=@List.getElem?_cons_succ
def HX:=@Array.getElem?_setIfInBounds
def Nd:=@Array.getElem?_setIfInBounds_ne
def yC:=@Array.getElem?_eq_some_iff
def Nf:=@Array.getElem?_push
def Ng:=@Nat.le_succ
def nG:=@Nat.lt_or_ge
def AZ:=@Array.getElem?_eq_none
def kz:=@List.map_map
def Nh:=@List.map_id
def rh:=@List.map_congr_left
def di:=@List.mem_map
def sS:=@Array.length_toList
def lF:=@List.getElem_of_mem
def lG:=@List.getElem?_eq_some_iff
def eS:=@List.getElem?_eq_getElem
def HY:=@List.getElem_append_left
def HZ:=@List.getElem_append_right
def Ni:=@List.getElem_drop
def Dl:=@List.getElem_take
def dx:=@List.mem_singleton
def er:=@Go.Sem.run_bind
def ez:=@Go.Result.andThen_ok
def gM:=@List.length_take
def yD:=@Nat.add_zero
def oo:=@List.mem_of_mem_take
def nH:=@List.mem_of_mem_drop
def ri:=@List.getElem?_drop
def sT:=@List.getElem?_take_of_lt
def cb:=@List.length_map
def UE:=@List.length_range
def eb:=@Nat.le_of_ble_eq_true
def c3:=@List.getElem_mem
def pb:=@Array.getElem?_eq_getElem
def gN:=@List.mem_append
def yE:=@List.getElem?_append
def c7:=@Bool.and_eq_true
def mr:=@Array.getElem?_toList
def ic:=@List.getElem_map
def hB:=@Go.Sem.run_pure
def Nj:=@Int.emod_eq_of_lt
def UF:=@UInt8.lt_iff_toNat_lt
def rj:=@Bool.false_eq_true
def rk:=@List.cons.injEq
def mv:=@List.map_cons
def rl:=@Bool.eq_iff_iff
def oq:=@List.mem_cons_self
def fP:=@List.mem_cons_of_mem
def UG:=@Go.ByteArray.toList_eq
def m6:=@Array.ext'
def UH:=@Go.MapKept.bytes_beq
def Dm:=@Int.natCast_nonneg
def qf:=@Bool.or_eq_true
def mw:=@Nat.beq_eq
def ot:=@Int.ofNat.inj
def Dn:=@Nat.lt_of_le_of_lt
def Nk:=@Nat.div_le_self
def hO:=@Nat.ble_eq_true_of_le
def uQ:=@Int.ofNat_eq_natCast
def Dp:=@Int.ofNat_lt
def sU:=@Nat.add_assoc
def A0:=@Option.some.inj
def H0:=@Option.map_some
def Dq:=@List.map_take
def jz:=@Nat.add_mul
def qg:=@Nat.mul_le_mul_right
def kA:=@Nat.zero_le
def Nl:=@List.foldl_cons
def UI:=@Array.mapM_eq_mapM_toList
def a7q:=@List.any_eq_false
def qh:=@Nat.one_mul
def uR:=@Nat.add_comm
def ie:=@List.map_append
def ou:=@List.eq_nil_of_length_eq_zero
def yF:=@Array.toList_range
def uS:=@Array.toList_map
def Nm:=@Array.getElem!_eq_getD
def qi:=@Array.getD_eq_getD_getElem?
def j4:=@List.flatMap_cons
def eH:=@List.mem_cons
def yG:=@List.mem_flatMap
def H2:=@List.getElem_cons_zero
def H3:=@List.length_pos_iff
def UJ:=@Nat.one_le_iff_ne_zero
def UK:=@Nat.mul_le_mul_left
def UL:=@Array.size_append
def h5:=@List.length_append
def UM:=@Array.getElem_append_left
def wL:=@List.mem_append_left
def yH:=@List.mem_append_right
def ov:=@List.drop_drop
def Dr:=@List.getElem_cons_succ
def H4:=@List.forIn_cons
def UN:=@List.zip_cons_cons
def H5:=@List.all_cons
def H6:=@Bool.and_self
def wM:=@Bool.not_eq_true'
def mx:=@List.all_eq_true
def wN:=@Nat.sub_self
def wO:=@List.length_set
def H7:=@List.getElem_set
def Ds:=@List.filter_cons
def U{P:Prop}(h:P:=by omega):P:=h
def aT{P:Prop}(h:P:=by simp):P:=h
def eI{P:Prop}(h:P:=by decide):P:=h
def b9{P:Prop}(h:P:=by repeat (first|exact trivial|refine ⟨rfl,?_⟩)):P:=h
set_option maxHeartbeats 0
set_option maxRecDepth 100000
inductive AV where
 |b (x:Bool)
 |i (k:IntKind) (n:Int)
 |s (l:List Nat)
 |p (a:Option (Nat×Nat))
 |dk (old:Bool) (v:AV)
 |aq (id off len:Nat) (R:Option Nat) (cap:Option Nat)
 |aj
 |aR (old:Bool) (R:Option Nat) (xs:List AV)
 |m (r:Option Nat)
 |f (fn:Fn) (first captured:List AV)
 |gp
 |it (t:TypeId) (v:AV)
 |eC
 |ad (l:List AV)
 |a6 (l:List AV)
 |e3 (k:IntKind) (d j:Nat) -- a c3D number,of UO is known H8 it leaves by d
 |hC (ex:List (List Nat)) -- a string,none of a7r
 |iz (hi:Bool) -- wP i64 wQ is not known:c3E it is c3F a7s 40
 |y (i:Nat) -- a string,wP integer wQ is not known
 |eT (old:Bool) (i:Nat) -- a slice wQ is not known,over memory wQ never changes
 |g1 (n:Nat) -- wP i64 wQ is not known,not less a7s n
 |fF (bX hi:Nat) -- wP i64 wQ is not known,c3G two numbers
 |iA (old:Bool) (R:Option Nat) (xs:List AV) -- c3H aR,with a capacity wQ is a7t length
 deriving Inhabited
inductive aH where
 |t (i:Nat)
 |c (v:AV)
 |g (g:Nat)
 deriving Inhabited
inductive sV where
 |fn (f:Nat)
 |val (o:aH)
 deriving Inhabited
inductive AOp where
 |cD (x:aH)
 |pick (c a b:aH)
 |alloc (v:AV)
 |box (x:aH)
 |build (zero:List AV) (parts:List (Nat×Nat×aH)) -- offset,cells,H8
 |buildSlice (R:Option Nat) (len:Nat) (zero:List AV) (parts:List (Nat×aH))
 |load (R:Option Nat) (a:aH)
 |store (R:Option Nat) (a x:aH)
 |nilCheck (x:aH)
 |bin (op:BinOp) (x y:aH)
 |A1 (neg:Bool) (x y:aH)
 |my (kind:Nat) (neg:Bool) (x y:aH) -- kind:0 interface,1 pointer,2 function,3 slice,4 map;from 10 on:structs
 |not (x:aH)
 |neg (x:aH)
 |conv (k:IntKind) (x:aH)
 |H9 (x:aH)
 |H_ (x:aH)
 |Ia (t:TypeId) (x:aH)
 |ow (fn:Fn) (first captured:List aH)
 |mkMap
 |mkSlice (R:Option Nat) (bytes:Nat) (zero:List AV) (len cap:aH)
 |A2 (n:Nat) (R:Option Nat) (x:aH) (bX hi:Option aH)
 |m7 (R:Option Nat) (x:aH) (bX hi cI:Option aH)
 |rm (x:aH) (bX hi:Option aH)
 |fieldAddr (off:Nat) (R:Option Nat) (x:aH)
 |field (off:Nat) (R:Option Nat) (x:aH)
 |A3 (n:Nat) (R:Option Nat) (x i:aH)
 |dr (R:Option Nat) (x i:aH)
 |yI (x i:aH)
 |Nn (n:Nat) (R:Option Nat) (x i:aH)
 |lookup (R:Nat ⊕ List Nat) (x k:aH) (zero:AV) (ok:Bool) -- rn c3I shape
 |ox (R:Nat ⊕ List Nat) (m k v:aH)
 |rangeMap (x:aH)
 |sW (x:aH)
 |entry (x:aH)
 |No (x:aH) (t:TypeId) (zero:AV) (ok:Bool)
 |extract (x:aH) (i:Nat)
 |call (c:sV) (args:List aH)
 |iP (c:sV) (args:List aH)
 |panic (x:aH)
 |append (R:Option Nat) (bytes:Nat) (s x:aH)
 |len (kind:Nat) (x:aH) -- 0:string;1:slice;2:map
 |Ib (n:Nat)
 |cap (x:aH)
 |copy (R:Option Nat) (d s:aH)
 |Ic (cI:Bool) (x y:aH)
 |recover
 |bad
 deriving Inhabited
structure aX where
 dst:Option Nat
 op:AOp
 guard:Option (Nat×Bool) -- rn a7u,and H8 it c3J be
 je:List Nat -- of a region wQ c3K:rn places ahead of UO it may c3L,a7v
 deriving Inhabited
inductive bC where
 |skip
 |region (ops:List aX)
 |draw (ops:List aX)
 |seq (a b:bC)
 |cond (c:aH) (a b:bC)
 |block (id:Nat) (a:bC)
 |loop (a:bC)
 |scope (a:bC)
 |rangeFunc (f:aH) (aE:List Nat) (assign body:bC)
 |exit (id:Nat)
 |ret
 |bad
 deriving Inhabited
structure bP where
 ig:Nat
 ntmps:Nat
 results:List (Nat×Option (Option Nat)) -- rn a7u;none:by value;some R:a cell of wQ shape
 body:Option bC
 deriving Inhabited
inductive aY(α:Type) where
 |nil
 |node (v:Option α) (l r:aY α)
 deriving Inhabited
def aY.get{α:Type}(t:aY α):Nat->Option α:=
 aY.rec (λ_=>none) (λv _ _ iQ Dt i=>Bool.rec (motive:=λ_=>Option α) (Bool.rec (motive:=λ_=>Option α) (Dt (Nat.div (Nat.sub i 1) 2)) (iQ (Nat.div (Nat.sub i 1) 2)) (Nat.beq (Nat.mod i 2) 1)) v (Nat.beq i 0)) t
def aY.set{α:Type}(t:aY α):Nat->α->aY α:=
 aY.rec (λ_ _=>.nil) (λv l r iQ Dt i x=>Bool.rec (motive:=λ_=>aY α) (Bool.rec (motive:=λ_=>aY α) (.node v l (Dt (Nat.div (Nat.sub i 1) 2) x)) (.node v (iQ (Nat.div (Nat.sub i 1) 2) x) r) (Nat.beq (Nat.mod i 2) 1))
  (.node (Option.rec (motive:=λ_=>Option α) none (λ_=>some x) v) l r) (Nat.beq i 0)) t
def aY.A4{α:Type}(f:Nat):Nat->α->aY α:=
 Nat.rec (λ_ _=>.nil) (λ_ ar i x=>Bool.rec (motive:=λ_=>aY α) (Bool.rec (motive:=λ_=>aY α) (.node none .nil (ar (Nat.div (Nat.sub i 1) 2) x)) (.node none (ar (Nat.div (Nat.sub i 1) 2) x) .nil) (Nat.beq (Nat.mod i 2) 1)) (.node (some x) .nil .nil) (Nat.beq i 0)) f
def aY.ins{α:Type}(t:aY α):Nat->α->aY α:=
 aY.rec (λi x=>aY.A4 (i+1) i x) (λv l r iQ Dt i x=>Bool.rec (motive:=λ_=>aY α) (Bool.rec (motive:=λ_=>aY α) (.node v l (Dt (Nat.div (Nat.sub i 1) 2) x)) (.node v (iQ (Nat.div (Nat.sub i 1) 2) x) r) (Nat.beq (Nat.mod i 2) 1))
  (.node (some x) l r) (Nat.beq i 0)) t
def aY.full{α:Type}(f:Nat)(x:α):Nat->aY α:=
 Nat.rec (λ_=>.nil) (λ_ ar n=>cond (Nat.beq n 0) .nil (.node (some x) (ar (Nat.div n 2)) (ar (Nat.div (Nat.sub n 1) 2)))) f
def aY.lay{α:Type}(l:List α):Nat->aY α->aY α:=
 List.rec (λ_ t=>t) (λx _ ar i t=>ar (i+1) (t.set i x)) l
inductive rp where
 |h
 |l (p:rp)
 |r (p:rp)
def yJ(f:Nat):Nat->rp:=
 Nat.rec (motive:=λ_=>Nat->rp) (λ_=>.h) (λ_ ar i=>Bool.rec (motive:=λ_=>rp) (Bool.rec (motive:=λ_=>rp) (.r (ar (Nat.div (Nat.sub i 1) 2))) (.l (ar (Nat.div (Nat.sub i 1) 2))) (Nat.beq (Nat.mod i 2) 1)) .h (Nat.beq i 0)) f
def Np(i:Nat):rp:=yJ (Nat.succ i) i
def aY.Ie{α:Type}(p:rp):aY α->Option α:=
 rp.rec (motive:=λ_=>aY α->Option α) (λt=>aY.rec (motive:=λ_=>Option α) none (λv _ _ _ _=>v) t) (λ_ ar t=>aY.rec (motive:=λ_=>Option α) none (λ_ l _ _ _=>ar l) t)
  (λ_ ar t=>aY.rec (motive:=λ_=>Option α) none (λ_ _ r _ _=>ar r) t) p
def aY.UP{α:Type}(x:α)(p:rp):aY α->aY α:=
 rp.rec (motive:=λ_=>aY α->aY α) (λt=>aY.rec (motive:=λ_=>aY α) .nil (λv l r _ _=>.node (Option.rec (motive:=λ_=>Option α) none (λ_=>some x) v) l r) t)
  (λ_ ar t=>aY.rec (motive:=λ_=>aY α) .nil (λv l r _ _=>.node v (ar l) r) t) (λ_ ar t=>aY.rec (motive:=λ_=>aY α) .nil (λv l r _ _=>.node v l (ar r)) t) p
inductive AO where
 |cells (c:List AV)
 |dead
 |map (es:List (AV×AV×Nat)) (clock:Nat)
 |mapIter (m:Option Nat) (since:Nat) (seen:List Nat) (g2:Nat)
 |loop (st:LoopState) (pending:Option bC) (a5:aY AV) (aE:List Nat) (assign body:bC) (dN:Nat)
 |dN
 |hc (c:List AV) (r:Nat) -- cells,and a7w many more there a7x behind c3M,c3N c3O hold
 deriving Inhabited
structure ag where
 yK:aY AO
 next:Nat
 deriving Inhabited
def mapO{α β:Type}(f:α->Option β)(l:List α):Option (List β):=
 List.rec (some []) (λx _ ar=>match f x with|none=>none|some y=>match ar with|none=>none|some a4=>some (y::a4)) l
def nth{α:Type}(l:List α):Nat->Option α:=
 List.rec (λ_=>none) (λx _ ar n=>Nat.rec (some x) (λn _=>ar n) n) l
def eqL(l:List Nat):List Nat->Bool:=
 List.rec (λr=>match r with|[]=>true|_::_=>false) (λx _ ar r=>match r with|[]=>false|y::a4=>cond (Nat.beq x y) (ar a4) false) l
def hD(l:List Nat):List Nat->Bool:=
 List.rec (λr=>match r with|[]=>false|_::_=>true)
  (λx _ ar r=>match r with
   |[]=>false
   |y::a4=>cond (Nat.blt x y) true (cond (Nat.beq x y) (ar a4) false)) l
def fv{α:Type}(f:α->α->Bool)(l:List α):List α->Bool:=
 List.rec (λr=>match r with|[]=>true|_::_=>false) (λx _ ar r=>match r with|[]=>false|y::a4=>cond (f x y) (ar a4) false) l
def ag.get(J:ag)(id:Nat):Option AO:=cond (Nat.blt id J.next) (J.yK.get id) none
def ag.set(J:ag)(id:Nat)(o:AO):ag:=⟨J.yK.ins id o,J.next⟩
def ag.push(J:ag)(o:AO):ag:=⟨J.yK.ins J.next o,J.next+1⟩
def AV.cells:AV->List AV
 | .ad l=>l
 |v=>[v]
def AV.val:AV->Bool
 | .a6 _=>false
 |_=>true
def shN:Option Nat->Nat
 |none=>1
 |some n=>n
def dB(R:Option Nat)(c:List AV):Option AV:=
 match R with
 |none=>c.head?
 |some n=>let l:=c.take n;if l.length=n then some (.ad l) else none
def conf(R:Option Nat)(v:AV):Bool:=
 match R,v with
 |none,.ad _=>false
 |none,.a6 _=>false
 |none,_=>true
 |some n,.ad l=>Nat.beq l.length n
 |some _,_=>false
def elems(R:Option Nat)(n:Nat)(c:List AV):Option (List AV):=
 Nat.rec (motive:=λ_=>List AV->Option (List AV)) (λ_=>some [])
  (λ_ ar c=>match dB R c with
   |none=>none
   |some v=>match ar (c.drop (shN R)) with|none=>none|some a8=>some (v::a8)) n c
def readList(J:ag):AV->Option (List AV)
 | .aj=>some []
 | .aR _ _ xs=>some xs
 | .iA _ _ xs=>some xs
 | .aq id off len R _=>match J.get id with
  |some (.cells c)=>elems R len (c.drop off)
  |_=>none
 |_=>none
def freeze(J:ag)(base:Nat)(n:Nat):AV->Option AV:=
 Nat.rec (motive:=λ_=>AV->Option AV) (λ_=>none) (λ_ ar v=>
  match v with
  | .aq id off len R cap=>if Nat.blt id base then none else
   match readList J (.aq id off len R cap) with
   |none=>none
   |some xs=>match mapO ar xs with|none=>none|some xs=>some (.aR false R xs)
  | .ad l=>match mapO ar l with|none=>none|some l=>some (.ad l)
  | .a6 l=>match mapO ar l with|none=>none|some l=>some (.a6 l)
  | .it t v=>match ar v with|none=>none|some v=>some (.it t v)
  | .p (some _)=>none
  | .m (some _)=>none
  | .f _ _ _=>none
  | .iA _ _ _=>none
  |v=>some v) n
def bp(J:ag)(n:Nat):AV->Option AV:=
 Nat.rec (motive:=λ_=>AV->Option AV) (λ_=>none) (λ_ ar v=>
  match v with
  | .aq id off len R cap=>
   match readList J (.aq id off len R cap) with
   |none=>none
   |some xs=>match mapO ar xs with|none=>none|some xs=>some (.aR true R xs)
  | .aj=>some .aj
  | .aR _ R xs=>match mapO ar xs with|none=>none|some xs=>some (.aR true R xs)
  | .ad l=>match mapO ar l with|none=>none|some l=>some (.ad l)
  | .a6 l=>match mapO ar l with|none=>none|some l=>some (.a6 l)
  | .it t v=>match ar v with|none=>none|some v=>some (.it t v)
  | .p (some _)=>none
  | .m (some _)=>none
  | .dk _ _=>none
  | .f _ _ _=>none
  | .eT _ i=>some (.eT true i)
  | .iA _ _ _=>none
  |v=>some v) n
def AV.eqb(n:Nat):AV->AV->Bool:=
 Nat.rec (motive:=λ_=>AV->AV->Bool) (λ_ _=>false) (λ_ ar x y=>
  match x,y with
  | .b x,.b y=>x==y
  | .i k x,.i l y=>decide (k=l)&&decide (x=y)
  | .s x,.s y=>eqL x y
  | .aj,.aj=>true
  | .aR uT R xs,.aR b2 fQ a4=>(uT==b2)&&decide (R=fQ)&&fv ar xs a4
  | .gp,.gp=>true
  | .eC,.eC=>true
  | .p none,.p none=>true
  | .p (some x),.p (some y)=>Nat.beq x.1 y.1&&Nat.beq x.2 y.2
  | .m none,.m none=>true
  | .m (some x),.m (some y)=>Nat.beq x y
  | .aq a9 bt cW eD e4,.aq db cK et kW Nq=>Nat.beq a9 db&&Nat.beq bt cK&&Nat.beq cW et&&decide (eD=kW)&&decide (e4=Nq)
  | .dk uT x,.dk b2 y=>(uT==b2)&&ar x y
  | .f b7 cU x,.f br j5 y=>decide (b7=br)&&(fv ar cU j5&&fv ar x y)
  | .it t x,.it u y=>Nat.beq t u&&ar x y
  | .ad x,.ad y=>fv ar x y
  | .a6 x,.a6 y=>fv ar x y
  | .e3 k d j,.e3 fg dt sX=>decide (k=fg)&&(Nat.beq d dt&&Nat.beq j sX)
  | .hC x,.hC y=>fv eqL x y
  | .iz c,.iz d=>c==d
  | .y c,.y d=>Nat.beq c d
  | .eT uT c,.eT b2 d=>(uT==b2)&&Nat.beq c d
  | .g1 c,.g1 d=>Nat.beq c d
  | .fF c bn,.fF d dt=>Nat.beq c d&&Nat.beq bn dt
  |_,_=>false) n
def qj(a:List Nat)(ex:List (List Nat)):Bool:=List.rec false (λx _ ar=>cond (eqL a x) true ar) ex
def leafEq(kind:Nat)(a b:AV):Option Bool:=
 match kind,a,b with
 |0,.i k a,.i l b=>if k=l then some (decide (a=b)) else none
 |1,.s a,.s b=>some (eqL a b)
 |2,.b x,.b y=>some (x==y)
 |1,.hC ex,.s b=>cond (qj b ex) (some false) none
 |1,.s a,.hC ex=>cond (qj a ex) (some false) none
 |_,_,_=>none
def mz(a7:List Nat):List AV->List AV->Option Bool:=
 List.rec (λl r=>match l,r with|[],[]=>some true|_,_=>none)
  (λk _ ar l r=>match l,r with
   |x::xs,y::a4=>match leafEq k x y,ar xs a4 with|some a,some b=>some (a&&b)|_,_=>none
   |_,_=>none) a7
abbrev jf:=Nat ⊕ List Nat
def keyEq(R:jf)(a b:AV):Option Bool:=
 match R with
 | .inl k=>leafEq k a b
 | .inr a7=>match a,b with
  | .ad x,.ad y=>mz a7 x y
  |_,_=>none
def keySelf(R:jf)(a:AV):Bool:=
 match R,a with
 | .inl 1,.hC _=>true
 |R,a=>match keyEq R a a with|some _=>true|none=>false
def oy(R:jf)(k:AV)(es:List (AV×AV×Nat)):Option (Option AV):=
 List.rec (some none) (λe _ ar=>match keyEq R k e.1 with|none=>none|some true=>some (some e.2.1)|some false=>ar) es
def kX(R:jf)(k v:AV)(es:List (AV×AV×Nat)):Option (Option (List (AV×AV×Nat))):=
 List.rec (some none) (λe es ar=>match keyEq R k e.1 with
  |none=>none
  |some true=>some (some ((k,v,e.2.2)::es))
  |some false=>match ar with|none=>none|some none=>some none|some (some es)=>some (some (e::es))) es
def storeCells(c:List AV)(off:Nat)(v:List AV):Option (List AV):=
 if Nat.ble (off+v.length) c.length then some (c.take off++(v++c.drop (off+v.length))) else none
def wrapN(k:IntKind)(n:Int):Int:=
 match k,n with
 | .i64,.ofNat x=>cond (Nat.blt x 9223372036854775808) n (k.wrap n)
 |_,n=>k.wrap n
def UQ(op:BinOp)(k:IntKind)(x y:Int):Option Int:=
 let a:=BitVec.ofInt k.bits x
 let b:=BitVec.ofInt k.bits y
 match op with
 | .and=>some (k.wrap (a &&& b).toNat)
 | .or=>some (k.wrap (a ||| b).toNat)
 | .xor=>some (k.wrap (a ^^^ b).toNat)
 | .andNot=>some (k.wrap (a &&& ~~~b).toNat)
 |_=>none
def binI(op:BinOp)(k:IntKind)(x y:Int):Option AV:=
 match op with
 | .add=>some (.i k (wrapN k (x+y)))
 | .sub=>some (.i k (wrapN k (x-y)))
 | .mul=>some (.i k (wrapN k (x*y)))
 | .quo=>if y=0 then none else some (.i k (k.wrap (x.tdiv y)))
 | .rem=>if y=0 then none else some (.i k (x.tmod y))
 | .eql=>some (.b (decide (x=y)))
 | .neq=>some (.b (!decide (x=y)))
 | .lss=>some (.b (decide (x<y)))
 | .leq=>some (.b (decide (x<=y)))
 | .gtr=>some (.b (decide (y<x)))
 | .geq=>some (.b (decide (y<=x)))
 |op=>match UQ op k x y with|some n=>some (.i k n)|none=>none
def binS(op:BinOp)(x y:List Nat):Option AV:=
 match op with
 | .add=>if Nat.blt (x.length+y.length) 4611686018427387904 then some (.s (x++y)) else none
 | .eql=>some (.b (eqL x y))
 | .neq=>some (.b (!eqL x y))
 | .lss=>some (.b (hD x y))
 | .leq=>some (.b (!hD y x))
 | .gtr=>some (.b (hD y x))
 | .geq=>some (.b (!hD x y))
 |_=>none
def sxEq(op:BinOp)(a:List Nat)(ex:List (List Nat)):Option AV:=
 cond (qj a ex) (match op with| .eql=>some (.b false)| .neq=>some (.b true)|_=>none) none
def umOp(op:BinOp)(k:IntKind)(d j c:Nat):Option AV:=
 cond (Nat.blt 0 c&&(Nat.beq (d%c) 0&&(decide (k= .u8)||decide (k= .i64))))
  (match op with
   | .rem=>some (.i k (Int.ofNat (j%c)))
   | .quo=>some (.e3 k (d/c) (j/c))
   |_=>none) none
def ivOp(op:BinOp)(bX hi c:Nat):Option AV:=
 match op with
 | .add=>cond (Nat.blt (hi+c) 4611686018427387904) (some (.fF (bX+c) (hi+c))) none
 | .mul=>cond (Nat.beq c 0) (some (.i .i64 (Int.ofNat 0))) none
 | .gtr=>cond (Nat.ble hi c) (some (.b false)) (cond (Nat.blt c bX) (some (.b true)) none)
 | .leq=>cond (Nat.ble hi c) (some (.b true)) (cond (Nat.blt c bX) (some (.b false)) none)
 | .eql=>cond (Nat.blt c bX||Nat.blt hi c) (some (.b false)) none
 | .neq=>cond (Nat.blt c bX||Nat.blt hi c) (some (.b true)) none
 |_=>none
def binop(op:BinOp)(x y:AV):Option AV:=
 match x,y with
 | .i k a,.i l b=>match op with
  | .shl=>if b<0 then none else some (.i k (k.wrap (a*2^(min b.toNat k.bits))))
  | .shr=>if b<0 then none else some (.i k (a.fdiv (2^(min b.toNat k.bits))))
  |op=>if k=l then binI op k a b else none
 | .s a,.s b=>binS op a b
 | .e3 k d j,.i l (.ofNat c)=>if k=l then umOp op k d j c else none
 | .fF bX hi,.i .i64 (.ofNat c)=>ivOp op bX hi c
 | .i .i64 (.ofNat c),.fF bX hi=>(match op with| .add=>ivOp .add bX hi c|_=>none)
 | .iz hi,.i l (.ofNat c)=>if l= .i64/\c=40 then(match op with| .gtr=>some (.b hi)| .leq=>some (.b (!hi))|_=>none) else none
 | .s a,.hC ex=>sxEq op a ex
 | .hC ex,.s a=>sxEq op a ex
 |_,_=>none
def binopB(x y:AV):Option Bool:=
 match x,y with
 | .b c,.b d=>some (c==d)
 |_,_=>none
def Ig:List Nat->Nat
 |[]=>1
 |d::ds=>Ig ds*4+d
def UR(f:Nat):Nat->List Nat:=Nat.rec (motive:=λ_=>Nat->List Nat) (λ_=>[]) (λ_ ar n=>cond (Nat.ble n 1) [] (Nat.mod n 4::ar (Nat.div n 4))) f
def isNilEq(kind:Nat)(x y:AV):Option Bool:=
 match kind,x,y with
 |0,.it _ _,.eC=>some false
 |1,.p (some _),.p none=>some false
 |1,.dk _ _,.p none=>some false
 |1,.p none,.p none=>some true
 |2,.f _ _ _,.gp=>some false
 |2,.gp,.gp=>some true
 |3,.aj,.aj=>some true
 |3,.aq _ _ _ _ _,.aj=>some false
 |3,.aR _ _ (_::_),.aj=>some false
 |4,.m none,.m none=>some true
 |4,.m (some _),.m none=>some false
 |k,.ad x,.ad y=>cond (Nat.ble 10 k) (mz (UR 40 (k-10)) x y) none
 |_,_,_=>none
def natOf:AV->Option Nat
 | .i _ (.ofNat n)=>some n
 |_=>none
def c4:AV:=.a6 []
structure Fr where
 a5:aY AV
 defers:List (Nat ⊕ (AV×List AV)) -- rn mark of a block,or a call
 fh:Bool -- of a deferred call: 'recover' has c3P called
 deriving Inhabited
def Fr.put(ai:Fr)(d:Option Nat)(v:AV):Fr:=
 match d with
 |some d=>⟨ai.a5.set d v,ai.defers,ai.fh⟩
 |none=>ai
def Fr.oz(ai:Fr)(d:Option Nat)(v:AV):Fr:=Option.rec (motive:=λ_=>Fr) ai (λd=>⟨aY.UP v (Np d) ai.a5,ai.defers,ai.fh⟩) d
inductive hd where
 |normal|exit (id:Nat)|ret|panic (v:AV)
 deriving Inhabited
inductive cQ where
 |ok (v:AV)
 |err (v:AV)
 deriving Inhabited
structure Env where
 funcs:Nat->Option bP
 mA:Nat->Option AV
 pure:Nat->Bool
 spec:Nat->List AV->Option AV
 a2:Nat -- a7w deep values a7x looked at
 ext:Nat->Nat -- 1:c3Q,2:c3R,3:c3S;0:none;7:a7t result,objects a7v,is known
 qk:Nat->List AV->Option (AV×List AO):=λ_ _=>none
def evalA(env:Env)(aq:aY AV):aH->Option AV
 | .t i=>aq.get i
 | .c v=>some v
 | .g g=>match env.mA g with|some v=>some (.dk true v)|none=>none
def A5(env:Env)(aq:aY AV)(x:aH):Option AV:=
 aH.rec (motive:=λ_=>Option AV) (λi=>aY.Ie (Np i) aq) (λv=>some v) (λg=>match env.mA g with|some v=>some (.dk true v)|none=>none) x
inductive bH where
 |val (v:AV) (J:ag)
 |call (bx:AV) (args:List AV)
 |iP (bx:AV) (args:List AV)
 |panic (v:AV)
 |g3 (l:List (AV×ag)) -- one of a7r
def j6{α β:Type}(f:α->Option (List β))(l:List α):Option (List β):=
 List.rec (motive:=λ_=>Option (List β)) (some []) (λx t ar=>List.rec (motive:=λ_=>Option (List β)) (f x) (λ_ _ _=>match f x with|none=>none|some a=>match ar with|none=>none|some b=>some (a++b)) t) l
def hP{α β:Type}(r:Option (List α))(f:α->Option (List β)):Option (List β):=Option.rec (motive:=λ_=>Option (List β)) none (λl=>j6 f l) r
def jL(n:Nat)(off:Nat):AV:=.p (some (n,off))
def hQ(av:aH->Option AV)(cL:Nat->Nat->Nat)(aE:List (Nat×Nat×aH)):List AV->Option (List AV):=
 List.rec (λc=>some c) (λp _ ar c=>match av p.2.2 with
  |none=>none
  |some v=>cond (Nat.beq v.cells.length p.2.1&&v.val) (match storeCells c (cL p.1 p.2.1) v.cells with|none=>none|some c=>ar c) none) aE
def fw(n:Nat)(z:List AV):List AV:=Nat.rec [] (λ_ ar=>z++ar) n
def bndO(av:aH->Option AV)(x:Option aH)(d:Nat):Option Nat:=
 match x with
 |none=>some d
 |some x=>match av x with|some v=>natOf v|none=>none
def v2(two:Bool)(v:AV)(ok:Bool):AV:=cond two (.a6 [v,.b ok]) v
def nilOk:AV->Bool
 | .p (some _)=>true
 | .dk _ _=>true
 | .f _ _ _=>true
 | .it _ _=>true
 |_=>false
def cB{α:Type}(p:α->Bool)(l:List α):Bool:=List.rec true (λx _ ar=>cond (p x) ar false) l
def newOf(J:ag)(x:AV):Option (List AV):=
 match x with
 | .s l=>some (l.map λc=>AV.i .u8 (Int.ofNat c))
 |x=>readList J x
def appendO(floor:Nat)(J:ag)(R:Option Nat)(bytes:Nat)(s x:AV):Option (AV×ag):=
 match readList J s,newOf J x with
 |some old,some new=>
  cond (cB (conf R) old&&cB (conf R) new&&Nat.ble ((3*(old.length+new.length)+2000)*bytes) 281474976710656)
   (match new with
    |[]=>some (s,J)
    |_::_=>match s with
     | .aq id off len fQ cap=>
      if fQ=R then
       match cap with
       |some c=>
        cond (Nat.ble (len+new.length) c)
         (if Nat.blt id floor then none else
         match J.get id with
         |some (.cells m8)=>match storeCells m8 (off+len*shN R) (new.flatMap AV.cells) with
          |some hE=>some (.aq id off (len+new.length) R cap,J.set id (.cells hE))
          |none=>none
         |_=>none)
         (some (.aq J.next 0 (len+new.length) R none,J.push (.cells (old.flatMap AV.cells++new.flatMap AV.cells))))
       |none=>
        if Nat.blt id floor then none else
        if Nat.beq off 0 then
         some (.aq J.next 0 (len+new.length) R none,(J.set id .dead).push (.cells (old.flatMap AV.cells++new.flatMap AV.cells)))
        else none
      else none
     | .aj=>some (.aq J.next 0 new.length R none,J.push (.cells (new.flatMap AV.cells)))
     | .iA _ fQ _=>if fQ=R then some (.aq J.next 0 (old.length+new.length) R none,J.push (.cells (old.flatMap AV.cells++new.flatMap AV.cells))) else none
     |_=>none)
   none
 |_,_=>none
def sliceA(av:aH->Option AV)(ih:Option Nat)(x:AV)(bX hi cI:Option aH):Option AV:=
 match x with
 | .aq id off len R cap=>
  if R=ih then
   match bndO av bX 0,bndO av hi len with
   |some l,some h=>
    if Nat.ble l h then
     match cI with
     |some cI=>match bndO av (some cI) 0 with
      |some k=>
       if Nat.ble h k&&Nat.ble k (cap.getD len) then some (.aq id (if k=l then off else off+l*shN R) (h-l) R (some (k-l))) else none
      |none=>none
     |none=>match cap with
      |some c=>if Nat.ble h c then some (.aq id (if c=l then off else off+l*shN R) (h-l) R (some (c-l))) else none
      |none=>if Nat.ble h len&&Nat.beq l 0 then some (.aq id off h R none) else if Nat.ble h len&&Nat.blt l len then some (.aq id (off+l*shN R) (h-l) R none) else if Nat.beq l len&&Nat.beq h len then some (.aR true R []) else none
    else none
   |_,_=>none
  else none
 | .aj=>match bndO av bX 0,bndO av hi 0,bndO av cI 0 with
  |some 0,some 0,some 0=>some .aj
  |_,_,_=>none
 | .aR o R xs=>if R=ih then
   match bndO av bX 0,bndO av hi xs.length,cI with
   |some l,some h,none=>if Nat.ble l h&&Nat.ble h xs.length then some (.aR o R ((xs.drop l).take (h-l))) else none
   |some l,some h,some cI=>match bndO av (some cI) 0 with
    |some k=>if Nat.beq l 0&&(Nat.beq h xs.length&&(Nat.beq k xs.length&&Nat.blt 0 xs.length)) then some (.iA o R xs) else none
    |none=>none
   |_,_,_=>none
  else none
 |_=>none
def lookupA(J:ag)(R:jf)(x k z:AV)(two:Bool):Option AV:=
 cond (keySelf R k)
  (match x with
  | .m none=>some (v2 two z false)
  | .m (some id)=>match J.get id with
   |some (.map es _)=>match oy R k es with
    |some (some v)=>some (v2 two v true)
    |some none=>some (v2 two z false)
    |none=>none
   |_=>none
  |_=>none) none
def capA(x:AV):Option Nat:=
 match x with
 | .aj=>some 0
 | .aq _ _ _ _ (some c)=>some c
 |_=>none
def lenA(J:ag)(k:Nat)(x:AV):Option Nat:=
 match k,x with
 |0,.s l=>some l.length
 |1,.aj=>some 0
 |1,.aq _ _ n _ _=>some n
 |1,.aR _ _ xs=>some xs.length
 |2,.m none=>some 0
 |2,.m (some id)=>match J.get id with|some (.map es _)=>some es.length|_=>none
 |_,_=>none
def calleeV(av:aH->Option AV)(c:sV):Option AV:=match c with| .fn f=>some (AV.f (.func f) [] [])| .val x=>av x
def sY(J:ag)(R:Option Nat)(p:AV):Option AV:=
 match p with
 | .p (some (id,off))=>match J.get id with
  |some (.cells c)=>dB R (c.drop off)
  |_=>none
 | .dk _ v=>if conf R v then some v else none
 |_=>none
def fieldAddrA(off:Nat)(R:Option Nat)(x:AV):Option AV:=
 match x with
 | .p (some (id,o))=>some (.p (some (id,o+off)))
 | .dk ol (.ad cs)=>match dB R (cs.drop off) with|some v=>some (.dk ol v)|none=>none
 |_=>none
def idxSlA(ih:Option Nat)(x:AV)(j:Nat):Option AV:=
 match x with
 | .aq id off len R _=>if Nat.blt j len&&decide (R=ih) then some (.p (some (id,off+j*shN R))) else none
 | .aR o R xs=>if R=ih then match nth xs j with|some v=>some (.dk o v)|none=>none else none
 |_=>none
def assertA(x:AV)(t:TypeId)(z:AV)(two:Bool):Option AV:=
 match x with
 | .it u v=>if u=t then some (v2 two v true) else cond two (some (v2 two z false)) none
 | .eC=>cond two (some (v2 two z false)) none
 |_=>none
def byteOf:AV->Option Nat
 | .i .u8 (.ofNat n)=>cond (Nat.blt n 256) (some n) none
 |_=>none
def lH(n:Nat)(l:List Nat):Bool:=List.rec false (λx _ ar=>cond (Nat.beq x n) true ar) l
def mB(seen:List Nat)(es:List (AV×AV×Nat)):List (AV×AV×Nat):=List.rec [] (λe _ ar=>cond (lH e.2.2 seen) ar (e::ar)) es
def ql(l:List Nat):Option Nat:=List.rec none (λx _ ar=>match ar with|none=>some x|some y=>some y) l
def pc(b:Nat)(es:List (AV×AV×Nat)):Option (AV×AV×Nat):=List.rec none (λe _ ar=>cond (Nat.beq e.2.2 b) (some e) ar) es
def capO(floor:Nat)(J:ag)(x:AV):Option bH:=
 match x with
 | .aq id off len R none=>cond (Nat.blt id floor) none (match J.get id with
  |some (.cells c)=>cond (Nat.beq c.length (off+len*shN R)) (some (.g3 ((List.range 12).map (λk=>(AV.i .i64 (Int.ofNat (len+k)),J.set id (.hc c (k*shN R))))++[(AV.g1 (len+12),J.set id (.hc c (12*shN R)))]))) none
  |_=>none)
 |_=>none
def sliceX(J:ag)(av:aH->Option AV)(ih:Option Nat)(x:AV)(bX hi cI:Option aH):Option bH:=
 match bX,hi,cI with
 |none,some h,none=>match x,av h with
  | .aq id off len R none,some (.i .i64 (.ofNat k))=>match J.get id with
   |some (.hc c r)=>cond (decide (R=ih)&&(Nat.blt 0 (shN R)&&(Nat.ble len k&&Nat.ble (off+k*shN R) (c.length+r)))) (some (.val (.aq id off k R none) J)) none
   |_=>none
  |_,_=>none
 |_,_,_=>none
def pd(J:ag)(id:Nat)(c:List AV)(r off:Nat)(a8:List AV):Option bH:=
 match(cond (Nat.ble c.length off&&Nat.ble (off+a8.length) (c.length+r)) (some c) (storeCells c off a8)) with
 |some c=>some (.val c4 (J.set id (.hc c r)))
 |none=>none
def lenU(J:ag)(k:Nat)(x:AV):Option bH:=
 match k,x with
 |0,.hC _=>some (.g3 [(.iz true,J),(.iz false,J)])
 |1,.eT _ _=>some (.val (.g1 0) J)
 |_,_=>none
def opx(floor:Nat)(av:aH->Option AV)(J:ag)(op:AOp):Option bH:=
 match op with
 | .cD x=>match av x with|some v=>some (.val v J)|none=>none
 | .pick c a b=>match av c with
  |some (.b t)=>match av (cond t a b) with|some v=>some (.val v J)|none=>none
  |_=>none
 | .alloc v=>some (.val (jL J.next 0) (J.push (.cells v.cells)))
 | .box x=>match av x with|some v=>cond v.val (some (.val (jL J.next 0) (J.push (.cells v.cells)))) none|none=>none
 | .build z aE=>match hQ av (λoff _=>off) aE z with|some c=>some (.val (.ad c) J)|none=>none
 | .buildSlice R n z aE=>
  match hQ av (λi cL=>i*cL) (aE.map λp=>(p.1,shN R,p.2)) (fw n z) with
  |some c=>some (.val (.aq J.next 0 n R (some n)) (J.push (.cells c)))
  |none=>none
 | .load R a=>match av a with
  |some p=>match sY J R p with|some v=>some (.val v J)|none=>none
  |none=>none
 | .store R a x=>match av a,av x with
  |some (.p (some (id,off))),some v=>
   if Nat.blt id floor then none else
   if conf R v then
    match J.get id with
    |some (.cells c)=>match storeCells c off v.cells with
     |some c=>some (.val c4 (J.set id (.cells c)))
     |none=>none
    |some (.hc c r)=>pd J id c r off v.cells
    |_=>none
   else none
  |_,_=>none
 | .nilCheck x=>match av x with
  |some v=>cond (nilOk v) (some (.val v J)) none
  |none=>none
 | .bin op x y=>match av x,av y with
  |some a,some b=>match binop op a b with|some v=>some (.val v J)|none=>none
  |_,_=>none
 | .A1 neg x y=>match av x,av y with
  |some a,some b=>match binopB a b with|some v=>some (.val (.b (cond neg (!v) v)) J)|none=>none
  |_,_=>none
 | .my kind neg x y=>match av x,av y with
  |some a,some b=>match isNilEq kind a b with|some v=>some (.val (.b (cond neg (!v) v)) J)|none=>none
  |_,_=>none
 | .not x=>match av x with|some (.b x)=>some (.val (.b !x) J)|_=>none
 | .neg x=>match av x with|some (.i k n)=>some (.val (.i k (k.wrap (0-n))) J)|_=>none
 | .conv k x=>match av x with|some (.i _ n)=>some (.val (.i k (wrapN k n)) J)|some (.e3 _ d j)=>(match k with| .i64=>some (.val (.e3 .i64 d j) J)|_=>none)|_=>none
 | .Ia t x=>match av x with|some v=>some (.val (.it t v) J)|none=>none
 | .ow fn a c=>match mapO av a,mapO av c with|some a,some c=>some (.val (.f fn a c) J)|_,_=>none
 | .mkMap=>some (.val (.m (some J.next)) (J.push (.map [] 0)))
 | .m7 ih x bX hi cI=>match av x with
  |some x=>match sliceA av ih x bX hi cI with|some v=>some (.val v J)|none=>sliceX J av ih x bX hi cI
  |none=>none
 | .rm x bX hi=>match av x with
  |some (.s s)=>match bndO av bX 0,bndO av hi s.length with
   |some l,some h=>if Nat.ble l h&&Nat.ble h s.length then some (.val (.s ((s.drop l).take (h-l))) J) else none
   |_,_=>none
  |_=>none
 | .A2 n R x bX hi=>match av x,bndO av bX 0,bndO av hi n with
  |some (.p (some (id,off))),some l,some h=>
   if Nat.ble l h&&Nat.ble h n then
    match J.get id with
    |some (.cells c)=>if Nat.ble (off+n*shN R) c.length then some (.val (.aq id (if n=l then off else off+l*shN R) (h-l) R (some (n-l))) J) else none
    |_=>none
   else none
  |_,_,_=>none
 | .fieldAddr off R x=>match av x with
  |some x=>match fieldAddrA off R x with|some v=>some (.val v J)|none=>none
  |none=>none
 | .field off R x=>match av x with
  |some (.ad cs)=>match dB R (cs.drop off) with|some v=>some (.val v J)|none=>none
  |_=>none
 | .A3 n R x i=>match av x,av i with
  |some x,some j=>match natOf j with
   |some j=>if Nat.blt j n then match fieldAddrA (j*shN R) R x with|some v=>some (.val v J)|none=>none else none
   |none=>none
  |_,_=>none
 | .dr ih x i=>match av x,av i with
  |some x,some j=>match natOf j with
   |some j=>match idxSlA ih x j with|some v=>some (.val v J)|none=>none
   |none=>none
  |_,_=>none
 | .yI x i=>match av x,av i with
  |some (.s l),some j=>match natOf j with
   |some j=>match nth l j with|some c=>some (.val (.i .u8 (Int.ofNat c)) J)|none=>none
   |none=>none
  |_,_=>none
 | .Nn n R x i=>match av x,av i with
  |some (.ad cs),some j=>match natOf j with
   |some j=>if Nat.blt j n then match dB R (cs.drop (j*shN R)) with|some v=>some (.val v J)|none=>none else none
   |none=>none
  |_,_=>none
 | .lookup R x k z two=>match av x,av k with
  |some x,some k=>match lookupA J R x k z two with|some v=>some (.val v J)|none=>none
  |_,_=>none
 | .ox R x k v=>match av x,av k,av v with
  |some (.m (some id)),some k,some v=>
   if Nat.blt id floor then none else
   match J.get id with
   |some (.map es aU)=>match keyEq R k k with
    |none=>none
    |some _=>match kX R k v es with
    |some (some es)=>some (.val c4 (J.set id (.map es aU)))
    |some none=>some (.val c4 (J.set id (.map (es++[(k,v,aU)]) (aU+1))))
    |none=>none
   |_=>none
  |_,_,_=>none
 | .No x t z two=>match av x with
  |some x=>match assertA x t z two with|some v=>some (.val v J)|none=>none
  |none=>none
 | .extract x i=>match av x with
  |some (.a6 l)=>match nth l i with|some v=>some (.val v J)|none=>none
  |_=>none
 | .call c args=>match calleeV av c,mapO av args with
  |some bx,some args=>some (.call bx args)
  |_,_=>none
 | .iP c args=>match calleeV av c,mapO av args with
  |some bx,some args=>some (.iP bx args)
  |_,_=>none
 | .panic x=>match av x with|some (.it t v)=>some (.panic (.it t v))|_=>none
 | .len k x=>match av x with
  |some x=>match lenA J k x with|some n=>some (.val (.i .i64 (Int.ofNat n)) J)|none=>lenU J k x
  |none=>none
 | .Ib n=>some (.val (.i .i64 (Int.ofNat n)) J)
 | .cap x=>match av x with
  |some x=>match capA x with|some n=>some (.val (.i .i64 (Int.ofNat n)) J)|none=>capO floor J x
  |none=>none
 | .append R bytes s x=>match av s,av x with
  |some s,some x=>match appendO floor J R bytes s x with|some (v,J)=>some (.val v J)|none=>none
  |_,_=>none
 | .H9 x=>match av x with
  |some (.s l)=>some (.val (.aq J.next 0 l.length none none) (J.push (.cells (l.map λc=>AV.i .u8 (Int.ofNat c)))))
  |_=>none
 | .H_ x=>match av x with
  |some x=>match readList J x with
   |some l=>match mapO byteOf l with
    |some l=>some (.val (.s l) J)
    |none=>none
   |none=>none
  |none=>none
 | .mkSlice R bytes z l c=>match av l,av c with
  |some (.i _ (.ofNat n)),some (.i _ (.ofNat m))=>
   cond (Nat.beq z.length (shN R)&&(Nat.ble n m&&(Nat.ble (bytes*m) 281474976710656&&Nat.ble m 281474976710656)))
    (some (.val (.aq J.next 0 n R (some m)) (J.push (.cells (fw m z))))) none
  |some .aj,some (.i _ (.ofNat m))=>
   cond (Nat.beq z.length (Nat.succ (shN R))&&(Nat.blt 0 m&&Nat.ble ((3*m+2000)*bytes) 281474976710656))
    (some (.val (.aq J.next 0 m R none) (J.push (.cells (fw m z.tail))))) none
  |_,_=>none
 | .rangeMap x=>match av x with
  |some (.m none)=>some (.val (jL J.next 0) (J.push (.mapIter none 0 [] 0)))
  |some (.m (some id))=>match J.get id with
   |some (.map _ aU)=>some (.val (jL J.next 0) (J.push (.mapIter (some id) aU [] aU)))
   |_=>none
  |_=>none
 | .sW x=>match av x with
  |some (.p (some (it,0)))=>if Nat.blt it floor then none else
   match J.get it with
   |some (.mapIter none _ _ _)=>some (.val (.a6 [.b false]) J)
   |some (.mapIter (some id) since seen g2)=>match J.get id with
    |some (.map es aU)=>
     cond (Nat.beq aU since&&Nat.beq g2 since&&cB (λ(e:AV×AV×Nat)=>Nat.blt e.2.2 since) es)
      (match mB seen es with
       |[]=>some (.val (.a6 [.b false]) J)
       |l=>some (.g3 (l.map λe=>(.a6 [.b true,e.1,e.2.1],J.set it (.mapIter (some id) since (seen++[e.2.2]) aU))))) none
    |_=>none
   |_=>none
  |_=>none
 | .entry x=>match av x with
  |some (.p (some (it,0)))=>match J.get it with
   |some (.mapIter (some id) since seen g2)=>match J.get id with
    |some (.map es aU)=>cond (Nat.beq aU g2) (match ql seen with
     |some b=>match pc b es with
      |some e=>some (.val (.a6 [e.1,e.2.1]) J)
      |none=>none
     |none=>none) none
    |_=>none
   |_=>none
  |_=>none
 | .copy _ d x=>match av d,av x with
  |some (.aq _ _ 0 _ _),some (.ad _)=>some (.val c4 J)
  |some (.aq id off (len+1) _ _),some (.ad z)=>match Nat.blt id floor,J.get id with
   |false,some (.cells c)=>match storeCells c off (fw (len+1) z) with
    |some c=>some (.val c4 (J.set id (.cells c)))
    |none=>none
   |_,_=>none
  |some .aj,some (.ad _)=>some (.val c4 J)
  |some (.aR _ _ []),some (.ad _)=>some (.val c4 J)
  |_,_=>none
 | .Ic cI x y=>match av x,av y with
  |some (.i k a),some (.i l b)=>if k=l then some (.val (.i k (if cI then(if b > a then b else a) else(if b<a then b else a))) J) else none
  |some (.g1 n),some (.i .i64 (.ofNat j))=>cond (Bool.not cI&&Nat.ble j n) (some (.val (.i .i64 (Int.ofNat j)) J)) none
  |some (.i .i64 (.ofNat j)),some (.g1 n)=>cond (Bool.not cI&&Nat.ble j n) (some (.val (.i .i64 (Int.ofNat j)) J)) none
  |_,_=>none
 |_=>none
abbrev Nr:=Nat->(aH->Option AV)->ag->Option bH
def a7y(x:aH)(floor:Nat)(av:aH->Option AV)(J:ag):Option bH:=
  match av x with|some v=>some (.val v J)|none=>none
def a7z(c:aH)(a:aH)(b:aH)(floor:Nat)(av:aH->Option AV)(J:ag):Option bH:=
  match av c with
  |some (.b t)=>match av (cond t a b) with|some v=>some (.val v J)|none=>none
  |_=>none
def a7A(v:AV)(floor:Nat)(av:aH->Option AV)(J:ag):Option bH:=
  some (.val (jL J.next 0) (J.push (.cells v.cells)))
def a7B(x:aH)(floor:Nat)(av:aH->Option AV)(J:ag):Option bH:=
  match av x with|some v=>cond v.val (some (.val (jL J.next 0) (J.push (.cells v.cells)))) none|none=>none
def a7C(z:List AV)(aE:List (Nat×Nat×aH))(floor:Nat)(av:aH->Option AV)(J:ag):Option bH:=
  match hQ av (λoff _=>off) aE z with|some c=>some (.val (.ad c) J)|none=>none
def a7D(R:Option Nat)(n:Nat)(z:List AV)(aE:List (Nat×aH))(floor:Nat)(av:aH->Option AV)(J:ag):Option bH:=
  match hQ av (λi cL=>i*cL) (aE.map λp=>(p.1,shN R,p.2)) (fw n z) with
  |some c=>some (.val (.aq J.next 0 n R (some n)) (J.push (.cells c)))
  |none=>none
def a7E(R:Option Nat)(a:aH)(floor:Nat)(av:aH->Option AV)(J:ag):Option bH:=
  match av a with
  |some p=>match sY J R p with|some v=>some (.val v J)|none=>none
  |none=>none
def a7F(R:Option Nat)(a:aH)(x:aH)(floor:Nat)(av:aH->Option AV)(J:ag):Option bH:=
  match av a,av x with
  |some (.p (some (id,off))),some v=>
   if Nat.blt id floor then none else
   if conf R v then
    match J.get id with
    |some (.cells c)=>match storeCells c off v.cells with
     |some c=>some (.val c4 (J.set id (.cells c)))
     |none=>none
    |some (.hc c r)=>pd J id c r off v.cells
    |_=>none
   else none
  |_,_=>none
def a7G(x:aH)(floor:Nat)(av:aH->Option AV)(J:ag):Option bH:=
  match av x with
  |some v=>cond (nilOk v) (some (.val v J)) none
  |none=>none
def a7H(op:BinOp)(x:aH)(y:aH)(floor:Nat)(av:aH->Option AV)(J:ag):Option bH:=
  match av x,av y with
  |some a,some b=>match binop op a b with|some v=>some (.val v J)|none=>none
  |_,_=>none
def a7I(neg:Bool)(x:aH)(y:aH)(floor:Nat)(av:aH->Option AV)(J:ag):Option bH:=
  match av x,av y with
  |some a,some b=>match binopB a b with|some v=>some (.val (.b (cond neg (!v) v)) J)|none=>none
  |_,_=>none
def a7J(kind:Nat)(neg:Bool)(x:aH)(y:aH)(floor:Nat)(av:aH->Option AV)(J:ag):Option bH:=
  match av x,av y with
  |some a,some b=>match isNilEq kind a b with|some v=>some (.val (.b (cond neg (!v) v)) J)|none=>none
  |_,_=>none
def a7K(x:aH)(floor:Nat)(av:aH->Option AV)(J:ag):Option bH:=
  match av x with|some (.b x)=>some (.val (.b !x) J)|_=>none
def a7L(x:aH)(floor:Nat)(av:aH->Option AV)(J:ag):Option bH:=
  match av x with|some (.i k n)=>some (.val (.i k (k.wrap (0-n))) J)|_=>none
def a7M(k:IntKind)(x:aH)(floor:Nat)(av:aH->Option AV)(J:ag):Option bH:=
  match av x with|some (.i _ n)=>some (.val (.i k (wrapN k n)) J)|some (.e3 _ d j)=>(match k with| .i64=>some (.val (.e3 .i64 d j) J)|_=>none)|_=>none
def a7N(t:TypeId)(x:aH)(floor:Nat)(av:aH->Option AV)(J:ag):Option bH:=
  match av x with|some v=>some (.val (.it t v) J)|none=>none
def a7O(fn:Fn)(a:List aH)(c:List aH)(floor:Nat)(av:aH->Option AV)(J:ag):Option bH:=
  match mapO av a,mapO av c with|some a,some c=>some (.val (.f fn a c) J)|_,_=>none
def a7P(floor:Nat)(av:aH->Option AV)(J:ag):Option bH:=
  some (.val (.m (some J.next)) (J.push (.map [] 0)))
def a7Q(ih:Option Nat)(x:aH)(bX:Option aH)(hi:Option aH)(cI:Option aH)(floor:Nat)(av:aH->Option AV)(J:ag):Option bH:=
  match av x with
  |some x=>match sliceA av ih x bX hi cI with|some v=>some (.val v J)|none=>sliceX J av ih x bX hi cI
  |none=>none
def a7R(x:aH)(bX:Option aH)(hi:Option aH)(floor:Nat)(av:aH->Option AV)(J:ag):Option bH:=
  match av x with
  |some (.s s)=>match bndO av bX 0,bndO av hi s.length with
   |some l,some h=>if Nat.ble l h&&Nat.ble h s.length then some (.val (.s ((s.drop l).take (h-l))) J) else none
   |_,_=>none
  |_=>none
def a7S(n:Nat)(R:Option Nat)(x:aH)(bX:Option aH)(hi:Option aH)(floor:Nat)(av:aH->Option AV)(J:ag):Option bH:=
  match av x,bndO av bX 0,bndO av hi n with
  |some (.p (some (id,off))),some l,some h=>
   if Nat.ble l h&&Nat.ble h n then
    match J.get id with
    |some (.cells c)=>if Nat.ble (off+n*shN R) c.length then some (.val (.aq id (if n=l then off else off+l*shN R) (h-l) R (some (n-l))) J) else none
    |_=>none
   else none
  |_,_,_=>none
def a7T(off:Nat)(R:Option Nat)(x:aH)(floor:Nat)(av:aH->Option AV)(J:ag):Option bH:=
  match av x with
  |some x=>match fieldAddrA off R x with|some v=>some (.val v J)|none=>none
  |none=>none
def a7U(off:Nat)(R:Option Nat)(x:aH)(floor:Nat)(av:aH->Option AV)(J:ag):Option bH:=
  match av x with
  |some (.ad cs)=>match dB R (cs.drop off) with|some v=>some (.val v J)|none=>none
  |_=>none
def a7V(n:Nat)(R:Option Nat)(x:aH)(i:aH)(floor:Nat)(av:aH->Option AV)(J:ag):Option bH:=
  match av x,av i with
  |some x,some j=>match natOf j with
   |some j=>if Nat.blt j n then match fieldAddrA (j*shN R) R x with|some v=>some (.val v J)|none=>none else none
   |none=>none
  |_,_=>none
def a7W(ih:Option Nat)(x:aH)(i:aH)(floor:Nat)(av:aH->Option AV)(J:ag):Option bH:=
  match av x,av i with
  |some x,some j=>match natOf j with
   |some j=>match idxSlA ih x j with|some v=>some (.val v J)|none=>none
   |none=>none
  |_,_=>none
def a7X(x:aH)(i:aH)(floor:Nat)(av:aH->Option AV)(J:ag):Option bH:=
  match av x,av i with
  |some (.s l),some j=>match natOf j with
   |some j=>match nth l j with|some c=>some (.val (.i .u8 (Int.ofNat c)) J)|none=>none
   |none=>none
  |_,_=>none
def a7Y(n:Nat)(R:Option Nat)(x:aH)(i:aH)(floor:Nat)(av:aH->Option AV)(J:ag):Option bH:=
  match av x,av i with
  |some (.ad cs),some j=>match natOf j with
   |some j=>if Nat.blt j n then match dB R (cs.drop (j*shN R)) with|some v=>some (.val v J)|none=>none else none
   |none=>none
  |_,_=>none
def a7Z(R:Nat ⊕ List Nat)(x:aH)(k:aH)(z:AV)(two:Bool)(floor:Nat)(av:aH->Option AV)(J:ag):Option bH:=
  match av x,av k with
  |some x,some k=>match lookupA J R x k z two with|some v=>some (.val v J)|none=>none
  |_,_=>none
def a8a(R:Nat ⊕ List Nat)(x:aH)(k:aH)(v:aH)(floor:Nat)(av:aH->Option AV)(J:ag):Option bH:=
  match av x,av k,av v with
  |some (.m (some id)),some k,some v=>
   if Nat.blt id floor then none else
   match J.get id with
   |some (.map es aU)=>match keyEq R k k with
    |none=>none
    |some _=>match kX R k v es with
    |some (some es)=>some (.val c4 (J.set id (.map es aU)))
    |some none=>some (.val c4 (J.set id (.map (es++[(k,v,aU)]) (aU+1))))
    |none=>none
   |_=>none
  |_,_,_=>none
def a8b(x:aH)(t:TypeId)(z:AV)(two:Bool)(floor:Nat)(av:aH->Option AV)(J:ag):Option bH:=
  match av x with
  |some x=>match assertA x t z two with|some v=>some (.val v J)|none=>none
  |none=>none
def a8c(x:aH)(i:Nat)(floor:Nat)(av:aH->Option AV)(J:ag):Option bH:=
  match av x with
  |some (.a6 l)=>match nth l i with|some v=>some (.val v J)|none=>none
  |_=>none
def a8d(c:sV)(args:List aH)(floor:Nat)(av:aH->Option AV)(J:ag):Option bH:=
  match calleeV av c,mapO av args with
  |some bx,some args=>some (.call bx args)
  |_,_=>none
def a8e(c:sV)(args:List aH)(floor:Nat)(av:aH->Option AV)(J:ag):Option bH:=
  match calleeV av c,mapO av args with
  |some bx,some args=>some (.iP bx args)
  |_,_=>none
def a8f(x:aH)(floor:Nat)(av:aH->Option AV)(J:ag):Option bH:=
  match av x with|some (.it t v)=>some (.panic (.it t v))|_=>none
def a8g(k:Nat)(x:aH)(floor:Nat)(av:aH->Option AV)(J:ag):Option bH:=
  match av x with
  |some x=>match lenA J k x with|some n=>some (.val (.i .i64 (Int.ofNat n)) J)|none=>lenU J k x
  |none=>none
def a8h(n:Nat)(floor:Nat)(av:aH->Option AV)(J:ag):Option bH:=
  some (.val (.i .i64 (Int.ofNat n)) J)
def a8i(x:aH)(floor:Nat)(av:aH->Option AV)(J:ag):Option bH:=
  match av x with
  |some x=>match capA x with|some n=>some (.val (.i .i64 (Int.ofNat n)) J)|none=>capO floor J x
  |none=>none
def a8j(R:Option Nat)(bytes:Nat)(s:aH)(x:aH)(floor:Nat)(av:aH->Option AV)(J:ag):Option bH:=
  match av s,av x with
  |some s,some x=>match appendO floor J R bytes s x with|some (v,J)=>some (.val v J)|none=>none
  |_,_=>none
def a8k(x:aH)(floor:Nat)(av:aH->Option AV)(J:ag):Option bH:=
  match av x with
  |some (.s l)=>some (.val (.aq J.next 0 l.length none none) (J.push (.cells (l.map λc=>AV.i .u8 (Int.ofNat c)))))
  |_=>none
def a8l(x:aH)(floor:Nat)(av:aH->Option AV)(J:ag):Option bH:=
  match av x with
  |some x=>match readList J x with
   |some l=>match mapO byteOf l with
    |some l=>some (.val (.s l) J)
    |none=>none
   |none=>none
  |none=>none
def a8m(R:Option Nat)(bytes:Nat)(z:List AV)(l:aH)(c:aH)(floor:Nat)(av:aH->Option AV)(J:ag):Option bH:=
  match av l,av c with
  |some (.i _ (.ofNat n)),some (.i _ (.ofNat m))=>
   cond (Nat.beq z.length (shN R)&&(Nat.ble n m&&(Nat.ble (bytes*m) 281474976710656&&Nat.ble m 281474976710656)))
    (some (.val (.aq J.next 0 n R (some m)) (J.push (.cells (fw m z))))) none
  |some .aj,some (.i _ (.ofNat m))=>
   cond (Nat.beq z.length (Nat.succ (shN R))&&(Nat.blt 0 m&&Nat.ble ((3*m+2000)*bytes) 281474976710656))
    (some (.val (.aq J.next 0 m R none) (J.push (.cells (fw m z.tail))))) none
  |_,_=>none
def a8n(x:aH)(floor:Nat)(av:aH->Option AV)(J:ag):Option bH:=
  match av x with
  |some (.m none)=>some (.val (jL J.next 0) (J.push (.mapIter none 0 [] 0)))
  |some (.m (some id))=>match J.get id with
   |some (.map _ aU)=>some (.val (jL J.next 0) (J.push (.mapIter (some id) aU [] aU)))
   |_=>none
  |_=>none
def a8o(x:aH)(floor:Nat)(av:aH->Option AV)(J:ag):Option bH:=
  match av x with
  |some (.p (some (it,0)))=>if Nat.blt it floor then none else
   match J.get it with
   |some (.mapIter none _ _ _)=>some (.val (.a6 [.b false]) J)
   |some (.mapIter (some id) since seen g2)=>match J.get id with
    |some (.map es aU)=>
     cond (Nat.beq aU since&&Nat.beq g2 since&&cB (λ(e:AV×AV×Nat)=>Nat.blt e.2.2 since) es)
      (match mB seen es with
       |[]=>some (.val (.a6 [.b false]) J)
       |l=>some (.g3 (l.map λe=>(.a6 [.b true,e.1,e.2.1],J.set it (.mapIter (some id) since (seen++[e.2.2]) aU))))) none
    |_=>none
   |_=>none
  |_=>none
def a8p(x:aH)(floor:Nat)(av:aH->Option AV)(J:ag):Option bH:=
  match av x with
  |some (.p (some (it,0)))=>match J.get it with
   |some (.mapIter (some id) since seen g2)=>match J.get id with
    |some (.map es aU)=>cond (Nat.beq aU g2) (match ql seen with
     |some b=>match pc b es with
      |some e=>some (.val (.a6 [e.1,e.2.1]) J)
      |none=>none
     |none=>none) none
    |_=>none
   |_=>none
  |_=>none
def a8q(_sh:Option Nat)(d:aH)(x:aH)(floor:Nat)(av:aH->Option AV)(J:ag):Option bH:=
  match av d,av x with
  |some (.aq _ _ 0 _ _),some (.ad _)=>some (.val c4 J)
  |some (.aq id off (len+1) _ _),some (.ad z)=>match Nat.blt id floor,J.get id with
   |false,some (.cells c)=>match storeCells c off (fw (len+1) z) with
    |some c=>some (.val c4 (J.set id (.cells c)))
    |none=>none
   |_,_=>none
  |some .aj,some (.ad _)=>some (.val c4 J)
  |some (.aR _ _ []),some (.ad _)=>some (.val c4 J)
  |_,_=>none
def a8r(cI:Bool)(x:aH)(y:aH)(floor:Nat)(av:aH->Option AV)(J:ag):Option bH:=
  match av x,av y with
  |some (.i k a),some (.i l b)=>if k=l then some (.val (.i k (if cI then(if b > a then b else a) else(if b<a then b else a))) J) else none
  |some (.g1 n),some (.i .i64 (.ofNat j))=>cond (Bool.not cI&&Nat.ble j n) (some (.val (.i .i64 (Int.ofNat j)) J)) none
  |some (.i .i64 (.ofNat j)),some (.g1 n)=>cond (Bool.not cI&&Nat.ble j n) (some (.val (.i .i64 (Int.ofNat j)) J)) none
  |_,_=>none
def US:Nr:=λ_ _ _=>none
def rq(op:AOp):Nr:=
 AOp.rec (motive:=λ_=>Nr) a7y a7z a7A a7B a7C a7D a7E a7F a7G a7H a7I a7J a7K a7L a7M a8k a8l a7N a7O a7P a8m a7S a7Q a7R a7T a7U a7V a7W a7X a7Y a7Z a8a a8n a8o a8p a8b a8c a8d a8e a8f a8j a8g a8h a8i a8q a8r US US op
def AOp.isRec(op:AOp):Bool:=
 AOp.rec (motive:=λ_=>Bool) (λ_=>false) (λ_ _ _=>false) (λ_=>false) (λ_=>false) (λ_ _=>false) (λ_ _ _ _=>false) (λ_ _=>false) (λ_ _ _=>false) (λ_=>false) (λ_ _ _=>false) (λ_ _ _=>false) (λ_ _ _ _=>false) (λ_=>false) (λ_=>false) (λ_ _=>false) (λ_=>false) (λ_=>false) (λ_ _=>false) (λ_ _ _=>false) false (λ_ _ _ _ _=>false) (λ_ _ _ _ _=>false) (λ_ _ _ _ _=>false) (λ_ _ _=>false) (λ_ _ _=>false) (λ_ _ _=>false) (λ_ _ _ _=>false) (λ_ _ _=>false) (λ_ _=>false) (λ_ _ _ _=>false) (λ_ _ _ _ _=>false) (λ_ _ _ _=>false) (λ_=>false) (λ_=>false) (λ_=>false) (λ_ _ _ _=>false) (λ_ _=>false) (λ_ _=>false) (λ_ _=>false) (λ_=>false) (λ_ _ _ _=>false) (λ_ _=>false) (λ_=>false) (λ_=>false) (λ_ _ _=>false) (λ_ _ _=>false) true false op
def wantedA(g:Option (Nat×Bool))(aq:aY AV):Bool:=
 match g with
 |none=>true
 |some (d,w)=>match aq.get d with
  |some (.b x)=>x==w
  |_=>false
def Ih(g:Option (Nat×Bool))(aq:aY AV):Bool:=
 Option.rec (motive:=λ_=>Bool) true (λp=>match aY.Ie (Np p.1) aq with
  |some (.b x)=>x==p.2
  |_=>false) g
abbrev jg:=Nat->Option Nat->bC->Fr->ag->Option (List (hd×Fr×ag))
def resultOf(J:ag)(aq:aY AV)(r:Nat×Option (Option Nat)):Option AV:=
 match aq.get r.1,r.2 with
 |some v,none=>some v
 |some (.p (some (id,off))),some R=>match J.get id with
  |some (.cells c)=>dB R (c.drop off)
  |_=>none
 |_,_=>none
def resultsOf(J:ag)(aq:aY AV)(rs:List (Nat×Option (Option Nat))):Option AV:=
 match mapO (resultOf J aq) rs with
 |some [v]=>some v
 |some a8=>some (.a6 a8)
 |none=>none
def pe(fn:bP)(args:List AV):Fr:=⟨aY.lay args 0 (aY.full fn.ntmps c4 fn.ntmps),[],false⟩
def isFn:AV->Bool
 | .f (.func _) _ _=>true
 |_=>false
def lb(env:Env)(floor:Nat)(call:AV->List AV->ag->Option (cQ×ag))(rc:Option AV)(dm:Bool)(ops:List aX):Fr->ag->Option (hd×Fr×ag):=
 List.rec (λai J=>some (.normal,ai,J)) (λo _ ar ai J=>
  cond (wantedA o.guard ai.a5)
   (cond o.op.isRec
    (match rc with
     |some v=>ar (Fr.put ⟨ai.a5,ai.defers,true⟩ o.dst (cond ai.fh .eC v)) J
     |none=>none)
    (match rq o.op floor (evalA env ai.a5) J with
     |some (.val v J)=>ar (ai.put o.dst v) J
     |some (.call bx args)=>match call bx args J with
      |some (.ok v,J)=>ar (ai.put o.dst v) J
      |some (.err v,J)=>some (.panic v,ai,J)
      |none=>none
     |some (.iP bx args)=>cond (dm&&isFn bx) (ar (Fr.put ⟨ai.a5,.inr (bx,args)::ai.defers,ai.fh⟩ o.dst c4) J) none
     |some (.panic v)=>some (.panic v,ai,J)
     |some (.g3 _)=>none
     |none=>none))
   (ar (ai.put o.dst c4) J)) ops
abbrev m9:=List (hd×Fr×ag)
abbrev kY:=AV->List AV->ag->Option (List (cQ×ag))
def runOps(env:Env)(floor:Nat)(call:kY)(dm:Bool)(ops:List aX):Fr->ag->Option m9:=
 List.rec (motive:=λ_=>Fr->ag->Option m9) (λai J=>some [(.normal,ai,J)]) (λo _ ar ai J=>
  Bool.rec (motive:=λ_=>Option m9) (ar (ai.oz o.dst c4) J)
   (Option.rec (motive:=λ_=>Option m9) none (λr=>bH.rec (motive:=λ_=>Option m9)
    (λv J=>ar (ai.oz o.dst v) J)
    (λbx args=>hP (call bx args J) (λr=>match r with
     |(.ok v,J)=>ar (ai.oz o.dst v) J
     |(.err v,J)=>some [(.panic v,ai,J)]))
    (λbx args=>cond (dm&&isFn bx) (ar (Fr.oz ⟨ai.a5,.inr (bx,args)::ai.defers,ai.fh⟩ o.dst c4) J) none)
    (λv=>some [(.panic v,ai,J)])
    (λl=>j6 (λp=>ar (ai.oz o.dst p.1) p.2) l) r)
    (rq o.op floor (A5 env ai.a5) J))
   (Ih o.guard ai.a5)) ops
def AOp.fR:AOp->Bool
 | .store _ _ _| .ox _ _ _ _| .call _ _| .append _ _ _ _| .copy _ _ _| .mkSlice _ _ _ _ _| .H9 _| .rangeMap _| .sW _| .iP _ _| .panic _| .recover=>true
 |_=>false
def AOp.ld:AOp->Bool
 | .alloc _| .box _| .buildSlice _ _ _ _| .mkMap=>true
 |_=>false
def AOp.looks:AOp->Bool
 | .load _ _| .lookup _ _ _ _ _| .len _ _| .entry _| .H_ _| .A2 _ _ _ _ _| .m7 _ _ none (some _) none=>true
 |_=>false
def pf{α:Type}:Option α->List α
 |none=>[]
 |some x=>[x]
def AOp.opnds:AOp->List aH
 | .cD x=>[x]| .pick c a b=>[c,a,b]| .alloc _=>[]| .box x=>[x]| .build _ aE=>aE.map (·.2.2)| .buildSlice _ _ _ aE=>aE.map (·.2)
 | .load _ a=>[a]| .store _ a x=>[a,x]| .nilCheck x=>[x]| .bin _ x y=>[x,y]| .A1 _ x y=>[x,y]| .my _ _ x y=>[x,y]| .not x=>[x]| .neg x=>[x]| .conv _ x=>[x]
 | .H9 x=>[x]| .H_ x=>[x]| .Ia _ x=>[x]| .ow _ a c=>a++c| .mkMap=>[]| .mkSlice _ _ _ l c=>[l,c]
 | .A2 _ _ x l h=>x::(pf l++pf h)| .m7 _ x l h m=>x::(pf l++(pf h++pf m))| .rm x l h=>x::(pf l++pf h)
 | .fieldAddr _ _ x=>[x]| .field _ _ x=>[x]| .A3 _ _ x i=>[x,i]| .dr _ x i=>[x,i]| .yI x i=>[x,i]| .Nn _ _ x i=>[x,i]
 | .lookup _ x k _ _=>[x,k]| .ox _ m k v=>[m,k,v]| .rangeMap x=>[x]| .sW x=>[x]| .entry x=>[x]| .No x _ _ _=>[x]| .extract x _=>[x]
 | .call c as=>(match c with| .fn _=>[]| .val o=>[o])++as| .iP c as=>(match c with| .fn _=>[]| .val o=>[o])++as
 | .panic x=>[x]| .append _ _ s x=>[s,x]| .len _ x=>[x]| .Ib _=>[]| .cap x=>[x]| .copy _ d s=>[d,s]| .Ic _ x y=>[x,y]| .recover=>[]| .bad=>[]
def aH.tmp:aH->Option Nat
 | .t i=>some i
 |_=>none
def aX.reads(o:aX):List Nat:=(match o.guard with|some (d,_)=>[d]|none=>[])++o.op.opnds.filterMap aH.tmp
abbrev kZ:=aX×aY AV×AV
abbrev jh:=Fr×List ag×List kZ×ag
def runDraws(env:Env)(floor:Nat)(call:kY)(ops:List aX):Fr->List ag->List kZ->ag->Option (List jh):=
 List.rec (λai bR ws J=>some [(ai,bR,ws,J)]) (λo _ ar ai bR ws J=>
  cond (Ih o.guard ai.a5)
   (match rq o.op floor (A5 env ai.a5) J with
    |some (.val v af)=>ar (ai.oz o.dst v) (J::bR) (match o.je with|[]=>ws|_::_=>(o,ai.a5,v)::ws) af
    |some (.call bx args)=>match call bx args J with
     |some (x::l)=>j6 (λr=>match r with|(.ok v,af)=>ar (ai.oz o.dst v) (J::bR) ws af|_=>none) (x::l)
     |_=>none
    |_=>none)
   (ar (ai.oz o.dst c4) (J::bR) ws J)) ops
def steady(env:Env)(floor:Nat)(bR:List ag)(w:kZ):Bool:=
 cB (λq=>match nth bR q with
  |some J=>match rq w.1.op floor (evalA env w.2.1) J with
   |some (.val v _)=>AV.eqb env.a2 v w.2.2
   |_=>false
  |none=>false) w.1.je
def swapOk(env:Env)(aq:aY AV)(ops:List aX):Bool:=
 match ops.reverse with
 |y::x::_=>match y.je with
  |[]=>true
  |_::_=>match y.op with
   | .store _ b _=>match x.op with
    | .store _ a _=>match evalA env aq a,evalA env aq b with
     |some (.p (some (i,_))),some (.p (some (j,_)))=>!Nat.beq i j
     |_,_=>false
    |_=>false
   |_=>true
 |_=>true
def leave(floor:Nat)(call:AV->List AV->AV->ag->Option (Bool×ag))(ds:List (Nat ⊕ (AV×List AV))):Option AV->ag->Option (Option AV×ag):=
 List.rec (λp J=>some (p,J)) (λd _ ar p J=>
  match d with
  | .inl b=>if Nat.blt b floor then none else match J.get b with
   |some .dN=>ar p (J.set b .dead)
   |_=>none
  | .inr (bx,args)=>match call bx args (p.getD .eC) J with
   |some (r,J)=>ar (cond r none p) J
   |none=>none) ds
def sZ(env:Env)(floor:Nat)(rc:AV)(c:bC):Fr->ag->Option (hd×Fr×ag):=
 bC.rec (motive:=λ_=>Fr->ag->Option (hd×Fr×ag))
  (λai J=>some (.normal,ai,J))
  (λops ai J=>lb env floor (λ_ _ _=>none) (some rc) false ops ai J)
  (λ_ _ _=>none)
  (λ_ _ Ns Nt ai J=>match Ns ai J with
   |some (.normal,ai,J)=>Nt ai J
   |r=>r)
  (λc _ _ Ns Nt ai J=>match evalA env ai.a5 c with
   |some (.b t)=>cond t (Ns ai J) (Nt ai J)
   |_=>none)
  (λ_ _ _ _ _=>none) (λ_ _ _ _=>none) (λ_ _ _ _=>none) (λ_ _ _ _ _ _ _ _=>none) (λ_ _ _=>none)
  (λai J=>some (.ret,ai,J)) (λ_ _=>none) c
def callD(env:Env)(floor:Nat)(bx:AV)(args:List AV)(p:AV)(J:ag):Option (Bool×ag):=
 match bx with
 | .f (.func g) first cap=>match env.funcs g with
  |some fn=>match fn.body with
   |some body=>cond (Nat.beq (first++args++cap).length fn.ig&&Nat.ble (first++args++cap).length fn.ntmps)
    (match sZ env floor p body (pe fn (first++args++cap)) J with
     |some (.normal,ai,J)=>(match ai.defers,resultsOf J ai.a5 fn.results with|[],some _=>some (ai.fh,J)|_,_=>none)
     |some (.ret,ai,J)=>(match ai.defers,resultsOf J ai.a5 fn.results with|[],some _=>some (ai.fh,J)|_,_=>none)
     |_=>none) none
   |none=>none
  |none=>none
 |_=>none
def Du(e:hd):Option AV:=match e with| .panic v=>some v|_=>none
def endF(env:Env)(floor:Nat)(fn:bP)(r:hd×Fr×ag):Option (List (cQ×ag)):=
 match r with
 |(.exit _,_,_)=>none
 |(e,ai,J)=>
  match leave floor (callD env floor) ai.defers (Du e) J with
  |none=>none
  |some (some v,J)=>some [(.err v,J)]
  |some (none,J)=>match resultsOf J ai.a5 fn.results with
   |some v=>some [(.ok v,J)]
   |none=>none
def runF(env:Env)(ar:jg)(floor g:Nat)(args:List AV)(J:ag):Option (List (cQ×ag)):=
 match env.funcs g with
 |none=>none
 |some fn=>match fn.body with
  |none=>none
  |some body=>
   cond (Nat.beq args.length fn.ig&&Nat.ble args.length fn.ntmps)
    (hP (ar floor none body (pe fn args) J) (endF env floor fn))
    none
def A6(c:Nat)(l:List Nat):Nat->Int:=List.rec (motive:=λ_=>Nat->Int) (λ_=>-1) (λx _ ar k=>cond (Nat.beq x c) (Int.ofNat k) (ar (k+1))) l
def a8s(c:Nat)(l:List Nat):Nat:=List.rec 0 (λx _ ar=>cond (Nat.beq x c) (Nat.succ ar) ar) l
def extRow(n:Nat)(args:List AV):Option AV:=
 match n,args with
 |1,[.s l,.i .u8 (.ofNat c)]=>cond (Nat.blt c 256) (some (.i .i64 (A6 c l 0))) none
 |2,[.s a,.s b]=>some (.i .i64 (cond (hD a b) (-1) (cond (eqL a b) 0 1)))
 |3,[.s l,.i .u8 (.ofNat c)]=>cond (Nat.blt c 256) (some (.i .i64 (Int.ofNat (a8s c l)))) none
 |_,_=>none
def yL(n base:Nat)(v1:AV)(y:cQ×ag):Bool:=
 match y with
 |(.ok w,J)=>(match freeze J base n w with|some bf=>AV.eqb n bf v1|none=>false)
 |(.err _,_)=>false
def joinF(n base:Nat)(l:List (cQ×ag)):Option AV:=
 match l with
 |[]=>none
 |x::t=>match x with
  |(.err _,_)=>none
  |(.ok v,J)=>match freeze J base n v with
   |none=>none
   |some v1=>cond (cB (yL n base v1) t) (some v1) none
def uU(N:Nat)(v:AV):AV:=
 match v with
 | .aq id off len R cap=>.aq (id+N) off len R cap
 |v=>v
def s0:AV->Bool
 | .s _| .i _ _| .b _| .aj| .aq _ _ _ _ _=>true
 |_=>false
def Dv(N:Nat)(v:AV):AV:=
 match v with
 | .ad l=>.ad (l.map (uU N))
 |v=>uU N v
def s3(N:Nat)(v:AV):AV:=
 match v with
 | .a6 l=>.a6 (l.map (Dv N))
 |v=>Dv N v
def wR:AV->Bool
 | .ad l=>cB s0 l
 |v=>s0 v
def A7:AV->Bool
 | .a6 l=>cB wR l
 |v=>wR v
def Dw(N:Nat)(o:AO):AO:=
 match o with
 | .cells c=>.cells (c.map (uU N))
 |_=>.dead
def lI(N:Nat)(os:List AO):ag->ag:=List.rec (λJ=>J) (λo _ ar J=>ar (J.push (Dw N o))) os
def callF(env:Env)(ar:jg)(floor g:Nat)(args:List AV)(J:ag):Option (List (cQ×ag)):=
 match env.ext g with
 |0=>
  cond (env.pure g)
   (match(match mapO (bp J env.a2) args with|some aB=>env.spec g aB|none=>none) with
    |some r=>some [(.ok r,J)]
    |none=>match runF env ar J.next g args J with
     |some l=>match joinF env.a2 J.next l with
      |some v=>some [(.ok v,J)]
      |none=>none
     |none=>none)
   (runF env ar floor g args J)
 |k=>match extRow k args with
  |some v=>some [(.ok v,J)]
  |none=>match(match mapO (bp J env.a2) args with|some aB=>env.qk g aB|none=>none) with
   |some (v,os)=>some [(.ok (s3 J.next v),lI J.next os J)]
   |none=>none
def layAll(aE:List Nat):List AV->aY AV->aY AV:=
 List.rec (λ_ aq=>aq) (λp _ ar args aq=>match args with|[]=>aq|a::args=>ar args (aq.set p a)) aE
def endRound(J:ag)(l:Nat)(a8t:Option bC):Option (cQ×ag):=
 match J.get l with
 |some (.loop _ _ aq aE as b d)=>match a8t with
  |none=>some (.ok (.b true),J.set l (.loop .ready none aq aE as b d))
  |some c=>some (.ok (.b false),J.set l (.loop .done (some c) aq aE as b d))
 |_=>none
def roundEnd(l:Nat)(r:hd×Fr×ag):Option (List (cQ×ag)):=
 match r with
 |(.normal,_,J)=>(endRound J l none).map λx=>[x]
 |(.ret,_,J)=>(endRound J l (some .ret)).map λx=>[x]
 |(.exit id,_,J)=>(endRound J l (some (.exit id))).map λx=>[x]
 |_=>none
def roundMid(ar:jg)(floor l:Nat)(b:bC)(r:hd×Fr×ag):Option (List (cQ×ag)):=
 match r with
 |(.normal,ai,J)=>match J.get l with
  |some (.loop .ready lX uV m_ h6 eY dt)=>hP (ar floor (some l) b ai (J.set l (.loop .busy lX uV m_ h6 eY dt))) (roundEnd l)
  |_=>none
 |_=>none
def Nu(ar:jg)(floor l:Nat)(args:List AV)(J:ag):Option (List (cQ×ag)):=
 if Nat.blt l floor then none else
 match J.get l with
 |some (.loop .ready _ aq aE as b _)=>
  cond (Nat.beq aE.length args.length)
   (hP (ar floor (some l) as ⟨layAll aE args aq,[],false⟩ J) (roundMid ar floor l b)) none
 |_=>none
def callV(env:Env)(ar:jg)(floor:Nat)(bx:AV)(args:List AV)(J:ag):Option (List (cQ×ag)):=
 match bx with
 | .f (.func g) first cap=>callF env ar floor g (first++args++cap) J
 | .f (.yield l) _ _=>Nu ar floor l args J
 |_=>none
def Dx(aJ:Option Nat)(ai:Fr)(J:ag):Option (Nat×ag×List (Nat ⊕ (AV×List AV))):=
 match aJ with
 |some l=>match J.get l with
  |some (.loop _ _ _ _ _ _ d)=>some (d,J,ai.defers)
  |_=>none
 |none=>some (J.next,J.push .dN,.inl J.next::ai.defers)
def A8(ar:jg)(floor:Nat)(aJ:Option Nat)(b:bC)(r:hd×Fr×ag):Option m9:=
 match r with
 |(.normal,ai,J)=>ar floor aJ b ai J
 |r=>some [r]
def Nv(id:Nat)(r:hd×Fr×ag):Option m9:=
 match r with
 |(.exit j,ai,J)=>cond (Nat.beq j id) (some [(.normal,ai,J)]) (some [(.exit j,ai,J)])
 |r=>some [r]
def rangeK(ar:jg)(floor:Nat)(aJ:Option Nat)(ai:Fr)(ds:List (Nat ⊕ (AV×List AV)))(l:Nat)(r:cQ×ag):Option m9:=
 match r with
 |(.ok _,c8)=>match c8.get l with
  |some (.loop st lX uV m_ h6 eY dt)=>
   match st with
   | .busy=>none
   |_=>match lX with
    |none=>some [(.normal,⟨ai.a5,ds,ai.fh⟩,c8.set l (.loop .exhausted lX uV m_ h6 eY dt))]
    |some c=>ar floor aJ c ⟨ai.a5,ds,ai.fh⟩ (c8.set l (.loop .exhausted lX uV m_ h6 eY dt))
  |_=>none
 |_=>none
def drawn(env:Env)(floor:Nat)(ops:List aX)(x:jh):Option (hd×Fr×ag):=
 cond (x.2.2.1.all (steady env floor (x.2.2.2::x.2.1).reverse)&&swapOk env x.1.a5 ops) (some (.normal,x.1,x.2.2.2)) none
def step(env:Env)(ar:jg):jg:=λfloor aJ c ai J=>
 match c with
 | .skip=>some [(.normal,ai,J)]
 | .region ops=>runOps env floor (callV env ar floor) aJ.isNone ops ai J
 | .draw ops=>match runDraws env floor (callV env ar floor) ops ai [] [] J with
  |some l=>mapO (drawn env floor ops) l
  |none=>none
 | .seq a b=>hP (ar floor aJ a ai J) (A8 ar floor aJ b)
 | .cond c a b=>match evalA env ai.a5 c with
  |some (.b t)=>ar floor aJ (cond t a b) ai J
  |_=>none
 | .block id a=>hP (ar floor aJ a ai J) (Nv id)
 | .scope a=>ar floor aJ a ai J
 | .loop a=>hP (ar floor aJ a ai J) (A8 ar floor aJ (.loop a))
 | .exit id=>some [(.exit id,ai,J)]
 | .ret=>some [(.ret,ai,J)]
 | .rangeFunc f aE as b=>
  if Nat.blt J.next floor then none else
  match evalA env ai.a5 f with
  |some (.f (.func g) first cap)=>
   match Dx aJ ai J with
   |none=>none
   |some (d,bu,ds)=>
    match env.ext g with
    |0=>hP (callF env ar floor g (first++AV.f (.yield bu.next) [] []::cap) (bu.push (.loop .ready none ai.a5 aE as b d))) (rangeK ar floor aJ ai ds bu.next)
    |_=>none
  |_=>none
 | .bad=>none
abbrev oA:=Env->jg->Nat->Option Nat->Fr->ag->Option (List (hd×Fr×ag))
def a8u:oA:=λ_ _ _ _ ai J=>some [(.normal,ai,J)]
def a8v(ops:List aX):oA:=λenv ar floor aJ ai J=>runOps env floor (callV env ar floor) aJ.isNone ops ai J
def a8w(ops:List aX):oA:=λenv ar floor _ ai J=>match runDraws env floor (callV env ar floor) ops ai [] [] J with
  |some l=>mapO (drawn env floor ops) l
  |none=>none
def a8x(a b:bC):oA:=λ_ ar floor aJ ai J=>hP (ar floor aJ a ai J) (A8 ar floor aJ b)
def a8y(c:aH)(a b:bC):oA:=λenv ar floor aJ ai J=>match A5 env ai.a5 c with
  |some (.b t)=>ar floor aJ (cond t a b) ai J
  |_=>none
def a8z(id:Nat)(a:bC):oA:=λ_ ar floor aJ ai J=>hP (ar floor aJ a ai J) (Nv id)
def a8A(a:bC):oA:=λ_ ar floor aJ ai J=>hP (ar floor aJ a ai J) (A8 ar floor aJ (.loop a))
def a8B(a:bC):oA:=λ_ ar floor aJ ai J=>ar floor aJ a ai J
def a8C(id:Nat):oA:=λ_ _ _ _ ai J=>some [(.exit id,ai,J)]
def a8D:oA:=λ_ _ _ _ ai J=>some [(.ret,ai,J)]
def a8E(f:aH)(aE:List Nat)(as b:bC):oA:=λenv ar floor aJ ai J=>step env ar floor aJ (.rangeFunc f aE as b) ai J
def a8F:oA:=λ_ _ _ _ _ _=>none
def a8G(c:bC):oA:=
 bC.rec (motive:=λ_=>oA) a8u a8v a8w (λa b _ _=>a8x a b) (λc a b _ _=>a8y c a b) (λid a _=>a8z id a) (λa _=>a8A a) (λa _=>a8B a) (λf aE a b _ _=>a8E f aE a b) a8C a8D a8F c
def UT(env:Env)(ar:jg):jg:=λfloor aJ c ai J=>a8G c env ar floor aJ ai J
def exec(env:Env)(n:Nat):jg:=Nat.rec (motive:=λ_=>jg) (λ_ _ _ _ _=>none) (λ_ ar=>UT env ar) n
def Dy(env:Env)(n g:Nat)(args:List AV):Option AV:=
 match runF env (exec env n) 0 g args ⟨.nil,0⟩ with
 |some l=>joinF env.a2 0 l
 |none=>none
def yM(s:ByteArray):List Nat:=s.data.toList.map (·.toNat)
def ofLeaf:Value->Option AV
 | .bool b=>some (.b b)
 | .int k n=>some (.i k n)
 | .string s=>some (.s (yM s))
 | .pointer none=>some (.p none)
 | .slice none 0 0=>some .aj
 | .map none=>some (.m none)
 | .nilFunc=>some .gp
 | .nilIface=>some .eC
 |_=>none
def mapOL{α β:Type}(f:α->Option β):List α->Option (List β)
 |[]=>some []
 |x::xs=>match f x,mapOL f xs with
  |some y,some a4=>some (y::a4)
  |_,_=>none
def ofValue:Value->Option AV
 | .agg l=>match mapOL ofLeaf l.toList with|some l=>some (.ad l)|none=>none
 | .iface t v=>match ofLeaf v with|some v=>some (.it t v)|none=>none
 |v=>ofLeaf v
section
variable (P:Program)
def shapeOf(t:TypeId):Option (Option Nat):=
 match P.underlying t,P.info? t with
 |some (.struct _),some i=>some (some i.size)
 |some (.array _ _),some i=>some (some i.size)
 |some (.struct _),none=>none
 |some (.array _ _),none=>none
 |some _,some i=>if i.size=1 then some none else none
 |_,_=>none
def zeroOf(t:TypeId):Option AV:=
 match P.info? t with
 |some i=>match i.zero with
  |some v=>ofValue v
  |none=>none
 |none=>none
def opdOf:Operand->Option aH
 | .tmp t=>some (.t t)
 | .const v=>match ofValue v with|some v=>some (.c v)|none=>none
 | .global g=>some (.g g)
 | .func f=>some (.c (.f (.func f) [] []))
def yN(l:List Operand):Option (List aH):=mapOL opdOf l
def opdO:Option Operand->Option (Option aH)
 |none=>some none
 |some x=>match opdOf x with|some x=>some (some x)|none=>none
def fieldOf(t:TypeId)(i:Nat):Option (Nat×Option Nat):=
 match P.underlying t with
 |some (.struct bO)=>match bO[i]? with
  |some f=>match shapeOf P f.type with
   |some R=>if shN R=0 then none else some (f.offset,R)
   |none=>none
  |none=>none
 |_=>none
def elemOf'(t:TypeId):Option (TypeId×Option Nat):=
 match P.underlying t with
 |some (.slice e)=>match shapeOf P e with|some R=>some (e,R)|none=>none
 |_=>none
def calleeOf:Callee->Option sV
 | .value (.func f)=>some (.fn f)
 | .value x=>match opdOf x with|some x=>some (.val x)|none=>none
 |_=>none
def isU8(t:TypeId):Bool:=match P.underlying t with|some (.int .u8)=>true|_=>false
def leafKind(t:TypeId):Option Nat:=
 match P.underlying t with
 |some (.int _)=>some 0
 |some .string=>some 1
 |some .bool=>some 2
 |_=>none
def keyOk(t:TypeId):Option (Nat ⊕ List Nat):=
 match leafKind P t with
 |some k=>some (.inl k)
 |none=>
  match P.underlying t with
  |some (.struct bO)=>if !P.stoodInHeld t&&bO.toList.zipIdx.all (λ(f,i)=>decide (f.name≠ "_")&&decide (f.offset=i)&&decide (shapeOf P f.type=some none)) then
    (mapOL (λf=>leafKind P f.type) bO.toList).map .inr else none
  |_=>none
def isInt(t:TypeId):Bool:=match P.underlying t with|some (.int _)=>true|_=>false
def isText(t:TypeId):Bool:=match P.underlying t with|some (.slice _)=>true|some .string=>true|_=>false
def flatS:Nat->List Field->Option (List Nat)
 |_,[]=>some []
 |i,f::bO=>
  if f.name≠ "_" ∧f.offset=i then
   match leafKind P f.type with
   |some k=>if shapeOf P f.type=some none then(flatS (i+1) bO).map λl=>k::l else none
   |none=>match keyOk P f.type with
    |some (.inr a7)=>if shapeOf P f.type=some (some a7.length) then(flatS (i+a7.length) bO).map λl=>a7++l else none
    |_=>none
  else none
def stK(t:TypeId):Option Nat:=
 match P.underlying t with
 |some (.struct bO)=>if P.stoodInHeld t=true then none else match flatS P 0 bO.toList with
  |some a7=>if UR 40 (Ig a7)=a7/\P.eqGuardType P.depth t=false then some (10+Ig a7) else none
  |none=>none
 |_=>none
def cop(o:Oper):Option AOp:=
 match o.op with
 | .move x=>(opdOf x).map .cD
 | .assign x=>(opdOf x).map .cD
 | .pick c a b=>do return .pick (←opdOf c) (←opdOf a) (←opdOf b)
 | .alloc e=>(zeroOf P e).map .alloc
 | .box _ x=>(opdOf x).map .box
 | .build t aE=>do
  let .ad z <-zeroOf P t|none
  match P.underlying t with
  |some (.struct bO)=>
   if bO.any (λf=>(P.info? f.type).isNone) then none else
   let l <-mapOL (λ(p:Nat×Operand)=>match fieldOf P t p.1,opdOf p.2 with|some (off,R),some x=>some (off,shN R,x)|_,_=>none) aE.toList
   return .build z l
  |some (.array _ e)=>do
   let R <-shapeOf P e
   let l <-mapOL (λ(p:Nat×Operand)=>match opdOf p.2 with|some x=>some (p.1*shN R,shN R,x)|none=>none) aE.toList
   return .build z l
  |_=>none
 | .buildSlice t n aE=>do
  let(e,R) <-elemOf' P t
  let z <-zeroOf P e
  let l <-mapOL (λ(p:Nat×Operand)=>match opdOf p.2 with|some x=>some (p.1,x)|none=>none) aE.toList
  if n*shN R<=16777216/\z.cells.length=shN R then return .buildSlice R n z.cells l else none
 | .insert t m k v| .mapUpdate t m k v=>
  match P.underlying t with
  |some (.map mC _)=>do return .ox (←keyOk P mC) (←opdOf m) (←opdOf k) (←opdOf v)
  |_=>none
 | .load t a=>do return .load (←shapeOf P t) (←opdOf a)
 | .store t a v=>do return .store (←shapeOf P t) (←opdOf a) (←opdOf v)
 | .nilCheck x=>(opdOf x).map .nilCheck
 | .binOp op t x y _=>do
  let x <-opdOf x;let y <-opdOf y
  match P.underlying t,op with
  |some (.int _),_=>return .bin op x y
  |some .string,_=>return .bin op x y
  |some .bool,.eql=>return .A1 false x y
  |some .bool,.neq=>return .A1 true x y
  |some (.interface _),.eql=>return .my 0 false x y
  |some (.interface _),.neq=>return .my 0 true x y
  |some (.pointer _),.eql=>return .my 1 false x y
  |some (.pointer _),.neq=>return .my 1 true x y
  |some (.func _ _ _),.eql=>return .my 2 false x y
  |some (.func _ _ _),.neq=>return .my 2 true x y
  |some (.slice _),.eql=>return .my 3 false x y
  |some (.slice _),.neq=>return .my 3 true x y
  |some (.map _ _),.eql=>return .my 4 false x y
  |some (.map _ _),.neq=>return .my 4 true x y
  |some (.struct _),.eql=>(stK P t).map λk=>.my k false x y
  |some (.struct _),.neq=>(stK P t).map λk=>.my k true x y
  |_,_=>none
 | .unOp .not _ x=>(opdOf x).map .not
 | .unOp .neg _ x=>(opdOf x).map .neg
 | .unOp _ _ _=>none
 | .convert s d x=>
  match P.underlying s,P.underlying d with
  |some (.int _),some (.int k)=>(opdOf x).map (.conv k)
  |some .string,some (.slice e)=>if isU8 P e then(opdOf x).map .H9 else none
  |some (.slice e),some .string=>if isU8 P e then(opdOf x).map .H_ else none
  |_,_=>none
 | .makeInterface t x=>match P.underlying t with
  |some (.interface _)=>none
  |some _=>(opdOf x).map (.Ia t)
  |none=>none
 | .makeFunc fn a c=>match fn with
  | .func f=>do return .ow (.func f) (←yN a.toList) (←yN c.toList)
  |_=>none
 | .makeMap t r=>match P.underlying t,r with
  |some (.map _ _),none=>some .mkMap
  |some (.map _ _),some (.const (.int _ _))=>some .mkMap
  |_,_=>none
 | .makeSlice t l c=>do
  let(e,R) <-elemOf' P t
  let z <-zeroOf P e
  let i <-P.info? e
  if z.cells.length=shN R then return .mkSlice R i.bytes z.cells (←opdOf l) (←opdOf c) else none
 | .slice t x l h m=>do
  let l <-opdO l;let h <-opdO h;let m <-opdO m
  match P.underlying t with
  |some (.array n e)=>match m with
   |none=>return .A2 n (←shapeOf P e) (←opdOf x) l h
   |some _=>none
  |some (.slice e)=>match shapeOf P e with
   |some R=>if m.isSome/\h.isNone then none else return .m7 R (←opdOf x) l h m
   |none=>none
  |some .string=>match m with
   |none=>return .rm (←opdOf x) l h
   |some _=>none
  |_=>none
 | .fieldAddr t x i=>do
  let(off,R) <-fieldOf P t i
  return .fieldAddr off R (←opdOf x)
 | .field t x i=>do
  let(off,R) <-fieldOf P t i
  return .field off R (←opdOf x)
 | .indexAddr t x i=>
  match P.underlying t with
  |some (.array n e)=>do return .A3 n (←shapeOf P e) (←opdOf x) (←opdOf i)
  |some (.slice e)=>do return .dr (←shapeOf P e) (←opdOf x) (←opdOf i)
  |_=>none
 | .index t x i=>
  match P.underlying t with
  |some (.array n e)=>do return .Nn n (←shapeOf P e) (←opdOf x) (←opdOf i)
  |some .string=>do return .yI (←opdOf x) (←opdOf i)
  |_=>none
 | .lookup t x k ok=>
  match P.underlying t with
  |some (.map mC e)=>do return .lookup (←keyOk P mC) (←opdOf x) (←opdOf k) (←zeroOf P e) ok
  |_=>none
 | .range t x=>match P.underlying t with
  |some (.map _ _)=>(opdOf x).map .rangeMap
  |_=>none
 | .next x false=>(opdOf x).map .sW
 | .entry x=>(opdOf x).map .entry
 | .typeAssert x _ t ok=>
  match P.underlying t with
  |some (.interface _)=>none
  |some _=>do return .No (←opdOf x) t (←zeroOf P t) ok
  |none=>none
 | .extract x i=>do return .extract (←opdOf x) i
 | .call {callee:=.builtin b,args,argTypes}=>
  match b,args.toList,argTypes.toList with
  | .append,[s,x],[t,u]=>do
   let(e,R) <-elemOf' P t
   let i <-P.info? e
   let z <-zeroOf P e
   if isText P u/\i.bytes≠0/\z.cells.length=shN R then return .append R i.bytes (←opdOf s) (←opdOf x)
   else if isInt P u/\i.bytes≠0/\z.cells.length=shN R/\0<shN R then return .mkSlice R i.bytes (.eC::z.cells) (←opdOf s) (←opdOf x) else none
  | .len,[x],[t]=>match P.underlying t with
   |some (.array n _)=>some (.Ib n)
   |some .string=>(opdOf x).map (.len 0)
   |some (.slice _)=>(opdOf x).map (.len 1)
   |some (.map _ _)=>(opdOf x).map (.len 2)
   |_=>none
  | .cap,[x],[t]=>match P.underlying t with
   |some (.slice _)=>(opdOf x).map .cap
   |_=>none
  | .clear,[x],[t]=>match elemOf' P t with
   |some (e,R)=>do
    let z <-zeroOf P e
    if z.cells.length=shN R then return .copy R (←opdOf x) (.c (.ad z.cells)) else none
   |none=>none
  | .min,[x,y],_=>do return .Ic false (←opdOf x) (←opdOf y)
  | .max,[x,y],_=>do return .Ic true (←opdOf x) (←opdOf y)
  | .recover,[],_=>some .recover
  | .panic,[x],_=>(opdOf x).map .panic
  |_,_,_=>none
 | .call c=>do return .call (←calleeOf c.callee) (←yN c.args.toList)
 | .defer {callee:=.builtin _,..}=>none
 | .defer c=>do return .iP (←calleeOf c.callee) (←yN c.args.toList)
 | .panic x=>(opdOf x).map .panic
 |_=>none
def copB(o:Oper):AOp:=match cop P o with|some x=>x|none=>.bad
def guardOf(ops:Array Oper)(o:Oper):Option (Option (Nat×Bool)):=
 match o.guard with
 |none=>some none
 |some (j,w)=>match(ops[j]?).bind (·.dst) with
  |some d=>some (some (d,w))
  |none=>none
def coper(ops:Array Oper)(o:Oper):Option aX:=
 match guardOf ops o with
 |some g=>some {dst:=o.dst,op:=copB P o,guard:=g,je:=[]}
 |none=>none
def rr(o:Oper):List Nat:=(o.after.toList.filter (Region.binds .any)).map (·.on)
def Dz:Nat->List (Nat×Bool×List Nat)->Nat->List Nat
 |0,_,_=>[]
 |fuel+1,rem,mask=>
  match(match rem.find? (λx=>!x.2.1&&x.2.2.all (λd=>mask.testBit d)) with|some x=>some x|none=>rem.find? (λx=>x.2.2.all (λd=>mask.testBit d))) with
  |some x=>x.1::Dz fuel (rem.filter λy=>!Nat.beq y.1 x.1) (mask ||| 1 <<< x.1)
  |none=>[]
def A9(A:List Nat)(es:List Nat):Nat:=es.foldr (λd acc=>(1 <<< d ||| A.getD d 0) ||| acc) 0
def Ii{α:Type}(f:α->α->Bool):List α->Bool
 |[]=>true
 |x::xs=>xs.all (f x)&&Ii f xs
def indep(x y:aX):Bool:=(match x.dst with|some d=>!y.reads.contains d|none=>true)&&(match y.dst with|some d=>!x.reads.contains d|none=>true)
def Nw:AOp->Bool
 | .store _ _ _=>true
 |_=>false
def UU(x:aX):Bool:=!x.op.fR&&(!x.op.ld&& !x.op.looks)
def UW(A:List Nat)(pl:List aX)(x y:aX×Nat):Bool:=
 Nat.beq (x.2+1) y.2&&(Nat.beq (y.2+1) pl.length&&(Nw x.1.op&&(Nw y.1.op&&(x.1.dst.isNone&&(y.1.dst.isNone&&(x.1.guard.isNone&&(y.1.guard.isNone&&(!y.1.je.isEmpty&&
  pl.zipIdx.all λr=>!Nat.blt r.2 x.2||((A.getD y.2 0).testBit r.2||UU r.1)))))))))
def pairOk(A:List Nat)(pl:List aX)(x y:aX×Nat):Bool:=
 let wP:=(A.getD y.2 0).testBit x.2
 (match x.1.dst,y.1.dst with|some d,some e=>!Nat.beq d e|_,_=>true)&&(wP||(indep x.1 y.1&&(!x.1.op.fR||UW A pl x y)))
def Ij(x:aX):Bool:=x.op.fR||x.op.ld
def UX(A:List Nat)(es:List Nat)(cs:List Nat)(n:Nat)(x:aX×Nat):Bool:=
 !x.1.op.looks||(n::es).all λq=>!Nat.blt x.2 q||(x.1.je.contains q||(es.any (λe=>Nat.blt x.2 e&&(Nat.blt e q&&(A.getD e 0).testBit x.2))||cs.all λc=>!(Nat.blt x.2 c&&Nat.blt c q)))
def a8H(A:List Nat)(es:List Nat)(cs:List Nat)(n:Nat)(x:aX×Nat):List Nat:=
 if Nw x.1.op&&(Nat.beq (x.2+1) n&&(Nat.blt 0 x.2&&(es.contains (x.2-1)&& !(A.getD x.2 0).testBit (x.2-1)))) then[x.2-1]
 else if x.1.op.looks then(es++[n]).filter λq=>Nat.blt x.2 q&&(!es.any (λe=>Nat.blt x.2 e&&(Nat.blt e q&&(A.getD e 0).testBit x.2))&& !cs.all λc=>!(Nat.blt x.2 c&&Nat.blt c q)) else[]
def posOf(p:aX->Bool)(pl:List aX):List Nat:=(pl.zipIdx.filter λx=>p x.1).map (·.2)
def UY(n:Nat)(bg cX:List Nat):Bool:=
 Nat.beq bg.length n&&(Nat.beq cX.length n&&(bg.zipIdx.all (λx=>Nat.blt x.1 n&&Nat.beq (cX.getD x.1 0) x.2)&&cX.zipIdx.all (λx=>Nat.blt x.1 n&&Nat.beq (bg.getD x.1 0) x.2)))
def A_(ds:List (List Nat))(cX:List Nat)(i:Nat):List Nat:=(ds.getD i []).map λj=>cX.getD j 0
def UZ(ds:List (List Nat))(bg cX A:List Nat):Bool:=
 bg.zipIdx.all λx=>(A_ ds cX x.1).all (λd=>Nat.blt d x.2)&&Nat.beq (A.getD x.2 0) (A9 A (A_ ds cX x.1))
def U0(n:Nat)(ds:List (List Nat))(pl:List aX)(bg cX A:List Nat):Bool:=
 UY n bg cX&&(ds.all (λl=>l.all λd=>Nat.blt d n)&&(UZ ds bg cX A&&(Ii (pairOk A pl) pl.zipIdx&&pl.zipIdx.all (UX A (posOf (·.op.fR) pl) (posOf Ij pl) n))))
def U1(l:List aX)(bg:List Nat):Option (List aX):=mapOL (λi=>l[i]?) bg
def DA(A:List Nat)(n:Nat)(pl:List aX):List aX:=
 let es:=posOf (·.op.fR) pl
 let cs:=posOf Ij pl
 pl.zipIdx.map λx=>{x.1 with je:=a8H A es cs n x}
def cdraw(ops:Array Oper):Option (List aX):=
 match mapOL (coper P ops) ops.toList with
 |none=>none
 |some l=>
  let n:=ops.size
  let ds:=ops.toList.map rr
  let bg:=Dz n ((l.zip ds).zipIdx.map λx=>(x.2,x.1.1.op.fR,x.1.2)) 0
  let cX:=(List.range n).map λi=>bg.findIdx (Nat.beq i)
  let A:=bg.foldl (λacc i=>acc++[A9 acc (A_ ds cX i)]) []
  match U1 l bg with
  |none=>none
  |some pl=>if U0 n ds (DA A n pl) bg cX A then some (DA A n pl) else none
def ccode:Code->Option bC
 | .skip=>some .skip
 | .region _ ops true=>match cdraw P ops with|some l=>some (.draw l)|none=>some .bad
 | .region _ ops false=>match mapOL (coper P ops) ops.toList with|some l=>some (.region l)|none=>some .bad
 | .seq a b=>match ccode a,ccode b with|some a,some b=>some (.seq a b)|_,_=>none
 | .cond c a b=>match opdOf c,ccode a,ccode b with|some c,some a,some b=>some (.cond c a b)|_,_,_=>none
 | .block id a=>match ccode a with|some a=>some (.block id a)|none=>none
 | .loop a=>match ccode a with|some a=>some (.loop a)|none=>none
 | .scope a=>match ccode a with|some a=>some (.scope a)|none=>none
 | .rangeFunc f aE a b=>match opdOf f,ccode a,ccode b with|some f,some a,some b=>some (.rangeFunc f aE.toList a b)|_,_,_=>none
 | .exit id=>some (.exit id)
 | .ret=>some .ret
 | .label _=>some .skip
 | .goto _=>some .bad
 | .refuse _=>some .bad
def resOf:ResultVar->Option (Nat×Option (Option Nat))
 | .tmp t=>some (t,none)
 | .cell a t=>match shapeOf P t with|some R=>some (a,some R)|none=>none
def cfunc(f:Func):Option bP:=
 match mapOL (resOf P) f.results.toList with
 |some rs=>match f.body with
  |none=>none
  |some c=>match ccode P c with
   |some c=>some {ig:=f.params.size+f.nfree,ntmps:=f.ntmps,results:=rs,body:=some c}
   |none=>none
 |none=>none
end
section
def strOf(l:List Nat):ByteArray:=⟨(l.map Nat.toUInt8).toArray⟩
def dO(w:World)(b:Nat):Option Nat:=
 match w.heap[b]? with
 |some (.cells c _ _)=>some c.size
 |_=>none
class Tok where
 Ba:Nat->AV
 oB:Bool->Nat->AV
variable [Tok]
inductive DB:AV->Value->Prop
 |i (k:IntKind) (n:Int):DB (.i k n) (.int k n)
 |s (l:List Nat) (h:∀c∈l,c<256):DB (.s l) (.string (strOf l))
def DB.alt{a:AV}{u:Value}(h:DB a u):(∃k n,u= .int k n)\/∃s,u= .string s:=by
 cases h with
 |i k n=>exact .inl ⟨_,_,rfl⟩
 |s l h=>exact .inr ⟨_,rfl⟩
inductive az(w:World):(Nat->Option Nat)->(Nat->Prop)->Nat->AV->Value->Prop
 |b {m:Nat->Option Nat} {O:Nat->Prop} {B:Nat} (x:Bool):az w m O B (.b x) (.bool x)
 |i {m:Nat->Option Nat} {O:Nat->Prop} {B:Nat} (k:IntKind) (n:Int):az w m O B (.i k n) (.int k n)
 |s {m:Nat->Option Nat} {O:Nat->Prop} {B:Nat} (l:List Nat) (h:∀c∈l,c<256):az w m O B (.s l) (.string (strOf l))
 |qm {m:Nat->Option Nat} {O:Nat->Prop} {B:Nat}:az w m O B (.p none) (.pointer none)
 |p {m:Nat->Option Nat} {O:Nat->Prop} {B:Nat} {id aA off:Nat} (h:m id=some aA):az w m O B (.p (some (id,off))) (.pointer (some ⟨aA,off,none⟩))
 |dk {m:Nat->Option Nat} {O:Nat->Prop} {B:Nat} {old:Bool} {v:AV} {aA off:Nat} (a4:Nat->Value) (c9:¬O aA) (hb:aA<w.heap.size) (eu:old=false->B<=aA)
   (ae:∀j,j<v.cells.length->w.cell? ⟨aA,off+j,none⟩=some (a4 j)) (al:∀j (h:j<v.cells.length),az w (λ_=>none) O B (v.cells[j]) (a4 j)) (hf:∀x∈v.cells,conf none x=true):
   az w m O B (.dk old v) (.pointer (some ⟨aA,off,none⟩))
 |aj {m:Nat->Option Nat} {O:Nat->Prop} {B:Nat}:az w m O B .aj (.slice none 0 0)
 |aq {m:Nat->Option Nat} {O:Nat->Prop} {B:Nat} {id off len aA n ec:Nat} {R cap:Option Nat} (h:m id=some aA) (ao:len<=ec) (ae:∀c,cap=some c->ec=c) (hn:dO w aA=some n) (fi:off+ec*shN R<=n) (dP:cap=none->off+ec*shN R=n):
   az w m O B (.aq id off len R cap) (.slice (some ⟨aA,off,none⟩) len ec)
 |kB {m:Nat->Option Nat} {O:Nat->Prop} {B:Nat} {old:Bool} {R:Option Nat}:az w m O B (.aR old R []) (.slice none 0 0)
 |aR {m:Nat->Option Nat} {O:Nat->Prop} {B:Nat} {old:Bool} {R:Option Nat} {xs:List AV} {aA off ec:Nat} {sp:Option Nat} (a4:Nat->Nat->Value) (c9:xs≠[]->¬O aA/\aA<w.heap.size/\(old=false->B<=aA))
   (ak:∀i (h:i<xs.length),conf R (xs[i])=true)
   (ae:∀i (h:i<xs.length),∀j,j<(xs[i]).cells.length->w.cell? ⟨aA,off+i*shN R+j,none⟩=some (a4 i j))
   (al:∀i (h:i<xs.length),∀j (aG:j<(xs[i]).cells.length),az w (λ_=>none) O B ((xs[i]).cells[j]) (a4 i j)) (ao:xs.length<=ec) (hf:∀v∈xs,∀x∈v.cells,conf none x=true) (ei:xs≠[]->sp=none):
   az w m O B (.aR old R xs) (.slice (some ⟨aA,off,sp⟩) xs.length ec)
 |ru {m:Nat->Option Nat} {O:Nat->Prop} {B:Nat}:az w m O B (.m none) (.map none)
 |mp {m:Nat->Option Nat} {O:Nat->Prop} {B:Nat} {id aA:Nat} (h:m id=some aA):az w m O B (.m (some id)) (.map (some aA))
 |na {m:Nat->Option Nat} {O:Nat->Prop} {B:Nat} {g:Nat} {bO cs:List AV} {gT e5:Array Value} (hf:gT.size=bO.length) (bE:∀i (h:i<bO.length) (h':i<gT.size),az w m O B (bO[i]) (gT[i]))
   (ae:e5.size=cs.length) (s4:∀i (h:i<cs.length) (h':i<e5.size),az w m O B (cs[i]) (e5[i])):az w m O B (.f (.func g) bO cs) (.func (.func g) gT e5)
 |uW {m:Nat->Option Nat} {O:Nat->Prop} {B:Nat} {l aA:Nat} (h:m l=some aA):az w m O B (.f (.yield l) [] []) (.func (.yield aA) #[] #[])
 |gp {m:Nat->Option Nat} {O:Nat->Prop} {B:Nat}:az w m O B .gp .nilFunc
 |it {m:Nat->Option Nat} {O:Nat->Prop} {B:Nat} {t:TypeId} {v:AV} {u:Value} (h:az w m O B v u):az w m O B (.it t v) (.iface t u)
 |eC {m:Nat->Option Nat} {O:Nat->Prop} {B:Nat}:az w m O B .eC .nilIface
 |ad {m:Nat->Option Nat} {O:Nat->Prop} {B:Nat} {l:List AV} {a8:Array Value} (ak:a8.size=l.length) (al:∀i (h:i<l.length) (h':i<a8.size),az w m O B (l[i]) (a8[i])) (hf:∀x∈l,conf none x=true):az w m O B (.ad l) (.agg a8)
 |a6 {m:Nat->Option Nat} {O:Nat->Prop} {B:Nat} {l:List AV} {a8:Array Value} (ak:a8.size=l.length) (al:∀i (h:i<l.length) (h':i<a8.size),az w m O B (l[i]) (a8[i])):az w m O B (.a6 l) (.tuple a8)
 |e3 {m:Nat->Option Nat} {O:Nat->Prop} {B:Nat} {k:IntKind} {d j n:Nat} (h:n%d=j) (hn:n<256):az w m O B (.e3 k d j) (.int k (Int.ofNat n))
 |hC {m:Nat->Option Nat} {O:Nat->Prop} {B:Nat} {ex:List (List Nat)} {s:ByteArray} (h:∀e∈ex,s≠strOf e):az w m O B (.hC ex) (.string s)
 |iz {m:Nat->Option Nat} {O:Nat->Prop} {B:Nat} {hi:Bool} (n:Int) (h:hi=decide (40<n)):az w m O B (.iz hi) (.int .i64 n)
 |y {m:Nat->Option Nat} {O:Nat->Prop} {B i:Nat} {u:Value} (h:DB (Tok.Ba i) u):az w m O B (.y i) u
 |eT {m:Nat->Option Nat} {O:Nat->Prop} {B i:Nat} {old:Bool} {u:Value} {a:Option Addr} {l c:Nat} (hu:u= .slice a l c) (h:az w (λ_=>none) O B (Tok.oB old i) u):az w m O B (.eT old i) u
 |g1 {m:Nat->Option Nat} {O:Nat->Prop} {B n:Nat} (k:Nat) (h:n<=k):az w m O B (.g1 n) (.int .i64 (Int.ofNat k))
 |fF {m:Nat->Option Nat} {O:Nat->Prop} {B bX hi:Nat} (k:Nat) (h:bX<=k) (h':k<=hi):az w m O B (.fF bX hi) (.int .i64 (Int.ofNat k))
 |iA {m:Nat->Option Nat} {O:Nat->Prop} {B:Nat} {old:Bool} {R:Option Nat} {xs:List AV} {a:Addr} {n:Nat} (hn:n=xs.length) (b_:xs≠[]) (h:az w m O B (.aR old R xs) (.slice (some a) n n)):az w m O B (.iA old R xs) (.slice (some a) n n)
class TokOk:Prop where
 snap:∀ {w:World} {O:Nat->Prop} {B ej i:Nat} {old:Bool} {u:Value},az w (λ_=>none) O B (Tok.oB old i) u->az w (λ_=>none) (λ_=>False) ej (Tok.oB true i) u
 fresh:∀ {w:World} {O:Nat->Prop} {B i:Nat} {u:Value},az w (λ_=>none) O B (Tok.oB false i) u->az w (λ_=>none) (λb=>b<B) B (Tok.oB false i) u
def bF(w:World)(m:Nat->Option Nat)(O:Nat->Prop)(B:Nat)(l:List AV)(a8:List Value):Prop:=
 a8.length=l.length/\∀i (h:i<l.length) (h':i<a8.length),az w m O B (l[i]) (a8[i])
def iR(w:World)(m:Nat->Option Nat)(O:Nat->Prop)(B:Nat)(aq:aY AV)(a8:List Value):Prop:=
 (∀i v,aq.get i=some v->∃u,a8[i]? =some u/\az w m O B v u)/\∀i,aq.get i=none->a8[i]? =none
def U2{w ax:World}{a:Addr}(h:ax.heap[a.block]? =w.heap[a.block]?):ax.cell? a=w.cell? a:=by
 unfold World.cell?;rw[h]
def az.mono{w ax:World}{m aK:Nat->Option Nat}{O iS:Nat->Prop}{B:Nat}(hm:∀id aA,m id=some aA->aK id=some aA)(cj:w.heap.size<=ax.heap.size)
  (gf:∀b n,dO w b=some n->dO ax b=some n) (aC:∀aA,aA<w.heap.size->¬O aA->ax.heap[aA]? =w.heap[aA]? ∧¬iS aA) {v:AV} {u:Value} (h:az w m O B v u):az ax aK iS B v u:=by
 induction h generalizing aK with
 |b x=>exact .b x
 |i k n=>exact .i k n
 |s l h=>exact .s l h
 |qm=>exact .qm
 |p h=>exact .p (hm _ _ h)
 |dk a4 c9 hb eu ae al hf ar=>exact .dk a4 (aC _ hb c9).2 U eu (λj aG=>by rw[U2 (w:=w) (aC _ hb c9).1];exact ae j aG) (λj aG=>ar j aG (aK:=λ_=>none) (λ_ _ h=>by cases h) aC) hf
 |aj=>exact .aj
 |aq h ao ae hn fi dP=>exact .aq (hm _ _ h) ao ae (gf _ _ hn) fi dP
 |kB=>exact .kB
 | @aR _ _ _ old R xs aA off ec sp a4 c9 ak ae al ao hf ei ar=>
  by_cases hx:xs=[]
  ·subst hx;exact .aR a4 (λh=>absurd I h) ak (λi h=>by simp at h) (λi h=>by simp at h) ao hf ei
  ·obtain⟨h1,h2,h3⟩:=c9 hx;exact .aR a4 (λ_=>⟨(aC _ h2 h1).2,U,h3⟩) ak (λi h j aG=>by rw[U2 (w:=w) (aC _ h2 h1).1];exact ae i h j aG) (λi h j aG=>ar i h j aG (aK:=λ_=>none) (λ_ _ h=>by cases h) aC) ao hf ei
 |ru=>exact .ru
 |mp h=>exact .mp (hm _ _ h)
 |na hf bE ae s4 Nx fx=>exact .na hf (λi h h'=>Nx i h h' hm aC) ae (λi h h'=>fx i h h' hm aC)
 |uW h=>exact .uW (hm _ _ h)
 |gp=>exact .gp
 |it _ ar=>exact .it (ar hm aC)
 |eC=>exact .eC
 |ad ak _ hf ar=>exact .ad ak (λi h h'=>ar i h h' hm aC) hf
 |a6 ak _ ar=>exact .a6 ak (λi h h'=>ar i h h' hm aC)
 |e3 h hn=>exact .e3 h hn
 |hC h=>exact .hC h
 |iz n h=>exact .iz n h
 |y h=>exact .y h
 |eT hu _ ar=>exact .eT hu (ar (λ_ _ h=>by cases h) aC)
 |g1 k h=>exact .g1 k h
 |fF k h h'=>exact .fF k h h'
 |iA hn b_ _ ar=>exact .iA hn b_ (ar hm aC)
def az.up{w:World}{m:Nat->Option Nat}{O:Nat->Prop}{B:Nat}{v:AV}{u:Value}(h:az w (λ_=>none) O B v u):az w m O B v u:=
 h.mono (λ_ _ h=>by cases h) (b6 _) (λ_ _ h=>h) (λ_ _ h=>⟨rfl,h⟩)
def AO.isDead:AO->Bool
 | .dead=>true
 |_=>false
def live(J:ag)(id:Nat):Prop:=∃o,J.get id=some o/\o.isDead=false
def bh(J:ag)(m:Nat->Option Nat)(aA:Nat):Prop:=∃id,m id=some aA/\live J id
def yO(f:Nat)(J:ag)(m:Nat->Option Nat)(aA:Nat):Prop:=∃id,f<=id/\m id=some aA/\live J id
def Ik(P:Program):Option bC->Option Code->Prop
 |none,none=>True
 |some c,some d=>ccode P d=some c/\(c= .ret\/∃id,c= .exit id)
 |_,_=>False
inductive lY(P:Program)(w:World)(m:Nat->Option Nat)(O:Nat->Prop)(B:Nat):AO->Obj->Prop
 |cells {c:List AV} {arr:Array Value} {el:TypeId} {a2:Nat×Nat} (ao:c.length<=arr.size) (al:∀i (h:i<c.length) (h':i<arr.size),az w m O B (c[i]) (arr[i]))
   (aZ:∀i,i<arr.size->(decide (a2.1<=i)&&decide (i<a2.2))=false) (hf:∀x∈c,conf none x=true):lY P w m O B (.cells c) (.cells arr el a2)
 |map {es:List (AV×AV×Nat)} {dI:Array MapEntry} {clock:Nat} (ao:dI.size=es.length)
   (al:∀i (h:i<es.length) (h':i<dI.size),az w m O B (es[i]).1 (dI[i]).key/\az w m O B (es[i]).2.1 (dI[i]).val/\(dI[i]).born=(es[i]).2.2):lY P w m O B (.map es clock) (.map dI clock)
 |mapIter {id:Option Nat} {b:Option Nat} {since g2:Nat} {seen:List Nat} (hb:match id,b with|none,none=>True|some i,some j=>m i=some j|_,_=>False):
   lY P w m O B (.mapIter id since seen g2) (.mapIter b since seen.toArray g2)
 |loop {st:LoopState} {lX:Option bC} {nI:Option Code} {a5:aY AV} {tmps:Array Value} {aE:List Nat} {as b:bC} {h6 eY:Code} {d D:Nat} {fn:FuncId}
   (lJ:Ik P lX nI) (ak:iR w m O B a5 tmps.toList) (ha:ccode P h6=some as) (hb:ccode P eY=some b) (an:m d=some D):
   lY P w m O B (.loop st lX a5 aE as b d) (.loop {state:=st,pending:=nI,fn,tmps,params:=aE.toArray,assign:=h6,body:=eY,defers:=D})
 |dN:lY P w m O B .dN (.deferred (some []))
 |hc {c:List AV} {r:Nat} {arr:Array Value} {el:TypeId} {a2:Nat×Nat} (ao:c.length+r<=arr.size) (al:∀i (h:i<c.length) (h':i<arr.size),az w m O B (c[i]) (arr[i]))
   (aZ:∀i,i<arr.size->(decide (a2.1<=i)&&decide (i<a2.2))=false) (hf:∀x∈c,conf none x=true):lY P w m O B (.hc c r) (.cells arr el a2)
def bF.mono{w ax:World}{m aK:Nat->Option Nat}{O iS:Nat->Prop}{B:Nat}(hm:∀id aA,m id=some aA->aK id=some aA)(cj:w.heap.size<=ax.heap.size)
  (gf:∀b n,dO w b=some n->dO ax b=some n) (aC:∀aA,aA<w.heap.size->¬O aA->ax.heap[aA]? =w.heap[aA]? ∧¬iS aA) {l:List AV} {a8:List Value} (h:bF w m O B l a8):bF ax aK iS B l a8:=
 ⟨h.1,λi hi du=>(h.2 i hi du).mono hm cj gf aC⟩
def iR.mono{w ax:World}{m aK:Nat->Option Nat}{O iS:Nat->Prop}{B:Nat}(hm:∀id aA,m id=some aA->aK id=some aA)(cj:w.heap.size<=ax.heap.size)
  (gf:∀b n,dO w b=some n->dO ax b=some n) (aC:∀aA,aA<w.heap.size->¬O aA->ax.heap[aA]? =w.heap[aA]? ∧¬iS aA) {l:aY AV} {a8:List Value} (h:iR w m O B l a8):iR ax aK iS B l a8:=
 ⟨λi v hi=>let⟨u,h1,h2⟩:=h.1 i v hi;⟨u,h1,h2.mono hm cj gf aC⟩,h.2⟩
def lY.mono{P:Program}{w ax:World}{m aK:Nat->Option Nat}{O iS:Nat->Prop}{B:Nat}(hm:∀id aA,m id=some aA->aK id=some aA)(cj:w.heap.size<=ax.heap.size)
  (gf:∀b n,dO w b=some n->dO ax b=some n) (aC:∀aA,aA<w.heap.size->¬O aA->ax.heap[aA]? =w.heap[aA]? ∧¬iS aA) {o:AO} {bV:Obj} (h:lY P w m O B o bV):lY P ax aK iS B o bV:=by
 cases h with
 |cells ao al aZ hf=>exact .cells ao (λi h h'=>(al i h h').mono hm cj gf aC) aZ hf
 |map ao al=>exact .map ao (λi h h'=>⟨(al i h h').1.mono hm cj gf aC,(al i h h').2.1.mono hm cj gf aC,(al i h h').2.2⟩)
 | @mapIter id b _ _ _ hb=>exact .mapIter (by cases id<;>cases b<;>first|exact hb|exact hm _ _ hb)
 |loop lJ ak ha hb an=>exact .loop lJ (ak.mono hm cj gf aC) ha hb (hm _ _ an)
 |dN=>exact .dN
 |hc ao al aZ hf=>exact .hc ao (λi h h'=>(al i h h').mono hm cj gf aC) aZ hf
structure Rel(P:Program)(J:ag)(w:World)(m:Nat->Option Nat)(B:Nat):Prop where
 len:True
 eV:∀id aA,m id=some aA->aA<w.heap.size/\id<J.next
 obj:∀id aA o,m id=some aA->J.get id=some o->o.isDead=false->∃bV,w.heap[aA]? =some bV/\lY P w m (bh J m) B o bV
 inj:∀id eW aA,m id=some aA->m eW=some aA->live J id->live J eW->id=eW
 base:∀id aA,m id=some aA->B<=aA
 bb:B<=w.heap.size
structure Ext(f:Nat)(J:ag)(w:World)(m:Nat->Option Nat)(af:ag)(ax:World)(aK:Nat->Option Nat):Prop where
 mono:∀id aA,m id=some aA->aK id=some aA
 new:∀id aA,aK id=some aA->m id=some aA\/(J.next<=id/\(w.heap.size<=aA\/yO f J m aA))
 next:J.next<=af.next
 size:w.heap.size<=ax.heap.size
 gU:∀b n,dO w b=some n->dO ax b=some n
 bK:∀aA,aA<w.heap.size->¬yO f J m aA->ax.heap[aA]? =w.heap[aA]?
 low:∀id,id<f->id<J.next->af.get id=J.get id
 dead:∀id,id<J.next->live af id->live J id
 os:ax.os=w.os
 tape:ax.tape=w.tape
 out:ax.output=w.output
 un:∀id,id<J.next->m id=none->af.get id=J.get id
def yO.own{f:Nat}{J:ag}{m:Nat->Option Nat}{aA:Nat}(h:yO f J m aA):bh J m aA:=let⟨id,_,h1,h2⟩:=h;⟨id,h1,h2⟩
def Ext.refl(f:Nat)(J:ag)(w:World)(m:Nat->Option Nat):Ext f J w m J w m:=
 ⟨λ_ _ h=>h,λ_ _ h=>.inl h,b6 _,b6 _,λ_ _ h=>h,λ_ _ _=>rfl,λ_ _ _=>rfl,λ_ _ h=>h,rfl,rfl,rfl,λ_ _ _=>rfl⟩
def Ext.rv{P:Program}{f:Nat}{J af:ag}{w ax:World}{m aK:Nat->Option Nat}{B:Nat}(h:Ext f J w m af ax aK)(al:Rel P J w m B)(aA:Nat)(hb:aA<w.heap.size)(c9:¬bh J m aA):
  ax.heap[aA]? =w.heap[aA]? ∧¬bh af aK aA:=by
 refine⟨h.bK aA hb (λho=>c9 ho.own),?_⟩;rintro⟨id,h1,h2⟩;rcases h.new id aA h1 with h3|⟨_,h3|h3⟩
 ·exact c9 ⟨id,h3,h.dead id (al.eV _ _ h3).2 h2⟩
 ·omega
 ·exact c9 h3.own
def az.ext{P:Program}{f:Nat}{J af:ag}{w ax:World}{m aK:Nat->Option Nat}{B:Nat}(h:Ext f J w m af ax aK)(al:Rel P J w m B){v:AV}{u:Value}(au:az w m (bh J m) B v u):az ax aK (bh af aK) B v u:=
 au.mono h.mono h.size h.gU (h.rv al)
def iR.ext{P:Program}{f:Nat}{J af:ag}{w ax:World}{m aK:Nat->Option Nat}{B:Nat}(h:Ext f J w m af ax aK)(al:Rel P J w m B){v:aY AV}{u:List Value}(au:iR w m (bh J m) B v u):iR ax aK (bh af aK) B v u:=
 au.mono h.mono h.size h.gU (h.rv al)
def bF.ext{P:Program}{f:Nat}{J af:ag}{w ax:World}{m aK:Nat->Option Nat}{B:Nat}(h:Ext f J w m af ax aK)(al:Rel P J w m B){v:List AV}{u:List Value}(au:bF w m (bh J m) B v u):bF ax aK (bh af aK) B v u:=
 au.mono h.mono h.size h.gU (h.rv al)
def Ext.trans{P:Program}{f:Nat}{J af U3:ag}{w ax Bb:World}{m aK U4:Nat->Option Nat}{B:Nat}(h:Ext f J w m af ax aK)(al:Rel P J w m B)(h':Ext f af ax aK U3 Bb U4):Ext f J w m U3 Bb U4 where
 mono id aA hb:=h'.mono _ _ (h.mono _ _ hb)
 new id aA hb:=by
  have key:∀b,yO f af aK b->w.heap.size<=b\/yO f J m b:=by
   rintro b ⟨i,hf,h1,h2⟩;rcases h.new i b h1 with h3|⟨_,h3⟩
   ·exact .inr ⟨i,hf,h3,h.dead i (al.eV _ _ h3).2 h2⟩
   ·exact h3
  rcases h'.new id aA hb with h1|⟨h1,h2⟩
  ·rcases h.new id aA h1 with h3|⟨h3,aN⟩
   ·exact .inl h3
   ·exact .inr ⟨h3,aN⟩
  ·refine .inr ⟨by have:=h.next;omega,?_⟩;rcases h2 with h2|h2
   ·exact .inl (by have:=h.size;omega)
   ·exact key _ h2
 next:=lE h.next h'.next
 size:=lE h.size h'.size
 gU b n hb:=h'.gU _ _ (h.gU _ _ hb)
 bK aA hb c9:=by
  have ak:=h.size;rw[h'.bK aA U ?_,h.bK aA hb c9];rintro⟨i,hf,h1,h2⟩;rcases h.new i aA h1 with h3|⟨_,h3|h3⟩
  ·exact c9 ⟨i,hf,h3,h.dead i (al.eV _ _ h3).2 h2⟩
  ·omega
  ·exact c9 h3
 low id hf hn:=by rw[h'.low id hf (by have:=h.next;omega),h.low id hf hn]
 dead id hn ao:=h.dead id hn (h'.dead id (by have:=h.next;omega) ao)
 os:=h'.os.trans h.os
 tape:=h'.tape.trans h.tape
 out:=h'.out.trans h.out
 un id hn hm:=by
  have pg:aK id=none:=by
   cases e:aK id with
   |none=>rfl
   |some b=>
    rcases h.new id b e with h3|⟨h3,_⟩
    ·rw[hm] at h3;cases h3
    ·omega
  rw[h'.un id (by have:=h.next;omega) pg,h.un id hn hm]
def DC{α:Type}(l:List α):∀n,nth l n=l[n]? :=by
 induction l with
 |nil=>intro n;rfl
 |cons x xs ar=>
  intro n;cases n with
  |zero=>rfl
  |succ n=>exact(ar n).trans aT
def U5{α β:Type}(f:α->Option β):mapO f []=some []:=rfl
def mapO_cons{α β:Type}(f:α->Option β)(x:α)(xs:List α):mapO f (x::xs)=match f x with|none=>none|some y=>match mapO f xs with|none=>none|some a4=>some (y::a4):=rfl
def nJ{α β:Type}{f:α->Option β}:∀ {l:List α} {a4:List β},mapO f l=some a4->a4.length=l.length/\∀i (h:i<l.length) (h':i<a4.length),f (l[i])=some (a4[i])
 |[],a4,h=>by simp[U5] at h;subst h;simp
 |x::xs,a4,h=>by
  rw[mapO_cons] at h;cases hx:f x with
  |none=>simp[hx] at h
  |some y=>
   simp only[hx] at h;cases ed:mapO f xs with
   |none=>simp[ed] at h
   |some dv=>
    simp only[ed,cw] at h;subst h;obtain⟨h1,h2⟩:=nJ ed;refine⟨by simp[h1],λi hi du=>?_⟩;cases i with
    |zero=>simpa using hx
    |succ i=>simpa using h2 i (by simpa using hi) (by simpa using du)
def ph{i:Nat}(h:i≠0):(Nat.beq (Nat.mod i 2) 1=true/\i=2*Nat.div (Nat.sub i 1) 2+1)\/(Nat.beq (Nat.mod i 2) 1=false/\i=2*Nat.div (Nat.sub i 1) 2+2):=by
 have aF:Nat.mod i 2=i%2:=rfl;have aV:Nat.div (Nat.sub i 1) 2=(i-1)/2:=rfl;rw[aF,aV];rcases Nat.mod_two_eq_zero_or_one i with h2|h2
 ·right;rw[h2];exact⟨rfl,U⟩
 ·left;rw[h2];exact⟨rfl,U⟩
section
variable {α:Type}
def aY.get_nil(i:Nat):(aY.nil:aY α).get i=none:=rfl
def ry{α:Type}(t:Bool)(a b:α):(Bool.rec (motive:=λ_=>α) b a t:α)=cond t a b:=by cases t<;>rfl
def aY.kC(v:Option α)(l r:aY α)(i:Nat):(aY.node v l r).get i=cond (Nat.beq i 0) v (cond (Nat.beq (Nat.mod i 2) 1) (l.get (Nat.div (Nat.sub i 1) 2)) (r.get (Nat.div (Nat.sub i 1) 2))):=(ry _ _ _).trans (congrArg (cond _ _) (ry _ _ _))
def aY.Ny(v:Option α)(l r:aY α)(i:Nat)(x:α):(aY.node v l r).set i x=cond (Nat.beq i 0) (.node (match v with|some _=>some x|none=>none) l r)
  (cond (Nat.beq (Nat.mod i 2) 1) (.node v (l.set (Nat.div (Nat.sub i 1) 2) x) r) (.node v l (r.set (Nat.div (Nat.sub i 1) 2) x))):=by cases v<;>exact(ry _ _ _).trans (congrArg (cond _ _) (ry _ _ _))
def aY.a8I(i:Nat)(x:α):(aY.nil:aY α).ins i x=aY.A4 (i+1) i x:=rfl
def aY.a8J(v:Option α)(l r:aY α)(i:Nat)(x:α):(aY.node v l r).ins i x=cond (Nat.beq i 0) (.node (some x) l r)
  (cond (Nat.beq (Nat.mod i 2) 1) (.node v (l.ins (Nat.div (Nat.sub i 1) 2) x) r) (.node v l (r.ins (Nat.div (Nat.sub i 1) 2) x))):=(ry _ _ _).trans (congrArg (cond _ _) (ry _ _ _))
def aY.a8K(f i:Nat)(x:α):aY.A4 (f+1) i x=cond (Nat.beq i 0) (.node (some x) .nil .nil) (cond (Nat.beq (Nat.mod i 2) 1) (.node none (aY.A4 f (Nat.div (Nat.sub i 1) 2) x) .nil) (.node none .nil (aY.A4 f (Nat.div (Nat.sub i 1) 2) x))):=(ry _ _ _).trans (congrArg (cond _ _) (ry _ _ _))
def aY.U6(f n:Nat)(x:α):aY.full (f+1) x n=cond (Nat.beq n 0) .nil (.node (some x) (aY.full f x (Nat.div n 2)) (aY.full f x (Nat.div (Nat.sub n 1) 2))):=rfl
def jM{i:Nat}(h:i≠0):Nat.beq i 0=false:=by
 cases h1:Nat.beq i 0 with
 |false=>rfl
 |true=>exact absurd (eM h1) h
def aY.ji:∀(t:aY α) (d i:Nat) (x:α),(t.set d x).get i=if i=d then(t.get d).map (λ_=>x) else t.get i
 | .nil,d,i,x=>by
  show(aY.nil:aY α).get i=_;rw[aY.get_nil,aY.get_nil];simp
 | .node v l r,d,i,x=>by
  rw[aY.Ny];by_cases an:d=0
  ·subst an;rw[fE,cond_true,aY.kC,aY.kC,aY.kC];by_cases hi:i=0
   ·subst hi;rw[fE,cond_true,cond_true,if_pos I];cases v<;>rfl
   ·rw[jM hi,cond_false,cond_false,if_neg hi]
  ·rw[jM an,cond_false];rcases ph an with⟨h1,h2⟩|⟨h1,h2⟩
   ·rw[h1,cond_true,aY.kC,aY.kC,aY.kC,jM an,cond_false,h1,cond_true];by_cases hi:i=0
    ·subst hi;rw[fE,cond_true,cond_true,if_neg (om an)]
    ·rw[jM hi,cond_false,cond_false];rcases ph hi with⟨h3,aN⟩|⟨h3,aN⟩
     ·rw[h3,cond_true,cond_true,aY.ji l];by_cases he:i=d
      ·subst he;rw[if_pos I,if_pos I]
      ·rw[if_neg he,if_neg U]
     ·rw[h3,cond_false,cond_false,if_neg U]
   ·rw[h1,cond_false,aY.kC,aY.kC,aY.kC,jM an,cond_false,h1,cond_false];by_cases hi:i=0
    ·subst hi;rw[fE,cond_true,cond_true,if_neg (om an)]
    ·rw[jM hi,cond_false,cond_false];rcases ph hi with⟨h3,aN⟩|⟨h3,aN⟩
     ·rw[h3,cond_true,cond_true,if_neg U]
     ·rw[h3,cond_false,cond_false,aY.ji r];by_cases he:i=d
      ·subst he;rw[if_pos I,if_pos I]
      ·rw[if_neg he,if_neg U]
def aY.Nz:∀(f d i:Nat) (x:α),d<f->(aY.A4 f d x).get i=if i=d then some x else none
 |0,d,i,x,h=>by omega
 |f+1,d,i,x,h=>by
  rw[aY.a8K];by_cases an:d=0
  ·subst an;rw[fE,cond_true,aY.kC];by_cases hi:i=0
   ·subst hi;rw[fE,cond_true,if_pos I]
   ·rw[jM hi,cond_false,if_neg hi,aY.get_nil];cases Nat.beq (Nat.mod i 2) 1<;>rfl
  ·rw[jM an,cond_false];rcases ph an with⟨h1,h2⟩|⟨h1,h2⟩
   ·rw[h1,cond_true,aY.kC];by_cases hi:i=0
    ·subst hi;rw[fE,cond_true,if_neg (om an)]
    ·rw[jM hi,cond_false];rcases ph hi with⟨h3,aN⟩|⟨h3,aN⟩
     ·rw[h3,cond_true,aY.Nz f _ _ x U];by_cases he:i=d
      ·subst he;rw[if_pos I,if_pos I]
      ·rw[if_neg he,if_neg U]
     ·rw[h3,cond_false,if_neg U,aY.get_nil]
   ·rw[h1,cond_false,aY.kC];by_cases hi:i=0
    ·subst hi;rw[fE,cond_true,if_neg (om an)]
    ·rw[jM hi,cond_false];rcases ph hi with⟨h3,aN⟩|⟨h3,aN⟩
     ·rw[h3,cond_true,if_neg U,aY.get_nil]
     ·rw[h3,cond_false,aY.Nz f _ _ x U];by_cases he:i=d
      ·subst he;rw[if_pos I,if_pos I]
      ·rw[if_neg he,if_neg U]
def aY.DD:∀(t:aY α) (d i:Nat) (x:α),(t.ins d x).get i=if i=d then some x else t.get i
 | .nil,d,i,x=>by rw[aY.a8I,aY.Nz _ _ _ _ (pa d),aY.get_nil]
 | .node v l r,d,i,x=>by
  rw[aY.a8J];by_cases an:d=0
  ·subst an;rw[fE,cond_true,aY.kC,aY.kC];by_cases hi:i=0
   ·subst hi;rw[fE,cond_true,if_pos I]
   ·rw[jM hi,cond_false,cond_false,if_neg hi]
  ·rw[jM an,cond_false];rcases ph an with⟨h1,h2⟩|⟨h1,h2⟩
   ·rw[h1,cond_true,aY.kC,aY.kC];by_cases hi:i=0
    ·subst hi;rw[fE,cond_true,cond_true,if_neg (om an)]
    ·rw[jM hi,cond_false,cond_false];rcases ph hi with⟨h3,aN⟩|⟨h3,aN⟩
     ·rw[h3,cond_true,cond_true,aY.DD l];by_cases he:i=d
      ·subst he;rw[if_pos I,if_pos I]
      ·rw[if_neg he,if_neg U]
     ·rw[h3,cond_false,cond_false,if_neg U]
   ·rw[h1,cond_false,aY.kC,aY.kC];by_cases hi:i=0
    ·subst hi;rw[fE,cond_true,cond_true,if_neg (om an)]
    ·rw[jM hi,cond_false,cond_false];rcases ph hi with⟨h3,aN⟩|⟨h3,aN⟩
     ·rw[h3,cond_true,cond_true,if_neg U]
     ·rw[h3,cond_false,cond_false,aY.DD r];by_cases he:i=d
      ·subst he;rw[if_pos I,if_pos I]
      ·rw[if_neg he,if_neg U]
def aY.Il:∀(f n i:Nat) (x:α),i<n->n<=f->(aY.full f x n).get i=some x
 |0,n,i,x,h,hf=>by omega
 |f+1,n,i,x,h,hf=>by
  rw[aY.U6];have hn:n≠0:=by omega
  rw[jM hn,cond_false,aY.kC];have aF:Nat.div n 2=n/2:=rfl;have aV:Nat.div (Nat.sub n 1) 2=(n-1)/2:=rfl;by_cases hi:i=0
  ·subst hi;rw[fE,cond_true]
  ·rw[jM hi,cond_false];rcases ph hi with⟨h3,aN⟩|⟨h3,aN⟩
   ·rw[h3,cond_true];exact aY.Il f _ _ x (by rw[aF];omega) (by rw[aF];omega)
   ·rw[h3,cond_false];exact aY.Il f _ _ x (by rw[aV];omega) (by rw[aV];omega)
def aY.Im:∀(f n i:Nat) (x y:α),(aY.full f x n).get i=some y->y=x/\i<n
 |0,n,i,x,y,h=>by
  have h:(aY.nil:aY α).get i=some y:=h;rw[aY.get_nil] at h;cases h
 |f+1,n,i,x,y,h=>by
  rw[aY.U6] at h;by_cases hn:n=0
  ·subst hn;rw[fE,cond_true,aY.get_nil] at h;cases h
  ·rw[jM hn,cond_false,aY.kC] at h;have aF:Nat.div n 2=n/2:=rfl;have aV:Nat.div (Nat.sub n 1) 2=(n-1)/2:=rfl;by_cases hi:i=0
   ·subst hi;rw[fE,cond_true] at h;cases h;exact⟨rfl,U⟩
   ·rw[jM hi,cond_false] at h;rcases ph hi with⟨h3,aN⟩|⟨h3,aN⟩
    ·rw[h3,cond_true] at h;have:=aY.Im f _ _ x y h;exact⟨this.1,by rw[aF] at this;omega⟩
    ·rw[h3,cond_false] at h;have:=aY.Im f _ _ x y h;exact⟨this.1,by rw[aV] at this;omega⟩
end
section
variable {α:Type}
def U7(f i:Nat):yJ (f+1) i=cond (Nat.beq i 0) .h (cond (Nat.beq (Nat.mod i 2) 1) (.l (yJ f (Nat.div (Nat.sub i 1) 2))) (.r (yJ f (Nat.div (Nat.sub i 1) 2)))):=
 (ry _ _ _).trans (congrArg (cond _ _) (ry _ _ _))
def aY.Io:∀(f i:Nat) (t:aY α),i<f->aY.Ie (yJ f i) t=t.get i
 |0,i,t,h=>absurd h (Nc _)
 |f+1,i,t,h=>by
  rw[U7];by_cases hi:i=0
  ·subst hi;cases t<;>rfl
  ·rw[jM hi,cond_false];have hlt:Nat.div (Nat.sub i 1) 2<f:=by show(i-1)/2<f;omega
   rcases ph hi with⟨h1,_⟩|⟨h1,_⟩
   ·rw[h1,cond_true];cases t with
    |nil=>rfl
    |node v l r=>rw[aY.kC,jM hi,cond_false,h1,cond_true];exact aY.Io f _ l hlt
   ·rw[h1,cond_false];cases t with
    |nil=>rfl
    |node v l r=>rw[aY.kC,jM hi,cond_false,h1,cond_false];exact aY.Io f _ r hlt
def aY.NA(x:α):∀(f i:Nat) (t:aY α),i<f->aY.UP x (yJ f i) t=t.set i x
 |0,i,t,h=>absurd h (Nc _)
 |f+1,i,t,h=>by
  rw[U7];by_cases hi:i=0
  ·subst hi;cases t<;>rfl
  ·rw[jM hi,cond_false];have hlt:Nat.div (Nat.sub i 1) 2<f:=by show(i-1)/2<f;omega
   rcases ph hi with⟨h1,_⟩|⟨h1,_⟩
   ·rw[h1,cond_true];cases t with
    |nil=>rfl
    |node v l r=>rw[aY.Ny,jM hi,cond_false,h1,cond_true];exact congrArg (λl=>aY.node v l r) (aY.NA x f _ l hlt)
   ·rw[h1,cond_false];cases t with
    |nil=>rfl
    |node v l r=>rw[aY.Ny,jM hi,cond_false,h1,cond_false];exact congrArg (λr=>aY.node v l r) (aY.NA x f _ r hlt)
end
def NB:A5=evalA:=by
 funext env aq x
 cases x with
 |t i=>exact aY.Io _ _ _ (pa i)
 |c v=>rfl
 |g g=>rfl
def U8:Fr.oz=Fr.put:=by
 funext ai d v
 cases d with
 |none=>rfl
 |some d=>exact congrArg (λs=>Fr.mk s ai.defers ai.fh) (aY.NA v _ _ _ (pa d))
def U9:Ih=wantedA:=by
 funext g aq
 cases g with
 |none=>rfl
 |some p=>
  obtain⟨d,w⟩:=p;show(match aY.Ie (yJ (d+1) d) aq with|some (.b x)=>x==w|_=>false)=_;rw[aY.Io _ _ _ (pa d)];rfl
def a8L(env:Env)(ar:jg):UT env ar=step env ar:=by
 funext floor aJ c ai J
 cases c with
 |cond c a b=>
  show(match A5 env ai.a5 c with|some (.b t)=>ar floor aJ (cond t a b) ai J|_=>none)=_;rw[NB];rfl
 |_=>rfl
def ag.get_eq(J:ag)(id:Nat):J.get id=if id<J.next then J.yK.get id else none:=by
 unfold ag.get;by_cases h:id<J.next
 ·have hb:Nat.blt id J.next=true:=by simpa [gD] using h
  rw[hb,cond_true,if_pos h]
 ·have hb:Nat.blt id J.next=false:=by
   cases hb:Nat.blt id J.next
   ·rfl
   ·exact absurd (by simpa [gD] using hb) h
  rw[hb,cond_false,if_neg h]
def ag.cJ{J:ag}{id:Nat}{o:AO}(h:J.get id=some o):id<J.next:=by
 rw[ag.get_eq] at h;split at h
 ·assumption
 ·cases h
def ag.fy{J:ag}(_hl:True)(o:AO){id:Nat}(h:id<J.next):(J.push o).get id=J.get id:=by
 rw[ag.get_eq,ag.get_eq,if_pos h,if_pos (show id<(J.push o).next from Dk h)];show(J.yK.ins J.next o).get id=_;rw[aY.DD,if_neg U]
def ag.ij{J:ag}(o:AO):(J.push o).get J.next=some o:=by
 rw[ag.get_eq,if_pos (show J.next<(J.push o).next from pa _)];show(J.yK.ins J.next o).get J.next=_;rw[aY.DD,if_pos I]
def ag.NC{J:ag}(ao:True)(o:AO)(id:Nat):(J.push o).get id=if id=J.next then some o else J.get id:=by
 by_cases h:id=J.next
 ·subst h;simp[ag.ij]
 ·rw[if_neg h];by_cases h':id<J.next
  ·exact ag.fy ao o h'
  ·rw[ag.get_eq,ag.get_eq,if_neg (show ¬id<(J.push o).next from λh2=>h (by have:id<J.next+1:=h2;omega)),if_neg h']
def ag.ji{J:ag}(_hl:True){id:Nat}(o:AO)(h:id<J.next)(eW:Nat):(J.set id o).get eW=if eW=id then some o else J.get eW:=by
 rw[ag.get_eq,ag.get_eq];show(if eW<J.next then(J.yK.ins id o).get eW else none)=_;by_cases h':eW<J.next
 ·rw[if_pos h',if_pos h',aY.DD]
 ·rw[if_neg h',if_neg h',if_neg U]
end
section
variable [Tok]
open Go.RowKit
def wr:Array Value->Nat->List Value->Array Value
 |arr,_,[]=>arr
 |arr,o,v::r=>wr (arr.setIfInBounds o v) (o+1) r
def s5:∀(a8:List Value) (arr:Array Value) (o:Nat),(wr arr o a8).size=arr.size
 |[],_,_=>rfl
 |v::r,arr,o=>by rw[wr,s5 r];simp
def Bc:∀(a8:List Value) (arr:Array Value) (o i:Nat),o+a8.length<=arr.size->(wr arr o a8)[i]? =if o<=i/\i<o+a8.length then a8[i-o]? else arr[i]?
 |[],arr,o,i,_=>by rw[wr,if_neg (λh=>by simp at h;omega)]
 |v::r,arr,o,i,h=>by
  have h':o+1+r.length<=(arr.setIfInBounds o v).size:=by simp at h ⊢;omega
  rw[wr,Bc r _ (o+1) i h'];simp only[gS] at h ⊢;by_cases h1:o+1<=i/\i<o+1+r.length
  ·rw[if_pos h1,if_pos U,show i-o=(i-(o+1))+1 by omega,HW]
  ·rw[if_neg h1];by_cases h2:i=o
   ·subst h2;rw[if_pos U];simp[HX];omega
   ·rw[if_neg U,Nd (λe=>h2 e.symm)]
def heap_setCell_same{w:World}{b o:Nat}{v:Value}{arr:Array Value}{el:TypeId}{a2:Nat×Nat}(h:w.heap[b]? =some (.cells arr el a2)):
  (w.setCell ⟨b,o,none⟩ v).heap[b]? =some (.cells (arr.setIfInBounds o v) el a2):=by
 simp[World.setCell,Array.getElem?_modify,h]
def Ip:∀(a8:List Value) (w:World) (b o:Nat) (arr:Array Value) (el:TypeId) (a2:Nat×Nat),w.heap[b]? =some (.cells arr el a2)→
  (w.setCells b o a8).heap[b]? =some (.cells (wr arr o a8) el a2)
 |[],w,b,o,arr,el,a2,h=>h
 |v::r,w,b,o,arr,el,a2,h=>by
  rw[World.setCells,wr];exact Ip r _ b (o+1) _ el a2 (heap_setCell_same h)
def heap_setCells_other:∀(a8:List Value) (w:World) (b o k:Nat),k≠b->(w.setCells b o a8).heap[k]? =w.heap[k]?
 |[],w,b,o,k,h=>rfl
 |v::r,w,b,o,k,h=>by
  rw[World.setCells,heap_setCells_other r _ b (o+1) k h];exact Below.heap_setCell w ⟨b,o,none⟩ v k h
def Iq:∀(a8:List Value) (w:World) (b o:Nat),(w.setCells b o a8).heap.size=w.heap.size/\(w.setCells b o a8).os=w.os/\(w.setCells b o a8).tape=w.tape/\(w.setCells b o a8).output=w.output
 |[],w,b,o=>⟨rfl,rfl,rfl,rfl⟩
 |v::r,w,b,o=>by
  rw[World.setCells];obtain⟨h1,h2,h3,aN⟩:=Iq r (w.setCell ⟨b,o,none⟩ v) b (o+1);exact⟨by rw[h1];simp,by rw[h2];rfl,by rw[h3];rfl,by rw[aN];rfl⟩
def Bd{w:World}{b:Nat}{o:Obj}(h:w.heap[b]? =some o):b<w.heap.size:=(yC.1 h).1
def bindM(m:Nat->Option Nat)(i b:Nat):Nat->Option Nat:=λid=>if id=i then some b else m id
def hF(m:Nat->Option Nat)(i b:Nat):bindM m i b i=some b:=by simp[bindM]
def iT(m:Nat->Option Nat)(i b:Nat){id:Nat}(h:id≠i):bindM m i b id=m id:=by simp[bindM,h]
section
variable {P:Program}{J:ag}{w:World}{m:Nat->Option Nat}{B:Nat}
def Rel.a8M(al:Rel P J w m B):m J.next=none:=by
 cases h:m J.next with
 |none=>rfl
 |some b=>have:=(al.eV _ _ h).2;omega
def Rel.U_(al:Rel P J w m B){aA:Nat}(h:bh J m aA):aA<w.heap.size:=let⟨_,h1,_⟩:=h;(al.eV _ _ h1).1
def ND(al:Rel P J w m B){o:AO}(ho:o.isDead=false)(id:Nat):live (J.push o) id↔id=J.next\/live J id:=by
 unfold live;rw[ag.NC al.len];by_cases h:id=J.next
 ·subst h;simp[ho]
 ·simp[h]
def Va{id:Nat}(h:live J id):id<J.next:=let⟨_,h1,_⟩:=h;ag.cJ h1
def Rel.alloc(al:Rel P J w m B)(f:Nat)(ax:World)(o:AO)(bV:Obj)(ho:o.isDead=false)(hh:ax.heap=w.heap.push bV)(kD:ax.os=w.os)(mD:ax.tape=w.tape)(kE:ax.output=w.output)
  (lK:lY P w m (bh J m) B o bV):Rel P (J.push o) ax (bindM m J.next w.heap.size) B/\Ext f J w m (J.push o) ax (bindM m J.next w.heap.size):=by
 have cj:ax.heap.size=w.heap.size+1:=by rw[hh];simp
 have hold:∀b,b<w.heap.size->ax.heap[b]? =w.heap[b]? :=λb hb=>by
  rw[hh,Nf];rw[if_neg U]
 have pj:ax.heap[w.heap.size]? =some bV:=by rw[hh];simp
 have dn:Ext f J w m (J.push o) ax (bindM m J.next w.heap.size):=by
  refine⟨?_,?_,Ng _,U,?_,λb hb _=>hold b hb,?_,?_,kD,mD,kE,λid hn _=>ag.fy al.len o hn⟩
  ·intro id aA h;rw[iT m _ _ (by have:=(al.eV _ _ h).2;omega)];exact h
  ·intro id aA h;by_cases hi:id=J.next
   ·subst hi;rw[hF] at h;cases h;exact .inr ⟨b6 _,.inl (b6 _)⟩
   ·rw[iT m _ _ hi] at h;exact .inl h
  ·intro b n hb;have:b<w.heap.size:=by
    rcases nG b w.heap.size with h|h
    ·exact h
    ·simp[dO,AZ h] at hb
   unfold dO at hb ⊢;rw[hold b this];exact hb
  ·intro id _ hn;exact ag.fy al.len o hn
  ·intro id hn ao;rcases(ND al ho id).1 ao with h|h
   ·omega
   ·exact h
 refine⟨⟨trivial,?_,?_,?_,?_,by have:=al.bb;omega⟩,dn⟩
 ·intro id aA h;by_cases hi:id=J.next
  ·subst hi;rw[hF] at h;cases h;exact⟨U,pa _⟩
  ·rw[iT m _ _ hi] at h;have:=al.eV _ _ h;exact⟨U,Dk this.2⟩
 ·intro id aA gq h hg an;by_cases hi:id=J.next
  ·subst hi;rw[hF] at h;cases h;rw[ag.ij] at hg;cases hg;exact⟨bV,pj,lK.mono dn.mono dn.size dn.gU (dn.rv al)⟩
  ·rw[iT m _ _ hi] at h;have hlt:=al.eV _ _ h;rw[ag.fy al.len o hlt.2] at hg;obtain⟨pk,h1,h2⟩:=al.obj id aA gq h hg an;exact⟨pk,by rw[hold _ hlt.1];exact h1,h2.mono dn.mono dn.size dn.gU (dn.rv al)⟩
 ·intro id eW aA h h' ao gE;by_cases hi:id=J.next
  ·by_cases du:eW=J.next
   ·rw[hi,du]
   ·subst hi;rw[hF] at h;cases h;rw[iT m _ _ du] at h';have:=(al.eV _ _ h').1;omega
  ·rw[iT m _ _ hi] at h;by_cases du:eW=J.next
   ·subst du;rw[hF] at h';cases h';have:=(al.eV _ _ h).1;omega
   ·rw[iT m _ _ du] at h';exact al.inj id eW aA h h' (((ND al ho id).1 ao).resolve_left hi) (((ND al ho eW).1 gE).resolve_left du)
 ·intro id aA h;by_cases hi:id=J.next
  ·subst hi;rw[hF] at h;cases h;exact al.bb
  ·rw[iT m _ _ hi] at h;exact al.base _ _ h
def a8N(al:Rel P J w m B){id:Nat}(h:id<J.next)(o:AO)(eW:Nat):live (J.set id o) eW↔if eW=id then o.isDead=false else live J eW:=by
 unfold live;rw[ag.ji al.len o h];by_cases he:eW=id
 ·simp[he]
 ·simp[he]
def Rel.cY(al:Rel P J w m B){f id aA:Nat}(hf:f<=id)(hm:m id=some aA)(ao:live J id)(ax:World)(o:AO)(cj:ax.heap.size=w.heap.size)
  (yP:∀b,b≠aA->ax.heap[b]? =w.heap[b]?) (gf:∀n,dO w aA=some n->dO ax aA=some n) (kD:ax.os=w.os) (mD:ax.tape=w.tape) (kE:ax.output=w.output)
  (lK:o.isDead=false->∃bV,ax.heap[aA]? =some bV/\lY P w m (bh J m) B o bV):Rel P (J.set id o) ax m B/\Ext f J w m (J.set id o) ax m:=by
 have hlt:=al.eV _ _ hm;have qn:∀eW,live (J.set id o) eW->live J eW:=λeW h=>by
  rw[a8N al hlt.2] at h;by_cases he:eW=id
  ·subst he;exact ao
  ·rwa[if_neg he] at h
 have dn:Ext f J w m (J.set id o) ax m:=by
  refine⟨λ_ _ h=>h,λ_ _ h=>.inl h,b6 _,U,?_,?_,?_,λeW _ h=>qn eW h,kD,mD,kE,λeW _ uX=>by rw[ag.ji al.len o hlt.2,if_neg (λe=>by subst e;rw[hm] at uX;cases uX)]⟩
  ·intro b n hb;by_cases he:b=aA
   ·subst he;exact gf n hb
   ·unfold dO at hb ⊢;rw[yP b he];exact hb
  ·intro b hb c9;refine yP b λhe=>c9 ?_;subst he;exact⟨id,hf,hm,ao⟩
  ·intro eW Ir hn;rw[ag.ji al.len o hlt.2,if_neg U]
 refine⟨⟨trivial,λeW b h=>by have:=al.eV _ _ h;exact⟨U,this.2⟩,?_,λi lZ b h h' a cC=>al.inj i lZ b h h' (qn _ a) (qn _ cC),al.base,by have:=al.bb;omega⟩,dn⟩;intro eW b gq h hg an;by_cases he:eW=id
 ·subst he;rw[hm] at h;cases h;rw[ag.ji al.len o hlt.2,if_pos I] at hg;cases hg;obtain⟨pk,h1,h2⟩:=lK an;exact⟨pk,h1,h2.mono dn.mono dn.size dn.gU (dn.rv al)⟩
 ·rw[ag.ji al.len o hlt.2,if_neg he] at hg;obtain⟨pk,h1,h2⟩:=al.obj eW b gq h hg an;have b_:b≠aA:=λe=>he (al.inj eW id aA (e▸h) hm ⟨gq,hg,an⟩ ao);exact⟨pk,by rw[yP b b_];exact h1,h2.mono dn.mono dn.size dn.gU (dn.rv al)⟩
def Rel.move(al:Rel P J w m B){f id aA:Nat}(hf:f<=id)(hm:m id=some aA)(ao:live J id)(ax:World)(o:AO)(ho:o.isDead=false)(cj:ax.heap.size=w.heap.size)
  (yP:∀b,b≠aA->ax.heap[b]? =w.heap[b]?) (gf:∀n,dO w aA=some n->dO ax aA=some n) (kD:ax.os=w.os) (mD:ax.tape=w.tape) (kE:ax.output=w.output)
  (lK:∃bV,ax.heap[aA]? =some bV/\lY P w m (bh J m) B o bV):
  Rel P ((J.set id .dead).push o) ax (bindM m J.next aA) B/\Ext f J w m ((J.set id .dead).push o) ax (bindM m J.next aA):=by
 have hlt:=al.eV _ _ hm;have hlen:True:=trivial;have fG:∀i,((J.set id .dead).push o).get i=if i=J.next then some o else if i=id then some .dead else J.get i:=λi=>by
  rw[ag.NC hlen o i];show(if i=J.next then some o else _)=_;by_cases h:i=J.next
  ·rw[if_pos h,if_pos h]
  ·rw[if_neg h,if_neg h,ag.ji al.len .dead hlt.2]
 have qn:∀i,live ((J.set id .dead).push o) i↔i=J.next\/(i≠id/\live J i):=λi=>by
  unfold live;rw[fG i];by_cases h:i=J.next
  ·simp[h,ho]
  ·by_cases h':i=id
   ·subst h';simp[h,AO.isDead]
   ·simp[h,h']
 have dn:Ext f J w m ((J.set id .dead).push o) ax (bindM m J.next aA):=by
  refine⟨?_,?_,Ng _,U,?_,?_,?_,?_,kD,mD,kE,λi hn uX=>by rw[fG,if_neg U,if_neg (λe=>by subst e;rw[hm] at uX;cases uX)]⟩
  ·intro i b h;rw[iT m _ _ (by have:=(al.eV _ _ h).2;omega)];exact h
  ·intro i b h;by_cases hi:i=J.next
   ·subst hi;rw[hF] at h;cases h;exact .inr ⟨b6 _,.inr ⟨id,hf,hm,ao⟩⟩
   ·rw[iT m _ _ hi] at h;exact .inl h
  ·intro b n hb;by_cases he:b=aA
   ·subst he;exact gf n hb
   ·unfold dO at hb ⊢;rw[yP b he];exact hb
  ·intro b hb c9;refine yP b λhe=>c9 ?_;subst he;exact⟨id,hf,hm,ao⟩
  ·intro i Ir hn;rw[fG,if_neg U,if_neg U]
  ·intro i hn h;rcases(qn i).1 h with h|h
   ·omega
   ·exact h.2
 refine⟨⟨trivial,?_,?_,?_,?_,by have:=al.bb;omega⟩,dn⟩
 ·intro i b h;by_cases hi:i=J.next
  ·subst hi;rw[hF] at h;cases h;exact⟨U,pa _⟩
  ·rw[iT m _ _ hi] at h;have:=al.eV _ _ h;exact⟨U,Dk this.2⟩
 ·intro i b gq h hg an;rw[fG] at hg;by_cases hi:i=J.next
  ·subst hi;rw[hF] at h;cases h;rw[if_pos I] at hg;cases hg;obtain⟨pk,h1,h2⟩:=lK;exact⟨pk,h1,h2.mono dn.mono dn.size dn.gU (dn.rv al)⟩
  ·rw[iT m _ _ hi] at h;rw[if_neg hi] at hg;by_cases he:i=id
   ·rw[if_pos he] at hg;cases hg;cases an
   ·rw[if_neg he] at hg;obtain⟨pk,h1,h2⟩:=al.obj i b gq h hg an;have b_:b≠aA:=λe=>he (al.inj i id aA (e▸h) hm ⟨gq,hg,an⟩ ao);exact⟨pk,by rw[yP b b_];exact h1,h2.mono dn.mono dn.size dn.gU (dn.rv al)⟩
 ·intro i lZ b h h' a cC;by_cases hi:i=J.next
  ·by_cases du:lZ=J.next
   ·rw[hi,du]
   ·subst hi;rw[hF] at h;cases h;rw[iT m _ _ du] at h';have h3:=((qn lZ).1 cC).resolve_left du;exact absurd (al.inj lZ id aA h' hm h3.2 ao) h3.1
  ·rw[iT m _ _ hi] at h;have h2:=((qn i).1 a).resolve_left hi;by_cases du:lZ=J.next
   ·subst du;rw[hF] at h';cases h';exact absurd (al.inj i id aA h hm h2.2 ao) h2.1
   ·rw[iT m _ _ du] at h';exact al.inj i lZ b h h' h2.2 (((qn lZ).1 cC).resolve_left du).2
 ·intro i b h;by_cases hi:i=J.next
  ·subst hi;rw[hF] at h;cases h;exact al.base _ _ hm
  ·rw[iT m _ _ hi] at h;exact al.base _ _ h
end
def Vb(s:ByteArray):strOf (yM s)=s:=by
 unfold strOf yM;have:(s.data.toList.map (·.toNat)).map Nat.toUInt8=s.data.toList:=by
  rw[kz];conv=>rhs;rw[<-Nh s.data.toList]
  apply rh;intro c _;simp
 rw[this]
def Vc(s:ByteArray):∀c∈yM s,c<256:=by
 intro c ae;simp only[yM,di] at ae;obtain⟨x,_,rfl⟩:=ae;exact x.toNat_lt
def yQ{α β:Type}{f:α->Option β}:∀ {l:List α} {a4:List β},mapOL f l=some a4->a4.length=l.length/\∀i (h:i<l.length) (h':i<a4.length),f (l[i])=some (a4[i])
 |[],a4,h=>by simp[mapOL] at h;subst h;simp
 |x::xs,a4,h=>by
  rw[mapOL] at h;split at h
  ·rename_i y dv hx ed;cases h;obtain⟨h1,h2⟩:=yQ ed;refine⟨by simp[h1],λi hi du=>?_⟩;cases i with
   |zero=>simpa using hx
   |succ i=>simpa using h2 i (by simpa using hi) (by simpa using du)
  ·cases h
section
variable {P:Program}{w:World}{m:Nat->Option Nat}{O:Nat->Prop}{B:Nat}
def NF{v:Value}{x:AV}(h:ofLeaf v=some x):conf none x=true:=by
 unfold Lyc.ofLeaf at h;split at h<;>cases h<;>rfl
def az.ofLeaf{v:Value}{x:AV}(h:ofLeaf v=some x):az w m O B x v:=by
 unfold Lyc.ofLeaf at h;split at h<;>cases h
 ·exact .b _
 ·exact .i _ _
 ·rename_i s;have:=az.s (w:=w) (m:=m) (O:=O) (B:=B) (yM s) (Vc s);rwa[Vb] at this
 ·exact .qm
 ·exact .aj
 ·exact .ru
 ·exact .gp
 ·exact .eC
def az.ofValue{v:Value}{x:AV}(h:ofValue v=some x):az w m O B x v:=by
 unfold Lyc.ofValue at h;split at h
 ·split at h
  ·rename_i l fr hx;cases h;obtain⟨h1,h2⟩:=yQ hx;refine .ad (by rw[<-sS];exact h1.symm) (λi hi du=>?_) (λx hx=>?_)
   ·have:=h2 i (by rw[sS];exact du) hi;exact az.ofLeaf (by simpa using this)
   ·obtain⟨i,hi,rfl⟩:=lF hx;exact NF (h2 i U hi)
  ·cases h
 ·split at h
  ·rename_i hx;cases h;exact .it (az.ofLeaf hx)
  ·cases h
 ·exact az.ofLeaf h
def bF.get{l:List AV}{a8:List Value}(h:bF w m O B l a8){i:Nat}{v:AV}(au:l[i]? =some v):∃u,a8[i]? =some u/\az w m O B v u:=by
 obtain⟨hi,rfl⟩:=lG.1 au;have du:i<a8.length:=by rw[h.1];exact hi
 exact⟨a8[i],eS du,h.2 i hi du⟩
def bF.nil:bF w m O B [] []:=⟨rfl,λi h=>by simp at h⟩
def bF.cons{x:AV}{u:Value}{l:List AV}{a8:List Value}(h:az w m O B x u)(ao:bF w m O B l a8):bF w m O B (x::l) (u::a8):=
 ⟨by simp[ao.1],λi h1 h2=>by
  cases i with
  |zero=>exact h
  |succ i=>exact ao.2 i (by simpa using h1) (by simpa using h2)⟩
def bF.append{l bq:List AV}{a8 s6:List Value}(h:bF w m O B l a8)(h':bF w m O B bq s6):bF w m O B (l++bq) (a8++s6):=by
 refine⟨by simp[h.1,h'.1],λi h1 h2=>?_⟩;by_cases hi:i<l.length
 ·rw[HY hi,HY (by rw[h.1];exact hi)];exact h.2 i hi _
 ·rw[HZ U,HZ (by rw[h.1];omega)];have:i-a8.length=i-l.length:=by rw[h.1]
  simp only[this];exact h'.2 _ _ (by have:=h'.1;have:=h.1;simp at h1 h2;omega)
def bF.drop{l:List AV}{a8:List Value}(h:bF w m O B l a8)(k:Nat):bF w m O B (l.drop k) (a8.drop k):=
 ⟨by simp[h.1],λi h1 h2=>by rw[Ni,Ni];exact h.2 _ (by simp at h1;omega) (by simp at h2;omega)⟩
def bF.take{l:List AV}{a8:List Value}(h:bF w m O B l a8)(k:Nat):bF w m O B (l.take k) (a8.take k):=
 ⟨by simp[h.1],λi h1 h2=>by rw[Dl,Dl];exact h.2 _ (by simp at h1;omega) (by simp at h2;omega)⟩
def az.yR{l:List AV}{a8:List Value}(h:bF w m O B l a8)(hf:∀x∈l,conf none x=true):az w m O B (.ad l) (.agg a8.toArray):=
 .ad (by simp[h.1]) (λi h1 h2=>by simpa using h.2 i h1 (by simpa using h2)) hf
def az.qo{l:List AV}{u:Value}(h:az w m O B (.ad l) u):∃a8:Array Value,u= .agg a8/\bF w m O B l a8.toList/\∀x∈l,conf none x=true:=by
 cases h with
 |ad ak al hf=>exact⟨_,rfl,⟨by simpa using ak,λi h1 h2=>by simpa using al i h1 (by simpa using h2)⟩,hf⟩
def az.NG{l:List AV}{u:Value}(h:az w m O B (.a6 l) u):∃a8:Array Value,u= .tuple a8/\bF w m O B l a8.toList:=by
 cases h with
 |a6 ak al=>exact⟨_,rfl,by simpa using ak,λi h1 h2=>by simpa using al i h1 (by simpa using h2)⟩
def az.uY{l:List AV}{a8:List Value}(h:bF w m O B l a8):az w m O B (.a6 l) (.tuple a8.toArray):=
 .a6 (by simp[h.1]) (λi h1 h2=>by simpa using h.2 i h1 (by simpa using h2))
def az.undef:az w m O B c4 undef:=.a6 I (λi h=>by simp at h)
def az.cells{v:AV}{u:Value}(h:az w m O B v u):bF w m O B v.cells u.cells.toList:=by
 have h0:=h;cases h with
 |ad ak al hf=>obtain⟨a8,hu,ao,_⟩:=az.qo h0;cases hu;exact ao
 |y h=>rcases h.alt with⟨_,_,rfl⟩|⟨_,rfl⟩<;>exact bF.cons h0 bF.nil
 |eT hu h=>subst hu;exact bF.cons h0 bF.nil
 |_=>exact bF.cons h0 bF.nil
def az.Is{v:AV}{u:Value}{R:Option Nat}(h:az w m O B v u)(ae:conf R v=true):∀x∈v.cells,conf none x=true:=by
 cases h with
 |ad ak al hf=>exact hf
 |a6 ak al=>cases R<;>simp[conf] at ae
 |_=>intro x hx;simp only[AV.cells,dx] at hx;subst hx;rfl
def az.NH{v:AV}{u:Value}(h:az w m O B v u)(au:conf none v=true):u.oneCell'=true:=by
 cases h with
 |y h=>rcases h.alt with⟨_,_,rfl⟩|⟨_,rfl⟩<;>rfl
 |eT hu h=>subst hu;rfl
 |_=>first|rfl|(simp[conf] at au)
def j7{t:TypeId}{R:Option Nat}(h:shapeOf P t=some R)(w:World):
  (isAgg t).run P w= .ok R.isSome w/\(sizeOf t).run P w= .ok (shN R) w/\∃i,P.info? t=some i/\i.size=shN R:=by
 unfold shapeOf at h;split at h<;>try (cases h;done)
 ·rename_i bO i hu hi;cases h;exact⟨by simp[isAgg,run_underlying hu],by simp[sizeOf,typeInfo,hi,shN],i,hi,rfl⟩
 ·rename_i n e i hu hi;cases h;exact⟨by simp[isAgg,run_underlying hu],by simp[sizeOf,typeInfo,hi,shN],i,hi,rfl⟩
 ·rename_i d i h1 h2 hu hi;split at h
  ·rename_i ak;cases h;refine⟨?_,by simp[sizeOf,typeInfo,hi,shN,ak],i,hi,by simp[shN,ak]⟩;simp only[isAgg,er,run_underlying hu,ez];cases d<;>first|rfl|(exfalso;first|exact h1 _ rfl|exact h2 _ _ I)
  ·cases h
def j8(b o k:Nat):(⟨b,o,none⟩:Addr).add k=⟨b,o+k,none⟩:=by
 unfold Addr.add;split
 ·rename_i h;subst h;rfl
 ·rfl
def It{c:List AV}{v:AV}(h:dB none c=some v):∃r,c=v::r:=by
 cases c with
 |nil=>simp[dB] at h
 |cons x r=>simp[dB] at h;subst h;exact⟨r,rfl⟩
def Iu{n:Nat}{c:List AV}{v:AV}(h:dB (some n) c=some v):v= .ad (c.take n)/\n<=c.length:=by
 simp only[dB] at h;split at h
 ·rename_i ao;cases h;refine⟨rfl,?_⟩;rw[gM] at ao;omega
 ·cases h
def Vd{t:TypeId}{R:Option Nat}(gF:shapeOf P t=some R){b off:Nat}{a8:List Value}{c:List AV}(ae:bF w m O B c a8)
  (hw:∀j,j<a8.length->w.cell? ⟨b,off+j,none⟩=a8[j]?) {v:AV} (au:dB R c=some v) (hf:∀x∈c,conf none x=true):
  ∃u,(loadVar t ⟨b,off,none⟩).run P w= .ok u w/\az w m O B v u:=by
 obtain⟨h1,h2,_⟩:=j7 gF w;cases R with
 |none=>
  obtain⟨r,rfl⟩:=It au;obtain⟨u,hu,al⟩:=ae.get (i:=0) (v:=v) I;have:=hw 0 (by rw[ae.1];simp);rw[yD,hu] at this;exact⟨u,by simp[loadVar,h1,this],al⟩
 |some n=>
  obtain⟨rfl,hn⟩:=Iu au;have hlen:(a8.take n).length=n:=by rw[gM,ae.1];omega
  have ao:=run_loadCells_list (P:=P) w ⟨b,off,none⟩ (a8.take n) (λj x hx=>by
   rw[j8];obtain⟨aG,gg⟩:=lG.1 hx;rw[hw j (by rw[gM] at aG;omega)];rw[Dl] at gg;rw[<-gg];exact eS _)
  rw[hlen] at ao;refine⟨.agg (a8.take n).toArray,by simp[loadVar,h1,h2,shN,ao],az.yR (ae.take n) (λx hx=>hf x (oo hx))⟩
end
section
variable {P:Program}{J:ag}{w:World}{m:Nat->Option Nat}{B:Nat}
def Rel.cells(al:Rel P J w m B){id aA:Nat}{c:List AV}(hm:m id=some aA)(hg:J.get id=some (.cells c)):
  ∃arr el a2,w.heap[aA]? =some (.cells arr el a2)/\bF w m (bh J m) B c (arr.toList.take c.length)/\c.length<=arr.size/\(∀i,i<arr.size->(decide (a2.1<=i)&&decide (i<a2.2))=false)/\∀x∈c,conf none x=true:=by
 obtain⟨bV,h1,h2⟩:=al.obj id aA _ hm hg I;cases h2 with
 | @cells _ arr el a2 ao hG aZ hf=>
  refine⟨arr,el,a2,h1,⟨by simp;omega,λi h3 aN=>?_⟩,ao,aZ,hf⟩;simpa using hG i h3 U
def yS{b:Nat}{arr:Array Value}{el:TypeId}{a2:Nat×Nat}(h:w.heap[b]? =some (.cells arr el a2))(i:Nat):w.cell? ⟨b,i,none⟩=arr[i]? :=by
 simp[World.cell?,h]
def Iv{b:Nat}{arr:Array Value}{el:TypeId}{a2:Nat×Nat}(h:w.heap[b]? =some (.cells arr el a2))(i:Nat):w.frozen? ⟨b,i,none⟩=(decide (a2.1<=i)&&decide (i<a2.2)):=by
 simp[World.frozen?,h]
def Ve(al:Rel P J w m B){t:TypeId}{R:Option Nat}(gF:shapeOf P t=some R){id off aA:Nat}{c:List AV}{v:AV}(hm:m id=some aA)(hg:J.get id=some (.cells c))(au:dB R (c.drop off)=some v):
  ∃u,(loadVar t ⟨aA,off,none⟩).run P w= .ok u w/\az w m (bh J m) B v u:=by
 obtain⟨arr,el,a2,h1,h2,h3,_,hf⟩:=al.cells hm hg;refine Vd gF (h2.drop off) (λj aG=>?_) au (λx hx=>hf x (nH hx));rw[yS h1];simp only[List.length_drop,gM,sS] at aG;rw[ri,sT U];simp
def a8O{O:Nat->Prop}{t:TypeId}{R:Option Nat}(gF:shapeOf P t=some R){old:Bool}{v:AV}{u:Value}(h:az w m O B (.dk old v) u)(au:conf R v=true):
  ∃a bW,u= .pointer (some a)/\(loadVar t a).run P w= .ok bW w/\az w m O B v bW:=by
 cases h with
 | @dk _ _ _ _ _ aA off a4 c9 hb eu ae hG hf=>
  have ao:bF w m O B v.cells ((List.range v.cells.length).map a4):=⟨aT,λi h1 h2=>by simpa using (hG i h1).up⟩
  have ht:dB R v.cells=some v:=by
   cases R with
   |none=>cases v<;>first|rfl|(simp[conf] at au)
   |some n=>
    cases v<;>simp[conf] at au;rename_i l;subst au;simp[dB,AV.cells]
  obtain⟨bW,h1,h2⟩:=Vd (t:=t) gF (b:=aA) (off:=off) ao (λj aG=>by
   simp only[cb,UE] at aG;rw[ae j aG];simp[aG]) ht hf
  exact⟨_,bW,rfl,h1,h2⟩
def yT{c bn:List AV}{off:Nat}{v:List AV}(h:storeCells c off v=some bn):off+v.length<=c.length/\bn=c.take off++(v++c.drop (off+v.length)):=by
 unfold Lyc.storeCells at h;split at h
 ·rename_i hb;cases h;exact⟨eb hb,rfl⟩
 ·cases h
def NI(al:Rel P J w m B){f id off aA:Nat}{c bn:List AV}{a8:List AV}{us:List Value}(hf:f<=id)(hm:m id=some aA)(hg:J.get id=some (.cells c))
  (ak:Lyc.storeCells c off a8=some bn) (kF:bF w m (bh J m) B a8 us) (pn:∀x∈a8,conf none x=true):
  ∃ax,(Go.storeCells ⟨aA,off,none⟩ us).run P w= .ok () ax/\Rel P (J.set id (.cells bn)) ax m B/\Ext f J w m (J.set id (.cells bn)) ax m:=by
 obtain⟨hle,rfl⟩:=yT ak;obtain⟨arr,el,a2,hh,ae,oC,aZ,jj⟩:=al.cells hm hg;have hlen:us.length=a8.length:=kF.1;have h1:∀u∈us,u.oneCell'=true:=λu hu=>by
  obtain⟨i,hi,rfl⟩:=lF hu;exact(kF.2 i U hi).NH (pn _ (c3 _))
 have b5:=run_storeCells_cells (P:=P) aA off us 0 w
  (λj aG=>by rw[yS hh,pb U];rfl)
  (λj aG=>by rw[Iv hh];exact aZ _ U) h1
 obtain⟨lf,l0,uZ,u0⟩:=Iq us w aA (off+0);have s7:=Ip us w aA (off+0) arr el a2 hh;refine⟨_,b5,al.cY hf hm ⟨_,hg,rfl⟩ _ (.cells _) lf (λb hb=>heap_setCells_other us w aA _ b hb) ?_ l0 uZ u0 (λ_=>⟨_,s7,?_⟩)⟩
 ·intro n hn;unfold dO at hn ⊢;rw[hh] at hn;rw[s7];simpa [s5] using hn
 ·have fG:∀i,(wr arr (off+0) us)[i]? =if off<=i/\i<off+us.length then us[i-off]? else arr[i]? :=λi=>by
   have:=Bc us arr (off+0) i U;simpa using this
  have qp:(c.take off++(a8++c.drop (off+a8.length))).length=c.length:=by simp;omega
  refine .cells (by rw[s5,qp];exact oC) (λi h h'=>?_) (by rw[s5];exact aZ) (λx hx=>by
    rcases gN.1 hx with hx|hx
    ·exact jj x (oo hx)
    ·rcases gN.1 hx with hx|hx
     ·exact pn x hx
     ·exact jj x (nH hx))
  rw[qp] at h;have hi:=fG i;rw[pb h'] at hi;have hL:(c.take off++(a8++c.drop (off+a8.length)))[i]? =if off<=i/\i<off+us.length then a8[i-off]? else c[i]? :=by
   rw[yE];simp only[gM];by_cases bY:i<off
   ·rw[if_pos U,if_neg U,sT bY]
   ·rw[if_neg U,yE];by_cases cf:i-min off c.length<a8.length
    ·rw[if_pos cf,if_pos U,show min off c.length=off by omega]
    ·rw[if_neg cf,if_neg U,ri]
     congr 1;omega
  have rz:(c.take off++(a8++c.drop (off+a8.length)))[i]? =some ((c.take off++(a8++c.drop (off+a8.length)))[i]'(by rw[qp];exact h)):=eS _;rw[hL] at rz;by_cases gh:off<=i/\i<off+us.length
  ·rw[if_pos gh] at rz hi;obtain⟨u,hu,h7⟩:=kF.get rz;rw[hu] at hi;cases hi;exact h7
  ·rw[if_neg gh] at rz hi;obtain⟨u,hu,h7⟩:=ae.get rz;rw[sT h] at hu;have:arr[i]? =some u:=by simpa using hu
   rw[this] at hi;cases hi;exact h7
def Rel.hc(al:Rel P J w m B){id aA r:Nat}{c:List AV}(hm:m id=some aA)(hg:J.get id=some (.hc c r)):
  ∃arr el a2,w.heap[aA]? =some (.cells arr el a2)/\bF w m (bh J m) B c (arr.toList.take c.length)/\c.length+r<=arr.size/\(∀i,i<arr.size->(decide (a2.1<=i)&&decide (i<a2.2))=false)/\∀x∈c,conf none x=true:=by
 obtain⟨bV,h1,h2⟩:=al.obj id aA _ hm hg I;cases h2 with
 | @hc _ _ arr el a2 ao hG aZ hf=>
  refine⟨arr,el,a2,h1,⟨by simp;omega,λi h3 aN=>?_⟩,ao,aZ,hf⟩;simpa using hG i h3 U
def a8P{O:Nat->Prop}{c bn:List AV}{off:Nat}{a8:List AV}{us:List Value}{arr:Array Value}(ae:bF w m O B c (arr.toList.take c.length))(oC:c.length<=arr.size)(ak:Lyc.storeCells c off a8=some bn)(kF:bF w m O B a8 us):
  bn.length=c.length/\∀i (h:i<bn.length) (h':i<(wr arr (off+0) us).size),az w m O B (bn[i]) ((wr arr (off+0) us)[i]):=by
 obtain⟨hle,rfl⟩:=yT ak;have hlen:us.length=a8.length:=kF.1;have fG:∀i,(wr arr (off+0) us)[i]? =if off<=i/\i<off+us.length then us[i-off]? else arr[i]? :=λi=>by
  have:=Bc us arr (off+0) i U;simpa using this
 have qp:(c.take off++(a8++c.drop (off+a8.length))).length=c.length:=by simp;omega
 refine⟨qp,λi h h'=>?_⟩;rw[qp] at h;have hi:=fG i;rw[pb h'] at hi;have hL:(c.take off++(a8++c.drop (off+a8.length)))[i]? =if off<=i/\i<off+us.length then a8[i-off]? else c[i]? :=by
  rw[yE];simp only[gM];by_cases bY:i<off
  ·rw[if_pos U,if_neg U,sT bY]
  ·rw[if_neg U,yE];by_cases cf:i-min off c.length<a8.length
   ·rw[if_pos cf,if_pos U,show min off c.length=off by omega]
   ·rw[if_neg cf,if_neg U,ri]
    congr 1;omega
 have rz:(c.take off++(a8++c.drop (off+a8.length)))[i]? =some ((c.take off++(a8++c.drop (off+a8.length)))[i]'(by rw[qp];exact h)):=eS _;rw[hL] at rz;by_cases gh:off<=i/\i<off+us.length
 ·rw[if_pos gh] at rz hi;obtain⟨u,hu,h7⟩:=kF.get rz;rw[hu] at hi;cases hi;exact h7
 ·rw[if_neg gh] at rz hi;obtain⟨u,hu,h7⟩:=ae.get rz;rw[sT h] at hu;have:arr[i]? =some u:=by simpa using hu
  rw[this] at hi;cases hi;exact h7
def a8Q(al:Rel P J w m B){f id off aA r:Nat}{c bn:List AV}{a8:List AV}{us:List Value}(hf:f<=id)(hm:m id=some aA)(hg:J.get id=some (.hc c r))
  (ak:(cond (Nat.ble c.length off&&Nat.ble (off+a8.length) (c.length+r)) (some c) (Lyc.storeCells c off a8))=some bn) (kF:bF w m (bh J m) B a8 us) (pn:∀x∈a8,conf none x=true):
  ∃ax,(Go.storeCells ⟨aA,off,none⟩ us).run P w= .ok () ax/\Rel P (J.set id (.hc bn r)) ax m B/\Ext f J w m (J.set id (.hc bn r)) ax m:=by
 obtain⟨arr,el,a2,hh,ae,oC,aZ,jj⟩:=al.hc hm hg;have hlen:us.length=a8.length:=kF.1;have key:off+a8.length<=arr.size/\bn.length=c.length/\(∀x∈bn,conf none x=true)/\∀i (h:i<bn.length) (h':i<(wr arr (off+0) us).size),az w m (bh J m) B (bn[i]) ((wr arr (off+0) us)[i]):=by
  cases aP:(Nat.ble c.length off&&Nat.ble (off+a8.length) (c.length+r)) with
  |true=>
   rw[aP,cond_true] at ak;cases ak;simp only[c7] at aP;have iB:=eb aP.1;have gO:=eb aP.2;refine⟨U,rfl,jj,λi h h'=>?_⟩;have hi:=Bc us arr (off+0) i U;rw[pb h',if_neg U] at hi;obtain⟨u,hu,h7⟩:=ae.get (eS h);rw[sT h] at hu;have:arr[i]? =some u:=by simpa using hu
   rw[this] at hi;cases hi;exact h7
  |false=>
   rw[aP,cond_false] at ak;obtain⟨h1,h2⟩:=a8P ae U ak kF;obtain⟨hle,rfl⟩:=yT ak;refine⟨U,h1,λx hx=>?_,h2⟩;rcases gN.1 hx with hx|hx
   ·exact jj x (oo hx)
   ·rcases gN.1 hx with hx|hx
    ·exact pn x hx
    ·exact jj x (nH hx)
 obtain⟨hle,j9,a8R,hR⟩:=key;have h1:∀u∈us,u.oneCell'=true:=λu hu=>by
  obtain⟨i,hi,rfl⟩:=lF hu;exact(kF.2 i U hi).NH (pn _ (c3 _))
 have b5:=run_storeCells_cells (P:=P) aA off us 0 w
  (λj aG=>by rw[yS hh,pb U];rfl)
  (λj aG=>by rw[Iv hh];exact aZ _ U) h1
 obtain⟨lf,l0,uZ,u0⟩:=Iq us w aA (off+0);have s7:=Ip us w aA (off+0) arr el a2 hh;refine⟨_,b5,al.cY hf hm ⟨_,hg,rfl⟩ _ (.hc _ _) lf (λb hb=>heap_setCells_other us w aA _ b hb) ?_ l0 uZ u0 (λ_=>⟨_,s7,?_⟩)⟩
 ·intro n hn;unfold dO at hn ⊢;rw[hh] at hn;rw[s7];simpa [s5] using hn
 ·exact .hc (by rw[s5,j9];exact oC) hR (by rw[s5];exact aZ) a8R
end
def fc(P:Program)(B f:Nat)(J:ag)(w:World)(m:Nat->Option Nat)(v:AV)(af:ag)(r:Result Next):Prop:=
 ∃u ax aK,(r= .ok (.value u) ax\/(r= .ok .skip ax/\u=undef))/\az ax aK (bh af aK) B v u/\Rel P af ax aK B/\Ext f J w m af ax aK
section
variable {P:Program}{J:ag}{w:World}{m:Nat->Option Nat}{B:Nat}{f:Nat}
def fc.pure{v:AV}{u:Value}{r:Result Next}(al:Rel P J w m B)(h:r= .ok (.value u) w)(au:az w m (bh J m) B v u):fc P B f J w m v J r:=
 ⟨u,w,m,.inl h,au,al,Ext.refl _ _ _ _⟩
def Globs(env:Env)(w:World)(B:Nat):Prop:=
 ∀g v,env.mA g=some v->∀ej,az w (λ_=>none) (λb=>B<=b) ej (.dk true v) (.pointer (some ⟨g,0,none⟩))
def Globs.get{env:Env}{O:Nat->Prop}(h:Globs env w B)(c9:∀b,O b->B<=b){g:Nat}{v:AV}(hg:env.mA g=some v):az w m O B (.dk true v) (.pointer (some ⟨g,0,none⟩)):=
 (h g v hg B).mono (λ_ _ h=>by cases h) (b6 _) (λ_ _ h=>h) (λb _ hb=>⟨rfl,λho=>hb (c9 b ho)⟩)
def NJ{env:Env}{O:Nat->Prop}(c9:∀b,O b->B<=b)(cc:Globs env w B){aq:aY AV}{a:Act}(ak:iR w m O B aq a.tmps.toList){x:Operand}{bI:aH}(hx:opdOf x=some bI){v:AV}(au:evalA env aq bI=some v):
  az w m O B v (a.eval x):=by
 cases x with
 |tmp t=>
  cases hx;obtain⟨u,hu,al⟩:=ak.1 t v au;have:a.eval (.tmp t)=u:=by
   simp only[Act.eval];rw[mr] at hu;simp[hu]
  rw[this];exact al
 |const c=>
  simp only[opdOf] at hx;split at hx<;>cases hx;rename_i a_ ae;simp only[evalA,cw] at au;subst au;exact az.ofValue ae
 |func g=>
  cases hx;simp only[evalA,cw] at au;subst au;exact .na I (λi h=>by simp at h) I (λi h=>by simp at h)
 |_=>
  cases hx;simp only[evalA] at au;split at au<;>cases au;rename_i a_ hg;exact cc.get c9 hg
def DE{env:Env}{O:Nat->Prop}(c9:∀b,O b->B<=b)(cc:Globs env w B){aq:aY AV}{a:Act}(ak:iR w m O B aq a.tmps.toList){xs:List Operand}{bI:List aH}(hx:yN xs=some bI){a8:List AV}(au:mapO (evalA env aq) bI=some a8):
  bF w m O B a8 (xs.map a.eval):=by
 obtain⟨h1,h2⟩:=yQ hx;obtain⟨h3,aN⟩:=nJ au;refine⟨by simp[h1,h3],λi hi du=>?_⟩;simp only[ic];have wS:i<bI.length:=by omega
 have a8S:i<xs.length:=by omega
 exact NJ c9 cc ak (h2 i a8S wS) (aN i wS hi)
def a8T(al:Rel P J w m B){t:TypeId}{R:Option Nat}(gF:shapeOf P t=some R){yU v:AV}{u:Value}(ay:az w m (bh J m) B yU u)
  (h:sY J R yU=some v):∃bW,(Instr.loadAt t u).run P w= .ok bW w/\az w m (bh J m) B v bW:=by
 unfold sY at h;cases ay with
 | @p _ _ _ id aA off hm=>
  simp only at h;cases hg:J.get id with
  |none=>simp[hg] at h
  |some o=>
   cases o<;>simp only[hg] at h<;>try (cases h;done)
   obtain⟨bW,h1,h2⟩:=Ve al gF hm hg h;exact⟨bW,by simp[Instr.loadAt,Instr.sureAddr,h1],h2⟩
 |dk a4 c9 hb eu ae hG hf=>
  simp only at h;split at h
  ·rename_i au;cases h;obtain⟨a,bW,ha,h1,h2⟩:=a8O (O:=bh J m) gF (.dk a4 c9 hb eu ae hG hf) au;cases ha;exact⟨bW,by simp[Instr.loadAt,Instr.sureAddr,h1],h2⟩
  ·cases h
 |_=>simp at h
def Vf{R:Option Nat}{v:AV}{u:Value}{O:Nat->Prop}(au:az w m O B v u)(ae:conf R v=true):u.cells.size=shN R/\v.cells.length=shN R:=by
 have h:=au.cells.1;cases R with
 |none=>cases v<;>simp[conf,AV.cells,shN] at ae h ⊢ <;>exact h
 |some n=>cases v<;>simp[conf,AV.cells,shN] at ae h ⊢;omega
def a8U(al:Rel P J w m B){t:TypeId}{R:Option Nat}(gF:shapeOf P t=some R){id off aA:Nat}{c bn:List AV}{x:AV}{u:Value}(hf:f<=id)(hm:m id=some aA)(hg:J.get id=some (.cells c))(ae:conf R x=true)
  (ak:Lyc.storeCells c off x.cells=some bn) (hx:az w m (bh J m) B x u):
  ∃ax,(Instr.storeAt t (.pointer (some ⟨aA,off,none⟩)) u).run P w= .ok () ax/\Rel P (J.set id (.cells bn)) ax m B/\Ext f J w m (J.set id (.cells bn)) ax m:=by
 obtain⟨ax,h2,h3,aN⟩:=NI al hf hm hg ak hx.cells (hx.Is ae);obtain⟨_,cj,_⟩:=j7 gF w;refine⟨ax,?_,h3,aN⟩;simp only[Instr.storeAt,Instr.sureAddr,er,hB,ez,storeVar,cj,(Vf hx ae).1,ne_eq,not_true_eq_false,if_false];exact h2
def a8V(al:Rel P J w m B){t:TypeId}{R:Option Nat}(gF:shapeOf P t=some R){id off aA r:Nat}{c bn:List AV}{x:AV}{u:Value}(hf:f<=id)(hm:m id=some aA)(hg:J.get id=some (.hc c r))(ae:conf R x=true)
  (ak:(cond (Nat.ble c.length off&&Nat.ble (off+x.cells.length) (c.length+r)) (some c) (Lyc.storeCells c off x.cells))=some bn) (hx:az w m (bh J m) B x u):
  ∃ax,(Instr.storeAt t (.pointer (some ⟨aA,off,none⟩)) u).run P w= .ok () ax/\Rel P (J.set id (.hc bn r)) ax m B/\Ext f J w m (J.set id (.hc bn r)) ax m:=by
 obtain⟨ax,h2,h3,aN⟩:=a8Q al hf hm hg ak hx.cells (hx.Is ae);obtain⟨_,cj,_⟩:=j7 gF w;refine⟨ax,?_,h3,aN⟩;simp only[Instr.storeAt,Instr.sureAddr,er,hB,ez,storeVar,cj,(Vf hx ae).1,ne_eq,not_true_eq_false,if_false];exact h2
def Iw(al:Rel P J w m B)(f:Nat){el:TypeId}{c:List AV}{cs:Array Value}(ae:bF w m (bh J m) B c cs.toList)(hf:∀x∈c,conf none x=true):
  ∃ax aK,(newRow el cs).run P w= .ok ⟨w.heap.size,0,none⟩ ax/\aK J.next=some w.heap.size/\ax.heap[w.heap.size]? =some (.cells cs el (0,0))/\Rel P (J.push (.cells c)) ax aK B/\Ext f J w m (J.push (.cells c)) ax aK:=by
 obtain⟨h1,h2⟩:=al.alloc f {w with heap:=w.heap.push (.cells cs el)} (.cells c) (.cells cs el) I I I I I
  (.cells (by have:=ae.1;simp at this;omega) (λi h h'=>by have:=ae.2 i h (by simpa using h');simpa using this) (λi _=>by simp) hf)
 exact⟨_,_,by simp[newRow],hF _ _ _,aT,h1,h2⟩
def a8W(al:Rel P J w m B){el:TypeId}{x:AV}{u:Value}(hx:az w m (bh J m) B x u)(hf:∀y∈x.cells,conf none y=true):
  ∃bW ax aK,(Instr.box el u).run P w= .ok bW ax/\az ax aK (bh (J.push (.cells x.cells)) aK) B (jL J.next 0) bW/\Rel P (J.push (.cells x.cells)) ax aK B/\Ext f J w m (J.push (.cells x.cells)) ax aK:=by
 obtain⟨ax,aK,h1,h2,_,h3,aN⟩:=Iw al f (el:=el) hx.cells hf;exact⟨_,ax,aK,by simp[Instr.box,newVar,h1],.p h2,h3,aN⟩
def a8X{v:Value}{x:AV}(h:ofValue v=some x):∀y∈x.cells,conf none y=true:=by
 unfold Lyc.ofValue at h;split at h
 ·split at h
  ·rename_i l fr hx;cases h;intro y aI;obtain⟨i,hi,rfl⟩:=lF aI;exact NF ((yQ hx).2 i (by have:=(yQ hx).1;simp only[AV.cells] at hi;omega) hi)
  ·cases h
 ·split at h
  ·cases h;intro y aI;simp only[AV.cells,dx] at aI;subst aI;rfl
  ·cases h
 ·have ae:=NF h;cases x<;>first|(intro y aI;simp only[AV.cells,dx] at aI;subst aI;exact ae)|(simp[conf] at ae)
def rA{t:TypeId}{z:AV}(h:zeroOf P t=some z)(w:World):∃u,(zeroValue t).run P w= .ok u w/\(∀w m O B,az w m O B z u)/\∀y∈z.cells,conf none y=true:=by
 unfold zeroOf at h;split at h<;>try (cases h;done)
 rename_i i hi;split at h<;>try (cases h;done)
 rename_i v au;exact⟨v,by simp[zeroValue,typeInfo,hi,au],λw m O B=>az.ofValue h,a8X h⟩
def a8Y(al:Rel P J w m B){t:TypeId}{z:AV}(aZ:zeroOf P t=some z):
  ∃bW ax aK,(Instr.alloc t true (.tuple #[])).run P w= .ok bW ax/\az ax aK (bh (J.push (.cells z.cells)) aK) B (jL J.next 0) bW/\Rel P (J.push (.cells z.cells)) ax aK B/\Ext f J w m (J.push (.cells z.cells)) ax aK:=by
 obtain⟨u,h1,h2,hf⟩:=rA aZ w;obtain⟨ax,aK,h3,aN,_,bY,cf⟩:=Iw al f (el:=t) (h2 w m (bh J m) B).cells hf;exact⟨_,ax,aK,by simp[Instr.alloc,h1,newVar,h3],.p aN,bY,cf⟩
def Vg(k:IntKind)(n:Int):wrapN k n=k.wrap n:=by
 unfold wrapN;split
 ·rename_i x;cases h:Nat.blt x 9223372036854775808 with
  |false=>rfl
  |true=>
   have hx:x<9223372036854775808:=by simpa [gD] using h
   show Int.ofNat x=IntKind.i64.wrap (Int.ofNat x);have:(Int.ofNat x:Int)=(x:Int):=rfl;rw[this];have e:(x:Int)%2^64=x:=Nj U U;simp only[IntKind.wrap,IntKind.bits,IntKind.signed,e];rw[if_neg (by simp;omega)]
 ·rfl
end
section
variable {P:Program}{w:World}{m:Nat->Option Nat}{O:Nat->Prop}{B:Nat}
def DF{v:AV}{n:Nat}(h:natOf v=some n):∃k,v= .i k (Int.ofNat n):=by
 unfold natOf at h;split at h<;>cases h;exact⟨_,rfl⟩
def Vh{a b:Nat}(ha:a<256)(hb:b<256)(h:a.toUInt8=b.toUInt8):a=b:=by
 have:=congrArg UInt8.toNat h;simp at this;omega
def Vi{a b:Nat}(ha:a<256)(hb:b<256):a.toUInt8<b.toUInt8↔a<b:=by
 rw[UF];simp;omega
def Vj(l:List Nat):(strOf l).data.toList=l.map Nat.toUInt8:=by simp[strOf]
def Be(l:List Nat):(strOf l).toList=l.map Nat.toUInt8:=by
 rw[Go.ByteArray.toList_eq,Vj]
def wT(l:List Nat):(strOf l).size=l.length:=by
 show(strOf l).data.size=_;simp[strOf]
def rB:∀(x y:List Nat),eqL x y=true↔x=y
 |[],[]=>by simp[eqL]
 |[],_::_=>by simp[eqL]
 |_::_,[]=>by simp[eqL]
 |a::x,b::y=>by
  show(cond (Nat.beq a b) (eqL x y) false)=true↔_;cases h:Nat.beq a b with
  |false=>
   simp only[cond_false,rj,false_iff,rk,not_and];intro e;subst e;simp[fE] at h
  |true=>
   have:a=b:=eM h;subst this;simp[rB x y]
def NK:∀(x y:List Nat),(∀c∈x,c<256)->(∀c∈y,c<256)->x.map Nat.toUInt8=y.map Nat.toUInt8->x=y
 |[],[],_,_,_=>rfl
 |[],_::_,_,_,h=>by simp at h
 |_::_,[],_,_,h=>by simp at h
 |a::x,b::y,hx,aI,h=>by
  simp only[mv,rk] at h;rw[Vh (hx a aT) (aI b aT) h.1,NK x y (λc ae=>hx c (by simp[ae])) (λc ae=>aI c (by simp[ae])) h.2]
def a8Z{x y:List Nat}(hx:∀c∈x,c<256)(aI:∀c∈y,c<256):((strOf x).toList==(strOf y).toList)=eqL x y:=by
 rw[rl,rB,beq_iff_eq,Be,Be];exact⟨NK x y hx aI,λh=>by rw[h]⟩
def Vk:∀(x y:List Nat),(∀c∈x,c<256)->(∀c∈y,c<256)->Op.bytesLess (x.map Nat.toUInt8) (y.map Nat.toUInt8)=hD x y
 |[],[],_,_=>rfl
 |[],_::_,_,_=>rfl
 |_::_,[],_,_=>rfl
 |a::x,b::y,hx,aI=>by
  have ha:=hx a aT;have hb:=aI b aT;have ar:=Vk x y (λc ae=>hx c (by simp[ae])) (λc ae=>aI c (by simp[ae]));show(decide (a.toUInt8<b.toUInt8)||(a.toUInt8==b.toUInt8&&Op.bytesLess (x.map Nat.toUInt8) (y.map Nat.toUInt8)))=cond (Nat.blt a b) true (cond (Nat.beq a b) (hD x y) false);rw[ar];by_cases h:a<b
  ·have h1:Nat.blt a b=true:=by simpa [gD] using h
   have h2:=(Vi ha hb).2 h;simp[h1,h2]
  ·have h1:Nat.blt a b=false:=by
    cases h3:Nat.blt a b
    ·rfl
    ·exact absurd (by simpa [gD] using h3) h
   have h2:¬a.toUInt8<b.toUInt8:=λaN=>h ((Vi ha hb).1 aN);by_cases he:a=b
   ·subst he;simp[h1]
   ·have aN:Nat.beq a b=false:=by
     cases bY:Nat.beq a b
     ·rfl
     ·exact absurd (eM bY) he
    have bY:¬a.toUInt8=b.toUInt8:=λcf=>he (Vh ha hb cf);simp[h1,h2,aN,bY]
def az.po{l:List Nat}{u:Value}(h:az w m O B (.s l) u):u= .string (strOf l)/\∀c∈l,c<256:=by
 cases h with
 |s _ h=>exact⟨rfl,h⟩
def az.lg{k:IntKind}{n:Int}{u:Value}(h:az w m O B (.i k n) u):u= .int k n:=by cases h;rfl
def az.wU{x:Bool}{u:Value}(h:az w m O B (.b x) u):u= .bool x:=by cases h;rfl
def az.u1{id off:Nat}{u:Value}(h:az w m O B (.p (some (id,off))) u):∃aA,m id=some aA/\u= .pointer (some ⟨aA,off,none⟩):=by
 cases h with
 |p h=>exact⟨_,h,rfl⟩
def az.Ix{id:Nat}{u:Value}(h:az w m O B (.m (some id)) u):∃aA,m id=some aA/\u= .map (some aA):=by
 cases h with
 |mp h=>exact⟨_,h,rfl⟩
def a9a(x y:List Nat):strOf x++strOf y=strOf (x++y):=by
 apply ByteArray.ext;rw[ByteArray.data_append];simp[strOf]
def Vl:∀(x y:List Nat),hD y x=false->hD x y=true\/eqL x y=true
 |[],[],_=>.inr I
 |[],_::_,_=>.inl I
 |_::_,[],h=>by simp[hD] at h
 |a::x,b::y,h=>by
  have h':cond (Nat.blt b a) true (cond (Nat.beq b a) (hD y x) false)=false:=h;show cond (Nat.blt a b) true (cond (Nat.beq a b) (hD x y) false)=true\/cond (Nat.beq a b) (eqL x y) false=true;have a9b:¬b<a:=λh1=>by
   have:Nat.blt b a=true:=by simpa [gD] using h1
   simp[this] at h'
  have DG:Nat.blt b a=false:=by
   cases h3:Nat.blt b a
   ·rfl
   ·exact absurd (by simpa [gD] using h3) a9b
  rw[DG] at h';by_cases he:a=b
  ·subst he;simp only[fE,cond_true,cond_false] at h' ⊢;rcases Vl x y h' with h1|h1
   ·left;rw[h1];simp
   ·right;exact h1
  ·left;have:Nat.blt a b=true:=by simp[gD];omega
   rw[this];rfl
def Vm:∀(x y:List Nat),hD x y=true->hD y x=false/\eqL x y=false
 |[],[],h=>by simp[hD] at h
 |[],_::_,_=>⟨rfl,rfl⟩
 |_::_,[],h=>by simp[hD] at h
 |a::x,b::y,h=>by
  have h':cond (Nat.blt a b) true (cond (Nat.beq a b) (hD x y) false)=true:=h;show cond (Nat.blt b a) true (cond (Nat.beq b a) (hD y x) false)=false/\cond (Nat.beq a b) (eqL x y) false=false;by_cases ao:a<b
  ·have h1:Nat.blt b a=false:=by
    cases h3:Nat.blt b a
    ·rfl
    ·have:b<a:=by simpa [gD] using h3
     omega
   have h2:Nat.beq b a=false:=by
    cases h3:Nat.beq b a
    ·rfl
    ·have:=eM h3;omega
   have aN:Nat.beq a b=false:=by
    cases h3:Nat.beq a b
    ·rfl
    ·have:=eM h3;omega
   simp[h1,h2,aN]
  ·have h1:Nat.blt a b=false:=by
    cases h3:Nat.blt a b
    ·rfl
    ·exact absurd (by simpa [gD] using h3) ao
   rw[h1] at h';cases h2:Nat.beq a b with
   |false=>rw[h2] at h';simp at h'
   |true=>
    rw[h2] at h';have:=eM h2;subst this;simp only[cond_false,cond_true] at h';obtain⟨h3,aN⟩:=Vm x y h';simp[h1,fE,h3,aN]
def Vn(a:List Nat):∀(ex:List (List Nat)),qj a ex=true->a∈ex
 |[],h=>by cases h
 |x::ex,h=>by
  have h:cond (eqL a x) true (qj a ex)=true:=h;cases hx:eqL a x with
  |true=>rw[(rB a x).1 hx];exact oq
  |false=>rw[hx] at h;exact fP _ (Vn a ex h)
def Iy{ex:List (List Nat)}{a:List Nat}{u:Value}(h:az w m O B (.hC ex) u)(hm:qj a ex=true):∃s:ByteArray,u= .string s/\s≠strOf a:=by
 cases h with
 |hC h=>exact⟨_,rfl,h a (Vn a ex hm)⟩
def Vo{a b:ByteArray}(h:a≠b):¬a.toList=b.toList:=λe=>h (by
 rw[UG,UG] at e;cases a;cases b;simp only[ByteArray.mk.injEq];exact m6 e)
def Vp{a b:ByteArray}(h:a≠b):(a==b)=false:=by
 cases hb:a==b with
 |false=>rfl
 |true=>exact absurd ((UH _ _).1 hb) h
def Vq{k:IntKind}(aC:k= .u8\/k= .i64){n:Nat}(h:n<256):k.wrap (Int.ofNat n)=Int.ofNat n:=by
 rcases aC with rfl|rfl
 ·have:(Int.ofNat n)%2^8=Int.ofNat n:=Nj (Dm _) (by show((n:Nat):Int)<2^8;omega);simp only[IntKind.wrap,IntKind.bits,IntKind.signed,this];simp
 ·have:(Int.ofNat n)%2^64=Int.ofNat n:=Nj (Dm _) (by show((n:Nat):Int)<2^64;omega);have h2:¬(2^63:Int)<=(Int.ofNat n):=by show ¬(2^63:Int)<=((n:Nat):Int);omega
  simp only[IntKind.wrap,IntKind.bits,IntKind.signed,this];simp at h2 ⊢;omega
def Iz{op:BinOp}{t:TypeId}{x y v:AV}{a b:Value}(ha:az w m O B x a)(hb:az w m O B y b)(h:binop op x y=some v)(a9c:∀hi,x≠ .iz hi)(u2:∀bX hi,x≠ .fF bX hi)(rC:∀bX hi,y≠ .fF bX hi):
  ∃u,(do eqGuard op t (.tmp 0) (.tmp 0) a b;Go.binOp op t a b:Sem Value).run P w= .ok u w/\az w m O B v u/\∀fr gw,(do eqGuard op t fr gw a b;Go.binOp op t a b:Sem Value)=(do eqGuard op t (.tmp 0) (.tmp 0) a b;Go.binOp op t a b:Sem Value):=by
 unfold binop at h;split at h
 ·rename_i k n l q;obtain rfl:=ha.lg;obtain rfl:=hb.lg;have hg:∀fr gw,eqGuard op t fr gw (.int k n) (.int l q)=pure ():=λfr gw=>by unfold eqGuard;cases op<;>rfl
  simp only[hg];refine(λ⟨u,h1,h2⟩=>⟨u,h1,h2,λ_ _=>trivial⟩:(∃u,(do pure ();Go.binOp op t (.int k n) (.int l q):Sem Value).run P w= .ok u w/\az w m O B v u)->_) ?_;split at h
  ·split at h<;>cases h;rename_i aP;exact⟨_,by simp[Go.binOp,Op.shift,aP],.i _ _⟩
  ·split at h<;>cases h;rename_i aP;exact⟨_,by simp[Go.binOp,Op.shift,aP],.i _ _⟩
  ·rename_i h1 h2;split at h
   ·rename_i yV;subst yV;have iC:(n==q)=decide (n=q):=by rw[rl];simp
    have IA:(n != q)= !decide (n=q):=by rw[rl];simp
    cases op<;>first
     |exact absurd I h1
     |exact absurd I h2
     |(
       simp only[binI] at h
       first
       |(
         cases h
         first
         |(refine⟨_,?_,az.i _ _⟩;simp[Go.binOp,Op.intArith,Vg];done)
         |(refine⟨_,?_,az.b _⟩;simp[Go.binOp,Op.intCmp,iC,IA];done)
         |(refine⟨_,?_,az.b _⟩;simp only[Go.binOp,Op.intCmp,ne_eq,not_true_eq_false,if_false,er,hB,ez];congr 2;rw[rl];simp;done))
       |(split at h<;>cases h;rename_i aP;refine⟨_,?_,az.i _ _⟩;simp[Go.binOp,Op.intDiv,aP];done)
       |(unfold UQ at h;dsimp only at h;cases h;refine⟨_,?_,az.i _ _⟩;simp[Go.binOp,Op.intBits];done))
   ·cases h
 ·rename_i s1 s2;obtain⟨rfl,h1⟩:=ha.po;obtain⟨rfl,h2⟩:=hb.po;have hg:∀fr gw,eqGuard op t fr gw (.string (strOf s1)) (.string (strOf s2))=pure ():=λfr gw=>by unfold eqGuard;cases op<;>rfl
  simp only[hg];refine(λ⟨u,h1,h2⟩=>⟨u,h1,h2,λ_ _=>trivial⟩:(∃u,(do pure ();Go.binOp op t (.string (strOf s1)) (.string (strOf s2)):Sem Value).run P w= .ok u w/\az w m O B v u)->_) ?_;have aF:=a8Z h1 h2;have aV:Op.bytesLess (strOf s1).toList (strOf s2).toList=hD s1 s2:=by rw[Be,Be];exact Vk s1 s2 h1 h2
  have dp:(hD s1 s2||eqL s1 s2)= !hD s2 s1:=by
   cases h3:hD s2 s1 with
   |true=>
    have:=Vm s2 s1 h3;have bY:eqL s1 s2=false:=by
     cases cf:eqL s1 s2 with
     |false=>rfl
     |true=>
      have:=(rB s1 s2).1 cf;subst this;exact absurd ((rB s1 s1).2 I) (by rw[this.2];simp)
    simp[this.1,bY]
   |false=>rcases Vl s1 s2 h3 with aN|aN<;>simp[aN]
  have jA:(!hD s1 s2&& !eqL s1 s2)=hD s2 s1:=by
   have:=congrArg Bool.not dp;simpa using this
  cases op<;>simp only[binS] at h<;>first
   |(cases h;done)
   |(
     split at h<;>cases h;rename_i cj;have c3T:s1.length+s2.length<4611686018427387904:=by simpa [gD] using cj
     refine⟨_,?_,.s _ (λc ae=>(gN.1 ae).elim (h1 c) (h2 c))⟩;simp only[Go.binOp,Op.stringOp,wT,er,hB,ez];rw[if_neg (by simp only[IntKind.max,IntKind.signed,IntKind.bits,if_true];omega),a9a];rfl)
   |(cases h;refine⟨_,?_,az.b _⟩;simp[Go.binOp,Op.stringOp,aF,aV,dp,jA];done)
 ·-- a byte of UO is known H8 it leaves
  rename_i oD d j a0 c;split at h<;>try (cases h;done)
  rename_i yV;subst yV;cases ha with
  | @e3 _ _ _ _ _ _ n hn hlt=>
  obtain rfl:=hb.lg;have hg:∀fr gw,eqGuard op t fr gw (.int oD (Int.ofNat n)) (.int oD (Int.ofNat c))=pure ():=λfr gw=>by unfold eqGuard;cases op<;>rfl
  simp only[hg];refine(λ⟨u,h1,h2⟩=>⟨u,h1,h2,λ_ _=>trivial⟩:(∃u,(do pure ();Go.binOp op t (.int oD (Int.ofNat n)) (.int oD (Int.ofNat c)):Sem Value).run P w= .ok u w/\az w m O B v u)->_) ?_;unfold umOp at h;cases ae:(Nat.blt 0 c&&(Nat.beq (d%c) 0&&(decide (oD= .u8)||decide (oD= .i64)))) with
  |false=>rw[ae] at h;cases h
  |true=>
   rw[ae,cond_true] at h;simp only[c7,qf,gD,mw,decide_eq_true_eq] at ae;obtain⟨nK,yW,a9d⟩:=ae;obtain⟨e,rfl⟩:=Nat.dvd_of_mod_eq_zero yW;have fs:(Int.ofNat c)≠0:=by intro h;have:c=0:=ot h;omega
   split at h<;>cases h
   ·refine⟨.int oD (Int.ofNat (n%c)),?_,?_⟩
    ·have aF:(Int.ofNat n).tmod (Int.ofNat c)=Int.ofNat (n%c):=rfl;simp only[Go.binOp,Op.intDiv,ne_eq,not_true_eq_false,if_false,fs,aF,er,hB,ez]
    ·rw[<-hn,Nat.mod_mul_right_mod];exact .i _ _
   ·refine⟨.int oD (Int.ofNat (n/c)),?_,?_⟩
    ·have aF:(Int.ofNat n).tdiv (Int.ofNat c)=Int.ofNat (n/c):=rfl;have h1:n/c<256:=Dn (Nk _ _) hlt;have aV:oD.wrap (Int.ofNat (n/c))=Int.ofNat (n/c):=Vq a9d h1;simp only[Go.binOp,Op.intDiv,ne_eq,not_true_eq_false,if_false,fs,aF,aV,er,hB,ez]
    ·refine .e3 ?_ (Dn (Nk _ _) hlt);rw[<-hn,Nat.mul_div_cancel_left _ U,Nat.mod_mul_right_div_self]
 ·exact absurd I (u2 _ _)
 ·exact absurd I (rC _ _)
 ·exact absurd I (a9c _)
 ·rename_i l ex;obtain⟨rfl,h1⟩:=ha.po;unfold sxEq at h;cases hm:qj l ex with
  |false=>rw[hm] at h;cases h
  |true=>
   obtain⟨s,rfl,b_⟩:=Iy hb hm;have hg:∀fr gw,eqGuard op t fr gw (.string (strOf l)) (.string s)=pure ():=λfr gw=>by unfold eqGuard;cases op<;>rfl
   simp only[hg];refine(λ⟨u,h1,h2⟩=>⟨u,h1,h2,λ_ _=>trivial⟩:(∃u,(do pure ();Go.binOp op t (.string (strOf l)) (.string s):Sem Value).run P w= .ok u w/\az w m O B v u)->_) ?_;have aF:=Vo (om b_);rw[hm,cond_true] at h;split at h<;>cases h<;>(refine⟨_,?_,az.b _⟩;simp[Go.binOp,Op.stringOp,aF];done)
 ·rename_i ex l;obtain⟨rfl,h1⟩:=hb.po;unfold sxEq at h;cases hm:qj l ex with
  |false=>rw[hm] at h;cases h
  |true=>
   obtain⟨s,rfl,b_⟩:=Iy ha hm;have hg:∀fr gw,eqGuard op t fr gw (.string s) (.string (strOf l))=pure ():=λfr gw=>by unfold eqGuard;cases op<;>rfl
   simp only[hg];refine(λ⟨u,h1,h2⟩=>⟨u,h1,h2,λ_ _=>trivial⟩:(∃u,(do pure ();Go.binOp op t (.string s) (.string (strOf l)):Sem Value).run P w= .ok u w/\az w m O B v u)->_) ?_;have aF:=Vo b_;rw[hm,cond_true] at h;split at h<;>cases h<;>(refine⟨_,?_,az.b _⟩;simp[Go.binOp,Op.stringOp,aF];done)
 ·cases h
def Vr{op:BinOp}{bX hi c k:Nat}{v:AV}(h1:bX<=k)(h2:k<=hi)(h:ivOp op bX hi c=some v):∃a_,binop op (.i .i64 (Int.ofNat k)) (.i .i64 (Int.ofNat c))=some a_/\∀ {w:World} {m:Nat->Option Nat} {O:Nat->Prop} {B:Nat} {u:Value},az w m O B a_ u->az w m O B v u:=by
 have DH:∀ {c l:Nat},Nat.blt c l=true->c<l:=λh=>eb h;have Vs:∀ {c l:Nat},Nat.ble c l=true->c<=l:=λh=>eb h;unfold ivOp at h;split at h
 ·cases aP:Nat.blt (hi+c) 4611686018427387904 with
  |false=>rw[aP] at h;cases h
  |true=>
   rw[aP,cond_true] at h;cases h;have:=DH aP;refine⟨.i .i64 (Int.ofNat (k+c)),?_,λhR=>?_⟩
   ·show some (AV.i .i64 (wrapN .i64 (Int.ofNat (k+c))))=_;have:Nat.blt (k+c) 9223372036854775808=true:=hO U;show some (AV.i .i64 (cond (Nat.blt (k+c) 9223372036854775808) _ _))=_;rw[this];rfl
   ·cases hR;exact .fF _ U U
 ·cases aP:Nat.beq c 0 with
  |false=>rw[aP] at h;cases h
  |true=>
   rw[aP,cond_true] at h;cases h;obtain rfl:=eM aP;refine⟨.i .i64 (Int.ofNat 0),?_,λh=>h⟩;rfl
 all_goals
  refine⟨v,?_,λh=>h⟩
 ·show some (AV.b (decide (Int.ofNat c<Int.ofNat k)))=_;rw[<-h];cases aP:Nat.ble hi c with
  |true=>have:=Vs aP;rw[cond_true,decide_eq_false (by simp only[uQ,Dp];omega)]
  |false=>
   rw[aP,cond_false] at h;cases mE:Nat.blt c bX with
   |true=>have:=DH mE;rw[cond_false,cond_true,decide_eq_true (by simp only[uQ,Dp];omega)]
   |false=>rw[mE] at h;cases h
 ·show some (AV.b (decide (Int.ofNat k<=Int.ofNat c)))=_;rw[<-h];cases aP:Nat.ble hi c with
  |true=>have:=Vs aP;rw[cond_true,decide_eq_true (by simp only[uQ,Int.ofNat_le];omega)]
  |false=>
   rw[aP,cond_false] at h;cases mE:Nat.blt c bX with
   |true=>have:=DH mE;rw[cond_false,cond_true,decide_eq_false (by simp only[uQ,Int.ofNat_le];omega)]
   |false=>rw[mE] at h;cases h
 ·cases aP:(Nat.blt c bX||Nat.blt hi c) with
  |false=>rw[aP] at h;cases h
  |true=>
   rw[aP,cond_true] at h;cases h;rw[qf] at aP;have b_:k≠c:=by rcases aP with h|h<;>have:=DH h<;>omega
   show some (AV.b (decide (Int.ofNat k=Int.ofNat c)))=_;rw[decide_eq_false (by intro e;exact b_ (ot e))]
 ·cases aP:(Nat.blt c bX||Nat.blt hi c) with
  |false=>rw[aP] at h;cases h
  |true=>
   rw[aP,cond_true] at h;cases h;rw[qf] at aP;have b_:k≠c:=by rcases aP with h|h<;>have:=DH h<;>omega
   show some (AV.b (!decide (Int.ofNat k=Int.ofNat c)))=_;rw[decide_eq_false (by intro e;exact b_ (ot e))];rfl
 ·cases h
def ok_bin{op:BinOp}{t:TypeId}{x y v:AV}{a b:Value}(ha:az w m O B x a)(hb:az w m O B y b)(h:binop op x y=some v):
  ∃u,(do eqGuard op t (.tmp 0) (.tmp 0) a b;Go.binOp op t a b:Sem Value).run P w= .ok u w/\az w m O B v u/\∀fr gw,(do eqGuard op t fr gw a b;Go.binOp op t a b:Sem Value)=(do eqGuard op t (.tmp 0) (.tmp 0) a b;Go.binOp op t a b:Sem Value):=by
 by_cases au:∃bX hi,x= .fF bX hi
 ·obtain⟨bX,hi,rfl⟩:=au;cases ha with
  |fF k h1 h2=>
   cases y with
   |i l c=>
    cases l with
    |i64=>
     cases c with
     |ofNat c=>
      obtain⟨a_,h3,aN⟩:=Vr h1 h2 (h:ivOp op bX hi c=some v);obtain⟨u,bY,cf,gh⟩:=Iz (P:=P) (t:=t) (.i _ _) hb h3 (λ_ h=>by cases h) (λ_ _ h=>by cases h) (λ_ _ h=>by cases h);exact⟨u,bY,aN cf,gh⟩
     |negSucc c=>cases h
    |_=>cases h
   |_=>cases h
 by_cases rC:∃bX hi,y= .fF bX hi
 ·obtain⟨bX,hi,rfl⟩:=rC;cases hb with
  |fF k h1 h2=>
   cases x with
   |i l c=>
    cases l with
    |i64=>
     cases c with
     |ofNat c=>
      cases op<;>first|(cases h;done)|skip
      replace h:ivOp .add bX hi c=some v:=h;obtain⟨a_,h3,aN⟩:=Vr h1 h2 h;have NL:binop .add (.i .i64 (Int.ofNat c)) (.i .i64 (Int.ofNat k))=some a_:=by
       rw[<-h3];show some (AV.i .i64 (wrapN .i64 (Int.ofNat c+Int.ofNat k)))=some (AV.i .i64 (wrapN .i64 (Int.ofNat k+Int.ofNat c)));rw[Int.add_comm]
      obtain⟨u,bY,cf,gh⟩:=Iz (P:=P) (t:=t) ha (.i _ _) NL (λ_ h=>by cases h) (λ_ _ h=>by cases h) (λ_ _ h=>by cases h);exact⟨u,bY,aN cf,gh⟩
     |negSucc c=>cases h
    |_=>cases h
   |_=>cases h
 by_cases hi:∃hi,x= .iz hi
 ·obtain⟨hi,rfl⟩:=hi;cases ha with
  |iz n hn=>
   refine Iz (x:=.i .i64 n) (.i _ _) hb ?_ (λ_ h=>by cases h) (λ_ _ h=>by cases h) (λ_ _ h=>rC ⟨_,_,h⟩);cases y with
   |i l c=>
    cases c with
    |ofNat c=>
     replace h:(if l= .i64/\c=40 then(match op with| .gtr=>some (AV.b hi)| .leq=>some (.b (!hi))|_=>none) else none)=some v:=h;split at h
     ·rename_i ae;obtain⟨rfl,rfl⟩:=ae;split at h<;>cases h
      ·show(if IntKind.i64=IntKind.i64 then some (AV.b (decide (Int.ofNat 40<n))) else none)=_;rw[if_pos I,hn];rfl
      ·show(if IntKind.i64=IntKind.i64 then some (AV.b (decide (n<=Int.ofNat 40))) else none)=_;rw[if_pos I,hn]
       congr 2
       by_cases Vt:(40:Int)<n
       ·rw[decide_eq_true Vt,decide_eq_false (by show ¬n<=40;omega)];rfl
       ·rw[decide_eq_false Vt,decide_eq_true (by show n<=40;omega)];rfl
     ·cases h
    |negSucc c=>cases h
   |_=>cases h
 ·exact Iz ha hb h (λh e=>hi ⟨h,e⟩) (λ_ _ h=>au ⟨_,_,h⟩) (λ_ _ h=>rC ⟨_,_,h⟩)
def a9e(d:Nat){t:TypeId}(ht:P.underlying t=some .bool)(a b:Bool):(Op.equalIn (d+1) t (.bool a) (.bool b)).run P w= .ok (a==b) w:=by
 simp[Op.equalIn,run_underlying ht]
def a9f{t:TypeId}(ht:P.underlying t=some .bool){x y:AV}{v:Bool}{a b:Value}(ha:az w m O B x a)(hb:az w m O B y b)(h:binopB x y=some v)(fr gw:Operand):
  (do eqGuard .eql t fr gw a b;Go.binOp .eql t a b:Sem Value).run P w= .ok (.bool v) w/\(do eqGuard .neq t fr gw a b;Go.binOp .neq t a b:Sem Value).run P w= .ok (.bool (!v)) w:=by
 unfold binopB at h;split at h<;>cases h;rename_i c d;obtain rfl:=ha.wU;obtain rfl:=hb.wU;have he:(Op.equal t (.bool c) (.bool d)).run P w= .ok (c==d) w:=a9e 9999 ht c d;have h1:Go.binOp .eql t (.bool c) (.bool d)=(do pure (.bool (←Op.equal t (.bool c) (.bool d))):Sem Value):=rfl;have h2:Go.binOp .neq t (.bool c) (.bool d)=(do pure (.bool (!(←Op.equal t (.bool c) (.bool d)))):Sem Value):=rfl;have cn:eqGuard .eql t fr gw (.bool c) (.bool d)=pure ():=rfl;have ct:eqGuard .neq t fr gw (.bool c) (.bool d)=pure ():=rfl;rw[h1,h2,cn,ct];constructor<;>simp[he]
def Vu(P:Program)(t:TypeId)(kind:Nat):Prop:=
 (kind=0/\∃ms,P.underlying t=some (.interface ms))\/(kind=1/\∃e,P.underlying t=some (.pointer e))\/(kind=2/\∃aE rs v,P.underlying t=some (.func aE rs v))∨
 (kind=3/\∃e,P.underlying t=some (.slice e))\/(kind=4/\∃k e,P.underlying t=some (.map k e))
def a9g{t:TypeId}{fr gw:Operand}{v:Bool}{A C:Value}(cn:eqGuard .eql t fr gw A C=pure ())(ct:eqGuard .neq t fr gw A C=pure ())(h1:Go.binOp .eql t A C=(do pure (.bool (←Op.equal t A C)):Sem Value))
  (h2:Go.binOp .neq t A C=(do pure (.bool (!(←Op.equal t A C))):Sem Value)) (he:∀d,(Op.equalIn (d+1) t A C).run P w= .ok v w):
  ((do eqGuard .eql t fr gw A C;Go.binOp .eql t A C:Sem Value).run P w= .ok (.bool v) w/\(do eqGuard .neq t fr gw A C;Go.binOp .neq t A C:Sem Value).run P w= .ok (.bool (!v)) w):=by
 have DI:(Op.equal t A C).run P w= .ok v w:=he 9999;rw[h1,h2,cn,ct];constructor<;>simp[DI]
def a9h{t:TypeId}{kind:Nat}(ht:Vu P t kind){x y:AV}{v:Bool}{a b:Value}
  (ha:az w m O B x a) (hb:az w m O B y b) (h:isNilEq kind x y=some v) (fr gw:Operand):
  (((do eqGuard .eql t fr gw a b;Go.binOp .eql t a b:Sem Value).run P w= .ok (.bool v) w/\(do eqGuard .neq t fr gw a b;Go.binOp .neq t a b:Sem Value).run P w= .ok (.bool (!v)) w)):=by
 unfold isNilEq at h;split at h
 case h_13=>cases h
 case h_12=>
  rcases ht with⟨rfl,_⟩|⟨rfl,_⟩|⟨rfl,_⟩|⟨rfl,_⟩|⟨rfl,_⟩<;>cases h
 all_goals
  cases h<;>cases ha<;>cases hb<;>
  (rcases ht with⟨aC,ms,hu⟩|⟨aC,e,hu⟩|⟨aC,aE,rs,c3U,hu⟩|⟨aC,e,hu⟩|⟨aC,cq,e,hu⟩<;>first
   |(cases aC;done)
   |(refine a9g I I I I (λd=>?_);simp[Op.equalIn,run_underlying hu];done))
end
section
variable {P:Program}{w:World}{m:Nat->Option Nat}{O:Nat->Prop}{B:Nat}
def NM{t:TypeId}{i off:Nat}{R:Option Nat}(h:fieldOf P t i=some (off,R)):
  ∃bO iU,P.underlying t=some (.struct bO)/\bO[i]? =some iU/\iU.offset=off/\shapeOf P iU.type=some R/\shN R≠0:=by
 unfold fieldOf at h;split at h<;>try (cases h;done)
 rename_i bO hu;split at h<;>try (cases h;done)
 rename_i iU hf;split at h<;>try (cases h;done)
 rename_i fQ ak;split at h<;>cases h;rename_i aZ;exact⟨bO,iU,hu,hf,rfl,ak,aZ⟩
def Vv{R:Option Nat}{c:List AV}{v:AV}(h:dB R c=some v)(hf:∀x∈c,conf none x=true):v.cells=c.take (shN R)/\shN R<=c.length:=by
 cases R with
 |none=>
  obtain⟨r,rfl⟩:=It h;have:=hf v (by simp);refine⟨?_,by simp[shN]⟩;cases v<;>first|rfl|(simp[conf] at this)
 |some n=>
  obtain⟨rfl,hn⟩:=Iu h;exact⟨rfl,hn⟩
def a9i{R:Option Nat}{c:List AV}{v:AV}(h:dB R c=some v)(hf:∀x∈c,conf none x=true):conf R v=true:=by
 cases R with
 |none=>
  obtain⟨r,rfl⟩:=It h;exact hf v aT
 |some n=>
  obtain⟨rfl,hn⟩:=Iu h;simp[conf];omega
def az.Vw{ol:Bool}{cs:List AV}{u:Value}(h:az w m O B (.dk ol (.ad cs)) u){R:Option Nat}{k:Nat}{v:AV}(au:dB R (cs.drop k)=some v):
  ∃aA o,u= .pointer (some ⟨aA,o,none⟩)/\az w m O B (.dk ol v) (.pointer (some ⟨aA,o+k,none⟩)):=by
 cases h with
 | @dk _ _ _ _ _ aA off a4 c9 hb eu ae al hf=>
  simp only[AV.cells] at ae al hf;have IB:∀x∈cs.drop k,conf none x=true:=λx hx=>hf x (nH hx);obtain⟨nL,hle⟩:=Vv au IB;have hlen:v.cells.length=shN R:=by rw[nL,gM];omega
  have aC:k+shN R<=cs.length\/shN R=0:=by simp at hle;omega
  refine⟨aA,off,rfl,.dk (λj=>a4 (k+j)) c9 hb eu (λj aG=>?_) (λj aG=>?_) (λx hx=>?_)⟩
  ·rw[sU];exact ae (k+j) U
  ·have fj:k+j<cs.length:=by omega
   have e:v.cells[j]=cs[k+j]:=by
    have:v.cells[j]? =cs[k+j]? :=by
     rw[nL,sT U,ri]
    rw[eS aG,eS fj] at this;exact A0 this
   rw[e];exact al (k+j) fj
  ·rw[nL] at hx;exact IB x (oo hx)
def Vx{t:TypeId}{i off:Nat}{R:Option Nat}(h:fieldOf P t i=some (off,R))(b o:Nat):
  (Instr.fieldAt t (.pointer (some ⟨b,o,none⟩)) i).run P w= .ok (.pointer (some ⟨b,o+off,none⟩)) w:=by
 obtain⟨bO,iU,hu,hf,rfl,ak,aZ⟩:=NM h;obtain⟨_,cj,_⟩:=j7 ak w;simp[Instr.fieldAt,run_underlying hu,hf,Instr.sureAddr,fieldPlace,cj,aZ,j8]
def a9j{t:TypeId}{i off:Nat}{R:Option Nat}(h:fieldOf P t i=some (off,R)){x v:AV}{u:Value}(hx:az w m O B x u)
  (au:fieldAddrA off R x=some v):∃bW,(Instr.fieldAt t u i).run P w= .ok bW w/\az w m O B v bW:=by
 unfold fieldAddrA at au;split at au<;>try (cases au;done)
 ·rename_i hx;cases au;obtain⟨aA,hm,rfl⟩:=hx.u1;exact⟨_,Vx h _ _,.p hm⟩
 ·rename_i hx;split at au<;>cases au;rename_i a_ ht;obtain⟨aA,o,rfl,al⟩:=hx.Vw ht;exact⟨_,Vx h _ _,al⟩
def Vy{t:TypeId}{R:Option Nat}(ak:shapeOf P t=some R){cs:List AV}{arr:Array Value}(ae:bF w m O B cs arr.toList)(hf:∀x∈cs,conf none x=true){off:Nat}{v:AV}(au:dB R (cs.drop off)=some v):
  ∃bW,(part t arr off).run P w= .ok bW w/\az w m O B v bW:=by
 obtain⟨h1,h2,_⟩:=j7 ak w;have an:=ae.drop off;cases R with
 |none=>
  obtain⟨r,al⟩:=It au;rw[al] at an;obtain⟨u,hu,h7⟩:=an.get (i:=0) (v:=v) I;rw[ri] at hu;have nb:arr[off]? =some u:=by simpa using hu
  exact⟨u,by simp[part,h1,nb],h7⟩
 |some n=>
  obtain⟨rfl,hn⟩:=Iu au;have e:(arr.extract off (off+n))=((arr.toList.drop off).take n).toArray:=by
   apply m6;simp
  exact⟨.agg (arr.extract off (off+n)),by simp[part,h1,h2,shN],by rw[e];exact az.yR (an.take n) (λx hx=>hf x (nH (oo hx)))⟩
def a9k{t:TypeId}{i off:Nat}{R:Option Nat}(h:fieldOf P t i=some (off,R)){cs:List AV}{v:AV}{u:Value}(hx:az w m O B (.ad cs) u)(au:dB R (cs.drop off)=some v):
  ∃bW,(Instr.field t u i).run P w= .ok bW w/\az w m O B v bW:=by
 obtain⟨bO,iU,hu,hf,rfl,ak,aZ⟩:=NM h;obtain⟨a8,rfl,ao,nM⟩:=hx.qo;obtain⟨bW,h1,h2⟩:=Vy (w:=w) ak ao nM au;exact⟨bW,by simp[Instr.field,run_underlying hu,hf,asAgg,h1],h2⟩
def a9l{t e:TypeId}{n:Nat}{R:Option Nat}(hu:P.underlying t=some (.array n e))(ak:shapeOf P e=some R){x v:AV}{u:Value}(hx:az w m O B x u){k:IntKind}{j:Nat}(aG:j<n)
  (au:fieldAddrA (j*shN R) R x=some v):∃bW,(Instr.indexAt t u (.int k (Int.ofNat j))).run P w= .ok bW w/\az w m O B v bW:=by
 unfold fieldAddrA at au;obtain⟨_,cj,_⟩:=j7 ak w;have key:∀b o,(Instr.indexAt t (.pointer (some ⟨b,o,none⟩)) (.int k (Int.ofNat j))).run P w= .ok (.pointer (some ⟨b,o+j*shN R,none⟩)) w:=λb o=>by
  simp[Instr.indexAt,asIntOf,run_underlying hu,Instr.sureAddr,cj,j8,aG]
 split at au<;>try (cases au;done)
 ·rename_i hx;cases au;obtain⟨aA,hm,rfl⟩:=hx.u1;exact⟨_,key _ _,.p hm⟩
 ·rename_i hx;split at au<;>cases au;rename_i a_ ht;obtain⟨aA,o,rfl,al⟩:=hx.Vw ht;exact⟨_,key _ _,al⟩
def a9m{t e:TypeId}{ih:Option Nat}(hu:P.underlying t=some (.slice e))(ak:shapeOf P e=some ih){x v:AV}{u:Value}(hx:az w m O B x u){k:IntKind}{j:Nat}
  (au:idxSlA ih x j=some v):∃bW,(Instr.indexAt t u (.int k (Int.ofNat j))).run P w= .ok bW w/\az w m O B v bW:=by
 unfold idxSlA at au;obtain⟨_,cj,_⟩:=j7 ak w;have key:∀b o len cap,j<len->(Instr.indexAt t (.slice (some ⟨b,o,none⟩) len cap) (.int k (Int.ofNat j))).run P w= .ok (.pointer (some ⟨b,o+j*shN ih,none⟩)) w:=λb o len cap aG=>by
  simp[Instr.indexAt,asIntOf,run_underlying hu,cj,j8,aG]
 split at au<;>try (cases au;done)
 ·rename_i hx;split at au<;>cases au;rename_i fz;simp only[c7,decide_eq_true_eq] at fz;obtain⟨hlt,rfl⟩:=fz;have a9n:=by simpa [gD] using hlt
  cases hx with
  |aq h ao ae hn fi=>exact⟨_,key _ _ _ _ a9n,.p h⟩
 ·rename_i hx;split at au<;>try (cases au;done)
  rename_i he;subst he;split at au<;>cases au;rename_i a_ Vz;rw[DC] at Vz;obtain⟨aG,rfl⟩:=lG.1 Vz;cases hx with
  |kB=>simp at aG
  | @aR _ _ _ _ _ _ aA off ec sp a4 c9 pq ae al ao hf ei=>
   have b_:∀ {l:List AV},j<l.length->l≠[]:=λh e=>by subst e;simp at h
   obtain rfl:=ei (b_ aG);obtain⟨h1,h2,h3⟩:=c9 (b_ aG);exact⟨_,key _ _ _ _ aG,.dk (a4 j) h1 h2 h3 (λi hi=>ae j aG i hi) (λi hi=>al j aG i hi) (hf _ (c3 aG))⟩
def a9o{t:TypeId}(hu:P.underlying t=some .string){l:List Nat}{u:Value}(hx:az w m O B (.s l) u){k:IntKind}{j c:Nat}(aG:nth l j=some c):
  (Instr.index t u (.int k (Int.ofNat j))).run P w= .ok (.int .u8 (Int.ofNat c)) w:=by
 obtain⟨rfl,ao⟩:=hx.po;rw[DC] at aG;obtain⟨hlt,fG⟩:=lG.1 aG;have ae:c<256:=ao c (by rw[<-fG];exact c3 hlt);have ak:(strOf l)[j]? =some c.toUInt8:=by
  have h1:j<(strOf l).size:=by rw[wT];exact hlt
  rw[getElem?_pos (strOf l) j h1]
  congr 1
  show(strOf l).data[j]=_;simp[strOf,fG]
 simp only[Instr.index,asIntOf,er,hB,ez,run_underlying hu];have:(0:Int)<=Int.ofNat j:=Dm j;simp[ak];omega
def a9p{t e:TypeId}{n:Nat}{R:Option Nat}(hu:P.underlying t=some (.array n e))(ak:shapeOf P e=some R){cs:List AV}{v:AV}{u:Value}(hx:az w m O B (.ad cs) u){k:IntKind}{j:Nat}(aG:j<n)
  (au:dB R (cs.drop (j*shN R))=some v):∃bW,(Instr.index t u (.int k (Int.ofNat j))).run P w= .ok bW w/\az w m O B v bW:=by
 obtain⟨_,cj,_⟩:=j7 ak w;obtain⟨a8,rfl,ao,nM⟩:=hx.qo;obtain⟨bW,h1,h2⟩:=Vy (w:=w) ak ao nM au;exact⟨bW,by simp[Instr.index,asIntOf,run_underlying hu,cj,aG,h1],h2⟩
def a9q{l:List AV}{u:Value}(hx:az w m O B (.a6 l) u){i:Nat}{v:AV}(au:nth l i=some v):∃bW,(Instr.extract u i).run P w= .ok bW w/\az w m O B v bW:=by
 obtain⟨a8,rfl,ao⟩:=hx.NG;rw[DC] at au;obtain⟨bW,h1,h2⟩:=ao.get au;have oE:a8[i]? =some bW:=by simpa using h1
 exact⟨bW,by simp[Instr.extract,oE],h2⟩
end
section
variable {P:Program}{w:World}{m:Nat->Option Nat}{O:Nat->Prop}{B:Nat}
def a9r{k:IntKind}{n y:Nat}{code:BoundsCode}(h:n<=y):(Instr.sliceBound (.int k (Int.ofNat n)) y code).run P w= .ok n w:=by
 have:((Int.ofNat n)<=(y:Int)):=by show((n:Nat):Int)<=y;omega
 simp[Instr.sliceBound,asIntOf,h]
def VA{k:IntKind}{n y:Nat}{code:BoundsCode}(h:n<=y):(Instr.sliceBound (.int k (n:Int)) y code).run P w= .ok n w:=a9r h
inductive jN(d:Nat):Option Value->Nat->Prop
 |none:jN d none d
 |some (k:IntKind) (n:Nat):jN d (some (.int k (Int.ofNat n))) n
def a9s{env:Env}(c9:∀b,O b->B<=b)(cc:Globs env w B){aq:aY AV}{a:Act}(ak:iR w m O B aq a.tmps.toList){x:Option Operand}{bI:Option aH}(hx:opdO x=some bI){d n:Nat}(au:bndO (evalA env aq) bI d=some n):jN d (x.map a.eval) n:=by
 cases x with
 |none=>
  cases hx;simp only[bndO,cw] at au;subst au;exact .none
 |some x=>
  simp only[opdO] at hx;split at hx<;>cases hx;rename_i fr gg;simp only[bndO] at au;split at au<;>try (cases au;done)
  rename_i v he;obtain⟨k,rfl⟩:=DF au;have:=(NJ c9 cc ak gg he).lg;simp only[H0,this];exact .some k n
def rD{isSlice:Bool}{len cap:Nat}{bX hi:Option Value}{l h:Nat}(ao:jN 0 bX l)(hh:jN len hi h)(h1:l<=h)(h2:h<=cap):
  (Instr.sliceBounds isSlice len cap bX hi none).run P w= .ok (l,h,cap) w:=by
 cases ao<;>cases hh<;>simp[Instr.sliceBounds,VA,h1,h2]
def NN{isSlice:Bool}{len cap:Nat}{bX:Option Value}{l h k:Nat}{s8 l1:IntKind}(ao:jN 0 bX l)(h1:l<=h)(h2:h<=k)(h3:k<=cap):
  (Instr.sliceBounds isSlice len cap bX (some (.int s8 (Int.ofNat h))) (some (.int l1 (Int.ofNat k)))).run P w= .ok (l,h,k) w:=by
 cases ao<;>simp[Instr.sliceBounds,VA,h1,h2,h3]
def a9t(s:List Nat)(l h:Nat):(strOf s).extract l h=strOf ((s.drop l).take (h-l)):=by
 apply ByteArray.ext;rw[ByteArray.data_extract];apply m6;simp[strOf,Dq,List.map_drop]
def a9u{t:TypeId}(hu:P.underlying t=some .string){s:List Nat}{u:Value}(hx:az w m O B (.s s) u){bX hi:Option Value}{l h:Nat}(ao:jN 0 bX l)(hh:jN s.length hi h)(h1:l<=h)(h2:h<=s.length):
  ∃bW,(Instr.sliceAt t u bX hi none).run P w= .ok bW w/\az w m O B (.s ((s.drop l).take (h-l))) bW:=by
 obtain⟨rfl,hb⟩:=hx.po;refine⟨_,?_,.s _ (λc ae=>hb c (nH (oo ae)))⟩;simp[Instr.sliceAt,Instr.slice,run_underlying hu,wT,rD ao hh h1 h2,a9t]
def a9v{t e:TypeId}{n:Nat}{R:Option Nat}(hu:P.underlying t=some (.array n e))(ak:shapeOf P e=some R){id off aA k:Nat}(hm:m id=some aA)(aC:dO w aA=some k)(Bf:off+n*shN R<=k)
  {bX hi:Option Value} {l h:Nat} (ao:jN 0 bX l) (hh:jN n hi h) (h1:l<=h) (h2:h<=n):
  ∃bW,(Instr.sliceAt t (.pointer (some ⟨aA,off,none⟩)) bX hi none).run P w= .ok bW w/\az w m O B (.aq id (if n=l then off else off+l*shN R) (h-l) R (some (n-l))) bW:=by
 obtain⟨_,cj,_⟩:=j7 ak w;refine⟨.slice (some ⟨aA,if n=l then off else off+l*shN R,none⟩) (h-l) (n-l),?_,.aq hm U (λc ae=>by cases ae;rfl) aC ?_ (λh=>by cases h)⟩
 ·simp only[Instr.sliceAt,run_underlying hu,er,ez,Instr.sureAddr,hB,rD ao hh h1 h2,cj];split<;>simp[j8]
 ·split
  ·rename_i e;subst e;simp;omega
  ·have:(n-l)*shN R+l*shN R=n*shN R:=by rw[<-jz];congr 1;omega
   omega
def a9w{t e:TypeId}{ih:Option Nat}(hu:P.underlying t=some (.slice e))(ak:shapeOf P e=some ih){id off len:Nat}{R cap:Option Nat}(gF:R=ih){u:Value}(hx:az w m O B (.aq id off len R cap) u)
  {bX hi:Option Value} {l h:Nat} (ao:jN 0 bX l) (hh:jN len hi h) (h1:l<=h):
  (∀(cI:Option Value) (l1:IntKind) (k:Nat),cI=some (.int l1 (Int.ofNat k))->hi.isSome=true->h<=k->k<=(cap.getD len)→
   ∃bW,(Instr.sliceAt t u bX hi cI).run P w= .ok bW w/\az w m O B (.aq id (if k=l then off else off+l*shN R) (h-l) R (some (k-l))) bW)∧
  (∀c,cap=some c->h<=c->∃bW,(Instr.sliceAt t u bX hi none).run P w= .ok bW w/\az w m O B (.aq id (if c=l then off else off+l*shN R) (h-l) R (some (c-l))) bW)∧
  (cap=none->h<=len->l=0->∃bW,(Instr.sliceAt t u bX hi none).run P w= .ok bW w/\az w m O B (.aq id off h R none) bW)∧
  (cap=none->h<=len->l<len->∃bW,(Instr.sliceAt t u bX hi none).run P w= .ok bW w/\az w m O B (.aq id (off+l*shN R) (h-l) R none) bW)∧
  (cap=none->l=len->h=len->∃bW,(Instr.sliceAt t u bX hi none).run P w= .ok bW w/\az w m O B (.aR true R []) bW):=by
 subst gF;obtain⟨_,cj,_⟩:=j7 ak w;cases hx with
 | @aq _ _ _ _ _ _ aA n ec _ _ hm hlen ae hn fi dP=>
  have IC:∀k,l<=k->(k-l)*shN R+l*shN R=k*shN R:=λk aC=>by rw[<-jz];congr 1;omega
  have a9x:∀k,k<=ec->k*shN R<=ec*shN R:=λk aC=>qg _ aC;refine⟨?_,?_,?_,?_,?_⟩
  ·rintro cI l1 k rfl mF ik qq;have VB:k<=ec:=by
    cases cap with
    |none=>simp at qq;omega
    |some c=>have:=ae c I;simp at qq;omega
   cases hh with
   |none=>simp at mF
   |some s8 h=>
    refine⟨.slice (some ⟨aA,if k=l then off else off+l*shN R,none⟩) (h-l) (k-l),?_,.aq hm U (λc ae=>by cases ae;rfl) hn ?_ (λh=>by cases h)⟩
    ·simp only[Instr.sliceAt,Instr.slice,run_underlying hu,er,ez,NN ao h1 ik VB,cj,hB];split<;>simp[j8]
    ·have:=a9x k VB;split
     ·rename_i e;subst e;simp;omega
     ·have:=IC k U;omega
  ·rintro c rfl yW;obtain rfl:=ae c I;refine⟨.slice (some ⟨aA,if ec=l then off else off+l*shN R,none⟩) (h-l) (ec-l),?_,.aq hm U (λc ae=>by cases ae;rfl) hn ?_ (λh=>by cases h)⟩
   ·simp only[Instr.sliceAt,Instr.slice,run_underlying hu,er,ez,rD ao hh h1 yW,cj,hB];split<;>simp[j8]
   ·split
    ·rename_i e;subst e;simp;omega
    ·have:=IC ec U;omega
  ·rintro rfl hle rfl;refine⟨.slice (some ⟨aA,off,none⟩) h ec,?_,.aq hm U (λc ae=>by cases ae) hn fi dP⟩;simp only[Instr.sliceAt,Instr.slice,run_underlying hu,er,ez,rD ao hh h1 (lE hle hlen),cj,hB];split<;>simp[j8]
  ·rintro rfl hle hlt;refine⟨.slice (some ⟨aA,off+l*shN R,none⟩) (h-l) (ec-l),?_,.aq hm U (λc ae=>by cases ae) hn ?_ (λ_=>by have:=IC ec U;have:=dP I;omega)⟩
   ·simp only[Instr.sliceAt,Instr.slice,run_underlying hu,er,ez,rD ao hh h1 (lE hle hlen),cj,hB];rw[if_neg U];simp[j8]
   ·have:=IC ec U;omega
  ·rintro rfl iV DJ;refine⟨.slice (some ⟨aA,if ec=l then off else off+l*shN R,none⟩) (h-l) (ec-l),?_,?_⟩
   ·simp only[Instr.sliceAt,Instr.slice,run_underlying hu,er,ez,rD ao hh h1 (show h<=ec by omega),cj,hB];split<;>simp[j8]
   ·rw[show h-l=([]:List AV).length from by rw[iV,DJ];simp];exact .aR (λ_ _=>.bool true) (λh=>absurd I h) (λi h=>by simp at h) (λi h=>by simp at h) (λi h=>by simp at h) (kA _) (λv au=>by simp at au) (λh=>absurd I h)
def a9y{t e:TypeId}{ih:Option Nat}(hu:P.underlying t=some (.slice e))(ak:shapeOf P e=some ih){id off len k:Nat}{R:Option Nat}(gF:R=ih){u:Value}(hx:az w m O B (.aq id off len R none) u)
  {bX hi:Option Value} (ao:jN 0 bX 0) (hh:jN len hi k) (h0:0<shN R) (h1:len<=k) (h2:∀aA n,m id=some aA->dO w aA=some n->off+k*shN R<=n):
  ∃bW,(Instr.sliceAt t u bX hi none).run P w= .ok bW w/\az w m O B (.aq id off k R none) bW:=by
 subst gF;obtain⟨_,cj,_⟩:=j7 ak w;cases hx with
 | @aq _ _ _ _ _ _ aA n ec _ _ hm hlen ae hn fi dP=>
  have hle:k<=ec:=by
   have h3:=h2 _ _ hm hn;have aN:=dP I;rcases nG ec k with h|h
   ·have:=Nat.mul_lt_mul_of_pos_right h h0;omega
   ·exact h
  refine⟨.slice (some ⟨aA,off,none⟩) k ec,?_,.aq hm hle (λc ae=>by cases ae) hn fi dP⟩;simp only[Instr.sliceAt,Instr.slice,run_underlying hu,er,ez,rD ao hh (kA _) hle,cj,hB];split<;>simp[j8]
def a9z{t e:TypeId}{ih:Option Nat}(hu:P.underlying t=some (.slice e))(ak:shapeOf P e=some ih){bX hi cI:Option Value}(ao:jN 0 bX 0)(hh:jN 0 hi 0)(hm:jN 0 cI 0)(mF:cI.isSome=true->hi.isSome=true):
  (Instr.sliceAt t (.slice none 0 0) bX hi cI).run P w= .ok (.slice none 0 0) w:=by
 obtain⟨_,cj,_⟩:=j7 ak w;cases hm with
 |none=>simp[Instr.sliceAt,Instr.slice,run_underlying hu,rD ao hh,cj]
 |some l1=>
  cases hh with
  |none=>simp at mF
  |some s8=>
   have:=NN (P:=P) (w:=w) (isSlice:=true) (len:=0) (cap:=0) (s8:=s8) (l1:=l1) ao (b6 0) (b6 0) (b6 0);simp only[Instr.sliceAt,Instr.slice,run_underlying hu,er,ez,this,cj,hB];simp
def a9A{o:Oper}{x:Operand}(ho:o.op= .nilCheck x){cX:Operand->Value}{v:AV}(hx:az w m O B v (cX x))(h:nilOk v=true):(execOp cX o).run P w= .ok (.value (cX x)) w:=by
 generalize hu:cX x=u at hx;cases hx<;>simp[nilOk] at h<;>simp[execOp,ho,hu]
def a9B{b:Bool}{u:Value}(hx:az w m O B (.b b) u):(Op.unary .not u).run P w= .ok (.bool (!b)) w:=by
 obtain rfl:=hx.wU;rfl
def a9C{k:IntKind}{n:Int}{u:Value}(hx:az w m O B (.i k n) u):(Op.unary .neg u).run P w= .ok (.int k (k.wrap (0-n))) w:=by
 obtain rfl:=hx.lg;rfl
def a9D{s d:TypeId}{k fg:IntKind}(ak:P.underlying s=some (.int fg))(an:P.underlying d=some (.int k)){j:IntKind}{n:Int}{u:Value}(hx:az w m O B (.i j n) u):(convert s d u).run P w= .ok (.int k (wrapN k n)) w:=by
 obtain rfl:=hx.lg;simp[convert,run_underlying ak,run_underlying an,Conv.intToInt,Vg]
def a9E{s d:TypeId}{fg fW:IntKind}(ak:P.underlying s=some (.int fg))(an:P.underlying d=some (.int .i64)){q j:Nat}{u:Value}(hx:az w m O B (.e3 fW q j) u):∃n,(convert s d u).run P w= .ok (.int .i64 (Int.ofNat n)) w/\az w m O B (.e3 .i64 q j) (.int .i64 (Int.ofNat n)):=by
 cases hx with
 | @e3 _ _ _ _ _ _ n hn hlt=>
 exact⟨n,by simp only[convert,er,run_underlying ak,run_underlying an,ez,Conv.intToInt];rw[Vq (.inr I) hlt];rfl,.e3 hn hlt⟩
def a9F{t:TypeId}{d:TypeDesc}(hu:P.underlying t=some d)(an:∀ms,d≠ .interface ms)(u:Value):(Instr.makeInterface t u).run P w= .ok (.iface t u) w:=by
 simp only[Instr.makeInterface,er,run_underlying hu,ez];cases d<;>first|rfl|exact absurd I (an _)
def a9G{t NO:TypeId}{d:TypeDesc}(hu:P.underlying t=some d)(an:∀ms,d≠ .interface ms){z:AV}(aZ:zeroOf P t=some z){two:Bool}{x:AV}{u:Value}(hx:az w m O B x u){v:AV}
  (au:assertA x t z two=some v):∃bW,(Instr.typeAssert u NO t two).run P w= .ok bW w/\az w m O B v bW:=by
 unfold assertA at au;obtain⟨en,il,mG,_⟩:=rA aZ w;have mH:=mG w m O B;have yX:∀ {a:AV} {b:Value} (c:Bool),az w m O B a b->az w m O B (.a6 [a,.b c]) (.tuple #[b,.bool c]):=λc h=>az.uY (bF.cons h (bF.cons (.b c) bF.nil));split at au<;>try (cases au;done)
 ·rename_i ID a_ hx;cases hx with
  | @it _ _ _ _ _ bW al=>
   split at au
   ·rename_i he;subst he;cases au;cases two with
    |false=>exact⟨bW,by simp only[Instr.typeAssert,er,run_underlying hu,ez];cases d<;>first|exact absurd I (an _)|simp,al⟩
    |true=>exact⟨.tuple #[bW,.bool true],by simp only[Instr.typeAssert,er,run_underlying hu,ez];cases d<;>first|exact absurd I (an _)|simp,yX true al⟩
   ·rename_i he;cases two with
    |false=>cases au
    |true=>
     cases au;exact⟨.tuple #[en,.bool false],by simp only[Instr.typeAssert,er,run_underlying hu,ez];cases d<;>first|exact absurd I (an _)|simp[he,il],yX false mH⟩
 ·rename_i hx;cases hx;cases two with
  |false=>cases au
  |true=>
   cases au;exact⟨.tuple #[en,.bool false],by simp only[Instr.typeAssert,er,run_underlying hu,ez];cases d<;>first|exact absurd I (an _)|simp[il],yX false mH⟩
end
def iW{α β:Type}(r:α->β->Prop):List α->List β->Prop
 |[],[]=>True
 |x::xs,y::a4=>r x y/\iW r xs a4
 |_,_=>False
def DK{α β Bg:Type}{f:α->Option β}{g:α->Bg}{r:β->Bg->Prop}(h:∀x y,f x=some y->r y (g x)):∀ {l:List α} {a4:List β},mapOL f l=some a4->iW r a4 (l.map g)
 |[],a4,aI=>by simp[mapOL] at aI;subst aI;trivial
 |x::xs,a4,aI=>by
  rw[mapOL] at aI;split at aI
  ·rename_i y dv hx ed;cases aI;exact⟨h x y hx,DK h ed⟩
  ·cases aI
section
variable {P:Program}{w:World}{m:Nat->Option Nat}{O:Nat->Prop}{B:Nat}
def bF.store{c bn v:List AV}{off:Nat}{arr:Array Value}{us:List Value}(ae:bF w m O B c arr.toList)(au:bF w m O B v us)(h:storeCells c off v=some bn):bF w m O B bn (wr arr off us).toList:=by
 obtain⟨hle,rfl⟩:=yT h;have oC:arr.size=c.length:=by have:=ae.1;simpa using this
 have hlen:=au.1;have e:(wr arr off us).toList=arr.toList.take off++(us++arr.toList.drop (off+us.length)):=by
  apply List.ext_getElem?;intro i;have:=Bc us arr off i U;rw[mr,this];rw[yE];simp only[gM,sS];by_cases bY:i<off
  ·rw[if_neg U,if_pos U,sT bY];simp
  ·rw[if_neg (show ¬i<min off arr.size by omega),yE];by_cases cf:i-min off arr.size<us.length
   ·rw[if_pos cf,if_pos U,show min off arr.size=off by omega]
   ·rw[if_neg cf,if_neg U,ri];rw[mr];congr 1;omega
 rw[e,hlen];exact(ae.take off).append (au.append (ae.drop _))
def a9H{c bn v:List AV}{off:Nat}(ae:∀x∈c,conf none x=true)(au:∀x∈v,conf none x=true)(h:storeCells c off v=some bn):∀x∈bn,conf none x=true:=by
 obtain⟨_,rfl⟩:=yT h;intro x hx;rcases gN.1 hx with hx|hx
 ·exact ae x (oo hx)
 ·rcases gN.1 hx with hx|hx
  ·exact au x hx
  ·exact ae x (nH hx)
def a9I{c bn v:List AV}{off:Nat}(h:storeCells c off v=some bn):bn.length=c.length:=by
 obtain⟨_,rfl⟩:=yT h;simp;omega
def VC:∀(l:List Value) (k off:Nat) (cs:Array Value),(l.zipIdx k).foldl (λ(cs:Array Value) (p:Value×Nat)=>cs.setIfInBounds (off+p.2) p.1) cs=wr cs (off+k) l
 |[],_,_,_=>rfl
 |v::r,k,off,cs=>by
  rw[List.zipIdx_cons,Nl,VC r (k+1) off,wr];rfl
def NP{v:AV}{u:Value}(h:az w m O B v u)(au:v.val=true):∀x∈v.cells,conf none x=true:=by
 cases h with
 |ad ak al hf=>exact hf
 |a6 ak al=>simp[AV.val] at au
 |_=>intro x hx;simp only[AV.cells,dx] at hx;subst hx;rfl
def a9J(av:aH->Option AV)(cL:Nat->Nat->Nat)(c:List AV):hQ av cL [] c=some c:=rfl
def layParts_cons(av:aH->Option AV)(cL:Nat->Nat->Nat)(p:Nat×Nat×aH)(aE:List (Nat×Nat×aH))(c:List AV):
  hQ av cL (p::aE) c=match av p.2.2 with
   |none=>none
   |some v=>cond (Nat.beq v.cells.length p.2.1&&v.val) (match storeCells c (cL p.1 p.2.1) v.cells with|none=>none|some c=>hQ av cL aE c) none:=rfl
def DL{place:Nat->Option (Nat×Nat)}{av:aH->Option AV}{cL:Nat->Nat->Nat}:∀(aE:List (Nat×Nat×aH)) (iD:List (Nat×Value)) (c bn:List AV) (arr:Array Value),
  iW (λ(p:Nat×Nat×aH) (q:Nat×Value)=>place q.1=some (cL p.1 p.2.1,p.2.1)/\∀v,av p.2.2=some v->az w m O B v q.2) aE iD->bF w m O B c arr.toList->(∀x∈c,conf none x=true)->hQ av cL aE c=some bn→
  ∃nc,Instr.fill place arr iD=some nc/\bF w m O B bn nc.toList/\(∀x∈bn,conf none x=true)/\bn.length=c.length
 |[],[],c,bn,arr,_,ae,hf,h=>by
  rw[a9J] at h;cases h;exact⟨arr,rfl,ae,hf,rfl⟩
 |[],_::_,_,_,_,h,_,_,_=>h.elim
 |_::_,[],_,_,_,h,_,_,_=>h.elim
 |p::aE,q::iD,c,bn,arr,⟨⟨ay,au⟩,al⟩,ae,hf,h=>by
  rw[layParts_cons] at h;cases he:av p.2.2 with
  |none=>simp[he] at h
  |some v=>
   simp only[he] at h;cases hb:(Nat.beq v.cells.length p.2.1&&v.val) with
   |false=>simp[hb] at h
   |true=>
    rw[hb,cond_true] at h;simp only[c7] at hb;have hlen:=eM hb.1;have hR:=au v he;cases cR:storeCells c (cL p.1 p.2.1) v.cells with
    |none=>simp[cR] at h
    |some hE=>
     simp only[cR] at h;have cj:q.2.cells.size=p.2.1:=by have:=hR.cells.1;simp at this;omega
     have nN:=(yT cR).1;have oC:arr.size=c.length:=by have:=ae.1;simpa using this
     obtain⟨nc,h1,h2,h3,aN⟩:=DL aE iD hE bn (wr arr (cL p.1 p.2.1) q.2.cells.toList) al (ae.store hR.cells cR) (a9H hf (NP hR hb.2) cR) h;refine⟨nc,?_,h2,h3,by rw[aN,a9I cR]⟩;obtain⟨i,u⟩:=q;simp only[Instr.fill];rw[show place i=some (cL p.1 p.2.1,p.2.1) from ay];simp only at cj ⊢;have fz:(u.cells.size≠p.2.1||decide (cL p.1 p.2.1+u.cells.size > arr.size))=false:=by
      simp[cj];omega
     have VD:(u.cells.zipIdx.foldl (λ(cs:Array Value) (x:Value×Nat)=>cs.setIfInBounds (cL p.1 p.2.1+x.2) x.1) arr)=wr arr (cL p.1 p.2.1) u.cells.toList:=by
      rw[<-Array.foldl_toList,Array.toList_zipIdx,VC];rfl
     have a9K:¬((u.cells.size≠p.2.1||cL p.1 p.2.1+u.cells.size > arr.size)=true):=by rw[qf];simp[cj];omega
     rw[if_neg a9K]
     first|(rw[VD];exact h1)|(simp only[VD];exact h1)
def a9L{bO:Array Field}(h:∀f∈bO.toList,∃i,P.info? f.type=some i)(w:World):
  ∃aE:Array (Nat×Nat),(bO.mapM λf=>(do pure (f.offset,← sizeOf f.type):Sem (Nat×Nat))).run P w= .ok aE w/\∀(i:Nat) (f:Field) (inf:TypeInfo),bO[i]? =some f->P.info? f.type=some inf->aE[i]? =some (f.offset,inf.size):=by
 have key:∀(l:List Field),(∀f∈l,∃i,P.info? f.type=some i)->∃aE:List (Nat×Nat),(l.mapM λf=>(do pure (f.offset,← sizeOf f.type):Sem (Nat×Nat))).run P w= .ok aE w/\∀(i:Nat) (f:Field) (inf:TypeInfo),l[i]? =some f->P.info? f.type=some inf->aE[i]? =some (f.offset,inf.size):=by
  intro l
  induction l with
  |nil=>intro _;exact⟨[],aT,λi f inf h=>by simp at h⟩
  |cons f l ar=>
   intro h;obtain⟨i,hi⟩:=h f aT;obtain⟨aE,h1,h2⟩:=ar (λg hg=>h g (by simp[hg]));have cj:(sizeOf f.type).run P w= .ok i.size w:=by simp[sizeOf,typeInfo,hi]
   refine⟨(f.offset,i.size)::aE,by simp only[List.mapM_cons,er,cj,ez,hB,h1],λk g inf hg yY=>?_⟩;cases k with
   |zero=>simp at hg;subst hg;rw[hi] at yY;cases yY;rfl
   |succ k=>simp at hg ⊢;exact h2 k g inf hg yY
 obtain⟨aE,h1,h2⟩:=key bO.toList h;refine⟨aE.toArray,?_,λi f inf hf yY=>by simpa using h2 i f inf (by simpa using hf) yY⟩;rw[UI];simp only[Sem.run_map,h1,ez]
def a9M{t:TypeId}{bO:Array Field}(hu:P.underlying t=some (.struct bO))(hi:bO.any (λf=>(P.info? f.type).isNone)=false){z:List AV}(aZ:zeroOf P t=some (.ad z)){av:aH->Option AV}
  {aE:List (Nat×Nat×aH)} {iD:Array (Nat×Value)} {c:List AV}
  (ay:iW (λ(p:Nat×Nat×aH) (q:Nat×Value)=>(∃R,fieldOf P t q.1=some (p.1,R)/\shN R=p.2.1)/\∀v,av p.2.2=some v->az w m O B v q.2) aE iD.toList)
  (h:hQ av (λoff _=>off) aE z=some c):∃u,(Instr.build t iD).run P w= .ok u w/\az w m O B (.ad c) u:=by
 have hall:∀f∈bO.toList,∃i,P.info? f.type=some i:=by
  intro f hf;rw[<-Array.any_toList,a7q] at hi;have:=hi f hf;cases h:P.info? f.type with
  |none=>simp[h] at this
  |some i=>exact⟨i,rfl⟩
 obtain⟨places,s9,a9N⟩:=a9L hall w;obtain⟨en,il,mG,mH⟩:=rA aZ w;obtain⟨dv,rfl,nd,NQ⟩:=(mG w m O B).qo;have oF:iW (λ(p:Nat×Nat×aH) (q:Nat×Value)=>places[q.1]? =some (p.1,p.2.1)/\∀v,av p.2.2=some v->az w m O B v q.2) aE iD.toList:=by
  clear h;revert ay;generalize iD.toList=gV
  induction aE generalizing gV with
  |nil=>cases gV<;>exact id
  |cons p aE ar=>
   cases gV with
   |nil=>exact id
   |cons q gV=>
    rintro⟨⟨⟨R,hf,gF⟩,au⟩,al⟩;refine⟨⟨?_,au⟩,ar gV al⟩;obtain⟨gT,iU,nb,dP,NR,ak,_⟩:=NM hf;rw[hu] at nb;cases nb;obtain⟨_,_,inf,yY,cj⟩:=j7 ak w;rw[a9N q.1 iU inf dP yY,NR,cj,gF]
 obtain⟨nc,h1,h2,h3,_⟩:=DL aE iD.toList z c dv oF nd NQ h;refine⟨.agg nc,?_,by have:=az.yR h2 h3;simpa using this⟩;simp only[Instr.build,er,il,ez,run_underlying hu,Value.cells,s9];simp[h1]
def a9O{t e:TypeId}{n:Nat}{R:Option Nat}(hu:P.underlying t=some (.array n e))(ak:shapeOf P e=some R){z:List AV}(aZ:zeroOf P t=some (.ad z)){av:aH->Option AV}
  {aE:List (Nat×Nat×aH)} {iD:Array (Nat×Value)} {c:List AV}
  (ay:iW (λ(p:Nat×Nat×aH) (q:Nat×Value)=>(p.1=q.1*shN R/\p.2.1=shN R)/\∀v,av p.2.2=some v->az w m O B v q.2) aE iD.toList)
  (h:hQ av (λoff _=>off) aE z=some c):∃u,(Instr.build t iD).run P w= .ok u w/\az w m O B (.ad c) u:=by
 obtain⟨_,cj,_⟩:=j7 ak w;obtain⟨en,il,mG,mH⟩:=rA aZ w;obtain⟨dv,rfl,nd,NQ⟩:=(mG w m O B).qo;have oF:iW (λ(p:Nat×Nat×aH) (q:Nat×Value)=>(λi=>some (i*shN R,shN R)) q.1=some (p.1,p.2.1)/\∀v,av p.2.2=some v->az w m O B v q.2) aE iD.toList:=by
  clear h;revert ay;generalize iD.toList=gV
  induction aE generalizing gV with
  |nil=>cases gV<;>exact id
  |cons p aE ar=>
   cases gV with
   |nil=>exact id
   |cons q gV=>
    rintro⟨⟨⟨h1,h2⟩,au⟩,al⟩;exact⟨⟨by rw[h1,h2],au⟩,ar gV al⟩
 obtain⟨nc,h1,h2,h3,_⟩:=DL (place:=λi=>some (i*shN R,shN R)) (cL:=λoff _=>off) aE iD.toList z c dv oF nd NQ h;refine⟨.agg nc,?_,by have:=az.yR h2 h3;simpa using this⟩;simp only[Instr.build,er,il,ez,run_underlying hu,Value.cells,cj];simp[h1]
def VE(z:List AV):fw 0 z=[]:=rfl
def VF(n:Nat)(z:List AV):fw (n+1) z=z++fw n z:=rfl
def Bh{z:List AV}{dv:List Value}(aZ:bF w m O B z dv):∀n,bF w m O B (fw n z) ((List.range (n*dv.length)).map λi=>dv[i%dv.length]!)
 |0=>by simp[VE];exact bF.nil
 |n+1=>by
  rw[VF,jz,qh,uR,List.range_add,ie,kz];have ar:=Bh aZ n;by_cases h0:dv.length=0
  ·have:dv=[]:=ou h0;subst this;have IE:z=[]:=ou (by have:=aZ.1;simpa using this.symm);subst IE;simpa using ar
  ·refine bF.append ?_ ?_
   ·have:((List.range dv.length).map λi=>dv[i%dv.length]!)=dv:=by
     apply List.ext_getElem
     ·simp
     ·intro i h1 h2;simp only[ic,List.getElem_range];rw[Nat.mod_eq_of_lt h2];simp[h2]
    rw[this];exact aZ
   ·have:((λi=>dv[i%dv.length]!)∘λx=>dv.length+x)=λi=>dv[i%dv.length]! :=by
     funext i;simp
    rw[this];exact ar
def Bi{z:List AV}(aZ:∀x∈z,conf none x=true):∀n,∀x∈fw n z,conf none x=true
 |0,x,hx=>by simp[VE] at hx
 |n+1,x,hx=>by
  rw[VF] at hx;rcases gN.1 hx with h|h
  ·exact aZ x h
  ·exact Bi aZ n x h
end
section
variable {P:Program}{J:ag}{w:World}{m:Nat->Option Nat}{B:Nat}{f:Nat}
def a9P(al:Rel P J w m B){t e:TypeId}{R:Option Nat}(hu:P.underlying t=some (.slice e))(ak:shapeOf P e=some R){z:AV}(aZ:zeroOf P e=some z)(wV:z.cells.length=shN R){n:Nat}(hn:n*shN R<=16777216){av:aH->Option AV}
  {aE:List (Nat×Nat×aH)} {iD:Array (Nat×Value)} {c:List AV}
  (ay:iW (λ(p:Nat×Nat×aH) (q:Nat×Value)=>(p.1=q.1/\p.2.1=shN R)/\∀v,av p.2.2=some v->az w m (bh J m) B v q.2) aE iD.toList)
  (h:hQ av (λi cL=>i*cL) aE (fw n z.cells)=some c):
  ∃bW ax aK,(Instr.buildSlice t n iD).run P w= .ok bW ax/\az ax aK (bh (J.push (.cells c)) aK) B (.aq J.next 0 n R (some n)) bW/\Rel P (J.push (.cells c)) ax aK B/\Ext f J w m (J.push (.cells c)) ax aK:=by
 obtain⟨_,cj,_⟩:=j7 ak w;obtain⟨en,il,mG,mH⟩:=rA aZ w;have nd:=(mG w m (bh J m) B).cells;have lL:en.cells.size=shN R:=by have:=nd.1;simp at this;omega
 have oF:iW (λ(p:Nat×Nat×aH) (q:Nat×Value)=>(λi=>some (i*shN R,shN R)) q.1=some (p.1*p.2.1,p.2.1)/\∀v,av p.2.2=some v->az w m (bh J m) B v q.2) aE iD.toList:=by
  clear h;revert ay;generalize iD.toList=gV
  induction aE generalizing gV with
  |nil=>cases gV<;>exact id
  |cons p aE ar=>
   cases gV with
   |nil=>exact id
   |cons q gV=>
    rintro⟨⟨⟨h1,h2⟩,au⟩,al⟩;exact⟨⟨by rw[h1,h2],au⟩,ar gV al⟩
 have nO:=Bh nd n;have NS:=Bi mH n;have wW:en.cells.toList.length=shN R:=by simp[lL]
 rw[wW] at nO;obtain⟨nc,h1,h2,h3,aN⟩:=DL (place:=λi=>some (i*shN R,shN R)) aE iD.toList (fw n z.cells) c ((Array.range (n*shN R)).map λi=>en.cells.toList[i%shN R]!) oF
  (by simpa [yF] using nO) NS h
 obtain⟨ax,aK,lf,l0,uZ,u0,DM⟩:=Iw al f (el:=e) h2 h3;have Bj:nc.size=n*shN R:=by
  have a9:=h2.1;have bt:=nO.1;simp at a9 bt;omega
 refine⟨.slice (some ⟨w.heap.size,0,none⟩) n n,ax,aK,?_,.aq l0 (b6 _) (λc ae=>by cases ae;rfl) (n:=nc.size) (by unfold dO;rw[uZ]) U (λh=>by cases h),u0,DM⟩;have NT:¬(n*shN R > 2^24):=by omega
 simp only[Instr.buildSlice,er,run_underlying hu,ez,cj];rw[if_neg NT];by_cases h0:n*shN R=0
 ·have aF:((Array.range (n*shN R)).map λi=>en.cells.toList[i%shN R]!)= #[]:=by rw[h0];apply m6;simp
  rw[aF] at h1;rw[if_pos h0];simp only[er,hB,ez,h0];have dp:((Array.range 0).map λx=>(#[]:Array Value)[x%(#[]:Array Value).size]!)= #[]:=by apply m6;simp
  rw[dp,h1];simp[lf]
 ·have aF:((Array.range (n*shN R)).map λi=>en.cells.toList[i%shN R]!)=((Array.range (n*shN R)).map λi=>en.cells[i%en.cells.size]!):=by
   apply m6;simp only[uS,yF];apply rh;intro a _;rw[lL,Nm,qi];simp
  rw[aF] at h1;simp only[h0,if_false,er,il,ez,hB];simp only[h1];simp[lf]
end
section
variable {P:Program}{w:World}{m:Nat->Option Nat}{O:Nat->Prop}{B:Nat}
def NU{R fQ:Option Nat}{v:AV}(h:conf R v=true)(h':conf fQ v=true):R=fQ:=by
 cases R<;>cases fQ<;>cases v<;>simp[conf] at h h'<;>first|rfl|(subst h;simp_all)
def a9Q(R:Option Nat)(c:List AV):elems R 0 c=some []:=rfl
def elems_succ(R:Option Nat)(n:Nat)(c:List AV):elems R (n+1) c=match dB R c with
 |none=>none
 |some v=>match elems R n (c.drop (shN R)) with|none=>none|some a8=>some (v::a8):=rfl
def Bk{R:Option Nat}:∀ {n:Nat} {c:List AV} {a8:List AV},(∀x∈c,conf none x=true)->elems R n c=some a8→
  a8.length=n/\a8.flatMap AV.cells=c.take (n*shN R)/\n*shN R<=c.length/\∀v∈a8,conf R v=true
 |0,c,a8,_,h=>by rw[a9Q] at h;cases h;simp
 |n+1,c,a8,hf,h=>by
  rw[elems_succ] at h;split at h<;>try (cases h;done)
  rename_i v au;split at h<;>cases h;rename_i s6 kF;obtain⟨h1,h2,h3,aN⟩:=Bk (λx hx=>hf x (nH hx)) kF;obtain⟨bY,cf⟩:=Vv au hf;refine⟨by simp[h1],?_,?_,?_⟩
  ·rw[j4,h2,bY,jz,qh,uR (n*shN R),List.take_add]
  ·simp at h3;rw[jz];omega
  ·intro a_ yZ;rcases eH.1 yZ with rfl|gh
   ·exact a9i au hf
   ·exact aN a_ gh
def VG{xs:List AV}(h:∀v∈xs,∀x∈v.cells,conf none x=true):∀x∈xs.flatMap AV.cells,conf none x=true:=by
 intro x hx;obtain⟨v,au,hx⟩:=yG.1 hx;exact h v au x hx
def rE{R:Option Nat}{v:AV}(h:conf R v=true):v.cells.length=shN R:=by
 cases R with
 |none=>cases v<;>simp[conf] at h<;>rfl
 |some n=>cases v<;>simp[conf] at h;exact h
def NV{R:Option Nat}{aA:Nat}:∀ {xs:List AV} {off:Nat} (a4:Nat->Nat->Value),(∀i (h:i<xs.length),conf R (xs[i])=true)→
  (∀i (h:i<xs.length),∀j,j<(xs[i]).cells.length->w.cell? ⟨aA,off+i*shN R+j,none⟩=some (a4 i j))→
  (∀i (h:i<xs.length),∀j (aG:j<(xs[i]).cells.length),az w (λ_=>none) O B ((xs[i]).cells[j]) (a4 i j))→
  ∃us,bF w m O B (xs.flatMap AV.cells) us/\us.length=xs.length*shN R/\∀j u,us[j]? =some u->w.cell? ⟨aA,off+j,none⟩=some u
 |[],off,a4,_,_,_=>⟨[],bF.nil,aT,λj u h=>by simp at h⟩
 |x::xs,off,a4,ak,ae,al=>by
  have hx:=ak 0 aT;have hlen:=rE hx;simp only[H2] at hlen;obtain⟨us,h1,h2,h3⟩:=NV (off:=off+shN R) (xs:=xs) (λi j=>a4 (i+1) j) (λi h=>ak (i+1) (by simpa using h))
   (λi h j aG=>by have:=ae (i+1) (by simpa using h) j (by simpa using aG);rw[<-this];congr 2;rw[jz];omega)
   (λi h j aG=>al (i+1) (by simpa using h) j aG)
  refine⟨(List.range x.cells.length).map (a4 0)++us,?_,?_,?_⟩
  ·rw[j4];refine bF.append ⟨aT,λi a9 bt=>?_⟩ h1;have:=(al 0 aT i (by simpa using a9)).up (m:=m);simpa using this
  ·simp[h2,hlen,jz];omega
  ·intro j u hu;rw[yE] at hu;simp only[cb,UE] at hu;split at hu
   ·rename_i aG;have:=ae 0 aT j (by simpa using aG);simp[aG] at hu;subst hu;simpa using this
   ·rename_i aG;have:=h3 _ u hu;rw[<-this];congr 2;omega
end
section
variable {P:Program}{J:ag}{w:World}{m:Nat->Option Nat}{B:Nat}{f:Nat}
def DN(al:Rel P J w m B){x:AV}{u:Value}{xs:List AV}{R:Option Nat}(hx:az w m (bh J m) B x u)(h:readList J x=some xs)(ae:∀a∈xs,conf R a=true):
  ∃base c us,u= .slice base xs.length c/\xs.length<=c/\bF w m (bh J m) B (xs.flatMap AV.cells) us/\us.length=xs.length*shN R/\(∀y∈xs.flatMap AV.cells,conf none y=true)∧
   (match base with|none=>xs=[]/\c=0|some a=>(xs≠[]->a.spot=none)/\(∀j v,us[j]? =some v->w.cell? (a.add j)=some v)/\(xs≠[]->a.block<w.heap.size)):=by
 unfold readList at h;split at h
 ·cases h;cases hx;exact⟨none,0,[],rfl,b6 _,bF.nil,aT,λy aI=>by simp at aI,rfl,rfl⟩
 ·rename_i a9R fQ a9S;cases h;cases hx with
  |kB=>exact⟨none,0,[],rfl,b6 _,bF.nil,aT,λy aI=>by simp at aI,rfl,rfl⟩
  | @aR _ _ _ _ _ _ aA off ec sp a4 c9 ak k0 hG ao hf ei=>
   by_cases he:xs=[]
   ·subst he;exact⟨some ⟨aA,off,sp⟩,ec,[],rfl,aT,bF.nil,aT,λy aI=>by simp at aI,λh=>absurd I h,λj v h=>by simp at h,λh=>absurd I h⟩
   ·have:fQ=R:=by
     have h0:0<xs.length:=H3.2 he;exact NU (ak 0 h0) (ae _ (c3 h0))
    subst this;obtain⟨us,h1,h2,h3⟩:=NV a4 ak k0 hG;obtain rfl:=ei he;exact⟨some ⟨aA,off,none⟩,ec,us,rfl,ao,h1,h2,VG hf,λ_=>rfl,λj v au=>by rw[j8];exact h3 j v au,λb_=>(c9 b_).2.1⟩
 ·rename_i a9R fQ a9S;cases h;cases hx with
  | @iA _ _ _ _ _ _ a n hn he hx=>
   subst hn;cases hx with
   | @aR _ _ _ _ _ _ aA off ec sp a4 c9 ak k0 hG ao hf ei=>
    have:fQ=R:=by
     have h0:0<xs.length:=H3.2 he;exact NU (ak 0 h0) (ae _ (c3 h0))
    subst this;obtain⟨us,h1,h2,h3⟩:=NV a4 ak k0 hG;obtain rfl:=ei he;exact⟨some ⟨aA,off,none⟩,xs.length,us,rfl,ao,h1,h2,VG hf,λ_=>rfl,λj v au=>by rw[j8];exact h3 j v au,λb_=>(c9 b_).2.1⟩
 ·rename_i id off len fQ cap;split at h<;>try (cases h;done)
  rename_i c hg;cases hx with
  | @aq _ _ _ _ _ _ aA n ec _ _ hm ao rF hn fi=>
   obtain⟨arr,el,a2,hh,k0,oC,aZ,jj⟩:=al.cells hm hg;obtain⟨h1,h2,h3,aN⟩:=Bk (λx hx=>jj x (nH hx)) h;have a9T:xs≠[]->fQ=R:=λhe=>by
    have h0:0<xs.length:=H3.2 he;exact NU (aN _ (c3 h0)) (ae _ (c3 h0))
   have hmul:len*shN fQ=len*shN R:=by
    by_cases he:xs=[]
    ·subst he;simp at h1;subst h1;simp
    ·rw[a9T he]
   refine⟨some ⟨aA,off,none⟩,ec,((arr.toList.take c.length).drop off).take (len*shN R),by rw[h1],U,?_,?_,?_,λ_=>rfl,?_,λ_=>Bd hh⟩
   ·rw[h2,hmul];exact(k0.drop off).take _
   ·simp at h3 ⊢;rw[h1];omega
   ·rw[h2];exact λy aI=>jj y (nH (oo aI))
   ·intro j v au;rw[j8,yS hh];obtain⟨aG,yZ⟩:=lG.1 au;simp at aG;rw[<-yZ];simp
 ·cases h
def a9U(l:List Nat):(l.map λc=>AV.i .u8 (Int.ofNat c)).flatMap AV.cells=l.map λc=>AV.i .u8 (Int.ofNat c):=by
 induction l with
 |nil=>rfl
 |cons a l ar=>rw[mv,j4,ar];rfl
def a9V(al:Rel P J w m B){x:AV}{u:Value}{xs:List AV}{R:Option Nat}{oG:TypeId}(aC:(∃cp,P.underlying oG=some (.slice cp))\/P.underlying oG=some .string)(hx:az w m (bh J m) B x u)
  (h:newOf J x=some xs) (ae:∀a∈xs,conf R a=true):
  ∃us,bF w m (bh J m) B (xs.flatMap AV.cells) us/\us.length=xs.length*shN R/\(∀y∈xs.flatMap AV.cells,conf none y=true)/\Src P (shN R) oG u xs.length us w:=by
 have one:∀ {us:List Value},bF w m (bh J m) B (xs.flatMap AV.cells) us->(∀y∈xs.flatMap AV.cells,conf none y=true)->∀u∈us,u.oneCell'=true:=λ{us} h1 h2 u hu=>by
  obtain⟨i,hi,rfl⟩:=lF hu;have du:i<(xs.flatMap AV.cells).length:=by rw[<-h1.1];exact hi
  exact(h1.2 i du hi).NH (h2 _ (c3 du))
 unfold newOf at h;split at h
 ·rename_i l;cases h;obtain⟨rfl,ao⟩:=hx.po;have Bl:(l.map λc=>AV.i .u8 (Int.ofNat c)).flatMap AV.cells=l.map λc=>AV.i .u8 (Int.ofNat c):=a9U l;have cj:l≠[]->shN R=1:=λb_=>by
   cases l with
   |nil=>exact absurd I b_
   |cons a l=>
    have:=ae (.i .u8 (Int.ofNat a)) aT;cases R with
    |none=>rfl
    |some n=>simp[conf] at this
  have IF:byteCells (strOf l)=l.map λc=>Value.int .u8 (Int.ofNat c):=by
   unfold byteCells;rw[Vj,kz];apply rh;intro c y0;have:c<256:=ao c y0;simp;omega
  have Bm:bF w m (bh J m) B ((l.map λc=>AV.i .u8 (Int.ofNat c)).flatMap AV.cells) (byteCells (strOf l)):=by
   rw[Bl,IF];exact⟨aT,λi h1 h2=>by simpa using az.i _ _⟩
  have VH:∀y∈(l.map λc=>AV.i .u8 (Int.ofNat c)).flatMap AV.cells,conf none y=true:=by
   rw[Bl];intro y aI;obtain⟨c,_,rfl⟩:=di.1 aI;rfl
  have hlen:(byteCells (strOf l)).length=(l.map λc=>AV.i .u8 (Int.ofNat c)).length*shN R:=by
   rw[IF];by_cases he:l=[]
   ·subst he;simp
   ·rw[cj he];simp
  refine⟨byteCells (strOf l),Bm,hlen,VH,⟨aC,λax=>?_,?_,?_,hlen,one Bm VH⟩⟩
  ·simp[Builtin.lenOf,wT]
  ·have:(l.map λc=>AV.i .u8 (Int.ofNat c)).length=(strOf l).size:=by simp[wT]
   rw[this];have:=firstCells_string (P:=P) (strOf l) w;simpa [Builtin.firstCells] using this
  ·have:(l.map λc=>AV.i .u8 (Int.ofNat c)).length=(strOf l).size:=by simp[wT]
   rw[this];have:=firstCells_string (P:=P) (strOf l) w.drew;simpa [Builtin.firstCells] using this
 ·obtain⟨base,c,us,rfl,hle,h1,h2,h3,aN⟩:=DN al hx h ae;refine⟨us,h1,h2,h3,⟨aC,λ_=>rfl,?_,?_,h2,one h1 h3⟩⟩
  ·cases base with
   |none=>obtain⟨rfl,_⟩:=aN;have:us=[]:=ou (by simpa using h2);subst this;exact run_firstCells_none w _ _ _ _
   |some a=>exact run_firstCells_some w _ _ a _ _ us h2 aN.2.1
  ·cases base with
   |none=>obtain⟨rfl,_⟩:=aN;have:us=[]:=ou (by simpa using h2);subst this;exact run_firstCells_none w.drew _ _ _ _
   |some a=>exact run_firstCells_some w.drew _ _ a _ _ us h2 (by simpa using aN.2.1)
def IG(al:Rel P J w m B)(f:Nat){t oG ty e:TypeId}{i:TypeInfo}{z:Value}{R:Option Nat}(ht:P.underlying t=some (.slice e))(hi:P.info? e=some i)(cj:i.size=shN R)(aZ:i.zero=some z)(lL:z.cells.size=shN R)
  (wX:i.bytes≠0) {base:Option Addr} {jB qs n:Nat} {qt wY:List AV} {olds news:List Value} {x:Value} (ho:bF w m (bh J m) B qt olds) (DO:olds.length=jB*shN R) (a9W:∀y∈qt,conf none y=true)
  (jj:(Builtin.firstCells (shN R) jB (.slice base jB qs)).run P w.drew= .ok olds.toArray w.drew)
  (hn:bF w m (bh J m) B wY news) (IH:news.length=n*shN R) (NW:∀y∈wY,conf none y=true) (ak:Src P (shN R) oG x n news w) (hg:qs<jB+n)
  (hb:(3*(jB+n)+2000)*i.bytes<=281474976710656):
  ∃u ax aK,(Builtin.append_ #[t,oG] ty #[.slice base jB qs,x]).run P w= .ok u ax/\az ax aK (bh (J.push (.cells (qt++wY))) aK) B (.aq J.next 0 (jB+n) R none) u∧
   Rel P (J.push (.cells (qt++wY))) ax aK B/\Ext f J w m (J.push (.cells (qt++wY))) ax aK:=by
 have rG:1<=i.bytes:=UJ.2 wX;have DG:(3*(jB+n)+2000)*1<=(3*(jB+n)+2000)*i.bytes:=UK _ rG;have rH:2*((jB+n)*i.bytes)<=(3*(jB+n)+2000)*i.bytes:=by
  rw[<-Nat.mul_assoc];exact qg _ U
 have b5:=run_append_grow_src (P:=P) w t oG ty e i z ht hi aZ base jB qs olds (by rw[cj];exact jj) x n news (by rw[cj];exact ak) hg U (growslice_fits hg U);have iX:=grownCap_ge w (jB+n) qs e;have j9:=ho.1;have VI:=hn.1;have a9X:qt.length=jB*shN R:=by omega
 have a9Y:wY.length=n*shN R:=by omega
 have u3:((olds++news).toArray++Builtin.zeroCells z.cells (grownCap w (jB+n) qs e-(jB+n))).size=grownCap w (jB+n) qs e*shN R:=by
  simp only[UL,List.size_toArray,size_zeroCells,lL,h5,DO,IH,← jz]
  congr 1;omega
 obtain⟨h1,h2⟩:=al.alloc f (w.drew.alloc (.cells ((olds++news).toArray++Builtin.zeroCells z.cells (grownCap w (jB+n) qs e-(jB+n))) e)) (.cells (qt++wY)) _ I I I I I
  (.cells (by rw[u3,h5,a9X,a9Y,← jz];exact qg _ iX) (λj h h'=>by
   have aG:j<(olds++news).length:=by simp only[h5] at h ⊢;omega
   have:=(ho.append hn).2 j h aG;rw[UM (by simpa using aG)];simpa using this) (λj _=>by simp) (λy aI=>(gN.1 aI).elim (a9W y) (NW y)))
 refine⟨_,_,_,b5,.aq (hF _ _ _) iX (λc ae=>by cases ae) (n:=grownCap w (jB+n) qs e*shN R) ?_ U (λ_=>by omega),h1,h2⟩;have:(w.drew.alloc (.cells ((olds++news).toArray++Builtin.zeroCells z.cells (grownCap w (jB+n) qs e-(jB+n))) e)).heap[w.heap.size]? =some (.cells ((olds++news).toArray++Builtin.zeroCells z.cells (grownCap w (jB+n) qs e-(jB+n))) e):=by
  exact heap_alloc_new w.drew _
 unfold dO;rw[this];simp only[u3]
end
def jO{α:Type}{p:α->Bool}:∀ {l:List α},cB p l=true->∀x∈l,p x=true
 |[],_,x,hx=>by simp at hx
 |y::l,h,x,hx=>by
  have h':cond (p y) (cB p l) false=true:=h;cases aI:p y with
  |false=>rw[aI] at h';cases h'
  |true=>
   rw[aI] at h';rcases eH.1 hx with rfl|hx
   ·exact aI
   ·exact jO h' x hx
def a9Z{b:Bool}(h:¬b=true):b=false:=by cases b<;>simp at h<;>rfl
section
variable {P:Program}{J:ag}{w:World}{m:Nat->Option Nat}{B:Nat}{f:Nat}
def b0a(al:Rel P J w m B){t oG ty e:TypeId}{i:TypeInfo}{wZ:Value}{R:Option Nat}(ht:P.underlying t=some (.slice e))(hi:P.info? e=some i)(cj:i.size=shN R)(aZ:i.zero=some wZ)(lL:wZ.cells.size=shN R)
  (wX:i.bytes≠0) (aC:(∃cp,P.underlying oG=some (.slice cp))\/P.underlying oG=some .string) {s x:AV} {us DP:Value} (ak:az w m (bh J m) B s us) (hx:az w m (bh J m) B x DP)
  {v:AV} {af:ag} (h:appendO f J R i.bytes s x=some (v,af)):
  ∃u ax aK,(Builtin.append_ #[t,oG] ty #[us,DP]).run P w= .ok u ax/\az ax aK (bh af aK) B v u/\Rel P af ax aK B/\Ext f J w m af ax aK:=by
 unfold appendO at h;split at h<;>try (cases h;done)
 rename_i old new hold pj;cases hb:(cB (conf R) old&&cB (conf R) new&&Nat.ble ((3*(old.length+new.length)+2000)*i.bytes) 281474976710656) with
 |false=>rw[hb] at h;cases h
 |true=>
  rw[hb,cond_true] at h;simp only[c7] at hb;obtain⟨⟨rG,DG⟩,rH⟩:=hb;have II:=eb rH;obtain⟨news,e6,fk,lM,y1⟩:=a9V al aC hx pj (jO DG);obtain⟨base,c,olds,rfl,ev,s_,oH,IJ,NX⟩:=DN al ak hold (jO rG);have jj:(Builtin.firstCells (shN R) old.length (.slice base old.length c)).run P w.drew= .ok olds.toArray w.drew:=by
   cases base with
   |none=>obtain⟨rfl,_⟩:=NX;have:olds=[]:=ou (by simpa using oH);subst this;exact run_firstCells_none w.drew _ _ _ _
   |some a=>exact run_firstCells_some w.drew _ _ a _ _ olds oH (by simpa using NX.2.1)
  split at h
  ·-- nothing
   cases h;have IH:news=[]:=ou (by simpa using fk);subst IH;exact⟨_,w,m,run_append_nothing (P:=P) w t oG ty e i ht hi base old.length c ev DP (by rw[cj];exact y1),ak,al,Ext.refl _ _ _ _⟩
  ·rename_i u4 VJ;generalize VK:u4::VJ=new at *;have w0:0<new.length:=by rw[<-VK];simp
   clear VK u4 VJ;split at h<;>try (cases h;done)
   ·-- a row of rn store
    rename_i id off len fQ cap;split at h<;>try (cases h;done)
    rename_i gF;subst gF;have qu:=ak;generalize k1:Value.slice base old.length c=us at ak;cases ak with
    | @aq _ _ _ _ _ _ aA nf ec _ _ hm ao rF hn fi NY=>
    cases k1;have Bn:∀m8,J.get id=some (.cells m8)->live J id:=λm8 hg=>⟨_,hg,rfl⟩
    obtain⟨m8,hg⟩:∃m8,J.get id=some (.cells m8):=by
     simp only[readList] at hold;split at hold
     ·exact⟨_,by assumption⟩
     ·cases hold
    obtain⟨arr,el,a2,hh,k0,oC,NZ,b0b⟩:=al.cells hm hg;have VL:arr.size=nf:=by unfold dO at hn;rw[hh] at hn;simpa using hn
    have DQ:old.flatMap AV.cells=(m8.drop off).take (old.length*shN fQ)/\old.length*shN fQ<=(m8.drop off).length:=by
     simp only[readList,hg] at hold;obtain⟨a9,bt,cW,_⟩:=Bk (λx hx=>b0b x (nH hx)) hold;exact⟨bt,cW⟩
    have room:old.length+new.length<=c->(Builtin.append_ #[t,oG] ty #[.slice (some ⟨aA,off,none⟩) old.length c,DP]).run P w= .ok (.slice (some ⟨aA,off,none⟩) (old.length+new.length) c) (w.setCells aA (off+old.length*shN fQ) news):=λqv=>by
     have hmul:=qg (shN fQ) qv;rw[jz] at hmul;have:=run_append_room_src (P:=P) w t oG ty e i ht hi aA off old.length c DP new.length news (by rw[cj];exact y1) qv
      (λj aG=>by rw[cj,yS hh,pb U];rfl)
      (λj aG=>by rw[cj,Iv hh];exact NZ _ U)
     rw[cj] at this;exact this
    split at h
    ·rename_i hj;obtain rfl:=rF hj I;cases qv:Nat.ble (old.length+new.length) c with
     |true=>
      rw[qv,cond_true] at h;have N0:=eb qv;split at h<;>try (cases h;done)
      rename_i dP;simp only[hg] at h;split at h<;>cases h;rename_i hE cR;obtain⟨ax,h2,h3,aN⟩:=NI (f:=f) al (by simpa [gD] using dP) hm hg cR e6 lM;have h1:∀u∈news,u.oneCell'=true:=y1.one;have hmul:=qg (shN fQ) N0;rw[jz] at hmul;have b5:=run_storeCells_cells (P:=P) aA (off+old.length*shN fQ) news 0 w
       (λj aG=>by rw[yS hh,pb U];rfl)
       (λj aG=>by rw[Iv hh];exact NZ _ U) h1
      have hw:ax=w.setCells aA (off+old.length*shN fQ) news:=by
       rw[h2] at b5;simpa using b5
      refine⟨_,ax,m,by rw[hw];exact room N0,?_,h3,aN⟩;exact .aq (aN.mono _ _ hm) N0 (λc ae=>by cases ae;rfl) (aN.gU _ _ hn) fi (λh=>by cases h)
     |false=>
      rw[qv,cond_false] at h;cases h;have N1:c<old.length+new.length:=by
       rcases nG c (old.length+new.length) with h|h
       ·exact h
       ·rw[hO h] at qv;cases qv
      exact IG al f ht hi cj aZ lL wX s_ oH IJ jj e6 fk lM y1 N1 II
    ·split at h<;>try (cases h;done)
     rename_i dP;have ta:f<=id:=by simpa [gD] using dP
     split at h<;>cases h;rename_i NR;obtain rfl:=eM NR;by_cases qv:old.length+new.length<=c
     ·have hmul:=qg (shN fQ) qv;rw[jz] at hmul;obtain⟨lf,l0,uZ,u0⟩:=Iq news w aA (0+old.length*shN fQ);have s7:=Ip news w aA (0+old.length*shN fQ) arr el a2 hh;have Ir:(old.flatMap AV.cells).length=old.length*shN fQ:=by have:=s_.1;omega
      have qw:(new.flatMap AV.cells).length=new.length*shN fQ:=by have:=e6.1;omega
      have dh:=al.move ta hm (Bn _ hg) (w.setCells aA (0+old.length*shN fQ) news) (.cells (old.flatMap AV.cells++new.flatMap AV.cells)) I lf (λb hb=>heap_setCells_other news w aA _ b hb) (f:=f)
       (λn hn=>by unfold dO at hn ⊢;rw[hh] at hn;rw[s7];simpa [s5] using hn) l0 uZ u0 ⟨_,s7,?_⟩
      ·obtain⟨h3,aN⟩:=dh;exact⟨_,_,_,room qv,.aq (hF _ _ _) qv (λc ae=>by cases ae) (aN.gU _ _ hn) fi NY,h3,aN⟩
      ·refine .cells (by rw[s5,h5,Ir,qw];omega) (λj h h'=>?_) (by rw[s5];exact NZ) (λy aI=>(gN.1 aI).elim (IJ y) (lM y));rw[h5] at h;have y2:=Bc news arr (0+old.length*shN fQ) j U;rw[pb h'] at y2;by_cases aG:j<(old.flatMap AV.cells).length
       ·rw[HY aG];rw[if_neg U] at y2;have b0c:=s_.2 j aG (by rw[s_.1];exact aG);have N2:arr[j]? =some (olds[j]'(by rw[s_.1];exact aG)):=by
         have:=NX.2.1 j _ (eS (by rw[s_.1];exact aG));rw[j8,yS hh] at this;simpa using this
        rw[N2] at y2;rw[A0 y2];exact b0c
       ·rw[HZ U];rw[if_pos U] at y2;have mI:j-(0+old.length*shN fQ)=j-(old.flatMap AV.cells).length:=by omega
        rw[mI,eS U] at y2;rw[A0 y2];exact e6.2 _ U _
     ·have b0d:=al.cY (f:=f) ta hm (Bn _ hg) w .dead I (λ_ _=>rfl) (λ_ h=>h) I I I (λh=>by cases h);obtain⟨hS,fl⟩:=b0d;have IK:J.next=(J.set id .dead).next:=rfl;have b0e:=IG (ty:=ty) hS f ht hi cj aZ lL wX (s_.ext fl al) oH IJ jj (e6.ext fl al) fk lM y1 U II;obtain⟨u,ax,aK,cn,ct,eN,fm⟩:=b0e;exact⟨u,ax,aK,cn,ct,eN,fl.trans al fm⟩
   ·cases h;have b0f:old=[]:=by simp only[readList] at hold;cases hold;rfl
    subst b0f;cases ak;have h0:olds=[]:=ou (by simpa using oH);subst h0;have:=IG (ty:=ty) al f ht hi cj aZ lL wX (qt:=[]) (olds:=[]) (jB:=0) (qs:=0) bF.nil aT (λy aI=>by simp at aI) jj e6 fk lM y1 U (by simpa using II);simpa using this
   ·split at h<;>try (cases h;done)
    rename_i gF;subst gF;cases h;generalize k1:Value.slice base old.length c=us at ak;cases ak with
    |iA hn b_ hx=>
    cases k1;exact IG al f ht hi cj aZ lL wX s_ oH IJ jj e6 fk lM y1 U II
def IL{b:Nat}{o:Obj}(h:w.heap[b]? =some o)(ae:∀c e z,o≠ .cells c e z):(getObj b).run P w= .ok o w:=by
 simp only[getObj,Sem.run,h]
def VM{b:Nat}{o:Obj}(bV:Obj)(h:w.heap[b]? =some o)(ae:∀c e z,o≠ .cells c e z):(setObj b bV).run P w= .ok () {w with heap:=w.heap.setIfInBounds b bV}:=by
 simp only[setObj,Sem.run,h]
def b0g{t ty n e:TypeId}(ht:P.underlying t=some (.array n e))(u:Value):(Builtin.len_ #[t] ty #[u]).run P w= .ok (.int .i64 (Int.ofNat n)) w:=by
 simp[Builtin.len_,run_underlying ht,goInt]
def N3(al:Rel P J w m B){t ty:TypeId}{k:Nat}(ht:(k=1/\∃e,P.underlying t=some (.slice e))\/(k=0/\P.underlying t=some .string)\/(k=2/\∃a e,P.underlying t=some (.map a e))){x:AV}{n:Nat}{u:Value}(hx:az w m (bh J m) B x u)
  (h:lenA J k x=some n):(Builtin.len_ #[t] ty #[u]).run P w= .ok (.int .i64 (Int.ofNat n)) w:=by
 unfold lenA at h;split at h
 ·cases h;obtain⟨rfl,_⟩:=hx.po;rcases ht with⟨h,_⟩|⟨_,ht⟩|⟨h,_⟩<;>first|(cases h;done)|skip
  simp[Builtin.len_,run_underlying ht,goInt,wT]
 ·cases h;cases hx;rcases ht with⟨_,e,ht⟩|⟨h,_⟩|⟨h,_⟩<;>first|(cases h;done)|skip
  simp[Builtin.len_,run_underlying ht,goInt]
 ·cases h;cases hx;rcases ht with⟨_,e,ht⟩|⟨h,_⟩|⟨h,_⟩<;>first|(cases h;done)|skip
  simp[Builtin.len_,run_underlying ht,goInt]
 ·cases h;rcases ht with⟨_,e,ht⟩|⟨h,_⟩|⟨h,_⟩<;>first|(cases h;done)|skip
  cases hx<;>simp[Builtin.len_,run_underlying ht,goInt]
 ·cases h;cases hx;rcases ht with⟨h,_⟩|⟨h,_⟩|⟨_,a,e,ht⟩<;>first|(cases h;done)|skip
  simp[Builtin.len_,run_underlying ht,goInt]
 ·split at h<;>cases h;rename_i es aU hg;obtain⟨aA,hm,rfl⟩:=hx.Ix;obtain⟨bV,h1,h2⟩:=al.obj _ _ _ hm hg I;rcases ht with⟨h,_⟩|⟨h,_⟩|⟨_,a,e,ht⟩<;>first|(cases h;done)|skip
  cases h2 with
  |map ao _=>simp[Builtin.len_,run_underlying ht,goInt,IL h1 (λ_ _ _ h=>by cases h),ao]
 ·cases h
def IM{k:Nat}{x:AV}{r:bH}(h:lenU J k x=some r):(k=0/\∃ex,x= .hC ex/\r= .g3 [(.iz true,J),(.iz false,J)])\/(k=1/\∃o i,x= .eT o i/\r= .val (.g1 0) J):=by
 unfold lenU at h;split at h<;>cases h
 ·exact .inl ⟨rfl,_,rfl,rfl⟩
 ·exact .inr ⟨rfl,_,_,rfl,rfl⟩
def IN{k:Nat}{x:AV}{r:bH}(h:lenU J k x=some r):(∃l,r= .g3 l)\/(r= .val (.g1 0) J/\∀bA,lenA bA k x=none/\lenU bA k x=some (.val (.g1 0) bA)):=by
 rcases IM h with⟨_,_,_,e⟩|⟨rfl,_,_,rfl,e⟩
 ·exact .inl ⟨_,e⟩
 ·exact .inr ⟨e,λ_=>⟨rfl,rfl⟩⟩
def b0h{t ty e:TypeId}(ht:P.underlying t=some (.slice e)){x:AV}{n:Nat}{u:Value}{O:Nat->Prop}(hx:az w m O B x u)
  (h:capA x=some n):(Builtin.cap_ #[t] ty #[u]).run P w= .ok (.int .i64 (Int.ofNat n)) w:=by
 unfold capA at h;split at h<;>cases h
 ·cases hx;simp[Builtin.cap_,run_underlying ht,goInt]
 ·cases hx with
  |aq h ao ae hn fi=>
   obtain rfl:=ae _ I;simp[Builtin.cap_,run_underlying ht,goInt]
def N4{x:AV}{r:bH}(h:capO f J x=some r):∃id off len R c,x= .aq id off len R none/\f<=id/\J.get id=some (.cells c)/\c.length=off+len*shN R/\r= .g3 ((List.range 12).map (λk=>(AV.i .i64 (Int.ofNat (len+k)),J.set id (.hc c (k*shN R))))++[(AV.g1 (len+12),J.set id (.hc c (12*shN R)))]):=by
 unfold capO at h;split at h<;>try (cases h;done)
 rename_i id off len R;cases h1:Nat.blt id f with
 |true=>rw[h1] at h;cases h
 |false=>
  rw[h1,cond_false] at h;split at h<;>try (cases h;done)
  rename_i c hg;cases h2:Nat.beq c.length (off+len*shN R) with
  |false=>rw[h2] at h;cases h
  |true=>
   rw[h2,cond_true] at h;cases h;exact⟨id,off,len,R,c,rfl,Nat.le_of_not_lt (λh=>by rw[show Nat.blt id f=true from hO h] at h1;cases h1),hg,eM h2,rfl⟩
def b0i(al:Rel P J w m B){t ty e:TypeId}(ht:P.underlying t=some (.slice e)){x:AV}{u:Value}(hx:az w m (bh J m) B x u){l:List (AV×ag)}(h:capO f J x=some (.g3 l)):
  ∃p∈l,∃bW ax aK,(Builtin.cap_ #[t] ty #[u]).run P w= .ok bW ax/\az ax aK (bh p.2 aK) B p.1 bW/\Rel P p.2 ax aK B/\Ext f J w m p.2 ax aK:=by
 obtain⟨id,off,len,R,c,rfl,dP,hg,j9,aF⟩:=N4 h;injection aF with aF
 subst aF;cases hx with
 | @aq _ _ _ _ _ _ aA n ec _ _ hm ao rF hn fi NY=>
  obtain⟨arr,el,a2,hh,k0,oC,aZ,jj⟩:=al.cells hm hg;have jC:arr.size=n:=by unfold dO at hn;rw[hh] at hn;simpa using hn
  have VN:=NY I;have main:∀k,len+k<=ec->Rel P (J.set id (.hc c (k*shN R))) w m B/\Ext f J w m (J.set id (.hc c (k*shN R))) w m:=λk aC=>by
   have hmul:=qg (shN R) aC;rw[jz] at hmul;refine al.cY dP hm ⟨_,hg,rfl⟩ w (.hc _ _) I (λ_ _=>rfl) (λ_ h=>h) I I I (λ_=>⟨_,hh,?_⟩);refine .hc U (λi h h'=>?_) aZ jj;have:=k0.2 i h (by rw[k0.1];exact h);simpa using this
  by_cases aC:ec<len+12
  ·obtain⟨h1,h2⟩:=main (ec-len) U;refine⟨_,wL _ (di.2 ⟨ec-len,List.mem_range.2 U,rfl⟩),.int .i64 (Int.ofNat ec),w,m,by simp[Builtin.cap_,run_underlying ht,goInt],?_,h1,h2⟩;show az w m _ B (.i .i64 (Int.ofNat (len+(ec-len)))) _;rw[show len+(ec-len)=ec by omega];exact .i _ _
  ·obtain⟨h1,h2⟩:=main 12 U;exact⟨_,yH _ (dx.2 I),.int .i64 (Int.ofNat ec),w,m,by simp[Builtin.cap_,run_underlying ht,goInt],.g1 ec U,h1,h2⟩
def az.b0j{w:World}{m:Nat->Option Nat}{O:Nat->Prop}{B:Nat}{old:Bool}{i:Nat}{u:Value}(h:az w m O B (.eT old i) u):∃a l c,u= .slice a l c:=by cases h with|eT hu _=>exact⟨_,_,_,hu⟩
def b0k{n j:Nat}{u bW:Value}{O:Nat->Prop}(hx:az w m O B (.g1 n) u)(aI:az w m O B (.i .i64 (Int.ofNat j)) bW)(aG:j<=n)(t:TypeId)(h8:Array TypeId):
  (Builtin.min_ h8 t #[u,bW]).run P w= .ok (.int .i64 (Int.ofNat j)) w:=by
 cases hx with
 |g1 k aC=>
  obtain rfl:=aI.lg;have e:(if(Int.ofNat j)<(Int.ofNat k) then(Int.ofNat j) else Int.ofNat k)=Int.ofNat j:=by
   split
   ·rfl
   ·rename_i h;congr 1;simp only[uQ,Dp] at h;omega
  simp[Builtin.min_,Builtin.min2];simpa using e
def b0l{n j:Nat}{u bW:Value}{O:Nat->Prop}(hx:az w m O B (.i .i64 (Int.ofNat j)) u)(aI:az w m O B (.g1 n) bW)(aG:j<=n)(t:TypeId)(h8:Array TypeId):
  (Builtin.min_ h8 t #[u,bW]).run P w= .ok (.int .i64 (Int.ofNat j)) w:=by
 cases aI with
 |g1 k aC=>
  obtain rfl:=hx.lg;have e:(if(Int.ofNat k)<(Int.ofNat j) then(Int.ofNat k) else Int.ofNat j)=Int.ofNat j:=by
   split
   ·rename_i h;simp only[uQ,Dp] at h;omega
   ·rfl
  simp[Builtin.min_,Builtin.min2];simpa using e
def VO{k:IntKind}{a b:Int}{u bW:Value}{O:Nat->Prop}(hx:az w m O B (.i k a) u)(aI:az w m O B (.i k b) bW)(t:TypeId)(h8:Array TypeId):
  (Builtin.min_ h8 t #[u,bW]).run P w= .ok (.int k (if b<a then b else a)) w/\(Builtin.max_ h8 t #[u,bW]).run P w= .ok (.int k (if b > a then b else a)) w:=by
 obtain rfl:=hx.lg;obtain rfl:=aI.lg;constructor
 ·simp[Builtin.min_,Builtin.min2]
 ·simp[Builtin.max_,Builtin.max2]
end
section
variable {P:Program}{w:World}{m:Nat->Option Nat}{O:Nat->Prop}{B:Nat}
def VP(k:Nat)(d:TypeDesc):Prop:=(k=0/\∃j,d= .int j)\/(k=1/\d= .string)\/(k=2/\d= .bool)
def N5{t:TypeId}{k:Nat}(h:leafKind P t=some k):∃d,P.underlying t=some d/\VP k d:=by
 unfold leafKind at h;split at h<;>cases h
 ·exact⟨_,by assumption,.inl ⟨rfl,_,rfl⟩⟩
 ·exact⟨_,by assumption,.inr (.inl ⟨rfl,rfl⟩)⟩
 ·exact⟨_,by assumption,.inr (.inr ⟨rfl,rfl⟩)⟩
def b0m{x y:List Nat}(hx:∀c∈x,c<256)(aI:∀c∈y,c<256):(strOf x==strOf y)=eqL x y:=by
 rw[rl,UH,rB];constructor
 ·intro h;have:=congrArg ByteArray.toList h;rw[Be,Be] at this;exact NK x y hx aI this
 ·rintro rfl;rfl
def y3{t:TypeId}{k:Nat}(aC:leafKind P t=some k){x y:AV}{u v:Value}{r:Bool}(hx:az w m O B x u)(aI:az w m O B y v)(h:leafEq k x y=some r):
  (∀d ax,(Op.equalIn (d+1) t u v).run P ax= .ok r ax)/\(∃d,P.underlying t=some d/\VP k d/\Instr.sameNow d u v=some r)/\(r=true->∀n,Instr.sameBits n u v=true)/\(∀e d ax,(Instr.checkKey e (d+1) t u).run P ax= .ok () ax):=by
 obtain⟨d,an,y4⟩:=N5 aC;unfold leafEq at h;split at h
 ·rename_i bM a ba b;split at h<;>cases h;rename_i ng;subst ng;obtain rfl:=hx.lg;obtain rfl:=aI.lg;rcases y4 with⟨_,j,rfl⟩|⟨h,_⟩|⟨h,_⟩<;>first|(cases h;done)|skip
  have iC:(a==b)=decide (a=b):=by rw[rl];simp
  refine⟨λd ax=>?_,⟨_,an,.inl ⟨rfl,j,rfl⟩,?_⟩,λal n=>?_,λe d ax=>?_⟩
  ·simp[Op.equalIn,run_underlying an,iC]
  ·simp[Instr.sameNow,iC]
  ·simp at al;subst al;simp[Instr.sameBits]
  ·simp[Instr.checkKey,run_underlying an]
 ·rename_i a b;cases h;obtain⟨rfl,h1⟩:=hx.po;obtain⟨rfl,h2⟩:=aI.po;rcases y4 with⟨h,_⟩|⟨_,rfl⟩|⟨h,_⟩<;>first|(cases h;done)|skip
  have iC:=b0m h1 h2;refine⟨λd ax=>?_,⟨_,an,.inr (.inl ⟨rfl,rfl⟩),?_⟩,λal n=>?_,λe d ax=>?_⟩
  ·simp[Op.equalIn,run_underlying an,iC]
  ·simp[Instr.sameNow,iC]
  ·simp[Instr.sameBits,iC,al]
  ·simp[Instr.checkKey,run_underlying an]
 ·rename_i a b;cases h;obtain rfl:=hx.wU;obtain rfl:=aI.wU;rcases y4 with⟨h,_⟩|⟨h,_⟩|⟨_,rfl⟩<;>first|(cases h;done)|skip
  refine⟨λd ax=>?_,⟨_,an,.inr (.inr ⟨rfl,rfl⟩),?_⟩,λal n=>?_,λe d ax=>?_⟩
  ·simp[Op.equalIn,run_underlying an]
  ·simp[Instr.sameNow]
  ·simp[Instr.sameBits];simpa using al
  ·simp[Instr.checkKey,run_underlying an]
 ·rename_i ex b;cases hm:qj b ex with
  |false=>rw[hm] at h;cases h
  |true=>
   rw[hm] at h;cases h;obtain⟨s,rfl,b_⟩:=Iy hx hm;obtain⟨rfl,h2⟩:=aI.po;rcases y4 with⟨h,_⟩|⟨_,rfl⟩|⟨h,_⟩<;>first|(cases h;done)|skip
   have iC:=Vp b_;refine⟨λd ax=>?_,⟨_,an,.inr (.inl ⟨rfl,rfl⟩),?_⟩,λal n=>?_,λe d ax=>?_⟩
   ·simp[Op.equalIn,run_underlying an,iC]
   ·simp[Instr.sameNow,iC]
   ·cases al
   ·simp[Instr.checkKey,run_underlying an]
 ·rename_i a ex;cases hm:qj a ex with
  |false=>rw[hm] at h;cases h
  |true=>
   rw[hm] at h;cases h;obtain⟨s,rfl,b_⟩:=Iy aI hm;obtain⟨rfl,h2⟩:=hx.po;rcases y4 with⟨h,_⟩|⟨_,rfl⟩|⟨h,_⟩<;>first|(cases h;done)|skip
   have iC:=Vp (om b_);refine⟨λd ax=>?_,⟨_,an,.inr (.inl ⟨rfl,rfl⟩),?_⟩,λal n=>?_,λe d ax=>?_⟩
   ·simp[Op.equalIn,run_underlying an,iC]
   ·simp[Instr.sameNow,iC]
   ·cases al
   ·simp[Instr.checkKey,run_underlying an]
 ·cases h
def leafEqs_nil(l r:List AV):mz [] l r=match l,r with|[],[]=>some true|_,_=>none:=rfl
def leafEqs_cons(k:Nat)(a7:List Nat)(l r:List AV):mz (k::a7) l r=match l,r with
   |x::xs,y::a4=>match leafEq k x y,mz a7 xs a4 with|some a,some b=>some (a&&b)|_,_=>none
   |_,_=>none:=rfl
def N6(P:Program)(i:Nat)(bO:List Field):Prop:=∀j (h:j<bO.length),(bO[j]).name≠ "_" ∧(bO[j]).offset=i+j/\shapeOf P (bO[j]).type=some none
def DR{t:TypeId}(ak:shapeOf P t=some none){arr:Array Value}{i:Nat}{u:Value}(hu:arr[i]? =some u)(w:World):(part t arr i).run P w= .ok u w:=by
 obtain⟨h1,_⟩:=j7 ak w;simp[part,h1,hu]
def forIn_eq{d:Nat}:∀(bO:List Field) (i:Nat) (a7:List Nat) (l r:List AV) (us a8:Array Value) (res:Bool),N6 P i bO->mapOL (λf=>leafKind P f.type) bO=some a7→
  bF w m O B l (us.toList.drop i)->bF w m O B r (a8.toList.drop i)->mz a7 l r=some res->∀ax,
  (forIn bO ((none:Option Bool),()) (λ(f:Field) (_:Option Bool×Unit)=>
      if f.name= "_" then(pure (ForInStep.yield (none,())):Sem (ForInStep (Option Bool×Unit)))
      else do
       let a <-part f.type us f.offset
       let b <-part f.type a8 f.offset
       let c <-Op.equalIn (d+1) f.type a b
       if c=false then pure (ForInStep.done (some false,())) else pure (ForInStep.yield (none,())))).run P ax= .ok (if res then(none,()) else(some false,())) ax
 |[],i,a7,l,r,us,a8,res,_,aC,ao,al,h,ax=>by
  simp[mapOL] at aC;subst aC;rw[leafEqs_nil] at h;split at h<;>cases h;simp
 |f::bO,i,a7,l,r,us,a8,res,hf,aC,ao,al,h,ax=>by
  rw[mapOL] at aC;split at aC<;>cases aC;rename_i k l2 ik qq;rw[leafEqs_cons] at h;split at h<;>try (cases h;done)
  rename_i x xs y a4;split at h<;>cases h;rename_i a b ha hb;obtain⟨h1,h2,h3⟩:=hf 0 aT;simp only[H2,yD] at h1 h2 h3;obtain⟨u,hu,h7⟩:=ao.get (i:=0) (v:=x) I;obtain⟨v,au,N7⟩:=al.get (i:=0) (v:=y) I;rw[ri,yD,mr] at hu au;obtain⟨aF,_⟩:=y3 ik h7 N7 ha;have p1:=DR h3 hu;have p2:=DR h3 au;have gE:bF w m O B xs (us.toList.drop (i+1)):=by
   have:=ao.drop 1;simpa [ov] using this
  have pr:bF w m O B a4 (a8.toList.drop (i+1)):=by
   have:=al.drop 1;simpa [ov] using this
  have ar:=forIn_eq bO (i+1) l2 xs a4 us a8 b (λj aG=>by
   have:=hf (j+1) (by simpa using aG);simp only[Dr] at this;exact⟨this.1,by rw[this.2.1];omega,this.2.2⟩) qq gE pr hb ax (d:=d)
  rw[H4];simp only[h1,if_false,er,h2,p1,p2,ez,aF];cases a with
  |false=>simp
  |true=>simpa using ar
def VQ{e:Bool}{d:Nat}:∀(bO:List Field) (i:Nat) (a7:List Nat) (l:List AV) (us:Array Value) (res:Bool),N6 P i bO->mapOL (λf=>leafKind P f.type) bO=some a7→
  bF w m O B l (us.toList.drop i)->mz a7 l l=some res->∀ax,
  (forIn bO PUnit.unit (λ(f:Field) (_:PUnit)=>
      if f.name≠ "_" then(do
       let a <-part f.type us f.offset
       Instr.checkKey e (d+1) f.type a
       pure (ForInStep.yield PUnit.unit):Sem (ForInStep PUnit))
      else pure (ForInStep.yield PUnit.unit))).run P ax= .ok PUnit.unit ax
 |[],i,a7,l,us,res,_,aC,ao,h,ax=>by simp
 |f::bO,i,a7,l,us,res,hf,aC,ao,h,ax=>by
  rw[mapOL] at aC;split at aC<;>cases aC;rename_i k l2 ik qq;rw[leafEqs_cons] at h;cases l with
  |nil=>cases h
  |cons x xs=>
  simp only at h;split at h<;>cases h;rename_i a b ha hb;obtain⟨h1,h2,h3⟩:=hf 0 aT;simp only[H2,yD] at h1 h2 h3;obtain⟨u,hu,h7⟩:=ao.get (i:=0) (v:=x) I;rw[ri,yD,mr] at hu;obtain⟨_,_,_,aF⟩:=y3 ik h7 h7 ha;have p1:=DR h3 hu;have gE:bF w m O B xs (us.toList.drop (i+1)):=by
   have:=ao.drop 1;simpa [ov] using this
  have ar:=VQ (e:=e) (d:=d) bO (i+1) l2 xs us b (λj aG=>by
   have:=hf (j+1) (by simpa using aG);simp only[Dr] at this;exact⟨this.1,by rw[this.2.1];omega,this.2.2⟩) qq gE hb ax
  rw[H4];simp only[h1,ne_eq,not_false_eq_true,if_true,er,h2,p1,ez,aF,hB];exact ar
def VR:∀ {a7:List Nat} {bO:List Field} {l r:List AV} {us a8:List Value},mapOL (λf=>leafKind P f.type) bO=some a7->bF w m O B l us->bF w m O B r a8->mz a7 l r=some true->∀n,
  us.length=a8.length/\(us.zip a8).all (λ(x,y)=>Instr.sameBits n x y)=true
 |[],bO,l,r,us,a8,aC,ao,al,h,n=>by
  rw[leafEqs_nil] at h;split at h<;>cases h;have h1:=ao.1;have h2:=al.1;simp at h1 h2;subst h1;subst h2;simp
 |k::a7,[],l,r,us,a8,aC,ao,al,h,n=>by simp[mapOL] at aC
 |k::a7,f::bO,l,r,us,a8,aC,ao,al,h,n=>by
  rw[mapOL] at aC;split at aC<;>cases aC;rename_i ik qq;rw[leafEqs_cons] at h;split at h<;>try (cases h;done)
  rename_i x xs y a4;split at h<;>try (cases h;done)
  rename_i a b ha hb;simp only[cw,c7] at h;obtain⟨rfl,rfl⟩:=h;obtain⟨u,IP,rfl⟩:∃u IP,us=u::IP:=by cases us with|nil=>have:=ao.1;simp at this|cons u IP=>exact⟨u,IP,rfl⟩
  obtain⟨v,s6,rfl⟩:∃v s6,a8=v::s6:=by cases a8 with|nil=>have:=al.1;simp at this|cons v s6=>exact⟨v,s6,rfl⟩
  have hu:az w m O B x u:=ao.2 0 aT aT;have au:az w m O B y v:=al.2 0 aT aT;obtain⟨_,_,rG,_⟩:=y3 ik hu au ha;obtain⟨i1,i2⟩:=VR qq (by simpa using ao.drop 1) (by simpa using al.drop 1) hb n;exact⟨by simpa using i1,by simp only[UN,H5,rG I n,i2,H6]⟩
def IQ{t:TypeId}{a7:List Nat}(h:keyOk P t=some (.inr a7)):∃bO,P.underlying t=some (.struct bO)/\P.stoodInHeld t=false/\N6 P 0 bO.toList/\mapOL (λf=>leafKind P f.type) bO.toList=some a7:=by
 unfold keyOk at h;split at h
 ·cases h
 ·split at h<;>try (cases h;done)
  rename_i bO hu;split at h<;>try (cases h;done)
  rename_i ae;simp only[c7,wM,mx] at ae;cases hm:mapOL (λf=>leafKind P f.type) bO.toList with
  |none=>simp[hm] at h
  |some l2=>
   simp[hm] at h;subst h;refine⟨bO,hu,ae.1,λj aG=>?_,hm⟩;have:=ae.2 (bO.toList[j],j) (by rw[List.mem_iff_getElem];exact⟨j,by simpa using aG,aT⟩);simp only[c7,decide_eq_true_eq] at this;exact⟨this.1.1,by rw[this.1.2];omega,this.2⟩
def IS{t:TypeId}{k:Nat}(h:keyOk P t=some (.inl k)):leafKind P t=some k:=by
 unfold keyOk at h;split at h
 ·cases h;assumption
 ·split at h<;>try (cases h;done)
  split at h
  ·rename_i bO _ _;cases hm:mapOL (λf=>leafKind P f.type) bO.toList with
   |none=>simp[hm] at h
   |some l2=>simp[hm] at h
  ·cases h
def eqStruct_run{t:TypeId}{bO:Array Field}(hu:P.underlying t=some (.struct bO))(ak:P.stoodInHeld t=false)(D:Nat)(us a8:Array Value)(ax:World):
  (Op.equalIn (D+1) t (.agg us) (.agg a8)).run P ax=((forIn bO.toList ((none:Option Bool),()) (λ(f:Field) (_:Option Bool×Unit)=>
      if f.name= "_" then(pure (ForInStep.yield (none,())):Sem (ForInStep (Option Bool×Unit)))
      else do
       let a <-part f.type us f.offset
       let b <-part f.type a8 f.offset
       let c <-Op.equalIn D f.type a b
       if c=false then pure (ForInStep.done (some false,())) else pure (ForInStep.yield (none,())))).run P ax).andThen (λa ax=>Sem.run P (match a.fst with|some r=>pure r|none=>pure true) ax):=by
 simp only[Op.equalIn,er,run_underlying hu,ez];simp[ak]
 congr 1
 funext a bf
 obtain⟨a,_⟩:=a;cases a<;>rfl
def b0n{t:TypeId}{bO:Array Field}(hu:P.underlying t=some (.struct bO))(e:Bool)(D:Nat)(us:Array Value)(ax:World):
  (Instr.checkKey e (D+1) t (.agg us)).run P ax=((forIn bO.toList PUnit.unit (λ(f:Field) (_:PUnit)=>
      if f.name≠ "_" then(do
       let a <-part f.type us f.offset
       Instr.checkKey e D f.type a
       pure (ForInStep.yield PUnit.unit):Sem (ForInStep PUnit))
      else pure (ForInStep.yield PUnit.unit))).run P ax).andThen λ_ ax=>Sem.run P (pure ()) ax:=by
 simp only[Instr.checkKey,er,run_underlying hu,ez];rw[<-Array.forIn_toList]
def IT{t:TypeId}{R:jf}(aC:keyOk P t=some R){x y:AV}{u v:Value}{r:Bool}(hx:az w m O B x u)(aI:az w m O B y v)(h:keyEq R x y=some r):
  (∀ax,(Op.equal t u v).run P ax= .ok r ax)/\(r=true->Instr.sameBits 10000 u v=true):=by
 cases R with
 |inl k=>
  obtain⟨h1,_,h2,_⟩:=y3 (IS aC) hx aI h;exact⟨λax=>h1 9999 ax,λal=>h2 al _⟩
 |inr a7=>
  obtain⟨bO,hu,ak,hf,hm⟩:=IQ aC;simp only[keyEq] at h;split at h<;>try (cases h;done)
  obtain⟨us,rfl,ao,_⟩:=hx.qo;obtain⟨a8,rfl,al,_⟩:=aI.qo;refine⟨λax=>?_,λb0o=>?_⟩
  ·have key:∀d,(Op.equalIn (d+2) t (.agg us) (.agg a8)).run P ax= .ok r ax:=λd=>by
    have:=forIn_eq (ax:=ax) (d:=d) bO.toList 0 a7 _ _ us a8 r hf hm (by simpa using ao) (by simpa using al) h;rw[eqStruct_run hu ak (d+1),this];cases r<;>simp
   exact key 9998
  ·subst b0o;obtain⟨h1,h2⟩:=VR (P:=P) hm ao al h 9999;have key:∀n,Instr.sameBits (n+1) (.agg us) (.agg a8)=(us.size==a8.size&&(us.toList.zip a8.toList).all λ(x,y)=>Instr.sameBits n x y):=λn=>rfl;rw[show(10000:Nat)=9999+1 from rfl,key,h2];simpa using h1
def VS{t:TypeId}{R:jf}(aC:keyOk P t=some R){x:AV}{u:Value}{r:Bool}(hx:az w m O B x u)(h:keyEq R x x=some r)(e:Bool)(ax:World):(Instr.checkKey e 10000 t u).run P ax= .ok () ax:=by
 cases R with
 |inl k=>
  obtain⟨_,_,_,h1⟩:=y3 (IS aC) hx hx h;exact h1 e 9999 ax
 |inr a7=>
  obtain⟨bO,hu,ak,hf,hm⟩:=IQ aC;simp only[keyEq] at h;cases x<;>simp only[reduceCtorEq] at h;obtain⟨us,rfl,ao,_⟩:=hx.qo;have key:∀d,(Instr.checkKey e (d+2) t (.agg us)).run P ax= .ok () ax:=λd=>by
   have:=VQ (ax:=ax) (e:=e) (d:=d) bO.toList 0 a7 _ us r hf hm (by simpa using ao) h;rw[b0n hu e (d+1),this];rfl
  exact key 9998
def VT{t:TypeId}{R:jf}(aC:keyOk P t=some R){x:AV}{u:Value}(hx:az w m O B x u)(h:keySelf R x=true)(e:Bool)(ax:World):(Instr.checkKey e 10000 t u).run P ax= .ok () ax:=by
 unfold keySelf at h;split at h
 ·rename_i ex;obtain⟨d,an,y4⟩:=N5 (IS aC);rcases y4 with⟨h,_⟩|⟨_,rfl⟩|⟨h,_⟩<;>first|(cases h;done)|skip
  cases hx with
  | @hC _ _ _ _ s _=>
   have key:∀d,(Instr.checkKey e (d+1) t (.string s)).run P ax= .ok () ax:=λd=>by simp[Instr.checkKey,run_underlying an]
   exact key 9999
 ·split at h
  ·rename_i al;exact VS aC hx al e ax
  ·cases h
end
def VU{α β:Type}{r:α->β->Prop}:∀ {l:List α} {bq:List β},bq.length=l.length->(∀i (h:i<l.length) (h':i<bq.length),r (l[i]) (bq[i]))->iW r l bq
 |[],[],_,_=>trivial
 |[],_::_,h,_=>by simp at h
 |_::_,[],h,_=>by simp at h
 |x::xs,y::a4,h,al=>⟨al 0 aT aT,VU (by simpa using h) (λi a b=>al (i+1) (by simpa using a) (by simpa using b))⟩
def y5{α β:Type}{r:α->β->Prop}:∀ {l:List α} {bq:List β},iW r l bq->bq.length=l.length
 |[],[],_=>rfl
 |[],_::_,h=>h.elim
 |_::_,[],h=>h.elim
 |_::_,_::_,h=>by simp[y5 h.2]
def y6{α β:Type}{r:α->β->Prop}:∀ {l:List α} {bq:List β},iW r l bq->∀i (h:i<l.length) (h':i<bq.length),r (l[i]) (bq[i])
 |[],[],_,i,h,_=>by simp at h
 |[],_::_,h,_,_,_=>h.elim
 |_::_,[],h,_,_,_=>h.elim
 |_::_,_::_,h,i,h1,h2=>by
  cases i with
  |zero=>exact h.1
  |succ i=>exact y6 h.2 i (by simpa using h1) (by simpa using h2)
abbrev kG:=AV×AV×Nat
def qx(R:jf)(k:AV):List kG->Option Nat->Prop
 |[],none=>True
 |[],some _=>False
 |e::_,some 0=>keyEq R k e.1=some true
 |e::es,some (i+1)=>keyEq R k e.1=some false/\qx R k es (some i)
 |e::es,none=>keyEq R k e.1=some false/\qx R k es none
def b0p(R:jf)(k:AV):oy R k []=some none:=rfl
def findE_cons(R:jf)(k:AV)(e:kG)(es:List kG):oy R k (e::es)=match keyEq R k e.1 with|none=>none|some true=>some (some e.2.1)|some false=>oy R k es:=rfl
def b0q(R:jf)(k v:AV):kX R k v []=some none:=rfl
def updE_cons(R:jf)(k v:AV)(e:kG)(es:List kG):kX R k v (e::es)=match keyEq R k e.1 with
  |none=>none
  |some true=>some (some ((k,v,e.2.2)::es))
  |some false=>match kX R k v es with|none=>none|some none=>some none|some (some es)=>some (some (e::es)):=rfl
def N8{R:jf}{k:AV}:∀ {es:List kG} {r:Option AV},oy R k es=some r->(r=none/\qx R k es none)\/∃i e,qx R k es (some i)/\es[i]? =some e/\r=some e.2.1
 |[],r,h=>by rw[b0p] at h;cases h;exact .inl ⟨rfl,trivial⟩
 |e::es,r,h=>by
  rw[findE_cons] at h;split at h
  ·cases h
  ·rename_i aC;cases h;exact .inr ⟨0,e,aC,rfl,rfl⟩
  ·rename_i aC;rcases N8 h with⟨h1,h2⟩|⟨i,cp,h1,h2,h3⟩
   ·exact .inl ⟨h1,aC,h2⟩
   ·exact .inr ⟨i+1,cp,⟨aC,h1⟩,by simpa using h2,h3⟩
def N9{R:jf}{k v:AV}:∀ {es:List kG} {r:Option (List kG)},kX R k v es=some r->(r=none/\qx R k es none)\/∃i e,qx R k es (some i)/\es[i]? =some e/\r=some (es.set i (k,v,e.2.2))
 |[],r,h=>by rw[b0q] at h;cases h;exact .inl ⟨rfl,trivial⟩
 |e::es,r,h=>by
  rw[updE_cons] at h;split at h
  ·cases h
  ·rename_i aC;cases h;exact .inr ⟨0,e,aC,rfl,rfl⟩
  ·rename_i aC;split at h<;>cases h
   ·rename_i hu;rcases N9 hu with⟨h1,h2⟩|⟨i,cp,h1,h2,h3⟩
    ·exact .inl ⟨rfl,aC,h2⟩
    ·cases h3
   ·rename_i k2 hu;rcases N9 hu with⟨h1,h2⟩|⟨i,cp,h1,h2,h3⟩
    ·cases h1
    ·cases h3;exact .inr ⟨i+1,cp,⟨aC,h1⟩,by simpa using h2,rfl⟩
def VV{k:Nat}{x y:AV}(h:leafEq k x y=some true):leafEq k y x=some true:=by
 unfold leafEq at h;split at h
 ·split at h<;>simp at h;rename_i e;subst e;subst h;simp[leafEq]
 ·simp only[cw,rB] at h;subst h;simp[leafEq,(rB _ _).2 I]
 ·simp at h;subst h;simp[leafEq]
 ·rename_i ex b;cases hm:qj b ex<;>rw[hm] at h<;>cases h
 ·rename_i a ex;cases hm:qj a ex<;>rw[hm] at h<;>cases h
 ·cases h
def VW:∀ {a7:List Nat} {x y:List AV},mz a7 x y=some true->mz a7 y x=some true
 |[],x,y,h=>by
  rw[leafEqs_nil] at h ⊢;split at h<;>cases h;rfl
 |k::a7,x,y,h=>by
  rw[leafEqs_cons] at h ⊢;split at h<;>try (cases h;done)
  split at h<;>try (cases h;done)
  rename_i ha hb;simp only[cw,c7] at h;obtain⟨rfl,rfl⟩:=h;simp only[VV ha,VW hb,H6]
def b0r{R:jf}{x y:AV}(h:keyEq R x y=some true):keyEq R y x=some true:=by
 cases R with
 |inl k=>exact VV h
 |inr a7=>
  simp only[keyEq] at h ⊢;split at h<;>try (cases h;done)
  exact VW h
section
variable {P:Program}{w:World}{m:Nat->Option Nat}{O:Nat->Prop}{B:Nat}
def u5(w:World)(m:Nat->Option Nat)(O:Nat->Prop)(B:Nat)(e:kG)(cp:MapEntry):Prop:=az w m O B e.1 cp.key/\az w m O B e.2.1 cp.val/\cp.born=e.2.2
def got(q:Option Nat)(n:Nat)(dI:List MapEntry):Option (Nat×Value):=match q with|none=>none|some i=>match dI[i]? with|some e=>some (i+n,e.val)|none=>none
def N_{t:TypeId}{R:jf}(aC:keyOk P t=some R){k:AV}{u:Value}(hu:az w m O B k u):∀ {es:List kG} {dI:List MapEntry} {q:Option Nat} (n:Nat),iW (u5 w m O B) es dI->qx R k es q->∀ax,
  (Instr.findAsking t u dI n).run P ax= .ok (got q n dI) ax
 |[],[],q,n,_,h,ax=>by
  cases q with
  |none=>simp[Instr.findAsking,got]
  |some i=>exact h.elim
 |[],_::_,_,_,h,_,_=>h.elim
 |_::_,[],_,_,h,_,_=>h.elim
 |e::es,cp::dI,q,n,al,h,ax=>by
  cases q with
  |none=>
   obtain⟨h1,h2⟩:=h;have:=(IT aC hu al.1.1 h1).1 ax;have ar:=N_ aC hu (n+1) al.2 h2 ax;simp[Instr.findAsking,this,ar,got]
  |some i=>
   cases i with
   |zero=>
    have:=(IT aC hu al.1.1 h).1 ax;simp[Instr.findAsking,this,got]
   |succ i=>
    obtain⟨h1,h2⟩:=h;have:=(IT aC hu al.1.1 h1).1 ax;have ar:=N_ aC hu (n+1) al.2 h2 ax;simp only[Instr.findAsking,er,this,ez,rj,if_false,ar,got,HW];cases dI[i]? <;>simp;omega
def Oa{t:TypeId}{oD:Nat}{d:TypeDesc}(an:P.underlying t=some d)(aC:leafKind P t=some oD){k:AV}{u:Value}(hu:az w m O B k u):∀ {es:List kG} {dI:List MapEntry} {q:Option Nat} (n:Nat),iW (u5 w m O B) es dI->qx (.inl oD) k es q→
  Instr.findNow d u dI n=some (got q n dI)
 |[],[],q,n,_,h=>by
  cases q with
  |none=>simp[Instr.findNow,got]
  |some i=>exact h.elim
 |[],_::_,_,_,h,_=>h.elim
 |_::_,[],_,_,h,_=>h.elim
 |e::es,cp::dI,q,n,al,h=>by
  have same:∀ {r},keyEq (.inl oD) k e.1=some r->Instr.sameNow d u cp.key=some r:=λ{r} hh=>by
   obtain⟨_,⟨dt,h1,_,h2⟩,_⟩:=y3 aC hu al.1.1 hh;rw[an] at h1;cases h1;exact h2
  cases q with
  |none=>
   obtain⟨h1,h2⟩:=h;have:=same h1;have ar:=Oa an aC hu (n+1) al.2 h2;simp[Instr.findNow,this,ar,got]
  |some i=>
   cases i with
   |zero=>
    have:=same h;simp[Instr.findNow,this,got]
   |succ i=>
    obtain⟨h1,h2⟩:=h;have:=same h1;have ar:=Oa an aC hu (n+1) al.2 h2;simp only[Instr.findNow,this,ar,got,HW];cases dI[i]? <;>simp;omega
def b0s{bO:Array Field}{u:Value}(e:MapEntry)(es:List MapEntry)(n:Nat):Instr.findNow (.struct bO) u (e::es) n=none:=by
 simp[Instr.findNow,Instr.sameNow]
def DS{t:TypeId}{R:jf}(aC:keyOk P t=some R){k:AV}{u:Value}(hu:az w m O B k u){es:List kG}{dI:List MapEntry}{q:Option Nat}(al:iW (u5 w m O B) es dI)(h:qx R k es q)(ax:World):
  (Instr.findKey t u dI).run P ax= .ok (got q 0 dI) ax:=by
 cases R with
 |inl oD=>
  have ao:=IS aC;obtain⟨d,an,_⟩:=N5 ao;have:=Oa an ao hu 0 al h;simp[Instr.findKey,run_underlying an,this]
 |inr a7=>
  obtain⟨bO,an,_⟩:=IQ aC;simp only[Instr.findKey,er,run_underlying an,ez];cases dI with
  |nil=>
   have b0t:es=[]:=ou (by have:=y5 al;simpa using this.symm);subst b0t;cases q with
   |none=>simp[Instr.findNow,got]
   |some i=>exact h.elim
  |cons cp dI=>
   rw[b0s];exact N_ aC hu 0 al h ax
def qx.lt{R:jf}{k:AV}:∀ {es:List kG} {i:Nat},qx R k es (some i)->∃e,es[i]? =some e/\keyEq R k e.1=some true
 |[],i,h=>h.elim
 |e::es,0,h=>⟨e,rfl,h⟩
 |e::es,i+1,h=>by
  obtain⟨cp,h1,h2⟩:=qx.lt h.2;exact⟨cp,by simpa using h1,h2⟩
end
section
variable {P:Program}{J:ag}{w:World}{m:Nat->Option Nat}{B:Nat}{f:Nat}
def Rel.DT(al:Rel P J w m B){id aA:Nat}{es:List kG}{aU:Nat}(hm:m id=some aA)(hg:J.get id=some (.map es aU)):
  ∃dI:Array MapEntry,w.heap[aA]? =some (.map dI aU)/\iW (u5 w m (bh J m) B) es dI.toList:=by
 obtain⟨bV,h1,h2⟩:=al.obj id aA _ hm hg I;cases h2 with
 | @map _ dI _ ao hG=>
  refine⟨dI,h1,VU (by simpa using ao) (λi a b=>?_)⟩;have:=hG i a (by simpa using b);exact⟨by simpa using this.1,by simpa using this.2.1,by simpa using this.2.2⟩
def yX{O:Nat->Prop}{a:AV}{u:Value}(two c:Bool)(h:az w m O B a u):az w m O B (v2 two a c) (if two then .tuple #[u,.bool c] else u):=by
 cases two with
 |false=>exact h
 |true=>exact az.uY (bF.cons h (bF.cons (.b c) bF.nil))
def b0u(al:Rel P J w m B){t mC e:TypeId}(ht:P.underlying t=some (.map mC e)){R:jf}(aC:keyOk P mC=some R){z:AV}(aZ:zeroOf P e=some z)(two:Bool){x k v:AV}{u qy:Value}
  (hx:az w m (bh J m) B x u) (gP:az w m (bh J m) B k qy)
  (h:lookupA J R x k z two=some v):∃bW,(Instr.lookup t u qy two).run P w= .ok bW w/\az w m (bh J m) B v bW:=by
 obtain⟨en,il,mG,_⟩:=rA aZ w;have mH:=mG w m (bh J m) B;unfold lookupA at h;cases ng:keySelf R k with
 |false=>simp[ng] at h
 |true=>
  simp only[ng,cond_true] at h;split at h
  ·cases h;cases hx;have ae:=VT aC gP ng true w;have hf:=DS (P:=P) (es:=[]) (dI:=[]) (q:=none) (w:=w) (m:=m) (O:=bh J m) (B:=B) aC gP trivial trivial w;refine⟨_,?_,yX two false mH⟩;simp[Instr.lookup,run_underlying ht,ae,hf,got,il]
  ·rename_i id;obtain⟨aA,hm,rfl⟩:=hx.Ix;split at h<;>try (cases h;done)
   rename_i es aU hg;obtain⟨dI,hh,hall⟩:=al.DT hm hg;have y7:=IL (P:=P) (w:=w) hh (λ_ _ _ h=>by cases h);have ae:=VT aC gP ng dI.isEmpty w;split at h<;>cases h
   ·rename_i a_ Ob;rcases N8 Ob with⟨h1,_⟩|⟨i,dD,h1,h2,h3⟩
    ·cases h1
    ·cases h3;obtain⟨hi,du⟩:=lG.1 h2;have hlen:=y5 hall;have kH:i<dI.toList.length:=by omega
     have tb:=y6 hall i hi kH;rw[du] at tb;have hf:=DS (P:=P) aC gP hall h1 w;have Oc:got (some i) 0 dI.toList=some (i,dI.toList[i].val):=by simp[got,eS kH]
     rw[Oc] at hf;refine⟨_,?_,yX two true tb.2.1⟩;simp only[Instr.lookup,er,run_underlying ht,ez,y7,hB,ae,hf]
   ·rename_i Ob;rcases N8 Ob with⟨_,h1⟩|⟨i,dD,h1,h2,h3⟩
    ·have hf:=DS (P:=P) aC gP hall h1 w;rw[show got none 0 dI.toList=none from rfl] at hf;refine⟨_,?_,yX two false mH⟩;simp only[Instr.lookup,er,run_underlying ht,ez,y7,hB,ae,hf,il]
    ·cases h3
  ·cases h
def VX(al:Rel P J w m B){t mC e:TypeId}(ht:P.underlying t=some (.map mC e)){R:jf}(aC:keyOk P mC=some R){id aA:Nat}{es:List kG}{aU:Nat}(dP:f<=id)(hm:m id=some aA)(hg:J.get id=some (.map es aU)){k v:AV}{qy Bo:Value}
  (gP:az w m (bh J m) B k qy) (VY:az w m (bh J m) B v Bo) {VZ:Bool} (ng:keyEq R k k=some VZ) {r:Option (List kG)} (hu:kX R k v es=some r):
  ∃ax,(Instr.mapUpdate t (.map (some aA)) qy Bo).run P w= .ok () ax∧
   Rel P (J.set id (match r with|some es=>.map es aU|none=>.map (es++[(k,v,aU)]) (aU+1))) ax m B/\Ext f J w m (J.set id (match r with|some es=>.map es aU|none=>.map (es++[(k,v,aU)]) (aU+1))) ax m:=by
 obtain⟨dI,hh,hall⟩:=al.DT hm hg;have hlen:=y5 hall;simp only[sS] at hlen;have y7:=IL (P:=P) (w:=w) hh (λ_ _ _ h=>by cases h);have ae:=VS aC gP ng false w;have hb:=Bd hh;have cY:∀(o:AO) (bV:Obj),lY P w m (bh J m) B o bV->dO w aA=none->o.isDead=false→
   Rel P (J.set id o) {w with heap:=w.heap.setIfInBounds aA bV} m B/\Ext f J w m (J.set id o) {w with heap:=w.heap.setIfInBounds aA bV} m:=λo bV ho gf an=>
  al.cY dP hm ⟨_,hg,rfl⟩ {w with heap:=w.heap.setIfInBounds aA bV} o aT (λb b_=>by simp[Nd (om b_)]) (λn hn=>by rw[gf] at hn;cases hn) rfl rfl rfl (λ_=>⟨bV,by simp[hb],ho⟩)
 have gf:dO w aA=none:=by unfold dO;rw[hh]
 rcases N9 hu with⟨rfl,hT⟩|⟨i,dD,hT,hi,rfl⟩
 ·have hf:=DS (P:=P) aC gP hall hT w;rw[show got none 0 dI.toList=none from rfl] at hf;refine⟨{w with heap:=w.heap.setIfInBounds aA (.map (dI.push {key:=qy,val:=Bo,born:=aU}) (aU+1))},?_,cY _ _ ?_ gf I⟩
  ·simp only[Instr.mapUpdate,er,run_underlying ht,ez,y7,ae,hf];exact VM _ hh (λ_ _ _ h=>by cases h)
  ·refine .map (by simp[hlen]) (λj h1 h2=>?_);by_cases aG:j<es.length
   ·have:=y6 hall j aG (by simp;omega);rw[HY aG,Array.getElem_push_lt U];simpa [u5] using this
   ·have fj:j=es.length:=by simp at h1;omega
    subst fj;have:(dI.push {key:=qy,val:=Bo,born:=aU})[es.length]'h2={key:=qy,val:=Bo,born:=aU}:=by
     simp only[<-hlen,Array.getElem_push_eq]
    rw[this];simp only[HZ (b6 _),wN,H2];exact⟨gP,VY,trivial⟩
 ·have hf:=DS (P:=P) aC gP hall hT w;obtain⟨tc,du⟩:=lG.1 hi;have kH:i<dI.toList.length:=by simp;omega
  have b0v:i<dI.size:=by simpa using kH
  have tb:=y6 hall i tc kH;rw[du] at tb;have Oc:got (some i) 0 dI.toList=some (i,dI.toList[i].val):=by simp[got,eS kH]
  rw[Oc] at hf;obtain⟨aV,nh,b0w⟩:=hT.lt;rw[hi] at nh;cases nh;have s7:=(IT aC tb.1 gP (r:=true) (by
   exact b0r b0w)).2 I
  have fG:dI[i]? =some dI[i]:=pb b0v;refine⟨{w with heap:=w.heap.setIfInBounds aA (.map (dI.modify i λe=>{e with key:=qy,val:=Bo}) aU)},?_,cY _ _ ?_ gf I⟩
  ·simp only[Instr.mapUpdate,er,run_underlying ht,ez,y7,ae,hf,fG,H0,Option.getD_some];have b0x:Instr.sameBits 10000 dI[i].key qy=true:=by simpa using s7
   have td:(Instr.keyThatStays dI[i].key qy).run P w= .ok qy w:=by simp only[Instr.keyThatStays,b0x,if_true,hB]
   simp only[td,ez];exact VM _ hh (λ_ _ _ h=>by cases h)
  ·refine .map (by simp[hlen]) (λj h1 h2=>?_);simp only[wO] at h1;have aG:=y6 hall j h1 (by simp;omega);rw[H7,Array.getElem_modify];by_cases DU:i=j
   ·subst DU;simp only[if_true];refine⟨gP,VY,?_⟩;have:=tb.2.2;simpa using this
   ·simp only[if_neg DU];simpa [u5] using aG
end
end
section
variable [Tok]
open Go.RowKit
open Go.ChangeMaps (setBlock)
section
variable {P:Program}{J:ag}{w:World}{m:Nat->Option Nat}{B f:Nat}
def b0y(s:ByteArray){c:Nat}(h:s.size<=c):(bytesRow s c).size=c:=by
 have:s.data.size=s.size:=rfl;simp[bytesRow,this];omega
def b0z{l:List Nat}(ao:∀c∈l,c<256){c:Nat}(i:Nat)(h:i<l.length):(bytesRow (strOf l) c)[i]? =some (.int .u8 (Int.ofNat l[i])):=by
 have ae:l[i]<256:=ao _ (c3 h);unfold bytesRow;rw[Array.getElem?_append_left (by simp[strOf];exact h)];simp[strOf,h];omega
def b0A(al:Rel P J w m B)(f:Nat){s d e:TypeId}(ak:P.underlying s=some .string)(an:P.underlying d=some (.slice e))(he:P.underlying e=some (.int .u8)){l:List Nat}{u:Value}(hx:az w m (bh J m) B (.s l) u):
  ∃bW ax aK,(convert s d u).run P w= .ok bW ax/\az ax aK (bh (J.push (.cells (l.map λc=>AV.i .u8 (Int.ofNat c)))) aK) B (.aq J.next 0 l.length none none) bW/\Rel P (J.push (.cells (l.map λc=>AV.i .u8 (Int.ofNat c)))) ax aK B/\Ext f J w m (J.push (.cells (l.map λc=>AV.i .u8 (Int.ofNat c)))) ax aK:=by
 obtain⟨rfl,ao⟩:=hx.po;have cj:(strOf l).size=l.length:=wT l;have iX:=grownCap_ge w (strOf l).size 0 e;have b5:=run_bytes_of_string (P:=P) w s d e (strOf l) ak an he;obtain⟨cap,rF⟩:∃cap,cap=grownCap w (strOf l).size 0 e:=⟨_,rfl⟩
 rw[<-rF] at iX b5;have u3:=b0y (strOf l) iX;obtain⟨h1,h2⟩:=al.alloc f (w.drew.alloc (.cells (bytesRow (strOf l) cap) e ((bytesRow (strOf l) cap).size,(bytesRow (strOf l) cap).size+1))) (.cells (l.map λc=>AV.i .u8 (Int.ofNat c))) _ I I I I I
  (.cells (by rw[u3,cb];omega) (λi h h'=>by
   simp only[cb] at h;have h3:=b0z ao (c:=cap) i h;rw[pb h'] at h3;rw[ic,A0 h3];exact .i _ _) (λi hi=>by
    have:¬(bytesRow (strOf l) cap).size<=i:=by omega
    simp[this]) (λx hx=>by obtain⟨c,_,rfl⟩:=di.1 hx;rfl))
 refine⟨_,_,_,b5,?_,h1,h2⟩;rw[cj];refine .aq (hF _ _ _) U (λc ae=>by cases ae) (n:=(bytesRow (strOf l) cap).size) ?_ (by rw[u3];simp[shN]) (λ_=>by rw[u3];simp[shN]);have:(w.drew.alloc (.cells (bytesRow (strOf l) cap) e ((bytesRow (strOf l) cap).size,(bytesRow (strOf l) cap).size+1))).heap[w.heap.size]? =some (.cells (bytesRow (strOf l) cap) e ((bytesRow (strOf l) cap).size,(bytesRow (strOf l) cap).size+1)):=heap_alloc_new w.drew _;unfold dO;rw[this]
def Od{x:AV}{n:Nat}(h:byteOf x=some n):x= .i .u8 (Int.ofNat n)/\n<256:=by
 unfold byteOf at h;split at h
 ·rename_i k;cases hb:Nat.blt k 256 with
  |false=>rw[hb] at h;cases h
  |true=>rw[hb] at h;cases h;exact⟨rfl,by simpa [gD] using hb⟩
 ·cases h
def b0B(al:Rel P J w m B){s d e:TypeId}(ak:P.underlying s=some (.slice e))(he:P.underlying e=some (.int .u8))(an:P.underlying d=some .string){x:AV}{xs:List AV}{l:List Nat}{u:Value}(hx:az w m (bh J m) B x u)(h:readList J x=some xs)(hb:mapO byteOf xs=some l):
  (convert s d u).run P w= .ok (.string (strOf l)) w/\∀c∈l,c<256:=by
 obtain⟨hlen,fG⟩:=nJ hb;have ed:xs=l.map λc=>AV.i .u8 (Int.ofNat c):=by
  apply List.ext_getElem
  ·simp[hlen]
  ·intro i h1 h2;have:=(Od (fG i h1 U)).1;simp[this]
 have hlt:∀c∈l,c<256:=λc ae=>by
  obtain⟨i,hi,rfl⟩:=lF ae;exact(Od (fG i U hi)).2
 refine⟨?_,hlt⟩;obtain⟨base,c,us,rfl,hle,hR,nP,nM,Bp⟩:=DN (R:=none) al hx h (λa ha=>by rw[ed] at ha;obtain⟨c,_,rfl⟩:=di.1 ha;rfl);cases base with
 |none=>
  obtain⟨h0,_⟩:=Bp;have:l=[]:=by
   have:=congrArg List.length h0;simp[ed] at this;exact this
  subst this;rw[run_convert_bytes_string w s d e _ _ _ ak he an];simp[Conv.bytesToString,strOf];rfl
 |some a=>
  obtain⟨b0C,y8,b0D⟩:=Bp;clear b0D;have Bl:xs.flatMap AV.cells=xs:=by
   have h1:∀y∈xs,AV.cells y=[y]:=λy aI=>by rw[ed] at aI;obtain⟨c,_,rfl⟩:=di.1 aI;rfl
   clear hR nP nM hle ed h hb hlen fG hx b0C
   induction xs with
   |nil=>rfl
   |cons y a4 ar=>rw[j4,h1 y aT,ar (λz aZ=>h1 z (by simp[aZ]))];rfl
  have key:=run_convert_bytes_back (P:=P) w s d e a c (l.map Nat.toUInt8) ak he an (λj aG=>by
   simp only[cb] at aG;have V0:j<us.length:=by rw[nP];simp[shN];omega
   rw[Bl] at hR;have h1:=hR.2 j U V0;have h2:xs[j]'U=AV.i .u8 (Int.ofNat l[j]):=(Od (fG j U aG)).1;rw[h2] at h1;have h3:=h1.lg;have aN:=y8 j us[j] (eS V0);rw[aN,h3];have ae:l[j]<256:=hlt _ (c3 aG);simp;omega)
  have aF:xs.length=(l.map Nat.toUInt8).length:=by simp[hlen]
  rw[aF,key];rfl
def b0E(al:Rel P J w m B)(f:Nat){t e:TypeId}{R:Option Nat}(ht:P.underlying t=some (.slice e))(ak:shapeOf P e=some R){i:TypeInfo}(hi:P.info? e=some i){z:AV}(aZ:zeroOf P e=some z)(wV:z.cells.length=shN R){n c:Nat}{IU IV:IntKind}(b0F:n<=c)(hb:i.bytes*c<=281474976710656)(ae:c<=281474976710656):
  ∃bW ax aK,(Instr.makeSlice t (.int IU (Int.ofNat n)) (.int IV (Int.ofNat c))).run P w= .ok bW ax/\az ax aK (bh (J.push (.cells (fw c z.cells))) aK) B (.aq J.next 0 n R (some c)) bW/\Rel P (J.push (.cells (fw c z.cells))) ax aK B/\Ext f J w m (J.push (.cells (fw c z.cells))) ax aK:=by
 obtain⟨_,cj,_⟩:=j7 ak w;have V1:i.size=shN R:=by
  have h1:=cj;simp[sizeOf,typeInfo,hi] at h1;exact h1
 obtain⟨en,il,mG,mH⟩:=rA aZ w;have y9:i.zero=some en:=by
  simp[zeroValue,typeInfo,hi] at il;cases aP:i.zero with
  |none=>simp[aP] at il
  |some q=>simp[aP] at il;rw[il]
 have nd:=(mG w m (bh J m) B).cells;have lL:en.cells.size=shN R:=by have:=nd.1;simp at this;omega
 have b5:=run_make (P:=P) w t e i en ht hi y9 IU IV (Int.ofNat n) (Int.ofNat c) (Dm _) (by show(n:Int)<=c;omega) (by
                                                                         show(i.bytes:Int)*(c:Int)<=_;have:((i.bytes*c:Nat):Int)<=281474976710656:=by omega
                                                                         rwa[Int.natCast_mul] at this) (by show(c:Int)<=_;omega)
 have jP:(Int.ofNat c).toNat=c:=rfl;have aF:(Int.ofNat n).toNat=n:=rfl;rw[jP,aF,V1] at b5;have nO:=Bh nd c;have wW:en.cells.toList.length=shN R:=by simp[lL]
 rw[wW] at nO;have nL:(madeCells en.cells (c*shN R)).toList=(List.range (c*shN R)).map λi=>en.cells.toList[i%shN R]! :=by
  unfold madeCells;rw[uS,yF];apply rh;intro a _;rw[lL,Nm,qi];simp
 rw[<-nL] at nO;have Bj:(madeCells en.cells (c*shN R)).size=c*shN R:=size_madeCells _ _;obtain⟨ax,aK,lf,l0,uZ,u0,DM⟩:=Iw al f (el:=e) nO (Bi mH c);have b0G:ax=w.alloc (.cells (madeCells en.cells (c*shN R)) e):=by
  have h1:(newRow e (madeCells en.cells (c*shN R))).run P w= .ok ⟨w.heap.size,0,none⟩ {w with heap:=w.heap.push (.cells (madeCells en.cells (c*shN R)) e)}:=by simp[newRow]
  rw[h1] at lf;cases lf;rfl
 subst b0G;exact⟨_,_,aK,b5,.aq l0 b0F (λbn rI=>by cases rI;rfl) (n:=(madeCells en.cells (c*shN R)).size) (by unfold dO;rw[uZ]) (by rw[Bj];omega) (λh=>by cases h),u0,DM⟩
def b0H(al:Rel P J w m B)(f:Nat){t Oe ty e:TypeId}{R:Option Nat}{gx V2:IntKind}(ht:P.underlying t=some (.slice e))(b0I:P.underlying Oe=some (.int gx))(ak:shapeOf P e=some R){i:TypeInfo}(hi:P.info? e=some i){z:AV}(aZ:zeroOf P e=some z)(wV:z.cells.length=shN R)(wX:i.bytes≠0)(c3V:0<shN R){k:Nat}(h0:0<k)(hb:(3*k+2000)*i.bytes<=281474976710656):
  ∃bW ax aK,(Builtin.append_ #[t,Oe] ty #[.slice none 0 0,.int V2 (Int.ofNat k)]).run P w= .ok bW ax/\az ax aK (bh (J.push (.cells (fw k z.cells))) aK) B (.aq J.next 0 k R none) bW/\Rel P (J.push (.cells (fw k z.cells))) ax aK B/\Ext f J w m (J.push (.cells (fw k z.cells))) ax aK:=by
 obtain⟨_,cj,_⟩:=j7 ak w;have V1:i.size=shN R:=by
  have h1:=cj;simp[sizeOf,typeInfo,hi] at h1;exact h1
 obtain⟨en,il,mG,mH⟩:=rA aZ w;have y9:i.zero=some en:=by
  simp[zeroValue,typeInfo,hi] at il;cases aP:i.zero with
  |none=>simp[aP] at il
  |some q=>simp[aP] at il;rw[il]
 have nd:=(mG w m (bh J m) B).cells;have lL:en.cells.size=shN R:=by have:=nd.1;simp at this;omega
 have rG:1<=i.bytes:=UJ.2 wX;have DG:(3*k+2000)*1<=(3*k+2000)*i.bytes:=UK _ rG;have rH:k*i.bytes<=(3*k+2000)*i.bytes:=qg _ U;have b5:=Lib.run_append_nil_zeros (P:=P) w t Oe ty e i en V2 gx ht b0I hi y9 k h0 U U U;have iX:=grownCap_ge w k 0 e;have nO:=Bh nd k;have wW:en.cells.toList.length=shN R:=by simp[lL]
 have hh:(Builtin.zeroCells en.cells k).toList=(List.range (k*en.cells.toList.length)).map λi=>en.cells.toList[i%en.cells.toList.length]! :=by
  simp only[Builtin.zeroCells,uS,yF,sS];exact rh λi _=>by simp only[getElem!_def,mr]
 rw[<-hh] at nO;have Bj:(Builtin.zeroCells en.cells k).size=k*shN R:=by rw[size_zeroCells,lL]
 have u3:(Builtin.zeroCells en.cells k++Builtin.zeroCells en.cells (grownCap w k 0 e-k)).size=grownCap w k 0 e*shN R:=by
  rw[UL,size_zeroCells,size_zeroCells,lL,← jz]
  congr 1;omega
 have Of:(fw k z.cells).length=k*shN R:=by have:=nO.1;rw[sS,Bj] at this;omega
 obtain⟨h1,h2⟩:=al.alloc f (w.drew.alloc (.cells (Builtin.zeroCells en.cells k++Builtin.zeroCells en.cells (grownCap w k 0 e-k)) e)) (.cells (fw k z.cells)) _ I I I I I
  (.cells (by rw[u3,Of];exact qg _ iX) (λj h h'=>by
   have aG:j<(Builtin.zeroCells en.cells k).size:=by omega
   have:=nO.2 j h (by simpa using aG);rw[UM aG];simpa using this) (λj _=>by simp) (Bi mH k))
 refine⟨_,_,_,b5,.aq (hF _ _ _) iX (λc ae=>by cases ae) (n:=grownCap w k 0 e*shN R) ?_ U (λ_=>by omega),h1,h2⟩;have:(w.drew.alloc (.cells (Builtin.zeroCells en.cells k++Builtin.zeroCells en.cells (grownCap w k 0 e-k)) e)).heap[w.heap.size]? =some (.cells (Builtin.zeroCells en.cells k++Builtin.zeroCells en.cells (grownCap w k 0 e-k)) e):=by
  exact heap_alloc_new w.drew _
 unfold dO;rw[this];simp only[u3]
def Rel.b0J(al:Rel P J w m B){id aA since g2:Nat}{seen:List Nat}(hm:m id=some aA)(hg:J.get id=some (.mapIter none since seen g2)):w.heap[aA]? =some (.mapIter none since seen.toArray g2):=by
 obtain⟨bV,h1,h2⟩:=al.obj _ _ _ hm hg I;cases h2 with
 | @mapIter _ b _ _ _ hb=>
  cases b with
  |none=>exact h1
  |some b=>exact hb.elim
def Rel.V3(al:Rel P J w m B){id aA i since g2:Nat}{seen:List Nat}(hm:m id=some aA)(hg:J.get id=some (.mapIter (some i) since seen g2)):∃b,w.heap[aA]? =some (.mapIter (some b) since seen.toArray g2)/\m i=some b:=by
 obtain⟨bV,h1,h2⟩:=al.obj _ _ _ hm hg I;cases h2 with
 | @mapIter _ b _ _ _ hb=>
  cases b with
  |none=>exact hb.elim
  |some b=>exact⟨b,h1,hb⟩
def run_getObj_map{aA:Nat}{es:Array MapEntry}{aU:Nat}(h:w.heap[aA]? =some (.map es aU)):(getObj aA).run P w= .ok (.map es aU) w:=
 IL (P:=P) (w:=w) h (λ_ _ _ h=>by cases h)
def V4(o:Obj)(w:World):(newObj o).run P w= .ok w.heap.size (w.alloc o):=rfl
def V5(al:Rel P J w m B)(f:Nat){t k e:TypeId}(ht:P.underlying t=some (.map k e)){r:Option Nat}{u:Value}(hx:az w m (bh J m) B (.m r) u){o:AO}
  (ho:match r with|none=>o= .mapIter none 0 [] 0|some id=>∃es aU,J.get id=some (.map es aU)/\o= .mapIter (some id) aU [] aU):
  ∃bW ax aK,(Instr.range t u).run P w= .ok bW ax/\az ax aK (bh (J.push o) aK) B (jL J.next 0) bW/\Rel P (J.push o) ax aK B/\Ext f J w m (J.push o) ax aK:=by
 cases r with
 |none=>
  simp only at ho;subst ho;cases hx;obtain⟨h1,h2⟩:=al.alloc f (w.alloc (.mapIter none 0 #[] 0)) (.mapIter none 0 [] 0) (.mapIter none 0 #[] 0) I I I I I (.mapIter trivial);exact⟨.pointer (some ⟨w.heap.size,0,none⟩),w.alloc (.mapIter none 0 #[] 0),_,by simp[Instr.range,run_underlying ht,V4],.p (hF _ _ _),h1,h2⟩
 |some id=>
  obtain⟨es,aU,hg,rfl⟩:=ho;obtain⟨aA,hm,rfl⟩:=hx.Ix;obtain⟨dI,hh,_⟩:=al.DT hm hg;obtain⟨h1,h2⟩:=al.alloc f (w.alloc (.mapIter (some aA) aU #[] aU)) (.mapIter (some id) aU [] aU) (.mapIter (some aA) aU #[] aU) I I I I I (.mapIter hm);exact⟨.pointer (some ⟨w.heap.size,0,none⟩),w.alloc (.mapIter (some aA) aU #[] aU),_,by simp[Instr.range,run_underlying ht,run_getObj_map hh,V4],.p (hF _ _ _),h1,h2⟩
def V6(n:Nat):∀(l:List Nat),lH n l=l.contains n
 |[]=>rfl
 |x::l=>by
  show cond (Nat.beq x n) true (lH n l)=_;rw[List.contains_cons,V6 n l];have:(n==x)=Nat.beq x n:=by
   rw[rl,mw,beq_iff_eq];exact⟨λh=>h.symm,λh=>h.symm⟩
  rw[this];cases Nat.beq x n<;>rfl
def V7(seen:List Nat):∀(es:List kG),mB seen es=es.filter λe=>!seen.contains e.2.2
 |[]=>rfl
 |e::es=>by
  show cond (lH e.2.2 seen) (mB seen es) (e::mB seen es)=_;rw[V7 seen es,V6,Ds];cases seen.contains e.2.2<;>rfl
def Og{α β:Type}{r:α->β->Prop}{p:α->Bool}{q:β->Bool}(h:∀x y,r x y->p x=q y):∀ {l:List α} {bq:List β},iW r l bq->iW r (l.filter p) (bq.filter q)
 |[],[],_=>trivial
 |[],_::_,h'=>h'.elim
 |_::_,[],h'=>h'.elim
 |x::l,y::bq,h'=>by
  rw[Ds,Ds,h x y h'.1];cases q y with
  |true=>exact⟨h'.1,Og h h'.2⟩
  |false=>exact Og h h'.2
def V8(al:Rel P J w m B){f:Nat}{it aA i since:Nat}{seen:List Nat}(hf:f<=it)(hm:m it=some aA)(hg:J.get it=some (.mapIter (some i) since seen since)){es:List kG}(l3:J.get i=some (.map es since))(b0K:∀e∈es,e.2.2<since)(t:TypeId):
  (mB seen es=[]/\(Instr.next (.pointer (some ⟨aA,0,none⟩)) false t).run P w= .ok (.tuple #[.bool false]) w)∨
  ∃e∈mB seen es,∃u ax,(Instr.next (.pointer (some ⟨aA,0,none⟩)) false t).run P w= .ok u ax∧
   az ax m (bh (J.set it (.mapIter (some i) since (seen++[e.2.2]) since)) m) B (.a6 [.b true,e.1,e.2.1]) u/\Rel P (J.set it (.mapIter (some i) since (seen++[e.2.2]) since)) ax m B/\Ext f J w m (J.set it (.mapIter (some i) since (seen++[e.2.2]) since)) ax m:=by
 obtain⟨b,hh,Bq⟩:=al.V3 hm hg;obtain⟨dI,Oh,hall⟩:=al.DT Bq l3;have b0L:∀e∈dI.toList,e.born<since:=λcp DI=>by
  obtain⟨k,aC,rfl⟩:=lF DI;have hlen:=y5 hall;have:=y6 hall k U aC;rw[this.2.2];exact b0K _ (c3 _)
 have Oi:iW (u5 w m (bh J m) B) (mB seen es) (leftOf dI seen.toArray).toList:=by
  rw[V7];have h1:(leftOf dI seen.toArray).toList=dI.toList.filter λe=>!seen.contains e.born:=by simp[leftOf]
  rw[h1];exact Og (λx y h=>by rw[h.2.2]) hall
 have hlt:=(al.eV _ _ hm).1;rcases run_next_at (P:=P) w t aA b since since seen.toArray dI since hh Oh b0L (b6 _) with⟨h1,h2⟩|⟨cp,DI,bf,fH,h2⟩
 ·refine .inl ⟨?_,h2⟩;have:=y5 Oi;rw[sS,h1] at this;exact ou this.symm
 ·obtain⟨k,aC,rfl⟩:=lF DI;have hlen:=y5 Oi;have tb:=y6 Oi k U aC;refine .inr ⟨(mB seen es)[k]'U,c3 _,?_⟩;generalize(mB seen es)[k]'U=e at tb;generalize(leftOf dI seen.toArray).toList[k]=aF at tb h2;obtain⟨b0M,b0N,b0O⟩:=tb;have Oj:bf.heap=w.heap:=by rcases fH with rfl|rfl<;>rfl
  have b0P:dO w aA=none:=by unfold dO;rw[hh]
  obtain⟨hS,fl⟩:=al.cY (f:=f) hf hm ⟨_,hg,rfl⟩ (setBlock bf aA (.mapIter (some b) since (seen.toArray.push aF.born) since)) (.mapIter (some i) since (seen++[e.2.2]) since)
   (by simp[setBlock,Oj]) (λk aC=>by simp[setBlock,Oj,HX,om aC]) (λn hn=>by rw[b0P] at hn;cases hn)
   (by rcases fH with rfl|rfl<;>rfl) (by rcases fH with rfl|rfl<;>rfl) (by rcases fH with rfl|rfl<;>rfl)
   (λ_=>⟨.mapIter (some b) since (seen.toArray.push aF.born) since,by simp[setBlock,Oj,HX,hlt],by
    have jP:seen.toArray.push aF.born=(seen++[e.2.2]).toArray:=by rw[b0O];simp
    rw[jP];exact .mapIter Bq⟩)
  exact⟨_,_,h2,az.uY (bF.cons (.b true) (bF.cons (b0M.ext fl al) (bF.cons (b0N.ext fl al) bF.nil))),hS,fl⟩
def V9{ps:Nat}:∀ {es:List kG} {dI:List MapEntry} {e:kG},iW (u5 w m (bh J m) B) es dI->pc ps es=some e->∃cp,dI.find? (λx=>x.born==ps)=some cp/\u5 w m (bh J m) B e cp
 |[],[],e,_,h=>by cases h
 |[],_::_,_,h,_=>h.elim
 |_::_,[],_,h,_=>h.elim
 |x::es,y::dI,e,hall,h=>by
  have h:cond (Nat.beq x.2.2 ps) (some x) (pc ps es)=some e:=h;have hb:(y.born==ps)=Nat.beq x.2.2 ps:=by
   rw[hall.1.2.2,rl,mw,beq_iff_eq]
  rw[List.find?_cons,hb];cases aP:Nat.beq x.2.2 ps with
  |true=>rw[aP] at h;cases h;exact⟨y,rfl,hall.1⟩
  |false=>rw[aP] at h;exact V9 hall.2 h
def V_:∀(l:List Nat),ql l=l.getLast?
 |[]=>rfl
 |x::l=>by
  have h:ql (x::l)=match ql l with|none=>some x|some y=>some y:=rfl
  rw[h,V_ l,List.getLast?_cons];cases l.getLast? <;>rfl
def b0Q(al:Rel P J w m B){it aA i since aU:Nat}{seen:List Nat}(hm:m it=some aA)(hg:J.get it=some (.mapIter (some i) since seen aU)){es:List kG}(l3:J.get i=some (.map es aU)){ps:Nat}(ao:ql seen=some ps){e:kG}(he:pc ps es=some e):
  ∃u,(Instr.entry (.pointer (some ⟨aA,0,none⟩))).run P w= .ok u w/\az w m (bh J m) B (.a6 [e.1,e.2.1]) u:=by
 obtain⟨b,hh,Bq⟩:=al.V3 hm hg;obtain⟨dI,Oh,hall⟩:=al.DT Bq l3;obtain⟨cp,h1,h2⟩:=V9 hall he;have w1:seen.toArray.back? =some ps:=by rw[V_] at ao;simpa using ao
 have hf:dI.find? (λx=>x.born==ps)=some cp:=by rw[<-Array.find?_toList];exact h1
 refine⟨.tuple #[cp.key,cp.val],?_,az.uY (bF.cons h2.1 (bF.cons h2.2.1 bF.nil))⟩;simp only[Instr.entry,getObj,er,Sem.run,hh,Oh,Result.andThen,w1,bne_self_eq_false,rj,if_false,hf];rfl
def b0R(al:Rel P J w m B){it aA since g2:Nat}{seen:List Nat}(hm:m it=some aA)(hg:J.get it=some (.mapIter none since seen g2))(t:TypeId):
  (Instr.next (.pointer (some ⟨aA,0,none⟩)) false t).run P w= .ok (.tuple #[.bool false]) w:=by
 have hh:=al.b0J hm hg;simp only[Instr.next,getObj,er,Sem.run,hh,Result.andThen];rfl
end
end
end Go.Lyc
end
