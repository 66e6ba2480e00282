/-
  An abstract executor of the program's code, and that it is sound, part 1. No conditions: definitions and laws.
-/
import GoSem.Step
import Derived.RangeFuncLeaves
import Derived.RecoverIn
import Derived.OrdersIn
import Derived.Laws.IdiomCopy
import Derived.Below
import Derived.MapKept
import Derived.Laws.Strings
import Derived.Deep.Upon
import Derived.Laws.IdiomStrings
import Derived.Laws.MakeOwn
import Derived.Lib.AppendZeros
import Derived.Maps.RangeRun
set_option linter.all false
noncomputable section
namespace Go.Lyc
theorem I{α:Sort _}{a:α}:a=a:=rfl
def a8:=@Nat.le_refl
def p5:=@Nat.le_trans
def cJ:=@Option.some.injEq
def Xc:=@Nat.mod_two_eq_zero_or_one
def gE:=@Nat.eq_of_beq_eq_true
def g0:=@Nat.beq_refl
def oj:=@Ne.symm
def mD:=@Nat.lt_succ_self
def hC:=@Nat.blt_eq
def Er:=@Nat.lt_succ_of_lt
def fw:=@List.length_cons
def Jy:=@List.getElem?_cons_succ
def Jz:=@Array.getElem?_setIfInBounds
def Pt:=@Array.getElem?_setIfInBounds_ne
def zc:=@Array.getElem?_eq_some_iff
def Pu:=@Array.getElem?_push
def Pv:=@Nat.le_succ
def p6:=@Nat.lt_or_ge
def BT:=@Array.getElem?_eq_none
def kq:=@List.map_map
def pd:=@List.map_congr_left
def cT:=@List.mem_map
def ug:=@Array.length_toList
def iP:=@List.getElem_of_mem
def fH:=@List.getElem?_eq_some_iff
def cp:=@List.getElem?_eq_getElem
def iC:=@List.getElem_append_left
def BU:=@List.getElem_append_right
def Pw:=@List.getElem_drop
def sW:=@List.getElem_take
def cA:=@List.mem_singleton
def e3:=@Go.Sem.run_bind
def e8:=@Go.Result.andThen_ok
def g6:=@List.length_take
def uh:=@Nat.add_zero
def pe:=@List.mem_of_mem_take
def p7:=@List.mem_of_mem_drop
def ui:=@List.getElem?_drop
def vK:=@List.getElem?_take_of_lt
def bB:=@List.length_map
def nc:=@List.length_range
def g7:=@Nat.le_of_ble_eq_true
def bC:=@List.getElem_mem
def uj:=@Array.getElem?_eq_getElem
def eX:=@List.mem_append
def Es:=@List.getElem?_append
def nJ:=@Array.getElem?_toList
def ez:=@List.getElem_map
def jq:=@Go.Sem.run_pure
def Px:=@Int.emod_eq_of_lt
def Xd:=@UInt8.lt_iff_toNat_lt
def sX:=@Bool.false_eq_true
def vL:=@List.cons.injEq
def pf:=@List.map_cons
def uk:=@Bool.eq_iff_iff
def k1:=@List.mem_cons_self
def g1:=@List.mem_cons_of_mem
def Xe:=@Go.ByteArray.toList_eq
def om:=@Array.ext'
def Xf:=@Go.MapKept.bytes_beq
def Et:=@Int.natCast_nonneg
def dD:=@Bool.and_eq_true
def um:=@Bool.or_eq_true
def p8:=@Nat.beq_eq
def sY:=@Int.ofNat.inj
def zd:=@Nat.lt_of_le_of_lt
def Py:=@Nat.div_le_self
def qO:=@Nat.add_assoc
def kr:=@Option.some.inj
def Eu:=@Option.map_some
def JA:=@List.map_take
def Pz:=@List.map_drop
def kD:=@Nat.add_mul
def sZ:=@Nat.mul_le_mul_right
def jD:=@Nat.zero_le
def BV:=@List.foldl_cons
def Xg:=@Array.mapM_eq_mapM_toList
def rX:=@Nat.one_mul
def rY:=@Nat.add_comm
def gO:=@List.map_append
def p9:=@List.eq_nil_of_length_eq_zero
def xr:=@List.ext_getElem
def pg:=@List.getElem_range
def ze:=@Array.toList_range
def vM:=@Array.toList_map
def PA:=@Array.getElem!_eq_getD
def rZ:=@Array.getD_eq_getD_getElem?
def lR:=@List.flatMap_cons
def c2:=@List.mem_cons
def uo:=@List.mem_flatMap
def Ev:=@List.getElem_cons_zero
def ph:=@List.length_pos_iff
def Xh:=@Nat.one_le_iff_ne_zero
def Xi:=@Nat.mul_le_mul_left
def Xj:=@Array.size_append
def c5:=@List.length_append
def Xk:=@Array.getElem_append_left
def kE:=@Nat.ble_eq_true_of_le
def pj:=@List.drop_drop
def JB:=@List.getElem_cons_succ
def JC:=@List.forIn_cons
def Xl:=@List.zip_cons_cons
def PB:=@Bool.and_self
def xt:=@Bool.not_eq_true'
def pk:=@List.all_eq_true
def Ew:=@Nat.sub_self
def lr:=@List.length_set
def s0:=@List.getElem_set
def vN:=@List.filter_cons
def fA:=@Option.map_eq_some_iff
def eA:=@Option.bind_eq_bind
def dZ:=@Option.bind_eq_some_iff
def eM:=@Option.pure_def
def zf:=@List.cons_append
def Xm:=@List.take_succ_cons
def BW:=@List.drop_zero
def PC:=@Nat.le_add_right
def Xn:=@Nat.add_sub_cancel_left
def U{P:Prop}(h:P:=by omega):P:=h
def ay{P:Prop}(h:P:=by simp):P:=h
def b_{P:Prop}(h:P:=by decide):P:=h
def dm{P:Prop}(h:P:=by repeat (first|exact trivial|refine ⟨rfl,?_⟩)):P:=h
set_option maxHeartbeats 0
set_option maxRecDepth 100000
inductive AV where
 |b (x:Bool)
 |i (k:IntKind) (n:Int)
 |s (l:List Nat)
 |p (a:Option (Nat×Nat))
 |df (old:Bool) (v:AV)
 |ao (id off len:Nat) (ab:Option Nat) (cap:Option Nat)
 |nilsl
 |aV (old:Bool) (ab:Option Nat) (xs:List AV)
 |m (r:Option Nat)
 |f (fn:Fn) (first captured:List AV)
 |hD
 |it (t:TypeId) (v:AV)
 |fx
 |aj (l:List AV)
 |bg (l:List AV)
 |ih (k:IntKind) (d j:Nat) -- a c8R number,of Ex is known JD it leaves by d
 |iQ (ex:List (List Nat)) -- a string,none of a7V
 |jr (hi:Bool) -- Ey i64 Ez is not known:c8S it is c8T c8U 40
 |y (i:Nat) -- a string,Ey integer Ez is not known
 |gP (old:Bool) (i:Nat) -- a slice Ez is not known,over memory Ez never changes
 deriving Inhabited
inductive aJ where
 |t (i:Nat)
 |c (v:AV)
 |g (g:Nat)
 deriving Inhabited
inductive uq where
 |fn (f:Nat)
 |val (o:aJ)
 deriving Inhabited
inductive AOp where
 |mb (x:aJ)
 |pick (c a b:aJ)
 |alloc (v:AV)
 |box (x:aJ)
 |build (zero:List AV) (parts:List (Nat×Nat×aJ)) -- offset,cells,JD
 |buildSlice (ab:Option Nat) (len:Nat) (zero:List AV) (parts:List (Nat×aJ))
 |load (ab:Option Nat) (a:aJ)
 |store (ab:Option Nat) (a x:aJ)
 |nilCheck (x:aJ)
 |bin (op:BinOp) (x y:aJ)
 |BX (neg:Bool) (x y:aJ)
 |nK (kind:Nat) (neg:Bool) (x y:aJ) -- kind:0 interface,1 pointer,2 function,3 slice,4 map;from 10 on:structs
 |not (x:aJ)
 |neg (x:aJ)
 |conv (k:IntKind) (x:aJ)
 |JE (x:aJ)
 |JF (x:aJ)
 |JG (t:TypeId) (x:aJ)
 |zg (fn:Fn) (first captured:List aJ)
 |mkMap
 |mkSlice (ab:Option Nat) (bytes:Nat) (zero:List AV) (len cap:aJ)
 |BY (n:Nat) (ab:Option Nat) (x:aJ) (c1 hi:Option aJ)
 |xu (ab:Option Nat) (x:aJ) (c1 hi gq:Option aJ)
 |EA (x:aJ) (c1 hi:Option aJ)
 |fieldAddr (off:Nat) (ab:Option Nat) (x:aJ)
 |field (off:Nat) (ab:Option Nat) (x:aJ)
 |EB (n:Nat) (ab:Option Nat) (x i:aJ)
 |k2 (ab:Option Nat) (x i:aJ)
 |JH (x i:aJ)
 |PD (n:Nat) (ab:Option Nat) (x i:aJ)
 |lookup (ab:Nat ⊕ List Nat) (x k:aJ) (zero:AV) (ok:Bool) -- vO c8V shape
 |xv (ab:Nat ⊕ List Nat) (m k v:aJ)
 |rangeMap (x:aJ)
 |vP (x:aJ)
 |entry (x:aJ)
 |PE (x:aJ) (t:TypeId) (zero:AV) (ok:Bool)
 |extract (x:aJ) (i:Nat)
 |call (c:uq) (args:List aJ)
 |mE (c:uq) (args:List aJ)
 |panic (x:aJ)
 |append (ab:Option Nat) (bytes:Nat) (s x:aJ)
 |len (kind:Nat) (x:aJ) -- 0:string;1:slice;2:map
 |JI (n:Nat)
 |cap (x:aJ)
 |copy (ab:Option Nat) (d s:aJ)
 |BZ (gq:Bool) (x y:aJ)
 |recover
 |bad
 deriving Inhabited
structure a2 where
 dst:Option Nat
 op:AOp
 guard:Option (Nat×Bool) -- vO a7W,and JD it c8W be
 jS:List Nat -- of a region Ez c8X:vO places ahead of Ex it may c8Y,c8Z
 deriving Inhabited
inductive b5 where
 |skip
 |region (ops:List a2)
 |draw (ops:List a2)
 |seq (a b:b5)
 |cond (c:aJ) (a b:b5)
 |block (id:Nat) (a:b5)
 |loop (a:b5)
 |scope (a:b5)
 |rangeFunc (f:aJ) (aE:List Nat) (assign body:b5)
 |exit (id:Nat)
 |ret
 |bad
 deriving Inhabited
structure gr where
 kF:Nat
 ntmps:Nat
 results:List (Nat×Option (Option Nat)) -- vO a7W;none:by value;some ab:a cell of Ez shape
 body:Option b5
 deriving Inhabited
inductive a1(α:Type) where
 |nil
 |node (v:Option α) (l r:a1 α)
 deriving Inhabited
def a1.get{α:Type}(t:a1 α):Nat->Option α:=
 a1.rec (λ_=>none) (λv _ _ g_ EC i=>Bool.rec (motive:=λ_=>Option α) (Bool.rec (motive:=λ_=>Option α) (EC (Nat.div (Nat.sub i 1) 2)) (g_ (Nat.div (Nat.sub i 1) 2)) (Nat.beq (Nat.mod i 2) 1)) v (Nat.beq i 0)) t
def a1.set{α:Type}(t:a1 α):Nat->α->a1 α:=
 a1.rec (λ_ _=>.nil) (λv l r g_ EC i x=>Bool.rec (motive:=λ_=>a1 α) (Bool.rec (motive:=λ_=>a1 α) (.node v l (EC (Nat.div (Nat.sub i 1) 2) x)) (.node v (g_ (Nat.div (Nat.sub i 1) 2) x) r) (Nat.beq (Nat.mod i 2) 1))
  (.node (Option.rec (motive:=λ_=>Option α) none (λ_=>some x) v) l r) (Nat.beq i 0)) t
def a1.B0{α:Type}(f:Nat):Nat->α->a1 α:=
 Nat.rec (λ_ _=>.nil) (λ_ aC i x=>Bool.rec (motive:=λ_=>a1 α) (Bool.rec (motive:=λ_=>a1 α) (.node none .nil (aC (Nat.div (Nat.sub i 1) 2) x)) (.node none (aC (Nat.div (Nat.sub i 1) 2) x) .nil) (Nat.beq (Nat.mod i 2) 1)) (.node (some x) .nil .nil) (Nat.beq i 0)) f
def a1.ins{α:Type}(t:a1 α):Nat->α->a1 α:=
 a1.rec (λi x=>a1.B0 (i+1) i x) (λv l r g_ EC i x=>Bool.rec (motive:=λ_=>a1 α) (Bool.rec (motive:=λ_=>a1 α) (.node v l (EC (Nat.div (Nat.sub i 1) 2) x)) (.node v (g_ (Nat.div (Nat.sub i 1) 2) x) r) (Nat.beq (Nat.mod i 2) 1))
  (.node (some x) l r) (Nat.beq i 0)) t
def a1.full{α:Type}(f:Nat)(x:α):Nat->a1 α:=
 Nat.rec (λ_=>.nil) (λ_ aC n=>cond (Nat.beq n 0) .nil (.node (some x) (aC (Nat.div n 2)) (aC (Nat.div (Nat.sub n 1) 2)))) f
def a1.lay{α:Type}(l:List α):Nat->a1 α->a1 α:=
 List.rec (λ_ t=>t) (λx _ aC i t=>aC (i+1) (t.set i x)) l
inductive s3 where
 |h
 |l (p:s3)
 |r (p:s3)
def zh(f:Nat):Nat->s3:=
 Nat.rec (motive:=λ_=>Nat->s3) (λ_=>.h) (λ_ aC i=>Bool.rec (motive:=λ_=>s3) (Bool.rec (motive:=λ_=>s3) (.r (aC (Nat.div (Nat.sub i 1) 2))) (.l (aC (Nat.div (Nat.sub i 1) 2))) (Nat.beq (Nat.mod i 2) 1)) .h (Nat.beq i 0)) f
def PG(i:Nat):s3:=zh (Nat.succ i) i
def a1.JJ{α:Type}(p:s3):a1 α->Option α:=
 s3.rec (motive:=λ_=>a1 α->Option α) (λt=>a1.rec (motive:=λ_=>Option α) none (λv _ _ _ _=>v) t) (λ_ aC t=>a1.rec (motive:=λ_=>Option α) none (λ_ l _ _ _=>aC l) t)
  (λ_ aC t=>a1.rec (motive:=λ_=>Option α) none (λ_ _ r _ _=>aC r) t) p
def a1.Xo{α:Type}(x:α)(p:s3):a1 α->a1 α:=
 s3.rec (motive:=λ_=>a1 α->a1 α) (λt=>a1.rec (motive:=λ_=>a1 α) .nil (λv l r _ _=>.node (Option.rec (motive:=λ_=>Option α) none (λ_=>some x) v) l r) t)
  (λ_ aC t=>a1.rec (motive:=λ_=>a1 α) .nil (λv l r _ _=>.node v (aC l) r) t) (λ_ aC t=>a1.rec (motive:=λ_=>a1 α) .nil (λv l r _ _=>.node v l (aC r)) t) p
inductive AO where
 |cells (c:List AV)
 |dead
 |map (es:List (AV×AV×Nat)) (clock:Nat)
 |mapIter (m:Option Nat) (since:Nat) (seen:List Nat) (hP:Nat)
 |loop (st:LoopState) (pending:Option b5) (bk:a1 AV) (aE:List Nat) (assign body:b5) (c7:Nat)
 |c7
 deriving Inhabited
structure ad where
 zi:a1 AO
 next:Nat
 deriving Inhabited
def mapO{α β:Type}(f:α->Option β)(l:List α):Option (List β):=
 List.rec (some []) (λx _ aC=>match f x with|none=>none|some y=>match aC with|none=>none|some ba=>some (y::ba)) l
def nth{α:Type}(l:List α):Nat->Option α:=
 List.rec (λ_=>none) (λx _ aC n=>Nat.rec (some x) (λn _=>aC n) n) l
def eqL(l:List Nat):List Nat->Bool:=
 List.rec (λr=>match r with|[]=>true|_::_=>false) (λx _ aC r=>match r with|[]=>false|y::ba=>cond (Nat.beq x y) (aC ba) false) l
def i_(l:List Nat):List Nat->Bool:=
 List.rec (λr=>match r with|[]=>false|_::_=>true)
  (λx _ aC r=>match r with
   |[]=>false
   |y::ba=>cond (Nat.blt x y) true (cond (Nat.beq x y) (aC ba) false)) l
def gu{α:Type}(f:α->α->Bool)(l:List α):List α->Bool:=
 List.rec (λr=>match r with|[]=>true|_::_=>false) (λx _ aC r=>match r with|[]=>false|y::ba=>cond (f x y) (aC ba) false) l
def ad.get(J:ad)(id:Nat):Option AO:=cond (Nat.blt id J.next) (J.zi.get id) none
def ad.set(J:ad)(id:Nat)(o:AO):ad:=⟨J.zi.ins id o,J.next⟩
def ad.push(J:ad)(o:AO):ad:=⟨J.zi.ins J.next o,J.next+1⟩
def AV.cells:AV->List AV
 | .aj l=>l
 |v=>[v]
def AV.val:AV->Bool
 | .bg _=>false
 |_=>true
def shN:Option Nat->Nat
 |none=>1
 |some n=>n
def dE(ab:Option Nat)(c:List AV):Option AV:=
 match ab with
 |none=>c.head?
 |some n=>let l:=c.take n;if l.length=n then some (.aj l) else none
def conf(ab:Option Nat)(v:AV):Bool:=
 match ab,v with
 |none,.aj _=>false
 |none,.bg _=>false
 |none,_=>true
 |some n,.aj l=>Nat.beq l.length n
 |some _,_=>false
def elems(ab:Option Nat)(n:Nat)(c:List AV):Option (List AV):=
 Nat.rec (motive:=λ_=>List AV->Option (List AV)) (λ_=>some [])
  (λ_ aC c=>match dE ab c with
   |none=>none
   |some v=>match aC (c.drop (shN ab)) with|none=>none|some bp=>some (v::bp)) n c
def readList(J:ad):AV->Option (List AV)
 | .nilsl=>some []
 | .aV _ _ xs=>some xs
 | .ao id off len ab _=>match J.get id with
  |some (.cells c)=>elems ab len (c.drop off)
  |_=>none
 |_=>none
def freeze(J:ad)(base:Nat)(n:Nat):AV->Option AV:=
 Nat.rec (motive:=λ_=>AV->Option AV) (λ_=>none) (λ_ aC v=>
  match v with
  | .ao id off len ab cap=>if Nat.blt id base then none else
   match readList J (.ao id off len ab cap) with
   |none=>none
   |some xs=>match mapO aC xs with|none=>none|some xs=>some (.aV false ab xs)
  | .aj l=>match mapO aC l with|none=>none|some l=>some (.aj l)
  | .bg l=>match mapO aC l with|none=>none|some l=>some (.bg l)
  | .it t v=>match aC v with|none=>none|some v=>some (.it t v)
  | .p (some _)=>none
  | .m (some _)=>none
  | .f _ _ _=>none
  |v=>some v) n
def bt(J:ad)(n:Nat):AV->Option AV:=
 Nat.rec (motive:=λ_=>AV->Option AV) (λ_=>none) (λ_ aC v=>
  match v with
  | .ao id off len ab cap=>
   match readList J (.ao id off len ab cap) with
   |none=>none
   |some xs=>match mapO aC xs with|none=>none|some xs=>some (.aV true ab xs)
  | .nilsl=>some .nilsl
  | .aV _ ab xs=>match mapO aC xs with|none=>none|some xs=>some (.aV true ab xs)
  | .aj l=>match mapO aC l with|none=>none|some l=>some (.aj l)
  | .bg l=>match mapO aC l with|none=>none|some l=>some (.bg l)
  | .it t v=>match aC v with|none=>none|some v=>some (.it t v)
  | .p (some _)=>none
  | .m (some _)=>none
  | .df _ _=>none
  | .f _ _ _=>none
  | .gP _ i=>some (.gP true i)
  |v=>some v) n
def AV.eqb(n:Nat):AV->AV->Bool:=
 Nat.rec (motive:=λ_=>AV->AV->Bool) (λ_ _=>false) (λ_ aC x y=>
  match x,y with
  | .b x,.b y=>x==y
  | .i k x,.i l y=>decide (k=l)&&decide (x=y)
  | .s x,.s y=>eqL x y
  | .nilsl,.nilsl=>true
  | .aV vQ ab xs,.aV cu iD ba=>(vQ==cu)&&decide (ab=iD)&&gu aC xs ba
  | .hD,.hD=>true
  | .fx,.fx=>true
  | .p none,.p none=>true
  | .p (some x),.p (some y)=>Nat.beq x.1 y.1&&Nat.beq x.2 y.2
  | .m none,.m none=>true
  | .m (some x),.m (some y)=>Nat.beq x y
  | .ao aQ aZ bX cS ed,.ao dg cD dn e4 k4=>Nat.beq aQ dg&&Nat.beq aZ cD&&Nat.beq bX dn&&decide (cS=e4)&&decide (ed=k4)
  | .df vQ x,.df cu y=>(vQ==cu)&&aC x y
  | .f cR gg x,.f fb pn y=>decide (cR=fb)&&(gu aC gg pn&&gu aC x y)
  | .it t x,.it u y=>Nat.beq t u&&aC x y
  | .aj x,.aj y=>gu aC x y
  | .bg x,.bg y=>gu aC x y
  | .ih k d j,.ih fh iE qP=>decide (k=fh)&&(Nat.beq d iE&&Nat.beq j qP)
  | .iQ x,.iQ y=>gu eqL x y
  | .jr c,.jr d=>c==d
  | .y c,.y d=>Nat.beq c d
  | .gP vQ c,.gP cu d=>(vQ==cu)&&Nat.beq c d
  |_,_=>false) n
def r0(a:List Nat)(ex:List (List Nat)):Bool:=List.rec false (λx _ aC=>cond (eqL a x) true aC) ex
def leafEq(kind:Nat)(a b:AV):Option Bool:=
 match kind,a,b with
 |0,.i k a,.i l b=>if k=l then some (decide (a=b)) else none
 |1,.s a,.s b=>some (eqL a b)
 |2,.b x,.b y=>some (x==y)
 |1,.iQ ex,.s b=>cond (r0 b ex) (some false) none
 |1,.s a,.iQ ex=>cond (r0 a ex) (some false) none
 |_,_,_=>none
def nL(aR:List Nat):List AV->List AV->Option Bool:=
 List.rec (λl r=>match l,r with|[],[]=>some true|_,_=>none)
  (λk _ aC l r=>match l,r with
   |x::xs,y::ba=>match leafEq k x y,aC xs ba with|some a,some b=>some (a&&b)|_,_=>none
   |_,_=>none) aR
abbrev kc:=Nat ⊕ List Nat
def keyEq(ab:kc)(a b:AV):Option Bool:=
 match ab with
 | .inl k=>leafEq k a b
 | .inr aR=>match a,b with
  | .aj x,.aj y=>nL aR x y
  |_,_=>none
def keySelf(ab:kc)(a:AV):Bool:=
 match ab,a with
 | .inl 1,.iQ _=>true
 |ab,a=>match keyEq ab a a with|some _=>true|none=>false
def mc(ab:kc)(k:AV)(es:List (AV×AV×Nat)):Option (Option AV):=
 List.rec (some none) (λe _ aC=>match keyEq ab k e.1 with|none=>none|some true=>some (some e.2.1)|some false=>aC) es
def mF(ab:kc)(k v:AV)(es:List (AV×AV×Nat)):Option (Option (List (AV×AV×Nat))):=
 List.rec (some none) (λe es aC=>match keyEq ab k e.1 with
  |none=>none
  |some true=>some (some ((k,v,e.2.2)::es))
  |some false=>match aC with|none=>none|some none=>some none|some (some es)=>some (some (e::es))) es
def storeCells(c:List AV)(off:Nat)(v:List AV):Option (List AV):=
 if Nat.ble (off+v.length) c.length then some (c.take off++(v++c.drop (off+v.length))) else none
def wrapN(k:IntKind)(n:Int):Int:=
 match k,n with
 | .i64,.ofNat x=>cond (Nat.blt x 9223372036854775808) n (k.wrap n)
 |_,n=>k.wrap n
def Xp(op:BinOp)(k:IntKind)(x y:Int):Option Int:=
 let a:=BitVec.ofInt k.bits x
 let b:=BitVec.ofInt k.bits y
 match op with
 | .and=>some (k.wrap (a &&& b).toNat)
 | .or=>some (k.wrap (a ||| b).toNat)
 | .xor=>some (k.wrap (a ^^^ b).toNat)
 | .andNot=>some (k.wrap (a &&& ~~~b).toNat)
 |_=>none
def binI(op:BinOp)(k:IntKind)(x y:Int):Option AV:=
 match op with
 | .add=>some (.i k (wrapN k (x+y)))
 | .sub=>some (.i k (wrapN k (x-y)))
 | .mul=>some (.i k (wrapN k (x*y)))
 | .quo=>if y=0 then none else some (.i k (k.wrap (x.tdiv y)))
 | .rem=>if y=0 then none else some (.i k (x.tmod y))
 | .eql=>some (.b (decide (x=y)))
 | .neq=>some (.b (!decide (x=y)))
 | .lss=>some (.b (decide (x<y)))
 | .leq=>some (.b (decide (x<=y)))
 | .gtr=>some (.b (decide (y<x)))
 | .geq=>some (.b (decide (y<=x)))
 |op=>match Xp op k x y with|some n=>some (.i k n)|none=>none
def binS(op:BinOp)(x y:List Nat):Option AV:=
 match op with
 | .add=>if Nat.blt (x.length+y.length) 4611686018427387904 then some (.s (x++y)) else none
 | .eql=>some (.b (eqL x y))
 | .neq=>some (.b (!eqL x y))
 | .lss=>some (.b (i_ x y))
 | .leq=>some (.b (!i_ y x))
 | .gtr=>some (.b (i_ y x))
 | .geq=>some (.b (!i_ x y))
 |_=>none
def sxEq(op:BinOp)(a:List Nat)(ex:List (List Nat)):Option AV:=
 cond (r0 a ex) (match op with| .eql=>some (.b false)| .neq=>some (.b true)|_=>none) none
def umOp(op:BinOp)(k:IntKind)(d j c:Nat):Option AV:=
 cond (Nat.blt 0 c&&(Nat.beq (d%c) 0&&(decide (k= .u8)||decide (k= .i64))))
  (match op with
   | .rem=>some (.i k (Int.ofNat (j%c)))
   | .quo=>some (.ih k (d/c) (j/c))
   |_=>none) none
def binop(op:BinOp)(x y:AV):Option AV:=
 match x,y with
 | .i k a,.i l b=>match op with
  | .shl=>if b<0 then none else some (.i k (k.wrap (a*2^(min b.toNat k.bits))))
  | .shr=>if b<0 then none else some (.i k (a.fdiv (2^(min b.toNat k.bits))))
  |op=>if k=l then binI op k a b else none
 | .s a,.s b=>binS op a b
 | .ih k d j,.i l (.ofNat c)=>if k=l then umOp op k d j c else none
 | .jr hi,.i l (.ofNat c)=>if l= .i64/\c=40 then(match op with| .gtr=>some (.b hi)| .leq=>some (.b (!hi))|_=>none) else none
 | .s a,.iQ ex=>sxEq op a ex
 | .iQ ex,.s a=>sxEq op a ex
 |_,_=>none
def binopB(x y:AV):Option Bool:=
 match x,y with
 | .b c,.b d=>some (c==d)
 |_,_=>none
def JK:List Nat->Nat
 |[]=>1
 |d::ds=>JK ds*4+d
def Xq(f:Nat):Nat->List Nat:=Nat.rec (motive:=λ_=>Nat->List Nat) (λ_=>[]) (λ_ aC n=>cond (Nat.ble n 1) [] (Nat.mod n 4::aC (Nat.div n 4))) f
def isNilEq(kind:Nat)(x y:AV):Option Bool:=
 match kind,x,y with
 |0,.it _ _,.fx=>some false
 |1,.p (some _),.p none=>some false
 |1,.df _ _,.p none=>some false
 |1,.p none,.p none=>some true
 |2,.f _ _ _,.hD=>some false
 |2,.hD,.hD=>some true
 |3,.nilsl,.nilsl=>some true
 |3,.ao _ _ _ _ _,.nilsl=>some false
 |3,.aV _ _ (_::_),.nilsl=>some false
 |4,.m none,.m none=>some true
 |4,.m (some _),.m none=>some false
 |k,.aj x,.aj y=>cond (Nat.ble 10 k) (nL (Xq 40 (k-10)) x y) none
 |_,_,_=>none
def natOf:AV->Option Nat
 | .i _ (.ofNat n)=>some n
 |_=>none
def dF:AV:=.bg []
structure Fr where
 bk:a1 AV
 defers:List (Nat ⊕ (AV×List AV)) -- vO mark of a block,or a call
 gv:Bool -- of a deferred call: 'recover' has c9a called
 deriving Inhabited
def Fr.put(ae:Fr)(d:Option Nat)(v:AV):Fr:=
 match d with
 |some d=>⟨ae.bk.set d v,ae.defers,ae.gv⟩
 |none=>ae
def Fr.p_(ae:Fr)(d:Option Nat)(v:AV):Fr:=Option.rec (motive:=λ_=>Fr) ae (λd=>⟨a1.Xo v (PG d) ae.bk,ae.defers,ae.gv⟩) d
inductive hE where
 |normal|exit (id:Nat)|ret|panic (v:AV)
 deriving Inhabited
inductive ee where
 |ok (v:AV)
 |err (v:AV)
 deriving Inhabited
structure Env where
 funcs:Nat->Option gr
 nM:Nat->Option AV
 pure:Nat->Bool
 spec:Nat->List AV->Option AV
 bh:Nat -- c9b deep values c9c looked at
 ext:Nat->Nat -- 1:c9d,2:c9e,3:c9f;0:none
def evalA(env:Env)(ao:a1 AV):aJ->Option AV
 | .t i=>ao.get i
 | .c v=>some v
 | .g g=>match env.nM g with|some v=>some (.df true v)|none=>none
def B1(env:Env)(ao:a1 AV)(x:aJ):Option AV:=
 aJ.rec (motive:=λ_=>Option AV) (λi=>a1.JJ (PG i) ao) (λv=>some v) (λg=>match env.nM g with|some v=>some (.df true v)|none=>none) x
inductive bO where
 |val (v:AV) (J:ad)
 |call (bG:AV) (args:List AV)
 |mE (bG:AV) (args:List AV)
 |panic (v:AV)
 |kG (l:List (AV×ad)) -- one of a7V
def k5{α β:Type}(f:α->Option (List β))(l:List α):Option (List β):=
 List.rec (motive:=λ_=>Option (List β)) (some []) (λx t aC=>List.rec (motive:=λ_=>Option (List β)) (f x) (λ_ _ _=>match f x with|none=>none|some a=>match aC with|none=>none|some b=>some (a++b)) t) l
def ks{α β:Type}(r:Option (List α))(f:α->Option (List β)):Option (List β):=Option.rec (motive:=λ_=>Option (List β)) none (λl=>k5 f l) r
def kH(n:Nat)(off:Nat):AV:=.p (some (n,off))
def ja(ar:aJ->Option AV)(b1:Nat->Nat->Nat)(aE:List (Nat×Nat×aJ)):List AV->Option (List AV):=
 List.rec (λc=>some c) (λp _ aC c=>match ar p.2.2 with
  |none=>none
  |some v=>cond (Nat.beq v.cells.length p.2.1&&v.val) (match storeCells c (b1 p.1 p.2.1) v.cells with|none=>none|some c=>aC c) none) aE
def hQ(n:Nat)(z:List AV):List AV:=Nat.rec [] (λ_ aC=>z++aC) n
def bndO(ar:aJ->Option AV)(x:Option aJ)(d:Nat):Option Nat:=
 match x with
 |none=>some d
 |some x=>match ar x with|some v=>natOf v|none=>none
def v2(two:Bool)(v:AV)(ok:Bool):AV:=cond two (.bg [v,.b ok]) v
def nilOk:AV->Bool
 | .p (some _)=>true
 | .df _ _=>true
 | .f _ _ _=>true
 | .it _ _=>true
 |_=>false
def cN{α:Type}(p:α->Bool)(l:List α):Bool:=List.rec true (λx _ aC=>cond (p x) aC false) l
def newOf(J:ad)(x:AV):Option (List AV):=
 match x with
 | .s l=>some (l.map λc=>AV.i .u8 (Int.ofNat c))
 |x=>readList J x
def appendO(floor:Nat)(J:ad)(ab:Option Nat)(bytes:Nat)(s x:AV):Option (AV×ad):=
 match readList J s,newOf J x with
 |some old,some new=>
  cond (cN (conf ab) old&&cN (conf ab) new&&Nat.ble ((3*(old.length+new.length)+2000)*bytes) 281474976710656)
   (match new with
    |[]=>some (s,J)
    |_::_=>match s with
     | .ao id off len iD cap=>
      if iD=ab then
       match cap with
       |some c=>
        cond (Nat.ble (len+new.length) c)
         (if Nat.blt id floor then none else
         match J.get id with
         |some (.cells nd)=>match storeCells nd (off+len*shN ab) (new.flatMap AV.cells) with
          |some dU=>some (.ao id off (len+new.length) ab cap,J.set id (.cells dU))
          |none=>none
         |_=>none)
         (some (.ao J.next 0 (len+new.length) ab none,J.push (.cells (old.flatMap AV.cells++new.flatMap AV.cells))))
       |none=>
        if Nat.blt id floor then none else
        if Nat.beq off 0 then
         some (.ao J.next 0 (len+new.length) ab none,(J.set id .dead).push (.cells (old.flatMap AV.cells++new.flatMap AV.cells)))
        else none
      else none
     | .nilsl=>some (.ao J.next 0 new.length ab none,J.push (.cells (new.flatMap AV.cells)))
     |_=>none)
   none
 |_,_=>none
def sliceA(ar:aJ->Option AV)(lu:Option Nat)(x:AV)(c1 hi gq:Option aJ):Option AV:=
 match x with
 | .ao id off len ab cap=>
  if ab=lu then
   match bndO ar c1 0,bndO ar hi len with
   |some l,some h=>
    if Nat.ble l h then
     match gq with
     |some gq=>match bndO ar (some gq) 0 with
      |some k=>
       if Nat.ble h k&&Nat.ble k (cap.getD len) then some (.ao id (if k=l then off else off+l*shN ab) (h-l) ab (some (k-l))) else none
      |none=>none
     |none=>match cap with
      |some c=>if Nat.ble h c then some (.ao id (if c=l then off else off+l*shN ab) (h-l) ab (some (c-l))) else none
      |none=>if Nat.ble h len&&Nat.beq l 0 then some (.ao id off h ab none) else if Nat.ble h len&&Nat.blt l len then some (.ao id (off+l*shN ab) (h-l) ab none) else if Nat.beq l len&&Nat.beq h len then some (.aV true ab []) else none
    else none
   |_,_=>none
  else none
 | .nilsl=>match bndO ar c1 0,bndO ar hi 0,bndO ar gq 0 with
  |some 0,some 0,some 0=>some .nilsl
  |_,_,_=>none
 | .aV o ab xs=>if ab=lu then
   match bndO ar c1 0,bndO ar hi xs.length,gq with
   |some l,some h,none=>if Nat.ble l h&&Nat.ble h xs.length then some (.aV o ab ((xs.drop l).take (h-l))) else none
   |_,_,_=>none
  else none
 |_=>none
def lookupA(J:ad)(ab:kc)(x k z:AV)(two:Bool):Option AV:=
 cond (keySelf ab k)
  (match x with
  | .m none=>some (v2 two z false)
  | .m (some id)=>match J.get id with
   |some (.map es _)=>match mc ab k es with
    |some (some v)=>some (v2 two v true)
    |some none=>some (v2 two z false)
    |none=>none
   |_=>none
  |_=>none) none
def capA(x:AV):Option Nat:=
 match x with
 | .nilsl=>some 0
 | .ao _ _ _ _ (some c)=>some c
 |_=>none
def lenA(J:ad)(k:Nat)(x:AV):Option Nat:=
 match k,x with
 |0,.s l=>some l.length
 |1,.nilsl=>some 0
 |1,.ao _ _ n _ _=>some n
 |1,.aV _ _ xs=>some xs.length
 |2,.m none=>some 0
 |2,.m (some id)=>match J.get id with|some (.map es _)=>some es.length|_=>none
 |_,_=>none
def calleeV(ar:aJ->Option AV)(c:uq):Option AV:=match c with| .fn f=>some (AV.f (.func f) [] [])| .val x=>ar x
def qQ(J:ad)(ab:Option Nat)(p:AV):Option AV:=
 match p with
 | .p (some (id,off))=>match J.get id with
  |some (.cells c)=>dE ab (c.drop off)
  |_=>none
 | .df _ v=>if conf ab v then some v else none
 |_=>none
def fieldAddrA(off:Nat)(ab:Option Nat)(x:AV):Option AV:=
 match x with
 | .p (some (id,o))=>some (.p (some (id,o+off)))
 | .df ol (.aj cs)=>match dE ab (cs.drop off) with|some v=>some (.df ol v)|none=>none
 |_=>none
def idxSlA(lu:Option Nat)(x:AV)(j:Nat):Option AV:=
 match x with
 | .ao id off len ab _=>if Nat.blt j len&&decide (ab=lu) then some (.p (some (id,off+j*shN ab))) else none
 | .aV o ab xs=>if ab=lu then match nth xs j with|some v=>some (.df o v)|none=>none else none
 |_=>none
def assertA(x:AV)(t:TypeId)(z:AV)(two:Bool):Option AV:=
 match x with
 | .it u v=>if u=t then some (v2 two v true) else cond two (some (v2 two z false)) none
 | .fx=>cond two (some (v2 two z false)) none
 |_=>none
def byteOf:AV->Option Nat
 | .i .u8 (.ofNat n)=>cond (Nat.blt n 256) (some n) none
 |_=>none
def qa(n:Nat)(l:List Nat):Bool:=List.rec false (λx _ aC=>cond (Nat.beq x n) true aC) l
def nN(seen:List Nat)(es:List (AV×AV×Nat)):List (AV×AV×Nat):=List.rec [] (λe _ aC=>cond (qa e.2.2 seen) aC (e::aC)) es
def r1(l:List Nat):Option Nat:=List.rec none (λx _ aC=>match aC with|none=>some x|some y=>some y) l
def qR(b:Nat)(es:List (AV×AV×Nat)):Option (AV×AV×Nat):=List.rec none (λe _ aC=>cond (Nat.beq e.2.2 b) (some e) aC) es
def lenU(J:ad)(k:Nat)(x:AV):Option bO:=
 match k,x with
 |0,.iQ _=>some (.kG [(.jr true,J),(.jr false,J)])
 |_,_=>none
def opx(floor:Nat)(ar:aJ->Option AV)(J:ad)(op:AOp):Option bO:=
 match op with
 | .mb x=>match ar x with|some v=>some (.val v J)|none=>none
 | .pick c a b=>match ar c with
  |some (.b t)=>match ar (cond t a b) with|some v=>some (.val v J)|none=>none
  |_=>none
 | .alloc v=>some (.val (kH J.next 0) (J.push (.cells v.cells)))
 | .box x=>match ar x with|some v=>cond v.val (some (.val (kH J.next 0) (J.push (.cells v.cells)))) none|none=>none
 | .build z aE=>match ja ar (λoff _=>off) aE z with|some c=>some (.val (.aj c) J)|none=>none
 | .buildSlice ab n z aE=>
  match ja ar (λi b1=>i*b1) (aE.map λp=>(p.1,shN ab,p.2)) (hQ n z) with
  |some c=>some (.val (.ao J.next 0 n ab (some n)) (J.push (.cells c)))
  |none=>none
 | .load ab a=>match ar a with
  |some p=>match qQ J ab p with|some v=>some (.val v J)|none=>none
  |none=>none
 | .store ab a x=>match ar a,ar x with
  |some (.p (some (id,off))),some v=>
   if Nat.blt id floor then none else
   if conf ab v then
    match J.get id with
    |some (.cells c)=>match storeCells c off v.cells with
     |some c=>some (.val dF (J.set id (.cells c)))
     |none=>none
    |_=>none
   else none
  |_,_=>none
 | .nilCheck x=>match ar x with
  |some v=>cond (nilOk v) (some (.val v J)) none
  |none=>none
 | .bin op x y=>match ar x,ar y with
  |some a,some b=>match binop op a b with|some v=>some (.val v J)|none=>none
  |_,_=>none
 | .BX neg x y=>match ar x,ar y with
  |some a,some b=>match binopB a b with|some v=>some (.val (.b (cond neg (!v) v)) J)|none=>none
  |_,_=>none
 | .nK kind neg x y=>match ar x,ar y with
  |some a,some b=>match isNilEq kind a b with|some v=>some (.val (.b (cond neg (!v) v)) J)|none=>none
  |_,_=>none
 | .not x=>match ar x with|some (.b x)=>some (.val (.b !x) J)|_=>none
 | .neg x=>match ar x with|some (.i k n)=>some (.val (.i k (k.wrap (0-n))) J)|_=>none
 | .conv k x=>match ar x with|some (.i _ n)=>some (.val (.i k (wrapN k n)) J)|some (.ih _ d j)=>(match k with| .i64=>some (.val (.ih .i64 d j) J)|_=>none)|_=>none
 | .JG t x=>match ar x with|some v=>some (.val (.it t v) J)|none=>none
 | .zg fn a c=>match mapO ar a,mapO ar c with|some a,some c=>some (.val (.f fn a c) J)|_,_=>none
 | .mkMap=>some (.val (.m (some J.next)) (J.push (.map [] 0)))
 | .xu lu x c1 hi gq=>match ar x with
  |some x=>match sliceA ar lu x c1 hi gq with|some v=>some (.val v J)|none=>none
  |none=>none
 | .EA x c1 hi=>match ar x with
  |some (.s s)=>match bndO ar c1 0,bndO ar hi s.length with
   |some l,some h=>if Nat.ble l h&&Nat.ble h s.length then some (.val (.s ((s.drop l).take (h-l))) J) else none
   |_,_=>none
  |_=>none
 | .BY n ab x c1 hi=>match ar x,bndO ar c1 0,bndO ar hi n with
  |some (.p (some (id,off))),some l,some h=>
   if Nat.ble l h&&Nat.ble h n then
    match J.get id with
    |some (.cells c)=>if Nat.ble (off+n*shN ab) c.length then some (.val (.ao id (if n=l then off else off+l*shN ab) (h-l) ab (some (n-l))) J) else none
    |_=>none
   else none
  |_,_,_=>none
 | .fieldAddr off ab x=>match ar x with
  |some x=>match fieldAddrA off ab x with|some v=>some (.val v J)|none=>none
  |none=>none
 | .field off ab x=>match ar x with
  |some (.aj cs)=>match dE ab (cs.drop off) with|some v=>some (.val v J)|none=>none
  |_=>none
 | .EB n ab x i=>match ar x,ar i with
  |some x,some j=>match natOf j with
   |some j=>if Nat.blt j n then match fieldAddrA (j*shN ab) ab x with|some v=>some (.val v J)|none=>none else none
   |none=>none
  |_,_=>none
 | .k2 lu x i=>match ar x,ar i with
  |some x,some j=>match natOf j with
   |some j=>match idxSlA lu x j with|some v=>some (.val v J)|none=>none
   |none=>none
  |_,_=>none
 | .JH x i=>match ar x,ar i with
  |some (.s l),some j=>match natOf j with
   |some j=>match nth l j with|some c=>some (.val (.i .u8 (Int.ofNat c)) J)|none=>none
   |none=>none
  |_,_=>none
 | .PD n ab x i=>match ar x,ar i with
  |some (.aj cs),some j=>match natOf j with
   |some j=>if Nat.blt j n then match dE ab (cs.drop (j*shN ab)) with|some v=>some (.val v J)|none=>none else none
   |none=>none
  |_,_=>none
 | .lookup ab x k z two=>match ar x,ar k with
  |some x,some k=>match lookupA J ab x k z two with|some v=>some (.val v J)|none=>none
  |_,_=>none
 | .xv ab x k v=>match ar x,ar k,ar v with
  |some (.m (some id)),some k,some v=>
   if Nat.blt id floor then none else
   match J.get id with
   |some (.map es bm)=>match keyEq ab k k with
    |none=>none
    |some _=>match mF ab k v es with
    |some (some es)=>some (.val dF (J.set id (.map es bm)))
    |some none=>some (.val dF (J.set id (.map (es++[(k,v,bm)]) (bm+1))))
    |none=>none
   |_=>none
  |_,_,_=>none
 | .PE x t z two=>match ar x with
  |some x=>match assertA x t z two with|some v=>some (.val v J)|none=>none
  |none=>none
 | .extract x i=>match ar x with
  |some (.bg l)=>match nth l i with|some v=>some (.val v J)|none=>none
  |_=>none
 | .call c args=>match calleeV ar c,mapO ar args with
  |some bG,some args=>some (.call bG args)
  |_,_=>none
 | .mE c args=>match calleeV ar c,mapO ar args with
  |some bG,some args=>some (.mE bG args)
  |_,_=>none
 | .panic x=>match ar x with|some (.it t v)=>some (.panic (.it t v))|_=>none
 | .len k x=>match ar x with
  |some x=>match lenA J k x with|some n=>some (.val (.i .i64 (Int.ofNat n)) J)|none=>lenU J k x
  |none=>none
 | .JI n=>some (.val (.i .i64 (Int.ofNat n)) J)
 | .cap x=>match ar x with
  |some x=>match capA x with|some n=>some (.val (.i .i64 (Int.ofNat n)) J)|none=>none
  |none=>none
 | .append ab bytes s x=>match ar s,ar x with
  |some s,some x=>match appendO floor J ab bytes s x with|some (v,J)=>some (.val v J)|none=>none
  |_,_=>none
 | .JE x=>match ar x with
  |some (.s l)=>some (.val (.ao J.next 0 l.length none none) (J.push (.cells (l.map λc=>AV.i .u8 (Int.ofNat c)))))
  |_=>none
 | .JF x=>match ar x with
  |some x=>match readList J x with
   |some l=>match mapO byteOf l with
    |some l=>some (.val (.s l) J)
    |none=>none
   |none=>none
  |none=>none
 | .mkSlice ab bytes z l c=>match ar l,ar c with
  |some (.i _ (.ofNat n)),some (.i _ (.ofNat m))=>
   cond (Nat.beq z.length (shN ab)&&(Nat.ble n m&&(Nat.ble (bytes*m) 281474976710656&&Nat.ble m 281474976710656)))
    (some (.val (.ao J.next 0 n ab (some m)) (J.push (.cells (hQ m z))))) none
  |some .nilsl,some (.i _ (.ofNat m))=>
   cond (Nat.beq z.length (Nat.succ (shN ab))&&(Nat.blt 0 m&&Nat.ble ((3*m+2000)*bytes) 281474976710656))
    (some (.val (.ao J.next 0 m ab none) (J.push (.cells (hQ m z.tail))))) none
  |_,_=>none
 | .rangeMap x=>match ar x with
  |some (.m none)=>some (.val (kH J.next 0) (J.push (.mapIter none 0 [] 0)))
  |some (.m (some id))=>match J.get id with
   |some (.map _ bm)=>some (.val (kH J.next 0) (J.push (.mapIter (some id) bm [] bm)))
   |_=>none
  |_=>none
 | .vP x=>match ar x with
  |some (.p (some (it,0)))=>if Nat.blt it floor then none else
   match J.get it with
   |some (.mapIter none _ _ _)=>some (.val (.bg [.b false]) J)
   |some (.mapIter (some id) since seen hP)=>match J.get id with
    |some (.map es bm)=>
     cond (Nat.beq bm since&&Nat.beq hP since&&cN (λ(e:AV×AV×Nat)=>Nat.blt e.2.2 since) es)
      (match nN seen es with
       |[]=>some (.val (.bg [.b false]) J)
       |l=>some (.kG (l.map λe=>(.bg [.b true,e.1,e.2.1],J.set it (.mapIter (some id) since (seen++[e.2.2]) bm))))) none
    |_=>none
   |_=>none
  |_=>none
 | .entry x=>match ar x with
  |some (.p (some (it,0)))=>match J.get it with
   |some (.mapIter (some id) since seen hP)=>match J.get id with
    |some (.map es bm)=>cond (Nat.beq bm hP) (match r1 seen with
     |some b=>match qR b es with
      |some e=>some (.val (.bg [e.1,e.2.1]) J)
      |none=>none
     |none=>none) none
    |_=>none
   |_=>none
  |_=>none
 | .copy _ d x=>match ar d,ar x with
  |some (.ao _ _ 0 _ _),some (.aj _)=>some (.val dF J)
  |some (.ao id off (len+1) _ _),some (.aj z)=>match Nat.blt id floor,J.get id with
   |false,some (.cells c)=>match storeCells c off (hQ (len+1) z) with
    |some c=>some (.val dF (J.set id (.cells c)))
    |none=>none
   |_,_=>none
  |some .nilsl,some (.aj _)=>some (.val dF J)
  |some (.aV _ _ []),some (.aj _)=>some (.val dF J)
  |_,_=>none
 | .BZ gq x y=>match ar x,ar y with
  |some (.i k a),some (.i l b)=>if k=l then some (.val (.i k (if gq then(if b > a then b else a) else(if b<a then b else a))) J) else none
  |_,_=>none
 |_=>none
abbrev PH:=Nat->(aJ->Option AV)->ad->Option bO
def a7X(x:aJ)(floor:Nat)(ar:aJ->Option AV)(J:ad):Option bO:=
  match ar x with|some v=>some (.val v J)|none=>none
def a7Y(c:aJ)(a:aJ)(b:aJ)(floor:Nat)(ar:aJ->Option AV)(J:ad):Option bO:=
  match ar c with
  |some (.b t)=>match ar (cond t a b) with|some v=>some (.val v J)|none=>none
  |_=>none
def a7Z(v:AV)(floor:Nat)(ar:aJ->Option AV)(J:ad):Option bO:=
  some (.val (kH J.next 0) (J.push (.cells v.cells)))
def a8a(x:aJ)(floor:Nat)(ar:aJ->Option AV)(J:ad):Option bO:=
  match ar x with|some v=>cond v.val (some (.val (kH J.next 0) (J.push (.cells v.cells)))) none|none=>none
def a8b(z:List AV)(aE:List (Nat×Nat×aJ))(floor:Nat)(ar:aJ->Option AV)(J:ad):Option bO:=
  match ja ar (λoff _=>off) aE z with|some c=>some (.val (.aj c) J)|none=>none
def a8c(ab:Option Nat)(n:Nat)(z:List AV)(aE:List (Nat×aJ))(floor:Nat)(ar:aJ->Option AV)(J:ad):Option bO:=
  match ja ar (λi b1=>i*b1) (aE.map λp=>(p.1,shN ab,p.2)) (hQ n z) with
  |some c=>some (.val (.ao J.next 0 n ab (some n)) (J.push (.cells c)))
  |none=>none
def a8d(ab:Option Nat)(a:aJ)(floor:Nat)(ar:aJ->Option AV)(J:ad):Option bO:=
  match ar a with
  |some p=>match qQ J ab p with|some v=>some (.val v J)|none=>none
  |none=>none
def a8e(ab:Option Nat)(a:aJ)(x:aJ)(floor:Nat)(ar:aJ->Option AV)(J:ad):Option bO:=
  match ar a,ar x with
  |some (.p (some (id,off))),some v=>
   if Nat.blt id floor then none else
   if conf ab v then
    match J.get id with
    |some (.cells c)=>match storeCells c off v.cells with
     |some c=>some (.val dF (J.set id (.cells c)))
     |none=>none
    |_=>none
   else none
  |_,_=>none
def a8f(x:aJ)(floor:Nat)(ar:aJ->Option AV)(J:ad):Option bO:=
  match ar x with
  |some v=>cond (nilOk v) (some (.val v J)) none
  |none=>none
def a8g(op:BinOp)(x:aJ)(y:aJ)(floor:Nat)(ar:aJ->Option AV)(J:ad):Option bO:=
  match ar x,ar y with
  |some a,some b=>match binop op a b with|some v=>some (.val v J)|none=>none
  |_,_=>none
def a8h(neg:Bool)(x:aJ)(y:aJ)(floor:Nat)(ar:aJ->Option AV)(J:ad):Option bO:=
  match ar x,ar y with
  |some a,some b=>match binopB a b with|some v=>some (.val (.b (cond neg (!v) v)) J)|none=>none
  |_,_=>none
def a8i(kind:Nat)(neg:Bool)(x:aJ)(y:aJ)(floor:Nat)(ar:aJ->Option AV)(J:ad):Option bO:=
  match ar x,ar y with
  |some a,some b=>match isNilEq kind a b with|some v=>some (.val (.b (cond neg (!v) v)) J)|none=>none
  |_,_=>none
def a8j(x:aJ)(floor:Nat)(ar:aJ->Option AV)(J:ad):Option bO:=
  match ar x with|some (.b x)=>some (.val (.b !x) J)|_=>none
def a8k(x:aJ)(floor:Nat)(ar:aJ->Option AV)(J:ad):Option bO:=
  match ar x with|some (.i k n)=>some (.val (.i k (k.wrap (0-n))) J)|_=>none
def a8l(k:IntKind)(x:aJ)(floor:Nat)(ar:aJ->Option AV)(J:ad):Option bO:=
  match ar x with|some (.i _ n)=>some (.val (.i k (wrapN k n)) J)|some (.ih _ d j)=>(match k with| .i64=>some (.val (.ih .i64 d j) J)|_=>none)|_=>none
def a8m(t:TypeId)(x:aJ)(floor:Nat)(ar:aJ->Option AV)(J:ad):Option bO:=
  match ar x with|some v=>some (.val (.it t v) J)|none=>none
def a8n(fn:Fn)(a:List aJ)(c:List aJ)(floor:Nat)(ar:aJ->Option AV)(J:ad):Option bO:=
  match mapO ar a,mapO ar c with|some a,some c=>some (.val (.f fn a c) J)|_,_=>none
def a8o(floor:Nat)(ar:aJ->Option AV)(J:ad):Option bO:=
  some (.val (.m (some J.next)) (J.push (.map [] 0)))
def a8p(lu:Option Nat)(x:aJ)(c1:Option aJ)(hi:Option aJ)(gq:Option aJ)(floor:Nat)(ar:aJ->Option AV)(J:ad):Option bO:=
  match ar x with
  |some x=>match sliceA ar lu x c1 hi gq with|some v=>some (.val v J)|none=>none
  |none=>none
def a8q(x:aJ)(c1:Option aJ)(hi:Option aJ)(floor:Nat)(ar:aJ->Option AV)(J:ad):Option bO:=
  match ar x with
  |some (.s s)=>match bndO ar c1 0,bndO ar hi s.length with
   |some l,some h=>if Nat.ble l h&&Nat.ble h s.length then some (.val (.s ((s.drop l).take (h-l))) J) else none
   |_,_=>none
  |_=>none
def a8r(n:Nat)(ab:Option Nat)(x:aJ)(c1:Option aJ)(hi:Option aJ)(floor:Nat)(ar:aJ->Option AV)(J:ad):Option bO:=
  match ar x,bndO ar c1 0,bndO ar hi n with
  |some (.p (some (id,off))),some l,some h=>
   if Nat.ble l h&&Nat.ble h n then
    match J.get id with
    |some (.cells c)=>if Nat.ble (off+n*shN ab) c.length then some (.val (.ao id (if n=l then off else off+l*shN ab) (h-l) ab (some (n-l))) J) else none
    |_=>none
   else none
  |_,_,_=>none
def a8s(off:Nat)(ab:Option Nat)(x:aJ)(floor:Nat)(ar:aJ->Option AV)(J:ad):Option bO:=
  match ar x with
  |some x=>match fieldAddrA off ab x with|some v=>some (.val v J)|none=>none
  |none=>none
def a8t(off:Nat)(ab:Option Nat)(x:aJ)(floor:Nat)(ar:aJ->Option AV)(J:ad):Option bO:=
  match ar x with
  |some (.aj cs)=>match dE ab (cs.drop off) with|some v=>some (.val v J)|none=>none
  |_=>none
def a8u(n:Nat)(ab:Option Nat)(x:aJ)(i:aJ)(floor:Nat)(ar:aJ->Option AV)(J:ad):Option bO:=
  match ar x,ar i with
  |some x,some j=>match natOf j with
   |some j=>if Nat.blt j n then match fieldAddrA (j*shN ab) ab x with|some v=>some (.val v J)|none=>none else none
   |none=>none
  |_,_=>none
def a8v(lu:Option Nat)(x:aJ)(i:aJ)(floor:Nat)(ar:aJ->Option AV)(J:ad):Option bO:=
  match ar x,ar i with
  |some x,some j=>match natOf j with
   |some j=>match idxSlA lu x j with|some v=>some (.val v J)|none=>none
   |none=>none
  |_,_=>none
def a8w(x:aJ)(i:aJ)(floor:Nat)(ar:aJ->Option AV)(J:ad):Option bO:=
  match ar x,ar i with
  |some (.s l),some j=>match natOf j with
   |some j=>match nth l j with|some c=>some (.val (.i .u8 (Int.ofNat c)) J)|none=>none
   |none=>none
  |_,_=>none
def a8x(n:Nat)(ab:Option Nat)(x:aJ)(i:aJ)(floor:Nat)(ar:aJ->Option AV)(J:ad):Option bO:=
  match ar x,ar i with
  |some (.aj cs),some j=>match natOf j with
   |some j=>if Nat.blt j n then match dE ab (cs.drop (j*shN ab)) with|some v=>some (.val v J)|none=>none else none
   |none=>none
  |_,_=>none
def a8y(ab:Nat ⊕ List Nat)(x:aJ)(k:aJ)(z:AV)(two:Bool)(floor:Nat)(ar:aJ->Option AV)(J:ad):Option bO:=
  match ar x,ar k with
  |some x,some k=>match lookupA J ab x k z two with|some v=>some (.val v J)|none=>none
  |_,_=>none
def a8z(ab:Nat ⊕ List Nat)(x:aJ)(k:aJ)(v:aJ)(floor:Nat)(ar:aJ->Option AV)(J:ad):Option bO:=
  match ar x,ar k,ar v with
  |some (.m (some id)),some k,some v=>
   if Nat.blt id floor then none else
   match J.get id with
   |some (.map es bm)=>match keyEq ab k k with
    |none=>none
    |some _=>match mF ab k v es with
    |some (some es)=>some (.val dF (J.set id (.map es bm)))
    |some none=>some (.val dF (J.set id (.map (es++[(k,v,bm)]) (bm+1))))
    |none=>none
   |_=>none
  |_,_,_=>none
def a8A(x:aJ)(t:TypeId)(z:AV)(two:Bool)(floor:Nat)(ar:aJ->Option AV)(J:ad):Option bO:=
  match ar x with
  |some x=>match assertA x t z two with|some v=>some (.val v J)|none=>none
  |none=>none
def a8B(x:aJ)(i:Nat)(floor:Nat)(ar:aJ->Option AV)(J:ad):Option bO:=
  match ar x with
  |some (.bg l)=>match nth l i with|some v=>some (.val v J)|none=>none
  |_=>none
def a8C(c:uq)(args:List aJ)(floor:Nat)(ar:aJ->Option AV)(J:ad):Option bO:=
  match calleeV ar c,mapO ar args with
  |some bG,some args=>some (.call bG args)
  |_,_=>none
def a8D(c:uq)(args:List aJ)(floor:Nat)(ar:aJ->Option AV)(J:ad):Option bO:=
  match calleeV ar c,mapO ar args with
  |some bG,some args=>some (.mE bG args)
  |_,_=>none
def a8E(x:aJ)(floor:Nat)(ar:aJ->Option AV)(J:ad):Option bO:=
  match ar x with|some (.it t v)=>some (.panic (.it t v))|_=>none
def a8F(k:Nat)(x:aJ)(floor:Nat)(ar:aJ->Option AV)(J:ad):Option bO:=
  match ar x with
  |some x=>match lenA J k x with|some n=>some (.val (.i .i64 (Int.ofNat n)) J)|none=>lenU J k x
  |none=>none
def a8G(n:Nat)(floor:Nat)(ar:aJ->Option AV)(J:ad):Option bO:=
  some (.val (.i .i64 (Int.ofNat n)) J)
def a8H(x:aJ)(floor:Nat)(ar:aJ->Option AV)(J:ad):Option bO:=
  match ar x with
  |some x=>match capA x with|some n=>some (.val (.i .i64 (Int.ofNat n)) J)|none=>none
  |none=>none
def a8I(ab:Option Nat)(bytes:Nat)(s:aJ)(x:aJ)(floor:Nat)(ar:aJ->Option AV)(J:ad):Option bO:=
  match ar s,ar x with
  |some s,some x=>match appendO floor J ab bytes s x with|some (v,J)=>some (.val v J)|none=>none
  |_,_=>none
def a8J(x:aJ)(floor:Nat)(ar:aJ->Option AV)(J:ad):Option bO:=
  match ar x with
  |some (.s l)=>some (.val (.ao J.next 0 l.length none none) (J.push (.cells (l.map λc=>AV.i .u8 (Int.ofNat c)))))
  |_=>none
def a8K(x:aJ)(floor:Nat)(ar:aJ->Option AV)(J:ad):Option bO:=
  match ar x with
  |some x=>match readList J x with
   |some l=>match mapO byteOf l with
    |some l=>some (.val (.s l) J)
    |none=>none
   |none=>none
  |none=>none
def a8L(ab:Option Nat)(bytes:Nat)(z:List AV)(l:aJ)(c:aJ)(floor:Nat)(ar:aJ->Option AV)(J:ad):Option bO:=
  match ar l,ar c with
  |some (.i _ (.ofNat n)),some (.i _ (.ofNat m))=>
   cond (Nat.beq z.length (shN ab)&&(Nat.ble n m&&(Nat.ble (bytes*m) 281474976710656&&Nat.ble m 281474976710656)))
    (some (.val (.ao J.next 0 n ab (some m)) (J.push (.cells (hQ m z))))) none
  |some .nilsl,some (.i _ (.ofNat m))=>
   cond (Nat.beq z.length (Nat.succ (shN ab))&&(Nat.blt 0 m&&Nat.ble ((3*m+2000)*bytes) 281474976710656))
    (some (.val (.ao J.next 0 m ab none) (J.push (.cells (hQ m z.tail))))) none
  |_,_=>none
def a8M(x:aJ)(floor:Nat)(ar:aJ->Option AV)(J:ad):Option bO:=
  match ar x with
  |some (.m none)=>some (.val (kH J.next 0) (J.push (.mapIter none 0 [] 0)))
  |some (.m (some id))=>match J.get id with
   |some (.map _ bm)=>some (.val (kH J.next 0) (J.push (.mapIter (some id) bm [] bm)))
   |_=>none
  |_=>none
def a8N(x:aJ)(floor:Nat)(ar:aJ->Option AV)(J:ad):Option bO:=
  match ar x with
  |some (.p (some (it,0)))=>if Nat.blt it floor then none else
   match J.get it with
   |some (.mapIter none _ _ _)=>some (.val (.bg [.b false]) J)
   |some (.mapIter (some id) since seen hP)=>match J.get id with
    |some (.map es bm)=>
     cond (Nat.beq bm since&&Nat.beq hP since&&cN (λ(e:AV×AV×Nat)=>Nat.blt e.2.2 since) es)
      (match nN seen es with
       |[]=>some (.val (.bg [.b false]) J)
       |l=>some (.kG (l.map λe=>(.bg [.b true,e.1,e.2.1],J.set it (.mapIter (some id) since (seen++[e.2.2]) bm))))) none
    |_=>none
   |_=>none
  |_=>none
def a8O(x:aJ)(floor:Nat)(ar:aJ->Option AV)(J:ad):Option bO:=
  match ar x with
  |some (.p (some (it,0)))=>match J.get it with
   |some (.mapIter (some id) since seen hP)=>match J.get id with
    |some (.map es bm)=>cond (Nat.beq bm hP) (match r1 seen with
     |some b=>match qR b es with
      |some e=>some (.val (.bg [e.1,e.2.1]) J)
      |none=>none
     |none=>none) none
    |_=>none
   |_=>none
  |_=>none
def a8P(_sh:Option Nat)(d:aJ)(x:aJ)(floor:Nat)(ar:aJ->Option AV)(J:ad):Option bO:=
  match ar d,ar x with
  |some (.ao _ _ 0 _ _),some (.aj _)=>some (.val dF J)
  |some (.ao id off (len+1) _ _),some (.aj z)=>match Nat.blt id floor,J.get id with
   |false,some (.cells c)=>match storeCells c off (hQ (len+1) z) with
    |some c=>some (.val dF (J.set id (.cells c)))
    |none=>none
   |_,_=>none
  |some .nilsl,some (.aj _)=>some (.val dF J)
  |some (.aV _ _ []),some (.aj _)=>some (.val dF J)
  |_,_=>none
def a8Q(gq:Bool)(x:aJ)(y:aJ)(floor:Nat)(ar:aJ->Option AV)(J:ad):Option bO:=
  match ar x,ar y with
  |some (.i k a),some (.i l b)=>if k=l then some (.val (.i k (if gq then(if b > a then b else a) else(if b<a then b else a))) J) else none
  |_,_=>none
def Xr:PH:=λ_ _ _=>none
def ur(op:AOp):PH:=
 AOp.rec (motive:=λ_=>PH) a7X a7Y a7Z a8a a8b a8c a8d a8e a8f a8g a8h a8i a8j a8k a8l a8J a8K a8m a8n a8o a8L a8r a8p a8q a8s a8t a8u a8v a8w a8x a8y a8z a8M a8N a8O a8A a8B a8C a8D a8E a8I a8F a8G a8H a8P a8Q Xr Xr op
def AOp.isRec(op:AOp):Bool:=
 AOp.rec (motive:=λ_=>Bool) (λ_=>false) (λ_ _ _=>false) (λ_=>false) (λ_=>false) (λ_ _=>false) (λ_ _ _ _=>false) (λ_ _=>false) (λ_ _ _=>false) (λ_=>false) (λ_ _ _=>false) (λ_ _ _=>false) (λ_ _ _ _=>false) (λ_=>false) (λ_=>false) (λ_ _=>false) (λ_=>false) (λ_=>false) (λ_ _=>false) (λ_ _ _=>false) false (λ_ _ _ _ _=>false) (λ_ _ _ _ _=>false) (λ_ _ _ _ _=>false) (λ_ _ _=>false) (λ_ _ _=>false) (λ_ _ _=>false) (λ_ _ _ _=>false) (λ_ _ _=>false) (λ_ _=>false) (λ_ _ _ _=>false) (λ_ _ _ _ _=>false) (λ_ _ _ _=>false) (λ_=>false) (λ_=>false) (λ_=>false) (λ_ _ _ _=>false) (λ_ _=>false) (λ_ _=>false) (λ_ _=>false) (λ_=>false) (λ_ _ _ _=>false) (λ_ _=>false) (λ_=>false) (λ_=>false) (λ_ _ _=>false) (λ_ _ _=>false) true false op
def wantedA(g:Option (Nat×Bool))(ao:a1 AV):Bool:=
 match g with
 |none=>true
 |some (d,w)=>match ao.get d with
  |some (.b x)=>x==w
  |_=>false
def JL(g:Option (Nat×Bool))(ao:a1 AV):Bool:=
 Option.rec (motive:=λ_=>Bool) true (λp=>match a1.JJ (PG p.1) ao with
  |some (.b x)=>x==p.2
  |_=>false) g
abbrev kd:=Nat->Option Nat->b5->Fr->ad->Option (List (hE×Fr×ad))
def resultOf(J:ad)(ao:a1 AV)(r:Nat×Option (Option Nat)):Option AV:=
 match ao.get r.1,r.2 with
 |some v,none=>some v
 |some (.p (some (id,off))),some ab=>match J.get id with
  |some (.cells c)=>dE ab (c.drop off)
  |_=>none
 |_,_=>none
def resultsOf(J:ad)(ao:a1 AV)(rs:List (Nat×Option (Option Nat))):Option AV:=
 match mapO (resultOf J ao) rs with
 |some [v]=>some v
 |some bp=>some (.bg bp)
 |none=>none
def vR(fn:gr)(args:List AV):Fr:=⟨a1.lay args 0 (a1.full fn.ntmps dF fn.ntmps),[],false⟩
def isFn:AV->Bool
 | .f (.func _) _ _=>true
 |_=>false
def s4(env:Env)(floor:Nat)(call:AV->List AV->ad->Option (ee×ad))(rc:Option AV)(dc:Bool)(ops:List a2):Fr->ad->Option (hE×Fr×ad):=
 List.rec (λae J=>some (.normal,ae,J)) (λo _ aC ae J=>
  cond (wantedA o.guard ae.bk)
   (cond o.op.isRec
    (match rc with
     |some v=>aC (Fr.put ⟨ae.bk,ae.defers,true⟩ o.dst (cond ae.gv .fx v)) J
     |none=>none)
    (match ur o.op floor (evalA env ae.bk) J with
     |some (.val v J)=>aC (ae.put o.dst v) J
     |some (.call bG args)=>match call bG args J with
      |some (.ok v,J)=>aC (ae.put o.dst v) J
      |some (.err v,J)=>some (.panic v,ae,J)
      |none=>none
     |some (.mE bG args)=>cond (dc&&isFn bG) (aC (Fr.put ⟨ae.bk,.inr (bG,args)::ae.defers,ae.gv⟩ o.dst dF) J) none
     |some (.panic v)=>some (.panic v,ae,J)
     |some (.kG _)=>none
     |none=>none))
   (aC (ae.put o.dst dF) J)) ops
abbrev oo:=List (hE×Fr×ad)
abbrev mG:=AV->List AV->ad->Option (List (ee×ad))
def runOps(env:Env)(floor:Nat)(call:mG)(dc:Bool)(ops:List a2):Fr->ad->Option oo:=
 List.rec (motive:=λ_=>Fr->ad->Option oo) (λae J=>some [(.normal,ae,J)]) (λo _ aC ae J=>
  Bool.rec (motive:=λ_=>Option oo) (aC (ae.p_ o.dst dF) J)
   (Option.rec (motive:=λ_=>Option oo) none (λr=>bO.rec (motive:=λ_=>Option oo)
    (λv J=>aC (ae.p_ o.dst v) J)
    (λbG args=>ks (call bG args J) (λr=>match r with
     |(.ok v,J)=>aC (ae.p_ o.dst v) J
     |(.err v,J)=>some [(.panic v,ae,J)]))
    (λbG args=>cond (dc&&isFn bG) (aC (Fr.p_ ⟨ae.bk,.inr (bG,args)::ae.defers,ae.gv⟩ o.dst dF) J) none)
    (λv=>some [(.panic v,ae,J)])
    (λl=>k5 (λp=>aC (ae.p_ o.dst p.1) p.2) l) r)
    (ur o.op floor (B1 env ae.bk) J))
   (JL o.guard ae.bk)) ops
def AOp.isEffect:AOp->Bool
 | .store _ _ _| .xv _ _ _ _| .call _ _| .append _ _ _ _| .copy _ _ _| .mkSlice _ _ _ _ _| .JE _| .rangeMap _| .vP _| .mE _ _| .panic _| .recover=>true
 |_=>false
def AOp.isAlloc:AOp->Bool
 | .alloc _| .box _| .buildSlice _ _ _ _| .mkMap=>true
 |_=>false
def AOp.looks:AOp->Bool
 | .load _ _| .lookup _ _ _ _ _| .len _ _| .entry _| .JF _| .BY _ _ _ _ _=>true
 |_=>false
def r2{α:Type}:Option α->List α
 |none=>[]
 |some x=>[x]
def AOp.opnds:AOp->List aJ
 | .mb x=>[x]| .pick c a b=>[c,a,b]| .alloc _=>[]| .box x=>[x]| .build _ aE=>aE.map (·.2.2)| .buildSlice _ _ _ aE=>aE.map (·.2)
 | .load _ a=>[a]| .store _ a x=>[a,x]| .nilCheck x=>[x]| .bin _ x y=>[x,y]| .BX _ x y=>[x,y]| .nK _ _ x y=>[x,y]| .not x=>[x]| .neg x=>[x]| .conv _ x=>[x]
 | .JE x=>[x]| .JF x=>[x]| .JG _ x=>[x]| .zg _ a c=>a++c| .mkMap=>[]| .mkSlice _ _ _ l c=>[l,c]
 | .BY _ _ x l h=>x::(r2 l++r2 h)| .xu _ x l h m=>x::(r2 l++(r2 h++r2 m))| .EA x l h=>x::(r2 l++r2 h)
 | .fieldAddr _ _ x=>[x]| .field _ _ x=>[x]| .EB _ _ x i=>[x,i]| .k2 _ x i=>[x,i]| .JH x i=>[x,i]| .PD _ _ x i=>[x,i]
 | .lookup _ x k _ _=>[x,k]| .xv _ m k v=>[m,k,v]| .rangeMap x=>[x]| .vP x=>[x]| .entry x=>[x]| .PE x _ _ _=>[x]| .extract x _=>[x]
 | .call c as=>(match c with| .fn _=>[]| .val o=>[o])++as| .mE c as=>(match c with| .fn _=>[]| .val o=>[o])++as
 | .panic x=>[x]| .append _ _ s x=>[s,x]| .len _ x=>[x]| .JI _=>[]| .cap x=>[x]| .copy _ d s=>[d,s]| .BZ _ x y=>[x,y]| .recover=>[]| .bad=>[]
def aJ.tmp:aJ->Option Nat
 | .t i=>some i
 |_=>none
def a2.reads(o:a2):List Nat:=(match o.guard with|some (d,_)=>[d]|none=>[])++o.op.opnds.filterMap aJ.tmp
abbrev md:=a2×a1 AV×AV
abbrev ke:=Fr×List ad×List md×ad
def runDraws(env:Env)(floor:Nat)(call:mG)(ops:List a2):Fr->List ad->List md->ad->Option (List ke):=
 List.rec (λae ch ws J=>some [(ae,ch,ws,J)]) (λo _ aC ae ch ws J=>
  cond (JL o.guard ae.bk)
   (match ur o.op floor (B1 env ae.bk) J with
    |some (.val v ai)=>aC (ae.p_ o.dst v) (J::ch) (match o.jS with|[]=>ws|_::_=>(o,ae.bk,v)::ws) ai
    |some (.call bG args)=>match call bG args J with
     |some (x::l)=>k5 (λr=>match r with|(.ok v,ai)=>aC (ae.p_ o.dst v) (J::ch) ws ai|_=>none) (x::l)
     |_=>none
    |_=>none)
   (aC (ae.p_ o.dst dF) (J::ch) ws J)) ops
def steady(env:Env)(floor:Nat)(ch:List ad)(w:md):Bool:=
 cN (λq=>match nth ch q with
  |some J=>match ur w.1.op floor (evalA env w.2.1) J with
   |some (.val v _)=>AV.eqb env.bh v w.2.2
   |_=>false
  |none=>false) w.1.jS
def swapOk(env:Env)(ao:a1 AV)(ops:List a2):Bool:=
 match ops.reverse with
 |y::x::_=>match y.jS with
  |[]=>true
  |_::_=>match y.op with
   | .store _ b _=>match x.op with
    | .store _ a _=>match evalA env ao a,evalA env ao b with
     |some (.p (some (i,_))),some (.p (some (j,_)))=>!Nat.beq i j
     |_,_=>false
    |_=>false
   |_=>true
 |_=>true
def leave(floor:Nat)(call:AV->List AV->AV->ad->Option (Bool×ad))(ds:List (Nat ⊕ (AV×List AV))):Option AV->ad->Option (Option AV×ad):=
 List.rec (λp J=>some (p,J)) (λd _ aC p J=>
  match d with
  | .inl b=>if Nat.blt b floor then none else match J.get b with
   |some .c7=>aC p (J.set b .dead)
   |_=>none
  | .inr (bG,args)=>match call bG args (p.getD .fx) J with
   |some (r,J)=>aC (cond r none p) J
   |none=>none) ds
def xw(env:Env)(floor:Nat)(rc:AV)(c:b5):Fr->ad->Option (hE×Fr×ad):=
 b5.rec (motive:=λ_=>Fr->ad->Option (hE×Fr×ad))
  (λae J=>some (.normal,ae,J))
  (λops ae J=>s4 env floor (λ_ _ _=>none) (some rc) false ops ae J)
  (λ_ _ _=>none)
  (λ_ _ PI PJ ae J=>match PI ae J with
   |some (.normal,ae,J)=>PJ ae J
   |r=>r)
  (λc _ _ PI PJ ae J=>match evalA env ae.bk c with
   |some (.b t)=>cond t (PI ae J) (PJ ae J)
   |_=>none)
  (λ_ _ _ _ _=>none) (λ_ _ _ _=>none) (λ_ _ _ _=>none) (λ_ _ _ _ _ _ _ _=>none) (λ_ _ _=>none)
  (λae J=>some (.ret,ae,J)) (λ_ _=>none) c
def callD(env:Env)(floor:Nat)(bG:AV)(args:List AV)(p:AV)(J:ad):Option (Bool×ad):=
 match bG with
 | .f (.func g) first cap=>match env.funcs g with
  |some fn=>match fn.body with
   |some body=>cond (Nat.beq (first++args++cap).length fn.kF&&Nat.ble (first++args++cap).length fn.ntmps)
    (match xw env floor p body (vR fn (first++args++cap)) J with
     |some (.normal,ae,J)=>(match ae.defers,resultsOf J ae.bk fn.results with|[],some _=>some (ae.gv,J)|_,_=>none)
     |some (.ret,ae,J)=>(match ae.defers,resultsOf J ae.bk fn.results with|[],some _=>some (ae.gv,J)|_,_=>none)
     |_=>none) none
   |none=>none
  |none=>none
 |_=>none
def JM(e:hE):Option AV:=match e with| .panic v=>some v|_=>none
def endF(env:Env)(floor:Nat)(fn:gr)(r:hE×Fr×ad):Option (List (ee×ad)):=
 match r with
 |(.exit _,_,_)=>none
 |(e,ae,J)=>
  match leave floor (callD env floor) ae.defers (JM e) J with
  |none=>none
  |some (some v,J)=>some [(.err v,J)]
  |some (none,J)=>match resultsOf J ae.bk fn.results with
   |some v=>some [(.ok v,J)]
   |none=>none
def runF(env:Env)(aC:kd)(floor g:Nat)(args:List AV)(J:ad):Option (List (ee×ad)):=
 match env.funcs g with
 |none=>none
 |some fn=>match fn.body with
  |none=>none
  |some body=>
   cond (Nat.beq args.length fn.kF&&Nat.ble args.length fn.ntmps)
    (ks (aC floor none body (vR fn args) J) (endF env floor fn))
    none
def B2(c:Nat)(l:List Nat):Nat->Int:=List.rec (motive:=λ_=>Nat->Int) (λ_=>-1) (λx _ aC k=>cond (Nat.beq x c) (Int.ofNat k) (aC (k+1))) l
def a8R(c:Nat)(l:List Nat):Nat:=List.rec 0 (λx _ aC=>cond (Nat.beq x c) (Nat.succ aC) aC) l
def extRow(n:Nat)(args:List AV):Option AV:=
 match n,args with
 |1,[.s l,.i .u8 (.ofNat c)]=>cond (Nat.blt c 256) (some (.i .i64 (B2 c l 0))) none
 |2,[.s a,.s b]=>some (.i .i64 (cond (i_ a b) (-1) (cond (eqL a b) 0 1)))
 |3,[.s l,.i .u8 (.ofNat c)]=>cond (Nat.blt c 256) (some (.i .i64 (Int.ofNat (a8R c l)))) none
 |_,_=>none
def zj(n base:Nat)(v1:AV)(y:ee×ad):Bool:=
 match y with
 |(.ok w,J)=>(match freeze J base n w with|some b4=>AV.eqb n b4 v1|none=>false)
 |(.err _,_)=>false
def joinF(n base:Nat)(l:List (ee×ad)):Option AV:=
 match l with
 |[]=>none
 |x::t=>match x with
  |(.err _,_)=>none
  |(.ok v,J)=>match freeze J base n v with
   |none=>none
   |some v1=>cond (cN (zj n base v1) t) (some v1) none
def callF(env:Env)(aC:kd)(floor g:Nat)(args:List AV)(J:ad):Option (List (ee×ad)):=
 match env.ext g with
 |0=>
  cond (env.pure g)
   (match(match mapO (bt J env.bh) args with|some aO=>env.spec g aO|none=>none) with
    |some r=>some [(.ok r,J)]
    |none=>match runF env aC J.next g args J with
     |some l=>match joinF env.bh J.next l with
      |some v=>some [(.ok v,J)]
      |none=>none
     |none=>none)
   (runF env aC floor g args J)
 |k=>match extRow k args with
  |some v=>some [(.ok v,J)]
  |none=>none
def layAll(aE:List Nat):List AV->a1 AV->a1 AV:=
 List.rec (λ_ ao=>ao) (λp _ aC args ao=>match args with|[]=>ao|a::args=>aC args (ao.set p a)) aE
def endRound(J:ad)(l:Nat)(a8S:Option b5):Option (ee×ad):=
 match J.get l with
 |some (.loop _ _ ao aE as b d)=>match a8S with
  |none=>some (.ok (.b true),J.set l (.loop .ready none ao aE as b d))
  |some c=>some (.ok (.b false),J.set l (.loop .done (some c) ao aE as b d))
 |_=>none
def roundEnd(l:Nat)(r:hE×Fr×ad):Option (List (ee×ad)):=
 match r with
 |(.normal,_,J)=>(endRound J l none).map λx=>[x]
 |(.ret,_,J)=>(endRound J l (some .ret)).map λx=>[x]
 |(.exit id,_,J)=>(endRound J l (some (.exit id))).map λx=>[x]
 |_=>none
def roundMid(aC:kd)(floor l:Nat)(b:b5)(r:hE×Fr×ad):Option (List (ee×ad)):=
 match r with
 |(.normal,ae,J)=>match J.get l with
  |some (.loop .ready nf vS oq jb fq iE)=>ks (aC floor (some l) b ae (J.set l (.loop .busy nf vS oq jb fq iE))) (roundEnd l)
  |_=>none
 |_=>none
def PK(aC:kd)(floor l:Nat)(args:List AV)(J:ad):Option (List (ee×ad)):=
 if Nat.blt l floor then none else
 match J.get l with
 |some (.loop .ready _ ao aE as b _)=>
  cond (Nat.beq aE.length args.length)
   (ks (aC floor (some l) as ⟨layAll aE args ao,[],false⟩ J) (roundMid aC floor l b)) none
 |_=>none
def callV(env:Env)(aC:kd)(floor:Nat)(bG:AV)(args:List AV)(J:ad):Option (List (ee×ad)):=
 match bG with
 | .f (.func g) first cap=>callF env aC floor g (first++args++cap) J
 | .f (.yield l) _ _=>PK aC floor l args J
 |_=>none
def ED(aK:Option Nat)(ae:Fr)(J:ad):Option (Nat×ad×List (Nat ⊕ (AV×List AV))):=
 match aK with
 |some l=>match J.get l with
  |some (.loop _ _ _ _ _ _ d)=>some (d,J,ae.defers)
  |_=>none
 |none=>some (J.next,J.push .c7,.inl J.next::ae.defers)
def B3(aC:kd)(floor:Nat)(aK:Option Nat)(b:b5)(r:hE×Fr×ad):Option oo:=
 match r with
 |(.normal,ae,J)=>aC floor aK b ae J
 |r=>some [r]
def PL(id:Nat)(r:hE×Fr×ad):Option oo:=
 match r with
 |(.exit j,ae,J)=>cond (Nat.beq j id) (some [(.normal,ae,J)]) (some [(.exit j,ae,J)])
 |r=>some [r]
def rangeK(aC:kd)(floor:Nat)(aK:Option Nat)(ae:Fr)(ds:List (Nat ⊕ (AV×List AV)))(l:Nat)(r:ee×ad):Option oo:=
 match r with
 |(.ok _,hS)=>match hS.get l with
  |some (.loop st nf vS oq jb fq iE)=>
   match st with
   | .busy=>none
   |_=>match nf with
    |none=>some [(.normal,⟨ae.bk,ds,ae.gv⟩,hS.set l (.loop .exhausted nf vS oq jb fq iE))]
    |some c=>aC floor aK c ⟨ae.bk,ds,ae.gv⟩ (hS.set l (.loop .exhausted nf vS oq jb fq iE))
  |_=>none
 |_=>none
def drawn(env:Env)(floor:Nat)(ops:List a2)(x:ke):Option (hE×Fr×ad):=
 cond (x.2.2.1.all (steady env floor (x.2.2.2::x.2.1).reverse)&&swapOk env x.1.bk ops) (some (.normal,x.1,x.2.2.2)) none
def step(env:Env)(aC:kd):kd:=λfloor aK c ae J=>
 match c with
 | .skip=>some [(.normal,ae,J)]
 | .region ops=>runOps env floor (callV env aC floor) aK.isNone ops ae J
 | .draw ops=>match runDraws env floor (callV env aC floor) ops ae [] [] J with
  |some l=>mapO (drawn env floor ops) l
  |none=>none
 | .seq a b=>ks (aC floor aK a ae J) (B3 aC floor aK b)
 | .cond c a b=>match evalA env ae.bk c with
  |some (.b t)=>aC floor aK (cond t a b) ae J
  |_=>none
 | .block id a=>ks (aC floor aK a ae J) (PL id)
 | .scope a=>aC floor aK a ae J
 | .loop a=>ks (aC floor aK a ae J) (B3 aC floor aK (.loop a))
 | .exit id=>some [(.exit id,ae,J)]
 | .ret=>some [(.ret,ae,J)]
 | .rangeFunc f aE as b=>
  if Nat.blt J.next floor then none else
  match evalA env ae.bk f with
  |some (.f (.func g) first cap)=>
   match ED aK ae J with
   |none=>none
   |some (d,bP,ds)=>
    match env.ext g with
    |0=>ks (callF env aC floor g (first++AV.f (.yield bP.next) [] []::cap) (bP.push (.loop .ready none ae.bk aE as b d))) (rangeK aC floor aK ae ds bP.next)
    |_=>none
  |_=>none
 | .bad=>none
abbrev qb:=Env->kd->Nat->Option Nat->Fr->ad->Option (List (hE×Fr×ad))
def a8T:qb:=λ_ _ _ _ ae J=>some [(.normal,ae,J)]
def a8U(ops:List a2):qb:=λenv aC floor aK ae J=>runOps env floor (callV env aC floor) aK.isNone ops ae J
def a8V(ops:List a2):qb:=λenv aC floor _ ae J=>match runDraws env floor (callV env aC floor) ops ae [] [] J with
  |some l=>mapO (drawn env floor ops) l
  |none=>none
def a8W(a b:b5):qb:=λ_ aC floor aK ae J=>ks (aC floor aK a ae J) (B3 aC floor aK b)
def a8X(c:aJ)(a b:b5):qb:=λenv aC floor aK ae J=>match B1 env ae.bk c with
  |some (.b t)=>aC floor aK (cond t a b) ae J
  |_=>none
def a8Y(id:Nat)(a:b5):qb:=λ_ aC floor aK ae J=>ks (aC floor aK a ae J) (PL id)
def a8Z(a:b5):qb:=λ_ aC floor aK ae J=>ks (aC floor aK a ae J) (B3 aC floor aK (.loop a))
def a9a(a:b5):qb:=λ_ aC floor aK ae J=>aC floor aK a ae J
def a9b(id:Nat):qb:=λ_ _ _ _ ae J=>some [(.exit id,ae,J)]
def a9c:qb:=λ_ _ _ _ ae J=>some [(.ret,ae,J)]
def a9d(f:aJ)(aE:List Nat)(as b:b5):qb:=λenv aC floor aK ae J=>step env aC floor aK (.rangeFunc f aE as b) ae J
def a9e:qb:=λ_ _ _ _ _ _=>none
def a9f(c:b5):qb:=
 b5.rec (motive:=λ_=>qb) a8T a8U a8V (λa b _ _=>a8W a b) (λc a b _ _=>a8X c a b) (λid a _=>a8Y id a) (λa _=>a8Z a) (λa _=>a9a a) (λf aE a b _ _=>a9d f aE a b) a9b a9c a9e c
def Xs(env:Env)(aC:kd):kd:=λfloor aK c ae J=>a9f c env aC floor aK ae J
def exec(env:Env)(n:Nat):kd:=Nat.rec (motive:=λ_=>kd) (λ_ _ _ _ _=>none) (λ_ aC=>Xs env aC) n
def Xt(env:Env)(n g:Nat)(args:List AV):Option AV:=
 match runF env (exec env n) 0 g args ⟨.nil,0⟩ with
 |some l=>joinF env.bh 0 l
 |none=>none
def zk(s:ByteArray):List Nat:=s.data.toList.map (·.toNat)
def ofLeaf:Value->Option AV
 | .bool b=>some (.b b)
 | .int k n=>some (.i k n)
 | .string s=>some (.s (zk s))
 | .pointer none=>some (.p none)
 | .slice none 0 0=>some .nilsl
 | .map none=>some (.m none)
 | .nilFunc=>some .hD
 | .nilIface=>some .fx
 |_=>none
def mapOL{α β:Type}(f:α->Option β):List α->Option (List β)
 |[]=>some []
 |x::xs=>match f x,mapOL f xs with
  |some y,some ba=>some (y::ba)
  |_,_=>none
def ofValue:Value->Option AV
 | .agg l=>match mapOL ofLeaf l.toList with|some l=>some (.aj l)|none=>none
 | .iface t v=>match ofLeaf v with|some v=>some (.it t v)|none=>none
 |v=>ofLeaf v
section
variable (P:Program)
def shapeOf(t:TypeId):Option (Option Nat):=
 match P.underlying t,P.info? t with
 |some (.struct _),some i=>some (some i.size)
 |some (.array _ _),some i=>some (some i.size)
 |some (.struct _),none=>none
 |some (.array _ _),none=>none
 |some _,some i=>if i.size=1 then some none else none
 |_,_=>none
def zeroOf(t:TypeId):Option AV:=
 match P.info? t with
 |some i=>match i.zero with
  |some v=>ofValue v
  |none=>none
 |none=>none
def opdOf:Operand->Option aJ
 | .tmp t=>some (.t t)
 | .const v=>match ofValue v with|some v=>some (.c v)|none=>none
 | .global g=>some (.g g)
 | .func f=>some (.c (.f (.func f) [] []))
def zl(l:List Operand):Option (List aJ):=mapOL opdOf l
def opdO:Option Operand->Option (Option aJ)
 |none=>some none
 |some x=>match opdOf x with|some x=>some (some x)|none=>none
def fieldOf(t:TypeId)(i:Nat):Option (Nat×Option Nat):=
 match P.underlying t with
 |some (.struct a6)=>match a6[i]? with
  |some f=>match shapeOf P f.type with
   |some ab=>if shN ab=0 then none else some (f.offset,ab)
   |none=>none
  |none=>none
 |_=>none
def elemOf'(t:TypeId):Option (TypeId×Option Nat):=
 match P.underlying t with
 |some (.slice e)=>match shapeOf P e with|some ab=>some (e,ab)|none=>none
 |_=>none
def calleeOf:Callee->Option uq
 | .value (.func f)=>some (.fn f)
 | .value x=>match opdOf x with|some x=>some (.val x)|none=>none
 |_=>none
def isU8(t:TypeId):Bool:=match P.underlying t with|some (.int .u8)=>true|_=>false
def leafKind(t:TypeId):Option Nat:=
 match P.underlying t with
 |some (.int _)=>some 0
 |some .string=>some 1
 |some .bool=>some 2
 |_=>none
def keyOk(t:TypeId):Option (Nat ⊕ List Nat):=
 match leafKind P t with
 |some k=>some (.inl k)
 |none=>
  match P.underlying t with
  |some (.struct a6)=>if !P.stoodInHeld t&&a6.toList.zipIdx.all (λ(f,i)=>decide (f.name≠ "_")&&decide (f.offset=i)&&decide (shapeOf P f.type=some none)) then
    (mapOL (λf=>leafKind P f.type) a6.toList).map .inr else none
  |_=>none
def isInt(t:TypeId):Bool:=match P.underlying t with|some (.int _)=>true|_=>false
def isText(t:TypeId):Bool:=match P.underlying t with|some (.slice _)=>true|some .string=>true|_=>false
def flatS:Nat->List Field->Option (List Nat)
 |_,[]=>some []
 |i,f::a6=>
  if f.name≠ "_" ∧f.offset=i then
   match leafKind P f.type with
   |some k=>if shapeOf P f.type=some none then(flatS (i+1) a6).map λl=>k::l else none
   |none=>match keyOk P f.type with
    |some (.inr aR)=>if shapeOf P f.type=some (some aR.length) then(flatS (i+aR.length) a6).map λl=>aR++l else none
    |_=>none
  else none
def stK(t:TypeId):Option Nat:=
 match P.underlying t with
 |some (.struct a6)=>if P.stoodInHeld t=true then none else match flatS P 0 a6.toList with
  |some aR=>if Xq 40 (JK aR)=aR/\P.eqGuardType P.depth t=false then some (10+JK aR) else none
  |none=>none
 |_=>none
def cop(o:Oper):Option AOp:=
 match o.op with
 | .move x=>(opdOf x).map .mb
 | .assign x=>(opdOf x).map .mb
 | .pick c a b=>do return .pick (←opdOf c) (←opdOf a) (←opdOf b)
 | .alloc e=>(zeroOf P e).map .alloc
 | .box _ x=>(opdOf x).map .box
 | .build t aE=>do
  let .aj z <-zeroOf P t|none
  match P.underlying t with
  |some (.struct a6)=>
   if a6.any (λf=>(P.info? f.type).isNone) then none else
   let l <-mapOL (λ(p:Nat×Operand)=>match fieldOf P t p.1,opdOf p.2 with|some (off,ab),some x=>some (off,shN ab,x)|_,_=>none) aE.toList
   return .build z l
  |some (.array _ e)=>do
   let ab <-shapeOf P e
   let l <-mapOL (λ(p:Nat×Operand)=>match opdOf p.2 with|some x=>some (p.1*shN ab,shN ab,x)|none=>none) aE.toList
   return .build z l
  |_=>none
 | .buildSlice t n aE=>do
  let(e,ab) <-elemOf' P t
  let z <-zeroOf P e
  let l <-mapOL (λ(p:Nat×Operand)=>match opdOf p.2 with|some x=>some (p.1,x)|none=>none) aE.toList
  if n*shN ab<=16777216/\z.cells.length=shN ab then return .buildSlice ab n z.cells l else none
 | .insert t m k v| .mapUpdate t m k v=>
  match P.underlying t with
  |some (.map jT _)=>do return .xv (←keyOk P jT) (←opdOf m) (←opdOf k) (←opdOf v)
  |_=>none
 | .load t a=>do return .load (←shapeOf P t) (←opdOf a)
 | .store t a v=>do return .store (←shapeOf P t) (←opdOf a) (←opdOf v)
 | .nilCheck x=>(opdOf x).map .nilCheck
 | .binOp op t x y _=>do
  let x <-opdOf x;let y <-opdOf y
  match P.underlying t,op with
  |some (.int _),_=>return .bin op x y
  |some .string,_=>return .bin op x y
  |some .bool,.eql=>return .BX false x y
  |some .bool,.neq=>return .BX true x y
  |some (.interface _),.eql=>return .nK 0 false x y
  |some (.interface _),.neq=>return .nK 0 true x y
  |some (.pointer _),.eql=>return .nK 1 false x y
  |some (.pointer _),.neq=>return .nK 1 true x y
  |some (.func _ _ _),.eql=>return .nK 2 false x y
  |some (.func _ _ _),.neq=>return .nK 2 true x y
  |some (.slice _),.eql=>return .nK 3 false x y
  |some (.slice _),.neq=>return .nK 3 true x y
  |some (.map _ _),.eql=>return .nK 4 false x y
  |some (.map _ _),.neq=>return .nK 4 true x y
  |some (.struct _),.eql=>(stK P t).map λk=>.nK k false x y
  |some (.struct _),.neq=>(stK P t).map λk=>.nK k true x y
  |_,_=>none
 | .unOp .not _ x=>(opdOf x).map .not
 | .unOp .neg _ x=>(opdOf x).map .neg
 | .unOp _ _ _=>none
 | .convert s d x=>
  match P.underlying s,P.underlying d with
  |some (.int _),some (.int k)=>(opdOf x).map (.conv k)
  |some .string,some (.slice e)=>if isU8 P e then(opdOf x).map .JE else none
  |some (.slice e),some .string=>if isU8 P e then(opdOf x).map .JF else none
  |_,_=>none
 | .makeInterface t x=>match P.underlying t with
  |some (.interface _)=>none
  |some _=>(opdOf x).map (.JG t)
  |none=>none
 | .makeFunc fn a c=>match fn with
  | .func f=>do return .zg (.func f) (←zl a.toList) (←zl c.toList)
  |_=>none
 | .makeMap t r=>match P.underlying t,r with
  |some (.map _ _),none=>some .mkMap
  |some (.map _ _),some (.const (.int _ _))=>some .mkMap
  |_,_=>none
 | .makeSlice t l c=>do
  let(e,ab) <-elemOf' P t
  let z <-zeroOf P e
  let i <-P.info? e
  if z.cells.length=shN ab then return .mkSlice ab i.bytes z.cells (←opdOf l) (←opdOf c) else none
 | .slice t x l h m=>do
  let l <-opdO l;let h <-opdO h;let m <-opdO m
  match P.underlying t with
  |some (.array n e)=>match m with
   |none=>return .BY n (←shapeOf P e) (←opdOf x) l h
   |some _=>none
  |some (.slice e)=>match shapeOf P e with
   |some ab=>if m.isSome/\h.isNone then none else return .xu ab (←opdOf x) l h m
   |none=>none
  |some .string=>match m with
   |none=>return .EA (←opdOf x) l h
   |some _=>none
  |_=>none
 | .fieldAddr t x i=>do
  let(off,ab) <-fieldOf P t i
  return .fieldAddr off ab (←opdOf x)
 | .field t x i=>do
  let(off,ab) <-fieldOf P t i
  return .field off ab (←opdOf x)
 | .indexAddr t x i=>
  match P.underlying t with
  |some (.array n e)=>do return .EB n (←shapeOf P e) (←opdOf x) (←opdOf i)
  |some (.slice e)=>do return .k2 (←shapeOf P e) (←opdOf x) (←opdOf i)
  |_=>none
 | .index t x i=>
  match P.underlying t with
  |some (.array n e)=>do return .PD n (←shapeOf P e) (←opdOf x) (←opdOf i)
  |some .string=>do return .JH (←opdOf x) (←opdOf i)
  |_=>none
 | .lookup t x k ok=>
  match P.underlying t with
  |some (.map jT e)=>do return .lookup (←keyOk P jT) (←opdOf x) (←opdOf k) (←zeroOf P e) ok
  |_=>none
 | .range t x=>match P.underlying t with
  |some (.map _ _)=>(opdOf x).map .rangeMap
  |_=>none
 | .next x false=>(opdOf x).map .vP
 | .entry x=>(opdOf x).map .entry
 | .typeAssert x _ t ok=>
  match P.underlying t with
  |some (.interface _)=>none
  |some _=>do return .PE (←opdOf x) t (←zeroOf P t) ok
  |none=>none
 | .extract x i=>do return .extract (←opdOf x) i
 | .call {callee:=.builtin b,args,argTypes}=>
  match b,args.toList,argTypes.toList with
  | .append,[s,x],[t,u]=>do
   let(e,ab) <-elemOf' P t
   let i <-P.info? e
   let z <-zeroOf P e
   if isText P u/\i.bytes≠0/\z.cells.length=shN ab then return .append ab i.bytes (←opdOf s) (←opdOf x)
   else if isInt P u/\i.bytes≠0/\z.cells.length=shN ab/\0<shN ab then return .mkSlice ab i.bytes (.fx::z.cells) (←opdOf s) (←opdOf x) else none
  | .len,[x],[t]=>match P.underlying t with
   |some (.array n _)=>some (.JI n)
   |some .string=>(opdOf x).map (.len 0)
   |some (.slice _)=>(opdOf x).map (.len 1)
   |some (.map _ _)=>(opdOf x).map (.len 2)
   |_=>none
  | .cap,[x],[t]=>match P.underlying t with
   |some (.slice _)=>(opdOf x).map .cap
   |_=>none
  | .clear,[x],[t]=>match elemOf' P t with
   |some (e,ab)=>do
    let z <-zeroOf P e
    if z.cells.length=shN ab then return .copy ab (←opdOf x) (.c (.aj z.cells)) else none
   |none=>none
  | .min,[x,y],_=>do return .BZ false (←opdOf x) (←opdOf y)
  | .max,[x,y],_=>do return .BZ true (←opdOf x) (←opdOf y)
  | .recover,[],_=>some .recover
  | .panic,[x],_=>(opdOf x).map .panic
  |_,_,_=>none
 | .call c=>do return .call (←calleeOf c.callee) (←zl c.args.toList)
 | .defer {callee:=.builtin _,..}=>none
 | .defer c=>do return .mE (←calleeOf c.callee) (←zl c.args.toList)
 | .panic x=>(opdOf x).map .panic
 |_=>none
def copB(o:Oper):AOp:=match cop P o with|some x=>x|none=>.bad
def guardOf(ops:Array Oper)(o:Oper):Option (Option (Nat×Bool)):=
 match o.guard with
 |none=>some none
 |some (j,w)=>match(ops[j]?).bind (·.dst) with
  |some d=>some (some (d,w))
  |none=>none
def coper(ops:Array Oper)(o:Oper):Option a2:=
 match guardOf ops o with
 |some g=>some {dst:=o.dst,op:=copB P o,guard:=g,jS:=[]}
 |none=>none
def r3(o:Oper):List Nat:=(o.after.toList.filter (Region.binds .any)).map (·.on)
def orderGo:Nat->List (Nat×Bool×List Nat)->Nat->List Nat
 |0,_,_=>[]
 |fuel+1,rem,mask=>
  match(match rem.find? (λx=>!x.2.1&&x.2.2.all (λd=>mask.testBit d)) with|some x=>some x|none=>rem.find? (λx=>x.2.2.all (λd=>mask.testBit d))) with
  |some x=>x.1::orderGo fuel (rem.filter λy=>!Nat.beq y.1 x.1) (mask ||| 1 <<< x.1)
  |none=>[]
def zm(A:List Nat)(es:List Nat):Nat:=es.foldr (λd acc=>(1 <<< d ||| A.getD d 0) ||| acc) 0
def JN{α:Type}(f:α->α->Bool):List α->Bool
 |[]=>true
 |x::xs=>xs.all (f x)&&JN f xs
def indep(x y:a2):Bool:=(match x.dst with|some d=>!y.reads.contains d|none=>true)&&(match y.dst with|some d=>!x.reads.contains d|none=>true)
def isStore:AOp->Bool
 | .store _ _ _=>true
 |_=>false
def Xu(x:a2):Bool:=!x.op.isEffect&&(!x.op.isAlloc&& !x.op.looks)
def Xv(A:List Nat)(pl:List a2)(x y:a2×Nat):Bool:=
 Nat.beq (x.2+1) y.2&&(Nat.beq (y.2+1) pl.length&&(isStore x.1.op&&(isStore y.1.op&&(x.1.dst.isNone&&(y.1.dst.isNone&&(x.1.guard.isNone&&(y.1.guard.isNone&&(!y.1.jS.isEmpty&&
  pl.zipIdx.all λr=>!Nat.blt r.2 x.2||((A.getD y.2 0).testBit r.2||Xu r.1)))))))))
def pairOk(A:List Nat)(pl:List a2)(x y:a2×Nat):Bool:=
 let Ey:=(A.getD y.2 0).testBit x.2
 (match x.1.dst,y.1.dst with|some d,some e=>!Nat.beq d e|_,_=>true)&&(Ey||(indep x.1 y.1&&(!x.1.op.isEffect||Xv A pl x y)))
def EE(x:a2):Bool:=x.op.isEffect||x.op.isAlloc
def Xw(A:List Nat)(es:List Nat)(cs:List Nat)(n:Nat)(x:a2×Nat):Bool:=
 !x.1.op.looks||(n::es).all λq=>!Nat.blt x.2 q||(x.1.jS.contains q||(es.any (λe=>Nat.blt x.2 e&&(Nat.blt e q&&(A.getD e 0).testBit x.2))||cs.all λc=>!(Nat.blt x.2 c&&Nat.blt c q)))
def a9g(A:List Nat)(es:List Nat)(cs:List Nat)(n:Nat)(x:a2×Nat):List Nat:=
 if isStore x.1.op&&(Nat.beq (x.2+1) n&&(Nat.blt 0 x.2&&(es.contains (x.2-1)&& !(A.getD x.2 0).testBit (x.2-1)))) then[x.2-1]
 else if x.1.op.looks then(es++[n]).filter λq=>Nat.blt x.2 q&&(!es.any (λe=>Nat.blt x.2 e&&(Nat.blt e q&&(A.getD e 0).testBit x.2))&& !cs.all λc=>!(Nat.blt x.2 c&&Nat.blt c q)) else[]
def posOf(p:a2->Bool)(pl:List a2):List Nat:=(pl.zipIdx.filter λx=>p x.1).map (·.2)
def Xx(n:Nat)(bd cZ:List Nat):Bool:=
 Nat.beq bd.length n&&(Nat.beq cZ.length n&&(bd.zipIdx.all (λx=>Nat.blt x.1 n&&Nat.beq (cZ.getD x.1 0) x.2)&&cZ.zipIdx.all (λx=>Nat.blt x.1 n&&Nat.beq (bd.getD x.1 0) x.2)))
def zn(ds:List (List Nat))(cZ:List Nat)(i:Nat):List Nat:=(ds.getD i []).map λj=>cZ.getD j 0
def Xy(ds:List (List Nat))(bd cZ A:List Nat):Bool:=
 bd.zipIdx.all λx=>(zn ds cZ x.1).all (λd=>Nat.blt d x.2)&&Nat.beq (A.getD x.2 0) (zm A (zn ds cZ x.1))
def Xz(n:Nat)(ds:List (List Nat))(pl:List a2)(bd cZ A:List Nat):Bool:=
 Xx n bd cZ&&(ds.all (λl=>l.all λd=>Nat.blt d n)&&(Xy ds bd cZ A&&(JN (pairOk A pl) pl.zipIdx&&pl.zipIdx.all (Xw A (posOf (·.op.isEffect) pl) (posOf EE pl) n))))
def PM(l:List a2)(bd:List Nat):Option (List a2):=mapOL (λi=>l[i]?) bd
def EF(A:List Nat)(n:Nat)(pl:List a2):List a2:=
 let es:=posOf (·.op.isEffect) pl
 let cs:=posOf EE pl
 pl.zipIdx.map λx=>{x.1 with jS:=a9g A es cs n x}
def cdraw(ops:Array Oper):Option (List a2):=
 match mapOL (coper P ops) ops.toList with
 |none=>none
 |some l=>
  let n:=ops.size
  let ds:=ops.toList.map r3
  let bd:=orderGo n ((l.zip ds).zipIdx.map λx=>(x.2,x.1.1.op.isEffect,x.1.2)) 0
  let cZ:=(List.range n).map λi=>bd.findIdx (Nat.beq i)
  let A:=bd.foldl (λacc i=>acc++[zm acc (zn ds cZ i)]) []
  match PM l bd with
  |none=>none
  |some pl=>if Xz n ds (EF A n pl) bd cZ A then some (EF A n pl) else none
def ccode:Code->Option b5
 | .skip=>some .skip
 | .region _ ops true=>match cdraw P ops with|some l=>some (.draw l)|none=>some .bad
 | .region _ ops false=>match mapOL (coper P ops) ops.toList with|some l=>some (.region l)|none=>some .bad
 | .seq a b=>match ccode a,ccode b with|some a,some b=>some (.seq a b)|_,_=>none
 | .cond c a b=>match opdOf c,ccode a,ccode b with|some c,some a,some b=>some (.cond c a b)|_,_,_=>none
 | .block id a=>match ccode a with|some a=>some (.block id a)|none=>none
 | .loop a=>match ccode a with|some a=>some (.loop a)|none=>none
 | .scope a=>match ccode a with|some a=>some (.scope a)|none=>none
 | .rangeFunc f aE a b=>match opdOf f,ccode a,ccode b with|some f,some a,some b=>some (.rangeFunc f aE.toList a b)|_,_,_=>none
 | .exit id=>some (.exit id)
 | .ret=>some .ret
 | .label _=>some .skip
 | .goto _=>some .bad
 | .refuse _=>some .bad
def resOf:ResultVar->Option (Nat×Option (Option Nat))
 | .tmp t=>some (t,none)
 | .cell a t=>match shapeOf P t with|some ab=>some (a,some ab)|none=>none
def cfunc(f:Func):Option gr:=
 match mapOL (resOf P) f.results.toList with
 |some rs=>match f.body with
  |none=>none
  |some c=>match ccode P c with
   |some c=>some {kF:=f.params.size+f.nfree,ntmps:=f.ntmps,results:=rs,body:=some c}
   |none=>none
 |none=>none
end
section
def strOf(l:List Nat):ByteArray:=⟨(l.map Nat.toUInt8).toArray⟩
def eF(w:World)(b:Nat):Option Nat:=
 match w.heap[b]? with
 |some (.cells c _ _)=>some c.size
 |_=>none
class Tok where
 EG:Nat->AV
 qS:Bool->Nat->AV
variable [Tok]
inductive EH:AV->Value->Prop
 |i (k:IntKind) (n:Int):EH (.i k n) (.int k n)
 |s (l:List Nat) (h:∀c∈l,c<256):EH (.s l) (.string (strOf l))
def EH.alt{a:AV}{u:Value}(h:EH a u):(∃k n,u= .int k n)\/∃s,u= .string s:=by
 cases h with
 |i k n=>exact .inl ⟨_,_,rfl⟩
 |s l h=>exact .inr ⟨_,rfl⟩
inductive R(w:World):(Nat->Option Nat)->(Nat->Prop)->Nat->AV->Value->Prop
 |b {m:Nat->Option Nat} {O:Nat->Prop} {B:Nat} (x:Bool):R w m O B (.b x) (.bool x)
 |i {m:Nat->Option Nat} {O:Nat->Prop} {B:Nat} (k:IntKind) (n:Int):R w m O B (.i k n) (.int k n)
 |s {m:Nat->Option Nat} {O:Nat->Prop} {B:Nat} (l:List Nat) (h:∀c∈l,c<256):R w m O B (.s l) (.string (strOf l))
 |r4 {m:Nat->Option Nat} {O:Nat->Prop} {B:Nat}:R w m O B (.p none) (.pointer none)
 |p {m:Nat->Option Nat} {O:Nat->Prop} {B:Nat} {id aG off:Nat} (h:m id=some aG):R w m O B (.p (some (id,off))) (.pointer (some ⟨aG,off,none⟩))
 |df {m:Nat->Option Nat} {O:Nat->Prop} {B:Nat} {old:Bool} {v:AV} {aG off:Nat} (ba:Nat->Value) (cv:¬O aG) (hb:aG<w.heap.size) (b0:old=false->B<=aG)
   (aa:∀j,j<v.cells.length->w.cell? ⟨aG,off+j,none⟩=some (ba j)) (ak:∀j (h:j<v.cells.length),R w (λ_=>none) O B (v.cells[j]) (ba j)) (hf:∀x∈v.cells,conf none x=true):
   R w m O B (.df old v) (.pointer (some ⟨aG,off,none⟩))
 |nilsl {m:Nat->Option Nat} {O:Nat->Prop} {B:Nat}:R w m O B .nilsl (.slice none 0 0)
 |ao {m:Nat->Option Nat} {O:Nat->Prop} {B:Nat} {id off len aG n gF:Nat} {ab cap:Option Nat} (h:m id=some aG) (hl:len<=gF) (aa:∀c,cap=some c->gF=c) (hn:eF w aG=some n) (ng:off+gF*shN ab<=n):
   R w m O B (.ao id off len ab cap) (.slice (some ⟨aG,off,none⟩) len gF)
 |mH {m:Nat->Option Nat} {O:Nat->Prop} {B:Nat} {old:Bool} {ab:Option Nat}:R w m O B (.aV old ab []) (.slice none 0 0)
 |aV {m:Nat->Option Nat} {O:Nat->Prop} {B:Nat} {old:Bool} {ab:Option Nat} {xs:List AV} {aG off gF:Nat} {sp:Option Nat} (ba:Nat->Nat->Value) (cv:xs≠[]->¬O aG/\aG<w.heap.size/\(old=false->B<=aG))
   (al:∀i (h:i<xs.length),conf ab (xs[i])=true)
   (aa:∀i (h:i<xs.length),∀j,j<(xs[i]).cells.length->w.cell? ⟨aG,off+i*shN ab+j,none⟩=some (ba i j))
   (ak:∀i (h:i<xs.length),∀j (aA:j<(xs[i]).cells.length),R w (λ_=>none) O B ((xs[i]).cells[j]) (ba i j)) (hl:xs.length<=gF) (hf:∀v∈xs,∀x∈v.cells,conf none x=true) (fI:xs≠[]->sp=none):
   R w m O B (.aV old ab xs) (.slice (some ⟨aG,off,sp⟩) xs.length gF)
 |s5 {m:Nat->Option Nat} {O:Nat->Prop} {B:Nat}:R w m O B (.m none) (.map none)
 |mp {m:Nat->Option Nat} {O:Nat->Prop} {B:Nat} {id aG:Nat} (h:m id=some aG):R w m O B (.m (some id)) (.map (some aG))
 |cC {m:Nat->Option Nat} {O:Nat->Prop} {B:Nat} {g:Nat} {a6 cs:List AV} {hF fJ:Array Value} (hf:hF.size=a6.length) (bE:∀i (h:i<a6.length) (h':i<hF.size),R w m O B (a6[i]) (hF[i]))
   (aa:fJ.size=cs.length) (uu:∀i (h:i<cs.length) (h':i<fJ.size),R w m O B (cs[i]) (fJ[i])):R w m O B (.f (.func g) a6 cs) (.func (.func g) hF fJ)
 |vT {m:Nat->Option Nat} {O:Nat->Prop} {B:Nat} {l aG:Nat} (h:m l=some aG):R w m O B (.f (.yield l) [] []) (.func (.yield aG) #[] #[])
 |hD {m:Nat->Option Nat} {O:Nat->Prop} {B:Nat}:R w m O B .hD .nilFunc
 |it {m:Nat->Option Nat} {O:Nat->Prop} {B:Nat} {t:TypeId} {v:AV} {u:Value} (h:R w m O B v u):R w m O B (.it t v) (.iface t u)
 |fx {m:Nat->Option Nat} {O:Nat->Prop} {B:Nat}:R w m O B .fx .nilIface
 |aj {m:Nat->Option Nat} {O:Nat->Prop} {B:Nat} {l:List AV} {bp:Array Value} (al:bp.size=l.length) (ak:∀i (h:i<l.length) (h':i<bp.size),R w m O B (l[i]) (bp[i])) (hf:∀x∈l,conf none x=true):R w m O B (.aj l) (.agg bp)
 |bg {m:Nat->Option Nat} {O:Nat->Prop} {B:Nat} {l:List AV} {bp:Array Value} (al:bp.size=l.length) (ak:∀i (h:i<l.length) (h':i<bp.size),R w m O B (l[i]) (bp[i])):R w m O B (.bg l) (.tuple bp)
 |ih {m:Nat->Option Nat} {O:Nat->Prop} {B:Nat} {k:IntKind} {d j n:Nat} (h:n%d=j) (hn:n<256):R w m O B (.ih k d j) (.int k (Int.ofNat n))
 |iQ {m:Nat->Option Nat} {O:Nat->Prop} {B:Nat} {ex:List (List Nat)} {s:ByteArray} (h:∀e∈ex,s≠strOf e):R w m O B (.iQ ex) (.string s)
 |jr {m:Nat->Option Nat} {O:Nat->Prop} {B:Nat} {hi:Bool} (n:Int) (h:hi=decide (40<n)):R w m O B (.jr hi) (.int .i64 n)
 |y {m:Nat->Option Nat} {O:Nat->Prop} {B i:Nat} {u:Value} (h:EH (Tok.EG i) u):R w m O B (.y i) u
 |gP {m:Nat->Option Nat} {O:Nat->Prop} {B i:Nat} {old:Bool} {u:Value} {a:Option Addr} {l c:Nat} (hu:u= .slice a l c) (h:R w (λ_=>none) O B (Tok.qS old i) u):R w m O B (.gP old i) u
class TokOk:Prop where
 snap:∀ {w:World} {O:Nat->Prop} {B eG i:Nat} {old:Bool} {u:Value},R w (λ_=>none) O B (Tok.qS old i) u->R w (λ_=>none) (λ_=>False) eG (Tok.qS true i) u
 fresh:∀ {w:World} {O:Nat->Prop} {B i:Nat} {u:Value},R w (λ_=>none) O B (Tok.qS false i) u->R w (λ_=>none) (λb=>b<B) B (Tok.qS false i) u
def bQ(w:World)(m:Nat->Option Nat)(O:Nat->Prop)(B:Nat)(l:List AV)(bp:List Value):Prop:=
 bp.length=l.length/\∀i (h:i<l.length) (h':i<bp.length),R w m O B (l[i]) (bp[i])
def jU(w:World)(m:Nat->Option Nat)(O:Nat->Prop)(B:Nat)(ao:a1 AV)(bp:List Value):Prop:=
 (∀i v,ao.get i=some v->∃u,bp[i]? =some u/\R w m O B v u)/\∀i,ao.get i=none->bp[i]? =none
def XA{w av:World}{a:Addr}(h:av.heap[a.block]? =w.heap[a.block]?):av.cell? a=w.cell? a:=by
 unfold World.cell?;rw[h]
def R.mono{w av:World}{m aP:Nat->Option Nat}{O k6:Nat->Prop}{B:Nat}(hm:∀id aG,m id=some aG->aP id=some aG)(cz:w.heap.size<=av.heap.size)
  (ij:∀b n,eF w b=some n->eF av b=some n) (aB:∀aG,aG<w.heap.size->¬O aG->av.heap[aG]? =w.heap[aG]? ∧¬k6 aG) {v:AV} {u:Value} (h:R w m O B v u):R av aP k6 B v u:=by
 induction h generalizing aP with
 |b x=>exact .b x
 |i k n=>exact .i k n
 |s l h=>exact .s l h
 |r4=>exact .r4
 |p h=>exact .p (hm _ _ h)
 |df ba cv hb b0 aa ak hf aC=>exact .df ba (aB _ hb cv).2 U b0 (λj aA=>by rw[XA (w:=w) (aB _ hb cv).1];exact aa j aA) (λj aA=>aC j aA (aP:=λ_=>none) (λ_ _ h=>by cases h) aB) hf
 |nilsl=>exact .nilsl
 |ao h hl aa hn ng=>exact .ao (hm _ _ h) hl aa (ij _ _ hn) ng
 |mH=>exact .mH
 | @aV _ _ _ old ab xs aG off gF sp ba cv al aa ak hl hf fI aC=>
  by_cases hx:xs=[]
  ·subst hx;exact .aV ba (λh=>absurd I h) al (λi h=>by simp at h) (λi h=>by simp at h) hl hf fI
  ·obtain⟨h1,h2,h3⟩:=cv hx;exact .aV ba (λ_=>⟨(aB _ h2 h1).2,U,h3⟩) al (λi h j aA=>by rw[XA (w:=w) (aB _ h2 h1).1];exact aa i h j aA) (λi h j aA=>aC i h j aA (aP:=λ_=>none) (λ_ _ h=>by cases h) aB) hl hf fI
 |s5=>exact .s5
 |mp h=>exact .mp (hm _ _ h)
 |cC hf bE aa uu PN s6=>exact .cC hf (λi h h'=>PN i h h' hm aB) aa (λi h h'=>s6 i h h' hm aB)
 |vT h=>exact .vT (hm _ _ h)
 |hD=>exact .hD
 |it _ aC=>exact .it (aC hm aB)
 |fx=>exact .fx
 |aj al _ hf aC=>exact .aj al (λi h h'=>aC i h h' hm aB) hf
 |bg al _ aC=>exact .bg al (λi h h'=>aC i h h' hm aB)
 |ih h hn=>exact .ih h hn
 |iQ h=>exact .iQ h
 |jr n h=>exact .jr n h
 |y h=>exact .y h
 |gP hu _ aC=>exact .gP hu (aC (λ_ _ h=>by cases h) aB)
def R.up{w:World}{m:Nat->Option Nat}{O:Nat->Prop}{B:Nat}{v:AV}{u:Value}(h:R w (λ_=>none) O B v u):R w m O B v u:=
 h.mono (λ_ _ h=>by cases h) (a8 _) (λ_ _ h=>h) (λ_ _ h=>⟨rfl,h⟩)
def AO.isDead:AO->Bool
 | .dead=>true
 |_=>false
def live(J:ad)(id:Nat):Prop:=∃o,J.get id=some o/\o.isDead=false
def bq(J:ad)(m:Nat->Option Nat)(aG:Nat):Prop:=∃id,m id=some aG/\live J id
def zo(f:Nat)(J:ad)(m:Nat->Option Nat)(aG:Nat):Prop:=∃id,f<=id/\m id=some aG/\live J id
def JO(P:Program):Option b5->Option Code->Prop
 |none,none=>True
 |some c,some d=>ccode P d=some c/\(c= .ret\/∃id,c= .exit id)
 |_,_=>False
inductive nO(P:Program)(w:World)(m:Nat->Option Nat)(O:Nat->Prop)(B:Nat):AO->Obj->Prop
 |cells {c:List AV} {arr:Array Value} {el:TypeId} {bh:Nat×Nat} (hl:c.length<=arr.size) (ak:∀i (h:i<c.length) (h':i<arr.size),R w m O B (c[i]) (arr[i]))
   (a_:∀i,i<arr.size->(decide (bh.1<=i)&&decide (i<bh.2))=false) (hf:∀x∈c,conf none x=true):nO P w m O B (.cells c) (.cells arr el bh)
 |map {es:List (AV×AV×Nat)} {dQ:Array MapEntry} {clock:Nat} (hl:dQ.size=es.length)
   (ak:∀i (h:i<es.length) (h':i<dQ.size),R w m O B (es[i]).1 (dQ[i]).key/\R w m O B (es[i]).2.1 (dQ[i]).val/\(dQ[i]).born=(es[i]).2.2):nO P w m O B (.map es clock) (.map dQ clock)
 |mapIter {id:Option Nat} {b:Option Nat} {since hP:Nat} {seen:List Nat} (hb:match id,b with|none,none=>True|some i,some j=>m i=some j|_,_=>False):
   nO P w m O B (.mapIter id since seen hP) (.mapIter b since seen.toArray hP)
 |loop {st:LoopState} {nf:Option b5} {po:Option Code} {bk:a1 AV} {tmps:Array Value} {aE:List Nat} {as b:b5} {jb fq:Code} {d D:Nat} {fn:FuncId}
   (k7:JO P nf po) (al:jU w m O B bk tmps.toList) (ha:ccode P jb=some as) (hb:ccode P fq=some b) (hd:m d=some D):
   nO P w m O B (.loop st nf bk aE as b d) (.loop {state:=st,pending:=po,fn,tmps,params:=aE.toArray,assign:=jb,body:=fq,defers:=D})
 |c7:nO P w m O B .c7 (.deferred (some []))
def bQ.mono{w av:World}{m aP:Nat->Option Nat}{O k6:Nat->Prop}{B:Nat}(hm:∀id aG,m id=some aG->aP id=some aG)(cz:w.heap.size<=av.heap.size)
  (ij:∀b n,eF w b=some n->eF av b=some n) (aB:∀aG,aG<w.heap.size->¬O aG->av.heap[aG]? =w.heap[aG]? ∧¬k6 aG) {l:List AV} {bp:List Value} (h:bQ w m O B l bp):bQ av aP k6 B l bp:=
 ⟨h.1,λi hi dh=>(h.2 i hi dh).mono hm cz ij aB⟩
def jU.mono{w av:World}{m aP:Nat->Option Nat}{O k6:Nat->Prop}{B:Nat}(hm:∀id aG,m id=some aG->aP id=some aG)(cz:w.heap.size<=av.heap.size)
  (ij:∀b n,eF w b=some n->eF av b=some n) (aB:∀aG,aG<w.heap.size->¬O aG->av.heap[aG]? =w.heap[aG]? ∧¬k6 aG) {l:a1 AV} {bp:List Value} (h:jU w m O B l bp):jU av aP k6 B l bp:=
 ⟨λi v hi=>let⟨u,h1,h2⟩:=h.1 i v hi;⟨u,h1,h2.mono hm cz ij aB⟩,h.2⟩
def nO.mono{P:Program}{w av:World}{m aP:Nat->Option Nat}{O k6:Nat->Prop}{B:Nat}(hm:∀id aG,m id=some aG->aP id=some aG)(cz:w.heap.size<=av.heap.size)
  (ij:∀b n,eF w b=some n->eF av b=some n) (aB:∀aG,aG<w.heap.size->¬O aG->av.heap[aG]? =w.heap[aG]? ∧¬k6 aG) {o:AO} {bF:Obj} (h:nO P w m O B o bF):nO P av aP k6 B o bF:=by
 cases h with
 |cells hl ak a_ hf=>exact .cells hl (λi h h'=>(ak i h h').mono hm cz ij aB) a_ hf
 |map hl ak=>exact .map hl (λi h h'=>⟨(ak i h h').1.mono hm cz ij aB,(ak i h h').2.1.mono hm cz ij aB,(ak i h h').2.2⟩)
 | @mapIter id b _ _ _ hb=>exact .mapIter (by cases id<;>cases b<;>first|exact hb|exact hm _ _ hb)
 |loop k7 al ha hb hd=>exact .loop k7 (al.mono hm cz ij aB) ha hb (hm _ _ hd)
 |c7=>exact .c7
structure Rel(P:Program)(J:ad)(w:World)(m:Nat->Option Nat)(B:Nat):Prop where
 len:True
 gh:∀id aG,m id=some aG->aG<w.heap.size/\id<J.next
 obj:∀id aG o,m id=some aG->J.get id=some o->o.isDead=false->∃bF,w.heap[aG]? =some bF/\nO P w m (bq J m) B o bF
 inj:∀id hT aG,m id=some aG->m hT=some aG->live J id->live J hT->id=hT
 base:∀id aG,m id=some aG->B<=aG
 lS:B<=w.heap.size
structure Ext(f:Nat)(J:ad)(w:World)(m:Nat->Option Nat)(ai:ad)(av:World)(aP:Nat->Option Nat):Prop where
 mono:∀id aG,m id=some aG->aP id=some aG
 new:∀id aG,aP id=some aG->m id=some aG\/(J.next<=id/\(w.heap.size<=aG\/zo f J m aG))
 next:J.next<=ai.next
 size:w.heap.size<=av.heap.size
 bV:∀b n,eF w b=some n->eF av b=some n
 aD:∀aG,aG<w.heap.size->¬zo f J m aG->av.heap[aG]? =w.heap[aG]?
 low:∀id,id<f->id<J.next->ai.get id=J.get id
 dead:∀id,id<J.next->live ai id->live J id
 os:av.os=w.os
 tape:av.tape=w.tape
 out:av.output=w.output
 un:∀id,id<J.next->m id=none->ai.get id=J.get id
def zo.own{f:Nat}{J:ad}{m:Nat->Option Nat}{aG:Nat}(h:zo f J m aG):bq J m aG:=let⟨id,_,h1,h2⟩:=h;⟨id,h1,h2⟩
def Ext.refl(f:Nat)(J:ad)(w:World)(m:Nat->Option Nat):Ext f J w m J w m:=
 ⟨λ_ _ h=>h,λ_ _ h=>.inl h,a8 _,a8 _,λ_ _ h=>h,λ_ _ _=>rfl,λ_ _ _=>rfl,λ_ _ h=>h,rfl,rfl,rfl,λ_ _ _=>rfl⟩
def Ext.uv{P:Program}{f:Nat}{J ai:ad}{w av:World}{m aP:Nat->Option Nat}{B:Nat}(h:Ext f J w m ai av aP)(ak:Rel P J w m B)(aG:Nat)(hb:aG<w.heap.size)(cv:¬bq J m aG):
  av.heap[aG]? =w.heap[aG]? ∧¬bq ai aP aG:=by
 refine⟨h.aD aG hb (λho=>cv ho.own),?_⟩;rintro⟨id,h1,h2⟩;rcases h.new id aG h1 with h3|⟨_,h3|h3⟩
 ·exact cv ⟨id,h3,h.dead id (ak.gh _ _ h3).2 h2⟩
 ·omega
 ·exact cv h3.own
def R.ext{P:Program}{f:Nat}{J ai:ad}{w av:World}{m aP:Nat->Option Nat}{B:Nat}(h:Ext f J w m ai av aP)(ak:Rel P J w m B){v:AV}{u:Value}(aq:R w m (bq J m) B v u):R av aP (bq ai aP) B v u:=
 aq.mono h.mono h.size h.bV (h.uv ak)
def jU.ext{P:Program}{f:Nat}{J ai:ad}{w av:World}{m aP:Nat->Option Nat}{B:Nat}(h:Ext f J w m ai av aP)(ak:Rel P J w m B){v:a1 AV}{u:List Value}(aq:jU w m (bq J m) B v u):jU av aP (bq ai aP) B v u:=
 aq.mono h.mono h.size h.bV (h.uv ak)
def bQ.ext{P:Program}{f:Nat}{J ai:ad}{w av:World}{m aP:Nat->Option Nat}{B:Nat}(h:Ext f J w m ai av aP)(ak:Rel P J w m B){v:List AV}{u:List Value}(aq:bQ w m (bq J m) B v u):bQ av aP (bq ai aP) B v u:=
 aq.mono h.mono h.size h.bV (h.uv ak)
def Ext.trans{P:Program}{f:Nat}{J ai XB:ad}{w av B4:World}{m aP XC:Nat->Option Nat}{B:Nat}(h:Ext f J w m ai av aP)(ak:Rel P J w m B)(h':Ext f ai av aP XB B4 XC):Ext f J w m XB B4 XC where
 mono id aG hb:=h'.mono _ _ (h.mono _ _ hb)
 new id aG hb:=by
  have key:∀b,zo f ai aP b->w.heap.size<=b\/zo f J m b:=by
   rintro b ⟨i,hf,h1,h2⟩;rcases h.new i b h1 with h3|⟨_,h3⟩
   ·exact .inr ⟨i,hf,h3,h.dead i (ak.gh _ _ h3).2 h2⟩
   ·exact h3
  rcases h'.new id aG hb with h1|⟨h1,h2⟩
  ·rcases h.new id aG h1 with h3|⟨h3,aH⟩
   ·exact .inl h3
   ·exact .inr ⟨h3,aH⟩
  ·refine .inr ⟨by have:=h.next;omega,?_⟩;rcases h2 with h2|h2
   ·exact .inl (by have:=h.size;omega)
   ·exact key _ h2
 next:=p5 h.next h'.next
 size:=p5 h.size h'.size
 bV b n hb:=h'.bV _ _ (h.bV _ _ hb)
 aD aG hb cv:=by
  have al:=h.size;rw[h'.aD aG U ?_,h.aD aG hb cv];rintro⟨i,hf,h1,h2⟩;rcases h.new i aG h1 with h3|⟨_,h3|h3⟩
  ·exact cv ⟨i,hf,h3,h.dead i (ak.gh _ _ h3).2 h2⟩
  ·omega
  ·exact cv h3
 low id hf hn:=by rw[h'.low id hf (by have:=h.next;omega),h.low id hf hn]
 dead id hn hl:=h.dead id hn (h'.dead id (by have:=h.next;omega) hl)
 os:=h'.os.trans h.os
 tape:=h'.tape.trans h.tape
 out:=h'.out.trans h.out
 un id hn hm:=by
  have nh:aP id=none:=by
   cases e:aP id with
   |none=>rfl
   |some b=>
    rcases h.new id b e with h3|⟨h3,_⟩
    ·rw[hm] at h3;cases h3
    ·omega
  rw[h'.un id (by have:=h.next;omega) nh,h.un id hn hm]
def EI{α:Type}(l:List α):∀n,nth l n=l[n]? :=by
 induction l with
 |nil=>intro n;rfl
 |cons x xs aC=>
  intro n;cases n with
  |zero=>rfl
  |succ n=>exact(aC n).trans ay
def PO{α β:Type}(f:α->Option β):mapO f []=some []:=rfl
def mapO_cons{α β:Type}(f:α->Option β)(x:α)(xs:List α):mapO f (x::xs)=match f x with|none=>none|some y=>match mapO f xs with|none=>none|some ba=>some (y::ba):=rfl
def qc{α β:Type}{f:α->Option β}:∀ {l:List α} {ba:List β},mapO f l=some ba->ba.length=l.length/\∀i (h:i<l.length) (h':i<ba.length),f (l[i])=some (ba[i])
 |[],ba,h=>by simp[PO] at h;subst h;simp
 |x::xs,ba,h=>by
  rw[mapO_cons] at h;cases hx:f x with
  |none=>simp[hx] at h
  |some y=>
   simp only[hx] at h;cases dG:mapO f xs with
   |none=>simp[dG] at h
   |some e5=>
    simp only[dG,cJ] at h;subst h;obtain⟨h1,h2⟩:=qc dG;refine⟨by simp[h1],λi hi dh=>?_⟩;cases i with
    |zero=>simpa using hx
    |succ i=>simpa using h2 i (by simpa using hi) (by simpa using dh)
def qT{i:Nat}(h:i≠0):(Nat.beq (Nat.mod i 2) 1=true/\i=2*Nat.div (Nat.sub i 1) 2+1)\/(Nat.beq (Nat.mod i 2) 1=false/\i=2*Nat.div (Nat.sub i 1) 2+2):=by
 have aM:Nat.mod i 2=i%2:=rfl;have aU:Nat.div (Nat.sub i 1) 2=(i-1)/2:=rfl;rw[aM,aU];rcases Xc i with h2|h2
 ·right;rw[h2];exact⟨rfl,U⟩
 ·left;rw[h2];exact⟨rfl,U⟩
section
variable {α:Type}
def a1.get_nil(i:Nat):(a1.nil:a1 α).get i=none:=rfl
def s7{α:Type}(t:Bool)(a b:α):(Bool.rec (motive:=λ_=>α) b a t:α)=cond t a b:=by cases t<;>rfl
def a1.lv(v:Option α)(l r:a1 α)(i:Nat):(a1.node v l r).get i=cond (Nat.beq i 0) v (cond (Nat.beq (Nat.mod i 2) 1) (l.get (Nat.div (Nat.sub i 1) 2)) (r.get (Nat.div (Nat.sub i 1) 2))):=(s7 _ _ _).trans (congrArg (cond _ _) (s7 _ _ _))
def a1.PQ(v:Option α)(l r:a1 α)(i:Nat)(x:α):(a1.node v l r).set i x=cond (Nat.beq i 0) (.node (match v with|some _=>some x|none=>none) l r)
  (cond (Nat.beq (Nat.mod i 2) 1) (.node v (l.set (Nat.div (Nat.sub i 1) 2) x) r) (.node v l (r.set (Nat.div (Nat.sub i 1) 2) x))):=by cases v<;>exact(s7 _ _ _).trans (congrArg (cond _ _) (s7 _ _ _))
def a1.a9h(i:Nat)(x:α):(a1.nil:a1 α).ins i x=a1.B0 (i+1) i x:=rfl
def a1.a9i(v:Option α)(l r:a1 α)(i:Nat)(x:α):(a1.node v l r).ins i x=cond (Nat.beq i 0) (.node (some x) l r)
  (cond (Nat.beq (Nat.mod i 2) 1) (.node v (l.ins (Nat.div (Nat.sub i 1) 2) x) r) (.node v l (r.ins (Nat.div (Nat.sub i 1) 2) x))):=(s7 _ _ _).trans (congrArg (cond _ _) (s7 _ _ _))
def a1.a9j(f i:Nat)(x:α):a1.B0 (f+1) i x=cond (Nat.beq i 0) (.node (some x) .nil .nil) (cond (Nat.beq (Nat.mod i 2) 1) (.node none (a1.B0 f (Nat.div (Nat.sub i 1) 2) x) .nil) (.node none .nil (a1.B0 f (Nat.div (Nat.sub i 1) 2) x))):=(s7 _ _ _).trans (congrArg (cond _ _) (s7 _ _ _))
def a1.XD(f n:Nat)(x:α):a1.full (f+1) x n=cond (Nat.beq n 0) .nil (.node (some x) (a1.full f x (Nat.div n 2)) (a1.full f x (Nat.div (Nat.sub n 1) 2))):=rfl
def kI{i:Nat}(h:i≠0):Nat.beq i 0=false:=by
 cases h1:Nat.beq i 0 with
 |false=>rfl
 |true=>exact absurd (gE h1) h
def a1.kf:∀(t:a1 α) (d i:Nat) (x:α),(t.set d x).get i=if i=d then(t.get d).map (λ_=>x) else t.get i
 | .nil,d,i,x=>by
  show(a1.nil:a1 α).get i=_;rw[a1.get_nil,a1.get_nil];simp
 | .node v l r,d,i,x=>by
  rw[a1.PQ];by_cases hd:d=0
  ·subst hd;rw[g0,cond_true,a1.lv,a1.lv,a1.lv];by_cases hi:i=0
   ·subst hi;rw[g0,cond_true,cond_true,if_pos I];cases v<;>rfl
   ·rw[kI hi,cond_false,cond_false,if_neg hi]
  ·rw[kI hd,cond_false];rcases qT hd with⟨h1,h2⟩|⟨h1,h2⟩
   ·rw[h1,cond_true,a1.lv,a1.lv,a1.lv,kI hd,cond_false,h1,cond_true];by_cases hi:i=0
    ·subst hi;rw[g0,cond_true,cond_true,if_neg (oj hd)]
    ·rw[kI hi,cond_false,cond_false];rcases qT hi with⟨h3,aH⟩|⟨h3,aH⟩
     ·rw[h3,cond_true,cond_true,a1.kf l];by_cases he:i=d
      ·subst he;rw[if_pos I,if_pos I]
      ·rw[if_neg he,if_neg U]
     ·rw[h3,cond_false,cond_false,if_neg U]
   ·rw[h1,cond_false,a1.lv,a1.lv,a1.lv,kI hd,cond_false,h1,cond_false];by_cases hi:i=0
    ·subst hi;rw[g0,cond_true,cond_true,if_neg (oj hd)]
    ·rw[kI hi,cond_false,cond_false];rcases qT hi with⟨h3,aH⟩|⟨h3,aH⟩
     ·rw[h3,cond_true,cond_true,if_neg U]
     ·rw[h3,cond_false,cond_false,a1.kf r];by_cases he:i=d
      ·subst he;rw[if_pos I,if_pos I]
      ·rw[if_neg he,if_neg U]
def a1.PR:∀(f d i:Nat) (x:α),d<f->(a1.B0 f d x).get i=if i=d then some x else none
 |0,d,i,x,h=>by omega
 |f+1,d,i,x,h=>by
  rw[a1.a9j];by_cases hd:d=0
  ·subst hd;rw[g0,cond_true,a1.lv];by_cases hi:i=0
   ·subst hi;rw[g0,cond_true,if_pos I]
   ·rw[kI hi,cond_false,if_neg hi,a1.get_nil];cases Nat.beq (Nat.mod i 2) 1<;>rfl
  ·rw[kI hd,cond_false];rcases qT hd with⟨h1,h2⟩|⟨h1,h2⟩
   ·rw[h1,cond_true,a1.lv];by_cases hi:i=0
    ·subst hi;rw[g0,cond_true,if_neg (oj hd)]
    ·rw[kI hi,cond_false];rcases qT hi with⟨h3,aH⟩|⟨h3,aH⟩
     ·rw[h3,cond_true,a1.PR f _ _ x U];by_cases he:i=d
      ·subst he;rw[if_pos I,if_pos I]
      ·rw[if_neg he,if_neg U]
     ·rw[h3,cond_false,if_neg U,a1.get_nil]
   ·rw[h1,cond_false,a1.lv];by_cases hi:i=0
    ·subst hi;rw[g0,cond_true,if_neg (oj hd)]
    ·rw[kI hi,cond_false];rcases qT hi with⟨h3,aH⟩|⟨h3,aH⟩
     ·rw[h3,cond_true,if_neg U,a1.get_nil]
     ·rw[h3,cond_false,a1.PR f _ _ x U];by_cases he:i=d
      ·subst he;rw[if_pos I,if_pos I]
      ·rw[if_neg he,if_neg U]
def a1.EJ:∀(t:a1 α) (d i:Nat) (x:α),(t.ins d x).get i=if i=d then some x else t.get i
 | .nil,d,i,x=>by rw[a1.a9h,a1.PR _ _ _ _ (mD d),a1.get_nil]
 | .node v l r,d,i,x=>by
  rw[a1.a9i];by_cases hd:d=0
  ·subst hd;rw[g0,cond_true,a1.lv,a1.lv];by_cases hi:i=0
   ·subst hi;rw[g0,cond_true,if_pos I]
   ·rw[kI hi,cond_false,cond_false,if_neg hi]
  ·rw[kI hd,cond_false];rcases qT hd with⟨h1,h2⟩|⟨h1,h2⟩
   ·rw[h1,cond_true,a1.lv,a1.lv];by_cases hi:i=0
    ·subst hi;rw[g0,cond_true,cond_true,if_neg (oj hd)]
    ·rw[kI hi,cond_false,cond_false];rcases qT hi with⟨h3,aH⟩|⟨h3,aH⟩
     ·rw[h3,cond_true,cond_true,a1.EJ l];by_cases he:i=d
      ·subst he;rw[if_pos I,if_pos I]
      ·rw[if_neg he,if_neg U]
     ·rw[h3,cond_false,cond_false,if_neg U]
   ·rw[h1,cond_false,a1.lv,a1.lv];by_cases hi:i=0
    ·subst hi;rw[g0,cond_true,cond_true,if_neg (oj hd)]
    ·rw[kI hi,cond_false,cond_false];rcases qT hi with⟨h3,aH⟩|⟨h3,aH⟩
     ·rw[h3,cond_true,cond_true,if_neg U]
     ·rw[h3,cond_false,cond_false,a1.EJ r];by_cases he:i=d
      ·subst he;rw[if_pos I,if_pos I]
      ·rw[if_neg he,if_neg U]
def a1.JP:∀(f n i:Nat) (x:α),i<n->n<=f->(a1.full f x n).get i=some x
 |0,n,i,x,h,hf=>by omega
 |f+1,n,i,x,h,hf=>by
  rw[a1.XD];have hn:n≠0:=by omega
  rw[kI hn,cond_false,a1.lv];have aM:Nat.div n 2=n/2:=rfl;have aU:Nat.div (Nat.sub n 1) 2=(n-1)/2:=rfl;by_cases hi:i=0
  ·subst hi;rw[g0,cond_true]
  ·rw[kI hi,cond_false];rcases qT hi with⟨h3,aH⟩|⟨h3,aH⟩
   ·rw[h3,cond_true];exact a1.JP f _ _ x (by rw[aM];omega) (by rw[aM];omega)
   ·rw[h3,cond_false];exact a1.JP f _ _ x (by rw[aU];omega) (by rw[aU];omega)
def a1.JQ:∀(f n i:Nat) (x y:α),(a1.full f x n).get i=some y->y=x/\i<n
 |0,n,i,x,y,h=>by
  have h:(a1.nil:a1 α).get i=some y:=h;rw[a1.get_nil] at h;cases h
 |f+1,n,i,x,y,h=>by
  rw[a1.XD] at h;by_cases hn:n=0
  ·subst hn;rw[g0,cond_true,a1.get_nil] at h;cases h
  ·rw[kI hn,cond_false,a1.lv] at h;have aM:Nat.div n 2=n/2:=rfl;have aU:Nat.div (Nat.sub n 1) 2=(n-1)/2:=rfl;by_cases hi:i=0
   ·subst hi;rw[g0,cond_true] at h;cases h;exact⟨rfl,U⟩
   ·rw[kI hi,cond_false] at h;rcases qT hi with⟨h3,aH⟩|⟨h3,aH⟩
    ·rw[h3,cond_true] at h;have:=a1.JQ f _ _ x y h;exact⟨this.1,by rw[aM] at this;omega⟩
    ·rw[h3,cond_false] at h;have:=a1.JQ f _ _ x y h;exact⟨this.1,by rw[aU] at this;omega⟩
end
section
variable {α:Type}
def XE(f i:Nat):zh (f+1) i=cond (Nat.beq i 0) .h (cond (Nat.beq (Nat.mod i 2) 1) (.l (zh f (Nat.div (Nat.sub i 1) 2))) (.r (zh f (Nat.div (Nat.sub i 1) 2)))):=
 (s7 _ _ _).trans (congrArg (cond _ _) (s7 _ _ _))
def a1.JR:∀(f i:Nat) (t:a1 α),i<f->a1.JJ (zh f i) t=t.get i
 |0,i,t,h=>absurd h (Nat.not_lt_zero _)
 |f+1,i,t,h=>by
  rw[XE];by_cases hi:i=0
  ·subst hi;cases t<;>rfl
  ·rw[kI hi,cond_false];have hlt:Nat.div (Nat.sub i 1) 2<f:=by show(i-1)/2<f;omega
   rcases qT hi with⟨h1,_⟩|⟨h1,_⟩
   ·rw[h1,cond_true];cases t with
    |nil=>rfl
    |node v l r=>rw[a1.lv,kI hi,cond_false,h1,cond_true];exact a1.JR f _ l hlt
   ·rw[h1,cond_false];cases t with
    |nil=>rfl
    |node v l r=>rw[a1.lv,kI hi,cond_false,h1,cond_false];exact a1.JR f _ r hlt
def a1.PS(x:α):∀(f i:Nat) (t:a1 α),i<f->a1.Xo x (zh f i) t=t.set i x
 |0,i,t,h=>absurd h (Nat.not_lt_zero _)
 |f+1,i,t,h=>by
  rw[XE];by_cases hi:i=0
  ·subst hi;cases t<;>rfl
  ·rw[kI hi,cond_false];have hlt:Nat.div (Nat.sub i 1) 2<f:=by show(i-1)/2<f;omega
   rcases qT hi with⟨h1,_⟩|⟨h1,_⟩
   ·rw[h1,cond_true];cases t with
    |nil=>rfl
    |node v l r=>rw[a1.PQ,kI hi,cond_false,h1,cond_true];exact congrArg (λl=>a1.node v l r) (a1.PS x f _ l hlt)
   ·rw[h1,cond_false];cases t with
    |nil=>rfl
    |node v l r=>rw[a1.PQ,kI hi,cond_false,h1,cond_false];exact congrArg (λr=>a1.node v l r) (a1.PS x f _ r hlt)
end
def PT:B1=evalA:=by
 funext env ao x
 cases x with
 |t i=>exact a1.JR _ _ _ (mD i)
 |c v=>rfl
 |g g=>rfl
def XF:Fr.p_=Fr.put:=by
 funext ae d v
 cases d with
 |none=>rfl
 |some d=>exact congrArg (λs=>Fr.mk s ae.defers ae.gv) (a1.PS v _ _ _ (mD d))
def XG:JL=wantedA:=by
 funext g ao
 cases g with
 |none=>rfl
 |some p=>
  obtain⟨d,w⟩:=p;show(match a1.JJ (zh (d+1) d) ao with|some (.b x)=>x==w|_=>false)=_;rw[a1.JR _ _ _ (mD d)];rfl
def a9k(env:Env)(aC:kd):Xs env aC=step env aC:=by
 funext floor aK c ae J
 cases c with
 |cond c a b=>
  show(match B1 env ae.bk c with|some (.b t)=>aC floor aK (cond t a b) ae J|_=>none)=_;rw[PT];rfl
 |_=>rfl
def ad.get_eq(J:ad)(id:Nat):J.get id=if id<J.next then J.zi.get id else none:=by
 unfold ad.get;by_cases h:id<J.next
 ·have hb:Nat.blt id J.next=true:=by simpa [hC] using h
  rw[hb,cond_true,if_pos h]
 ·have hb:Nat.blt id J.next=false:=by
   cases hb:Nat.blt id J.next
   ·rfl
   ·exact absurd (by simpa [hC] using hb) h
  rw[hb,cond_false,if_neg h]
def ad.a9{J:ad}{id:Nat}{o:AO}(h:J.get id=some o):id<J.next:=by
 rw[ad.get_eq] at h;split at h
 ·assumption
 ·cases h
def ad.fX{J:ad}(_hl:True)(o:AO){id:Nat}(h:id<J.next):(J.push o).get id=J.get id:=by
 rw[ad.get_eq,ad.get_eq,if_pos h,if_pos (show id<(J.push o).next from Er h)];show(J.zi.ins J.next o).get id=_;rw[a1.EJ,if_neg U]
def ad.js{J:ad}(o:AO):(J.push o).get J.next=some o:=by
 rw[ad.get_eq,if_pos (show J.next<(J.push o).next from mD _)];show(J.zi.ins J.next o).get J.next=_;rw[a1.EJ,if_pos I]
def ad.XH{J:ad}(hl:True)(o:AO)(id:Nat):(J.push o).get id=if id=J.next then some o else J.get id:=by
 by_cases h:id=J.next
 ·subst h;simp[ad.js]
 ·rw[if_neg h];by_cases h':id<J.next
  ·exact ad.fX hl o h'
  ·rw[ad.get_eq,ad.get_eq,if_neg (show ¬id<(J.push o).next from λh2=>h (by have:id<J.next+1:=h2;omega)),if_neg h']
def ad.kf{J:ad}(_hl:True){id:Nat}(o:AO)(h:id<J.next)(hT:Nat):(J.set id o).get hT=if hT=id then some o else J.get hT:=by
 rw[ad.get_eq,ad.get_eq];show(if hT<J.next then(J.zi.ins id o).get hT else none)=_;by_cases h':hT<J.next
 ·rw[if_pos h',if_pos h',a1.EJ]
 ·rw[if_neg h',if_neg h',if_neg U]
end
section
variable [Tok]
open Go.RowKit
def wr:Array Value->Nat->List Value->Array Value
 |arr,_,[]=>arr
 |arr,o,v::r=>wr (arr.setIfInBounds o v) (o+1) r
def zp:∀(bp:List Value) (arr:Array Value) (o:Nat),(wr arr o bp).size=arr.size
 |[],_,_=>rfl
 |v::r,arr,o=>by rw[wr,zp r];simp
def JS:∀(bp:List Value) (arr:Array Value) (o i:Nat),o+bp.length<=arr.size->(wr arr o bp)[i]? =if o<=i/\i<o+bp.length then bp[i-o]? else arr[i]?
 |[],arr,o,i,_=>by rw[wr,if_neg (λh=>by simp at h;omega)]
 |v::r,arr,o,i,h=>by
  have h':o+1+r.length<=(arr.setIfInBounds o v).size:=by simp at h ⊢;omega
  rw[wr,JS r _ (o+1) i h'];simp only[fw] at h ⊢;by_cases h1:o+1<=i/\i<o+1+r.length
  ·rw[if_pos h1,if_pos U,show i-o=(i-(o+1))+1 by omega,Jy]
  ·rw[if_neg h1];by_cases h2:i=o
   ·subst h2;rw[if_pos U];simp[Jz];omega
   ·rw[if_neg U,Pt (λe=>h2 e.symm)]
def heap_setCell_same{w:World}{b o:Nat}{v:Value}{arr:Array Value}{el:TypeId}{bh:Nat×Nat}(h:w.heap[b]? =some (.cells arr el bh)):
  (w.setCell ⟨b,o,none⟩ v).heap[b]? =some (.cells (arr.setIfInBounds o v) el bh):=by
 simp[World.setCell,Array.getElem?_modify,h]
def PU:∀(bp:List Value) (w:World) (b o:Nat) (arr:Array Value) (el:TypeId) (bh:Nat×Nat),w.heap[b]? =some (.cells arr el bh)→
  (w.setCells b o bp).heap[b]? =some (.cells (wr arr o bp) el bh)
 |[],w,b,o,arr,el,bh,h=>h
 |v::r,w,b,o,arr,el,bh,h=>by
  rw[World.setCells,wr];exact PU r _ b (o+1) _ el bh (heap_setCell_same h)
def heap_setCells_other:∀(bp:List Value) (w:World) (b o k:Nat),k≠b->(w.setCells b o bp).heap[k]? =w.heap[k]?
 |[],w,b,o,k,h=>rfl
 |v::r,w,b,o,k,h=>by
  rw[World.setCells,heap_setCells_other r _ b (o+1) k h];exact Below.heap_setCell w ⟨b,o,none⟩ v k h
def PV:∀(bp:List Value) (w:World) (b o:Nat),(w.setCells b o bp).heap.size=w.heap.size/\(w.setCells b o bp).os=w.os/\(w.setCells b o bp).tape=w.tape/\(w.setCells b o bp).output=w.output
 |[],w,b,o=>⟨rfl,rfl,rfl,rfl⟩
 |v::r,w,b,o=>by
  rw[World.setCells];obtain⟨h1,h2,h3,aH⟩:=PV r (w.setCell ⟨b,o,none⟩ v) b (o+1);exact⟨by rw[h1];simp,by rw[h2];rfl,by rw[h3];rfl,by rw[aH];rfl⟩
def B5{w:World}{b:Nat}{o:Obj}(h:w.heap[b]? =some o):b<w.heap.size:=(zc.1 h).1
def bindM(m:Nat->Option Nat)(i b:Nat):Nat->Option Nat:=λid=>if id=i then some b else m id
def iF(m:Nat->Option Nat)(i b:Nat):bindM m i b i=some b:=by simp[bindM]
def jV(m:Nat->Option Nat)(i b:Nat){id:Nat}(h:id≠i):bindM m i b id=m id:=by simp[bindM,h]
section
variable {P:Program}{J:ad}{w:World}{m:Nat->Option Nat}{B:Nat}
def Rel.a9l(ak:Rel P J w m B):m J.next=none:=by
 cases h:m J.next with
 |none=>rfl
 |some b=>have:=(ak.gh _ _ h).2;omega
def Rel.XI(ak:Rel P J w m B){aG:Nat}(h:bq J m aG):aG<w.heap.size:=let⟨_,h1,_⟩:=h;(ak.gh _ _ h1).1
def PW(ak:Rel P J w m B){o:AO}(ho:o.isDead=false)(id:Nat):live (J.push o) id↔id=J.next\/live J id:=by
 unfold live;rw[ad.XH ak.len];by_cases h:id=J.next
 ·subst h;simp[ho]
 ·simp[h]
def XJ{id:Nat}(h:live J id):id<J.next:=let⟨_,h1,_⟩:=h;ad.a9 h1
def Rel.alloc(ak:Rel P J w m B)(f:Nat)(av:World)(o:AO)(bF:Obj)(ho:o.isDead=false)(hh:av.heap=w.heap.push bF)(ni:av.os=w.os)(qU:av.tape=w.tape)(mI:av.output=w.output)
  (mJ:nO P w m (bq J m) B o bF):Rel P (J.push o) av (bindM m J.next w.heap.size) B/\Ext f J w m (J.push o) av (bindM m J.next w.heap.size):=by
 have cz:av.heap.size=w.heap.size+1:=by rw[hh];simp
 have hold:∀b,b<w.heap.size->av.heap[b]? =w.heap[b]? :=λb hb=>by
  rw[hh,Pu];rw[if_neg U]
 have nj:av.heap[w.heap.size]? =some bF:=by rw[hh];simp
 have dR:Ext f J w m (J.push o) av (bindM m J.next w.heap.size):=by
  refine⟨?_,?_,Pv _,U,?_,λb hb _=>hold b hb,?_,?_,ni,qU,mI,λid hn _=>ad.fX ak.len o hn⟩
  ·intro id aG h;rw[jV m _ _ (by have:=(ak.gh _ _ h).2;omega)];exact h
  ·intro id aG h;by_cases hi:id=J.next
   ·subst hi;rw[iF] at h;cases h;exact .inr ⟨a8 _,.inl (a8 _)⟩
   ·rw[jV m _ _ hi] at h;exact .inl h
  ·intro b n hb;have:b<w.heap.size:=by
    rcases p6 b w.heap.size with h|h
    ·exact h
    ·simp[eF,BT h] at hb
   unfold eF at hb ⊢;rw[hold b this];exact hb
  ·intro id _ hn;exact ad.fX ak.len o hn
  ·intro id hn hl;rcases(PW ak ho id).1 hl with h|h
   ·omega
   ·exact h
 refine⟨⟨trivial,?_,?_,?_,?_,by have:=ak.lS;omega⟩,dR⟩
 ·intro id aG h;by_cases hi:id=J.next
  ·subst hi;rw[iF] at h;cases h;exact⟨U,mD _⟩
  ·rw[jV m _ _ hi] at h;have:=ak.gh _ _ h;exact⟨U,Er this.2⟩
 ·intro id aG ef h hg hd;by_cases hi:id=J.next
  ·subst hi;rw[iF] at h;cases h;rw[ad.js] at hg;cases hg;exact⟨bF,nj,mJ.mono dR.mono dR.size dR.bV (dR.uv ak)⟩
  ·rw[jV m _ _ hi] at h;have hlt:=ak.gh _ _ h;rw[ad.fX ak.len o hlt.2] at hg;obtain⟨jE,h1,h2⟩:=ak.obj id aG ef h hg hd;exact⟨jE,by rw[hold _ hlt.1];exact h1,h2.mono dR.mono dR.size dR.bV (dR.uv ak)⟩
 ·intro id hT aG h h' hl uw;by_cases hi:id=J.next
  ·by_cases dh:hT=J.next
   ·rw[hi,dh]
   ·subst hi;rw[iF] at h;cases h;rw[jV m _ _ dh] at h';have:=(ak.gh _ _ h').1;omega
  ·rw[jV m _ _ hi] at h;by_cases dh:hT=J.next
   ·subst dh;rw[iF] at h';cases h';have:=(ak.gh _ _ h).1;omega
   ·rw[jV m _ _ dh] at h';exact ak.inj id hT aG h h' (((PW ak ho id).1 hl).resolve_left hi) (((PW ak ho hT).1 uw).resolve_left dh)
 ·intro id aG h;by_cases hi:id=J.next
  ·subst hi;rw[iF] at h;cases h;exact ak.lS
  ·rw[jV m _ _ hi] at h;exact ak.base _ _ h
def a9m(ak:Rel P J w m B){id:Nat}(h:id<J.next)(o:AO)(hT:Nat):live (J.set id o) hT↔if hT=id then o.isDead=false else live J hT:=by
 unfold live;rw[ad.kf ak.len o h];by_cases he:hT=id
 ·simp[he]
 ·simp[he]
def Rel.di(ak:Rel P J w m B){f id aG:Nat}(hf:f<=id)(hm:m id=some aG)(hl:live J id)(av:World)(o:AO)(cz:av.heap.size=w.heap.size)
  (zq:∀b,b≠aG->av.heap[b]? =w.heap[b]?) (ij:∀n,eF w aG=some n->eF av aG=some n) (ni:av.os=w.os) (qU:av.tape=w.tape) (mI:av.output=w.output)
  (mJ:o.isDead=false->∃bF,av.heap[aG]? =some bF/\nO P w m (bq J m) B o bF):Rel P (J.set id o) av m B/\Ext f J w m (J.set id o) av m:=by
 have hlt:=ak.gh _ _ hm;have nP:∀hT,live (J.set id o) hT->live J hT:=λhT h=>by
  rw[a9m ak hlt.2] at h;by_cases he:hT=id
  ·subst he;exact hl
  ·rwa[if_neg he] at h
 have dR:Ext f J w m (J.set id o) av m:=by
  refine⟨λ_ _ h=>h,λ_ _ h=>.inl h,a8 _,U,?_,?_,?_,λhT _ h=>nP hT h,ni,qU,mI,λhT _ vU=>by rw[ad.kf ak.len o hlt.2,if_neg (λe=>by subst e;rw[hm] at vU;cases vU)]⟩
  ·intro b n hb;by_cases he:b=aG
   ·subst he;exact ij n hb
   ·unfold eF at hb ⊢;rw[zq b he];exact hb
  ·intro b hb cv;refine zq b λhe=>cv ?_;subst he;exact⟨id,hf,hm,hl⟩
  ·intro hT r5 hn;rw[ad.kf ak.len o hlt.2,if_neg U]
 refine⟨⟨trivial,λhT b h=>by have:=ak.gh _ _ h;exact⟨U,this.2⟩,?_,λi nk b h h' a cF=>ak.inj i nk b h h' (nP _ a) (nP _ cF),ak.base,by have:=ak.lS;omega⟩,dR⟩;intro hT b ef h hg hd;by_cases he:hT=id
 ·subst he;rw[hm] at h;cases h;rw[ad.kf ak.len o hlt.2,if_pos I] at hg;cases hg;obtain⟨jE,h1,h2⟩:=mJ hd;exact⟨jE,h1,h2.mono dR.mono dR.size dR.bV (dR.uv ak)⟩
 ·rw[ad.kf ak.len o hlt.2,if_neg he] at hg;obtain⟨jE,h1,h2⟩:=ak.obj hT b ef h hg hd;have aY:b≠aG:=λe=>he (ak.inj hT id aG (e▸h) hm ⟨ef,hg,hd⟩ hl);exact⟨jE,by rw[zq b aY];exact h1,h2.mono dR.mono dR.size dR.bV (dR.uv ak)⟩
def Rel.move(ak:Rel P J w m B){f id aG:Nat}(hf:f<=id)(hm:m id=some aG)(hl:live J id)(av:World)(o:AO)(ho:o.isDead=false)(cz:av.heap.size=w.heap.size)
  (zq:∀b,b≠aG->av.heap[b]? =w.heap[b]?) (ij:∀n,eF w aG=some n->eF av aG=some n) (ni:av.os=w.os) (qU:av.tape=w.tape) (mI:av.output=w.output)
  (mJ:∃bF,av.heap[aG]? =some bF/\nO P w m (bq J m) B o bF):
  Rel P ((J.set id .dead).push o) av (bindM m J.next aG) B/\Ext f J w m ((J.set id .dead).push o) av (bindM m J.next aG):=by
 have hlt:=ak.gh _ _ hm;have hlen:True:=trivial;have hc:∀i,((J.set id .dead).push o).get i=if i=J.next then some o else if i=id then some .dead else J.get i:=λi=>by
  rw[ad.XH hlen o i];show(if i=J.next then some o else _)=_;by_cases h:i=J.next
  ·rw[if_pos h,if_pos h]
  ·rw[if_neg h,if_neg h,ad.kf ak.len .dead hlt.2]
 have nP:∀i,live ((J.set id .dead).push o) i↔i=J.next\/(i≠id/\live J i):=λi=>by
  unfold live;rw[hc i];by_cases h:i=J.next
  ·simp[h,ho]
  ·by_cases h':i=id
   ·subst h';simp[h,AO.isDead]
   ·simp[h,h']
 have dR:Ext f J w m ((J.set id .dead).push o) av (bindM m J.next aG):=by
  refine⟨?_,?_,Pv _,U,?_,?_,?_,?_,ni,qU,mI,λi hn vU=>by rw[hc,if_neg U,if_neg (λe=>by subst e;rw[hm] at vU;cases vU)]⟩
  ·intro i b h;rw[jV m _ _ (by have:=(ak.gh _ _ h).2;omega)];exact h
  ·intro i b h;by_cases hi:i=J.next
   ·subst hi;rw[iF] at h;cases h;exact .inr ⟨a8 _,.inr ⟨id,hf,hm,hl⟩⟩
   ·rw[jV m _ _ hi] at h;exact .inl h
  ·intro b n hb;by_cases he:b=aG
   ·subst he;exact ij n hb
   ·unfold eF at hb ⊢;rw[zq b he];exact hb
  ·intro b hb cv;refine zq b λhe=>cv ?_;subst he;exact⟨id,hf,hm,hl⟩
  ·intro i r5 hn;rw[hc,if_neg U,if_neg U]
  ·intro i hn h;rcases(nP i).1 h with h|h
   ·omega
   ·exact h.2
 refine⟨⟨trivial,?_,?_,?_,?_,by have:=ak.lS;omega⟩,dR⟩
 ·intro i b h;by_cases hi:i=J.next
  ·subst hi;rw[iF] at h;cases h;exact⟨U,mD _⟩
  ·rw[jV m _ _ hi] at h;have:=ak.gh _ _ h;exact⟨U,Er this.2⟩
 ·intro i b ef h hg hd;rw[hc] at hg;by_cases hi:i=J.next
  ·subst hi;rw[iF] at h;cases h;rw[if_pos I] at hg;cases hg;obtain⟨jE,h1,h2⟩:=mJ;exact⟨jE,h1,h2.mono dR.mono dR.size dR.bV (dR.uv ak)⟩
  ·rw[jV m _ _ hi] at h;rw[if_neg hi] at hg;by_cases he:i=id
   ·rw[if_pos he] at hg;cases hg;cases hd
   ·rw[if_neg he] at hg;obtain⟨jE,h1,h2⟩:=ak.obj i b ef h hg hd;have aY:b≠aG:=λe=>he (ak.inj i id aG (e▸h) hm ⟨ef,hg,hd⟩ hl);exact⟨jE,by rw[zq b aY];exact h1,h2.mono dR.mono dR.size dR.bV (dR.uv ak)⟩
 ·intro i nk b h h' a cF;by_cases hi:i=J.next
  ·by_cases dh:nk=J.next
   ·rw[hi,dh]
   ·subst hi;rw[iF] at h;cases h;rw[jV m _ _ dh] at h';have h3:=((nP nk).1 cF).resolve_left dh;exact absurd (ak.inj nk id aG h' hm h3.2 hl) h3.1
  ·rw[jV m _ _ hi] at h;have h2:=((nP i).1 a).resolve_left hi;by_cases dh:nk=J.next
   ·subst dh;rw[iF] at h';cases h';exact absurd (ak.inj i id aG h hm h2.2 hl) h2.1
   ·rw[jV m _ _ dh] at h';exact ak.inj i nk b h h' h2.2 (((nP nk).1 cF).resolve_left dh).2
 ·intro i b h;by_cases hi:i=J.next
  ·subst hi;rw[iF] at h;cases h;exact ak.base _ _ hm
  ·rw[jV m _ _ hi] at h;exact ak.base _ _ h
end
def XK(s:ByteArray):strOf (zk s)=s:=by
 unfold strOf zk;have:(s.data.toList.map (·.toNat)).map Nat.toUInt8=s.data.toList:=by
  rw[kq];conv=>rhs;rw[<-List.map_id s.data.toList]
  apply pd;intro c _;simp
 rw[this]
def XL(s:ByteArray):∀c∈zk s,c<256:=by
 intro c aa;simp only[zk,cT] at aa;obtain⟨x,_,rfl⟩:=aa;exact x.toNat_lt
def zr{α β:Type}{f:α->Option β}:∀ {l:List α} {ba:List β},mapOL f l=some ba->ba.length=l.length/\∀i (h:i<l.length) (h':i<ba.length),f (l[i])=some (ba[i])
 |[],ba,h=>by simp[mapOL] at h;subst h;simp
 |x::xs,ba,h=>by
  rw[mapOL] at h;split at h
  ·rename_i y e5 hx dG;cases h;obtain⟨h1,h2⟩:=zr dG;refine⟨by simp[h1],λi hi dh=>?_⟩;cases i with
   |zero=>simpa using hx
   |succ i=>simpa using h2 i (by simpa using hi) (by simpa using dh)
  ·cases h
section
variable {P:Program}{w:World}{m:Nat->Option Nat}{O:Nat->Prop}{B:Nat}
def PX{v:Value}{x:AV}(h:ofLeaf v=some x):conf none x=true:=by
 unfold Lyc.ofLeaf at h;split at h<;>cases h<;>rfl
def R.ofLeaf{v:Value}{x:AV}(h:ofLeaf v=some x):R w m O B x v:=by
 unfold Lyc.ofLeaf at h;split at h<;>cases h
 ·exact .b _
 ·exact .i _ _
 ·rename_i s;have:=R.s (w:=w) (m:=m) (O:=O) (B:=B) (zk s) (XL s);rwa[XK] at this
 ·exact .r4
 ·exact .nilsl
 ·exact .s5
 ·exact .hD
 ·exact .fx
def R.ofValue{v:Value}{x:AV}(h:ofValue v=some x):R w m O B x v:=by
 unfold Lyc.ofValue at h;split at h
 ·split at h
  ·rename_i l dL hx;cases h;obtain⟨h1,h2⟩:=zr hx;refine .aj (by rw[<-ug];exact h1.symm) (λi hi dh=>?_) (λx hx=>?_)
   ·have:=h2 i (by rw[ug];exact dh) hi;exact R.ofLeaf (by simpa using this)
   ·obtain⟨i,hi,rfl⟩:=iP hx;exact PX (h2 i U hi)
  ·cases h
 ·split at h
  ·rename_i hx;cases h;exact .it (R.ofLeaf hx)
  ·cases h
 ·exact R.ofLeaf h
def bQ.get{l:List AV}{bp:List Value}(h:bQ w m O B l bp){i:Nat}{v:AV}(aq:l[i]? =some v):∃u,bp[i]? =some u/\R w m O B v u:=by
 obtain⟨hi,rfl⟩:=fH.1 aq;have dh:i<bp.length:=by rw[h.1];exact hi
 exact⟨bp[i],cp dh,h.2 i hi dh⟩
def bQ.nil:bQ w m O B [] []:=⟨rfl,λi h=>by simp at h⟩
def bQ.cons{x:AV}{u:Value}{l:List AV}{bp:List Value}(h:R w m O B x u)(hl:bQ w m O B l bp):bQ w m O B (x::l) (u::bp):=
 ⟨by simp[hl.1],λi h1 h2=>by
  cases i with
  |zero=>exact h
  |succ i=>exact hl.2 i (by simpa using h1) (by simpa using h2)⟩
def bQ.append{l bD:List AV}{bp ux:List Value}(h:bQ w m O B l bp)(h':bQ w m O B bD ux):bQ w m O B (l++bD) (bp++ux):=by
 refine⟨by simp[h.1,h'.1],λi h1 h2=>?_⟩;by_cases hi:i<l.length
 ·rw[iC hi,iC (by rw[h.1];exact hi)];exact h.2 i hi _
 ·rw[BU U,BU (by rw[h.1];omega)];have:i-bp.length=i-l.length:=by rw[h.1]
  simp only[this];exact h'.2 _ _ (by have:=h'.1;have:=h.1;simp at h1 h2;omega)
def bQ.drop{l:List AV}{bp:List Value}(h:bQ w m O B l bp)(k:Nat):bQ w m O B (l.drop k) (bp.drop k):=
 ⟨by simp[h.1],λi h1 h2=>by rw[Pw,Pw];exact h.2 _ (by simp at h1;omega) (by simp at h2;omega)⟩
def bQ.take{l:List AV}{bp:List Value}(h:bQ w m O B l bp)(k:Nat):bQ w m O B (l.take k) (bp.take k):=
 ⟨by simp[h.1],λi h1 h2=>by rw[sW,sW];exact h.2 _ (by simp at h1;omega) (by simp at h2;omega)⟩
def R.zs{l:List AV}{bp:List Value}(h:bQ w m O B l bp)(hf:∀x∈l,conf none x=true):R w m O B (.aj l) (.agg bp.toArray):=
 .aj (by simp[h.1]) (λi h1 h2=>by simpa using h.2 i h1 (by simpa using h2)) hf
def R.r6{l:List AV}{u:Value}(h:R w m O B (.aj l) u):∃bp:Array Value,u= .agg bp/\bQ w m O B l bp.toList/\∀x∈l,conf none x=true:=by
 cases h with
 |aj al ak hf=>exact⟨_,rfl,⟨by simpa using al,λi h1 h2=>by simpa using ak i h1 (by simpa using h2)⟩,hf⟩
def R.PY{l:List AV}{u:Value}(h:R w m O B (.bg l) u):∃bp:Array Value,u= .tuple bp/\bQ w m O B l bp.toList:=by
 cases h with
 |bg al ak=>exact⟨_,rfl,by simpa using al,λi h1 h2=>by simpa using ak i h1 (by simpa using h2)⟩
def R.vV{l:List AV}{bp:List Value}(h:bQ w m O B l bp):R w m O B (.bg l) (.tuple bp.toArray):=
 .bg (by simp[h.1]) (λi h1 h2=>by simpa using h.2 i h1 (by simpa using h2))
def R.undef:R w m O B dF undef:=.bg I (λi h=>by simp at h)
def R.cells{v:AV}{u:Value}(h:R w m O B v u):bQ w m O B v.cells u.cells.toList:=by
 have h0:=h;cases h with
 |aj al ak hf=>obtain⟨bp,hu,hl,_⟩:=R.r6 h0;cases hu;exact hl
 |y h=>rcases h.alt with⟨_,_,rfl⟩|⟨_,rfl⟩<;>exact bQ.cons h0 bQ.nil
 |gP hu h=>subst hu;exact bQ.cons h0 bQ.nil
 |_=>exact bQ.cons h0 bQ.nil
theorem R.leafs{v:AV}{u:Value}{ab:Option Nat}(h:R w m O B v u)(aa:conf ab v=true):∀x∈v.cells,conf none x=true:=by
 cases h with
 |aj al ak hf=>exact hf
 |bg al ak=>cases ab<;>simp[conf] at aa
 |_=>intro x hx;simp only[AV.cells,cA] at hx;subst hx;rfl
def R.XM{v:AV}{u:Value}(h:R w m O B v u)(aq:conf none v=true):u.oneCell'=true:=by
 cases h with
 |y h=>rcases h.alt with⟨_,_,rfl⟩|⟨_,rfl⟩<;>rfl
 |gP hu h=>subst hu;rfl
 |_=>first|rfl|(simp[conf] at aq)
def me{t:TypeId}{ab:Option Nat}(h:shapeOf P t=some ab)(w:World):
  (isAgg t).run P w= .ok ab.isSome w/\(sizeOf t).run P w= .ok (shN ab) w/\∃i,P.info? t=some i/\i.size=shN ab:=by
 unfold shapeOf at h;split at h<;>try (cases h;done)
 ·rename_i a6 i hu hi;cases h;exact⟨by simp[isAgg,run_underlying hu],by simp[sizeOf,typeInfo,hi,shN],i,hi,rfl⟩
 ·rename_i n e i hu hi;cases h;exact⟨by simp[isAgg,run_underlying hu],by simp[sizeOf,typeInfo,hi,shN],i,hi,rfl⟩
 ·rename_i d i h1 h2 hu hi;split at h
  ·rename_i al;cases h;refine⟨?_,by simp[sizeOf,typeInfo,hi,shN,al],i,hi,by simp[shN,al]⟩;simp only[isAgg,e3,run_underlying hu,e8];cases d<;>first|rfl|(exfalso;first|exact h1 _ rfl|exact h2 _ _ I)
  ·cases h
def mf(b o k:Nat):(⟨b,o,none⟩:Addr).add k=⟨b,o+k,none⟩:=by
 unfold Addr.add;split
 ·rename_i h;subst h;rfl
 ·rfl
def JT{c:List AV}{v:AV}(h:dE none c=some v):∃r,c=v::r:=by
 cases c with
 |nil=>simp[dE] at h
 |cons x r=>simp[dE] at h;subst h;exact⟨r,rfl⟩
def JU{n:Nat}{c:List AV}{v:AV}(h:dE (some n) c=some v):v= .aj (c.take n)/\n<=c.length:=by
 simp only[dE] at h;split at h
 ·rename_i hl;cases h;refine⟨rfl,?_⟩;rw[g6] at hl;omega
 ·cases h
def XN{t:TypeId}{ab:Option Nat}(jc:shapeOf P t=some ab){b off:Nat}{bp:List Value}{c:List AV}(aa:bQ w m O B c bp)
  (hw:∀j,j<bp.length->w.cell? ⟨b,off+j,none⟩=bp[j]?) {v:AV} (aq:dE ab c=some v) (hf:∀x∈c,conf none x=true):
  ∃u,(loadVar t ⟨b,off,none⟩).run P w= .ok u w/\R w m O B v u:=by
 obtain⟨h1,h2,_⟩:=me jc w;cases ab with
 |none=>
  obtain⟨r,rfl⟩:=JT aq;obtain⟨u,hu,ak⟩:=aa.get (i:=0) (v:=v) I;have:=hw 0 (by rw[aa.1];simp);rw[uh,hu] at this;exact⟨u,by simp[loadVar,h1,this],ak⟩
 |some n=>
  obtain⟨rfl,hn⟩:=JU aq;have hlen:(bp.take n).length=n:=by rw[g6,aa.1];omega
  have hl:=run_loadCells_list (P:=P) w ⟨b,off,none⟩ (bp.take n) (λj x hx=>by
   rw[mf];obtain⟨aA,cX⟩:=fH.1 hx;rw[hw j (by rw[g6] at aA;omega)];rw[sW] at cX;rw[<-cX];exact cp _)
  rw[hlen] at hl;refine⟨.agg (bp.take n).toArray,by simp[loadVar,h1,h2,shN,hl],R.zs (aa.take n) (λx hx=>hf x (pe hx))⟩
end
section
variable {P:Program}{J:ad}{w:World}{m:Nat->Option Nat}{B:Nat}
def Rel.cells(ak:Rel P J w m B){id aG:Nat}{c:List AV}(hm:m id=some aG)(hg:J.get id=some (.cells c)):
  ∃arr el bh,w.heap[aG]? =some (.cells arr el bh)/\bQ w m (bq J m) B c (arr.toList.take c.length)/\c.length<=arr.size/\(∀i,i<arr.size->(decide (bh.1<=i)&&decide (i<bh.2))=false)/\∀x∈c,conf none x=true:=by
 obtain⟨bF,h1,h2⟩:=ak.obj id aG _ hm hg I;cases h2 with
 | @cells _ arr el bh hl gQ a_ hf=>
  refine⟨arr,el,bh,h1,⟨by simp;omega,λi h3 aH=>?_⟩,hl,a_,hf⟩;simpa using gQ i h3 U
def B6{b:Nat}{arr:Array Value}{el:TypeId}{bh:Nat×Nat}(h:w.heap[b]? =some (.cells arr el bh))(i:Nat):w.cell? ⟨b,i,none⟩=arr[i]? :=by
 simp[World.cell?,h]
def PZ{b:Nat}{arr:Array Value}{el:TypeId}{bh:Nat×Nat}(h:w.heap[b]? =some (.cells arr el bh))(i:Nat):w.frozen? ⟨b,i,none⟩=(decide (bh.1<=i)&&decide (i<bh.2)):=by
 simp[World.frozen?,h]
def XO(ak:Rel P J w m B){t:TypeId}{ab:Option Nat}(jc:shapeOf P t=some ab){id off aG:Nat}{c:List AV}{v:AV}(hm:m id=some aG)(hg:J.get id=some (.cells c))(aq:dE ab (c.drop off)=some v):
  ∃u,(loadVar t ⟨aG,off,none⟩).run P w= .ok u w/\R w m (bq J m) B v u:=by
 obtain⟨arr,el,bh,h1,h2,h3,_,hf⟩:=ak.cells hm hg;refine XN jc (h2.drop off) (λj aA=>?_) aq (λx hx=>hf x (p7 hx));rw[B6 h1];simp only[List.length_drop,g6,ug] at aA;rw[ui,vK U];simp
def a9n{O:Nat->Prop}{t:TypeId}{ab:Option Nat}(jc:shapeOf P t=some ab){old:Bool}{v:AV}{u:Value}(h:R w m O B (.df old v) u)(aq:conf ab v=true):
  ∃a cn,u= .pointer (some a)/\(loadVar t a).run P w= .ok cn w/\R w m O B v cn:=by
 cases h with
 | @df _ _ _ _ _ aG off ba cv hb b0 aa gQ hf=>
  have hl:bQ w m O B v.cells ((List.range v.cells.length).map ba):=⟨ay,λi h1 h2=>by simpa using (gQ i h1).up⟩
  have ht:dE ab v.cells=some v:=by
   cases ab with
   |none=>cases v<;>first|rfl|(simp[conf] at aq)
   |some n=>
    cases v<;>simp[conf] at aq;rename_i l;subst aq;simp[dE,AV.cells]
  obtain⟨cn,h1,h2⟩:=XN (t:=t) jc (b:=aG) (off:=off) hl (λj aA=>by
   simp only[bB,nc] at aA;rw[aa j aA];simp[aA]) ht hf
  exact⟨_,cn,rfl,h1,h2⟩
def EK{c bc:List AV}{off:Nat}{v:List AV}(h:storeCells c off v=some bc):off+v.length<=c.length/\bc=c.take off++(v++c.drop (off+v.length)):=by
 unfold Lyc.storeCells at h;split at h
 ·rename_i hb;cases h;exact⟨g7 hb,rfl⟩
 ·cases h
def P0(ak:Rel P J w m B){f id off aG:Nat}{c bc:List AV}{bp:List AV}{us:List Value}(hf:f<=id)(hm:m id=some aG)(hg:J.get id=some (.cells c))
  (al:Lyc.storeCells c off bp=some bc) (pq:bQ w m (bq J m) B bp us) (hU:∀x∈bp,conf none x=true):
  ∃av,(Go.storeCells ⟨aG,off,none⟩ us).run P w= .ok () av/\Rel P (J.set id (.cells bc)) av m B/\Ext f J w m (J.set id (.cells bc)) av m:=by
 obtain⟨hle,rfl⟩:=EK al;obtain⟨arr,el,bh,hh,aa,vW,a_,lT⟩:=ak.cells hm hg;have hlen:us.length=bp.length:=pq.1;have h1:∀u∈us,u.oneCell'=true:=λu hu=>by
  obtain⟨i,hi,rfl⟩:=iP hu;exact(pq.2 i U hi).XM (hU _ (bC _))
 have cd:=run_storeCells_cells (P:=P) aG off us 0 w
  (λj aA=>by rw[B6 hh,uj U];rfl)
  (λj aA=>by rw[PZ hh];exact a_ _ U) h1
 obtain⟨ik,kJ,qd,vX⟩:=PV us w aG (off+0);have zt:=PU us w aG (off+0) arr el bh hh;refine⟨_,cd,ak.di hf hm ⟨_,hg,rfl⟩ _ (.cells _) ik (λb hb=>heap_setCells_other us w aG _ b hb) ?_ kJ qd vX (λ_=>⟨_,zt,?_⟩)⟩
 ·intro n hn;unfold eF at hn ⊢;rw[hh] at hn;rw[zt];simpa [zp] using hn
 ·have hc:∀i,(wr arr (off+0) us)[i]? =if off<=i/\i<off+us.length then us[i-off]? else arr[i]? :=λi=>by
   have:=JS us arr (off+0) i U;simpa using this
  have lU:(c.take off++(bp++c.drop (off+bp.length))).length=c.length:=by simp;omega
  refine .cells (by rw[zp,lU];exact vW) (λi h h'=>?_) (by rw[zp];exact a_) (λx hx=>by
    rcases eX.1 hx with hx|hx
    ·exact lT x (pe hx)
    ·rcases eX.1 hx with hx|hx
     ·exact hU x hx
     ·exact lT x (p7 hx))
  rw[lU] at h;have hi:=hc i;rw[uj h'] at hi;have hL:(c.take off++(bp++c.drop (off+bp.length)))[i]? =if off<=i/\i<off+us.length then bp[i-off]? else c[i]? :=by
   rw[Es];simp only[g6];by_cases bT:i<off
   ·rw[if_pos U,if_neg U,vK bT]
   ·rw[if_neg U,Es];by_cases cE:i-min off c.length<bp.length
    ·rw[if_pos cE,if_pos U,show min off c.length=off by omega]
    ·rw[if_neg cE,if_neg U,ui]
     congr 1;omega
  have xx:(c.take off++(bp++c.drop (off+bp.length)))[i]? =some ((c.take off++(bp++c.drop (off+bp.length)))[i]'(by rw[lU];exact h)):=cp _;rw[hL] at xx;by_cases eI:off<=i/\i<off+us.length
  ·rw[if_pos eI] at xx hi;obtain⟨u,hu,kK⟩:=pq.get xx;rw[hu] at hi;cases hi;exact kK
  ·rw[if_neg eI] at xx hi;obtain⟨u,hu,kK⟩:=aa.get xx;rw[vK h] at hu;have:arr[i]? =some u:=by simpa using hu
   rw[this] at hi;cases hi;exact kK
end
def fT(P:Program)(B f:Nat)(J:ad)(w:World)(m:Nat->Option Nat)(v:AV)(ai:ad)(r:Result Next):Prop:=
 ∃u av aP,(r= .ok (.value u) av\/(r= .ok .skip av/\u=undef))/\R av aP (bq ai aP) B v u/\Rel P ai av aP B/\Ext f J w m ai av aP
section
variable {P:Program}{J:ad}{w:World}{m:Nat->Option Nat}{B:Nat}{f:Nat}
def fT.pure{v:AV}{u:Value}{r:Result Next}(ak:Rel P J w m B)(h:r= .ok (.value u) w)(aq:R w m (bq J m) B v u):fT P B f J w m v J r:=
 ⟨u,w,m,.inl h,aq,ak,Ext.refl _ _ _ _⟩
def Globs(env:Env)(w:World)(B:Nat):Prop:=
 ∀g v,env.nM g=some v->∀eG,R w (λ_=>none) (λb=>B<=b) eG (.df true v) (.pointer (some ⟨g,0,none⟩))
def Globs.get{env:Env}{O:Nat->Prop}(h:Globs env w B)(cv:∀b,O b->B<=b){g:Nat}{v:AV}(hg:env.nM g=some v):R w m O B (.df true v) (.pointer (some ⟨g,0,none⟩)):=
 (h g v hg B).mono (λ_ _ h=>by cases h) (a8 _) (λ_ _ h=>h) (λb _ hb=>⟨rfl,λho=>hb (cv b ho)⟩)
def P1{env:Env}{O:Nat->Prop}(cv:∀b,O b->B<=b)(dt:Globs env w B){ao:a1 AV}{a:Act}(al:jU w m O B ao a.tmps.toList){x:Operand}{bW:aJ}(hx:opdOf x=some bW){v:AV}(aq:evalA env ao bW=some v):
  R w m O B v (a.eval x):=by
 cases x with
 |tmp t=>
  cases hx;obtain⟨u,hu,ak⟩:=al.1 t v aq;have:a.eval (.tmp t)=u:=by
   simp only[Act.eval];rw[nJ] at hu;simp[hu]
  rw[this];exact ak
 |const c=>
  simp only[opdOf] at hx;split at hx<;>cases hx;rename_i bn aa;simp only[evalA,cJ] at aq;subst aq;exact R.ofValue aa
 |func g=>
  cases hx;simp only[evalA,cJ] at aq;subst aq;exact .cC I (λi h=>by simp at h) I (λi h=>by simp at h)
 |_=>
  cases hx;simp only[evalA] at aq;split at aq<;>cases aq;rename_i bn hg;exact dt.get cv hg
def EL{env:Env}{O:Nat->Prop}(cv:∀b,O b->B<=b)(dt:Globs env w B){ao:a1 AV}{a:Act}(al:jU w m O B ao a.tmps.toList){xs:List Operand}{bW:List aJ}(hx:zl xs=some bW){bp:List AV}(aq:mapO (evalA env ao) bW=some bp):
  bQ w m O B bp (xs.map a.eval):=by
 obtain⟨h1,h2⟩:=zr hx;obtain⟨h3,aH⟩:=qc aq;refine⟨by simp[h1,h3],λi hi dh=>?_⟩;simp only[ez];have ot:i<bW.length:=by omega
 have a9o:i<xs.length:=by omega
 exact P1 cv dt al (h2 i a9o ot) (aH i ot hi)
def a9p(ak:Rel P J w m B){t:TypeId}{ab:Option Nat}(jc:shapeOf P t=some ab){zu v:AV}{u:Value}(an:R w m (bq J m) B zu u)
  (h:qQ J ab zu=some v):∃cn,(Instr.loadAt t u).run P w= .ok cn w/\R w m (bq J m) B v cn:=by
 unfold qQ at h;cases an with
 | @p _ _ _ id aG off hm=>
  simp only at h;cases hg:J.get id with
  |none=>simp[hg] at h
  |some o=>
   cases o<;>simp only[hg] at h<;>try (cases h;done)
   obtain⟨cn,h1,h2⟩:=XO ak jc hm hg h;exact⟨cn,by simp[Instr.loadAt,Instr.sureAddr,h1],h2⟩
 |df ba cv hb b0 aa gQ hf=>
  simp only at h;split at h
  ·rename_i aq;cases h;obtain⟨a,cn,ha,h1,h2⟩:=a9n (O:=bq J m) jc (.df ba cv hb b0 aa gQ hf) aq;cases ha;exact⟨cn,by simp[Instr.loadAt,Instr.sureAddr,h1],h2⟩
  ·cases h
 |_=>simp at h
def a9q{ab:Option Nat}{v:AV}{u:Value}{O:Nat->Prop}(aq:R w m O B v u)(aa:conf ab v=true):u.cells.size=shN ab/\v.cells.length=shN ab:=by
 have h:=aq.cells.1;cases ab with
 |none=>cases v<;>simp[conf,AV.cells,shN] at aa h ⊢ <;>exact h
 |some n=>cases v<;>simp[conf,AV.cells,shN] at aa h ⊢;omega
def a9r(ak:Rel P J w m B){t:TypeId}{ab:Option Nat}(jc:shapeOf P t=some ab){id off aG:Nat}{c bc:List AV}{x:AV}{u:Value}(hf:f<=id)(hm:m id=some aG)(hg:J.get id=some (.cells c))(aa:conf ab x=true)
  (al:Lyc.storeCells c off x.cells=some bc) (hx:R w m (bq J m) B x u):
  ∃av,(Instr.storeAt t (.pointer (some ⟨aG,off,none⟩)) u).run P w= .ok () av/\Rel P (J.set id (.cells bc)) av m B/\Ext f J w m (J.set id (.cells bc)) av m:=by
 obtain⟨av,h2,h3,aH⟩:=P0 ak hf hm hg al hx.cells (hx.leafs aa);obtain⟨_,cz,_⟩:=me jc w;refine⟨av,?_,h3,aH⟩;simp only[Instr.storeAt,Instr.sureAddr,e3,jq,e8,storeVar,cz,(a9q hx aa).1,ne_eq,not_true_eq_false,if_false];exact h2
def JV(ak:Rel P J w m B)(f:Nat){el:TypeId}{c:List AV}{cs:Array Value}(aa:bQ w m (bq J m) B c cs.toList)(hf:∀x∈c,conf none x=true):
  ∃av aP,(newRow el cs).run P w= .ok ⟨w.heap.size,0,none⟩ av/\aP J.next=some w.heap.size/\av.heap[w.heap.size]? =some (.cells cs el (0,0))/\Rel P (J.push (.cells c)) av aP B/\Ext f J w m (J.push (.cells c)) av aP:=by
 obtain⟨h1,h2⟩:=ak.alloc f {w with heap:=w.heap.push (.cells cs el)} (.cells c) (.cells cs el) I I I I I
  (.cells (by have:=aa.1;simp at this;omega) (λi h h'=>by have:=aa.2 i h (by simpa using h');simpa using this) (λi _=>by simp) hf)
 exact⟨_,_,by simp[newRow],iF _ _ _,ay,h1,h2⟩
def a9s(ak:Rel P J w m B){el:TypeId}{x:AV}{u:Value}(hx:R w m (bq J m) B x u)(hf:∀y∈x.cells,conf none y=true):
  ∃cn av aP,(Instr.box el u).run P w= .ok cn av/\R av aP (bq (J.push (.cells x.cells)) aP) B (kH J.next 0) cn/\Rel P (J.push (.cells x.cells)) av aP B/\Ext f J w m (J.push (.cells x.cells)) av aP:=by
 obtain⟨av,aP,h1,h2,_,h3,aH⟩:=JV ak f (el:=el) hx.cells hf;exact⟨_,av,aP,by simp[Instr.box,newVar,h1],.p h2,h3,aH⟩
def a9t{v:Value}{x:AV}(h:ofValue v=some x):∀y∈x.cells,conf none y=true:=by
 unfold Lyc.ofValue at h;split at h
 ·split at h
  ·rename_i l dL hx;cases h;intro y hy;obtain⟨i,hi,rfl⟩:=iP hy;exact PX ((zr hx).2 i (by have:=(zr hx).1;simp only[AV.cells] at hi;omega) hi)
  ·cases h
 ·split at h
  ·cases h;intro y hy;simp only[AV.cells,cA] at hy;subst hy;rfl
  ·cases h
 ·have aa:=PX h;cases x<;>first|(intro y hy;simp only[AV.cells,cA] at hy;subst hy;exact aa)|(simp[conf] at aa)
def s8{t:TypeId}{z:AV}(h:zeroOf P t=some z)(w:World):∃u,(zeroValue t).run P w= .ok u w/\(∀w m O B,R w m O B z u)/\∀y∈z.cells,conf none y=true:=by
 unfold zeroOf at h;split at h<;>try (cases h;done)
 rename_i i hi;split at h<;>try (cases h;done)
 rename_i v aq;exact⟨v,by simp[zeroValue,typeInfo,hi,aq],λw m O B=>R.ofValue h,a9t h⟩
def a9u(ak:Rel P J w m B){t:TypeId}{z:AV}(a_:zeroOf P t=some z):
  ∃cn av aP,(Instr.alloc t true (.tuple #[])).run P w= .ok cn av/\R av aP (bq (J.push (.cells z.cells)) aP) B (kH J.next 0) cn/\Rel P (J.push (.cells z.cells)) av aP B/\Ext f J w m (J.push (.cells z.cells)) av aP:=by
 obtain⟨u,h1,h2,hf⟩:=s8 a_ w;obtain⟨av,aP,h3,aH,_,bT,cE⟩:=JV ak f (el:=t) (h2 w m (bq J m) B).cells hf;exact⟨_,av,aP,by simp[Instr.alloc,h1,newVar,h3],.p aH,bT,cE⟩
def XP(k:IntKind)(n:Int):wrapN k n=k.wrap n:=by
 unfold wrapN;split
 ·rename_i x;cases h:Nat.blt x 9223372036854775808 with
  |false=>rfl
  |true=>
   have hx:x<9223372036854775808:=by simpa [hC] using h
   show Int.ofNat x=IntKind.i64.wrap (Int.ofNat x);have:(Int.ofNat x:Int)=(x:Int):=rfl;rw[this];have e:(x:Int)%2^64=x:=Px U U;simp only[IntKind.wrap,IntKind.bits,IntKind.signed,e];rw[if_neg (by simp;omega)]
 ·rfl
end
section
variable {P:Program}{w:World}{m:Nat->Option Nat}{O:Nat->Prop}{B:Nat}
def EM{v:AV}{n:Nat}(h:natOf v=some n):∃k,v= .i k (Int.ofNat n):=by
 unfold natOf at h;split at h<;>cases h;exact⟨_,rfl⟩
def XQ{a b:Nat}(ha:a<256)(hb:b<256)(h:a.toUInt8=b.toUInt8):a=b:=by
 have:=congrArg UInt8.toNat h;simp at this;omega
def XR{a b:Nat}(ha:a<256)(hb:b<256):a.toUInt8<b.toUInt8↔a<b:=by
 rw[Xd];simp;omega
def XS(l:List Nat):(strOf l).data.toList=l.map Nat.toUInt8:=by simp[strOf]
def B7(l:List Nat):(strOf l).toList=l.map Nat.toUInt8:=by
 rw[Go.ByteArray.toList_eq,XS]
def xy(l:List Nat):(strOf l).size=l.length:=by
 show(strOf l).data.size=_;simp[strOf]
def qe:∀(x y:List Nat),eqL x y=true↔x=y
 |[],[]=>by simp[eqL]
 |[],_::_=>by simp[eqL]
 |_::_,[]=>by simp[eqL]
 |a::x,b::y=>by
  show(cond (Nat.beq a b) (eqL x y) false)=true↔_;cases h:Nat.beq a b with
  |false=>
   simp only[cond_false,sX,false_iff,vL,not_and];intro e;subst e;simp[g0] at h
  |true=>
   have:a=b:=gE h;subst this;simp[qe x y]
def P2:∀(x y:List Nat),(∀c∈x,c<256)->(∀c∈y,c<256)->x.map Nat.toUInt8=y.map Nat.toUInt8->x=y
 |[],[],_,_,_=>rfl
 |[],_::_,_,_,h=>by simp at h
 |_::_,[],_,_,h=>by simp at h
 |a::x,b::y,hx,hy,h=>by
  simp only[pf,vL] at h;rw[XQ (hx a ay) (hy b ay) h.1,P2 x y (λc aa=>hx c (by simp[aa])) (λc aa=>hy c (by simp[aa])) h.2]
def a9v{x y:List Nat}(hx:∀c∈x,c<256)(hy:∀c∈y,c<256):((strOf x).toList==(strOf y).toList)=eqL x y:=by
 rw[uk,qe,beq_iff_eq,B7,B7];exact⟨P2 x y hx hy,λh=>by rw[h]⟩
def XT:∀(x y:List Nat),(∀c∈x,c<256)->(∀c∈y,c<256)->Op.bytesLess (x.map Nat.toUInt8) (y.map Nat.toUInt8)=i_ x y
 |[],[],_,_=>rfl
 |[],_::_,_,_=>rfl
 |_::_,[],_,_=>rfl
 |a::x,b::y,hx,hy=>by
  have ha:=hx a ay;have hb:=hy b ay;have aC:=XT x y (λc aa=>hx c (by simp[aa])) (λc aa=>hy c (by simp[aa]));show(decide (a.toUInt8<b.toUInt8)||(a.toUInt8==b.toUInt8&&Op.bytesLess (x.map Nat.toUInt8) (y.map Nat.toUInt8)))=cond (Nat.blt a b) true (cond (Nat.beq a b) (i_ x y) false);rw[aC];by_cases h:a<b
  ·have h1:Nat.blt a b=true:=by simpa [hC] using h
   have h2:=(XR ha hb).2 h;simp[h1,h2]
  ·have h1:Nat.blt a b=false:=by
    cases h3:Nat.blt a b
    ·rfl
    ·exact absurd (by simpa [hC] using h3) h
   have h2:¬a.toUInt8<b.toUInt8:=λaH=>h ((XR ha hb).1 aH);by_cases he:a=b
   ·subst he;simp[h1]
   ·have aH:Nat.beq a b=false:=by
     cases bT:Nat.beq a b
     ·rfl
     ·exact absurd (gE bT) he
    have bT:¬a.toUInt8=b.toUInt8:=λcE=>he (XQ ha hb cE);simp[h1,h2,aH,bT]
def R.qV{l:List Nat}{u:Value}(h:R w m O B (.s l) u):u= .string (strOf l)/\∀c∈l,c<256:=by
 cases h with
 |s _ h=>exact⟨rfl,h⟩
def R.nm{k:IntKind}{n:Int}{u:Value}(h:R w m O B (.i k n) u):u= .int k n:=by cases h;rfl
def R.xz{x:Bool}{u:Value}(h:R w m O B (.b x) u):u= .bool x:=by cases h;rfl
def R.xA{id off:Nat}{u:Value}(h:R w m O B (.p (some (id,off))) u):∃aG,m id=some aG/\u= .pointer (some ⟨aG,off,none⟩):=by
 cases h with
 |p h=>exact⟨_,h,rfl⟩
def R.JW{id:Nat}{u:Value}(h:R w m O B (.m (some id)) u):∃aG,m id=some aG/\u= .map (some aG):=by
 cases h with
 |mp h=>exact⟨_,h,rfl⟩
def a9w(x y:List Nat):strOf x++strOf y=strOf (x++y):=by
 apply ByteArray.ext;rw[ByteArray.data_append];simp[strOf]
def XU:∀(x y:List Nat),i_ y x=false->i_ x y=true\/eqL x y=true
 |[],[],_=>.inr I
 |[],_::_,_=>.inl I
 |_::_,[],h=>by simp[i_] at h
 |a::x,b::y,h=>by
  have h':cond (Nat.blt b a) true (cond (Nat.beq b a) (i_ y x) false)=false:=h;show cond (Nat.blt a b) true (cond (Nat.beq a b) (i_ x y) false)=true\/cond (Nat.beq a b) (eqL x y) false=true;have a9x:¬b<a:=λh1=>by
   have:Nat.blt b a=true:=by simpa [hC] using h1
   simp[this] at h'
  have lx:Nat.blt b a=false:=by
   cases h3:Nat.blt b a
   ·rfl
   ·exact absurd (by simpa [hC] using h3) a9x
  rw[lx] at h';by_cases he:a=b
  ·subst he;simp only[g0,cond_true,cond_false] at h' ⊢;rcases XU x y h' with h1|h1
   ·left;rw[h1];simp
   ·right;exact h1
  ·left;have:Nat.blt a b=true:=by simp[hC];omega
   rw[this];rfl
def XV:∀(x y:List Nat),i_ x y=true->i_ y x=false/\eqL x y=false
 |[],[],h=>by simp[i_] at h
 |[],_::_,_=>⟨rfl,rfl⟩
 |_::_,[],h=>by simp[i_] at h
 |a::x,b::y,h=>by
  have h':cond (Nat.blt a b) true (cond (Nat.beq a b) (i_ x y) false)=true:=h;show cond (Nat.blt b a) true (cond (Nat.beq b a) (i_ y x) false)=false/\cond (Nat.beq a b) (eqL x y) false=false;by_cases hl:a<b
  ·have h1:Nat.blt b a=false:=by
    cases h3:Nat.blt b a
    ·rfl
    ·have:b<a:=by simpa [hC] using h3
     omega
   have h2:Nat.beq b a=false:=by
    cases h3:Nat.beq b a
    ·rfl
    ·have:=gE h3;omega
   have aH:Nat.beq a b=false:=by
    cases h3:Nat.beq a b
    ·rfl
    ·have:=gE h3;omega
   simp[h1,h2,aH]
  ·have h1:Nat.blt a b=false:=by
    cases h3:Nat.blt a b
    ·rfl
    ·exact absurd (by simpa [hC] using h3) hl
   rw[h1] at h';cases h2:Nat.beq a b with
   |false=>rw[h2] at h';simp at h'
   |true=>
    rw[h2] at h';have:=gE h2;subst this;simp only[cond_false,cond_true] at h';obtain⟨h3,aH⟩:=XV x y h';simp[h1,g0,h3,aH]
def XW(a:List Nat):∀(ex:List (List Nat)),r0 a ex=true->a∈ex
 |[],h=>by cases h
 |x::ex,h=>by
  have h:cond (eqL a x) true (r0 a ex)=true:=h;cases hx:eqL a x with
  |true=>rw[(qe a x).1 hx];exact k1
  |false=>rw[hx] at h;exact g1 _ (XW a ex h)
def JX{ex:List (List Nat)}{a:List Nat}{u:Value}(h:R w m O B (.iQ ex) u)(hm:r0 a ex=true):∃s:ByteArray,u= .string s/\s≠strOf a:=by
 cases h with
 |iQ h=>exact⟨_,rfl,h a (XW a ex hm)⟩
def XX{a b:ByteArray}(h:a≠b):¬a.toList=b.toList:=λe=>h (by
 rw[Xe,Xe] at e;cases a;cases b;simp only[ByteArray.mk.injEq];exact om e)
def XY{a b:ByteArray}(h:a≠b):(a==b)=false:=by
 cases hb:a==b with
 |false=>rfl
 |true=>exact absurd ((Xf _ _).1 hb) h
def XZ{k:IntKind}(aB:k= .u8\/k= .i64){n:Nat}(h:n<256):k.wrap (Int.ofNat n)=Int.ofNat n:=by
 rcases aB with rfl|rfl
 ·have:(Int.ofNat n)%2^8=Int.ofNat n:=Px (Et _) (by show((n:Nat):Int)<2^8;omega);simp only[IntKind.wrap,IntKind.bits,IntKind.signed,this];simp
 ·have:(Int.ofNat n)%2^64=Int.ofNat n:=Px (Et _) (by show((n:Nat):Int)<2^64;omega);have h2:¬(2^63:Int)<=(Int.ofNat n):=by show ¬(2^63:Int)<=((n:Nat):Int);omega
  simp only[IntKind.wrap,IntKind.bits,IntKind.signed,this];simp at h2 ⊢;omega
def X0{op:BinOp}{t:TypeId}{x y v:AV}{a b:Value}(ha:R w m O B x a)(hb:R w m O B y b)(h:binop op x y=some v)(gG:∀hi,x≠ .jr hi):
  ∃u,(do eqGuard op t (.tmp 0) (.tmp 0) a b;Go.binOp op t a b:Sem Value).run P w= .ok u w/\R w m O B v u/\∀dL dV,(do eqGuard op t dL dV a b;Go.binOp op t a b:Sem Value)=(do eqGuard op t (.tmp 0) (.tmp 0) a b;Go.binOp op t a b:Sem Value):=by
 unfold binop at h;split at h
 ·rename_i k n l q;obtain rfl:=ha.nm;obtain rfl:=hb.nm;have hg:∀dL dV,eqGuard op t dL dV (.int k n) (.int l q)=pure ():=λdL dV=>by unfold eqGuard;cases op<;>rfl
  simp only[hg];refine(λ⟨u,h1,h2⟩=>⟨u,h1,h2,λ_ _=>trivial⟩:(∃u,(do pure ();Go.binOp op t (.int k n) (.int l q):Sem Value).run P w= .ok u w/\R w m O B v u)->_) ?_;split at h
  ·split at h<;>cases h;rename_i aS;exact⟨_,by simp[Go.binOp,Op.shift,aS],.i _ _⟩
  ·split at h<;>cases h;rename_i aS;exact⟨_,by simp[Go.binOp,Op.shift,aS],.i _ _⟩
  ·rename_i h1 h2;split at h
   ·rename_i r7;subst r7;have jt:(n==q)=decide (n=q):=by rw[uk];simp
    have P3:(n != q)= !decide (n=q):=by rw[uk];simp
    cases op<;>first
     |exact absurd I h1
     |exact absurd I h2
     |(
       simp only[binI] at h
       first
       |(
         cases h
         first
         |(refine⟨_,?_,R.i _ _⟩;simp[Go.binOp,Op.intArith,XP];done)
         |(refine⟨_,?_,R.b _⟩;simp[Go.binOp,Op.intCmp,jt,P3];done)
         |(refine⟨_,?_,R.b _⟩;simp only[Go.binOp,Op.intCmp,ne_eq,not_true_eq_false,if_false,e3,jq,e8];congr 2;rw[uk];simp;done))
       |(split at h<;>cases h;rename_i aS;refine⟨_,?_,R.i _ _⟩;simp[Go.binOp,Op.intDiv,aS];done)
       |(unfold Xp at h;dsimp only at h;cases h;refine⟨_,?_,R.i _ _⟩;simp[Go.binOp,Op.intBits];done))
   ·cases h
 ·rename_i s1 s2;obtain⟨rfl,h1⟩:=ha.qV;obtain⟨rfl,h2⟩:=hb.qV;have hg:∀dL dV,eqGuard op t dL dV (.string (strOf s1)) (.string (strOf s2))=pure ():=λdL dV=>by unfold eqGuard;cases op<;>rfl
  simp only[hg];refine(λ⟨u,h1,h2⟩=>⟨u,h1,h2,λ_ _=>trivial⟩:(∃u,(do pure ();Go.binOp op t (.string (strOf s1)) (.string (strOf s2)):Sem Value).run P w= .ok u w/\R w m O B v u)->_) ?_;have aM:=a9v h1 h2;have aU:Op.bytesLess (strOf s1).toList (strOf s2).toList=i_ s1 s2:=by rw[B7,B7];exact XT s1 s2 h1 h2
  have c3:(i_ s1 s2||eqL s1 s2)= !i_ s2 s1:=by
   cases h3:i_ s2 s1 with
   |true=>
    have:=XV s2 s1 h3;have bT:eqL s1 s2=false:=by
     cases cE:eqL s1 s2 with
     |false=>rfl
     |true=>
      have:=(qe s1 s2).1 cE;subst this;exact absurd ((qe s1 s1).2 I) (by rw[this.2];simp)
    simp[this.1,bT]
   |false=>rcases XU s1 s2 h3 with aH|aH<;>simp[aH]
  have fK:(!i_ s1 s2&& !eqL s1 s2)=i_ s2 s1:=by
   have:=congrArg Bool.not c3;simpa using this
  cases op<;>simp only[binS] at h<;>first
   |(cases h;done)
   |(
     split at h<;>cases h;rename_i cz;have c9g:s1.length+s2.length<4611686018427387904:=by simpa [hC] using cz
     refine⟨_,?_,.s _ (λc aa=>(eX.1 aa).elim (h1 c) (h2 c))⟩;simp only[Go.binOp,Op.stringOp,xy,e3,jq,e8];rw[if_neg (by simp only[IntKind.max,IntKind.signed,IntKind.bits,if_true];omega),a9w];rfl)
   |(cases h;refine⟨_,?_,R.b _⟩;simp[Go.binOp,Op.stringOp,aM,aU,c3,fK];done)
 ·-- a byte of Ex is known JD it leaves
  rename_i c_ d j cK c;split at h<;>try (cases h;done)
  rename_i r7;subst r7;cases ha with
  | @ih _ _ _ _ _ _ n hn hlt=>
  obtain rfl:=hb.nm;have hg:∀dL dV,eqGuard op t dL dV (.int c_ (Int.ofNat n)) (.int c_ (Int.ofNat c))=pure ():=λdL dV=>by unfold eqGuard;cases op<;>rfl
  simp only[hg];refine(λ⟨u,h1,h2⟩=>⟨u,h1,h2,λ_ _=>trivial⟩:(∃u,(do pure ();Go.binOp op t (.int c_ (Int.ofNat n)) (.int c_ (Int.ofNat c)):Sem Value).run P w= .ok u w/\R w m O B v u)->_) ?_;unfold umOp at h;cases aa:(Nat.blt 0 c&&(Nat.beq (d%c) 0&&(decide (c_= .u8)||decide (c_= .i64)))) with
  |false=>rw[aa] at h;cases h
  |true=>
   rw[aa,cond_true] at h;simp only[dD,um,hC,p8,decide_eq_true_eq] at aa;obtain⟨mg,s9,e9⟩:=aa;obtain⟨e,rfl⟩:=Nat.dvd_of_mod_eq_zero s9;have e6:(Int.ofNat c)≠0:=by intro h;have:c=0:=sY h;omega
   split at h<;>cases h
   ·refine⟨.int c_ (Int.ofNat (n%c)),?_,?_⟩
    ·have aM:(Int.ofNat n).tmod (Int.ofNat c)=Int.ofNat (n%c):=rfl;simp only[Go.binOp,Op.intDiv,ne_eq,not_true_eq_false,if_false,e6,aM,e3,jq,e8]
    ·rw[<-hn,Nat.mod_mul_right_mod];exact .i _ _
   ·refine⟨.int c_ (Int.ofNat (n/c)),?_,?_⟩
    ·have aM:(Int.ofNat n).tdiv (Int.ofNat c)=Int.ofNat (n/c):=rfl;have h1:n/c<256:=zd (Py _ _) hlt;have aU:c_.wrap (Int.ofNat (n/c))=Int.ofNat (n/c):=XZ e9 h1;simp only[Go.binOp,Op.intDiv,ne_eq,not_true_eq_false,if_false,e6,aM,aU,e3,jq,e8]
    ·refine .ih ?_ (zd (Py _ _) hlt);rw[<-hn,Nat.mul_div_cancel_left _ U,Nat.mod_mul_right_div_self]
 ·exact absurd I (gG _)
 ·rename_i l ex;obtain⟨rfl,h1⟩:=ha.qV;unfold sxEq at h;cases hm:r0 l ex with
  |false=>rw[hm] at h;cases h
  |true=>
   obtain⟨s,rfl,aY⟩:=JX hb hm;have hg:∀dL dV,eqGuard op t dL dV (.string (strOf l)) (.string s)=pure ():=λdL dV=>by unfold eqGuard;cases op<;>rfl
   simp only[hg];refine(λ⟨u,h1,h2⟩=>⟨u,h1,h2,λ_ _=>trivial⟩:(∃u,(do pure ();Go.binOp op t (.string (strOf l)) (.string s):Sem Value).run P w= .ok u w/\R w m O B v u)->_) ?_;have aM:=XX (oj aY);rw[hm,cond_true] at h;split at h<;>cases h<;>(refine⟨_,?_,R.b _⟩;simp[Go.binOp,Op.stringOp,aM];done)
 ·rename_i ex l;obtain⟨rfl,h1⟩:=hb.qV;unfold sxEq at h;cases hm:r0 l ex with
  |false=>rw[hm] at h;cases h
  |true=>
   obtain⟨s,rfl,aY⟩:=JX ha hm;have hg:∀dL dV,eqGuard op t dL dV (.string s) (.string (strOf l))=pure ():=λdL dV=>by unfold eqGuard;cases op<;>rfl
   simp only[hg];refine(λ⟨u,h1,h2⟩=>⟨u,h1,h2,λ_ _=>trivial⟩:(∃u,(do pure ();Go.binOp op t (.string s) (.string (strOf l)):Sem Value).run P w= .ok u w/\R w m O B v u)->_) ?_;have aM:=XX aY;rw[hm,cond_true] at h;split at h<;>cases h<;>(refine⟨_,?_,R.b _⟩;simp[Go.binOp,Op.stringOp,aM];done)
 ·cases h
def ok_bin{op:BinOp}{t:TypeId}{x y v:AV}{a b:Value}(ha:R w m O B x a)(hb:R w m O B y b)(h:binop op x y=some v):
  ∃u,(do eqGuard op t (.tmp 0) (.tmp 0) a b;Go.binOp op t a b:Sem Value).run P w= .ok u w/\R w m O B v u/\∀dL dV,(do eqGuard op t dL dV a b;Go.binOp op t a b:Sem Value)=(do eqGuard op t (.tmp 0) (.tmp 0) a b;Go.binOp op t a b:Sem Value):=by
 by_cases hi:∃hi,x= .jr hi
 ·obtain⟨hi,rfl⟩:=hi;cases ha with
  |jr n hn=>
   refine X0 (x:=.i .i64 n) (.i _ _) hb ?_ (λ_ h=>by cases h);cases y with
   |i l c=>
    cases c with
    |ofNat c=>
     replace h:(if l= .i64/\c=40 then(match op with| .gtr=>some (AV.b hi)| .leq=>some (.b (!hi))|_=>none) else none)=some v:=h;split at h
     ·rename_i aa;obtain⟨rfl,rfl⟩:=aa;split at h<;>cases h
      ·show(if IntKind.i64=IntKind.i64 then some (AV.b (decide (Int.ofNat 40<n))) else none)=_;rw[if_pos I,hn];rfl
      ·show(if IntKind.i64=IntKind.i64 then some (AV.b (decide (n<=Int.ofNat 40))) else none)=_;rw[if_pos I,hn]
       congr 2
       by_cases B8:(40:Int)<n
       ·rw[decide_eq_true B8,decide_eq_false (by show ¬n<=40;omega)];rfl
       ·rw[decide_eq_false B8,decide_eq_true (by show n<=40;omega)];rfl
     ·cases h
    |negSucc c=>cases h
   |_=>cases h
 ·exact X0 ha hb h λh e=>hi ⟨h,e⟩
def a9y(d:Nat){t:TypeId}(ht:P.underlying t=some .bool)(a b:Bool):(Op.equalIn (d+1) t (.bool a) (.bool b)).run P w= .ok (a==b) w:=by
 simp[Op.equalIn,run_underlying ht]
def a9z{t:TypeId}(ht:P.underlying t=some .bool){x y:AV}{v:Bool}{a b:Value}(ha:R w m O B x a)(hb:R w m O B y b)(h:binopB x y=some v)(dL dV:Operand):
  (do eqGuard .eql t dL dV a b;Go.binOp .eql t a b:Sem Value).run P w= .ok (.bool v) w/\(do eqGuard .neq t dL dV a b;Go.binOp .neq t a b:Sem Value).run P w= .ok (.bool (!v)) w:=by
 unfold binopB at h;split at h<;>cases h;rename_i c d;obtain rfl:=ha.xz;obtain rfl:=hb.xz;have he:(Op.equal t (.bool c) (.bool d)).run P w= .ok (c==d) w:=a9y 9999 ht c d;have h1:Go.binOp .eql t (.bool c) (.bool d)=(do pure (.bool (←Op.equal t (.bool c) (.bool d))):Sem Value):=rfl;have h2:Go.binOp .neq t (.bool c) (.bool d)=(do pure (.bool (!(←Op.equal t (.bool c) (.bool d)))):Sem Value):=rfl;have bx:eqGuard .eql t dL dV (.bool c) (.bool d)=pure ():=rfl;have bz:eqGuard .neq t dL dV (.bool c) (.bool d)=pure ():=rfl;rw[h1,h2,bx,bz];constructor<;>simp[he]
def X1(P:Program)(t:TypeId)(kind:Nat):Prop:=
 (kind=0/\∃ms,P.underlying t=some (.interface ms))\/(kind=1/\∃e,P.underlying t=some (.pointer e))\/(kind=2/\∃aE rs v,P.underlying t=some (.func aE rs v))∨
 (kind=3/\∃e,P.underlying t=some (.slice e))\/(kind=4/\∃k e,P.underlying t=some (.map k e))
def a9A{t:TypeId}{dL dV:Operand}{v:Bool}{A C:Value}(bx:eqGuard .eql t dL dV A C=pure ())(bz:eqGuard .neq t dL dV A C=pure ())(h1:Go.binOp .eql t A C=(do pure (.bool (←Op.equal t A C)):Sem Value))
  (h2:Go.binOp .neq t A C=(do pure (.bool (!(←Op.equal t A C))):Sem Value)) (he:∀d,(Op.equalIn (d+1) t A C).run P w= .ok v w):
  ((do eqGuard .eql t dL dV A C;Go.binOp .eql t A C:Sem Value).run P w= .ok (.bool v) w/\(do eqGuard .neq t dL dV A C;Go.binOp .neq t A C:Sem Value).run P w= .ok (.bool (!v)) w):=by
 have EN:(Op.equal t A C).run P w= .ok v w:=he 9999;rw[h1,h2,bx,bz];constructor<;>simp[EN]
def a9B{t:TypeId}{kind:Nat}(ht:X1 P t kind){x y:AV}{v:Bool}{a b:Value}
  (ha:R w m O B x a) (hb:R w m O B y b) (h:isNilEq kind x y=some v) (dL dV:Operand):
  (((do eqGuard .eql t dL dV a b;Go.binOp .eql t a b:Sem Value).run P w= .ok (.bool v) w/\(do eqGuard .neq t dL dV a b;Go.binOp .neq t a b:Sem Value).run P w= .ok (.bool (!v)) w)):=by
 unfold isNilEq at h;split at h
 case h_13=>cases h
 case h_12=>
  rcases ht with⟨rfl,_⟩|⟨rfl,_⟩|⟨rfl,_⟩|⟨rfl,_⟩|⟨rfl,_⟩<;>cases h
 all_goals
  cases h<;>cases ha<;>cases hb<;>
  (rcases ht with⟨aB,ms,hu⟩|⟨aB,e,hu⟩|⟨aB,aE,rs,c9h,hu⟩|⟨aB,e,hu⟩|⟨aB,cG,e,hu⟩<;>first
   |(cases aB;done)
   |(refine a9A I I I I (λd=>?_);simp[Op.equalIn,run_underlying hu];done))
end
section
variable {P:Program}{w:World}{m:Nat->Option Nat}{O:Nat->Prop}{B:Nat}
def P4{t:TypeId}{i off:Nat}{ab:Option Nat}(h:fieldOf P t i=some (off,ab)):
  ∃a6 s_,P.underlying t=some (.struct a6)/\a6[i]? =some s_/\s_.offset=off/\shapeOf P s_.type=some ab/\shN ab≠0:=by
 unfold fieldOf at h;split at h<;>try (cases h;done)
 rename_i a6 hu;split at h<;>try (cases h;done)
 rename_i s_ hf;split at h<;>try (cases h;done)
 rename_i iD al;split at h<;>cases h;rename_i a_;exact⟨a6,s_,hu,hf,rfl,al,a_⟩
def X2{ab:Option Nat}{c:List AV}{v:AV}(h:dE ab c=some v)(hf:∀x∈c,conf none x=true):v.cells=c.take (shN ab)/\shN ab<=c.length:=by
 cases ab with
 |none=>
  obtain⟨r,rfl⟩:=JT h;have:=hf v (by simp);refine⟨?_,by simp[shN]⟩;cases v<;>first|rfl|(simp[conf] at this)
 |some n=>
  obtain⟨rfl,hn⟩:=JU h;exact⟨rfl,hn⟩
def a9C{ab:Option Nat}{c:List AV}{v:AV}(h:dE ab c=some v)(hf:∀x∈c,conf none x=true):conf ab v=true:=by
 cases ab with
 |none=>
  obtain⟨r,rfl⟩:=JT h;exact hf v ay
 |some n=>
  obtain⟨rfl,hn⟩:=JU h;simp[conf];omega
def R.X3{ol:Bool}{cs:List AV}{u:Value}(h:R w m O B (.df ol (.aj cs)) u){ab:Option Nat}{k:Nat}{v:AV}(aq:dE ab (cs.drop k)=some v):
  ∃aG o,u= .pointer (some ⟨aG,o,none⟩)/\R w m O B (.df ol v) (.pointer (some ⟨aG,o+k,none⟩)):=by
 cases h with
 | @df _ _ _ _ _ aG off ba cv hb b0 aa ak hf=>
  simp only[AV.cells] at aa ak hf;have zv:∀x∈cs.drop k,conf none x=true:=λx hx=>hf x (p7 hx);obtain⟨pr,hle⟩:=X2 aq zv;have hlen:v.cells.length=shN ab:=by rw[pr,g6];omega
  have aB:k+shN ab<=cs.length\/shN ab=0:=by simp at hle;omega
  refine⟨aG,off,rfl,.df (λj=>ba (k+j)) cv hb b0 (λj aA=>?_) (λj aA=>?_) (λx hx=>?_)⟩
  ·rw[qO];exact aa (k+j) U
  ·have fB:k+j<cs.length:=by omega
   have e:v.cells[j]=cs[k+j]:=by
    have:v.cells[j]? =cs[k+j]? :=by
     rw[pr,vK U,ui]
    rw[cp aA,cp fB] at this;exact kr this
   rw[e];exact ak (k+j) fB
  ·rw[pr] at hx;exact zv x (pe hx)
def X4{t:TypeId}{i off:Nat}{ab:Option Nat}(h:fieldOf P t i=some (off,ab))(b o:Nat):
  (Instr.fieldAt t (.pointer (some ⟨b,o,none⟩)) i).run P w= .ok (.pointer (some ⟨b,o+off,none⟩)) w:=by
 obtain⟨a6,s_,hu,hf,rfl,al,a_⟩:=P4 h;obtain⟨_,cz,_⟩:=me al w;simp[Instr.fieldAt,run_underlying hu,hf,Instr.sureAddr,fieldPlace,cz,a_,mf]
def a9D{t:TypeId}{i off:Nat}{ab:Option Nat}(h:fieldOf P t i=some (off,ab)){x v:AV}{u:Value}(hx:R w m O B x u)
  (aq:fieldAddrA off ab x=some v):∃cn,(Instr.fieldAt t u i).run P w= .ok cn w/\R w m O B v cn:=by
 unfold fieldAddrA at aq;split at aq<;>try (cases aq;done)
 ·rename_i hx;cases aq;obtain⟨aG,hm,rfl⟩:=hx.xA;exact⟨_,X4 h _ _,.p hm⟩
 ·rename_i hx;split at aq<;>cases aq;rename_i bn ht;obtain⟨aG,o,rfl,ak⟩:=hx.X3 ht;exact⟨_,X4 h _ _,ak⟩
def X5{t:TypeId}{ab:Option Nat}(al:shapeOf P t=some ab){cs:List AV}{arr:Array Value}(aa:bQ w m O B cs arr.toList)(hf:∀x∈cs,conf none x=true){off:Nat}{v:AV}(aq:dE ab (cs.drop off)=some v):
  ∃cn,(part t arr off).run P w= .ok cn w/\R w m O B v cn:=by
 obtain⟨h1,h2,_⟩:=me al w;have hd:=aa.drop off;cases ab with
 |none=>
  obtain⟨r,ak⟩:=JT aq;rw[ak] at hd;obtain⟨u,hu,kK⟩:=hd.get (i:=0) (v:=v) I;rw[ui] at hu;have uy:arr[off]? =some u:=by simpa using hu
  exact⟨u,by simp[part,h1,uy],kK⟩
 |some n=>
  obtain⟨rfl,hn⟩:=JU aq;have e:(arr.extract off (off+n))=((arr.toList.drop off).take n).toArray:=by
   apply om;simp
  exact⟨.agg (arr.extract off (off+n)),by simp[part,h1,h2,shN],by rw[e];exact R.zs (hd.take n) (λx hx=>hf x (p7 (pe hx)))⟩
def a9E{t:TypeId}{i off:Nat}{ab:Option Nat}(h:fieldOf P t i=some (off,ab)){cs:List AV}{v:AV}{u:Value}(hx:R w m O B (.aj cs) u)(aq:dE ab (cs.drop off)=some v):
  ∃cn,(Instr.field t u i).run P w= .ok cn w/\R w m O B v cn:=by
 obtain⟨a6,s_,hu,hf,rfl,al,a_⟩:=P4 h;obtain⟨bp,rfl,hl,kt⟩:=hx.r6;obtain⟨cn,h1,h2⟩:=X5 (w:=w) al hl kt aq;exact⟨cn,by simp[Instr.field,run_underlying hu,hf,asAgg,h1],h2⟩
def a9F{t e:TypeId}{n:Nat}{ab:Option Nat}(hu:P.underlying t=some (.array n e))(al:shapeOf P e=some ab){x v:AV}{u:Value}(hx:R w m O B x u){k:IntKind}{j:Nat}(aA:j<n)
  (aq:fieldAddrA (j*shN ab) ab x=some v):∃cn,(Instr.indexAt t u (.int k (Int.ofNat j))).run P w= .ok cn w/\R w m O B v cn:=by
 unfold fieldAddrA at aq;obtain⟨_,cz,_⟩:=me al w;have key:∀b o,(Instr.indexAt t (.pointer (some ⟨b,o,none⟩)) (.int k (Int.ofNat j))).run P w= .ok (.pointer (some ⟨b,o+j*shN ab,none⟩)) w:=λb o=>by
  simp[Instr.indexAt,asIntOf,run_underlying hu,Instr.sureAddr,cz,mf,aA]
 split at aq<;>try (cases aq;done)
 ·rename_i hx;cases aq;obtain⟨aG,hm,rfl⟩:=hx.xA;exact⟨_,key _ _,.p hm⟩
 ·rename_i hx;split at aq<;>cases aq;rename_i bn ht;obtain⟨aG,o,rfl,ak⟩:=hx.X3 ht;exact⟨_,key _ _,ak⟩
def a9G{t e:TypeId}{lu:Option Nat}(hu:P.underlying t=some (.slice e))(al:shapeOf P e=some lu){x v:AV}{u:Value}(hx:R w m O B x u){k:IntKind}{j:Nat}
  (aq:idxSlA lu x j=some v):∃cn,(Instr.indexAt t u (.int k (Int.ofNat j))).run P w= .ok cn w/\R w m O B v cn:=by
 unfold idxSlA at aq;obtain⟨_,cz,_⟩:=me al w;have key:∀b o len cap,j<len->(Instr.indexAt t (.slice (some ⟨b,o,none⟩) len cap) (.int k (Int.ofNat j))).run P w= .ok (.pointer (some ⟨b,o+j*shN lu,none⟩)) w:=λb o len cap aA=>by
  simp[Instr.indexAt,asIntOf,run_underlying hu,cz,mf,aA]
 split at aq<;>try (cases aq;done)
 ·rename_i hx;split at aq<;>cases aq;rename_i gH;simp only[dD,decide_eq_true_eq] at gH;obtain⟨hlt,rfl⟩:=gH;have X6:=by simpa [hC] using hlt
  cases hx with
  |ao h hl aa hn ng=>exact⟨_,key _ _ _ _ X6,.p h⟩
 ·rename_i hx;split at aq<;>try (cases aq;done)
  rename_i he;subst he;split at aq<;>cases aq;rename_i bn X7;rw[EI] at X7;obtain⟨aA,rfl⟩:=fH.1 X7;cases hx with
  |mH=>simp at aA
  | @aV _ _ _ _ _ _ aG off gF sp ba cv ta aa ak hl hf fI=>
   have aY:∀ {l:List AV},j<l.length->l≠[]:=λh e=>by subst e;simp at h
   obtain rfl:=fI (aY aA);obtain⟨h1,h2,h3⟩:=cv (aY aA);exact⟨_,key _ _ _ _ aA,.df (ba j) h1 h2 h3 (λi hi=>aa j aA i hi) (λi hi=>ak j aA i hi) (hf _ (bC aA))⟩
def a9H{t:TypeId}(hu:P.underlying t=some .string){l:List Nat}{u:Value}(hx:R w m O B (.s l) u){k:IntKind}{j c:Nat}(aA:nth l j=some c):
  (Instr.index t u (.int k (Int.ofNat j))).run P w= .ok (.int .u8 (Int.ofNat c)) w:=by
 obtain⟨rfl,hl⟩:=hx.qV;rw[EI] at aA;obtain⟨hlt,hc⟩:=fH.1 aA;have aa:c<256:=hl c (by rw[<-hc];exact bC hlt);have al:(strOf l)[j]? =some c.toUInt8:=by
  have h1:j<(strOf l).size:=by rw[xy];exact hlt
  rw[getElem?_pos (strOf l) j h1]
  congr 1
  show(strOf l).data[j]=_;simp[strOf,hc]
 simp only[Instr.index,asIntOf,e3,jq,e8,run_underlying hu];have:(0:Int)<=Int.ofNat j:=Et j;simp[al];omega
def a9I{t e:TypeId}{n:Nat}{ab:Option Nat}(hu:P.underlying t=some (.array n e))(al:shapeOf P e=some ab){cs:List AV}{v:AV}{u:Value}(hx:R w m O B (.aj cs) u){k:IntKind}{j:Nat}(aA:j<n)
  (aq:dE ab (cs.drop (j*shN ab))=some v):∃cn,(Instr.index t u (.int k (Int.ofNat j))).run P w= .ok cn w/\R w m O B v cn:=by
 obtain⟨_,cz,_⟩:=me al w;obtain⟨bp,rfl,hl,kt⟩:=hx.r6;obtain⟨cn,h1,h2⟩:=X5 (w:=w) al hl kt aq;exact⟨cn,by simp[Instr.index,asIntOf,run_underlying hu,cz,aA,h1],h2⟩
def a9J{l:List AV}{u:Value}(hx:R w m O B (.bg l) u){i:Nat}{v:AV}(aq:nth l i=some v):∃cn,(Instr.extract u i).run P w= .ok cn w/\R w m O B v cn:=by
 obtain⟨bp,rfl,hl⟩:=hx.PY;rw[EI] at aq;obtain⟨cn,h1,h2⟩:=hl.get aq;have vY:bp[i]? =some cn:=by simpa using h1
 exact⟨cn,by simp[Instr.extract,vY],h2⟩
end
section
variable {P:Program}{w:World}{m:Nat->Option Nat}{O:Nat->Prop}{B:Nat}
def a9K{k:IntKind}{n y:Nat}{code:BoundsCode}(h:n<=y):(Instr.sliceBound (.int k (Int.ofNat n)) y code).run P w= .ok n w:=by
 have:((Int.ofNat n)<=(y:Int)):=by show((n:Nat):Int)<=y;omega
 simp[Instr.sliceBound,asIntOf,h]
def X8{k:IntKind}{n y:Nat}{code:BoundsCode}(h:n<=y):(Instr.sliceBound (.int k (n:Int)) y code).run P w= .ok n w:=a9K h
inductive mK(d:Nat):Option Value->Nat->Prop
 |none:mK d none d
 |some (k:IntKind) (n:Nat):mK d (some (.int k (Int.ofNat n))) n
def a9L{env:Env}(cv:∀b,O b->B<=b)(dt:Globs env w B){ao:a1 AV}{a:Act}(al:jU w m O B ao a.tmps.toList){x:Option Operand}{bW:Option aJ}(hx:opdO x=some bW){d n:Nat}(aq:bndO (evalA env ao) bW d=some n):mK d (x.map a.eval) n:=by
 cases x with
 |none=>
  cases hx;simp only[bndO,cJ] at aq;subst aq;exact .none
 |some x=>
  simp only[opdO] at hx;split at hx<;>cases hx;rename_i dL cX;simp only[bndO] at aq;split at aq<;>try (cases aq;done)
  rename_i v he;obtain⟨k,rfl⟩:=EM aq;have:=(P1 cv dt al cX he).nm;simp only[Eu,this];exact .some k n
def uz{isSlice:Bool}{len cap:Nat}{c1 hi:Option Value}{l h:Nat}(hl:mK 0 c1 l)(hh:mK len hi h)(h1:l<=h)(h2:h<=cap):
  (Instr.sliceBounds isSlice len cap c1 hi none).run P w= .ok (l,h,cap) w:=by
 cases hl<;>cases hh<;>simp[Instr.sliceBounds,X8,h1,h2]
def X9{isSlice:Bool}{len cap:Nat}{c1:Option Value}{l h k:Nat}{qW vZ:IntKind}(hl:mK 0 c1 l)(h1:l<=h)(h2:h<=k)(h3:k<=cap):
  (Instr.sliceBounds isSlice len cap c1 (some (.int qW (Int.ofNat h))) (some (.int vZ (Int.ofNat k)))).run P w= .ok (l,h,k) w:=by
 cases hl<;>simp[Instr.sliceBounds,X8,h1,h2,h3]
def a9M(s:List Nat)(l h:Nat):(strOf s).extract l h=strOf ((s.drop l).take (h-l)):=by
 apply ByteArray.ext;rw[ByteArray.data_extract];apply om;simp[strOf,JA,Pz]
def a9N{t:TypeId}(hu:P.underlying t=some .string){s:List Nat}{u:Value}(hx:R w m O B (.s s) u){c1 hi:Option Value}{l h:Nat}(hl:mK 0 c1 l)(hh:mK s.length hi h)(h1:l<=h)(h2:h<=s.length):
  ∃cn,(Instr.sliceAt t u c1 hi none).run P w= .ok cn w/\R w m O B (.s ((s.drop l).take (h-l))) cn:=by
 obtain⟨rfl,hb⟩:=hx.qV;refine⟨_,?_,.s _ (λc aa=>hb c (p7 (pe aa)))⟩;simp[Instr.sliceAt,Instr.slice,run_underlying hu,xy,uz hl hh h1 h2,a9M]
def a9O{t e:TypeId}{n:Nat}{ab:Option Nat}(hu:P.underlying t=some (.array n e))(al:shapeOf P e=some ab){id off aG k:Nat}(hm:m id=some aG)(aB:eF w aG=some k)(JY:off+n*shN ab<=k)
  {c1 hi:Option Value} {l h:Nat} (hl:mK 0 c1 l) (hh:mK n hi h) (h1:l<=h) (h2:h<=n):
  ∃cn,(Instr.sliceAt t (.pointer (some ⟨aG,off,none⟩)) c1 hi none).run P w= .ok cn w/\R w m O B (.ao id (if n=l then off else off+l*shN ab) (h-l) ab (some (n-l))) cn:=by
 obtain⟨_,cz,_⟩:=me al w;refine⟨.slice (some ⟨aG,if n=l then off else off+l*shN ab,none⟩) (h-l) (n-l),?_,.ao hm U (λc aa=>by cases aa;rfl) aB ?_⟩
 ·simp only[Instr.sliceAt,run_underlying hu,e3,e8,Instr.sureAddr,jq,uz hl hh h1 h2,cz];split<;>simp[mf]
 ·split
  ·rename_i e;subst e;simp;omega
  ·have:(n-l)*shN ab+l*shN ab=n*shN ab:=by rw[<-kD];congr 1;omega
   omega
def a9P{t e:TypeId}{lu:Option Nat}(hu:P.underlying t=some (.slice e))(al:shapeOf P e=some lu){id off len:Nat}{ab cap:Option Nat}(jc:ab=lu){u:Value}(hx:R w m O B (.ao id off len ab cap) u)
  {c1 hi:Option Value} {l h:Nat} (hl:mK 0 c1 l) (hh:mK len hi h) (h1:l<=h):
  (∀(gq:Option Value) (vZ:IntKind) (k:Nat),gq=some (.int vZ (Int.ofNat k))->hi.isSome=true->h<=k->k<=(cap.getD len)→
   ∃cn,(Instr.sliceAt t u c1 hi gq).run P w= .ok cn w/\R w m O B (.ao id (if k=l then off else off+l*shN ab) (h-l) ab (some (k-l))) cn)∧
  (∀c,cap=some c->h<=c->∃cn,(Instr.sliceAt t u c1 hi none).run P w= .ok cn w/\R w m O B (.ao id (if c=l then off else off+l*shN ab) (h-l) ab (some (c-l))) cn)∧
  (cap=none->h<=len->l=0->∃cn,(Instr.sliceAt t u c1 hi none).run P w= .ok cn w/\R w m O B (.ao id off h ab none) cn)∧
  (cap=none->h<=len->l<len->∃cn,(Instr.sliceAt t u c1 hi none).run P w= .ok cn w/\R w m O B (.ao id (off+l*shN ab) (h-l) ab none) cn)∧
  (cap=none->l=len->h=len->∃cn,(Instr.sliceAt t u c1 hi none).run P w= .ok cn w/\R w m O B (.aV true ab []) cn):=by
 subst jc;obtain⟨_,cz,_⟩:=me al w;cases hx with
 | @ao _ _ _ _ _ _ aG n gF _ _ hm hlen aa hn ng=>
  have P5:∀k,l<=k->(k-l)*shN ab+l*shN ab=k*shN ab:=λk aB=>by rw[<-kD];congr 1;omega
  have a9Q:∀k,k<=gF->k*shN ab<=gF*shN ab:=λk aB=>sZ _ aB;refine⟨?_,?_,?_,?_,?_⟩
  ·rintro gq vZ k rfl qX fC ps;have X_:k<=gF:=by
    cases cap with
    |none=>simp at ps;omega
    |some c=>have:=aa c I;simp at ps;omega
   cases hh with
   |none=>simp at qX
   |some qW h=>
    refine⟨.slice (some ⟨aG,if k=l then off else off+l*shN ab,none⟩) (h-l) (k-l),?_,.ao hm U (λc aa=>by cases aa;rfl) hn ?_⟩
    ·simp only[Instr.sliceAt,Instr.slice,run_underlying hu,e3,e8,X9 hl h1 fC X_,cz,jq];split<;>simp[mf]
    ·have:=a9Q k X_;split
     ·rename_i e;subst e;simp;omega
     ·have:=P5 k U;omega
  ·rintro c rfl s9;obtain rfl:=aa c I;refine⟨.slice (some ⟨aG,if gF=l then off else off+l*shN ab,none⟩) (h-l) (gF-l),?_,.ao hm U (λc aa=>by cases aa;rfl) hn ?_⟩
   ·simp only[Instr.sliceAt,Instr.slice,run_underlying hu,e3,e8,uz hl hh h1 s9,cz,jq];split<;>simp[mf]
   ·split
    ·rename_i e;subst e;simp;omega
    ·have:=P5 gF U;omega
  ·rintro rfl hle rfl;refine⟨.slice (some ⟨aG,off,none⟩) h gF,?_,.ao hm U (λc aa=>by cases aa) hn ng⟩;simp only[Instr.sliceAt,Instr.slice,run_underlying hu,e3,e8,uz hl hh h1 (p5 hle hlen),cz,jq];split<;>simp[mf]
  ·rintro rfl hle hlt;refine⟨.slice (some ⟨aG,off+l*shN ab,none⟩) (h-l) (gF-l),?_,.ao hm U (λc aa=>by cases aa) hn ?_⟩
   ·simp only[Instr.sliceAt,Instr.slice,run_underlying hu,e3,e8,uz hl hh h1 (p5 hle hlen),cz,jq];rw[if_neg U];simp[mf]
   ·have:=P5 gF U;omega
  ·rintro rfl jd zw;refine⟨.slice (some ⟨aG,if gF=l then off else off+l*shN ab,none⟩) (h-l) (gF-l),?_,?_⟩
   ·simp only[Instr.sliceAt,Instr.slice,run_underlying hu,e3,e8,uz hl hh h1 (show h<=gF by omega),cz,jq];split<;>simp[mf]
   ·rw[show h-l=([]:List AV).length from by rw[jd,zw];simp];exact .aV (λ_ _=>.bool true) (λh=>absurd I h) (λi h=>by simp at h) (λi h=>by simp at h) (λi h=>by simp at h) (jD _) (λv aq=>by simp at aq) (λh=>absurd I h)
def a9R{t e:TypeId}{lu:Option Nat}(hu:P.underlying t=some (.slice e))(al:shapeOf P e=some lu){c1 hi gq:Option Value}(hl:mK 0 c1 0)(hh:mK 0 hi 0)(hm:mK 0 gq 0)(qX:gq.isSome=true->hi.isSome=true):
  (Instr.sliceAt t (.slice none 0 0) c1 hi gq).run P w= .ok (.slice none 0 0) w:=by
 obtain⟨_,cz,_⟩:=me al w;cases hm with
 |none=>simp[Instr.sliceAt,Instr.slice,run_underlying hu,uz hl hh,cz]
 |some vZ=>
  cases hh with
  |none=>simp at qX
  |some qW=>
   have:=X9 (P:=P) (w:=w) (isSlice:=true) (len:=0) (cap:=0) (qW:=qW) (vZ:=vZ) hl (a8 0) (a8 0) (a8 0);simp only[Instr.sliceAt,Instr.slice,run_underlying hu,e3,e8,this,cz,jq];simp
def a9S{o:Oper}{x:Operand}(ho:o.op= .nilCheck x){cZ:Operand->Value}{v:AV}(hx:R w m O B v (cZ x))(h:nilOk v=true):(execOp cZ o).run P w= .ok (.value (cZ x)) w:=by
 generalize hu:cZ x=u at hx;cases hx<;>simp[nilOk] at h<;>simp[execOp,ho,hu]
def a9T{b:Bool}{u:Value}(hx:R w m O B (.b b) u):(Op.unary .not u).run P w= .ok (.bool (!b)) w:=by
 obtain rfl:=hx.xz;rfl
def a9U{k:IntKind}{n:Int}{u:Value}(hx:R w m O B (.i k n) u):(Op.unary .neg u).run P w= .ok (.int k (k.wrap (0-n))) w:=by
 obtain rfl:=hx.nm;rfl
def a9V{s d:TypeId}{k fh:IntKind}(al:P.underlying s=some (.int fh))(hd:P.underlying d=some (.int k)){j:IntKind}{n:Int}{u:Value}(hx:R w m O B (.i j n) u):(convert s d u).run P w= .ok (.int k (wrapN k n)) w:=by
 obtain rfl:=hx.nm;simp[convert,run_underlying al,run_underlying hd,Conv.intToInt,XP]
def a9W{s d:TypeId}{fh cO:IntKind}(al:P.underlying s=some (.int fh))(hd:P.underlying d=some (.int .i64)){q j:Nat}{u:Value}(hx:R w m O B (.ih cO q j) u):∃n,(convert s d u).run P w= .ok (.int .i64 (Int.ofNat n)) w/\R w m O B (.ih .i64 q j) (.int .i64 (Int.ofNat n)):=by
 cases hx with
 | @ih _ _ _ _ _ _ n hn hlt=>
 exact⟨n,by simp only[convert,e3,run_underlying al,run_underlying hd,e8,Conv.intToInt];rw[XZ (.inr I) hlt];rfl,.ih hn hlt⟩
def a9X{t:TypeId}{d:TypeDesc}(hu:P.underlying t=some d)(hd:∀ms,d≠ .interface ms)(u:Value):(Instr.makeInterface t u).run P w= .ok (.iface t u) w:=by
 simp only[Instr.makeInterface,e3,run_underlying hu,e8];cases d<;>first|rfl|exact absurd I (hd _)
def a9Y{t P6:TypeId}{d:TypeDesc}(hu:P.underlying t=some d)(hd:∀ms,d≠ .interface ms){z:AV}(a_:zeroOf P t=some z){two:Bool}{x:AV}{u:Value}(hx:R w m O B x u){v:AV}
  (aq:assertA x t z two=some v):∃cn,(Instr.typeAssert u P6 t two).run P w= .ok cn w/\R w m O B v cn:=by
 unfold assertA at aq;obtain⟨eJ,ju,lV,_⟩:=s8 a_ w;have nQ:=lV w m O B;have zx:∀ {a:AV} {b:Value} (c:Bool),R w m O B a b->R w m O B (.bg [a,.b c]) (.tuple #[b,.bool c]):=λc h=>R.vV (bQ.cons h (bQ.cons (.b c) bQ.nil));split at aq<;>try (cases aq;done)
 ·rename_i JZ bn hx;cases hx with
  | @it _ _ _ _ _ cn ak=>
   split at aq
   ·rename_i he;subst he;cases aq;cases two with
    |false=>exact⟨cn,by simp only[Instr.typeAssert,e3,run_underlying hu,e8];cases d<;>first|exact absurd I (hd _)|simp,ak⟩
    |true=>exact⟨.tuple #[cn,.bool true],by simp only[Instr.typeAssert,e3,run_underlying hu,e8];cases d<;>first|exact absurd I (hd _)|simp,zx true ak⟩
   ·rename_i he;cases two with
    |false=>cases aq
    |true=>
     cases aq;exact⟨.tuple #[eJ,.bool false],by simp only[Instr.typeAssert,e3,run_underlying hu,e8];cases d<;>first|exact absurd I (hd _)|simp[he,ju],zx false nQ⟩
 ·rename_i hx;cases hx;cases two with
  |false=>cases aq
  |true=>
   cases aq;exact⟨.tuple #[eJ,.bool false],by simp only[Instr.typeAssert,e3,run_underlying hu,e8];cases d<;>first|exact absurd I (hd _)|simp[ju],zx false nQ⟩
end
def jW{α β:Type}(r:α->β->Prop):List α->List β->Prop
 |[],[]=>True
 |x::xs,y::ba=>r x y/\jW r xs ba
 |_,_=>False
def EO{α β Ya:Type}{f:α->Option β}{g:α->Ya}{r:β->Ya->Prop}(h:∀x y,f x=some y->r y (g x)):∀ {l:List α} {ba:List β},mapOL f l=some ba->jW r ba (l.map g)
 |[],ba,hy=>by simp[mapOL] at hy;subst hy;trivial
 |x::xs,ba,hy=>by
  rw[mapOL] at hy;split at hy
  ·rename_i y e5 hx dG;cases hy;exact⟨h x y hx,EO h dG⟩
  ·cases hy
section
variable {P:Program}{w:World}{m:Nat->Option Nat}{O:Nat->Prop}{B:Nat}
def bQ.store{c bc v:List AV}{off:Nat}{arr:Array Value}{us:List Value}(aa:bQ w m O B c arr.toList)(aq:bQ w m O B v us)(h:storeCells c off v=some bc):bQ w m O B bc (wr arr off us).toList:=by
 obtain⟨hle,rfl⟩:=EK h;have vW:arr.size=c.length:=by have:=aa.1;simpa using this
 have hlen:=aq.1;have e:(wr arr off us).toList=arr.toList.take off++(us++arr.toList.drop (off+us.length)):=by
  apply List.ext_getElem?;intro i;have:=JS us arr off i U;rw[nJ,this];rw[Es];simp only[g6,ug];by_cases bT:i<off
  ·rw[if_neg U,if_pos U,vK bT];simp
  ·rw[if_neg (show ¬i<min off arr.size by omega),Es];by_cases cE:i-min off arr.size<us.length
   ·rw[if_pos cE,if_pos U,show min off arr.size=off by omega]
   ·rw[if_neg cE,if_neg U,ui];rw[nJ];congr 1;omega
 rw[e,hlen];exact(aa.take off).append (aq.append (aa.drop _))
def a9Z{c bc v:List AV}{off:Nat}(aa:∀x∈c,conf none x=true)(aq:∀x∈v,conf none x=true)(h:storeCells c off v=some bc):∀x∈bc,conf none x=true:=by
 obtain⟨_,rfl⟩:=EK h;intro x hx;rcases eX.1 hx with hx|hx
 ·exact aa x (pe hx)
 ·rcases eX.1 hx with hx|hx
  ·exact aq x hx
  ·exact aa x (p7 hx)
def b0a{c bc v:List AV}{off:Nat}(h:storeCells c off v=some bc):bc.length=c.length:=by
 obtain⟨_,rfl⟩:=EK h;simp;omega
def Yb:∀(l:List Value) (k off:Nat) (cs:Array Value),(l.zipIdx k).foldl (λ(cs:Array Value) (p:Value×Nat)=>cs.setIfInBounds (off+p.2) p.1) cs=wr cs (off+k) l
 |[],_,_,_=>rfl
 |v::r,k,off,cs=>by
  rw[List.zipIdx_cons,BV,Yb r (k+1) off,wr];rfl
def P7{v:AV}{u:Value}(h:R w m O B v u)(aq:v.val=true):∀x∈v.cells,conf none x=true:=by
 cases h with
 |aj al ak hf=>exact hf
 |bg al ak=>simp[AV.val] at aq
 |_=>intro x hx;simp only[AV.cells,cA] at hx;subst hx;rfl
def b0b(ar:aJ->Option AV)(b1:Nat->Nat->Nat)(c:List AV):ja ar b1 [] c=some c:=rfl
def layParts_cons(ar:aJ->Option AV)(b1:Nat->Nat->Nat)(p:Nat×Nat×aJ)(aE:List (Nat×Nat×aJ))(c:List AV):
  ja ar b1 (p::aE) c=match ar p.2.2 with
   |none=>none
   |some v=>cond (Nat.beq v.cells.length p.2.1&&v.val) (match storeCells c (b1 p.1 p.2.1) v.cells with|none=>none|some c=>ja ar b1 aE c) none:=rfl
def EP{place:Nat->Option (Nat×Nat)}{ar:aJ->Option AV}{b1:Nat->Nat->Nat}:∀(aE:List (Nat×Nat×aJ)) (jF:List (Nat×Value)) (c bc:List AV) (arr:Array Value),
  jW (λ(p:Nat×Nat×aJ) (q:Nat×Value)=>place q.1=some (b1 p.1 p.2.1,p.2.1)/\∀v,ar p.2.2=some v->R w m O B v q.2) aE jF->bQ w m O B c arr.toList->(∀x∈c,conf none x=true)->ja ar b1 aE c=some bc→
  ∃ou,Instr.fill place arr jF=some ou/\bQ w m O B bc ou.toList/\(∀x∈bc,conf none x=true)/\bc.length=c.length
 |[],[],c,bc,arr,_,aa,hf,h=>by
  rw[b0b] at h;cases h;exact⟨arr,rfl,aa,hf,rfl⟩
 |[],_::_,_,_,_,h,_,_,_=>h.elim
 |_::_,[],_,_,_,h,_,_,_=>h.elim
 |p::aE,q::jF,c,bc,arr,⟨⟨an,aq⟩,ak⟩,aa,hf,h=>by
  rw[layParts_cons] at h;cases he:ar p.2.2 with
  |none=>simp[he] at h
  |some v=>
   simp only[he] at h;cases hb:(Nat.beq v.cells.length p.2.1&&v.val) with
   |false=>simp[hb] at h
   |true=>
    rw[hb,cond_true] at h;simp only[dD] at hb;have hlen:=gE hb.1;have hR:=aq v he;cases cq:storeCells c (b1 p.1 p.2.1) v.cells with
    |none=>simp[cq] at h
    |some dU=>
     simp only[cq] at h;have cz:q.2.cells.size=p.2.1:=by have:=hR.cells.1;simp at this;omega
     have Yc:=(EK cq).1;have vW:arr.size=c.length:=by have:=aa.1;simpa using this
     obtain⟨ou,h1,h2,h3,aH⟩:=EP aE jF dU bc (wr arr (b1 p.1 p.2.1) q.2.cells.toList) ak (aa.store hR.cells cq) (a9Z hf (P7 hR hb.2) cq) h;refine⟨ou,?_,h2,h3,by rw[aH,b0a cq]⟩;obtain⟨i,u⟩:=q;simp only[Instr.fill];rw[show place i=some (b1 p.1 p.2.1,p.2.1) from an];simp only at cz ⊢;have gH:(u.cells.size≠p.2.1||decide (b1 p.1 p.2.1+u.cells.size > arr.size))=false:=by
      simp[cz];omega
     have Yd:(u.cells.zipIdx.foldl (λ(cs:Array Value) (x:Value×Nat)=>cs.setIfInBounds (b1 p.1 p.2.1+x.2) x.1) arr)=wr arr (b1 p.1 p.2.1) u.cells.toList:=by
      rw[<-Array.foldl_toList,Array.toList_zipIdx,Yb];rfl
     have b0c:¬((u.cells.size≠p.2.1||b1 p.1 p.2.1+u.cells.size > arr.size)=true):=by rw[um];simp[cz];omega
     rw[if_neg b0c]
     first|(rw[Yd];exact h1)|(simp only[Yd];exact h1)
def b0d{a6:Array Field}(h:∀f∈a6.toList,∃i,P.info? f.type=some i)(w:World):
  ∃aE:Array (Nat×Nat),(a6.mapM λf=>(do pure (f.offset,← sizeOf f.type):Sem (Nat×Nat))).run P w= .ok aE w/\∀(i:Nat) (f:Field) (inf:TypeInfo),a6[i]? =some f->P.info? f.type=some inf->aE[i]? =some (f.offset,inf.size):=by
 have key:∀(l:List Field),(∀f∈l,∃i,P.info? f.type=some i)->∃aE:List (Nat×Nat),(l.mapM λf=>(do pure (f.offset,← sizeOf f.type):Sem (Nat×Nat))).run P w= .ok aE w/\∀(i:Nat) (f:Field) (inf:TypeInfo),l[i]? =some f->P.info? f.type=some inf->aE[i]? =some (f.offset,inf.size):=by
  intro l
  induction l with
  |nil=>intro _;exact⟨[],ay,λi f inf h=>by simp at h⟩
  |cons f l aC=>
   intro h;obtain⟨i,hi⟩:=h f ay;obtain⟨aE,h1,h2⟩:=aC (λg hg=>h g (by simp[hg]));have cz:(sizeOf f.type).run P w= .ok i.size w:=by simp[sizeOf,typeInfo,hi]
   refine⟨(f.offset,i.size)::aE,by simp only[List.mapM_cons,e3,cz,e8,jq,h1],λk g inf hg zy=>?_⟩;cases k with
   |zero=>simp at hg;subst hg;rw[hi] at zy;cases zy;rfl
   |succ k=>simp at hg ⊢;exact h2 k g inf hg zy
 obtain⟨aE,h1,h2⟩:=key a6.toList h;refine⟨aE.toArray,?_,λi f inf hf zy=>by simpa using h2 i f inf (by simpa using hf) zy⟩;rw[Xg];simp only[Sem.run_map,h1,e8]
def b0e{t:TypeId}{a6:Array Field}(hu:P.underlying t=some (.struct a6))(hi:a6.any (λf=>(P.info? f.type).isNone)=false){z:List AV}(a_:zeroOf P t=some (.aj z)){ar:aJ->Option AV}
  {aE:List (Nat×Nat×aJ)} {jF:Array (Nat×Value)} {c:List AV}
  (an:jW (λ(p:Nat×Nat×aJ) (q:Nat×Value)=>(∃ab,fieldOf P t q.1=some (p.1,ab)/\shN ab=p.2.1)/\∀v,ar p.2.2=some v->R w m O B v q.2) aE jF.toList)
  (h:ja ar (λoff _=>off) aE z=some c):∃u,(Instr.build t jF).run P w= .ok u w/\R w m O B (.aj c) u:=by
 have hall:∀f∈a6.toList,∃i,P.info? f.type=some i:=by
  intro f hf;rw[<-Array.any_toList,List.any_eq_false] at hi;have:=hi f hf;cases h:P.info? f.type with
  |none=>simp[h] at this
  |some i=>exact⟨i,rfl⟩
 obtain⟨places,hX,J0⟩:=b0d hall w;obtain⟨eJ,ju,lV,nQ⟩:=s8 a_ w;obtain⟨e5,rfl,ov,tb⟩:=(lV w m O B).r6;have qf:jW (λ(p:Nat×Nat×aJ) (q:Nat×Value)=>places[q.1]? =some (p.1,p.2.1)/\∀v,ar p.2.2=some v->R w m O B v q.2) aE jF.toList:=by
  clear h;revert an;generalize jF.toList=hG
  induction aE generalizing hG with
  |nil=>cases hG<;>exact id
  |cons p aE aC=>
   cases hG with
   |nil=>exact id
   |cons q hG=>
    rintro⟨⟨⟨ab,hf,jc⟩,aq⟩,ak⟩;refine⟨⟨?_,aq⟩,aC hG ak⟩;obtain⟨hF,s_,uy,du,P8,al,_⟩:=P4 hf;rw[hu] at uy;cases uy;obtain⟨_,_,inf,zy,cz⟩:=me al w;rw[J0 q.1 s_ inf du zy,P8,cz,jc]
 obtain⟨ou,h1,h2,h3,_⟩:=EP aE jF.toList z c e5 qf ov tb h;refine⟨.agg ou,?_,by have:=R.zs h2 h3;simpa using this⟩;simp only[Instr.build,e3,ju,e8,run_underlying hu,Value.cells,hX];simp[h1]
def b0f{t e:TypeId}{n:Nat}{ab:Option Nat}(hu:P.underlying t=some (.array n e))(al:shapeOf P e=some ab){z:List AV}(a_:zeroOf P t=some (.aj z)){ar:aJ->Option AV}
  {aE:List (Nat×Nat×aJ)} {jF:Array (Nat×Value)} {c:List AV}
  (an:jW (λ(p:Nat×Nat×aJ) (q:Nat×Value)=>(p.1=q.1*shN ab/\p.2.1=shN ab)/\∀v,ar p.2.2=some v->R w m O B v q.2) aE jF.toList)
  (h:ja ar (λoff _=>off) aE z=some c):∃u,(Instr.build t jF).run P w= .ok u w/\R w m O B (.aj c) u:=by
 obtain⟨_,cz,_⟩:=me al w;obtain⟨eJ,ju,lV,nQ⟩:=s8 a_ w;obtain⟨e5,rfl,ov,tb⟩:=(lV w m O B).r6;have qf:jW (λ(p:Nat×Nat×aJ) (q:Nat×Value)=>(λi=>some (i*shN ab,shN ab)) q.1=some (p.1,p.2.1)/\∀v,ar p.2.2=some v->R w m O B v q.2) aE jF.toList:=by
  clear h;revert an;generalize jF.toList=hG
  induction aE generalizing hG with
  |nil=>cases hG<;>exact id
  |cons p aE aC=>
   cases hG with
   |nil=>exact id
   |cons q hG=>
    rintro⟨⟨⟨h1,h2⟩,aq⟩,ak⟩;exact⟨⟨by rw[h1,h2],aq⟩,aC hG ak⟩
 obtain⟨ou,h1,h2,h3,_⟩:=EP (place:=λi=>some (i*shN ab,shN ab)) (b1:=λoff _=>off) aE jF.toList z c e5 qf ov tb h;refine⟨.agg ou,?_,by have:=R.zs h2 h3;simpa using this⟩;simp only[Instr.build,e3,ju,e8,run_underlying hu,Value.cells,cz];simp[h1]
def Ye(z:List AV):hQ 0 z=[]:=rfl
def Yf(n:Nat)(z:List AV):hQ (n+1) z=z++hQ n z:=rfl
def B9{z:List AV}{e5:List Value}(a_:bQ w m O B z e5):∀n,bQ w m O B (hQ n z) ((List.range (n*e5.length)).map λi=>e5[i%e5.length]!)
 |0=>by simp[Ye];exact bQ.nil
 |n+1=>by
  rw[Yf,kD,rX,rY,List.range_add,gO,kq];have aC:=B9 a_ n;by_cases h0:e5.length=0
  ·have:e5=[]:=p9 h0;subst this;have b0g:z=[]:=p9 (by have:=a_.1;simpa using this.symm);subst b0g;simpa using aC
  ·refine bQ.append ?_ ?_
   ·have:((List.range e5.length).map λi=>e5[i%e5.length]!)=e5:=by
     apply xr
     ·simp
     ·intro i h1 h2;simp only[ez,pg];rw[Nat.mod_eq_of_lt h2];simp[h2]
    rw[this];exact a_
   ·have:((λi=>e5[i%e5.length]!)∘λx=>e5.length+x)=λi=>e5[i%e5.length]! :=by
     funext i;simp
    rw[this];exact aC
def B_{z:List AV}(a_:∀x∈z,conf none x=true):∀n,∀x∈hQ n z,conf none x=true
 |0,x,hx=>by simp[Ye] at hx
 |n+1,x,hx=>by
  rw[Yf] at hx;rcases eX.1 hx with h|h
  ·exact a_ x h
  ·exact B_ a_ n x h
end
section
variable {P:Program}{J:ad}{w:World}{m:Nat->Option Nat}{B:Nat}{f:Nat}
def b0h(ak:Rel P J w m B){t e:TypeId}{ab:Option Nat}(hu:P.underlying t=some (.slice e))(al:shapeOf P e=some ab){z:AV}(a_:zeroOf P e=some z)(xB:z.cells.length=shN ab){n:Nat}(hn:n*shN ab<=16777216){ar:aJ->Option AV}
  {aE:List (Nat×Nat×aJ)} {jF:Array (Nat×Value)} {c:List AV}
  (an:jW (λ(p:Nat×Nat×aJ) (q:Nat×Value)=>(p.1=q.1/\p.2.1=shN ab)/\∀v,ar p.2.2=some v->R w m (bq J m) B v q.2) aE jF.toList)
  (h:ja ar (λi b1=>i*b1) aE (hQ n z.cells)=some c):
  ∃cn av aP,(Instr.buildSlice t n jF).run P w= .ok cn av/\R av aP (bq (J.push (.cells c)) aP) B (.ao J.next 0 n ab (some n)) cn/\Rel P (J.push (.cells c)) av aP B/\Ext f J w m (J.push (.cells c)) av aP:=by
 obtain⟨_,cz,_⟩:=me al w;obtain⟨eJ,ju,lV,nQ⟩:=s8 a_ w;have ov:=(lV w m (bq J m) B).cells;have nn:eJ.cells.size=shN ab:=by have:=ov.1;simp at this;omega
 have qf:jW (λ(p:Nat×Nat×aJ) (q:Nat×Value)=>(λi=>some (i*shN ab,shN ab)) q.1=some (p.1*p.2.1,p.2.1)/\∀v,ar p.2.2=some v->R w m (bq J m) B v q.2) aE jF.toList:=by
  clear h;revert an;generalize jF.toList=hG
  induction aE generalizing hG with
  |nil=>cases hG<;>exact id
  |cons p aE aC=>
   cases hG with
   |nil=>exact id
   |cons q hG=>
    rintro⟨⟨⟨h1,h2⟩,aq⟩,ak⟩;exact⟨⟨by rw[h1,h2],aq⟩,aC hG ak⟩
 have pt:=B9 ov n;have P9:=B_ nQ n;have xC:eJ.cells.toList.length=shN ab:=by simp[nn]
 rw[xC] at pt;obtain⟨ou,h1,h2,h3,aH⟩:=EP (place:=λi=>some (i*shN ab,shN ab)) aE jF.toList (hQ n z.cells) c ((Array.range (n*shN ab)).map λi=>eJ.cells.toList[i%shN ab]!) qf
  (by simpa [ze] using pt) P9 h
 obtain⟨av,aP,ik,kJ,qd,vX,ER⟩:=JV ak f (el:=e) h2 h3;have Ca:ou.size=n*shN ab:=by
  have aQ:=h2.1;have aZ:=pt.1;simp at aQ aZ;omega
 refine⟨.slice (some ⟨w.heap.size,0,none⟩) n n,av,aP,?_,.ao kJ (a8 _) (λc aa=>by cases aa;rfl) (n:=ou.size) (by unfold eF;rw[qd]) U,vX,ER⟩;have P_:¬(n*shN ab > 2^24):=by omega
 simp only[Instr.buildSlice,e3,run_underlying hu,e8,cz];rw[if_neg P_];by_cases h0:n*shN ab=0
 ·have aM:((Array.range (n*shN ab)).map λi=>eJ.cells.toList[i%shN ab]!)= #[]:=by rw[h0];apply om;simp
  rw[aM] at h1;rw[if_pos h0];simp only[e3,jq,e8,h0];have c3:((Array.range 0).map λx=>(#[]:Array Value)[x%(#[]:Array Value).size]!)= #[]:=by apply om;simp
  rw[c3,h1];simp[ik]
 ·have aM:((Array.range (n*shN ab)).map λi=>eJ.cells.toList[i%shN ab]!)=((Array.range (n*shN ab)).map λi=>eJ.cells[i%eJ.cells.size]!):=by
   apply om;simp only[vM,ze];apply pd;intro a _;rw[nn,PA,rZ];simp
  rw[aM] at h1;simp only[h0,if_false,e3,ju,e8,jq];simp only[h1];simp[ik]
end
section
variable {P:Program}{w:World}{m:Nat->Option Nat}{O:Nat->Prop}{B:Nat}
def Yg{ab iD:Option Nat}{v:AV}(h:conf ab v=true)(h':conf iD v=true):ab=iD:=by
 cases ab<;>cases iD<;>cases v<;>simp[conf] at h h'<;>first|rfl|(subst h;simp_all)
def b0i(ab:Option Nat)(c:List AV):elems ab 0 c=some []:=rfl
def elems_succ(ab:Option Nat)(n:Nat)(c:List AV):elems ab (n+1) c=match dE ab c with
 |none=>none
 |some v=>match elems ab n (c.drop (shN ab)) with|none=>none|some bp=>some (v::bp):=rfl
def Cb{ab:Option Nat}:∀ {n:Nat} {c:List AV} {bp:List AV},(∀x∈c,conf none x=true)->elems ab n c=some bp→
  bp.length=n/\bp.flatMap AV.cells=c.take (n*shN ab)/\n*shN ab<=c.length/\∀v∈bp,conf ab v=true
 |0,c,bp,_,h=>by rw[b0i] at h;cases h;simp
 |n+1,c,bp,hf,h=>by
  rw[elems_succ] at h;split at h<;>try (cases h;done)
  rename_i v aq;split at h<;>cases h;rename_i ux pq;obtain⟨h1,h2,h3,aH⟩:=Cb (λx hx=>hf x (p7 hx)) pq;obtain⟨bT,cE⟩:=X2 aq hf;refine⟨by simp[h1],?_,?_,?_⟩
  ·rw[lR,h2,bT,kD,rX,rY (n*shN ab),List.take_add]
  ·simp at h3;rw[kD];omega
  ·intro bn iG;rcases c2.1 iG with rfl|eI
   ·exact a9C aq hf
   ·exact aH bn eI
def b0j{xs:List AV}(h:∀v∈xs,∀x∈v.cells,conf none x=true):∀x∈xs.flatMap AV.cells,conf none x=true:=by
 intro x hx;obtain⟨v,aq,hx⟩:=uo.1 hx;exact h v aq x hx
def v3{ab:Option Nat}{v:AV}(h:conf ab v=true):v.cells.length=shN ab:=by
 cases ab with
 |none=>cases v<;>simp[conf] at h<;>rfl
 |some n=>cases v<;>simp[conf] at h;exact h
def Yh{ab:Option Nat}{aG:Nat}:∀ {xs:List AV} {off:Nat} (ba:Nat->Nat->Value),(∀i (h:i<xs.length),conf ab (xs[i])=true)→
  (∀i (h:i<xs.length),∀j,j<(xs[i]).cells.length->w.cell? ⟨aG,off+i*shN ab+j,none⟩=some (ba i j))→
  (∀i (h:i<xs.length),∀j (aA:j<(xs[i]).cells.length),R w (λ_=>none) O B ((xs[i]).cells[j]) (ba i j))→
  ∃us,bQ w m O B (xs.flatMap AV.cells) us/\us.length=xs.length*shN ab/\∀j u,us[j]? =some u->w.cell? ⟨aG,off+j,none⟩=some u
 |[],off,ba,_,_,_=>⟨[],bQ.nil,ay,λj u h=>by simp at h⟩
 |x::xs,off,ba,al,aa,ak=>by
  have hx:=al 0 ay;have hlen:=v3 hx;simp only[Ev] at hlen;obtain⟨us,h1,h2,h3⟩:=Yh (off:=off+shN ab) (xs:=xs) (λi j=>ba (i+1) j) (λi h=>al (i+1) (by simpa using h))
   (λi h j aA=>by have:=aa (i+1) (by simpa using h) j (by simpa using aA);rw[<-this];congr 2;rw[kD];omega)
   (λi h j aA=>ak (i+1) (by simpa using h) j aA)
  refine⟨(List.range x.cells.length).map (ba 0)++us,?_,?_,?_⟩
  ·rw[lR];refine bQ.append ⟨ay,λi aQ aZ=>?_⟩ h1;have:=(ak 0 ay i (by simpa using aQ)).up (m:=m);simpa using this
  ·simp[h2,hlen,kD];omega
  ·intro j u hu;rw[Es] at hu;simp only[bB,nc] at hu;split at hu
   ·rename_i aA;have:=aa 0 ay j (by simpa using aA);simp[aA] at hu;subst hu;simpa using this
   ·rename_i aA;have:=h3 _ u hu;rw[<-this];congr 2;omega
end
section
variable {P:Program}{J:ad}{w:World}{m:Nat->Option Nat}{B:Nat}{f:Nat}
def ES(ak:Rel P J w m B){x:AV}{u:Value}{xs:List AV}{ab:Option Nat}(hx:R w m (bq J m) B x u)(h:readList J x=some xs)(aa:∀a∈xs,conf ab a=true):
  ∃base c us,u= .slice base xs.length c/\xs.length<=c/\bQ w m (bq J m) B (xs.flatMap AV.cells) us/\us.length=xs.length*shN ab/\(∀y∈xs.flatMap AV.cells,conf none y=true)∧
   (match base with|none=>xs=[]/\c=0|some a=>(xs≠[]->a.spot=none)/\(∀j v,us[j]? =some v->w.cell? (a.add j)=some v)/\(xs≠[]->a.block<w.heap.size)):=by
 unfold readList at h;split at h
 ·cases h;cases hx;exact⟨none,0,[],rfl,a8 _,bQ.nil,ay,λy hy=>by simp at hy,rfl,rfl⟩
 ·rename_i c9i iD c9j;cases h;cases hx with
  |mH=>exact⟨none,0,[],rfl,a8 _,bQ.nil,ay,λy hy=>by simp at hy,rfl,rfl⟩
  | @aV _ _ _ _ _ _ aG off gF sp ba cv al mh gQ hl hf fI=>
   by_cases he:xs=[]
   ·subst he;exact⟨some ⟨aG,off,sp⟩,gF,[],rfl,ay,bQ.nil,ay,λy hy=>by simp at hy,λh=>absurd I h,λj v h=>by simp at h,λh=>absurd I h⟩
   ·have:iD=ab:=by
     have h0:0<xs.length:=ph.2 he;exact Yg (al 0 h0) (aa _ (bC h0))
    subst this;obtain⟨us,h1,h2,h3⟩:=Yh ba al mh gQ;obtain rfl:=fI he;exact⟨some ⟨aG,off,none⟩,gF,us,rfl,hl,h1,h2,b0j hf,λ_=>rfl,λj v aq=>by rw[mf];exact h3 j v aq,λaY=>(cv aY).2.1⟩
 ·rename_i id off len iD cap;split at h<;>try (cases h;done)
  rename_i c hg;cases hx with
  | @ao _ _ _ _ _ _ aG n gF _ _ hm hl il hn ng=>
   obtain⟨arr,el,bh,hh,mh,vW,a_,lT⟩:=ak.cells hm hg;obtain⟨h1,h2,h3,aH⟩:=Cb (λx hx=>lT x (p7 hx)) h;have b0k:xs≠[]->iD=ab:=λhe=>by
    have h0:0<xs.length:=ph.2 he;exact Yg (aH _ (bC h0)) (aa _ (bC h0))
   have hmul:len*shN iD=len*shN ab:=by
    by_cases he:xs=[]
    ·subst he;simp at h1;subst h1;simp
    ·rw[b0k he]
   refine⟨some ⟨aG,off,none⟩,gF,((arr.toList.take c.length).drop off).take (len*shN ab),by rw[h1],U,?_,?_,?_,λ_=>rfl,?_,λ_=>B5 hh⟩
   ·rw[h2,hmul];exact(mh.drop off).take _
   ·simp at h3 ⊢;rw[h1];omega
   ·rw[h2];exact λy hy=>lT y (p7 (pe hy))
   ·intro j v aq;rw[mf,B6 hh];obtain⟨aA,iG⟩:=fH.1 aq;simp at aA;rw[<-iG];simp
 ·cases h
def b0l(l:List Nat):(l.map λc=>AV.i .u8 (Int.ofNat c)).flatMap AV.cells=l.map λc=>AV.i .u8 (Int.ofNat c):=by
 induction l with
 |nil=>rfl
 |cons a l aC=>rw[pf,lR,aC];rfl
def b0m(ak:Rel P J w m B){x:AV}{u:Value}{xs:List AV}{ab:Option Nat}{qg:TypeId}(aB:(∃d_,P.underlying qg=some (.slice d_))\/P.underlying qg=some .string)(hx:R w m (bq J m) B x u)
  (h:newOf J x=some xs) (aa:∀a∈xs,conf ab a=true):
  ∃us,bQ w m (bq J m) B (xs.flatMap AV.cells) us/\us.length=xs.length*shN ab/\(∀y∈xs.flatMap AV.cells,conf none y=true)/\Src P (shN ab) qg u xs.length us w:=by
 have one:∀ {us:List Value},bQ w m (bq J m) B (xs.flatMap AV.cells) us->(∀y∈xs.flatMap AV.cells,conf none y=true)->∀u∈us,u.oneCell'=true:=λ{us} h1 h2 u hu=>by
  obtain⟨i,hi,rfl⟩:=iP hu;have dh:i<(xs.flatMap AV.cells).length:=by rw[<-h1.1];exact hi
  exact(h1.2 i dh hi).XM (h2 _ (bC dh))
 unfold newOf at h;split at h
 ·rename_i l;cases h;obtain⟨rfl,hl⟩:=hx.qV;have Cc:(l.map λc=>AV.i .u8 (Int.ofNat c)).flatMap AV.cells=l.map λc=>AV.i .u8 (Int.ofNat c):=b0l l;have cz:l≠[]->shN ab=1:=λaY=>by
   cases l with
   |nil=>exact absurd I aY
   |cons a l=>
    have:=aa (.i .u8 (Int.ofNat a)) ay;cases ab with
    |none=>rfl
    |some n=>simp[conf] at this
  have J1:byteCells (strOf l)=l.map λc=>Value.int .u8 (Int.ofNat c):=by
   unfold byteCells;rw[XS,kq];apply pd;intro c je;have:c<256:=hl c je;simp;omega
  have Cd:bQ w m (bq J m) B ((l.map λc=>AV.i .u8 (Int.ofNat c)).flatMap AV.cells) (byteCells (strOf l)):=by
   rw[Cc,J1];exact⟨ay,λi h1 h2=>by simpa using R.i _ _⟩
  have Yi:∀y∈(l.map λc=>AV.i .u8 (Int.ofNat c)).flatMap AV.cells,conf none y=true:=by
   rw[Cc];intro y hy;obtain⟨c,_,rfl⟩:=cT.1 hy;rfl
  have hlen:(byteCells (strOf l)).length=(l.map λc=>AV.i .u8 (Int.ofNat c)).length*shN ab:=by
   rw[J1];by_cases he:l=[]
   ·subst he;simp
   ·rw[cz he];simp
  refine⟨byteCells (strOf l),Cd,hlen,Yi,⟨aB,λav=>?_,?_,?_,hlen,one Cd Yi⟩⟩
  ·simp[Builtin.lenOf,xy]
  ·have:(l.map λc=>AV.i .u8 (Int.ofNat c)).length=(strOf l).size:=by simp[xy]
   rw[this];have:=firstCells_string (P:=P) (strOf l) w;simpa [Builtin.firstCells] using this
  ·have:(l.map λc=>AV.i .u8 (Int.ofNat c)).length=(strOf l).size:=by simp[xy]
   rw[this];have:=firstCells_string (P:=P) (strOf l) w.drew;simpa [Builtin.firstCells] using this
 ·obtain⟨base,c,us,rfl,hle,h1,h2,h3,aH⟩:=ES ak hx h aa;refine⟨us,h1,h2,h3,⟨aB,λ_=>rfl,?_,?_,h2,one h1 h3⟩⟩
  ·cases base with
   |none=>obtain⟨rfl,_⟩:=aH;have:us=[]:=p9 (by simpa using h2);subst this;exact run_firstCells_none w _ _ _ _
   |some a=>exact run_firstCells_some w _ _ a _ _ us h2 aH.2.1
  ·cases base with
   |none=>obtain⟨rfl,_⟩:=aH;have:us=[]:=p9 (by simpa using h2);subst this;exact run_firstCells_none w.drew _ _ _ _
   |some a=>exact run_firstCells_some w.drew _ _ a _ _ us h2 (by simpa using aH.2.1)
def Qa(ak:Rel P J w m B)(f:Nat){t qg ty e:TypeId}{i:TypeInfo}{z:Value}{ab:Option Nat}(ht:P.underlying t=some (.slice e))(hi:P.info? e=some i)(cz:i.size=shN ab)(a_:i.zero=some z)(nn:z.cells.size=shN ab)
  (qY:i.bytes≠0) {base:Option Addr} {ku r8 n:Nat} {uA pv:List AV} {olds news:List Value} {x:Value} (ho:bQ w m (bq J m) B uA olds) (ow:olds.length=ku*shN ab) (b0n:∀y∈uA,conf none y=true)
  (lT:(Builtin.firstCells (shN ab) ku (.slice base ku r8)).run P w.drew= .ok olds.toArray w.drew)
  (hn:bQ w m (bq J m) B pv news) (tc:news.length=n*shN ab) (b0o:∀y∈pv,conf none y=true) (al:Src P (shN ab) qg x n news w) (hg:r8<ku+n)
  (hb:(3*(ku+n)+2000)*i.bytes<=281474976710656):
  ∃u av aP,(Builtin.append_ #[t,qg] ty #[.slice base ku r8,x]).run P w= .ok u av/\R av aP (bq (J.push (.cells (uA++pv))) aP) B (.ao J.next 0 (ku+n) ab none) u∧
   Rel P (J.push (.cells (uA++pv))) av aP B/\Ext f J w m (J.push (.cells (uA++pv))) av aP:=by
 have jX:1<=i.bytes:=Xh.2 qY;have lx:(3*(ku+n)+2000)*1<=(3*(ku+n)+2000)*i.bytes:=Xi _ jX;have uC:2*((ku+n)*i.bytes)<=(3*(ku+n)+2000)*i.bytes:=by
  rw[<-Nat.mul_assoc];exact sZ _ U
 have cd:=run_append_grow_src (P:=P) w t qg ty e i z ht hi a_ base ku r8 olds (by rw[cz];exact lT) x n news (by rw[cz];exact al) hg U (growslice_fits hg U);have np:=grownCap_ge w (ku+n) r8 e;have eD:=ho.1;have qh:=hn.1;have b0p:uA.length=ku*shN ab:=by omega
 have b0q:pv.length=n*shN ab:=by omega
 have xD:((olds++news).toArray++Builtin.zeroCells z.cells (grownCap w (ku+n) r8 e-(ku+n))).size=grownCap w (ku+n) r8 e*shN ab:=by
  simp only[Xj,List.size_toArray,size_zeroCells,nn,c5,ow,tc,← kD]
  congr 1;omega
 obtain⟨h1,h2⟩:=ak.alloc f (w.drew.alloc (.cells ((olds++news).toArray++Builtin.zeroCells z.cells (grownCap w (ku+n) r8 e-(ku+n))) e)) (.cells (uA++pv)) _ I I I I I
  (.cells (by rw[xD,c5,b0p,b0q,← kD];exact sZ _ np) (λj h h'=>by
   have aA:j<(olds++news).length:=by simp only[c5] at h ⊢;omega
   have:=(ho.append hn).2 j h aA;rw[Xk (by simpa using aA)];simpa using this) (λj _=>by simp) (λy hy=>(eX.1 hy).elim (b0n y) (b0o y)))
 refine⟨_,_,_,cd,.ao (iF _ _ _) np (λc aa=>by cases aa) (n:=grownCap w (ku+n) r8 e*shN ab) ?_ U,h1,h2⟩;have:(w.drew.alloc (.cells ((olds++news).toArray++Builtin.zeroCells z.cells (grownCap w (ku+n) r8 e-(ku+n))) e)).heap[w.heap.size]? =some (.cells ((olds++news).toArray++Builtin.zeroCells z.cells (grownCap w (ku+n) r8 e-(ku+n))) e):=by
  exact heap_alloc_new w.drew _
 unfold eF;rw[this];simp only[xD]
end
def pw{α:Type}{p:α->Bool}:∀ {l:List α},cN p l=true->∀x∈l,p x=true
 |[],_,x,hx=>by simp at hx
 |y::l,h,x,hx=>by
  have h':cond (p y) (cN p l) false=true:=h;cases hy:p y with
  |false=>rw[hy] at h';cases h'
  |true=>
   rw[hy] at h';rcases c2.1 hx with rfl|hx
   ·exact hy
   ·exact pw h' x hx
def b0r{b:Bool}(h:¬b=true):b=false:=by cases b<;>simp at h<;>rfl
section
variable {P:Program}{J:ad}{w:World}{m:Nat->Option Nat}{B:Nat}{f:Nat}
def b0s(ak:Rel P J w m B){t qg ty e:TypeId}{i:TypeInfo}{xE:Value}{ab:Option Nat}(ht:P.underlying t=some (.slice e))(hi:P.info? e=some i)(cz:i.size=shN ab)(a_:i.zero=some xE)(nn:xE.cells.size=shN ab)
  (qY:i.bytes≠0) (aB:(∃d_,P.underlying qg=some (.slice d_))\/P.underlying qg=some .string) {s x:AV} {us ET:Value} (al:R w m (bq J m) B s us) (hx:R w m (bq J m) B x ET)
  {v:AV} {ai:ad} (h:appendO f J ab i.bytes s x=some (v,ai)):
  ∃u av aP,(Builtin.append_ #[t,qg] ty #[us,ET]).run P w= .ok u av/\R av aP (bq ai aP) B v u/\Rel P ai av aP B/\Ext f J w m ai av aP:=by
 unfold appendO at h;split at h<;>try (cases h;done)
 rename_i old new hold nj;cases hb:(cN (conf ab) old&&cN (conf ab) new&&Nat.ble ((3*(old.length+new.length)+2000)*i.bytes) 281474976710656) with
 |false=>rw[hb] at h;cases h
 |true=>
  rw[hb,cond_true] at h;simp only[dD] at hb;obtain⟨⟨jX,lx⟩,uC⟩:=hb;have Qb:=g7 uC;obtain⟨news,jf,iH,qZ,Ce⟩:=b0m ak aB hx nj (pw lx);obtain⟨base,c,olds,rfl,eB,px,q0,Qc,Qd⟩:=ES ak al hold (pw jX);have lT:(Builtin.firstCells (shN ab) old.length (.slice base old.length c)).run P w.drew= .ok olds.toArray w.drew:=by
   cases base with
   |none=>obtain⟨rfl,_⟩:=Qd;have:olds=[]:=p9 (by simpa using q0);subst this;exact run_firstCells_none w.drew _ _ _ _
   |some a=>exact run_firstCells_some w.drew _ _ a _ _ olds q0 (by simpa using Qd.2.1)
  split at h
  ·-- nothing
   cases h;have tc:news=[]:=p9 (by simpa using iH);subst tc;exact⟨_,w,m,run_append_nothing (P:=P) w t qg ty e i ht hi base old.length c eB ET (by rw[cz];exact Ce),al,ak,Ext.refl _ _ _ _⟩
  ·rename_i Cf Yj;generalize Cg:Cf::Yj=new at *;have Qe:0<new.length:=by rw[<-Cg];simp
   clear Cg Cf Yj;split at h<;>try (cases h;done)
   ·-- a row of vO store
    rename_i id off len iD cap;split at h<;>try (cases h;done)
    rename_i jc;subst jc;have r9:=al;generalize mL:Value.slice base old.length c=us at al;cases al with
    | @ao _ _ _ _ _ _ aG ly gF _ _ hm hl il hn ng=>
    cases mL;have Yk:∀nd,J.get id=some (.cells nd)->live J id:=λnd hg=>⟨_,hg,rfl⟩
    obtain⟨nd,hg⟩:∃nd,J.get id=some (.cells nd):=by
     simp only[readList] at hold;split at hold
     ·exact⟨_,by assumption⟩
     ·cases hold
    obtain⟨arr,el,bh,hh,mh,vW,Qf,b0t⟩:=ak.cells hm hg;have xF:arr.size=ly:=by unfold eF at hn;rw[hh] at hn;simpa using hn
    have zz:old.flatMap AV.cells=(nd.drop off).take (old.length*shN iD)/\old.length*shN iD<=(nd.drop off).length:=by
     simp only[readList,hg] at hold;obtain⟨aQ,aZ,bX,_⟩:=Cb (λx hx=>b0t x (p7 hx)) hold;exact⟨aZ,bX⟩
    have room:old.length+new.length<=c->(Builtin.append_ #[t,qg] ty #[.slice (some ⟨aG,off,none⟩) old.length c,ET]).run P w= .ok (.slice (some ⟨aG,off,none⟩) (old.length+new.length) c) (w.setCells aG (off+old.length*shN iD) news):=λr_=>by
     have hmul:=sZ (shN iD) r_;rw[kD] at hmul;have:=run_append_room_src (P:=P) w t qg ty e i ht hi aG off old.length c ET new.length news (by rw[cz];exact Ce) r_
      (λj aA=>by rw[cz,B6 hh,uj U];rfl)
      (λj aA=>by rw[cz,PZ hh];exact Qf _ U)
     rw[cz] at this;exact this
    split at h
    ·rename_i dd;obtain rfl:=il dd I;cases r_:Nat.ble (old.length+new.length) c with
     |true=>
      rw[r_,cond_true] at h;have Qg:=g7 r_;split at h<;>try (cases h;done)
      rename_i du;simp only[hg] at h;split at h<;>cases h;rename_i dU cq;obtain⟨av,h2,h3,aH⟩:=P0 (f:=f) ak (by simpa [hC] using du) hm hg cq jf qZ;have h1:∀u∈news,u.oneCell'=true:=Ce.one;have hmul:=sZ (shN iD) Qg;rw[kD] at hmul;have cd:=run_storeCells_cells (P:=P) aG (off+old.length*shN iD) news 0 w
       (λj aA=>by rw[B6 hh,uj U];rfl)
       (λj aA=>by rw[PZ hh];exact Qf _ U) h1
      have hw:av=w.setCells aG (off+old.length*shN iD) news:=by
       rw[h2] at cd;simpa using cd
      refine⟨_,av,m,by rw[hw];exact room Qg,?_,h3,aH⟩;exact .ao (aH.mono _ _ hm) Qg (λc aa=>by cases aa;rfl) (aH.bV _ _ hn) ng
     |false=>
      rw[r_,cond_false] at h;cases h;have qi:c<old.length+new.length:=by
       rcases p6 c (old.length+new.length) with h|h
       ·exact h
       ·rw[kE h] at r_;cases r_
      exact Qa ak f ht hi cz a_ nn qY px q0 Qc lT jf iH qZ Ce qi Qb
    ·split at h<;>try (cases h;done)
     rename_i du;have q1:f<=id:=by simpa [hC] using du
     split at h<;>cases h;rename_i P8;obtain rfl:=gE P8;by_cases r_:old.length+new.length<=c
     ·have hmul:=sZ (shN iD) r_;rw[kD] at hmul;obtain⟨ik,kJ,qd,vX⟩:=PV news w aG (0+old.length*shN iD);have zt:=PU news w aG (0+old.length*shN iD) arr el bh hh;have r5:(old.flatMap AV.cells).length=old.length*shN iD:=by have:=px.1;omega
      have k8:(new.flatMap AV.cells).length=new.length*shN iD:=by have:=jf.1;omega
      have c0:=ak.move q1 hm (Yk _ hg) (w.setCells aG (0+old.length*shN iD) news) (.cells (old.flatMap AV.cells++new.flatMap AV.cells)) I ik (λb hb=>heap_setCells_other news w aG _ b hb) (f:=f)
       (λn hn=>by unfold eF at hn ⊢;rw[hh] at hn;rw[zt];simpa [zp] using hn) kJ qd vX ⟨_,zt,?_⟩
      ·obtain⟨h3,aH⟩:=c0;exact⟨_,_,_,room r_,.ao (iF _ _ _) r_ (λc aa=>by cases aa) (aH.bV _ _ hn) ng,h3,aH⟩
      ·refine .cells (by rw[zp,c5,r5,k8];omega) (λj h h'=>?_) (by rw[zp];exact Qf) (λy hy=>(eX.1 hy).elim (Qc y) (qZ y));rw[c5] at h;have zA:=JS news arr (0+old.length*shN iD) j U;rw[uj h'] at zA;by_cases aA:j<(old.flatMap AV.cells).length
       ·rw[iC aA];rw[if_neg U] at zA;have qj:=px.2 j aA (by rw[px.1];exact aA);have Qh:arr[j]? =some (olds[j]'(by rw[px.1];exact aA)):=by
         have:=Qd.2.1 j _ (cp (by rw[px.1];exact aA));rw[mf,B6 hh] at this;simpa using this
        rw[Qh] at zA;rw[kr zA];exact qj
       ·rw[BU U];rw[if_pos U] at zA;have iI:j-(0+old.length*shN iD)=j-(old.flatMap AV.cells).length:=by omega
        rw[iI,cp U] at zA;rw[kr zA];exact jf.2 _ U _
     ·have b0u:=ak.di (f:=f) q1 hm (Yk _ hg) w .dead I (λ_ _=>rfl) (λ_ h=>h) I I I (λh=>by cases h);obtain⟨k9,hY⟩:=b0u;have uD:J.next=(J.set id .dead).next:=rfl;have b0v:=Qa (ty:=ty) k9 f ht hi cz a_ nn qY (px.ext hY ak) q0 Qc lT (jf.ext hY ak) iH qZ Ce U Qb;obtain⟨u,av,aP,bx,bz,bY,cf⟩:=b0v;exact⟨u,av,aP,bx,bz,bY,hY.trans ak cf⟩
   ·cases h;have b0w:old=[]:=by simp only[readList] at hold;cases hold;rfl
    subst b0w;cases al;have h0:olds=[]:=p9 (by simpa using q0);subst h0;have:=Qa (ty:=ty) ak f ht hi cz a_ nn qY (uA:=[]) (olds:=[]) (ku:=0) (r8:=0) bQ.nil ay (λy hy=>by simp at hy) lT jf iH qZ Ce U (by simpa using Qb);simpa using this
def J2{b:Nat}{o:Obj}(h:w.heap[b]? =some o)(aa:∀c e z,o≠ .cells c e z):(getObj b).run P w= .ok o w:=by
 simp only[getObj,Sem.run,h]
def Yl{b:Nat}{o:Obj}(bF:Obj)(h:w.heap[b]? =some o)(aa:∀c e z,o≠ .cells c e z):(setObj b bF).run P w= .ok () {w with heap:=w.heap.setIfInBounds b bF}:=by
 simp only[setObj,Sem.run,h]
def b0x{t ty n e:TypeId}(ht:P.underlying t=some (.array n e))(u:Value):(Builtin.len_ #[t] ty #[u]).run P w= .ok (.int .i64 (Int.ofNat n)) w:=by
 simp[Builtin.len_,run_underlying ht,goInt]
def Qi(ak:Rel P J w m B){t ty:TypeId}{k:Nat}(ht:(k=1/\∃e,P.underlying t=some (.slice e))\/(k=0/\P.underlying t=some .string)\/(k=2/\∃a e,P.underlying t=some (.map a e))){x:AV}{n:Nat}{u:Value}(hx:R w m (bq J m) B x u)
  (h:lenA J k x=some n):(Builtin.len_ #[t] ty #[u]).run P w= .ok (.int .i64 (Int.ofNat n)) w:=by
 unfold lenA at h;split at h
 ·cases h;obtain⟨rfl,_⟩:=hx.qV;rcases ht with⟨h,_⟩|⟨_,ht⟩|⟨h,_⟩<;>first|(cases h;done)|skip
  simp[Builtin.len_,run_underlying ht,goInt,xy]
 ·cases h;cases hx;rcases ht with⟨_,e,ht⟩|⟨h,_⟩|⟨h,_⟩<;>first|(cases h;done)|skip
  simp[Builtin.len_,run_underlying ht,goInt]
 ·cases h;cases hx;rcases ht with⟨_,e,ht⟩|⟨h,_⟩|⟨h,_⟩<;>first|(cases h;done)|skip
  simp[Builtin.len_,run_underlying ht,goInt]
 ·cases h;rcases ht with⟨_,e,ht⟩|⟨h,_⟩|⟨h,_⟩<;>first|(cases h;done)|skip
  cases hx<;>simp[Builtin.len_,run_underlying ht,goInt]
 ·cases h;cases hx;rcases ht with⟨h,_⟩|⟨h,_⟩|⟨_,a,e,ht⟩<;>first|(cases h;done)|skip
  simp[Builtin.len_,run_underlying ht,goInt]
 ·split at h<;>cases h;rename_i es bm hg;obtain⟨aG,hm,rfl⟩:=hx.JW;obtain⟨bF,h1,h2⟩:=ak.obj _ _ _ hm hg I;rcases ht with⟨h,_⟩|⟨h,_⟩|⟨_,a,e,ht⟩<;>first|(cases h;done)|skip
  cases h2 with
  |map hl _=>simp[Builtin.len_,run_underlying ht,goInt,J2 h1 (λ_ _ _ h=>by cases h),hl]
 ·cases h
def Ym{k:Nat}{x:AV}{r:bO}(h:lenU J k x=some r):k=0/\∃ex,x= .iQ ex/\r= .kG [(.jr true,J),(.jr false,J)]:=by
 unfold lenU at h;split at h<;>cases h;exact⟨rfl,_,rfl,rfl⟩
def EU{k:Nat}{x:AV}{r:bO}(h:lenU J k x=some r):r= .kG [(.jr true,J),(.jr false,J)]:=by
 obtain⟨_,_,_,h⟩:=Ym h;exact h
def b0y{t ty e:TypeId}(ht:P.underlying t=some (.slice e)){x:AV}{n:Nat}{u:Value}{O:Nat->Prop}(hx:R w m O B x u)
  (h:capA x=some n):(Builtin.cap_ #[t] ty #[u]).run P w= .ok (.int .i64 (Int.ofNat n)) w:=by
 unfold capA at h;split at h<;>cases h
 ·cases hx;simp[Builtin.cap_,run_underlying ht,goInt]
 ·cases hx with
  |ao h hl aa hn ng=>
   obtain rfl:=aa _ I;simp[Builtin.cap_,run_underlying ht,goInt]
def Yn{k:IntKind}{a b:Int}{u cn:Value}{O:Nat->Prop}(hx:R w m O B (.i k a) u)(hy:R w m O B (.i k b) cn)(t:TypeId)(mi:Array TypeId):
  (Builtin.min_ mi t #[u,cn]).run P w= .ok (.int k (if b<a then b else a)) w/\(Builtin.max_ mi t #[u,cn]).run P w= .ok (.int k (if b > a then b else a)) w:=by
 obtain rfl:=hx.nm;obtain rfl:=hy.nm;constructor
 ·simp[Builtin.min_,Builtin.min2]
 ·simp[Builtin.max_,Builtin.max2]
end
section
variable {P:Program}{w:World}{m:Nat->Option Nat}{O:Nat->Prop}{B:Nat}
def Yo(k:Nat)(d:TypeDesc):Prop:=(k=0/\∃j,d= .int j)\/(k=1/\d= .string)\/(k=2/\d= .bool)
def Qj{t:TypeId}{k:Nat}(h:leafKind P t=some k):∃d,P.underlying t=some d/\Yo k d:=by
 unfold leafKind at h;split at h<;>cases h
 ·exact⟨_,by assumption,.inl ⟨rfl,_,rfl⟩⟩
 ·exact⟨_,by assumption,.inr (.inl ⟨rfl,rfl⟩)⟩
 ·exact⟨_,by assumption,.inr (.inr ⟨rfl,rfl⟩)⟩
def b0z{x y:List Nat}(hx:∀c∈x,c<256)(hy:∀c∈y,c<256):(strOf x==strOf y)=eqL x y:=by
 rw[uk,Xf,qe];constructor
 ·intro h;have:=congrArg ByteArray.toList h;rw[B7,B7] at this;exact P2 x y hx hy this
 ·rintro rfl;rfl
def zB{t:TypeId}{k:Nat}(aB:leafKind P t=some k){x y:AV}{u v:Value}{r:Bool}(hx:R w m O B x u)(hy:R w m O B y v)(h:leafEq k x y=some r):
  (∀d av,(Op.equalIn (d+1) t u v).run P av= .ok r av)/\(∃d,P.underlying t=some d/\Yo k d/\Instr.sameNow d u v=some r)/\(r=true->∀n,Instr.sameBits n u v=true)/\(∀e d av,(Instr.checkKey e (d+1) t u).run P av= .ok () av):=by
 obtain⟨d,hd,uE⟩:=Qj aB;unfold leafEq at h;split at h
 ·rename_i bl a bj b;split at h<;>cases h;rename_i td;subst td;obtain rfl:=hx.nm;obtain rfl:=hy.nm;rcases uE with⟨_,j,rfl⟩|⟨h,_⟩|⟨h,_⟩<;>first|(cases h;done)|skip
  have jt:(a==b)=decide (a=b):=by rw[uk];simp
  refine⟨λd av=>?_,⟨_,hd,.inl ⟨rfl,j,rfl⟩,?_⟩,λak n=>?_,λe d av=>?_⟩
  ·simp[Op.equalIn,run_underlying hd,jt]
  ·simp[Instr.sameNow,jt]
  ·simp at ak;subst ak;simp[Instr.sameBits]
  ·simp[Instr.checkKey,run_underlying hd]
 ·rename_i a b;cases h;obtain⟨rfl,h1⟩:=hx.qV;obtain⟨rfl,h2⟩:=hy.qV;rcases uE with⟨h,_⟩|⟨_,rfl⟩|⟨h,_⟩<;>first|(cases h;done)|skip
  have jt:=b0z h1 h2;refine⟨λd av=>?_,⟨_,hd,.inr (.inl ⟨rfl,rfl⟩),?_⟩,λak n=>?_,λe d av=>?_⟩
  ·simp[Op.equalIn,run_underlying hd,jt]
  ·simp[Instr.sameNow,jt]
  ·simp[Instr.sameBits,jt,ak]
  ·simp[Instr.checkKey,run_underlying hd]
 ·rename_i a b;cases h;obtain rfl:=hx.xz;obtain rfl:=hy.xz;rcases uE with⟨h,_⟩|⟨h,_⟩|⟨_,rfl⟩<;>first|(cases h;done)|skip
  refine⟨λd av=>?_,⟨_,hd,.inr (.inr ⟨rfl,rfl⟩),?_⟩,λak n=>?_,λe d av=>?_⟩
  ·simp[Op.equalIn,run_underlying hd]
  ·simp[Instr.sameNow]
  ·simp[Instr.sameBits];simpa using ak
  ·simp[Instr.checkKey,run_underlying hd]
 ·rename_i ex b;cases hm:r0 b ex with
  |false=>rw[hm] at h;cases h
  |true=>
   rw[hm] at h;cases h;obtain⟨s,rfl,aY⟩:=JX hx hm;obtain⟨rfl,h2⟩:=hy.qV;rcases uE with⟨h,_⟩|⟨_,rfl⟩|⟨h,_⟩<;>first|(cases h;done)|skip
   have jt:=XY aY;refine⟨λd av=>?_,⟨_,hd,.inr (.inl ⟨rfl,rfl⟩),?_⟩,λak n=>?_,λe d av=>?_⟩
   ·simp[Op.equalIn,run_underlying hd,jt]
   ·simp[Instr.sameNow,jt]
   ·cases ak
   ·simp[Instr.checkKey,run_underlying hd]
 ·rename_i a ex;cases hm:r0 a ex with
  |false=>rw[hm] at h;cases h
  |true=>
   rw[hm] at h;cases h;obtain⟨s,rfl,aY⟩:=JX hy hm;obtain⟨rfl,h2⟩:=hx.qV;rcases uE with⟨h,_⟩|⟨_,rfl⟩|⟨h,_⟩<;>first|(cases h;done)|skip
   have jt:=XY (oj aY);refine⟨λd av=>?_,⟨_,hd,.inr (.inl ⟨rfl,rfl⟩),?_⟩,λak n=>?_,λe d av=>?_⟩
   ·simp[Op.equalIn,run_underlying hd,jt]
   ·simp[Instr.sameNow,jt]
   ·cases ak
   ·simp[Instr.checkKey,run_underlying hd]
 ·cases h
def leafEqs_nil(l r:List AV):nL [] l r=match l,r with|[],[]=>some true|_,_=>none:=rfl
def leafEqs_cons(k:Nat)(aR:List Nat)(l r:List AV):nL (k::aR) l r=match l,r with
   |x::xs,y::ba=>match leafEq k x y,nL aR xs ba with|some a,some b=>some (a&&b)|_,_=>none
   |_,_=>none:=rfl
def Qk(P:Program)(i:Nat)(a6:List Field):Prop:=∀j (h:j<a6.length),(a6[j]).name≠ "_" ∧(a6[j]).offset=i+j/\shapeOf P (a6[j]).type=some none
def EV{t:TypeId}(al:shapeOf P t=some none){arr:Array Value}{i:Nat}{u:Value}(hu:arr[i]? =some u)(w:World):(part t arr i).run P w= .ok u w:=by
 obtain⟨h1,_⟩:=me al w;simp[part,h1,hu]
def forIn_eq{d:Nat}:∀(a6:List Field) (i:Nat) (aR:List Nat) (l r:List AV) (us bp:Array Value) (res:Bool),Qk P i a6->mapOL (λf=>leafKind P f.type) a6=some aR→
  bQ w m O B l (us.toList.drop i)->bQ w m O B r (bp.toList.drop i)->nL aR l r=some res->∀av,
  (forIn a6 ((none:Option Bool),()) (λ(f:Field) (_:Option Bool×Unit)=>
      if f.name= "_" then(pure (ForInStep.yield (none,())):Sem (ForInStep (Option Bool×Unit)))
      else do
       let a <-part f.type us f.offset
       let b <-part f.type bp f.offset
       let c <-Op.equalIn (d+1) f.type a b
       if c=false then pure (ForInStep.done (some false,())) else pure (ForInStep.yield (none,())))).run P av= .ok (if res then(none,()) else(some false,())) av
 |[],i,aR,l,r,us,bp,res,_,aB,hl,ak,h,av=>by
  simp[mapOL] at aB;subst aB;rw[leafEqs_nil] at h;split at h<;>cases h;simp
 |f::a6,i,aR,l,r,us,bp,res,hf,aB,hl,ak,h,av=>by
  rw[mapOL] at aB;split at aB<;>cases aB;rename_i k v5 fC ps;rw[leafEqs_cons] at h;split at h<;>try (cases h;done)
  rename_i x xs y ba;split at h<;>cases h;rename_i a b ha hb;obtain⟨h1,h2,h3⟩:=hf 0 ay;simp only[Ev,uh] at h1 h2 h3;obtain⟨u,hu,kK⟩:=hl.get (i:=0) (v:=x) I;obtain⟨v,aq,q2⟩:=ak.get (i:=0) (v:=y) I;rw[ui,uh,nJ] at hu aq;obtain⟨aM,_⟩:=zB fC kK q2 ha;have p1:=EV h3 hu;have kL:=EV h3 aq;have uw:bQ w m O B xs (us.toList.drop (i+1)):=by
   have:=hl.drop 1;simpa [pj] using this
  have q3:bQ w m O B ba (bp.toList.drop (i+1)):=by
   have:=ak.drop 1;simpa [pj] using this
  have aC:=forIn_eq a6 (i+1) v5 xs ba us bp b (λj aA=>by
   have:=hf (j+1) (by simpa using aA);simp only[JB] at this;exact⟨this.1,by rw[this.2.1];omega,this.2.2⟩) ps uw q3 hb av (d:=d)
  rw[JC];simp only[h1,if_false,e3,h2,p1,kL,e8,aM];cases a with
  |false=>simp
  |true=>simpa using aC
def Yp{e:Bool}{d:Nat}:∀(a6:List Field) (i:Nat) (aR:List Nat) (l:List AV) (us:Array Value) (res:Bool),Qk P i a6->mapOL (λf=>leafKind P f.type) a6=some aR→
  bQ w m O B l (us.toList.drop i)->nL aR l l=some res->∀av,
  (forIn a6 PUnit.unit (λ(f:Field) (_:PUnit)=>
      if f.name≠ "_" then(do
       let a <-part f.type us f.offset
       Instr.checkKey e (d+1) f.type a
       pure (ForInStep.yield PUnit.unit):Sem (ForInStep PUnit))
      else pure (ForInStep.yield PUnit.unit))).run P av= .ok PUnit.unit av
 |[],i,aR,l,us,res,_,aB,hl,h,av=>by simp
 |f::a6,i,aR,l,us,res,hf,aB,hl,h,av=>by
  rw[mapOL] at aB;split at aB<;>cases aB;rename_i k v5 fC ps;rw[leafEqs_cons] at h;cases l with
  |nil=>cases h
  |cons x xs=>
  simp only at h;split at h<;>cases h;rename_i a b ha hb;obtain⟨h1,h2,h3⟩:=hf 0 ay;simp only[Ev,uh] at h1 h2 h3;obtain⟨u,hu,kK⟩:=hl.get (i:=0) (v:=x) I;rw[ui,uh,nJ] at hu;obtain⟨_,_,_,aM⟩:=zB fC kK kK ha;have p1:=EV h3 hu;have uw:bQ w m O B xs (us.toList.drop (i+1)):=by
   have:=hl.drop 1;simpa [pj] using this
  have aC:=Yp (e:=e) (d:=d) a6 (i+1) v5 xs us b (λj aA=>by
   have:=hf (j+1) (by simpa using aA);simp only[JB] at this;exact⟨this.1,by rw[this.2.1];omega,this.2.2⟩) ps uw hb av
  rw[JC];simp only[h1,ne_eq,not_false_eq_true,if_true,e3,h2,p1,e8,aM,jq];exact aC
def Yq:∀ {aR:List Nat} {a6:List Field} {l r:List AV} {us bp:List Value},mapOL (λf=>leafKind P f.type) a6=some aR->bQ w m O B l us->bQ w m O B r bp->nL aR l r=some true->∀n,
  us.length=bp.length/\(us.zip bp).all (λ(x,y)=>Instr.sameBits n x y)=true
 |[],a6,l,r,us,bp,aB,hl,ak,h,n=>by
  rw[leafEqs_nil] at h;split at h<;>cases h;have h1:=hl.1;have h2:=ak.1;simp at h1 h2;subst h1;subst h2;simp
 |k::aR,[],l,r,us,bp,aB,hl,ak,h,n=>by simp[mapOL] at aB
 |k::aR,f::a6,l,r,us,bp,aB,hl,ak,h,n=>by
  rw[mapOL] at aB;split at aB<;>cases aB;rename_i fC ps;rw[leafEqs_cons] at h;split at h<;>try (cases h;done)
  rename_i x xs y ba;split at h<;>try (cases h;done)
  rename_i a b ha hb;simp only[cJ,dD] at h;obtain⟨rfl,rfl⟩:=h;obtain⟨u,J3,rfl⟩:∃u J3,us=u::J3:=by cases us with|nil=>have:=hl.1;simp at this|cons u J3=>exact⟨u,J3,rfl⟩
  obtain⟨v,ux,rfl⟩:∃v ux,bp=v::ux:=by cases bp with|nil=>have:=ak.1;simp at this|cons v ux=>exact⟨v,ux,rfl⟩
  have hu:R w m O B x u:=hl.2 0 ay ay;have aq:R w m O B y v:=ak.2 0 ay ay;obtain⟨_,_,jX,_⟩:=zB fC hu aq ha;obtain⟨i1,i2⟩:=Yq ps (by simpa using hl.drop 1) (by simpa using ak.drop 1) hb n;exact⟨by simpa using i1,by simp only[Xl,List.all_cons,jX I n,i2,PB]⟩
def J4{t:TypeId}{aR:List Nat}(h:keyOk P t=some (.inr aR)):∃a6,P.underlying t=some (.struct a6)/\P.stoodInHeld t=false/\Qk P 0 a6.toList/\mapOL (λf=>leafKind P f.type) a6.toList=some aR:=by
 unfold keyOk at h;split at h
 ·cases h
 ·split at h<;>try (cases h;done)
  rename_i a6 hu;split at h<;>try (cases h;done)
  rename_i aa;simp only[dD,xt,pk] at aa;cases hm:mapOL (λf=>leafKind P f.type) a6.toList with
  |none=>simp[hm] at h
  |some v5=>
   simp[hm] at h;subst h;refine⟨a6,hu,aa.1,λj aA=>?_,hm⟩;have:=aa.2 (a6.toList[j],j) (by rw[List.mem_iff_getElem];exact⟨j,by simpa using aA,ay⟩);simp only[dD,decide_eq_true_eq] at this;exact⟨this.1.1,by rw[this.1.2];omega,this.2⟩
def J5{t:TypeId}{k:Nat}(h:keyOk P t=some (.inl k)):leafKind P t=some k:=by
 unfold keyOk at h;split at h
 ·cases h;assumption
 ·split at h<;>try (cases h;done)
  split at h
  ·rename_i a6 _ _;cases hm:mapOL (λf=>leafKind P f.type) a6.toList with
   |none=>simp[hm] at h
   |some v5=>simp[hm] at h
  ·cases h
def eqStruct_run{t:TypeId}{a6:Array Field}(hu:P.underlying t=some (.struct a6))(al:P.stoodInHeld t=false)(D:Nat)(us bp:Array Value)(av:World):
  (Op.equalIn (D+1) t (.agg us) (.agg bp)).run P av=((forIn a6.toList ((none:Option Bool),()) (λ(f:Field) (_:Option Bool×Unit)=>
      if f.name= "_" then(pure (ForInStep.yield (none,())):Sem (ForInStep (Option Bool×Unit)))
      else do
       let a <-part f.type us f.offset
       let b <-part f.type bp f.offset
       let c <-Op.equalIn D f.type a b
       if c=false then pure (ForInStep.done (some false,())) else pure (ForInStep.yield (none,())))).run P av).andThen (λa av=>Sem.run P (match a.fst with|some r=>pure r|none=>pure true) av):=by
 simp only[Op.equalIn,e3,run_underlying hu,e8];simp[al]
 congr 1
 funext a b4
 obtain⟨a,_⟩:=a;cases a<;>rfl
def b0A{t:TypeId}{a6:Array Field}(hu:P.underlying t=some (.struct a6))(e:Bool)(D:Nat)(us:Array Value)(av:World):
  (Instr.checkKey e (D+1) t (.agg us)).run P av=((forIn a6.toList PUnit.unit (λ(f:Field) (_:PUnit)=>
      if f.name≠ "_" then(do
       let a <-part f.type us f.offset
       Instr.checkKey e D f.type a
       pure (ForInStep.yield PUnit.unit):Sem (ForInStep PUnit))
      else pure (ForInStep.yield PUnit.unit))).run P av).andThen λ_ av=>Sem.run P (pure ()) av:=by
 simp only[Instr.checkKey,e3,run_underlying hu,e8];rw[<-Array.forIn_toList]
def J6{t:TypeId}{ab:kc}(aB:keyOk P t=some ab){x y:AV}{u v:Value}{r:Bool}(hx:R w m O B x u)(hy:R w m O B y v)(h:keyEq ab x y=some r):
  (∀av,(Op.equal t u v).run P av= .ok r av)/\(r=true->Instr.sameBits 10000 u v=true):=by
 cases ab with
 |inl k=>
  obtain⟨h1,_,h2,_⟩:=zB (J5 aB) hx hy h;exact⟨λav=>h1 9999 av,λak=>h2 ak _⟩
 |inr aR=>
  obtain⟨a6,hu,al,hf,hm⟩:=J4 aB;simp only[keyEq] at h;split at h<;>try (cases h;done)
  obtain⟨us,rfl,hl,_⟩:=hx.r6;obtain⟨bp,rfl,ak,_⟩:=hy.r6;refine⟨λav=>?_,λYr=>?_⟩
  ·have key:∀d,(Op.equalIn (d+2) t (.agg us) (.agg bp)).run P av= .ok r av:=λd=>by
    have:=forIn_eq (av:=av) (d:=d) a6.toList 0 aR _ _ us bp r hf hm (by simpa using hl) (by simpa using ak) h;rw[eqStruct_run hu al (d+1),this];cases r<;>simp
   exact key 9998
  ·subst Yr;obtain⟨h1,h2⟩:=Yq (P:=P) hm hl ak h 9999;have key:∀n,Instr.sameBits (n+1) (.agg us) (.agg bp)=(us.size==bp.size&&(us.toList.zip bp.toList).all λ(x,y)=>Instr.sameBits n x y):=λn=>rfl;rw[show(10000:Nat)=9999+1 from rfl,key,h2];simpa using h1
def Ys{t:TypeId}{ab:kc}(aB:keyOk P t=some ab){x:AV}{u:Value}{r:Bool}(hx:R w m O B x u)(h:keyEq ab x x=some r)(e:Bool)(av:World):(Instr.checkKey e 10000 t u).run P av= .ok () av:=by
 cases ab with
 |inl k=>
  obtain⟨_,_,_,h1⟩:=zB (J5 aB) hx hx h;exact h1 e 9999 av
 |inr aR=>
  obtain⟨a6,hu,al,hf,hm⟩:=J4 aB;simp only[keyEq] at h;cases x<;>simp only[reduceCtorEq] at h;obtain⟨us,rfl,hl,_⟩:=hx.r6;have key:∀d,(Instr.checkKey e (d+2) t (.agg us)).run P av= .ok () av:=λd=>by
   have:=Yp (av:=av) (e:=e) (d:=d) a6.toList 0 aR _ us r hf hm (by simpa using hl) h;rw[b0A hu e (d+1),this];rfl
  exact key 9998
def Yt{t:TypeId}{ab:kc}(aB:keyOk P t=some ab){x:AV}{u:Value}(hx:R w m O B x u)(h:keySelf ab x=true)(e:Bool)(av:World):(Instr.checkKey e 10000 t u).run P av= .ok () av:=by
 unfold keySelf at h;split at h
 ·rename_i ex;obtain⟨d,hd,uE⟩:=Qj (J5 aB);rcases uE with⟨h,_⟩|⟨_,rfl⟩|⟨h,_⟩<;>first|(cases h;done)|skip
  cases hx with
  | @iQ _ _ _ _ s _=>
   have key:∀d,(Instr.checkKey e (d+1) t (.string s)).run P av= .ok () av:=λd=>by simp[Instr.checkKey,run_underlying hd]
   exact key 9999
 ·split at h
  ·rename_i ak;exact Ys aB hx ak e av
  ·cases h
end
def Yu{α β:Type}{r:α->β->Prop}:∀ {l:List α} {bD:List β},bD.length=l.length->(∀i (h:i<l.length) (h':i<bD.length),r (l[i]) (bD[i]))->jW r l bD
 |[],[],_,_=>trivial
 |[],_::_,h,_=>by simp at h
 |_::_,[],h,_=>by simp at h
 |x::xs,y::ba,h,ak=>⟨ak 0 ay ay,Yu (by simpa using h) (λi a b=>ak (i+1) (by simpa using a) (by simpa using b))⟩
def zC{α β:Type}{r:α->β->Prop}:∀ {l:List α} {bD:List β},jW r l bD->bD.length=l.length
 |[],[],_=>rfl
 |[],_::_,h=>h.elim
 |_::_,[],h=>h.elim
 |_::_,_::_,h=>by simp[zC h.2]
def zD{α β:Type}{r:α->β->Prop}:∀ {l:List α} {bD:List β},jW r l bD->∀i (h:i<l.length) (h':i<bD.length),r (l[i]) (bD[i])
 |[],[],_,i,h,_=>by simp at h
 |[],_::_,h,_,_,_=>h.elim
 |_::_,[],h,_,_,_=>h.elim
 |_::_,_::_,h,i,h1,h2=>by
  cases i with
  |zero=>exact h.1
  |succ i=>exact zD h.2 i (by simpa using h1) (by simpa using h2)
abbrev lz:=AV×AV×Nat
def sa(ab:kc)(k:AV):List lz->Option Nat->Prop
 |[],none=>True
 |[],some _=>False
 |e::_,some 0=>keyEq ab k e.1=some true
 |e::es,some (i+1)=>keyEq ab k e.1=some false/\sa ab k es (some i)
 |e::es,none=>keyEq ab k e.1=some false/\sa ab k es none
def b0B(ab:kc)(k:AV):mc ab k []=some none:=rfl
def findE_cons(ab:kc)(k:AV)(e:lz)(es:List lz):mc ab k (e::es)=match keyEq ab k e.1 with|none=>none|some true=>some (some e.2.1)|some false=>mc ab k es:=rfl
def b0C(ab:kc)(k v:AV):mF ab k v []=some none:=rfl
def updE_cons(ab:kc)(k v:AV)(e:lz)(es:List lz):mF ab k v (e::es)=match keyEq ab k e.1 with
  |none=>none
  |some true=>some (some ((k,v,e.2.2)::es))
  |some false=>match mF ab k v es with|none=>none|some none=>some none|some (some es)=>some (some (e::es)):=rfl
def Ql{ab:kc}{k:AV}:∀ {es:List lz} {r:Option AV},mc ab k es=some r->(r=none/\sa ab k es none)\/∃i e,sa ab k es (some i)/\es[i]? =some e/\r=some e.2.1
 |[],r,h=>by rw[b0B] at h;cases h;exact .inl ⟨rfl,trivial⟩
 |e::es,r,h=>by
  rw[findE_cons] at h;split at h
  ·cases h
  ·rename_i aB;cases h;exact .inr ⟨0,e,aB,rfl,rfl⟩
  ·rename_i aB;rcases Ql h with⟨h1,h2⟩|⟨i,d_,h1,h2,h3⟩
   ·exact .inl ⟨h1,aB,h2⟩
   ·exact .inr ⟨i+1,d_,⟨aB,h1⟩,by simpa using h2,h3⟩
def Qm{ab:kc}{k v:AV}:∀ {es:List lz} {r:Option (List lz)},mF ab k v es=some r->(r=none/\sa ab k es none)\/∃i e,sa ab k es (some i)/\es[i]? =some e/\r=some (es.set i (k,v,e.2.2))
 |[],r,h=>by rw[b0C] at h;cases h;exact .inl ⟨rfl,trivial⟩
 |e::es,r,h=>by
  rw[updE_cons] at h;split at h
  ·cases h
  ·rename_i aB;cases h;exact .inr ⟨0,e,aB,rfl,rfl⟩
  ·rename_i aB;split at h<;>cases h
   ·rename_i hu;rcases Qm hu with⟨h1,h2⟩|⟨i,d_,h1,h2,h3⟩
    ·exact .inl ⟨rfl,aB,h2⟩
    ·cases h3
   ·rename_i lW hu;rcases Qm hu with⟨h1,h2⟩|⟨i,d_,h1,h2,h3⟩
    ·cases h1
    ·cases h3;exact .inr ⟨i+1,d_,⟨aB,h1⟩,by simpa using h2,rfl⟩
def Yv{k:Nat}{x y:AV}(h:leafEq k x y=some true):leafEq k y x=some true:=by
 unfold leafEq at h;split at h
 ·split at h<;>simp at h;rename_i e;subst e;subst h;simp[leafEq]
 ·simp only[cJ,qe] at h;subst h;simp[leafEq,(qe _ _).2 I]
 ·simp at h;subst h;simp[leafEq]
 ·rename_i ex b;cases hm:r0 b ex<;>rw[hm] at h<;>cases h
 ·rename_i a ex;cases hm:r0 a ex<;>rw[hm] at h<;>cases h
 ·cases h
def Yw:∀ {aR:List Nat} {x y:List AV},nL aR x y=some true->nL aR y x=some true
 |[],x,y,h=>by
  rw[leafEqs_nil] at h ⊢;split at h<;>cases h;rfl
 |k::aR,x,y,h=>by
  rw[leafEqs_cons] at h ⊢;split at h<;>try (cases h;done)
  split at h<;>try (cases h;done)
  rename_i ha hb;simp only[cJ,dD] at h;obtain⟨rfl,rfl⟩:=h;simp only[Yv ha,Yw hb,PB]
def b0D{ab:kc}{x y:AV}(h:keyEq ab x y=some true):keyEq ab y x=some true:=by
 cases ab with
 |inl k=>exact Yv h
 |inr aR=>
  simp only[keyEq] at h ⊢;split at h<;>try (cases h;done)
  exact Yw h
section
variable {P:Program}{w:World}{m:Nat->Option Nat}{O:Nat->Prop}{B:Nat}
def v7(w:World)(m:Nat->Option Nat)(O:Nat->Prop)(B:Nat)(e:lz)(d_:MapEntry):Prop:=R w m O B e.1 d_.key/\R w m O B e.2.1 d_.val/\d_.born=e.2.2
def got(q:Option Nat)(n:Nat)(dQ:List MapEntry):Option (Nat×Value):=match q with|none=>none|some i=>match dQ[i]? with|some e=>some (i+n,e.val)|none=>none
def Qn{t:TypeId}{ab:kc}(aB:keyOk P t=some ab){k:AV}{u:Value}(hu:R w m O B k u):∀ {es:List lz} {dQ:List MapEntry} {q:Option Nat} (n:Nat),jW (v7 w m O B) es dQ->sa ab k es q->∀av,
  (Instr.findAsking t u dQ n).run P av= .ok (got q n dQ) av
 |[],[],q,n,_,h,av=>by
  cases q with
  |none=>simp[Instr.findAsking,got]
  |some i=>exact h.elim
 |[],_::_,_,_,h,_,_=>h.elim
 |_::_,[],_,_,h,_,_=>h.elim
 |e::es,d_::dQ,q,n,ak,h,av=>by
  cases q with
  |none=>
   obtain⟨h1,h2⟩:=h;have:=(J6 aB hu ak.1.1 h1).1 av;have aC:=Qn aB hu (n+1) ak.2 h2 av;simp[Instr.findAsking,this,aC,got]
  |some i=>
   cases i with
   |zero=>
    have:=(J6 aB hu ak.1.1 h).1 av;simp[Instr.findAsking,this,got]
   |succ i=>
    obtain⟨h1,h2⟩:=h;have:=(J6 aB hu ak.1.1 h1).1 av;have aC:=Qn aB hu (n+1) ak.2 h2 av;simp only[Instr.findAsking,e3,this,e8,sX,if_false,aC,got,Jy];cases dQ[i]? <;>simp;omega
def Qo{t:TypeId}{c_:Nat}{d:TypeDesc}(hd:P.underlying t=some d)(aB:leafKind P t=some c_){k:AV}{u:Value}(hu:R w m O B k u):∀ {es:List lz} {dQ:List MapEntry} {q:Option Nat} (n:Nat),jW (v7 w m O B) es dQ->sa (.inl c_) k es q→
  Instr.findNow d u dQ n=some (got q n dQ)
 |[],[],q,n,_,h=>by
  cases q with
  |none=>simp[Instr.findNow,got]
  |some i=>exact h.elim
 |[],_::_,_,_,h,_=>h.elim
 |_::_,[],_,_,h,_=>h.elim
 |e::es,d_::dQ,q,n,ak,h=>by
  have same:∀ {r},keyEq (.inl c_) k e.1=some r->Instr.sameNow d u d_.key=some r:=λ{r} hh=>by
   obtain⟨_,⟨iE,h1,_,h2⟩,_⟩:=zB aB hu ak.1.1 hh;rw[hd] at h1;cases h1;exact h2
  cases q with
  |none=>
   obtain⟨h1,h2⟩:=h;have:=same h1;have aC:=Qo hd aB hu (n+1) ak.2 h2;simp[Instr.findNow,this,aC,got]
  |some i=>
   cases i with
   |zero=>
    have:=same h;simp[Instr.findNow,this,got]
   |succ i=>
    obtain⟨h1,h2⟩:=h;have:=same h1;have aC:=Qo hd aB hu (n+1) ak.2 h2;simp only[Instr.findNow,this,aC,got,Jy];cases dQ[i]? <;>simp;omega
def b0E{a6:Array Field}{u:Value}(e:MapEntry)(es:List MapEntry)(n:Nat):Instr.findNow (.struct a6) u (e::es) n=none:=by
 simp[Instr.findNow,Instr.sameNow]
def EW{t:TypeId}{ab:kc}(aB:keyOk P t=some ab){k:AV}{u:Value}(hu:R w m O B k u){es:List lz}{dQ:List MapEntry}{q:Option Nat}(ak:jW (v7 w m O B) es dQ)(h:sa ab k es q)(av:World):
  (Instr.findKey t u dQ).run P av= .ok (got q 0 dQ) av:=by
 cases ab with
 |inl c_=>
  have hl:=J5 aB;obtain⟨d,hd,_⟩:=Qj hl;have:=Qo hd hl hu 0 ak h;simp[Instr.findKey,run_underlying hd,this]
 |inr aR=>
  obtain⟨a6,hd,_⟩:=J4 aB;simp only[Instr.findKey,e3,run_underlying hd,e8];cases dQ with
  |nil=>
   have b0F:es=[]:=p9 (by have:=zC ak;simpa using this.symm);subst b0F;cases q with
   |none=>simp[Instr.findNow,got]
   |some i=>exact h.elim
  |cons d_ dQ=>
   rw[b0E];exact Qn aB hu 0 ak h av
def sa.lt{ab:kc}{k:AV}:∀ {es:List lz} {i:Nat},sa ab k es (some i)->∃e,es[i]? =some e/\keyEq ab k e.1=some true
 |[],i,h=>h.elim
 |e::es,0,h=>⟨e,rfl,h⟩
 |e::es,i+1,h=>by
  obtain⟨d_,h1,h2⟩:=sa.lt h.2;exact⟨d_,by simpa using h1,h2⟩
end
section
variable {P:Program}{J:ad}{w:World}{m:Nat->Option Nat}{B:Nat}{f:Nat}
def Rel.EX(ak:Rel P J w m B){id aG:Nat}{es:List lz}{bm:Nat}(hm:m id=some aG)(hg:J.get id=some (.map es bm)):
  ∃dQ:Array MapEntry,w.heap[aG]? =some (.map dQ bm)/\jW (v7 w m (bq J m) B) es dQ.toList:=by
 obtain⟨bF,h1,h2⟩:=ak.obj id aG _ hm hg I;cases h2 with
 | @map _ dQ _ hl gQ=>
  refine⟨dQ,h1,Yu (by simpa using hl) (λi a b=>?_)⟩;have:=gQ i a (by simpa using b);exact⟨by simpa using this.1,by simpa using this.2.1,by simpa using this.2.2⟩
def zx{O:Nat->Prop}{a:AV}{u:Value}(two c:Bool)(h:R w m O B a u):R w m O B (v2 two a c) (if two then .tuple #[u,.bool c] else u):=by
 cases two with
 |false=>exact h
 |true=>exact R.vV (bQ.cons h (bQ.cons (.b c) bQ.nil))
def b0G(ak:Rel P J w m B){t jT e:TypeId}(ht:P.underlying t=some (.map jT e)){ab:kc}(aB:keyOk P jT=some ab){z:AV}(a_:zeroOf P e=some z)(two:Bool){x k v:AV}{u sc:Value}
  (hx:R w m (bq J m) B x u) (sd:R w m (bq J m) B k sc)
  (h:lookupA J ab x k z two=some v):∃cn,(Instr.lookup t u sc two).run P w= .ok cn w/\R w m (bq J m) B v cn:=by
 obtain⟨eJ,ju,lV,_⟩:=s8 a_ w;have nQ:=lV w m (bq J m) B;unfold lookupA at h;cases td:keySelf ab k with
 |false=>simp[td] at h
 |true=>
  simp only[td,cond_true] at h;split at h
  ·cases h;cases hx;have aa:=Yt aB sd td true w;have hf:=EW (P:=P) (es:=[]) (dQ:=[]) (q:=none) (w:=w) (m:=m) (O:=bq J m) (B:=B) aB sd trivial trivial w;refine⟨_,?_,zx two false nQ⟩;simp[Instr.lookup,run_underlying ht,aa,hf,got,ju]
  ·rename_i id;obtain⟨aG,hm,rfl⟩:=hx.JW;split at h<;>try (cases h;done)
   rename_i es bm hg;obtain⟨dQ,hh,hall⟩:=ak.EX hm hg;have lX:=J2 (P:=P) (w:=w) hh (λ_ _ _ h=>by cases h);have aa:=Yt aB sd td dQ.isEmpty w;split at h<;>cases h
   ·rename_i bn uF;rcases Ql uF with⟨h1,_⟩|⟨i,q4,h1,h2,h3⟩
    ·cases h1
    ·cases h3;obtain⟨hi,dh⟩:=fH.1 h2;have hlen:=zC hall;have gI:i<dQ.toList.length:=by omega
     have lY:=zD hall i hi gI;rw[dh] at lY;have hf:=EW (P:=P) aB sd hall h1 w;have Ch:got (some i) 0 dQ.toList=some (i,dQ.toList[i].val):=by simp[got,cp gI]
     rw[Ch] at hf;refine⟨_,?_,zx two true lY.2.1⟩;simp only[Instr.lookup,e3,run_underlying ht,e8,lX,jq,aa,hf]
   ·rename_i uF;rcases Ql uF with⟨_,h1⟩|⟨i,q4,h1,h2,h3⟩
    ·have hf:=EW (P:=P) aB sd hall h1 w;rw[show got none 0 dQ.toList=none from rfl] at hf;refine⟨_,?_,zx two false nQ⟩;simp only[Instr.lookup,e3,run_underlying ht,e8,lX,jq,aa,hf,ju]
    ·cases h3
  ·cases h
def Yx(ak:Rel P J w m B){t jT e:TypeId}(ht:P.underlying t=some (.map jT e)){ab:kc}(aB:keyOk P jT=some ab){id aG:Nat}{es:List lz}{bm:Nat}(du:f<=id)(hm:m id=some aG)(hg:J.get id=some (.map es bm)){k v:AV}{sc Ci:Value}
  (sd:R w m (bq J m) B k sc) (Yy:R w m (bq J m) B v Ci) {hZ:Bool} (td:keyEq ab k k=some hZ) {r:Option (List lz)} (hu:mF ab k v es=some r):
  ∃av,(Instr.mapUpdate t (.map (some aG)) sc Ci).run P w= .ok () av∧
   Rel P (J.set id (match r with|some es=>.map es bm|none=>.map (es++[(k,v,bm)]) (bm+1))) av m B/\Ext f J w m (J.set id (match r with|some es=>.map es bm|none=>.map (es++[(k,v,bm)]) (bm+1))) av m:=by
 obtain⟨dQ,hh,hall⟩:=ak.EX hm hg;have hlen:=zC hall;simp only[ug] at hlen;have lX:=J2 (P:=P) (w:=w) hh (λ_ _ _ h=>by cases h);have aa:=Ys aB sd td false w;have hb:=B5 hh;have di:∀(o:AO) (bF:Obj),nO P w m (bq J m) B o bF->eF w aG=none->o.isDead=false→
   Rel P (J.set id o) {w with heap:=w.heap.setIfInBounds aG bF} m B/\Ext f J w m (J.set id o) {w with heap:=w.heap.setIfInBounds aG bF} m:=λo bF ho ij hd=>
  ak.di du hm ⟨_,hg,rfl⟩ {w with heap:=w.heap.setIfInBounds aG bF} o ay (λb aY=>by simp[Pt (oj aY)]) (λn hn=>by rw[ij] at hn;cases hn) rfl rfl rfl (λ_=>⟨bF,by simp[hb],ho⟩)
 have ij:eF w aG=none:=by unfold eF;rw[hh]
 rcases Qm hu with⟨rfl,gi⟩|⟨i,q4,gi,hi,rfl⟩
 ·have hf:=EW (P:=P) aB sd hall gi w;rw[show got none 0 dQ.toList=none from rfl] at hf;refine⟨{w with heap:=w.heap.setIfInBounds aG (.map (dQ.push {key:=sc,val:=Ci,born:=bm}) (bm+1))},?_,di _ _ ?_ ij I⟩
  ·simp only[Instr.mapUpdate,e3,run_underlying ht,e8,lX,aa,hf];exact Yl _ hh (λ_ _ _ h=>by cases h)
  ·refine .map (by simp[hlen]) (λj h1 h2=>?_);by_cases aA:j<es.length
   ·have:=zD hall j aA (by simp;omega);rw[iC aA,Array.getElem_push_lt U];simpa [v7] using this
   ·have fB:j=es.length:=by simp at h1;omega
    subst fB;have:(dQ.push {key:=sc,val:=Ci,born:=bm})[es.length]'h2={key:=sc,val:=Ci,born:=bm}:=by
     simp only[<-hlen,Array.getElem_push_eq]
    rw[this];simp only[BU (a8 _),Ew,Ev];exact⟨sd,Yy,trivial⟩
 ·have hf:=EW (P:=P) aB sd hall gi w;obtain⟨J7,dh⟩:=fH.1 hi;have gI:i<dQ.toList.length:=by simp;omega
  have b0H:i<dQ.size:=by simpa using gI
  have lY:=zD hall i J7 gI;rw[dh] at lY;have Ch:got (some i) 0 dQ.toList=some (i,dQ.toList[i].val):=by simp[got,cp gI]
  rw[Ch] at hf;obtain⟨aU,ox,b0I⟩:=gi.lt;rw[hi] at ox;cases ox;have zt:=(J6 aB lY.1 sd (r:=true) (by
   exact b0D b0I)).2 I
  have hc:dQ[i]? =some dQ[i]:=uj b0H;refine⟨{w with heap:=w.heap.setIfInBounds aG (.map (dQ.modify i λe=>{e with key:=sc,val:=Ci}) bm)},?_,di _ _ ?_ ij I⟩
  ·simp only[Instr.mapUpdate,e3,run_underlying ht,e8,lX,aa,hf,hc,Eu,Option.getD_some];have b0J:Instr.sameBits 10000 dQ[i].key sc=true:=by simpa using zt
   have J8:(Instr.keyThatStays dQ[i].key sc).run P w= .ok sc w:=by simp only[Instr.keyThatStays,b0J,if_true,jq]
   simp only[J8,e8];exact Yl _ hh (λ_ _ _ h=>by cases h)
  ·refine .map (by simp[hlen]) (λj h1 h2=>?_);simp only[lr] at h1;have aA:=zD hall j h1 (by simp;omega);rw[s0,Array.getElem_modify];by_cases EY:i=j
   ·subst EY;simp only[if_true];refine⟨sd,Yy,?_⟩;have:=lY.2.2;simpa using this
   ·simp only[if_neg EY];simpa [v7] using aA
end
end
section
variable [Tok]
open Go.RowKit
open Go.ChangeMaps (setBlock)
section
variable {P:Program}{J:ad}{w:World}{m:Nat->Option Nat}{B f:Nat}
def b0K(s:ByteArray){c:Nat}(h:s.size<=c):(bytesRow s c).size=c:=by
 have:s.data.size=s.size:=rfl;simp[bytesRow,this];omega
def b0L{l:List Nat}(hl:∀c∈l,c<256){c:Nat}(i:Nat)(h:i<l.length):(bytesRow (strOf l) c)[i]? =some (.int .u8 (Int.ofNat l[i])):=by
 have aa:l[i]<256:=hl _ (bC h);unfold bytesRow;rw[Array.getElem?_append_left (by simp[strOf];exact h)];simp[strOf,h];omega
def b0M(ak:Rel P J w m B)(f:Nat){s d e:TypeId}(al:P.underlying s=some .string)(hd:P.underlying d=some (.slice e))(he:P.underlying e=some (.int .u8)){l:List Nat}{u:Value}(hx:R w m (bq J m) B (.s l) u):
  ∃cn av aP,(convert s d u).run P w= .ok cn av/\R av aP (bq (J.push (.cells (l.map λc=>AV.i .u8 (Int.ofNat c)))) aP) B (.ao J.next 0 l.length none none) cn/\Rel P (J.push (.cells (l.map λc=>AV.i .u8 (Int.ofNat c)))) av aP B/\Ext f J w m (J.push (.cells (l.map λc=>AV.i .u8 (Int.ofNat c)))) av aP:=by
 obtain⟨rfl,hl⟩:=hx.qV;have cz:(strOf l).size=l.length:=xy l;have np:=grownCap_ge w (strOf l).size 0 e;have cd:=run_bytes_of_string (P:=P) w s d e (strOf l) al hd he;obtain⟨cap,il⟩:∃cap,cap=grownCap w (strOf l).size 0 e:=⟨_,rfl⟩
 rw[<-il] at np cd;have xD:=b0K (strOf l) np;obtain⟨h1,h2⟩:=ak.alloc f (w.drew.alloc (.cells (bytesRow (strOf l) cap) e ((bytesRow (strOf l) cap).size,(bytesRow (strOf l) cap).size+1))) (.cells (l.map λc=>AV.i .u8 (Int.ofNat c))) _ I I I I I
  (.cells (by rw[xD,bB];omega) (λi h h'=>by
   simp only[bB] at h;have h3:=b0L hl (c:=cap) i h;rw[uj h'] at h3;rw[ez,kr h3];exact .i _ _) (λi hi=>by
    have:¬(bytesRow (strOf l) cap).size<=i:=by omega
    simp[this]) (λx hx=>by obtain⟨c,_,rfl⟩:=cT.1 hx;rfl))
 refine⟨_,_,_,cd,?_,h1,h2⟩;rw[cz];refine .ao (iF _ _ _) U (λc aa=>by cases aa) (n:=(bytesRow (strOf l) cap).size) ?_ (by rw[xD];simp[shN]);have:(w.drew.alloc (.cells (bytesRow (strOf l) cap) e ((bytesRow (strOf l) cap).size,(bytesRow (strOf l) cap).size+1))).heap[w.heap.size]? =some (.cells (bytesRow (strOf l) cap) e ((bytesRow (strOf l) cap).size,(bytesRow (strOf l) cap).size+1)):=heap_alloc_new w.drew _;unfold eF;rw[this]
def Qp{x:AV}{n:Nat}(h:byteOf x=some n):x= .i .u8 (Int.ofNat n)/\n<256:=by
 unfold byteOf at h;split at h
 ·rename_i k;cases hb:Nat.blt k 256 with
  |false=>rw[hb] at h;cases h
  |true=>rw[hb] at h;cases h;exact⟨rfl,by simpa [hC] using hb⟩
 ·cases h
def b0N(ak:Rel P J w m B){s d e:TypeId}(al:P.underlying s=some (.slice e))(he:P.underlying e=some (.int .u8))(hd:P.underlying d=some .string){x:AV}{xs:List AV}{l:List Nat}{u:Value}(hx:R w m (bq J m) B x u)(h:readList J x=some xs)(hb:mapO byteOf xs=some l):
  (convert s d u).run P w= .ok (.string (strOf l)) w/\∀c∈l,c<256:=by
 obtain⟨hlen,hc⟩:=qc hb;have dG:xs=l.map λc=>AV.i .u8 (Int.ofNat c):=by
  apply xr
  ·simp[hlen]
  ·intro i h1 h2;have:=(Qp (hc i h1 U)).1;simp[this]
 have hlt:∀c∈l,c<256:=λc aa=>by
  obtain⟨i,hi,rfl⟩:=iP aa;exact(Qp (hc i U hi)).2
 refine⟨?_,hlt⟩;obtain⟨base,c,us,rfl,hle,hR,Cj,kt,J9⟩:=ES (ab:=none) ak hx h (λa ha=>by rw[dG] at ha;obtain⟨c,_,rfl⟩:=cT.1 ha;rfl);cases base with
 |none=>
  obtain⟨h0,_⟩:=J9;have:l=[]:=by
   have:=congrArg List.length h0;simp[dG] at this;exact this
  subst this;rw[run_convert_bytes_string w s d e _ _ _ al he hd];simp[Conv.bytesToString,strOf];rfl
 |some a=>
  obtain⟨b0O,zE,J_⟩:=J9;clear J_;have Cc:xs.flatMap AV.cells=xs:=by
   have h1:∀y∈xs,AV.cells y=[y]:=λy hy=>by rw[dG] at hy;obtain⟨c,_,rfl⟩:=cT.1 hy;rfl
   clear hR Cj kt hle dG h hb hlen hc hx b0O
   induction xs with
   |nil=>rfl
   |cons y ba aC=>rw[lR,h1 y ay,aC (λz a_=>h1 z (by simp[a_]))];rfl
  have key:=run_convert_bytes_back (P:=P) w s d e a c (l.map Nat.toUInt8) al he hd (λj aA=>by
   simp only[bB] at aA;have Yz:j<us.length:=by rw[Cj];simp[shN];omega
   rw[Cc] at hR;have h1:=hR.2 j U Yz;have h2:xs[j]'U=AV.i .u8 (Int.ofNat l[j]):=(Qp (hc j U aA)).1;rw[h2] at h1;have h3:=h1.nm;have aH:=zE j us[j] (cp Yz);rw[aH,h3];have aa:l[j]<256:=hlt _ (bC aA);simp;omega)
  have aM:xs.length=(l.map Nat.toUInt8).length:=by simp[hlen]
  rw[aM,key];rfl
def b0P(ak:Rel P J w m B)(f:Nat){t e:TypeId}{ab:Option Nat}(ht:P.underlying t=some (.slice e))(al:shapeOf P e=some ab){i:TypeInfo}(hi:P.info? e=some i){z:AV}(a_:zeroOf P e=some z)(xB:z.cells.length=shN ab){n c:Nat}{Ka jg:IntKind}(b0Q:n<=c)(hb:i.bytes*c<=281474976710656)(aa:c<=281474976710656):
  ∃cn av aP,(Instr.makeSlice t (.int Ka (Int.ofNat n)) (.int jg (Int.ofNat c))).run P w= .ok cn av/\R av aP (bq (J.push (.cells (hQ c z.cells))) aP) B (.ao J.next 0 n ab (some c)) cn/\Rel P (J.push (.cells (hQ c z.cells))) av aP B/\Ext f J w m (J.push (.cells (hQ c z.cells))) av aP:=by
 obtain⟨_,cz,_⟩:=me al w;have YA:i.size=shN ab:=by
  have h1:=cz;simp[sizeOf,typeInfo,hi] at h1;exact h1
 obtain⟨eJ,ju,lV,nQ⟩:=s8 a_ w;have zF:i.zero=some eJ:=by
  simp[zeroValue,typeInfo,hi] at ju;cases aS:i.zero with
  |none=>simp[aS] at ju
  |some q=>simp[aS] at ju;rw[ju]
 have ov:=(lV w m (bq J m) B).cells;have nn:eJ.cells.size=shN ab:=by have:=ov.1;simp at this;omega
 have cd:=run_make (P:=P) w t e i eJ ht hi zF Ka jg (Int.ofNat n) (Int.ofNat c) (Et _) (by show(n:Int)<=c;omega) (by
                                                                         show(i.bytes:Int)*(c:Int)<=_;have:((i.bytes*c:Nat):Int)<=281474976710656:=by omega
                                                                         rwa[Int.natCast_mul] at this) (by show(c:Int)<=_;omega)
 have kv:(Int.ofNat c).toNat=c:=rfl;have aM:(Int.ofNat n).toNat=n:=rfl;rw[kv,aM,YA] at cd;have pt:=B9 ov c;have xC:eJ.cells.toList.length=shN ab:=by simp[nn]
 rw[xC] at pt;have pr:(madeCells eJ.cells (c*shN ab)).toList=(List.range (c*shN ab)).map λi=>eJ.cells.toList[i%shN ab]! :=by
  unfold madeCells;rw[vM,ze];apply pd;intro a _;rw[nn,PA,rZ];simp
 rw[<-pr] at pt;have Ca:(madeCells eJ.cells (c*shN ab)).size=c*shN ab:=size_madeCells _ _;obtain⟨av,aP,ik,kJ,qd,vX,ER⟩:=JV ak f (el:=e) pt (B_ nQ c);have b0R:av=w.alloc (.cells (madeCells eJ.cells (c*shN ab)) e):=by
  have h1:(newRow e (madeCells eJ.cells (c*shN ab))).run P w= .ok ⟨w.heap.size,0,none⟩ {w with heap:=w.heap.push (.cells (madeCells eJ.cells (c*shN ab)) e)}:=by simp[newRow]
  rw[h1] at ik;cases ik;rfl
 subst b0R;exact⟨_,_,aP,cd,.ao kJ b0Q (λbc h4=>by cases h4;rfl) (n:=(madeCells eJ.cells (c*shN ab)).size) (by unfold eF;rw[qd]) (by rw[Ca];omega),vX,ER⟩
def b0S(ak:Rel P J w m B)(f:Nat){t Qq ty e:TypeId}{ab:Option Nat}{et qk:IntKind}(ht:P.underlying t=some (.slice e))(b0T:P.underlying Qq=some (.int et))(al:shapeOf P e=some ab){i:TypeInfo}(hi:P.info? e=some i){z:AV}(a_:zeroOf P e=some z)(xB:z.cells.length=shN ab)(qY:i.bytes≠0)(c9k:0<shN ab){k:Nat}(h0:0<k)(hb:(3*k+2000)*i.bytes<=281474976710656):
  ∃cn av aP,(Builtin.append_ #[t,Qq] ty #[.slice none 0 0,.int qk (Int.ofNat k)]).run P w= .ok cn av/\R av aP (bq (J.push (.cells (hQ k z.cells))) aP) B (.ao J.next 0 k ab none) cn/\Rel P (J.push (.cells (hQ k z.cells))) av aP B/\Ext f J w m (J.push (.cells (hQ k z.cells))) av aP:=by
 obtain⟨_,cz,_⟩:=me al w;have YA:i.size=shN ab:=by
  have h1:=cz;simp[sizeOf,typeInfo,hi] at h1;exact h1
 obtain⟨eJ,ju,lV,nQ⟩:=s8 a_ w;have zF:i.zero=some eJ:=by
  simp[zeroValue,typeInfo,hi] at ju;cases aS:i.zero with
  |none=>simp[aS] at ju
  |some q=>simp[aS] at ju;rw[ju]
 have ov:=(lV w m (bq J m) B).cells;have nn:eJ.cells.size=shN ab:=by have:=ov.1;simp at this;omega
 have jX:1<=i.bytes:=Xh.2 qY;have lx:(3*k+2000)*1<=(3*k+2000)*i.bytes:=Xi _ jX;have uC:k*i.bytes<=(3*k+2000)*i.bytes:=sZ _ U;have cd:=Lib.run_append_nil_zeros (P:=P) w t Qq ty e i eJ qk et ht b0T hi zF k h0 U U U;have np:=grownCap_ge w k 0 e;have pt:=B9 ov k;have xC:eJ.cells.toList.length=shN ab:=by simp[nn]
 have hh:(Builtin.zeroCells eJ.cells k).toList=(List.range (k*eJ.cells.toList.length)).map λi=>eJ.cells.toList[i%eJ.cells.toList.length]! :=by
  simp only[Builtin.zeroCells,vM,ze,ug];exact pd λi _=>by simp only[getElem!_def,nJ]
 rw[<-hh] at pt;have Ca:(Builtin.zeroCells eJ.cells k).size=k*shN ab:=by rw[size_zeroCells,nn]
 have xD:(Builtin.zeroCells eJ.cells k++Builtin.zeroCells eJ.cells (grownCap w k 0 e-k)).size=grownCap w k 0 e*shN ab:=by
  rw[Xj,size_zeroCells,size_zeroCells,nn,← kD]
  congr 1;omega
 have zG:(hQ k z.cells).length=k*shN ab:=by have:=pt.1;rw[ug,Ca] at this;omega
 obtain⟨h1,h2⟩:=ak.alloc f (w.drew.alloc (.cells (Builtin.zeroCells eJ.cells k++Builtin.zeroCells eJ.cells (grownCap w k 0 e-k)) e)) (.cells (hQ k z.cells)) _ I I I I I
  (.cells (by rw[xD,zG];exact sZ _ np) (λj h h'=>by
   have aA:j<(Builtin.zeroCells eJ.cells k).size:=by omega
   have:=pt.2 j h (by simpa using aA);rw[Xk aA];simpa using this) (λj _=>by simp) (B_ nQ k))
 refine⟨_,_,_,cd,.ao (iF _ _ _) np (λc aa=>by cases aa) (n:=grownCap w k 0 e*shN ab) ?_ U,h1,h2⟩;have:(w.drew.alloc (.cells (Builtin.zeroCells eJ.cells k++Builtin.zeroCells eJ.cells (grownCap w k 0 e-k)) e)).heap[w.heap.size]? =some (.cells (Builtin.zeroCells eJ.cells k++Builtin.zeroCells eJ.cells (grownCap w k 0 e-k)) e):=by
  exact heap_alloc_new w.drew _
 unfold eF;rw[this];simp only[xD]
def Rel.b0U(ak:Rel P J w m B){id aG since hP:Nat}{seen:List Nat}(hm:m id=some aG)(hg:J.get id=some (.mapIter none since seen hP)):w.heap[aG]? =some (.mapIter none since seen.toArray hP):=by
 obtain⟨bF,h1,h2⟩:=ak.obj _ _ _ hm hg I;cases h2 with
 | @mapIter _ b _ _ _ hb=>
  cases b with
  |none=>exact h1
  |some b=>exact hb.elim
def Rel.YB(ak:Rel P J w m B){id aG i since hP:Nat}{seen:List Nat}(hm:m id=some aG)(hg:J.get id=some (.mapIter (some i) since seen hP)):∃b,w.heap[aG]? =some (.mapIter (some b) since seen.toArray hP)/\m i=some b:=by
 obtain⟨bF,h1,h2⟩:=ak.obj _ _ _ hm hg I;cases h2 with
 | @mapIter _ b _ _ _ hb=>
  cases b with
  |none=>exact hb.elim
  |some b=>exact⟨b,h1,hb⟩
def run_getObj_map{aG:Nat}{es:Array MapEntry}{bm:Nat}(h:w.heap[aG]? =some (.map es bm)):(getObj aG).run P w= .ok (.map es bm) w:=
 J2 (P:=P) (w:=w) h (λ_ _ _ h=>by cases h)
def YC(o:Obj)(w:World):(newObj o).run P w= .ok w.heap.size (w.alloc o):=rfl
def YD(ak:Rel P J w m B)(f:Nat){t k e:TypeId}(ht:P.underlying t=some (.map k e)){r:Option Nat}{u:Value}(hx:R w m (bq J m) B (.m r) u){o:AO}
  (ho:match r with|none=>o= .mapIter none 0 [] 0|some id=>∃es bm,J.get id=some (.map es bm)/\o= .mapIter (some id) bm [] bm):
  ∃cn av aP,(Instr.range t u).run P w= .ok cn av/\R av aP (bq (J.push o) aP) B (kH J.next 0) cn/\Rel P (J.push o) av aP B/\Ext f J w m (J.push o) av aP:=by
 cases r with
 |none=>
  simp only at ho;subst ho;cases hx;obtain⟨h1,h2⟩:=ak.alloc f (w.alloc (.mapIter none 0 #[] 0)) (.mapIter none 0 [] 0) (.mapIter none 0 #[] 0) I I I I I (.mapIter trivial);exact⟨.pointer (some ⟨w.heap.size,0,none⟩),w.alloc (.mapIter none 0 #[] 0),_,by simp[Instr.range,run_underlying ht,YC],.p (iF _ _ _),h1,h2⟩
 |some id=>
  obtain⟨es,bm,hg,rfl⟩:=ho;obtain⟨aG,hm,rfl⟩:=hx.JW;obtain⟨dQ,hh,_⟩:=ak.EX hm hg;obtain⟨h1,h2⟩:=ak.alloc f (w.alloc (.mapIter (some aG) bm #[] bm)) (.mapIter (some id) bm [] bm) (.mapIter (some aG) bm #[] bm) I I I I I (.mapIter hm);exact⟨.pointer (some ⟨w.heap.size,0,none⟩),w.alloc (.mapIter (some aG) bm #[] bm),_,by simp[Instr.range,run_underlying ht,run_getObj_map hh,YC],.p (iF _ _ _),h1,h2⟩
def YE(n:Nat):∀(l:List Nat),qa n l=l.contains n
 |[]=>rfl
 |x::l=>by
  show cond (Nat.beq x n) true (qa n l)=_;rw[List.contains_cons,YE n l];have:(n==x)=Nat.beq x n:=by
   rw[uk,p8,beq_iff_eq];exact⟨λh=>h.symm,λh=>h.symm⟩
  rw[this];cases Nat.beq x n<;>rfl
def YF(seen:List Nat):∀(es:List lz),nN seen es=es.filter λe=>!seen.contains e.2.2
 |[]=>rfl
 |e::es=>by
  show cond (qa e.2.2 seen) (nN seen es) (e::nN seen es)=_;rw[YF seen es,YE,vN];cases seen.contains e.2.2<;>rfl
def Qr{α β:Type}{r:α->β->Prop}{p:α->Bool}{q:β->Bool}(h:∀x y,r x y->p x=q y):∀ {l:List α} {bD:List β},jW r l bD->jW r (l.filter p) (bD.filter q)
 |[],[],_=>trivial
 |[],_::_,h'=>h'.elim
 |_::_,[],h'=>h'.elim
 |x::l,y::bD,h'=>by
  rw[vN,vN,h x y h'.1];cases q y with
  |true=>exact⟨h'.1,Qr h h'.2⟩
  |false=>exact Qr h h'.2
def YG(ak:Rel P J w m B){f:Nat}{it aG i since:Nat}{seen:List Nat}(hf:f<=it)(hm:m it=some aG)(hg:J.get it=some (.mapIter (some i) since seen since)){es:List lz}(fi:J.get i=some (.map es since))(b0V:∀e∈es,e.2.2<since)(t:TypeId):
  (nN seen es=[]/\(Instr.next (.pointer (some ⟨aG,0,none⟩)) false t).run P w= .ok (.tuple #[.bool false]) w)∨
  ∃e∈nN seen es,∃u av,(Instr.next (.pointer (some ⟨aG,0,none⟩)) false t).run P w= .ok u av∧
   R av m (bq (J.set it (.mapIter (some i) since (seen++[e.2.2]) since)) m) B (.bg [.b true,e.1,e.2.1]) u/\Rel P (J.set it (.mapIter (some i) since (seen++[e.2.2]) since)) av m B/\Ext f J w m (J.set it (.mapIter (some i) since (seen++[e.2.2]) since)) av m:=by
 obtain⟨b,hh,uG⟩:=ak.YB hm hg;obtain⟨dQ,EZ,hall⟩:=ak.EX uG fi;have b0W:∀e∈dQ.toList,e.born<since:=λd_ EN=>by
  obtain⟨k,aB,rfl⟩:=iP EN;have hlen:=zC hall;have:=zD hall k U aB;rw[this.2.2];exact b0V _ (bC _)
 have Qs:jW (v7 w m (bq J m) B) (nN seen es) (leftOf dQ seen.toArray).toList:=by
  rw[YF];have h1:(leftOf dQ seen.toArray).toList=dQ.toList.filter λe=>!seen.contains e.born:=by simp[leftOf]
  rw[h1];exact Qr (λx y h=>by rw[h.2.2]) hall
 have hlt:=(ak.gh _ _ hm).1;rcases run_next_at (P:=P) w t aG b since since seen.toArray dQ since hh EZ b0W (a8 _) with⟨h1,h2⟩|⟨d_,EN,b4,lB,h2⟩
 ·refine .inl ⟨?_,h2⟩;have:=zC Qs;rw[ug,h1] at this;exact p9 this.symm
 ·obtain⟨k,aB,rfl⟩:=iP EN;have hlen:=zC Qs;have lY:=zD Qs k U aB;refine .inr ⟨(nN seen es)[k]'U,bC _,?_⟩;generalize(nN seen es)[k]'U=e at lY;generalize(leftOf dQ seen.toArray).toList[k]=aM at lY h2;obtain⟨b0X,b0Y,b0Z⟩:=lY;have Qt:b4.heap=w.heap:=by rcases lB with rfl|rfl<;>rfl
  have b1a:eF w aG=none:=by unfold eF;rw[hh]
  obtain⟨k9,hY⟩:=ak.di (f:=f) hf hm ⟨_,hg,rfl⟩ (setBlock b4 aG (.mapIter (some b) since (seen.toArray.push aM.born) since)) (.mapIter (some i) since (seen++[e.2.2]) since)
   (by simp[setBlock,Qt]) (λk aB=>by simp[setBlock,Qt,Jz,oj aB]) (λn hn=>by rw[b1a] at hn;cases hn)
   (by rcases lB with rfl|rfl<;>rfl) (by rcases lB with rfl|rfl<;>rfl) (by rcases lB with rfl|rfl<;>rfl)
   (λ_=>⟨.mapIter (some b) since (seen.toArray.push aM.born) since,by simp[setBlock,Qt,Jz,hlt],by
    have kv:seen.toArray.push aM.born=(seen++[e.2.2]).toArray:=by rw[b0Z];simp
    rw[kv];exact .mapIter uG⟩)
  exact⟨_,_,h2,R.vV (bQ.cons (.b true) (bQ.cons (b0X.ext hY ak) (bQ.cons (b0Y.ext hY ak) bQ.nil))),k9,hY⟩
def YH{q5:Nat}:∀ {es:List lz} {dQ:List MapEntry} {e:lz},jW (v7 w m (bq J m) B) es dQ->qR q5 es=some e->∃d_,dQ.find? (λx=>x.born==q5)=some d_/\v7 w m (bq J m) B e d_
 |[],[],e,_,h=>by cases h
 |[],_::_,_,h,_=>h.elim
 |_::_,[],_,h,_=>h.elim
 |x::es,y::dQ,e,hall,h=>by
  have h:cond (Nat.beq x.2.2 q5) (some x) (qR q5 es)=some e:=h;have hb:(y.born==q5)=Nat.beq x.2.2 q5:=by
   rw[hall.1.2.2,uk,p8,beq_iff_eq]
  rw[List.find?_cons,hb];cases aS:Nat.beq x.2.2 q5 with
  |true=>rw[aS] at h;cases h;exact⟨y,rfl,hall.1⟩
  |false=>rw[aS] at h;exact YH hall.2 h
def YI:∀(l:List Nat),r1 l=l.getLast?
 |[]=>rfl
 |x::l=>by
  have h:r1 (x::l)=match r1 l with|none=>some x|some y=>some y:=rfl
  rw[h,YI l,List.getLast?_cons];cases l.getLast? <;>rfl
def b1b(ak:Rel P J w m B){it aG i since bm:Nat}{seen:List Nat}(hm:m it=some aG)(hg:J.get it=some (.mapIter (some i) since seen bm)){es:List lz}(fi:J.get i=some (.map es bm)){q5:Nat}(hl:r1 seen=some q5){e:lz}(he:qR q5 es=some e):
  ∃u,(Instr.entry (.pointer (some ⟨aG,0,none⟩))).run P w= .ok u w/\R w m (bq J m) B (.bg [e.1,e.2.1]) u:=by
 obtain⟨b,hh,uG⟩:=ak.YB hm hg;obtain⟨dQ,EZ,hall⟩:=ak.EX uG fi;obtain⟨d_,h1,h2⟩:=YH hall he;have xG:seen.toArray.back? =some q5:=by rw[YI] at hl;simpa using hl
 have hf:dQ.find? (λx=>x.born==q5)=some d_:=by rw[<-Array.find?_toList];exact h1
 refine⟨.tuple #[d_.key,d_.val],?_,R.vV (bQ.cons h2.1 (bQ.cons h2.2.1 bQ.nil))⟩;simp only[Instr.entry,getObj,e3,Sem.run,hh,EZ,Result.andThen,xG,bne_self_eq_false,sX,if_false,hf];rfl
def b1c(ak:Rel P J w m B){it aG since hP:Nat}{seen:List Nat}(hm:m it=some aG)(hg:J.get it=some (.mapIter none since seen hP))(t:TypeId):
  (Instr.next (.pointer (some ⟨aG,0,none⟩)) false t).run P w= .ok (.tuple #[.bool false]) w:=by
 have hh:=ak.b0U hm hg;simp only[Instr.next,getObj,e3,Sem.run,hh,Result.andThen];rfl
end
end
section
variable [Tok]
open Go.RowKit
section
variable {P:Program}{w:World}{m:Nat->Option Nat}{O:Nat->Prop}{B:Nat}
def b1d{t e:TypeId}{ab:Option Nat}(hu:P.underlying t=some (.slice e))(al:shapeOf P e=some ab){ol:Bool}{xs:List AV}{u:Value}(hx:R w m O B (.aV ol ab xs) u)
  {c1 hi:Option Value} {l h:Nat} (hl:mK 0 c1 l) (hh:mK xs.length hi h) (h1:l<=h) (h2:h<=xs.length):
  ∃cn,(Instr.sliceAt t u c1 hi none).run P w= .ok cn w/\R w m O B (.aV ol ab ((xs.drop l).take (h-l))) cn:=by
 obtain⟨_,cz,_⟩:=me al w;cases hx with
 |mH=>
  have aM:h=0:=by simpa using h2
  subst aM;have aU:l=0:=by omega
  subst aU;refine⟨.slice none 0 0,?_,?_⟩
  ·have:=uz (P:=P) (w:=w) (isSlice:=true) (len:=0) (cap:=0) hl hh (a8 0) (a8 0);simp[Instr.sliceAt,Instr.slice,run_underlying hu,this,cz]
  ·simpa using R.mH
 | @aV _ _ _ _ _ _ aG off gF sp ba cv ta aa ak lU hf fI=>
  by_cases oy:xs=[]
  ·subst oy;have aM:h=0:=by simpa using h2
   subst aM;have aU:l=0:=by omega
   subst aU;refine⟨.slice (some ⟨aG,off,sp⟩) 0 gF,?_,?_⟩
   ·have:=uz (P:=P) (w:=w) (isSlice:=true) (len:=0) (cap:=gF) hl hh (a8 0) (jD _);simp[Instr.sliceAt,Instr.slice,run_underlying hu,this,cz,Addr.add]
   ·exact .aV (xs:=[]) (λ_ _=>undef) (λh=>absurd I h) (λi h=>by simp at h) (λi h=>by simp at h) (λi h=>by simp at h) (jD _) (λv aq=>by simp at aq) (λh=>absurd I h)
  obtain rfl:=fI oy;have hlen:((xs.drop l).take (h-l)).length=h-l:=by simp;omega
  have cd:(Instr.sliceAt t (.slice (some ⟨aG,off,none⟩) xs.length gF) c1 hi none).run P w= .ok (.slice (some ⟨aG,if gF=l then off else off+l*shN ab,none⟩) (h-l) (gF-l)) w:=by
   simp only[Instr.sliceAt,Instr.slice,run_underlying hu,e3,e8,uz hl hh h1 (p5 h2 lU),cz,jq];split<;>simp[mf]
  refine⟨_,cd,?_⟩;by_cases a_:h-l=0
  ·have kv:(xs.drop l).take (h-l)=[]:=p9 U;rw[kv,a_];exact .aV (xs:=[]) (λ_ _=>undef) (λh=>absurd I h) (λi h=>by simp at h) (λi h=>by simp at h) (λi h=>by simp at h) (jD _) (λv aq=>by simp at aq) (λh=>absurd I h)
  ·have eD:¬gF=l:=by omega
   rw[if_neg eD];have hc:∀i (hi:i<((xs.drop l).take (h-l)).length),((xs.drop l).take (h-l))[i]=xs[l+i]'U:=λi hi=>by
    rw[sW,Pw]
   have aY:xs≠[]:=λe=>by subst e;simp at h2;omega
   have key:R w m O B (.aV ol ab ((xs.drop l).take (h-l))) (.slice (some ⟨aG,off+l*shN ab,none⟩) ((xs.drop l).take (h-l)).length (gF-l)):=by
    refine .aV (λi j=>ba (l+i) j) (λ_=>cv aY) (λi hi=>?_) (λi hi j aA=>?_) (λi hi j aA=>?_) U (λv aq=>hf v (p7 (pe aq))) (λ_=>rfl)
    ·rw[hc i hi];exact ta _ U
    ·simp only[hc i hi] at aA;have:=aa (l+i) U j aA;rw[<-this];congr 2;rw[kD];omega
    ·simp only[hc i hi] at aA ⊢;exact ak (l+i) U j aA
   rw[hlen] at key;exact key
end
def Rel.zH{P:Program}{J:ad}{w:World}{m:Nat->Option Nat}{B:Nat}(ak:Rel P J w m B):∀b,bq J m b->B<=b:=λ_ ⟨_,h,_⟩=>ak.base _ _ h
structure Ctx(P:Program)(env:Env)(J:ad)(w:World)(m:Nat->Option Nat)(B:Nat)(ao:a1 AV)(a:Act):Prop where
 rel:Rel P J w m B
 bk:jU w m (bq J m) B ao a.tmps.toList
 globs:Globs env w B
section
variable {P:Program}{env:Env}{J:ad}{w:World}{m:Nat->Option Nat}{B:Nat}{f:Nat}{ao:a1 AV}{a:Act}
def Ctx.ar(c:Ctx P env J w m B ao a){x:Operand}{bW:aJ}(hx:opdOf x=some bW){v:AV}(aq:evalA env ao bW=some v):R w m (bq J m) B v (a.eval x):=P1 c.rel.zH c.globs c.bk hx aq
def Ctx.se(c:Ctx P env J w m B ao a){x:Option Operand}{bW:Option aJ}(hx:opdO x=some bW){d n:Nat}(aq:bndO (evalA env ao) bW d=some n):mK d (x.map a.eval) n:=a9L c.rel.zH c.globs c.bk hx aq
def b1e(c:Ctx P env J w m B ao a){r:Result Next}{v:AV}(h:∃u,r= .ok (.value u) w/\R w m (bq J m) B v u):fT P B f J w m v J r:=
 let⟨_,h1,h2⟩:=h;fT.pure c.rel h1 h2
def f_(c:Ctx P env J w m B ao a){s:Sem Value}{v:AV}(h:∃u,s.run P w= .ok u w/\R w m (bq J m) B v u):fT P B f J w m v J ((do pure (.value (←s)):Sem Next).run P w):=by
 obtain⟨u,h1,h2⟩:=h;exact fT.pure c.rel (by simp[h1]) h2
def sf{s:Sem Value}{v:AV}{ai:ad}(h:∃u av aP,s.run P w= .ok u av/\R av aP (bq ai aP) B v u/\Rel P ai av aP B/\Ext f J w m ai av aP):fT P B f J w m v ai ((do pure (.value (←s)):Sem Next).run P w):=by
 obtain⟨u,av,aP,h1,h2,h3,aH⟩:=h;exact⟨u,av,aP,.inl (by simp[h1]),h2,h3,aH⟩
def Qu{s:Sem Unit}{ai:ad}(h:∃av,s.run P w= .ok () av/\Rel P ai av m B/\Ext f J w m ai av m):fT P B f J w m dF ai ((do s;pure .skip:Sem Next).run P w):=by
 obtain⟨av,h1,h2,h3⟩:=h;exact⟨undef,av,m,.inr ⟨by simp[h1],rfl⟩,R.undef,h2,h3⟩
variable {o:Oper}{cH:AOp}{v:AV}{ai:ad}
def YJ(c:Ctx P env J w m B ao a){x:Operand}(ho:o.op= .move x\/o.op= .assign x)(aa:cop P o=some cH)(h:opx f (evalA env ao) J cH=some (.val v ai)):fT P B f J w m v ai ((execOp a.eval o).run P w):=by
 have hx:∃bW,opdOf x=some bW/\cH= .mb bW:=by
  unfold cop at aa;rcases ho with ho|ho<;>(rw[ho] at aa;simp only[fA] at aa;obtain⟨bW,h1,rfl⟩:=aa;exact⟨bW,h1,rfl⟩)
 obtain⟨bW,hx,rfl⟩:=hx;simp only[opx] at h;split at h<;>cases h;rename_i aq;have e:execOp a.eval o=pure (.value (a.eval x)):=by unfold execOp;rcases ho with ho|ho<;>rw[ho]
 rw[e];exact fT.pure c.rel I (c.ar hx aq)
def b1f(c:Ctx P env J w m B ao a){x y z:Operand}(ho:o.op= .pick x y z)(aa:cop P o=some cH)(h:opx f (evalA env ao) J cH=some (.val v ai)):fT P B f J w m v ai ((execOp a.eval o).run P w):=by
 simp only[cop,ho,eA,dZ,eM,cJ] at aa;obtain⟨bW,hx,eN,hy,xH,a_,rfl⟩:=aa;simp only[opx] at h;split at h<;>try (cases h;done)
 rename_i t ht;split at h<;>cases h;rename_i aq;have hb:=(c.ar hx ht).xz;simp only[execOp,ho];refine b1e c ⟨if t then a.eval y else a.eval z,by simp[hb];cases t<;>rfl,?_⟩;cases t with
 |true=>exact c.ar hy aq
 |false=>exact c.ar a_ aq
def b1g(c:Ctx P env J w m B ao a){t:TypeId}(ho:o.op= .alloc t)(aa:cop P o=some cH)(h:opx f (evalA env ao) J cH=some (.val v ai)):fT P B f J w m v ai ((execOp a.eval o).run P w):=by
 simp only[cop,ho,fA] at aa;obtain⟨z,a_,rfl⟩:=aa;simp only[opx] at h;cases h;simp only[execOp,ho];exact sf (a9u c.rel a_)
def b1h(c:Ctx P env J w m B ao a){t:TypeId}{x:Operand}(ho:o.op= .box t x)(aa:cop P o=some cH)(h:opx f (evalA env ao) J cH=some (.val v ai)):fT P B f J w m v ai ((execOp a.eval o).run P w):=by
 simp only[cop,ho,fA] at aa;obtain⟨bW,hx,rfl⟩:=aa;simp only[opx] at h;split at h<;>try (cases h;done)
 rename_i bn aq;cases hval:bn.val with
 |false=>rw[hval] at h;cases h
 |true=>
  rw[hval,cond_true] at h;cases h;simp only[execOp,ho];exact sf (a9s c.rel (c.ar hx aq) (P7 (c.ar hx aq) hval))
def b1i(c:Ctx P env J w m B ao a){t:TypeId}{x:Operand}(ho:o.op= .load t x)(aa:cop P o=some cH)(h:opx f (evalA env ao) J cH=some (.val v ai)):fT P B f J w m v ai ((execOp a.eval o).run P w):=by
 simp only[cop,ho,eA,dZ,eM,cJ] at aa;obtain⟨ab,al,bW,hx,rfl⟩:=aa;simp only[opx] at h;simp only[execOp,ho];split at h<;>try (cases h;done)
 rename_i p an;split at h<;>cases h;rename_i aq;exact f_ c (a9p c.rel al (c.ar hx an) aq)
def b1j(c:Ctx P env J w m B ao a){t:TypeId}{x y:Operand}(ho:o.op= .store t x y)(aa:cop P o=some cH)(h:opx f (evalA env ao) J cH=some (.val v ai)):fT P B f J w m v ai ((execOp a.eval o).run P w):=by
 simp only[cop,ho,eA,dZ,eM,cJ] at aa;obtain⟨ab,al,bW,hx,eN,hy,rfl⟩:=aa;simp only[opx] at h;simp only[execOp,ho];split at h<;>try (cases h;done)
 rename_i id off bn an aq;split at h<;>try (cases h;done)
 rename_i du;split at h<;>try (cases h;done)
 rename_i v8;split at h<;>try (cases h;done)
 rename_i cs hg;split at h<;>cases h;rename_i bc cq;obtain⟨aG,hm,k7⟩:=(c.ar hx an).xA;rw[k7];exact Qu (a9r c.rel al (by simpa [hC] using du) hm hg v8 cq (c.ar hy aq))
def b1k(c:Ctx P env J w m B ao a){x:Operand}(ho:o.op= .nilCheck x)(aa:cop P o=some cH)(h:opx f (evalA env ao) J cH=some (.val v ai)):fT P B f J w m v ai ((execOp a.eval o).run P w):=by
 simp only[cop,ho,fA] at aa;obtain⟨bW,hx,rfl⟩:=aa;simp only[opx] at h;split at h<;>try (cases h;done)
 rename_i bn aq;cases hn:nilOk bn with
 |false=>rw[hn] at h;cases h
 |true=>
  rw[hn,cond_true] at h;cases h;exact fT.pure c.rel (a9S ho (c.ar hx aq) hn) (c.ar hx aq)
def b1l(c:Ctx P env J w m B ao a){op:UnOp}{t:TypeId}{x:Operand}(ho:o.op= .unOp op t x)(aa:cop P o=some cH)(h:opx f (evalA env ao) J cH=some (.val v ai)):fT P B f J w m v ai ((execOp a.eval o).run P w):=by
 simp only[execOp,ho];cases op<;>simp only[cop,ho,fA,reduceCtorEq] at aa
 ·obtain⟨bW,hx,rfl⟩:=aa;simp only[opx] at h;split at h<;>cases h;rename_i aq;exact f_ c ⟨_,a9U (c.ar hx aq),.i _ _⟩
 ·obtain⟨bW,hx,rfl⟩:=aa;simp only[opx] at h;split at h<;>cases h;rename_i aq;exact f_ c ⟨_,a9T (c.ar hx aq),.b _⟩
def YK:∀ {aR py:List Nat} {l r:List AV} {res:Bool},nL (aR++py) l r=some res->∃a b,nL aR (l.take aR.length) (r.take aR.length)=some a/\nL py (l.drop aR.length) (r.drop aR.length)=some b/\res=(a&&b)
 |[],py,l,r,res,h=>⟨true,res,rfl,by simpa using h,ay⟩
 |k::aR,py,l,r,res,h=>by
  rw[zf,leafEqs_cons] at h;split at h<;>try (cases h;done)
  rename_i x xs y ba;split at h<;>cases h;rename_i a b ha hb;obtain⟨cF,fq,h1,h2,rfl⟩:=YK hb;refine⟨a&&cF,fq,?_,h2,by rw[Bool.and_assoc]⟩;rw[fw,Xm,Xm,leafEqs_cons];simp only[ha,h1]
def Qv{d:Nat}{cs ds:List AV}{us bp:Array Value}{O:Nat->Prop}(hl:bQ w m O B cs us.toList)(ak:bQ w m O B ds bp.toList)(du:∀x∈cs,conf none x=true)(bE:∀x∈ds,conf none x=true):
  ∀(a6:List Field) (i:Nat) (aR:List Nat) (res:Bool),flatS P i a6=some aR->nL aR (cs.drop i) (ds.drop i)=some res->∀av,
  (forIn a6 ((none:Option Bool),()) (λ(f:Field) (_:Option Bool×Unit)=>
      if f.name= "_" then(pure (ForInStep.yield (none,())):Sem (ForInStep (Option Bool×Unit)))
      else do
       let a <-part f.type us f.offset
       let b <-part f.type bp f.offset
       let c <-Op.equalIn (d+2) f.type a b
       if c=false then pure (ForInStep.done (some false,())) else pure (ForInStep.yield (none,())))).run P av= .ok (if res then(none,()) else(some false,())) av
 |[],i,aR,res,aB,h,av=>by
  rw[flatS] at aB;cases aB;rw[leafEqs_nil] at h;split at h<;>cases h;simp
 |f::a6,i,aR,res,aB,h,av=>by
  rw[flatS] at aB;split at aB<;>try (cases aB;done)
  rename_i aa;obtain⟨h1,rfl⟩:=aa;split at aB
  ·rename_i k fC;split at aB<;>try (cases aB;done)
   rename_i al;obtain⟨v5,ps,rfl⟩:=fA.1 aB;rw[leafEqs_cons] at h;split at h<;>try (cases h;done)
   rename_i x xs y ba ex YL;split at h<;>cases h;rename_i a b ha hb;obtain⟨u,hu,kK⟩:=(hl.drop f.offset).get (i:=0) (v:=x) (by rw[ex];rfl);obtain⟨v,aq,q2⟩:=(ak.drop f.offset).get (i:=0) (v:=y) (by rw[YL];rfl);rw[ui,uh,nJ] at hu aq;obtain⟨aM,_⟩:=zB fC kK q2 ha;have aC:=Qv hl ak du bE a6 (f.offset+1) v5 b ps (by rw[<-pj,← pj,ex,YL];exact hb) av (d:=d);rw[JC];simp only[h1,if_false,e3,EV al hu,EV al aq,e8,aM];cases a with
   |false=>simp
   |true=>simpa using aC
  ·split at aB<;>try (cases aB;done)
   rename_i py Qw;split at aB<;>try (cases aB;done)
   rename_i al;obtain⟨v5,ps,rfl⟩:=fA.1 aB;obtain⟨a,b,ha,hb,rfl⟩:=YK h;obtain⟨bx,bz,_⟩:=me al av;have hx:∀ {cs:List AV} {us:Array Value},bQ w m O B cs us.toList->(part f.type us f.offset).run P av= .ok (.agg (us.extract f.offset (f.offset+py.length))) av/\bQ w m O B ((cs.drop f.offset).take py.length) (us.extract f.offset (f.offset+py.length)).toList:=λaa=>by
    refine⟨by simp[part,bx,bz,shN],?_⟩;have:=(aa.drop f.offset).take py.length;simpa using this
   obtain⟨p1,ik⟩:=hx hl;obtain⟨kL,kJ⟩:=hx ak;obtain⟨hF,hu,q6,hf,hm⟩:=J4 Qw;have aM:(Op.equalIn (d+2) f.type (.agg (us.extract f.offset (f.offset+py.length))) (.agg (bp.extract f.offset (f.offset+py.length)))).run P av= .ok a av:=by
    have:=forIn_eq (av:=av) (d:=d) hF.toList 0 py _ _ (us.extract f.offset (f.offset+py.length)) (bp.extract f.offset (f.offset+py.length)) a hf hm (by rw[BW];exact ik) (by rw[BW];exact kJ) ha;rw[eqStruct_run hu q6 (d+1),this];cases a<;>simp
   have aC:=Qv hl ak du bE a6 (f.offset+py.length) v5 b ps (by rw[<-pj,← pj];exact hb) av (d:=d);rw[JC];simp only[h1,if_false,e3,p1,kL,e8,aM];cases a with
   |false=>simp
   |true=>simpa using aC
def b1m{O:Nat->Prop}{t:TypeId}{kind:Nat}(aB:stK P t=some kind){x y:AV}{v:Bool}{a b:Value}(ha:R w m O B x a)(hb:R w m O B y b)(h:isNilEq kind x y=some v)(dL dV:Operand):
  (((do eqGuard .eql t dL dV a b;Go.binOp .eql t a b:Sem Value).run P w= .ok (.bool v) w/\(do eqGuard .neq t dL dV a b;Go.binOp .neq t a b:Sem Value).run P w= .ok (.bool (!v)) w)):=by
 unfold stK at aB;split at aB<;>try (cases aB;done)
 rename_i a6 hu;split at aB<;>try (cases aB;done)
 rename_i q6;have q6:P.stoodInHeld t=false:=by simpa using q6
 split at aB<;>try (cases aB;done)
 rename_i aR Qw;split at aB<;>cases aB;rename_i hd;obtain⟨hd,hg⟩:=hd;have key:keyEq (.inr aR) x y=some v:=by
  unfold isNilEq at h;split at h
  case h_12=>
   have e:Nat.ble 10 (10+JK aR)=true:=kE (PC _ _);rw[e,cond_true,Xn,hd] at h;exact h
  case h_13=>cases h
  all_goals (rename_i a_;first|(exfalso;omega)|(rename_i ju _;exfalso;omega)|(rename_i ju _ _;exfalso;omega))
 simp only[keyEq] at key;split at key<;>try (cases key;done)
 obtain⟨us,rfl,hl,du⟩:=ha.r6;obtain⟨bp,rfl,ak,bE⟩:=hb.r6;have he:(Op.equal t (.agg us) (.agg bp)).run P w= .ok v w:=by
  have b1n:∀d,(Op.equalIn (d+3) t (.agg us) (.agg bp)).run P w= .ok v w:=λd=>by
   have:=Qv (av:=w) (d:=d) hl ak du bE a6.toList 0 aR v Qw (by simpa using key);rw[eqStruct_run hu q6 (d+2),this];cases v<;>simp
  exact b1n 9997
 have h1:Go.binOp .eql t (.agg us) (.agg bp)=(do pure (.bool (←Op.equal t (.agg us) (.agg bp))):Sem Value):=rfl;have h2:Go.binOp .neq t (.agg us) (.agg bp)=(do pure (.bool (!(←Op.equal t (.agg us) (.agg bp)))):Sem Value):=rfl;have g:∀op,(eqGuard op t dL dV (.agg us) (.agg bp)).run P w= .ok () w:=λop=>by
  unfold eqGuard;cases op<;>simp[hg]
 constructor
 ·rw[h1];simp[e3,g,he]
 ·rw[h2];simp[e3,g,he]
def b1o(c:Ctx P env J w m B ao a){op:BinOp}{t:TypeId}{x y:Operand}{z:TypeId}(ho:o.op= .binOp op t x y z)(aa:cop P o=some cH)(h:opx f (evalA env ao) J cH=some (.val v ai)):fT P B f J w m v ai ((execOp a.eval o).run P w):=by
 simp only[cop,ho,eA,dZ] at aa;obtain⟨bW,hx,eN,hy,aa⟩:=aa;simp only[execOp,ho];have plain:cH= .bin op bW eN->fT P B f J w m v ai ((do pure (.value (←(do eqGuard op t x y (a.eval x) (a.eval y);Go.binOp op t (a.eval x) (a.eval y)))):Sem Next).run P w):=λe=>by
  subst e;simp only[opx] at h;split at h<;>try (cases h;done)
  rename_i p q an aS;split at h<;>cases h;rename_i aq;obtain⟨u,h1,h2,h3⟩:=ok_bin (P:=P) (t:=t) (c.ar hx an) (c.ar hy aS) aq;exact f_ c ⟨u,by rw[h3 x y];exact h1,h2⟩
 have YM:∀neg,P.underlying t=some .bool->op=(if neg then .neq else .eql)->cH= .BX neg bW eN->fT P B f J w m v ai ((do pure (.value (←(do eqGuard op t x y (a.eval x) (a.eval y);Go.binOp op t (a.eval x) (a.eval y)))):Sem Next).run P w):=λneg ht dS e=>by
  subst e;simp only[opx] at h;split at h<;>try (cases h;done)
  rename_i p q an aS;split at h<;>cases h;rename_i b aq;obtain⟨h1,h2⟩:=a9z ht (c.ar hx an) (c.ar hy aS) aq x y;cases neg with
  |false=>subst dS;exact f_ c ⟨_,h1,.b _⟩
  |true=>subst dS;exact f_ c ⟨_,h2,.b _⟩
 have uH:∀kind neg,X1 P t kind->op=(if neg then .neq else .eql)->cH= .nK kind neg bW eN->fT P B f J w m v ai ((do pure (.value (←(do eqGuard op t x y (a.eval x) (a.eval y);Go.binOp op t (a.eval x) (a.eval y)))):Sem Next).run P w):=λkind neg ht dS e=>by
  subst e;simp only[opx] at h;split at h<;>try (cases h;done)
  rename_i p q an aS;split at h<;>cases h;rename_i b aq;obtain⟨h1,h2⟩:=a9B ht (c.ar hx an) (c.ar hy aS) aq x y;cases neg with
  |false=>subst dS;exact f_ c ⟨_,h1,.b _⟩
  |true=>subst dS;exact f_ c ⟨_,h2,.b _⟩
 have strs:∀kind neg,stK P t=some kind->op=(if neg then .neq else .eql)->cH= .nK kind neg bW eN->fT P B f J w m v ai ((do pure (.value (←(do eqGuard op t x y (a.eval x) (a.eval y);Go.binOp op t (a.eval x) (a.eval y)))):Sem Next).run P w):=λkind neg ht dS e=>by
  subst e;simp only[opx] at h;split at h<;>try (cases h;done)
  rename_i p q an aS;split at h<;>cases h;rename_i b aq;obtain⟨h1,h2⟩:=b1m ht (c.ar hx an) (c.ar hy aS) aq x y;cases neg with
  |false=>subst dS;exact f_ c ⟨_,h1,.b _⟩
  |true=>subst dS;exact f_ c ⟨_,h2,.b _⟩
 split at aa
 case h_15=>obtain⟨k,aB,rfl⟩:=fA.1 aa;exact strs k false aB I I
 case h_16=>obtain⟨k,aB,rfl⟩:=fA.1 aa;exact strs k true aB I I
 case h_17=>cases aa
 all_goals cases aa
 ·exact plain I
 ·exact plain I
 ·rename_i ht;exact YM false ht I I
 ·rename_i ht;exact YM true ht I I
 ·rename_i ht;exact uH 0 false (.inl ⟨rfl,_,ht⟩) I I
 ·rename_i ht;exact uH 0 true (.inl ⟨rfl,_,ht⟩) I I
 ·rename_i ht;exact uH 1 false (.inr (.inl ⟨rfl,_,ht⟩)) I I
 ·rename_i ht;exact uH 1 true (.inr (.inl ⟨rfl,_,ht⟩)) I I
 ·rename_i ht;exact uH 2 false (.inr (.inr (.inl ⟨rfl,_,_,_,ht⟩))) I I
 ·rename_i ht;exact uH 2 true (.inr (.inr (.inl ⟨rfl,_,_,_,ht⟩))) I I
 ·rename_i ht;exact uH 3 false (.inr (.inr (.inr (.inl ⟨rfl,_,ht⟩)))) I I
 ·rename_i ht;exact uH 3 true (.inr (.inr (.inr (.inl ⟨rfl,_,ht⟩)))) I I
 ·rename_i ht;exact uH 4 false (.inr (.inr (.inr (.inr ⟨rfl,_,_,ht⟩)))) I I
 ·rename_i ht;exact uH 4 true (.inr (.inr (.inr (.inr ⟨rfl,_,_,ht⟩)))) I I
def YN{P:Program}{t:TypeId}(h:isU8 P t=true):P.underlying t=some (.int .u8):=by
 unfold isU8 at h;split at h
 ·assumption
 ·cases h
def b1p(c:Ctx P env J w m B ao a){s d:TypeId}{x:Operand}(ho:o.op= .convert s d x)(aa:cop P o=some cH)(h:opx f (evalA env ao) J cH=some (.val v ai)):fT P B f J w m v ai ((execOp a.eval o).run P w):=by
 simp only[cop,ho] at aa;simp only[execOp,ho];split at aa
 ·rename_i fh k al hd;simp only[fA] at aa;obtain⟨bW,hx,rfl⟩:=aa;simp only[opx] at h;split at h
  ·cases h;rename_i aq;exact f_ c ⟨_,a9V al hd (c.ar hx aq),.i _ _⟩
  ·rename_i aq;split at h<;>cases h;obtain⟨n,h1,h2⟩:=a9W al hd (c.ar hx aq);exact f_ c ⟨_,h1,h2⟩
  ·cases h
 ·rename_i e al hd;split at aa<;>try (cases aa;done)
  rename_i Qx;simp only[fA] at aa;obtain⟨bW,hx,rfl⟩:=aa;simp only[opx] at h;split at h<;>cases h;rename_i l aq;exact sf (b0M c.rel f al hd (YN Qx) (c.ar hx aq))
 ·rename_i e al hd;split at aa<;>try (cases aa;done)
  rename_i Qx;simp only[fA] at aa;obtain⟨bW,hx,rfl⟩:=aa;simp only[opx] at h;split at h<;>try (cases h;done)
  rename_i Ck aq;split at h<;>try (cases h;done)
  rename_i xs b1q;split at h<;>cases h;rename_i l hl;obtain⟨h1,h2⟩:=b0N c.rel al (YN Qx) hd (c.ar hx aq) b1q hl;exact f_ c ⟨_,h1,.s _ h2⟩
 ·cases aa
def b1r(c:Ctx P env J w m B ao a){t:TypeId}{x:Operand}(ho:o.op= .makeInterface t x)(aa:cop P o=some cH)(h:opx f (evalA env ao) J cH=some (.val v ai)):fT P B f J w m v ai ((execOp a.eval o).run P w):=by
 simp only[cop,ho] at aa;simp only[execOp,ho];split at aa<;>try (cases aa;done)
 rename_i d aY hd;simp only[fA] at aa;obtain⟨bW,hx,rfl⟩:=aa;simp only[opx] at h;split at h<;>cases h;rename_i aq;exact f_ c ⟨_,a9X hd (λms e=>aY ms e) _,.it (c.ar hx aq)⟩
def b1s(c:Ctx P env J w m B ao a){fn:Fn}{xs ba:Array Operand}(ho:o.op= .makeFunc fn xs ba)(aa:cop P o=some cH)(h:opx f (evalA env ao) J cH=some (.val v ai)):fT P B f J w m v ai ((execOp a.eval o).run P w):=by
 simp only[cop,ho] at aa;simp only[execOp,ho];split at aa<;>try (cases aa;done)
 rename_i g;simp only[eA,dZ,eM,cJ] at aa;obtain⟨bW,hx,eN,hy,rfl⟩:=aa;simp only[opx] at h;split at h<;>cases h;rename_i p q an aS;have h1:=EL c.rel.zH c.globs c.bk hx an;have h2:=EL c.rel.zH c.globs c.bk hy aS;have aM:=h1.1;have aU:=h2.1;simp at aM aU;refine f_ c ⟨_,rfl,.cC (by simpa using aM) (λi a b=>?_) (by simpa using aU) (λi a b=>?_)⟩
 ·have:=h1.2 i a (by simpa using b);simpa using this
 ·have:=h2.2 i a (by simpa using b);simpa using this
def b1t(c:Ctx P env J w m B ao a){t:TypeId}{r:Option Operand}(ho:o.op= .makeMap t r)(aa:cop P o=some cH)(h:opx f (evalA env ao) J cH=some (.val v ai)):fT P B f J w m v ai ((execOp a.eval o).run P w):=by
 simp only[cop,ho] at aa;simp only[execOp,ho];have key:(Instr.makeMap t (r.map a.eval)).run P w= .ok (.map (some w.heap.size)) {w with heap:=w.heap.push (.map #[] 0)}/\cH= .mkMap:=by
  split at aa<;>cases aa
  ·exact⟨by simp[Instr.makeMap],rfl⟩
  ·rename_i ht;exact⟨by simp[Instr.makeMap,run_underlying ht,Act.eval,asInt,asIntOf],rfl⟩
 obtain⟨key,rfl⟩:=key;simp only[opx] at h;cases h;obtain⟨h1,h2⟩:=c.rel.alloc f {w with heap:=w.heap.push (.map #[] 0)} (.map [] 0) (.map #[] 0) I I I I I (.map I (λi h=>by simp at h));exact sf ⟨_,_,_,key,.mp (iF _ _ _),h1,h2⟩
end
end
end Go.Lyc
end
